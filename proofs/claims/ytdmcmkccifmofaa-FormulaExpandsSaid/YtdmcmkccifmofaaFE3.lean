/- Contracts of the functions that the law FE reaches, and the law itself, for every input; no condition. -/
import Derived.KernelRfl
import Derived.Test.YtdmcmkccifmofaaProg
import Derived.Test.YtdmcmkccifmofaaRows
import Derived.Test.YtdmcmkccifmofaaFE2
set_option linter.unusedSimpArgs false
set_option linter.unusedVariables false
namespace Go.Proofs.Ytdmcmkccifmofaa
open Go Go.Proofs
attribute [local irreducible] mksV
theorem rests_pure_step (f:Fm) (t:Tr) (hf:okF f=true) (hz:f.sz≤4096) (ht:t.no.length=t.ni.length) (hn:t.ni.length≤1024) (ih: ∀ (g:Fm) (t:Tr),g.sz < f.sz→okF g=true→g.sz≤4096→t.no.length=t.ni.length→t.ni.length≤1024→PureC Try.prog 48 [(V.agg [(iV (g.op)),(iV (g.arg)),(V.sl (List.map cF (g.kids)))]),(V.agg [(ints t.ni),(ints t.no)])] (V.sl (List.map cB ((rst t g))))):PureC Try.prog 48 [(V.agg [(iV (f.op)),(iV (f.arg)),(V.sl (List.map cF (f.kids)))]),(V.agg [(ints t.ni),(ints t.no)])] (V.sl (List.map cB ((rst t f)))):=by
 refine pW Try.func48 s48_ok fun hB=>?_
 unfold s48
 dsimp only
 have hp:=okF_parts hf
 have hr:=rgt_ok hp.1
 have hln:=f.sz_len
 refine W_r (R_box (i:=2) (n:=0) (m:=3) (cs:=[(iV (f.op)),(iV (f.arg)),(V.sl (List.map cF (f.kids)))]) rfl (congrArg Blk.ver rfl) rfl rfl rfl (R_box (i:=3) (n:=0) (m:=2) (cs:=[(ints t.ni),(ints t.no)]) rfl (congrArg Blk.ver rfl) rfl rfl rfl (R_mv rfl (R_e (W_r (R_fk rfl rfl (R_lk rfl rfl rfl rfl ?_)))))))
 refine R_len rfl (R_mv rfl (R_e (W_r (R_lazy (i:=6) (n:=0) rfl (congrArg Blk.ver rfl) (R_e (W_seq_seq (W_r ?_)))))))
 refine R_fk rfl rfl (R_lk rfl rfl rfl rfl (R_len rfl (R_mv rfl (R_e (W_seq_blockg fun Q1 n1 x1 y1 z1=>?_)))))
 refine W_loop (fun mm T H=> ∃ (k:Nat) (v:Nat) (v8:Nat),mm=f.kids.length - k∧T 2=(V.mp 2 1 0 0)∧T 3=(V.mp 3 1 0 0)∧T 5=(iV ((t.ni.length:Nat):Int))∧T 6=(V.ms 6 v 0 (k))∧T 15=(V.sl (List.map cF (f.kids)))∧T 16=(iV ((f.kids.length:Nat):Int))∧T 17=(iV ((k:Nat):Int))∧H 2=(bk 1 24 3 [[(iV (f.op)),(iV (f.arg)),(V.sl (List.map cF (f.kids)))]])∧H 3=(bk 1 51 2 [[(ints t.ni),(ints t.no)]])∧H 6=(bz v 98 1 (List.map cBL ((f.kids.take k).map (rst t))))∧(H 8).ver=v8∧H 30=(⟨0,false,false,0,0,[]⟩:Blk)∧(k≤f.kids.length)) ?_ ?_
 ·
  refine ⟨_,0,1,0,rfl,rfl,rfl,rfl,rfl,rfl,rfl,(Eq.trans (@rfl V (iV (0:Int))) rfl),rfl,rfl,(Eq.trans (@rfl Blk (bz 1 98 1 [])) (by rfl)),(congrArg Blk.ver rfl),rfl,?_⟩
  · omega
 intro mm T H ⟨k,v,v8,hmm,t2,t3,t5,t6,t15,t16,t17,h2,h3,h6,h8,h30,hk⟩ Q2 p12 p22 p32
 unfold b48_0
 refine W_r (R_lss t17 t16 (R_e ?_))
 refine W_seq_if rfl (fun c3=>?_) fun c3=>?_
 ·
  refine W_seq_skip (W_seq_blockg fun Q4 n4 x4 y4 z4=>(W_r (R_idxu (i:=k) t15 t17 (by omega) (cF_eq _) rfl (R_load_pp rfl rfl (R_alloc (i:=8) (n:=v8) (m:=3) rfl h8 rfl (R_sk rfl rfl rfl rfl rfl rfl rfl rfl rfl (R_e ?_)))))))
  refine W_t (R_mv t6 (R_lk rfl rfl rfl rfl (R_lk t3 h3 rfl rfl (R_callk (ih (((nth (f.kids) (k)))) t (Fm.sz_kid (by omega)) (hp.2 _ (by omega)) (Nat.le_trans (Nat.le_of_lt (Fm.sz_kid (by omega))) hz) (by omega) (by omega)) rfl (R_bslice rfl rfl (R_append1 (l:=((f.kids.take k).map (rst t))) (f:=cBL) (x:=((rst t (((nth (f.kids) (k))))))) (@rfl V (V.ms 6 v 0 (k))) h6 (by (simp; omega)) (@rfl V (V.sl [[(V.sl (List.map cB ((rst t (((nth (f.kids) (k))))))))]])) rfl rfl (by omega) (by omega) (R_mv rfl ?_)))))))
  refine R_e (n4 _ _ (.done (W_t (R_addN t17 (@rfl V (iV ((1:Nat):Int))) (by omega) (R_mv rfl (R_e ?_))))))
  refine p12 _ _ _ ?_ ⟨(k+1),(v+1),(v8+1),rfl,t2,t3,t5,(Eq.trans (@rfl V (V.ms 6 (v+1) 0 (k+1))) (by rfl)),t15,t16,(Eq.trans (@rfl V (iV ((k+1:Nat):Int))) (by rfl)),h2,h3,(Eq.trans (@rfl Blk (bz (v+1) 98 1 (List.map cBL ((f.kids.take k).map (rst t)++[(rst t (((nth (f.kids) (k)))))])))) (by (rw [mapTake (by omega)]; done))),(congrArg Blk.ver rfl),h30,?_⟩
  · omega
  · omega
 refine W_seq_exit (p32 _ _ _ (x1 _ _ (.done (W_r (R_mv t5 (R_addN rfl (@rfl V (iV ((1:Nat):Int))) (by omega) (R_mksm (i:=30) (n:=0) (m:=(t.ni.length+1)) (q:=(t.ni.length+1)) (f:=cB) (x:=false) rfl (congrArg Blk.ver h30) (@rfl V (iV ((t.ni.length+1:Nat):Int))) (@rfl V (iV ((t.ni.length+1:Nat):Int))) rfl (by omega) (by omega) (by omega) ?_)))))))
 refine R_mv rfl (R_e (W_seq_seq (W_r (R_mv t5 (R_mv rfl (R_e (W_seq_blockg fun Q5 n5 x5 y5 z5=>?_)))))))
 refine W_loop (fun mm T H=> ∃ (i:Int) (v:Nat),mm=(i+1).toNat∧T 2=(V.mp 2 1 0 0)∧T 3=(V.mp 3 1 0 0)∧T 6=(V.ms 6 v 0 (f.kids.length))∧T 9=(V.ms 30 1 0 (t.ni.length+1))∧T 10=(iV (i))∧H 2=(bk 1 24 3 [[(iV (f.op)),(iV (f.arg)),(V.sl (List.map cF (f.kids)))]])∧H 3=(bk 1 51 2 [[(ints t.ni),(ints t.no)]])∧H 6=(bz v 98 1 (List.map cBL (f.kids.map (rst t))))∧(H 8).ver=v8∧H 30=(bk 1 4 1 (List.map cB (outL t f i)))∧(-1≤i∧i≤t.ni.length)) ?_ ?_
 ·
  refine ⟨_,((t.ni.length:Nat):Int),v,rfl,t2,t3,(Eq.trans t6 (by (rw [show k=f.kids.length by omega]; done))),rfl,(Eq.trans (@rfl V (iV ((t.ni.length:Nat):Int))) (by rfl)),h2,h3,(Eq.trans h6 (by (rw [show k=f.kids.length by omega,List.take_length]; done))),h8,(Eq.trans (@rfl Blk (bk 1 4 1 (List.map cB (List.replicate (t.ni.length+1) false)))) (by (rw [outL_start]; done))),?_⟩
  · omega
 intro mm T H ⟨i,v,hmm,t2,t3,t6,t9,t10,h2,h3,h6,h8,h30,hi⟩ Q6 p16 p26 p36
 unfold b48_1
 have hol:=outL_len t f i
 refine W_seq_seq (W_r (R_mv t10 (R_geq rfl rfl (R_e ?_))))
 refine W_seq_if rfl (fun c7=>?_) fun c7=>?_
 ·
  refine W_seq_skip (W_seq_blockg fun Q8 n8 x8 y8 z8=>(W_t (R_mv t9 (R_mv t10 (R_lk t2 h2 rfl rfl (R_lk t3 h3 rfl rfl (R_mv t6 ?_)))))))
  refine R_mv t9 (R_mv t10 (R_call (evcons (@rfl V (V.agg [(iV (f.op)),(iV (f.arg)),(V.sl (List.map cF (f.kids)))])) (evcons (@rfl V (V.agg [(ints t.ni),(ints t.no)])) (evcons (@rfl V (V.ms 6 v 0 (f.kids.length))) (evcons (@rfl V (V.ms 30 1 0 (t.ni.length+1))) (evcons (@rfl V (iV (i))) evnil))))) (satisfied_pure f t (f.kids.map (rst t)) (outL t f i) ((i)) hp.1 (by omega) (by omega) (by omega) (by omega) (by simp) (fun q hq=>by rw [nthM (by simpa using hq),rst_len]) (outL_len _ _ _)) (mcons (fzv_canon 6 _ (by simp [-List.map_take,-List.map_drop,-List.map_append,-List.map_reverse])) (mcons (fzv_canon 6 _ (by simp [-List.map_take,-List.map_drop,-List.map_append,-List.map_reverse])) (mcons (fz_mst h6 (by simp) (take_map (l:=(f.kids.map (rst t))) (by simp)) (fun _=>by simp)) (mcons (fz_mst h30 (by rfl) (take_map (l:=(outL t f i)) (by exact (outL_len _ _ _).symm)) (fun _=>by simp)) (mcons (fzv_canon 6 _ (by simp [-List.map_take,-List.map_drop,-List.map_append,-List.map_reverse])) rfl))))) (by simp [-List.map_take,-List.map_drop,-List.map_append,-List.map_reverse]) (Or.inr rfl) (R_idxI_ms0 (i:=(i)) (@rfl V (V.ms 30 1 0 (t.ni.length+1))) (@rfl V (iV (i))) h30 oB rfl (by omega) (by omega) (R_store (vs:=[(V.bool (satP t f (f.kids.map (rst t)) (outL t f i) ((i)).toNat))]) (B':=(bk 1 4 1 (List.map cB ((outL t f i).set (((i)).toNat) (satP t f (f.kids.map (rst t)) (outL t f i) ((i)).toNat))))) rfl rfl rfl h30 (stB_map (x:=(satP t f (f.kids.map (rst t)) (outL t f i) ((i)).toNat)) (i:=(((i)).toNat)) (by omega) rfl rfl rfl rfl) (R_e (n8 _ _ (.done ?_)))))))
  refine W_t (R_mv t10 (R_sub rfl rfl (by omega) (by omega) (R_mv rfl (R_e ?_))))
  refine p16 _ _ _ ?_ ⟨(i - 1),v,rfl,t2,t3,t6,t9,(Eq.trans (@rfl V (iV ((i) - (1:Int)))) (by rfl)),h2,h3,h6,h8,(Eq.trans (@rfl Blk (bk 1 4 1 (List.map cB ((outL t f i).set (((i)).toNat) (satP t f (f.kids.map (rst t)) (outL t f i) ((i)).toNat))))) (by (rw [outL_step hp.1 (by omega) (by omega)]; done))),?_⟩
  · omega
  · omega
 refine W_seq_exit (p36 _ _ _ (x5 _ _ (.done (W_r (R_mv t9 (R_mv rfl (R_e ?_)))))))
 refine W_ret ?_
 refine Ret_1 (@rfl V (V.ms 30 1 0 (t.ni.length+1))) (fz_ms h30 (by rfl) (l:=(outL t f i)) rfl (by exact (outL_len _ _ _).symm) (fun _=>by simp) ?_)
 · rw [show i= -1 by omega,outL_end]
theorem rests_pure (f:Fm) (t:Tr) (hf:okF f=true) (hz:f.sz≤4096) (ht:t.no.length=t.ni.length) (hn:t.ni.length≤1024):PureC Try.prog 48 [(V.agg [(iV (f.op)),(iV (f.arg)),(V.sl (List.map cF (f.kids)))]),(V.agg [(ints t.ni),(ints t.no)])] (V.sl (List.map cB ((rst t f)))):=by
  have key: ∀ (mm:Nat) (f:Fm) (t:Tr),f.sz < mm→okF f=true→f.sz≤4096→t.no.length=t.ni.length→t.ni.length≤1024→PureC Try.prog 48 [(V.agg [(iV (f.op)),(iV (f.arg)),(V.sl (List.map cF (f.kids)))]),(V.agg [(ints t.ni),(ints t.no)])] (V.sl (List.map cB ((rst t f)))):=by
    intro mm
    induction mm with
    |zero=>intro f t hlt; exact absurd hlt (Nat.not_lt_zero _)
    | succ mm ih =>
      intro f t hlt hf hz ht hn
      exact rests_pure_step f t hf hz ht hn fun f2 t2 hlt2=>ih f2 t2 (by omega)
  exact key (f.sz+1) f t (Nat.lt_succ_self _) hf hz ht hn
end Go.Proofs.Ytdmcmkccifmofaa
namespace Go.Proofs.Ytdmcmkccifmofaa
open Go Go.Proofs
theorem holds_pure (f:Fm) (t:Tr):PureC Try.prog 23 [(V.agg [(iV (f.op)),(iV (f.arg)),(V.sl (List.map cF (f.kids)))]),(V.agg [(ints t.ni),(ints t.no)])] (V.tup [(V.bool (hoB t f)),(iV (hoE t f))]):=by
 refine pW Try.func23 s23_ok fun hB=>?_
 unfold s23
 dsimp only
 refine W_r (R_box (i:=2) (n:=0) (m:=3) (cs:=[(iV (f.op)),(iV (f.arg)),(V.sl (List.map cF (f.kids)))]) rfl (congrArg Blk.ver rfl) rfl rfl rfl (R_box (i:=3) (n:=0) (m:=2) (cs:=[(ints t.ni),(ints t.no)]) rfl (congrArg Blk.ver rfl) rfl rfl rfl (R_mv rfl (R_mv rfl (R_e (W_seq_seq (W_r ?_)))))))
 refine R_lk rfl rfl rfl rfl (R_callk (fvalid_pure f) rfl (R_mv rfl (R_e (W_seq_seq (W_r (R_mv rfl (R_neq rfl rfl ?_)))))))
 refine R_e ?_
 refine W_seq_if rfl (fun c1=>?_) fun c1=>?_
 ·
  have h0:hoE t f=fval f:=if_pos c1
  have hb0:hoB t f=false:=by unfold hoB; rw [h0,decide_eq_false (by omega)]; rfl
  refine W_seq_seq (W_r (R_mv rfl (R_mv rfl (R_mv rfl (R_e (W_seq_ret ?_))))))
  refine Ret_2 (@rfl V (V.bool false)) (@rfl V (iV (fval f))) (fz_bool ?_) (fz_int ?_)
  · rw [hb0]
  · omega
 have h1:fval f=0:=by omega
 refine W_seq_skip (W_seq_blockg fun Q2 n2 x2 y2 z2=>(W_r (R_fk rfl rfl (R_lk rfl rfl rfl rfl (R_len rfl (R_gtr rfl rfl (R_mv rfl ?_)))))))
 refine R_e ?_
 refine W_if rfl (fun c3=>?_) fun c3=>?_
 ·
  have h0:hoE t f=3:=by unfold hoE; rw [if_neg (by omega),if_pos (by omega)]
  have hb0:hoB t f=false:=by unfold hoB; rw [h0]; rfl
  refine W_r (R_mv rfl (R_mv rfl (R_e (W_ret (y2 _ _ ?_)))))
  refine Ret_2 (@rfl V (V.bool false)) (@rfl V (iV (3:Int))) (fz_bool ?_) (fz_int ?_)
  · rw [hb0]
  · omega
 refine W_r (R_fk rfl rfl (R_lk rfl rfl rfl rfl (R_len rfl (R_fk rfl rfl (R_lk rfl rfl rfl rfl (R_len rfl (R_neq rfl rfl ?_)))))))
 refine R_mv rfl (R_e ?_)
 refine W_if rfl (fun c4=>?_) fun c4=>?_
 ·
  have h0:hoE t f=1:=by unfold hoE; rw [if_neg (by omega),if_neg (by omega),if_pos (by omega)]
  have hb0:hoB t f=false:=by unfold hoB; rw [h0]; rfl
  refine W_r (R_mv rfl (R_mv rfl (R_e (W_ret (y2 _ _ ?_)))))
  refine Ret_2 (@rfl V (V.bool false)) (@rfl V (iV (1:Int))) (fz_bool ?_) (fz_int ?_)
  · rw [hb0]
  · omega
 have h0:hoE t f=0:=by unfold hoE; rw [if_neg (by omega),if_neg (by omega),if_neg (by omega)]
 have hb0:hoB t f=nth (rst t f) 0:=by unfold hoB; rw [h0,rst_nth (Nat.zero_le _)]; rfl
 have hrl:=rst_len t f
 refine W_skip (n2 _ _ (.done (W_r (R_lk rfl rfl rfl rfl (R_lk rfl rfl rfl rfl (R_callk (rests_pure f t (fval_ok h1) (fval_sz h1) (by omega) (by omega)) rfl (R_idx (i:=0) (@rfl V (V.sl (List.map cB ((rst t f))))) (@rfl V (iV ((0:Nat):Int))) (by omega) rfl ?_)))))))
 refine R_load_pp rfl rfl (R_mv rfl (R_mv rfl (R_e (W_ret ?_))))
 refine Ret_2 (@rfl V (V.bool ((nth ((rst t f)) (0))))) (@rfl V (iV (0:Int))) (fz_bool ?_) (fz_int ?_)
 · rw [hb0]
 · omega
def s27:SF:=⟨11,[.cell 6 true 3],.seq (.reg [sO 6 (.alloc 24 [.int .i64 0,.int .i64 0,.nilsl])]) (.seq (.reg [qM 7 0,qM 8 1,qM 9 2,sO 10 (.build [.int .i64 0,.int .i64 0,.nilsl] [(0,1,.t 7),(1,1,.t 8),(2,1,.t 9)]),sN (.store 3 (.t 6) (.t 10))]) (.ret))⟩
theorem s27_ok:slimF Try.prog ⟨[31,36,37,38,40,41,42,44,45,59,60,61,65,66,67,71,72,73,81,82,84,92,93,98,99,102,104],[],[],[]⟩ Try.f27=some s27:=by kernel_rfl
theorem lnode_pure (o a:Int) (l:List Fm):PureC Try.prog 27 [(iV (o)),(iV (a)),(V.sl (List.map cF (l)))] (V.agg [(iV (o)),(iV (a)),(V.sl (List.map cF (l)))]):=by
 refine pW Try.func27 s27_ok fun hB=>?_
 unfold s27
 dsimp only
 refine W_r (R_alloc (i:=6) (n:=0) (m:=3) rfl (congrArg Blk.ver rfl) rfl (R_e (W_r (R_mv rfl (R_mv rfl (R_mv rfl (R_build rfl rfl ?_)))))))
 refine R_sk rfl rfl rfl rfl rfl rfl rfl rfl rfl (R_e (W_ret ?_))
 refine RetC_1 (resV_c (u:=(V.agg [(iV (o)),(iV (a)),(V.sl (List.map cF (l)))])) rfl (@rfl Blk (bk 1 24 3 [[(iV (o)),(iV (a)),(V.sl (List.map cF (l)))]])) (lB oB rfl rfl)) (fz_canon (by simp) rfl)
def s28:SF:=⟨6,[.cell 0 true 1,.cell 1 true 1],.seq (.reg [sO 0 (.alloc 37 [.nilsl]),sO 1 (.alloc 37 [.nilsl])]) (.seq (.reg [sO 2 (.bslice 9 1 false [.str []] 2 [(0,.c (.str [99,111,105,110])),(1,.c (.str [112,117,115,104]))]),sO 3 (.build [.nilsl] [(0,1,.t 2)]),sO 4 (.bslice 9 1 false [.str []] 3 [(0,.c (.str [110,111])),(1,.c (.str [111,107])),(2,.c (.str [116,117,114,110]))]),sO 5 (.build [.nilsl] [(0,1,.t 4)]),sN (.store 1 (.t 0) (.t 3)),sN (.store 1 (.t 1) (.t 5))]) (.ret))⟩
theorem s28_ok:slimF Try.prog ⟨[31,36,37,38,40,41,42,44,45,59,60,61,65,66,67,71,72,73,81,82,84,92,93,98,99,102,104],[],[],[]⟩ Try.f28=some s28:=by kernel_rfl
theorem lnames_pure:PureC Try.prog 28 [] (V.tup [(V.agg [(V.sl (List.map cS ([[99,111,105,110],[112,117,115,104]])))]),(V.agg [(V.sl (List.map cS ([[110,111],[111,107],[116,117,114,110]])))])]):=by
 refine pW Try.func28 s28_ok fun hB=>?_
 unfold s28
 dsimp only
 refine W_r (R_alloc (i:=0) (n:=0) (m:=1) rfl (congrArg Blk.ver rfl) rfl (R_alloc (i:=1) (n:=0) (m:=1) rfl (congrArg Blk.ver rfl) rfl (R_e (W_r (R_bslice rfl rfl (R_build rfl rfl (R_bslice rfl rfl ?_)))))))
 refine R_build rfl rfl (R_sk rfl rfl rfl rfl rfl rfl rfl rfl rfl (R_sk rfl rfl rfl rfl rfl rfl rfl rfl rfl (R_e (W_ret ?_))))
 refine RetC_2 (resV_c (u:=(V.agg [(V.sl [[(V.str ([99,111,105,110]))],[(V.str ([112,117,115,104]))]])])) rfl (@rfl Blk (bk 1 37 1 [[(V.sl [[(V.str ([99,111,105,110]))],[(V.str ([112,117,115,104]))]])]])) (lB oB rfl rfl)) (resV_c (u:=(V.agg [(V.sl [[(V.str ([110,111]))],[(V.str ([111,107]))],[(V.str ([116,117,114,110]))]])])) rfl (@rfl Blk (bk 1 37 1 [[(V.sl [[(V.str ([110,111]))],[(V.str ([111,107]))],[(V.str ([116,117,114,110]))]])]])) (lB oB rfl rfl)) (fz_agg1 (fz_canon (by simp) ?_)) (fz_agg1 (fz_canon (by simp) ?_))
 · first|rfl|omega|simp_all
 · first|rfl|omega|simp_all
end Go.Proofs.Ytdmcmkccifmofaa
namespace Go.Proofs.Ytdmcmkccifmofaa
open Go Go.Proofs
set_option maxRecDepth 20000
theorem aw_p1:PureC Try.prog 19 [(V.agg [(V.sl (List.map cS ([[99,111,105,110],[112,117,115,104]])))]),(V.agg [(V.sl (List.map cS ([[110,111],[111,107],[116,117,114,110]])))]),(V.str ([71,32,40,105,110,58,99,111,105,110,32,45,62,32,111,117,116,58,111,107,41]))] (V.tup [(V.agg [(iV (10:Int)),(iV (0:Int)),(V.sl (List.map cF ([Fm.nd 4 0 [Fm.nd 1 0 []],Fm.nd 6 0 [Fm.nd 4 0 [Fm.nd 2 0 []],Fm.nd 3 1 []]])))]),(iV (0:Int)),(iV (0:Int))]):=by
  have h:=prs_pure [[99,111,105,110],[112,117,115,104]] [[110,111],[111,107],[116,117,114,110]] [71,32,40,105,110,58,99,111,105,110,32,45,62,32,111,117,116,58,111,107,41] (by decide+kernel) (by decide+kernel)
  rw [show prs [[99,111,105,110],[112,117,115,104]] [[110,111],[111,107],[116,117,114,110]] [71,32,40,105,110,58,99,111,105,110,32,45,62,32,111,117,116,58,111,107,41]=((Fm.nd 10 0 [Fm.nd 4 0 [Fm.nd 1 0 []],Fm.nd 6 0 [Fm.nd 4 0 [Fm.nd 2 0 []],Fm.nd 3 1 []]]),0,0) from by kernel_rfl] at h
  exact h
theorem aw_p2:PureC Try.prog 19 [(V.agg [(V.sl (List.map cS ([[99,111,105,110],[112,117,115,104]])))]),(V.agg [(V.sl (List.map cS ([[110,111],[111,107],[116,117,114,110]])))]),(V.str ([105,110,58,99,111,105,110,32,85]))] (V.tup [(V.agg [(iV (0:Int)),(iV (0:Int)),(V.sl (List.map cF ([])))]),(iV (9:Int)),(iV (5:Int))]):=by
  have h:=prs_pure [[99,111,105,110],[112,117,115,104]] [[110,111],[111,107],[116,117,114,110]] [105,110,58,99,111,105,110,32,85] (by decide+kernel) (by decide+kernel)
  rw [show prs [[99,111,105,110],[112,117,115,104]] [[110,111],[111,107],[116,117,114,110]] [105,110,58,99,111,105,110,32,85]=(Fm.nd 0 0 [],9,5) from by kernel_rfl] at h
  exact h
theorem aw_p3:PureC Try.prog 19 [(V.agg [(V.sl (List.map cS ([[99,111,105,110],[112,117,115,104]])))]),(V.agg [(V.sl (List.map cS ([[110,111],[111,107],[116,117,114,110]])))]),(V.str ([105,110,58,107,105,99,107]))] (V.tup [(V.agg [(iV (0:Int)),(iV (0:Int)),(V.sl (List.map cF ([])))]),(iV (0:Int)),(iV (8:Int))]):=by
  have h:=prs_pure [[99,111,105,110],[112,117,115,104]] [[110,111],[111,107],[116,117,114,110]] [105,110,58,107,105,99,107] (by decide+kernel) (by decide+kernel)
  rw [show prs [[99,111,105,110],[112,117,115,104]] [[110,111],[111,107],[116,117,114,110]] [105,110,58,107,105,99,107]=(Fm.nd 0 0 [],0,8) from by kernel_rfl] at h
  exact h
theorem aw_s1:PureC Try.prog 21 [(V.agg [(V.sl (List.map cS ([[99,111,105,110],[112,117,115,104]])))]),(V.agg [(V.sl (List.map cS ([[110,111],[111,107],[116,117,114,110]])))]),(V.agg [(iV (10:Int)),(iV (0:Int)),(V.sl (List.map cF ([Fm.nd 4 0 [Fm.nd 1 0 []],Fm.nd 6 0 [Fm.nd 4 0 [Fm.nd 2 0 []],Fm.nd 3 1 []]])))])] (V.tup [(V.str (([33,116,114,117,101,32,82,32,40,33,105,110,58,99,111,105,110,32,124,32,111,117,116,58,111,107,41]:List UInt8))),(iV (0:Int))]):=by
  have h:=show_pure [[99,111,105,110],[112,117,115,104]] [[110,111],[111,107],[116,117,114,110]] (Fm.nd 10 0 [Fm.nd 4 0 [Fm.nd 1 0 []],Fm.nd 6 0 [Fm.nd 4 0 [Fm.nd 2 0 []],Fm.nd 3 1 []]]) (by decide+kernel) (by decide+kernel)
  rw [show shwT [[99,111,105,110],[112,117,115,104]] [[110,111],[111,107],[116,117,114,110]] (Fm.nd 10 0 [Fm.nd 4 0 [Fm.nd 1 0 []],Fm.nd 6 0 [Fm.nd 4 0 [Fm.nd 2 0 []],Fm.nd 3 1 []]])=([33,116,114,117,101,32,82,32,40,33,105,110,58,99,111,105,110,32,124,32,111,117,116,58,111,107,41],0) from by kernel_rfl] at h
  exact h
theorem aw_h1:PureC Try.prog 23 [(V.agg [(iV (10:Int)),(iV (0:Int)),(V.sl (List.map cF ([Fm.nd 4 0 [Fm.nd 1 0 []],Fm.nd 6 0 [Fm.nd 4 0 [Fm.nd 2 0 []],Fm.nd 3 1 []]])))]),V.agg [ints [0,1],ints [1,0]]] (V.tup [(V.bool true),(iV (0:Int))]):=by
  have h:=holds_pure (Fm.nd 10 0 [Fm.nd 4 0 [Fm.nd 1 0 []],Fm.nd 6 0 [Fm.nd 4 0 [Fm.nd 2 0 []],Fm.nd 3 1 []]]) (⟨[0,1],[1,0]⟩:Tr)
  rw [show hoB (⟨[0,1],[1,0]⟩:Tr) (Fm.nd 10 0 [Fm.nd 4 0 [Fm.nd 1 0 []],Fm.nd 6 0 [Fm.nd 4 0 [Fm.nd 2 0 []],Fm.nd 3 1 []]])=true from by kernel_rfl,show hoE (⟨[0,1],[1,0]⟩:Tr) (Fm.nd 10 0 [Fm.nd 4 0 [Fm.nd 1 0 []],Fm.nd 6 0 [Fm.nd 4 0 [Fm.nd 2 0 []],Fm.nd 3 1 []]])=0 from by kernel_rfl] at h
  exact h
theorem aw_h2:PureC Try.prog 23 [(V.agg [(iV (10:Int)),(iV (0:Int)),(V.sl (List.map cF ([Fm.nd 4 0 [Fm.nd 1 0 []],Fm.nd 6 0 [Fm.nd 4 0 [Fm.nd 2 0 []],Fm.nd 3 1 []]])))]),V.agg [ints [0],ints [0]]] (V.tup [(V.bool false),(iV (0:Int))]):=by
  have h:=holds_pure (Fm.nd 10 0 [Fm.nd 4 0 [Fm.nd 1 0 []],Fm.nd 6 0 [Fm.nd 4 0 [Fm.nd 2 0 []],Fm.nd 3 1 []]]) (⟨[0],[0]⟩:Tr)
  rw [show hoB (⟨[0],[0]⟩:Tr) (Fm.nd 10 0 [Fm.nd 4 0 [Fm.nd 1 0 []],Fm.nd 6 0 [Fm.nd 4 0 [Fm.nd 2 0 []],Fm.nd 3 1 []]])=false from by kernel_rfl,show hoE (⟨[0],[0]⟩:Tr) (Fm.nd 10 0 [Fm.nd 4 0 [Fm.nd 1 0 []],Fm.nd 6 0 [Fm.nd 4 0 [Fm.nd 2 0 []],Fm.nd 3 1 []]])=0 from by kernel_rfl] at h
  exact h
theorem aw_h3:PureC Try.prog 23 [(V.agg [(iV (10:Int)),(iV (0:Int)),(V.sl (List.map cF ([Fm.nd 4 0 [Fm.nd 1 0 []],Fm.nd 6 0 [Fm.nd 4 0 [Fm.nd 2 0 []],Fm.nd 3 1 []]])))]),V.agg [ints [],ints []]] (V.tup [(V.bool true),(iV (0:Int))]):=by
  have h:=holds_pure (Fm.nd 10 0 [Fm.nd 4 0 [Fm.nd 1 0 []],Fm.nd 6 0 [Fm.nd 4 0 [Fm.nd 2 0 []],Fm.nd 3 1 []]]) (⟨[],[]⟩:Tr)
  rw [show hoB (⟨[],[]⟩:Tr) (Fm.nd 10 0 [Fm.nd 4 0 [Fm.nd 1 0 []],Fm.nd 6 0 [Fm.nd 4 0 [Fm.nd 2 0 []],Fm.nd 3 1 []]])=true from by kernel_rfl,show hoE (⟨[],[]⟩:Tr) (Fm.nd 10 0 [Fm.nd 4 0 [Fm.nd 1 0 []],Fm.nd 6 0 [Fm.nd 4 0 [Fm.nd 2 0 []],Fm.nd 3 1 []]])=0 from by kernel_rfl] at h
  exact h
theorem aw_n1:PureC Try.prog 12 [(V.agg [(iV (7:Int)),(iV (0:Int)),(V.sl (List.map cF ([Fm.nd 2 0 []])))])] (V.tup [(V.agg [(iV (9:Int)),(iV (0:Int)),(V.sl (List.map cF ([Fm.nd 4 0 [Fm.nd 2 0 []]])))]),(iV (0:Int))]):=by
  have h:=negate_pure (Fm.nd 7 0 [Fm.nd 2 0 []])
  rw [show ngF (Fm.nd 7 0 [Fm.nd 2 0 []])=Fm.nd 9 0 [Fm.nd 4 0 [Fm.nd 2 0 []]] from by kernel_rfl,show ngE (Fm.nd 7 0 [Fm.nd 2 0 []])=0 from by kernel_rfl] at h
  exact h
abbrev w11_14:=(Fm.nd (2:Int) (0:Int) [])
abbrev w11_16:=(Fm.nd (4:Int) (0:Int) [w11_14])
abbrev w11_1:=([(Fm.nd (4:Int) (0:Int) [(Fm.nd (1:Int) (0:Int) [])]),(Fm.nd (6:Int) (0:Int) [w11_16,(Fm.nd (3:Int) (1:Int) [])])])
abbrev w11_6:=(sameF (⟨((10:Int)),((0:Int)),([Fm.nd 4 0 [Fm.nd 1 0 []],Fm.nd 6 0 [Fm.nd 4 0 [Fm.nd 2 0 []],Fm.nd 3 1 []]])⟩:Fm) (⟨((((10:Int)))),((((0:Int)))),(w11_1)⟩:Fm))
abbrev w11_17:=((((w11_6&&w11_6))&&decide ((0:Int)=(0:Int))))
abbrev w11_0:=((((w11_17&&decide ((0:Int)=(0:Int))))&&decide (([33,116,114,117,101,32,82,32,40,33,105,110,58,99,111,105,110,32,124,32,111,117,116,58,111,107,41]:List UInt8)=[33,116,114,117,101,32,82,32,40,33,105,110,58,99,111,105,110,32,124,32,111,117,116,58,111,107,41])))
abbrev w11_11:=((((((w11_0&&decide ((0:Int)=(0:Int))))||false))&&decide ((0:Int)=(0:Int))))
abbrev w11_15:=((((w11_11||false))&&decide ((0:Int)=(0:Int))))
abbrev w11_2:=((((((w11_15||false))&&decide ((0:Int)=(0:Int))))&&(sameF (⟨((9:Int)),((0:Int)),([Fm.nd 4 0 [Fm.nd 2 0 []]])⟩:Fm) (⟨((((9:Int)))),((((0:Int)))),(([w11_16]))⟩:Fm))))
abbrev w11_3:=(bk 1 24 3 [[(iV (10:Int)),(iV (0:Int)),(V.sl (List.map cF ([Fm.nd 4 0 [Fm.nd 1 0 []],Fm.nd 6 0 [Fm.nd 4 0 [Fm.nd 2 0 []],Fm.nd 3 1 []]])))]])
abbrev w11_4:=(bk 1 24 3 [[(iV (0:Int)),(iV (0:Int)),(V.sl (List.map cF ([])))]])
abbrev w11_5:=(bk 1 24 3 [[(iV (((4:Int)))),(iV (((0:Int)))),(V.sl (List.map cF (([(Fm.nd (1:Int) (0:Int) [])]))))]])
abbrev w11_7:=(bk 1 24 3 [[(iV (9:Int)),(iV (0:Int)),(V.sl (List.map cF ([Fm.nd 4 0 [Fm.nd 2 0 []]])))]])
abbrev w11_8:=(bk 1 37 1 [[(V.sl (List.map cS ([[110,111],[111,107],[116,117,114,110]])))]])
abbrev w11_9:=(bk 1 24 3 [[(iV (((10:Int)))),(iV (((0:Int)))),(V.sl (List.map cF (w11_1)))]])
abbrev w11_10:=(bk 1 37 1 [[(V.sl (List.map cS ([[99,111,105,110],[112,117,115,104]])))]])
abbrev w11_12:=(([33,116,114,117,101,32,82,32,40,33,105,110,58,99,111,105,110,32,124,32,111,117,116,58,111,107,41]:List UInt8))
abbrev w11_13:=((((((w11_2&&decide ((0:Int)=(0:Int))))&&decide ((9:Int)=(9:Int))))&&decide ((5:Int)=(5:Int))))
theorem aw45_pure:PureC Try.prog 11 [] (V.bool true):=by
 refine pW Try.func11 s11_ok fun hB=>?_
 unfold s11
 dsimp only
 refine W_r (R_mv rfl (R_e (W_r (R_callk (lnames_pure) rfl (R_mv rfl (R_ext rfl rfl (R_ext rfl rfl ?_)))))))
 refine R_alloc (i:=1) (n:=0) (m:=1) rfl (congrArg Blk.ver rfl) rfl (R_alloc (i:=2) (n:=0) (m:=1) rfl (congrArg Blk.ver rfl) rfl (R_sk rfl rfl rfl rfl rfl rfl rfl rfl rfl (R_sk rfl rfl rfl rfl rfl rfl rfl rfl rfl (R_e (W_r (R_call (evcons (@rfl V (iV (1:Int))) (evcons (@rfl V (iV (0:Int))) (evcons (@rfl V V.nilsl) evnil))) (lnode_pure ((1:Int)) ((0:Int)) ([])) (mcons (fzv_canon 6 _ (by simp [-List.map_take,-List.map_drop,-List.map_append,-List.map_reverse])) (mcons (fzv_canon 6 _ (by simp [-List.map_take,-List.map_drop,-List.map_append,-List.map_reverse])) (mcons (by rfl) rfl))) (by simp [-List.map_take,-List.map_drop,-List.map_append,-List.map_reverse]) (Or.inl (by simp [-List.map_take,-List.map_drop,-List.map_append,-List.map_reverse])) (R_bslice rfl rfl ?_)))))))
 refine R_callk (lnode_pure ((4:Int)) ((0:Int)) ([(Fm.nd (1:Int) (0:Int) [])])) (evcons rfl (evcons rfl (evcons (sl_F1 (x:=((Fm.nd (1:Int) (0:Int) []))) rfl) evnil))) (R_alloc (i:=3) (n:=0) (m:=3) rfl (congrArg Blk.ver rfl) rfl (R_sk rfl rfl rfl rfl rfl rfl rfl rfl rfl (R_e (W_d (by exact (lateC rfl lateN)) (R_lk rfl rfl rfl rfl (R_call (evcons (@rfl V (iV (2:Int))) (evcons (@rfl V (iV (0:Int))) (evcons (@rfl V V.nilsl) evnil))) (lnode_pure ((2:Int)) ((0:Int)) ([])) (mcons (fzv_canon 6 _ (by simp [-List.map_take,-List.map_drop,-List.map_append,-List.map_reverse])) (mcons (fzv_canon 6 _ (by simp [-List.map_take,-List.map_drop,-List.map_append,-List.map_reverse])) (mcons (by rfl) rfl))) (by simp [-List.map_take,-List.map_drop,-List.map_append,-List.map_reverse]) (Or.inl (by simp [-List.map_take,-List.map_drop,-List.map_append,-List.map_reverse])) (R_bslice rfl rfl ?_)))))))
 refine R_callk (lnode_pure ((4:Int)) ((0:Int)) ([w11_14])) (evcons rfl (evcons rfl (evcons (sl_F1 (x:=(w11_14)) rfl) evnil))) (R_call (evcons (@rfl V (iV (3:Int))) (evcons (@rfl V (iV (1:Int))) (evcons (@rfl V V.nilsl) evnil))) (lnode_pure ((3:Int)) ((1:Int)) ([])) (mcons (fzv_canon 6 _ (by simp [-List.map_take,-List.map_drop,-List.map_append,-List.map_reverse])) (mcons (fzv_canon 6 _ (by simp [-List.map_take,-List.map_drop,-List.map_append,-List.map_reverse])) (mcons (by rfl) rfl))) (by simp [-List.map_take,-List.map_drop,-List.map_append,-List.map_reverse]) (Or.inl (by simp [-List.map_take,-List.map_drop,-List.map_append,-List.map_reverse])) (R_bslice rfl rfl (R_callk (lnode_pure ((6:Int)) ((0:Int)) ([w11_16,(Fm.nd (3:Int) (1:Int) [])])) (evcons rfl (evcons rfl (evcons (sl_F2 (x:=(w11_16)) (y:=((Fm.nd (3:Int) (1:Int) []))) rfl) evnil))) (R_bslice rfl rfl (R_callk (lnode_pure ((10:Int)) ((0:Int)) w11_1) (evcons rfl (evcons rfl (evcons (sl_F2 (x:=((Fm.nd (4:Int) (0:Int) [(Fm.nd (1:Int) (0:Int) [])]))) (y:=((Fm.nd (6:Int) (0:Int) [w11_16,(Fm.nd (3:Int) (1:Int) [])]))) rfl) evnil))) (R_alloc (i:=4) (n:=0) (m:=3) rfl (congrArg Blk.ver rfl) rfl (R_sk rfl rfl rfl rfl rfl rfl rfl rfl rfl ?_)))))))
 refine R_e (W_r (R_lk rfl rfl rfl rfl (R_lk rfl rfl rfl rfl (R_callk (aw_p1) rfl (R_mv rfl (R_ext rfl rfl (R_ext rfl rfl ?_)))))))
 refine R_ext rfl rfl (R_alloc (i:=5) (n:=0) (m:=3) rfl (congrArg Blk.ver rfl) rfl (R_sk rfl rfl rfl rfl rfl rfl rfl rfl rfl (R_mv rfl (R_mv rfl (R_e ?_)))))
 refine W_seq_regc (fun T H=>T 1=(V.mp 1 1 0 0)∧T 2=(V.mp 2 1 0 0)∧T 4=(V.mp 4 1 0 0)∧T 5=(V.mp 5 1 0 0)∧T 6=(iV (0:Int))∧T 7=(iV (0:Int))∧T 8=(V.str w11_12)∧T 9=(iV (0:Int))∧H 1=w11_10∧H 2=w11_8∧H 3=w11_5∧H 4=w11_9∧H 5=w11_3∧H 16=(⟨0,false,false,0,0,[]⟩:Blk)∧H 18=(⟨0,false,false,0,0,[]⟩:Blk)∧H 21=(⟨0,false,false,0,0,[]⟩:Blk)∧True) ?_ ?_
 ·
  refine R_lk rfl rfl rfl rfl (R_lk rfl rfl rfl rfl (R_lk rfl rfl rfl rfl (R_callk (aw_s1) rfl (R_mv rfl (R_ext rfl rfl (R_ext rfl rfl (R_mv rfl ?_)))))))
  refine R_mv rfl ?_
  exact R_nil ⟨rfl,rfl,rfl,rfl,rfl,rfl,rfl,rfl,rfl,rfl,rfl,rfl,rfl,rfl,rfl,rfl,trivial⟩
 intro T H ⟨t1,t2,t4,t5,t6,t7,t8,t9,h1,h2,h3,h4,h5,h16,h18,h21,_⟩
 refine W_r (R_lk t4 h4 rfl rfl (R_bslice rfl rfl (R_bslice rfl rfl (R_build rfl rfl (R_callk (aw_h1) rfl (R_mv rfl (R_ext rfl rfl ?_)))))))
 refine R_ext rfl rfl (R_mv rfl (R_mv rfl (R_e (W_r (R_lk t4 h4 rfl rfl (R_bslice rfl rfl (R_bslice rfl rfl ?_)))))))
 refine R_build rfl rfl (R_callk (aw_h2) rfl (R_mv rfl (R_ext rfl rfl (R_ext rfl rfl (R_mv rfl (R_mv rfl (R_e ?_)))))))
 refine W_r (R_lk t4 h4 rfl rfl (R_build rfl rfl (R_call (evcons (@rfl V (V.agg [(iV (((10:Int)))),(iV (((0:Int)))),(V.sl (List.map cF (w11_1)))])) (evcons (@rfl V (V.agg [V.nilsl,V.nilsl])) evnil)) (aw_h3) (mcons (fzv_canon 6 _ (by simp [-List.map_take,-List.map_drop,-List.map_append,-List.map_reverse])) (mcons (by rfl) rfl)) (by simp [-List.map_take,-List.map_drop,-List.map_append,-List.map_reverse]) (Or.inl (by simp [-List.map_take,-List.map_drop,-List.map_append,-List.map_reverse])) (R_mv rfl (R_ext rfl rfl (R_ext rfl rfl (R_mv rfl ?_)))))))
 refine R_mv rfl (R_e (W_r (R_call (evcons (@rfl V (iV (2:Int))) (evcons (@rfl V (iV (0:Int))) (evcons (@rfl V V.nilsl) evnil))) (lnode_pure ((2:Int)) ((0:Int)) ([])) (mcons (fzv_canon 6 _ (by simp [-List.map_take,-List.map_drop,-List.map_append,-List.map_reverse])) (mcons (fzv_canon 6 _ (by simp [-List.map_take,-List.map_drop,-List.map_append,-List.map_reverse])) (mcons (by rfl) rfl))) (by simp [-List.map_take,-List.map_drop,-List.map_append,-List.map_reverse]) (Or.inl (by simp [-List.map_take,-List.map_drop,-List.map_append,-List.map_reverse])) (R_bslice rfl rfl (R_callk (lnode_pure ((7:Int)) ((0:Int)) ([w11_14])) (evcons rfl (evcons rfl (evcons (sl_F1 (x:=(w11_14)) rfl) evnil))) (R_callk (aw_n1) rfl (R_mv rfl ?_)))))))
 refine R_ext rfl rfl (R_ext rfl rfl (R_alloc (i:=16) (n:=0) (m:=3) rfl (congrArg Blk.ver h16) rfl (R_sk rfl rfl rfl rfl rfl rfl rfl rfl rfl (R_mv rfl (R_e ?_)))))
 refine W_seq_regc (fun T H=>T 1=(V.mp 1 1 0 0)∧T 2=(V.mp 2 1 0 0)∧T 4=(V.mp 4 1 0 0)∧T 5=(V.mp 5 1 0 0)∧T 6=(iV (0:Int))∧T 7=(iV (0:Int))∧T 8=(V.str w11_12)∧T 9=(iV (0:Int))∧T 10=(V.bool true)∧T 11=(iV (0:Int))∧T 12=(V.bool false)∧T 13=(iV (0:Int))∧T 14=(V.bool true)∧T 15=(iV (0:Int))∧T 16=(V.mp 16 1 0 0)∧T 17=(iV (0:Int))∧T 19=(iV (9:Int))∧T 20=(iV (5:Int))∧H 1=w11_10∧H 2=w11_8∧H 3=w11_5∧H 4=w11_9∧H 5=w11_3∧H 16=w11_7∧H 18=w11_4∧H 21=(⟨0,false,false,0,0,[]⟩:Blk)∧True) ?_ ?_
 ·
  refine R_lk t1 h1 rfl rfl (R_lk t2 h2 rfl rfl (R_callk (aw_p2) rfl (R_mv rfl (R_ext rfl rfl (R_ext rfl rfl (R_ext rfl rfl (R_alloc (i:=18) (n:=0) (m:=3) rfl (congrArg Blk.ver h18) rfl ?_)))))))
  refine R_sk rfl rfl rfl rfl rfl rfl rfl rfl rfl (R_mv rfl (R_mv rfl ?_))
  exact R_nil ⟨t1,t2,t4,t5,t6,t7,t8,t9,rfl,rfl,rfl,rfl,rfl,rfl,rfl,rfl,rfl,rfl,h1,h2,h3,h4,h5,rfl,rfl,h21,trivial⟩
 intro T H ⟨t1,t2,t4,t5,t6,t7,t8,t9,t10,t11,t12,t13,t14,t15,t16,t17,t19,t20,h1,h2,h3,h4,h5,h16,h18,h21,_⟩
 refine W_r (R_lk t1 h1 rfl rfl (R_lk t2 h2 rfl rfl (R_callk (aw_p3) rfl (R_mv rfl (R_ext rfl rfl (R_ext rfl rfl (R_ext rfl rfl ?_)))))))
 refine R_alloc (i:=21) (n:=0) (m:=3) rfl (congrArg Blk.ver h21) rfl (R_sk rfl rfl rfl rfl rfl rfl rfl rfl rfl (R_mv rfl (R_mv rfl (R_e ?_))))
 refine W_seq_regc (fun T H=>T 0=(V.bool ((((w11_13&&decide ((0:Int)=(0:Int))))&&decide ((8:Int)=(8:Int)))))∧H 1=w11_10∧H 2=w11_8∧H 3=w11_5∧H 4=w11_9∧H 5=w11_3∧H 16=w11_7∧H 18=w11_4∧H 21=w11_4∧True) ?_ ?_
 ·
  refine R_lk t5 h5 rfl rfl (R_lk t4 h4 rfl rfl (R_callk (fsame_pure (⟨((10:Int)),((0:Int)),([Fm.nd 4 0 [Fm.nd 1 0 []],Fm.nd 6 0 [Fm.nd 4 0 [Fm.nd 2 0 []],Fm.nd 3 1 []]])⟩:Fm) (⟨((((10:Int)))),((((0:Int)))),(w11_1)⟩:Fm)) rfl (R_mv rfl ?_)))
  refine Ops_seg 4 (fun T H=>T 6=(iV (0:Int))∧T 7=(iV (0:Int))∧T 8=(V.str w11_12)∧T 9=(iV (0:Int))∧T 10=(V.bool true)∧T 11=(iV (0:Int))∧T 12=(V.bool false)∧T 13=(iV (0:Int))∧T 14=(V.bool true)∧T 15=(iV (0:Int))∧T 16=(V.mp 16 1 0 0)∧T 17=(iV (0:Int))∧T 19=(iV (9:Int))∧T 20=(iV (5:Int))∧T 22=(iV (0:Int))∧T 23=(iV (8:Int))∧T 104=(V.bool ((w11_6&&w11_6)))∧H 1=w11_10∧H 2=w11_8∧H 3=w11_5∧H 4=w11_9∧H 5=w11_3∧H 16=w11_7∧H 18=w11_4∧H 21=w11_4∧True) ?_ ?_
  ·
   by_cases g1:w11_6=true
   ·
    refine G_yes (ebT g1 rfl) (R_lk t5 h5 rfl rfl (G_yes (ebT g1 rfl) (R_lk t4 h4 rfl rfl (G_yes (ebT g1 rfl) (R_callk (rsame_pure (⟨((10:Int)),((0:Int)),([Fm.nd 4 0 [Fm.nd 1 0 []],Fm.nd 6 0 [Fm.nd 4 0 [Fm.nd 2 0 []],Fm.nd 3 1 []]])⟩:Fm) (⟨((((10:Int)))),((((0:Int)))),(w11_1)⟩:Fm)) rfl (R_pickT (ebT g1 rfl) rfl ?_))))))
    exact ⟨t6,t7,t8,t9,t10,t11,t12,t13,t14,t15,t16,t17,t19,t20,rfl,rfl,(bandT g1),h1,h2,h3,h4,h5,h16,h18,rfl,trivial⟩
   ·
    refine G_n (ebF g1 rfl) (G_n (ebF g1 rfl) (G_n (ebF g1 rfl) (R_pickF (ebF g1 rfl) rfl ?_)))
    exact ⟨t6,t7,t8,t9,t10,t11,t12,t13,t14,t15,t16,t17,t19,t20,rfl,rfl,(bandF g1),h1,h2,h3,h4,h5,h16,h18,rfl,trivial⟩
  intro T H ⟨t6,t7,t8,t9,t10,t11,t12,t13,t14,t15,t16,t17,t19,t20,t22,t23,t104,h1,h2,h3,h4,h5,h16,h18,h21,_⟩
  refine R_mv t104 ?_
  refine Ops_seg 3 (fun T H=>T 7=(iV (0:Int))∧T 8=(V.str w11_12)∧T 9=(iV (0:Int))∧T 10=(V.bool true)∧T 11=(iV (0:Int))∧T 12=(V.bool false)∧T 13=(iV (0:Int))∧T 14=(V.bool true)∧T 15=(iV (0:Int))∧T 16=(V.mp 16 1 0 0)∧T 17=(iV (0:Int))∧T 19=(iV (9:Int))∧T 20=(iV (5:Int))∧T 22=(iV (0:Int))∧T 23=(iV (8:Int))∧T 108=(V.bool w11_17)∧H 1=w11_10∧H 2=w11_8∧H 3=w11_5∧H 4=w11_9∧H 5=w11_3∧H 16=w11_7∧H 18=w11_4∧H 21=w11_4∧True) ?_ ?_
  ·
   by_cases g2:((w11_6&&w11_6))=true
   ·
    have g2x:=g2
    simp only [Bool.and_eq_true,Bool.or_eq_true,Bool.not_eq_true',decide_eq_true_eq] at g2x
    refine G_yes (ebT g2 rfl) (R_mv t6 (G_yes (ebT g2 rfl) (R_eql rfl rfl (R_pickT (ebT g2 rfl) rfl ?_))))
    exact ⟨t7,t8,t9,t10,t11,t12,t13,t14,t15,t16,t17,t19,t20,t22,t23,(bandT g2),h1,h2,h3,h4,h5,h16,h18,h21,trivial⟩
   ·
    have g2x:=g2
    simp only [Bool.and_eq_true,Bool.or_eq_true,Bool.not_eq_true',decide_eq_true_eq] at g2x
    refine G_n (ebF g2 rfl) (G_n (ebF g2 rfl) (R_pickF (ebF g2 rfl) rfl ?_))
    exact ⟨t7,t8,t9,t10,t11,t12,t13,t14,t15,t16,t17,t19,t20,t22,t23,(bandF g2),h1,h2,h3,h4,h5,h16,h18,h21,trivial⟩
  intro T H ⟨t7,t8,t9,t10,t11,t12,t13,t14,t15,t16,t17,t19,t20,t22,t23,t108,h1,h2,h3,h4,h5,h16,h18,h21,_⟩
  refine R_mv t108 ?_
  refine Ops_seg 3 (fun T H=>T 8=(V.str w11_12)∧T 9=(iV (0:Int))∧T 10=(V.bool true)∧T 11=(iV (0:Int))∧T 12=(V.bool false)∧T 13=(iV (0:Int))∧T 14=(V.bool true)∧T 15=(iV (0:Int))∧T 16=(V.mp 16 1 0 0)∧T 17=(iV (0:Int))∧T 19=(iV (9:Int))∧T 20=(iV (5:Int))∧T 22=(iV (0:Int))∧T 23=(iV (8:Int))∧T 112=(V.bool ((w11_17&&decide ((0:Int)=(0:Int)))))∧H 1=w11_10∧H 2=w11_8∧H 3=w11_5∧H 4=w11_9∧H 5=w11_3∧H 16=w11_7∧H 18=w11_4∧H 21=w11_4∧True) ?_ ?_
  ·
   by_cases g3:w11_17=true
   ·
    have g3x:=g3
    simp only [Bool.and_eq_true,Bool.or_eq_true,Bool.not_eq_true',decide_eq_true_eq] at g3x
    refine G_yes (ebT g3 rfl) (R_mv t7 (G_yes (ebT g3 rfl) (R_eql rfl rfl (R_pickT (ebT g3 rfl) rfl ?_))))
    exact ⟨t8,t9,t10,t11,t12,t13,t14,t15,t16,t17,t19,t20,t22,t23,(bandT g3),h1,h2,h3,h4,h5,h16,h18,h21,trivial⟩
   ·
    have g3x:=g3
    simp only [Bool.and_eq_true,Bool.or_eq_true,Bool.not_eq_true',decide_eq_true_eq] at g3x
    refine G_n (ebF g3 rfl) (G_n (ebF g3 rfl) (R_pickF (ebF g3 rfl) rfl ?_))
    exact ⟨t8,t9,t10,t11,t12,t13,t14,t15,t16,t17,t19,t20,t22,t23,(bandF g3),h1,h2,h3,h4,h5,h16,h18,h21,trivial⟩
  intro T H ⟨t8,t9,t10,t11,t12,t13,t14,t15,t16,t17,t19,t20,t22,t23,t112,h1,h2,h3,h4,h5,h16,h18,h21,_⟩
  refine R_mv t112 ?_
  refine Ops_seg 3 (fun T H=>T 9=(iV (0:Int))∧T 10=(V.bool true)∧T 11=(iV (0:Int))∧T 12=(V.bool false)∧T 13=(iV (0:Int))∧T 14=(V.bool true)∧T 15=(iV (0:Int))∧T 16=(V.mp 16 1 0 0)∧T 17=(iV (0:Int))∧T 19=(iV (9:Int))∧T 20=(iV (5:Int))∧T 22=(iV (0:Int))∧T 23=(iV (8:Int))∧T 116=(V.bool w11_0)∧H 1=w11_10∧H 2=w11_8∧H 3=w11_5∧H 4=w11_9∧H 5=w11_3∧H 16=w11_7∧H 18=w11_4∧H 21=w11_4∧True) ?_ ?_
  ·
   by_cases g4:((w11_17&&decide ((0:Int)=(0:Int))))=true
   ·
    have g4x:=g4
    simp only [Bool.and_eq_true,Bool.or_eq_true,Bool.not_eq_true',decide_eq_true_eq] at g4x
    refine G_yes (ebT g4 rfl) (R_mv t8 (G_yes (ebT g4 rfl) (R_seql (s:=w11_12) (t:=([33,116,114,117,101,32,82,32,40,33,105,110,58,99,111,105,110,32,124,32,111,117,116,58,111,107,41])) rfl rfl (R_pickT (ebT g4 rfl) rfl ?_))))
    exact ⟨t9,t10,t11,t12,t13,t14,t15,t16,t17,t19,t20,t22,t23,(bandT g4),h1,h2,h3,h4,h5,h16,h18,h21,trivial⟩
   ·
    have g4x:=g4
    simp only [Bool.and_eq_true,Bool.or_eq_true,Bool.not_eq_true',decide_eq_true_eq] at g4x
    refine G_n (ebF g4 rfl) (G_n (ebF g4 rfl) (R_pickF (ebF g4 rfl) rfl ?_))
    exact ⟨t9,t10,t11,t12,t13,t14,t15,t16,t17,t19,t20,t22,t23,(bandF g4),h1,h2,h3,h4,h5,h16,h18,h21,trivial⟩
  intro T H ⟨t9,t10,t11,t12,t13,t14,t15,t16,t17,t19,t20,t22,t23,t116,h1,h2,h3,h4,h5,h16,h18,h21,_⟩
  refine R_mv t116 ?_
  refine Ops_seg 3 (fun T H=>T 10=(V.bool true)∧T 11=(iV (0:Int))∧T 12=(V.bool false)∧T 13=(iV (0:Int))∧T 14=(V.bool true)∧T 15=(iV (0:Int))∧T 16=(V.mp 16 1 0 0)∧T 17=(iV (0:Int))∧T 19=(iV (9:Int))∧T 20=(iV (5:Int))∧T 22=(iV (0:Int))∧T 23=(iV (8:Int))∧T 120=(V.bool ((w11_0&&decide ((0:Int)=(0:Int)))))∧H 1=w11_10∧H 2=w11_8∧H 3=w11_5∧H 4=w11_9∧H 5=w11_3∧H 16=w11_7∧H 18=w11_4∧H 21=w11_4∧True) ?_ ?_
  ·
   by_cases g5:w11_0=true
   ·
    have g5x:=g5
    simp only [Bool.and_eq_true,Bool.or_eq_true,Bool.not_eq_true',decide_eq_true_eq] at g5x
    refine G_yes (ebT g5 rfl) (R_mv t9 (G_yes (ebT g5 rfl) (R_eql rfl rfl (R_pickT (ebT g5 rfl) rfl ?_))))
    exact ⟨t10,t11,t12,t13,t14,t15,t16,t17,t19,t20,t22,t23,(bandT g5),h1,h2,h3,h4,h5,h16,h18,h21,trivial⟩
   ·
    have g5x:=g5
    simp only [Bool.and_eq_true,Bool.or_eq_true,Bool.not_eq_true',decide_eq_true_eq] at g5x
    refine G_n (ebF g5 rfl) (G_n (ebF g5 rfl) (R_pickF (ebF g5 rfl) rfl ?_))
    exact ⟨t10,t11,t12,t13,t14,t15,t16,t17,t19,t20,t22,t23,(bandF g5),h1,h2,h3,h4,h5,h16,h18,h21,trivial⟩
  intro T H ⟨t10,t11,t12,t13,t14,t15,t16,t17,t19,t20,t22,t23,t120,h1,h2,h3,h4,h5,h16,h18,h21,_⟩
  refine R_mv t120 ?_
  refine Ops_seg 2 (fun T H=>T 11=(iV (0:Int))∧T 12=(V.bool false)∧T 13=(iV (0:Int))∧T 14=(V.bool true)∧T 15=(iV (0:Int))∧T 16=(V.mp 16 1 0 0)∧T 17=(iV (0:Int))∧T 19=(iV (9:Int))∧T 20=(iV (5:Int))∧T 22=(iV (0:Int))∧T 23=(iV (8:Int))∧T 123=(V.bool ((((w11_0&&decide ((0:Int)=(0:Int))))||false)))∧H 1=w11_10∧H 2=w11_8∧H 3=w11_5∧H 4=w11_9∧H 5=w11_3∧H 16=w11_7∧H 18=w11_4∧H 21=w11_4∧True) ?_ ?_
  ·
   by_cases g6:((w11_0&&decide ((0:Int)=(0:Int))))=true
   ·
    have g6x:=g6
    simp only [Bool.and_eq_true,Bool.or_eq_true,Bool.not_eq_true',decide_eq_true_eq] at g6x
    refine G_yes (ebT g6 rfl) (R_mv t10 (R_pickT (ebT g6 rfl) rfl ?_))
    exact ⟨t11,t12,t13,t14,t15,t16,t17,t19,t20,t22,t23,(borT g6),h1,h2,h3,h4,h5,h16,h18,h21,trivial⟩
   ·
    have g6x:=g6
    simp only [Bool.and_eq_true,Bool.or_eq_true,Bool.not_eq_true',decide_eq_true_eq] at g6x
    refine G_n (ebF g6 rfl) (R_pickF (ebF g6 rfl) rfl ?_)
    exact ⟨t11,t12,t13,t14,t15,t16,t17,t19,t20,t22,t23,(borF g6),h1,h2,h3,h4,h5,h16,h18,h21,trivial⟩
  intro T H ⟨t11,t12,t13,t14,t15,t16,t17,t19,t20,t22,t23,t123,h1,h2,h3,h4,h5,h16,h18,h21,_⟩
  refine R_mv t123 ?_
  refine Ops_seg 3 (fun T H=>T 12=(V.bool false)∧T 13=(iV (0:Int))∧T 14=(V.bool true)∧T 15=(iV (0:Int))∧T 16=(V.mp 16 1 0 0)∧T 17=(iV (0:Int))∧T 19=(iV (9:Int))∧T 20=(iV (5:Int))∧T 22=(iV (0:Int))∧T 23=(iV (8:Int))∧T 127=(V.bool w11_11)∧H 1=w11_10∧H 2=w11_8∧H 3=w11_5∧H 4=w11_9∧H 5=w11_3∧H 16=w11_7∧H 18=w11_4∧H 21=w11_4∧True) ?_ ?_
  ·
   by_cases g7:((((w11_0&&decide ((0:Int)=(0:Int))))||false))=true
   ·
    have g7x:=g7
    simp only [Bool.and_eq_true,Bool.or_eq_true,Bool.not_eq_true',decide_eq_true_eq] at g7x
    refine G_yes (ebT g7 rfl) (R_mv t11 (G_yes (ebT g7 rfl) (R_eql rfl rfl (R_pickT (ebT g7 rfl) rfl ?_))))
    exact ⟨t12,t13,t14,t15,t16,t17,t19,t20,t22,t23,(bandT g7),h1,h2,h3,h4,h5,h16,h18,h21,trivial⟩
   ·
    have g7x:=g7
    simp only [Bool.and_eq_true,Bool.or_eq_true,Bool.not_eq_true',decide_eq_true_eq] at g7x
    refine G_n (ebF g7 rfl) (G_n (ebF g7 rfl) (R_pickF (ebF g7 rfl) rfl ?_))
    exact ⟨t12,t13,t14,t15,t16,t17,t19,t20,t22,t23,(bandF g7),h1,h2,h3,h4,h5,h16,h18,h21,trivial⟩
  intro T H ⟨t12,t13,t14,t15,t16,t17,t19,t20,t22,t23,t127,h1,h2,h3,h4,h5,h16,h18,h21,_⟩
  refine R_mv t127 ?_
  refine Ops_seg 3 (fun T H=>T 13=(iV (0:Int))∧T 14=(V.bool true)∧T 15=(iV (0:Int))∧T 16=(V.mp 16 1 0 0)∧T 17=(iV (0:Int))∧T 19=(iV (9:Int))∧T 20=(iV (5:Int))∧T 22=(iV (0:Int))∧T 23=(iV (8:Int))∧T 131=(V.bool ((w11_11||false)))∧H 1=w11_10∧H 2=w11_8∧H 3=w11_5∧H 4=w11_9∧H 5=w11_3∧H 16=w11_7∧H 18=w11_4∧H 21=w11_4∧True) ?_ ?_
  ·
   by_cases g8:w11_11=true
   ·
    have g8x:=g8
    simp only [Bool.and_eq_true,Bool.or_eq_true,Bool.not_eq_true',decide_eq_true_eq] at g8x
    refine G_yes (ebT g8 rfl) (R_mv t12 (G_yes (ebT g8 rfl) (R_notb rfl (R_pickT (ebT g8 rfl) rfl ?_))))
    exact ⟨t13,t14,t15,t16,t17,t19,t20,t22,t23,(borT g8),h1,h2,h3,h4,h5,h16,h18,h21,trivial⟩
   ·
    have g8x:=g8
    simp only [Bool.and_eq_true,Bool.or_eq_true,Bool.not_eq_true',decide_eq_true_eq] at g8x
    refine G_n (ebF g8 rfl) (G_n (ebF g8 rfl) (R_pickF (ebF g8 rfl) rfl ?_))
    exact ⟨t13,t14,t15,t16,t17,t19,t20,t22,t23,(borF g8),h1,h2,h3,h4,h5,h16,h18,h21,trivial⟩
  intro T H ⟨t13,t14,t15,t16,t17,t19,t20,t22,t23,t131,h1,h2,h3,h4,h5,h16,h18,h21,_⟩
  refine R_mv t131 ?_
  refine Ops_seg 3 (fun T H=>T 14=(V.bool true)∧T 15=(iV (0:Int))∧T 16=(V.mp 16 1 0 0)∧T 17=(iV (0:Int))∧T 19=(iV (9:Int))∧T 20=(iV (5:Int))∧T 22=(iV (0:Int))∧T 23=(iV (8:Int))∧T 135=(V.bool w11_15)∧H 1=w11_10∧H 2=w11_8∧H 3=w11_5∧H 4=w11_9∧H 5=w11_3∧H 16=w11_7∧H 18=w11_4∧H 21=w11_4∧True) ?_ ?_
  ·
   by_cases g9:((w11_11||false))=true
   ·
    have g9x:=g9
    simp only [Bool.and_eq_true,Bool.or_eq_true,Bool.not_eq_true',decide_eq_true_eq] at g9x
    refine G_yes (ebT g9 rfl) (R_mv t13 (G_yes (ebT g9 rfl) (R_eql rfl rfl (R_pickT (ebT g9 rfl) rfl ?_))))
    exact ⟨t14,t15,t16,t17,t19,t20,t22,t23,(bandT g9),h1,h2,h3,h4,h5,h16,h18,h21,trivial⟩
   ·
    have g9x:=g9
    simp only [Bool.and_eq_true,Bool.or_eq_true,Bool.not_eq_true',decide_eq_true_eq] at g9x
    refine G_n (ebF g9 rfl) (G_n (ebF g9 rfl) (R_pickF (ebF g9 rfl) rfl ?_))
    exact ⟨t14,t15,t16,t17,t19,t20,t22,t23,(bandF g9),h1,h2,h3,h4,h5,h16,h18,h21,trivial⟩
  intro T H ⟨t14,t15,t16,t17,t19,t20,t22,t23,t135,h1,h2,h3,h4,h5,h16,h18,h21,_⟩
  refine R_mv t135 ?_
  refine Ops_seg 2 (fun T H=>T 15=(iV (0:Int))∧T 16=(V.mp 16 1 0 0)∧T 17=(iV (0:Int))∧T 19=(iV (9:Int))∧T 20=(iV (5:Int))∧T 22=(iV (0:Int))∧T 23=(iV (8:Int))∧T 138=(V.bool ((w11_15||false)))∧H 1=w11_10∧H 2=w11_8∧H 3=w11_5∧H 4=w11_9∧H 5=w11_3∧H 16=w11_7∧H 18=w11_4∧H 21=w11_4∧True) ?_ ?_
  ·
   by_cases g10:w11_15=true
   ·
    have g10x:=g10
    simp only [Bool.and_eq_true,Bool.or_eq_true,Bool.not_eq_true',decide_eq_true_eq] at g10x
    refine G_yes (ebT g10 rfl) (R_mv t14 (R_pickT (ebT g10 rfl) rfl ?_))
    exact ⟨t15,t16,t17,t19,t20,t22,t23,(borT g10),h1,h2,h3,h4,h5,h16,h18,h21,trivial⟩
   ·
    have g10x:=g10
    simp only [Bool.and_eq_true,Bool.or_eq_true,Bool.not_eq_true',decide_eq_true_eq] at g10x
    refine G_n (ebF g10 rfl) (R_pickF (ebF g10 rfl) rfl ?_)
    exact ⟨t15,t16,t17,t19,t20,t22,t23,(borF g10),h1,h2,h3,h4,h5,h16,h18,h21,trivial⟩
  intro T H ⟨t15,t16,t17,t19,t20,t22,t23,t138,h1,h2,h3,h4,h5,h16,h18,h21,_⟩
  refine R_mv t138 ?_
  refine Ops_seg 3 (fun T H=>T 16=(V.mp 16 1 0 0)∧T 17=(iV (0:Int))∧T 19=(iV (9:Int))∧T 20=(iV (5:Int))∧T 22=(iV (0:Int))∧T 23=(iV (8:Int))∧T 142=(V.bool ((((w11_15||false))&&decide ((0:Int)=(0:Int)))))∧H 1=w11_10∧H 2=w11_8∧H 3=w11_5∧H 4=w11_9∧H 5=w11_3∧H 16=w11_7∧H 18=w11_4∧H 21=w11_4∧True) ?_ ?_
  ·
   by_cases g11:((w11_15||false))=true
   ·
    have g11x:=g11
    simp only [Bool.and_eq_true,Bool.or_eq_true,Bool.not_eq_true',decide_eq_true_eq] at g11x
    refine G_yes (ebT g11 rfl) (R_mv t15 (G_yes (ebT g11 rfl) (R_eql rfl rfl (R_pickT (ebT g11 rfl) rfl ?_))))
    exact ⟨t16,t17,t19,t20,t22,t23,(bandT g11),h1,h2,h3,h4,h5,h16,h18,h21,trivial⟩
   ·
    have g11x:=g11
    simp only [Bool.and_eq_true,Bool.or_eq_true,Bool.not_eq_true',decide_eq_true_eq] at g11x
    refine G_n (ebF g11 rfl) (G_n (ebF g11 rfl) (R_pickF (ebF g11 rfl) rfl ?_))
    exact ⟨t16,t17,t19,t20,t22,t23,(bandF g11),h1,h2,h3,h4,h5,h16,h18,h21,trivial⟩
  intro T H ⟨t16,t17,t19,t20,t22,t23,t142,h1,h2,h3,h4,h5,h16,h18,h21,_⟩
  refine R_mv t142 ?_
  refine Ops_seg 8 (fun T H=>T 17=(iV (0:Int))∧T 19=(iV (9:Int))∧T 20=(iV (5:Int))∧T 22=(iV (0:Int))∧T 23=(iV (8:Int))∧T 151=(V.bool w11_2)∧H 1=w11_10∧H 2=w11_8∧H 3=w11_5∧H 4=w11_9∧H 5=w11_3∧H 16=w11_7∧H 18=w11_4∧H 21=w11_4∧True) ?_ ?_
  ·
   by_cases g12:((((w11_15||false))&&decide ((0:Int)=(0:Int))))=true
   ·
    have g12x:=g12
    simp only [Bool.and_eq_true,Bool.or_eq_true,Bool.not_eq_true',decide_eq_true_eq] at g12x
    refine G_yes (ebT g12 rfl) (R_lk t16 h16 rfl rfl (G_yes (ebT g12 rfl) (R_call (evcons (@rfl V (iV (2:Int))) (evcons (@rfl V (iV (0:Int))) (evcons (@rfl V V.nilsl) evnil))) (lnode_pure ((2:Int)) ((0:Int)) ([])) (mcons (fzv_canon 6 _ (by simp [-List.map_take,-List.map_drop,-List.map_append,-List.map_reverse])) (mcons (fzv_canon 6 _ (by simp [-List.map_take,-List.map_drop,-List.map_append,-List.map_reverse])) (mcons (by rfl) rfl))) (by simp [-List.map_take,-List.map_drop,-List.map_append,-List.map_reverse]) (Or.inl (by simp [-List.map_take,-List.map_drop,-List.map_append,-List.map_reverse])) (G_yes (ebT g12 rfl) (R_bslice rfl rfl (G_yes (ebT g12 rfl) (R_callk (lnode_pure ((4:Int)) ((0:Int)) ([w11_14])) (evcons rfl (evcons rfl (evcons (sl_F1 (x:=(w11_14)) rfl) evnil))) ?_)))))))
    refine G_yes (ebT g12 rfl) (R_bslice rfl rfl (G_yes (ebT g12 rfl) (R_callk (lnode_pure ((9:Int)) ((0:Int)) ([w11_16])) (evcons rfl (evcons rfl (evcons (sl_F1 (x:=(w11_16)) rfl) evnil))) (G_yes (ebT g12 rfl) (R_callk (rsame_pure (⟨((9:Int)),((0:Int)),([Fm.nd 4 0 [Fm.nd 2 0 []]])⟩:Fm) (⟨((((9:Int)))),((((0:Int)))),(([w11_16]))⟩:Fm)) rfl (R_pickT (ebT g12 rfl) rfl ?_))))))
    exact ⟨t17,t19,t20,t22,t23,(bandT g12),h1,h2,h3,h4,h5,h16,h18,h21,trivial⟩
   ·
    have g12x:=g12
    simp only [Bool.and_eq_true,Bool.or_eq_true,Bool.not_eq_true',decide_eq_true_eq] at g12x
    refine G_n (ebF g12 rfl) (G_n (ebF g12 rfl) (G_n (ebF g12 rfl) (G_n (ebF g12 rfl) (G_n (ebF g12 rfl) (G_n (ebF g12 rfl) (G_n (ebF g12 rfl) (R_pickF (ebF g12 rfl) rfl ?_)))))))
    exact ⟨t17,t19,t20,t22,t23,(bandF g12),h1,h2,h3,h4,h5,h16,h18,h21,trivial⟩
  intro T H ⟨t17,t19,t20,t22,t23,t151,h1,h2,h3,h4,h5,h16,h18,h21,_⟩
  refine R_mv t151 ?_
  refine Ops_seg 3 (fun T H=>T 19=(iV (9:Int))∧T 20=(iV (5:Int))∧T 22=(iV (0:Int))∧T 23=(iV (8:Int))∧T 155=(V.bool ((w11_2&&decide ((0:Int)=(0:Int)))))∧H 1=w11_10∧H 2=w11_8∧H 3=w11_5∧H 4=w11_9∧H 5=w11_3∧H 16=w11_7∧H 18=w11_4∧H 21=w11_4∧True) ?_ ?_
  ·
   by_cases g13:w11_2=true
   ·
    have g13x:=g13
    simp only [Bool.and_eq_true,Bool.or_eq_true,Bool.not_eq_true',decide_eq_true_eq] at g13x
    refine G_yes (ebT g13 rfl) (R_mv t17 (G_yes (ebT g13 rfl) (R_eql rfl rfl (R_pickT (ebT g13 rfl) rfl ?_))))
    exact ⟨t19,t20,t22,t23,(bandT g13),h1,h2,h3,h4,h5,h16,h18,h21,trivial⟩
   ·
    have g13x:=g13
    simp only [Bool.and_eq_true,Bool.or_eq_true,Bool.not_eq_true',decide_eq_true_eq] at g13x
    refine G_n (ebF g13 rfl) (G_n (ebF g13 rfl) (R_pickF (ebF g13 rfl) rfl ?_))
    exact ⟨t19,t20,t22,t23,(bandF g13),h1,h2,h3,h4,h5,h16,h18,h21,trivial⟩
  intro T H ⟨t19,t20,t22,t23,t155,h1,h2,h3,h4,h5,h16,h18,h21,_⟩
  refine R_mv t155 ?_
  refine Ops_seg 3 (fun T H=>T 20=(iV (5:Int))∧T 22=(iV (0:Int))∧T 23=(iV (8:Int))∧T 159=(V.bool ((((w11_2&&decide ((0:Int)=(0:Int))))&&decide ((9:Int)=(9:Int)))))∧H 1=w11_10∧H 2=w11_8∧H 3=w11_5∧H 4=w11_9∧H 5=w11_3∧H 16=w11_7∧H 18=w11_4∧H 21=w11_4∧True) ?_ ?_
  ·
   by_cases g14:((w11_2&&decide ((0:Int)=(0:Int))))=true
   ·
    have g14x:=g14
    simp only [Bool.and_eq_true,Bool.or_eq_true,Bool.not_eq_true',decide_eq_true_eq] at g14x
    refine G_yes (ebT g14 rfl) (R_mv t19 (G_yes (ebT g14 rfl) (R_eql rfl rfl (R_pickT (ebT g14 rfl) rfl ?_))))
    exact ⟨t20,t22,t23,(bandT g14),h1,h2,h3,h4,h5,h16,h18,h21,trivial⟩
   ·
    have g14x:=g14
    simp only [Bool.and_eq_true,Bool.or_eq_true,Bool.not_eq_true',decide_eq_true_eq] at g14x
    refine G_n (ebF g14 rfl) (G_n (ebF g14 rfl) (R_pickF (ebF g14 rfl) rfl ?_))
    exact ⟨t20,t22,t23,(bandF g14),h1,h2,h3,h4,h5,h16,h18,h21,trivial⟩
  intro T H ⟨t20,t22,t23,t159,h1,h2,h3,h4,h5,h16,h18,h21,_⟩
  refine R_mv t159 ?_
  refine Ops_seg 3 (fun T H=>T 22=(iV (0:Int))∧T 23=(iV (8:Int))∧T 163=(V.bool w11_13)∧H 1=w11_10∧H 2=w11_8∧H 3=w11_5∧H 4=w11_9∧H 5=w11_3∧H 16=w11_7∧H 18=w11_4∧H 21=w11_4∧True) ?_ ?_
  ·
   by_cases g15:((((w11_2&&decide ((0:Int)=(0:Int))))&&decide ((9:Int)=(9:Int))))=true
   ·
    have g15x:=g15
    simp only [Bool.and_eq_true,Bool.or_eq_true,Bool.not_eq_true',decide_eq_true_eq] at g15x
    refine G_yes (ebT g15 rfl) (R_mv t20 (G_yes (ebT g15 rfl) (R_eql rfl rfl (R_pickT (ebT g15 rfl) rfl ?_))))
    exact ⟨t22,t23,(bandT g15),h1,h2,h3,h4,h5,h16,h18,h21,trivial⟩
   ·
    have g15x:=g15
    simp only [Bool.and_eq_true,Bool.or_eq_true,Bool.not_eq_true',decide_eq_true_eq] at g15x
    refine G_n (ebF g15 rfl) (G_n (ebF g15 rfl) (R_pickF (ebF g15 rfl) rfl ?_))
    exact ⟨t22,t23,(bandF g15),h1,h2,h3,h4,h5,h16,h18,h21,trivial⟩
  intro T H ⟨t22,t23,t163,h1,h2,h3,h4,h5,h16,h18,h21,_⟩
  refine R_mv t163 ?_
  refine Ops_seg 3 (fun T H=>T 23=(iV (8:Int))∧T 167=(V.bool ((w11_13&&decide ((0:Int)=(0:Int)))))∧H 1=w11_10∧H 2=w11_8∧H 3=w11_5∧H 4=w11_9∧H 5=w11_3∧H 16=w11_7∧H 18=w11_4∧H 21=w11_4∧True) ?_ ?_
  ·
   by_cases g16:w11_13=true
   ·
    have g16x:=g16
    simp only [Bool.and_eq_true,Bool.or_eq_true,Bool.not_eq_true',decide_eq_true_eq] at g16x
    refine G_yes (ebT g16 rfl) (R_mv t22 (G_yes (ebT g16 rfl) (R_eql rfl rfl (R_pickT (ebT g16 rfl) rfl ?_))))
    exact ⟨t23,(bandT g16),h1,h2,h3,h4,h5,h16,h18,h21,trivial⟩
   ·
    have g16x:=g16
    simp only [Bool.and_eq_true,Bool.or_eq_true,Bool.not_eq_true',decide_eq_true_eq] at g16x
    refine G_n (ebF g16 rfl) (G_n (ebF g16 rfl) (R_pickF (ebF g16 rfl) rfl ?_))
    exact ⟨t23,(bandF g16),h1,h2,h3,h4,h5,h16,h18,h21,trivial⟩
  intro T H ⟨t23,t167,h1,h2,h3,h4,h5,h16,h18,h21,_⟩
  refine R_mv t167 ?_
  refine Ops_seg 3 (fun T H=>T 171=(V.bool ((((w11_13&&decide ((0:Int)=(0:Int))))&&decide ((8:Int)=(8:Int)))))∧H 1=w11_10∧H 2=w11_8∧H 3=w11_5∧H 4=w11_9∧H 5=w11_3∧H 16=w11_7∧H 18=w11_4∧H 21=w11_4∧True) ?_ ?_
  ·
   by_cases g17:((w11_13&&decide ((0:Int)=(0:Int))))=true
   ·
    have g17x:=g17
    simp only [Bool.and_eq_true,Bool.or_eq_true,Bool.not_eq_true',decide_eq_true_eq] at g17x
    refine G_yes (ebT g17 rfl) (R_mv t23 (G_yes (ebT g17 rfl) (R_eql rfl rfl (R_pickT (ebT g17 rfl) rfl ?_))))
    exact ⟨(bandT g17),h1,h2,h3,h4,h5,h16,h18,h21,trivial⟩
   ·
    have g17x:=g17
    simp only [Bool.and_eq_true,Bool.or_eq_true,Bool.not_eq_true',decide_eq_true_eq] at g17x
    refine G_n (ebF g17 rfl) (G_n (ebF g17 rfl) (R_pickF (ebF g17 rfl) rfl ?_))
    exact ⟨(bandF g17),h1,h2,h3,h4,h5,h16,h18,h21,trivial⟩
  intro T H ⟨t171,h1,h2,h3,h4,h5,h16,h18,h21,_⟩
  refine R_mv t171 ?_
  exact R_nil ⟨rfl,h1,h2,h3,h4,h5,h16,h18,h21,trivial⟩
 intro T H ⟨t0,h1,h2,h3,h4,h5,h16,h18,h21,_⟩
 refine W_ret ?_
 refine Ret_1 t0 (fz_bool ?_)
 · decide+kernel
end Go.Proofs.Ytdmcmkccifmofaa
namespace Go.Proofs.Ytdmcmkccifmofaa
open Go Go.Proofs
def r15_1:List SO:=[
 qL 6 3 1,
 sO 7 (.call false 32 [.t 6,.c (.int .i64 1),.c (.int .i64 0)]),
 qM 5 7,
 qE 8 5 0,
 qE 9 5 1,
 qM 3 8,
 qM 4 9]
def s15:SF:=⟨11,[.tmp 2],.seq (.reg [sO 1 (.box 24 3 (.t 0)),qI 2 0]) (.seq (.reg r15_1) (.seq (.reg [qM 10 4,qM 2 10]) (.ret)))⟩
theorem s15_ok:slimF Try.prog ⟨[31,36,37,38,40,41,42,44,45,59,60,61,65,66,67,71,72,73,81,82,84,92,93,98,99,102,104],[],[],[]⟩ Try.f15=some s15:=by kernel_rfl
def r32_11:List SO:=[
 qF 37 2 3,
 ql 38 37,
 qM 39 9,
 qA 40 3 38 39,
 qL 41 3 40,
 qM 42 1,
 qC 43 .add 42 1,
 qM 44 8,
 sO 45 (.call false 32 [.t 41,.t 43,.t 44]),
 qM 36 45,
 qE 46 36 0,
 qE 47 36 1,
 qM 10 46,
 qM 11 47]
def b32_0:SC:=.seq (.seq (.reg [qM 29 9,qF 30 2 3,ql 31 30,qN 32 31,qP 33 .lss 29 32]) (.cond (.t 33) (.skip) (.exit 1))) (.seq (.block 2 (.seq (.reg r32_11) (.seq (.seq (.reg [qM 48 11,qC 49 .neq 48 0]) (.cond (.t 49) (.seq (.reg [qM 50 10,qM 51 11,qM 6 50,qM 7 51]) (.ret)) (.skip))) (.reg [qM 52 10,qM 8 52])))) (.reg [qM 34 9,qC 35 .add 34 1,qM 9 35]))
def s32:SF:=⟨54,[.tmp 6,.tmp 7],.seq (.reg [sO 3 (.box 24 3 (.t 0)),qI 6 0,qI 7 0]) (.seq (.reg [qM 12 2,qC 13 .add 12 1,qM 8 13]) (.seq (.block 0 (.seq (.reg [qM 15 8,qC 16 .gtr 15 4096,qM 14 16]) (.cond (.t 14) (.seq (.reg [qM 17 8,qM 6 17,qI 7 11]) (.ret)) (.seq (.reg [qM 19 1,qC 20 .gtr 19 64,qM 18 20]) (.cond (.t 18) (.seq (.reg [qM 21 8,qM 6 21,qI 7 16]) (.ret)) (.seq (.reg [qL 23 3 3,sO 24 (.call false 54 [.t 23]),qC 25 .neq 24 0,qM 22 25]) (.cond (.t 22) (.seq (.reg [qM 26 8,qL 27 3 3,sO 28 (.call false 54 [.t 27]),qM 6 26,qM 7 28]) (.ret)) (.skip)))))))) (.seq (.seq (.reg [qI 9 0]) (.block 1 (.loop b32_0))) (.seq (.reg [qM 53 8,qM 6 53,qI 7 0]) (.ret)))))⟩
theorem s32_ok:slimF Try.prog ⟨[31,36,37,38,40,41,42,44,45,59,60,61,65,66,67,71,72,73,81,82,84,92,93,98,99,102,104],[],[],[]⟩ Try.f32=some s32:=by kernel_rfl
def r54_18:List SO:=[
 qF 33 0 1,
 ql 34 33,
 qC 35 .eql 34 2,
 qM 36 35,
 ⟨some (36,false),some 37,.fld 0 (.t 1)⟩,
 ⟨some (36,false),some 38,.load false 1 (.t 37)⟩,
 ⟨some (36,false),some 39,.bin .eql (.t 38) (.c (.int .i64 3))⟩,
 sO 40 (.pick (.t 36) (.c (.bool true)) (.t 39)),
 qM 5 40]
def r54_19:List SO:=[
 qM 42 4,
 sO 43 (.un .not (.t 42)),
 qM 44 43,
 ⟨some (44,false),some 45,.mv (.t 5)⟩,
 ⟨some (44,false),some 46,.un .not (.t 45)⟩,
 ⟨some (44,false),some 47,.mv (.t 46)⟩,
 ⟨some (47,true),some 48,.fld 1 (.t 1)⟩,
 ⟨some (47,true),some 49,.load false 1 (.t 48)⟩,
 ⟨some (47,true),some 50,.bin .neq (.t 49) (.c (.int .i64 0))⟩,
 ⟨some (44,false),some 51,.pick (.t 47) (.t 50) (.c (.bool false))⟩,
 sO 52 (.pick (.t 44) (.c (.bool true)) (.t 51)),
 qM 41 52]
def r54_21:List SO:=[
 qF 54 0 1,
 ql 55 54,
 qC 56 .eql 55 2,
 qM 57 56,
 ⟨some (57,true),some 58,.fld 1 (.t 1)⟩,
 ⟨some (57,true),some 59,.load false 1 (.t 58)⟩,
 ⟨some (57,true),some 60,.bin .lss (.t 59) (.c (.int .i64 0))⟩,
 ⟨some (57,true),some 61,.mv (.t 60)⟩,
 ⟨some (61,false),some 62,.fld 1 (.t 1)⟩,
 ⟨some (61,false),some 63,.load false 1 (.t 62)⟩,
 ⟨some (61,false),some 64,.bin .geq (.t 63) (.c (.int .i64 64))⟩,
 ⟨some (57,true),some 65,.pick (.t 61) (.c (.bool true)) (.t 64)⟩,
 sO 66 (.pick (.t 57) (.t 65) (.c (.bool false))),
 qM 53 66]
def r54_22:List SO:=[
 qF 67 0 1,
 ql 68 67,
 qC 69 .eql 68 3,
 qM 70 69,
 ⟨some (70,true),some 71,.fld 1 (.t 1)⟩,
 ⟨some (70,true),some 72,.load false 1 (.t 71)⟩,
 ⟨some (70,true),some 73,.bin .lss (.t 72) (.c (.int .i64 0))⟩,
 ⟨some (70,true),some 74,.mv (.t 73)⟩,
 ⟨some (74,false),some 75,.fld 1 (.t 1)⟩,
 ⟨some (74,false),some 76,.load false 1 (.t 75)⟩,
 ⟨some (74,false),some 77,.bin .gtr (.t 76) (.c (.int .i64 1048576))⟩,
 ⟨some (70,true),some 78,.pick (.t 74) (.c (.bool true)) (.t 77)⟩,
 sO 79 (.pick (.t 70) (.t 78) (.c (.bool false))),
 qM 53 79]
def s54:SF:=⟨80,[.tmp 2],.seq (.reg [sO 1 (.box 24 3 (.t 0)),qI 2 0]) (.seq (.reg [qF 6 2 1,ql 7 6,qN 8 7,qM 3 8]) (.seq (.reg [sO 4 (.mv (.c (.bool false)))]) (.seq (.seq (.reg [qF 9 0 1,ql 10 9]) (.block 0 (.seq (.seq (.reg [qC 12 .eql 10 1,qM 11 12]) (.cond (.t 11) (.skip) (.seq (.reg [qC 13 .eql 10 2,qM 11 13]) (.cond (.t 11) (.skip) (.reg [qC 14 .eql 10 3,qM 11 14]))))) (.cond (.t 11) (.reg [qM 15 3,qC 16 .eql 15 0,qM 4 16]) (.seq (.seq (.reg [qC 18 .eql 10 4,qM 17 18]) (.cond (.t 17) (.skip) (.seq (.reg [qC 19 .eql 10 7,qM 17 19]) (.cond (.t 17) (.skip) (.reg [qC 20 .eql 10 9,qM 17 20]))))) (.cond (.t 17) (.reg [qM 21 3,qC 22 .eql 21 1,qM 4 22]) (.seq (.seq (.reg [qC 24 .eql 10 5,qM 23 24]) (.cond (.t 23) (.skip) (.reg [qC 25 .eql 10 6,qM 23 25]))) (.cond (.t 23) (.reg [qM 26 3,qC 27 .geq 26 2,qM 4 27]) (.seq (.seq (.reg [qC 29 .eql 10 8,qM 28 29]) (.cond (.t 28) (.skip) (.reg [qC 30 .eql 10 10,qM 28 30]))) (.cond (.t 28) (.reg [qM 31 3,qC 32 .eql 31 2,qM 4 32]) (.skip))))))))))) (.seq (.reg r54_18) (.seq (.block 1 (.seq (.reg r54_19) (.cond (.t 41) (.seq (.reg [qI 2 1]) (.ret)) (.seq (.seq (.reg r54_21) (.cond (.t 53) (.skip) (.reg r54_22))) (.cond (.t 53) (.seq (.reg [qI 2 2]) (.ret)) (.skip)))))) (.seq (.reg [qI 2 0]) (.ret)))))))⟩
theorem s54_ok:slimF Try.prog ⟨[31,36,37,38,40,41,42,44,45,59,60,61,65,66,67,71,72,73,81,82,84,92,93,98,99,102,104],[],[],[]⟩ Try.f54=some s54:=by kernel_rfl
theorem rright_pure (f:Fm):PureC Try.prog 54 [(V.agg [(iV (f.op)),(iV (f.arg)),(V.sl (List.map cF (f.kids)))])] (iV (rgt f)):=by
 refine pW Try.func54 s54_ok fun hB=>?_
 unfold s54
 dsimp only
 refine W_r (R_box (i:=1) (n:=0) (m:=3) (cs:=[(iV (f.op)),(iV (f.arg)),(V.sl (List.map cF (f.kids)))]) rfl (congrArg Blk.ver rfl) rfl rfl rfl (R_mv rfl (R_e (W_r (R_fk rfl rfl (R_lk rfl rfl rfl rfl (R_len rfl ?_)))))))
 refine R_mv rfl (R_e (W_r (R_mv rfl (R_e (W_seq_seq (W_r (R_fk rfl rfl ?_)))))))
 refine R_lk rfl rfl rfl rfl (R_e (W_seq_blockg fun Q1 n1 x1 y1 z1=>(W_seq_seq (W_r (R_eql rfl rfl (R_mv rfl (R_e ?_)))))))
 refine W_seq_if rfl (fun c2=>?_) fun c2=>?_
 ·
  refine W_seq_skip ?_
  refine W_if rfl (fun c3=>?_) fun c3=>?_
  ·
   refine W_t (R_mv rfl (R_eql rfl rfl (R_mv rfl (R_e (n1 _ _ (.done (W_r ?_)))))))
   refine R_fk rfl rfl (R_lk rfl rfl rfl rfl (R_eql rfl rfl (R_mv rfl ?_)))
   refine Ops_seg 4 (fun T H=>T 1=(V.mp 1 1 0 0)∧T 4=(V.bool (decide (((f.kids.length:Nat):Int)=(0:Int))))∧T 40=(V.bool (decide (((f.op)=(2:Int))∨((f.op)=(3:Int)))))∧H 1=(bk 1 24 3 [[(iV (f.op)),(iV (f.arg)),(V.sl (List.map cF (f.kids)))]])∧True) ?_ ?_
   ·
    by_cases g4:(f.op)=(2:Int)
    ·
     refine G_n (edT g4 rfl) (G_n (edT g4 rfl) (G_n (edT g4 rfl) (R_pickT (edT g4 rfl) rfl ?_)))
     exact ⟨rfl,rfl,(dec_orT g4),rfl,trivial⟩
    ·
     refine G_yes (edF g4 rfl) (R_fk rfl rfl (G_yes (edF g4 rfl) (R_lk rfl rfl rfl rfl (G_yes (edF g4 rfl) (R_eql rfl rfl (R_pickF (edF g4 rfl) rfl ?_))))))
     exact ⟨rfl,rfl,(dec_orF g4),rfl,trivial⟩
   intro T H ⟨t1,t4,t40,h1,_⟩
   refine R_mv t40 (R_e (W_seq_blockg fun Q5 n5 x5 y5 z5=>(W_r (R_mv t4 (R_not rfl (R_mv rfl ?_))))))
   refine Ops_seg 8 (fun T H=>T 1=(V.mp 1 1 0 0)∧T 52=(V.bool (decide ((¬(((f.kids.length:Nat):Int)=(0:Int)))∨((¬(((f.op)=(2:Int))∨((f.op)=(3:Int))))∧((f.arg)≠(0:Int))))))∧H 1=(bk 1 24 3 [[(iV (f.op)),(iV (f.arg)),(V.sl (List.map cF (f.kids)))]])∧True) ?_ ?_
   ·
    by_cases g6: ¬(((f.kids.length:Nat):Int)=(0:Int))
    ·
     refine G_n (edT g6 rfl) (G_n (edT g6 rfl) (G_n (edT g6 rfl) (G_raw (@rfl V (V.raw undef)) (G_raw (@rfl V (V.raw undef)) (G_raw (@rfl V (V.raw undef)) (G_n (edT g6 rfl) (R_pickT (edT g6 rfl) rfl ?_)))))))
     exact ⟨t1,(dec_orT g6),h1,trivial⟩
    ·
     refine G_yes (edF g6 rfl) (R_mv rfl (G_yes (edF g6 rfl) (R_not rfl (G_yes (edF g6 rfl) (R_mv rfl ?_)))))
     refine Ops_seg 4 (fun T H=>T 1=(V.mp 1 1 0 0)∧T 44=(V.bool false)∧T 51=(V.bool (decide ((¬(((f.op)=(2:Int))∨((f.op)=(3:Int))))∧((f.arg)≠(0:Int)))))∧H 1=(bk 1 24 3 [[(iV (f.op)),(iV (f.arg)),(V.sl (List.map cF (f.kids)))]])∧True) ?_ ?_
     ·
      by_cases g7: ¬(((f.op)=(2:Int))∨((f.op)=(3:Int)))
      ·
       refine G_yes (edT g7 rfl) (R_fk t1 h1 (G_yes (edT g7 rfl) (R_lk rfl h1 rfl rfl (G_yes (edT g7 rfl) (R_neq rfl rfl (G_yes (edF g6 rfl) (R_pickT (edT g7 rfl) rfl ?_)))))))
       exact ⟨t1,(edF g6 rfl),(dec_andT g7),h1,trivial⟩
      ·
       refine G_n (edF g7 rfl) (G_n (edF g7 rfl) (G_n (edF g7 rfl) (G_yes (edF g6 rfl) (R_pickF (edF g7 rfl) rfl ?_))))
       exact ⟨t1,(edF g6 rfl),(dec_andF g7),h1,trivial⟩
     intro T H ⟨t1,t44,t51,h1,_⟩
     refine R_pickF t44 t51 ?_
     exact ⟨t1,(dec_orF g6),h1,trivial⟩
   intro T H ⟨t1,t52,h1,_⟩
   refine R_mv t52 (R_e ?_)
   refine W_if rfl (fun c8=>?_) fun c8=>?_
   ·
    refine W_r (R_mv rfl (R_e (W_ret (y5 _ _ ?_))))
    refine Ret_1 (@rfl V (iV (1:Int))) (fz_int ?_)
    · simp only [rgt,kLo,kHi]; repeat (first|rfl|omega|split)
   refine W_seq_seq (W_r (R_fk t1 h1 (R_lk rfl h1 rfl rfl (R_eql rfl rfl (R_mv rfl ?_)))))
   refine Ops_seg 9 (fun T H=>T 1=(V.mp 1 1 0 0)∧T 66=(V.bool (decide (((f.op)=(2:Int))∧(((f.arg) < (0:Int))∨((64:Int)≤(f.arg))))))∧H 1=(bk 1 24 3 [[(iV (f.op)),(iV (f.arg)),(V.sl (List.map cF (f.kids)))]])∧True) ?_ ?_
   ·
    by_cases g9:(f.op)=(2:Int)
    ·
     refine G_yes (edT g9 rfl) (R_fk t1 h1 (G_yes (edT g9 rfl) (R_lk rfl h1 rfl rfl (G_yes (edT g9 rfl) (R_lss rfl rfl (G_yes (edT g9 rfl) (R_mv rfl ?_)))))))
     refine Ops_seg 4 (fun T H=>T 1=(V.mp 1 1 0 0)∧T 57=(V.bool true)∧T 65=(V.bool (decide (((f.arg) < (0:Int))∨((64:Int)≤(f.arg)))))∧H 1=(bk 1 24 3 [[(iV (f.op)),(iV (f.arg)),(V.sl (List.map cF (f.kids)))]])∧True) ?_ ?_
     ·
      by_cases g10:(f.arg) < (0:Int)
      ·
       refine G_n (edT g10 rfl) (G_n (edT g10 rfl) (G_n (edT g10 rfl) (G_yes (edT g9 rfl) (R_pickT (edT g10 rfl) rfl ?_))))
       exact ⟨t1,(edT g9 rfl),(dec_orT g10),h1,trivial⟩
      ·
       refine G_yes (edF g10 rfl) (R_fk t1 h1 (G_yes (edF g10 rfl) (R_lk rfl h1 rfl rfl (G_yes (edF g10 rfl) (R_geq rfl rfl (G_yes (edT g9 rfl) (R_pickF (edF g10 rfl) rfl ?_)))))))
       exact ⟨t1,(edT g9 rfl),(dec_orF g10),h1,trivial⟩
     intro T H ⟨t1,t57,t65,h1,_⟩
     refine R_pickT t57 t65 ?_
     exact ⟨t1,(dec_andT g9),h1,trivial⟩
    ·
     refine G_n (edF g9 rfl) (G_n (edF g9 rfl) (G_n (edF g9 rfl) (G_n (edF g9 rfl) (G_raw (@rfl V (V.raw undef)) (G_raw (@rfl V (V.raw undef)) (G_raw (@rfl V (V.raw undef)) (G_n (edF g9 rfl) ?_)))))))
     refine R_pickF (edF g9 rfl) rfl ?_
     exact ⟨t1,(dec_andF g9),h1,trivial⟩
   intro T H ⟨t1,t66,h1,_⟩
   refine R_mv t66 (R_e ?_)
   refine W_seq_if rfl (fun c11=>?_) fun c11=>?_
   ·
    refine W_seq_skip ?_
    refine W_if rfl (fun c12=>?_) fun c12=>?_
    ·
     refine W_r (R_mv rfl (R_e (W_ret (y5 _ _ ?_))))
     refine Ret_1 (@rfl V (iV (2:Int))) (fz_int ?_)
     · simp only [rgt,kLo,kHi]; repeat (first|rfl|omega|split)
    · exact (c12 c11).elim
   refine W_r (R_fk t1 h1 (R_lk rfl h1 rfl rfl (R_eql rfl rfl (R_mv rfl ?_))))
   refine Ops_seg 9 (fun T H=>T 53=(V.bool (decide (((f.op)=(2:Int))∧(((f.arg) < (0:Int))∨((64:Int)≤(f.arg))))))∧T 79=(V.bool (decide (((f.op)=(3:Int))∧(((f.arg) < (0:Int))∨((1048576:Int) < (f.arg))))))∧H 1=(bk 1 24 3 [[(iV (f.op)),(iV (f.arg)),(V.sl (List.map cF (f.kids)))]])∧True) ?_ ?_
   ·
    by_cases g13:(f.op)=(3:Int)
    ·
     refine G_yes (edT g13 rfl) (R_fk t1 h1 (G_yes (edT g13 rfl) (R_lk rfl h1 rfl rfl (G_yes (edT g13 rfl) (R_lss rfl rfl (G_yes (edT g13 rfl) (R_mv rfl ?_)))))))
     refine Ops_seg 4 (fun T H=>T 53=(V.bool (decide (((f.op)=(2:Int))∧(((f.arg) < (0:Int))∨((64:Int)≤(f.arg))))))∧T 70=(V.bool true)∧T 78=(V.bool (decide (((f.arg) < (0:Int))∨((1048576:Int) < (f.arg)))))∧H 1=(bk 1 24 3 [[(iV (f.op)),(iV (f.arg)),(V.sl (List.map cF (f.kids)))]])∧True) ?_ ?_
     ·
      by_cases g14:(f.arg) < (0:Int)
      ·
       refine G_n (edT g14 rfl) (G_n (edT g14 rfl) (G_n (edT g14 rfl) (G_yes (edT g13 rfl) (R_pickT (edT g14 rfl) rfl ?_))))
       exact ⟨rfl,(edT g13 rfl),(dec_orT g14),h1,trivial⟩
      ·
       refine G_yes (edF g14 rfl) (R_fk t1 h1 (G_yes (edF g14 rfl) (R_lk rfl h1 rfl rfl (G_yes (edF g14 rfl) (R_gtr rfl rfl (G_yes (edT g13 rfl) (R_pickF (edF g14 rfl) rfl ?_)))))))
       exact ⟨rfl,(edT g13 rfl),(dec_orF g14),h1,trivial⟩
     intro T H ⟨t53,t70,t78,h1,_⟩
     refine R_pickT t70 t78 ?_
     exact ⟨t53,(dec_andT g13),h1,trivial⟩
    ·
     refine G_n (edF g13 rfl) (G_n (edF g13 rfl) (G_n (edF g13 rfl) (G_n (edF g13 rfl) (G_raw (@rfl V (V.raw undef)) (G_raw (@rfl V (V.raw undef)) (G_raw (@rfl V (V.raw undef)) (G_n (edF g13 rfl) ?_)))))))
     refine R_pickF (edF g13 rfl) rfl ?_
     exact ⟨rfl,(dec_andF g13),h1,trivial⟩
   intro T H ⟨t53,t79,h1,_⟩
   refine R_mv t79 (R_e ?_)
   refine W_if rfl (fun c15=>?_) fun c15=>?_
   ·
    refine W_r (R_mv rfl (R_e (W_ret (y5 _ _ ?_))))
    refine Ret_1 (@rfl V (iV (2:Int))) (fz_int ?_)
    · simp only [rgt,kLo,kHi]; repeat (first|rfl|omega|split)
   refine W_skip (n5 _ _ (.done (W_r (R_mv rfl (R_e (W_ret ?_))))))
   refine Ret_1 (@rfl V (iV (0:Int))) (fz_int ?_)
   · simp only [rgt,kLo,kHi]; repeat (first|rfl|omega|split)
  · exact (c3 c2).elim
 refine W_seq_seq (W_r (R_eql rfl rfl (R_mv rfl (R_e ?_))))
 refine W_seq_if rfl (fun c16=>?_) fun c16=>?_
 ·
  refine W_seq_skip ?_
  refine W_if rfl (fun c17=>?_) fun c17=>?_
  ·
   refine W_t (R_mv rfl (R_eql rfl rfl (R_mv rfl (R_e (n1 _ _ (.done (W_r ?_)))))))
   refine R_fk rfl rfl (R_lk rfl rfl rfl rfl (R_eql rfl rfl (R_mv rfl ?_)))
   refine Ops_seg 4 (fun T H=>T 1=(V.mp 1 1 0 0)∧T 4=(V.bool (decide (((f.kids.length:Nat):Int)=(0:Int))))∧T 40=(V.bool (decide (((f.op)=(2:Int))∨((f.op)=(3:Int)))))∧H 1=(bk 1 24 3 [[(iV (f.op)),(iV (f.arg)),(V.sl (List.map cF (f.kids)))]])∧True) ?_ ?_
   ·
    by_cases g18:(f.op)=(2:Int)
    ·
     refine G_n (edT g18 rfl) (G_n (edT g18 rfl) (G_n (edT g18 rfl) (R_pickT (edT g18 rfl) rfl ?_)))
     exact ⟨rfl,rfl,(dec_orT g18),rfl,trivial⟩
    ·
     refine G_yes (edF g18 rfl) (R_fk rfl rfl (G_yes (edF g18 rfl) (R_lk rfl rfl rfl rfl (G_yes (edF g18 rfl) (R_eql rfl rfl (R_pickF (edF g18 rfl) rfl ?_))))))
     exact ⟨rfl,rfl,(dec_orF g18),rfl,trivial⟩
   intro T H ⟨t1,t4,t40,h1,_⟩
   refine R_mv t40 (R_e (W_seq_blockg fun Q19 n19 x19 y19 z19=>(W_r (R_mv t4 (R_not rfl (R_mv rfl ?_))))))
   refine Ops_seg 8 (fun T H=>T 1=(V.mp 1 1 0 0)∧T 52=(V.bool (decide ((¬(((f.kids.length:Nat):Int)=(0:Int)))∨((¬(((f.op)=(2:Int))∨((f.op)=(3:Int))))∧((f.arg)≠(0:Int))))))∧H 1=(bk 1 24 3 [[(iV (f.op)),(iV (f.arg)),(V.sl (List.map cF (f.kids)))]])∧True) ?_ ?_
   ·
    by_cases g20: ¬(((f.kids.length:Nat):Int)=(0:Int))
    ·
     refine G_n (edT g20 rfl) (G_n (edT g20 rfl) (G_n (edT g20 rfl) (G_raw (@rfl V (V.raw undef)) (G_raw (@rfl V (V.raw undef)) (G_raw (@rfl V (V.raw undef)) (G_n (edT g20 rfl) (R_pickT (edT g20 rfl) rfl ?_)))))))
     exact ⟨t1,(dec_orT g20),h1,trivial⟩
    ·
     refine G_yes (edF g20 rfl) (R_mv rfl (G_yes (edF g20 rfl) (R_not rfl (G_yes (edF g20 rfl) (R_mv rfl ?_)))))
     refine Ops_seg 4 (fun T H=>T 1=(V.mp 1 1 0 0)∧T 44=(V.bool false)∧T 51=(V.bool (decide ((¬(((f.op)=(2:Int))∨((f.op)=(3:Int))))∧((f.arg)≠(0:Int)))))∧H 1=(bk 1 24 3 [[(iV (f.op)),(iV (f.arg)),(V.sl (List.map cF (f.kids)))]])∧True) ?_ ?_
     ·
      by_cases g21: ¬(((f.op)=(2:Int))∨((f.op)=(3:Int)))
      ·
       refine G_yes (edT g21 rfl) (R_fk t1 h1 (G_yes (edT g21 rfl) (R_lk rfl h1 rfl rfl (G_yes (edT g21 rfl) (R_neq rfl rfl (G_yes (edF g20 rfl) (R_pickT (edT g21 rfl) rfl ?_)))))))
       exact ⟨t1,(edF g20 rfl),(dec_andT g21),h1,trivial⟩
      ·
       refine G_n (edF g21 rfl) (G_n (edF g21 rfl) (G_n (edF g21 rfl) (G_yes (edF g20 rfl) (R_pickF (edF g21 rfl) rfl ?_))))
       exact ⟨t1,(edF g20 rfl),(dec_andF g21),h1,trivial⟩
     intro T H ⟨t1,t44,t51,h1,_⟩
     refine R_pickF t44 t51 ?_
     exact ⟨t1,(dec_orF g20),h1,trivial⟩
   intro T H ⟨t1,t52,h1,_⟩
   refine R_mv t52 (R_e ?_)
   refine W_if rfl (fun c22=>?_) fun c22=>?_
   ·
    refine W_r (R_mv rfl (R_e (W_ret (y19 _ _ ?_))))
    refine Ret_1 (@rfl V (iV (1:Int))) (fz_int ?_)
    · simp only [rgt,kLo,kHi]; repeat (first|rfl|omega|split)
   refine W_seq_seq (W_r (R_fk t1 h1 (R_lk rfl h1 rfl rfl (R_eql rfl rfl (R_mv rfl ?_)))))
   refine Ops_seg 9 (fun T H=>T 1=(V.mp 1 1 0 0)∧T 66=(V.bool (decide (((f.op)=(2:Int))∧(((f.arg) < (0:Int))∨((64:Int)≤(f.arg))))))∧H 1=(bk 1 24 3 [[(iV (f.op)),(iV (f.arg)),(V.sl (List.map cF (f.kids)))]])∧True) ?_ ?_
   ·
    by_cases g23:(f.op)=(2:Int)
    ·
     refine G_yes (edT g23 rfl) (R_fk t1 h1 (G_yes (edT g23 rfl) (R_lk rfl h1 rfl rfl (G_yes (edT g23 rfl) (R_lss rfl rfl (G_yes (edT g23 rfl) (R_mv rfl ?_)))))))
     refine Ops_seg 4 (fun T H=>T 1=(V.mp 1 1 0 0)∧T 57=(V.bool true)∧T 65=(V.bool (decide (((f.arg) < (0:Int))∨((64:Int)≤(f.arg)))))∧H 1=(bk 1 24 3 [[(iV (f.op)),(iV (f.arg)),(V.sl (List.map cF (f.kids)))]])∧True) ?_ ?_
     ·
      by_cases g24:(f.arg) < (0:Int)
      ·
       refine G_n (edT g24 rfl) (G_n (edT g24 rfl) (G_n (edT g24 rfl) (G_yes (edT g23 rfl) (R_pickT (edT g24 rfl) rfl ?_))))
       exact ⟨t1,(edT g23 rfl),(dec_orT g24),h1,trivial⟩
      ·
       refine G_yes (edF g24 rfl) (R_fk t1 h1 (G_yes (edF g24 rfl) (R_lk rfl h1 rfl rfl (G_yes (edF g24 rfl) (R_geq rfl rfl (G_yes (edT g23 rfl) (R_pickF (edF g24 rfl) rfl ?_)))))))
       exact ⟨t1,(edT g23 rfl),(dec_orF g24),h1,trivial⟩
     intro T H ⟨t1,t57,t65,h1,_⟩
     refine R_pickT t57 t65 ?_
     exact ⟨t1,(dec_andT g23),h1,trivial⟩
    ·
     refine G_n (edF g23 rfl) (G_n (edF g23 rfl) (G_n (edF g23 rfl) (G_n (edF g23 rfl) (G_raw (@rfl V (V.raw undef)) (G_raw (@rfl V (V.raw undef)) (G_raw (@rfl V (V.raw undef)) (G_n (edF g23 rfl) ?_)))))))
     refine R_pickF (edF g23 rfl) rfl ?_
     exact ⟨t1,(dec_andF g23),h1,trivial⟩
   intro T H ⟨t1,t66,h1,_⟩
   refine R_mv t66 (R_e ?_)
   refine W_seq_if rfl (fun c25=>?_) fun c25=>?_
   ·
    refine W_seq_skip ?_
    refine W_if rfl (fun c26=>?_) fun c26=>?_
    ·
     refine W_r (R_mv rfl (R_e (W_ret (y19 _ _ ?_))))
     refine Ret_1 (@rfl V (iV (2:Int))) (fz_int ?_)
     · simp only [rgt,kLo,kHi]; repeat (first|rfl|omega|split)
    · exact (c26 c25).elim
   refine W_r (R_fk t1 h1 (R_lk rfl h1 rfl rfl (R_eql rfl rfl (R_mv rfl ?_))))
   refine Ops_seg 9 (fun T H=>T 53=(V.bool (decide (((f.op)=(2:Int))∧(((f.arg) < (0:Int))∨((64:Int)≤(f.arg))))))∧T 79=(V.bool (decide (((f.op)=(3:Int))∧(((f.arg) < (0:Int))∨((1048576:Int) < (f.arg))))))∧H 1=(bk 1 24 3 [[(iV (f.op)),(iV (f.arg)),(V.sl (List.map cF (f.kids)))]])∧True) ?_ ?_
   ·
    by_cases g27:(f.op)=(3:Int)
    ·
     refine G_yes (edT g27 rfl) (R_fk t1 h1 (G_yes (edT g27 rfl) (R_lk rfl h1 rfl rfl (G_yes (edT g27 rfl) (R_lss rfl rfl (G_yes (edT g27 rfl) (R_mv rfl ?_)))))))
     refine Ops_seg 4 (fun T H=>T 53=(V.bool (decide (((f.op)=(2:Int))∧(((f.arg) < (0:Int))∨((64:Int)≤(f.arg))))))∧T 70=(V.bool true)∧T 78=(V.bool (decide (((f.arg) < (0:Int))∨((1048576:Int) < (f.arg)))))∧H 1=(bk 1 24 3 [[(iV (f.op)),(iV (f.arg)),(V.sl (List.map cF (f.kids)))]])∧True) ?_ ?_
     ·
      by_cases g28:(f.arg) < (0:Int)
      ·
       refine G_n (edT g28 rfl) (G_n (edT g28 rfl) (G_n (edT g28 rfl) (G_yes (edT g27 rfl) (R_pickT (edT g28 rfl) rfl ?_))))
       exact ⟨rfl,(edT g27 rfl),(dec_orT g28),h1,trivial⟩
      ·
       refine G_yes (edF g28 rfl) (R_fk t1 h1 (G_yes (edF g28 rfl) (R_lk rfl h1 rfl rfl (G_yes (edF g28 rfl) (R_gtr rfl rfl (G_yes (edT g27 rfl) (R_pickF (edF g28 rfl) rfl ?_)))))))
       exact ⟨rfl,(edT g27 rfl),(dec_orF g28),h1,trivial⟩
     intro T H ⟨t53,t70,t78,h1,_⟩
     refine R_pickT t70 t78 ?_
     exact ⟨t53,(dec_andT g27),h1,trivial⟩
    ·
     refine G_n (edF g27 rfl) (G_n (edF g27 rfl) (G_n (edF g27 rfl) (G_n (edF g27 rfl) (G_raw (@rfl V (V.raw undef)) (G_raw (@rfl V (V.raw undef)) (G_raw (@rfl V (V.raw undef)) (G_n (edF g27 rfl) ?_)))))))
     refine R_pickF (edF g27 rfl) rfl ?_
     exact ⟨rfl,(dec_andF g27),h1,trivial⟩
   intro T H ⟨t53,t79,h1,_⟩
   refine R_mv t79 (R_e ?_)
   refine W_if rfl (fun c29=>?_) fun c29=>?_
   ·
    refine W_r (R_mv rfl (R_e (W_ret (y19 _ _ ?_))))
    refine Ret_1 (@rfl V (iV (2:Int))) (fz_int ?_)
    · simp only [rgt,kLo,kHi]; repeat (first|rfl|omega|split)
   refine W_skip (n19 _ _ (.done (W_r (R_mv rfl (R_e (W_ret ?_))))))
   refine Ret_1 (@rfl V (iV (0:Int))) (fz_int ?_)
   · simp only [rgt,kLo,kHi]; repeat (first|rfl|omega|split)
  · exact (c17 c16).elim
 refine W_r (R_eql rfl rfl (R_mv rfl (R_e ?_)))
 refine W_if rfl (fun c30=>?_) fun c30=>?_
 ·
  refine W_t (R_mv rfl (R_eql rfl rfl (R_mv rfl (R_e (n1 _ _ (.done (W_r ?_)))))))
  refine R_fk rfl rfl (R_lk rfl rfl rfl rfl (R_eql rfl rfl (R_mv rfl ?_)))
  refine Ops_seg 4 (fun T H=>T 1=(V.mp 1 1 0 0)∧T 4=(V.bool (decide (((f.kids.length:Nat):Int)=(0:Int))))∧T 40=(V.bool (decide (((f.op)=(2:Int))∨((f.op)=(3:Int)))))∧H 1=(bk 1 24 3 [[(iV (f.op)),(iV (f.arg)),(V.sl (List.map cF (f.kids)))]])∧True) ?_ ?_
  ·
   by_cases g31:(f.op)=(2:Int)
   ·
    refine G_n (edT g31 rfl) (G_n (edT g31 rfl) (G_n (edT g31 rfl) (R_pickT (edT g31 rfl) rfl ?_)))
    exact ⟨rfl,rfl,(dec_orT g31),rfl,trivial⟩
   ·
    refine G_yes (edF g31 rfl) (R_fk rfl rfl (G_yes (edF g31 rfl) (R_lk rfl rfl rfl rfl (G_yes (edF g31 rfl) (R_eql rfl rfl (R_pickF (edF g31 rfl) rfl ?_))))))
    exact ⟨rfl,rfl,(dec_orF g31),rfl,trivial⟩
  intro T H ⟨t1,t4,t40,h1,_⟩
  refine R_mv t40 (R_e (W_seq_blockg fun Q32 n32 x32 y32 z32=>(W_r (R_mv t4 (R_not rfl (R_mv rfl ?_))))))
  refine Ops_seg 8 (fun T H=>T 1=(V.mp 1 1 0 0)∧T 52=(V.bool (decide ((¬(((f.kids.length:Nat):Int)=(0:Int)))∨((¬(((f.op)=(2:Int))∨((f.op)=(3:Int))))∧((f.arg)≠(0:Int))))))∧H 1=(bk 1 24 3 [[(iV (f.op)),(iV (f.arg)),(V.sl (List.map cF (f.kids)))]])∧True) ?_ ?_
  ·
   by_cases g33: ¬(((f.kids.length:Nat):Int)=(0:Int))
   ·
    refine G_n (edT g33 rfl) (G_n (edT g33 rfl) (G_n (edT g33 rfl) (G_raw (@rfl V (V.raw undef)) (G_raw (@rfl V (V.raw undef)) (G_raw (@rfl V (V.raw undef)) (G_n (edT g33 rfl) (R_pickT (edT g33 rfl) rfl ?_)))))))
    exact ⟨t1,(dec_orT g33),h1,trivial⟩
   ·
    refine G_yes (edF g33 rfl) (R_mv rfl (G_yes (edF g33 rfl) (R_not rfl (G_yes (edF g33 rfl) (R_mv rfl ?_)))))
    refine Ops_seg 4 (fun T H=>T 1=(V.mp 1 1 0 0)∧T 44=(V.bool false)∧T 51=(V.bool (decide ((¬(((f.op)=(2:Int))∨((f.op)=(3:Int))))∧((f.arg)≠(0:Int)))))∧H 1=(bk 1 24 3 [[(iV (f.op)),(iV (f.arg)),(V.sl (List.map cF (f.kids)))]])∧True) ?_ ?_
    ·
     by_cases g34: ¬(((f.op)=(2:Int))∨((f.op)=(3:Int)))
     ·
      refine G_yes (edT g34 rfl) (R_fk t1 h1 (G_yes (edT g34 rfl) (R_lk rfl h1 rfl rfl (G_yes (edT g34 rfl) (R_neq rfl rfl (G_yes (edF g33 rfl) (R_pickT (edT g34 rfl) rfl ?_)))))))
      exact ⟨t1,(edF g33 rfl),(dec_andT g34),h1,trivial⟩
     ·
      refine G_n (edF g34 rfl) (G_n (edF g34 rfl) (G_n (edF g34 rfl) (G_yes (edF g33 rfl) (R_pickF (edF g34 rfl) rfl ?_))))
      exact ⟨t1,(edF g33 rfl),(dec_andF g34),h1,trivial⟩
    intro T H ⟨t1,t44,t51,h1,_⟩
    refine R_pickF t44 t51 ?_
    exact ⟨t1,(dec_orF g33),h1,trivial⟩
  intro T H ⟨t1,t52,h1,_⟩
  refine R_mv t52 (R_e ?_)
  refine W_if rfl (fun c35=>?_) fun c35=>?_
  ·
   refine W_r (R_mv rfl (R_e (W_ret (y32 _ _ ?_))))
   refine Ret_1 (@rfl V (iV (1:Int))) (fz_int ?_)
   · simp only [rgt,kLo,kHi]; repeat (first|rfl|omega|split)
  refine W_seq_seq (W_r (R_fk t1 h1 (R_lk rfl h1 rfl rfl (R_eql rfl rfl (R_mv rfl ?_)))))
  refine Ops_seg 9 (fun T H=>T 1=(V.mp 1 1 0 0)∧T 66=(V.bool (decide (((f.op)=(2:Int))∧(((f.arg) < (0:Int))∨((64:Int)≤(f.arg))))))∧H 1=(bk 1 24 3 [[(iV (f.op)),(iV (f.arg)),(V.sl (List.map cF (f.kids)))]])∧True) ?_ ?_
  ·
   by_cases g36:(f.op)=(2:Int)
   ·
    refine G_yes (edT g36 rfl) (R_fk t1 h1 (G_yes (edT g36 rfl) (R_lk rfl h1 rfl rfl (G_yes (edT g36 rfl) (R_lss rfl rfl (G_yes (edT g36 rfl) (R_mv rfl ?_)))))))
    refine Ops_seg 4 (fun T H=>T 1=(V.mp 1 1 0 0)∧T 57=(V.bool true)∧T 65=(V.bool (decide (((f.arg) < (0:Int))∨((64:Int)≤(f.arg)))))∧H 1=(bk 1 24 3 [[(iV (f.op)),(iV (f.arg)),(V.sl (List.map cF (f.kids)))]])∧True) ?_ ?_
    ·
     by_cases g37:(f.arg) < (0:Int)
     ·
      refine G_n (edT g37 rfl) (G_n (edT g37 rfl) (G_n (edT g37 rfl) (G_yes (edT g36 rfl) (R_pickT (edT g37 rfl) rfl ?_))))
      exact ⟨t1,(edT g36 rfl),(dec_orT g37),h1,trivial⟩
     ·
      refine G_yes (edF g37 rfl) (R_fk t1 h1 (G_yes (edF g37 rfl) (R_lk rfl h1 rfl rfl (G_yes (edF g37 rfl) (R_geq rfl rfl (G_yes (edT g36 rfl) (R_pickF (edF g37 rfl) rfl ?_)))))))
      exact ⟨t1,(edT g36 rfl),(dec_orF g37),h1,trivial⟩
    intro T H ⟨t1,t57,t65,h1,_⟩
    refine R_pickT t57 t65 ?_
    exact ⟨t1,(dec_andT g36),h1,trivial⟩
   ·
    refine G_n (edF g36 rfl) (G_n (edF g36 rfl) (G_n (edF g36 rfl) (G_n (edF g36 rfl) (G_raw (@rfl V (V.raw undef)) (G_raw (@rfl V (V.raw undef)) (G_raw (@rfl V (V.raw undef)) (G_n (edF g36 rfl) ?_)))))))
    refine R_pickF (edF g36 rfl) rfl ?_
    exact ⟨t1,(dec_andF g36),h1,trivial⟩
  intro T H ⟨t1,t66,h1,_⟩
  refine R_mv t66 (R_e ?_)
  refine W_seq_if rfl (fun c38=>?_) fun c38=>?_
  ·
   refine W_seq_skip ?_
   refine W_if rfl (fun c39=>?_) fun c39=>?_
   ·
    refine W_r (R_mv rfl (R_e (W_ret (y32 _ _ ?_))))
    refine Ret_1 (@rfl V (iV (2:Int))) (fz_int ?_)
    · simp only [rgt,kLo,kHi]; repeat (first|rfl|omega|split)
   · exact (c39 c38).elim
  refine W_r (R_fk t1 h1 (R_lk rfl h1 rfl rfl (R_eql rfl rfl (R_mv rfl ?_))))
  refine Ops_seg 9 (fun T H=>T 53=(V.bool (decide (((f.op)=(2:Int))∧(((f.arg) < (0:Int))∨((64:Int)≤(f.arg))))))∧T 79=(V.bool (decide (((f.op)=(3:Int))∧(((f.arg) < (0:Int))∨((1048576:Int) < (f.arg))))))∧H 1=(bk 1 24 3 [[(iV (f.op)),(iV (f.arg)),(V.sl (List.map cF (f.kids)))]])∧True) ?_ ?_
  ·
   by_cases g40:(f.op)=(3:Int)
   ·
    refine G_yes (edT g40 rfl) (R_fk t1 h1 (G_yes (edT g40 rfl) (R_lk rfl h1 rfl rfl (G_yes (edT g40 rfl) (R_lss rfl rfl (G_yes (edT g40 rfl) (R_mv rfl ?_)))))))
    refine Ops_seg 4 (fun T H=>T 53=(V.bool (decide (((f.op)=(2:Int))∧(((f.arg) < (0:Int))∨((64:Int)≤(f.arg))))))∧T 70=(V.bool true)∧T 78=(V.bool (decide (((f.arg) < (0:Int))∨((1048576:Int) < (f.arg)))))∧H 1=(bk 1 24 3 [[(iV (f.op)),(iV (f.arg)),(V.sl (List.map cF (f.kids)))]])∧True) ?_ ?_
    ·
     by_cases g41:(f.arg) < (0:Int)
     ·
      refine G_n (edT g41 rfl) (G_n (edT g41 rfl) (G_n (edT g41 rfl) (G_yes (edT g40 rfl) (R_pickT (edT g41 rfl) rfl ?_))))
      exact ⟨rfl,(edT g40 rfl),(dec_orT g41),h1,trivial⟩
     ·
      refine G_yes (edF g41 rfl) (R_fk t1 h1 (G_yes (edF g41 rfl) (R_lk rfl h1 rfl rfl (G_yes (edF g41 rfl) (R_gtr rfl rfl (G_yes (edT g40 rfl) (R_pickF (edF g41 rfl) rfl ?_)))))))
      exact ⟨rfl,(edT g40 rfl),(dec_orF g41),h1,trivial⟩
    intro T H ⟨t53,t70,t78,h1,_⟩
    refine R_pickT t70 t78 ?_
    exact ⟨t53,(dec_andT g40),h1,trivial⟩
   ·
    refine G_n (edF g40 rfl) (G_n (edF g40 rfl) (G_n (edF g40 rfl) (G_n (edF g40 rfl) (G_raw (@rfl V (V.raw undef)) (G_raw (@rfl V (V.raw undef)) (G_raw (@rfl V (V.raw undef)) (G_n (edF g40 rfl) ?_)))))))
    refine R_pickF (edF g40 rfl) rfl ?_
    exact ⟨rfl,(dec_andF g40),h1,trivial⟩
  intro T H ⟨t53,t79,h1,_⟩
  refine R_mv t79 (R_e ?_)
  refine W_if rfl (fun c42=>?_) fun c42=>?_
  ·
   refine W_r (R_mv rfl (R_e (W_ret (y32 _ _ ?_))))
   refine Ret_1 (@rfl V (iV (2:Int))) (fz_int ?_)
   · simp only [rgt,kLo,kHi]; repeat (first|rfl|omega|split)
  refine W_skip (n32 _ _ (.done (W_r (R_mv rfl (R_e (W_ret ?_))))))
  refine Ret_1 (@rfl V (iV (0:Int))) (fz_int ?_)
  · simp only [rgt,kLo,kHi]; repeat (first|rfl|omega|split)
 refine W_seq_seq (W_r (R_eql rfl rfl (R_mv rfl (R_e ?_))))
 refine W_seq_if rfl (fun c43=>?_) fun c43=>?_
 ·
  refine W_seq_skip ?_
  refine W_if rfl (fun c44=>?_) fun c44=>?_
  ·
   refine W_t (R_mv rfl (R_eql rfl rfl (R_mv rfl (R_e (n1 _ _ (.done (W_r ?_)))))))
   refine R_fk rfl rfl (R_lk rfl rfl rfl rfl (R_eql rfl rfl (R_mv rfl ?_)))
   refine Ops_seg 4 (fun T H=>T 1=(V.mp 1 1 0 0)∧T 4=(V.bool (decide (((f.kids.length:Nat):Int)=(1:Int))))∧T 40=(V.bool (decide (((f.op)=(2:Int))∨((f.op)=(3:Int)))))∧H 1=(bk 1 24 3 [[(iV (f.op)),(iV (f.arg)),(V.sl (List.map cF (f.kids)))]])∧True) ?_ ?_
   ·
    by_cases g45:(f.op)=(2:Int)
    ·
     refine G_n (edT g45 rfl) (G_n (edT g45 rfl) (G_n (edT g45 rfl) (R_pickT (edT g45 rfl) rfl ?_)))
     exact ⟨rfl,rfl,(dec_orT g45),rfl,trivial⟩
    ·
     refine G_yes (edF g45 rfl) (R_fk rfl rfl (G_yes (edF g45 rfl) (R_lk rfl rfl rfl rfl (G_yes (edF g45 rfl) (R_eql rfl rfl (R_pickF (edF g45 rfl) rfl ?_))))))
     exact ⟨rfl,rfl,(dec_orF g45),rfl,trivial⟩
   intro T H ⟨t1,t4,t40,h1,_⟩
   refine R_mv t40 (R_e (W_seq_blockg fun Q46 n46 x46 y46 z46=>(W_r (R_mv t4 (R_not rfl (R_mv rfl ?_))))))
   refine Ops_seg 8 (fun T H=>T 1=(V.mp 1 1 0 0)∧T 52=(V.bool (decide ((¬(((f.kids.length:Nat):Int)=(1:Int)))∨((¬(((f.op)=(2:Int))∨((f.op)=(3:Int))))∧((f.arg)≠(0:Int))))))∧H 1=(bk 1 24 3 [[(iV (f.op)),(iV (f.arg)),(V.sl (List.map cF (f.kids)))]])∧True) ?_ ?_
   ·
    by_cases g47: ¬(((f.kids.length:Nat):Int)=(1:Int))
    ·
     refine G_n (edT g47 rfl) (G_n (edT g47 rfl) (G_n (edT g47 rfl) (G_raw (@rfl V (V.raw undef)) (G_raw (@rfl V (V.raw undef)) (G_raw (@rfl V (V.raw undef)) (G_n (edT g47 rfl) (R_pickT (edT g47 rfl) rfl ?_)))))))
     exact ⟨t1,(dec_orT g47),h1,trivial⟩
    ·
     refine G_yes (edF g47 rfl) (R_mv rfl (G_yes (edF g47 rfl) (R_not rfl (G_yes (edF g47 rfl) (R_mv rfl ?_)))))
     refine Ops_seg 4 (fun T H=>T 1=(V.mp 1 1 0 0)∧T 44=(V.bool false)∧T 51=(V.bool (decide ((¬(((f.op)=(2:Int))∨((f.op)=(3:Int))))∧((f.arg)≠(0:Int)))))∧H 1=(bk 1 24 3 [[(iV (f.op)),(iV (f.arg)),(V.sl (List.map cF (f.kids)))]])∧True) ?_ ?_
     ·
      by_cases g48: ¬(((f.op)=(2:Int))∨((f.op)=(3:Int)))
      ·
       refine G_yes (edT g48 rfl) (R_fk t1 h1 (G_yes (edT g48 rfl) (R_lk rfl h1 rfl rfl (G_yes (edT g48 rfl) (R_neq rfl rfl (G_yes (edF g47 rfl) (R_pickT (edT g48 rfl) rfl ?_)))))))
       exact ⟨t1,(edF g47 rfl),(dec_andT g48),h1,trivial⟩
      ·
       refine G_n (edF g48 rfl) (G_n (edF g48 rfl) (G_n (edF g48 rfl) (G_yes (edF g47 rfl) (R_pickF (edF g48 rfl) rfl ?_))))
       exact ⟨t1,(edF g47 rfl),(dec_andF g48),h1,trivial⟩
     intro T H ⟨t1,t44,t51,h1,_⟩
     refine R_pickF t44 t51 ?_
     exact ⟨t1,(dec_orF g47),h1,trivial⟩
   intro T H ⟨t1,t52,h1,_⟩
   refine R_mv t52 (R_e ?_)
   refine W_if rfl (fun c49=>?_) fun c49=>?_
   ·
    refine W_r (R_mv rfl (R_e (W_ret (y46 _ _ ?_))))
    refine Ret_1 (@rfl V (iV (1:Int))) (fz_int ?_)
    · simp only [rgt,kLo,kHi]; repeat (first|rfl|omega|split)
   refine W_seq_seq (W_r (R_fk t1 h1 (R_lk rfl h1 rfl rfl (R_eql rfl rfl (R_mv rfl ?_)))))
   refine Ops_seg 9 (fun T H=>T 1=(V.mp 1 1 0 0)∧T 66=(V.bool (decide (((f.op)=(2:Int))∧(((f.arg) < (0:Int))∨((64:Int)≤(f.arg))))))∧H 1=(bk 1 24 3 [[(iV (f.op)),(iV (f.arg)),(V.sl (List.map cF (f.kids)))]])∧True) ?_ ?_
   ·
    by_cases g50:(f.op)=(2:Int)
    ·
     refine G_yes (edT g50 rfl) (R_fk t1 h1 (G_yes (edT g50 rfl) (R_lk rfl h1 rfl rfl (G_yes (edT g50 rfl) (R_lss rfl rfl (G_yes (edT g50 rfl) (R_mv rfl ?_)))))))
     refine Ops_seg 4 (fun T H=>T 1=(V.mp 1 1 0 0)∧T 57=(V.bool true)∧T 65=(V.bool (decide (((f.arg) < (0:Int))∨((64:Int)≤(f.arg)))))∧H 1=(bk 1 24 3 [[(iV (f.op)),(iV (f.arg)),(V.sl (List.map cF (f.kids)))]])∧True) ?_ ?_
     ·
      by_cases g51:(f.arg) < (0:Int)
      ·
       refine G_n (edT g51 rfl) (G_n (edT g51 rfl) (G_n (edT g51 rfl) (G_yes (edT g50 rfl) (R_pickT (edT g51 rfl) rfl ?_))))
       exact ⟨t1,(edT g50 rfl),(dec_orT g51),h1,trivial⟩
      ·
       refine G_yes (edF g51 rfl) (R_fk t1 h1 (G_yes (edF g51 rfl) (R_lk rfl h1 rfl rfl (G_yes (edF g51 rfl) (R_geq rfl rfl (G_yes (edT g50 rfl) (R_pickF (edF g51 rfl) rfl ?_)))))))
       exact ⟨t1,(edT g50 rfl),(dec_orF g51),h1,trivial⟩
     intro T H ⟨t1,t57,t65,h1,_⟩
     refine R_pickT t57 t65 ?_
     exact ⟨t1,(dec_andT g50),h1,trivial⟩
    ·
     refine G_n (edF g50 rfl) (G_n (edF g50 rfl) (G_n (edF g50 rfl) (G_n (edF g50 rfl) (G_raw (@rfl V (V.raw undef)) (G_raw (@rfl V (V.raw undef)) (G_raw (@rfl V (V.raw undef)) (G_n (edF g50 rfl) ?_)))))))
     refine R_pickF (edF g50 rfl) rfl ?_
     exact ⟨t1,(dec_andF g50),h1,trivial⟩
   intro T H ⟨t1,t66,h1,_⟩
   refine R_mv t66 (R_e ?_)
   refine W_seq_if rfl (fun c52=>?_) fun c52=>?_
   ·
    refine W_seq_skip ?_
    refine W_if rfl (fun c53=>?_) fun c53=>?_
    ·
     refine W_r (R_mv rfl (R_e (W_ret (y46 _ _ ?_))))
     refine Ret_1 (@rfl V (iV (2:Int))) (fz_int ?_)
     · simp only [rgt,kLo,kHi]; repeat (first|rfl|omega|split)
    · exact (c53 c52).elim
   refine W_r (R_fk t1 h1 (R_lk rfl h1 rfl rfl (R_eql rfl rfl (R_mv rfl ?_))))
   refine Ops_seg 9 (fun T H=>T 53=(V.bool (decide (((f.op)=(2:Int))∧(((f.arg) < (0:Int))∨((64:Int)≤(f.arg))))))∧T 79=(V.bool (decide (((f.op)=(3:Int))∧(((f.arg) < (0:Int))∨((1048576:Int) < (f.arg))))))∧H 1=(bk 1 24 3 [[(iV (f.op)),(iV (f.arg)),(V.sl (List.map cF (f.kids)))]])∧True) ?_ ?_
   ·
    by_cases g54:(f.op)=(3:Int)
    ·
     refine G_yes (edT g54 rfl) (R_fk t1 h1 (G_yes (edT g54 rfl) (R_lk rfl h1 rfl rfl (G_yes (edT g54 rfl) (R_lss rfl rfl (G_yes (edT g54 rfl) (R_mv rfl ?_)))))))
     refine Ops_seg 4 (fun T H=>T 53=(V.bool (decide (((f.op)=(2:Int))∧(((f.arg) < (0:Int))∨((64:Int)≤(f.arg))))))∧T 70=(V.bool true)∧T 78=(V.bool (decide (((f.arg) < (0:Int))∨((1048576:Int) < (f.arg)))))∧H 1=(bk 1 24 3 [[(iV (f.op)),(iV (f.arg)),(V.sl (List.map cF (f.kids)))]])∧True) ?_ ?_
     ·
      by_cases g55:(f.arg) < (0:Int)
      ·
       refine G_n (edT g55 rfl) (G_n (edT g55 rfl) (G_n (edT g55 rfl) (G_yes (edT g54 rfl) (R_pickT (edT g55 rfl) rfl ?_))))
       exact ⟨rfl,(edT g54 rfl),(dec_orT g55),h1,trivial⟩
      ·
       refine G_yes (edF g55 rfl) (R_fk t1 h1 (G_yes (edF g55 rfl) (R_lk rfl h1 rfl rfl (G_yes (edF g55 rfl) (R_gtr rfl rfl (G_yes (edT g54 rfl) (R_pickF (edF g55 rfl) rfl ?_)))))))
       exact ⟨rfl,(edT g54 rfl),(dec_orF g55),h1,trivial⟩
     intro T H ⟨t53,t70,t78,h1,_⟩
     refine R_pickT t70 t78 ?_
     exact ⟨t53,(dec_andT g54),h1,trivial⟩
    ·
     refine G_n (edF g54 rfl) (G_n (edF g54 rfl) (G_n (edF g54 rfl) (G_n (edF g54 rfl) (G_raw (@rfl V (V.raw undef)) (G_raw (@rfl V (V.raw undef)) (G_raw (@rfl V (V.raw undef)) (G_n (edF g54 rfl) ?_)))))))
     refine R_pickF (edF g54 rfl) rfl ?_
     exact ⟨rfl,(dec_andF g54),h1,trivial⟩
   intro T H ⟨t53,t79,h1,_⟩
   refine R_mv t79 (R_e ?_)
   refine W_if rfl (fun c56=>?_) fun c56=>?_
   ·
    refine W_r (R_mv rfl (R_e (W_ret (y46 _ _ ?_))))
    refine Ret_1 (@rfl V (iV (2:Int))) (fz_int ?_)
    · simp only [rgt,kLo,kHi]; repeat (first|rfl|omega|split)
   refine W_skip (n46 _ _ (.done (W_r (R_mv rfl (R_e (W_ret ?_))))))
   refine Ret_1 (@rfl V (iV (0:Int))) (fz_int ?_)
   · simp only [rgt,kLo,kHi]; repeat (first|rfl|omega|split)
  · exact (c44 c43).elim
 refine W_seq_seq (W_r (R_eql rfl rfl (R_mv rfl (R_e ?_))))
 refine W_seq_if rfl (fun c57=>?_) fun c57=>?_
 ·
  refine W_seq_skip ?_
  refine W_if rfl (fun c58=>?_) fun c58=>?_
  ·
   refine W_t (R_mv rfl (R_eql rfl rfl (R_mv rfl (R_e (n1 _ _ (.done (W_r ?_)))))))
   refine R_fk rfl rfl (R_lk rfl rfl rfl rfl (R_eql rfl rfl (R_mv rfl ?_)))
   refine Ops_seg 4 (fun T H=>T 1=(V.mp 1 1 0 0)∧T 4=(V.bool (decide (((f.kids.length:Nat):Int)=(1:Int))))∧T 40=(V.bool (decide (((f.op)=(2:Int))∨((f.op)=(3:Int)))))∧H 1=(bk 1 24 3 [[(iV (f.op)),(iV (f.arg)),(V.sl (List.map cF (f.kids)))]])∧True) ?_ ?_
   ·
    by_cases g59:(f.op)=(2:Int)
    ·
     refine G_n (edT g59 rfl) (G_n (edT g59 rfl) (G_n (edT g59 rfl) (R_pickT (edT g59 rfl) rfl ?_)))
     exact ⟨rfl,rfl,(dec_orT g59),rfl,trivial⟩
    ·
     refine G_yes (edF g59 rfl) (R_fk rfl rfl (G_yes (edF g59 rfl) (R_lk rfl rfl rfl rfl (G_yes (edF g59 rfl) (R_eql rfl rfl (R_pickF (edF g59 rfl) rfl ?_))))))
     exact ⟨rfl,rfl,(dec_orF g59),rfl,trivial⟩
   intro T H ⟨t1,t4,t40,h1,_⟩
   refine R_mv t40 (R_e (W_seq_blockg fun Q60 n60 x60 y60 z60=>(W_r (R_mv t4 (R_not rfl (R_mv rfl ?_))))))
   refine Ops_seg 8 (fun T H=>T 1=(V.mp 1 1 0 0)∧T 52=(V.bool (decide ((¬(((f.kids.length:Nat):Int)=(1:Int)))∨((¬(((f.op)=(2:Int))∨((f.op)=(3:Int))))∧((f.arg)≠(0:Int))))))∧H 1=(bk 1 24 3 [[(iV (f.op)),(iV (f.arg)),(V.sl (List.map cF (f.kids)))]])∧True) ?_ ?_
   ·
    by_cases g61: ¬(((f.kids.length:Nat):Int)=(1:Int))
    ·
     refine G_n (edT g61 rfl) (G_n (edT g61 rfl) (G_n (edT g61 rfl) (G_raw (@rfl V (V.raw undef)) (G_raw (@rfl V (V.raw undef)) (G_raw (@rfl V (V.raw undef)) (G_n (edT g61 rfl) (R_pickT (edT g61 rfl) rfl ?_)))))))
     exact ⟨t1,(dec_orT g61),h1,trivial⟩
    ·
     refine G_yes (edF g61 rfl) (R_mv rfl (G_yes (edF g61 rfl) (R_not rfl (G_yes (edF g61 rfl) (R_mv rfl ?_)))))
     refine Ops_seg 4 (fun T H=>T 1=(V.mp 1 1 0 0)∧T 44=(V.bool false)∧T 51=(V.bool (decide ((¬(((f.op)=(2:Int))∨((f.op)=(3:Int))))∧((f.arg)≠(0:Int)))))∧H 1=(bk 1 24 3 [[(iV (f.op)),(iV (f.arg)),(V.sl (List.map cF (f.kids)))]])∧True) ?_ ?_
     ·
      by_cases g62: ¬(((f.op)=(2:Int))∨((f.op)=(3:Int)))
      ·
       refine G_yes (edT g62 rfl) (R_fk t1 h1 (G_yes (edT g62 rfl) (R_lk rfl h1 rfl rfl (G_yes (edT g62 rfl) (R_neq rfl rfl (G_yes (edF g61 rfl) (R_pickT (edT g62 rfl) rfl ?_)))))))
       exact ⟨t1,(edF g61 rfl),(dec_andT g62),h1,trivial⟩
      ·
       refine G_n (edF g62 rfl) (G_n (edF g62 rfl) (G_n (edF g62 rfl) (G_yes (edF g61 rfl) (R_pickF (edF g62 rfl) rfl ?_))))
       exact ⟨t1,(edF g61 rfl),(dec_andF g62),h1,trivial⟩
     intro T H ⟨t1,t44,t51,h1,_⟩
     refine R_pickF t44 t51 ?_
     exact ⟨t1,(dec_orF g61),h1,trivial⟩
   intro T H ⟨t1,t52,h1,_⟩
   refine R_mv t52 (R_e ?_)
   refine W_if rfl (fun c63=>?_) fun c63=>?_
   ·
    refine W_r (R_mv rfl (R_e (W_ret (y60 _ _ ?_))))
    refine Ret_1 (@rfl V (iV (1:Int))) (fz_int ?_)
    · simp only [rgt,kLo,kHi]; repeat (first|rfl|omega|split)
   refine W_seq_seq (W_r (R_fk t1 h1 (R_lk rfl h1 rfl rfl (R_eql rfl rfl (R_mv rfl ?_)))))
   refine Ops_seg 9 (fun T H=>T 1=(V.mp 1 1 0 0)∧T 66=(V.bool (decide (((f.op)=(2:Int))∧(((f.arg) < (0:Int))∨((64:Int)≤(f.arg))))))∧H 1=(bk 1 24 3 [[(iV (f.op)),(iV (f.arg)),(V.sl (List.map cF (f.kids)))]])∧True) ?_ ?_
   ·
    by_cases g64:(f.op)=(2:Int)
    ·
     refine G_yes (edT g64 rfl) (R_fk t1 h1 (G_yes (edT g64 rfl) (R_lk rfl h1 rfl rfl (G_yes (edT g64 rfl) (R_lss rfl rfl (G_yes (edT g64 rfl) (R_mv rfl ?_)))))))
     refine Ops_seg 4 (fun T H=>T 1=(V.mp 1 1 0 0)∧T 57=(V.bool true)∧T 65=(V.bool (decide (((f.arg) < (0:Int))∨((64:Int)≤(f.arg)))))∧H 1=(bk 1 24 3 [[(iV (f.op)),(iV (f.arg)),(V.sl (List.map cF (f.kids)))]])∧True) ?_ ?_
     ·
      by_cases g65:(f.arg) < (0:Int)
      ·
       refine G_n (edT g65 rfl) (G_n (edT g65 rfl) (G_n (edT g65 rfl) (G_yes (edT g64 rfl) (R_pickT (edT g65 rfl) rfl ?_))))
       exact ⟨t1,(edT g64 rfl),(dec_orT g65),h1,trivial⟩
      ·
       refine G_yes (edF g65 rfl) (R_fk t1 h1 (G_yes (edF g65 rfl) (R_lk rfl h1 rfl rfl (G_yes (edF g65 rfl) (R_geq rfl rfl (G_yes (edT g64 rfl) (R_pickF (edF g65 rfl) rfl ?_)))))))
       exact ⟨t1,(edT g64 rfl),(dec_orF g65),h1,trivial⟩
     intro T H ⟨t1,t57,t65,h1,_⟩
     refine R_pickT t57 t65 ?_
     exact ⟨t1,(dec_andT g64),h1,trivial⟩
    ·
     refine G_n (edF g64 rfl) (G_n (edF g64 rfl) (G_n (edF g64 rfl) (G_n (edF g64 rfl) (G_raw (@rfl V (V.raw undef)) (G_raw (@rfl V (V.raw undef)) (G_raw (@rfl V (V.raw undef)) (G_n (edF g64 rfl) ?_)))))))
     refine R_pickF (edF g64 rfl) rfl ?_
     exact ⟨t1,(dec_andF g64),h1,trivial⟩
   intro T H ⟨t1,t66,h1,_⟩
   refine R_mv t66 (R_e ?_)
   refine W_seq_if rfl (fun c66=>?_) fun c66=>?_
   ·
    refine W_seq_skip ?_
    refine W_if rfl (fun c67=>?_) fun c67=>?_
    ·
     refine W_r (R_mv rfl (R_e (W_ret (y60 _ _ ?_))))
     refine Ret_1 (@rfl V (iV (2:Int))) (fz_int ?_)
     · simp only [rgt,kLo,kHi]; repeat (first|rfl|omega|split)
    · exact (c67 c66).elim
   refine W_r (R_fk t1 h1 (R_lk rfl h1 rfl rfl (R_eql rfl rfl (R_mv rfl ?_))))
   refine Ops_seg 9 (fun T H=>T 53=(V.bool (decide (((f.op)=(2:Int))∧(((f.arg) < (0:Int))∨((64:Int)≤(f.arg))))))∧T 79=(V.bool (decide (((f.op)=(3:Int))∧(((f.arg) < (0:Int))∨((1048576:Int) < (f.arg))))))∧H 1=(bk 1 24 3 [[(iV (f.op)),(iV (f.arg)),(V.sl (List.map cF (f.kids)))]])∧True) ?_ ?_
   ·
    by_cases g68:(f.op)=(3:Int)
    ·
     refine G_yes (edT g68 rfl) (R_fk t1 h1 (G_yes (edT g68 rfl) (R_lk rfl h1 rfl rfl (G_yes (edT g68 rfl) (R_lss rfl rfl (G_yes (edT g68 rfl) (R_mv rfl ?_)))))))
     refine Ops_seg 4 (fun T H=>T 53=(V.bool (decide (((f.op)=(2:Int))∧(((f.arg) < (0:Int))∨((64:Int)≤(f.arg))))))∧T 70=(V.bool true)∧T 78=(V.bool (decide (((f.arg) < (0:Int))∨((1048576:Int) < (f.arg)))))∧H 1=(bk 1 24 3 [[(iV (f.op)),(iV (f.arg)),(V.sl (List.map cF (f.kids)))]])∧True) ?_ ?_
     ·
      by_cases g69:(f.arg) < (0:Int)
      ·
       refine G_n (edT g69 rfl) (G_n (edT g69 rfl) (G_n (edT g69 rfl) (G_yes (edT g68 rfl) (R_pickT (edT g69 rfl) rfl ?_))))
       exact ⟨rfl,(edT g68 rfl),(dec_orT g69),h1,trivial⟩
      ·
       refine G_yes (edF g69 rfl) (R_fk t1 h1 (G_yes (edF g69 rfl) (R_lk rfl h1 rfl rfl (G_yes (edF g69 rfl) (R_gtr rfl rfl (G_yes (edT g68 rfl) (R_pickF (edF g69 rfl) rfl ?_)))))))
       exact ⟨rfl,(edT g68 rfl),(dec_orF g69),h1,trivial⟩
     intro T H ⟨t53,t70,t78,h1,_⟩
     refine R_pickT t70 t78 ?_
     exact ⟨t53,(dec_andT g68),h1,trivial⟩
    ·
     refine G_n (edF g68 rfl) (G_n (edF g68 rfl) (G_n (edF g68 rfl) (G_n (edF g68 rfl) (G_raw (@rfl V (V.raw undef)) (G_raw (@rfl V (V.raw undef)) (G_raw (@rfl V (V.raw undef)) (G_n (edF g68 rfl) ?_)))))))
     refine R_pickF (edF g68 rfl) rfl ?_
     exact ⟨rfl,(dec_andF g68),h1,trivial⟩
   intro T H ⟨t53,t79,h1,_⟩
   refine R_mv t79 (R_e ?_)
   refine W_if rfl (fun c70=>?_) fun c70=>?_
   ·
    refine W_r (R_mv rfl (R_e (W_ret (y60 _ _ ?_))))
    refine Ret_1 (@rfl V (iV (2:Int))) (fz_int ?_)
    · simp only [rgt,kLo,kHi]; repeat (first|rfl|omega|split)
   refine W_skip (n60 _ _ (.done (W_r (R_mv rfl (R_e (W_ret ?_))))))
   refine Ret_1 (@rfl V (iV (0:Int))) (fz_int ?_)
   · simp only [rgt,kLo,kHi]; repeat (first|rfl|omega|split)
  · exact (c58 c57).elim
 refine W_r (R_eql rfl rfl (R_mv rfl (R_e ?_)))
 refine W_if rfl (fun c71=>?_) fun c71=>?_
 ·
  refine W_t (R_mv rfl (R_eql rfl rfl (R_mv rfl (R_e (n1 _ _ (.done (W_r ?_)))))))
  refine R_fk rfl rfl (R_lk rfl rfl rfl rfl (R_eql rfl rfl (R_mv rfl ?_)))
  refine Ops_seg 4 (fun T H=>T 1=(V.mp 1 1 0 0)∧T 4=(V.bool (decide (((f.kids.length:Nat):Int)=(1:Int))))∧T 40=(V.bool (decide (((f.op)=(2:Int))∨((f.op)=(3:Int)))))∧H 1=(bk 1 24 3 [[(iV (f.op)),(iV (f.arg)),(V.sl (List.map cF (f.kids)))]])∧True) ?_ ?_
  ·
   by_cases g72:(f.op)=(2:Int)
   ·
    refine G_n (edT g72 rfl) (G_n (edT g72 rfl) (G_n (edT g72 rfl) (R_pickT (edT g72 rfl) rfl ?_)))
    exact ⟨rfl,rfl,(dec_orT g72),rfl,trivial⟩
   ·
    refine G_yes (edF g72 rfl) (R_fk rfl rfl (G_yes (edF g72 rfl) (R_lk rfl rfl rfl rfl (G_yes (edF g72 rfl) (R_eql rfl rfl (R_pickF (edF g72 rfl) rfl ?_))))))
    exact ⟨rfl,rfl,(dec_orF g72),rfl,trivial⟩
  intro T H ⟨t1,t4,t40,h1,_⟩
  refine R_mv t40 (R_e (W_seq_blockg fun Q73 n73 x73 y73 z73=>(W_r (R_mv t4 (R_not rfl (R_mv rfl ?_))))))
  refine Ops_seg 8 (fun T H=>T 1=(V.mp 1 1 0 0)∧T 52=(V.bool (decide ((¬(((f.kids.length:Nat):Int)=(1:Int)))∨((¬(((f.op)=(2:Int))∨((f.op)=(3:Int))))∧((f.arg)≠(0:Int))))))∧H 1=(bk 1 24 3 [[(iV (f.op)),(iV (f.arg)),(V.sl (List.map cF (f.kids)))]])∧True) ?_ ?_
  ·
   by_cases g74: ¬(((f.kids.length:Nat):Int)=(1:Int))
   ·
    refine G_n (edT g74 rfl) (G_n (edT g74 rfl) (G_n (edT g74 rfl) (G_raw (@rfl V (V.raw undef)) (G_raw (@rfl V (V.raw undef)) (G_raw (@rfl V (V.raw undef)) (G_n (edT g74 rfl) (R_pickT (edT g74 rfl) rfl ?_)))))))
    exact ⟨t1,(dec_orT g74),h1,trivial⟩
   ·
    refine G_yes (edF g74 rfl) (R_mv rfl (G_yes (edF g74 rfl) (R_not rfl (G_yes (edF g74 rfl) (R_mv rfl ?_)))))
    refine Ops_seg 4 (fun T H=>T 1=(V.mp 1 1 0 0)∧T 44=(V.bool false)∧T 51=(V.bool (decide ((¬(((f.op)=(2:Int))∨((f.op)=(3:Int))))∧((f.arg)≠(0:Int)))))∧H 1=(bk 1 24 3 [[(iV (f.op)),(iV (f.arg)),(V.sl (List.map cF (f.kids)))]])∧True) ?_ ?_
    ·
     by_cases g75: ¬(((f.op)=(2:Int))∨((f.op)=(3:Int)))
     ·
      refine G_yes (edT g75 rfl) (R_fk t1 h1 (G_yes (edT g75 rfl) (R_lk rfl h1 rfl rfl (G_yes (edT g75 rfl) (R_neq rfl rfl (G_yes (edF g74 rfl) (R_pickT (edT g75 rfl) rfl ?_)))))))
      exact ⟨t1,(edF g74 rfl),(dec_andT g75),h1,trivial⟩
     ·
      refine G_n (edF g75 rfl) (G_n (edF g75 rfl) (G_n (edF g75 rfl) (G_yes (edF g74 rfl) (R_pickF (edF g75 rfl) rfl ?_))))
      exact ⟨t1,(edF g74 rfl),(dec_andF g75),h1,trivial⟩
    intro T H ⟨t1,t44,t51,h1,_⟩
    refine R_pickF t44 t51 ?_
    exact ⟨t1,(dec_orF g74),h1,trivial⟩
  intro T H ⟨t1,t52,h1,_⟩
  refine R_mv t52 (R_e ?_)
  refine W_if rfl (fun c76=>?_) fun c76=>?_
  ·
   refine W_r (R_mv rfl (R_e (W_ret (y73 _ _ ?_))))
   refine Ret_1 (@rfl V (iV (1:Int))) (fz_int ?_)
   · simp only [rgt,kLo,kHi]; repeat (first|rfl|omega|split)
  refine W_seq_seq (W_r (R_fk t1 h1 (R_lk rfl h1 rfl rfl (R_eql rfl rfl (R_mv rfl ?_)))))
  refine Ops_seg 9 (fun T H=>T 1=(V.mp 1 1 0 0)∧T 66=(V.bool (decide (((f.op)=(2:Int))∧(((f.arg) < (0:Int))∨((64:Int)≤(f.arg))))))∧H 1=(bk 1 24 3 [[(iV (f.op)),(iV (f.arg)),(V.sl (List.map cF (f.kids)))]])∧True) ?_ ?_
  ·
   by_cases g77:(f.op)=(2:Int)
   ·
    refine G_yes (edT g77 rfl) (R_fk t1 h1 (G_yes (edT g77 rfl) (R_lk rfl h1 rfl rfl (G_yes (edT g77 rfl) (R_lss rfl rfl (G_yes (edT g77 rfl) (R_mv rfl ?_)))))))
    refine Ops_seg 4 (fun T H=>T 1=(V.mp 1 1 0 0)∧T 57=(V.bool true)∧T 65=(V.bool (decide (((f.arg) < (0:Int))∨((64:Int)≤(f.arg)))))∧H 1=(bk 1 24 3 [[(iV (f.op)),(iV (f.arg)),(V.sl (List.map cF (f.kids)))]])∧True) ?_ ?_
    ·
     by_cases g78:(f.arg) < (0:Int)
     ·
      refine G_n (edT g78 rfl) (G_n (edT g78 rfl) (G_n (edT g78 rfl) (G_yes (edT g77 rfl) (R_pickT (edT g78 rfl) rfl ?_))))
      exact ⟨t1,(edT g77 rfl),(dec_orT g78),h1,trivial⟩
     ·
      refine G_yes (edF g78 rfl) (R_fk t1 h1 (G_yes (edF g78 rfl) (R_lk rfl h1 rfl rfl (G_yes (edF g78 rfl) (R_geq rfl rfl (G_yes (edT g77 rfl) (R_pickF (edF g78 rfl) rfl ?_)))))))
      exact ⟨t1,(edT g77 rfl),(dec_orF g78),h1,trivial⟩
    intro T H ⟨t1,t57,t65,h1,_⟩
    refine R_pickT t57 t65 ?_
    exact ⟨t1,(dec_andT g77),h1,trivial⟩
   ·
    refine G_n (edF g77 rfl) (G_n (edF g77 rfl) (G_n (edF g77 rfl) (G_n (edF g77 rfl) (G_raw (@rfl V (V.raw undef)) (G_raw (@rfl V (V.raw undef)) (G_raw (@rfl V (V.raw undef)) (G_n (edF g77 rfl) ?_)))))))
    refine R_pickF (edF g77 rfl) rfl ?_
    exact ⟨t1,(dec_andF g77),h1,trivial⟩
  intro T H ⟨t1,t66,h1,_⟩
  refine R_mv t66 (R_e ?_)
  refine W_seq_if rfl (fun c79=>?_) fun c79=>?_
  ·
   refine W_seq_skip ?_
   refine W_if rfl (fun c80=>?_) fun c80=>?_
   ·
    refine W_r (R_mv rfl (R_e (W_ret (y73 _ _ ?_))))
    refine Ret_1 (@rfl V (iV (2:Int))) (fz_int ?_)
    · simp only [rgt,kLo,kHi]; repeat (first|rfl|omega|split)
   · exact (c80 c79).elim
  refine W_r (R_fk t1 h1 (R_lk rfl h1 rfl rfl (R_eql rfl rfl (R_mv rfl ?_))))
  refine Ops_seg 9 (fun T H=>T 53=(V.bool (decide (((f.op)=(2:Int))∧(((f.arg) < (0:Int))∨((64:Int)≤(f.arg))))))∧T 79=(V.bool (decide (((f.op)=(3:Int))∧(((f.arg) < (0:Int))∨((1048576:Int) < (f.arg))))))∧H 1=(bk 1 24 3 [[(iV (f.op)),(iV (f.arg)),(V.sl (List.map cF (f.kids)))]])∧True) ?_ ?_
  ·
   by_cases g81:(f.op)=(3:Int)
   ·
    refine G_yes (edT g81 rfl) (R_fk t1 h1 (G_yes (edT g81 rfl) (R_lk rfl h1 rfl rfl (G_yes (edT g81 rfl) (R_lss rfl rfl (G_yes (edT g81 rfl) (R_mv rfl ?_)))))))
    refine Ops_seg 4 (fun T H=>T 53=(V.bool (decide (((f.op)=(2:Int))∧(((f.arg) < (0:Int))∨((64:Int)≤(f.arg))))))∧T 70=(V.bool true)∧T 78=(V.bool (decide (((f.arg) < (0:Int))∨((1048576:Int) < (f.arg)))))∧H 1=(bk 1 24 3 [[(iV (f.op)),(iV (f.arg)),(V.sl (List.map cF (f.kids)))]])∧True) ?_ ?_
    ·
     by_cases g82:(f.arg) < (0:Int)
     ·
      refine G_n (edT g82 rfl) (G_n (edT g82 rfl) (G_n (edT g82 rfl) (G_yes (edT g81 rfl) (R_pickT (edT g82 rfl) rfl ?_))))
      exact ⟨rfl,(edT g81 rfl),(dec_orT g82),h1,trivial⟩
     ·
      refine G_yes (edF g82 rfl) (R_fk t1 h1 (G_yes (edF g82 rfl) (R_lk rfl h1 rfl rfl (G_yes (edF g82 rfl) (R_gtr rfl rfl (G_yes (edT g81 rfl) (R_pickF (edF g82 rfl) rfl ?_)))))))
      exact ⟨rfl,(edT g81 rfl),(dec_orF g82),h1,trivial⟩
    intro T H ⟨t53,t70,t78,h1,_⟩
    refine R_pickT t70 t78 ?_
    exact ⟨t53,(dec_andT g81),h1,trivial⟩
   ·
    refine G_n (edF g81 rfl) (G_n (edF g81 rfl) (G_n (edF g81 rfl) (G_n (edF g81 rfl) (G_raw (@rfl V (V.raw undef)) (G_raw (@rfl V (V.raw undef)) (G_raw (@rfl V (V.raw undef)) (G_n (edF g81 rfl) ?_)))))))
    refine R_pickF (edF g81 rfl) rfl ?_
    exact ⟨rfl,(dec_andF g81),h1,trivial⟩
  intro T H ⟨t53,t79,h1,_⟩
  refine R_mv t79 (R_e ?_)
  refine W_if rfl (fun c83=>?_) fun c83=>?_
  ·
   refine W_r (R_mv rfl (R_e (W_ret (y73 _ _ ?_))))
   refine Ret_1 (@rfl V (iV (2:Int))) (fz_int ?_)
   · simp only [rgt,kLo,kHi]; repeat (first|rfl|omega|split)
  refine W_skip (n73 _ _ (.done (W_r (R_mv rfl (R_e (W_ret ?_))))))
  refine Ret_1 (@rfl V (iV (0:Int))) (fz_int ?_)
  · simp only [rgt,kLo,kHi]; repeat (first|rfl|omega|split)
 refine W_seq_seq (W_r (R_eql rfl rfl (R_mv rfl (R_e ?_))))
 refine W_seq_if rfl (fun c84=>?_) fun c84=>?_
 ·
  refine W_seq_skip ?_
  refine W_if rfl (fun c85=>?_) fun c85=>?_
  ·
   refine W_t (R_mv rfl (R_geq rfl rfl (R_mv rfl (R_e (n1 _ _ (.done (W_r ?_)))))))
   refine R_fk rfl rfl (R_lk rfl rfl rfl rfl (R_eql rfl rfl (R_mv rfl ?_)))
   refine Ops_seg 4 (fun T H=>T 1=(V.mp 1 1 0 0)∧T 4=(V.bool (decide ((2:Int)≤((f.kids.length:Nat):Int))))∧T 40=(V.bool (decide (((f.op)=(2:Int))∨((f.op)=(3:Int)))))∧H 1=(bk 1 24 3 [[(iV (f.op)),(iV (f.arg)),(V.sl (List.map cF (f.kids)))]])∧True) ?_ ?_
   ·
    by_cases g86:(f.op)=(2:Int)
    ·
     refine G_n (edT g86 rfl) (G_n (edT g86 rfl) (G_n (edT g86 rfl) (R_pickT (edT g86 rfl) rfl ?_)))
     exact ⟨rfl,rfl,(dec_orT g86),rfl,trivial⟩
    ·
     refine G_yes (edF g86 rfl) (R_fk rfl rfl (G_yes (edF g86 rfl) (R_lk rfl rfl rfl rfl (G_yes (edF g86 rfl) (R_eql rfl rfl (R_pickF (edF g86 rfl) rfl ?_))))))
     exact ⟨rfl,rfl,(dec_orF g86),rfl,trivial⟩
   intro T H ⟨t1,t4,t40,h1,_⟩
   refine R_mv t40 (R_e (W_seq_blockg fun Q87 n87 x87 y87 z87=>(W_r (R_mv t4 (R_not rfl (R_mv rfl ?_))))))
   refine Ops_seg 8 (fun T H=>T 1=(V.mp 1 1 0 0)∧T 52=(V.bool (decide ((¬((2:Int)≤((f.kids.length:Nat):Int)))∨((¬(((f.op)=(2:Int))∨((f.op)=(3:Int))))∧((f.arg)≠(0:Int))))))∧H 1=(bk 1 24 3 [[(iV (f.op)),(iV (f.arg)),(V.sl (List.map cF (f.kids)))]])∧True) ?_ ?_
   ·
    by_cases g88: ¬((2:Int)≤((f.kids.length:Nat):Int))
    ·
     refine G_n (edT g88 rfl) (G_n (edT g88 rfl) (G_n (edT g88 rfl) (G_raw (@rfl V (V.raw undef)) (G_raw (@rfl V (V.raw undef)) (G_raw (@rfl V (V.raw undef)) (G_n (edT g88 rfl) (R_pickT (edT g88 rfl) rfl ?_)))))))
     exact ⟨t1,(dec_orT g88),h1,trivial⟩
    ·
     refine G_yes (edF g88 rfl) (R_mv rfl (G_yes (edF g88 rfl) (R_not rfl (G_yes (edF g88 rfl) (R_mv rfl ?_)))))
     refine Ops_seg 4 (fun T H=>T 1=(V.mp 1 1 0 0)∧T 44=(V.bool false)∧T 51=(V.bool (decide ((¬(((f.op)=(2:Int))∨((f.op)=(3:Int))))∧((f.arg)≠(0:Int)))))∧H 1=(bk 1 24 3 [[(iV (f.op)),(iV (f.arg)),(V.sl (List.map cF (f.kids)))]])∧True) ?_ ?_
     ·
      by_cases g89: ¬(((f.op)=(2:Int))∨((f.op)=(3:Int)))
      ·
       refine G_yes (edT g89 rfl) (R_fk t1 h1 (G_yes (edT g89 rfl) (R_lk rfl h1 rfl rfl (G_yes (edT g89 rfl) (R_neq rfl rfl (G_yes (edF g88 rfl) (R_pickT (edT g89 rfl) rfl ?_)))))))
       exact ⟨t1,(edF g88 rfl),(dec_andT g89),h1,trivial⟩
      ·
       refine G_n (edF g89 rfl) (G_n (edF g89 rfl) (G_n (edF g89 rfl) (G_yes (edF g88 rfl) (R_pickF (edF g89 rfl) rfl ?_))))
       exact ⟨t1,(edF g88 rfl),(dec_andF g89),h1,trivial⟩
     intro T H ⟨t1,t44,t51,h1,_⟩
     refine R_pickF t44 t51 ?_
     exact ⟨t1,(dec_orF g88),h1,trivial⟩
   intro T H ⟨t1,t52,h1,_⟩
   refine R_mv t52 (R_e ?_)
   refine W_if rfl (fun c90=>?_) fun c90=>?_
   ·
    refine W_r (R_mv rfl (R_e (W_ret (y87 _ _ ?_))))
    refine Ret_1 (@rfl V (iV (1:Int))) (fz_int ?_)
    · simp only [rgt,kLo,kHi]; repeat (first|rfl|omega|split)
   refine W_seq_seq (W_r (R_fk t1 h1 (R_lk rfl h1 rfl rfl (R_eql rfl rfl (R_mv rfl ?_)))))
   refine Ops_seg 9 (fun T H=>T 1=(V.mp 1 1 0 0)∧T 66=(V.bool (decide (((f.op)=(2:Int))∧(((f.arg) < (0:Int))∨((64:Int)≤(f.arg))))))∧H 1=(bk 1 24 3 [[(iV (f.op)),(iV (f.arg)),(V.sl (List.map cF (f.kids)))]])∧True) ?_ ?_
   ·
    by_cases g91:(f.op)=(2:Int)
    ·
     refine G_yes (edT g91 rfl) (R_fk t1 h1 (G_yes (edT g91 rfl) (R_lk rfl h1 rfl rfl (G_yes (edT g91 rfl) (R_lss rfl rfl (G_yes (edT g91 rfl) (R_mv rfl ?_)))))))
     refine Ops_seg 4 (fun T H=>T 1=(V.mp 1 1 0 0)∧T 57=(V.bool true)∧T 65=(V.bool (decide (((f.arg) < (0:Int))∨((64:Int)≤(f.arg)))))∧H 1=(bk 1 24 3 [[(iV (f.op)),(iV (f.arg)),(V.sl (List.map cF (f.kids)))]])∧True) ?_ ?_
     ·
      by_cases g92:(f.arg) < (0:Int)
      ·
       refine G_n (edT g92 rfl) (G_n (edT g92 rfl) (G_n (edT g92 rfl) (G_yes (edT g91 rfl) (R_pickT (edT g92 rfl) rfl ?_))))
       exact ⟨t1,(edT g91 rfl),(dec_orT g92),h1,trivial⟩
      ·
       refine G_yes (edF g92 rfl) (R_fk t1 h1 (G_yes (edF g92 rfl) (R_lk rfl h1 rfl rfl (G_yes (edF g92 rfl) (R_geq rfl rfl (G_yes (edT g91 rfl) (R_pickF (edF g92 rfl) rfl ?_)))))))
       exact ⟨t1,(edT g91 rfl),(dec_orF g92),h1,trivial⟩
     intro T H ⟨t1,t57,t65,h1,_⟩
     refine R_pickT t57 t65 ?_
     exact ⟨t1,(dec_andT g91),h1,trivial⟩
    ·
     refine G_n (edF g91 rfl) (G_n (edF g91 rfl) (G_n (edF g91 rfl) (G_n (edF g91 rfl) (G_raw (@rfl V (V.raw undef)) (G_raw (@rfl V (V.raw undef)) (G_raw (@rfl V (V.raw undef)) (G_n (edF g91 rfl) ?_)))))))
     refine R_pickF (edF g91 rfl) rfl ?_
     exact ⟨t1,(dec_andF g91),h1,trivial⟩
   intro T H ⟨t1,t66,h1,_⟩
   refine R_mv t66 (R_e ?_)
   refine W_seq_if rfl (fun c93=>?_) fun c93=>?_
   ·
    refine W_seq_skip ?_
    refine W_if rfl (fun c94=>?_) fun c94=>?_
    ·
     refine W_r (R_mv rfl (R_e (W_ret (y87 _ _ ?_))))
     refine Ret_1 (@rfl V (iV (2:Int))) (fz_int ?_)
     · simp only [rgt,kLo,kHi]; repeat (first|rfl|omega|split)
    · exact (c94 c93).elim
   refine W_r (R_fk t1 h1 (R_lk rfl h1 rfl rfl (R_eql rfl rfl (R_mv rfl ?_))))
   refine Ops_seg 9 (fun T H=>T 53=(V.bool (decide (((f.op)=(2:Int))∧(((f.arg) < (0:Int))∨((64:Int)≤(f.arg))))))∧T 79=(V.bool (decide (((f.op)=(3:Int))∧(((f.arg) < (0:Int))∨((1048576:Int) < (f.arg))))))∧H 1=(bk 1 24 3 [[(iV (f.op)),(iV (f.arg)),(V.sl (List.map cF (f.kids)))]])∧True) ?_ ?_
   ·
    by_cases g95:(f.op)=(3:Int)
    ·
     refine G_yes (edT g95 rfl) (R_fk t1 h1 (G_yes (edT g95 rfl) (R_lk rfl h1 rfl rfl (G_yes (edT g95 rfl) (R_lss rfl rfl (G_yes (edT g95 rfl) (R_mv rfl ?_)))))))
     refine Ops_seg 4 (fun T H=>T 53=(V.bool (decide (((f.op)=(2:Int))∧(((f.arg) < (0:Int))∨((64:Int)≤(f.arg))))))∧T 70=(V.bool true)∧T 78=(V.bool (decide (((f.arg) < (0:Int))∨((1048576:Int) < (f.arg)))))∧H 1=(bk 1 24 3 [[(iV (f.op)),(iV (f.arg)),(V.sl (List.map cF (f.kids)))]])∧True) ?_ ?_
     ·
      by_cases g96:(f.arg) < (0:Int)
      ·
       refine G_n (edT g96 rfl) (G_n (edT g96 rfl) (G_n (edT g96 rfl) (G_yes (edT g95 rfl) (R_pickT (edT g96 rfl) rfl ?_))))
       exact ⟨rfl,(edT g95 rfl),(dec_orT g96),h1,trivial⟩
      ·
       refine G_yes (edF g96 rfl) (R_fk t1 h1 (G_yes (edF g96 rfl) (R_lk rfl h1 rfl rfl (G_yes (edF g96 rfl) (R_gtr rfl rfl (G_yes (edT g95 rfl) (R_pickF (edF g96 rfl) rfl ?_)))))))
       exact ⟨rfl,(edT g95 rfl),(dec_orF g96),h1,trivial⟩
     intro T H ⟨t53,t70,t78,h1,_⟩
     refine R_pickT t70 t78 ?_
     exact ⟨t53,(dec_andT g95),h1,trivial⟩
    ·
     refine G_n (edF g95 rfl) (G_n (edF g95 rfl) (G_n (edF g95 rfl) (G_n (edF g95 rfl) (G_raw (@rfl V (V.raw undef)) (G_raw (@rfl V (V.raw undef)) (G_raw (@rfl V (V.raw undef)) (G_n (edF g95 rfl) ?_)))))))
     refine R_pickF (edF g95 rfl) rfl ?_
     exact ⟨rfl,(dec_andF g95),h1,trivial⟩
   intro T H ⟨t53,t79,h1,_⟩
   refine R_mv t79 (R_e ?_)
   refine W_if rfl (fun c97=>?_) fun c97=>?_
   ·
    refine W_r (R_mv rfl (R_e (W_ret (y87 _ _ ?_))))
    refine Ret_1 (@rfl V (iV (2:Int))) (fz_int ?_)
    · simp only [rgt,kLo,kHi]; repeat (first|rfl|omega|split)
   refine W_skip (n87 _ _ (.done (W_r (R_mv rfl (R_e (W_ret ?_))))))
   refine Ret_1 (@rfl V (iV (0:Int))) (fz_int ?_)
   · simp only [rgt,kLo,kHi]; repeat (first|rfl|omega|split)
  · exact (c85 c84).elim
 refine W_r (R_eql rfl rfl (R_mv rfl (R_e ?_)))
 refine W_if rfl (fun c98=>?_) fun c98=>?_
 ·
  refine W_t (R_mv rfl (R_geq rfl rfl (R_mv rfl (R_e (n1 _ _ (.done (W_r ?_)))))))
  refine R_fk rfl rfl (R_lk rfl rfl rfl rfl (R_eql rfl rfl (R_mv rfl ?_)))
  refine Ops_seg 4 (fun T H=>T 1=(V.mp 1 1 0 0)∧T 4=(V.bool (decide ((2:Int)≤((f.kids.length:Nat):Int))))∧T 40=(V.bool (decide (((f.op)=(2:Int))∨((f.op)=(3:Int)))))∧H 1=(bk 1 24 3 [[(iV (f.op)),(iV (f.arg)),(V.sl (List.map cF (f.kids)))]])∧True) ?_ ?_
  ·
   by_cases g99:(f.op)=(2:Int)
   ·
    refine G_n (edT g99 rfl) (G_n (edT g99 rfl) (G_n (edT g99 rfl) (R_pickT (edT g99 rfl) rfl ?_)))
    exact ⟨rfl,rfl,(dec_orT g99),rfl,trivial⟩
   ·
    refine G_yes (edF g99 rfl) (R_fk rfl rfl (G_yes (edF g99 rfl) (R_lk rfl rfl rfl rfl (G_yes (edF g99 rfl) (R_eql rfl rfl (R_pickF (edF g99 rfl) rfl ?_))))))
    exact ⟨rfl,rfl,(dec_orF g99),rfl,trivial⟩
  intro T H ⟨t1,t4,t40,h1,_⟩
  refine R_mv t40 (R_e (W_seq_blockg fun Q100 n100 x100 y100 z100=>(W_r (R_mv t4 (R_not rfl (R_mv rfl ?_))))))
  refine Ops_seg 8 (fun T H=>T 1=(V.mp 1 1 0 0)∧T 52=(V.bool (decide ((¬((2:Int)≤((f.kids.length:Nat):Int)))∨((¬(((f.op)=(2:Int))∨((f.op)=(3:Int))))∧((f.arg)≠(0:Int))))))∧H 1=(bk 1 24 3 [[(iV (f.op)),(iV (f.arg)),(V.sl (List.map cF (f.kids)))]])∧True) ?_ ?_
  ·
   by_cases g101: ¬((2:Int)≤((f.kids.length:Nat):Int))
   ·
    refine G_n (edT g101 rfl) (G_n (edT g101 rfl) (G_n (edT g101 rfl) (G_raw (@rfl V (V.raw undef)) (G_raw (@rfl V (V.raw undef)) (G_raw (@rfl V (V.raw undef)) (G_n (edT g101 rfl) (R_pickT (edT g101 rfl) rfl ?_)))))))
    exact ⟨t1,(dec_orT g101),h1,trivial⟩
   ·
    refine G_yes (edF g101 rfl) (R_mv rfl (G_yes (edF g101 rfl) (R_not rfl (G_yes (edF g101 rfl) (R_mv rfl ?_)))))
    refine Ops_seg 4 (fun T H=>T 1=(V.mp 1 1 0 0)∧T 44=(V.bool false)∧T 51=(V.bool (decide ((¬(((f.op)=(2:Int))∨((f.op)=(3:Int))))∧((f.arg)≠(0:Int)))))∧H 1=(bk 1 24 3 [[(iV (f.op)),(iV (f.arg)),(V.sl (List.map cF (f.kids)))]])∧True) ?_ ?_
    ·
     by_cases g102: ¬(((f.op)=(2:Int))∨((f.op)=(3:Int)))
     ·
      refine G_yes (edT g102 rfl) (R_fk t1 h1 (G_yes (edT g102 rfl) (R_lk rfl h1 rfl rfl (G_yes (edT g102 rfl) (R_neq rfl rfl (G_yes (edF g101 rfl) (R_pickT (edT g102 rfl) rfl ?_)))))))
      exact ⟨t1,(edF g101 rfl),(dec_andT g102),h1,trivial⟩
     ·
      refine G_n (edF g102 rfl) (G_n (edF g102 rfl) (G_n (edF g102 rfl) (G_yes (edF g101 rfl) (R_pickF (edF g102 rfl) rfl ?_))))
      exact ⟨t1,(edF g101 rfl),(dec_andF g102),h1,trivial⟩
    intro T H ⟨t1,t44,t51,h1,_⟩
    refine R_pickF t44 t51 ?_
    exact ⟨t1,(dec_orF g101),h1,trivial⟩
  intro T H ⟨t1,t52,h1,_⟩
  refine R_mv t52 (R_e ?_)
  refine W_if rfl (fun c103=>?_) fun c103=>?_
  ·
   refine W_r (R_mv rfl (R_e (W_ret (y100 _ _ ?_))))
   refine Ret_1 (@rfl V (iV (1:Int))) (fz_int ?_)
   · simp only [rgt,kLo,kHi]; repeat (first|rfl|omega|split)
  refine W_seq_seq (W_r (R_fk t1 h1 (R_lk rfl h1 rfl rfl (R_eql rfl rfl (R_mv rfl ?_)))))
  refine Ops_seg 9 (fun T H=>T 1=(V.mp 1 1 0 0)∧T 66=(V.bool (decide (((f.op)=(2:Int))∧(((f.arg) < (0:Int))∨((64:Int)≤(f.arg))))))∧H 1=(bk 1 24 3 [[(iV (f.op)),(iV (f.arg)),(V.sl (List.map cF (f.kids)))]])∧True) ?_ ?_
  ·
   by_cases g104:(f.op)=(2:Int)
   ·
    refine G_yes (edT g104 rfl) (R_fk t1 h1 (G_yes (edT g104 rfl) (R_lk rfl h1 rfl rfl (G_yes (edT g104 rfl) (R_lss rfl rfl (G_yes (edT g104 rfl) (R_mv rfl ?_)))))))
    refine Ops_seg 4 (fun T H=>T 1=(V.mp 1 1 0 0)∧T 57=(V.bool true)∧T 65=(V.bool (decide (((f.arg) < (0:Int))∨((64:Int)≤(f.arg)))))∧H 1=(bk 1 24 3 [[(iV (f.op)),(iV (f.arg)),(V.sl (List.map cF (f.kids)))]])∧True) ?_ ?_
    ·
     by_cases g105:(f.arg) < (0:Int)
     ·
      refine G_n (edT g105 rfl) (G_n (edT g105 rfl) (G_n (edT g105 rfl) (G_yes (edT g104 rfl) (R_pickT (edT g105 rfl) rfl ?_))))
      exact ⟨t1,(edT g104 rfl),(dec_orT g105),h1,trivial⟩
     ·
      refine G_yes (edF g105 rfl) (R_fk t1 h1 (G_yes (edF g105 rfl) (R_lk rfl h1 rfl rfl (G_yes (edF g105 rfl) (R_geq rfl rfl (G_yes (edT g104 rfl) (R_pickF (edF g105 rfl) rfl ?_)))))))
      exact ⟨t1,(edT g104 rfl),(dec_orF g105),h1,trivial⟩
    intro T H ⟨t1,t57,t65,h1,_⟩
    refine R_pickT t57 t65 ?_
    exact ⟨t1,(dec_andT g104),h1,trivial⟩
   ·
    refine G_n (edF g104 rfl) (G_n (edF g104 rfl) (G_n (edF g104 rfl) (G_n (edF g104 rfl) (G_raw (@rfl V (V.raw undef)) (G_raw (@rfl V (V.raw undef)) (G_raw (@rfl V (V.raw undef)) (G_n (edF g104 rfl) ?_)))))))
    refine R_pickF (edF g104 rfl) rfl ?_
    exact ⟨t1,(dec_andF g104),h1,trivial⟩
  intro T H ⟨t1,t66,h1,_⟩
  refine R_mv t66 (R_e ?_)
  refine W_seq_if rfl (fun c106=>?_) fun c106=>?_
  ·
   refine W_seq_skip ?_
   refine W_if rfl (fun c107=>?_) fun c107=>?_
   ·
    refine W_r (R_mv rfl (R_e (W_ret (y100 _ _ ?_))))
    refine Ret_1 (@rfl V (iV (2:Int))) (fz_int ?_)
    · simp only [rgt,kLo,kHi]; repeat (first|rfl|omega|split)
   · exact (c107 c106).elim
  refine W_r (R_fk t1 h1 (R_lk rfl h1 rfl rfl (R_eql rfl rfl (R_mv rfl ?_))))
  refine Ops_seg 9 (fun T H=>T 53=(V.bool (decide (((f.op)=(2:Int))∧(((f.arg) < (0:Int))∨((64:Int)≤(f.arg))))))∧T 79=(V.bool (decide (((f.op)=(3:Int))∧(((f.arg) < (0:Int))∨((1048576:Int) < (f.arg))))))∧H 1=(bk 1 24 3 [[(iV (f.op)),(iV (f.arg)),(V.sl (List.map cF (f.kids)))]])∧True) ?_ ?_
  ·
   by_cases g108:(f.op)=(3:Int)
   ·
    refine G_yes (edT g108 rfl) (R_fk t1 h1 (G_yes (edT g108 rfl) (R_lk rfl h1 rfl rfl (G_yes (edT g108 rfl) (R_lss rfl rfl (G_yes (edT g108 rfl) (R_mv rfl ?_)))))))
    refine Ops_seg 4 (fun T H=>T 53=(V.bool (decide (((f.op)=(2:Int))∧(((f.arg) < (0:Int))∨((64:Int)≤(f.arg))))))∧T 70=(V.bool true)∧T 78=(V.bool (decide (((f.arg) < (0:Int))∨((1048576:Int) < (f.arg)))))∧H 1=(bk 1 24 3 [[(iV (f.op)),(iV (f.arg)),(V.sl (List.map cF (f.kids)))]])∧True) ?_ ?_
    ·
     by_cases g109:(f.arg) < (0:Int)
     ·
      refine G_n (edT g109 rfl) (G_n (edT g109 rfl) (G_n (edT g109 rfl) (G_yes (edT g108 rfl) (R_pickT (edT g109 rfl) rfl ?_))))
      exact ⟨rfl,(edT g108 rfl),(dec_orT g109),h1,trivial⟩
     ·
      refine G_yes (edF g109 rfl) (R_fk t1 h1 (G_yes (edF g109 rfl) (R_lk rfl h1 rfl rfl (G_yes (edF g109 rfl) (R_gtr rfl rfl (G_yes (edT g108 rfl) (R_pickF (edF g109 rfl) rfl ?_)))))))
      exact ⟨rfl,(edT g108 rfl),(dec_orF g109),h1,trivial⟩
    intro T H ⟨t53,t70,t78,h1,_⟩
    refine R_pickT t70 t78 ?_
    exact ⟨t53,(dec_andT g108),h1,trivial⟩
   ·
    refine G_n (edF g108 rfl) (G_n (edF g108 rfl) (G_n (edF g108 rfl) (G_n (edF g108 rfl) (G_raw (@rfl V (V.raw undef)) (G_raw (@rfl V (V.raw undef)) (G_raw (@rfl V (V.raw undef)) (G_n (edF g108 rfl) ?_)))))))
    refine R_pickF (edF g108 rfl) rfl ?_
    exact ⟨rfl,(dec_andF g108),h1,trivial⟩
  intro T H ⟨t53,t79,h1,_⟩
  refine R_mv t79 (R_e ?_)
  refine W_if rfl (fun c110=>?_) fun c110=>?_
  ·
   refine W_r (R_mv rfl (R_e (W_ret (y100 _ _ ?_))))
   refine Ret_1 (@rfl V (iV (2:Int))) (fz_int ?_)
   · simp only [rgt,kLo,kHi]; repeat (first|rfl|omega|split)
  refine W_skip (n100 _ _ (.done (W_r (R_mv rfl (R_e (W_ret ?_))))))
  refine Ret_1 (@rfl V (iV (0:Int))) (fz_int ?_)
  · simp only [rgt,kLo,kHi]; repeat (first|rfl|omega|split)
 refine W_seq_seq (W_r (R_eql rfl rfl (R_mv rfl (R_e ?_))))
 refine W_seq_if rfl (fun c111=>?_) fun c111=>?_
 ·
  refine W_seq_skip ?_
  refine W_if rfl (fun c112=>?_) fun c112=>?_
  ·
   refine W_t (R_mv rfl (R_eql rfl rfl (R_mv rfl (R_e (n1 _ _ (.done (W_r ?_)))))))
   refine R_fk rfl rfl (R_lk rfl rfl rfl rfl (R_eql rfl rfl (R_mv rfl ?_)))
   refine Ops_seg 4 (fun T H=>T 1=(V.mp 1 1 0 0)∧T 4=(V.bool (decide (((f.kids.length:Nat):Int)=(2:Int))))∧T 40=(V.bool (decide (((f.op)=(2:Int))∨((f.op)=(3:Int)))))∧H 1=(bk 1 24 3 [[(iV (f.op)),(iV (f.arg)),(V.sl (List.map cF (f.kids)))]])∧True) ?_ ?_
   ·
    by_cases g113:(f.op)=(2:Int)
    ·
     refine G_n (edT g113 rfl) (G_n (edT g113 rfl) (G_n (edT g113 rfl) (R_pickT (edT g113 rfl) rfl ?_)))
     exact ⟨rfl,rfl,(dec_orT g113),rfl,trivial⟩
    ·
     refine G_yes (edF g113 rfl) (R_fk rfl rfl (G_yes (edF g113 rfl) (R_lk rfl rfl rfl rfl (G_yes (edF g113 rfl) (R_eql rfl rfl (R_pickF (edF g113 rfl) rfl ?_))))))
     exact ⟨rfl,rfl,(dec_orF g113),rfl,trivial⟩
   intro T H ⟨t1,t4,t40,h1,_⟩
   refine R_mv t40 (R_e (W_seq_blockg fun Q114 n114 x114 y114 z114=>(W_r (R_mv t4 (R_not rfl (R_mv rfl ?_))))))
   refine Ops_seg 8 (fun T H=>T 1=(V.mp 1 1 0 0)∧T 52=(V.bool (decide ((¬(((f.kids.length:Nat):Int)=(2:Int)))∨((¬(((f.op)=(2:Int))∨((f.op)=(3:Int))))∧((f.arg)≠(0:Int))))))∧H 1=(bk 1 24 3 [[(iV (f.op)),(iV (f.arg)),(V.sl (List.map cF (f.kids)))]])∧True) ?_ ?_
   ·
    by_cases g115: ¬(((f.kids.length:Nat):Int)=(2:Int))
    ·
     refine G_n (edT g115 rfl) (G_n (edT g115 rfl) (G_n (edT g115 rfl) (G_raw (@rfl V (V.raw undef)) (G_raw (@rfl V (V.raw undef)) (G_raw (@rfl V (V.raw undef)) (G_n (edT g115 rfl) (R_pickT (edT g115 rfl) rfl ?_)))))))
     exact ⟨t1,(dec_orT g115),h1,trivial⟩
    ·
     refine G_yes (edF g115 rfl) (R_mv rfl (G_yes (edF g115 rfl) (R_not rfl (G_yes (edF g115 rfl) (R_mv rfl ?_)))))
     refine Ops_seg 4 (fun T H=>T 1=(V.mp 1 1 0 0)∧T 44=(V.bool false)∧T 51=(V.bool (decide ((¬(((f.op)=(2:Int))∨((f.op)=(3:Int))))∧((f.arg)≠(0:Int)))))∧H 1=(bk 1 24 3 [[(iV (f.op)),(iV (f.arg)),(V.sl (List.map cF (f.kids)))]])∧True) ?_ ?_
     ·
      by_cases g116: ¬(((f.op)=(2:Int))∨((f.op)=(3:Int)))
      ·
       refine G_yes (edT g116 rfl) (R_fk t1 h1 (G_yes (edT g116 rfl) (R_lk rfl h1 rfl rfl (G_yes (edT g116 rfl) (R_neq rfl rfl (G_yes (edF g115 rfl) (R_pickT (edT g116 rfl) rfl ?_)))))))
       exact ⟨t1,(edF g115 rfl),(dec_andT g116),h1,trivial⟩
      ·
       refine G_n (edF g116 rfl) (G_n (edF g116 rfl) (G_n (edF g116 rfl) (G_yes (edF g115 rfl) (R_pickF (edF g116 rfl) rfl ?_))))
       exact ⟨t1,(edF g115 rfl),(dec_andF g116),h1,trivial⟩
     intro T H ⟨t1,t44,t51,h1,_⟩
     refine R_pickF t44 t51 ?_
     exact ⟨t1,(dec_orF g115),h1,trivial⟩
   intro T H ⟨t1,t52,h1,_⟩
   refine R_mv t52 (R_e ?_)
   refine W_if rfl (fun c117=>?_) fun c117=>?_
   ·
    refine W_r (R_mv rfl (R_e (W_ret (y114 _ _ ?_))))
    refine Ret_1 (@rfl V (iV (1:Int))) (fz_int ?_)
    · simp only [rgt,kLo,kHi]; repeat (first|rfl|omega|split)
   refine W_seq_seq (W_r (R_fk t1 h1 (R_lk rfl h1 rfl rfl (R_eql rfl rfl (R_mv rfl ?_)))))
   refine Ops_seg 9 (fun T H=>T 1=(V.mp 1 1 0 0)∧T 66=(V.bool (decide (((f.op)=(2:Int))∧(((f.arg) < (0:Int))∨((64:Int)≤(f.arg))))))∧H 1=(bk 1 24 3 [[(iV (f.op)),(iV (f.arg)),(V.sl (List.map cF (f.kids)))]])∧True) ?_ ?_
   ·
    by_cases g118:(f.op)=(2:Int)
    ·
     refine G_yes (edT g118 rfl) (R_fk t1 h1 (G_yes (edT g118 rfl) (R_lk rfl h1 rfl rfl (G_yes (edT g118 rfl) (R_lss rfl rfl (G_yes (edT g118 rfl) (R_mv rfl ?_)))))))
     refine Ops_seg 4 (fun T H=>T 1=(V.mp 1 1 0 0)∧T 57=(V.bool true)∧T 65=(V.bool (decide (((f.arg) < (0:Int))∨((64:Int)≤(f.arg)))))∧H 1=(bk 1 24 3 [[(iV (f.op)),(iV (f.arg)),(V.sl (List.map cF (f.kids)))]])∧True) ?_ ?_
     ·
      by_cases g119:(f.arg) < (0:Int)
      ·
       refine G_n (edT g119 rfl) (G_n (edT g119 rfl) (G_n (edT g119 rfl) (G_yes (edT g118 rfl) (R_pickT (edT g119 rfl) rfl ?_))))
       exact ⟨t1,(edT g118 rfl),(dec_orT g119),h1,trivial⟩
      ·
       refine G_yes (edF g119 rfl) (R_fk t1 h1 (G_yes (edF g119 rfl) (R_lk rfl h1 rfl rfl (G_yes (edF g119 rfl) (R_geq rfl rfl (G_yes (edT g118 rfl) (R_pickF (edF g119 rfl) rfl ?_)))))))
       exact ⟨t1,(edT g118 rfl),(dec_orF g119),h1,trivial⟩
     intro T H ⟨t1,t57,t65,h1,_⟩
     refine R_pickT t57 t65 ?_
     exact ⟨t1,(dec_andT g118),h1,trivial⟩
    ·
     refine G_n (edF g118 rfl) (G_n (edF g118 rfl) (G_n (edF g118 rfl) (G_n (edF g118 rfl) (G_raw (@rfl V (V.raw undef)) (G_raw (@rfl V (V.raw undef)) (G_raw (@rfl V (V.raw undef)) (G_n (edF g118 rfl) ?_)))))))
     refine R_pickF (edF g118 rfl) rfl ?_
     exact ⟨t1,(dec_andF g118),h1,trivial⟩
   intro T H ⟨t1,t66,h1,_⟩
   refine R_mv t66 (R_e ?_)
   refine W_seq_if rfl (fun c120=>?_) fun c120=>?_
   ·
    refine W_seq_skip ?_
    refine W_if rfl (fun c121=>?_) fun c121=>?_
    ·
     refine W_r (R_mv rfl (R_e (W_ret (y114 _ _ ?_))))
     refine Ret_1 (@rfl V (iV (2:Int))) (fz_int ?_)
     · simp only [rgt,kLo,kHi]; repeat (first|rfl|omega|split)
    · exact (c121 c120).elim
   refine W_r (R_fk t1 h1 (R_lk rfl h1 rfl rfl (R_eql rfl rfl (R_mv rfl ?_))))
   refine Ops_seg 9 (fun T H=>T 53=(V.bool (decide (((f.op)=(2:Int))∧(((f.arg) < (0:Int))∨((64:Int)≤(f.arg))))))∧T 79=(V.bool (decide (((f.op)=(3:Int))∧(((f.arg) < (0:Int))∨((1048576:Int) < (f.arg))))))∧H 1=(bk 1 24 3 [[(iV (f.op)),(iV (f.arg)),(V.sl (List.map cF (f.kids)))]])∧True) ?_ ?_
   ·
    by_cases g122:(f.op)=(3:Int)
    ·
     refine G_yes (edT g122 rfl) (R_fk t1 h1 (G_yes (edT g122 rfl) (R_lk rfl h1 rfl rfl (G_yes (edT g122 rfl) (R_lss rfl rfl (G_yes (edT g122 rfl) (R_mv rfl ?_)))))))
     refine Ops_seg 4 (fun T H=>T 53=(V.bool (decide (((f.op)=(2:Int))∧(((f.arg) < (0:Int))∨((64:Int)≤(f.arg))))))∧T 70=(V.bool true)∧T 78=(V.bool (decide (((f.arg) < (0:Int))∨((1048576:Int) < (f.arg)))))∧H 1=(bk 1 24 3 [[(iV (f.op)),(iV (f.arg)),(V.sl (List.map cF (f.kids)))]])∧True) ?_ ?_
     ·
      by_cases g123:(f.arg) < (0:Int)
      ·
       refine G_n (edT g123 rfl) (G_n (edT g123 rfl) (G_n (edT g123 rfl) (G_yes (edT g122 rfl) (R_pickT (edT g123 rfl) rfl ?_))))
       exact ⟨rfl,(edT g122 rfl),(dec_orT g123),h1,trivial⟩
      ·
       refine G_yes (edF g123 rfl) (R_fk t1 h1 (G_yes (edF g123 rfl) (R_lk rfl h1 rfl rfl (G_yes (edF g123 rfl) (R_gtr rfl rfl (G_yes (edT g122 rfl) (R_pickF (edF g123 rfl) rfl ?_)))))))
       exact ⟨rfl,(edT g122 rfl),(dec_orF g123),h1,trivial⟩
     intro T H ⟨t53,t70,t78,h1,_⟩
     refine R_pickT t70 t78 ?_
     exact ⟨t53,(dec_andT g122),h1,trivial⟩
    ·
     refine G_n (edF g122 rfl) (G_n (edF g122 rfl) (G_n (edF g122 rfl) (G_n (edF g122 rfl) (G_raw (@rfl V (V.raw undef)) (G_raw (@rfl V (V.raw undef)) (G_raw (@rfl V (V.raw undef)) (G_n (edF g122 rfl) ?_)))))))
     refine R_pickF (edF g122 rfl) rfl ?_
     exact ⟨rfl,(dec_andF g122),h1,trivial⟩
   intro T H ⟨t53,t79,h1,_⟩
   refine R_mv t79 (R_e ?_)
   refine W_if rfl (fun c124=>?_) fun c124=>?_
   ·
    refine W_r (R_mv rfl (R_e (W_ret (y114 _ _ ?_))))
    refine Ret_1 (@rfl V (iV (2:Int))) (fz_int ?_)
    · simp only [rgt,kLo,kHi]; repeat (first|rfl|omega|split)
   refine W_skip (n114 _ _ (.done (W_r (R_mv rfl (R_e (W_ret ?_))))))
   refine Ret_1 (@rfl V (iV (0:Int))) (fz_int ?_)
   · simp only [rgt,kLo,kHi]; repeat (first|rfl|omega|split)
  · exact (c112 c111).elim
 refine W_r (R_eql rfl rfl (R_mv rfl (R_e ?_)))
 refine W_if rfl (fun c125=>?_) fun c125=>?_
 ·
  refine W_t (R_mv rfl (R_eql rfl rfl (R_mv rfl (R_e (n1 _ _ (.done ?_))))))
  refine W_seq_regc (fun T H=>T 1=(V.mp 1 1 0 0)∧T 4=(V.bool (decide (((f.kids.length:Nat):Int)=(2:Int))))∧T 5=(V.bool (decide (((f.op)=(2:Int))∨((f.op)=(3:Int)))))∧H 1=(bk 1 24 3 [[(iV (f.op)),(iV (f.arg)),(V.sl (List.map cF (f.kids)))]])∧True) ?_ ?_
  ·
   refine R_fk rfl rfl (R_lk rfl rfl rfl rfl (R_eql rfl rfl (R_mv rfl ?_)))
   refine Ops_seg 4 (fun T H=>T 1=(V.mp 1 1 0 0)∧T 4=(V.bool (decide (((f.kids.length:Nat):Int)=(2:Int))))∧T 40=(V.bool (decide (((f.op)=(2:Int))∨((f.op)=(3:Int)))))∧H 1=(bk 1 24 3 [[(iV (f.op)),(iV (f.arg)),(V.sl (List.map cF (f.kids)))]])∧True) ?_ ?_
   ·
    by_cases g126:(f.op)=(2:Int)
    ·
     refine G_n (edT g126 rfl) (G_n (edT g126 rfl) (G_n (edT g126 rfl) (R_pickT (edT g126 rfl) rfl ?_)))
     exact ⟨rfl,rfl,(dec_orT g126),rfl,trivial⟩
    ·
     refine G_yes (edF g126 rfl) (R_fk rfl rfl (G_yes (edF g126 rfl) (R_lk rfl rfl rfl rfl (G_yes (edF g126 rfl) (R_eql rfl rfl (R_pickF (edF g126 rfl) rfl ?_))))))
     exact ⟨rfl,rfl,(dec_orF g126),rfl,trivial⟩
   intro T H ⟨t1,t4,t40,h1,_⟩
   refine R_mv t40 ?_
   exact R_nil ⟨t1,t4,rfl,h1,trivial⟩
  intro T H ⟨t1,t4,t5,h1,_⟩
  refine W_seq_blockg fun Q127 n127 x127 y127 z127=>(W_r (R_mv t4 (R_not rfl (R_mv rfl ?_))))
  refine Ops_seg 8 (fun T H=>T 1=(V.mp 1 1 0 0)∧T 52=(V.bool (decide ((¬(((f.kids.length:Nat):Int)=(2:Int)))∨((¬(((f.op)=(2:Int))∨((f.op)=(3:Int))))∧((f.arg)≠(0:Int))))))∧H 1=(bk 1 24 3 [[(iV (f.op)),(iV (f.arg)),(V.sl (List.map cF (f.kids)))]])∧True) ?_ ?_
  ·
   by_cases g128: ¬(((f.kids.length:Nat):Int)=(2:Int))
   ·
    refine G_n (edT g128 rfl) (G_n (edT g128 rfl) (G_n (edT g128 rfl) (G_raw (@rfl V (V.raw undef)) (G_raw (@rfl V (V.raw undef)) (G_raw (@rfl V (V.raw undef)) (G_n (edT g128 rfl) (R_pickT (edT g128 rfl) rfl ?_)))))))
    exact ⟨t1,(dec_orT g128),h1,trivial⟩
   ·
    refine G_yes (edF g128 rfl) (R_mv t5 (G_yes (edF g128 rfl) (R_not rfl (G_yes (edF g128 rfl) (R_mv rfl ?_)))))
    refine Ops_seg 4 (fun T H=>T 1=(V.mp 1 1 0 0)∧T 44=(V.bool false)∧T 51=(V.bool (decide ((¬(((f.op)=(2:Int))∨((f.op)=(3:Int))))∧((f.arg)≠(0:Int)))))∧H 1=(bk 1 24 3 [[(iV (f.op)),(iV (f.arg)),(V.sl (List.map cF (f.kids)))]])∧True) ?_ ?_
    ·
     by_cases g129: ¬(((f.op)=(2:Int))∨((f.op)=(3:Int)))
     ·
      refine G_yes (edT g129 rfl) (R_fk t1 h1 (G_yes (edT g129 rfl) (R_lk rfl h1 rfl rfl (G_yes (edT g129 rfl) (R_neq rfl rfl (G_yes (edF g128 rfl) (R_pickT (edT g129 rfl) rfl ?_)))))))
      exact ⟨t1,(edF g128 rfl),(dec_andT g129),h1,trivial⟩
     ·
      refine G_n (edF g129 rfl) (G_n (edF g129 rfl) (G_n (edF g129 rfl) (G_yes (edF g128 rfl) (R_pickF (edF g129 rfl) rfl ?_))))
      exact ⟨t1,(edF g128 rfl),(dec_andF g129),h1,trivial⟩
    intro T H ⟨t1,t44,t51,h1,_⟩
    refine R_pickF t44 t51 ?_
    exact ⟨t1,(dec_orF g128),h1,trivial⟩
  intro T H ⟨t1,t52,h1,_⟩
  refine R_mv t52 (R_e ?_)
  refine W_if rfl (fun c130=>?_) fun c130=>?_
  ·
   refine W_r (R_mv rfl (R_e (W_ret (y127 _ _ ?_))))
   refine Ret_1 (@rfl V (iV (1:Int))) (fz_int ?_)
   · simp only [rgt,kLo,kHi]; repeat (first|rfl|omega|split)
  refine W_seq_seq (W_r (R_fk t1 h1 (R_lk rfl h1 rfl rfl (R_eql rfl rfl (R_mv rfl ?_)))))
  refine Ops_seg 9 (fun T H=>T 1=(V.mp 1 1 0 0)∧T 66=(V.bool (decide (((f.op)=(2:Int))∧(((f.arg) < (0:Int))∨((64:Int)≤(f.arg))))))∧H 1=(bk 1 24 3 [[(iV (f.op)),(iV (f.arg)),(V.sl (List.map cF (f.kids)))]])∧True) ?_ ?_
  ·
   by_cases g131:(f.op)=(2:Int)
   ·
    refine G_yes (edT g131 rfl) (R_fk t1 h1 (G_yes (edT g131 rfl) (R_lk rfl h1 rfl rfl (G_yes (edT g131 rfl) (R_lss rfl rfl (G_yes (edT g131 rfl) (R_mv rfl ?_)))))))
    refine Ops_seg 4 (fun T H=>T 1=(V.mp 1 1 0 0)∧T 57=(V.bool true)∧T 65=(V.bool (decide (((f.arg) < (0:Int))∨((64:Int)≤(f.arg)))))∧H 1=(bk 1 24 3 [[(iV (f.op)),(iV (f.arg)),(V.sl (List.map cF (f.kids)))]])∧True) ?_ ?_
    ·
     by_cases g132:(f.arg) < (0:Int)
     ·
      refine G_n (edT g132 rfl) (G_n (edT g132 rfl) (G_n (edT g132 rfl) (G_yes (edT g131 rfl) (R_pickT (edT g132 rfl) rfl ?_))))
      exact ⟨t1,(edT g131 rfl),(dec_orT g132),h1,trivial⟩
     ·
      refine G_yes (edF g132 rfl) (R_fk t1 h1 (G_yes (edF g132 rfl) (R_lk rfl h1 rfl rfl (G_yes (edF g132 rfl) (R_geq rfl rfl (G_yes (edT g131 rfl) (R_pickF (edF g132 rfl) rfl ?_)))))))
      exact ⟨t1,(edT g131 rfl),(dec_orF g132),h1,trivial⟩
    intro T H ⟨t1,t57,t65,h1,_⟩
    refine R_pickT t57 t65 ?_
    exact ⟨t1,(dec_andT g131),h1,trivial⟩
   ·
    refine G_n (edF g131 rfl) (G_n (edF g131 rfl) (G_n (edF g131 rfl) (G_n (edF g131 rfl) (G_raw (@rfl V (V.raw undef)) (G_raw (@rfl V (V.raw undef)) (G_raw (@rfl V (V.raw undef)) (G_n (edF g131 rfl) ?_)))))))
    refine R_pickF (edF g131 rfl) rfl ?_
    exact ⟨t1,(dec_andF g131),h1,trivial⟩
  intro T H ⟨t1,t66,h1,_⟩
  refine R_mv t66 (R_e ?_)
  refine W_seq_if rfl (fun c133=>?_) fun c133=>?_
  ·
   refine W_seq_skip ?_
   refine W_if rfl (fun c134=>?_) fun c134=>?_
   ·
    refine W_r (R_mv rfl (R_e (W_ret (y127 _ _ ?_))))
    refine Ret_1 (@rfl V (iV (2:Int))) (fz_int ?_)
    · simp only [rgt,kLo,kHi]; repeat (first|rfl|omega|split)
   · exact (c134 c133).elim
  refine W_r (R_fk t1 h1 (R_lk rfl h1 rfl rfl (R_eql rfl rfl (R_mv rfl ?_))))
  refine Ops_seg 9 (fun T H=>T 53=(V.bool (decide (((f.op)=(2:Int))∧(((f.arg) < (0:Int))∨((64:Int)≤(f.arg))))))∧T 79=(V.bool (decide (((f.op)=(3:Int))∧(((f.arg) < (0:Int))∨((1048576:Int) < (f.arg))))))∧H 1=(bk 1 24 3 [[(iV (f.op)),(iV (f.arg)),(V.sl (List.map cF (f.kids)))]])∧True) ?_ ?_
  ·
   by_cases g135:(f.op)=(3:Int)
   ·
    refine G_yes (edT g135 rfl) (R_fk t1 h1 (G_yes (edT g135 rfl) (R_lk rfl h1 rfl rfl (G_yes (edT g135 rfl) (R_lss rfl rfl (G_yes (edT g135 rfl) (R_mv rfl ?_)))))))
    refine Ops_seg 4 (fun T H=>T 53=(V.bool (decide (((f.op)=(2:Int))∧(((f.arg) < (0:Int))∨((64:Int)≤(f.arg))))))∧T 70=(V.bool true)∧T 78=(V.bool (decide (((f.arg) < (0:Int))∨((1048576:Int) < (f.arg)))))∧H 1=(bk 1 24 3 [[(iV (f.op)),(iV (f.arg)),(V.sl (List.map cF (f.kids)))]])∧True) ?_ ?_
    ·
     by_cases g136:(f.arg) < (0:Int)
     ·
      refine G_n (edT g136 rfl) (G_n (edT g136 rfl) (G_n (edT g136 rfl) (G_yes (edT g135 rfl) (R_pickT (edT g136 rfl) rfl ?_))))
      exact ⟨rfl,(edT g135 rfl),(dec_orT g136),h1,trivial⟩
     ·
      refine G_yes (edF g136 rfl) (R_fk t1 h1 (G_yes (edF g136 rfl) (R_lk rfl h1 rfl rfl (G_yes (edF g136 rfl) (R_gtr rfl rfl (G_yes (edT g135 rfl) (R_pickF (edF g136 rfl) rfl ?_)))))))
      exact ⟨rfl,(edT g135 rfl),(dec_orF g136),h1,trivial⟩
    intro T H ⟨t53,t70,t78,h1,_⟩
    refine R_pickT t70 t78 ?_
    exact ⟨t53,(dec_andT g135),h1,trivial⟩
   ·
    refine G_n (edF g135 rfl) (G_n (edF g135 rfl) (G_n (edF g135 rfl) (G_n (edF g135 rfl) (G_raw (@rfl V (V.raw undef)) (G_raw (@rfl V (V.raw undef)) (G_raw (@rfl V (V.raw undef)) (G_n (edF g135 rfl) ?_)))))))
    refine R_pickF (edF g135 rfl) rfl ?_
    exact ⟨rfl,(dec_andF g135),h1,trivial⟩
  intro T H ⟨t53,t79,h1,_⟩
  refine R_mv t79 (R_e ?_)
  refine W_if rfl (fun c137=>?_) fun c137=>?_
  ·
   refine W_r (R_mv rfl (R_e (W_ret (y127 _ _ ?_))))
   refine Ret_1 (@rfl V (iV (2:Int))) (fz_int ?_)
   · simp only [rgt,kLo,kHi]; repeat (first|rfl|omega|split)
  refine W_skip (n127 _ _ (.done (W_r (R_mv rfl (R_e (W_ret ?_))))))
  refine Ret_1 (@rfl V (iV (0:Int))) (fz_int ?_)
  · simp only [rgt,kLo,kHi]; repeat (first|rfl|omega|split)
 refine W_skip (n1 _ _ (.done (W_r (R_fk rfl rfl (R_lk rfl rfl rfl rfl (R_eql rfl rfl (R_mv rfl ?_)))))))
 refine Ops_seg 4 (fun T H=>T 1=(V.mp 1 1 0 0)∧T 4=(V.bool false)∧T 40=(V.bool (decide (((f.op)=(2:Int))∨((f.op)=(3:Int)))))∧H 1=(bk 1 24 3 [[(iV (f.op)),(iV (f.arg)),(V.sl (List.map cF (f.kids)))]])∧True) ?_ ?_
 ·
  by_cases g138:(f.op)=(2:Int)
  ·
   refine G_n (edT g138 rfl) (G_n (edT g138 rfl) (G_n (edT g138 rfl) (R_pickT (edT g138 rfl) rfl ?_)))
   exact ⟨rfl,rfl,(dec_orT g138),rfl,trivial⟩
  ·
   refine G_yes (edF g138 rfl) (R_fk rfl rfl (G_yes (edF g138 rfl) (R_lk rfl rfl rfl rfl (G_yes (edF g138 rfl) (R_eql rfl rfl (R_pickF (edF g138 rfl) rfl ?_))))))
   exact ⟨rfl,rfl,(dec_orF g138),rfl,trivial⟩
 intro T H ⟨t1,t4,t40,h1,_⟩
 refine R_mv t40 (R_e (W_seq_blockg fun Q139 n139 x139 y139 z139=>(W_r (R_mv t4 (R_notb rfl (R_mv rfl (G_n rfl ?_)))))))
 refine G_n rfl (G_n rfl (G_raw (@rfl V (V.raw undef)) (G_raw (@rfl V (V.raw undef)) (G_raw (@rfl V (V.raw undef)) (G_n rfl (R_pickT rfl rfl (R_mv rfl ?_)))))))
 refine R_e ?_
 refine W_ifb rfl (fun c140=>?_) (fun c140=>?_)
 ·
  refine W_r (R_mv rfl (R_e (W_ret (y139 _ _ ?_))))
  refine Ret_1 (@rfl V (iV (1:Int))) (fz_int ?_)
  · simp only [rgt,kLo,kHi]; repeat (first|rfl|omega|split)
 · cases c140
theorem rexam_pure_step (f:Fm) (lv b:Int) (hb:0≤b∧b≤4096) (hl:0≤lv∧lv≤65) (ih: ∀ (g:Fm) (lv b:Int),g.sz < f.sz→0≤b∧b≤4096→0≤lv∧lv≤65→PureC Try.prog 32 [(V.agg [(iV (g.op)),(iV (g.arg)),(V.sl (List.map cF (g.kids)))]),(iV (lv)),(iV (b))] (V.tup [(iV ((exm g lv b).1)),(iV ((exm g lv b).2))])):PureC Try.prog 32 [(V.agg [(iV (f.op)),(iV (f.arg)),(V.sl (List.map cF (f.kids)))]),(iV (lv)),(iV (b))] (V.tup [(iV ((exm f lv b).1)),(iV ((exm f lv b).2))]):=by
 refine pW Try.func32 s32_ok fun hB=>?_
 unfold s32
 dsimp only
 refine W_r (R_box (i:=3) (n:=0) (m:=3) (cs:=[(iV (f.op)),(iV (f.arg)),(V.sl (List.map cF (f.kids)))]) rfl (congrArg Blk.ver rfl) rfl rfl rfl (R_mv rfl (R_mv rfl (R_e (W_r (R_mv rfl (R_add rfl rfl (by omega) (by omega) ?_)))))))
 refine R_mv rfl (R_e (W_seq_blockg fun Q1 n1 x1 y1 z1=>(W_r (R_mv rfl (R_gtr rfl rfl (R_mv rfl (R_e ?_)))))))
 refine W_if rfl (fun c2=>?_) fun c2=>?_
 ·
  refine W_r (R_mv rfl (R_mv rfl (R_mv rfl (R_e (W_ret (y1 _ _ ?_))))))
  refine Ret_2 (@rfl V (iV ((b)+(1:Int)))) (@rfl V (iV (11:Int))) (fz_int ?_) (fz_int ?_)
  · rw [exm_eq,if_pos (by omega)]
  · rw [exm_eq,if_pos (by omega)]
 refine W_r (R_mv rfl (R_gtr rfl rfl (R_mv rfl (R_e ?_))))
 refine W_if rfl (fun c3=>?_) fun c3=>?_
 ·
  refine W_r (R_mv rfl (R_mv rfl (R_mv rfl (R_e (W_ret (y1 _ _ ?_))))))
  refine Ret_2 (@rfl V (iV ((b)+(1:Int)))) (@rfl V (iV (16:Int))) (fz_int ?_) (fz_int ?_)
  · rw [exm_eq,if_neg (by omega),if_pos (by omega)]
  · rw [exm_eq,if_neg (by omega),if_pos (by omega)]
 refine W_r (R_lk rfl rfl rfl rfl (R_callk (rright_pure f) rfl (R_neq rfl rfl (R_mv rfl (R_e ?_)))))
 refine W_if rfl (fun c4=>?_) fun c4=>?_
 ·
  refine W_r (R_mv rfl (R_lk rfl rfl rfl rfl (R_callk (rright_pure f) rfl (R_mv rfl (R_mv rfl (R_e (W_ret ?_)))))))
  refine y1 _ _ ?_
  refine Ret_2 (@rfl V (iV ((b)+(1:Int)))) (@rfl V (iV (rgt f))) (fz_int ?_) (fz_int ?_)
  · rw [exm_eq,if_neg (by omega),if_neg (by omega),if_pos (by omega)]
  · rw [exm_eq,if_neg (by omega),if_neg (by omega),if_pos (by omega)]
 refine W_skip (n1 _ _ (.done (W_seq_seq (W_r (R_mv rfl (R_e (W_seq_blockg fun Q5 n5 x5 y5 z5=>?_)))))))
 refine W_loop (fun mm T H=> ∃ (k:Nat) (n:Int),mm=f.kids.length - k∧T 1=(iV (lv))∧T 3=(V.mp 3 1 0 0)∧T 8=(iV (n))∧T 9=(iV ((k:Nat):Int))∧H 3=(bk 1 24 3 [[(iV (f.op)),(iV (f.arg)),(V.sl (List.map cF (f.kids)))]])∧(k≤f.kids.length)∧(0≤n∧n≤4096)∧(exm f lv b=exmL (f.kids.drop k) (lv+1) n)) ?_ ?_
 ·
  refine ⟨_,0,b+1,rfl,rfl,rfl,(Eq.trans (@rfl V (iV ((b)+(1:Int)))) (by rfl)),(Eq.trans (@rfl V (iV (0:Int))) rfl),rfl,?_,?_,?_⟩
  · omega
  · omega
  · rw [exm_eq,if_neg (by omega),if_neg (by omega),if_neg (by omega)]; rfl
 intro mm T H ⟨k,n,hmm,t1,t3,t8,t9,h3,hk,hn,hc⟩ Q6 p16 p26 p36
 unfold b32_0
 refine W_seq_seq (W_r (R_mv t9 (R_fk t3 h3 (R_lk rfl h3 rfl rfl (R_len rfl (R_lss rfl rfl (R_e ?_)))))))
 refine W_seq_if rfl (fun c7=>?_) fun c7=>?_
 ·
  refine W_seq_skip (W_seq_blockg fun Q8 n8 x8 y8 z8=>(W_r (R_fk t3 h3 (R_lk rfl h3 rfl rfl (R_mv t9 (R_idxu (i:=k) (@rfl V (V.sl (List.map cF (f.kids)))) (@rfl V (iV ((k:Nat):Int))) (by omega) (cF_eq _) rfl (R_load_pp rfl rfl ?_)))))))
  refine R_mv t1 (R_add rfl rfl (by omega) (by omega) (R_mv t8 (R_callk (ih (((nth (f.kids) (k)))) (((lv)+(1:Int))) ((n)) (Fm.sz_kid (by omega)) (by omega) (by omega)) rfl (R_mv rfl (R_ext rfl rfl (R_ext rfl rfl (R_mv rfl ?_)))))))
  refine R_mv rfl (R_e (W_seq_seq (W_r (R_mv rfl (R_neq rfl rfl (R_e ?_))))))
  refine W_seq_if rfl (fun c9=>?_) fun c9=>?_
  ·
   have q0:=exm_rng (nth f.kids k) (lv+1) n
   refine W_seq_seq (W_r (R_mv rfl (R_mv rfl (R_mv rfl (R_mv rfl (R_e (W_seq_ret ?_)))))))
   refine y8 _ _ (p26 _ _ (y5 _ _ ?_))
   refine Ret_2 (@rfl V (iV ((exm (((nth (f.kids) (k)))) (((lv)+(1:Int))) ((n))).1))) (@rfl V (iV ((exm (((nth (f.kids) (k)))) (((lv)+(1:Int))) ((n))).2))) (fz_int ?_) (fz_int ?_)
   · rw [hc,exmL_yes (by omega) (by omega)]
   · rw [hc,exmL_yes (by omega) (by omega)]
  have q0:=exm_rng (nth f.kids k) (lv+1) n
  refine W_seq_skip (W_t (R_mv rfl (R_mv rfl (R_e (n8 _ _ (.done (W_t ?_)))))))
  refine R_mv t9 (R_addN rfl (@rfl V (iV ((1:Nat):Int))) (by omega) (R_mv rfl (R_e ?_)))
  refine p16 _ _ _ ?_ ⟨(k+1),(exm (nth f.kids k) (lv+1) n).1,rfl,t1,t3,(Eq.trans (@rfl V (iV ((exm (((nth (f.kids) (k)))) (((lv)+(1:Int))) ((n))).1))) (by rfl)),(Eq.trans (@rfl V (iV ((k+1:Nat):Int))) (by rfl)),h3,?_,?_,?_⟩
  · omega
  · omega
  · exact ⟨by omega,q0.2 (by omega)⟩
  · rw [hc,exmL_no (by omega) (by omega)]
 refine W_seq_exit (p36 _ _ _ (x5 _ _ (.done (W_r (R_mv t8 (R_mv rfl (R_mv rfl ?_)))))))
 refine R_e (W_ret ?_)
 refine Ret_2 (@rfl V (iV (n))) (@rfl V (iV (0:Int))) (fz_int ?_) (fz_int ?_)
 · rw [hc,exmL_end (by omega)]
 · rw [hc,exmL_end (by omega)]
theorem rexam_pure (f:Fm) (lv b:Int) (hb:0≤b∧b≤4096) (hl:0≤lv∧lv≤65):PureC Try.prog 32 [(V.agg [(iV (f.op)),(iV (f.arg)),(V.sl (List.map cF (f.kids)))]),(iV (lv)),(iV (b))] (V.tup [(iV ((exm f lv b).1)),(iV ((exm f lv b).2))]):=by
  have key: ∀ (mm:Nat) (f:Fm) (lv b:Int),f.sz < mm→0≤b∧b≤4096→0≤lv∧lv≤65→PureC Try.prog 32 [(V.agg [(iV (f.op)),(iV (f.arg)),(V.sl (List.map cF (f.kids)))]),(iV (lv)),(iV (b))] (V.tup [(iV ((exm f lv b).1)),(iV ((exm f lv b).2))]):=by
    intro mm
    induction mm with
    |zero=>intro f lv b hlt; exact absurd hlt (Nat.not_lt_zero _)
    | succ mm ih =>
      intro f lv b hlt hb hl
      exact rexam_pure_step f lv b hb hl fun f2 lv2 b2 hlt2=>ih f2 lv2 b2 (by omega)
  exact key (f.sz+1) f lv b (Nat.lt_succ_self _) hb hl
theorem rfvalid_pure (f:Fm):PureC Try.prog 15 [(V.agg [(iV (f.op)),(iV (f.arg)),(V.sl (List.map cF (f.kids)))])] (iV (fval f)):=by
 refine pW Try.func15 s15_ok fun hB=>?_
 unfold s15
 dsimp only
 refine W_r (R_box (i:=1) (n:=0) (m:=3) (cs:=[(iV (f.op)),(iV (f.arg)),(V.sl (List.map cF (f.kids)))]) rfl (congrArg Blk.ver rfl) rfl rfl rfl (R_mv rfl (R_e (W_r (R_lk rfl rfl rfl rfl (R_callk (rexam_pure f ((1:Int)) ((0:Int)) (by omega) (by omega)) rfl (R_mv rfl ?_)))))))
 refine R_ext rfl rfl (R_ext rfl rfl (R_mv rfl (R_mv rfl (R_e (W_r (R_mv rfl (R_mv rfl ?_)))))))
 refine R_e (W_ret ?_)
 refine Ret_1 (@rfl V (iV ((exm f ((1:Int)) ((0:Int))).2))) (fz_int ?_)
 · rfl
def r25_1:List SO:=[
 qL 5 3 2,
 sO 6 (.call false 10 [.t 5,.c (.int .i64 60)]),
 qC 7 .leq 6 60,
 qM 8 7,
 ⟨some (8,true),some 9,.load true 3 (.t 2)⟩,
 ⟨some (8,true),some 10,.call false 15 [.t 9]⟩,
 ⟨some (8,true),some 11,.bin .eql (.t 10) (.c (.int .i64 0))⟩,
 sO 12 (.pick (.t 8) (.t 11) (.c (.bool false))),
 qM 13 12,
 ⟨some (13,true),some 14,.fld 0 (.t 3)⟩,
 ⟨some (13,true),some 15,.load false 1 (.t 14)⟩,
 ⟨some (13,true),some 16,.len (.t 15)⟩,
 ⟨some (13,true),some 17,.bin .leq (.t 16) (.c (.int .i64 30))⟩,
 sO 18 (.pick (.t 13) (.t 17) (.c (.bool false))),
 qM 19 18,
 ⟨some (19,true),some 20,.fld 1 (.t 3)⟩,
 ⟨some (19,true),some 21,.load false 1 (.t 20)⟩,
 ⟨some (19,true),some 22,.len (.t 21)⟩,
 ⟨some (19,true),some 23,.fld 0 (.t 3)⟩,
 ⟨some (19,true),some 24,.load false 1 (.t 23)⟩,
 ⟨some (19,true),some 25,.len (.t 24)⟩,
 ⟨some (19,true),some 26,.bin .eql (.t 22) (.t 25)⟩,
 sO 27 (.pick (.t 19) (.t 26) (.c (.bool false))),
 qM 4 27]
def s25:SF:=⟨28,[.tmp 4],.seq (.reg [sO 2 (.box 24 3 (.t 0)),sO 3 (.box 51 2 (.t 1)),sO 4 (.mv (.c (.bool false)))]) (.seq (.reg r25_1) (.ret))⟩
theorem s25_ok:slimF Try.prog ⟨[31,36,37,38,40,41,42,44,45,59,60,61,65,66,67,71,72,73,81,82,84,92,93,98,99,102,104],[],[],[]⟩ Try.f25=some s25:=by kernel_rfl
def r10_3:List SO:=[
 qM 7 6,
 qF 8 2 2,
 ql 9 8,
 qN 10 9,
 qP 11 .lss 7 10,
 qM 12 11,
 ⟨some (12,true),some 13,.mv (.t 5)⟩,
 ⟨some (12,true),some 14,.mv (.t 1)⟩,
 ⟨some (12,true),some 15,.bin .leq (.t 13) (.t 14)⟩,
 sO 16 (.pick (.t 12) (.t 15) (.c (.bool false)))]
def r10_5:List SO:=[
 qM 19 5,
 qF 20 2 2,
 ql 21 20,
 qM 22 6,
 qA 23 3 21 22,
 qL 24 3 23,
 qM 25 1,
 qM 26 5,
 qP 27 .sub 25 26,
 sO 28 (.call false 10 [.t 24,.t 27]),
 qP 29 .add 19 28,
 qM 5 29]
def b10_0:SC:=.seq (.seq (.reg r10_3) (.cond (.t 16) (.skip) (.exit 0))) (.seq (.block 1 (.reg r10_5)) (.reg [qM 17 6,qC 18 .add 17 1,qM 6 18]))
def s10:SF:=⟨31,[.tmp 4],.seq (.reg [sO 2 (.box 24 3 (.t 0)),qI 4 0]) (.seq (.reg [qI 5 1]) (.seq (.seq (.reg [qI 6 0]) (.block 0 (.loop b10_0))) (.seq (.reg [qM 30 5,qM 4 30]) (.ret))))⟩
theorem s10_ok:slimF Try.prog ⟨[31,36,37,38,40,41,42,44,45,59,60,61,65,66,67,71,72,73,81,82,84,92,93,98,99,102,104],[],[],[]⟩ Try.f10=some s10:=by kernel_rfl
theorem size_pure_step (f:Fm) (m:Int) (hm:m≤200∧ -1000000≤m) (ih: ∀ (g:Fm) (m:Int),g.sz < f.sz→m≤200∧ -1000000≤m→PureC Try.prog 10 [(V.agg [(iV (g.op)),(iV (g.arg)),(V.sl (List.map cF (g.kids)))]),(iV (m))] (iV (szm g m))):PureC Try.prog 10 [(V.agg [(iV (f.op)),(iV (f.arg)),(V.sl (List.map cF (f.kids)))]),(iV (m))] (iV (szm f m)):=by
 refine pW Try.func10 s10_ok fun hB=>?_
 unfold s10
 dsimp only
 refine W_r (R_box (i:=2) (n:=0) (m:=3) (cs:=[(iV (f.op)),(iV (f.arg)),(V.sl (List.map cF (f.kids)))]) rfl (congrArg Blk.ver rfl) rfl rfl rfl (R_mv rfl (R_e (W_r (R_mv rfl (R_e (W_seq_seq ?_)))))))
 refine W_r (R_mv rfl (R_e (W_seq_blockg fun Q1 n1 x1 y1 z1=>?_)))
 refine W_loop (fun mm T H=> ∃ (k:Nat) (n:Int),mm=f.kids.length - k∧T 1=(iV (m))∧T 2=(V.mp 2 1 0 0)∧T 5=(iV (n))∧T 6=(iV ((k:Nat):Int))∧H 2=(bk 1 24 3 [[(iV (f.op)),(iV (f.arg)),(V.sl (List.map cF (f.kids)))]])∧(k≤f.kids.length)∧(1≤n∧(n≤m+1∨n=1))∧(szm f m=szmL (f.kids.drop k) n m)) ?_ ?_
 ·
  refine ⟨_,0,1,rfl,rfl,rfl,rfl,(Eq.trans (@rfl V (iV (0:Int))) rfl),rfl,?_,?_,?_⟩
  · omega
  · omega
  · exact szm_eq f m
 intro mm T H ⟨k,n,hmm,t1,t2,t5,t6,h2,hk,hn,hc⟩ Q2 p12 p22 p32
 unfold b10_0
 refine W_seq_seq (W_r (R_mv t6 (R_fk t2 h2 (R_lk rfl h2 rfl rfl (R_len rfl (R_lss rfl rfl (R_mv rfl ?_)))))))
 refine Ops_seg 4 (fun T H=>T 1=(iV (m))∧T 2=(V.mp 2 1 0 0)∧T 5=(iV (n))∧T 6=(iV ((k:Nat):Int))∧T 16=(V.bool (decide ((((k:Nat):Int) < ((f.kids.length:Nat):Int))∧((n)≤(m)))))∧H 2=(bk 1 24 3 [[(iV (f.op)),(iV (f.arg)),(V.sl (List.map cF (f.kids)))]])∧True) ?_ ?_
 ·
  by_cases g3:((k:Nat):Int) < ((f.kids.length:Nat):Int)
  ·
   refine G_yes (edT g3 rfl) (R_mv t5 (G_yes (edT g3 rfl) (R_mv t1 (G_yes (edT g3 rfl) (R_leq rfl rfl (R_pickT (edT g3 rfl) rfl ?_))))))
   exact ⟨t1,t2,t5,t6,(dec_andT g3),h2,trivial⟩
  ·
   refine G_n (edF g3 rfl) (G_n (edF g3 rfl) (G_n (edF g3 rfl) (R_pickF (edF g3 rfl) rfl ?_)))
   exact ⟨t1,t2,t5,t6,(dec_andF g3),h2,trivial⟩
 intro T H ⟨t1,t2,t5,t6,t16,h2,_⟩
 refine R_e ?_
 refine W_seq_if t16 (fun c4=>?_) fun c4=>?_
 ·
  have q0:=szm_rng (nth f.kids k) (m - n)
  refine W_seq_skip (W_seq_blockg fun Q5 n5 x5 y5 z5=>(W_t (R_mv t5 (R_fk t2 h2 (R_lk rfl h2 rfl rfl (R_mv t6 (R_idxu (i:=k) (@rfl V (V.sl (List.map cF (f.kids)))) (@rfl V (iV ((k:Nat):Int))) (by omega) (cF_eq _) rfl ?_)))))))
  refine R_load_pp rfl rfl (R_mv t1 (R_mv t5 (R_sub rfl rfl (by omega) (by omega) (R_callk (ih (((nth (f.kids) (k)))) (((m) - (n))) (Fm.sz_kid (by omega)) (by omega)) rfl (R_add rfl rfl (by omega) (by omega) (R_mv rfl (R_e ?_)))))))
  refine n5 _ _ (.done (W_t (R_mv t6 (R_addN rfl (@rfl V (iV ((1:Nat):Int))) (by omega) (R_mv rfl (R_e ?_))))))
  refine p12 _ _ _ ?_ ⟨(k+1),n+szm (nth f.kids k) (m - n),rfl,t1,t2,(Eq.trans (@rfl V (iV ((n)+(szm (((nth (f.kids) (k)))) (((m) - (n))))))) (by rfl)),(Eq.trans (@rfl V (iV ((k+1:Nat):Int))) (by rfl)),h2,?_,?_,?_⟩
  · omega
  · omega
  · omega
  · rw [hc,szmL_yes (by omega) (by omega)]
 refine W_seq_exit (p32 _ _ _ (x1 _ _ (.done (W_r (R_mv t5 (R_mv rfl (R_e ?_)))))))
 refine W_ret ?_
 refine Ret_1 (@rfl V (iV (n))) (fz_int ?_)
 · rw [hc]; by_cases q:n≤m
   · rw [szmL_end (by omega)]
   · rw [szmL_no q]
theorem size_pure (f:Fm) (m:Int) (hm:m≤200∧ -1000000≤m):PureC Try.prog 10 [(V.agg [(iV (f.op)),(iV (f.arg)),(V.sl (List.map cF (f.kids)))]),(iV (m))] (iV (szm f m)):=by
  have key: ∀ (mm:Nat) (f:Fm) (m:Int),f.sz < mm→m≤200∧ -1000000≤m→PureC Try.prog 10 [(V.agg [(iV (f.op)),(iV (f.arg)),(V.sl (List.map cF (f.kids)))]),(iV (m))] (iV (szm f m)):=by
    intro mm
    induction mm with
    |zero=>intro f m hlt; exact absurd hlt (Nat.not_lt_zero _)
    | succ mm ih =>
      intro f m hlt hm
      exact size_pure_step f m hm fun f2 m2 hlt2=>ih f2 m2 (by omega)
  exact key (f.sz+1) f m (Nat.lt_succ_self _) hm
theorem proper_pure (f:Fm) (t:Tr):PureC Try.prog 25 [(V.agg [(iV (f.op)),(iV (f.arg)),(V.sl (List.map cF (f.kids)))]),(V.agg [(ints t.ni),(ints t.no)])] (V.bool (proB f t)):=by
 refine pW Try.func25 s25_ok fun hB=>?_
 unfold s25
 dsimp only
 refine W_r (R_box (i:=2) (n:=0) (m:=3) (cs:=[(iV (f.op)),(iV (f.arg)),(V.sl (List.map cF (f.kids)))]) rfl (congrArg Blk.ver rfl) rfl rfl rfl (R_box (i:=3) (n:=0) (m:=2) (cs:=[(ints t.ni),(ints t.no)]) rfl (congrArg Blk.ver rfl) rfl rfl rfl (R_mv rfl (R_e (W_r (R_lk rfl rfl rfl rfl (R_callk (size_pure f ((60:Int)) (by decide)) rfl ?_)))))))
 refine R_leq rfl rfl (R_mv rfl ?_)
 refine Ops_seg 4 (fun T H=>T 3=(V.mp 3 1 0 0)∧T 12=(V.bool (decide (((szm f ((60:Int)))≤(60:Int))∧((fval f)=(0:Int)))))∧H 2=(bk 1 24 3 [[(iV (f.op)),(iV (f.arg)),(V.sl (List.map cF (f.kids)))]])∧H 3=(bk 1 51 2 [[(ints t.ni),(ints t.no)]])∧True) ?_ ?_
 ·
  by_cases g1:(szm f ((60:Int)))≤(60:Int)
  ·
   refine G_yes (edT g1 rfl) (R_lk rfl rfl rfl rfl (G_yes (edT g1 rfl) (R_callk (rfvalid_pure f) rfl (G_yes (edT g1 rfl) (R_eql rfl rfl (R_pickT (edT g1 rfl) rfl ?_))))))
   exact ⟨rfl,(dec_andT g1),rfl,rfl,trivial⟩
  ·
   refine G_n (edF g1 rfl) (G_n (edF g1 rfl) (G_n (edF g1 rfl) (R_pickF (edF g1 rfl) rfl ?_)))
   exact ⟨rfl,(dec_andF g1),rfl,rfl,trivial⟩
 intro T H ⟨t3,t12,h2,h3,_⟩
 refine R_mv t12 ?_
 refine Ops_seg 5 (fun T H=>T 3=(V.mp 3 1 0 0)∧T 18=(V.bool (decide ((((szm f ((60:Int)))≤(60:Int))∧((fval f)=(0:Int)))∧(((t.ni.length:Nat):Int)≤(30:Int)))))∧H 2=(bk 1 24 3 [[(iV (f.op)),(iV (f.arg)),(V.sl (List.map cF (f.kids)))]])∧H 3=(bk 1 51 2 [[(ints t.ni),(ints t.no)]])∧True) ?_ ?_
 ·
  by_cases g2:((szm f ((60:Int)))≤(60:Int))∧((fval f)=(0:Int))
  ·
   refine G_yes (edT g2 rfl) (R_fk t3 h3 (G_yes (edT g2 rfl) (R_lk rfl h3 rfl rfl (G_yes (edT g2 rfl) (R_len rfl (G_yes (edT g2 rfl) (R_leq rfl rfl ?_)))))))
   refine R_pickT (edT g2 rfl) rfl ?_
   exact ⟨t3,(dec_andT g2),h2,h3,trivial⟩
  ·
   refine G_n (edF g2 rfl) (G_n (edF g2 rfl) (G_n (edF g2 rfl) (G_n (edF g2 rfl) (R_pickF (edF g2 rfl) rfl ?_))))
   exact ⟨t3,(dec_andF g2),h2,h3,trivial⟩
 intro T H ⟨t3,t18,h2,h3,_⟩
 refine R_mv t18 ?_
 refine Ops_seg 8 (fun T H=>T 27=(V.bool (decide (((((szm f ((60:Int)))≤(60:Int))∧((fval f)=(0:Int)))∧(((t.ni.length:Nat):Int)≤(30:Int)))∧(((t.no.length:Nat):Int)=((t.ni.length:Nat):Int)))))∧H 2=(bk 1 24 3 [[(iV (f.op)),(iV (f.arg)),(V.sl (List.map cF (f.kids)))]])∧H 3=(bk 1 51 2 [[(ints t.ni),(ints t.no)]])∧True) ?_ ?_
 ·
  by_cases g3:(((szm f ((60:Int)))≤(60:Int))∧((fval f)=(0:Int)))∧(((t.ni.length:Nat):Int)≤(30:Int))
  ·
   refine G_yes (edT g3 rfl) (R_fk t3 h3 (G_yes (edT g3 rfl) (R_lk rfl h3 rfl rfl (G_yes (edT g3 rfl) (R_len rfl (G_yes (edT g3 rfl) (R_fk t3 h3 ?_)))))))
   refine G_yes (edT g3 rfl) (R_lk rfl h3 rfl rfl (G_yes (edT g3 rfl) (R_len rfl (G_yes (edT g3 rfl) (R_eql rfl rfl (R_pickT (edT g3 rfl) rfl ?_))))))
   exact ⟨(dec_andT g3),h2,h3,trivial⟩
  ·
   refine G_n (edF g3 rfl) (G_n (edF g3 rfl) (G_n (edF g3 rfl) (G_n (edF g3 rfl) (G_n (edF g3 rfl) (G_n (edF g3 rfl) (G_n (edF g3 rfl) (R_pickF (edF g3 rfl) rfl ?_)))))))
   exact ⟨(dec_andF g3),h2,h3,trivial⟩
 intro T H ⟨t27,h2,h3,_⟩
 refine R_mv t27 (R_e (W_ret ?_))
 refine Ret_1 (@rfl V (V.bool (decide (((((szm f ((60:Int)))≤(60:Int))∧((fval f)=(0:Int)))∧(((t.ni.length:Nat):Int)≤(30:Int)))∧(((t.no.length:Nat):Int)=((t.ni.length:Nat):Int)))))) (fz_bool ?_)
 · unfold proB; exact decide_eq_decide.2 (by omega)
end Go.Proofs.Ytdmcmkccifmofaa
namespace Go.Proofs.Ytdmcmkccifmofaa
open Go
theorem fm_ind {p:Fm→Prop} (h: ∀ f,(∀ k,k < f.kids.length→p (nth f.kids k))→p f) (f:Fm):p f:=by
  have key: ∀ (m:Nat) (g:Fm),g.sz < m→p g:=by
    intro m
    induction m with
    |zero=>intro g hg; omega
    |succ m ih=>intro g hg; exact h g fun k hk=>ih _ (by have:=Fm.sz_kid hk; omega)
  exact key _ f (Nat.lt_succ_self _)
theorem okL_all: ∀ l:List Fm,okL l=l.all okF
  |[]=>rfl
  |f::l=>by rw [okL,okL_all l]; rfl
theorem rgt_node {o:Int} {l:List Fm} (h:((o=4∨o=7∨o=9)∧l.length=1)∨((o=8∨o=10)∧l.length=2)∨((o=5∨o=6)∧2≤l.length)):rgt (.nd o 0 l)=0:=by
  unfold rgt
  show (if o < 1∨10 < o∨((l.length:Nat):Int) < kLo o∨(0≤kHi o∧kHi o < ((l.length:Nat):Int))∨(¬(o=2∨o=3)∧(0:Int)≠0) then (1:Int) else if (o=2∧((0:Int) < 0∨64≤(0:Int)))∨(o=3∧((0:Int) < 0∨1048576 < (0:Int))) then 2 else 0)=0
  generalize l.length=n at*
  have e:o=4∨o=5∨o=6∨o=7∨o=8∨o=9∨o=10:=by omega
  rcases e with e|e|e|e|e|e|e <;> subst e <;> simp [kLo,kHi] <;> omega
theorem mapK {α:Type} {p q:Fm→α} {l:List Fm} (h: ∀ k,k < l.length→p (nth l k)=q (nth l k)):l.map p=l.map q:=
  List.map_congr_left fun x hx=>by obtain ⟨j,hj,rfl⟩:=mem_nth hx; exact h j hj
theorem proB_ok {f:Fm} {t:Tr} (h:proB f t=true):szm f 60≤60∧fval f=0∧t.ni.length≤30∧t.no.length=t.ni.length:=of_decide_eq_true h
theorem hoE_ok {f:Fm} {t:Tr} (h:fval f=0) (h1:t.ni.length≤1024) (h2:t.no.length=t.ni.length):hoE t f=0:=by
  unfold hoE; rw [if_neg (by omega),if_neg (by omega),if_neg (by omega)]
theorem hoB_ok {f:Fm} {t:Tr} (h:fval f=0) (h1:t.ni.length≤1024) (h2:t.no.length=t.ni.length):hoB t f=sat t f 0:=by
  unfold hoB; rw [hoE_ok h h1 h2]; rfl
end Go.Proofs.Ytdmcmkccifmofaa
namespace Go.Proofs.Ytdmcmkccifmofaa
open Go
mutual
def dp:Fm→Nat
  | .nd _ _ k=>dpL k+1
def dpL:List Fm→Nat
  |[]=>0
  |f::l=>max (dp f) (dpL l)
end
theorem dp_nd (o a:Int) (k:List Fm):dp (.nd o a k)=dpL k+1:=by rw [dp]
theorem dpL_cons (f:Fm) (l:List Fm):dpL (f::l)=max (dp f) (dpL l):=by rw [dpL]
theorem dpL_nil:dpL []=0:=by rw [dpL]
theorem sz_nd (o a:Int) (k:List Fm):(Fm.nd o a k).sz=Fm.szs k+1:=by rw [Fm.sz]
theorem szs_cons (f:Fm) (l:List Fm):Fm.szs (f::l)=f.sz+Fm.szs l:=by rw [Fm.szs]
theorem szs_nil:Fm.szs []=0:=by rw [Fm.szs]
mutual
theorem exm_iff : ∀ (f : Fm) (lv b : Int), (exm f lv b).2 = 0 ↔ okF f = true ∧ b + f.sz ≤ 4096 ∧ lv + dp f ≤ 65
  | .nd o a k, lv, b => by
    rw [exm,okF,Fm.sz,dp,Bool.and_eq_true,decide_eq_true_eq]
    split
    · simp; omega
    · split
      · simp; omega
      · split
        · rename_i h; simp [h]
        · rename_i h1 h2 h3
          have h3':rgt (.nd o a k)=0:=by omega
          rw [exmL_iff k (lv+1) (b+1) (by omega) (by omega)]
          constructor
          · rintro ⟨q1,q2,q3⟩; exact ⟨⟨h3',q1⟩,by omega,by omega⟩
          · rintro ⟨⟨_,q1⟩,q2,q3⟩; exact ⟨q1,by omega,by omega⟩
theorem exmL_iff: ∀ (l:List Fm) (lv n:Int),n≤4096→lv≤65→((exmL l lv n).2=0↔okL l=true∧n+Fm.szs l≤4096∧lv+dpL l≤65)
  |[],lv,n,h1,h2=>by rw [exmL,okL,Fm.szs,dpL]; simp; omega
  | f :: l, lv, n, h1, h2 => by
    have hf:=exm_iff f lv n
    rw [exmL,okL,Fm.szs,dpL,Bool.and_eq_true]
    split
    · rename_i h
      have h': ¬(okF f=true∧n+f.sz≤4096∧lv+dp f≤65):=fun q=>h (hf.2 q)
      constructor
      · intro q; exact absurd q h
      · rintro ⟨⟨q1,q2⟩,q3,q4⟩; exact absurd ⟨q1,by omega,by omega⟩ h'
    · rename_i h
      have h0:(exm f lv n).2=0:=by omega
      obtain ⟨k1,k2,k3⟩:=hf.1 h0
      have hz:=exm_sz f lv n h0
      rw [exmL_iff l lv (exm f lv n).1 (by omega) h2,hz]
      constructor
      · rintro ⟨q1,q2,q3⟩; exact ⟨⟨k1,q1⟩,by omega,by omega⟩
      · rintro ⟨⟨_,q1⟩,q2,q3⟩; exact ⟨q1,by omega,by omega⟩
end
theorem fval_iff (f:Fm):fval f=0↔okF f=true∧f.sz≤4096∧dp f≤64:=by
  unfold fval
  rw [exm_iff]
  constructor
  · rintro ⟨h1,h2,h3⟩; exact ⟨h1,by omega,by omega⟩
  · rintro ⟨h1,h2,h3⟩; exact ⟨h1,by omega,by omega⟩
mutual
theorem szm_small: ∀ (f:Fm) (m:Int),szm f m≤m→szm f m=f.sz
  | .nd o a k, m, h => by
    rw [szm] at h ⊢
    rw [szmL_small k 1 m h,Fm.sz]; omega
theorem szmL_small: ∀ (l:List Fm) (n m:Int),szmL l n m≤m→szmL l n m=n+Fm.szs l
  |[],n,m,_=>by rw [szmL,Fm.szs]; simp
  | f :: l, n, m, h => by
    rw [szmL] at h ⊢
    split
    · rename_i hn
      rw [if_pos hn] at h
      have h1:=szmL_rng l (n+szm f (m - n)) m
      rw [szmL_small l _ m h,szm_small f (m - n) (by omega),Fm.szs]; omega
    · rename_i hn
      rw [if_neg hn] at h
      omega
end
theorem okF_nd {o:Int} {l:List Fm} (h:((o=4∨o=7∨o=9)∧l.length=1)∨((o=8∨o=10)∧l.length=2)∨((o=5∨o=6)∧2≤l.length)) (hk:l.all okF=true):okF (.nd o 0 l)=true:=by
  rw [okF,decide_eq_true (rgt_node h),okL_all,hk]; rfl
section
variable {f g:Fm} {t:Tr}
abbrev uF (f g:Fm):Fm:=.nd 8 0 [f,g]
abbrev rF' (f g:Fm):Fm:=.nd 10 0 [f,g]
abbrev WF (f g:Fm):Fm:=.nd 6 0 [g,.nd 5 0 [f,.nd 7 0 [uF f g]]]
abbrev VF (f g:Fm):Fm:=.nd 5 0 [g,.nd 6 0 [f,.nd 9 0 [rF' f g]]]
theorem sat_W (i:Nat) (hi:i≤t.ni.length):sat t (uF f g) i=sat t (WF f g) i:=by
  rw [sat_eq t (WF f g),sat_eq t (uF f g)]
  show untB (sat t f) (sat t g) (t.ni.length - i) i=List.any [sat t g,sat t (.nd 5 0 [f,.nd 7 0 [uF f g]])] fun k=>k i
  simp only [List.any_cons,List.any_nil,Bool.or_false]
  rw [sat_eq t (.nd 5 0 _)]
  show _=(sat t g i||List.all [sat t f,sat t (.nd 7 0 [uF f g])] fun k=>k i)
  simp only [List.all_cons,List.all_nil,Bool.and_true]
  rw [sat_eq t (.nd 7 0 _)]
  show _=(sat t g i||(sat t f i&&(decide (i < t.ni.length)&&sat t (uF f g) (i+1))))
  rw [sat_eq t (uF f g)]
  show _=(sat t g i||(sat t f i&&(decide (i < t.ni.length)&&untB (sat t f) (sat t g) (t.ni.length - (i+1)) (i+1))))
  rw [untB_at hi]
  cases sat t g i <;> cases sat t f i <;> cases decide (i < t.ni.length) <;> rfl
theorem sat_V (i:Nat) (hi:i≤t.ni.length):sat t (rF' f g) i=sat t (VF f g) i:=by
  rw [sat_eq t (VF f g),sat_eq t (rF' f g)]
  show relB (sat t f) (sat t g) (t.ni.length - i) i=List.all [sat t g,sat t (.nd 6 0 [f,.nd 9 0 [rF' f g]])] fun k=>k i
  simp only [List.all_cons,List.all_nil,Bool.and_true]
  rw [sat_eq t (.nd 6 0 _)]
  show _=(sat t g i&&List.any [sat t f,sat t (.nd 9 0 [rF' f g])] fun k=>k i)
  simp only [List.any_cons,List.any_nil,Bool.or_false]
  rw [sat_eq t (.nd 9 0 _)]
  show _=(sat t g i&&(sat t f i||(decide (¬i < t.ni.length)||sat t (rF' f g) (i+1))))
  rw [sat_eq t (rF' f g)]
  show _=(sat t g i&&(sat t f i||(decide (¬i < t.ni.length)||relB (sat t f) (sat t g) (t.ni.length - (i+1)) (i+1))))
  rw [relB_at hi]
  cases sat t g i <;> cases sat t f i <;> cases decide (¬i < t.ni.length) <;> rfl
theorem untB_shift {g h:Nat→Bool}: ∀ {m i:Nat},untB (fun j=>g (j+1)) (fun j=>h (j+1)) m i=untB g h m (i+1)
  |0,i=>rfl
  |m+1,i=>by rw [untB,untB,untB_shift (m:=m)]
theorem relB_shift {g h:Nat→Bool}: ∀ {m i:Nat},relB (fun j=>g (j+1)) (fun j=>h (j+1)) m i=relB g h m (i+1)
  |0,i=>rfl
  |m+1,i=>by rw [relB,relB,relB_shift (m:=m)]
abbrev tlT (t:Tr):Tr:=⟨t.ni.drop 1,t.no.drop 1⟩
theorem sat_tl (h:t.ni.length≠0) (f:Fm):okF f=true→ ∀ i,sat (tlT t) f i=sat t f (i+1):=by
  refine fm_ind (p:=fun f=>okF f=true→ ∀ i,sat (tlT t) f i=sat t f (i+1)) (fun f ih hf i=>?_) f
  obtain ⟨hr,hk⟩:=okF_parts hf
  obtain ⟨r1,r2,r3,r4,r5,r6,r7,r8,r9⟩:=rgt_ok hr
  have hn:(tlT t).ni.length+1=t.ni.length:=by show (t.ni.drop 1).length+1=_; rw [List.length_drop]; omega
  have hm:f.kids.map (sat (tlT t))=f.kids.map fun g j=>sat t g (j+1):=mapK fun k hk'=>funext fun j=>ih k hk' (hk k hk') j
  have k0:0 < f.kids.length→nth (f.kids.map fun g j=>sat t g (j+1)) 0=fun j=>nth (f.kids.map (sat t)) 0 (j+1):=fun q=>by rw [nthM q,nthM q]
  have k1:1 < f.kids.length→nth (f.kids.map fun g j=>sat t g (j+1)) 1=fun j=>nth (f.kids.map (sat t)) 1 (j+1):=fun q=>by rw [nthM q,nthM q]
  have hd:decide (i < (tlT t).ni.length)=decide (i+1 < t.ni.length):=decide_eq_decide.2 (by omega)
  have hd':decide (¬i < (tlT t).ni.length)=decide (¬i+1 < t.ni.length):=decide_eq_decide.2 (by omega)
  rw [sat_eq,sat_eq t f,hm]
  have e:f.op=1∨f.op=2∨f.op=3∨f.op=4∨f.op=5∨f.op=6∨f.op=7∨f.op=8∨f.op=9∨f.op=10:=by omega
  rcases e with e|e|e|e|e|e|e|e|e|e
  · rw [e]; rfl
  · rw [e]
    show (decide (i < (tlT t).ni.length)&&decide (nth (t.ni.drop 1) i=f.arg))=(decide (i+1 < t.ni.length)&&decide (nth t.ni (i+1)=f.arg))
    rw [hd,nth_dropn,Nat.add_comm 1 i]
  · rw [e]
    show (decide (i < (tlT t).ni.length)&&decide (nth (t.no.drop 1) i=f.arg))=(decide (i+1 < t.ni.length)&&decide (nth t.no (i+1)=f.arg))
    rw [hd,nth_dropn,Nat.add_comm 1 i]
  · rw [e]
    show (!nth (f.kids.map fun g j=>sat t g (j+1)) 0 i)= !nth (f.kids.map (sat t)) 0 (i+1)
    rw [k0 (by omega)]
  · rw [e]; show (List.map _ _).all _=(List.map _ _).all _; rw [List.all_map,List.all_map]; rfl
  · rw [e]; show (List.map _ _).any _=(List.map _ _).any _; rw [List.any_map,List.any_map]; rfl
  · rw [e]
    show (decide (i < (tlT t).ni.length)&&nth (f.kids.map fun g j=>sat t g (j+1)) 0 (i+1))=(decide (i+1 < t.ni.length)&&nth (f.kids.map (sat t)) 0 (i+1+1))
    rw [hd,k0 (by omega)]
  · rw [e]
    show untB (nth (f.kids.map fun g j=>sat t g (j+1)) 0) (nth (f.kids.map fun g j=>sat t g (j+1)) 1) ((tlT t).ni.length - i) i=untB _ _ (t.ni.length - (i+1)) (i+1)
    rw [k0 (by omega),k1 (by omega),untB_shift,show (tlT t).ni.length - i=t.ni.length - (i+1) by omega]
  · rw [e]
    show (decide (¬i < (tlT t).ni.length)||nth (f.kids.map fun g j=>sat t g (j+1)) 0 (i+1))=(decide (¬i+1 < t.ni.length)||nth (f.kids.map (sat t)) 0 (i+1+1))
    rw [hd',k0 (by omega)]
  · rw [e]
    show relB (nth (f.kids.map fun g j=>sat t g (j+1)) 0) (nth (f.kids.map fun g j=>sat t g (j+1)) 1) ((tlT t).ni.length - i) i=relB _ _ (t.ni.length - (i+1)) (i+1)
    rw [k0 (by omega),k1 (by omega),relB_shift,show (tlT t).ni.length - i=t.ni.length - (i+1) by omega]
theorem sl_F3 {u:V} {x y z:Fm} (h:u=.sl [[iV x.op,iV x.arg,.sl (x.kids.map cF)],[iV y.op,iV y.arg,.sl (y.kids.map cF)],[iV z.op,iV z.arg,.sl (z.kids.map cF)]]):u=.sl ([x,y,z].map cF):=by rw [h]; simp [cF_eq x,cF_eq y,cF_eq z]
@[simp] theorem canonLL_tlI (l : List Int) : canonLL (l.map cI).tail = true := by
  cases l with
  |nil=>simp
  |cons a l=>simp
@[simp] theorem pureLL_tlI (l : List Int) : pureLL (l.map cI).tail = true := by
  cases l with
  |nil=>simp
  |cons a l=>simp
structure Exp (f g:Fm) (t:Tr):Prop where
  e1:hoE t (uF f g)=0
  e2:hoE t (rF' f g)=0
  e3:hoE t (WF f g)=0
  e4:hoE t (VF f g)=0
  e5:hoE t (.nd 5 0 [f,g,f])=0
  e6:hoE t (.nd 6 0 [f,g,f])=0
  e7:hoE t (.nd 7 0 [f])=0
  e8:hoE t (.nd 9 0 [f])=0
  b1:hoB t (uF f g)=hoB t (WF f g)
  b2:hoB t (rF' f g)=hoB t (VF f g)
  b3:hoB t (.nd 5 0 [f,g,f])=(hoB t f&&hoB t g)
  b4:hoB t (.nd 6 0 [f,g,f])=(hoB t f||hoB t g)
  n1:t.ni.length=0→hoB t (.nd 7 0 [f])=false∧hoB t (.nd 9 0 [f])=true
  n2:t.ni.length≠0→hoE (tlT t) f=0∧hoB t (.nd 7 0 [f])=hoB (tlT t) f∧hoB t (.nd 9 0 [f])=hoB (tlT t) f
theorem exp_all (hf:proB f t=true) (hg:proB g t=true) (hW:fval (WF f g)=0):Exp f g t:=by
  obtain ⟨f1,f2,f3,f4⟩:=proB_ok hf
  obtain ⟨g1,g2,_,_⟩:=proB_ok hg
  have sf:=szm_small f 60 f1
  have sg:=szm_small g 60 g1
  have of:=fval_ok f2
  have og:=fval_ok g2
  obtain ⟨_,_,hd⟩:=(fval_iff _).1 hW
  simp only [dp_nd,dpL_cons,dpL_nil] at hd
  have V: ∀ X:Fm,okF X=true→X.sz≤4096→dp X≤64→fval X=0:=fun X a b c=>(fval_iff X).2 ⟨a,b,c⟩
  have ou:okF (uF f g)=true:=okF_nd (.inr (.inl ⟨.inl rfl,rfl⟩)) (by simp [of,og])
  have or_:okF (rF' f g)=true:=okF_nd (.inr (.inl ⟨.inr rfl,rfl⟩)) (by simp [of,og])
  have ox:okF (.nd 9 0 [rF' f g])=true:=okF_nd (.inl ⟨.inr (.inr rfl),rfl⟩) (by simp only [List.all_cons,List.all_nil,or_]; rfl)
  have oV:okF (VF f g)=true:=okF_nd (.inr (.inr ⟨.inl rfl,by simp⟩)) (by
    simp only [List.all_cons,List.all_nil,og]
    rw [okF_nd (l:=[f,.nd 9 0 [rF' f g]]) (.inr (.inr ⟨.inr rfl,by simp⟩)) (by simp only [List.all_cons,List.all_nil,of,ox]; rfl)]; rfl)
  have vu:=V _ ou (by simp only [sz_nd,szs_cons,szs_nil]; omega) (by simp only [dp_nd,dpL_cons,dpL_nil]; omega)
  have vr:=V _ or_ (by simp only [sz_nd,szs_cons,szs_nil]; omega) (by simp only [dp_nd,dpL_cons,dpL_nil]; omega)
  have vV:=V _ oV (by simp only [sz_nd,szs_cons,szs_nil]; omega) (by simp only [dp_nd,dpL_cons,dpL_nil]; omega)
  have va:=V (.nd 5 0 [f,g,f]) (okF_nd (.inr (.inr ⟨.inl rfl,by simp⟩)) (by simp [of,og])) (by simp only [sz_nd,szs_cons,szs_nil]; omega) (by simp only [dp_nd,dpL_cons,dpL_nil]; omega)
  have vo:=V (.nd 6 0 [f,g,f]) (okF_nd (.inr (.inr ⟨.inr rfl,by simp⟩)) (by simp [of,og])) (by simp only [sz_nd,szs_cons,szs_nil]; omega) (by simp only [dp_nd,dpL_cons,dpL_nil]; omega)
  have vn:=V (.nd 7 0 [f]) (okF_nd (.inl ⟨.inr (.inl rfl),rfl⟩) (by simp [of])) (by simp only [sz_nd,szs_cons,szs_nil]; omega) (by simp only [dp_nd,dpL_cons,dpL_nil]; omega)
  have vw:=V (.nd 9 0 [f]) (okF_nd (.inl ⟨.inr (.inr rfl),rfl⟩) (by simp [of])) (by simp only [sz_nd,szs_cons,szs_nil]; omega) (by simp only [dp_nd,dpL_cons,dpL_nil]; omega)
  have hB: ∀ {X:Fm},fval X=0→hoB t X=sat t X 0:=fun h=>hoB_ok h (by omega) f4
  have hE: ∀ {X:Fm},fval X=0→hoE t X=0:=fun h=>hoE_ok h (by omega) f4
  refine ⟨hE vu,hE vr,hE hW,hE vV,hE va,hE vo,hE vn,hE vw,?_,?_,?_,?_,fun h=>?_,fun h=>?_⟩
  · rw [hB vu,hB hW]; exact sat_W 0 (by omega)
  · rw [hB vr,hB vV]; exact sat_V 0 (by omega)
  · rw [hB va,hB f2,hB g2,sat_eq]; show List.all [sat t f,sat t g,sat t f] (fun k=>k 0)=_
    simp only [List.all_cons,List.all_nil]; cases sat t f 0 <;> cases sat t g 0 <;> rfl
  · rw [hB vo,hB f2,hB g2,sat_eq]; show List.any [sat t f,sat t g,sat t f] (fun k=>k 0)=_
    simp only [List.any_cons,List.any_nil]; cases sat t f 0 <;> cases sat t g 0 <;> rfl
  · rw [hB vn,hB vw,sat_eq t (.nd 7 0 [f]),sat_eq t (.nd 9 0 [f])]
    show (decide (0 < t.ni.length)&&_)=false∧(decide (¬0 < t.ni.length)||_)=true
    rw [decide_eq_false (by omega),decide_eq_true (by omega)]; exact ⟨rfl,rfl⟩
  · have h1:(tlT t).ni.length≤1024:=by show (t.ni.drop 1).length≤_; rw [List.length_drop]; omega
    have h2:(tlT t).no.length=(tlT t).ni.length:=by show (t.no.drop 1).length=(t.ni.drop 1).length; rw [List.length_drop,List.length_drop]; omega
    rw [hB vn,hB vw,sat_eq t (.nd 7 0 [f]),sat_eq t (.nd 9 0 [f]),hoB_ok f2 h1 h2,sat_tl h f of 0]
    refine ⟨hoE_ok f2 h1 h2,?_,?_⟩
    · show (decide (0 < t.ni.length)&&sat t f 1)=_; rw [decide_eq_true (by omega)]; rfl
    · show (decide (¬0 < t.ni.length)||sat t f 1)=_; rw [decide_eq_false (by omega)]; rfl
end
end Go.Proofs.Ytdmcmkccifmofaa
namespace Go.Proofs.Ytdmcmkccifmofaa
open Go Go.Proofs
theorem law9_pure (f g:Fm) (t:Tr):PureC Try.prog 9 [(V.agg [(iV (f.op)),(iV (f.arg)),(V.sl (List.map cF (f.kids)))]),(V.agg [(iV (g.op)),(iV (g.arg)),(V.sl (List.map cF (g.kids)))]),(V.agg [(ints t.ni),(ints t.no)])] (V.bool true):=by
 refine pW Try.func9 s9_ok fun hB=>?_
 unfold s9
 dsimp only
 refine W_r (R_box (i:=3) (n:=0) (m:=3) (cs:=[(iV (f.op)),(iV (f.arg)),(V.sl (List.map cF (f.kids)))]) rfl (congrArg Blk.ver rfl) rfl rfl rfl (R_box (i:=4) (n:=0) (m:=3) (cs:=[(iV (g.op)),(iV (g.arg)),(V.sl (List.map cF (g.kids)))]) rfl (congrArg Blk.ver rfl) rfl rfl rfl (R_box (i:=5) (n:=0) (m:=2) (cs:=[(ints t.ni),(ints t.no)]) rfl (congrArg Blk.ver rfl) rfl rfl rfl (R_mv rfl (R_e (W_seq_seq (W_r ?_)))))))
 refine R_lk rfl rfl rfl rfl (R_lk rfl rfl rfl rfl (R_callk (proper_pure f t) rfl (R_notb rfl (R_mv rfl ?_))))
 refine Ops_seg 5 (fun T H=>T 3=(V.mp 3 1 0 0)∧T 4=(V.mp 4 1 0 0)∧T 5=(V.mp 5 1 0 0)∧T 40=(V.bool ((((!proB f t))||((!proB g t)))))∧H 3=(bk 1 24 3 [[(iV (f.op)),(iV (f.arg)),(V.sl (List.map cF (f.kids)))]])∧H 4=(bk 1 24 3 [[(iV (g.op)),(iV (g.arg)),(V.sl (List.map cF (g.kids)))]])∧H 5=(bk 1 51 2 [[(ints t.ni),(ints t.no)]])∧H 7=(⟨0,false,false,0,0,[]⟩:Blk)∧H 8=(⟨0,false,false,0,0,[]⟩:Blk)∧True) ?_ ?_
 ·
  by_cases g1:((!proB f t))=true
  ·
   refine G_n (ebT g1 rfl) (G_n (ebT g1 rfl) (G_n (ebT g1 rfl) (G_n (ebT g1 rfl) (R_pickT (ebT g1 rfl) rfl ?_))))
   exact ⟨rfl,rfl,rfl,(borT g1),rfl,rfl,rfl,rfl,rfl,trivial⟩
  ·
   refine G_yes (ebF g1 rfl) (R_lk rfl rfl rfl rfl (G_yes (ebF g1 rfl) (R_lk rfl rfl rfl rfl (G_yes (ebF g1 rfl) (R_callk (proper_pure g t) rfl (G_yes (ebF g1 rfl) (R_notb rfl ?_)))))))
   refine R_pickF (ebF g1 rfl) rfl ?_
   exact ⟨rfl,rfl,rfl,(borF g1),rfl,rfl,rfl,rfl,rfl,trivial⟩
 intro T H ⟨t3,t4,t5,t40,h3,h4,h5,h7,h8,_⟩
 refine R_e ?_
 refine W_seq_ifb t40 (fun c2=>?_) (fun c2=>?_)
 ·
  refine W_seq_seq (W_r (R_callk (aw45_pure) rfl (R_mv rfl (R_e (W_seq_ret ?_)))))
  refine Ret_1 (@rfl V (V.bool true)) (fz_canon (by simp) rfl)
 have q0:=c2
 simp only [Bool.or_eq_false_iff,Bool.not_eq_false'] at q0
 obtain ⟨hp1,hp2⟩:=q0
 obtain ⟨p1,p2,p3,p4⟩:=proB_ok hp1
 refine W_seq_skip (W_d (by exact (lateC (congrArg Blk.live h7) (lateC (congrArg Blk.live h8) lateN))) (R_lk t3 h3 rfl rfl (R_lk t4 h4 rfl rfl (R_bslice rfl rfl (R_callk (lnode_pure ((8:Int)) ((0:Int)) ([f,g])) (evcons rfl (evcons rfl (evcons (sl_F2 (x:=f) (y:=g) rfl) evnil))) (R_lk t3 h3 rfl rfl (R_lk t4 h4 rfl rfl ?_)))))))
 refine R_bslice rfl rfl (R_callk (lnode_pure ((10:Int)) ((0:Int)) ([f,g])) (evcons rfl (evcons rfl (evcons (sl_F2 (x:=f) (y:=g) rfl) evnil))) (R_alloc (i:=7) (n:=0) (m:=3) rfl (congrArg Blk.ver h7) rfl (R_alloc (i:=8) (n:=0) (m:=3) rfl (congrArg Blk.ver h8) rfl (R_sk rfl rfl rfl rfl rfl rfl rfl rfl rfl (R_sk rfl rfl rfl rfl rfl rfl rfl rfl rfl (R_e (W_seq_seq ?_)))))))
 refine W_r (R_lk t4 h4 rfl rfl (R_lk t3 h3 rfl rfl (R_lk rfl rfl rfl rfl (R_bslice rfl rfl (R_callk (lnode_pure ((7:Int)) ((0:Int)) ([(Fm.nd (8:Int) (0:Int) [f,g])])) (evcons rfl (evcons rfl (evcons (sl_F1 (x:=((Fm.nd (8:Int) (0:Int) [f,g]))) rfl) evnil))) (R_bslice rfl rfl (R_callk (lnode_pure ((5:Int)) ((0:Int)) ([f,(Fm.nd (7:Int) (0:Int) [(Fm.nd (8:Int) (0:Int) [f,g])])])) (evcons rfl (evcons rfl (evcons (sl_F2 (x:=f) (y:=((Fm.nd (7:Int) (0:Int) [(Fm.nd (8:Int) (0:Int) [f,g])]))) rfl) evnil))) ?_)))))))
 refine R_bslice rfl rfl (R_callk (lnode_pure ((6:Int)) ((0:Int)) ([g,(Fm.nd (5:Int) (0:Int) [f,(Fm.nd (7:Int) (0:Int) [(Fm.nd (8:Int) (0:Int) [f,g])])])])) (evcons rfl (evcons rfl (evcons (sl_F2 (x:=g) (y:=((Fm.nd (5:Int) (0:Int) [f,(Fm.nd (7:Int) (0:Int) [(Fm.nd (8:Int) (0:Int) [f,g])])]))) rfl) evnil))) (R_callk (rfvalid_pure (⟨((((6:Int)))),((((0:Int)))),(([g,(Fm.nd (5:Int) (0:Int) [f,(Fm.nd (7:Int) (0:Int) [(Fm.nd (8:Int) (0:Int) [f,g])])])]))⟩:Fm)) rfl (R_neq rfl rfl (R_e ?_))))
 refine W_seq_if rfl (fun c3=>?_) fun c3=>?_
 ·
  refine W_seq_seq (W_r (R_callk (aw45_pure) rfl (R_mv rfl (R_e (W_seq_ret ?_)))))
  refine Ret_1 (@rfl V (V.bool true)) (fz_canon (by simp) rfl)
 have x:=exp_all hp1 hp2 (Decidable.not_not.1 c3)
 refine W_seq_skip ?_
 refine W_seq_regc (fun T H=>T 3=(V.mp 3 1 0 0)∧T 4=(V.mp 4 1 0 0)∧T 5=(V.mp 5 1 0 0)∧T 7=(V.mp 7 1 0 0)∧T 8=(V.mp 8 1 0 0)∧T 9=(V.bool (hoB t f))∧H 3=(bk 1 24 3 [[(iV (f.op)),(iV (f.arg)),(V.sl (List.map cF (f.kids)))]])∧H 4=(bk 1 24 3 [[(iV (g.op)),(iV (g.arg)),(V.sl (List.map cF (g.kids)))]])∧H 5=(bk 1 51 2 [[(ints t.ni),(ints t.no)]])∧H 7=(bk 1 24 3 [[(iV (((8:Int)))),(iV (((0:Int)))),(V.sl (List.map cF (([f,g]))))]])∧H 8=(bk 1 24 3 [[(iV (((10:Int)))),(iV (((0:Int)))),(V.sl (List.map cF (([f,g]))))]])∧True) ?_ ?_
 ·
  refine R_lk t3 h3 rfl rfl (R_lk t5 h5 rfl rfl (R_callk (holds_pure f t) rfl (R_mv rfl (R_ext rfl rfl (R_ext rfl rfl (R_mv rfl (R_mv rfl ?_)))))))
  exact R_nil ⟨t3,t4,t5,rfl,rfl,rfl,h3,h4,h5,rfl,rfl,trivial⟩
 intro T H ⟨t3,t4,t5,t7,t8,t9,h3,h4,h5,h7,h8,_⟩
 refine W_r (R_lk t4 h4 rfl rfl (R_lk t5 h5 rfl rfl (R_callk (holds_pure g t) rfl (R_mv rfl (R_ext rfl rfl (R_ext rfl rfl (R_mv rfl ?_)))))))
 refine R_mv rfl (R_e (W_r (R_lk t7 h7 rfl rfl (R_lk t5 h5 rfl rfl (R_callk (holds_pure (⟨((((8:Int)))),((((0:Int)))),(([f,g]))⟩:Fm) t) rfl (R_mv rfl (R_ext rfl rfl ?_)))))))
 refine R_ext rfl rfl (R_mv rfl (R_mv rfl (R_e (W_r (R_lk t8 h8 rfl rfl (R_lk t5 h5 rfl rfl (R_callk (holds_pure (⟨((((10:Int)))),((((0:Int)))),(([f,g]))⟩:Fm) t) rfl ?_)))))))
 refine R_mv rfl (R_ext rfl rfl (R_ext rfl rfl (R_mv rfl (R_mv rfl (R_e (W_r (R_lk t4 h4 rfl rfl ?_)))))))
 refine R_lk t3 h3 rfl rfl (R_lk t7 h7 rfl rfl (R_bslice rfl rfl (R_callk (lnode_pure ((7:Int)) ((0:Int)) ([(Fm.nd (8:Int) (0:Int) [f,g])])) (evcons rfl (evcons rfl (evcons (sl_F1 (x:=((Fm.nd (8:Int) (0:Int) [f,g]))) rfl) evnil))) (R_bslice rfl rfl (R_callk (lnode_pure ((5:Int)) ((0:Int)) ([f,(Fm.nd (7:Int) (0:Int) [(Fm.nd (8:Int) (0:Int) [f,g])])])) (evcons rfl (evcons rfl (evcons (sl_F2 (x:=f) (y:=((Fm.nd (7:Int) (0:Int) [(Fm.nd (8:Int) (0:Int) [f,g])]))) rfl) evnil))) (R_bslice rfl rfl (R_callk (lnode_pure ((6:Int)) ((0:Int)) ([g,(Fm.nd (5:Int) (0:Int) [f,(Fm.nd (7:Int) (0:Int) [(Fm.nd (8:Int) (0:Int) [f,g])])])])) (evcons rfl (evcons rfl (evcons (sl_F2 (x:=g) (y:=((Fm.nd (5:Int) (0:Int) [f,(Fm.nd (7:Int) (0:Int) [(Fm.nd (8:Int) (0:Int) [f,g])])]))) rfl) evnil))) ?_)))))))
 refine R_lk t5 h5 rfl rfl (R_callk (holds_pure (⟨((((6:Int)))),((((0:Int)))),(([g,(Fm.nd (5:Int) (0:Int) [f,(Fm.nd (7:Int) (0:Int) [(Fm.nd (8:Int) (0:Int) [f,g])])])]))⟩:Fm) t) rfl (R_mv rfl (R_ext rfl rfl (R_ext rfl rfl (R_mv rfl (R_mv rfl (R_e ?_)))))))
 refine W_seq_regc (fun T H=>T 3=(V.mp 3 1 0 0)∧T 4=(V.mp 4 1 0 0)∧T 5=(V.mp 5 1 0 0)∧T 9=(V.bool (hoB t f))∧T 11=(V.bool (hoB t g))∧T 13=(V.bool (hoB t (⟨((((8:Int)))),((((0:Int)))),(([f,g]))⟩:Fm)))∧T 14=(iV (hoE t (⟨((((8:Int)))),((((0:Int)))),(([f,g]))⟩:Fm)))∧T 15=(V.bool (hoB t (⟨((((10:Int)))),((((0:Int)))),(([f,g]))⟩:Fm)))∧T 16=(iV (hoE t (⟨((((10:Int)))),((((0:Int)))),(([f,g]))⟩:Fm)))∧T 17=(V.bool (hoB t (⟨((((6:Int)))),((((0:Int)))),(([g,(Fm.nd (5:Int) (0:Int) [f,(Fm.nd (7:Int) (0:Int) [(Fm.nd (8:Int) (0:Int) [f,g])])])]))⟩:Fm)))∧T 18=(iV (hoE t (⟨((((6:Int)))),((((0:Int)))),(([g,(Fm.nd (5:Int) (0:Int) [f,(Fm.nd (7:Int) (0:Int) [(Fm.nd (8:Int) (0:Int) [f,g])])])]))⟩:Fm)))∧T 19=(V.bool (hoB t (⟨((((5:Int)))),((((0:Int)))),(([g,(Fm.nd (6:Int) (0:Int) [f,(Fm.nd (9:Int) (0:Int) [(Fm.nd (10:Int) (0:Int) [f,g])])])]))⟩:Fm)))∧T 20=(iV (hoE t (⟨((((5:Int)))),((((0:Int)))),(([g,(Fm.nd (6:Int) (0:Int) [f,(Fm.nd (9:Int) (0:Int) [(Fm.nd (10:Int) (0:Int) [f,g])])])]))⟩:Fm)))∧H 3=(bk 1 24 3 [[(iV (f.op)),(iV (f.arg)),(V.sl (List.map cF (f.kids)))]])∧H 4=(bk 1 24 3 [[(iV (g.op)),(iV (g.arg)),(V.sl (List.map cF (g.kids)))]])∧H 5=(bk 1 51 2 [[(ints t.ni),(ints t.no)]])∧H 7=(bk 1 24 3 [[(iV (((8:Int)))),(iV (((0:Int)))),(V.sl (List.map cF (([f,g]))))]])∧H 8=(bk 1 24 3 [[(iV (((10:Int)))),(iV (((0:Int)))),(V.sl (List.map cF (([f,g]))))]])∧True) ?_ ?_
 ·
  refine R_lk t4 h4 rfl rfl (R_lk t3 h3 rfl rfl (R_lk t8 h8 rfl rfl (R_bslice rfl rfl (R_callk (lnode_pure ((9:Int)) ((0:Int)) ([(Fm.nd (10:Int) (0:Int) [f,g])])) (evcons rfl (evcons rfl (evcons (sl_F1 (x:=((Fm.nd (10:Int) (0:Int) [f,g]))) rfl) evnil))) (R_bslice rfl rfl (R_callk (lnode_pure ((6:Int)) ((0:Int)) ([f,(Fm.nd (9:Int) (0:Int) [(Fm.nd (10:Int) (0:Int) [f,g])])])) (evcons rfl (evcons rfl (evcons (sl_F2 (x:=f) (y:=((Fm.nd (9:Int) (0:Int) [(Fm.nd (10:Int) (0:Int) [f,g])]))) rfl) evnil))) (R_bslice rfl rfl ?_)))))))
  refine R_callk (lnode_pure ((5:Int)) ((0:Int)) ([g,(Fm.nd (6:Int) (0:Int) [f,(Fm.nd (9:Int) (0:Int) [(Fm.nd (10:Int) (0:Int) [f,g])])])])) (evcons rfl (evcons rfl (evcons (sl_F2 (x:=g) (y:=((Fm.nd (6:Int) (0:Int) [f,(Fm.nd (9:Int) (0:Int) [(Fm.nd (10:Int) (0:Int) [f,g])])]))) rfl) evnil))) (R_lk t5 h5 rfl rfl (R_callk (holds_pure (⟨((((5:Int)))),((((0:Int)))),(([g,(Fm.nd (6:Int) (0:Int) [f,(Fm.nd (9:Int) (0:Int) [(Fm.nd (10:Int) (0:Int) [f,g])])])]))⟩:Fm) t) rfl (R_mv rfl (R_ext rfl rfl (R_ext rfl rfl (R_mv rfl (R_mv rfl ?_)))))))
  exact R_nil ⟨t3,t4,t5,t9,rfl,rfl,rfl,rfl,rfl,rfl,rfl,rfl,rfl,h3,h4,h5,h7,h8,trivial⟩
 intro T H ⟨t3,t4,t5,t9,t11,t13,t14,t15,t16,t17,t18,t19,t20,h3,h4,h5,h7,h8,_⟩
 refine W_r (R_lk t3 h3 rfl rfl (R_lk t4 h4 rfl rfl (R_lk t3 h3 rfl rfl (R_bslice rfl rfl (R_callk (lnode_pure ((5:Int)) ((0:Int)) ([f,g,f])) (evcons rfl (evcons rfl (evcons (sl_F3 (x:=f) (y:=g) (z:=f) rfl) evnil))) (R_lk t5 h5 rfl rfl (R_callk (holds_pure (⟨((((5:Int)))),((((0:Int)))),(([f,g,f]))⟩:Fm) t) rfl ?_)))))))
 refine R_mv rfl (R_ext rfl rfl (R_ext rfl rfl (R_mv rfl (R_mv rfl (R_e (W_r (R_lk t3 h3 rfl rfl ?_)))))))
 refine R_lk t4 h4 rfl rfl (R_lk t3 h3 rfl rfl (R_bslice rfl rfl (R_callk (lnode_pure ((6:Int)) ((0:Int)) ([f,g,f])) (evcons rfl (evcons rfl (evcons (sl_F3 (x:=f) (y:=g) (z:=f) rfl) evnil))) (R_lk t5 h5 rfl rfl (R_callk (holds_pure (⟨((((6:Int)))),((((0:Int)))),(([f,g,f]))⟩:Fm) t) rfl (R_mv rfl (R_ext rfl rfl ?_)))))))
 refine R_ext rfl rfl (R_mv rfl (R_mv rfl (R_e (W_seq_seq ?_))))
 refine W_seq_regc (fun T H=>T 3=(V.mp 3 1 0 0)∧T 5=(V.mp 5 1 0 0)∧T 181=(V.bool ((((((((decide (((((((hoE t (⟨((((8:Int)))),((((0:Int)))),(([f,g]))⟩:Fm))≠(0:Int))∨((hoE t (⟨((((10:Int)))),((((0:Int)))),(([f,g]))⟩:Fm))≠(0:Int)))∨((hoE t (⟨((((6:Int)))),((((0:Int)))),(([g,(Fm.nd (5:Int) (0:Int) [f,(Fm.nd (7:Int) (0:Int) [(Fm.nd (8:Int) (0:Int) [f,g])])])]))⟩:Fm))≠(0:Int)))∨((hoE t (⟨((((5:Int)))),((((0:Int)))),(([g,(Fm.nd (6:Int) (0:Int) [f,(Fm.nd (9:Int) (0:Int) [(Fm.nd (10:Int) (0:Int) [f,g])])])]))⟩:Fm))≠(0:Int)))∨((hoE t (⟨((((5:Int)))),((((0:Int)))),(([f,g,f]))⟩:Fm))≠(0:Int)))∨((hoE t (⟨((((6:Int)))),((((0:Int)))),(([f,g,f]))⟩:Fm))≠(0:Int)))||(((hoB t (⟨((((8:Int)))),((((0:Int)))),(([f,g]))⟩:Fm)) != (hoB t (⟨((((6:Int)))),((((0:Int)))),(([g,(Fm.nd (5:Int) (0:Int) [f,(Fm.nd (7:Int) (0:Int) [(Fm.nd (8:Int) (0:Int) [f,g])])])]))⟩:Fm))))))||(((hoB t (⟨((((10:Int)))),((((0:Int)))),(([f,g]))⟩:Fm)) != (hoB t (⟨((((5:Int)))),((((0:Int)))),(([g,(Fm.nd (6:Int) (0:Int) [f,(Fm.nd (9:Int) (0:Int) [(Fm.nd (10:Int) (0:Int) [f,g])])])]))⟩:Fm))))))||(((hoB t (⟨((((5:Int)))),((((0:Int)))),(([f,g,f]))⟩:Fm)) != (((hoB t f)&&(hoB t g)))))))||(((hoB t (⟨((((6:Int)))),((((0:Int)))),(([f,g,f]))⟩:Fm)) != (((hoB t f)||(hoB t g))))))))∧H 3=(bk 1 24 3 [[(iV (f.op)),(iV (f.arg)),(V.sl (List.map cF (f.kids)))]])∧H 4=(bk 1 24 3 [[(iV (g.op)),(iV (g.arg)),(V.sl (List.map cF (g.kids)))]])∧H 5=(bk 1 51 2 [[(ints t.ni),(ints t.no)]])∧H 7=(bk 1 24 3 [[(iV (((8:Int)))),(iV (((0:Int)))),(V.sl (List.map cF (([f,g]))))]])∧H 8=(bk 1 24 3 [[(iV (((10:Int)))),(iV (((0:Int)))),(V.sl (List.map cF (([f,g]))))]])∧True) ?_ ?_
 ·
  refine R_mv t14 (R_neq rfl rfl (R_mv rfl ?_))
  refine Ops_seg 3 (fun T H=>T 3=(V.mp 3 1 0 0)∧T 5=(V.mp 5 1 0 0)∧T 9=(V.bool (hoB t f))∧T 11=(V.bool (hoB t g))∧T 13=(V.bool (hoB t (⟨((((8:Int)))),((((0:Int)))),(([f,g]))⟩:Fm)))∧T 15=(V.bool (hoB t (⟨((((10:Int)))),((((0:Int)))),(([f,g]))⟩:Fm)))∧T 17=(V.bool (hoB t (⟨((((6:Int)))),((((0:Int)))),(([g,(Fm.nd (5:Int) (0:Int) [f,(Fm.nd (7:Int) (0:Int) [(Fm.nd (8:Int) (0:Int) [f,g])])])]))⟩:Fm)))∧T 18=(iV (hoE t (⟨((((6:Int)))),((((0:Int)))),(([g,(Fm.nd (5:Int) (0:Int) [f,(Fm.nd (7:Int) (0:Int) [(Fm.nd (8:Int) (0:Int) [f,g])])])]))⟩:Fm)))∧T 19=(V.bool (hoB t (⟨((((5:Int)))),((((0:Int)))),(([g,(Fm.nd (6:Int) (0:Int) [f,(Fm.nd (9:Int) (0:Int) [(Fm.nd (10:Int) (0:Int) [f,g])])])]))⟩:Fm)))∧T 20=(iV (hoE t (⟨((((5:Int)))),((((0:Int)))),(([g,(Fm.nd (6:Int) (0:Int) [f,(Fm.nd (9:Int) (0:Int) [(Fm.nd (10:Int) (0:Int) [f,g])])])]))⟩:Fm)))∧T 21=(V.bool (hoB t (⟨((((5:Int)))),((((0:Int)))),(([f,g,f]))⟩:Fm)))∧T 22=(iV (hoE t (⟨((((5:Int)))),((((0:Int)))),(([f,g,f]))⟩:Fm)))∧T 23=(V.bool (hoB t (⟨((((6:Int)))),((((0:Int)))),(([f,g,f]))⟩:Fm)))∧T 24=(iV (hoE t (⟨((((6:Int)))),((((0:Int)))),(([f,g,f]))⟩:Fm)))∧T 139=(V.bool (decide (((hoE t (⟨((((8:Int)))),((((0:Int)))),(([f,g]))⟩:Fm))≠(0:Int))∨((hoE t (⟨((((10:Int)))),((((0:Int)))),(([f,g]))⟩:Fm))≠(0:Int)))))∧H 3=(bk 1 24 3 [[(iV (f.op)),(iV (f.arg)),(V.sl (List.map cF (f.kids)))]])∧H 4=(bk 1 24 3 [[(iV (g.op)),(iV (g.arg)),(V.sl (List.map cF (g.kids)))]])∧H 5=(bk 1 51 2 [[(ints t.ni),(ints t.no)]])∧H 7=(bk 1 24 3 [[(iV (((8:Int)))),(iV (((0:Int)))),(V.sl (List.map cF (([f,g]))))]])∧H 8=(bk 1 24 3 [[(iV (((10:Int)))),(iV (((0:Int)))),(V.sl (List.map cF (([f,g]))))]])∧True) ?_ ?_
  ·
   by_cases g4:(hoE t (⟨((((8:Int)))),((((0:Int)))),(([f,g]))⟩:Fm))≠(0:Int)
   ·
    refine G_n (edT g4 rfl) (G_n (edT g4 rfl) (R_pickT (edT g4 rfl) rfl ?_))
    exact ⟨t3,t5,t9,t11,t13,t15,t17,t18,t19,t20,rfl,rfl,rfl,rfl,(dec_orT g4),h3,h4,h5,h7,h8,trivial⟩
   ·
    refine G_yes (edF g4 rfl) (R_mv t16 (G_yes (edF g4 rfl) (R_neq rfl rfl (R_pickF (edF g4 rfl) rfl ?_))))
    exact ⟨t3,t5,t9,t11,t13,t15,t17,t18,t19,t20,rfl,rfl,rfl,rfl,(dec_orF g4),h3,h4,h5,h7,h8,trivial⟩
  intro T H ⟨t3,t5,t9,t11,t13,t15,t17,t18,t19,t20,t21,t22,t23,t24,t139,h3,h4,h5,h7,h8,_⟩
  refine R_mv t139 ?_
  refine Ops_seg 3 (fun T H=>T 3=(V.mp 3 1 0 0)∧T 5=(V.mp 5 1 0 0)∧T 9=(V.bool (hoB t f))∧T 11=(V.bool (hoB t g))∧T 13=(V.bool (hoB t (⟨((((8:Int)))),((((0:Int)))),(([f,g]))⟩:Fm)))∧T 15=(V.bool (hoB t (⟨((((10:Int)))),((((0:Int)))),(([f,g]))⟩:Fm)))∧T 17=(V.bool (hoB t (⟨((((6:Int)))),((((0:Int)))),(([g,(Fm.nd (5:Int) (0:Int) [f,(Fm.nd (7:Int) (0:Int) [(Fm.nd (8:Int) (0:Int) [f,g])])])]))⟩:Fm)))∧T 19=(V.bool (hoB t (⟨((((5:Int)))),((((0:Int)))),(([g,(Fm.nd (6:Int) (0:Int) [f,(Fm.nd (9:Int) (0:Int) [(Fm.nd (10:Int) (0:Int) [f,g])])])]))⟩:Fm)))∧T 20=(iV (hoE t (⟨((((5:Int)))),((((0:Int)))),(([g,(Fm.nd (6:Int) (0:Int) [f,(Fm.nd (9:Int) (0:Int) [(Fm.nd (10:Int) (0:Int) [f,g])])])]))⟩:Fm)))∧T 21=(V.bool (hoB t (⟨((((5:Int)))),((((0:Int)))),(([f,g,f]))⟩:Fm)))∧T 22=(iV (hoE t (⟨((((5:Int)))),((((0:Int)))),(([f,g,f]))⟩:Fm)))∧T 23=(V.bool (hoB t (⟨((((6:Int)))),((((0:Int)))),(([f,g,f]))⟩:Fm)))∧T 24=(iV (hoE t (⟨((((6:Int)))),((((0:Int)))),(([f,g,f]))⟩:Fm)))∧T 143=(V.bool (decide ((((hoE t (⟨((((8:Int)))),((((0:Int)))),(([f,g]))⟩:Fm))≠(0:Int))∨((hoE t (⟨((((10:Int)))),((((0:Int)))),(([f,g]))⟩:Fm))≠(0:Int)))∨((hoE t (⟨((((6:Int)))),((((0:Int)))),(([g,(Fm.nd (5:Int) (0:Int) [f,(Fm.nd (7:Int) (0:Int) [(Fm.nd (8:Int) (0:Int) [f,g])])])]))⟩:Fm))≠(0:Int)))))∧H 3=(bk 1 24 3 [[(iV (f.op)),(iV (f.arg)),(V.sl (List.map cF (f.kids)))]])∧H 4=(bk 1 24 3 [[(iV (g.op)),(iV (g.arg)),(V.sl (List.map cF (g.kids)))]])∧H 5=(bk 1 51 2 [[(ints t.ni),(ints t.no)]])∧H 7=(bk 1 24 3 [[(iV (((8:Int)))),(iV (((0:Int)))),(V.sl (List.map cF (([f,g]))))]])∧H 8=(bk 1 24 3 [[(iV (((10:Int)))),(iV (((0:Int)))),(V.sl (List.map cF (([f,g]))))]])∧True) ?_ ?_
  ·
   by_cases g5:((hoE t (⟨((((8:Int)))),((((0:Int)))),(([f,g]))⟩:Fm))≠(0:Int))∨((hoE t (⟨((((10:Int)))),((((0:Int)))),(([f,g]))⟩:Fm))≠(0:Int))
   ·
    refine G_n (edT g5 rfl) (G_n (edT g5 rfl) (R_pickT (edT g5 rfl) rfl ?_))
    exact ⟨t3,t5,t9,t11,t13,t15,t17,t19,t20,t21,t22,t23,t24,(dec_orT g5),h3,h4,h5,h7,h8,trivial⟩
   ·
    refine G_yes (edF g5 rfl) (R_mv t18 (G_yes (edF g5 rfl) (R_neq rfl rfl (R_pickF (edF g5 rfl) rfl ?_))))
    exact ⟨t3,t5,t9,t11,t13,t15,t17,t19,t20,t21,t22,t23,t24,(dec_orF g5),h3,h4,h5,h7,h8,trivial⟩
  intro T H ⟨t3,t5,t9,t11,t13,t15,t17,t19,t20,t21,t22,t23,t24,t143,h3,h4,h5,h7,h8,_⟩
  refine R_mv t143 ?_
  refine Ops_seg 3 (fun T H=>T 3=(V.mp 3 1 0 0)∧T 5=(V.mp 5 1 0 0)∧T 9=(V.bool (hoB t f))∧T 11=(V.bool (hoB t g))∧T 13=(V.bool (hoB t (⟨((((8:Int)))),((((0:Int)))),(([f,g]))⟩:Fm)))∧T 15=(V.bool (hoB t (⟨((((10:Int)))),((((0:Int)))),(([f,g]))⟩:Fm)))∧T 17=(V.bool (hoB t (⟨((((6:Int)))),((((0:Int)))),(([g,(Fm.nd (5:Int) (0:Int) [f,(Fm.nd (7:Int) (0:Int) [(Fm.nd (8:Int) (0:Int) [f,g])])])]))⟩:Fm)))∧T 19=(V.bool (hoB t (⟨((((5:Int)))),((((0:Int)))),(([g,(Fm.nd (6:Int) (0:Int) [f,(Fm.nd (9:Int) (0:Int) [(Fm.nd (10:Int) (0:Int) [f,g])])])]))⟩:Fm)))∧T 21=(V.bool (hoB t (⟨((((5:Int)))),((((0:Int)))),(([f,g,f]))⟩:Fm)))∧T 22=(iV (hoE t (⟨((((5:Int)))),((((0:Int)))),(([f,g,f]))⟩:Fm)))∧T 23=(V.bool (hoB t (⟨((((6:Int)))),((((0:Int)))),(([f,g,f]))⟩:Fm)))∧T 24=(iV (hoE t (⟨((((6:Int)))),((((0:Int)))),(([f,g,f]))⟩:Fm)))∧T 147=(V.bool (decide (((((hoE t (⟨((((8:Int)))),((((0:Int)))),(([f,g]))⟩:Fm))≠(0:Int))∨((hoE t (⟨((((10:Int)))),((((0:Int)))),(([f,g]))⟩:Fm))≠(0:Int)))∨((hoE t (⟨((((6:Int)))),((((0:Int)))),(([g,(Fm.nd (5:Int) (0:Int) [f,(Fm.nd (7:Int) (0:Int) [(Fm.nd (8:Int) (0:Int) [f,g])])])]))⟩:Fm))≠(0:Int)))∨((hoE t (⟨((((5:Int)))),((((0:Int)))),(([g,(Fm.nd (6:Int) (0:Int) [f,(Fm.nd (9:Int) (0:Int) [(Fm.nd (10:Int) (0:Int) [f,g])])])]))⟩:Fm))≠(0:Int)))))∧H 3=(bk 1 24 3 [[(iV (f.op)),(iV (f.arg)),(V.sl (List.map cF (f.kids)))]])∧H 4=(bk 1 24 3 [[(iV (g.op)),(iV (g.arg)),(V.sl (List.map cF (g.kids)))]])∧H 5=(bk 1 51 2 [[(ints t.ni),(ints t.no)]])∧H 7=(bk 1 24 3 [[(iV (((8:Int)))),(iV (((0:Int)))),(V.sl (List.map cF (([f,g]))))]])∧H 8=(bk 1 24 3 [[(iV (((10:Int)))),(iV (((0:Int)))),(V.sl (List.map cF (([f,g]))))]])∧True) ?_ ?_
  ·
   by_cases g6:(((hoE t (⟨((((8:Int)))),((((0:Int)))),(([f,g]))⟩:Fm))≠(0:Int))∨((hoE t (⟨((((10:Int)))),((((0:Int)))),(([f,g]))⟩:Fm))≠(0:Int)))∨((hoE t (⟨((((6:Int)))),((((0:Int)))),(([g,(Fm.nd (5:Int) (0:Int) [f,(Fm.nd (7:Int) (0:Int) [(Fm.nd (8:Int) (0:Int) [f,g])])])]))⟩:Fm))≠(0:Int))
   ·
    refine G_n (edT g6 rfl) (G_n (edT g6 rfl) (R_pickT (edT g6 rfl) rfl ?_))
    exact ⟨t3,t5,t9,t11,t13,t15,t17,t19,t21,t22,t23,t24,(dec_orT g6),h3,h4,h5,h7,h8,trivial⟩
   ·
    refine G_yes (edF g6 rfl) (R_mv t20 (G_yes (edF g6 rfl) (R_neq rfl rfl (R_pickF (edF g6 rfl) rfl ?_))))
    exact ⟨t3,t5,t9,t11,t13,t15,t17,t19,t21,t22,t23,t24,(dec_orF g6),h3,h4,h5,h7,h8,trivial⟩
  intro T H ⟨t3,t5,t9,t11,t13,t15,t17,t19,t21,t22,t23,t24,t147,h3,h4,h5,h7,h8,_⟩
  refine R_mv t147 ?_
  refine Ops_seg 3 (fun T H=>T 3=(V.mp 3 1 0 0)∧T 5=(V.mp 5 1 0 0)∧T 9=(V.bool (hoB t f))∧T 11=(V.bool (hoB t g))∧T 13=(V.bool (hoB t (⟨((((8:Int)))),((((0:Int)))),(([f,g]))⟩:Fm)))∧T 15=(V.bool (hoB t (⟨((((10:Int)))),((((0:Int)))),(([f,g]))⟩:Fm)))∧T 17=(V.bool (hoB t (⟨((((6:Int)))),((((0:Int)))),(([g,(Fm.nd (5:Int) (0:Int) [f,(Fm.nd (7:Int) (0:Int) [(Fm.nd (8:Int) (0:Int) [f,g])])])]))⟩:Fm)))∧T 19=(V.bool (hoB t (⟨((((5:Int)))),((((0:Int)))),(([g,(Fm.nd (6:Int) (0:Int) [f,(Fm.nd (9:Int) (0:Int) [(Fm.nd (10:Int) (0:Int) [f,g])])])]))⟩:Fm)))∧T 21=(V.bool (hoB t (⟨((((5:Int)))),((((0:Int)))),(([f,g,f]))⟩:Fm)))∧T 23=(V.bool (hoB t (⟨((((6:Int)))),((((0:Int)))),(([f,g,f]))⟩:Fm)))∧T 24=(iV (hoE t (⟨((((6:Int)))),((((0:Int)))),(([f,g,f]))⟩:Fm)))∧T 151=(V.bool (decide ((((((hoE t (⟨((((8:Int)))),((((0:Int)))),(([f,g]))⟩:Fm))≠(0:Int))∨((hoE t (⟨((((10:Int)))),((((0:Int)))),(([f,g]))⟩:Fm))≠(0:Int)))∨((hoE t (⟨((((6:Int)))),((((0:Int)))),(([g,(Fm.nd (5:Int) (0:Int) [f,(Fm.nd (7:Int) (0:Int) [(Fm.nd (8:Int) (0:Int) [f,g])])])]))⟩:Fm))≠(0:Int)))∨((hoE t (⟨((((5:Int)))),((((0:Int)))),(([g,(Fm.nd (6:Int) (0:Int) [f,(Fm.nd (9:Int) (0:Int) [(Fm.nd (10:Int) (0:Int) [f,g])])])]))⟩:Fm))≠(0:Int)))∨((hoE t (⟨((((5:Int)))),((((0:Int)))),(([f,g,f]))⟩:Fm))≠(0:Int)))))∧H 3=(bk 1 24 3 [[(iV (f.op)),(iV (f.arg)),(V.sl (List.map cF (f.kids)))]])∧H 4=(bk 1 24 3 [[(iV (g.op)),(iV (g.arg)),(V.sl (List.map cF (g.kids)))]])∧H 5=(bk 1 51 2 [[(ints t.ni),(ints t.no)]])∧H 7=(bk 1 24 3 [[(iV (((8:Int)))),(iV (((0:Int)))),(V.sl (List.map cF (([f,g]))))]])∧H 8=(bk 1 24 3 [[(iV (((10:Int)))),(iV (((0:Int)))),(V.sl (List.map cF (([f,g]))))]])∧True) ?_ ?_
  ·
   by_cases g7:((((hoE t (⟨((((8:Int)))),((((0:Int)))),(([f,g]))⟩:Fm))≠(0:Int))∨((hoE t (⟨((((10:Int)))),((((0:Int)))),(([f,g]))⟩:Fm))≠(0:Int)))∨((hoE t (⟨((((6:Int)))),((((0:Int)))),(([g,(Fm.nd (5:Int) (0:Int) [f,(Fm.nd (7:Int) (0:Int) [(Fm.nd (8:Int) (0:Int) [f,g])])])]))⟩:Fm))≠(0:Int)))∨((hoE t (⟨((((5:Int)))),((((0:Int)))),(([g,(Fm.nd (6:Int) (0:Int) [f,(Fm.nd (9:Int) (0:Int) [(Fm.nd (10:Int) (0:Int) [f,g])])])]))⟩:Fm))≠(0:Int))
   ·
    refine G_n (edT g7 rfl) (G_n (edT g7 rfl) (R_pickT (edT g7 rfl) rfl ?_))
    exact ⟨t3,t5,t9,t11,t13,t15,t17,t19,t21,t23,t24,(dec_orT g7),h3,h4,h5,h7,h8,trivial⟩
   ·
    refine G_yes (edF g7 rfl) (R_mv t22 (G_yes (edF g7 rfl) (R_neq rfl rfl (R_pickF (edF g7 rfl) rfl ?_))))
    exact ⟨t3,t5,t9,t11,t13,t15,t17,t19,t21,t23,t24,(dec_orF g7),h3,h4,h5,h7,h8,trivial⟩
  intro T H ⟨t3,t5,t9,t11,t13,t15,t17,t19,t21,t23,t24,t151,h3,h4,h5,h7,h8,_⟩
  refine R_mv t151 ?_
  refine Ops_seg 3 (fun T H=>T 3=(V.mp 3 1 0 0)∧T 5=(V.mp 5 1 0 0)∧T 9=(V.bool (hoB t f))∧T 11=(V.bool (hoB t g))∧T 13=(V.bool (hoB t (⟨((((8:Int)))),((((0:Int)))),(([f,g]))⟩:Fm)))∧T 15=(V.bool (hoB t (⟨((((10:Int)))),((((0:Int)))),(([f,g]))⟩:Fm)))∧T 17=(V.bool (hoB t (⟨((((6:Int)))),((((0:Int)))),(([g,(Fm.nd (5:Int) (0:Int) [f,(Fm.nd (7:Int) (0:Int) [(Fm.nd (8:Int) (0:Int) [f,g])])])]))⟩:Fm)))∧T 19=(V.bool (hoB t (⟨((((5:Int)))),((((0:Int)))),(([g,(Fm.nd (6:Int) (0:Int) [f,(Fm.nd (9:Int) (0:Int) [(Fm.nd (10:Int) (0:Int) [f,g])])])]))⟩:Fm)))∧T 21=(V.bool (hoB t (⟨((((5:Int)))),((((0:Int)))),(([f,g,f]))⟩:Fm)))∧T 23=(V.bool (hoB t (⟨((((6:Int)))),((((0:Int)))),(([f,g,f]))⟩:Fm)))∧T 155=(V.bool (decide (((((((hoE t (⟨((((8:Int)))),((((0:Int)))),(([f,g]))⟩:Fm))≠(0:Int))∨((hoE t (⟨((((10:Int)))),((((0:Int)))),(([f,g]))⟩:Fm))≠(0:Int)))∨((hoE t (⟨((((6:Int)))),((((0:Int)))),(([g,(Fm.nd (5:Int) (0:Int) [f,(Fm.nd (7:Int) (0:Int) [(Fm.nd (8:Int) (0:Int) [f,g])])])]))⟩:Fm))≠(0:Int)))∨((hoE t (⟨((((5:Int)))),((((0:Int)))),(([g,(Fm.nd (6:Int) (0:Int) [f,(Fm.nd (9:Int) (0:Int) [(Fm.nd (10:Int) (0:Int) [f,g])])])]))⟩:Fm))≠(0:Int)))∨((hoE t (⟨((((5:Int)))),((((0:Int)))),(([f,g,f]))⟩:Fm))≠(0:Int)))∨((hoE t (⟨((((6:Int)))),((((0:Int)))),(([f,g,f]))⟩:Fm))≠(0:Int)))))∧H 3=(bk 1 24 3 [[(iV (f.op)),(iV (f.arg)),(V.sl (List.map cF (f.kids)))]])∧H 4=(bk 1 24 3 [[(iV (g.op)),(iV (g.arg)),(V.sl (List.map cF (g.kids)))]])∧H 5=(bk 1 51 2 [[(ints t.ni),(ints t.no)]])∧H 7=(bk 1 24 3 [[(iV (((8:Int)))),(iV (((0:Int)))),(V.sl (List.map cF (([f,g]))))]])∧H 8=(bk 1 24 3 [[(iV (((10:Int)))),(iV (((0:Int)))),(V.sl (List.map cF (([f,g]))))]])∧True) ?_ ?_
  ·
   by_cases g8:(((((hoE t (⟨((((8:Int)))),((((0:Int)))),(([f,g]))⟩:Fm))≠(0:Int))∨((hoE t (⟨((((10:Int)))),((((0:Int)))),(([f,g]))⟩:Fm))≠(0:Int)))∨((hoE t (⟨((((6:Int)))),((((0:Int)))),(([g,(Fm.nd (5:Int) (0:Int) [f,(Fm.nd (7:Int) (0:Int) [(Fm.nd (8:Int) (0:Int) [f,g])])])]))⟩:Fm))≠(0:Int)))∨((hoE t (⟨((((5:Int)))),((((0:Int)))),(([g,(Fm.nd (6:Int) (0:Int) [f,(Fm.nd (9:Int) (0:Int) [(Fm.nd (10:Int) (0:Int) [f,g])])])]))⟩:Fm))≠(0:Int)))∨((hoE t (⟨((((5:Int)))),((((0:Int)))),(([f,g,f]))⟩:Fm))≠(0:Int))
   ·
    refine G_n (edT g8 rfl) (G_n (edT g8 rfl) (R_pickT (edT g8 rfl) rfl ?_))
    exact ⟨t3,t5,t9,t11,t13,t15,t17,t19,t21,t23,(dec_orT g8),h3,h4,h5,h7,h8,trivial⟩
   ·
    refine G_yes (edF g8 rfl) (R_mv t24 (G_yes (edF g8 rfl) (R_neq rfl rfl (R_pickF (edF g8 rfl) rfl ?_))))
    exact ⟨t3,t5,t9,t11,t13,t15,t17,t19,t21,t23,(dec_orF g8),h3,h4,h5,h7,h8,trivial⟩
  intro T H ⟨t3,t5,t9,t11,t13,t15,t17,t19,t21,t23,t155,h3,h4,h5,h7,h8,_⟩
  refine R_mv t155 ?_
  refine Ops_seg 4 (fun T H=>T 3=(V.mp 3 1 0 0)∧T 5=(V.mp 5 1 0 0)∧T 9=(V.bool (hoB t f))∧T 11=(V.bool (hoB t g))∧T 15=(V.bool (hoB t (⟨((((10:Int)))),((((0:Int)))),(([f,g]))⟩:Fm)))∧T 19=(V.bool (hoB t (⟨((((5:Int)))),((((0:Int)))),(([g,(Fm.nd (6:Int) (0:Int) [f,(Fm.nd (9:Int) (0:Int) [(Fm.nd (10:Int) (0:Int) [f,g])])])]))⟩:Fm)))∧T 21=(V.bool (hoB t (⟨((((5:Int)))),((((0:Int)))),(([f,g,f]))⟩:Fm)))∧T 23=(V.bool (hoB t (⟨((((6:Int)))),((((0:Int)))),(([f,g,f]))⟩:Fm)))∧T 160=(V.bool ((decide (((((((hoE t (⟨((((8:Int)))),((((0:Int)))),(([f,g]))⟩:Fm))≠(0:Int))∨((hoE t (⟨((((10:Int)))),((((0:Int)))),(([f,g]))⟩:Fm))≠(0:Int)))∨((hoE t (⟨((((6:Int)))),((((0:Int)))),(([g,(Fm.nd (5:Int) (0:Int) [f,(Fm.nd (7:Int) (0:Int) [(Fm.nd (8:Int) (0:Int) [f,g])])])]))⟩:Fm))≠(0:Int)))∨((hoE t (⟨((((5:Int)))),((((0:Int)))),(([g,(Fm.nd (6:Int) (0:Int) [f,(Fm.nd (9:Int) (0:Int) [(Fm.nd (10:Int) (0:Int) [f,g])])])]))⟩:Fm))≠(0:Int)))∨((hoE t (⟨((((5:Int)))),((((0:Int)))),(([f,g,f]))⟩:Fm))≠(0:Int)))∨((hoE t (⟨((((6:Int)))),((((0:Int)))),(([f,g,f]))⟩:Fm))≠(0:Int)))||(((hoB t (⟨((((8:Int)))),((((0:Int)))),(([f,g]))⟩:Fm)) != (hoB t (⟨((((6:Int)))),((((0:Int)))),(([g,(Fm.nd (5:Int) (0:Int) [f,(Fm.nd (7:Int) (0:Int) [(Fm.nd (8:Int) (0:Int) [f,g])])])]))⟩:Fm)))))))∧H 3=(bk 1 24 3 [[(iV (f.op)),(iV (f.arg)),(V.sl (List.map cF (f.kids)))]])∧H 4=(bk 1 24 3 [[(iV (g.op)),(iV (g.arg)),(V.sl (List.map cF (g.kids)))]])∧H 5=(bk 1 51 2 [[(ints t.ni),(ints t.no)]])∧H 7=(bk 1 24 3 [[(iV (((8:Int)))),(iV (((0:Int)))),(V.sl (List.map cF (([f,g]))))]])∧H 8=(bk 1 24 3 [[(iV (((10:Int)))),(iV (((0:Int)))),(V.sl (List.map cF (([f,g]))))]])∧True) ?_ ?_
  ·
   by_cases g9:((((((hoE t (⟨((((8:Int)))),((((0:Int)))),(([f,g]))⟩:Fm))≠(0:Int))∨((hoE t (⟨((((10:Int)))),((((0:Int)))),(([f,g]))⟩:Fm))≠(0:Int)))∨((hoE t (⟨((((6:Int)))),((((0:Int)))),(([g,(Fm.nd (5:Int) (0:Int) [f,(Fm.nd (7:Int) (0:Int) [(Fm.nd (8:Int) (0:Int) [f,g])])])]))⟩:Fm))≠(0:Int)))∨((hoE t (⟨((((5:Int)))),((((0:Int)))),(([g,(Fm.nd (6:Int) (0:Int) [f,(Fm.nd (9:Int) (0:Int) [(Fm.nd (10:Int) (0:Int) [f,g])])])]))⟩:Fm))≠(0:Int)))∨((hoE t (⟨((((5:Int)))),((((0:Int)))),(([f,g,f]))⟩:Fm))≠(0:Int)))∨((hoE t (⟨((((6:Int)))),((((0:Int)))),(([f,g,f]))⟩:Fm))≠(0:Int))
   ·
    refine G_n (edT g9 rfl) (G_n (edT g9 rfl) (G_n (edT g9 rfl) (R_pickT (edT g9 rfl) rfl ?_)))
    exact ⟨t3,t5,t9,t11,t15,t19,t21,t23,(dborT g9),h3,h4,h5,h7,h8,trivial⟩
   ·
    refine G_yes (edF g9 rfl) (R_mv t13 (G_yes (edF g9 rfl) (R_mv t17 (G_yes (edF g9 rfl) (R_bneq (x:=(hoB t (⟨((((8:Int)))),((((0:Int)))),(([f,g]))⟩:Fm))) (y:=(hoB t (⟨((((6:Int)))),((((0:Int)))),(([g,(Fm.nd (5:Int) (0:Int) [f,(Fm.nd (7:Int) (0:Int) [(Fm.nd (8:Int) (0:Int) [f,g])])])]))⟩:Fm))) rfl rfl (R_pickF (edF g9 rfl) rfl ?_))))))
    exact ⟨t3,t5,t9,t11,t15,t19,t21,t23,(dborF g9),h3,h4,h5,h7,h8,trivial⟩
  intro T H ⟨t3,t5,t9,t11,t15,t19,t21,t23,t160,h3,h4,h5,h7,h8,_⟩
  refine R_mv t160 ?_
  refine Ops_seg 4 (fun T H=>T 3=(V.mp 3 1 0 0)∧T 5=(V.mp 5 1 0 0)∧T 9=(V.bool (hoB t f))∧T 11=(V.bool (hoB t g))∧T 21=(V.bool (hoB t (⟨((((5:Int)))),((((0:Int)))),(([f,g,f]))⟩:Fm)))∧T 23=(V.bool (hoB t (⟨((((6:Int)))),((((0:Int)))),(([f,g,f]))⟩:Fm)))∧T 165=(V.bool ((((decide (((((((hoE t (⟨((((8:Int)))),((((0:Int)))),(([f,g]))⟩:Fm))≠(0:Int))∨((hoE t (⟨((((10:Int)))),((((0:Int)))),(([f,g]))⟩:Fm))≠(0:Int)))∨((hoE t (⟨((((6:Int)))),((((0:Int)))),(([g,(Fm.nd (5:Int) (0:Int) [f,(Fm.nd (7:Int) (0:Int) [(Fm.nd (8:Int) (0:Int) [f,g])])])]))⟩:Fm))≠(0:Int)))∨((hoE t (⟨((((5:Int)))),((((0:Int)))),(([g,(Fm.nd (6:Int) (0:Int) [f,(Fm.nd (9:Int) (0:Int) [(Fm.nd (10:Int) (0:Int) [f,g])])])]))⟩:Fm))≠(0:Int)))∨((hoE t (⟨((((5:Int)))),((((0:Int)))),(([f,g,f]))⟩:Fm))≠(0:Int)))∨((hoE t (⟨((((6:Int)))),((((0:Int)))),(([f,g,f]))⟩:Fm))≠(0:Int)))||(((hoB t (⟨((((8:Int)))),((((0:Int)))),(([f,g]))⟩:Fm)) != (hoB t (⟨((((6:Int)))),((((0:Int)))),(([g,(Fm.nd (5:Int) (0:Int) [f,(Fm.nd (7:Int) (0:Int) [(Fm.nd (8:Int) (0:Int) [f,g])])])]))⟩:Fm))))))||(((hoB t (⟨((((10:Int)))),((((0:Int)))),(([f,g]))⟩:Fm)) != (hoB t (⟨((((5:Int)))),((((0:Int)))),(([g,(Fm.nd (6:Int) (0:Int) [f,(Fm.nd (9:Int) (0:Int) [(Fm.nd (10:Int) (0:Int) [f,g])])])]))⟩:Fm)))))))∧H 3=(bk 1 24 3 [[(iV (f.op)),(iV (f.arg)),(V.sl (List.map cF (f.kids)))]])∧H 4=(bk 1 24 3 [[(iV (g.op)),(iV (g.arg)),(V.sl (List.map cF (g.kids)))]])∧H 5=(bk 1 51 2 [[(ints t.ni),(ints t.no)]])∧H 7=(bk 1 24 3 [[(iV (((8:Int)))),(iV (((0:Int)))),(V.sl (List.map cF (([f,g]))))]])∧H 8=(bk 1 24 3 [[(iV (((10:Int)))),(iV (((0:Int)))),(V.sl (List.map cF (([f,g]))))]])∧True) ?_ ?_
  ·
   by_cases g10:((decide (((((((hoE t (⟨((((8:Int)))),((((0:Int)))),(([f,g]))⟩:Fm))≠(0:Int))∨((hoE t (⟨((((10:Int)))),((((0:Int)))),(([f,g]))⟩:Fm))≠(0:Int)))∨((hoE t (⟨((((6:Int)))),((((0:Int)))),(([g,(Fm.nd (5:Int) (0:Int) [f,(Fm.nd (7:Int) (0:Int) [(Fm.nd (8:Int) (0:Int) [f,g])])])]))⟩:Fm))≠(0:Int)))∨((hoE t (⟨((((5:Int)))),((((0:Int)))),(([g,(Fm.nd (6:Int) (0:Int) [f,(Fm.nd (9:Int) (0:Int) [(Fm.nd (10:Int) (0:Int) [f,g])])])]))⟩:Fm))≠(0:Int)))∨((hoE t (⟨((((5:Int)))),((((0:Int)))),(([f,g,f]))⟩:Fm))≠(0:Int)))∨((hoE t (⟨((((6:Int)))),((((0:Int)))),(([f,g,f]))⟩:Fm))≠(0:Int)))||(((hoB t (⟨((((8:Int)))),((((0:Int)))),(([f,g]))⟩:Fm)) != (hoB t (⟨((((6:Int)))),((((0:Int)))),(([g,(Fm.nd (5:Int) (0:Int) [f,(Fm.nd (7:Int) (0:Int) [(Fm.nd (8:Int) (0:Int) [f,g])])])]))⟩:Fm))))))=true
   ·
    have g10x:=g10
    simp only [Bool.and_eq_true,Bool.or_eq_true,Bool.not_eq_true',decide_eq_true_eq] at g10x
    refine G_n (ebT g10 rfl) (G_n (ebT g10 rfl) (G_n (ebT g10 rfl) (R_pickT (ebT g10 rfl) rfl ?_)))
    exact ⟨t3,t5,t9,t11,t21,t23,(borT g10),h3,h4,h5,h7,h8,trivial⟩
   ·
    have g10x:=g10
    simp only [Bool.and_eq_true,Bool.or_eq_true,Bool.not_eq_true',decide_eq_true_eq] at g10x
    refine G_yes (ebF g10 rfl) (R_mv t15 (G_yes (ebF g10 rfl) (R_mv t19 (G_yes (ebF g10 rfl) (R_bneq (x:=(hoB t (⟨((((10:Int)))),((((0:Int)))),(([f,g]))⟩:Fm))) (y:=(hoB t (⟨((((5:Int)))),((((0:Int)))),(([g,(Fm.nd (6:Int) (0:Int) [f,(Fm.nd (9:Int) (0:Int) [(Fm.nd (10:Int) (0:Int) [f,g])])])]))⟩:Fm))) rfl rfl (R_pickF (ebF g10 rfl) rfl ?_))))))
    exact ⟨t3,t5,t9,t11,t21,t23,(borF g10),h3,h4,h5,h7,h8,trivial⟩
  intro T H ⟨t3,t5,t9,t11,t21,t23,t165,h3,h4,h5,h7,h8,_⟩
  refine R_mv t165 ?_
  refine Ops_seg 7 (fun T H=>T 3=(V.mp 3 1 0 0)∧T 5=(V.mp 5 1 0 0)∧T 9=(V.bool (hoB t f))∧T 11=(V.bool (hoB t g))∧T 23=(V.bool (hoB t (⟨((((6:Int)))),((((0:Int)))),(([f,g,f]))⟩:Fm)))∧T 173=(V.bool ((((((decide (((((((hoE t (⟨((((8:Int)))),((((0:Int)))),(([f,g]))⟩:Fm))≠(0:Int))∨((hoE t (⟨((((10:Int)))),((((0:Int)))),(([f,g]))⟩:Fm))≠(0:Int)))∨((hoE t (⟨((((6:Int)))),((((0:Int)))),(([g,(Fm.nd (5:Int) (0:Int) [f,(Fm.nd (7:Int) (0:Int) [(Fm.nd (8:Int) (0:Int) [f,g])])])]))⟩:Fm))≠(0:Int)))∨((hoE t (⟨((((5:Int)))),((((0:Int)))),(([g,(Fm.nd (6:Int) (0:Int) [f,(Fm.nd (9:Int) (0:Int) [(Fm.nd (10:Int) (0:Int) [f,g])])])]))⟩:Fm))≠(0:Int)))∨((hoE t (⟨((((5:Int)))),((((0:Int)))),(([f,g,f]))⟩:Fm))≠(0:Int)))∨((hoE t (⟨((((6:Int)))),((((0:Int)))),(([f,g,f]))⟩:Fm))≠(0:Int)))||(((hoB t (⟨((((8:Int)))),((((0:Int)))),(([f,g]))⟩:Fm)) != (hoB t (⟨((((6:Int)))),((((0:Int)))),(([g,(Fm.nd (5:Int) (0:Int) [f,(Fm.nd (7:Int) (0:Int) [(Fm.nd (8:Int) (0:Int) [f,g])])])]))⟩:Fm))))))||(((hoB t (⟨((((10:Int)))),((((0:Int)))),(([f,g]))⟩:Fm)) != (hoB t (⟨((((5:Int)))),((((0:Int)))),(([g,(Fm.nd (6:Int) (0:Int) [f,(Fm.nd (9:Int) (0:Int) [(Fm.nd (10:Int) (0:Int) [f,g])])])]))⟩:Fm))))))||(((hoB t (⟨((((5:Int)))),((((0:Int)))),(([f,g,f]))⟩:Fm)) != (((hoB t f)&&(hoB t g))))))))∧H 3=(bk 1 24 3 [[(iV (f.op)),(iV (f.arg)),(V.sl (List.map cF (f.kids)))]])∧H 4=(bk 1 24 3 [[(iV (g.op)),(iV (g.arg)),(V.sl (List.map cF (g.kids)))]])∧H 5=(bk 1 51 2 [[(ints t.ni),(ints t.no)]])∧H 7=(bk 1 24 3 [[(iV (((8:Int)))),(iV (((0:Int)))),(V.sl (List.map cF (([f,g]))))]])∧H 8=(bk 1 24 3 [[(iV (((10:Int)))),(iV (((0:Int)))),(V.sl (List.map cF (([f,g]))))]])∧True) ?_ ?_
  ·
   by_cases g11:((((decide (((((((hoE t (⟨((((8:Int)))),((((0:Int)))),(([f,g]))⟩:Fm))≠(0:Int))∨((hoE t (⟨((((10:Int)))),((((0:Int)))),(([f,g]))⟩:Fm))≠(0:Int)))∨((hoE t (⟨((((6:Int)))),((((0:Int)))),(([g,(Fm.nd (5:Int) (0:Int) [f,(Fm.nd (7:Int) (0:Int) [(Fm.nd (8:Int) (0:Int) [f,g])])])]))⟩:Fm))≠(0:Int)))∨((hoE t (⟨((((5:Int)))),((((0:Int)))),(([g,(Fm.nd (6:Int) (0:Int) [f,(Fm.nd (9:Int) (0:Int) [(Fm.nd (10:Int) (0:Int) [f,g])])])]))⟩:Fm))≠(0:Int)))∨((hoE t (⟨((((5:Int)))),((((0:Int)))),(([f,g,f]))⟩:Fm))≠(0:Int)))∨((hoE t (⟨((((6:Int)))),((((0:Int)))),(([f,g,f]))⟩:Fm))≠(0:Int)))||(((hoB t (⟨((((8:Int)))),((((0:Int)))),(([f,g]))⟩:Fm)) != (hoB t (⟨((((6:Int)))),((((0:Int)))),(([g,(Fm.nd (5:Int) (0:Int) [f,(Fm.nd (7:Int) (0:Int) [(Fm.nd (8:Int) (0:Int) [f,g])])])]))⟩:Fm))))))||(((hoB t (⟨((((10:Int)))),((((0:Int)))),(([f,g]))⟩:Fm)) != (hoB t (⟨((((5:Int)))),((((0:Int)))),(([g,(Fm.nd (6:Int) (0:Int) [f,(Fm.nd (9:Int) (0:Int) [(Fm.nd (10:Int) (0:Int) [f,g])])])]))⟩:Fm))))))=true
   ·
    have g11x:=g11
    simp only [Bool.and_eq_true,Bool.or_eq_true,Bool.not_eq_true',decide_eq_true_eq] at g11x
    refine G_n (ebT g11 rfl) (G_n (ebT g11 rfl) (G_n (ebT g11 rfl) (G_raw (@rfl V (V.raw undef)) (G_n (ebT g11 rfl) (G_n (ebT g11 rfl) (R_pickT (ebT g11 rfl) rfl ?_))))))
    exact ⟨t3,t5,t9,t11,t23,(borT g11),h3,h4,h5,h7,h8,trivial⟩
   ·
    have g11x:=g11
    simp only [Bool.and_eq_true,Bool.or_eq_true,Bool.not_eq_true',decide_eq_true_eq] at g11x
    refine G_yes (ebF g11 rfl) (R_mv t21 (G_yes (ebF g11 rfl) (R_mv t9 (G_yes (ebF g11 rfl) (R_mv rfl ?_)))))
    refine Ops_seg 2 (fun T H=>T 3=(V.mp 3 1 0 0)∧T 5=(V.mp 5 1 0 0)∧T 9=(V.bool (hoB t f))∧T 11=(V.bool (hoB t g))∧T 23=(V.bool (hoB t (⟨((((6:Int)))),((((0:Int)))),(([f,g,f]))⟩:Fm)))∧T 166=(V.bool false)∧T 167=(V.bool (hoB t (⟨((((5:Int)))),((((0:Int)))),(([f,g,f]))⟩:Fm)))∧T 171=(V.bool (((hoB t f)&&(hoB t g))))∧H 3=(bk 1 24 3 [[(iV (f.op)),(iV (f.arg)),(V.sl (List.map cF (f.kids)))]])∧H 4=(bk 1 24 3 [[(iV (g.op)),(iV (g.arg)),(V.sl (List.map cF (g.kids)))]])∧H 5=(bk 1 51 2 [[(ints t.ni),(ints t.no)]])∧H 7=(bk 1 24 3 [[(iV (((8:Int)))),(iV (((0:Int)))),(V.sl (List.map cF (([f,g]))))]])∧H 8=(bk 1 24 3 [[(iV (((10:Int)))),(iV (((0:Int)))),(V.sl (List.map cF (([f,g]))))]])∧True) ?_ ?_
    ·
     by_cases g12:(hoB t f)=true
     ·
      refine G_yes (ebT g12 rfl) (R_mv t11 (G_yes (ebF g11 rfl) (R_pickT (ebT g12 rfl) rfl ?_)))
      exact ⟨t3,t5,t9,t11,t23,(ebF g11 rfl),rfl,(bandT g12),h3,h4,h5,h7,h8,trivial⟩
     ·
      refine G_n (ebF g12 rfl) (G_yes (ebF g11 rfl) (R_pickF (ebF g12 rfl) rfl ?_))
      exact ⟨t3,t5,t9,t11,t23,(ebF g11 rfl),rfl,(bandF g12),h3,h4,h5,h7,h8,trivial⟩
    intro T H ⟨t3,t5,t9,t11,t23,t166,t167,t171,h3,h4,h5,h7,h8,_⟩
    refine G_yes t166 (R_bneq (x:=(hoB t (⟨((((5:Int)))),((((0:Int)))),(([f,g,f]))⟩:Fm))) (y:=(((hoB t f)&&(hoB t g)))) t167 t171 (R_pickF t166 rfl ?_))
    exact ⟨t3,t5,t9,t11,t23,(borF g11),h3,h4,h5,h7,h8,trivial⟩
  intro T H ⟨t3,t5,t9,t11,t23,t173,h3,h4,h5,h7,h8,_⟩
  refine R_mv t173 ?_
  refine Ops_seg 7 (fun T H=>T 3=(V.mp 3 1 0 0)∧T 5=(V.mp 5 1 0 0)∧T 181=(V.bool ((((((((decide (((((((hoE t (⟨((((8:Int)))),((((0:Int)))),(([f,g]))⟩:Fm))≠(0:Int))∨((hoE t (⟨((((10:Int)))),((((0:Int)))),(([f,g]))⟩:Fm))≠(0:Int)))∨((hoE t (⟨((((6:Int)))),((((0:Int)))),(([g,(Fm.nd (5:Int) (0:Int) [f,(Fm.nd (7:Int) (0:Int) [(Fm.nd (8:Int) (0:Int) [f,g])])])]))⟩:Fm))≠(0:Int)))∨((hoE t (⟨((((5:Int)))),((((0:Int)))),(([g,(Fm.nd (6:Int) (0:Int) [f,(Fm.nd (9:Int) (0:Int) [(Fm.nd (10:Int) (0:Int) [f,g])])])]))⟩:Fm))≠(0:Int)))∨((hoE t (⟨((((5:Int)))),((((0:Int)))),(([f,g,f]))⟩:Fm))≠(0:Int)))∨((hoE t (⟨((((6:Int)))),((((0:Int)))),(([f,g,f]))⟩:Fm))≠(0:Int)))||(((hoB t (⟨((((8:Int)))),((((0:Int)))),(([f,g]))⟩:Fm)) != (hoB t (⟨((((6:Int)))),((((0:Int)))),(([g,(Fm.nd (5:Int) (0:Int) [f,(Fm.nd (7:Int) (0:Int) [(Fm.nd (8:Int) (0:Int) [f,g])])])]))⟩:Fm))))))||(((hoB t (⟨((((10:Int)))),((((0:Int)))),(([f,g]))⟩:Fm)) != (hoB t (⟨((((5:Int)))),((((0:Int)))),(([g,(Fm.nd (6:Int) (0:Int) [f,(Fm.nd (9:Int) (0:Int) [(Fm.nd (10:Int) (0:Int) [f,g])])])]))⟩:Fm))))))||(((hoB t (⟨((((5:Int)))),((((0:Int)))),(([f,g,f]))⟩:Fm)) != (((hoB t f)&&(hoB t g)))))))||(((hoB t (⟨((((6:Int)))),((((0:Int)))),(([f,g,f]))⟩:Fm)) != (((hoB t f)||(hoB t g))))))))∧H 3=(bk 1 24 3 [[(iV (f.op)),(iV (f.arg)),(V.sl (List.map cF (f.kids)))]])∧H 4=(bk 1 24 3 [[(iV (g.op)),(iV (g.arg)),(V.sl (List.map cF (g.kids)))]])∧H 5=(bk 1 51 2 [[(ints t.ni),(ints t.no)]])∧H 7=(bk 1 24 3 [[(iV (((8:Int)))),(iV (((0:Int)))),(V.sl (List.map cF (([f,g]))))]])∧H 8=(bk 1 24 3 [[(iV (((10:Int)))),(iV (((0:Int)))),(V.sl (List.map cF (([f,g]))))]])∧True) ?_ ?_
  ·
   by_cases g13:((((((decide (((((((hoE t (⟨((((8:Int)))),((((0:Int)))),(([f,g]))⟩:Fm))≠(0:Int))∨((hoE t (⟨((((10:Int)))),((((0:Int)))),(([f,g]))⟩:Fm))≠(0:Int)))∨((hoE t (⟨((((6:Int)))),((((0:Int)))),(([g,(Fm.nd (5:Int) (0:Int) [f,(Fm.nd (7:Int) (0:Int) [(Fm.nd (8:Int) (0:Int) [f,g])])])]))⟩:Fm))≠(0:Int)))∨((hoE t (⟨((((5:Int)))),((((0:Int)))),(([g,(Fm.nd (6:Int) (0:Int) [f,(Fm.nd (9:Int) (0:Int) [(Fm.nd (10:Int) (0:Int) [f,g])])])]))⟩:Fm))≠(0:Int)))∨((hoE t (⟨((((5:Int)))),((((0:Int)))),(([f,g,f]))⟩:Fm))≠(0:Int)))∨((hoE t (⟨((((6:Int)))),((((0:Int)))),(([f,g,f]))⟩:Fm))≠(0:Int)))||(((hoB t (⟨((((8:Int)))),((((0:Int)))),(([f,g]))⟩:Fm)) != (hoB t (⟨((((6:Int)))),((((0:Int)))),(([g,(Fm.nd (5:Int) (0:Int) [f,(Fm.nd (7:Int) (0:Int) [(Fm.nd (8:Int) (0:Int) [f,g])])])]))⟩:Fm))))))||(((hoB t (⟨((((10:Int)))),((((0:Int)))),(([f,g]))⟩:Fm)) != (hoB t (⟨((((5:Int)))),((((0:Int)))),(([g,(Fm.nd (6:Int) (0:Int) [f,(Fm.nd (9:Int) (0:Int) [(Fm.nd (10:Int) (0:Int) [f,g])])])]))⟩:Fm))))))||(((hoB t (⟨((((5:Int)))),((((0:Int)))),(([f,g,f]))⟩:Fm)) != (((hoB t f)&&(hoB t g)))))))=true
   ·
    have g13x:=g13
    simp only [Bool.and_eq_true,Bool.or_eq_true,Bool.not_eq_true',decide_eq_true_eq] at g13x
    refine G_n (ebT g13 rfl) (G_n (ebT g13 rfl) (G_n (ebT g13 rfl) (G_raw (@rfl V (V.raw undef)) (G_n (ebT g13 rfl) (G_n (ebT g13 rfl) (R_pickT (ebT g13 rfl) rfl ?_))))))
    exact ⟨t3,t5,(borT g13),h3,h4,h5,h7,h8,trivial⟩
   ·
    have g13x:=g13
    simp only [Bool.and_eq_true,Bool.or_eq_true,Bool.not_eq_true',decide_eq_true_eq] at g13x
    refine G_yes (ebF g13 rfl) (R_mv t23 (G_yes (ebF g13 rfl) (R_mv t9 (G_yes (ebF g13 rfl) (R_mv rfl ?_)))))
    refine Ops_seg 2 (fun T H=>T 3=(V.mp 3 1 0 0)∧T 5=(V.mp 5 1 0 0)∧T 174=(V.bool false)∧T 175=(V.bool (hoB t (⟨((((6:Int)))),((((0:Int)))),(([f,g,f]))⟩:Fm)))∧T 179=(V.bool (((hoB t f)||(hoB t g))))∧H 3=(bk 1 24 3 [[(iV (f.op)),(iV (f.arg)),(V.sl (List.map cF (f.kids)))]])∧H 4=(bk 1 24 3 [[(iV (g.op)),(iV (g.arg)),(V.sl (List.map cF (g.kids)))]])∧H 5=(bk 1 51 2 [[(ints t.ni),(ints t.no)]])∧H 7=(bk 1 24 3 [[(iV (((8:Int)))),(iV (((0:Int)))),(V.sl (List.map cF (([f,g]))))]])∧H 8=(bk 1 24 3 [[(iV (((10:Int)))),(iV (((0:Int)))),(V.sl (List.map cF (([f,g]))))]])∧True) ?_ ?_
    ·
     by_cases g14:(hoB t f)=true
     ·
      refine G_n (ebT g14 rfl) (G_yes (ebF g13 rfl) (R_pickT (ebT g14 rfl) rfl ?_))
      exact ⟨t3,t5,(ebF g13 rfl),rfl,(borT g14),h3,h4,h5,h7,h8,trivial⟩
     ·
      refine G_yes (ebF g14 rfl) (R_mv t11 (G_yes (ebF g13 rfl) (R_pickF (ebF g14 rfl) rfl ?_)))
      exact ⟨t3,t5,(ebF g13 rfl),rfl,(borF g14),h3,h4,h5,h7,h8,trivial⟩
    intro T H ⟨t3,t5,t174,t175,t179,h3,h4,h5,h7,h8,_⟩
    refine G_yes t174 (R_bneq (x:=(hoB t (⟨((((6:Int)))),((((0:Int)))),(([f,g,f]))⟩:Fm))) (y:=(((hoB t f)||(hoB t g)))) t175 t179 (R_pickF t174 rfl ?_))
    exact ⟨t3,t5,(borF g13),h3,h4,h5,h7,h8,trivial⟩
  intro T H ⟨t3,t5,t181,h3,h4,h5,h7,h8,_⟩
  exact R_nil ⟨t3,t5,t181,h3,h4,h5,h7,h8,trivial⟩
 intro T H ⟨t3,t5,t181,h3,h4,h5,h7,h8,_⟩
 refine W_seq_ifb t181 (fun c15=>?_) (fun c15=>?_)
 · exfalso; have q:=c15; rw [x.e1,x.e2,x.e3,x.e4,x.e5,x.e6,x.b1,x.b2,x.b3,x.b4] at q; simp at q
 refine W_seq_skip (W_r (R_lk t3 h3 rfl rfl (R_bslice rfl rfl (R_callk (lnode_pure ((7:Int)) ((0:Int)) ([f])) (evcons rfl (evcons rfl (evcons (sl_F1 (x:=f) rfl) evnil))) (R_lk t5 h5 rfl rfl (R_callk (holds_pure (⟨((((7:Int)))),((((0:Int)))),(([f]))⟩:Fm) t) rfl (R_mv rfl ?_)))))))
 refine R_ext rfl rfl (R_ext rfl rfl (R_mv rfl (R_mv rfl (R_e (W_r (R_lk t3 h3 rfl rfl (R_bslice rfl rfl ?_)))))))
 refine R_callk (lnode_pure ((9:Int)) ((0:Int)) ([f])) (evcons rfl (evcons rfl (evcons (sl_F1 (x:=f) rfl) evnil))) (R_lk t5 h5 rfl rfl (R_callk (holds_pure (⟨((((9:Int)))),((((0:Int)))),(([f]))⟩:Fm) t) rfl (R_mv rfl (R_ext rfl rfl (R_ext rfl rfl (R_mv rfl (R_mv rfl ?_)))))))
 refine R_e (W_seq_seq (W_r (R_fk t5 h5 (R_lk rfl h5 rfl rfl (R_len rfl (R_eql rfl rfl (R_e ?_)))))))
 refine W_seq_if rfl (fun c16=>?_) fun c16=>?_
 ·
  obtain ⟨n1,n2⟩:=x.n1 (by omega)
  refine W_seq_seq ?_
  refine W_seq_regc (fun T H=>T 6=(V.bool ((((((((((!hoB t (⟨((((7:Int)))),((((0:Int)))),(([f]))⟩:Fm)))&&(hoB t (⟨((((9:Int)))),((((0:Int)))),(([f]))⟩:Fm))))&&decide ((hoE t (⟨((((7:Int)))),((((0:Int)))),(([f]))⟩:Fm))=(0:Int))))&&decide ((hoE t (⟨((((9:Int)))),((((0:Int)))),(([f]))⟩:Fm))=(0:Int))))||false)))∧H 3=(bk 1 24 3 [[(iV (f.op)),(iV (f.arg)),(V.sl (List.map cF (f.kids)))]])∧H 4=(bk 1 24 3 [[(iV (g.op)),(iV (g.arg)),(V.sl (List.map cF (g.kids)))]])∧H 5=(bk 1 51 2 [[(ints t.ni),(ints t.no)]])∧H 7=(bk 1 24 3 [[(iV (((8:Int)))),(iV (((0:Int)))),(V.sl (List.map cF (([f,g]))))]])∧H 8=(bk 1 24 3 [[(iV (((10:Int)))),(iV (((0:Int)))),(V.sl (List.map cF (([f,g]))))]])∧True) ?_ ?_
  ·
   refine R_mv rfl (R_notb rfl (R_mv rfl ?_))
   refine Ops_seg 2 (fun T H=>T 26=(iV (hoE t (⟨((((7:Int)))),((((0:Int)))),(([f]))⟩:Fm)))∧T 28=(iV (hoE t (⟨((((9:Int)))),((((0:Int)))),(([f]))⟩:Fm)))∧T 206=(V.bool ((((!hoB t (⟨((((7:Int)))),((((0:Int)))),(([f]))⟩:Fm)))&&(hoB t (⟨((((9:Int)))),((((0:Int)))),(([f]))⟩:Fm)))))∧H 3=(bk 1 24 3 [[(iV (f.op)),(iV (f.arg)),(V.sl (List.map cF (f.kids)))]])∧H 4=(bk 1 24 3 [[(iV (g.op)),(iV (g.arg)),(V.sl (List.map cF (g.kids)))]])∧H 5=(bk 1 51 2 [[(ints t.ni),(ints t.no)]])∧H 7=(bk 1 24 3 [[(iV (((8:Int)))),(iV (((0:Int)))),(V.sl (List.map cF (([f,g]))))]])∧H 8=(bk 1 24 3 [[(iV (((10:Int)))),(iV (((0:Int)))),(V.sl (List.map cF (([f,g]))))]])∧True) ?_ ?_
   ·
    by_cases g17:((!hoB t (⟨((((7:Int)))),((((0:Int)))),(([f]))⟩:Fm)))=true
    ·
     refine G_yes (ebT g17 rfl) (R_mv rfl (R_pickT (ebT g17 rfl) rfl ?_))
     exact ⟨rfl,rfl,(bandT g17),h3,h4,h5,h7,h8,trivial⟩
    ·
     refine G_n (ebF g17 rfl) (R_pickF (ebF g17 rfl) rfl ?_)
     exact ⟨rfl,rfl,(bandF g17),h3,h4,h5,h7,h8,trivial⟩
   intro T H ⟨t26,t28,t206,h3,h4,h5,h7,h8,_⟩
   refine R_mv t206 ?_
   refine Ops_seg 3 (fun T H=>T 28=(iV (hoE t (⟨((((9:Int)))),((((0:Int)))),(([f]))⟩:Fm)))∧T 210=(V.bool ((((((!hoB t (⟨((((7:Int)))),((((0:Int)))),(([f]))⟩:Fm)))&&(hoB t (⟨((((9:Int)))),((((0:Int)))),(([f]))⟩:Fm))))&&decide ((hoE t (⟨((((7:Int)))),((((0:Int)))),(([f]))⟩:Fm))=(0:Int)))))∧H 3=(bk 1 24 3 [[(iV (f.op)),(iV (f.arg)),(V.sl (List.map cF (f.kids)))]])∧H 4=(bk 1 24 3 [[(iV (g.op)),(iV (g.arg)),(V.sl (List.map cF (g.kids)))]])∧H 5=(bk 1 51 2 [[(ints t.ni),(ints t.no)]])∧H 7=(bk 1 24 3 [[(iV (((8:Int)))),(iV (((0:Int)))),(V.sl (List.map cF (([f,g]))))]])∧H 8=(bk 1 24 3 [[(iV (((10:Int)))),(iV (((0:Int)))),(V.sl (List.map cF (([f,g]))))]])∧True) ?_ ?_
   ·
    by_cases g18:((((!hoB t (⟨((((7:Int)))),((((0:Int)))),(([f]))⟩:Fm)))&&(hoB t (⟨((((9:Int)))),((((0:Int)))),(([f]))⟩:Fm))))=true
    ·
     have g18x:=g18
     simp only [Bool.and_eq_true,Bool.or_eq_true,Bool.not_eq_true',decide_eq_true_eq] at g18x
     refine G_yes (ebT g18 rfl) (R_mv t26 (G_yes (ebT g18 rfl) (R_eql rfl rfl (R_pickT (ebT g18 rfl) rfl ?_))))
     exact ⟨t28,(bandT g18),h3,h4,h5,h7,h8,trivial⟩
    ·
     have g18x:=g18
     simp only [Bool.and_eq_true,Bool.or_eq_true,Bool.not_eq_true',decide_eq_true_eq] at g18x
     refine G_n (ebF g18 rfl) (G_n (ebF g18 rfl) (R_pickF (ebF g18 rfl) rfl ?_))
     exact ⟨t28,(bandF g18),h3,h4,h5,h7,h8,trivial⟩
   intro T H ⟨t28,t210,h3,h4,h5,h7,h8,_⟩
   refine R_mv t210 ?_
   refine Ops_seg 3 (fun T H=>T 214=(V.bool ((((((((!hoB t (⟨((((7:Int)))),((((0:Int)))),(([f]))⟩:Fm)))&&(hoB t (⟨((((9:Int)))),((((0:Int)))),(([f]))⟩:Fm))))&&decide ((hoE t (⟨((((7:Int)))),((((0:Int)))),(([f]))⟩:Fm))=(0:Int))))&&decide ((hoE t (⟨((((9:Int)))),((((0:Int)))),(([f]))⟩:Fm))=(0:Int)))))∧H 3=(bk 1 24 3 [[(iV (f.op)),(iV (f.arg)),(V.sl (List.map cF (f.kids)))]])∧H 4=(bk 1 24 3 [[(iV (g.op)),(iV (g.arg)),(V.sl (List.map cF (g.kids)))]])∧H 5=(bk 1 51 2 [[(ints t.ni),(ints t.no)]])∧H 7=(bk 1 24 3 [[(iV (((8:Int)))),(iV (((0:Int)))),(V.sl (List.map cF (([f,g]))))]])∧H 8=(bk 1 24 3 [[(iV (((10:Int)))),(iV (((0:Int)))),(V.sl (List.map cF (([f,g]))))]])∧True) ?_ ?_
   ·
    by_cases g19:((((((!hoB t (⟨((((7:Int)))),((((0:Int)))),(([f]))⟩:Fm)))&&(hoB t (⟨((((9:Int)))),((((0:Int)))),(([f]))⟩:Fm))))&&decide ((hoE t (⟨((((7:Int)))),((((0:Int)))),(([f]))⟩:Fm))=(0:Int))))=true
    ·
     have g19x:=g19
     simp only [Bool.and_eq_true,Bool.or_eq_true,Bool.not_eq_true',decide_eq_true_eq] at g19x
     refine G_yes (ebT g19 rfl) (R_mv t28 (G_yes (ebT g19 rfl) (R_eql rfl rfl (R_pickT (ebT g19 rfl) rfl ?_))))
     exact ⟨(bandT g19),h3,h4,h5,h7,h8,trivial⟩
    ·
     have g19x:=g19
     simp only [Bool.and_eq_true,Bool.or_eq_true,Bool.not_eq_true',decide_eq_true_eq] at g19x
     refine G_n (ebF g19 rfl) (G_n (ebF g19 rfl) (R_pickF (ebF g19 rfl) rfl ?_))
     exact ⟨(bandF g19),h3,h4,h5,h7,h8,trivial⟩
   intro T H ⟨t214,h3,h4,h5,h7,h8,_⟩
   refine R_mv t214 ?_
   refine Ops_seg 2 (fun T H=>T 217=(V.bool ((((((((((!hoB t (⟨((((7:Int)))),((((0:Int)))),(([f]))⟩:Fm)))&&(hoB t (⟨((((9:Int)))),((((0:Int)))),(([f]))⟩:Fm))))&&decide ((hoE t (⟨((((7:Int)))),((((0:Int)))),(([f]))⟩:Fm))=(0:Int))))&&decide ((hoE t (⟨((((9:Int)))),((((0:Int)))),(([f]))⟩:Fm))=(0:Int))))||false)))∧H 3=(bk 1 24 3 [[(iV (f.op)),(iV (f.arg)),(V.sl (List.map cF (f.kids)))]])∧H 4=(bk 1 24 3 [[(iV (g.op)),(iV (g.arg)),(V.sl (List.map cF (g.kids)))]])∧H 5=(bk 1 51 2 [[(ints t.ni),(ints t.no)]])∧H 7=(bk 1 24 3 [[(iV (((8:Int)))),(iV (((0:Int)))),(V.sl (List.map cF (([f,g]))))]])∧H 8=(bk 1 24 3 [[(iV (((10:Int)))),(iV (((0:Int)))),(V.sl (List.map cF (([f,g]))))]])∧True) ?_ ?_
   ·
    by_cases g20:((((((((!hoB t (⟨((((7:Int)))),((((0:Int)))),(([f]))⟩:Fm)))&&(hoB t (⟨((((9:Int)))),((((0:Int)))),(([f]))⟩:Fm))))&&decide ((hoE t (⟨((((7:Int)))),((((0:Int)))),(([f]))⟩:Fm))=(0:Int))))&&decide ((hoE t (⟨((((9:Int)))),((((0:Int)))),(([f]))⟩:Fm))=(0:Int))))=true
    ·
     have g20x:=g20
     simp only [Bool.and_eq_true,Bool.or_eq_true,Bool.not_eq_true',decide_eq_true_eq] at g20x
     refine G_yes (ebT g20 rfl) (R_callk (aw45_pure) rfl (R_pickT (ebT g20 rfl) rfl ?_))
     exact ⟨(borT g20),h3,h4,h5,h7,h8,trivial⟩
    ·
     have g20x:=g20
     simp only [Bool.and_eq_true,Bool.or_eq_true,Bool.not_eq_true',decide_eq_true_eq] at g20x
     refine G_n (ebF g20 rfl) (R_pickF (ebF g20 rfl) rfl ?_)
     exact ⟨(borF g20),h3,h4,h5,h7,h8,trivial⟩
   intro T H ⟨t217,h3,h4,h5,h7,h8,_⟩
   refine R_mv t217 ?_
   exact R_nil ⟨rfl,h3,h4,h5,h7,h8,trivial⟩
  intro T H ⟨t6,h3,h4,h5,h7,h8,_⟩
  refine W_seq_ret ?_
  refine Ret_1 t6 (fz_bool ?_)
  · first|rfl|(rw [x.e7,x.e8,n1,n2]; rfl)|(rw [x.e7,x.e8,n2,n3]; simp [tlT,show hoE ⟨t.ni.tail,t.no.tail⟩ f=0 from by simpa [tlT] using n1])
 obtain ⟨n1,n2,n3⟩:=x.n2 (by omega)
 refine W_seq_skip (W_r (R_lk t3 h3 rfl rfl (R_fk t5 h5 (R_lk rfl h5 rfl rfl (R_slice_lo (n:=1) (@rfl V (ints t.ni)) (@rfl V (iV ((1:Nat):Int))) (by omega) (fun _=>rfl) (R_fk t5 h5 (R_lk rfl h5 rfl rfl ?_)))))))
 refine R_slice_lo (n:=1) (@rfl V (ints t.no)) (@rfl V (iV ((1:Nat):Int))) (by omega) (fun _=>rfl) (R_build rfl rfl (R_callk (holds_pure f (⟨(List.drop (1) (t.ni)),(List.drop (1) (t.no))⟩:Tr)) rfl (R_mv rfl (R_ext rfl rfl (R_ext rfl rfl (R_mv rfl (R_mv rfl ?_)))))))
 refine R_e ?_
 refine W_seq_regc (fun T H=>T 6=(V.bool (((((((((((((hoB t (⟨((((7:Int)))),((((0:Int)))),(([f]))⟩:Fm))==(hoB (⟨(List.drop (1) (t.ni)),(List.drop (1) (t.no))⟩:Tr) f)))&&(((hoB t (⟨((((9:Int)))),((((0:Int)))),(([f]))⟩:Fm))==(hoB (⟨(List.drop (1) (t.ni)),(List.drop (1) (t.no))⟩:Tr) f)))))&&decide ((hoE t (⟨((((7:Int)))),((((0:Int)))),(([f]))⟩:Fm))=(0:Int))))&&decide ((hoE t (⟨((((9:Int)))),((((0:Int)))),(([f]))⟩:Fm))=(0:Int))))&&decide ((hoE (⟨(List.drop (1) (t.ni)),(List.drop (1) (t.no))⟩:Tr) f)=(0:Int))))||false)))∧H 3=(bk 1 24 3 [[(iV (f.op)),(iV (f.arg)),(V.sl (List.map cF (f.kids)))]])∧H 4=(bk 1 24 3 [[(iV (g.op)),(iV (g.arg)),(V.sl (List.map cF (g.kids)))]])∧H 5=(bk 1 51 2 [[(ints t.ni),(ints t.no)]])∧H 7=(bk 1 24 3 [[(iV (((8:Int)))),(iV (((0:Int)))),(V.sl (List.map cF (([f,g]))))]])∧H 8=(bk 1 24 3 [[(iV (((10:Int)))),(iV (((0:Int)))),(V.sl (List.map cF (([f,g]))))]])∧True) ?_ ?_
 ·
  refine R_mv rfl (R_mv rfl (R_beql (x:=(hoB t (⟨((((7:Int)))),((((0:Int)))),(([f]))⟩:Fm))) (y:=(hoB (⟨(List.drop (1) (t.ni)),(List.drop (1) (t.no))⟩:Tr) f)) rfl rfl (R_mv rfl ?_)))
  refine Ops_seg 4 (fun T H=>T 26=(iV (hoE t (⟨((((7:Int)))),((((0:Int)))),(([f]))⟩:Fm)))∧T 28=(iV (hoE t (⟨((((9:Int)))),((((0:Int)))),(([f]))⟩:Fm)))∧T 30=(iV (hoE (⟨(List.drop (1) (t.ni)),(List.drop (1) (t.no))⟩:Tr) f))∧T 237=(V.bool (((((hoB t (⟨((((7:Int)))),((((0:Int)))),(([f]))⟩:Fm))==(hoB (⟨(List.drop (1) (t.ni)),(List.drop (1) (t.no))⟩:Tr) f)))&&(((hoB t (⟨((((9:Int)))),((((0:Int)))),(([f]))⟩:Fm))==(hoB (⟨(List.drop (1) (t.ni)),(List.drop (1) (t.no))⟩:Tr) f))))))∧H 3=(bk 1 24 3 [[(iV (f.op)),(iV (f.arg)),(V.sl (List.map cF (f.kids)))]])∧H 4=(bk 1 24 3 [[(iV (g.op)),(iV (g.arg)),(V.sl (List.map cF (g.kids)))]])∧H 5=(bk 1 51 2 [[(ints t.ni),(ints t.no)]])∧H 7=(bk 1 24 3 [[(iV (((8:Int)))),(iV (((0:Int)))),(V.sl (List.map cF (([f,g]))))]])∧H 8=(bk 1 24 3 [[(iV (((10:Int)))),(iV (((0:Int)))),(V.sl (List.map cF (([f,g]))))]])∧True) ?_ ?_
  ·
   by_cases g21:(((hoB t (⟨((((7:Int)))),((((0:Int)))),(([f]))⟩:Fm))==(hoB (⟨(List.drop (1) (t.ni)),(List.drop (1) (t.no))⟩:Tr) f)))=true
   ·
    refine G_yes (ebT g21 rfl) (R_mv rfl (G_yes (ebT g21 rfl) (R_mv rfl (G_yes (ebT g21 rfl) (R_beql (x:=(hoB t (⟨((((9:Int)))),((((0:Int)))),(([f]))⟩:Fm))) (y:=(hoB (⟨(List.drop (1) (t.ni)),(List.drop (1) (t.no))⟩:Tr) f)) rfl rfl (R_pickT (ebT g21 rfl) rfl ?_))))))
    exact ⟨rfl,rfl,rfl,(bandT g21),h3,h4,h5,h7,h8,trivial⟩
   ·
    refine G_n (ebF g21 rfl) (G_n (ebF g21 rfl) (G_n (ebF g21 rfl) (R_pickF (ebF g21 rfl) rfl ?_)))
    exact ⟨rfl,rfl,rfl,(bandF g21),h3,h4,h5,h7,h8,trivial⟩
  intro T H ⟨t26,t28,t30,t237,h3,h4,h5,h7,h8,_⟩
  refine R_mv t237 ?_
  refine Ops_seg 3 (fun T H=>T 28=(iV (hoE t (⟨((((9:Int)))),((((0:Int)))),(([f]))⟩:Fm)))∧T 30=(iV (hoE (⟨(List.drop (1) (t.ni)),(List.drop (1) (t.no))⟩:Tr) f))∧T 241=(V.bool (((((((hoB t (⟨((((7:Int)))),((((0:Int)))),(([f]))⟩:Fm))==(hoB (⟨(List.drop (1) (t.ni)),(List.drop (1) (t.no))⟩:Tr) f)))&&(((hoB t (⟨((((9:Int)))),((((0:Int)))),(([f]))⟩:Fm))==(hoB (⟨(List.drop (1) (t.ni)),(List.drop (1) (t.no))⟩:Tr) f)))))&&decide ((hoE t (⟨((((7:Int)))),((((0:Int)))),(([f]))⟩:Fm))=(0:Int)))))∧H 3=(bk 1 24 3 [[(iV (f.op)),(iV (f.arg)),(V.sl (List.map cF (f.kids)))]])∧H 4=(bk 1 24 3 [[(iV (g.op)),(iV (g.arg)),(V.sl (List.map cF (g.kids)))]])∧H 5=(bk 1 51 2 [[(ints t.ni),(ints t.no)]])∧H 7=(bk 1 24 3 [[(iV (((8:Int)))),(iV (((0:Int)))),(V.sl (List.map cF (([f,g]))))]])∧H 8=(bk 1 24 3 [[(iV (((10:Int)))),(iV (((0:Int)))),(V.sl (List.map cF (([f,g]))))]])∧True) ?_ ?_
  ·
   by_cases g22:(((((hoB t (⟨((((7:Int)))),((((0:Int)))),(([f]))⟩:Fm))==(hoB (⟨(List.drop (1) (t.ni)),(List.drop (1) (t.no))⟩:Tr) f)))&&(((hoB t (⟨((((9:Int)))),((((0:Int)))),(([f]))⟩:Fm))==(hoB (⟨(List.drop (1) (t.ni)),(List.drop (1) (t.no))⟩:Tr) f)))))=true
   ·
    have g22x:=g22
    simp only [Bool.and_eq_true,Bool.or_eq_true,Bool.not_eq_true',decide_eq_true_eq] at g22x
    refine G_yes (ebT g22 rfl) (R_mv t26 (G_yes (ebT g22 rfl) (R_eql rfl rfl (R_pickT (ebT g22 rfl) rfl ?_))))
    exact ⟨t28,t30,(bandT g22),h3,h4,h5,h7,h8,trivial⟩
   ·
    have g22x:=g22
    simp only [Bool.and_eq_true,Bool.or_eq_true,Bool.not_eq_true',decide_eq_true_eq] at g22x
    refine G_n (ebF g22 rfl) (G_n (ebF g22 rfl) (R_pickF (ebF g22 rfl) rfl ?_))
    exact ⟨t28,t30,(bandF g22),h3,h4,h5,h7,h8,trivial⟩
  intro T H ⟨t28,t30,t241,h3,h4,h5,h7,h8,_⟩
  refine R_mv t241 ?_
  refine Ops_seg 3 (fun T H=>T 30=(iV (hoE (⟨(List.drop (1) (t.ni)),(List.drop (1) (t.no))⟩:Tr) f))∧T 245=(V.bool (((((((((hoB t (⟨((((7:Int)))),((((0:Int)))),(([f]))⟩:Fm))==(hoB (⟨(List.drop (1) (t.ni)),(List.drop (1) (t.no))⟩:Tr) f)))&&(((hoB t (⟨((((9:Int)))),((((0:Int)))),(([f]))⟩:Fm))==(hoB (⟨(List.drop (1) (t.ni)),(List.drop (1) (t.no))⟩:Tr) f)))))&&decide ((hoE t (⟨((((7:Int)))),((((0:Int)))),(([f]))⟩:Fm))=(0:Int))))&&decide ((hoE t (⟨((((9:Int)))),((((0:Int)))),(([f]))⟩:Fm))=(0:Int)))))∧H 3=(bk 1 24 3 [[(iV (f.op)),(iV (f.arg)),(V.sl (List.map cF (f.kids)))]])∧H 4=(bk 1 24 3 [[(iV (g.op)),(iV (g.arg)),(V.sl (List.map cF (g.kids)))]])∧H 5=(bk 1 51 2 [[(ints t.ni),(ints t.no)]])∧H 7=(bk 1 24 3 [[(iV (((8:Int)))),(iV (((0:Int)))),(V.sl (List.map cF (([f,g]))))]])∧H 8=(bk 1 24 3 [[(iV (((10:Int)))),(iV (((0:Int)))),(V.sl (List.map cF (([f,g]))))]])∧True) ?_ ?_
  ·
   by_cases g23:(((((((hoB t (⟨((((7:Int)))),((((0:Int)))),(([f]))⟩:Fm))==(hoB (⟨(List.drop (1) (t.ni)),(List.drop (1) (t.no))⟩:Tr) f)))&&(((hoB t (⟨((((9:Int)))),((((0:Int)))),(([f]))⟩:Fm))==(hoB (⟨(List.drop (1) (t.ni)),(List.drop (1) (t.no))⟩:Tr) f)))))&&decide ((hoE t (⟨((((7:Int)))),((((0:Int)))),(([f]))⟩:Fm))=(0:Int))))=true
   ·
    have g23x:=g23
    simp only [Bool.and_eq_true,Bool.or_eq_true,Bool.not_eq_true',decide_eq_true_eq] at g23x
    refine G_yes (ebT g23 rfl) (R_mv t28 (G_yes (ebT g23 rfl) (R_eql rfl rfl (R_pickT (ebT g23 rfl) rfl ?_))))
    exact ⟨t30,(bandT g23),h3,h4,h5,h7,h8,trivial⟩
   ·
    have g23x:=g23
    simp only [Bool.and_eq_true,Bool.or_eq_true,Bool.not_eq_true',decide_eq_true_eq] at g23x
    refine G_n (ebF g23 rfl) (G_n (ebF g23 rfl) (R_pickF (ebF g23 rfl) rfl ?_))
    exact ⟨t30,(bandF g23),h3,h4,h5,h7,h8,trivial⟩
  intro T H ⟨t30,t245,h3,h4,h5,h7,h8,_⟩
  refine R_mv t245 ?_
  refine Ops_seg 3 (fun T H=>T 249=(V.bool (((((((((((hoB t (⟨((((7:Int)))),((((0:Int)))),(([f]))⟩:Fm))==(hoB (⟨(List.drop (1) (t.ni)),(List.drop (1) (t.no))⟩:Tr) f)))&&(((hoB t (⟨((((9:Int)))),((((0:Int)))),(([f]))⟩:Fm))==(hoB (⟨(List.drop (1) (t.ni)),(List.drop (1) (t.no))⟩:Tr) f)))))&&decide ((hoE t (⟨((((7:Int)))),((((0:Int)))),(([f]))⟩:Fm))=(0:Int))))&&decide ((hoE t (⟨((((9:Int)))),((((0:Int)))),(([f]))⟩:Fm))=(0:Int))))&&decide ((hoE (⟨(List.drop (1) (t.ni)),(List.drop (1) (t.no))⟩:Tr) f)=(0:Int)))))∧H 3=(bk 1 24 3 [[(iV (f.op)),(iV (f.arg)),(V.sl (List.map cF (f.kids)))]])∧H 4=(bk 1 24 3 [[(iV (g.op)),(iV (g.arg)),(V.sl (List.map cF (g.kids)))]])∧H 5=(bk 1 51 2 [[(ints t.ni),(ints t.no)]])∧H 7=(bk 1 24 3 [[(iV (((8:Int)))),(iV (((0:Int)))),(V.sl (List.map cF (([f,g]))))]])∧H 8=(bk 1 24 3 [[(iV (((10:Int)))),(iV (((0:Int)))),(V.sl (List.map cF (([f,g]))))]])∧True) ?_ ?_
  ·
   by_cases g24:(((((((((hoB t (⟨((((7:Int)))),((((0:Int)))),(([f]))⟩:Fm))==(hoB (⟨(List.drop (1) (t.ni)),(List.drop (1) (t.no))⟩:Tr) f)))&&(((hoB t (⟨((((9:Int)))),((((0:Int)))),(([f]))⟩:Fm))==(hoB (⟨(List.drop (1) (t.ni)),(List.drop (1) (t.no))⟩:Tr) f)))))&&decide ((hoE t (⟨((((7:Int)))),((((0:Int)))),(([f]))⟩:Fm))=(0:Int))))&&decide ((hoE t (⟨((((9:Int)))),((((0:Int)))),(([f]))⟩:Fm))=(0:Int))))=true
   ·
    have g24x:=g24
    simp only [Bool.and_eq_true,Bool.or_eq_true,Bool.not_eq_true',decide_eq_true_eq] at g24x
    refine G_yes (ebT g24 rfl) (R_mv t30 (G_yes (ebT g24 rfl) (R_eql rfl rfl (R_pickT (ebT g24 rfl) rfl ?_))))
    exact ⟨(bandT g24),h3,h4,h5,h7,h8,trivial⟩
   ·
    have g24x:=g24
    simp only [Bool.and_eq_true,Bool.or_eq_true,Bool.not_eq_true',decide_eq_true_eq] at g24x
    refine G_n (ebF g24 rfl) (G_n (ebF g24 rfl) (R_pickF (ebF g24 rfl) rfl ?_))
    exact ⟨(bandF g24),h3,h4,h5,h7,h8,trivial⟩
  intro T H ⟨t249,h3,h4,h5,h7,h8,_⟩
  refine R_mv t249 ?_
  refine Ops_seg 2 (fun T H=>T 252=(V.bool (((((((((((((hoB t (⟨((((7:Int)))),((((0:Int)))),(([f]))⟩:Fm))==(hoB (⟨(List.drop (1) (t.ni)),(List.drop (1) (t.no))⟩:Tr) f)))&&(((hoB t (⟨((((9:Int)))),((((0:Int)))),(([f]))⟩:Fm))==(hoB (⟨(List.drop (1) (t.ni)),(List.drop (1) (t.no))⟩:Tr) f)))))&&decide ((hoE t (⟨((((7:Int)))),((((0:Int)))),(([f]))⟩:Fm))=(0:Int))))&&decide ((hoE t (⟨((((9:Int)))),((((0:Int)))),(([f]))⟩:Fm))=(0:Int))))&&decide ((hoE (⟨(List.drop (1) (t.ni)),(List.drop (1) (t.no))⟩:Tr) f)=(0:Int))))||false)))∧H 3=(bk 1 24 3 [[(iV (f.op)),(iV (f.arg)),(V.sl (List.map cF (f.kids)))]])∧H 4=(bk 1 24 3 [[(iV (g.op)),(iV (g.arg)),(V.sl (List.map cF (g.kids)))]])∧H 5=(bk 1 51 2 [[(ints t.ni),(ints t.no)]])∧H 7=(bk 1 24 3 [[(iV (((8:Int)))),(iV (((0:Int)))),(V.sl (List.map cF (([f,g]))))]])∧H 8=(bk 1 24 3 [[(iV (((10:Int)))),(iV (((0:Int)))),(V.sl (List.map cF (([f,g]))))]])∧True) ?_ ?_
  ·
   by_cases g25:(((((((((((hoB t (⟨((((7:Int)))),((((0:Int)))),(([f]))⟩:Fm))==(hoB (⟨(List.drop (1) (t.ni)),(List.drop (1) (t.no))⟩:Tr) f)))&&(((hoB t (⟨((((9:Int)))),((((0:Int)))),(([f]))⟩:Fm))==(hoB (⟨(List.drop (1) (t.ni)),(List.drop (1) (t.no))⟩:Tr) f)))))&&decide ((hoE t (⟨((((7:Int)))),((((0:Int)))),(([f]))⟩:Fm))=(0:Int))))&&decide ((hoE t (⟨((((9:Int)))),((((0:Int)))),(([f]))⟩:Fm))=(0:Int))))&&decide ((hoE (⟨(List.drop (1) (t.ni)),(List.drop (1) (t.no))⟩:Tr) f)=(0:Int))))=true
   ·
    have g25x:=g25
    simp only [Bool.and_eq_true,Bool.or_eq_true,Bool.not_eq_true',decide_eq_true_eq] at g25x
    refine G_yes (ebT g25 rfl) (R_callk (aw45_pure) rfl (R_pickT (ebT g25 rfl) rfl ?_))
    exact ⟨(borT g25),h3,h4,h5,h7,h8,trivial⟩
   ·
    have g25x:=g25
    simp only [Bool.and_eq_true,Bool.or_eq_true,Bool.not_eq_true',decide_eq_true_eq] at g25x
    refine G_n (ebF g25 rfl) (R_pickF (ebF g25 rfl) rfl ?_)
    exact ⟨(borF g25),h3,h4,h5,h7,h8,trivial⟩
  intro T H ⟨t252,h3,h4,h5,h7,h8,_⟩
  refine R_mv t252 ?_
  exact R_nil ⟨rfl,h3,h4,h5,h7,h8,trivial⟩
 intro T H ⟨t6,h3,h4,h5,h7,h8,_⟩
 refine W_ret ?_
 refine Ret_1 t6 (fz_bool ?_)
 · first|rfl|(rw [x.e7,x.e8,n1,n2]; rfl)|(rw [x.e7,x.e8,n2,n3]; simp [tlT,show hoE ⟨t.ni.tail,t.no.tail⟩ f=0 from by simpa [tlT] using n1])
end Go.Proofs.Ytdmcmkccifmofaa
namespace Go.Proofs.Ytdmcmkccifmofaa
open Go Go.ChangeShapes Go.WideShapes Go.ChangeAt Go.RowKit
def okS (P:Program) (S:List TypeId) (t:TypeId):Bool:=match P.underlying t with
  |some .bool=>true
  |some (.int _)=>true
  |some .string=>true
  |some (.slice e)=>decide (e∈S)&&decide (P.cellsOf e≠0)
  |some (.struct fs)=>fs.toList.all (fun f=>decide (f.type∈S))&&tile P (P.cellsOf t) 0 fs.toList
  |some (.array m e)=>decide (e∈S)&&decide (m*P.cellsOf e=P.cellsOf t)
  |_=>false
section
variable {H:Type} {enc:TypeId×Value→H} {P:Program} {base:Nat} {spare:Nat→Bool} {held:Bool}
theorem trod_RS {x : Cx} (hZ : ∀ b, b < x.w.heap.size → x.Z b) {S : List TypeId} (hS : ∀ t ∈ S, okS P S t = true) : ∀ (fuel : Nat) (t : TypeId), t ∈ S → ∀ (cs : List Value) (y : DataW H × List MemPlace), DataW.trod enc P x.w base spare held fuel t cs = some y →
    ∃ vs,Shp P fuel t vs∧RC x vs cs:=by
  intro n
  induction n with
  |zero=>intro t _ cs y hy; simp [DataW.trod] at hy
  | succ n ih =>
    intro t hm cs y hy
    have hok:=hS t hm
    have one: ∀ {v:V} {c:Value},R x v c→RC x [v] [c]:=fun {v c} h=>⟨rfl,fun j u hj=>by
      cases j with
      |zero=>simp at hj; subst hj; exact h
      |succ j=>simp at hj⟩
    simp only [okS] at hok
    split at hok
    · rename_i ht
      simp only [Shp,ht]
      obtain ⟨b,rfl,_⟩:=DataW.trod_bool ht hy
      exact ⟨[.bool b],⟨b,rfl⟩,one (.bool b)⟩
    · rename_i k ht
      simp only [Shp,ht]
      obtain ⟨m,rfl,_⟩:=DataW.trod_int ht hy
      exact ⟨[.int k m],⟨m,rfl⟩,one (.int k m)⟩
    · rename_i ht
      simp only [Shp,ht]
      obtain ⟨s,rfl,_⟩:=DataW.trod_string ht hy
      exact ⟨[.str s.data.toList],⟨_,rfl⟩,one (R.str s.data.toList)⟩
    · rename_i e ht
      simp only [Shp,ht]
      simp only [Bool.and_eq_true,decide_eq_true_eq] at hok
      obtain ⟨hok,hnz⟩:=hok
      rcases DataW.trod_slice ht hy with ⟨rfl,_⟩|⟨a,len,cap,elems,rest,m,em,rfl,_,hb,hl,hc,hlen,hel,_,_⟩
      · exact ⟨[.sl []],⟨[],rfl,fun r hr=>by cases hr⟩,one .slnil⟩
      · obtain rfl:n=m:=by omega
        have hall: ∀ i,i < len→ ∃ r:List V,Shp P n e r∧ ∃ ci:List Value,x.w.cells? base (a.add (i*P.cellsOf e)) (P.cellsOf e)=some ci∧RC x r ci:=by
          intro i hi
          have h1:=hel i hi
          rw [List.getElem?_eq_getElem (by omega)] at h1
          cases h2:x.w.cells? base (a.add (i*P.cellsOf e)) (P.cellsOf e) with
          |none=>rw [h2] at h1; cases h1
          | some ci =>
            rw [h2] at h1
            obtain ⟨vs,h3,h4⟩:=ih e hok ci _ h1
            exact ⟨vs,h3,ci,rfl,h4⟩
        obtain ⟨rows,hrl,hrows⟩:=choiceL hall
        have hcell: ∀ (r:Nat) (row:List V) (j:Nat) (v:V),rows[r]?=some row→row[j]?=some v→
            ∃ c,x.w.cell? (a.add (r*P.cellsOf e+j))=some c∧R x v c:=by
          intro r row j v hr hj
          obtain ⟨_,ci,g1,g2⟩:=hrows r row hr
          obtain ⟨_,g4,g5⟩:=World.cells?_some g1
          have hjlt:j < ci.length:=by have:=(List.getElem?_eq_some_iff.1 hj).1; rw [← g2.1]; exact this
          have g6:=g5 j (by omega)
          rw [List.getElem?_eq_getElem hjlt,Addr.add_add] at g6
          refine ⟨_,g6,?_⟩
          have:=g2.2 j v hj
          rw [List.getD_eq_getElem?_getD,List.getElem?_eq_getElem hjlt] at this
          exact this
        have key:=R.sl (x:=x) rows a cap (P.cellsOf e) (fun k=>(x.w.cell? (a.add k)).getD undef) (by omega) hc ?_ ?_ ?_ ?_
        · rw [hrl] at key
          exact ⟨[.sl rows],⟨rows,rfl,fun r hr=>by obtain ⟨i,hi⟩:=List.getElem?_of_mem hr; exact (hrows i r hi).1⟩,one key⟩
        · intro hne
          cases hrr:rows with
          |nil=>exact (hne hrr).elim
          | cons r0 rs =>
            obtain ⟨_,ci,g1,g2⟩:=hrows 0 r0 (by rw [hrr]; rfl)
            · obtain ⟨_,g4,g5⟩:=World.cells?_some g1
              have g6:=g5 0 (by omega)
              rw [List.getElem?_eq_getElem (by omega),Addr.add_add] at g6
              have hlt:(a.add (0*P.cellsOf e+0)).block < x.w.heap.size:=by
                unfold World.cell? at g6
                split at g6
                · rename_i hh
                  exact (Array.getElem?_eq_some_iff.1 hh).1
                · cases g6
              exact hZ _ (by simpa [Addr.add] using hlt)
        · intro r hr
          obtain ⟨i,hi⟩:=List.getElem?_of_mem hr
          obtain ⟨_,ci,g1,g2⟩:=hrows i r hi
          rw [g2.1]
          exact (World.cells?_some g1).2.1
        · intro r row j v hr hj
          obtain ⟨c,g1,_⟩:=hcell r row j v hr hj
          rw [g1]; rfl
        · intro r row j v hr hj
          obtain ⟨c,g1,g2⟩:=hcell r row j v hr hj
          simp only [g1,Option.getD_some]
          exact g2
    · rename_i fs ht
      simp only [Shp,ht]
      simp only [Bool.and_eq_true] at hok
      obtain ⟨xs,m,em,_,hl,hxl,hf⟩:=DataW.trod_struct ht hy
      obtain rfl:n=m:=by omega
      have hfs: ∀ f∈fs.toList,∃ z,DataW.trod enc P x.w base spare held n f.type ((cs.drop f.offset).take (P.cellsOf f.type))=some z:=by
        intro f hm
        obtain ⟨i,hi⟩:=List.getElem?_of_mem hm
        have hi':fs[i]?=some f:=by simpa using hi
        have hlt:i < xs.length:=by
          have:=(Array.getElem?_eq_some_iff.1 hi').1
          omega
        exact ⟨xs[i],by rw [hf i f hi',List.getElem?_eq_getElem hlt]⟩
      have hok':=List.all_eq_true.1 hok.1
      have main: ∀ (l:List Field) (off:Nat),(∀ f∈l,f∈fs.toList)→tile P (P.cellsOf t) off l=true→off≤cs.length→ ∃ vs,ShpL (Shp P n) l vs∧RC x vs (cs.drop off):=by
        intro l
        induction l with
        | nil =>
          intro off _ htl hle
          simp only [tile,decide_eq_true_eq] at htl
          refine ⟨[],rfl,?_⟩
          rw [List.drop_of_length_le (by omega)]
          exact ⟨rfl,fun j v hj=>by simp at hj⟩
        | cons f r ihr =>
          intro off hsub htl hle
          simp only [tile,Bool.and_eq_true,decide_eq_true_eq] at htl
          obtain ⟨z,hz⟩:=hfs f (hsub f (List.mem_cons_self ..))
          obtain ⟨va,g1,g2⟩:=ih f.type (of_decide_eq_true (hok' f (hsub f (List.mem_cons_self ..)))) _ _ hz
          have hoff:off+P.cellsOf f.type≤cs.length:=by
            rw [hl]
            have: ∀ (l:List Field) (o:Nat),tile P (P.cellsOf t) o l=true→o≤P.cellsOf t:=by
              intro l
              induction l with
              |nil=>intro o h; simp only [tile,decide_eq_true_eq] at h; omega
              |cons f r ih=>intro o h; simp only [tile,Bool.and_eq_true,decide_eq_true_eq] at h; have:=ih _ h.2; omega
            exact this _ _ htl.2
          obtain ⟨vb,g3,g4⟩:=ihr (off+P.cellsOf f.type) (fun q hq=>hsub q (List.mem_cons_of_mem _ hq)) htl.2 hoff
          refine ⟨va++vb,⟨va,vb,rfl,g1,g3⟩,?_⟩
          have hsplit:cs.drop off=(cs.drop off).take (P.cellsOf f.type)++cs.drop (off+P.cellsOf f.type):=by
            rw [← List.drop_drop,List.take_append_drop]
          rw [hsplit]
          rw [htl.1] at g2
          exact RC_append g2 g4
      obtain ⟨vs,g1,g2⟩:=main fs.toList 0 (fun _ h=>h) hok.2 (Nat.zero_le _)
      exact ⟨vs,g1,by simpa using g2⟩
    · rename_i m e ht
      simp only [Shp,ht]
      simp only [Bool.and_eq_true,decide_eq_true_eq] at hok
      obtain ⟨xs,f,em,_,hl,hxl,hf⟩:=DataW.trod_array ht hy
      obtain rfl:n=f:=by omega
      have main: ∀ (k i:Nat),i+k=m→ ∃ vs,ShpR (Shp P n e) k vs∧RC x vs (cs.drop (i*P.cellsOf e)):=by
        intro k
        induction k with
        | zero =>
          intro i hi
          refine ⟨[],rfl,?_⟩
          rw [List.drop_of_length_le (by rw [hl,← hok.2,show i=m by omega]; exact Nat.le_refl _)]
          exact ⟨rfl,fun j v hj=>by simp at hj⟩
        | succ k ihk =>
          intro i hi
          have hlt:i < m:=by omega
          have hz:=hf i hlt
          rw [List.getElem?_eq_getElem (by omega)] at hz
          obtain ⟨va,g1,g2⟩:=ih e hok.1 _ _ hz
          obtain ⟨vb,g3,g4⟩:=ihk (i+1) (by omega)
          refine ⟨va++vb,⟨va,vb,rfl,g1,g3⟩,?_⟩
          have hsplit:cs.drop (i*P.cellsOf e)=(cs.drop (i*P.cellsOf e)).take (P.cellsOf e)++cs.drop ((i+1)*P.cellsOf e):=by
            rw [Nat.add_mul,Nat.one_mul,← List.drop_drop,List.take_append_drop]
          rw [hsplit]
          exact RC_append g2 g4
      obtain ⟨vs,g1,g2⟩:=main m 0 (by omega)
      exact ⟨vs,g1,by simpa using g2⟩
    · cases hok
theorem open_RS {x:Cx} (hZ: ∀ b,b < x.w.heap.size→x.Z b) {S:List TypeId} (hS: ∀ t∈S,okS P S t=true) {t:TypeId} (ht0:t∈S) {r:Reach} {b0 base:Nat} {spare:Nat→Bool} {held:Bool} {v:Value} {d:DataW H} {ps:List MemPlace}
    (hval:Value.okWide P x.w r b0 t v) (hd:DataW.Trod enc P x.w base spare held t v d ps): ∃ n vs,Shp P n t vs∧R x (packV P t vs) v:=by
  obtain ⟨fuel,hf⟩:=hd
  obtain ⟨vs,h1,h2⟩:=trod_RS hZ hS fuel t ht0 _ _ hf
  refine ⟨fuel,vs,h1,?_⟩
  have hok:=hS t ht0
  unfold packV
  simp only [okS] at hok
  split at hok
  · rename_i ht
    obtain ⟨b,rfl⟩:=okWide_bool ht hval
    rw [ht]; exact RC_one h2
  · rename_i k ht
    obtain ⟨m,rfl⟩:=okWide_int ht hval
    rw [ht]; exact RC_one h2
  · rename_i ht
    obtain ⟨s,rfl⟩:=okWide_string ht hval
    rw [ht]; exact RC_one h2
  · rename_i e ht
    obtain ⟨a,l,c,rfl⟩:=okWide_slice ht hval
    rw [ht]; exact RC_one h2
  · rename_i fs ht
    obtain ⟨cs,rfl,_⟩:=okWide_struct ht hval
    rw [ht]
    refine .agg vs cs (by have:=h2.1; simp [Value.cells] at this; omega) fun j u hj=>?_
    have:=h2.2 j u hj
    rw [List.getD_eq_getElem?_getD] at this
    rw [Array.getD_eq_getD_getElem?,← Array.getElem?_toList]
    exact this
  · rename_i m e ht
    have hval2:=hval
    simp only [Value.okWide,ht] at hval2
    obtain ⟨cs,rfl,_⟩:=hval2
    rw [ht]
    refine .agg vs cs (by have:=h2.1; simp [Value.cells] at this; omega) fun j u hj=>?_
    have:=h2.2 j u hj
    rw [List.getD_eq_getElem?_getD] at this
    rw [Array.getD_eq_getD_getElem?,← Array.getElem?_toList]
    exact this
  · cases hok
def ShpB (P:Program):List TypeId→List V→Prop
  |[],vs=>vs=[]
  |t::ts,vs=> ∃ n a b,vs=packV P t a::b∧Shp P n t a∧ShpB P ts b
theorem open_allS {x:Cx} (hZ: ∀ b,b < x.w.heap.size→x.Z b) {S:List TypeId} (hS: ∀ t∈S,okS P S t=true) {r:Reach} {b0 base:Nat} {spare:Nat→Bool} {held:Bool}: ∀ (ts:List TypeId) (vs:List Value) (ds:List (DataW H)) (ps:List MemPlace),
    (∀ t∈ts,t∈S)→(∀ (j:Nat) t v,ts[j]?=some t→vs[j]?=some v→Value.okWide P x.w r b0 t v)→DataW.TrodAll enc P x.w base spare held ts vs ds ps→
    ∃ us,ShpB P ts us∧RL x us vs
  | [], vs, ds, ps, _, _, h => by
    obtain ⟨rfl,rfl,rfl⟩:=trodAll_nil h
    exact ⟨[],rfl,rfl,fun j v hj=>by simp at hj⟩
  | t :: ts, vs, ds, ps, hok, hval, h => by
    obtain ⟨v,vs1,d,ds1,a,b,rfl,rfl,rfl,h1,h2⟩:=trodAll_cons h
    obtain ⟨n,ws,g1,g2⟩:=open_RS hZ hS (hok t (List.mem_cons_self ..)) (hval 0 t v rfl rfl) h1
    obtain ⟨us,g3,g4⟩:=open_allS hZ hS ts vs1 ds1 b (fun q hq=>hok q (List.mem_cons_of_mem _ hq)) (fun j q u hq hu=>hval (j+1) q u (by simpa using hq) (by simpa using hu)) h2
    refine ⟨packV P t ws::us,⟨n,ws,us,rfl,g1,g3⟩,by simp [g4.1],fun j u hj=>?_⟩
    cases j with
    |zero=>simp at hj; subst hj; exact g2
    |succ j=>exact g4.2 j u (by simpa using hj)
theorem law_postS {f:FuncId} {fn:Func} {s:ChangeSpec} {apart fresh handsOn again:Bool} {tb:Nat} {S:List TypeId} {W:World} {args:Array Value} {ds gs:List (DataW H)} {before:List MemPlace}
    (hl:laidOutB P=true) (hres:fn.resultTypes=#[tb]) (htb:P.underlying tb=some .bool) (hS: ∀ t∈S,okS P S t=true) (hts: ∀ t∈fn.params.toList,t∈S∧P.readableRec t=true∧t < P.types.size)
    (hvars:s.vars=[]) (hs:s.fn H (ds++gs)={results:=[.lit (.bool true)],args:=ds})
    (hlaw: ∀ us,ShpB P fn.params.toList us→PureC P f us (.bool true))
    (hval: ∀ (j:Nat) t v,fn.params[j]?=some t→args[j]?=some v→Value.okWide P W .any 0 t v)
    (hW:DataW.Whole enc P fn.params.toList s.vars apart W args.toList ds gs before):
    Calls P f args W fun e W'=> ∃ v,e=.returned v∧s.post enc P fn apart fresh handsOn again W args v W':=by
  have hW':=hW
  obtain ⟨p,q,hA,hV,rfl,hfz,hnd⟩:=hW
  rw [hvars] at hV
  obtain ⟨rfl,rfl⟩:=trodVars_none hV
  have hlt:=hW'.lt
  let x:Cx:=start {w:=W,Z:=fun b=>b < W.heap.size,σ:=fun _=>0,H:=H0} (fun b=>b < W.heap.size)
  have hx:Inv x:=start_ok fun b hb=>hb
  obtain ⟨us,g1,g2⟩:=open_allS (x:=x) (fun b hb=>hb) hS fn.params.toList args.toList ds p (fun t ht=>(hts t ht).1) (fun j t v h1 h2=>hval j t v (by simpa using h1) (by simpa using h2)) hA
  have hc:=(hlaw us g1 H0).2 x args.toList rfl hx g2
  rw [Array.toArray_toList] at hc
  refine Calls.mono (show Calls P f args W _ from hc) fun e W' h=>?_
  obtain ⟨c,y,rfl,rfl,h3,h4,h5,h6⟩:=h
  cases h5
  have hb:Below W.heap.size W y.w:=below_of_frame h6 (fun _=>rfl) rfl
  refine ⟨_,rfl,post_of_below (pa:=p) (pv:=[]) hW' (fun b sp hd=>?_) (fun sp hsp=>?_) (fun sp _=>?_) (by simp) hb ?_⟩
  · rw [hs,hres]
    exact trodAll_mk1 (shut_bool htb true)
  · rw [hs]
    exact trodAll_stays hl hb _ _ _ _ (fun t ht=>(hts t ht).2) hA (fun z hz=>hlt z (by simpa using hz)) (fun z hz=>hsp z (by simpa using hz))
  · rw [hs,hvars]; rfl
  · exact ok_one hres rfl (okWide_bool_mk htb true)
end
section
variable {P:Program} {n t:Nat} {vs:List V}
theorem shq_int {k:IntKind} (ht:P.underlying t=some (.int k)) (h:Shp P n t vs): ∃ m:Int,vs=[.int k m]:=by
  cases n with
  |zero=>exact h.elim
  |succ n=>exact shp_int ht h
theorem shq_slice {e:Nat} {α:Type} {f:α→List V} (ht:P.underlying t=some (.slice e)) (he: ∀ m vs,Shp P m e vs→ ∃ a,vs=f a) (h:Shp P n t vs): ∃ l:List α,vs=[.sl (l.map f)]:=by
  cases n with
  |zero=>exact h.elim
  |succ n=>exact shp_slice ht (he n) h
theorem shq_step {fs:Array Field} (ht:P.underlying t=some (.struct fs)) (h:Shp P n t vs): ∃ m,n=m+1∧ShpL (Shp P m) fs.toList vs:=by
  cases n with
  |zero=>exact h.elim
  |succ n=>exact ⟨n,rfl,shp_step ht h⟩
theorem shq_kids {e:Nat} {α:Type} {f:α→List V} {N:Nat} (ht:P.underlying t=some (.slice e)) (he: ∀ m,m < N→ ∀ vs,Shp P m e vs→ ∃ a,vs=f a) (hn:n < N) (h:Shp P n t vs): ∃ l:List α,vs=[.sl (l.map f)]:=by
  cases n with
  |zero=>exact h.elim
  |succ n=>exact shp_slice ht (he n (by omega)) h
theorem shpB_cons {ts:List TypeId} {us:List V} (h:ShpB P (t::ts) us): ∃ n a b,us=packV P t a::b∧Shp P n t a∧ShpB P ts b:=h
theorem shpB_nil {us:List V} (h:ShpB P [] us):us=[]:=h
end
end Go.Proofs.Ytdmcmkccifmofaa
namespace Go.Proofs.Ytdmcmkccifmofaa
open Go
abbrev cFm (f:Fm):List V:=[iV f.op,iV f.arg,.sl (f.kids.map cF)]
structure Tri where
  ia:List (List UInt8)
  oa:List (List UInt8)
  f:Fm
  s:List UInt8
end Go.Proofs.Ytdmcmkccifmofaa
namespace Go.Proofs.Ytdmcmkccifmofaa
open Go Go.Proofs Go.Proofs.Ytdmcmkccifmofaa Go.ChangeShapes Go.WideShapes Go.ChangeAt Go.RowKit
structure UT (P:Program):Prop where
  u3:P.underlying 3=some (.int .i64)
  u22:P.underlying 22=some (.slice 24)
  u24: ∃ f0 f1 f2:Field,P.underlying 24=some (.struct #[f0,f1,f2])∧f0.type=3∧f1.type=3∧f2.type=22
  u49:P.underlying 49=some (.slice 3)
  u51: ∃ f0 f1:Field,P.underlying 51=some (.struct #[f0,f1])∧f0.type=49∧f1.type=49
theorem sh3 {P:Program} (U:UT P): ∀ (n:Nat) (vs:List V),Shp P n 3 vs→ ∃ a:Int,vs=cI a:=fun _ _ h=>shq_int U.u3 h
theorem sh24 {P:Program} (U:UT P): ∀ (n:Nat) (vs:List V),Shp P n 24 vs→ ∃ a:Fm,vs=cF a:=by
  intro n
  induction n using Nat.strongRecOn with
  | ind n ih =>
    intro vs h
    obtain ⟨f0,f1,f2,hu,k0,k1,k2⟩:=U.u24
    obtain ⟨m,hm,h0⟩:=shq_step hu h
    obtain ⟨x0,u0,e0,h1⟩:=shpL_cons (c:=cI) (fun vs h=>sh3 U m vs (by rw [k0] at h; exact h)) h0
    obtain ⟨x1,u1,e1,h2⟩:=shpL_cons (c:=cI) (fun vs h=>sh3 U m vs (by rw [k1] at h; exact h)) h1
    obtain ⟨x2,u2,e2,h3⟩:=shpL_cons (c:=fun l:List Fm=>[V.sl (List.map cF l)]) (fun vs h=>shq_kids (N:=n) (n:=m) U.u22 ih (by omega) (by rw [k2] at h; exact h)) h2
    have e3:=shpL_nil h3
    exact ⟨(Fm.nd x0 x1 x2),by rw [e0,e1,e2,e3,cF_eq]; rfl⟩
theorem sh49 {P:Program} (U:UT P): ∀ (n:Nat) (vs:List V),Shp P n 49 vs→ ∃ a:(List Int),vs=cL a:=fun _ _ h=>shq_slice (f:=cI) U.u49 (sh3 U) h
theorem sh51 {P:Program} (U:UT P): ∀ (n:Nat) (vs:List V),Shp P n 51 vs→ ∃ a:Tr,vs=cT a:=by
  intro n
  induction n using Nat.strongRecOn with
  | ind n ih =>
    intro vs h
    obtain ⟨f0,f1,hu,k0,k1⟩:=U.u51
    obtain ⟨m,hm,h0⟩:=shq_step hu h
    obtain ⟨x0,u0,e0,h1⟩:=shpL_cons (c:=cL) (fun vs h=>sh49 U m vs (by rw [k0] at h; exact h)) h0
    obtain ⟨x1,u1,e1,h2⟩:=shpL_cons (c:=cL) (fun vs h=>sh49 U m vs (by rw [k1] at h; exact h)) h1
    have e2:=shpL_nil h2
    exact ⟨⟨x0,x1⟩,by rw [e0,e1,e2]; rfl⟩
theorem ut:UT Try.prog:=⟨by kernel_rfl,by kernel_rfl,⟨_,_,_,Try.underlying24,rfl,rfl,rfl⟩,by kernel_rfl,⟨_,_,Try.underlying51,rfl,rfl⟩⟩
theorem args9 {P:Program} (U:UT P) {us:List V} (h:ShpB P [24,24,51] us): ∃ (d0:Fm) (d1:Fm) (d2:Tr),us=[V.agg (cFm d0),V.agg (cFm d1),V.agg (cT d2)]:=by
  obtain ⟨n0,a0,b0,e0,h0,h⟩:=shpB_cons h
  obtain ⟨d0,g0⟩:=sh24 U n0 a0 h0
  have q0:packV P 24 a0=V.agg (cFm d0):=by obtain ⟨_,_,_,hu,_⟩:=U.u24; rw [g0,cF_eq]; exact pack_struct hu _
  obtain ⟨n1,a1,b1,e1,h1,h⟩:=shpB_cons h
  obtain ⟨d1,g1⟩:=sh24 U n1 a1 h1
  have q1:packV P 24 a1=V.agg (cFm d1):=by obtain ⟨_,_,_,hu,_⟩:=U.u24; rw [g1,cF_eq]; exact pack_struct hu _
  obtain ⟨n2,a2,b2,e2,h2,h⟩:=shpB_cons h
  obtain ⟨d2,g2⟩:=sh51 U n2 a2 h2
  have q2:packV P 51 a2=V.agg (cT d2):=by obtain ⟨_,_,hu,_⟩:=U.u51; rw [g2]; exact pack_struct hu _
  have e3:=shpB_nil h
  exact ⟨d0,d1,d2,by rw [e0,q0,e1,q1,e2,q2,e3]⟩
theorem own9:ownKnob Try.prog.godebug=none:=by kernel_rfl
theorem okS9: ∀ t∈[3,22,24,49,51],okS Try.prog [3,22,24,49,51] t=true:=by
  intro t ht
  simp only [List.mem_cons,List.not_mem_nil,or_false] at ht
  rcases ht with rfl|rfl|rfl|rfl|rfl
  · kernel_rfl
  · kernel_rfl
  · kernel_rfl
  · kernel_rfl
  · kernel_rfl
set_option maxRecDepth 100000 in
theorem lifted9 (os:Os) (started:os.Started) (H:Type) (enc:TypeId×Value→H):
    ReturnsInHanded {} Try.checked os 9 .any (Rows.formulaExpandsSpec.pre6 enc Try.prog Try.f9 Rows.formulaExpandsRow.domain false) (Rows.formulaExpandsSpec.post enc Try.prog Try.f9 false true false false):=by
  refine returnsInHanded_of_change (C:=Try.checked) own9 started (by kernel_rfl) Try.func9
    (ChangeSpec.witness6 (enc:=enc) (C:=Try.checked) false ⟨#[],#[.agg #[.int .i64 0,.int .i64 0,.slice none 0 0],.agg #[.int .i64 0,.int .i64 0,.slice none 0 0],.agg #[.slice none 0 0,.slice none 0 0]],[]⟩ 8 (by kernel_rfl) (by kernel_rfl) (by kernel_rfl) (by kernel_rfl)) ?_
  intro W base args ds gs before hval0 hW hcnd _
  refine law_postS (S:=[3,22,24,49,51]) (tb:=4) (by kernel_rfl) (by kernel_rfl) (by kernel_rfl) okS9 (fun t ht=>?_) rfl ?_ (fun us hu=>?_) hval0 hW
  · have h:t∈[24,24,51]:=ht
    simp only [List.mem_cons,List.not_mem_nil,or_false] at h
    rcases h with rfl|rfl|rfl
    · exact ⟨of_decide_eq_true (by kernel_rfl),by kernel_rfl,of_decide_eq_true (by kernel_rfl)⟩
    · exact ⟨of_decide_eq_true (by kernel_rfl),by kernel_rfl,of_decide_eq_true (by kernel_rfl)⟩
    · exact ⟨of_decide_eq_true (by kernel_rfl),by kernel_rfl,of_decide_eq_true (by kernel_rfl)⟩
  · obtain ⟨p,q,hA,hV,rfl,hfz,hnd⟩:=hW
    obtain ⟨rfl,rfl⟩:=trodVars_none hV
    change DataW.TrodAll enc Try.prog W 0 (fun _=>true) true [24,24,51] args.toList ds p at hA
    obtain ⟨v0,vs0,y0,ds0,pa0,pb0,hv0,rfl,rfl,_,hA⟩:=trodAll_cons hA
    obtain ⟨v1,vs1,y1,ds1,pa1,pb1,hv1,rfl,rfl,_,hA⟩:=trodAll_cons hA
    obtain ⟨v2,vs2,y2,ds2,pa2,pb2,hv2,rfl,rfl,_,hA⟩:=trodAll_cons hA
    obtain ⟨_,rfl,rfl⟩:=trodAll_nil hA
    rfl
  · obtain ⟨d0,d1,d2,rfl⟩:=args9 ut hu
    exact law9_pure d0 d1 d2
theorem proved9:Rows.FormulaExpandsSaid:=
  OpenClaim.holds_of_wide 9 Try.f9 rfl rfl rfl rfl rfl rfl rfl ⟨rfl,rfl,rfl,rfl,rfl⟩ rfl rfl rfl rfl rfl (by kernel_rfl) Try.func9 (by kernel_rfl)
    (of_decide_eq_true (by kernel_rfl)) (by unfold Func.isWrapper; first|(rw [if_pos (by decide+kernel)]; kernel_rfl)|(rw [if_neg (by decide+kernel)]; exact ⟨rfl,rfl⟩))
    (fun os started H enc _=>lifted9 os started H enc)
end Go.Proofs.Ytdmcmkccifmofaa
