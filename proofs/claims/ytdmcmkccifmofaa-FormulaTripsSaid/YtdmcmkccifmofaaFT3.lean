/- Contracts of the functions that the law FT reaches, and the law itself, for every input; no condition. -/
import Derived.KernelRfl
import Derived.Test.YtdmcmkccifmofaaProg
import Derived.Test.YtdmcmkccifmofaaRows
import Derived.Test.YtdmcmkccifmofaaFT2
set_option linter.unusedSimpArgs false
set_option linter.unusedVariables false
namespace Go.Proofs.Ytdmcmkccifmofaa
open Go Go.Proofs
attribute [local irreducible] mksV
theorem rests_pure_step (f:Fm) (t:Tr) (hf:okF f=true) (hz:f.sz≤4096) (ht:t.no.length=t.ni.length) (hn:t.ni.length≤1024) (ih: ∀ (g:Fm) (t:Tr),g.sz < f.sz→okF g=true→g.sz≤4096→t.no.length=t.ni.length→t.ni.length≤1024→PureC Try.prog 48 [(V.agg [(iV (g.op)),(iV (g.arg)),(V.sl (List.map cF (g.kids)))]),(V.agg [(ints t.ni),(ints t.no)])] (V.sl (List.map cB ((rst t g))))):PureC Try.prog 48 [(V.agg [(iV (f.op)),(iV (f.arg)),(V.sl (List.map cF (f.kids)))]),(V.agg [(ints t.ni),(ints t.no)])] (V.sl (List.map cB ((rst t f)))):=by
 refine pW Try.func48 s48_ok fun hB=>?_
 unfold s48
 dsimp only
 have hp:=okF_parts hf
 have hr:=rgt_ok hp.1
 have hln:=f.sz_len
 refine W_r (R_box (i:=2) (n:=0) (m:=3) (cs:=[(iV (f.op)),(iV (f.arg)),(V.sl (List.map cF (f.kids)))]) rfl (congrArg Blk.ver rfl) rfl rfl rfl (R_box (i:=3) (n:=0) (m:=2) (cs:=[(ints t.ni),(ints t.no)]) rfl (congrArg Blk.ver rfl) rfl rfl rfl (R_mv rfl (R_e (W_r (R_fk rfl rfl (R_lk rfl rfl rfl rfl ?_)))))))
 refine R_len rfl (R_mv rfl (R_e (W_r (R_lazy (i:=6) (n:=0) rfl (congrArg Blk.ver rfl) (R_e (W_seq_seq (W_r ?_)))))))
 refine R_fk rfl rfl (R_lk rfl rfl rfl rfl (R_len rfl (R_mv rfl (R_e (W_seq_blockg fun Q1 n1 x1 y1 z1=>?_)))))
 refine W_loop (fun mm T H=> ∃ (k:Nat) (v:Nat) (v8:Nat),mm=f.kids.length - k∧T 2=(V.mp 2 1 0 0)∧T 3=(V.mp 3 1 0 0)∧T 5=(iV ((t.ni.length:Nat):Int))∧T 6=(V.ms 6 v 0 (k))∧T 15=(V.sl (List.map cF (f.kids)))∧T 16=(iV ((f.kids.length:Nat):Int))∧T 17=(iV ((k:Nat):Int))∧H 2=(bk 1 24 3 [[(iV (f.op)),(iV (f.arg)),(V.sl (List.map cF (f.kids)))]])∧H 3=(bk 1 51 2 [[(ints t.ni),(ints t.no)]])∧H 6=(bz v 98 1 (List.map cBL ((f.kids.take k).map (rst t))))∧(H 8).ver=v8∧H 30=(⟨0,false,false,0,0,[]⟩:Blk)∧(k≤f.kids.length)) ?_ ?_
 ·
  refine ⟨_,0,1,0,rfl,rfl,rfl,rfl,rfl,rfl,rfl,(Eq.trans (@rfl V (iV (0:Int))) rfl),rfl,rfl,(Eq.trans (@rfl Blk (bz 1 98 1 [])) (by rfl)),(congrArg Blk.ver rfl),rfl,?_⟩
  · omega
 intro mm T H ⟨k,v,v8,hmm,t2,t3,t5,t6,t15,t16,t17,h2,h3,h6,h8,h30,hk⟩ Q2 p12 p22 p32
 unfold b48_0
 refine W_r (R_lss t17 t16 (R_e ?_))
 refine W_seq_if rfl (fun c3=>?_) fun c3=>?_
 ·
  refine W_seq_skip (W_seq_blockg fun Q4 n4 x4 y4 z4=>(W_r (R_idxu (i:=k) t15 t17 (by omega) (cF_eq _) rfl (R_load_pp rfl rfl (R_alloc (i:=8) (n:=v8) (m:=3) rfl h8 rfl (R_sk rfl rfl rfl rfl rfl rfl rfl rfl rfl (R_e ?_)))))))
  refine W_t (R_mv t6 (R_lk rfl rfl rfl rfl (R_lk t3 h3 rfl rfl (R_callk (ih (((nth (f.kids) (k)))) t (Fm.sz_kid (by omega)) (hp.2 _ (by omega)) (Nat.le_trans (Nat.le_of_lt (Fm.sz_kid (by omega))) hz) (by omega) (by omega)) rfl (R_bslice rfl rfl (R_append1 (l:=((f.kids.take k).map (rst t))) (f:=cBL) (x:=((rst t (((nth (f.kids) (k))))))) (@rfl V (V.ms 6 v 0 (k))) h6 (by (simp; omega)) (@rfl V (V.sl [[(V.sl (List.map cB ((rst t (((nth (f.kids) (k))))))))]])) rfl rfl (by omega) (by omega) (R_mv rfl ?_)))))))
  refine R_e (n4 _ _ (.done (W_t (R_addN t17 (@rfl V (iV ((1:Nat):Int))) (by omega) (R_mv rfl (R_e ?_))))))
  refine p12 _ _ _ ?_ ⟨(k+1),(v+1),(v8+1),rfl,t2,t3,t5,(Eq.trans (@rfl V (V.ms 6 (v+1) 0 (k+1))) (by rfl)),t15,t16,(Eq.trans (@rfl V (iV ((k+1:Nat):Int))) (by rfl)),h2,h3,(Eq.trans (@rfl Blk (bz (v+1) 98 1 (List.map cBL ((f.kids.take k).map (rst t)++[(rst t (((nth (f.kids) (k)))))])))) (by (rw [mapTake (by omega)]; done))),(congrArg Blk.ver rfl),h30,?_⟩
  · omega
  · omega
 refine W_seq_exit (p32 _ _ _ (x1 _ _ (.done (W_r (R_mv t5 (R_addN rfl (@rfl V (iV ((1:Nat):Int))) (by omega) (R_mksm (i:=30) (n:=0) (m:=(t.ni.length+1)) (q:=(t.ni.length+1)) (f:=cB) (x:=false) rfl (congrArg Blk.ver h30) (@rfl V (iV ((t.ni.length+1:Nat):Int))) (@rfl V (iV ((t.ni.length+1:Nat):Int))) rfl (by omega) (by omega) (by omega) ?_)))))))
 refine R_mv rfl (R_e (W_seq_seq (W_r (R_mv t5 (R_mv rfl (R_e (W_seq_blockg fun Q5 n5 x5 y5 z5=>?_)))))))
 refine W_loop (fun mm T H=> ∃ (i:Int) (v:Nat),mm=(i+1).toNat∧T 2=(V.mp 2 1 0 0)∧T 3=(V.mp 3 1 0 0)∧T 6=(V.ms 6 v 0 (f.kids.length))∧T 9=(V.ms 30 1 0 (t.ni.length+1))∧T 10=(iV (i))∧H 2=(bk 1 24 3 [[(iV (f.op)),(iV (f.arg)),(V.sl (List.map cF (f.kids)))]])∧H 3=(bk 1 51 2 [[(ints t.ni),(ints t.no)]])∧H 6=(bz v 98 1 (List.map cBL (f.kids.map (rst t))))∧(H 8).ver=v8∧H 30=(bk 1 4 1 (List.map cB (outL t f i)))∧(-1≤i∧i≤t.ni.length)) ?_ ?_
 ·
  refine ⟨_,((t.ni.length:Nat):Int),v,rfl,t2,t3,(Eq.trans t6 (by (rw [show k=f.kids.length by omega]; done))),rfl,(Eq.trans (@rfl V (iV ((t.ni.length:Nat):Int))) (by rfl)),h2,h3,(Eq.trans h6 (by (rw [show k=f.kids.length by omega,List.take_length]; done))),h8,(Eq.trans (@rfl Blk (bk 1 4 1 (List.map cB (List.replicate (t.ni.length+1) false)))) (by (rw [outL_start]; done))),?_⟩
  · omega
 intro mm T H ⟨i,v,hmm,t2,t3,t6,t9,t10,h2,h3,h6,h8,h30,hi⟩ Q6 p16 p26 p36
 unfold b48_1
 have hol:=outL_len t f i
 refine W_seq_seq (W_r (R_mv t10 (R_geq rfl rfl (R_e ?_))))
 refine W_seq_if rfl (fun c7=>?_) fun c7=>?_
 ·
  refine W_seq_skip (W_seq_blockg fun Q8 n8 x8 y8 z8=>(W_t (R_mv t9 (R_mv t10 (R_lk t2 h2 rfl rfl (R_lk t3 h3 rfl rfl (R_mv t6 ?_)))))))
  refine R_mv t9 (R_mv t10 (R_call (evcons (@rfl V (V.agg [(iV (f.op)),(iV (f.arg)),(V.sl (List.map cF (f.kids)))])) (evcons (@rfl V (V.agg [(ints t.ni),(ints t.no)])) (evcons (@rfl V (V.ms 6 v 0 (f.kids.length))) (evcons (@rfl V (V.ms 30 1 0 (t.ni.length+1))) (evcons (@rfl V (iV (i))) evnil))))) (satisfied_pure f t (f.kids.map (rst t)) (outL t f i) ((i)) hp.1 (by omega) (by omega) (by omega) (by omega) (by simp) (fun q hq=>by rw [nthM (by simpa using hq),rst_len]) (outL_len _ _ _)) (mcons (fzv_canon 6 _ (by simp [-List.map_take,-List.map_drop,-List.map_append,-List.map_reverse])) (mcons (fzv_canon 6 _ (by simp [-List.map_take,-List.map_drop,-List.map_append,-List.map_reverse])) (mcons (fz_mst h6 (by simp) (take_map (l:=(f.kids.map (rst t))) (by simp)) (fun _=>by simp)) (mcons (fz_mst h30 (by rfl) (take_map (l:=(outL t f i)) (by exact (outL_len _ _ _).symm)) (fun _=>by simp)) (mcons (fzv_canon 6 _ (by simp [-List.map_take,-List.map_drop,-List.map_append,-List.map_reverse])) rfl))))) (by simp [-List.map_take,-List.map_drop,-List.map_append,-List.map_reverse]) (Or.inr rfl) (R_idxI_ms0 (i:=(i)) (@rfl V (V.ms 30 1 0 (t.ni.length+1))) (@rfl V (iV (i))) h30 oB rfl (by omega) (by omega) (R_store (vs:=[(V.bool (satP t f (f.kids.map (rst t)) (outL t f i) ((i)).toNat))]) (B':=(bk 1 4 1 (List.map cB ((outL t f i).set (((i)).toNat) (satP t f (f.kids.map (rst t)) (outL t f i) ((i)).toNat))))) rfl rfl rfl h30 (stB_map (x:=(satP t f (f.kids.map (rst t)) (outL t f i) ((i)).toNat)) (i:=(((i)).toNat)) (by omega) rfl rfl rfl rfl) (R_e (n8 _ _ (.done ?_)))))))
  refine W_t (R_mv t10 (R_sub rfl rfl (by omega) (by omega) (R_mv rfl (R_e ?_))))
  refine p16 _ _ _ ?_ ⟨(i - 1),v,rfl,t2,t3,t6,t9,(Eq.trans (@rfl V (iV ((i) - (1:Int)))) (by rfl)),h2,h3,h6,h8,(Eq.trans (@rfl Blk (bk 1 4 1 (List.map cB ((outL t f i).set (((i)).toNat) (satP t f (f.kids.map (rst t)) (outL t f i) ((i)).toNat))))) (by (rw [outL_step hp.1 (by omega) (by omega)]; done))),?_⟩
  · omega
  · omega
 refine W_seq_exit (p36 _ _ _ (x5 _ _ (.done (W_r (R_mv t9 (R_mv rfl (R_e ?_)))))))
 refine W_ret ?_
 refine Ret_1 (@rfl V (V.ms 30 1 0 (t.ni.length+1))) (fz_ms h30 (by rfl) (l:=(outL t f i)) rfl (by exact (outL_len _ _ _).symm) (fun _=>by simp) ?_)
 · rw [show i= -1 by omega,outL_end]
theorem rests_pure (f:Fm) (t:Tr) (hf:okF f=true) (hz:f.sz≤4096) (ht:t.no.length=t.ni.length) (hn:t.ni.length≤1024):PureC Try.prog 48 [(V.agg [(iV (f.op)),(iV (f.arg)),(V.sl (List.map cF (f.kids)))]),(V.agg [(ints t.ni),(ints t.no)])] (V.sl (List.map cB ((rst t f)))):=by
  have key: ∀ (mm:Nat) (f:Fm) (t:Tr),f.sz < mm→okF f=true→f.sz≤4096→t.no.length=t.ni.length→t.ni.length≤1024→PureC Try.prog 48 [(V.agg [(iV (f.op)),(iV (f.arg)),(V.sl (List.map cF (f.kids)))]),(V.agg [(ints t.ni),(ints t.no)])] (V.sl (List.map cB ((rst t f)))):=by
    intro mm
    induction mm with
    |zero=>intro f t hlt; exact absurd hlt (Nat.not_lt_zero _)
    | succ mm ih =>
      intro f t hlt hf hz ht hn
      exact rests_pure_step f t hf hz ht hn fun f2 t2 hlt2=>ih f2 t2 (by omega)
  exact key (f.sz+1) f t (Nat.lt_succ_self _) hf hz ht hn
end Go.Proofs.Ytdmcmkccifmofaa
namespace Go.Proofs.Ytdmcmkccifmofaa
open Go Go.Proofs
theorem holds_pure (f:Fm) (t:Tr):PureC Try.prog 23 [(V.agg [(iV (f.op)),(iV (f.arg)),(V.sl (List.map cF (f.kids)))]),(V.agg [(ints t.ni),(ints t.no)])] (V.tup [(V.bool (hoB t f)),(iV (hoE t f))]):=by
 refine pW Try.func23 s23_ok fun hB=>?_
 unfold s23
 dsimp only
 refine W_r (R_box (i:=2) (n:=0) (m:=3) (cs:=[(iV (f.op)),(iV (f.arg)),(V.sl (List.map cF (f.kids)))]) rfl (congrArg Blk.ver rfl) rfl rfl rfl (R_box (i:=3) (n:=0) (m:=2) (cs:=[(ints t.ni),(ints t.no)]) rfl (congrArg Blk.ver rfl) rfl rfl rfl (R_mv rfl (R_mv rfl (R_e (W_seq_seq (W_r ?_)))))))
 refine R_lk rfl rfl rfl rfl (R_callk (fvalid_pure f) rfl (R_mv rfl (R_e (W_seq_seq (W_r (R_mv rfl (R_neq rfl rfl ?_)))))))
 refine R_e ?_
 refine W_seq_if rfl (fun c1=>?_) fun c1=>?_
 ·
  have h0:hoE t f=fval f:=if_pos c1
  have hb0:hoB t f=false:=by unfold hoB; rw [h0,decide_eq_false (by omega)]; rfl
  refine W_seq_seq (W_r (R_mv rfl (R_mv rfl (R_mv rfl (R_e (W_seq_ret ?_))))))
  refine Ret_2 (@rfl V (V.bool false)) (@rfl V (iV (fval f))) (fz_bool ?_) (fz_int ?_)
  · rw [hb0]
  · omega
 have h1:fval f=0:=by omega
 refine W_seq_skip (W_seq_blockg fun Q2 n2 x2 y2 z2=>(W_r (R_fk rfl rfl (R_lk rfl rfl rfl rfl (R_len rfl (R_gtr rfl rfl (R_mv rfl ?_)))))))
 refine R_e ?_
 refine W_if rfl (fun c3=>?_) fun c3=>?_
 ·
  have h0:hoE t f=3:=by unfold hoE; rw [if_neg (by omega),if_pos (by omega)]
  have hb0:hoB t f=false:=by unfold hoB; rw [h0]; rfl
  refine W_r (R_mv rfl (R_mv rfl (R_e (W_ret (y2 _ _ ?_)))))
  refine Ret_2 (@rfl V (V.bool false)) (@rfl V (iV (3:Int))) (fz_bool ?_) (fz_int ?_)
  · rw [hb0]
  · omega
 refine W_r (R_fk rfl rfl (R_lk rfl rfl rfl rfl (R_len rfl (R_fk rfl rfl (R_lk rfl rfl rfl rfl (R_len rfl (R_neq rfl rfl ?_)))))))
 refine R_mv rfl (R_e ?_)
 refine W_if rfl (fun c4=>?_) fun c4=>?_
 ·
  have h0:hoE t f=1:=by unfold hoE; rw [if_neg (by omega),if_neg (by omega),if_pos (by omega)]
  have hb0:hoB t f=false:=by unfold hoB; rw [h0]; rfl
  refine W_r (R_mv rfl (R_mv rfl (R_e (W_ret (y2 _ _ ?_)))))
  refine Ret_2 (@rfl V (V.bool false)) (@rfl V (iV (1:Int))) (fz_bool ?_) (fz_int ?_)
  · rw [hb0]
  · omega
 have h0:hoE t f=0:=by unfold hoE; rw [if_neg (by omega),if_neg (by omega),if_neg (by omega)]
 have hb0:hoB t f=nth (rst t f) 0:=by unfold hoB; rw [h0,rst_nth (Nat.zero_le _)]; rfl
 have hrl:=rst_len t f
 refine W_skip (n2 _ _ (.done (W_r (R_lk rfl rfl rfl rfl (R_lk rfl rfl rfl rfl (R_callk (rests_pure f t (fval_ok h1) (fval_sz h1) (by omega) (by omega)) rfl (R_idx (i:=0) (@rfl V (V.sl (List.map cB ((rst t f))))) (@rfl V (iV ((0:Nat):Int))) (by omega) rfl ?_)))))))
 refine R_load_pp rfl rfl (R_mv rfl (R_mv rfl (R_e (W_ret ?_))))
 refine Ret_2 (@rfl V (V.bool ((nth ((rst t f)) (0))))) (@rfl V (iV (0:Int))) (fz_bool ?_) (fz_int ?_)
 · rw [hb0]
 · omega
def s27:SF:=⟨11,[.cell 6 true 3],.seq (.reg [sO 6 (.alloc 24 [.int .i64 0,.int .i64 0,.nilsl])]) (.seq (.reg [qM 7 0,qM 8 1,qM 9 2,sO 10 (.build [.int .i64 0,.int .i64 0,.nilsl] [(0,1,.t 7),(1,1,.t 8),(2,1,.t 9)]),sN (.store 3 (.t 6) (.t 10))]) (.ret))⟩
theorem s27_ok:slimF Try.prog ⟨[31,36,37,38,40,41,42,44,45,59,60,61,65,66,67,71,72,73,81,82,84,92,93,98,99,102,104],[],[],[]⟩ Try.f27=some s27:=by kernel_rfl
theorem lnode_pure (o a:Int) (l:List Fm):PureC Try.prog 27 [(iV (o)),(iV (a)),(V.sl (List.map cF (l)))] (V.agg [(iV (o)),(iV (a)),(V.sl (List.map cF (l)))]):=by
 refine pW Try.func27 s27_ok fun hB=>?_
 unfold s27
 dsimp only
 refine W_r (R_alloc (i:=6) (n:=0) (m:=3) rfl (congrArg Blk.ver rfl) rfl (R_e (W_r (R_mv rfl (R_mv rfl (R_mv rfl (R_build rfl rfl ?_)))))))
 refine R_sk rfl rfl rfl rfl rfl rfl rfl rfl rfl (R_e (W_ret ?_))
 refine RetC_1 (resV_c (u:=(V.agg [(iV (o)),(iV (a)),(V.sl (List.map cF (l)))])) rfl (@rfl Blk (bk 1 24 3 [[(iV (o)),(iV (a)),(V.sl (List.map cF (l)))]])) (lB oB rfl rfl)) (fz_canon (by simp) rfl)
def s28:SF:=⟨6,[.cell 0 true 1,.cell 1 true 1],.seq (.reg [sO 0 (.alloc 37 [.nilsl]),sO 1 (.alloc 37 [.nilsl])]) (.seq (.reg [sO 2 (.bslice 9 1 false [.str []] 2 [(0,.c (.str [99,111,105,110])),(1,.c (.str [112,117,115,104]))]),sO 3 (.build [.nilsl] [(0,1,.t 2)]),sO 4 (.bslice 9 1 false [.str []] 3 [(0,.c (.str [110,111])),(1,.c (.str [111,107])),(2,.c (.str [116,117,114,110]))]),sO 5 (.build [.nilsl] [(0,1,.t 4)]),sN (.store 1 (.t 0) (.t 3)),sN (.store 1 (.t 1) (.t 5))]) (.ret))⟩
theorem s28_ok:slimF Try.prog ⟨[31,36,37,38,40,41,42,44,45,59,60,61,65,66,67,71,72,73,81,82,84,92,93,98,99,102,104],[],[],[]⟩ Try.f28=some s28:=by kernel_rfl
theorem lnames_pure:PureC Try.prog 28 [] (V.tup [(V.agg [(V.sl (List.map cS ([[99,111,105,110],[112,117,115,104]])))]),(V.agg [(V.sl (List.map cS ([[110,111],[111,107],[116,117,114,110]])))])]):=by
 refine pW Try.func28 s28_ok fun hB=>?_
 unfold s28
 dsimp only
 refine W_r (R_alloc (i:=0) (n:=0) (m:=1) rfl (congrArg Blk.ver rfl) rfl (R_alloc (i:=1) (n:=0) (m:=1) rfl (congrArg Blk.ver rfl) rfl (R_e (W_r (R_bslice rfl rfl (R_build rfl rfl (R_bslice rfl rfl ?_)))))))
 refine R_build rfl rfl (R_sk rfl rfl rfl rfl rfl rfl rfl rfl rfl (R_sk rfl rfl rfl rfl rfl rfl rfl rfl rfl (R_e (W_ret ?_))))
 refine RetC_2 (resV_c (u:=(V.agg [(V.sl [[(V.str ([99,111,105,110]))],[(V.str ([112,117,115,104]))]])])) rfl (@rfl Blk (bk 1 37 1 [[(V.sl [[(V.str ([99,111,105,110]))],[(V.str ([112,117,115,104]))]])]])) (lB oB rfl rfl)) (resV_c (u:=(V.agg [(V.sl [[(V.str ([110,111]))],[(V.str ([111,107]))],[(V.str ([116,117,114,110]))]])])) rfl (@rfl Blk (bk 1 37 1 [[(V.sl [[(V.str ([110,111]))],[(V.str ([111,107]))],[(V.str ([116,117,114,110]))]])]])) (lB oB rfl rfl)) (fz_agg1 (fz_canon (by simp) ?_)) (fz_agg1 (fz_canon (by simp) ?_))
 · first|rfl|omega|simp_all
 · first|rfl|omega|simp_all
end Go.Proofs.Ytdmcmkccifmofaa
namespace Go.Proofs.Ytdmcmkccifmofaa
open Go Go.Proofs
set_option maxRecDepth 20000
theorem aw_p1:PureC Try.prog 19 [(V.agg [(V.sl (List.map cS ([[99,111,105,110],[112,117,115,104]])))]),(V.agg [(V.sl (List.map cS ([[110,111],[111,107],[116,117,114,110]])))]),(V.str ([71,32,40,105,110,58,99,111,105,110,32,45,62,32,111,117,116,58,111,107,41]))] (V.tup [(V.agg [(iV (10:Int)),(iV (0:Int)),(V.sl (List.map cF ([Fm.nd 4 0 [Fm.nd 1 0 []],Fm.nd 6 0 [Fm.nd 4 0 [Fm.nd 2 0 []],Fm.nd 3 1 []]])))]),(iV (0:Int)),(iV (0:Int))]):=by
  have h:=prs_pure [[99,111,105,110],[112,117,115,104]] [[110,111],[111,107],[116,117,114,110]] [71,32,40,105,110,58,99,111,105,110,32,45,62,32,111,117,116,58,111,107,41] (by decide+kernel) (by decide+kernel)
  rw [show prs [[99,111,105,110],[112,117,115,104]] [[110,111],[111,107],[116,117,114,110]] [71,32,40,105,110,58,99,111,105,110,32,45,62,32,111,117,116,58,111,107,41]=((Fm.nd 10 0 [Fm.nd 4 0 [Fm.nd 1 0 []],Fm.nd 6 0 [Fm.nd 4 0 [Fm.nd 2 0 []],Fm.nd 3 1 []]]),0,0) from by kernel_rfl] at h
  exact h
theorem aw_p2:PureC Try.prog 19 [(V.agg [(V.sl (List.map cS ([[99,111,105,110],[112,117,115,104]])))]),(V.agg [(V.sl (List.map cS ([[110,111],[111,107],[116,117,114,110]])))]),(V.str ([105,110,58,99,111,105,110,32,85]))] (V.tup [(V.agg [(iV (0:Int)),(iV (0:Int)),(V.sl (List.map cF ([])))]),(iV (9:Int)),(iV (5:Int))]):=by
  have h:=prs_pure [[99,111,105,110],[112,117,115,104]] [[110,111],[111,107],[116,117,114,110]] [105,110,58,99,111,105,110,32,85] (by decide+kernel) (by decide+kernel)
  rw [show prs [[99,111,105,110],[112,117,115,104]] [[110,111],[111,107],[116,117,114,110]] [105,110,58,99,111,105,110,32,85]=(Fm.nd 0 0 [],9,5) from by kernel_rfl] at h
  exact h
theorem aw_p3:PureC Try.prog 19 [(V.agg [(V.sl (List.map cS ([[99,111,105,110],[112,117,115,104]])))]),(V.agg [(V.sl (List.map cS ([[110,111],[111,107],[116,117,114,110]])))]),(V.str ([105,110,58,107,105,99,107]))] (V.tup [(V.agg [(iV (0:Int)),(iV (0:Int)),(V.sl (List.map cF ([])))]),(iV (0:Int)),(iV (8:Int))]):=by
  have h:=prs_pure [[99,111,105,110],[112,117,115,104]] [[110,111],[111,107],[116,117,114,110]] [105,110,58,107,105,99,107] (by decide+kernel) (by decide+kernel)
  rw [show prs [[99,111,105,110],[112,117,115,104]] [[110,111],[111,107],[116,117,114,110]] [105,110,58,107,105,99,107]=(Fm.nd 0 0 [],0,8) from by kernel_rfl] at h
  exact h
theorem aw_s1:PureC Try.prog 21 [(V.agg [(V.sl (List.map cS ([[99,111,105,110],[112,117,115,104]])))]),(V.agg [(V.sl (List.map cS ([[110,111],[111,107],[116,117,114,110]])))]),(V.agg [(iV (10:Int)),(iV (0:Int)),(V.sl (List.map cF ([Fm.nd 4 0 [Fm.nd 1 0 []],Fm.nd 6 0 [Fm.nd 4 0 [Fm.nd 2 0 []],Fm.nd 3 1 []]])))])] (V.tup [(V.str (([33,116,114,117,101,32,82,32,40,33,105,110,58,99,111,105,110,32,124,32,111,117,116,58,111,107,41]:List UInt8))),(iV (0:Int))]):=by
  have h:=show_pure [[99,111,105,110],[112,117,115,104]] [[110,111],[111,107],[116,117,114,110]] (Fm.nd 10 0 [Fm.nd 4 0 [Fm.nd 1 0 []],Fm.nd 6 0 [Fm.nd 4 0 [Fm.nd 2 0 []],Fm.nd 3 1 []]]) (by decide+kernel) (by decide+kernel)
  rw [show shwT [[99,111,105,110],[112,117,115,104]] [[110,111],[111,107],[116,117,114,110]] (Fm.nd 10 0 [Fm.nd 4 0 [Fm.nd 1 0 []],Fm.nd 6 0 [Fm.nd 4 0 [Fm.nd 2 0 []],Fm.nd 3 1 []]])=([33,116,114,117,101,32,82,32,40,33,105,110,58,99,111,105,110,32,124,32,111,117,116,58,111,107,41],0) from by kernel_rfl] at h
  exact h
theorem aw_h1:PureC Try.prog 23 [(V.agg [(iV (10:Int)),(iV (0:Int)),(V.sl (List.map cF ([Fm.nd 4 0 [Fm.nd 1 0 []],Fm.nd 6 0 [Fm.nd 4 0 [Fm.nd 2 0 []],Fm.nd 3 1 []]])))]),V.agg [ints [0,1],ints [1,0]]] (V.tup [(V.bool true),(iV (0:Int))]):=by
  have h:=holds_pure (Fm.nd 10 0 [Fm.nd 4 0 [Fm.nd 1 0 []],Fm.nd 6 0 [Fm.nd 4 0 [Fm.nd 2 0 []],Fm.nd 3 1 []]]) (⟨[0,1],[1,0]⟩:Tr)
  rw [show hoB (⟨[0,1],[1,0]⟩:Tr) (Fm.nd 10 0 [Fm.nd 4 0 [Fm.nd 1 0 []],Fm.nd 6 0 [Fm.nd 4 0 [Fm.nd 2 0 []],Fm.nd 3 1 []]])=true from by kernel_rfl,show hoE (⟨[0,1],[1,0]⟩:Tr) (Fm.nd 10 0 [Fm.nd 4 0 [Fm.nd 1 0 []],Fm.nd 6 0 [Fm.nd 4 0 [Fm.nd 2 0 []],Fm.nd 3 1 []]])=0 from by kernel_rfl] at h
  exact h
theorem aw_h2:PureC Try.prog 23 [(V.agg [(iV (10:Int)),(iV (0:Int)),(V.sl (List.map cF ([Fm.nd 4 0 [Fm.nd 1 0 []],Fm.nd 6 0 [Fm.nd 4 0 [Fm.nd 2 0 []],Fm.nd 3 1 []]])))]),V.agg [ints [0],ints [0]]] (V.tup [(V.bool false),(iV (0:Int))]):=by
  have h:=holds_pure (Fm.nd 10 0 [Fm.nd 4 0 [Fm.nd 1 0 []],Fm.nd 6 0 [Fm.nd 4 0 [Fm.nd 2 0 []],Fm.nd 3 1 []]]) (⟨[0],[0]⟩:Tr)
  rw [show hoB (⟨[0],[0]⟩:Tr) (Fm.nd 10 0 [Fm.nd 4 0 [Fm.nd 1 0 []],Fm.nd 6 0 [Fm.nd 4 0 [Fm.nd 2 0 []],Fm.nd 3 1 []]])=false from by kernel_rfl,show hoE (⟨[0],[0]⟩:Tr) (Fm.nd 10 0 [Fm.nd 4 0 [Fm.nd 1 0 []],Fm.nd 6 0 [Fm.nd 4 0 [Fm.nd 2 0 []],Fm.nd 3 1 []]])=0 from by kernel_rfl] at h
  exact h
theorem aw_h3:PureC Try.prog 23 [(V.agg [(iV (10:Int)),(iV (0:Int)),(V.sl (List.map cF ([Fm.nd 4 0 [Fm.nd 1 0 []],Fm.nd 6 0 [Fm.nd 4 0 [Fm.nd 2 0 []],Fm.nd 3 1 []]])))]),V.agg [ints [],ints []]] (V.tup [(V.bool true),(iV (0:Int))]):=by
  have h:=holds_pure (Fm.nd 10 0 [Fm.nd 4 0 [Fm.nd 1 0 []],Fm.nd 6 0 [Fm.nd 4 0 [Fm.nd 2 0 []],Fm.nd 3 1 []]]) (⟨[],[]⟩:Tr)
  rw [show hoB (⟨[],[]⟩:Tr) (Fm.nd 10 0 [Fm.nd 4 0 [Fm.nd 1 0 []],Fm.nd 6 0 [Fm.nd 4 0 [Fm.nd 2 0 []],Fm.nd 3 1 []]])=true from by kernel_rfl,show hoE (⟨[],[]⟩:Tr) (Fm.nd 10 0 [Fm.nd 4 0 [Fm.nd 1 0 []],Fm.nd 6 0 [Fm.nd 4 0 [Fm.nd 2 0 []],Fm.nd 3 1 []]])=0 from by kernel_rfl] at h
  exact h
theorem aw_n1:PureC Try.prog 12 [(V.agg [(iV (7:Int)),(iV (0:Int)),(V.sl (List.map cF ([Fm.nd 2 0 []])))])] (V.tup [(V.agg [(iV (9:Int)),(iV (0:Int)),(V.sl (List.map cF ([Fm.nd 4 0 [Fm.nd 2 0 []]])))]),(iV (0:Int))]):=by
  have h:=negate_pure (Fm.nd 7 0 [Fm.nd 2 0 []])
  rw [show ngF (Fm.nd 7 0 [Fm.nd 2 0 []])=Fm.nd 9 0 [Fm.nd 4 0 [Fm.nd 2 0 []]] from by kernel_rfl,show ngE (Fm.nd 7 0 [Fm.nd 2 0 []])=0 from by kernel_rfl] at h
  exact h
abbrev w11_14:=(Fm.nd (2:Int) (0:Int) [])
abbrev w11_16:=(Fm.nd (4:Int) (0:Int) [w11_14])
abbrev w11_1:=([(Fm.nd (4:Int) (0:Int) [(Fm.nd (1:Int) (0:Int) [])]),(Fm.nd (6:Int) (0:Int) [w11_16,(Fm.nd (3:Int) (1:Int) [])])])
abbrev w11_6:=(sameF (⟨((10:Int)),((0:Int)),([Fm.nd 4 0 [Fm.nd 1 0 []],Fm.nd 6 0 [Fm.nd 4 0 [Fm.nd 2 0 []],Fm.nd 3 1 []]])⟩:Fm) (⟨((((10:Int)))),((((0:Int)))),(w11_1)⟩:Fm))
abbrev w11_17:=((((w11_6&&w11_6))&&decide ((0:Int)=(0:Int))))
abbrev w11_0:=((((w11_17&&decide ((0:Int)=(0:Int))))&&decide (([33,116,114,117,101,32,82,32,40,33,105,110,58,99,111,105,110,32,124,32,111,117,116,58,111,107,41]:List UInt8)=[33,116,114,117,101,32,82,32,40,33,105,110,58,99,111,105,110,32,124,32,111,117,116,58,111,107,41])))
abbrev w11_11:=((((((w11_0&&decide ((0:Int)=(0:Int))))||false))&&decide ((0:Int)=(0:Int))))
abbrev w11_15:=((((w11_11||false))&&decide ((0:Int)=(0:Int))))
abbrev w11_2:=((((((w11_15||false))&&decide ((0:Int)=(0:Int))))&&(sameF (⟨((9:Int)),((0:Int)),([Fm.nd 4 0 [Fm.nd 2 0 []]])⟩:Fm) (⟨((((9:Int)))),((((0:Int)))),(([w11_16]))⟩:Fm))))
abbrev w11_3:=(bk 1 24 3 [[(iV (10:Int)),(iV (0:Int)),(V.sl (List.map cF ([Fm.nd 4 0 [Fm.nd 1 0 []],Fm.nd 6 0 [Fm.nd 4 0 [Fm.nd 2 0 []],Fm.nd 3 1 []]])))]])
abbrev w11_4:=(bk 1 24 3 [[(iV (0:Int)),(iV (0:Int)),(V.sl (List.map cF ([])))]])
abbrev w11_5:=(bk 1 24 3 [[(iV (((4:Int)))),(iV (((0:Int)))),(V.sl (List.map cF (([(Fm.nd (1:Int) (0:Int) [])]))))]])
abbrev w11_7:=(bk 1 24 3 [[(iV (9:Int)),(iV (0:Int)),(V.sl (List.map cF ([Fm.nd 4 0 [Fm.nd 2 0 []]])))]])
abbrev w11_8:=(bk 1 37 1 [[(V.sl (List.map cS ([[110,111],[111,107],[116,117,114,110]])))]])
abbrev w11_9:=(bk 1 24 3 [[(iV (((10:Int)))),(iV (((0:Int)))),(V.sl (List.map cF (w11_1)))]])
abbrev w11_10:=(bk 1 37 1 [[(V.sl (List.map cS ([[99,111,105,110],[112,117,115,104]])))]])
abbrev w11_12:=(([33,116,114,117,101,32,82,32,40,33,105,110,58,99,111,105,110,32,124,32,111,117,116,58,111,107,41]:List UInt8))
abbrev w11_13:=((((((w11_2&&decide ((0:Int)=(0:Int))))&&decide ((9:Int)=(9:Int))))&&decide ((5:Int)=(5:Int))))
theorem aw45_pure:PureC Try.prog 11 [] (V.bool true):=by
 refine pW Try.func11 s11_ok fun hB=>?_
 unfold s11
 dsimp only
 refine W_r (R_mv rfl (R_e (W_r (R_callk (lnames_pure) rfl (R_mv rfl (R_ext rfl rfl (R_ext rfl rfl ?_)))))))
 refine R_alloc (i:=1) (n:=0) (m:=1) rfl (congrArg Blk.ver rfl) rfl (R_alloc (i:=2) (n:=0) (m:=1) rfl (congrArg Blk.ver rfl) rfl (R_sk rfl rfl rfl rfl rfl rfl rfl rfl rfl (R_sk rfl rfl rfl rfl rfl rfl rfl rfl rfl (R_e (W_r (R_call (evcons (@rfl V (iV (1:Int))) (evcons (@rfl V (iV (0:Int))) (evcons (@rfl V V.nilsl) evnil))) (lnode_pure ((1:Int)) ((0:Int)) ([])) (mcons (fzv_canon 6 _ (by simp [-List.map_take,-List.map_drop,-List.map_append,-List.map_reverse])) (mcons (fzv_canon 6 _ (by simp [-List.map_take,-List.map_drop,-List.map_append,-List.map_reverse])) (mcons (by rfl) rfl))) (by simp [-List.map_take,-List.map_drop,-List.map_append,-List.map_reverse]) (Or.inl (by simp [-List.map_take,-List.map_drop,-List.map_append,-List.map_reverse])) (R_bslice rfl rfl ?_)))))))
 refine R_callk (lnode_pure ((4:Int)) ((0:Int)) ([(Fm.nd (1:Int) (0:Int) [])])) (evcons rfl (evcons rfl (evcons (sl_F1 (x:=((Fm.nd (1:Int) (0:Int) []))) rfl) evnil))) (R_alloc (i:=3) (n:=0) (m:=3) rfl (congrArg Blk.ver rfl) rfl (R_sk rfl rfl rfl rfl rfl rfl rfl rfl rfl (R_e (W_d (by exact (lateC rfl lateN)) (R_lk rfl rfl rfl rfl (R_call (evcons (@rfl V (iV (2:Int))) (evcons (@rfl V (iV (0:Int))) (evcons (@rfl V V.nilsl) evnil))) (lnode_pure ((2:Int)) ((0:Int)) ([])) (mcons (fzv_canon 6 _ (by simp [-List.map_take,-List.map_drop,-List.map_append,-List.map_reverse])) (mcons (fzv_canon 6 _ (by simp [-List.map_take,-List.map_drop,-List.map_append,-List.map_reverse])) (mcons (by rfl) rfl))) (by simp [-List.map_take,-List.map_drop,-List.map_append,-List.map_reverse]) (Or.inl (by simp [-List.map_take,-List.map_drop,-List.map_append,-List.map_reverse])) (R_bslice rfl rfl ?_)))))))
 refine R_callk (lnode_pure ((4:Int)) ((0:Int)) ([w11_14])) (evcons rfl (evcons rfl (evcons (sl_F1 (x:=(w11_14)) rfl) evnil))) (R_call (evcons (@rfl V (iV (3:Int))) (evcons (@rfl V (iV (1:Int))) (evcons (@rfl V V.nilsl) evnil))) (lnode_pure ((3:Int)) ((1:Int)) ([])) (mcons (fzv_canon 6 _ (by simp [-List.map_take,-List.map_drop,-List.map_append,-List.map_reverse])) (mcons (fzv_canon 6 _ (by simp [-List.map_take,-List.map_drop,-List.map_append,-List.map_reverse])) (mcons (by rfl) rfl))) (by simp [-List.map_take,-List.map_drop,-List.map_append,-List.map_reverse]) (Or.inl (by simp [-List.map_take,-List.map_drop,-List.map_append,-List.map_reverse])) (R_bslice rfl rfl (R_callk (lnode_pure ((6:Int)) ((0:Int)) ([w11_16,(Fm.nd (3:Int) (1:Int) [])])) (evcons rfl (evcons rfl (evcons (sl_F2 (x:=(w11_16)) (y:=((Fm.nd (3:Int) (1:Int) []))) rfl) evnil))) (R_bslice rfl rfl (R_callk (lnode_pure ((10:Int)) ((0:Int)) w11_1) (evcons rfl (evcons rfl (evcons (sl_F2 (x:=((Fm.nd (4:Int) (0:Int) [(Fm.nd (1:Int) (0:Int) [])]))) (y:=((Fm.nd (6:Int) (0:Int) [w11_16,(Fm.nd (3:Int) (1:Int) [])]))) rfl) evnil))) (R_alloc (i:=4) (n:=0) (m:=3) rfl (congrArg Blk.ver rfl) rfl (R_sk rfl rfl rfl rfl rfl rfl rfl rfl rfl ?_)))))))
 refine R_e (W_r (R_lk rfl rfl rfl rfl (R_lk rfl rfl rfl rfl (R_callk (aw_p1) rfl (R_mv rfl (R_ext rfl rfl (R_ext rfl rfl ?_)))))))
 refine R_ext rfl rfl (R_alloc (i:=5) (n:=0) (m:=3) rfl (congrArg Blk.ver rfl) rfl (R_sk rfl rfl rfl rfl rfl rfl rfl rfl rfl (R_mv rfl (R_mv rfl (R_e ?_)))))
 refine W_seq_regc (fun T H=>T 1=(V.mp 1 1 0 0)∧T 2=(V.mp 2 1 0 0)∧T 4=(V.mp 4 1 0 0)∧T 5=(V.mp 5 1 0 0)∧T 6=(iV (0:Int))∧T 7=(iV (0:Int))∧T 8=(V.str w11_12)∧T 9=(iV (0:Int))∧H 1=w11_10∧H 2=w11_8∧H 3=w11_5∧H 4=w11_9∧H 5=w11_3∧H 16=(⟨0,false,false,0,0,[]⟩:Blk)∧H 18=(⟨0,false,false,0,0,[]⟩:Blk)∧H 21=(⟨0,false,false,0,0,[]⟩:Blk)∧True) ?_ ?_
 ·
  refine R_lk rfl rfl rfl rfl (R_lk rfl rfl rfl rfl (R_lk rfl rfl rfl rfl (R_callk (aw_s1) rfl (R_mv rfl (R_ext rfl rfl (R_ext rfl rfl (R_mv rfl ?_)))))))
  refine R_mv rfl ?_
  exact R_nil ⟨rfl,rfl,rfl,rfl,rfl,rfl,rfl,rfl,rfl,rfl,rfl,rfl,rfl,rfl,rfl,rfl,trivial⟩
 intro T H ⟨t1,t2,t4,t5,t6,t7,t8,t9,h1,h2,h3,h4,h5,h16,h18,h21,_⟩
 refine W_r (R_lk t4 h4 rfl rfl (R_bslice rfl rfl (R_bslice rfl rfl (R_build rfl rfl (R_callk (aw_h1) rfl (R_mv rfl (R_ext rfl rfl ?_)))))))
 refine R_ext rfl rfl (R_mv rfl (R_mv rfl (R_e (W_r (R_lk t4 h4 rfl rfl (R_bslice rfl rfl (R_bslice rfl rfl ?_)))))))
 refine R_build rfl rfl (R_callk (aw_h2) rfl (R_mv rfl (R_ext rfl rfl (R_ext rfl rfl (R_mv rfl (R_mv rfl (R_e ?_)))))))
 refine W_r (R_lk t4 h4 rfl rfl (R_build rfl rfl (R_call (evcons (@rfl V (V.agg [(iV (((10:Int)))),(iV (((0:Int)))),(V.sl (List.map cF (w11_1)))])) (evcons (@rfl V (V.agg [V.nilsl,V.nilsl])) evnil)) (aw_h3) (mcons (fzv_canon 6 _ (by simp [-List.map_take,-List.map_drop,-List.map_append,-List.map_reverse])) (mcons (by rfl) rfl)) (by simp [-List.map_take,-List.map_drop,-List.map_append,-List.map_reverse]) (Or.inl (by simp [-List.map_take,-List.map_drop,-List.map_append,-List.map_reverse])) (R_mv rfl (R_ext rfl rfl (R_ext rfl rfl (R_mv rfl ?_)))))))
 refine R_mv rfl (R_e (W_r (R_call (evcons (@rfl V (iV (2:Int))) (evcons (@rfl V (iV (0:Int))) (evcons (@rfl V V.nilsl) evnil))) (lnode_pure ((2:Int)) ((0:Int)) ([])) (mcons (fzv_canon 6 _ (by simp [-List.map_take,-List.map_drop,-List.map_append,-List.map_reverse])) (mcons (fzv_canon 6 _ (by simp [-List.map_take,-List.map_drop,-List.map_append,-List.map_reverse])) (mcons (by rfl) rfl))) (by simp [-List.map_take,-List.map_drop,-List.map_append,-List.map_reverse]) (Or.inl (by simp [-List.map_take,-List.map_drop,-List.map_append,-List.map_reverse])) (R_bslice rfl rfl (R_callk (lnode_pure ((7:Int)) ((0:Int)) ([w11_14])) (evcons rfl (evcons rfl (evcons (sl_F1 (x:=(w11_14)) rfl) evnil))) (R_callk (aw_n1) rfl (R_mv rfl ?_)))))))
 refine R_ext rfl rfl (R_ext rfl rfl (R_alloc (i:=16) (n:=0) (m:=3) rfl (congrArg Blk.ver h16) rfl (R_sk rfl rfl rfl rfl rfl rfl rfl rfl rfl (R_mv rfl (R_e ?_)))))
 refine W_seq_regc (fun T H=>T 1=(V.mp 1 1 0 0)∧T 2=(V.mp 2 1 0 0)∧T 4=(V.mp 4 1 0 0)∧T 5=(V.mp 5 1 0 0)∧T 6=(iV (0:Int))∧T 7=(iV (0:Int))∧T 8=(V.str w11_12)∧T 9=(iV (0:Int))∧T 10=(V.bool true)∧T 11=(iV (0:Int))∧T 12=(V.bool false)∧T 13=(iV (0:Int))∧T 14=(V.bool true)∧T 15=(iV (0:Int))∧T 16=(V.mp 16 1 0 0)∧T 17=(iV (0:Int))∧T 19=(iV (9:Int))∧T 20=(iV (5:Int))∧H 1=w11_10∧H 2=w11_8∧H 3=w11_5∧H 4=w11_9∧H 5=w11_3∧H 16=w11_7∧H 18=w11_4∧H 21=(⟨0,false,false,0,0,[]⟩:Blk)∧True) ?_ ?_
 ·
  refine R_lk t1 h1 rfl rfl (R_lk t2 h2 rfl rfl (R_callk (aw_p2) rfl (R_mv rfl (R_ext rfl rfl (R_ext rfl rfl (R_ext rfl rfl (R_alloc (i:=18) (n:=0) (m:=3) rfl (congrArg Blk.ver h18) rfl ?_)))))))
  refine R_sk rfl rfl rfl rfl rfl rfl rfl rfl rfl (R_mv rfl (R_mv rfl ?_))
  exact R_nil ⟨t1,t2,t4,t5,t6,t7,t8,t9,rfl,rfl,rfl,rfl,rfl,rfl,rfl,rfl,rfl,rfl,h1,h2,h3,h4,h5,rfl,rfl,h21,trivial⟩
 intro T H ⟨t1,t2,t4,t5,t6,t7,t8,t9,t10,t11,t12,t13,t14,t15,t16,t17,t19,t20,h1,h2,h3,h4,h5,h16,h18,h21,_⟩
 refine W_r (R_lk t1 h1 rfl rfl (R_lk t2 h2 rfl rfl (R_callk (aw_p3) rfl (R_mv rfl (R_ext rfl rfl (R_ext rfl rfl (R_ext rfl rfl ?_)))))))
 refine R_alloc (i:=21) (n:=0) (m:=3) rfl (congrArg Blk.ver h21) rfl (R_sk rfl rfl rfl rfl rfl rfl rfl rfl rfl (R_mv rfl (R_mv rfl (R_e ?_))))
 refine W_seq_regc (fun T H=>T 0=(V.bool ((((w11_13&&decide ((0:Int)=(0:Int))))&&decide ((8:Int)=(8:Int)))))∧H 1=w11_10∧H 2=w11_8∧H 3=w11_5∧H 4=w11_9∧H 5=w11_3∧H 16=w11_7∧H 18=w11_4∧H 21=w11_4∧True) ?_ ?_
 ·
  refine R_lk t5 h5 rfl rfl (R_lk t4 h4 rfl rfl (R_callk (fsame_pure (⟨((10:Int)),((0:Int)),([Fm.nd 4 0 [Fm.nd 1 0 []],Fm.nd 6 0 [Fm.nd 4 0 [Fm.nd 2 0 []],Fm.nd 3 1 []]])⟩:Fm) (⟨((((10:Int)))),((((0:Int)))),(w11_1)⟩:Fm)) rfl (R_mv rfl ?_)))
  refine Ops_seg 4 (fun T H=>T 6=(iV (0:Int))∧T 7=(iV (0:Int))∧T 8=(V.str w11_12)∧T 9=(iV (0:Int))∧T 10=(V.bool true)∧T 11=(iV (0:Int))∧T 12=(V.bool false)∧T 13=(iV (0:Int))∧T 14=(V.bool true)∧T 15=(iV (0:Int))∧T 16=(V.mp 16 1 0 0)∧T 17=(iV (0:Int))∧T 19=(iV (9:Int))∧T 20=(iV (5:Int))∧T 22=(iV (0:Int))∧T 23=(iV (8:Int))∧T 104=(V.bool ((w11_6&&w11_6)))∧H 1=w11_10∧H 2=w11_8∧H 3=w11_5∧H 4=w11_9∧H 5=w11_3∧H 16=w11_7∧H 18=w11_4∧H 21=w11_4∧True) ?_ ?_
  ·
   by_cases g1:w11_6=true
   ·
    refine G_yes (ebT g1 rfl) (R_lk t5 h5 rfl rfl (G_yes (ebT g1 rfl) (R_lk t4 h4 rfl rfl (G_yes (ebT g1 rfl) (R_callk (rsame_pure (⟨((10:Int)),((0:Int)),([Fm.nd 4 0 [Fm.nd 1 0 []],Fm.nd 6 0 [Fm.nd 4 0 [Fm.nd 2 0 []],Fm.nd 3 1 []]])⟩:Fm) (⟨((((10:Int)))),((((0:Int)))),(w11_1)⟩:Fm)) rfl (R_pickT (ebT g1 rfl) rfl ?_))))))
    exact ⟨t6,t7,t8,t9,t10,t11,t12,t13,t14,t15,t16,t17,t19,t20,rfl,rfl,(bandT g1),h1,h2,h3,h4,h5,h16,h18,rfl,trivial⟩
   ·
    refine G_n (ebF g1 rfl) (G_n (ebF g1 rfl) (G_n (ebF g1 rfl) (R_pickF (ebF g1 rfl) rfl ?_)))
    exact ⟨t6,t7,t8,t9,t10,t11,t12,t13,t14,t15,t16,t17,t19,t20,rfl,rfl,(bandF g1),h1,h2,h3,h4,h5,h16,h18,rfl,trivial⟩
  intro T H ⟨t6,t7,t8,t9,t10,t11,t12,t13,t14,t15,t16,t17,t19,t20,t22,t23,t104,h1,h2,h3,h4,h5,h16,h18,h21,_⟩
  refine R_mv t104 ?_
  refine Ops_seg 3 (fun T H=>T 7=(iV (0:Int))∧T 8=(V.str w11_12)∧T 9=(iV (0:Int))∧T 10=(V.bool true)∧T 11=(iV (0:Int))∧T 12=(V.bool false)∧T 13=(iV (0:Int))∧T 14=(V.bool true)∧T 15=(iV (0:Int))∧T 16=(V.mp 16 1 0 0)∧T 17=(iV (0:Int))∧T 19=(iV (9:Int))∧T 20=(iV (5:Int))∧T 22=(iV (0:Int))∧T 23=(iV (8:Int))∧T 108=(V.bool w11_17)∧H 1=w11_10∧H 2=w11_8∧H 3=w11_5∧H 4=w11_9∧H 5=w11_3∧H 16=w11_7∧H 18=w11_4∧H 21=w11_4∧True) ?_ ?_
  ·
   by_cases g2:((w11_6&&w11_6))=true
   ·
    have g2x:=g2
    simp only [Bool.and_eq_true,Bool.or_eq_true,Bool.not_eq_true',decide_eq_true_eq] at g2x
    refine G_yes (ebT g2 rfl) (R_mv t6 (G_yes (ebT g2 rfl) (R_eql rfl rfl (R_pickT (ebT g2 rfl) rfl ?_))))
    exact ⟨t7,t8,t9,t10,t11,t12,t13,t14,t15,t16,t17,t19,t20,t22,t23,(bandT g2),h1,h2,h3,h4,h5,h16,h18,h21,trivial⟩
   ·
    have g2x:=g2
    simp only [Bool.and_eq_true,Bool.or_eq_true,Bool.not_eq_true',decide_eq_true_eq] at g2x
    refine G_n (ebF g2 rfl) (G_n (ebF g2 rfl) (R_pickF (ebF g2 rfl) rfl ?_))
    exact ⟨t7,t8,t9,t10,t11,t12,t13,t14,t15,t16,t17,t19,t20,t22,t23,(bandF g2),h1,h2,h3,h4,h5,h16,h18,h21,trivial⟩
  intro T H ⟨t7,t8,t9,t10,t11,t12,t13,t14,t15,t16,t17,t19,t20,t22,t23,t108,h1,h2,h3,h4,h5,h16,h18,h21,_⟩
  refine R_mv t108 ?_
  refine Ops_seg 3 (fun T H=>T 8=(V.str w11_12)∧T 9=(iV (0:Int))∧T 10=(V.bool true)∧T 11=(iV (0:Int))∧T 12=(V.bool false)∧T 13=(iV (0:Int))∧T 14=(V.bool true)∧T 15=(iV (0:Int))∧T 16=(V.mp 16 1 0 0)∧T 17=(iV (0:Int))∧T 19=(iV (9:Int))∧T 20=(iV (5:Int))∧T 22=(iV (0:Int))∧T 23=(iV (8:Int))∧T 112=(V.bool ((w11_17&&decide ((0:Int)=(0:Int)))))∧H 1=w11_10∧H 2=w11_8∧H 3=w11_5∧H 4=w11_9∧H 5=w11_3∧H 16=w11_7∧H 18=w11_4∧H 21=w11_4∧True) ?_ ?_
  ·
   by_cases g3:w11_17=true
   ·
    have g3x:=g3
    simp only [Bool.and_eq_true,Bool.or_eq_true,Bool.not_eq_true',decide_eq_true_eq] at g3x
    refine G_yes (ebT g3 rfl) (R_mv t7 (G_yes (ebT g3 rfl) (R_eql rfl rfl (R_pickT (ebT g3 rfl) rfl ?_))))
    exact ⟨t8,t9,t10,t11,t12,t13,t14,t15,t16,t17,t19,t20,t22,t23,(bandT g3),h1,h2,h3,h4,h5,h16,h18,h21,trivial⟩
   ·
    have g3x:=g3
    simp only [Bool.and_eq_true,Bool.or_eq_true,Bool.not_eq_true',decide_eq_true_eq] at g3x
    refine G_n (ebF g3 rfl) (G_n (ebF g3 rfl) (R_pickF (ebF g3 rfl) rfl ?_))
    exact ⟨t8,t9,t10,t11,t12,t13,t14,t15,t16,t17,t19,t20,t22,t23,(bandF g3),h1,h2,h3,h4,h5,h16,h18,h21,trivial⟩
  intro T H ⟨t8,t9,t10,t11,t12,t13,t14,t15,t16,t17,t19,t20,t22,t23,t112,h1,h2,h3,h4,h5,h16,h18,h21,_⟩
  refine R_mv t112 ?_
  refine Ops_seg 3 (fun T H=>T 9=(iV (0:Int))∧T 10=(V.bool true)∧T 11=(iV (0:Int))∧T 12=(V.bool false)∧T 13=(iV (0:Int))∧T 14=(V.bool true)∧T 15=(iV (0:Int))∧T 16=(V.mp 16 1 0 0)∧T 17=(iV (0:Int))∧T 19=(iV (9:Int))∧T 20=(iV (5:Int))∧T 22=(iV (0:Int))∧T 23=(iV (8:Int))∧T 116=(V.bool w11_0)∧H 1=w11_10∧H 2=w11_8∧H 3=w11_5∧H 4=w11_9∧H 5=w11_3∧H 16=w11_7∧H 18=w11_4∧H 21=w11_4∧True) ?_ ?_
  ·
   by_cases g4:((w11_17&&decide ((0:Int)=(0:Int))))=true
   ·
    have g4x:=g4
    simp only [Bool.and_eq_true,Bool.or_eq_true,Bool.not_eq_true',decide_eq_true_eq] at g4x
    refine G_yes (ebT g4 rfl) (R_mv t8 (G_yes (ebT g4 rfl) (R_seql (s:=w11_12) (t:=([33,116,114,117,101,32,82,32,40,33,105,110,58,99,111,105,110,32,124,32,111,117,116,58,111,107,41])) rfl rfl (R_pickT (ebT g4 rfl) rfl ?_))))
    exact ⟨t9,t10,t11,t12,t13,t14,t15,t16,t17,t19,t20,t22,t23,(bandT g4),h1,h2,h3,h4,h5,h16,h18,h21,trivial⟩
   ·
    have g4x:=g4
    simp only [Bool.and_eq_true,Bool.or_eq_true,Bool.not_eq_true',decide_eq_true_eq] at g4x
    refine G_n (ebF g4 rfl) (G_n (ebF g4 rfl) (R_pickF (ebF g4 rfl) rfl ?_))
    exact ⟨t9,t10,t11,t12,t13,t14,t15,t16,t17,t19,t20,t22,t23,(bandF g4),h1,h2,h3,h4,h5,h16,h18,h21,trivial⟩
  intro T H ⟨t9,t10,t11,t12,t13,t14,t15,t16,t17,t19,t20,t22,t23,t116,h1,h2,h3,h4,h5,h16,h18,h21,_⟩
  refine R_mv t116 ?_
  refine Ops_seg 3 (fun T H=>T 10=(V.bool true)∧T 11=(iV (0:Int))∧T 12=(V.bool false)∧T 13=(iV (0:Int))∧T 14=(V.bool true)∧T 15=(iV (0:Int))∧T 16=(V.mp 16 1 0 0)∧T 17=(iV (0:Int))∧T 19=(iV (9:Int))∧T 20=(iV (5:Int))∧T 22=(iV (0:Int))∧T 23=(iV (8:Int))∧T 120=(V.bool ((w11_0&&decide ((0:Int)=(0:Int)))))∧H 1=w11_10∧H 2=w11_8∧H 3=w11_5∧H 4=w11_9∧H 5=w11_3∧H 16=w11_7∧H 18=w11_4∧H 21=w11_4∧True) ?_ ?_
  ·
   by_cases g5:w11_0=true
   ·
    have g5x:=g5
    simp only [Bool.and_eq_true,Bool.or_eq_true,Bool.not_eq_true',decide_eq_true_eq] at g5x
    refine G_yes (ebT g5 rfl) (R_mv t9 (G_yes (ebT g5 rfl) (R_eql rfl rfl (R_pickT (ebT g5 rfl) rfl ?_))))
    exact ⟨t10,t11,t12,t13,t14,t15,t16,t17,t19,t20,t22,t23,(bandT g5),h1,h2,h3,h4,h5,h16,h18,h21,trivial⟩
   ·
    have g5x:=g5
    simp only [Bool.and_eq_true,Bool.or_eq_true,Bool.not_eq_true',decide_eq_true_eq] at g5x
    refine G_n (ebF g5 rfl) (G_n (ebF g5 rfl) (R_pickF (ebF g5 rfl) rfl ?_))
    exact ⟨t10,t11,t12,t13,t14,t15,t16,t17,t19,t20,t22,t23,(bandF g5),h1,h2,h3,h4,h5,h16,h18,h21,trivial⟩
  intro T H ⟨t10,t11,t12,t13,t14,t15,t16,t17,t19,t20,t22,t23,t120,h1,h2,h3,h4,h5,h16,h18,h21,_⟩
  refine R_mv t120 ?_
  refine Ops_seg 2 (fun T H=>T 11=(iV (0:Int))∧T 12=(V.bool false)∧T 13=(iV (0:Int))∧T 14=(V.bool true)∧T 15=(iV (0:Int))∧T 16=(V.mp 16 1 0 0)∧T 17=(iV (0:Int))∧T 19=(iV (9:Int))∧T 20=(iV (5:Int))∧T 22=(iV (0:Int))∧T 23=(iV (8:Int))∧T 123=(V.bool ((((w11_0&&decide ((0:Int)=(0:Int))))||false)))∧H 1=w11_10∧H 2=w11_8∧H 3=w11_5∧H 4=w11_9∧H 5=w11_3∧H 16=w11_7∧H 18=w11_4∧H 21=w11_4∧True) ?_ ?_
  ·
   by_cases g6:((w11_0&&decide ((0:Int)=(0:Int))))=true
   ·
    have g6x:=g6
    simp only [Bool.and_eq_true,Bool.or_eq_true,Bool.not_eq_true',decide_eq_true_eq] at g6x
    refine G_yes (ebT g6 rfl) (R_mv t10 (R_pickT (ebT g6 rfl) rfl ?_))
    exact ⟨t11,t12,t13,t14,t15,t16,t17,t19,t20,t22,t23,(borT g6),h1,h2,h3,h4,h5,h16,h18,h21,trivial⟩
   ·
    have g6x:=g6
    simp only [Bool.and_eq_true,Bool.or_eq_true,Bool.not_eq_true',decide_eq_true_eq] at g6x
    refine G_n (ebF g6 rfl) (R_pickF (ebF g6 rfl) rfl ?_)
    exact ⟨t11,t12,t13,t14,t15,t16,t17,t19,t20,t22,t23,(borF g6),h1,h2,h3,h4,h5,h16,h18,h21,trivial⟩
  intro T H ⟨t11,t12,t13,t14,t15,t16,t17,t19,t20,t22,t23,t123,h1,h2,h3,h4,h5,h16,h18,h21,_⟩
  refine R_mv t123 ?_
  refine Ops_seg 3 (fun T H=>T 12=(V.bool false)∧T 13=(iV (0:Int))∧T 14=(V.bool true)∧T 15=(iV (0:Int))∧T 16=(V.mp 16 1 0 0)∧T 17=(iV (0:Int))∧T 19=(iV (9:Int))∧T 20=(iV (5:Int))∧T 22=(iV (0:Int))∧T 23=(iV (8:Int))∧T 127=(V.bool w11_11)∧H 1=w11_10∧H 2=w11_8∧H 3=w11_5∧H 4=w11_9∧H 5=w11_3∧H 16=w11_7∧H 18=w11_4∧H 21=w11_4∧True) ?_ ?_
  ·
   by_cases g7:((((w11_0&&decide ((0:Int)=(0:Int))))||false))=true
   ·
    have g7x:=g7
    simp only [Bool.and_eq_true,Bool.or_eq_true,Bool.not_eq_true',decide_eq_true_eq] at g7x
    refine G_yes (ebT g7 rfl) (R_mv t11 (G_yes (ebT g7 rfl) (R_eql rfl rfl (R_pickT (ebT g7 rfl) rfl ?_))))
    exact ⟨t12,t13,t14,t15,t16,t17,t19,t20,t22,t23,(bandT g7),h1,h2,h3,h4,h5,h16,h18,h21,trivial⟩
   ·
    have g7x:=g7
    simp only [Bool.and_eq_true,Bool.or_eq_true,Bool.not_eq_true',decide_eq_true_eq] at g7x
    refine G_n (ebF g7 rfl) (G_n (ebF g7 rfl) (R_pickF (ebF g7 rfl) rfl ?_))
    exact ⟨t12,t13,t14,t15,t16,t17,t19,t20,t22,t23,(bandF g7),h1,h2,h3,h4,h5,h16,h18,h21,trivial⟩
  intro T H ⟨t12,t13,t14,t15,t16,t17,t19,t20,t22,t23,t127,h1,h2,h3,h4,h5,h16,h18,h21,_⟩
  refine R_mv t127 ?_
  refine Ops_seg 3 (fun T H=>T 13=(iV (0:Int))∧T 14=(V.bool true)∧T 15=(iV (0:Int))∧T 16=(V.mp 16 1 0 0)∧T 17=(iV (0:Int))∧T 19=(iV (9:Int))∧T 20=(iV (5:Int))∧T 22=(iV (0:Int))∧T 23=(iV (8:Int))∧T 131=(V.bool ((w11_11||false)))∧H 1=w11_10∧H 2=w11_8∧H 3=w11_5∧H 4=w11_9∧H 5=w11_3∧H 16=w11_7∧H 18=w11_4∧H 21=w11_4∧True) ?_ ?_
  ·
   by_cases g8:w11_11=true
   ·
    have g8x:=g8
    simp only [Bool.and_eq_true,Bool.or_eq_true,Bool.not_eq_true',decide_eq_true_eq] at g8x
    refine G_yes (ebT g8 rfl) (R_mv t12 (G_yes (ebT g8 rfl) (R_notb rfl (R_pickT (ebT g8 rfl) rfl ?_))))
    exact ⟨t13,t14,t15,t16,t17,t19,t20,t22,t23,(borT g8),h1,h2,h3,h4,h5,h16,h18,h21,trivial⟩
   ·
    have g8x:=g8
    simp only [Bool.and_eq_true,Bool.or_eq_true,Bool.not_eq_true',decide_eq_true_eq] at g8x
    refine G_n (ebF g8 rfl) (G_n (ebF g8 rfl) (R_pickF (ebF g8 rfl) rfl ?_))
    exact ⟨t13,t14,t15,t16,t17,t19,t20,t22,t23,(borF g8),h1,h2,h3,h4,h5,h16,h18,h21,trivial⟩
  intro T H ⟨t13,t14,t15,t16,t17,t19,t20,t22,t23,t131,h1,h2,h3,h4,h5,h16,h18,h21,_⟩
  refine R_mv t131 ?_
  refine Ops_seg 3 (fun T H=>T 14=(V.bool true)∧T 15=(iV (0:Int))∧T 16=(V.mp 16 1 0 0)∧T 17=(iV (0:Int))∧T 19=(iV (9:Int))∧T 20=(iV (5:Int))∧T 22=(iV (0:Int))∧T 23=(iV (8:Int))∧T 135=(V.bool w11_15)∧H 1=w11_10∧H 2=w11_8∧H 3=w11_5∧H 4=w11_9∧H 5=w11_3∧H 16=w11_7∧H 18=w11_4∧H 21=w11_4∧True) ?_ ?_
  ·
   by_cases g9:((w11_11||false))=true
   ·
    have g9x:=g9
    simp only [Bool.and_eq_true,Bool.or_eq_true,Bool.not_eq_true',decide_eq_true_eq] at g9x
    refine G_yes (ebT g9 rfl) (R_mv t13 (G_yes (ebT g9 rfl) (R_eql rfl rfl (R_pickT (ebT g9 rfl) rfl ?_))))
    exact ⟨t14,t15,t16,t17,t19,t20,t22,t23,(bandT g9),h1,h2,h3,h4,h5,h16,h18,h21,trivial⟩
   ·
    have g9x:=g9
    simp only [Bool.and_eq_true,Bool.or_eq_true,Bool.not_eq_true',decide_eq_true_eq] at g9x
    refine G_n (ebF g9 rfl) (G_n (ebF g9 rfl) (R_pickF (ebF g9 rfl) rfl ?_))
    exact ⟨t14,t15,t16,t17,t19,t20,t22,t23,(bandF g9),h1,h2,h3,h4,h5,h16,h18,h21,trivial⟩
  intro T H ⟨t14,t15,t16,t17,t19,t20,t22,t23,t135,h1,h2,h3,h4,h5,h16,h18,h21,_⟩
  refine R_mv t135 ?_
  refine Ops_seg 2 (fun T H=>T 15=(iV (0:Int))∧T 16=(V.mp 16 1 0 0)∧T 17=(iV (0:Int))∧T 19=(iV (9:Int))∧T 20=(iV (5:Int))∧T 22=(iV (0:Int))∧T 23=(iV (8:Int))∧T 138=(V.bool ((w11_15||false)))∧H 1=w11_10∧H 2=w11_8∧H 3=w11_5∧H 4=w11_9∧H 5=w11_3∧H 16=w11_7∧H 18=w11_4∧H 21=w11_4∧True) ?_ ?_
  ·
   by_cases g10:w11_15=true
   ·
    have g10x:=g10
    simp only [Bool.and_eq_true,Bool.or_eq_true,Bool.not_eq_true',decide_eq_true_eq] at g10x
    refine G_yes (ebT g10 rfl) (R_mv t14 (R_pickT (ebT g10 rfl) rfl ?_))
    exact ⟨t15,t16,t17,t19,t20,t22,t23,(borT g10),h1,h2,h3,h4,h5,h16,h18,h21,trivial⟩
   ·
    have g10x:=g10
    simp only [Bool.and_eq_true,Bool.or_eq_true,Bool.not_eq_true',decide_eq_true_eq] at g10x
    refine G_n (ebF g10 rfl) (R_pickF (ebF g10 rfl) rfl ?_)
    exact ⟨t15,t16,t17,t19,t20,t22,t23,(borF g10),h1,h2,h3,h4,h5,h16,h18,h21,trivial⟩
  intro T H ⟨t15,t16,t17,t19,t20,t22,t23,t138,h1,h2,h3,h4,h5,h16,h18,h21,_⟩
  refine R_mv t138 ?_
  refine Ops_seg 3 (fun T H=>T 16=(V.mp 16 1 0 0)∧T 17=(iV (0:Int))∧T 19=(iV (9:Int))∧T 20=(iV (5:Int))∧T 22=(iV (0:Int))∧T 23=(iV (8:Int))∧T 142=(V.bool ((((w11_15||false))&&decide ((0:Int)=(0:Int)))))∧H 1=w11_10∧H 2=w11_8∧H 3=w11_5∧H 4=w11_9∧H 5=w11_3∧H 16=w11_7∧H 18=w11_4∧H 21=w11_4∧True) ?_ ?_
  ·
   by_cases g11:((w11_15||false))=true
   ·
    have g11x:=g11
    simp only [Bool.and_eq_true,Bool.or_eq_true,Bool.not_eq_true',decide_eq_true_eq] at g11x
    refine G_yes (ebT g11 rfl) (R_mv t15 (G_yes (ebT g11 rfl) (R_eql rfl rfl (R_pickT (ebT g11 rfl) rfl ?_))))
    exact ⟨t16,t17,t19,t20,t22,t23,(bandT g11),h1,h2,h3,h4,h5,h16,h18,h21,trivial⟩
   ·
    have g11x:=g11
    simp only [Bool.and_eq_true,Bool.or_eq_true,Bool.not_eq_true',decide_eq_true_eq] at g11x
    refine G_n (ebF g11 rfl) (G_n (ebF g11 rfl) (R_pickF (ebF g11 rfl) rfl ?_))
    exact ⟨t16,t17,t19,t20,t22,t23,(bandF g11),h1,h2,h3,h4,h5,h16,h18,h21,trivial⟩
  intro T H ⟨t16,t17,t19,t20,t22,t23,t142,h1,h2,h3,h4,h5,h16,h18,h21,_⟩
  refine R_mv t142 ?_
  refine Ops_seg 8 (fun T H=>T 17=(iV (0:Int))∧T 19=(iV (9:Int))∧T 20=(iV (5:Int))∧T 22=(iV (0:Int))∧T 23=(iV (8:Int))∧T 151=(V.bool w11_2)∧H 1=w11_10∧H 2=w11_8∧H 3=w11_5∧H 4=w11_9∧H 5=w11_3∧H 16=w11_7∧H 18=w11_4∧H 21=w11_4∧True) ?_ ?_
  ·
   by_cases g12:((((w11_15||false))&&decide ((0:Int)=(0:Int))))=true
   ·
    have g12x:=g12
    simp only [Bool.and_eq_true,Bool.or_eq_true,Bool.not_eq_true',decide_eq_true_eq] at g12x
    refine G_yes (ebT g12 rfl) (R_lk t16 h16 rfl rfl (G_yes (ebT g12 rfl) (R_call (evcons (@rfl V (iV (2:Int))) (evcons (@rfl V (iV (0:Int))) (evcons (@rfl V V.nilsl) evnil))) (lnode_pure ((2:Int)) ((0:Int)) ([])) (mcons (fzv_canon 6 _ (by simp [-List.map_take,-List.map_drop,-List.map_append,-List.map_reverse])) (mcons (fzv_canon 6 _ (by simp [-List.map_take,-List.map_drop,-List.map_append,-List.map_reverse])) (mcons (by rfl) rfl))) (by simp [-List.map_take,-List.map_drop,-List.map_append,-List.map_reverse]) (Or.inl (by simp [-List.map_take,-List.map_drop,-List.map_append,-List.map_reverse])) (G_yes (ebT g12 rfl) (R_bslice rfl rfl (G_yes (ebT g12 rfl) (R_callk (lnode_pure ((4:Int)) ((0:Int)) ([w11_14])) (evcons rfl (evcons rfl (evcons (sl_F1 (x:=(w11_14)) rfl) evnil))) ?_)))))))
    refine G_yes (ebT g12 rfl) (R_bslice rfl rfl (G_yes (ebT g12 rfl) (R_callk (lnode_pure ((9:Int)) ((0:Int)) ([w11_16])) (evcons rfl (evcons rfl (evcons (sl_F1 (x:=(w11_16)) rfl) evnil))) (G_yes (ebT g12 rfl) (R_callk (rsame_pure (⟨((9:Int)),((0:Int)),([Fm.nd 4 0 [Fm.nd 2 0 []]])⟩:Fm) (⟨((((9:Int)))),((((0:Int)))),(([w11_16]))⟩:Fm)) rfl (R_pickT (ebT g12 rfl) rfl ?_))))))
    exact ⟨t17,t19,t20,t22,t23,(bandT g12),h1,h2,h3,h4,h5,h16,h18,h21,trivial⟩
   ·
    have g12x:=g12
    simp only [Bool.and_eq_true,Bool.or_eq_true,Bool.not_eq_true',decide_eq_true_eq] at g12x
    refine G_n (ebF g12 rfl) (G_n (ebF g12 rfl) (G_n (ebF g12 rfl) (G_n (ebF g12 rfl) (G_n (ebF g12 rfl) (G_n (ebF g12 rfl) (G_n (ebF g12 rfl) (R_pickF (ebF g12 rfl) rfl ?_)))))))
    exact ⟨t17,t19,t20,t22,t23,(bandF g12),h1,h2,h3,h4,h5,h16,h18,h21,trivial⟩
  intro T H ⟨t17,t19,t20,t22,t23,t151,h1,h2,h3,h4,h5,h16,h18,h21,_⟩
  refine R_mv t151 ?_
  refine Ops_seg 3 (fun T H=>T 19=(iV (9:Int))∧T 20=(iV (5:Int))∧T 22=(iV (0:Int))∧T 23=(iV (8:Int))∧T 155=(V.bool ((w11_2&&decide ((0:Int)=(0:Int)))))∧H 1=w11_10∧H 2=w11_8∧H 3=w11_5∧H 4=w11_9∧H 5=w11_3∧H 16=w11_7∧H 18=w11_4∧H 21=w11_4∧True) ?_ ?_
  ·
   by_cases g13:w11_2=true
   ·
    have g13x:=g13
    simp only [Bool.and_eq_true,Bool.or_eq_true,Bool.not_eq_true',decide_eq_true_eq] at g13x
    refine G_yes (ebT g13 rfl) (R_mv t17 (G_yes (ebT g13 rfl) (R_eql rfl rfl (R_pickT (ebT g13 rfl) rfl ?_))))
    exact ⟨t19,t20,t22,t23,(bandT g13),h1,h2,h3,h4,h5,h16,h18,h21,trivial⟩
   ·
    have g13x:=g13
    simp only [Bool.and_eq_true,Bool.or_eq_true,Bool.not_eq_true',decide_eq_true_eq] at g13x
    refine G_n (ebF g13 rfl) (G_n (ebF g13 rfl) (R_pickF (ebF g13 rfl) rfl ?_))
    exact ⟨t19,t20,t22,t23,(bandF g13),h1,h2,h3,h4,h5,h16,h18,h21,trivial⟩
  intro T H ⟨t19,t20,t22,t23,t155,h1,h2,h3,h4,h5,h16,h18,h21,_⟩
  refine R_mv t155 ?_
  refine Ops_seg 3 (fun T H=>T 20=(iV (5:Int))∧T 22=(iV (0:Int))∧T 23=(iV (8:Int))∧T 159=(V.bool ((((w11_2&&decide ((0:Int)=(0:Int))))&&decide ((9:Int)=(9:Int)))))∧H 1=w11_10∧H 2=w11_8∧H 3=w11_5∧H 4=w11_9∧H 5=w11_3∧H 16=w11_7∧H 18=w11_4∧H 21=w11_4∧True) ?_ ?_
  ·
   by_cases g14:((w11_2&&decide ((0:Int)=(0:Int))))=true
   ·
    have g14x:=g14
    simp only [Bool.and_eq_true,Bool.or_eq_true,Bool.not_eq_true',decide_eq_true_eq] at g14x
    refine G_yes (ebT g14 rfl) (R_mv t19 (G_yes (ebT g14 rfl) (R_eql rfl rfl (R_pickT (ebT g14 rfl) rfl ?_))))
    exact ⟨t20,t22,t23,(bandT g14),h1,h2,h3,h4,h5,h16,h18,h21,trivial⟩
   ·
    have g14x:=g14
    simp only [Bool.and_eq_true,Bool.or_eq_true,Bool.not_eq_true',decide_eq_true_eq] at g14x
    refine G_n (ebF g14 rfl) (G_n (ebF g14 rfl) (R_pickF (ebF g14 rfl) rfl ?_))
    exact ⟨t20,t22,t23,(bandF g14),h1,h2,h3,h4,h5,h16,h18,h21,trivial⟩
  intro T H ⟨t20,t22,t23,t159,h1,h2,h3,h4,h5,h16,h18,h21,_⟩
  refine R_mv t159 ?_
  refine Ops_seg 3 (fun T H=>T 22=(iV (0:Int))∧T 23=(iV (8:Int))∧T 163=(V.bool w11_13)∧H 1=w11_10∧H 2=w11_8∧H 3=w11_5∧H 4=w11_9∧H 5=w11_3∧H 16=w11_7∧H 18=w11_4∧H 21=w11_4∧True) ?_ ?_
  ·
   by_cases g15:((((w11_2&&decide ((0:Int)=(0:Int))))&&decide ((9:Int)=(9:Int))))=true
   ·
    have g15x:=g15
    simp only [Bool.and_eq_true,Bool.or_eq_true,Bool.not_eq_true',decide_eq_true_eq] at g15x
    refine G_yes (ebT g15 rfl) (R_mv t20 (G_yes (ebT g15 rfl) (R_eql rfl rfl (R_pickT (ebT g15 rfl) rfl ?_))))
    exact ⟨t22,t23,(bandT g15),h1,h2,h3,h4,h5,h16,h18,h21,trivial⟩
   ·
    have g15x:=g15
    simp only [Bool.and_eq_true,Bool.or_eq_true,Bool.not_eq_true',decide_eq_true_eq] at g15x
    refine G_n (ebF g15 rfl) (G_n (ebF g15 rfl) (R_pickF (ebF g15 rfl) rfl ?_))
    exact ⟨t22,t23,(bandF g15),h1,h2,h3,h4,h5,h16,h18,h21,trivial⟩
  intro T H ⟨t22,t23,t163,h1,h2,h3,h4,h5,h16,h18,h21,_⟩
  refine R_mv t163 ?_
  refine Ops_seg 3 (fun T H=>T 23=(iV (8:Int))∧T 167=(V.bool ((w11_13&&decide ((0:Int)=(0:Int)))))∧H 1=w11_10∧H 2=w11_8∧H 3=w11_5∧H 4=w11_9∧H 5=w11_3∧H 16=w11_7∧H 18=w11_4∧H 21=w11_4∧True) ?_ ?_
  ·
   by_cases g16:w11_13=true
   ·
    have g16x:=g16
    simp only [Bool.and_eq_true,Bool.or_eq_true,Bool.not_eq_true',decide_eq_true_eq] at g16x
    refine G_yes (ebT g16 rfl) (R_mv t22 (G_yes (ebT g16 rfl) (R_eql rfl rfl (R_pickT (ebT g16 rfl) rfl ?_))))
    exact ⟨t23,(bandT g16),h1,h2,h3,h4,h5,h16,h18,h21,trivial⟩
   ·
    have g16x:=g16
    simp only [Bool.and_eq_true,Bool.or_eq_true,Bool.not_eq_true',decide_eq_true_eq] at g16x
    refine G_n (ebF g16 rfl) (G_n (ebF g16 rfl) (R_pickF (ebF g16 rfl) rfl ?_))
    exact ⟨t23,(bandF g16),h1,h2,h3,h4,h5,h16,h18,h21,trivial⟩
  intro T H ⟨t23,t167,h1,h2,h3,h4,h5,h16,h18,h21,_⟩
  refine R_mv t167 ?_
  refine Ops_seg 3 (fun T H=>T 171=(V.bool ((((w11_13&&decide ((0:Int)=(0:Int))))&&decide ((8:Int)=(8:Int)))))∧H 1=w11_10∧H 2=w11_8∧H 3=w11_5∧H 4=w11_9∧H 5=w11_3∧H 16=w11_7∧H 18=w11_4∧H 21=w11_4∧True) ?_ ?_
  ·
   by_cases g17:((w11_13&&decide ((0:Int)=(0:Int))))=true
   ·
    have g17x:=g17
    simp only [Bool.and_eq_true,Bool.or_eq_true,Bool.not_eq_true',decide_eq_true_eq] at g17x
    refine G_yes (ebT g17 rfl) (R_mv t23 (G_yes (ebT g17 rfl) (R_eql rfl rfl (R_pickT (ebT g17 rfl) rfl ?_))))
    exact ⟨(bandT g17),h1,h2,h3,h4,h5,h16,h18,h21,trivial⟩
   ·
    have g17x:=g17
    simp only [Bool.and_eq_true,Bool.or_eq_true,Bool.not_eq_true',decide_eq_true_eq] at g17x
    refine G_n (ebF g17 rfl) (G_n (ebF g17 rfl) (R_pickF (ebF g17 rfl) rfl ?_))
    exact ⟨(bandF g17),h1,h2,h3,h4,h5,h16,h18,h21,trivial⟩
  intro T H ⟨t171,h1,h2,h3,h4,h5,h16,h18,h21,_⟩
  refine R_mv t171 ?_
  exact R_nil ⟨rfl,h1,h2,h3,h4,h5,h16,h18,h21,trivial⟩
 intro T H ⟨t0,h1,h2,h3,h4,h5,h16,h18,h21,_⟩
 refine W_ret ?_
 refine Ret_1 t0 (fz_bool ?_)
 · decide+kernel
end Go.Proofs.Ytdmcmkccifmofaa
namespace Go.Proofs.Ytdmcmkccifmofaa
open Go Go.Proofs
def r18_2:List SO:=[
 qM 4 3,
 qF 5 0 1,
 ql 6 5,
 qN 7 6,
 qP 8 .lss 4 7,
 qM 9 8,
 ⟨some (9,true),some 10,.mv (.t 3)⟩,
 ⟨some (9,true),some 11,.bin .lss (.t 10) (.c (.int .i64 71))⟩,
 sO 12 (.pick (.t 9) (.t 11) (.c (.bool false)))]
def r18_4:List SO:=[
 qF 15 0 1,
 ql 16 15,
 qM 17 3,
 qA 18 1 16 17,
 ql 19 18,
 sO 20 (.slen (.t 19)),
 qC 21 .gtr 20 100]
def b18_0:SC:=.seq (.seq (.reg r18_2) (.cond (.t 12) (.skip) (.exit 0))) (.seq (.block 1 (.seq (.reg r18_4) (.cond (.t 21) (.seq (.reg [sO 2 (.mv (.c (.bool true)))]) (.ret)) (.skip)))) (.reg [qM 13 3,qC 14 .add 13 1,qM 3 14]))
def s18:SF:=⟨26,[.tmp 2],.seq (.reg [sO 1 (.box 37 1 (.t 0)),sO 2 (.mv (.c (.bool false)))]) (.seq (.seq (.reg [qI 3 0]) (.block 0 (.loop b18_0))) (.seq (.reg [qF 22 0 1,ql 23 22,qN 24 23,qC 25 .gtr 24 70,qM 2 25]) (.ret)))⟩
theorem s18_ok:slimF Try.prog ⟨[31,36,37,38,40,41,42,44,45,59,60,61,65,66,67,71,72,73,81,82,84,92,93,98,99,102,104],[],[],[]⟩ Try.f18=some s18:=by kernel_rfl
theorem great_pure (l:List (List UInt8)):PureC Try.prog 18 [(V.agg [(V.sl (List.map cS (l)))])] (V.bool (grB l)):=by
 refine pW Try.func18 s18_ok fun hB=>?_
 unfold s18
 dsimp only
 refine W_r (R_box (i:=1) (n:=0) (m:=1) (cs:=[(V.sl (List.map cS (l)))]) rfl (congrArg Blk.ver rfl) rfl rfl rfl (R_mv rfl (R_e (W_seq_seq (W_r (R_mv rfl (R_e ?_)))))))
 refine W_seq_blockg fun Q1 n1 x1 y1 z1=>?_
 refine W_loop (fun mm T H=> ∃ (k:Nat),mm=l.length - k∧T 1=(V.mp 1 1 0 0)∧T 3=(iV ((k:Nat):Int))∧H 1=(bk 1 37 1 [[(V.sl (List.map cS (l)))]])∧(k≤l.length∧k≤71)∧((l.take 71).any (fun s=>decide (100 < s.length))=((l.take 71).drop k).any fun s=>decide (100 < s.length))) ?_ ?_
 ·
  refine ⟨_,0,rfl,rfl,(Eq.trans (@rfl V (iV (0:Int))) rfl),rfl,?_,?_⟩
  · omega
  · rfl
 intro mm T H ⟨k,hmm,t1,t3,h1,hk,hc⟩ Q2 p12 p22 p32
 unfold b18_0
 refine W_seq_seq (W_r (R_mv t3 (R_fk t1 h1 (R_lk rfl h1 rfl rfl (R_len rfl (R_lss rfl rfl (R_mv rfl ?_)))))))
 refine Ops_seg 3 (fun T H=>T 1=(V.mp 1 1 0 0)∧T 3=(iV ((k:Nat):Int))∧T 12=(V.bool (decide ((((k:Nat):Int) < ((l.length:Nat):Int))∧(((k:Nat):Int) < (71:Int)))))∧H 1=(bk 1 37 1 [[(V.sl (List.map cS (l)))]])∧True) ?_ ?_
 ·
  by_cases g3:((k:Nat):Int) < ((l.length:Nat):Int)
  ·
   refine G_yes (edT g3 rfl) (R_mv t3 (G_yes (edT g3 rfl) (R_lss rfl rfl (R_pickT (edT g3 rfl) rfl ?_))))
   exact ⟨t1,t3,(dec_andT g3),h1,trivial⟩
  ·
   refine G_n (edF g3 rfl) (G_n (edF g3 rfl) (R_pickF (edF g3 rfl) rfl ?_))
   exact ⟨t1,t3,(dec_andF g3),h1,trivial⟩
 intro T H ⟨t1,t3,t12,h1,_⟩
 refine R_e ?_
 refine W_seq_if t12 (fun c4=>?_) fun c4=>?_
 ·
  refine W_seq_skip (W_seq_blockg fun Q5 n5 x5 y5 z5=>(W_r (R_fk t1 h1 (R_lk rfl h1 rfl rfl (R_mv t3 (R_idx (i:=k) (@rfl V (V.sl (List.map cS (l)))) (@rfl V (iV ((k:Nat):Int))) (by omega) rfl (R_load_pp rfl rfl ?_)))))))
  refine R_slen (s:=((nth (l) (k)))) rfl (R_gtr rfl rfl (R_e ?_))
  refine W_if rfl (fun c6=>?_) fun c6=>?_
  ·
   refine W_r (R_mv rfl (R_e (W_ret (y5 _ _ (p22 _ _ (y1 _ _ ?_))))))
   refine Ret_1 (@rfl V (V.bool true)) (fz_bool ?_)
   · unfold grB; rw [hc,any_yes (by simp; omega) (by rw [nth_take (by omega)]; exact decide_eq_true (by omega))]; rfl
  refine W_skip (n5 _ _ (.done (W_t (R_mv t3 (R_addN rfl (@rfl V (iV ((1:Nat):Int))) (by omega) (R_mv rfl (R_e ?_)))))))
  refine p12 _ _ _ ?_ ⟨(k+1),rfl,t1,(Eq.trans (@rfl V (iV ((k+1:Nat):Int))) (by rfl)),h1,?_,?_⟩
  · omega
  · omega
  · rw [hc,any_step (by simp; omega) (by rw [nth_take (by omega)]; exact decide_eq_false (by omega))]
 refine W_seq_exit (p32 _ _ _ (x1 _ _ (.done (W_r (R_fk t1 h1 (R_lk rfl h1 rfl rfl (R_len rfl ?_)))))))
 refine R_gtr rfl rfl (R_mv rfl (R_e (W_ret ?_)))
 refine Ret_1 (@rfl V (V.bool (decide ((70:Int) < ((l.length:Nat):Int))))) (fz_bool ?_)
 · unfold grB; rw [hc,any_end (by simp; omega),Bool.false_or]; exact decide_eq_decide.2 (by omega)
end Go.Proofs.Ytdmcmkccifmofaa
namespace Go.Proofs.Ytdmcmkccifmofaa
open Go
theorem fm_ind {p:Fm→Prop} (h: ∀ f,(∀ k,k < f.kids.length→p (nth f.kids k))→p f) (f:Fm):p f:=by
  have key: ∀ (m:Nat) (g:Fm),g.sz < m→p g:=by
    intro m
    induction m with
    |zero=>intro g hg; omega
    |succ m ih=>intro g hg; exact h g fun k hk=>ih _ (by have:=Fm.sz_kid hk; omega)
  exact key _ f (Nat.lt_succ_self _)
end Go.Proofs.Ytdmcmkccifmofaa
namespace Go.Proofs.Ytdmcmkccifmofaa
open Go
mutual
def dp:Fm→Nat
  | .nd _ _ k=>dpL k+1
def dpL:List Fm→Nat
  |[]=>0
  |f::l=>max (dp f) (dpL l)
end
mutual
theorem exm_iff : ∀ (f : Fm) (lv b : Int), (exm f lv b).2 = 0 ↔ okF f = true ∧ b + f.sz ≤ 4096 ∧ lv + dp f ≤ 65
  | .nd o a k, lv, b => by
    rw [exm,okF,Fm.sz,dp,Bool.and_eq_true,decide_eq_true_eq]
    split
    · simp; omega
    · split
      · simp; omega
      · split
        · rename_i h; simp [h]
        · rename_i h1 h2 h3
          have h3':rgt (.nd o a k)=0:=by omega
          rw [exmL_iff k (lv+1) (b+1) (by omega) (by omega)]
          constructor
          · rintro ⟨q1,q2,q3⟩; exact ⟨⟨h3',q1⟩,by omega,by omega⟩
          · rintro ⟨⟨_,q1⟩,q2,q3⟩; exact ⟨q1,by omega,by omega⟩
theorem exmL_iff: ∀ (l:List Fm) (lv n:Int),n≤4096→lv≤65→((exmL l lv n).2=0↔okL l=true∧n+Fm.szs l≤4096∧lv+dpL l≤65)
  |[],lv,n,h1,h2=>by rw [exmL,okL,Fm.szs,dpL]; simp; omega
  | f :: l, lv, n, h1, h2 => by
    have hf:=exm_iff f lv n
    rw [exmL,okL,Fm.szs,dpL,Bool.and_eq_true]
    split
    · rename_i h
      have h': ¬(okF f=true∧n+f.sz≤4096∧lv+dp f≤65):=fun q=>h (hf.2 q)
      constructor
      · intro q; exact absurd q h
      · rintro ⟨⟨q1,q2⟩,q3,q4⟩; exact absurd ⟨q1,by omega,by omega⟩ h'
    · rename_i h
      have h0:(exm f lv n).2=0:=by omega
      obtain ⟨k1,k2,k3⟩:=hf.1 h0
      have hz:=exm_sz f lv n h0
      rw [exmL_iff l lv (exm f lv n).1 (by omega) h2,hz]
      constructor
      · rintro ⟨q1,q2,q3⟩; exact ⟨⟨k1,q1⟩,by omega,by omega⟩
      · rintro ⟨⟨_,q1⟩,q2,q3⟩; exact ⟨q1,by omega,by omega⟩
end
theorem fval_iff (f:Fm):fval f=0↔okF f=true∧f.sz≤4096∧dp f≤64:=by
  unfold fval
  rw [exm_iff]
  constructor
  · rintro ⟨h1,h2,h3⟩; exact ⟨h1,by omega,by omega⟩
  · rintro ⟨h1,h2,h3⟩; exact ⟨h1,by omega,by omega⟩
section
variable {f g:Fm} {t:Tr}
abbrev uF (f g:Fm):Fm:=.nd 8 0 [f,g]
abbrev rF' (f g:Fm):Fm:=.nd 10 0 [f,g]
abbrev WF (f g:Fm):Fm:=.nd 6 0 [g,.nd 5 0 [f,.nd 7 0 [uF f g]]]
abbrev VF (f g:Fm):Fm:=.nd 5 0 [g,.nd 6 0 [f,.nd 9 0 [rF' f g]]]
abbrev tlT (t:Tr):Tr:=⟨t.ni.drop 1,t.no.drop 1⟩
@[simp] theorem canonLL_tlI (l : List Int) : canonLL (l.map cI).tail = true := by
  cases l with
  |nil=>simp
  |cons a l=>simp
@[simp] theorem pureLL_tlI (l : List Int) : pureLL (l.map cI).tail = true := by
  cases l with
  |nil=>simp
  |cons a l=>simp
structure Exp (f g:Fm) (t:Tr):Prop where
  e1:hoE t (uF f g)=0
  e2:hoE t (rF' f g)=0
  e3:hoE t (WF f g)=0
  e4:hoE t (VF f g)=0
  e5:hoE t (.nd 5 0 [f,g,f])=0
  e6:hoE t (.nd 6 0 [f,g,f])=0
  e7:hoE t (.nd 7 0 [f])=0
  e8:hoE t (.nd 9 0 [f])=0
  b1:hoB t (uF f g)=hoB t (WF f g)
  b2:hoB t (rF' f g)=hoB t (VF f g)
  b3:hoB t (.nd 5 0 [f,g,f])=(hoB t f&&hoB t g)
  b4:hoB t (.nd 6 0 [f,g,f])=(hoB t f||hoB t g)
  n1:t.ni.length=0→hoB t (.nd 7 0 [f])=false∧hoB t (.nd 9 0 [f])=true
  n2:t.ni.length≠0→hoE (tlT t) f=0∧hoB t (.nd 7 0 [f])=hoB (tlT t) f∧hoB t (.nd 9 0 [f])=hoB (tlT t) f
end
end Go.Proofs.Ytdmcmkccifmofaa
namespace Go.Proofs.Ytdmcmkccifmofaa
open Go
def Le1 {α:Type} (R R':PS→Option (PR α)):Prop:= ∀ s r,R s=some r→R' s=some r
theorem pPart_le {e:PE} {R R':PS→Option (PR Fm)} (h:Le1 R R'):Le1 (pPart e R) (pPart e R'):=by
  intro s r
  unfold pPart
  cases hx:pNext e s with
  |er a x=>exact id
  | ok u s1 =>
    simp only
    split
    · exact id
    · intro hr
      cases hy:R {s1 with dep:=s1.dep+1} with
      |none=>rw [hy] at hr; cases hr
      |some q=>rw [hy] at hr; rw [h _ _ hy]; exact hr
theorem mapP_le {g:Fm→Fm} {R R':PS→Option (PR Fm)} (h:Le1 R R'):Le1 (fun s=>mapP g (R s)) (fun s=>mapP g (R' s)):=by
  intro s r hr
  simp only at hr ⊢
  cases hy:R s with
  |none=>rw [hy] at hr; cases hr
  |some q=>rw [hy] at hr; rw [h _ _ hy]; exact hr
theorem pMore_le {e : PE} {w : List UInt8} {R R' : PS → Option (PR Fm)} (h : Le1 R R') : ∀ {k k' : Nat} {l : List Fm}, k ≤ k' → ∀ s r, pMore e w R k l s = some r → pMore e w R' k' l s = some r
  |0,_,_,_=>fun _ _ hr=>by cases hr
  | k + 1, k', l, hk => fun s r hr => by
    obtain ⟨k2,rfl⟩: ∃ j,k'=j+1:=⟨k' - 1,by omega⟩
    rw [pMore] at hr ⊢
    split
    · rename_i e1
      rw [if_pos e1] at hr
      cases hx:pNext e s with
      |er a x=>rw [hx] at hr; exact hr
      | ok u s1 =>
        rw [hx] at hr
        simp only at hr ⊢
        cases hy:R s1 with
        |none=>rw [hy] at hr; cases hr
        | some q =>
          rw [hy] at hr; rw [h _ _ hy]
          cases q with
          |er a x=>exact hr
          |ok f s2=>exact pMore_le h (k:=k) (by omega) _ _ hr
    · rename_i e1
      rw [if_neg e1] at hr; exact hr
theorem pSev_le {e:PE} {w:List UInt8} {op:Int} {R R':PS→Option (PR Fm)} (h:Le1 R R') {k k':Nat} (hk:k≤k'):Le1 (pSev e w op R k) (pSev e w op R' k'):=by
  intro s r hr
  unfold pSev at hr ⊢
  cases hy:R s with
  |none=>rw [hy] at hr; cases hr
  | some q =>
    rw [hy] at hr; rw [h _ _ hy]
    cases q with
    |er a x=>exact hr
    | ok f s1 =>
      simp only at hr ⊢
      cases hz:pMore e w R k [f] s1 with
      |none=>rw [hz] at hr; cases hr
      |some q=>rw [hz] at hr; rw [pMore_le h hk _ _ hz]; exact hr
theorem pF_le (e : PE) : ∀ (k : Nat) (K : PK), Le1 (pF e k K) (pF e (k + 1) K)
  |0,_=>fun _ _ h=>by cases h
  | k + 1, .form => fun s r hr => by
    rw [pF] at hr ⊢
    cases hy:pSev e [124] 6 (pF e k .conj) k s with
    |none=>rw [hy] at hr; cases hr
    | some q =>
      rw [hy] at hr; rw [pSev_le (pF_le e k .conj) (Nat.le_succ k) _ _ hy]
      cases q with
      |er a x=>exact hr
      | ok f s1 =>
        simp only at hr ⊢
        split
        · rename_i e1; rw [if_pos e1] at hr; exact mapP_le (pPart_le (pF_le e k .form)) _ _ hr
        · rename_i e1; rw [if_neg e1] at hr; exact hr
  | k + 1, .conj => fun s r hr => by
    rw [pF] at hr ⊢; exact pSev_le (pF_le e k .bin) (Nat.le_succ k) _ _ hr
  | k + 1, .bin => fun s r hr => by
    rw [pF] at hr ⊢
    cases hy:pF e k .un s with
    |none=>rw [hy] at hr; cases hr
    | some q =>
      rw [hy] at hr; rw [pF_le e k .un _ _ hy]
      cases q with
      |er a x=>exact hr
      | ok f s1 =>
        simp only at hr ⊢
        split
        · rename_i e1; rw [if_pos e1] at hr; exact mapP_le (pPart_le (pF_le e k .bin)) _ _ hr
        · rename_i e1; rw [if_neg e1] at hr
          split
          · rename_i e2; rw [if_pos e2] at hr; exact mapP_le (pPart_le (pF_le e k .bin)) _ _ hr
          · rename_i e2; rw [if_neg e2] at hr; exact hr
  | k + 1, .un => fun s r hr => by
    have hu:=pPart_le (e:=e) (pF_le e k .un)
    rw [pF] at hr ⊢
    split
    · rename_i e1; rw [if_pos e1] at hr; exact mapP_le hu _ _ hr
    · rename_i e1; rw [if_neg e1] at hr
      split
      · rename_i e1; rw [if_pos e1] at hr; exact mapP_le hu _ _ hr
      · rename_i e1; rw [if_neg e1] at hr
        split
        · rename_i e1; rw [if_pos e1] at hr; exact mapP_le hu _ _ hr
        · rename_i e1; rw [if_neg e1] at hr
          split
          · rename_i e1; rw [if_pos e1] at hr; exact mapP_le hu _ _ hr
          · rename_i e1; rw [if_neg e1] at hr
            split
            · rename_i e1; rw [if_pos e1] at hr; exact mapP_le hu _ _ hr
            · rename_i e1; rw [if_neg e1] at hr
              split
              · rename_i e1; rw [if_pos e1] at hr
                cases hy:pPart e (pF e k .form) s with
                |none=>rw [hy] at hr; cases hr
                |some q=>rw [hy] at hr; rw [pPart_le (pF_le e k .form) _ _ hy]; exact hr
              · rename_i e1; rw [if_neg e1] at hr; exact hr
theorem pF_up {e:PE} {K:PK} {s:PS} {r:PR Fm} {k:Nat} (h:pF e k K s=some r): ∀ m,pF e (k+m) K s=some r
  |0=>h
  |m+1=>pF_le e (k+m) K s r (pF_up h m)
def EvR (e:PE) (K:PK) (s:PS) (r:PR Fm):Prop:= ∃ k0,∀ k,k0≤k→pF e k K s=some r
theorem EvR.at {e:PE} {s:PS} {r:PR Fm} (hs:OkS e s) (h:EvR e .form s r):pF e (fuE e) .form s=some r:=by
  obtain ⟨k0,hk⟩:=h
  obtain ⟨q,hq⟩:=pF_all hs
  have h1:=pF_up hq k0
  have h2:=hk (fuE e+k0) (by omega)
  rw [h1] at h2; rw [hq,h2]
section
variable {e:PE} {s s1 s2 s3:PS} {f g:Fm} {u:Unit}
theorem EvR.bin (h:EvR e .un s (.ok f s1)) (h1:s1.wd≠[85]) (h2:s1.wd≠[82]):EvR e .bin s (.ok f s1):=by
  obtain ⟨k0,hk⟩:=h
  refine ⟨k0+1,fun k hl=>?_⟩
  obtain ⟨k,rfl⟩: ∃ j,k=j+1:=⟨k - 1,by omega⟩
  rw [pF,hk k (by omega)]
  simp only [if_neg h1,if_neg h2]
theorem EvR.conj (h:EvR e .bin s (.ok f s1)) (h1:s1.wd≠[38]):EvR e .conj s (.ok f s1):=by
  obtain ⟨k0,hk⟩:=h
  refine ⟨k0+2,fun k hl=>?_⟩
  obtain ⟨k,rfl⟩: ∃ j,k=j+2:=⟨k - 2,by omega⟩
  rw [pF,pSev,hk (k+1) (by omega)]
  simp only [pMore,if_neg h1]
  rfl
theorem EvR.form (h:EvR e .conj s (.ok f s1)) (h1:s1.wd≠[124]) (h2:s1.wd≠[45,62]):EvR e .form s (.ok f s1):=by
  obtain ⟨k0,hk⟩:=h
  refine ⟨k0+2,fun k hl=>?_⟩
  obtain ⟨k,rfl⟩: ∃ j,k=j+2:=⟨k - 2,by omega⟩
  rw [pF,pSev,hk (k+1) (by omega)]
  simp only [pMore,if_neg h1,finSev,oneOr,List.length_cons,List.length_nil,if_true,if_neg h2]
  rfl
theorem pPart_ok {R:PS→Option (PR Fm)} (hn:pNext e s=.ok u s1) (hd:s1.dep+1≤128) (hr:R {s1 with dep:=s1.dep+1}=some (.ok f s2)):pPart e R s=some (.ok f {s2 with dep:=s2.dep - 1}):=by
  unfold pPart; rw [hn]; simp only; rw [if_neg (by omega),hr]
theorem EvR.u1 {c:UInt8} {op:Int} (hw:s.wd=[c]) (hc:(c=33∧op=4)∨(c=88∧op=7)∨(c=78∧op=9)) (hn:pNext e s=.ok u s1) (hd:s1.dep+1≤128) (h:EvR e .un {s1 with dep:=s1.dep+1} (.ok f s2)):
    EvR e .un s (.ok (.nd op 0 [f]) {s2 with dep:=s2.dep - 1}):=by
  obtain ⟨k0,hk⟩:=h
  refine ⟨k0+1,fun k hl=>?_⟩
  obtain ⟨k,rfl⟩: ∃ j,k=j+1:=⟨k - 1,by omega⟩
  have hp:=pPart_ok hn hd (hk k (by omega))
  rw [pF]
  rcases hc with ⟨rfl,rfl⟩|⟨rfl,rfl⟩|⟨rfl,rfl⟩
  · rw [if_pos hw,hp]; rfl
  · rw [if_neg (by rw [hw]; decide),if_pos hw,hp]; rfl
  · rw [if_neg (by rw [hw]; decide),if_neg (by rw [hw]; decide),if_pos hw,hp]; rfl
theorem EvR.par (hw:s.wd=[40]) (hn:pNext e s=.ok u s1) (hd:s1.dep+1≤128) (h:EvR e .form {s1 with dep:=s1.dep+1} (.ok f s2)) (hw2:s2.wd=[41]) (hn2:pNext e {s2 with dep:=s2.dep - 1}=.ok u s3):EvR e .un s (.ok f s3):=by
  obtain ⟨k0,hk⟩:=h
  refine ⟨k0+1,fun k hl=>?_⟩
  obtain ⟨k,rfl⟩: ∃ j,k=j+1:=⟨k - 1,by omega⟩
  have hp:=pPart_ok hn hd (hk k (by omega))
  rw [pF]
  rw [if_neg (by rw [hw]; decide),if_neg (by rw [hw]; decide),if_neg (by rw [hw]; decide),if_neg (by rw [hw]; decide),if_neg (by rw [hw]; decide),if_pos hw,hp]
  simp only [if_pos hw2,hn2]
theorem EvR.two {c:UInt8} {op:Int} (h0:EvR e .un s (.ok f s1)) (hw:s1.wd=[c]) (hc:(c=85∧op=8)∨(c=82∧op=10)) (hn:pNext e s1=.ok u s2) (hd:s2.dep+1≤128) (h:EvR e .bin {s2 with dep:=s2.dep+1} (.ok g s3)):
    EvR e .bin s (.ok (.nd op 0 [f,g]) {s3 with dep:=s3.dep - 1}):=by
  obtain ⟨k0,hk⟩:=h
  obtain ⟨k1,hk1⟩:=h0
  refine ⟨k0+k1+1,fun k hl=>?_⟩
  obtain ⟨k,rfl⟩: ∃ j,k=j+1:=⟨k - 1,by omega⟩
  have hp:=pPart_ok hn hd (hk k (by omega))
  rw [pF,hk1 k (by omega)]
  simp only
  rcases hc with ⟨rfl,rfl⟩|⟨rfl,rfl⟩
  · rw [if_pos hw,hp]; rfl
  · rw [if_neg (by rw [hw]; decide),if_pos hw,hp]; rfl
def EvM (e:PE) (w:List UInt8) (K:PK) (l:List Fm) (s:PS) (r:PR (List Fm)):Prop:= ∃ k0,∀ k k',k0≤k→k0≤k'→pMore e w (pF e k K) k' l s=some r
theorem EvM.end {w:List UInt8} {K:PK} {l:List Fm} (h:s.wd≠w):EvM e w K l s (.ok l s):=by
  refine ⟨1,fun k k' _ hl=>?_⟩
  obtain ⟨k',rfl⟩: ∃ j,k'=j+1:=⟨k' - 1,by omega⟩
  rw [pMore,if_neg h]
theorem EvM.step {w:List UInt8} {K:PK} {l:List Fm} {r:PR (List Fm)} (hw:s.wd=w) (hn:pNext e s=.ok u s1) (h:EvR e K s1 (.ok f s2)) (hm:EvM e w K (l++[f]) s2 r):EvM e w K l s r:=by
  obtain ⟨k0,hk⟩:=h
  obtain ⟨k1,hk1⟩:=hm
  refine ⟨k0+k1+1,fun k k' h1 hl=>?_⟩
  obtain ⟨k',rfl⟩: ∃ j,k'=j+1:=⟨k' - 1,by omega⟩
  rw [pMore,if_pos hw,hn]
  simp only
  rw [hk k (by omega)]
  exact hk1 k k' (by omega) (by omega)
theorem EvR.sev {op:Int} {K K':PK} {c:UInt8} {l:List Fm} (hK:(K=.bin∧K'=.conj∧c=38∧op=5)∨(K=.conj∧K'=.form∧c=124∧op=6∧s2.wd≠[45,62])) (h:EvR e K s (.ok f s1)) (hm:EvM e [c] K [f] s1 (.ok l s2)) (hl:l.length≠1):EvR e K' s (.ok (.nd op 0 l) s2):=by
  obtain ⟨k0,hk⟩:=h
  obtain ⟨k1,hk1⟩:=hm
  refine ⟨k0+k1+1,fun k h1=>?_⟩
  obtain ⟨k,rfl⟩: ∃ j,k=j+1:=⟨k - 1,by omega⟩
  rcases hK with ⟨rfl,rfl,rfl,rfl⟩|⟨rfl,rfl,rfl,rfl,hw⟩
  · rw [pF,pSev,hk k (by omega)]
    simp only
    rw [hk1 k k (by omega) (by omega),finSev,oneOr,if_neg hl]
  · rw [pF,pSev,hk k (by omega)]
    simp only
    rw [hk1 k k (by omega) (by omega),finSev,oneOr,if_neg hl]
    simp only
    rw [if_neg hw]
theorem EvR.atom (h1: ∀ c:UInt8,s.wd≠[c]):EvR e .un s (pAtom e s):=by
  refine ⟨1,fun k hl=>?_⟩
  obtain ⟨k,rfl⟩: ∃ j,k=j+1:=⟨k - 1,by omega⟩
  rw [pF,if_neg (h1 _),if_neg (h1 _),if_neg (h1 _),if_neg (h1 _),if_neg (h1 _),if_neg (h1 _)]
end
end Go.Proofs.Ytdmcmkccifmofaa
namespace Go.Proofs.Ytdmcmkccifmofaa
open Go
def sk:List UInt8→List UInt8
  |[]=>[]
  |c::l=>if c=32 then sk l else c::l
def tk (l:List UInt8):List UInt8:=tok (sk l)
def tlk (l:List UInt8):List UInt8:=(sk l).drop (tk l).length
def nxL (e:PE) (l:List UInt8) (d:Nat):PS:=⟨e.src.length - (sk l).length,tk l,d⟩
def Lx (l:List UInt8):Prop:=sk l=[]∨tk l≠[]
theorem sk_le: ∀ l:List UInt8,(sk l).length≤l.length∧ ∀ p,skp l p=p+(l.length - (sk l).length)
  |[]=>⟨Nat.le_refl _,fun _=>rfl⟩
  | c :: l => by
    obtain ⟨h1,h2⟩:=sk_le l
    simp only [sk,skp]
    split
    · refine ⟨by simp; omega,fun p=>?_⟩
      rw [h2,List.length_cons]; omega
    · exact ⟨Nat.le_refl _,fun p=>by omega⟩
theorem sk_sfx: ∀ l:List UInt8,sk l <:+l
  |[]=>List.suffix_refl _
  | c :: l => by
    simp only [sk]
    split
    · exact (sk_sfx l).trans (List.suffix_cons c l)
    · exact List.suffix_refl _
theorem sfx_drop {l s:List UInt8} (h:l <:+s):s.drop (s.length - l.length)=l:=(List.suffix_iff_eq_drop.1 h).symm
theorem sfx_app {a b s:List UInt8} (h:a++b <:+s):b <:+s:=(List.suffix_append a b).trans h
theorem sfx_cons {c:UInt8} {b s:List UInt8} (h:c::b <:+s):b <:+s:=(List.suffix_cons c b).trans h
section
variable {e:PE} {l r:List UInt8} {d:Nat}
theorem nx_next (hl:l <:+e.src) (hx:Lx (tlk l)):pNext e (nxL e l d)=.ok () (nxL e (tlk l) d):=by
  have h1:=(sk_sfx l).trans hl
  have hlen:=h1.length_le
  have e1:e.src.drop ((nxL e l d).pos+(nxL e l d).wd.length)=tlk l:=by
    show e.src.drop (e.src.length - (sk l).length+(tk l).length)=(sk l).drop (tk l).length
    rw [← List.drop_drop,sfx_drop h1]
  have h2:tlk l <:+e.src:=(List.drop_suffix _ _).trans h1
  obtain ⟨k1,k2⟩:=sk_le (tlk l)
  have htl:(tlk l).length+(tk l).length=(sk l).length:=by
    show ((sk l).drop (tk l).length).length+_=_
    have:=tok_le (sk l)
    rw [List.length_drop]; unfold tk; omega
  have e2:skp (e.src.drop ((nxL e l d).pos+(nxL e l d).wd.length)) ((nxL e l d).pos+(nxL e l d).wd.length)=e.src.length - (sk (tlk l)).length:=by
    rw [e1,k2]
    show e.src.length - (sk l).length+(tk l).length+_=_
    omega
  have e3:e.src.drop (e.src.length - (sk (tlk l)).length)=sk (tlk l):=sfx_drop ((sk_sfx _).trans h2)
  exact pNext_ok (w:=tk (tlk l)) e2 (by rw [e3]; rfl) (by rw [e3]; exact hx)
theorem sk_32:sk (32::l)=sk l:=by simp [sk]
theorem sk_ne {c:UInt8} (h:c≠32):sk (c::l)=c::l:=by simp [sk,h]
theorem nx_32:nxL e (32::l) d=nxL e l d:=by unfold nxL tk; rw [sk_32]
theorem tk_32:tk (32::l)=tk l:=by unfold tk; rw [sk_32]
theorem Lx_32:Lx (32::l)↔Lx l:=by unfold Lx; rw [sk_32,tk_32]
def Brk (r:List UInt8):Prop:= ∀ c r',r=c::r'→c=32∨c=41
theorem wlen_app: ∀ w:List UInt8,w.all wby=true→Brk r→wlen (w++r)=w.length
  | [], _, h => by
    cases r with
    |nil=>rfl
    | cons c r =>
      rcases h c r rfl with e|e <;> subst e <;> rfl
  | c :: w, hw, h => by
    rw [List.all_cons,Bool.and_eq_true] at hw
    rw [List.cons_append,wlen,if_pos hw.1,wlen_app w hw.2 h]; rfl
theorem prB_ne {c:UInt8} (h:c≠45): ¬prB (c::l) [45,62]=true:=by
  unfold prB
  rw [decide_eq_true_eq]
  rintro ⟨_,h2⟩
  rw [List.length_cons,List.take_succ_cons] at h2
  injection h2 with h2 _
  exact h h2
abbrev spc:List UInt8:=[33,38,124,40,41]
theorem tk_wd {c:UInt8} {w:List UInt8} (h1:c≠45) (h0:c≠32) (h2: ¬0≤Lib.indexByte spc c) (hw:(c::w).all wby=true) (hr:Brk r):tk (c::w++r)=c::w∧tlk (c::w++r)=r:=by
  have h:tk (c::w++r)=c::w:=by
    unfold tk
    rw [List.cons_append,sk_ne h0]
    have:=wlen_app (c::w) hw hr
    rw [List.cons_append] at this
    rw [tok_word (by simp) (prB_ne h1) (by exact h2) this,← List.cons_append,List.take_left' rfl]
  refine ⟨h,?_⟩
  unfold tlk
  rw [h,List.cons_append,sk_ne h0,← List.cons_append,List.drop_left' rfl]
theorem tk_c {c:UInt8} (h1:c≠45) (h0:c≠32) (h2:0≤Lib.indexByte spc c):tk (c::l)=[c]∧tlk (c::l)=l:=by
  have h:tk (c::l)=[c]:=by
    unfold tk
    rw [sk_ne h0,tok_one (by simp) (prB_ne h1) (by exact h2)]; rfl
  refine ⟨h,?_⟩
  unfold tlk
  rw [h,sk_ne h0]; rfl
theorem tk_w1 {c:UInt8} (h1:c≠45) (h0:c≠32) (h2: ¬0≤Lib.indexByte spc c) (hw:wby c=true):tk (c::32::l)=[c]∧tlk (c::32::l)=32::l:=
  tk_wd (c:=c) (w:=[]) (r:=32::l) h1 h0 h2 (by simp [hw]) (by rintro c r' h; injection h with h _; exact .inl h.symm)
theorem Brk_32:Brk (32::l):=by rintro c r' h; injection h with h _; exact .inl h.symm
theorem Brk_41:Brk (41::l):=by rintro c r' h; injection h with h _; exact .inr h.symm
theorem Brk_nil:Brk []:=by rintro c r' h; cases h
def Sta (l:List UInt8):Prop:= ∃ c l',l=c::l'∧c≠45∧c≠32∧(wby c=true∨0≤Lib.indexByte spc c)
theorem Sta.app (h:Sta l) (r:List UInt8):Sta (l++r):=by
  obtain ⟨c,l',rfl,h⟩:=h; exact ⟨c,l'++r,rfl,h⟩
theorem Sta.lx (h:Sta l):Lx l:=by
  obtain ⟨c,l',rfl,h1,h2,h3⟩:=h
  refine .inr ?_
  by_cases q:0≤Lib.indexByte spc c
  · rw [(tk_c h1 h2 q).1]; simp
  · unfold tk
    rw [sk_ne h2,tok_word (by simp) (prB_ne h1) (by exact q) rfl,wlen,if_pos (h3.resolve_right q)]; simp
theorem Sta.c {c:UInt8} (l:List UInt8) (h:c≠45∧c≠32∧(wby c=true∨0≤Lib.indexByte spc c)):Sta (c::l):=⟨c,l,rfl,h⟩
end
section
variable {ia oa:List (List UInt8)} {f:Fm}
abbrev txF (ia oa:List (List UInt8)) (f:Fm):List UInt8:=(shP ia oa f).flatten
abbrev txA (ia oa:List (List UInt8)) (lv:Int) (f:Fm):List UInt8:=(argP lv (shQ ia oa f)).flatten
theorem txA_yes {lv:Int} (h:lv≤stg f.op):txA ia oa lv f=txF ia oa f:=by unfold txA; rw [argQ_yes h]
theorem txA_no {lv:Int} (h: ¬lv≤stg f.op):txA ia oa lv f=40::(txF ia oa f++[41]):=by unfold txA; rw [argP_no (q:=shQ ia oa f) h]; simp
theorem txA_sta {lv:Int} (h:Sta (txF ia oa f)):Sta (txA ia oa lv f):=by
  by_cases q:lv≤stg f.op
  · rw [txA_yes q]; exact h
  · rw [txA_no q]; exact .c _ (by decide)
theorem tx_sev {sep:List UInt8} {lv:Int} {ks:List Fm} {i:Nat} (h:i < ks.length) (h0:i=0):(sevR ia oa sep lv ks i).flatten=txA ia oa lv (nth ks i)++(sevR ia oa sep lv ks (i+1)).flatten:=by
  have:=sevR_0c (ia:=ia) (oa:=oa) (sep:=sep) (lv:=lv) h h0 []; simpa using this
theorem tx_sev1 {sep:List UInt8} {lv:Int} {ks:List Fm} {i:Nat} (h:i < ks.length) (h0: ¬i=0):(sevR ia oa sep lv ks i).flatten=sep++(txA ia oa lv (nth ks i)++(sevR ia oa sep lv ks (i+1)).flatten):=by
  have:=sevR_1c (ia:=ia) (oa:=oa) (sep:=sep) (lv:=lv) h h0 []; simpa using this
theorem tx_un {x:UInt8} {s:List UInt8} (g:Fm) (h:shP ia oa f=(x::s)::argP 4 (shQ ia oa g)):txF ia oa f=x::(s++txA ia oa 4 g):=by unfold txF; rw [h]; rfl
theorem tx_bin {c:UInt8} (g k:Fm) (h:shP ia oa f=argP 4 (shQ ia oa g)++([32,c,32]::argP 3 (shQ ia oa k))):txF ia oa f=txA ia oa 4 g++(32::c::32::txA ia oa 3 k):=by unfold txF; rw [h]; simp
theorem tx_sta (f:Fm):okF f=true→Sta (txF ia oa f):=by
  refine fm_ind (p:=fun f=>okF f=true→Sta (txF ia oa f)) (fun f ih hf=>?_) f
  obtain ⟨hr,hk⟩:=okF_parts hf
  obtain ⟨r1,r2,r3,r4,r5,r6,r7,r8,r9⟩:=rgt_ok hr
  have A: ∀ k lv,k < f.kids.length→Sta (txA ia oa lv (nth f.kids k)):=fun k lv h=>txA_sta (ih k h (hk k h))
  have e:f.op=1∨f.op=2∨f.op=3∨f.op=4∨f.op=5∨f.op=6∨f.op=7∨f.op=8∨f.op=9∨f.op=10:=by omega
  rcases e with e|e|e|e|e|e|e|e|e|e
  · unfold txF; rw [shP_1 e]; exact .c _ (by decide)
  · unfold txF; rw [shP_2 e]; exact .c _ (by decide)
  · unfold txF; rw [shP_3 e]; exact .c _ (by decide)
  · rw [tx_un _ (shP_4 e (by omega))]; exact .c _ (by decide)
  · unfold txF; rw [shP_5 e,tx_sev (by omega) rfl]; exact (A 0 3 (by omega)).app _
  · unfold txF; rw [shP_6 e,tx_sev (by omega) rfl]; exact (A 0 2 (by omega)).app _
  · rw [tx_un _ (shP_7 e (by omega))]; exact .c _ (by decide)
  · rw [tx_bin _ _ (shP_8 e (by omega))]; exact (A 0 4 (by omega)).app _
  · rw [tx_un _ (shP_9 e (by omega))]; exact .c _ (by decide)
  · rw [tx_bin _ _ (shP_10 e (by omega))]; exact (A 0 4 (by omega)).app _
def KL (lv:Int):PK:=if lv=4 then .un else if lv=3 then .bin else if lv=2 then .conj else .form
def Cn (lv:Int) (w:List UInt8):Prop:=(lv≤3→w≠[85]∧w≠[82])∧(lv≤2→w≠[38])∧(lv≤1→w≠[124]∧w≠[45,62])
theorem Cn.mono {lv lv':Int} {w:List UInt8} (h:Cn lv w) (hl:lv≤lv'):Cn lv' w:=⟨fun q=>h.1 (by omega),fun q=>h.2.1 (by omega),fun q=>h.2.2 (by omega)⟩
theorem lift {e:PE} {s s1:PS} {lv lv':Int} (h:EvR e (KL lv) s (.ok f s1)) (hc:Cn lv' s1.wd) (h1:1≤lv') (h2:lv'≤lv) (h3:lv≤4):EvR e (KL lv') s (.ok f s1):=by
  obtain ⟨c1,c2,c3⟩:=hc
  have b:lv'≤3→EvR e .un s (.ok f s1)→EvR e .bin s (.ok f s1):=fun q h=>h.bin (c1 q).1 (c1 q).2
  have c:lv'≤2→EvR e .bin s (.ok f s1)→EvR e .conj s (.ok f s1):=fun q h=>h.conj (c2 q)
  have d:lv'≤1→EvR e .conj s (.ok f s1)→EvR e .form s (.ok f s1):=fun q h=>h.form (c3 q).1 (c3 q).2
  have e1:lv=1∨lv=2∨lv=3∨lv=4:=by omega
  have e2:lv'=1∨lv'=2∨lv'=3∨lv'=4:=by omega
  rcases e1 with rfl|rfl|rfl|rfl <;> rcases e2 with rfl|rfl|rfl|rfl <;>
    first|(exfalso; omega)|exact h|exact b (by omega) h|exact c (by omega) h|exact d (by omega) h|exact c (by omega) (b (by omega) h)|exact d (by omega) (c (by omega) h)|exact d (by omega) (c (by omega) (b (by omega) h))
def RtA (e:PE) (f:Fm):Prop:= ∀ (lv:Int) (r:List UInt8) (d:Nat),1≤lv→lv≤4→txA e.ia e.oa lv f++r <:+e.src→Brk r→Lx r→Cn lv (tk r)→d+2*dp f≤129→EvR e (KL lv) (nxL e (txA e.ia e.oa lv f++r) d) (.ok f (nxL e r d))
def RtF (e:PE) (f:Fm):Prop:= ∀ (r:List UInt8) (d:Nat),txF e.ia e.oa f++r <:+e.src→Brk r→Lx r→Cn (stg f.op) (tk r)→d+2*dp f≤130→EvR e (KL (stg f.op)) (nxL e (txF e.ia e.oa f++r) d) (.ok f (nxL e r d))
theorem stg_rng (o:Int):1≤stg o∧stg o≤4:=by unfold stg; repeat (first|omega|split)
theorem RtA_of {e:PE} (h:RtF e f) (hs:Sta (txF e.ia e.oa f)):RtA e f:=by
  intro lv r d h1 h4 hl hb hx hc hd
  obtain ⟨s1,s4⟩:=stg_rng f.op
  by_cases q:lv≤stg f.op
  · rw [txA_yes q] at hl ⊢
    exact lift (h r d hl hb hx (hc.mono q) (by omega)) hc h1 q s4
  · rw [txA_no q] at hl ⊢
    have e0:40::(txF e.ia e.oa f++[41])++r=40::(txF e.ia e.oa f++41::r):=by simp
    rw [e0] at hl ⊢
    have hdp:1≤dp f:=by cases f; rw [dp]; omega
    obtain ⟨t1,t2⟩:=tk_c (c:=40) (l:=txF e.ia e.oa f++41::r) (by decide) (by decide) (by decide)
    have n1:=nx_next (e:=e) (d:=d) hl (by rw [t2]; exact (hs.app _).lx)
    rw [t2] at n1
    have hl2:=sfx_cons hl
    obtain ⟨t3,t4⟩:=tk_c (c:=41) (l:=r) (by decide) (by decide) (by decide)
    have hl3:=sfx_app hl2
    have hx2:Lx (41::r):=.inr (by rw [t3]; simp)
    have k:=h (41::r) (d+1) hl2 Brk_41 hx2 (by rw [t3]; exact ⟨fun _=>by decide,fun _=>by decide,fun _=>by decide⟩) (by omega)
    have k1:=lift (lv':=1) k (by show Cn 1 (tk (41::r)); rw [t3]; exact ⟨fun _=>by decide,fun _=>by decide,fun _=>by decide⟩) (by omega) s1 s4
    have n2:=nx_next (e:=e) (d:=d) hl3 (by rw [t4]; exact hx)
    rw [t4] at n2
    have:=EvR.par (s:=nxL e (40::(txF e.ia e.oa f++41::r)) d) (s1:=nxL e (txF e.ia e.oa f++41::r) d) (s2:=nxL e (41::r) (d+1)) (s3:=nxL e r d) t1 n1 (by show d+1≤128; omega) k1 t3 n2
    exact lift (lv:=4) this hc h1 h4 (by omega)
end
end Go.Proofs.Ytdmcmkccifmofaa
namespace Go.Proofs.Ytdmcmkccifmofaa
open Go
theorem dpL_nth: ∀ {l:List Fm} {k:Nat},k < l.length→dp (nth l k)≤dpL l
  |[],k,h=>absurd h (Nat.not_lt_zero k)
  |f::l,0,_=>by rw [dpL]; exact Nat.le_max_left _ _
  |f::l,k+1,h=>by rw [dpL]; exact Nat.le_trans (dpL_nth (l:=l) (k:=k) (by simpa using h)) (Nat.le_max_right _ _)
theorem dp_kid {f:Fm} {k:Nat} (h:k < f.kids.length):dp (nth f.kids k)+1≤dp f:=by
  cases f with
  |nd o a l=>rw [dp]; exact Nat.succ_le_succ (dpL_nth h)
theorem lstA1 {α:Type} [Inhabited α] {l:List α} (h:l.length=1):l=[nth l 0]:=by
  match l,h with
  |[a],_=>rfl
theorem lstA2 {α:Type} [Inhabited α] {l:List α} (h:l.length=2):l=[nth l 0,nth l 1]:=by
  match l,h with
  |[a,b],_=>rfl
theorem fm_mk {f:Fm} {o a:Int} {l:List Fm} (h1:f.op=o) (h2:f.arg=a) (h3:f.kids=l):Fm.nd o a l=f:=by subst h1 h2 h3; exact f.eta
theorem prB_app (p r:List UInt8):prB (p++r) p=true:=by
  unfold prB; rw [decide_eq_true_eq]; exact ⟨by simp,List.take_left' rfl⟩
theorem cutP_app (p r:List UInt8):cutP p (p++r)=r:=by unfold cutP; rw [if_pos (prB_app p r),List.drop_left' rfl]
def NmOk (l:List (List UInt8)):Prop:= ∀ k,k < l.length→nmB (nth l k)=true∧dupB l k=false
theorem nm_wby {s:List UInt8} (h:nmB s=true):s.all wby=true:=by
  unfold nmB at h
  rw [Bool.and_eq_true] at h
  rw [List.all_eq_true] at*
  intro c hc
  unfold wby
  rw [h.1 c hc]; rfl
theorem ix_nth {l:List (List UInt8)} {k:Nat} (hn:NmOk l) (hk:k < l.length):ixB l (nth l k)=true∧ixV l (nth l k)=k:=by
  have hm:nth l k∈l:=by rw [← nth_getElem hk]; exact List.getElem_mem hk
  have h0:=idxS_spec.2 hm
  refine ⟨decide_eq_true h0,?_⟩
  rw [dup_ix hk]
  obtain ⟨h1,h2,h3⟩:=idxS_at h0
  have h4:=(hn k hk).2
  unfold dupB at h4
  rw [decide_eq_false_iff_not] at h4
  by_cases q:k < (idxS l (nth l k)).toNat
  · exact absurd rfl (h3 k q)
  · omega
section
variable {e:PE} {f:Fm}
theorem un_ne {c0:UInt8} {w:List UInt8} (h:w≠[]) (c:UInt8):c0::w≠[c]:=by
  intro q; injection q with _ q; exact h q
theorem rt_atom {c:UInt8} {w r:List UInt8} {d:Nat} {g:Fm} (h1:c≠45) (h0:c≠32) (h2: ¬0≤Lib.indexByte spc c) (hw:(c::w).all wby=true) (hne:w≠[]) (hl:c::w++r <:+e.src) (hb:Brk r) (hx:Lx r)
    (ha: ∀ s:PS,s.wd=c::w→pAtom e s=aft e s g):EvR e .un (nxL e (c::w++r) d) (.ok g (nxL e r d)):=by
  obtain ⟨t1,t2⟩:=tk_wd h1 h0 h2 hw hb
  have n1:=nx_next (e:=e) (d:=d) hl (by rw [t2]; exact hx)
  rw [t2] at n1
  have a:=EvR.atom (e:=e) (s:=nxL e (c::w++r) d) (fun q=>by rw [show (nxL e (c::w++r) d).wd=c::w from t1]; exact un_ne hne q)
  rw [ha _ t1,aft_ok n1] at a
  exact a
theorem Cn4 (w:List UInt8):Cn 4 w:=⟨fun h=>absurd h (by decide),fun h=>absurd h (by decide),fun h=>absurd h (by decide)⟩
theorem rt_un {c:UInt8} {op:Int} {sp r:List UInt8} {d:Nat} {g:Fm} (hc:(c=33∧op=4∧sp=[])∨(c=88∧op=7∧sp=[32])∨(c=78∧op=9∧sp=[32])) (hg:RtA e g) (hs:Sta (txF e.ia e.oa g))
    (hl:c::(sp++txA e.ia e.oa 4 g)++r <:+e.src) (hb:Brk r) (hx:Lx r) (hd:d+2*dp g≤128):EvR e .un (nxL e (c::(sp++txA e.ia e.oa 4 g)++r) d) (.ok (.nd op 0 [g]) (nxL e r d)):=by
  have hdp:1≤dp g:=by cases g; rw [dp]; omega
  have hA:=(txA_sta (lv:=4) hs).app r
  have hc2:(c=33∧op=4)∨(c=88∧op=7)∨(c=78∧op=9):=by
    rcases hc with ⟨a,b,_⟩|⟨a,b,_⟩|⟨a,b,_⟩
    · exact .inl ⟨a,b⟩
    · exact .inr (.inl ⟨a,b⟩)
    · exact .inr (.inr ⟨a,b⟩)
  have key:tk (c::(sp++txA e.ia e.oa 4 g)++r)=[c]∧tlk (c::(sp++txA e.ia e.oa 4 g)++r)=sp++(txA e.ia e.oa 4 g++r):=by
    rcases hc with ⟨rfl,rfl,rfl⟩|⟨rfl,rfl,rfl⟩|⟨rfl,rfl,rfl⟩
    · exact tk_c (by decide) (by decide) (by decide)
    · exact tk_w1 (by decide) (by decide) (by decide) (by decide)
    · exact tk_w1 (by decide) (by decide) (by decide) (by decide)
  have hsp: ∀ x,nxL e (sp++x) d=nxL e x d∧(Lx (sp++x)↔Lx x):=by
    intro x
    rcases hc with ⟨_,_,rfl⟩|⟨_,_,rfl⟩|⟨_,_,rfl⟩
    · exact ⟨rfl,Iff.rfl⟩
    · exact ⟨nx_32,Lx_32⟩
    · exact ⟨nx_32,Lx_32⟩
  obtain ⟨t1,t2⟩:=key
  have n1:=nx_next (e:=e) (d:=d) hl (by rw [t2]; exact (hsp _).2.2 hA.lx)
  rw [t2,(hsp _).1] at n1
  have hl2:txA e.ia e.oa 4 g++r <:+e.src:=by
    have:c::(sp++txA e.ia e.oa 4 g)++r=(c::sp)++(txA e.ia e.oa 4 g++r):=by simp
    rw [this] at hl; exact sfx_app hl
  have k:=hg 4 r (d+1) (by decide) (by decide) hl2 hb hx (Cn4 _) (by omega)
  exact EvR.u1 (s1:=nxL e (txA e.ia e.oa 4 g++r) d) (s2:=nxL e r (d+1)) t1 hc2 n1 (by show d+1≤128; omega) k
theorem rt_two {c:UInt8} {op:Int} {r:List UInt8} {d:Nat} {g k:Fm} (hc:(c=85∧op=8)∨(c=82∧op=10)) (hg:RtA e g) (hk:RtA e k) (hs:Sta (txF e.ia e.oa k))
    (hl:txA e.ia e.oa 4 g++(32::c::32::txA e.ia e.oa 3 k)++r <:+e.src) (hb:Brk r) (hx:Lx r) (hn:Cn 3 (tk r)) (hd:d+2*dp g≤128) (hd2:d+2*dp k≤128):
    EvR e .bin (nxL e (txA e.ia e.oa 4 g++(32::c::32::txA e.ia e.oa 3 k)++r) d) (.ok (.nd op 0 [g,k]) (nxL e r d)):=by
  have hdp:1≤dp g:=by cases g; rw [dp]; omega
  have e0:txA e.ia e.oa 4 g++(32::c::32::txA e.ia e.oa 3 k)++r=txA e.ia e.oa 4 g++(32::(c::(32::(txA e.ia e.oa 3 k++r)))):=by simp
  rw [e0] at hl ⊢
  have key:tk (c::32::(txA e.ia e.oa 3 k++r))=[c]∧tlk (c::32::(txA e.ia e.oa 3 k++r))=32::(txA e.ia e.oa 3 k++r):=by
    rcases hc with ⟨rfl,rfl⟩|⟨rfl,rfl⟩
    · exact tk_w1 (by decide) (by decide) (by decide) (by decide)
    · exact tk_w1 (by decide) (by decide) (by decide) (by decide)
  obtain ⟨t1,t2⟩:=key
  have hl2:=sfx_app hl
  have hl3:=sfx_cons hl2
  have hl4:=sfx_cons (sfx_cons hl3)
  have hA:=(txA_sta (lv:=3) hs).app r
  have k0:=hg 4 _ d (by decide) (by decide) hl Brk_32 (Lx_32.2 (.inr (by rw [t1]; simp))) (Cn4 _) (by omega)
  rw [nx_32] at k0
  have n1:=nx_next (e:=e) (d:=d) hl3 (by rw [t2]; exact Lx_32.2 hA.lx)
  rw [t2,nx_32] at n1
  have k1:=hk 3 r (d+1) (by decide) (by decide) hl4 hb hx hn (by omega)
  exact EvR.two (s1:=nxL e (c::32::(txA e.ia e.oa 3 k++r)) d) (s2:=nxL e (txA e.ia e.oa 3 k++r) d) (s3:=nxL e r (d+1)) k0 t1 hc n1 (by show d+1≤128; omega) k1
theorem rt_more {c : UInt8} {lv : Int} {K : PK} {ks : List Fm} {r : List UInt8} {d : Nat} (hc : c = 38 ∧ lv = 3 ∨ c = 124 ∧ lv = 2) (hK : K = KL lv) (hk : ∀ k, k < ks.length → RtA e (nth ks k) ∧ Sta (txF e.ia e.oa (nth ks k)) ∧ d + 2 * dp (nth ks k) ≤ 129)
    (hb:Brk r) (hx:Lx r) (hn:Cn (lv - 1) (tk r)): ∀ (n i:Nat),ks.length - i=n→0 < i→i≤ks.length→(sevR e.ia e.oa [32,c,32] lv ks i).flatten++r <:+e.src→
    EvM e [c] K (ks.take i) (nxL e ((sevR e.ia e.oa [32,c,32] lv ks i).flatten++r) d) (.ok ks (nxL e r d))∧Brk ((sevR e.ia e.oa [32,c,32] lv ks i).flatten++r)∧Lx ((sevR e.ia e.oa [32,c,32] lv ks i).flatten++r)∧Cn lv (tk ((sevR e.ia e.oa [32,c,32] lv ks i).flatten++r)):=by
  have hw:tk r≠[c]:=by
    rcases hc with ⟨rfl,rfl⟩|⟨rfl,rfl⟩
    · exact hn.2.1 (by decide)
    · exact (hn.2.2 (by decide)).1
  intro n
  induction n with
  | zero =>
    intro i hi h0 hle hl
    have e1:(sevR e.ia e.oa [32,c,32] lv ks i).flatten++r=r:=by rw [sevR_end (by omega)]; rfl
    rw [e1]
    refine ⟨?_,hb,hx,hn.mono (by omega)⟩
    rw [List.take_of_length_le (by omega)]
    exact EvM.end hw
  | succ n ih =>
    intro i hi h0 hle hl
    have hlt:i < ks.length:=by omega
    have e1:(sevR e.ia e.oa [32,c,32] lv ks i).flatten++r=32::(c::(32::(txA e.ia e.oa lv (nth ks i)++((sevR e.ia e.oa [32,c,32] lv ks (i+1)).flatten++r)))):=by
      rw [tx_sev1 hlt (by omega)]; simp
    rw [e1] at hl ⊢
    have hl1:=sfx_cons hl
    have hl2:=sfx_cons hl1
    have hl3:=sfx_cons hl2
    obtain ⟨m1,m2,m3,m4⟩:=ih (i+1) (by omega) (by omega) (by omega) (sfx_app hl3)
    generalize hR:(sevR e.ia e.oa [32,c,32] lv ks (i+1)).flatten++r=R at*
    obtain ⟨g1,g2,g3⟩:=hk i hlt
    have key:tk (c::32::(txA e.ia e.oa lv (nth ks i)++R))=[c]∧tlk (c::32::(txA e.ia e.oa lv (nth ks i)++R))=32::(txA e.ia e.oa lv (nth ks i)++R):=by
      rcases hc with ⟨rfl,rfl⟩|⟨rfl,rfl⟩
      · exact tk_c (by decide) (by decide) (by decide)
      · exact tk_c (by decide) (by decide) (by decide)
    obtain ⟨t1,t2⟩:=key
    have hA:=(txA_sta (lv:=lv) g2).app R
    have n1:=nx_next (e:=e) (d:=d) hl1 (by rw [t2]; exact Lx_32.2 hA.lx)
    rw [t2,nx_32] at n1
    have k0:=g1 lv R d (by omega) (by omega) hl3 m2 m3 m4 g3
    rw [← hK] at k0
    refine ⟨?_,Brk_32,Lx_32.2 (.inr (by rw [t1]; simp)),?_⟩
    · rw [nx_32]
      refine EvM.step (s1:=nxL e (txA e.ia e.oa lv (nth ks i)++R) d) (s2:=nxL e R d) t1 n1 k0 ?_
      have:ks.take i++[nth ks i]=ks.take (i+1):=by
        have q:=mapTake (g:=id) hlt
        simpa using q.symm
      rw [this]; exact m1
    · rw [tk_32,t1]
      rcases hc with ⟨rfl,rfl⟩|⟨rfl,rfl⟩
      · exact ⟨fun _=>by decide,fun h=>absurd h (by decide),fun h=>absurd h (by decide)⟩
      · exact ⟨fun _=>by decide,fun _=>by decide,fun h=>absurd h (by decide)⟩
theorem rt_sev {c:UInt8} {lv op:Int} {K K':PK} {ks:List Fm} {r:List UInt8} {d:Nat} (hc:c=38∧lv=3∧op=5∨c=124∧lv=2∧op=6) (hK:K=KL lv) (hK':K'=KL (lv - 1)) (h2:2≤ks.length) (hk: ∀ k,k < ks.length→RtA e (nth ks k)∧Sta (txF e.ia e.oa (nth ks k))∧d+2*dp (nth ks k)≤129)
    (hl:(sevR e.ia e.oa [32,c,32] lv ks 0).flatten++r <:+e.src) (hb:Brk r) (hx:Lx r) (hn:Cn (lv - 1) (tk r)):EvR e K' (nxL e ((sevR e.ia e.oa [32,c,32] lv ks 0).flatten++r) d) (.ok (.nd op 0 ks) (nxL e r d)):=by
  have e1:(sevR e.ia e.oa [32,c,32] lv ks 0).flatten++r=txA e.ia e.oa lv (nth ks 0)++((sevR e.ia e.oa [32,c,32] lv ks 1).flatten++r):=by rw [tx_sev (by omega) rfl]; simp
  rw [e1] at hl ⊢
  have hc2:c=38∧lv=3∨c=124∧lv=2:=by
    rcases hc with ⟨a,b,_⟩|⟨a,b,_⟩
    · exact .inl ⟨a,b⟩
    · exact .inr ⟨a,b⟩
  obtain ⟨m1,m2,m3,m4⟩:=rt_more hc2 hK hk hb hx hn _ 1 rfl (by omega) (by omega) (sfx_app hl)
  obtain ⟨g1,g2,g3⟩:=hk 0 (by omega)
  have k0:=g1 lv _ d (by omega) (by omega) hl m2 m3 m4 g3
  rw [← hK] at k0
  have e2:ks.take 1=[nth ks 0]:=by
    match ks,h2 with
    |a::_,_=>rfl
  rw [e2] at m1
  refine EvR.sev (K:=K) (s2:=nxL e r d) ?_ k0 m1 (by omega)
  rcases hc with ⟨rfl,rfl,rfl⟩|⟨rfl,rfl,rfl⟩
  · exact .inl ⟨hK,hK',rfl,rfl⟩
  · exact .inr ⟨hK,hK',rfl,rfl,(hn.2.2 (by decide)).2⟩
theorem rt_all (hi:NmOk e.ia) (ho:NmOk e.oa) (f:Fm):okF f=true→nmd ((e.ia.length:Nat):Int) ((e.oa.length:Nat):Int) f=true→RtF e f:=by
  refine fm_ind (p:=fun f=>okF f=true→nmd ((e.ia.length:Nat):Int) ((e.oa.length:Nat):Int) f=true→RtF e f) (fun f ih hf hnm=>?_) f
  obtain ⟨hr,hk⟩:=okF_parts hf
  obtain ⟨r1,r2,r3,r4,r5,r6,r7,r8,r9⟩:=rgt_ok hr
  have S: ∀ k,k < f.kids.length→Sta (txF e.ia e.oa (nth f.kids k)):=fun k h=>tx_sta _ (hk k h)
  have A: ∀ k,k < f.kids.length→RtA e (nth f.kids k):=fun k h=>RtA_of (ih k h (hk k h) (nmd_kid hnm h)) (S k h)
  have Dp: ∀ k,k < f.kids.length→dp (nth f.kids k)+1≤dp f:=fun k h=>dp_kid h
  obtain ⟨a2,a3⟩:=nmd_arg hnm
  intro r d hl hb hx hc hd
  have e:f.op=1∨f.op=2∨f.op=3∨f.op=4∨f.op=5∨f.op=6∨f.op=7∨f.op=8∨f.op=9∨f.op=10:=by omega
  rcases e with o|o|o|o|o|o|o|o|o|o
  · have t:txF e.ia e.oa f=wTr:=by unfold txF; rw [shP_1 o]; rfl
    rw [t] at hl ⊢; rw [o]
    have h:=rt_atom (e:=e) (c:=116) (w:=[114,117,101]) (r:=r) (d:=d) (g:=.nd 1 0 []) (by decide) (by decide) (by decide) (by decide) (by decide) hl hb hx fun s hs=>pAtom_tr (by rw [hs]; decide) (by rw [hs]; decide) (by rw [hs]; decide) hs
    rw [fm_mk o (r7 (by omega)) (List.length_eq_zero_iff.1 (r3 (by omega)))] at h
    exact h
  · have hlt:f.arg.toNat < e.ia.length:=by have:=a2 o; have:=r8 o; omega
    have t:txF e.ia e.oa f=105::([110,58]++nth e.ia f.arg.toNat):=by unfold txF; rw [shP_2 o]; simp
    rw [t] at hl ⊢; rw [o]
    obtain ⟨i1,i2⟩:=ix_nth hi hlt
    have hw:=nm_wby (hi _ hlt).1
    have h:=rt_atom (e:=e) (c:=105) (w:=[110,58]++nth e.ia f.arg.toNat) (r:=r) (d:=d) (g:=.nd 2 f.arg []) (by decide) (by decide) (by decide) (by rw [List.all_cons,List.all_append,hw]; decide) (by simp) hl hb hx fun s hs=>by
      have hs':s.wd=wIn++nth e.ia f.arg.toNat:=hs
      have hct:cutP wIn s.wd=nth e.ia f.arg.toNat:=by rw [hs']; exact cutP_app _ _
      rw [pAtom_in1 (by rw [hs']; exact prB_app _ _) (by rw [hct]; exact i1),hct,i2,Int.toNat_of_nonneg (r8 o).1]
    rw [fm_mk o rfl (List.length_eq_zero_iff.1 (r3 (by omega)))] at h
    exact h
  · have hlt:f.arg.toNat < e.oa.length:=by have:=a3 o; have:=r9 o; omega
    have t:txF e.ia e.oa f=111::([117,116,58]++nth e.oa f.arg.toNat):=by unfold txF; rw [shP_3 o]; simp
    rw [t] at hl ⊢; rw [o]
    obtain ⟨i1,i2⟩:=ix_nth ho hlt
    have hw:=nm_wby (ho _ hlt).1
    have h:=rt_atom (e:=e) (c:=111) (w:=[117,116,58]++nth e.oa f.arg.toNat) (r:=r) (d:=d) (g:=.nd 3 f.arg []) (by decide) (by decide) (by decide) (by rw [List.all_cons,List.all_append,hw]; decide) (by simp) hl hb hx fun s hs=>by
      have hs':s.wd=wOut++nth e.oa f.arg.toNat:=hs
      have hct:cutP wOut s.wd=nth e.oa f.arg.toNat:=by rw [hs']; exact cutP_app _ _
      rw [pAtom_out1 (by rw [hs']; unfold prB; simp) (by rw [hs']; exact prB_app _ _) (by rw [hct]; exact i1),hct,i2,Int.toNat_of_nonneg (r9 o).1]
    rw [fm_mk o rfl (List.length_eq_zero_iff.1 (r3 (by omega)))] at h
    exact h
  · have hl1:=r4 (.inl o)
    have q:=Dp 0 (by omega)
    rw [tx_un _ (shP_4 o (by omega))] at hl ⊢; rw [o]
    have h:=rt_un (c:=33) (op:=4) (sp:=[]) (d:=d) (.inl ⟨rfl,rfl,rfl⟩) (A 0 (by omega)) (S 0 (by omega)) hl hb hx (by omega)
    rw [fm_mk o (r7 (by omega)) (lstA1 hl1)] at h
    exact h
  · have t:txF e.ia e.oa f=(sevR e.ia e.oa [32,38,32] 3 f.kids 0).flatten:=by unfold txF; rw [shP_5 o]
    rw [t] at hl ⊢
    rw [o] at hc ⊢
    have h:=rt_sev (c:=38) (lv:=3) (op:=5) (K:=.bin) (K':=.conj) (ks:=f.kids) (d:=d) (.inl ⟨rfl,rfl,rfl⟩) rfl rfl (r5 (.inl o)) (fun k h=>⟨A k h,S k h,by have:=Dp k h; omega⟩) hl hb hx hc
    rw [fm_mk o (r7 (by omega)) rfl] at h
    exact h
  · have t:txF e.ia e.oa f=(sevR e.ia e.oa [32,124,32] 2 f.kids 0).flatten:=by unfold txF; rw [shP_6 o]
    rw [t] at hl ⊢
    rw [o] at hc ⊢
    have h:=rt_sev (c:=124) (lv:=2) (op:=6) (K:=.conj) (K':=.form) (ks:=f.kids) (d:=d) (.inr ⟨rfl,rfl,rfl⟩) rfl rfl (r5 (.inr o)) (fun k h=>⟨A k h,S k h,by have:=Dp k h; omega⟩) hl hb hx hc
    rw [fm_mk o (r7 (by omega)) rfl] at h
    exact h
  · have hl1:=r4 (.inr (.inl o))
    have q:=Dp 0 (by omega)
    rw [tx_un _ (shP_7 o (by omega))] at hl ⊢; rw [o]
    have h:=rt_un (c:=88) (op:=7) (sp:=[32]) (d:=d) (.inr (.inl ⟨rfl,rfl,rfl⟩)) (A 0 (by omega)) (S 0 (by omega)) hl hb hx (by omega)
    rw [fm_mk o (r7 (by omega)) (lstA1 hl1)] at h
    exact h
  · have hl1:=r6 (.inl o)
    have q:=Dp 0 (by omega)
    have q1:=Dp 1 (by omega)
    rw [tx_bin _ _ (shP_8 o (by omega))] at hl ⊢; rw [o] at hc ⊢
    have h:=rt_two (c:=85) (op:=8) (d:=d) (.inl ⟨rfl,rfl⟩) (A 0 (by omega)) (A 1 (by omega)) (S 1 (by omega)) hl hb hx hc (by omega) (by omega)
    rw [fm_mk o (r7 (by omega)) (lstA2 hl1)] at h
    exact h
  · have hl1:=r4 (.inr (.inr o))
    have q:=Dp 0 (by omega)
    rw [tx_un _ (shP_9 o (by omega))] at hl ⊢; rw [o]
    have h:=rt_un (c:=78) (op:=9) (sp:=[32]) (d:=d) (.inr (.inr ⟨rfl,rfl,rfl⟩)) (A 0 (by omega)) (S 0 (by omega)) hl hb hx (by omega)
    rw [fm_mk o (r7 (by omega)) (lstA1 hl1)] at h
    exact h
  · have hl1:=r6 (.inr o)
    have q:=Dp 0 (by omega)
    have q1:=Dp 1 (by omega)
    rw [tx_bin _ _ (shP_10 o (by omega))] at hl ⊢; rw [o] at hc ⊢
    have h:=rt_two (c:=82) (op:=10) (d:=d) (.inr ⟨rfl,rfl⟩) (A 0 (by omega)) (A 1 (by omega)) (S 1 (by omega)) hl hb hx hc (by omega) (by omega)
    rw [fm_mk o (r7 (by omega)) (lstA2 hl1)] at h
    exact h
end
theorem avs_nm {ia oa:List (List UInt8)} (h:avs ia oa=0):NmOk ia∧NmOk oa:=by
  unfold avs at h
  split at h
  · rename_i q; exact absurd h q
  · rename_i q
    have q':aval ia=0:=by omega
    exact ⟨(aval_ok q').2.2,(aval_ok h).2.2⟩
theorem trip {ia oa:List (List UInt8)} {f:Fm} (ha:avs ia oa=0) (hf:fval f=0) (hnm:nmd ((ia.length:Nat):Int) ((oa.length:Nat):Int) f=true) (hn: ∀ k,k < ia.length→(nth ia k).length≤100) (hm: ∀ k,k < oa.length→(nth oa k).length≤100):prs ia oa (txF ia oa f)=(f,0,0):=by
  obtain ⟨n1,n2⟩:=avs_nm ha
  obtain ⟨v1,v2,v3⟩:=(fval_iff f).1 hf
  have hlen:=shP_len hf hnm hn hm
  let e:PE:=⟨ia,oa,txF ia oa f⟩
  have hs:=tx_sta (ia:=ia) (oa:=oa) f v1
  have h0:OkS e ⟨0,[],0⟩:=⟨hlen,Nat.zero_le _,Nat.zero_le _⟩
  have hx:=hs.lx
  have hp:pNext e ⟨0,[],0⟩=.ok () (nxL e (txF ia oa f) 0):=by
    obtain ⟨k1,k2⟩:=sk_le (txF ia oa f)
    have e2:skp (e.src.drop 0) 0=e.src.length - (sk (txF ia oa f)).length:=by show skp (txF ia oa f) 0=_; rw [k2,Nat.zero_add]
    have e3:e.src.drop (e.src.length - (sk (txF ia oa f)).length)=sk (txF ia oa f):=sfx_drop (sk_sfx _)
    exact pNext_ok (s:=⟨0,[],0⟩) (w:=tk (txF ia oa f)) e2 (by rw [e3]; rfl) (by rw [e3]; exact hx)
  have hk:=(pNext_inv h0 hp).1
  have hc1:Cn 1 (tk []):=⟨fun _=>by decide,fun _=>by decide,fun _=>by decide⟩
  have hr:=rt_all (e:=e) n1 n2 f v1 hnm [] 0 (by rw [List.append_nil]; exact List.suffix_refl _) Brk_nil (.inl rfl) (hc1.mono (stg_rng _).1) (by omega)
  rw [List.append_nil] at hr
  have hr2:=lift (lv':=1) hr hc1 (by decide) (stg_rng _).1 (stg_rng _).2
  have hF:=EvR.at hk hr2
  unfold prs
  rw [if_neg (by omega),if_neg (by show ¬1048576 < (txF ia oa f).length; exact Nat.not_lt.2 hlen)]
  show prsE e=_
  unfold prsE
  rw [hp]
  simp only
  rw [hF]
  simp only
  rw [if_neg (show ¬(nxL e [] 0).wd≠[] from fun q=>q rfl),if_neg (by omega)]
end Go.Proofs.Ytdmcmkccifmofaa
namespace Go.Proofs.Ytdmcmkccifmofaa
open Go
section
variable {e:PE}
abbrev Nm (e:PE) (f:Fm):Prop:=nmd ((e.ia.length:Nat):Int) ((e.oa.length:Nat):Int) f=true
theorem nm_nd {o a:Int} {l:List Fm} (h1:o≠2) (h2:o≠3) (h: ∀ g∈l,Nm e g):Nm e (.nd o a l):=by
  unfold Nm
  rw [nmd_go (f:=.nd o a l) (by
    rintro (⟨q,_⟩|⟨q,_⟩)
    · exact h1 q
    · exact h2 q)]
  exact List.all_eq_true.2 fun g hg=>h g hg
theorem ix_lt {l:List (List UInt8)} {s:List UInt8} (h:ixB l s=true):ixV l s < (l.length:Nat):=by
  unfold ixB at h
  have h:=of_decide_eq_true h
  unfold ixV
  rw [if_pos h]
  have:=(idxS_at h).1
  omega
theorem nm_in {s:List UInt8} (h:ixB e.ia s=true):Nm e (.nd 2 (ixV e.ia s) []):=by
  unfold Nm
  have:=ix_lt h
  rw [nmd_go (f := .nd 2 (ixV e.ia s) []) (by
    rintro (⟨_,q⟩|⟨q,_⟩)
    · have q':((e.ia.length:Nat):Int)≤ixV e.ia s:=q
      omega
    · exact absurd (show (2:Int)=3 from q) (by decide))]
  rfl
theorem nm_out {s:List UInt8} (h:ixB e.oa s=true):Nm e (.nd 3 (ixV e.oa s) []):=by
  unfold Nm
  have:=ix_lt h
  rw [nmd_go (f := .nd 3 (ixV e.oa s) []) (by
    rintro (⟨q,_⟩|⟨_,q⟩)
    · exact absurd (show (3:Int)=2 from q) (by decide)
    · have q':((e.oa.length:Nat):Int)≤ixV e.oa s:=q
      omega)]
  rfl
def NmR (e:PE) (R:PS→Option (PR Fm)):Prop:= ∀ s f s1,R s=some (.ok f s1)→Nm e f
theorem pPart_nm {R : PS → Option (PR Fm)} (h : NmR e R) : NmR e (pPart e R) := by
  intro s f s1 hr
  unfold pPart at hr
  cases hx:pNext e s with
  |er a x=>rw [hx] at hr; cases hr
  | ok u s2 =>
    rw [hx] at hr
    simp only at hr
    split at hr
    · cases hr
    · cases hy:R {s2 with dep:=s2.dep+1} with
      |none=>rw [hy] at hr; cases hr
      | some q =>
        rw [hy] at hr
        cases q with
        |er a x=>cases hr
        |ok g s3=>cases hr; exact h _ _ _ hy
theorem mapP_nm {g:Fm→Fm} {R:PS→Option (PR Fm)} (h:NmR e R) (hg: ∀ f,Nm e f→Nm e (g f)):NmR e fun s=>mapP g (R s):=by
  intro s f s1 hr
  simp only at hr
  cases hy:R s with
  |none=>rw [hy] at hr; cases hr
  | some q =>
    rw [hy] at hr
    cases q with
    |er a x=>cases hr
    |ok k s3=>cases hr; exact hg _ (h _ _ _ hy)
theorem pMore_nm {w : List UInt8} {R : PS → Option (PR Fm)} (h : NmR e R) : ∀ (k : Nat) (l : List Fm) (s : PS) (l1 : List Fm) (s1 : PS), (∀ g ∈ l, Nm e g) → pMore e w R k l s = some (.ok l1 s1) → ∀ g ∈ l1, Nm e g
  |0,_,_,_,_,_,hr=>by cases hr
  | k + 1, l, s, l1, s1, hl, hr => by
    rw [pMore] at hr
    split at hr
    · cases hx : pNext e s with
      |er a x=>rw [hx] at hr; cases hr
      | ok u s2 =>
        rw [hx] at hr
        simp only at hr
        cases hy:R s2 with
        |none=>rw [hy] at hr; cases hr
        | some q =>
          rw [hy] at hr
          cases q with
          |er a x=>cases hr
          | ok f s3 =>
            refine pMore_nm h k _ _ _ _ (fun g hg=>?_) hr
            rcases List.mem_append.1 hg with hg|hg
            · exact hl g hg
            · rw [List.mem_singleton] at hg; subst hg; exact h _ _ _ hy
    · cases hr; exact hl
theorem nth0_mem {l:List Fm} (h:l.length=1):nth l 0∈l:=by
  match l,h with
  |[a],_=>exact List.mem_singleton.2 rfl
theorem pSev_nm {w : List UInt8} {op : Int} {R : PS → Option (PR Fm)} {k : Nat} (h : NmR e R) (h2 : op ≠ 2) (h3 : op ≠ 3) : NmR e (pSev e w op R k) := by
  intro s f s1 hr
  unfold pSev at hr
  cases hy:R s with
  |none=>rw [hy] at hr; cases hr
  | some q =>
    rw [hy] at hr
    cases q with
    |er a x=>cases hr
    | ok g s2 =>
      simp only at hr
      cases hz:pMore e w R k [g] s2 with
      |none=>rw [hz] at hr; cases hr
      | some q =>
        rw [hz] at hr
        cases q with
        |er a x=>cases hr
        | ok l s3 =>
          have hl:=pMore_nm h k _ _ _ _ (fun x hx=>by rw [List.mem_singleton] at hx; subst hx; exact h _ _ _ hy) hz
          cases hr
          unfold oneOr
          split
          · rename_i q; exact hl _ (nth0_mem q)
          · exact nm_nd h2 h3 hl
theorem aft_nm {s s1:PS} {f g:Fm} (h:aft e s g=.ok f s1) (hg:Nm e g):Nm e f:=by
  cases hx:pNext e s with
  |er a x=>rw [aft_er hx] at h; cases h
  |ok u s2=>rw [aft_ok hx] at h; cases h; exact hg
theorem nm_tr:Nm e (.nd 1 0 []):=nm_nd (by decide) (by decide) fun _ h=>absurd h (List.not_mem_nil)
theorem nm_fa:Nm e (.nd 4 0 [.nd 1 0 []]):=nm_nd (by decide) (by decide) fun g h=>by rw [List.mem_singleton] at h; subst h; exact nm_tr
theorem pAtom_nm {s s1 : PS} {f : Fm} (h : pAtom e s = .ok f s1) : Nm e f := by
  by_cases q1:prB s.wd wIn=true
  · by_cases d:ixB e.ia (cutP wIn s.wd)=true
    · rw [pAtom_in1 q1 d] at h; exact aft_nm h (nm_in d)
    · rw [pAtom_in0 q1 d] at h; cases h
  · by_cases q2:prB s.wd wOut=true
    · by_cases d:ixB e.oa (cutP wOut s.wd)=true
      · rw [pAtom_out1 q1 q2 d] at h; exact aft_nm h (nm_out d)
      · rw [pAtom_out0 q1 q2 d] at h; cases h
    · by_cases q3:s.wd=wFa
      · rw [pAtom_fa q1 q2 q3] at h; exact aft_nm h nm_fa
      · by_cases q4:s.wd=wTr
        · rw [pAtom_tr q1 q2 q3 q4] at h; exact aft_nm h nm_tr
        · rw [pAtom_no q1 q2 q3 q4] at h; cases h
theorem nm_1 {o:Int} (h1:o≠2) (h2:o≠3) (f:Fm) (h:Nm e f):Nm e (.nd o 0 [f]):=nm_nd h1 h2 fun g hg=>by rw [List.mem_singleton] at hg; subst hg; exact h
theorem nm_2 {o:Int} (h1:o≠2) (h2:o≠3) {f:Fm} (hf:Nm e f) (g:Fm) (hg:Nm e g):Nm e (.nd o 0 [f,g]):=nm_nd h1 h2 fun k hk=>by
  simp only [List.mem_cons,List.not_mem_nil,or_false] at hk
  rcases hk with rfl|rfl
  · exact hf
  · exact hg
theorem pF_nm : ∀ (k : Nat) (K : PK), NmR e (pF e k K)
  |0,_=>fun _ _ _ h=>by cases h
  | k + 1, .form => fun s f s1 h => by
    rw [pF] at h
    cases hx:pSev e [124] 6 (pF e k .conj) k s with
    |none=>rw [hx] at h; cases h
    | some r =>
      rw [hx] at h
      cases r with
      |er a x=>cases h
      | ok g s2 =>
        have k1:=pSev_nm (pF_nm k .conj) (by decide) (by decide) _ _ _ hx
        simp only at h
        split at h
        · exact mapP_nm (pPart_nm (pF_nm k .form)) (fun f hf=>nm_2 (by decide) (by decide) (nm_1 (by decide) (by decide) _ k1) f hf) _ _ _ h
        · cases h; exact k1
  |k+1,.conj=>fun s f s1 h=>by rw [pF] at h; exact pSev_nm (pF_nm k .bin) (by decide) (by decide) _ _ _ h
  | k + 1, .bin => fun s f s1 h => by
    rw [pF] at h
    cases hx:pF e k .un s with
    |none=>rw [hx] at h; cases h
    | some r =>
      rw [hx] at h
      cases r with
      |er a x=>cases h
      | ok g s2 =>
        have k1:=pF_nm k .un _ _ _ hx
        simp only at h
        split at h
        · exact mapP_nm (pPart_nm (pF_nm k .bin)) (nm_2 (by decide) (by decide) k1) _ _ _ h
        · split at h
          · exact mapP_nm (pPart_nm (pF_nm k .bin)) (nm_2 (by decide) (by decide) k1) _ _ _ h
          · cases h; exact k1
  | k + 1, .un => fun s f s1 h => by
    rw [pF] at h
    have hu:=pPart_nm (e:=e) (pF_nm k .un)
    split at h
    · exact mapP_nm hu (nm_1 (by decide) (by decide)) _ _ _ h
    · split at h
      · exact mapP_nm hu (nm_1 (by decide) (by decide)) _ _ _ h
      · split at h
        · exact mapP_nm hu (nm_1 (by decide) (by decide)) _ _ _ h
        · split at h
          · exact mapP_nm hu (nm_2 (by decide) (by decide) nm_tr) _ _ _ h
          · split at h
            · exact mapP_nm hu (nm_2 (by decide) (by decide) nm_fa) _ _ _ h
            · split at h
              · cases hx : pPart e (pF e k .form) s with
                |none=>rw [hx] at h; cases h
                | some r =>
                  rw [hx] at h
                  cases r with
                  |er a x=>cases h
                  | ok g s2 =>
                    have k1:=pPart_nm (pF_nm k .form) _ _ _ hx
                    simp only at h
                    split at h
                    · cases hy:pNext e s2 with
                      |er a x=>rw [hy] at h; cases h
                      |ok u s3=>rw [hy] at h; cases h; exact k1
                    · cases h
              · injection h with h; exact pAtom_nm h
end
theorem pNext_e {e:PE} {s:PS} {a:Nat} {x:Int} (h:pNext e s=.er a x):x=5:=by
  unfold pNext at h
  simp only at h
  split at h
  · cases h; rfl
  · cases h
theorem prs_bad {ia oa : List (List UInt8)} {src : List UInt8} (h : (prs ia oa src).2.2 ≠ 0) : (prs ia oa src).1 = zF := by
  unfold prs at h ⊢
  split
  · rfl
  · split
    · rfl
    · rename_i h1 h2
      rw [if_neg h1,if_neg h2] at h
      unfold prsE at h ⊢
      split
      · rfl
      · rename_i hn
        rw [hn] at h
        simp only at h
        split
        · rfl
        · rfl
        · rename_i hp
          rw [hp] at h
          simp only at h
          split
          · rfl
          · rename_i q1
            rw [if_neg q1] at h
            split
            · rfl
            · rename_i q2
              rw [if_neg q2] at h
              exact absurd rfl h
def ErR (e:PE) (R:PS→Option (PR Fm)):Prop:= ∀ s a x,R s=some (.er a x)→x≠0
section
variable {e:PE}
theorem pPart_erz {R : PS → Option (PR Fm)} (h : ErR e R) : ErR e (pPart e R) := by
  intro s a x hr
  unfold pPart at hr
  cases hx:pNext e s with
  |er a2 x2=>rw [hx] at hr; cases hr; rw [pNext_e hx]; decide
  | ok u s2 =>
    rw [hx] at hr
    simp only at hr
    split at hr
    · cases hr; decide
    · cases hy:R {s2 with dep:=s2.dep+1} with
      |none=>rw [hy] at hr; cases hr
      | some q =>
        rw [hy] at hr
        cases q with
        |er a3 x3=>cases hr; exact h _ _ _ hy
        |ok g s3=>cases hr
theorem mapP_erz {g:Fm→Fm} {R:PS→Option (PR Fm)} (h:ErR e R):ErR e fun s=>mapP g (R s):=by
  intro s a x hr
  simp only at hr
  cases hy:R s with
  |none=>rw [hy] at hr; cases hr
  | some q =>
    rw [hy] at hr
    cases q with
    |er a3 x3=>cases hr; exact h _ _ _ hy
    |ok k s3=>cases hr
theorem pMore_erz {w : List UInt8} {R : PS → Option (PR Fm)} (h : ErR e R) : ∀ (k : Nat) (l : List Fm) (s : PS) (a : Nat) (x : Int), pMore e w R k l s = some (.er a x) → x ≠ 0
  |0,_,_,_,_,hr=>by cases hr
  | k + 1, l, s, a, x, hr => by
    rw [pMore] at hr
    split at hr
    · cases hx:pNext e s with
      |er a2 x2=>rw [hx] at hr; cases hr; rw [pNext_e hx]; decide
      | ok u s2 =>
        rw [hx] at hr
        simp only at hr
        cases hy:R s2 with
        |none=>rw [hy] at hr; cases hr
        | some q =>
          rw [hy] at hr
          cases q with
          |er a3 x3=>cases hr; exact h _ _ _ hy
          |ok f s3=>exact pMore_erz h k _ _ _ _ hr
    · cases hr
theorem pSev_erz {w : List UInt8} {op : Int} {R : PS → Option (PR Fm)} {k : Nat} (h : ErR e R) : ErR e (pSev e w op R k) := by
  intro s a x hr
  unfold pSev at hr
  cases hy:R s with
  |none=>rw [hy] at hr; cases hr
  | some q =>
    rw [hy] at hr
    cases q with
    |er a3 x3=>cases hr; exact h _ _ _ hy
    | ok g s2 =>
      simp only at hr
      cases hz:pMore e w R k [g] s2 with
      |none=>rw [hz] at hr; cases hr
      | some q =>
        rw [hz] at hr
        cases q with
        |er a3 x3=>cases hr; exact pMore_erz h k _ _ _ _ hz
        |ok l s3=>cases hr
theorem pAtom_erz {s : PS} {a : Nat} {x : Int} (h : pAtom e s = .er a x) : x ≠ 0 := by
  have af: ∀ g,aft e s g=.er a x→x≠0:=fun g h=>by
    cases hx:pNext e s with
    |er a2 x2=>rw [aft_er hx] at h; cases h; rw [pNext_e hx]; decide
    |ok u s2=>rw [aft_ok hx] at h; cases h
  by_cases q1:prB s.wd wIn=true
  · by_cases d:ixB e.ia (cutP wIn s.wd)=true
    · rw [pAtom_in1 q1 d] at h; exact af _ h
    · rw [pAtom_in0 q1 d] at h; cases h; decide
  · by_cases q2:prB s.wd wOut=true
    · by_cases d:ixB e.oa (cutP wOut s.wd)=true
      · rw [pAtom_out1 q1 q2 d] at h; exact af _ h
      · rw [pAtom_out0 q1 q2 d] at h; cases h; decide
    · by_cases q3:s.wd=wFa
      · rw [pAtom_fa q1 q2 q3] at h; exact af _ h
      · by_cases q4:s.wd=wTr
        · rw [pAtom_tr q1 q2 q3 q4] at h; exact af _ h
        · rw [pAtom_no q1 q2 q3 q4] at h; cases h; decide
theorem pF_erz : ∀ (k : Nat) (K : PK), ErR e (pF e k K)
  |0,_=>fun _ _ _ h=>by cases h
  | k + 1, .form => fun s a x h => by
    rw [pF] at h
    cases hx:pSev e [124] 6 (pF e k .conj) k s with
    |none=>rw [hx] at h; cases h
    | some r =>
      rw [hx] at h
      cases r with
      |er a2 x2=>cases h; exact pSev_erz (pF_erz k .conj) _ _ _ hx
      | ok g s2 =>
        simp only at h
        split at h
        · exact mapP_erz (pPart_erz (pF_erz k .form)) _ _ _ h
        · cases h
  |k+1,.conj=>fun s a x h=>by rw [pF] at h; exact pSev_erz (pF_erz k .bin) _ _ _ h
  | k + 1, .bin => fun s a x h => by
    rw [pF] at h
    cases hx:pF e k .un s with
    |none=>rw [hx] at h; cases h
    | some r =>
      rw [hx] at h
      cases r with
      |er a2 x2=>cases h; exact pF_erz k .un _ _ _ hx
      | ok g s2 =>
        simp only at h
        split at h
        · exact mapP_erz (pPart_erz (pF_erz k .bin)) _ _ _ h
        · split at h
          · exact mapP_erz (pPart_erz (pF_erz k .bin)) _ _ _ h
          · cases h
  | k + 1, .un => fun s a x h => by
    rw [pF] at h
    have hu:=fun g=>mapP_erz (e:=e) (g:=g) (pPart_erz (pF_erz k .un))
    split at h
    · exact hu _ _ _ _ h
    · split at h
      · exact hu _ _ _ _ h
      · split at h
        · exact hu _ _ _ _ h
        · split at h
          · exact hu _ _ _ _ h
          · split at h
            · exact hu _ _ _ _ h
            · split at h
              · cases hx : pPart e (pF e k .form) s with
                |none=>rw [hx] at h; cases h
                | some r =>
                  rw [hx] at h
                  cases r with
                  |er a2 x2=>cases h; exact pPart_erz (pF_erz k .form) _ _ _ hx
                  | ok g s2 =>
                    simp only at h
                    split at h
                    · cases hy:pNext e s2 with
                      |er a2 x2=>rw [hy] at h; cases h; rw [pNext_e hy]; decide
                      |ok u s3=>rw [hy] at h; cases h
                    · cases h; decide
              · injection h with h; exact pAtom_erz h
end
theorem prs_good {ia oa : List (List UInt8)} {src : List UInt8} (h : (prs ia oa src).2.2 = 0) : avs ia oa = 0 ∧ fval (prs ia oa src).1 = 0 ∧ nmd ((ia.length : Nat) : Int) ((oa.length : Nat) : Int) (prs ia oa src).1 = true := by
  unfold prs at h ⊢
  split
  · rename_i h1; rw [if_pos h1] at h; exact absurd h h1
  · rename_i h1
    rw [if_neg h1] at h
    refine ⟨by omega,?_⟩
    split
    · rename_i h2; rw [if_pos h2] at h; exact absurd h (by decide)
    · rename_i h2
      rw [if_neg h2] at h
      have h0:OkS ⟨ia,oa,src⟩ ⟨0,[],0⟩:=⟨Nat.not_lt.1 h2,Nat.zero_le _,Nat.zero_le _⟩
      unfold prsE at h ⊢
      split
      · rename_i a x hn
        rw [hn] at h
        have:=pNext_e hn
        simp only at h
        omega
      · rename_i u s1 hn
        rw [hn] at h
        have hk:=(pNext_inv h0 hn).1
        obtain ⟨r,hr⟩:=pF_all hk
        simp only at h
        rw [hr] at h ⊢
        cases r with
        | er a x =>
          simp only at h
          exact absurd h (pF_erz _ _ _ _ _ hr)
        | ok f s2 =>
          simp only at h ⊢
          split
          · rename_i q1; rw [if_pos q1] at h; exact absurd h (show ¬(5:Int)=0 by decide)
          · rename_i q1
            rw [if_neg q1] at h
            split
            · rename_i q2; rw [if_pos q2] at h; exact absurd h q2
            · rename_i q2; exact ⟨by simp only; omega,pF_nm _ _ _ _ _ hr⟩
theorem shw_trip {ia oa:List (List UInt8)} {f:Fm} (hn: ∀ k,k < ia.length→(nth ia k).length≤100) (hm: ∀ k,k < oa.length→(nth oa k).length≤100) (h:(shwT ia oa f).2=0):prs ia oa (shwT ia oa f).1=(f,0,0):=by
  unfold shwT at h ⊢
  split
  · rename_i q; rw [if_pos q] at h; exact absurd h q
  · rename_i q1
    rw [if_neg q1] at h
    split
    · rename_i q; rw [if_pos q] at h; exact absurd h q
    · rename_i q2
      rw [if_neg q2] at h
      split
      · rename_i q3; exact trip (by omega) (by omega) q3 hn hm
      · rename_i q3; rw [if_neg q3] at h; exact absurd h (by decide)
theorem prs_trip {ia oa:List (List UInt8)} {src:List UInt8} (hn: ∀ k,k < ia.length→(nth ia k).length≤100) (hm: ∀ k,k < oa.length→(nth oa k).length≤100) (h:(prs ia oa src).2.2=0):
    (shwT ia oa (prs ia oa src).1).2=0∧fval (prs ia oa src).1=0∧prs ia oa (shwT ia oa (prs ia oa src).1).1=((prs ia oa src).1,0,0):=by
  obtain ⟨h1,h2,h3⟩:=prs_good h
  have hs:(shwT ia oa (prs ia oa src).1).2=0:=by
    unfold shwT; rw [if_neg (by omega),if_neg (by omega),if_pos h3]
  exact ⟨hs,h2,shw_trip hn hm hs⟩
end Go.Proofs.Ytdmcmkccifmofaa
namespace Go.Proofs.Ytdmcmkccifmofaa
open Go Go.Proofs
theorem law7_pure (ia oa:List (List UInt8)) (f:Fm) (src:List UInt8):PureC Try.prog 7 [(V.agg [(V.sl (List.map cS (ia))),(V.sl (List.map cS (oa))),(iV (f.op)),(iV (f.arg)),(V.sl (List.map cF (f.kids))),(V.str src)])] (V.bool true):=by
 refine pW Try.func7 s7_ok fun hB=>?_
 unfold s7
 dsimp only
 refine W_r (R_box (i:=1) (n:=0) (m:=6) (cs:=[(V.sl (List.map cS (ia))),(V.sl (List.map cS (oa))),(iV (f.op)),(iV (f.arg)),(V.sl (List.map cF (f.kids))),(V.str src)]) rfl (congrArg Blk.ver rfl) rfl rfl rfl (R_mv rfl (R_e (W_d (by exact (lateC rfl (lateC rfl (lateC rfl lateN)))) (R_fk rfl rfl (R_lk rfl rfl rfl rfl (R_fk rfl rfl ?_)))))))
 refine R_lk rfl rfl rfl rfl (R_fk rfl rfl (R_lk rfl rfl rfl rfl (R_fk rfl rfl (R_lk rfl rfl rfl rfl (R_alloc (i:=3) (n:=0) (m:=1) rfl (congrArg Blk.ver rfl) rfl (R_alloc (i:=4) (n:=0) (m:=1) rfl (congrArg Blk.ver rfl) rfl (R_alloc (i:=5) (n:=0) (m:=3) rfl (congrArg Blk.ver rfl) rfl ?_)))))))
 refine R_sk rfl rfl rfl rfl rfl rfl rfl rfl rfl (R_sk rfl rfl rfl rfl rfl rfl rfl rfl rfl (R_sk rfl rfl rfl rfl rfl rfl rfl rfl rfl (R_mv rfl (R_e (W_seq_seq (W_r (R_lk rfl rfl rfl rfl ?_)))))))
 refine R_callk (great_pure ia) rfl (R_mv rfl ?_)
 refine Ops_seg 3 (fun T H=>T 3=(V.mp 3 1 0 0)∧T 4=(V.mp 4 1 0 0)∧T 5=(V.mp 5 1 0 0)∧T 6=(V.str src)∧T 33=(V.bool (((grB ia)||(grB oa))))∧H 1=(bk 1 58 6 [[(V.sl (List.map cS (ia))),(V.sl (List.map cS (oa))),(iV (f.op)),(iV (f.arg)),(V.sl (List.map cF (f.kids))),(V.str src)]])∧H 3=(bk 1 37 1 [[(V.sl (List.map cS (ia)))]])∧H 4=(bk 1 37 1 [[(V.sl (List.map cS (oa)))]])∧H 5=(bk 1 24 3 [[(iV (f.op)),(iV (f.arg)),(V.sl (List.map cF (f.kids)))]])∧H 9=(⟨0,false,false,0,0,[]⟩:Blk)∧H 12=(⟨0,false,false,0,0,[]⟩:Blk)∧H 17=(⟨0,false,false,0,0,[]⟩:Blk)∧True) ?_ ?_
 ·
  by_cases g1:(grB ia)=true
  ·
   refine G_n (ebT g1 rfl) (G_n (ebT g1 rfl) (R_pickT (ebT g1 rfl) rfl ?_))
   exact ⟨rfl,rfl,rfl,rfl,(borT g1),rfl,rfl,rfl,rfl,rfl,rfl,rfl,trivial⟩
  ·
   refine G_yes (ebF g1 rfl) (R_lk rfl rfl rfl rfl (G_yes (ebF g1 rfl) (R_callk (great_pure oa) rfl (R_pickF (ebF g1 rfl) rfl ?_))))
   exact ⟨rfl,rfl,rfl,rfl,(borF g1),rfl,rfl,rfl,rfl,rfl,rfl,rfl,trivial⟩
 intro T H ⟨t3,t4,t5,t6,t33,h1,h3,h4,h5,h9,h12,h17,_⟩
 refine R_mv t33 ?_
 refine Ops_seg 4 (fun T H=>T 3=(V.mp 3 1 0 0)∧T 4=(V.mp 4 1 0 0)∧T 5=(V.mp 5 1 0 0)∧T 6=(V.str src)∧T 38=(V.bool (((((grB ia)||(grB oa)))||decide ((200:Int) < (szm f ((200:Int)))))))∧H 1=(bk 1 58 6 [[(V.sl (List.map cS (ia))),(V.sl (List.map cS (oa))),(iV (f.op)),(iV (f.arg)),(V.sl (List.map cF (f.kids))),(V.str src)]])∧H 3=(bk 1 37 1 [[(V.sl (List.map cS (ia)))]])∧H 4=(bk 1 37 1 [[(V.sl (List.map cS (oa)))]])∧H 5=(bk 1 24 3 [[(iV (f.op)),(iV (f.arg)),(V.sl (List.map cF (f.kids)))]])∧H 9=(⟨0,false,false,0,0,[]⟩:Blk)∧H 12=(⟨0,false,false,0,0,[]⟩:Blk)∧H 17=(⟨0,false,false,0,0,[]⟩:Blk)∧True) ?_ ?_
 ·
  by_cases g2:(((grB ia)||(grB oa)))=true
  ·
   have g2x:=g2
   simp only [Bool.and_eq_true,Bool.or_eq_true,Bool.not_eq_true',decide_eq_true_eq] at g2x
   refine G_n (ebT g2 rfl) (G_n (ebT g2 rfl) (G_n (ebT g2 rfl) (R_pickT (ebT g2 rfl) rfl ?_)))
   exact ⟨t3,t4,t5,t6,(borT g2),h1,h3,h4,h5,h9,h12,h17,trivial⟩
  ·
   have g2x:=g2
   simp only [Bool.and_eq_true,Bool.or_eq_true,Bool.not_eq_true',decide_eq_true_eq] at g2x
   refine G_yes (ebF g2 rfl) (R_lk t5 h5 rfl rfl (G_yes (ebF g2 rfl) (R_callk (size_pure f ((200:Int)) (by decide)) rfl (G_yes (ebF g2 rfl) (R_gtr rfl rfl (R_pickF (ebF g2 rfl) rfl ?_))))))
   exact ⟨t3,t4,t5,t6,(borF g2),h1,h3,h4,h5,h9,h12,h17,trivial⟩
 intro T H ⟨t3,t4,t5,t6,t38,h1,h3,h4,h5,h9,h12,h17,_⟩
 refine R_mv t38 ?_
 refine Ops_seg 4 (fun T H=>T 3=(V.mp 3 1 0 0)∧T 4=(V.mp 4 1 0 0)∧T 5=(V.mp 5 1 0 0)∧T 6=(V.str src)∧T 43=(V.bool (((((((grB ia)||(grB oa)))||decide ((200:Int) < (szm f ((200:Int))))))||decide ((600:Int) < ((src.length:Nat):Int)))))∧H 1=(bk 1 58 6 [[(V.sl (List.map cS (ia))),(V.sl (List.map cS (oa))),(iV (f.op)),(iV (f.arg)),(V.sl (List.map cF (f.kids))),(V.str src)]])∧H 3=(bk 1 37 1 [[(V.sl (List.map cS (ia)))]])∧H 4=(bk 1 37 1 [[(V.sl (List.map cS (oa)))]])∧H 5=(bk 1 24 3 [[(iV (f.op)),(iV (f.arg)),(V.sl (List.map cF (f.kids)))]])∧H 9=(⟨0,false,false,0,0,[]⟩:Blk)∧H 12=(⟨0,false,false,0,0,[]⟩:Blk)∧H 17=(⟨0,false,false,0,0,[]⟩:Blk)∧True) ?_ ?_
 ·
  by_cases g3:(((((grB ia)||(grB oa)))||decide ((200:Int) < (szm f ((200:Int))))))=true
  ·
   have g3x:=g3
   simp only [Bool.and_eq_true,Bool.or_eq_true,Bool.not_eq_true',decide_eq_true_eq] at g3x
   refine G_n (ebT g3 rfl) (G_n (ebT g3 rfl) (G_n (ebT g3 rfl) (R_pickT (ebT g3 rfl) rfl ?_)))
   exact ⟨t3,t4,t5,t6,(borT g3),h1,h3,h4,h5,h9,h12,h17,trivial⟩
  ·
   have g3x:=g3
   simp only [Bool.and_eq_true,Bool.or_eq_true,Bool.not_eq_true',decide_eq_true_eq] at g3x
   refine G_yes (ebF g3 rfl) (R_mv t6 (G_yes (ebF g3 rfl) (R_slen (s:=src) rfl (G_yes (ebF g3 rfl) (R_gtr rfl rfl (R_pickF (ebF g3 rfl) rfl ?_))))))
   exact ⟨t3,t4,t5,t6,(borF g3),h1,h3,h4,h5,h9,h12,h17,trivial⟩
 intro T H ⟨t3,t4,t5,t6,t43,h1,h3,h4,h5,h9,h12,h17,_⟩
 refine R_e ?_
 refine W_seq_ifb t43 (fun c4=>?_) (fun c4=>?_)
 ·
  refine W_seq_seq (W_r (R_callk (aw45_pure) rfl (R_mv rfl (R_e (W_seq_ret ?_)))))
  refine Ret_1 (@rfl V (V.bool true)) (fz_canon (by simp) rfl)
 have q1:grB ia=false∧grB oa=false:=by have q:=c4; simp only [Bool.or_eq_false_iff] at q; exact ⟨q.1.1.1,q.1.1.2⟩
 have g1:=(grB_no q1.1).2
 have g2:=(grB_no q1.2).2
 refine W_seq_skip (W_r (R_lk t3 h3 rfl rfl (R_lk t4 h4 rfl rfl (R_lk t5 h5 rfl rfl (R_callk (show_pure ia oa f g1 g2) rfl (R_mv rfl (R_ext rfl rfl ?_)))))))
 refine R_ext rfl rfl (R_mv rfl (R_mv rfl (R_e (W_seq_seq (W_r (R_mv rfl (R_eql rfl rfl ?_)))))))
 refine R_e ?_
 refine W_seq_if rfl (fun c5=>?_) fun c5=>?_
 ·
  have e2:=shw_trip g1 g2 c5
  refine W_seq_seq (W_r (R_lk t3 h3 rfl rfl (R_lk t4 h4 rfl rfl (R_mv rfl (R_callk (prs_pure ia oa ((shwT ia oa f).1) g1 g2) rfl (R_mv rfl (R_ext rfl rfl ?_)))))))
  refine R_ext rfl rfl (R_ext rfl rfl (R_alloc (i:=9) (n:=0) (m:=3) rfl (congrArg Blk.ver h9) rfl (R_sk rfl rfl rfl rfl rfl rfl rfl rfl rfl (R_mv rfl (R_mv rfl (R_e (W_seq_seq ?_)))))))
  refine W_seq_regc (fun T H=>T 3=(V.mp 3 1 0 0)∧T 4=(V.mp 4 1 0 0)∧T 6=(V.str src)∧T 79=(V.bool ((((((((!sameF f ((prs ia oa ((shwT ia oa f).1)).1)))||((!sameF f ((prs ia oa ((shwT ia oa f).1)).1)))))||decide (((prs ia oa ((shwT ia oa f).1)).2.1)≠(0:Int))))||decide (((prs ia oa ((shwT ia oa f).1)).2.2)≠(0:Int)))))∧H 1=(bk 1 58 6 [[(V.sl (List.map cS (ia))),(V.sl (List.map cS (oa))),(iV (f.op)),(iV (f.arg)),(V.sl (List.map cF (f.kids))),(V.str src)]])∧H 3=(bk 1 37 1 [[(V.sl (List.map cS (ia)))]])∧H 4=(bk 1 37 1 [[(V.sl (List.map cS (oa)))]])∧H 5=(bk 1 24 3 [[(iV (f.op)),(iV (f.arg)),(V.sl (List.map cF (f.kids)))]])∧H 9=(bk 1 24 3 [[(iV ((prs ia oa ((shwT ia oa f).1)).1.op)),(iV ((prs ia oa ((shwT ia oa f).1)).1.arg)),(V.sl (List.map cF ((prs ia oa ((shwT ia oa f).1)).1.kids)))]])∧H 12=(⟨0,false,false,0,0,[]⟩:Blk)∧H 17=(⟨0,false,false,0,0,[]⟩:Blk)∧True) ?_ ?_
  ·
   refine R_lk t5 h5 rfl rfl (R_lk rfl rfl rfl rfl (R_callk (fsame_pure f ((prs ia oa ((shwT ia oa f).1)).1)) rfl (R_notb rfl (R_mv rfl ?_))))
   refine Ops_seg 5 (fun T H=>T 3=(V.mp 3 1 0 0)∧T 4=(V.mp 4 1 0 0)∧T 6=(V.str src)∧T 10=(iV ((prs ia oa ((shwT ia oa f).1)).2.1))∧T 11=(iV ((prs ia oa ((shwT ia oa f).1)).2.2))∧T 71=(V.bool ((((!sameF f ((prs ia oa ((shwT ia oa f).1)).1)))||((!sameF f ((prs ia oa ((shwT ia oa f).1)).1))))))∧H 1=(bk 1 58 6 [[(V.sl (List.map cS (ia))),(V.sl (List.map cS (oa))),(iV (f.op)),(iV (f.arg)),(V.sl (List.map cF (f.kids))),(V.str src)]])∧H 3=(bk 1 37 1 [[(V.sl (List.map cS (ia)))]])∧H 4=(bk 1 37 1 [[(V.sl (List.map cS (oa)))]])∧H 5=(bk 1 24 3 [[(iV (f.op)),(iV (f.arg)),(V.sl (List.map cF (f.kids)))]])∧H 9=(bk 1 24 3 [[(iV ((prs ia oa ((shwT ia oa f).1)).1.op)),(iV ((prs ia oa ((shwT ia oa f).1)).1.arg)),(V.sl (List.map cF ((prs ia oa ((shwT ia oa f).1)).1.kids)))]])∧H 12=(⟨0,false,false,0,0,[]⟩:Blk)∧H 17=(⟨0,false,false,0,0,[]⟩:Blk)∧True) ?_ ?_
   ·
    by_cases g6:((!sameF f ((prs ia oa ((shwT ia oa f).1)).1)))=true
    ·
     refine G_n (ebT g6 rfl) (G_n (ebT g6 rfl) (G_n (ebT g6 rfl) (G_n (ebT g6 rfl) (R_pickT (ebT g6 rfl) rfl ?_))))
     exact ⟨t3,t4,t6,rfl,rfl,(borT g6),h1,h3,h4,h5,rfl,h12,h17,trivial⟩
    ·
     refine G_yes (ebF g6 rfl) (R_lk t5 h5 rfl rfl (G_yes (ebF g6 rfl) (R_lk rfl rfl rfl rfl (G_yes (ebF g6 rfl) (R_callk (rsame_pure f ((prs ia oa ((shwT ia oa f).1)).1)) rfl (G_yes (ebF g6 rfl) (R_notb rfl ?_)))))))
     refine R_pickF (ebF g6 rfl) rfl ?_
     exact ⟨t3,t4,t6,rfl,rfl,(borF g6),h1,h3,h4,h5,rfl,h12,h17,trivial⟩
   intro T H ⟨t3,t4,t6,t10,t11,t71,h1,h3,h4,h5,h9,h12,h17,_⟩
   refine R_mv t71 ?_
   refine Ops_seg 3 (fun T H=>T 3=(V.mp 3 1 0 0)∧T 4=(V.mp 4 1 0 0)∧T 6=(V.str src)∧T 11=(iV ((prs ia oa ((shwT ia oa f).1)).2.2))∧T 75=(V.bool ((((((!sameF f ((prs ia oa ((shwT ia oa f).1)).1)))||((!sameF f ((prs ia oa ((shwT ia oa f).1)).1)))))||decide (((prs ia oa ((shwT ia oa f).1)).2.1)≠(0:Int)))))∧H 1=(bk 1 58 6 [[(V.sl (List.map cS (ia))),(V.sl (List.map cS (oa))),(iV (f.op)),(iV (f.arg)),(V.sl (List.map cF (f.kids))),(V.str src)]])∧H 3=(bk 1 37 1 [[(V.sl (List.map cS (ia)))]])∧H 4=(bk 1 37 1 [[(V.sl (List.map cS (oa)))]])∧H 5=(bk 1 24 3 [[(iV (f.op)),(iV (f.arg)),(V.sl (List.map cF (f.kids)))]])∧H 9=(bk 1 24 3 [[(iV ((prs ia oa ((shwT ia oa f).1)).1.op)),(iV ((prs ia oa ((shwT ia oa f).1)).1.arg)),(V.sl (List.map cF ((prs ia oa ((shwT ia oa f).1)).1.kids)))]])∧H 12=(⟨0,false,false,0,0,[]⟩:Blk)∧H 17=(⟨0,false,false,0,0,[]⟩:Blk)∧True) ?_ ?_
   ·
    by_cases g7:((((!sameF f ((prs ia oa ((shwT ia oa f).1)).1)))||((!sameF f ((prs ia oa ((shwT ia oa f).1)).1)))))=true
    ·
     have g7x:=g7
     simp only [Bool.and_eq_true,Bool.or_eq_true,Bool.not_eq_true',decide_eq_true_eq] at g7x
     refine G_n (ebT g7 rfl) (G_n (ebT g7 rfl) (R_pickT (ebT g7 rfl) rfl ?_))
     exact ⟨t3,t4,t6,t11,(borT g7),h1,h3,h4,h5,h9,h12,h17,trivial⟩
    ·
     have g7x:=g7
     simp only [Bool.and_eq_true,Bool.or_eq_true,Bool.not_eq_true',decide_eq_true_eq] at g7x
     refine G_yes (ebF g7 rfl) (R_mv t10 (G_yes (ebF g7 rfl) (R_neq rfl rfl (R_pickF (ebF g7 rfl) rfl ?_))))
     exact ⟨t3,t4,t6,t11,(borF g7),h1,h3,h4,h5,h9,h12,h17,trivial⟩
   intro T H ⟨t3,t4,t6,t11,t75,h1,h3,h4,h5,h9,h12,h17,_⟩
   refine R_mv t75 ?_
   refine Ops_seg 3 (fun T H=>T 3=(V.mp 3 1 0 0)∧T 4=(V.mp 4 1 0 0)∧T 6=(V.str src)∧T 79=(V.bool ((((((((!sameF f ((prs ia oa ((shwT ia oa f).1)).1)))||((!sameF f ((prs ia oa ((shwT ia oa f).1)).1)))))||decide (((prs ia oa ((shwT ia oa f).1)).2.1)≠(0:Int))))||decide (((prs ia oa ((shwT ia oa f).1)).2.2)≠(0:Int)))))∧H 1=(bk 1 58 6 [[(V.sl (List.map cS (ia))),(V.sl (List.map cS (oa))),(iV (f.op)),(iV (f.arg)),(V.sl (List.map cF (f.kids))),(V.str src)]])∧H 3=(bk 1 37 1 [[(V.sl (List.map cS (ia)))]])∧H 4=(bk 1 37 1 [[(V.sl (List.map cS (oa)))]])∧H 5=(bk 1 24 3 [[(iV (f.op)),(iV (f.arg)),(V.sl (List.map cF (f.kids)))]])∧H 9=(bk 1 24 3 [[(iV ((prs ia oa ((shwT ia oa f).1)).1.op)),(iV ((prs ia oa ((shwT ia oa f).1)).1.arg)),(V.sl (List.map cF ((prs ia oa ((shwT ia oa f).1)).1.kids)))]])∧H 12=(⟨0,false,false,0,0,[]⟩:Blk)∧H 17=(⟨0,false,false,0,0,[]⟩:Blk)∧True) ?_ ?_
   ·
    by_cases g8:((((((!sameF f ((prs ia oa ((shwT ia oa f).1)).1)))||((!sameF f ((prs ia oa ((shwT ia oa f).1)).1)))))||decide (((prs ia oa ((shwT ia oa f).1)).2.1)≠(0:Int))))=true
    ·
     have g8x:=g8
     simp only [Bool.and_eq_true,Bool.or_eq_true,Bool.not_eq_true',decide_eq_true_eq] at g8x
     refine G_n (ebT g8 rfl) (G_n (ebT g8 rfl) (R_pickT (ebT g8 rfl) rfl ?_))
     exact ⟨t3,t4,t6,(borT g8),h1,h3,h4,h5,h9,h12,h17,trivial⟩
    ·
     have g8x:=g8
     simp only [Bool.and_eq_true,Bool.or_eq_true,Bool.not_eq_true',decide_eq_true_eq] at g8x
     refine G_yes (ebF g8 rfl) (R_mv t11 (G_yes (ebF g8 rfl) (R_neq rfl rfl (R_pickF (ebF g8 rfl) rfl ?_))))
     exact ⟨t3,t4,t6,(borF g8),h1,h3,h4,h5,h9,h12,h17,trivial⟩
   intro T H ⟨t3,t4,t6,t79,h1,h3,h4,h5,h9,h12,h17,_⟩
   exact R_nil ⟨t3,t4,t6,t79,h1,h3,h4,h5,h9,h12,h17,trivial⟩
  intro T H ⟨t3,t4,t6,t79,h1,h3,h4,h5,h9,h12,h17,_⟩
  refine W_seq_ifb t79 (fun c9=>?_) (fun c9=>?_)
  · exfalso; have q:=c9; rw [e2] at q; simp [sameF_self] at q
  refine W_seq_skip (W_r (R_lk t3 h3 rfl rfl (R_lk t4 h4 rfl rfl (R_mv t6 (R_callk (prs_pure ia oa src g1 g2) rfl (R_mv rfl (R_ext rfl rfl ?_)))))))
  refine R_ext rfl rfl (R_ext rfl rfl (R_alloc (i:=12) (n:=0) (m:=3) rfl (congrArg Blk.ver h12) rfl (R_sk rfl rfl rfl rfl rfl rfl rfl rfl rfl (R_mv rfl (R_mv rfl (R_e (W_seq_seq ?_)))))))
  refine W_r (R_mv rfl (R_neq rfl rfl (R_e ?_)))
  refine W_seq_if rfl (fun c10=>?_) fun c10=>?_
  ·
   have e3:=prs_bad c10
   refine W_seq_seq (W_r (R_lk rfl rfl rfl rfl (R_build rfl rfl (R_call (evcons (@rfl V (V.agg [(iV ((prs ia oa src).1.op)),(iV ((prs ia oa src).1.arg)),(V.sl (List.map cF ((prs ia oa src).1.kids)))])) (evcons (@rfl V (V.agg [(iV (0:Int)),(iV (0:Int)),V.nilsl])) evnil)) (rsame_pure ((prs ia oa src).1) (⟨((0:Int)),((0:Int)),([])⟩:Fm)) (mcons (fzv_canon 6 _ (by simp [-List.map_take,-List.map_drop,-List.map_append,-List.map_reverse])) (mcons (by rfl) rfl)) (by simp [-List.map_take,-List.map_drop,-List.map_append,-List.map_reverse]) (Or.inl (by simp [-List.map_take,-List.map_drop,-List.map_append,-List.map_reverse])) (R_mv rfl ?_)))))
   refine Ops_seg 2 (fun T H=>T 95=(V.bool (((sameF ((prs ia oa src).1) (⟨((0:Int)),((0:Int)),([])⟩:Fm))||false)))∧H 1=(bk 1 58 6 [[(V.sl (List.map cS (ia))),(V.sl (List.map cS (oa))),(iV (f.op)),(iV (f.arg)),(V.sl (List.map cF (f.kids))),(V.str src)]])∧H 3=(bk 1 37 1 [[(V.sl (List.map cS (ia)))]])∧H 4=(bk 1 37 1 [[(V.sl (List.map cS (oa)))]])∧H 5=(bk 1 24 3 [[(iV (f.op)),(iV (f.arg)),(V.sl (List.map cF (f.kids)))]])∧H 9=(bk 1 24 3 [[(iV ((prs ia oa ((shwT ia oa f).1)).1.op)),(iV ((prs ia oa ((shwT ia oa f).1)).1.arg)),(V.sl (List.map cF ((prs ia oa ((shwT ia oa f).1)).1.kids)))]])∧H 12=(bk 1 24 3 [[(iV ((prs ia oa src).1.op)),(iV ((prs ia oa src).1.arg)),(V.sl (List.map cF ((prs ia oa src).1.kids)))]])∧H 17=(⟨0,false,false,0,0,[]⟩:Blk)∧True) ?_ ?_
   ·
    by_cases g11:(sameF ((prs ia oa src).1) (⟨((0:Int)),((0:Int)),([])⟩:Fm))=true
    ·
     refine G_yes (ebT g11 rfl) (R_callk (aw45_pure) rfl (R_pickT (ebT g11 rfl) rfl ?_))
     exact ⟨(borT g11),h1,h3,h4,h5,h9,rfl,h17,trivial⟩
    ·
     refine G_n (ebF g11 rfl) (R_pickF (ebF g11 rfl) rfl ?_)
     exact ⟨(borF g11),h1,h3,h4,h5,h9,rfl,h17,trivial⟩
   intro T H ⟨t95,h1,h3,h4,h5,h9,h12,h17,_⟩
   refine R_mv t95 (R_e (W_seq_ret ?_))
   refine Ret_1 (@rfl V (V.bool (((sameF ((prs ia oa src).1) (⟨((0:Int)),((0:Int)),([])⟩:Fm))||false)))) (fz_bool ?_)
   · first|rfl|(rw [e3]; rfl)|(rw [e5,e6,e7]; simp [sameF_self])
  obtain ⟨e5,e6,e7⟩:=prs_trip g1 g2 (Decidable.not_not.1 c10)
  refine W_seq_skip (W_r (R_lk t3 h3 rfl rfl (R_lk t4 h4 rfl rfl (R_lk rfl rfl rfl rfl (R_callk (show_pure ia oa ((prs ia oa src).1) g1 g2) rfl (R_mv rfl (R_ext rfl rfl ?_)))))))
  refine R_ext rfl rfl (R_mv rfl (R_mv rfl (R_e (W_r (R_lk t3 h3 rfl rfl (R_lk t4 h4 rfl rfl (R_mv rfl ?_)))))))
  refine R_callk (prs_pure ia oa ((shwT ia oa ((prs ia oa src).1)).1) g1 g2) rfl (R_mv rfl (R_ext rfl rfl (R_ext rfl rfl (R_ext rfl rfl (R_alloc (i:=17) (n:=0) (m:=3) rfl (congrArg Blk.ver h17) rfl (R_sk rfl rfl rfl rfl rfl rfl rfl rfl rfl (R_mv rfl ?_)))))))
  refine R_mv rfl (R_e ?_)
  refine W_seq_regc (fun T H=>T 2=(V.bool ((((((((decide ((((shwT ia oa ((prs ia oa src).1)).2)=(0:Int))∧((fval ((prs ia oa src).1))=(0:Int)))&&(sameF ((prs ia oa src).1) ((prs ia oa ((shwT ia oa ((prs ia oa src).1)).1)).1))))&&decide (((prs ia oa ((shwT ia oa ((prs ia oa src).1)).1)).2.1)=(0:Int))))&&decide (((prs ia oa ((shwT ia oa ((prs ia oa src).1)).1)).2.2)=(0:Int))))||false)))∧H 1=(bk 1 58 6 [[(V.sl (List.map cS (ia))),(V.sl (List.map cS (oa))),(iV (f.op)),(iV (f.arg)),(V.sl (List.map cF (f.kids))),(V.str src)]])∧H 3=(bk 1 37 1 [[(V.sl (List.map cS (ia)))]])∧H 4=(bk 1 37 1 [[(V.sl (List.map cS (oa)))]])∧H 5=(bk 1 24 3 [[(iV (f.op)),(iV (f.arg)),(V.sl (List.map cF (f.kids)))]])∧H 9=(bk 1 24 3 [[(iV ((prs ia oa ((shwT ia oa f).1)).1.op)),(iV ((prs ia oa ((shwT ia oa f).1)).1.arg)),(V.sl (List.map cF ((prs ia oa ((shwT ia oa f).1)).1.kids)))]])∧H 12=(bk 1 24 3 [[(iV ((prs ia oa src).1.op)),(iV ((prs ia oa src).1.arg)),(V.sl (List.map cF ((prs ia oa src).1.kids)))]])∧H 17=(bk 1 24 3 [[(iV ((prs ia oa ((shwT ia oa ((prs ia oa src).1)).1)).1.op)),(iV ((prs ia oa ((shwT ia oa ((prs ia oa src).1)).1)).1.arg)),(V.sl (List.map cF ((prs ia oa ((shwT ia oa ((prs ia oa src).1)).1)).1.kids)))]])∧True) ?_ ?_
  ·
   refine R_mv rfl (R_eql rfl rfl (R_mv rfl ?_))
   refine Ops_seg 4 (fun T H=>T 12=(V.mp 12 1 0 0)∧T 17=(V.mp 17 1 0 0)∧T 18=(iV ((prs ia oa ((shwT ia oa ((prs ia oa src).1)).1)).2.1))∧T 19=(iV ((prs ia oa ((shwT ia oa ((prs ia oa src).1)).1)).2.2))∧T 117=(V.bool (decide ((((shwT ia oa ((prs ia oa src).1)).2)=(0:Int))∧((fval ((prs ia oa src).1))=(0:Int)))))∧H 1=(bk 1 58 6 [[(V.sl (List.map cS (ia))),(V.sl (List.map cS (oa))),(iV (f.op)),(iV (f.arg)),(V.sl (List.map cF (f.kids))),(V.str src)]])∧H 3=(bk 1 37 1 [[(V.sl (List.map cS (ia)))]])∧H 4=(bk 1 37 1 [[(V.sl (List.map cS (oa)))]])∧H 5=(bk 1 24 3 [[(iV (f.op)),(iV (f.arg)),(V.sl (List.map cF (f.kids)))]])∧H 9=(bk 1 24 3 [[(iV ((prs ia oa ((shwT ia oa f).1)).1.op)),(iV ((prs ia oa ((shwT ia oa f).1)).1.arg)),(V.sl (List.map cF ((prs ia oa ((shwT ia oa f).1)).1.kids)))]])∧H 12=(bk 1 24 3 [[(iV ((prs ia oa src).1.op)),(iV ((prs ia oa src).1.arg)),(V.sl (List.map cF ((prs ia oa src).1.kids)))]])∧H 17=(bk 1 24 3 [[(iV ((prs ia oa ((shwT ia oa ((prs ia oa src).1)).1)).1.op)),(iV ((prs ia oa ((shwT ia oa ((prs ia oa src).1)).1)).1.arg)),(V.sl (List.map cF ((prs ia oa ((shwT ia oa ((prs ia oa src).1)).1)).1.kids)))]])∧True) ?_ ?_
   ·
    by_cases g12:((shwT ia oa ((prs ia oa src).1)).2)=(0:Int)
    ·
     refine G_yes (edT g12 rfl) (R_lk rfl rfl rfl rfl (G_yes (edT g12 rfl) (R_callk (fvalid_pure ((prs ia oa src).1)) rfl (G_yes (edT g12 rfl) (R_eql rfl rfl (R_pickT (edT g12 rfl) rfl ?_))))))
     exact ⟨rfl,rfl,rfl,rfl,(dec_andT g12),h1,h3,h4,h5,h9,rfl,rfl,trivial⟩
    ·
     refine G_n (edF g12 rfl) (G_n (edF g12 rfl) (G_n (edF g12 rfl) (R_pickF (edF g12 rfl) rfl ?_)))
     exact ⟨rfl,rfl,rfl,rfl,(dec_andF g12),h1,h3,h4,h5,h9,rfl,rfl,trivial⟩
   intro T H ⟨t12,t17,t18,t19,t117,h1,h3,h4,h5,h9,h12,h17,_⟩
   refine R_mv t117 ?_
   refine Ops_seg 4 (fun T H=>T 18=(iV ((prs ia oa ((shwT ia oa ((prs ia oa src).1)).1)).2.1))∧T 19=(iV ((prs ia oa ((shwT ia oa ((prs ia oa src).1)).1)).2.2))∧T 122=(V.bool ((decide ((((shwT ia oa ((prs ia oa src).1)).2)=(0:Int))∧((fval ((prs ia oa src).1))=(0:Int)))&&(sameF ((prs ia oa src).1) ((prs ia oa ((shwT ia oa ((prs ia oa src).1)).1)).1)))))∧H 1=(bk 1 58 6 [[(V.sl (List.map cS (ia))),(V.sl (List.map cS (oa))),(iV (f.op)),(iV (f.arg)),(V.sl (List.map cF (f.kids))),(V.str src)]])∧H 3=(bk 1 37 1 [[(V.sl (List.map cS (ia)))]])∧H 4=(bk 1 37 1 [[(V.sl (List.map cS (oa)))]])∧H 5=(bk 1 24 3 [[(iV (f.op)),(iV (f.arg)),(V.sl (List.map cF (f.kids)))]])∧H 9=(bk 1 24 3 [[(iV ((prs ia oa ((shwT ia oa f).1)).1.op)),(iV ((prs ia oa ((shwT ia oa f).1)).1.arg)),(V.sl (List.map cF ((prs ia oa ((shwT ia oa f).1)).1.kids)))]])∧H 12=(bk 1 24 3 [[(iV ((prs ia oa src).1.op)),(iV ((prs ia oa src).1.arg)),(V.sl (List.map cF ((prs ia oa src).1.kids)))]])∧H 17=(bk 1 24 3 [[(iV ((prs ia oa ((shwT ia oa ((prs ia oa src).1)).1)).1.op)),(iV ((prs ia oa ((shwT ia oa ((prs ia oa src).1)).1)).1.arg)),(V.sl (List.map cF ((prs ia oa ((shwT ia oa ((prs ia oa src).1)).1)).1.kids)))]])∧True) ?_ ?_
   ·
    by_cases g13:(((shwT ia oa ((prs ia oa src).1)).2)=(0:Int))∧((fval ((prs ia oa src).1))=(0:Int))
    ·
     refine G_yes (edT g13 rfl) (R_lk t12 h12 rfl rfl (G_yes (edT g13 rfl) (R_lk t17 h17 rfl rfl (G_yes (edT g13 rfl) (R_callk (rsame_pure ((prs ia oa src).1) ((prs ia oa ((shwT ia oa ((prs ia oa src).1)).1)).1)) rfl (R_pickT (edT g13 rfl) rfl ?_))))))
     exact ⟨t18,t19,(dbandT g13),h1,h3,h4,h5,h9,h12,h17,trivial⟩
    ·
     refine G_n (edF g13 rfl) (G_n (edF g13 rfl) (G_n (edF g13 rfl) (R_pickF (edF g13 rfl) rfl ?_)))
     exact ⟨t18,t19,(dbandF g13),h1,h3,h4,h5,h9,h12,h17,trivial⟩
   intro T H ⟨t18,t19,t122,h1,h3,h4,h5,h9,h12,h17,_⟩
   refine R_mv t122 ?_
   refine Ops_seg 3 (fun T H=>T 19=(iV ((prs ia oa ((shwT ia oa ((prs ia oa src).1)).1)).2.2))∧T 126=(V.bool ((((decide ((((shwT ia oa ((prs ia oa src).1)).2)=(0:Int))∧((fval ((prs ia oa src).1))=(0:Int)))&&(sameF ((prs ia oa src).1) ((prs ia oa ((shwT ia oa ((prs ia oa src).1)).1)).1))))&&decide (((prs ia oa ((shwT ia oa ((prs ia oa src).1)).1)).2.1)=(0:Int)))))∧H 1=(bk 1 58 6 [[(V.sl (List.map cS (ia))),(V.sl (List.map cS (oa))),(iV (f.op)),(iV (f.arg)),(V.sl (List.map cF (f.kids))),(V.str src)]])∧H 3=(bk 1 37 1 [[(V.sl (List.map cS (ia)))]])∧H 4=(bk 1 37 1 [[(V.sl (List.map cS (oa)))]])∧H 5=(bk 1 24 3 [[(iV (f.op)),(iV (f.arg)),(V.sl (List.map cF (f.kids)))]])∧H 9=(bk 1 24 3 [[(iV ((prs ia oa ((shwT ia oa f).1)).1.op)),(iV ((prs ia oa ((shwT ia oa f).1)).1.arg)),(V.sl (List.map cF ((prs ia oa ((shwT ia oa f).1)).1.kids)))]])∧H 12=(bk 1 24 3 [[(iV ((prs ia oa src).1.op)),(iV ((prs ia oa src).1.arg)),(V.sl (List.map cF ((prs ia oa src).1.kids)))]])∧H 17=(bk 1 24 3 [[(iV ((prs ia oa ((shwT ia oa ((prs ia oa src).1)).1)).1.op)),(iV ((prs ia oa ((shwT ia oa ((prs ia oa src).1)).1)).1.arg)),(V.sl (List.map cF ((prs ia oa ((shwT ia oa ((prs ia oa src).1)).1)).1.kids)))]])∧True) ?_ ?_
   ·
    by_cases g14:((decide ((((shwT ia oa ((prs ia oa src).1)).2)=(0:Int))∧((fval ((prs ia oa src).1))=(0:Int)))&&(sameF ((prs ia oa src).1) ((prs ia oa ((shwT ia oa ((prs ia oa src).1)).1)).1))))=true
    ·
     have g14x:=g14
     simp only [Bool.and_eq_true,Bool.or_eq_true,Bool.not_eq_true',decide_eq_true_eq] at g14x
     refine G_yes (ebT g14 rfl) (R_mv t18 (G_yes (ebT g14 rfl) (R_eql rfl rfl (R_pickT (ebT g14 rfl) rfl ?_))))
     exact ⟨t19,(bandT g14),h1,h3,h4,h5,h9,h12,h17,trivial⟩
    ·
     have g14x:=g14
     simp only [Bool.and_eq_true,Bool.or_eq_true,Bool.not_eq_true',decide_eq_true_eq] at g14x
     refine G_n (ebF g14 rfl) (G_n (ebF g14 rfl) (R_pickF (ebF g14 rfl) rfl ?_))
     exact ⟨t19,(bandF g14),h1,h3,h4,h5,h9,h12,h17,trivial⟩
   intro T H ⟨t19,t126,h1,h3,h4,h5,h9,h12,h17,_⟩
   refine R_mv t126 ?_
   refine Ops_seg 3 (fun T H=>T 130=(V.bool ((((((decide ((((shwT ia oa ((prs ia oa src).1)).2)=(0:Int))∧((fval ((prs ia oa src).1))=(0:Int)))&&(sameF ((prs ia oa src).1) ((prs ia oa ((shwT ia oa ((prs ia oa src).1)).1)).1))))&&decide (((prs ia oa ((shwT ia oa ((prs ia oa src).1)).1)).2.1)=(0:Int))))&&decide (((prs ia oa ((shwT ia oa ((prs ia oa src).1)).1)).2.2)=(0:Int)))))∧H 1=(bk 1 58 6 [[(V.sl (List.map cS (ia))),(V.sl (List.map cS (oa))),(iV (f.op)),(iV (f.arg)),(V.sl (List.map cF (f.kids))),(V.str src)]])∧H 3=(bk 1 37 1 [[(V.sl (List.map cS (ia)))]])∧H 4=(bk 1 37 1 [[(V.sl (List.map cS (oa)))]])∧H 5=(bk 1 24 3 [[(iV (f.op)),(iV (f.arg)),(V.sl (List.map cF (f.kids)))]])∧H 9=(bk 1 24 3 [[(iV ((prs ia oa ((shwT ia oa f).1)).1.op)),(iV ((prs ia oa ((shwT ia oa f).1)).1.arg)),(V.sl (List.map cF ((prs ia oa ((shwT ia oa f).1)).1.kids)))]])∧H 12=(bk 1 24 3 [[(iV ((prs ia oa src).1.op)),(iV ((prs ia oa src).1.arg)),(V.sl (List.map cF ((prs ia oa src).1.kids)))]])∧H 17=(bk 1 24 3 [[(iV ((prs ia oa ((shwT ia oa ((prs ia oa src).1)).1)).1.op)),(iV ((prs ia oa ((shwT ia oa ((prs ia oa src).1)).1)).1.arg)),(V.sl (List.map cF ((prs ia oa ((shwT ia oa ((prs ia oa src).1)).1)).1.kids)))]])∧True) ?_ ?_
   ·
    by_cases g15:((((decide ((((shwT ia oa ((prs ia oa src).1)).2)=(0:Int))∧((fval ((prs ia oa src).1))=(0:Int)))&&(sameF ((prs ia oa src).1) ((prs ia oa ((shwT ia oa ((prs ia oa src).1)).1)).1))))&&decide (((prs ia oa ((shwT ia oa ((prs ia oa src).1)).1)).2.1)=(0:Int))))=true
    ·
     have g15x:=g15
     simp only [Bool.and_eq_true,Bool.or_eq_true,Bool.not_eq_true',decide_eq_true_eq] at g15x
     refine G_yes (ebT g15 rfl) (R_mv t19 (G_yes (ebT g15 rfl) (R_eql rfl rfl (R_pickT (ebT g15 rfl) rfl ?_))))
     exact ⟨(bandT g15),h1,h3,h4,h5,h9,h12,h17,trivial⟩
    ·
     have g15x:=g15
     simp only [Bool.and_eq_true,Bool.or_eq_true,Bool.not_eq_true',decide_eq_true_eq] at g15x
     refine G_n (ebF g15 rfl) (G_n (ebF g15 rfl) (R_pickF (ebF g15 rfl) rfl ?_))
     exact ⟨(bandF g15),h1,h3,h4,h5,h9,h12,h17,trivial⟩
   intro T H ⟨t130,h1,h3,h4,h5,h9,h12,h17,_⟩
   refine R_mv t130 ?_
   refine Ops_seg 2 (fun T H=>T 133=(V.bool ((((((((decide ((((shwT ia oa ((prs ia oa src).1)).2)=(0:Int))∧((fval ((prs ia oa src).1))=(0:Int)))&&(sameF ((prs ia oa src).1) ((prs ia oa ((shwT ia oa ((prs ia oa src).1)).1)).1))))&&decide (((prs ia oa ((shwT ia oa ((prs ia oa src).1)).1)).2.1)=(0:Int))))&&decide (((prs ia oa ((shwT ia oa ((prs ia oa src).1)).1)).2.2)=(0:Int))))||false)))∧H 1=(bk 1 58 6 [[(V.sl (List.map cS (ia))),(V.sl (List.map cS (oa))),(iV (f.op)),(iV (f.arg)),(V.sl (List.map cF (f.kids))),(V.str src)]])∧H 3=(bk 1 37 1 [[(V.sl (List.map cS (ia)))]])∧H 4=(bk 1 37 1 [[(V.sl (List.map cS (oa)))]])∧H 5=(bk 1 24 3 [[(iV (f.op)),(iV (f.arg)),(V.sl (List.map cF (f.kids)))]])∧H 9=(bk 1 24 3 [[(iV ((prs ia oa ((shwT ia oa f).1)).1.op)),(iV ((prs ia oa ((shwT ia oa f).1)).1.arg)),(V.sl (List.map cF ((prs ia oa ((shwT ia oa f).1)).1.kids)))]])∧H 12=(bk 1 24 3 [[(iV ((prs ia oa src).1.op)),(iV ((prs ia oa src).1.arg)),(V.sl (List.map cF ((prs ia oa src).1.kids)))]])∧H 17=(bk 1 24 3 [[(iV ((prs ia oa ((shwT ia oa ((prs ia oa src).1)).1)).1.op)),(iV ((prs ia oa ((shwT ia oa ((prs ia oa src).1)).1)).1.arg)),(V.sl (List.map cF ((prs ia oa ((shwT ia oa ((prs ia oa src).1)).1)).1.kids)))]])∧True) ?_ ?_
   ·
    by_cases g16:((((((decide ((((shwT ia oa ((prs ia oa src).1)).2)=(0:Int))∧((fval ((prs ia oa src).1))=(0:Int)))&&(sameF ((prs ia oa src).1) ((prs ia oa ((shwT ia oa ((prs ia oa src).1)).1)).1))))&&decide (((prs ia oa ((shwT ia oa ((prs ia oa src).1)).1)).2.1)=(0:Int))))&&decide (((prs ia oa ((shwT ia oa ((prs ia oa src).1)).1)).2.2)=(0:Int))))=true
    ·
     have g16x:=g16
     simp only [Bool.and_eq_true,Bool.or_eq_true,Bool.not_eq_true',decide_eq_true_eq] at g16x
     refine G_yes (ebT g16 rfl) (R_callk (aw45_pure) rfl (R_pickT (ebT g16 rfl) rfl ?_))
     exact ⟨(borT g16),h1,h3,h4,h5,h9,h12,h17,trivial⟩
    ·
     have g16x:=g16
     simp only [Bool.and_eq_true,Bool.or_eq_true,Bool.not_eq_true',decide_eq_true_eq] at g16x
     refine G_n (ebF g16 rfl) (R_pickF (ebF g16 rfl) rfl ?_)
     exact ⟨(borF g16),h1,h3,h4,h5,h9,h12,h17,trivial⟩
   intro T H ⟨t133,h1,h3,h4,h5,h9,h12,h17,_⟩
   refine R_mv t133 ?_
   exact R_nil ⟨rfl,h1,h3,h4,h5,h9,h12,h17,trivial⟩
  intro T H ⟨t2,h1,h3,h4,h5,h9,h12,h17,_⟩
  refine W_ret ?_
  refine Ret_1 t2 (fz_bool ?_)
  · first|rfl|(rw [e3]; rfl)|(rw [e5,e6,e7]; simp [sameF_self])
 refine W_seq_skip (W_r (R_lk t3 h3 rfl rfl (R_lk t4 h4 rfl rfl (R_mv t6 (R_callk (prs_pure ia oa src g1 g2) rfl (R_mv rfl (R_ext rfl rfl ?_)))))))
 refine R_ext rfl rfl (R_ext rfl rfl (R_alloc (i:=12) (n:=0) (m:=3) rfl (congrArg Blk.ver h12) rfl (R_sk rfl rfl rfl rfl rfl rfl rfl rfl rfl (R_mv rfl (R_mv rfl (R_e (W_seq_seq ?_)))))))
 refine W_seq_regc (fun T H=>T 3=(V.mp 3 1 0 0)∧T 4=(V.mp 4 1 0 0)∧T 12=(V.mp 12 1 0 0)∧T 89=(V.bool (decide (((prs ia oa src).2.2)≠(0:Int))))∧H 1=(bk 1 58 6 [[(V.sl (List.map cS (ia))),(V.sl (List.map cS (oa))),(iV (f.op)),(iV (f.arg)),(V.sl (List.map cF (f.kids))),(V.str src)]])∧H 3=(bk 1 37 1 [[(V.sl (List.map cS (ia)))]])∧H 4=(bk 1 37 1 [[(V.sl (List.map cS (oa)))]])∧H 5=(bk 1 24 3 [[(iV (f.op)),(iV (f.arg)),(V.sl (List.map cF (f.kids)))]])∧H 9=(⟨0,false,false,0,0,[]⟩:Blk)∧H 12=(bk 1 24 3 [[(iV ((prs ia oa src).1.op)),(iV ((prs ia oa src).1.arg)),(V.sl (List.map cF ((prs ia oa src).1.kids)))]])∧H 17=(⟨0,false,false,0,0,[]⟩:Blk)∧True) ?_ ?_
 ·
  refine R_mv rfl (R_neq rfl rfl ?_)
  exact R_nil ⟨t3,t4,rfl,rfl,h1,h3,h4,h5,h9,rfl,h17,trivial⟩
 intro T H ⟨t3,t4,t12,t89,h1,h3,h4,h5,h9,h12,h17,_⟩
 refine W_seq_if t89 (fun c17=>?_) fun c17=>?_
 ·
  have e3:=prs_bad c17
  refine W_seq_seq (W_r (R_lk t12 h12 rfl rfl (R_build rfl rfl (R_call (evcons (@rfl V (V.agg [(iV ((prs ia oa src).1.op)),(iV ((prs ia oa src).1.arg)),(V.sl (List.map cF ((prs ia oa src).1.kids)))])) (evcons (@rfl V (V.agg [(iV (0:Int)),(iV (0:Int)),V.nilsl])) evnil)) (rsame_pure ((prs ia oa src).1) (⟨((0:Int)),((0:Int)),([])⟩:Fm)) (mcons (fzv_canon 6 _ (by simp [-List.map_take,-List.map_drop,-List.map_append,-List.map_reverse])) (mcons (by rfl) rfl)) (by simp [-List.map_take,-List.map_drop,-List.map_append,-List.map_reverse]) (Or.inl (by simp [-List.map_take,-List.map_drop,-List.map_append,-List.map_reverse])) (R_mv rfl ?_)))))
  refine Ops_seg 2 (fun T H=>T 95=(V.bool (((sameF ((prs ia oa src).1) (⟨((0:Int)),((0:Int)),([])⟩:Fm))||false)))∧H 1=(bk 1 58 6 [[(V.sl (List.map cS (ia))),(V.sl (List.map cS (oa))),(iV (f.op)),(iV (f.arg)),(V.sl (List.map cF (f.kids))),(V.str src)]])∧H 3=(bk 1 37 1 [[(V.sl (List.map cS (ia)))]])∧H 4=(bk 1 37 1 [[(V.sl (List.map cS (oa)))]])∧H 5=(bk 1 24 3 [[(iV (f.op)),(iV (f.arg)),(V.sl (List.map cF (f.kids)))]])∧H 9=(⟨0,false,false,0,0,[]⟩:Blk)∧H 12=(bk 1 24 3 [[(iV ((prs ia oa src).1.op)),(iV ((prs ia oa src).1.arg)),(V.sl (List.map cF ((prs ia oa src).1.kids)))]])∧H 17=(⟨0,false,false,0,0,[]⟩:Blk)∧True) ?_ ?_
  ·
   by_cases g18:(sameF ((prs ia oa src).1) (⟨((0:Int)),((0:Int)),([])⟩:Fm))=true
   ·
    refine G_yes (ebT g18 rfl) (R_callk (aw45_pure) rfl (R_pickT (ebT g18 rfl) rfl ?_))
    exact ⟨(borT g18),h1,h3,h4,h5,h9,h12,h17,trivial⟩
   ·
    refine G_n (ebF g18 rfl) (R_pickF (ebF g18 rfl) rfl ?_)
    exact ⟨(borF g18),h1,h3,h4,h5,h9,h12,h17,trivial⟩
  intro T H ⟨t95,h1,h3,h4,h5,h9,h12,h17,_⟩
  refine R_mv t95 (R_e (W_seq_ret ?_))
  refine Ret_1 (@rfl V (V.bool (((sameF ((prs ia oa src).1) (⟨((0:Int)),((0:Int)),([])⟩:Fm))||false)))) (fz_bool ?_)
  · first|rfl|(rw [e3]; rfl)|(rw [e5,e6,e7]; simp [sameF_self])
 obtain ⟨e5,e6,e7⟩:=prs_trip g1 g2 (Decidable.not_not.1 c17)
 refine W_seq_skip (W_r (R_lk t3 h3 rfl rfl (R_lk t4 h4 rfl rfl (R_lk t12 h12 rfl rfl (R_callk (show_pure ia oa ((prs ia oa src).1) g1 g2) rfl (R_mv rfl (R_ext rfl rfl ?_)))))))
 refine R_ext rfl rfl (R_mv rfl (R_mv rfl (R_e (W_r (R_lk t3 h3 rfl rfl (R_lk t4 h4 rfl rfl (R_mv rfl ?_)))))))
 refine R_callk (prs_pure ia oa ((shwT ia oa ((prs ia oa src).1)).1) g1 g2) rfl (R_mv rfl (R_ext rfl rfl (R_ext rfl rfl (R_ext rfl rfl (R_alloc (i:=17) (n:=0) (m:=3) rfl (congrArg Blk.ver h17) rfl (R_sk rfl rfl rfl rfl rfl rfl rfl rfl rfl (R_mv rfl ?_)))))))
 refine R_mv rfl (R_e ?_)
 refine W_seq_regc (fun T H=>T 2=(V.bool ((((((((decide ((((shwT ia oa ((prs ia oa src).1)).2)=(0:Int))∧((fval ((prs ia oa src).1))=(0:Int)))&&(sameF ((prs ia oa src).1) ((prs ia oa ((shwT ia oa ((prs ia oa src).1)).1)).1))))&&decide (((prs ia oa ((shwT ia oa ((prs ia oa src).1)).1)).2.1)=(0:Int))))&&decide (((prs ia oa ((shwT ia oa ((prs ia oa src).1)).1)).2.2)=(0:Int))))||false)))∧H 1=(bk 1 58 6 [[(V.sl (List.map cS (ia))),(V.sl (List.map cS (oa))),(iV (f.op)),(iV (f.arg)),(V.sl (List.map cF (f.kids))),(V.str src)]])∧H 3=(bk 1 37 1 [[(V.sl (List.map cS (ia)))]])∧H 4=(bk 1 37 1 [[(V.sl (List.map cS (oa)))]])∧H 5=(bk 1 24 3 [[(iV (f.op)),(iV (f.arg)),(V.sl (List.map cF (f.kids)))]])∧H 9=(⟨0,false,false,0,0,[]⟩:Blk)∧H 12=(bk 1 24 3 [[(iV ((prs ia oa src).1.op)),(iV ((prs ia oa src).1.arg)),(V.sl (List.map cF ((prs ia oa src).1.kids)))]])∧H 17=(bk 1 24 3 [[(iV ((prs ia oa ((shwT ia oa ((prs ia oa src).1)).1)).1.op)),(iV ((prs ia oa ((shwT ia oa ((prs ia oa src).1)).1)).1.arg)),(V.sl (List.map cF ((prs ia oa ((shwT ia oa ((prs ia oa src).1)).1)).1.kids)))]])∧True) ?_ ?_
 ·
  refine R_mv rfl (R_eql rfl rfl (R_mv rfl ?_))
  refine Ops_seg 4 (fun T H=>T 12=(V.mp 12 1 0 0)∧T 17=(V.mp 17 1 0 0)∧T 18=(iV ((prs ia oa ((shwT ia oa ((prs ia oa src).1)).1)).2.1))∧T 19=(iV ((prs ia oa ((shwT ia oa ((prs ia oa src).1)).1)).2.2))∧T 117=(V.bool (decide ((((shwT ia oa ((prs ia oa src).1)).2)=(0:Int))∧((fval ((prs ia oa src).1))=(0:Int)))))∧H 1=(bk 1 58 6 [[(V.sl (List.map cS (ia))),(V.sl (List.map cS (oa))),(iV (f.op)),(iV (f.arg)),(V.sl (List.map cF (f.kids))),(V.str src)]])∧H 3=(bk 1 37 1 [[(V.sl (List.map cS (ia)))]])∧H 4=(bk 1 37 1 [[(V.sl (List.map cS (oa)))]])∧H 5=(bk 1 24 3 [[(iV (f.op)),(iV (f.arg)),(V.sl (List.map cF (f.kids)))]])∧H 9=(⟨0,false,false,0,0,[]⟩:Blk)∧H 12=(bk 1 24 3 [[(iV ((prs ia oa src).1.op)),(iV ((prs ia oa src).1.arg)),(V.sl (List.map cF ((prs ia oa src).1.kids)))]])∧H 17=(bk 1 24 3 [[(iV ((prs ia oa ((shwT ia oa ((prs ia oa src).1)).1)).1.op)),(iV ((prs ia oa ((shwT ia oa ((prs ia oa src).1)).1)).1.arg)),(V.sl (List.map cF ((prs ia oa ((shwT ia oa ((prs ia oa src).1)).1)).1.kids)))]])∧True) ?_ ?_
  ·
   by_cases g19:((shwT ia oa ((prs ia oa src).1)).2)=(0:Int)
   ·
    refine G_yes (edT g19 rfl) (R_lk t12 h12 rfl rfl (G_yes (edT g19 rfl) (R_callk (fvalid_pure ((prs ia oa src).1)) rfl (G_yes (edT g19 rfl) (R_eql rfl rfl (R_pickT (edT g19 rfl) rfl ?_))))))
    exact ⟨t12,rfl,rfl,rfl,(dec_andT g19),h1,h3,h4,h5,h9,h12,rfl,trivial⟩
   ·
    refine G_n (edF g19 rfl) (G_n (edF g19 rfl) (G_n (edF g19 rfl) (R_pickF (edF g19 rfl) rfl ?_)))
    exact ⟨t12,rfl,rfl,rfl,(dec_andF g19),h1,h3,h4,h5,h9,h12,rfl,trivial⟩
  intro T H ⟨t12,t17,t18,t19,t117,h1,h3,h4,h5,h9,h12,h17,_⟩
  refine R_mv t117 ?_
  refine Ops_seg 4 (fun T H=>T 18=(iV ((prs ia oa ((shwT ia oa ((prs ia oa src).1)).1)).2.1))∧T 19=(iV ((prs ia oa ((shwT ia oa ((prs ia oa src).1)).1)).2.2))∧T 122=(V.bool ((decide ((((shwT ia oa ((prs ia oa src).1)).2)=(0:Int))∧((fval ((prs ia oa src).1))=(0:Int)))&&(sameF ((prs ia oa src).1) ((prs ia oa ((shwT ia oa ((prs ia oa src).1)).1)).1)))))∧H 1=(bk 1 58 6 [[(V.sl (List.map cS (ia))),(V.sl (List.map cS (oa))),(iV (f.op)),(iV (f.arg)),(V.sl (List.map cF (f.kids))),(V.str src)]])∧H 3=(bk 1 37 1 [[(V.sl (List.map cS (ia)))]])∧H 4=(bk 1 37 1 [[(V.sl (List.map cS (oa)))]])∧H 5=(bk 1 24 3 [[(iV (f.op)),(iV (f.arg)),(V.sl (List.map cF (f.kids)))]])∧H 9=(⟨0,false,false,0,0,[]⟩:Blk)∧H 12=(bk 1 24 3 [[(iV ((prs ia oa src).1.op)),(iV ((prs ia oa src).1.arg)),(V.sl (List.map cF ((prs ia oa src).1.kids)))]])∧H 17=(bk 1 24 3 [[(iV ((prs ia oa ((shwT ia oa ((prs ia oa src).1)).1)).1.op)),(iV ((prs ia oa ((shwT ia oa ((prs ia oa src).1)).1)).1.arg)),(V.sl (List.map cF ((prs ia oa ((shwT ia oa ((prs ia oa src).1)).1)).1.kids)))]])∧True) ?_ ?_
  ·
   by_cases g20:(((shwT ia oa ((prs ia oa src).1)).2)=(0:Int))∧((fval ((prs ia oa src).1))=(0:Int))
   ·
    refine G_yes (edT g20 rfl) (R_lk t12 h12 rfl rfl (G_yes (edT g20 rfl) (R_lk t17 h17 rfl rfl (G_yes (edT g20 rfl) (R_callk (rsame_pure ((prs ia oa src).1) ((prs ia oa ((shwT ia oa ((prs ia oa src).1)).1)).1)) rfl (R_pickT (edT g20 rfl) rfl ?_))))))
    exact ⟨t18,t19,(dbandT g20),h1,h3,h4,h5,h9,h12,h17,trivial⟩
   ·
    refine G_n (edF g20 rfl) (G_n (edF g20 rfl) (G_n (edF g20 rfl) (R_pickF (edF g20 rfl) rfl ?_)))
    exact ⟨t18,t19,(dbandF g20),h1,h3,h4,h5,h9,h12,h17,trivial⟩
  intro T H ⟨t18,t19,t122,h1,h3,h4,h5,h9,h12,h17,_⟩
  refine R_mv t122 ?_
  refine Ops_seg 3 (fun T H=>T 19=(iV ((prs ia oa ((shwT ia oa ((prs ia oa src).1)).1)).2.2))∧T 126=(V.bool ((((decide ((((shwT ia oa ((prs ia oa src).1)).2)=(0:Int))∧((fval ((prs ia oa src).1))=(0:Int)))&&(sameF ((prs ia oa src).1) ((prs ia oa ((shwT ia oa ((prs ia oa src).1)).1)).1))))&&decide (((prs ia oa ((shwT ia oa ((prs ia oa src).1)).1)).2.1)=(0:Int)))))∧H 1=(bk 1 58 6 [[(V.sl (List.map cS (ia))),(V.sl (List.map cS (oa))),(iV (f.op)),(iV (f.arg)),(V.sl (List.map cF (f.kids))),(V.str src)]])∧H 3=(bk 1 37 1 [[(V.sl (List.map cS (ia)))]])∧H 4=(bk 1 37 1 [[(V.sl (List.map cS (oa)))]])∧H 5=(bk 1 24 3 [[(iV (f.op)),(iV (f.arg)),(V.sl (List.map cF (f.kids)))]])∧H 9=(⟨0,false,false,0,0,[]⟩:Blk)∧H 12=(bk 1 24 3 [[(iV ((prs ia oa src).1.op)),(iV ((prs ia oa src).1.arg)),(V.sl (List.map cF ((prs ia oa src).1.kids)))]])∧H 17=(bk 1 24 3 [[(iV ((prs ia oa ((shwT ia oa ((prs ia oa src).1)).1)).1.op)),(iV ((prs ia oa ((shwT ia oa ((prs ia oa src).1)).1)).1.arg)),(V.sl (List.map cF ((prs ia oa ((shwT ia oa ((prs ia oa src).1)).1)).1.kids)))]])∧True) ?_ ?_
  ·
   by_cases g21:((decide ((((shwT ia oa ((prs ia oa src).1)).2)=(0:Int))∧((fval ((prs ia oa src).1))=(0:Int)))&&(sameF ((prs ia oa src).1) ((prs ia oa ((shwT ia oa ((prs ia oa src).1)).1)).1))))=true
   ·
    have g21x:=g21
    simp only [Bool.and_eq_true,Bool.or_eq_true,Bool.not_eq_true',decide_eq_true_eq] at g21x
    refine G_yes (ebT g21 rfl) (R_mv t18 (G_yes (ebT g21 rfl) (R_eql rfl rfl (R_pickT (ebT g21 rfl) rfl ?_))))
    exact ⟨t19,(bandT g21),h1,h3,h4,h5,h9,h12,h17,trivial⟩
   ·
    have g21x:=g21
    simp only [Bool.and_eq_true,Bool.or_eq_true,Bool.not_eq_true',decide_eq_true_eq] at g21x
    refine G_n (ebF g21 rfl) (G_n (ebF g21 rfl) (R_pickF (ebF g21 rfl) rfl ?_))
    exact ⟨t19,(bandF g21),h1,h3,h4,h5,h9,h12,h17,trivial⟩
  intro T H ⟨t19,t126,h1,h3,h4,h5,h9,h12,h17,_⟩
  refine R_mv t126 ?_
  refine Ops_seg 3 (fun T H=>T 130=(V.bool ((((((decide ((((shwT ia oa ((prs ia oa src).1)).2)=(0:Int))∧((fval ((prs ia oa src).1))=(0:Int)))&&(sameF ((prs ia oa src).1) ((prs ia oa ((shwT ia oa ((prs ia oa src).1)).1)).1))))&&decide (((prs ia oa ((shwT ia oa ((prs ia oa src).1)).1)).2.1)=(0:Int))))&&decide (((prs ia oa ((shwT ia oa ((prs ia oa src).1)).1)).2.2)=(0:Int)))))∧H 1=(bk 1 58 6 [[(V.sl (List.map cS (ia))),(V.sl (List.map cS (oa))),(iV (f.op)),(iV (f.arg)),(V.sl (List.map cF (f.kids))),(V.str src)]])∧H 3=(bk 1 37 1 [[(V.sl (List.map cS (ia)))]])∧H 4=(bk 1 37 1 [[(V.sl (List.map cS (oa)))]])∧H 5=(bk 1 24 3 [[(iV (f.op)),(iV (f.arg)),(V.sl (List.map cF (f.kids)))]])∧H 9=(⟨0,false,false,0,0,[]⟩:Blk)∧H 12=(bk 1 24 3 [[(iV ((prs ia oa src).1.op)),(iV ((prs ia oa src).1.arg)),(V.sl (List.map cF ((prs ia oa src).1.kids)))]])∧H 17=(bk 1 24 3 [[(iV ((prs ia oa ((shwT ia oa ((prs ia oa src).1)).1)).1.op)),(iV ((prs ia oa ((shwT ia oa ((prs ia oa src).1)).1)).1.arg)),(V.sl (List.map cF ((prs ia oa ((shwT ia oa ((prs ia oa src).1)).1)).1.kids)))]])∧True) ?_ ?_
  ·
   by_cases g22:((((decide ((((shwT ia oa ((prs ia oa src).1)).2)=(0:Int))∧((fval ((prs ia oa src).1))=(0:Int)))&&(sameF ((prs ia oa src).1) ((prs ia oa ((shwT ia oa ((prs ia oa src).1)).1)).1))))&&decide (((prs ia oa ((shwT ia oa ((prs ia oa src).1)).1)).2.1)=(0:Int))))=true
   ·
    have g22x:=g22
    simp only [Bool.and_eq_true,Bool.or_eq_true,Bool.not_eq_true',decide_eq_true_eq] at g22x
    refine G_yes (ebT g22 rfl) (R_mv t19 (G_yes (ebT g22 rfl) (R_eql rfl rfl (R_pickT (ebT g22 rfl) rfl ?_))))
    exact ⟨(bandT g22),h1,h3,h4,h5,h9,h12,h17,trivial⟩
   ·
    have g22x:=g22
    simp only [Bool.and_eq_true,Bool.or_eq_true,Bool.not_eq_true',decide_eq_true_eq] at g22x
    refine G_n (ebF g22 rfl) (G_n (ebF g22 rfl) (R_pickF (ebF g22 rfl) rfl ?_))
    exact ⟨(bandF g22),h1,h3,h4,h5,h9,h12,h17,trivial⟩
  intro T H ⟨t130,h1,h3,h4,h5,h9,h12,h17,_⟩
  refine R_mv t130 ?_
  refine Ops_seg 2 (fun T H=>T 133=(V.bool ((((((((decide ((((shwT ia oa ((prs ia oa src).1)).2)=(0:Int))∧((fval ((prs ia oa src).1))=(0:Int)))&&(sameF ((prs ia oa src).1) ((prs ia oa ((shwT ia oa ((prs ia oa src).1)).1)).1))))&&decide (((prs ia oa ((shwT ia oa ((prs ia oa src).1)).1)).2.1)=(0:Int))))&&decide (((prs ia oa ((shwT ia oa ((prs ia oa src).1)).1)).2.2)=(0:Int))))||false)))∧H 1=(bk 1 58 6 [[(V.sl (List.map cS (ia))),(V.sl (List.map cS (oa))),(iV (f.op)),(iV (f.arg)),(V.sl (List.map cF (f.kids))),(V.str src)]])∧H 3=(bk 1 37 1 [[(V.sl (List.map cS (ia)))]])∧H 4=(bk 1 37 1 [[(V.sl (List.map cS (oa)))]])∧H 5=(bk 1 24 3 [[(iV (f.op)),(iV (f.arg)),(V.sl (List.map cF (f.kids)))]])∧H 9=(⟨0,false,false,0,0,[]⟩:Blk)∧H 12=(bk 1 24 3 [[(iV ((prs ia oa src).1.op)),(iV ((prs ia oa src).1.arg)),(V.sl (List.map cF ((prs ia oa src).1.kids)))]])∧H 17=(bk 1 24 3 [[(iV ((prs ia oa ((shwT ia oa ((prs ia oa src).1)).1)).1.op)),(iV ((prs ia oa ((shwT ia oa ((prs ia oa src).1)).1)).1.arg)),(V.sl (List.map cF ((prs ia oa ((shwT ia oa ((prs ia oa src).1)).1)).1.kids)))]])∧True) ?_ ?_
  ·
   by_cases g23:((((((decide ((((shwT ia oa ((prs ia oa src).1)).2)=(0:Int))∧((fval ((prs ia oa src).1))=(0:Int)))&&(sameF ((prs ia oa src).1) ((prs ia oa ((shwT ia oa ((prs ia oa src).1)).1)).1))))&&decide (((prs ia oa ((shwT ia oa ((prs ia oa src).1)).1)).2.1)=(0:Int))))&&decide (((prs ia oa ((shwT ia oa ((prs ia oa src).1)).1)).2.2)=(0:Int))))=true
   ·
    have g23x:=g23
    simp only [Bool.and_eq_true,Bool.or_eq_true,Bool.not_eq_true',decide_eq_true_eq] at g23x
    refine G_yes (ebT g23 rfl) (R_callk (aw45_pure) rfl (R_pickT (ebT g23 rfl) rfl ?_))
    exact ⟨(borT g23),h1,h3,h4,h5,h9,h12,h17,trivial⟩
   ·
    have g23x:=g23
    simp only [Bool.and_eq_true,Bool.or_eq_true,Bool.not_eq_true',decide_eq_true_eq] at g23x
    refine G_n (ebF g23 rfl) (R_pickF (ebF g23 rfl) rfl ?_)
    exact ⟨(borF g23),h1,h3,h4,h5,h9,h12,h17,trivial⟩
  intro T H ⟨t133,h1,h3,h4,h5,h9,h12,h17,_⟩
  refine R_mv t133 ?_
  exact R_nil ⟨rfl,h1,h3,h4,h5,h9,h12,h17,trivial⟩
 intro T H ⟨t2,h1,h3,h4,h5,h9,h12,h17,_⟩
 refine W_ret ?_
 refine Ret_1 t2 (fz_bool ?_)
 · first|rfl|(rw [e3]; rfl)|(rw [e5,e6,e7]; simp [sameF_self])
end Go.Proofs.Ytdmcmkccifmofaa
namespace Go.Proofs.Ytdmcmkccifmofaa
open Go Go.ChangeShapes Go.WideShapes Go.ChangeAt Go.RowKit
def okS (P:Program) (S:List TypeId) (t:TypeId):Bool:=match P.underlying t with
  |some .bool=>true
  |some (.int _)=>true
  |some .string=>true
  |some (.slice e)=>decide (e∈S)&&decide (P.cellsOf e≠0)
  |some (.struct fs)=>fs.toList.all (fun f=>decide (f.type∈S))&&tile P (P.cellsOf t) 0 fs.toList
  |some (.array m e)=>decide (e∈S)&&decide (m*P.cellsOf e=P.cellsOf t)
  |_=>false
section
variable {H:Type} {enc:TypeId×Value→H} {P:Program} {base:Nat} {spare:Nat→Bool} {held:Bool}
theorem trod_RS {x : Cx} (hZ : ∀ b, b < x.w.heap.size → x.Z b) {S : List TypeId} (hS : ∀ t ∈ S, okS P S t = true) : ∀ (fuel : Nat) (t : TypeId), t ∈ S → ∀ (cs : List Value) (y : DataW H × List MemPlace), DataW.trod enc P x.w base spare held fuel t cs = some y →
    ∃ vs,Shp P fuel t vs∧RC x vs cs:=by
  intro n
  induction n with
  |zero=>intro t _ cs y hy; simp [DataW.trod] at hy
  | succ n ih =>
    intro t hm cs y hy
    have hok:=hS t hm
    have one: ∀ {v:V} {c:Value},R x v c→RC x [v] [c]:=fun {v c} h=>⟨rfl,fun j u hj=>by
      cases j with
      |zero=>simp at hj; subst hj; exact h
      |succ j=>simp at hj⟩
    simp only [okS] at hok
    split at hok
    · rename_i ht
      simp only [Shp,ht]
      obtain ⟨b,rfl,_⟩:=DataW.trod_bool ht hy
      exact ⟨[.bool b],⟨b,rfl⟩,one (.bool b)⟩
    · rename_i k ht
      simp only [Shp,ht]
      obtain ⟨m,rfl,_⟩:=DataW.trod_int ht hy
      exact ⟨[.int k m],⟨m,rfl⟩,one (.int k m)⟩
    · rename_i ht
      simp only [Shp,ht]
      obtain ⟨s,rfl,_⟩:=DataW.trod_string ht hy
      exact ⟨[.str s.data.toList],⟨_,rfl⟩,one (R.str s.data.toList)⟩
    · rename_i e ht
      simp only [Shp,ht]
      simp only [Bool.and_eq_true,decide_eq_true_eq] at hok
      obtain ⟨hok,hnz⟩:=hok
      rcases DataW.trod_slice ht hy with ⟨rfl,_⟩|⟨a,len,cap,elems,rest,m,em,rfl,_,hb,hl,hc,hlen,hel,_,_⟩
      · exact ⟨[.sl []],⟨[],rfl,fun r hr=>by cases hr⟩,one .slnil⟩
      · obtain rfl:n=m:=by omega
        have hall: ∀ i,i < len→ ∃ r:List V,Shp P n e r∧ ∃ ci:List Value,x.w.cells? base (a.add (i*P.cellsOf e)) (P.cellsOf e)=some ci∧RC x r ci:=by
          intro i hi
          have h1:=hel i hi
          rw [List.getElem?_eq_getElem (by omega)] at h1
          cases h2:x.w.cells? base (a.add (i*P.cellsOf e)) (P.cellsOf e) with
          |none=>rw [h2] at h1; cases h1
          | some ci =>
            rw [h2] at h1
            obtain ⟨vs,h3,h4⟩:=ih e hok ci _ h1
            exact ⟨vs,h3,ci,rfl,h4⟩
        obtain ⟨rows,hrl,hrows⟩:=choiceL hall
        have hcell: ∀ (r:Nat) (row:List V) (j:Nat) (v:V),rows[r]?=some row→row[j]?=some v→
            ∃ c,x.w.cell? (a.add (r*P.cellsOf e+j))=some c∧R x v c:=by
          intro r row j v hr hj
          obtain ⟨_,ci,g1,g2⟩:=hrows r row hr
          obtain ⟨_,g4,g5⟩:=World.cells?_some g1
          have hjlt:j < ci.length:=by have:=(List.getElem?_eq_some_iff.1 hj).1; rw [← g2.1]; exact this
          have g6:=g5 j (by omega)
          rw [List.getElem?_eq_getElem hjlt,Addr.add_add] at g6
          refine ⟨_,g6,?_⟩
          have:=g2.2 j v hj
          rw [List.getD_eq_getElem?_getD,List.getElem?_eq_getElem hjlt] at this
          exact this
        have key:=R.sl (x:=x) rows a cap (P.cellsOf e) (fun k=>(x.w.cell? (a.add k)).getD undef) (by omega) hc ?_ ?_ ?_ ?_
        · rw [hrl] at key
          exact ⟨[.sl rows],⟨rows,rfl,fun r hr=>by obtain ⟨i,hi⟩:=List.getElem?_of_mem hr; exact (hrows i r hi).1⟩,one key⟩
        · intro hne
          cases hrr:rows with
          |nil=>exact (hne hrr).elim
          | cons r0 rs =>
            obtain ⟨_,ci,g1,g2⟩:=hrows 0 r0 (by rw [hrr]; rfl)
            · obtain ⟨_,g4,g5⟩:=World.cells?_some g1
              have g6:=g5 0 (by omega)
              rw [List.getElem?_eq_getElem (by omega),Addr.add_add] at g6
              have hlt:(a.add (0*P.cellsOf e+0)).block < x.w.heap.size:=by
                unfold World.cell? at g6
                split at g6
                · rename_i hh
                  exact (Array.getElem?_eq_some_iff.1 hh).1
                · cases g6
              exact hZ _ (by simpa [Addr.add] using hlt)
        · intro r hr
          obtain ⟨i,hi⟩:=List.getElem?_of_mem hr
          obtain ⟨_,ci,g1,g2⟩:=hrows i r hi
          rw [g2.1]
          exact (World.cells?_some g1).2.1
        · intro r row j v hr hj
          obtain ⟨c,g1,_⟩:=hcell r row j v hr hj
          rw [g1]; rfl
        · intro r row j v hr hj
          obtain ⟨c,g1,g2⟩:=hcell r row j v hr hj
          simp only [g1,Option.getD_some]
          exact g2
    · rename_i fs ht
      simp only [Shp,ht]
      simp only [Bool.and_eq_true] at hok
      obtain ⟨xs,m,em,_,hl,hxl,hf⟩:=DataW.trod_struct ht hy
      obtain rfl:n=m:=by omega
      have hfs: ∀ f∈fs.toList,∃ z,DataW.trod enc P x.w base spare held n f.type ((cs.drop f.offset).take (P.cellsOf f.type))=some z:=by
        intro f hm
        obtain ⟨i,hi⟩:=List.getElem?_of_mem hm
        have hi':fs[i]?=some f:=by simpa using hi
        have hlt:i < xs.length:=by
          have:=(Array.getElem?_eq_some_iff.1 hi').1
          omega
        exact ⟨xs[i],by rw [hf i f hi',List.getElem?_eq_getElem hlt]⟩
      have hok':=List.all_eq_true.1 hok.1
      have main: ∀ (l:List Field) (off:Nat),(∀ f∈l,f∈fs.toList)→tile P (P.cellsOf t) off l=true→off≤cs.length→ ∃ vs,ShpL (Shp P n) l vs∧RC x vs (cs.drop off):=by
        intro l
        induction l with
        | nil =>
          intro off _ htl hle
          simp only [tile,decide_eq_true_eq] at htl
          refine ⟨[],rfl,?_⟩
          rw [List.drop_of_length_le (by omega)]
          exact ⟨rfl,fun j v hj=>by simp at hj⟩
        | cons f r ihr =>
          intro off hsub htl hle
          simp only [tile,Bool.and_eq_true,decide_eq_true_eq] at htl
          obtain ⟨z,hz⟩:=hfs f (hsub f (List.mem_cons_self ..))
          obtain ⟨va,g1,g2⟩:=ih f.type (of_decide_eq_true (hok' f (hsub f (List.mem_cons_self ..)))) _ _ hz
          have hoff:off+P.cellsOf f.type≤cs.length:=by
            rw [hl]
            have: ∀ (l:List Field) (o:Nat),tile P (P.cellsOf t) o l=true→o≤P.cellsOf t:=by
              intro l
              induction l with
              |nil=>intro o h; simp only [tile,decide_eq_true_eq] at h; omega
              |cons f r ih=>intro o h; simp only [tile,Bool.and_eq_true,decide_eq_true_eq] at h; have:=ih _ h.2; omega
            exact this _ _ htl.2
          obtain ⟨vb,g3,g4⟩:=ihr (off+P.cellsOf f.type) (fun q hq=>hsub q (List.mem_cons_of_mem _ hq)) htl.2 hoff
          refine ⟨va++vb,⟨va,vb,rfl,g1,g3⟩,?_⟩
          have hsplit:cs.drop off=(cs.drop off).take (P.cellsOf f.type)++cs.drop (off+P.cellsOf f.type):=by
            rw [← List.drop_drop,List.take_append_drop]
          rw [hsplit]
          rw [htl.1] at g2
          exact RC_append g2 g4
      obtain ⟨vs,g1,g2⟩:=main fs.toList 0 (fun _ h=>h) hok.2 (Nat.zero_le _)
      exact ⟨vs,g1,by simpa using g2⟩
    · rename_i m e ht
      simp only [Shp,ht]
      simp only [Bool.and_eq_true,decide_eq_true_eq] at hok
      obtain ⟨xs,f,em,_,hl,hxl,hf⟩:=DataW.trod_array ht hy
      obtain rfl:n=f:=by omega
      have main: ∀ (k i:Nat),i+k=m→ ∃ vs,ShpR (Shp P n e) k vs∧RC x vs (cs.drop (i*P.cellsOf e)):=by
        intro k
        induction k with
        | zero =>
          intro i hi
          refine ⟨[],rfl,?_⟩
          rw [List.drop_of_length_le (by rw [hl,← hok.2,show i=m by omega]; exact Nat.le_refl _)]
          exact ⟨rfl,fun j v hj=>by simp at hj⟩
        | succ k ihk =>
          intro i hi
          have hlt:i < m:=by omega
          have hz:=hf i hlt
          rw [List.getElem?_eq_getElem (by omega)] at hz
          obtain ⟨va,g1,g2⟩:=ih e hok.1 _ _ hz
          obtain ⟨vb,g3,g4⟩:=ihk (i+1) (by omega)
          refine ⟨va++vb,⟨va,vb,rfl,g1,g3⟩,?_⟩
          have hsplit:cs.drop (i*P.cellsOf e)=(cs.drop (i*P.cellsOf e)).take (P.cellsOf e)++cs.drop ((i+1)*P.cellsOf e):=by
            rw [Nat.add_mul,Nat.one_mul,← List.drop_drop,List.take_append_drop]
          rw [hsplit]
          exact RC_append g2 g4
      obtain ⟨vs,g1,g2⟩:=main m 0 (by omega)
      exact ⟨vs,g1,by simpa using g2⟩
    · cases hok
theorem open_RS {x:Cx} (hZ: ∀ b,b < x.w.heap.size→x.Z b) {S:List TypeId} (hS: ∀ t∈S,okS P S t=true) {t:TypeId} (ht0:t∈S) {r:Reach} {b0 base:Nat} {spare:Nat→Bool} {held:Bool} {v:Value} {d:DataW H} {ps:List MemPlace}
    (hval:Value.okWide P x.w r b0 t v) (hd:DataW.Trod enc P x.w base spare held t v d ps): ∃ n vs,Shp P n t vs∧R x (packV P t vs) v:=by
  obtain ⟨fuel,hf⟩:=hd
  obtain ⟨vs,h1,h2⟩:=trod_RS hZ hS fuel t ht0 _ _ hf
  refine ⟨fuel,vs,h1,?_⟩
  have hok:=hS t ht0
  unfold packV
  simp only [okS] at hok
  split at hok
  · rename_i ht
    obtain ⟨b,rfl⟩:=okWide_bool ht hval
    rw [ht]; exact RC_one h2
  · rename_i k ht
    obtain ⟨m,rfl⟩:=okWide_int ht hval
    rw [ht]; exact RC_one h2
  · rename_i ht
    obtain ⟨s,rfl⟩:=okWide_string ht hval
    rw [ht]; exact RC_one h2
  · rename_i e ht
    obtain ⟨a,l,c,rfl⟩:=okWide_slice ht hval
    rw [ht]; exact RC_one h2
  · rename_i fs ht
    obtain ⟨cs,rfl,_⟩:=okWide_struct ht hval
    rw [ht]
    refine .agg vs cs (by have:=h2.1; simp [Value.cells] at this; omega) fun j u hj=>?_
    have:=h2.2 j u hj
    rw [List.getD_eq_getElem?_getD] at this
    rw [Array.getD_eq_getD_getElem?,← Array.getElem?_toList]
    exact this
  · rename_i m e ht
    have hval2:=hval
    simp only [Value.okWide,ht] at hval2
    obtain ⟨cs,rfl,_⟩:=hval2
    rw [ht]
    refine .agg vs cs (by have:=h2.1; simp [Value.cells] at this; omega) fun j u hj=>?_
    have:=h2.2 j u hj
    rw [List.getD_eq_getElem?_getD] at this
    rw [Array.getD_eq_getD_getElem?,← Array.getElem?_toList]
    exact this
  · cases hok
def ShpB (P:Program):List TypeId→List V→Prop
  |[],vs=>vs=[]
  |t::ts,vs=> ∃ n a b,vs=packV P t a::b∧Shp P n t a∧ShpB P ts b
theorem open_allS {x:Cx} (hZ: ∀ b,b < x.w.heap.size→x.Z b) {S:List TypeId} (hS: ∀ t∈S,okS P S t=true) {r:Reach} {b0 base:Nat} {spare:Nat→Bool} {held:Bool}: ∀ (ts:List TypeId) (vs:List Value) (ds:List (DataW H)) (ps:List MemPlace),
    (∀ t∈ts,t∈S)→(∀ (j:Nat) t v,ts[j]?=some t→vs[j]?=some v→Value.okWide P x.w r b0 t v)→DataW.TrodAll enc P x.w base spare held ts vs ds ps→
    ∃ us,ShpB P ts us∧RL x us vs
  | [], vs, ds, ps, _, _, h => by
    obtain ⟨rfl,rfl,rfl⟩:=trodAll_nil h
    exact ⟨[],rfl,rfl,fun j v hj=>by simp at hj⟩
  | t :: ts, vs, ds, ps, hok, hval, h => by
    obtain ⟨v,vs1,d,ds1,a,b,rfl,rfl,rfl,h1,h2⟩:=trodAll_cons h
    obtain ⟨n,ws,g1,g2⟩:=open_RS hZ hS (hok t (List.mem_cons_self ..)) (hval 0 t v rfl rfl) h1
    obtain ⟨us,g3,g4⟩:=open_allS hZ hS ts vs1 ds1 b (fun q hq=>hok q (List.mem_cons_of_mem _ hq)) (fun j q u hq hu=>hval (j+1) q u (by simpa using hq) (by simpa using hu)) h2
    refine ⟨packV P t ws::us,⟨n,ws,us,rfl,g1,g3⟩,by simp [g4.1],fun j u hj=>?_⟩
    cases j with
    |zero=>simp at hj; subst hj; exact g2
    |succ j=>exact g4.2 j u (by simpa using hj)
theorem law_postS {f:FuncId} {fn:Func} {s:ChangeSpec} {apart fresh handsOn again:Bool} {tb:Nat} {S:List TypeId} {W:World} {args:Array Value} {ds gs:List (DataW H)} {before:List MemPlace}
    (hl:laidOutB P=true) (hres:fn.resultTypes=#[tb]) (htb:P.underlying tb=some .bool) (hS: ∀ t∈S,okS P S t=true) (hts: ∀ t∈fn.params.toList,t∈S∧P.readableRec t=true∧t < P.types.size)
    (hvars:s.vars=[]) (hs:s.fn H (ds++gs)={results:=[.lit (.bool true)],args:=ds})
    (hlaw: ∀ us,ShpB P fn.params.toList us→PureC P f us (.bool true))
    (hval: ∀ (j:Nat) t v,fn.params[j]?=some t→args[j]?=some v→Value.okWide P W .any 0 t v)
    (hW:DataW.Whole enc P fn.params.toList s.vars apart W args.toList ds gs before):
    Calls P f args W fun e W'=> ∃ v,e=.returned v∧s.post enc P fn apart fresh handsOn again W args v W':=by
  have hW':=hW
  obtain ⟨p,q,hA,hV,rfl,hfz,hnd⟩:=hW
  rw [hvars] at hV
  obtain ⟨rfl,rfl⟩:=trodVars_none hV
  have hlt:=hW'.lt
  let x:Cx:=start {w:=W,Z:=fun b=>b < W.heap.size,σ:=fun _=>0,H:=H0} (fun b=>b < W.heap.size)
  have hx:Inv x:=start_ok fun b hb=>hb
  obtain ⟨us,g1,g2⟩:=open_allS (x:=x) (fun b hb=>hb) hS fn.params.toList args.toList ds p (fun t ht=>(hts t ht).1) (fun j t v h1 h2=>hval j t v (by simpa using h1) (by simpa using h2)) hA
  have hc:=(hlaw us g1 H0).2 x args.toList rfl hx g2
  rw [Array.toArray_toList] at hc
  refine Calls.mono (show Calls P f args W _ from hc) fun e W' h=>?_
  obtain ⟨c,y,rfl,rfl,h3,h4,h5,h6⟩:=h
  cases h5
  have hb:Below W.heap.size W y.w:=below_of_frame h6 (fun _=>rfl) rfl
  refine ⟨_,rfl,post_of_below (pa:=p) (pv:=[]) hW' (fun b sp hd=>?_) (fun sp hsp=>?_) (fun sp _=>?_) (by simp) hb ?_⟩
  · rw [hs,hres]
    exact trodAll_mk1 (shut_bool htb true)
  · rw [hs]
    exact trodAll_stays hl hb _ _ _ _ (fun t ht=>(hts t ht).2) hA (fun z hz=>hlt z (by simpa using hz)) (fun z hz=>hsp z (by simpa using hz))
  · rw [hs,hvars]; rfl
  · exact ok_one hres rfl (okWide_bool_mk htb true)
end
section
variable {P:Program} {n t:Nat} {vs:List V}
theorem shq_int {k:IntKind} (ht:P.underlying t=some (.int k)) (h:Shp P n t vs): ∃ m:Int,vs=[.int k m]:=by
  cases n with
  |zero=>exact h.elim
  |succ n=>exact shp_int ht h
theorem shq_str (ht:P.underlying t=some .string) (h:Shp P n t vs): ∃ s:List UInt8,vs=[.str s]:=by
  cases n with
  |zero=>exact h.elim
  |succ n=>exact shp_str ht h
theorem shq_slice {e:Nat} {α:Type} {f:α→List V} (ht:P.underlying t=some (.slice e)) (he: ∀ m vs,Shp P m e vs→ ∃ a,vs=f a) (h:Shp P n t vs): ∃ l:List α,vs=[.sl (l.map f)]:=by
  cases n with
  |zero=>exact h.elim
  |succ n=>exact shp_slice ht (he n) h
theorem shq_step {fs:Array Field} (ht:P.underlying t=some (.struct fs)) (h:Shp P n t vs): ∃ m,n=m+1∧ShpL (Shp P m) fs.toList vs:=by
  cases n with
  |zero=>exact h.elim
  |succ n=>exact ⟨n,rfl,shp_step ht h⟩
theorem shq_kids {e:Nat} {α:Type} {f:α→List V} {N:Nat} (ht:P.underlying t=some (.slice e)) (he: ∀ m,m < N→ ∀ vs,Shp P m e vs→ ∃ a,vs=f a) (hn:n < N) (h:Shp P n t vs): ∃ l:List α,vs=[.sl (l.map f)]:=by
  cases n with
  |zero=>exact h.elim
  |succ n=>exact shp_slice ht (he n (by omega)) h
theorem shpB_cons {ts:List TypeId} {us:List V} (h:ShpB P (t::ts) us): ∃ n a b,us=packV P t a::b∧Shp P n t a∧ShpB P ts b:=h
theorem shpB_nil {us:List V} (h:ShpB P [] us):us=[]:=h
end
end Go.Proofs.Ytdmcmkccifmofaa
namespace Go.Proofs.Ytdmcmkccifmofaa
open Go
abbrev cSL (l:List (List UInt8)):List V:=[.sl (l.map cS)]
abbrev cAl (l:List (List UInt8)):List V:=[.sl (l.map cS)]
structure Tri where
  ia:List (List UInt8)
  oa:List (List UInt8)
  f:Fm
  s:List UInt8
abbrev cTri (t:Tri):List V:=[.sl (t.ia.map cS),.sl (t.oa.map cS),iV t.f.op,iV t.f.arg,.sl (t.f.kids.map cF),.str t.s]
end Go.Proofs.Ytdmcmkccifmofaa
namespace Go.Proofs.Ytdmcmkccifmofaa
open Go Go.Proofs Go.Proofs.Ytdmcmkccifmofaa Go.ChangeShapes Go.WideShapes Go.ChangeAt Go.RowKit
structure UT (P:Program):Prop where
  u35:P.underlying 35=some (.slice 9)
  u9:P.underlying 9=some (.string)
  u37: ∃ f0:Field,P.underlying 37=some (.struct #[f0])∧f0.type=35
  u3:P.underlying 3=some (.int .i64)
  u22:P.underlying 22=some (.slice 24)
  u24: ∃ f0 f1 f2:Field,P.underlying 24=some (.struct #[f0,f1,f2])∧f0.type=3∧f1.type=3∧f2.type=22
  u58: ∃ f0 f1 f2 f3:Field,P.underlying 58=some (.struct #[f0,f1,f2,f3])∧f0.type=37∧f1.type=37∧f2.type=24∧f3.type=9
theorem sh9 {P:Program} (U:UT P): ∀ (n:Nat) (vs:List V),Shp P n 9 vs→ ∃ a:(List UInt8),vs=cS a:=fun _ _ h=>shq_str U.u9 h
theorem sh35 {P:Program} (U:UT P): ∀ (n:Nat) (vs:List V),Shp P n 35 vs→ ∃ a:(List (List UInt8)),vs=cSL a:=fun _ _ h=>shq_slice (f:=cS) U.u35 (sh9 U) h
theorem sh37 {P:Program} (U:UT P): ∀ (n:Nat) (vs:List V),Shp P n 37 vs→ ∃ a:(List (List UInt8)),vs=cAl a:=by
  intro n
  induction n using Nat.strongRecOn with
  | ind n ih =>
    intro vs h
    obtain ⟨f0,hu,k0⟩:=U.u37
    obtain ⟨m,hm,h0⟩:=shq_step hu h
    obtain ⟨x0,u0,e0,h1⟩:=shpL_cons (c:=cSL) (fun vs h=>sh35 U m vs (by rw [k0] at h; exact h)) h0
    have e1:=shpL_nil h1
    exact ⟨x0,by rw [e0,e1]; rfl⟩
theorem sh3 {P:Program} (U:UT P): ∀ (n:Nat) (vs:List V),Shp P n 3 vs→ ∃ a:Int,vs=cI a:=fun _ _ h=>shq_int U.u3 h
theorem sh24 {P:Program} (U:UT P): ∀ (n:Nat) (vs:List V),Shp P n 24 vs→ ∃ a:Fm,vs=cF a:=by
  intro n
  induction n using Nat.strongRecOn with
  | ind n ih =>
    intro vs h
    obtain ⟨f0,f1,f2,hu,k0,k1,k2⟩:=U.u24
    obtain ⟨m,hm,h0⟩:=shq_step hu h
    obtain ⟨x0,u0,e0,h1⟩:=shpL_cons (c:=cI) (fun vs h=>sh3 U m vs (by rw [k0] at h; exact h)) h0
    obtain ⟨x1,u1,e1,h2⟩:=shpL_cons (c:=cI) (fun vs h=>sh3 U m vs (by rw [k1] at h; exact h)) h1
    obtain ⟨x2,u2,e2,h3⟩:=shpL_cons (c:=fun l:List Fm=>[V.sl (List.map cF l)]) (fun vs h=>shq_kids (N:=n) (n:=m) U.u22 ih (by omega) (by rw [k2] at h; exact h)) h2
    have e3:=shpL_nil h3
    exact ⟨(Fm.nd x0 x1 x2),by rw [e0,e1,e2,e3,cF_eq]; rfl⟩
theorem sh58 {P:Program} (U:UT P): ∀ (n:Nat) (vs:List V),Shp P n 58 vs→ ∃ a:Tri,vs=cTri a:=by
  intro n
  induction n using Nat.strongRecOn with
  | ind n ih =>
    intro vs h
    obtain ⟨f0,f1,f2,f3,hu,k0,k1,k2,k3⟩:=U.u58
    obtain ⟨m,hm,h0⟩:=shq_step hu h
    obtain ⟨x0,u0,e0,h1⟩:=shpL_cons (c:=cAl) (fun vs h=>sh37 U m vs (by rw [k0] at h; exact h)) h0
    obtain ⟨x1,u1,e1,h2⟩:=shpL_cons (c:=cAl) (fun vs h=>sh37 U m vs (by rw [k1] at h; exact h)) h1
    obtain ⟨x2,u2,e2,h3⟩:=shpL_cons (c:=cF) (fun vs h=>sh24 U m vs (by rw [k2] at h; exact h)) h2
    obtain ⟨x3,u3,e3,h4⟩:=shpL_cons (c:=cS) (fun vs h=>sh9 U m vs (by rw [k3] at h; exact h)) h3
    have e4:=shpL_nil h4
    exact ⟨⟨x0,x1,x2,x3⟩,by rw [e0,e1,e2,e3,e4,cF_eq]; rfl⟩
theorem ut:UT Try.prog:=⟨by kernel_rfl,by kernel_rfl,⟨_,Try.underlying37,rfl⟩,by kernel_rfl,by kernel_rfl,⟨_,_,_,Try.underlying24,rfl,rfl,rfl⟩,⟨_,_,_,_,Try.underlying58,rfl,rfl,rfl,rfl⟩⟩
theorem args7 {P:Program} (U:UT P) {us:List V} (h:ShpB P [58] us): ∃ (d0:Tri),us=[V.agg (cTri d0)]:=by
  obtain ⟨n0,a0,b0,e0,h0,h⟩:=shpB_cons h
  obtain ⟨d0,g0⟩:=sh58 U n0 a0 h0
  have q0:packV P 58 a0=V.agg (cTri d0):=by obtain ⟨_,_,_,_,hu,_⟩:=U.u58; rw [g0]; exact pack_struct hu _
  have e1:=shpB_nil h
  exact ⟨d0,by rw [e0,q0,e1]⟩
theorem own7:ownKnob Try.prog.godebug=none:=by kernel_rfl
theorem okS7: ∀ t∈[3,9,22,24,35,37,58],okS Try.prog [3,9,22,24,35,37,58] t=true:=by
  intro t ht
  simp only [List.mem_cons,List.not_mem_nil,or_false] at ht
  rcases ht with rfl|rfl|rfl|rfl|rfl|rfl|rfl
  · kernel_rfl
  · kernel_rfl
  · kernel_rfl
  · kernel_rfl
  · kernel_rfl
  · kernel_rfl
  · kernel_rfl
set_option maxRecDepth 100000 in
theorem lifted7 (os:Os) (started:os.Started) (H:Type) (enc:TypeId×Value→H):
    ReturnsInHanded {} Try.checked os 7 .any (Rows.formulaTripsSpec.pre6 enc Try.prog Try.f7 Rows.formulaTripsRow.domain false) (Rows.formulaTripsSpec.post enc Try.prog Try.f7 false true false false):=by
  refine returnsInHanded_of_change (C:=Try.checked) own7 started (by kernel_rfl) Try.func7
    (ChangeSpec.witness6 (enc:=enc) (C:=Try.checked) false ⟨#[],#[.agg #[.slice none 0 0,.slice none 0 0,.int .i64 0,.int .i64 0,.slice none 0 0,.string ⟨#[]⟩]],[]⟩ 8 (by kernel_rfl) (by kernel_rfl) (by kernel_rfl) (by kernel_rfl)) ?_
  intro W base args ds gs before hval0 hW hcnd _
  refine law_postS (S:=[3,9,22,24,35,37,58]) (tb:=4) (by kernel_rfl) (by kernel_rfl) (by kernel_rfl) okS7 (fun t ht=>?_) rfl ?_ (fun us hu=>?_) hval0 hW
  · have h:t∈[58]:=ht
    simp only [List.mem_cons,List.not_mem_nil,or_false] at h
    rcases h with rfl
    · exact ⟨of_decide_eq_true (by kernel_rfl),by kernel_rfl,of_decide_eq_true (by kernel_rfl)⟩
  · obtain ⟨p,q,hA,hV,rfl,hfz,hnd⟩:=hW
    obtain ⟨rfl,rfl⟩:=trodVars_none hV
    change DataW.TrodAll enc Try.prog W 0 (fun _=>true) true [58] args.toList ds p at hA
    obtain ⟨v0,vs0,y0,ds0,pa0,pb0,hv0,rfl,rfl,_,hA⟩:=trodAll_cons hA
    obtain ⟨_,rfl,rfl⟩:=trodAll_nil hA
    rfl
  · obtain ⟨d0,rfl⟩:=args7 ut hu
    exact law7_pure d0.ia d0.oa d0.f d0.s
theorem proved7:Rows.FormulaTripsSaid:=
  OpenClaim.holds_of_wide 7 Try.f7 rfl rfl rfl rfl rfl rfl rfl ⟨rfl,rfl,rfl,rfl,rfl⟩ rfl rfl rfl rfl rfl (by kernel_rfl) Try.func7 (by kernel_rfl)
    (of_decide_eq_true (by kernel_rfl)) (by unfold Func.isWrapper; first|(rw [if_pos (by decide+kernel)]; kernel_rfl)|(rw [if_neg (by decide+kernel)]; exact ⟨rfl,rfl⟩))
    (fun os started H enc _=>lifted7 os started H enc)
end Go.Proofs.Ytdmcmkccifmofaa
