/- Contracts of the functions that the law TR reaches, and the law itself, for every input; no condition. -/
import Derived.KernelRfl
import Derived.Test.YtmnjchcoigbngabGreatProg
import Derived.Test.YtmnjchcoigbngabGreatTR3
set_option linter.unusedSimpArgs false
set_option linter.unusedVariables false
namespace Go.Proofs.YtmnjchcoigbngabGreat
open Go Go.Proofs
theorem dsplit_pure (t:Dt) (n:Int) (sf outs w other:List Int) (hb:Bd t) (hsf:sf.length≤1048576) (ho:outs.length≤1048576) (hw:w.length≤1048576) (hot:other.length≤1048576):PureC Tryz.prog 73 [(V.agg [(V.sl (List.map cN (t.nd)))]),(iV (n)),(ints sf),(ints outs),(ints w),(ints other)] (V.tup [(V.agg [(V.sl (List.map cN ((spT t n sf outs w other).nd)))]),(iV (spE t n sf outs w other))]):=by
 refine pW Tryz.func73 s73_ok fun hB=>?_
 unfold s73
 dsimp only
 have hbn:=hb.n
 refine W_r (R_box (i:=6) (n:=0) (m:=1) (cs:=[(V.sl (List.map cN (t.nd)))]) rfl (congrArg Blk.ver rfl) rfl rfl rfl (R_alloc (i:=12) (n:=0) (m:=1) rfl (congrArg Blk.ver rfl) rfl (R_mv rfl (R_e (W_seq_seq (W_r (R_lk rfl rfl rfl rfl ?_)))))))
 refine R_callk (dvalid_pure t hb) rfl (R_mv rfl (R_e (W_seq_seq (W_r (R_mv rfl (R_neq rfl rfl (R_e ?_)))))))
 refine W_seq_if rfl (fun c1=>?_) fun c1=>?_
 ·
  refine W_seq_seq (W_r (R_lk rfl rfl rfl rfl (R_mv rfl (R_sk rfl rfl rfl rfl rfl rfl rfl rfl rfl (R_mv rfl (R_e (W_seq_ret ?_)))))))
  refine RetC_2 (resV_c (u:=(V.agg [(V.sl (List.map cN (t.nd)))])) rfl (@rfl Blk (bk 1 24 1 [[(V.sl (List.map cN (t.nd)))]])) (lB oB rfl rfl)) (resV_t (@rfl V (iV (dvE t)))) (fz_agg1 (fz_sl ?_ (fun _=>by simp))) (fz_int ?_)
  · rw [spT_no (by unfold spE; rw [if_pos (by omega)]; omega)]
  · unfold spE; rw [if_pos (by omega)]
 refine W_seq_skip (W_seq_seq (W_r (R_lk rfl rfl rfl rfl (R_mv rfl (R_mv rfl (R_mv rfl (R_mv rfl ?_)))))))
 refine R_mv rfl (R_callk (dsplits_pure t ((n)) sf outs w other hb) rfl (R_mv rfl (R_e (W_seq_seq (W_r (R_mv rfl (R_neq rfl rfl ?_)))))))
 refine R_e ?_
 refine W_seq_if rfl (fun c2=>?_) fun c2=>?_
 ·
  refine W_seq_seq (W_r (R_lk rfl rfl rfl rfl (R_mv rfl (R_sk rfl rfl rfl rfl rfl rfl rfl rfl rfl (R_mv rfl (R_e (W_seq_ret ?_)))))))
  refine RetC_2 (resV_c (u:=(V.agg [(V.sl (List.map cN (t.nd)))])) rfl (@rfl Blk (bk 1 24 1 [[(V.sl (List.map cN (t.nd)))]])) (lB oB rfl rfl)) (resV_t (@rfl V (iV (spsE t ((n)) sf outs w other)))) (fz_agg1 (fz_sl ?_ (fun _=>by simp))) (fz_int ?_)
  · rw [spT_no (by unfold spE; rw [if_neg (by omega)]; omega)]
  · unfold spE; rw [if_neg (by omega)]
 have hE:spE t n sf outs w other=0:=by unfold spE; rw [if_neg (by omega)]; omega
 obtain ⟨y1,y2,y3,y4,y5,y6,y7,y8,y9⟩:=sp_ok hE
 obtain ⟨n0,n1,n2⟩:=no_ok y2
 have nb:n.toNat < t.nd.length:=by omega
 refine W_seq_skip (W_r (R_lk rfl rfl rfl rfl (R_callE (evcons rfl evnil) (copied_E t 0 0 0 0 0 0 _ hb (congrArg Blk.ver rfl) (congrArg Blk.ver rfl) (congrArg Blk.ver rfl) (congrArg Blk.ver rfl) (congrArg Blk.ver rfl) ⟨congrArg Blk.ver rfl,congrArg Blk.live rfl⟩) (R_alloc (i:=16) (n:=0) (m:=1) rfl (congrArg Blk.ver rfl) rfl (R_sk rfl rfl rfl rfl rfl rfl rfl rfl rfl (R_e (W_r ?_)))))))
 refine R_fk rfl rfl (R_lk rfl rfl rfl rfl (R_mv rfl (R_idxI_ms0 (i:=(n)) (@rfl V (V.ms 212 1 0 (t.nd.length))) (@rfl V (iV (n))) (@rfl Blk (bk 1 99 5 (List.map cN (t.nd)))) oB rfl (by omega) (by omega) (R_load_mp (v:=(V.agg (cN (((nth (t.nd) (((n)).toNat))))))) rfl (@rfl Blk (bk 1 99 5 (List.map cN (t.nd)))) (ldB_map (by omega) (by rfl)) (R_alloc (i:=17) (n:=0) (m:=5) rfl (congrArg Blk.ver rfl) rfl (R_sk rfl rfl rfl rfl rfl rfl rfl rfl rfl (R_e ?_)))))))
 refine W_seq_dregc (fun T H=>T 1=(iV (n))∧T 3=(ints outs)∧T 4=(ints w)∧T 5=(ints other)∧T 12=(V.mp 12 1 0 0)∧T 16=(V.mp 16 1 0 0)∧T 17=(V.mp 17 1 0 0)∧T 18=(V.mp 18 1 0 0)∧H 6=(bk 1 24 1 [[(V.sl (List.map cN (t.nd)))]])∧H 12=(bk 1 24 1 [[V.nilsl]])∧H 16=(bk 1 24 1 [[(V.ms 212 1 0 (t.nd.length))]])∧H 17=(bk 1 99 5 [(cN (((nth (t.nd) (((n)).toNat)))))])∧H 18=(bk 1 99 5 [[(V.bool false),V.nilsl,(ints (cat ([sf]))),(V.ms 52 1 0 (2)),(V.ms 60 1 0 (2))]])∧H 52=(bk 1 54 1 [[(ints (cat ([outs])))],[(ints (cat ([other])))]])∧H 60=(bk 1 3 1 [[(iV ((t.nd.length:Nat):Int))],[(iV ((t.nd.length+1:Nat):Int))]])∧H 201=(⟨1,false,false,0,0,[]⟩:Blk)∧H 202=(⟨1,false,false,0,0,[]⟩:Blk)∧H 205=(⟨0+t.nd.length,false,false,0,0,[]⟩:Blk)∧H 212=(bk 1 99 5 (List.map cN (t.nd)))∧H 228=(⟨0+t.nd.length*1048578,false,false,0,0,[]⟩:Blk)∧H 258=(⟨0+3*t.nd.length,false,false,0,0,[]⟩:Blk)∧True) (by exact (lateC rfl (lateC rfl (lateC rfl lateN)))) ?_ ?_
 ·
  refine R_mv rfl (R_bslice rfl rfl (R_callk (pjoin_pure ([sf]) (by simp only [cat,List.append_nil]; omega)) rfl (R_mv rfl (R_bslice rfl rfl (R_callk (pjoin_pure ([outs]) (by simp only [cat,List.append_nil]; omega)) rfl (R_mv rfl (R_bslice rfl rfl ?_)))))))
  refine R_callk (pjoin_pure ([other]) (by simp only [cat,List.append_nil]; omega)) rfl (R_fk rfl rfl (R_lk rfl rfl rfl rfl (R_len rfl (R_fk rfl rfl (R_lk rfl rfl rfl rfl (R_len rfl (R_addN rfl (@rfl V (iV ((1:Nat):Int))) (by omega) ?_)))))))
  refine R_bslice_own (i:=52) (n:=0) (qs:=[(0,(ints (cat ([outs])))),(1,(ints (cat ([other]))))]) (rows:=[[(ints (cat ([outs])))],[(ints (cat ([other])))]]) rfl (congrArg Blk.ver rfl) (mcons (congrArg (fun v=>(0,v)) rfl) (mcons (congrArg (fun v=>(1,v)) rfl) rfl)) rfl (R_bslice_own (i:=60) (n:=0) (qs:=[(0,(iV ((t.nd.length:Nat):Int))),(1,(iV ((t.nd.length+1:Nat):Int)))]) (rows:=[[(iV ((t.nd.length:Nat):Int))],[(iV ((t.nd.length+1:Nat):Int))]]) rfl (congrArg Blk.ver rfl) (mcons (congrArg (fun v=>(0,v)) rfl) (mcons (congrArg (fun v=>(1,v)) rfl) rfl)) rfl (R_build rfl rfl (R_alloc (i:=18) (n:=0) (m:=5) rfl (congrArg Blk.ver rfl) rfl (R_sk rfl rfl rfl rfl rfl rfl rfl rfl rfl ?_))))
  exact R_nil ⟨rfl,rfl,rfl,rfl,rfl,rfl,rfl,rfl,rfl,rfl,rfl,rfl,rfl,rfl,rfl,rfl,rfl,rfl,rfl,rfl,rfl,trivial⟩
 intro T H ⟨t1,t3,t4,t5,t12,t16,t17,t18,h6,h12,h16,h17,h18,h52,h60,h201,h202,h205,h212,h228,h258,_⟩
 refine W_seq_seq (W_r (R_mv t3 (R_mv t5 (R_callk (lex_pure outs other) rfl (R_gtr rfl rfl (R_e ?_))))))
 refine W_seq_if rfl (fun c3=>?_) fun c3=>?_
 ·
  have d7:=c3
  refine W_seq_seq (W_r (R_fk t18 h18 (R_lk rfl h18 rfl rfl (R_callE (evcons rfl evnil) (revcL52_E ([cat ([outs]),cat ([other])]) 1 false _ (show _=(bk 1 54 1 (List.map cL ([cat ([outs]),cat ([other])]))) from h52) (by simp)) (R_e (W_r (R_fk t18 h18 ?_)))))))
  refine R_lk rfl h18 rfl rfl (R_callE (evcons rfl evnil) (revcI60_E ([((t.nd.length:Nat):Int),((t.nd.length+1:Nat):Int)]) 1 false _ (show _=(bk 1 3 1 (List.map cI ([((t.nd.length:Nat):Int),((t.nd.length+1:Nat):Int)]))) from h60) (by simp)) (R_e ?_))
  refine W_seq_g (fun T H=>T 4=(ints w)∧T 12=(V.mp 12 1 0 0)∧T 16=(V.mp 16 1 0 0)∧T 17=(V.mp 17 1 0 0)∧H 6=(bk 1 24 1 [[(V.sl (List.map cN (t.nd)))]])∧H 12=(bk 1 24 1 [[V.nilsl]])∧H 16=(bk 1 24 1 [[(V.ms 212 1 0 (t.nd.length))]])∧H 17=(bk 1 99 5 [(cN (((nth (t.nd) (((n)).toNat)))))])∧H 18=(bk 1 99 5 [[(V.bool false),V.nilsl,(ints (cat ([sf]))),(V.ms 52 1 0 (2)),(V.ms 60 1 0 (2))]])∧H 52=(bk 1 54 1 (List.map cL (([cat ([outs]),cat ([other])]).reverse)))∧H 60=(bk 1 3 1 (List.map cI (([((t.nd.length:Nat):Int),((t.nd.length+1:Nat):Int)]).reverse)))∧H 201=(⟨1,false,false,0,0,[]⟩:Blk)∧H 202=(⟨1,false,false,0,0,[]⟩:Blk)∧H 205=(⟨0+t.nd.length,false,false,0,0,[]⟩:Blk)∧H 212=(bk 1 99 5 ((List.map cN (t.nd)).set (((n)).toNat) [(V.bool false),V.nilsl,(ints (cat ([sf]))),(V.ms 52 1 0 (2)),(V.ms 60 1 0 (2))]))∧H 228=(⟨0+t.nd.length*1048578,false,false,0,0,[]⟩:Blk)∧H 258=(⟨0+3*t.nd.length,false,false,0,0,[]⟩:Blk)∧True) ?_ ?_
  ·
   refine R_fk t16 h16 (R_lk rfl h16 rfl rfl (R_mv t1 (R_lk t18 h18 rfl rfl (R_idxI_ms0 (i:=(n)) (@rfl V (V.ms 212 1 0 (t.nd.length))) (@rfl V (iV (n))) h212 oB rfl (by omega) (by omega) (R_store (vs:=[(V.bool false),V.nilsl,(ints (cat ([sf]))),(V.ms 52 1 0 (2)),(V.ms 60 1 0 (2))]) (B':=(bk 1 99 5 ((List.map cN (t.nd)).set (((n)).toNat) [(V.bool false),V.nilsl,(ints (cat ([sf]))),(V.ms 52 1 0 (2)),(V.ms 60 1 0 (2))]))) rfl rfl rfl h212 (stB_setc (i:=(((n)).toNat)) (by omega) rfl rfl rfl) ?_)))))
   exact R_nil ⟨t4,t12,t16,t17,h6,h12,h16,h17,h18,rfl,rfl,h201,h202,h205,rfl,h228,h258,trivial⟩
  intro T H ⟨t4,t12,t16,t17,h6,h12,h16,h17,h18,h52,h60,h201,h202,h205,h212,h228,h258,_⟩
  refine nzs_map (rows:=List.map cN (t.nd)) (i:=(((n)).toNat)) (r':=[(V.bool false),(ints ([])),(ints (cat ([sf]))),(V.ms 52 1 0 (2)),(V.ms 60 1 0 (2))]) h212 (by (simp; omega)) rfl (fork_ (R:=fun T H=>T 4=(ints w)∧T 12=(V.mp 12 1 0 0)∧T 16=(V.mp 16 1 0 0)∧T 17=(V.mp 17 1 0 0)∧H 6=(bk 1 24 1 [[(V.sl (List.map cN (t.nd)))]])∧H 12=(bk 1 24 1 [[V.nilsl]])∧H 16=(bk 1 24 1 [[(V.ms 212 1 0 (t.nd.length))]])∧H 17=(bk 1 99 5 [(cN (((nth (t.nd) (((n)).toNat)))))])∧H 18=(bk 1 99 5 [[(V.bool false),V.nilsl,(ints (cat ([sf]))),(V.ms 52 1 0 (2)),(V.ms 60 1 0 (2))]])∧H 52=(bk 1 54 1 (List.map cL (([cat ([outs]),cat ([other])]).reverse)))∧H 60=(bk 1 3 1 (List.map cI (([((t.nd.length:Nat):Int),((t.nd.length+1:Nat):Int)]).reverse)))∧H 201=(⟨1,false,false,0,0,[]⟩:Blk)∧H 202=(⟨1,false,false,0,0,[]⟩:Blk)∧H 205=(⟨0+t.nd.length,false,false,0,0,[]⟩:Blk)∧H 212=(bk 1 99 5 ((List.map cN (t.nd)).set (((n)).toNat) [(V.bool false),(ints ([])),(ints (cat ([sf]))),(V.ms 52 1 0 (2)),(V.ms 60 1 0 (2))]))∧H 228=(⟨0+t.nd.length*1048578,false,false,0,0,[]⟩:Blk)∧H 258=(⟨0+3*t.nd.length,false,false,0,0,[]⟩:Blk)∧True) ⟨t4,t12,t16,t17,((upd_ne _ _ (by decide)).trans h6),((upd_ne _ _ (by decide)).trans h12),((upd_ne _ _ (by decide)).trans h16),((upd_ne _ _ (by decide)).trans h17),((upd_ne _ _ (by decide)).trans h18),((upd_ne _ _ (by decide)).trans h52),((upd_ne _ _ (by decide)).trans h60),((upd_ne _ _ (by decide)).trans h201),((upd_ne _ _ (by decide)).trans h202),((upd_ne _ _ (by decide)).trans h205),(upd_same _ _ _),((upd_ne _ _ (by decide)).trans h228),((upd_ne _ _ (by decide)).trans h258),trivial⟩ ?_)
  intro T H ⟨t4,t12,t16,t17,h6,h12,h16,h17,h18,h52,h60,h201,h202,h205,h212,h228,h258,_⟩
  refine frz_cellg (id:=52) (id2:=212) (rows:=(List.map cN (t.nd))) (i:=(((n)).toNat)) (off:=3) (r:=[(V.bool false),(ints ([])),(ints (cat ([sf]))),(V.ms 52 1 0 (2)),(V.ms 60 1 0 (2))]) (m:=(([cat ([outs]),cat ([other])]).reverse)) (g:=cL) (by decide) h52 h212 (by (simp; omega)) (by rfl) rfl (fork_ (R:=fun T H=>T 4=(ints w)∧T 12=(V.mp 12 1 0 0)∧T 16=(V.mp 16 1 0 0)∧T 17=(V.mp 17 1 0 0)∧H 6=(bk 1 24 1 [[(V.sl (List.map cN (t.nd)))]])∧H 12=(bk 1 24 1 [[V.nilsl]])∧H 16=(bk 1 24 1 [[(V.ms 212 1 0 (t.nd.length))]])∧H 17=(bk 1 99 5 [(cN (((nth (t.nd) (((n)).toNat)))))])∧H 18=(bk 1 99 5 [[(V.bool false),V.nilsl,(ints (cat ([sf]))),(V.ms 52 1 0 (2)),(V.ms 60 1 0 (2))]])∧((H 52).ver=1∧(H 52).live=false)∧H 60=(bk 1 3 1 (List.map cI (([((t.nd.length:Nat):Int),((t.nd.length+1:Nat):Int)]).reverse)))∧H 201=(⟨1,false,false,0,0,[]⟩:Blk)∧H 202=(⟨1,false,false,0,0,[]⟩:Blk)∧H 205=(⟨0+t.nd.length,false,false,0,0,[]⟩:Blk)∧H 212=(bk 1 99 5 ((List.map cN (t.nd)).set (((n)).toNat) [(V.bool false),(ints ([])),(ints (cat ([sf]))),(intss (([cat ([outs]),cat ([other])]).reverse)),(V.ms 60 1 0 (2))]))∧H 228=(⟨0+t.nd.length*1048578,false,false,0,0,[]⟩:Blk)∧H 258=(⟨0+3*t.nd.length,false,false,0,0,[]⟩:Blk)∧True) ⟨(fzT_q t4 rfl),(fzT_q t12 rfl),(fzT_q t16 rfl),(fzT_q t17 rfl),((upd_ne _ _ (by decide)).trans (kill_ne h6 (by decide))),((upd_ne _ _ (by decide)).trans (kill_ne h12 (by decide))),((upd_ne _ _ (by decide)).trans (kill_ne h16 (by decide))),((upd_ne _ _ (by decide)).trans (kill_ne h17 (by decide))),((upd_ne _ _ (by decide)).trans (kill_ne h18 (by decide))),⟨(congrArg Blk.ver (upd_ne _ _ (by decide))).trans (kill_self (congrArg Blk.ver h52)).1,(congrArg Blk.live (upd_ne _ _ (by decide))).trans (kill_self (congrArg Blk.ver h52)).2⟩,((upd_ne _ _ (by decide)).trans (kill_ne h60 (by decide))),((upd_ne _ _ (by decide)).trans (kill_ne h201 (by decide))),((upd_ne _ _ (by decide)).trans (kill_ne h202 (by decide))),((upd_ne _ _ (by decide)).trans (kill_ne h205 (by decide))),(upd_same _ _ _),((upd_ne _ _ (by decide)).trans (kill_ne h228 (by decide))),((upd_ne _ _ (by decide)).trans (kill_ne h258 (by decide))),trivial⟩ ?_)
  intro T H ⟨t4,t12,t16,t17,h6,h12,h16,h17,h18,h52,h60,h201,h202,h205,h212,h228,h258,_⟩
  refine frz_cellg (id:=60) (id2:=212) (rows:=(List.map cN (t.nd))) (i:=(((n)).toNat)) (off:=4) (r:=[(V.bool false),(ints ([])),(ints (cat ([sf]))),(intss (([cat ([outs]),cat ([other])]).reverse)),(V.ms 60 1 0 (2))]) (m:=(([((t.nd.length:Nat):Int),((t.nd.length+1:Nat):Int)]).reverse)) (g:=cI) (by decide) h60 h212 (by (simp; omega)) (by rfl) rfl (.done ?_)
  refine fork_ (R:=fun T H=>T 4=(ints w)∧T 12=(V.mp 12 1 0 0)∧T 16=(V.mp 16 1 0 0)∧T 17=(V.mp 17 1 0 0)∧H 6=(bk 1 24 1 [[(V.sl (List.map cN (t.nd)))]])∧H 12=(bk 1 24 1 [[V.nilsl]])∧H 16=(bk 1 24 1 [[(V.ms 212 1 0 (t.nd.length))]])∧H 17=(bk 1 99 5 [(cN (((nth (t.nd) (((n)).toNat)))))])∧H 18=(bk 1 99 5 [[(V.bool false),V.nilsl,(ints (cat ([sf]))),(V.ms 52 1 0 (2)),(V.ms 60 1 0 (2))]])∧((H 52).ver=1∧(H 52).live=false)∧((H 60).ver=1∧(H 60).live=false)∧H 201=(⟨1,false,false,0,0,[]⟩:Blk)∧H 202=(⟨1,false,false,0,0,[]⟩:Blk)∧H 205=(⟨0+t.nd.length,false,false,0,0,[]⟩:Blk)∧H 212=(bk 1 99 5 (List.map cN ((t.nd).set (((n)).toNat) ((⟨false,[],cat ([sf]),([cat ([outs]),cat ([other])]).reverse,([((t.nd.length:Nat):Int),((t.nd.length+1:Nat):Int)]).reverse⟩:Nd)))))∧H 228=(⟨0+t.nd.length*1048578,false,false,0,0,[]⟩:Blk)∧H 258=(⟨0+3*t.nd.length,false,false,0,0,[]⟩:Blk)∧True) ⟨(fzT_q t4 rfl),(fzT_q t12 rfl),(fzT_q t16 rfl),(fzT_q t17 rfl),((upd_ne _ _ (by decide)).trans (kill_ne h6 (by decide))),((upd_ne _ _ (by decide)).trans (kill_ne h12 (by decide))),((upd_ne _ _ (by decide)).trans (kill_ne h16 (by decide))),((upd_ne _ _ (by decide)).trans (kill_ne h17 (by decide))),((upd_ne _ _ (by decide)).trans (kill_ne h18 (by decide))),⟨(congrArg Blk.ver (upd_ne _ _ (by decide))).trans (kill_dead h52).1,(congrArg Blk.live (upd_ne _ _ (by decide))).trans (kill_dead h52).2⟩,⟨(congrArg Blk.ver (upd_ne _ _ (by decide))).trans (kill_self (congrArg Blk.ver h60)).1,(congrArg Blk.live (upd_ne _ _ (by decide))).trans (kill_self (congrArg Blk.ver h60)).2⟩,((upd_ne _ _ (by decide)).trans (kill_ne h201 (by decide))),((upd_ne _ _ (by decide)).trans (kill_ne h202 (by decide))),((upd_ne _ _ (by decide)).trans (kill_ne h205 (by decide))),(Eq.trans (upd_same _ _ _) (by (rw [List.map_set]; rfl))),((upd_ne _ _ (by decide)).trans (kill_ne h228 (by decide))),((upd_ne _ _ (by decide)).trans (kill_ne h258 (by decide))),trivial⟩ ?_
  intro T H ⟨t4,t12,t16,t17,h6,h12,h16,h17,h18,h52,h60,h201,h202,h205,h212,h228,h258,_⟩
  refine W_seq_g (fun T H=>T 12=(V.mp 12 1 0 0)∧T 16=(V.mp 16 1 0 0)∧H 6=(bk 1 24 1 [[(V.sl (List.map cN (t.nd)))]])∧H 12=(bk 1 24 1 [[V.nilsl]])∧H 16=(bk 1 24 1 [[(V.ms 212 2 0 (t.nd.length+2))]])∧H 17=(bk 1 99 5 [(cN (((nth (t.nd) (((n)).toNat)))))])∧H 18=(bk 1 99 5 [[(V.bool false),V.nilsl,(ints (cat ([sf]))),(V.ms 52 1 0 (2)),(V.ms 60 1 0 (2))]])∧((H 52).ver=1∧(H 52).live=false)∧((H 60).ver=1∧(H 60).live=false)∧H 201=(⟨1,false,false,0,0,[]⟩:Blk)∧H 202=(⟨1,false,false,0,0,[]⟩:Blk)∧H 205=(⟨0+t.nd.length,false,false,0,0,[]⟩:Blk)∧H 212=(bk 2 99 5 (List.map cN ((t.nd).set (((n)).toNat) ((⟨false,[],cat ([sf]),([cat ([outs]),cat ([other])]).reverse,([((t.nd.length:Nat):Int),((t.nd.length+1:Nat):Int)]).reverse⟩:Nd)))++[(cN (((nth (t.nd) (((n)).toNat))))),[(V.bool true),(ints (cat ([w]))),V.nilsl,V.nilsl,V.nilsl]]))∧H 228=(⟨0+t.nd.length*1048578,false,false,0,0,[]⟩:Blk)∧H 258=(⟨0+3*t.nd.length,false,false,0,0,[]⟩:Blk)∧True) ?_ ?_
  ·
   refine R_fk t16 h16 (R_lk rfl h16 rfl rfl (R_lk t17 h17 rfl rfl (R_mv t4 (R_bslice rfl rfl (R_callk (pjoin_pure ([w]) (by simp only [cat,List.append_nil]; omega)) rfl (R_build rfl rfl (R_bslice rfl rfl ?_)))))))
   refine R_appendN (l:=((t.nd).set (((n)).toNat) ((⟨false,[],cat ([sf]),([cat ([outs]),cat ([other])]).reverse,([((t.nd.length:Nat):Int),((t.nd.length+1:Nat):Int)]).reverse⟩:Nd)))) (f:=cN) (@rfl V (V.ms 212 1 0 (t.nd.length))) h212 (by simp) (@rfl V (V.sl [(cN (((nth (t.nd) (((n)).toNat))))),[(V.bool true),(ints (cat ([w]))),V.nilsl,V.nilsl,V.nilsl]])) (by simp [fitRows,V.one]) (by (simp; omega)) (by (simp; omega)) (R_fk t16 h16 (R_sk rfl rfl rfl h16 rfl rfl rfl rfl rfl ?_))
   exact R_nil ⟨t12,t16,h6,h12,rfl,h17,h18,h52,h60,h201,h202,h205,rfl,h228,h258,trivial⟩
  intro T H ⟨t12,t16,h6,h12,h16,h17,h18,h52,h60,h201,h202,h205,h212,h228,h258,_⟩
  refine nza_map (l:=((t.nd).set (((n)).toNat) ((⟨false,[],cat ([sf]),([cat ([outs]),cat ([other])]).reverse,([((t.nd.length:Nat):Int),((t.nd.length+1:Nat):Int)]).reverse⟩:Nd)))) (m:=([((nth (t.nd) (((n)).toNat))),(⟨true,cat ([w]),[],[],[]⟩:Nd)])) (f:=cN) h212 rfl (.done ?_)
  refine fork_ (R:=fun T H=>T 12=(V.mp 12 1 0 0)∧T 16=(V.mp 16 1 0 0)∧H 6=(bk 1 24 1 [[(V.sl (List.map cN (t.nd)))]])∧H 12=(bk 1 24 1 [[V.nilsl]])∧H 16=(bk 1 24 1 [[(V.ms 212 2 0 (t.nd.length+2))]])∧H 17=(bk 1 99 5 [(cN (((nth (t.nd) (((n)).toNat)))))])∧H 18=(bk 1 99 5 [[(V.bool false),V.nilsl,(ints (cat ([sf]))),(V.ms 52 1 0 (2)),(V.ms 60 1 0 (2))]])∧((H 52).ver=1∧(H 52).live=false)∧((H 60).ver=1∧(H 60).live=false)∧H 201=(⟨1,false,false,0,0,[]⟩:Blk)∧H 202=(⟨1,false,false,0,0,[]⟩:Blk)∧H 205=(⟨0+t.nd.length,false,false,0,0,[]⟩:Blk)∧H 212=(bk 2 99 5 (List.map cN ((t.nd).set (((n)).toNat) ((⟨false,[],cat ([sf]),([cat ([outs]),cat ([other])]).reverse,([((t.nd.length:Nat):Int),((t.nd.length+1:Nat):Int)]).reverse⟩:Nd))++[((nth (t.nd) (((n)).toNat))),(⟨true,cat ([w]),[],[],[]⟩:Nd)])))∧H 228=(⟨0+t.nd.length*1048578,false,false,0,0,[]⟩:Blk)∧H 258=(⟨0+3*t.nd.length,false,false,0,0,[]⟩:Blk)∧True) ⟨t12,t16,((upd_ne _ _ (by decide)).trans h6),((upd_ne _ _ (by decide)).trans h12),((upd_ne _ _ (by decide)).trans h16),((upd_ne _ _ (by decide)).trans h17),((upd_ne _ _ (by decide)).trans h18),⟨(congrArg Blk.ver (upd_ne _ _ (by decide))).trans (h52).1,(congrArg Blk.live (upd_ne _ _ (by decide))).trans (h52).2⟩,⟨(congrArg Blk.ver (upd_ne _ _ (by decide))).trans (h60).1,(congrArg Blk.live (upd_ne _ _ (by decide))).trans (h60).2⟩,((upd_ne _ _ (by decide)).trans h201),((upd_ne _ _ (by decide)).trans h202),((upd_ne _ _ (by decide)).trans h205),(upd_same _ _ _),((upd_ne _ _ (by decide)).trans h228),((upd_ne _ _ (by decide)).trans h258),trivial⟩ ?_
  intro T H ⟨t12,t16,h6,h12,h16,h17,h18,h52,h60,h201,h202,h205,h212,h228,h258,_⟩
  refine W_r (R_lk t16 h16 rfl rfl (R_sk t12 rfl rfl h12 rfl rfl rfl rfl rfl (R_mv rfl (R_e (W_ret ?_)))))
  refine RetC_2 (resV_c (u:=(V.agg [(V.ms 212 2 0 (t.nd.length+2))])) t12 (@rfl Blk (bk 1 24 1 [[(V.ms 212 2 0 (t.nd.length+2))]])) (lB oB rfl rfl)) (resV_t (@rfl V (iV (0:Int)))) (fz_agg1 (fz_ms h212 (by rfl) (l:=((t.nd).set (((n)).toNat) ((⟨false,[],cat ([sf]),([cat ([outs]),cat ([other])]).reverse,([((t.nd.length:Nat):Int),((t.nd.length+1:Nat):Int)]).reverse⟩:Nd))++[((nth (t.nd) (((n)).toNat))),(⟨true,cat ([w]),[],[],[]⟩:Nd)])) rfl (by simp) (fun _=>by simp) ?_)) (fz_int ?_)
  · rw [spT_yes hE]; unfold spN spO spK; rw [if_pos d7,if_pos d7]; simp [cat1,lfN]
  · exact hE.symm
 have d7:=c3
 refine W_seq_skip ?_
 refine W_seq_g (fun T H=>T 4=(ints w)∧T 12=(V.mp 12 1 0 0)∧T 16=(V.mp 16 1 0 0)∧T 17=(V.mp 17 1 0 0)∧H 6=(bk 1 24 1 [[(V.sl (List.map cN (t.nd)))]])∧H 12=(bk 1 24 1 [[V.nilsl]])∧H 16=(bk 1 24 1 [[(V.ms 212 1 0 (t.nd.length))]])∧H 17=(bk 1 99 5 [(cN (((nth (t.nd) (((n)).toNat)))))])∧H 18=(bk 1 99 5 [[(V.bool false),V.nilsl,(ints (cat ([sf]))),(V.ms 52 1 0 (2)),(V.ms 60 1 0 (2))]])∧H 52=(bk 1 54 1 [[(ints (cat ([outs])))],[(ints (cat ([other])))]])∧H 60=(bk 1 3 1 [[(iV ((t.nd.length:Nat):Int))],[(iV ((t.nd.length+1:Nat):Int))]])∧H 201=(⟨1,false,false,0,0,[]⟩:Blk)∧H 202=(⟨1,false,false,0,0,[]⟩:Blk)∧H 205=(⟨0+t.nd.length,false,false,0,0,[]⟩:Blk)∧H 212=(bk 1 99 5 ((List.map cN (t.nd)).set (((n)).toNat) [(V.bool false),V.nilsl,(ints (cat ([sf]))),(V.ms 52 1 0 (2)),(V.ms 60 1 0 (2))]))∧H 228=(⟨0+t.nd.length*1048578,false,false,0,0,[]⟩:Blk)∧H 258=(⟨0+3*t.nd.length,false,false,0,0,[]⟩:Blk)∧True) ?_ ?_
 ·
  refine R_fk t16 h16 (R_lk rfl h16 rfl rfl (R_mv t1 (R_lk t18 h18 rfl rfl (R_idxI_ms0 (i:=(n)) (@rfl V (V.ms 212 1 0 (t.nd.length))) (@rfl V (iV (n))) h212 oB rfl (by omega) (by omega) (R_store (vs:=[(V.bool false),V.nilsl,(ints (cat ([sf]))),(V.ms 52 1 0 (2)),(V.ms 60 1 0 (2))]) (B':=(bk 1 99 5 ((List.map cN (t.nd)).set (((n)).toNat) [(V.bool false),V.nilsl,(ints (cat ([sf]))),(V.ms 52 1 0 (2)),(V.ms 60 1 0 (2))]))) rfl rfl rfl h212 (stB_setc (i:=(((n)).toNat)) (by omega) rfl rfl rfl) ?_)))))
  exact R_nil ⟨t4,t12,t16,t17,h6,h12,h16,h17,h18,h52,h60,h201,h202,h205,rfl,h228,h258,trivial⟩
 intro T H ⟨t4,t12,t16,t17,h6,h12,h16,h17,h18,h52,h60,h201,h202,h205,h212,h228,h258,_⟩
 refine nzs_map (rows:=List.map cN (t.nd)) (i:=(((n)).toNat)) (r':=[(V.bool false),(ints ([])),(ints (cat ([sf]))),(V.ms 52 1 0 (2)),(V.ms 60 1 0 (2))]) h212 (by (simp; omega)) rfl (fork_ (R:=fun T H=>T 4=(ints w)∧T 12=(V.mp 12 1 0 0)∧T 16=(V.mp 16 1 0 0)∧T 17=(V.mp 17 1 0 0)∧H 6=(bk 1 24 1 [[(V.sl (List.map cN (t.nd)))]])∧H 12=(bk 1 24 1 [[V.nilsl]])∧H 16=(bk 1 24 1 [[(V.ms 212 1 0 (t.nd.length))]])∧H 17=(bk 1 99 5 [(cN (((nth (t.nd) (((n)).toNat)))))])∧H 18=(bk 1 99 5 [[(V.bool false),V.nilsl,(ints (cat ([sf]))),(V.ms 52 1 0 (2)),(V.ms 60 1 0 (2))]])∧H 52=(bk 1 54 1 [[(ints (cat ([outs])))],[(ints (cat ([other])))]])∧H 60=(bk 1 3 1 [[(iV ((t.nd.length:Nat):Int))],[(iV ((t.nd.length+1:Nat):Int))]])∧H 201=(⟨1,false,false,0,0,[]⟩:Blk)∧H 202=(⟨1,false,false,0,0,[]⟩:Blk)∧H 205=(⟨0+t.nd.length,false,false,0,0,[]⟩:Blk)∧H 212=(bk 1 99 5 ((List.map cN (t.nd)).set (((n)).toNat) [(V.bool false),(ints ([])),(ints (cat ([sf]))),(V.ms 52 1 0 (2)),(V.ms 60 1 0 (2))]))∧H 228=(⟨0+t.nd.length*1048578,false,false,0,0,[]⟩:Blk)∧H 258=(⟨0+3*t.nd.length,false,false,0,0,[]⟩:Blk)∧True) ⟨t4,t12,t16,t17,((upd_ne _ _ (by decide)).trans h6),((upd_ne _ _ (by decide)).trans h12),((upd_ne _ _ (by decide)).trans h16),((upd_ne _ _ (by decide)).trans h17),((upd_ne _ _ (by decide)).trans h18),((upd_ne _ _ (by decide)).trans h52),((upd_ne _ _ (by decide)).trans h60),((upd_ne _ _ (by decide)).trans h201),((upd_ne _ _ (by decide)).trans h202),((upd_ne _ _ (by decide)).trans h205),(upd_same _ _ _),((upd_ne _ _ (by decide)).trans h228),((upd_ne _ _ (by decide)).trans h258),trivial⟩ ?_)
 intro T H ⟨t4,t12,t16,t17,h6,h12,h16,h17,h18,h52,h60,h201,h202,h205,h212,h228,h258,_⟩
 refine frz_cellg (id:=52) (id2:=212) (rows:=(List.map cN (t.nd))) (i:=(((n)).toNat)) (off:=3) (r:=[(V.bool false),(ints ([])),(ints (cat ([sf]))),(V.ms 52 1 0 (2)),(V.ms 60 1 0 (2))]) (m:=([cat ([outs]),cat ([other])])) (g:=cL) (by decide) (show _=(bk 1 54 1 (List.map cL ([cat ([outs]),cat ([other])]))) from h52) h212 (by (simp; omega)) (by rfl) rfl (fork_ (R:=fun T H=>T 4=(ints w)∧T 12=(V.mp 12 1 0 0)∧T 16=(V.mp 16 1 0 0)∧T 17=(V.mp 17 1 0 0)∧H 6=(bk 1 24 1 [[(V.sl (List.map cN (t.nd)))]])∧H 12=(bk 1 24 1 [[V.nilsl]])∧H 16=(bk 1 24 1 [[(V.ms 212 1 0 (t.nd.length))]])∧H 17=(bk 1 99 5 [(cN (((nth (t.nd) (((n)).toNat)))))])∧H 18=(bk 1 99 5 [[(V.bool false),V.nilsl,(ints (cat ([sf]))),(V.ms 52 1 0 (2)),(V.ms 60 1 0 (2))]])∧((H 52).ver=1∧(H 52).live=false)∧H 60=(bk 1 3 1 [[(iV ((t.nd.length:Nat):Int))],[(iV ((t.nd.length+1:Nat):Int))]])∧H 201=(⟨1,false,false,0,0,[]⟩:Blk)∧H 202=(⟨1,false,false,0,0,[]⟩:Blk)∧H 205=(⟨0+t.nd.length,false,false,0,0,[]⟩:Blk)∧H 212=(bk 1 99 5 ((List.map cN (t.nd)).set (((n)).toNat) [(V.bool false),(ints ([])),(ints (cat ([sf]))),(intss ([cat ([outs]),cat ([other])])),(V.ms 60 1 0 (2))]))∧H 228=(⟨0+t.nd.length*1048578,false,false,0,0,[]⟩:Blk)∧H 258=(⟨0+3*t.nd.length,false,false,0,0,[]⟩:Blk)∧True) ⟨(fzT_q t4 rfl),(fzT_q t12 rfl),(fzT_q t16 rfl),(fzT_q t17 rfl),((upd_ne _ _ (by decide)).trans (kill_ne h6 (by decide))),((upd_ne _ _ (by decide)).trans (kill_ne h12 (by decide))),((upd_ne _ _ (by decide)).trans (kill_ne h16 (by decide))),((upd_ne _ _ (by decide)).trans (kill_ne h17 (by decide))),((upd_ne _ _ (by decide)).trans (kill_ne h18 (by decide))),⟨(congrArg Blk.ver (upd_ne _ _ (by decide))).trans (kill_self (congrArg Blk.ver h52)).1,(congrArg Blk.live (upd_ne _ _ (by decide))).trans (kill_self (congrArg Blk.ver h52)).2⟩,((upd_ne _ _ (by decide)).trans (kill_ne h60 (by decide))),((upd_ne _ _ (by decide)).trans (kill_ne h201 (by decide))),((upd_ne _ _ (by decide)).trans (kill_ne h202 (by decide))),((upd_ne _ _ (by decide)).trans (kill_ne h205 (by decide))),(upd_same _ _ _),((upd_ne _ _ (by decide)).trans (kill_ne h228 (by decide))),((upd_ne _ _ (by decide)).trans (kill_ne h258 (by decide))),trivial⟩ ?_)
 intro T H ⟨t4,t12,t16,t17,h6,h12,h16,h17,h18,h52,h60,h201,h202,h205,h212,h228,h258,_⟩
 refine frz_cellg (id:=60) (id2:=212) (rows:=(List.map cN (t.nd))) (i:=(((n)).toNat)) (off:=4) (r:=[(V.bool false),(ints ([])),(ints (cat ([sf]))),(intss ([cat ([outs]),cat ([other])])),(V.ms 60 1 0 (2))]) (m:=([((t.nd.length:Nat):Int),((t.nd.length+1:Nat):Int)])) (g:=cI) (by decide) (show _=(bk 1 3 1 (List.map cI ([((t.nd.length:Nat):Int),((t.nd.length+1:Nat):Int)]))) from h60) h212 (by (simp; omega)) (by rfl) rfl (.done ?_)
 refine fork_ (R:=fun T H=>T 4=(ints w)∧T 12=(V.mp 12 1 0 0)∧T 16=(V.mp 16 1 0 0)∧T 17=(V.mp 17 1 0 0)∧H 6=(bk 1 24 1 [[(V.sl (List.map cN (t.nd)))]])∧H 12=(bk 1 24 1 [[V.nilsl]])∧H 16=(bk 1 24 1 [[(V.ms 212 1 0 (t.nd.length))]])∧H 17=(bk 1 99 5 [(cN (((nth (t.nd) (((n)).toNat)))))])∧H 18=(bk 1 99 5 [[(V.bool false),V.nilsl,(ints (cat ([sf]))),(V.ms 52 1 0 (2)),(V.ms 60 1 0 (2))]])∧((H 52).ver=1∧(H 52).live=false)∧((H 60).ver=1∧(H 60).live=false)∧H 201=(⟨1,false,false,0,0,[]⟩:Blk)∧H 202=(⟨1,false,false,0,0,[]⟩:Blk)∧H 205=(⟨0+t.nd.length,false,false,0,0,[]⟩:Blk)∧H 212=(bk 1 99 5 (List.map cN ((t.nd).set (((n)).toNat) ((⟨false,[],cat ([sf]),[cat ([outs]),cat ([other])],[((t.nd.length:Nat):Int),((t.nd.length+1:Nat):Int)]⟩:Nd)))))∧H 228=(⟨0+t.nd.length*1048578,false,false,0,0,[]⟩:Blk)∧H 258=(⟨0+3*t.nd.length,false,false,0,0,[]⟩:Blk)∧True) ⟨(fzT_q t4 rfl),(fzT_q t12 rfl),(fzT_q t16 rfl),(fzT_q t17 rfl),((upd_ne _ _ (by decide)).trans (kill_ne h6 (by decide))),((upd_ne _ _ (by decide)).trans (kill_ne h12 (by decide))),((upd_ne _ _ (by decide)).trans (kill_ne h16 (by decide))),((upd_ne _ _ (by decide)).trans (kill_ne h17 (by decide))),((upd_ne _ _ (by decide)).trans (kill_ne h18 (by decide))),⟨(congrArg Blk.ver (upd_ne _ _ (by decide))).trans (kill_dead h52).1,(congrArg Blk.live (upd_ne _ _ (by decide))).trans (kill_dead h52).2⟩,⟨(congrArg Blk.ver (upd_ne _ _ (by decide))).trans (kill_self (congrArg Blk.ver h60)).1,(congrArg Blk.live (upd_ne _ _ (by decide))).trans (kill_self (congrArg Blk.ver h60)).2⟩,((upd_ne _ _ (by decide)).trans (kill_ne h201 (by decide))),((upd_ne _ _ (by decide)).trans (kill_ne h202 (by decide))),((upd_ne _ _ (by decide)).trans (kill_ne h205 (by decide))),(Eq.trans (upd_same _ _ _) (by (rw [List.map_set]; rfl))),((upd_ne _ _ (by decide)).trans (kill_ne h228 (by decide))),((upd_ne _ _ (by decide)).trans (kill_ne h258 (by decide))),trivial⟩ ?_
 intro T H ⟨t4,t12,t16,t17,h6,h12,h16,h17,h18,h52,h60,h201,h202,h205,h212,h228,h258,_⟩
 refine W_seq_g (fun T H=>T 12=(V.mp 12 1 0 0)∧T 16=(V.mp 16 1 0 0)∧H 6=(bk 1 24 1 [[(V.sl (List.map cN (t.nd)))]])∧H 12=(bk 1 24 1 [[V.nilsl]])∧H 16=(bk 1 24 1 [[(V.ms 212 2 0 (t.nd.length+2))]])∧H 17=(bk 1 99 5 [(cN (((nth (t.nd) (((n)).toNat)))))])∧H 18=(bk 1 99 5 [[(V.bool false),V.nilsl,(ints (cat ([sf]))),(V.ms 52 1 0 (2)),(V.ms 60 1 0 (2))]])∧((H 52).ver=1∧(H 52).live=false)∧((H 60).ver=1∧(H 60).live=false)∧H 201=(⟨1,false,false,0,0,[]⟩:Blk)∧H 202=(⟨1,false,false,0,0,[]⟩:Blk)∧H 205=(⟨0+t.nd.length,false,false,0,0,[]⟩:Blk)∧H 212=(bk 2 99 5 (List.map cN ((t.nd).set (((n)).toNat) ((⟨false,[],cat ([sf]),[cat ([outs]),cat ([other])],[((t.nd.length:Nat):Int),((t.nd.length+1:Nat):Int)]⟩:Nd)))++[(cN (((nth (t.nd) (((n)).toNat))))),[(V.bool true),(ints (cat ([w]))),V.nilsl,V.nilsl,V.nilsl]]))∧H 228=(⟨0+t.nd.length*1048578,false,false,0,0,[]⟩:Blk)∧H 258=(⟨0+3*t.nd.length,false,false,0,0,[]⟩:Blk)∧True) ?_ ?_
 ·
  refine R_fk t16 h16 (R_lk rfl h16 rfl rfl (R_lk t17 h17 rfl rfl (R_mv t4 (R_bslice rfl rfl (R_callk (pjoin_pure ([w]) (by simp only [cat,List.append_nil]; omega)) rfl (R_build rfl rfl (R_bslice rfl rfl ?_)))))))
  refine R_appendN (l:=((t.nd).set (((n)).toNat) ((⟨false,[],cat ([sf]),[cat ([outs]),cat ([other])],[((t.nd.length:Nat):Int),((t.nd.length+1:Nat):Int)]⟩:Nd)))) (f:=cN) (@rfl V (V.ms 212 1 0 (t.nd.length))) h212 (by simp) (@rfl V (V.sl [(cN (((nth (t.nd) (((n)).toNat))))),[(V.bool true),(ints (cat ([w]))),V.nilsl,V.nilsl,V.nilsl]])) (by simp [fitRows,V.one]) (by (simp; omega)) (by (simp; omega)) (R_fk t16 h16 (R_sk rfl rfl rfl h16 rfl rfl rfl rfl rfl ?_))
  exact R_nil ⟨t12,t16,h6,h12,rfl,h17,h18,h52,h60,h201,h202,h205,rfl,h228,h258,trivial⟩
 intro T H ⟨t12,t16,h6,h12,h16,h17,h18,h52,h60,h201,h202,h205,h212,h228,h258,_⟩
 refine nza_map (l:=((t.nd).set (((n)).toNat) ((⟨false,[],cat ([sf]),[cat ([outs]),cat ([other])],[((t.nd.length:Nat):Int),((t.nd.length+1:Nat):Int)]⟩:Nd)))) (m:=([((nth (t.nd) (((n)).toNat))),(⟨true,cat ([w]),[],[],[]⟩:Nd)])) (f:=cN) h212 rfl (.done ?_)
 refine fork_ (R:=fun T H=>T 12=(V.mp 12 1 0 0)∧T 16=(V.mp 16 1 0 0)∧H 6=(bk 1 24 1 [[(V.sl (List.map cN (t.nd)))]])∧H 12=(bk 1 24 1 [[V.nilsl]])∧H 16=(bk 1 24 1 [[(V.ms 212 2 0 (t.nd.length+2))]])∧H 17=(bk 1 99 5 [(cN (((nth (t.nd) (((n)).toNat)))))])∧H 18=(bk 1 99 5 [[(V.bool false),V.nilsl,(ints (cat ([sf]))),(V.ms 52 1 0 (2)),(V.ms 60 1 0 (2))]])∧((H 52).ver=1∧(H 52).live=false)∧((H 60).ver=1∧(H 60).live=false)∧H 201=(⟨1,false,false,0,0,[]⟩:Blk)∧H 202=(⟨1,false,false,0,0,[]⟩:Blk)∧H 205=(⟨0+t.nd.length,false,false,0,0,[]⟩:Blk)∧H 212=(bk 2 99 5 (List.map cN ((t.nd).set (((n)).toNat) ((⟨false,[],cat ([sf]),[cat ([outs]),cat ([other])],[((t.nd.length:Nat):Int),((t.nd.length+1:Nat):Int)]⟩:Nd))++[((nth (t.nd) (((n)).toNat))),(⟨true,cat ([w]),[],[],[]⟩:Nd)])))∧H 228=(⟨0+t.nd.length*1048578,false,false,0,0,[]⟩:Blk)∧H 258=(⟨0+3*t.nd.length,false,false,0,0,[]⟩:Blk)∧True) ⟨t12,t16,((upd_ne _ _ (by decide)).trans h6),((upd_ne _ _ (by decide)).trans h12),((upd_ne _ _ (by decide)).trans h16),((upd_ne _ _ (by decide)).trans h17),((upd_ne _ _ (by decide)).trans h18),⟨(congrArg Blk.ver (upd_ne _ _ (by decide))).trans (h52).1,(congrArg Blk.live (upd_ne _ _ (by decide))).trans (h52).2⟩,⟨(congrArg Blk.ver (upd_ne _ _ (by decide))).trans (h60).1,(congrArg Blk.live (upd_ne _ _ (by decide))).trans (h60).2⟩,((upd_ne _ _ (by decide)).trans h201),((upd_ne _ _ (by decide)).trans h202),((upd_ne _ _ (by decide)).trans h205),(upd_same _ _ _),((upd_ne _ _ (by decide)).trans h228),((upd_ne _ _ (by decide)).trans h258),trivial⟩ ?_
 intro T H ⟨t12,t16,h6,h12,h16,h17,h18,h52,h60,h201,h202,h205,h212,h228,h258,_⟩
 refine W_r (R_lk t16 h16 rfl rfl (R_sk t12 rfl rfl h12 rfl rfl rfl rfl rfl (R_mv rfl (R_e (W_ret ?_)))))
 refine RetC_2 (resV_c (u:=(V.agg [(V.ms 212 2 0 (t.nd.length+2))])) t12 (@rfl Blk (bk 1 24 1 [[(V.ms 212 2 0 (t.nd.length+2))]])) (lB oB rfl rfl)) (resV_t (@rfl V (iV (0:Int)))) (fz_agg1 (fz_ms h212 (by rfl) (l:=((t.nd).set (((n)).toNat) ((⟨false,[],cat ([sf]),[cat ([outs]),cat ([other])],[((t.nd.length:Nat):Int),((t.nd.length+1:Nat):Int)]⟩:Nd))++[((nth (t.nd) (((n)).toNat))),(⟨true,cat ([w]),[],[],[]⟩:Nd)])) rfl (by simp) (fun _=>by simp) ?_)) (fz_int ?_)
 · rw [spT_yes hE]; unfold spN spO spK; rw [if_neg d7,if_neg d7]; simp [cat1,lfN]
 · exact hE.symm
theorem trefine_pure (l:Ts) (o:Ob) (s:Spl) (hb:Bd l.t) (ho:oval o=0):PureC Tryz.prog 21 [(V.agg [(iV (l.i)),(V.sl (List.map cN (l.t.nd)))]),(V.agg [(iV (o.i)),(V.sl (List.map cT (o.tr)))]),(V.agg [(ints s.p),(iV (s.a)),(ints s.x)])] (V.tup [(V.agg [(iV ((rfR l o s).1.i)),(V.sl (List.map cN ((rfR l o s).1.t.nd)))]),(intss ((rfR l o s).2.1)),(iV ((rfR l o s).2.2))]):=by
 refine pW Tryz.func21 s21_ok fun hB=>?_
 unfold s21
 dsimp only
 have hal:=acL_len l.t.nd
 refine W_r (R_box (i:=3) (n:=0) (m:=2) (cs:=[(iV (l.i)),(V.sl (List.map cN (l.t.nd)))]) rfl (congrArg Blk.ver rfl) rfl rfl rfl (R_box (i:=4) (n:=0) (m:=2) (cs:=[(iV (o.i)),(V.sl (List.map cT (o.tr)))]) rfl (congrArg Blk.ver rfl) rfl rfl rfl (R_box (i:=5) (n:=0) (m:=3) (cs:=[(ints s.p),(iV (s.a)),(ints s.x)]) rfl (congrArg Blk.ver rfl) rfl rfl rfl (R_alloc (i:=6) (n:=0) (m:=2) rfl (congrArg Blk.ver rfl) rfl (R_mv rfl (R_mv rfl (R_e ?_)))))))
 refine W_r (R_lk rfl rfl rfl rfl (R_lk rfl rfl rfl rfl (R_build rfl rfl (R_alloc (i:=9) (n:=0) (m:=4) rfl (congrArg Blk.ver rfl) rfl (R_sk rfl rfl rfl rfl rfl rfl rfl rfl rfl (R_e (W_seq_seq ?_)))))))
 refine W_r (R_lk rfl rfl rfl rfl (R_lk rfl rfl rfl rfl (R_callk (tsplit_pure l o s hb) rfl (R_mv rfl (R_e (W_seq_seq (W_r ?_)))))))
 refine R_mv rfl (R_neq rfl rfl (R_e ?_))
 refine W_seq_if rfl (fun c1=>?_) fun c1=>?_
 ·
  have c0:=c1
  refine W_seq_seq (W_r (R_lk rfl rfl rfl rfl (R_mv rfl (R_sk rfl rfl rfl rfl rfl rfl rfl rfl rfl (R_mv rfl (R_mv rfl (R_e ?_)))))))
  refine W_seq_ret ?_
  refine RetC_3 (resV_c (u:=(V.agg [(iV (l.i)),(V.sl (List.map cN (l.t.nd)))])) rfl (@rfl Blk (bk 1 26 2 [[(iV (l.i)),(V.sl (List.map cN (l.t.nd)))]])) (lB oB rfl rfl)) (resV_t (@rfl V V.nilsl)) (resV_t (@rfl V (iV (if tsE l o≠0 then tsE l o else prS s l.i)))) (fz_agg2 (fz_int ?_) (fz_sl ?_ (fun _=>by simp))) (fz_nil ?_) (fz_int ?_)
  · by_cases zq1:tsE l o≠0
    · rw [rfR_1 zq1]
    · rw [if_neg zq1] at c0; rw [rfR_2 zq1 c0]
  · by_cases zq1:tsE l o≠0
    · rw [rfR_1 zq1]
    · rw [if_neg zq1] at c0; rw [rfR_2 zq1 c0]
  · by_cases zq1:tsE l o≠0
    · rw [rfR_1 zq1]
    · rw [if_neg zq1] at c0; rw [rfR_2 zq1 c0]
  · by_cases zq1:tsE l o≠0
    · rw [rfR_1 zq1]; exact if_pos zq1
    · rw [if_neg zq1] at c0; rw [rfR_2 zq1 c0]; exact if_neg zq1
 have c0:=c1
 have zq1: ¬tsE l o≠0:=fun e=>c0 (by rw [if_pos e]; exact e)
 have zq2: ¬prS s l.i≠0:=fun e=>c0 (by rw [if_neg zq1]; exact e)
 have ht:=ts_ok (Decidable.not_not.1 zq1)
 obtain ⟨hi1,hi2,hv,hw0,_,hl0⟩:=tv_ok ht.1
 have hbn:=hb.n
 obtain ⟨p1,p2,p3,p4,p5⟩:=prS_ok zq2
 have p6:=wchk_ok p1
 have p7:=wchk_ok p5
 have p8:(rfW s).length=s.p.length+1:=by simp [rfW,cat]
 have hll:=lvs_len hv
 refine W_seq_skip (W_r (R_fk rfl rfl (R_lk rfl rfl rfl rfl (R_fk rfl rfl (R_lk rfl rfl rfl rfl (R_bslice rfl rfl (R_bslice rfl rfl ?_)))))))
 refine R_callc (evcons rfl evnil) ((show PureC _ _ _ (ints (rfW s)) from pjoin_pure [s.p,[s.a]] (by simp only [cat,List.append_nil,List.length_append,List.length_cons,List.length_nil]; omega))) (R_mv rfl (R_e (W_r (R_fk rfl rfl (R_lk rfl rfl rfl rfl (R_lk rfl rfl rfl rfl (R_mv rfl ?_)))))))
 refine R_callk (sift_pure l.t o (rfW s) hb ho (by omega)) rfl (R_mv rfl (R_ext rfl rfl (R_ext rfl rfl (R_ext rfl rfl (R_mv rfl (R_mv rfl (R_mv rfl ?_)))))))
 refine R_e (W_seq_seq (W_r (R_mv rfl (R_neq rfl rfl (R_e ?_)))))
 refine W_seq_if rfl (fun c2=>?_) fun c2=>?_
 ·
  have zq3:(sftR l.t o (rfW s)).2.2≠0:=c2
  refine W_seq_seq ?_
  refine W_seq_regc (fun T H=>T 6=(V.mp 6 1 0 0)∧T 7=V.nilsl∧T 8=(iV ((sftR l.t o (rfW s)).2.2))∧H 3=(bk 1 26 2 [[(iV (l.i)),(V.sl (List.map cN (l.t.nd)))]])∧H 4=(bk 1 29 2 [[(iV (o.i)),(V.sl (List.map cT (o.tr)))]])∧H 5=(bk 1 56 3 [[(ints s.p),(iV (s.a)),(ints s.x)]])∧H 6=(bk 1 26 2 [[(iV (l.i)),(V.sl (List.map cN (l.t.nd)))]])∧H 9=(bk 1 87 4 [[(iV (l.i)),(V.sl (List.map cN (l.t.nd))),(iV (o.i)),(V.sl (List.map cT (o.tr)))]])∧H 17=(⟨0,false,false,0,0,[]⟩:Blk)∧H 20=(⟨0,false,false,0,0,[]⟩:Blk)∧True) ?_ ?_
  ·
   refine R_lk rfl rfl rfl rfl (R_mv rfl (R_sk rfl rfl rfl rfl rfl rfl rfl rfl rfl (R_mv rfl (R_mv rfl ?_))))
   exact R_nil ⟨rfl,rfl,rfl,rfl,rfl,rfl,rfl,rfl,rfl,rfl,trivial⟩
  intro T H ⟨t6,t7,t8,h3,h4,h5,h6,h9,h17,h20,_⟩
  refine W_seq_ret ?_
  refine RetC_3 (resV_c (u:=(V.agg [(iV (l.i)),(V.sl (List.map cN (l.t.nd)))])) t6 h6 (lB oB rfl rfl)) (resV_t t7) (resV_t t8) (fz_agg2 (fz_int ?_) (fz_sl ?_ (fun _=>by simp))) (fz_nil ?_) (fz_int ?_)
  · rw [rfR_3 zq1 zq2 zq3]
    try rfl
  · rw [rfR_3 zq1 zq2 zq3]
    try rfl
  · rw [rfR_3 zq1 zq2 zq3]
    try rfl
  · rw [rfR_3 zq1 zq2 zq3]
    try rfl
 have zq3: ¬(sftR l.t o (rfW s)).2.2≠0:=c2
 refine W_seq_skip (W_seq_seq ?_)
 refine W_seq_regc (fun T H=>T 3=(V.mp 3 1 0 0)∧T 5=(V.mp 5 1 0 0)∧T 6=(V.mp 6 1 0 0)∧T 9=(V.mp 9 1 0 0)∧T 11=(ints (rfW s))∧T 12=(iV ((sftR l.t o (rfW s)).1))∧T 13=(ints ((sftR l.t o (rfW s)).2.1))∧T 53=(V.bool (decide ((0:Int) < ((((sftR l.t o (rfW s)).2.1).length:Nat):Int))))∧H 3=(bk 1 26 2 [[(iV (l.i)),(V.sl (List.map cN (l.t.nd)))]])∧H 4=(bk 1 29 2 [[(iV (o.i)),(V.sl (List.map cT (o.tr)))]])∧H 5=(bk 1 56 3 [[(ints s.p),(iV (s.a)),(ints s.x)]])∧H 6=(bk 1 26 2 [[(iV (0:Int)),V.nilsl]])∧H 9=(bk 1 87 4 [[(iV (l.i)),(V.sl (List.map cN (l.t.nd))),(iV (o.i)),(V.sl (List.map cT (o.tr)))]])∧H 17=(⟨0,false,false,0,0,[]⟩:Blk)∧H 20=(⟨0,false,false,0,0,[]⟩:Blk)∧True) ?_ ?_
 ·
  refine R_mv rfl (R_len rfl (R_gtr rfl rfl ?_))
  exact R_nil ⟨rfl,rfl,rfl,rfl,rfl,rfl,rfl,rfl,rfl,rfl,rfl,rfl,rfl,rfl,rfl,trivial⟩
 intro T H ⟨t3,t5,t6,t9,t11,t12,t13,t53,h3,h4,h5,h6,h9,h17,h20,_⟩
 refine W_seq_if t53 (fun c3=>?_) fun c3=>?_
 ·
  have zq4:0 < (sftR l.t o (rfW s)).2.1.length:=by omega
  refine W_seq_seq (W_r (R_lk t3 h3 rfl rfl (R_mv t13 (R_bslice rfl rfl (R_sk t6 rfl rfl h6 rfl rfl rfl rfl rfl (R_mv rfl (R_mv rfl ?_)))))))
  refine R_e (W_seq_ret ?_)
  refine RetC_3 (resV_c (u:=(V.agg [(iV (l.i)),(V.sl (List.map cN (l.t.nd)))])) t6 (@rfl Blk (bk 1 26 2 [[(iV (l.i)),(V.sl (List.map cN (l.t.nd)))]])) (lB oB rfl rfl)) (resV_t (@rfl V (V.sl [[(ints ((sftR l.t o (rfW s)).2.1))]]))) (resV_t (@rfl V (iV (0:Int)))) (fz_agg2 (fz_int ?_) (fz_sl ?_ (fun _=>by simp))) (fz_canon (by simp) ?_) (fz_int ?_)
  · rw [rfR_4 zq1 zq2 zq3 zq4]
    try rfl
  · rw [rfR_4 zq1 zq2 zq3 zq4]
    try rfl
  · rw [rfR_4 zq1 zq2 zq3 zq4]
    try rfl
  · rw [rfR_4 zq1 zq2 zq3 zq4]
    try rfl
 have zq4: ¬0 < (sftR l.t o (rfW s)).2.1.length:=by omega
 have q4:(sftR l.t o (rfW s)).2.1=[]:=List.length_eq_zero_iff.1 (by omega)
 have hnd:=sft_node (Decidable.not_not.1 zq3) q4 hv
 refine W_seq_skip (W_seq_seq (W_r (R_lk t9 h9 rfl rfl (R_mv t12 (R_callk (tleaf_pure l o (((sftR l.t o (rfW s)).1)) hnd.1 hnd.2.1) rfl (R_notb rfl (R_e ?_)))))))
 refine W_seq_ifb rfl (fun c4=>?_) (fun c4=>?_)
 ·
  have zq5:(rfN l o s).lf=false:=by simpa [rfN] using c4
  refine W_seq_seq (W_r (R_lk t3 h3 rfl rfl (R_sk t6 rfl rfl h6 rfl rfl rfl rfl rfl (R_mv rfl (R_mv rfl (R_e (W_seq_ret ?_)))))))
  refine RetC_3 (resV_c (u:=(V.agg [(iV (l.i)),(V.sl (List.map cN (l.t.nd)))])) t6 (@rfl Blk (bk 1 26 2 [[(iV (l.i)),(V.sl (List.map cN (l.t.nd)))]])) (lB oB rfl rfl)) (resV_t (@rfl V V.nilsl)) (resV_t (@rfl V (iV (10:Int)))) (fz_agg2 (fz_int ?_) (fz_sl ?_ (fun _=>by simp))) (fz_nil ?_) (fz_int ?_)
  · rw [rfR_5 zq1 zq2 zq3 zq4 zq5]
    try rfl
  · rw [rfR_5 zq1 zq2 zq3 zq4 zq5]
    try rfl
  · rw [rfR_5 zq1 zq2 zq3 zq4 zq5]
    try rfl
  · rw [rfR_5 zq1 zq2 zq3 zq4 zq5]
    try rfl
 have zq5: ¬(rfN l o s).lf=false:=by simpa [rfN] using c4
 have hac:=(wchk_ok (hw0 (sftR l.t o (rfW s)).1.toNat (by omega)).1).1
 have hba:(rfN l o s).ac.length≤1024:=hac
 have hlc:(rfN l o s).lf=true:=by simpa using zq5
 have bh1:=bho_le ho (nth l.t.nd (sftR l.t o (rfW s)).1.toNat).ac s.x
 have bh2:=bho_le ho (rfW s) s.x
 have b0:(nth (rfB l o s) 0).length=(rfN l o s).ac.length+s.x.length:=by show (cat [_,_]).length=_; simp [cat]
 have b1:(nth (rfB l o s) 1).length=(rfW s).length+s.x.length:=by show (cat [_,_]).length=_; simp [cat]
 have hbl:(rfB l o s).length=2:=rfl
 refine W_seq_skip (W_r (R_fk t3 h3 (R_fk rfl h3 (R_lk rfl h3 rfl rfl (R_mv t12 (R_idxI (i:=((sftR l.t o (rfW s)).1)) (@rfl V (V.sl (List.map cN (l.t.nd)))) (@rfl V (iV ((sftR l.t o (rfW s)).1))) (by omega) (by omega) rfl (R_fld_pp (cs':=(List.drop 1 (cN (((nth (l.t.nd) ((sftR l.t o (rfW s)).1).toNat)))))) rfl rfl ?_)))))))
 refine R_load_pp rfl rfl (R_mv rfl (R_e (W_r (R_mv rfl (R_fk t5 h5 (R_lk rfl h5 rfl rfl (R_bslice rfl rfl ?_)))))))
 refine R_callk (pjoin_pure ([((nth (l.t.nd) ((sftR l.t o (rfW s)).1).toNat)).ac,s.x]) (by simp only [cat,List.append_nil,List.length_append,List.length_cons,List.length_nil]; omega)) rfl (R_mv t11 (R_fk t5 h5 (R_lk rfl h5 rfl rfl (R_bslice rfl rfl (R_callk (pjoin_pure ([rfW s,s.x]) (by simp only [cat,List.append_nil,List.length_append,List.length_cons,List.length_nil]; omega)) rfl (R_bslice rfl rfl (R_mv rfl ?_)))))))
 refine R_e (W_r (R_lazy (i:=17) (n:=0) rfl (congrArg Blk.ver h17) (R_e (W_seq_seq (W_r (R_mv rfl (R_len_lit (n:=2) rfl rfl ?_)))))))
 refine R_mv rfl (R_e (W_seq_blockg fun Q5 n5 x5 y5 z5=>?_))
 refine W_loop (fun mm T H=> ∃ (k:Nat) (v:Nat),mm=2 - k∧T 3=(V.mp 3 1 0 0)∧T 5=(V.mp 5 1 0 0)∧T 6=(V.mp 6 1 0 0)∧T 9=(V.mp 9 1 0 0)∧T 11=(ints (rfW s))∧T 12=(iV ((sftR l.t o (rfW s)).1))∧T 15=(ints (((nth (l.t.nd) ((sftR l.t o (rfW s)).1).toNat)).ac))∧T 17=(V.ms 17 v 0 ((msK o (rfB l o s) k).length))∧T 80=(intss (rfB l o s))∧T 81=(iV ((2:Nat):Int))∧T 82=(iV ((k:Nat):Int))∧H 3=(bk 1 26 2 [[(iV (l.i)),(V.sl (List.map cN (l.t.nd)))]])∧H 4=(bk 1 29 2 [[(iV (o.i)),(V.sl (List.map cT (o.tr)))]])∧H 5=(bk 1 56 3 [[(ints s.p),(iV (s.a)),(ints s.x)]])∧H 6=(bk 1 26 2 [[(iV (0:Int)),V.nilsl]])∧H 9=(bk 1 87 4 [[(iV (l.i)),(V.sl (List.map cN (l.t.nd))),(iV (o.i)),(V.sl (List.map cT (o.tr)))]])∧H 17=(bz v 54 1 (List.map cL (msK o (rfB l o s) k)))∧H 20=(⟨0,false,false,0,0,[]⟩:Blk)∧(k≤2)∧(∀ j,j < k→(nth (rfB l o s) j).length≤1024)) ?_ ?_
 ·
  refine ⟨_,0,1,rfl,t3,t5,t6,t9,t11,t12,rfl,(Eq.trans (@rfl V (V.ms 17 1 0 (0))) (by rfl)),(Eq.trans (@rfl V (V.sl [[(ints (cat ([((nth (l.t.nd) ((sftR l.t o (rfW s)).1).toNat)).ac,s.x])))],[(ints (cat ([rfW s,s.x])))]])) (by rfl)),rfl,(Eq.trans (@rfl V (iV (0:Int))) rfl),h3,h4,h5,h6,h9,(Eq.trans (@rfl Blk (bz 1 54 1 [])) (by rfl)),h20,?_,?_⟩
  · omega
  · intro j hj; omega
 intro mm T H ⟨k,v,hmm,t3,t5,t6,t9,t11,t12,t15,t17,t80,t81,t82,h3,h4,h5,h6,h9,h17,h20,hk,hc⟩ Q6 p16 p26 p36
 unfold b21_0
 have q1:=msK_len o (rfB l o s) k
 refine W_r (R_lss t82 t81 (R_e ?_))
 refine W_seq_if rfl (fun c7=>?_) fun c7=>?_
 ·
  have hk2:k=0∨k=1:=by omega
  refine W_seq_skip (W_seq_blockg fun Q8 n8 x8 y8 z8=>(W_r (R_idx (i:=k) t80 t82 (by omega) rfl (R_load_pp rfl rfl (R_mv rfl (R_e (W_seq_seq ?_)))))))
  refine W_r (R_mv rfl (R_len rfl (R_gtr rfl rfl (R_e ?_))))
  refine W_seq_if rfl (fun c9=>?_) fun c9=>?_
  ·
   have zq6:1024 < (rfN l o s).ac.length+s.x.length∨1024 < (rfW s).length+s.x.length:=by rcases hk2 with e|e <;> subst e <;> omega
   refine W_seq_seq (W_r (R_lk t3 h3 rfl rfl (R_sk t6 rfl rfl h6 rfl rfl rfl rfl rfl (R_mv rfl (R_mv rfl (R_e (W_seq_ret ?_)))))))
   refine y8 _ _ (p26 _ _ (y5 _ _ ?_))
   refine RetC_3 (resV_c (u:=(V.agg [(iV (l.i)),(V.sl (List.map cN (l.t.nd)))])) t6 (@rfl Blk (bk 1 26 2 [[(iV (l.i)),(V.sl (List.map cN (l.t.nd)))]])) (lB oB rfl rfl)) (resV_t (@rfl V V.nilsl)) (resV_t (@rfl V (iV (3:Int)))) (fz_agg2 (fz_int ?_) (fz_sl ?_ (fun _=>by simp))) (fz_nil ?_) (fz_int ?_)
   · rw [rfR_6 zq1 zq2 zq3 zq4 zq5 zq6]
     try rfl
   · rw [rfR_6 zq1 zq2 zq3 zq4 zq5 zq6]
     try rfl
   · rw [rfR_6 zq1 zq2 zq3 zq4 zq5 zq6]
     try rfl
   · rw [rfR_6 zq1 zq2 zq3 zq4 zq5 zq6]
     try rfl
  refine W_seq_skip (W_r (R_lk t9 h9 rfl rfl (R_mv rfl (R_callk (tknown_pure l o ((nth (rfB l o s) (k))) ho) rfl (R_notb rfl (R_e ?_))))))
  refine W_ifb rfl (fun c10=>?_) (fun c10=>?_)
  ·
   have d1:(ans o (nth (rfB l o s) k)).isSome=false:=by simpa using c10
   refine W_t (R_mv t17 (R_mv rfl (R_bslice rfl rfl (R_append1 (l:=(msK o (rfB l o s) k)) (f:=cL) (x:=((nth (rfB l o s) (k)))) (@rfl V (V.ms 17 v 0 ((msK o (rfB l o s) k).length))) h17 (by rfl) (@rfl V (V.sl [[(ints ((nth (rfB l o s) (k))))]])) rfl rfl (by omega) (by omega) (R_mv rfl (R_e (n8 _ _ ?_)))))))
   refine .done (W_t (R_addN t82 (@rfl V (iV ((1:Nat):Int))) (by omega) (R_mv rfl (R_e ?_))))
   refine p16 _ _ _ ?_ ⟨(k+1),(v+1),rfl,t3,t5,t6,t9,t11,t12,t15,(Eq.trans (@rfl V (V.ms 17 (v+1) 0 (((msK o (rfB l o s) k).length)+1))) (by (rw [msK_yes (by omega) d1,List.length_append]; rfl))),t80,t81,(Eq.trans (@rfl V (iV ((k+1:Nat):Int))) (by rfl)),h3,h4,h5,h6,h9,(Eq.trans (@rfl Blk (bz (v+1) 54 1 (List.map cL (msK o (rfB l o s) k++[(nth (rfB l o s) (k))])))) (by (rw [msK_yes (by omega) d1]; done))),h20,?_,?_⟩
   · omega
   · omega
   · intro j hj
     by_cases e:j=k
     · subst e; omega
     · exact hc j (by omega)
  have d1:(ans o (nth (rfB l o s) k)).isSome=true:=by simpa using c10
  refine W_skip (n8 _ _ (.done (W_t (R_addN t82 (@rfl V (iV ((1:Nat):Int))) (by omega) (R_mv rfl (R_e ?_))))))
  refine p16 _ _ _ ?_ ⟨(k+1),v,rfl,t3,t5,t6,t9,t11,t12,t15,(Eq.trans t17 (by (rw [msK_no (by omega) d1]; done))),t80,t81,(Eq.trans (@rfl V (iV ((k+1:Nat):Int))) (by rfl)),h3,h4,h5,h6,h9,(Eq.trans h17 (by (rw [msK_no (by omega) d1]; done))),h20,?_,?_⟩
  · omega
  · omega
  · intro j hj
    by_cases e:j=k
    · subst e; omega
    · exact hc j (by omega)
 have zq6: ¬(1024 < (rfN l o s).ac.length+s.x.length∨1024 < (rfW s).length+s.x.length):=by have:=hc 0 (by omega); have:=hc 1 (by omega); omega
 have hme:=msK_end (o:=o) (l:=rfB l o s) (k:=k) (by omega)
 refine W_seq_exit (p36 _ _ _ (x5 _ _ (.done (W_seq_seq ?_))))
 refine W_seq_g (fun T H=>T 3=(V.mp 3 1 0 0)∧T 5=(V.mp 5 1 0 0)∧T 6=(V.mp 6 1 0 0)∧T 9=(V.mp 9 1 0 0)∧T 11=(ints (rfW s))∧T 12=(iV ((sftR l.t o (rfW s)).1))∧T 15=(ints (((nth (l.t.nd) ((sftR l.t o (rfW s)).1).toNat)).ac))∧T 17=(V.ms 17 v 0 ((msK o (rfB l o s) k).length))∧T 101=(V.bool (decide ((0:Int) < (((msK o (rfB l o s) k).length:Nat):Int))))∧H 3=(bk 1 26 2 [[(iV (l.i)),(V.sl (List.map cN (l.t.nd)))]])∧H 4=(bk 1 29 2 [[(iV (o.i)),(V.sl (List.map cT (o.tr)))]])∧H 5=(bk 1 56 3 [[(ints s.p),(iV (s.a)),(ints s.x)]])∧H 6=(bk 1 26 2 [[(iV (0:Int)),V.nilsl]])∧H 9=(bk 1 87 4 [[(iV (l.i)),(V.sl (List.map cN (l.t.nd))),(iV (o.i)),(V.sl (List.map cT (o.tr)))]])∧H 17=(bz v 54 1 (List.map cL (msK o (rfB l o s) k)))∧H 20=(⟨0,false,false,0,0,[]⟩:Blk)∧True) ?_ ?_
 ·
  refine R_mv t17 (R_len_ms rfl h17 (by simp) (R_gtr rfl rfl ?_))
  exact R_nil ⟨t3,t5,t6,t9,t11,t12,t15,t17,rfl,h3,h4,h5,h6,h9,h17,h20,trivial⟩
 intro T H ⟨t3,t5,t6,t9,t11,t12,t15,t17,t101,h3,h4,h5,h6,h9,h17,h20,_⟩
 refine .freeze 17 (.done ?_)
 refine fork_ (R:=fun T H=>T 3=(V.mp 3 1 0 0)∧T 5=(V.mp 5 1 0 0)∧T 6=(V.mp 6 1 0 0)∧T 9=(V.mp 9 1 0 0)∧T 11=(ints (rfW s))∧T 12=(iV ((sftR l.t o (rfW s)).1))∧T 15=(ints (((nth (l.t.nd) ((sftR l.t o (rfW s)).1).toNat)).ac))∧T 17=(intss (msK o (rfB l o s) k))∧T 101=(V.bool (decide ((0:Int) < (((msK o (rfB l o s) k).length:Nat):Int))))∧H 3=(bk 1 26 2 [[(iV (l.i)),(V.sl (List.map cN (l.t.nd)))]])∧H 4=(bk 1 29 2 [[(iV (o.i)),(V.sl (List.map cT (o.tr)))]])∧H 5=(bk 1 56 3 [[(ints s.p),(iV (s.a)),(ints s.x)]])∧H 6=(bk 1 26 2 [[(iV (0:Int)),V.nilsl]])∧H 9=(bk 1 87 4 [[(iV (l.i)),(V.sl (List.map cN (l.t.nd))),(iV (o.i)),(V.sl (List.map cT (o.tr)))]])∧((H 17).ver=v∧(H 17).live=false)∧H 20=(⟨0,false,false,0,0,[]⟩:Blk)∧True) ⟨(fzT_q t3 rfl),(fzT_q t5 rfl),(fzT_q t6 rfl),(fzT_q t9 rfl),(fzT_q t11 rfl),(fzT_q t12 rfl),(fzT_q t15 rfl),(fzT_q t17 (fzq_own h17 (by simp) (l:=(msK o (rfB l o s) k)) rfl (by rfl))),(fzT_q t101 rfl),(kill_ne h3 (by decide)),(kill_ne h4 (by decide)),(kill_ne h5 (by decide)),(kill_ne h6 (by decide)),(kill_ne h9 (by decide)),(kill_self (congrArg Blk.ver h17)),(kill_ne h20 (by decide)),trivial⟩ ?_
 intro T H ⟨t3,t5,t6,t9,t11,t12,t15,t17,t101,h3,h4,h5,h6,h9,h17,h20,_⟩
 refine W_seq_if t101 (fun c11=>?_) fun c11=>?_
 ·
  have zq7:0 < (msW o (rfB l o s)).length:=by rw [← hme]; omega
  refine W_seq_seq (W_r (R_lk t3 h3 rfl rfl (R_mv t17 (R_callk (maximal_pure (msK o (rfB l o s) k) (by omega) (by rw [hme]; intro w hw; have hm:=(List.mem_filter.1 hw).1; obtain ⟨j,j1,rfl⟩:=mem_nth hm; have:=hc j (by omega); omega)) rfl (R_sk t6 rfl rfl h6 rfl rfl rfl rfl rfl (R_mv rfl (R_mv rfl ?_)))))))
  refine R_e (W_seq_ret ?_)
  refine RetC_3 (resV_c (u:=(V.agg [(iV (l.i)),(V.sl (List.map cN (l.t.nd)))])) t6 (@rfl Blk (bk 1 26 2 [[(iV (l.i)),(V.sl (List.map cN (l.t.nd)))]])) (lB oB rfl rfl)) (resV_t (@rfl V (intss (mxW (msK o (rfB l o s) k))))) (resV_t (@rfl V (iV (0:Int)))) (fz_agg2 (fz_int ?_) (fz_sl ?_ (fun _=>by simp))) (fz_sl ?_ (fun _=>by simp)) (fz_int ?_)
  · rw [rfR_7 zq1 zq2 zq3 zq4 zq5 zq6 zq7]
  · rw [rfR_7 zq1 zq2 zq3 zq4 zq5 zq6 zq7]
  · rw [rfR_7 zq1 zq2 zq3 zq4 zq5 zq6 zq7,hme]
  · rw [rfR_7 zq1 zq2 zq3 zq4 zq5 zq6 zq7]
 have zq7: ¬0 < (msW o (rfB l o s)).length:=by rw [← hme]; omega
 have m0:=List.length_eq_zero_iff.1 (show (msW o (rfB l o s)).length=0 by omega)
 unfold rfB at m0
 rw [msW_two] at m0
 have k1:(ans o (cat [(rfN l o s).ac,s.x])).isSome=true:=by by_cases e:(ans o (cat [(rfN l o s).ac,s.x])).isSome=true; exact e; (rw [if_neg e] at m0; simp at m0)
 have k2:(ans o (cat [rfW s,s.x])).isSome=true:=by by_cases e:(ans o (cat [rfW s,s.x])).isSome=true; exact e; (rw [if_neg e] at m0; simp at m0)
 refine W_seq_skip (W_seq_seq (W_r (R_fk t3 h3 (R_lk rfl h3 rfl rfl (R_callk (dleaves_pure l.t hb) rfl (R_len rfl (R_geq rfl rfl ?_)))))))
 refine R_e ?_
 refine W_seq_if rfl (fun c12=>?_) fun c12=>?_
 ·
  have zq8:128≤(acL l.t.nd).length:=by rw [← hll]; have q:=c12; unfold lvs; omega
  refine W_seq_seq (W_r (R_lk t3 h3 rfl rfl (R_sk t6 rfl rfl h6 rfl rfl rfl rfl rfl (R_mv rfl (R_mv rfl (R_e (W_seq_ret ?_)))))))
  refine RetC_3 (resV_c (u:=(V.agg [(iV (l.i)),(V.sl (List.map cN (l.t.nd)))])) t6 (@rfl Blk (bk 1 26 2 [[(iV (l.i)),(V.sl (List.map cN (l.t.nd)))]])) (lB oB rfl rfl)) (resV_t (@rfl V V.nilsl)) (resV_t (@rfl V (iV (11:Int)))) (fz_agg2 (fz_int ?_) (fz_sl ?_ (fun _=>by simp))) (fz_nil ?_) (fz_int ?_)
  · rw [rfR_8 zq1 zq2 zq3 zq4 zq5 zq6 zq7 zq8]
    try rfl
  · rw [rfR_8 zq1 zq2 zq3 zq4 zq5 zq6 zq7 zq8]
    try rfl
  · rw [rfR_8 zq1 zq2 zq3 zq4 zq5 zq6 zq7 zq8]
    try rfl
  · rw [rfR_8 zq1 zq2 zq3 zq4 zq5 zq6 zq7 zq8]
    try rfl
 have zq8: ¬128≤(acL l.t.nd).length:=by rw [← hll]; have q:=c12; unfold lvs; omega
 refine W_seq_skip (W_d (by exact (lateC (congrArg Blk.live h20) lateN)) (R_fk t3 h3 (R_lk rfl h3 rfl rfl (R_mv t12 (R_fk t5 h5 (R_lk rfl h5 rfl rfl (R_lk t9 h9 rfl rfl ?_)))))))
 refine R_mv t15 (R_fk t5 h5 (R_lk rfl h5 rfl rfl (R_callk (touts_pure l o (((nth (l.t.nd) ((sftR l.t o (rfW s)).1).toNat)).ac) s.x ho (by omega) (by omega) (by exact k1)) rfl (R_mv t11 (R_lk t9 h9 rfl rfl (R_mv t11 (R_fk t5 h5 ?_)))))))
 refine R_lk rfl h5 rfl rfl (R_callk (touts_pure l o (rfW s) s.x ho (by omega) (by omega) (by exact k2)) rfl (R_callk (dsplit_pure l.t (((sftR l.t o (rfW s)).1)) s.x (bho o (((nth (l.t.nd) ((sftR l.t o (rfW s)).1).toNat)).ac) s.x) (rfW s) (bho o (rfW s) s.x) hb (by omega) (by omega) (by omega) (by omega)) rfl (R_mv rfl (R_ext rfl rfl (R_ext rfl rfl (R_alloc (i:=20) (n:=0) (m:=1) rfl (congrArg Blk.ver h20) rfl (R_sk rfl rfl rfl rfl rfl rfl rfl rfl rfl ?_)))))))
 refine R_mv rfl (R_e (W_seq_seq (W_r (R_mv rfl (R_neq rfl rfl (R_e ?_))))))
 refine W_seq_if rfl (fun c13=>?_) fun c13=>?_
 ·
  have zq9:rfG l o s≠0:=c13
  refine W_seq_seq (W_r (R_lk t3 h3 rfl rfl (R_mv rfl (R_sk t6 rfl rfl h6 rfl rfl rfl rfl rfl (R_mv rfl (R_mv rfl (R_e ?_)))))))
  refine W_seq_ret ?_
  refine RetC_3 (resV_c (u:=(V.agg [(iV (l.i)),(V.sl (List.map cN (l.t.nd)))])) t6 (@rfl Blk (bk 1 26 2 [[(iV (l.i)),(V.sl (List.map cN (l.t.nd)))]])) (lB oB rfl rfl)) (resV_t (@rfl V V.nilsl)) (resV_t (@rfl V (iV (spE l.t (((sftR l.t o (rfW s)).1)) s.x (bho o (((nth (l.t.nd) ((sftR l.t o (rfW s)).1).toNat)).ac) s.x) (rfW s) (bho o (rfW s) s.x))))) (fz_agg2 (fz_int ?_) (fz_sl ?_ (fun _=>by simp))) (fz_nil ?_) (fz_int ?_)
  · rw [rfR_9 zq1 zq2 zq3 zq4 zq5 zq6 zq7 zq8 zq9]
    try rfl
  · rw [rfR_9 zq1 zq2 zq3 zq4 zq5 zq6 zq7 zq8 zq9]
    try rfl
  · rw [rfR_9 zq1 zq2 zq3 zq4 zq5 zq6 zq7 zq8 zq9]
    try rfl
  · rw [rfR_9 zq1 zq2 zq3 zq4 zq5 zq6 zq7 zq8 zq9]
    try rfl
 have zq9: ¬rfG l o s≠0:=c13
 refine W_seq_skip (W_r (R_fk t3 h3 (R_lk rfl h3 rfl rfl (R_lk rfl rfl rfl rfl (R_build rfl rfl (R_sk t6 rfl rfl h6 rfl rfl rfl rfl rfl (R_mv rfl ?_)))))))
 refine R_mv rfl (R_e (W_ret ?_))
 refine RetC_3 (resV_c (u:=(V.agg [(iV (l.i)),(V.sl (List.map cN ((spT l.t (((sftR l.t o (rfW s)).1)) s.x (bho o (((nth (l.t.nd) ((sftR l.t o (rfW s)).1).toNat)).ac) s.x) (rfW s) (bho o (rfW s) s.x)).nd)))])) t6 (@rfl Blk (bk 1 26 2 [[(iV (l.i)),(V.sl (List.map cN ((spT l.t (((sftR l.t o (rfW s)).1)) s.x (bho o (((nth (l.t.nd) ((sftR l.t o (rfW s)).1).toNat)).ac) s.x) (rfW s) (bho o (rfW s) s.x)).nd)))]])) (lB oB rfl rfl)) (resV_t (@rfl V V.nilsl)) (resV_t (@rfl V (iV (0:Int)))) (fz_agg2 (fz_int ?_) (fz_sl ?_ (fun _=>by simp))) (fz_nil ?_) (fz_int ?_)
 · rw [rfR_10 zq1 zq2 zq3 zq4 zq5 zq6 zq7 zq8 zq9]
   try rfl
 · rw [rfR_10 zq1 zq2 zq3 zq4 zq5 zq6 zq7 zq8 zq9]
   try rfl
 · rw [rfR_10 zq1 zq2 zq3 zq4 zq5 zq6 zq7 zq8 zq9]
   try rfl
 · rw [rfR_10 zq1 zq2 zq3 zq4 zq5 zq6 zq7 zq8 zq9]
   try rfl
abbrev w11_0:=(⟨((2:Int)),([(⟨[1],[0]⟩:Tr),(⟨[0,1],[1,2]⟩:Tr)])⟩:Ob)
abbrev w11_1:=(rfR ((nwT ((2:Int)))) w11_0 (⟨([]),((0:Int)),([1])⟩:Spl))
abbrev w11_2:=(tst ((nwT ((2:Int)))) (⟨((2:Int)),([])⟩:Ob))
abbrev w11_3:=(bk 1 48 5 [[(iV ((hyR ((nwT ((2:Int)))) w11_0).m.i)),(iV ((hyR ((nwT ((2:Int)))) w11_0).m.s)),(intss ((hyR ((nwT ((2:Int)))) w11_0).m.nx)),(intss ((hyR ((nwT ((2:Int)))) w11_0).m.ot)),(intss ((hyR ((nwT ((2:Int)))) w11_0).acc))]])
abbrev w11_14:=(tst ((nwT ((2:Int)))) w11_0)
abbrev w11_12:=((((decide (((nwE ((2:Int)))≠(0:Int))∨((w11_2.2.2.2)≠(0:Int)))||(w11_2.2.2.1)))||decide ((w11_14.2.2.2)≠(0:Int))))
abbrev w11_4:=((((w11_12||((!w11_14.2.2.1))))||decide ((((w11_14.2.1).length:Nat):Int)≠(0:Int))))
abbrev w11_5:=(bk 1 29 2 [[(iV (2:Int)),(V.sl [[(V.sl [[(iV (1:Int))]]),(V.sl [[(iV (0:Int))]])],[(V.sl [[(iV (0:Int))],[(iV (1:Int))]]),(V.sl [[(iV (1:Int))],[(iV (2:Int))]])]])]])
abbrev w11_6:=(bk 1 26 2 [[(iV (w11_14.1.i)),(V.sl (List.map cN (w11_14.1.t.nd)))]])
abbrev w11_7:=(bk 1 26 2 [[(iV ((tst (w11_1.1) w11_0).1.i)),(V.sl (List.map cN ((tst (w11_1.1) w11_0).1.t.nd)))]])
abbrev w11_8:=(bk 1 26 2 [[(iV ((nwT ((2:Int))).i)),(V.sl (List.map cN ((nwT ((2:Int))).t.nd)))]])
abbrev w11_9:=(bk 1 26 2 [[(iV (w11_2.1.i)),(V.sl (List.map cN (w11_2.1.t.nd)))]])
abbrev w11_10:=(bk 1 26 2 [[(iV (w11_1.1.i)),(V.sl (List.map cN (w11_1.1.t.nd)))]])
abbrev w11_17:=(hyE ((nwT ((2:Int)))) w11_0)
abbrev w11_11:=((((w11_4||decide (w11_17≠(0:Int))))||decide ((((w11_1.2.1).length:Nat):Int)≠(0:Int))))
abbrev w11_13:=(((w11_2.2.1)=([[0],[1]]))∧(((((hyR ((nwT ((2:Int)))) w11_0).m.nx).length:Nat):Int)=(1:Int)))
abbrev w11_15:=(intss ((tst (w11_1.1) w11_0).2.1))
abbrev w11_16:=((tst (w11_1.1) w11_0).2.2.2)
theorem aw_learnerlaw27_awake_pure:PureC Tryz.prog 11 [] (V.bool true):=by
 refine pW Tryz.func11 s11_ok fun hB=>?_
 unfold s11
 dsimp only
 refine W_r (R_mv rfl (R_e (W_r (R_callk (tnew_pure ((2:Int))) rfl (R_mv rfl (R_ext rfl rfl (R_ext rfl rfl ?_)))))))
 refine R_alloc (i:=1) (n:=0) (m:=2) rfl (congrArg Blk.ver rfl) rfl (R_sk rfl rfl rfl rfl rfl rfl rfl rfl rfl (R_mv rfl (R_e (W_r (R_lk rfl rfl rfl rfl (R_build rfl rfl (R_call (evcons (@rfl V (V.agg [(iV ((nwT ((2:Int))).i)),(V.sl (List.map cN ((nwT ((2:Int))).t.nd)))])) (evcons (@rfl V (V.agg [(iV (2:Int)),V.nilsl])) evnil)) (tstep_pure ((nwT ((2:Int)))) (⟨((2:Int)),([])⟩:Ob) (bg_bd (by decide+kernel)) (by decide+kernel) (by decide+kernel)) (mcons (fzv_canon 6 _ (by simp [-List.map_take,-List.map_drop,-List.map_append,-List.map_reverse])) (mcons (by simp [fzv,Blk.own]) rfl)) (by simp [-List.map_take,-List.map_drop,-List.map_append,-List.map_reverse]) (Or.inl (by simp [-List.map_take,-List.map_drop,-List.map_append,-List.map_reverse])) ?_)))))))
 refine R_mv rfl (R_ext rfl rfl (R_ext rfl rfl (R_ext rfl rfl (R_ext rfl rfl (R_alloc (i:=3) (n:=0) (m:=2) rfl (congrArg Blk.ver rfl) rfl (R_sk rfl rfl rfl rfl rfl rfl rfl rfl rfl (R_mv rfl ?_)))))))
 refine R_mv rfl (R_mv rfl (R_e (W_r (R_bslice rfl rfl (R_bslice rfl rfl (R_build rfl rfl (R_bslice rfl rfl ?_)))))))
 refine R_bslice rfl rfl (R_build rfl rfl (R_bslice rfl rfl (R_build rfl rfl (R_alloc (i:=7) (n:=0) (m:=2) rfl (congrArg Blk.ver rfl) rfl (R_sk rfl rfl rfl rfl rfl rfl rfl rfl rfl (R_e ?_))))))
 refine W_seq_regc (fun T H=>T 1=(V.mp 1 1 0 0)∧T 2=(iV (nwE ((2:Int))))∧T 4=(intss (w11_2.2.1))∧T 5=(V.bool (w11_2.2.2.1))∧T 6=(iV (w11_2.2.2.2))∧T 7=(V.mp 7 1 0 0)∧T 9=(intss (w11_14.2.1))∧T 10=(V.bool (w11_14.2.2.1))∧T 11=(iV (w11_14.2.2.2))∧H 1=w11_8∧H 3=w11_9∧H 7=w11_5∧H 8=w11_6∧H 12=(⟨0,false,false,0,0,[]⟩:Blk)∧H 14=(⟨0,false,false,0,0,[]⟩:Blk)∧H 17=(⟨0,false,false,0,0,[]⟩:Blk)∧True) ?_ ?_
 ·
  refine R_lk rfl rfl rfl rfl (R_lk rfl rfl rfl rfl (R_callk (tstep_pure ((nwT ((2:Int)))) w11_0 (bg_bd (by decide+kernel)) (by decide+kernel) (by decide+kernel)) rfl (R_mv rfl (R_ext rfl rfl (R_ext rfl rfl (R_ext rfl rfl (R_ext rfl rfl ?_)))))))
  refine R_alloc (i:=8) (n:=0) (m:=2) rfl (congrArg Blk.ver rfl) rfl (R_sk rfl rfl rfl rfl rfl rfl rfl rfl rfl (R_mv rfl (R_mv rfl (R_mv rfl ?_))))
  exact R_nil ⟨rfl,rfl,rfl,rfl,rfl,rfl,rfl,rfl,rfl,rfl,rfl,rfl,rfl,rfl,rfl,rfl,trivial⟩
 intro T H ⟨t1,t2,t4,t5,t6,t7,t9,t10,t11,h1,h3,h7,h8,h12,h14,h17,_⟩
 refine W_r (R_lk t1 h1 rfl rfl (R_lk t7 h7 rfl rfl (R_callk (thyp_pure ((nwT ((2:Int)))) w11_0 (bg_bd (by decide+kernel)) (by decide+kernel) (by decide+kernel)) rfl (R_mv rfl (R_ext rfl rfl (R_ext rfl rfl (R_alloc (i:=12) (n:=0) (m:=5) rfl (congrArg Blk.ver h12) rfl ?_)))))))
 refine R_sk rfl rfl rfl rfl rfl rfl rfl rfl rfl (R_mv rfl (R_e (W_r (R_lk t1 h1 rfl rfl (R_lk t7 h7 rfl rfl (R_bslice rfl rfl (R_build rfl rfl ?_)))))))
 refine R_call (evcons (@rfl V (V.agg [(iV ((nwT ((2:Int))).i)),(V.sl (List.map cN ((nwT ((2:Int))).t.nd)))])) (evcons (@rfl V (V.agg [(iV (2:Int)),(V.sl [[(V.sl [[(iV (1:Int))]]),(V.sl [[(iV (0:Int))]])],[(V.sl [[(iV (0:Int))],[(iV (1:Int))]]),(V.sl [[(iV (1:Int))],[(iV (2:Int))]])]])])) (evcons (@rfl V (V.agg [V.nilsl,(iV (0:Int)),(V.sl [[(iV (1:Int))]])])) evnil))) (trefine_pure ((nwT ((2:Int)))) w11_0 (⟨([]),((0:Int)),([1])⟩:Spl) (bg_bd (by decide+kernel)) (by decide+kernel)) (mcons (fzv_canon 6 _ (by simp [-List.map_take,-List.map_drop,-List.map_append,-List.map_reverse])) (mcons (fzv_canon 6 _ (by simp [-List.map_take,-List.map_drop,-List.map_append,-List.map_reverse])) (mcons (by simp [fzv,Blk.own,h1,h3,h7,h8,h14,h17]) rfl))) (by simp [-List.map_take,-List.map_drop,-List.map_append,-List.map_reverse]) (Or.inl (by simp [-List.map_take,-List.map_drop,-List.map_append,-List.map_reverse])) (R_mv rfl (R_ext rfl rfl (R_ext rfl rfl (R_ext rfl rfl (R_alloc (i:=14) (n:=0) (m:=2) rfl (congrArg Blk.ver h14) rfl (R_sk rfl rfl rfl rfl rfl rfl rfl rfl rfl (R_mv rfl ?_)))))))
 refine R_mv rfl (R_e (W_r (R_lk rfl rfl rfl rfl (R_lk t7 h7 rfl rfl (R_callk (tstep_pure (w11_1.1) w11_0 (bg_bd (by decide+kernel)) (by decide+kernel) (by decide+kernel)) rfl (R_mv rfl (R_ext rfl rfl ?_)))))))
 refine R_ext rfl rfl (R_ext rfl rfl (R_ext rfl rfl (R_alloc (i:=17) (n:=0) (m:=2) rfl (congrArg Blk.ver h17) rfl (R_sk rfl rfl rfl rfl rfl rfl rfl rfl rfl (R_mv rfl (R_mv rfl (R_mv rfl ?_)))))))
 refine R_e (W_seq_seq ?_)
 refine W_seq_regc (fun T H=>T 4=(intss (w11_2.2.1))∧T 12=(V.mp 12 1 0 0)∧T 14=(V.mp 14 1 0 0)∧T 18=w11_15∧T 110=(V.bool ((((w11_11||decide ((w11_1.2.2)≠(0:Int))))||decide (w11_16≠(0:Int)))))∧H 1=w11_8∧H 3=w11_9∧H 7=w11_5∧H 8=w11_6∧H 12=w11_3∧H 14=w11_10∧H 17=w11_7∧True) ?_ ?_
 ·
  refine R_mv t2 (R_neq rfl rfl (R_mv rfl ?_))
  refine Ops_seg 3 (fun T H=>T 4=(intss (w11_2.2.1))∧T 5=(V.bool (w11_2.2.2.1))∧T 9=(intss (w11_14.2.1))∧T 10=(V.bool (w11_14.2.2.1))∧T 11=(iV (w11_14.2.2.2))∧T 12=(V.mp 12 1 0 0)∧T 13=(iV w11_17)∧T 14=(V.mp 14 1 0 0)∧T 15=(intss (w11_1.2.1))∧T 16=(iV (w11_1.2.2))∧T 18=w11_15∧T 20=(iV w11_16)∧T 77=(V.bool (decide (((nwE ((2:Int)))≠(0:Int))∨((w11_2.2.2.2)≠(0:Int)))))∧H 1=w11_8∧H 3=w11_9∧H 7=w11_5∧H 8=w11_6∧H 12=w11_3∧H 14=w11_10∧H 17=w11_7∧True) ?_ ?_
  ·
   by_cases g1:(nwE ((2:Int)))≠(0:Int)
   ·
    refine G_n (edT g1 rfl) (G_n (edT g1 rfl) (R_pickT (edT g1 rfl) rfl ?_))
    exact ⟨t4,t5,t9,t10,t11,rfl,rfl,rfl,rfl,rfl,rfl,rfl,(dec_orT g1),h1,h3,h7,h8,rfl,rfl,rfl,trivial⟩
   ·
    refine G_yes (edF g1 rfl) (R_mv t6 (G_yes (edF g1 rfl) (R_neq rfl rfl (R_pickF (edF g1 rfl) rfl ?_))))
    exact ⟨t4,t5,t9,t10,t11,rfl,rfl,rfl,rfl,rfl,rfl,rfl,(dec_orF g1),h1,h3,h7,h8,rfl,rfl,rfl,trivial⟩
  intro T H ⟨t4,t5,t9,t10,t11,t12,t13,t14,t15,t16,t18,t20,t77,h1,h3,h7,h8,h12,h14,h17,_⟩
  refine R_mv t77 ?_
  refine Ops_seg 2 (fun T H=>T 4=(intss (w11_2.2.1))∧T 9=(intss (w11_14.2.1))∧T 10=(V.bool (w11_14.2.2.1))∧T 11=(iV (w11_14.2.2.2))∧T 12=(V.mp 12 1 0 0)∧T 13=(iV w11_17)∧T 14=(V.mp 14 1 0 0)∧T 15=(intss (w11_1.2.1))∧T 16=(iV (w11_1.2.2))∧T 18=w11_15∧T 20=(iV w11_16)∧T 80=(V.bool ((decide (((nwE ((2:Int)))≠(0:Int))∨((w11_2.2.2.2)≠(0:Int)))||(w11_2.2.2.1))))∧H 1=w11_8∧H 3=w11_9∧H 7=w11_5∧H 8=w11_6∧H 12=w11_3∧H 14=w11_10∧H 17=w11_7∧True) ?_ ?_
  ·
   by_cases g2:((nwE ((2:Int)))≠(0:Int))∨((w11_2.2.2.2)≠(0:Int))
   ·
    refine G_n (edT g2 rfl) (R_pickT (edT g2 rfl) rfl ?_)
    exact ⟨t4,t9,t10,t11,t12,t13,t14,t15,t16,t18,t20,(dborT g2),h1,h3,h7,h8,h12,h14,h17,trivial⟩
   ·
    refine G_yes (edF g2 rfl) (R_mv t5 (R_pickF (edF g2 rfl) rfl ?_))
    exact ⟨t4,t9,t10,t11,t12,t13,t14,t15,t16,t18,t20,(dborF g2),h1,h3,h7,h8,h12,h14,h17,trivial⟩
  intro T H ⟨t4,t9,t10,t11,t12,t13,t14,t15,t16,t18,t20,t80,h1,h3,h7,h8,h12,h14,h17,_⟩
  refine R_mv t80 ?_
  refine Ops_seg 3 (fun T H=>T 4=(intss (w11_2.2.1))∧T 9=(intss (w11_14.2.1))∧T 10=(V.bool (w11_14.2.2.1))∧T 12=(V.mp 12 1 0 0)∧T 13=(iV w11_17)∧T 14=(V.mp 14 1 0 0)∧T 15=(intss (w11_1.2.1))∧T 16=(iV (w11_1.2.2))∧T 18=w11_15∧T 20=(iV w11_16)∧T 84=(V.bool w11_12)∧H 1=w11_8∧H 3=w11_9∧H 7=w11_5∧H 8=w11_6∧H 12=w11_3∧H 14=w11_10∧H 17=w11_7∧True) ?_ ?_
  ·
   by_cases g3:((decide (((nwE ((2:Int)))≠(0:Int))∨((w11_2.2.2.2)≠(0:Int)))||(w11_2.2.2.1)))=true
   ·
    refine G_n (ebT g3 rfl) (G_n (ebT g3 rfl) (R_pickT (ebT g3 rfl) rfl ?_))
    exact ⟨t4,t9,t10,t12,t13,t14,t15,t16,t18,t20,(borT g3),h1,h3,h7,h8,h12,h14,h17,trivial⟩
   ·
    refine G_yes (ebF g3 rfl) (R_mv t11 (G_yes (ebF g3 rfl) (R_neq rfl rfl (R_pickF (ebF g3 rfl) rfl ?_))))
    exact ⟨t4,t9,t10,t12,t13,t14,t15,t16,t18,t20,(borF g3),h1,h3,h7,h8,h12,h14,h17,trivial⟩
  intro T H ⟨t4,t9,t10,t12,t13,t14,t15,t16,t18,t20,t84,h1,h3,h7,h8,h12,h14,h17,_⟩
  refine R_mv t84 ?_
  refine Ops_seg 3 (fun T H=>T 4=(intss (w11_2.2.1))∧T 9=(intss (w11_14.2.1))∧T 12=(V.mp 12 1 0 0)∧T 13=(iV w11_17)∧T 14=(V.mp 14 1 0 0)∧T 15=(intss (w11_1.2.1))∧T 16=(iV (w11_1.2.2))∧T 18=w11_15∧T 20=(iV w11_16)∧T 88=(V.bool ((w11_12||((!w11_14.2.2.1)))))∧H 1=w11_8∧H 3=w11_9∧H 7=w11_5∧H 8=w11_6∧H 12=w11_3∧H 14=w11_10∧H 17=w11_7∧True) ?_ ?_
  ·
   by_cases g4:w11_12=true
   ·
    refine G_n (ebT g4 rfl) (G_n (ebT g4 rfl) (R_pickT (ebT g4 rfl) rfl ?_))
    exact ⟨t4,t9,t12,t13,t14,t15,t16,t18,t20,(borT g4),h1,h3,h7,h8,h12,h14,h17,trivial⟩
   ·
    refine G_yes (ebF g4 rfl) (R_mv t10 (G_yes (ebF g4 rfl) (R_notb rfl (R_pickF (ebF g4 rfl) rfl ?_))))
    exact ⟨t4,t9,t12,t13,t14,t15,t16,t18,t20,(borF g4),h1,h3,h7,h8,h12,h14,h17,trivial⟩
  intro T H ⟨t4,t9,t12,t13,t14,t15,t16,t18,t20,t88,h1,h3,h7,h8,h12,h14,h17,_⟩
  refine R_mv t88 ?_
  refine Ops_seg 4 (fun T H=>T 4=(intss (w11_2.2.1))∧T 12=(V.mp 12 1 0 0)∧T 13=(iV w11_17)∧T 14=(V.mp 14 1 0 0)∧T 15=(intss (w11_1.2.1))∧T 16=(iV (w11_1.2.2))∧T 18=w11_15∧T 20=(iV w11_16)∧T 93=(V.bool w11_4)∧H 1=w11_8∧H 3=w11_9∧H 7=w11_5∧H 8=w11_6∧H 12=w11_3∧H 14=w11_10∧H 17=w11_7∧True) ?_ ?_
  ·
   by_cases g5:((w11_12||((!w11_14.2.2.1))))=true
   ·
    refine G_n (ebT g5 rfl) (G_n (ebT g5 rfl) (G_n (ebT g5 rfl) (R_pickT (ebT g5 rfl) rfl ?_)))
    exact ⟨t4,t12,t13,t14,t15,t16,t18,t20,(borT g5),h1,h3,h7,h8,h12,h14,h17,trivial⟩
   ·
    refine G_yes (ebF g5 rfl) (R_mv t9 (G_yes (ebF g5 rfl) (R_len rfl (G_yes (ebF g5 rfl) (R_neq rfl rfl (R_pickF (ebF g5 rfl) rfl ?_))))))
    exact ⟨t4,t12,t13,t14,t15,t16,t18,t20,(borF g5),h1,h3,h7,h8,h12,h14,h17,trivial⟩
  intro T H ⟨t4,t12,t13,t14,t15,t16,t18,t20,t93,h1,h3,h7,h8,h12,h14,h17,_⟩
  refine R_mv t93 ?_
  refine Ops_seg 3 (fun T H=>T 4=(intss (w11_2.2.1))∧T 12=(V.mp 12 1 0 0)∧T 14=(V.mp 14 1 0 0)∧T 15=(intss (w11_1.2.1))∧T 16=(iV (w11_1.2.2))∧T 18=w11_15∧T 20=(iV w11_16)∧T 97=(V.bool ((w11_4||decide (w11_17≠(0:Int)))))∧H 1=w11_8∧H 3=w11_9∧H 7=w11_5∧H 8=w11_6∧H 12=w11_3∧H 14=w11_10∧H 17=w11_7∧True) ?_ ?_
  ·
   by_cases g6:w11_4=true
   ·
    refine G_n (ebT g6 rfl) (G_n (ebT g6 rfl) (R_pickT (ebT g6 rfl) rfl ?_))
    exact ⟨t4,t12,t14,t15,t16,t18,t20,(borT g6),h1,h3,h7,h8,h12,h14,h17,trivial⟩
   ·
    refine G_yes (ebF g6 rfl) (R_mv t13 (G_yes (ebF g6 rfl) (R_neq rfl rfl (R_pickF (ebF g6 rfl) rfl ?_))))
    exact ⟨t4,t12,t14,t15,t16,t18,t20,(borF g6),h1,h3,h7,h8,h12,h14,h17,trivial⟩
  intro T H ⟨t4,t12,t14,t15,t16,t18,t20,t97,h1,h3,h7,h8,h12,h14,h17,_⟩
  refine R_mv t97 ?_
  refine Ops_seg 4 (fun T H=>T 4=(intss (w11_2.2.1))∧T 12=(V.mp 12 1 0 0)∧T 14=(V.mp 14 1 0 0)∧T 16=(iV (w11_1.2.2))∧T 18=w11_15∧T 20=(iV w11_16)∧T 102=(V.bool w11_11)∧H 1=w11_8∧H 3=w11_9∧H 7=w11_5∧H 8=w11_6∧H 12=w11_3∧H 14=w11_10∧H 17=w11_7∧True) ?_ ?_
  ·
   by_cases g7:((w11_4||decide (w11_17≠(0:Int))))=true
   ·
    refine G_n (ebT g7 rfl) (G_n (ebT g7 rfl) (G_n (ebT g7 rfl) (R_pickT (ebT g7 rfl) rfl ?_)))
    exact ⟨t4,t12,t14,t16,t18,t20,(borT g7),h1,h3,h7,h8,h12,h14,h17,trivial⟩
   ·
    refine G_yes (ebF g7 rfl) (R_mv t15 (G_yes (ebF g7 rfl) (R_len rfl (G_yes (ebF g7 rfl) (R_neq rfl rfl (R_pickF (ebF g7 rfl) rfl ?_))))))
    exact ⟨t4,t12,t14,t16,t18,t20,(borF g7),h1,h3,h7,h8,h12,h14,h17,trivial⟩
  intro T H ⟨t4,t12,t14,t16,t18,t20,t102,h1,h3,h7,h8,h12,h14,h17,_⟩
  refine R_mv t102 ?_
  refine Ops_seg 3 (fun T H=>T 4=(intss (w11_2.2.1))∧T 12=(V.mp 12 1 0 0)∧T 14=(V.mp 14 1 0 0)∧T 18=w11_15∧T 20=(iV w11_16)∧T 106=(V.bool ((w11_11||decide ((w11_1.2.2)≠(0:Int)))))∧H 1=w11_8∧H 3=w11_9∧H 7=w11_5∧H 8=w11_6∧H 12=w11_3∧H 14=w11_10∧H 17=w11_7∧True) ?_ ?_
  ·
   by_cases g8:w11_11=true
   ·
    refine G_n (ebT g8 rfl) (G_n (ebT g8 rfl) (R_pickT (ebT g8 rfl) rfl ?_))
    exact ⟨t4,t12,t14,t18,t20,(borT g8),h1,h3,h7,h8,h12,h14,h17,trivial⟩
   ·
    refine G_yes (ebF g8 rfl) (R_mv t16 (G_yes (ebF g8 rfl) (R_neq rfl rfl (R_pickF (ebF g8 rfl) rfl ?_))))
    exact ⟨t4,t12,t14,t18,t20,(borF g8),h1,h3,h7,h8,h12,h14,h17,trivial⟩
  intro T H ⟨t4,t12,t14,t18,t20,t106,h1,h3,h7,h8,h12,h14,h17,_⟩
  refine R_mv t106 ?_
  refine Ops_seg 3 (fun T H=>T 4=(intss (w11_2.2.1))∧T 12=(V.mp 12 1 0 0)∧T 14=(V.mp 14 1 0 0)∧T 18=w11_15∧T 110=(V.bool ((((w11_11||decide ((w11_1.2.2)≠(0:Int))))||decide (w11_16≠(0:Int)))))∧H 1=w11_8∧H 3=w11_9∧H 7=w11_5∧H 8=w11_6∧H 12=w11_3∧H 14=w11_10∧H 17=w11_7∧True) ?_ ?_
  ·
   by_cases g9:((w11_11||decide ((w11_1.2.2)≠(0:Int))))=true
   ·
    refine G_n (ebT g9 rfl) (G_n (ebT g9 rfl) (R_pickT (ebT g9 rfl) rfl ?_))
    exact ⟨t4,t12,t14,t18,(borT g9),h1,h3,h7,h8,h12,h14,h17,trivial⟩
   ·
    refine G_yes (ebF g9 rfl) (R_mv t20 (G_yes (ebF g9 rfl) (R_neq rfl rfl (R_pickF (ebF g9 rfl) rfl ?_))))
    exact ⟨t4,t12,t14,t18,(borF g9),h1,h3,h7,h8,h12,h14,h17,trivial⟩
  intro T H ⟨t4,t12,t14,t18,t110,h1,h3,h7,h8,h12,h14,h17,_⟩
  exact R_nil ⟨t4,t12,t14,t18,t110,h1,h3,h7,h8,h12,h14,h17,trivial⟩
 intro T H ⟨t4,t12,t14,t18,t110,h1,h3,h7,h8,h12,h14,h17,_⟩
 refine W_seq_ifb t110 (fun c10=>?_) (fun c10=>?_)
 · exfalso; revert c10; decide+kernel
 refine W_seq_skip (W_r (R_mv t4 (R_bslice rfl rfl (R_bslice rfl rfl (R_bslice rfl rfl (R_callk (swords_pure (w11_2.2.1) ([[0],[1]])) rfl (R_mv rfl ?_)))))))
 refine Ops_seg 6 (fun T H=>T 14=(V.mp 14 1 0 0)∧T 18=w11_15∧T 122=(V.bool (decide w11_13))∧H 1=w11_8∧H 3=w11_9∧H 7=w11_5∧H 8=w11_6∧H 12=w11_3∧H 14=w11_10∧H 17=w11_7∧True) ?_ ?_
 ·
  by_cases g11:(w11_2.2.1)=([[0],[1]])
  ·
   refine G_yes (edT g11 rfl) (R_fk t12 h12 (G_yes (edT g11 rfl) (R_fk rfl h12 (G_yes (edT g11 rfl) (R_lk rfl h12 rfl rfl (G_yes (edT g11 rfl) (R_len rfl ?_)))))))
   refine G_yes (edT g11 rfl) (R_eql rfl rfl (R_pickT (edT g11 rfl) rfl ?_))
   exact ⟨t14,t18,(dec_andT g11),h1,h3,h7,h8,h12,h14,h17,trivial⟩
  ·
   refine G_n (edF g11 rfl) (G_n (edF g11 rfl) (G_n (edF g11 rfl) (G_n (edF g11 rfl) (G_n (edF g11 rfl) (R_pickF (edF g11 rfl) rfl ?_)))))
   exact ⟨t14,t18,(dec_andF g11),h1,h3,h7,h8,h12,h14,h17,trivial⟩
 intro T H ⟨t14,t18,t122,h1,h3,h7,h8,h12,h14,h17,_⟩
 refine R_mv t122 ?_
 refine Ops_seg 6 (fun T H=>T 18=w11_15∧T 129=(V.bool (decide (w11_13∧((((w11_1.1.t.nd).length:Nat):Int)=(3:Int)))))∧H 1=w11_8∧H 3=w11_9∧H 7=w11_5∧H 8=w11_6∧H 12=w11_3∧H 14=w11_10∧H 17=w11_7∧True) ?_ ?_
 ·
  by_cases g12:((w11_2.2.1)=([[0],[1]]))∧(((((hyR ((nwT ((2:Int)))) w11_0).m.nx).length:Nat):Int)=(1:Int))
  ·
   refine G_yes (edT g12 rfl) (R_fk t14 h14 (G_yes (edT g12 rfl) (R_fk rfl h14 (G_yes (edT g12 rfl) (R_lk rfl h14 rfl rfl (G_yes (edT g12 rfl) (R_len rfl ?_)))))))
   refine G_yes (edT g12 rfl) (R_eql rfl rfl (R_pickT (edT g12 rfl) rfl ?_))
   exact ⟨t18,(dec_andT g12),h1,h3,h7,h8,h12,h14,h17,trivial⟩
  ·
   refine G_n (edF g12 rfl) (G_n (edF g12 rfl) (G_n (edF g12 rfl) (G_n (edF g12 rfl) (G_n (edF g12 rfl) (R_pickF (edF g12 rfl) rfl ?_)))))
   exact ⟨t18,(dec_andF g12),h1,h3,h7,h8,h12,h14,h17,trivial⟩
 intro T H ⟨t18,t129,h1,h3,h7,h8,h12,h14,h17,_⟩
 refine R_mv t129 ?_
 refine Ops_seg 7 (fun T H=>T 137=(V.bool (decide ((w11_13∧((((w11_1.1.t.nd).length:Nat):Int)=(3:Int)))∧(((tst (w11_1.1) w11_0).2.1)=([[1,1],[0,0,1],[0,1,1]])))))∧H 1=w11_8∧H 3=w11_9∧H 7=w11_5∧H 8=w11_6∧H 12=w11_3∧H 14=w11_10∧H 17=w11_7∧True) ?_ ?_
 ·
  by_cases g13:w11_13∧((((w11_1.1.t.nd).length:Nat):Int)=(3:Int))
  ·
   refine G_yes (edT g13 rfl) (R_mv t18 (G_yes (edT g13 rfl) (R_bslice rfl rfl (G_yes (edT g13 rfl) (R_bslice rfl rfl (G_yes (edT g13 rfl) (R_bslice rfl rfl ?_)))))))
   refine G_yes (edT g13 rfl) (R_bslice rfl rfl (G_yes (edT g13 rfl) (R_callk (swords_pure ((tst (w11_1.1) w11_0).2.1) ([[1,1],[0,0,1],[0,1,1]])) rfl (R_pickT (edT g13 rfl) rfl ?_))))
   exact ⟨(dec_andT g13),h1,h3,h7,h8,h12,h14,h17,trivial⟩
  ·
   refine G_n (edF g13 rfl) (G_n (edF g13 rfl) (G_n (edF g13 rfl) (G_n (edF g13 rfl) (G_n (edF g13 rfl) (G_n (edF g13 rfl) (R_pickF (edF g13 rfl) rfl ?_))))))
   exact ⟨(dec_andF g13),h1,h3,h7,h8,h12,h14,h17,trivial⟩
 intro T H ⟨t137,h1,h3,h7,h8,h12,h14,h17,_⟩
 refine R_mv t137 (R_e (W_ret ?_))
 refine Ret_1 (@rfl V (V.bool (decide ((w11_13∧((((w11_1.1.t.nd).length:Nat):Int)=(3:Int)))∧(((tst (w11_1.1) w11_0).2.1)=([[1,1],[0,0,1],[0,1,1]])))))) (fz_bool ?_)
 · decide+kernel
def r16_1:List SO:=[
 qF 5 0 2,
 ql 6 5,
 qF 7 0 3,
 ql 8 7,
 qP 9 .eql 6 8,
 qM 10 9,
 ⟨some (10,true),some 11,.fld 1 (.t 2)⟩,
 ⟨some (10,true),some 12,.load true 1 (.t 11)⟩,
 ⟨some (10,true),some 13,.fld 1 (.t 3)⟩,
 ⟨some (10,true),some 14,.load true 1 (.t 13)⟩,
 ⟨some (10,true),some 15,.call false 57 [.t 12,.t 14]⟩,
 sO 16 (.pick (.t 10) (.t 15) (.c (.bool false))),
 qM 4 16]
def s16:SF:=⟨17,[.tmp 4],.seq (.reg [sO 2 (.box 26 2 (.t 0)),sO 3 (.box 26 2 (.t 1)),sO 4 (.mv (.c (.bool false)))]) (.seq (.reg r16_1) (.ret))⟩
theorem s16_ok:slimF Tryz.prog ⟨[107,108,109,116,120,126,127,167,169,170,171,172,194,196,198,209,222,226],[]⟩ Tryz.f16=some s16:=by kernel_rfl
def r57_1:List SO:=[
 qF 8 0 2,
 ql 9 8,
 qN 10 9,
 qF 11 0 3,
 ql 12 11,
 qN 13 12,
 qP 14 .neq 10 13]
def r57_6:List SO:=[
 qF 22 0 2,
 ql 23 22,
 qM 24 5,
 qA 25 5 23 24,
 qL 26 5 25,
 qF 27 0 3,
 ql 28 27,
 qM 29 5,
 qA 30 5 28 29,
 qL 31 5 30,
 sO 6 (.alloc 99 [.bool false,.nilsl,.nilsl,.nilsl,.nilsl]),
 sO 7 (.alloc 99 [.bool false,.nilsl,.nilsl,.nilsl,.nilsl]),
 sN (.store 5 (.t 6) (.t 26)),
 sN (.store 5 (.t 7) (.t 31))]
def r57_7:List SO:=[
 qF 32 0 6,
 ql 33 32,
 qF 34 0 7,
 ql 35 34,
 sO 36 (.bbin .neq (.t 33) (.t 35)),
 qM 37 36,
 ⟨some (37,false),some 38,.fld 1 (.t 6)⟩,
 ⟨some (37,false),some 39,.load false 1 (.t 38)⟩,
 ⟨some (37,false),some 40,.fld 1 (.t 7)⟩,
 ⟨some (37,false),some 41,.load false 1 (.t 40)⟩,
 ⟨some (37,false),some 42,.call false 98 [.t 39,.t 41]⟩,
 ⟨some (37,false),some 43,.un .not (.t 42)⟩,
 sO 44 (.pick (.t 37) (.c (.bool true)) (.t 43)),
 qM 45 44,
 ⟨some (45,false),some 46,.fld 2 (.t 6)⟩,
 ⟨some (45,false),some 47,.load false 1 (.t 46)⟩,
 ⟨some (45,false),some 48,.fld 2 (.t 7)⟩,
 ⟨some (45,false),some 49,.load false 1 (.t 48)⟩,
 ⟨some (45,false),some 50,.call false 98 [.t 47,.t 49]⟩,
 ⟨some (45,false),some 51,.un .not (.t 50)⟩,
 sO 52 (.pick (.t 45) (.c (.bool true)) (.t 51)),
 qM 53 52,
 ⟨some (53,false),some 54,.fld 3 (.t 6)⟩,
 ⟨some (53,false),some 55,.load false 1 (.t 54)⟩,
 ⟨some (53,false),some 56,.fld 3 (.t 7)⟩,
 ⟨some (53,false),some 57,.load false 1 (.t 56)⟩,
 ⟨some (53,false),some 58,.call false 67 [.t 55,.t 57]⟩,
 ⟨some (53,false),some 59,.un .not (.t 58)⟩,
 sO 60 (.pick (.t 53) (.c (.bool true)) (.t 59)),
 qM 61 60,
 ⟨some (61,false),some 62,.fld 4 (.t 6)⟩,
 ⟨some (61,false),some 63,.load false 1 (.t 62)⟩,
 ⟨some (61,false),some 64,.fld 4 (.t 7)⟩,
 ⟨some (61,false),some 65,.load false 1 (.t 64)⟩,
 ⟨some (61,false),some 66,.call false 98 [.t 63,.t 65]⟩,
 ⟨some (61,false),some 67,.un .not (.t 66)⟩,
 sO 68 (.pick (.t 61) (.c (.bool true)) (.t 67))]
def b57_0:SC:=.seq (.seq (.reg [qM 15 5,qF 16 0 2,ql 17 16,qN 18 17,qP 19 .lss 15 18]) (.cond (.t 19) (.skip) (.exit 0))) (.seq (.block 1 (.seq (.dreg [6,7] r57_6) (.seq (.reg r57_7) (.cond (.t 68) (.seq (.reg [sO 4 (.mv (.c (.bool false)))]) (.ret)) (.skip))))) (.reg [qM 20 5,qC 21 .add 20 1,qM 5 21]))
def s57:SF:=⟨69,[.tmp 4],.seq (.reg [sO 2 (.box 24 1 (.t 0)),sO 3 (.box 24 1 (.t 1)),sO 4 (.mv (.c (.bool false)))]) (.seq (.seq (.reg r57_1) (.cond (.t 14) (.seq (.reg [sO 4 (.mv (.c (.bool false)))]) (.ret)) (.skip))) (.seq (.seq (.reg [qI 5 0]) (.block 0 (.loop b57_0))) (.seq (.reg [sO 4 (.mv (.c (.bool true)))]) (.ret))))⟩
theorem s57_ok:slimF Tryz.prog ⟨[107,108,109,116,120,126,127,167,169,170,171,172,194,196,198,209,222,226],[]⟩ Tryz.f57=some s57:=by kernel_rfl
def r67_6:List SO:=[
 qM 17 0,
 qM 18 5,
 qA 19 1 17 18,
 ql 20 19,
 qM 21 1,
 qM 22 5,
 qA 23 1 21 22,
 ql 24 23,
 sO 25 (.call false 98 [.t 20,.t 24]),
 sO 26 (.un .not (.t 25))]
def b67_0:SC:=.seq (.seq (.reg [qM 11 5,qM 12 0,qN 13 12,qP 14 .lss 11 13]) (.cond (.t 14) (.skip) (.exit 0))) (.seq (.block 1 (.seq (.reg r67_6) (.cond (.t 26) (.seq (.reg [sO 4 (.mv (.c (.bool false)))]) (.ret)) (.skip)))) (.reg [qM 15 5,qC 16 .add 15 1,qM 5 16]))
def s67:SF:=⟨27,[.tmp 4],.seq (.reg [sO 4 (.mv (.c (.bool false)))]) (.seq (.seq (.reg [qM 6 0,qN 7 6,qM 8 1,qN 9 8,qP 10 .neq 7 9]) (.cond (.t 10) (.seq (.reg [sO 4 (.mv (.c (.bool false)))]) (.ret)) (.skip))) (.seq (.seq (.reg [qI 5 0]) (.block 0 (.loop b67_0))) (.seq (.reg [sO 4 (.mv (.c (.bool true)))]) (.ret))))⟩
theorem s67_ok:slimF Tryz.prog ⟨[107,108,109,116,120,126,127,167,169,170,171,172,194,196,198,209,222,226],[]⟩ Tryz.f67=some s67:=by kernel_rfl
def r98_6:List SO:=[
 qM 17 0,
 qM 18 5,
 qA 19 1 17 18,
 ql 20 19,
 qM 21 1,
 qM 22 5,
 qA 23 1 21 22,
 ql 24 23,
 qP 25 .neq 20 24]
def b98_0:SC:=.seq (.seq (.reg [qM 11 5,qM 12 0,qN 13 12,qP 14 .lss 11 13]) (.cond (.t 14) (.skip) (.exit 0))) (.seq (.block 1 (.seq (.reg r98_6) (.cond (.t 25) (.seq (.reg [sO 4 (.mv (.c (.bool false)))]) (.ret)) (.skip)))) (.reg [qM 15 5,qC 16 .add 15 1,qM 5 16]))
def s98:SF:=⟨26,[.tmp 4],.seq (.reg [sO 4 (.mv (.c (.bool false)))]) (.seq (.seq (.reg [qM 6 0,qN 7 6,qM 8 1,qN 9 8,qP 10 .neq 7 9]) (.cond (.t 10) (.seq (.reg [sO 4 (.mv (.c (.bool false)))]) (.ret)) (.skip))) (.seq (.seq (.reg [qI 5 0]) (.block 0 (.loop b98_0))) (.seq (.reg [sO 4 (.mv (.c (.bool true)))]) (.ret))))⟩
theorem s98_ok:slimF Tryz.prog ⟨[107,108,109,116,120,126,127,167,169,170,171,172,194,196,198,209,222,226],[]⟩ Tryz.f98=some s98:=by kernel_rfl
theorem ints_pure (a b:List Int):PureC Tryz.prog 98 [(ints a),(ints b)] (V.bool (decide (a=b))):=by
 refine pW Tryz.func98 s98_ok fun hB=>?_
 unfold s98
 dsimp only
 refine W_r (R_mv rfl (R_e (W_seq_seq (W_r (R_mv rfl (R_len rfl (R_mv rfl ?_)))))))
 refine R_len rfl (R_neq rfl rfl (R_e ?_))
 refine W_seq_if rfl (fun c1=>?_) fun c1=>?_
 ·
  refine W_seq_seq (W_r (R_mv rfl (R_e (W_seq_ret ?_))))
  refine Ret_1 (@rfl V (V.bool false)) (fz_bool ?_)
  · exact (decide_eq_false (fun e=>by subst e; omega)).symm
 refine W_seq_skip (W_seq_seq (W_r (R_mv rfl (R_e (W_seq_blockg fun Q2 n2 x2 y2 z2=>?_)))))
 refine W_loop (fun mm T H=> ∃ (k:Nat),mm=a.length - k∧T 0=(ints a)∧T 1=(ints b)∧T 5=(iV ((k:Nat):Int))∧(k≤a.length)∧(a.length=b.length)∧(∀ j,j < k→nth a j=nth b j)) ?_ ?_
 ·
  refine ⟨_,0,rfl,rfl,rfl,(Eq.trans (@rfl V (iV (0:Int))) rfl),?_,?_,?_⟩
  · omega
  · omega
  · intro j hj; omega
 intro mm T H ⟨k,hmm,t0,t1,t5,hk,hl,hc⟩ Q3 p13 p23 p33
 unfold b98_0
 refine W_seq_seq (W_r (R_mv t5 (R_mv t0 (R_len rfl (R_lss rfl rfl (R_e ?_))))))
 refine W_seq_if rfl (fun c4=>?_) fun c4=>?_
 ·
  refine W_seq_skip (W_seq_blockg fun Q5 n5 x5 y5 z5=>(W_r (R_mv t0 (R_mv t5 (R_idx (i:=k) (@rfl V (ints a)) (@rfl V (iV ((k:Nat):Int))) (by omega) rfl (R_load_pp rfl rfl (R_mv t1 ?_)))))))
  refine R_mv t5 (R_idx (i:=k) (@rfl V (ints b)) (@rfl V (iV ((k:Nat):Int))) (by omega) rfl (R_load_pp rfl rfl (R_neq rfl rfl (R_e ?_))))
  refine W_if rfl (fun c6=>?_) fun c6=>?_
  ·
   refine W_r (R_mv rfl (R_e (W_ret (y5 _ _ (p23 _ _ (y2 _ _ ?_))))))
   refine Ret_1 (@rfl V (V.bool false)) (fz_bool ?_)
   · exact (decide_eq_false (fun e=>by subst e; omega)).symm
  refine W_skip (n5 _ _ (.done (W_t (R_mv t5 (R_addN rfl (@rfl V (iV ((1:Nat):Int))) (by omega) (R_mv rfl (R_e ?_)))))))
  refine p13 _ _ _ ?_ ⟨(k+1),rfl,t0,t1,(Eq.trans (@rfl V (iV ((k+1:Nat):Int))) (by rfl)),?_,?_,?_⟩
  · omega
  · omega
  · omega
  · intro j hj
    by_cases e:j=k
    · subst e; omega
    · exact hc j (by omega)
 refine W_seq_exit (p33 _ _ _ (x2 _ _ (.done (W_r (R_mv rfl (R_e (W_ret ?_)))))))
 refine Ret_1 (@rfl V (V.bool true)) (fz_bool ?_)
 · exact (decide_eq_true (nth_ext hl fun j hj=>hc j (by omega))).symm
theorem lists_pure (a b:List (List Int)):PureC Tryz.prog 67 [(intss a),(intss b)] (V.bool (decide (a=b))):=by
 refine pW Tryz.func67 s67_ok fun hB=>?_
 unfold s67
 dsimp only
 refine W_r (R_mv rfl (R_e (W_seq_seq (W_r (R_mv rfl (R_len rfl (R_mv rfl ?_)))))))
 refine R_len rfl (R_neq rfl rfl (R_e ?_))
 refine W_seq_if rfl (fun c1=>?_) fun c1=>?_
 ·
  refine W_seq_seq (W_r (R_mv rfl (R_e (W_seq_ret ?_))))
  refine Ret_1 (@rfl V (V.bool false)) (fz_bool ?_)
  · exact (decide_eq_false (fun e=>by subst e; omega)).symm
 refine W_seq_skip (W_seq_seq (W_r (R_mv rfl (R_e (W_seq_blockg fun Q2 n2 x2 y2 z2=>?_)))))
 refine W_loop (fun mm T H=> ∃ (k:Nat),mm=a.length - k∧T 0=(intss a)∧T 1=(intss b)∧T 5=(iV ((k:Nat):Int))∧(k≤a.length)∧(a.length=b.length)∧(∀ j,j < k→nth a j=nth b j)) ?_ ?_
 ·
  refine ⟨_,0,rfl,rfl,rfl,(Eq.trans (@rfl V (iV (0:Int))) rfl),?_,?_,?_⟩
  · omega
  · omega
  · intro j hj; omega
 intro mm T H ⟨k,hmm,t0,t1,t5,hk,hl,hc⟩ Q3 p13 p23 p33
 unfold b67_0
 refine W_seq_seq (W_r (R_mv t5 (R_mv t0 (R_len rfl (R_lss rfl rfl (R_e ?_))))))
 refine W_seq_if rfl (fun c4=>?_) fun c4=>?_
 ·
  refine W_seq_skip (W_seq_blockg fun Q5 n5 x5 y5 z5=>(W_r (R_mv t0 (R_mv t5 (R_idx (i:=k) (@rfl V (intss a)) (@rfl V (iV ((k:Nat):Int))) (by omega) rfl (R_load_pp rfl rfl (R_mv t1 ?_)))))))
  refine R_mv t5 (R_idx (i:=k) (@rfl V (intss b)) (@rfl V (iV ((k:Nat):Int))) (by omega) rfl (R_load_pp rfl rfl (R_callk (ints_pure ((nth (a) (k))) ((nth (b) (k)))) rfl (R_not rfl (R_e ?_)))))
  refine W_if rfl (fun c6=>?_) fun c6=>?_
  ·
   have d1:=c6
   refine W_r (R_mv rfl (R_e (W_ret (y5 _ _ (p23 _ _ (y2 _ _ ?_))))))
   refine Ret_1 (@rfl V (V.bool false)) (fz_bool ?_)
   · exact (decide_eq_false (fun e=>d1 (by subst e; rfl))).symm
  have d1:=Decidable.not_not.1 c6
  refine W_skip (n5 _ _ (.done (W_t (R_mv t5 (R_addN rfl (@rfl V (iV ((1:Nat):Int))) (by omega) (R_mv rfl (R_e ?_)))))))
  refine p13 _ _ _ ?_ ⟨(k+1),rfl,t0,t1,(Eq.trans (@rfl V (iV ((k+1:Nat):Int))) (by rfl)),?_,?_,?_⟩
  · omega
  · omega
  · omega
  · intro j hj
    by_cases e:j=k
    · subst e; exact d1
    · exact hc j (by omega)
 refine W_seq_exit (p33 _ _ _ (x2 _ _ (.done (W_r (R_mv rfl (R_e (W_ret ?_)))))))
 refine Ret_1 (@rfl V (V.bool true)) (fz_bool ?_)
 · exact (decide_eq_true (nth_ext hl fun j hj=>hc j (by omega))).symm
theorem dsame_pure (a b:Dt):PureC Tryz.prog 57 [(V.agg [(V.sl (List.map cN (a.nd)))]),(V.agg [(V.sl (List.map cN (b.nd)))])] (V.bool (decide (a=b))):=by
 refine pW Tryz.func57 s57_ok fun hB=>?_
 unfold s57
 dsimp only
 refine W_r (R_box (i:=2) (n:=0) (m:=1) (cs:=[(V.sl (List.map cN (a.nd)))]) rfl (congrArg Blk.ver rfl) rfl rfl rfl (R_box (i:=3) (n:=0) (m:=1) (cs:=[(V.sl (List.map cN (b.nd)))]) rfl (congrArg Blk.ver rfl) rfl rfl rfl (R_mv rfl (R_e (W_seq_seq (W_r (R_fk rfl rfl ?_)))))))
 refine R_lk rfl rfl rfl rfl (R_len rfl (R_fk rfl rfl (R_lk rfl rfl rfl rfl (R_len rfl (R_neq rfl rfl (R_e ?_))))))
 refine W_seq_if rfl (fun c1=>?_) fun c1=>?_
 ·
  refine W_seq_seq (W_r (R_mv rfl (R_e (W_seq_ret ?_))))
  refine Ret_1 (@rfl V (V.bool false)) (fz_bool ?_)
  · exact (decide_eq_false (fun e=>by subst e; omega)).symm
 refine W_seq_skip (W_seq_seq (W_r (R_mv rfl (R_e (W_seq_blockg fun Q2 n2 x2 y2 z2=>?_)))))
 refine W_loop (fun mm T H=> ∃ (k:Nat) (v6:Nat) (v7:Nat),mm=a.nd.length - k∧T 2=(V.mp 2 1 0 0)∧T 3=(V.mp 3 1 0 0)∧T 5=(iV ((k:Nat):Int))∧H 2=(bk 1 24 1 [[(V.sl (List.map cN (a.nd)))]])∧H 3=(bk 1 24 1 [[(V.sl (List.map cN (b.nd)))]])∧((H 6).ver=v6∧(H 6).live=false)∧((H 7).ver=v7∧(H 7).live=false)∧(k≤a.nd.length)∧(a.nd.length=b.nd.length)∧(∀ j,j < k→nth a.nd j=nth b.nd j)) ?_ ?_
 ·
  refine ⟨_,0,0,0,rfl,rfl,rfl,(Eq.trans (@rfl V (iV (0:Int))) rfl),rfl,rfl,⟨(congrArg Blk.ver rfl),congrArg Blk.live (@rfl Blk (⟨0,false,false,0,0,[]⟩:Blk))⟩,⟨(congrArg Blk.ver rfl),congrArg Blk.live (@rfl Blk (⟨0,false,false,0,0,[]⟩:Blk))⟩,?_,?_,?_⟩
  · omega
  · omega
  · intro j hj; omega
 intro mm T H ⟨k,v6,v7,hmm,t2,t3,t5,h2,h3,h6,h7,hk,hl,hc⟩ Q3 p13 p23 p33
 unfold b57_0
 refine W_seq_seq (W_r (R_mv t5 (R_fk t2 h2 (R_lk rfl h2 rfl rfl (R_len rfl (R_lss rfl rfl (R_e ?_)))))))
 refine W_seq_if rfl (fun c4=>?_) fun c4=>?_
 ·
  refine W_seq_skip (W_seq_blockg fun Q5 n5 x5 y5 z5=>(W_d (by exact (lateC (h6).2 (lateC (h7).2 lateN))) (R_fk t2 h2 (R_lk rfl h2 rfl rfl (R_mv t5 (R_idx (i:=k) (@rfl V (V.sl (List.map cN (a.nd)))) (@rfl V (iV ((k:Nat):Int))) (by omega) rfl (R_load_pp rfl rfl ?_)))))))
  refine R_fk t3 h3 (R_lk rfl h3 rfl rfl (R_mv t5 (R_idx (i:=k) (@rfl V (V.sl (List.map cN (b.nd)))) (@rfl V (iV ((k:Nat):Int))) (by omega) rfl (R_load_pp rfl rfl (R_alloc (i:=6) (n:=v6) (m:=5) rfl (h6).1 rfl (R_alloc (i:=7) (n:=v7) (m:=5) rfl (h7).1 rfl (R_sk rfl rfl rfl rfl rfl rfl rfl rfl rfl ?_)))))))
  refine R_sk rfl rfl rfl rfl rfl rfl rfl rfl rfl (R_e ?_)
  refine W_seq_regc (fun T H=>T 2=(V.mp 2 1 0 0)∧T 3=(V.mp 3 1 0 0)∧T 5=(iV ((k:Nat):Int))∧T 68=(V.bool (((((((((((((nth (a.nd) (k))).lf) != (((nth (b.nd) (k))).lf)))||decide (¬((((nth (a.nd) (k))).ac)=(((nth (b.nd) (k))).ac)))))||decide (¬((((nth (a.nd) (k))).sf)=(((nth (b.nd) (k))).sf)))))||decide (¬((((nth (a.nd) (k))).ou)=(((nth (b.nd) (k))).ou)))))||decide (¬((((nth (a.nd) (k))).kd)=(((nth (b.nd) (k))).kd))))))∧H 2=(bk 1 24 1 [[(V.sl (List.map cN (a.nd)))]])∧H 3=(bk 1 24 1 [[(V.sl (List.map cN (b.nd)))]])∧H 6=(bk (v6+1) 99 5 [(cN (((nth (a.nd) (k)))))])∧H 7=(bk (v7+1) 99 5 [(cN (((nth (b.nd) (k)))))])∧True) ?_ ?_
  ·
   refine R_fk rfl rfl (R_lk rfl rfl rfl rfl (R_fk rfl rfl (R_lk rfl rfl rfl rfl (R_bneq (x:=(((nth (a.nd) (k))).lf)) (y:=(((nth (b.nd) (k))).lf)) rfl rfl (R_mv rfl ?_)))))
   refine Ops_seg 7 (fun T H=>T 2=(V.mp 2 1 0 0)∧T 3=(V.mp 3 1 0 0)∧T 5=(iV ((k:Nat):Int))∧T 6=(V.mp 6 (v6+1) 0 0)∧T 7=(V.mp 7 (v7+1) 0 0)∧T 44=(V.bool (((((((nth (a.nd) (k))).lf) != (((nth (b.nd) (k))).lf)))||decide (¬((((nth (a.nd) (k))).ac)=(((nth (b.nd) (k))).ac))))))∧H 2=(bk 1 24 1 [[(V.sl (List.map cN (a.nd)))]])∧H 3=(bk 1 24 1 [[(V.sl (List.map cN (b.nd)))]])∧H 6=(bk (v6+1) 99 5 [(cN (((nth (a.nd) (k)))))])∧H 7=(bk (v7+1) 99 5 [(cN (((nth (b.nd) (k)))))])∧True) ?_ ?_
   ·
    by_cases g6:(((((nth (a.nd) (k))).lf) != (((nth (b.nd) (k))).lf)))=true
    ·
     refine G_n (ebT g6 rfl) (G_n (ebT g6 rfl) (G_n (ebT g6 rfl) (G_n (ebT g6 rfl) (G_n (ebT g6 rfl) (G_n (ebT g6 rfl) (R_pickT (ebT g6 rfl) rfl ?_))))))
     exact ⟨t2,t3,t5,rfl,rfl,(borT g6),h2,h3,rfl,rfl,trivial⟩
    ·
     refine G_yes (ebF g6 rfl) (R_fk rfl rfl (G_yes (ebF g6 rfl) (R_lk rfl rfl rfl rfl (G_yes (ebF g6 rfl) (R_fk rfl rfl (G_yes (ebF g6 rfl) (R_lk rfl rfl rfl rfl ?_)))))))
     refine G_yes (ebF g6 rfl) (R_callk (ints_pure (((nth (a.nd) (k))).ac) (((nth (b.nd) (k))).ac)) rfl (G_yes (ebF g6 rfl) (R_not rfl (R_pickF (ebF g6 rfl) rfl ?_))))
     exact ⟨t2,t3,t5,rfl,rfl,(borF g6),h2,h3,rfl,rfl,trivial⟩
   intro T H ⟨t2,t3,t5,t6,t7,t44,h2,h3,h6,h7,_⟩
   refine R_mv t44 ?_
   refine Ops_seg 7 (fun T H=>T 2=(V.mp 2 1 0 0)∧T 3=(V.mp 3 1 0 0)∧T 5=(iV ((k:Nat):Int))∧T 6=(V.mp 6 (v6+1) 0 0)∧T 7=(V.mp 7 (v7+1) 0 0)∧T 52=(V.bool (((((((((nth (a.nd) (k))).lf) != (((nth (b.nd) (k))).lf)))||decide (¬((((nth (a.nd) (k))).ac)=(((nth (b.nd) (k))).ac)))))||decide (¬((((nth (a.nd) (k))).sf)=(((nth (b.nd) (k))).sf))))))∧H 2=(bk 1 24 1 [[(V.sl (List.map cN (a.nd)))]])∧H 3=(bk 1 24 1 [[(V.sl (List.map cN (b.nd)))]])∧H 6=(bk (v6+1) 99 5 [(cN (((nth (a.nd) (k)))))])∧H 7=(bk (v7+1) 99 5 [(cN (((nth (b.nd) (k)))))])∧True) ?_ ?_
   ·
    by_cases g7:(((((((nth (a.nd) (k))).lf) != (((nth (b.nd) (k))).lf)))||decide (¬((((nth (a.nd) (k))).ac)=(((nth (b.nd) (k))).ac)))))=true
    ·
     refine G_n (ebT g7 rfl) (G_n (ebT g7 rfl) (G_n (ebT g7 rfl) (G_n (ebT g7 rfl) (G_n (ebT g7 rfl) (G_n (ebT g7 rfl) (R_pickT (ebT g7 rfl) rfl ?_))))))
     exact ⟨t2,t3,t5,t6,t7,(borT g7),h2,h3,h6,h7,trivial⟩
    ·
     refine G_yes (ebF g7 rfl) (R_fk t6 h6 (G_yes (ebF g7 rfl) (R_lk rfl h6 rfl rfl (G_yes (ebF g7 rfl) (R_fk t7 h7 (G_yes (ebF g7 rfl) (R_lk rfl h7 rfl rfl ?_)))))))
     refine G_yes (ebF g7 rfl) (R_callk (ints_pure (((nth (a.nd) (k))).sf) (((nth (b.nd) (k))).sf)) rfl (G_yes (ebF g7 rfl) (R_not rfl (R_pickF (ebF g7 rfl) rfl ?_))))
     exact ⟨t2,t3,t5,t6,t7,(borF g7),h2,h3,h6,h7,trivial⟩
   intro T H ⟨t2,t3,t5,t6,t7,t52,h2,h3,h6,h7,_⟩
   refine R_mv t52 ?_
   refine Ops_seg 7 (fun T H=>T 2=(V.mp 2 1 0 0)∧T 3=(V.mp 3 1 0 0)∧T 5=(iV ((k:Nat):Int))∧T 6=(V.mp 6 (v6+1) 0 0)∧T 7=(V.mp 7 (v7+1) 0 0)∧T 60=(V.bool (((((((((((nth (a.nd) (k))).lf) != (((nth (b.nd) (k))).lf)))||decide (¬((((nth (a.nd) (k))).ac)=(((nth (b.nd) (k))).ac)))))||decide (¬((((nth (a.nd) (k))).sf)=(((nth (b.nd) (k))).sf)))))||decide (¬((((nth (a.nd) (k))).ou)=(((nth (b.nd) (k))).ou))))))∧H 2=(bk 1 24 1 [[(V.sl (List.map cN (a.nd)))]])∧H 3=(bk 1 24 1 [[(V.sl (List.map cN (b.nd)))]])∧H 6=(bk (v6+1) 99 5 [(cN (((nth (a.nd) (k)))))])∧H 7=(bk (v7+1) 99 5 [(cN (((nth (b.nd) (k)))))])∧True) ?_ ?_
   ·
    by_cases g8:(((((((((nth (a.nd) (k))).lf) != (((nth (b.nd) (k))).lf)))||decide (¬((((nth (a.nd) (k))).ac)=(((nth (b.nd) (k))).ac)))))||decide (¬((((nth (a.nd) (k))).sf)=(((nth (b.nd) (k))).sf)))))=true
    ·
     refine G_n (ebT g8 rfl) (G_n (ebT g8 rfl) (G_n (ebT g8 rfl) (G_n (ebT g8 rfl) (G_n (ebT g8 rfl) (G_n (ebT g8 rfl) (R_pickT (ebT g8 rfl) rfl ?_))))))
     exact ⟨t2,t3,t5,t6,t7,(borT g8),h2,h3,h6,h7,trivial⟩
    ·
     refine G_yes (ebF g8 rfl) (R_fk t6 h6 (G_yes (ebF g8 rfl) (R_lk rfl h6 rfl rfl (G_yes (ebF g8 rfl) (R_fk t7 h7 (G_yes (ebF g8 rfl) (R_lk rfl h7 rfl rfl ?_)))))))
     refine G_yes (ebF g8 rfl) (R_callk (lists_pure (((nth (a.nd) (k))).ou) (((nth (b.nd) (k))).ou)) rfl (G_yes (ebF g8 rfl) (R_not rfl (R_pickF (ebF g8 rfl) rfl ?_))))
     exact ⟨t2,t3,t5,t6,t7,(borF g8),h2,h3,h6,h7,trivial⟩
   intro T H ⟨t2,t3,t5,t6,t7,t60,h2,h3,h6,h7,_⟩
   refine R_mv t60 ?_
   refine Ops_seg 7 (fun T H=>T 2=(V.mp 2 1 0 0)∧T 3=(V.mp 3 1 0 0)∧T 5=(iV ((k:Nat):Int))∧T 68=(V.bool (((((((((((((nth (a.nd) (k))).lf) != (((nth (b.nd) (k))).lf)))||decide (¬((((nth (a.nd) (k))).ac)=(((nth (b.nd) (k))).ac)))))||decide (¬((((nth (a.nd) (k))).sf)=(((nth (b.nd) (k))).sf)))))||decide (¬((((nth (a.nd) (k))).ou)=(((nth (b.nd) (k))).ou)))))||decide (¬((((nth (a.nd) (k))).kd)=(((nth (b.nd) (k))).kd))))))∧H 2=(bk 1 24 1 [[(V.sl (List.map cN (a.nd)))]])∧H 3=(bk 1 24 1 [[(V.sl (List.map cN (b.nd)))]])∧H 6=(bk (v6+1) 99 5 [(cN (((nth (a.nd) (k)))))])∧H 7=(bk (v7+1) 99 5 [(cN (((nth (b.nd) (k)))))])∧True) ?_ ?_
   ·
    by_cases g9:(((((((((((nth (a.nd) (k))).lf) != (((nth (b.nd) (k))).lf)))||decide (¬((((nth (a.nd) (k))).ac)=(((nth (b.nd) (k))).ac)))))||decide (¬((((nth (a.nd) (k))).sf)=(((nth (b.nd) (k))).sf)))))||decide (¬((((nth (a.nd) (k))).ou)=(((nth (b.nd) (k))).ou)))))=true
    ·
     refine G_n (ebT g9 rfl) (G_n (ebT g9 rfl) (G_n (ebT g9 rfl) (G_n (ebT g9 rfl) (G_n (ebT g9 rfl) (G_n (ebT g9 rfl) (R_pickT (ebT g9 rfl) rfl ?_))))))
     exact ⟨t2,t3,t5,(borT g9),h2,h3,h6,h7,trivial⟩
    ·
     refine G_yes (ebF g9 rfl) (R_fk t6 h6 (G_yes (ebF g9 rfl) (R_lk rfl h6 rfl rfl (G_yes (ebF g9 rfl) (R_fk t7 h7 (G_yes (ebF g9 rfl) (R_lk rfl h7 rfl rfl ?_)))))))
     refine G_yes (ebF g9 rfl) (R_callk (ints_pure (((nth (a.nd) (k))).kd) (((nth (b.nd) (k))).kd)) rfl (G_yes (ebF g9 rfl) (R_not rfl (R_pickF (ebF g9 rfl) rfl ?_))))
     exact ⟨t2,t3,t5,(borF g9),h2,h3,h6,h7,trivial⟩
   intro T H ⟨t2,t3,t5,t68,h2,h3,h6,h7,_⟩
   exact R_nil ⟨t2,t3,t5,t68,h2,h3,h6,h7,trivial⟩
  intro T H ⟨t2,t3,t5,t68,h2,h3,h6,h7,_⟩
  refine W_ifb t68 (fun c10=>?_) (fun c10=>?_)
  ·
   have d1:nth a.nd k≠nth b.nd k:=fun e=>by rw [e] at c10; simp at c10
   refine W_r (R_mv rfl (R_e (W_ret (y5 _ _ (p23 _ _ (y2 _ _ ?_))))))
   refine Ret_1 (@rfl V (V.bool false)) (fz_bool ?_)
   · exact (decide_eq_false (fun e=>d1 (by subst e; rfl))).symm
  have d1:nth a.nd k=nth b.nd k:=Nd.eq_iff.2 (by simpa [and_assoc] using c10)
  refine W_skip (n5 _ _ (.freeze 6 (fork_ (R:=fun T H=>T 2=(V.mp 2 1 0 0)∧T 3=(V.mp 3 1 0 0)∧T 5=(iV ((k:Nat):Int))∧T 68=(V.bool (((((((((((((nth (a.nd) (k))).lf) != (((nth (b.nd) (k))).lf)))||decide (¬((((nth (a.nd) (k))).ac)=(((nth (b.nd) (k))).ac)))))||decide (¬((((nth (a.nd) (k))).sf)=(((nth (b.nd) (k))).sf)))))||decide (¬((((nth (a.nd) (k))).ou)=(((nth (b.nd) (k))).ou)))))||decide (¬((((nth (a.nd) (k))).kd)=(((nth (b.nd) (k))).kd))))))∧H 2=(bk 1 24 1 [[(V.sl (List.map cN (a.nd)))]])∧H 3=(bk 1 24 1 [[(V.sl (List.map cN (b.nd)))]])∧((H 6).ver=v6+1∧(H 6).live=false)∧H 7=(bk (v7+1) 99 5 [(cN (((nth (b.nd) (k)))))])∧True) ⟨(fzT_q t2 rfl),(fzT_q t3 rfl),(fzT_q t5 rfl),(fzT_q t68 rfl),(kill_ne h2 (by decide)),(kill_ne h3 (by decide)),(kill_self (congrArg Blk.ver h6)),(kill_ne h7 (by decide)),trivial⟩ ?_)))
  intro T H ⟨t2,t3,t5,t68,h2,h3,h6,h7,_⟩
  refine .freeze 7 (.done ?_)
  refine fork_ (R:=fun T H=>T 2=(V.mp 2 1 0 0)∧T 3=(V.mp 3 1 0 0)∧T 5=(iV ((k:Nat):Int))∧T 68=(V.bool (((((((((((((nth (a.nd) (k))).lf) != (((nth (b.nd) (k))).lf)))||decide (¬((((nth (a.nd) (k))).ac)=(((nth (b.nd) (k))).ac)))))||decide (¬((((nth (a.nd) (k))).sf)=(((nth (b.nd) (k))).sf)))))||decide (¬((((nth (a.nd) (k))).ou)=(((nth (b.nd) (k))).ou)))))||decide (¬((((nth (a.nd) (k))).kd)=(((nth (b.nd) (k))).kd))))))∧H 2=(bk 1 24 1 [[(V.sl (List.map cN (a.nd)))]])∧H 3=(bk 1 24 1 [[(V.sl (List.map cN (b.nd)))]])∧((H 6).ver=v6+1∧(H 6).live=false)∧((H 7).ver=v7+1∧(H 7).live=false)∧True) ⟨(fzT_q t2 rfl),(fzT_q t3 rfl),(fzT_q t5 rfl),(fzT_q t68 rfl),(kill_ne h2 (by decide)),(kill_ne h3 (by decide)),(kill_dead h6),(kill_self (congrArg Blk.ver h7)),trivial⟩ ?_
  intro T H ⟨t2,t3,t5,t68,h2,h3,h6,h7,_⟩
  refine W_t (R_mv t5 (R_addN rfl (@rfl V (iV ((1:Nat):Int))) (by omega) (R_mv rfl (R_e ?_))))
  refine p13 _ _ _ ?_ ⟨(k+1),(v6+1),(v7+1),rfl,t2,t3,(Eq.trans (@rfl V (iV ((k+1:Nat):Int))) (by rfl)),h2,h3,h6,h7,?_,?_,?_⟩
  · omega
  · omega
  · omega
  · intro j hj
    by_cases e:j=k
    · subst e; exact d1
    · exact hc j (by omega)
 refine W_seq_exit (p33 _ _ _ (x2 _ _ (.done (W_r (R_mv rfl (R_e (W_ret ?_)))))))
 refine Ret_1 (@rfl V (V.bool true)) (fz_bool ?_)
 · exact (decide_eq_true (Dt.eq_iff.2 (nth_ext hl fun j hj=>hc j (by omega)))).symm
theorem tsame_pure (a b:Ts):PureC Tryz.prog 16 [(V.agg [(iV (a.i)),(V.sl (List.map cN (a.t.nd)))]),(V.agg [(iV (b.i)),(V.sl (List.map cN (b.t.nd)))])] (V.bool (decide (a=b))):=by
 refine pW Tryz.func16 s16_ok fun hB=>?_
 unfold s16
 dsimp only
 refine W_r (R_box (i:=2) (n:=0) (m:=2) (cs:=[(iV (a.i)),(V.sl (List.map cN (a.t.nd)))]) rfl (congrArg Blk.ver rfl) rfl rfl rfl (R_box (i:=3) (n:=0) (m:=2) (cs:=[(iV (b.i)),(V.sl (List.map cN (b.t.nd)))]) rfl (congrArg Blk.ver rfl) rfl rfl rfl (R_mv rfl (R_e (W_r (R_fk rfl rfl (R_lk rfl rfl rfl rfl ?_)))))))
 refine R_fk rfl rfl (R_lk rfl rfl rfl rfl (R_eql rfl rfl (R_mv rfl ?_)))
 refine Ops_seg 6 (fun T H=>T 16=(V.bool (decide (((a.i)=(b.i))∧(a.t=b.t))))∧H 2=(bk 1 26 2 [[(iV (a.i)),(V.sl (List.map cN (a.t.nd)))]])∧H 3=(bk 1 26 2 [[(iV (b.i)),(V.sl (List.map cN (b.t.nd)))]])∧True) ?_ ?_
 ·
  by_cases g1:(a.i)=(b.i)
  ·
   refine G_yes (edT g1 rfl) (R_fk rfl rfl (G_yes (edT g1 rfl) (R_lk rfl rfl rfl rfl (G_yes (edT g1 rfl) (R_fk rfl rfl (G_yes (edT g1 rfl) (R_lk rfl rfl rfl rfl ?_)))))))
   refine G_yes (edT g1 rfl) (R_callk (dsame_pure a.t b.t) rfl (R_pickT (edT g1 rfl) rfl ?_))
   exact ⟨(dec_andT g1),rfl,rfl,trivial⟩
  ·
   refine G_n (edF g1 rfl) (G_n (edF g1 rfl) (G_n (edF g1 rfl) (G_n (edF g1 rfl) (G_n (edF g1 rfl) (R_pickF (edF g1 rfl) rfl ?_)))))
   exact ⟨(dec_andF g1),rfl,rfl,trivial⟩
 intro T H ⟨t16,h2,h3,_⟩
 refine R_mv t16 (R_e (W_ret ?_))
 refine Ret_1 (@rfl V (V.bool (decide (((a.i)=(b.i))∧(a.t=b.t))))) (fz_bool ?_)
 · exact decide_eq_decide.2 Ts.eq_iff.symm
def r22_7:List SO:=[
 qF 37 0 5,
 ql 38 37,
 qF 39 1 5,
 ql 40 39,
 sO 41 (.bslice 3 1 false [.int .i64 0] 1 [(0,.t 40)]),
 sO 42 (.bslice 54 1 false [.nilsl] 2 [(0,.t 38),(1,.t 41)]),
 sO 43 (.call false 64 [.t 42]),
 qM 11 43]
def r22_8:List SO:=[
 qF 45 1 3,
 qL 46 1 45,
 qL 47 2 4,
 qM 48 11,
 sO 49 (.call false 53 [.t 46,.t 47,.t 48]),
 qM 44 49,
 qE 50 44 0,
 qE 51 44 1,
 qE 52 44 2,
 qM 12 50,
 qM 13 51,
 qM 14 52]
def r22_13:List SO:=[
 qF 63 1 3,
 qF 64 0 63,
 ql 65 64,
 qM 66 12,
 qA 67 5 65 66,
 qF 68 0 67,
 ql 69 68,
 sO 70 (.un .not (.t 69))]
def r22_15:List SO:=[
 qF 72 1 3,
 qF 73 0 72,
 ql 74 73,
 qM 75 12,
 qA 76 5 74 75,
 qF 77 1 76,
 ql 78 77,
 qM 15 78]
def r22_16:List SO:=[
 qM 79 15,
 qN 80 79,
 qF 81 2 5,
 ql 82 81,
 qN 83 82,
 qP 84 .add 80 83,
 qC 85 .gtr 84 1024,
 qM 86 85,
 ⟨some (86,false),some 87,.mv (.t 11)⟩,
 ⟨some (86,false),some 88,.len (.t 87)⟩,
 ⟨some (86,false),some 89,.fld 2 (.t 5)⟩,
 ⟨some (86,false),some 90,.load false 1 (.t 89)⟩,
 ⟨some (86,false),some 91,.len (.t 90)⟩,
 ⟨some (86,false),some 92,.bin .add (.t 88) (.t 91)⟩,
 ⟨some (86,false),some 93,.bin .gtr (.t 92) (.c (.int .i64 1024))⟩,
 sO 94 (.pick (.t 86) (.c (.bool true)) (.t 93))]
def r22_18:List SO:=[
 qL 97 2 4,
 qM 98 15,
 qF 99 2 5,
 ql 100 99,
 sO 101 (.call false 55 [.t 97,.t 98,.t 100]),
 qM 96 101,
 qE 102 96 0,
 qE 103 96 1,
 qM 16 102,
 qM 17 103]
def r22_19:List SO:=[
 qL 105 2 4,
 qM 106 11,
 qF 107 2 5,
 ql 108 107,
 sO 109 (.call false 55 [.t 105,.t 106,.t 108]),
 qM 104 109,
 qE 110 104 0,
 qE 111 104 1,
 qM 18 110,
 qM 19 111]
def r22_22:List SO:=[
 qM 114 20,
 qM 115 15,
 qF 116 2 5,
 ql 117 116,
 sO 118 (.bslice 54 1 false [.nilsl] 2 [(0,.t 115),(1,.t 117)]),
 sO 119 (.call false 64 [.t 118]),
 sO 120 (.bslice 54 1 false [.nilsl] 1 [(0,.t 119)]),
 sO 121 (.append 54 1 24 (.t 114) (.t 120)),
 qM 20 121]
def r22_24:List SO:=[
 qM 124 20,
 qM 125 11,
 qF 126 2 5,
 ql 127 126,
 sO 128 (.bslice 54 1 false [.nilsl] 2 [(0,.t 125),(1,.t 127)]),
 sO 129 (.call false 64 [.t 128]),
 sO 130 (.bslice 54 1 false [.nilsl] 1 [(0,.t 129)]),
 sO 131 (.append 54 1 24 (.t 124) (.t 130)),
 qM 20 131]
def r22_29:List SO:=[
 qF 145 1 3,
 qL 146 1 145,
 qM 147 12,
 qF 148 2 5,
 ql 149 148,
 qM 150 16,
 qM 151 11,
 qM 152 18,
 sO 153 (.call false 76 [.t 146,.t 147,.t 149,.t 150,.t 151,.t 152]),
 qM 144 153,
 qE 154 144 0,
 qE 155 144 1,
 sO 21 (.alloc 24 [.nilsl]),
 sN (.store 1 (.t 21) (.t 154)),
 qM 14 155]
def r22_32:List SO:=[
 qF 160 0 3,
 ql 161 160,
 qL 162 1 21,
 sO 163 (.build [.int .i64 0,.nilsl] [(0,1,.t 161),(1,1,.t 162)]),
 sN (.store 2 (.t 6) (.t 163)),
 sO 7 (.mv (.c (.nilsl))),
 qI 8 0]
def s22:SF:=⟨164,[.cell 6 true 2,.tmp 7,.tmp 8],.seq (.reg [sO 3 (.box 26 2 (.t 0)),sO 4 (.box 29 2 (.t 1)),sO 5 (.box 56 3 (.t 2)),sO 6 (.alloc 26 [.int .i64 0,.nilsl]),sO 7 (.mv (.c (.nilsl))),qI 8 0]) (.seq (.seq (.reg [qL 22 2 3,qL 23 2 4,sO 24 (.call false 50 [.t 22,.t 23]),qM 9 24]) (.seq (.reg [qM 25 9,qC 26 .neq 25 0]) (.cond (.t 26) (.seq (.reg [qL 27 2 3,qM 28 9,sN (.store 2 (.t 6) (.t 27)),sO 7 (.mv (.c (.nilsl))),qM 8 28]) (.ret)) (.skip)))) (.seq (.seq (.reg [qL 29 3 5,qF 30 0 3,ql 31 30,sO 32 (.call false 74 [.t 29,.t 31]),qM 10 32]) (.seq (.reg [qM 33 10,qC 34 .neq 33 0]) (.cond (.t 34) (.seq (.reg [qL 35 2 3,qM 36 10,sN (.store 2 (.t 6) (.t 35)),sO 7 (.mv (.c (.nilsl))),qM 8 36]) (.ret)) (.skip)))) (.seq (.reg r22_7) (.seq (.reg r22_8) (.seq (.seq (.reg [qM 53 14,qC 54 .neq 53 0]) (.cond (.t 54) (.seq (.reg [qL 55 2 3,qM 56 14,sN (.store 2 (.t 6) (.t 55)),sO 7 (.mv (.c (.nilsl))),qM 8 56]) (.ret)) (.skip))) (.seq (.seq (.reg [qM 57 13,qN 58 57,qC 59 .gtr 58 0]) (.cond (.t 59) (.seq (.reg [qL 60 2 3,qM 61 13,sO 62 (.bslice 54 1 false [.nilsl] 1 [(0,.t 61)]),sN (.store 2 (.t 6) (.t 60)),qM 7 62,qI 8 0]) (.ret)) (.skip))) (.seq (.seq (.reg r22_13) (.cond (.t 70) (.seq (.reg [qL 71 2 3,sN (.store 2 (.t 6) (.t 71)),sO 7 (.mv (.c (.nilsl))),qI 8 10]) (.ret)) (.skip))) (.seq (.reg r22_15) (.seq (.seq (.reg r22_16) (.cond (.t 94) (.seq (.reg [qL 95 2 3,sN (.store 2 (.t 6) (.t 95)),sO 7 (.mv (.c (.nilsl))),qI 8 3]) (.ret)) (.skip))) (.seq (.reg r22_18) (.seq (.reg r22_19) (.seq (.reg [sO 20 (.lazy 54 1)]) (.seq (.seq (.reg [qM 112 17,sO 113 (.un .not (.t 112))]) (.cond (.t 113) (.reg r22_22) (.skip))) (.seq (.seq (.reg [qM 122 19,sO 123 (.un .not (.t 122))]) (.cond (.t 123) (.reg r22_24) (.skip))) (.seq (.seq (.reg [qM 132 20,qN 133 132,qC 134 .gtr 133 0]) (.cond (.t 134) (.seq (.reg [qL 135 2 3,qM 136 20,sO 137 (.call false 75 [.t 136]),sN (.store 2 (.t 6) (.t 135)),qM 7 137,qI 8 0]) (.ret)) (.skip))) (.seq (.seq (.reg [qF 138 1 3,qL 139 1 138,sO 140 (.call false 54 [.t 139]),qN 141 140,qC 142 .geq 141 128]) (.cond (.t 142) (.seq (.reg [qL 143 2 3,sN (.store 2 (.t 6) (.t 143)),sO 7 (.mv (.c (.nilsl))),qI 8 11]) (.ret)) (.skip))) (.seq (.reg r22_29) (.seq (.seq (.reg [qM 156 14,qC 157 .neq 156 0]) (.cond (.t 157) (.seq (.reg [qL 158 2 3,qM 159 14,sN (.store 2 (.t 6) (.t 158)),sO 7 (.mv (.c (.nilsl))),qM 8 159]) (.ret)) (.skip))) (.seq (.reg r22_32) (.ret))))))))))))))))))))⟩
theorem s22_ok:slimF Tryz.prog ⟨[107,108,109,116,120,126,127,167,169,170,171,172,194,196,198,209,222,226],[20]⟩ Tryz.f22=some s22:=by kernel_rfl
def s50:SF:=⟨16,[.tmp 4],.seq (.reg [sO 2 (.box 26 2 (.t 0)),sO 3 (.box 29 2 (.t 1)),qI 4 0]) (.seq (.seq (.reg [qL 6 2 2,sO 7 (.call false 28 [.t 6]),qM 5 7]) (.seq (.reg [qM 8 5,qC 9 .neq 8 0]) (.cond (.t 9) (.seq (.reg [qM 10 5,qM 4 10]) (.ret)) (.skip)))) (.seq (.seq (.reg [qF 11 0 2,ql 12 11,qF 13 0 3,ql 14 13,qP 15 .neq 12 14]) (.cond (.t 15) (.seq (.reg [qI 4 15]) (.ret)) (.skip))) (.seq (.reg [qI 4 0]) (.ret))))⟩
theorem s50_ok:slimF Tryz.prog ⟨[107,108,109,116,120,126,127,167,169,170,171,172,194,196,198,209,222,226],[]⟩ Tryz.f50=some s50:=by kernel_rfl
def r28_1:List SO:=[
 qF 8 0 1,
 ql 9 8,
 qC 10 .lss 9 1,
 qM 11 10,
 ⟨some (11,false),some 12,.fld 0 (.t 1)⟩,
 ⟨some (11,false),some 13,.load false 1 (.t 12)⟩,
 ⟨some (11,false),some 14,.bin .gtr (.t 13) (.c (.int .i64 64))⟩,
 sO 15 (.pick (.t 11) (.c (.bool true)) (.t 14))]
def r28_9:List SO:=[
 qF 30 1 1,
 qF 31 0 30,
 ql 32 31,
 qM 33 4,
 qA 34 5 32 33,
 qF 35 1 34,
 ql 36 35,
 qF 37 0 1,
 ql 38 37,
 sO 39 (.call false 80 [.t 36,.t 38]),
 qM 5 39]
def r28_12:List SO:=[
 qF 43 1 1,
 qF 44 0 43,
 ql 45 44,
 qM 46 4,
 qA 47 5 45 46,
 qF 48 2 47,
 ql 49 48,
 qF 50 0 1,
 ql 51 50,
 sO 52 (.call false 80 [.t 49,.t 51]),
 qM 6 52]
def b28_0:SC:=.seq (.seq (.reg [qM 22 4,qF 23 1 1,qF 24 0 23,ql 25 24,qN 26 25,qP 27 .lss 22 26]) (.cond (.t 27) (.skip) (.exit 0))) (.seq (.block 1 (.seq (.seq (.reg r28_9) (.seq (.reg [qM 40 5,qC 41 .neq 40 0]) (.cond (.t 41) (.seq (.reg [qM 42 5,qM 2 42]) (.ret)) (.skip)))) (.seq (.reg r28_12) (.seq (.reg [qM 53 6,qC 54 .neq 53 0]) (.cond (.t 54) (.seq (.reg [qM 55 6,qM 2 55]) (.ret)) (.skip)))))) (.reg [qM 28 4,qC 29 .add 28 1,qM 4 29]))
def s28:SF:=⟨65,[.tmp 2],.seq (.reg [sO 1 (.box 26 2 (.t 0)),qI 2 0]) (.seq (.seq (.reg r28_1) (.cond (.t 15) (.seq (.reg [qI 2 2]) (.ret)) (.skip))) (.seq (.seq (.reg [qF 16 1 1,qL 17 1 16,sO 18 (.call false 77 [.t 17]),qM 3 18]) (.seq (.reg [qM 19 3,qC 20 .neq 19 0]) (.cond (.t 20) (.seq (.reg [qM 21 3,qM 2 21]) (.ret)) (.skip)))) (.seq (.seq (.reg [qI 4 0]) (.block 0 (.loop b28_0))) (.seq (.reg [qF 56 1 1,qL 57 1 56,sO 58 (.call false 54 [.t 57]),qM 7 58]) (.seq (.seq (.reg [qM 59 7,sO 60 (.call false 81 [.t 59,.c (.nilsl)]),sO 61 (.un .not (.t 60))]) (.cond (.t 61) (.seq (.reg [qI 2 1]) (.ret)) (.skip))) (.seq (.seq (.reg [qM 62 7,qN 63 62,qC 64 .gtr 63 128]) (.cond (.t 64) (.seq (.reg [qI 2 11]) (.ret)) (.skip))) (.seq (.reg [qI 2 0]) (.ret))))))))⟩
theorem s28_ok:slimF Tryz.prog ⟨[107,108,109,116,120,126,127,167,169,170,171,172,194,196,198,209,222,226],[]⟩ Tryz.f28=some s28:=by kernel_rfl
def r54_6:List SO:=[
 qM 18 3,
 qF 19 0 1,
 ql 20 19,
 qM 21 4,
 qA 22 5 20 21,
 qF 23 1 22,
 ql 24 23,
 sO 25 (.bslice 54 1 false [.nilsl] 1 [(0,.t 24)]),
 sO 26 (.call false 64 [.t 25]),
 sO 27 (.bslice 54 1 false [.nilsl] 1 [(0,.t 26)]),
 sO 28 (.append 54 1 24 (.t 18) (.t 27)),
 qM 3 28]
def b54_0:SC:=.seq (.seq (.reg [qM 5 4,qF 6 0 1,ql 7 6,qN 8 7,qP 9 .lss 5 8]) (.cond (.t 9) (.skip) (.exit 0))) (.seq (.block 1 (.seq (.reg [qF 12 0 1,ql 13 12,qM 14 4,qA 15 5 13 14,qF 16 0 15,ql 17 16]) (.cond (.t 17) (.reg r54_6) (.skip)))) (.reg [qM 10 4,qC 11 .add 10 1,qM 4 11]))
def s54:SF:=⟨30,[.tmp 2],.seq (.reg [sO 1 (.box 24 1 (.t 0)),sO 2 (.mv (.c (.nilsl)))]) (.seq (.reg [sO 3 (.lazy 54 1)]) (.seq (.seq (.reg [qI 4 0]) (.block 0 (.loop b54_0))) (.seq (.reg [qM 29 3,qM 2 29]) (.ret))))⟩
theorem s54_ok:slimF Tryz.prog ⟨[107,108,109,116,120,126,127,167,169,170,171,172,194,196,198,209,222,226],[3]⟩ Tryz.f54=some s54:=by kernel_rfl
def r64_5:List SO:=[
 qM 11 3,
 qM 12 0,
 qM 13 4,
 qA 14 1 12 13,
 ql 15 14,
 sO 16 (.append 3 1 8 (.t 11) (.t 15)),
 qM 3 16]
def b64_0:SC:=.seq (.seq (.reg [qM 5 4,qM 6 0,qN 7 6,qP 8 .lss 5 7]) (.cond (.t 8) (.skip) (.exit 0))) (.seq (.block 1 (.reg r64_5)) (.reg [qM 9 4,qC 10 .add 9 1,qM 4 10]))
def s64:SF:=⟨18,[.tmp 2],.seq (.reg [sO 2 (.mv (.c (.nilsl)))]) (.seq (.reg [sO 3 (.lazy 3 1)]) (.seq (.seq (.reg [qI 4 0]) (.block 0 (.loop b64_0))) (.seq (.reg [qM 17 3,qM 2 17]) (.ret))))⟩
theorem s64_ok:slimF Tryz.prog ⟨[107,108,109,116,120,126,127,167,169,170,171,172,194,196,198,209,222,226],[3]⟩ Tryz.f64=some s64:=by kernel_rfl
theorem join_pure (l:List (List Int)) (hs:(cat l).length≤17592186044416):PureC Tryz.prog 64 [(intss l)] (ints (cat l)):=by
 refine pW Tryz.func64 s64_ok fun hB=>?_
 unfold s64
 dsimp only
 refine W_r (R_mv rfl (R_e (W_r (R_lazy (i:=3) (n:=0) rfl (congrArg Blk.ver rfl) (R_e (W_seq_seq (W_r ?_)))))))
 refine R_mv rfl (R_e (W_seq_blockg fun Q1 n1 x1 y1 z1=>?_))
 refine W_loop (fun mm T H=> ∃ (k:Nat),mm=l.length - k∧T 0=(intss l)∧T 3=(V.ms 3 (1+k) 0 ((cat (l.take k)).length))∧T 4=(iV ((k:Nat):Int))∧H 3=(bz (1+k) 3 1 (List.map cI (cat (l.take k))))∧(k≤l.length)) ?_ ?_
 ·
  refine ⟨_,0,rfl,rfl,(Eq.trans (@rfl V (V.ms 3 1 0 (0))) (by rfl)),(Eq.trans (@rfl V (iV (0:Int))) rfl),(Eq.trans (@rfl Blk (bz 1 3 1 [])) (by rfl)),?_⟩
  · omega
 intro mm T H ⟨k,hmm,t0,t3,t4,h3,hk⟩ Q2 p12 p22 p32
 unfold b64_0
 refine W_seq_seq (W_r (R_mv t4 (R_mv t0 (R_len rfl (R_lss rfl rfl (R_e ?_))))))
 refine W_seq_if rfl (fun c3=>?_) fun c3=>?_
 ·
  have hq:=cat_take_le (l:=l) (k:=k) (by omega)
  refine W_seq_skip (W_seq_blockg fun Q4 n4 x4 y4 z4=>(W_t (R_mv t3 (R_mv t0 (R_mv t4 (R_idx (i:=k) (@rfl V (intss l)) (@rfl V (iV ((k:Nat):Int))) (by omega) rfl (R_load_pp rfl rfl ?_)))))))
  refine R_appendS (l:=(cat (l.take k))) (m:=((nth (l) (k)))) (f:=cI) (@rfl V (V.ms 3 (1+k) 0 ((cat (l.take k)).length))) h3 (by rfl) (@rfl V (ints ((nth (l) (k))))) (fun _=>rfl) (fun _=>rfl) (by omega) (by omega) (R_mv rfl (R_e (n4 _ _ (.done (W_t (R_mv t4 (R_addN rfl (@rfl V (iV ((1:Nat):Int))) (by omega) ?_)))))))
  refine R_mv rfl (R_e ?_)
  refine p12 _ _ _ ?_ ⟨(k+1),rfl,t0,(Eq.trans (@rfl V (V.ms 3 (1+k+1) 0 (((cat (l.take k)).length)+((nth (l) (k))).length))) (by (rw [cat_take (by omega),List.length_append]; rfl))),(Eq.trans (@rfl V (iV ((k+1:Nat):Int))) (by rfl)),(Eq.trans (@rfl Blk (bz (1+k+1) 3 1 (List.map cI (cat (l.take k)++((nth (l) (k))))))) (by (rw [cat_take (by omega)]; rfl))),?_⟩
  · omega
  · omega
 refine W_seq_exit (p32 _ _ _ (x1 _ _ (.done (W_r (R_mv t3 (R_mv rfl (R_e ?_)))))))
 refine W_ret ?_
 refine Ret_1 (@rfl V (V.ms 3 (1+k) 0 ((cat (l.take k)).length))) (fz_ms h3 (by simp) (l:=(cat (l.take k))) rfl (by rfl) (fun _=>by simp) ?_)
 · (have e:k=l.length:=(by omega); subst e; rw [List.take_length])
theorem raccess_pure (t:Dt) (hb:Bd t):PureC Tryz.prog 54 [(V.agg [(V.sl (List.map cN (t.nd)))])] (intss (acL t.nd)):=by
 refine pW Tryz.func54 s54_ok fun hB=>?_
 unfold s54
 dsimp only
 have hbn:=hb.n
 refine W_r (R_box (i:=1) (n:=0) (m:=1) (cs:=[(V.sl (List.map cN (t.nd)))]) rfl (congrArg Blk.ver rfl) rfl rfl rfl (R_mv rfl (R_e (W_r (R_lazy (i:=3) (n:=0) rfl (congrArg Blk.ver rfl) (R_e (W_seq_seq ?_)))))))
 refine W_r (R_mv rfl (R_e (W_seq_blockg fun Q1 n1 x1 y1 z1=>?_)))
 refine W_loop (fun mm T H=> ∃ (k:Nat) (v:Nat),mm=t.nd.length - k∧T 1=(V.mp 1 1 0 0)∧T 3=(V.ms 3 v 0 ((acL (t.nd.take k)).length))∧T 4=(iV ((k:Nat):Int))∧H 1=(bk 1 24 1 [[(V.sl (List.map cN (t.nd)))]])∧H 3=(bz v 54 1 (List.map cL (acL (t.nd.take k))))∧(k≤t.nd.length)) ?_ ?_
 ·
  refine ⟨_,0,1,rfl,rfl,(Eq.trans (@rfl V (V.ms 3 1 0 (0))) (by rfl)),(Eq.trans (@rfl V (iV (0:Int))) rfl),rfl,(Eq.trans (@rfl Blk (bz 1 54 1 [])) (by rfl)),?_⟩
  · omega
 intro mm T H ⟨k,v,hmm,t1,t3,t4,h1,h3,hk⟩ Q2 p12 p22 p32
 unfold b54_0
 have q1:=acL_len (t.nd.take k)
 have q2:(t.nd.take k).length≤k:=by simp; omega
 refine W_seq_seq (W_r (R_mv t4 (R_fk t1 h1 (R_lk rfl h1 rfl rfl (R_len rfl (R_lss rfl rfl (R_e ?_)))))))
 refine W_seq_if rfl (fun c3=>?_) fun c3=>?_
 ·
  have r1:=hb.ac k (by omega)
  refine W_seq_skip (W_seq_blockg fun Q4 n4 x4 y4 z4=>(W_r (R_fk t1 h1 (R_lk rfl h1 rfl rfl (R_mv t4 (R_idx (i:=k) (@rfl V (V.sl (List.map cN (t.nd)))) (@rfl V (iV ((k:Nat):Int))) (by omega) rfl (R_fld_pp (cs':=(cN (((nth (t.nd) (k)))))) rfl rfl ?_)))))))
  refine R_load_pp rfl rfl (R_e ?_)
  refine W_ifb rfl (fun c5=>?_) (fun c5=>?_)
  ·
   have d1:(nth t.nd k).lf=true:=c5
   refine W_t (R_mv t3 (R_fk t1 h1 (R_lk rfl h1 rfl rfl (R_mv t4 (R_idx (i:=k) (@rfl V (V.sl (List.map cN (t.nd)))) (@rfl V (iV ((k:Nat):Int))) (by omega) rfl (R_fld_pp (cs':=(List.drop 1 (cN (((nth (t.nd) (k))))))) rfl rfl (R_load_pp rfl rfl ?_)))))))
   refine R_bslice rfl rfl (R_callk (join_pure ([((nth (t.nd) (k))).ac]) (by simp [cat]; omega)) rfl (R_bslice rfl rfl (R_append1 (l:=(acL (t.nd.take k))) (f:=cL) (x:=(cat ([((nth (t.nd) (k))).ac]))) (@rfl V (V.ms 3 v 0 ((acL (t.nd.take k)).length))) h3 (by rfl) (@rfl V (V.sl [[(ints (cat ([((nth (t.nd) (k))).ac])))]])) rfl rfl (by omega) (by omega) (R_mv rfl (R_e (n4 _ _ (.done ?_)))))))
   refine W_t (R_mv t4 (R_addN rfl (@rfl V (iV ((1:Nat):Int))) (by omega) (R_mv rfl (R_e ?_))))
   refine p12 _ _ _ ?_ ⟨(k+1),(v+1),rfl,t1,(Eq.trans (@rfl V (V.ms 3 (v+1) 0 (((acL (t.nd.take k)).length)+1))) (by (rw [acL_take (by omega),if_pos (by assumption),List.length_append]; rfl))),(Eq.trans (@rfl V (iV ((k+1:Nat):Int))) (by rfl)),h1,(Eq.trans (@rfl Blk (bz (v+1) 54 1 (List.map cL (acL (t.nd.take k)++[cat ([((nth (t.nd) (k))).ac])])))) (by (rw [acL_take (by omega),if_pos (by assumption)]; simp [cat]; done))),?_⟩
   · omega
   · omega
  have d1: ¬(nth t.nd k).lf=true:=by simpa using c5
  refine W_skip (n4 _ _ (.done (W_t (R_mv t4 (R_addN rfl (@rfl V (iV ((1:Nat):Int))) (by omega) (R_mv rfl (R_e ?_)))))))
  refine p12 _ _ _ ?_ ⟨(k+1),v,rfl,t1,(Eq.trans t3 (by (rw [acL_take (by omega),if_neg (by assumption),List.append_nil]; done))),(Eq.trans (@rfl V (iV ((k+1:Nat):Int))) (by rfl)),h1,(Eq.trans h3 (by (rw [acL_take (by omega),if_neg (by assumption),List.append_nil]; done))),?_⟩
  · omega
  · omega
 refine W_seq_exit (p32 _ _ _ (x1 _ _ (.done (W_r (R_mv t3 (R_mv rfl (R_e ?_)))))))
 refine W_ret ?_
 refine Ret_1 (@rfl V (V.ms 3 v 0 ((acL (t.nd.take k)).length))) (fz_ms h3 (by simp) (l:=(acL (t.nd.take k))) rfl (by rfl) (fun _=>by simp) ?_)
 · rw [show k=t.nd.length by omega,List.take_length]
def r77_8:List SO:=[
 qL 21 1 1,
 qF 22 0 1,
 ql 23 22,
 qM 24 3,
 qA 25 5 23 24,
 qL 26 5 25,
 sO 27 (.call false 130 [.t 21,.t 26]),
 qM 4 27]
def b77_0:SC:=.seq (.seq (.reg [qM 14 3,qF 15 0 1,ql 16 15,qN 17 16,qP 18 .lss 14 17]) (.cond (.t 18) (.skip) (.exit 0))) (.seq (.block 1 (.seq (.reg r77_8) (.seq (.reg [qM 28 4,qC 29 .neq 28 0]) (.cond (.t 29) (.seq (.reg [qM 30 4,qM 2 30]) (.ret)) (.skip))))) (.reg [qM 19 3,qC 20 .add 19 1,qM 3 20]))
def s77:SF:=⟨42,[.tmp 2],.seq (.reg [sO 1 (.box 24 1 (.t 0)),qI 2 0]) (.seq (.seq (.reg [qF 6 0 1,ql 7 6,qN 8 7,qC 9 .eql 8 0]) (.cond (.t 9) (.seq (.reg [qI 2 19]) (.ret)) (.skip))) (.seq (.seq (.reg [qF 10 0 1,ql 11 10,qN 12 11,qC 13 .gtr 12 4096]) (.cond (.t 13) (.seq (.reg [qI 2 11]) (.ret)) (.skip))) (.seq (.seq (.reg [qI 3 0]) (.block 0 (.loop b77_0))) (.seq (.seq (.reg [qL 31 1 1,sO 32 (.call false 131 [.t 31]),sO 33 (.un .not (.t 32))]) (.cond (.t 33) (.seq (.reg [qI 2 1]) (.ret)) (.skip))) (.seq (.reg [qL 34 1 1,sO 35 (.call false 54 [.t 34]),qM 5 35]) (.seq (.seq (.reg [qM 36 5,sO 37 (.call false 63 [.t 36]),qN 38 37,qM 39 5,qN 40 39,qP 41 .neq 38 40]) (.cond (.t 41) (.seq (.reg [qI 2 7]) (.ret)) (.skip))) (.seq (.reg [qI 2 0]) (.ret))))))))⟩
theorem s77_ok:slimF Tryz.prog ⟨[107,108,109,116,120,126,127,167,169,170,171,172,194,196,198,209,222,226],[]⟩ Tryz.f77=some s77:=by kernel_rfl
def r63_5:List SO:=[
 qM 11 3,
 qM 12 0,
 qM 13 4,
 qA 14 1 12 13,
 ql 15 14,
 sO 16 (.call true 120 [.t 11,.t 15]),
 qM 3 16]
def b63_0:SC:=.seq (.seq (.reg [qM 5 4,qM 6 0,qN 7 6,qP 8 .lss 5 7]) (.cond (.t 8) (.skip) (.exit 0))) (.seq (.block 1 (.reg r63_5)) (.reg [qM 9 4,qC 10 .add 9 1,qM 4 10]))
def s63:SF:=⟨18,[.tmp 2],.seq (.reg [sO 2 (.mv (.c (.nilsl)))]) (.seq (.reg [sO 3 (.lazy 54 1)]) (.seq (.seq (.reg [qI 4 0]) (.block 0 (.loop b63_0))) (.seq (.reg [qM 17 3,qM 2 17]) (.ret))))⟩
theorem s63_ok:slimF Tryz.prog ⟨[107,108,109,116,120,126,127,167,169,170,171,172,194,196,198,209,222,226],[3]⟩ Tryz.f63=some s63:=by kernel_rfl
def r120_2:List SO:=[
 qM 10 5,
 qM 11 0,
 qN 12 11,
 qP 13 .lss 10 12,
 qM 14 13,
 ⟨some (14,true),some 15,.mv (.t 0)⟩,
 ⟨some (14,true),some 16,.mv (.t 5)⟩,
 ⟨some (14,true),some 17,.idx 1 (.t 15) (.t 16)⟩,
 ⟨some (14,true),some 18,.load false 1 (.t 17)⟩,
 ⟨some (14,true),some 19,.mv (.t 1)⟩,
 ⟨some (14,true),some 20,.call false 58 [.t 18,.t 19]⟩,
 sO 21 (.pick (.t 14) (.t 20) (.c (.bool false)))]
def r120_8:List SO:=[
 qM 34 0,
 qM 35 6,
 qM 36 0,
 qM 37 6,
 qC 38 .sub 37 1,
 qA 39 1 36 38,
 ql 40 39,
 qA 41 1 34 35,
 sN (.store 1 (.t 41) (.t 40))]
def b120_0:SC:=.seq (.seq (.reg [qM 29 6,qM 30 5,qP 31 .gtr 29 30]) (.cond (.t 31) (.skip) (.exit 0))) (.seq (.block 1 (.reg r120_8)) (.reg [qM 32 6,qC 33 .sub 32 1,qM 6 33]))
def r120_9:List SO:=[
 qM 42 0,
 qM 43 5,
 sO 44 (.lazy 3 1),
 qM 45 1,
 sO 46 (.append 3 1 8 (.t 44) (.t 45)),
 qA 47 1 42 43,
 sN (.store 1 (.t 47) (.t 46))]
def s120:SF:=⟨49,[.tmp 4],.seq (.reg [sO 4 (.mv (.c (.nilsl)))]) (.seq (.reg [qM 7 0,qM 8 1,sO 9 (.call false 168 [.t 7,.t 8]),qM 5 9]) (.seq (.seq (.reg r120_2) (.cond (.t 21) (.seq (.reg [qM 22 0,qM 4 22]) (.ret)) (.skip))) (.seq (.reg [qM 23 0,sO 24 (.bslice 54 1 false [.nilsl] 1 [(0,.c (.nilsl))]),sO 25 (.append 54 1 24 (.t 23) (.t 24)),qM 0 25]) (.seq (.seq (.reg [qM 26 0,qN 27 26,qC 28 .sub 27 1,qM 6 28]) (.block 0 (.loop b120_0))) (.seq (.reg r120_9) (.seq (.reg [qM 48 0,qM 4 48]) (.ret)))))))⟩
theorem s120_ok:slimF Tryz.prog ⟨[107,108,109,116,120,126,127,167,169,170,171,172,194,196,198,209,222,226],[44]⟩ Tryz.f120=some s120:=by kernel_rfl
def r168_4:List SO:=[
 qM 17 0,
 qM 18 7,
 qA 19 1 17 18,
 ql 20 19,
 qM 21 1,
 sO 22 (.call false 94 [.t 20,.t 21]),
 qC 23 .lss 22 0]
def b168_0:SC:=.seq (.seq (.reg [qM 10 5,qM 11 6,qP 12 .lss 10 11]) (.cond (.t 12) (.skip) (.exit 0))) (.block 1 (.seq (.reg [qM 13 5,qM 14 6,qP 15 .add 13 14,qC 16 .quo 15 2,qM 7 16]) (.seq (.reg r168_4) (.cond (.t 23) (.reg [qM 24 7,qC 25 .add 24 1,qM 5 25]) (.reg [qM 26 7,qM 6 26])))))
def s168:SF:=⟨28,[.tmp 4],.seq (.reg [qI 4 0]) (.seq (.reg [qM 8 0,qN 9 8,qI 5 0,qM 6 9]) (.seq (.block 0 (.loop b168_0)) (.seq (.reg [qM 27 5,qM 4 27]) (.ret))))⟩
theorem s168_ok:slimF Tryz.prog ⟨[107,108,109,116,120,126,127,167,169,170,171,172,194,196,198,209,222,226],[]⟩ Tryz.f168=some s168:=by kernel_rfl
theorem place_pure (l:List (List Int)) (w:List Int) (hs:SrtW l) (hl:l.length≤1073741824):PureC Tryz.prog 168 [(intss l),(ints w)] (iV ((plN l w:Nat):Int)):=by
 refine pW Tryz.func168 s168_ok fun hB=>?_
 unfold s168
 dsimp only
 have q0:=pl_le (w:=w) l
 refine W_r (R_mv rfl (R_e (W_r (R_mv rfl (R_len rfl (R_mv rfl (R_mv rfl ?_)))))))
 refine R_e (W_seq_blockg fun Q1 n1 x1 y1 z1=>?_)
 refine W_loop (fun mm T H=> ∃ (i:Nat) (j:Nat),mm=j - i∧T 0=(intss l)∧T 1=(ints w)∧T 5=(iV ((i:Nat):Int))∧T 6=(iV ((j:Nat):Int))∧(i≤plN l w)∧(plN l w≤j)∧(j≤l.length)) ?_ ?_
 ·
  refine ⟨_,0,l.length,rfl,rfl,rfl,(Eq.trans (@rfl V (iV (0:Int))) rfl),rfl,?_,?_,?_⟩
  · omega
  · omega
  · omega
 intro mm T H ⟨i,j,hmm,t0,t1,t5,t6,h1,h2,h3⟩ Q2 p12 p22 p32
 unfold b168_0
 refine W_seq_seq (W_r (R_mv t5 (R_mv t6 (R_lss rfl rfl (R_e ?_)))))
 refine W_seq_if rfl (fun c3=>?_) fun c3=>?_
 ·
  refine W_seq_skip (W_block fun Q4 n4 x4 y4 z4=>(W_r (R_mv t5 (R_mv t6 (R_addN rfl rfl (by omega) (R_quo2 (n:=(i+j)) rfl rfl (by omega) (R_mv rfl ?_)))))))
  refine R_e (W_r (R_mv t0 (R_mv rfl (R_idx (i:=((i+j) / 2)) (@rfl V (intss l)) (@rfl V (iV (((i+j) / 2:Nat):Int))) (by omega) rfl (R_load_pp rfl rfl (R_mv t1 (R_callk (rcompare_pure ((nth (l) ((i+j) / 2))) w) rfl ?_)))))))
  refine R_lss rfl rfl (R_e ?_)
  refine W_if rfl (fun c5=>?_) fun c5=>?_
  ·
   have d1:=(pl_iff hs (by omega)).1 c5
   refine W_t (R_mv rfl (R_addN rfl (@rfl V (iV ((1:Nat):Int))) (by omega) (R_mv rfl (R_e (n4 _ _ ?_)))))
   refine p12 _ _ _ ?_ ⟨(((i+j) / 2)+1),j,rfl,t0,t1,(Eq.trans (@rfl V (iV ((((i+j) / 2)+1:Nat):Int))) (by rfl)),t6,?_,?_,?_⟩
   · omega
   · omega
   · omega
   · omega
  have d1: ¬((i+j) / 2 < plN l w):=fun e=>c5 ((pl_iff hs (by omega)).2 e)
  refine W_t (R_mv rfl (R_mv rfl (R_e (n4 _ _ ?_))))
  refine p12 _ _ _ ?_ ⟨i,((i+j) / 2),rfl,t0,t1,t5,(Eq.trans (@rfl V (iV (((i+j) / 2:Nat):Int))) (by rfl)),?_,?_,?_⟩
  · omega
  · omega
  · omega
  · omega
 refine W_seq_exit (p32 _ _ _ (x1 _ _ (.done (W_r (R_mv t5 (R_mv rfl (R_e ?_)))))))
 refine W_ret ?_
 refine Ret_1 (@rfl V (iV ((i:Nat):Int))) (fz_int ?_)
 · have e:i=plN l w:=by omega
   rw [e]
theorem with_E (l:List (List Int)) (w:List Int) (v3 v44:Nat) (Hi:Heap) (h3:Hi 3=(bz v3 54 1 (List.map cL (l)))) (h544:(Hi 544).ver=v44) (hs:SrtW l) (hl:l.length≤100000) (hw:w.length≤1048576):CallOK Tryz.prog 120 [(V.ms 3 v3 0 (l.length)),(ints w)] Hi (V.ms 3 (v3+1) 0 ((wiW l w).length)) (upd (upd Hi 544 (⟨v44+2,false,false,0,0,[]⟩:Blk)) 3 (bz (v3+1) 54 1 (List.map cL (wiW l w)))):=by
 refine eW (k0:=500) Tryz.func120 s120_ok fun hB=>?_
 have q0:=pl_le (w:=w) l
 unfold s120
 dsimp only
 refine W_r (R_mv rfl (R_e (W_r (R_mv rfl (R_mv rfl (R_call (evcons (@rfl V (V.ms 3 v3 0 (l.length))) (evcons (@rfl V (ints w)) evnil)) (place_pure l w hs (by omega)) (mcons (fz_mst h3 (by simp) (take_map (l:=l) (by rfl)) (fun _=>by simp)) (mcons (fzv_canon 6 _ (by simp [-List.map_take,-List.map_drop,-List.map_append,-List.map_reverse])) rfl)) (by simp [-List.map_take,-List.map_drop,-List.map_append,-List.map_reverse]) (Or.inr rfl) (R_mv rfl ?_)))))))
 refine R_e (W_seq_seq (W_r (R_mv rfl (R_mv rfl (R_len_ms rfl h3 (by simp) (R_lss rfl rfl (R_mv rfl ?_)))))))
 refine Ops_seg 7 (fun T H=>T 0=(V.ms 3 v3 0 (l.length))∧T 1=(ints w)∧T 5=(iV ((plN l w:Nat):Int))∧T 21=(V.bool (decide ((((plN l w:Nat):Int) < ((l.length:Nat):Int))∧(((nth (l) (plN l w)))=w))))∧(∀ j,j∉[544,3]→H j=Hi j)∧H 3=(bz v3 54 1 (List.map cL (l)))∧(H 544).ver=v44∧True) ?_ ?_
 ·
  by_cases g1:((plN l w:Nat):Int) < ((l.length:Nat):Int)
  ·
   refine G_yes (edT g1 rfl) (R_mv rfl (G_yes (edT g1 rfl) (R_mv rfl (G_yes (edT g1 rfl) (R_idx_ms0 (i:=(plN l w)) (@rfl V (V.ms 3 v3 0 (l.length))) (@rfl V (iV ((plN l w:Nat):Int))) h3 (okB_map (by omega)) rfl (by omega) (G_yes (edT g1 rfl) (R_load_mp (v:=(ints ((nth (l) (plN l w))))) rfl h3 (ldB_map (by omega) (by rfl)) ?_)))))))
   refine G_yes (edT g1 rfl) (R_mv rfl (G_yes (edT g1 rfl) (R_callk (rsame1_pure ((nth (l) (plN l w))) w) rfl (R_pickT (edT g1 rfl) rfl ?_))))
   exact ⟨rfl,rfl,rfl,(dec_andT g1),(fun _ _=>rfl),h3,h544,trivial⟩
  ·
   refine G_n (edF g1 rfl) (G_n (edF g1 rfl) (G_n (edF g1 rfl) (G_n (edF g1 rfl) (G_n (edF g1 rfl) (G_n (edF g1 rfl) (R_pickF (edF g1 rfl) rfl ?_))))))
   exact ⟨rfl,rfl,rfl,(dec_andF g1),(fun _ _=>rfl),h3,h544,trivial⟩
 intro T H ⟨t0,t1,t5,t21,hF,h3,h544,_⟩
 refine R_e ?_
 refine W_seq_if t21 (fun c2=>?_) fun c2=>?_
 ·
  have d1:wiH l w:=by simpa [wiH] using c2
  have hwi:=wi_yes d1
  refine W_seq_seq (W_r (R_mv t0 (R_mv rfl (R_e (W_seq_ret (fork_ (R:=fun T H=>T 4=(V.ms 3 v3 0 (l.length))∧(∀ j,j∉[544,3]→H j=Hi j)∧H 3=(bz v3 54 1 (List.map cL (l)))∧(H 544).ver=v44∧True) ⟨(@rfl V (V.ms 3 v3 0 (l.length))),hF,h3,h544,trivial⟩ ?_))))))
  intro T H ⟨t4,hF,h3,h544,_⟩
  skip
  have fh:=FinX.fin (FinX.put (B:=(bz (v3+1) 54 1 (List.map cL (wiW l w)))) (FinX.putv (n:=v44) (B:=(⟨v44+2,false,false,0,0,[]⟩:Blk)) (FinX.start hF) h544 (by show _≤v44+2; omega) rfl) h3 (FinB.up (by omega) (by (rw [hwi]; done))))
  exact RetF_1 t4 fh (FinV.trans_eq (FinV.ms (n:=(v3+1)) fh (by simp [h3]) (by simp [h3]) rfl rfl) (by (rw [hwi]; done)))
 have d1: ¬wiH l w:=fun q=>by have q:=wi_ok.1 q; simp [q] at c2
 have hwi:=wi_no d1
 refine W_seq_skip ?_
 refine W_seq_g (fun T H=>T 0=(V.ms 3 (v3+1) 0 (l.length+1))∧T 1=(ints w)∧T 5=(iV ((plN l w:Nat):Int))∧(∀ j,j∉[544,3]→H j=Hi j)∧H 3=(bz (v3+1) 54 1 (List.map cL (l)++List.replicate (1) [V.nilsl]))∧(H 544).ver=v44∧True) ?_ ?_
 ·
  refine R_mv t0 (R_bslice rfl rfl (R_appendZ (l:=l) (f:=cL) (z:=[.nilsl]) (@rfl V (V.ms 3 v3 0 (l.length))) h3 (by rfl) (@rfl V (V.sl [[V.nilsl]])) rfl rfl (by omega) (by omega) (R_mv rfl ?_)))
  exact R_nil ⟨rfl,t1,t5,(upd_out hF (by decide)),rfl,h544,trivial⟩
 intro T H ⟨t0,t1,t5,hF,h3,h544,_⟩
 refine nil_cell (x:=[]) (f:=cL) (l:=l) h3 rfl (.done ?_)
 refine W_seq_seq (W_r (R_mv t0 (R_len_ms rfl (@rfl Blk (bz (v3+1) 54 1 (List.map cL (l++[[]])))) (by simp) (R_sub rfl rfl (by omega) (by omega) (R_mv rfl (R_e (W_seq_blockg fun Q3 n3 x3 y3 z3=>?_)))))))
 refine W_loop (fun mm T H=> ∃ (j:Nat),mm=j∧T 0=(V.ms 3 (v3+1) 0 (l.length+1))∧T 1=(ints w)∧T 5=(iV ((plN l w:Nat):Int))∧T 6=(iV ((j:Nat):Int))∧(∀ j,j∉[544,3]→H j=Hi j)∧H 3=(bz (v3+1) 54 1 (List.map cL (mvL l j)))∧(H 544).ver=v44∧(j≤l.length)∧(plN l w≤j)) ?_ ?_
 ·
  refine ⟨_,l.length,rfl,t0,t1,t5,(Eq.trans (@rfl V (iV (((l.length+1:Nat):Int) - (1:Int)))) (by (congr 1; omega))),(upd_out hF (by decide)),(Eq.trans (@rfl Blk (bz (v3+1) 54 1 (List.map cL (l++[[]])))) (by (rw [mv_top]; done))),((congrArg Blk.ver (upd_ne _ _ (by decide))).trans h544),?_,?_⟩
  · omega
  · omega
 intro mm T H ⟨j,hmm,t0,t1,t5,t6,hF,h3,h544,hj,hp⟩ Q4 p14 p24 p34
 unfold b120_0
 have q1:=mv_len hj
 refine W_seq_seq (W_r (R_mv t6 (R_mv t5 (R_gtr rfl rfl (R_e ?_)))))
 refine W_seq_if rfl (fun c5=>?_) fun c5=>?_
 ·
  refine W_seq_skip (W_seq_blockg fun Q6 n6 x6 y6 z6=>(W_t (R_mv t0 (R_mv t6 (R_mv t0 (R_mv t6 (R_sub rfl rfl (by omega) (by omega) ?_)))))))
  refine R_idxI_ms0 (i:=(((j:Nat):Int) - (1:Int))) (@rfl V (V.ms 3 (v3+1) 0 (l.length+1))) (@rfl V (iV (((j:Nat):Int) - (1:Int)))) h3 (okB_map (by omega)) rfl (by omega) (by omega) (R_load_mp (v:=(ints ((nth (mvL l j) (((((j:Nat):Int) - (1:Int))).toNat))))) rfl h3 (ldB_map (by omega) (by rfl)) (R_idx_ms0 (i:=j) (@rfl V (V.ms 3 (v3+1) 0 (l.length+1))) (@rfl V (iV ((j:Nat):Int))) h3 (okB_map (by omega)) rfl (by omega) (R_store (vs:=[(ints ((nth (mvL l j) (((((j:Nat):Int) - (1:Int))).toNat))))]) (B':=(bz (v3+1) 54 1 (List.map cL ((mvL l j).set j ((nth (mvL l j) (((((j:Nat):Int) - (1:Int))).toNat))))))) rfl rfl rfl h3 (stB_map (x:=((nth (mvL l j) (((((j:Nat):Int) - (1:Int))).toNat)))) (i:=j) (by omega) rfl rfl rfl rfl) (R_e (n6 _ _ (.done (W_t ?_)))))))
  refine R_mv t6 (R_sub rfl rfl (by omega) (by omega) (R_mv rfl (R_e ?_)))
  refine p14 _ _ _ ?_ ⟨(j - 1),rfl,t0,t1,t5,(Eq.trans (@rfl V (iV (((j:Nat):Int) - (1:Int)))) (by (congr 1; omega))),(upd_out hF (by decide)),(Eq.trans (@rfl Blk (bz (v3+1) 54 1 (List.map cL ((mvL l j).set j ((nth (mvL l j) (((((j:Nat):Int) - (1:Int))).toNat))))))) (by (rw [show (((j:Nat):Int) - (1:Int)).toNat=j - 1 by omega,mv_step (by omega) hj]; done))),h544,?_,?_⟩
  · omega
  · omega
  · omega
 refine W_seq_exit (p34 _ _ _ (x3 _ _ (.done ?_)))
 refine W_seq_g (fun T H=>T 0=(V.ms 3 (v3+1) 0 (l.length+1))∧(∀ j,j∉[544,3]→H j=Hi j)∧H 3=(bz (v3+1) 54 1 ((List.map cL (mvL l j)).set (plN l w) [(V.ms 544 (v44+2) 0 (0+(w).length))]))∧H 544=(bz (v44+2) 3 1 (List.map cI ([]++w)))∧True) ?_ ?_
 ·
  refine R_mv t0 (R_mv t5 (R_lazy (i:=544) (n:=v44) (by rfl) h544 (R_mv t1 (R_appendS (l:=([])) (m:=w) (f:=cI) (@rfl V (V.ms 544 (v44+1) 0 (0))) (show _=(bz (v44+1) 3 1 (List.map cI ([]))) from (@rfl Blk (bz (v44+1) 3 1 []))) (by rfl) (@rfl V (ints w)) (fun _=>rfl) (fun _=>rfl) (by omega) (by omega) (R_idx_ms0 (i:=(plN l w)) (@rfl V (V.ms 3 (v3+1) 0 (l.length+1))) (@rfl V (iV ((plN l w:Nat):Int))) h3 (okB_map (by omega)) rfl (by omega) (R_store (vs:=[(V.ms 544 (v44+2) 0 (0+(w).length))]) (B':=(bz (v3+1) 54 1 ((List.map cL (mvL l j)).set (plN l w) [(V.ms 544 (v44+2) 0 (0+(w).length))]))) rfl rfl rfl h3 (stB_setc (i:=(plN l w)) (by omega) rfl rfl rfl) ?_))))))
  exact R_nil ⟨t0,(upd_out (upd_out (upd_out hF (by decide)) (by decide)) (by decide)),rfl,rfl,trivial⟩
 intro T H ⟨t0,hF,h3,h544,_⟩
 refine frz_cellg (id:=544) (id2:=3) (rows:=(List.map cL (mvL l j))) (i:=(plN l w)) (off:=0) (r:=[(V.ms 544 (v44+2) 0 (0+(w).length))]) (m:=([]++w)) (g:=cI) (by decide) h544 h3 (by (simp; omega)) (by simp) rfl (.done ?_)
 refine fork_ (R:=fun T H=>T 0=(V.ms 3 (v3+1) 0 (l.length+1))∧(∀ j,j∉[544,3]→H j=Hi j)∧H 3=(bz (v3+1) 54 1 (List.map cL ((mvL l j).set (plN l w) ([]++w))))∧((H 544).ver=v44+2∧(H 544).live=false)∧True) ⟨(fzT_q t0 (fzq_other (by decide))),(upd_out (kill_out hF (by decide)) (by decide)),(Eq.trans (upd_same _ _ _) (by (rw [List.map_set]; rfl))),⟨(congrArg Blk.ver (upd_ne _ _ (by decide))).trans (kill_self (congrArg Blk.ver h544)).1,(congrArg Blk.live (upd_ne _ _ (by decide))).trans (kill_self (congrArg Blk.ver h544)).2⟩,trivial⟩ ?_
 intro T H ⟨t0,hF,h3,h544,_⟩
 refine W_r (R_mv t0 (R_mv rfl (R_e (W_ret (fork_ (R:=fun T H=>T 4=(V.ms 3 (v3+1) 0 (l.length+1))∧(∀ j,j∉[544,3]→H j=Hi j)∧H 3=(bz (v3+1) 54 1 (List.map cL ((mvL l j).set (plN l w) ([]++w))))∧((H 544).ver=v44+2∧(H 544).live=false)∧True) ⟨(@rfl V (V.ms 3 (v3+1) 0 (l.length+1))),hF,h3,h544,trivial⟩ ?_)))))
 intro T H ⟨t4,hF,h3,h544,_⟩
 skip
 have fh:=FinX.fin (FinX.put (B:=(bz (v3+1) 54 1 (List.map cL (wiW l w)))) (FinX.putv (n:=(v44+2)) (B:=(⟨v44+2,false,false,0,0,[]⟩:Blk)) (FinX.start hF) (h544).1 (by show _≤v44+2; omega) rfl) h3 (FinB.eq (by (rw [show j=plN l w by omega,mv_end q0,hwi]; rfl))))
 exact RetF_1 t4 fh (FinV.trans_eq (FinV.same fh _) (by (rw [hwi]; simp; omega)))
theorem rsorted_pure (l:List (List Int)) (hl:l.length≤10000) (hw: ∀ w∈l,w.length≤1048576):PureC Tryz.prog 63 [(intss l)] (intss (sdW l)):=by
 refine pW Tryz.func63 s63_ok fun hB=>?_
 unfold s63
 dsimp only
 refine W_r (R_mv rfl (R_e (W_r (R_lazy (i:=3) (n:=0) rfl (congrArg Blk.ver rfl) (R_e (W_seq_seq (W_r ?_)))))))
 refine R_mv rfl (R_e (W_seq_blockg fun Q1 n1 x1 y1 z1=>?_))
 refine W_loop (fun mm T H=> ∃ (k:Nat) (v:Nat) (v544:Nat),mm=l.length - k∧T 0=(intss l)∧T 3=(V.ms 3 v 0 ((sdW (l.take k)).length))∧T 4=(iV ((k:Nat):Int))∧H 3=(bz v 54 1 (List.map cL (sdW (l.take k))))∧(H 544).ver=v544∧(k≤l.length)) ?_ ?_
 ·
  refine ⟨_,0,1,0,rfl,rfl,(Eq.trans (@rfl V (V.ms 3 1 0 (0))) (by rfl)),(Eq.trans (@rfl V (iV (0:Int))) rfl),(Eq.trans (@rfl Blk (bz 1 54 1 [])) (by rfl)),(congrArg Blk.ver rfl),?_⟩
  · omega
 intro mm T H ⟨k,v,v544,hmm,t0,t3,t4,h3,h544,hk⟩ Q2 p12 p22 p32
 unfold b63_0
 have q1:=sdW_len (l.take k)
 have q2:(l.take k).length≤k:=by simp; omega
 refine W_seq_seq (W_r (R_mv t4 (R_mv t0 (R_len rfl (R_lss rfl rfl (R_e ?_))))))
 refine W_seq_if rfl (fun c3=>?_) fun c3=>?_
 ·
  refine W_seq_skip (W_seq_blockg fun Q4 n4 x4 y4 z4=>(W_t (R_mv t3 (R_mv t0 (R_mv t4 (R_idx (i:=k) (@rfl V (intss l)) (@rfl V (iV ((k:Nat):Int))) (by omega) rfl (R_load_pp rfl rfl ?_)))))))
  refine R_callE (evcons rfl (evcons rfl evnil)) (with_E (sdW (l.take k)) ((nth (l) (k))) v v544 _ h3 h544 (sdW_srt _) (by omega) (hw _ (nth_mem (by omega)))) (R_mv rfl (R_e (n4 _ _ (.done (W_t (R_mv t4 (R_addN rfl (@rfl V (iV ((1:Nat):Int))) (by omega) ?_)))))))
  refine R_mv rfl (R_e ?_)
  refine p12 _ _ _ ?_ ⟨(k+1),(v+1),(v544+2),rfl,t0,(Eq.trans (@rfl V (V.ms 3 (v+1) 0 ((wiW (sdW (l.take k)) ((nth (l) (k)))).length))) (by (rw [sdW_take (by omega)]; done))),(Eq.trans (@rfl V (iV ((k+1:Nat):Int))) (by rfl)),(Eq.trans (@rfl Blk (bz (v+1) 54 1 (List.map cL (wiW (sdW (l.take k)) ((nth (l) (k))))))) (by (rw [sdW_take (by omega)]; done))),(congrArg Blk.ver rfl),?_⟩
  · omega
  · omega
 refine W_seq_exit (p32 _ _ _ (x1 _ _ (.done (W_r (R_mv t3 (R_mv rfl (R_e ?_)))))))
 refine W_ret ?_
 refine Ret_1 (@rfl V (V.ms 3 v 0 ((sdW (l.take k)).length))) (fz_ms h3 (by simp) (l:=(sdW (l.take k))) rfl (by rfl) (fun _=>by simp) ?_)
 · rw [show k=l.length by omega,List.take_length]
def r130_2:List SO:=[
 qF 11 2 3,
 ql 12 11,
 qN 13 12,
 qC 14 .gtr 13 0,
 qM 15 14,
 ⟨some (15,false),some 16,.fld 3 (.t 3)⟩,
 ⟨some (15,false),some 17,.load false 1 (.t 16)⟩,
 ⟨some (15,false),some 18,.len (.t 17)⟩,
 ⟨some (15,false),some 19,.bin .gtr (.t 18) (.c (.int .i64 0))⟩,
 sO 20 (.pick (.t 15) (.c (.bool true)) (.t 19)),
 qM 21 20,
 ⟨some (21,false),some 22,.fld 4 (.t 3)⟩,
 ⟨some (21,false),some 23,.load false 1 (.t 22)⟩,
 ⟨some (21,false),some 24,.len (.t 23)⟩,
 ⟨some (21,false),some 25,.bin .gtr (.t 24) (.c (.int .i64 0))⟩,
 sO 26 (.pick (.t 21) (.c (.bool true)) (.t 25))]
def r130_10:List SO:=[
 qF 40 3 3,
 ql 41 40,
 qN 42 41,
 qF 43 4 3,
 ql 44 43,
 qN 45 44,
 qP 46 .neq 42 45]
def r130_15:List SO:=[
 qF 54 3 3,
 ql 55 54,
 qM 56 6,
 qA 57 1 55 56,
 ql 58 57,
 qF 59 2 3,
 ql 60 59,
 sO 61 (.call false 114 [.t 58,.t 60]),
 qM 7 61]
def r130_21:List SO:=[
 qF 70 3 3,
 ql 71 70,
 qM 72 8,
 qA 73 1 71 72,
 ql 74 73,
 qF 75 3 3,
 ql 76 75,
 qM 77 6,
 qA 78 1 76 77,
 ql 79 78,
 sO 80 (.call false 144 [.t 74,.t 79]),
 qC 81 .geq 80 0]
def b130_1:SC:=.seq (.seq (.reg [qM 65 8,qM 66 6,qP 67 .lss 65 66]) (.cond (.t 67) (.skip) (.exit 2))) (.seq (.block 3 (.seq (.reg r130_21) (.cond (.t 81) (.seq (.reg [qI 4 10]) (.ret)) (.skip)))) (.reg [qM 68 8,qC 69 .add 68 1,qM 8 69]))
def r130_23:List SO:=[
 qF 82 4 3,
 ql 83 82,
 qM 84 6,
 qA 85 1 83 84,
 ql 86 85,
 qC 87 .lss 86 0,
 qM 88 87,
 ⟨some (88,false),some 89,.fld 4 (.t 3)⟩,
 ⟨some (88,false),some 90,.load false 1 (.t 89)⟩,
 ⟨some (88,false),some 91,.mv (.t 6)⟩,
 ⟨some (88,false),some 92,.idx 1 (.t 90) (.t 91)⟩,
 ⟨some (88,false),some 93,.load false 1 (.t 92)⟩,
 ⟨some (88,false),some 94,.fld 0 (.t 2)⟩,
 ⟨some (88,false),some 95,.load false 1 (.t 94)⟩,
 ⟨some (88,false),some 96,.len (.t 95)⟩,
 ⟨some (88,false),some 97,.bin .geq (.t 93) (.t 96)⟩,
 sO 98 (.pick (.t 88) (.c (.bool true)) (.t 97))]
def b130_0:SC:=.seq (.seq (.reg [qM 47 6,qF 48 4 3,ql 49 48,qN 50 49,qP 51 .lss 47 50]) (.cond (.t 51) (.skip) (.exit 0))) (.seq (.block 1 (.seq (.seq (.reg r130_15) (.seq (.reg [qM 62 7,qC 63 .neq 62 0]) (.cond (.t 63) (.seq (.reg [qM 64 7,qM 4 64]) (.ret)) (.skip)))) (.seq (.seq (.reg [qI 8 0]) (.block 2 (.loop b130_1))) (.seq (.reg r130_23) (.cond (.t 98) (.seq (.reg [qI 4 2]) (.ret)) (.skip)))))) (.reg [qM 52 6,qC 53 .add 52 1,qM 6 53]))
def s130:SF:=⟨99,[.tmp 4],.seq (.reg [sO 2 (.box 24 1 (.t 0)),sO 3 (.box 99 5 (.t 1)),qI 4 0]) (.seq (.seq (.reg [qF 9 0 3,ql 10 9]) (.cond (.t 10) (.seq (.seq (.reg r130_2) (.cond (.t 26) (.seq (.reg [qI 4 1]) (.ret)) (.skip))) (.seq (.reg [qF 27 1 3,ql 28 27,sO 29 (.call false 80 [.t 28,.c (.int .i64 64)]),qM 4 29]) (.ret))) (.skip))) (.seq (.seq (.reg [qF 30 1 3,ql 31 30,qN 32 31,qC 33 .gtr 32 0]) (.cond (.t 33) (.seq (.reg [qI 4 1]) (.ret)) (.skip))) (.seq (.seq (.reg [qF 34 2 3,ql 35 34,sO 36 (.call false 129 [.t 35]),qM 5 36]) (.seq (.reg [qM 37 5,qC 38 .neq 37 0]) (.cond (.t 38) (.seq (.reg [qM 39 5,qM 4 39]) (.ret)) (.skip)))) (.seq (.seq (.reg r130_10) (.cond (.t 46) (.seq (.reg [qI 4 1]) (.ret)) (.skip))) (.seq (.seq (.reg [qI 6 0]) (.block 0 (.loop b130_0))) (.seq (.reg [qI 4 0]) (.ret)))))))⟩
theorem s130_ok:slimF Tryz.prog ⟨[107,108,109,116,120,126,127,167,169,170,171,172,194,196,198,209,222,226],[]⟩ Tryz.f130=some s130:=by kernel_rfl
def r114_6:List SO:=[
 qM 17 0,
 qM 18 5,
 qA 19 1 17 18,
 ql 20 19,
 qC 21 .lss 20 0,
 qM 22 21,
 ⟨some (22,false),some 23,.mv (.t 0)⟩,
 ⟨some (22,false),some 24,.mv (.t 5)⟩,
 ⟨some (22,false),some 25,.idx 1 (.t 23) (.t 24)⟩,
 ⟨some (22,false),some 26,.load false 1 (.t 25)⟩,
 ⟨some (22,false),some 27,.bin .gtr (.t 26) (.c (.int .i64 1048576))⟩,
 sO 28 (.pick (.t 22) (.c (.bool true)) (.t 27))]
def b114_0:SC:=.seq (.seq (.reg [qM 11 5,qM 12 0,qN 13 12,qP 14 .lss 11 13]) (.cond (.t 14) (.skip) (.exit 0))) (.seq (.block 1 (.seq (.reg r114_6) (.cond (.t 28) (.seq (.reg [qI 4 2]) (.ret)) (.skip)))) (.reg [qM 15 5,qC 16 .add 15 1,qM 5 16]))
def s114:SF:=⟨29,[.tmp 4],.seq (.reg [qI 4 0]) (.seq (.seq (.reg [qM 6 0,qN 7 6,qM 8 1,qN 9 8,qP 10 .neq 7 9]) (.cond (.t 10) (.seq (.reg [qI 4 1]) (.ret)) (.skip))) (.seq (.seq (.reg [qI 5 0]) (.block 0 (.loop b114_0))) (.seq (.reg [qI 4 0]) (.ret))))⟩
theorem s114_ok:slimF Tryz.prog ⟨[107,108,109,116,120,126,127,167,169,170,171,172,194,196,198,209,222,226],[]⟩ Tryz.f114=some s114:=by kernel_rfl
theorem outputs_pure (outs suffix:List Int):PureC Tryz.prog 114 [(ints outs),(ints suffix)] (iV (vlE outs suffix)):=by
 refine pW Tryz.func114 s114_ok fun hB=>?_
 unfold s114
 dsimp only
 refine W_r (R_mv rfl (R_e (W_seq_seq (W_r (R_mv rfl (R_len rfl (R_mv rfl ?_)))))))
 refine R_len rfl (R_neq rfl rfl (R_e ?_))
 refine W_seq_if rfl (fun c1=>?_) fun c1=>?_
 ·
  refine W_seq_seq (W_r (R_mv rfl (R_e (W_seq_ret ?_))))
  refine Ret_1 (@rfl V (iV (1:Int))) (fz_int ?_)
  · rw [vlE,if_pos (by omega)]
 refine W_seq_skip (W_seq_seq (W_r (R_mv rfl (R_e (W_seq_blockg fun Q2 n2 x2 y2 z2=>?_)))))
 refine W_loop (fun mm T H=> ∃ (k:Nat),mm=outs.length - k∧T 0=(ints outs)∧T 5=(iV ((k:Nat):Int))∧(k≤outs.length)∧(outs.length=suffix.length)∧(fe (ouE outs) 0 outs.length=fe (ouE outs) k (outs.length - k))) ?_ ?_
 ·
  refine ⟨_,0,rfl,rfl,(Eq.trans (@rfl V (iV (0:Int))) rfl),?_,?_,?_⟩
  · omega
  · omega
  · rfl
 intro mm T H ⟨k,hmm,t0,t5,hk,hl,hc⟩ Q3 p13 p23 p33
 unfold b114_0
 refine W_seq_seq (W_r (R_mv t5 (R_mv t0 (R_len rfl (R_lss rfl rfl (R_e ?_))))))
 refine W_seq_if rfl (fun c4=>?_) fun c4=>?_
 ·
  refine W_seq_skip (W_seq_blockg fun Q5 n5 x5 y5 z5=>(W_r (R_mv t0 (R_mv t5 (R_idx (i:=k) (@rfl V (ints outs)) (@rfl V (iV ((k:Nat):Int))) (by omega) rfl (R_load_pp rfl rfl (R_lss rfl rfl ?_)))))))
  refine R_mv rfl ?_
  refine Ops_seg 6 (fun T H=>T 0=(ints outs)∧T 5=(iV ((k:Nat):Int))∧T 28=(V.bool (decide ((((nth (outs) (k))) < (0:Int))∨((1048576:Int) < ((nth (outs) (k)))))))∧True) ?_ ?_
  ·
   by_cases g6:((nth (outs) (k))) < (0:Int)
   ·
    refine G_n (edT g6 rfl) (G_n (edT g6 rfl) (G_n (edT g6 rfl) (G_n (edT g6 rfl) (G_n (edT g6 rfl) (R_pickT (edT g6 rfl) rfl ?_)))))
    exact ⟨t0,t5,(dec_orT g6),trivial⟩
   ·
    refine G_yes (edF g6 rfl) (R_mv t0 (G_yes (edF g6 rfl) (R_mv t5 (G_yes (edF g6 rfl) (R_idx (i:=k) (@rfl V (ints outs)) (@rfl V (iV ((k:Nat):Int))) (by omega) rfl (G_yes (edF g6 rfl) (R_load_pp rfl rfl ?_)))))))
    refine G_yes (edF g6 rfl) (R_gtr rfl rfl (R_pickF (edF g6 rfl) rfl ?_))
    exact ⟨t0,t5,(dec_orF g6),trivial⟩
  intro T H ⟨t0,t5,t28,_⟩
  refine R_e ?_
  refine W_if t28 (fun c7=>?_) fun c7=>?_
  ·
   refine W_r (R_mv rfl (R_e (W_ret (y5 _ _ (p23 _ _ (y2 _ _ ?_))))))
   refine Ret_1 (@rfl V (iV (2:Int))) (fz_int ?_)
   · rw [vlE,if_neg (by omega)]; rw [hc,fe_hit (by unfold ouE; split <;> omega) (by omega)]; unfold ouE; split <;> omega
  refine W_skip (n5 _ _ (.done (W_t (R_mv t5 (R_addN rfl (@rfl V (iV ((1:Nat):Int))) (by omega) (R_mv rfl (R_e ?_)))))))
  refine p13 _ _ _ ?_ ⟨(k+1),rfl,t0,(Eq.trans (@rfl V (iV ((k+1:Nat):Int))) (by rfl)),?_,?_,?_⟩
  · omega
  · omega
  · omega
  · rw [hc,fe_skip (by unfold ouE; split <;> omega) (by omega)]
 refine W_seq_exit (p33 _ _ _ (x2 _ _ (.done (W_r (R_mv rfl (R_e (W_ret ?_)))))))
 refine Ret_1 (@rfl V (iV (0:Int))) (fz_int ?_)
 · rw [vlE,if_neg (by omega)]; rw [hc,fe_end (by omega)]
def s129:SF:=⟨8,[.tmp 2],.seq (.reg [qI 2 0]) (.seq (.seq (.reg [qM 3 0,qN 4 3,qC 5 .eql 4 0]) (.cond (.t 5) (.seq (.reg [qI 2 19]) (.ret)) (.skip))) (.seq (.reg [qM 6 0,sO 7 (.call false 80 [.t 6,.c (.int .i64 64)]),qM 2 7]) (.ret)))⟩
theorem s129_ok:slimF Tryz.prog ⟨[107,108,109,116,120,126,127,167,169,170,171,172,194,196,198,209,222,226],[]⟩ Tryz.f129=some s129:=by kernel_rfl
theorem ending_pure (s:List Int):PureC Tryz.prog 129 [(ints s)] (iV (if s.length=0 then 19 else wchk s 64)):=by
 refine pW Tryz.func129 s129_ok fun hB=>?_
 unfold s129
 dsimp only
 refine W_r (R_mv rfl (R_e (W_seq_seq (W_r (R_mv rfl (R_len rfl (R_eql rfl rfl ?_)))))))
 refine R_e ?_
 refine W_seq_if rfl (fun c1=>?_) fun c1=>?_
 ·
  refine W_seq_seq (W_r (R_mv rfl (R_e (W_seq_ret ?_))))
  refine Ret_1 (@rfl V (iV (19:Int))) (fz_int ?_)
  · rw [if_pos (by omega)]
 refine W_seq_skip (W_r (R_mv rfl (R_callk (rcheck_pure s ((64:Int))) rfl (R_mv rfl (R_e (W_ret ?_))))))
 refine Ret_1 (@rfl V (iV (wchk s ((64:Int))))) (fz_int ?_)
 · rw [if_neg (by omega)]
theorem rnode_pure (t:Dt) (x:Nd) (ho:x.ou.length≤1048576) (hk0:x.kd.length≤1048576):PureC Tryz.prog 130 [(V.agg [(V.sl (List.map cN (t.nd)))]),(V.agg (cN x))] (iV (ndE x t.nd.length)):=by
 refine pW Tryz.func130 s130_ok fun hB=>?_
 unfold s130
 dsimp only
 refine W_r (R_box (i:=2) (n:=0) (m:=1) (cs:=[(V.sl (List.map cN (t.nd)))]) rfl (congrArg Blk.ver rfl) rfl rfl rfl (R_box (i:=3) (n:=0) (m:=5) (cs:=[(V.bool x.lf),(ints x.ac),(ints x.sf),(intss x.ou),(ints x.kd)]) rfl (congrArg Blk.ver rfl) rfl rfl rfl (R_mv rfl (R_e (W_seq_seq (W_r (R_fk rfl rfl ?_)))))))
 refine R_lk rfl rfl rfl rfl (R_e ?_)
 refine W_seq_ifb rfl (fun c1=>?_) (fun c1=>?_)
 ·
  have d0:x.lf=true:=c1
  refine W_seq_seq (W_seq_seq (W_r (R_fk rfl rfl (R_lk rfl rfl rfl rfl (R_len rfl (R_gtr rfl rfl (R_mv rfl ?_)))))))
  refine Ops_seg 5 (fun T H=>T 3=(V.mp 3 1 0 0)∧T 20=(V.bool (decide (((0:Int) < ((x.sf.length:Nat):Int))∨((0:Int) < ((x.ou.length:Nat):Int)))))∧H 2=(bk 1 24 1 [[(V.sl (List.map cN (t.nd)))]])∧H 3=(bk 1 99 5 [(cN x)])∧True) ?_ ?_
  ·
   by_cases g2:(0:Int) < ((x.sf.length:Nat):Int)
   ·
    refine G_n (edT g2 rfl) (G_n (edT g2 rfl) (G_n (edT g2 rfl) (G_n (edT g2 rfl) (R_pickT (edT g2 rfl) rfl ?_))))
    exact ⟨rfl,(dec_orT g2),rfl,rfl,trivial⟩
   ·
    refine G_yes (edF g2 rfl) (R_fk rfl rfl (G_yes (edF g2 rfl) (R_lk rfl rfl rfl rfl (G_yes (edF g2 rfl) (R_len rfl (G_yes (edF g2 rfl) (R_gtr rfl rfl ?_)))))))
    refine R_pickF (edF g2 rfl) rfl ?_
    exact ⟨rfl,(dec_orF g2),rfl,rfl,trivial⟩
  intro T H ⟨t3,t20,h2,h3,_⟩
  refine R_mv t20 ?_
  refine Ops_seg 5 (fun T H=>T 3=(V.mp 3 1 0 0)∧T 26=(V.bool (decide ((((0:Int) < ((x.sf.length:Nat):Int))∨((0:Int) < ((x.ou.length:Nat):Int)))∨((0:Int) < ((x.kd.length:Nat):Int)))))∧H 2=(bk 1 24 1 [[(V.sl (List.map cN (t.nd)))]])∧H 3=(bk 1 99 5 [(cN x)])∧True) ?_ ?_
  ·
   by_cases g3:((0:Int) < ((x.sf.length:Nat):Int))∨((0:Int) < ((x.ou.length:Nat):Int))
   ·
    refine G_n (edT g3 rfl) (G_n (edT g3 rfl) (G_n (edT g3 rfl) (G_n (edT g3 rfl) (R_pickT (edT g3 rfl) rfl ?_))))
    exact ⟨t3,(dec_orT g3),h2,h3,trivial⟩
   ·
    refine G_yes (edF g3 rfl) (R_fk t3 h3 (G_yes (edF g3 rfl) (R_lk rfl h3 rfl rfl (G_yes (edF g3 rfl) (R_len rfl (G_yes (edF g3 rfl) (R_gtr rfl rfl ?_)))))))
    refine R_pickF (edF g3 rfl) rfl ?_
    exact ⟨t3,(dec_orF g3),h2,h3,trivial⟩
  intro T H ⟨t3,t26,h2,h3,_⟩
  refine R_e ?_
  refine W_seq_if t26 (fun c4=>?_) fun c4=>?_
  ·
   refine W_seq_seq (W_r (R_mv rfl (R_e (W_seq_ret ?_))))
   refine Ret_1 (@rfl V (iV (1:Int))) (fz_int ?_)
   · rw [ndE,if_pos d0,lfE,if_pos (by omega)]
  refine W_seq_skip (W_seq_seq (W_r (R_fk t3 h3 (R_lk rfl h3 rfl rfl (R_callk (rcheck_pure x.ac ((64:Int))) rfl (R_mv rfl (R_e ?_)))))))
  refine W_seq_ret ?_
  refine Ret_1 (@rfl V (iV (wchk x.ac ((64:Int))))) (fz_int ?_)
  · rw [ndE,if_pos d0,lfE,if_neg (by omega)]
 have d0:x.lf=false:=by simpa using c1
 refine W_seq_skip (W_seq_seq (W_r (R_fk rfl rfl (R_lk rfl rfl rfl rfl (R_len rfl (R_gtr rfl rfl (R_e ?_)))))))
 refine W_seq_if rfl (fun c5=>?_) fun c5=>?_
 ·
  refine W_seq_seq (W_r (R_mv rfl (R_e (W_seq_ret ?_))))
  refine Ret_1 (@rfl V (iV (1:Int))) (fz_int ?_)
  · rw [ndE,if_neg (by simp [d0]),inE2,if_pos (by omega)]
 refine W_seq_skip (W_seq_seq (W_r (R_fk rfl rfl (R_lk rfl rfl rfl rfl (R_callk (ending_pure x.sf) rfl (R_mv rfl (R_e ?_)))))))
 refine W_seq_seq (W_r (R_mv rfl (R_neq rfl rfl (R_e ?_))))
 refine W_seq_if rfl (fun c6=>?_) fun c6=>?_
 ·
  have d4:x.sf.length=0∨wchk x.sf 64≠0:=by by_cases e:x.sf.length=0; exact .inl e; (rw [if_neg e] at c6; exact .inr c6)
  refine W_seq_seq (W_r (R_mv rfl (R_mv rfl (R_e (W_seq_ret ?_)))))
  refine Ret_1 (@rfl V (iV (if x.sf.length=0 then 19 else wchk x.sf 64))) (fz_int ?_)
  · rcases d4 with e|e
    · rw [if_pos e]; rw [ndE,if_neg (by simp [d0]),inE2,if_neg (by omega),if_pos e]
    · by_cases e2:x.sf.length=0
      · rw [if_pos e2]; rw [ndE,if_neg (by simp [d0]),inE2,if_neg (by omega),if_pos e2]
      · rw [if_neg e2]; rw [ndE,if_neg (by simp [d0]),inE2,if_neg (by omega),if_neg e2,if_pos e]
 have d4:x.sf.length≠0∧wchk x.sf 64=0:=by by_cases e:x.sf.length=0; (rw [if_pos e] at c6; exact (c6 (by decide)).elim); (rw [if_neg e] at c6; exact ⟨e,by omega⟩)
 refine W_seq_skip (W_seq_seq (W_r (R_fk rfl rfl (R_lk rfl rfl rfl rfl (R_len rfl (R_fk rfl rfl (R_lk rfl rfl rfl rfl ?_)))))))
 refine R_len rfl (R_neq rfl rfl (R_e ?_))
 refine W_seq_if rfl (fun c7=>?_) fun c7=>?_
 ·
  refine W_seq_seq (W_r (R_mv rfl (R_e (W_seq_ret ?_))))
  refine Ret_1 (@rfl V (iV (1:Int))) (fz_int ?_)
  · rw [ndE,if_neg (by simp [d0]),inE2,if_neg (by omega),if_neg (by omega),if_neg (by omega),if_pos (by omega)]
 refine W_seq_skip (W_seq_seq (W_r (R_mv rfl (R_e (W_seq_blockg fun Q8 n8 x8 y8 z8=>?_)))))
 refine W_loop (fun mm T H=> ∃ (k:Nat),mm=x.kd.length - k∧T 2=(V.mp 2 1 0 0)∧T 3=(V.mp 3 1 0 0)∧T 6=(iV ((k:Nat):Int))∧H 2=(bk 1 24 1 [[(V.sl (List.map cN (t.nd)))]])∧H 3=(bk 1 99 5 [(cN x)])∧(k≤x.kd.length)∧(x.ou.length=x.kd.length)∧(x.ac.length=0)∧(x.sf.length≠0)∧(wchk x.sf 64=0)∧(∀ j,j < k→chE x t.nd.length j=0)∧(fe (chE x t.nd.length) 0 x.ou.length=fe (chE x t.nd.length) k (x.ou.length - k))) ?_ ?_
 ·
  refine ⟨_,0,rfl,rfl,rfl,(Eq.trans (@rfl V (iV (0:Int))) rfl),rfl,rfl,?_,?_,?_,?_,?_,?_,?_⟩
  · omega
  · omega
  · omega
  · omega
  · omega
  · intro j hj; omega
  · rfl
 intro mm T H ⟨k,hmm,t2,t3,t6,h2,h3,hk,hl,ga,gs,gw,hp,hc⟩ Q9 p19 p29 p39
 unfold b130_0
 refine W_seq_seq (W_r (R_mv t6 (R_fk t3 h3 (R_lk rfl h3 rfl rfl (R_len rfl (R_lss rfl rfl (R_e ?_)))))))
 refine W_seq_if rfl (fun c10=>?_) fun c10=>?_
 ·
  refine W_seq_skip (W_seq_blockg fun Q11 n11 x11 y11 z11=>(W_seq_seq (W_r (R_fk t3 h3 (R_lk rfl h3 rfl rfl (R_mv t6 (R_idx (i:=k) (@rfl V (intss x.ou)) (@rfl V (iV ((k:Nat):Int))) (by omega) rfl ?_)))))))
  refine R_load_pp rfl rfl (R_fk t3 h3 (R_lk rfl h3 rfl rfl (R_callk (outputs_pure ((nth (x.ou) (k))) x.sf) rfl (R_mv rfl (R_e (W_seq_seq (W_r ?_)))))))
  refine R_mv rfl (R_neq rfl rfl (R_e ?_))
  refine W_seq_if rfl (fun c12=>?_) fun c12=>?_
  ·
   refine W_seq_seq (W_r (R_mv rfl (R_mv rfl (R_e (W_seq_ret (y11 _ _ (p29 _ _ ?_)))))))
   refine y8 _ _ ?_
   refine Ret_1 (@rfl V (iV (vlE ((nth (x.ou) (k))) x.sf))) (fz_int ?_)
   · rw [ndE,if_neg (by simp [d0]),inE2,if_neg (by omega),if_neg (by omega),if_neg (by omega),if_neg (by omega),hc,fe_hit (by rw [chE,if_pos (by omega)]; omega) (by omega),chE,if_pos (by omega)]
  refine W_seq_skip (W_seq_seq (W_r (R_mv rfl (R_e (W_seq_blockg fun Q13 n13 x13 y13 z13=>?_)))))
  refine W_loop (fun mm T H=> ∃ (j:Nat),mm=k - j∧T 2=(V.mp 2 1 0 0)∧T 3=(V.mp 3 1 0 0)∧T 6=(iV ((k:Nat):Int))∧T 8=(iV ((j:Nat):Int))∧H 2=(bk 1 24 1 [[(V.sl (List.map cN (t.nd)))]])∧H 3=(bk 1 99 5 [(cN x)])∧(j≤k)∧(∀ i,i < j→lexI (nth x.ou i) (nth x.ou k) < 0)) ?_ ?_
  ·
   refine ⟨_,0,rfl,t2,t3,t6,(Eq.trans (@rfl V (iV (0:Int))) rfl),h2,h3,?_,?_⟩
   · omega
   · intro i hi; omega
  intro mm T H ⟨j,hmm,t2,t3,t6,t8,h2,h3,hj,hq⟩ Q14 p114 p214 p314
  unfold b130_1
  refine W_seq_seq (W_r (R_mv t8 (R_mv t6 (R_lss rfl rfl (R_e ?_)))))
  refine W_seq_if rfl (fun c15=>?_) fun c15=>?_
  ·
   refine W_seq_skip (W_seq_blockg fun Q16 n16 x16 y16 z16=>(W_r (R_fk t3 h3 (R_lk rfl h3 rfl rfl (R_mv t8 (R_idx (i:=j) (@rfl V (intss x.ou)) (@rfl V (iV ((j:Nat):Int))) (by omega) rfl (R_load_pp rfl rfl ?_)))))))
   refine R_fk t3 h3 (R_lk rfl h3 rfl rfl (R_mv t6 (R_idx (i:=k) (@rfl V (intss x.ou)) (@rfl V (iV ((k:Nat):Int))) (by omega) rfl (R_load_pp rfl rfl (R_callk (rlex_pure ((nth (x.ou) (j))) ((nth (x.ou) (k)))) rfl (R_geq rfl rfl (R_e ?_)))))))
   refine W_if rfl (fun c17=>?_) fun c17=>?_
   ·
    have d5:=ch_err (x:=x) (n:=t.nd.length) (k:=k) (j:=j) (by omega) (by omega) (by omega) hp
    refine W_r (R_mv rfl (R_e (W_ret (y16 _ _ (p214 _ _ (y13 _ _ (y11 _ _ ?_)))))))
    refine p29 _ _ (y8 _ _ ?_)
    refine Ret_1 (@rfl V (iV (10:Int))) (fz_int ?_)
    · rw [ndE,if_neg (by simp [d0]),inE2,if_neg (by omega),if_neg (by omega),if_neg (by omega),if_neg (by omega),hc,fe_hit (by rw [d5]; decide) (by omega),d5]
   refine W_skip (n16 _ _ (.done (W_t (R_mv t8 (R_addN rfl (@rfl V (iV ((1:Nat):Int))) (by omega) (R_mv rfl (R_e ?_)))))))
   refine p114 _ _ _ ?_ ⟨(j+1),rfl,t2,t3,t6,(Eq.trans (@rfl V (iV ((j+1:Nat):Int))) (by rfl)),h2,h3,?_,?_⟩
   · omega
   · omega
   · intro i hi
     by_cases e:i=j
     · subst e; omega
     · exact hq i (by omega)
  refine W_seq_exit (p314 _ _ _ (x13 _ _ (.done (W_r (R_fk t3 h3 (R_lk rfl h3 rfl rfl (R_mv t6 ?_)))))))
  refine R_idx (i:=k) (@rfl V (ints x.kd)) (@rfl V (iV ((k:Nat):Int))) (by omega) rfl (R_load_pp rfl rfl (R_lss rfl rfl (R_mv rfl ?_)))
  refine Ops_seg 10 (fun T H=>T 2=(V.mp 2 1 0 0)∧T 3=(V.mp 3 1 0 0)∧T 6=(iV ((k:Nat):Int))∧T 98=(V.bool (decide ((((nth (x.kd) (k))) < (0:Int))∨(((t.nd.length:Nat):Int)≤((nth (x.kd) (k)))))))∧H 2=(bk 1 24 1 [[(V.sl (List.map cN (t.nd)))]])∧H 3=(bk 1 99 5 [(cN x)])∧True) ?_ ?_
  ·
   by_cases g18:((nth (x.kd) (k))) < (0:Int)
   ·
    refine G_n (edT g18 rfl) (G_n (edT g18 rfl) (G_n (edT g18 rfl) (G_n (edT g18 rfl) (G_n (edT g18 rfl) (G_n (edT g18 rfl) (G_n (edT g18 rfl) (G_n (edT g18 rfl) ?_)))))))
    refine G_n (edT g18 rfl) (R_pickT (edT g18 rfl) rfl ?_)
    exact ⟨t2,t3,t6,(dec_orT g18),h2,h3,trivial⟩
   ·
    refine G_yes (edF g18 rfl) (R_fk t3 h3 (G_yes (edF g18 rfl) (R_lk rfl h3 rfl rfl (G_yes (edF g18 rfl) (R_mv t6 (G_yes (edF g18 rfl) (R_idx (i:=k) (@rfl V (ints x.kd)) (@rfl V (iV ((k:Nat):Int))) (by omega) rfl ?_)))))))
    refine G_yes (edF g18 rfl) (R_load_pp rfl rfl (G_yes (edF g18 rfl) (R_fk t2 h2 (G_yes (edF g18 rfl) (R_lk rfl h2 rfl rfl (G_yes (edF g18 rfl) (R_len rfl ?_)))))))
    refine G_yes (edF g18 rfl) (R_geq rfl rfl (R_pickF (edF g18 rfl) rfl ?_))
    exact ⟨t2,t3,t6,(dec_orF g18),h2,h3,trivial⟩
  intro T H ⟨t2,t3,t6,t98,h2,h3,_⟩
  refine R_e ?_
  refine W_if t98 (fun c19=>?_) fun c19=>?_
  ·
   skip
   refine W_r (R_mv rfl (R_e (W_ret (y11 _ _ (p29 _ _ (y8 _ _ ?_))))))
   refine Ret_1 (@rfl V (iV (2:Int))) (fz_int ?_)
   · have e:chE x t.nd.length k=2:=by rw [chE,if_neg (by omega),if_neg (by rintro ⟨q1,q2⟩; have:=hq (k - 1) (by omega); omega),if_pos (by omega)]
     rw [ndE,if_neg (by simp [d0]),inE2,if_neg (by omega),if_neg (by omega),if_neg (by omega),if_neg (by omega),hc,fe_hit (by rw [e]; decide) (by omega),e]
  have dz:chE x t.nd.length k=0:=by rw [chE,if_neg (by omega),if_neg (by rintro ⟨q1,q2⟩; have:=hq (k - 1) (by omega); omega),if_neg (by omega)]
  refine W_skip (n11 _ _ (.done (W_t (R_mv t6 (R_addN rfl (@rfl V (iV ((1:Nat):Int))) (by omega) (R_mv rfl (R_e ?_)))))))
  refine p19 _ _ _ ?_ ⟨(k+1),rfl,t2,t3,(Eq.trans (@rfl V (iV ((k+1:Nat):Int))) (by rfl)),h2,h3,?_,?_,?_,?_,?_,?_,?_⟩
  · omega
  · omega
  · omega
  · omega
  · omega
  · omega
  · intro i hi
    by_cases e:i=k
    · subst e; exact dz
    · exact hp i (by omega)
  · rw [hc,fe_skip dz (by omega)]
 refine W_seq_exit (p39 _ _ _ (x8 _ _ (.done (W_r (R_mv rfl (R_e (W_ret ?_)))))))
 refine Ret_1 (@rfl V (iV (0:Int))) (fz_int ?_)
 · rw [ndE,if_neg (by simp [d0]),inE2,if_neg (by omega),if_neg (by omega),if_neg (by omega),if_neg (by omega),hc,fe_end (by omega)]
def r131_7:List SO:=[
 qF 21 0 1,
 ql 22 21,
 qM 23 4,
 qM 24 5,
 qA 25 1 23 24,
 ql 26 25,
 qA 27 5 22 26,
 qL 28 5 27,
 sO 6 (.alloc 99 [.bool false,.nilsl,.nilsl,.nilsl,.nilsl]),
 sN (.store 5 (.t 6) (.t 28))]
def r131_11:List SO:=[
 qM 36 3,
 qF 37 4 6,
 ql 38 37,
 qM 39 7,
 qA 40 1 38 39,
 ql 41 40,
 qA 42 1 36 41,
 ql 43 42]
def r131_13:List SO:=[
 qM 44 3,
 qF 45 4 6,
 ql 46 45,
 qM 47 7,
 qA 48 1 46 47,
 ql 49 48,
 qA 50 1 44 49,
 sN (.store 1 (.t 50) (.c (.bool true)))]
def r131_14:List SO:=[
 qM 51 4,
 qF 52 4 6,
 ql 53 52,
 qM 54 7,
 qA 55 1 53 54,
 ql 56 55,
 sO 57 (.bslice 3 1 false [.int .i64 0] 1 [(0,.t 56)]),
 sO 58 (.append 3 1 8 (.t 51) (.t 57)),
 qM 4 58]
def b131_1:SC:=.seq (.seq (.reg [qM 29 7,qF 30 4 6,ql 31 30,qN 32 31,qP 33 .lss 29 32]) (.cond (.t 33) (.skip) (.exit 2))) (.seq (.block 3 (.seq (.seq (.reg r131_11) (.cond (.t 43) (.seq (.reg [sO 2 (.mv (.c (.bool false)))]) (.ret)) (.skip))) (.seq (.reg r131_13) (.reg r131_14)))) (.reg [qM 34 7,qC 35 .add 34 1,qM 7 35]))
def b131_0:SC:=.seq (.seq (.reg [qM 15 5,qM 16 4,qN 17 16,qP 18 .lss 15 17]) (.cond (.t 18) (.skip) (.exit 0))) (.seq (.block 1 (.seq (.dreg [6] r131_7) (.seq (.reg [qI 7 0]) (.block 2 (.loop b131_1))))) (.reg [qM 19 5,qC 20 .add 19 1,qM 5 20]))
def r131_15:List SO:=[
 qM 59 4,
 qN 60 59,
 qF 61 0 1,
 ql 62 61,
 qN 63 62,
 qP 64 .eql 60 63,
 qM 2 64]
def s131:SF:=⟨65,[.tmp 2],.seq (.reg [sO 1 (.box 24 1 (.t 0)),sO 2 (.mv (.c (.bool false)))]) (.seq (.reg [qF 8 0 1,ql 9 8,qN 10 9,sO 11 (.mks 4 1 1 [.bool false] (.t 10) (.t 10)),qM 3 11]) (.seq (.reg [qM 12 3,sO 13 (.idx 1 (.t 12) (.c (.int .i64 0))),sN (.store 1 (.t 13) (.c (.bool true)))]) (.seq (.reg [sO 14 (.bslice 3 1 true [.int .i64 0] 1 [(0,.c (.int .i64 0))]),qM 4 14]) (.seq (.seq (.reg [qI 5 0]) (.block 0 (.loop b131_0))) (.seq (.reg r131_15) (.ret))))))⟩
theorem s131_ok:slimF Tryz.prog ⟨[107,108,109,116,120,126,127,167,169,170,171,172,194,196,198,209,222,226],[14]⟩ Tryz.f131=some s131:=by kernel_rfl
end Go.Proofs.YtmnjchcoigbngabGreat
namespace Go.Proofs.YtmnjchcoigbngabGreat
open Go Go.Proofs
attribute [local irreducible] mksV
theorem whole_pure (t:Dt) (hk:KI t) (hb:Bd t):PureC Tryz.prog 131 [(V.agg [(V.sl (List.map cN (t.nd)))])] (V.bool (whB t)):=by
 refine pW Tryz.func131 s131_ok fun hB=>?_
 unfold s131
 dsimp only
 have hp:=hk.pos
 have hbn:=hb.n
 refine W_r (R_box (i:=1) (n:=0) (m:=1) (cs:=[(V.sl (List.map cN (t.nd)))]) rfl (congrArg Blk.ver rfl) rfl rfl rfl (R_mv rfl (R_e (W_r (R_fk rfl rfl (R_lk rfl rfl rfl rfl (R_len rfl ?_)))))))
 refine R_mksm (i:=11) (n:=0) (m:=t.nd.length) (q:=t.nd.length) (f:=cB) (x:=false) rfl (congrArg Blk.ver rfl) (@rfl V (iV ((t.nd.length:Nat):Int))) (@rfl V (iV ((t.nd.length:Nat):Int))) rfl (by omega) (by omega) (by omega) (R_mv rfl (R_e (W_r (R_mv rfl (R_idxI_ms0 (i:=(0:Int)) (@rfl V (V.ms 11 1 0 (t.nd.length))) (@rfl V (iV (0:Int))) (@rfl Blk (bk 1 4 1 (List.map cB (List.replicate t.nd.length false)))) oB rfl (by omega) (by omega) (R_store (vs:=[(V.bool true)]) (B':=(bk 1 4 1 (List.map cB ((List.replicate t.nd.length false).set (((0:Int)).toNat) true)))) rfl rfl rfl (@rfl Blk (bk 1 4 1 (List.map cB (List.replicate t.nd.length false)))) (stB_map (x:=true) (i:=(((0:Int)).toNat)) (by (simp only [List.length_replicate]; omega)) rfl rfl rfl rfl) (R_e ?_)))))))
 refine W_r (R_bslice_own (i:=14) (n:=0) (qs:=[(0,(iV (0:Int)))]) (rows:=[[(iV (0:Int))]]) rfl (congrArg Blk.ver rfl) (mcons (congrArg (fun v=>(0,v)) rfl) rfl) rfl (R_mv rfl (R_e (W_seq_seq (W_r (R_mv rfl (R_e ?_)))))))
 refine W_seq_blockg fun Q1 n1 x1 y1 z1=>?_
 refine W_loop (fun mm T H=> ∃ (k:Nat) (w:Nat) (P:RS) (v6:Nat),mm=t.nd.length - k∧T 1=(V.mp 1 1 0 0)∧T 3=(V.ms 11 1 0 (t.nd.length))∧T 4=(V.ms 14 w 0 (P.1.length))∧T 5=(iV ((k:Nat):Int))∧H 1=(bk 1 24 1 [[(V.sl (List.map cN (t.nd)))]])∧((H 6).ver=v6∧(H 6).live=false)∧H 11=(bk 1 4 1 (List.map cB (P.2)))∧H 14=(bk w 3 1 (List.map cI (P.1)))∧(k≤P.1.length)∧(WI t P)∧(whN t t.nd.length 0 (wh0 t)=whN t (t.nd.length - k) k P)) ?_ ?_
 ·
  refine ⟨_,0,1,(wh0 t),0,rfl,rfl,rfl,(Eq.trans (@rfl V (V.ms 14 1 0 (1))) (by rfl)),(Eq.trans (@rfl V (iV (0:Int))) rfl),rfl,⟨(congrArg Blk.ver rfl),congrArg Blk.live (@rfl Blk (⟨0,false,false,0,0,[]⟩:Blk))⟩,(Eq.trans (@rfl Blk (bk 1 4 1 (List.map cB ((List.replicate t.nd.length false).set (((0:Int)).toNat) true)))) (by rfl)),(Eq.trans (@rfl Blk (bk 1 3 1 [[(iV (0:Int))]])) (by rfl)),?_,?_,?_⟩
  · exact Nat.zero_le _
  · exact wi0 hk
  · rfl
 intro mm T H ⟨k,w,P,v6,hmm,t1,t3,t4,t5,h1,h6,h11,h14,hk2,hi,hc⟩ Q2 p12 p22 p32
 unfold b131_0
 have hi1:=hi.len
 refine W_seq_seq (W_r (R_mv t5 (R_mv t4 (R_len_ms rfl h14 (by simp) (R_lss rfl rfl (R_e ?_))))))
 refine W_seq_if rfl (fun c3=>?_) fun c3=>?_
 ·
  have r1:=hi.rg _ (nth_mem (show k < P.1.length by omega))
  have r3:=hb.kd _ (show (nth P.1 k).toNat < t.nd.length by omega)
  refine W_seq_skip (W_seq_blockg fun Q4 n4 x4 y4 z4=>(W_d (by exact (lateC (h6).2 lateN)) (R_fk t1 h1 (R_lk rfl h1 rfl rfl (R_mv t4 (R_mv t5 (R_idx_ms0 (i:=k) (@rfl V (V.ms 14 w 0 (P.1.length))) (@rfl V (iV ((k:Nat):Int))) h14 oB rfl (by omega) ?_)))))))
  refine R_load_mp (v:=(iV ((nth (P.1) (k))))) rfl h14 (ldB_map (by omega) (by rfl)) (R_idxI (i:=((nth (P.1) (k)))) (@rfl V (V.sl (List.map cN (t.nd)))) (@rfl V (iV ((nth (P.1) (k))))) (by omega) (by omega) rfl (R_load_pp rfl rfl (R_alloc (i:=6) (n:=v6) (m:=5) rfl (h6).1 rfl (R_sk rfl rfl rfl rfl rfl rfl rfl rfl rfl (R_e (W_r (R_mv rfl ?_)))))))
  refine R_e (W_block fun Q5 n5 x5 y5 z5=>?_)
  refine W_loop (fun mm T H=> ∃ (j:Nat) (w2:Nat) (Q:RS),mm=(nth t.nd (nth P.1 k).toNat).kd.length - j∧T 1=(V.mp 1 1 0 0)∧T 3=(V.ms 11 1 0 (t.nd.length))∧T 4=(V.ms 14 w2 0 (Q.1.length))∧T 5=(iV ((k:Nat):Int))∧T 6=(V.mp 6 (v6+1) 0 0)∧T 7=(iV ((j:Nat):Int))∧H 1=(bk 1 24 1 [[(V.sl (List.map cN (t.nd)))]])∧H 6=(bk (v6+1) 99 5 [(cN (((nth (t.nd) ((nth (P.1) (k))).toNat))))])∧H 11=(bk 1 4 1 (List.map cB (Q.2)))∧H 14=(bk w2 3 1 (List.map cI (Q.1)))∧(j≤(nth t.nd (nth P.1 k).toNat).kd.length)∧(k < Q.1.length)∧(WI t Q)∧(whN t t.nd.length 0 (wh0 t)=(whI Q ((nth t.nd (nth P.1 k).toNat).kd.drop j)).bind (whN t (t.nd.length - (k+1)) (k+1)))) ?_ ?_
  ·
   refine ⟨_,0,w,P,rfl,t1,t3,t4,t5,rfl,(Eq.trans (@rfl V (iV (0:Int))) rfl),h1,rfl,h11,h14,?_,?_,?_,?_⟩
   · omega
   · omega
   · exact hi
   · rw [hc,wh_go (by omega) (by omega)]; rfl
  intro mm T H ⟨j,w2,Q,hmm,t1,t3,t4,t5,t6,t7,h1,h6,h11,h14,hj,hk3,hiq,hc2⟩ Q6 p16 p26 p36
  unfold b131_1
  have hi2:=hiq.len
  refine W_seq_seq (W_r (R_mv t7 (R_fk t6 h6 (R_lk rfl h6 rfl rfl (R_len rfl (R_lss rfl rfl (R_e ?_)))))))
  refine W_seq_if rfl (fun c7=>?_) fun c7=>?_
  ·
   have r2:=hk.rng _ (show (nth P.1 k).toNat < t.nd.length by omega) _ (nth_mem (show j < (nth t.nd (nth P.1 k).toNat).kd.length by omega))
   refine W_seq_skip (W_seq_blockg fun Q8 n8 x8 y8 z8=>(W_seq_seq (W_r (R_mv t3 (R_fk t6 h6 (R_lk rfl h6 rfl rfl (R_mv t7 ?_)))))))
   refine R_idx (i:=j) (@rfl V (ints (((nth (t.nd) ((nth (P.1) (k))).toNat)).kd))) (@rfl V (iV ((j:Nat):Int))) (by omega) rfl (R_load_pp rfl rfl (R_idxI_ms0 (i:=((nth (((nth (t.nd) ((nth (P.1) (k))).toNat)).kd) (j)))) (@rfl V (V.ms 11 1 0 (t.nd.length))) (@rfl V (iV ((nth (((nth (t.nd) ((nth (P.1) (k))).toNat)).kd) (j))))) h11 oB rfl (by omega) (by omega) (R_load_mp (v:=(V.bool ((nth (Q.2) ((((nth (((nth (t.nd) ((nth (P.1) (k))).toNat)).kd) (j)))).toNat))))) rfl h11 (ldB_map (by omega) (by rfl)) (R_e ?_))))
   refine W_seq_ifb rfl (fun c9=>?_) (fun c9=>?_)
   ·
    have d2:nth Q.2 (nth (nth t.nd (nth P.1 k).toNat).kd j).toNat=true:=c9
    refine W_seq_seq (W_r (R_mv rfl (R_e (W_seq_ret (y8 _ _ (p26 _ _ (y5 _ _ ?_)))))))
    refine y4 _ _ (p22 _ _ (y1 _ _ ?_))
    refine Ret_1 (@rfl V (V.bool false)) (fz_bool ?_)
    · rw [whB_none (by rw [hc2,whI_yes (by omega) d2]; rfl)]
   have d2:nth Q.2 (nth (nth t.nd (nth P.1 k).toNat).kd j).toNat=false:=by simpa using c9
   refine W_seq_skip (W_r (R_mv t3 (R_fk t6 h6 (R_lk rfl h6 rfl rfl (R_mv t7 (R_idx (i:=j) (@rfl V (ints (((nth (t.nd) ((nth (P.1) (k))).toNat)).kd))) (@rfl V (iV ((j:Nat):Int))) (by omega) rfl (R_load_pp rfl rfl ?_)))))))
   refine R_idxI_ms0 (i:=((nth (((nth (t.nd) ((nth (P.1) (k))).toNat)).kd) (j)))) (@rfl V (V.ms 11 1 0 (t.nd.length))) (@rfl V (iV ((nth (((nth (t.nd) ((nth (P.1) (k))).toNat)).kd) (j))))) h11 oB rfl (by omega) (by omega) (R_store (vs:=[(V.bool true)]) (B':=(bk 1 4 1 (List.map cB ((Q.2).set ((((nth (((nth (t.nd) ((nth (P.1) (k))).toNat)).kd) (j)))).toNat) true)))) rfl rfl rfl h11 (stB_map (x:=true) (i:=((((nth (((nth (t.nd) ((nth (P.1) (k))).toNat)).kd) (j)))).toNat)) (by omega) rfl rfl rfl rfl) (R_e (W_t (R_mv t4 (R_fk t6 h6 (R_lk rfl h6 rfl rfl (R_mv t7 ?_)))))))
   refine R_idx (i:=j) (@rfl V (ints (((nth (t.nd) ((nth (P.1) (k))).toNat)).kd))) (@rfl V (iV ((j:Nat):Int))) (by omega) rfl (R_load_pp rfl rfl (R_bslice rfl rfl (R_append1 (l:=Q.1) (f:=cI) (x:=(((nth (((nth (t.nd) ((nth (P.1) (k))).toNat)).kd) (j))))) (@rfl V (V.ms 14 w2 0 (Q.1.length))) h14 (by rfl) (@rfl V (V.sl [[(iV ((nth (((nth (t.nd) ((nth (P.1) (k))).toNat)).kd) (j))))]])) rfl rfl (by omega) (by omega) (R_mv rfl (R_e (n8 _ _ (.done ?_)))))))
   refine W_t (R_mv t7 (R_addN rfl (@rfl V (iV ((1:Nat):Int))) (by omega) (R_mv rfl (R_e ?_))))
   refine p16 _ _ _ ?_ ⟨(j+1),(w2+1),(wS Q (nth (nth t.nd (nth P.1 k).toNat).kd j)),rfl,t1,t3,(Eq.trans (@rfl V (V.ms 14 (w2+1) 0 (Q.1.length+1))) (by (rw [show (wS Q (nth (nth t.nd (nth P.1 k).toNat).kd j)).1.length=Q.1.length+1 by simp [wS]]; done))),t5,t6,(Eq.trans (@rfl V (iV ((j+1:Nat):Int))) (by rfl)),h1,h6,(Eq.trans (@rfl Blk (bk 1 4 1 (List.map cB ((Q.2).set ((((nth (((nth (t.nd) ((nth (P.1) (k))).toNat)).kd) (j)))).toNat) true)))) (by rfl)),(Eq.trans (@rfl Blk (bk (w2+1) 3 1 (List.map cI (Q.1++[((nth (((nth (t.nd) ((nth (P.1) (k))).toNat)).kd) (j)))])))) (by rfl)),?_,?_,?_,?_⟩
   · omega
   · omega
   · show k < (Q.1++_).length; rw [List.length_append]; omega
   · exact hiq.step r2.1 r2.2 d2
   · rw [hc2,whI_no (by omega) d2]
  refine W_seq_exit (p36 _ _ _ (x5 _ _ (n4 _ _ (fork_ (R:=fun T H=>T 1=(V.mp 1 1 0 0)∧T 3=(V.ms 11 1 0 (t.nd.length))∧T 4=(V.ms 14 w2 0 (Q.1.length))∧T 5=(iV ((k:Nat):Int))∧T 6=(V.mp 6 (v6+1) 0 0)∧T 7=(iV ((j:Nat):Int))∧T 33=(V.bool (decide (((j:Nat):Int) < (((((nth (t.nd) ((nth (P.1) (k))).toNat)).kd).length:Nat):Int))))∧H 1=(bk 1 24 1 [[(V.sl (List.map cN (t.nd)))]])∧H 6=(bk (v6+1) 99 5 [(cN (((nth (t.nd) ((nth (P.1) (k))).toNat))))])∧H 11=(bk 1 4 1 (List.map cB (Q.2)))∧H 14=(bk w2 3 1 (List.map cI (Q.1)))∧True) ⟨t1,t3,t4,t5,t6,t7,(@rfl V (V.bool (decide (((j:Nat):Int) < (((((nth (t.nd) ((nth (P.1) (k))).toNat)).kd).length:Nat):Int))))),h1,h6,h11,h14,trivial⟩ ?_))))
  intro T H ⟨t1,t3,t4,t5,t6,t7,t33,h1,h6,h11,h14,_⟩
  refine .freeze 6 (.done ?_)
  refine fork_ (R:=fun T H=>T 1=(V.mp 1 1 0 0)∧T 3=(V.ms 11 1 0 (t.nd.length))∧T 4=(V.ms 14 w2 0 (Q.1.length))∧T 5=(iV ((k:Nat):Int))∧T 6=(V.mp 6 (v6+1) 0 0)∧T 7=(iV ((j:Nat):Int))∧T 33=(V.bool (decide (((j:Nat):Int) < (((((nth (t.nd) ((nth (P.1) (k))).toNat)).kd).length:Nat):Int))))∧H 1=(bk 1 24 1 [[(V.sl (List.map cN (t.nd)))]])∧((H 6).ver=v6+1∧(H 6).live=false)∧H 11=(bk 1 4 1 (List.map cB (Q.2)))∧H 14=(bk w2 3 1 (List.map cI (Q.1)))∧True) ⟨(fzT_q t1 rfl),(fzT_q t3 (fzq_other (by decide))),(fzT_q t4 (fzq_other (by decide))),(fzT_q t5 rfl),(fzT_q t6 rfl),(fzT_q t7 rfl),(fzT_q t33 rfl),(kill_ne h1 (by decide)),(kill_self (congrArg Blk.ver h6)),(kill_ne h11 (by decide)),(kill_ne h14 (by decide)),trivial⟩ ?_
  intro T H ⟨t1,t3,t4,t5,t6,t7,t33,h1,h6,h11,h14,_⟩
  refine W_t (R_mv t5 (R_addN rfl (@rfl V (iV ((1:Nat):Int))) (by omega) (R_mv rfl (R_e ?_))))
  refine p12 _ _ _ ?_ ⟨(k+1),w2,Q,(v6+1),rfl,t1,t3,t4,(Eq.trans (@rfl V (iV ((k+1:Nat):Int))) (by rfl)),h1,h6,h11,h14,?_,?_,?_⟩
  · omega
  · omega
  · exact hiq
  · rw [hc2,whI_end (by omega)]; rfl
 refine W_seq_exit (p32 _ _ _ (x1 _ _ (.done (W_r (R_mv t4 (R_len_ms rfl h14 (by simp) (R_fk t1 h1 ?_)))))))
 refine R_lk rfl h1 rfl rfl (R_len rfl (R_eql rfl rfl (R_mv rfl (R_e (W_ret ?_)))))
 refine Ret_1 (@rfl V (V.bool (decide (((P.1.length:Nat):Int)=((t.nd.length:Nat):Int))))) (fz_bool ?_)
 · rw [whB_some (by rw [hc]; exact wh_end (by omega))]; exact decide_eq_decide.2 (by omega)
end Go.Proofs.YtmnjchcoigbngabGreat
namespace Go.Proofs.YtmnjchcoigbngabGreat
open Go Go.Proofs
theorem rdvalid_pure (t:Dt) (hb:Bd t):PureC Tryz.prog 77 [(V.agg [(V.sl (List.map cN (t.nd)))])] (iV (dvE t)):=by
 refine pW Tryz.func77 s77_ok fun hB=>?_
 unfold s77
 dsimp only
 refine W_r (R_box (i:=1) (n:=0) (m:=1) (cs:=[(V.sl (List.map cN (t.nd)))]) rfl (congrArg Blk.ver rfl) rfl rfl rfl (R_mv rfl (R_e (W_seq_seq (W_r (R_fk rfl rfl (R_lk rfl rfl rfl rfl ?_)))))))
 refine R_len rfl (R_eql rfl rfl (R_e ?_))
 refine W_seq_if rfl (fun c1=>?_) fun c1=>?_
 ·
  refine W_seq_seq (W_r (R_mv rfl (R_e (W_seq_ret ?_))))
  refine Ret_1 (@rfl V (iV (19:Int))) (fz_int ?_)
  · rw [dvE,if_pos (by omega)]
 refine W_seq_skip (W_seq_seq (W_r (R_fk rfl rfl (R_lk rfl rfl rfl rfl (R_len rfl (R_gtr rfl rfl (R_e ?_)))))))
 refine W_seq_if rfl (fun c2=>?_) fun c2=>?_
 ·
  refine W_seq_seq (W_r (R_mv rfl (R_e (W_seq_ret ?_))))
  refine Ret_1 (@rfl V (iV (11:Int))) (fz_int ?_)
  · rw [dvE,if_neg (by omega),if_pos (by omega)]
 refine W_seq_skip (W_seq_seq (W_r (R_mv rfl (R_e (W_seq_blockg fun Q3 n3 x3 y3 z3=>?_)))))
 refine W_loop (fun mm T H=> ∃ (k:Nat),mm=t.nd.length - k∧T 1=(V.mp 1 1 0 0)∧T 3=(iV ((k:Nat):Int))∧H 1=(bk 1 24 1 [[(V.sl (List.map cN (t.nd)))]])∧(k≤t.nd.length)∧(0 < t.nd.length)∧(t.nd.length≤4096)∧(∀ j,j < k→ndE (nth t.nd j) t.nd.length=0)∧(fe (fun k=>ndE (nth t.nd k) t.nd.length) 0 t.nd.length=fe (fun k=>ndE (nth t.nd k) t.nd.length) k (t.nd.length - k))) ?_ ?_
 ·
  refine ⟨_,0,rfl,rfl,(Eq.trans (@rfl V (iV (0:Int))) rfl),rfl,?_,?_,?_,?_,?_⟩
  · omega
  · omega
  · omega
  · intro j hj; omega
  · rfl
 intro mm T H ⟨k,hmm,t1,t3,h1,hk,g0,g1,hp,hc⟩ Q4 p14 p24 p34
 unfold b77_0
 refine W_seq_seq (W_r (R_mv t3 (R_fk t1 h1 (R_lk rfl h1 rfl rfl (R_len rfl (R_lss rfl rfl (R_e ?_)))))))
 refine W_seq_if rfl (fun c5=>?_) fun c5=>?_
 ·
  have r2:=hb.ou k (by omega)
  have r3:=hb.kd k (by omega)
  refine W_seq_skip (W_seq_blockg fun Q6 n6 x6 y6 z6=>(W_r (R_lk t1 h1 rfl rfl (R_fk t1 h1 (R_lk rfl h1 rfl rfl (R_mv t3 (R_idx (i:=k) (@rfl V (V.sl (List.map cN (t.nd)))) (@rfl V (iV ((k:Nat):Int))) (by omega) rfl ?_)))))))
  refine R_load_pp rfl rfl (R_callk (rnode_pure t (((nth (t.nd) (k)))) (by omega) (by omega)) rfl (R_mv rfl (R_e (W_r (R_mv rfl (R_neq rfl rfl (R_e ?_)))))))
  refine W_if rfl (fun c7=>?_) fun c7=>?_
  ·
   have d1:ndE (nth t.nd k) t.nd.length≠0:=c7
   refine W_r (R_mv rfl (R_mv rfl (R_e (W_ret (y6 _ _ (p24 _ _ (y3 _ _ ?_)))))))
   refine Ret_1 (@rfl V (iV (ndE (((nth (t.nd) (k)))) t.nd.length))) (fz_int ?_)
   · have e:fe (fun k=>ndE (nth t.nd k) t.nd.length) 0 t.nd.length=ndE (nth t.nd k) t.nd.length:=by rw [hc]; exact fe_hit (e:=fun k=>ndE (nth t.nd k) t.nd.length) d1 (by omega)
     rw [dvE,if_neg (by omega),if_neg (by omega),if_pos (by rw [e]; exact d1),e]
  have d1:ndE (nth t.nd k) t.nd.length=0:=by omega
  refine W_skip (n6 _ _ (.done (W_t (R_mv t3 (R_addN rfl (@rfl V (iV ((1:Nat):Int))) (by omega) (R_mv rfl (R_e ?_)))))))
  refine p14 _ _ _ ?_ ⟨(k+1),rfl,t1,(Eq.trans (@rfl V (iV ((k+1:Nat):Int))) (by rfl)),h1,?_,?_,?_,?_,?_⟩
  · omega
  · omega
  · omega
  · omega
  · intro i hi
    by_cases e:i=k
    · subst e; exact d1
    · exact hp i (by omega)
  · rw [hc,fe_skip (e:=fun k=>ndE (nth t.nd k) t.nd.length) (by exact d1) (by omega)]
 have hall: ∀ j,j < t.nd.length→ndE (nth t.nd j) t.nd.length=0:=fun j hj=>hp j (by omega)
 have hki:KI t:=nds_ki g0 hall
 have hz:fe (fun k=>ndE (nth t.nd k) t.nd.length) 0 t.nd.length=0:=by rw [hc,fe_end (by omega)]
 have haw: ∀ w∈acL t.nd,w.length≤1048576:=ac_len hb
 have hal:=acL_len t.nd
 refine W_seq_exit (p34 _ _ _ (x3 _ _ (.done (W_seq_seq (W_r (R_lk t1 h1 rfl rfl (R_callk (whole_pure t hki hb) rfl ?_)))))))
 refine R_notb rfl (R_e ?_)
 refine W_seq_ifb rfl (fun c8=>?_) (fun c8=>?_)
 ·
  have d3:whB t=false:=by simpa using c8
  refine W_seq_seq (W_r (R_mv rfl (R_e (W_seq_ret ?_))))
  refine Ret_1 (@rfl V (iV (1:Int))) (fz_int ?_)
  · rw [dvE,if_neg (by omega),if_neg (by omega),if_neg (by rw [hz]; simp),if_pos d3]
 have d3:whB t=true:=by simpa using c8
 refine W_seq_skip (W_r (R_lk t1 h1 rfl rfl (R_callk (raccess_pure t hb) rfl (R_mv rfl (R_e (W_seq_seq (W_r ?_)))))))
 refine R_mv rfl (R_callk (rsorted_pure (acL t.nd) (by omega) haw) rfl (R_len rfl (R_mv rfl (R_len rfl (R_neq rfl rfl (R_e ?_))))))
 refine W_seq_if rfl (fun c9=>?_) fun c9=>?_
 ·
  refine W_seq_seq (W_r (R_mv rfl (R_e (W_seq_ret ?_))))
  refine Ret_1 (@rfl V (iV (7:Int))) (fz_int ?_)
  · rw [dvE,if_neg (by omega),if_neg (by omega),if_neg (by rw [hz]; simp),if_neg (by simp [d3]),if_pos (by omega)]
 refine W_seq_skip (W_r (R_mv rfl (R_e (W_ret ?_))))
 refine Ret_1 (@rfl V (iV (0:Int))) (fz_int ?_)
 · rw [dvE,if_neg (by omega),if_neg (by omega),if_neg (by rw [hz]; simp),if_neg (by simp [d3]),if_neg (by omega)]
def b81_0:SC:=.seq (.seq (.reg [qM 6 5,qM 7 0,qN 8 7,qP 9 .lss 6 8]) (.cond (.t 9) (.skip) (.exit 0))) (.seq (.block 1 (.seq (.reg [qM 12 0,qM 13 5,qA 14 1 12 13,ql 15 14,qM 16 1,sO 17 (.call false 58 [.t 15,.t 16])]) (.cond (.t 17) (.seq (.reg [sO 4 (.mv (.c (.bool true)))]) (.ret)) (.skip)))) (.reg [qM 10 5,qC 11 .add 10 1,qM 5 11]))
def s81:SF:=⟨18,[.tmp 4],.seq (.reg [sO 4 (.mv (.c (.bool false)))]) (.seq (.seq (.reg [qI 5 0]) (.block 0 (.loop b81_0))) (.seq (.reg [sO 4 (.mv (.c (.bool false)))]) (.ret)))⟩
theorem s81_ok:slimF Tryz.prog ⟨[107,108,109,116,120,126,127,167,169,170,171,172,194,196,198,209,222,226],[]⟩ Tryz.f81=some s81:=by kernel_rfl
theorem rhas_pure (l:List (List Int)) (w:List Int):PureC Tryz.prog 81 [(intss l),(ints w)] (V.bool (decide (w∈l))):=by
 refine pW Tryz.func81 s81_ok fun hB=>?_
 unfold s81
 dsimp only
 refine W_r (R_mv rfl (R_e (W_seq_seq (W_r (R_mv rfl (R_e (W_seq_blockg fun Q1 n1 x1 y1 z1=>?_)))))))
 refine W_loop (fun mm T H=> ∃ (k:Nat),mm=l.length - k∧T 0=(intss l)∧T 1=(ints w)∧T 5=(iV ((k:Nat):Int))∧(k≤l.length)∧(∀ j,j < k→nth l j≠w)) ?_ ?_
 ·
  refine ⟨_,0,rfl,rfl,rfl,(Eq.trans (@rfl V (iV (0:Int))) rfl),?_,?_⟩
  · omega
  · intro j hj; omega
 intro mm T H ⟨k,hmm,t0,t1,t5,hk,hc⟩ Q2 p12 p22 p32
 unfold b81_0
 refine W_seq_seq (W_r (R_mv t5 (R_mv t0 (R_len rfl (R_lss rfl rfl (R_e ?_))))))
 refine W_seq_if rfl (fun c3=>?_) fun c3=>?_
 ·
  refine W_seq_skip (W_seq_blockg fun Q4 n4 x4 y4 z4=>(W_r (R_mv t0 (R_mv t5 (R_idx (i:=k) (@rfl V (intss l)) (@rfl V (iV ((k:Nat):Int))) (by omega) rfl (R_load_pp rfl rfl (R_mv t1 ?_)))))))
  refine R_callk (rsame1_pure ((nth (l) (k))) w) rfl (R_e ?_)
  refine W_if rfl (fun c5=>?_) fun c5=>?_
  ·
   have d1:=c5
   refine W_r (R_mv rfl (R_e (W_ret (y4 _ _ (p22 _ _ (y1 _ _ ?_))))))
   refine Ret_1 (@rfl V (V.bool true)) (fz_bool ?_)
   · exact (decide_eq_true (d1 ▸ nth_mem (by omega))).symm
  have d1:=c5
  refine W_skip (n4 _ _ (.done (W_t (R_mv t5 (R_addN rfl (@rfl V (iV ((1:Nat):Int))) (by omega) (R_mv rfl (R_e ?_)))))))
  refine p12 _ _ _ ?_ ⟨(k+1),rfl,t0,t1,(Eq.trans (@rfl V (iV ((k+1:Nat):Int))) (by rfl)),?_,?_⟩
  · omega
  · omega
  · intro j hj
    by_cases e:j=k
    · subst e; exact d1
    · exact hc j (by omega)
 refine W_seq_exit (p32 _ _ _ (x1 _ _ (.done (W_r (R_mv rfl (R_e (W_ret ?_)))))))
 refine Ret_1 (@rfl V (V.bool false)) (fz_bool ?_)
 · exact (decide_eq_false (fun e=>by obtain ⟨j,hj,q⟩:=in_nth e; exact hc j (by omega) q)).symm
theorem tvalid_pure (l:Ts) (hb:Bd l.t):PureC Tryz.prog 28 [(V.agg [(iV (l.i)),(V.sl (List.map cN (l.t.nd)))])] (iV (tvE l)):=by
 refine pW Tryz.func28 s28_ok fun hB=>?_
 unfold s28
 dsimp only
 refine W_r (R_box (i:=1) (n:=0) (m:=2) (cs:=[(iV (l.i)),(V.sl (List.map cN (l.t.nd)))]) rfl (congrArg Blk.ver rfl) rfl rfl rfl (R_mv rfl (R_e (W_seq_seq (W_r (R_fk rfl rfl (R_lk rfl rfl rfl rfl ?_)))))))
 refine R_lss rfl rfl (R_mv rfl ?_)
 refine Ops_seg 4 (fun T H=>T 1=(V.mp 1 1 0 0)∧T 15=(V.bool (decide (((l.i) < (1:Int))∨((64:Int) < (l.i)))))∧H 1=(bk 1 26 2 [[(iV (l.i)),(V.sl (List.map cN (l.t.nd)))]])∧True) ?_ ?_
 ·
  by_cases g1:(l.i) < (1:Int)
  ·
   refine G_n (edT g1 rfl) (G_n (edT g1 rfl) (G_n (edT g1 rfl) (R_pickT (edT g1 rfl) rfl ?_)))
   exact ⟨rfl,(dec_orT g1),rfl,trivial⟩
  ·
   refine G_yes (edF g1 rfl) (R_fk rfl rfl (G_yes (edF g1 rfl) (R_lk rfl rfl rfl rfl (G_yes (edF g1 rfl) (R_gtr rfl rfl (R_pickF (edF g1 rfl) rfl ?_))))))
   exact ⟨rfl,(dec_orF g1),rfl,trivial⟩
 intro T H ⟨t1,t15,h1,_⟩
 refine R_e ?_
 refine W_seq_if t15 (fun c2=>?_) fun c2=>?_
 ·
  refine W_seq_seq (W_r (R_mv rfl (R_e (W_seq_ret ?_))))
  refine Ret_1 (@rfl V (iV (2:Int))) (fz_int ?_)
  · unfold tvE; rw [if_pos (by omega)]
 refine W_seq_skip (W_seq_seq (W_r (R_fk t1 h1 (R_lk rfl h1 rfl rfl (R_callk (rdvalid_pure l.t hb) rfl (R_mv rfl (R_e ?_)))))))
 refine W_seq_seq (W_r (R_mv rfl (R_neq rfl rfl (R_e ?_))))
 refine W_seq_if rfl (fun c3=>?_) fun c3=>?_
 ·
  refine W_seq_seq (W_r (R_mv rfl (R_mv rfl (R_e (W_seq_ret ?_)))))
  refine Ret_1 (@rfl V (iV (dvE l.t))) (fz_int ?_)
  · unfold tvE; rw [if_neg (by omega),if_pos (by assumption)]
 have hv:dvE l.t=0:=by omega
 have hbn:=hb.n
 refine W_seq_skip (W_seq_seq (W_r (R_mv rfl (R_e (W_seq_blockg fun Q4 n4 x4 y4 z4=>?_)))))
 refine W_loop (fun mm T H=> ∃ (k:Nat),mm=l.t.nd.length - k∧T 1=(V.mp 1 1 0 0)∧T 4=(iV ((k:Nat):Int))∧H 1=(bk 1 26 2 [[(iV (l.i)),(V.sl (List.map cN (l.t.nd)))]])∧(k≤l.t.nd.length)∧(dvE l.t=0)∧(1≤l.i∧l.i≤64)∧(fe (wdE l) 0 l.t.nd.length=fe (wdE l) k (l.t.nd.length - k))) ?_ ?_
 ·
  refine ⟨_,0,rfl,t1,(Eq.trans (@rfl V (iV (0:Int))) rfl),h1,?_,?_,?_,?_⟩
  · omega
  · omega
  · omega
  · rfl
 intro mm T H ⟨k,hmm,t1,t4,h1,hk,hv,hr,hc⟩ Q5 p15 p25 p35
 unfold b28_0
 refine W_seq_seq (W_r (R_mv t4 (R_fk t1 h1 (R_fk rfl h1 (R_lk rfl h1 rfl rfl (R_len rfl (R_lss rfl rfl ?_)))))))
 refine R_e ?_
 refine W_seq_if rfl (fun c6=>?_) fun c6=>?_
 ·
  refine W_seq_skip (W_seq_blockg fun Q7 n7 x7 y7 z7=>(W_seq_seq (W_r (R_fk t1 h1 (R_fk rfl h1 (R_lk rfl h1 rfl rfl (R_mv t4 ?_)))))))
  refine R_idx (i:=k) (@rfl V (V.sl (List.map cN (l.t.nd)))) (@rfl V (iV ((k:Nat):Int))) (by omega) rfl (R_fld_pp (cs':=(List.drop 1 (cN (((nth (l.t.nd) (k))))))) rfl rfl (R_load_pp rfl rfl (R_fk t1 h1 (R_lk rfl h1 rfl rfl (R_callk (rcheck_pure (((nth (l.t.nd) (k))).ac) ((l.i))) rfl (R_mv rfl (R_e ?_)))))))
  refine W_seq_seq (W_r (R_mv rfl (R_neq rfl rfl (R_e ?_))))
  refine W_seq_if rfl (fun c8=>?_) fun c8=>?_
  ·
   have d1:wdE l k=wchk (nth l.t.nd k).ac l.i:=by unfold wdE; rw [if_pos c8]
   refine W_seq_seq (W_r (R_mv rfl (R_mv rfl (R_e (W_seq_ret (y7 _ _ (p25 _ _ ?_)))))))
   refine y4 _ _ ?_
   refine Ret_1 (@rfl V (iV (wchk (((nth (l.t.nd) (k))).ac) ((l.i))))) (fz_int ?_)
   · unfold tvE; rw [if_neg (by omega),if_neg (by omega),if_pos (by rw [hc,fe_hit (e:=wdE l) (by rw [d1]; assumption) (by omega),d1]; assumption),hc,fe_hit (e:=wdE l) (by rw [d1]; assumption) (by omega),d1]
  have d0:=c8
  refine W_seq_skip (W_r (R_fk t1 h1 (R_fk rfl h1 (R_lk rfl h1 rfl rfl (R_mv t4 (R_idx (i:=k) (@rfl V (V.sl (List.map cN (l.t.nd)))) (@rfl V (iV ((k:Nat):Int))) (by omega) rfl (R_fld_pp (cs':=(List.drop 2 (cN (((nth (l.t.nd) (k))))))) rfl rfl ?_)))))))
  refine R_load_pp rfl rfl (R_fk t1 h1 (R_lk rfl h1 rfl rfl (R_callk (rcheck_pure (((nth (l.t.nd) (k))).sf) ((l.i))) rfl (R_mv rfl (R_e (W_r (R_mv rfl ?_)))))))
  refine R_neq rfl rfl (R_e ?_)
  refine W_if rfl (fun c9=>?_) fun c9=>?_
  ·
   have d1:wdE l k=wchk (nth l.t.nd k).sf l.i:=by unfold wdE; rw [if_neg d0]
   refine W_r (R_mv rfl (R_mv rfl (R_e (W_ret (y7 _ _ (p25 _ _ (y4 _ _ ?_)))))))
   refine Ret_1 (@rfl V (iV (wchk (((nth (l.t.nd) (k))).sf) ((l.i))))) (fz_int ?_)
   · unfold tvE; rw [if_neg (by omega),if_neg (by omega),if_pos (by rw [hc,fe_hit (e:=wdE l) (by rw [d1]; assumption) (by omega),d1]; assumption),hc,fe_hit (e:=wdE l) (by rw [d1]; assumption) (by omega),d1]
  have d2:wdE l k=0:=by unfold wdE; rw [if_neg d0]; omega
  refine W_skip (n7 _ _ (.done (W_t (R_mv t4 (R_addN rfl (@rfl V (iV ((1:Nat):Int))) (by omega) (R_mv rfl (R_e ?_)))))))
  refine p15 _ _ _ ?_ ⟨(k+1),rfl,t1,(Eq.trans (@rfl V (iV ((k+1:Nat):Int))) (by rfl)),h1,?_,?_,?_,?_⟩
  · omega
  · omega
  · omega
  · omega
  · rw [hc,fe_skip (e:=wdE l) d2 (by omega)]
 refine W_seq_exit (p35 _ _ _ (x4 _ _ (.done (W_r (R_fk t1 h1 (R_lk rfl h1 rfl rfl (R_callk (raccess_pure l.t hb) rfl ?_)))))))
 refine R_mv rfl (R_e (W_seq_seq (W_r (R_mv rfl (R_call (evcons (@rfl V (intss (acL l.t.nd))) (evcons (@rfl V V.nilsl) evnil)) (rhas_pure (acL l.t.nd) ([])) (mcons (fzv_canon 6 _ (by simp [-List.map_take,-List.map_drop,-List.map_append,-List.map_reverse])) (mcons (by simp [fzv,Blk.own,h1]) rfl)) (by simp [-List.map_take,-List.map_drop,-List.map_append,-List.map_reverse]) (Or.inl (by simp [-List.map_take,-List.map_drop,-List.map_append,-List.map_reverse])) (R_not rfl (R_e ?_)))))))
 refine W_seq_if rfl (fun c10=>?_) fun c10=>?_
 ·
  have hz:fe (wdE l) 0 l.t.nd.length=0:=by rw [hc,fe_end (by omega)]
  have d3:[]∉acL l.t.nd:=by simpa using c10
  refine W_seq_seq (W_r (R_mv rfl (R_e (W_seq_ret ?_))))
  refine Ret_1 (@rfl V (iV (1:Int))) (fz_int ?_)
  · unfold tvE; rw [if_neg (by omega),if_neg (by omega),if_neg (by omega),if_pos d3]
 have hz:fe (wdE l) 0 l.t.nd.length=0:=by rw [hc,fe_end (by omega)]
 have d3: ¬([]∉acL l.t.nd):=by simpa using c10
 refine W_seq_skip (W_seq_seq (W_r (R_mv rfl (R_len rfl (R_gtr rfl rfl (R_e ?_))))))
 refine W_seq_if rfl (fun c11=>?_) fun c11=>?_
 ·
  refine W_seq_seq (W_r (R_mv rfl (R_e (W_seq_ret ?_))))
  refine Ret_1 (@rfl V (iV (11:Int))) (fz_int ?_)
  · unfold tvE; rw [if_neg (by omega),if_neg (by omega),if_neg (by omega),if_neg d3,if_pos (by omega)]
 refine W_seq_skip (W_r (R_mv rfl (R_e (W_ret ?_))))
 refine Ret_1 (@rfl V (iV (0:Int))) (fz_int ?_)
 · unfold tvE; rw [if_neg (by omega),if_neg (by omega),if_neg (by omega),if_neg d3,if_neg (by omega)]
theorem tchecked_pure (l:Ts) (o:Ob) (hb:Bd l.t):PureC Tryz.prog 50 [(V.agg [(iV (l.i)),(V.sl (List.map cN (l.t.nd)))]),(V.agg [(iV (o.i)),(V.sl (List.map cT (o.tr)))])] (iV (tsE l o)):=by
 refine pW Tryz.func50 s50_ok fun hB=>?_
 unfold s50
 dsimp only
 refine W_r (R_box (i:=2) (n:=0) (m:=2) (cs:=[(iV (l.i)),(V.sl (List.map cN (l.t.nd)))]) rfl (congrArg Blk.ver rfl) rfl rfl rfl (R_box (i:=3) (n:=0) (m:=2) (cs:=[(iV (o.i)),(V.sl (List.map cT (o.tr)))]) rfl (congrArg Blk.ver rfl) rfl rfl rfl (R_mv rfl (R_e (W_seq_seq (W_r (R_lk rfl rfl rfl rfl ?_)))))))
 refine R_callk (tvalid_pure l hb) rfl (R_mv rfl (R_e (W_seq_seq (W_r (R_mv rfl (R_neq rfl rfl (R_e ?_)))))))
 refine W_seq_if rfl (fun c1=>?_) fun c1=>?_
 ·
  refine W_seq_seq (W_r (R_mv rfl (R_mv rfl (R_e (W_seq_ret ?_)))))
  refine Ret_1 (@rfl V (iV (tvE l))) (fz_int ?_)
  · unfold tsE; rw [if_pos (by assumption)]
 refine W_seq_skip (W_seq_seq (W_r (R_fk rfl rfl (R_lk rfl rfl rfl rfl (R_fk rfl rfl (R_lk rfl rfl rfl rfl (R_neq rfl rfl ?_)))))))
 refine R_e ?_
 refine W_seq_if rfl (fun c2=>?_) fun c2=>?_
 ·
  refine W_seq_seq (W_r (R_mv rfl (R_e (W_seq_ret ?_))))
  refine Ret_1 (@rfl V (iV (15:Int))) (fz_int ?_)
  · unfold tsE; rw [if_neg (by omega),if_pos (by assumption)]
 refine W_seq_skip (W_r (R_mv rfl (R_e (W_ret ?_))))
 refine Ret_1 (@rfl V (iV (0:Int))) (fz_int ?_)
 · unfold tsE; rw [if_neg (by omega),if_neg (by omega)]
def r53_8:List SO:=[
 qF 29 0 3,
 ql 30 29,
 qM 31 11,
 qA 32 5 30 31,
 qF 33 0 32,
 ql 34 33,
 sO 35 (.un .not (.t 34))]
def r53_9:List SO:=[
 qM 36 2,
 qF 37 0 3,
 ql 38 37,
 qM 39 11,
 qA 40 5 38 39,
 qF 41 2 40,
 ql 42 41,
 sO 43 (.bslice 54 1 false [.nilsl] 2 [(0,.t 36),(1,.t 42)]),
 sO 44 (.call false 64 [.t 43]),
 qM 12 44]
def r53_13:List SO:=[
 qL 53 2 4,
 qM 54 12,
 sO 55 (.call false 111 [.t 53,.t 54]),
 qM 52 55,
 qE 56 52 0,
 qE 57 52 1,
 qM 14 56,
 qM 15 57]
def r53_16:List SO:=[
 qF 61 0 3,
 ql 62 61,
 qM 63 11,
 qA 64 5 62 63,
 qL 65 5 64,
 qM 66 14,
 qM 67 2,
 qN 68 67,
 sO 69 (.slice 1 (.t 66) (some (.t 68)) none),
 sO 70 (.call false 112 [.t 65,.t 69]),
 qM 16 70]
def b53_0:SC:=.seq (.seq (.reg r53_8) (.cond (.t 35) (.skip) (.exit 0))) (.block 1 (.seq (.reg r53_9) (.seq (.seq (.reg [qM 45 12,qF 46 0 4,ql 47 46,sO 48 (.call false 80 [.t 45,.t 47]),qM 13 48]) (.seq (.reg [qM 49 13,qC 50 .neq 49 0]) (.cond (.t 50) (.seq (.reg [qM 51 13,qI 6 0,sO 7 (.mv (.c (.nilsl))),qM 8 51]) (.ret)) (.skip)))) (.seq (.reg r53_13) (.seq (.seq (.reg [qM 58 15,sO 59 (.un .not (.t 58))]) (.cond (.t 59) (.seq (.reg [qM 60 12,qI 6 0,qM 7 60,qI 8 0]) (.ret)) (.skip))) (.seq (.reg r53_16) (.seq (.seq (.reg [qM 71 16,qC 72 .lss 71 0]) (.cond (.t 72) (.seq (.reg [qM 73 11,qM 6 73,sO 7 (.mv (.c (.nilsl))),qI 8 0]) (.ret)) (.skip))) (.reg [qM 74 16,qM 11 74]))))))))
def s53:SF:=⟨76,[.tmp 6,.tmp 7,.tmp 8],.seq (.reg [sO 3 (.box 24 1 (.t 0)),sO 4 (.box 29 2 (.t 1)),qI 6 0,sO 7 (.mv (.c (.nilsl))),qI 8 0]) (.seq (.seq (.reg [qL 17 1 3,sO 18 (.call false 77 [.t 17]),qM 9 18]) (.seq (.reg [qM 19 9,qC 20 .neq 19 0]) (.cond (.t 20) (.seq (.reg [qM 21 9,qI 6 0,sO 7 (.mv (.c (.nilsl))),qM 8 21]) (.ret)) (.skip)))) (.seq (.seq (.reg [qM 22 2,qF 23 0 4,ql 24 23,sO 25 (.call false 80 [.t 22,.t 24]),qM 10 25]) (.seq (.reg [qM 26 10,qC 27 .neq 26 0]) (.cond (.t 27) (.seq (.reg [qM 28 10,qI 6 0,sO 7 (.mv (.c (.nilsl))),qM 8 28]) (.ret)) (.skip)))) (.seq (.reg [qI 11 0]) (.seq (.block 0 (.loop b53_0)) (.seq (.reg [qM 75 11,qM 6 75,sO 7 (.mv (.c (.nilsl))),qI 8 0]) (.ret))))))⟩
theorem s53_ok:slimF Tryz.prog ⟨[107,108,109,116,120,126,127,167,169,170,171,172,194,196,198,209,222,226],[]⟩ Tryz.f53=some s53:=by kernel_rfl
def r111_6:List SO:=[
 qF 17 1 2,
 ql 18 17,
 qM 19 6,
 qA 20 2 18 19,
 qF 21 0 20,
 ql 22 21,
 qM 23 1,
 sO 24 (.call false 128 [.t 22,.t 23])]
def r111_7:List SO:=[
 qF 25 1 2,
 ql 26 25,
 qM 27 6,
 qA 28 2 26 27,
 qF 29 1 28,
 ql 30 29,
 qM 31 1,
 qN 32 31,
 sO 33 (.slice 1 (.t 30) none (some (.t 32))),
 sO 34 (.bslice 54 1 false [.nilsl] 1 [(0,.t 33)]),
 sO 35 (.call false 64 [.t 34]),
 qM 4 35,
 sO 5 (.mv (.c (.bool true)))]
def b111_0:SC:=.seq (.seq (.reg [qM 10 6,qF 11 1 2,ql 12 11,qN 13 12,qP 14 .lss 10 13]) (.cond (.t 14) (.skip) (.exit 0))) (.seq (.block 1 (.seq (.reg r111_6) (.cond (.t 24) (.seq (.reg r111_7) (.ret)) (.skip)))) (.reg [qM 15 6,qC 16 .add 15 1,qM 6 16]))
def s111:SF:=⟨36,[.tmp 4,.tmp 5],.seq (.reg [sO 2 (.box 29 2 (.t 0)),sO 4 (.mv (.c (.nilsl))),sO 5 (.mv (.c (.bool false)))]) (.seq (.seq (.reg [qM 7 1,qN 8 7,qC 9 .eql 8 0]) (.cond (.t 9) (.seq (.reg [sO 4 (.mv (.c (.nilsl))),sO 5 (.mv (.c (.bool true)))]) (.ret)) (.skip))) (.seq (.seq (.reg [qI 6 0]) (.block 0 (.loop b111_0))) (.seq (.reg [sO 4 (.mv (.c (.nilsl))),sO 5 (.mv (.c (.bool false)))]) (.ret))))⟩
theorem s111_ok:slimF Tryz.prog ⟨[107,108,109,116,120,126,127,167,169,170,171,172,194,196,198,209,222,226],[]⟩ Tryz.f111=some s111:=by kernel_rfl
theorem ranswer_pure (o:Ob) (w:List Int) (ho:oval o=0):PureC Tryz.prog 111 [(V.agg [(iV (o.i)),(V.sl (List.map cT (o.tr)))]),(ints w)] (V.tup [(ints ((ans o w).getD [])),(V.bool ((ans o w).isSome))]):=by
 refine pW Tryz.func111 s111_ok fun hB=>?_
 unfold s111
 dsimp only
 have u2:=oval_ok ho
 refine W_r (R_box (i:=2) (n:=0) (m:=2) (cs:=[(iV (o.i)),(V.sl (List.map cT (o.tr)))]) rfl (congrArg Blk.ver rfl) rfl rfl rfl (R_mv rfl (R_mv rfl (R_e (W_seq_seq (W_r (R_mv rfl ?_)))))))
 refine R_len rfl (R_eql rfl rfl (R_e ?_))
 refine W_seq_if rfl (fun c1=>?_) fun c1=>?_
 ·
  refine W_seq_seq (W_r (R_mv rfl (R_mv rfl (R_e (W_seq_ret ?_)))))
  refine Ret_2 (@rfl V V.nilsl) (@rfl V (V.bool true)) (fz_nil ?_) (fz_bool ?_)
  · rw [List.length_eq_zero_iff.1 (show w.length=0 by omega)]; rfl
  · rw [List.length_eq_zero_iff.1 (show w.length=0 by omega)]; rfl
 refine W_seq_skip (W_seq_seq (W_r (R_mv rfl (R_e (W_seq_blockg fun Q2 n2 x2 y2 z2=>?_)))))
 refine W_loop (fun mm T H=> ∃ (k:Nat),mm=o.tr.length - k∧T 1=(ints w)∧T 2=(V.mp 2 1 0 0)∧T 6=(iV ((k:Nat):Int))∧H 2=(bk 1 29 2 [[(iV (o.i)),(V.sl (List.map cT (o.tr)))]])∧(k≤o.tr.length)∧(w≠[])∧(ansL o.tr w=ansL (o.tr.drop k) w)) ?_ ?_
 ·
  refine ⟨_,0,rfl,rfl,rfl,(Eq.trans (@rfl V (iV (0:Int))) rfl),rfl,?_,?_,?_⟩
  · omega
  · intro e; subst e; simp at*
  · rfl
 intro mm T H ⟨k,hmm,t1,t2,t6,h2,hk,hw,hc⟩ Q3 p13 p23 p33
 unfold b111_0
 refine W_seq_seq (W_r (R_mv t6 (R_fk t2 h2 (R_lk rfl h2 rfl rfl (R_len rfl (R_lss rfl rfl (R_e ?_)))))))
 refine W_seq_if rfl (fun c4=>?_) fun c4=>?_
 ·
  refine W_seq_skip (W_seq_blockg fun Q5 n5 x5 y5 z5=>(W_r (R_fk t2 h2 (R_lk rfl h2 rfl rfl (R_mv t6 (R_idx (i:=k) (@rfl V (V.sl (List.map cT (o.tr)))) (@rfl V (iV ((k:Nat):Int))) (by omega) rfl (R_fld_pp (cs':=[(ints ((nth (o.tr) (k)).ni)),(ints ((nth (o.tr) (k)).no))]) rfl rfl ?_)))))))
  refine R_load_pp rfl rfl (R_mv t1 (R_callk (rhp_pure ((nth (o.tr) (k)).ni) w) rfl (R_e ?_)))
  refine W_ifb rfl (fun c6=>?_) (fun c6=>?_)
  ·
   have d1:=c6
   have d2:=hp_len c6
   have d3:=(u2.pr k (by omega)).1.len
   have d4:=(u2.pr k (by omega)).1.lel
   have d5:ans o w=some ((nth o.tr k).no.take w.length):=by rw [ans,if_neg hw,hc,nth_drop (by omega),ansL,if_pos d1]
   refine W_r (R_fk t2 h2 (R_lk rfl h2 rfl rfl (R_mv t6 (R_idx (i:=k) (@rfl V (V.sl (List.map cT (o.tr)))) (@rfl V (iV ((k:Nat):Int))) (by omega) rfl (R_fld_pp (cs':=[(ints ((nth (o.tr) (k)).no))]) rfl rfl (R_load_pp rfl rfl (R_mv t1 ?_)))))))
   refine R_len rfl (R_slice_hi (n:=w.length) (@rfl V (ints ((nth (o.tr) (k)).no))) (@rfl V (iV ((w.length:Nat):Int))) (by omega) (fun _=>rfl) (R_bslice rfl rfl (R_callk (join_pure ([List.take (w.length) ((nth (o.tr) (k)).no)]) (by simp [cat]; omega)) rfl (R_mv rfl (R_mv rfl (R_e (W_ret ?_)))))))
   refine y5 _ _ (p23 _ _ (y2 _ _ ?_))
   refine Ret_2 (@rfl V (ints (cat ([List.take (w.length) ((nth (o.tr) (k)).no)])))) (@rfl V (V.bool true)) (fz_sl ?_ (fun _=>by simp)) (fz_bool ?_)
   · rw [d5]; simp [cat]
   · rw [d5]; rfl
  have d1:=c6
  refine W_skip (n5 _ _ (.done (W_t (R_mv t6 (R_addN rfl (@rfl V (iV ((1:Nat):Int))) (by omega) (R_mv rfl (R_e ?_)))))))
  refine p13 _ _ _ ?_ ⟨(k+1),rfl,t1,t2,(Eq.trans (@rfl V (iV ((k+1:Nat):Int))) (by rfl)),h2,?_,?_,?_⟩
  · omega
  · omega
  · omega
  · rw [hc,nth_drop (by omega),ansL,if_neg (by simp [d1])]
 refine W_seq_exit (p33 _ _ _ (x2 _ _ (.done (W_r (R_mv rfl (R_mv rfl (R_e ?_)))))))
 refine W_ret ?_
 refine Ret_2 (@rfl V V.nilsl) (@rfl V (V.bool false)) (fz_nil ?_) (fz_bool ?_)
 · rw [ans,if_neg hw,hc,List.drop_of_length_le (by omega)]; rfl
 · rw [ans,if_neg hw,hc,List.drop_of_length_le (by omega)]; rfl
def r112_4:List SO:=[
 qF 13 3 2,
 ql 14 13,
 qM 15 5,
 qA 16 1 14 15,
 ql 17 16,
 qM 18 1,
 sO 19 (.call false 58 [.t 17,.t 18])]
def b112_0:SC:=.seq (.seq (.reg [qM 6 5,qF 7 3 2,ql 8 7,qN 9 8,qP 10 .lss 6 9]) (.cond (.t 10) (.skip) (.exit 0))) (.seq (.block 1 (.seq (.reg r112_4) (.cond (.t 19) (.seq (.reg [qF 20 4 2,ql 21 20,qM 22 5,qA 23 1 21 22,ql 24 23,qM 4 24]) (.ret)) (.skip)))) (.reg [qM 11 5,qC 12 .add 11 1,qM 5 12]))
def s112:SF:=⟨25,[.tmp 4],.seq (.reg [sO 2 (.box 99 5 (.t 0)),qI 4 0]) (.seq (.seq (.reg [qI 5 0]) (.block 0 (.loop b112_0))) (.seq (.reg [sO 4 (.mv (.c (.int .i64 (-1))))]) (.ret)))⟩
theorem s112_ok:slimF Tryz.prog ⟨[107,108,109,116,120,126,127,167,169,170,171,172,194,196,198,209,222,226],[]⟩ Tryz.f112=some s112:=by kernel_rfl
theorem rchild_pure (x:Nd) (outs:List Int) (hs:SrtL x.ou) (hl:x.ou.length=x.kd.length):PureC Tryz.prog 112 [(V.agg (cN x)),(ints outs)] (iV (if lxH x.ou outs then nth x.kd (lxN x.ou outs) else -1)):=by
 refine pW Tryz.func112 s112_ok fun hB=>?_
 unfold s112
 dsimp only
 refine W_r (R_box (i:=2) (n:=0) (m:=5) (cs:=[(V.bool x.lf),(ints x.ac),(ints x.sf),(intss x.ou),(ints x.kd)]) rfl (congrArg Blk.ver rfl) rfl rfl rfl (R_mv rfl (R_e (W_seq_seq (W_r (R_mv rfl (R_e ?_)))))))
 refine W_seq_blockg fun Q1 n1 x1 y1 z1=>?_
 refine W_loop (fun mm T H=> ∃ (k:Nat),mm=x.ou.length - k∧T 1=(ints outs)∧T 2=(V.mp 2 1 0 0)∧T 5=(iV ((k:Nat):Int))∧H 2=(bk 1 99 5 [(cN x)])∧(k≤x.ou.length)∧(∀ j,j < k→nth x.ou j≠outs)) ?_ ?_
 ·
  refine ⟨_,0,rfl,rfl,rfl,(Eq.trans (@rfl V (iV (0:Int))) rfl),rfl,?_,?_⟩
  · omega
  · intro j hj; omega
 intro mm T H ⟨k,hmm,t1,t2,t5,h2,hk,hc⟩ Q2 p12 p22 p32
 unfold b112_0
 refine W_seq_seq (W_r (R_mv t5 (R_fk t2 h2 (R_lk rfl h2 rfl rfl (R_len rfl (R_lss rfl rfl (R_e ?_)))))))
 refine W_seq_if rfl (fun c3=>?_) fun c3=>?_
 ·
  refine W_seq_skip (W_seq_blockg fun Q4 n4 x4 y4 z4=>(W_r (R_fk t2 h2 (R_lk rfl h2 rfl rfl (R_mv t5 (R_idx (i:=k) (@rfl V (intss x.ou)) (@rfl V (iV ((k:Nat):Int))) (by omega) rfl (R_load_pp rfl rfl ?_)))))))
  refine R_mv t1 (R_callk (rsame1_pure ((nth (x.ou) (k))) outs) rfl (R_e ?_))
  refine W_if rfl (fun c5=>?_) fun c5=>?_
  ·
   have d1:nth x.ou k=outs:=c5
   have d2:=lxH_iff hs (show k < x.ou.length by omega) d1
   refine W_r (R_fk t2 h2 (R_lk rfl h2 rfl rfl (R_mv t5 (R_idx (i:=k) (@rfl V (ints x.kd)) (@rfl V (iV ((k:Nat):Int))) (by omega) rfl (R_load_pp rfl rfl (R_mv rfl (R_e ?_)))))))
   refine W_ret (y4 _ _ (p22 _ _ (y1 _ _ ?_)))
   refine Ret_1 (@rfl V (iV ((nth (x.kd) (k))))) (fz_int ?_)
   · rw [if_pos d2.2,d2.1]
  have d1:nth x.ou k≠outs:=c5
  refine W_skip (n4 _ _ (.done (W_t (R_mv t5 (R_addN rfl (@rfl V (iV ((1:Nat):Int))) (by omega) (R_mv rfl (R_e ?_)))))))
  refine p12 _ _ _ ?_ ⟨(k+1),rfl,t1,t2,(Eq.trans (@rfl V (iV ((k+1:Nat):Int))) (by rfl)),h2,?_,?_⟩
  · omega
  · omega
  · intro j hj
    by_cases e:j=k
    · subst e; exact d1
    · exact hc j (by omega)
 refine W_seq_exit (p32 _ _ _ (x1 _ _ (.done (W_r (R_mv rfl (R_e (W_ret ?_)))))))
 refine Ret_1 (@rfl V (iV (-1:Int))) (fz_int ?_)
 · rw [if_neg (fun e=>hc _ (by have:=e.1; omega) (lxH_nth e))]
theorem rsift_pure (t:Dt) (o:Ob) (w:List Int) (hb:Bd t) (ho:oval o=0) (hw:w.length≤1048576):PureC Tryz.prog 53 [(V.agg [(V.sl (List.map cN (t.nd)))]),(V.agg [(iV (o.i)),(V.sl (List.map cT (o.tr)))]),(ints w)] (V.tup [(iV ((sftR t o w).1)),(ints ((sftR t o w).2.1)),(iV ((sftR t o w).2.2))]):=by
 refine pW Tryz.func53 s53_ok fun hB=>?_
 unfold s53
 dsimp only
 refine W_r (R_box (i:=3) (n:=0) (m:=1) (cs:=[(V.sl (List.map cN (t.nd)))]) rfl (congrArg Blk.ver rfl) rfl rfl rfl (R_box (i:=4) (n:=0) (m:=2) (cs:=[(iV (o.i)),(V.sl (List.map cT (o.tr)))]) rfl (congrArg Blk.ver rfl) rfl rfl rfl (R_mv rfl (R_mv rfl (R_mv rfl (R_e (W_seq_seq ?_)))))))
 refine W_r (R_lk rfl rfl rfl rfl (R_callk (rdvalid_pure t hb) rfl (R_mv rfl (R_e (W_seq_seq (W_r (R_mv rfl ?_)))))))
 refine R_neq rfl rfl (R_e ?_)
 refine W_seq_if rfl (fun c1=>?_) fun c1=>?_
 ·
  refine W_seq_seq (W_r (R_mv rfl (R_mv rfl (R_mv rfl (R_mv rfl (R_e (W_seq_ret ?_)))))))
  refine Ret_3 (@rfl V (iV (0:Int))) (@rfl V V.nilsl) (@rfl V (iV (dvE t))) (fz_int ?_) (fz_nil ?_) (fz_int ?_)
  · unfold sftR; rw [if_pos (by omega)]
  · unfold sftR; rw [if_pos (by omega)]
  · unfold sftR; rw [if_pos (by omega)]
 have hv:dvE t=0:=by omega
 refine W_seq_skip (W_seq_seq (W_r (R_mv rfl (R_fk rfl rfl (R_lk rfl rfl rfl rfl (R_callk (rcheck_pure w ((o.i))) rfl (R_mv rfl ?_)))))))
 refine R_e (W_seq_seq (W_r (R_mv rfl (R_neq rfl rfl (R_e ?_)))))
 refine W_seq_if rfl (fun c2=>?_) fun c2=>?_
 ·
  refine W_seq_seq (W_r (R_mv rfl (R_mv rfl (R_mv rfl (R_mv rfl (R_e (W_seq_ret ?_)))))))
  refine Ret_3 (@rfl V (iV (0:Int))) (@rfl V V.nilsl) (@rfl V (iV (wchk w ((o.i))))) (fz_int ?_) (fz_nil ?_) (fz_int ?_)
  · unfold sftR; rw [if_neg (by omega),if_pos (by omega)]
  · unfold sftR; rw [if_neg (by omega),if_pos (by omega)]
  · unfold sftR; rw [if_neg (by omega),if_pos (by omega)]
 refine W_seq_skip (W_r (R_mv rfl (R_e (W_seq_blockg fun Q3 n3 x3 y3 z3=>?_))))
 refine W_loop (fun mm T H=> ∃ (a:Int) (f:Nat),mm=f∧T 2=(ints w)∧T 3=(V.mp 3 1 0 0)∧T 4=(V.mp 4 1 0 0)∧T 11=(iV (a))∧H 3=(bk 1 24 1 [[(V.sl (List.map cN (t.nd)))]])∧H 4=(bk 1 29 2 [[(iV (o.i)),(V.sl (List.map cT (o.tr)))]])∧(0≤a)∧(Rk t f a.toNat)∧(sftN t o w t.nd.length 0=sftN t o w f a.toNat)) ?_ ?_
 ·
  refine ⟨_,0,t.nd.length,rfl,rfl,rfl,rfl,rfl,rfl,rfl,?_,?_,?_⟩
  · omega
  · exact rk0 hv
  · rfl
 intro mm T H ⟨a,f,hmm,t2,t3,t4,t11,h3,h4,ha,hr,hc⟩ Q4 p14 p24 p34
 unfold b53_0
 have hlt:=hr.lt hv
 have hsf:=hb.sf _ hlt
 have hbn:=hb.n
 refine W_seq_seq (W_r (R_fk t3 h3 (R_lk rfl h3 rfl rfl (R_mv t11 (R_idxI (i:=(a)) (@rfl V (V.sl (List.map cN (t.nd)))) (@rfl V (iV (a))) (by omega) (by omega) rfl (R_fld_pp (cs':=(cN (((nth (t.nd) (a).toNat))))) rfl rfl (R_load_pp rfl rfl ?_)))))))
 refine R_notb rfl (R_e ?_)
 refine W_seq_ifb rfl (fun c5=>?_) (fun c5=>?_)
 ·
  have d1:(nth t.nd a.toNat).lf=false:=by simpa using c5
  have hin:=nd_in hv hlt d1
  have hou:=hb.ou _ hlt
  refine W_seq_skip (W_block fun Q6 n6 x6 y6 z6=>(W_r (R_mv t2 (R_fk t3 h3 (R_lk rfl h3 rfl rfl (R_mv t11 (R_idxI (i:=(a)) (@rfl V (V.sl (List.map cN (t.nd)))) (@rfl V (iV (a))) (by omega) (by omega) rfl ?_)))))))
  refine R_fld_pp (cs':=(List.drop 2 (cN (((nth (t.nd) (a).toNat)))))) rfl rfl (R_load_pp rfl rfl (R_bslice rfl rfl (R_callk (join_pure ([w,((nth (t.nd) (a).toNat)).sf]) (by simp only [cat,List.append_nil,List.length_append]; omega)) rfl (R_mv rfl (R_e (W_seq_seq (W_r ?_)))))))
  refine R_mv rfl (R_fk t4 h4 (R_lk rfl h4 rfl rfl (R_callk (rcheck_pure (cat ([w,((nth (t.nd) (a).toNat)).sf])) ((o.i))) rfl (R_mv rfl (R_e (W_seq_seq (W_r ?_)))))))
  refine R_mv rfl (R_neq rfl rfl (R_e ?_))
  refine W_seq_if rfl (fun c7=>?_) fun c7=>?_
  ·
   have d2:wchk (cat [w,(nth t.nd a.toNat).sf]) o.i≠0:=c7
   refine W_seq_seq (W_r (R_mv rfl (R_mv rfl (R_mv rfl (R_mv rfl (R_e (W_seq_ret ?_)))))))
   refine y6 _ _ (p24 _ _ (y3 _ _ ?_))
   refine Ret_3 (@rfl V (iV (0:Int))) (@rfl V V.nilsl) (@rfl V (iV (wchk (cat ([w,((nth (t.nd) (a).toNat)).sf])) ((o.i))))) (fz_int ?_) (fz_nil ?_) (fz_int ?_)
   · have e0:sftR t o w=sftN t o w f a.toNat:=by unfold sftR; rw [if_neg (by omega),if_neg (by omega),hc]
     rw [e0,sft_err hr.pos d1 d2]
   · have e0:sftR t o w=sftN t o w f a.toNat:=by unfold sftR; rw [if_neg (by omega),if_neg (by omega),hc]
     rw [e0,sft_err hr.pos d1 d2]
   · have e0:sftR t o w=sftN t o w f a.toNat:=by unfold sftR; rw [if_neg (by omega),if_neg (by omega),hc]
     rw [e0,sft_err hr.pos d1 d2]
  have d2: ¬wchk (cat [w,(nth t.nd a.toNat).sf]) o.i≠0:=c7
  refine W_seq_skip (W_r (R_lk t4 h4 rfl rfl (R_mv rfl (R_callk (ranswer_pure o (cat ([w,((nth (t.nd) (a).toNat)).sf])) (by omega)) rfl (R_mv rfl (R_ext rfl rfl (R_ext rfl rfl ?_)))))))
  refine R_mv rfl (R_mv rfl (R_e (W_seq_seq (W_r (R_mv rfl (R_notb rfl (R_e ?_)))))))
  refine W_seq_ifb rfl (fun c8=>?_) (fun c8=>?_)
  ·
   have d3:(ans o (cat [w,(nth t.nd a.toNat).sf])).isSome=false:=by simpa using c8
   refine W_seq_seq (W_r (R_mv rfl (R_mv rfl (R_mv rfl (R_mv rfl (R_e (W_seq_ret ?_)))))))
   refine y6 _ _ (p24 _ _ (y3 _ _ ?_))
   refine Ret_3 (@rfl V (iV (0:Int))) (@rfl V (ints (cat ([w,((nth (t.nd) (a).toNat)).sf])))) (@rfl V (iV (0:Int))) (fz_int ?_) (fz_sl ?_ (fun _=>by simp)) (fz_int ?_)
   · have e0:sftR t o w=sftN t o w f a.toNat:=by unfold sftR; rw [if_neg (by omega),if_neg (by omega),hc]
     rw [e0,sft_ask hr.pos d1 d2 d3]
   · have e0:sftR t o w=sftN t o w f a.toNat:=by unfold sftR; rw [if_neg (by omega),if_neg (by omega),hc]
     rw [e0,sft_ask hr.pos d1 d2 d3]
   · have e0:sftR t o w=sftN t o w f a.toNat:=by unfold sftR; rw [if_neg (by omega),if_neg (by omega),hc]
     rw [e0,sft_ask hr.pos d1 d2 d3]
  have d3:(ans o (cat [w,(nth t.nd a.toNat).sf])).isSome=true:=by simpa using c8
  have d4:=ans_len (oval_ok ho) d3
  have d5:(cat [w,(nth t.nd a.toNat).sf]).length=w.length+(nth t.nd a.toNat).sf.length:=by simp [cat]
  refine W_seq_skip ?_
  refine W_seq_regc (fun T H=>T 2=(ints w)∧T 3=(V.mp 3 1 0 0)∧T 4=(V.mp 4 1 0 0)∧T 11=(iV (a))∧T 16=(iV (if lxH (((nth (t.nd) (a).toNat))).ou (List.drop (w.length) ((ans o (cat ([w,((nth (t.nd) (a).toNat)).sf]))).getD [])) then nth (((nth (t.nd) (a).toNat))).kd (lxN (((nth (t.nd) (a).toNat))).ou (List.drop (w.length) ((ans o (cat ([w,((nth (t.nd) (a).toNat)).sf]))).getD []))) else -1))∧H 3=(bk 1 24 1 [[(V.sl (List.map cN (t.nd)))]])∧H 4=(bk 1 29 2 [[(iV (o.i)),(V.sl (List.map cT (o.tr)))]])∧True) ?_ ?_
  ·
   refine R_fk t3 h3 (R_lk rfl h3 rfl rfl (R_mv t11 (R_idxI (i:=(a)) (@rfl V (V.sl (List.map cN (t.nd)))) (@rfl V (iV (a))) (by omega) (by omega) rfl (R_load_pp rfl rfl (R_mv rfl (R_mv t2 (R_len rfl ?_)))))))
   refine R_slice_lo (n:=w.length) (@rfl V (ints ((ans o (cat ([w,((nth (t.nd) (a).toNat)).sf]))).getD []))) (@rfl V (iV ((w.length:Nat):Int))) (by omega) (fun _=>rfl) (R_callk (rchild_pure (((nth (t.nd) (a).toNat))) (List.drop (w.length) ((ans o (cat ([w,((nth (t.nd) (a).toNat)).sf]))).getD [])) hin.srt hin.len) rfl (R_mv rfl ?_))
   exact R_nil ⟨t2,t3,t4,t11,rfl,h3,h4,trivial⟩
  intro T H ⟨t2,t3,t4,t11,t16,h3,h4,_⟩
  refine W_seq_seq (W_r (R_mv t16 (R_lss rfl rfl (R_e ?_))))
  refine W_seq_if rfl (fun c9=>?_) fun c9=>?_
  ·
   have d6: ¬lxH (nth t.nd a.toNat).ou (((ans o (cat [w,(nth t.nd a.toNat).sf])).getD []).drop w.length):=fun e=>by (have d7:(nth (nth t.nd a.toNat).kd (lxN (nth t.nd a.toNat).ou (((ans o (cat [w,(nth t.nd a.toNat).sf])).getD []).drop w.length)))∈(nth t.nd a.toNat).kd:=nth_mem (by have:=e.1; have:=hin.len; omega)); (have d8:=hin.kr _ d7); rw [if_pos e] at c9; omega
   refine W_seq_seq (W_r (R_mv t11 (R_mv rfl (R_mv rfl (R_mv rfl (R_e (W_seq_ret ?_)))))))
   refine y6 _ _ (p24 _ _ (y3 _ _ ?_))
   refine Ret_3 (@rfl V (iV (a))) (@rfl V V.nilsl) (@rfl V (iV (0:Int))) (fz_int ?_) (fz_nil ?_) (fz_int ?_)
   · have e0:sftR t o w=sftN t o w f a.toNat:=by unfold sftR; rw [if_neg (by omega),if_neg (by omega),hc]
     rw [e0,sft_no hr.pos d1 d2 d3 d6]; exact (Int.toNat_of_nonneg ha).symm
   · have e0:sftR t o w=sftN t o w f a.toNat:=by unfold sftR; rw [if_neg (by omega),if_neg (by omega),hc]
     rw [e0,sft_no hr.pos d1 d2 d3 d6]
   · have e0:sftR t o w=sftN t o w f a.toNat:=by unfold sftR; rw [if_neg (by omega),if_neg (by omega),hc]
     rw [e0,sft_no hr.pos d1 d2 d3 d6]
  have d6:lxH (nth t.nd a.toNat).ou (((ans o (cat [w,(nth t.nd a.toNat).sf])).getD []).drop w.length):=Decidable.not_not.1 fun e=>by rw [if_neg e] at c9; omega
  have d7:(nth (nth t.nd a.toNat).kd (lxN (nth t.nd a.toNat).ou (((ans o (cat [w,(nth t.nd a.toNat).sf])).getD []).drop w.length)))∈(nth t.nd a.toNat).kd:=nth_mem (by have:=d6.1; have:=hin.len; omega)
  have d8:=hin.kr _ d7
  refine W_seq_skip (W_t (R_mv t16 (R_mv rfl (R_e (n6 _ _ ?_)))))
  refine p14 _ _ _ ?_ ⟨(nth (nth t.nd a.toNat).kd (lxN (nth t.nd a.toNat).ou (((ans o (cat [w,(nth t.nd a.toNat).sf])).getD []).drop w.length))),(f - 1),rfl,t2,t3,t4,(Eq.trans (@rfl V (iV (if lxH (((nth (t.nd) (a).toNat))).ou (List.drop (w.length) ((ans o (cat ([w,((nth (t.nd) (a).toNat)).sf]))).getD [])) then nth (((nth (t.nd) (a).toNat))).kd (lxN (((nth (t.nd) (a).toNat))).ou (List.drop (w.length) ((ans o (cat ([w,((nth (t.nd) (a).toNat)).sf]))).getD []))) else -1))) (by (rw [if_pos d6]; done))),h3,h4,?_,?_,?_⟩
  · have:=hr.pos; omega
  · exact d8.1
  · exact hr.step d7 d8.1
  · rw [hc,sft_go hr.pos d1 d2 d3 d6]
 have d1:(nth t.nd a.toNat).lf=true:=by simpa using c5
 refine W_seq_exit (p34 _ _ _ (x3 _ _ (.done (W_r (R_mv t11 (R_mv rfl (R_mv rfl ?_)))))))
 refine R_mv rfl (R_e (W_ret ?_))
 refine Ret_3 (@rfl V (iV (a))) (@rfl V V.nilsl) (@rfl V (iV (0:Int))) (fz_int ?_) (fz_nil ?_) (fz_int ?_)
 · have e0:sftR t o w=sftN t o w f a.toNat:=by unfold sftR; rw [if_neg (by omega),if_neg (by omega),hc]
   rw [e0,sft_leaf hr.pos d1]; exact (Int.toNat_of_nonneg ha).symm
 · have e0:sftR t o w=sftN t o w f a.toNat:=by unfold sftR; rw [if_neg (by omega),if_neg (by omega),hc]
   rw [e0,sft_leaf hr.pos d1]
 · have e0:sftR t o w=sftN t o w f a.toNat:=by unfold sftR; rw [if_neg (by omega),if_neg (by omega),hc]
   rw [e0,sft_leaf hr.pos d1]
def r55_1:List SO:=[
 qL 11 2 3,
 qM 12 1,
 qM 13 2,
 sO 14 (.bslice 54 1 false [.nilsl] 2 [(0,.t 12),(1,.t 13)]),
 sO 15 (.call false 64 [.t 14]),
 sO 16 (.call false 111 [.t 11,.t 15]),
 qM 10 16,
 qE 17 10 0,
 qE 18 10 1,
 qM 8 17,
 qM 9 18]
def s55:SF:=⟨25,[.tmp 6,.tmp 7],.seq (.reg [sO 3 (.box 29 2 (.t 0)),sO 6 (.mv (.c (.nilsl))),sO 7 (.mv (.c (.bool false)))]) (.seq (.reg r55_1) (.seq (.seq (.reg [qM 19 9,sO 20 (.un .not (.t 19))]) (.cond (.t 20) (.seq (.reg [sO 6 (.mv (.c (.nilsl))),sO 7 (.mv (.c (.bool false)))]) (.ret)) (.skip))) (.seq (.reg [qM 21 8,qM 22 1,qN 23 22,sO 24 (.slice 1 (.t 21) (some (.t 23)) none),qM 6 24,sO 7 (.mv (.c (.bool true)))]) (.ret))))⟩
theorem s55_ok:slimF Tryz.prog ⟨[107,108,109,116,120,126,127,167,169,170,171,172,194,196,198,209,222,226],[]⟩ Tryz.f55=some s55:=by kernel_rfl
theorem rbehind27_pure (o:Ob) (w x:List Int) (ho:oval o=0) (hw:w.length≤1048576) (hx:x.length≤1048576):PureC Tryz.prog 55 [(V.agg [(iV (o.i)),(V.sl (List.map cT (o.tr)))]),(ints w),(ints x)] (V.tup [(ints (bho o w x)),(V.bool ((ans o (cat [w,x])).isSome))]):=by
 refine pW Tryz.func55 s55_ok fun hB=>?_
 unfold s55
 dsimp only
 refine W_r (R_box (i:=3) (n:=0) (m:=2) (cs:=[(iV (o.i)),(V.sl (List.map cT (o.tr)))]) rfl (congrArg Blk.ver rfl) rfl rfl rfl (R_mv rfl (R_mv rfl (R_e (W_r (R_lk rfl rfl rfl rfl (R_mv rfl ?_)))))))
 refine R_mv rfl (R_bslice rfl rfl (R_callk (join_pure ([w,x]) (by simp only [cat,List.append_nil,List.length_append,List.length_cons,List.length_nil]; omega)) rfl (R_callk (ranswer_pure o (cat ([w,x])) ho) rfl (R_mv rfl (R_ext rfl rfl (R_ext rfl rfl (R_mv rfl ?_)))))))
 refine R_mv rfl (R_e (W_seq_seq (W_r (R_mv rfl (R_notb rfl (R_e ?_))))))
 refine W_seq_ifb rfl (fun c1=>?_) (fun c1=>?_)
 ·
  have d3:(ans o (cat [w,x])).isSome=false:=by simpa using c1
  refine W_seq_seq (W_r (R_mv rfl (R_mv rfl (R_e (W_seq_ret ?_)))))
  refine Ret_2 (@rfl V V.nilsl) (@rfl V (V.bool false)) (fz_nil ?_) (fz_bool ?_)
  · rw [bho_none d3]
  · exact d3.symm
 have d3:(ans o (cat [w,x])).isSome=true:=by simpa using c1
 have d4:=ans_len (oval_ok ho) d3
 have d5:(cat [w,x]).length=w.length+x.length:=by simp [cat]
 refine W_seq_skip (W_r (R_mv rfl (R_mv rfl (R_len rfl (R_slice_lo (n:=w.length) (@rfl V (ints ((ans o (cat ([w,x]))).getD []))) (@rfl V (iV ((w.length:Nat):Int))) (by omega) (fun _=>rfl) (R_mv rfl (R_mv rfl ?_)))))))
 refine R_e (W_ret ?_)
 refine Ret_2 (@rfl V (ints (List.drop (w.length) ((ans o (cat ([w,x]))).getD [])))) (@rfl V (V.bool true)) (fz_sl ?_ (fun _=>by simp)) (fz_bool ?_)
 · rfl
 · exact d3.symm
def r74_4:List SO:=[
 qF 13 1 2,
 ql 14 13,
 qC 15 .lss 14 0,
 qM 16 15,
 ⟨some (16,false),some 17,.fld 1 (.t 2)⟩,
 ⟨some (16,false),some 18,.load false 1 (.t 17)⟩,
 ⟨some (16,false),some 19,.mv (.t 1)⟩,
 ⟨some (16,false),some 20,.bin .geq (.t 18) (.t 19)⟩,
 sO 21 (.pick (.t 16) (.c (.bool true)) (.t 20))]
def s74:SF:=⟨30,[.tmp 4],.seq (.reg [sO 2 (.box 56 3 (.t 0)),qI 4 0]) (.seq (.seq (.reg [qF 6 0 2,ql 7 6,qM 8 1,sO 9 (.call false 80 [.t 7,.t 8]),qM 5 9]) (.seq (.reg [qM 10 5,qC 11 .neq 10 0]) (.cond (.t 11) (.seq (.reg [qM 12 5,qM 4 12]) (.ret)) (.skip)))) (.seq (.seq (.reg r74_4) (.cond (.t 21) (.seq (.reg [qI 4 2]) (.ret)) (.skip))) (.seq (.seq (.reg [qF 22 2 2,ql 23 22,qN 24 23,qC 25 .eql 24 0]) (.cond (.t 25) (.seq (.reg [qI 4 19]) (.ret)) (.skip))) (.seq (.reg [qF 26 2 2,ql 27 26,qM 28 1,sO 29 (.call false 80 [.t 27,.t 28]),qM 4 29]) (.ret)))))⟩
theorem s74_ok:slimF Tryz.prog ⟨[107,108,109,116,120,126,127,167,169,170,171,172,194,196,198,209,222,226],[]⟩ Tryz.f74=some s74:=by kernel_rfl
theorem rproper27_pure (s:Spl) (i:Int):PureC Tryz.prog 74 [(V.agg [(ints s.p),(iV (s.a)),(ints s.x)]),(iV (i))] (iV (prS s i)):=by
 refine pW Tryz.func74 s74_ok fun hB=>?_
 unfold s74
 dsimp only
 refine W_r (R_box (i:=2) (n:=0) (m:=3) (cs:=[(ints s.p),(iV (s.a)),(ints s.x)]) rfl (congrArg Blk.ver rfl) rfl rfl rfl (R_mv rfl (R_e (W_seq_seq (W_r (R_fk rfl rfl (R_lk rfl rfl rfl rfl ?_)))))))
 refine R_mv rfl (R_callk (rcheck_pure s.p ((i))) rfl (R_mv rfl (R_e (W_seq_seq (W_r (R_mv rfl (R_neq rfl rfl ?_)))))))
 refine R_e ?_
 refine W_seq_if rfl (fun c1=>?_) fun c1=>?_
 ·
  refine W_seq_seq (W_r (R_mv rfl (R_mv rfl (R_e (W_seq_ret ?_)))))
  refine Ret_1 (@rfl V (iV (wchk s.p ((i))))) (fz_int ?_)
  · unfold prS; rw [if_pos (by assumption)]
 refine W_seq_skip (W_seq_seq (W_r (R_fk rfl rfl (R_lk rfl rfl rfl rfl (R_lss rfl rfl (R_mv rfl ?_))))))
 refine Ops_seg 5 (fun T H=>T 1=(iV (i))∧T 2=(V.mp 2 1 0 0)∧T 21=(V.bool (decide (((s.a) < (0:Int))∨((i)≤(s.a)))))∧H 2=(bk 1 56 3 [[(ints s.p),(iV (s.a)),(ints s.x)]])∧True) ?_ ?_
 ·
  by_cases g2:(s.a) < (0:Int)
  ·
   refine G_n (edT g2 rfl) (G_n (edT g2 rfl) (G_n (edT g2 rfl) (G_n (edT g2 rfl) (R_pickT (edT g2 rfl) rfl ?_))))
   exact ⟨rfl,rfl,(dec_orT g2),rfl,trivial⟩
  ·
   refine G_yes (edF g2 rfl) (R_fk rfl rfl (G_yes (edF g2 rfl) (R_lk rfl rfl rfl rfl (G_yes (edF g2 rfl) (R_mv rfl (G_yes (edF g2 rfl) (R_geq rfl rfl ?_)))))))
   refine R_pickF (edF g2 rfl) rfl ?_
   exact ⟨rfl,rfl,(dec_orF g2),rfl,trivial⟩
 intro T H ⟨t1,t2,t21,h2,_⟩
 refine R_e ?_
 refine W_seq_if t21 (fun c3=>?_) fun c3=>?_
 ·
  refine W_seq_seq (W_r (R_mv rfl (R_e (W_seq_ret ?_))))
  refine Ret_1 (@rfl V (iV (2:Int))) (fz_int ?_)
  · unfold prS; rw [if_neg (by omega),if_pos (by omega)]
 refine W_seq_skip (W_seq_seq (W_r (R_fk t2 h2 (R_lk rfl h2 rfl rfl (R_len rfl (R_eql rfl rfl (R_e ?_)))))))
 refine W_seq_if rfl (fun c4=>?_) fun c4=>?_
 ·
  refine W_seq_seq (W_r (R_mv rfl (R_e (W_seq_ret ?_))))
  refine Ret_1 (@rfl V (iV (19:Int))) (fz_int ?_)
  · unfold prS; rw [if_neg (by omega),if_neg (by omega),if_pos (by omega)]
 refine W_seq_skip (W_r (R_fk t2 h2 (R_lk rfl h2 rfl rfl (R_mv t1 (R_callk (rcheck_pure s.x ((i))) rfl (R_mv rfl (R_e ?_)))))))
 refine W_ret ?_
 refine Ret_1 (@rfl V (iV (wchk s.x ((i))))) (fz_int ?_)
 · unfold prS; rw [if_neg (by omega),if_neg (by omega),if_neg (by omega)]
def r75_10:List SO:=[
 qM 24 6,
 qM 25 24,
 ⟨some (25,true),some 26,.mv (.t 3)⟩,
 ⟨some (25,true),some 27,.mv (.t 7)⟩,
 ⟨some (25,true),some 28,.idx 1 (.t 26) (.t 27)⟩,
 ⟨some (25,true),some 29,.load false 1 (.t 28)⟩,
 ⟨some (25,true),some 30,.len (.t 29)⟩,
 ⟨some (25,true),some 31,.mv (.t 3)⟩,
 ⟨some (25,true),some 32,.mv (.t 5)⟩,
 ⟨some (25,true),some 33,.idx 1 (.t 31) (.t 32)⟩,
 ⟨some (25,true),some 34,.load false 1 (.t 33)⟩,
 ⟨some (25,true),some 35,.len (.t 34)⟩,
 ⟨some (25,true),some 36,.bin .eql (.t 30) (.t 35)⟩,
 ⟨some (25,true),some 37,.mv (.t 36)⟩,
 ⟨some (37,false),some 38,.mv (.t 3)⟩,
 ⟨some (37,false),some 39,.mv (.t 7)⟩,
 ⟨some (37,false),some 40,.idx 1 (.t 38) (.t 39)⟩,
 ⟨some (37,false),some 41,.load false 1 (.t 40)⟩,
 ⟨some (37,false),some 42,.mv (.t 3)⟩,
 ⟨some (37,false),some 43,.mv (.t 5)⟩,
 ⟨some (37,false),some 44,.idx 1 (.t 42) (.t 43)⟩,
 ⟨some (37,false),some 45,.load false 1 (.t 44)⟩,
 ⟨some (37,false),some 46,.call false 128 [.t 41,.t 45]⟩,
 ⟨some (37,false),some 47,.un .not (.t 46)⟩,
 ⟨some (25,true),some 48,.pick (.t 37) (.c (.bool true)) (.t 47)⟩,
 sO 49 (.pick (.t 25) (.t 48) (.c (.bool false))),
 qM 6 49]
def b75_1:SC:=.seq (.seq (.reg [qM 18 7,qM 19 3,qN 20 19,qP 21 .lss 18 20]) (.cond (.t 21) (.skip) (.exit 2))) (.seq (.block 3 (.reg r75_10)) (.reg [qM 22 7,qC 23 .add 22 1,qM 7 23]))
def r75_12:List SO:=[
 qM 51 4,
 qM 52 3,
 qM 53 5,
 qA 54 1 52 53,
 ql 55 54,
 sO 56 (.bslice 54 1 false [.nilsl] 1 [(0,.t 55)]),
 sO 57 (.append 54 1 24 (.t 51) (.t 56)),
 qM 4 57]
def b75_0:SC:=.seq (.seq (.reg [qM 10 5,qM 11 3,qN 12 11,qP 13 .lss 10 12]) (.cond (.t 13) (.skip) (.exit 0))) (.seq (.block 1 (.seq (.reg [sO 6 (.mv (.c (.bool true)))]) (.seq (.seq (.reg [qM 16 5,qC 17 .add 16 1,qM 7 17]) (.block 2 (.loop b75_1))) (.seq (.reg [qM 50 6]) (.cond (.t 50) (.reg r75_12) (.skip)))))) (.reg [qM 14 5,qC 15 .add 14 1,qM 5 15]))
def s75:SF:=⟨59,[.tmp 2],.seq (.reg [sO 2 (.mv (.c (.nilsl)))]) (.seq (.reg [qM 8 0,sO 9 (.call false 63 [.t 8]),qM 3 9]) (.seq (.reg [sO 4 (.lazy 54 1)]) (.seq (.seq (.reg [qI 5 0]) (.block 0 (.loop b75_0))) (.seq (.reg [qM 58 4,qM 2 58]) (.ret)))))⟩
theorem s75_ok:slimF Tryz.prog ⟨[107,108,109,116,120,126,127,167,169,170,171,172,194,196,198,209,222,226],[4]⟩ Tryz.f75=some s75:=by kernel_rfl
theorem rmaximal_pure (l:List (List Int)) (hl:l.length≤10000) (hw: ∀ w∈l,w.length≤1048576):PureC Tryz.prog 75 [(intss l)] (intss (mxW l)):=by
 refine pW Tryz.func75 s75_ok fun hB=>?_
 unfold s75
 dsimp only
 refine W_r (R_mv rfl (R_e (W_r (R_mv rfl (R_callk (rsorted_pure l (by omega) (by omega)) rfl (R_mv rfl (R_e ?_)))))))
 refine W_r (R_lazy (i:=4) (n:=0) rfl (congrArg Blk.ver rfl) (R_e (W_seq_seq (W_r (R_mv rfl (R_e (W_seq_blockg fun Q1 n1 x1 y1 z1=>?_)))))))
 refine W_loop (fun mm T H=> ∃ (k:Nat) (v:Nat),mm=(sdW l).length - k∧T 3=(intss (sdW l))∧T 4=(V.ms 4 v 0 ((mxT l k).length))∧T 5=(iV ((k:Nat):Int))∧H 4=(bz v 54 1 (List.map cL (mxT l k)))∧(k≤(sdW l).length)) ?_ ?_
 ·
  refine ⟨_,0,1,rfl,rfl,(Eq.trans (@rfl V (V.ms 4 1 0 (0))) (by rfl)),(Eq.trans (@rfl V (iV (0:Int))) rfl),(Eq.trans (@rfl Blk (bz 1 54 1 [])) (by rfl)),?_⟩
  · omega
 intro mm T H ⟨k,v,hmm,t3,t4,t5,h4,hk⟩ Q2 p12 p22 p32
 unfold b75_0
 have q1:=mxT_len l k
 have q2:=sdW_len l
 refine W_seq_seq (W_r (R_mv t5 (R_mv t3 (R_len rfl (R_lss rfl rfl (R_e ?_))))))
 refine W_seq_if rfl (fun c3=>?_) fun c3=>?_
 ·
  refine W_seq_skip (W_seq_blockg fun Q4 n4 x4 y4 z4=>(W_r (R_mv rfl (R_e (W_seq_seq (W_r (R_mv t5 ?_)))))))
  refine R_addN rfl (@rfl V (iV ((1:Nat):Int))) (by omega) (R_mv rfl (R_e (W_seq_blockg fun Q5 n5 x5 y5 z5=>?_)))
  refine W_loop (fun mm T H=> ∃ (j:Nat),mm=(sdW l).length - j∧T 3=(intss (sdW l))∧T 4=(V.ms 4 v 0 ((mxT l k).length))∧T 5=(iV ((k:Nat):Int))∧T 6=(V.bool (tpB (sdW l) k j))∧T 7=(iV ((j:Nat):Int))∧H 4=(bz v 54 1 (List.map cL (mxT l k)))∧(k < j)∧(j≤(sdW l).length)) ?_ ?_
  ·
   refine ⟨_,(k+1),rfl,t3,t4,t5,(Eq.trans (@rfl V (V.bool true)) (by (rw [tp_start (by omega)]; done))),(Eq.trans (@rfl V (iV ((k+1:Nat):Int))) (by rfl)),h4,?_,?_⟩
   · omega
   · omega
  intro mm T H ⟨j,hmm,t3,t4,t5,t6,t7,h4,hj,hj2⟩ Q6 p16 p26 p36
  unfold b75_1
  refine W_seq_seq (W_r (R_mv t7 (R_mv t3 (R_len rfl (R_lss rfl rfl (R_e ?_))))))
  refine W_seq_if rfl (fun c7=>?_) fun c7=>?_
  ·
   refine W_seq_skip (W_seq_blockg fun Q8 n8 x8 y8 z8=>(W_t (R_mv t6 (R_mv rfl ?_))))
   refine Ops_seg 24 (fun T H=>T 3=(intss (sdW l))∧T 4=(V.ms 4 v 0 ((mxT l k).length))∧T 5=(iV ((k:Nat):Int))∧T 6=(V.bool (tpB (sdW l) k j))∧T 7=(iV ((j:Nat):Int))∧T 49=(V.bool (((tpB (sdW l) k j)&&((decide (((((nth (sdW l) (j))).length:Nat):Int)=((((nth (sdW l) (k))).length:Nat):Int))||((!hp ((nth (sdW l) (j))) ((nth (sdW l) (k))))))))))∧H 4=(bz v 54 1 (List.map cL (mxT l k)))∧True) ?_ ?_
   ·
    by_cases g9:(tpB (sdW l) k j)=true
    ·
     refine G_yes (ebT g9 rfl) (R_mv t3 (G_yes (ebT g9 rfl) (R_mv t7 (G_yes (ebT g9 rfl) (R_idx (i:=j) (@rfl V (intss (sdW l))) (@rfl V (iV ((j:Nat):Int))) (by omega) rfl (G_yes (ebT g9 rfl) (R_load_pp rfl rfl ?_)))))))
     refine G_yes (ebT g9 rfl) (R_len rfl (G_yes (ebT g9 rfl) (R_mv t3 (G_yes (ebT g9 rfl) (R_mv t5 (G_yes (ebT g9 rfl) (R_idx (i:=k) (@rfl V (intss (sdW l))) (@rfl V (iV ((k:Nat):Int))) (by omega) rfl ?_)))))))
     refine G_yes (ebT g9 rfl) (R_load_pp rfl rfl (G_yes (ebT g9 rfl) (R_len rfl (G_yes (ebT g9 rfl) (R_eql rfl rfl (G_yes (ebT g9 rfl) (R_mv rfl ?_)))))))
     refine Ops_seg 11 (fun T H=>T 3=(intss (sdW l))∧T 4=(V.ms 4 v 0 ((mxT l k).length))∧T 5=(iV ((k:Nat):Int))∧T 6=(V.bool (tpB (sdW l) k j))∧T 7=(iV ((j:Nat):Int))∧T 25=(V.bool true)∧T 26=(intss (sdW l))∧T 27=(iV ((j:Nat):Int))∧T 28=(V.pp [(ints ((nth (sdW l) (j))))])∧T 29=(ints ((nth (sdW l) (j))))∧T 30=(iV ((((nth (sdW l) (j))).length:Nat):Int))∧T 31=(intss (sdW l))∧T 32=(iV ((k:Nat):Int))∧T 33=(V.pp [(ints ((nth (sdW l) (k))))])∧T 34=(ints ((nth (sdW l) (k))))∧T 35=(iV ((((nth (sdW l) (k))).length:Nat):Int))∧T 36=(V.bool (decide (((((nth (sdW l) (j))).length:Nat):Int)=((((nth (sdW l) (k))).length:Nat):Int))))∧T 37=(V.bool (decide (((((nth (sdW l) (j))).length:Nat):Int)=((((nth (sdW l) (k))).length:Nat):Int))))∧T 48=(V.bool ((decide (((((nth (sdW l) (j))).length:Nat):Int)=((((nth (sdW l) (k))).length:Nat):Int))||((!hp ((nth (sdW l) (j))) ((nth (sdW l) (k))))))))∧H 4=(bz v 54 1 (List.map cL (mxT l k)))∧True) ?_ ?_
     ·
      by_cases g10:((((nth (sdW l) (j))).length:Nat):Int)=((((nth (sdW l) (k))).length:Nat):Int)
      ·
       refine G_n (edT g10 rfl) (G_n (edT g10 rfl) (G_n (edT g10 rfl) (G_n (edT g10 rfl) (G_n (edT g10 rfl) (G_n (edT g10 rfl) (G_n (edT g10 rfl) (G_n (edT g10 rfl) ?_)))))))
       refine G_n (edT g10 rfl) (G_n (edT g10 rfl) (G_yes (ebT g9 rfl) (R_pickT (edT g10 rfl) rfl ?_)))
       exact ⟨t3,t4,t5,t6,t7,(ebT g9 rfl),rfl,rfl,rfl,rfl,rfl,rfl,rfl,rfl,rfl,rfl,rfl,rfl,(dborT g10),h4,trivial⟩
      ·
       refine G_yes (edF g10 rfl) (R_mv t3 (G_yes (edF g10 rfl) (R_mv t7 (G_yes (edF g10 rfl) (R_idx (i:=j) (@rfl V (intss (sdW l))) (@rfl V (iV ((j:Nat):Int))) (by omega) rfl (G_yes (edF g10 rfl) (R_load_pp rfl rfl ?_)))))))
       refine G_yes (edF g10 rfl) (R_mv t3 (G_yes (edF g10 rfl) (R_mv t5 (G_yes (edF g10 rfl) (R_idx (i:=k) (@rfl V (intss (sdW l))) (@rfl V (iV ((k:Nat):Int))) (by omega) rfl (G_yes (edF g10 rfl) (R_load_pp rfl rfl ?_)))))))
       refine G_yes (edF g10 rfl) (R_callk (rhp_pure ((nth (sdW l) (j))) ((nth (sdW l) (k)))) rfl (G_yes (edF g10 rfl) (R_notb rfl (G_yes (ebT g9 rfl) (R_pickF (edF g10 rfl) rfl ?_)))))
       exact ⟨t3,t4,t5,t6,t7,(ebT g9 rfl),rfl,rfl,rfl,rfl,rfl,rfl,rfl,rfl,rfl,rfl,rfl,rfl,(dborF g10),h4,trivial⟩
     intro T H ⟨t3,t4,t5,t6,t7,t25,t26,t27,t28,t29,t30,t31,t32,t33,t34,t35,t36,t37,t48,h4,_⟩
     refine R_pickT t25 t48 ?_
     exact ⟨t3,t4,t5,t6,t7,(bandT g9),h4,trivial⟩
    ·
     refine G_n (ebF g9 rfl) (G_n (ebF g9 rfl) (G_n (ebF g9 rfl) (G_n (ebF g9 rfl) (G_n (ebF g9 rfl) (G_n (ebF g9 rfl) (G_n (ebF g9 rfl) (G_n (ebF g9 rfl) ?_)))))))
     refine G_n (ebF g9 rfl) (G_n (ebF g9 rfl) (G_n (ebF g9 rfl) (G_n (ebF g9 rfl) (G_raw (@rfl V (V.raw undef)) (G_raw (@rfl V (V.raw undef)) (G_raw (@rfl V (V.raw undef)) (G_raw (@rfl V (V.raw undef)) ?_)))))))
     refine G_raw (@rfl V (V.raw undef)) (G_raw (@rfl V (V.raw undef)) (G_raw (@rfl V (V.raw undef)) (G_raw (@rfl V (V.raw undef)) (G_raw (@rfl V (V.raw undef)) (G_raw (@rfl V (V.raw undef)) (G_n (ebF g9 rfl) (R_pickF (ebF g9 rfl) rfl ?_)))))))
     exact ⟨t3,t4,t5,t6,t7,(bandF g9),h4,trivial⟩
   intro T H ⟨t3,t4,t5,t6,t7,t49,h4,_⟩
   refine R_mv t49 (R_e (n8 _ _ (.done (W_t (R_mv t7 (R_addN rfl (@rfl V (iV ((1:Nat):Int))) (by omega) (R_mv rfl ?_)))))))
   refine R_e ?_
   refine p16 _ _ _ ?_ ⟨(j+1),rfl,t3,t4,t5,(Eq.trans (@rfl V (V.bool (((tpB (sdW l) k j)&&((decide (((((nth (sdW l) (j))).length:Nat):Int)=((((nth (sdW l) (k))).length:Nat):Int))||((!hp ((nth (sdW l) (j))) ((nth (sdW l) (k))))))))))) (by (rw [tp_step (by omega)]; done))),(Eq.trans (@rfl V (iV ((j+1:Nat):Int))) (by rfl)),h4,?_,?_⟩
   · omega
   · omega
   · omega
  refine W_seq_exit (p36 _ _ _ (x5 _ _ (.done (W_r (R_mv t6 (R_e ?_))))))
  refine W_ifb rfl (fun c11=>?_) (fun c11=>?_)
  ·
   have d1:tpB (sdW l) k (sdW l).length=true:=by rw [show (sdW l).length=j by omega]; exact c11
   refine W_t (R_mv t4 (R_mv t3 (R_mv t5 (R_idx (i:=k) (@rfl V (intss (sdW l))) (@rfl V (iV ((k:Nat):Int))) (by omega) rfl (R_load_pp rfl rfl (R_bslice rfl rfl (R_append1 (l:=(mxT l k)) (f:=cL) (x:=((nth (sdW l) (k)))) (@rfl V (V.ms 4 v 0 ((mxT l k).length))) h4 (by rfl) (@rfl V (V.sl [[(ints ((nth (sdW l) (k))))]])) rfl rfl (by omega) (by omega) ?_)))))))
   refine R_mv rfl (R_e (n4 _ _ (.done (W_t (R_mv t5 (R_addN rfl (@rfl V (iV ((1:Nat):Int))) (by omega) (R_mv rfl ?_)))))))
   refine R_e ?_
   refine p12 _ _ _ ?_ ⟨(k+1),(v+1),rfl,t3,(Eq.trans (@rfl V (V.ms 4 (v+1) 0 (((mxT l k).length)+1))) (by (rw [mxT_yes (by omega) d1,List.length_append]; rfl))),(Eq.trans (@rfl V (iV ((k+1:Nat):Int))) (by rfl)),(Eq.trans (@rfl Blk (bz (v+1) 54 1 (List.map cL (mxT l k++[(nth (sdW l) (k))])))) (by (rw [mxT_yes (by omega) d1]; done))),?_⟩
   · omega
   · omega
  have d1:tpB (sdW l) k (sdW l).length=false:=by rw [show (sdW l).length=j by omega]; simpa using c11
  refine W_skip (n4 _ _ (.done (W_t (R_mv t5 (R_addN rfl (@rfl V (iV ((1:Nat):Int))) (by omega) (R_mv rfl (R_e ?_)))))))
  refine p12 _ _ _ ?_ ⟨(k+1),v,rfl,t3,(Eq.trans t4 (by (rw [mxT_no (by omega) d1]; done))),(Eq.trans (@rfl V (iV ((k+1:Nat):Int))) (by rfl)),(Eq.trans h4 (by (rw [mxT_no (by omega) d1]; done))),?_⟩
  · omega
  · omega
 refine W_seq_exit (p32 _ _ _ (x1 _ _ (.done (W_r (R_mv t4 (R_mv rfl (R_e ?_)))))))
 refine W_ret ?_
 refine Ret_1 (@rfl V (V.ms 4 v 0 ((mxT l k).length))) (fz_ms h4 (by simp) (l:=(mxT l k)) rfl (by rfl) (fun _=>by simp) ?_)
 · rw [mxT_end (by omega)]
def r76_25:List SO:=[
 qF 79 0 21,
 ql 80 79,
 qM 81 1,
 qA 82 5 80 81,
 qF 83 1 82,
 ql 84 83,
 qM 22 84]
def r76_26:List SO:=[
 qM 85 2,
 sO 86 (.bslice 54 1 false [.nilsl] 1 [(0,.t 85)]),
 sO 87 (.call false 64 [.t 86]),
 sO 88 (.build [.bool false,.nilsl,.nilsl,.nilsl,.nilsl] [(2,1,.t 87)]),
 qM 89 3,
 sO 90 (.bslice 54 1 false [.nilsl] 1 [(0,.t 89)]),
 sO 91 (.call false 64 [.t 90]),
 qM 92 20,
 sO 93 (.call false 117 [.t 88,.t 91,.t 92]),
 sO 23 (.alloc 99 [.bool false,.nilsl,.nilsl,.nilsl,.nilsl]),
 sN (.store 5 (.t 23) (.t 93))]
def r76_27:List SO:=[
 qF 94 0 21,
 ql 95 94,
 qM 96 1,
 qL 97 5 23,
 qM 98 5,
 sO 99 (.bslice 54 1 false [.nilsl] 1 [(0,.t 98)]),
 sO 100 (.call false 64 [.t 99]),
 qM 101 20,
 qC 102 .add 101 1,
 sO 103 (.call false 117 [.t 97,.t 100,.t 102]),
 qA 104 5 95 96,
 sN (.store 5 (.t 104) (.t 103))]
def r76_28:List SO:=[
 qF 105 0 21,
 ql 106 105,
 qM 107 22,
 sO 108 (.build [.bool false,.nilsl,.nilsl,.nilsl,.nilsl] [(0,1,.c (.bool true)),(1,1,.t 107)]),
 qM 109 4,
 sO 110 (.bslice 54 1 false [.nilsl] 1 [(0,.t 109)]),
 sO 111 (.call false 64 [.t 110]),
 sO 112 (.build [.bool false,.nilsl,.nilsl,.nilsl,.nilsl] [(0,1,.c (.bool true)),(1,1,.t 111)]),
 sO 113 (.bslice 99 5 false [.bool false,.nilsl,.nilsl,.nilsl,.nilsl] 2 [(0,.t 108),(1,.t 112)]),
 sO 114 (.append 99 5 104 (.t 106) (.t 113)),
 qF 115 0 21,
 sN (.store 1 (.t 115) (.t 114))]
def s76:SF:=⟨117,[.cell 12 true 1,.tmp 13],.seq (.reg [sO 6 (.box 24 1 (.t 0)),sO 12 (.alloc 24 [.nilsl]),qI 13 0]) (.seq (.seq (.reg [qL 24 1 6,sO 25 (.call false 77 [.t 24]),qM 14 25]) (.seq (.reg [qM 26 14,qC 27 .neq 26 0]) (.cond (.t 27) (.seq (.reg [qL 28 1 6,qM 29 14,sN (.store 1 (.t 12) (.t 28)),qM 13 29]) (.ret)) (.skip)))) (.seq (.seq (.reg [qL 30 1 6,qM 31 1,sO 32 (.call false 113 [.t 30,.t 31,.c (.bool true)]),qM 15 32]) (.seq (.reg [qM 33 15,qC 34 .neq 33 0]) (.cond (.t 34) (.seq (.reg [qL 35 1 6,qM 36 15,sN (.store 1 (.t 12) (.t 35)),qM 13 36]) (.ret)) (.skip)))) (.seq (.seq (.reg [qM 37 2,sO 38 (.call false 129 [.t 37]),qM 16 38]) (.seq (.reg [qM 39 16,qC 40 .neq 39 0]) (.cond (.t 40) (.seq (.reg [qL 41 1 6,qM 42 16,sN (.store 1 (.t 12) (.t 41)),qM 13 42]) (.ret)) (.skip)))) (.seq (.seq (.reg [qM 43 3,qM 44 2,sO 45 (.call false 114 [.t 43,.t 44]),qM 17 45]) (.seq (.reg [qM 46 17,qC 47 .neq 46 0]) (.cond (.t 47) (.seq (.reg [qL 48 1 6,qM 49 17,sN (.store 1 (.t 12) (.t 48)),qM 13 49]) (.ret)) (.skip)))) (.seq (.seq (.reg [qL 50 1 6,qM 51 4,sO 52 (.call false 115 [.t 50,.t 51]),qM 18 52]) (.seq (.reg [qM 53 18,qC 54 .neq 53 0]) (.cond (.t 54) (.seq (.reg [qL 55 1 6,qM 56 18,sN (.store 1 (.t 12) (.t 55)),qM 13 56]) (.ret)) (.skip)))) (.seq (.seq (.reg [qM 57 5,qM 58 2,sO 59 (.call false 114 [.t 57,.t 58]),qM 19 59]) (.seq (.reg [qM 60 19,qC 61 .neq 60 0]) (.cond (.t 61) (.seq (.reg [qL 62 1 6,qM 63 19,sN (.store 1 (.t 12) (.t 62)),qM 13 63]) (.ret)) (.skip)))) (.seq (.seq (.reg [qM 64 3,qM 65 5,sO 66 (.call false 58 [.t 64,.t 65])]) (.cond (.t 66) (.seq (.reg [qL 67 1 6,sN (.store 1 (.t 12) (.t 67)),qI 13 15]) (.ret)) (.skip))) (.seq (.seq (.reg [qF 68 0 6,ql 69 68,qN 70 69,qC 71 .add 70 2,qC 72 .gtr 71 4096]) (.cond (.t 72) (.seq (.reg [qL 73 1 6,sN (.store 1 (.t 12) (.t 73)),qI 13 11]) (.ret)) (.skip))) (.seq (.reg [qF 74 0 6,ql 75 74,qN 76 75,qM 20 76]) (.seq (.reg [qL 77 1 6,sO 78 (.call true 116 [.t 77]),sO 21 (.alloc 24 [.nilsl]),sN (.store 1 (.t 21) (.t 78))]) (.seq (.reg r76_25) (.seq (.reg r76_26) (.seq (.reg r76_27) (.seq (.reg r76_28) (.seq (.reg [qL 116 1 21,sN (.store 1 (.t 12) (.t 116)),qI 13 0]) (.ret))))))))))))))))⟩
theorem s76_ok:slimF Tryz.prog ⟨[107,108,109,116,120,126,127,167,169,170,171,172,194,196,198,209,222,226],[]⟩ Tryz.f76=some s76:=by kernel_rfl
def r113_1:List SO:=[
 qM 7 1,
 qC 8 .lss 7 0,
 qM 9 8,
 ⟨some (9,false),some 10,.mv (.t 1)⟩,
 ⟨some (9,false),some 11,.fld 0 (.t 3)⟩,
 ⟨some (9,false),some 12,.load false 1 (.t 11)⟩,
 ⟨some (9,false),some 13,.len (.t 12)⟩,
 ⟨some (9,false),some 14,.bin .geq (.t 10) (.t 13)⟩,
 sO 15 (.pick (.t 9) (.c (.bool true)) (.t 14))]
def r113_3:List SO:=[
 qF 16 0 3,
 ql 17 16,
 qM 18 1,
 qA 19 5 17 18,
 qF 20 0 19,
 ql 21 20,
 qM 22 2,
 sO 23 (.bbin .neq (.t 21) (.t 22))]
def s113:SF:=⟨24,[.tmp 6],.seq (.reg [sO 3 (.box 24 1 (.t 0)),qI 6 0]) (.seq (.seq (.reg r113_1) (.cond (.t 15) (.seq (.reg [qI 6 2]) (.ret)) (.skip))) (.seq (.seq (.reg r113_3) (.cond (.t 23) (.seq (.reg [qI 6 10]) (.ret)) (.skip))) (.seq (.reg [qI 6 0]) (.ret))))⟩
theorem s113_ok:slimF Tryz.prog ⟨[107,108,109,116,120,126,127,167,169,170,171,172,194,196,198,209,222,226],[]⟩ Tryz.f113=some s113:=by kernel_rfl
theorem rkind_pure (t:Dt) (n:Int) (b:Bool):PureC Tryz.prog 113 [(V.agg [(V.sl (List.map cN (t.nd)))]),(iV (n)),(V.bool b)] (iV (noE t n b)):=by
 refine pW Tryz.func113 s113_ok fun hB=>?_
 unfold s113
 dsimp only
 refine W_r (R_box (i:=3) (n:=0) (m:=1) (cs:=[(V.sl (List.map cN (t.nd)))]) rfl (congrArg Blk.ver rfl) rfl rfl rfl (R_mv rfl (R_e (W_seq_seq (W_r (R_mv rfl (R_lss rfl rfl ?_)))))))
 refine R_mv rfl ?_
 refine Ops_seg 6 (fun T H=>T 1=(iV (n))∧T 2=(V.bool b)∧T 3=(V.mp 3 1 0 0)∧T 15=(V.bool (decide (((n) < (0:Int))∨(((t.nd.length:Nat):Int)≤(n)))))∧H 3=(bk 1 24 1 [[(V.sl (List.map cN (t.nd)))]])∧True) ?_ ?_
 ·
  by_cases g1:(n) < (0:Int)
  ·
   refine G_n (edT g1 rfl) (G_n (edT g1 rfl) (G_n (edT g1 rfl) (G_n (edT g1 rfl) (G_n (edT g1 rfl) (R_pickT (edT g1 rfl) rfl ?_)))))
   exact ⟨rfl,rfl,rfl,(dec_orT g1),rfl,trivial⟩
  ·
   refine G_yes (edF g1 rfl) (R_mv rfl (G_yes (edF g1 rfl) (R_fk rfl rfl (G_yes (edF g1 rfl) (R_lk rfl rfl rfl rfl (G_yes (edF g1 rfl) (R_len rfl ?_)))))))
   refine G_yes (edF g1 rfl) (R_geq rfl rfl (R_pickF (edF g1 rfl) rfl ?_))
   exact ⟨rfl,rfl,rfl,(dec_orF g1),rfl,trivial⟩
 intro T H ⟨t1,t2,t3,t15,h3,_⟩
 refine R_e ?_
 refine W_seq_if t15 (fun c2=>?_) fun c2=>?_
 ·
  refine W_seq_seq (W_r (R_mv rfl (R_e (W_seq_ret ?_))))
  refine Ret_1 (@rfl V (iV (2:Int))) (fz_int ?_)
  · rw [noE,if_pos (by omega)]
 refine W_seq_skip (W_seq_seq (W_r (R_fk t3 h3 (R_lk rfl h3 rfl rfl (R_mv t1 (R_idxI (i:=(n)) (@rfl V (V.sl (List.map cN (t.nd)))) (@rfl V (iV (n))) (by omega) (by omega) rfl (R_fld_pp (cs':=(cN (((nth (t.nd) (n).toNat))))) rfl rfl ?_)))))))
 refine R_load_pp rfl rfl (R_mv t2 (R_bneq (x:=(((nth (t.nd) (n).toNat)).lf)) (y:=b) rfl rfl (R_e ?_)))
 refine W_seq_ifb rfl (fun c3=>?_) (fun c3=>?_)
 ·
  have d1:(nth t.nd n.toNat).lf≠b:=by simpa using c3
  refine W_seq_seq (W_r (R_mv rfl (R_e (W_seq_ret ?_))))
  refine Ret_1 (@rfl V (iV (10:Int))) (fz_int ?_)
  · rw [noE,if_neg (by omega),if_pos d1]
 have d1: ¬((nth t.nd n.toNat).lf≠b):=by simpa using c3
 refine W_seq_skip (W_r (R_mv rfl (R_e (W_ret ?_))))
 refine Ret_1 (@rfl V (iV (0:Int))) (fz_int ?_)
 · rw [noE,if_neg (by omega),if_neg d1]
def s115:SF:=⟨15,[.tmp 4],.seq (.reg [sO 2 (.box 24 1 (.t 0)),qI 4 0]) (.seq (.seq (.reg [qM 6 1,sO 7 (.call false 80 [.t 6,.c (.int .i64 64)]),qM 5 7]) (.seq (.reg [qM 8 5,qC 9 .neq 8 0]) (.cond (.t 9) (.seq (.reg [qM 10 5,qM 4 10]) (.ret)) (.skip)))) (.seq (.seq (.reg [qL 11 1 2,sO 12 (.call false 54 [.t 11]),qM 13 1,sO 14 (.call false 81 [.t 12,.t 13])]) (.cond (.t 14) (.seq (.reg [qI 4 7]) (.ret)) (.skip))) (.seq (.reg [qI 4 0]) (.ret))))⟩
theorem s115_ok:slimF Tryz.prog ⟨[107,108,109,116,120,126,127,167,169,170,171,172,194,196,198,209,222,226],[]⟩ Tryz.f115=some s115:=by kernel_rfl
theorem rfresh_pure (t:Dt) (w:List Int) (hb:Bd t):PureC Tryz.prog 115 [(V.agg [(V.sl (List.map cN (t.nd)))]),(ints w)] (iV (fsE t w)):=by
 refine pW Tryz.func115 s115_ok fun hB=>?_
 unfold s115
 dsimp only
 refine W_r (R_box (i:=2) (n:=0) (m:=1) (cs:=[(V.sl (List.map cN (t.nd)))]) rfl (congrArg Blk.ver rfl) rfl rfl rfl (R_mv rfl (R_e (W_seq_seq (W_r (R_mv rfl (R_callk (rcheck_pure w ((64:Int))) rfl ?_)))))))
 refine R_mv rfl (R_e (W_seq_seq (W_r (R_mv rfl (R_neq rfl rfl (R_e ?_))))))
 refine W_seq_if rfl (fun c1=>?_) fun c1=>?_
 ·
  refine W_seq_seq (W_r (R_mv rfl (R_mv rfl (R_e (W_seq_ret ?_)))))
  refine Ret_1 (@rfl V (iV (wchk w ((64:Int))))) (fz_int ?_)
  · rw [fsE,if_pos (by omega)]
 refine W_seq_skip (W_seq_seq (W_r (R_lk rfl rfl rfl rfl (R_callk (raccess_pure t hb) rfl (R_mv rfl (R_callk (rhas_pure (acL t.nd) w) rfl (R_e ?_)))))))
 refine W_seq_if rfl (fun c2=>?_) fun c2=>?_
 ·
  have d1:w∈acL t.nd:=by simpa using c2
  refine W_seq_seq (W_r (R_mv rfl (R_e (W_seq_ret ?_))))
  refine Ret_1 (@rfl V (iV (7:Int))) (fz_int ?_)
  · rw [fsE,if_neg (by omega),if_pos d1]
 have d1: ¬(w∈acL t.nd):=by simpa using c2
 refine W_seq_skip (W_r (R_mv rfl (R_e (W_ret ?_))))
 refine Ret_1 (@rfl V (iV (0:Int))) (fz_int ?_)
 · rw [fsE,if_neg (by omega),if_neg d1]
def r116_5:List SO:=[
 qF 15 0 1,
 ql 16 15,
 qM 17 4,
 qA 18 5 16 17,
 qL 19 5 18,
 sO 5 (.alloc 99 [.bool false,.nilsl,.nilsl,.nilsl,.nilsl]),
 sN (.store 5 (.t 5) (.t 19))]
def r116_6:List SO:=[
 qF 20 0 5,
 ql 21 20,
 qF 22 1 5,
 ql 23 22,
 sO 24 (.bslice 54 1 false [.nilsl] 1 [(0,.t 23)]),
 sO 25 (.call false 64 [.t 24]),
 qF 26 2 5,
 ql 27 26,
 sO 28 (.bslice 54 1 false [.nilsl] 1 [(0,.t 27)]),
 sO 29 (.call false 64 [.t 28]),
 qF 30 4 5,
 ql 31 30,
 sO 32 (.bslice 54 1 false [.nilsl] 1 [(0,.t 31)]),
 sO 33 (.call false 64 [.t 32]),
 sO 34 (.build [.bool false,.nilsl,.nilsl,.nilsl,.nilsl] [(0,1,.t 21),(1,1,.t 25),(2,1,.t 29),(4,1,.t 33)]),
 sO 6 (.alloc 99 [.bool false,.nilsl,.nilsl,.nilsl,.nilsl]),
 sN (.store 5 (.t 6) (.t 34))]
def r116_10:List SO:=[
 qF 42 3 6,
 ql 43 42,
 qF 44 3 5,
 ql 45 44,
 qM 46 7,
 qA 47 1 45 46,
 ql 48 47,
 sO 49 (.bslice 54 1 false [.nilsl] 1 [(0,.t 48)]),
 sO 50 (.call false 64 [.t 49]),
 sO 51 (.bslice 54 1 false [.nilsl] 1 [(0,.t 50)]),
 sO 52 (.append 54 1 24 (.t 43) (.t 51)),
 qF 53 3 6,
 sN (.store 1 (.t 53) (.t 52))]
def b116_1:SC:=.seq (.seq (.reg [qM 35 7,qF 36 3 5,ql 37 36,qN 38 37,qP 39 .lss 35 38]) (.cond (.t 39) (.skip) (.exit 2))) (.seq (.block 3 (.reg r116_10)) (.reg [qM 40 7,qC 41 .add 40 1,qM 7 41]))
def r116_11:List SO:=[
 qF 54 0 3,
 ql 55 54,
 qL 56 5 6,
 sO 57 (.bslice 99 5 false [.bool false,.nilsl,.nilsl,.nilsl,.nilsl] 1 [(0,.t 56)]),
 sO 58 (.append 99 5 104 (.t 55) (.t 57)),
 qF 59 0 3,
 sN (.store 1 (.t 59) (.t 58))]
def b116_0:SC:=.seq (.seq (.reg [qM 8 4,qF 9 0 1,ql 10 9,qN 11 10,qP 12 .lss 8 11]) (.cond (.t 12) (.skip) (.exit 0))) (.seq (.block 1 (.seq (.reg r116_5) (.seq (.dreg [6] r116_6) (.seq (.seq (.reg [qI 7 0]) (.block 2 (.loop b116_1))) (.reg r116_11))))) (.reg [qM 13 4,qC 14 .add 13 1,qM 4 14]))
def s116:SF:=⟨61,[.cell 2 true 1],.seq (.reg [sO 1 (.box 24 1 (.t 0)),sO 2 (.alloc 24 [.nilsl])]) (.seq (.reg [sO 3 (.alloc 24 [.nilsl])]) (.seq (.seq (.reg [qI 4 0]) (.block 0 (.loop b116_0))) (.seq (.reg [qL 60 1 3,sN (.store 1 (.t 2) (.t 60))]) (.ret))))⟩
theorem s116_ok:slimF Tryz.prog ⟨[107,108,109,116,120,126,127,167,169,170,171,172,194,196,198,209,222,226],[]⟩ Tryz.f116=some s116:=by kernel_rfl
theorem rcopied_E (t:Dt) (u1 u2 u3 u5 u6 u53 u63:Nat) (Hi:Heap) (hb:Bd t) (h301:(Hi 301).ver=u1) (h302:(Hi 302).ver=u2) (h303:(Hi 303).ver=u3) (h305:(Hi 305).ver=u5) (h306:(Hi 306).ver=u6∧(Hi 306).live=false) (h353:(Hi 353).ver=u53) (h363:(Hi 363).ver=u63):CallOK Tryz.prog 116 [(V.agg [(V.sl (List.map cN (t.nd)))])] Hi (V.agg [(V.ms 353 (u53+1+t.nd.length) 0 (t.nd.length))]) (upd (upd (upd (upd (upd (upd (upd Hi 301 (⟨u1+1,false,false,0,0,[]⟩:Blk)) 302 (⟨u2+1,false,false,0,0,[]⟩:Blk)) 303 (⟨u3+1,false,false,0,0,[]⟩:Blk)) 305 (⟨u5+t.nd.length,false,false,0,0,[]⟩:Blk)) 306 (⟨u6+t.nd.length,false,false,0,0,[]⟩:Blk)) 363 (⟨u63+t.nd.length*1048579,false,false,0,0,[]⟩:Blk)) 353 (bz (u53+1+t.nd.length) 99 5 (List.map cN (t.nd)))):=by
 refine eW (k0:=300) Tryz.func116 s116_ok fun hB=>?_
 have hbn:=hb.n
 unfold s116
 dsimp only
 refine W_r (R_box (i:=301) (n:=u1) (m:=1) (cs:=[(V.sl (List.map cN (t.nd)))]) (by rfl) h301 rfl rfl rfl (R_alloc (i:=302) (n:=u2) (m:=1) (by rfl) h302 rfl (R_e (W_r (R_alloc (i:=303) (n:=u3) (m:=1) (by rfl) h303 rfl (R_e (W_seq_seq ?_)))))))
 refine W_seq_g (fun T H=>T 1=(V.mp 301 (u1+1) 0 0)∧T 2=(V.mp 302 (u2+1) 0 0)∧T 3=(V.mp 303 (u3+1) 0 0)∧T 4=(iV (0:Int))∧(∀ j,j∉[301,302,303,305,306,363,353]→H j=Hi j)∧H 301=(bk (u1+1) 24 1 [[(V.sl (List.map cN (t.nd)))]])∧H 302=(bk (u2+1) 24 1 [[V.nilsl]])∧H 303=(bk (u3+1) 24 1 [[V.nilsl]])∧(H 305).ver=u5∧((H 306).ver=u6∧(H 306).live=false)∧(H 353).ver=u53∧(H 363).ver=u63∧True) ?_ ?_
 ·
  refine R_mv rfl ?_
  exact R_nil ⟨rfl,rfl,rfl,rfl,(upd_out (upd_out (upd_out (fun _ _=>rfl) (by decide)) (by decide)) (by decide)),rfl,rfl,rfl,h305,h306,h353,h363,trivial⟩
 intro T H ⟨t1,t2,t3,t4,hF,h301,h302,h303,h305,h306,h353,h363,_⟩
 refine .lazyCell 353 99 5 303 0 0 [V.nilsl] (by decide) (by rw [h303]; rfl) (by rw [h303]; rfl) rfl (.done ?_)
 refine fork_ (R:=fun T H=>T 1=(V.mp 301 (u1+1) 0 0)∧T 2=(V.mp 302 (u2+1) 0 0)∧T 3=(V.mp 303 (u3+1) 0 0)∧T 4=(iV (0:Int))∧(∀ j,j∉[301,302,303,305,306,363,353]→H j=Hi j)∧H 301=(bk (u1+1) 24 1 [[(V.sl (List.map cN (t.nd)))]])∧H 302=(bk (u2+1) 24 1 [[V.nilsl]])∧H 303=(bk (u3+1) 24 1 [[(V.ms 353 (u53+1) 0 (0))]])∧(H 305).ver=u5∧((H 306).ver=u6∧(H 306).live=false)∧H 353=(bz (u53+1) 99 5 [])∧(H 363).ver=u63∧True) ⟨t1,t2,t3,t4,(upd_out (upd_out hF (by decide)) (by decide)),((upd_ne _ _ (by decide)).trans ((upd_ne _ _ (by decide)).trans h301)),((upd_ne _ _ (by decide)).trans ((upd_ne _ _ (by decide)).trans h302)),(by rw [upd_same,h303,h353]; rfl),((congrArg Blk.ver ((upd_ne _ _ (by decide)).trans (upd_ne _ _ (by decide)))).trans h305),⟨(congrArg Blk.ver ((upd_ne _ _ (by decide)).trans (upd_ne _ _ (by decide)))).trans (h306).1,(congrArg Blk.live ((upd_ne _ _ (by decide)).trans (upd_ne _ _ (by decide)))).trans (h306).2⟩,(by rw [upd_ne _ _ (by decide),upd_same,h353]),((congrArg Blk.ver ((upd_ne _ _ (by decide)).trans (upd_ne _ _ (by decide)))).trans h363),trivial⟩ ?_
 intro T H ⟨t1,t2,t3,t4,hF,h301,h302,h303,h305,h306,h353,h363,_⟩
 refine W_seq_blockg fun Q1 n1 x1 y1 z1=>?_
 refine W_loop (fun mm T H=> ∃ (k:Nat) (v363:Nat) (v305:Nat) (v306:Nat),mm=t.nd.length - k∧T 1=(V.mp 301 (u1+1) 0 0)∧T 2=(V.mp 302 (u2+1) 0 0)∧T 3=(V.mp 303 (u3+1) 0 0)∧T 4=(iV ((k:Nat):Int))∧(∀ j,j∉[301,302,303,305,306,363,353]→H j=Hi j)∧H 301=(bk (u1+1) 24 1 [[(V.sl (List.map cN (t.nd)))]])∧H 302=(bk (u2+1) 24 1 [[V.nilsl]])∧H 303=(bk (u3+1) 24 1 [[(V.ms 353 (u53+1+k) 0 (k))]])∧(H 305).ver=v305∧((H 306).ver=v306∧(H 306).live=false)∧H 353=(bz (u53+1+k) 99 5 (List.map cN (t.nd.take k)))∧(H 363).ver=v363∧(k≤t.nd.length)∧(v305=u5+k)∧(v306=u6+k)∧(v363≤u63+k*1048579)) ?_ ?_
 ·
  refine ⟨_,0,u63,u5,u6,rfl,t1,t2,t3,(Eq.trans t4 rfl),hF,h301,h302,(Eq.trans h303 (by rfl)),h305,h306,(Eq.trans h353 (by rfl)),h363,?_,?_,?_,?_⟩
  · omega
  · omega
  · omega
  · omega
 intro mm T H ⟨k,v363,v305,v306,hmm,t1,t2,t3,t4,hF,h301,h302,h303,h305,h306,h353,h363,hk,hv5,hv6,hv63⟩ Q2 p12 p22 p32
 unfold b116_0
 have q0:(t.nd.take k).length=k:=by rw [List.length_take]; omega
 refine W_seq_seq (W_r (R_mv t4 (R_fk t1 h301 (R_lk rfl h301 rfl rfl (R_len rfl (R_lss rfl rfl (R_e ?_)))))))
 refine W_seq_if rfl (fun c3=>?_) fun c3=>?_
 ·
  have r1:=hb.ac k (by omega)
  have r2:=hb.sf k (by omega)
  have r3:=hb.ou k (by omega)
  have r4:=hb.kd k (by omega)
  have r5:=hb.ol k (by omega)
  refine W_seq_skip (W_seq_blockg fun Q4 n4 x4 y4 z4=>(W_r (R_fk t1 h301 (R_lk rfl h301 rfl rfl (R_mv t4 (R_idx (i:=k) (@rfl V (V.sl (List.map cN (t.nd)))) (@rfl V (iV ((k:Nat):Int))) (by omega) rfl (R_load_pp rfl rfl ?_)))))))
  refine R_alloc (i:=305) (n:=v305) (m:=5) (by rfl) h305 rfl (R_sk rfl rfl rfl rfl rfl rfl rfl rfl rfl (R_e (W_d (by exact (lateC (h306).2 lateN)) (R_fk rfl rfl (R_lk rfl rfl rfl rfl (R_fk rfl rfl (R_lk rfl rfl rfl rfl ?_)))))))
  refine R_bslice rfl rfl (R_callk (join_pure ([((nth (t.nd) (k))).ac]) (by simp only [cat,List.append_nil]; omega)) rfl (R_fk rfl rfl (R_lk rfl rfl rfl rfl (R_bslice rfl rfl (R_callk (join_pure ([((nth (t.nd) (k))).sf]) (by simp only [cat,List.append_nil]; omega)) rfl (R_fk rfl rfl (R_lk rfl rfl rfl rfl ?_)))))))
  refine R_bslice rfl rfl (R_callk (join_pure ([((nth (t.nd) (k))).kd]) (by simp only [cat,List.append_nil]; omega)) rfl (R_build rfl rfl (R_alloc (i:=306) (n:=v306) (m:=5) (by rfl) (h306).1 rfl (R_sk rfl rfl rfl rfl rfl rfl rfl rfl rfl (R_e (W_seq_seq ?_))))))
  refine W_seq_g (fun T H=>T 1=(V.mp 301 (u1+1) 0 0)∧T 2=(V.mp 302 (u2+1) 0 0)∧T 3=(V.mp 303 (u3+1) 0 0)∧T 4=(iV ((k:Nat):Int))∧T 5=(V.mp 305 (v305+1) 0 0)∧T 6=(V.mp 306 (v306+1) 0 0)∧T 7=(iV (0:Int))∧(∀ j,j∉[301,302,303,305,306,363,353]→H j=Hi j)∧H 301=(bk (u1+1) 24 1 [[(V.sl (List.map cN (t.nd)))]])∧H 302=(bk (u2+1) 24 1 [[V.nilsl]])∧H 303=(bk (u3+1) 24 1 [[(V.ms 353 (u53+1+k) 0 (k))]])∧H 305=(bk (v305+1) 99 5 [(cN (((nth (t.nd) (k)))))])∧H 306=(bk (v306+1) 99 5 [[(V.bool (((nth (t.nd) (k))).lf)),(ints (cat ([((nth (t.nd) (k))).ac]))),(ints (cat ([((nth (t.nd) (k))).sf]))),V.nilsl,(ints (cat ([((nth (t.nd) (k))).kd])))]])∧H 353=(bz (u53+1+k) 99 5 (List.map cN (t.nd.take k)))∧(H 363).ver=v363∧True) ?_ ?_
  ·
   refine R_mv rfl ?_
   exact R_nil ⟨t1,t2,t3,t4,rfl,rfl,rfl,(upd_out (upd_out (upd_out (upd_out hF (by decide)) (by decide)) (by decide)) (by decide)),h301,h302,h303,rfl,rfl,h353,h363,trivial⟩
  intro T H ⟨t1,t2,t3,t4,t5,t6,t7,hF,h301,h302,h303,h305,h306,h353,h363,_⟩
  refine .lazyCell 363 54 1 306 0 3 [(V.bool (((nth (t.nd) (k))).lf)),(ints (cat ([((nth (t.nd) (k))).ac]))),(ints (cat ([((nth (t.nd) (k))).sf]))),V.nilsl,(ints (cat ([((nth (t.nd) (k))).kd])))] (by decide) (by rw [h306]; rfl) (by rw [h306]; rfl) rfl (.done ?_)
  refine fork_ (R:=fun T H=>T 1=(V.mp 301 (u1+1) 0 0)∧T 2=(V.mp 302 (u2+1) 0 0)∧T 3=(V.mp 303 (u3+1) 0 0)∧T 4=(iV ((k:Nat):Int))∧T 5=(V.mp 305 (v305+1) 0 0)∧T 6=(V.mp 306 (v306+1) 0 0)∧T 7=(iV (0:Int))∧(∀ j,j∉[301,302,303,305,306,363,353]→H j=Hi j)∧H 301=(bk (u1+1) 24 1 [[(V.sl (List.map cN (t.nd)))]])∧H 302=(bk (u2+1) 24 1 [[V.nilsl]])∧H 303=(bk (u3+1) 24 1 [[(V.ms 353 (u53+1+k) 0 (k))]])∧H 305=(bk (v305+1) 99 5 [(cN (((nth (t.nd) (k)))))])∧H 306=(bk (v306+1) 99 5 [[(V.bool (((nth (t.nd) (k))).lf)),(ints (cat ([((nth (t.nd) (k))).ac]))),(ints (cat ([((nth (t.nd) (k))).sf]))),(V.ms 363 (v363+1) 0 (0)),(ints (cat ([((nth (t.nd) (k))).kd])))]])∧H 353=(bz (u53+1+k) 99 5 (List.map cN (t.nd.take k)))∧H 363=(bz (v363+1) 54 1 [])∧True) ⟨t1,t2,t3,t4,t5,t6,t7,(upd_out (upd_out hF (by decide)) (by decide)),((upd_ne _ _ (by decide)).trans ((upd_ne _ _ (by decide)).trans h301)),((upd_ne _ _ (by decide)).trans ((upd_ne _ _ (by decide)).trans h302)),((upd_ne _ _ (by decide)).trans ((upd_ne _ _ (by decide)).trans h303)),((upd_ne _ _ (by decide)).trans ((upd_ne _ _ (by decide)).trans h305)),(by rw [upd_same,h306,h363]; rfl),((upd_ne _ _ (by decide)).trans ((upd_ne _ _ (by decide)).trans h353)),(by rw [upd_ne _ _ (by decide),upd_same,h363]),trivial⟩ ?_
  intro T H ⟨t1,t2,t3,t4,t5,t6,t7,hF,h301,h302,h303,h305,h306,h353,h363,_⟩
  refine W_seq_blockg fun Q5 n5 x5 y5 z5=>?_
  refine W_loop (fun mm T H=> ∃ (j:Nat) (w:Nat),mm=(nth t.nd k).ou.length - j∧T 1=(V.mp 301 (u1+1) 0 0)∧T 2=(V.mp 302 (u2+1) 0 0)∧T 3=(V.mp 303 (u3+1) 0 0)∧T 4=(iV ((k:Nat):Int))∧T 5=(V.mp 305 (v305+1) 0 0)∧T 6=(V.mp 306 (v306+1) 0 0)∧T 7=(iV ((j:Nat):Int))∧(∀ j,j∉[301,302,303,305,306,363,353]→H j=Hi j)∧H 301=(bk (u1+1) 24 1 [[(V.sl (List.map cN (t.nd)))]])∧H 302=(bk (u2+1) 24 1 [[V.nilsl]])∧H 303=(bk (u3+1) 24 1 [[(V.ms 353 (u53+1+k) 0 (k))]])∧H 305=(bk (v305+1) 99 5 [(cN (((nth (t.nd) (k)))))])∧H 306=(bk (v306+1) 99 5 [[(V.bool ((nth t.nd k).lf)),(ints (cat [(nth t.nd k).ac])),(ints (cat [(nth t.nd k).sf])),(V.ms 363 w 0 (j)),(ints (cat [(nth t.nd k).kd]))]])∧H 353=(bz (u53+1+k) 99 5 (List.map cN (t.nd.take k)))∧H 363=(bz w 54 1 (List.map cL ((nth t.nd k).ou.take j)))∧(j≤(nth t.nd k).ou.length)∧(w≤v363+1+j)) ?_ ?_
  ·
   refine ⟨_,0,(v363+1),rfl,t1,t2,t3,t4,t5,t6,(Eq.trans t7 rfl),hF,h301,h302,h303,h305,(Eq.trans h306 (by rfl)),h353,(Eq.trans h363 (by rfl)),?_,?_⟩
   · omega
   · omega
  intro mm T H ⟨j,w,hmm,t1,t2,t3,t4,t5,t6,t7,hF,h301,h302,h303,h305,h306,h353,h363,hj,hw⟩ Q6 p16 p26 p36
  unfold b116_1
  have q1:((nth t.nd k).ou.take j).length=j:=by rw [List.length_take]; omega
  refine W_seq_seq (W_r (R_mv t7 (R_fk t5 h305 (R_lk rfl h305 rfl rfl (R_len rfl (R_lss rfl rfl (R_e ?_)))))))
  refine W_seq_if rfl (fun c7=>?_) fun c7=>?_
  ·
   have r6:=r5 j (by omega)
   refine W_seq_skip (W_seq_blockg fun Q8 n8 x8 y8 z8=>(W_t (R_fk t6 h306 (R_lk rfl h306 rfl rfl (R_fk t5 h305 (R_lk rfl h305 rfl rfl (R_mv t7 ?_)))))))
   refine R_idx (i:=j) (@rfl V (intss (((nth (t.nd) (k))).ou))) (@rfl V (iV ((j:Nat):Int))) (by omega) rfl (R_load_pp rfl rfl (R_bslice rfl rfl (R_callk (join_pure ([(nth (((nth (t.nd) (k))).ou) (j))]) (by simp only [cat,List.append_nil]; omega)) rfl (R_bslice rfl rfl (R_append1 (l:=((nth t.nd k).ou.take j)) (f:=cL) (x:=(cat ([(nth (((nth (t.nd) (k))).ou) (j))]))) (@rfl V (V.ms 363 w 0 (j))) h363 (by (rw [List.length_take]; omega)) (@rfl V (V.sl [[(ints (cat ([(nth (((nth (t.nd) (k))).ou) (j))])))]])) rfl rfl (by omega) (by omega) (R_fk t6 h306 (R_sk rfl rfl rfl h306 rfl rfl rfl rfl rfl ?_)))))))
   refine R_e (n8 _ _ (.done (W_t (R_mv t7 (R_addN rfl (@rfl V (iV ((1:Nat):Int))) (by omega) (R_mv rfl (R_e ?_)))))))
   refine p16 _ _ _ ?_ ⟨(j+1),(w+1),rfl,t1,t2,t3,t4,t5,t6,(Eq.trans (@rfl V (iV ((j+1:Nat):Int))) (by rfl)),(upd_out (upd_out hF (by decide)) (by decide)),h301,h302,h303,h305,(Eq.trans (@rfl Blk (bk (v306+1) 99 5 [[(V.bool ((nth t.nd k).lf)),(ints (cat [(nth t.nd k).ac])),(ints (cat [(nth t.nd k).sf])),(V.ms 363 (w+1) 0 (j+1)),(ints (cat [(nth t.nd k).kd]))]])) (by rfl)),h353,(Eq.trans (@rfl Blk (bz (w+1) 54 1 (List.map cL ((nth t.nd k).ou.take j++[cat ([(nth (((nth (t.nd) (k))).ou) (j))])])))) (by (rw [map_cat1 (show j < (nth t.nd k).ou.length by omega)]; done))),?_,?_⟩
   · omega
   · omega
   · omega
  refine W_seq_exit (p36 _ _ _ (x5 _ _ (fork_ (R:=fun T H=>T 1=(V.mp 301 (u1+1) 0 0)∧T 2=(V.mp 302 (u2+1) 0 0)∧T 3=(V.mp 303 (u3+1) 0 0)∧T 4=(iV ((k:Nat):Int))∧T 5=(V.mp 305 (v305+1) 0 0)∧T 6=(V.mp 306 (v306+1) 0 0)∧T 7=(iV ((j:Nat):Int))∧T 39=(V.bool (decide (((j:Nat):Int) < (((((nth (t.nd) (k))).ou).length:Nat):Int))))∧(∀ j,j∉[301,302,303,305,306,363,353]→H j=Hi j)∧H 301=(bk (u1+1) 24 1 [[(V.sl (List.map cN (t.nd)))]])∧H 302=(bk (u2+1) 24 1 [[V.nilsl]])∧H 303=(bk (u3+1) 24 1 [[(V.ms 353 (u53+1+k) 0 (k))]])∧H 305=(bk (v305+1) 99 5 [(cN (((nth (t.nd) (k)))))])∧H 306=(bk (v306+1) 99 5 [[(V.bool ((nth t.nd k).lf)),(ints (cat [(nth t.nd k).ac])),(ints (cat [(nth t.nd k).sf])),(V.ms 363 w 0 (j)),(ints (cat [(nth t.nd k).kd]))]])∧H 353=(bz (u53+1+k) 99 5 (List.map cN (t.nd.take k)))∧H 363=(bz w 54 1 (List.map cL ((nth t.nd k).ou.take j)))∧True) ⟨t1,t2,t3,t4,t5,t6,t7,(@rfl V (V.bool (decide (((j:Nat):Int) < (((((nth (t.nd) (k))).ou).length:Nat):Int))))),hF,h301,h302,h303,h305,h306,h353,h363,trivial⟩ ?_)))
  intro T H ⟨t1,t2,t3,t4,t5,t6,t7,t39,hF,h301,h302,h303,h305,h306,h353,h363,_⟩
  refine frz_cellg (id:=363) (id2:=306) (rows:=[[(V.bool ((nth t.nd k).lf)),(ints (cat [(nth t.nd k).ac])),(ints (cat [(nth t.nd k).sf])),(V.ms 363 w 0 (j)),(ints (cat [(nth t.nd k).kd]))]]) (i:=0) (off:=3) (r:=[(V.bool ((nth t.nd k).lf)),(ints (cat [(nth t.nd k).ac])),(ints (cat [(nth t.nd k).sf])),(V.ms 363 w 0 (j)),(ints (cat [(nth t.nd k).kd]))]) (m:=((nth t.nd k).ou.take j)) (g:=cL) (by decide) h363 h306 (by (simp; done)) (by (rw [List.length_take]; omega)) rfl (.done ?_)
  refine fork_ (R:=fun T H=>T 1=(V.mp 301 (u1+1) 0 0)∧T 2=(V.mp 302 (u2+1) 0 0)∧T 3=(V.mp 303 (u3+1) 0 0)∧T 4=(iV ((k:Nat):Int))∧T 5=(V.mp 305 (v305+1) 0 0)∧T 6=(V.mp 306 (v306+1) 0 0)∧T 7=(iV ((j:Nat):Int))∧T 39=(V.bool (decide (((j:Nat):Int) < (((((nth (t.nd) (k))).ou).length:Nat):Int))))∧(∀ j,j∉[301,302,303,305,306,363,353]→H j=Hi j)∧H 301=(bk (u1+1) 24 1 [[(V.sl (List.map cN (t.nd)))]])∧H 302=(bk (u2+1) 24 1 [[V.nilsl]])∧H 303=(bk (u3+1) 24 1 [[(V.ms 353 (u53+1+k) 0 (k))]])∧H 305=(bk (v305+1) 99 5 [(cN (((nth (t.nd) (k)))))])∧H 306=(bk (v306+1) 99 5 [[(V.bool ((nth t.nd k).lf)),(ints (cat [(nth t.nd k).ac])),(ints (cat [(nth t.nd k).sf])),(intss ((nth t.nd k).ou.take j)),(ints (cat [(nth t.nd k).kd]))]])∧H 353=(bz (u53+1+k) 99 5 (List.map cN (t.nd.take k)))∧((H 363).ver=w∧(H 363).live=false)∧True) ⟨(fzT_q t1 rfl),(fzT_q t2 rfl),(fzT_q t3 rfl),(fzT_q t4 rfl),(fzT_q t5 rfl),(fzT_q t6 rfl),(fzT_q t7 rfl),(fzT_q t39 rfl),(upd_out (kill_out hF (by decide)) (by decide)),((upd_ne _ _ (by decide)).trans (kill_ne h301 (by decide))),((upd_ne _ _ (by decide)).trans (kill_ne h302 (by decide))),((upd_ne _ _ (by decide)).trans (kill_ne h303 (by decide))),((upd_ne _ _ (by decide)).trans (kill_ne h305 (by decide))),(upd_same _ _ _),((upd_ne _ _ (by decide)).trans (kill_ne h353 (by decide))),⟨(congrArg Blk.ver (upd_ne _ _ (by decide))).trans (kill_self (congrArg Blk.ver h363)).1,(congrArg Blk.live (upd_ne _ _ (by decide))).trans (kill_self (congrArg Blk.ver h363)).2⟩,trivial⟩ ?_
  intro T H ⟨t1,t2,t3,t4,t5,t6,t7,t39,hF,h301,h302,h303,h305,h306,h353,h363,_⟩
  refine W_t (R_fk t3 h303 (R_lk rfl h303 rfl rfl (R_lk t6 h306 rfl rfl (R_bslice rfl rfl (R_append1 (l:=(t.nd.take k)) (f:=cN) (x:=((⟨(nth t.nd k).lf,cat [(nth t.nd k).ac],cat [(nth t.nd k).sf],(nth t.nd k).ou.take j,cat [(nth t.nd k).kd]⟩:Nd))) (@rfl V (V.ms 353 (u53+1+k) 0 (k))) h353 (by (rw [List.length_take]; omega)) (@rfl V (V.sl [[(V.bool ((nth t.nd k).lf)),(ints (cat [(nth t.nd k).ac])),(ints (cat [(nth t.nd k).sf])),(intss ((nth t.nd k).ou.take j)),(ints (cat [(nth t.nd k).kd]))]])) rfl rfl (by omega) (by omega) (R_fk t3 h303 (R_sk rfl rfl rfl h303 rfl rfl rfl rfl rfl ?_)))))))
  refine R_e (n4 _ _ (fork_ (R:=fun T H=>T 1=(V.mp 301 (u1+1) 0 0)∧T 2=(V.mp 302 (u2+1) 0 0)∧T 3=(V.mp 303 (u3+1) 0 0)∧T 4=(iV ((k:Nat):Int))∧(∀ j,j∉[301,302,303,305,306,363,353]→H j=Hi j)∧H 301=(bk (u1+1) 24 1 [[(V.sl (List.map cN (t.nd)))]])∧H 302=(bk (u2+1) 24 1 [[V.nilsl]])∧H 303=(bk (u3+1) 24 1 [[(V.ms 353 (u53+1+k+1) 0 (k+1))]])∧H 305=(bk (v305+1) 99 5 [(cN (((nth (t.nd) (k)))))])∧H 306=(bk (v306+1) 99 5 [[(V.bool ((nth t.nd k).lf)),(ints (cat [(nth t.nd k).ac])),(ints (cat [(nth t.nd k).sf])),(intss ((nth t.nd k).ou.take j)),(ints (cat [(nth t.nd k).kd]))]])∧H 353=(bz (u53+1+k+1) 99 5 (List.map cN (t.nd.take k++[(⟨(nth t.nd k).lf,cat [(nth t.nd k).ac],cat [(nth t.nd k).sf],(nth t.nd k).ou.take j,cat [(nth t.nd k).kd]⟩:Nd)])))∧((H 363).ver=w∧(H 363).live=false)∧True) ⟨t1,t2,t3,t4,(upd_out (upd_out hF (by decide)) (by decide)),h301,h302,rfl,h305,h306,rfl,h363,trivial⟩ ?_))
  intro T H ⟨t1,t2,t3,t4,hF,h301,h302,h303,h305,h306,h353,h363,_⟩
  refine .freeze 306 (.done ?_)
  refine fork_ (R:=fun T H=>T 1=(V.mp 301 (u1+1) 0 0)∧T 2=(V.mp 302 (u2+1) 0 0)∧T 3=(V.mp 303 (u3+1) 0 0)∧T 4=(iV ((k:Nat):Int))∧(∀ j,j∉[301,302,303,305,306,363,353]→H j=Hi j)∧H 301=(bk (u1+1) 24 1 [[(V.sl (List.map cN (t.nd)))]])∧H 302=(bk (u2+1) 24 1 [[V.nilsl]])∧H 303=(bk (u3+1) 24 1 [[(V.ms 353 (u53+1+k+1) 0 (k+1))]])∧H 305=(bk (v305+1) 99 5 [(cN (((nth (t.nd) (k)))))])∧((H 306).ver=v306+1∧(H 306).live=false)∧H 353=(bz (u53+1+k+1) 99 5 (List.map cN (t.nd.take k++[(⟨(nth t.nd k).lf,cat [(nth t.nd k).ac],cat [(nth t.nd k).sf],(nth t.nd k).ou.take j,cat [(nth t.nd k).kd]⟩:Nd)])))∧((H 363).ver=w∧(H 363).live=false)∧True) ⟨(fzT_q t1 rfl),(fzT_q t2 rfl),(fzT_q t3 rfl),(fzT_q t4 rfl),(kill_out hF (by decide)),(kill_ne h301 (by decide)),(kill_ne h302 (by decide)),(kill_ne h303 (by decide)),(kill_ne h305 (by decide)),(kill_self (congrArg Blk.ver h306)),(kill_ne h353 (by decide)),(kill_dead h363),trivial⟩ ?_
  intro T H ⟨t1,t2,t3,t4,hF,h301,h302,h303,h305,h306,h353,h363,_⟩
  refine W_t (R_mv t4 (R_addN rfl (@rfl V (iV ((1:Nat):Int))) (by omega) (R_mv rfl (R_e ?_))))
  refine p12 _ _ _ ?_ ⟨(k+1),w,(v305+1),(v306+1),rfl,t1,t2,t3,(Eq.trans (@rfl V (iV ((k+1:Nat):Int))) (by rfl)),hF,h301,h302,(Eq.trans h303 (by rfl)),(congrArg Blk.ver h305),h306,(Eq.trans h353 (by (rw [cp_nd2 (show (nth t.nd k).ou.length≤j by omega),← take_succ_nth (show k < t.nd.length by omega)]; rfl))),(h363).1,?_,?_,?_,?_⟩
  · omega
  · omega
  · omega
  · omega
  · omega
 refine W_seq_exit (p32 _ _ _ (x1 _ _ (.done (W_r (R_lk t3 h303 rfl rfl (R_sk t2 rfl rfl h302 rfl rfl rfl rfl rfl (R_e ?_)))))))
 refine W_ret (fork_ (R:=fun T H=>T 2=(V.mp 302 (u2+1) 0 0)∧(∀ j,j∉[301,302,303,305,306,363,353]→H j=Hi j)∧H 301=(bk (u1+1) 24 1 [[(V.sl (List.map cN (t.nd)))]])∧H 302=(bk (u2+1) 24 1 [[(V.ms 353 (u53+1+k) 0 (k))]])∧H 303=(bk (u3+1) 24 1 [[(V.ms 353 (u53+1+k) 0 (k))]])∧(H 305).ver=v305∧((H 306).ver=v306∧(H 306).live=false)∧H 353=(bz (u53+1+k) 99 5 (List.map cN (t.nd.take k)))∧(H 363).ver=v363∧True) ⟨t2,(upd_out hF (by decide)),h301,rfl,h303,h305,h306,h353,h363,trivial⟩ ?_)
 intro T H ⟨t2,hF,h301,h302,h303,h305,h306,h353,h363,_⟩
 have hkn:k=t.nd.length:=by omega
 rw [hkn] at hv5 hv6 hv63
 have fh:=FinX.fin (FinX.put (B:=(bz (u53+1+t.nd.length) 99 5 (List.map cN (t.nd)))) (FinX.putv (n:=v363) (B:=(⟨u63+t.nd.length*1048579,false,false,0,0,[]⟩:Blk)) (FinX.putv (n:=v306) (B:=(⟨u6+t.nd.length,false,false,0,0,[]⟩:Blk)) (FinX.putv (n:=v305) (B:=(⟨u5+t.nd.length,false,false,0,0,[]⟩:Blk)) (FinX.putv (n:=(u3+1)) (B:=(⟨u3+1,false,false,0,0,[]⟩:Blk)) (FinX.putv (n:=(u2+1)) (B:=(⟨u2+1,false,false,0,0,[]⟩:Blk)) (FinX.putv (n:=(u1+1)) (B:=(⟨u1+1,false,false,0,0,[]⟩:Blk)) (FinX.start hF) (congrArg Blk.ver h301) (by show _≤u1+1; omega) rfl) (congrArg Blk.ver h302) (by show _≤u2+1; omega) rfl) (congrArg Blk.ver h303) (by show _≤u3+1; omega) rfl) h305 (by show _≤u5+t.nd.length; omega) rfl) (h306).1 (by show _≤u6+t.nd.length; omega) rfl) h363 (by show _≤u63+t.nd.length*1048579; omega) rfl) h353 (FinB.up (by omega) (by (rw [hkn,List.take_length]; done))))
 exact RetFC_1 (resV_c (u:=(V.agg [(V.ms 353 (u53+1+k) 0 (k))])) t2 h302 (lB oB rfl rfl)) fh (FinV.agg1 (FinV.trans_eq (FinV.ms (n:=(u53+1+t.nd.length)) fh (by simp [h353]) (by simp [h353]) rfl rfl) (by (rw [hkn]; done))))
def r117_6:List SO:=[
 qM 20 8,
 sO 21 (.un .not (.t 20)),
 qM 22 21,
 ⟨some (22,true),some 23,.mv (.t 1)⟩,
 ⟨some (22,true),some 24,.fld 3 (.t 3)⟩,
 ⟨some (22,true),some 25,.load false 1 (.t 24)⟩,
 ⟨some (22,true),some 26,.mv (.t 9)⟩,
 ⟨some (22,true),some 27,.idx 1 (.t 25) (.t 26)⟩,
 ⟨some (22,true),some 28,.load false 1 (.t 27)⟩,
 ⟨some (22,true),some 29,.call false 144 [.t 23,.t 28]⟩,
 ⟨some (22,true),some 30,.bin .lss (.t 29) (.c (.int .i64 0))⟩,
 sO 31 (.pick (.t 22) (.t 30) (.c (.bool false)))]
def r117_7:List SO:=[
 qF 32 3 7,
 ql 33 32,
 qM 34 1,
 sO 35 (.bslice 54 1 false [.nilsl] 1 [(0,.t 34)]),
 sO 36 (.append 54 1 24 (.t 33) (.t 35)),
 qF 37 3 7,
 sN (.store 1 (.t 37) (.t 36))]
def r117_8:List SO:=[
 qF 38 4 7,
 ql 39 38,
 qM 40 2,
 sO 41 (.bslice 3 1 false [.int .i64 0] 1 [(0,.t 40)]),
 sO 42 (.append 3 1 8 (.t 39) (.t 41)),
 qF 43 4 7,
 sN (.store 1 (.t 43) (.t 42))]
def r117_10:List SO:=[
 qF 44 3 7,
 ql 45 44,
 qF 46 3 3,
 ql 47 46,
 qM 48 9,
 qA 49 1 47 48,
 ql 50 49,
 sO 51 (.bslice 54 1 false [.nilsl] 1 [(0,.t 50)]),
 sO 52 (.append 54 1 24 (.t 45) (.t 51)),
 qF 53 3 7,
 sN (.store 1 (.t 53) (.t 52))]
def r117_11:List SO:=[
 qF 54 4 7,
 ql 55 54,
 qF 56 4 3,
 ql 57 56,
 qM 58 9,
 qA 59 1 57 58,
 ql 60 59,
 sO 61 (.bslice 3 1 false [.int .i64 0] 1 [(0,.t 60)]),
 sO 62 (.append 3 1 8 (.t 55) (.t 61)),
 qF 63 4 7,
 sN (.store 1 (.t 63) (.t 62))]
def b117_0:SC:=.seq (.seq (.reg [qM 13 9,qF 14 4 3,ql 15 14,qN 16 15,qP 17 .lss 13 16]) (.cond (.t 17) (.skip) (.exit 0))) (.seq (.block 1 (.seq (.seq (.reg r117_6) (.cond (.t 31) (.seq (.reg r117_7) (.seq (.reg r117_8) (.reg [sO 8 (.mv (.c (.bool true)))]))) (.skip))) (.seq (.reg r117_10) (.reg r117_11)))) (.reg [qM 18 9,qC 19 .add 18 1,qM 9 19]))
def r117_13:List SO:=[
 qF 66 3 7,
 ql 67 66,
 qM 68 1,
 sO 69 (.bslice 54 1 false [.nilsl] 1 [(0,.t 68)]),
 sO 70 (.append 54 1 24 (.t 67) (.t 69)),
 qF 71 3 7,
 sN (.store 1 (.t 71) (.t 70))]
def r117_14:List SO:=[
 qF 72 4 7,
 ql 73 72,
 qM 74 2,
 sO 75 (.bslice 3 1 false [.int .i64 0] 1 [(0,.t 74)]),
 sO 76 (.append 3 1 8 (.t 73) (.t 75)),
 qF 77 4 7,
 sN (.store 1 (.t 77) (.t 76))]
def s117:SF:=⟨79,[.cell 6 true 5],.seq (.reg [sO 3 (.box 99 5 (.t 0)),sO 6 (.alloc 99 [.bool false,.nilsl,.nilsl,.nilsl,.nilsl])]) (.seq (.reg [qF 10 2 3,ql 11 10,sO 12 (.build [.bool false,.nilsl,.nilsl,.nilsl,.nilsl] [(2,1,.t 11)]),sO 7 (.alloc 99 [.bool false,.nilsl,.nilsl,.nilsl,.nilsl]),sN (.store 5 (.t 7) (.t 12))]) (.seq (.reg [sO 8 (.mv (.c (.bool false)))]) (.seq (.seq (.reg [qI 9 0]) (.block 0 (.loop b117_0))) (.seq (.seq (.reg [qM 64 8,sO 65 (.un .not (.t 64))]) (.cond (.t 65) (.seq (.reg r117_13) (.reg r117_14)) (.skip))) (.seq (.reg [qL 78 5 7,sN (.store 5 (.t 6) (.t 78))]) (.ret))))))⟩
theorem s117_ok:slimF Tryz.prog ⟨[107,108,109,116,120,126,127,167,169,170,171,172,194,196,198,209,222,226],[]⟩ Tryz.f117=some s117:=by kernel_rfl
theorem put_pure (x:Nd) (outs:List Int) (kid:Int) (hl:x.ou.length=x.kd.length) (hb:x.kd.length≤1048576):PureC Tryz.prog 117 [(V.agg (cN x)),(ints outs),(iV (kid))] (V.agg (cN ((ptN x outs kid)))):=by
 refine pW Tryz.func117 s117_ok fun hB=>?_
 unfold s117
 dsimp only
 refine W_r (R_box (i:=3) (n:=0) (m:=5) (cs:=[(V.bool x.lf),(ints x.ac),(ints x.sf),(intss x.ou),(ints x.kd)]) rfl (congrArg Blk.ver rfl) rfl rfl rfl (R_alloc (i:=6) (n:=0) (m:=5) rfl (congrArg Blk.ver rfl) rfl (R_e (W_r (R_fk rfl rfl (R_lk rfl rfl rfl rfl (R_build rfl rfl ?_)))))))
 refine R_alloc (i:=7) (n:=0) (m:=5) rfl (congrArg Blk.ver rfl) rfl (R_sk rfl rfl rfl rfl rfl rfl rfl rfl rfl (R_e (W_r (R_mv rfl (R_e (W_seq_seq ?_))))))
 refine W_seq_g (fun T H=>T 1=(ints outs)∧T 2=(iV (kid))∧T 3=(V.mp 3 1 0 0)∧T 6=(V.mp 6 1 0 0)∧T 7=(V.mp 7 1 0 0)∧T 8=(V.bool false)∧T 9=(iV (0:Int))∧H 3=(bk 1 99 5 [(cN x)])∧H 6=(bk 1 99 5 [[(V.bool false),V.nilsl,V.nilsl,V.nilsl,V.nilsl]])∧H 7=(bk 1 99 5 [[(V.bool false),V.nilsl,(ints x.sf),V.nilsl,V.nilsl]])∧H 703=(⟨0,false,false,0,0,[]⟩:Blk)∧H 704=(⟨0,false,false,0,0,[]⟩:Blk)∧True) ?_ ?_
 ·
  refine R_mv rfl ?_
  exact R_nil ⟨rfl,rfl,rfl,rfl,rfl,rfl,rfl,rfl,rfl,rfl,rfl,rfl,trivial⟩
 intro T H ⟨t1,t2,t3,t6,t7,t8,t9,h3,h6,h7,h703,h704,_⟩
 refine .lazyCell 703 54 1 7 0 3 [(V.bool false),V.nilsl,(ints x.sf),V.nilsl,V.nilsl] (by decide) (by rw [h7]; rfl) (by rw [h7]; rfl) rfl (fork_ (R:=fun T H=>T 1=(ints outs)∧T 2=(iV (kid))∧T 3=(V.mp 3 1 0 0)∧T 6=(V.mp 6 1 0 0)∧T 7=(V.mp 7 1 0 0)∧T 8=(V.bool false)∧T 9=(iV (0:Int))∧H 3=(bk 1 99 5 [(cN x)])∧H 6=(bk 1 99 5 [[(V.bool false),V.nilsl,V.nilsl,V.nilsl,V.nilsl]])∧H 7=(bk 1 99 5 [[(V.bool false),V.nilsl,(ints x.sf),(V.ms 703 1 0 (0)),V.nilsl]])∧H 703=(bz 1 54 1 [])∧H 704=(⟨0,false,false,0,0,[]⟩:Blk)∧True) ⟨t1,t2,t3,t6,t7,t8,t9,((upd_ne _ _ (by decide)).trans ((upd_ne _ _ (by decide)).trans h3)),((upd_ne _ _ (by decide)).trans ((upd_ne _ _ (by decide)).trans h6)),(by rw [upd_same,h7,(congrArg Blk.ver h703)]; rfl),(by rw [upd_ne _ _ (by decide),upd_same,(congrArg Blk.ver h703)]),((upd_ne _ _ (by decide)).trans ((upd_ne _ _ (by decide)).trans h704)),trivial⟩ ?_)
 intro T H ⟨t1,t2,t3,t6,t7,t8,t9,h3,h6,h7,h703,h704,_⟩
 refine .lazyCell 704 3 1 7 0 4 [(V.bool false),V.nilsl,(ints x.sf),(V.ms 703 1 0 (0)),V.nilsl] (by decide) (by rw [h7]; rfl) (by rw [h7]; rfl) rfl (.done ?_)
 refine fork_ (R:=fun T H=>T 1=(ints outs)∧T 2=(iV (kid))∧T 3=(V.mp 3 1 0 0)∧T 6=(V.mp 6 1 0 0)∧T 7=(V.mp 7 1 0 0)∧T 8=(V.bool false)∧T 9=(iV (0:Int))∧H 3=(bk 1 99 5 [(cN x)])∧H 6=(bk 1 99 5 [[(V.bool false),V.nilsl,V.nilsl,V.nilsl,V.nilsl]])∧H 7=(bk 1 99 5 [[(V.bool false),V.nilsl,(ints x.sf),(V.ms 703 1 0 (0)),(V.ms 704 1 0 (0))]])∧H 703=(bz 1 54 1 [])∧H 704=(bz 1 3 1 [])∧True) ⟨t1,t2,t3,t6,t7,t8,t9,((upd_ne _ _ (by decide)).trans ((upd_ne _ _ (by decide)).trans h3)),((upd_ne _ _ (by decide)).trans ((upd_ne _ _ (by decide)).trans h6)),(by rw [upd_same,h7,(congrArg Blk.ver h704)]; rfl),((upd_ne _ _ (by decide)).trans ((upd_ne _ _ (by decide)).trans h703)),(by rw [upd_ne _ _ (by decide),upd_same,(congrArg Blk.ver h704)]),trivial⟩ ?_
 intro T H ⟨t1,t2,t3,t6,t7,t8,t9,h3,h6,h7,h703,h704,_⟩
 refine W_seq_blockg fun Q1 n1 x1 y1 z1=>?_
 refine W_loop (fun mm T H=> ∃ (k:Nat) (w:Nat) (w2:Nat),mm=x.kd.length - k∧T 1=(ints outs)∧T 2=(iV (kid))∧T 3=(V.mp 3 1 0 0)∧T 6=(V.mp 6 1 0 0)∧T 7=(V.mp 7 1 0 0)∧T 8=(V.bool (decide (pN x.ou outs < k)))∧T 9=(iV ((k:Nat):Int))∧H 3=(bk 1 99 5 [(cN x)])∧H 6=(bk 1 99 5 [[(V.bool false),V.nilsl,V.nilsl,V.nilsl,V.nilsl]])∧H 7=(bk 1 99 5 [[(V.bool false),V.nilsl,(ints x.sf),(V.ms 703 w 0 ((inA (pN x.ou outs) outs x.ou k).length)),(V.ms 704 w2 0 ((inA (pN x.ou outs) kid x.kd k).length))]])∧H 703=(bz w 54 1 (List.map cL (inA (pN x.ou outs) outs x.ou k)))∧H 704=(bz w2 3 1 (List.map cI (inA (pN x.ou outs) kid x.kd k)))∧(k≤x.kd.length)) ?_ ?_
 ·
  refine ⟨_,0,1,1,rfl,t1,t2,t3,t6,t7,(Eq.trans t8 (by rfl)),(Eq.trans t9 rfl),h3,h6,(Eq.trans h7 (by rfl)),(Eq.trans h703 (by rfl)),(Eq.trans h704 (by rfl)),?_⟩
  · omega
 intro mm T H ⟨k,w,w2,hmm,t1,t2,t3,t6,t7,t8,t9,h3,h6,h7,h703,h704,hk⟩ Q2 p12 p22 p32
 unfold b117_0
 have q1:=inA_len (p:=pN x.ou outs) (x:=outs) (show k≤x.ou.length by omega)
 have q2:=inA_len (p:=pN x.ou outs) (x:=kid) hk
 have q3:(inA (pN x.ou outs) outs x.ou k).length≤k+1:=by rw [q1]; split <;> omega
 have q4:(inA (pN x.ou outs) kid x.kd k).length≤k+1:=by rw [q2]; split <;> omega
 refine W_seq_seq (W_r (R_mv t9 (R_fk t3 h3 (R_lk rfl h3 rfl rfl (R_len rfl (R_lss rfl rfl (R_e ?_)))))))
 refine W_seq_if rfl (fun c3=>?_) fun c3=>?_
 ·
  refine W_seq_skip (W_seq_blockg fun Q4 n4 x4 y4 z4=>(W_seq_seq (W_r (R_mv t8 (R_not rfl (R_mv rfl ?_))))))
  refine Ops_seg 9 (fun T H=>T 1=(ints outs)∧T 2=(iV (kid))∧T 3=(V.mp 3 1 0 0)∧T 6=(V.mp 6 1 0 0)∧T 7=(V.mp 7 1 0 0)∧T 8=(V.bool (decide (pN x.ou outs < k)))∧T 9=(iV ((k:Nat):Int))∧T 31=(V.bool (decide ((¬(pN x.ou outs < k))∧((lexI outs ((nth (x.ou) (k)))) < (0:Int)))))∧H 3=(bk 1 99 5 [(cN x)])∧H 6=(bk 1 99 5 [[(V.bool false),V.nilsl,V.nilsl,V.nilsl,V.nilsl]])∧H 7=(bk 1 99 5 [[(V.bool false),V.nilsl,(ints x.sf),(V.ms 703 w 0 ((inA (pN x.ou outs) outs x.ou k).length)),(V.ms 704 w2 0 ((inA (pN x.ou outs) kid x.kd k).length))]])∧H 703=(bz w 54 1 (List.map cL (inA (pN x.ou outs) outs x.ou k)))∧H 704=(bz w2 3 1 (List.map cI (inA (pN x.ou outs) kid x.kd k)))∧True) ?_ ?_
  ·
   by_cases g5: ¬(pN x.ou outs < k)
   ·
    refine G_yes (edT g5 rfl) (R_mv t1 (G_yes (edT g5 rfl) (R_fk t3 h3 (G_yes (edT g5 rfl) (R_lk rfl h3 rfl rfl (G_yes (edT g5 rfl) (R_mv t9 ?_)))))))
    refine G_yes (edT g5 rfl) (R_idx (i:=k) (@rfl V (intss x.ou)) (@rfl V (iV ((k:Nat):Int))) (by omega) rfl (G_yes (edT g5 rfl) (R_load_pp rfl rfl (G_yes (edT g5 rfl) (R_callk (rlex_pure outs ((nth (x.ou) (k)))) rfl (G_yes (edT g5 rfl) (R_lss rfl rfl ?_)))))))
    refine R_pickT (edT g5 rfl) rfl ?_
    exact ⟨t1,t2,t3,t6,t7,t8,t9,(dec_andT g5),h3,h6,h7,h703,h704,trivial⟩
   ·
    refine G_n (edF g5 rfl) (G_n (edF g5 rfl) (G_n (edF g5 rfl) (G_n (edF g5 rfl) (G_n (edF g5 rfl) (G_n (edF g5 rfl) (G_n (edF g5 rfl) (G_n (edF g5 rfl) ?_)))))))
    refine R_pickF (edF g5 rfl) rfl ?_
    exact ⟨t1,t2,t3,t6,t7,t8,t9,(dec_andF g5),h3,h6,h7,h703,h704,trivial⟩
  intro T H ⟨t1,t2,t3,t6,t7,t8,t9,t31,h3,h6,h7,h703,h704,_⟩
  refine R_e ?_
  refine W_seq_if t31 (fun c6=>?_) fun c6=>?_
  ·
   have d1:=pN_hit c6
   refine W_seq_seq (W_r (R_fk t7 h7 (R_lk rfl h7 rfl rfl (R_mv t1 (R_bslice rfl rfl (R_append1 (l:=(inA (pN x.ou outs) outs x.ou k)) (f:=cL) (x:=outs) (@rfl V (V.ms 703 w 0 ((inA (pN x.ou outs) outs x.ou k).length))) h703 (by rfl) (@rfl V (V.sl [[(ints outs)]])) rfl rfl (by omega) (by omega) (R_fk t7 h7 ?_)))))))
   refine R_sk rfl rfl rfl h7 rfl rfl rfl rfl rfl (R_e (W_seq_seq (W_r (R_fk t7 rfl (R_lk rfl rfl rfl rfl (R_mv t2 (R_bslice rfl rfl ?_)))))))
   refine R_append1 (l:=(inA (pN x.ou outs) kid x.kd k)) (f:=cI) (x:=kid) (@rfl V (V.ms 704 w2 0 ((inA (pN x.ou outs) kid x.kd k).length))) h704 (by rfl) (@rfl V (V.sl [[(iV (kid))]])) rfl rfl (by omega) (by omega) (R_fk t7 rfl (R_sk rfl rfl rfl rfl rfl rfl rfl rfl rfl (R_e (W_r (R_mv rfl (R_e (W_r ?_)))))))
   refine R_fk t7 rfl (R_lk rfl rfl rfl rfl (R_fk t3 h3 (R_lk rfl h3 rfl rfl (R_mv t9 (R_idx (i:=k) (@rfl V (intss x.ou)) (@rfl V (iV ((k:Nat):Int))) (by omega) rfl (R_load_pp rfl rfl (R_bslice rfl rfl ?_)))))))
   refine R_append1 (l:=(inA (pN x.ou outs) outs x.ou k++[outs])) (f:=cL) (x:=((nth (x.ou) (k)))) (@rfl V (V.ms 703 (w+1) 0 (((inA (pN x.ou outs) outs x.ou k).length)+1))) (@rfl Blk (bz (w+1) 54 1 (List.map cL (inA (pN x.ou outs) outs x.ou k++[outs])))) (by simp) (@rfl V (V.sl [[(ints ((nth (x.ou) (k))))]])) rfl rfl (by omega) (by omega) (R_fk t7 rfl (R_sk rfl rfl rfl rfl rfl rfl rfl rfl rfl (R_e ?_)))
   refine W_regc (fun T H=>T 1=(ints outs)∧T 2=(iV (kid))∧T 3=(V.mp 3 1 0 0)∧T 6=(V.mp 6 1 0 0)∧T 7=(V.mp 7 1 0 0)∧T 8=(V.bool true)∧T 9=(iV ((k:Nat):Int))∧H 3=(bk 1 99 5 [(cN x)])∧H 6=(bk 1 99 5 [[(V.bool false),V.nilsl,V.nilsl,V.nilsl,V.nilsl]])∧H 7=(bk 1 99 5 [[(V.bool false),V.nilsl,(ints x.sf),(V.ms 703 (w+2) 0 (((inA (pN x.ou outs) outs x.ou k).length)+2)),(V.ms 704 (w2+2) 0 (((inA (pN x.ou outs) kid x.kd k).length)+2))]])∧H 703=(bz (w+2) 54 1 (List.map cL (inA (pN x.ou outs) outs x.ou k++[outs]++[(nth (x.ou) (k))])))∧H 704=(bz (w2+2) 3 1 (List.map cI (inA (pN x.ou outs) kid x.kd k++[kid]++[((nth (x.kd) (k)))])))∧True) ?_ ?_
   ·
    refine R_fk t7 rfl (R_lk rfl rfl rfl rfl (R_fk t3 h3 (R_lk rfl h3 rfl rfl (R_mv t9 (R_idx (i:=k) (@rfl V (ints x.kd)) (@rfl V (iV ((k:Nat):Int))) (by omega) rfl (R_load_pp rfl rfl (R_bslice rfl rfl ?_)))))))
    refine R_append1 (l:=(inA (pN x.ou outs) kid x.kd k++[kid])) (f:=cI) (x:=(((nth (x.kd) (k))))) (@rfl V (V.ms 704 (w2+1) 0 (((inA (pN x.ou outs) kid x.kd k).length)+1))) (@rfl Blk (bz (w2+1) 3 1 (List.map cI (inA (pN x.ou outs) kid x.kd k++[kid])))) (by simp) (@rfl V (V.sl [[(iV ((nth (x.kd) (k))))]])) rfl rfl (by omega) (by omega) (R_fk t7 rfl (R_sk rfl rfl rfl rfl rfl rfl rfl rfl rfl ?_))
    exact R_nil ⟨t1,t2,t3,t6,t7,rfl,t9,h3,h6,rfl,rfl,rfl,trivial⟩
   intro T H ⟨t1,t2,t3,t6,t7,t8,t9,h3,h6,h7,h703,h704,_⟩
   refine n4 _ _ (.done (W_t (R_mv t9 (R_addN rfl (@rfl V (iV ((1:Nat):Int))) (by omega) (R_mv rfl (R_e ?_))))))
   refine p12 _ _ _ ?_ ⟨(k+1),(w+2),(w2+2),rfl,t1,t2,t3,t6,t7,(Eq.trans t8 (by (exact congrArg V.bool (decide_eq_true (by omega)).symm))),(Eq.trans (@rfl V (iV ((k+1:Nat):Int))) (by rfl)),h3,h6,(Eq.trans h7 (by (rw [inA_hit d1 (by omega),inA_hit d1 (by omega)]; simp; done))),(Eq.trans h703 (by (rw [inA_hit d1 (by omega)]; done))),(Eq.trans h704 (by (rw [inA_hit d1 (by omega)]; done))),?_⟩
   · omega
   · omega
  have d1:=pN_miss (by omega) c6
  refine W_seq_skip (W_r (R_fk t7 h7 (R_lk rfl h7 rfl rfl (R_fk t3 h3 (R_lk rfl h3 rfl rfl (R_mv t9 (R_idx (i:=k) (@rfl V (intss x.ou)) (@rfl V (iV ((k:Nat):Int))) (by omega) rfl ?_)))))))
  refine R_load_pp rfl rfl (R_bslice rfl rfl (R_append1 (l:=(inA (pN x.ou outs) outs x.ou k)) (f:=cL) (x:=((nth (x.ou) (k)))) (@rfl V (V.ms 703 w 0 ((inA (pN x.ou outs) outs x.ou k).length))) h703 (by rfl) (@rfl V (V.sl [[(ints ((nth (x.ou) (k))))]])) rfl rfl (by omega) (by omega) (R_fk t7 h7 (R_sk rfl rfl rfl h7 rfl rfl rfl rfl rfl (R_e (W_t (R_fk t7 rfl ?_)))))))
  refine R_lk rfl rfl rfl rfl (R_fk t3 h3 (R_lk rfl h3 rfl rfl (R_mv t9 (R_idx (i:=k) (@rfl V (ints x.kd)) (@rfl V (iV ((k:Nat):Int))) (by omega) rfl (R_load_pp rfl rfl (R_bslice rfl rfl (R_append1 (l:=(inA (pN x.ou outs) kid x.kd k)) (f:=cI) (x:=(((nth (x.kd) (k))))) (@rfl V (V.ms 704 w2 0 ((inA (pN x.ou outs) kid x.kd k).length))) h704 (by rfl) (@rfl V (V.sl [[(iV ((nth (x.kd) (k))))]])) rfl rfl (by omega) (by omega) ?_)))))))
  refine R_fk t7 rfl (R_sk rfl rfl rfl rfl rfl rfl rfl rfl rfl (R_e (n4 _ _ (.done (W_t (R_mv t9 (R_addN rfl (@rfl V (iV ((1:Nat):Int))) (by omega) ?_)))))))
  refine R_mv rfl (R_e ?_)
  refine p12 _ _ _ ?_ ⟨(k+1),(w+1),(w2+1),rfl,t1,t2,t3,t6,t7,(Eq.trans t8 (by (exact congrArg V.bool (decide_eq_decide.2 (by omega))))),(Eq.trans (@rfl V (iV ((k+1:Nat):Int))) (by rfl)),h3,h6,(Eq.trans (@rfl Blk (bk 1 99 5 [[(V.bool false),V.nilsl,(ints x.sf),(V.ms 703 (w+1) 0 (((inA (pN x.ou outs) outs x.ou k).length)+1)),(V.ms 704 (w2+1) 0 (((inA (pN x.ou outs) kid x.kd k).length)+1))]])) (by (rw [inA_other (by omega) d1,inA_other (by omega) d1]; simp; done))),(Eq.trans (@rfl Blk (bz (w+1) 54 1 (List.map cL (inA (pN x.ou outs) outs x.ou k++[(nth (x.ou) (k))])))) (by (rw [inA_other (by omega) d1]; done))),(Eq.trans (@rfl Blk (bz (w2+1) 3 1 (List.map cI (inA (pN x.ou outs) kid x.kd k++[((nth (x.kd) (k)))])))) (by (rw [inA_other (by omega) d1]; done))),?_⟩
  · omega
  · omega
 refine W_seq_exit (p32 _ _ _ (x1 _ _ (.done (W_seq_seq (W_r (R_mv t8 (R_not rfl ?_)))))))
 refine R_e ?_
 refine W_seq_if rfl (fun c7=>?_) fun c7=>?_
 ·
  have d3: ¬(pN x.ou outs < k):=by simpa using c7
  refine W_seq_seq (W_r (R_fk t7 h7 (R_lk rfl h7 rfl rfl (R_mv t1 (R_bslice rfl rfl (R_append1 (l:=(inA (pN x.ou outs) outs x.ou k)) (f:=cL) (x:=outs) (@rfl V (V.ms 703 w 0 ((inA (pN x.ou outs) outs x.ou k).length))) h703 (by rfl) (@rfl V (V.sl [[(ints outs)]])) rfl rfl (by omega) (by omega) (R_fk t7 h7 ?_)))))))
  refine R_sk rfl rfl rfl h7 rfl rfl rfl rfl rfl (R_e (W_r (R_fk t7 rfl (R_lk rfl rfl rfl rfl (R_mv t2 (R_bslice rfl rfl (R_append1 (l:=(inA (pN x.ou outs) kid x.kd k)) (f:=cI) (x:=kid) (@rfl V (V.ms 704 w2 0 ((inA (pN x.ou outs) kid x.kd k).length))) h704 (by rfl) (@rfl V (V.sl [[(iV (kid))]])) rfl rfl (by omega) (by omega) ?_)))))))
  refine R_fk t7 rfl (R_sk rfl rfl rfl rfl rfl rfl rfl rfl rfl (R_e (W_r (R_lk t7 rfl rfl rfl (R_sk t6 rfl rfl h6 rfl rfl rfl rfl rfl (R_e (W_ret ?_)))))))
  refine RetC_1 (resV_c (u:=(V.agg [(V.bool false),V.nilsl,(ints x.sf),(V.ms 703 (w+1) 0 (((inA (pN x.ou outs) outs x.ou k).length)+1)),(V.ms 704 (w2+1) 0 (((inA (pN x.ou outs) kid x.kd k).length)+1))])) t6 (@rfl Blk (bk 1 99 5 [[(V.bool false),V.nilsl,(ints x.sf),(V.ms 703 (w+1) 0 (((inA (pN x.ou outs) outs x.ou k).length)+1)),(V.ms 704 (w2+1) 0 (((inA (pN x.ou outs) kid x.kd k).length)+1))]])) (lB oB rfl rfl)) (fz_agg5 (fz_bool ?_) (fz_nil ?_) (fz_sl ?_ (fun _=>by simp)) (fz_ms (@rfl Blk (bz (w+1) 54 1 (List.map cL (inA (pN x.ou outs) outs x.ou k++[outs])))) (by simp) (l:=(inA (pN x.ou outs) outs x.ou k++[outs])) rfl (by simp) (fun _=>by simp) ?_) (fz_ms (@rfl Blk (bz (w2+1) 3 1 (List.map cI (inA (pN x.ou outs) kid x.kd k++[kid])))) (by simp) (l:=(inA (pN x.ou outs) kid x.kd k++[kid])) rfl (by simp) (fun _=>by simp) ?_))
  · rfl
  · rfl
  · rfl
  · show _=inW (pN x.ou outs) outs x.ou; rw [show k=x.ou.length by omega,inA_last (by omega)]
  · show _=inW (pN x.ou outs) kid x.kd; rw [show k=x.kd.length by omega,inA_last (by omega)]
 have d3:pN x.ou outs < k:=by simpa using c7
 refine W_seq_skip (W_r (R_lk t7 h7 rfl rfl (R_sk t6 rfl rfl h6 rfl rfl rfl rfl rfl (R_e (W_ret ?_)))))
 refine RetC_1 (resV_c (u:=(V.agg [(V.bool false),V.nilsl,(ints x.sf),(V.ms 703 w 0 ((inA (pN x.ou outs) outs x.ou k).length)),(V.ms 704 w2 0 ((inA (pN x.ou outs) kid x.kd k).length))])) t6 (@rfl Blk (bk 1 99 5 [[(V.bool false),V.nilsl,(ints x.sf),(V.ms 703 w 0 ((inA (pN x.ou outs) outs x.ou k).length)),(V.ms 704 w2 0 ((inA (pN x.ou outs) kid x.kd k).length))]])) (lB oB rfl rfl)) (fz_agg5 (fz_bool ?_) (fz_nil ?_) (fz_sl ?_ (fun _=>by simp)) (fz_ms h703 (by simp) (l:=(inA (pN x.ou outs) outs x.ou k)) rfl (by rfl) (fun _=>by simp) ?_) (fz_ms h704 (by simp) (l:=(inA (pN x.ou outs) kid x.kd k)) rfl (by rfl) (fun _=>by simp) ?_))
 · rfl
 · rfl
 · rfl
 · show _=inW (pN x.ou outs) outs x.ou; rw [show k=x.ou.length by omega,inA_all (by omega)]
 · show _=inW (pN x.ou outs) kid x.kd; rw [show k=x.kd.length by omega,inA_all (by omega)]
end Go.Proofs.YtmnjchcoigbngabGreat
