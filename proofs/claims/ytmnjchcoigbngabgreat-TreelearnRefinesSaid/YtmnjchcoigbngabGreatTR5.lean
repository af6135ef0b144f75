/- Contracts of the functions that the law TR reaches, and the law itself, for every input; no condition. -/
import Derived.KernelRfl
import Derived.Test.YtmnjchcoigbngabGreatRows
import Derived.Test.YtmnjchcoigbngabGreatTR4
set_option linter.unusedSimpArgs false
set_option linter.unusedVariables false
namespace Go.Proofs.YtmnjchcoigbngabGreat
open Go Go.Proofs
theorem rsplit_pure (t:Dt) (n:Int) (sf outs w other:List Int) (hb:Bd t) (hsf:sf.length≤1048576) (ho:outs.length≤1048576) (hw:w.length≤1048576) (hot:other.length≤1048576):PureC Tryz.prog 76 [(V.agg [(V.sl (List.map cN (t.nd)))]),(iV (n)),(ints sf),(ints outs),(ints w),(ints other)] (V.tup [(V.agg [(V.sl (List.map cN ((spT t n sf outs w other).nd)))]),(iV (spE t n sf outs w other))]):=by
 refine pW Tryz.func76 s76_ok fun hB=>?_
 unfold s76
 dsimp only
 have hbn:=hb.n
 refine W_r (R_box (i:=6) (n:=0) (m:=1) (cs:=[(V.sl (List.map cN (t.nd)))]) rfl (congrArg Blk.ver rfl) rfl rfl rfl (R_alloc (i:=12) (n:=0) (m:=1) rfl (congrArg Blk.ver rfl) rfl (R_mv rfl (R_e (W_seq_seq (W_r (R_lk rfl rfl rfl rfl ?_)))))))
 refine R_callk (rdvalid_pure t hb) rfl (R_mv rfl (R_e (W_seq_seq (W_r (R_mv rfl (R_neq rfl rfl (R_e ?_)))))))
 refine W_seq_if rfl (fun c1=>?_) fun c1=>?_
 ·
  refine W_seq_seq (W_r (R_lk rfl rfl rfl rfl (R_mv rfl (R_sk rfl rfl rfl rfl rfl rfl rfl rfl rfl (R_mv rfl (R_e (W_seq_ret ?_)))))))
  refine RetC_2 (resV_c (u:=(V.agg [(V.sl (List.map cN (t.nd)))])) rfl (@rfl Blk (bk 1 24 1 [[(V.sl (List.map cN (t.nd)))]])) (lB oB rfl rfl)) (resV_t (@rfl V (iV (dvE t)))) (fz_agg1 (fz_sl ?_ (fun _=>by simp))) (fz_int ?_)
  · have z9:spE t n sf outs w other=dvE t:=by
      unfold spE; rw [if_pos (by omega)]
    rw [spT_no (by rw [z9]; first|exact (by decide)|omega)]
  · have z9:spE t n sf outs w other=dvE t:=by
      unfold spE; rw [if_pos (by omega)]
    exact z9.symm
 have hv:dvE t=0:=by omega
 refine W_seq_skip (W_seq_seq (W_r (R_lk rfl rfl rfl rfl (R_mv rfl (R_callk (rkind_pure t ((n)) true) rfl (R_mv rfl (R_e ?_)))))))
 refine W_seq_seq (W_r (R_mv rfl (R_neq rfl rfl (R_e ?_))))
 refine W_seq_if rfl (fun c2=>?_) fun c2=>?_
 ·
  refine W_seq_seq (W_r (R_lk rfl rfl rfl rfl (R_mv rfl (R_sk rfl rfl rfl rfl rfl rfl rfl rfl rfl (R_mv rfl (R_e (W_seq_ret ?_)))))))
  refine RetC_2 (resV_c (u:=(V.agg [(V.sl (List.map cN (t.nd)))])) rfl (@rfl Blk (bk 1 24 1 [[(V.sl (List.map cN (t.nd)))]])) (lB oB rfl rfl)) (resV_t (@rfl V (iV (noE t ((n)) true)))) (fz_agg1 (fz_sl ?_ (fun _=>by simp))) (fz_int ?_)
  · have z9:spE t n sf outs w other=noE t n true:=by
      unfold spE; rw [if_neg (by omega)]; unfold spsE; rw [if_pos (by omega)]
    rw [spT_no (by rw [z9]; first|exact (by decide)|omega)]
  · have z9:spE t n sf outs w other=noE t n true:=by
      unfold spE; rw [if_neg (by omega)]; unfold spsE; rw [if_pos (by omega)]
    exact z9.symm
 obtain ⟨n0,n1,n2⟩:=no_ok (t:=t) (n:=n) (b:=true) (by omega)
 have nb:n.toNat < t.nd.length:=by omega
 refine W_seq_skip (W_seq_seq (W_r (R_mv rfl (R_callk (ending_pure sf) rfl (R_mv rfl (R_e (W_seq_seq ?_)))))))
 refine W_r (R_mv rfl (R_neq rfl rfl (R_e ?_)))
 refine W_seq_if rfl (fun c3=>?_) fun c3=>?_
 ·
  have d2:(if sf.length=0 then 19 else wchk sf 64)≠0:=c3
  refine W_seq_seq (W_r (R_lk rfl rfl rfl rfl (R_mv rfl (R_sk rfl rfl rfl rfl rfl rfl rfl rfl rfl (R_mv rfl (R_e (W_seq_ret ?_)))))))
  refine RetC_2 (resV_c (u:=(V.agg [(V.sl (List.map cN (t.nd)))])) rfl (@rfl Blk (bk 1 24 1 [[(V.sl (List.map cN (t.nd)))]])) (lB oB rfl rfl)) (resV_t (@rfl V (iV (if sf.length=0 then 19 else wchk sf 64)))) (fz_agg1 (fz_sl ?_ (fun _=>by simp))) (fz_int ?_)
  · have z9:spE t n sf outs w other=if sf.length=0 then 19 else wchk sf 64:=by
      unfold spE; rw [if_neg (by omega)]; unfold spsE; rw [if_neg (by omega)]
      by_cases e:sf.length=0
      · rw [if_pos e,if_pos e]
      · rw [if_neg e,if_neg e,if_pos (by rw [if_neg e] at d2; exact d2)]
    rw [spT_no (by rw [z9]; first|exact (by decide)|omega)]
  · have z9:spE t n sf outs w other=if sf.length=0 then 19 else wchk sf 64:=by
      unfold spE; rw [if_neg (by omega)]; unfold spsE; rw [if_neg (by omega)]
      by_cases e:sf.length=0
      · rw [if_pos e,if_pos e]
      · rw [if_neg e,if_neg e,if_pos (by rw [if_neg e] at d2; exact d2)]
    exact z9.symm
 have d2:sf.length≠0∧wchk sf 64=0:=by by_cases e:sf.length=0; (rw [if_pos e] at c3; exact (c3 (by decide)).elim); (rw [if_neg e] at c3; exact ⟨e,by omega⟩)
 refine W_seq_skip (W_seq_seq (W_r (R_mv rfl (R_mv rfl (R_callk (outputs_pure outs sf) rfl (R_mv rfl (R_e ?_)))))))
 refine W_seq_seq (W_r (R_mv rfl (R_neq rfl rfl (R_e ?_))))
 refine W_seq_if rfl (fun c4=>?_) fun c4=>?_
 ·
  refine W_seq_seq (W_r (R_lk rfl rfl rfl rfl (R_mv rfl (R_sk rfl rfl rfl rfl rfl rfl rfl rfl rfl (R_mv rfl (R_e (W_seq_ret ?_)))))))
  refine RetC_2 (resV_c (u:=(V.agg [(V.sl (List.map cN (t.nd)))])) rfl (@rfl Blk (bk 1 24 1 [[(V.sl (List.map cN (t.nd)))]])) (lB oB rfl rfl)) (resV_t (@rfl V (iV (vlE outs sf)))) (fz_agg1 (fz_sl ?_ (fun _=>by simp))) (fz_int ?_)
  · have z9:spE t n sf outs w other=vlE outs sf:=by
      unfold spE; rw [if_neg (by omega)]; unfold spsE; rw [if_neg (by omega),if_neg (by omega),if_neg (by omega),if_pos (by omega)]
    rw [spT_no (by rw [z9]; first|exact (by decide)|omega)]
  · have z9:spE t n sf outs w other=vlE outs sf:=by
      unfold spE; rw [if_neg (by omega)]; unfold spsE; rw [if_neg (by omega),if_neg (by omega),if_neg (by omega),if_pos (by omega)]
    exact z9.symm
 refine W_seq_skip (W_seq_seq (W_r (R_lk rfl rfl rfl rfl (R_mv rfl (R_callk (rfresh_pure t w hb) rfl (R_mv rfl (R_e ?_)))))))
 refine W_seq_seq (W_r (R_mv rfl (R_neq rfl rfl (R_e ?_))))
 refine W_seq_if rfl (fun c5=>?_) fun c5=>?_
 ·
  refine W_seq_seq (W_r (R_lk rfl rfl rfl rfl (R_mv rfl (R_sk rfl rfl rfl rfl rfl rfl rfl rfl rfl (R_mv rfl (R_e (W_seq_ret ?_)))))))
  refine RetC_2 (resV_c (u:=(V.agg [(V.sl (List.map cN (t.nd)))])) rfl (@rfl Blk (bk 1 24 1 [[(V.sl (List.map cN (t.nd)))]])) (lB oB rfl rfl)) (resV_t (@rfl V (iV (fsE t w)))) (fz_agg1 (fz_sl ?_ (fun _=>by simp))) (fz_int ?_)
  · have z9:spE t n sf outs w other=fsE t w:=by
      unfold spE; rw [if_neg (by omega)]; unfold spsE; rw [if_neg (by omega),if_neg (by omega),if_neg (by omega),if_neg (by omega),if_pos (by omega)]
    rw [spT_no (by rw [z9]; first|exact (by decide)|omega)]
  · have z9:spE t n sf outs w other=fsE t w:=by
      unfold spE; rw [if_neg (by omega)]; unfold spsE; rw [if_neg (by omega),if_neg (by omega),if_neg (by omega),if_neg (by omega),if_pos (by omega)]
    exact z9.symm
 refine W_seq_skip (W_seq_seq (W_r (R_mv rfl (R_mv rfl (R_callk (outputs_pure other sf) rfl (R_mv rfl (R_e ?_)))))))
 refine W_seq_seq (W_r (R_mv rfl (R_neq rfl rfl (R_e ?_))))
 refine W_seq_if rfl (fun c6=>?_) fun c6=>?_
 ·
  refine W_seq_seq ?_
  refine W_seq_regc (fun T H=>T 12=(V.mp 12 1 0 0)∧T 13=(iV (vlE other sf))∧H 6=(bk 1 24 1 [[(V.sl (List.map cN (t.nd)))]])∧H 12=(bk 1 24 1 [[(V.sl (List.map cN (t.nd)))]])∧H 21=(⟨0,false,false,0,0,[]⟩:Blk)∧H 23=(⟨0,false,false,0,0,[]⟩:Blk)∧H 301=(⟨0,false,false,0,0,[]⟩:Blk)∧H 302=(⟨0,false,false,0,0,[]⟩:Blk)∧H 303=(⟨0,false,false,0,0,[]⟩:Blk)∧H 305=(⟨0,false,false,0,0,[]⟩:Blk)∧H 306=(⟨0,false,false,0,0,[]⟩:Blk)∧H 353=(⟨0,false,false,0,0,[]⟩:Blk)∧H 363=(⟨0,false,false,0,0,[]⟩:Blk)∧True) ?_ ?_
  ·
   refine R_lk rfl rfl rfl rfl (R_mv rfl (R_sk rfl rfl rfl rfl rfl rfl rfl rfl rfl (R_mv rfl ?_)))
   exact R_nil ⟨rfl,rfl,rfl,rfl,rfl,rfl,rfl,rfl,rfl,rfl,rfl,rfl,rfl,trivial⟩
  intro T H ⟨t12,t13,h6,h12,h21,h23,h301,h302,h303,h305,h306,h353,h363,_⟩
  refine W_seq_ret ?_
  refine RetC_2 (resV_c (u:=(V.agg [(V.sl (List.map cN (t.nd)))])) t12 h12 (lB oB rfl rfl)) (resV_t t13) (fz_agg1 (fz_sl ?_ (fun _=>by simp))) (fz_int ?_)
  · have z9:spE t n sf outs w other=vlE other sf:=by
      unfold spE; rw [if_neg (by omega)]; unfold spsE; rw [if_neg (by omega),if_neg (by omega),if_neg (by omega),if_neg (by omega),if_neg (by omega),if_pos (by omega)]
    rw [spT_no (by rw [z9]; first|exact (by decide)|omega)]
  · have z9:spE t n sf outs w other=vlE other sf:=by
      unfold spE; rw [if_neg (by omega)]; unfold spsE; rw [if_neg (by omega),if_neg (by omega),if_neg (by omega),if_neg (by omega),if_neg (by omega),if_pos (by omega)]
    exact z9.symm
 refine W_seq_skip (W_seq_seq (W_r (R_mv rfl (R_mv rfl (R_callk (rsame1_pure outs other) rfl (R_e ?_))))))
 refine W_seq_if rfl (fun c7=>?_) fun c7=>?_
 ·
  have d6:outs=other:=by simpa using c7
  refine W_seq_seq ?_
  refine W_seq_regc (fun T H=>T 12=(V.mp 12 1 0 0)∧T 13=(iV (15:Int))∧H 6=(bk 1 24 1 [[(V.sl (List.map cN (t.nd)))]])∧H 12=(bk 1 24 1 [[(V.sl (List.map cN (t.nd)))]])∧H 21=(⟨0,false,false,0,0,[]⟩:Blk)∧H 23=(⟨0,false,false,0,0,[]⟩:Blk)∧H 301=(⟨0,false,false,0,0,[]⟩:Blk)∧H 302=(⟨0,false,false,0,0,[]⟩:Blk)∧H 303=(⟨0,false,false,0,0,[]⟩:Blk)∧H 305=(⟨0,false,false,0,0,[]⟩:Blk)∧H 306=(⟨0,false,false,0,0,[]⟩:Blk)∧H 353=(⟨0,false,false,0,0,[]⟩:Blk)∧H 363=(⟨0,false,false,0,0,[]⟩:Blk)∧True) ?_ ?_
  ·
   refine R_lk rfl rfl rfl rfl (R_sk rfl rfl rfl rfl rfl rfl rfl rfl rfl (R_mv rfl ?_))
   exact R_nil ⟨rfl,rfl,rfl,rfl,rfl,rfl,rfl,rfl,rfl,rfl,rfl,rfl,rfl,trivial⟩
  intro T H ⟨t12,t13,h6,h12,h21,h23,h301,h302,h303,h305,h306,h353,h363,_⟩
  refine W_seq_ret ?_
  refine RetC_2 (resV_c (u:=(V.agg [(V.sl (List.map cN (t.nd)))])) t12 h12 (lB oB rfl rfl)) (resV_t t13) (fz_agg1 (fz_sl ?_ (fun _=>by simp))) (fz_int ?_)
  · have z9:spE t n sf outs w other=15:=by
      unfold spE; rw [if_neg (by omega)]; unfold spsE; rw [if_neg (by omega),if_neg (by omega),if_neg (by omega),if_neg (by omega),if_neg (by omega),if_neg (by omega),if_pos d6]
    rw [spT_no (by rw [z9]; first|exact (by decide)|omega)]
  · have z9:spE t n sf outs w other=15:=by
      unfold spE; rw [if_neg (by omega)]; unfold spsE; rw [if_neg (by omega),if_neg (by omega),if_neg (by omega),if_neg (by omega),if_neg (by omega),if_neg (by omega),if_pos d6]
    exact z9.symm
 have d6: ¬(outs=other):=by simpa using c7
 refine W_seq_skip (W_seq_seq ?_)
 refine W_seq_regc (fun T H=>T 1=(iV (n))∧T 2=(ints sf)∧T 3=(ints outs)∧T 4=(ints w)∧T 5=(ints other)∧T 6=(V.mp 6 1 0 0)∧T 12=(V.mp 12 1 0 0)∧T 72=(V.bool (decide ((4096:Int) < ((t.nd.length+2:Nat):Int))))∧H 6=(bk 1 24 1 [[(V.sl (List.map cN (t.nd)))]])∧H 12=(bk 1 24 1 [[V.nilsl]])∧H 21=(⟨0,false,false,0,0,[]⟩:Blk)∧H 23=(⟨0,false,false,0,0,[]⟩:Blk)∧H 301=(⟨0,false,false,0,0,[]⟩:Blk)∧H 302=(⟨0,false,false,0,0,[]⟩:Blk)∧H 303=(⟨0,false,false,0,0,[]⟩:Blk)∧H 305=(⟨0,false,false,0,0,[]⟩:Blk)∧H 306=(⟨0,false,false,0,0,[]⟩:Blk)∧H 353=(⟨0,false,false,0,0,[]⟩:Blk)∧H 363=(⟨0,false,false,0,0,[]⟩:Blk)∧True) ?_ ?_
 ·
  refine R_fk rfl rfl (R_lk rfl rfl rfl rfl (R_len rfl (R_addN rfl (@rfl V (iV ((2:Nat):Int))) (by omega) (R_gtr rfl rfl ?_))))
  exact R_nil ⟨rfl,rfl,rfl,rfl,rfl,rfl,rfl,rfl,rfl,rfl,rfl,rfl,rfl,rfl,rfl,rfl,rfl,rfl,rfl,trivial⟩
 intro T H ⟨t1,t2,t3,t4,t5,t6,t12,t72,h6,h12,h21,h23,h301,h302,h303,h305,h306,h353,h363,_⟩
 refine W_seq_if t72 (fun c8=>?_) fun c8=>?_
 ·
  refine W_seq_seq (W_r (R_lk t6 h6 rfl rfl (R_sk t12 rfl rfl h12 rfl rfl rfl rfl rfl (R_mv rfl (R_e (W_seq_ret ?_))))))
  refine RetC_2 (resV_c (u:=(V.agg [(V.sl (List.map cN (t.nd)))])) t12 (@rfl Blk (bk 1 24 1 [[(V.sl (List.map cN (t.nd)))]])) (lB oB rfl rfl)) (resV_t (@rfl V (iV (11:Int)))) (fz_agg1 (fz_sl ?_ (fun _=>by simp))) (fz_int ?_)
  · have z9:spE t n sf outs w other=11:=by
      unfold spE; rw [if_neg (by omega)]; unfold spsE; rw [if_neg (by omega),if_neg (by omega),if_neg (by omega),if_neg (by omega),if_neg (by omega),if_neg (by omega),if_neg d6,if_pos (by omega)]
    rw [spT_no (by rw [z9]; first|exact (by decide)|omega)]
  · have z9:spE t n sf outs w other=11:=by
      unfold spE; rw [if_neg (by omega)]; unfold spsE; rw [if_neg (by omega),if_neg (by omega),if_neg (by omega),if_neg (by omega),if_neg (by omega),if_neg (by omega),if_neg d6,if_pos (by omega)]
    exact z9.symm
 refine W_seq_skip (W_r (R_fk t6 h6 (R_lk rfl h6 rfl rfl (R_len rfl (R_mv rfl (R_e (W_r ?_)))))))
 refine R_lk t6 h6 rfl rfl (R_callE (evcons rfl evnil) (rcopied_E t 0 0 0 0 0 0 0 _ hb (congrArg Blk.ver h301) (congrArg Blk.ver h302) (congrArg Blk.ver h303) (congrArg Blk.ver h305) ⟨congrArg Blk.ver h306,congrArg Blk.live h306⟩ (congrArg Blk.ver h353) (congrArg Blk.ver h363)) (R_alloc (i:=21) (n:=0) (m:=1) rfl (congrArg Blk.ver h21) rfl (R_sk rfl rfl rfl rfl rfl rfl rfl rfl rfl (R_e (W_r (R_fk rfl rfl (R_lk rfl rfl rfl rfl ?_)))))))
 refine R_mv t1 (R_idxI_ms0 (i:=(n)) (@rfl V (V.ms 353 (0+1+t.nd.length) 0 (t.nd.length))) (@rfl V (iV (n))) (@rfl Blk (bz (0+1+t.nd.length) 99 5 (List.map cN (t.nd)))) (okB_map (by omega)) rfl (by omega) (by omega) (R_fld_mp (o':=1) rfl (@rfl Blk (bz (0+1+t.nd.length) 99 5 (List.map cN (t.nd)))) (okB_map (by omega)) rfl (R_load_mp (v:=(ints (((nth (t.nd) (((n)).toNat))).ac))) rfl (@rfl Blk (bz (0+1+t.nd.length) 99 5 (List.map cN (t.nd)))) (ldB_map (by omega) (by rfl)) (R_mv rfl (R_e (W_r (R_mv t2 ?_)))))))
 refine R_bslice rfl rfl (R_callk (join_pure ([sf]) (by simp only [cat,List.append_nil]; omega)) rfl (R_build rfl rfl (R_mv t3 (R_bslice rfl rfl (R_callk (join_pure ([outs]) (by simp only [cat,List.append_nil]; omega)) rfl (R_mv rfl (R_call (evcons (@rfl V (V.agg [(V.bool false),V.nilsl,(ints (cat ([sf]))),V.nilsl,V.nilsl])) (evcons (@rfl V (ints (cat ([outs])))) (evcons (@rfl V (iV ((t.nd.length:Nat):Int))) evnil))) (put_pure (⟨false,([]),(cat ([sf])),([]),([])⟩:Nd) (cat ([outs])) (((t.nd.length:Nat):Int)) (by simp [ptN,inW_len]) (by simp [ptN,inW_len])) (mcons (by simp [fzv,Blk.own,h6,h12,h23]) (mcons (fzv_canon 6 _ (by simp [-List.map_take,-List.map_drop,-List.map_append,-List.map_reverse])) (mcons (fzv_canon 6 _ (by simp [-List.map_take,-List.map_drop,-List.map_append,-List.map_reverse])) rfl))) (by simp [-List.map_take,-List.map_drop,-List.map_append,-List.map_reverse]) (Or.inl (by simp [-List.map_take,-List.map_drop,-List.map_append,-List.map_reverse])) ?_)))))))
 refine R_alloc (i:=23) (n:=0) (m:=5) rfl (congrArg Blk.ver h23) rfl (R_sk rfl rfl rfl rfl rfl rfl rfl rfl rfl (R_e (W_r (R_fk rfl rfl (R_lk rfl rfl rfl rfl (R_mv t1 (R_lk rfl rfl rfl rfl ?_)))))))
 refine R_mv t5 (R_bslice rfl rfl (R_callk (join_pure ([other]) (by simp only [cat,List.append_nil]; omega)) rfl (R_mv rfl (R_addN rfl (@rfl V (iV ((1:Nat):Int))) (by omega) (R_callk (put_pure ((ptN (⟨false,([]),(cat ([sf])),([]),([])⟩:Nd) (cat ([outs])) (((t.nd.length:Nat):Int)))) (cat ([other])) (((t.nd.length+1:Nat):Int)) (by simp [ptN,inW_len]) (by simp [ptN,inW_len])) rfl (R_idxI_ms0 (i:=(n)) (@rfl V (V.ms 353 (0+1+t.nd.length) 0 (t.nd.length))) (@rfl V (iV (n))) (@rfl Blk (bz (0+1+t.nd.length) 99 5 (List.map cN (t.nd)))) (okB_map (by omega)) rfl (by omega) (by omega) (R_store (vs:=[(V.bool ((ptN ((ptN (⟨false,([]),(cat ([sf])),([]),([])⟩:Nd) (cat ([outs])) (((t.nd.length:Nat):Int)))) (cat ([other])) (((t.nd.length+1:Nat):Int))).lf)),(ints ((ptN ((ptN (⟨false,([]),(cat ([sf])),([]),([])⟩:Nd) (cat ([outs])) (((t.nd.length:Nat):Int)))) (cat ([other])) (((t.nd.length+1:Nat):Int))).ac)),(ints ((ptN ((ptN (⟨false,([]),(cat ([sf])),([]),([])⟩:Nd) (cat ([outs])) (((t.nd.length:Nat):Int)))) (cat ([other])) (((t.nd.length+1:Nat):Int))).sf)),(intss ((ptN ((ptN (⟨false,([]),(cat ([sf])),([]),([])⟩:Nd) (cat ([outs])) (((t.nd.length:Nat):Int)))) (cat ([other])) (((t.nd.length+1:Nat):Int))).ou)),(ints ((ptN ((ptN (⟨false,([]),(cat ([sf])),([]),([])⟩:Nd) (cat ([outs])) (((t.nd.length:Nat):Int)))) (cat ([other])) (((t.nd.length+1:Nat):Int))).kd))]) (B':=(bz (0+1+t.nd.length) 99 5 (List.map cN ((t.nd).set (((n)).toNat) ((ptN ((ptN (⟨false,([]),(cat ([sf])),([]),([])⟩:Nd) (cat ([outs])) (((t.nd.length:Nat):Int)))) (cat ([other])) (((t.nd.length+1:Nat):Int)))))))) rfl rfl rfl (@rfl Blk (bz (0+1+t.nd.length) 99 5 (List.map cN (t.nd)))) (stB_map (x:=((ptN ((ptN (⟨false,([]),(cat ([sf])),([]),([])⟩:Nd) (cat ([outs])) (((t.nd.length:Nat):Int)))) (cat ([other])) (((t.nd.length+1:Nat):Int))))) (i:=(((n)).toNat)) (by omega) rfl rfl rfl rfl) ?_)))))))
 refine R_e ?_
 refine W_seq_g (fun T H=>T 12=(V.mp 12 1 0 0)∧T 21=(V.mp 21 1 0 0)∧H 6=(bk 1 24 1 [[(V.sl (List.map cN (t.nd)))]])∧H 12=(bk 1 24 1 [[V.nilsl]])∧H 21=(bk 1 24 1 [[(V.ms 353 (0+1+t.nd.length+1) 0 (t.nd.length+2))]])∧H 23=(bk 1 99 5 [(cN ((ptN (⟨false,([]),(cat ([sf])),([]),([])⟩:Nd) (cat ([outs])) (((t.nd.length:Nat):Int)))))])∧H 301=(⟨1,false,false,0,0,[]⟩:Blk)∧H 302=(⟨1,false,false,0,0,[]⟩:Blk)∧H 303=(⟨1,false,false,0,0,[]⟩:Blk)∧H 305=(⟨0+t.nd.length,false,false,0,0,[]⟩:Blk)∧H 306=(⟨0+t.nd.length,false,false,0,0,[]⟩:Blk)∧H 353=(bz (0+1+t.nd.length+1) 99 5 (List.map cN ((t.nd).set (((n)).toNat) ((ptN ((ptN (⟨false,([]),(cat ([sf])),([]),([])⟩:Nd) (cat ([outs])) (((t.nd.length:Nat):Int)))) (cat ([other])) (((t.nd.length+1:Nat):Int)))))++[[(V.bool true),(ints (((nth (t.nd) (((n)).toNat))).ac)),V.nilsl,V.nilsl,V.nilsl],[(V.bool true),(ints (cat ([w]))),V.nilsl,V.nilsl,V.nilsl]]))∧H 363=(⟨0+t.nd.length*1048579,false,false,0,0,[]⟩:Blk)∧True) ?_ ?_
 ·
  refine R_fk rfl rfl (R_lk rfl rfl rfl rfl (R_mv rfl (R_build rfl rfl (R_mv t4 (R_bslice rfl rfl (R_callk (join_pure ([w]) (by simp only [cat,List.append_nil]; omega)) rfl (R_build rfl rfl ?_)))))))
  refine R_bslice rfl rfl (R_appendN (l:=((t.nd).set (((n)).toNat) ((ptN ((ptN (⟨false,([]),(cat ([sf])),([]),([])⟩:Nd) (cat ([outs])) (((t.nd.length:Nat):Int)))) (cat ([other])) (((t.nd.length+1:Nat):Int)))))) (f:=cN) (@rfl V (V.ms 353 (0+1+t.nd.length) 0 (t.nd.length))) (@rfl Blk (bz (0+1+t.nd.length) 99 5 (List.map cN ((t.nd).set (((n)).toNat) ((ptN ((ptN (⟨false,([]),(cat ([sf])),([]),([])⟩:Nd) (cat ([outs])) (((t.nd.length:Nat):Int)))) (cat ([other])) (((t.nd.length+1:Nat):Int)))))))) (by simp) (@rfl V (V.sl [[(V.bool true),(ints (((nth (t.nd) (((n)).toNat))).ac)),V.nilsl,V.nilsl,V.nilsl],[(V.bool true),(ints (cat ([w]))),V.nilsl,V.nilsl,V.nilsl]])) (by simp [fitRows,V.one]) (by (simp; omega)) (by (simp; omega)) (R_fk rfl rfl (R_sk rfl rfl rfl rfl rfl rfl rfl rfl rfl ?_)))
  exact R_nil ⟨t12,rfl,h6,h12,rfl,rfl,rfl,rfl,rfl,rfl,rfl,rfl,rfl,trivial⟩
 intro T H ⟨t12,t21,h6,h12,h21,h23,h301,h302,h303,h305,h306,h353,h363,_⟩
 refine nza_map (l:=((t.nd).set (((n)).toNat) ((ptN ((ptN (⟨false,([]),(cat ([sf])),([]),([])⟩:Nd) (cat ([outs])) (((t.nd.length:Nat):Int)))) (cat ([other])) (((t.nd.length+1:Nat):Int)))))) (m:=([(⟨true,((nth (t.nd) (((n)).toNat))).ac,[],[],[]⟩:Nd),(⟨true,cat ([w]),[],[],[]⟩:Nd)])) (f:=cN) h353 rfl (.done ?_)
 refine fork_ (R:=fun T H=>T 12=(V.mp 12 1 0 0)∧T 21=(V.mp 21 1 0 0)∧H 6=(bk 1 24 1 [[(V.sl (List.map cN (t.nd)))]])∧H 12=(bk 1 24 1 [[V.nilsl]])∧H 21=(bk 1 24 1 [[(V.ms 353 (0+1+t.nd.length+1) 0 (t.nd.length+2))]])∧H 23=(bk 1 99 5 [(cN ((ptN (⟨false,([]),(cat ([sf])),([]),([])⟩:Nd) (cat ([outs])) (((t.nd.length:Nat):Int)))))])∧H 301=(⟨1,false,false,0,0,[]⟩:Blk)∧H 302=(⟨1,false,false,0,0,[]⟩:Blk)∧H 303=(⟨1,false,false,0,0,[]⟩:Blk)∧H 305=(⟨0+t.nd.length,false,false,0,0,[]⟩:Blk)∧H 306=(⟨0+t.nd.length,false,false,0,0,[]⟩:Blk)∧H 353=(bz (0+1+t.nd.length+1) 99 5 (List.map cN ((t.nd).set (((n)).toNat) ((ptN ((ptN (⟨false,([]),(cat ([sf])),([]),([])⟩:Nd) (cat ([outs])) (((t.nd.length:Nat):Int)))) (cat ([other])) (((t.nd.length+1:Nat):Int))))++[(⟨true,((nth (t.nd) (((n)).toNat))).ac,[],[],[]⟩:Nd),(⟨true,cat ([w]),[],[],[]⟩:Nd)])))∧H 363=(⟨0+t.nd.length*1048579,false,false,0,0,[]⟩:Blk)∧True) ⟨t12,t21,((upd_ne _ _ (by decide)).trans h6),((upd_ne _ _ (by decide)).trans h12),((upd_ne _ _ (by decide)).trans h21),((upd_ne _ _ (by decide)).trans h23),((upd_ne _ _ (by decide)).trans h301),((upd_ne _ _ (by decide)).trans h302),((upd_ne _ _ (by decide)).trans h303),((upd_ne _ _ (by decide)).trans h305),((upd_ne _ _ (by decide)).trans h306),(upd_same _ _ _),((upd_ne _ _ (by decide)).trans h363),trivial⟩ ?_
 intro T H ⟨t12,t21,h6,h12,h21,h23,h301,h302,h303,h305,h306,h353,h363,_⟩
 refine W_r (R_lk t21 h21 rfl rfl (R_sk t12 rfl rfl h12 rfl rfl rfl rfl rfl (R_mv rfl (R_e (W_ret ?_)))))
 refine RetC_2 (resV_c (u:=(V.agg [(V.ms 353 (0+1+t.nd.length+1) 0 (t.nd.length+2))])) t12 (@rfl Blk (bk 1 24 1 [[(V.ms 353 (0+1+t.nd.length+1) 0 (t.nd.length+2))]])) (lB oB rfl rfl)) (resV_t (@rfl V (iV (0:Int)))) (fz_agg1 (fz_ms h353 (by simp) (l:=((t.nd).set (((n)).toNat) ((ptN ((ptN (⟨false,([]),(cat ([sf])),([]),([])⟩:Nd) (cat ([outs])) (((t.nd.length:Nat):Int)))) (cat ([other])) (((t.nd.length+1:Nat):Int))))++[(⟨true,((nth (t.nd) (((n)).toNat))).ac,[],[],[]⟩:Nd),(⟨true,cat ([w]),[],[],[]⟩:Nd)])) rfl (by simp) (fun _=>by simp) ?_)) (fz_int ?_)
 · have z9:spE t n sf outs w other=0:=by
     unfold spE; rw [if_neg (by omega)]; unfold spsE; rw [if_neg (by omega),if_neg (by omega),if_neg (by omega),if_neg (by omega),if_neg (by omega),if_neg (by omega),if_neg d6,if_neg (by omega)]
   rw [spT_yes z9,← sp_put (sf:=sf) (n:=t.nd.length) d6,← leaf_eq hv nb n2]; simp [cat1,lfN]
 · have z9:spE t n sf outs w other=0:=by
     unfold spE; rw [if_neg (by omega)]; unfold spsE; rw [if_neg (by omega),if_neg (by omega),if_neg (by omega),if_neg (by omega),if_neg (by omega),if_neg (by omega),if_neg d6,if_neg (by omega)]
   exact z9.symm
theorem rrefine_pure (l:Ts) (o:Ob) (s:Spl) (hb:Bd l.t) (ho:oval o=0):PureC Tryz.prog 22 [(V.agg [(iV (l.i)),(V.sl (List.map cN (l.t.nd)))]),(V.agg [(iV (o.i)),(V.sl (List.map cT (o.tr)))]),(V.agg [(ints s.p),(iV (s.a)),(ints s.x)])] (V.tup [(V.agg [(iV ((rfR l o s).1.i)),(V.sl (List.map cN ((rfR l o s).1.t.nd)))]),(intss ((rfR l o s).2.1)),(iV ((rfR l o s).2.2))]):=by
 refine pW Tryz.func22 s22_ok fun hB=>?_
 unfold s22
 dsimp only
 have hal:=acL_len l.t.nd
 refine W_r (R_box (i:=3) (n:=0) (m:=2) (cs:=[(iV (l.i)),(V.sl (List.map cN (l.t.nd)))]) rfl (congrArg Blk.ver rfl) rfl rfl rfl (R_box (i:=4) (n:=0) (m:=2) (cs:=[(iV (o.i)),(V.sl (List.map cT (o.tr)))]) rfl (congrArg Blk.ver rfl) rfl rfl rfl (R_box (i:=5) (n:=0) (m:=3) (cs:=[(ints s.p),(iV (s.a)),(ints s.x)]) rfl (congrArg Blk.ver rfl) rfl rfl rfl (R_alloc (i:=6) (n:=0) (m:=2) rfl (congrArg Blk.ver rfl) rfl (R_mv rfl (R_mv rfl (R_e ?_)))))))
 refine W_seq_seq (W_r (R_lk rfl rfl rfl rfl (R_lk rfl rfl rfl rfl (R_callk (tchecked_pure l o hb) rfl (R_mv rfl (R_e (W_seq_seq ?_)))))))
 refine W_r (R_mv rfl (R_neq rfl rfl (R_e ?_)))
 refine W_seq_if rfl (fun c1=>?_) fun c1=>?_
 ·
  have zq1:tsE l o≠0:=c1
  refine W_seq_seq (W_r (R_lk rfl rfl rfl rfl (R_mv rfl (R_sk rfl rfl rfl rfl rfl rfl rfl rfl rfl (R_mv rfl (R_mv rfl (R_e ?_)))))))
  refine W_seq_ret ?_
  refine RetC_3 (resV_c (u:=(V.agg [(iV (l.i)),(V.sl (List.map cN (l.t.nd)))])) rfl (@rfl Blk (bk 1 26 2 [[(iV (l.i)),(V.sl (List.map cN (l.t.nd)))]])) (lB oB rfl rfl)) (resV_t (@rfl V V.nilsl)) (resV_t (@rfl V (iV (tsE l o)))) (fz_agg2 (fz_int ?_) (fz_sl ?_ (fun _=>by simp))) (fz_nil ?_) (fz_int ?_)
  · rw [rfR_1 zq1]
    try rfl
  · rw [rfR_1 zq1]
    try rfl
  · rw [rfR_1 zq1]
    try rfl
  · rw [rfR_1 zq1]
    try rfl
 have zq1: ¬tsE l o≠0:=c1
 refine W_seq_skip (W_seq_seq (W_r (R_lk rfl rfl rfl rfl (R_fk rfl rfl (R_lk rfl rfl rfl rfl (R_callk (rproper27_pure s ((l.i))) rfl (R_mv rfl ?_)))))))
 refine R_e (W_seq_seq (W_r (R_mv rfl (R_neq rfl rfl (R_e ?_)))))
 refine W_seq_if rfl (fun c2=>?_) fun c2=>?_
 ·
  have zq2:prS s l.i≠0:=c2
  refine W_seq_seq (W_r (R_lk rfl rfl rfl rfl (R_mv rfl (R_sk rfl rfl rfl rfl rfl rfl rfl rfl rfl (R_mv rfl (R_mv rfl (R_e ?_)))))))
  refine W_seq_ret ?_
  refine RetC_3 (resV_c (u:=(V.agg [(iV (l.i)),(V.sl (List.map cN (l.t.nd)))])) rfl (@rfl Blk (bk 1 26 2 [[(iV (l.i)),(V.sl (List.map cN (l.t.nd)))]])) (lB oB rfl rfl)) (resV_t (@rfl V V.nilsl)) (resV_t (@rfl V (iV (prS s ((l.i)))))) (fz_agg2 (fz_int ?_) (fz_sl ?_ (fun _=>by simp))) (fz_nil ?_) (fz_int ?_)
  · rw [rfR_2 zq1 zq2]
    try rfl
  · rw [rfR_2 zq1 zq2]
    try rfl
  · rw [rfR_2 zq1 zq2]
    try rfl
  · rw [rfR_2 zq1 zq2]
    try rfl
 have zq2: ¬prS s l.i≠0:=c2
 have ht:=ts_ok (Decidable.not_not.1 zq1)
 obtain ⟨hi1,hi2,hv,hw0,_,hl0⟩:=tv_ok ht.1
 have hbn:=hb.n
 obtain ⟨p1,p2,p3,p4,p5⟩:=prS_ok zq2
 have p6:=wchk_ok p1
 have p7:=wchk_ok p5
 have p8:(rfW s).length=s.p.length+1:=by simp [rfW,cat]
 have hll:=lvs_len hv
 refine W_seq_skip (W_r (R_fk rfl rfl (R_lk rfl rfl rfl rfl (R_fk rfl rfl (R_lk rfl rfl rfl rfl (R_bslice rfl rfl (R_bslice rfl rfl ?_)))))))
 refine R_callc (evcons rfl evnil) ((show PureC _ _ _ (ints (rfW s)) from join_pure [s.p,[s.a]] (by simp only [cat,List.append_nil,List.length_append,List.length_cons,List.length_nil]; omega))) (R_mv rfl (R_e (W_r (R_fk rfl rfl (R_lk rfl rfl rfl rfl (R_lk rfl rfl rfl rfl (R_mv rfl ?_)))))))
 refine R_callk (rsift_pure l.t o (rfW s) hb ho (by omega)) rfl (R_mv rfl (R_ext rfl rfl (R_ext rfl rfl (R_ext rfl rfl (R_mv rfl (R_mv rfl (R_mv rfl ?_)))))))
 refine R_e (W_seq_seq ?_)
 refine W_seq_regc (fun T H=>T 3=(V.mp 3 1 0 0)∧T 4=(V.mp 4 1 0 0)∧T 5=(V.mp 5 1 0 0)∧T 6=(V.mp 6 1 0 0)∧T 11=(ints (rfW s))∧T 12=(iV ((sftR l.t o (rfW s)).1))∧T 13=(ints ((sftR l.t o (rfW s)).2.1))∧T 14=(iV ((sftR l.t o (rfW s)).2.2))∧T 54=(V.bool (decide (((sftR l.t o (rfW s)).2.2)≠(0:Int))))∧H 3=(bk 1 26 2 [[(iV (l.i)),(V.sl (List.map cN (l.t.nd)))]])∧H 4=(bk 1 29 2 [[(iV (o.i)),(V.sl (List.map cT (o.tr)))]])∧H 5=(bk 1 56 3 [[(ints s.p),(iV (s.a)),(ints s.x)]])∧H 6=(bk 1 26 2 [[(iV (0:Int)),V.nilsl]])∧H 20=(⟨0,false,false,0,0,[]⟩:Blk)∧H 21=(⟨0,false,false,0,0,[]⟩:Blk)∧True) ?_ ?_
 ·
  refine R_mv rfl (R_neq rfl rfl ?_)
  exact R_nil ⟨rfl,rfl,rfl,rfl,rfl,rfl,rfl,rfl,rfl,rfl,rfl,rfl,rfl,rfl,rfl,trivial⟩
 intro T H ⟨t3,t4,t5,t6,t11,t12,t13,t14,t54,h3,h4,h5,h6,h20,h21,_⟩
 refine W_seq_if t54 (fun c3=>?_) fun c3=>?_
 ·
  have zq3:(sftR l.t o (rfW s)).2.2≠0:=c3
  refine W_seq_seq (W_r (R_lk t3 h3 rfl rfl (R_mv t14 (R_sk t6 rfl rfl h6 rfl rfl rfl rfl rfl (R_mv rfl (R_mv rfl (R_e ?_)))))))
  refine W_seq_ret ?_
  refine RetC_3 (resV_c (u:=(V.agg [(iV (l.i)),(V.sl (List.map cN (l.t.nd)))])) t6 (@rfl Blk (bk 1 26 2 [[(iV (l.i)),(V.sl (List.map cN (l.t.nd)))]])) (lB oB rfl rfl)) (resV_t (@rfl V V.nilsl)) (resV_t (@rfl V (iV ((sftR l.t o (rfW s)).2.2)))) (fz_agg2 (fz_int ?_) (fz_sl ?_ (fun _=>by simp))) (fz_nil ?_) (fz_int ?_)
  · rw [rfR_3 zq1 zq2 zq3]
    try rfl
  · rw [rfR_3 zq1 zq2 zq3]
    try rfl
  · rw [rfR_3 zq1 zq2 zq3]
    try rfl
  · rw [rfR_3 zq1 zq2 zq3]
    try rfl
 have zq3: ¬(sftR l.t o (rfW s)).2.2≠0:=c3
 refine W_seq_skip (W_seq_seq (W_r (R_mv t13 (R_len rfl (R_gtr rfl rfl (R_e ?_))))))
 refine W_seq_if rfl (fun c4=>?_) fun c4=>?_
 ·
  have zq4:0 < (sftR l.t o (rfW s)).2.1.length:=by omega
  refine W_seq_seq (W_r (R_lk t3 h3 rfl rfl (R_mv t13 (R_bslice rfl rfl (R_sk t6 rfl rfl h6 rfl rfl rfl rfl rfl (R_mv rfl (R_mv rfl ?_)))))))
  refine R_e (W_seq_ret ?_)
  refine RetC_3 (resV_c (u:=(V.agg [(iV (l.i)),(V.sl (List.map cN (l.t.nd)))])) t6 (@rfl Blk (bk 1 26 2 [[(iV (l.i)),(V.sl (List.map cN (l.t.nd)))]])) (lB oB rfl rfl)) (resV_t (@rfl V (V.sl [[(ints ((sftR l.t o (rfW s)).2.1))]]))) (resV_t (@rfl V (iV (0:Int)))) (fz_agg2 (fz_int ?_) (fz_sl ?_ (fun _=>by simp))) (fz_canon (by simp) ?_) (fz_int ?_)
  · rw [rfR_4 zq1 zq2 zq3 zq4]
    try rfl
  · rw [rfR_4 zq1 zq2 zq3 zq4]
    try rfl
  · rw [rfR_4 zq1 zq2 zq3 zq4]
    try rfl
  · rw [rfR_4 zq1 zq2 zq3 zq4]
    try rfl
 have zq4: ¬0 < (sftR l.t o (rfW s)).2.1.length:=by omega
 have q4:(sftR l.t o (rfW s)).2.1=[]:=List.length_eq_zero_iff.1 (by omega)
 have hnd:=sft_node (Decidable.not_not.1 zq3) q4 hv
 refine W_seq_skip (W_seq_seq (W_r (R_fk t3 h3 (R_fk rfl h3 (R_lk rfl h3 rfl rfl (R_mv t12 (R_idxI (i:=((sftR l.t o (rfW s)).1)) (@rfl V (V.sl (List.map cN (l.t.nd)))) (@rfl V (iV ((sftR l.t o (rfW s)).1))) (by omega) (by omega) rfl ?_)))))))
 refine R_fld_pp (cs':=(cN (((nth (l.t.nd) ((sftR l.t o (rfW s)).1).toNat))))) rfl rfl (R_load_pp rfl rfl (R_notb rfl (R_e ?_)))
 refine W_seq_ifb rfl (fun c5=>?_) (fun c5=>?_)
 ·
  have zq5:(rfN l o s).lf=false:=by simpa [rfN] using c5
  refine W_seq_seq (W_r (R_lk t3 h3 rfl rfl (R_sk t6 rfl rfl h6 rfl rfl rfl rfl rfl (R_mv rfl (R_mv rfl (R_e (W_seq_ret ?_)))))))
  refine RetC_3 (resV_c (u:=(V.agg [(iV (l.i)),(V.sl (List.map cN (l.t.nd)))])) t6 (@rfl Blk (bk 1 26 2 [[(iV (l.i)),(V.sl (List.map cN (l.t.nd)))]])) (lB oB rfl rfl)) (resV_t (@rfl V V.nilsl)) (resV_t (@rfl V (iV (10:Int)))) (fz_agg2 (fz_int ?_) (fz_sl ?_ (fun _=>by simp))) (fz_nil ?_) (fz_int ?_)
  · rw [rfR_5 zq1 zq2 zq3 zq4 zq5]
    try rfl
  · rw [rfR_5 zq1 zq2 zq3 zq4 zq5]
    try rfl
  · rw [rfR_5 zq1 zq2 zq3 zq4 zq5]
    try rfl
  · rw [rfR_5 zq1 zq2 zq3 zq4 zq5]
    try rfl
 have zq5: ¬(rfN l o s).lf=false:=by simpa [rfN] using c5
 have hac:=(wchk_ok (hw0 (sftR l.t o (rfW s)).1.toNat (by omega)).1).1
 have hba:(rfN l o s).ac.length≤1024:=hac
 have hlc:(rfN l o s).lf=true:=by simpa using zq5
 refine W_seq_skip (W_r (R_fk t3 h3 (R_fk rfl h3 (R_lk rfl h3 rfl rfl (R_mv t12 (R_idxI (i:=((sftR l.t o (rfW s)).1)) (@rfl V (V.sl (List.map cN (l.t.nd)))) (@rfl V (iV ((sftR l.t o (rfW s)).1))) (by omega) (by omega) rfl (R_fld_pp (cs':=(List.drop 1 (cN (((nth (l.t.nd) ((sftR l.t o (rfW s)).1).toNat)))))) rfl rfl ?_)))))))
 refine R_load_pp rfl rfl (R_mv rfl (R_e (W_seq_seq (W_r (R_mv rfl (R_len rfl (R_fk t5 h5 ?_)))))))
 refine R_lk rfl h5 rfl rfl (R_len rfl (R_addN rfl rfl (by omega) (R_gtr rfl rfl (R_mv rfl ?_))))
 refine Ops_seg 8 (fun T H=>T 3=(V.mp 3 1 0 0)∧T 4=(V.mp 4 1 0 0)∧T 5=(V.mp 5 1 0 0)∧T 6=(V.mp 6 1 0 0)∧T 11=(ints (rfW s))∧T 12=(iV ((sftR l.t o (rfW s)).1))∧T 15=(ints (((nth (l.t.nd) ((sftR l.t o (rfW s)).1).toNat)).ac))∧T 94=(V.bool (decide (((1024:Int) < ((((((nth (l.t.nd) ((sftR l.t o (rfW s)).1).toNat)).ac).length)+s.x.length:Nat):Int))∨((1024:Int) < ((((rfW s).length)+s.x.length:Nat):Int)))))∧H 3=(bk 1 26 2 [[(iV (l.i)),(V.sl (List.map cN (l.t.nd)))]])∧H 4=(bk 1 29 2 [[(iV (o.i)),(V.sl (List.map cT (o.tr)))]])∧H 5=(bk 1 56 3 [[(ints s.p),(iV (s.a)),(ints s.x)]])∧H 6=(bk 1 26 2 [[(iV (0:Int)),V.nilsl]])∧H 20=(⟨0,false,false,0,0,[]⟩:Blk)∧H 21=(⟨0,false,false,0,0,[]⟩:Blk)∧True) ?_ ?_
 ·
  by_cases g6:(1024:Int) < ((((((nth (l.t.nd) ((sftR l.t o (rfW s)).1).toNat)).ac).length)+s.x.length:Nat):Int)
  ·
   refine G_n (edT g6 rfl) (G_n (edT g6 rfl) (G_n (edT g6 rfl) (G_n (edT g6 rfl) (G_n (edT g6 rfl) (G_n (edT g6 rfl) (G_n (edT g6 rfl) (R_pickT (edT g6 rfl) rfl ?_)))))))
   exact ⟨t3,t4,t5,t6,t11,t12,rfl,(dec_orT g6),h3,h4,h5,h6,h20,h21,trivial⟩
  ·
   refine G_yes (edF g6 rfl) (R_mv t11 (G_yes (edF g6 rfl) (R_len rfl (G_yes (edF g6 rfl) (R_fk t5 h5 (G_yes (edF g6 rfl) (R_lk rfl h5 rfl rfl ?_)))))))
   refine G_yes (edF g6 rfl) (R_len rfl (G_yes (edF g6 rfl) (R_addN rfl rfl (by omega) (G_yes (edF g6 rfl) (R_gtr rfl rfl (R_pickF (edF g6 rfl) rfl ?_))))))
   exact ⟨t3,t4,t5,t6,t11,t12,rfl,(dec_orF g6),h3,h4,h5,h6,h20,h21,trivial⟩
 intro T H ⟨t3,t4,t5,t6,t11,t12,t15,t94,h3,h4,h5,h6,h20,h21,_⟩
 refine R_e ?_
 refine W_seq_if t94 (fun c7=>?_) fun c7=>?_
 ·
  have zq6:1024 < (rfN l o s).ac.length+s.x.length∨1024 < (rfW s).length+s.x.length:=by unfold rfN; omega
  refine W_seq_seq (W_r (R_lk t3 h3 rfl rfl (R_sk t6 rfl rfl h6 rfl rfl rfl rfl rfl (R_mv rfl (R_mv rfl (R_e (W_seq_ret ?_)))))))
  refine RetC_3 (resV_c (u:=(V.agg [(iV (l.i)),(V.sl (List.map cN (l.t.nd)))])) t6 (@rfl Blk (bk 1 26 2 [[(iV (l.i)),(V.sl (List.map cN (l.t.nd)))]])) (lB oB rfl rfl)) (resV_t (@rfl V V.nilsl)) (resV_t (@rfl V (iV (3:Int)))) (fz_agg2 (fz_int ?_) (fz_sl ?_ (fun _=>by simp))) (fz_nil ?_) (fz_int ?_)
  · rw [rfR_6 zq1 zq2 zq3 zq4 zq5 zq6]
    try rfl
  · rw [rfR_6 zq1 zq2 zq3 zq4 zq5 zq6]
    try rfl
  · rw [rfR_6 zq1 zq2 zq3 zq4 zq5 zq6]
    try rfl
  · rw [rfR_6 zq1 zq2 zq3 zq4 zq5 zq6]
    try rfl
 have zq6: ¬(1024 < (rfN l o s).ac.length+s.x.length∨1024 < (rfW s).length+s.x.length):=by unfold rfN; omega
 have m0:msW o (rfB l o s)=_:=msW_two
 have bh1:=bho_le ho (nth l.t.nd (sftR l.t o (rfW s)).1.toNat).ac s.x
 have bh2:=bho_le ho (rfW s) s.x
 refine W_seq_skip (W_r (R_lk t4 h4 rfl rfl (R_mv t15 (R_fk t5 h5 (R_lk rfl h5 rfl rfl (R_callk (rbehind27_pure o (((nth (l.t.nd) ((sftR l.t o (rfW s)).1).toNat)).ac) s.x ho (by omega) (by omega)) rfl (R_mv rfl ?_)))))))
 refine R_ext rfl rfl (R_ext rfl rfl (R_mv rfl (R_mv rfl (R_e (W_r (R_lk t4 h4 rfl rfl (R_mv t11 ?_)))))))
 refine R_fk t5 h5 (R_lk rfl h5 rfl rfl (R_callk (rbehind27_pure o (rfW s) s.x ho (by omega) (by omega)) rfl (R_mv rfl (R_ext rfl rfl (R_ext rfl rfl (R_mv rfl (R_mv rfl ?_)))))))
 refine R_e (W_r (R_lazy (i:=20) (n:=0) rfl (congrArg Blk.ver h20) (R_e (W_seq_seq (W_r (R_mv rfl (R_notb rfl ?_)))))))
 refine R_e ?_
 refine W_seq_ifb rfl (fun c8=>?_) (fun c8=>?_)
 ·
  have k1: ¬(ans o (cat [(rfN l o s).ac,s.x])).isSome=true:=by have q:=c8; simpa [rfN] using q
  refine W_seq_regc (fun T H=>T 3=(V.mp 3 1 0 0)∧T 5=(V.mp 5 1 0 0)∧T 6=(V.mp 6 1 0 0)∧T 11=(ints (rfW s))∧T 12=(iV ((sftR l.t o (rfW s)).1))∧T 16=(ints (bho o (((nth (l.t.nd) ((sftR l.t o (rfW s)).1).toNat)).ac) s.x))∧T 18=(ints (bho o (rfW s) s.x))∧T 19=(V.bool ((ans o (cat [(rfW s),s.x])).isSome))∧T 20=(V.ms 20 2 0 (1))∧H 3=(bk 1 26 2 [[(iV (l.i)),(V.sl (List.map cN (l.t.nd)))]])∧H 4=(bk 1 29 2 [[(iV (o.i)),(V.sl (List.map cT (o.tr)))]])∧H 5=(bk 1 56 3 [[(ints s.p),(iV (s.a)),(ints s.x)]])∧H 6=(bk 1 26 2 [[(iV (0:Int)),V.nilsl]])∧H 20=(bz 2 54 1 (List.map cL ([]++[cat ([((nth (l.t.nd) ((sftR l.t o (rfW s)).1).toNat)).ac,s.x])])))∧H 21=(⟨0,false,false,0,0,[]⟩:Blk)∧True) ?_ ?_
  ·
   refine R_mv rfl (R_mv t15 (R_fk t5 h5 (R_lk rfl h5 rfl rfl (R_bslice rfl rfl (R_callk (join_pure ([((nth (l.t.nd) ((sftR l.t o (rfW s)).1).toNat)).ac,s.x]) (by simp only [cat,List.append_nil,List.length_append,List.length_cons,List.length_nil]; omega)) rfl (R_bslice rfl rfl (R_append1 (l:=([])) (f:=cL) (x:=(cat ([((nth (l.t.nd) ((sftR l.t o (rfW s)).1).toNat)).ac,s.x]))) (@rfl V (V.ms 20 1 0 (0))) (show _=(bz 1 54 1 (List.map cL ([]))) from (@rfl Blk (bz 1 54 1 []))) (by rfl) (@rfl V (V.sl [[(ints (cat ([((nth (l.t.nd) ((sftR l.t o (rfW s)).1).toNat)).ac,s.x])))]])) rfl rfl (by omega) (by omega) ?_)))))))
   refine R_mv rfl ?_
   exact R_nil ⟨t3,t5,t6,t11,t12,rfl,rfl,rfl,rfl,h3,h4,h5,h6,rfl,h21,trivial⟩
  intro T H ⟨t3,t5,t6,t11,t12,t16,t18,t19,t20,h3,h4,h5,h6,h20,h21,_⟩
  refine W_seq_seq (W_r (R_mv t19 (R_notb rfl (R_e ?_))))
  refine W_seq_ifb rfl (fun c9=>?_) (fun c9=>?_)
  ·
   have k2: ¬(ans o (cat [rfW s,s.x])).isSome=true:=by have q:=c9; simpa using q
   refine W_r (R_mv t20 (R_mv t11 (R_fk t5 h5 (R_lk rfl h5 rfl rfl (R_bslice rfl rfl (R_callk (join_pure ([rfW s,s.x]) (by simp only [cat,List.append_nil,List.length_append,List.length_cons,List.length_nil]; omega)) rfl (R_bslice rfl rfl ?_)))))))
   refine R_append1 (l:=([]++[cat ([((nth (l.t.nd) ((sftR l.t o (rfW s)).1).toNat)).ac,s.x])])) (f:=cL) (x:=(cat ([rfW s,s.x]))) (@rfl V (V.ms 20 2 0 (1))) h20 (by rfl) (@rfl V (V.sl [[(ints (cat ([rfW s,s.x])))]])) rfl rfl (by omega) (by omega) (R_mv rfl (R_e (W_seq_seq ?_)))
   refine W_seq_g (fun T H=>T 3=(V.mp 3 1 0 0)∧T 5=(V.mp 5 1 0 0)∧T 6=(V.mp 6 1 0 0)∧T 11=(ints (rfW s))∧T 12=(iV ((sftR l.t o (rfW s)).1))∧T 16=(ints (bho o (((nth (l.t.nd) ((sftR l.t o (rfW s)).1).toNat)).ac) s.x))∧T 18=(ints (bho o (rfW s) s.x))∧T 20=(V.ms 20 3 0 (2))∧T 134=(V.bool (decide ((0:Int) < ((2:Nat):Int))))∧H 3=(bk 1 26 2 [[(iV (l.i)),(V.sl (List.map cN (l.t.nd)))]])∧H 4=(bk 1 29 2 [[(iV (o.i)),(V.sl (List.map cT (o.tr)))]])∧H 5=(bk 1 56 3 [[(ints s.p),(iV (s.a)),(ints s.x)]])∧H 6=(bk 1 26 2 [[(iV (0:Int)),V.nilsl]])∧H 20=(bz 3 54 1 (List.map cL ([]++[cat ([((nth (l.t.nd) ((sftR l.t o (rfW s)).1).toNat)).ac,s.x])]++[cat ([rfW s,s.x])])))∧H 21=(⟨0,false,false,0,0,[]⟩:Blk)∧True) ?_ ?_
   ·
    refine R_mv rfl (R_len_ms rfl (@rfl Blk (bz 3 54 1 (List.map cL ([]++[cat ([((nth (l.t.nd) ((sftR l.t o (rfW s)).1).toNat)).ac,s.x])]++[cat ([rfW s,s.x])])))) (by rfl) (R_gtr rfl rfl ?_))
    exact R_nil ⟨t3,t5,t6,t11,t12,t16,t18,rfl,rfl,h3,h4,h5,h6,rfl,h21,trivial⟩
   intro T H ⟨t3,t5,t6,t11,t12,t16,t18,t20,t134,h3,h4,h5,h6,h20,h21,_⟩
   refine .freeze 20 (.done ?_)
   refine fork_ (R:=fun T H=>T 3=(V.mp 3 1 0 0)∧T 5=(V.mp 5 1 0 0)∧T 6=(V.mp 6 1 0 0)∧T 11=(ints (rfW s))∧T 12=(iV ((sftR l.t o (rfW s)).1))∧T 16=(ints (bho o (((nth (l.t.nd) ((sftR l.t o (rfW s)).1).toNat)).ac) s.x))∧T 18=(ints (bho o (rfW s) s.x))∧T 20=(intss ([]++[cat ([((nth (l.t.nd) ((sftR l.t o (rfW s)).1).toNat)).ac,s.x])]++[cat ([rfW s,s.x])]))∧T 134=(V.bool (decide ((0:Int) < ((2:Nat):Int))))∧H 3=(bk 1 26 2 [[(iV (l.i)),(V.sl (List.map cN (l.t.nd)))]])∧H 4=(bk 1 29 2 [[(iV (o.i)),(V.sl (List.map cT (o.tr)))]])∧H 5=(bk 1 56 3 [[(ints s.p),(iV (s.a)),(ints s.x)]])∧H 6=(bk 1 26 2 [[(iV (0:Int)),V.nilsl]])∧((H 20).ver=3∧(H 20).live=false)∧H 21=(⟨0,false,false,0,0,[]⟩:Blk)∧True) ⟨(fzT_q t3 rfl),(fzT_q t5 rfl),(fzT_q t6 rfl),(fzT_q t11 rfl),(fzT_q t12 rfl),(fzT_q t16 rfl),(fzT_q t18 rfl),(fzT_q t20 (fzq_own h20 (by rfl) (l:=([]++[cat ([((nth (l.t.nd) ((sftR l.t o (rfW s)).1).toNat)).ac,s.x])]++[cat ([rfW s,s.x])])) rfl (by rfl))),(fzT_q t134 rfl),(kill_ne h3 (by decide)),(kill_ne h4 (by decide)),(kill_ne h5 (by decide)),(kill_ne h6 (by decide)),(kill_self (congrArg Blk.ver h20)),(kill_ne h21 (by decide)),trivial⟩ ?_
   intro T H ⟨t3,t5,t6,t11,t12,t16,t18,t20,t134,h3,h4,h5,h6,h20,h21,_⟩
   refine W_seq_if t134 (fun c10=>?_) fun c10=>?_
   ·
    have zq7:0 < (msW o (rfB l o s)).length:=by rw [m0]; simp [k1,k2]
    refine W_seq_seq (W_r (R_lk t3 h3 rfl rfl (R_mv t20 (R_callk (rmaximal_pure ([]++[cat ([((nth (l.t.nd) ((sftR l.t o (rfW s)).1).toNat)).ac,s.x])]++[cat ([rfW s,s.x])]) (by simp) (by intro w hw; simp only [List.nil_append,List.mem_append,List.mem_singleton] at hw; rcases hw with rfl|rfl <;> (simp only [cat,List.append_nil,List.length_append]; omega))) rfl (R_sk t6 rfl rfl h6 rfl rfl rfl rfl rfl (R_mv rfl (R_mv rfl ?_)))))))
    refine R_e (W_seq_ret ?_)
    refine RetC_3 (resV_c (u:=(V.agg [(iV (l.i)),(V.sl (List.map cN (l.t.nd)))])) t6 (@rfl Blk (bk 1 26 2 [[(iV (l.i)),(V.sl (List.map cN (l.t.nd)))]])) (lB oB rfl rfl)) (resV_t (@rfl V (intss (mxW ([]++[cat ([((nth (l.t.nd) ((sftR l.t o (rfW s)).1).toNat)).ac,s.x])]++[cat ([rfW s,s.x])]))))) (resV_t (@rfl V (iV (0:Int)))) (fz_agg2 (fz_int ?_) (fz_sl ?_ (fun _=>by simp))) (fz_sl ?_ (fun _=>by simp)) (fz_int ?_)
    · rw [rfR_7 zq1 zq2 zq3 zq4 zq5 zq6 zq7]
    · rw [rfR_7 zq1 zq2 zq3 zq4 zq5 zq6 zq7]
    · rw [rfR_7 zq1 zq2 zq3 zq4 zq5 zq6 zq7,m0]; simp only [k1,k2,if_true,if_false]; rfl
    · rw [rfR_7 zq1 zq2 zq3 zq4 zq5 zq6 zq7]
   · exact absurd (by decide) c10
  have k2:(ans o (cat [rfW s,s.x])).isSome=true:=by have q:=c9; simpa using q
  refine W_seq_skip (W_seq_seq ?_)
  refine W_seq_g (fun T H=>T 3=(V.mp 3 1 0 0)∧T 5=(V.mp 5 1 0 0)∧T 6=(V.mp 6 1 0 0)∧T 11=(ints (rfW s))∧T 12=(iV ((sftR l.t o (rfW s)).1))∧T 16=(ints (bho o (((nth (l.t.nd) ((sftR l.t o (rfW s)).1).toNat)).ac) s.x))∧T 18=(ints (bho o (rfW s) s.x))∧T 20=(V.ms 20 2 0 (1))∧T 134=(V.bool (decide ((0:Int) < ((1:Nat):Int))))∧H 3=(bk 1 26 2 [[(iV (l.i)),(V.sl (List.map cN (l.t.nd)))]])∧H 4=(bk 1 29 2 [[(iV (o.i)),(V.sl (List.map cT (o.tr)))]])∧H 5=(bk 1 56 3 [[(ints s.p),(iV (s.a)),(ints s.x)]])∧H 6=(bk 1 26 2 [[(iV (0:Int)),V.nilsl]])∧H 20=(bz 2 54 1 (List.map cL ([]++[cat ([((nth (l.t.nd) ((sftR l.t o (rfW s)).1).toNat)).ac,s.x])])))∧H 21=(⟨0,false,false,0,0,[]⟩:Blk)∧True) ?_ ?_
  ·
   refine R_mv t20 (R_len_ms rfl h20 (by rfl) (R_gtr rfl rfl ?_))
   exact R_nil ⟨t3,t5,t6,t11,t12,t16,t18,t20,rfl,h3,h4,h5,h6,h20,h21,trivial⟩
  intro T H ⟨t3,t5,t6,t11,t12,t16,t18,t20,t134,h3,h4,h5,h6,h20,h21,_⟩
  refine .freeze 20 (.done ?_)
  refine fork_ (R:=fun T H=>T 3=(V.mp 3 1 0 0)∧T 5=(V.mp 5 1 0 0)∧T 6=(V.mp 6 1 0 0)∧T 11=(ints (rfW s))∧T 12=(iV ((sftR l.t o (rfW s)).1))∧T 16=(ints (bho o (((nth (l.t.nd) ((sftR l.t o (rfW s)).1).toNat)).ac) s.x))∧T 18=(ints (bho o (rfW s) s.x))∧T 20=(intss ([]++[cat ([((nth (l.t.nd) ((sftR l.t o (rfW s)).1).toNat)).ac,s.x])]))∧T 134=(V.bool (decide ((0:Int) < ((1:Nat):Int))))∧H 3=(bk 1 26 2 [[(iV (l.i)),(V.sl (List.map cN (l.t.nd)))]])∧H 4=(bk 1 29 2 [[(iV (o.i)),(V.sl (List.map cT (o.tr)))]])∧H 5=(bk 1 56 3 [[(ints s.p),(iV (s.a)),(ints s.x)]])∧H 6=(bk 1 26 2 [[(iV (0:Int)),V.nilsl]])∧((H 20).ver=2∧(H 20).live=false)∧H 21=(⟨0,false,false,0,0,[]⟩:Blk)∧True) ⟨(fzT_q t3 rfl),(fzT_q t5 rfl),(fzT_q t6 rfl),(fzT_q t11 rfl),(fzT_q t12 rfl),(fzT_q t16 rfl),(fzT_q t18 rfl),(fzT_q t20 (fzq_own h20 (by rfl) (l:=([]++[cat ([((nth (l.t.nd) ((sftR l.t o (rfW s)).1).toNat)).ac,s.x])])) rfl (by rfl))),(fzT_q t134 rfl),(kill_ne h3 (by decide)),(kill_ne h4 (by decide)),(kill_ne h5 (by decide)),(kill_ne h6 (by decide)),(kill_self (congrArg Blk.ver h20)),(kill_ne h21 (by decide)),trivial⟩ ?_
  intro T H ⟨t3,t5,t6,t11,t12,t16,t18,t20,t134,h3,h4,h5,h6,h20,h21,_⟩
  refine W_seq_if t134 (fun c11=>?_) fun c11=>?_
  ·
   have zq7:0 < (msW o (rfB l o s)).length:=by rw [m0]; simp [k1,k2]
   refine W_seq_seq (W_r (R_lk t3 h3 rfl rfl (R_mv t20 (R_callk (rmaximal_pure ([]++[cat ([((nth (l.t.nd) ((sftR l.t o (rfW s)).1).toNat)).ac,s.x])]) (by simp) (by intro w hw; simp only [List.nil_append,List.mem_append,List.mem_singleton] at hw; rcases hw with rfl|rfl <;> (simp only [cat,List.append_nil,List.length_append]; omega))) rfl (R_sk t6 rfl rfl h6 rfl rfl rfl rfl rfl (R_mv rfl (R_mv rfl ?_)))))))
   refine R_e (W_seq_ret ?_)
   refine RetC_3 (resV_c (u:=(V.agg [(iV (l.i)),(V.sl (List.map cN (l.t.nd)))])) t6 (@rfl Blk (bk 1 26 2 [[(iV (l.i)),(V.sl (List.map cN (l.t.nd)))]])) (lB oB rfl rfl)) (resV_t (@rfl V (intss (mxW ([]++[cat ([((nth (l.t.nd) ((sftR l.t o (rfW s)).1).toNat)).ac,s.x])]))))) (resV_t (@rfl V (iV (0:Int)))) (fz_agg2 (fz_int ?_) (fz_sl ?_ (fun _=>by simp))) (fz_sl ?_ (fun _=>by simp)) (fz_int ?_)
   · rw [rfR_7 zq1 zq2 zq3 zq4 zq5 zq6 zq7]
   · rw [rfR_7 zq1 zq2 zq3 zq4 zq5 zq6 zq7]
   · rw [rfR_7 zq1 zq2 zq3 zq4 zq5 zq6 zq7,m0]; simp only [k1,k2,if_true,if_false]; rfl
   · rw [rfR_7 zq1 zq2 zq3 zq4 zq5 zq6 zq7]
  · exact absurd (by decide) c11
 have k1:(ans o (cat [(rfN l o s).ac,s.x])).isSome=true:=by have q:=c8; simpa [rfN] using q
 refine W_seq_skip (W_seq_seq ?_)
 refine W_seq_regc (fun T H=>T 3=(V.mp 3 1 0 0)∧T 5=(V.mp 5 1 0 0)∧T 6=(V.mp 6 1 0 0)∧T 11=(ints (rfW s))∧T 12=(iV ((sftR l.t o (rfW s)).1))∧T 16=(ints (bho o (((nth (l.t.nd) ((sftR l.t o (rfW s)).1).toNat)).ac) s.x))∧T 18=(ints (bho o (rfW s) s.x))∧T 20=(V.ms 20 1 0 (0))∧T 123=(V.bool ((!(ans o (cat [(rfW s),s.x])).isSome)))∧H 3=(bk 1 26 2 [[(iV (l.i)),(V.sl (List.map cN (l.t.nd)))]])∧H 4=(bk 1 29 2 [[(iV (o.i)),(V.sl (List.map cT (o.tr)))]])∧H 5=(bk 1 56 3 [[(ints s.p),(iV (s.a)),(ints s.x)]])∧H 6=(bk 1 26 2 [[(iV (0:Int)),V.nilsl]])∧H 20=(bz 1 54 1 [])∧H 21=(⟨0,false,false,0,0,[]⟩:Blk)∧True) ?_ ?_
 ·
  refine R_mv rfl (R_notb rfl ?_)
  exact R_nil ⟨t3,t5,t6,t11,t12,rfl,rfl,rfl,rfl,h3,h4,h5,h6,rfl,h21,trivial⟩
 intro T H ⟨t3,t5,t6,t11,t12,t16,t18,t20,t123,h3,h4,h5,h6,h20,h21,_⟩
 refine W_seq_ifb t123 (fun c12=>?_) (fun c12=>?_)
 ·
  have k2: ¬(ans o (cat [rfW s,s.x])).isSome=true:=by have q:=c12; simpa using q
  refine W_r (R_mv t20 (R_mv t11 (R_fk t5 h5 (R_lk rfl h5 rfl rfl (R_bslice rfl rfl (R_callk (join_pure ([rfW s,s.x]) (by simp only [cat,List.append_nil,List.length_append,List.length_cons,List.length_nil]; omega)) rfl (R_bslice rfl rfl ?_)))))))
  refine R_append1 (l:=([])) (f:=cL) (x:=(cat ([rfW s,s.x]))) (@rfl V (V.ms 20 1 0 (0))) (show _=(bz 1 54 1 (List.map cL ([]))) from h20) (by rfl) (@rfl V (V.sl [[(ints (cat ([rfW s,s.x])))]])) rfl rfl (by omega) (by omega) (R_mv rfl (R_e (W_seq_seq ?_)))
  refine W_seq_g (fun T H=>T 3=(V.mp 3 1 0 0)∧T 5=(V.mp 5 1 0 0)∧T 6=(V.mp 6 1 0 0)∧T 11=(ints (rfW s))∧T 12=(iV ((sftR l.t o (rfW s)).1))∧T 16=(ints (bho o (((nth (l.t.nd) ((sftR l.t o (rfW s)).1).toNat)).ac) s.x))∧T 18=(ints (bho o (rfW s) s.x))∧T 20=(V.ms 20 2 0 (1))∧T 134=(V.bool (decide ((0:Int) < ((1:Nat):Int))))∧H 3=(bk 1 26 2 [[(iV (l.i)),(V.sl (List.map cN (l.t.nd)))]])∧H 4=(bk 1 29 2 [[(iV (o.i)),(V.sl (List.map cT (o.tr)))]])∧H 5=(bk 1 56 3 [[(ints s.p),(iV (s.a)),(ints s.x)]])∧H 6=(bk 1 26 2 [[(iV (0:Int)),V.nilsl]])∧H 20=(bz 2 54 1 (List.map cL ([]++[cat ([rfW s,s.x])])))∧H 21=(⟨0,false,false,0,0,[]⟩:Blk)∧True) ?_ ?_
  ·
   refine R_mv rfl (R_len_ms rfl (@rfl Blk (bz 2 54 1 (List.map cL ([]++[cat ([rfW s,s.x])])))) (by rfl) (R_gtr rfl rfl ?_))
   exact R_nil ⟨t3,t5,t6,t11,t12,t16,t18,rfl,rfl,h3,h4,h5,h6,rfl,h21,trivial⟩
  intro T H ⟨t3,t5,t6,t11,t12,t16,t18,t20,t134,h3,h4,h5,h6,h20,h21,_⟩
  refine .freeze 20 (.done ?_)
  refine fork_ (R:=fun T H=>T 3=(V.mp 3 1 0 0)∧T 5=(V.mp 5 1 0 0)∧T 6=(V.mp 6 1 0 0)∧T 11=(ints (rfW s))∧T 12=(iV ((sftR l.t o (rfW s)).1))∧T 16=(ints (bho o (((nth (l.t.nd) ((sftR l.t o (rfW s)).1).toNat)).ac) s.x))∧T 18=(ints (bho o (rfW s) s.x))∧T 20=(intss ([]++[cat ([rfW s,s.x])]))∧T 134=(V.bool (decide ((0:Int) < ((1:Nat):Int))))∧H 3=(bk 1 26 2 [[(iV (l.i)),(V.sl (List.map cN (l.t.nd)))]])∧H 4=(bk 1 29 2 [[(iV (o.i)),(V.sl (List.map cT (o.tr)))]])∧H 5=(bk 1 56 3 [[(ints s.p),(iV (s.a)),(ints s.x)]])∧H 6=(bk 1 26 2 [[(iV (0:Int)),V.nilsl]])∧((H 20).ver=2∧(H 20).live=false)∧H 21=(⟨0,false,false,0,0,[]⟩:Blk)∧True) ⟨(fzT_q t3 rfl),(fzT_q t5 rfl),(fzT_q t6 rfl),(fzT_q t11 rfl),(fzT_q t12 rfl),(fzT_q t16 rfl),(fzT_q t18 rfl),(fzT_q t20 (fzq_own h20 (by rfl) (l:=([]++[cat ([rfW s,s.x])])) rfl (by rfl))),(fzT_q t134 rfl),(kill_ne h3 (by decide)),(kill_ne h4 (by decide)),(kill_ne h5 (by decide)),(kill_ne h6 (by decide)),(kill_self (congrArg Blk.ver h20)),(kill_ne h21 (by decide)),trivial⟩ ?_
  intro T H ⟨t3,t5,t6,t11,t12,t16,t18,t20,t134,h3,h4,h5,h6,h20,h21,_⟩
  refine W_seq_if t134 (fun c13=>?_) fun c13=>?_
  ·
   have zq7:0 < (msW o (rfB l o s)).length:=by rw [m0]; simp [k1,k2]
   refine W_seq_seq (W_r (R_lk t3 h3 rfl rfl (R_mv t20 (R_callk (rmaximal_pure ([]++[cat ([rfW s,s.x])]) (by simp) (by intro w hw; simp only [List.nil_append,List.mem_append,List.mem_singleton] at hw; rcases hw with rfl|rfl <;> (simp only [cat,List.append_nil,List.length_append]; omega))) rfl (R_sk t6 rfl rfl h6 rfl rfl rfl rfl rfl (R_mv rfl (R_mv rfl ?_)))))))
   refine R_e (W_seq_ret ?_)
   refine RetC_3 (resV_c (u:=(V.agg [(iV (l.i)),(V.sl (List.map cN (l.t.nd)))])) t6 (@rfl Blk (bk 1 26 2 [[(iV (l.i)),(V.sl (List.map cN (l.t.nd)))]])) (lB oB rfl rfl)) (resV_t (@rfl V (intss (mxW ([]++[cat ([rfW s,s.x])]))))) (resV_t (@rfl V (iV (0:Int)))) (fz_agg2 (fz_int ?_) (fz_sl ?_ (fun _=>by simp))) (fz_sl ?_ (fun _=>by simp)) (fz_int ?_)
   · rw [rfR_7 zq1 zq2 zq3 zq4 zq5 zq6 zq7]
   · rw [rfR_7 zq1 zq2 zq3 zq4 zq5 zq6 zq7]
   · rw [rfR_7 zq1 zq2 zq3 zq4 zq5 zq6 zq7,m0]; simp only [k1,k2,if_true,if_false]; rfl
   · rw [rfR_7 zq1 zq2 zq3 zq4 zq5 zq6 zq7]
  · exact absurd (by decide) c13
 have k2:(ans o (cat [rfW s,s.x])).isSome=true:=by have q:=c12; simpa using q
 refine W_seq_skip (W_seq_seq ?_)
 refine W_seq_g (fun T H=>T 3=(V.mp 3 1 0 0)∧T 5=(V.mp 5 1 0 0)∧T 6=(V.mp 6 1 0 0)∧T 11=(ints (rfW s))∧T 12=(iV ((sftR l.t o (rfW s)).1))∧T 16=(ints (bho o (((nth (l.t.nd) ((sftR l.t o (rfW s)).1).toNat)).ac) s.x))∧T 18=(ints (bho o (rfW s) s.x))∧T 20=(V.ms 20 1 0 (0))∧T 134=(V.bool (decide ((0:Int) < ((0:Nat):Int))))∧H 3=(bk 1 26 2 [[(iV (l.i)),(V.sl (List.map cN (l.t.nd)))]])∧H 4=(bk 1 29 2 [[(iV (o.i)),(V.sl (List.map cT (o.tr)))]])∧H 5=(bk 1 56 3 [[(ints s.p),(iV (s.a)),(ints s.x)]])∧H 6=(bk 1 26 2 [[(iV (0:Int)),V.nilsl]])∧H 20=(bz 1 54 1 [])∧H 21=(⟨0,false,false,0,0,[]⟩:Blk)∧True) ?_ ?_
 ·
  refine R_mv t20 (R_len_ms rfl h20 (by rfl) (R_gtr rfl rfl ?_))
  exact R_nil ⟨t3,t5,t6,t11,t12,t16,t18,t20,rfl,h3,h4,h5,h6,h20,h21,trivial⟩
 intro T H ⟨t3,t5,t6,t11,t12,t16,t18,t20,t134,h3,h4,h5,h6,h20,h21,_⟩
 refine .freeze 20 (.done ?_)
 refine fork_ (R:=fun T H=>T 3=(V.mp 3 1 0 0)∧T 5=(V.mp 5 1 0 0)∧T 6=(V.mp 6 1 0 0)∧T 11=(ints (rfW s))∧T 12=(iV ((sftR l.t o (rfW s)).1))∧T 16=(ints (bho o (((nth (l.t.nd) ((sftR l.t o (rfW s)).1).toNat)).ac) s.x))∧T 18=(ints (bho o (rfW s) s.x))∧T 20=(V.sl [])∧T 134=(V.bool (decide ((0:Int) < ((0:Nat):Int))))∧H 3=(bk 1 26 2 [[(iV (l.i)),(V.sl (List.map cN (l.t.nd)))]])∧H 4=(bk 1 29 2 [[(iV (o.i)),(V.sl (List.map cT (o.tr)))]])∧H 5=(bk 1 56 3 [[(ints s.p),(iV (s.a)),(ints s.x)]])∧H 6=(bk 1 26 2 [[(iV (0:Int)),V.nilsl]])∧((H 20).ver=1∧(H 20).live=false)∧H 21=(⟨0,false,false,0,0,[]⟩:Blk)∧True) ⟨(fzT_q t3 rfl),(fzT_q t5 rfl),(fzT_q t6 rfl),(fzT_q t11 rfl),(fzT_q t12 rfl),(fzT_q t16 rfl),(fzT_q t18 rfl),(fzT_q t20 (by simp [fzq,h20])),(fzT_q t134 rfl),(kill_ne h3 (by decide)),(kill_ne h4 (by decide)),(kill_ne h5 (by decide)),(kill_ne h6 (by decide)),(kill_self (congrArg Blk.ver h20)),(kill_ne h21 (by decide)),trivial⟩ ?_
 intro T H ⟨t3,t5,t6,t11,t12,t16,t18,t20,t134,h3,h4,h5,h6,h20,h21,_⟩
 refine W_seq_if t134 (fun c14=>?_) fun c14=>?_
 · exact absurd c14 (by decide)
 have zq7: ¬0 < (msW o (rfB l o s)).length:=by rw [m0]; simp [k1,k2]
 refine W_seq_skip (W_seq_seq (W_r (R_fk t3 h3 (R_lk rfl h3 rfl rfl (R_callk (raccess_pure l.t hb) rfl (R_len rfl (R_geq rfl rfl ?_)))))))
 refine R_e ?_
 refine W_seq_if rfl (fun c15=>?_) fun c15=>?_
 ·
  have zq8:128≤(acL l.t.nd).length:=by omega
  refine W_seq_seq (W_r (R_lk t3 h3 rfl rfl (R_sk t6 rfl rfl h6 rfl rfl rfl rfl rfl (R_mv rfl (R_mv rfl (R_e (W_seq_ret ?_)))))))
  refine RetC_3 (resV_c (u:=(V.agg [(iV (l.i)),(V.sl (List.map cN (l.t.nd)))])) t6 (@rfl Blk (bk 1 26 2 [[(iV (l.i)),(V.sl (List.map cN (l.t.nd)))]])) (lB oB rfl rfl)) (resV_t (@rfl V V.nilsl)) (resV_t (@rfl V (iV (11:Int)))) (fz_agg2 (fz_int ?_) (fz_sl ?_ (fun _=>by simp))) (fz_nil ?_) (fz_int ?_)
  · rw [rfR_8 zq1 zq2 zq3 zq4 zq5 zq6 zq7 zq8]
    try rfl
  · rw [rfR_8 zq1 zq2 zq3 zq4 zq5 zq6 zq7 zq8]
    try rfl
  · rw [rfR_8 zq1 zq2 zq3 zq4 zq5 zq6 zq7 zq8]
    try rfl
  · rw [rfR_8 zq1 zq2 zq3 zq4 zq5 zq6 zq7 zq8]
    try rfl
 have zq8: ¬128≤(acL l.t.nd).length:=by omega
 refine W_seq_skip (W_r (R_fk t3 h3 (R_lk rfl h3 rfl rfl (R_mv t12 (R_fk t5 h5 (R_lk rfl h5 rfl rfl (R_mv t16 ?_)))))))
 refine R_mv t11 (R_mv t18 (R_callk (rsplit_pure l.t (((sftR l.t o (rfW s)).1)) s.x (bho o (((nth (l.t.nd) ((sftR l.t o (rfW s)).1).toNat)).ac) s.x) (rfW s) (bho o (rfW s) s.x) hb (by omega) (by omega) (by omega) (by omega)) rfl (R_mv rfl (R_ext rfl rfl (R_ext rfl rfl (R_alloc (i:=21) (n:=0) (m:=1) rfl (congrArg Blk.ver h21) rfl (R_sk rfl rfl rfl rfl rfl rfl rfl rfl rfl ?_)))))))
 refine R_mv rfl (R_e (W_seq_seq (W_r (R_mv rfl (R_neq rfl rfl (R_e ?_))))))
 refine W_seq_if rfl (fun c16=>?_) fun c16=>?_
 ·
  have zq9:rfG l o s≠0:=c16
  refine W_seq_seq (W_r (R_lk t3 h3 rfl rfl (R_mv rfl (R_sk t6 rfl rfl h6 rfl rfl rfl rfl rfl (R_mv rfl (R_mv rfl (R_e ?_)))))))
  refine W_seq_ret ?_
  refine RetC_3 (resV_c (u:=(V.agg [(iV (l.i)),(V.sl (List.map cN (l.t.nd)))])) t6 (@rfl Blk (bk 1 26 2 [[(iV (l.i)),(V.sl (List.map cN (l.t.nd)))]])) (lB oB rfl rfl)) (resV_t (@rfl V V.nilsl)) (resV_t (@rfl V (iV (spE l.t (((sftR l.t o (rfW s)).1)) s.x (bho o (((nth (l.t.nd) ((sftR l.t o (rfW s)).1).toNat)).ac) s.x) (rfW s) (bho o (rfW s) s.x))))) (fz_agg2 (fz_int ?_) (fz_sl ?_ (fun _=>by simp))) (fz_nil ?_) (fz_int ?_)
  · rw [rfR_9 zq1 zq2 zq3 zq4 zq5 zq6 zq7 zq8 zq9]
    try rfl
  · rw [rfR_9 zq1 zq2 zq3 zq4 zq5 zq6 zq7 zq8 zq9]
    try rfl
  · rw [rfR_9 zq1 zq2 zq3 zq4 zq5 zq6 zq7 zq8 zq9]
    try rfl
  · rw [rfR_9 zq1 zq2 zq3 zq4 zq5 zq6 zq7 zq8 zq9]
    try rfl
 have zq9: ¬rfG l o s≠0:=c16
 refine W_seq_skip (W_r (R_fk t3 h3 (R_lk rfl h3 rfl rfl (R_lk rfl rfl rfl rfl (R_build rfl rfl (R_sk t6 rfl rfl h6 rfl rfl rfl rfl rfl (R_mv rfl ?_)))))))
 refine R_mv rfl (R_e (W_ret ?_))
 refine RetC_3 (resV_c (u:=(V.agg [(iV (l.i)),(V.sl (List.map cN ((spT l.t (((sftR l.t o (rfW s)).1)) s.x (bho o (((nth (l.t.nd) ((sftR l.t o (rfW s)).1).toNat)).ac) s.x) (rfW s) (bho o (rfW s) s.x)).nd)))])) t6 (@rfl Blk (bk 1 26 2 [[(iV (l.i)),(V.sl (List.map cN ((spT l.t (((sftR l.t o (rfW s)).1)) s.x (bho o (((nth (l.t.nd) ((sftR l.t o (rfW s)).1).toNat)).ac) s.x) (rfW s) (bho o (rfW s) s.x)).nd)))]])) (lB oB rfl rfl)) (resV_t (@rfl V V.nilsl)) (resV_t (@rfl V (iV (0:Int)))) (fz_agg2 (fz_int ?_) (fz_sl ?_ (fun _=>by simp))) (fz_nil ?_) (fz_int ?_)
 · rw [rfR_10 zq1 zq2 zq3 zq4 zq5 zq6 zq7 zq8 zq9]
   try rfl
 · rw [rfR_10 zq1 zq2 zq3 zq4 zq5 zq6 zq7 zq8 zq9]
   try rfl
 · rw [rfR_10 zq1 zq2 zq3 zq4 zq5 zq6 zq7 zq8 zq9]
   try rfl
 · rw [rfR_10 zq1 zq2 zq3 zq4 zq5 zq6 zq7 zq8 zq9]
   try rfl
theorem law5_pure (l:Ts) (o:Ob) (s:Spl):PureC Tryz.prog 5 [(V.agg [(iV (l.i)),(V.sl (List.map cN (l.t.nd)))]),(V.agg [(iV (o.i)),(V.sl (List.map cT (o.tr)))]),(V.agg [(ints s.p),(iV (s.a)),(ints s.x)])] (V.bool true):=by
 refine pW Tryz.func5 s5_ok fun hB=>?_
 unfold s5
 dsimp only
 refine W_r (R_box (i:=3) (n:=0) (m:=2) (cs:=[(iV (l.i)),(V.sl (List.map cN (l.t.nd)))]) rfl (congrArg Blk.ver rfl) rfl rfl rfl (R_box (i:=4) (n:=0) (m:=2) (cs:=[(iV (o.i)),(V.sl (List.map cT (o.tr)))]) rfl (congrArg Blk.ver rfl) rfl rfl rfl (R_box (i:=5) (n:=0) (m:=3) (cs:=[(ints s.p),(iV (s.a)),(ints s.x)]) rfl (congrArg Blk.ver rfl) rfl rfl rfl (R_mv rfl (R_e (W_seq_seq (W_r ?_)))))))
 refine R_lk rfl rfl rfl rfl (R_lk rfl rfl rfl rfl (R_callk (great27_pure l o) rfl (R_mv rfl ?_)))
 refine Ops_seg 5 (fun T H=>T 3=(V.mp 3 1 0 0)∧T 4=(V.mp 4 1 0 0)∧T 5=(V.mp 5 1 0 0)∧T 21=(V.bool (((grB l o)||decide ((1100:Int) < ((s.p.length:Nat):Int)))))∧H 3=(bk 1 26 2 [[(iV (l.i)),(V.sl (List.map cN (l.t.nd)))]])∧H 4=(bk 1 29 2 [[(iV (o.i)),(V.sl (List.map cT (o.tr)))]])∧H 5=(bk 1 56 3 [[(ints s.p),(iV (s.a)),(ints s.x)]])∧H 7=(⟨0,false,false,0,0,[]⟩:Blk)∧H 10=(⟨0,false,false,0,0,[]⟩:Blk)∧True) ?_ ?_
 ·
  by_cases g1:(grB l o)=true
  ·
   refine G_n (ebT g1 rfl) (G_n (ebT g1 rfl) (G_n (ebT g1 rfl) (G_n (ebT g1 rfl) (R_pickT (ebT g1 rfl) rfl ?_))))
   exact ⟨rfl,rfl,rfl,(borT g1),rfl,rfl,rfl,rfl,rfl,trivial⟩
  ·
   refine G_yes (ebF g1 rfl) (R_fk rfl rfl (G_yes (ebF g1 rfl) (R_lk rfl rfl rfl rfl (G_yes (ebF g1 rfl) (R_len rfl (G_yes (ebF g1 rfl) (R_gtr rfl rfl ?_)))))))
   refine R_pickF (ebF g1 rfl) rfl ?_
   exact ⟨rfl,rfl,rfl,(borF g1),rfl,rfl,rfl,rfl,rfl,trivial⟩
 intro T H ⟨t3,t4,t5,t21,h3,h4,h5,h7,h10,_⟩
 refine R_mv t21 ?_
 refine Ops_seg 5 (fun T H=>T 3=(V.mp 3 1 0 0)∧T 4=(V.mp 4 1 0 0)∧T 5=(V.mp 5 1 0 0)∧T 27=(V.bool (((((grB l o)||decide ((1100:Int) < ((s.p.length:Nat):Int))))||decide ((1100:Int) < ((s.x.length:Nat):Int)))))∧H 3=(bk 1 26 2 [[(iV (l.i)),(V.sl (List.map cN (l.t.nd)))]])∧H 4=(bk 1 29 2 [[(iV (o.i)),(V.sl (List.map cT (o.tr)))]])∧H 5=(bk 1 56 3 [[(ints s.p),(iV (s.a)),(ints s.x)]])∧H 7=(⟨0,false,false,0,0,[]⟩:Blk)∧H 10=(⟨0,false,false,0,0,[]⟩:Blk)∧True) ?_ ?_
 ·
  by_cases g2:(((grB l o)||decide ((1100:Int) < ((s.p.length:Nat):Int))))=true
  ·
   refine G_n (ebT g2 rfl) (G_n (ebT g2 rfl) (G_n (ebT g2 rfl) (G_n (ebT g2 rfl) (R_pickT (ebT g2 rfl) rfl ?_))))
   exact ⟨t3,t4,t5,(borT g2),h3,h4,h5,h7,h10,trivial⟩
  ·
   refine G_yes (ebF g2 rfl) (R_fk t5 h5 (G_yes (ebF g2 rfl) (R_lk rfl h5 rfl rfl (G_yes (ebF g2 rfl) (R_len rfl (G_yes (ebF g2 rfl) (R_gtr rfl rfl ?_)))))))
   refine R_pickF (ebF g2 rfl) rfl ?_
   exact ⟨t3,t4,t5,(borF g2),h3,h4,h5,h7,h10,trivial⟩
 intro T H ⟨t3,t4,t5,t27,h3,h4,h5,h7,h10,_⟩
 refine R_e ?_
 refine W_seq_ifb t27 (fun c3=>?_) (fun c3=>?_)
 ·
  refine W_seq_seq (W_r (R_callk (aw_learnerlaw27_awake_pure) rfl (R_mv rfl (R_e (W_seq_ret ?_)))))
  refine Ret_1 (@rfl V (V.bool true)) (fz_canon (by simp) rfl)
 have q1:=c3
 simp only [Bool.or_eq_false_iff,decide_eq_false_iff_not] at q1
 obtain ⟨⟨q2,q3⟩,q4⟩:=q1
 obtain ⟨hi4,hgt,hol,ho⟩:=gr_no q2
 have hb:=bg_bd hgt
 have hx:=exs_40 hgt hi4
 refine W_seq_skip (W_r (R_lk t3 h3 rfl rfl (R_lk t4 h4 rfl rfl (R_lk t5 h5 rfl rfl (R_callk (trefine_pure l o s hb ho) rfl (R_mv rfl (R_ext rfl rfl ?_)))))))
 refine R_ext rfl rfl (R_ext rfl rfl (R_alloc (i:=7) (n:=0) (m:=2) rfl (congrArg Blk.ver h7) rfl (R_sk rfl rfl rfl rfl rfl rfl rfl rfl rfl (R_mv rfl (R_mv rfl (R_e (W_r ?_)))))))
 refine R_lk t3 h3 rfl rfl (R_lk t4 h4 rfl rfl (R_lk t5 h5 rfl rfl (R_callk (rrefine_pure l o s hb ho) rfl (R_mv rfl (R_ext rfl rfl (R_ext rfl rfl (R_ext rfl rfl ?_)))))))
 refine R_alloc (i:=10) (n:=0) (m:=2) rfl (congrArg Blk.ver h10) rfl (R_sk rfl rfl rfl rfl rfl rfl rfl rfl rfl (R_mv rfl (R_mv rfl (R_e ?_))))
 refine W_seq_regc (fun T H=>T 6=(V.bool (decide (((((rfR l o s).1)=((rfR l o s).1))∧(((rfR l o s).2.1)=((rfR l o s).2.1)))∧(((rfR l o s).2.2)=((rfR l o s).2.2)))))∧H 3=(bk 1 26 2 [[(iV (l.i)),(V.sl (List.map cN (l.t.nd)))]])∧H 4=(bk 1 29 2 [[(iV (o.i)),(V.sl (List.map cT (o.tr)))]])∧H 5=(bk 1 56 3 [[(ints s.p),(iV (s.a)),(ints s.x)]])∧H 7=(bk 1 26 2 [[(iV ((rfR l o s).1.i)),(V.sl (List.map cN ((rfR l o s).1.t.nd)))]])∧H 10=(bk 1 26 2 [[(iV ((rfR l o s).1.i)),(V.sl (List.map cN ((rfR l o s).1.t.nd)))]])∧True) ?_ ?_
 ·
  refine R_lk rfl rfl rfl rfl (R_lk rfl rfl rfl rfl (R_callk (tsame_pure ((rfR l o s).1) ((rfR l o s).1)) rfl (R_mv rfl ?_)))
  refine Ops_seg 4 (fun T H=>T 9=(iV ((rfR l o s).2.2))∧T 12=(iV ((rfR l o s).2.2))∧T 52=(V.bool (decide ((((rfR l o s).1)=((rfR l o s).1))∧(((rfR l o s).2.1)=((rfR l o s).2.1)))))∧H 3=(bk 1 26 2 [[(iV (l.i)),(V.sl (List.map cN (l.t.nd)))]])∧H 4=(bk 1 29 2 [[(iV (o.i)),(V.sl (List.map cT (o.tr)))]])∧H 5=(bk 1 56 3 [[(ints s.p),(iV (s.a)),(ints s.x)]])∧H 7=(bk 1 26 2 [[(iV ((rfR l o s).1.i)),(V.sl (List.map cN ((rfR l o s).1.t.nd)))]])∧H 10=(bk 1 26 2 [[(iV ((rfR l o s).1.i)),(V.sl (List.map cN ((rfR l o s).1.t.nd)))]])∧True) ?_ ?_
  ·
   by_cases g4:((rfR l o s).1)=((rfR l o s).1)
   ·
    refine G_yes (edT g4 rfl) (R_mv rfl (G_yes (edT g4 rfl) (R_mv rfl (G_yes (edT g4 rfl) (R_callk (swords_pure ((rfR l o s).2.1) ((rfR l o s).2.1)) rfl (R_pickT (edT g4 rfl) rfl ?_))))))
    exact ⟨rfl,rfl,(dec_andT g4),h3,h4,h5,rfl,rfl,trivial⟩
   ·
    refine G_n (edF g4 rfl) (G_n (edF g4 rfl) (G_n (edF g4 rfl) (R_pickF (edF g4 rfl) rfl ?_)))
    exact ⟨rfl,rfl,(dec_andF g4),h3,h4,h5,rfl,rfl,trivial⟩
  intro T H ⟨t9,t12,t52,h3,h4,h5,h7,h10,_⟩
  refine R_mv t52 ?_
  refine Ops_seg 4 (fun T H=>T 57=(V.bool (decide (((((rfR l o s).1)=((rfR l o s).1))∧(((rfR l o s).2.1)=((rfR l o s).2.1)))∧(((rfR l o s).2.2)=((rfR l o s).2.2)))))∧H 3=(bk 1 26 2 [[(iV (l.i)),(V.sl (List.map cN (l.t.nd)))]])∧H 4=(bk 1 29 2 [[(iV (o.i)),(V.sl (List.map cT (o.tr)))]])∧H 5=(bk 1 56 3 [[(ints s.p),(iV (s.a)),(ints s.x)]])∧H 7=(bk 1 26 2 [[(iV ((rfR l o s).1.i)),(V.sl (List.map cN ((rfR l o s).1.t.nd)))]])∧H 10=(bk 1 26 2 [[(iV ((rfR l o s).1.i)),(V.sl (List.map cN ((rfR l o s).1.t.nd)))]])∧True) ?_ ?_
  ·
   by_cases g5:(((rfR l o s).1)=((rfR l o s).1))∧(((rfR l o s).2.1)=((rfR l o s).2.1))
   ·
    refine G_yes (edT g5 rfl) (R_mv t9 (G_yes (edT g5 rfl) (R_mv t12 (G_yes (edT g5 rfl) (R_eql rfl rfl (R_pickT (edT g5 rfl) rfl ?_))))))
    exact ⟨(dec_andT g5),h3,h4,h5,h7,h10,trivial⟩
   ·
    refine G_n (edF g5 rfl) (G_n (edF g5 rfl) (G_n (edF g5 rfl) (R_pickF (edF g5 rfl) rfl ?_)))
    exact ⟨(dec_andF g5),h3,h4,h5,h7,h10,trivial⟩
  intro T H ⟨t57,h3,h4,h5,h7,h10,_⟩
  refine R_mv t57 ?_
  refine Ops_seg 2 (fun T H=>T 60=(V.bool (decide (((((rfR l o s).1)=((rfR l o s).1))∧(((rfR l o s).2.1)=((rfR l o s).2.1)))∧(((rfR l o s).2.2)=((rfR l o s).2.2)))))∧H 3=(bk 1 26 2 [[(iV (l.i)),(V.sl (List.map cN (l.t.nd)))]])∧H 4=(bk 1 29 2 [[(iV (o.i)),(V.sl (List.map cT (o.tr)))]])∧H 5=(bk 1 56 3 [[(ints s.p),(iV (s.a)),(ints s.x)]])∧H 7=(bk 1 26 2 [[(iV ((rfR l o s).1.i)),(V.sl (List.map cN ((rfR l o s).1.t.nd)))]])∧H 10=(bk 1 26 2 [[(iV ((rfR l o s).1.i)),(V.sl (List.map cN ((rfR l o s).1.t.nd)))]])∧True) ?_ ?_
  ·
   by_cases g6:((((rfR l o s).1)=((rfR l o s).1))∧(((rfR l o s).2.1)=((rfR l o s).2.1)))∧(((rfR l o s).2.2)=((rfR l o s).2.2))
   ·
    refine G_yes (edT g6 rfl) (R_callk (aw_learnerlaw27_awake_pure) rfl (R_pickT (edT g6 rfl) rfl ?_))
    exact ⟨(dec_T g6),h3,h4,h5,h7,h10,trivial⟩
   ·
    refine G_n (edF g6 rfl) (R_pickF (edF g6 rfl) rfl ?_)
    exact ⟨(dec_F g6),h3,h4,h5,h7,h10,trivial⟩
  intro T H ⟨t60,h3,h4,h5,h7,h10,_⟩
  refine R_mv t60 ?_
  exact R_nil ⟨rfl,h3,h4,h5,h7,h10,trivial⟩
 intro T H ⟨t6,h3,h4,h5,h7,h10,_⟩
 refine W_ret ?_
 refine Ret_1 t6 (fz_bool ?_)
 · simp
end Go.Proofs.YtmnjchcoigbngabGreat
namespace Go.Proofs.YtmnjchcoigbngabGreat
open Go Go.Proofs Go.Proofs.YtmnjchcoigbngabGreat Go.ChangeShapes Go.WideShapes Go.ChangeAt Go.RowKit
structure UT (P:Program):Prop where
  u3:P.underlying 3=some (.int .i64)
  u22:P.underlying 22=some (.slice 99)
  u4:P.underlying 4=some (.bool)
  u54:P.underlying 54=some (.slice 3)
  u37:P.underlying 37=some (.slice 54)
  u99: ∃ f0 f1 f2 f3 f4:Field,P.underlying 99=some (.struct #[f0,f1,f2,f3,f4])∧f0.type=4∧f1.type=54∧f2.type=54∧f3.type=37∧f4.type=54
  u24: ∃ f0:Field,P.underlying 24=some (.struct #[f0])∧f0.type=22
  u26: ∃ f0 f1:Field,P.underlying 26=some (.struct #[f0,f1])∧f0.type=3∧f1.type=24
  u27:P.underlying 27=some (.slice 84)
  u84: ∃ f0 f1:Field,P.underlying 84=some (.struct #[f0,f1])∧f0.type=54∧f1.type=54
  u29: ∃ f0 f1:Field,P.underlying 29=some (.struct #[f0,f1])∧f0.type=3∧f1.type=27
  u56: ∃ f0 f1 f2:Field,P.underlying 56=some (.struct #[f0,f1,f2])∧f0.type=54∧f1.type=3∧f2.type=54
theorem sh3 {P:Program} (U:UT P) (n:Nat) (vs:List V) (h:Shp P (n+1) 3 vs): ∃ a:Int,vs=cI a:=shp_int U.u3 h
theorem sh4 {P:Program} (U:UT P) (n:Nat) (vs:List V) (h:Shp P (n+1) 4 vs): ∃ a:Bool,vs=(fun b=>[V.bool b]) a:=shp_bool U.u4 h
theorem sh54 {P:Program} (U:UT P) (n:Nat) (vs:List V) (h:Shp P (n+2) 54 vs): ∃ a:List Int,vs=cL a:=shp_slice (f:=cI) U.u54 (fun vs h=>sh3 U n vs h) h
theorem sh37 {P:Program} (U:UT P) (n:Nat) (vs:List V) (h:Shp P (n+3) 37 vs): ∃ a:List (List Int),vs=(fun l=>[V.sl (List.map cL l)]) a:=shp_slice (f:=cL) U.u37 (fun vs h=>sh54 U n vs h) h
theorem sh99 {P:Program} (U:UT P) (n:Nat) (vs:List V) (h:Shp P (n+4) 99 vs): ∃ a:Nd,vs=cN a:=by
  obtain ⟨f0,f1,f2,f3,f4,hu,k0,k1,k2,k3,k4⟩:=U.u99
  have h0:=shp_step hu h
  obtain ⟨x0,u0,e0,h1⟩:=shpL_cons (c:=(fun b=>[V.bool b])) (fun vs h=>sh4 U (n+2) vs (by rw [k0] at h; exact h)) h0
  obtain ⟨x1,u1,e1,h2⟩:=shpL_cons (c:=cL) (fun vs h=>sh54 U (n+1) vs (by rw [k1] at h; exact h)) h1
  obtain ⟨x2,u2,e2,h3⟩:=shpL_cons (c:=cL) (fun vs h=>sh54 U (n+1) vs (by rw [k2] at h; exact h)) h2
  obtain ⟨x3,u3,e3,h4⟩:=shpL_cons (c:=(fun l=>[V.sl (List.map cL l)])) (fun vs h=>sh37 U (n+0) vs (by rw [k3] at h; exact h)) h3
  obtain ⟨x4,u4,e4,h5⟩:=shpL_cons (c:=cL) (fun vs h=>sh54 U (n+1) vs (by rw [k4] at h; exact h)) h4
  have e5:=shpL_nil h5
  exact ⟨⟨x0,x1,x2,x3,x4⟩,by rw [e0,e1,e2,e3,e4,e5]; rfl⟩
theorem sh22 {P:Program} (U:UT P) (n:Nat) (vs:List V) (h:Shp P (n+5) 22 vs): ∃ a:List Nd,vs=(fun l=>[V.sl (List.map cN l)]) a:=shp_slice (f:=cN) U.u22 (fun vs h=>sh99 U n vs h) h
theorem sh24 {P:Program} (U:UT P) (n:Nat) (vs:List V) (h:Shp P (n+6) 24 vs): ∃ a:Dt,vs=cD a:=by
  obtain ⟨f0,hu,k0⟩:=U.u24
  have h0:=shp_step hu h
  obtain ⟨x0,u0,e0,h1⟩:=shpL_cons (c:=(fun l=>[V.sl (List.map cN l)])) (fun vs h=>sh22 U (n+0) vs (by rw [k0] at h; exact h)) h0
  have e1:=shpL_nil h1
  exact ⟨⟨x0⟩,by rw [e0,e1]; rfl⟩
theorem sh26 {P:Program} (U:UT P) (n:Nat) (vs:List V) (h:Shp P (n+7) 26 vs): ∃ a:Ts,vs=cTs a:=by
  obtain ⟨f0,f1,hu,k0,k1⟩:=U.u26
  have h0:=shp_step hu h
  obtain ⟨x0,u0,e0,h1⟩:=shpL_cons (c:=cI) (fun vs h=>sh3 U (n+5) vs (by rw [k0] at h; exact h)) h0
  obtain ⟨x1,u1,e1,h2⟩:=shpL_cons (c:=cD) (fun vs h=>sh24 U (n+0) vs (by rw [k1] at h; exact h)) h1
  have e2:=shpL_nil h2
  exact ⟨⟨x0,x1⟩,by rw [e0,e1,e2]; rfl⟩
theorem sh84 {P:Program} (U:UT P) (n:Nat) (vs:List V) (h:Shp P (n+3) 84 vs): ∃ a:Tr,vs=cT a:=by
  obtain ⟨f0,f1,hu,k0,k1⟩:=U.u84
  have h0:=shp_step hu h
  obtain ⟨x0,u0,e0,h1⟩:=shpL_cons (c:=cL) (fun vs h=>sh54 U (n+0) vs (by rw [k0] at h; exact h)) h0
  obtain ⟨x1,u1,e1,h2⟩:=shpL_cons (c:=cL) (fun vs h=>sh54 U (n+0) vs (by rw [k1] at h; exact h)) h1
  have e2:=shpL_nil h2
  exact ⟨⟨x0,x1⟩,by rw [e0,e1,e2]; rfl⟩
theorem sh27 {P:Program} (U:UT P) (n:Nat) (vs:List V) (h:Shp P (n+4) 27 vs): ∃ a:List Tr,vs=(fun l=>[V.sl (List.map cT l)]) a:=shp_slice (f:=cT) U.u27 (fun vs h=>sh84 U n vs h) h
theorem sh29 {P:Program} (U:UT P) (n:Nat) (vs:List V) (h:Shp P (n+5) 29 vs): ∃ a:Ob,vs=oC a:=by
  obtain ⟨f0,f1,hu,k0,k1⟩:=U.u29
  have h0:=shp_step hu h
  obtain ⟨x0,u0,e0,h1⟩:=shpL_cons (c:=cI) (fun vs h=>sh3 U (n+3) vs (by rw [k0] at h; exact h)) h0
  obtain ⟨x1,u1,e1,h2⟩:=shpL_cons (c:=(fun l=>[V.sl (List.map cT l)])) (fun vs h=>sh27 U (n+0) vs (by rw [k1] at h; exact h)) h1
  have e2:=shpL_nil h2
  exact ⟨⟨x0,x1⟩,by rw [e0,e1,e2]; rfl⟩
theorem sh56 {P:Program} (U:UT P) (n:Nat) (vs:List V) (h:Shp P (n+3) 56 vs): ∃ a:Spl,vs=cSpl a:=by
  obtain ⟨f0,f1,f2,hu,k0,k1,k2⟩:=U.u56
  have h0:=shp_step hu h
  obtain ⟨x0,u0,e0,h1⟩:=shpL_cons (c:=cL) (fun vs h=>sh54 U (n+0) vs (by rw [k0] at h; exact h)) h0
  obtain ⟨x1,u1,e1,h2⟩:=shpL_cons (c:=cI) (fun vs h=>sh3 U (n+1) vs (by rw [k1] at h; exact h)) h1
  obtain ⟨x2,u2,e2,h3⟩:=shpL_cons (c:=cL) (fun vs h=>sh54 U (n+0) vs (by rw [k2] at h; exact h)) h2
  have e3:=shpL_nil h3
  exact ⟨⟨x0,x1,x2⟩,by rw [e0,e1,e2,e3]; rfl⟩
theorem ut:UT Tryz.prog:=⟨by kernel_rfl,by kernel_rfl,by kernel_rfl,by kernel_rfl,by kernel_rfl,⟨_,_,_,_,_,Tryz.underlying99,rfl,rfl,rfl,rfl,rfl⟩,⟨_,Tryz.underlying24,rfl⟩,⟨_,_,Tryz.underlying26,rfl,rfl⟩,by kernel_rfl,⟨_,_,Tryz.underlying84,rfl,rfl⟩,⟨_,_,Tryz.underlying29,rfl,rfl⟩,⟨_,_,_,Tryz.underlying56,rfl,rfl,rfl⟩⟩
theorem args5 {P:Program} (U:UT P) {us:List V} (h:ShpA P 8 [26,29,56] us): ∃ (d0:Ts) (d1:Ob) (d2:Spl),us=[V.agg (cTs d0),V.agg (oC d1),V.agg (cSpl d2)]:=by
  obtain ⟨a0,b0,e0,h0,h⟩:=shpA_cons h
  obtain ⟨d0,g0⟩:=sh26 U 1 a0 h0
  have q0:packV P 26 a0=V.agg (cTs d0):=by obtain ⟨_,_,hu,_⟩:=U.u26; rw [g0]; exact pack_struct hu _
  obtain ⟨a1,b1,e1,h1,h⟩:=shpA_cons h
  obtain ⟨d1,g1⟩:=sh29 U 3 a1 h1
  have q1:packV P 29 a1=V.agg (oC d1):=by obtain ⟨_,_,hu,_⟩:=U.u29; rw [g1]; exact pack_struct hu _
  obtain ⟨a2,b2,e2,h2,h⟩:=shpA_cons h
  obtain ⟨d2,g2⟩:=sh56 U 5 a2 h2
  have q2:packV P 56 a2=V.agg (cSpl d2):=by obtain ⟨_,_,_,hu,_⟩:=U.u56; rw [g2]; exact pack_struct hu _
  have e3:=shpA_nil h
  exact ⟨d0,d1,d2,by rw [e0,q0,e1,q1,e2,q2,e3]⟩
theorem own5:ownKnob Tryz.prog.godebug=none:=by kernel_rfl
set_option maxRecDepth 100000 in
theorem lifted5 (os:Os) (started:os.Started) (H:Type) (enc:TypeId×Value→H):
    ReturnsInHanded {} Tryz.checked os 5 .any (Rows.treelearnRefinesSpec.pre6 enc Tryz.prog Tryz.f5 Rows.treelearnRefinesRow.domain false) (Rows.treelearnRefinesSpec.post enc Tryz.prog Tryz.f5 false true false false):=by
  refine returnsInHanded_of_change (C:=Tryz.checked) own5 started (by kernel_rfl) Tryz.func5
    (ChangeSpec.witness6 (enc:=enc) (C:=Tryz.checked) false ⟨#[],#[.agg #[.int .i64 0,.slice none 0 0],.agg #[.int .i64 0,.slice none 0 0],.agg #[.slice none 0 0,.int .i64 0,.slice none 0 0]],[]⟩ 8 (by kernel_rfl) (by kernel_rfl) (by kernel_rfl) (by kernel_rfl)) ?_
  intro W base args ds gs before hval0 hW hcnd _
  refine law_post (n:=8) (tb:=4) (by kernel_rfl) (by kernel_rfl) (by kernel_rfl) (fun t ht=>?_) rfl ?_ (fun us hu=>?_) hval0 hW
  · have h:t∈[26,29,56]:=ht
    simp only [List.mem_cons,List.not_mem_nil,or_false] at h
    rcases h with rfl|rfl|rfl
    · exact ⟨by kernel_rfl,by kernel_rfl,of_decide_eq_true (by kernel_rfl)⟩
    · exact ⟨by kernel_rfl,by kernel_rfl,of_decide_eq_true (by kernel_rfl)⟩
    · exact ⟨by kernel_rfl,by kernel_rfl,of_decide_eq_true (by kernel_rfl)⟩
  · obtain ⟨p,q,hA,hV,rfl,hfz,hnd⟩:=hW
    obtain ⟨rfl,rfl⟩:=trodVars_none hV
    change DataW.TrodAll enc Tryz.prog W 0 (fun _=>true) true [26,29,56] args.toList ds p at hA
    obtain ⟨v0,vs0,y0,ds0,pa0,pb0,hv0,rfl,rfl,_,hA⟩:=trodAll_cons hA
    obtain ⟨v1,vs1,y1,ds1,pa1,pb1,hv1,rfl,rfl,_,hA⟩:=trodAll_cons hA
    obtain ⟨v2,vs2,y2,ds2,pa2,pb2,hv2,rfl,rfl,_,hA⟩:=trodAll_cons hA
    obtain ⟨_,rfl,rfl⟩:=trodAll_nil hA
    rfl
  · obtain ⟨d0,d1,d2,rfl⟩:=args5 ut hu
    exact law5_pure d0 d1 d2
theorem proved5:Rows.TreelearnRefinesSaid:=
  OpenClaim.holds_of_wide 5 Tryz.f5 rfl rfl rfl rfl rfl rfl rfl ⟨rfl,rfl,rfl,rfl,rfl⟩ rfl rfl rfl rfl rfl (by kernel_rfl) Tryz.func5 (by kernel_rfl)
    (of_decide_eq_true (by kernel_rfl)) (by unfold Func.isWrapper; first|(rw [if_pos (by decide+kernel)]; kernel_rfl)|(rw [if_neg (by decide+kernel)]; exact ⟨rfl,rfl⟩))
    (fun os started H enc _=>lifted5 os started H enc)
end Go.Proofs.YtmnjchcoigbngabGreat
