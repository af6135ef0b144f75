/- Contracts of the functions that the law TS reaches, and the law itself, for every input; no condition. -/
import Derived.KernelRfl
import Derived.Test.YtmnjchcoigbngabGreatProg
import Derived.Test.YtmnjchcoigbngabGreatRows
import Derived.Test.YtmnjchcoigbngabGreatTS4
set_option linter.unusedSimpArgs false
set_option linter.unusedVariables false
namespace Go.Proofs.YtmnjchcoigbngabGreat
open Go Go.Proofs
theorem rgrow_pure (t:Dt) (n:Int) (outs w:List Int) (hb:Bd t) (ho:outs.length≤1048576) (hw:w.length≤1048576):PureC Tryz.prog 56 [(V.agg [(V.sl (List.map cN (t.nd)))]),(iV (n)),(ints outs),(ints w)] (V.tup [(V.agg [(V.sl (List.map cN ((grT t n outs w).nd)))]),(iV (grE t n outs w))]):=by
 refine pW Tryz.func56 s56_ok fun hB=>?_
 unfold s56
 dsimp only
 have hbn:=hb.n
 refine W_r (R_box (i:=4) (n:=0) (m:=1) (cs:=[(V.sl (List.map cN (t.nd)))]) rfl (congrArg Blk.ver rfl) rfl rfl rfl (R_alloc (i:=8) (n:=0) (m:=1) rfl (congrArg Blk.ver rfl) rfl (R_mv rfl (R_e (W_seq_seq (W_r (R_lk rfl rfl rfl rfl ?_)))))))
 refine R_callk (rdvalid_pure t hb) rfl (R_mv rfl (R_e (W_seq_seq (W_r (R_mv rfl (R_neq rfl rfl (R_e ?_)))))))
 refine W_seq_if rfl (fun c1=>?_) fun c1=>?_
 ·
  refine W_seq_seq (W_r (R_lk rfl rfl rfl rfl (R_mv rfl (R_sk rfl rfl rfl rfl rfl rfl rfl rfl rfl (R_mv rfl (R_e (W_seq_ret ?_)))))))
  refine RetC_2 (resV_c (u:=(V.agg [(V.sl (List.map cN (t.nd)))])) rfl (@rfl Blk (bk 1 24 1 [[(V.sl (List.map cN (t.nd)))]])) (lB oB rfl rfl)) (resV_t (@rfl V (iV (dvE t)))) (fz_agg1 (fz_sl ?_ (fun _=>by simp))) (fz_int ?_)
  · have z9:grE t n outs w=dvE t:=by
      unfold grE; rw [if_pos (by omega)]
    rw [grT_no (by rw [z9]; first|exact (by decide)|omega)]
  · have z9:grE t n outs w=dvE t:=by
      unfold grE; rw [if_pos (by omega)]
    exact z9.symm
 have hv:dvE t=0:=by omega
 refine W_seq_skip (W_seq_seq (W_r (R_lk rfl rfl rfl rfl (R_mv rfl (R_callk (rkind_pure t ((n)) false) rfl (R_mv rfl (R_e ?_)))))))
 refine W_seq_seq (W_r (R_mv rfl (R_neq rfl rfl (R_e ?_))))
 refine W_seq_if rfl (fun c2=>?_) fun c2=>?_
 ·
  refine W_seq_seq (W_r (R_lk rfl rfl rfl rfl (R_mv rfl (R_sk rfl rfl rfl rfl rfl rfl rfl rfl rfl (R_mv rfl (R_e (W_seq_ret ?_)))))))
  refine RetC_2 (resV_c (u:=(V.agg [(V.sl (List.map cN (t.nd)))])) rfl (@rfl Blk (bk 1 24 1 [[(V.sl (List.map cN (t.nd)))]])) (lB oB rfl rfl)) (resV_t (@rfl V (iV (noE t ((n)) false)))) (fz_agg1 (fz_sl ?_ (fun _=>by simp))) (fz_int ?_)
  · have z9:grE t n outs w=noE t n false:=by
      unfold grE; rw [if_neg (by omega),if_pos (by omega)]
    rw [grT_no (by rw [z9]; first|exact (by decide)|omega)]
  · have z9:grE t n outs w=noE t n false:=by
      unfold grE; rw [if_neg (by omega),if_pos (by omega)]
    exact z9.symm
 obtain ⟨n0,n1,n2⟩:=no_ok (t:=t) (n:=n) (b:=false) (by omega)
 have nb:n.toNat < t.nd.length:=by omega
 have hin:=nd_in hv nb n2
 have hkd:=hb.kd _ nb
 have hou:=hb.ou _ nb
 refine W_seq_skip (W_seq_seq (W_r (R_mv rfl (R_fk rfl rfl (R_lk rfl rfl rfl rfl (R_mv rfl (R_idxI (i:=(n)) (@rfl V (V.sl (List.map cN (t.nd)))) (@rfl V (iV (n))) (by omega) (by omega) rfl ?_)))))))
 refine R_fld_pp (cs':=(List.drop 2 (cN (((nth (t.nd) (n).toNat)))))) rfl rfl (R_load_pp rfl rfl (R_callk (outputs_pure outs (((nth (t.nd) (n).toNat)).sf)) rfl (R_mv rfl (R_e (W_seq_seq (W_r (R_mv rfl ?_)))))))
 refine R_neq rfl rfl (R_e ?_)
 refine W_seq_if rfl (fun c3=>?_) fun c3=>?_
 ·
  refine W_seq_seq (W_r (R_lk rfl rfl rfl rfl (R_mv rfl (R_sk rfl rfl rfl rfl rfl rfl rfl rfl rfl (R_mv rfl (R_e (W_seq_ret ?_)))))))
  refine RetC_2 (resV_c (u:=(V.agg [(V.sl (List.map cN (t.nd)))])) rfl (@rfl Blk (bk 1 24 1 [[(V.sl (List.map cN (t.nd)))]])) (lB oB rfl rfl)) (resV_t (@rfl V (iV (vlE outs (((nth (t.nd) (n).toNat)).sf))))) (fz_agg1 (fz_sl ?_ (fun _=>by simp))) (fz_int ?_)
  · have z9:grE t n outs w=vlE outs (nth t.nd n.toNat).sf:=by
      unfold grE; rw [if_neg (by omega),if_neg (by omega),if_pos (by omega)]
    rw [grT_no (by rw [z9]; first|exact (by decide)|omega)]
  · have z9:grE t n outs w=vlE outs (nth t.nd n.toNat).sf:=by
      unfold grE; rw [if_neg (by omega),if_neg (by omega),if_pos (by omega)]
    exact z9.symm
 refine W_seq_skip (W_seq_seq (W_r (R_fk rfl rfl (R_lk rfl rfl rfl rfl (R_mv rfl (R_idxI (i:=(n)) (@rfl V (V.sl (List.map cN (t.nd)))) (@rfl V (iV (n))) (by omega) (by omega) rfl (R_load_pp rfl rfl ?_)))))))
 refine R_mv rfl (R_callk (rchild_pure (((nth (t.nd) (n).toNat))) outs hin.srt hin.len) rfl (R_geq rfl rfl (R_e ?_)))
 refine W_seq_if rfl (fun c4=>?_) fun c4=>?_
 ·
  have d5:lxH (nth t.nd n.toNat).ou outs:=Decidable.not_not.1 fun e=>by (rw [if_neg e] at c4); omega
  refine W_seq_seq (W_r (R_lk rfl rfl rfl rfl (R_sk rfl rfl rfl rfl rfl rfl rfl rfl rfl (R_mv rfl (R_e (W_seq_ret ?_))))))
  refine RetC_2 (resV_c (u:=(V.agg [(V.sl (List.map cN (t.nd)))])) rfl (@rfl Blk (bk 1 24 1 [[(V.sl (List.map cN (t.nd)))]])) (lB oB rfl rfl)) (resV_t (@rfl V (iV (7:Int)))) (fz_agg1 (fz_sl ?_ (fun _=>by simp))) (fz_int ?_)
  · have z9:grE t n outs w=7:=by
      unfold grE; rw [if_neg (by omega),if_neg (by omega),if_neg (by omega),if_pos d5]
    rw [grT_no (by rw [z9]; first|exact (by decide)|omega)]
  · have z9:grE t n outs w=7:=by
      unfold grE; rw [if_neg (by omega),if_neg (by omega),if_neg (by omega),if_pos d5]
    exact z9.symm
 have d5: ¬lxH (nth t.nd n.toNat).ou outs:=fun e=>by (rw [if_pos e] at c4); (have:=hin.kr _ (nth_mem (show lxN (nth t.nd n.toNat).ou outs < (nth t.nd n.toNat).kd.length by have:=e.1; have:=hin.len; omega))); omega
 refine W_seq_skip (W_seq_seq (W_r (R_lk rfl rfl rfl rfl (R_mv rfl (R_callk (rfresh_pure t w hb) rfl (R_mv rfl (R_e ?_)))))))
 refine W_seq_seq (W_r (R_mv rfl (R_neq rfl rfl (R_e ?_))))
 refine W_seq_if rfl (fun c5=>?_) fun c5=>?_
 ·
  refine W_seq_seq ?_
  refine W_seq_regc (fun T H=>T 8=(V.mp 8 1 0 0)∧T 9=(iV (fsE t w))∧H 4=(bk 1 24 1 [[(V.sl (List.map cN (t.nd)))]])∧H 8=(bk 1 24 1 [[(V.sl (List.map cN (t.nd)))]])∧H 14=(⟨0,false,false,0,0,[]⟩:Blk)∧H 301=(⟨0,false,false,0,0,[]⟩:Blk)∧H 302=(⟨0,false,false,0,0,[]⟩:Blk)∧H 303=(⟨0,false,false,0,0,[]⟩:Blk)∧H 305=(⟨0,false,false,0,0,[]⟩:Blk)∧H 306=(⟨0,false,false,0,0,[]⟩:Blk)∧H 353=(⟨0,false,false,0,0,[]⟩:Blk)∧H 363=(⟨0,false,false,0,0,[]⟩:Blk)∧True) ?_ ?_
  ·
   refine R_lk rfl rfl rfl rfl (R_mv rfl (R_sk rfl rfl rfl rfl rfl rfl rfl rfl rfl (R_mv rfl ?_)))
   exact R_nil ⟨rfl,rfl,rfl,rfl,rfl,rfl,rfl,rfl,rfl,rfl,rfl,rfl,trivial⟩
  intro T H ⟨t8,t9,h4,h8,h14,h301,h302,h303,h305,h306,h353,h363,_⟩
  refine W_seq_ret ?_
  refine RetC_2 (resV_c (u:=(V.agg [(V.sl (List.map cN (t.nd)))])) t8 h8 (lB oB rfl rfl)) (resV_t t9) (fz_agg1 (fz_sl ?_ (fun _=>by simp))) (fz_int ?_)
  · have z9:grE t n outs w=fsE t w:=by
      unfold grE; rw [if_neg (by omega),if_neg (by omega),if_neg (by omega),if_neg d5,if_pos (by omega)]
    rw [grT_no (by rw [z9]; first|exact (by decide)|omega)]
  · have z9:grE t n outs w=fsE t w:=by
      unfold grE; rw [if_neg (by omega),if_neg (by omega),if_neg (by omega),if_neg d5,if_pos (by omega)]
    exact z9.symm
 refine W_seq_skip (W_seq_seq ?_)
 refine W_seq_regc (fun T H=>T 1=(iV (n))∧T 2=(ints outs)∧T 3=(ints w)∧T 4=(V.mp 4 1 0 0)∧T 8=(V.mp 8 1 0 0)∧T 59=(V.bool (decide ((4096:Int)≤((t.nd.length:Nat):Int))))∧H 4=(bk 1 24 1 [[(V.sl (List.map cN (t.nd)))]])∧H 8=(bk 1 24 1 [[V.nilsl]])∧H 14=(⟨0,false,false,0,0,[]⟩:Blk)∧H 301=(⟨0,false,false,0,0,[]⟩:Blk)∧H 302=(⟨0,false,false,0,0,[]⟩:Blk)∧H 303=(⟨0,false,false,0,0,[]⟩:Blk)∧H 305=(⟨0,false,false,0,0,[]⟩:Blk)∧H 306=(⟨0,false,false,0,0,[]⟩:Blk)∧H 353=(⟨0,false,false,0,0,[]⟩:Blk)∧H 363=(⟨0,false,false,0,0,[]⟩:Blk)∧True) ?_ ?_
 ·
  refine R_fk rfl rfl (R_lk rfl rfl rfl rfl (R_len rfl (R_geq rfl rfl ?_)))
  exact R_nil ⟨rfl,rfl,rfl,rfl,rfl,rfl,rfl,rfl,rfl,rfl,rfl,rfl,rfl,rfl,rfl,rfl,trivial⟩
 intro T H ⟨t1,t2,t3,t4,t8,t59,h4,h8,h14,h301,h302,h303,h305,h306,h353,h363,_⟩
 refine W_seq_if t59 (fun c6=>?_) fun c6=>?_
 ·
  refine W_seq_seq (W_r (R_lk t4 h4 rfl rfl (R_sk t8 rfl rfl h8 rfl rfl rfl rfl rfl (R_mv rfl (R_e (W_seq_ret ?_))))))
  refine RetC_2 (resV_c (u:=(V.agg [(V.sl (List.map cN (t.nd)))])) t8 (@rfl Blk (bk 1 24 1 [[(V.sl (List.map cN (t.nd)))]])) (lB oB rfl rfl)) (resV_t (@rfl V (iV (11:Int)))) (fz_agg1 (fz_sl ?_ (fun _=>by simp))) (fz_int ?_)
  · have z9:grE t n outs w=11:=by
      unfold grE; rw [if_neg (by omega),if_neg (by omega),if_neg (by omega),if_neg d5,if_neg (by omega),if_pos (by omega)]
    rw [grT_no (by rw [z9]; first|exact (by decide)|omega)]
  · have z9:grE t n outs w=11:=by
      unfold grE; rw [if_neg (by omega),if_neg (by omega),if_neg (by omega),if_neg d5,if_neg (by omega),if_pos (by omega)]
    exact z9.symm
 refine W_seq_skip (W_r (R_lk t4 h4 rfl rfl (R_callE (evcons rfl evnil) (rcopied_E t 0 0 0 0 0 0 0 _ hb (congrArg Blk.ver h301) (congrArg Blk.ver h302) (congrArg Blk.ver h303) (congrArg Blk.ver h305) ⟨congrArg Blk.ver h306,congrArg Blk.live h306⟩ (congrArg Blk.ver h353) (congrArg Blk.ver h363)) (R_alloc (i:=14) (n:=0) (m:=1) rfl (congrArg Blk.ver h14) rfl (R_sk rfl rfl rfl rfl rfl rfl rfl rfl rfl (R_e (W_r ?_)))))))
 refine R_fk rfl rfl (R_lk rfl rfl rfl rfl (R_mv t1 (R_fk rfl rfl (R_lk rfl rfl rfl rfl (R_mv t1 (R_idxI_ms0 (i:=(n)) (@rfl V (V.ms 353 (0+1+t.nd.length) 0 (t.nd.length))) (@rfl V (iV (n))) (@rfl Blk (bz (0+1+t.nd.length) 99 5 (List.map cN (t.nd)))) (okB_map (by omega)) rfl (by omega) (by omega) (R_load_mp (v:=(V.agg (cN (((nth (t.nd) (((n)).toNat))))))) rfl (@rfl Blk (bz (0+1+t.nd.length) 99 5 (List.map cN (t.nd)))) (ldB_map (by omega) (by rfl)) ?_)))))))
 refine R_mv t2 (R_bslice rfl rfl (R_callk (join_pure ([outs]) (by simp only [cat,List.append_nil]; omega)) rfl (R_fk t4 h4 (R_lk rfl h4 rfl rfl (R_len rfl (R_callk (put_pure (((nth (t.nd) (((n)).toNat)))) (cat ([outs])) (((t.nd.length:Nat):Int)) hin.len hkd) rfl (R_idxI_ms0 (i:=(n)) (@rfl V (V.ms 353 (0+1+t.nd.length) 0 (t.nd.length))) (@rfl V (iV (n))) (@rfl Blk (bz (0+1+t.nd.length) 99 5 (List.map cN (t.nd)))) (okB_map (by omega)) rfl (by omega) (by omega) ?_)))))))
 refine R_store (vs:=[(V.bool ((ptN (((nth (t.nd) (((n)).toNat)))) (cat ([outs])) (((t.nd.length:Nat):Int))).lf)),(ints ((ptN (((nth (t.nd) (((n)).toNat)))) (cat ([outs])) (((t.nd.length:Nat):Int))).ac)),(ints ((ptN (((nth (t.nd) (((n)).toNat)))) (cat ([outs])) (((t.nd.length:Nat):Int))).sf)),(intss ((ptN (((nth (t.nd) (((n)).toNat)))) (cat ([outs])) (((t.nd.length:Nat):Int))).ou)),(ints ((ptN (((nth (t.nd) (((n)).toNat)))) (cat ([outs])) (((t.nd.length:Nat):Int))).kd))]) (B':=(bz (0+1+t.nd.length) 99 5 (List.map cN ((t.nd).set (((n)).toNat) ((ptN (((nth (t.nd) (((n)).toNat)))) (cat ([outs])) (((t.nd.length:Nat):Int)))))))) rfl rfl rfl (@rfl Blk (bz (0+1+t.nd.length) 99 5 (List.map cN (t.nd)))) (stB_map (x:=((ptN (((nth (t.nd) (((n)).toNat)))) (cat ([outs])) (((t.nd.length:Nat):Int))))) (i:=(((n)).toNat)) (by omega) rfl rfl rfl rfl) (R_e ?_)
 refine W_seq_g (fun T H=>T 8=(V.mp 8 1 0 0)∧T 14=(V.mp 14 1 0 0)∧H 4=(bk 1 24 1 [[(V.sl (List.map cN (t.nd)))]])∧H 8=(bk 1 24 1 [[V.nilsl]])∧H 14=(bk 1 24 1 [[(V.ms 353 (0+1+t.nd.length+1) 0 (t.nd.length+1))]])∧H 301=(⟨1,false,false,0,0,[]⟩:Blk)∧H 302=(⟨1,false,false,0,0,[]⟩:Blk)∧H 303=(⟨1,false,false,0,0,[]⟩:Blk)∧H 305=(⟨0+t.nd.length,false,false,0,0,[]⟩:Blk)∧H 306=(⟨0+t.nd.length,false,false,0,0,[]⟩:Blk)∧H 353=(bz (0+1+t.nd.length+1) 99 5 (List.map cN ((t.nd).set (((n)).toNat) ((ptN (((nth (t.nd) (((n)).toNat)))) (cat ([outs])) (((t.nd.length:Nat):Int)))))++[[(V.bool true),(ints (cat ([w]))),V.nilsl,V.nilsl,V.nilsl]]))∧H 363=(⟨0+t.nd.length*1048579,false,false,0,0,[]⟩:Blk)∧True) ?_ ?_
 ·
  refine R_fk rfl rfl (R_lk rfl rfl rfl rfl (R_mv t3 (R_bslice rfl rfl (R_callk (join_pure ([w]) (by simp only [cat,List.append_nil]; omega)) rfl (R_build rfl rfl (R_bslice rfl rfl (R_appendN (l:=((t.nd).set (((n)).toNat) ((ptN (((nth (t.nd) (((n)).toNat)))) (cat ([outs])) (((t.nd.length:Nat):Int)))))) (f:=cN) (@rfl V (V.ms 353 (0+1+t.nd.length) 0 (t.nd.length))) (@rfl Blk (bz (0+1+t.nd.length) 99 5 (List.map cN ((t.nd).set (((n)).toNat) ((ptN (((nth (t.nd) (((n)).toNat)))) (cat ([outs])) (((t.nd.length:Nat):Int)))))))) (by simp) (@rfl V (V.sl [[(V.bool true),(ints (cat ([w]))),V.nilsl,V.nilsl,V.nilsl]])) (by simp [fitRows,V.one]) (by (simp; omega)) (by (simp; omega)) ?_)))))))
  refine R_fk rfl rfl (R_sk rfl rfl rfl rfl rfl rfl rfl rfl rfl ?_)
  exact R_nil ⟨t8,rfl,h4,h8,rfl,rfl,rfl,rfl,rfl,rfl,rfl,rfl,trivial⟩
 intro T H ⟨t8,t14,h4,h8,h14,h301,h302,h303,h305,h306,h353,h363,_⟩
 refine nza_map (l:=((t.nd).set (((n)).toNat) ((ptN (((nth (t.nd) (((n)).toNat)))) (cat ([outs])) (((t.nd.length:Nat):Int)))))) (m:=([(⟨true,cat ([w]),[],[],[]⟩:Nd)])) (f:=cN) h353 rfl (.done ?_)
 refine fork_ (R:=fun T H=>T 8=(V.mp 8 1 0 0)∧T 14=(V.mp 14 1 0 0)∧H 4=(bk 1 24 1 [[(V.sl (List.map cN (t.nd)))]])∧H 8=(bk 1 24 1 [[V.nilsl]])∧H 14=(bk 1 24 1 [[(V.ms 353 (0+1+t.nd.length+1) 0 (t.nd.length+1))]])∧H 301=(⟨1,false,false,0,0,[]⟩:Blk)∧H 302=(⟨1,false,false,0,0,[]⟩:Blk)∧H 303=(⟨1,false,false,0,0,[]⟩:Blk)∧H 305=(⟨0+t.nd.length,false,false,0,0,[]⟩:Blk)∧H 306=(⟨0+t.nd.length,false,false,0,0,[]⟩:Blk)∧H 353=(bz (0+1+t.nd.length+1) 99 5 (List.map cN ((t.nd).set (((n)).toNat) ((ptN (((nth (t.nd) (((n)).toNat)))) (cat ([outs])) (((t.nd.length:Nat):Int))))++[(⟨true,cat ([w]),[],[],[]⟩:Nd)])))∧H 363=(⟨0+t.nd.length*1048579,false,false,0,0,[]⟩:Blk)∧True) ⟨t8,t14,((upd_ne _ _ (by decide)).trans h4),((upd_ne _ _ (by decide)).trans h8),((upd_ne _ _ (by decide)).trans h14),((upd_ne _ _ (by decide)).trans h301),((upd_ne _ _ (by decide)).trans h302),((upd_ne _ _ (by decide)).trans h303),((upd_ne _ _ (by decide)).trans h305),((upd_ne _ _ (by decide)).trans h306),(upd_same _ _ _),((upd_ne _ _ (by decide)).trans h363),trivial⟩ ?_
 intro T H ⟨t8,t14,h4,h8,h14,h301,h302,h303,h305,h306,h353,h363,_⟩
 refine W_r (R_lk t14 h14 rfl rfl (R_sk t8 rfl rfl h8 rfl rfl rfl rfl rfl (R_mv rfl (R_e (W_ret ?_)))))
 refine RetC_2 (resV_c (u:=(V.agg [(V.ms 353 (0+1+t.nd.length+1) 0 (t.nd.length+1))])) t8 (@rfl Blk (bk 1 24 1 [[(V.ms 353 (0+1+t.nd.length+1) 0 (t.nd.length+1))]])) (lB oB rfl rfl)) (resV_t (@rfl V (iV (0:Int)))) (fz_agg1 (fz_ms h353 (by simp) (l:=((t.nd).set (((n)).toNat) ((ptN (((nth (t.nd) (((n)).toNat)))) (cat ([outs])) (((t.nd.length:Nat):Int))))++[(⟨true,cat ([w]),[],[],[]⟩:Nd)])) rfl (by simp) (fun _=>by simp) ?_)) (fz_int ?_)
 · have z9:grE t n outs w=0:=by
     unfold grE; rw [if_neg (by omega),if_neg (by omega),if_neg (by omega),if_neg d5,if_neg (by omega),if_neg (by omega)]
   rw [grT_yes z9,← ptN_eq hin n2 d5]; simp [cat1,lfN]
 · have z9:grE t n outs w=0:=by
     unfold grE; rw [if_neg (by omega),if_neg (by omega),if_neg (by omega),if_neg d5,if_neg (by omega),if_neg (by omega)]
   exact z9.symm
theorem rstep_pure (l:Ts) (o:Ob) (hb:Bd l.t) (ho:oval o=0) (hx:(exs l).length≤5000):PureC Tryz.prog 15 [(V.agg [(iV (l.i)),(V.sl (List.map cN (l.t.nd)))]),(V.agg [(iV (o.i)),(V.sl (List.map cT (o.tr)))])] (V.tup [(V.agg [(iV ((tst l o).1.i)),(V.sl (List.map cN ((tst l o).1.t.nd)))]),(intss ((tst l o).2.1)),(V.bool ((tst l o).2.2.1)),(iV ((tst l o).2.2.2))]):=by
 refine pW Tryz.func15 s15_ok fun hB=>?_
 unfold s15
 dsimp only
 refine W_r (R_box (i:=2) (n:=0) (m:=2) (cs:=[(iV (l.i)),(V.sl (List.map cN (l.t.nd)))]) rfl (congrArg Blk.ver rfl) rfl rfl rfl (R_box (i:=3) (n:=0) (m:=2) (cs:=[(iV (o.i)),(V.sl (List.map cT (o.tr)))]) rfl (congrArg Blk.ver rfl) rfl rfl rfl (R_alloc (i:=4) (n:=0) (m:=2) rfl (congrArg Blk.ver rfl) rfl (R_mv rfl (R_mv rfl (R_mv rfl (R_e ?_)))))))
 refine W_seq_seq (W_r (R_lk rfl rfl rfl rfl (R_lk rfl rfl rfl rfl (R_callk (tchecked_pure l o hb) rfl (R_mv rfl (R_e (W_seq_seq ?_)))))))
 refine W_r (R_mv rfl (R_neq rfl rfl (R_e ?_)))
 refine W_seq_if rfl (fun c1=>?_) fun c1=>?_
 ·
  have za:=c1
  refine W_seq_seq (W_r (R_lk rfl rfl rfl rfl (R_mv rfl (R_sk rfl rfl rfl rfl rfl rfl rfl rfl rfl (R_mv rfl (R_mv rfl (R_mv rfl ?_)))))))
  refine R_e (W_seq_ret ?_)
  refine RetC_4 (resV_c (u:=(V.agg [(iV (l.i)),(V.sl (List.map cN (l.t.nd)))])) rfl (@rfl Blk (bk 1 26 2 [[(iV (l.i)),(V.sl (List.map cN (l.t.nd)))]])) (lB oB rfl rfl)) (resV_t (@rfl V V.nilsl)) (resV_t (@rfl V (V.bool false))) (resV_t (@rfl V (iV (tsE l o)))) (fz_agg2 (fz_int ?_) (fz_sl ?_ (fun _=>by simp))) (fz_nil ?_) (fz_bool ?_) (fz_int ?_)
  · rw [tst_e1 za]
  · rw [tst_e1 za]
  · rw [tst_e1 za]
  · rw [tst_e1 za]
  · rw [tst_e1 za]
 have za:=c1
 have ht:=ts_ok (show tsE l o=0 by omega)
 obtain ⟨hi1,hi2,hv,hw0,_,hl0⟩:=tv_ok ht.1
 have hbn:=hb.n
 refine W_seq_skip (W_r (R_lk rfl rfl rfl rfl (R_lk rfl rfl rfl rfl (R_callk (rqueries_pure l o hb ht.1 ho hx) rfl (R_mv rfl (R_ext rfl rfl (R_ext rfl rfl ?_)))))))
 refine R_mv rfl (R_mv rfl (R_e (W_seq_seq (W_r (R_mv rfl (R_neq rfl rfl (R_mv rfl ?_)))))))
 refine Ops_seg 4 (fun T H=>T 2=(V.mp 2 1 0 0)∧T 3=(V.mp 3 1 0 0)∧T 4=(V.mp 4 1 0 0)∧T 9=(intss (if sfE l o=0 then mxW (qra l o) else []))∧T 10=(iV (sfE l o))∧T 39=(V.bool (decide (((sfE l o)≠(0:Int))∨((0:Int) < (((if sfE l o=0 then mxW (qra l o) else []).length:Nat):Int)))))∧H 2=(bk 1 26 2 [[(iV (l.i)),(V.sl (List.map cN (l.t.nd)))]])∧H 3=(bk 1 29 2 [[(iV (o.i)),(V.sl (List.map cT (o.tr)))]])∧H 4=(bk 1 26 2 [[(iV (0:Int)),V.nilsl]])∧H 18=(⟨0,false,false,0,0,[]⟩:Blk)∧True) ?_ ?_
 ·
  by_cases g2:(sfE l o)≠(0:Int)
  ·
   refine G_n (edT g2 rfl) (G_n (edT g2 rfl) (G_n (edT g2 rfl) (R_pickT (edT g2 rfl) rfl ?_)))
   exact ⟨rfl,rfl,rfl,rfl,rfl,(dec_orT g2),rfl,rfl,rfl,rfl,trivial⟩
  ·
   refine G_yes (edF g2 rfl) (R_mv rfl (G_yes (edF g2 rfl) (R_len rfl (G_yes (edF g2 rfl) (R_gtr rfl rfl (R_pickF (edF g2 rfl) rfl ?_))))))
   exact ⟨rfl,rfl,rfl,rfl,rfl,(dec_orF g2),rfl,rfl,rfl,rfl,trivial⟩
 intro T H ⟨t2,t3,t4,t9,t10,t39,h2,h3,h4,h18,_⟩
 refine R_e ?_
 refine W_seq_if t39 (fun c3=>?_) fun c3=>?_
 ·
  have h39:=c3
  refine W_seq_seq (W_r (R_lk t2 h2 rfl rfl (R_mv t9 (R_mv t10 (R_sk t4 rfl rfl h4 rfl rfl rfl rfl rfl (R_mv rfl (R_mv rfl ?_)))))))
  refine R_mv rfl (R_e (W_seq_ret ?_))
  refine RetC_4 (resV_c (u:=(V.agg [(iV (l.i)),(V.sl (List.map cN (l.t.nd)))])) t4 (@rfl Blk (bk 1 26 2 [[(iV (l.i)),(V.sl (List.map cN (l.t.nd)))]])) (lB oB rfl rfl)) (resV_t (@rfl V (intss (if sfE l o=0 then mxW (qra l o) else [])))) (resV_t (@rfl V (V.bool false))) (resV_t (@rfl V (iV (sfE l o)))) (fz_agg2 (fz_int ?_) (fz_sl ?_ (fun _=>by simp))) (fz_sl ?_ (fun _=>by simp)) (fz_bool ?_) (fz_int ?_)
  · by_cases zb:sfE l o≠0
    · rw [tst_e2 za zb]
    · rw [tst_ask za zb (by rw [if_pos (by omega)] at h39; omega)]
  · by_cases zb:sfE l o≠0
    · rw [tst_e2 za zb]
    · rw [tst_ask za zb (by rw [if_pos (by omega)] at h39; omega)]
  · by_cases zb:sfE l o≠0
    · rw [tst_e2 za zb]; exact if_neg zb
    · rw [tst_ask za zb (by rw [if_pos (by omega)] at h39; omega)]; exact if_pos (by omega)
  · by_cases zb:sfE l o≠0
    · rw [tst_e2 za zb]
    · rw [tst_ask za zb (by rw [if_pos (by omega)] at h39; omega)]
  · by_cases zb:sfE l o≠0
    · rw [tst_e2 za zb]
    · rw [tst_ask za zb (by rw [if_pos (by omega)] at h39; omega)]; exact Decidable.not_not.1 zb
 have zb: ¬sfE l o≠0:=by omega
 have zc: ¬0 < (mxW (qra l o)).length:=by have q:=c3; rw [if_pos (show sfE l o=0 by omega)] at q; omega
 refine W_seq_skip (W_r (R_lk t2 h2 rfl rfl (R_callk (rexts_pure l hb ht.1) rfl (R_mv rfl (R_e (W_seq_seq (W_r ?_)))))))
 refine R_mv rfl (R_e (W_seq_blockg fun Q4 n4 x4 y4 z4=>?_))
 refine W_loop (fun mm T H=> ∃ (k:Nat) (v18:Nat),mm=((exs l).length) - k∧T 2=(V.mp 2 1 0 0)∧T 3=(V.mp 3 1 0 0)∧T 4=(V.mp 4 1 0 0)∧T 11=(intss (exs l))∧T 12=(iV ((k:Nat):Int))∧H 2=(bk 1 26 2 [[(iV (l.i)),(V.sl (List.map cN (l.t.nd)))]])∧H 3=(bk 1 29 2 [[(iV (o.i)),(V.sl (List.map cT (o.tr)))]])∧H 4=(bk 1 26 2 [[(iV (0:Int)),V.nilsl]])∧((H 18).ver=v18∧(H 18).live=false)∧(k≤(exs l).length)∧(tsN l o=fi (inx l o) k ((exs l).length - k))) ?_ ?_
 ·
  refine ⟨_,0,0,rfl,t2,t3,t4,rfl,(Eq.trans (@rfl V (iV (0:Int))) rfl),h2,h3,h4,⟨(congrArg Blk.ver h18),congrArg Blk.live h18⟩,?_,?_⟩
  · omega
  · rfl
 intro mm T H ⟨k,v18,hmm,t2,t3,t4,t11,t12,h2,h3,h4,h18,hk,hc⟩ Q5 p15 p25 p35
 unfold b15_0
 refine W_seq_seq (W_r (R_mv t12 (R_mv t11 (R_len rfl (R_lss rfl rfl (R_e ?_))))))
 refine W_seq_if rfl (fun c6=>?_) fun c6=>?_
 ·
  have hnd:=st_node za zb zc (show k < (exs l).length by omega)
  have r1:=exs_word ht.1 (nth_mem (show k < (exs l).length by omega))
  refine W_seq_skip (W_seq_blockg fun Q7 n7 x7 y7 z7=>(W_r (R_fk t2 h2 (R_lk rfl h2 rfl rfl (R_lk t3 h3 rfl rfl (R_mv t11 (R_mv t12 ?_)))))))
  refine R_idx (i:=k) (@rfl V (intss (exs l))) (@rfl V (iV ((k:Nat):Int))) (by omega) rfl (R_load_pp rfl rfl (R_callk (rsift_pure l.t o ((nth (exs l) (k))) hb ho (by omega)) rfl (R_mv rfl (R_ext rfl rfl (R_ext rfl rfl (R_ext rfl rfl (R_mv rfl ?_)))))))
  refine R_mv rfl (R_mv rfl (R_e (W_seq_seq (W_r (R_fk t2 h2 (R_fk rfl h2 (R_lk rfl h2 rfl rfl ?_)))))))
  refine R_mv rfl (R_idxI (i:=((sftR l.t o ((nth (exs l) (k)))).1)) (@rfl V (V.sl (List.map cN (l.t.nd)))) (@rfl V (iV ((sftR l.t o ((nth (exs l) (k)))).1))) (by omega) (by omega) rfl (R_fld_pp (cs':=(cN (((nth (l.t.nd) ((sftR l.t o ((nth (exs l) (k)))).1).toNat))))) rfl rfl (R_load_pp rfl rfl (R_e ?_))))
  refine W_seq_ifb rfl (fun c8=>?_) (fun c8=>?_)
  ·
   have d1:inx l o k=false:=by unfold inx; simpa using c8
   refine W_seq_exit (x7 _ _ (.done (W_t (R_mv t12 (R_addN rfl (@rfl V (iV ((1:Nat):Int))) (by omega) (R_mv rfl (R_e ?_)))))))
   refine p15 _ _ _ ?_ ⟨(k+1),v18,rfl,t2,t3,t4,t11,(Eq.trans (@rfl V (iV ((k+1:Nat):Int))) (by rfl)),h2,h3,h4,h18,?_,?_⟩
   · omega
   · omega
   · rw [hc,fi_skip (p:=inx l o) d1 (by omega)]
  have d1:inx l o k=true:=by unfold inx; simpa using c8
  have d2:tsN l o=(k:Int):=by rw [hc,fi_hit (p:=inx l o) d1 (by omega)]
  have d3:=hnd.2.2.2 (by simpa using c8)
  have hsf:=hb.sf (sftR l.t o (nth (exs l) k)).1.toNat (by omega)
  have hll:=lvs_len hv
  have hbh:=bho_le ho (nth (exs l) k) (nth l.t.nd (sftR l.t o (nth (exs l) k)).1.toNat).sf
  refine W_seq_skip (W_seq_seq (W_r (R_fk t2 h2 (R_lk rfl h2 rfl rfl (R_callk (raccess_pure l.t hb) rfl (R_len rfl (R_geq rfl rfl ?_)))))))
  refine R_e ?_
  refine W_seq_if rfl (fun c9=>?_) fun c9=>?_
  ·
   refine W_seq_seq (W_r (R_lk t2 h2 rfl rfl (R_sk t4 rfl rfl h4 rfl rfl rfl rfl rfl (R_mv rfl (R_mv rfl (R_mv rfl (R_e ?_)))))))
   refine W_seq_ret (y7 _ _ (p25 _ _ (y4 _ _ ?_)))
   refine RetC_4 (resV_c (u:=(V.agg [(iV (l.i)),(V.sl (List.map cN (l.t.nd)))])) t4 (@rfl Blk (bk 1 26 2 [[(iV (l.i)),(V.sl (List.map cN (l.t.nd)))]])) (lB oB rfl rfl)) (resV_t (@rfl V V.nilsl)) (resV_t (@rfl V (V.bool false))) (resV_t (@rfl V (iV (11:Int)))) (fz_agg2 (fz_int ?_) (fz_sl ?_ (fun _=>by simp))) (fz_nil ?_) (fz_bool ?_) (fz_int ?_)
   · rw [tst_lim za zb zc (by omega) (by omega)]
   · rw [tst_lim za zb zc (by omega) (by omega)]
   · rw [tst_lim za zb zc (by omega) (by omega)]
   · rw [tst_lim za zb zc (by omega) (by omega)]
   · rw [tst_lim za zb zc (by omega) (by omega)]
  refine W_seq_skip ?_
  refine W_seq_regc (fun T H=>T 2=(V.mp 2 1 0 0)∧T 4=(V.mp 4 1 0 0)∧T 11=(intss (exs l))∧T 12=(iV ((k:Nat):Int))∧T 13=(iV ((sftR l.t o ((nth (exs l) (k)))).1))∧T 16=(ints (bho o ((nth (exs l) (k))) (((nth (l.t.nd) ((sftR l.t o ((nth (exs l) (k)))).1).toNat)).sf)))∧H 2=(bk 1 26 2 [[(iV (l.i)),(V.sl (List.map cN (l.t.nd)))]])∧H 3=(bk 1 29 2 [[(iV (o.i)),(V.sl (List.map cT (o.tr)))]])∧H 4=(bk 1 26 2 [[(iV (0:Int)),V.nilsl]])∧((H 18).ver=v18∧(H 18).live=false)∧True) ?_ ?_
  ·
   refine R_lk t3 h3 rfl rfl (R_mv t11 (R_mv t12 (R_idx (i:=k) (@rfl V (intss (exs l))) (@rfl V (iV ((k:Nat):Int))) (by omega) rfl (R_load_pp rfl rfl (R_fk t2 h2 (R_fk rfl h2 (R_lk rfl h2 rfl rfl ?_)))))))
   refine R_mv rfl (R_idxI (i:=((sftR l.t o ((nth (exs l) (k)))).1)) (@rfl V (V.sl (List.map cN (l.t.nd)))) (@rfl V (iV ((sftR l.t o ((nth (exs l) (k)))).1))) (by omega) (by omega) rfl (R_fld_pp (cs':=(List.drop 2 (cN (((nth (l.t.nd) ((sftR l.t o ((nth (exs l) (k)))).1).toNat)))))) rfl rfl (R_load_pp rfl rfl (R_callk (rbehind27_pure o ((nth (exs l) (k))) (((nth (l.t.nd) ((sftR l.t o ((nth (exs l) (k)))).1).toNat)).sf) ho (by omega) (by omega)) rfl (R_mv rfl (R_ext rfl rfl (R_ext rfl rfl ?_)))))))
   refine R_mv rfl (R_mv rfl ?_)
   exact R_nil ⟨t2,t4,t11,t12,rfl,rfl,h2,h3,h4,h18,trivial⟩
  intro T H ⟨t2,t4,t11,t12,t13,t16,h2,h3,h4,h18,_⟩
  refine W_d (by exact (lateC (h18).2 lateN)) (R_fk t2 h2 (R_lk rfl h2 rfl rfl (R_mv t13 (R_mv t16 (R_mv t11 (R_mv t12 (R_idx (i:=k) (@rfl V (intss (exs l))) (@rfl V (iV ((k:Nat):Int))) (by omega) rfl ?_)))))))
  refine R_load_pp rfl rfl (R_callk (rgrow_pure l.t (((sftR l.t o ((nth (exs l) (k)))).1)) (bho o ((nth (exs l) (k))) (((nth (l.t.nd) ((sftR l.t o ((nth (exs l) (k)))).1).toNat)).sf)) ((nth (exs l) (k))) hb (by omega) (by omega)) rfl (R_mv rfl (R_ext rfl rfl (R_ext rfl rfl (R_alloc (i:=18) (n:=v18) (m:=1) rfl (h18).1 rfl (R_sk rfl rfl rfl rfl rfl rfl rfl rfl rfl (R_mv rfl ?_)))))))
  refine R_e (W_seq_seq (W_r (R_mv rfl (R_neq rfl rfl (R_e ?_)))))
  refine W_seq_if rfl (fun c10=>?_) fun c10=>?_
  ·
   have d6:=c10
   refine W_seq_seq (W_r (R_lk t2 h2 rfl rfl (R_mv rfl (R_sk t4 rfl rfl h4 rfl rfl rfl rfl rfl (R_mv rfl (R_mv rfl (R_mv rfl ?_)))))))
   refine R_e (W_seq_ret (y7 _ _ (p25 _ _ (y4 _ _ ?_))))
   refine RetC_4 (resV_c (u:=(V.agg [(iV (l.i)),(V.sl (List.map cN (l.t.nd)))])) t4 (@rfl Blk (bk 1 26 2 [[(iV (l.i)),(V.sl (List.map cN (l.t.nd)))]])) (lB oB rfl rfl)) (resV_t (@rfl V V.nilsl)) (resV_t (@rfl V (V.bool false))) (resV_t (@rfl V (iV (grE l.t (((sftR l.t o ((nth (exs l) (k)))).1)) (bho o ((nth (exs l) (k))) (((nth (l.t.nd) ((sftR l.t o ((nth (exs l) (k)))).1).toNat)).sf)) ((nth (exs l) (k))))))) (fz_agg2 (fz_int ?_) (fz_sl ?_ (fun _=>by simp))) (fz_nil ?_) (fz_bool ?_) (fz_int ?_)
   · rw [tst_ge za zb zc d2 (by omega) d6]
   · rw [tst_ge za zb zc d2 (by omega) d6]
   · rw [tst_ge za zb zc d2 (by omega) d6]
   · rw [tst_ge za zb zc d2 (by omega) d6]
   · rw [tst_ge za zb zc d2 (by omega) d6]
  have d6:=c10
  refine W_seq_skip (W_r (R_fk t2 h2 (R_lk rfl h2 rfl rfl (R_lk rfl rfl rfl rfl (R_build rfl rfl (R_sk t4 rfl rfl h4 rfl rfl rfl rfl rfl (R_mv rfl ?_)))))))
  refine R_mv rfl (R_mv rfl (R_e (W_ret (y7 _ _ (p25 _ _ (y4 _ _ ?_))))))
  refine RetC_4 (resV_c (u:=(V.agg [(iV (l.i)),(V.sl (List.map cN ((grT l.t (((sftR l.t o ((nth (exs l) (k)))).1)) (bho o ((nth (exs l) (k))) (((nth (l.t.nd) ((sftR l.t o ((nth (exs l) (k)))).1).toNat)).sf)) ((nth (exs l) (k)))).nd)))])) t4 (@rfl Blk (bk 1 26 2 [[(iV (l.i)),(V.sl (List.map cN ((grT l.t (((sftR l.t o ((nth (exs l) (k)))).1)) (bho o ((nth (exs l) (k))) (((nth (l.t.nd) ((sftR l.t o ((nth (exs l) (k)))).1).toNat)).sf)) ((nth (exs l) (k)))).nd)))]])) (lB oB rfl rfl)) (resV_t (@rfl V V.nilsl)) (resV_t (@rfl V (V.bool false))) (resV_t (@rfl V (iV (0:Int)))) (fz_agg2 (fz_int ?_) (fz_sl ?_ (fun _=>by simp))) (fz_nil ?_) (fz_bool ?_) (fz_int ?_)
  · rw [tst_gr za zb zc d2 (by omega) d6]
  · rw [tst_gr za zb zc d2 (by omega) d6]
  · rw [tst_gr za zb zc d2 (by omega) d6]
  · rw [tst_gr za zb zc d2 (by omega) d6]
  · rw [tst_gr za zb zc d2 (by omega) d6]
 have zd:tsN l o < 0:=by rw [hc,fi_end (by omega)]; omega
 refine W_seq_exit (p35 _ _ _ (x4 _ _ (.done (W_r (R_lk t2 h2 rfl rfl (R_sk t4 rfl rfl h4 rfl rfl rfl rfl rfl (R_mv rfl ?_)))))))
 refine R_mv rfl (R_mv rfl (R_e (W_ret ?_)))
 refine RetC_4 (resV_c (u:=(V.agg [(iV (l.i)),(V.sl (List.map cN (l.t.nd)))])) t4 (@rfl Blk (bk 1 26 2 [[(iV (l.i)),(V.sl (List.map cN (l.t.nd)))]])) (lB oB rfl rfl)) (resV_t (@rfl V V.nilsl)) (resV_t (@rfl V (V.bool true))) (resV_t (@rfl V (iV (0:Int)))) (fz_agg2 (fz_int ?_) (fz_sl ?_ (fun _=>by simp))) (fz_nil ?_) (fz_bool ?_) (fz_int ?_)
 · rw [tst_done za zb zc zd]
 · rw [tst_done za zb zc zd]
 · rw [tst_done za zb zc zd]
 · rw [tst_done za zb zc zd]
 · rw [tst_done za zb zc zd]
def r16_1:List SO:=[
 qF 5 0 2,
 ql 6 5,
 qF 7 0 3,
 ql 8 7,
 qP 9 .eql 6 8,
 qM 10 9,
 ⟨some (10,true),some 11,.fld 1 (.t 2)⟩,
 ⟨some (10,true),some 12,.load true 1 (.t 11)⟩,
 ⟨some (10,true),some 13,.fld 1 (.t 3)⟩,
 ⟨some (10,true),some 14,.load true 1 (.t 13)⟩,
 ⟨some (10,true),some 15,.call false 57 [.t 12,.t 14]⟩,
 sO 16 (.pick (.t 10) (.t 15) (.c (.bool false))),
 qM 4 16]
def s16:SF:=⟨17,[.tmp 4],.seq (.reg [sO 2 (.box 26 2 (.t 0)),sO 3 (.box 26 2 (.t 1)),sO 4 (.mv (.c (.bool false)))]) (.seq (.reg r16_1) (.ret))⟩
theorem s16_ok:slimF Tryz.prog ⟨[107,108,109,116,120,126,127,167,169,170,171,172,194,196,198,209,222,226],[]⟩ Tryz.f16=some s16:=by kernel_rfl
def r57_1:List SO:=[
 qF 8 0 2,
 ql 9 8,
 qN 10 9,
 qF 11 0 3,
 ql 12 11,
 qN 13 12,
 qP 14 .neq 10 13]
def r57_6:List SO:=[
 qF 22 0 2,
 ql 23 22,
 qM 24 5,
 qA 25 5 23 24,
 qL 26 5 25,
 qF 27 0 3,
 ql 28 27,
 qM 29 5,
 qA 30 5 28 29,
 qL 31 5 30,
 sO 6 (.alloc 99 [.bool false,.nilsl,.nilsl,.nilsl,.nilsl]),
 sO 7 (.alloc 99 [.bool false,.nilsl,.nilsl,.nilsl,.nilsl]),
 sN (.store 5 (.t 6) (.t 26)),
 sN (.store 5 (.t 7) (.t 31))]
def r57_7:List SO:=[
 qF 32 0 6,
 ql 33 32,
 qF 34 0 7,
 ql 35 34,
 sO 36 (.bbin .neq (.t 33) (.t 35)),
 qM 37 36,
 ⟨some (37,false),some 38,.fld 1 (.t 6)⟩,
 ⟨some (37,false),some 39,.load false 1 (.t 38)⟩,
 ⟨some (37,false),some 40,.fld 1 (.t 7)⟩,
 ⟨some (37,false),some 41,.load false 1 (.t 40)⟩,
 ⟨some (37,false),some 42,.call false 98 [.t 39,.t 41]⟩,
 ⟨some (37,false),some 43,.un .not (.t 42)⟩,
 sO 44 (.pick (.t 37) (.c (.bool true)) (.t 43)),
 qM 45 44,
 ⟨some (45,false),some 46,.fld 2 (.t 6)⟩,
 ⟨some (45,false),some 47,.load false 1 (.t 46)⟩,
 ⟨some (45,false),some 48,.fld 2 (.t 7)⟩,
 ⟨some (45,false),some 49,.load false 1 (.t 48)⟩,
 ⟨some (45,false),some 50,.call false 98 [.t 47,.t 49]⟩,
 ⟨some (45,false),some 51,.un .not (.t 50)⟩,
 sO 52 (.pick (.t 45) (.c (.bool true)) (.t 51)),
 qM 53 52,
 ⟨some (53,false),some 54,.fld 3 (.t 6)⟩,
 ⟨some (53,false),some 55,.load false 1 (.t 54)⟩,
 ⟨some (53,false),some 56,.fld 3 (.t 7)⟩,
 ⟨some (53,false),some 57,.load false 1 (.t 56)⟩,
 ⟨some (53,false),some 58,.call false 67 [.t 55,.t 57]⟩,
 ⟨some (53,false),some 59,.un .not (.t 58)⟩,
 sO 60 (.pick (.t 53) (.c (.bool true)) (.t 59)),
 qM 61 60,
 ⟨some (61,false),some 62,.fld 4 (.t 6)⟩,
 ⟨some (61,false),some 63,.load false 1 (.t 62)⟩,
 ⟨some (61,false),some 64,.fld 4 (.t 7)⟩,
 ⟨some (61,false),some 65,.load false 1 (.t 64)⟩,
 ⟨some (61,false),some 66,.call false 98 [.t 63,.t 65]⟩,
 ⟨some (61,false),some 67,.un .not (.t 66)⟩,
 sO 68 (.pick (.t 61) (.c (.bool true)) (.t 67))]
def b57_0:SC:=.seq (.seq (.reg [qM 15 5,qF 16 0 2,ql 17 16,qN 18 17,qP 19 .lss 15 18]) (.cond (.t 19) (.skip) (.exit 0))) (.seq (.block 1 (.seq (.dreg [6,7] r57_6) (.seq (.reg r57_7) (.cond (.t 68) (.seq (.reg [sO 4 (.mv (.c (.bool false)))]) (.ret)) (.skip))))) (.reg [qM 20 5,qC 21 .add 20 1,qM 5 21]))
def s57:SF:=⟨69,[.tmp 4],.seq (.reg [sO 2 (.box 24 1 (.t 0)),sO 3 (.box 24 1 (.t 1)),sO 4 (.mv (.c (.bool false)))]) (.seq (.seq (.reg r57_1) (.cond (.t 14) (.seq (.reg [sO 4 (.mv (.c (.bool false)))]) (.ret)) (.skip))) (.seq (.seq (.reg [qI 5 0]) (.block 0 (.loop b57_0))) (.seq (.reg [sO 4 (.mv (.c (.bool true)))]) (.ret))))⟩
theorem s57_ok:slimF Tryz.prog ⟨[107,108,109,116,120,126,127,167,169,170,171,172,194,196,198,209,222,226],[]⟩ Tryz.f57=some s57:=by kernel_rfl
def r67_6:List SO:=[
 qM 17 0,
 qM 18 5,
 qA 19 1 17 18,
 ql 20 19,
 qM 21 1,
 qM 22 5,
 qA 23 1 21 22,
 ql 24 23,
 sO 25 (.call false 98 [.t 20,.t 24]),
 sO 26 (.un .not (.t 25))]
def b67_0:SC:=.seq (.seq (.reg [qM 11 5,qM 12 0,qN 13 12,qP 14 .lss 11 13]) (.cond (.t 14) (.skip) (.exit 0))) (.seq (.block 1 (.seq (.reg r67_6) (.cond (.t 26) (.seq (.reg [sO 4 (.mv (.c (.bool false)))]) (.ret)) (.skip)))) (.reg [qM 15 5,qC 16 .add 15 1,qM 5 16]))
def s67:SF:=⟨27,[.tmp 4],.seq (.reg [sO 4 (.mv (.c (.bool false)))]) (.seq (.seq (.reg [qM 6 0,qN 7 6,qM 8 1,qN 9 8,qP 10 .neq 7 9]) (.cond (.t 10) (.seq (.reg [sO 4 (.mv (.c (.bool false)))]) (.ret)) (.skip))) (.seq (.seq (.reg [qI 5 0]) (.block 0 (.loop b67_0))) (.seq (.reg [sO 4 (.mv (.c (.bool true)))]) (.ret))))⟩
theorem s67_ok:slimF Tryz.prog ⟨[107,108,109,116,120,126,127,167,169,170,171,172,194,196,198,209,222,226],[]⟩ Tryz.f67=some s67:=by kernel_rfl
def r98_6:List SO:=[
 qM 17 0,
 qM 18 5,
 qA 19 1 17 18,
 ql 20 19,
 qM 21 1,
 qM 22 5,
 qA 23 1 21 22,
 ql 24 23,
 qP 25 .neq 20 24]
def b98_0:SC:=.seq (.seq (.reg [qM 11 5,qM 12 0,qN 13 12,qP 14 .lss 11 13]) (.cond (.t 14) (.skip) (.exit 0))) (.seq (.block 1 (.seq (.reg r98_6) (.cond (.t 25) (.seq (.reg [sO 4 (.mv (.c (.bool false)))]) (.ret)) (.skip)))) (.reg [qM 15 5,qC 16 .add 15 1,qM 5 16]))
def s98:SF:=⟨26,[.tmp 4],.seq (.reg [sO 4 (.mv (.c (.bool false)))]) (.seq (.seq (.reg [qM 6 0,qN 7 6,qM 8 1,qN 9 8,qP 10 .neq 7 9]) (.cond (.t 10) (.seq (.reg [sO 4 (.mv (.c (.bool false)))]) (.ret)) (.skip))) (.seq (.seq (.reg [qI 5 0]) (.block 0 (.loop b98_0))) (.seq (.reg [sO 4 (.mv (.c (.bool true)))]) (.ret))))⟩
theorem s98_ok:slimF Tryz.prog ⟨[107,108,109,116,120,126,127,167,169,170,171,172,194,196,198,209,222,226],[]⟩ Tryz.f98=some s98:=by kernel_rfl
theorem ints_pure (a b:List Int):PureC Tryz.prog 98 [(ints a),(ints b)] (V.bool (decide (a=b))):=by
 refine pW Tryz.func98 s98_ok fun hB=>?_
 unfold s98
 dsimp only
 refine W_r (R_mv rfl (R_e (W_seq_seq (W_r (R_mv rfl (R_len rfl (R_mv rfl ?_)))))))
 refine R_len rfl (R_neq rfl rfl (R_e ?_))
 refine W_seq_if rfl (fun c1=>?_) fun c1=>?_
 ·
  refine W_seq_seq (W_r (R_mv rfl (R_e (W_seq_ret ?_))))
  refine Ret_1 (@rfl V (V.bool false)) (fz_bool ?_)
  · exact (decide_eq_false (fun e=>by subst e; omega)).symm
 refine W_seq_skip (W_seq_seq (W_r (R_mv rfl (R_e (W_seq_blockg fun Q2 n2 x2 y2 z2=>?_)))))
 refine W_loop (fun mm T H=> ∃ (k:Nat),mm=a.length - k∧T 0=(ints a)∧T 1=(ints b)∧T 5=(iV ((k:Nat):Int))∧(k≤a.length)∧(a.length=b.length)∧(∀ j,j < k→nth a j=nth b j)) ?_ ?_
 ·
  refine ⟨_,0,rfl,rfl,rfl,(Eq.trans (@rfl V (iV (0:Int))) rfl),?_,?_,?_⟩
  · omega
  · omega
  · intro j hj; omega
 intro mm T H ⟨k,hmm,t0,t1,t5,hk,hl,hc⟩ Q3 p13 p23 p33
 unfold b98_0
 refine W_seq_seq (W_r (R_mv t5 (R_mv t0 (R_len rfl (R_lss rfl rfl (R_e ?_))))))
 refine W_seq_if rfl (fun c4=>?_) fun c4=>?_
 ·
  refine W_seq_skip (W_seq_blockg fun Q5 n5 x5 y5 z5=>(W_r (R_mv t0 (R_mv t5 (R_idx (i:=k) (@rfl V (ints a)) (@rfl V (iV ((k:Nat):Int))) (by omega) rfl (R_load_pp rfl rfl (R_mv t1 ?_)))))))
  refine R_mv t5 (R_idx (i:=k) (@rfl V (ints b)) (@rfl V (iV ((k:Nat):Int))) (by omega) rfl (R_load_pp rfl rfl (R_neq rfl rfl (R_e ?_))))
  refine W_if rfl (fun c6=>?_) fun c6=>?_
  ·
   refine W_r (R_mv rfl (R_e (W_ret (y5 _ _ (p23 _ _ (y2 _ _ ?_))))))
   refine Ret_1 (@rfl V (V.bool false)) (fz_bool ?_)
   · exact (decide_eq_false (fun e=>by subst e; omega)).symm
  refine W_skip (n5 _ _ (.done (W_t (R_mv t5 (R_addN rfl (@rfl V (iV ((1:Nat):Int))) (by omega) (R_mv rfl (R_e ?_)))))))
  refine p13 _ _ _ ?_ ⟨(k+1),rfl,t0,t1,(Eq.trans (@rfl V (iV ((k+1:Nat):Int))) (by rfl)),?_,?_,?_⟩
  · omega
  · omega
  · omega
  · intro j hj
    by_cases e:j=k
    · subst e; omega
    · exact hc j (by omega)
 refine W_seq_exit (p33 _ _ _ (x2 _ _ (.done (W_r (R_mv rfl (R_e (W_ret ?_)))))))
 refine Ret_1 (@rfl V (V.bool true)) (fz_bool ?_)
 · exact (decide_eq_true (nth_ext hl fun j hj=>hc j (by omega))).symm
theorem lists_pure (a b:List (List Int)):PureC Tryz.prog 67 [(intss a),(intss b)] (V.bool (decide (a=b))):=by
 refine pW Tryz.func67 s67_ok fun hB=>?_
 unfold s67
 dsimp only
 refine W_r (R_mv rfl (R_e (W_seq_seq (W_r (R_mv rfl (R_len rfl (R_mv rfl ?_)))))))
 refine R_len rfl (R_neq rfl rfl (R_e ?_))
 refine W_seq_if rfl (fun c1=>?_) fun c1=>?_
 ·
  refine W_seq_seq (W_r (R_mv rfl (R_e (W_seq_ret ?_))))
  refine Ret_1 (@rfl V (V.bool false)) (fz_bool ?_)
  · exact (decide_eq_false (fun e=>by subst e; omega)).symm
 refine W_seq_skip (W_seq_seq (W_r (R_mv rfl (R_e (W_seq_blockg fun Q2 n2 x2 y2 z2=>?_)))))
 refine W_loop (fun mm T H=> ∃ (k:Nat),mm=a.length - k∧T 0=(intss a)∧T 1=(intss b)∧T 5=(iV ((k:Nat):Int))∧(k≤a.length)∧(a.length=b.length)∧(∀ j,j < k→nth a j=nth b j)) ?_ ?_
 ·
  refine ⟨_,0,rfl,rfl,rfl,(Eq.trans (@rfl V (iV (0:Int))) rfl),?_,?_,?_⟩
  · omega
  · omega
  · intro j hj; omega
 intro mm T H ⟨k,hmm,t0,t1,t5,hk,hl,hc⟩ Q3 p13 p23 p33
 unfold b67_0
 refine W_seq_seq (W_r (R_mv t5 (R_mv t0 (R_len rfl (R_lss rfl rfl (R_e ?_))))))
 refine W_seq_if rfl (fun c4=>?_) fun c4=>?_
 ·
  refine W_seq_skip (W_seq_blockg fun Q5 n5 x5 y5 z5=>(W_r (R_mv t0 (R_mv t5 (R_idx (i:=k) (@rfl V (intss a)) (@rfl V (iV ((k:Nat):Int))) (by omega) rfl (R_load_pp rfl rfl (R_mv t1 ?_)))))))
  refine R_mv t5 (R_idx (i:=k) (@rfl V (intss b)) (@rfl V (iV ((k:Nat):Int))) (by omega) rfl (R_load_pp rfl rfl (R_callk (ints_pure ((nth (a) (k))) ((nth (b) (k)))) rfl (R_not rfl (R_e ?_)))))
  refine W_if rfl (fun c6=>?_) fun c6=>?_
  ·
   have d1:=c6
   refine W_r (R_mv rfl (R_e (W_ret (y5 _ _ (p23 _ _ (y2 _ _ ?_))))))
   refine Ret_1 (@rfl V (V.bool false)) (fz_bool ?_)
   · exact (decide_eq_false (fun e=>d1 (by subst e; rfl))).symm
  have d1:=Decidable.not_not.1 c6
  refine W_skip (n5 _ _ (.done (W_t (R_mv t5 (R_addN rfl (@rfl V (iV ((1:Nat):Int))) (by omega) (R_mv rfl (R_e ?_)))))))
  refine p13 _ _ _ ?_ ⟨(k+1),rfl,t0,t1,(Eq.trans (@rfl V (iV ((k+1:Nat):Int))) (by rfl)),?_,?_,?_⟩
  · omega
  · omega
  · omega
  · intro j hj
    by_cases e:j=k
    · subst e; exact d1
    · exact hc j (by omega)
 refine W_seq_exit (p33 _ _ _ (x2 _ _ (.done (W_r (R_mv rfl (R_e (W_ret ?_)))))))
 refine Ret_1 (@rfl V (V.bool true)) (fz_bool ?_)
 · exact (decide_eq_true (nth_ext hl fun j hj=>hc j (by omega))).symm
theorem dsame_pure (a b:Dt):PureC Tryz.prog 57 [(V.agg [(V.sl (List.map cN (a.nd)))]),(V.agg [(V.sl (List.map cN (b.nd)))])] (V.bool (decide (a=b))):=by
 refine pW Tryz.func57 s57_ok fun hB=>?_
 unfold s57
 dsimp only
 refine W_r (R_box (i:=2) (n:=0) (m:=1) (cs:=[(V.sl (List.map cN (a.nd)))]) rfl (congrArg Blk.ver rfl) rfl rfl rfl (R_box (i:=3) (n:=0) (m:=1) (cs:=[(V.sl (List.map cN (b.nd)))]) rfl (congrArg Blk.ver rfl) rfl rfl rfl (R_mv rfl (R_e (W_seq_seq (W_r (R_fk rfl rfl ?_)))))))
 refine R_lk rfl rfl rfl rfl (R_len rfl (R_fk rfl rfl (R_lk rfl rfl rfl rfl (R_len rfl (R_neq rfl rfl (R_e ?_))))))
 refine W_seq_if rfl (fun c1=>?_) fun c1=>?_
 ·
  refine W_seq_seq (W_r (R_mv rfl (R_e (W_seq_ret ?_))))
  refine Ret_1 (@rfl V (V.bool false)) (fz_bool ?_)
  · exact (decide_eq_false (fun e=>by subst e; omega)).symm
 refine W_seq_skip (W_seq_seq (W_r (R_mv rfl (R_e (W_seq_blockg fun Q2 n2 x2 y2 z2=>?_)))))
 refine W_loop (fun mm T H=> ∃ (k:Nat) (v6:Nat) (v7:Nat),mm=a.nd.length - k∧T 2=(V.mp 2 1 0 0)∧T 3=(V.mp 3 1 0 0)∧T 5=(iV ((k:Nat):Int))∧H 2=(bk 1 24 1 [[(V.sl (List.map cN (a.nd)))]])∧H 3=(bk 1 24 1 [[(V.sl (List.map cN (b.nd)))]])∧((H 6).ver=v6∧(H 6).live=false)∧((H 7).ver=v7∧(H 7).live=false)∧(k≤a.nd.length)∧(a.nd.length=b.nd.length)∧(∀ j,j < k→nth a.nd j=nth b.nd j)) ?_ ?_
 ·
  refine ⟨_,0,0,0,rfl,rfl,rfl,(Eq.trans (@rfl V (iV (0:Int))) rfl),rfl,rfl,⟨(congrArg Blk.ver rfl),congrArg Blk.live (@rfl Blk (⟨0,false,false,0,0,[]⟩:Blk))⟩,⟨(congrArg Blk.ver rfl),congrArg Blk.live (@rfl Blk (⟨0,false,false,0,0,[]⟩:Blk))⟩,?_,?_,?_⟩
  · omega
  · omega
  · intro j hj; omega
 intro mm T H ⟨k,v6,v7,hmm,t2,t3,t5,h2,h3,h6,h7,hk,hl,hc⟩ Q3 p13 p23 p33
 unfold b57_0
 refine W_seq_seq (W_r (R_mv t5 (R_fk t2 h2 (R_lk rfl h2 rfl rfl (R_len rfl (R_lss rfl rfl (R_e ?_)))))))
 refine W_seq_if rfl (fun c4=>?_) fun c4=>?_
 ·
  refine W_seq_skip (W_seq_blockg fun Q5 n5 x5 y5 z5=>(W_d (by exact (lateC (h6).2 (lateC (h7).2 lateN))) (R_fk t2 h2 (R_lk rfl h2 rfl rfl (R_mv t5 (R_idx (i:=k) (@rfl V (V.sl (List.map cN (a.nd)))) (@rfl V (iV ((k:Nat):Int))) (by omega) rfl (R_load_pp rfl rfl ?_)))))))
  refine R_fk t3 h3 (R_lk rfl h3 rfl rfl (R_mv t5 (R_idx (i:=k) (@rfl V (V.sl (List.map cN (b.nd)))) (@rfl V (iV ((k:Nat):Int))) (by omega) rfl (R_load_pp rfl rfl (R_alloc (i:=6) (n:=v6) (m:=5) rfl (h6).1 rfl (R_alloc (i:=7) (n:=v7) (m:=5) rfl (h7).1 rfl (R_sk rfl rfl rfl rfl rfl rfl rfl rfl rfl ?_)))))))
  refine R_sk rfl rfl rfl rfl rfl rfl rfl rfl rfl (R_e ?_)
  refine W_seq_regc (fun T H=>T 2=(V.mp 2 1 0 0)∧T 3=(V.mp 3 1 0 0)∧T 5=(iV ((k:Nat):Int))∧T 68=(V.bool (((((((((((((nth (a.nd) (k))).lf) != (((nth (b.nd) (k))).lf)))||decide (¬((((nth (a.nd) (k))).ac)=(((nth (b.nd) (k))).ac)))))||decide (¬((((nth (a.nd) (k))).sf)=(((nth (b.nd) (k))).sf)))))||decide (¬((((nth (a.nd) (k))).ou)=(((nth (b.nd) (k))).ou)))))||decide (¬((((nth (a.nd) (k))).kd)=(((nth (b.nd) (k))).kd))))))∧H 2=(bk 1 24 1 [[(V.sl (List.map cN (a.nd)))]])∧H 3=(bk 1 24 1 [[(V.sl (List.map cN (b.nd)))]])∧H 6=(bk (v6+1) 99 5 [(cN (((nth (a.nd) (k)))))])∧H 7=(bk (v7+1) 99 5 [(cN (((nth (b.nd) (k)))))])∧True) ?_ ?_
  ·
   refine R_fk rfl rfl (R_lk rfl rfl rfl rfl (R_fk rfl rfl (R_lk rfl rfl rfl rfl (R_bneq (x:=(((nth (a.nd) (k))).lf)) (y:=(((nth (b.nd) (k))).lf)) rfl rfl (R_mv rfl ?_)))))
   refine Ops_seg 7 (fun T H=>T 2=(V.mp 2 1 0 0)∧T 3=(V.mp 3 1 0 0)∧T 5=(iV ((k:Nat):Int))∧T 6=(V.mp 6 (v6+1) 0 0)∧T 7=(V.mp 7 (v7+1) 0 0)∧T 44=(V.bool (((((((nth (a.nd) (k))).lf) != (((nth (b.nd) (k))).lf)))||decide (¬((((nth (a.nd) (k))).ac)=(((nth (b.nd) (k))).ac))))))∧H 2=(bk 1 24 1 [[(V.sl (List.map cN (a.nd)))]])∧H 3=(bk 1 24 1 [[(V.sl (List.map cN (b.nd)))]])∧H 6=(bk (v6+1) 99 5 [(cN (((nth (a.nd) (k)))))])∧H 7=(bk (v7+1) 99 5 [(cN (((nth (b.nd) (k)))))])∧True) ?_ ?_
   ·
    by_cases g6:(((((nth (a.nd) (k))).lf) != (((nth (b.nd) (k))).lf)))=true
    ·
     refine G_n (ebT g6 rfl) (G_n (ebT g6 rfl) (G_n (ebT g6 rfl) (G_n (ebT g6 rfl) (G_n (ebT g6 rfl) (G_n (ebT g6 rfl) (R_pickT (ebT g6 rfl) rfl ?_))))))
     exact ⟨t2,t3,t5,rfl,rfl,(borT g6),h2,h3,rfl,rfl,trivial⟩
    ·
     refine G_yes (ebF g6 rfl) (R_fk rfl rfl (G_yes (ebF g6 rfl) (R_lk rfl rfl rfl rfl (G_yes (ebF g6 rfl) (R_fk rfl rfl (G_yes (ebF g6 rfl) (R_lk rfl rfl rfl rfl ?_)))))))
     refine G_yes (ebF g6 rfl) (R_callk (ints_pure (((nth (a.nd) (k))).ac) (((nth (b.nd) (k))).ac)) rfl (G_yes (ebF g6 rfl) (R_not rfl (R_pickF (ebF g6 rfl) rfl ?_))))
     exact ⟨t2,t3,t5,rfl,rfl,(borF g6),h2,h3,rfl,rfl,trivial⟩
   intro T H ⟨t2,t3,t5,t6,t7,t44,h2,h3,h6,h7,_⟩
   refine R_mv t44 ?_
   refine Ops_seg 7 (fun T H=>T 2=(V.mp 2 1 0 0)∧T 3=(V.mp 3 1 0 0)∧T 5=(iV ((k:Nat):Int))∧T 6=(V.mp 6 (v6+1) 0 0)∧T 7=(V.mp 7 (v7+1) 0 0)∧T 52=(V.bool (((((((((nth (a.nd) (k))).lf) != (((nth (b.nd) (k))).lf)))||decide (¬((((nth (a.nd) (k))).ac)=(((nth (b.nd) (k))).ac)))))||decide (¬((((nth (a.nd) (k))).sf)=(((nth (b.nd) (k))).sf))))))∧H 2=(bk 1 24 1 [[(V.sl (List.map cN (a.nd)))]])∧H 3=(bk 1 24 1 [[(V.sl (List.map cN (b.nd)))]])∧H 6=(bk (v6+1) 99 5 [(cN (((nth (a.nd) (k)))))])∧H 7=(bk (v7+1) 99 5 [(cN (((nth (b.nd) (k)))))])∧True) ?_ ?_
   ·
    by_cases g7:(((((((nth (a.nd) (k))).lf) != (((nth (b.nd) (k))).lf)))||decide (¬((((nth (a.nd) (k))).ac)=(((nth (b.nd) (k))).ac)))))=true
    ·
     refine G_n (ebT g7 rfl) (G_n (ebT g7 rfl) (G_n (ebT g7 rfl) (G_n (ebT g7 rfl) (G_n (ebT g7 rfl) (G_n (ebT g7 rfl) (R_pickT (ebT g7 rfl) rfl ?_))))))
     exact ⟨t2,t3,t5,t6,t7,(borT g7),h2,h3,h6,h7,trivial⟩
    ·
     refine G_yes (ebF g7 rfl) (R_fk t6 h6 (G_yes (ebF g7 rfl) (R_lk rfl h6 rfl rfl (G_yes (ebF g7 rfl) (R_fk t7 h7 (G_yes (ebF g7 rfl) (R_lk rfl h7 rfl rfl ?_)))))))
     refine G_yes (ebF g7 rfl) (R_callk (ints_pure (((nth (a.nd) (k))).sf) (((nth (b.nd) (k))).sf)) rfl (G_yes (ebF g7 rfl) (R_not rfl (R_pickF (ebF g7 rfl) rfl ?_))))
     exact ⟨t2,t3,t5,t6,t7,(borF g7),h2,h3,h6,h7,trivial⟩
   intro T H ⟨t2,t3,t5,t6,t7,t52,h2,h3,h6,h7,_⟩
   refine R_mv t52 ?_
   refine Ops_seg 7 (fun T H=>T 2=(V.mp 2 1 0 0)∧T 3=(V.mp 3 1 0 0)∧T 5=(iV ((k:Nat):Int))∧T 6=(V.mp 6 (v6+1) 0 0)∧T 7=(V.mp 7 (v7+1) 0 0)∧T 60=(V.bool (((((((((((nth (a.nd) (k))).lf) != (((nth (b.nd) (k))).lf)))||decide (¬((((nth (a.nd) (k))).ac)=(((nth (b.nd) (k))).ac)))))||decide (¬((((nth (a.nd) (k))).sf)=(((nth (b.nd) (k))).sf)))))||decide (¬((((nth (a.nd) (k))).ou)=(((nth (b.nd) (k))).ou))))))∧H 2=(bk 1 24 1 [[(V.sl (List.map cN (a.nd)))]])∧H 3=(bk 1 24 1 [[(V.sl (List.map cN (b.nd)))]])∧H 6=(bk (v6+1) 99 5 [(cN (((nth (a.nd) (k)))))])∧H 7=(bk (v7+1) 99 5 [(cN (((nth (b.nd) (k)))))])∧True) ?_ ?_
   ·
    by_cases g8:(((((((((nth (a.nd) (k))).lf) != (((nth (b.nd) (k))).lf)))||decide (¬((((nth (a.nd) (k))).ac)=(((nth (b.nd) (k))).ac)))))||decide (¬((((nth (a.nd) (k))).sf)=(((nth (b.nd) (k))).sf)))))=true
    ·
     refine G_n (ebT g8 rfl) (G_n (ebT g8 rfl) (G_n (ebT g8 rfl) (G_n (ebT g8 rfl) (G_n (ebT g8 rfl) (G_n (ebT g8 rfl) (R_pickT (ebT g8 rfl) rfl ?_))))))
     exact ⟨t2,t3,t5,t6,t7,(borT g8),h2,h3,h6,h7,trivial⟩
    ·
     refine G_yes (ebF g8 rfl) (R_fk t6 h6 (G_yes (ebF g8 rfl) (R_lk rfl h6 rfl rfl (G_yes (ebF g8 rfl) (R_fk t7 h7 (G_yes (ebF g8 rfl) (R_lk rfl h7 rfl rfl ?_)))))))
     refine G_yes (ebF g8 rfl) (R_callk (lists_pure (((nth (a.nd) (k))).ou) (((nth (b.nd) (k))).ou)) rfl (G_yes (ebF g8 rfl) (R_not rfl (R_pickF (ebF g8 rfl) rfl ?_))))
     exact ⟨t2,t3,t5,t6,t7,(borF g8),h2,h3,h6,h7,trivial⟩
   intro T H ⟨t2,t3,t5,t6,t7,t60,h2,h3,h6,h7,_⟩
   refine R_mv t60 ?_
   refine Ops_seg 7 (fun T H=>T 2=(V.mp 2 1 0 0)∧T 3=(V.mp 3 1 0 0)∧T 5=(iV ((k:Nat):Int))∧T 68=(V.bool (((((((((((((nth (a.nd) (k))).lf) != (((nth (b.nd) (k))).lf)))||decide (¬((((nth (a.nd) (k))).ac)=(((nth (b.nd) (k))).ac)))))||decide (¬((((nth (a.nd) (k))).sf)=(((nth (b.nd) (k))).sf)))))||decide (¬((((nth (a.nd) (k))).ou)=(((nth (b.nd) (k))).ou)))))||decide (¬((((nth (a.nd) (k))).kd)=(((nth (b.nd) (k))).kd))))))∧H 2=(bk 1 24 1 [[(V.sl (List.map cN (a.nd)))]])∧H 3=(bk 1 24 1 [[(V.sl (List.map cN (b.nd)))]])∧H 6=(bk (v6+1) 99 5 [(cN (((nth (a.nd) (k)))))])∧H 7=(bk (v7+1) 99 5 [(cN (((nth (b.nd) (k)))))])∧True) ?_ ?_
   ·
    by_cases g9:(((((((((((nth (a.nd) (k))).lf) != (((nth (b.nd) (k))).lf)))||decide (¬((((nth (a.nd) (k))).ac)=(((nth (b.nd) (k))).ac)))))||decide (¬((((nth (a.nd) (k))).sf)=(((nth (b.nd) (k))).sf)))))||decide (¬((((nth (a.nd) (k))).ou)=(((nth (b.nd) (k))).ou)))))=true
    ·
     refine G_n (ebT g9 rfl) (G_n (ebT g9 rfl) (G_n (ebT g9 rfl) (G_n (ebT g9 rfl) (G_n (ebT g9 rfl) (G_n (ebT g9 rfl) (R_pickT (ebT g9 rfl) rfl ?_))))))
     exact ⟨t2,t3,t5,(borT g9),h2,h3,h6,h7,trivial⟩
    ·
     refine G_yes (ebF g9 rfl) (R_fk t6 h6 (G_yes (ebF g9 rfl) (R_lk rfl h6 rfl rfl (G_yes (ebF g9 rfl) (R_fk t7 h7 (G_yes (ebF g9 rfl) (R_lk rfl h7 rfl rfl ?_)))))))
     refine G_yes (ebF g9 rfl) (R_callk (ints_pure (((nth (a.nd) (k))).kd) (((nth (b.nd) (k))).kd)) rfl (G_yes (ebF g9 rfl) (R_not rfl (R_pickF (ebF g9 rfl) rfl ?_))))
     exact ⟨t2,t3,t5,(borF g9),h2,h3,h6,h7,trivial⟩
   intro T H ⟨t2,t3,t5,t68,h2,h3,h6,h7,_⟩
   exact R_nil ⟨t2,t3,t5,t68,h2,h3,h6,h7,trivial⟩
  intro T H ⟨t2,t3,t5,t68,h2,h3,h6,h7,_⟩
  refine W_ifb t68 (fun c10=>?_) (fun c10=>?_)
  ·
   have d1:nth a.nd k≠nth b.nd k:=fun e=>by rw [e] at c10; simp at c10
   refine W_r (R_mv rfl (R_e (W_ret (y5 _ _ (p23 _ _ (y2 _ _ ?_))))))
   refine Ret_1 (@rfl V (V.bool false)) (fz_bool ?_)
   · exact (decide_eq_false (fun e=>d1 (by subst e; rfl))).symm
  have d1:nth a.nd k=nth b.nd k:=Nd.eq_iff.2 (by simpa [and_assoc] using c10)
  refine W_skip (n5 _ _ (.freeze 6 (fork_ (R:=fun T H=>T 2=(V.mp 2 1 0 0)∧T 3=(V.mp 3 1 0 0)∧T 5=(iV ((k:Nat):Int))∧T 68=(V.bool (((((((((((((nth (a.nd) (k))).lf) != (((nth (b.nd) (k))).lf)))||decide (¬((((nth (a.nd) (k))).ac)=(((nth (b.nd) (k))).ac)))))||decide (¬((((nth (a.nd) (k))).sf)=(((nth (b.nd) (k))).sf)))))||decide (¬((((nth (a.nd) (k))).ou)=(((nth (b.nd) (k))).ou)))))||decide (¬((((nth (a.nd) (k))).kd)=(((nth (b.nd) (k))).kd))))))∧H 2=(bk 1 24 1 [[(V.sl (List.map cN (a.nd)))]])∧H 3=(bk 1 24 1 [[(V.sl (List.map cN (b.nd)))]])∧((H 6).ver=v6+1∧(H 6).live=false)∧H 7=(bk (v7+1) 99 5 [(cN (((nth (b.nd) (k)))))])∧True) ⟨(fzT_q t2 rfl),(fzT_q t3 rfl),(fzT_q t5 rfl),(fzT_q t68 rfl),(kill_ne h2 (by decide)),(kill_ne h3 (by decide)),(kill_self (congrArg Blk.ver h6)),(kill_ne h7 (by decide)),trivial⟩ ?_)))
  intro T H ⟨t2,t3,t5,t68,h2,h3,h6,h7,_⟩
  refine .freeze 7 (.done ?_)
  refine fork_ (R:=fun T H=>T 2=(V.mp 2 1 0 0)∧T 3=(V.mp 3 1 0 0)∧T 5=(iV ((k:Nat):Int))∧T 68=(V.bool (((((((((((((nth (a.nd) (k))).lf) != (((nth (b.nd) (k))).lf)))||decide (¬((((nth (a.nd) (k))).ac)=(((nth (b.nd) (k))).ac)))))||decide (¬((((nth (a.nd) (k))).sf)=(((nth (b.nd) (k))).sf)))))||decide (¬((((nth (a.nd) (k))).ou)=(((nth (b.nd) (k))).ou)))))||decide (¬((((nth (a.nd) (k))).kd)=(((nth (b.nd) (k))).kd))))))∧H 2=(bk 1 24 1 [[(V.sl (List.map cN (a.nd)))]])∧H 3=(bk 1 24 1 [[(V.sl (List.map cN (b.nd)))]])∧((H 6).ver=v6+1∧(H 6).live=false)∧((H 7).ver=v7+1∧(H 7).live=false)∧True) ⟨(fzT_q t2 rfl),(fzT_q t3 rfl),(fzT_q t5 rfl),(fzT_q t68 rfl),(kill_ne h2 (by decide)),(kill_ne h3 (by decide)),(kill_dead h6),(kill_self (congrArg Blk.ver h7)),trivial⟩ ?_
  intro T H ⟨t2,t3,t5,t68,h2,h3,h6,h7,_⟩
  refine W_t (R_mv t5 (R_addN rfl (@rfl V (iV ((1:Nat):Int))) (by omega) (R_mv rfl (R_e ?_))))
  refine p13 _ _ _ ?_ ⟨(k+1),(v6+1),(v7+1),rfl,t2,t3,(Eq.trans (@rfl V (iV ((k+1:Nat):Int))) (by rfl)),h2,h3,h6,h7,?_,?_,?_⟩
  · omega
  · omega
  · omega
  · intro j hj
    by_cases e:j=k
    · subst e; exact d1
    · exact hc j (by omega)
 refine W_seq_exit (p33 _ _ _ (x2 _ _ (.done (W_r (R_mv rfl (R_e (W_ret ?_)))))))
 refine Ret_1 (@rfl V (V.bool true)) (fz_bool ?_)
 · exact (decide_eq_true (Dt.eq_iff.2 (nth_ext hl fun j hj=>hc j (by omega)))).symm
theorem tsame_pure (a b:Ts):PureC Tryz.prog 16 [(V.agg [(iV (a.i)),(V.sl (List.map cN (a.t.nd)))]),(V.agg [(iV (b.i)),(V.sl (List.map cN (b.t.nd)))])] (V.bool (decide (a=b))):=by
 refine pW Tryz.func16 s16_ok fun hB=>?_
 unfold s16
 dsimp only
 refine W_r (R_box (i:=2) (n:=0) (m:=2) (cs:=[(iV (a.i)),(V.sl (List.map cN (a.t.nd)))]) rfl (congrArg Blk.ver rfl) rfl rfl rfl (R_box (i:=3) (n:=0) (m:=2) (cs:=[(iV (b.i)),(V.sl (List.map cN (b.t.nd)))]) rfl (congrArg Blk.ver rfl) rfl rfl rfl (R_mv rfl (R_e (W_r (R_fk rfl rfl (R_lk rfl rfl rfl rfl ?_)))))))
 refine R_fk rfl rfl (R_lk rfl rfl rfl rfl (R_eql rfl rfl (R_mv rfl ?_)))
 refine Ops_seg 6 (fun T H=>T 16=(V.bool (decide (((a.i)=(b.i))∧(a.t=b.t))))∧H 2=(bk 1 26 2 [[(iV (a.i)),(V.sl (List.map cN (a.t.nd)))]])∧H 3=(bk 1 26 2 [[(iV (b.i)),(V.sl (List.map cN (b.t.nd)))]])∧True) ?_ ?_
 ·
  by_cases g1:(a.i)=(b.i)
  ·
   refine G_yes (edT g1 rfl) (R_fk rfl rfl (G_yes (edT g1 rfl) (R_lk rfl rfl rfl rfl (G_yes (edT g1 rfl) (R_fk rfl rfl (G_yes (edT g1 rfl) (R_lk rfl rfl rfl rfl ?_)))))))
   refine G_yes (edT g1 rfl) (R_callk (dsame_pure a.t b.t) rfl (R_pickT (edT g1 rfl) rfl ?_))
   exact ⟨(dec_andT g1),rfl,rfl,trivial⟩
  ·
   refine G_n (edF g1 rfl) (G_n (edF g1 rfl) (G_n (edF g1 rfl) (G_n (edF g1 rfl) (G_n (edF g1 rfl) (R_pickF (edF g1 rfl) rfl ?_)))))
   exact ⟨(dec_andF g1),rfl,rfl,trivial⟩
 intro T H ⟨t16,h2,h3,_⟩
 refine R_mv t16 (R_e (W_ret ?_))
 refine Ret_1 (@rfl V (V.bool (decide (((a.i)=(b.i))∧(a.t=b.t))))) (fz_bool ?_)
 · exact decide_eq_decide.2 Ts.eq_iff.symm
theorem law3_pure (l:Ts) (o:Ob) (n:Int):PureC Tryz.prog 3 [(V.agg [(iV (l.i)),(V.sl (List.map cN (l.t.nd)))]),(V.agg [(iV (o.i)),(V.sl (List.map cT (o.tr)))]),(iV (n))] (V.bool true):=by
 refine pW Tryz.func3 s3_ok fun hB=>?_
 unfold s3
 dsimp only
 refine W_r (R_box (i:=3) (n:=0) (m:=2) (cs:=[(iV (l.i)),(V.sl (List.map cN (l.t.nd)))]) rfl (congrArg Blk.ver rfl) rfl rfl rfl (R_box (i:=4) (n:=0) (m:=2) (cs:=[(iV (o.i)),(V.sl (List.map cT (o.tr)))]) rfl (congrArg Blk.ver rfl) rfl rfl rfl (R_mv rfl (R_e (W_seq_seq (W_r (R_lk rfl rfl rfl rfl ?_)))))))
 refine R_lk rfl rfl rfl rfl (R_callk (great27_pure l o) rfl (R_e ?_))
 refine W_seq_ifb rfl (fun c1=>?_) (fun c1=>?_)
 ·
  refine W_seq_seq (W_r (R_callk (aw_learnerlaw27_awake_pure) rfl (R_mv rfl (R_e (W_seq_ret ?_)))))
  refine Ret_1 (@rfl V (V.bool true)) (fz_canon (by simp) rfl)
 obtain ⟨hi4,hgt,hol,ho⟩:=gr_no (by simpa using c1)
 have hb:=bg_bd hgt
 have hx:=exs_40 hgt hi4
 refine W_seq_skip (W_r (R_mv rfl (R_callk (tnew_pure ((n))) rfl (R_mv rfl (R_ext rfl rfl (R_ext rfl rfl (R_alloc (i:=7) (n:=0) (m:=2) rfl (congrArg Blk.ver rfl) rfl ?_)))))))
 refine R_sk rfl rfl rfl rfl rfl rfl rfl rfl rfl (R_mv rfl (R_e (W_r (R_mv rfl (R_callk (rtnew_pure ((n))) rfl (R_mv rfl (R_ext rfl rfl ?_)))))))
 refine R_ext rfl rfl (R_alloc (i:=9) (n:=0) (m:=2) rfl (congrArg Blk.ver rfl) rfl (R_sk rfl rfl rfl rfl rfl rfl rfl rfl rfl (R_mv rfl (R_e (W_r (R_lk rfl rfl rfl rfl (R_lk rfl rfl rfl rfl ?_)))))))
 refine R_callk (tstep_pure l o hb ho hx) rfl (R_mv rfl (R_ext rfl rfl (R_ext rfl rfl (R_ext rfl rfl (R_ext rfl rfl (R_alloc (i:=11) (n:=0) (m:=2) rfl (congrArg Blk.ver rfl) rfl (R_sk rfl rfl rfl rfl rfl rfl rfl rfl rfl ?_)))))))
 refine R_mv rfl (R_mv rfl (R_mv rfl (R_e ?_)))
 refine W_seq_regc (fun T H=>T 7=(V.mp 7 1 0 0)∧T 8=(iV (nwE ((n))))∧T 9=(V.mp 9 1 0 0)∧T 10=(iV (nwE ((n))))∧T 11=(V.mp 11 1 0 0)∧T 12=(intss ((tst l o).2.1))∧T 13=(V.bool ((tst l o).2.2.1))∧T 14=(iV ((tst l o).2.2.2))∧T 15=(V.mp 15 1 0 0)∧T 16=(intss ((tst l o).2.1))∧T 17=(V.bool ((tst l o).2.2.1))∧T 18=(iV ((tst l o).2.2.2))∧H 3=(bk 1 26 2 [[(iV (l.i)),(V.sl (List.map cN (l.t.nd)))]])∧H 4=(bk 1 29 2 [[(iV (o.i)),(V.sl (List.map cT (o.tr)))]])∧H 7=(bk 1 26 2 [[(iV ((nwT ((n))).i)),(V.sl (List.map cN ((nwT ((n))).t.nd)))]])∧H 9=(bk 1 26 2 [[(iV ((nwT ((n))).i)),(V.sl (List.map cN ((nwT ((n))).t.nd)))]])∧H 11=(bk 1 26 2 [[(iV ((tst l o).1.i)),(V.sl (List.map cN ((tst l o).1.t.nd)))]])∧H 15=(bk 1 26 2 [[(iV ((tst l o).1.i)),(V.sl (List.map cN ((tst l o).1.t.nd)))]])∧True) ?_ ?_
 ·
  refine R_lk rfl rfl rfl rfl (R_lk rfl rfl rfl rfl (R_callk (rstep_pure l o hb ho hx) rfl (R_mv rfl (R_ext rfl rfl (R_ext rfl rfl (R_ext rfl rfl (R_ext rfl rfl ?_)))))))
  refine R_alloc (i:=15) (n:=0) (m:=2) rfl (congrArg Blk.ver rfl) rfl (R_sk rfl rfl rfl rfl rfl rfl rfl rfl rfl (R_mv rfl (R_mv rfl (R_mv rfl ?_))))
  exact R_nil ⟨rfl,rfl,rfl,rfl,rfl,rfl,rfl,rfl,rfl,rfl,rfl,rfl,rfl,rfl,rfl,rfl,rfl,rfl,trivial⟩
 intro T H ⟨t7,t8,t9,t10,t11,t12,t13,t14,t15,t16,t17,t18,h3,h4,h7,h9,h11,h15,_⟩
 refine W_r (R_lk t7 h7 rfl rfl (R_lk t9 h9 rfl rfl (R_callk (tsame_pure ((nwT ((n)))) ((nwT ((n))))) rfl (R_mv rfl ?_))))
 refine Ops_seg 4 (fun T H=>T 11=(V.mp 11 1 0 0)∧T 12=(intss ((tst l o).2.1))∧T 13=(V.bool ((tst l o).2.2.1))∧T 14=(iV ((tst l o).2.2.2))∧T 15=(V.mp 15 1 0 0)∧T 16=(intss ((tst l o).2.1))∧T 17=(V.bool ((tst l o).2.2.1))∧T 18=(iV ((tst l o).2.2.2))∧T 56=(V.bool (decide ((((nwT ((n))))=((nwT ((n)))))∧((nwE ((n)))=(nwE ((n)))))))∧H 3=(bk 1 26 2 [[(iV (l.i)),(V.sl (List.map cN (l.t.nd)))]])∧H 4=(bk 1 29 2 [[(iV (o.i)),(V.sl (List.map cT (o.tr)))]])∧H 7=(bk 1 26 2 [[(iV ((nwT ((n))).i)),(V.sl (List.map cN ((nwT ((n))).t.nd)))]])∧H 9=(bk 1 26 2 [[(iV ((nwT ((n))).i)),(V.sl (List.map cN ((nwT ((n))).t.nd)))]])∧H 11=(bk 1 26 2 [[(iV ((tst l o).1.i)),(V.sl (List.map cN ((tst l o).1.t.nd)))]])∧H 15=(bk 1 26 2 [[(iV ((tst l o).1.i)),(V.sl (List.map cN ((tst l o).1.t.nd)))]])∧True) ?_ ?_
 ·
  by_cases g2:((nwT ((n))))=((nwT ((n))))
  ·
   refine G_yes (edT g2 rfl) (R_mv t8 (G_yes (edT g2 rfl) (R_mv t10 (G_yes (edT g2 rfl) (R_eql rfl rfl (R_pickT (edT g2 rfl) rfl ?_))))))
   exact ⟨t11,t12,t13,t14,t15,t16,t17,t18,(dec_andT g2),h3,h4,h7,h9,h11,h15,trivial⟩
  ·
   refine G_n (edF g2 rfl) (G_n (edF g2 rfl) (G_n (edF g2 rfl) (R_pickF (edF g2 rfl) rfl ?_)))
   exact ⟨t11,t12,t13,t14,t15,t16,t17,t18,(dec_andF g2),h3,h4,h7,h9,h11,h15,trivial⟩
 intro T H ⟨t11,t12,t13,t14,t15,t16,t17,t18,t56,h3,h4,h7,h9,h11,h15,_⟩
 refine R_mv t56 ?_
 refine Ops_seg 4 (fun T H=>T 12=(intss ((tst l o).2.1))∧T 13=(V.bool ((tst l o).2.2.1))∧T 14=(iV ((tst l o).2.2.2))∧T 16=(intss ((tst l o).2.1))∧T 17=(V.bool ((tst l o).2.2.1))∧T 18=(iV ((tst l o).2.2.2))∧T 61=(V.bool (decide (((((nwT ((n))))=((nwT ((n)))))∧((nwE ((n)))=(nwE ((n)))))∧(((tst l o).1)=((tst l o).1)))))∧H 3=(bk 1 26 2 [[(iV (l.i)),(V.sl (List.map cN (l.t.nd)))]])∧H 4=(bk 1 29 2 [[(iV (o.i)),(V.sl (List.map cT (o.tr)))]])∧H 7=(bk 1 26 2 [[(iV ((nwT ((n))).i)),(V.sl (List.map cN ((nwT ((n))).t.nd)))]])∧H 9=(bk 1 26 2 [[(iV ((nwT ((n))).i)),(V.sl (List.map cN ((nwT ((n))).t.nd)))]])∧H 11=(bk 1 26 2 [[(iV ((tst l o).1.i)),(V.sl (List.map cN ((tst l o).1.t.nd)))]])∧H 15=(bk 1 26 2 [[(iV ((tst l o).1.i)),(V.sl (List.map cN ((tst l o).1.t.nd)))]])∧True) ?_ ?_
 ·
  by_cases g3:(((nwT ((n))))=((nwT ((n)))))∧((nwE ((n)))=(nwE ((n))))
  ·
   refine G_yes (edT g3 rfl) (R_lk t11 h11 rfl rfl (G_yes (edT g3 rfl) (R_lk t15 h15 rfl rfl (G_yes (edT g3 rfl) (R_callk (tsame_pure ((tst l o).1) ((tst l o).1)) rfl (R_pickT (edT g3 rfl) rfl ?_))))))
   exact ⟨t12,t13,t14,t16,t17,t18,(dec_andT g3),h3,h4,h7,h9,h11,h15,trivial⟩
  ·
   refine G_n (edF g3 rfl) (G_n (edF g3 rfl) (G_n (edF g3 rfl) (R_pickF (edF g3 rfl) rfl ?_)))
   exact ⟨t12,t13,t14,t16,t17,t18,(dec_andF g3),h3,h4,h7,h9,h11,h15,trivial⟩
 intro T H ⟨t12,t13,t14,t16,t17,t18,t61,h3,h4,h7,h9,h11,h15,_⟩
 refine R_mv t61 ?_
 refine Ops_seg 4 (fun T H=>T 13=(V.bool ((tst l o).2.2.1))∧T 14=(iV ((tst l o).2.2.2))∧T 17=(V.bool ((tst l o).2.2.1))∧T 18=(iV ((tst l o).2.2.2))∧T 66=(V.bool (decide ((((((nwT ((n))))=((nwT ((n)))))∧((nwE ((n)))=(nwE ((n)))))∧(((tst l o).1)=((tst l o).1)))∧(((tst l o).2.1)=((tst l o).2.1)))))∧H 3=(bk 1 26 2 [[(iV (l.i)),(V.sl (List.map cN (l.t.nd)))]])∧H 4=(bk 1 29 2 [[(iV (o.i)),(V.sl (List.map cT (o.tr)))]])∧H 7=(bk 1 26 2 [[(iV ((nwT ((n))).i)),(V.sl (List.map cN ((nwT ((n))).t.nd)))]])∧H 9=(bk 1 26 2 [[(iV ((nwT ((n))).i)),(V.sl (List.map cN ((nwT ((n))).t.nd)))]])∧H 11=(bk 1 26 2 [[(iV ((tst l o).1.i)),(V.sl (List.map cN ((tst l o).1.t.nd)))]])∧H 15=(bk 1 26 2 [[(iV ((tst l o).1.i)),(V.sl (List.map cN ((tst l o).1.t.nd)))]])∧True) ?_ ?_
 ·
  by_cases g4:((((nwT ((n))))=((nwT ((n)))))∧((nwE ((n)))=(nwE ((n)))))∧(((tst l o).1)=((tst l o).1))
  ·
   refine G_yes (edT g4 rfl) (R_mv t12 (G_yes (edT g4 rfl) (R_mv t16 (G_yes (edT g4 rfl) (R_callk (swords_pure ((tst l o).2.1) ((tst l o).2.1)) rfl (R_pickT (edT g4 rfl) rfl ?_))))))
   exact ⟨t13,t14,t17,t18,(dec_andT g4),h3,h4,h7,h9,h11,h15,trivial⟩
  ·
   refine G_n (edF g4 rfl) (G_n (edF g4 rfl) (G_n (edF g4 rfl) (R_pickF (edF g4 rfl) rfl ?_)))
   exact ⟨t13,t14,t17,t18,(dec_andF g4),h3,h4,h7,h9,h11,h15,trivial⟩
 intro T H ⟨t13,t14,t17,t18,t66,h3,h4,h7,h9,h11,h15,_⟩
 refine R_mv t66 ?_
 refine Ops_seg 4 (fun T H=>T 14=(iV ((tst l o).2.2.2))∧T 18=(iV ((tst l o).2.2.2))∧T 71=(V.bool ((decide ((((((nwT ((n))))=((nwT ((n)))))∧((nwE ((n)))=(nwE ((n)))))∧(((tst l o).1)=((tst l o).1)))∧(((tst l o).2.1)=((tst l o).2.1)))&&((((tst l o).2.2.1)==((tst l o).2.2.1))))))∧H 3=(bk 1 26 2 [[(iV (l.i)),(V.sl (List.map cN (l.t.nd)))]])∧H 4=(bk 1 29 2 [[(iV (o.i)),(V.sl (List.map cT (o.tr)))]])∧H 7=(bk 1 26 2 [[(iV ((nwT ((n))).i)),(V.sl (List.map cN ((nwT ((n))).t.nd)))]])∧H 9=(bk 1 26 2 [[(iV ((nwT ((n))).i)),(V.sl (List.map cN ((nwT ((n))).t.nd)))]])∧H 11=(bk 1 26 2 [[(iV ((tst l o).1.i)),(V.sl (List.map cN ((tst l o).1.t.nd)))]])∧H 15=(bk 1 26 2 [[(iV ((tst l o).1.i)),(V.sl (List.map cN ((tst l o).1.t.nd)))]])∧True) ?_ ?_
 ·
  by_cases g5:(((((nwT ((n))))=((nwT ((n)))))∧((nwE ((n)))=(nwE ((n)))))∧(((tst l o).1)=((tst l o).1)))∧(((tst l o).2.1)=((tst l o).2.1))
  ·
   refine G_yes (edT g5 rfl) (R_mv t13 (G_yes (edT g5 rfl) (R_mv t17 (G_yes (edT g5 rfl) (R_beql (x:=((tst l o).2.2.1)) (y:=((tst l o).2.2.1)) rfl rfl (R_pickT (edT g5 rfl) rfl ?_))))))
   exact ⟨t14,t18,(dbandT g5),h3,h4,h7,h9,h11,h15,trivial⟩
  ·
   refine G_n (edF g5 rfl) (G_n (edF g5 rfl) (G_n (edF g5 rfl) (R_pickF (edF g5 rfl) rfl ?_)))
   exact ⟨t14,t18,(dbandF g5),h3,h4,h7,h9,h11,h15,trivial⟩
 intro T H ⟨t14,t18,t71,h3,h4,h7,h9,h11,h15,_⟩
 refine R_mv t71 ?_
 refine Ops_seg 4 (fun T H=>T 76=(V.bool ((((decide ((((((nwT ((n))))=((nwT ((n)))))∧((nwE ((n)))=(nwE ((n)))))∧(((tst l o).1)=((tst l o).1)))∧(((tst l o).2.1)=((tst l o).2.1)))&&((((tst l o).2.2.1)==((tst l o).2.2.1)))))&&decide (((tst l o).2.2.2)=((tst l o).2.2.2)))))∧H 3=(bk 1 26 2 [[(iV (l.i)),(V.sl (List.map cN (l.t.nd)))]])∧H 4=(bk 1 29 2 [[(iV (o.i)),(V.sl (List.map cT (o.tr)))]])∧H 7=(bk 1 26 2 [[(iV ((nwT ((n))).i)),(V.sl (List.map cN ((nwT ((n))).t.nd)))]])∧H 9=(bk 1 26 2 [[(iV ((nwT ((n))).i)),(V.sl (List.map cN ((nwT ((n))).t.nd)))]])∧H 11=(bk 1 26 2 [[(iV ((tst l o).1.i)),(V.sl (List.map cN ((tst l o).1.t.nd)))]])∧H 15=(bk 1 26 2 [[(iV ((tst l o).1.i)),(V.sl (List.map cN ((tst l o).1.t.nd)))]])∧True) ?_ ?_
 ·
  by_cases g6:((decide ((((((nwT ((n))))=((nwT ((n)))))∧((nwE ((n)))=(nwE ((n)))))∧(((tst l o).1)=((tst l o).1)))∧(((tst l o).2.1)=((tst l o).2.1)))&&((((tst l o).2.2.1)==((tst l o).2.2.1)))))=true
  ·
   refine G_yes (ebT g6 rfl) (R_mv t14 (G_yes (ebT g6 rfl) (R_mv t18 (G_yes (ebT g6 rfl) (R_eql rfl rfl (R_pickT (ebT g6 rfl) rfl ?_))))))
   exact ⟨(bandT g6),h3,h4,h7,h9,h11,h15,trivial⟩
  ·
   refine G_n (ebF g6 rfl) (G_n (ebF g6 rfl) (G_n (ebF g6 rfl) (R_pickF (ebF g6 rfl) rfl ?_)))
   exact ⟨(bandF g6),h3,h4,h7,h9,h11,h15,trivial⟩
 intro T H ⟨t76,h3,h4,h7,h9,h11,h15,_⟩
 refine R_mv t76 ?_
 refine Ops_seg 2 (fun T H=>T 79=(V.bool ((((((decide ((((((nwT ((n))))=((nwT ((n)))))∧((nwE ((n)))=(nwE ((n)))))∧(((tst l o).1)=((tst l o).1)))∧(((tst l o).2.1)=((tst l o).2.1)))&&((((tst l o).2.2.1)==((tst l o).2.2.1)))))&&decide (((tst l o).2.2.2)=((tst l o).2.2.2))))||false)))∧H 3=(bk 1 26 2 [[(iV (l.i)),(V.sl (List.map cN (l.t.nd)))]])∧H 4=(bk 1 29 2 [[(iV (o.i)),(V.sl (List.map cT (o.tr)))]])∧H 7=(bk 1 26 2 [[(iV ((nwT ((n))).i)),(V.sl (List.map cN ((nwT ((n))).t.nd)))]])∧H 9=(bk 1 26 2 [[(iV ((nwT ((n))).i)),(V.sl (List.map cN ((nwT ((n))).t.nd)))]])∧H 11=(bk 1 26 2 [[(iV ((tst l o).1.i)),(V.sl (List.map cN ((tst l o).1.t.nd)))]])∧H 15=(bk 1 26 2 [[(iV ((tst l o).1.i)),(V.sl (List.map cN ((tst l o).1.t.nd)))]])∧True) ?_ ?_
 ·
  by_cases g7:((((decide ((((((nwT ((n))))=((nwT ((n)))))∧((nwE ((n)))=(nwE ((n)))))∧(((tst l o).1)=((tst l o).1)))∧(((tst l o).2.1)=((tst l o).2.1)))&&((((tst l o).2.2.1)==((tst l o).2.2.1)))))&&decide (((tst l o).2.2.2)=((tst l o).2.2.2))))=true
  ·
   refine G_yes (ebT g7 rfl) (R_callk (aw_learnerlaw27_awake_pure) rfl (R_pickT (ebT g7 rfl) rfl ?_))
   exact ⟨(borT g7),h3,h4,h7,h9,h11,h15,trivial⟩
  ·
   refine G_n (ebF g7 rfl) (R_pickF (ebF g7 rfl) rfl ?_)
   exact ⟨(borF g7),h3,h4,h7,h9,h11,h15,trivial⟩
 intro T H ⟨t79,h3,h4,h7,h9,h11,h15,_⟩
 refine R_mv t79 (R_e (W_ret ?_))
 refine Ret_1 (@rfl V (V.bool ((((((decide ((((((nwT ((n))))=((nwT ((n)))))∧((nwE ((n)))=(nwE ((n)))))∧(((tst l o).1)=((tst l o).1)))∧(((tst l o).2.1)=((tst l o).2.1)))&&((((tst l o).2.2.1)==((tst l o).2.2.1)))))&&decide (((tst l o).2.2.2)=((tst l o).2.2.2))))||false)))) (fz_bool ?_)
 · simp
end Go.Proofs.YtmnjchcoigbngabGreat
namespace Go.Proofs.YtmnjchcoigbngabGreat
open Go Go.Proofs Go.Proofs.YtmnjchcoigbngabGreat Go.ChangeShapes Go.WideShapes Go.ChangeAt Go.RowKit
structure UT (P:Program):Prop where
  u3:P.underlying 3=some (.int .i64)
  u22:P.underlying 22=some (.slice 99)
  u4:P.underlying 4=some (.bool)
  u54:P.underlying 54=some (.slice 3)
  u37:P.underlying 37=some (.slice 54)
  u99: ∃ f0 f1 f2 f3 f4:Field,P.underlying 99=some (.struct #[f0,f1,f2,f3,f4])∧f0.type=4∧f1.type=54∧f2.type=54∧f3.type=37∧f4.type=54
  u24: ∃ f0:Field,P.underlying 24=some (.struct #[f0])∧f0.type=22
  u26: ∃ f0 f1:Field,P.underlying 26=some (.struct #[f0,f1])∧f0.type=3∧f1.type=24
  u27:P.underlying 27=some (.slice 84)
  u84: ∃ f0 f1:Field,P.underlying 84=some (.struct #[f0,f1])∧f0.type=54∧f1.type=54
  u29: ∃ f0 f1:Field,P.underlying 29=some (.struct #[f0,f1])∧f0.type=3∧f1.type=27
theorem sh3 {P:Program} (U:UT P) (n:Nat) (vs:List V) (h:Shp P (n+1) 3 vs): ∃ a:Int,vs=cI a:=shp_int U.u3 h
theorem sh4 {P:Program} (U:UT P) (n:Nat) (vs:List V) (h:Shp P (n+1) 4 vs): ∃ a:Bool,vs=(fun b=>[V.bool b]) a:=shp_bool U.u4 h
theorem sh54 {P:Program} (U:UT P) (n:Nat) (vs:List V) (h:Shp P (n+2) 54 vs): ∃ a:List Int,vs=cL a:=shp_slice (f:=cI) U.u54 (fun vs h=>sh3 U n vs h) h
theorem sh37 {P:Program} (U:UT P) (n:Nat) (vs:List V) (h:Shp P (n+3) 37 vs): ∃ a:List (List Int),vs=(fun l=>[V.sl (List.map cL l)]) a:=shp_slice (f:=cL) U.u37 (fun vs h=>sh54 U n vs h) h
theorem sh99 {P:Program} (U:UT P) (n:Nat) (vs:List V) (h:Shp P (n+4) 99 vs): ∃ a:Nd,vs=cN a:=by
  obtain ⟨f0,f1,f2,f3,f4,hu,k0,k1,k2,k3,k4⟩:=U.u99
  have h0:=shp_step hu h
  obtain ⟨x0,u0,e0,h1⟩:=shpL_cons (c:=(fun b=>[V.bool b])) (fun vs h=>sh4 U (n+2) vs (by rw [k0] at h; exact h)) h0
  obtain ⟨x1,u1,e1,h2⟩:=shpL_cons (c:=cL) (fun vs h=>sh54 U (n+1) vs (by rw [k1] at h; exact h)) h1
  obtain ⟨x2,u2,e2,h3⟩:=shpL_cons (c:=cL) (fun vs h=>sh54 U (n+1) vs (by rw [k2] at h; exact h)) h2
  obtain ⟨x3,u3,e3,h4⟩:=shpL_cons (c:=(fun l=>[V.sl (List.map cL l)])) (fun vs h=>sh37 U (n+0) vs (by rw [k3] at h; exact h)) h3
  obtain ⟨x4,u4,e4,h5⟩:=shpL_cons (c:=cL) (fun vs h=>sh54 U (n+1) vs (by rw [k4] at h; exact h)) h4
  have e5:=shpL_nil h5
  exact ⟨⟨x0,x1,x2,x3,x4⟩,by rw [e0,e1,e2,e3,e4,e5]; rfl⟩
theorem sh22 {P:Program} (U:UT P) (n:Nat) (vs:List V) (h:Shp P (n+5) 22 vs): ∃ a:List Nd,vs=(fun l=>[V.sl (List.map cN l)]) a:=shp_slice (f:=cN) U.u22 (fun vs h=>sh99 U n vs h) h
theorem sh24 {P:Program} (U:UT P) (n:Nat) (vs:List V) (h:Shp P (n+6) 24 vs): ∃ a:Dt,vs=cD a:=by
  obtain ⟨f0,hu,k0⟩:=U.u24
  have h0:=shp_step hu h
  obtain ⟨x0,u0,e0,h1⟩:=shpL_cons (c:=(fun l=>[V.sl (List.map cN l)])) (fun vs h=>sh22 U (n+0) vs (by rw [k0] at h; exact h)) h0
  have e1:=shpL_nil h1
  exact ⟨⟨x0⟩,by rw [e0,e1]; rfl⟩
theorem sh26 {P:Program} (U:UT P) (n:Nat) (vs:List V) (h:Shp P (n+7) 26 vs): ∃ a:Ts,vs=cTs a:=by
  obtain ⟨f0,f1,hu,k0,k1⟩:=U.u26
  have h0:=shp_step hu h
  obtain ⟨x0,u0,e0,h1⟩:=shpL_cons (c:=cI) (fun vs h=>sh3 U (n+5) vs (by rw [k0] at h; exact h)) h0
  obtain ⟨x1,u1,e1,h2⟩:=shpL_cons (c:=cD) (fun vs h=>sh24 U (n+0) vs (by rw [k1] at h; exact h)) h1
  have e2:=shpL_nil h2
  exact ⟨⟨x0,x1⟩,by rw [e0,e1,e2]; rfl⟩
theorem sh84 {P:Program} (U:UT P) (n:Nat) (vs:List V) (h:Shp P (n+3) 84 vs): ∃ a:Tr,vs=cT a:=by
  obtain ⟨f0,f1,hu,k0,k1⟩:=U.u84
  have h0:=shp_step hu h
  obtain ⟨x0,u0,e0,h1⟩:=shpL_cons (c:=cL) (fun vs h=>sh54 U (n+0) vs (by rw [k0] at h; exact h)) h0
  obtain ⟨x1,u1,e1,h2⟩:=shpL_cons (c:=cL) (fun vs h=>sh54 U (n+0) vs (by rw [k1] at h; exact h)) h1
  have e2:=shpL_nil h2
  exact ⟨⟨x0,x1⟩,by rw [e0,e1,e2]; rfl⟩
theorem sh27 {P:Program} (U:UT P) (n:Nat) (vs:List V) (h:Shp P (n+4) 27 vs): ∃ a:List Tr,vs=(fun l=>[V.sl (List.map cT l)]) a:=shp_slice (f:=cT) U.u27 (fun vs h=>sh84 U n vs h) h
theorem sh29 {P:Program} (U:UT P) (n:Nat) (vs:List V) (h:Shp P (n+5) 29 vs): ∃ a:Ob,vs=oC a:=by
  obtain ⟨f0,f1,hu,k0,k1⟩:=U.u29
  have h0:=shp_step hu h
  obtain ⟨x0,u0,e0,h1⟩:=shpL_cons (c:=cI) (fun vs h=>sh3 U (n+3) vs (by rw [k0] at h; exact h)) h0
  obtain ⟨x1,u1,e1,h2⟩:=shpL_cons (c:=(fun l=>[V.sl (List.map cT l)])) (fun vs h=>sh27 U (n+0) vs (by rw [k1] at h; exact h)) h1
  have e2:=shpL_nil h2
  exact ⟨⟨x0,x1⟩,by rw [e0,e1,e2]; rfl⟩
theorem ut:UT Tryz.prog:=⟨by kernel_rfl,by kernel_rfl,by kernel_rfl,by kernel_rfl,by kernel_rfl,⟨_,_,_,_,_,Tryz.underlying99,rfl,rfl,rfl,rfl,rfl⟩,⟨_,Tryz.underlying24,rfl⟩,⟨_,_,Tryz.underlying26,rfl,rfl⟩,by kernel_rfl,⟨_,_,Tryz.underlying84,rfl,rfl⟩,⟨_,_,Tryz.underlying29,rfl,rfl⟩⟩
theorem args3 {P:Program} (U:UT P) {us:List V} (h:ShpA P 8 [26,29,3] us): ∃ (d0:Ts) (d1:Ob) (d2:Int),us=[V.agg (cTs d0),V.agg (oC d1),V.int .i64 d2]:=by
  obtain ⟨a0,b0,e0,h0,h⟩:=shpA_cons h
  obtain ⟨d0,g0⟩:=sh26 U 1 a0 h0
  have q0:packV P 26 a0=V.agg (cTs d0):=by obtain ⟨_,_,hu,_⟩:=U.u26; rw [g0]; exact pack_struct hu _
  obtain ⟨a1,b1,e1,h1,h⟩:=shpA_cons h
  obtain ⟨d1,g1⟩:=sh29 U 3 a1 h1
  have q1:packV P 29 a1=V.agg (oC d1):=by obtain ⟨_,_,hu,_⟩:=U.u29; rw [g1]; exact pack_struct hu _
  obtain ⟨a2,b2,e2,h2,h⟩:=shpA_cons h
  obtain ⟨d2,g2⟩:=sh3 U 7 a2 h2
  have q2:packV P 3 a2=V.int .i64 d2:=by rw [g2]; exact pack_other (fun fs h=>by rw [U.u3] at h; cases h) (fun m e h=>by rw [U.u3] at h; cases h)
  have e3:=shpA_nil h
  exact ⟨d0,d1,d2,by rw [e0,q0,e1,q1,e2,q2,e3]⟩
theorem own3:ownKnob Tryz.prog.godebug=none:=by kernel_rfl
set_option maxRecDepth 100000 in
theorem lifted3 (os:Os) (started:os.Started) (H:Type) (enc:TypeId×Value→H):
    ReturnsInHanded {} Tryz.checked os 3 .any (Rows.treelearnStepsSpec.pre6 enc Tryz.prog Tryz.f3 Rows.treelearnStepsRow.domain false) (Rows.treelearnStepsSpec.post enc Tryz.prog Tryz.f3 false true false false):=by
  refine returnsInHanded_of_change (C:=Tryz.checked) own3 started (by kernel_rfl) Tryz.func3
    (ChangeSpec.witness6 (enc:=enc) (C:=Tryz.checked) false ⟨#[],#[.agg #[.int .i64 0,.slice none 0 0],.agg #[.int .i64 0,.slice none 0 0],.int .i64 0],[]⟩ 8 (by kernel_rfl) (by kernel_rfl) (by kernel_rfl) (by kernel_rfl)) ?_
  intro W base args ds gs before hval0 hW hcnd _
  refine law_post (n:=8) (tb:=4) (by kernel_rfl) (by kernel_rfl) (by kernel_rfl) (fun t ht=>?_) rfl ?_ (fun us hu=>?_) hval0 hW
  · have h:t∈[26,29,3]:=ht
    simp only [List.mem_cons,List.not_mem_nil,or_false] at h
    rcases h with rfl|rfl|rfl
    · exact ⟨by kernel_rfl,by kernel_rfl,of_decide_eq_true (by kernel_rfl)⟩
    · exact ⟨by kernel_rfl,by kernel_rfl,of_decide_eq_true (by kernel_rfl)⟩
    · exact ⟨by kernel_rfl,by kernel_rfl,of_decide_eq_true (by kernel_rfl)⟩
  · obtain ⟨p,q,hA,hV,rfl,hfz,hnd⟩:=hW
    obtain ⟨rfl,rfl⟩:=trodVars_none hV
    change DataW.TrodAll enc Tryz.prog W 0 (fun _=>true) true [26,29,3] args.toList ds p at hA
    obtain ⟨v0,vs0,y0,ds0,pa0,pb0,hv0,rfl,rfl,_,hA⟩:=trodAll_cons hA
    obtain ⟨v1,vs1,y1,ds1,pa1,pb1,hv1,rfl,rfl,_,hA⟩:=trodAll_cons hA
    obtain ⟨v2,vs2,y2,ds2,pa2,pb2,hv2,rfl,rfl,_,hA⟩:=trodAll_cons hA
    obtain ⟨_,rfl,rfl⟩:=trodAll_nil hA
    rfl
  · obtain ⟨d0,d1,d2,rfl⟩:=args3 ut hu
    exact law3_pure d0 d1 d2
theorem proved3:Rows.TreelearnStepsSaid:=
  OpenClaim.holds_of_wide 3 Tryz.f3 rfl rfl rfl rfl rfl rfl rfl ⟨rfl,rfl,rfl,rfl,rfl⟩ rfl rfl rfl rfl rfl (by kernel_rfl) Tryz.func3 (by kernel_rfl)
    (of_decide_eq_true (by kernel_rfl)) (by unfold Func.isWrapper; first|(rw [if_pos (by decide+kernel)]; kernel_rfl)|(rw [if_neg (by decide+kernel)]; exact ⟨rfl,rfl⟩))
    (fun os started H enc _=>lifted3 os started H enc)
end Go.Proofs.YtmnjchcoigbngabGreat
