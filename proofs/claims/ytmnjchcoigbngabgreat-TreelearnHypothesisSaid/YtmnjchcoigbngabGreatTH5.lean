/- Contracts of the functions that the law TH reaches, and the law itself, for every input; no condition. -/
import Derived.KernelRfl
import Derived.Test.YtmnjchcoigbngabGreatProg
import Derived.Test.YtmnjchcoigbngabGreatRows
import Derived.Test.YtmnjchcoigbngabGreatTH4
set_option linter.unusedSimpArgs false
set_option linter.unusedVariables false
namespace Go.Proofs.YtmnjchcoigbngabGreat
open Go Go.Proofs
theorem rhyp_pure (l:Ts) (o:Ob) (hb:Bd l.t) (ho:oval o=0) (hx:(exs l).length≤5000):PureC Tryz.prog 19 [(V.agg [(iV (l.i)),(V.sl (List.map cN (l.t.nd)))]),(V.agg [(iV (o.i)),(V.sl (List.map cT (o.tr)))])] (V.tup [(V.agg [(iV ((hyR l o).m.i)),(iV ((hyR l o).m.s)),(intss ((hyR l o).m.nx)),(intss ((hyR l o).m.ot)),(intss ((hyR l o).acc))]),(iV (hyE l o))]):=by
 refine pW Tryz.func19 s19_ok fun hB=>?_
 unfold s19
 dsimp only
 have hal:=acL_len l.t.nd
 have hxl:=exs_len l

 refine W_r (R_box (i:=2) (n:=0) (m:=2) (cs:=[(iV (l.i)),(V.sl (List.map cN (l.t.nd)))]) rfl (congrArg Blk.ver rfl) rfl rfl rfl (R_box (i:=3) (n:=0) (m:=2) (cs:=[(iV (o.i)),(V.sl (List.map cT (o.tr)))]) rfl (congrArg Blk.ver rfl) rfl rfl rfl (R_alloc (i:=4) (n:=0) (m:=5) rfl (congrArg Blk.ver rfl) rfl (R_mv rfl (R_e (W_seq_seq (W_r ?_)))))))
 refine R_lk rfl rfl rfl rfl (R_lk rfl rfl rfl rfl (R_callk (tchecked_pure l o hb) rfl (R_mv rfl (R_e (W_seq_seq (W_r (R_mv rfl ?_)))))))
 refine R_neq rfl rfl (R_e ?_)
 refine W_seq_if rfl (fun c1=>?_) fun c1=>?_
 ·
  have za:=c1
  refine W_seq_seq (W_r (R_build rfl rfl (R_mv rfl (R_sk rfl rfl rfl rfl rfl rfl rfl rfl rfl (R_mv rfl (R_e (W_seq_ret ?_)))))))
  refine RetC_2 (resV_c (u:=(V.agg [(iV (0:Int)),(iV (0:Int)),V.nilsl,V.nilsl,V.nilsl])) rfl (@rfl Blk (bk 1 48 5 [[(iV (0:Int)),(iV (0:Int)),V.nilsl,V.nilsl,V.nilsl]])) (lB oB rfl rfl)) (resV_t (@rfl V (iV (tsE l o)))) (fz_agg5 (fz_int ?_) (fz_int ?_) (fz_nil ?_) (fz_nil ?_) (fz_nil ?_)) (fz_int ?_)
  · try rw [hyE_1 za]
    try rw [hyR_no (by rw [hyE_1 za]; exact za)]
    try rfl
  · try rw [hyE_1 za]
    try rw [hyR_no (by rw [hyE_1 za]; exact za)]
    try rfl
  · try rw [hyE_1 za]
    try rw [hyR_no (by rw [hyE_1 za]; exact za)]
    try rfl
  · try rw [hyE_1 za]
    try rw [hyR_no (by rw [hyE_1 za]; exact za)]
    try rfl
  · try rw [hyE_1 za]
    try rw [hyR_no (by rw [hyE_1 za]; exact za)]
    try rfl
  · try rw [hyE_1 za]
    try rw [hyR_no (by rw [hyE_1 za]; exact za)]
    try rfl
 have za:=c1
 have ht:=ts_ok (show tsE l o=0 by omega)
 obtain ⟨hi1,hi2,hv,hw0,_,hl0⟩:=tv_ok ht.1
 have hbn:=hb.n
 have hll:=lvs_len hv
 have hlv:lvs l.t=(if dvE l.t=0 then sdW (acL l.t.nd) else []):=rfl
 refine W_seq_skip (W_r (R_lk rfl rfl rfl rfl (R_lk rfl rfl rfl rfl (R_callk (rqueries_pure l o hb ht.1 ho hx) rfl (R_mv rfl (R_ext rfl rfl (R_ext rfl rfl ?_)))))))
 refine R_mv rfl (R_mv rfl (R_e (W_seq_seq (W_r (R_mv rfl (R_neq rfl rfl (R_e ?_)))))))
 refine W_seq_if rfl (fun c2=>?_) fun c2=>?_
 ·
  have zb:=c2
  refine W_seq_seq (W_r (R_build rfl rfl (R_mv rfl (R_sk rfl rfl rfl rfl rfl rfl rfl rfl rfl (R_mv rfl (R_e (W_seq_ret ?_)))))))
  refine RetC_2 (resV_c (u:=(V.agg [(iV (0:Int)),(iV (0:Int)),V.nilsl,V.nilsl,V.nilsl])) rfl (@rfl Blk (bk 1 48 5 [[(iV (0:Int)),(iV (0:Int)),V.nilsl,V.nilsl,V.nilsl]])) (lB oB rfl rfl)) (resV_t (@rfl V (iV (sfE l o)))) (fz_agg5 (fz_int ?_) (fz_int ?_) (fz_nil ?_) (fz_nil ?_) (fz_nil ?_)) (fz_int ?_)
  · try rw [hyE_2 za zb]
    try rw [hyR_no (by rw [hyE_2 za zb]; exact zb)]
    try rfl
  · try rw [hyE_2 za zb]
    try rw [hyR_no (by rw [hyE_2 za zb]; exact zb)]
    try rfl
  · try rw [hyE_2 za zb]
    try rw [hyR_no (by rw [hyE_2 za zb]; exact zb)]
    try rfl
  · try rw [hyE_2 za zb]
    try rw [hyR_no (by rw [hyE_2 za zb]; exact zb)]
    try rfl
  · try rw [hyE_2 za zb]
    try rw [hyR_no (by rw [hyE_2 za zb]; exact zb)]
    try rfl
  · try rw [hyE_2 za zb]
    try rw [hyR_no (by rw [hyE_2 za zb]; exact zb)]
    try rfl
 have zb:=c2
 refine W_seq_skip (W_seq_seq (W_r (R_mv rfl (R_len rfl (R_gtr rfl rfl (R_e ?_))))))
 refine W_seq_if rfl (fun c3=>?_) fun c3=>?_
 ·
  have zc:0 < (mxW (qra l o)).length:=by have q:=c3; rw [if_pos (show sfE l o=0 by omega)] at q; omega
  refine W_seq_seq (W_r (R_build rfl rfl (R_sk rfl rfl rfl rfl rfl rfl rfl rfl rfl (R_mv rfl (R_e (W_seq_ret ?_))))))
  refine RetC_2 (resV_c (u:=(V.agg [(iV (0:Int)),(iV (0:Int)),V.nilsl,V.nilsl,V.nilsl])) rfl (@rfl Blk (bk 1 48 5 [[(iV (0:Int)),(iV (0:Int)),V.nilsl,V.nilsl,V.nilsl]])) (lB oB rfl rfl)) (resV_t (@rfl V (iV (12:Int)))) (fz_agg5 (fz_int ?_) (fz_int ?_) (fz_nil ?_) (fz_nil ?_) (fz_nil ?_)) (fz_int ?_)
  · try rw [hyE_3 za zb zc]
    try rw [hyR_no (by rw [hyE_3 za zb zc]; decide)]
    try rfl
  · try rw [hyE_3 za zb zc]
    try rw [hyR_no (by rw [hyE_3 za zb zc]; decide)]
    try rfl
  · try rw [hyE_3 za zb zc]
    try rw [hyR_no (by rw [hyE_3 za zb zc]; decide)]
    try rfl
  · try rw [hyE_3 za zb zc]
    try rw [hyR_no (by rw [hyE_3 za zb zc]; decide)]
    try rfl
  · try rw [hyE_3 za zb zc]
    try rw [hyR_no (by rw [hyE_3 za zb zc]; decide)]
    try rfl
  · try rw [hyE_3 za zb zc]
    try rw [hyR_no (by rw [hyE_3 za zb zc]; decide)]
    try rfl
 have zc: ¬0 < (mxW (qra l o)).length:=by have q:=c3; rw [if_pos (show sfE l o=0 by omega)] at q; omega
 refine W_seq_skip (W_r (R_fk rfl rfl (R_lk rfl rfl rfl rfl (R_callk (raccess_pure l.t hb) rfl (R_callk (rsorted_pure (acL l.t.nd) (by omega) (ac_len hb)) rfl (R_mv rfl (R_e ?_)))))))
 refine W_r (R_fk rfl rfl (R_lk rfl rfl rfl rfl (R_build rfl rfl (R_build rfl rfl (R_alloc (i:=10) (n:=0) (m:=5) rfl (congrArg Blk.ver rfl) rfl (R_sk rfl rfl rfl rfl rfl rfl rfl rfl rfl (R_e ?_)))))))
 refine W_seq_seq ?_
 refine W_seq_g (fun T H=>T 2=(V.mp 2 1 0 0)∧T 3=(V.mp 3 1 0 0)∧T 4=(V.mp 4 1 0 0)∧T 9=(intss (sdW (acL l.t.nd)))∧T 10=(V.mp 10 1 0 0)∧T 11=(iV (0:Int))∧H 2=(bk 1 26 2 [[(iV (l.i)),(V.sl (List.map cN (l.t.nd)))]])∧H 3=(bk 1 29 2 [[(iV (o.i)),(V.sl (List.map cT (o.tr)))]])∧H 4=(bk 1 48 5 [[(iV (0:Int)),(iV (0:Int)),V.nilsl,V.nilsl,V.nilsl]])∧H 10=(bk 1 48 5 [[(iV (l.i)),(iV (0:Int)),V.nilsl,V.nilsl,V.nilsl]])∧H 12=(⟨0,false,false,0,0,[]⟩:Blk)∧H 13=(⟨0,false,false,0,0,[]⟩:Blk)∧H 812=(⟨0,false,false,0,0,[]⟩:Blk)∧H 813=(⟨0,false,false,0,0,[]⟩:Blk)∧H 814=(⟨0,false,false,0,0,[]⟩:Blk)∧True) ?_ ?_
 ·
  refine R_mv rfl ?_
  exact R_nil ⟨rfl,rfl,rfl,rfl,rfl,rfl,rfl,rfl,rfl,rfl,rfl,rfl,rfl,rfl,rfl,trivial⟩
 intro T H ⟨t2,t3,t4,t9,t10,t11,h2,h3,h4,h10,h12,h13,h812,h813,h814,_⟩
 refine .lazyCell 812 54 1 10 0 2 [(iV (l.i)),(iV (0:Int)),V.nilsl,V.nilsl,V.nilsl] (by decide) (by rw [h10]; rfl) (by rw [h10]; rfl) rfl (fork_ (R:=fun T H=>T 2=(V.mp 2 1 0 0)∧T 3=(V.mp 3 1 0 0)∧T 4=(V.mp 4 1 0 0)∧T 9=(intss (sdW (acL l.t.nd)))∧T 10=(V.mp 10 1 0 0)∧T 11=(iV (0:Int))∧H 2=(bk 1 26 2 [[(iV (l.i)),(V.sl (List.map cN (l.t.nd)))]])∧H 3=(bk 1 29 2 [[(iV (o.i)),(V.sl (List.map cT (o.tr)))]])∧H 4=(bk 1 48 5 [[(iV (0:Int)),(iV (0:Int)),V.nilsl,V.nilsl,V.nilsl]])∧H 10=(bk 1 48 5 [[(iV (l.i)),(iV (0:Int)),(V.ms 812 1 0 (0)),V.nilsl,V.nilsl]])∧H 12=(⟨0,false,false,0,0,[]⟩:Blk)∧H 13=(⟨0,false,false,0,0,[]⟩:Blk)∧H 812=(bz 1 54 1 [])∧H 813=(⟨0,false,false,0,0,[]⟩:Blk)∧H 814=(⟨0,false,false,0,0,[]⟩:Blk)∧True) ⟨t2,t3,t4,t9,t10,t11,((upd_ne _ _ (by decide)).trans ((upd_ne _ _ (by decide)).trans h2)),((upd_ne _ _ (by decide)).trans ((upd_ne _ _ (by decide)).trans h3)),((upd_ne _ _ (by decide)).trans ((upd_ne _ _ (by decide)).trans h4)),(by rw [upd_same,h10,(congrArg Blk.ver h812)]; rfl),((upd_ne _ _ (by decide)).trans ((upd_ne _ _ (by decide)).trans h12)),((upd_ne _ _ (by decide)).trans ((upd_ne _ _ (by decide)).trans h13)),(by rw [upd_ne _ _ (by decide),upd_same,(congrArg Blk.ver h812)]),((upd_ne _ _ (by decide)).trans ((upd_ne _ _ (by decide)).trans h813)),((upd_ne _ _ (by decide)).trans ((upd_ne _ _ (by decide)).trans h814)),trivial⟩ ?_)
 intro T H ⟨t2,t3,t4,t9,t10,t11,h2,h3,h4,h10,h12,h13,h812,h813,h814,_⟩
 refine .lazyCell 813 54 1 10 0 3 [(iV (l.i)),(iV (0:Int)),(V.ms 812 1 0 (0)),V.nilsl,V.nilsl] (by decide) (by rw [h10]; rfl) (by rw [h10]; rfl) rfl (fork_ (R:=fun T H=>T 2=(V.mp 2 1 0 0)∧T 3=(V.mp 3 1 0 0)∧T 4=(V.mp 4 1 0 0)∧T 9=(intss (sdW (acL l.t.nd)))∧T 10=(V.mp 10 1 0 0)∧T 11=(iV (0:Int))∧H 2=(bk 1 26 2 [[(iV (l.i)),(V.sl (List.map cN (l.t.nd)))]])∧H 3=(bk 1 29 2 [[(iV (o.i)),(V.sl (List.map cT (o.tr)))]])∧H 4=(bk 1 48 5 [[(iV (0:Int)),(iV (0:Int)),V.nilsl,V.nilsl,V.nilsl]])∧H 10=(bk 1 48 5 [[(iV (l.i)),(iV (0:Int)),(V.ms 812 1 0 (0)),(V.ms 813 1 0 (0)),V.nilsl]])∧H 12=(⟨0,false,false,0,0,[]⟩:Blk)∧H 13=(⟨0,false,false,0,0,[]⟩:Blk)∧H 812=(bz 1 54 1 [])∧H 813=(bz 1 54 1 [])∧H 814=(⟨0,false,false,0,0,[]⟩:Blk)∧True) ⟨t2,t3,t4,t9,t10,t11,((upd_ne _ _ (by decide)).trans ((upd_ne _ _ (by decide)).trans h2)),((upd_ne _ _ (by decide)).trans ((upd_ne _ _ (by decide)).trans h3)),((upd_ne _ _ (by decide)).trans ((upd_ne _ _ (by decide)).trans h4)),(by rw [upd_same,h10,(congrArg Blk.ver h813)]; rfl),((upd_ne _ _ (by decide)).trans ((upd_ne _ _ (by decide)).trans h12)),((upd_ne _ _ (by decide)).trans ((upd_ne _ _ (by decide)).trans h13)),((upd_ne _ _ (by decide)).trans ((upd_ne _ _ (by decide)).trans h812)),(by rw [upd_ne _ _ (by decide),upd_same,(congrArg Blk.ver h813)]),((upd_ne _ _ (by decide)).trans ((upd_ne _ _ (by decide)).trans h814)),trivial⟩ ?_)
 intro T H ⟨t2,t3,t4,t9,t10,t11,h2,h3,h4,h10,h12,h13,h812,h813,h814,_⟩
 refine .lazyCell 814 54 1 10 0 4 [(iV (l.i)),(iV (0:Int)),(V.ms 812 1 0 (0)),(V.ms 813 1 0 (0)),V.nilsl] (by decide) (by rw [h10]; rfl) (by rw [h10]; rfl) rfl (.done ?_)
 refine fork_ (R:=fun T H=>T 2=(V.mp 2 1 0 0)∧T 3=(V.mp 3 1 0 0)∧T 4=(V.mp 4 1 0 0)∧T 9=(intss (sdW (acL l.t.nd)))∧T 10=(V.mp 10 1 0 0)∧T 11=(iV (0:Int))∧H 2=(bk 1 26 2 [[(iV (l.i)),(V.sl (List.map cN (l.t.nd)))]])∧H 3=(bk 1 29 2 [[(iV (o.i)),(V.sl (List.map cT (o.tr)))]])∧H 4=(bk 1 48 5 [[(iV (0:Int)),(iV (0:Int)),V.nilsl,V.nilsl,V.nilsl]])∧H 10=(bk 1 48 5 [[(iV (l.i)),(iV (0:Int)),(V.ms 812 1 0 (0)),(V.ms 813 1 0 (0)),(V.ms 814 1 0 (0))]])∧H 12=(⟨0,false,false,0,0,[]⟩:Blk)∧H 13=(⟨0,false,false,0,0,[]⟩:Blk)∧H 812=(bz 1 54 1 [])∧H 813=(bz 1 54 1 [])∧H 814=(bz 1 54 1 [])∧True) ⟨t2,t3,t4,t9,t10,t11,((upd_ne _ _ (by decide)).trans ((upd_ne _ _ (by decide)).trans h2)),((upd_ne _ _ (by decide)).trans ((upd_ne _ _ (by decide)).trans h3)),((upd_ne _ _ (by decide)).trans ((upd_ne _ _ (by decide)).trans h4)),(by rw [upd_same,h10,(congrArg Blk.ver h814)]; rfl),((upd_ne _ _ (by decide)).trans ((upd_ne _ _ (by decide)).trans h12)),((upd_ne _ _ (by decide)).trans ((upd_ne _ _ (by decide)).trans h13)),((upd_ne _ _ (by decide)).trans ((upd_ne _ _ (by decide)).trans h812)),((upd_ne _ _ (by decide)).trans ((upd_ne _ _ (by decide)).trans h813)),(by rw [upd_ne _ _ (by decide),upd_same,(congrArg Blk.ver h814)]),trivial⟩ ?_
 intro T H ⟨t2,t3,t4,t9,t10,t11,h2,h3,h4,h10,h12,h13,h812,h813,h814,_⟩
 refine W_seq_blockg fun Q4 n4 x4 y4 z4=>?_
 refine W_loop (fun mm T H=> ∃ (k:Nat) (v:Nat) (w:Nat) (u:Nat) (v12:Nat) (v13:Nat),mm=(lvs l.t).length - k∧T 2=(V.mp 2 1 0 0)∧T 3=(V.mp 3 1 0 0)∧T 4=(V.mp 4 1 0 0)∧T 9=(intss (lvs l.t))∧T 10=(V.mp 10 1 0 0)∧T 11=(iV ((k:Nat):Int))∧H 2=(bk 1 26 2 [[(iV (l.i)),(V.sl (List.map cN (l.t.nd)))]])∧H 3=(bk 1 29 2 [[(iV (o.i)),(V.sl (List.map cT (o.tr)))]])∧H 4=(bk 1 48 5 [[(iV (0:Int)),(iV (0:Int)),V.nilsl,V.nilsl,V.nilsl]])∧H 10=(bk 1 48 5 [[(iV (l.i)),(iV (0:Int)),(V.ms 812 v 0 (k)),(V.ms 813 w 0 (k)),(V.ms 814 u 0 (k))]])∧((H 12).ver=v12∧(H 12).live=false)∧((H 13).ver=v13∧(H 13).live=false)∧H 812=(bz v 54 1 (List.map cL (tbl (hyRow (hyN l o) l.i.toNat) k)))∧H 813=(bz w 54 1 (List.map cL (tbl (hyRow (hyO l o) l.i.toNat) k)))∧H 814=(bz u 54 1 (List.map cL ((lvs l.t).take k)))∧(k≤(lvs l.t).length)∧(tsN l o=fi (inx l o) (k*l.i.toNat) ((exs l).length - k*l.i.toNat))) ?_ ?_
 ·
  refine ⟨_,0,1,1,1,0,0,rfl,t2,t3,t4,(Eq.trans t9 (by (rw [lvs_eq hv]; done))),t10,(Eq.trans t11 rfl),h2,h3,h4,h10,⟨(congrArg Blk.ver h12),congrArg Blk.live h12⟩,⟨(congrArg Blk.ver h13),congrArg Blk.live h13⟩,(Eq.trans h812 (by rfl)),(Eq.trans h813 (by rfl)),(Eq.trans h814 (by rfl)),?_,?_⟩
  · omega
  · simp [tsN]
 intro mm T H ⟨k,v,w,u,v12,v13,hmm,t2,t3,t4,t9,t10,t11,h2,h3,h4,h10,h12,h13,h812,h813,h814,hk,hc⟩ Q5 p15 p25 p35
 unfold b19_0
 refine W_seq_seq (W_r (R_mv t11 (R_mv t9 (R_len rfl (R_lss rfl rfl (R_e ?_))))))
 refine W_seq_if rfl (fun c6=>?_) fun c6=>?_
 ·
  have hM1:=mulc (show (0:Int)≤l.i by omega) k
  have hM2:=mulc (show (0:Int)≤l.i by omega) (k+1)
  have hM3:(k+1)*l.i.toNat=k*l.i.toNat+l.i.toNat:=Nat.succ_mul _ _
  have hM4:(k+1)*l.i.toNat≤(lvs l.t).length*l.i.toNat:=Nat.mul_le_mul_right _ (by omega)
  have r2:=(lvs_word ht.1 (nth_mem (show k < (lvs l.t).length by omega))).1
  refine W_seq_skip (W_seq_blockg fun Q7 n7 x7 y7 z7=>(W_r (R_lazy (i:=12) (n:=v12) rfl (h12).1 (R_lazy (i:=13) (n:=v13) rfl (h13).1 (R_e (W_seq_seq (W_r ?_)))))))
  refine R_mv rfl (R_e (W_seq_blockg fun Q8 n8 x8 y8 z8=>?_))
  refine W_loop (fun mm T H=> ∃ (j:Nat) (v2:Nat) (w2:Nat),mm=l.i.toNat - j∧T 2=(V.mp 2 1 0 0)∧T 3=(V.mp 3 1 0 0)∧T 4=(V.mp 4 1 0 0)∧T 9=(intss (lvs l.t))∧T 10=(V.mp 10 1 0 0)∧T 11=(iV ((k:Nat):Int))∧T 12=(V.ms 12 v2 0 (j))∧T 13=(V.ms 13 w2 0 (j))∧T 14=(iV ((j:Nat):Int))∧H 2=(bk 1 26 2 [[(iV (l.i)),(V.sl (List.map cN (l.t.nd)))]])∧H 3=(bk 1 29 2 [[(iV (o.i)),(V.sl (List.map cT (o.tr)))]])∧H 4=(bk 1 48 5 [[(iV (0:Int)),(iV (0:Int)),V.nilsl,V.nilsl,V.nilsl]])∧H 10=(bk 1 48 5 [[(iV (l.i)),(iV (0:Int)),(V.ms 812 v 0 (k)),(V.ms 813 w 0 (k)),(V.ms 814 u 0 (k))]])∧H 12=(bz v2 3 1 (List.map cI (tbl (fun a=>hyN l o (k*l.i.toNat+a)) j)))∧H 13=(bz w2 3 1 (List.map cI (tbl (fun a=>hyO l o (k*l.i.toNat+a)) j)))∧H 812=(bz v 54 1 (List.map cL (tbl (hyRow (hyN l o) l.i.toNat) k)))∧H 813=(bz w 54 1 (List.map cL (tbl (hyRow (hyO l o) l.i.toNat) k)))∧H 814=(bz u 54 1 (List.map cL ((lvs l.t).take k)))∧(j≤l.i.toNat)∧(tsN l o=fi (inx l o) (k*l.i.toNat+j) ((exs l).length - (k*l.i.toNat+j)))) ?_ ?_
  ·
   refine ⟨_,0,(v12+1),(v13+1),rfl,t2,t3,t4,t9,t10,t11,(Eq.trans (@rfl V (V.ms 12 (v12+1) 0 (0))) (by rfl)),(Eq.trans (@rfl V (V.ms 13 (v13+1) 0 (0))) (by rfl)),(Eq.trans (@rfl V (iV (0:Int))) rfl),h2,h3,h4,h10,(Eq.trans (@rfl Blk (bz (v12+1) 3 1 [])) (by rfl)),(Eq.trans (@rfl Blk (bz (v13+1) 3 1 [])) (by rfl)),h812,h813,h814,?_,?_⟩
   · omega
   · exact hc
  intro mm T H ⟨j,v2,w2,hmm,t2,t3,t4,t9,t10,t11,t12,t13,t14,h2,h3,h4,h10,h12,h13,h812,h813,h814,hj,hc2⟩ Q9 p19 p29 p39
  unfold b19_1
  refine W_seq_seq (W_r (R_mv t14 (R_fk t2 h2 (R_lk rfl h2 rfl rfl (R_lss rfl rfl (R_e ?_))))))
  refine W_seq_if rfl (fun c10=>?_) fun c10=>?_
  ·
   have hnd:=st_node za zb zc (show k*l.i.toNat+j < (exs l).length by omega)
   have hkn:=qra_known zc (show k*l.i.toNat+j < (exs l).length by omega)
   have r1:=exs_word ht.1 (nth_mem (show k*l.i.toNat+j < (exs l).length by omega))
   have d10:=hyO_one ho r1.2.1 hkn
   have d8:=ex_split (l:=l) (show k < (lvs l.t).length by omega) (show j < l.i.toNat by omega)
   have d7:=ex_cat l (k*l.i.toNat+j)
   rw [d8.1,d8.2] at d7 d10
   refine W_seq_skip (W_seq_blockg fun Q11 n11 x11 y11 z11=>(W_r (R_fk t2 h2 (R_lk rfl h2 rfl rfl (R_lk t3 h3 rfl rfl (R_mv t9 (R_mv t11 ?_)))))))
   refine R_idx (i:=k) (@rfl V (intss (lvs l.t))) (@rfl V (iV ((k:Nat):Int))) (by omega) rfl (R_load_pp rfl rfl (R_mv t14 (R_bslice rfl rfl (R_bslice rfl rfl (R_callc (evcons rfl evnil) ((by have q:=join_pure [nth (lvs l.t) k,[(j:Int)]] (by simp only [cat,List.append_nil,List.length_append,List.length_cons,List.length_nil]; omega); rw [d7] at q; exact q)) (R_callk (rsift_pure l.t o (nth (exs l) (k*l.i.toNat+j)) hb ho (by omega)) rfl (R_mv rfl ?_)))))))
   refine R_ext rfl rfl (R_ext rfl rfl (R_ext rfl rfl (R_mv rfl (R_mv rfl (R_mv rfl (R_e (W_seq_seq ?_)))))))
   refine W_r (R_fk t2 h2 (R_fk rfl h2 (R_lk rfl h2 rfl rfl (R_mv rfl (R_idxI (i:=((sftR l.t o (nth (exs l) (k*l.i.toNat+j))).1)) (@rfl V (V.sl (List.map cN (l.t.nd)))) (@rfl V (iV ((sftR l.t o (nth (exs l) (k*l.i.toNat+j))).1))) (by omega) (by omega) rfl (R_fld_pp (cs':=(cN (((nth (l.t.nd) ((sftR l.t o (nth (exs l) (k*l.i.toNat+j))).1).toNat))))) rfl rfl (R_load_pp rfl rfl ?_)))))))
   refine R_notb rfl (R_e ?_)
   refine W_seq_ifb rfl (fun c12=>?_) (fun c12=>?_)
   ·
    have d0:(nth l.t.nd (sftR l.t o (nth (exs l) (k*l.i.toNat+j))).1.toNat).lf=false:=by simpa using c12
    have d1:inx l o (k*l.i.toNat+j)=true:=by unfold inx; simpa using d0
    have zd:0≤tsN l o:=by rw [hc2,fi_hit (p:=inx l o) d1 (by omega)]; omega
    refine W_seq_seq (W_r (R_build rfl rfl (R_sk t4 rfl rfl h4 rfl rfl rfl rfl rfl (R_mv rfl (R_e (W_seq_ret (y11 _ _ ?_)))))))
    refine p29 _ _ (y8 _ _ (y7 _ _ (p25 _ _ (y4 _ _ ?_))))
    refine RetC_2 (resV_c (u:=(V.agg [(iV (0:Int)),(iV (0:Int)),V.nilsl,V.nilsl,V.nilsl])) t4 (@rfl Blk (bk 1 48 5 [[(iV (0:Int)),(iV (0:Int)),V.nilsl,V.nilsl,V.nilsl]])) (lB oB rfl rfl)) (resV_t (@rfl V (iV (10:Int)))) (fz_agg5 (fz_int ?_) (fz_int ?_) (fz_nil ?_) (fz_nil ?_) (fz_nil ?_)) (fz_int ?_)
    · try rw [hyE_4 za zb zc zd]
      try rw [hyR_no (by rw [hyE_4 za zb zc zd]; decide)]
      try rfl
    · try rw [hyE_4 za zb zc zd]
      try rw [hyR_no (by rw [hyE_4 za zb zc zd]; decide)]
      try rfl
    · try rw [hyE_4 za zb zc zd]
      try rw [hyR_no (by rw [hyE_4 za zb zc zd]; decide)]
      try rfl
    · try rw [hyE_4 za zb zc zd]
      try rw [hyR_no (by rw [hyE_4 za zb zc zd]; decide)]
      try rfl
    · try rw [hyE_4 za zb zc zd]
      try rw [hyR_no (by rw [hyE_4 za zb zc zd]; decide)]
      try rfl
    · try rw [hyE_4 za zb zc zd]
      try rw [hyR_no (by rw [hyE_4 za zb zc zd]; decide)]
      try rfl
   have d5:(nth l.t.nd (sftR l.t o (nth (exs l) (k*l.i.toNat+j))).1.toNat).lf=true:=by simpa using c12
   have d1:inx l o (k*l.i.toNat+j)=false:=by unfold inx; simpa using d5
   have d4:=hyN_rng (l:=l) (o:=o) (m:=k*l.i.toNat+j) hv (by omega) d5
   refine W_seq_skip ?_
   refine W_seq_regc (fun T H=>T 2=(V.mp 2 1 0 0)∧T 3=(V.mp 3 1 0 0)∧T 4=(V.mp 4 1 0 0)∧T 9=(intss (lvs l.t))∧T 10=(V.mp 10 1 0 0)∧T 11=(iV ((k:Nat):Int))∧T 12=(V.ms 12 v2 0 (j))∧T 13=(V.ms 13 w2 0 (j))∧T 14=(iV ((j:Nat):Int))∧T 15=(iV ((sftR l.t o (nth (exs l) (k*l.i.toNat+j))).1))∧T 18=(V.sl [[(iV (hyO l o (k*l.i.toNat+j)))]])∧H 2=(bk 1 26 2 [[(iV (l.i)),(V.sl (List.map cN (l.t.nd)))]])∧H 3=(bk 1 29 2 [[(iV (o.i)),(V.sl (List.map cT (o.tr)))]])∧H 4=(bk 1 48 5 [[(iV (0:Int)),(iV (0:Int)),V.nilsl,V.nilsl,V.nilsl]])∧H 10=(bk 1 48 5 [[(iV (l.i)),(iV (0:Int)),(V.ms 812 v 0 (k)),(V.ms 813 w 0 (k)),(V.ms 814 u 0 (k))]])∧H 12=(bz v2 3 1 (List.map cI (tbl (fun a=>hyN l o (k*l.i.toNat+a)) j)))∧H 13=(bz w2 3 1 (List.map cI (tbl (fun a=>hyO l o (k*l.i.toNat+a)) j)))∧H 812=(bz v 54 1 (List.map cL (tbl (hyRow (hyN l o) l.i.toNat) k)))∧H 813=(bz w 54 1 (List.map cL (tbl (hyRow (hyO l o) l.i.toNat) k)))∧H 814=(bz u 54 1 (List.map cL ((lvs l.t).take k)))∧True) ?_ ?_
   ·
    refine R_lk t3 h3 rfl rfl (R_mv t9 (R_mv t11 (R_idx (i:=k) (@rfl V (intss (lvs l.t))) (@rfl V (iV ((k:Nat):Int))) (by omega) rfl (R_load_pp rfl rfl (R_mv t14 (R_bslice rfl rfl (R_callc (evcons rfl (evcons rfl (evcons rfl evnil))) ((show PureC Tryz.prog 55 [(V.agg [(iV (o.i)),(V.sl (List.map cT (o.tr)))]),(ints ((nth (lvs l.t) (k)))),(V.sl [[(iV ((j:Nat):Int))]])] (V.tup [V.sl [[iV (hyO l o (k*l.i.toNat+j))]],V.bool true]) from by have q:=rbehind27_pure o (nth (lvs l.t) k) [(j:Int)] ho (by omega) (by simp); rw [d10,d7,hkn] at q; exact q)) ?_)))))))
    refine R_mv rfl (R_ext rfl rfl (R_ext rfl rfl (R_mv rfl (R_mv rfl ?_))))
    exact R_nil ⟨t2,t3,t4,t9,t10,t11,t12,t13,t14,rfl,rfl,h2,h3,h4,h10,h12,h13,h812,h813,h814,trivial⟩
   intro T H ⟨t2,t3,t4,t9,t10,t11,t12,t13,t14,t15,t18,h2,h3,h4,h10,h12,h13,h812,h813,h814,_⟩
   refine W_r (R_mv t12 (R_mv t9 (R_fk t2 h2 (R_fk rfl h2 (R_lk rfl h2 rfl rfl (R_mv t15 (R_idxI (i:=((sftR l.t o (nth (exs l) (k*l.i.toNat+j))).1)) (@rfl V (V.sl (List.map cN (l.t.nd)))) (@rfl V (iV ((sftR l.t o (nth (exs l) (k*l.i.toNat+j))).1))) (by omega) (by omega) rfl ?_)))))))
   refine R_fld_pp (cs':=(List.drop 1 (cN (((nth (l.t.nd) ((sftR l.t o (nth (exs l) (k*l.i.toNat+j))).1).toNat)))))) rfl rfl (R_load_pp rfl rfl (R_callk (rplace27_pure (lvs l.t) (((nth (l.t.nd) ((sftR l.t o (nth (exs l) (k*l.i.toNat+j))).1).toNat)).ac) d4) rfl (R_bslice rfl rfl (R_append1 (l:=(tbl (fun a=>hyN l o (k*l.i.toNat+a)) j)) (f:=cI) (x:=((plI (lvs l.t) (((nth (l.t.nd) ((sftR l.t o (nth (exs l) (k*l.i.toNat+j))).1).toNat)).ac)))) (@rfl V (V.ms 12 v2 0 (j))) h12 (by exact (tbl_len _ _).symm) (@rfl V (V.sl [[(iV (plI (lvs l.t) (((nth (l.t.nd) ((sftR l.t o (nth (exs l) (k*l.i.toNat+j))).1).toNat)).ac)))]])) rfl rfl (by omega) (by omega) (R_mv rfl (R_e (W_t ?_)))))))
   refine R_mv t13 (R_mv t18 (R_idx_lit (row:=[(iV (hyO l o (k*l.i.toNat+j)))]) (@rfl V (V.sl [[(iV (hyO l o (k*l.i.toNat+j)))]])) (@rfl V (iV (0:Int))) rfl rfl (R_load_pp rfl rfl (R_bslice rfl rfl (R_append1 (l:=(tbl (fun a=>hyO l o (k*l.i.toNat+a)) j)) (f:=cI) (x:=((hyO l o (k*l.i.toNat+j)))) (@rfl V (V.ms 13 w2 0 (j))) h13 (by exact (tbl_len _ _).symm) (@rfl V (V.sl [[(iV (hyO l o (k*l.i.toNat+j)))]])) rfl rfl (by omega) (by omega) (R_mv rfl (R_e ?_)))))))
   refine n11 _ _ (.done (W_t (R_mv t14 (R_addN rfl (@rfl V (iV ((1:Nat):Int))) (by omega) (R_mv rfl (R_e ?_))))))
   refine p19 _ _ _ ?_ ⟨(j+1),(v2+1),(w2+1),rfl,t2,t3,t4,t9,t10,t11,(Eq.trans (@rfl V (V.ms 12 (v2+1) 0 (j+1))) (by rfl)),(Eq.trans (@rfl V (V.ms 13 (w2+1) 0 (j+1))) (by rfl)),(Eq.trans (@rfl V (iV ((j+1:Nat):Int))) (by rfl)),h2,h3,h4,h10,(Eq.trans (@rfl Blk (bz (v2+1) 3 1 (List.map cI (tbl (fun a=>hyN l o (k*l.i.toNat+a)) j++[(plI (lvs l.t) (((nth (l.t.nd) ((sftR l.t o (nth (exs l) (k*l.i.toNat+j))).1).toNat)).ac))])))) (by (rw [tbl_succ]; first|done|rfl))),(Eq.trans (@rfl Blk (bz (w2+1) 3 1 (List.map cI (tbl (fun a=>hyO l o (k*l.i.toNat+a)) j++[(hyO l o (k*l.i.toNat+j))])))) (by (rw [tbl_succ]; first|done|rfl))),h812,h813,h814,?_,?_⟩
   · omega
   · omega
   · rw [hc2,fi_skip (p:=inx l o) d1 (by omega)]; rfl
  refine W_seq_exit (p39 _ _ _ (x8 _ _ (fork_ (R:=fun T H=>T 2=(V.mp 2 1 0 0)∧T 3=(V.mp 3 1 0 0)∧T 4=(V.mp 4 1 0 0)∧T 9=(intss (lvs l.t))∧T 10=(V.mp 10 1 0 0)∧T 11=(iV ((k:Nat):Int))∧T 12=(V.ms 12 v2 0 (j))∧T 13=(V.ms 13 w2 0 (j))∧T 14=(iV ((j:Nat):Int))∧T 58=(V.bool (decide (((j:Nat):Int) < (l.i))))∧H 2=(bk 1 26 2 [[(iV (l.i)),(V.sl (List.map cN (l.t.nd)))]])∧H 3=(bk 1 29 2 [[(iV (o.i)),(V.sl (List.map cT (o.tr)))]])∧H 4=(bk 1 48 5 [[(iV (0:Int)),(iV (0:Int)),V.nilsl,V.nilsl,V.nilsl]])∧H 10=(bk 1 48 5 [[(iV (l.i)),(iV (0:Int)),(V.ms 812 v 0 (k)),(V.ms 813 w 0 (k)),(V.ms 814 u 0 (k))]])∧H 12=(bz v2 3 1 (List.map cI (tbl (fun a=>hyN l o (k*l.i.toNat+a)) j)))∧H 13=(bz w2 3 1 (List.map cI (tbl (fun a=>hyO l o (k*l.i.toNat+a)) j)))∧H 812=(bz v 54 1 (List.map cL (tbl (hyRow (hyN l o) l.i.toNat) k)))∧H 813=(bz w 54 1 (List.map cL (tbl (hyRow (hyO l o) l.i.toNat) k)))∧H 814=(bz u 54 1 (List.map cL ((lvs l.t).take k)))∧True) ⟨t2,t3,t4,t9,t10,t11,t12,t13,t14,(@rfl V (V.bool (decide (((j:Nat):Int) < (l.i))))),h2,h3,h4,h10,h12,h13,h812,h813,h814,trivial⟩ ?_)))
  intro T H ⟨t2,t3,t4,t9,t10,t11,t12,t13,t14,t58,h2,h3,h4,h10,h12,h13,h812,h813,h814,_⟩
  refine .freeze 12 (.done ?_)
  refine fork_ (R:=fun T H=>T 2=(V.mp 2 1 0 0)∧T 3=(V.mp 3 1 0 0)∧T 4=(V.mp 4 1 0 0)∧T 9=(intss (lvs l.t))∧T 10=(V.mp 10 1 0 0)∧T 11=(iV ((k:Nat):Int))∧T 12=(ints (tbl (fun a=>hyN l o (k*l.i.toNat+a)) j))∧T 13=(V.ms 13 w2 0 (j))∧T 14=(iV ((j:Nat):Int))∧T 58=(V.bool (decide (((j:Nat):Int) < (l.i))))∧H 2=(bk 1 26 2 [[(iV (l.i)),(V.sl (List.map cN (l.t.nd)))]])∧H 3=(bk 1 29 2 [[(iV (o.i)),(V.sl (List.map cT (o.tr)))]])∧H 4=(bk 1 48 5 [[(iV (0:Int)),(iV (0:Int)),V.nilsl,V.nilsl,V.nilsl]])∧H 10=(bk 1 48 5 [[(iV (l.i)),(iV (0:Int)),(V.ms 812 v 0 (k)),(V.ms 813 w 0 (k)),(V.ms 814 u 0 (k))]])∧((H 12).ver=v2∧(H 12).live=false)∧H 13=(bz w2 3 1 (List.map cI (tbl (fun a=>hyO l o (k*l.i.toNat+a)) j)))∧H 812=(bz v 54 1 (List.map cL (tbl (hyRow (hyN l o) l.i.toNat) k)))∧H 813=(bz w 54 1 (List.map cL (tbl (hyRow (hyO l o) l.i.toNat) k)))∧H 814=(bz u 54 1 (List.map cL ((lvs l.t).take k)))∧True) ⟨(fzT_q t2 rfl),(fzT_q t3 rfl),(fzT_q t4 rfl),(fzT_q t9 rfl),(fzT_q t10 rfl),(fzT_q t11 rfl),(fzT_q t12 (fzq_own h12 (by simp) (l:=(tbl (fun a=>hyN l o (k*l.i.toNat+a)) j)) rfl (by exact (tbl_len _ _).symm))),(fzT_q t13 (fzq_other (by decide))),(fzT_q t14 rfl),(fzT_q t58 rfl),(kill_ne h2 (by decide)),(kill_ne h3 (by decide)),(kill_ne h4 (by decide)),(kill_ne h10 (by decide)),(kill_self (congrArg Blk.ver h12)),(kill_ne h13 (by decide)),(kill_ne h812 (by decide)),(kill_ne h813 (by decide)),(kill_ne h814 (by decide)),trivial⟩ ?_
  intro T H ⟨t2,t3,t4,t9,t10,t11,t12,t13,t14,t58,h2,h3,h4,h10,h12,h13,h812,h813,h814,_⟩
  refine W_seq_g (fun T H=>T 2=(V.mp 2 1 0 0)∧T 3=(V.mp 3 1 0 0)∧T 4=(V.mp 4 1 0 0)∧T 9=(intss (lvs l.t))∧T 10=(V.mp 10 1 0 0)∧T 11=(iV ((k:Nat):Int))∧T 13=(V.ms 13 w2 0 (j))∧H 2=(bk 1 26 2 [[(iV (l.i)),(V.sl (List.map cN (l.t.nd)))]])∧H 3=(bk 1 29 2 [[(iV (o.i)),(V.sl (List.map cT (o.tr)))]])∧H 4=(bk 1 48 5 [[(iV (0:Int)),(iV (0:Int)),V.nilsl,V.nilsl,V.nilsl]])∧H 10=(bk 1 48 5 [[(iV (l.i)),(iV (0:Int)),(V.ms 812 (v+1) 0 (k+1)),(V.ms 813 w 0 (k)),(V.ms 814 u 0 (k))]])∧((H 12).ver=v2∧(H 12).live=false)∧H 13=(bz w2 3 1 (List.map cI (tbl (fun a=>hyO l o (k*l.i.toNat+a)) j)))∧H 812=(bz (v+1) 54 1 (List.map cL (tbl (hyRow (hyN l o) l.i.toNat) k++[tbl (fun a=>hyN l o (k*l.i.toNat+a)) j])))∧H 813=(bz w 54 1 (List.map cL (tbl (hyRow (hyO l o) l.i.toNat) k)))∧H 814=(bz u 54 1 (List.map cL ((lvs l.t).take k)))∧True) ?_ ?_
  ·
   refine R_fk t10 h10 (R_fk rfl h10 (R_lk rfl h10 rfl rfl (R_mv t12 (R_bslice rfl rfl (R_append1 (l:=(tbl (hyRow (hyN l o) l.i.toNat) k)) (f:=cL) (x:=(tbl (fun a=>hyN l o (k*l.i.toNat+a)) j)) (@rfl V (V.ms 812 v 0 (k))) h812 (by exact (tbl_len _ _).symm) (@rfl V (V.sl [[(ints (tbl (fun a=>hyN l o (k*l.i.toNat+a)) j))]])) rfl rfl (by omega) (by omega) (R_fk t10 h10 (R_fk rfl h10 ?_)))))))
   refine R_sk rfl rfl rfl h10 rfl rfl rfl rfl rfl ?_
   exact R_nil ⟨t2,t3,t4,t9,t10,t11,t13,h2,h3,h4,rfl,h12,h13,rfl,h813,h814,trivial⟩
  intro T H ⟨t2,t3,t4,t9,t10,t11,t13,h2,h3,h4,h10,h12,h13,h812,h813,h814,_⟩
  refine .freeze 13 (.done ?_)
  refine fork_ (R:=fun T H=>T 2=(V.mp 2 1 0 0)∧T 3=(V.mp 3 1 0 0)∧T 4=(V.mp 4 1 0 0)∧T 9=(intss (lvs l.t))∧T 10=(V.mp 10 1 0 0)∧T 11=(iV ((k:Nat):Int))∧T 13=(ints (tbl (fun a=>hyO l o (k*l.i.toNat+a)) j))∧H 2=(bk 1 26 2 [[(iV (l.i)),(V.sl (List.map cN (l.t.nd)))]])∧H 3=(bk 1 29 2 [[(iV (o.i)),(V.sl (List.map cT (o.tr)))]])∧H 4=(bk 1 48 5 [[(iV (0:Int)),(iV (0:Int)),V.nilsl,V.nilsl,V.nilsl]])∧H 10=(bk 1 48 5 [[(iV (l.i)),(iV (0:Int)),(V.ms 812 (v+1) 0 (k+1)),(V.ms 813 w 0 (k)),(V.ms 814 u 0 (k))]])∧((H 12).ver=v2∧(H 12).live=false)∧((H 13).ver=w2∧(H 13).live=false)∧H 812=(bz (v+1) 54 1 (List.map cL (tbl (hyRow (hyN l o) l.i.toNat) k++[tbl (fun a=>hyN l o (k*l.i.toNat+a)) j])))∧H 813=(bz w 54 1 (List.map cL (tbl (hyRow (hyO l o) l.i.toNat) k)))∧H 814=(bz u 54 1 (List.map cL ((lvs l.t).take k)))∧True) ⟨(fzT_q t2 rfl),(fzT_q t3 rfl),(fzT_q t4 rfl),(fzT_q t9 rfl),(fzT_q t10 rfl),(fzT_q t11 rfl),(fzT_q t13 (fzq_own h13 (by simp) (l:=(tbl (fun a=>hyO l o (k*l.i.toNat+a)) j)) rfl (by exact (tbl_len _ _).symm))),(kill_ne h2 (by decide)),(kill_ne h3 (by decide)),(kill_ne h4 (by decide)),(kill_ne h10 (by decide)),(kill_dead h12),(kill_self (congrArg Blk.ver h13)),(kill_ne h812 (by decide)),(kill_ne h813 (by decide)),(kill_ne h814 (by decide)),trivial⟩ ?_
  intro T H ⟨t2,t3,t4,t9,t10,t11,t13,h2,h3,h4,h10,h12,h13,h812,h813,h814,_⟩
  refine W_r (R_fk t10 h10 (R_fk rfl h10 (R_lk rfl h10 rfl rfl (R_mv t13 (R_bslice rfl rfl (R_append1 (l:=(tbl (hyRow (hyO l o) l.i.toNat) k)) (f:=cL) (x:=(tbl (fun a=>hyO l o (k*l.i.toNat+a)) j)) (@rfl V (V.ms 813 w 0 (k))) h813 (by exact (tbl_len _ _).symm) (@rfl V (V.sl [[(ints (tbl (fun a=>hyO l o (k*l.i.toNat+a)) j))]])) rfl rfl (by omega) (by omega) (R_fk t10 h10 ?_)))))))
  refine R_fk rfl h10 (R_sk rfl rfl rfl h10 rfl rfl rfl rfl rfl (R_e (W_t (R_fk t10 rfl (R_lk rfl rfl rfl rfl (R_mv t9 (R_mv t11 ?_)))))))
  refine R_idx (i:=k) (@rfl V (intss (lvs l.t))) (@rfl V (iV ((k:Nat):Int))) (by omega) rfl (R_load_pp rfl rfl (R_bslice rfl rfl (R_callc (evcons rfl evnil) ((by have q:=join_pure [nth (lvs l.t) k] (by simp [cat]; omega); rw [cat1] at q; exact q)) (R_bslice rfl rfl (R_append1 (l:=((lvs l.t).take k)) (f:=cL) (x:=(nth (lvs l.t) k)) (@rfl V (V.ms 814 u 0 (k))) h814 (by (rw [List.length_take]; omega)) (@rfl V (V.sl [[(ints (nth (lvs l.t) k))]])) rfl rfl (by omega) (by omega) (R_fk t10 rfl (R_sk rfl rfl rfl rfl rfl rfl rfl rfl rfl ?_)))))))
  refine R_e (n7 _ _ (.done (W_t (R_mv t11 (R_addN rfl (@rfl V (iV ((1:Nat):Int))) (by omega) (R_mv rfl (R_e ?_)))))))
  refine p15 _ _ _ ?_ ⟨(k+1),(v+1),(w+1),(u+1),v2,w2,rfl,t2,t3,t4,t9,t10,(Eq.trans (@rfl V (iV ((k+1:Nat):Int))) (by rfl)),h2,h3,h4,(Eq.trans (@rfl Blk (bk 1 48 5 [[(iV (l.i)),(iV (0:Int)),(V.ms 812 (v+1) 0 (k+1)),(V.ms 813 (w+1) 0 (k+1)),(V.ms 814 (u+1) 0 (k+1))]])) (by rfl)),h12,h13,(Eq.trans h812 (by (rw [tbl_succ,show l.i.toNat=j by omega]; first|done|rfl))),(Eq.trans (@rfl Blk (bz (w+1) 54 1 (List.map cL (tbl (hyRow (hyO l o) l.i.toNat) k++[tbl (fun a=>hyO l o (k*l.i.toNat+a)) j])))) (by (rw [tbl_succ,show l.i.toNat=j by omega]; first|done|rfl))),(Eq.trans (@rfl Blk (bz (u+1) 54 1 (List.map cL ((lvs l.t).take k++[nth (lvs l.t) k])))) (by (rw [take_succ_nth (by omega)]; done))),?_,?_⟩
  · omega
  · omega
  · have e:(k+1)*l.i.toNat=k*l.i.toNat+j:=by omega
    rw [e]; exact hc2
 have zd: ¬0≤tsN l o:=by rw [hc,fi_end (by rw [hxl,show k=(lvs l.t).length by omega]; exact Nat.le_refl _)]; omega
 refine W_seq_exit (p35 _ _ _ (x4 _ _ (.done (W_seq_seq (W_r (R_lk t10 h10 rfl rfl (R_call (evcons (@rfl V (V.agg [(iV (l.i)),(iV (0:Int)),(V.ms 812 v 0 (k)),(V.ms 813 w 0 (k)),(V.ms 814 u 0 (k))])) evnil) (rhvalid_pure (⟨(⟨((l.i)),((0:Int)),(tbl (hyRow (hyN l o) l.i.toNat) k),(tbl (hyRow (hyO l o) l.i.toNat) k)⟩:M),((lvs l.t).take k)⟩:Hy)) (mcons (fz_aggL (mcons (fzv_canon 5 _ (by simp [-List.map_take,-List.map_drop,-List.map_append,-List.map_reverse])) (mcons (fzv_canon 5 _ (by simp [-List.map_take,-List.map_drop,-List.map_append,-List.map_reverse])) (mcons (fz_mst h812 (by simp) (take_map (l:=(tbl (hyRow (hyN l o) l.i.toNat) k)) (by exact (tbl_len _ _).symm)) (fun _=>by simp)) (mcons (fz_mst h813 (by simp) (take_map (l:=(tbl (hyRow (hyO l o) l.i.toNat) k)) (by exact (tbl_len _ _).symm)) (fun _=>by simp)) (mcons (fz_mst h814 (by simp) (take_map (l:=((lvs l.t).take k)) (by (rw [List.length_take]; omega))) (fun _=>by simp)) rfl)))))) rfl) (by simp [-List.map_take,-List.map_drop,-List.map_append,-List.map_reverse]) (Or.inr rfl) ?_)))))))
 refine R_neq rfl rfl (R_e ?_)
 refine W_seq_if rfl (fun c13=>?_) fun c13=>?_
 ·
  have ze:hval (hyH l o)≠0:=by have q:=c13; rw [show k=(lvs l.t).length by omega,List.take_length] at q; exact q
  refine W_seq_seq (W_r (R_build rfl rfl (R_sk t4 rfl rfl h4 rfl rfl rfl rfl rfl (R_mv rfl (R_e (W_seq_ret ?_))))))
  refine RetC_2 (resV_c (u:=(V.agg [(iV (0:Int)),(iV (0:Int)),V.nilsl,V.nilsl,V.nilsl])) t4 (@rfl Blk (bk 1 48 5 [[(iV (0:Int)),(iV (0:Int)),V.nilsl,V.nilsl,V.nilsl]])) (lB oB rfl rfl)) (resV_t (@rfl V (iV (15:Int)))) (fz_agg5 (fz_int ?_) (fz_int ?_) (fz_nil ?_) (fz_nil ?_) (fz_nil ?_)) (fz_int ?_)
  · try rw [hyE_5 za zb zc zd ze]
    try rw [hyR_no (by rw [hyE_5 za zb zc zd ze]; decide)]
    try rfl
  · try rw [hyE_5 za zb zc zd ze]
    try rw [hyR_no (by rw [hyE_5 za zb zc zd ze]; decide)]
    try rfl
  · try rw [hyE_5 za zb zc zd ze]
    try rw [hyR_no (by rw [hyE_5 za zb zc zd ze]; decide)]
    try rfl
  · try rw [hyE_5 za zb zc zd ze]
    try rw [hyR_no (by rw [hyE_5 za zb zc zd ze]; decide)]
    try rfl
  · try rw [hyE_5 za zb zc zd ze]
    try rw [hyR_no (by rw [hyE_5 za zb zc zd ze]; decide)]
    try rfl
  · try rw [hyE_5 za zb zc zd ze]
    try rw [hyR_no (by rw [hyE_5 za zb zc zd ze]; decide)]
    try rfl
 have ze: ¬hval (hyH l o)≠0:=by have q:=c13; rw [show k=(lvs l.t).length by omega,List.take_length] at q; exact q
 refine W_seq_skip (W_r (R_lk t10 h10 rfl rfl (R_sk t4 rfl rfl h4 rfl rfl rfl rfl rfl (R_mv rfl (R_e (W_ret ?_))))))
 refine RetC_2 (resV_c (u:=(V.agg [(iV (l.i)),(iV (0:Int)),(V.ms 812 v 0 (k)),(V.ms 813 w 0 (k)),(V.ms 814 u 0 (k))])) t4 (@rfl Blk (bk 1 48 5 [[(iV (l.i)),(iV (0:Int)),(V.ms 812 v 0 (k)),(V.ms 813 w 0 (k)),(V.ms 814 u 0 (k))]])) (lB oB rfl rfl)) (resV_t (@rfl V (iV (0:Int)))) (fz_agg5 (fz_int ?_) (fz_int ?_) (fz_ms h812 (by simp) (l:=(tbl (hyRow (hyN l o) l.i.toNat) k)) rfl (by exact (tbl_len _ _).symm) (fun _=>by simp) ?_) (fz_ms h813 (by simp) (l:=(tbl (hyRow (hyO l o) l.i.toNat) k)) rfl (by exact (tbl_len _ _).symm) (fun _=>by simp) ?_) (fz_ms h814 (by simp) (l:=((lvs l.t).take k)) rfl (by (rw [List.length_take]; omega)) (fun _=>by simp) ?_)) (fz_int ?_)
 · try rw [hyE_6 za zb zc zd ze]
   try rw [hyR_yes (by rw [hyE_6 za zb zc zd ze])]
   try first|rfl|(rw [show k=(lvs l.t).length by omega]; rfl)|(rw [show k=(lvs l.t).length by omega,List.take_length]; rfl)
 · try rw [hyE_6 za zb zc zd ze]
   try rw [hyR_yes (by rw [hyE_6 za zb zc zd ze])]
   try first|rfl|(rw [show k=(lvs l.t).length by omega]; rfl)|(rw [show k=(lvs l.t).length by omega,List.take_length]; rfl)
 · try rw [hyE_6 za zb zc zd ze]
   try rw [hyR_yes (by rw [hyE_6 za zb zc zd ze])]
   try first|rfl|(rw [show k=(lvs l.t).length by omega]; rfl)|(rw [show k=(lvs l.t).length by omega,List.take_length]; rfl)
 · try rw [hyE_6 za zb zc zd ze]
   try rw [hyR_yes (by rw [hyE_6 za zb zc zd ze])]
   try first|rfl|(rw [show k=(lvs l.t).length by omega]; rfl)|(rw [show k=(lvs l.t).length by omega,List.take_length]; rfl)
 · try rw [hyE_6 za zb zc zd ze]
   try rw [hyR_yes (by rw [hyE_6 za zb zc zd ze])]
   try first|rfl|(rw [show k=(lvs l.t).length by omega]; rfl)|(rw [show k=(lvs l.t).length by omega,List.take_length]; rfl)
 · try rw [hyE_6 za zb zc zd ze]
   try rw [hyR_yes (by rw [hyE_6 za zb zc zd ze])]
   try first|rfl|(rw [show k=(lvs l.t).length by omega]; rfl)|(rw [show k=(lvs l.t).length by omega,List.take_length]; rfl)
def r20_1:List SO:=[
 qF 5 0 2,
 qL 6 4 5,
 qF 7 0 3,
 qL 8 4 7,
 sO 9 (.call false 66 [.t 6,.t 8]),
 qM 10 9,
 ⟨some (10,true),some 11,.fld 4 (.t 2)⟩,
 ⟨some (10,true),some 12,.load false 1 (.t 11)⟩,
 ⟨some (10,true),some 13,.fld 4 (.t 3)⟩,
 ⟨some (10,true),some 14,.load false 1 (.t 13)⟩,
 ⟨some (10,true),some 15,.call false 67 [.t 12,.t 14]⟩,
 sO 16 (.pick (.t 10) (.t 15) (.c (.bool false))),
 qM 4 16]
def s20:SF:=⟨17,[.tmp 4],.seq (.reg [sO 2 (.box 48 5 (.t 0)),sO 3 (.box 48 5 (.t 1)),sO 4 (.mv (.c (.bool false)))]) (.seq (.reg r20_1) (.ret))⟩
theorem s20_ok:slimF Tryz.prog ⟨[107,108,109,116,120,126,127,167,169,170,171,172,194,196,198,209,222,226],[]⟩ Tryz.f20=some s20:=by kernel_rfl
def r66_1:List SO:=[
 qF 5 0 2,
 ql 6 5,
 qF 7 0 3,
 ql 8 7,
 qP 9 .eql 6 8,
 qM 10 9,
 ⟨some (10,true),some 11,.fld 1 (.t 2)⟩,
 ⟨some (10,true),some 12,.load false 1 (.t 11)⟩,
 ⟨some (10,true),some 13,.fld 1 (.t 3)⟩,
 ⟨some (10,true),some 14,.load false 1 (.t 13)⟩,
 ⟨some (10,true),some 15,.bin .eql (.t 12) (.t 14)⟩,
 sO 16 (.pick (.t 10) (.t 15) (.c (.bool false))),
 qM 17 16,
 ⟨some (17,true),some 18,.fld 2 (.t 2)⟩,
 ⟨some (17,true),some 19,.load false 1 (.t 18)⟩,
 ⟨some (17,true),some 20,.fld 2 (.t 3)⟩,
 ⟨some (17,true),some 21,.load false 1 (.t 20)⟩,
 ⟨some (17,true),some 22,.call false 67 [.t 19,.t 21]⟩,
 sO 23 (.pick (.t 17) (.t 22) (.c (.bool false))),
 qM 24 23,
 ⟨some (24,true),some 25,.fld 3 (.t 2)⟩,
 ⟨some (24,true),some 26,.load false 1 (.t 25)⟩,
 ⟨some (24,true),some 27,.fld 3 (.t 3)⟩,
 ⟨some (24,true),some 28,.load false 1 (.t 27)⟩,
 ⟨some (24,true),some 29,.call false 67 [.t 26,.t 28]⟩,
 sO 30 (.pick (.t 24) (.t 29) (.c (.bool false))),
 qM 4 30]
def s66:SF:=⟨31,[.tmp 4],.seq (.reg [sO 2 (.box 46 4 (.t 0)),sO 3 (.box 46 4 (.t 1)),sO 4 (.mv (.c (.bool false)))]) (.seq (.reg r66_1) (.ret))⟩
theorem s66_ok:slimF Tryz.prog ⟨[107,108,109,116,120,126,127,167,169,170,171,172,194,196,198,209,222,226],[]⟩ Tryz.f66=some s66:=by kernel_rfl
def r67_6:List SO:=[
 qM 17 0,
 qM 18 5,
 qA 19 1 17 18,
 ql 20 19,
 qM 21 1,
 qM 22 5,
 qA 23 1 21 22,
 ql 24 23,
 sO 25 (.call false 98 [.t 20,.t 24]),
 sO 26 (.un .not (.t 25))]
def b67_0:SC:=.seq (.seq (.reg [qM 11 5,qM 12 0,qN 13 12,qP 14 .lss 11 13]) (.cond (.t 14) (.skip) (.exit 0))) (.seq (.block 1 (.seq (.reg r67_6) (.cond (.t 26) (.seq (.reg [sO 4 (.mv (.c (.bool false)))]) (.ret)) (.skip)))) (.reg [qM 15 5,qC 16 .add 15 1,qM 5 16]))
def s67:SF:=⟨27,[.tmp 4],.seq (.reg [sO 4 (.mv (.c (.bool false)))]) (.seq (.seq (.reg [qM 6 0,qN 7 6,qM 8 1,qN 9 8,qP 10 .neq 7 9]) (.cond (.t 10) (.seq (.reg [sO 4 (.mv (.c (.bool false)))]) (.ret)) (.skip))) (.seq (.seq (.reg [qI 5 0]) (.block 0 (.loop b67_0))) (.seq (.reg [sO 4 (.mv (.c (.bool true)))]) (.ret))))⟩
theorem s67_ok:slimF Tryz.prog ⟨[107,108,109,116,120,126,127,167,169,170,171,172,194,196,198,209,222,226],[]⟩ Tryz.f67=some s67:=by kernel_rfl
def r98_6:List SO:=[
 qM 17 0,
 qM 18 5,
 qA 19 1 17 18,
 ql 20 19,
 qM 21 1,
 qM 22 5,
 qA 23 1 21 22,
 ql 24 23,
 qP 25 .neq 20 24]
def b98_0:SC:=.seq (.seq (.reg [qM 11 5,qM 12 0,qN 13 12,qP 14 .lss 11 13]) (.cond (.t 14) (.skip) (.exit 0))) (.seq (.block 1 (.seq (.reg r98_6) (.cond (.t 25) (.seq (.reg [sO 4 (.mv (.c (.bool false)))]) (.ret)) (.skip)))) (.reg [qM 15 5,qC 16 .add 15 1,qM 5 16]))
def s98:SF:=⟨26,[.tmp 4],.seq (.reg [sO 4 (.mv (.c (.bool false)))]) (.seq (.seq (.reg [qM 6 0,qN 7 6,qM 8 1,qN 9 8,qP 10 .neq 7 9]) (.cond (.t 10) (.seq (.reg [sO 4 (.mv (.c (.bool false)))]) (.ret)) (.skip))) (.seq (.seq (.reg [qI 5 0]) (.block 0 (.loop b98_0))) (.seq (.reg [sO 4 (.mv (.c (.bool true)))]) (.ret))))⟩
theorem s98_ok:slimF Tryz.prog ⟨[107,108,109,116,120,126,127,167,169,170,171,172,194,196,198,209,222,226],[]⟩ Tryz.f98=some s98:=by kernel_rfl
theorem ints_pure (a b:List Int):PureC Tryz.prog 98 [(ints a),(ints b)] (V.bool (decide (a=b))):=by
 refine pW Tryz.func98 s98_ok fun hB=>?_
 unfold s98
 dsimp only
 refine W_r (R_mv rfl (R_e (W_seq_seq (W_r (R_mv rfl (R_len rfl (R_mv rfl ?_)))))))
 refine R_len rfl (R_neq rfl rfl (R_e ?_))
 refine W_seq_if rfl (fun c1=>?_) fun c1=>?_
 ·
  refine W_seq_seq (W_r (R_mv rfl (R_e (W_seq_ret ?_))))
  refine Ret_1 (@rfl V (V.bool false)) (fz_bool ?_)
  · exact (decide_eq_false (fun e=>by subst e; omega)).symm
 refine W_seq_skip (W_seq_seq (W_r (R_mv rfl (R_e (W_seq_blockg fun Q2 n2 x2 y2 z2=>?_)))))
 refine W_loop (fun mm T H=> ∃ (k:Nat),mm=a.length - k∧T 0=(ints a)∧T 1=(ints b)∧T 5=(iV ((k:Nat):Int))∧(k≤a.length)∧(a.length=b.length)∧(∀ j,j < k→nth a j=nth b j)) ?_ ?_
 ·
  refine ⟨_,0,rfl,rfl,rfl,(Eq.trans (@rfl V (iV (0:Int))) rfl),?_,?_,?_⟩
  · omega
  · omega
  · intro j hj; omega
 intro mm T H ⟨k,hmm,t0,t1,t5,hk,hl,hc⟩ Q3 p13 p23 p33
 unfold b98_0
 refine W_seq_seq (W_r (R_mv t5 (R_mv t0 (R_len rfl (R_lss rfl rfl (R_e ?_))))))
 refine W_seq_if rfl (fun c4=>?_) fun c4=>?_
 ·
  refine W_seq_skip (W_seq_blockg fun Q5 n5 x5 y5 z5=>(W_r (R_mv t0 (R_mv t5 (R_idx (i:=k) (@rfl V (ints a)) (@rfl V (iV ((k:Nat):Int))) (by omega) rfl (R_load_pp rfl rfl (R_mv t1 ?_)))))))
  refine R_mv t5 (R_idx (i:=k) (@rfl V (ints b)) (@rfl V (iV ((k:Nat):Int))) (by omega) rfl (R_load_pp rfl rfl (R_neq rfl rfl (R_e ?_))))
  refine W_if rfl (fun c6=>?_) fun c6=>?_
  ·
   refine W_r (R_mv rfl (R_e (W_ret (y5 _ _ (p23 _ _ (y2 _ _ ?_))))))
   refine Ret_1 (@rfl V (V.bool false)) (fz_bool ?_)
   · exact (decide_eq_false (fun e=>by subst e; omega)).symm
  refine W_skip (n5 _ _ (.done (W_t (R_mv t5 (R_addN rfl (@rfl V (iV ((1:Nat):Int))) (by omega) (R_mv rfl (R_e ?_)))))))
  refine p13 _ _ _ ?_ ⟨(k+1),rfl,t0,t1,(Eq.trans (@rfl V (iV ((k+1:Nat):Int))) (by rfl)),?_,?_,?_⟩
  · omega
  · omega
  · omega
  · intro j hj
    by_cases e:j=k
    · subst e; omega
    · exact hc j (by omega)
 refine W_seq_exit (p33 _ _ _ (x2 _ _ (.done (W_r (R_mv rfl (R_e (W_ret ?_)))))))
 refine Ret_1 (@rfl V (V.bool true)) (fz_bool ?_)
 · exact (decide_eq_true (nth_ext hl fun j hj=>hc j (by omega))).symm
theorem lists_pure (a b:List (List Int)):PureC Tryz.prog 67 [(intss a),(intss b)] (V.bool (decide (a=b))):=by
 refine pW Tryz.func67 s67_ok fun hB=>?_
 unfold s67
 dsimp only
 refine W_r (R_mv rfl (R_e (W_seq_seq (W_r (R_mv rfl (R_len rfl (R_mv rfl ?_)))))))
 refine R_len rfl (R_neq rfl rfl (R_e ?_))
 refine W_seq_if rfl (fun c1=>?_) fun c1=>?_
 ·
  refine W_seq_seq (W_r (R_mv rfl (R_e (W_seq_ret ?_))))
  refine Ret_1 (@rfl V (V.bool false)) (fz_bool ?_)
  · exact (decide_eq_false (fun e=>by subst e; omega)).symm
 refine W_seq_skip (W_seq_seq (W_r (R_mv rfl (R_e (W_seq_blockg fun Q2 n2 x2 y2 z2=>?_)))))
 refine W_loop (fun mm T H=> ∃ (k:Nat),mm=a.length - k∧T 0=(intss a)∧T 1=(intss b)∧T 5=(iV ((k:Nat):Int))∧(k≤a.length)∧(a.length=b.length)∧(∀ j,j < k→nth a j=nth b j)) ?_ ?_
 ·
  refine ⟨_,0,rfl,rfl,rfl,(Eq.trans (@rfl V (iV (0:Int))) rfl),?_,?_,?_⟩
  · omega
  · omega
  · intro j hj; omega
 intro mm T H ⟨k,hmm,t0,t1,t5,hk,hl,hc⟩ Q3 p13 p23 p33
 unfold b67_0
 refine W_seq_seq (W_r (R_mv t5 (R_mv t0 (R_len rfl (R_lss rfl rfl (R_e ?_))))))
 refine W_seq_if rfl (fun c4=>?_) fun c4=>?_
 ·
  refine W_seq_skip (W_seq_blockg fun Q5 n5 x5 y5 z5=>(W_r (R_mv t0 (R_mv t5 (R_idx (i:=k) (@rfl V (intss a)) (@rfl V (iV ((k:Nat):Int))) (by omega) rfl (R_load_pp rfl rfl (R_mv t1 ?_)))))))
  refine R_mv t5 (R_idx (i:=k) (@rfl V (intss b)) (@rfl V (iV ((k:Nat):Int))) (by omega) rfl (R_load_pp rfl rfl (R_callk (ints_pure ((nth (a) (k))) ((nth (b) (k)))) rfl (R_not rfl (R_e ?_)))))
  refine W_if rfl (fun c6=>?_) fun c6=>?_
  ·
   have d1:=c6
   refine W_r (R_mv rfl (R_e (W_ret (y5 _ _ (p23 _ _ (y2 _ _ ?_))))))
   refine Ret_1 (@rfl V (V.bool false)) (fz_bool ?_)
   · exact (decide_eq_false (fun e=>d1 (by subst e; rfl))).symm
  have d1:=Decidable.not_not.1 c6
  refine W_skip (n5 _ _ (.done (W_t (R_mv t5 (R_addN rfl (@rfl V (iV ((1:Nat):Int))) (by omega) (R_mv rfl (R_e ?_)))))))
  refine p13 _ _ _ ?_ ⟨(k+1),rfl,t0,t1,(Eq.trans (@rfl V (iV ((k+1:Nat):Int))) (by rfl)),?_,?_,?_⟩
  · omega
  · omega
  · omega
  · intro j hj
    by_cases e:j=k
    · subst e; exact d1
    · exact hc j (by omega)
 refine W_seq_exit (p33 _ _ _ (x2 _ _ (.done (W_r (R_mv rfl (R_e (W_ret ?_)))))))
 refine Ret_1 (@rfl V (V.bool true)) (fz_bool ?_)
 · exact (decide_eq_true (nth_ext hl fun j hj=>hc j (by omega))).symm
theorem msame_pure (a b:M):PureC Tryz.prog 66 [(V.agg [(iV (a.i)),(iV (a.s)),(intss a.nx),(intss a.ot)]),(V.agg [(iV (b.i)),(iV (b.s)),(intss b.nx),(intss b.ot)])] (V.bool (decide (a=b))):=by
 refine pW Tryz.func66 s66_ok fun hB=>?_
 unfold s66
 dsimp only
 refine W_r (R_box (i:=2) (n:=0) (m:=4) (cs:=[(iV (a.i)),(iV (a.s)),(intss a.nx),(intss a.ot)]) rfl (congrArg Blk.ver rfl) rfl rfl rfl (R_box (i:=3) (n:=0) (m:=4) (cs:=[(iV (b.i)),(iV (b.s)),(intss b.nx),(intss b.ot)]) rfl (congrArg Blk.ver rfl) rfl rfl rfl (R_mv rfl (R_e (W_r (R_fk rfl rfl (R_lk rfl rfl rfl rfl ?_)))))))
 refine R_fk rfl rfl (R_lk rfl rfl rfl rfl (R_eql rfl rfl (R_mv rfl ?_)))
 refine Ops_seg 6 (fun T H=>T 2=(V.mp 2 1 0 0)∧T 3=(V.mp 3 1 0 0)∧T 16=(V.bool (decide (((a.i)=(b.i))∧((a.s)=(b.s)))))∧H 2=(bk 1 46 4 [[(iV (a.i)),(iV (a.s)),(intss a.nx),(intss a.ot)]])∧H 3=(bk 1 46 4 [[(iV (b.i)),(iV (b.s)),(intss b.nx),(intss b.ot)]])∧True) ?_ ?_
 ·
  by_cases g1:(a.i)=(b.i)
  ·
   refine G_yes (edT g1 rfl) (R_fk rfl rfl (G_yes (edT g1 rfl) (R_lk rfl rfl rfl rfl (G_yes (edT g1 rfl) (R_fk rfl rfl (G_yes (edT g1 rfl) (R_lk rfl rfl rfl rfl ?_)))))))
   refine G_yes (edT g1 rfl) (R_eql rfl rfl (R_pickT (edT g1 rfl) rfl ?_))
   exact ⟨rfl,rfl,(dec_andT g1),rfl,rfl,trivial⟩
  ·
   refine G_n (edF g1 rfl) (G_n (edF g1 rfl) (G_n (edF g1 rfl) (G_n (edF g1 rfl) (G_n (edF g1 rfl) (R_pickF (edF g1 rfl) rfl ?_)))))
   exact ⟨rfl,rfl,(dec_andF g1),rfl,rfl,trivial⟩
 intro T H ⟨t2,t3,t16,h2,h3,_⟩
 refine R_mv t16 ?_
 refine Ops_seg 6 (fun T H=>T 2=(V.mp 2 1 0 0)∧T 3=(V.mp 3 1 0 0)∧T 23=(V.bool (decide ((((a.i)=(b.i))∧((a.s)=(b.s)))∧(a.nx=b.nx))))∧H 2=(bk 1 46 4 [[(iV (a.i)),(iV (a.s)),(intss a.nx),(intss a.ot)]])∧H 3=(bk 1 46 4 [[(iV (b.i)),(iV (b.s)),(intss b.nx),(intss b.ot)]])∧True) ?_ ?_
 ·
  by_cases g2:((a.i)=(b.i))∧((a.s)=(b.s))
  ·
   refine G_yes (edT g2 rfl) (R_fk t2 h2 (G_yes (edT g2 rfl) (R_lk rfl h2 rfl rfl (G_yes (edT g2 rfl) (R_fk t3 h3 (G_yes (edT g2 rfl) (R_lk rfl h3 rfl rfl ?_)))))))
   refine G_yes (edT g2 rfl) (R_callk (lists_pure a.nx b.nx) rfl (R_pickT (edT g2 rfl) rfl ?_))
   exact ⟨t2,t3,(dec_andT g2),h2,h3,trivial⟩
  ·
   refine G_n (edF g2 rfl) (G_n (edF g2 rfl) (G_n (edF g2 rfl) (G_n (edF g2 rfl) (G_n (edF g2 rfl) (R_pickF (edF g2 rfl) rfl ?_)))))
   exact ⟨t2,t3,(dec_andF g2),h2,h3,trivial⟩
 intro T H ⟨t2,t3,t23,h2,h3,_⟩
 refine R_mv t23 ?_
 refine Ops_seg 6 (fun T H=>T 30=(V.bool (decide (((((a.i)=(b.i))∧((a.s)=(b.s)))∧(a.nx=b.nx))∧(a.ot=b.ot))))∧H 2=(bk 1 46 4 [[(iV (a.i)),(iV (a.s)),(intss a.nx),(intss a.ot)]])∧H 3=(bk 1 46 4 [[(iV (b.i)),(iV (b.s)),(intss b.nx),(intss b.ot)]])∧True) ?_ ?_
 ·
  by_cases g3:(((a.i)=(b.i))∧((a.s)=(b.s)))∧(a.nx=b.nx)
  ·
   refine G_yes (edT g3 rfl) (R_fk t2 h2 (G_yes (edT g3 rfl) (R_lk rfl h2 rfl rfl (G_yes (edT g3 rfl) (R_fk t3 h3 (G_yes (edT g3 rfl) (R_lk rfl h3 rfl rfl ?_)))))))
   refine G_yes (edT g3 rfl) (R_callk (lists_pure a.ot b.ot) rfl (R_pickT (edT g3 rfl) rfl ?_))
   exact ⟨(dec_andT g3),h2,h3,trivial⟩
  ·
   refine G_n (edF g3 rfl) (G_n (edF g3 rfl) (G_n (edF g3 rfl) (G_n (edF g3 rfl) (G_n (edF g3 rfl) (R_pickF (edF g3 rfl) rfl ?_)))))
   exact ⟨(dec_andF g3),h2,h3,trivial⟩
 intro T H ⟨t30,h2,h3,_⟩
 refine R_mv t30 (R_e (W_ret ?_))
 refine Ret_1 (@rfl V (V.bool (decide (((((a.i)=(b.i))∧((a.s)=(b.s)))∧(a.nx=b.nx))∧(a.ot=b.ot))))) (fz_bool ?_)
 · first|rfl|(rw [decide_eq_decide]; rw [M.eq_iff]; simp [and_assoc])|(simp [M.eq_iff,and_assoc])
theorem hysame_pure (a b:Hy):PureC Tryz.prog 20 [(V.agg [(iV (a.m.i)),(iV (a.m.s)),(intss a.m.nx),(intss a.m.ot),(intss a.acc)]),(V.agg [(iV (b.m.i)),(iV (b.m.s)),(intss b.m.nx),(intss b.m.ot),(intss b.acc)])] (V.bool (decide (a=b))):=by
 refine pW Tryz.func20 s20_ok fun hB=>?_
 unfold s20
 dsimp only
 refine W_r (R_box (i:=2) (n:=0) (m:=5) (cs:=[(iV (a.m.i)),(iV (a.m.s)),(intss a.m.nx),(intss a.m.ot),(intss a.acc)]) rfl (congrArg Blk.ver rfl) rfl rfl rfl (R_box (i:=3) (n:=0) (m:=5) (cs:=[(iV (b.m.i)),(iV (b.m.s)),(intss b.m.nx),(intss b.m.ot),(intss b.acc)]) rfl (congrArg Blk.ver rfl) rfl rfl rfl (R_mv rfl (R_e (W_r (R_fk rfl rfl (R_lk rfl rfl rfl rfl ?_)))))))
 refine R_fk rfl rfl (R_lk rfl rfl rfl rfl (R_callk (msame_pure a.m b.m) rfl (R_mv rfl ?_)))
 refine Ops_seg 6 (fun T H=>T 16=(V.bool (decide ((a.m=b.m)∧(a.acc=b.acc))))∧H 2=(bk 1 48 5 [[(iV (a.m.i)),(iV (a.m.s)),(intss a.m.nx),(intss a.m.ot),(intss a.acc)]])∧H 3=(bk 1 48 5 [[(iV (b.m.i)),(iV (b.m.s)),(intss b.m.nx),(intss b.m.ot),(intss b.acc)]])∧True) ?_ ?_
 ·
  by_cases g1:a.m=b.m
  ·
   refine G_yes (edT g1 rfl) (R_fk rfl rfl (G_yes (edT g1 rfl) (R_lk rfl rfl rfl rfl (G_yes (edT g1 rfl) (R_fk rfl rfl (G_yes (edT g1 rfl) (R_lk rfl rfl rfl rfl ?_)))))))
   refine G_yes (edT g1 rfl) (R_callk (lists_pure a.acc b.acc) rfl (R_pickT (edT g1 rfl) rfl ?_))
   exact ⟨(dec_andT g1),rfl,rfl,trivial⟩
  ·
   refine G_n (edF g1 rfl) (G_n (edF g1 rfl) (G_n (edF g1 rfl) (G_n (edF g1 rfl) (G_n (edF g1 rfl) (R_pickF (edF g1 rfl) rfl ?_)))))
   exact ⟨(dec_andF g1),rfl,rfl,trivial⟩
 intro T H ⟨t16,h2,h3,_⟩
 refine R_mv t16 (R_e (W_ret ?_))
 refine Ret_1 (@rfl V (V.bool (decide ((a.m=b.m)∧(a.acc=b.acc))))) (fz_bool ?_)
 · first|rfl|(simp only [Hy.eq_iff,M.eq_iff]; first|rfl|(simp [and_assoc]))
theorem law4_pure (l:Ts) (o:Ob):PureC Tryz.prog 4 [(V.agg [(iV (l.i)),(V.sl (List.map cN (l.t.nd)))]),(V.agg [(iV (o.i)),(V.sl (List.map cT (o.tr)))])] (V.bool true):=by
 refine pW Tryz.func4 s4_ok fun hB=>?_
 unfold s4
 dsimp only
 refine W_r (R_box (i:=2) (n:=0) (m:=2) (cs:=[(iV (l.i)),(V.sl (List.map cN (l.t.nd)))]) rfl (congrArg Blk.ver rfl) rfl rfl rfl (R_box (i:=3) (n:=0) (m:=2) (cs:=[(iV (o.i)),(V.sl (List.map cT (o.tr)))]) rfl (congrArg Blk.ver rfl) rfl rfl rfl (R_mv rfl (R_e (W_seq_seq (W_r (R_lk rfl rfl rfl rfl ?_)))))))
 refine R_lk rfl rfl rfl rfl (R_callk (great27_pure l o) rfl (R_e ?_))
 refine W_seq_ifb rfl (fun c1=>?_) (fun c1=>?_)
 ·
  refine W_seq_seq (W_r (R_callk (aw_learnerlaw27_awake_pure) rfl (R_mv rfl (R_e (W_seq_ret ?_)))))
  refine Ret_1 (@rfl V (V.bool true)) (fz_canon (by simp) rfl)
 obtain ⟨hi4,hgt,hol,ho⟩:=gr_no (by simpa using c1)
 have hb:=bg_bd hgt
 have hx:=exs_40 hgt hi4
 refine W_seq_skip (W_r (R_lk rfl rfl rfl rfl (R_lk rfl rfl rfl rfl (R_callk (thyp_pure l o hb ho hx) rfl (R_mv rfl (R_ext rfl rfl (R_ext rfl rfl ?_)))))))
 refine R_alloc (i:=5) (n:=0) (m:=5) rfl (congrArg Blk.ver rfl) rfl (R_sk rfl rfl rfl rfl rfl rfl rfl rfl rfl (R_mv rfl (R_e (W_r (R_lk rfl rfl rfl rfl (R_lk rfl rfl rfl rfl (R_callk (rhyp_pure l o hb ho hx) rfl ?_)))))))
 refine R_mv rfl (R_ext rfl rfl (R_ext rfl rfl (R_alloc (i:=7) (n:=0) (m:=5) rfl (congrArg Blk.ver rfl) rfl (R_sk rfl rfl rfl rfl rfl rfl rfl rfl rfl (R_mv rfl (R_e (W_r ?_)))))))
 refine R_lk rfl rfl rfl rfl (R_lk rfl rfl rfl rfl (R_callk (hysame_pure ((hyR l o)) ((hyR l o))) rfl (R_mv rfl ?_)))
 refine Ops_seg 4 (fun T H=>T 32=(V.bool (decide ((((hyR l o))=((hyR l o)))∧((hyE l o)=(hyE l o)))))∧H 2=(bk 1 26 2 [[(iV (l.i)),(V.sl (List.map cN (l.t.nd)))]])∧H 3=(bk 1 29 2 [[(iV (o.i)),(V.sl (List.map cT (o.tr)))]])∧H 5=(bk 1 48 5 [[(iV ((hyR l o).m.i)),(iV ((hyR l o).m.s)),(intss ((hyR l o).m.nx)),(intss ((hyR l o).m.ot)),(intss ((hyR l o).acc))]])∧H 7=(bk 1 48 5 [[(iV ((hyR l o).m.i)),(iV ((hyR l o).m.s)),(intss ((hyR l o).m.nx)),(intss ((hyR l o).m.ot)),(intss ((hyR l o).acc))]])∧True) ?_ ?_
 ·
  by_cases g2:((hyR l o))=((hyR l o))
  ·
   refine G_yes (edT g2 rfl) (R_mv rfl (G_yes (edT g2 rfl) (R_mv rfl (G_yes (edT g2 rfl) (R_eql rfl rfl (R_pickT (edT g2 rfl) rfl ?_))))))
   exact ⟨(dec_andT g2),rfl,rfl,rfl,rfl,trivial⟩
  ·
   refine G_n (edF g2 rfl) (G_n (edF g2 rfl) (G_n (edF g2 rfl) (R_pickF (edF g2 rfl) rfl ?_)))
   exact ⟨(dec_andF g2),rfl,rfl,rfl,rfl,trivial⟩
 intro T H ⟨t32,h2,h3,h5,h7,_⟩
 refine R_mv t32 ?_
 refine Ops_seg 2 (fun T H=>T 35=(V.bool (decide ((((hyR l o))=((hyR l o)))∧((hyE l o)=(hyE l o)))))∧H 2=(bk 1 26 2 [[(iV (l.i)),(V.sl (List.map cN (l.t.nd)))]])∧H 3=(bk 1 29 2 [[(iV (o.i)),(V.sl (List.map cT (o.tr)))]])∧H 5=(bk 1 48 5 [[(iV ((hyR l o).m.i)),(iV ((hyR l o).m.s)),(intss ((hyR l o).m.nx)),(intss ((hyR l o).m.ot)),(intss ((hyR l o).acc))]])∧H 7=(bk 1 48 5 [[(iV ((hyR l o).m.i)),(iV ((hyR l o).m.s)),(intss ((hyR l o).m.nx)),(intss ((hyR l o).m.ot)),(intss ((hyR l o).acc))]])∧True) ?_ ?_
 ·
  by_cases g3:(((hyR l o))=((hyR l o)))∧((hyE l o)=(hyE l o))
  ·
   refine G_yes (edT g3 rfl) (R_callk (aw_learnerlaw27_awake_pure) rfl (R_pickT (edT g3 rfl) rfl ?_))
   exact ⟨(dec_T g3),h2,h3,h5,h7,trivial⟩
  ·
   refine G_n (edF g3 rfl) (R_pickF (edF g3 rfl) rfl ?_)
   exact ⟨(dec_F g3),h2,h3,h5,h7,trivial⟩
 intro T H ⟨t35,h2,h3,h5,h7,_⟩
 refine R_mv t35 (R_e (W_ret ?_))
 refine Ret_1 (@rfl V (V.bool (decide ((((hyR l o))=((hyR l o)))∧((hyE l o)=(hyE l o)))))) (fz_bool ?_)
 · simp
end Go.Proofs.YtmnjchcoigbngabGreat
namespace Go.Proofs.YtmnjchcoigbngabGreat
open Go Go.Proofs Go.Proofs.YtmnjchcoigbngabGreat Go.ChangeShapes Go.WideShapes Go.ChangeAt Go.RowKit
structure UT (P:Program):Prop where
  u3:P.underlying 3=some (.int .i64)
  u22:P.underlying 22=some (.slice 99)
  u4:P.underlying 4=some (.bool)
  u54:P.underlying 54=some (.slice 3)
  u37:P.underlying 37=some (.slice 54)
  u99: ∃ f0 f1 f2 f3 f4:Field,P.underlying 99=some (.struct #[f0,f1,f2,f3,f4])∧f0.type=4∧f1.type=54∧f2.type=54∧f3.type=37∧f4.type=54
  u24: ∃ f0:Field,P.underlying 24=some (.struct #[f0])∧f0.type=22
  u26: ∃ f0 f1:Field,P.underlying 26=some (.struct #[f0,f1])∧f0.type=3∧f1.type=24
  u27:P.underlying 27=some (.slice 84)
  u84: ∃ f0 f1:Field,P.underlying 84=some (.struct #[f0,f1])∧f0.type=54∧f1.type=54
  u29: ∃ f0 f1:Field,P.underlying 29=some (.struct #[f0,f1])∧f0.type=3∧f1.type=27
theorem sh3 {P:Program} (U:UT P) (n:Nat) (vs:List V) (h:Shp P (n+1) 3 vs): ∃ a:Int,vs=cI a:=shp_int U.u3 h
theorem sh4 {P:Program} (U:UT P) (n:Nat) (vs:List V) (h:Shp P (n+1) 4 vs): ∃ a:Bool,vs=(fun b=>[V.bool b]) a:=shp_bool U.u4 h
theorem sh54 {P:Program} (U:UT P) (n:Nat) (vs:List V) (h:Shp P (n+2) 54 vs): ∃ a:List Int,vs=cL a:=shp_slice (f:=cI) U.u54 (fun vs h=>sh3 U n vs h) h
theorem sh37 {P:Program} (U:UT P) (n:Nat) (vs:List V) (h:Shp P (n+3) 37 vs): ∃ a:List (List Int),vs=(fun l=>[V.sl (List.map cL l)]) a:=shp_slice (f:=cL) U.u37 (fun vs h=>sh54 U n vs h) h
theorem sh99 {P:Program} (U:UT P) (n:Nat) (vs:List V) (h:Shp P (n+4) 99 vs): ∃ a:Nd,vs=cN a:=by
  obtain ⟨f0,f1,f2,f3,f4,hu,k0,k1,k2,k3,k4⟩:=U.u99
  have h0:=shp_step hu h
  obtain ⟨x0,u0,e0,h1⟩:=shpL_cons (c:=(fun b=>[V.bool b])) (fun vs h=>sh4 U (n+2) vs (by rw [k0] at h; exact h)) h0
  obtain ⟨x1,u1,e1,h2⟩:=shpL_cons (c:=cL) (fun vs h=>sh54 U (n+1) vs (by rw [k1] at h; exact h)) h1
  obtain ⟨x2,u2,e2,h3⟩:=shpL_cons (c:=cL) (fun vs h=>sh54 U (n+1) vs (by rw [k2] at h; exact h)) h2
  obtain ⟨x3,u3,e3,h4⟩:=shpL_cons (c:=(fun l=>[V.sl (List.map cL l)])) (fun vs h=>sh37 U (n+0) vs (by rw [k3] at h; exact h)) h3
  obtain ⟨x4,u4,e4,h5⟩:=shpL_cons (c:=cL) (fun vs h=>sh54 U (n+1) vs (by rw [k4] at h; exact h)) h4
  have e5:=shpL_nil h5
  exact ⟨⟨x0,x1,x2,x3,x4⟩,by rw [e0,e1,e2,e3,e4,e5]; rfl⟩
theorem sh22 {P:Program} (U:UT P) (n:Nat) (vs:List V) (h:Shp P (n+5) 22 vs): ∃ a:List Nd,vs=(fun l=>[V.sl (List.map cN l)]) a:=shp_slice (f:=cN) U.u22 (fun vs h=>sh99 U n vs h) h
theorem sh24 {P:Program} (U:UT P) (n:Nat) (vs:List V) (h:Shp P (n+6) 24 vs): ∃ a:Dt,vs=cD a:=by
  obtain ⟨f0,hu,k0⟩:=U.u24
  have h0:=shp_step hu h
  obtain ⟨x0,u0,e0,h1⟩:=shpL_cons (c:=(fun l=>[V.sl (List.map cN l)])) (fun vs h=>sh22 U (n+0) vs (by rw [k0] at h; exact h)) h0
  have e1:=shpL_nil h1
  exact ⟨⟨x0⟩,by rw [e0,e1]; rfl⟩
theorem sh26 {P:Program} (U:UT P) (n:Nat) (vs:List V) (h:Shp P (n+7) 26 vs): ∃ a:Ts,vs=cTs a:=by
  obtain ⟨f0,f1,hu,k0,k1⟩:=U.u26
  have h0:=shp_step hu h
  obtain ⟨x0,u0,e0,h1⟩:=shpL_cons (c:=cI) (fun vs h=>sh3 U (n+5) vs (by rw [k0] at h; exact h)) h0
  obtain ⟨x1,u1,e1,h2⟩:=shpL_cons (c:=cD) (fun vs h=>sh24 U (n+0) vs (by rw [k1] at h; exact h)) h1
  have e2:=shpL_nil h2
  exact ⟨⟨x0,x1⟩,by rw [e0,e1,e2]; rfl⟩
theorem sh84 {P:Program} (U:UT P) (n:Nat) (vs:List V) (h:Shp P (n+3) 84 vs): ∃ a:Tr,vs=cT a:=by
  obtain ⟨f0,f1,hu,k0,k1⟩:=U.u84
  have h0:=shp_step hu h
  obtain ⟨x0,u0,e0,h1⟩:=shpL_cons (c:=cL) (fun vs h=>sh54 U (n+0) vs (by rw [k0] at h; exact h)) h0
  obtain ⟨x1,u1,e1,h2⟩:=shpL_cons (c:=cL) (fun vs h=>sh54 U (n+0) vs (by rw [k1] at h; exact h)) h1
  have e2:=shpL_nil h2
  exact ⟨⟨x0,x1⟩,by rw [e0,e1,e2]; rfl⟩
theorem sh27 {P:Program} (U:UT P) (n:Nat) (vs:List V) (h:Shp P (n+4) 27 vs): ∃ a:List Tr,vs=(fun l=>[V.sl (List.map cT l)]) a:=shp_slice (f:=cT) U.u27 (fun vs h=>sh84 U n vs h) h
theorem sh29 {P:Program} (U:UT P) (n:Nat) (vs:List V) (h:Shp P (n+5) 29 vs): ∃ a:Ob,vs=oC a:=by
  obtain ⟨f0,f1,hu,k0,k1⟩:=U.u29
  have h0:=shp_step hu h
  obtain ⟨x0,u0,e0,h1⟩:=shpL_cons (c:=cI) (fun vs h=>sh3 U (n+3) vs (by rw [k0] at h; exact h)) h0
  obtain ⟨x1,u1,e1,h2⟩:=shpL_cons (c:=(fun l=>[V.sl (List.map cT l)])) (fun vs h=>sh27 U (n+0) vs (by rw [k1] at h; exact h)) h1
  have e2:=shpL_nil h2
  exact ⟨⟨x0,x1⟩,by rw [e0,e1,e2]; rfl⟩
theorem ut:UT Tryz.prog:=⟨by kernel_rfl,by kernel_rfl,by kernel_rfl,by kernel_rfl,by kernel_rfl,⟨_,_,_,_,_,Tryz.underlying99,rfl,rfl,rfl,rfl,rfl⟩,⟨_,Tryz.underlying24,rfl⟩,⟨_,_,Tryz.underlying26,rfl,rfl⟩,by kernel_rfl,⟨_,_,Tryz.underlying84,rfl,rfl⟩,⟨_,_,Tryz.underlying29,rfl,rfl⟩⟩
theorem args4 {P:Program} (U:UT P) {us:List V} (h:ShpA P 8 [26,29] us): ∃ (d0:Ts) (d1:Ob),us=[V.agg (cTs d0),V.agg (oC d1)]:=by
  obtain ⟨a0,b0,e0,h0,h⟩:=shpA_cons h
  obtain ⟨d0,g0⟩:=sh26 U 1 a0 h0
  have q0:packV P 26 a0=V.agg (cTs d0):=by obtain ⟨_,_,hu,_⟩:=U.u26; rw [g0]; exact pack_struct hu _
  obtain ⟨a1,b1,e1,h1,h⟩:=shpA_cons h
  obtain ⟨d1,g1⟩:=sh29 U 3 a1 h1
  have q1:packV P 29 a1=V.agg (oC d1):=by obtain ⟨_,_,hu,_⟩:=U.u29; rw [g1]; exact pack_struct hu _
  have e2:=shpA_nil h
  exact ⟨d0,d1,by rw [e0,q0,e1,q1,e2]⟩
theorem own4:ownKnob Tryz.prog.godebug=none:=by kernel_rfl
set_option maxRecDepth 100000 in
theorem lifted4 (os:Os) (started:os.Started) (H:Type) (enc:TypeId×Value→H):
    ReturnsInHanded {} Tryz.checked os 4 .any (Rows.treelearnHypothesisSpec.pre6 enc Tryz.prog Tryz.f4 Rows.treelearnHypothesisRow.domain false) (Rows.treelearnHypothesisSpec.post enc Tryz.prog Tryz.f4 false true false false):=by
  refine returnsInHanded_of_change (C:=Tryz.checked) own4 started (by kernel_rfl) Tryz.func4
    (ChangeSpec.witness6 (enc:=enc) (C:=Tryz.checked) false ⟨#[],#[.agg #[.int .i64 0,.slice none 0 0],.agg #[.int .i64 0,.slice none 0 0]],[]⟩ 8 (by kernel_rfl) (by kernel_rfl) (by kernel_rfl) (by kernel_rfl)) ?_
  intro W base args ds gs before hval0 hW hcnd _
  refine law_post (n:=8) (tb:=4) (by kernel_rfl) (by kernel_rfl) (by kernel_rfl) (fun t ht=>?_) rfl ?_ (fun us hu=>?_) hval0 hW
  · have h:t∈[26,29]:=ht
    simp only [List.mem_cons,List.not_mem_nil,or_false] at h
    rcases h with rfl|rfl
    · exact ⟨by kernel_rfl,by kernel_rfl,of_decide_eq_true (by kernel_rfl)⟩
    · exact ⟨by kernel_rfl,by kernel_rfl,of_decide_eq_true (by kernel_rfl)⟩
  · obtain ⟨p,q,hA,hV,rfl,hfz,hnd⟩:=hW
    obtain ⟨rfl,rfl⟩:=trodVars_none hV
    change DataW.TrodAll enc Tryz.prog W 0 (fun _=>true) true [26,29] args.toList ds p at hA
    obtain ⟨v0,vs0,y0,ds0,pa0,pb0,hv0,rfl,rfl,_,hA⟩:=trodAll_cons hA
    obtain ⟨v1,vs1,y1,ds1,pa1,pb1,hv1,rfl,rfl,_,hA⟩:=trodAll_cons hA
    obtain ⟨_,rfl,rfl⟩:=trodAll_nil hA
    rfl
  · obtain ⟨d0,d1,rfl⟩:=args4 ut hu
    exact law4_pure d0 d1
theorem proved4:Rows.TreelearnHypothesisSaid:=
  OpenClaim.holds_of_wide 4 Tryz.f4 rfl rfl rfl rfl rfl rfl rfl ⟨rfl,rfl,rfl,rfl,rfl⟩ rfl rfl rfl rfl rfl (by kernel_rfl) Tryz.func4 (by kernel_rfl)
    (of_decide_eq_true (by kernel_rfl)) (by unfold Func.isWrapper; first|(rw [if_pos (by decide+kernel)]; kernel_rfl)|(rw [if_neg (by decide+kernel)]; exact ⟨rfl,rfl⟩))
    (fun os started H enc _=>lifted4 os started H enc)
end Go.Proofs.YtmnjchcoigbngabGreat
