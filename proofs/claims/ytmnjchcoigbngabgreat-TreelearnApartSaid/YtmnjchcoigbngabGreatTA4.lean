/- Contracts of the functions that the law TA reaches, and the law itself, for every input; no condition. -/
import Derived.KernelRfl
import Derived.Test.YtmnjchcoigbngabGreatProg
import Derived.Test.YtmnjchcoigbngabGreatTA3
set_option linter.unusedSimpArgs false
set_option linter.unusedVariables false
namespace Go.Proofs.YtmnjchcoigbngabGreat
open Go Go.Proofs
def r126_3:List SO:=[
 qM 14 0,
 qM 15 2,
 qM 16 0,
 qM 17 3,
 qM 18 0,
 qM 19 3,
 qA 20 1 18 19,
 ql 21 20,
 qM 22 0,
 qM 23 2,
 qA 24 1 22 23,
 ql 25 24,
 qA 26 1 14 15,
 sN (.store 1 (.t 26) (.t 21)),
 qA 27 1 16 17,
 sN (.store 1 (.t 27) (.t 25))]
def b126_0:SC:=.seq (.seq (.reg [qM 7 2,qM 8 3,qP 9 .lss 7 8]) (.cond (.t 9) (.skip) (.exit 0))) (.seq (.block 1 (.reg r126_3)) (.reg [qM 10 2,qC 11 .add 10 1,qM 12 3,qC 13 .sub 12 1,qM 2 11,qM 3 13]))
def s126:SF:=⟨28,[],.seq (.reg [qM 4 0,qN 5 4,qC 6 .sub 5 1,qI 2 0,qM 3 6]) (.block 0 (.loop b126_0))⟩
theorem s126_ok:slimF Tryz.prog ⟨[107,108,109,116,120,126,127,167,169,170,171,172,194,196,198,209,222,226],[]⟩ Tryz.f126=some s126:=by kernel_rfl
theorem revcL52_E (l:List (List Int)) (v:Nat) (z:Bool) (Hi:Heap) (hq:Hi 52=(⟨v,true,z,54,1,(List.map cL (l))⟩:Blk)) (hl:l.length≤1073741824):CallOK Tryz.prog 126 [(V.ms 52 v 0 (l.length))] Hi (V.tup []) (upd Hi 52 (⟨v,true,z,54,1,(List.map cL (l.reverse))⟩:Blk)):=by
 refine eW (k0:=600) Tryz.func126 s126_ok fun hB=>?_
 unfold s126
 dsimp only
 refine W_r (R_mv rfl (R_len_ms rfl hq (by simp) (R_sub rfl rfl (by omega) (by omega) (R_mv rfl (R_mv rfl (R_e (W_block fun Q1 n1 x1 y1 z1=>?_)))))))
 refine W_loop (fun mm T H=> ∃ (k:Nat),mm=l.length - k∧T 0=(V.ms 52 v 0 (l.length))∧T 2=(iV ((k:Nat):Int))∧T 3=(iV (((l.length:Nat):Int) - 1 - k))∧(∀ j,j∉[52]→H j=Hi j)∧H 52=(⟨v,true,z,54,1,(List.map cL (rvL l k))⟩:Blk)∧(2*k≤l.length+1)) ?_ ?_
 ·
  refine ⟨_,0,rfl,rfl,(Eq.trans (@rfl V (iV (0:Int))) rfl),(Eq.trans (@rfl V (iV (((l.length:Nat):Int) - (1:Int)))) (by (exact congrArg (V.int .i64) (by omega)))),(fun _ _=>rfl),(Eq.trans hq (by (rw [rv_zero]; done))),?_⟩
  · omega
 intro mm T H ⟨k,hmm,t0,t2,t3,hF,h52,hk⟩ Q2 p12 p22 p32
 unfold b126_0
 have q1:=rv_len l k
 refine W_seq_seq (W_r (R_mv t2 (R_mv t3 (R_lss rfl rfl (R_e ?_)))))
 refine W_seq_if rfl (fun c3=>?_) fun c3=>?_
 ·
  refine W_seq_skip (W_seq_blockg fun Q4 n4 x4 y4 z4=>(W_t (R_mv t0 (R_mv t2 (R_mv t0 (R_mv t3 (R_mv t0 ?_)))))))
  refine R_mv t3 (R_idxI_ms0 (i:=(((l.length:Nat):Int) - 1 - k)) (@rfl V (V.ms 52 v 0 (l.length))) (@rfl V (iV (((l.length:Nat):Int) - 1 - k))) h52 (okB_map (by omega)) rfl (by omega) (by omega) (R_load_mp (v:=(ints ((nth (rvL l k) (((((l.length:Nat):Int) - 1 - k)).toNat))))) rfl h52 (ldB_map (by omega) (by rfl)) (R_mv t0 (R_mv t2 (R_idx_ms0 (i:=k) (@rfl V (V.ms 52 v 0 (l.length))) (@rfl V (iV ((k:Nat):Int))) h52 (okB_map (by omega)) rfl (by omega) (R_load_mp (v:=(ints ((nth (rvL l k) (k))))) rfl h52 (ldB_map (by omega) (by rfl)) (R_idx_ms0 (i:=k) (@rfl V (V.ms 52 v 0 (l.length))) (@rfl V (iV ((k:Nat):Int))) h52 (okB_map (by omega)) rfl (by omega) ?_)))))))
  refine R_store (vs:=[(ints ((nth (rvL l k) (((((l.length:Nat):Int) - 1 - k)).toNat))))]) (B':=(⟨v,true,z,54,1,(List.map cL ((rvL l k).set k ((nth (rvL l k) (((((l.length:Nat):Int) - 1 - k)).toNat)))))⟩:Blk)) rfl rfl rfl h52 (stB_map (x:=((nth (rvL l k) (((((l.length:Nat):Int) - 1 - k)).toNat)))) (i:=k) (by omega) rfl rfl rfl rfl) (R_idxI_ms0 (i:=(((l.length:Nat):Int) - 1 - k)) (@rfl V (V.ms 52 v 0 (l.length))) (@rfl V (iV (((l.length:Nat):Int) - 1 - k))) (@rfl Blk (⟨v,true,z,54,1,(List.map cL ((rvL l k).set k ((nth (rvL l k) (((((l.length:Nat):Int) - 1 - k)).toNat)))))⟩:Blk)) (okB_map (by (simp only [List.length_set]; omega))) rfl (by omega) (by omega) (R_store (vs:=[(ints ((nth (rvL l k) (k))))]) (B':=(⟨v,true,z,54,1,(List.map cL (((rvL l k).set k ((nth (rvL l k) (((((l.length:Nat):Int) - 1 - k)).toNat)))).set (((((l.length:Nat):Int) - 1 - k)).toNat) ((nth (rvL l k) (k)))))⟩:Blk)) rfl rfl rfl (@rfl Blk (⟨v,true,z,54,1,(List.map cL ((rvL l k).set k ((nth (rvL l k) (((((l.length:Nat):Int) - 1 - k)).toNat)))))⟩:Blk)) (stB_map (x:=((nth (rvL l k) (k)))) (i:=(((((l.length:Nat):Int) - 1 - k)).toNat)) (by (simp only [List.length_set]; omega)) rfl rfl rfl rfl) (R_e (n4 _ _ (.done (W_t (R_mv t2 ?_)))))))
  refine R_addN rfl (@rfl V (iV ((1:Nat):Int))) (by omega) (R_mv t3 (R_sub rfl rfl (by omega) (by omega) (R_mv rfl (R_mv rfl (R_e ?_)))))
  refine p12 _ _ _ ?_ ⟨(k+1),rfl,t0,(Eq.trans (@rfl V (iV ((k+1:Nat):Int))) (by rfl)),(Eq.trans (@rfl V (iV ((((l.length:Nat):Int) - 1 - k) - (1:Int)))) (by (exact congrArg (V.int .i64) (by omega)))),(upd_out (upd_out hF (by decide)) (by decide)),(Eq.trans (@rfl Blk (⟨v,true,z,54,1,(List.map cL (((rvL l k).set k ((nth (rvL l k) (((((l.length:Nat):Int) - 1 - k)).toNat)))).set (((((l.length:Nat):Int) - 1 - k)).toNat) ((nth (rvL l k) (k)))))⟩:Blk)) (by (rw [show (((l.length:Nat):Int) - 1 - (k:Int)).toNat=l.length - 1 - k by omega,rv_step (by omega) (by omega)]; done))),?_⟩
  · omega
  · omega
 refine W_seq_exit (p32 _ _ _ (x1 _ _ (fork_ (R:=fun T H=>T 0=(V.ms 52 v 0 (l.length))∧T 2=(iV ((k:Nat):Int))∧T 3=(iV (((l.length:Nat):Int) - 1 - k))∧T 9=(V.bool (decide (((k:Nat):Int) < (((l.length:Nat):Int) - 1 - k))))∧(∀ j,j∉[52]→H j=Hi j)∧H 52=(⟨v,true,z,54,1,(List.map cL (rvL l k))⟩:Blk)∧True) ⟨t0,t2,t3,(@rfl V (V.bool (decide (((k:Nat):Int) < (((l.length:Nat):Int) - 1 - k))))),hF,h52,trivial⟩ ?_)))
 intro T H ⟨t0,t2,t3,t9,hF,h52,_⟩
 skip
 have fh:=FinX.fin (FinX.put (B:=(⟨v,true,z,54,1,(List.map cL (l.reverse))⟩:Blk)) (FinX.start hF) h52 (FinB.eq (by (rw [rv_end (by omega) (by omega)]; done))))
 exact RetF_0 fh
def r127_3:List SO:=[
 qM 14 0,
 qM 15 2,
 qM 16 0,
 qM 17 3,
 qM 18 0,
 qM 19 3,
 qA 20 1 18 19,
 ql 21 20,
 qM 22 0,
 qM 23 2,
 qA 24 1 22 23,
 ql 25 24,
 qA 26 1 14 15,
 sN (.store 1 (.t 26) (.t 21)),
 qA 27 1 16 17,
 sN (.store 1 (.t 27) (.t 25))]
def b127_0:SC:=.seq (.seq (.reg [qM 7 2,qM 8 3,qP 9 .lss 7 8]) (.cond (.t 9) (.skip) (.exit 0))) (.seq (.block 1 (.reg r127_3)) (.reg [qM 10 2,qC 11 .add 10 1,qM 12 3,qC 13 .sub 12 1,qM 2 11,qM 3 13]))
def s127:SF:=⟨28,[],.seq (.reg [qM 4 0,qN 5 4,qC 6 .sub 5 1,qI 2 0,qM 3 6]) (.block 0 (.loop b127_0))⟩
theorem s127_ok:slimF Tryz.prog ⟨[107,108,109,116,120,126,127,167,169,170,171,172,194,196,198,209,222,226],[]⟩ Tryz.f127=some s127:=by kernel_rfl
theorem revcI60_E (l:List Int) (v:Nat) (z:Bool) (Hi:Heap) (hq:Hi 60=(⟨v,true,z,3,1,(List.map cI (l))⟩:Blk)) (hl:l.length≤1073741824):CallOK Tryz.prog 127 [(V.ms 60 v 0 (l.length))] Hi (V.tup []) (upd Hi 60 (⟨v,true,z,3,1,(List.map cI (l.reverse))⟩:Blk)):=by
 refine eW (k0:=600) Tryz.func127 s127_ok fun hB=>?_
 unfold s127
 dsimp only
 refine W_r (R_mv rfl (R_len_ms rfl hq (by simp) (R_sub rfl rfl (by omega) (by omega) (R_mv rfl (R_mv rfl (R_e (W_block fun Q1 n1 x1 y1 z1=>?_)))))))
 refine W_loop (fun mm T H=> ∃ (k:Nat),mm=l.length - k∧T 0=(V.ms 60 v 0 (l.length))∧T 2=(iV ((k:Nat):Int))∧T 3=(iV (((l.length:Nat):Int) - 1 - k))∧(∀ j,j∉[60]→H j=Hi j)∧H 60=(⟨v,true,z,3,1,(List.map cI (rvL l k))⟩:Blk)∧(2*k≤l.length+1)) ?_ ?_
 ·
  refine ⟨_,0,rfl,rfl,(Eq.trans (@rfl V (iV (0:Int))) rfl),(Eq.trans (@rfl V (iV (((l.length:Nat):Int) - (1:Int)))) (by (exact congrArg (V.int .i64) (by omega)))),(fun _ _=>rfl),(Eq.trans hq (by (rw [rv_zero]; done))),?_⟩
  · omega
 intro mm T H ⟨k,hmm,t0,t2,t3,hF,h60,hk⟩ Q2 p12 p22 p32
 unfold b127_0
 have q1:=rv_len l k
 refine W_seq_seq (W_r (R_mv t2 (R_mv t3 (R_lss rfl rfl (R_e ?_)))))
 refine W_seq_if rfl (fun c3=>?_) fun c3=>?_
 ·
  refine W_seq_skip (W_seq_blockg fun Q4 n4 x4 y4 z4=>(W_t (R_mv t0 (R_mv t2 (R_mv t0 (R_mv t3 (R_mv t0 ?_)))))))
  refine R_mv t3 (R_idxI_ms0 (i:=(((l.length:Nat):Int) - 1 - k)) (@rfl V (V.ms 60 v 0 (l.length))) (@rfl V (iV (((l.length:Nat):Int) - 1 - k))) h60 (okB_map (by omega)) rfl (by omega) (by omega) (R_load_mp (v:=(iV ((nth (rvL l k) (((((l.length:Nat):Int) - 1 - k)).toNat))))) rfl h60 (ldB_map (by omega) (by rfl)) (R_mv t0 (R_mv t2 (R_idx_ms0 (i:=k) (@rfl V (V.ms 60 v 0 (l.length))) (@rfl V (iV ((k:Nat):Int))) h60 (okB_map (by omega)) rfl (by omega) (R_load_mp (v:=(iV ((nth (rvL l k) (k))))) rfl h60 (ldB_map (by omega) (by rfl)) (R_idx_ms0 (i:=k) (@rfl V (V.ms 60 v 0 (l.length))) (@rfl V (iV ((k:Nat):Int))) h60 (okB_map (by omega)) rfl (by omega) ?_)))))))
  refine R_store (vs:=[(iV ((nth (rvL l k) (((((l.length:Nat):Int) - 1 - k)).toNat))))]) (B':=(⟨v,true,z,3,1,(List.map cI ((rvL l k).set k (((nth (rvL l k) (((((l.length:Nat):Int) - 1 - k)).toNat))))))⟩:Blk)) rfl rfl rfl h60 (stB_map (x:=(((nth (rvL l k) (((((l.length:Nat):Int) - 1 - k)).toNat))))) (i:=k) (by omega) rfl rfl rfl rfl) (R_idxI_ms0 (i:=(((l.length:Nat):Int) - 1 - k)) (@rfl V (V.ms 60 v 0 (l.length))) (@rfl V (iV (((l.length:Nat):Int) - 1 - k))) (@rfl Blk (⟨v,true,z,3,1,(List.map cI ((rvL l k).set k (((nth (rvL l k) (((((l.length:Nat):Int) - 1 - k)).toNat))))))⟩:Blk)) (okB_map (by (simp only [List.length_set]; omega))) rfl (by omega) (by omega) (R_store (vs:=[(iV ((nth (rvL l k) (k))))]) (B':=(⟨v,true,z,3,1,(List.map cI (((rvL l k).set k (((nth (rvL l k) (((((l.length:Nat):Int) - 1 - k)).toNat))))).set (((((l.length:Nat):Int) - 1 - k)).toNat) (((nth (rvL l k) (k))))))⟩:Blk)) rfl rfl rfl (@rfl Blk (⟨v,true,z,3,1,(List.map cI ((rvL l k).set k (((nth (rvL l k) (((((l.length:Nat):Int) - 1 - k)).toNat))))))⟩:Blk)) (stB_map (x:=(((nth (rvL l k) (k))))) (i:=(((((l.length:Nat):Int) - 1 - k)).toNat)) (by (simp only [List.length_set]; omega)) rfl rfl rfl rfl) (R_e (n4 _ _ (.done (W_t (R_mv t2 ?_)))))))
  refine R_addN rfl (@rfl V (iV ((1:Nat):Int))) (by omega) (R_mv t3 (R_sub rfl rfl (by omega) (by omega) (R_mv rfl (R_mv rfl (R_e ?_)))))
  refine p12 _ _ _ ?_ ⟨(k+1),rfl,t0,(Eq.trans (@rfl V (iV ((k+1:Nat):Int))) (by rfl)),(Eq.trans (@rfl V (iV ((((l.length:Nat):Int) - 1 - k) - (1:Int)))) (by (exact congrArg (V.int .i64) (by omega)))),(upd_out (upd_out hF (by decide)) (by decide)),(Eq.trans (@rfl Blk (⟨v,true,z,3,1,(List.map cI (((rvL l k).set k (((nth (rvL l k) (((((l.length:Nat):Int) - 1 - k)).toNat))))).set (((((l.length:Nat):Int) - 1 - k)).toNat) (((nth (rvL l k) (k))))))⟩:Blk)) (by (rw [show (((l.length:Nat):Int) - 1 - (k:Int)).toNat=l.length - 1 - k by omega,rv_step (by omega) (by omega)]; done))),?_⟩
  · omega
  · omega
 refine W_seq_exit (p32 _ _ _ (x1 _ _ (fork_ (R:=fun T H=>T 0=(V.ms 60 v 0 (l.length))∧T 2=(iV ((k:Nat):Int))∧T 3=(iV (((l.length:Nat):Int) - 1 - k))∧T 9=(V.bool (decide (((k:Nat):Int) < (((l.length:Nat):Int) - 1 - k))))∧(∀ j,j∉[60]→H j=Hi j)∧H 60=(⟨v,true,z,3,1,(List.map cI (rvL l k))⟩:Blk)∧True) ⟨t0,t2,t3,(@rfl V (V.bool (decide (((k:Nat):Int) < (((l.length:Nat):Int) - 1 - k))))),hF,h60,trivial⟩ ?_)))
 intro T H ⟨t0,t2,t3,t9,hF,h60,_⟩
 skip
 have fh:=FinX.fin (FinX.put (B:=(⟨v,true,z,3,1,(List.map cI (l.reverse))⟩:Blk)) (FinX.start hF) h60 (FinB.eq (by (rw [rv_end (by omega) (by omega)]; done))))
 exact RetF_0 fh
theorem dsplit_pure (t:Dt) (n:Int) (sf outs w other:List Int) (hb:Bd t) (hsf:sf.length≤1048576) (ho:outs.length≤1048576) (hw:w.length≤1048576) (hot:other.length≤1048576):PureC Tryz.prog 73 [(V.agg [(V.sl (List.map cN (t.nd)))]),(iV (n)),(ints sf),(ints outs),(ints w),(ints other)] (V.tup [(V.agg [(V.sl (List.map cN ((spT t n sf outs w other).nd)))]),(iV (spE t n sf outs w other))]):=by
 refine pW Tryz.func73 s73_ok fun hB=>?_
 unfold s73
 dsimp only
 have hbn:=hb.n
 refine W_r (R_box (i:=6) (n:=0) (m:=1) (cs:=[(V.sl (List.map cN (t.nd)))]) rfl (congrArg Blk.ver rfl) rfl rfl rfl (R_alloc (i:=12) (n:=0) (m:=1) rfl (congrArg Blk.ver rfl) rfl (R_mv rfl (R_e (W_seq_seq (W_r (R_lk rfl rfl rfl rfl ?_)))))))
 refine R_callk (dvalid_pure t hb) rfl (R_mv rfl (R_e (W_seq_seq (W_r (R_mv rfl (R_neq rfl rfl (R_e ?_)))))))
 refine W_seq_if rfl (fun c1=>?_) fun c1=>?_
 ·
  refine W_seq_seq (W_r (R_lk rfl rfl rfl rfl (R_mv rfl (R_sk rfl rfl rfl rfl rfl rfl rfl rfl rfl (R_mv rfl (R_e (W_seq_ret ?_)))))))
  refine RetC_2 (resV_c (u:=(V.agg [(V.sl (List.map cN (t.nd)))])) rfl (@rfl Blk (bk 1 24 1 [[(V.sl (List.map cN (t.nd)))]])) (lB oB rfl rfl)) (resV_t (@rfl V (iV (dvE t)))) (fz_agg1 (fz_sl ?_ (fun _=>by simp))) (fz_int ?_)
  · rw [spT_no (by unfold spE; rw [if_pos (by omega)]; omega)]
  · unfold spE; rw [if_pos (by omega)]
 refine W_seq_skip (W_seq_seq (W_r (R_lk rfl rfl rfl rfl (R_mv rfl (R_mv rfl (R_mv rfl (R_mv rfl ?_)))))))
 refine R_mv rfl (R_callk (dsplits_pure t ((n)) sf outs w other hb) rfl (R_mv rfl (R_e (W_seq_seq (W_r (R_mv rfl (R_neq rfl rfl ?_)))))))
 refine R_e ?_
 refine W_seq_if rfl (fun c2=>?_) fun c2=>?_
 ·
  refine W_seq_seq (W_r (R_lk rfl rfl rfl rfl (R_mv rfl (R_sk rfl rfl rfl rfl rfl rfl rfl rfl rfl (R_mv rfl (R_e (W_seq_ret ?_)))))))
  refine RetC_2 (resV_c (u:=(V.agg [(V.sl (List.map cN (t.nd)))])) rfl (@rfl Blk (bk 1 24 1 [[(V.sl (List.map cN (t.nd)))]])) (lB oB rfl rfl)) (resV_t (@rfl V (iV (spsE t ((n)) sf outs w other)))) (fz_agg1 (fz_sl ?_ (fun _=>by simp))) (fz_int ?_)
  · rw [spT_no (by unfold spE; rw [if_neg (by omega)]; omega)]
  · unfold spE; rw [if_neg (by omega)]
 have hE:spE t n sf outs w other=0:=by unfold spE; rw [if_neg (by omega)]; omega
 obtain ⟨y1,y2,y3,y4,y5,y6,y7,y8,y9⟩:=sp_ok hE
 obtain ⟨n0,n1,n2⟩:=no_ok y2
 have nb:n.toNat < t.nd.length:=by omega
 refine W_seq_skip (W_r (R_lk rfl rfl rfl rfl (R_callE (evcons rfl evnil) (copied_E t 0 0 0 0 0 0 _ hb (congrArg Blk.ver rfl) (congrArg Blk.ver rfl) (congrArg Blk.ver rfl) (congrArg Blk.ver rfl) (congrArg Blk.ver rfl) ⟨congrArg Blk.ver rfl,congrArg Blk.live rfl⟩) (R_alloc (i:=16) (n:=0) (m:=1) rfl (congrArg Blk.ver rfl) rfl (R_sk rfl rfl rfl rfl rfl rfl rfl rfl rfl (R_e (W_r ?_)))))))
 refine R_fk rfl rfl (R_lk rfl rfl rfl rfl (R_mv rfl (R_idxI_ms0 (i:=(n)) (@rfl V (V.ms 212 1 0 (t.nd.length))) (@rfl V (iV (n))) (@rfl Blk (bk 1 99 5 (List.map cN (t.nd)))) oB rfl (by omega) (by omega) (R_load_mp (v:=(V.agg (cN (((nth (t.nd) (((n)).toNat))))))) rfl (@rfl Blk (bk 1 99 5 (List.map cN (t.nd)))) (ldB_map (by omega) (by rfl)) (R_alloc (i:=17) (n:=0) (m:=5) rfl (congrArg Blk.ver rfl) rfl (R_sk rfl rfl rfl rfl rfl rfl rfl rfl rfl (R_e ?_)))))))
 refine W_seq_dregc (fun T H=>T 1=(iV (n))∧T 3=(ints outs)∧T 4=(ints w)∧T 5=(ints other)∧T 12=(V.mp 12 1 0 0)∧T 16=(V.mp 16 1 0 0)∧T 17=(V.mp 17 1 0 0)∧T 18=(V.mp 18 1 0 0)∧H 6=(bk 1 24 1 [[(V.sl (List.map cN (t.nd)))]])∧H 12=(bk 1 24 1 [[V.nilsl]])∧H 16=(bk 1 24 1 [[(V.ms 212 1 0 (t.nd.length))]])∧H 17=(bk 1 99 5 [(cN (((nth (t.nd) (((n)).toNat)))))])∧H 18=(bk 1 99 5 [[(V.bool false),V.nilsl,(ints (cat ([sf]))),(V.ms 52 1 0 (2)),(V.ms 60 1 0 (2))]])∧H 52=(bk 1 54 1 [[(ints (cat ([outs])))],[(ints (cat ([other])))]])∧H 60=(bk 1 3 1 [[(iV ((t.nd.length:Nat):Int))],[(iV ((t.nd.length+1:Nat):Int))]])∧H 201=(⟨1,false,false,0,0,[]⟩:Blk)∧H 202=(⟨1,false,false,0,0,[]⟩:Blk)∧H 205=(⟨0+t.nd.length,false,false,0,0,[]⟩:Blk)∧H 212=(bk 1 99 5 (List.map cN (t.nd)))∧H 228=(⟨0+t.nd.length*1048578,false,false,0,0,[]⟩:Blk)∧H 258=(⟨0+3*t.nd.length,false,false,0,0,[]⟩:Blk)∧True) (by exact (lateC rfl (lateC rfl (lateC rfl lateN)))) ?_ ?_
 ·
  refine R_mv rfl (R_bslice rfl rfl (R_callk (pjoin_pure ([sf]) (by simp only [cat,List.append_nil]; omega)) rfl (R_mv rfl (R_bslice rfl rfl (R_callk (pjoin_pure ([outs]) (by simp only [cat,List.append_nil]; omega)) rfl (R_mv rfl (R_bslice rfl rfl ?_)))))))
  refine R_callk (pjoin_pure ([other]) (by simp only [cat,List.append_nil]; omega)) rfl (R_fk rfl rfl (R_lk rfl rfl rfl rfl (R_len rfl (R_fk rfl rfl (R_lk rfl rfl rfl rfl (R_len rfl (R_addN rfl (@rfl V (iV ((1:Nat):Int))) (by omega) ?_)))))))
  refine R_bslice_own (i:=52) (n:=0) (qs:=[(0,(ints (cat ([outs])))),(1,(ints (cat ([other]))))]) (rows:=[[(ints (cat ([outs])))],[(ints (cat ([other])))]]) rfl (congrArg Blk.ver rfl) (mcons (congrArg (fun v=>(0,v)) rfl) (mcons (congrArg (fun v=>(1,v)) rfl) rfl)) rfl (R_bslice_own (i:=60) (n:=0) (qs:=[(0,(iV ((t.nd.length:Nat):Int))),(1,(iV ((t.nd.length+1:Nat):Int)))]) (rows:=[[(iV ((t.nd.length:Nat):Int))],[(iV ((t.nd.length+1:Nat):Int))]]) rfl (congrArg Blk.ver rfl) (mcons (congrArg (fun v=>(0,v)) rfl) (mcons (congrArg (fun v=>(1,v)) rfl) rfl)) rfl (R_build rfl rfl (R_alloc (i:=18) (n:=0) (m:=5) rfl (congrArg Blk.ver rfl) rfl (R_sk rfl rfl rfl rfl rfl rfl rfl rfl rfl ?_))))
  exact R_nil ⟨rfl,rfl,rfl,rfl,rfl,rfl,rfl,rfl,rfl,rfl,rfl,rfl,rfl,rfl,rfl,rfl,rfl,rfl,rfl,rfl,rfl,trivial⟩
 intro T H ⟨t1,t3,t4,t5,t12,t16,t17,t18,h6,h12,h16,h17,h18,h52,h60,h201,h202,h205,h212,h228,h258,_⟩
 refine W_seq_seq (W_r (R_mv t3 (R_mv t5 (R_callk (lex_pure outs other) rfl (R_gtr rfl rfl (R_e ?_))))))
 refine W_seq_if rfl (fun c3=>?_) fun c3=>?_
 ·
  have d7:=c3
  refine W_seq_seq (W_r (R_fk t18 h18 (R_lk rfl h18 rfl rfl (R_callE (evcons rfl evnil) (revcL52_E ([cat ([outs]),cat ([other])]) 1 false _ (show _=(bk 1 54 1 (List.map cL ([cat ([outs]),cat ([other])]))) from h52) (by simp)) (R_e (W_r (R_fk t18 h18 ?_)))))))
  refine R_lk rfl h18 rfl rfl (R_callE (evcons rfl evnil) (revcI60_E ([((t.nd.length:Nat):Int),((t.nd.length+1:Nat):Int)]) 1 false _ (show _=(bk 1 3 1 (List.map cI ([((t.nd.length:Nat):Int),((t.nd.length+1:Nat):Int)]))) from h60) (by simp)) (R_e ?_))
  refine W_seq_g (fun T H=>T 4=(ints w)∧T 12=(V.mp 12 1 0 0)∧T 16=(V.mp 16 1 0 0)∧T 17=(V.mp 17 1 0 0)∧H 6=(bk 1 24 1 [[(V.sl (List.map cN (t.nd)))]])∧H 12=(bk 1 24 1 [[V.nilsl]])∧H 16=(bk 1 24 1 [[(V.ms 212 1 0 (t.nd.length))]])∧H 17=(bk 1 99 5 [(cN (((nth (t.nd) (((n)).toNat)))))])∧H 18=(bk 1 99 5 [[(V.bool false),V.nilsl,(ints (cat ([sf]))),(V.ms 52 1 0 (2)),(V.ms 60 1 0 (2))]])∧H 52=(bk 1 54 1 (List.map cL (([cat ([outs]),cat ([other])]).reverse)))∧H 60=(bk 1 3 1 (List.map cI (([((t.nd.length:Nat):Int),((t.nd.length+1:Nat):Int)]).reverse)))∧H 201=(⟨1,false,false,0,0,[]⟩:Blk)∧H 202=(⟨1,false,false,0,0,[]⟩:Blk)∧H 205=(⟨0+t.nd.length,false,false,0,0,[]⟩:Blk)∧H 212=(bk 1 99 5 ((List.map cN (t.nd)).set (((n)).toNat) [(V.bool false),V.nilsl,(ints (cat ([sf]))),(V.ms 52 1 0 (2)),(V.ms 60 1 0 (2))]))∧H 228=(⟨0+t.nd.length*1048578,false,false,0,0,[]⟩:Blk)∧H 258=(⟨0+3*t.nd.length,false,false,0,0,[]⟩:Blk)∧True) ?_ ?_
  ·
   refine R_fk t16 h16 (R_lk rfl h16 rfl rfl (R_mv t1 (R_lk t18 h18 rfl rfl (R_idxI_ms0 (i:=(n)) (@rfl V (V.ms 212 1 0 (t.nd.length))) (@rfl V (iV (n))) h212 oB rfl (by omega) (by omega) (R_store (vs:=[(V.bool false),V.nilsl,(ints (cat ([sf]))),(V.ms 52 1 0 (2)),(V.ms 60 1 0 (2))]) (B':=(bk 1 99 5 ((List.map cN (t.nd)).set (((n)).toNat) [(V.bool false),V.nilsl,(ints (cat ([sf]))),(V.ms 52 1 0 (2)),(V.ms 60 1 0 (2))]))) rfl rfl rfl h212 (stB_setc (i:=(((n)).toNat)) (by omega) rfl rfl rfl) ?_)))))
   exact R_nil ⟨t4,t12,t16,t17,h6,h12,h16,h17,h18,rfl,rfl,h201,h202,h205,rfl,h228,h258,trivial⟩
  intro T H ⟨t4,t12,t16,t17,h6,h12,h16,h17,h18,h52,h60,h201,h202,h205,h212,h228,h258,_⟩
  refine nzs_map (rows:=List.map cN (t.nd)) (i:=(((n)).toNat)) (r':=[(V.bool false),(ints ([])),(ints (cat ([sf]))),(V.ms 52 1 0 (2)),(V.ms 60 1 0 (2))]) h212 (by (simp; omega)) rfl (fork_ (R:=fun T H=>T 4=(ints w)∧T 12=(V.mp 12 1 0 0)∧T 16=(V.mp 16 1 0 0)∧T 17=(V.mp 17 1 0 0)∧H 6=(bk 1 24 1 [[(V.sl (List.map cN (t.nd)))]])∧H 12=(bk 1 24 1 [[V.nilsl]])∧H 16=(bk 1 24 1 [[(V.ms 212 1 0 (t.nd.length))]])∧H 17=(bk 1 99 5 [(cN (((nth (t.nd) (((n)).toNat)))))])∧H 18=(bk 1 99 5 [[(V.bool false),V.nilsl,(ints (cat ([sf]))),(V.ms 52 1 0 (2)),(V.ms 60 1 0 (2))]])∧H 52=(bk 1 54 1 (List.map cL (([cat ([outs]),cat ([other])]).reverse)))∧H 60=(bk 1 3 1 (List.map cI (([((t.nd.length:Nat):Int),((t.nd.length+1:Nat):Int)]).reverse)))∧H 201=(⟨1,false,false,0,0,[]⟩:Blk)∧H 202=(⟨1,false,false,0,0,[]⟩:Blk)∧H 205=(⟨0+t.nd.length,false,false,0,0,[]⟩:Blk)∧H 212=(bk 1 99 5 ((List.map cN (t.nd)).set (((n)).toNat) [(V.bool false),(ints ([])),(ints (cat ([sf]))),(V.ms 52 1 0 (2)),(V.ms 60 1 0 (2))]))∧H 228=(⟨0+t.nd.length*1048578,false,false,0,0,[]⟩:Blk)∧H 258=(⟨0+3*t.nd.length,false,false,0,0,[]⟩:Blk)∧True) ⟨t4,t12,t16,t17,((upd_ne _ _ (by decide)).trans h6),((upd_ne _ _ (by decide)).trans h12),((upd_ne _ _ (by decide)).trans h16),((upd_ne _ _ (by decide)).trans h17),((upd_ne _ _ (by decide)).trans h18),((upd_ne _ _ (by decide)).trans h52),((upd_ne _ _ (by decide)).trans h60),((upd_ne _ _ (by decide)).trans h201),((upd_ne _ _ (by decide)).trans h202),((upd_ne _ _ (by decide)).trans h205),(upd_same _ _ _),((upd_ne _ _ (by decide)).trans h228),((upd_ne _ _ (by decide)).trans h258),trivial⟩ ?_)
  intro T H ⟨t4,t12,t16,t17,h6,h12,h16,h17,h18,h52,h60,h201,h202,h205,h212,h228,h258,_⟩
  refine frz_cellg (id:=52) (id2:=212) (rows:=(List.map cN (t.nd))) (i:=(((n)).toNat)) (off:=3) (r:=[(V.bool false),(ints ([])),(ints (cat ([sf]))),(V.ms 52 1 0 (2)),(V.ms 60 1 0 (2))]) (m:=(([cat ([outs]),cat ([other])]).reverse)) (g:=cL) (by decide) h52 h212 (by (simp; omega)) (by rfl) rfl (fork_ (R:=fun T H=>T 4=(ints w)∧T 12=(V.mp 12 1 0 0)∧T 16=(V.mp 16 1 0 0)∧T 17=(V.mp 17 1 0 0)∧H 6=(bk 1 24 1 [[(V.sl (List.map cN (t.nd)))]])∧H 12=(bk 1 24 1 [[V.nilsl]])∧H 16=(bk 1 24 1 [[(V.ms 212 1 0 (t.nd.length))]])∧H 17=(bk 1 99 5 [(cN (((nth (t.nd) (((n)).toNat)))))])∧H 18=(bk 1 99 5 [[(V.bool false),V.nilsl,(ints (cat ([sf]))),(V.ms 52 1 0 (2)),(V.ms 60 1 0 (2))]])∧((H 52).ver=1∧(H 52).live=false)∧H 60=(bk 1 3 1 (List.map cI (([((t.nd.length:Nat):Int),((t.nd.length+1:Nat):Int)]).reverse)))∧H 201=(⟨1,false,false,0,0,[]⟩:Blk)∧H 202=(⟨1,false,false,0,0,[]⟩:Blk)∧H 205=(⟨0+t.nd.length,false,false,0,0,[]⟩:Blk)∧H 212=(bk 1 99 5 ((List.map cN (t.nd)).set (((n)).toNat) [(V.bool false),(ints ([])),(ints (cat ([sf]))),(intss (([cat ([outs]),cat ([other])]).reverse)),(V.ms 60 1 0 (2))]))∧H 228=(⟨0+t.nd.length*1048578,false,false,0,0,[]⟩:Blk)∧H 258=(⟨0+3*t.nd.length,false,false,0,0,[]⟩:Blk)∧True) ⟨(fzT_q t4 rfl),(fzT_q t12 rfl),(fzT_q t16 rfl),(fzT_q t17 rfl),((upd_ne _ _ (by decide)).trans (kill_ne h6 (by decide))),((upd_ne _ _ (by decide)).trans (kill_ne h12 (by decide))),((upd_ne _ _ (by decide)).trans (kill_ne h16 (by decide))),((upd_ne _ _ (by decide)).trans (kill_ne h17 (by decide))),((upd_ne _ _ (by decide)).trans (kill_ne h18 (by decide))),⟨(congrArg Blk.ver (upd_ne _ _ (by decide))).trans (kill_self (congrArg Blk.ver h52)).1,(congrArg Blk.live (upd_ne _ _ (by decide))).trans (kill_self (congrArg Blk.ver h52)).2⟩,((upd_ne _ _ (by decide)).trans (kill_ne h60 (by decide))),((upd_ne _ _ (by decide)).trans (kill_ne h201 (by decide))),((upd_ne _ _ (by decide)).trans (kill_ne h202 (by decide))),((upd_ne _ _ (by decide)).trans (kill_ne h205 (by decide))),(upd_same _ _ _),((upd_ne _ _ (by decide)).trans (kill_ne h228 (by decide))),((upd_ne _ _ (by decide)).trans (kill_ne h258 (by decide))),trivial⟩ ?_)
  intro T H ⟨t4,t12,t16,t17,h6,h12,h16,h17,h18,h52,h60,h201,h202,h205,h212,h228,h258,_⟩
  refine frz_cellg (id:=60) (id2:=212) (rows:=(List.map cN (t.nd))) (i:=(((n)).toNat)) (off:=4) (r:=[(V.bool false),(ints ([])),(ints (cat ([sf]))),(intss (([cat ([outs]),cat ([other])]).reverse)),(V.ms 60 1 0 (2))]) (m:=(([((t.nd.length:Nat):Int),((t.nd.length+1:Nat):Int)]).reverse)) (g:=cI) (by decide) h60 h212 (by (simp; omega)) (by rfl) rfl (.done ?_)
  refine fork_ (R:=fun T H=>T 4=(ints w)∧T 12=(V.mp 12 1 0 0)∧T 16=(V.mp 16 1 0 0)∧T 17=(V.mp 17 1 0 0)∧H 6=(bk 1 24 1 [[(V.sl (List.map cN (t.nd)))]])∧H 12=(bk 1 24 1 [[V.nilsl]])∧H 16=(bk 1 24 1 [[(V.ms 212 1 0 (t.nd.length))]])∧H 17=(bk 1 99 5 [(cN (((nth (t.nd) (((n)).toNat)))))])∧H 18=(bk 1 99 5 [[(V.bool false),V.nilsl,(ints (cat ([sf]))),(V.ms 52 1 0 (2)),(V.ms 60 1 0 (2))]])∧((H 52).ver=1∧(H 52).live=false)∧((H 60).ver=1∧(H 60).live=false)∧H 201=(⟨1,false,false,0,0,[]⟩:Blk)∧H 202=(⟨1,false,false,0,0,[]⟩:Blk)∧H 205=(⟨0+t.nd.length,false,false,0,0,[]⟩:Blk)∧H 212=(bk 1 99 5 (List.map cN ((t.nd).set (((n)).toNat) ((⟨false,[],cat ([sf]),([cat ([outs]),cat ([other])]).reverse,([((t.nd.length:Nat):Int),((t.nd.length+1:Nat):Int)]).reverse⟩:Nd)))))∧H 228=(⟨0+t.nd.length*1048578,false,false,0,0,[]⟩:Blk)∧H 258=(⟨0+3*t.nd.length,false,false,0,0,[]⟩:Blk)∧True) ⟨(fzT_q t4 rfl),(fzT_q t12 rfl),(fzT_q t16 rfl),(fzT_q t17 rfl),((upd_ne _ _ (by decide)).trans (kill_ne h6 (by decide))),((upd_ne _ _ (by decide)).trans (kill_ne h12 (by decide))),((upd_ne _ _ (by decide)).trans (kill_ne h16 (by decide))),((upd_ne _ _ (by decide)).trans (kill_ne h17 (by decide))),((upd_ne _ _ (by decide)).trans (kill_ne h18 (by decide))),⟨(congrArg Blk.ver (upd_ne _ _ (by decide))).trans (kill_dead h52).1,(congrArg Blk.live (upd_ne _ _ (by decide))).trans (kill_dead h52).2⟩,⟨(congrArg Blk.ver (upd_ne _ _ (by decide))).trans (kill_self (congrArg Blk.ver h60)).1,(congrArg Blk.live (upd_ne _ _ (by decide))).trans (kill_self (congrArg Blk.ver h60)).2⟩,((upd_ne _ _ (by decide)).trans (kill_ne h201 (by decide))),((upd_ne _ _ (by decide)).trans (kill_ne h202 (by decide))),((upd_ne _ _ (by decide)).trans (kill_ne h205 (by decide))),(Eq.trans (upd_same _ _ _) (by (rw [List.map_set]; rfl))),((upd_ne _ _ (by decide)).trans (kill_ne h228 (by decide))),((upd_ne _ _ (by decide)).trans (kill_ne h258 (by decide))),trivial⟩ ?_
  intro T H ⟨t4,t12,t16,t17,h6,h12,h16,h17,h18,h52,h60,h201,h202,h205,h212,h228,h258,_⟩
  refine W_seq_g (fun T H=>T 12=(V.mp 12 1 0 0)∧T 16=(V.mp 16 1 0 0)∧H 6=(bk 1 24 1 [[(V.sl (List.map cN (t.nd)))]])∧H 12=(bk 1 24 1 [[V.nilsl]])∧H 16=(bk 1 24 1 [[(V.ms 212 2 0 (t.nd.length+2))]])∧H 17=(bk 1 99 5 [(cN (((nth (t.nd) (((n)).toNat)))))])∧H 18=(bk 1 99 5 [[(V.bool false),V.nilsl,(ints (cat ([sf]))),(V.ms 52 1 0 (2)),(V.ms 60 1 0 (2))]])∧((H 52).ver=1∧(H 52).live=false)∧((H 60).ver=1∧(H 60).live=false)∧H 201=(⟨1,false,false,0,0,[]⟩:Blk)∧H 202=(⟨1,false,false,0,0,[]⟩:Blk)∧H 205=(⟨0+t.nd.length,false,false,0,0,[]⟩:Blk)∧H 212=(bk 2 99 5 (List.map cN ((t.nd).set (((n)).toNat) ((⟨false,[],cat ([sf]),([cat ([outs]),cat ([other])]).reverse,([((t.nd.length:Nat):Int),((t.nd.length+1:Nat):Int)]).reverse⟩:Nd)))++[(cN (((nth (t.nd) (((n)).toNat))))),[(V.bool true),(ints (cat ([w]))),V.nilsl,V.nilsl,V.nilsl]]))∧H 228=(⟨0+t.nd.length*1048578,false,false,0,0,[]⟩:Blk)∧H 258=(⟨0+3*t.nd.length,false,false,0,0,[]⟩:Blk)∧True) ?_ ?_
  ·
   refine R_fk t16 h16 (R_lk rfl h16 rfl rfl (R_lk t17 h17 rfl rfl (R_mv t4 (R_bslice rfl rfl (R_callk (pjoin_pure ([w]) (by simp only [cat,List.append_nil]; omega)) rfl (R_build rfl rfl (R_bslice rfl rfl ?_)))))))
   refine R_appendN (l:=((t.nd).set (((n)).toNat) ((⟨false,[],cat ([sf]),([cat ([outs]),cat ([other])]).reverse,([((t.nd.length:Nat):Int),((t.nd.length+1:Nat):Int)]).reverse⟩:Nd)))) (f:=cN) (@rfl V (V.ms 212 1 0 (t.nd.length))) h212 (by simp) (@rfl V (V.sl [(cN (((nth (t.nd) (((n)).toNat))))),[(V.bool true),(ints (cat ([w]))),V.nilsl,V.nilsl,V.nilsl]])) (by simp [fitRows,V.one]) (by (simp; omega)) (by (simp; omega)) (R_fk t16 h16 (R_sk rfl rfl rfl h16 rfl rfl rfl rfl rfl ?_))
   exact R_nil ⟨t12,t16,h6,h12,rfl,h17,h18,h52,h60,h201,h202,h205,rfl,h228,h258,trivial⟩
  intro T H ⟨t12,t16,h6,h12,h16,h17,h18,h52,h60,h201,h202,h205,h212,h228,h258,_⟩
  refine nza_map (l:=((t.nd).set (((n)).toNat) ((⟨false,[],cat ([sf]),([cat ([outs]),cat ([other])]).reverse,([((t.nd.length:Nat):Int),((t.nd.length+1:Nat):Int)]).reverse⟩:Nd)))) (m:=([((nth (t.nd) (((n)).toNat))),(⟨true,cat ([w]),[],[],[]⟩:Nd)])) (f:=cN) h212 rfl (.done ?_)
  refine fork_ (R:=fun T H=>T 12=(V.mp 12 1 0 0)∧T 16=(V.mp 16 1 0 0)∧H 6=(bk 1 24 1 [[(V.sl (List.map cN (t.nd)))]])∧H 12=(bk 1 24 1 [[V.nilsl]])∧H 16=(bk 1 24 1 [[(V.ms 212 2 0 (t.nd.length+2))]])∧H 17=(bk 1 99 5 [(cN (((nth (t.nd) (((n)).toNat)))))])∧H 18=(bk 1 99 5 [[(V.bool false),V.nilsl,(ints (cat ([sf]))),(V.ms 52 1 0 (2)),(V.ms 60 1 0 (2))]])∧((H 52).ver=1∧(H 52).live=false)∧((H 60).ver=1∧(H 60).live=false)∧H 201=(⟨1,false,false,0,0,[]⟩:Blk)∧H 202=(⟨1,false,false,0,0,[]⟩:Blk)∧H 205=(⟨0+t.nd.length,false,false,0,0,[]⟩:Blk)∧H 212=(bk 2 99 5 (List.map cN ((t.nd).set (((n)).toNat) ((⟨false,[],cat ([sf]),([cat ([outs]),cat ([other])]).reverse,([((t.nd.length:Nat):Int),((t.nd.length+1:Nat):Int)]).reverse⟩:Nd))++[((nth (t.nd) (((n)).toNat))),(⟨true,cat ([w]),[],[],[]⟩:Nd)])))∧H 228=(⟨0+t.nd.length*1048578,false,false,0,0,[]⟩:Blk)∧H 258=(⟨0+3*t.nd.length,false,false,0,0,[]⟩:Blk)∧True) ⟨t12,t16,((upd_ne _ _ (by decide)).trans h6),((upd_ne _ _ (by decide)).trans h12),((upd_ne _ _ (by decide)).trans h16),((upd_ne _ _ (by decide)).trans h17),((upd_ne _ _ (by decide)).trans h18),⟨(congrArg Blk.ver (upd_ne _ _ (by decide))).trans (h52).1,(congrArg Blk.live (upd_ne _ _ (by decide))).trans (h52).2⟩,⟨(congrArg Blk.ver (upd_ne _ _ (by decide))).trans (h60).1,(congrArg Blk.live (upd_ne _ _ (by decide))).trans (h60).2⟩,((upd_ne _ _ (by decide)).trans h201),((upd_ne _ _ (by decide)).trans h202),((upd_ne _ _ (by decide)).trans h205),(upd_same _ _ _),((upd_ne _ _ (by decide)).trans h228),((upd_ne _ _ (by decide)).trans h258),trivial⟩ ?_
  intro T H ⟨t12,t16,h6,h12,h16,h17,h18,h52,h60,h201,h202,h205,h212,h228,h258,_⟩
  refine W_r (R_lk t16 h16 rfl rfl (R_sk t12 rfl rfl h12 rfl rfl rfl rfl rfl (R_mv rfl (R_e (W_ret ?_)))))
  refine RetC_2 (resV_c (u:=(V.agg [(V.ms 212 2 0 (t.nd.length+2))])) t12 (@rfl Blk (bk 1 24 1 [[(V.ms 212 2 0 (t.nd.length+2))]])) (lB oB rfl rfl)) (resV_t (@rfl V (iV (0:Int)))) (fz_agg1 (fz_ms h212 (by rfl) (l:=((t.nd).set (((n)).toNat) ((⟨false,[],cat ([sf]),([cat ([outs]),cat ([other])]).reverse,([((t.nd.length:Nat):Int),((t.nd.length+1:Nat):Int)]).reverse⟩:Nd))++[((nth (t.nd) (((n)).toNat))),(⟨true,cat ([w]),[],[],[]⟩:Nd)])) rfl (by simp) (fun _=>by simp) ?_)) (fz_int ?_)
  · rw [spT_yes hE]; unfold spN spO spK; rw [if_pos d7,if_pos d7]; simp [cat1,lfN]
  · exact hE.symm
 have d7:=c3
 refine W_seq_skip ?_
 refine W_seq_g (fun T H=>T 4=(ints w)∧T 12=(V.mp 12 1 0 0)∧T 16=(V.mp 16 1 0 0)∧T 17=(V.mp 17 1 0 0)∧H 6=(bk 1 24 1 [[(V.sl (List.map cN (t.nd)))]])∧H 12=(bk 1 24 1 [[V.nilsl]])∧H 16=(bk 1 24 1 [[(V.ms 212 1 0 (t.nd.length))]])∧H 17=(bk 1 99 5 [(cN (((nth (t.nd) (((n)).toNat)))))])∧H 18=(bk 1 99 5 [[(V.bool false),V.nilsl,(ints (cat ([sf]))),(V.ms 52 1 0 (2)),(V.ms 60 1 0 (2))]])∧H 52=(bk 1 54 1 [[(ints (cat ([outs])))],[(ints (cat ([other])))]])∧H 60=(bk 1 3 1 [[(iV ((t.nd.length:Nat):Int))],[(iV ((t.nd.length+1:Nat):Int))]])∧H 201=(⟨1,false,false,0,0,[]⟩:Blk)∧H 202=(⟨1,false,false,0,0,[]⟩:Blk)∧H 205=(⟨0+t.nd.length,false,false,0,0,[]⟩:Blk)∧H 212=(bk 1 99 5 ((List.map cN (t.nd)).set (((n)).toNat) [(V.bool false),V.nilsl,(ints (cat ([sf]))),(V.ms 52 1 0 (2)),(V.ms 60 1 0 (2))]))∧H 228=(⟨0+t.nd.length*1048578,false,false,0,0,[]⟩:Blk)∧H 258=(⟨0+3*t.nd.length,false,false,0,0,[]⟩:Blk)∧True) ?_ ?_
 ·
  refine R_fk t16 h16 (R_lk rfl h16 rfl rfl (R_mv t1 (R_lk t18 h18 rfl rfl (R_idxI_ms0 (i:=(n)) (@rfl V (V.ms 212 1 0 (t.nd.length))) (@rfl V (iV (n))) h212 oB rfl (by omega) (by omega) (R_store (vs:=[(V.bool false),V.nilsl,(ints (cat ([sf]))),(V.ms 52 1 0 (2)),(V.ms 60 1 0 (2))]) (B':=(bk 1 99 5 ((List.map cN (t.nd)).set (((n)).toNat) [(V.bool false),V.nilsl,(ints (cat ([sf]))),(V.ms 52 1 0 (2)),(V.ms 60 1 0 (2))]))) rfl rfl rfl h212 (stB_setc (i:=(((n)).toNat)) (by omega) rfl rfl rfl) ?_)))))
  exact R_nil ⟨t4,t12,t16,t17,h6,h12,h16,h17,h18,h52,h60,h201,h202,h205,rfl,h228,h258,trivial⟩
 intro T H ⟨t4,t12,t16,t17,h6,h12,h16,h17,h18,h52,h60,h201,h202,h205,h212,h228,h258,_⟩
 refine nzs_map (rows:=List.map cN (t.nd)) (i:=(((n)).toNat)) (r':=[(V.bool false),(ints ([])),(ints (cat ([sf]))),(V.ms 52 1 0 (2)),(V.ms 60 1 0 (2))]) h212 (by (simp; omega)) rfl (fork_ (R:=fun T H=>T 4=(ints w)∧T 12=(V.mp 12 1 0 0)∧T 16=(V.mp 16 1 0 0)∧T 17=(V.mp 17 1 0 0)∧H 6=(bk 1 24 1 [[(V.sl (List.map cN (t.nd)))]])∧H 12=(bk 1 24 1 [[V.nilsl]])∧H 16=(bk 1 24 1 [[(V.ms 212 1 0 (t.nd.length))]])∧H 17=(bk 1 99 5 [(cN (((nth (t.nd) (((n)).toNat)))))])∧H 18=(bk 1 99 5 [[(V.bool false),V.nilsl,(ints (cat ([sf]))),(V.ms 52 1 0 (2)),(V.ms 60 1 0 (2))]])∧H 52=(bk 1 54 1 [[(ints (cat ([outs])))],[(ints (cat ([other])))]])∧H 60=(bk 1 3 1 [[(iV ((t.nd.length:Nat):Int))],[(iV ((t.nd.length+1:Nat):Int))]])∧H 201=(⟨1,false,false,0,0,[]⟩:Blk)∧H 202=(⟨1,false,false,0,0,[]⟩:Blk)∧H 205=(⟨0+t.nd.length,false,false,0,0,[]⟩:Blk)∧H 212=(bk 1 99 5 ((List.map cN (t.nd)).set (((n)).toNat) [(V.bool false),(ints ([])),(ints (cat ([sf]))),(V.ms 52 1 0 (2)),(V.ms 60 1 0 (2))]))∧H 228=(⟨0+t.nd.length*1048578,false,false,0,0,[]⟩:Blk)∧H 258=(⟨0+3*t.nd.length,false,false,0,0,[]⟩:Blk)∧True) ⟨t4,t12,t16,t17,((upd_ne _ _ (by decide)).trans h6),((upd_ne _ _ (by decide)).trans h12),((upd_ne _ _ (by decide)).trans h16),((upd_ne _ _ (by decide)).trans h17),((upd_ne _ _ (by decide)).trans h18),((upd_ne _ _ (by decide)).trans h52),((upd_ne _ _ (by decide)).trans h60),((upd_ne _ _ (by decide)).trans h201),((upd_ne _ _ (by decide)).trans h202),((upd_ne _ _ (by decide)).trans h205),(upd_same _ _ _),((upd_ne _ _ (by decide)).trans h228),((upd_ne _ _ (by decide)).trans h258),trivial⟩ ?_)
 intro T H ⟨t4,t12,t16,t17,h6,h12,h16,h17,h18,h52,h60,h201,h202,h205,h212,h228,h258,_⟩
 refine frz_cellg (id:=52) (id2:=212) (rows:=(List.map cN (t.nd))) (i:=(((n)).toNat)) (off:=3) (r:=[(V.bool false),(ints ([])),(ints (cat ([sf]))),(V.ms 52 1 0 (2)),(V.ms 60 1 0 (2))]) (m:=([cat ([outs]),cat ([other])])) (g:=cL) (by decide) (show _=(bk 1 54 1 (List.map cL ([cat ([outs]),cat ([other])]))) from h52) h212 (by (simp; omega)) (by rfl) rfl (fork_ (R:=fun T H=>T 4=(ints w)∧T 12=(V.mp 12 1 0 0)∧T 16=(V.mp 16 1 0 0)∧T 17=(V.mp 17 1 0 0)∧H 6=(bk 1 24 1 [[(V.sl (List.map cN (t.nd)))]])∧H 12=(bk 1 24 1 [[V.nilsl]])∧H 16=(bk 1 24 1 [[(V.ms 212 1 0 (t.nd.length))]])∧H 17=(bk 1 99 5 [(cN (((nth (t.nd) (((n)).toNat)))))])∧H 18=(bk 1 99 5 [[(V.bool false),V.nilsl,(ints (cat ([sf]))),(V.ms 52 1 0 (2)),(V.ms 60 1 0 (2))]])∧((H 52).ver=1∧(H 52).live=false)∧H 60=(bk 1 3 1 [[(iV ((t.nd.length:Nat):Int))],[(iV ((t.nd.length+1:Nat):Int))]])∧H 201=(⟨1,false,false,0,0,[]⟩:Blk)∧H 202=(⟨1,false,false,0,0,[]⟩:Blk)∧H 205=(⟨0+t.nd.length,false,false,0,0,[]⟩:Blk)∧H 212=(bk 1 99 5 ((List.map cN (t.nd)).set (((n)).toNat) [(V.bool false),(ints ([])),(ints (cat ([sf]))),(intss ([cat ([outs]),cat ([other])])),(V.ms 60 1 0 (2))]))∧H 228=(⟨0+t.nd.length*1048578,false,false,0,0,[]⟩:Blk)∧H 258=(⟨0+3*t.nd.length,false,false,0,0,[]⟩:Blk)∧True) ⟨(fzT_q t4 rfl),(fzT_q t12 rfl),(fzT_q t16 rfl),(fzT_q t17 rfl),((upd_ne _ _ (by decide)).trans (kill_ne h6 (by decide))),((upd_ne _ _ (by decide)).trans (kill_ne h12 (by decide))),((upd_ne _ _ (by decide)).trans (kill_ne h16 (by decide))),((upd_ne _ _ (by decide)).trans (kill_ne h17 (by decide))),((upd_ne _ _ (by decide)).trans (kill_ne h18 (by decide))),⟨(congrArg Blk.ver (upd_ne _ _ (by decide))).trans (kill_self (congrArg Blk.ver h52)).1,(congrArg Blk.live (upd_ne _ _ (by decide))).trans (kill_self (congrArg Blk.ver h52)).2⟩,((upd_ne _ _ (by decide)).trans (kill_ne h60 (by decide))),((upd_ne _ _ (by decide)).trans (kill_ne h201 (by decide))),((upd_ne _ _ (by decide)).trans (kill_ne h202 (by decide))),((upd_ne _ _ (by decide)).trans (kill_ne h205 (by decide))),(upd_same _ _ _),((upd_ne _ _ (by decide)).trans (kill_ne h228 (by decide))),((upd_ne _ _ (by decide)).trans (kill_ne h258 (by decide))),trivial⟩ ?_)
 intro T H ⟨t4,t12,t16,t17,h6,h12,h16,h17,h18,h52,h60,h201,h202,h205,h212,h228,h258,_⟩
 refine frz_cellg (id:=60) (id2:=212) (rows:=(List.map cN (t.nd))) (i:=(((n)).toNat)) (off:=4) (r:=[(V.bool false),(ints ([])),(ints (cat ([sf]))),(intss ([cat ([outs]),cat ([other])])),(V.ms 60 1 0 (2))]) (m:=([((t.nd.length:Nat):Int),((t.nd.length+1:Nat):Int)])) (g:=cI) (by decide) (show _=(bk 1 3 1 (List.map cI ([((t.nd.length:Nat):Int),((t.nd.length+1:Nat):Int)]))) from h60) h212 (by (simp; omega)) (by rfl) rfl (.done ?_)
 refine fork_ (R:=fun T H=>T 4=(ints w)∧T 12=(V.mp 12 1 0 0)∧T 16=(V.mp 16 1 0 0)∧T 17=(V.mp 17 1 0 0)∧H 6=(bk 1 24 1 [[(V.sl (List.map cN (t.nd)))]])∧H 12=(bk 1 24 1 [[V.nilsl]])∧H 16=(bk 1 24 1 [[(V.ms 212 1 0 (t.nd.length))]])∧H 17=(bk 1 99 5 [(cN (((nth (t.nd) (((n)).toNat)))))])∧H 18=(bk 1 99 5 [[(V.bool false),V.nilsl,(ints (cat ([sf]))),(V.ms 52 1 0 (2)),(V.ms 60 1 0 (2))]])∧((H 52).ver=1∧(H 52).live=false)∧((H 60).ver=1∧(H 60).live=false)∧H 201=(⟨1,false,false,0,0,[]⟩:Blk)∧H 202=(⟨1,false,false,0,0,[]⟩:Blk)∧H 205=(⟨0+t.nd.length,false,false,0,0,[]⟩:Blk)∧H 212=(bk 1 99 5 (List.map cN ((t.nd).set (((n)).toNat) ((⟨false,[],cat ([sf]),[cat ([outs]),cat ([other])],[((t.nd.length:Nat):Int),((t.nd.length+1:Nat):Int)]⟩:Nd)))))∧H 228=(⟨0+t.nd.length*1048578,false,false,0,0,[]⟩:Blk)∧H 258=(⟨0+3*t.nd.length,false,false,0,0,[]⟩:Blk)∧True) ⟨(fzT_q t4 rfl),(fzT_q t12 rfl),(fzT_q t16 rfl),(fzT_q t17 rfl),((upd_ne _ _ (by decide)).trans (kill_ne h6 (by decide))),((upd_ne _ _ (by decide)).trans (kill_ne h12 (by decide))),((upd_ne _ _ (by decide)).trans (kill_ne h16 (by decide))),((upd_ne _ _ (by decide)).trans (kill_ne h17 (by decide))),((upd_ne _ _ (by decide)).trans (kill_ne h18 (by decide))),⟨(congrArg Blk.ver (upd_ne _ _ (by decide))).trans (kill_dead h52).1,(congrArg Blk.live (upd_ne _ _ (by decide))).trans (kill_dead h52).2⟩,⟨(congrArg Blk.ver (upd_ne _ _ (by decide))).trans (kill_self (congrArg Blk.ver h60)).1,(congrArg Blk.live (upd_ne _ _ (by decide))).trans (kill_self (congrArg Blk.ver h60)).2⟩,((upd_ne _ _ (by decide)).trans (kill_ne h201 (by decide))),((upd_ne _ _ (by decide)).trans (kill_ne h202 (by decide))),((upd_ne _ _ (by decide)).trans (kill_ne h205 (by decide))),(Eq.trans (upd_same _ _ _) (by (rw [List.map_set]; rfl))),((upd_ne _ _ (by decide)).trans (kill_ne h228 (by decide))),((upd_ne _ _ (by decide)).trans (kill_ne h258 (by decide))),trivial⟩ ?_
 intro T H ⟨t4,t12,t16,t17,h6,h12,h16,h17,h18,h52,h60,h201,h202,h205,h212,h228,h258,_⟩
 refine W_seq_g (fun T H=>T 12=(V.mp 12 1 0 0)∧T 16=(V.mp 16 1 0 0)∧H 6=(bk 1 24 1 [[(V.sl (List.map cN (t.nd)))]])∧H 12=(bk 1 24 1 [[V.nilsl]])∧H 16=(bk 1 24 1 [[(V.ms 212 2 0 (t.nd.length+2))]])∧H 17=(bk 1 99 5 [(cN (((nth (t.nd) (((n)).toNat)))))])∧H 18=(bk 1 99 5 [[(V.bool false),V.nilsl,(ints (cat ([sf]))),(V.ms 52 1 0 (2)),(V.ms 60 1 0 (2))]])∧((H 52).ver=1∧(H 52).live=false)∧((H 60).ver=1∧(H 60).live=false)∧H 201=(⟨1,false,false,0,0,[]⟩:Blk)∧H 202=(⟨1,false,false,0,0,[]⟩:Blk)∧H 205=(⟨0+t.nd.length,false,false,0,0,[]⟩:Blk)∧H 212=(bk 2 99 5 (List.map cN ((t.nd).set (((n)).toNat) ((⟨false,[],cat ([sf]),[cat ([outs]),cat ([other])],[((t.nd.length:Nat):Int),((t.nd.length+1:Nat):Int)]⟩:Nd)))++[(cN (((nth (t.nd) (((n)).toNat))))),[(V.bool true),(ints (cat ([w]))),V.nilsl,V.nilsl,V.nilsl]]))∧H 228=(⟨0+t.nd.length*1048578,false,false,0,0,[]⟩:Blk)∧H 258=(⟨0+3*t.nd.length,false,false,0,0,[]⟩:Blk)∧True) ?_ ?_
 ·
  refine R_fk t16 h16 (R_lk rfl h16 rfl rfl (R_lk t17 h17 rfl rfl (R_mv t4 (R_bslice rfl rfl (R_callk (pjoin_pure ([w]) (by simp only [cat,List.append_nil]; omega)) rfl (R_build rfl rfl (R_bslice rfl rfl ?_)))))))
  refine R_appendN (l:=((t.nd).set (((n)).toNat) ((⟨false,[],cat ([sf]),[cat ([outs]),cat ([other])],[((t.nd.length:Nat):Int),((t.nd.length+1:Nat):Int)]⟩:Nd)))) (f:=cN) (@rfl V (V.ms 212 1 0 (t.nd.length))) h212 (by simp) (@rfl V (V.sl [(cN (((nth (t.nd) (((n)).toNat))))),[(V.bool true),(ints (cat ([w]))),V.nilsl,V.nilsl,V.nilsl]])) (by simp [fitRows,V.one]) (by (simp; omega)) (by (simp; omega)) (R_fk t16 h16 (R_sk rfl rfl rfl h16 rfl rfl rfl rfl rfl ?_))
  exact R_nil ⟨t12,t16,h6,h12,rfl,h17,h18,h52,h60,h201,h202,h205,rfl,h228,h258,trivial⟩
 intro T H ⟨t12,t16,h6,h12,h16,h17,h18,h52,h60,h201,h202,h205,h212,h228,h258,_⟩
 refine nza_map (l:=((t.nd).set (((n)).toNat) ((⟨false,[],cat ([sf]),[cat ([outs]),cat ([other])],[((t.nd.length:Nat):Int),((t.nd.length+1:Nat):Int)]⟩:Nd)))) (m:=([((nth (t.nd) (((n)).toNat))),(⟨true,cat ([w]),[],[],[]⟩:Nd)])) (f:=cN) h212 rfl (.done ?_)
 refine fork_ (R:=fun T H=>T 12=(V.mp 12 1 0 0)∧T 16=(V.mp 16 1 0 0)∧H 6=(bk 1 24 1 [[(V.sl (List.map cN (t.nd)))]])∧H 12=(bk 1 24 1 [[V.nilsl]])∧H 16=(bk 1 24 1 [[(V.ms 212 2 0 (t.nd.length+2))]])∧H 17=(bk 1 99 5 [(cN (((nth (t.nd) (((n)).toNat)))))])∧H 18=(bk 1 99 5 [[(V.bool false),V.nilsl,(ints (cat ([sf]))),(V.ms 52 1 0 (2)),(V.ms 60 1 0 (2))]])∧((H 52).ver=1∧(H 52).live=false)∧((H 60).ver=1∧(H 60).live=false)∧H 201=(⟨1,false,false,0,0,[]⟩:Blk)∧H 202=(⟨1,false,false,0,0,[]⟩:Blk)∧H 205=(⟨0+t.nd.length,false,false,0,0,[]⟩:Blk)∧H 212=(bk 2 99 5 (List.map cN ((t.nd).set (((n)).toNat) ((⟨false,[],cat ([sf]),[cat ([outs]),cat ([other])],[((t.nd.length:Nat):Int),((t.nd.length+1:Nat):Int)]⟩:Nd))++[((nth (t.nd) (((n)).toNat))),(⟨true,cat ([w]),[],[],[]⟩:Nd)])))∧H 228=(⟨0+t.nd.length*1048578,false,false,0,0,[]⟩:Blk)∧H 258=(⟨0+3*t.nd.length,false,false,0,0,[]⟩:Blk)∧True) ⟨t12,t16,((upd_ne _ _ (by decide)).trans h6),((upd_ne _ _ (by decide)).trans h12),((upd_ne _ _ (by decide)).trans h16),((upd_ne _ _ (by decide)).trans h17),((upd_ne _ _ (by decide)).trans h18),⟨(congrArg Blk.ver (upd_ne _ _ (by decide))).trans (h52).1,(congrArg Blk.live (upd_ne _ _ (by decide))).trans (h52).2⟩,⟨(congrArg Blk.ver (upd_ne _ _ (by decide))).trans (h60).1,(congrArg Blk.live (upd_ne _ _ (by decide))).trans (h60).2⟩,((upd_ne _ _ (by decide)).trans h201),((upd_ne _ _ (by decide)).trans h202),((upd_ne _ _ (by decide)).trans h205),(upd_same _ _ _),((upd_ne _ _ (by decide)).trans h228),((upd_ne _ _ (by decide)).trans h258),trivial⟩ ?_
 intro T H ⟨t12,t16,h6,h12,h16,h17,h18,h52,h60,h201,h202,h205,h212,h228,h258,_⟩
 refine W_r (R_lk t16 h16 rfl rfl (R_sk t12 rfl rfl h12 rfl rfl rfl rfl rfl (R_mv rfl (R_e (W_ret ?_)))))
 refine RetC_2 (resV_c (u:=(V.agg [(V.ms 212 2 0 (t.nd.length+2))])) t12 (@rfl Blk (bk 1 24 1 [[(V.ms 212 2 0 (t.nd.length+2))]])) (lB oB rfl rfl)) (resV_t (@rfl V (iV (0:Int)))) (fz_agg1 (fz_ms h212 (by rfl) (l:=((t.nd).set (((n)).toNat) ((⟨false,[],cat ([sf]),[cat ([outs]),cat ([other])],[((t.nd.length:Nat):Int),((t.nd.length+1:Nat):Int)]⟩:Nd))++[((nth (t.nd) (((n)).toNat))),(⟨true,cat ([w]),[],[],[]⟩:Nd)])) rfl (by simp) (fun _=>by simp) ?_)) (fz_int ?_)
 · rw [spT_yes hE]; unfold spN spO spK; rw [if_neg d7,if_neg d7]; simp [cat1,lfN]
 · exact hE.symm
theorem trefine_pure (l:Ts) (o:Ob) (s:Spl) (hb:Bd l.t) (ho:oval o=0):PureC Tryz.prog 21 [(V.agg [(iV (l.i)),(V.sl (List.map cN (l.t.nd)))]),(V.agg [(iV (o.i)),(V.sl (List.map cT (o.tr)))]),(V.agg [(ints s.p),(iV (s.a)),(ints s.x)])] (V.tup [(V.agg [(iV ((rfR l o s).1.i)),(V.sl (List.map cN ((rfR l o s).1.t.nd)))]),(intss ((rfR l o s).2.1)),(iV ((rfR l o s).2.2))]):=by
 refine pW Tryz.func21 s21_ok fun hB=>?_
 unfold s21
 dsimp only
 have hal:=acL_len l.t.nd
 refine W_r (R_box (i:=3) (n:=0) (m:=2) (cs:=[(iV (l.i)),(V.sl (List.map cN (l.t.nd)))]) rfl (congrArg Blk.ver rfl) rfl rfl rfl (R_box (i:=4) (n:=0) (m:=2) (cs:=[(iV (o.i)),(V.sl (List.map cT (o.tr)))]) rfl (congrArg Blk.ver rfl) rfl rfl rfl (R_box (i:=5) (n:=0) (m:=3) (cs:=[(ints s.p),(iV (s.a)),(ints s.x)]) rfl (congrArg Blk.ver rfl) rfl rfl rfl (R_alloc (i:=6) (n:=0) (m:=2) rfl (congrArg Blk.ver rfl) rfl (R_mv rfl (R_mv rfl (R_e ?_)))))))
 refine W_r (R_lk rfl rfl rfl rfl (R_lk rfl rfl rfl rfl (R_build rfl rfl (R_alloc (i:=9) (n:=0) (m:=4) rfl (congrArg Blk.ver rfl) rfl (R_sk rfl rfl rfl rfl rfl rfl rfl rfl rfl (R_e (W_seq_seq ?_)))))))
 refine W_r (R_lk rfl rfl rfl rfl (R_lk rfl rfl rfl rfl (R_callk (tsplit_pure l o s hb) rfl (R_mv rfl (R_e (W_seq_seq (W_r ?_)))))))
 refine R_mv rfl (R_neq rfl rfl (R_e ?_))
 refine W_seq_if rfl (fun c1=>?_) fun c1=>?_
 ·
  have c0:=c1
  refine W_seq_seq (W_r (R_lk rfl rfl rfl rfl (R_mv rfl (R_sk rfl rfl rfl rfl rfl rfl rfl rfl rfl (R_mv rfl (R_mv rfl (R_e ?_)))))))
  refine W_seq_ret ?_
  refine RetC_3 (resV_c (u:=(V.agg [(iV (l.i)),(V.sl (List.map cN (l.t.nd)))])) rfl (@rfl Blk (bk 1 26 2 [[(iV (l.i)),(V.sl (List.map cN (l.t.nd)))]])) (lB oB rfl rfl)) (resV_t (@rfl V V.nilsl)) (resV_t (@rfl V (iV (if tsE l o≠0 then tsE l o else prS s l.i)))) (fz_agg2 (fz_int ?_) (fz_sl ?_ (fun _=>by simp))) (fz_nil ?_) (fz_int ?_)
  · by_cases zq1:tsE l o≠0
    · rw [rfR_1 zq1]
    · rw [if_neg zq1] at c0; rw [rfR_2 zq1 c0]
  · by_cases zq1:tsE l o≠0
    · rw [rfR_1 zq1]
    · rw [if_neg zq1] at c0; rw [rfR_2 zq1 c0]
  · by_cases zq1:tsE l o≠0
    · rw [rfR_1 zq1]
    · rw [if_neg zq1] at c0; rw [rfR_2 zq1 c0]
  · by_cases zq1:tsE l o≠0
    · rw [rfR_1 zq1]; exact if_pos zq1
    · rw [if_neg zq1] at c0; rw [rfR_2 zq1 c0]; exact if_neg zq1
 have c0:=c1
 have zq1: ¬tsE l o≠0:=fun e=>c0 (by rw [if_pos e]; exact e)
 have zq2: ¬prS s l.i≠0:=fun e=>c0 (by rw [if_neg zq1]; exact e)
 have ht:=ts_ok (Decidable.not_not.1 zq1)
 obtain ⟨hi1,hi2,hv,hw0,_,hl0⟩:=tv_ok ht.1
 have hbn:=hb.n
 obtain ⟨p1,p2,p3,p4,p5⟩:=prS_ok zq2
 have p6:=wchk_ok p1
 have p7:=wchk_ok p5
 have p8:(rfW s).length=s.p.length+1:=by simp [rfW,cat]
 have hll:=lvs_len hv
 refine W_seq_skip (W_r (R_fk rfl rfl (R_lk rfl rfl rfl rfl (R_fk rfl rfl (R_lk rfl rfl rfl rfl (R_bslice rfl rfl (R_bslice rfl rfl ?_)))))))
 refine R_callc (evcons rfl evnil) ((show PureC _ _ _ (ints (rfW s)) from pjoin_pure [s.p,[s.a]] (by simp only [cat,List.append_nil,List.length_append,List.length_cons,List.length_nil]; omega))) (R_mv rfl (R_e (W_r (R_fk rfl rfl (R_lk rfl rfl rfl rfl (R_lk rfl rfl rfl rfl (R_mv rfl ?_)))))))
 refine R_callk (sift_pure l.t o (rfW s) hb ho (by omega)) rfl (R_mv rfl (R_ext rfl rfl (R_ext rfl rfl (R_ext rfl rfl (R_mv rfl (R_mv rfl (R_mv rfl ?_)))))))
 refine R_e (W_seq_seq (W_r (R_mv rfl (R_neq rfl rfl (R_e ?_)))))
 refine W_seq_if rfl (fun c2=>?_) fun c2=>?_
 ·
  have zq3:(sftR l.t o (rfW s)).2.2≠0:=c2
  refine W_seq_seq ?_
  refine W_seq_regc (fun T H=>T 6=(V.mp 6 1 0 0)∧T 7=V.nilsl∧T 8=(iV ((sftR l.t o (rfW s)).2.2))∧H 3=(bk 1 26 2 [[(iV (l.i)),(V.sl (List.map cN (l.t.nd)))]])∧H 4=(bk 1 29 2 [[(iV (o.i)),(V.sl (List.map cT (o.tr)))]])∧H 5=(bk 1 56 3 [[(ints s.p),(iV (s.a)),(ints s.x)]])∧H 6=(bk 1 26 2 [[(iV (l.i)),(V.sl (List.map cN (l.t.nd)))]])∧H 9=(bk 1 87 4 [[(iV (l.i)),(V.sl (List.map cN (l.t.nd))),(iV (o.i)),(V.sl (List.map cT (o.tr)))]])∧H 17=(⟨0,false,false,0,0,[]⟩:Blk)∧H 20=(⟨0,false,false,0,0,[]⟩:Blk)∧True) ?_ ?_
  ·
   refine R_lk rfl rfl rfl rfl (R_mv rfl (R_sk rfl rfl rfl rfl rfl rfl rfl rfl rfl (R_mv rfl (R_mv rfl ?_))))
   exact R_nil ⟨rfl,rfl,rfl,rfl,rfl,rfl,rfl,rfl,rfl,rfl,trivial⟩
  intro T H ⟨t6,t7,t8,h3,h4,h5,h6,h9,h17,h20,_⟩
  refine W_seq_ret ?_
  refine RetC_3 (resV_c (u:=(V.agg [(iV (l.i)),(V.sl (List.map cN (l.t.nd)))])) t6 h6 (lB oB rfl rfl)) (resV_t t7) (resV_t t8) (fz_agg2 (fz_int ?_) (fz_sl ?_ (fun _=>by simp))) (fz_nil ?_) (fz_int ?_)
  · rw [rfR_3 zq1 zq2 zq3]
    try rfl
  · rw [rfR_3 zq1 zq2 zq3]
    try rfl
  · rw [rfR_3 zq1 zq2 zq3]
    try rfl
  · rw [rfR_3 zq1 zq2 zq3]
    try rfl
 have zq3: ¬(sftR l.t o (rfW s)).2.2≠0:=c2
 refine W_seq_skip (W_seq_seq ?_)
 refine W_seq_regc (fun T H=>T 3=(V.mp 3 1 0 0)∧T 5=(V.mp 5 1 0 0)∧T 6=(V.mp 6 1 0 0)∧T 9=(V.mp 9 1 0 0)∧T 11=(ints (rfW s))∧T 12=(iV ((sftR l.t o (rfW s)).1))∧T 13=(ints ((sftR l.t o (rfW s)).2.1))∧T 53=(V.bool (decide ((0:Int) < ((((sftR l.t o (rfW s)).2.1).length:Nat):Int))))∧H 3=(bk 1 26 2 [[(iV (l.i)),(V.sl (List.map cN (l.t.nd)))]])∧H 4=(bk 1 29 2 [[(iV (o.i)),(V.sl (List.map cT (o.tr)))]])∧H 5=(bk 1 56 3 [[(ints s.p),(iV (s.a)),(ints s.x)]])∧H 6=(bk 1 26 2 [[(iV (0:Int)),V.nilsl]])∧H 9=(bk 1 87 4 [[(iV (l.i)),(V.sl (List.map cN (l.t.nd))),(iV (o.i)),(V.sl (List.map cT (o.tr)))]])∧H 17=(⟨0,false,false,0,0,[]⟩:Blk)∧H 20=(⟨0,false,false,0,0,[]⟩:Blk)∧True) ?_ ?_
 ·
  refine R_mv rfl (R_len rfl (R_gtr rfl rfl ?_))
  exact R_nil ⟨rfl,rfl,rfl,rfl,rfl,rfl,rfl,rfl,rfl,rfl,rfl,rfl,rfl,rfl,rfl,trivial⟩
 intro T H ⟨t3,t5,t6,t9,t11,t12,t13,t53,h3,h4,h5,h6,h9,h17,h20,_⟩
 refine W_seq_if t53 (fun c3=>?_) fun c3=>?_
 ·
  have zq4:0 < (sftR l.t o (rfW s)).2.1.length:=by omega
  refine W_seq_seq (W_r (R_lk t3 h3 rfl rfl (R_mv t13 (R_bslice rfl rfl (R_sk t6 rfl rfl h6 rfl rfl rfl rfl rfl (R_mv rfl (R_mv rfl ?_)))))))
  refine R_e (W_seq_ret ?_)
  refine RetC_3 (resV_c (u:=(V.agg [(iV (l.i)),(V.sl (List.map cN (l.t.nd)))])) t6 (@rfl Blk (bk 1 26 2 [[(iV (l.i)),(V.sl (List.map cN (l.t.nd)))]])) (lB oB rfl rfl)) (resV_t (@rfl V (V.sl [[(ints ((sftR l.t o (rfW s)).2.1))]]))) (resV_t (@rfl V (iV (0:Int)))) (fz_agg2 (fz_int ?_) (fz_sl ?_ (fun _=>by simp))) (fz_canon (by simp) ?_) (fz_int ?_)
  · rw [rfR_4 zq1 zq2 zq3 zq4]
    try rfl
  · rw [rfR_4 zq1 zq2 zq3 zq4]
    try rfl
  · rw [rfR_4 zq1 zq2 zq3 zq4]
    try rfl
  · rw [rfR_4 zq1 zq2 zq3 zq4]
    try rfl
 have zq4: ¬0 < (sftR l.t o (rfW s)).2.1.length:=by omega
 have q4:(sftR l.t o (rfW s)).2.1=[]:=List.length_eq_zero_iff.1 (by omega)
 have hnd:=sft_node (Decidable.not_not.1 zq3) q4 hv
 refine W_seq_skip (W_seq_seq (W_r (R_lk t9 h9 rfl rfl (R_mv t12 (R_callk (tleaf_pure l o (((sftR l.t o (rfW s)).1)) hnd.1 hnd.2.1) rfl (R_notb rfl (R_e ?_)))))))
 refine W_seq_ifb rfl (fun c4=>?_) (fun c4=>?_)
 ·
  have zq5:(rfN l o s).lf=false:=by simpa [rfN] using c4
  refine W_seq_seq (W_r (R_lk t3 h3 rfl rfl (R_sk t6 rfl rfl h6 rfl rfl rfl rfl rfl (R_mv rfl (R_mv rfl (R_e (W_seq_ret ?_)))))))
  refine RetC_3 (resV_c (u:=(V.agg [(iV (l.i)),(V.sl (List.map cN (l.t.nd)))])) t6 (@rfl Blk (bk 1 26 2 [[(iV (l.i)),(V.sl (List.map cN (l.t.nd)))]])) (lB oB rfl rfl)) (resV_t (@rfl V V.nilsl)) (resV_t (@rfl V (iV (10:Int)))) (fz_agg2 (fz_int ?_) (fz_sl ?_ (fun _=>by simp))) (fz_nil ?_) (fz_int ?_)
  · rw [rfR_5 zq1 zq2 zq3 zq4 zq5]
    try rfl
  · rw [rfR_5 zq1 zq2 zq3 zq4 zq5]
    try rfl
  · rw [rfR_5 zq1 zq2 zq3 zq4 zq5]
    try rfl
  · rw [rfR_5 zq1 zq2 zq3 zq4 zq5]
    try rfl
 have zq5: ¬(rfN l o s).lf=false:=by simpa [rfN] using c4
 have hac:=(wchk_ok (hw0 (sftR l.t o (rfW s)).1.toNat (by omega)).1).1
 have hba:(rfN l o s).ac.length≤1024:=hac
 have hlc:(rfN l o s).lf=true:=by simpa using zq5
 have bh1:=bho_le ho (nth l.t.nd (sftR l.t o (rfW s)).1.toNat).ac s.x
 have bh2:=bho_le ho (rfW s) s.x
 have b0:(nth (rfB l o s) 0).length=(rfN l o s).ac.length+s.x.length:=by show (cat [_,_]).length=_; simp [cat]
 have b1:(nth (rfB l o s) 1).length=(rfW s).length+s.x.length:=by show (cat [_,_]).length=_; simp [cat]
 have hbl:(rfB l o s).length=2:=rfl
 refine W_seq_skip (W_r (R_fk t3 h3 (R_fk rfl h3 (R_lk rfl h3 rfl rfl (R_mv t12 (R_idxI (i:=((sftR l.t o (rfW s)).1)) (@rfl V (V.sl (List.map cN (l.t.nd)))) (@rfl V (iV ((sftR l.t o (rfW s)).1))) (by omega) (by omega) rfl (R_fld_pp (cs':=(List.drop 1 (cN (((nth (l.t.nd) ((sftR l.t o (rfW s)).1).toNat)))))) rfl rfl ?_)))))))
 refine R_load_pp rfl rfl (R_mv rfl (R_e (W_r (R_mv rfl (R_fk t5 h5 (R_lk rfl h5 rfl rfl (R_bslice rfl rfl ?_)))))))
 refine R_callk (pjoin_pure ([((nth (l.t.nd) ((sftR l.t o (rfW s)).1).toNat)).ac,s.x]) (by simp only [cat,List.append_nil,List.length_append,List.length_cons,List.length_nil]; omega)) rfl (R_mv t11 (R_fk t5 h5 (R_lk rfl h5 rfl rfl (R_bslice rfl rfl (R_callk (pjoin_pure ([rfW s,s.x]) (by simp only [cat,List.append_nil,List.length_append,List.length_cons,List.length_nil]; omega)) rfl (R_bslice rfl rfl (R_mv rfl ?_)))))))
 refine R_e (W_r (R_lazy (i:=17) (n:=0) rfl (congrArg Blk.ver h17) (R_e (W_seq_seq (W_r (R_mv rfl (R_len_lit (n:=2) rfl rfl ?_)))))))
 refine R_mv rfl (R_e (W_seq_blockg fun Q5 n5 x5 y5 z5=>?_))
 refine W_loop (fun mm T H=> ∃ (k:Nat) (v:Nat),mm=2 - k∧T 3=(V.mp 3 1 0 0)∧T 5=(V.mp 5 1 0 0)∧T 6=(V.mp 6 1 0 0)∧T 9=(V.mp 9 1 0 0)∧T 11=(ints (rfW s))∧T 12=(iV ((sftR l.t o (rfW s)).1))∧T 15=(ints (((nth (l.t.nd) ((sftR l.t o (rfW s)).1).toNat)).ac))∧T 17=(V.ms 17 v 0 ((msK o (rfB l o s) k).length))∧T 80=(intss (rfB l o s))∧T 81=(iV ((2:Nat):Int))∧T 82=(iV ((k:Nat):Int))∧H 3=(bk 1 26 2 [[(iV (l.i)),(V.sl (List.map cN (l.t.nd)))]])∧H 4=(bk 1 29 2 [[(iV (o.i)),(V.sl (List.map cT (o.tr)))]])∧H 5=(bk 1 56 3 [[(ints s.p),(iV (s.a)),(ints s.x)]])∧H 6=(bk 1 26 2 [[(iV (0:Int)),V.nilsl]])∧H 9=(bk 1 87 4 [[(iV (l.i)),(V.sl (List.map cN (l.t.nd))),(iV (o.i)),(V.sl (List.map cT (o.tr)))]])∧H 17=(bz v 54 1 (List.map cL (msK o (rfB l o s) k)))∧H 20=(⟨0,false,false,0,0,[]⟩:Blk)∧(k≤2)∧(∀ j,j < k→(nth (rfB l o s) j).length≤1024)) ?_ ?_
 ·
  refine ⟨_,0,1,rfl,t3,t5,t6,t9,t11,t12,rfl,(Eq.trans (@rfl V (V.ms 17 1 0 (0))) (by rfl)),(Eq.trans (@rfl V (V.sl [[(ints (cat ([((nth (l.t.nd) ((sftR l.t o (rfW s)).1).toNat)).ac,s.x])))],[(ints (cat ([rfW s,s.x])))]])) (by rfl)),rfl,(Eq.trans (@rfl V (iV (0:Int))) rfl),h3,h4,h5,h6,h9,(Eq.trans (@rfl Blk (bz 1 54 1 [])) (by rfl)),h20,?_,?_⟩
  · omega
  · intro j hj; omega
 intro mm T H ⟨k,v,hmm,t3,t5,t6,t9,t11,t12,t15,t17,t80,t81,t82,h3,h4,h5,h6,h9,h17,h20,hk,hc⟩ Q6 p16 p26 p36
 unfold b21_0
 have q1:=msK_len o (rfB l o s) k
 refine W_r (R_lss t82 t81 (R_e ?_))
 refine W_seq_if rfl (fun c7=>?_) fun c7=>?_
 ·
  have hk2:k=0∨k=1:=by omega
  refine W_seq_skip (W_seq_blockg fun Q8 n8 x8 y8 z8=>(W_r (R_idx (i:=k) t80 t82 (by omega) rfl (R_load_pp rfl rfl (R_mv rfl (R_e (W_seq_seq ?_)))))))
  refine W_r (R_mv rfl (R_len rfl (R_gtr rfl rfl (R_e ?_))))
  refine W_seq_if rfl (fun c9=>?_) fun c9=>?_
  ·
   have zq6:1024 < (rfN l o s).ac.length+s.x.length∨1024 < (rfW s).length+s.x.length:=by rcases hk2 with e|e <;> subst e <;> omega
   refine W_seq_seq (W_r (R_lk t3 h3 rfl rfl (R_sk t6 rfl rfl h6 rfl rfl rfl rfl rfl (R_mv rfl (R_mv rfl (R_e (W_seq_ret ?_)))))))
   refine y8 _ _ (p26 _ _ (y5 _ _ ?_))
   refine RetC_3 (resV_c (u:=(V.agg [(iV (l.i)),(V.sl (List.map cN (l.t.nd)))])) t6 (@rfl Blk (bk 1 26 2 [[(iV (l.i)),(V.sl (List.map cN (l.t.nd)))]])) (lB oB rfl rfl)) (resV_t (@rfl V V.nilsl)) (resV_t (@rfl V (iV (3:Int)))) (fz_agg2 (fz_int ?_) (fz_sl ?_ (fun _=>by simp))) (fz_nil ?_) (fz_int ?_)
   · rw [rfR_6 zq1 zq2 zq3 zq4 zq5 zq6]
     try rfl
   · rw [rfR_6 zq1 zq2 zq3 zq4 zq5 zq6]
     try rfl
   · rw [rfR_6 zq1 zq2 zq3 zq4 zq5 zq6]
     try rfl
   · rw [rfR_6 zq1 zq2 zq3 zq4 zq5 zq6]
     try rfl
  refine W_seq_skip (W_r (R_lk t9 h9 rfl rfl (R_mv rfl (R_callk (tknown_pure l o ((nth (rfB l o s) (k))) ho) rfl (R_notb rfl (R_e ?_))))))
  refine W_ifb rfl (fun c10=>?_) (fun c10=>?_)
  ·
   have d1:(ans o (nth (rfB l o s) k)).isSome=false:=by simpa using c10
   refine W_t (R_mv t17 (R_mv rfl (R_bslice rfl rfl (R_append1 (l:=(msK o (rfB l o s) k)) (f:=cL) (x:=((nth (rfB l o s) (k)))) (@rfl V (V.ms 17 v 0 ((msK o (rfB l o s) k).length))) h17 (by rfl) (@rfl V (V.sl [[(ints ((nth (rfB l o s) (k))))]])) rfl rfl (by omega) (by omega) (R_mv rfl (R_e (n8 _ _ ?_)))))))
   refine .done (W_t (R_addN t82 (@rfl V (iV ((1:Nat):Int))) (by omega) (R_mv rfl (R_e ?_))))
   refine p16 _ _ _ ?_ ⟨(k+1),(v+1),rfl,t3,t5,t6,t9,t11,t12,t15,(Eq.trans (@rfl V (V.ms 17 (v+1) 0 (((msK o (rfB l o s) k).length)+1))) (by (rw [msK_yes (by omega) d1,List.length_append]; rfl))),t80,t81,(Eq.trans (@rfl V (iV ((k+1:Nat):Int))) (by rfl)),h3,h4,h5,h6,h9,(Eq.trans (@rfl Blk (bz (v+1) 54 1 (List.map cL (msK o (rfB l o s) k++[(nth (rfB l o s) (k))])))) (by (rw [msK_yes (by omega) d1]; done))),h20,?_,?_⟩
   · omega
   · omega
   · intro j hj
     by_cases e:j=k
     · subst e; omega
     · exact hc j (by omega)
  have d1:(ans o (nth (rfB l o s) k)).isSome=true:=by simpa using c10
  refine W_skip (n8 _ _ (.done (W_t (R_addN t82 (@rfl V (iV ((1:Nat):Int))) (by omega) (R_mv rfl (R_e ?_))))))
  refine p16 _ _ _ ?_ ⟨(k+1),v,rfl,t3,t5,t6,t9,t11,t12,t15,(Eq.trans t17 (by (rw [msK_no (by omega) d1]; done))),t80,t81,(Eq.trans (@rfl V (iV ((k+1:Nat):Int))) (by rfl)),h3,h4,h5,h6,h9,(Eq.trans h17 (by (rw [msK_no (by omega) d1]; done))),h20,?_,?_⟩
  · omega
  · omega
  · intro j hj
    by_cases e:j=k
    · subst e; omega
    · exact hc j (by omega)
 have zq6: ¬(1024 < (rfN l o s).ac.length+s.x.length∨1024 < (rfW s).length+s.x.length):=by have:=hc 0 (by omega); have:=hc 1 (by omega); omega
 have hme:=msK_end (o:=o) (l:=rfB l o s) (k:=k) (by omega)
 refine W_seq_exit (p36 _ _ _ (x5 _ _ (.done (W_seq_seq ?_))))
 refine W_seq_g (fun T H=>T 3=(V.mp 3 1 0 0)∧T 5=(V.mp 5 1 0 0)∧T 6=(V.mp 6 1 0 0)∧T 9=(V.mp 9 1 0 0)∧T 11=(ints (rfW s))∧T 12=(iV ((sftR l.t o (rfW s)).1))∧T 15=(ints (((nth (l.t.nd) ((sftR l.t o (rfW s)).1).toNat)).ac))∧T 17=(V.ms 17 v 0 ((msK o (rfB l o s) k).length))∧T 101=(V.bool (decide ((0:Int) < (((msK o (rfB l o s) k).length:Nat):Int))))∧H 3=(bk 1 26 2 [[(iV (l.i)),(V.sl (List.map cN (l.t.nd)))]])∧H 4=(bk 1 29 2 [[(iV (o.i)),(V.sl (List.map cT (o.tr)))]])∧H 5=(bk 1 56 3 [[(ints s.p),(iV (s.a)),(ints s.x)]])∧H 6=(bk 1 26 2 [[(iV (0:Int)),V.nilsl]])∧H 9=(bk 1 87 4 [[(iV (l.i)),(V.sl (List.map cN (l.t.nd))),(iV (o.i)),(V.sl (List.map cT (o.tr)))]])∧H 17=(bz v 54 1 (List.map cL (msK o (rfB l o s) k)))∧H 20=(⟨0,false,false,0,0,[]⟩:Blk)∧True) ?_ ?_
 ·
  refine R_mv t17 (R_len_ms rfl h17 (by simp) (R_gtr rfl rfl ?_))
  exact R_nil ⟨t3,t5,t6,t9,t11,t12,t15,t17,rfl,h3,h4,h5,h6,h9,h17,h20,trivial⟩
 intro T H ⟨t3,t5,t6,t9,t11,t12,t15,t17,t101,h3,h4,h5,h6,h9,h17,h20,_⟩
 refine .freeze 17 (.done ?_)
 refine fork_ (R:=fun T H=>T 3=(V.mp 3 1 0 0)∧T 5=(V.mp 5 1 0 0)∧T 6=(V.mp 6 1 0 0)∧T 9=(V.mp 9 1 0 0)∧T 11=(ints (rfW s))∧T 12=(iV ((sftR l.t o (rfW s)).1))∧T 15=(ints (((nth (l.t.nd) ((sftR l.t o (rfW s)).1).toNat)).ac))∧T 17=(intss (msK o (rfB l o s) k))∧T 101=(V.bool (decide ((0:Int) < (((msK o (rfB l o s) k).length:Nat):Int))))∧H 3=(bk 1 26 2 [[(iV (l.i)),(V.sl (List.map cN (l.t.nd)))]])∧H 4=(bk 1 29 2 [[(iV (o.i)),(V.sl (List.map cT (o.tr)))]])∧H 5=(bk 1 56 3 [[(ints s.p),(iV (s.a)),(ints s.x)]])∧H 6=(bk 1 26 2 [[(iV (0:Int)),V.nilsl]])∧H 9=(bk 1 87 4 [[(iV (l.i)),(V.sl (List.map cN (l.t.nd))),(iV (o.i)),(V.sl (List.map cT (o.tr)))]])∧((H 17).ver=v∧(H 17).live=false)∧H 20=(⟨0,false,false,0,0,[]⟩:Blk)∧True) ⟨(fzT_q t3 rfl),(fzT_q t5 rfl),(fzT_q t6 rfl),(fzT_q t9 rfl),(fzT_q t11 rfl),(fzT_q t12 rfl),(fzT_q t15 rfl),(fzT_q t17 (fzq_own h17 (by simp) (l:=(msK o (rfB l o s) k)) rfl (by rfl))),(fzT_q t101 rfl),(kill_ne h3 (by decide)),(kill_ne h4 (by decide)),(kill_ne h5 (by decide)),(kill_ne h6 (by decide)),(kill_ne h9 (by decide)),(kill_self (congrArg Blk.ver h17)),(kill_ne h20 (by decide)),trivial⟩ ?_
 intro T H ⟨t3,t5,t6,t9,t11,t12,t15,t17,t101,h3,h4,h5,h6,h9,h17,h20,_⟩
 refine W_seq_if t101 (fun c11=>?_) fun c11=>?_
 ·
  have zq7:0 < (msW o (rfB l o s)).length:=by rw [← hme]; omega
  refine W_seq_seq (W_r (R_lk t3 h3 rfl rfl (R_mv t17 (R_callk (maximal_pure (msK o (rfB l o s) k) (by omega) (by rw [hme]; intro w hw; have hm:=(List.mem_filter.1 hw).1; obtain ⟨j,j1,rfl⟩:=mem_nth hm; have:=hc j (by omega); omega)) rfl (R_sk t6 rfl rfl h6 rfl rfl rfl rfl rfl (R_mv rfl (R_mv rfl ?_)))))))
  refine R_e (W_seq_ret ?_)
  refine RetC_3 (resV_c (u:=(V.agg [(iV (l.i)),(V.sl (List.map cN (l.t.nd)))])) t6 (@rfl Blk (bk 1 26 2 [[(iV (l.i)),(V.sl (List.map cN (l.t.nd)))]])) (lB oB rfl rfl)) (resV_t (@rfl V (intss (mxW (msK o (rfB l o s) k))))) (resV_t (@rfl V (iV (0:Int)))) (fz_agg2 (fz_int ?_) (fz_sl ?_ (fun _=>by simp))) (fz_sl ?_ (fun _=>by simp)) (fz_int ?_)
  · rw [rfR_7 zq1 zq2 zq3 zq4 zq5 zq6 zq7]
  · rw [rfR_7 zq1 zq2 zq3 zq4 zq5 zq6 zq7]
  · rw [rfR_7 zq1 zq2 zq3 zq4 zq5 zq6 zq7,hme]
  · rw [rfR_7 zq1 zq2 zq3 zq4 zq5 zq6 zq7]
 have zq7: ¬0 < (msW o (rfB l o s)).length:=by rw [← hme]; omega
 have m0:=List.length_eq_zero_iff.1 (show (msW o (rfB l o s)).length=0 by omega)
 unfold rfB at m0
 rw [msW_two] at m0
 have k1:(ans o (cat [(rfN l o s).ac,s.x])).isSome=true:=by by_cases e:(ans o (cat [(rfN l o s).ac,s.x])).isSome=true; exact e; (rw [if_neg e] at m0; simp at m0)
 have k2:(ans o (cat [rfW s,s.x])).isSome=true:=by by_cases e:(ans o (cat [rfW s,s.x])).isSome=true; exact e; (rw [if_neg e] at m0; simp at m0)
 refine W_seq_skip (W_seq_seq (W_r (R_fk t3 h3 (R_lk rfl h3 rfl rfl (R_callk (dleaves_pure l.t hb) rfl (R_len rfl (R_geq rfl rfl ?_)))))))
 refine R_e ?_
 refine W_seq_if rfl (fun c12=>?_) fun c12=>?_
 ·
  have zq8:128≤(acL l.t.nd).length:=by rw [← hll]; have q:=c12; unfold lvs; omega
  refine W_seq_seq (W_r (R_lk t3 h3 rfl rfl (R_sk t6 rfl rfl h6 rfl rfl rfl rfl rfl (R_mv rfl (R_mv rfl (R_e (W_seq_ret ?_)))))))
  refine RetC_3 (resV_c (u:=(V.agg [(iV (l.i)),(V.sl (List.map cN (l.t.nd)))])) t6 (@rfl Blk (bk 1 26 2 [[(iV (l.i)),(V.sl (List.map cN (l.t.nd)))]])) (lB oB rfl rfl)) (resV_t (@rfl V V.nilsl)) (resV_t (@rfl V (iV (11:Int)))) (fz_agg2 (fz_int ?_) (fz_sl ?_ (fun _=>by simp))) (fz_nil ?_) (fz_int ?_)
  · rw [rfR_8 zq1 zq2 zq3 zq4 zq5 zq6 zq7 zq8]
    try rfl
  · rw [rfR_8 zq1 zq2 zq3 zq4 zq5 zq6 zq7 zq8]
    try rfl
  · rw [rfR_8 zq1 zq2 zq3 zq4 zq5 zq6 zq7 zq8]
    try rfl
  · rw [rfR_8 zq1 zq2 zq3 zq4 zq5 zq6 zq7 zq8]
    try rfl
 have zq8: ¬128≤(acL l.t.nd).length:=by rw [← hll]; have q:=c12; unfold lvs; omega
 refine W_seq_skip (W_d (by exact (lateC (congrArg Blk.live h20) lateN)) (R_fk t3 h3 (R_lk rfl h3 rfl rfl (R_mv t12 (R_fk t5 h5 (R_lk rfl h5 rfl rfl (R_lk t9 h9 rfl rfl ?_)))))))
 refine R_mv t15 (R_fk t5 h5 (R_lk rfl h5 rfl rfl (R_callk (touts_pure l o (((nth (l.t.nd) ((sftR l.t o (rfW s)).1).toNat)).ac) s.x ho (by omega) (by omega) (by exact k1)) rfl (R_mv t11 (R_lk t9 h9 rfl rfl (R_mv t11 (R_fk t5 h5 ?_)))))))
 refine R_lk rfl h5 rfl rfl (R_callk (touts_pure l o (rfW s) s.x ho (by omega) (by omega) (by exact k2)) rfl (R_callk (dsplit_pure l.t (((sftR l.t o (rfW s)).1)) s.x (bho o (((nth (l.t.nd) ((sftR l.t o (rfW s)).1).toNat)).ac) s.x) (rfW s) (bho o (rfW s) s.x) hb (by omega) (by omega) (by omega) (by omega)) rfl (R_mv rfl (R_ext rfl rfl (R_ext rfl rfl (R_alloc (i:=20) (n:=0) (m:=1) rfl (congrArg Blk.ver h20) rfl (R_sk rfl rfl rfl rfl rfl rfl rfl rfl rfl ?_)))))))
 refine R_mv rfl (R_e (W_seq_seq (W_r (R_mv rfl (R_neq rfl rfl (R_e ?_))))))
 refine W_seq_if rfl (fun c13=>?_) fun c13=>?_
 ·
  have zq9:rfG l o s≠0:=c13
  refine W_seq_seq (W_r (R_lk t3 h3 rfl rfl (R_mv rfl (R_sk t6 rfl rfl h6 rfl rfl rfl rfl rfl (R_mv rfl (R_mv rfl (R_e ?_)))))))
  refine W_seq_ret ?_
  refine RetC_3 (resV_c (u:=(V.agg [(iV (l.i)),(V.sl (List.map cN (l.t.nd)))])) t6 (@rfl Blk (bk 1 26 2 [[(iV (l.i)),(V.sl (List.map cN (l.t.nd)))]])) (lB oB rfl rfl)) (resV_t (@rfl V V.nilsl)) (resV_t (@rfl V (iV (spE l.t (((sftR l.t o (rfW s)).1)) s.x (bho o (((nth (l.t.nd) ((sftR l.t o (rfW s)).1).toNat)).ac) s.x) (rfW s) (bho o (rfW s) s.x))))) (fz_agg2 (fz_int ?_) (fz_sl ?_ (fun _=>by simp))) (fz_nil ?_) (fz_int ?_)
  · rw [rfR_9 zq1 zq2 zq3 zq4 zq5 zq6 zq7 zq8 zq9]
    try rfl
  · rw [rfR_9 zq1 zq2 zq3 zq4 zq5 zq6 zq7 zq8 zq9]
    try rfl
  · rw [rfR_9 zq1 zq2 zq3 zq4 zq5 zq6 zq7 zq8 zq9]
    try rfl
  · rw [rfR_9 zq1 zq2 zq3 zq4 zq5 zq6 zq7 zq8 zq9]
    try rfl
 have zq9: ¬rfG l o s≠0:=c13
 refine W_seq_skip (W_r (R_fk t3 h3 (R_lk rfl h3 rfl rfl (R_lk rfl rfl rfl rfl (R_build rfl rfl (R_sk t6 rfl rfl h6 rfl rfl rfl rfl rfl (R_mv rfl ?_)))))))
 refine R_mv rfl (R_e (W_ret ?_))
 refine RetC_3 (resV_c (u:=(V.agg [(iV (l.i)),(V.sl (List.map cN ((spT l.t (((sftR l.t o (rfW s)).1)) s.x (bho o (((nth (l.t.nd) ((sftR l.t o (rfW s)).1).toNat)).ac) s.x) (rfW s) (bho o (rfW s) s.x)).nd)))])) t6 (@rfl Blk (bk 1 26 2 [[(iV (l.i)),(V.sl (List.map cN ((spT l.t (((sftR l.t o (rfW s)).1)) s.x (bho o (((nth (l.t.nd) ((sftR l.t o (rfW s)).1).toNat)).ac) s.x) (rfW s) (bho o (rfW s) s.x)).nd)))]])) (lB oB rfl rfl)) (resV_t (@rfl V V.nilsl)) (resV_t (@rfl V (iV (0:Int)))) (fz_agg2 (fz_int ?_) (fz_sl ?_ (fun _=>by simp))) (fz_nil ?_) (fz_int ?_)
 · rw [rfR_10 zq1 zq2 zq3 zq4 zq5 zq6 zq7 zq8 zq9]
   try rfl
 · rw [rfR_10 zq1 zq2 zq3 zq4 zq5 zq6 zq7 zq8 zq9]
   try rfl
 · rw [rfR_10 zq1 zq2 zq3 zq4 zq5 zq6 zq7 zq8 zq9]
   try rfl
 · rw [rfR_10 zq1 zq2 zq3 zq4 zq5 zq6 zq7 zq8 zq9]
   try rfl
abbrev w11_0:=(⟨((2:Int)),([(⟨[1],[0]⟩:Tr),(⟨[0,1],[1,2]⟩:Tr)])⟩:Ob)
abbrev w11_1:=(rfR ((nwT ((2:Int)))) w11_0 (⟨([]),((0:Int)),([1])⟩:Spl))
abbrev w11_2:=(tst ((nwT ((2:Int)))) (⟨((2:Int)),([])⟩:Ob))
abbrev w11_3:=(bk 1 48 5 [[(iV ((hyR ((nwT ((2:Int)))) w11_0).m.i)),(iV ((hyR ((nwT ((2:Int)))) w11_0).m.s)),(intss ((hyR ((nwT ((2:Int)))) w11_0).m.nx)),(intss ((hyR ((nwT ((2:Int)))) w11_0).m.ot)),(intss ((hyR ((nwT ((2:Int)))) w11_0).acc))]])
abbrev w11_14:=(tst ((nwT ((2:Int)))) w11_0)
abbrev w11_12:=((((decide (((nwE ((2:Int)))≠(0:Int))∨((w11_2.2.2.2)≠(0:Int)))||(w11_2.2.2.1)))||decide ((w11_14.2.2.2)≠(0:Int))))
abbrev w11_4:=((((w11_12||((!w11_14.2.2.1))))||decide ((((w11_14.2.1).length:Nat):Int)≠(0:Int))))
abbrev w11_5:=(bk 1 29 2 [[(iV (2:Int)),(V.sl [[(V.sl [[(iV (1:Int))]]),(V.sl [[(iV (0:Int))]])],[(V.sl [[(iV (0:Int))],[(iV (1:Int))]]),(V.sl [[(iV (1:Int))],[(iV (2:Int))]])]])]])
abbrev w11_6:=(bk 1 26 2 [[(iV (w11_14.1.i)),(V.sl (List.map cN (w11_14.1.t.nd)))]])
abbrev w11_7:=(bk 1 26 2 [[(iV ((tst (w11_1.1) w11_0).1.i)),(V.sl (List.map cN ((tst (w11_1.1) w11_0).1.t.nd)))]])
abbrev w11_8:=(bk 1 26 2 [[(iV ((nwT ((2:Int))).i)),(V.sl (List.map cN ((nwT ((2:Int))).t.nd)))]])
abbrev w11_9:=(bk 1 26 2 [[(iV (w11_2.1.i)),(V.sl (List.map cN (w11_2.1.t.nd)))]])
abbrev w11_10:=(bk 1 26 2 [[(iV (w11_1.1.i)),(V.sl (List.map cN (w11_1.1.t.nd)))]])
abbrev w11_17:=(hyE ((nwT ((2:Int)))) w11_0)
abbrev w11_11:=((((w11_4||decide (w11_17≠(0:Int))))||decide ((((w11_1.2.1).length:Nat):Int)≠(0:Int))))
abbrev w11_13:=(((w11_2.2.1)=([[0],[1]]))∧(((((hyR ((nwT ((2:Int)))) w11_0).m.nx).length:Nat):Int)=(1:Int)))
abbrev w11_15:=(intss ((tst (w11_1.1) w11_0).2.1))
abbrev w11_16:=((tst (w11_1.1) w11_0).2.2.2)
theorem aw_learnerlaw27_awake_pure:PureC Tryz.prog 11 [] (V.bool true):=by
 refine pW Tryz.func11 s11_ok fun hB=>?_
 unfold s11
 dsimp only
 refine W_r (R_mv rfl (R_e (W_r (R_callk (tnew_pure ((2:Int))) rfl (R_mv rfl (R_ext rfl rfl (R_ext rfl rfl ?_)))))))
 refine R_alloc (i:=1) (n:=0) (m:=2) rfl (congrArg Blk.ver rfl) rfl (R_sk rfl rfl rfl rfl rfl rfl rfl rfl rfl (R_mv rfl (R_e (W_r (R_lk rfl rfl rfl rfl (R_build rfl rfl (R_call (evcons (@rfl V (V.agg [(iV ((nwT ((2:Int))).i)),(V.sl (List.map cN ((nwT ((2:Int))).t.nd)))])) (evcons (@rfl V (V.agg [(iV (2:Int)),V.nilsl])) evnil)) (tstep_pure ((nwT ((2:Int)))) (⟨((2:Int)),([])⟩:Ob) (bg_bd (by decide+kernel)) (by decide+kernel) (by decide+kernel)) (mcons (fzv_canon 6 _ (by simp [-List.map_take,-List.map_drop,-List.map_append,-List.map_reverse])) (mcons (by simp [fzv,Blk.own]) rfl)) (by simp [-List.map_take,-List.map_drop,-List.map_append,-List.map_reverse]) (Or.inl (by simp [-List.map_take,-List.map_drop,-List.map_append,-List.map_reverse])) ?_)))))))
 refine R_mv rfl (R_ext rfl rfl (R_ext rfl rfl (R_ext rfl rfl (R_ext rfl rfl (R_alloc (i:=3) (n:=0) (m:=2) rfl (congrArg Blk.ver rfl) rfl (R_sk rfl rfl rfl rfl rfl rfl rfl rfl rfl (R_mv rfl ?_)))))))
 refine R_mv rfl (R_mv rfl (R_e (W_r (R_bslice rfl rfl (R_bslice rfl rfl (R_build rfl rfl (R_bslice rfl rfl ?_)))))))
 refine R_bslice rfl rfl (R_build rfl rfl (R_bslice rfl rfl (R_build rfl rfl (R_alloc (i:=7) (n:=0) (m:=2) rfl (congrArg Blk.ver rfl) rfl (R_sk rfl rfl rfl rfl rfl rfl rfl rfl rfl (R_e ?_))))))
 refine W_seq_regc (fun T H=>T 1=(V.mp 1 1 0 0)∧T 2=(iV (nwE ((2:Int))))∧T 4=(intss (w11_2.2.1))∧T 5=(V.bool (w11_2.2.2.1))∧T 6=(iV (w11_2.2.2.2))∧T 7=(V.mp 7 1 0 0)∧T 9=(intss (w11_14.2.1))∧T 10=(V.bool (w11_14.2.2.1))∧T 11=(iV (w11_14.2.2.2))∧H 1=w11_8∧H 3=w11_9∧H 7=w11_5∧H 8=w11_6∧H 12=(⟨0,false,false,0,0,[]⟩:Blk)∧H 14=(⟨0,false,false,0,0,[]⟩:Blk)∧H 17=(⟨0,false,false,0,0,[]⟩:Blk)∧True) ?_ ?_
 ·
  refine R_lk rfl rfl rfl rfl (R_lk rfl rfl rfl rfl (R_callk (tstep_pure ((nwT ((2:Int)))) w11_0 (bg_bd (by decide+kernel)) (by decide+kernel) (by decide+kernel)) rfl (R_mv rfl (R_ext rfl rfl (R_ext rfl rfl (R_ext rfl rfl (R_ext rfl rfl ?_)))))))
  refine R_alloc (i:=8) (n:=0) (m:=2) rfl (congrArg Blk.ver rfl) rfl (R_sk rfl rfl rfl rfl rfl rfl rfl rfl rfl (R_mv rfl (R_mv rfl (R_mv rfl ?_))))
  exact R_nil ⟨rfl,rfl,rfl,rfl,rfl,rfl,rfl,rfl,rfl,rfl,rfl,rfl,rfl,rfl,rfl,rfl,trivial⟩
 intro T H ⟨t1,t2,t4,t5,t6,t7,t9,t10,t11,h1,h3,h7,h8,h12,h14,h17,_⟩
 refine W_r (R_lk t1 h1 rfl rfl (R_lk t7 h7 rfl rfl (R_callk (thyp_pure ((nwT ((2:Int)))) w11_0 (bg_bd (by decide+kernel)) (by decide+kernel) (by decide+kernel)) rfl (R_mv rfl (R_ext rfl rfl (R_ext rfl rfl (R_alloc (i:=12) (n:=0) (m:=5) rfl (congrArg Blk.ver h12) rfl ?_)))))))
 refine R_sk rfl rfl rfl rfl rfl rfl rfl rfl rfl (R_mv rfl (R_e (W_r (R_lk t1 h1 rfl rfl (R_lk t7 h7 rfl rfl (R_bslice rfl rfl (R_build rfl rfl ?_)))))))
 refine R_call (evcons (@rfl V (V.agg [(iV ((nwT ((2:Int))).i)),(V.sl (List.map cN ((nwT ((2:Int))).t.nd)))])) (evcons (@rfl V (V.agg [(iV (2:Int)),(V.sl [[(V.sl [[(iV (1:Int))]]),(V.sl [[(iV (0:Int))]])],[(V.sl [[(iV (0:Int))],[(iV (1:Int))]]),(V.sl [[(iV (1:Int))],[(iV (2:Int))]])]])])) (evcons (@rfl V (V.agg [V.nilsl,(iV (0:Int)),(V.sl [[(iV (1:Int))]])])) evnil))) (trefine_pure ((nwT ((2:Int)))) w11_0 (⟨([]),((0:Int)),([1])⟩:Spl) (bg_bd (by decide+kernel)) (by decide+kernel)) (mcons (fzv_canon 6 _ (by simp [-List.map_take,-List.map_drop,-List.map_append,-List.map_reverse])) (mcons (fzv_canon 6 _ (by simp [-List.map_take,-List.map_drop,-List.map_append,-List.map_reverse])) (mcons (by simp [fzv,Blk.own,h1,h3,h7,h8,h14,h17]) rfl))) (by simp [-List.map_take,-List.map_drop,-List.map_append,-List.map_reverse]) (Or.inl (by simp [-List.map_take,-List.map_drop,-List.map_append,-List.map_reverse])) (R_mv rfl (R_ext rfl rfl (R_ext rfl rfl (R_ext rfl rfl (R_alloc (i:=14) (n:=0) (m:=2) rfl (congrArg Blk.ver h14) rfl (R_sk rfl rfl rfl rfl rfl rfl rfl rfl rfl (R_mv rfl ?_)))))))
 refine R_mv rfl (R_e (W_r (R_lk rfl rfl rfl rfl (R_lk t7 h7 rfl rfl (R_callk (tstep_pure (w11_1.1) w11_0 (bg_bd (by decide+kernel)) (by decide+kernel) (by decide+kernel)) rfl (R_mv rfl (R_ext rfl rfl ?_)))))))
 refine R_ext rfl rfl (R_ext rfl rfl (R_ext rfl rfl (R_alloc (i:=17) (n:=0) (m:=2) rfl (congrArg Blk.ver h17) rfl (R_sk rfl rfl rfl rfl rfl rfl rfl rfl rfl (R_mv rfl (R_mv rfl (R_mv rfl ?_)))))))
 refine R_e (W_seq_seq ?_)
 refine W_seq_regc (fun T H=>T 4=(intss (w11_2.2.1))∧T 12=(V.mp 12 1 0 0)∧T 14=(V.mp 14 1 0 0)∧T 18=w11_15∧T 110=(V.bool ((((w11_11||decide ((w11_1.2.2)≠(0:Int))))||decide (w11_16≠(0:Int)))))∧H 1=w11_8∧H 3=w11_9∧H 7=w11_5∧H 8=w11_6∧H 12=w11_3∧H 14=w11_10∧H 17=w11_7∧True) ?_ ?_
 ·
  refine R_mv t2 (R_neq rfl rfl (R_mv rfl ?_))
  refine Ops_seg 3 (fun T H=>T 4=(intss (w11_2.2.1))∧T 5=(V.bool (w11_2.2.2.1))∧T 9=(intss (w11_14.2.1))∧T 10=(V.bool (w11_14.2.2.1))∧T 11=(iV (w11_14.2.2.2))∧T 12=(V.mp 12 1 0 0)∧T 13=(iV w11_17)∧T 14=(V.mp 14 1 0 0)∧T 15=(intss (w11_1.2.1))∧T 16=(iV (w11_1.2.2))∧T 18=w11_15∧T 20=(iV w11_16)∧T 77=(V.bool (decide (((nwE ((2:Int)))≠(0:Int))∨((w11_2.2.2.2)≠(0:Int)))))∧H 1=w11_8∧H 3=w11_9∧H 7=w11_5∧H 8=w11_6∧H 12=w11_3∧H 14=w11_10∧H 17=w11_7∧True) ?_ ?_
  ·
   by_cases g1:(nwE ((2:Int)))≠(0:Int)
   ·
    refine G_n (edT g1 rfl) (G_n (edT g1 rfl) (R_pickT (edT g1 rfl) rfl ?_))
    exact ⟨t4,t5,t9,t10,t11,rfl,rfl,rfl,rfl,rfl,rfl,rfl,(dec_orT g1),h1,h3,h7,h8,rfl,rfl,rfl,trivial⟩
   ·
    refine G_yes (edF g1 rfl) (R_mv t6 (G_yes (edF g1 rfl) (R_neq rfl rfl (R_pickF (edF g1 rfl) rfl ?_))))
    exact ⟨t4,t5,t9,t10,t11,rfl,rfl,rfl,rfl,rfl,rfl,rfl,(dec_orF g1),h1,h3,h7,h8,rfl,rfl,rfl,trivial⟩
  intro T H ⟨t4,t5,t9,t10,t11,t12,t13,t14,t15,t16,t18,t20,t77,h1,h3,h7,h8,h12,h14,h17,_⟩
  refine R_mv t77 ?_
  refine Ops_seg 2 (fun T H=>T 4=(intss (w11_2.2.1))∧T 9=(intss (w11_14.2.1))∧T 10=(V.bool (w11_14.2.2.1))∧T 11=(iV (w11_14.2.2.2))∧T 12=(V.mp 12 1 0 0)∧T 13=(iV w11_17)∧T 14=(V.mp 14 1 0 0)∧T 15=(intss (w11_1.2.1))∧T 16=(iV (w11_1.2.2))∧T 18=w11_15∧T 20=(iV w11_16)∧T 80=(V.bool ((decide (((nwE ((2:Int)))≠(0:Int))∨((w11_2.2.2.2)≠(0:Int)))||(w11_2.2.2.1))))∧H 1=w11_8∧H 3=w11_9∧H 7=w11_5∧H 8=w11_6∧H 12=w11_3∧H 14=w11_10∧H 17=w11_7∧True) ?_ ?_
  ·
   by_cases g2:((nwE ((2:Int)))≠(0:Int))∨((w11_2.2.2.2)≠(0:Int))
   ·
    refine G_n (edT g2 rfl) (R_pickT (edT g2 rfl) rfl ?_)
    exact ⟨t4,t9,t10,t11,t12,t13,t14,t15,t16,t18,t20,(dborT g2),h1,h3,h7,h8,h12,h14,h17,trivial⟩
   ·
    refine G_yes (edF g2 rfl) (R_mv t5 (R_pickF (edF g2 rfl) rfl ?_))
    exact ⟨t4,t9,t10,t11,t12,t13,t14,t15,t16,t18,t20,(dborF g2),h1,h3,h7,h8,h12,h14,h17,trivial⟩
  intro T H ⟨t4,t9,t10,t11,t12,t13,t14,t15,t16,t18,t20,t80,h1,h3,h7,h8,h12,h14,h17,_⟩
  refine R_mv t80 ?_
  refine Ops_seg 3 (fun T H=>T 4=(intss (w11_2.2.1))∧T 9=(intss (w11_14.2.1))∧T 10=(V.bool (w11_14.2.2.1))∧T 12=(V.mp 12 1 0 0)∧T 13=(iV w11_17)∧T 14=(V.mp 14 1 0 0)∧T 15=(intss (w11_1.2.1))∧T 16=(iV (w11_1.2.2))∧T 18=w11_15∧T 20=(iV w11_16)∧T 84=(V.bool w11_12)∧H 1=w11_8∧H 3=w11_9∧H 7=w11_5∧H 8=w11_6∧H 12=w11_3∧H 14=w11_10∧H 17=w11_7∧True) ?_ ?_
  ·
   by_cases g3:((decide (((nwE ((2:Int)))≠(0:Int))∨((w11_2.2.2.2)≠(0:Int)))||(w11_2.2.2.1)))=true
   ·
    refine G_n (ebT g3 rfl) (G_n (ebT g3 rfl) (R_pickT (ebT g3 rfl) rfl ?_))
    exact ⟨t4,t9,t10,t12,t13,t14,t15,t16,t18,t20,(borT g3),h1,h3,h7,h8,h12,h14,h17,trivial⟩
   ·
    refine G_yes (ebF g3 rfl) (R_mv t11 (G_yes (ebF g3 rfl) (R_neq rfl rfl (R_pickF (ebF g3 rfl) rfl ?_))))
    exact ⟨t4,t9,t10,t12,t13,t14,t15,t16,t18,t20,(borF g3),h1,h3,h7,h8,h12,h14,h17,trivial⟩
  intro T H ⟨t4,t9,t10,t12,t13,t14,t15,t16,t18,t20,t84,h1,h3,h7,h8,h12,h14,h17,_⟩
  refine R_mv t84 ?_
  refine Ops_seg 3 (fun T H=>T 4=(intss (w11_2.2.1))∧T 9=(intss (w11_14.2.1))∧T 12=(V.mp 12 1 0 0)∧T 13=(iV w11_17)∧T 14=(V.mp 14 1 0 0)∧T 15=(intss (w11_1.2.1))∧T 16=(iV (w11_1.2.2))∧T 18=w11_15∧T 20=(iV w11_16)∧T 88=(V.bool ((w11_12||((!w11_14.2.2.1)))))∧H 1=w11_8∧H 3=w11_9∧H 7=w11_5∧H 8=w11_6∧H 12=w11_3∧H 14=w11_10∧H 17=w11_7∧True) ?_ ?_
  ·
   by_cases g4:w11_12=true
   ·
    refine G_n (ebT g4 rfl) (G_n (ebT g4 rfl) (R_pickT (ebT g4 rfl) rfl ?_))
    exact ⟨t4,t9,t12,t13,t14,t15,t16,t18,t20,(borT g4),h1,h3,h7,h8,h12,h14,h17,trivial⟩
   ·
    refine G_yes (ebF g4 rfl) (R_mv t10 (G_yes (ebF g4 rfl) (R_notb rfl (R_pickF (ebF g4 rfl) rfl ?_))))
    exact ⟨t4,t9,t12,t13,t14,t15,t16,t18,t20,(borF g4),h1,h3,h7,h8,h12,h14,h17,trivial⟩
  intro T H ⟨t4,t9,t12,t13,t14,t15,t16,t18,t20,t88,h1,h3,h7,h8,h12,h14,h17,_⟩
  refine R_mv t88 ?_
  refine Ops_seg 4 (fun T H=>T 4=(intss (w11_2.2.1))∧T 12=(V.mp 12 1 0 0)∧T 13=(iV w11_17)∧T 14=(V.mp 14 1 0 0)∧T 15=(intss (w11_1.2.1))∧T 16=(iV (w11_1.2.2))∧T 18=w11_15∧T 20=(iV w11_16)∧T 93=(V.bool w11_4)∧H 1=w11_8∧H 3=w11_9∧H 7=w11_5∧H 8=w11_6∧H 12=w11_3∧H 14=w11_10∧H 17=w11_7∧True) ?_ ?_
  ·
   by_cases g5:((w11_12||((!w11_14.2.2.1))))=true
   ·
    refine G_n (ebT g5 rfl) (G_n (ebT g5 rfl) (G_n (ebT g5 rfl) (R_pickT (ebT g5 rfl) rfl ?_)))
    exact ⟨t4,t12,t13,t14,t15,t16,t18,t20,(borT g5),h1,h3,h7,h8,h12,h14,h17,trivial⟩
   ·
    refine G_yes (ebF g5 rfl) (R_mv t9 (G_yes (ebF g5 rfl) (R_len rfl (G_yes (ebF g5 rfl) (R_neq rfl rfl (R_pickF (ebF g5 rfl) rfl ?_))))))
    exact ⟨t4,t12,t13,t14,t15,t16,t18,t20,(borF g5),h1,h3,h7,h8,h12,h14,h17,trivial⟩
  intro T H ⟨t4,t12,t13,t14,t15,t16,t18,t20,t93,h1,h3,h7,h8,h12,h14,h17,_⟩
  refine R_mv t93 ?_
  refine Ops_seg 3 (fun T H=>T 4=(intss (w11_2.2.1))∧T 12=(V.mp 12 1 0 0)∧T 14=(V.mp 14 1 0 0)∧T 15=(intss (w11_1.2.1))∧T 16=(iV (w11_1.2.2))∧T 18=w11_15∧T 20=(iV w11_16)∧T 97=(V.bool ((w11_4||decide (w11_17≠(0:Int)))))∧H 1=w11_8∧H 3=w11_9∧H 7=w11_5∧H 8=w11_6∧H 12=w11_3∧H 14=w11_10∧H 17=w11_7∧True) ?_ ?_
  ·
   by_cases g6:w11_4=true
   ·
    refine G_n (ebT g6 rfl) (G_n (ebT g6 rfl) (R_pickT (ebT g6 rfl) rfl ?_))
    exact ⟨t4,t12,t14,t15,t16,t18,t20,(borT g6),h1,h3,h7,h8,h12,h14,h17,trivial⟩
   ·
    refine G_yes (ebF g6 rfl) (R_mv t13 (G_yes (ebF g6 rfl) (R_neq rfl rfl (R_pickF (ebF g6 rfl) rfl ?_))))
    exact ⟨t4,t12,t14,t15,t16,t18,t20,(borF g6),h1,h3,h7,h8,h12,h14,h17,trivial⟩
  intro T H ⟨t4,t12,t14,t15,t16,t18,t20,t97,h1,h3,h7,h8,h12,h14,h17,_⟩
  refine R_mv t97 ?_
  refine Ops_seg 4 (fun T H=>T 4=(intss (w11_2.2.1))∧T 12=(V.mp 12 1 0 0)∧T 14=(V.mp 14 1 0 0)∧T 16=(iV (w11_1.2.2))∧T 18=w11_15∧T 20=(iV w11_16)∧T 102=(V.bool w11_11)∧H 1=w11_8∧H 3=w11_9∧H 7=w11_5∧H 8=w11_6∧H 12=w11_3∧H 14=w11_10∧H 17=w11_7∧True) ?_ ?_
  ·
   by_cases g7:((w11_4||decide (w11_17≠(0:Int))))=true
   ·
    refine G_n (ebT g7 rfl) (G_n (ebT g7 rfl) (G_n (ebT g7 rfl) (R_pickT (ebT g7 rfl) rfl ?_)))
    exact ⟨t4,t12,t14,t16,t18,t20,(borT g7),h1,h3,h7,h8,h12,h14,h17,trivial⟩
   ·
    refine G_yes (ebF g7 rfl) (R_mv t15 (G_yes (ebF g7 rfl) (R_len rfl (G_yes (ebF g7 rfl) (R_neq rfl rfl (R_pickF (ebF g7 rfl) rfl ?_))))))
    exact ⟨t4,t12,t14,t16,t18,t20,(borF g7),h1,h3,h7,h8,h12,h14,h17,trivial⟩
  intro T H ⟨t4,t12,t14,t16,t18,t20,t102,h1,h3,h7,h8,h12,h14,h17,_⟩
  refine R_mv t102 ?_
  refine Ops_seg 3 (fun T H=>T 4=(intss (w11_2.2.1))∧T 12=(V.mp 12 1 0 0)∧T 14=(V.mp 14 1 0 0)∧T 18=w11_15∧T 20=(iV w11_16)∧T 106=(V.bool ((w11_11||decide ((w11_1.2.2)≠(0:Int)))))∧H 1=w11_8∧H 3=w11_9∧H 7=w11_5∧H 8=w11_6∧H 12=w11_3∧H 14=w11_10∧H 17=w11_7∧True) ?_ ?_
  ·
   by_cases g8:w11_11=true
   ·
    refine G_n (ebT g8 rfl) (G_n (ebT g8 rfl) (R_pickT (ebT g8 rfl) rfl ?_))
    exact ⟨t4,t12,t14,t18,t20,(borT g8),h1,h3,h7,h8,h12,h14,h17,trivial⟩
   ·
    refine G_yes (ebF g8 rfl) (R_mv t16 (G_yes (ebF g8 rfl) (R_neq rfl rfl (R_pickF (ebF g8 rfl) rfl ?_))))
    exact ⟨t4,t12,t14,t18,t20,(borF g8),h1,h3,h7,h8,h12,h14,h17,trivial⟩
  intro T H ⟨t4,t12,t14,t18,t20,t106,h1,h3,h7,h8,h12,h14,h17,_⟩
  refine R_mv t106 ?_
  refine Ops_seg 3 (fun T H=>T 4=(intss (w11_2.2.1))∧T 12=(V.mp 12 1 0 0)∧T 14=(V.mp 14 1 0 0)∧T 18=w11_15∧T 110=(V.bool ((((w11_11||decide ((w11_1.2.2)≠(0:Int))))||decide (w11_16≠(0:Int)))))∧H 1=w11_8∧H 3=w11_9∧H 7=w11_5∧H 8=w11_6∧H 12=w11_3∧H 14=w11_10∧H 17=w11_7∧True) ?_ ?_
  ·
   by_cases g9:((w11_11||decide ((w11_1.2.2)≠(0:Int))))=true
   ·
    refine G_n (ebT g9 rfl) (G_n (ebT g9 rfl) (R_pickT (ebT g9 rfl) rfl ?_))
    exact ⟨t4,t12,t14,t18,(borT g9),h1,h3,h7,h8,h12,h14,h17,trivial⟩
   ·
    refine G_yes (ebF g9 rfl) (R_mv t20 (G_yes (ebF g9 rfl) (R_neq rfl rfl (R_pickF (ebF g9 rfl) rfl ?_))))
    exact ⟨t4,t12,t14,t18,(borF g9),h1,h3,h7,h8,h12,h14,h17,trivial⟩
  intro T H ⟨t4,t12,t14,t18,t110,h1,h3,h7,h8,h12,h14,h17,_⟩
  exact R_nil ⟨t4,t12,t14,t18,t110,h1,h3,h7,h8,h12,h14,h17,trivial⟩
 intro T H ⟨t4,t12,t14,t18,t110,h1,h3,h7,h8,h12,h14,h17,_⟩
 refine W_seq_ifb t110 (fun c10=>?_) (fun c10=>?_)
 · exfalso; revert c10; decide+kernel
 refine W_seq_skip (W_r (R_mv t4 (R_bslice rfl rfl (R_bslice rfl rfl (R_bslice rfl rfl (R_callk (swords_pure (w11_2.2.1) ([[0],[1]])) rfl (R_mv rfl ?_)))))))
 refine Ops_seg 6 (fun T H=>T 14=(V.mp 14 1 0 0)∧T 18=w11_15∧T 122=(V.bool (decide w11_13))∧H 1=w11_8∧H 3=w11_9∧H 7=w11_5∧H 8=w11_6∧H 12=w11_3∧H 14=w11_10∧H 17=w11_7∧True) ?_ ?_
 ·
  by_cases g11:(w11_2.2.1)=([[0],[1]])
  ·
   refine G_yes (edT g11 rfl) (R_fk t12 h12 (G_yes (edT g11 rfl) (R_fk rfl h12 (G_yes (edT g11 rfl) (R_lk rfl h12 rfl rfl (G_yes (edT g11 rfl) (R_len rfl ?_)))))))
   refine G_yes (edT g11 rfl) (R_eql rfl rfl (R_pickT (edT g11 rfl) rfl ?_))
   exact ⟨t14,t18,(dec_andT g11),h1,h3,h7,h8,h12,h14,h17,trivial⟩
  ·
   refine G_n (edF g11 rfl) (G_n (edF g11 rfl) (G_n (edF g11 rfl) (G_n (edF g11 rfl) (G_n (edF g11 rfl) (R_pickF (edF g11 rfl) rfl ?_)))))
   exact ⟨t14,t18,(dec_andF g11),h1,h3,h7,h8,h12,h14,h17,trivial⟩
 intro T H ⟨t14,t18,t122,h1,h3,h7,h8,h12,h14,h17,_⟩
 refine R_mv t122 ?_
 refine Ops_seg 6 (fun T H=>T 18=w11_15∧T 129=(V.bool (decide (w11_13∧((((w11_1.1.t.nd).length:Nat):Int)=(3:Int)))))∧H 1=w11_8∧H 3=w11_9∧H 7=w11_5∧H 8=w11_6∧H 12=w11_3∧H 14=w11_10∧H 17=w11_7∧True) ?_ ?_
 ·
  by_cases g12:((w11_2.2.1)=([[0],[1]]))∧(((((hyR ((nwT ((2:Int)))) w11_0).m.nx).length:Nat):Int)=(1:Int))
  ·
   refine G_yes (edT g12 rfl) (R_fk t14 h14 (G_yes (edT g12 rfl) (R_fk rfl h14 (G_yes (edT g12 rfl) (R_lk rfl h14 rfl rfl (G_yes (edT g12 rfl) (R_len rfl ?_)))))))
   refine G_yes (edT g12 rfl) (R_eql rfl rfl (R_pickT (edT g12 rfl) rfl ?_))
   exact ⟨t18,(dec_andT g12),h1,h3,h7,h8,h12,h14,h17,trivial⟩
  ·
   refine G_n (edF g12 rfl) (G_n (edF g12 rfl) (G_n (edF g12 rfl) (G_n (edF g12 rfl) (G_n (edF g12 rfl) (R_pickF (edF g12 rfl) rfl ?_)))))
   exact ⟨t18,(dec_andF g12),h1,h3,h7,h8,h12,h14,h17,trivial⟩
 intro T H ⟨t18,t129,h1,h3,h7,h8,h12,h14,h17,_⟩
 refine R_mv t129 ?_
 refine Ops_seg 7 (fun T H=>T 137=(V.bool (decide ((w11_13∧((((w11_1.1.t.nd).length:Nat):Int)=(3:Int)))∧(((tst (w11_1.1) w11_0).2.1)=([[1,1],[0,0,1],[0,1,1]])))))∧H 1=w11_8∧H 3=w11_9∧H 7=w11_5∧H 8=w11_6∧H 12=w11_3∧H 14=w11_10∧H 17=w11_7∧True) ?_ ?_
 ·
  by_cases g13:w11_13∧((((w11_1.1.t.nd).length:Nat):Int)=(3:Int))
  ·
   refine G_yes (edT g13 rfl) (R_mv t18 (G_yes (edT g13 rfl) (R_bslice rfl rfl (G_yes (edT g13 rfl) (R_bslice rfl rfl (G_yes (edT g13 rfl) (R_bslice rfl rfl ?_)))))))
   refine G_yes (edT g13 rfl) (R_bslice rfl rfl (G_yes (edT g13 rfl) (R_callk (swords_pure ((tst (w11_1.1) w11_0).2.1) ([[1,1],[0,0,1],[0,1,1]])) rfl (R_pickT (edT g13 rfl) rfl ?_))))
   exact ⟨(dec_andT g13),h1,h3,h7,h8,h12,h14,h17,trivial⟩
  ·
   refine G_n (edF g13 rfl) (G_n (edF g13 rfl) (G_n (edF g13 rfl) (G_n (edF g13 rfl) (G_n (edF g13 rfl) (G_n (edF g13 rfl) (R_pickF (edF g13 rfl) rfl ?_))))))
   exact ⟨(dec_andF g13),h1,h3,h7,h8,h12,h14,h17,trivial⟩
 intro T H ⟨t137,h1,h3,h7,h8,h12,h14,h17,_⟩
 refine R_mv t137 (R_e (W_ret ?_))
 refine Ret_1 (@rfl V (V.bool (decide ((w11_13∧((((w11_1.1.t.nd).length:Nat):Int)=(3:Int)))∧(((tst (w11_1.1) w11_0).2.1)=([[1,1],[0,0,1],[0,1,1]])))))) (fz_bool ?_)
 · decide+kernel
def r25_1:List SO:=[
 qF 3 2 1,
 ql 4 3,
 qN 5 4,
 qC 6 .leq 5 12,
 qM 7 6,
 ⟨some (7,true),some 8,.fld 3 (.t 1)⟩,
 ⟨some (7,true),some 9,.load false 1 (.t 8)⟩,
 ⟨some (7,true),some 10,.len (.t 9)⟩,
 ⟨some (7,true),some 11,.bin .leq (.t 10) (.c (.int .i64 12))⟩,
 sO 12 (.pick (.t 7) (.t 11) (.c (.bool false))),
 qM 13 12,
 ⟨some (13,true),some 14,.fld 0 (.t 1)⟩,
 ⟨some (13,true),some 15,.load false 1 (.t 14)⟩,
 ⟨some (13,true),some 16,.bin .leq (.t 15) (.c (.int .i64 4))⟩,
 sO 17 (.pick (.t 13) (.t 16) (.c (.bool false))),
 qM 2 17]
def s25:SF:=⟨18,[.tmp 2],.seq (.reg [sO 1 (.box 46 4 (.t 0)),sO 2 (.mv (.c (.bool false)))]) (.seq (.reg r25_1) (.ret))⟩
theorem s25_ok:slimF Tryz.prog ⟨[107,108,109,116,120,126,127,167,169,170,171,172,194,196,198,209,222,226],[]⟩ Tryz.f25=some s25:=by kernel_rfl
end Go.Proofs.YtmnjchcoigbngabGreat
namespace Go.Proofs.YtmnjchcoigbngabGreat
open Go
theorem lvs_srt (t:Dt):SrtW (lvs t):=by
  unfold lvs; split
  · exact sdW_srt _
  · exact List.Pairwise.nil
theorem tst_cases (l:Ts) (o:Ob):((tst l o).1=l∧ ¬((tst l o).2.2.2=0∧(tst l o).2.1.length=0∧(tst l o).2.2.1=false))∨
    ((tst l o).2.2.2=0∧(tst l o).2.1.length=0∧(tst l o).2.2.1=false∧tsE l o=0∧sfE l o=0∧(mxW (qra l o)).length=0∧ ∃ k:Nat,k < (exs l).length∧tsN l o=k∧inx l o k=true∧
      grE l.t (sftR l.t o (nth (exs l) k)).1 (bho o (nth (exs l) k) (nth l.t.nd (sftR l.t o (nth (exs l) k)).1.toNat).sf) (nth (exs l) k)=0∧
      (tst l o).1=⟨l.i,grT l.t (sftR l.t o (nth (exs l) k)).1 (bho o (nth (exs l) k) (nth l.t.nd (sftR l.t o (nth (exs l) k)).1.toNat).sf) (nth (exs l) k)⟩):=by
  by_cases h1:tsE l o≠0
  · rw [tst_e1 h1]; exact .inl ⟨rfl,fun h=>h1 h.1⟩
  by_cases h2:sfE l o≠0
  · rw [tst_e2 h1 h2]; exact .inl ⟨rfl,fun h=>h2 h.1⟩
  by_cases h3:0 < (mxW (qra l o)).length
  · rw [tst_ask h1 h2 h3]; exact .inl ⟨rfl,fun h=>by have:=h.2.1; dsimp only at this; omega⟩
  by_cases h4:tsN l o < 0
  · rw [tst_done h1 h2 h3 h4]; exact .inl ⟨rfl,fun h=>by simp at h⟩
  by_cases h5:128≤(acL l.t.nd).length
  · rw [tst_lim h1 h2 h3 (by omega) h5]; exact .inl ⟨rfl,fun h=>by simp at h⟩
  have h4':0≤tsN l o:=by omega
  have hb:=(fi_bnd (p:=inx l o) (exs l).length 0).2 h4'
  have hv:=fi_val h4'
  have hk:tsN l o=((tsN l o).toNat:Int):=by omega
  by_cases h6:grE l.t (sftR l.t o (nth (exs l) (tsN l o).toNat)).1 (bho o (nth (exs l) (tsN l o).toNat) (nth l.t.nd (sftR l.t o (nth (exs l) (tsN l o).toNat)).1.toNat).sf) (nth (exs l) (tsN l o).toNat)≠0
  · rw [tst_ge h1 h2 h3 hk (by omega) h6]; exact .inl ⟨rfl,fun h=>h6 h.1⟩
  · refine .inr ?_
    rw [tst_gr h1 h2 h3 hk (by omega) h6]
    exact ⟨rfl,rfl,rfl,by omega,by omega,by omega,(tsN l o).toNat,by have e:fi (inx l o) 0 (exs l).length=tsN l o:=rfl; rw [e] at hb; omega,hk,hv.2.2.1,by omega,rfl⟩
theorem rfR_cases (l:Ts) (o:Ob) (s:Spl):((rfR l o s).1=l∧ ¬((rfR l o s).2.2=0∧(rfR l o s).2.1.length=0))∨
    ((rfR l o s).2.2=0∧(rfR l o s).2.1.length=0∧tsE l o=0∧prS s l.i=0∧(sftR l.t o (rfW s)).2.2=0∧(sftR l.t o (rfW s)).2.1.length=0∧(rfN l o s).lf=true∧(msW o (rfB l o s)).length=0∧rfG l o s=0∧(rfR l o s).1=rfT l o s):=by
  by_cases h1:tsE l o≠0
  · rw [rfR_1 h1]; exact .inl ⟨rfl,fun h=>h1 h.1⟩
  by_cases h2:prS s l.i≠0
  · rw [rfR_2 h1 h2]; exact .inl ⟨rfl,fun h=>h2 h.1⟩
  by_cases h3:(sftR l.t o (rfW s)).2.2≠0
  · rw [rfR_3 h1 h2 h3]; exact .inl ⟨rfl,fun h=>h3 h.1⟩
  by_cases h4:0 < (sftR l.t o (rfW s)).2.1.length
  · rw [rfR_4 h1 h2 h3 h4]; exact .inl ⟨rfl,fun h=>by simp at h⟩
  by_cases h5:(rfN l o s).lf=false
  · rw [rfR_5 h1 h2 h3 h4 h5]; exact .inl ⟨rfl,fun h=>by simp at h⟩
  by_cases h6:1024 < (rfN l o s).ac.length+s.x.length∨1024 < (rfW s).length+s.x.length
  · rw [rfR_6 h1 h2 h3 h4 h5 h6]; exact .inl ⟨rfl,fun h=>by simp at h⟩
  by_cases h7:0 < (msW o (rfB l o s)).length
  · rw [rfR_7 h1 h2 h3 h4 h5 h6 h7]
    refine .inl ⟨rfl,fun h=>?_⟩
    have:=mx_empty (l:=msW o (rfB l o s)) h.2
    rw [this] at h7; simp at h7
  by_cases h8:128≤(acL l.t.nd).length
  · rw [rfR_8 h1 h2 h3 h4 h5 h6 h7 h8]; exact .inl ⟨rfl,fun h=>by simp at h⟩
  by_cases h9:rfG l o s≠0
  · rw [rfR_9 h1 h2 h3 h4 h5 h6 h7 h8 h9]; exact .inl ⟨rfl,fun h=>h9 h.1⟩
  · rw [rfR_10 h1 h2 h3 h4 h5 h6 h7 h8 h9]
    exact .inr ⟨rfl,rfl,by omega,by omega,by omega,by omega,by simpa using h5,by omega,by omega,rfl⟩
theorem tst_bd {l:Ts} {o:Ob} (h:bgT l.t=false) (ho:oval o=0):Bd (tst l o).1.t:=by
  rcases tst_cases l o with ⟨h1,h2⟩|⟨h1,h2,h3,h4,_,_,k,hk,_,_,h5,h6⟩
  · rw [h1]; exact bg_bd h
  · rw [h6]
    have hw:=exs_word (ts_ok h4).1 (nth_mem hk)
    obtain ⟨n0,n1,_⟩:=no_ok (gr_ok h5).2.1
    have hs:=((bg_ok h).2 (sftR l.t o (nth (exs l) k)).1.toNat (by omega)).2.1
    have hb:=bho_le ho (nth (exs l) k) (nth l.t.nd (sftR l.t o (nth (exs l) k)).1.toNat).sf
    exact gr_bd h _ (by omega) (by omega)
theorem rfR_bd {l:Ts} {o:Ob} {s:Spl} (h:bgT l.t=false) (ho:oval o=0):Bd (rfR l o s).1.t:=by
  rcases rfR_cases l o s with ⟨h1,h2⟩|⟨h1,h2,h3,h4,_,_,_,_,h5,h6⟩
  · rw [h1]; exact bg_bd h
  · rw [h6]
    obtain ⟨p1,_,_,_,p5⟩:=prS_ok (s:=s) (i:=l.i) (by omega)
    have q1:=(wchk_ok p1).1
    have q2:=(wchk_ok p5).1
    have q3:(rfW s).length=s.p.length+1:=by simp [rfW,cat]
    have b1:=bho_le ho (rfN l o s).ac s.x
    have b2:=bho_le ho (rfW s) s.x
    exact sp_bd h _ (by omega) (by omega) (by omega) (by omega)
theorem lvs_few {t:Dt} (hb:Bd t):(lvs t).length≤4096:=sd_ln hb
end Go.Proofs.YtmnjchcoigbngabGreat
namespace Go.Proofs.YtmnjchcoigbngabGreat
open Go
structure Pr where
  s:Int
  t:Int
  w:List Int
  deriving Inhabited
abbrev cPr (p:Pr):List V:=[iV p.s,iV p.t,ints p.w]
@[simp] theorem pureLL_prs (l:List Pr):pureLL (l.map cPr)=true:=pureLL_map _ _ fun a=>by simp [cPr]
@[simp] theorem canonLL_prs (l:List Pr):canonLL (l.map cPr)=true:=canonLL_map _ _ fun a=>by simp [cPr]
def knK (L:List Pr) (u v:Int):Nat→Bool
  |0=>false
  |k+1=>knK L u v k||decide ((nth L k).s=u∧(nth L k).t=v)
theorem knK_iff {L:List Pr} {u v:Int}: ∀ {k:Nat},knK L u v k=true↔ ∃ j,j < k∧(nth L j).s=u∧(nth L j).t=v
  |0=>by simp [knK]
  |k+1=>by
    simp only [knK,Bool.or_eq_true,decide_eq_true_eq,knK_iff (k:=k)]
    constructor
    · rintro (⟨j,h1,h2⟩|h)
      · exact ⟨j,by omega,h2⟩
      · exact ⟨k,by omega,h⟩
    · rintro ⟨j,h1,h2⟩
      by_cases e:j=k
      · subst e; exact .inr h2
      · exact .inl ⟨j,by omega,h2⟩
def nxS (m:M) (s:Int) (x:Nat):Int:=nth (nth m.nx s.toNat) x
def otS (m:M) (s:Int) (x:Nat):Int:=nth (nth m.ot s.toNat) x
def bqS (a b:M) (p:Pr) (L:List Pr) (x:Nat):List Pr:=
  if knK L (nxS a p.s x) (nxS b p.t x) L.length=true then L else L++[⟨nxS a p.s x,nxS b p.t x,p.w++[(x:Int)]⟩]
def bqR (a b:M) (p:Pr) (L:List Pr):Nat→List Pr
  |0=>L
  |x+1=>bqS a b p (bqR a b p L x) x
def bqD (a b:M) (p:Pr) (x:Nat):Bool:=decide (otS a p.s x≠otS b p.t x)
def bq (a b:M):Nat→Nat→List Pr→Option (List Int)
  |0,_,_=>none
  |n+1,i,L=>if i < L.length then (if 0≤fi (bqD a b (nth L i)) 0 a.i.toNat then some ((nth L i).w++[fi (bqD a b (nth L i)) 0 a.i.toNat]) else bq a b n (i+1) (bqR a b (nth L i) L a.i.toNat)) else none
def dst (a b:M) (s t:Int):Option (List Int):=bq a b (a.nx.length*b.nx.length+1) 0 [⟨s,t,[]⟩]
theorem bqS_pre (a b:M) (p:Pr) (L:List Pr) (x:Nat): ∃ y,bqS a b p L x=L++y:=by
  unfold bqS; split
  · exact ⟨[],by simp⟩
  · exact ⟨_,rfl⟩
theorem bqR_pre (a b:M) (p:Pr) (L:List Pr): ∀ x,∃ y,bqR a b p L x=L++y
  |0=>⟨[],by simp [bqR]⟩
  |x+1=>by
    obtain ⟨y,hy⟩:=bqR_pre a b p L x
    obtain ⟨z,hz⟩:=bqS_pre a b p (bqR a b p L x) x
    exact ⟨y++z,by rw [bqR,hz,hy,List.append_assoc]⟩
theorem bqR_nth {a b:M} {p:Pr} {L:List Pr} {x i:Nat} (h:i < L.length):nth (bqR a b p L x) i=nth L i:=by
  obtain ⟨y,hy⟩:=bqR_pre a b p L x
  rw [hy,nth_app_l h]
theorem bqR_len {a b:M} {p:Pr} {L:List Pr} {x:Nat}:L.length≤(bqR a b p L x).length:=by
  obtain ⟨y,hy⟩:=bqR_pre a b p L x
  rw [hy,List.length_append]; omega
theorem bqR_yes {a b:M} {p:Pr} {L:List Pr} {x:Nat} (h:knK (bqR a b p L x) (nxS a p.s x) (nxS b p.t x) (bqR a b p L x).length=true):bqR a b p L (x+1)=bqR a b p L x:=if_pos h
theorem bqR_no {a b:M} {p:Pr} {L:List Pr} {x:Nat} (h:knK (bqR a b p L x) (nxS a p.s x) (nxS b p.t x) (bqR a b p L x).length=false):
    bqR a b p L (x+1)=bqR a b p L x++[⟨nxS a p.s x,nxS b p.t x,p.w++[(x:Int)]⟩]:=if_neg (by rw [h]; decide)
def InW (n:Int) (w:List Int):Prop:= ∀ k,k < w.length→0≤nth w k∧nth w k < n
theorem InW.snoc {n:Int} {w:List Int} (h:InW n w) {x:Int} (h0:0≤x) (h1:x < n):InW n (w++[x]):=by
  intro k hk
  rw [List.length_append,List.length_singleton] at hk
  by_cases e:k < w.length
  · rw [nth_app_l e]; exact h k e
  · have q:nth (w++[x]) (w.length+(k - w.length))=nth [x] (k - w.length):=nth_app_r
    rw [show w.length+(k - w.length)=k by omega,show k - w.length=0 by omega,nth_zero] at q
    rw [q]; exact ⟨h0,h1⟩
theorem inW_cons {n a:Int} {w:List Int} (h:InW n (a::w)):0≤a∧a < n∧InW n w:=by
  have h0:=h 0 (by simp)
  rw [nth_zero] at h0
  refine ⟨h0.1,h0.2,fun k hk=>?_⟩
  have:=h (k+1) (by simpa using hk)
  rwa [nth_succ] at this
theorem mv_nx {m:M} (h:mval m=0) {s:Int} {x:Nat} (h0:0≤s) (h1:s < m.nx.length) (hx:x < m.i.toNat):0≤nxS m s x∧nxS m s x < m.nx.length∧0≤otS m s x∧otS m s x≤1048576:=by
  have:=((mval_ok h).2.2.2.2.2.2.2 s.toNat (by omega)).2.2 x (by omega)
  exact this
theorem mv_rows {m:M} (h:mval m=0) {s:Int} (h0:0≤s) (h1:s < m.nx.length):(nth m.nx s.toNat).length=m.i.toNat∧(nth m.ot s.toNat).length=m.i.toNat∧m.ot.length=m.nx.length:=by
  have q:=mval_ok h
  have:=q.2.2.2.2.2.2.2 s.toNat (by omega)
  omega
theorem cell_ot (m:M) (s:Int) (x:Nat):cell m.ot s (x:Int)=otS m s x:=rfl
structure BI (a b:M) (s0 t0:Int) (L:List Pr):Prop where
  rg: ∀ p∈L,0≤p.s∧p.s < a.nx.length∧0≤p.t∧p.t < b.nx.length
  nd:L.Pairwise fun p q=> ¬(p.s=q.s∧p.t=q.t)
  st: ∀ p∈L,goal a s0 p.w=p.s∧goal b t0 p.w=p.t∧outs a s0 p.w=outs b t0 p.w∧InW a.i p.w
  ln: ∀ k,k < L.length→(nth L k).w.length≤k
  hd:0 < L.length∧(nth L 0).s=s0∧(nth L 0).t=t0
section
variable {a b:M} {s0 t0:Int}
theorem BI.start (h1:0≤s0) (h2:s0 < a.nx.length) (h3:0≤t0) (h4:t0 < b.nx.length):BI a b s0 t0 [⟨s0,t0,[]⟩]:=by
  refine ⟨fun p hp=>?_,List.pairwise_singleton _ _,fun p hp=>?_,fun k hk=>?_,by simp,rfl,rfl⟩
  · rw [List.mem_singleton.1 hp]; exact ⟨h1,h2,h3,h4⟩
  · rw [List.mem_singleton.1 hp]; exact ⟨rfl,rfl,rfl,fun k hk=>by simp at hk⟩
  · have:k=0:=by simpa using hk
    subst this; simp [nth_zero]
theorem BI.step (ha:mval a=0) (hb:mval b=0) (hi:a.i=b.i) {L:List Pr} (h:BI a b s0 t0 L) {i x:Nat} (hk:i < L.length) (hx:x < a.i.toNat) {q:Pr} (hq:q=nth L i) (hd:bqD a b q x=false):BI a b s0 t0 (bqS a b q L x):=by
  unfold bqS
  split
  · exact h
  · rename_i hn
    have hm:nth L i∈L:=nth_mem hk
    have r:=h.rg _ hm
    have s:=h.st _ hm
    rw [← hq] at r s
    have n1:=mv_nx ha r.1 r.2.1 hx
    have n2:=mv_nx hb r.2.2.1 r.2.2.2 (show x < b.i.toNat by rw [← hi]; exact hx)
    refine ⟨fun p hp=>?_,?_,fun p hp=>?_,fun k hk2=>?_,?_⟩
    · rcases List.mem_append.1 hp with e|e
      · exact h.rg p e
      · rw [List.mem_singleton.1 e]; exact ⟨n1.1,n1.2.1,n2.1,n2.2.1⟩
    · rw [List.pairwise_append]
      refine ⟨h.nd,List.pairwise_singleton _ _,fun p hp r hr e=>?_⟩
      rw [List.mem_singleton.1 hr] at e
      obtain ⟨j,hj,rfl⟩:=mem_nth hp
      exact hn (knK_iff.2 ⟨j,hj,e⟩)
    · rcases List.mem_append.1 hp with e|e
      · exact h.st p e
      · rw [List.mem_singleton.1 e]
        have e1:otS a q.s x=otS b q.t x:=by simpa [bqD] using hd
        refine ⟨by rw [goal_append,s.1]; rfl,by rw [goal_append,s.2.1]; rfl,?_,s.2.2.2.snoc (by omega) (by omega)⟩
        rw [outs_append,outs_append,s.1,s.2.1,s.2.2.1]
        show _++[cell a.ot q.s (x:Int)]=_++[cell b.ot q.t (x:Int)]
        rw [cell_ot,cell_ot,e1]
    · rw [List.length_append,List.length_singleton] at hk2
      by_cases e:k < L.length
      · rw [nth_app_l e]; exact h.ln k e
      · have z:nth (L++[(⟨nxS a q.s x,nxS b q.t x,q.w++[(x:Int)]⟩:Pr)]) (L.length+(k - L.length))=_:=nth_app_r
        rw [show L.length+(k - L.length)=k by omega,show k - L.length=0 by omega,nth_zero] at z
        rw [z]
        have:=h.ln i hk
        rw [← hq] at this
        show (q.w++[(x:Int)]).length≤k
        rw [List.length_append,List.length_singleton]; omega
    · refine ⟨by rw [List.length_append]; have:=h.hd.1; omega,?_⟩
      rw [nth_app_l h.hd.1]; exact h.hd.2
theorem BI.row (ha:mval a=0) (hb:mval b=0) (hi:a.i=b.i) {L:List Pr} (h:BI a b s0 t0 L) {i:Nat} (hk:i < L.length): ∀ {x:Nat},x≤a.i.toNat→(∀ j,j < x→bqD a b (nth L i) j=false)→BI a b s0 t0 (bqR a b (nth L i) L x)
  |0,_,_=>h
  |x+1,hx,hd=>by
    have ih:=BI.row ha hb hi h hk (x:=x) (by omega) fun j hj=>hd j (by omega)
    exact ih.step ha hb hi (i:=i) (Nat.lt_of_lt_of_le hk bqR_len) (by omega) (bqR_nth hk).symm (hd x (by omega))
theorem pair_code {n s s' t t':Int} (h1:0≤t) (h2:t < n) (h3:0≤t') (h4:t' < n) (e:s*n+t=s'*n+t'):s=s'∧t=t':=by
  have hd: ∀ {u v:Int},0≤v→v < n→(u*n+v) / n=u:=fun {u v} hv hv'=>by
    rw [Int.add_comm,Int.add_mul_ediv_right _ _ (by omega),Int.ediv_eq_zero_of_lt hv hv']; omega
  have:=hd (u:=s) h1 h2
  rw [e,hd h3 h4] at this
  subst this
  exact ⟨rfl,by omega⟩
theorem BI.len {L:List Pr} (h:BI a b s0 t0 L):L.length≤a.nx.length*b.nx.length:=by
  have key:(L.map fun p=>p.s*(b.nx.length:Int)+p.t).length≤((List.range (a.nx.length*b.nx.length)).map fun (n:Nat)=>(n:Int)).length:=by
    refine nd_le ?_ fun z hz=>?_
    · rw [List.nodup_iff_pairwise_ne,List.pairwise_map]
      refine List.Pairwise.imp_of_mem ?_ h.nd
      intro p q hp hq hn e
      have r1:=h.rg p hp; have r2:=h.rg q hq
      exact hn (pair_code r1.2.2.1 r1.2.2.2 r2.2.2.1 r2.2.2.2 e)
    · obtain ⟨p,hp,rfl⟩:=List.mem_map.1 hz
      have r:=h.rg p hp
      have u1:p.s*(b.nx.length:Int)≤((a.nx.length:Int) - 1)*(b.nx.length:Int):=Int.mul_le_mul_of_nonneg_right (by omega) (by omega)
      have u2:0≤p.s*(b.nx.length:Int):=Int.mul_nonneg r.1 (by omega)
      rw [Int.sub_mul] at u1
      have u3:((a.nx.length*b.nx.length:Nat):Int)=(a.nx.length:Int)*(b.nx.length:Int):=Int.natCast_mul _ _
      exact List.mem_map.2 ⟨(p.s*(b.nx.length:Int)+p.t).toNat,List.mem_range.2 (by omega),by omega⟩
  simpa using key
def Cl (a b:M) (L:List Pr) (i:Nat):Prop:= ∀ j,j < i→ ∀ x,x < a.i.toNat→bqD a b (nth L j) x=false∧knK L (nxS a (nth L j).s x) (nxS b (nth L j).t x) L.length=true
theorem knK_mono {L y:List Pr} {u v:Int} (h:knK L u v L.length=true):knK (L++y) u v (L++y).length=true:=by
  obtain ⟨j,h1,h2⟩:=knK_iff.1 h
  exact knK_iff.2 ⟨j,by rw [List.length_append]; omega,by rw [nth_app_l h1]; exact h2⟩
theorem row_has {p:Pr} {L:List Pr}: ∀ {x j:Nat},j < x→knK (bqR a b p L x) (nxS a p.s j) (nxS b p.t j) (bqR a b p L x).length=true
  |x+1,j,h=>by
    obtain ⟨y,hy⟩:=bqS_pre a b p (bqR a b p L x) x
    rw [bqR]
    by_cases e:j=x
    · subst e
      unfold bqS
      split
      · rename_i q; exact q
      · refine knK_iff.2 ⟨(bqR a b p L j).length,by simp,?_⟩
        have z:nth (bqR a b p L j++[(⟨nxS a p.s j,nxS b p.t j,p.w++[(j:Int)]⟩:Pr)]) ((bqR a b p L j).length+0)=_:=nth_app_r
        rw [Nat.add_zero,nth_zero] at z
        rw [z]; exact ⟨rfl,rfl⟩
    · rw [hy]; exact knK_mono (row_has (x:=x) (j:=j) (by omega))
theorem Cl.next {L:List Pr} {i:Nat} (h:Cl a b L i) (hi:i < L.length) (hd: ∀ x,x < a.i.toNat→bqD a b (nth L i) x=false):Cl a b (bqR a b (nth L i) L a.i.toNat) (i+1):=by
  intro j hj x hx
  by_cases e:j=i
  · subst e
    rw [bqR_nth hi]
    exact ⟨hd x hx,row_has hx⟩
  · rw [bqR_nth (by omega)]
    obtain ⟨y,hy⟩:=bqR_pre a b (nth L i) L a.i.toNat
    have q:=h j (by omega) x hx
    exact ⟨q.1,by rw [hy]; exact knK_mono q.2⟩
theorem closed_eq (hi:a.i=b.i) {L:List Pr} (h:Cl a b L L.length): ∀ (w:List Int) (k:Nat),k < L.length→InW a.i w→outs a (nth L k).s w=outs b (nth L k).t w
  |[],_,_,_=>rfl
  |c::w,k,hk,hw=>by
    obtain ⟨c0,c1,hw'⟩:=inW_cons hw
    have q:=h k hk c.toNat (by omega)
    obtain ⟨j,hj,e1,e2⟩:=knK_iff.1 q.2
    have e3:otS a (nth L k).s c.toNat=otS b (nth L k).t c.toNat:=by simpa [bqD] using q.1
    have ih:=closed_eq hi h w j hj hw'
    simp only [outs]
    have f1:cell a.nx (nth L k).s c=(nth L j).s:=e1.symm
    have f2:cell b.nx (nth L k).t c=(nth L j).t:=e2.symm
    have f3:cell a.ot (nth L k).s c=cell b.ot (nth L k).t c:=e3
    rw [f1,f2,f3,ih]
def Tells (a b:M) (s0 t0:Int):Option (List Int)→Prop
  |some w=>outs a s0 w≠outs b t0 w∧InW a.i w∧w.length≤a.nx.length*b.nx.length∧0 < w.length
  |none=> ∀ w,InW a.i w→outs a s0 w=outs b t0 w
theorem bq_tells (ha:mval a=0) (hb:mval b=0) (hi:a.i=b.i): ∀ (n i:Nat) (L:List Pr),BI a b s0 t0 L→Cl a b L i→i≤L.length→a.nx.length*b.nx.length < n+i→Tells a b s0 t0 (bq a b n i L)
  |0,i,L,h,_,hl,hn=>by have:=h.len; omega
  |n+1,i,L,h,hc,hl,hn=>by
    unfold bq
    by_cases e:i < L.length
    · rw [if_pos e]
      by_cases d:0≤fi (bqD a b (nth L i)) 0 a.i.toNat
      · rw [if_pos d]
        have s:=h.st _ (nth_mem e)
        have hv:=fi_val d
        have hx:(fi (bqD a b (nth L i)) 0 a.i.toNat).toNat < a.i.toNat:=by have:=hv.2.1; omega
        have hD:otS a (nth L i).s (fi (bqD a b (nth L i)) 0 a.i.toNat).toNat≠otS b (nth L i).t (fi (bqD a b (nth L i)) 0 a.i.toNat).toNat:=by simpa [bqD] using hv.2.2.1
        refine ⟨fun q=>hD ?_,s.2.2.2.snoc d (by omega),?_,by simp⟩
        · rw [outs_append,outs_append,s.1,s.2.1,s.2.2.1] at q
          have:=List.append_cancel_left q
          have z:=List.head_eq_of_cons_eq this
          exact z
        · have:=h.ln i e; have:=h.len
          rw [List.length_append,List.length_singleton]; omega
      · rw [if_neg d]
        have hd: ∀ x,x < a.i.toNat→bqD a b (nth L i) x=false:=fun x hx=>by
          by_cases z:bqD a b (nth L i) x=true
          · exact (d (fi_iff.2 ⟨x,Nat.zero_le _,by omega,z⟩)).elim
          · simpa using z
        exact bq_tells ha hb hi n (i+1) _ (h.row ha hb hi e (Nat.le_refl _) hd) (hc.next e hd) (by have:=bqR_len (a:=a) (b:=b) (p:=nth L i) (L:=L) (x:=a.i.toNat); omega) (by omega)
    · rw [if_neg e]
      intro w hw
      have:=closed_eq hi (by rw [show L.length=i by omega]; exact hc) w 0 h.hd.1 hw
      rwa [h.hd.2.1,h.hd.2.2] at this
theorem dst_tells (ha:mval a=0) (hb:mval b=0) (hi:a.i=b.i) (h1:0≤s0) (h2:s0 < a.nx.length) (h3:0≤t0) (h4:t0 < b.nx.length):Tells a b s0 t0 (dst a b s0 t0):=
  bq_tells ha hb hi _ 0 _ (BI.start h1 h2 h3 h4) (fun j hj=>by omega) (Nat.zero_le _) (by omega)
end
theorem no_diff {a b:M} {p:Pr} {n:Nat} (h: ∀ j,j < n→bqD a b p j=false): ¬0≤fi (bqD a b p) 0 n:=by
  intro e
  obtain ⟨j,_,hj,q⟩:=fi_iff.1 e
  rw [h j (by omega)] at q; cases q
theorem bq_go {a b:M} {N i:Nat} {L:List Pr} (hn:i < N) (hi:i < L.length) (h: ∀ j,j < a.i.toNat→bqD a b (nth L i) j=false):bq a b (N - i) i L=bq a b (N - (i+1)) (i+1) (bqR a b (nth L i) L a.i.toNat):=by
  obtain ⟨n,e⟩: ∃ n,N - i=n+1:=⟨N - i - 1,by omega⟩
  rw [e,show N - (i+1)=n by omega,bq,if_pos hi,if_neg (no_diff h)]
theorem bq_end {a b:M} {n i:Nat} {L:List Pr} (hi:L.length≤i):bq a b n i L=none:=by
  cases n with
  |zero=>rfl
  |succ n=>rw [bq,if_neg (by omega)]
theorem bq_hit {a b:M} {N i x:Nat} {L:List Pr} (hi:i < L.length) (hn:i < N) (hx:x < a.i.toNat) (hd:bqD a b (nth L i) x=true) (h: ∀ j,j < x→bqD a b (nth L i) j=false):bq a b (N - i) i L=some ((nth L i).w++[(x:Int)]):=by
  obtain ⟨n,e⟩: ∃ n,N - i=n+1:=⟨N - i - 1,by omega⟩
  have key: ∀ k,k≤x→fi (bqD a b (nth L i)) 0 a.i.toNat=fi (bqD a b (nth L i)) k (a.i.toNat - k):=by
    intro k
    induction k with
    |zero=>intro _; rfl
    |succ k ih=>intro hk; rw [ih (by omega),fi_skip (h k (by omega)) (by omega)]
  have hf:fi (bqD a b (nth L i)) 0 a.i.toNat=(x:Int):=by rw [key x (Nat.le_refl _),fi_hit hd hx]
  rw [e,bq,if_pos hi,hf,if_pos (by omega)]
end Go.Proofs.YtmnjchcoigbngabGreat
namespace Go.Proofs.YtmnjchcoigbngabGreat
open Go
def expE (m:M) (o:Ob) (k:Nat):Int:=if outs m m.s (nth o.tr k).ni=(nth o.tr k).no then 0 else 1
def expB (m:M) (o:Ob):Bool:=decide (fe (expE m o) 0 o.tr.length=0)
def agB (o:Ob) (m:M):Bool:=decide (o.i=m.i)&&expB m o
theorem exp_ok {m:M} {o:Ob} (h:expB m o=true): ∀ t∈o.tr,t.no=outs m m.s t.ni:=by
  intro t ht
  obtain ⟨k,hk,rfl⟩:=mem_nth ht
  have:=fe_zero_iff.1 (of_decide_eq_true h) k (Nat.zero_le _) (by omega)
  unfold expE at this
  split at this
  · rename_i q; exact q.symm
  · cases this
theorem ans_outs {m:M} {o:Ob} (h:expB m o=true) {w x:List Int} (ha:ans o w=some x):x=outs m m.s w:=by
  unfold ans at ha
  split at ha
  · rename_i e; subst e; cases ha; rfl
  · obtain ⟨t,ht,h1,h2⟩:=ansL_some ha
    rw [h2,exp_ok h t ht]
    obtain ⟨y,hy⟩:=hp_iff.1 h1
    rw [hy,← outs_take,List.take_left]
theorem bho_outs {m:M} {o:Ob} (h:expB m o=true) {w x:List Int} (ha:(ans o (cat [w,x])).isSome=true):bho o w x=outs m (goal m m.s w) x:=by
  obtain ⟨y,hy⟩:=Option.isSome_iff_exists.1 ha
  have:=ans_outs h hy
  unfold bho
  rw [hy,Option.getD_some,this]
  simp only [cat,List.append_nil]
  rw [outs_append]
  exact List.drop_left' (outs_len _ _ _)
inductive Bel (t:Dt):Int→List Int→Prop where
  |leaf {n:Int} (h:(nth t.nd n.toNat).lf=true):Bel t n (nth t.nd n.toNat).ac
  |kid {n a:Int} {w:List Int} (h:(nth t.nd n.toNat).lf=false) (ha:a∈(nth t.nd n.toNat).kd) (hb:Bel t a w):Bel t n w
inductive Rea (t:Dt):Int→Int→Prop where
  |refl (n:Int):Rea t n n
  |kid {n a b:Int} (h:(nth t.nd n.toNat).lf=false) (ha:a∈(nth t.nd n.toNat).kd) (hb:Rea t a b):Rea t n b
def blw (t:Dt):Nat→Int→List (List Int)
  |0,_=>[]
  |f+1,n=>if (nth t.nd n.toNat).lf=true then [(nth t.nd n.toNat).ac] else (nth t.nd n.toNat).kd.flatMap (blw t f)
theorem blw_iff {t:Dt} (hv:dvE t=0): ∀ {f:Nat} {n:Int} {w:List Int},0≤n→Rk t f n.toNat→(w∈blw t f n↔Bel t n w)
  |0,n,w,_,hr=>absurd hr.pos (by omega)
  |f+1,n,w,h0,hr=>by
    unfold blw
    split
    · rename_i hl
      rw [List.mem_singleton]
      constructor
      · rintro rfl; exact .leaf hl
      · intro h; cases h with
        |leaf _=>rfl
        |kid h=>rw [hl] at h; cases h
    · rename_i hl
      have hl:(nth t.nd n.toNat).lf=false:=by simpa using hl
      rw [List.mem_flatMap]
      have hlt:=hr.lt hv
      have hin:=nd_in hv hlt hl
      constructor
      · rintro ⟨a,ha,hw⟩
        have h1:=hin.kr a ha
        exact .kid hl ha ((blw_iff hv h1.1 (hr.step ha h1.1)).1 hw)
      · intro h
        cases h with
        |leaf h=>rw [hl] at h; cases h
        |kid _ ha hb=>
          have h1:=hin.kr _ ha
          exact ⟨_,ha,(blw_iff hv h1.1 (hr.step ha h1.1)).2 hb⟩
def sdJ (m:M) (sf ou:List Int) (l:List (List Int)) (k:Nat):Bool:=decide (outs m (goal m m.s (nth l k)) sf≠ou)
def sdK (t:Dt) (m:M) (f:Nat) (n:Int) (g:Int→Bool) (i:Nat):Bool:=
  decide (0≤fi (sdJ m (nth t.nd n.toNat).sf (nth (nth t.nd n.toNat).ou i) (blw t f (nth (nth t.nd n.toNat).kd i))) 0 (blw t f (nth (nth t.nd n.toNat).kd i)).length)|| !g (nth (nth t.nd n.toNat).kd i)
def sdB (t:Dt) (m:M):Nat→Int→Bool
  |0,_=>true
  |f+1,n=>decide (fi (sdK t m f n (sdB t m f)) 0 (nth t.nd n.toNat).kd.length < 0)
def Snd (t:Dt) (m:M) (n:Int):Prop:= ∀ b,Rea t n b→(nth t.nd b.toNat).lf=false→ ∀ i,i < (nth t.nd b.toNat).kd.length→ ∀ w,Bel t (nth (nth t.nd b.toNat).kd i) w→outs m (goal m m.s w) (nth t.nd b.toNat).sf=nth (nth t.nd b.toNat).ou i
theorem sd_ok {t:Dt} {m:M} (hv:dvE t=0): ∀ {f:Nat} {n:Int},0≤n→Rk t f n.toNat→sdB t m f n=true→Snd t m n
  |0,n,_,hr,_=>absurd hr.pos (by omega)
  |f+1,n,h0,hr,h=>by
    unfold sdB at h
    have h: ¬0≤fi (sdK t m f n (sdB t m f)) 0 (nth t.nd n.toNat).kd.length:=by have:=of_decide_eq_true h; omega
    rw [fi_iff] at h
    have hlt:=hr.lt hv
    intro b hb hl i hi w hw
    have key:(nth t.nd n.toNat).lf=false→ ∀ j,j < (nth t.nd n.toNat).kd.length→(∀ w,Bel t (nth (nth t.nd n.toNat).kd j) w→outs m (goal m m.s w) (nth t.nd n.toNat).sf=nth (nth t.nd n.toNat).ou j)∧sdB t m f (nth (nth t.nd n.toNat).kd j)=true∧0≤nth (nth t.nd n.toNat).kd j∧Rk t f (nth (nth t.nd n.toNat).kd j).toNat:=by
      intro hl j hj
      have hin:=nd_in hv hlt hl
      have hm:nth (nth t.nd n.toNat).kd j∈(nth t.nd n.toNat).kd:=nth_mem hj
      have h1:=hin.kr _ hm
      have hr':Rk t f (nth (nth t.nd n.toNat).kd j).toNat:=hr.step hm h1.1
      have q:sdK t m f n (sdB t m f) j=false:=by
        by_cases z:sdK t m f n (sdB t m f) j=true
        · exact (h ⟨j,Nat.zero_le _,by omega,z⟩).elim
        · simpa using z
      unfold sdK at q
      rw [Bool.or_eq_false_iff,decide_eq_false_iff_not,fi_iff,Bool.not_eq_false'] at q
      refine ⟨fun w hw=>?_,q.2,h1.1,hr'⟩
      have hw2:=(blw_iff hv h1.1 hr').2 hw
      obtain ⟨k,hk,e⟩:=mem_nth hw2
      by_cases z:outs m (goal m m.s w) (nth t.nd n.toNat).sf=nth (nth t.nd n.toNat).ou j
      · exact z
      · exact (q.1 ⟨k,Nat.zero_le _,by rw [Nat.zero_add]; exact hk,decide_eq_true (by rw [e]; exact z)⟩).elim
    cases hb with
    |refl=>exact (key hl i hi).1 w hw
    |kid hln ha hb=>
      obtain ⟨j,hj,rfl⟩:=mem_nth ha
      obtain ⟨_,k2,k3,k4⟩:=key hln j hj
      exact sd_ok hv k3 k4 k2 b hb hl i hi w hw
theorem Snd.kid {t:Dt} {m:M} {n a:Int} (h:Snd t m n) (hl:(nth t.nd n.toNat).lf=false) (ha:a∈(nth t.nd n.toNat).kd):Snd t m a:=fun b hb=>h b (.kid hl ha hb)
theorem bel_root {t:Dt} (hv:dvE t=0) {k:Nat} (hk:k < t.nd.length) (hl:(nth t.nd k).lf=true):Bel t 0 (nth t.nd k).ac:=by
  obtain ⟨P,hP⟩:=dv_line hv
  have hki:=dv_ki hv
  have up: ∀ (s:Nat),s < P.length→ ∀ w,Bel t (nth P s) w→Bel t 0 w:=by
    intro s
    induction s using Nat.strongRecOn with
    |_ s ih=>
      intro hs w hw
      by_cases e:s=0
      · subst e; rwa [hP.head.1] at hw
      · obtain ⟨j,hj,ha⟩:=hP.1.par (s:=s) (by omega) hs
        have r:=hP.1.rng hki _ (nth_mem (show j < P.length by omega))
        have hjl:(nth t.nd (nth P j).toNat).lf=false:=by
          by_cases z:(nth t.nd (nth P j).toNat).lf=true
          · have:=(nd_lf hv (show (nth P j).toNat < t.nd.length by omega) z).kd
            rw [this] at ha; cases ha
          · simpa using z
        exact ih j hj (by omega) w (.kid hjl ha hw)
  obtain ⟨s,hs,e⟩:=hP.all hki (a:=(k:Int)) (by omega) (by omega)
  have:Bel t (nth P s) (nth t.nd k).ac:=by
    rw [e]
    have z:=Bel.leaf (t:=t) (n:=(k:Int)) (by simpa using hl)
    simpa using z
  exact up s hs _ this
def Apt (m:M) (u v:List Int):Prop:= ∃ z,InW m.i z∧outs m (goal m m.s u) z≠outs m (goal m m.s v) z
theorem Apt.symm {m:M} {u v:List Int} (h:Apt m u v):Apt m v u:=by obtain ⟨z,h1,h2⟩:=h; exact ⟨z,h1,h2.symm⟩
theorem wchk_inW {w:List Int} {n:Int} (h:wchk w n=0):InW n w:=(wchk_ok h).2
theorem lx_pos {l:List (List Int)} (hs:SrtL l) {i j:Nat} (hi:i < l.length) (hj:j < l.length) (e:nth l i=nth l j):i=j:=by
  rcases Nat.lt_trichotomy i j with q|q|q
  · have:=srtL_lt hs q hj; rw [e,lexI_zero.2 rfl] at this; omega
  · exact q
  · have:=srtL_lt hs q hi; rw [e,lexI_zero.2 rfl] at this; omega
theorem sft_apart {t:Dt} {o:Ob} {m:M} {w:List Int} (hv:dvE t=0) (hx:expB m o=true) (hsw: ∀ k,k < t.nd.length→InW m.i (nth t.nd k).sf) {a:Int}: ∀ {f n:Nat},Rk t f n→Snd t m (n:Int)→sftN t o w f n=(a,[],0)→
    ∀ p,Bel t (n:Int) p→Bel t a p∨Apt m w p
  |0,n,hr,_,_=>absurd hr.pos (by omega)
  |f+1,n,hr,hS,he=>by
    intro p hp
    have hlt:=hr.lt hv
    by_cases hl:(nth t.nd n).lf=true
    · rw [sft_leaf hr.pos hl] at he
      injection he with h1 h2
      rw [← h1]; exact .inl hp
    have hl:(nth t.nd n).lf=false:=by simpa using hl
    have hin:=nd_in hv hlt hl
    by_cases h1:wchk (cat [w,(nth t.nd n).sf]) o.i≠0
    · rw [sft_err hr.pos hl h1] at he
      injection he with _ h2; injection h2 with _ h3; exact (h1 h3).elim
    by_cases h2:(ans o (cat [w,(nth t.nd n).sf])).isSome=true
    · by_cases h3:lxH (nth t.nd n).ou (((ans o (cat [w,(nth t.nd n).sf])).getD []).drop w.length)
      · rw [sft_go hr.pos hl h1 h2 h3] at he
        have hb:((ans o (cat [w,(nth t.nd n).sf])).getD []).drop w.length=outs m (goal m m.s w) (nth t.nd n).sf:=bho_outs hx h2
        have hki:lxN (nth t.nd n).ou (((ans o (cat [w,(nth t.nd n).sf])).getD []).drop w.length) < (nth t.nd n).kd.length:=by have:=h3.1; have:=hin.len; omega
        have hm:nth (nth t.nd n).kd (lxN (nth t.nd n).ou (((ans o (cat [w,(nth t.nd n).sf])).getD []).drop w.length))∈(nth t.nd n).kd:=nth_mem hki
        have h0:=(hin.kr _ hm).1
        cases hp with
        |leaf h=>simp only [Int.toNat_natCast] at h; rw [hl] at h; cases h
        |kid _ ha hb2=>
          simp only [Int.toNat_natCast] at ha
          obtain ⟨j,hj,rfl⟩:=mem_nth ha
          by_cases ej:j=lxN (nth t.nd n).ou (((ans o (cat [w,(nth t.nd n).sf])).getD []).drop w.length)
          · rw [ej] at hb2
            have hS':=hS.kid (by simpa using hl) (by simpa using hm)
            refine sft_apart hv hx hsw (hr.step hm h0) ?_ he p ?_
            · rw [Int.toNat_of_nonneg h0]; exact hS'
            · rw [Int.toNat_of_nonneg h0]; exact hb2
          · refine .inr ⟨(nth t.nd n).sf,hsw n hlt,?_⟩
            have e1:=hS (n:Int) (.refl _) (by simpa using hl) j (by simpa using hj) p (by simpa using hb2)
            simp only [Int.toNat_natCast] at e1
            rw [e1,← hb]
            intro e2
            have e3:=lxH_nth h3
            exact ej (lx_pos hin.srt (by have:=hin.len; omega) h3.1 (by rw [e3]; exact e2.symm))
      · rw [sft_no hr.pos hl h1 h2 h3] at he
        injection he with h4 _
        rw [← h4]; exact .inl hp
    · rw [sft_ask hr.pos hl h1 (by simpa using h2)] at he
      injection he with _ h4; injection h4 with h5 _
      have:=hin.s0
      have z:(cat [w,(nth t.nd n).sf]).length=0:=by rw [h5]; rfl
      simp [cat] at z
      rw [z.2] at this; simp at this
def apK (m:M) (l:List (List Int)) (i k:Nat):Bool:=(dst m m (goal m m.s (nth l i)) (goal m m.s (nth l k))).isSome
def apI (m:M) (l:List (List Int)) (i:Nat):Bool:=decide (0≤fi (fun k=> !(apK m l i k)) 0 i)
def aptB (m:M) (l:List (List Int)):Bool:=decide (fi (apI m l) 0 l.length < 0)
def wiK (l:List (List Int)) (n:Int) (k:Nat):Bool:=decide (wchk (nth l k) n≠0)
def wiB (l:List (List Int)) (n:Int):Bool:=decide (fi (wiK l n) 0 l.length < 0)
theorem wi_iff {l:List (List Int)} {n:Int}:wiB l n=true↔ ∀ w∈l,wchk w n=0:=by
  unfold wiB
  rw [decide_eq_true_eq]
  constructor
  · intro h w hw
    obtain ⟨k,hk,rfl⟩:=mem_nth hw
    by_cases z:wchk (nth l k) n=0
    · exact z
    · have:=(fi_iff (p:=wiK l n) (k:=0) (n:=l.length)).2 ⟨k,Nat.zero_le _,by omega,decide_eq_true z⟩
      omega
  · intro h
    by_cases z:0≤fi (wiK l n) 0 l.length
    · obtain ⟨k,_,hk,e⟩:=fi_iff.1 z
      exact (of_decide_eq_true e (h _ (nth_mem (by omega)))).elim
    · omega
theorem dst_iff {m:M} (hm:mval m=0) {u v:List Int} (hu:InW m.i u) (hw:InW m.i v):(dst m m (goal m m.s u) (goal m m.s v)).isSome=true↔Apt m u v:=by
  have q:=mval_ok hm
  have gu:=goal_in hm u m.s q.2.2.2.2.1 q.2.2.2.2.2.1 hu
  have gv:=goal_in hm v m.s q.2.2.2.2.1 q.2.2.2.2.2.1 hw
  have h:=dst_tells hm hm rfl gu.1 gu.2 gv.1 gv.2
  cases e:dst m m (goal m m.s u) (goal m m.s v) with
  |none=>
    rw [e] at h
    simp only [Option.isSome_none,Bool.false_eq_true,false_iff]
    rintro ⟨z,h1,h2⟩
    exact h2 (h z h1)
  |some z=>
    rw [e] at h
    simp only [Option.isSome_some,true_iff]
    exact ⟨z,h.2.1,h.1⟩
def AptL (m:M) (l:List (List Int)):Prop:= ∀ u∈l,∀ v∈l,u≠v→Apt m u v
theorem apt_iff {m:M} (hm:mval m=0) {l:List (List Int)} (hs:SrtW l) (hw: ∀ w∈l,InW m.i w):aptB m l=true↔AptL m l:=by
  unfold aptB
  rw [decide_eq_true_eq]
  constructor
  · intro h
    have key: ∀ i k,i < l.length→k < i→Apt m (nth l i) (nth l k):=by
      intro i k hi hk
      by_cases z:(dst m m (goal m m.s (nth l i)) (goal m m.s (nth l k))).isSome=true
      · exact (dst_iff hm (hw _ (nth_mem hi)) (hw _ (nth_mem (by omega)))).1 z
      · exfalso
        have h1:0≤fi (fun k=> !(apK m l i k)) 0 i:=fi_iff.2 ⟨k,Nat.zero_le _,by omega,by simp only [apK]; simpa using z⟩
        have:=(fi_iff (p:=apI m l) (k:=0) (n:=l.length)).2 ⟨i,Nat.zero_le _,by omega,decide_eq_true h1⟩
        omega
    intro u hu v hv hne
    obtain ⟨i,hi,rfl⟩:=mem_nth hu
    obtain ⟨k,hk,rfl⟩:=mem_nth hv
    rcases Nat.lt_trichotomy i k with q|q|q
    · exact (key k i hk q).symm
    · subst q; exact (hne rfl).elim
    · exact key i k hi q
  · intro h
    by_cases z:0≤fi (apI m l) 0 l.length
    · exfalso
      obtain ⟨i,_,hi,e⟩:=fi_iff.1 z
      obtain ⟨k,_,hk,e2⟩:=fi_iff.1 (of_decide_eq_true e)
      have hi':i < l.length:=by omega
      have hk':k < i:=by omega
      have hne:nth l i≠nth l k:=by
        intro q
        have:=(List.pairwise_iff_getElem.1 hs) k i (by omega) hi' hk'
        rw [nth_getElem,nth_getElem,q,slx_zero.2 rfl] at this
        omega
      have:=(dst_iff hm (hw _ (nth_mem hi')) (hw _ (nth_mem (show k < l.length by omega)))).2 (h _ (nth_mem hi') _ (nth_mem (by omega)) hne)
      simp [apK,this] at e2
    · omega
theorem aptL_add {m:M} {l k:List (List Int)} {w:List Int} (h:AptL m l) (hk: ∀ u∈k,u∈l∨u=w) (hw: ∀ u∈l,Apt m w u):AptL m k:=by
  intro u hu v hv hne
  rcases hk u hu with e|e <;> rcases hk v hv with f|f
  · exact h u e v f hne
  · rw [f]; exact (hw u e).symm
  · rw [e]; exact hw v f
  · exact (hne (e.trans f.symm)).elim
structure Cas (l:Ts) (o:Ob) (m:M):Prop where
  ho:oval o=0
  hm:mval m=0
  hx:expB m o=true
  hl:tvE l=0
  hi:l.i=m.i
  oi:o.i=m.i
  sd:Snd l.t m 0
  ap:AptL m (lvs l.t)
section
variable {l:Ts} {o:Ob} {m:M}
theorem Cas.inw (h:Cas l o m): ∀ w∈lvs l.t,wchk w m.i=0:=fun w hw=>by rw [← h.hi]; exact (lvs_word h.hl hw).2
theorem Cas.sft (h:Cas l o m) {w:List Int} {a:Int} (hs:sftR l.t o w=(a,[],0)) {p:List Int} (hp:p∈lvs l.t):Bel l.t a p∨Apt m w p:=by
  obtain ⟨_,_,hv,hq,_,_⟩:=tv_ok h.hl
  rw [lvs_eq hv] at hp
  obtain ⟨k,hk,hlf,rfl⟩:=acL_mem ((mem_sdW _ _).1 hp)
  unfold sftR at hs
  rw [if_neg (by omega)] at hs
  split at hs
  · rename_i q; injection hs with _ h2; injection h2 with _ h3; exact (q h3).elim
  · exact sft_apart hv h.hx (fun k hk=>wchk_inW (by rw [← h.hi]; exact (hq k hk).2)) (rk0 hv) h.sd hs _ (bel_root hv hk hlf)
theorem sft_triple {t:Dt} {w:List Int} (h1:(sftR t o w).2.2=0) (h2:(sftR t o w).2.1=[]):sftR t o w=((sftR t o w).1,[],0):=by
  rw [← h1,← h2]
theorem Cas.step (h:Cas l o m) (he:(tst l o).2.2.2=0):(∀ w∈lvs (tst l o).1.t,wchk w m.i=0)∧AptL m (lvs (tst l o).1.t):=by
  rcases tst_cases l o with ⟨h1,_⟩|⟨_,_,_,g1,g2,g3,k,hk,_,gi,g4,g5⟩
  · rw [h1]; exact ⟨h.inw,h.ap⟩
  · obtain ⟨_,_,hv,hq,_,_⟩:=tv_ok h.hl
    obtain ⟨d1,d2,_⟩:=grow_ok g4
    obtain ⟨_,n1,v1,x1,f1,_⟩:=gr_ok g4
    have hnd:=st_node (l:=l) (o:=o) (by omega) (by omega) (by omega) hk
    have hlf:(nth l.t.nd (sftR l.t o (nth (exs l) k)).1.toNat).lf=false:=(no_ok n1).2.2
    have hw:=exs_word h.hl (nth_mem hk)
    have hmem: ∀ u∈lvs (tst l o).1.t,u∈lvs l.t∨u=nth (exs l) k:=by
      intro u hu
      rw [g5] at hu
      dsimp only at hu
      rw [lvs_eq d1,d2,mem_sdW,List.mem_append,List.mem_singleton] at hu
      rw [lvs_eq hv]; exact hu
    have hwc:wchk (nth (exs l) k) m.i=0:=by
      have q:=wchk_ok (fs_ok f1).1
      have r:=mval_ok h.hm
      exact wchk_zero ⟨r.1,by omega⟩ q.1 fun j hj=>by rw [← h.hi]; exact hw.2.2 j hj
    have hq2:(sftR l.t o (nth (exs l) k)).2.1=[]:=by
      have z:=mx_empty (l:=qra l o) g3
      by_cases e:(sftR l.t o (nth (exs l) k)).2.1=[]
      · exact e
      · exfalso
        have:(sftR l.t o (nth (exs l) k)).2.1∈qra l o:=List.mem_flatMap.2 ⟨_,nth_mem hk,by unfold qr1; rw [if_pos (List.length_pos_iff.2 e)]; simp⟩
        rw [z] at this; cases this
    refine ⟨fun u hu=>?_,aptL_add h.ap hmem fun u hu=>?_⟩
    · rcases hmem u hu with e|e
      · exact h.inw u e
      · rw [e]; exact hwc
    · rcases h.sft (sft_triple hnd.1 hq2) hu with e|e
      · -- below the node where the word ends:another output
        have hin:=nd_in hv (show (sftR l.t o (nth (exs l) k)).1.toNat < l.t.nd.length by omega) hlf
        cases e with
        |leaf z=>rw [hlf] at z; cases z
        |kid _ ha hb=>
          obtain ⟨j,hj,rfl⟩:=mem_nth ha
          have hk2:=hnd.2.2.2 hlf
          refine ⟨(nth l.t.nd (sftR l.t o (nth (exs l) k)).1.toNat).sf,wchk_inW (by rw [← h.hi]; exact (hq _ (by omega)).2),?_⟩
          have hrea:Rea l.t 0 (sftR l.t o (nth (exs l) k)).1:=by
            have key: ∀ (s:Nat) (P:List Int),Plc l.t P→s < P.length→Rea l.t 0 (nth P s):=by
              intro s P hP
              induction s using Nat.strongRecOn with
              |_ s ih=>
                intro hs
                by_cases e0:s=0
                · subst e0; rw [hP.head.1]; exact .refl _
                · obtain ⟨i,hi,ha⟩:=hP.1.par (s:=s) (by omega) hs
                  have r:=hP.1.rng (dv_ki hv) _ (nth_mem (show i < P.length by omega))
                  have hil:(nth l.t.nd (nth P i).toNat).lf=false:=by
                    by_cases z:(nth l.t.nd (nth P i).toNat).lf=true
                    · have:=(nd_lf hv (show (nth P i).toNat < l.t.nd.length by omega) z).kd
                      rw [this] at ha; cases ha
                    · simpa using z
                  have tr: ∀ {a b c:Int},Rea l.t a b→(nth l.t.nd b.toNat).lf=false→c∈(nth l.t.nd b.toNat).kd→Rea l.t a c:=by
                    intro a b c h1
                    induction h1 with
                    |refl n=>intro h2 h3; exact .kid h2 h3 (.refl _)
                    |kid g1 g2 _ ih2=>intro h2 h3; exact .kid g1 g2 (ih2 h2 h3)
                  exact tr (ih i hi (by omega)) hil ha
            obtain ⟨P,hP⟩:=dv_line hv
            obtain ⟨s,hs,e⟩:=hP.all (dv_ki hv) hnd.2.1 hnd.2.2.1
            rw [← e]; exact key s P hP hs
          have e1:=h.sd _ hrea hlf j hj u hb
          rw [e1]
          intro e2
          have e3:bho o (nth (exs l) k) (nth l.t.nd (sftR l.t o (nth (exs l) k)).1.toNat).sf=_:=bho_outs h.hx hk2.1
          rw [e2] at e3
          have e4:=lxH_iff hin.srt (show j < (nth l.t.nd (sftR l.t o (nth (exs l) k)).1.toNat).ou.length by have:=hin.len; omega) e3.symm
          exact hk2.2 e4.2
      · exact e
theorem Cas.split (h:Cas l o m) {s:Spl} (he:(rfR l o s).2.2=0):(∀ w∈lvs (rfR l o s).1.t,wchk w m.i=0)∧AptL m (lvs (rfR l o s).1.t):=by
  rcases rfR_cases l o s with ⟨h1,_⟩|⟨_,_,g1,g2,g3,g4,g5,g6,g7,g8⟩
  · rw [h1]; exact ⟨h.inw,h.ap⟩
  · obtain ⟨_,_,hv,hq,_,_⟩:=tv_ok h.hl
    obtain ⟨d1,d2,_⟩:=split_ok g7
    obtain ⟨_,n1,_,_,v1,f1,_,hne,_⟩:=sp_ok g7
    obtain ⟨p1,p2,p3,_,p5⟩:=prS_ok (s:=s) (i:=l.i) (by omega)
    have hmem: ∀ u∈lvs (rfR l o s).1.t,u∈lvs l.t∨u=rfW s:=by
      intro u hu
      rw [g8] at hu
      unfold rfT at hu
      dsimp only at hu
      rw [lvs_eq d1,d2,mem_sdW,List.mem_append,List.mem_singleton] at hu
      rw [lvs_eq hv]; exact hu
    have hwc:wchk (rfW s) m.i=0:=by
      have q:=wchk_ok (fs_ok f1).1
      have r:=mval_ok h.hm
      have e:rfW s=s.p++[s.a]:=by simp [rfW,cat]
      refine wchk_zero ⟨r.1,by omega⟩ q.1 ?_
      rw [e,← h.hi]
      exact InW.snoc (wchk_inW p1) p2 p3
    have q4:(sftR l.t o (rfW s)).2.1=[]:=List.length_eq_zero_iff.1 g4
    have m0:=List.length_eq_zero_iff.1 g6
    unfold rfB at m0
    rw [msW_two] at m0
    have k1:(ans o (cat [(rfN l o s).ac,s.x])).isSome=true:=by
      by_cases e:(ans o (cat [(rfN l o s).ac,s.x])).isSome=true
      · exact e
      · rw [if_neg e] at m0; simp at m0
    have k2:(ans o (cat [rfW s,s.x])).isSome=true:=by
      by_cases e:(ans o (cat [rfW s,s.x])).isSome=true
      · exact e
      · rw [if_neg e] at m0; simp at m0
    refine ⟨fun u hu=>?_,aptL_add h.ap hmem fun u hu=>?_⟩
    · rcases hmem u hu with e|e
      · exact h.inw u e
      · rw [e]; exact hwc
    · rcases h.sft (sft_triple g3 q4) hu with e|e
      · cases e with
        |leaf z=>
          refine ⟨s.x,wchk_inW (by rw [← h.hi]; exact p5),?_⟩
          have e1:=bho_outs h.hx k1
          have e2:=bho_outs h.hx k2
          intro e3
          rw [e1,e2] at hne
          exact hne e3.symm
        |kid z=>have:(rfN l o s).lf=false:=z; rw [g5] at this; cases this
      · exact e
end
end Go.Proofs.YtmnjchcoigbngabGreat
namespace Go.Proofs.YtmnjchcoigbngabGreat
open Go
inductive Rt (t:Dt) (n:Int):Int→Prop where
  |refl:Rt t n n
  |step {b c:Int} (h:Rt t n b) (hb:0≤b∧b < t.nd.length) (hc:c∈(nth t.nd b.toNat).kd):Rt t n c
theorem Rt.head {t:Dt} {n a b:Int} (hn:0≤n∧n < t.nd.length) (ha:a∈(nth t.nd n.toNat).kd) (h:Rt t a b):Rt t n b:=by
  induction h with
  |refl=>exact .step .refl hn ha
  |step _ hb hc ih=>exact .step ih hb hc
def lb (t:Dt):Nat→Int→List Int
  |0,_=>[]
  |f+1,n=>if (nth t.nd n.toNat).lf=true then [n] else (nth t.nd n.toNat).kd.flatMap (lb t f)
theorem blw_lb (t:Dt): ∀ (f:Nat) (n:Int),blw t f n=(lb t f n).map fun b=>(nth t.nd b.toNat).ac
  |0,_=>rfl
  |f+1,n=>by
    unfold blw lb
    split
    · rfl
    · rw [List.map_flatMap]
      congr 1
      funext a
      exact blw_lb t f a
section
variable {t:Dt} {P:List Int}
theorem ps_lt (hk:KI t) (hP:Plc t P) {n a:Int} (hn:0≤n∧n < t.nd.length) (ha:a∈(nth t.nd n.toNat).kd) {s r:Nat} (hs:s < P.length∧nth P s=n) (hr:r < P.length∧nth P r=a):s < r:=by
  obtain ⟨s',h1,h2,h3⟩:=hP.kid hs.1 (a:=a) (by rw [hs.2]; exact ha)
  have:=nd_inj hP.2.1 h2 hr.1 (h3.trans hr.2.symm)
  omega
theorem ps_le (hk:KI t) (hP:Plc t P) {n b:Int} (h:Rt t n b): ∀ {s r:Nat},s < P.length∧nth P s=n→r < P.length∧nth P r=b→s≤r:=by
  induction h with
  |refl=>
    intro s r hs hr
    have:=nd_inj hP.2.1 hs.1 hr.1 (hs.2.trans hr.2.symm)
    omega
  |step _ hb hc ih=>
    intro s r hs hr
    obtain ⟨q,hq,e⟩:=hP.all hk hb.1 hb.2
    have h1:=ih hs ⟨hq,e⟩
    have h2:=ps_lt hk hP hb hc ⟨hq,e⟩ hr
    omega
theorem no_cycle (hk:KI t) (hP:Plc t P) {n a:Int} (hn:0≤n∧n < t.nd.length) (ha:a∈(nth t.nd n.toNat).kd) (h:Rt t a n):False:=by
  have ra:=hk.rng _ (show n.toNat < t.nd.length by omega) a ha
  obtain ⟨s,hs,e⟩:=hP.all hk hn.1 hn.2
  obtain ⟨r,hr,e2⟩:=hP.all hk ra.1 ra.2
  have h1:=ps_lt hk hP hn ha ⟨hs,e⟩ ⟨hr,e2⟩
  have h2:=ps_le hk hP h ⟨hr,e2⟩ ⟨hs,e⟩
  omega
theorem kids_apart (hk:KI t) (hP:Plc t P) {n a a' b:Int} (hn:0≤n∧n < t.nd.length) (ha:a∈(nth t.nd n.toNat).kd) (ha':a'∈(nth t.nd n.toNat).kd) (h:Rt t a b) (h':Rt t a' b):a=a':=by
  induction h with
  |refl=>
    cases h' with
    |refl=>rfl
    |step h2 hb hc=>
      have:=hP.one hk hb.1 hb.2 hn.1 hn.2 hc ha
      subst this
      exact (no_cycle hk hP hn ha' h2).elim
  |step h1 hb hc ih=>
    cases h' with
    |refl=>
      have:=hP.one hk hb.1 hb.2 hn.1 hn.2 hc ha'
      subst this
      exact (no_cycle hk hP hn ha h1).elim
    |step h2 hb2 hc2=>
      have:=hP.one hk hb.1 hb.2 hb2.1 hb2.2 hc hc2
      subst this
      exact ih h2
theorem kd_nodup (hP:Plc t P) {s:Nat} (hs:s < P.length):(nth t.nd (nth P s).toNat).kd.Nodup:=by
  have key: ∀ {n:Nat} {Q:List Int},Ln t n Q→Q.Nodup→ ∀ {i:Nat},i < n→(nth t.nd (nth Q i).toNat).kd.Nodup:=by
    intro n Q hq
    induction hq with
    |zero=>intro _ i hi; omega
    |step h hi ih=>
      rename_i n Q
      intro hnd i hin
      have hle:=h.le
      have hn2:(Q++(nth t.nd (nth Q n).toNat).kd).Nodup:=hnd
      rw [List.nodup_append] at hn2
      have e1:nth (qS t Q n) i=nth Q i:=by unfold qS; exact nth_app_l (by omega)
      rw [e1]
      by_cases e:i=n
      · subst e; exact hn2.2.1
      · exact ih hn2.1 (by omega)
  exact key hP.1 hP.2.1 hs
theorem mem_lb (hv:dvE t=0): ∀ {f:Nat} {n b:Int},0≤n→n < t.nd.length→b∈lb t f n→Rt t n b∧0≤b∧b < t.nd.length
  |0,_,_,_,_,h=>by cases h
  |f+1,n,b,h0,h1,h=>by
    unfold lb at h
    split at h
    · rw [List.mem_singleton.1 h]; exact ⟨.refl,h0,h1⟩
    · obtain ⟨a,ha,hb⟩:=List.mem_flatMap.1 h
      have r:=(dv_ki hv).rng _ (show n.toNat < t.nd.length by omega) a ha
      have q:=mem_lb hv r.1 r.2 hb
      exact ⟨q.1.head ⟨h0,h1⟩ ha,q.2⟩
theorem lb_nodup (hv:dvE t=0): ∀ {f:Nat} {n:Int},0≤n→n < t.nd.length→(lb t f n).Nodup
  |0,_,_,_=>List.Pairwise.nil
  |f+1,n,h0,h1=>by
    have hk:=dv_ki hv
    obtain ⟨P,hP⟩:=dv_line hv
    unfold lb
    split
    · exact List.pairwise_singleton _ _
    · obtain ⟨s,hs,e⟩:=hP.all hk h0 h1
      have hnd:=kd_nodup hP hs
      rw [e] at hnd
      refine List.pairwise_flatMap.2 ⟨fun a ha=>?_,?_⟩
      · have r:=hk.rng _ (show n.toNat < t.nd.length by omega) a ha
        exact lb_nodup hv r.1 r.2
      · refine List.Pairwise.imp_of_mem ?_ hnd
        intro a a' ha ha' hne x hx y hy exy
        have r:=hk.rng _ (show n.toNat < t.nd.length by omega) a ha
        have r':=hk.rng _ (show n.toNat < t.nd.length by omega) a' ha'
        subst exy
        exact hne (kids_apart hk hP ⟨h0,h1⟩ ha ha' (mem_lb hv r.1 r.2 hx).1 (mem_lb hv r'.1 r'.2 hy).1)
theorem blw_len (hv:dvE t=0) {f:Nat} {n:Int} (h0:0≤n) (h1:n < t.nd.length):(blw t f n).length≤t.nd.length:=by
  rw [blw_lb,List.length_map]
  exact nd_bound (fun a ha=>(mem_lb hv h0 h1 ha).2) (lb_nodup hv h0 h1)
end
theorem flat_pre {α β:Type} {f:α→List β} {l:List α} (k:Nat):((l.take k).flatMap f).length≤(l.flatMap f).length:=by
  conv=>rhs; rw [← List.take_append_drop k l,List.flatMap_append,List.length_append]
  omega
structure Cse where
  m:M
  o:Ob
  l:Ts
  s:Spl
abbrev cCse (c:Cse):List V:=[iV c.m.i,iV c.m.s,intss c.m.nx,intss c.m.ot,iV c.o.i,trs c.o.tr,iV c.l.i,.sl (c.l.t.nd.map cN),ints c.s.p,iV c.s.a,ints c.s.x]
def snW (w:List Int) (a:Int):List Int:=w++[a]
def smB (m:M):Bool:=decide ((m.nx.length≤12∧m.ot.length≤12)∧m.i≤4)
end Go.Proofs.YtmnjchcoigbngabGreat
namespace Go.Proofs.YtmnjchcoigbngabGreat
open Go Go.Proofs
theorem small24_pure (m:M):PureC Tryz.prog 25 [(V.agg [(iV (m.i)),(iV (m.s)),(intss m.nx),(intss m.ot)])] (V.bool (smB m)):=by
 refine pW Tryz.func25 s25_ok fun hB=>?_
 unfold s25
 dsimp only
 refine W_r (R_box (i:=1) (n:=0) (m:=4) (cs:=[(iV (m.i)),(iV (m.s)),(intss m.nx),(intss m.ot)]) rfl (congrArg Blk.ver rfl) rfl rfl rfl (R_mv rfl (R_e (W_r (R_fk rfl rfl (R_lk rfl rfl rfl rfl (R_len rfl ?_)))))))
 refine R_leq rfl rfl (R_mv rfl ?_)
 refine Ops_seg 5 (fun T H=>T 1=(V.mp 1 1 0 0)∧T 12=(V.bool (decide ((((m.nx.length:Nat):Int)≤(12:Int))∧(((m.ot.length:Nat):Int)≤(12:Int)))))∧H 1=(bk 1 46 4 [[(iV (m.i)),(iV (m.s)),(intss m.nx),(intss m.ot)]])∧True) ?_ ?_
 ·
  by_cases g1:((m.nx.length:Nat):Int)≤(12:Int)
  ·
   refine G_yes (edT g1 rfl) (R_fk rfl rfl (G_yes (edT g1 rfl) (R_lk rfl rfl rfl rfl (G_yes (edT g1 rfl) (R_len rfl (G_yes (edT g1 rfl) (R_leq rfl rfl ?_)))))))
   refine R_pickT (edT g1 rfl) rfl ?_
   exact ⟨rfl,(dec_andT g1),rfl,trivial⟩
  ·
   refine G_n (edF g1 rfl) (G_n (edF g1 rfl) (G_n (edF g1 rfl) (G_n (edF g1 rfl) (R_pickF (edF g1 rfl) rfl ?_))))
   exact ⟨rfl,(dec_andF g1),rfl,trivial⟩
 intro T H ⟨t1,t12,h1,_⟩
 refine R_mv t12 ?_
 refine Ops_seg 4 (fun T H=>T 17=(V.bool (decide (((((m.nx.length:Nat):Int)≤(12:Int))∧(((m.ot.length:Nat):Int)≤(12:Int)))∧((m.i)≤(4:Int)))))∧H 1=(bk 1 46 4 [[(iV (m.i)),(iV (m.s)),(intss m.nx),(intss m.ot)]])∧True) ?_ ?_
 ·
  by_cases g2:(((m.nx.length:Nat):Int)≤(12:Int))∧(((m.ot.length:Nat):Int)≤(12:Int))
  ·
   refine G_yes (edT g2 rfl) (R_fk t1 h1 (G_yes (edT g2 rfl) (R_lk rfl h1 rfl rfl (G_yes (edT g2 rfl) (R_leq rfl rfl (R_pickT (edT g2 rfl) rfl ?_))))))
   exact ⟨(dec_andT g2),h1,trivial⟩
  ·
   refine G_n (edF g2 rfl) (G_n (edF g2 rfl) (G_n (edF g2 rfl) (R_pickF (edF g2 rfl) rfl ?_)))
   exact ⟨(dec_andF g2),h1,trivial⟩
 intro T H ⟨t17,h1,_⟩
 refine R_mv t17 (R_e (W_ret ?_))
 refine Ret_1 (@rfl V (V.bool (decide (((((m.nx.length:Nat):Int)≤(12:Int))∧(((m.ot.length:Nat):Int)≤(12:Int)))∧((m.i)≤(4:Int)))))) (fz_bool ?_)
 · unfold smB; exact decide_eq_decide.2 (by omega)
def r26_1:List SO:=[
 qF 5 0 1,
 ql 6 5,
 qC 7 .lss 6 1,
 qM 8 7,
 ⟨some (8,false),some 9,.fld 0 (.t 1)⟩,
 ⟨some (8,false),some 10,.load false 1 (.t 9)⟩,
 ⟨some (8,false),some 11,.bin .gtr (.t 10) (.c (.int .i64 64))⟩,
 sO 12 (.pick (.t 8) (.c (.bool true)) (.t 11))]
def r26_7:List SO:=[
 qF 21 1 1,
 ql 22 21,
 qC 23 .lss 22 0,
 qM 24 23,
 ⟨some (24,false),some 25,.fld 1 (.t 1)⟩,
 ⟨some (24,false),some 26,.load false 1 (.t 25)⟩,
 ⟨some (24,false),some 27,.fld 2 (.t 1)⟩,
 ⟨some (24,false),some 28,.load false 1 (.t 27)⟩,
 ⟨some (24,false),some 29,.len (.t 28)⟩,
 ⟨some (24,false),some 30,.bin .geq (.t 26) (.t 29)⟩,
 sO 31 (.pick (.t 24) (.c (.bool true)) (.t 30))]
def r26_9:List SO:=[
 qF 32 3 1,
 ql 33 32,
 qN 34 33,
 qF 35 2 1,
 ql 36 35,
 qN 37 36,
 qP 38 .neq 34 37]
def b26_0:SC:=.seq (.seq (.reg [qM 39 3,qF 40 2 1,ql 41 40,qN 42 41,qP 43 .lss 39 42]) (.cond (.t 43) (.skip) (.exit 0))) (.seq (.block 1 (.seq (.reg [qL 46 4 1,qM 47 3,sO 48 (.call false 79 [.t 46,.t 47]),qM 4 48]) (.seq (.reg [qM 49 4,qC 50 .neq 49 0]) (.cond (.t 50) (.seq (.reg [qM 51 4,qM 2 51]) (.ret)) (.skip))))) (.reg [qM 44 3,qC 45 .add 44 1,qM 3 45]))
def s26:SF:=⟨52,[.tmp 2],.seq (.reg [sO 1 (.box 46 4 (.t 0)),qI 2 0]) (.seq (.seq (.reg r26_1) (.cond (.t 12) (.seq (.reg [qI 2 2]) (.ret)) (.skip))) (.seq (.seq (.reg [qF 13 2 1,ql 14 13,qN 15 14,qC 16 .eql 15 0]) (.cond (.t 16) (.seq (.reg [qI 2 19]) (.ret)) (.skip))) (.seq (.seq (.reg [qF 17 2 1,ql 18 17,qN 19 18,qC 20 .gtr 19 128]) (.cond (.t 20) (.seq (.reg [qI 2 11]) (.ret)) (.skip))) (.seq (.seq (.reg r26_7) (.cond (.t 31) (.seq (.reg [qI 2 2]) (.ret)) (.skip))) (.seq (.seq (.reg r26_9) (.cond (.t 38) (.seq (.reg [qI 2 1]) (.ret)) (.skip))) (.seq (.seq (.reg [qI 3 0]) (.block 0 (.loop b26_0))) (.seq (.reg [qI 2 0]) (.ret))))))))⟩
theorem s26_ok:slimF Tryz.prog ⟨[107,108,109,116,120,126,127,167,169,170,171,172,194,196,198,209,222,226],[]⟩ Tryz.f26=some s26:=by kernel_rfl
def r79_1:List SO:=[
 qF 6 2 2,
 ql 7 6,
 qM 8 1,
 qA 9 1 7 8,
 ql 10 9,
 qN 11 10,
 qF 12 0 2,
 ql 13 12,
 qP 14 .neq 11 13,
 qM 15 14,
 ⟨some (15,false),some 16,.fld 3 (.t 2)⟩,
 ⟨some (15,false),some 17,.load false 1 (.t 16)⟩,
 ⟨some (15,false),some 18,.mv (.t 1)⟩,
 ⟨some (15,false),some 19,.idx 1 (.t 17) (.t 18)⟩,
 ⟨some (15,false),some 20,.load false 1 (.t 19)⟩,
 ⟨some (15,false),some 21,.len (.t 20)⟩,
 ⟨some (15,false),some 22,.fld 0 (.t 2)⟩,
 ⟨some (15,false),some 23,.load false 1 (.t 22)⟩,
 ⟨some (15,false),some 24,.bin .neq (.t 21) (.t 23)⟩,
 sO 25 (.pick (.t 15) (.c (.bool true)) (.t 24))]
def r79_6:List SO:=[
 qF 32 2 2,
 ql 33 32,
 qM 34 1,
 qA 35 1 33 34,
 ql 36 35,
 qM 37 5,
 qA 38 1 36 37,
 ql 39 38,
 qC 40 .lss 39 0,
 qM 41 40,
 ⟨some (41,false),some 42,.fld 2 (.t 2)⟩,
 ⟨some (41,false),some 43,.load false 1 (.t 42)⟩,
 ⟨some (41,false),some 44,.mv (.t 1)⟩,
 ⟨some (41,false),some 45,.idx 1 (.t 43) (.t 44)⟩,
 ⟨some (41,false),some 46,.load false 1 (.t 45)⟩,
 ⟨some (41,false),some 47,.mv (.t 5)⟩,
 ⟨some (41,false),some 48,.idx 1 (.t 46) (.t 47)⟩,
 ⟨some (41,false),some 49,.load false 1 (.t 48)⟩,
 ⟨some (41,false),some 50,.fld 2 (.t 2)⟩,
 ⟨some (41,false),some 51,.load false 1 (.t 50)⟩,
 ⟨some (41,false),some 52,.len (.t 51)⟩,
 ⟨some (41,false),some 53,.bin .geq (.t 49) (.t 52)⟩,
 sO 54 (.pick (.t 41) (.c (.bool true)) (.t 53)),
 qM 55 54,
 ⟨some (55,false),some 56,.fld 3 (.t 2)⟩,
 ⟨some (55,false),some 57,.load false 1 (.t 56)⟩,
 ⟨some (55,false),some 58,.mv (.t 1)⟩,
 ⟨some (55,false),some 59,.idx 1 (.t 57) (.t 58)⟩,
 ⟨some (55,false),some 60,.load false 1 (.t 59)⟩,
 ⟨some (55,false),some 61,.mv (.t 5)⟩,
 ⟨some (55,false),some 62,.idx 1 (.t 60) (.t 61)⟩,
 ⟨some (55,false),some 63,.load false 1 (.t 62)⟩,
 ⟨some (55,false),some 64,.bin .lss (.t 63) (.c (.int .i64 0))⟩,
 sO 65 (.pick (.t 55) (.c (.bool true)) (.t 64)),
 qM 66 65,
 ⟨some (66,false),some 67,.fld 3 (.t 2)⟩,
 ⟨some (66,false),some 68,.load false 1 (.t 67)⟩,
 ⟨some (66,false),some 69,.mv (.t 1)⟩,
 ⟨some (66,false),some 70,.idx 1 (.t 68) (.t 69)⟩,
 ⟨some (66,false),some 71,.load false 1 (.t 70)⟩,
 ⟨some (66,false),some 72,.mv (.t 5)⟩,
 ⟨some (66,false),some 73,.idx 1 (.t 71) (.t 72)⟩,
 ⟨some (66,false),some 74,.load false 1 (.t 73)⟩,
 ⟨some (66,false),some 75,.bin .gtr (.t 74) (.c (.int .i64 1048576))⟩,
 sO 76 (.pick (.t 66) (.c (.bool true)) (.t 75))]
def b79_0:SC:=.seq (.seq (.reg [qM 26 5,qF 27 0 2,ql 28 27,qP 29 .lss 26 28]) (.cond (.t 29) (.skip) (.exit 0))) (.seq (.block 1 (.seq (.reg r79_6) (.cond (.t 76) (.seq (.reg [qI 4 2]) (.ret)) (.skip)))) (.reg [qM 30 5,qC 31 .add 30 1,qM 5 31]))
def s79:SF:=⟨77,[.tmp 4],.seq (.reg [sO 2 (.box 46 4 (.t 0)),qI 4 0]) (.seq (.seq (.reg r79_1) (.cond (.t 25) (.seq (.reg [qI 4 1]) (.ret)) (.skip))) (.seq (.seq (.reg [qI 5 0]) (.block 0 (.loop b79_0))) (.seq (.reg [qI 4 0]) (.ret))))⟩
theorem s79_ok:slimF Tryz.prog ⟨[107,108,109,116,120,126,127,167,169,170,171,172,194,196,198,209,222,226],[]⟩ Tryz.f79=some s79:=by kernel_rfl
theorem row_pure (m:M) (s:Nat) (h1:s < m.nx.length) (h2:s < m.ot.length) (hi:1≤m.i∧m.i≤64):PureC Tryz.prog 79 [(V.agg [(iV (m.i)),(iV (m.s)),(intss m.nx),(intss m.ot)]),(iV ((s:Nat):Int))] (iV (rowE m s)):=by
 refine pW Tryz.func79 s79_ok fun hB=>?_
 unfold s79
 dsimp only
 refine W_r (R_box (i:=2) (n:=0) (m:=4) (cs:=[(iV (m.i)),(iV (m.s)),(intss m.nx),(intss m.ot)]) rfl (congrArg Blk.ver rfl) rfl rfl rfl (R_mv rfl (R_e (W_seq_seq (W_r (R_fk rfl rfl (R_lk rfl rfl rfl rfl ?_)))))))
 refine R_mv rfl (R_idx (i:=s) (@rfl V (intss m.nx)) (@rfl V (iV ((s:Nat):Int))) (by omega) rfl (R_load_pp rfl rfl (R_len rfl (R_fk rfl rfl (R_lk rfl rfl rfl rfl (R_neq rfl rfl (R_mv rfl ?_)))))))
 refine Ops_seg 10 (fun T H=>T 1=(iV ((s:Nat):Int))∧T 2=(V.mp 2 1 0 0)∧T 25=(V.bool (decide ((((((nth (m.nx) (s))).length:Nat):Int)≠(m.i))∨(((((nth (m.ot) (s))).length:Nat):Int)≠(m.i)))))∧H 2=(bk 1 46 4 [[(iV (m.i)),(iV (m.s)),(intss m.nx),(intss m.ot)]])∧True) ?_ ?_
 ·
  by_cases g1:((((nth (m.nx) (s))).length:Nat):Int)≠(m.i)
  ·
   refine G_n (edT g1 rfl) (G_n (edT g1 rfl) (G_n (edT g1 rfl) (G_n (edT g1 rfl) (G_n (edT g1 rfl) (G_n (edT g1 rfl) (G_n (edT g1 rfl) (G_n (edT g1 rfl) ?_)))))))
   refine G_n (edT g1 rfl) (R_pickT (edT g1 rfl) rfl ?_)
   exact ⟨rfl,rfl,(dec_orT g1),rfl,trivial⟩
  ·
   refine G_yes (edF g1 rfl) (R_fk rfl rfl (G_yes (edF g1 rfl) (R_lk rfl rfl rfl rfl (G_yes (edF g1 rfl) (R_mv rfl (G_yes (edF g1 rfl) (R_idx (i:=s) (@rfl V (intss m.ot)) (@rfl V (iV ((s:Nat):Int))) (by omega) rfl ?_)))))))
   refine G_yes (edF g1 rfl) (R_load_pp rfl rfl (G_yes (edF g1 rfl) (R_len rfl (G_yes (edF g1 rfl) (R_fk rfl rfl (G_yes (edF g1 rfl) (R_lk rfl rfl rfl rfl ?_)))))))
   refine G_yes (edF g1 rfl) (R_neq rfl rfl (R_pickF (edF g1 rfl) rfl ?_))
   exact ⟨rfl,rfl,(dec_orF g1),rfl,trivial⟩
 intro T H ⟨t1,t2,t25,h2,_⟩
 refine R_e ?_
 refine W_seq_if t25 (fun c2=>?_) fun c2=>?_
 ·
  refine W_seq_seq (W_r (R_mv rfl (R_e (W_seq_ret ?_))))
  refine Ret_1 (@rfl V (iV (1:Int))) (fz_int ?_)
  · rw [rowE,if_pos (by omega)]
 refine W_seq_skip (W_seq_seq (W_r (R_mv rfl (R_e (W_seq_blockg fun Q3 n3 x3 y3 z3=>?_)))))
 refine W_loop (fun mm T H=> ∃ (k:Nat),mm=((m.i).toNat) - k∧T 1=(iV ((s:Nat):Int))∧T 2=(V.mp 2 1 0 0)∧T 5=(iV ((k:Nat):Int))∧H 2=(bk 1 46 4 [[(iV (m.i)),(iV (m.s)),(intss m.nx),(intss m.ot)]])∧(k≤(m.i).toNat)∧(((nth m.nx s).length:Int)=m.i∧((nth m.ot s).length:Int)=m.i)∧(rowE m s=fe (celE m s) k (m.i.toNat - k))) ?_ ?_
 ·
  refine ⟨_,0,rfl,t1,t2,(Eq.trans (@rfl V (iV (0:Int))) rfl),h2,?_,?_,?_⟩
  · omega
  · omega
  · rw [rowE,if_neg (by omega)]; rfl
 intro mm T H ⟨k,hmm,t1,t2,t5,h2,hk,hl,hc⟩ Q4 p14 p24 p34
 unfold b79_0
 refine W_seq_seq (W_r (R_mv t5 (R_fk t2 h2 (R_lk rfl h2 rfl rfl (R_lss rfl rfl (R_e ?_))))))
 refine W_seq_if rfl (fun c5=>?_) fun c5=>?_
 ·
  refine W_seq_skip (W_seq_blockg fun Q6 n6 x6 y6 z6=>?_)
  refine W_seq_regc (fun T H=>T 1=(iV ((s:Nat):Int))∧T 2=(V.mp 2 1 0 0)∧T 5=(iV ((k:Nat):Int))∧T 76=(V.bool (decide ((((((nth ((nth (m.nx) (s))) (k))) < (0:Int))∨(((m.nx.length:Nat):Int)≤((nth ((nth (m.nx) (s))) (k)))))∨(((nth ((nth (m.ot) (s))) (k))) < (0:Int)))∨((1048576:Int) < ((nth ((nth (m.ot) (s))) (k)))))))∧H 2=(bk 1 46 4 [[(iV (m.i)),(iV (m.s)),(intss m.nx),(intss m.ot)]])∧True) ?_ ?_
  ·
   refine R_fk t2 h2 (R_lk rfl h2 rfl rfl (R_mv t1 (R_idx (i:=s) (@rfl V (intss m.nx)) (@rfl V (iV ((s:Nat):Int))) (by omega) rfl (R_load_pp rfl rfl (R_mv t5 (R_idx (i:=k) (@rfl V (ints ((nth (m.nx) (s))))) (@rfl V (iV ((k:Nat):Int))) (by omega) rfl (R_load_pp rfl rfl ?_)))))))
   refine R_lss rfl rfl (R_mv rfl ?_)
   refine Ops_seg 13 (fun T H=>T 1=(iV ((s:Nat):Int))∧T 2=(V.mp 2 1 0 0)∧T 5=(iV ((k:Nat):Int))∧T 54=(V.bool (decide ((((nth ((nth (m.nx) (s))) (k))) < (0:Int))∨(((m.nx.length:Nat):Int)≤((nth ((nth (m.nx) (s))) (k)))))))∧H 2=(bk 1 46 4 [[(iV (m.i)),(iV (m.s)),(intss m.nx),(intss m.ot)]])∧True) ?_ ?_
   ·
    by_cases g7:((nth ((nth (m.nx) (s))) (k))) < (0:Int)
    ·
     refine G_n (edT g7 rfl) (G_n (edT g7 rfl) (G_n (edT g7 rfl) (G_n (edT g7 rfl) (G_n (edT g7 rfl) (G_n (edT g7 rfl) (G_n (edT g7 rfl) (G_n (edT g7 rfl) ?_)))))))
     refine G_n (edT g7 rfl) (G_n (edT g7 rfl) (G_n (edT g7 rfl) (G_n (edT g7 rfl) (R_pickT (edT g7 rfl) rfl ?_))))
     exact ⟨t1,t2,t5,(dec_orT g7),h2,trivial⟩
    ·
     refine G_yes (edF g7 rfl) (R_fk t2 h2 (G_yes (edF g7 rfl) (R_lk rfl h2 rfl rfl (G_yes (edF g7 rfl) (R_mv t1 (G_yes (edF g7 rfl) (R_idx (i:=s) (@rfl V (intss m.nx)) (@rfl V (iV ((s:Nat):Int))) (by omega) rfl ?_)))))))
     refine G_yes (edF g7 rfl) (R_load_pp rfl rfl (G_yes (edF g7 rfl) (R_mv t5 (G_yes (edF g7 rfl) (R_idx (i:=k) (@rfl V (ints ((nth (m.nx) (s))))) (@rfl V (iV ((k:Nat):Int))) (by omega) rfl (G_yes (edF g7 rfl) (R_load_pp rfl rfl ?_)))))))
     refine G_yes (edF g7 rfl) (R_fk t2 h2 (G_yes (edF g7 rfl) (R_lk rfl h2 rfl rfl (G_yes (edF g7 rfl) (R_len rfl (G_yes (edF g7 rfl) (R_geq rfl rfl ?_)))))))
     refine R_pickF (edF g7 rfl) rfl ?_
     exact ⟨t1,t2,t5,(dec_orF g7),h2,trivial⟩
   intro T H ⟨t1,t2,t5,t54,h2,_⟩
   refine R_mv t54 ?_
   refine Ops_seg 10 (fun T H=>T 1=(iV ((s:Nat):Int))∧T 2=(V.mp 2 1 0 0)∧T 5=(iV ((k:Nat):Int))∧T 65=(V.bool (decide (((((nth ((nth (m.nx) (s))) (k))) < (0:Int))∨(((m.nx.length:Nat):Int)≤((nth ((nth (m.nx) (s))) (k)))))∨(((nth ((nth (m.ot) (s))) (k))) < (0:Int)))))∧H 2=(bk 1 46 4 [[(iV (m.i)),(iV (m.s)),(intss m.nx),(intss m.ot)]])∧True) ?_ ?_
   ·
    by_cases g8:(((nth ((nth (m.nx) (s))) (k))) < (0:Int))∨(((m.nx.length:Nat):Int)≤((nth ((nth (m.nx) (s))) (k))))
    ·
     refine G_n (edT g8 rfl) (G_n (edT g8 rfl) (G_n (edT g8 rfl) (G_n (edT g8 rfl) (G_n (edT g8 rfl) (G_n (edT g8 rfl) (G_n (edT g8 rfl) (G_n (edT g8 rfl) ?_)))))))
     refine G_n (edT g8 rfl) (R_pickT (edT g8 rfl) rfl ?_)
     exact ⟨t1,t2,t5,(dec_orT g8),h2,trivial⟩
    ·
     refine G_yes (edF g8 rfl) (R_fk t2 h2 (G_yes (edF g8 rfl) (R_lk rfl h2 rfl rfl (G_yes (edF g8 rfl) (R_mv t1 (G_yes (edF g8 rfl) (R_idx (i:=s) (@rfl V (intss m.ot)) (@rfl V (iV ((s:Nat):Int))) (by omega) rfl ?_)))))))
     refine G_yes (edF g8 rfl) (R_load_pp rfl rfl (G_yes (edF g8 rfl) (R_mv t5 (G_yes (edF g8 rfl) (R_idx (i:=k) (@rfl V (ints ((nth (m.ot) (s))))) (@rfl V (iV ((k:Nat):Int))) (by omega) rfl (G_yes (edF g8 rfl) (R_load_pp rfl rfl ?_)))))))
     refine G_yes (edF g8 rfl) (R_lss rfl rfl (R_pickF (edF g8 rfl) rfl ?_))
     exact ⟨t1,t2,t5,(dec_orF g8),h2,trivial⟩
   intro T H ⟨t1,t2,t5,t65,h2,_⟩
   refine R_mv t65 ?_
   refine Ops_seg 10 (fun T H=>T 1=(iV ((s:Nat):Int))∧T 2=(V.mp 2 1 0 0)∧T 5=(iV ((k:Nat):Int))∧T 76=(V.bool (decide ((((((nth ((nth (m.nx) (s))) (k))) < (0:Int))∨(((m.nx.length:Nat):Int)≤((nth ((nth (m.nx) (s))) (k)))))∨(((nth ((nth (m.ot) (s))) (k))) < (0:Int)))∨((1048576:Int) < ((nth ((nth (m.ot) (s))) (k)))))))∧H 2=(bk 1 46 4 [[(iV (m.i)),(iV (m.s)),(intss m.nx),(intss m.ot)]])∧True) ?_ ?_
   ·
    by_cases g9:((((nth ((nth (m.nx) (s))) (k))) < (0:Int))∨(((m.nx.length:Nat):Int)≤((nth ((nth (m.nx) (s))) (k)))))∨(((nth ((nth (m.ot) (s))) (k))) < (0:Int))
    ·
     refine G_n (edT g9 rfl) (G_n (edT g9 rfl) (G_n (edT g9 rfl) (G_n (edT g9 rfl) (G_n (edT g9 rfl) (G_n (edT g9 rfl) (G_n (edT g9 rfl) (G_n (edT g9 rfl) ?_)))))))
     refine G_n (edT g9 rfl) (R_pickT (edT g9 rfl) rfl ?_)
     exact ⟨t1,t2,t5,(dec_orT g9),h2,trivial⟩
    ·
     refine G_yes (edF g9 rfl) (R_fk t2 h2 (G_yes (edF g9 rfl) (R_lk rfl h2 rfl rfl (G_yes (edF g9 rfl) (R_mv t1 (G_yes (edF g9 rfl) (R_idx (i:=s) (@rfl V (intss m.ot)) (@rfl V (iV ((s:Nat):Int))) (by omega) rfl ?_)))))))
     refine G_yes (edF g9 rfl) (R_load_pp rfl rfl (G_yes (edF g9 rfl) (R_mv t5 (G_yes (edF g9 rfl) (R_idx (i:=k) (@rfl V (ints ((nth (m.ot) (s))))) (@rfl V (iV ((k:Nat):Int))) (by omega) rfl (G_yes (edF g9 rfl) (R_load_pp rfl rfl ?_)))))))
     refine G_yes (edF g9 rfl) (R_gtr rfl rfl (R_pickF (edF g9 rfl) rfl ?_))
     exact ⟨t1,t2,t5,(dec_orF g9),h2,trivial⟩
   intro T H ⟨t1,t2,t5,t76,h2,_⟩
   exact R_nil ⟨t1,t2,t5,t76,h2,trivial⟩
  intro T H ⟨t1,t2,t5,t76,h2,_⟩
  refine W_if t76 (fun c10=>?_) fun c10=>?_
  ·
   refine W_r (R_mv rfl (R_e (W_ret (y6 _ _ (p24 _ _ (y3 _ _ ?_))))))
   refine Ret_1 (@rfl V (iV (2:Int))) (fz_int ?_)
   · rw [hc,fe_hit (by unfold celE; split <;> omega) (by omega)]; unfold celE; split <;> omega
  refine W_skip (n6 _ _ (.done (W_t (R_mv t5 (R_addN rfl (@rfl V (iV ((1:Nat):Int))) (by omega) (R_mv rfl (R_e ?_)))))))
  refine p14 _ _ _ ?_ ⟨(k+1),rfl,t1,t2,(Eq.trans (@rfl V (iV ((k+1:Nat):Int))) (by rfl)),h2,?_,?_,?_⟩
  · omega
  · omega
  · omega
  · rw [hc,fe_skip (by unfold celE; split <;> omega) (by omega)]
 refine W_seq_exit (p34 _ _ _ (x3 _ _ (.done (W_r (R_mv rfl (R_e (W_ret ?_)))))))
 refine Ret_1 (@rfl V (iV (0:Int))) (fz_int ?_)
 · rw [hc,fe_end (by omega)]
theorem rvalid_pure (m:M):PureC Tryz.prog 26 [(V.agg [(iV (m.i)),(iV (m.s)),(intss m.nx),(intss m.ot)])] (iV (mval m)):=by
 refine pW Tryz.func26 s26_ok fun hB=>?_
 unfold s26
 dsimp only
 refine W_r (R_box (i:=1) (n:=0) (m:=4) (cs:=[(iV (m.i)),(iV (m.s)),(intss m.nx),(intss m.ot)]) rfl (congrArg Blk.ver rfl) rfl rfl rfl (R_mv rfl (R_e (W_seq_seq (W_r (R_fk rfl rfl (R_lk rfl rfl rfl rfl ?_)))))))
 refine R_lss rfl rfl (R_mv rfl ?_)
 refine Ops_seg 4 (fun T H=>T 1=(V.mp 1 1 0 0)∧T 12=(V.bool (decide (((m.i) < (1:Int))∨((64:Int) < (m.i)))))∧H 1=(bk 1 46 4 [[(iV (m.i)),(iV (m.s)),(intss m.nx),(intss m.ot)]])∧True) ?_ ?_
 ·
  by_cases g1:(m.i) < (1:Int)
  ·
   refine G_n (edT g1 rfl) (G_n (edT g1 rfl) (G_n (edT g1 rfl) (R_pickT (edT g1 rfl) rfl ?_)))
   exact ⟨rfl,(dec_orT g1),rfl,trivial⟩
  ·
   refine G_yes (edF g1 rfl) (R_fk rfl rfl (G_yes (edF g1 rfl) (R_lk rfl rfl rfl rfl (G_yes (edF g1 rfl) (R_gtr rfl rfl (R_pickF (edF g1 rfl) rfl ?_))))))
   exact ⟨rfl,(dec_orF g1),rfl,trivial⟩
 intro T H ⟨t1,t12,h1,_⟩
 refine R_e ?_
 refine W_seq_if t12 (fun c2=>?_) fun c2=>?_
 ·
  refine W_seq_seq (W_r (R_mv rfl (R_e (W_seq_ret ?_))))
  refine Ret_1 (@rfl V (iV (2:Int))) (fz_int ?_)
  · rw [mval,if_pos (by omega)]
 refine W_seq_skip (W_seq_seq (W_r (R_fk t1 h1 (R_lk rfl h1 rfl rfl (R_len rfl (R_eql rfl rfl (R_e ?_)))))))
 refine W_seq_if rfl (fun c3=>?_) fun c3=>?_
 ·
  refine W_seq_seq (W_r (R_mv rfl (R_e (W_seq_ret ?_))))
  refine Ret_1 (@rfl V (iV (19:Int))) (fz_int ?_)
  · rw [mval,if_neg (by omega),if_pos (by omega)]
 refine W_seq_skip (W_seq_seq (W_r (R_fk t1 h1 (R_lk rfl h1 rfl rfl (R_len rfl (R_gtr rfl rfl (R_e ?_)))))))
 refine W_seq_if rfl (fun c4=>?_) fun c4=>?_
 ·
  refine W_seq_seq (W_r (R_mv rfl (R_e (W_seq_ret ?_))))
  refine Ret_1 (@rfl V (iV (11:Int))) (fz_int ?_)
  · rw [mval,if_neg (by omega),if_neg (by omega),if_pos (by omega)]
 refine W_seq_skip (W_seq_seq (W_r (R_fk t1 h1 (R_lk rfl h1 rfl rfl (R_lss rfl rfl (R_mv rfl ?_))))))
 refine Ops_seg 7 (fun T H=>T 1=(V.mp 1 1 0 0)∧T 31=(V.bool (decide (((m.s) < (0:Int))∨(((m.nx.length:Nat):Int)≤(m.s)))))∧H 1=(bk 1 46 4 [[(iV (m.i)),(iV (m.s)),(intss m.nx),(intss m.ot)]])∧True) ?_ ?_
 ·
  by_cases g5:(m.s) < (0:Int)
  ·
   refine G_n (edT g5 rfl) (G_n (edT g5 rfl) (G_n (edT g5 rfl) (G_n (edT g5 rfl) (G_n (edT g5 rfl) (G_n (edT g5 rfl) (R_pickT (edT g5 rfl) rfl ?_))))))
   exact ⟨t1,(dec_orT g5),h1,trivial⟩
  ·
   refine G_yes (edF g5 rfl) (R_fk t1 h1 (G_yes (edF g5 rfl) (R_lk rfl h1 rfl rfl (G_yes (edF g5 rfl) (R_fk t1 h1 (G_yes (edF g5 rfl) (R_lk rfl h1 rfl rfl ?_)))))))
   refine G_yes (edF g5 rfl) (R_len rfl (G_yes (edF g5 rfl) (R_geq rfl rfl (R_pickF (edF g5 rfl) rfl ?_))))
   exact ⟨t1,(dec_orF g5),h1,trivial⟩
 intro T H ⟨t1,t31,h1,_⟩
 refine R_e ?_
 refine W_seq_if t31 (fun c6=>?_) fun c6=>?_
 ·
  refine W_seq_seq (W_r (R_mv rfl (R_e (W_seq_ret ?_))))
  refine Ret_1 (@rfl V (iV (2:Int))) (fz_int ?_)
  · rw [mval,if_neg (by omega),if_neg (by omega),if_neg (by omega),if_pos (by omega)]
 refine W_seq_skip (W_seq_seq (W_r (R_fk t1 h1 (R_lk rfl h1 rfl rfl (R_len rfl (R_fk t1 h1 (R_lk rfl h1 rfl rfl ?_)))))))
 refine R_len rfl (R_neq rfl rfl (R_e ?_))
 refine W_seq_if rfl (fun c7=>?_) fun c7=>?_
 ·
  refine W_seq_seq (W_r (R_mv rfl (R_e (W_seq_ret ?_))))
  refine Ret_1 (@rfl V (iV (1:Int))) (fz_int ?_)
  · rw [mval,if_neg (by omega),if_neg (by omega),if_neg (by omega),if_neg (by omega),if_pos (by omega)]
 refine W_seq_skip (W_seq_seq (W_r (R_mv rfl (R_e (W_seq_blockg fun Q8 n8 x8 y8 z8=>?_)))))
 refine W_loop (fun mm T H=> ∃ (k:Nat),mm=m.nx.length - k∧T 1=(V.mp 1 1 0 0)∧T 3=(iV ((k:Nat):Int))∧H 1=(bk 1 46 4 [[(iV (m.i)),(iV (m.s)),(intss m.nx),(intss m.ot)]])∧(k≤m.nx.length)∧(1≤m.i∧m.i≤64∧0 < m.nx.length∧m.nx.length≤128∧m.ot.length=m.nx.length)∧(mval m=fe (rowE m) k (m.nx.length - k))) ?_ ?_
 ·
  refine ⟨_,0,rfl,t1,(Eq.trans (@rfl V (iV (0:Int))) rfl),h1,?_,?_,?_⟩
  · omega
  · omega
  · rw [mval,if_neg (by omega),if_neg (by omega),if_neg (by omega),if_neg (by omega),if_neg (by omega)]; rfl
 intro mm T H ⟨k,hmm,t1,t3,h1,hk,hv,hc⟩ Q9 p19 p29 p39
 unfold b26_0
 refine W_seq_seq (W_r (R_mv t3 (R_fk t1 h1 (R_lk rfl h1 rfl rfl (R_len rfl (R_lss rfl rfl (R_e ?_)))))))
 refine W_seq_if rfl (fun c10=>?_) fun c10=>?_
 ·
  refine W_seq_skip (W_seq_blockg fun Q11 n11 x11 y11 z11=>(W_r (R_lk t1 h1 rfl rfl (R_mv t3 (R_callk (row_pure m k (by omega) (by omega) (by omega)) rfl (R_mv rfl (R_e ?_)))))))
  refine W_r (R_mv rfl (R_neq rfl rfl (R_e ?_)))
  refine W_if rfl (fun c12=>?_) fun c12=>?_
  ·
   refine W_r (R_mv rfl (R_mv rfl (R_e (W_ret (y11 _ _ (p29 _ _ (y8 _ _ ?_)))))))
   refine Ret_1 (@rfl V (iV (rowE m k))) (fz_int ?_)
   · rw [hc,fe_hit (by omega) (by omega)]
  refine W_skip (n11 _ _ (.done (W_t (R_mv t3 (R_addN rfl (@rfl V (iV ((1:Nat):Int))) (by omega) (R_mv rfl (R_e ?_)))))))
  refine p19 _ _ _ ?_ ⟨(k+1),rfl,t1,(Eq.trans (@rfl V (iV ((k+1:Nat):Int))) (by rfl)),h1,?_,?_,?_⟩
  · omega
  · omega
  · omega
  · rw [hc,fe_skip (by omega) (by omega)]
 refine W_seq_exit (p39 _ _ _ (x8 _ _ (.done (W_r (R_mv rfl (R_e (W_ret ?_)))))))
 refine Ret_1 (@rfl V (iV (0:Int))) (fz_int ?_)
 · rw [hc,fe_end (by omega)]
def r27_1:List SO:=[
 qF 5 0 2,
 ql 6 5,
 qF 7 0 3,
 ql 8 7,
 qP 9 .eql 6 8,
 qM 10 9,
 ⟨some (10,true),some 11,.load true 4 (.t 3)⟩,
 ⟨some (10,true),some 12,.load true 2 (.t 2)⟩,
 ⟨some (10,true),some 13,.call false 40 [.t 11,.t 12]⟩,
 sO 14 (.pick (.t 10) (.t 13) (.c (.bool false))),
 qM 4 14]
def s27:SF:=⟨15,[.tmp 4],.seq (.reg [sO 2 (.box 29 2 (.t 0)),sO 3 (.box 46 4 (.t 1)),sO 4 (.mv (.c (.bool false)))]) (.seq (.reg r27_1) (.ret))⟩
theorem s27_ok:slimF Tryz.prog ⟨[107,108,109,116,120,126,127,167,169,170,171,172,194,196,198,209,222,226],[]⟩ Tryz.f27=some s27:=by kernel_rfl
def r40_4:List SO:=[
 qL 16 4 2,
 qF 17 1 2,
 ql 18 17,
 qF 19 1 3,
 ql 20 19,
 qM 21 5,
 qA 22 2 20 21,
 qF 23 0 22,
 ql 24 23,
 sO 25 (.call false 83 [.t 16,.t 18,.t 24]),
 qM 15 25,
 qE 26 15 0,
 qE 27 15 1,
 qM 6 26,
 qM 7 27]
def r40_5:List SO:=[
 qM 28 6,
 qF 29 1 3,
 ql 30 29,
 qM 31 5,
 qA 32 2 30 31,
 qF 33 1 32,
 ql 34 33,
 sO 35 (.call false 98 [.t 28,.t 34]),
 sO 36 (.un .not (.t 35))]
def b40_0:SC:=.seq (.seq (.reg [qM 8 5,qF 9 1 3,ql 10 9,qN 11 10,qP 12 .lss 8 11]) (.cond (.t 12) (.skip) (.exit 0))) (.seq (.block 1 (.seq (.reg r40_4) (.seq (.reg r40_5) (.cond (.t 36) (.seq (.reg [sO 4 (.mv (.c (.bool false)))]) (.ret)) (.skip))))) (.reg [qM 13 5,qC 14 .add 13 1,qM 5 14]))
def s40:SF:=⟨37,[.tmp 4],.seq (.reg [sO 2 (.box 46 4 (.t 0)),sO 3 (.box 29 2 (.t 1)),sO 4 (.mv (.c (.bool false)))]) (.seq (.seq (.reg [qI 5 0]) (.block 0 (.loop b40_0))) (.seq (.reg [sO 4 (.mv (.c (.bool true)))]) (.ret)))⟩
theorem s40_ok:slimF Tryz.prog ⟨[107,108,109,116,120,126,127,167,169,170,171,172,194,196,198,209,222,226],[]⟩ Tryz.f40=some s40:=by kernel_rfl
def r83_5:List SO:=[
 qM 16 8,
 qF 17 3 3,
 ql 18 17,
 qM 19 1,
 qA 20 1 18 19,
 ql 21 20,
 qM 22 2,
 qM 23 9,
 qA 24 1 22 23,
 ql 25 24,
 qA 26 1 21 25,
 ql 27 26,
 sO 28 (.bslice 3 1 false [.int .i64 0] 1 [(0,.t 27)]),
 sO 29 (.append 3 1 8 (.t 16) (.t 28)),
 qM 8 29]
def r83_6:List SO:=[
 qF 30 2 3,
 ql 31 30,
 qM 32 1,
 qA 33 1 31 32,
 ql 34 33,
 qM 35 2,
 qM 36 9,
 qA 37 1 35 36,
 ql 38 37,
 qA 39 1 34 38,
 ql 40 39,
 qM 1 40]
def b83_0:SC:=.seq (.seq (.reg [qM 10 9,qM 11 2,qN 12 11,qP 13 .lss 10 12]) (.cond (.t 13) (.skip) (.exit 0))) (.seq (.block 1 (.seq (.reg r83_5) (.reg r83_6))) (.reg [qM 14 9,qC 15 .add 14 1,qM 9 15]))
def s83:SF:=⟨43,[.tmp 6,.tmp 7],.seq (.reg [sO 3 (.box 46 4 (.t 0)),sO 6 (.mv (.c (.nilsl))),qI 7 0]) (.seq (.reg [sO 8 (.lazy 3 1)]) (.seq (.seq (.reg [qI 9 0]) (.block 0 (.loop b83_0))) (.seq (.reg [qM 41 8,qM 42 1,qM 6 41,qM 7 42]) (.ret))))⟩
theorem s83_ok:slimF Tryz.prog ⟨[107,108,109,116,120,126,127,167,169,170,171,172,194,196,198,209,222,226],[8]⟩ Tryz.f83=some s83:=by kernel_rfl
theorem outs_pure (m:M) (s:Int) (w:List Int) (hm:mval m=0) (hs:0≤s∧s < m.nx.length) (hl:w.length≤1024) (hw: ∀ k,k < w.length→0≤nth w k∧nth w k < m.i):PureC Tryz.prog 83 [(V.agg [(iV (m.i)),(iV (m.s)),(intss m.nx),(intss m.ot)]),(iV (s)),(ints w)] (V.tup [(ints (outs m s w)),(iV (goal m s w))]):=by
 refine pW Tryz.func83 s83_ok fun hB=>?_
 unfold s83
 dsimp only
 refine W_r (R_box (i:=3) (n:=0) (m:=4) (cs:=[(iV (m.i)),(iV (m.s)),(intss m.nx),(intss m.ot)]) rfl (congrArg Blk.ver rfl) rfl rfl rfl (R_mv rfl (R_mv rfl (R_e (W_r (R_lazy (i:=8) (n:=0) rfl (congrArg Blk.ver rfl) (R_e ?_)))))))
 refine W_seq_seq (W_r (R_mv rfl (R_e (W_seq_blockg fun Q1 n1 x1 y1 z1=>?_))))
 refine W_loop (fun mm T H=> ∃ (k:Nat),mm=w.length - k∧T 1=(iV (goal m s (w.take k)))∧T 2=(ints w)∧T 3=(V.mp 3 1 0 0)∧T 8=(V.ms 8 (1+k) 0 (k))∧T 9=(iV ((k:Nat):Int))∧H 3=(bk 1 46 4 [[(iV (m.i)),(iV (m.s)),(intss m.nx),(intss m.ot)]])∧H 8=(bz (1+k) 3 1 (List.map cI (outs m s (w.take k))))∧(k≤w.length)) ?_ ?_
 ·
  refine ⟨_,0,rfl,(Eq.trans (@rfl V (iV (s))) (by rfl)),rfl,rfl,(Eq.trans (@rfl V (V.ms 8 1 0 (0))) (by rfl)),(Eq.trans (@rfl V (iV (0:Int))) rfl),rfl,(Eq.trans (@rfl Blk (bz 1 3 1 [])) (by rfl)),?_⟩
  · omega
 intro mm T H ⟨k,hmm,t1,t2,t3,t8,t9,h3,h8,hk⟩ Q2 p12 p22 p32
 unfold b83_0
 refine W_seq_seq (W_r (R_mv t9 (R_mv t2 (R_len rfl (R_lss rfl rfl (R_e ?_))))))
 refine W_seq_if rfl (fun c3=>?_) fun c3=>?_
 ·
  have h1:=run_at hm hs hw (k:=k) (by omega)
  refine W_seq_skip (W_seq_blockg fun Q4 n4 x4 y4 z4=>(W_r (R_mv t8 (R_fk t3 h3 (R_lk rfl h3 rfl rfl (R_mv t1 (R_idxI (i:=(goal m s (w.take k))) (@rfl V (intss m.ot)) (@rfl V (iV (goal m s (w.take k)))) (by omega) (by omega) rfl ?_)))))))
  refine R_load_pp rfl rfl (R_mv t2 (R_mv t9 (R_idx (i:=k) (@rfl V (ints w)) (@rfl V (iV ((k:Nat):Int))) (by omega) rfl (R_load_pp rfl rfl (R_idxI (i:=((nth (w) (k)))) (@rfl V (ints ((nth (m.ot) (goal m s (w.take k)).toNat)))) (@rfl V (iV ((nth (w) (k))))) (by omega) (by omega) rfl (R_load_pp rfl rfl (R_bslice rfl rfl ?_)))))))
  refine R_append1 (l:=(outs m s (w.take k))) (f:=cI) (x:=(((nth ((nth (m.ot) (goal m s (w.take k)).toNat)) ((nth (w) (k))).toNat)))) (@rfl V (V.ms 8 (1+k) 0 (k))) h8 (by (simp only [outs_len,List.length_take]; omega)) (@rfl V (V.sl [[(iV ((nth ((nth (m.ot) (goal m s (w.take k)).toNat)) ((nth (w) (k))).toNat)))]])) rfl rfl (by omega) (by omega) (R_mv rfl (R_e (W_t (R_fk t3 h3 (R_lk rfl h3 rfl rfl (R_mv t1 (R_idxI (i:=(goal m s (w.take k))) (@rfl V (intss m.nx)) (@rfl V (iV (goal m s (w.take k)))) (by omega) (by omega) rfl ?_)))))))
  refine R_load_pp rfl rfl (R_mv t2 (R_mv t9 (R_idx (i:=k) (@rfl V (ints w)) (@rfl V (iV ((k:Nat):Int))) (by omega) rfl (R_load_pp rfl rfl (R_idxI (i:=((nth (w) (k)))) (@rfl V (ints ((nth (m.nx) (goal m s (w.take k)).toNat)))) (@rfl V (iV ((nth (w) (k))))) (by omega) (by omega) rfl (R_load_pp rfl rfl (R_mv rfl ?_)))))))
  refine R_e (n4 _ _ (.done (W_t (R_mv t9 (R_addN rfl (@rfl V (iV ((1:Nat):Int))) (by omega) (R_mv rfl (R_e ?_)))))))
  refine p12 _ _ _ ?_ ⟨(k+1),rfl,(Eq.trans (@rfl V (iV ((nth ((nth (m.nx) (goal m s (w.take k)).toNat)) ((nth (w) (k))).toNat)))) (by (rw [goal_step m s (by omega)]; rfl))),t2,t3,(Eq.trans (@rfl V (V.ms 8 (1+k+1) 0 (k+1))) (by rfl)),(Eq.trans (@rfl V (iV ((k+1:Nat):Int))) (by rfl)),h3,(Eq.trans (@rfl Blk (bz (1+k+1) 3 1 (List.map cI (outs m s (w.take k)++[((nth ((nth (m.ot) (goal m s (w.take k)).toNat)) ((nth (w) (k))).toNat))])))) (by (rw [outs_step m s (by omega)]; rfl))),?_⟩
  · omega
  · omega
 refine W_seq_exit (p32 _ _ _ (x1 _ _ (.done (W_r (R_mv t8 (R_mv t1 (R_mv rfl ?_)))))))
 refine R_mv rfl (R_e (W_ret ?_))
 refine Ret_2 (@rfl V (V.ms 8 (1+k) 0 (k))) (@rfl V (iV (goal m s (w.take k)))) (fz_ms h8 (by simp) (l:=(outs m s (w.take k))) rfl (by (simp only [outs_len,List.length_take]; omega)) (fun _=>by simp) ?_) (fz_int ?_)
 · (have e:k=w.length:=(by omega); subst e; rw [List.take_length])
 · (have e:k=w.length:=(by omega); subst e; rw [List.take_length])
def r98_6:List SO:=[
 qM 17 0,
 qM 18 5,
 qA 19 1 17 18,
 ql 20 19,
 qM 21 1,
 qM 22 5,
 qA 23 1 21 22,
 ql 24 23,
 qP 25 .neq 20 24]
def b98_0:SC:=.seq (.seq (.reg [qM 11 5,qM 12 0,qN 13 12,qP 14 .lss 11 13]) (.cond (.t 14) (.skip) (.exit 0))) (.seq (.block 1 (.seq (.reg r98_6) (.cond (.t 25) (.seq (.reg [sO 4 (.mv (.c (.bool false)))]) (.ret)) (.skip)))) (.reg [qM 15 5,qC 16 .add 15 1,qM 5 16]))
def s98:SF:=⟨26,[.tmp 4],.seq (.reg [sO 4 (.mv (.c (.bool false)))]) (.seq (.seq (.reg [qM 6 0,qN 7 6,qM 8 1,qN 9 8,qP 10 .neq 7 9]) (.cond (.t 10) (.seq (.reg [sO 4 (.mv (.c (.bool false)))]) (.ret)) (.skip))) (.seq (.seq (.reg [qI 5 0]) (.block 0 (.loop b98_0))) (.seq (.reg [sO 4 (.mv (.c (.bool true)))]) (.ret))))⟩
theorem s98_ok:slimF Tryz.prog ⟨[107,108,109,116,120,126,127,167,169,170,171,172,194,196,198,209,222,226],[]⟩ Tryz.f98=some s98:=by kernel_rfl
theorem ints_pure (a b:List Int):PureC Tryz.prog 98 [(ints a),(ints b)] (V.bool (decide (a=b))):=by
 refine pW Tryz.func98 s98_ok fun hB=>?_
 unfold s98
 dsimp only
 refine W_r (R_mv rfl (R_e (W_seq_seq (W_r (R_mv rfl (R_len rfl (R_mv rfl ?_)))))))
 refine R_len rfl (R_neq rfl rfl (R_e ?_))
 refine W_seq_if rfl (fun c1=>?_) fun c1=>?_
 ·
  refine W_seq_seq (W_r (R_mv rfl (R_e (W_seq_ret ?_))))
  refine Ret_1 (@rfl V (V.bool false)) (fz_bool ?_)
  · exact (decide_eq_false (fun e=>by subst e; omega)).symm
 refine W_seq_skip (W_seq_seq (W_r (R_mv rfl (R_e (W_seq_blockg fun Q2 n2 x2 y2 z2=>?_)))))
 refine W_loop (fun mm T H=> ∃ (k:Nat),mm=a.length - k∧T 0=(ints a)∧T 1=(ints b)∧T 5=(iV ((k:Nat):Int))∧(k≤a.length)∧(a.length=b.length)∧(∀ j,j < k→nth a j=nth b j)) ?_ ?_
 ·
  refine ⟨_,0,rfl,rfl,rfl,(Eq.trans (@rfl V (iV (0:Int))) rfl),?_,?_,?_⟩
  · omega
  · omega
  · intro j hj; omega
 intro mm T H ⟨k,hmm,t0,t1,t5,hk,hl,hc⟩ Q3 p13 p23 p33
 unfold b98_0
 refine W_seq_seq (W_r (R_mv t5 (R_mv t0 (R_len rfl (R_lss rfl rfl (R_e ?_))))))
 refine W_seq_if rfl (fun c4=>?_) fun c4=>?_
 ·
  refine W_seq_skip (W_seq_blockg fun Q5 n5 x5 y5 z5=>(W_r (R_mv t0 (R_mv t5 (R_idx (i:=k) (@rfl V (ints a)) (@rfl V (iV ((k:Nat):Int))) (by omega) rfl (R_load_pp rfl rfl (R_mv t1 ?_)))))))
  refine R_mv t5 (R_idx (i:=k) (@rfl V (ints b)) (@rfl V (iV ((k:Nat):Int))) (by omega) rfl (R_load_pp rfl rfl (R_neq rfl rfl (R_e ?_))))
  refine W_if rfl (fun c6=>?_) fun c6=>?_
  ·
   refine W_r (R_mv rfl (R_e (W_ret (y5 _ _ (p23 _ _ (y2 _ _ ?_))))))
   refine Ret_1 (@rfl V (V.bool false)) (fz_bool ?_)
   · exact (decide_eq_false (fun e=>by subst e; omega)).symm
  refine W_skip (n5 _ _ (.done (W_t (R_mv t5 (R_addN rfl (@rfl V (iV ((1:Nat):Int))) (by omega) (R_mv rfl (R_e ?_)))))))
  refine p13 _ _ _ ?_ ⟨(k+1),rfl,t0,t1,(Eq.trans (@rfl V (iV ((k+1:Nat):Int))) (by rfl)),?_,?_,?_⟩
  · omega
  · omega
  · omega
  · intro j hj
    by_cases e:j=k
    · subst e; omega
    · exact hc j (by omega)
 refine W_seq_exit (p33 _ _ _ (x2 _ _ (.done (W_r (R_mv rfl (R_e (W_ret ?_)))))))
 refine Ret_1 (@rfl V (V.bool true)) (fz_bool ?_)
 · exact (decide_eq_true (nth_ext hl fun j hj=>hc j (by omega))).symm
theorem expl_pure (m:M) (o:Ob) (hm:mval m=0) (ho:oval o=0) (hi:o.i=m.i):PureC Tryz.prog 40 [(V.agg [(iV (m.i)),(iV (m.s)),(intss m.nx),(intss m.ot)]),(V.agg [(iV (o.i)),(V.sl (List.map cT (o.tr)))])] (V.bool (expB m o)):=by
 refine pW Tryz.func40 s40_ok fun hB=>?_
 unfold s40
 dsimp only
 have ok:=oval_ok ho
 have hq:=mval_ok hm
 refine W_r (R_box (i:=2) (n:=0) (m:=4) (cs:=[(iV (m.i)),(iV (m.s)),(intss m.nx),(intss m.ot)]) rfl (congrArg Blk.ver rfl) rfl rfl rfl (R_box (i:=3) (n:=0) (m:=2) (cs:=[(iV (o.i)),(V.sl (List.map cT (o.tr)))]) rfl (congrArg Blk.ver rfl) rfl rfl rfl (R_mv rfl (R_e (W_seq_seq (W_r (R_mv rfl ?_)))))))
 refine R_e (W_seq_blockg fun Q1 n1 x1 y1 z1=>?_)
 refine W_loop (fun mm T H=> ∃ (k:Nat),mm=o.tr.length - k∧T 2=(V.mp 2 1 0 0)∧T 3=(V.mp 3 1 0 0)∧T 5=(iV ((k:Nat):Int))∧H 2=(bk 1 46 4 [[(iV (m.i)),(iV (m.s)),(intss m.nx),(intss m.ot)]])∧H 3=(bk 1 29 2 [[(iV (o.i)),(V.sl (List.map cT (o.tr)))]])∧(k≤o.tr.length)∧(fe (expE m o) 0 o.tr.length=fe (expE m o) k (o.tr.length - k))) ?_ ?_
 ·
  refine ⟨_,0,rfl,rfl,rfl,(Eq.trans (@rfl V (iV (0:Int))) rfl),rfl,rfl,?_,?_⟩
  · omega
  · rfl
 intro mm T H ⟨k,hmm,t2,t3,t5,h2,h3,hk,hc⟩ Q2 p12 p22 p32
 unfold b40_0
 refine W_seq_seq (W_r (R_mv t5 (R_fk t3 h3 (R_lk rfl h3 rfl rfl (R_len rfl (R_lss rfl rfl (R_e ?_)))))))
 refine W_seq_if rfl (fun c3=>?_) fun c3=>?_
 ·
  have r1:=ok.mem (nth_mem (show k < o.tr.length by omega))
  refine W_seq_skip (W_seq_blockg fun Q4 n4 x4 y4 z4=>(W_r (R_lk t2 h2 rfl rfl (R_fk t2 h2 (R_lk rfl h2 rfl rfl (R_fk t3 h3 (R_lk rfl h3 rfl rfl ?_)))))))
  refine R_mv t5 (R_idx (i:=k) (@rfl V (V.sl (List.map cT (o.tr)))) (@rfl V (iV ((k:Nat):Int))) (by omega) rfl (R_fld_pp (cs':=[(ints ((nth (o.tr) (k)).ni)),(ints ((nth (o.tr) (k)).no))]) rfl rfl (R_load_pp rfl rfl (R_callk (outs_pure m ((m.s)) ((nth (o.tr) (k)).ni) hm ⟨by omega,by omega⟩ r1.1.lel (by rw [← hi]; exact r1.1.sym)) rfl (R_mv rfl (R_ext rfl rfl (R_ext rfl rfl ?_)))))))
  refine R_mv rfl (R_mv rfl (R_e (W_r (R_mv rfl (R_fk t3 h3 (R_lk rfl h3 rfl rfl (R_mv t5 ?_)))))))
  refine R_idx (i:=k) (@rfl V (V.sl (List.map cT (o.tr)))) (@rfl V (iV ((k:Nat):Int))) (by omega) rfl (R_fld_pp (cs':=[(ints ((nth (o.tr) (k)).no))]) rfl rfl (R_load_pp rfl rfl (R_callk (ints_pure (outs m ((m.s)) ((nth (o.tr) (k)).ni)) ((nth (o.tr) (k)).no)) rfl (R_not rfl (R_e ?_)))))
  refine W_if rfl (fun c5=>?_) fun c5=>?_
  ·
   have d1:expE m o k≠0:=by unfold expE; rw [if_neg c5]; decide
   refine W_r (R_mv rfl (R_e (W_ret (y4 _ _ (p22 _ _ (y1 _ _ ?_))))))
   refine Ret_1 (@rfl V (V.bool false)) (fz_bool ?_)
   · unfold expB; exact (decide_eq_false (by rw [hc,fe_hit (e:=expE m o) d1 (by omega)]; exact d1)).symm
  have d1:expE m o k=0:=by unfold expE; rw [if_pos (Decidable.not_not.1 c5)]
  refine W_skip (n4 _ _ (.done (W_t (R_mv t5 (R_addN rfl (@rfl V (iV ((1:Nat):Int))) (by omega) (R_mv rfl (R_e ?_)))))))
  refine p12 _ _ _ ?_ ⟨(k+1),rfl,t2,t3,(Eq.trans (@rfl V (iV ((k+1:Nat):Int))) (by rfl)),h2,h3,?_,?_⟩
  · omega
  · omega
  · rw [hc,fe_skip (e:=expE m o) d1 (by omega)]
 refine W_seq_exit (p32 _ _ _ (x1 _ _ (.done (W_r (R_mv rfl (R_e (W_ret ?_)))))))
 refine Ret_1 (@rfl V (V.bool true)) (fz_bool ?_)
 · unfold expB; exact (decide_eq_true (by rw [hc,fe_end (by omega)])).symm
theorem agree_pure (o:Ob) (m:M) (hm:mval m=0) (ho:oval o=0):PureC Tryz.prog 27 [(V.agg [(iV (o.i)),(V.sl (List.map cT (o.tr)))]),(V.agg [(iV (m.i)),(iV (m.s)),(intss m.nx),(intss m.ot)])] (V.bool (agB o m)):=by
 refine pW Tryz.func27 s27_ok fun hB=>?_
 unfold s27
 dsimp only
 refine W_r (R_box (i:=2) (n:=0) (m:=2) (cs:=[(iV (o.i)),(V.sl (List.map cT (o.tr)))]) rfl (congrArg Blk.ver rfl) rfl rfl rfl (R_box (i:=3) (n:=0) (m:=4) (cs:=[(iV (m.i)),(iV (m.s)),(intss m.nx),(intss m.ot)]) rfl (congrArg Blk.ver rfl) rfl rfl rfl (R_mv rfl (R_e (W_r (R_fk rfl rfl (R_lk rfl rfl rfl rfl ?_)))))))
 refine R_fk rfl rfl (R_lk rfl rfl rfl rfl (R_eql rfl rfl (R_mv rfl ?_)))
 refine Ops_seg 4 (fun T H=>T 14=(V.bool ((decide ((o.i)=(m.i))&&(expB m o))))∧H 2=(bk 1 29 2 [[(iV (o.i)),(V.sl (List.map cT (o.tr)))]])∧H 3=(bk 1 46 4 [[(iV (m.i)),(iV (m.s)),(intss m.nx),(intss m.ot)]])∧True) ?_ ?_
 ·
  by_cases g1:(o.i)=(m.i)
  ·
   refine G_yes (edT g1 rfl) (R_lk rfl rfl rfl rfl (G_yes (edT g1 rfl) (R_lk rfl rfl rfl rfl (G_yes (edT g1 rfl) (R_callk (expl_pure m o hm ho (by assumption)) rfl (R_pickT (edT g1 rfl) rfl ?_))))))
   exact ⟨(dbandT g1),rfl,rfl,trivial⟩
  ·
   refine G_n (edF g1 rfl) (G_n (edF g1 rfl) (G_n (edF g1 rfl) (R_pickF (edF g1 rfl) rfl ?_)))
   exact ⟨(dbandF g1),rfl,rfl,trivial⟩
 intro T H ⟨t14,h2,h3,_⟩
 refine R_mv t14 (R_e (W_ret ?_))
 refine Ret_1 (@rfl V (V.bool ((decide ((o.i)=(m.i))&&(expB m o))))) (fz_bool ?_)
 · rfl
def r28_1:List SO:=[
 qF 8 0 1,
 ql 9 8,
 qC 10 .lss 9 1,
 qM 11 10,
 ⟨some (11,false),some 12,.fld 0 (.t 1)⟩,
 ⟨some (11,false),some 13,.load false 1 (.t 12)⟩,
 ⟨some (11,false),some 14,.bin .gtr (.t 13) (.c (.int .i64 64))⟩,
 sO 15 (.pick (.t 11) (.c (.bool true)) (.t 14))]
def r28_9:List SO:=[
 qF 30 1 1,
 qF 31 0 30,
 ql 32 31,
 qM 33 4,
 qA 34 5 32 33,
 qF 35 1 34,
 ql 36 35,
 qF 37 0 1,
 ql 38 37,
 sO 39 (.call false 80 [.t 36,.t 38]),
 qM 5 39]
def r28_12:List SO:=[
 qF 43 1 1,
 qF 44 0 43,
 ql 45 44,
 qM 46 4,
 qA 47 5 45 46,
 qF 48 2 47,
 ql 49 48,
 qF 50 0 1,
 ql 51 50,
 sO 52 (.call false 80 [.t 49,.t 51]),
 qM 6 52]
def b28_0:SC:=.seq (.seq (.reg [qM 22 4,qF 23 1 1,qF 24 0 23,ql 25 24,qN 26 25,qP 27 .lss 22 26]) (.cond (.t 27) (.skip) (.exit 0))) (.seq (.block 1 (.seq (.seq (.reg r28_9) (.seq (.reg [qM 40 5,qC 41 .neq 40 0]) (.cond (.t 41) (.seq (.reg [qM 42 5,qM 2 42]) (.ret)) (.skip)))) (.seq (.reg r28_12) (.seq (.reg [qM 53 6,qC 54 .neq 53 0]) (.cond (.t 54) (.seq (.reg [qM 55 6,qM 2 55]) (.ret)) (.skip)))))) (.reg [qM 28 4,qC 29 .add 28 1,qM 4 29]))
def s28:SF:=⟨65,[.tmp 2],.seq (.reg [sO 1 (.box 26 2 (.t 0)),qI 2 0]) (.seq (.seq (.reg r28_1) (.cond (.t 15) (.seq (.reg [qI 2 2]) (.ret)) (.skip))) (.seq (.seq (.reg [qF 16 1 1,qL 17 1 16,sO 18 (.call false 77 [.t 17]),qM 3 18]) (.seq (.reg [qM 19 3,qC 20 .neq 19 0]) (.cond (.t 20) (.seq (.reg [qM 21 3,qM 2 21]) (.ret)) (.skip)))) (.seq (.seq (.reg [qI 4 0]) (.block 0 (.loop b28_0))) (.seq (.reg [qF 56 1 1,qL 57 1 56,sO 58 (.call false 54 [.t 57]),qM 7 58]) (.seq (.seq (.reg [qM 59 7,sO 60 (.call false 81 [.t 59,.c (.nilsl)]),sO 61 (.un .not (.t 60))]) (.cond (.t 61) (.seq (.reg [qI 2 1]) (.ret)) (.skip))) (.seq (.seq (.reg [qM 62 7,qN 63 62,qC 64 .gtr 63 128]) (.cond (.t 64) (.seq (.reg [qI 2 11]) (.ret)) (.skip))) (.seq (.reg [qI 2 0]) (.ret))))))))⟩
theorem s28_ok:slimF Tryz.prog ⟨[107,108,109,116,120,126,127,167,169,170,171,172,194,196,198,209,222,226],[]⟩ Tryz.f28=some s28:=by kernel_rfl
def r54_6:List SO:=[
 qM 18 3,
 qF 19 0 1,
 ql 20 19,
 qM 21 4,
 qA 22 5 20 21,
 qF 23 1 22,
 ql 24 23,
 sO 25 (.bslice 54 1 false [.nilsl] 1 [(0,.t 24)]),
 sO 26 (.call false 64 [.t 25]),
 sO 27 (.bslice 54 1 false [.nilsl] 1 [(0,.t 26)]),
 sO 28 (.append 54 1 24 (.t 18) (.t 27)),
 qM 3 28]
def b54_0:SC:=.seq (.seq (.reg [qM 5 4,qF 6 0 1,ql 7 6,qN 8 7,qP 9 .lss 5 8]) (.cond (.t 9) (.skip) (.exit 0))) (.seq (.block 1 (.seq (.reg [qF 12 0 1,ql 13 12,qM 14 4,qA 15 5 13 14,qF 16 0 15,ql 17 16]) (.cond (.t 17) (.reg r54_6) (.skip)))) (.reg [qM 10 4,qC 11 .add 10 1,qM 4 11]))
def s54:SF:=⟨30,[.tmp 2],.seq (.reg [sO 1 (.box 24 1 (.t 0)),sO 2 (.mv (.c (.nilsl)))]) (.seq (.reg [sO 3 (.lazy 54 1)]) (.seq (.seq (.reg [qI 4 0]) (.block 0 (.loop b54_0))) (.seq (.reg [qM 29 3,qM 2 29]) (.ret))))⟩
theorem s54_ok:slimF Tryz.prog ⟨[107,108,109,116,120,126,127,167,169,170,171,172,194,196,198,209,222,226],[3]⟩ Tryz.f54=some s54:=by kernel_rfl
def r64_5:List SO:=[
 qM 11 3,
 qM 12 0,
 qM 13 4,
 qA 14 1 12 13,
 ql 15 14,
 sO 16 (.append 3 1 8 (.t 11) (.t 15)),
 qM 3 16]
def b64_0:SC:=.seq (.seq (.reg [qM 5 4,qM 6 0,qN 7 6,qP 8 .lss 5 7]) (.cond (.t 8) (.skip) (.exit 0))) (.seq (.block 1 (.reg r64_5)) (.reg [qM 9 4,qC 10 .add 9 1,qM 4 10]))
def s64:SF:=⟨18,[.tmp 2],.seq (.reg [sO 2 (.mv (.c (.nilsl)))]) (.seq (.reg [sO 3 (.lazy 3 1)]) (.seq (.seq (.reg [qI 4 0]) (.block 0 (.loop b64_0))) (.seq (.reg [qM 17 3,qM 2 17]) (.ret))))⟩
theorem s64_ok:slimF Tryz.prog ⟨[107,108,109,116,120,126,127,167,169,170,171,172,194,196,198,209,222,226],[3]⟩ Tryz.f64=some s64:=by kernel_rfl
theorem join_pure (l:List (List Int)) (hs:(cat l).length≤17592186044416):PureC Tryz.prog 64 [(intss l)] (ints (cat l)):=by
 refine pW Tryz.func64 s64_ok fun hB=>?_
 unfold s64
 dsimp only
 refine W_r (R_mv rfl (R_e (W_r (R_lazy (i:=3) (n:=0) rfl (congrArg Blk.ver rfl) (R_e (W_seq_seq (W_r ?_)))))))
 refine R_mv rfl (R_e (W_seq_blockg fun Q1 n1 x1 y1 z1=>?_))
 refine W_loop (fun mm T H=> ∃ (k:Nat),mm=l.length - k∧T 0=(intss l)∧T 3=(V.ms 3 (1+k) 0 ((cat (l.take k)).length))∧T 4=(iV ((k:Nat):Int))∧H 3=(bz (1+k) 3 1 (List.map cI (cat (l.take k))))∧(k≤l.length)) ?_ ?_
 ·
  refine ⟨_,0,rfl,rfl,(Eq.trans (@rfl V (V.ms 3 1 0 (0))) (by rfl)),(Eq.trans (@rfl V (iV (0:Int))) rfl),(Eq.trans (@rfl Blk (bz 1 3 1 [])) (by rfl)),?_⟩
  · omega
 intro mm T H ⟨k,hmm,t0,t3,t4,h3,hk⟩ Q2 p12 p22 p32
 unfold b64_0
 refine W_seq_seq (W_r (R_mv t4 (R_mv t0 (R_len rfl (R_lss rfl rfl (R_e ?_))))))
 refine W_seq_if rfl (fun c3=>?_) fun c3=>?_
 ·
  have hq:=cat_take_le (l:=l) (k:=k) (by omega)
  refine W_seq_skip (W_seq_blockg fun Q4 n4 x4 y4 z4=>(W_t (R_mv t3 (R_mv t0 (R_mv t4 (R_idx (i:=k) (@rfl V (intss l)) (@rfl V (iV ((k:Nat):Int))) (by omega) rfl (R_load_pp rfl rfl ?_)))))))
  refine R_appendS (l:=(cat (l.take k))) (m:=((nth (l) (k)))) (f:=cI) (@rfl V (V.ms 3 (1+k) 0 ((cat (l.take k)).length))) h3 (by rfl) (@rfl V (ints ((nth (l) (k))))) (fun _=>rfl) (fun _=>rfl) (by omega) (by omega) (R_mv rfl (R_e (n4 _ _ (.done (W_t (R_mv t4 (R_addN rfl (@rfl V (iV ((1:Nat):Int))) (by omega) ?_)))))))
  refine R_mv rfl (R_e ?_)
  refine p12 _ _ _ ?_ ⟨(k+1),rfl,t0,(Eq.trans (@rfl V (V.ms 3 (1+k+1) 0 (((cat (l.take k)).length)+((nth (l) (k))).length))) (by (rw [cat_take (by omega),List.length_append]; rfl))),(Eq.trans (@rfl V (iV ((k+1:Nat):Int))) (by rfl)),(Eq.trans (@rfl Blk (bz (1+k+1) 3 1 (List.map cI (cat (l.take k)++((nth (l) (k))))))) (by (rw [cat_take (by omega)]; rfl))),?_⟩
  · omega
  · omega
 refine W_seq_exit (p32 _ _ _ (x1 _ _ (.done (W_r (R_mv t3 (R_mv rfl (R_e ?_)))))))
 refine W_ret ?_
 refine Ret_1 (@rfl V (V.ms 3 (1+k) 0 ((cat (l.take k)).length))) (fz_ms h3 (by simp) (l:=(cat (l.take k))) rfl (by rfl) (fun _=>by simp) ?_)
 · (have e:k=l.length:=(by omega); subst e; rw [List.take_length])
theorem raccess_pure (t:Dt) (hb:Bd t):PureC Tryz.prog 54 [(V.agg [(V.sl (List.map cN (t.nd)))])] (intss (acL t.nd)):=by
 refine pW Tryz.func54 s54_ok fun hB=>?_
 unfold s54
 dsimp only
 have hbn:=hb.n
 refine W_r (R_box (i:=1) (n:=0) (m:=1) (cs:=[(V.sl (List.map cN (t.nd)))]) rfl (congrArg Blk.ver rfl) rfl rfl rfl (R_mv rfl (R_e (W_r (R_lazy (i:=3) (n:=0) rfl (congrArg Blk.ver rfl) (R_e (W_seq_seq ?_)))))))
 refine W_r (R_mv rfl (R_e (W_seq_blockg fun Q1 n1 x1 y1 z1=>?_)))
 refine W_loop (fun mm T H=> ∃ (k:Nat) (v:Nat),mm=t.nd.length - k∧T 1=(V.mp 1 1 0 0)∧T 3=(V.ms 3 v 0 ((acL (t.nd.take k)).length))∧T 4=(iV ((k:Nat):Int))∧H 1=(bk 1 24 1 [[(V.sl (List.map cN (t.nd)))]])∧H 3=(bz v 54 1 (List.map cL (acL (t.nd.take k))))∧(k≤t.nd.length)) ?_ ?_
 ·
  refine ⟨_,0,1,rfl,rfl,(Eq.trans (@rfl V (V.ms 3 1 0 (0))) (by rfl)),(Eq.trans (@rfl V (iV (0:Int))) rfl),rfl,(Eq.trans (@rfl Blk (bz 1 54 1 [])) (by rfl)),?_⟩
  · omega
 intro mm T H ⟨k,v,hmm,t1,t3,t4,h1,h3,hk⟩ Q2 p12 p22 p32
 unfold b54_0
 have q1:=acL_len (t.nd.take k)
 have q2:(t.nd.take k).length≤k:=by simp; omega
 refine W_seq_seq (W_r (R_mv t4 (R_fk t1 h1 (R_lk rfl h1 rfl rfl (R_len rfl (R_lss rfl rfl (R_e ?_)))))))
 refine W_seq_if rfl (fun c3=>?_) fun c3=>?_
 ·
  have r1:=hb.ac k (by omega)
  refine W_seq_skip (W_seq_blockg fun Q4 n4 x4 y4 z4=>(W_r (R_fk t1 h1 (R_lk rfl h1 rfl rfl (R_mv t4 (R_idx (i:=k) (@rfl V (V.sl (List.map cN (t.nd)))) (@rfl V (iV ((k:Nat):Int))) (by omega) rfl (R_fld_pp (cs':=(cN (((nth (t.nd) (k)))))) rfl rfl ?_)))))))
  refine R_load_pp rfl rfl (R_e ?_)
  refine W_ifb rfl (fun c5=>?_) (fun c5=>?_)
  ·
   have d1:(nth t.nd k).lf=true:=c5
   refine W_t (R_mv t3 (R_fk t1 h1 (R_lk rfl h1 rfl rfl (R_mv t4 (R_idx (i:=k) (@rfl V (V.sl (List.map cN (t.nd)))) (@rfl V (iV ((k:Nat):Int))) (by omega) rfl (R_fld_pp (cs':=(List.drop 1 (cN (((nth (t.nd) (k))))))) rfl rfl (R_load_pp rfl rfl ?_)))))))
   refine R_bslice rfl rfl (R_callk (join_pure ([((nth (t.nd) (k))).ac]) (by simp [cat]; omega)) rfl (R_bslice rfl rfl (R_append1 (l:=(acL (t.nd.take k))) (f:=cL) (x:=(cat ([((nth (t.nd) (k))).ac]))) (@rfl V (V.ms 3 v 0 ((acL (t.nd.take k)).length))) h3 (by rfl) (@rfl V (V.sl [[(ints (cat ([((nth (t.nd) (k))).ac])))]])) rfl rfl (by omega) (by omega) (R_mv rfl (R_e (n4 _ _ (.done ?_)))))))
   refine W_t (R_mv t4 (R_addN rfl (@rfl V (iV ((1:Nat):Int))) (by omega) (R_mv rfl (R_e ?_))))
   refine p12 _ _ _ ?_ ⟨(k+1),(v+1),rfl,t1,(Eq.trans (@rfl V (V.ms 3 (v+1) 0 (((acL (t.nd.take k)).length)+1))) (by (rw [acL_take (by omega),if_pos (by assumption),List.length_append]; rfl))),(Eq.trans (@rfl V (iV ((k+1:Nat):Int))) (by rfl)),h1,(Eq.trans (@rfl Blk (bz (v+1) 54 1 (List.map cL (acL (t.nd.take k)++[cat ([((nth (t.nd) (k))).ac])])))) (by (rw [acL_take (by omega),if_pos (by assumption)]; simp [cat]; done))),?_⟩
   · omega
   · omega
  have d1: ¬(nth t.nd k).lf=true:=by simpa using c5
  refine W_skip (n4 _ _ (.done (W_t (R_mv t4 (R_addN rfl (@rfl V (iV ((1:Nat):Int))) (by omega) (R_mv rfl (R_e ?_)))))))
  refine p12 _ _ _ ?_ ⟨(k+1),v,rfl,t1,(Eq.trans t3 (by (rw [acL_take (by omega),if_neg (by assumption),List.append_nil]; done))),(Eq.trans (@rfl V (iV ((k+1:Nat):Int))) (by rfl)),h1,(Eq.trans h3 (by (rw [acL_take (by omega),if_neg (by assumption),List.append_nil]; done))),?_⟩
  · omega
  · omega
 refine W_seq_exit (p32 _ _ _ (x1 _ _ (.done (W_r (R_mv t3 (R_mv rfl (R_e ?_)))))))
 refine W_ret ?_
 refine Ret_1 (@rfl V (V.ms 3 v 0 ((acL (t.nd.take k)).length))) (fz_ms h3 (by simp) (l:=(acL (t.nd.take k))) rfl (by rfl) (fun _=>by simp) ?_)
 · rw [show k=t.nd.length by omega,List.take_length]
def r77_8:List SO:=[
 qL 21 1 1,
 qF 22 0 1,
 ql 23 22,
 qM 24 3,
 qA 25 5 23 24,
 qL 26 5 25,
 sO 27 (.call false 130 [.t 21,.t 26]),
 qM 4 27]
def b77_0:SC:=.seq (.seq (.reg [qM 14 3,qF 15 0 1,ql 16 15,qN 17 16,qP 18 .lss 14 17]) (.cond (.t 18) (.skip) (.exit 0))) (.seq (.block 1 (.seq (.reg r77_8) (.seq (.reg [qM 28 4,qC 29 .neq 28 0]) (.cond (.t 29) (.seq (.reg [qM 30 4,qM 2 30]) (.ret)) (.skip))))) (.reg [qM 19 3,qC 20 .add 19 1,qM 3 20]))
def s77:SF:=⟨42,[.tmp 2],.seq (.reg [sO 1 (.box 24 1 (.t 0)),qI 2 0]) (.seq (.seq (.reg [qF 6 0 1,ql 7 6,qN 8 7,qC 9 .eql 8 0]) (.cond (.t 9) (.seq (.reg [qI 2 19]) (.ret)) (.skip))) (.seq (.seq (.reg [qF 10 0 1,ql 11 10,qN 12 11,qC 13 .gtr 12 4096]) (.cond (.t 13) (.seq (.reg [qI 2 11]) (.ret)) (.skip))) (.seq (.seq (.reg [qI 3 0]) (.block 0 (.loop b77_0))) (.seq (.seq (.reg [qL 31 1 1,sO 32 (.call false 131 [.t 31]),sO 33 (.un .not (.t 32))]) (.cond (.t 33) (.seq (.reg [qI 2 1]) (.ret)) (.skip))) (.seq (.reg [qL 34 1 1,sO 35 (.call false 54 [.t 34]),qM 5 35]) (.seq (.seq (.reg [qM 36 5,sO 37 (.call false 63 [.t 36]),qN 38 37,qM 39 5,qN 40 39,qP 41 .neq 38 40]) (.cond (.t 41) (.seq (.reg [qI 2 7]) (.ret)) (.skip))) (.seq (.reg [qI 2 0]) (.ret))))))))⟩
theorem s77_ok:slimF Tryz.prog ⟨[107,108,109,116,120,126,127,167,169,170,171,172,194,196,198,209,222,226],[]⟩ Tryz.f77=some s77:=by kernel_rfl
def r63_5:List SO:=[
 qM 11 3,
 qM 12 0,
 qM 13 4,
 qA 14 1 12 13,
 ql 15 14,
 sO 16 (.call true 120 [.t 11,.t 15]),
 qM 3 16]
def b63_0:SC:=.seq (.seq (.reg [qM 5 4,qM 6 0,qN 7 6,qP 8 .lss 5 7]) (.cond (.t 8) (.skip) (.exit 0))) (.seq (.block 1 (.reg r63_5)) (.reg [qM 9 4,qC 10 .add 9 1,qM 4 10]))
def s63:SF:=⟨18,[.tmp 2],.seq (.reg [sO 2 (.mv (.c (.nilsl)))]) (.seq (.reg [sO 3 (.lazy 54 1)]) (.seq (.seq (.reg [qI 4 0]) (.block 0 (.loop b63_0))) (.seq (.reg [qM 17 3,qM 2 17]) (.ret))))⟩
theorem s63_ok:slimF Tryz.prog ⟨[107,108,109,116,120,126,127,167,169,170,171,172,194,196,198,209,222,226],[3]⟩ Tryz.f63=some s63:=by kernel_rfl
def r120_2:List SO:=[
 qM 10 5,
 qM 11 0,
 qN 12 11,
 qP 13 .lss 10 12,
 qM 14 13,
 ⟨some (14,true),some 15,.mv (.t 0)⟩,
 ⟨some (14,true),some 16,.mv (.t 5)⟩,
 ⟨some (14,true),some 17,.idx 1 (.t 15) (.t 16)⟩,
 ⟨some (14,true),some 18,.load false 1 (.t 17)⟩,
 ⟨some (14,true),some 19,.mv (.t 1)⟩,
 ⟨some (14,true),some 20,.call false 58 [.t 18,.t 19]⟩,
 sO 21 (.pick (.t 14) (.t 20) (.c (.bool false)))]
def r120_8:List SO:=[
 qM 34 0,
 qM 35 6,
 qM 36 0,
 qM 37 6,
 qC 38 .sub 37 1,
 qA 39 1 36 38,
 ql 40 39,
 qA 41 1 34 35,
 sN (.store 1 (.t 41) (.t 40))]
def b120_0:SC:=.seq (.seq (.reg [qM 29 6,qM 30 5,qP 31 .gtr 29 30]) (.cond (.t 31) (.skip) (.exit 0))) (.seq (.block 1 (.reg r120_8)) (.reg [qM 32 6,qC 33 .sub 32 1,qM 6 33]))
def r120_9:List SO:=[
 qM 42 0,
 qM 43 5,
 sO 44 (.lazy 3 1),
 qM 45 1,
 sO 46 (.append 3 1 8 (.t 44) (.t 45)),
 qA 47 1 42 43,
 sN (.store 1 (.t 47) (.t 46))]
def s120:SF:=⟨49,[.tmp 4],.seq (.reg [sO 4 (.mv (.c (.nilsl)))]) (.seq (.reg [qM 7 0,qM 8 1,sO 9 (.call false 168 [.t 7,.t 8]),qM 5 9]) (.seq (.seq (.reg r120_2) (.cond (.t 21) (.seq (.reg [qM 22 0,qM 4 22]) (.ret)) (.skip))) (.seq (.reg [qM 23 0,sO 24 (.bslice 54 1 false [.nilsl] 1 [(0,.c (.nilsl))]),sO 25 (.append 54 1 24 (.t 23) (.t 24)),qM 0 25]) (.seq (.seq (.reg [qM 26 0,qN 27 26,qC 28 .sub 27 1,qM 6 28]) (.block 0 (.loop b120_0))) (.seq (.reg r120_9) (.seq (.reg [qM 48 0,qM 4 48]) (.ret)))))))⟩
theorem s120_ok:slimF Tryz.prog ⟨[107,108,109,116,120,126,127,167,169,170,171,172,194,196,198,209,222,226],[44]⟩ Tryz.f120=some s120:=by kernel_rfl
def r168_4:List SO:=[
 qM 17 0,
 qM 18 7,
 qA 19 1 17 18,
 ql 20 19,
 qM 21 1,
 sO 22 (.call false 94 [.t 20,.t 21]),
 qC 23 .lss 22 0]
def b168_0:SC:=.seq (.seq (.reg [qM 10 5,qM 11 6,qP 12 .lss 10 11]) (.cond (.t 12) (.skip) (.exit 0))) (.block 1 (.seq (.reg [qM 13 5,qM 14 6,qP 15 .add 13 14,qC 16 .quo 15 2,qM 7 16]) (.seq (.reg r168_4) (.cond (.t 23) (.reg [qM 24 7,qC 25 .add 24 1,qM 5 25]) (.reg [qM 26 7,qM 6 26])))))
def s168:SF:=⟨28,[.tmp 4],.seq (.reg [qI 4 0]) (.seq (.reg [qM 8 0,qN 9 8,qI 5 0,qM 6 9]) (.seq (.block 0 (.loop b168_0)) (.seq (.reg [qM 27 5,qM 4 27]) (.ret))))⟩
theorem s168_ok:slimF Tryz.prog ⟨[107,108,109,116,120,126,127,167,169,170,171,172,194,196,198,209,222,226],[]⟩ Tryz.f168=some s168:=by kernel_rfl
theorem place_pure (l:List (List Int)) (w:List Int) (hs:SrtW l) (hl:l.length≤1073741824):PureC Tryz.prog 168 [(intss l),(ints w)] (iV ((plN l w:Nat):Int)):=by
 refine pW Tryz.func168 s168_ok fun hB=>?_
 unfold s168
 dsimp only
 have q0:=pl_le (w:=w) l
 refine W_r (R_mv rfl (R_e (W_r (R_mv rfl (R_len rfl (R_mv rfl (R_mv rfl ?_)))))))
 refine R_e (W_seq_blockg fun Q1 n1 x1 y1 z1=>?_)
 refine W_loop (fun mm T H=> ∃ (i:Nat) (j:Nat),mm=j - i∧T 0=(intss l)∧T 1=(ints w)∧T 5=(iV ((i:Nat):Int))∧T 6=(iV ((j:Nat):Int))∧(i≤plN l w)∧(plN l w≤j)∧(j≤l.length)) ?_ ?_
 ·
  refine ⟨_,0,l.length,rfl,rfl,rfl,(Eq.trans (@rfl V (iV (0:Int))) rfl),rfl,?_,?_,?_⟩
  · omega
  · omega
  · omega
 intro mm T H ⟨i,j,hmm,t0,t1,t5,t6,h1,h2,h3⟩ Q2 p12 p22 p32
 unfold b168_0
 refine W_seq_seq (W_r (R_mv t5 (R_mv t6 (R_lss rfl rfl (R_e ?_)))))
 refine W_seq_if rfl (fun c3=>?_) fun c3=>?_
 ·
  refine W_seq_skip (W_block fun Q4 n4 x4 y4 z4=>(W_r (R_mv t5 (R_mv t6 (R_addN rfl rfl (by omega) (R_quo2 (n:=(i+j)) rfl rfl (by omega) (R_mv rfl ?_)))))))
  refine R_e (W_r (R_mv t0 (R_mv rfl (R_idx (i:=((i+j) / 2)) (@rfl V (intss l)) (@rfl V (iV (((i+j) / 2:Nat):Int))) (by omega) rfl (R_load_pp rfl rfl (R_mv t1 (R_callk (rcompare_pure ((nth (l) ((i+j) / 2))) w) rfl ?_)))))))
  refine R_lss rfl rfl (R_e ?_)
  refine W_if rfl (fun c5=>?_) fun c5=>?_
  ·
   have d1:=(pl_iff hs (by omega)).1 c5
   refine W_t (R_mv rfl (R_addN rfl (@rfl V (iV ((1:Nat):Int))) (by omega) (R_mv rfl (R_e (n4 _ _ ?_)))))
   refine p12 _ _ _ ?_ ⟨(((i+j) / 2)+1),j,rfl,t0,t1,(Eq.trans (@rfl V (iV ((((i+j) / 2)+1:Nat):Int))) (by rfl)),t6,?_,?_,?_⟩
   · omega
   · omega
   · omega
   · omega
  have d1: ¬((i+j) / 2 < plN l w):=fun e=>c5 ((pl_iff hs (by omega)).2 e)
  refine W_t (R_mv rfl (R_mv rfl (R_e (n4 _ _ ?_))))
  refine p12 _ _ _ ?_ ⟨i,((i+j) / 2),rfl,t0,t1,t5,(Eq.trans (@rfl V (iV (((i+j) / 2:Nat):Int))) (by rfl)),?_,?_,?_⟩
  · omega
  · omega
  · omega
  · omega
 refine W_seq_exit (p32 _ _ _ (x1 _ _ (.done (W_r (R_mv t5 (R_mv rfl (R_e ?_)))))))
 refine W_ret ?_
 refine Ret_1 (@rfl V (iV ((i:Nat):Int))) (fz_int ?_)
 · have e:i=plN l w:=by omega
   rw [e]
theorem with_E (l:List (List Int)) (w:List Int) (v3 v44:Nat) (Hi:Heap) (h3:Hi 3=(bz v3 54 1 (List.map cL (l)))) (h544:(Hi 544).ver=v44) (hs:SrtW l) (hl:l.length≤100000) (hw:w.length≤1048576):CallOK Tryz.prog 120 [(V.ms 3 v3 0 (l.length)),(ints w)] Hi (V.ms 3 (v3+1) 0 ((wiW l w).length)) (upd (upd Hi 544 (⟨v44+2,false,false,0,0,[]⟩:Blk)) 3 (bz (v3+1) 54 1 (List.map cL (wiW l w)))):=by
 refine eW (k0:=500) Tryz.func120 s120_ok fun hB=>?_
 have q0:=pl_le (w:=w) l
 unfold s120
 dsimp only
 refine W_r (R_mv rfl (R_e (W_r (R_mv rfl (R_mv rfl (R_call (evcons (@rfl V (V.ms 3 v3 0 (l.length))) (evcons (@rfl V (ints w)) evnil)) (place_pure l w hs (by omega)) (mcons (fz_mst h3 (by simp) (take_map (l:=l) (by rfl)) (fun _=>by simp)) (mcons (fzv_canon 6 _ (by simp [-List.map_take,-List.map_drop,-List.map_append,-List.map_reverse])) rfl)) (by simp [-List.map_take,-List.map_drop,-List.map_append,-List.map_reverse]) (Or.inr rfl) (R_mv rfl ?_)))))))
 refine R_e (W_seq_seq (W_r (R_mv rfl (R_mv rfl (R_len_ms rfl h3 (by simp) (R_lss rfl rfl (R_mv rfl ?_)))))))
 refine Ops_seg 7 (fun T H=>T 0=(V.ms 3 v3 0 (l.length))∧T 1=(ints w)∧T 5=(iV ((plN l w:Nat):Int))∧T 21=(V.bool (decide ((((plN l w:Nat):Int) < ((l.length:Nat):Int))∧(((nth (l) (plN l w)))=w))))∧(∀ j,j∉[544,3]→H j=Hi j)∧H 3=(bz v3 54 1 (List.map cL (l)))∧(H 544).ver=v44∧True) ?_ ?_
 ·
  by_cases g1:((plN l w:Nat):Int) < ((l.length:Nat):Int)
  ·
   refine G_yes (edT g1 rfl) (R_mv rfl (G_yes (edT g1 rfl) (R_mv rfl (G_yes (edT g1 rfl) (R_idx_ms0 (i:=(plN l w)) (@rfl V (V.ms 3 v3 0 (l.length))) (@rfl V (iV ((plN l w:Nat):Int))) h3 (okB_map (by omega)) rfl (by omega) (G_yes (edT g1 rfl) (R_load_mp (v:=(ints ((nth (l) (plN l w))))) rfl h3 (ldB_map (by omega) (by rfl)) ?_)))))))
   refine G_yes (edT g1 rfl) (R_mv rfl (G_yes (edT g1 rfl) (R_callk (rsame1_pure ((nth (l) (plN l w))) w) rfl (R_pickT (edT g1 rfl) rfl ?_))))
   exact ⟨rfl,rfl,rfl,(dec_andT g1),(fun _ _=>rfl),h3,h544,trivial⟩
  ·
   refine G_n (edF g1 rfl) (G_n (edF g1 rfl) (G_n (edF g1 rfl) (G_n (edF g1 rfl) (G_n (edF g1 rfl) (G_n (edF g1 rfl) (R_pickF (edF g1 rfl) rfl ?_))))))
   exact ⟨rfl,rfl,rfl,(dec_andF g1),(fun _ _=>rfl),h3,h544,trivial⟩
 intro T H ⟨t0,t1,t5,t21,hF,h3,h544,_⟩
 refine R_e ?_
 refine W_seq_if t21 (fun c2=>?_) fun c2=>?_
 ·
  have d1:wiH l w:=by simpa [wiH] using c2
  have hwi:=wi_yes d1
  refine W_seq_seq (W_r (R_mv t0 (R_mv rfl (R_e (W_seq_ret (fork_ (R:=fun T H=>T 4=(V.ms 3 v3 0 (l.length))∧(∀ j,j∉[544,3]→H j=Hi j)∧H 3=(bz v3 54 1 (List.map cL (l)))∧(H 544).ver=v44∧True) ⟨(@rfl V (V.ms 3 v3 0 (l.length))),hF,h3,h544,trivial⟩ ?_))))))
  intro T H ⟨t4,hF,h3,h544,_⟩
  skip
  have fh:=FinX.fin (FinX.put (B:=(bz (v3+1) 54 1 (List.map cL (wiW l w)))) (FinX.putv (n:=v44) (B:=(⟨v44+2,false,false,0,0,[]⟩:Blk)) (FinX.start hF) h544 (by show _≤v44+2; omega) rfl) h3 (FinB.up (by omega) (by (rw [hwi]; done))))
  exact RetF_1 t4 fh (FinV.trans_eq (FinV.ms (n:=(v3+1)) fh (by simp [h3]) (by simp [h3]) rfl rfl) (by (rw [hwi]; done)))
 have d1: ¬wiH l w:=fun q=>by have q:=wi_ok.1 q; simp [q] at c2
 have hwi:=wi_no d1
 refine W_seq_skip ?_
 refine W_seq_g (fun T H=>T 0=(V.ms 3 (v3+1) 0 (l.length+1))∧T 1=(ints w)∧T 5=(iV ((plN l w:Nat):Int))∧(∀ j,j∉[544,3]→H j=Hi j)∧H 3=(bz (v3+1) 54 1 (List.map cL (l)++List.replicate (1) [V.nilsl]))∧(H 544).ver=v44∧True) ?_ ?_
 ·
  refine R_mv t0 (R_bslice rfl rfl (R_appendZ (l:=l) (f:=cL) (z:=[.nilsl]) (@rfl V (V.ms 3 v3 0 (l.length))) h3 (by rfl) (@rfl V (V.sl [[V.nilsl]])) rfl rfl (by omega) (by omega) (R_mv rfl ?_)))
  exact R_nil ⟨rfl,t1,t5,(upd_out hF (by decide)),rfl,h544,trivial⟩
 intro T H ⟨t0,t1,t5,hF,h3,h544,_⟩
 refine nil_cell (x:=[]) (f:=cL) (l:=l) h3 rfl (.done ?_)
 refine W_seq_seq (W_r (R_mv t0 (R_len_ms rfl (@rfl Blk (bz (v3+1) 54 1 (List.map cL (l++[[]])))) (by simp) (R_sub rfl rfl (by omega) (by omega) (R_mv rfl (R_e (W_seq_blockg fun Q3 n3 x3 y3 z3=>?_)))))))
 refine W_loop (fun mm T H=> ∃ (j:Nat),mm=j∧T 0=(V.ms 3 (v3+1) 0 (l.length+1))∧T 1=(ints w)∧T 5=(iV ((plN l w:Nat):Int))∧T 6=(iV ((j:Nat):Int))∧(∀ j,j∉[544,3]→H j=Hi j)∧H 3=(bz (v3+1) 54 1 (List.map cL (mvL l j)))∧(H 544).ver=v44∧(j≤l.length)∧(plN l w≤j)) ?_ ?_
 ·
  refine ⟨_,l.length,rfl,t0,t1,t5,(Eq.trans (@rfl V (iV (((l.length+1:Nat):Int) - (1:Int)))) (by (congr 1; omega))),(upd_out hF (by decide)),(Eq.trans (@rfl Blk (bz (v3+1) 54 1 (List.map cL (l++[[]])))) (by (rw [mv_top]; done))),((congrArg Blk.ver (upd_ne _ _ (by decide))).trans h544),?_,?_⟩
  · omega
  · omega
 intro mm T H ⟨j,hmm,t0,t1,t5,t6,hF,h3,h544,hj,hp⟩ Q4 p14 p24 p34
 unfold b120_0
 have q1:=mv_len hj
 refine W_seq_seq (W_r (R_mv t6 (R_mv t5 (R_gtr rfl rfl (R_e ?_)))))
 refine W_seq_if rfl (fun c5=>?_) fun c5=>?_
 ·
  refine W_seq_skip (W_seq_blockg fun Q6 n6 x6 y6 z6=>(W_t (R_mv t0 (R_mv t6 (R_mv t0 (R_mv t6 (R_sub rfl rfl (by omega) (by omega) ?_)))))))
  refine R_idxI_ms0 (i:=(((j:Nat):Int) - (1:Int))) (@rfl V (V.ms 3 (v3+1) 0 (l.length+1))) (@rfl V (iV (((j:Nat):Int) - (1:Int)))) h3 (okB_map (by omega)) rfl (by omega) (by omega) (R_load_mp (v:=(ints ((nth (mvL l j) (((((j:Nat):Int) - (1:Int))).toNat))))) rfl h3 (ldB_map (by omega) (by rfl)) (R_idx_ms0 (i:=j) (@rfl V (V.ms 3 (v3+1) 0 (l.length+1))) (@rfl V (iV ((j:Nat):Int))) h3 (okB_map (by omega)) rfl (by omega) (R_store (vs:=[(ints ((nth (mvL l j) (((((j:Nat):Int) - (1:Int))).toNat))))]) (B':=(bz (v3+1) 54 1 (List.map cL ((mvL l j).set j ((nth (mvL l j) (((((j:Nat):Int) - (1:Int))).toNat))))))) rfl rfl rfl h3 (stB_map (x:=((nth (mvL l j) (((((j:Nat):Int) - (1:Int))).toNat)))) (i:=j) (by omega) rfl rfl rfl rfl) (R_e (n6 _ _ (.done (W_t ?_)))))))
  refine R_mv t6 (R_sub rfl rfl (by omega) (by omega) (R_mv rfl (R_e ?_)))
  refine p14 _ _ _ ?_ ⟨(j - 1),rfl,t0,t1,t5,(Eq.trans (@rfl V (iV (((j:Nat):Int) - (1:Int)))) (by (congr 1; omega))),(upd_out hF (by decide)),(Eq.trans (@rfl Blk (bz (v3+1) 54 1 (List.map cL ((mvL l j).set j ((nth (mvL l j) (((((j:Nat):Int) - (1:Int))).toNat))))))) (by (rw [show (((j:Nat):Int) - (1:Int)).toNat=j - 1 by omega,mv_step (by omega) hj]; done))),h544,?_,?_⟩
  · omega
  · omega
  · omega
 refine W_seq_exit (p34 _ _ _ (x3 _ _ (.done ?_)))
 refine W_seq_g (fun T H=>T 0=(V.ms 3 (v3+1) 0 (l.length+1))∧(∀ j,j∉[544,3]→H j=Hi j)∧H 3=(bz (v3+1) 54 1 ((List.map cL (mvL l j)).set (plN l w) [(V.ms 544 (v44+2) 0 (0+(w).length))]))∧H 544=(bz (v44+2) 3 1 (List.map cI ([]++w)))∧True) ?_ ?_
 ·
  refine R_mv t0 (R_mv t5 (R_lazy (i:=544) (n:=v44) (by rfl) h544 (R_mv t1 (R_appendS (l:=([])) (m:=w) (f:=cI) (@rfl V (V.ms 544 (v44+1) 0 (0))) (show _=(bz (v44+1) 3 1 (List.map cI ([]))) from (@rfl Blk (bz (v44+1) 3 1 []))) (by rfl) (@rfl V (ints w)) (fun _=>rfl) (fun _=>rfl) (by omega) (by omega) (R_idx_ms0 (i:=(plN l w)) (@rfl V (V.ms 3 (v3+1) 0 (l.length+1))) (@rfl V (iV ((plN l w:Nat):Int))) h3 (okB_map (by omega)) rfl (by omega) (R_store (vs:=[(V.ms 544 (v44+2) 0 (0+(w).length))]) (B':=(bz (v3+1) 54 1 ((List.map cL (mvL l j)).set (plN l w) [(V.ms 544 (v44+2) 0 (0+(w).length))]))) rfl rfl rfl h3 (stB_setc (i:=(plN l w)) (by omega) rfl rfl rfl) ?_))))))
  exact R_nil ⟨t0,(upd_out (upd_out (upd_out hF (by decide)) (by decide)) (by decide)),rfl,rfl,trivial⟩
 intro T H ⟨t0,hF,h3,h544,_⟩
 refine frz_cellg (id:=544) (id2:=3) (rows:=(List.map cL (mvL l j))) (i:=(plN l w)) (off:=0) (r:=[(V.ms 544 (v44+2) 0 (0+(w).length))]) (m:=([]++w)) (g:=cI) (by decide) h544 h3 (by (simp; omega)) (by simp) rfl (.done ?_)
 refine fork_ (R:=fun T H=>T 0=(V.ms 3 (v3+1) 0 (l.length+1))∧(∀ j,j∉[544,3]→H j=Hi j)∧H 3=(bz (v3+1) 54 1 (List.map cL ((mvL l j).set (plN l w) ([]++w))))∧((H 544).ver=v44+2∧(H 544).live=false)∧True) ⟨(fzT_q t0 (fzq_other (by decide))),(upd_out (kill_out hF (by decide)) (by decide)),(Eq.trans (upd_same _ _ _) (by (rw [List.map_set]; rfl))),⟨(congrArg Blk.ver (upd_ne _ _ (by decide))).trans (kill_self (congrArg Blk.ver h544)).1,(congrArg Blk.live (upd_ne _ _ (by decide))).trans (kill_self (congrArg Blk.ver h544)).2⟩,trivial⟩ ?_
 intro T H ⟨t0,hF,h3,h544,_⟩
 refine W_r (R_mv t0 (R_mv rfl (R_e (W_ret (fork_ (R:=fun T H=>T 4=(V.ms 3 (v3+1) 0 (l.length+1))∧(∀ j,j∉[544,3]→H j=Hi j)∧H 3=(bz (v3+1) 54 1 (List.map cL ((mvL l j).set (plN l w) ([]++w))))∧((H 544).ver=v44+2∧(H 544).live=false)∧True) ⟨(@rfl V (V.ms 3 (v3+1) 0 (l.length+1))),hF,h3,h544,trivial⟩ ?_)))))
 intro T H ⟨t4,hF,h3,h544,_⟩
 skip
 have fh:=FinX.fin (FinX.put (B:=(bz (v3+1) 54 1 (List.map cL (wiW l w)))) (FinX.putv (n:=(v44+2)) (B:=(⟨v44+2,false,false,0,0,[]⟩:Blk)) (FinX.start hF) (h544).1 (by show _≤v44+2; omega) rfl) h3 (FinB.eq (by (rw [show j=plN l w by omega,mv_end q0,hwi]; rfl))))
 exact RetF_1 t4 fh (FinV.trans_eq (FinV.same fh _) (by (rw [hwi]; simp; omega)))
theorem rsorted_pure (l:List (List Int)) (hl:l.length≤10000) (hw: ∀ w∈l,w.length≤1048576):PureC Tryz.prog 63 [(intss l)] (intss (sdW l)):=by
 refine pW Tryz.func63 s63_ok fun hB=>?_
 unfold s63
 dsimp only
 refine W_r (R_mv rfl (R_e (W_r (R_lazy (i:=3) (n:=0) rfl (congrArg Blk.ver rfl) (R_e (W_seq_seq (W_r ?_)))))))
 refine R_mv rfl (R_e (W_seq_blockg fun Q1 n1 x1 y1 z1=>?_))
 refine W_loop (fun mm T H=> ∃ (k:Nat) (v:Nat) (v544:Nat),mm=l.length - k∧T 0=(intss l)∧T 3=(V.ms 3 v 0 ((sdW (l.take k)).length))∧T 4=(iV ((k:Nat):Int))∧H 3=(bz v 54 1 (List.map cL (sdW (l.take k))))∧(H 544).ver=v544∧(k≤l.length)) ?_ ?_
 ·
  refine ⟨_,0,1,0,rfl,rfl,(Eq.trans (@rfl V (V.ms 3 1 0 (0))) (by rfl)),(Eq.trans (@rfl V (iV (0:Int))) rfl),(Eq.trans (@rfl Blk (bz 1 54 1 [])) (by rfl)),(congrArg Blk.ver rfl),?_⟩
  · omega
 intro mm T H ⟨k,v,v544,hmm,t0,t3,t4,h3,h544,hk⟩ Q2 p12 p22 p32
 unfold b63_0
 have q1:=sdW_len (l.take k)
 have q2:(l.take k).length≤k:=by simp; omega
 refine W_seq_seq (W_r (R_mv t4 (R_mv t0 (R_len rfl (R_lss rfl rfl (R_e ?_))))))
 refine W_seq_if rfl (fun c3=>?_) fun c3=>?_
 ·
  refine W_seq_skip (W_seq_blockg fun Q4 n4 x4 y4 z4=>(W_t (R_mv t3 (R_mv t0 (R_mv t4 (R_idx (i:=k) (@rfl V (intss l)) (@rfl V (iV ((k:Nat):Int))) (by omega) rfl (R_load_pp rfl rfl ?_)))))))
  refine R_callE (evcons rfl (evcons rfl evnil)) (with_E (sdW (l.take k)) ((nth (l) (k))) v v544 _ h3 h544 (sdW_srt _) (by omega) (hw _ (nth_mem (by omega)))) (R_mv rfl (R_e (n4 _ _ (.done (W_t (R_mv t4 (R_addN rfl (@rfl V (iV ((1:Nat):Int))) (by omega) ?_)))))))
  refine R_mv rfl (R_e ?_)
  refine p12 _ _ _ ?_ ⟨(k+1),(v+1),(v544+2),rfl,t0,(Eq.trans (@rfl V (V.ms 3 (v+1) 0 ((wiW (sdW (l.take k)) ((nth (l) (k)))).length))) (by (rw [sdW_take (by omega)]; done))),(Eq.trans (@rfl V (iV ((k+1:Nat):Int))) (by rfl)),(Eq.trans (@rfl Blk (bz (v+1) 54 1 (List.map cL (wiW (sdW (l.take k)) ((nth (l) (k))))))) (by (rw [sdW_take (by omega)]; done))),(congrArg Blk.ver rfl),?_⟩
  · omega
  · omega
 refine W_seq_exit (p32 _ _ _ (x1 _ _ (.done (W_r (R_mv t3 (R_mv rfl (R_e ?_)))))))
 refine W_ret ?_
 refine Ret_1 (@rfl V (V.ms 3 v 0 ((sdW (l.take k)).length))) (fz_ms h3 (by simp) (l:=(sdW (l.take k))) rfl (by rfl) (fun _=>by simp) ?_)
 · rw [show k=l.length by omega,List.take_length]
def r130_2:List SO:=[
 qF 11 2 3,
 ql 12 11,
 qN 13 12,
 qC 14 .gtr 13 0,
 qM 15 14,
 ⟨some (15,false),some 16,.fld 3 (.t 3)⟩,
 ⟨some (15,false),some 17,.load false 1 (.t 16)⟩,
 ⟨some (15,false),some 18,.len (.t 17)⟩,
 ⟨some (15,false),some 19,.bin .gtr (.t 18) (.c (.int .i64 0))⟩,
 sO 20 (.pick (.t 15) (.c (.bool true)) (.t 19)),
 qM 21 20,
 ⟨some (21,false),some 22,.fld 4 (.t 3)⟩,
 ⟨some (21,false),some 23,.load false 1 (.t 22)⟩,
 ⟨some (21,false),some 24,.len (.t 23)⟩,
 ⟨some (21,false),some 25,.bin .gtr (.t 24) (.c (.int .i64 0))⟩,
 sO 26 (.pick (.t 21) (.c (.bool true)) (.t 25))]
def r130_10:List SO:=[
 qF 40 3 3,
 ql 41 40,
 qN 42 41,
 qF 43 4 3,
 ql 44 43,
 qN 45 44,
 qP 46 .neq 42 45]
def r130_15:List SO:=[
 qF 54 3 3,
 ql 55 54,
 qM 56 6,
 qA 57 1 55 56,
 ql 58 57,
 qF 59 2 3,
 ql 60 59,
 sO 61 (.call false 114 [.t 58,.t 60]),
 qM 7 61]
def r130_21:List SO:=[
 qF 70 3 3,
 ql 71 70,
 qM 72 8,
 qA 73 1 71 72,
 ql 74 73,
 qF 75 3 3,
 ql 76 75,
 qM 77 6,
 qA 78 1 76 77,
 ql 79 78,
 sO 80 (.call false 144 [.t 74,.t 79]),
 qC 81 .geq 80 0]
def b130_1:SC:=.seq (.seq (.reg [qM 65 8,qM 66 6,qP 67 .lss 65 66]) (.cond (.t 67) (.skip) (.exit 2))) (.seq (.block 3 (.seq (.reg r130_21) (.cond (.t 81) (.seq (.reg [qI 4 10]) (.ret)) (.skip)))) (.reg [qM 68 8,qC 69 .add 68 1,qM 8 69]))
def r130_23:List SO:=[
 qF 82 4 3,
 ql 83 82,
 qM 84 6,
 qA 85 1 83 84,
 ql 86 85,
 qC 87 .lss 86 0,
 qM 88 87,
 ⟨some (88,false),some 89,.fld 4 (.t 3)⟩,
 ⟨some (88,false),some 90,.load false 1 (.t 89)⟩,
 ⟨some (88,false),some 91,.mv (.t 6)⟩,
 ⟨some (88,false),some 92,.idx 1 (.t 90) (.t 91)⟩,
 ⟨some (88,false),some 93,.load false 1 (.t 92)⟩,
 ⟨some (88,false),some 94,.fld 0 (.t 2)⟩,
 ⟨some (88,false),some 95,.load false 1 (.t 94)⟩,
 ⟨some (88,false),some 96,.len (.t 95)⟩,
 ⟨some (88,false),some 97,.bin .geq (.t 93) (.t 96)⟩,
 sO 98 (.pick (.t 88) (.c (.bool true)) (.t 97))]
def b130_0:SC:=.seq (.seq (.reg [qM 47 6,qF 48 4 3,ql 49 48,qN 50 49,qP 51 .lss 47 50]) (.cond (.t 51) (.skip) (.exit 0))) (.seq (.block 1 (.seq (.seq (.reg r130_15) (.seq (.reg [qM 62 7,qC 63 .neq 62 0]) (.cond (.t 63) (.seq (.reg [qM 64 7,qM 4 64]) (.ret)) (.skip)))) (.seq (.seq (.reg [qI 8 0]) (.block 2 (.loop b130_1))) (.seq (.reg r130_23) (.cond (.t 98) (.seq (.reg [qI 4 2]) (.ret)) (.skip)))))) (.reg [qM 52 6,qC 53 .add 52 1,qM 6 53]))
def s130:SF:=⟨99,[.tmp 4],.seq (.reg [sO 2 (.box 24 1 (.t 0)),sO 3 (.box 99 5 (.t 1)),qI 4 0]) (.seq (.seq (.reg [qF 9 0 3,ql 10 9]) (.cond (.t 10) (.seq (.seq (.reg r130_2) (.cond (.t 26) (.seq (.reg [qI 4 1]) (.ret)) (.skip))) (.seq (.reg [qF 27 1 3,ql 28 27,sO 29 (.call false 80 [.t 28,.c (.int .i64 64)]),qM 4 29]) (.ret))) (.skip))) (.seq (.seq (.reg [qF 30 1 3,ql 31 30,qN 32 31,qC 33 .gtr 32 0]) (.cond (.t 33) (.seq (.reg [qI 4 1]) (.ret)) (.skip))) (.seq (.seq (.reg [qF 34 2 3,ql 35 34,sO 36 (.call false 129 [.t 35]),qM 5 36]) (.seq (.reg [qM 37 5,qC 38 .neq 37 0]) (.cond (.t 38) (.seq (.reg [qM 39 5,qM 4 39]) (.ret)) (.skip)))) (.seq (.seq (.reg r130_10) (.cond (.t 46) (.seq (.reg [qI 4 1]) (.ret)) (.skip))) (.seq (.seq (.reg [qI 6 0]) (.block 0 (.loop b130_0))) (.seq (.reg [qI 4 0]) (.ret)))))))⟩
theorem s130_ok:slimF Tryz.prog ⟨[107,108,109,116,120,126,127,167,169,170,171,172,194,196,198,209,222,226],[]⟩ Tryz.f130=some s130:=by kernel_rfl
def r114_6:List SO:=[
 qM 17 0,
 qM 18 5,
 qA 19 1 17 18,
 ql 20 19,
 qC 21 .lss 20 0,
 qM 22 21,
 ⟨some (22,false),some 23,.mv (.t 0)⟩,
 ⟨some (22,false),some 24,.mv (.t 5)⟩,
 ⟨some (22,false),some 25,.idx 1 (.t 23) (.t 24)⟩,
 ⟨some (22,false),some 26,.load false 1 (.t 25)⟩,
 ⟨some (22,false),some 27,.bin .gtr (.t 26) (.c (.int .i64 1048576))⟩,
 sO 28 (.pick (.t 22) (.c (.bool true)) (.t 27))]
def b114_0:SC:=.seq (.seq (.reg [qM 11 5,qM 12 0,qN 13 12,qP 14 .lss 11 13]) (.cond (.t 14) (.skip) (.exit 0))) (.seq (.block 1 (.seq (.reg r114_6) (.cond (.t 28) (.seq (.reg [qI 4 2]) (.ret)) (.skip)))) (.reg [qM 15 5,qC 16 .add 15 1,qM 5 16]))
def s114:SF:=⟨29,[.tmp 4],.seq (.reg [qI 4 0]) (.seq (.seq (.reg [qM 6 0,qN 7 6,qM 8 1,qN 9 8,qP 10 .neq 7 9]) (.cond (.t 10) (.seq (.reg [qI 4 1]) (.ret)) (.skip))) (.seq (.seq (.reg [qI 5 0]) (.block 0 (.loop b114_0))) (.seq (.reg [qI 4 0]) (.ret))))⟩
theorem s114_ok:slimF Tryz.prog ⟨[107,108,109,116,120,126,127,167,169,170,171,172,194,196,198,209,222,226],[]⟩ Tryz.f114=some s114:=by kernel_rfl
theorem outputs_pure (outs suffix:List Int):PureC Tryz.prog 114 [(ints outs),(ints suffix)] (iV (vlE outs suffix)):=by
 refine pW Tryz.func114 s114_ok fun hB=>?_
 unfold s114
 dsimp only
 refine W_r (R_mv rfl (R_e (W_seq_seq (W_r (R_mv rfl (R_len rfl (R_mv rfl ?_)))))))
 refine R_len rfl (R_neq rfl rfl (R_e ?_))
 refine W_seq_if rfl (fun c1=>?_) fun c1=>?_
 ·
  refine W_seq_seq (W_r (R_mv rfl (R_e (W_seq_ret ?_))))
  refine Ret_1 (@rfl V (iV (1:Int))) (fz_int ?_)
  · rw [vlE,if_pos (by omega)]
 refine W_seq_skip (W_seq_seq (W_r (R_mv rfl (R_e (W_seq_blockg fun Q2 n2 x2 y2 z2=>?_)))))
 refine W_loop (fun mm T H=> ∃ (k:Nat),mm=outs.length - k∧T 0=(ints outs)∧T 5=(iV ((k:Nat):Int))∧(k≤outs.length)∧(outs.length=suffix.length)∧(fe (ouE outs) 0 outs.length=fe (ouE outs) k (outs.length - k))) ?_ ?_
 ·
  refine ⟨_,0,rfl,rfl,(Eq.trans (@rfl V (iV (0:Int))) rfl),?_,?_,?_⟩
  · omega
  · omega
  · rfl
 intro mm T H ⟨k,hmm,t0,t5,hk,hl,hc⟩ Q3 p13 p23 p33
 unfold b114_0
 refine W_seq_seq (W_r (R_mv t5 (R_mv t0 (R_len rfl (R_lss rfl rfl (R_e ?_))))))
 refine W_seq_if rfl (fun c4=>?_) fun c4=>?_
 ·
  refine W_seq_skip (W_seq_blockg fun Q5 n5 x5 y5 z5=>(W_r (R_mv t0 (R_mv t5 (R_idx (i:=k) (@rfl V (ints outs)) (@rfl V (iV ((k:Nat):Int))) (by omega) rfl (R_load_pp rfl rfl (R_lss rfl rfl ?_)))))))
  refine R_mv rfl ?_
  refine Ops_seg 6 (fun T H=>T 0=(ints outs)∧T 5=(iV ((k:Nat):Int))∧T 28=(V.bool (decide ((((nth (outs) (k))) < (0:Int))∨((1048576:Int) < ((nth (outs) (k)))))))∧True) ?_ ?_
  ·
   by_cases g6:((nth (outs) (k))) < (0:Int)
   ·
    refine G_n (edT g6 rfl) (G_n (edT g6 rfl) (G_n (edT g6 rfl) (G_n (edT g6 rfl) (G_n (edT g6 rfl) (R_pickT (edT g6 rfl) rfl ?_)))))
    exact ⟨t0,t5,(dec_orT g6),trivial⟩
   ·
    refine G_yes (edF g6 rfl) (R_mv t0 (G_yes (edF g6 rfl) (R_mv t5 (G_yes (edF g6 rfl) (R_idx (i:=k) (@rfl V (ints outs)) (@rfl V (iV ((k:Nat):Int))) (by omega) rfl (G_yes (edF g6 rfl) (R_load_pp rfl rfl ?_)))))))
    refine G_yes (edF g6 rfl) (R_gtr rfl rfl (R_pickF (edF g6 rfl) rfl ?_))
    exact ⟨t0,t5,(dec_orF g6),trivial⟩
  intro T H ⟨t0,t5,t28,_⟩
  refine R_e ?_
  refine W_if t28 (fun c7=>?_) fun c7=>?_
  ·
   refine W_r (R_mv rfl (R_e (W_ret (y5 _ _ (p23 _ _ (y2 _ _ ?_))))))
   refine Ret_1 (@rfl V (iV (2:Int))) (fz_int ?_)
   · rw [vlE,if_neg (by omega)]; rw [hc,fe_hit (by unfold ouE; split <;> omega) (by omega)]; unfold ouE; split <;> omega
  refine W_skip (n5 _ _ (.done (W_t (R_mv t5 (R_addN rfl (@rfl V (iV ((1:Nat):Int))) (by omega) (R_mv rfl (R_e ?_)))))))
  refine p13 _ _ _ ?_ ⟨(k+1),rfl,t0,(Eq.trans (@rfl V (iV ((k+1:Nat):Int))) (by rfl)),?_,?_,?_⟩
  · omega
  · omega
  · omega
  · rw [hc,fe_skip (by unfold ouE; split <;> omega) (by omega)]
 refine W_seq_exit (p33 _ _ _ (x2 _ _ (.done (W_r (R_mv rfl (R_e (W_ret ?_)))))))
 refine Ret_1 (@rfl V (iV (0:Int))) (fz_int ?_)
 · rw [vlE,if_neg (by omega)]; rw [hc,fe_end (by omega)]
def s129:SF:=⟨8,[.tmp 2],.seq (.reg [qI 2 0]) (.seq (.seq (.reg [qM 3 0,qN 4 3,qC 5 .eql 4 0]) (.cond (.t 5) (.seq (.reg [qI 2 19]) (.ret)) (.skip))) (.seq (.reg [qM 6 0,sO 7 (.call false 80 [.t 6,.c (.int .i64 64)]),qM 2 7]) (.ret)))⟩
theorem s129_ok:slimF Tryz.prog ⟨[107,108,109,116,120,126,127,167,169,170,171,172,194,196,198,209,222,226],[]⟩ Tryz.f129=some s129:=by kernel_rfl
theorem ending_pure (s:List Int):PureC Tryz.prog 129 [(ints s)] (iV (if s.length=0 then 19 else wchk s 64)):=by
 refine pW Tryz.func129 s129_ok fun hB=>?_
 unfold s129
 dsimp only
 refine W_r (R_mv rfl (R_e (W_seq_seq (W_r (R_mv rfl (R_len rfl (R_eql rfl rfl ?_)))))))
 refine R_e ?_
 refine W_seq_if rfl (fun c1=>?_) fun c1=>?_
 ·
  refine W_seq_seq (W_r (R_mv rfl (R_e (W_seq_ret ?_))))
  refine Ret_1 (@rfl V (iV (19:Int))) (fz_int ?_)
  · rw [if_pos (by omega)]
 refine W_seq_skip (W_r (R_mv rfl (R_callk (rcheck_pure s ((64:Int))) rfl (R_mv rfl (R_e (W_ret ?_))))))
 refine Ret_1 (@rfl V (iV (wchk s ((64:Int))))) (fz_int ?_)
 · rw [if_neg (by omega)]
theorem rnode_pure (t:Dt) (x:Nd) (ho:x.ou.length≤1048576) (hk0:x.kd.length≤1048576):PureC Tryz.prog 130 [(V.agg [(V.sl (List.map cN (t.nd)))]),(V.agg (cN x))] (iV (ndE x t.nd.length)):=by
 refine pW Tryz.func130 s130_ok fun hB=>?_
 unfold s130
 dsimp only
 refine W_r (R_box (i:=2) (n:=0) (m:=1) (cs:=[(V.sl (List.map cN (t.nd)))]) rfl (congrArg Blk.ver rfl) rfl rfl rfl (R_box (i:=3) (n:=0) (m:=5) (cs:=[(V.bool x.lf),(ints x.ac),(ints x.sf),(intss x.ou),(ints x.kd)]) rfl (congrArg Blk.ver rfl) rfl rfl rfl (R_mv rfl (R_e (W_seq_seq (W_r (R_fk rfl rfl ?_)))))))
 refine R_lk rfl rfl rfl rfl (R_e ?_)
 refine W_seq_ifb rfl (fun c1=>?_) (fun c1=>?_)
 ·
  have d0:x.lf=true:=c1
  refine W_seq_seq (W_seq_seq (W_r (R_fk rfl rfl (R_lk rfl rfl rfl rfl (R_len rfl (R_gtr rfl rfl (R_mv rfl ?_)))))))
  refine Ops_seg 5 (fun T H=>T 3=(V.mp 3 1 0 0)∧T 20=(V.bool (decide (((0:Int) < ((x.sf.length:Nat):Int))∨((0:Int) < ((x.ou.length:Nat):Int)))))∧H 2=(bk 1 24 1 [[(V.sl (List.map cN (t.nd)))]])∧H 3=(bk 1 99 5 [(cN x)])∧True) ?_ ?_
  ·
   by_cases g2:(0:Int) < ((x.sf.length:Nat):Int)
   ·
    refine G_n (edT g2 rfl) (G_n (edT g2 rfl) (G_n (edT g2 rfl) (G_n (edT g2 rfl) (R_pickT (edT g2 rfl) rfl ?_))))
    exact ⟨rfl,(dec_orT g2),rfl,rfl,trivial⟩
   ·
    refine G_yes (edF g2 rfl) (R_fk rfl rfl (G_yes (edF g2 rfl) (R_lk rfl rfl rfl rfl (G_yes (edF g2 rfl) (R_len rfl (G_yes (edF g2 rfl) (R_gtr rfl rfl ?_)))))))
    refine R_pickF (edF g2 rfl) rfl ?_
    exact ⟨rfl,(dec_orF g2),rfl,rfl,trivial⟩
  intro T H ⟨t3,t20,h2,h3,_⟩
  refine R_mv t20 ?_
  refine Ops_seg 5 (fun T H=>T 3=(V.mp 3 1 0 0)∧T 26=(V.bool (decide ((((0:Int) < ((x.sf.length:Nat):Int))∨((0:Int) < ((x.ou.length:Nat):Int)))∨((0:Int) < ((x.kd.length:Nat):Int)))))∧H 2=(bk 1 24 1 [[(V.sl (List.map cN (t.nd)))]])∧H 3=(bk 1 99 5 [(cN x)])∧True) ?_ ?_
  ·
   by_cases g3:((0:Int) < ((x.sf.length:Nat):Int))∨((0:Int) < ((x.ou.length:Nat):Int))
   ·
    refine G_n (edT g3 rfl) (G_n (edT g3 rfl) (G_n (edT g3 rfl) (G_n (edT g3 rfl) (R_pickT (edT g3 rfl) rfl ?_))))
    exact ⟨t3,(dec_orT g3),h2,h3,trivial⟩
   ·
    refine G_yes (edF g3 rfl) (R_fk t3 h3 (G_yes (edF g3 rfl) (R_lk rfl h3 rfl rfl (G_yes (edF g3 rfl) (R_len rfl (G_yes (edF g3 rfl) (R_gtr rfl rfl ?_)))))))
    refine R_pickF (edF g3 rfl) rfl ?_
    exact ⟨t3,(dec_orF g3),h2,h3,trivial⟩
  intro T H ⟨t3,t26,h2,h3,_⟩
  refine R_e ?_
  refine W_seq_if t26 (fun c4=>?_) fun c4=>?_
  ·
   refine W_seq_seq (W_r (R_mv rfl (R_e (W_seq_ret ?_))))
   refine Ret_1 (@rfl V (iV (1:Int))) (fz_int ?_)
   · rw [ndE,if_pos d0,lfE,if_pos (by omega)]
  refine W_seq_skip (W_seq_seq (W_r (R_fk t3 h3 (R_lk rfl h3 rfl rfl (R_callk (rcheck_pure x.ac ((64:Int))) rfl (R_mv rfl (R_e ?_)))))))
  refine W_seq_ret ?_
  refine Ret_1 (@rfl V (iV (wchk x.ac ((64:Int))))) (fz_int ?_)
  · rw [ndE,if_pos d0,lfE,if_neg (by omega)]
 have d0:x.lf=false:=by simpa using c1
 refine W_seq_skip (W_seq_seq (W_r (R_fk rfl rfl (R_lk rfl rfl rfl rfl (R_len rfl (R_gtr rfl rfl (R_e ?_)))))))
 refine W_seq_if rfl (fun c5=>?_) fun c5=>?_
 ·
  refine W_seq_seq (W_r (R_mv rfl (R_e (W_seq_ret ?_))))
  refine Ret_1 (@rfl V (iV (1:Int))) (fz_int ?_)
  · rw [ndE,if_neg (by simp [d0]),inE2,if_pos (by omega)]
 refine W_seq_skip (W_seq_seq (W_r (R_fk rfl rfl (R_lk rfl rfl rfl rfl (R_callk (ending_pure x.sf) rfl (R_mv rfl (R_e ?_)))))))
 refine W_seq_seq (W_r (R_mv rfl (R_neq rfl rfl (R_e ?_))))
 refine W_seq_if rfl (fun c6=>?_) fun c6=>?_
 ·
  have d4:x.sf.length=0∨wchk x.sf 64≠0:=by by_cases e:x.sf.length=0; exact .inl e; (rw [if_neg e] at c6; exact .inr c6)
  refine W_seq_seq (W_r (R_mv rfl (R_mv rfl (R_e (W_seq_ret ?_)))))
  refine Ret_1 (@rfl V (iV (if x.sf.length=0 then 19 else wchk x.sf 64))) (fz_int ?_)
  · rcases d4 with e|e
    · rw [if_pos e]; rw [ndE,if_neg (by simp [d0]),inE2,if_neg (by omega),if_pos e]
    · by_cases e2:x.sf.length=0
      · rw [if_pos e2]; rw [ndE,if_neg (by simp [d0]),inE2,if_neg (by omega),if_pos e2]
      · rw [if_neg e2]; rw [ndE,if_neg (by simp [d0]),inE2,if_neg (by omega),if_neg e2,if_pos e]
 have d4:x.sf.length≠0∧wchk x.sf 64=0:=by by_cases e:x.sf.length=0; (rw [if_pos e] at c6; exact (c6 (by decide)).elim); (rw [if_neg e] at c6; exact ⟨e,by omega⟩)
 refine W_seq_skip (W_seq_seq (W_r (R_fk rfl rfl (R_lk rfl rfl rfl rfl (R_len rfl (R_fk rfl rfl (R_lk rfl rfl rfl rfl ?_)))))))
 refine R_len rfl (R_neq rfl rfl (R_e ?_))
 refine W_seq_if rfl (fun c7=>?_) fun c7=>?_
 ·
  refine W_seq_seq (W_r (R_mv rfl (R_e (W_seq_ret ?_))))
  refine Ret_1 (@rfl V (iV (1:Int))) (fz_int ?_)
  · rw [ndE,if_neg (by simp [d0]),inE2,if_neg (by omega),if_neg (by omega),if_neg (by omega),if_pos (by omega)]
 refine W_seq_skip (W_seq_seq (W_r (R_mv rfl (R_e (W_seq_blockg fun Q8 n8 x8 y8 z8=>?_)))))
 refine W_loop (fun mm T H=> ∃ (k:Nat),mm=x.kd.length - k∧T 2=(V.mp 2 1 0 0)∧T 3=(V.mp 3 1 0 0)∧T 6=(iV ((k:Nat):Int))∧H 2=(bk 1 24 1 [[(V.sl (List.map cN (t.nd)))]])∧H 3=(bk 1 99 5 [(cN x)])∧(k≤x.kd.length)∧(x.ou.length=x.kd.length)∧(x.ac.length=0)∧(x.sf.length≠0)∧(wchk x.sf 64=0)∧(∀ j,j < k→chE x t.nd.length j=0)∧(fe (chE x t.nd.length) 0 x.ou.length=fe (chE x t.nd.length) k (x.ou.length - k))) ?_ ?_
 ·
  refine ⟨_,0,rfl,rfl,rfl,(Eq.trans (@rfl V (iV (0:Int))) rfl),rfl,rfl,?_,?_,?_,?_,?_,?_,?_⟩
  · omega
  · omega
  · omega
  · omega
  · omega
  · intro j hj; omega
  · rfl
 intro mm T H ⟨k,hmm,t2,t3,t6,h2,h3,hk,hl,ga,gs,gw,hp,hc⟩ Q9 p19 p29 p39
 unfold b130_0
 refine W_seq_seq (W_r (R_mv t6 (R_fk t3 h3 (R_lk rfl h3 rfl rfl (R_len rfl (R_lss rfl rfl (R_e ?_)))))))
 refine W_seq_if rfl (fun c10=>?_) fun c10=>?_
 ·
  refine W_seq_skip (W_seq_blockg fun Q11 n11 x11 y11 z11=>(W_seq_seq (W_r (R_fk t3 h3 (R_lk rfl h3 rfl rfl (R_mv t6 (R_idx (i:=k) (@rfl V (intss x.ou)) (@rfl V (iV ((k:Nat):Int))) (by omega) rfl ?_)))))))
  refine R_load_pp rfl rfl (R_fk t3 h3 (R_lk rfl h3 rfl rfl (R_callk (outputs_pure ((nth (x.ou) (k))) x.sf) rfl (R_mv rfl (R_e (W_seq_seq (W_r ?_)))))))
  refine R_mv rfl (R_neq rfl rfl (R_e ?_))
  refine W_seq_if rfl (fun c12=>?_) fun c12=>?_
  ·
   refine W_seq_seq (W_r (R_mv rfl (R_mv rfl (R_e (W_seq_ret (y11 _ _ (p29 _ _ ?_)))))))
   refine y8 _ _ ?_
   refine Ret_1 (@rfl V (iV (vlE ((nth (x.ou) (k))) x.sf))) (fz_int ?_)
   · rw [ndE,if_neg (by simp [d0]),inE2,if_neg (by omega),if_neg (by omega),if_neg (by omega),if_neg (by omega),hc,fe_hit (by rw [chE,if_pos (by omega)]; omega) (by omega),chE,if_pos (by omega)]
  refine W_seq_skip (W_seq_seq (W_r (R_mv rfl (R_e (W_seq_blockg fun Q13 n13 x13 y13 z13=>?_)))))
  refine W_loop (fun mm T H=> ∃ (j:Nat),mm=k - j∧T 2=(V.mp 2 1 0 0)∧T 3=(V.mp 3 1 0 0)∧T 6=(iV ((k:Nat):Int))∧T 8=(iV ((j:Nat):Int))∧H 2=(bk 1 24 1 [[(V.sl (List.map cN (t.nd)))]])∧H 3=(bk 1 99 5 [(cN x)])∧(j≤k)∧(∀ i,i < j→lexI (nth x.ou i) (nth x.ou k) < 0)) ?_ ?_
  ·
   refine ⟨_,0,rfl,t2,t3,t6,(Eq.trans (@rfl V (iV (0:Int))) rfl),h2,h3,?_,?_⟩
   · omega
   · intro i hi; omega
  intro mm T H ⟨j,hmm,t2,t3,t6,t8,h2,h3,hj,hq⟩ Q14 p114 p214 p314
  unfold b130_1
  refine W_seq_seq (W_r (R_mv t8 (R_mv t6 (R_lss rfl rfl (R_e ?_)))))
  refine W_seq_if rfl (fun c15=>?_) fun c15=>?_
  ·
   refine W_seq_skip (W_seq_blockg fun Q16 n16 x16 y16 z16=>(W_r (R_fk t3 h3 (R_lk rfl h3 rfl rfl (R_mv t8 (R_idx (i:=j) (@rfl V (intss x.ou)) (@rfl V (iV ((j:Nat):Int))) (by omega) rfl (R_load_pp rfl rfl ?_)))))))
   refine R_fk t3 h3 (R_lk rfl h3 rfl rfl (R_mv t6 (R_idx (i:=k) (@rfl V (intss x.ou)) (@rfl V (iV ((k:Nat):Int))) (by omega) rfl (R_load_pp rfl rfl (R_callk (rlex_pure ((nth (x.ou) (j))) ((nth (x.ou) (k)))) rfl (R_geq rfl rfl (R_e ?_)))))))
   refine W_if rfl (fun c17=>?_) fun c17=>?_
   ·
    have d5:=ch_err (x:=x) (n:=t.nd.length) (k:=k) (j:=j) (by omega) (by omega) (by omega) hp
    refine W_r (R_mv rfl (R_e (W_ret (y16 _ _ (p214 _ _ (y13 _ _ (y11 _ _ ?_)))))))
    refine p29 _ _ (y8 _ _ ?_)
    refine Ret_1 (@rfl V (iV (10:Int))) (fz_int ?_)
    · rw [ndE,if_neg (by simp [d0]),inE2,if_neg (by omega),if_neg (by omega),if_neg (by omega),if_neg (by omega),hc,fe_hit (by rw [d5]; decide) (by omega),d5]
   refine W_skip (n16 _ _ (.done (W_t (R_mv t8 (R_addN rfl (@rfl V (iV ((1:Nat):Int))) (by omega) (R_mv rfl (R_e ?_)))))))
   refine p114 _ _ _ ?_ ⟨(j+1),rfl,t2,t3,t6,(Eq.trans (@rfl V (iV ((j+1:Nat):Int))) (by rfl)),h2,h3,?_,?_⟩
   · omega
   · omega
   · intro i hi
     by_cases e:i=j
     · subst e; omega
     · exact hq i (by omega)
  refine W_seq_exit (p314 _ _ _ (x13 _ _ (.done (W_r (R_fk t3 h3 (R_lk rfl h3 rfl rfl (R_mv t6 ?_)))))))
  refine R_idx (i:=k) (@rfl V (ints x.kd)) (@rfl V (iV ((k:Nat):Int))) (by omega) rfl (R_load_pp rfl rfl (R_lss rfl rfl (R_mv rfl ?_)))
  refine Ops_seg 10 (fun T H=>T 2=(V.mp 2 1 0 0)∧T 3=(V.mp 3 1 0 0)∧T 6=(iV ((k:Nat):Int))∧T 98=(V.bool (decide ((((nth (x.kd) (k))) < (0:Int))∨(((t.nd.length:Nat):Int)≤((nth (x.kd) (k)))))))∧H 2=(bk 1 24 1 [[(V.sl (List.map cN (t.nd)))]])∧H 3=(bk 1 99 5 [(cN x)])∧True) ?_ ?_
  ·
   by_cases g18:((nth (x.kd) (k))) < (0:Int)
   ·
    refine G_n (edT g18 rfl) (G_n (edT g18 rfl) (G_n (edT g18 rfl) (G_n (edT g18 rfl) (G_n (edT g18 rfl) (G_n (edT g18 rfl) (G_n (edT g18 rfl) (G_n (edT g18 rfl) ?_)))))))
    refine G_n (edT g18 rfl) (R_pickT (edT g18 rfl) rfl ?_)
    exact ⟨t2,t3,t6,(dec_orT g18),h2,h3,trivial⟩
   ·
    refine G_yes (edF g18 rfl) (R_fk t3 h3 (G_yes (edF g18 rfl) (R_lk rfl h3 rfl rfl (G_yes (edF g18 rfl) (R_mv t6 (G_yes (edF g18 rfl) (R_idx (i:=k) (@rfl V (ints x.kd)) (@rfl V (iV ((k:Nat):Int))) (by omega) rfl ?_)))))))
    refine G_yes (edF g18 rfl) (R_load_pp rfl rfl (G_yes (edF g18 rfl) (R_fk t2 h2 (G_yes (edF g18 rfl) (R_lk rfl h2 rfl rfl (G_yes (edF g18 rfl) (R_len rfl ?_)))))))
    refine G_yes (edF g18 rfl) (R_geq rfl rfl (R_pickF (edF g18 rfl) rfl ?_))
    exact ⟨t2,t3,t6,(dec_orF g18),h2,h3,trivial⟩
  intro T H ⟨t2,t3,t6,t98,h2,h3,_⟩
  refine R_e ?_
  refine W_if t98 (fun c19=>?_) fun c19=>?_
  ·
   skip
   refine W_r (R_mv rfl (R_e (W_ret (y11 _ _ (p29 _ _ (y8 _ _ ?_))))))
   refine Ret_1 (@rfl V (iV (2:Int))) (fz_int ?_)
   · have e:chE x t.nd.length k=2:=by rw [chE,if_neg (by omega),if_neg (by rintro ⟨q1,q2⟩; have:=hq (k - 1) (by omega); omega),if_pos (by omega)]
     rw [ndE,if_neg (by simp [d0]),inE2,if_neg (by omega),if_neg (by omega),if_neg (by omega),if_neg (by omega),hc,fe_hit (by rw [e]; decide) (by omega),e]
  have dz:chE x t.nd.length k=0:=by rw [chE,if_neg (by omega),if_neg (by rintro ⟨q1,q2⟩; have:=hq (k - 1) (by omega); omega),if_neg (by omega)]
  refine W_skip (n11 _ _ (.done (W_t (R_mv t6 (R_addN rfl (@rfl V (iV ((1:Nat):Int))) (by omega) (R_mv rfl (R_e ?_)))))))
  refine p19 _ _ _ ?_ ⟨(k+1),rfl,t2,t3,(Eq.trans (@rfl V (iV ((k+1:Nat):Int))) (by rfl)),h2,h3,?_,?_,?_,?_,?_,?_,?_⟩
  · omega
  · omega
  · omega
  · omega
  · omega
  · omega
  · intro i hi
    by_cases e:i=k
    · subst e; exact dz
    · exact hp i (by omega)
  · rw [hc,fe_skip dz (by omega)]
 refine W_seq_exit (p39 _ _ _ (x8 _ _ (.done (W_r (R_mv rfl (R_e (W_ret ?_)))))))
 refine Ret_1 (@rfl V (iV (0:Int))) (fz_int ?_)
 · rw [ndE,if_neg (by simp [d0]),inE2,if_neg (by omega),if_neg (by omega),if_neg (by omega),if_neg (by omega),hc,fe_end (by omega)]
def r131_7:List SO:=[
 qF 21 0 1,
 ql 22 21,
 qM 23 4,
 qM 24 5,
 qA 25 1 23 24,
 ql 26 25,
 qA 27 5 22 26,
 qL 28 5 27,
 sO 6 (.alloc 99 [.bool false,.nilsl,.nilsl,.nilsl,.nilsl]),
 sN (.store 5 (.t 6) (.t 28))]
def r131_11:List SO:=[
 qM 36 3,
 qF 37 4 6,
 ql 38 37,
 qM 39 7,
 qA 40 1 38 39,
 ql 41 40,
 qA 42 1 36 41,
 ql 43 42]
def r131_13:List SO:=[
 qM 44 3,
 qF 45 4 6,
 ql 46 45,
 qM 47 7,
 qA 48 1 46 47,
 ql 49 48,
 qA 50 1 44 49,
 sN (.store 1 (.t 50) (.c (.bool true)))]
def r131_14:List SO:=[
 qM 51 4,
 qF 52 4 6,
 ql 53 52,
 qM 54 7,
 qA 55 1 53 54,
 ql 56 55,
 sO 57 (.bslice 3 1 false [.int .i64 0] 1 [(0,.t 56)]),
 sO 58 (.append 3 1 8 (.t 51) (.t 57)),
 qM 4 58]
def b131_1:SC:=.seq (.seq (.reg [qM 29 7,qF 30 4 6,ql 31 30,qN 32 31,qP 33 .lss 29 32]) (.cond (.t 33) (.skip) (.exit 2))) (.seq (.block 3 (.seq (.seq (.reg r131_11) (.cond (.t 43) (.seq (.reg [sO 2 (.mv (.c (.bool false)))]) (.ret)) (.skip))) (.seq (.reg r131_13) (.reg r131_14)))) (.reg [qM 34 7,qC 35 .add 34 1,qM 7 35]))
def b131_0:SC:=.seq (.seq (.reg [qM 15 5,qM 16 4,qN 17 16,qP 18 .lss 15 17]) (.cond (.t 18) (.skip) (.exit 0))) (.seq (.block 1 (.seq (.dreg [6] r131_7) (.seq (.reg [qI 7 0]) (.block 2 (.loop b131_1))))) (.reg [qM 19 5,qC 20 .add 19 1,qM 5 20]))
def r131_15:List SO:=[
 qM 59 4,
 qN 60 59,
 qF 61 0 1,
 ql 62 61,
 qN 63 62,
 qP 64 .eql 60 63,
 qM 2 64]
def s131:SF:=⟨65,[.tmp 2],.seq (.reg [sO 1 (.box 24 1 (.t 0)),sO 2 (.mv (.c (.bool false)))]) (.seq (.reg [qF 8 0 1,ql 9 8,qN 10 9,sO 11 (.mks 4 1 1 [.bool false] (.t 10) (.t 10)),qM 3 11]) (.seq (.reg [qM 12 3,sO 13 (.idx 1 (.t 12) (.c (.int .i64 0))),sN (.store 1 (.t 13) (.c (.bool true)))]) (.seq (.reg [sO 14 (.bslice 3 1 true [.int .i64 0] 1 [(0,.c (.int .i64 0))]),qM 4 14]) (.seq (.seq (.reg [qI 5 0]) (.block 0 (.loop b131_0))) (.seq (.reg r131_15) (.ret))))))⟩
theorem s131_ok:slimF Tryz.prog ⟨[107,108,109,116,120,126,127,167,169,170,171,172,194,196,198,209,222,226],[14]⟩ Tryz.f131=some s131:=by kernel_rfl
end Go.Proofs.YtmnjchcoigbngabGreat
namespace Go.Proofs.YtmnjchcoigbngabGreat
open Go Go.Proofs
attribute [local irreducible] mksV
theorem whole_pure (t:Dt) (hk:KI t) (hb:Bd t):PureC Tryz.prog 131 [(V.agg [(V.sl (List.map cN (t.nd)))])] (V.bool (whB t)):=by
 refine pW Tryz.func131 s131_ok fun hB=>?_
 unfold s131
 dsimp only
 have hp:=hk.pos
 have hbn:=hb.n
 refine W_r (R_box (i:=1) (n:=0) (m:=1) (cs:=[(V.sl (List.map cN (t.nd)))]) rfl (congrArg Blk.ver rfl) rfl rfl rfl (R_mv rfl (R_e (W_r (R_fk rfl rfl (R_lk rfl rfl rfl rfl (R_len rfl ?_)))))))
 refine R_mksm (i:=11) (n:=0) (m:=t.nd.length) (q:=t.nd.length) (f:=cB) (x:=false) rfl (congrArg Blk.ver rfl) (@rfl V (iV ((t.nd.length:Nat):Int))) (@rfl V (iV ((t.nd.length:Nat):Int))) rfl (by omega) (by omega) (by omega) (R_mv rfl (R_e (W_r (R_mv rfl (R_idxI_ms0 (i:=(0:Int)) (@rfl V (V.ms 11 1 0 (t.nd.length))) (@rfl V (iV (0:Int))) (@rfl Blk (bk 1 4 1 (List.map cB (List.replicate t.nd.length false)))) oB rfl (by omega) (by omega) (R_store (vs:=[(V.bool true)]) (B':=(bk 1 4 1 (List.map cB ((List.replicate t.nd.length false).set (((0:Int)).toNat) true)))) rfl rfl rfl (@rfl Blk (bk 1 4 1 (List.map cB (List.replicate t.nd.length false)))) (stB_map (x:=true) (i:=(((0:Int)).toNat)) (by (simp only [List.length_replicate]; omega)) rfl rfl rfl rfl) (R_e ?_)))))))
 refine W_r (R_bslice_own (i:=14) (n:=0) (qs:=[(0,(iV (0:Int)))]) (rows:=[[(iV (0:Int))]]) rfl (congrArg Blk.ver rfl) (mcons (congrArg (fun v=>(0,v)) rfl) rfl) rfl (R_mv rfl (R_e (W_seq_seq (W_r (R_mv rfl (R_e ?_)))))))
 refine W_seq_blockg fun Q1 n1 x1 y1 z1=>?_
 refine W_loop (fun mm T H=> ∃ (k:Nat) (w:Nat) (P:RS) (v6:Nat),mm=t.nd.length - k∧T 1=(V.mp 1 1 0 0)∧T 3=(V.ms 11 1 0 (t.nd.length))∧T 4=(V.ms 14 w 0 (P.1.length))∧T 5=(iV ((k:Nat):Int))∧H 1=(bk 1 24 1 [[(V.sl (List.map cN (t.nd)))]])∧((H 6).ver=v6∧(H 6).live=false)∧H 11=(bk 1 4 1 (List.map cB (P.2)))∧H 14=(bk w 3 1 (List.map cI (P.1)))∧(k≤P.1.length)∧(WI t P)∧(whN t t.nd.length 0 (wh0 t)=whN t (t.nd.length - k) k P)) ?_ ?_
 ·
  refine ⟨_,0,1,(wh0 t),0,rfl,rfl,rfl,(Eq.trans (@rfl V (V.ms 14 1 0 (1))) (by rfl)),(Eq.trans (@rfl V (iV (0:Int))) rfl),rfl,⟨(congrArg Blk.ver rfl),congrArg Blk.live (@rfl Blk (⟨0,false,false,0,0,[]⟩:Blk))⟩,(Eq.trans (@rfl Blk (bk 1 4 1 (List.map cB ((List.replicate t.nd.length false).set (((0:Int)).toNat) true)))) (by rfl)),(Eq.trans (@rfl Blk (bk 1 3 1 [[(iV (0:Int))]])) (by rfl)),?_,?_,?_⟩
  · exact Nat.zero_le _
  · exact wi0 hk
  · rfl
 intro mm T H ⟨k,w,P,v6,hmm,t1,t3,t4,t5,h1,h6,h11,h14,hk2,hi,hc⟩ Q2 p12 p22 p32
 unfold b131_0
 have hi1:=hi.len
 refine W_seq_seq (W_r (R_mv t5 (R_mv t4 (R_len_ms rfl h14 (by simp) (R_lss rfl rfl (R_e ?_))))))
 refine W_seq_if rfl (fun c3=>?_) fun c3=>?_
 ·
  have r1:=hi.rg _ (nth_mem (show k < P.1.length by omega))
  have r3:=hb.kd _ (show (nth P.1 k).toNat < t.nd.length by omega)
  refine W_seq_skip (W_seq_blockg fun Q4 n4 x4 y4 z4=>(W_d (by exact (lateC (h6).2 lateN)) (R_fk t1 h1 (R_lk rfl h1 rfl rfl (R_mv t4 (R_mv t5 (R_idx_ms0 (i:=k) (@rfl V (V.ms 14 w 0 (P.1.length))) (@rfl V (iV ((k:Nat):Int))) h14 oB rfl (by omega) ?_)))))))
  refine R_load_mp (v:=(iV ((nth (P.1) (k))))) rfl h14 (ldB_map (by omega) (by rfl)) (R_idxI (i:=((nth (P.1) (k)))) (@rfl V (V.sl (List.map cN (t.nd)))) (@rfl V (iV ((nth (P.1) (k))))) (by omega) (by omega) rfl (R_load_pp rfl rfl (R_alloc (i:=6) (n:=v6) (m:=5) rfl (h6).1 rfl (R_sk rfl rfl rfl rfl rfl rfl rfl rfl rfl (R_e (W_r (R_mv rfl ?_)))))))
  refine R_e (W_block fun Q5 n5 x5 y5 z5=>?_)
  refine W_loop (fun mm T H=> ∃ (j:Nat) (w2:Nat) (Q:RS),mm=(nth t.nd (nth P.1 k).toNat).kd.length - j∧T 1=(V.mp 1 1 0 0)∧T 3=(V.ms 11 1 0 (t.nd.length))∧T 4=(V.ms 14 w2 0 (Q.1.length))∧T 5=(iV ((k:Nat):Int))∧T 6=(V.mp 6 (v6+1) 0 0)∧T 7=(iV ((j:Nat):Int))∧H 1=(bk 1 24 1 [[(V.sl (List.map cN (t.nd)))]])∧H 6=(bk (v6+1) 99 5 [(cN (((nth (t.nd) ((nth (P.1) (k))).toNat))))])∧H 11=(bk 1 4 1 (List.map cB (Q.2)))∧H 14=(bk w2 3 1 (List.map cI (Q.1)))∧(j≤(nth t.nd (nth P.1 k).toNat).kd.length)∧(k < Q.1.length)∧(WI t Q)∧(whN t t.nd.length 0 (wh0 t)=(whI Q ((nth t.nd (nth P.1 k).toNat).kd.drop j)).bind (whN t (t.nd.length - (k+1)) (k+1)))) ?_ ?_
  ·
   refine ⟨_,0,w,P,rfl,t1,t3,t4,t5,rfl,(Eq.trans (@rfl V (iV (0:Int))) rfl),h1,rfl,h11,h14,?_,?_,?_,?_⟩
   · omega
   · omega
   · exact hi
   · rw [hc,wh_go (by omega) (by omega)]; rfl
  intro mm T H ⟨j,w2,Q,hmm,t1,t3,t4,t5,t6,t7,h1,h6,h11,h14,hj,hk3,hiq,hc2⟩ Q6 p16 p26 p36
  unfold b131_1
  have hi2:=hiq.len
  refine W_seq_seq (W_r (R_mv t7 (R_fk t6 h6 (R_lk rfl h6 rfl rfl (R_len rfl (R_lss rfl rfl (R_e ?_)))))))
  refine W_seq_if rfl (fun c7=>?_) fun c7=>?_
  ·
   have r2:=hk.rng _ (show (nth P.1 k).toNat < t.nd.length by omega) _ (nth_mem (show j < (nth t.nd (nth P.1 k).toNat).kd.length by omega))
   refine W_seq_skip (W_seq_blockg fun Q8 n8 x8 y8 z8=>(W_seq_seq (W_r (R_mv t3 (R_fk t6 h6 (R_lk rfl h6 rfl rfl (R_mv t7 ?_)))))))
   refine R_idx (i:=j) (@rfl V (ints (((nth (t.nd) ((nth (P.1) (k))).toNat)).kd))) (@rfl V (iV ((j:Nat):Int))) (by omega) rfl (R_load_pp rfl rfl (R_idxI_ms0 (i:=((nth (((nth (t.nd) ((nth (P.1) (k))).toNat)).kd) (j)))) (@rfl V (V.ms 11 1 0 (t.nd.length))) (@rfl V (iV ((nth (((nth (t.nd) ((nth (P.1) (k))).toNat)).kd) (j))))) h11 oB rfl (by omega) (by omega) (R_load_mp (v:=(V.bool ((nth (Q.2) ((((nth (((nth (t.nd) ((nth (P.1) (k))).toNat)).kd) (j)))).toNat))))) rfl h11 (ldB_map (by omega) (by rfl)) (R_e ?_))))
   refine W_seq_ifb rfl (fun c9=>?_) (fun c9=>?_)
   ·
    have d2:nth Q.2 (nth (nth t.nd (nth P.1 k).toNat).kd j).toNat=true:=c9
    refine W_seq_seq (W_r (R_mv rfl (R_e (W_seq_ret (y8 _ _ (p26 _ _ (y5 _ _ ?_)))))))
    refine y4 _ _ (p22 _ _ (y1 _ _ ?_))
    refine Ret_1 (@rfl V (V.bool false)) (fz_bool ?_)
    · rw [whB_none (by rw [hc2,whI_yes (by omega) d2]; rfl)]
   have d2:nth Q.2 (nth (nth t.nd (nth P.1 k).toNat).kd j).toNat=false:=by simpa using c9
   refine W_seq_skip (W_r (R_mv t3 (R_fk t6 h6 (R_lk rfl h6 rfl rfl (R_mv t7 (R_idx (i:=j) (@rfl V (ints (((nth (t.nd) ((nth (P.1) (k))).toNat)).kd))) (@rfl V (iV ((j:Nat):Int))) (by omega) rfl (R_load_pp rfl rfl ?_)))))))
   refine R_idxI_ms0 (i:=((nth (((nth (t.nd) ((nth (P.1) (k))).toNat)).kd) (j)))) (@rfl V (V.ms 11 1 0 (t.nd.length))) (@rfl V (iV ((nth (((nth (t.nd) ((nth (P.1) (k))).toNat)).kd) (j))))) h11 oB rfl (by omega) (by omega) (R_store (vs:=[(V.bool true)]) (B':=(bk 1 4 1 (List.map cB ((Q.2).set ((((nth (((nth (t.nd) ((nth (P.1) (k))).toNat)).kd) (j)))).toNat) true)))) rfl rfl rfl h11 (stB_map (x:=true) (i:=((((nth (((nth (t.nd) ((nth (P.1) (k))).toNat)).kd) (j)))).toNat)) (by omega) rfl rfl rfl rfl) (R_e (W_t (R_mv t4 (R_fk t6 h6 (R_lk rfl h6 rfl rfl (R_mv t7 ?_)))))))
   refine R_idx (i:=j) (@rfl V (ints (((nth (t.nd) ((nth (P.1) (k))).toNat)).kd))) (@rfl V (iV ((j:Nat):Int))) (by omega) rfl (R_load_pp rfl rfl (R_bslice rfl rfl (R_append1 (l:=Q.1) (f:=cI) (x:=(((nth (((nth (t.nd) ((nth (P.1) (k))).toNat)).kd) (j))))) (@rfl V (V.ms 14 w2 0 (Q.1.length))) h14 (by rfl) (@rfl V (V.sl [[(iV ((nth (((nth (t.nd) ((nth (P.1) (k))).toNat)).kd) (j))))]])) rfl rfl (by omega) (by omega) (R_mv rfl (R_e (n8 _ _ (.done ?_)))))))
   refine W_t (R_mv t7 (R_addN rfl (@rfl V (iV ((1:Nat):Int))) (by omega) (R_mv rfl (R_e ?_))))
   refine p16 _ _ _ ?_ ⟨(j+1),(w2+1),(wS Q (nth (nth t.nd (nth P.1 k).toNat).kd j)),rfl,t1,t3,(Eq.trans (@rfl V (V.ms 14 (w2+1) 0 (Q.1.length+1))) (by (rw [show (wS Q (nth (nth t.nd (nth P.1 k).toNat).kd j)).1.length=Q.1.length+1 by simp [wS]]; done))),t5,t6,(Eq.trans (@rfl V (iV ((j+1:Nat):Int))) (by rfl)),h1,h6,(Eq.trans (@rfl Blk (bk 1 4 1 (List.map cB ((Q.2).set ((((nth (((nth (t.nd) ((nth (P.1) (k))).toNat)).kd) (j)))).toNat) true)))) (by rfl)),(Eq.trans (@rfl Blk (bk (w2+1) 3 1 (List.map cI (Q.1++[((nth (((nth (t.nd) ((nth (P.1) (k))).toNat)).kd) (j)))])))) (by rfl)),?_,?_,?_,?_⟩
   · omega
   · omega
   · show k < (Q.1++_).length; rw [List.length_append]; omega
   · exact hiq.step r2.1 r2.2 d2
   · rw [hc2,whI_no (by omega) d2]
  refine W_seq_exit (p36 _ _ _ (x5 _ _ (n4 _ _ (fork_ (R:=fun T H=>T 1=(V.mp 1 1 0 0)∧T 3=(V.ms 11 1 0 (t.nd.length))∧T 4=(V.ms 14 w2 0 (Q.1.length))∧T 5=(iV ((k:Nat):Int))∧T 6=(V.mp 6 (v6+1) 0 0)∧T 7=(iV ((j:Nat):Int))∧T 33=(V.bool (decide (((j:Nat):Int) < (((((nth (t.nd) ((nth (P.1) (k))).toNat)).kd).length:Nat):Int))))∧H 1=(bk 1 24 1 [[(V.sl (List.map cN (t.nd)))]])∧H 6=(bk (v6+1) 99 5 [(cN (((nth (t.nd) ((nth (P.1) (k))).toNat))))])∧H 11=(bk 1 4 1 (List.map cB (Q.2)))∧H 14=(bk w2 3 1 (List.map cI (Q.1)))∧True) ⟨t1,t3,t4,t5,t6,t7,(@rfl V (V.bool (decide (((j:Nat):Int) < (((((nth (t.nd) ((nth (P.1) (k))).toNat)).kd).length:Nat):Int))))),h1,h6,h11,h14,trivial⟩ ?_))))
  intro T H ⟨t1,t3,t4,t5,t6,t7,t33,h1,h6,h11,h14,_⟩
  refine .freeze 6 (.done ?_)
  refine fork_ (R:=fun T H=>T 1=(V.mp 1 1 0 0)∧T 3=(V.ms 11 1 0 (t.nd.length))∧T 4=(V.ms 14 w2 0 (Q.1.length))∧T 5=(iV ((k:Nat):Int))∧T 6=(V.mp 6 (v6+1) 0 0)∧T 7=(iV ((j:Nat):Int))∧T 33=(V.bool (decide (((j:Nat):Int) < (((((nth (t.nd) ((nth (P.1) (k))).toNat)).kd).length:Nat):Int))))∧H 1=(bk 1 24 1 [[(V.sl (List.map cN (t.nd)))]])∧((H 6).ver=v6+1∧(H 6).live=false)∧H 11=(bk 1 4 1 (List.map cB (Q.2)))∧H 14=(bk w2 3 1 (List.map cI (Q.1)))∧True) ⟨(fzT_q t1 rfl),(fzT_q t3 (fzq_other (by decide))),(fzT_q t4 (fzq_other (by decide))),(fzT_q t5 rfl),(fzT_q t6 rfl),(fzT_q t7 rfl),(fzT_q t33 rfl),(kill_ne h1 (by decide)),(kill_self (congrArg Blk.ver h6)),(kill_ne h11 (by decide)),(kill_ne h14 (by decide)),trivial⟩ ?_
  intro T H ⟨t1,t3,t4,t5,t6,t7,t33,h1,h6,h11,h14,_⟩
  refine W_t (R_mv t5 (R_addN rfl (@rfl V (iV ((1:Nat):Int))) (by omega) (R_mv rfl (R_e ?_))))
  refine p12 _ _ _ ?_ ⟨(k+1),w2,Q,(v6+1),rfl,t1,t3,t4,(Eq.trans (@rfl V (iV ((k+1:Nat):Int))) (by rfl)),h1,h6,h11,h14,?_,?_,?_⟩
  · omega
  · omega
  · exact hiq
  · rw [hc2,whI_end (by omega)]; rfl
 refine W_seq_exit (p32 _ _ _ (x1 _ _ (.done (W_r (R_mv t4 (R_len_ms rfl h14 (by simp) (R_fk t1 h1 ?_)))))))
 refine R_lk rfl h1 rfl rfl (R_len rfl (R_eql rfl rfl (R_mv rfl (R_e (W_ret ?_)))))
 refine Ret_1 (@rfl V (V.bool (decide (((P.1.length:Nat):Int)=((t.nd.length:Nat):Int))))) (fz_bool ?_)
 · rw [whB_some (by rw [hc]; exact wh_end (by omega))]; exact decide_eq_decide.2 (by omega)
end Go.Proofs.YtmnjchcoigbngabGreat
namespace Go.Proofs.YtmnjchcoigbngabGreat
open Go Go.Proofs
theorem rdvalid_pure (t:Dt) (hb:Bd t):PureC Tryz.prog 77 [(V.agg [(V.sl (List.map cN (t.nd)))])] (iV (dvE t)):=by
 refine pW Tryz.func77 s77_ok fun hB=>?_
 unfold s77
 dsimp only
 refine W_r (R_box (i:=1) (n:=0) (m:=1) (cs:=[(V.sl (List.map cN (t.nd)))]) rfl (congrArg Blk.ver rfl) rfl rfl rfl (R_mv rfl (R_e (W_seq_seq (W_r (R_fk rfl rfl (R_lk rfl rfl rfl rfl ?_)))))))
 refine R_len rfl (R_eql rfl rfl (R_e ?_))
 refine W_seq_if rfl (fun c1=>?_) fun c1=>?_
 ·
  refine W_seq_seq (W_r (R_mv rfl (R_e (W_seq_ret ?_))))
  refine Ret_1 (@rfl V (iV (19:Int))) (fz_int ?_)
  · rw [dvE,if_pos (by omega)]
 refine W_seq_skip (W_seq_seq (W_r (R_fk rfl rfl (R_lk rfl rfl rfl rfl (R_len rfl (R_gtr rfl rfl (R_e ?_)))))))
 refine W_seq_if rfl (fun c2=>?_) fun c2=>?_
 ·
  refine W_seq_seq (W_r (R_mv rfl (R_e (W_seq_ret ?_))))
  refine Ret_1 (@rfl V (iV (11:Int))) (fz_int ?_)
  · rw [dvE,if_neg (by omega),if_pos (by omega)]
 refine W_seq_skip (W_seq_seq (W_r (R_mv rfl (R_e (W_seq_blockg fun Q3 n3 x3 y3 z3=>?_)))))
 refine W_loop (fun mm T H=> ∃ (k:Nat),mm=t.nd.length - k∧T 1=(V.mp 1 1 0 0)∧T 3=(iV ((k:Nat):Int))∧H 1=(bk 1 24 1 [[(V.sl (List.map cN (t.nd)))]])∧(k≤t.nd.length)∧(0 < t.nd.length)∧(t.nd.length≤4096)∧(∀ j,j < k→ndE (nth t.nd j) t.nd.length=0)∧(fe (fun k=>ndE (nth t.nd k) t.nd.length) 0 t.nd.length=fe (fun k=>ndE (nth t.nd k) t.nd.length) k (t.nd.length - k))) ?_ ?_
 ·
  refine ⟨_,0,rfl,rfl,(Eq.trans (@rfl V (iV (0:Int))) rfl),rfl,?_,?_,?_,?_,?_⟩
  · omega
  · omega
  · omega
  · intro j hj; omega
  · rfl
 intro mm T H ⟨k,hmm,t1,t3,h1,hk,g0,g1,hp,hc⟩ Q4 p14 p24 p34
 unfold b77_0
 refine W_seq_seq (W_r (R_mv t3 (R_fk t1 h1 (R_lk rfl h1 rfl rfl (R_len rfl (R_lss rfl rfl (R_e ?_)))))))
 refine W_seq_if rfl (fun c5=>?_) fun c5=>?_
 ·
  have r2:=hb.ou k (by omega)
  have r3:=hb.kd k (by omega)
  refine W_seq_skip (W_seq_blockg fun Q6 n6 x6 y6 z6=>(W_r (R_lk t1 h1 rfl rfl (R_fk t1 h1 (R_lk rfl h1 rfl rfl (R_mv t3 (R_idx (i:=k) (@rfl V (V.sl (List.map cN (t.nd)))) (@rfl V (iV ((k:Nat):Int))) (by omega) rfl ?_)))))))
  refine R_load_pp rfl rfl (R_callk (rnode_pure t (((nth (t.nd) (k)))) (by omega) (by omega)) rfl (R_mv rfl (R_e (W_r (R_mv rfl (R_neq rfl rfl (R_e ?_)))))))
  refine W_if rfl (fun c7=>?_) fun c7=>?_
  ·
   have d1:ndE (nth t.nd k) t.nd.length≠0:=c7
   refine W_r (R_mv rfl (R_mv rfl (R_e (W_ret (y6 _ _ (p24 _ _ (y3 _ _ ?_)))))))
   refine Ret_1 (@rfl V (iV (ndE (((nth (t.nd) (k)))) t.nd.length))) (fz_int ?_)
   · have e:fe (fun k=>ndE (nth t.nd k) t.nd.length) 0 t.nd.length=ndE (nth t.nd k) t.nd.length:=by rw [hc]; exact fe_hit (e:=fun k=>ndE (nth t.nd k) t.nd.length) d1 (by omega)
     rw [dvE,if_neg (by omega),if_neg (by omega),if_pos (by rw [e]; exact d1),e]
  have d1:ndE (nth t.nd k) t.nd.length=0:=by omega
  refine W_skip (n6 _ _ (.done (W_t (R_mv t3 (R_addN rfl (@rfl V (iV ((1:Nat):Int))) (by omega) (R_mv rfl (R_e ?_)))))))
  refine p14 _ _ _ ?_ ⟨(k+1),rfl,t1,(Eq.trans (@rfl V (iV ((k+1:Nat):Int))) (by rfl)),h1,?_,?_,?_,?_,?_⟩
  · omega
  · omega
  · omega
  · omega
  · intro i hi
    by_cases e:i=k
    · subst e; exact d1
    · exact hp i (by omega)
  · rw [hc,fe_skip (e:=fun k=>ndE (nth t.nd k) t.nd.length) (by exact d1) (by omega)]
 have hall: ∀ j,j < t.nd.length→ndE (nth t.nd j) t.nd.length=0:=fun j hj=>hp j (by omega)
 have hki:KI t:=nds_ki g0 hall
 have hz:fe (fun k=>ndE (nth t.nd k) t.nd.length) 0 t.nd.length=0:=by rw [hc,fe_end (by omega)]
 have haw: ∀ w∈acL t.nd,w.length≤1048576:=ac_len hb
 have hal:=acL_len t.nd
 refine W_seq_exit (p34 _ _ _ (x3 _ _ (.done (W_seq_seq (W_r (R_lk t1 h1 rfl rfl (R_callk (whole_pure t hki hb) rfl ?_)))))))
 refine R_notb rfl (R_e ?_)
 refine W_seq_ifb rfl (fun c8=>?_) (fun c8=>?_)
 ·
  have d3:whB t=false:=by simpa using c8
  refine W_seq_seq (W_r (R_mv rfl (R_e (W_seq_ret ?_))))
  refine Ret_1 (@rfl V (iV (1:Int))) (fz_int ?_)
  · rw [dvE,if_neg (by omega),if_neg (by omega),if_neg (by rw [hz]; simp),if_pos d3]
 have d3:whB t=true:=by simpa using c8
 refine W_seq_skip (W_r (R_lk t1 h1 rfl rfl (R_callk (raccess_pure t hb) rfl (R_mv rfl (R_e (W_seq_seq (W_r ?_)))))))
 refine R_mv rfl (R_callk (rsorted_pure (acL t.nd) (by omega) haw) rfl (R_len rfl (R_mv rfl (R_len rfl (R_neq rfl rfl (R_e ?_))))))
 refine W_seq_if rfl (fun c9=>?_) fun c9=>?_
 ·
  refine W_seq_seq (W_r (R_mv rfl (R_e (W_seq_ret ?_))))
  refine Ret_1 (@rfl V (iV (7:Int))) (fz_int ?_)
  · rw [dvE,if_neg (by omega),if_neg (by omega),if_neg (by rw [hz]; simp),if_neg (by simp [d3]),if_pos (by omega)]
 refine W_seq_skip (W_r (R_mv rfl (R_e (W_ret ?_))))
 refine Ret_1 (@rfl V (iV (0:Int))) (fz_int ?_)
 · rw [dvE,if_neg (by omega),if_neg (by omega),if_neg (by rw [hz]; simp),if_neg (by simp [d3]),if_neg (by omega)]
def b81_0:SC:=.seq (.seq (.reg [qM 6 5,qM 7 0,qN 8 7,qP 9 .lss 6 8]) (.cond (.t 9) (.skip) (.exit 0))) (.seq (.block 1 (.seq (.reg [qM 12 0,qM 13 5,qA 14 1 12 13,ql 15 14,qM 16 1,sO 17 (.call false 58 [.t 15,.t 16])]) (.cond (.t 17) (.seq (.reg [sO 4 (.mv (.c (.bool true)))]) (.ret)) (.skip)))) (.reg [qM 10 5,qC 11 .add 10 1,qM 5 11]))
def s81:SF:=⟨18,[.tmp 4],.seq (.reg [sO 4 (.mv (.c (.bool false)))]) (.seq (.seq (.reg [qI 5 0]) (.block 0 (.loop b81_0))) (.seq (.reg [sO 4 (.mv (.c (.bool false)))]) (.ret)))⟩
theorem s81_ok:slimF Tryz.prog ⟨[107,108,109,116,120,126,127,167,169,170,171,172,194,196,198,209,222,226],[]⟩ Tryz.f81=some s81:=by kernel_rfl
theorem rhas_pure (l:List (List Int)) (w:List Int):PureC Tryz.prog 81 [(intss l),(ints w)] (V.bool (decide (w∈l))):=by
 refine pW Tryz.func81 s81_ok fun hB=>?_
 unfold s81
 dsimp only
 refine W_r (R_mv rfl (R_e (W_seq_seq (W_r (R_mv rfl (R_e (W_seq_blockg fun Q1 n1 x1 y1 z1=>?_)))))))
 refine W_loop (fun mm T H=> ∃ (k:Nat),mm=l.length - k∧T 0=(intss l)∧T 1=(ints w)∧T 5=(iV ((k:Nat):Int))∧(k≤l.length)∧(∀ j,j < k→nth l j≠w)) ?_ ?_
 ·
  refine ⟨_,0,rfl,rfl,rfl,(Eq.trans (@rfl V (iV (0:Int))) rfl),?_,?_⟩
  · omega
  · intro j hj; omega
 intro mm T H ⟨k,hmm,t0,t1,t5,hk,hc⟩ Q2 p12 p22 p32
 unfold b81_0
 refine W_seq_seq (W_r (R_mv t5 (R_mv t0 (R_len rfl (R_lss rfl rfl (R_e ?_))))))
 refine W_seq_if rfl (fun c3=>?_) fun c3=>?_
 ·
  refine W_seq_skip (W_seq_blockg fun Q4 n4 x4 y4 z4=>(W_r (R_mv t0 (R_mv t5 (R_idx (i:=k) (@rfl V (intss l)) (@rfl V (iV ((k:Nat):Int))) (by omega) rfl (R_load_pp rfl rfl (R_mv t1 ?_)))))))
  refine R_callk (rsame1_pure ((nth (l) (k))) w) rfl (R_e ?_)
  refine W_if rfl (fun c5=>?_) fun c5=>?_
  ·
   have d1:=c5
   refine W_r (R_mv rfl (R_e (W_ret (y4 _ _ (p22 _ _ (y1 _ _ ?_))))))
   refine Ret_1 (@rfl V (V.bool true)) (fz_bool ?_)
   · exact (decide_eq_true (d1 ▸ nth_mem (by omega))).symm
  have d1:=c5
  refine W_skip (n4 _ _ (.done (W_t (R_mv t5 (R_addN rfl (@rfl V (iV ((1:Nat):Int))) (by omega) (R_mv rfl (R_e ?_)))))))
  refine p12 _ _ _ ?_ ⟨(k+1),rfl,t0,t1,(Eq.trans (@rfl V (iV ((k+1:Nat):Int))) (by rfl)),?_,?_⟩
  · omega
  · omega
  · intro j hj
    by_cases e:j=k
    · subst e; exact d1
    · exact hc j (by omega)
 refine W_seq_exit (p32 _ _ _ (x1 _ _ (.done (W_r (R_mv rfl (R_e (W_ret ?_)))))))
 refine Ret_1 (@rfl V (V.bool false)) (fz_bool ?_)
 · exact (decide_eq_false (fun e=>by obtain ⟨j,hj,q⟩:=in_nth e; exact hc j (by omega) q)).symm
theorem tvalid_pure (l:Ts) (hb:Bd l.t):PureC Tryz.prog 28 [(V.agg [(iV (l.i)),(V.sl (List.map cN (l.t.nd)))])] (iV (tvE l)):=by
 refine pW Tryz.func28 s28_ok fun hB=>?_
 unfold s28
 dsimp only
 refine W_r (R_box (i:=1) (n:=0) (m:=2) (cs:=[(iV (l.i)),(V.sl (List.map cN (l.t.nd)))]) rfl (congrArg Blk.ver rfl) rfl rfl rfl (R_mv rfl (R_e (W_seq_seq (W_r (R_fk rfl rfl (R_lk rfl rfl rfl rfl ?_)))))))
 refine R_lss rfl rfl (R_mv rfl ?_)
 refine Ops_seg 4 (fun T H=>T 1=(V.mp 1 1 0 0)∧T 15=(V.bool (decide (((l.i) < (1:Int))∨((64:Int) < (l.i)))))∧H 1=(bk 1 26 2 [[(iV (l.i)),(V.sl (List.map cN (l.t.nd)))]])∧True) ?_ ?_
 ·
  by_cases g1:(l.i) < (1:Int)
  ·
   refine G_n (edT g1 rfl) (G_n (edT g1 rfl) (G_n (edT g1 rfl) (R_pickT (edT g1 rfl) rfl ?_)))
   exact ⟨rfl,(dec_orT g1),rfl,trivial⟩
  ·
   refine G_yes (edF g1 rfl) (R_fk rfl rfl (G_yes (edF g1 rfl) (R_lk rfl rfl rfl rfl (G_yes (edF g1 rfl) (R_gtr rfl rfl (R_pickF (edF g1 rfl) rfl ?_))))))
   exact ⟨rfl,(dec_orF g1),rfl,trivial⟩
 intro T H ⟨t1,t15,h1,_⟩
 refine R_e ?_
 refine W_seq_if t15 (fun c2=>?_) fun c2=>?_
 ·
  refine W_seq_seq (W_r (R_mv rfl (R_e (W_seq_ret ?_))))
  refine Ret_1 (@rfl V (iV (2:Int))) (fz_int ?_)
  · unfold tvE; rw [if_pos (by omega)]
 refine W_seq_skip (W_seq_seq (W_r (R_fk t1 h1 (R_lk rfl h1 rfl rfl (R_callk (rdvalid_pure l.t hb) rfl (R_mv rfl (R_e ?_)))))))
 refine W_seq_seq (W_r (R_mv rfl (R_neq rfl rfl (R_e ?_))))
 refine W_seq_if rfl (fun c3=>?_) fun c3=>?_
 ·
  refine W_seq_seq (W_r (R_mv rfl (R_mv rfl (R_e (W_seq_ret ?_)))))
  refine Ret_1 (@rfl V (iV (dvE l.t))) (fz_int ?_)
  · unfold tvE; rw [if_neg (by omega),if_pos (by assumption)]
 have hv:dvE l.t=0:=by omega
 have hbn:=hb.n
 refine W_seq_skip (W_seq_seq (W_r (R_mv rfl (R_e (W_seq_blockg fun Q4 n4 x4 y4 z4=>?_)))))
 refine W_loop (fun mm T H=> ∃ (k:Nat),mm=l.t.nd.length - k∧T 1=(V.mp 1 1 0 0)∧T 4=(iV ((k:Nat):Int))∧H 1=(bk 1 26 2 [[(iV (l.i)),(V.sl (List.map cN (l.t.nd)))]])∧(k≤l.t.nd.length)∧(dvE l.t=0)∧(1≤l.i∧l.i≤64)∧(fe (wdE l) 0 l.t.nd.length=fe (wdE l) k (l.t.nd.length - k))) ?_ ?_
 ·
  refine ⟨_,0,rfl,t1,(Eq.trans (@rfl V (iV (0:Int))) rfl),h1,?_,?_,?_,?_⟩
  · omega
  · omega
  · omega
  · rfl
 intro mm T H ⟨k,hmm,t1,t4,h1,hk,hv,hr,hc⟩ Q5 p15 p25 p35
 unfold b28_0
 refine W_seq_seq (W_r (R_mv t4 (R_fk t1 h1 (R_fk rfl h1 (R_lk rfl h1 rfl rfl (R_len rfl (R_lss rfl rfl ?_)))))))
 refine R_e ?_
 refine W_seq_if rfl (fun c6=>?_) fun c6=>?_
 ·
  refine W_seq_skip (W_seq_blockg fun Q7 n7 x7 y7 z7=>(W_seq_seq (W_r (R_fk t1 h1 (R_fk rfl h1 (R_lk rfl h1 rfl rfl (R_mv t4 ?_)))))))
  refine R_idx (i:=k) (@rfl V (V.sl (List.map cN (l.t.nd)))) (@rfl V (iV ((k:Nat):Int))) (by omega) rfl (R_fld_pp (cs':=(List.drop 1 (cN (((nth (l.t.nd) (k))))))) rfl rfl (R_load_pp rfl rfl (R_fk t1 h1 (R_lk rfl h1 rfl rfl (R_callk (rcheck_pure (((nth (l.t.nd) (k))).ac) ((l.i))) rfl (R_mv rfl (R_e ?_)))))))
  refine W_seq_seq (W_r (R_mv rfl (R_neq rfl rfl (R_e ?_))))
  refine W_seq_if rfl (fun c8=>?_) fun c8=>?_
  ·
   have d1:wdE l k=wchk (nth l.t.nd k).ac l.i:=by unfold wdE; rw [if_pos c8]
   refine W_seq_seq (W_r (R_mv rfl (R_mv rfl (R_e (W_seq_ret (y7 _ _ (p25 _ _ ?_)))))))
   refine y4 _ _ ?_
   refine Ret_1 (@rfl V (iV (wchk (((nth (l.t.nd) (k))).ac) ((l.i))))) (fz_int ?_)
   · unfold tvE; rw [if_neg (by omega),if_neg (by omega),if_pos (by rw [hc,fe_hit (e:=wdE l) (by rw [d1]; assumption) (by omega),d1]; assumption),hc,fe_hit (e:=wdE l) (by rw [d1]; assumption) (by omega),d1]
  have d0:=c8
  refine W_seq_skip (W_r (R_fk t1 h1 (R_fk rfl h1 (R_lk rfl h1 rfl rfl (R_mv t4 (R_idx (i:=k) (@rfl V (V.sl (List.map cN (l.t.nd)))) (@rfl V (iV ((k:Nat):Int))) (by omega) rfl (R_fld_pp (cs':=(List.drop 2 (cN (((nth (l.t.nd) (k))))))) rfl rfl ?_)))))))
  refine R_load_pp rfl rfl (R_fk t1 h1 (R_lk rfl h1 rfl rfl (R_callk (rcheck_pure (((nth (l.t.nd) (k))).sf) ((l.i))) rfl (R_mv rfl (R_e (W_r (R_mv rfl ?_)))))))
  refine R_neq rfl rfl (R_e ?_)
  refine W_if rfl (fun c9=>?_) fun c9=>?_
  ·
   have d1:wdE l k=wchk (nth l.t.nd k).sf l.i:=by unfold wdE; rw [if_neg d0]
   refine W_r (R_mv rfl (R_mv rfl (R_e (W_ret (y7 _ _ (p25 _ _ (y4 _ _ ?_)))))))
   refine Ret_1 (@rfl V (iV (wchk (((nth (l.t.nd) (k))).sf) ((l.i))))) (fz_int ?_)
   · unfold tvE; rw [if_neg (by omega),if_neg (by omega),if_pos (by rw [hc,fe_hit (e:=wdE l) (by rw [d1]; assumption) (by omega),d1]; assumption),hc,fe_hit (e:=wdE l) (by rw [d1]; assumption) (by omega),d1]
  have d2:wdE l k=0:=by unfold wdE; rw [if_neg d0]; omega
  refine W_skip (n7 _ _ (.done (W_t (R_mv t4 (R_addN rfl (@rfl V (iV ((1:Nat):Int))) (by omega) (R_mv rfl (R_e ?_)))))))
  refine p15 _ _ _ ?_ ⟨(k+1),rfl,t1,(Eq.trans (@rfl V (iV ((k+1:Nat):Int))) (by rfl)),h1,?_,?_,?_,?_⟩
  · omega
  · omega
  · omega
  · omega
  · rw [hc,fe_skip (e:=wdE l) d2 (by omega)]
 refine W_seq_exit (p35 _ _ _ (x4 _ _ (.done (W_r (R_fk t1 h1 (R_lk rfl h1 rfl rfl (R_callk (raccess_pure l.t hb) rfl ?_)))))))
 refine R_mv rfl (R_e (W_seq_seq (W_r (R_mv rfl (R_call (evcons (@rfl V (intss (acL l.t.nd))) (evcons (@rfl V V.nilsl) evnil)) (rhas_pure (acL l.t.nd) ([])) (mcons (fzv_canon 6 _ (by simp [-List.map_take,-List.map_drop,-List.map_append,-List.map_reverse])) (mcons (by simp [fzv,Blk.own,h1]) rfl)) (by simp [-List.map_take,-List.map_drop,-List.map_append,-List.map_reverse]) (Or.inl (by simp [-List.map_take,-List.map_drop,-List.map_append,-List.map_reverse])) (R_not rfl (R_e ?_)))))))
 refine W_seq_if rfl (fun c10=>?_) fun c10=>?_
 ·
  have hz:fe (wdE l) 0 l.t.nd.length=0:=by rw [hc,fe_end (by omega)]
  have d3:[]∉acL l.t.nd:=by simpa using c10
  refine W_seq_seq (W_r (R_mv rfl (R_e (W_seq_ret ?_))))
  refine Ret_1 (@rfl V (iV (1:Int))) (fz_int ?_)
  · unfold tvE; rw [if_neg (by omega),if_neg (by omega),if_neg (by omega),if_pos d3]
 have hz:fe (wdE l) 0 l.t.nd.length=0:=by rw [hc,fe_end (by omega)]
 have d3: ¬([]∉acL l.t.nd):=by simpa using c10
 refine W_seq_skip (W_seq_seq (W_r (R_mv rfl (R_len rfl (R_gtr rfl rfl (R_e ?_))))))
 refine W_seq_if rfl (fun c11=>?_) fun c11=>?_
 ·
  refine W_seq_seq (W_r (R_mv rfl (R_e (W_seq_ret ?_))))
  refine Ret_1 (@rfl V (iV (11:Int))) (fz_int ?_)
  · unfold tvE; rw [if_neg (by omega),if_neg (by omega),if_neg (by omega),if_neg d3,if_pos (by omega)]
 refine W_seq_skip (W_r (R_mv rfl (R_e (W_ret ?_))))
 refine Ret_1 (@rfl V (iV (0:Int))) (fz_int ?_)
 · unfold tvE; rw [if_neg (by omega),if_neg (by omega),if_neg (by omega),if_neg d3,if_neg (by omega)]
def s29:SF:=⟨8,[.tmp 4],.seq (.reg [sO 2 (.box 24 1 (.t 0)),sO 3 (.box 46 4 (.t 1)),sO 4 (.mv (.c (.bool false)))]) (.seq (.reg [qL 5 1 2,qL 6 4 3,sO 7 (.call false 82 [.t 5,.t 6,.c (.int .i64 0)]),qM 4 7]) (.ret))⟩
theorem s29_ok:slimF Tryz.prog ⟨[107,108,109,116,120,126,127,167,169,170,171,172,194,196,198,209,222,226],[]⟩ Tryz.f29=some s29:=by kernel_rfl
def r82_1:List SO:=[
 qF 15 0 3,
 ql 16 15,
 qM 17 2,
 qA 18 5 16 17,
 qL 19 5 18,
 sO 7 (.alloc 99 [.bool false,.nilsl,.nilsl,.nilsl,.nilsl]),
 sN (.store 5 (.t 7) (.t 19))]
def r82_5:List SO:=[
 qL 27 1 3,
 qF 28 4 7,
 ql 29 28,
 qM 30 8,
 qA 31 1 29 30,
 ql 32 31,
 sO 33 (.call false 133 [.t 27,.t 32]),
 qM 9 33]
def r82_9:List SO:=[
 qL 41 4 4,
 qF 42 1 4,
 ql 43 42,
 qM 44 9,
 qM 45 10,
 qA 46 1 44 45,
 ql 47 46,
 sO 48 (.call false 83 [.t 41,.t 43,.t 47]),
 qM 40 48,
 qE 49 40 0,
 qE 50 40 1,
 qM 11 49,
 qM 12 50]
def r82_10:List SO:=[
 qL 52 4 4,
 qM 53 12,
 qF 54 2 7,
 ql 55 54,
 sO 56 (.call false 83 [.t 52,.t 53,.t 55]),
 qM 51 56,
 qE 57 51 0,
 qE 58 51 1,
 qM 13 57,
 qM 14 58]
def r82_11:List SO:=[
 qM 59 13,
 qF 60 3 7,
 ql 61 60,
 qM 62 8,
 qA 63 1 61 62,
 ql 64 63,
 sO 65 (.call false 98 [.t 59,.t 64]),
 sO 66 (.un .not (.t 65))]
def b82_1:SC:=.seq (.seq (.reg [qM 34 10,qM 35 9,qN 36 35,qP 37 .lss 34 36]) (.cond (.t 37) (.skip) (.exit 2))) (.seq (.block 3 (.seq (.reg r82_9) (.seq (.reg r82_10) (.seq (.reg r82_11) (.cond (.t 66) (.seq (.reg [sO 6 (.mv (.c (.bool false)))]) (.ret)) (.skip)))))) (.reg [qM 38 10,qC 39 .add 38 1,qM 10 39]))
def r82_13:List SO:=[
 qL 67 1 3,
 qL 68 4 4,
 qF 69 4 7,
 ql 70 69,
 qM 71 8,
 qA 72 1 70 71,
 ql 73 72,
 sO 74 (.call false 82 [.t 67,.t 68,.t 73]),
 sO 75 (.un .not (.t 74))]
def b82_0:SC:=.seq (.seq (.reg [qM 20 8,qF 21 4 7,ql 22 21,qN 23 22,qP 24 .lss 20 23]) (.cond (.t 24) (.skip) (.exit 0))) (.seq (.block 1 (.seq (.reg r82_5) (.seq (.seq (.reg [qI 10 0]) (.block 2 (.loop b82_1))) (.seq (.reg r82_13) (.cond (.t 75) (.seq (.reg [sO 6 (.mv (.c (.bool false)))]) (.ret)) (.skip)))))) (.reg [qM 25 8,qC 26 .add 25 1,qM 8 26]))
def s82:SF:=⟨76,[.tmp 6],.seq (.reg [sO 3 (.box 24 1 (.t 0)),sO 4 (.box 46 4 (.t 1)),sO 6 (.mv (.c (.bool false)))]) (.seq (.reg r82_1) (.seq (.seq (.reg [qI 8 0]) (.block 0 (.loop b82_0))) (.seq (.reg [sO 6 (.mv (.c (.bool true)))]) (.ret))))⟩
theorem s82_ok:slimF Tryz.prog ⟨[107,108,109,116,120,126,127,167,169,170,171,172,194,196,198,209,222,226],[]⟩ Tryz.f82=some s82:=by kernel_rfl
def r133_2:List SO:=[
 qF 13 0 2,
 ql 14 13,
 qM 15 1,
 qA 16 5 14 15,
 qF 17 1 16,
 ql 18 17,
 sO 19 (.bslice 54 1 false [.nilsl] 1 [(0,.t 18)]),
 qM 4 19]
def r133_5:List SO:=[
 qM 20 6,
 qF 21 0 2,
 ql 22 21,
 qM 23 1,
 qA 24 5 22 23,
 qF 25 4 24,
 ql 26 25,
 qN 27 26,
 qP 28 .lss 20 27]
def r133_7:List SO:=[
 qM 31 5,
 qL 32 1 2,
 qF 33 0 2,
 ql 34 33,
 qM 35 1,
 qA 36 5 34 35,
 qF 37 4 36,
 ql 38 37,
 qM 39 6,
 qA 40 1 38 39,
 ql 41 40,
 sO 42 (.call false 133 [.t 32,.t 41]),
 sO 43 (.append 54 1 24 (.t 31) (.t 42)),
 qM 5 43]
def b133_0:SC:=.seq (.seq (.reg r133_5) (.cond (.t 28) (.skip) (.exit 0))) (.seq (.block 1 (.reg r133_7)) (.reg [qM 29 6,qC 30 .add 29 1,qM 6 30]))
def s133:SF:=⟨45,[.tmp 4],.seq (.reg [sO 2 (.box 24 1 (.t 0)),sO 4 (.mv (.c (.nilsl)))]) (.seq (.seq (.reg [qF 7 0 2,ql 8 7,qM 9 1,qA 10 5 8 9,qF 11 0 10,ql 12 11]) (.cond (.t 12) (.seq (.reg r133_2) (.ret)) (.skip))) (.seq (.reg [sO 5 (.lazy 54 1)]) (.seq (.seq (.reg [qI 6 0]) (.block 0 (.loop b133_0))) (.seq (.reg [qM 44 5,qM 4 44]) (.ret)))))⟩
theorem s133_ok:slimF Tryz.prog ⟨[107,108,109,116,120,126,127,167,169,170,171,172,194,196,198,209,222,226],[5]⟩ Tryz.f133=some s133:=by kernel_rfl
theorem below_step (t:Dt) (n:Int) (hb:Bd t) (hv:dvE t=0) (f:Nat) (h0:0≤n) (hr:Rk t (f+1) n.toNat) (ih: ∀ m:Int,0≤m→Rk t f m.toNat→PureC Tryz.prog 133 [V.agg [V.sl (List.map cN t.nd)],iV m] (intss (blw t f m))):PureC Tryz.prog 133 [(V.agg [(V.sl (List.map cN (t.nd)))]),(iV (n))] (intss (blw t (f+1) n)):=by
 refine pW Tryz.func133 s133_ok fun hB=>?_
 unfold s133
 dsimp only
 have hlt:=hr.lt hv
 have hbn:=hb.n
 have hkd:=hb.kd _ hlt
 refine W_r (R_box (i:=2) (n:=0) (m:=1) (cs:=[(V.sl (List.map cN (t.nd)))]) rfl (congrArg Blk.ver rfl) rfl rfl rfl (R_mv rfl (R_e (W_seq_seq (W_r (R_fk rfl rfl (R_lk rfl rfl rfl rfl ?_)))))))
 refine R_mv rfl (R_idxI (i:=(n)) (@rfl V (V.sl (List.map cN (t.nd)))) (@rfl V (iV (n))) (by omega) (by omega) rfl (R_fld_pp (cs':=(cN (((nth (t.nd) (n).toNat))))) rfl rfl (R_load_pp rfl rfl (R_e ?_))))
 refine W_seq_ifb rfl (fun c1=>?_) (fun c1=>?_)
 ·
  have d1:(nth t.nd n.toNat).lf=true:=c1
  refine W_seq_seq (W_r (R_fk rfl rfl (R_lk rfl rfl rfl rfl (R_mv rfl (R_idxI (i:=(n)) (@rfl V (V.sl (List.map cN (t.nd)))) (@rfl V (iV (n))) (by omega) (by omega) rfl (R_fld_pp (cs':=(List.drop 1 (cN (((nth (t.nd) (n).toNat)))))) rfl rfl (R_load_pp rfl rfl ?_)))))))
  refine R_bslice rfl rfl (R_mv rfl (R_e (W_seq_ret ?_)))
  refine Ret_1 (@rfl V (V.sl [[(ints (((nth (t.nd) (n).toNat)).ac))]])) (fz_canon (by simp) ?_)
  · rw [blw,if_pos d1]; rfl
 have d1:(nth t.nd n.toNat).lf=false:=by simpa using c1
 have hin:=nd_in hv hlt d1
 have hbl:=blw_len hv (f:=f+1) h0 (by omega)
 have e1:blw t (f+1) n=(nth t.nd n.toNat).kd.flatMap (blw t f):=by rw [blw,if_neg (by rw [d1]; decide)]
 rw [e1] at hbl
 refine W_seq_skip (W_r (R_lazy (i:=5) (n:=0) rfl (congrArg Blk.ver rfl) (R_e (W_seq_seq (W_r (R_mv rfl (R_e ?_)))))))
 refine W_seq_blockg fun Q2 n2 x2 y2 z2=>?_
 refine W_loop (fun mm T H=> ∃ (k:Nat) (v:Nat),mm=(nth t.nd n.toNat).kd.length - k∧T 1=(iV (n))∧T 2=(V.mp 2 1 0 0)∧T 5=(V.ms 5 v 0 ((((nth t.nd n.toNat).kd.take k).flatMap (blw t f)).length))∧T 6=(iV ((k:Nat):Int))∧H 2=(bk 1 24 1 [[(V.sl (List.map cN (t.nd)))]])∧H 5=(bz v 54 1 (List.map cL (((nth t.nd n.toNat).kd.take k).flatMap (blw t f))))∧(k≤(nth t.nd n.toNat).kd.length)) ?_ ?_
 ·
  refine ⟨_,0,1,rfl,rfl,rfl,(Eq.trans (@rfl V (V.ms 5 1 0 (0))) (by rfl)),(Eq.trans (@rfl V (iV (0:Int))) rfl),rfl,(Eq.trans (@rfl Blk (bz 1 54 1 [])) (by rfl)),?_⟩
  · omega
 intro mm T H ⟨k,v,hmm,t1,t2,t5,t6,h2,h5,hk⟩ Q3 p13 p23 p33
 unfold b133_0
 have q1:=flat_pre (f:=blw t f) (l:=(nth t.nd n.toNat).kd) k
 refine W_seq_seq (W_r (R_mv t6 (R_fk t2 h2 (R_lk rfl h2 rfl rfl (R_mv t1 (R_idxI (i:=(n)) (@rfl V (V.sl (List.map cN (t.nd)))) (@rfl V (iV (n))) (by omega) (by omega) rfl (R_fld_pp (cs':=[(ints (((nth (t.nd) (n).toNat)).kd))]) rfl rfl ?_)))))))
 refine R_load_pp rfl rfl (R_len rfl (R_lss rfl rfl (R_e ?_)))
 refine W_seq_if rfl (fun c4=>?_) fun c4=>?_
 ·
  have hm:=nth_mem (show k < (nth t.nd n.toNat).kd.length by omega)
  have u2:=hin.kr _ hm
  have u3:Rk t f (nth (nth t.nd n.toNat).kd k).toNat:=hr.step hm u2.1
  have u4:=blw_len hv (f:=f) u2.1 u2.2
  refine W_seq_skip (W_seq_blockg fun Q5 n5 x5 y5 z5=>(W_t (R_mv t5 (R_lk t2 h2 rfl rfl (R_fk t2 h2 (R_lk rfl h2 rfl rfl (R_mv t1 ?_)))))))
  refine R_idxI (i:=(n)) (@rfl V (V.sl (List.map cN (t.nd)))) (@rfl V (iV (n))) (by omega) (by omega) rfl (R_fld_pp (cs':=[(ints (((nth (t.nd) (n).toNat)).kd))]) rfl rfl (R_load_pp rfl rfl (R_mv t6 (R_idx (i:=k) (@rfl V (ints (((nth (t.nd) (n).toNat)).kd))) (@rfl V (iV ((k:Nat):Int))) (by omega) rfl (R_load_pp rfl rfl (R_callc (evcons rfl (evcons rfl evnil)) (ih (nth (nth t.nd n.toNat).kd k) u2.1 u3) (R_appendS (l:=(((nth t.nd n.toNat).kd.take k).flatMap (blw t f))) (m:=(blw t f (nth (nth t.nd n.toNat).kd k))) (f:=cL) (@rfl V (V.ms 5 v 0 ((((nth t.nd n.toNat).kd.take k).flatMap (blw t f)).length))) h5 (by rfl) (@rfl V (intss (blw t f (nth (nth t.nd n.toNat).kd k)))) (fun _=>rfl) (fun _=>rfl) (by omega) (by omega) ?_)))))))
  refine R_mv rfl (R_e (n5 _ _ (.done (W_t (R_mv t6 (R_addN rfl (@rfl V (iV ((1:Nat):Int))) (by omega) (R_mv rfl ?_)))))))
  refine R_e ?_
  refine p13 _ _ _ ?_ ⟨(k+1),(v+1),rfl,t1,t2,(Eq.trans (@rfl V (V.ms 5 (v+1) 0 (((((nth t.nd n.toNat).kd.take k).flatMap (blw t f)).length)+(blw t f (nth (nth t.nd n.toNat).kd k)).length))) (by (rw [flat_take (by omega),List.length_append]; done))),(Eq.trans (@rfl V (iV ((k+1:Nat):Int))) (by rfl)),h2,(Eq.trans (@rfl Blk (bz (v+1) 54 1 (List.map cL (((nth t.nd n.toNat).kd.take k).flatMap (blw t f)++(blw t f (nth (nth t.nd n.toNat).kd k)))))) (by (rw [flat_take (by omega)]; done))),?_⟩
  · omega
  · omega
 refine W_seq_exit (p33 _ _ _ (x2 _ _ (.done (W_r (R_mv t5 (R_mv rfl (R_e ?_)))))))
 refine W_ret ?_
 refine Ret_1 (@rfl V (V.ms 5 v 0 ((((nth t.nd n.toNat).kd.take k).flatMap (blw t f)).length))) (fz_ms h5 (by simp) (l:=(((nth t.nd n.toNat).kd.take k).flatMap (blw t f))) rfl (by rfl) (fun _=>by simp) ?_)
 · rw [e1,show k=(nth t.nd n.toNat).kd.length by omega,List.take_length]
theorem below_pure (t:Dt) (hb:Bd t) (hv:dvE t=0): ∀ (f:Nat) (n:Int) (_:0≤n) (_:Rk t f n.toNat),PureC Tryz.prog 133 [V.agg [V.sl (List.map cN t.nd)],iV n] (intss (blw t f n))
  |0,_,_,hr=>absurd hr.pos (by omega)
  |f+1,n,h0,hr=>below_step t n hb hv f h0 hr fun m g0 gr=>below_pure t hb hv f m g0 gr
theorem sound_step (t:Dt) (m:M) (n:Int) (hb:Bd t) (hv:dvE t=0) (hm:mval m=0) (hw: ∀ k,k < t.nd.length→wchk (nth t.nd k).ac m.i=0∧wchk (nth t.nd k).sf m.i=0) (f:Nat) (h0:0≤n) (hr:Rk t (f+1) n.toNat) (ih: ∀ b:Int,0≤b→Rk t f b.toNat→PureC Tryz.prog 82 [V.agg [V.sl (List.map cN t.nd)],V.agg [iV m.i,iV m.s,intss m.nx,intss m.ot],iV b] (V.bool (sdB t m f b))):PureC Tryz.prog 82 [(V.agg [(V.sl (List.map cN (t.nd)))]),(V.agg [(iV (m.i)),(iV (m.s)),(intss m.nx),(intss m.ot)]),(iV (n))] (V.bool (sdB t m (f+1) n)):=by
 refine pW Tryz.func82 s82_ok fun hB=>?_
 unfold s82
 dsimp only
 have hlt:=hr.lt hv
 have hbn:=hb.n
 have hkd:=hb.kd _ hlt
 have hq:=mval_ok hm
 refine W_r (R_box (i:=3) (n:=0) (m:=1) (cs:=[(V.sl (List.map cN (t.nd)))]) rfl (congrArg Blk.ver rfl) rfl rfl rfl (R_box (i:=4) (n:=0) (m:=4) (cs:=[(iV (m.i)),(iV (m.s)),(intss m.nx),(intss m.ot)]) rfl (congrArg Blk.ver rfl) rfl rfl rfl (R_mv rfl (R_e (W_r (R_fk rfl rfl (R_lk rfl rfl rfl rfl ?_)))))))
 refine R_mv rfl (R_idxI (i:=(n)) (@rfl V (V.sl (List.map cN (t.nd)))) (@rfl V (iV (n))) (by omega) (by omega) rfl (R_load_pp rfl rfl (R_alloc (i:=7) (n:=0) (m:=5) rfl (congrArg Blk.ver rfl) rfl (R_sk rfl rfl rfl rfl rfl rfl rfl rfl rfl (R_e (W_seq_seq (W_r ?_)))))))
 refine R_mv rfl (R_e (W_seq_blockg fun Q1 n1 x1 y1 z1=>?_))
 refine W_loop (fun mm T H=> ∃ (k:Nat),mm=(nth t.nd n.toNat).kd.length - k∧T 3=(V.mp 3 1 0 0)∧T 4=(V.mp 4 1 0 0)∧T 7=(V.mp 7 1 0 0)∧T 8=(iV ((k:Nat):Int))∧H 3=(bk 1 24 1 [[(V.sl (List.map cN (t.nd)))]])∧H 4=(bk 1 46 4 [[(iV (m.i)),(iV (m.s)),(intss m.nx),(intss m.ot)]])∧H 7=(bk 1 99 5 [(cN (((nth (t.nd) (n).toNat))))])∧(k≤(nth t.nd n.toNat).kd.length)∧(fi (sdK t m f n (sdB t m f)) 0 (nth t.nd n.toNat).kd.length=fi (sdK t m f n (sdB t m f)) k ((nth t.nd n.toNat).kd.length - k))) ?_ ?_
 ·
  refine ⟨_,0,rfl,rfl,rfl,rfl,(Eq.trans (@rfl V (iV (0:Int))) rfl),rfl,rfl,rfl,?_,?_⟩
  · omega
  · rfl
 intro mm T H ⟨k,hmm,t3,t4,t7,t8,h3,h4,h7,hk,hc⟩ Q2 p12 p22 p32
 unfold b82_0
 refine W_seq_seq (W_r (R_mv t8 (R_fk t7 h7 (R_lk rfl h7 rfl rfl (R_len rfl (R_lss rfl rfl (R_e ?_)))))))
 refine W_seq_if rfl (fun c3=>?_) fun c3=>?_
 ·
  have d1:(nth t.nd n.toNat).lf=false:=by by_cases z:(nth t.nd n.toNat).lf=true; (have z2:=congrArg List.length (nd_lf hv hlt z).kd; rw [List.length_nil] at z2; omega); (simpa using z)
  have hin:=nd_in hv hlt d1
  have hm2:=nth_mem (show k < (nth t.nd n.toNat).kd.length by omega)
  have u2:=hin.kr _ hm2
  have u3:Rk t f (nth (nth t.nd n.toNat).kd k).toNat:=hr.step hm2 u2.1
  have hol:=hin.len
  have hbl:=blw_len hv (f:=f) u2.1 u2.2
  refine W_seq_skip (W_seq_blockg fun Q4 n4 x4 y4 z4=>(W_r (R_lk t3 h3 rfl rfl (R_fk t7 h7 (R_lk rfl h7 rfl rfl (R_mv t8 (R_idx (i:=k) (@rfl V (ints (((nth (t.nd) (n).toNat)).kd))) (@rfl V (iV ((k:Nat):Int))) (by omega) rfl ?_)))))))
  refine R_load_pp rfl rfl (R_callk (below_pure t hb hv f (((nth (((nth (t.nd) (n).toNat)).kd) (k)))) u2.1 u3) rfl (R_mv rfl (R_e (W_seq_seq (W_r (R_mv rfl (R_e ?_)))))))
  refine W_seq_blockg fun Q5 n5 x5 y5 z5=>?_
  refine W_loop (fun mm T H=> ∃ (j:Nat),mm=(blw t f (nth (nth t.nd n.toNat).kd k)).length - j∧T 3=(V.mp 3 1 0 0)∧T 4=(V.mp 4 1 0 0)∧T 7=(V.mp 7 1 0 0)∧T 8=(iV ((k:Nat):Int))∧T 9=(intss (blw t f (((nth (((nth (t.nd) (n).toNat)).kd) (k))))))∧T 10=(iV ((j:Nat):Int))∧H 3=(bk 1 24 1 [[(V.sl (List.map cN (t.nd)))]])∧H 4=(bk 1 46 4 [[(iV (m.i)),(iV (m.s)),(intss m.nx),(intss m.ot)]])∧H 7=(bk 1 99 5 [(cN (((nth (t.nd) (n).toNat))))])∧(j≤(blw t f (nth (nth t.nd n.toNat).kd k)).length)∧(fi (sdJ m (nth t.nd n.toNat).sf (nth (nth t.nd n.toNat).ou k) (blw t f (nth (nth t.nd n.toNat).kd k))) 0 (blw t f (nth (nth t.nd n.toNat).kd k)).length=fi (sdJ m (nth t.nd n.toNat).sf (nth (nth t.nd n.toNat).ou k) (blw t f (nth (nth t.nd n.toNat).kd k))) j ((blw t f (nth (nth t.nd n.toNat).kd k)).length - j))) ?_ ?_
  ·
   refine ⟨_,0,rfl,t3,t4,t7,t8,rfl,(Eq.trans (@rfl V (iV (0:Int))) rfl),h3,h4,h7,?_,?_⟩
   · omega
   · rfl
  intro mm T H ⟨j,hmm,t3,t4,t7,t8,t9,t10,h3,h4,h7,hj,hc2⟩ Q6 p16 p26 p36
  unfold b82_1
  refine W_seq_seq (W_r (R_mv t10 (R_mv t9 (R_len rfl (R_lss rfl rfl (R_e ?_))))))
  refine W_seq_if rfl (fun c7=>?_) fun c7=>?_
  ·
   have hwm:wchk (nth (blw t f (nth (nth t.nd n.toNat).kd k)) j) m.i=0:=by have z:=nth_mem (show j < (blw t f (nth (nth t.nd n.toNat).kd k)).length by omega); rw [blw_lb] at z ⊢; obtain ⟨b,hb1,hb2⟩:=List.mem_map.1 z; rw [← hb2]; have r:=(mem_lb hv u2.1 u2.2 hb1).2; exact (hw _ (by omega)).1
   have hg:=goal_in hm (nth (blw t f (nth (nth t.nd n.toNat).kd k)) j) m.s hq.2.2.2.2.1 hq.2.2.2.2.2.1 (wchk_ok hwm).2
   have hsf:=hw n.toNat hlt
   refine W_seq_skip (W_seq_blockg fun Q8 n8 x8 y8 z8=>(W_r (R_lk t4 h4 rfl rfl (R_fk t4 h4 (R_lk rfl h4 rfl rfl (R_mv t9 (R_mv t10 ?_)))))))
   refine R_idx (i:=j) (@rfl V (intss (blw t f (((nth (((nth (t.nd) (n).toNat)).kd) (k))))))) (@rfl V (iV ((j:Nat):Int))) (by omega) rfl (R_load_pp rfl rfl (R_callk (outs_pure m ((m.s)) ((nth (blw t f (((nth (((nth (t.nd) (n).toNat)).kd) (k))))) (j))) hm (by exact ⟨by omega,by omega⟩) (by exact (wchk_ok hwm).1) (by exact (wchk_ok hwm).2)) rfl (R_mv rfl (R_ext rfl rfl (R_ext rfl rfl (R_mv rfl (R_mv rfl ?_)))))))
   refine R_e (W_r (R_lk t4 h4 rfl rfl (R_mv rfl (R_fk t7 h7 (R_lk rfl h7 rfl rfl (R_callk (outs_pure m ((goal m ((m.s)) ((nth (blw t f (((nth (((nth (t.nd) (n).toNat)).kd) (k))))) (j))))) (((nth (t.nd) (n).toNat)).sf) hm (by exact ⟨by omega,by omega⟩) (by exact (wchk_ok hsf.2).1) (by exact (wchk_ok hsf.2).2)) rfl (R_mv rfl ?_)))))))
   refine R_ext rfl rfl (R_ext rfl rfl (R_mv rfl (R_mv rfl (R_e (W_r (R_mv rfl (R_fk t7 h7 ?_)))))))
   refine R_lk rfl h7 rfl rfl (R_mv t8 (R_idx (i:=k) (@rfl V (intss (((nth (t.nd) (n).toNat)).ou))) (@rfl V (iV ((k:Nat):Int))) (by omega) rfl (R_load_pp rfl rfl (R_callk (ints_pure (outs m ((goal m ((m.s)) ((nth (blw t f (((nth (((nth (t.nd) (n).toNat)).kd) (k))))) (j))))) (((nth (t.nd) (n).toNat)).sf)) ((nth (((nth (t.nd) (n).toNat)).ou) (k)))) rfl (R_not rfl (R_e ?_))))))
   refine W_if rfl (fun c9=>?_) fun c9=>?_
   ·
    have d2:sdJ m (nth t.nd n.toNat).sf (nth (nth t.nd n.toNat).ou k) (blw t f (nth (nth t.nd n.toNat).kd k)) j=true:=decide_eq_true c9
    have d3:sdK t m f n (sdB t m f) k=true:=by unfold sdK; rw [Bool.or_eq_true]; exact .inl (decide_eq_true (by rw [hc2,fi_hit (p:=sdJ m (nth t.nd n.toNat).sf (nth (nth t.nd n.toNat).ou k) (blw t f (nth (nth t.nd n.toNat).kd k))) d2 (by omega)]; omega))
    refine W_r (R_mv rfl (R_e (W_ret (y8 _ _ (p26 _ _ (y5 _ _ (y4 _ _ ?_)))))))
    refine p22 _ _ (y1 _ _ ?_)
    refine Ret_1 (@rfl V (V.bool false)) (fz_bool ?_)
    · unfold sdB; exact (decide_eq_false (by rw [hc,fi_hit (p:=sdK t m f n (sdB t m f)) d3 (by omega)]; omega)).symm
   have d2:sdJ m (nth t.nd n.toNat).sf (nth (nth t.nd n.toNat).ou k) (blw t f (nth (nth t.nd n.toNat).kd k)) j=false:=decide_eq_false c9
   refine W_skip (n8 _ _ (.done (W_t (R_mv t10 (R_addN rfl (@rfl V (iV ((1:Nat):Int))) (by omega) (R_mv rfl (R_e ?_)))))))
   refine p16 _ _ _ ?_ ⟨(j+1),rfl,t3,t4,t7,t8,t9,(Eq.trans (@rfl V (iV ((j+1:Nat):Int))) (by rfl)),h3,h4,h7,?_,?_⟩
   · omega
   · omega
   · rw [hc2,fi_skip (p:=sdJ m (nth t.nd n.toNat).sf (nth (nth t.nd n.toNat).ou k) (blw t f (nth (nth t.nd n.toNat).kd k))) d2 (by omega)]
  have e2:fi (sdJ m (nth t.nd n.toNat).sf (nth (nth t.nd n.toNat).ou k) (blw t f (nth (nth t.nd n.toNat).kd k))) 0 (blw t f (nth (nth t.nd n.toNat).kd k)).length < 0:=by rw [hc2,fi_end (by omega)]; omega
  refine W_seq_exit (p36 _ _ _ (x5 _ _ (.done (W_r (R_lk t3 h3 rfl rfl (R_lk t4 h4 rfl rfl (R_fk t7 h7 ?_)))))))
  refine R_lk rfl h7 rfl rfl (R_mv t8 (R_idx (i:=k) (@rfl V (ints (((nth (t.nd) (n).toNat)).kd))) (@rfl V (iV ((k:Nat):Int))) (by omega) rfl (R_load_pp rfl rfl (R_callc (evcons rfl (evcons rfl (evcons rfl evnil))) (ih (nth (nth t.nd n.toNat).kd k) u2.1 u3) (R_notb rfl (R_e ?_))))))
  refine W_ifb rfl (fun c10=>?_) (fun c10=>?_)
  ·
   have d3:sdK t m f n (sdB t m f) k=true:=by unfold sdK; rw [Bool.or_eq_true]; exact .inr c10
   refine W_r (R_mv rfl (R_e (W_ret (y4 _ _ (p22 _ _ (y1 _ _ ?_))))))
   refine Ret_1 (@rfl V (V.bool false)) (fz_bool ?_)
   · unfold sdB; exact (decide_eq_false (by rw [hc,fi_hit (p:=sdK t m f n (sdB t m f)) d3 (by omega)]; omega)).symm
  have d3:sdK t m f n (sdB t m f) k=false:=by unfold sdK; rw [Bool.or_eq_false_iff]; exact ⟨decide_eq_false (by omega),c10⟩
  refine W_skip (n4 _ _ (.done (W_t (R_mv t8 (R_addN rfl (@rfl V (iV ((1:Nat):Int))) (by omega) (R_mv rfl (R_e ?_)))))))
  refine p12 _ _ _ ?_ ⟨(k+1),rfl,t3,t4,t7,(Eq.trans (@rfl V (iV ((k+1:Nat):Int))) (by rfl)),h3,h4,h7,?_,?_⟩
  · omega
  · omega
  · rw [hc,fi_skip (p:=sdK t m f n (sdB t m f)) d3 (by omega)]
 refine W_seq_exit (p32 _ _ _ (x1 _ _ (.done (W_r (R_mv rfl (R_e (W_ret ?_)))))))
 refine Ret_1 (@rfl V (V.bool true)) (fz_bool ?_)
 · unfold sdB; exact (decide_eq_true (by rw [hc,fi_end (by omega)]; omega)).symm
theorem sound_pure (t:Dt) (m:M) (hb:Bd t) (hv:dvE t=0) (hm:mval m=0) (hw: ∀ k,k < t.nd.length→wchk (nth t.nd k).ac m.i=0∧wchk (nth t.nd k).sf m.i=0): ∀ (f:Nat) (n:Int) (_:0≤n) (_:Rk t f n.toNat),PureC Tryz.prog 82 [V.agg [V.sl (List.map cN t.nd)],V.agg [iV m.i,iV m.s,intss m.nx,intss m.ot],iV n] (V.bool (sdB t m f n))
  |0,_,_,hr=>absurd hr.pos (by omega)
  |f+1,n,h0,hr=>sound_step t m n hb hv hm hw f h0 hr fun b g0 gr=>sound_pure t m hb hv hm hw f b g0 gr
theorem confirmed_pure (t:Dt) (m:M) (hb:Bd t) (hv:dvE t=0) (hm:mval m=0) (hw: ∀ k,k < t.nd.length→wchk (nth t.nd k).ac m.i=0∧wchk (nth t.nd k).sf m.i=0):PureC Tryz.prog 29 [(V.agg [(V.sl (List.map cN (t.nd)))]),(V.agg [(iV (m.i)),(iV (m.s)),(intss m.nx),(intss m.ot)])] (V.bool (sdB t m t.nd.length 0)):=by
 refine pW Tryz.func29 s29_ok fun hB=>?_
 unfold s29
 dsimp only
 refine W_r (R_box (i:=2) (n:=0) (m:=1) (cs:=[(V.sl (List.map cN (t.nd)))]) rfl (congrArg Blk.ver rfl) rfl rfl rfl (R_box (i:=3) (n:=0) (m:=4) (cs:=[(iV (m.i)),(iV (m.s)),(intss m.nx),(intss m.ot)]) rfl (congrArg Blk.ver rfl) rfl rfl rfl (R_mv rfl (R_e (W_r (R_lk rfl rfl rfl rfl (R_lk rfl rfl rfl rfl ?_)))))))
 refine R_callk (sound_pure t m hb hv hm hw t.nd.length ((0:Int)) (by decide) (rk0 hv)) rfl (R_mv rfl (R_e (W_ret ?_)))
 refine Ret_1 (@rfl V (V.bool (sdB t m t.nd.length ((0:Int))))) (fz_bool ?_)
 · rfl
def r30_8:List SO:=[
 qL 29 4 3,
 qF 30 1 3,
 ql 31 30,
 qM 32 5,
 qM 33 6,
 qA 34 1 32 33,
 ql 35 34,
 sO 36 (.call false 83 [.t 29,.t 31,.t 35]),
 qM 28 36,
 qE 37 28 0,
 qE 38 28 1,
 qM 8 37,
 qM 9 38]
def r30_9:List SO:=[
 qL 40 4 3,
 qF 41 1 3,
 ql 42 41,
 qM 43 5,
 qM 44 7,
 qA 45 1 43 44,
 ql 46 45,
 sO 47 (.call false 83 [.t 40,.t 42,.t 46]),
 qM 39 47,
 qE 48 39 0,
 qE 49 39 1,
 qM 10 48,
 qM 11 49]
def r30_10:List SO:=[
 qL 51 4 3,
 qM 52 9,
 qM 53 11,
 sO 54 (.call false 84 [.t 51,.t 52,.t 53]),
 qM 50 54,
 qE 55 50 0,
 qE 56 50 1,
 qE 57 50 2,
 qM 12 55,
 qM 13 56,
 qM 14 57]
def b30_1:SC:=.seq (.seq (.reg [qM 23 7,qM 24 6,qP 25 .lss 23 24]) (.cond (.t 25) (.skip) (.exit 2))) (.seq (.block 3 (.seq (.reg r30_8) (.seq (.reg r30_9) (.seq (.reg r30_10) (.seq (.reg [qM 58 13,sO 59 (.un .not (.t 58))]) (.cond (.t 59) (.seq (.reg [sO 4 (.mv (.c (.bool false)))]) (.ret)) (.skip))))))) (.reg [qM 26 7,qC 27 .add 26 1,qM 7 27]))
def b30_0:SC:=.seq (.seq (.reg [qM 17 6,qM 18 5,qN 19 18,qP 20 .lss 17 19]) (.cond (.t 20) (.skip) (.exit 0))) (.seq (.block 1 (.seq (.reg [qI 7 0]) (.block 2 (.loop b30_1)))) (.reg [qM 21 6,qC 22 .add 21 1,qM 6 22]))
def s30:SF:=⟨60,[.tmp 4],.seq (.reg [sO 2 (.box 24 1 (.t 0)),sO 3 (.box 46 4 (.t 1)),sO 4 (.mv (.c (.bool false)))]) (.seq (.reg [qL 15 1 2,sO 16 (.call false 23 [.t 15]),qM 5 16]) (.seq (.seq (.reg [qI 6 0]) (.block 0 (.loop b30_0))) (.seq (.reg [sO 4 (.mv (.c (.bool true)))]) (.ret))))⟩
theorem s30_ok:slimF Tryz.prog ⟨[107,108,109,116,120,126,127,167,169,170,171,172,194,196,198,209,222,226],[]⟩ Tryz.f30=some s30:=by kernel_rfl
def s23:SF:=⟨9,[.tmp 2],.seq (.reg [sO 1 (.box 24 1 (.t 0)),sO 2 (.mv (.c (.nilsl)))]) (.seq (.seq (.reg [qL 3 1 1,sO 4 (.call false 77 [.t 3]),qC 5 .neq 4 0]) (.cond (.t 5) (.seq (.reg [sO 2 (.mv (.c (.nilsl)))]) (.ret)) (.skip))) (.seq (.reg [qL 6 1 1,sO 7 (.call false 54 [.t 6]),sO 8 (.call false 63 [.t 7]),qM 2 8]) (.ret)))⟩
theorem s23_ok:slimF Tryz.prog ⟨[107,108,109,116,120,126,127,167,169,170,171,172,194,196,198,209,222,226],[]⟩ Tryz.f23=some s23:=by kernel_rfl
theorem rleaves_pure (t:Dt) (hb:Bd t):PureC Tryz.prog 23 [(V.agg [(V.sl (List.map cN (t.nd)))])] (intss ((if dvE t=0 then sdW (acL t.nd) else []))):=by
 refine pW Tryz.func23 s23_ok fun hB=>?_
 unfold s23
 dsimp only
 have hal:=acL_len t.nd
 have hbn:=hb.n
 refine W_r (R_box (i:=1) (n:=0) (m:=1) (cs:=[(V.sl (List.map cN (t.nd)))]) rfl (congrArg Blk.ver rfl) rfl rfl rfl (R_mv rfl (R_e (W_seq_seq (W_r (R_lk rfl rfl rfl rfl (R_callk (rdvalid_pure t hb) rfl ?_)))))))
 refine R_neq rfl rfl (R_e ?_)
 refine W_seq_if rfl (fun c1=>?_) fun c1=>?_
 ·
  refine W_seq_seq (W_r (R_mv rfl (R_e (W_seq_ret ?_))))
  refine Ret_1 (@rfl V V.nilsl) (fz_nil ?_)
  · rw [if_neg (by omega)]
 refine W_seq_skip (W_r (R_lk rfl rfl rfl rfl (R_callk (raccess_pure t hb) rfl (R_callk (rsorted_pure (acL t.nd) (by omega) (ac_len hb)) rfl (R_mv rfl (R_e (W_ret ?_)))))))
 refine Ret_1 (@rfl V (intss (sdW (acL t.nd)))) (fz_sl ?_ (fun _=>by simp))
 · rw [if_pos (by omega)]
end Go.Proofs.YtmnjchcoigbngabGreat
