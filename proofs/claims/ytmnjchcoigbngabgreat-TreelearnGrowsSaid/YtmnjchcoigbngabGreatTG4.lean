/- Contracts of the functions that the law TG reaches, and the law itself, for every input; no condition. -/
import Derived.KernelRfl
import Derived.Test.YtmnjchcoigbngabGreatProg
import Derived.Test.YtmnjchcoigbngabGreatRows
import Derived.Test.YtmnjchcoigbngabGreatTG3
set_option linter.unusedSimpArgs false
set_option linter.unusedVariables false
namespace Go.Proofs.YtmnjchcoigbngabGreat
open Go Go.Proofs
def r126_3:List SO:=[
 qM 14 0,
 qM 15 2,
 qM 16 0,
 qM 17 3,
 qM 18 0,
 qM 19 3,
 qA 20 1 18 19,
 ql 21 20,
 qM 22 0,
 qM 23 2,
 qA 24 1 22 23,
 ql 25 24,
 qA 26 1 14 15,
 sN (.store 1 (.t 26) (.t 21)),
 qA 27 1 16 17,
 sN (.store 1 (.t 27) (.t 25))]
def b126_0:SC:=.seq (.seq (.reg [qM 7 2,qM 8 3,qP 9 .lss 7 8]) (.cond (.t 9) (.skip) (.exit 0))) (.seq (.block 1 (.reg r126_3)) (.reg [qM 10 2,qC 11 .add 10 1,qM 12 3,qC 13 .sub 12 1,qM 2 11,qM 3 13]))
def s126:SF:=⟨28,[],.seq (.reg [qM 4 0,qN 5 4,qC 6 .sub 5 1,qI 2 0,qM 3 6]) (.block 0 (.loop b126_0))⟩
theorem s126_ok:slimF Tryz.prog ⟨[107,108,109,116,120,126,127,167,169,170,171,172,194,196,198,209,222,226],[]⟩ Tryz.f126=some s126:=by kernel_rfl
theorem revcL52_E (l:List (List Int)) (v:Nat) (z:Bool) (Hi:Heap) (hq:Hi 52=(⟨v,true,z,54,1,(List.map cL (l))⟩:Blk)) (hl:l.length≤1073741824):CallOK Tryz.prog 126 [(V.ms 52 v 0 (l.length))] Hi (V.tup []) (upd Hi 52 (⟨v,true,z,54,1,(List.map cL (l.reverse))⟩:Blk)):=by
 refine eW (k0:=600) Tryz.func126 s126_ok fun hB=>?_
 unfold s126
 dsimp only
 refine W_r (R_mv rfl (R_len_ms rfl hq (by simp) (R_sub rfl rfl (by omega) (by omega) (R_mv rfl (R_mv rfl (R_e (W_block fun Q1 n1 x1 y1 z1=>?_)))))))
 refine W_loop (fun mm T H=> ∃ (k:Nat),mm=l.length - k∧T 0=(V.ms 52 v 0 (l.length))∧T 2=(iV ((k:Nat):Int))∧T 3=(iV (((l.length:Nat):Int) - 1 - k))∧(∀ j,j∉[52]→H j=Hi j)∧H 52=(⟨v,true,z,54,1,(List.map cL (rvL l k))⟩:Blk)∧(2*k≤l.length+1)) ?_ ?_
 ·
  refine ⟨_,0,rfl,rfl,(Eq.trans (@rfl V (iV (0:Int))) rfl),(Eq.trans (@rfl V (iV (((l.length:Nat):Int) - (1:Int)))) (by (exact congrArg (V.int .i64) (by omega)))),(fun _ _=>rfl),(Eq.trans hq (by (rw [rv_zero]; done))),?_⟩
  · omega
 intro mm T H ⟨k,hmm,t0,t2,t3,hF,h52,hk⟩ Q2 p12 p22 p32
 unfold b126_0
 have q1:=rv_len l k
 refine W_seq_seq (W_r (R_mv t2 (R_mv t3 (R_lss rfl rfl (R_e ?_)))))
 refine W_seq_if rfl (fun c3=>?_) fun c3=>?_
 ·
  refine W_seq_skip (W_seq_blockg fun Q4 n4 x4 y4 z4=>(W_t (R_mv t0 (R_mv t2 (R_mv t0 (R_mv t3 (R_mv t0 ?_)))))))
  refine R_mv t3 (R_idxI_ms0 (i:=(((l.length:Nat):Int) - 1 - k)) (@rfl V (V.ms 52 v 0 (l.length))) (@rfl V (iV (((l.length:Nat):Int) - 1 - k))) h52 (okB_map (by omega)) rfl (by omega) (by omega) (R_load_mp (v:=(ints ((nth (rvL l k) (((((l.length:Nat):Int) - 1 - k)).toNat))))) rfl h52 (ldB_map (by omega) (by rfl)) (R_mv t0 (R_mv t2 (R_idx_ms0 (i:=k) (@rfl V (V.ms 52 v 0 (l.length))) (@rfl V (iV ((k:Nat):Int))) h52 (okB_map (by omega)) rfl (by omega) (R_load_mp (v:=(ints ((nth (rvL l k) (k))))) rfl h52 (ldB_map (by omega) (by rfl)) (R_idx_ms0 (i:=k) (@rfl V (V.ms 52 v 0 (l.length))) (@rfl V (iV ((k:Nat):Int))) h52 (okB_map (by omega)) rfl (by omega) ?_)))))))
  refine R_store (vs:=[(ints ((nth (rvL l k) (((((l.length:Nat):Int) - 1 - k)).toNat))))]) (B':=(⟨v,true,z,54,1,(List.map cL ((rvL l k).set k ((nth (rvL l k) (((((l.length:Nat):Int) - 1 - k)).toNat)))))⟩:Blk)) rfl rfl rfl h52 (stB_map (x:=((nth (rvL l k) (((((l.length:Nat):Int) - 1 - k)).toNat)))) (i:=k) (by omega) rfl rfl rfl rfl) (R_idxI_ms0 (i:=(((l.length:Nat):Int) - 1 - k)) (@rfl V (V.ms 52 v 0 (l.length))) (@rfl V (iV (((l.length:Nat):Int) - 1 - k))) (@rfl Blk (⟨v,true,z,54,1,(List.map cL ((rvL l k).set k ((nth (rvL l k) (((((l.length:Nat):Int) - 1 - k)).toNat)))))⟩:Blk)) (okB_map (by (simp only [List.length_set]; omega))) rfl (by omega) (by omega) (R_store (vs:=[(ints ((nth (rvL l k) (k))))]) (B':=(⟨v,true,z,54,1,(List.map cL (((rvL l k).set k ((nth (rvL l k) (((((l.length:Nat):Int) - 1 - k)).toNat)))).set (((((l.length:Nat):Int) - 1 - k)).toNat) ((nth (rvL l k) (k)))))⟩:Blk)) rfl rfl rfl (@rfl Blk (⟨v,true,z,54,1,(List.map cL ((rvL l k).set k ((nth (rvL l k) (((((l.length:Nat):Int) - 1 - k)).toNat)))))⟩:Blk)) (stB_map (x:=((nth (rvL l k) (k)))) (i:=(((((l.length:Nat):Int) - 1 - k)).toNat)) (by (simp only [List.length_set]; omega)) rfl rfl rfl rfl) (R_e (n4 _ _ (.done (W_t (R_mv t2 ?_)))))))
  refine R_addN rfl (@rfl V (iV ((1:Nat):Int))) (by omega) (R_mv t3 (R_sub rfl rfl (by omega) (by omega) (R_mv rfl (R_mv rfl (R_e ?_)))))
  refine p12 _ _ _ ?_ ⟨(k+1),rfl,t0,(Eq.trans (@rfl V (iV ((k+1:Nat):Int))) (by rfl)),(Eq.trans (@rfl V (iV ((((l.length:Nat):Int) - 1 - k) - (1:Int)))) (by (exact congrArg (V.int .i64) (by omega)))),(upd_out (upd_out hF (by decide)) (by decide)),(Eq.trans (@rfl Blk (⟨v,true,z,54,1,(List.map cL (((rvL l k).set k ((nth (rvL l k) (((((l.length:Nat):Int) - 1 - k)).toNat)))).set (((((l.length:Nat):Int) - 1 - k)).toNat) ((nth (rvL l k) (k)))))⟩:Blk)) (by (rw [show (((l.length:Nat):Int) - 1 - (k:Int)).toNat=l.length - 1 - k by omega,rv_step (by omega) (by omega)]; done))),?_⟩
  · omega
  · omega
 refine W_seq_exit (p32 _ _ _ (x1 _ _ (fork_ (R:=fun T H=>T 0=(V.ms 52 v 0 (l.length))∧T 2=(iV ((k:Nat):Int))∧T 3=(iV (((l.length:Nat):Int) - 1 - k))∧T 9=(V.bool (decide (((k:Nat):Int) < (((l.length:Nat):Int) - 1 - k))))∧(∀ j,j∉[52]→H j=Hi j)∧H 52=(⟨v,true,z,54,1,(List.map cL (rvL l k))⟩:Blk)∧True) ⟨t0,t2,t3,(@rfl V (V.bool (decide (((k:Nat):Int) < (((l.length:Nat):Int) - 1 - k))))),hF,h52,trivial⟩ ?_)))
 intro T H ⟨t0,t2,t3,t9,hF,h52,_⟩
 skip
 have fh:=FinX.fin (FinX.put (B:=(⟨v,true,z,54,1,(List.map cL (l.reverse))⟩:Blk)) (FinX.start hF) h52 (FinB.eq (by (rw [rv_end (by omega) (by omega)]; done))))
 exact RetF_0 fh
def r127_3:List SO:=[
 qM 14 0,
 qM 15 2,
 qM 16 0,
 qM 17 3,
 qM 18 0,
 qM 19 3,
 qA 20 1 18 19,
 ql 21 20,
 qM 22 0,
 qM 23 2,
 qA 24 1 22 23,
 ql 25 24,
 qA 26 1 14 15,
 sN (.store 1 (.t 26) (.t 21)),
 qA 27 1 16 17,
 sN (.store 1 (.t 27) (.t 25))]
def b127_0:SC:=.seq (.seq (.reg [qM 7 2,qM 8 3,qP 9 .lss 7 8]) (.cond (.t 9) (.skip) (.exit 0))) (.seq (.block 1 (.reg r127_3)) (.reg [qM 10 2,qC 11 .add 10 1,qM 12 3,qC 13 .sub 12 1,qM 2 11,qM 3 13]))
def s127:SF:=⟨28,[],.seq (.reg [qM 4 0,qN 5 4,qC 6 .sub 5 1,qI 2 0,qM 3 6]) (.block 0 (.loop b127_0))⟩
theorem s127_ok:slimF Tryz.prog ⟨[107,108,109,116,120,126,127,167,169,170,171,172,194,196,198,209,222,226],[]⟩ Tryz.f127=some s127:=by kernel_rfl
theorem revcI60_E (l:List Int) (v:Nat) (z:Bool) (Hi:Heap) (hq:Hi 60=(⟨v,true,z,3,1,(List.map cI (l))⟩:Blk)) (hl:l.length≤1073741824):CallOK Tryz.prog 127 [(V.ms 60 v 0 (l.length))] Hi (V.tup []) (upd Hi 60 (⟨v,true,z,3,1,(List.map cI (l.reverse))⟩:Blk)):=by
 refine eW (k0:=600) Tryz.func127 s127_ok fun hB=>?_
 unfold s127
 dsimp only
 refine W_r (R_mv rfl (R_len_ms rfl hq (by simp) (R_sub rfl rfl (by omega) (by omega) (R_mv rfl (R_mv rfl (R_e (W_block fun Q1 n1 x1 y1 z1=>?_)))))))
 refine W_loop (fun mm T H=> ∃ (k:Nat),mm=l.length - k∧T 0=(V.ms 60 v 0 (l.length))∧T 2=(iV ((k:Nat):Int))∧T 3=(iV (((l.length:Nat):Int) - 1 - k))∧(∀ j,j∉[60]→H j=Hi j)∧H 60=(⟨v,true,z,3,1,(List.map cI (rvL l k))⟩:Blk)∧(2*k≤l.length+1)) ?_ ?_
 ·
  refine ⟨_,0,rfl,rfl,(Eq.trans (@rfl V (iV (0:Int))) rfl),(Eq.trans (@rfl V (iV (((l.length:Nat):Int) - (1:Int)))) (by (exact congrArg (V.int .i64) (by omega)))),(fun _ _=>rfl),(Eq.trans hq (by (rw [rv_zero]; done))),?_⟩
  · omega
 intro mm T H ⟨k,hmm,t0,t2,t3,hF,h60,hk⟩ Q2 p12 p22 p32
 unfold b127_0
 have q1:=rv_len l k
 refine W_seq_seq (W_r (R_mv t2 (R_mv t3 (R_lss rfl rfl (R_e ?_)))))
 refine W_seq_if rfl (fun c3=>?_) fun c3=>?_
 ·
  refine W_seq_skip (W_seq_blockg fun Q4 n4 x4 y4 z4=>(W_t (R_mv t0 (R_mv t2 (R_mv t0 (R_mv t3 (R_mv t0 ?_)))))))
  refine R_mv t3 (R_idxI_ms0 (i:=(((l.length:Nat):Int) - 1 - k)) (@rfl V (V.ms 60 v 0 (l.length))) (@rfl V (iV (((l.length:Nat):Int) - 1 - k))) h60 (okB_map (by omega)) rfl (by omega) (by omega) (R_load_mp (v:=(iV ((nth (rvL l k) (((((l.length:Nat):Int) - 1 - k)).toNat))))) rfl h60 (ldB_map (by omega) (by rfl)) (R_mv t0 (R_mv t2 (R_idx_ms0 (i:=k) (@rfl V (V.ms 60 v 0 (l.length))) (@rfl V (iV ((k:Nat):Int))) h60 (okB_map (by omega)) rfl (by omega) (R_load_mp (v:=(iV ((nth (rvL l k) (k))))) rfl h60 (ldB_map (by omega) (by rfl)) (R_idx_ms0 (i:=k) (@rfl V (V.ms 60 v 0 (l.length))) (@rfl V (iV ((k:Nat):Int))) h60 (okB_map (by omega)) rfl (by omega) ?_)))))))
  refine R_store (vs:=[(iV ((nth (rvL l k) (((((l.length:Nat):Int) - 1 - k)).toNat))))]) (B':=(⟨v,true,z,3,1,(List.map cI ((rvL l k).set k (((nth (rvL l k) (((((l.length:Nat):Int) - 1 - k)).toNat))))))⟩:Blk)) rfl rfl rfl h60 (stB_map (x:=(((nth (rvL l k) (((((l.length:Nat):Int) - 1 - k)).toNat))))) (i:=k) (by omega) rfl rfl rfl rfl) (R_idxI_ms0 (i:=(((l.length:Nat):Int) - 1 - k)) (@rfl V (V.ms 60 v 0 (l.length))) (@rfl V (iV (((l.length:Nat):Int) - 1 - k))) (@rfl Blk (⟨v,true,z,3,1,(List.map cI ((rvL l k).set k (((nth (rvL l k) (((((l.length:Nat):Int) - 1 - k)).toNat))))))⟩:Blk)) (okB_map (by (simp only [List.length_set]; omega))) rfl (by omega) (by omega) (R_store (vs:=[(iV ((nth (rvL l k) (k))))]) (B':=(⟨v,true,z,3,1,(List.map cI (((rvL l k).set k (((nth (rvL l k) (((((l.length:Nat):Int) - 1 - k)).toNat))))).set (((((l.length:Nat):Int) - 1 - k)).toNat) (((nth (rvL l k) (k))))))⟩:Blk)) rfl rfl rfl (@rfl Blk (⟨v,true,z,3,1,(List.map cI ((rvL l k).set k (((nth (rvL l k) (((((l.length:Nat):Int) - 1 - k)).toNat))))))⟩:Blk)) (stB_map (x:=(((nth (rvL l k) (k))))) (i:=(((((l.length:Nat):Int) - 1 - k)).toNat)) (by (simp only [List.length_set]; omega)) rfl rfl rfl rfl) (R_e (n4 _ _ (.done (W_t (R_mv t2 ?_)))))))
  refine R_addN rfl (@rfl V (iV ((1:Nat):Int))) (by omega) (R_mv t3 (R_sub rfl rfl (by omega) (by omega) (R_mv rfl (R_mv rfl (R_e ?_)))))
  refine p12 _ _ _ ?_ ⟨(k+1),rfl,t0,(Eq.trans (@rfl V (iV ((k+1:Nat):Int))) (by rfl)),(Eq.trans (@rfl V (iV ((((l.length:Nat):Int) - 1 - k) - (1:Int)))) (by (exact congrArg (V.int .i64) (by omega)))),(upd_out (upd_out hF (by decide)) (by decide)),(Eq.trans (@rfl Blk (⟨v,true,z,3,1,(List.map cI (((rvL l k).set k (((nth (rvL l k) (((((l.length:Nat):Int) - 1 - k)).toNat))))).set (((((l.length:Nat):Int) - 1 - k)).toNat) (((nth (rvL l k) (k))))))⟩:Blk)) (by (rw [show (((l.length:Nat):Int) - 1 - (k:Int)).toNat=l.length - 1 - k by omega,rv_step (by omega) (by omega)]; done))),?_⟩
  · omega
  · omega
 refine W_seq_exit (p32 _ _ _ (x1 _ _ (fork_ (R:=fun T H=>T 0=(V.ms 60 v 0 (l.length))∧T 2=(iV ((k:Nat):Int))∧T 3=(iV (((l.length:Nat):Int) - 1 - k))∧T 9=(V.bool (decide (((k:Nat):Int) < (((l.length:Nat):Int) - 1 - k))))∧(∀ j,j∉[60]→H j=Hi j)∧H 60=(⟨v,true,z,3,1,(List.map cI (rvL l k))⟩:Blk)∧True) ⟨t0,t2,t3,(@rfl V (V.bool (decide (((k:Nat):Int) < (((l.length:Nat):Int) - 1 - k))))),hF,h60,trivial⟩ ?_)))
 intro T H ⟨t0,t2,t3,t9,hF,h60,_⟩
 skip
 have fh:=FinX.fin (FinX.put (B:=(⟨v,true,z,3,1,(List.map cI (l.reverse))⟩:Blk)) (FinX.start hF) h60 (FinB.eq (by (rw [rv_end (by omega) (by omega)]; done))))
 exact RetF_0 fh
theorem dsplit_pure (t:Dt) (n:Int) (sf outs w other:List Int) (hb:Bd t) (hsf:sf.length≤1048576) (ho:outs.length≤1048576) (hw:w.length≤1048576) (hot:other.length≤1048576):PureC Tryz.prog 73 [(V.agg [(V.sl (List.map cN (t.nd)))]),(iV (n)),(ints sf),(ints outs),(ints w),(ints other)] (V.tup [(V.agg [(V.sl (List.map cN ((spT t n sf outs w other).nd)))]),(iV (spE t n sf outs w other))]):=by
 refine pW Tryz.func73 s73_ok fun hB=>?_
 unfold s73
 dsimp only
 have hbn:=hb.n
 refine W_r (R_box (i:=6) (n:=0) (m:=1) (cs:=[(V.sl (List.map cN (t.nd)))]) rfl (congrArg Blk.ver rfl) rfl rfl rfl (R_alloc (i:=12) (n:=0) (m:=1) rfl (congrArg Blk.ver rfl) rfl (R_mv rfl (R_e (W_seq_seq (W_r (R_lk rfl rfl rfl rfl ?_)))))))
 refine R_callk (dvalid_pure t hb) rfl (R_mv rfl (R_e (W_seq_seq (W_r (R_mv rfl (R_neq rfl rfl (R_e ?_)))))))
 refine W_seq_if rfl (fun c1=>?_) fun c1=>?_
 ·
  refine W_seq_seq (W_r (R_lk rfl rfl rfl rfl (R_mv rfl (R_sk rfl rfl rfl rfl rfl rfl rfl rfl rfl (R_mv rfl (R_e (W_seq_ret ?_)))))))
  refine RetC_2 (resV_c (u:=(V.agg [(V.sl (List.map cN (t.nd)))])) rfl (@rfl Blk (bk 1 24 1 [[(V.sl (List.map cN (t.nd)))]])) (lB oB rfl rfl)) (resV_t (@rfl V (iV (dvE t)))) (fz_agg1 (fz_sl ?_ (fun _=>by simp))) (fz_int ?_)
  · rw [spT_no (by unfold spE; rw [if_pos (by omega)]; omega)]
  · unfold spE; rw [if_pos (by omega)]
 refine W_seq_skip (W_seq_seq (W_r (R_lk rfl rfl rfl rfl (R_mv rfl (R_mv rfl (R_mv rfl (R_mv rfl ?_)))))))
 refine R_mv rfl (R_callk (dsplits_pure t ((n)) sf outs w other hb) rfl (R_mv rfl (R_e (W_seq_seq (W_r (R_mv rfl (R_neq rfl rfl ?_)))))))
 refine R_e ?_
 refine W_seq_if rfl (fun c2=>?_) fun c2=>?_
 ·
  refine W_seq_seq (W_r (R_lk rfl rfl rfl rfl (R_mv rfl (R_sk rfl rfl rfl rfl rfl rfl rfl rfl rfl (R_mv rfl (R_e (W_seq_ret ?_)))))))
  refine RetC_2 (resV_c (u:=(V.agg [(V.sl (List.map cN (t.nd)))])) rfl (@rfl Blk (bk 1 24 1 [[(V.sl (List.map cN (t.nd)))]])) (lB oB rfl rfl)) (resV_t (@rfl V (iV (spsE t ((n)) sf outs w other)))) (fz_agg1 (fz_sl ?_ (fun _=>by simp))) (fz_int ?_)
  · rw [spT_no (by unfold spE; rw [if_neg (by omega)]; omega)]
  · unfold spE; rw [if_neg (by omega)]
 have hE:spE t n sf outs w other=0:=by unfold spE; rw [if_neg (by omega)]; omega
 obtain ⟨y1,y2,y3,y4,y5,y6,y7,y8,y9⟩:=sp_ok hE
 obtain ⟨n0,n1,n2⟩:=no_ok y2
 have nb:n.toNat < t.nd.length:=by omega
 refine W_seq_skip (W_r (R_lk rfl rfl rfl rfl (R_callE (evcons rfl evnil) (copied_E t 0 0 0 0 0 0 _ hb (congrArg Blk.ver rfl) (congrArg Blk.ver rfl) (congrArg Blk.ver rfl) (congrArg Blk.ver rfl) (congrArg Blk.ver rfl) ⟨congrArg Blk.ver rfl,congrArg Blk.live rfl⟩) (R_alloc (i:=16) (n:=0) (m:=1) rfl (congrArg Blk.ver rfl) rfl (R_sk rfl rfl rfl rfl rfl rfl rfl rfl rfl (R_e (W_r ?_)))))))
 refine R_fk rfl rfl (R_lk rfl rfl rfl rfl (R_mv rfl (R_idxI_ms0 (i:=(n)) (@rfl V (V.ms 212 1 0 (t.nd.length))) (@rfl V (iV (n))) (@rfl Blk (bk 1 99 5 (List.map cN (t.nd)))) oB rfl (by omega) (by omega) (R_load_mp (v:=(V.agg (cN (((nth (t.nd) (((n)).toNat))))))) rfl (@rfl Blk (bk 1 99 5 (List.map cN (t.nd)))) (ldB_map (by omega) (by rfl)) (R_alloc (i:=17) (n:=0) (m:=5) rfl (congrArg Blk.ver rfl) rfl (R_sk rfl rfl rfl rfl rfl rfl rfl rfl rfl (R_e ?_)))))))
 refine W_seq_dregc (fun T H=>T 1=(iV (n))∧T 3=(ints outs)∧T 4=(ints w)∧T 5=(ints other)∧T 12=(V.mp 12 1 0 0)∧T 16=(V.mp 16 1 0 0)∧T 17=(V.mp 17 1 0 0)∧T 18=(V.mp 18 1 0 0)∧H 6=(bk 1 24 1 [[(V.sl (List.map cN (t.nd)))]])∧H 12=(bk 1 24 1 [[V.nilsl]])∧H 16=(bk 1 24 1 [[(V.ms 212 1 0 (t.nd.length))]])∧H 17=(bk 1 99 5 [(cN (((nth (t.nd) (((n)).toNat)))))])∧H 18=(bk 1 99 5 [[(V.bool false),V.nilsl,(ints (cat ([sf]))),(V.ms 52 1 0 (2)),(V.ms 60 1 0 (2))]])∧H 52=(bk 1 54 1 [[(ints (cat ([outs])))],[(ints (cat ([other])))]])∧H 60=(bk 1 3 1 [[(iV ((t.nd.length:Nat):Int))],[(iV ((t.nd.length+1:Nat):Int))]])∧H 201=(⟨1,false,false,0,0,[]⟩:Blk)∧H 202=(⟨1,false,false,0,0,[]⟩:Blk)∧H 205=(⟨0+t.nd.length,false,false,0,0,[]⟩:Blk)∧H 212=(bk 1 99 5 (List.map cN (t.nd)))∧H 228=(⟨0+t.nd.length*1048578,false,false,0,0,[]⟩:Blk)∧H 258=(⟨0+3*t.nd.length,false,false,0,0,[]⟩:Blk)∧True) (by exact (lateC rfl (lateC rfl (lateC rfl lateN)))) ?_ ?_
 ·
  refine R_mv rfl (R_bslice rfl rfl (R_callk (pjoin_pure ([sf]) (by simp only [cat,List.append_nil]; omega)) rfl (R_mv rfl (R_bslice rfl rfl (R_callk (pjoin_pure ([outs]) (by simp only [cat,List.append_nil]; omega)) rfl (R_mv rfl (R_bslice rfl rfl ?_)))))))
  refine R_callk (pjoin_pure ([other]) (by simp only [cat,List.append_nil]; omega)) rfl (R_fk rfl rfl (R_lk rfl rfl rfl rfl (R_len rfl (R_fk rfl rfl (R_lk rfl rfl rfl rfl (R_len rfl (R_addN rfl (@rfl V (iV ((1:Nat):Int))) (by omega) ?_)))))))
  refine R_bslice_own (i:=52) (n:=0) (qs:=[(0,(ints (cat ([outs])))),(1,(ints (cat ([other]))))]) (rows:=[[(ints (cat ([outs])))],[(ints (cat ([other])))]]) rfl (congrArg Blk.ver rfl) (mcons (congrArg (fun v=>(0,v)) rfl) (mcons (congrArg (fun v=>(1,v)) rfl) rfl)) rfl (R_bslice_own (i:=60) (n:=0) (qs:=[(0,(iV ((t.nd.length:Nat):Int))),(1,(iV ((t.nd.length+1:Nat):Int)))]) (rows:=[[(iV ((t.nd.length:Nat):Int))],[(iV ((t.nd.length+1:Nat):Int))]]) rfl (congrArg Blk.ver rfl) (mcons (congrArg (fun v=>(0,v)) rfl) (mcons (congrArg (fun v=>(1,v)) rfl) rfl)) rfl (R_build rfl rfl (R_alloc (i:=18) (n:=0) (m:=5) rfl (congrArg Blk.ver rfl) rfl (R_sk rfl rfl rfl rfl rfl rfl rfl rfl rfl ?_))))
  exact R_nil ⟨rfl,rfl,rfl,rfl,rfl,rfl,rfl,rfl,rfl,rfl,rfl,rfl,rfl,rfl,rfl,rfl,rfl,rfl,rfl,rfl,rfl,trivial⟩
 intro T H ⟨t1,t3,t4,t5,t12,t16,t17,t18,h6,h12,h16,h17,h18,h52,h60,h201,h202,h205,h212,h228,h258,_⟩
 refine W_seq_seq (W_r (R_mv t3 (R_mv t5 (R_callk (lex_pure outs other) rfl (R_gtr rfl rfl (R_e ?_))))))
 refine W_seq_if rfl (fun c3=>?_) fun c3=>?_
 ·
  have d7:=c3
  refine W_seq_seq (W_r (R_fk t18 h18 (R_lk rfl h18 rfl rfl (R_callE (evcons rfl evnil) (revcL52_E ([cat ([outs]),cat ([other])]) 1 false _ (show _=(bk 1 54 1 (List.map cL ([cat ([outs]),cat ([other])]))) from h52) (by simp)) (R_e (W_r (R_fk t18 h18 ?_)))))))
  refine R_lk rfl h18 rfl rfl (R_callE (evcons rfl evnil) (revcI60_E ([((t.nd.length:Nat):Int),((t.nd.length+1:Nat):Int)]) 1 false _ (show _=(bk 1 3 1 (List.map cI ([((t.nd.length:Nat):Int),((t.nd.length+1:Nat):Int)]))) from h60) (by simp)) (R_e ?_))
  refine W_seq_g (fun T H=>T 4=(ints w)∧T 12=(V.mp 12 1 0 0)∧T 16=(V.mp 16 1 0 0)∧T 17=(V.mp 17 1 0 0)∧H 6=(bk 1 24 1 [[(V.sl (List.map cN (t.nd)))]])∧H 12=(bk 1 24 1 [[V.nilsl]])∧H 16=(bk 1 24 1 [[(V.ms 212 1 0 (t.nd.length))]])∧H 17=(bk 1 99 5 [(cN (((nth (t.nd) (((n)).toNat)))))])∧H 18=(bk 1 99 5 [[(V.bool false),V.nilsl,(ints (cat ([sf]))),(V.ms 52 1 0 (2)),(V.ms 60 1 0 (2))]])∧H 52=(bk 1 54 1 (List.map cL (([cat ([outs]),cat ([other])]).reverse)))∧H 60=(bk 1 3 1 (List.map cI (([((t.nd.length:Nat):Int),((t.nd.length+1:Nat):Int)]).reverse)))∧H 201=(⟨1,false,false,0,0,[]⟩:Blk)∧H 202=(⟨1,false,false,0,0,[]⟩:Blk)∧H 205=(⟨0+t.nd.length,false,false,0,0,[]⟩:Blk)∧H 212=(bk 1 99 5 ((List.map cN (t.nd)).set (((n)).toNat) [(V.bool false),V.nilsl,(ints (cat ([sf]))),(V.ms 52 1 0 (2)),(V.ms 60 1 0 (2))]))∧H 228=(⟨0+t.nd.length*1048578,false,false,0,0,[]⟩:Blk)∧H 258=(⟨0+3*t.nd.length,false,false,0,0,[]⟩:Blk)∧True) ?_ ?_
  ·
   refine R_fk t16 h16 (R_lk rfl h16 rfl rfl (R_mv t1 (R_lk t18 h18 rfl rfl (R_idxI_ms0 (i:=(n)) (@rfl V (V.ms 212 1 0 (t.nd.length))) (@rfl V (iV (n))) h212 oB rfl (by omega) (by omega) (R_store (vs:=[(V.bool false),V.nilsl,(ints (cat ([sf]))),(V.ms 52 1 0 (2)),(V.ms 60 1 0 (2))]) (B':=(bk 1 99 5 ((List.map cN (t.nd)).set (((n)).toNat) [(V.bool false),V.nilsl,(ints (cat ([sf]))),(V.ms 52 1 0 (2)),(V.ms 60 1 0 (2))]))) rfl rfl rfl h212 (stB_setc (i:=(((n)).toNat)) (by omega) rfl rfl rfl) ?_)))))
   exact R_nil ⟨t4,t12,t16,t17,h6,h12,h16,h17,h18,rfl,rfl,h201,h202,h205,rfl,h228,h258,trivial⟩
  intro T H ⟨t4,t12,t16,t17,h6,h12,h16,h17,h18,h52,h60,h201,h202,h205,h212,h228,h258,_⟩
  refine nzs_map (rows:=List.map cN (t.nd)) (i:=(((n)).toNat)) (r':=[(V.bool false),(ints ([])),(ints (cat ([sf]))),(V.ms 52 1 0 (2)),(V.ms 60 1 0 (2))]) h212 (by (simp; omega)) rfl (fork_ (R:=fun T H=>T 4=(ints w)∧T 12=(V.mp 12 1 0 0)∧T 16=(V.mp 16 1 0 0)∧T 17=(V.mp 17 1 0 0)∧H 6=(bk 1 24 1 [[(V.sl (List.map cN (t.nd)))]])∧H 12=(bk 1 24 1 [[V.nilsl]])∧H 16=(bk 1 24 1 [[(V.ms 212 1 0 (t.nd.length))]])∧H 17=(bk 1 99 5 [(cN (((nth (t.nd) (((n)).toNat)))))])∧H 18=(bk 1 99 5 [[(V.bool false),V.nilsl,(ints (cat ([sf]))),(V.ms 52 1 0 (2)),(V.ms 60 1 0 (2))]])∧H 52=(bk 1 54 1 (List.map cL (([cat ([outs]),cat ([other])]).reverse)))∧H 60=(bk 1 3 1 (List.map cI (([((t.nd.length:Nat):Int),((t.nd.length+1:Nat):Int)]).reverse)))∧H 201=(⟨1,false,false,0,0,[]⟩:Blk)∧H 202=(⟨1,false,false,0,0,[]⟩:Blk)∧H 205=(⟨0+t.nd.length,false,false,0,0,[]⟩:Blk)∧H 212=(bk 1 99 5 ((List.map cN (t.nd)).set (((n)).toNat) [(V.bool false),(ints ([])),(ints (cat ([sf]))),(V.ms 52 1 0 (2)),(V.ms 60 1 0 (2))]))∧H 228=(⟨0+t.nd.length*1048578,false,false,0,0,[]⟩:Blk)∧H 258=(⟨0+3*t.nd.length,false,false,0,0,[]⟩:Blk)∧True) ⟨t4,t12,t16,t17,((upd_ne _ _ (by decide)).trans h6),((upd_ne _ _ (by decide)).trans h12),((upd_ne _ _ (by decide)).trans h16),((upd_ne _ _ (by decide)).trans h17),((upd_ne _ _ (by decide)).trans h18),((upd_ne _ _ (by decide)).trans h52),((upd_ne _ _ (by decide)).trans h60),((upd_ne _ _ (by decide)).trans h201),((upd_ne _ _ (by decide)).trans h202),((upd_ne _ _ (by decide)).trans h205),(upd_same _ _ _),((upd_ne _ _ (by decide)).trans h228),((upd_ne _ _ (by decide)).trans h258),trivial⟩ ?_)
  intro T H ⟨t4,t12,t16,t17,h6,h12,h16,h17,h18,h52,h60,h201,h202,h205,h212,h228,h258,_⟩
  refine frz_cellg (id:=52) (id2:=212) (rows:=(List.map cN (t.nd))) (i:=(((n)).toNat)) (off:=3) (r:=[(V.bool false),(ints ([])),(ints (cat ([sf]))),(V.ms 52 1 0 (2)),(V.ms 60 1 0 (2))]) (m:=(([cat ([outs]),cat ([other])]).reverse)) (g:=cL) (by decide) h52 h212 (by (simp; omega)) (by rfl) rfl (fork_ (R:=fun T H=>T 4=(ints w)∧T 12=(V.mp 12 1 0 0)∧T 16=(V.mp 16 1 0 0)∧T 17=(V.mp 17 1 0 0)∧H 6=(bk 1 24 1 [[(V.sl (List.map cN (t.nd)))]])∧H 12=(bk 1 24 1 [[V.nilsl]])∧H 16=(bk 1 24 1 [[(V.ms 212 1 0 (t.nd.length))]])∧H 17=(bk 1 99 5 [(cN (((nth (t.nd) (((n)).toNat)))))])∧H 18=(bk 1 99 5 [[(V.bool false),V.nilsl,(ints (cat ([sf]))),(V.ms 52 1 0 (2)),(V.ms 60 1 0 (2))]])∧((H 52).ver=1∧(H 52).live=false)∧H 60=(bk 1 3 1 (List.map cI (([((t.nd.length:Nat):Int),((t.nd.length+1:Nat):Int)]).reverse)))∧H 201=(⟨1,false,false,0,0,[]⟩:Blk)∧H 202=(⟨1,false,false,0,0,[]⟩:Blk)∧H 205=(⟨0+t.nd.length,false,false,0,0,[]⟩:Blk)∧H 212=(bk 1 99 5 ((List.map cN (t.nd)).set (((n)).toNat) [(V.bool false),(ints ([])),(ints (cat ([sf]))),(intss (([cat ([outs]),cat ([other])]).reverse)),(V.ms 60 1 0 (2))]))∧H 228=(⟨0+t.nd.length*1048578,false,false,0,0,[]⟩:Blk)∧H 258=(⟨0+3*t.nd.length,false,false,0,0,[]⟩:Blk)∧True) ⟨(fzT_q t4 rfl),(fzT_q t12 rfl),(fzT_q t16 rfl),(fzT_q t17 rfl),((upd_ne _ _ (by decide)).trans (kill_ne h6 (by decide))),((upd_ne _ _ (by decide)).trans (kill_ne h12 (by decide))),((upd_ne _ _ (by decide)).trans (kill_ne h16 (by decide))),((upd_ne _ _ (by decide)).trans (kill_ne h17 (by decide))),((upd_ne _ _ (by decide)).trans (kill_ne h18 (by decide))),⟨(congrArg Blk.ver (upd_ne _ _ (by decide))).trans (kill_self (congrArg Blk.ver h52)).1,(congrArg Blk.live (upd_ne _ _ (by decide))).trans (kill_self (congrArg Blk.ver h52)).2⟩,((upd_ne _ _ (by decide)).trans (kill_ne h60 (by decide))),((upd_ne _ _ (by decide)).trans (kill_ne h201 (by decide))),((upd_ne _ _ (by decide)).trans (kill_ne h202 (by decide))),((upd_ne _ _ (by decide)).trans (kill_ne h205 (by decide))),(upd_same _ _ _),((upd_ne _ _ (by decide)).trans (kill_ne h228 (by decide))),((upd_ne _ _ (by decide)).trans (kill_ne h258 (by decide))),trivial⟩ ?_)
  intro T H ⟨t4,t12,t16,t17,h6,h12,h16,h17,h18,h52,h60,h201,h202,h205,h212,h228,h258,_⟩
  refine frz_cellg (id:=60) (id2:=212) (rows:=(List.map cN (t.nd))) (i:=(((n)).toNat)) (off:=4) (r:=[(V.bool false),(ints ([])),(ints (cat ([sf]))),(intss (([cat ([outs]),cat ([other])]).reverse)),(V.ms 60 1 0 (2))]) (m:=(([((t.nd.length:Nat):Int),((t.nd.length+1:Nat):Int)]).reverse)) (g:=cI) (by decide) h60 h212 (by (simp; omega)) (by rfl) rfl (.done ?_)
  refine fork_ (R:=fun T H=>T 4=(ints w)∧T 12=(V.mp 12 1 0 0)∧T 16=(V.mp 16 1 0 0)∧T 17=(V.mp 17 1 0 0)∧H 6=(bk 1 24 1 [[(V.sl (List.map cN (t.nd)))]])∧H 12=(bk 1 24 1 [[V.nilsl]])∧H 16=(bk 1 24 1 [[(V.ms 212 1 0 (t.nd.length))]])∧H 17=(bk 1 99 5 [(cN (((nth (t.nd) (((n)).toNat)))))])∧H 18=(bk 1 99 5 [[(V.bool false),V.nilsl,(ints (cat ([sf]))),(V.ms 52 1 0 (2)),(V.ms 60 1 0 (2))]])∧((H 52).ver=1∧(H 52).live=false)∧((H 60).ver=1∧(H 60).live=false)∧H 201=(⟨1,false,false,0,0,[]⟩:Blk)∧H 202=(⟨1,false,false,0,0,[]⟩:Blk)∧H 205=(⟨0+t.nd.length,false,false,0,0,[]⟩:Blk)∧H 212=(bk 1 99 5 (List.map cN ((t.nd).set (((n)).toNat) ((⟨false,[],cat ([sf]),([cat ([outs]),cat ([other])]).reverse,([((t.nd.length:Nat):Int),((t.nd.length+1:Nat):Int)]).reverse⟩:Nd)))))∧H 228=(⟨0+t.nd.length*1048578,false,false,0,0,[]⟩:Blk)∧H 258=(⟨0+3*t.nd.length,false,false,0,0,[]⟩:Blk)∧True) ⟨(fzT_q t4 rfl),(fzT_q t12 rfl),(fzT_q t16 rfl),(fzT_q t17 rfl),((upd_ne _ _ (by decide)).trans (kill_ne h6 (by decide))),((upd_ne _ _ (by decide)).trans (kill_ne h12 (by decide))),((upd_ne _ _ (by decide)).trans (kill_ne h16 (by decide))),((upd_ne _ _ (by decide)).trans (kill_ne h17 (by decide))),((upd_ne _ _ (by decide)).trans (kill_ne h18 (by decide))),⟨(congrArg Blk.ver (upd_ne _ _ (by decide))).trans (kill_dead h52).1,(congrArg Blk.live (upd_ne _ _ (by decide))).trans (kill_dead h52).2⟩,⟨(congrArg Blk.ver (upd_ne _ _ (by decide))).trans (kill_self (congrArg Blk.ver h60)).1,(congrArg Blk.live (upd_ne _ _ (by decide))).trans (kill_self (congrArg Blk.ver h60)).2⟩,((upd_ne _ _ (by decide)).trans (kill_ne h201 (by decide))),((upd_ne _ _ (by decide)).trans (kill_ne h202 (by decide))),((upd_ne _ _ (by decide)).trans (kill_ne h205 (by decide))),(Eq.trans (upd_same _ _ _) (by (rw [List.map_set]; rfl))),((upd_ne _ _ (by decide)).trans (kill_ne h228 (by decide))),((upd_ne _ _ (by decide)).trans (kill_ne h258 (by decide))),trivial⟩ ?_
  intro T H ⟨t4,t12,t16,t17,h6,h12,h16,h17,h18,h52,h60,h201,h202,h205,h212,h228,h258,_⟩
  refine W_seq_g (fun T H=>T 12=(V.mp 12 1 0 0)∧T 16=(V.mp 16 1 0 0)∧H 6=(bk 1 24 1 [[(V.sl (List.map cN (t.nd)))]])∧H 12=(bk 1 24 1 [[V.nilsl]])∧H 16=(bk 1 24 1 [[(V.ms 212 2 0 (t.nd.length+2))]])∧H 17=(bk 1 99 5 [(cN (((nth (t.nd) (((n)).toNat)))))])∧H 18=(bk 1 99 5 [[(V.bool false),V.nilsl,(ints (cat ([sf]))),(V.ms 52 1 0 (2)),(V.ms 60 1 0 (2))]])∧((H 52).ver=1∧(H 52).live=false)∧((H 60).ver=1∧(H 60).live=false)∧H 201=(⟨1,false,false,0,0,[]⟩:Blk)∧H 202=(⟨1,false,false,0,0,[]⟩:Blk)∧H 205=(⟨0+t.nd.length,false,false,0,0,[]⟩:Blk)∧H 212=(bk 2 99 5 (List.map cN ((t.nd).set (((n)).toNat) ((⟨false,[],cat ([sf]),([cat ([outs]),cat ([other])]).reverse,([((t.nd.length:Nat):Int),((t.nd.length+1:Nat):Int)]).reverse⟩:Nd)))++[(cN (((nth (t.nd) (((n)).toNat))))),[(V.bool true),(ints (cat ([w]))),V.nilsl,V.nilsl,V.nilsl]]))∧H 228=(⟨0+t.nd.length*1048578,false,false,0,0,[]⟩:Blk)∧H 258=(⟨0+3*t.nd.length,false,false,0,0,[]⟩:Blk)∧True) ?_ ?_
  ·
   refine R_fk t16 h16 (R_lk rfl h16 rfl rfl (R_lk t17 h17 rfl rfl (R_mv t4 (R_bslice rfl rfl (R_callk (pjoin_pure ([w]) (by simp only [cat,List.append_nil]; omega)) rfl (R_build rfl rfl (R_bslice rfl rfl ?_)))))))
   refine R_appendN (l:=((t.nd).set (((n)).toNat) ((⟨false,[],cat ([sf]),([cat ([outs]),cat ([other])]).reverse,([((t.nd.length:Nat):Int),((t.nd.length+1:Nat):Int)]).reverse⟩:Nd)))) (f:=cN) (@rfl V (V.ms 212 1 0 (t.nd.length))) h212 (by simp) (@rfl V (V.sl [(cN (((nth (t.nd) (((n)).toNat))))),[(V.bool true),(ints (cat ([w]))),V.nilsl,V.nilsl,V.nilsl]])) (by simp [fitRows,V.one]) (by (simp; omega)) (by (simp; omega)) (R_fk t16 h16 (R_sk rfl rfl rfl h16 rfl rfl rfl rfl rfl ?_))
   exact R_nil ⟨t12,t16,h6,h12,rfl,h17,h18,h52,h60,h201,h202,h205,rfl,h228,h258,trivial⟩
  intro T H ⟨t12,t16,h6,h12,h16,h17,h18,h52,h60,h201,h202,h205,h212,h228,h258,_⟩
  refine nza_map (l:=((t.nd).set (((n)).toNat) ((⟨false,[],cat ([sf]),([cat ([outs]),cat ([other])]).reverse,([((t.nd.length:Nat):Int),((t.nd.length+1:Nat):Int)]).reverse⟩:Nd)))) (m:=([((nth (t.nd) (((n)).toNat))),(⟨true,cat ([w]),[],[],[]⟩:Nd)])) (f:=cN) h212 rfl (.done ?_)
  refine fork_ (R:=fun T H=>T 12=(V.mp 12 1 0 0)∧T 16=(V.mp 16 1 0 0)∧H 6=(bk 1 24 1 [[(V.sl (List.map cN (t.nd)))]])∧H 12=(bk 1 24 1 [[V.nilsl]])∧H 16=(bk 1 24 1 [[(V.ms 212 2 0 (t.nd.length+2))]])∧H 17=(bk 1 99 5 [(cN (((nth (t.nd) (((n)).toNat)))))])∧H 18=(bk 1 99 5 [[(V.bool false),V.nilsl,(ints (cat ([sf]))),(V.ms 52 1 0 (2)),(V.ms 60 1 0 (2))]])∧((H 52).ver=1∧(H 52).live=false)∧((H 60).ver=1∧(H 60).live=false)∧H 201=(⟨1,false,false,0,0,[]⟩:Blk)∧H 202=(⟨1,false,false,0,0,[]⟩:Blk)∧H 205=(⟨0+t.nd.length,false,false,0,0,[]⟩:Blk)∧H 212=(bk 2 99 5 (List.map cN ((t.nd).set (((n)).toNat) ((⟨false,[],cat ([sf]),([cat ([outs]),cat ([other])]).reverse,([((t.nd.length:Nat):Int),((t.nd.length+1:Nat):Int)]).reverse⟩:Nd))++[((nth (t.nd) (((n)).toNat))),(⟨true,cat ([w]),[],[],[]⟩:Nd)])))∧H 228=(⟨0+t.nd.length*1048578,false,false,0,0,[]⟩:Blk)∧H 258=(⟨0+3*t.nd.length,false,false,0,0,[]⟩:Blk)∧True) ⟨t12,t16,((upd_ne _ _ (by decide)).trans h6),((upd_ne _ _ (by decide)).trans h12),((upd_ne _ _ (by decide)).trans h16),((upd_ne _ _ (by decide)).trans h17),((upd_ne _ _ (by decide)).trans h18),⟨(congrArg Blk.ver (upd_ne _ _ (by decide))).trans (h52).1,(congrArg Blk.live (upd_ne _ _ (by decide))).trans (h52).2⟩,⟨(congrArg Blk.ver (upd_ne _ _ (by decide))).trans (h60).1,(congrArg Blk.live (upd_ne _ _ (by decide))).trans (h60).2⟩,((upd_ne _ _ (by decide)).trans h201),((upd_ne _ _ (by decide)).trans h202),((upd_ne _ _ (by decide)).trans h205),(upd_same _ _ _),((upd_ne _ _ (by decide)).trans h228),((upd_ne _ _ (by decide)).trans h258),trivial⟩ ?_
  intro T H ⟨t12,t16,h6,h12,h16,h17,h18,h52,h60,h201,h202,h205,h212,h228,h258,_⟩
  refine W_r (R_lk t16 h16 rfl rfl (R_sk t12 rfl rfl h12 rfl rfl rfl rfl rfl (R_mv rfl (R_e (W_ret ?_)))))
  refine RetC_2 (resV_c (u:=(V.agg [(V.ms 212 2 0 (t.nd.length+2))])) t12 (@rfl Blk (bk 1 24 1 [[(V.ms 212 2 0 (t.nd.length+2))]])) (lB oB rfl rfl)) (resV_t (@rfl V (iV (0:Int)))) (fz_agg1 (fz_ms h212 (by rfl) (l:=((t.nd).set (((n)).toNat) ((⟨false,[],cat ([sf]),([cat ([outs]),cat ([other])]).reverse,([((t.nd.length:Nat):Int),((t.nd.length+1:Nat):Int)]).reverse⟩:Nd))++[((nth (t.nd) (((n)).toNat))),(⟨true,cat ([w]),[],[],[]⟩:Nd)])) rfl (by simp) (fun _=>by simp) ?_)) (fz_int ?_)
  · rw [spT_yes hE]; unfold spN spO spK; rw [if_pos d7,if_pos d7]; simp [cat1,lfN]
  · exact hE.symm
 have d7:=c3
 refine W_seq_skip ?_
 refine W_seq_g (fun T H=>T 4=(ints w)∧T 12=(V.mp 12 1 0 0)∧T 16=(V.mp 16 1 0 0)∧T 17=(V.mp 17 1 0 0)∧H 6=(bk 1 24 1 [[(V.sl (List.map cN (t.nd)))]])∧H 12=(bk 1 24 1 [[V.nilsl]])∧H 16=(bk 1 24 1 [[(V.ms 212 1 0 (t.nd.length))]])∧H 17=(bk 1 99 5 [(cN (((nth (t.nd) (((n)).toNat)))))])∧H 18=(bk 1 99 5 [[(V.bool false),V.nilsl,(ints (cat ([sf]))),(V.ms 52 1 0 (2)),(V.ms 60 1 0 (2))]])∧H 52=(bk 1 54 1 [[(ints (cat ([outs])))],[(ints (cat ([other])))]])∧H 60=(bk 1 3 1 [[(iV ((t.nd.length:Nat):Int))],[(iV ((t.nd.length+1:Nat):Int))]])∧H 201=(⟨1,false,false,0,0,[]⟩:Blk)∧H 202=(⟨1,false,false,0,0,[]⟩:Blk)∧H 205=(⟨0+t.nd.length,false,false,0,0,[]⟩:Blk)∧H 212=(bk 1 99 5 ((List.map cN (t.nd)).set (((n)).toNat) [(V.bool false),V.nilsl,(ints (cat ([sf]))),(V.ms 52 1 0 (2)),(V.ms 60 1 0 (2))]))∧H 228=(⟨0+t.nd.length*1048578,false,false,0,0,[]⟩:Blk)∧H 258=(⟨0+3*t.nd.length,false,false,0,0,[]⟩:Blk)∧True) ?_ ?_
 ·
  refine R_fk t16 h16 (R_lk rfl h16 rfl rfl (R_mv t1 (R_lk t18 h18 rfl rfl (R_idxI_ms0 (i:=(n)) (@rfl V (V.ms 212 1 0 (t.nd.length))) (@rfl V (iV (n))) h212 oB rfl (by omega) (by omega) (R_store (vs:=[(V.bool false),V.nilsl,(ints (cat ([sf]))),(V.ms 52 1 0 (2)),(V.ms 60 1 0 (2))]) (B':=(bk 1 99 5 ((List.map cN (t.nd)).set (((n)).toNat) [(V.bool false),V.nilsl,(ints (cat ([sf]))),(V.ms 52 1 0 (2)),(V.ms 60 1 0 (2))]))) rfl rfl rfl h212 (stB_setc (i:=(((n)).toNat)) (by omega) rfl rfl rfl) ?_)))))
  exact R_nil ⟨t4,t12,t16,t17,h6,h12,h16,h17,h18,h52,h60,h201,h202,h205,rfl,h228,h258,trivial⟩
 intro T H ⟨t4,t12,t16,t17,h6,h12,h16,h17,h18,h52,h60,h201,h202,h205,h212,h228,h258,_⟩
 refine nzs_map (rows:=List.map cN (t.nd)) (i:=(((n)).toNat)) (r':=[(V.bool false),(ints ([])),(ints (cat ([sf]))),(V.ms 52 1 0 (2)),(V.ms 60 1 0 (2))]) h212 (by (simp; omega)) rfl (fork_ (R:=fun T H=>T 4=(ints w)∧T 12=(V.mp 12 1 0 0)∧T 16=(V.mp 16 1 0 0)∧T 17=(V.mp 17 1 0 0)∧H 6=(bk 1 24 1 [[(V.sl (List.map cN (t.nd)))]])∧H 12=(bk 1 24 1 [[V.nilsl]])∧H 16=(bk 1 24 1 [[(V.ms 212 1 0 (t.nd.length))]])∧H 17=(bk 1 99 5 [(cN (((nth (t.nd) (((n)).toNat)))))])∧H 18=(bk 1 99 5 [[(V.bool false),V.nilsl,(ints (cat ([sf]))),(V.ms 52 1 0 (2)),(V.ms 60 1 0 (2))]])∧H 52=(bk 1 54 1 [[(ints (cat ([outs])))],[(ints (cat ([other])))]])∧H 60=(bk 1 3 1 [[(iV ((t.nd.length:Nat):Int))],[(iV ((t.nd.length+1:Nat):Int))]])∧H 201=(⟨1,false,false,0,0,[]⟩:Blk)∧H 202=(⟨1,false,false,0,0,[]⟩:Blk)∧H 205=(⟨0+t.nd.length,false,false,0,0,[]⟩:Blk)∧H 212=(bk 1 99 5 ((List.map cN (t.nd)).set (((n)).toNat) [(V.bool false),(ints ([])),(ints (cat ([sf]))),(V.ms 52 1 0 (2)),(V.ms 60 1 0 (2))]))∧H 228=(⟨0+t.nd.length*1048578,false,false,0,0,[]⟩:Blk)∧H 258=(⟨0+3*t.nd.length,false,false,0,0,[]⟩:Blk)∧True) ⟨t4,t12,t16,t17,((upd_ne _ _ (by decide)).trans h6),((upd_ne _ _ (by decide)).trans h12),((upd_ne _ _ (by decide)).trans h16),((upd_ne _ _ (by decide)).trans h17),((upd_ne _ _ (by decide)).trans h18),((upd_ne _ _ (by decide)).trans h52),((upd_ne _ _ (by decide)).trans h60),((upd_ne _ _ (by decide)).trans h201),((upd_ne _ _ (by decide)).trans h202),((upd_ne _ _ (by decide)).trans h205),(upd_same _ _ _),((upd_ne _ _ (by decide)).trans h228),((upd_ne _ _ (by decide)).trans h258),trivial⟩ ?_)
 intro T H ⟨t4,t12,t16,t17,h6,h12,h16,h17,h18,h52,h60,h201,h202,h205,h212,h228,h258,_⟩
 refine frz_cellg (id:=52) (id2:=212) (rows:=(List.map cN (t.nd))) (i:=(((n)).toNat)) (off:=3) (r:=[(V.bool false),(ints ([])),(ints (cat ([sf]))),(V.ms 52 1 0 (2)),(V.ms 60 1 0 (2))]) (m:=([cat ([outs]),cat ([other])])) (g:=cL) (by decide) (show _=(bk 1 54 1 (List.map cL ([cat ([outs]),cat ([other])]))) from h52) h212 (by (simp; omega)) (by rfl) rfl (fork_ (R:=fun T H=>T 4=(ints w)∧T 12=(V.mp 12 1 0 0)∧T 16=(V.mp 16 1 0 0)∧T 17=(V.mp 17 1 0 0)∧H 6=(bk 1 24 1 [[(V.sl (List.map cN (t.nd)))]])∧H 12=(bk 1 24 1 [[V.nilsl]])∧H 16=(bk 1 24 1 [[(V.ms 212 1 0 (t.nd.length))]])∧H 17=(bk 1 99 5 [(cN (((nth (t.nd) (((n)).toNat)))))])∧H 18=(bk 1 99 5 [[(V.bool false),V.nilsl,(ints (cat ([sf]))),(V.ms 52 1 0 (2)),(V.ms 60 1 0 (2))]])∧((H 52).ver=1∧(H 52).live=false)∧H 60=(bk 1 3 1 [[(iV ((t.nd.length:Nat):Int))],[(iV ((t.nd.length+1:Nat):Int))]])∧H 201=(⟨1,false,false,0,0,[]⟩:Blk)∧H 202=(⟨1,false,false,0,0,[]⟩:Blk)∧H 205=(⟨0+t.nd.length,false,false,0,0,[]⟩:Blk)∧H 212=(bk 1 99 5 ((List.map cN (t.nd)).set (((n)).toNat) [(V.bool false),(ints ([])),(ints (cat ([sf]))),(intss ([cat ([outs]),cat ([other])])),(V.ms 60 1 0 (2))]))∧H 228=(⟨0+t.nd.length*1048578,false,false,0,0,[]⟩:Blk)∧H 258=(⟨0+3*t.nd.length,false,false,0,0,[]⟩:Blk)∧True) ⟨(fzT_q t4 rfl),(fzT_q t12 rfl),(fzT_q t16 rfl),(fzT_q t17 rfl),((upd_ne _ _ (by decide)).trans (kill_ne h6 (by decide))),((upd_ne _ _ (by decide)).trans (kill_ne h12 (by decide))),((upd_ne _ _ (by decide)).trans (kill_ne h16 (by decide))),((upd_ne _ _ (by decide)).trans (kill_ne h17 (by decide))),((upd_ne _ _ (by decide)).trans (kill_ne h18 (by decide))),⟨(congrArg Blk.ver (upd_ne _ _ (by decide))).trans (kill_self (congrArg Blk.ver h52)).1,(congrArg Blk.live (upd_ne _ _ (by decide))).trans (kill_self (congrArg Blk.ver h52)).2⟩,((upd_ne _ _ (by decide)).trans (kill_ne h60 (by decide))),((upd_ne _ _ (by decide)).trans (kill_ne h201 (by decide))),((upd_ne _ _ (by decide)).trans (kill_ne h202 (by decide))),((upd_ne _ _ (by decide)).trans (kill_ne h205 (by decide))),(upd_same _ _ _),((upd_ne _ _ (by decide)).trans (kill_ne h228 (by decide))),((upd_ne _ _ (by decide)).trans (kill_ne h258 (by decide))),trivial⟩ ?_)
 intro T H ⟨t4,t12,t16,t17,h6,h12,h16,h17,h18,h52,h60,h201,h202,h205,h212,h228,h258,_⟩
 refine frz_cellg (id:=60) (id2:=212) (rows:=(List.map cN (t.nd))) (i:=(((n)).toNat)) (off:=4) (r:=[(V.bool false),(ints ([])),(ints (cat ([sf]))),(intss ([cat ([outs]),cat ([other])])),(V.ms 60 1 0 (2))]) (m:=([((t.nd.length:Nat):Int),((t.nd.length+1:Nat):Int)])) (g:=cI) (by decide) (show _=(bk 1 3 1 (List.map cI ([((t.nd.length:Nat):Int),((t.nd.length+1:Nat):Int)]))) from h60) h212 (by (simp; omega)) (by rfl) rfl (.done ?_)
 refine fork_ (R:=fun T H=>T 4=(ints w)∧T 12=(V.mp 12 1 0 0)∧T 16=(V.mp 16 1 0 0)∧T 17=(V.mp 17 1 0 0)∧H 6=(bk 1 24 1 [[(V.sl (List.map cN (t.nd)))]])∧H 12=(bk 1 24 1 [[V.nilsl]])∧H 16=(bk 1 24 1 [[(V.ms 212 1 0 (t.nd.length))]])∧H 17=(bk 1 99 5 [(cN (((nth (t.nd) (((n)).toNat)))))])∧H 18=(bk 1 99 5 [[(V.bool false),V.nilsl,(ints (cat ([sf]))),(V.ms 52 1 0 (2)),(V.ms 60 1 0 (2))]])∧((H 52).ver=1∧(H 52).live=false)∧((H 60).ver=1∧(H 60).live=false)∧H 201=(⟨1,false,false,0,0,[]⟩:Blk)∧H 202=(⟨1,false,false,0,0,[]⟩:Blk)∧H 205=(⟨0+t.nd.length,false,false,0,0,[]⟩:Blk)∧H 212=(bk 1 99 5 (List.map cN ((t.nd).set (((n)).toNat) ((⟨false,[],cat ([sf]),[cat ([outs]),cat ([other])],[((t.nd.length:Nat):Int),((t.nd.length+1:Nat):Int)]⟩:Nd)))))∧H 228=(⟨0+t.nd.length*1048578,false,false,0,0,[]⟩:Blk)∧H 258=(⟨0+3*t.nd.length,false,false,0,0,[]⟩:Blk)∧True) ⟨(fzT_q t4 rfl),(fzT_q t12 rfl),(fzT_q t16 rfl),(fzT_q t17 rfl),((upd_ne _ _ (by decide)).trans (kill_ne h6 (by decide))),((upd_ne _ _ (by decide)).trans (kill_ne h12 (by decide))),((upd_ne _ _ (by decide)).trans (kill_ne h16 (by decide))),((upd_ne _ _ (by decide)).trans (kill_ne h17 (by decide))),((upd_ne _ _ (by decide)).trans (kill_ne h18 (by decide))),⟨(congrArg Blk.ver (upd_ne _ _ (by decide))).trans (kill_dead h52).1,(congrArg Blk.live (upd_ne _ _ (by decide))).trans (kill_dead h52).2⟩,⟨(congrArg Blk.ver (upd_ne _ _ (by decide))).trans (kill_self (congrArg Blk.ver h60)).1,(congrArg Blk.live (upd_ne _ _ (by decide))).trans (kill_self (congrArg Blk.ver h60)).2⟩,((upd_ne _ _ (by decide)).trans (kill_ne h201 (by decide))),((upd_ne _ _ (by decide)).trans (kill_ne h202 (by decide))),((upd_ne _ _ (by decide)).trans (kill_ne h205 (by decide))),(Eq.trans (upd_same _ _ _) (by (rw [List.map_set]; rfl))),((upd_ne _ _ (by decide)).trans (kill_ne h228 (by decide))),((upd_ne _ _ (by decide)).trans (kill_ne h258 (by decide))),trivial⟩ ?_
 intro T H ⟨t4,t12,t16,t17,h6,h12,h16,h17,h18,h52,h60,h201,h202,h205,h212,h228,h258,_⟩
 refine W_seq_g (fun T H=>T 12=(V.mp 12 1 0 0)∧T 16=(V.mp 16 1 0 0)∧H 6=(bk 1 24 1 [[(V.sl (List.map cN (t.nd)))]])∧H 12=(bk 1 24 1 [[V.nilsl]])∧H 16=(bk 1 24 1 [[(V.ms 212 2 0 (t.nd.length+2))]])∧H 17=(bk 1 99 5 [(cN (((nth (t.nd) (((n)).toNat)))))])∧H 18=(bk 1 99 5 [[(V.bool false),V.nilsl,(ints (cat ([sf]))),(V.ms 52 1 0 (2)),(V.ms 60 1 0 (2))]])∧((H 52).ver=1∧(H 52).live=false)∧((H 60).ver=1∧(H 60).live=false)∧H 201=(⟨1,false,false,0,0,[]⟩:Blk)∧H 202=(⟨1,false,false,0,0,[]⟩:Blk)∧H 205=(⟨0+t.nd.length,false,false,0,0,[]⟩:Blk)∧H 212=(bk 2 99 5 (List.map cN ((t.nd).set (((n)).toNat) ((⟨false,[],cat ([sf]),[cat ([outs]),cat ([other])],[((t.nd.length:Nat):Int),((t.nd.length+1:Nat):Int)]⟩:Nd)))++[(cN (((nth (t.nd) (((n)).toNat))))),[(V.bool true),(ints (cat ([w]))),V.nilsl,V.nilsl,V.nilsl]]))∧H 228=(⟨0+t.nd.length*1048578,false,false,0,0,[]⟩:Blk)∧H 258=(⟨0+3*t.nd.length,false,false,0,0,[]⟩:Blk)∧True) ?_ ?_
 ·
  refine R_fk t16 h16 (R_lk rfl h16 rfl rfl (R_lk t17 h17 rfl rfl (R_mv t4 (R_bslice rfl rfl (R_callk (pjoin_pure ([w]) (by simp only [cat,List.append_nil]; omega)) rfl (R_build rfl rfl (R_bslice rfl rfl ?_)))))))
  refine R_appendN (l:=((t.nd).set (((n)).toNat) ((⟨false,[],cat ([sf]),[cat ([outs]),cat ([other])],[((t.nd.length:Nat):Int),((t.nd.length+1:Nat):Int)]⟩:Nd)))) (f:=cN) (@rfl V (V.ms 212 1 0 (t.nd.length))) h212 (by simp) (@rfl V (V.sl [(cN (((nth (t.nd) (((n)).toNat))))),[(V.bool true),(ints (cat ([w]))),V.nilsl,V.nilsl,V.nilsl]])) (by simp [fitRows,V.one]) (by (simp; omega)) (by (simp; omega)) (R_fk t16 h16 (R_sk rfl rfl rfl h16 rfl rfl rfl rfl rfl ?_))
  exact R_nil ⟨t12,t16,h6,h12,rfl,h17,h18,h52,h60,h201,h202,h205,rfl,h228,h258,trivial⟩
 intro T H ⟨t12,t16,h6,h12,h16,h17,h18,h52,h60,h201,h202,h205,h212,h228,h258,_⟩
 refine nza_map (l:=((t.nd).set (((n)).toNat) ((⟨false,[],cat ([sf]),[cat ([outs]),cat ([other])],[((t.nd.length:Nat):Int),((t.nd.length+1:Nat):Int)]⟩:Nd)))) (m:=([((nth (t.nd) (((n)).toNat))),(⟨true,cat ([w]),[],[],[]⟩:Nd)])) (f:=cN) h212 rfl (.done ?_)
 refine fork_ (R:=fun T H=>T 12=(V.mp 12 1 0 0)∧T 16=(V.mp 16 1 0 0)∧H 6=(bk 1 24 1 [[(V.sl (List.map cN (t.nd)))]])∧H 12=(bk 1 24 1 [[V.nilsl]])∧H 16=(bk 1 24 1 [[(V.ms 212 2 0 (t.nd.length+2))]])∧H 17=(bk 1 99 5 [(cN (((nth (t.nd) (((n)).toNat)))))])∧H 18=(bk 1 99 5 [[(V.bool false),V.nilsl,(ints (cat ([sf]))),(V.ms 52 1 0 (2)),(V.ms 60 1 0 (2))]])∧((H 52).ver=1∧(H 52).live=false)∧((H 60).ver=1∧(H 60).live=false)∧H 201=(⟨1,false,false,0,0,[]⟩:Blk)∧H 202=(⟨1,false,false,0,0,[]⟩:Blk)∧H 205=(⟨0+t.nd.length,false,false,0,0,[]⟩:Blk)∧H 212=(bk 2 99 5 (List.map cN ((t.nd).set (((n)).toNat) ((⟨false,[],cat ([sf]),[cat ([outs]),cat ([other])],[((t.nd.length:Nat):Int),((t.nd.length+1:Nat):Int)]⟩:Nd))++[((nth (t.nd) (((n)).toNat))),(⟨true,cat ([w]),[],[],[]⟩:Nd)])))∧H 228=(⟨0+t.nd.length*1048578,false,false,0,0,[]⟩:Blk)∧H 258=(⟨0+3*t.nd.length,false,false,0,0,[]⟩:Blk)∧True) ⟨t12,t16,((upd_ne _ _ (by decide)).trans h6),((upd_ne _ _ (by decide)).trans h12),((upd_ne _ _ (by decide)).trans h16),((upd_ne _ _ (by decide)).trans h17),((upd_ne _ _ (by decide)).trans h18),⟨(congrArg Blk.ver (upd_ne _ _ (by decide))).trans (h52).1,(congrArg Blk.live (upd_ne _ _ (by decide))).trans (h52).2⟩,⟨(congrArg Blk.ver (upd_ne _ _ (by decide))).trans (h60).1,(congrArg Blk.live (upd_ne _ _ (by decide))).trans (h60).2⟩,((upd_ne _ _ (by decide)).trans h201),((upd_ne _ _ (by decide)).trans h202),((upd_ne _ _ (by decide)).trans h205),(upd_same _ _ _),((upd_ne _ _ (by decide)).trans h228),((upd_ne _ _ (by decide)).trans h258),trivial⟩ ?_
 intro T H ⟨t12,t16,h6,h12,h16,h17,h18,h52,h60,h201,h202,h205,h212,h228,h258,_⟩
 refine W_r (R_lk t16 h16 rfl rfl (R_sk t12 rfl rfl h12 rfl rfl rfl rfl rfl (R_mv rfl (R_e (W_ret ?_)))))
 refine RetC_2 (resV_c (u:=(V.agg [(V.ms 212 2 0 (t.nd.length+2))])) t12 (@rfl Blk (bk 1 24 1 [[(V.ms 212 2 0 (t.nd.length+2))]])) (lB oB rfl rfl)) (resV_t (@rfl V (iV (0:Int)))) (fz_agg1 (fz_ms h212 (by rfl) (l:=((t.nd).set (((n)).toNat) ((⟨false,[],cat ([sf]),[cat ([outs]),cat ([other])],[((t.nd.length:Nat):Int),((t.nd.length+1:Nat):Int)]⟩:Nd))++[((nth (t.nd) (((n)).toNat))),(⟨true,cat ([w]),[],[],[]⟩:Nd)])) rfl (by simp) (fun _=>by simp) ?_)) (fz_int ?_)
 · rw [spT_yes hE]; unfold spN spO spK; rw [if_neg d7,if_neg d7]; simp [cat1,lfN]
 · exact hE.symm
theorem trefine_pure (l:Ts) (o:Ob) (s:Spl) (hb:Bd l.t) (ho:oval o=0):PureC Tryz.prog 21 [(V.agg [(iV (l.i)),(V.sl (List.map cN (l.t.nd)))]),(V.agg [(iV (o.i)),(V.sl (List.map cT (o.tr)))]),(V.agg [(ints s.p),(iV (s.a)),(ints s.x)])] (V.tup [(V.agg [(iV ((rfR l o s).1.i)),(V.sl (List.map cN ((rfR l o s).1.t.nd)))]),(intss ((rfR l o s).2.1)),(iV ((rfR l o s).2.2))]):=by
 refine pW Tryz.func21 s21_ok fun hB=>?_
 unfold s21
 dsimp only
 have hal:=acL_len l.t.nd
 refine W_r (R_box (i:=3) (n:=0) (m:=2) (cs:=[(iV (l.i)),(V.sl (List.map cN (l.t.nd)))]) rfl (congrArg Blk.ver rfl) rfl rfl rfl (R_box (i:=4) (n:=0) (m:=2) (cs:=[(iV (o.i)),(V.sl (List.map cT (o.tr)))]) rfl (congrArg Blk.ver rfl) rfl rfl rfl (R_box (i:=5) (n:=0) (m:=3) (cs:=[(ints s.p),(iV (s.a)),(ints s.x)]) rfl (congrArg Blk.ver rfl) rfl rfl rfl (R_alloc (i:=6) (n:=0) (m:=2) rfl (congrArg Blk.ver rfl) rfl (R_mv rfl (R_mv rfl (R_e ?_)))))))
 refine W_r (R_lk rfl rfl rfl rfl (R_lk rfl rfl rfl rfl (R_build rfl rfl (R_alloc (i:=9) (n:=0) (m:=4) rfl (congrArg Blk.ver rfl) rfl (R_sk rfl rfl rfl rfl rfl rfl rfl rfl rfl (R_e (W_seq_seq ?_)))))))
 refine W_r (R_lk rfl rfl rfl rfl (R_lk rfl rfl rfl rfl (R_callk (tsplit_pure l o s hb) rfl (R_mv rfl (R_e (W_seq_seq (W_r ?_)))))))
 refine R_mv rfl (R_neq rfl rfl (R_e ?_))
 refine W_seq_if rfl (fun c1=>?_) fun c1=>?_
 ·
  have c0:=c1
  refine W_seq_seq (W_r (R_lk rfl rfl rfl rfl (R_mv rfl (R_sk rfl rfl rfl rfl rfl rfl rfl rfl rfl (R_mv rfl (R_mv rfl (R_e ?_)))))))
  refine W_seq_ret ?_
  refine RetC_3 (resV_c (u:=(V.agg [(iV (l.i)),(V.sl (List.map cN (l.t.nd)))])) rfl (@rfl Blk (bk 1 26 2 [[(iV (l.i)),(V.sl (List.map cN (l.t.nd)))]])) (lB oB rfl rfl)) (resV_t (@rfl V V.nilsl)) (resV_t (@rfl V (iV (if tsE l o≠0 then tsE l o else prS s l.i)))) (fz_agg2 (fz_int ?_) (fz_sl ?_ (fun _=>by simp))) (fz_nil ?_) (fz_int ?_)
  · by_cases zq1:tsE l o≠0
    · rw [rfR_1 zq1]
    · rw [if_neg zq1] at c0; rw [rfR_2 zq1 c0]
  · by_cases zq1:tsE l o≠0
    · rw [rfR_1 zq1]
    · rw [if_neg zq1] at c0; rw [rfR_2 zq1 c0]
  · by_cases zq1:tsE l o≠0
    · rw [rfR_1 zq1]
    · rw [if_neg zq1] at c0; rw [rfR_2 zq1 c0]
  · by_cases zq1:tsE l o≠0
    · rw [rfR_1 zq1]; exact if_pos zq1
    · rw [if_neg zq1] at c0; rw [rfR_2 zq1 c0]; exact if_neg zq1
 have c0:=c1
 have zq1: ¬tsE l o≠0:=fun e=>c0 (by rw [if_pos e]; exact e)
 have zq2: ¬prS s l.i≠0:=fun e=>c0 (by rw [if_neg zq1]; exact e)
 have ht:=ts_ok (Decidable.not_not.1 zq1)
 obtain ⟨hi1,hi2,hv,hw0,_,hl0⟩:=tv_ok ht.1
 have hbn:=hb.n
 obtain ⟨p1,p2,p3,p4,p5⟩:=prS_ok zq2
 have p6:=wchk_ok p1
 have p7:=wchk_ok p5
 have p8:(rfW s).length=s.p.length+1:=by simp [rfW,cat]
 have hll:=lvs_len hv
 refine W_seq_skip (W_r (R_fk rfl rfl (R_lk rfl rfl rfl rfl (R_fk rfl rfl (R_lk rfl rfl rfl rfl (R_bslice rfl rfl (R_bslice rfl rfl ?_)))))))
 refine R_callc (evcons rfl evnil) ((show PureC _ _ _ (ints (rfW s)) from pjoin_pure [s.p,[s.a]] (by simp only [cat,List.append_nil,List.length_append,List.length_cons,List.length_nil]; omega))) (R_mv rfl (R_e (W_r (R_fk rfl rfl (R_lk rfl rfl rfl rfl (R_lk rfl rfl rfl rfl (R_mv rfl ?_)))))))
 refine R_callk (sift_pure l.t o (rfW s) hb ho (by omega)) rfl (R_mv rfl (R_ext rfl rfl (R_ext rfl rfl (R_ext rfl rfl (R_mv rfl (R_mv rfl (R_mv rfl ?_)))))))
 refine R_e (W_seq_seq (W_r (R_mv rfl (R_neq rfl rfl (R_e ?_)))))
 refine W_seq_if rfl (fun c2=>?_) fun c2=>?_
 ·
  have zq3:(sftR l.t o (rfW s)).2.2≠0:=c2
  refine W_seq_seq ?_
  refine W_seq_regc (fun T H=>T 6=(V.mp 6 1 0 0)∧T 7=V.nilsl∧T 8=(iV ((sftR l.t o (rfW s)).2.2))∧H 3=(bk 1 26 2 [[(iV (l.i)),(V.sl (List.map cN (l.t.nd)))]])∧H 4=(bk 1 29 2 [[(iV (o.i)),(V.sl (List.map cT (o.tr)))]])∧H 5=(bk 1 56 3 [[(ints s.p),(iV (s.a)),(ints s.x)]])∧H 6=(bk 1 26 2 [[(iV (l.i)),(V.sl (List.map cN (l.t.nd)))]])∧H 9=(bk 1 87 4 [[(iV (l.i)),(V.sl (List.map cN (l.t.nd))),(iV (o.i)),(V.sl (List.map cT (o.tr)))]])∧H 17=(⟨0,false,false,0,0,[]⟩:Blk)∧H 20=(⟨0,false,false,0,0,[]⟩:Blk)∧True) ?_ ?_
  ·
   refine R_lk rfl rfl rfl rfl (R_mv rfl (R_sk rfl rfl rfl rfl rfl rfl rfl rfl rfl (R_mv rfl (R_mv rfl ?_))))
   exact R_nil ⟨rfl,rfl,rfl,rfl,rfl,rfl,rfl,rfl,rfl,rfl,trivial⟩
  intro T H ⟨t6,t7,t8,h3,h4,h5,h6,h9,h17,h20,_⟩
  refine W_seq_ret ?_
  refine RetC_3 (resV_c (u:=(V.agg [(iV (l.i)),(V.sl (List.map cN (l.t.nd)))])) t6 h6 (lB oB rfl rfl)) (resV_t t7) (resV_t t8) (fz_agg2 (fz_int ?_) (fz_sl ?_ (fun _=>by simp))) (fz_nil ?_) (fz_int ?_)
  · rw [rfR_3 zq1 zq2 zq3]
    try rfl
  · rw [rfR_3 zq1 zq2 zq3]
    try rfl
  · rw [rfR_3 zq1 zq2 zq3]
    try rfl
  · rw [rfR_3 zq1 zq2 zq3]
    try rfl
 have zq3: ¬(sftR l.t o (rfW s)).2.2≠0:=c2
 refine W_seq_skip (W_seq_seq ?_)
 refine W_seq_regc (fun T H=>T 3=(V.mp 3 1 0 0)∧T 5=(V.mp 5 1 0 0)∧T 6=(V.mp 6 1 0 0)∧T 9=(V.mp 9 1 0 0)∧T 11=(ints (rfW s))∧T 12=(iV ((sftR l.t o (rfW s)).1))∧T 13=(ints ((sftR l.t o (rfW s)).2.1))∧T 53=(V.bool (decide ((0:Int) < ((((sftR l.t o (rfW s)).2.1).length:Nat):Int))))∧H 3=(bk 1 26 2 [[(iV (l.i)),(V.sl (List.map cN (l.t.nd)))]])∧H 4=(bk 1 29 2 [[(iV (o.i)),(V.sl (List.map cT (o.tr)))]])∧H 5=(bk 1 56 3 [[(ints s.p),(iV (s.a)),(ints s.x)]])∧H 6=(bk 1 26 2 [[(iV (0:Int)),V.nilsl]])∧H 9=(bk 1 87 4 [[(iV (l.i)),(V.sl (List.map cN (l.t.nd))),(iV (o.i)),(V.sl (List.map cT (o.tr)))]])∧H 17=(⟨0,false,false,0,0,[]⟩:Blk)∧H 20=(⟨0,false,false,0,0,[]⟩:Blk)∧True) ?_ ?_
 ·
  refine R_mv rfl (R_len rfl (R_gtr rfl rfl ?_))
  exact R_nil ⟨rfl,rfl,rfl,rfl,rfl,rfl,rfl,rfl,rfl,rfl,rfl,rfl,rfl,rfl,rfl,trivial⟩
 intro T H ⟨t3,t5,t6,t9,t11,t12,t13,t53,h3,h4,h5,h6,h9,h17,h20,_⟩
 refine W_seq_if t53 (fun c3=>?_) fun c3=>?_
 ·
  have zq4:0 < (sftR l.t o (rfW s)).2.1.length:=by omega
  refine W_seq_seq (W_r (R_lk t3 h3 rfl rfl (R_mv t13 (R_bslice rfl rfl (R_sk t6 rfl rfl h6 rfl rfl rfl rfl rfl (R_mv rfl (R_mv rfl ?_)))))))
  refine R_e (W_seq_ret ?_)
  refine RetC_3 (resV_c (u:=(V.agg [(iV (l.i)),(V.sl (List.map cN (l.t.nd)))])) t6 (@rfl Blk (bk 1 26 2 [[(iV (l.i)),(V.sl (List.map cN (l.t.nd)))]])) (lB oB rfl rfl)) (resV_t (@rfl V (V.sl [[(ints ((sftR l.t o (rfW s)).2.1))]]))) (resV_t (@rfl V (iV (0:Int)))) (fz_agg2 (fz_int ?_) (fz_sl ?_ (fun _=>by simp))) (fz_canon (by simp) ?_) (fz_int ?_)
  · rw [rfR_4 zq1 zq2 zq3 zq4]
    try rfl
  · rw [rfR_4 zq1 zq2 zq3 zq4]
    try rfl
  · rw [rfR_4 zq1 zq2 zq3 zq4]
    try rfl
  · rw [rfR_4 zq1 zq2 zq3 zq4]
    try rfl
 have zq4: ¬0 < (sftR l.t o (rfW s)).2.1.length:=by omega
 have q4:(sftR l.t o (rfW s)).2.1=[]:=List.length_eq_zero_iff.1 (by omega)
 have hnd:=sft_node (Decidable.not_not.1 zq3) q4 hv
 refine W_seq_skip (W_seq_seq (W_r (R_lk t9 h9 rfl rfl (R_mv t12 (R_callk (tleaf_pure l o (((sftR l.t o (rfW s)).1)) hnd.1 hnd.2.1) rfl (R_notb rfl (R_e ?_)))))))
 refine W_seq_ifb rfl (fun c4=>?_) (fun c4=>?_)
 ·
  have zq5:(rfN l o s).lf=false:=by simpa [rfN] using c4
  refine W_seq_seq (W_r (R_lk t3 h3 rfl rfl (R_sk t6 rfl rfl h6 rfl rfl rfl rfl rfl (R_mv rfl (R_mv rfl (R_e (W_seq_ret ?_)))))))
  refine RetC_3 (resV_c (u:=(V.agg [(iV (l.i)),(V.sl (List.map cN (l.t.nd)))])) t6 (@rfl Blk (bk 1 26 2 [[(iV (l.i)),(V.sl (List.map cN (l.t.nd)))]])) (lB oB rfl rfl)) (resV_t (@rfl V V.nilsl)) (resV_t (@rfl V (iV (10:Int)))) (fz_agg2 (fz_int ?_) (fz_sl ?_ (fun _=>by simp))) (fz_nil ?_) (fz_int ?_)
  · rw [rfR_5 zq1 zq2 zq3 zq4 zq5]
    try rfl
  · rw [rfR_5 zq1 zq2 zq3 zq4 zq5]
    try rfl
  · rw [rfR_5 zq1 zq2 zq3 zq4 zq5]
    try rfl
  · rw [rfR_5 zq1 zq2 zq3 zq4 zq5]
    try rfl
 have zq5: ¬(rfN l o s).lf=false:=by simpa [rfN] using c4
 have hac:=(wchk_ok (hw0 (sftR l.t o (rfW s)).1.toNat (by omega)).1).1
 have hba:(rfN l o s).ac.length≤1024:=hac
 have hlc:(rfN l o s).lf=true:=by simpa using zq5
 have bh1:=bho_le ho (nth l.t.nd (sftR l.t o (rfW s)).1.toNat).ac s.x
 have bh2:=bho_le ho (rfW s) s.x
 have b0:(nth (rfB l o s) 0).length=(rfN l o s).ac.length+s.x.length:=by show (cat [_,_]).length=_; simp [cat]
 have b1:(nth (rfB l o s) 1).length=(rfW s).length+s.x.length:=by show (cat [_,_]).length=_; simp [cat]
 have hbl:(rfB l o s).length=2:=rfl
 refine W_seq_skip (W_r (R_fk t3 h3 (R_fk rfl h3 (R_lk rfl h3 rfl rfl (R_mv t12 (R_idxI (i:=((sftR l.t o (rfW s)).1)) (@rfl V (V.sl (List.map cN (l.t.nd)))) (@rfl V (iV ((sftR l.t o (rfW s)).1))) (by omega) (by omega) rfl (R_fld_pp (cs':=(List.drop 1 (cN (((nth (l.t.nd) ((sftR l.t o (rfW s)).1).toNat)))))) rfl rfl ?_)))))))
 refine R_load_pp rfl rfl (R_mv rfl (R_e (W_r (R_mv rfl (R_fk t5 h5 (R_lk rfl h5 rfl rfl (R_bslice rfl rfl ?_)))))))
 refine R_callk (pjoin_pure ([((nth (l.t.nd) ((sftR l.t o (rfW s)).1).toNat)).ac,s.x]) (by simp only [cat,List.append_nil,List.length_append,List.length_cons,List.length_nil]; omega)) rfl (R_mv t11 (R_fk t5 h5 (R_lk rfl h5 rfl rfl (R_bslice rfl rfl (R_callk (pjoin_pure ([rfW s,s.x]) (by simp only [cat,List.append_nil,List.length_append,List.length_cons,List.length_nil]; omega)) rfl (R_bslice rfl rfl (R_mv rfl ?_)))))))
 refine R_e (W_r (R_lazy (i:=17) (n:=0) rfl (congrArg Blk.ver h17) (R_e (W_seq_seq (W_r (R_mv rfl (R_len_lit (n:=2) rfl rfl ?_)))))))
 refine R_mv rfl (R_e (W_seq_blockg fun Q5 n5 x5 y5 z5=>?_))
 refine W_loop (fun mm T H=> ∃ (k:Nat) (v:Nat),mm=2 - k∧T 3=(V.mp 3 1 0 0)∧T 5=(V.mp 5 1 0 0)∧T 6=(V.mp 6 1 0 0)∧T 9=(V.mp 9 1 0 0)∧T 11=(ints (rfW s))∧T 12=(iV ((sftR l.t o (rfW s)).1))∧T 15=(ints (((nth (l.t.nd) ((sftR l.t o (rfW s)).1).toNat)).ac))∧T 17=(V.ms 17 v 0 ((msK o (rfB l o s) k).length))∧T 80=(intss (rfB l o s))∧T 81=(iV ((2:Nat):Int))∧T 82=(iV ((k:Nat):Int))∧H 3=(bk 1 26 2 [[(iV (l.i)),(V.sl (List.map cN (l.t.nd)))]])∧H 4=(bk 1 29 2 [[(iV (o.i)),(V.sl (List.map cT (o.tr)))]])∧H 5=(bk 1 56 3 [[(ints s.p),(iV (s.a)),(ints s.x)]])∧H 6=(bk 1 26 2 [[(iV (0:Int)),V.nilsl]])∧H 9=(bk 1 87 4 [[(iV (l.i)),(V.sl (List.map cN (l.t.nd))),(iV (o.i)),(V.sl (List.map cT (o.tr)))]])∧H 17=(bz v 54 1 (List.map cL (msK o (rfB l o s) k)))∧H 20=(⟨0,false,false,0,0,[]⟩:Blk)∧(k≤2)∧(∀ j,j < k→(nth (rfB l o s) j).length≤1024)) ?_ ?_
 ·
  refine ⟨_,0,1,rfl,t3,t5,t6,t9,t11,t12,rfl,(Eq.trans (@rfl V (V.ms 17 1 0 (0))) (by rfl)),(Eq.trans (@rfl V (V.sl [[(ints (cat ([((nth (l.t.nd) ((sftR l.t o (rfW s)).1).toNat)).ac,s.x])))],[(ints (cat ([rfW s,s.x])))]])) (by rfl)),rfl,(Eq.trans (@rfl V (iV (0:Int))) rfl),h3,h4,h5,h6,h9,(Eq.trans (@rfl Blk (bz 1 54 1 [])) (by rfl)),h20,?_,?_⟩
  · omega
  · intro j hj; omega
 intro mm T H ⟨k,v,hmm,t3,t5,t6,t9,t11,t12,t15,t17,t80,t81,t82,h3,h4,h5,h6,h9,h17,h20,hk,hc⟩ Q6 p16 p26 p36
 unfold b21_0
 have q1:=msK_len o (rfB l o s) k
 refine W_r (R_lss t82 t81 (R_e ?_))
 refine W_seq_if rfl (fun c7=>?_) fun c7=>?_
 ·
  have hk2:k=0∨k=1:=by omega
  refine W_seq_skip (W_seq_blockg fun Q8 n8 x8 y8 z8=>(W_r (R_idx (i:=k) t80 t82 (by omega) rfl (R_load_pp rfl rfl (R_mv rfl (R_e (W_seq_seq ?_)))))))
  refine W_r (R_mv rfl (R_len rfl (R_gtr rfl rfl (R_e ?_))))
  refine W_seq_if rfl (fun c9=>?_) fun c9=>?_
  ·
   have zq6:1024 < (rfN l o s).ac.length+s.x.length∨1024 < (rfW s).length+s.x.length:=by rcases hk2 with e|e <;> subst e <;> omega
   refine W_seq_seq (W_r (R_lk t3 h3 rfl rfl (R_sk t6 rfl rfl h6 rfl rfl rfl rfl rfl (R_mv rfl (R_mv rfl (R_e (W_seq_ret ?_)))))))
   refine y8 _ _ (p26 _ _ (y5 _ _ ?_))
   refine RetC_3 (resV_c (u:=(V.agg [(iV (l.i)),(V.sl (List.map cN (l.t.nd)))])) t6 (@rfl Blk (bk 1 26 2 [[(iV (l.i)),(V.sl (List.map cN (l.t.nd)))]])) (lB oB rfl rfl)) (resV_t (@rfl V V.nilsl)) (resV_t (@rfl V (iV (3:Int)))) (fz_agg2 (fz_int ?_) (fz_sl ?_ (fun _=>by simp))) (fz_nil ?_) (fz_int ?_)
   · rw [rfR_6 zq1 zq2 zq3 zq4 zq5 zq6]
     try rfl
   · rw [rfR_6 zq1 zq2 zq3 zq4 zq5 zq6]
     try rfl
   · rw [rfR_6 zq1 zq2 zq3 zq4 zq5 zq6]
     try rfl
   · rw [rfR_6 zq1 zq2 zq3 zq4 zq5 zq6]
     try rfl
  refine W_seq_skip (W_r (R_lk t9 h9 rfl rfl (R_mv rfl (R_callk (tknown_pure l o ((nth (rfB l o s) (k))) ho) rfl (R_notb rfl (R_e ?_))))))
  refine W_ifb rfl (fun c10=>?_) (fun c10=>?_)
  ·
   have d1:(ans o (nth (rfB l o s) k)).isSome=false:=by simpa using c10
   refine W_t (R_mv t17 (R_mv rfl (R_bslice rfl rfl (R_append1 (l:=(msK o (rfB l o s) k)) (f:=cL) (x:=((nth (rfB l o s) (k)))) (@rfl V (V.ms 17 v 0 ((msK o (rfB l o s) k).length))) h17 (by rfl) (@rfl V (V.sl [[(ints ((nth (rfB l o s) (k))))]])) rfl rfl (by omega) (by omega) (R_mv rfl (R_e (n8 _ _ ?_)))))))
   refine .done (W_t (R_addN t82 (@rfl V (iV ((1:Nat):Int))) (by omega) (R_mv rfl (R_e ?_))))
   refine p16 _ _ _ ?_ ⟨(k+1),(v+1),rfl,t3,t5,t6,t9,t11,t12,t15,(Eq.trans (@rfl V (V.ms 17 (v+1) 0 (((msK o (rfB l o s) k).length)+1))) (by (rw [msK_yes (by omega) d1,List.length_append]; rfl))),t80,t81,(Eq.trans (@rfl V (iV ((k+1:Nat):Int))) (by rfl)),h3,h4,h5,h6,h9,(Eq.trans (@rfl Blk (bz (v+1) 54 1 (List.map cL (msK o (rfB l o s) k++[(nth (rfB l o s) (k))])))) (by (rw [msK_yes (by omega) d1]; done))),h20,?_,?_⟩
   · omega
   · omega
   · intro j hj
     by_cases e:j=k
     · subst e; omega
     · exact hc j (by omega)
  have d1:(ans o (nth (rfB l o s) k)).isSome=true:=by simpa using c10
  refine W_skip (n8 _ _ (.done (W_t (R_addN t82 (@rfl V (iV ((1:Nat):Int))) (by omega) (R_mv rfl (R_e ?_))))))
  refine p16 _ _ _ ?_ ⟨(k+1),v,rfl,t3,t5,t6,t9,t11,t12,t15,(Eq.trans t17 (by (rw [msK_no (by omega) d1]; done))),t80,t81,(Eq.trans (@rfl V (iV ((k+1:Nat):Int))) (by rfl)),h3,h4,h5,h6,h9,(Eq.trans h17 (by (rw [msK_no (by omega) d1]; done))),h20,?_,?_⟩
  · omega
  · omega
  · intro j hj
    by_cases e:j=k
    · subst e; omega
    · exact hc j (by omega)
 have zq6: ¬(1024 < (rfN l o s).ac.length+s.x.length∨1024 < (rfW s).length+s.x.length):=by have:=hc 0 (by omega); have:=hc 1 (by omega); omega
 have hme:=msK_end (o:=o) (l:=rfB l o s) (k:=k) (by omega)
 refine W_seq_exit (p36 _ _ _ (x5 _ _ (.done (W_seq_seq ?_))))
 refine W_seq_g (fun T H=>T 3=(V.mp 3 1 0 0)∧T 5=(V.mp 5 1 0 0)∧T 6=(V.mp 6 1 0 0)∧T 9=(V.mp 9 1 0 0)∧T 11=(ints (rfW s))∧T 12=(iV ((sftR l.t o (rfW s)).1))∧T 15=(ints (((nth (l.t.nd) ((sftR l.t o (rfW s)).1).toNat)).ac))∧T 17=(V.ms 17 v 0 ((msK o (rfB l o s) k).length))∧T 101=(V.bool (decide ((0:Int) < (((msK o (rfB l o s) k).length:Nat):Int))))∧H 3=(bk 1 26 2 [[(iV (l.i)),(V.sl (List.map cN (l.t.nd)))]])∧H 4=(bk 1 29 2 [[(iV (o.i)),(V.sl (List.map cT (o.tr)))]])∧H 5=(bk 1 56 3 [[(ints s.p),(iV (s.a)),(ints s.x)]])∧H 6=(bk 1 26 2 [[(iV (0:Int)),V.nilsl]])∧H 9=(bk 1 87 4 [[(iV (l.i)),(V.sl (List.map cN (l.t.nd))),(iV (o.i)),(V.sl (List.map cT (o.tr)))]])∧H 17=(bz v 54 1 (List.map cL (msK o (rfB l o s) k)))∧H 20=(⟨0,false,false,0,0,[]⟩:Blk)∧True) ?_ ?_
 ·
  refine R_mv t17 (R_len_ms rfl h17 (by simp) (R_gtr rfl rfl ?_))
  exact R_nil ⟨t3,t5,t6,t9,t11,t12,t15,t17,rfl,h3,h4,h5,h6,h9,h17,h20,trivial⟩
 intro T H ⟨t3,t5,t6,t9,t11,t12,t15,t17,t101,h3,h4,h5,h6,h9,h17,h20,_⟩
 refine .freeze 17 (.done ?_)
 refine fork_ (R:=fun T H=>T 3=(V.mp 3 1 0 0)∧T 5=(V.mp 5 1 0 0)∧T 6=(V.mp 6 1 0 0)∧T 9=(V.mp 9 1 0 0)∧T 11=(ints (rfW s))∧T 12=(iV ((sftR l.t o (rfW s)).1))∧T 15=(ints (((nth (l.t.nd) ((sftR l.t o (rfW s)).1).toNat)).ac))∧T 17=(intss (msK o (rfB l o s) k))∧T 101=(V.bool (decide ((0:Int) < (((msK o (rfB l o s) k).length:Nat):Int))))∧H 3=(bk 1 26 2 [[(iV (l.i)),(V.sl (List.map cN (l.t.nd)))]])∧H 4=(bk 1 29 2 [[(iV (o.i)),(V.sl (List.map cT (o.tr)))]])∧H 5=(bk 1 56 3 [[(ints s.p),(iV (s.a)),(ints s.x)]])∧H 6=(bk 1 26 2 [[(iV (0:Int)),V.nilsl]])∧H 9=(bk 1 87 4 [[(iV (l.i)),(V.sl (List.map cN (l.t.nd))),(iV (o.i)),(V.sl (List.map cT (o.tr)))]])∧((H 17).ver=v∧(H 17).live=false)∧H 20=(⟨0,false,false,0,0,[]⟩:Blk)∧True) ⟨(fzT_q t3 rfl),(fzT_q t5 rfl),(fzT_q t6 rfl),(fzT_q t9 rfl),(fzT_q t11 rfl),(fzT_q t12 rfl),(fzT_q t15 rfl),(fzT_q t17 (fzq_own h17 (by simp) (l:=(msK o (rfB l o s) k)) rfl (by rfl))),(fzT_q t101 rfl),(kill_ne h3 (by decide)),(kill_ne h4 (by decide)),(kill_ne h5 (by decide)),(kill_ne h6 (by decide)),(kill_ne h9 (by decide)),(kill_self (congrArg Blk.ver h17)),(kill_ne h20 (by decide)),trivial⟩ ?_
 intro T H ⟨t3,t5,t6,t9,t11,t12,t15,t17,t101,h3,h4,h5,h6,h9,h17,h20,_⟩
 refine W_seq_if t101 (fun c11=>?_) fun c11=>?_
 ·
  have zq7:0 < (msW o (rfB l o s)).length:=by rw [← hme]; omega
  refine W_seq_seq (W_r (R_lk t3 h3 rfl rfl (R_mv t17 (R_callk (maximal_pure (msK o (rfB l o s) k) (by omega) (by rw [hme]; intro w hw; have hm:=(List.mem_filter.1 hw).1; obtain ⟨j,j1,rfl⟩:=mem_nth hm; have:=hc j (by omega); omega)) rfl (R_sk t6 rfl rfl h6 rfl rfl rfl rfl rfl (R_mv rfl (R_mv rfl ?_)))))))
  refine R_e (W_seq_ret ?_)
  refine RetC_3 (resV_c (u:=(V.agg [(iV (l.i)),(V.sl (List.map cN (l.t.nd)))])) t6 (@rfl Blk (bk 1 26 2 [[(iV (l.i)),(V.sl (List.map cN (l.t.nd)))]])) (lB oB rfl rfl)) (resV_t (@rfl V (intss (mxW (msK o (rfB l o s) k))))) (resV_t (@rfl V (iV (0:Int)))) (fz_agg2 (fz_int ?_) (fz_sl ?_ (fun _=>by simp))) (fz_sl ?_ (fun _=>by simp)) (fz_int ?_)
  · rw [rfR_7 zq1 zq2 zq3 zq4 zq5 zq6 zq7]
  · rw [rfR_7 zq1 zq2 zq3 zq4 zq5 zq6 zq7]
  · rw [rfR_7 zq1 zq2 zq3 zq4 zq5 zq6 zq7,hme]
  · rw [rfR_7 zq1 zq2 zq3 zq4 zq5 zq6 zq7]
 have zq7: ¬0 < (msW o (rfB l o s)).length:=by rw [← hme]; omega
 have m0:=List.length_eq_zero_iff.1 (show (msW o (rfB l o s)).length=0 by omega)
 unfold rfB at m0
 rw [msW_two] at m0
 have k1:(ans o (cat [(rfN l o s).ac,s.x])).isSome=true:=by by_cases e:(ans o (cat [(rfN l o s).ac,s.x])).isSome=true; exact e; (rw [if_neg e] at m0; simp at m0)
 have k2:(ans o (cat [rfW s,s.x])).isSome=true:=by by_cases e:(ans o (cat [rfW s,s.x])).isSome=true; exact e; (rw [if_neg e] at m0; simp at m0)
 refine W_seq_skip (W_seq_seq (W_r (R_fk t3 h3 (R_lk rfl h3 rfl rfl (R_callk (dleaves_pure l.t hb) rfl (R_len rfl (R_geq rfl rfl ?_)))))))
 refine R_e ?_
 refine W_seq_if rfl (fun c12=>?_) fun c12=>?_
 ·
  have zq8:128≤(acL l.t.nd).length:=by rw [← hll]; have q:=c12; unfold lvs; omega
  refine W_seq_seq (W_r (R_lk t3 h3 rfl rfl (R_sk t6 rfl rfl h6 rfl rfl rfl rfl rfl (R_mv rfl (R_mv rfl (R_e (W_seq_ret ?_)))))))
  refine RetC_3 (resV_c (u:=(V.agg [(iV (l.i)),(V.sl (List.map cN (l.t.nd)))])) t6 (@rfl Blk (bk 1 26 2 [[(iV (l.i)),(V.sl (List.map cN (l.t.nd)))]])) (lB oB rfl rfl)) (resV_t (@rfl V V.nilsl)) (resV_t (@rfl V (iV (11:Int)))) (fz_agg2 (fz_int ?_) (fz_sl ?_ (fun _=>by simp))) (fz_nil ?_) (fz_int ?_)
  · rw [rfR_8 zq1 zq2 zq3 zq4 zq5 zq6 zq7 zq8]
    try rfl
  · rw [rfR_8 zq1 zq2 zq3 zq4 zq5 zq6 zq7 zq8]
    try rfl
  · rw [rfR_8 zq1 zq2 zq3 zq4 zq5 zq6 zq7 zq8]
    try rfl
  · rw [rfR_8 zq1 zq2 zq3 zq4 zq5 zq6 zq7 zq8]
    try rfl
 have zq8: ¬128≤(acL l.t.nd).length:=by rw [← hll]; have q:=c12; unfold lvs; omega
 refine W_seq_skip (W_d (by exact (lateC (congrArg Blk.live h20) lateN)) (R_fk t3 h3 (R_lk rfl h3 rfl rfl (R_mv t12 (R_fk t5 h5 (R_lk rfl h5 rfl rfl (R_lk t9 h9 rfl rfl ?_)))))))
 refine R_mv t15 (R_fk t5 h5 (R_lk rfl h5 rfl rfl (R_callk (touts_pure l o (((nth (l.t.nd) ((sftR l.t o (rfW s)).1).toNat)).ac) s.x ho (by omega) (by omega) (by exact k1)) rfl (R_mv t11 (R_lk t9 h9 rfl rfl (R_mv t11 (R_fk t5 h5 ?_)))))))
 refine R_lk rfl h5 rfl rfl (R_callk (touts_pure l o (rfW s) s.x ho (by omega) (by omega) (by exact k2)) rfl (R_callk (dsplit_pure l.t (((sftR l.t o (rfW s)).1)) s.x (bho o (((nth (l.t.nd) ((sftR l.t o (rfW s)).1).toNat)).ac) s.x) (rfW s) (bho o (rfW s) s.x) hb (by omega) (by omega) (by omega) (by omega)) rfl (R_mv rfl (R_ext rfl rfl (R_ext rfl rfl (R_alloc (i:=20) (n:=0) (m:=1) rfl (congrArg Blk.ver h20) rfl (R_sk rfl rfl rfl rfl rfl rfl rfl rfl rfl ?_)))))))
 refine R_mv rfl (R_e (W_seq_seq (W_r (R_mv rfl (R_neq rfl rfl (R_e ?_))))))
 refine W_seq_if rfl (fun c13=>?_) fun c13=>?_
 ·
  have zq9:rfG l o s≠0:=c13
  refine W_seq_seq (W_r (R_lk t3 h3 rfl rfl (R_mv rfl (R_sk t6 rfl rfl h6 rfl rfl rfl rfl rfl (R_mv rfl (R_mv rfl (R_e ?_)))))))
  refine W_seq_ret ?_
  refine RetC_3 (resV_c (u:=(V.agg [(iV (l.i)),(V.sl (List.map cN (l.t.nd)))])) t6 (@rfl Blk (bk 1 26 2 [[(iV (l.i)),(V.sl (List.map cN (l.t.nd)))]])) (lB oB rfl rfl)) (resV_t (@rfl V V.nilsl)) (resV_t (@rfl V (iV (spE l.t (((sftR l.t o (rfW s)).1)) s.x (bho o (((nth (l.t.nd) ((sftR l.t o (rfW s)).1).toNat)).ac) s.x) (rfW s) (bho o (rfW s) s.x))))) (fz_agg2 (fz_int ?_) (fz_sl ?_ (fun _=>by simp))) (fz_nil ?_) (fz_int ?_)
  · rw [rfR_9 zq1 zq2 zq3 zq4 zq5 zq6 zq7 zq8 zq9]
    try rfl
  · rw [rfR_9 zq1 zq2 zq3 zq4 zq5 zq6 zq7 zq8 zq9]
    try rfl
  · rw [rfR_9 zq1 zq2 zq3 zq4 zq5 zq6 zq7 zq8 zq9]
    try rfl
  · rw [rfR_9 zq1 zq2 zq3 zq4 zq5 zq6 zq7 zq8 zq9]
    try rfl
 have zq9: ¬rfG l o s≠0:=c13
 refine W_seq_skip (W_r (R_fk t3 h3 (R_lk rfl h3 rfl rfl (R_lk rfl rfl rfl rfl (R_build rfl rfl (R_sk t6 rfl rfl h6 rfl rfl rfl rfl rfl (R_mv rfl ?_)))))))
 refine R_mv rfl (R_e (W_ret ?_))
 refine RetC_3 (resV_c (u:=(V.agg [(iV (l.i)),(V.sl (List.map cN ((spT l.t (((sftR l.t o (rfW s)).1)) s.x (bho o (((nth (l.t.nd) ((sftR l.t o (rfW s)).1).toNat)).ac) s.x) (rfW s) (bho o (rfW s) s.x)).nd)))])) t6 (@rfl Blk (bk 1 26 2 [[(iV (l.i)),(V.sl (List.map cN ((spT l.t (((sftR l.t o (rfW s)).1)) s.x (bho o (((nth (l.t.nd) ((sftR l.t o (rfW s)).1).toNat)).ac) s.x) (rfW s) (bho o (rfW s) s.x)).nd)))]])) (lB oB rfl rfl)) (resV_t (@rfl V V.nilsl)) (resV_t (@rfl V (iV (0:Int)))) (fz_agg2 (fz_int ?_) (fz_sl ?_ (fun _=>by simp))) (fz_nil ?_) (fz_int ?_)
 · rw [rfR_10 zq1 zq2 zq3 zq4 zq5 zq6 zq7 zq8 zq9]
   try rfl
 · rw [rfR_10 zq1 zq2 zq3 zq4 zq5 zq6 zq7 zq8 zq9]
   try rfl
 · rw [rfR_10 zq1 zq2 zq3 zq4 zq5 zq6 zq7 zq8 zq9]
   try rfl
 · rw [rfR_10 zq1 zq2 zq3 zq4 zq5 zq6 zq7 zq8 zq9]
   try rfl
abbrev w11_0:=(⟨((2:Int)),([(⟨[1],[0]⟩:Tr),(⟨[0,1],[1,2]⟩:Tr)])⟩:Ob)
abbrev w11_1:=(rfR ((nwT ((2:Int)))) w11_0 (⟨([]),((0:Int)),([1])⟩:Spl))
abbrev w11_2:=(tst ((nwT ((2:Int)))) (⟨((2:Int)),([])⟩:Ob))
abbrev w11_3:=(bk 1 48 5 [[(iV ((hyR ((nwT ((2:Int)))) w11_0).m.i)),(iV ((hyR ((nwT ((2:Int)))) w11_0).m.s)),(intss ((hyR ((nwT ((2:Int)))) w11_0).m.nx)),(intss ((hyR ((nwT ((2:Int)))) w11_0).m.ot)),(intss ((hyR ((nwT ((2:Int)))) w11_0).acc))]])
abbrev w11_14:=(tst ((nwT ((2:Int)))) w11_0)
abbrev w11_12:=((((decide (((nwE ((2:Int)))≠(0:Int))∨((w11_2.2.2.2)≠(0:Int)))||(w11_2.2.2.1)))||decide ((w11_14.2.2.2)≠(0:Int))))
abbrev w11_4:=((((w11_12||((!w11_14.2.2.1))))||decide ((((w11_14.2.1).length:Nat):Int)≠(0:Int))))
abbrev w11_5:=(bk 1 29 2 [[(iV (2:Int)),(V.sl [[(V.sl [[(iV (1:Int))]]),(V.sl [[(iV (0:Int))]])],[(V.sl [[(iV (0:Int))],[(iV (1:Int))]]),(V.sl [[(iV (1:Int))],[(iV (2:Int))]])]])]])
abbrev w11_6:=(bk 1 26 2 [[(iV (w11_14.1.i)),(V.sl (List.map cN (w11_14.1.t.nd)))]])
abbrev w11_7:=(bk 1 26 2 [[(iV ((tst (w11_1.1) w11_0).1.i)),(V.sl (List.map cN ((tst (w11_1.1) w11_0).1.t.nd)))]])
abbrev w11_8:=(bk 1 26 2 [[(iV ((nwT ((2:Int))).i)),(V.sl (List.map cN ((nwT ((2:Int))).t.nd)))]])
abbrev w11_9:=(bk 1 26 2 [[(iV (w11_2.1.i)),(V.sl (List.map cN (w11_2.1.t.nd)))]])
abbrev w11_10:=(bk 1 26 2 [[(iV (w11_1.1.i)),(V.sl (List.map cN (w11_1.1.t.nd)))]])
abbrev w11_17:=(hyE ((nwT ((2:Int)))) w11_0)
abbrev w11_11:=((((w11_4||decide (w11_17≠(0:Int))))||decide ((((w11_1.2.1).length:Nat):Int)≠(0:Int))))
abbrev w11_13:=(((w11_2.2.1)=([[0],[1]]))∧(((((hyR ((nwT ((2:Int)))) w11_0).m.nx).length:Nat):Int)=(1:Int)))
abbrev w11_15:=(intss ((tst (w11_1.1) w11_0).2.1))
abbrev w11_16:=((tst (w11_1.1) w11_0).2.2.2)
theorem aw_learnerlaw27_awake_pure:PureC Tryz.prog 11 [] (V.bool true):=by
 refine pW Tryz.func11 s11_ok fun hB=>?_
 unfold s11
 dsimp only
 refine W_r (R_mv rfl (R_e (W_r (R_callk (tnew_pure ((2:Int))) rfl (R_mv rfl (R_ext rfl rfl (R_ext rfl rfl ?_)))))))
 refine R_alloc (i:=1) (n:=0) (m:=2) rfl (congrArg Blk.ver rfl) rfl (R_sk rfl rfl rfl rfl rfl rfl rfl rfl rfl (R_mv rfl (R_e (W_r (R_lk rfl rfl rfl rfl (R_build rfl rfl (R_call (evcons (@rfl V (V.agg [(iV ((nwT ((2:Int))).i)),(V.sl (List.map cN ((nwT ((2:Int))).t.nd)))])) (evcons (@rfl V (V.agg [(iV (2:Int)),V.nilsl])) evnil)) (tstep_pure ((nwT ((2:Int)))) (⟨((2:Int)),([])⟩:Ob) (bg_bd (by decide+kernel)) (by decide+kernel) (by decide+kernel)) (mcons (fzv_canon 6 _ (by simp [-List.map_take,-List.map_drop,-List.map_append,-List.map_reverse])) (mcons (by simp [fzv,Blk.own]) rfl)) (by simp [-List.map_take,-List.map_drop,-List.map_append,-List.map_reverse]) (Or.inl (by simp [-List.map_take,-List.map_drop,-List.map_append,-List.map_reverse])) ?_)))))))
 refine R_mv rfl (R_ext rfl rfl (R_ext rfl rfl (R_ext rfl rfl (R_ext rfl rfl (R_alloc (i:=3) (n:=0) (m:=2) rfl (congrArg Blk.ver rfl) rfl (R_sk rfl rfl rfl rfl rfl rfl rfl rfl rfl (R_mv rfl ?_)))))))
 refine R_mv rfl (R_mv rfl (R_e (W_r (R_bslice rfl rfl (R_bslice rfl rfl (R_build rfl rfl (R_bslice rfl rfl ?_)))))))
 refine R_bslice rfl rfl (R_build rfl rfl (R_bslice rfl rfl (R_build rfl rfl (R_alloc (i:=7) (n:=0) (m:=2) rfl (congrArg Blk.ver rfl) rfl (R_sk rfl rfl rfl rfl rfl rfl rfl rfl rfl (R_e ?_))))))
 refine W_seq_regc (fun T H=>T 1=(V.mp 1 1 0 0)∧T 2=(iV (nwE ((2:Int))))∧T 4=(intss (w11_2.2.1))∧T 5=(V.bool (w11_2.2.2.1))∧T 6=(iV (w11_2.2.2.2))∧T 7=(V.mp 7 1 0 0)∧T 9=(intss (w11_14.2.1))∧T 10=(V.bool (w11_14.2.2.1))∧T 11=(iV (w11_14.2.2.2))∧H 1=w11_8∧H 3=w11_9∧H 7=w11_5∧H 8=w11_6∧H 12=(⟨0,false,false,0,0,[]⟩:Blk)∧H 14=(⟨0,false,false,0,0,[]⟩:Blk)∧H 17=(⟨0,false,false,0,0,[]⟩:Blk)∧True) ?_ ?_
 ·
  refine R_lk rfl rfl rfl rfl (R_lk rfl rfl rfl rfl (R_callk (tstep_pure ((nwT ((2:Int)))) w11_0 (bg_bd (by decide+kernel)) (by decide+kernel) (by decide+kernel)) rfl (R_mv rfl (R_ext rfl rfl (R_ext rfl rfl (R_ext rfl rfl (R_ext rfl rfl ?_)))))))
  refine R_alloc (i:=8) (n:=0) (m:=2) rfl (congrArg Blk.ver rfl) rfl (R_sk rfl rfl rfl rfl rfl rfl rfl rfl rfl (R_mv rfl (R_mv rfl (R_mv rfl ?_))))
  exact R_nil ⟨rfl,rfl,rfl,rfl,rfl,rfl,rfl,rfl,rfl,rfl,rfl,rfl,rfl,rfl,rfl,rfl,trivial⟩
 intro T H ⟨t1,t2,t4,t5,t6,t7,t9,t10,t11,h1,h3,h7,h8,h12,h14,h17,_⟩
 refine W_r (R_lk t1 h1 rfl rfl (R_lk t7 h7 rfl rfl (R_callk (thyp_pure ((nwT ((2:Int)))) w11_0 (bg_bd (by decide+kernel)) (by decide+kernel) (by decide+kernel)) rfl (R_mv rfl (R_ext rfl rfl (R_ext rfl rfl (R_alloc (i:=12) (n:=0) (m:=5) rfl (congrArg Blk.ver h12) rfl ?_)))))))
 refine R_sk rfl rfl rfl rfl rfl rfl rfl rfl rfl (R_mv rfl (R_e (W_r (R_lk t1 h1 rfl rfl (R_lk t7 h7 rfl rfl (R_bslice rfl rfl (R_build rfl rfl ?_)))))))
 refine R_call (evcons (@rfl V (V.agg [(iV ((nwT ((2:Int))).i)),(V.sl (List.map cN ((nwT ((2:Int))).t.nd)))])) (evcons (@rfl V (V.agg [(iV (2:Int)),(V.sl [[(V.sl [[(iV (1:Int))]]),(V.sl [[(iV (0:Int))]])],[(V.sl [[(iV (0:Int))],[(iV (1:Int))]]),(V.sl [[(iV (1:Int))],[(iV (2:Int))]])]])])) (evcons (@rfl V (V.agg [V.nilsl,(iV (0:Int)),(V.sl [[(iV (1:Int))]])])) evnil))) (trefine_pure ((nwT ((2:Int)))) w11_0 (⟨([]),((0:Int)),([1])⟩:Spl) (bg_bd (by decide+kernel)) (by decide+kernel)) (mcons (fzv_canon 6 _ (by simp [-List.map_take,-List.map_drop,-List.map_append,-List.map_reverse])) (mcons (fzv_canon 6 _ (by simp [-List.map_take,-List.map_drop,-List.map_append,-List.map_reverse])) (mcons (by simp [fzv,Blk.own,h1,h3,h7,h8,h14,h17]) rfl))) (by simp [-List.map_take,-List.map_drop,-List.map_append,-List.map_reverse]) (Or.inl (by simp [-List.map_take,-List.map_drop,-List.map_append,-List.map_reverse])) (R_mv rfl (R_ext rfl rfl (R_ext rfl rfl (R_ext rfl rfl (R_alloc (i:=14) (n:=0) (m:=2) rfl (congrArg Blk.ver h14) rfl (R_sk rfl rfl rfl rfl rfl rfl rfl rfl rfl (R_mv rfl ?_)))))))
 refine R_mv rfl (R_e (W_r (R_lk rfl rfl rfl rfl (R_lk t7 h7 rfl rfl (R_callk (tstep_pure (w11_1.1) w11_0 (bg_bd (by decide+kernel)) (by decide+kernel) (by decide+kernel)) rfl (R_mv rfl (R_ext rfl rfl ?_)))))))
 refine R_ext rfl rfl (R_ext rfl rfl (R_ext rfl rfl (R_alloc (i:=17) (n:=0) (m:=2) rfl (congrArg Blk.ver h17) rfl (R_sk rfl rfl rfl rfl rfl rfl rfl rfl rfl (R_mv rfl (R_mv rfl (R_mv rfl ?_)))))))
 refine R_e (W_seq_seq ?_)
 refine W_seq_regc (fun T H=>T 4=(intss (w11_2.2.1))∧T 12=(V.mp 12 1 0 0)∧T 14=(V.mp 14 1 0 0)∧T 18=w11_15∧T 110=(V.bool ((((w11_11||decide ((w11_1.2.2)≠(0:Int))))||decide (w11_16≠(0:Int)))))∧H 1=w11_8∧H 3=w11_9∧H 7=w11_5∧H 8=w11_6∧H 12=w11_3∧H 14=w11_10∧H 17=w11_7∧True) ?_ ?_
 ·
  refine R_mv t2 (R_neq rfl rfl (R_mv rfl ?_))
  refine Ops_seg 3 (fun T H=>T 4=(intss (w11_2.2.1))∧T 5=(V.bool (w11_2.2.2.1))∧T 9=(intss (w11_14.2.1))∧T 10=(V.bool (w11_14.2.2.1))∧T 11=(iV (w11_14.2.2.2))∧T 12=(V.mp 12 1 0 0)∧T 13=(iV w11_17)∧T 14=(V.mp 14 1 0 0)∧T 15=(intss (w11_1.2.1))∧T 16=(iV (w11_1.2.2))∧T 18=w11_15∧T 20=(iV w11_16)∧T 77=(V.bool (decide (((nwE ((2:Int)))≠(0:Int))∨((w11_2.2.2.2)≠(0:Int)))))∧H 1=w11_8∧H 3=w11_9∧H 7=w11_5∧H 8=w11_6∧H 12=w11_3∧H 14=w11_10∧H 17=w11_7∧True) ?_ ?_
  ·
   by_cases g1:(nwE ((2:Int)))≠(0:Int)
   ·
    refine G_n (edT g1 rfl) (G_n (edT g1 rfl) (R_pickT (edT g1 rfl) rfl ?_))
    exact ⟨t4,t5,t9,t10,t11,rfl,rfl,rfl,rfl,rfl,rfl,rfl,(dec_orT g1),h1,h3,h7,h8,rfl,rfl,rfl,trivial⟩
   ·
    refine G_yes (edF g1 rfl) (R_mv t6 (G_yes (edF g1 rfl) (R_neq rfl rfl (R_pickF (edF g1 rfl) rfl ?_))))
    exact ⟨t4,t5,t9,t10,t11,rfl,rfl,rfl,rfl,rfl,rfl,rfl,(dec_orF g1),h1,h3,h7,h8,rfl,rfl,rfl,trivial⟩
  intro T H ⟨t4,t5,t9,t10,t11,t12,t13,t14,t15,t16,t18,t20,t77,h1,h3,h7,h8,h12,h14,h17,_⟩
  refine R_mv t77 ?_
  refine Ops_seg 2 (fun T H=>T 4=(intss (w11_2.2.1))∧T 9=(intss (w11_14.2.1))∧T 10=(V.bool (w11_14.2.2.1))∧T 11=(iV (w11_14.2.2.2))∧T 12=(V.mp 12 1 0 0)∧T 13=(iV w11_17)∧T 14=(V.mp 14 1 0 0)∧T 15=(intss (w11_1.2.1))∧T 16=(iV (w11_1.2.2))∧T 18=w11_15∧T 20=(iV w11_16)∧T 80=(V.bool ((decide (((nwE ((2:Int)))≠(0:Int))∨((w11_2.2.2.2)≠(0:Int)))||(w11_2.2.2.1))))∧H 1=w11_8∧H 3=w11_9∧H 7=w11_5∧H 8=w11_6∧H 12=w11_3∧H 14=w11_10∧H 17=w11_7∧True) ?_ ?_
  ·
   by_cases g2:((nwE ((2:Int)))≠(0:Int))∨((w11_2.2.2.2)≠(0:Int))
   ·
    refine G_n (edT g2 rfl) (R_pickT (edT g2 rfl) rfl ?_)
    exact ⟨t4,t9,t10,t11,t12,t13,t14,t15,t16,t18,t20,(dborT g2),h1,h3,h7,h8,h12,h14,h17,trivial⟩
   ·
    refine G_yes (edF g2 rfl) (R_mv t5 (R_pickF (edF g2 rfl) rfl ?_))
    exact ⟨t4,t9,t10,t11,t12,t13,t14,t15,t16,t18,t20,(dborF g2),h1,h3,h7,h8,h12,h14,h17,trivial⟩
  intro T H ⟨t4,t9,t10,t11,t12,t13,t14,t15,t16,t18,t20,t80,h1,h3,h7,h8,h12,h14,h17,_⟩
  refine R_mv t80 ?_
  refine Ops_seg 3 (fun T H=>T 4=(intss (w11_2.2.1))∧T 9=(intss (w11_14.2.1))∧T 10=(V.bool (w11_14.2.2.1))∧T 12=(V.mp 12 1 0 0)∧T 13=(iV w11_17)∧T 14=(V.mp 14 1 0 0)∧T 15=(intss (w11_1.2.1))∧T 16=(iV (w11_1.2.2))∧T 18=w11_15∧T 20=(iV w11_16)∧T 84=(V.bool w11_12)∧H 1=w11_8∧H 3=w11_9∧H 7=w11_5∧H 8=w11_6∧H 12=w11_3∧H 14=w11_10∧H 17=w11_7∧True) ?_ ?_
  ·
   by_cases g3:((decide (((nwE ((2:Int)))≠(0:Int))∨((w11_2.2.2.2)≠(0:Int)))||(w11_2.2.2.1)))=true
   ·
    refine G_n (ebT g3 rfl) (G_n (ebT g3 rfl) (R_pickT (ebT g3 rfl) rfl ?_))
    exact ⟨t4,t9,t10,t12,t13,t14,t15,t16,t18,t20,(borT g3),h1,h3,h7,h8,h12,h14,h17,trivial⟩
   ·
    refine G_yes (ebF g3 rfl) (R_mv t11 (G_yes (ebF g3 rfl) (R_neq rfl rfl (R_pickF (ebF g3 rfl) rfl ?_))))
    exact ⟨t4,t9,t10,t12,t13,t14,t15,t16,t18,t20,(borF g3),h1,h3,h7,h8,h12,h14,h17,trivial⟩
  intro T H ⟨t4,t9,t10,t12,t13,t14,t15,t16,t18,t20,t84,h1,h3,h7,h8,h12,h14,h17,_⟩
  refine R_mv t84 ?_
  refine Ops_seg 3 (fun T H=>T 4=(intss (w11_2.2.1))∧T 9=(intss (w11_14.2.1))∧T 12=(V.mp 12 1 0 0)∧T 13=(iV w11_17)∧T 14=(V.mp 14 1 0 0)∧T 15=(intss (w11_1.2.1))∧T 16=(iV (w11_1.2.2))∧T 18=w11_15∧T 20=(iV w11_16)∧T 88=(V.bool ((w11_12||((!w11_14.2.2.1)))))∧H 1=w11_8∧H 3=w11_9∧H 7=w11_5∧H 8=w11_6∧H 12=w11_3∧H 14=w11_10∧H 17=w11_7∧True) ?_ ?_
  ·
   by_cases g4:w11_12=true
   ·
    refine G_n (ebT g4 rfl) (G_n (ebT g4 rfl) (R_pickT (ebT g4 rfl) rfl ?_))
    exact ⟨t4,t9,t12,t13,t14,t15,t16,t18,t20,(borT g4),h1,h3,h7,h8,h12,h14,h17,trivial⟩
   ·
    refine G_yes (ebF g4 rfl) (R_mv t10 (G_yes (ebF g4 rfl) (R_notb rfl (R_pickF (ebF g4 rfl) rfl ?_))))
    exact ⟨t4,t9,t12,t13,t14,t15,t16,t18,t20,(borF g4),h1,h3,h7,h8,h12,h14,h17,trivial⟩
  intro T H ⟨t4,t9,t12,t13,t14,t15,t16,t18,t20,t88,h1,h3,h7,h8,h12,h14,h17,_⟩
  refine R_mv t88 ?_
  refine Ops_seg 4 (fun T H=>T 4=(intss (w11_2.2.1))∧T 12=(V.mp 12 1 0 0)∧T 13=(iV w11_17)∧T 14=(V.mp 14 1 0 0)∧T 15=(intss (w11_1.2.1))∧T 16=(iV (w11_1.2.2))∧T 18=w11_15∧T 20=(iV w11_16)∧T 93=(V.bool w11_4)∧H 1=w11_8∧H 3=w11_9∧H 7=w11_5∧H 8=w11_6∧H 12=w11_3∧H 14=w11_10∧H 17=w11_7∧True) ?_ ?_
  ·
   by_cases g5:((w11_12||((!w11_14.2.2.1))))=true
   ·
    refine G_n (ebT g5 rfl) (G_n (ebT g5 rfl) (G_n (ebT g5 rfl) (R_pickT (ebT g5 rfl) rfl ?_)))
    exact ⟨t4,t12,t13,t14,t15,t16,t18,t20,(borT g5),h1,h3,h7,h8,h12,h14,h17,trivial⟩
   ·
    refine G_yes (ebF g5 rfl) (R_mv t9 (G_yes (ebF g5 rfl) (R_len rfl (G_yes (ebF g5 rfl) (R_neq rfl rfl (R_pickF (ebF g5 rfl) rfl ?_))))))
    exact ⟨t4,t12,t13,t14,t15,t16,t18,t20,(borF g5),h1,h3,h7,h8,h12,h14,h17,trivial⟩
  intro T H ⟨t4,t12,t13,t14,t15,t16,t18,t20,t93,h1,h3,h7,h8,h12,h14,h17,_⟩
  refine R_mv t93 ?_
  refine Ops_seg 3 (fun T H=>T 4=(intss (w11_2.2.1))∧T 12=(V.mp 12 1 0 0)∧T 14=(V.mp 14 1 0 0)∧T 15=(intss (w11_1.2.1))∧T 16=(iV (w11_1.2.2))∧T 18=w11_15∧T 20=(iV w11_16)∧T 97=(V.bool ((w11_4||decide (w11_17≠(0:Int)))))∧H 1=w11_8∧H 3=w11_9∧H 7=w11_5∧H 8=w11_6∧H 12=w11_3∧H 14=w11_10∧H 17=w11_7∧True) ?_ ?_
  ·
   by_cases g6:w11_4=true
   ·
    refine G_n (ebT g6 rfl) (G_n (ebT g6 rfl) (R_pickT (ebT g6 rfl) rfl ?_))
    exact ⟨t4,t12,t14,t15,t16,t18,t20,(borT g6),h1,h3,h7,h8,h12,h14,h17,trivial⟩
   ·
    refine G_yes (ebF g6 rfl) (R_mv t13 (G_yes (ebF g6 rfl) (R_neq rfl rfl (R_pickF (ebF g6 rfl) rfl ?_))))
    exact ⟨t4,t12,t14,t15,t16,t18,t20,(borF g6),h1,h3,h7,h8,h12,h14,h17,trivial⟩
  intro T H ⟨t4,t12,t14,t15,t16,t18,t20,t97,h1,h3,h7,h8,h12,h14,h17,_⟩
  refine R_mv t97 ?_
  refine Ops_seg 4 (fun T H=>T 4=(intss (w11_2.2.1))∧T 12=(V.mp 12 1 0 0)∧T 14=(V.mp 14 1 0 0)∧T 16=(iV (w11_1.2.2))∧T 18=w11_15∧T 20=(iV w11_16)∧T 102=(V.bool w11_11)∧H 1=w11_8∧H 3=w11_9∧H 7=w11_5∧H 8=w11_6∧H 12=w11_3∧H 14=w11_10∧H 17=w11_7∧True) ?_ ?_
  ·
   by_cases g7:((w11_4||decide (w11_17≠(0:Int))))=true
   ·
    refine G_n (ebT g7 rfl) (G_n (ebT g7 rfl) (G_n (ebT g7 rfl) (R_pickT (ebT g7 rfl) rfl ?_)))
    exact ⟨t4,t12,t14,t16,t18,t20,(borT g7),h1,h3,h7,h8,h12,h14,h17,trivial⟩
   ·
    refine G_yes (ebF g7 rfl) (R_mv t15 (G_yes (ebF g7 rfl) (R_len rfl (G_yes (ebF g7 rfl) (R_neq rfl rfl (R_pickF (ebF g7 rfl) rfl ?_))))))
    exact ⟨t4,t12,t14,t16,t18,t20,(borF g7),h1,h3,h7,h8,h12,h14,h17,trivial⟩
  intro T H ⟨t4,t12,t14,t16,t18,t20,t102,h1,h3,h7,h8,h12,h14,h17,_⟩
  refine R_mv t102 ?_
  refine Ops_seg 3 (fun T H=>T 4=(intss (w11_2.2.1))∧T 12=(V.mp 12 1 0 0)∧T 14=(V.mp 14 1 0 0)∧T 18=w11_15∧T 20=(iV w11_16)∧T 106=(V.bool ((w11_11||decide ((w11_1.2.2)≠(0:Int)))))∧H 1=w11_8∧H 3=w11_9∧H 7=w11_5∧H 8=w11_6∧H 12=w11_3∧H 14=w11_10∧H 17=w11_7∧True) ?_ ?_
  ·
   by_cases g8:w11_11=true
   ·
    refine G_n (ebT g8 rfl) (G_n (ebT g8 rfl) (R_pickT (ebT g8 rfl) rfl ?_))
    exact ⟨t4,t12,t14,t18,t20,(borT g8),h1,h3,h7,h8,h12,h14,h17,trivial⟩
   ·
    refine G_yes (ebF g8 rfl) (R_mv t16 (G_yes (ebF g8 rfl) (R_neq rfl rfl (R_pickF (ebF g8 rfl) rfl ?_))))
    exact ⟨t4,t12,t14,t18,t20,(borF g8),h1,h3,h7,h8,h12,h14,h17,trivial⟩
  intro T H ⟨t4,t12,t14,t18,t20,t106,h1,h3,h7,h8,h12,h14,h17,_⟩
  refine R_mv t106 ?_
  refine Ops_seg 3 (fun T H=>T 4=(intss (w11_2.2.1))∧T 12=(V.mp 12 1 0 0)∧T 14=(V.mp 14 1 0 0)∧T 18=w11_15∧T 110=(V.bool ((((w11_11||decide ((w11_1.2.2)≠(0:Int))))||decide (w11_16≠(0:Int)))))∧H 1=w11_8∧H 3=w11_9∧H 7=w11_5∧H 8=w11_6∧H 12=w11_3∧H 14=w11_10∧H 17=w11_7∧True) ?_ ?_
  ·
   by_cases g9:((w11_11||decide ((w11_1.2.2)≠(0:Int))))=true
   ·
    refine G_n (ebT g9 rfl) (G_n (ebT g9 rfl) (R_pickT (ebT g9 rfl) rfl ?_))
    exact ⟨t4,t12,t14,t18,(borT g9),h1,h3,h7,h8,h12,h14,h17,trivial⟩
   ·
    refine G_yes (ebF g9 rfl) (R_mv t20 (G_yes (ebF g9 rfl) (R_neq rfl rfl (R_pickF (ebF g9 rfl) rfl ?_))))
    exact ⟨t4,t12,t14,t18,(borF g9),h1,h3,h7,h8,h12,h14,h17,trivial⟩
  intro T H ⟨t4,t12,t14,t18,t110,h1,h3,h7,h8,h12,h14,h17,_⟩
  exact R_nil ⟨t4,t12,t14,t18,t110,h1,h3,h7,h8,h12,h14,h17,trivial⟩
 intro T H ⟨t4,t12,t14,t18,t110,h1,h3,h7,h8,h12,h14,h17,_⟩
 refine W_seq_ifb t110 (fun c10=>?_) (fun c10=>?_)
 · exfalso; revert c10; decide+kernel
 refine W_seq_skip (W_r (R_mv t4 (R_bslice rfl rfl (R_bslice rfl rfl (R_bslice rfl rfl (R_callk (swords_pure (w11_2.2.1) ([[0],[1]])) rfl (R_mv rfl ?_)))))))
 refine Ops_seg 6 (fun T H=>T 14=(V.mp 14 1 0 0)∧T 18=w11_15∧T 122=(V.bool (decide w11_13))∧H 1=w11_8∧H 3=w11_9∧H 7=w11_5∧H 8=w11_6∧H 12=w11_3∧H 14=w11_10∧H 17=w11_7∧True) ?_ ?_
 ·
  by_cases g11:(w11_2.2.1)=([[0],[1]])
  ·
   refine G_yes (edT g11 rfl) (R_fk t12 h12 (G_yes (edT g11 rfl) (R_fk rfl h12 (G_yes (edT g11 rfl) (R_lk rfl h12 rfl rfl (G_yes (edT g11 rfl) (R_len rfl ?_)))))))
   refine G_yes (edT g11 rfl) (R_eql rfl rfl (R_pickT (edT g11 rfl) rfl ?_))
   exact ⟨t14,t18,(dec_andT g11),h1,h3,h7,h8,h12,h14,h17,trivial⟩
  ·
   refine G_n (edF g11 rfl) (G_n (edF g11 rfl) (G_n (edF g11 rfl) (G_n (edF g11 rfl) (G_n (edF g11 rfl) (R_pickF (edF g11 rfl) rfl ?_)))))
   exact ⟨t14,t18,(dec_andF g11),h1,h3,h7,h8,h12,h14,h17,trivial⟩
 intro T H ⟨t14,t18,t122,h1,h3,h7,h8,h12,h14,h17,_⟩
 refine R_mv t122 ?_
 refine Ops_seg 6 (fun T H=>T 18=w11_15∧T 129=(V.bool (decide (w11_13∧((((w11_1.1.t.nd).length:Nat):Int)=(3:Int)))))∧H 1=w11_8∧H 3=w11_9∧H 7=w11_5∧H 8=w11_6∧H 12=w11_3∧H 14=w11_10∧H 17=w11_7∧True) ?_ ?_
 ·
  by_cases g12:((w11_2.2.1)=([[0],[1]]))∧(((((hyR ((nwT ((2:Int)))) w11_0).m.nx).length:Nat):Int)=(1:Int))
  ·
   refine G_yes (edT g12 rfl) (R_fk t14 h14 (G_yes (edT g12 rfl) (R_fk rfl h14 (G_yes (edT g12 rfl) (R_lk rfl h14 rfl rfl (G_yes (edT g12 rfl) (R_len rfl ?_)))))))
   refine G_yes (edT g12 rfl) (R_eql rfl rfl (R_pickT (edT g12 rfl) rfl ?_))
   exact ⟨t18,(dec_andT g12),h1,h3,h7,h8,h12,h14,h17,trivial⟩
  ·
   refine G_n (edF g12 rfl) (G_n (edF g12 rfl) (G_n (edF g12 rfl) (G_n (edF g12 rfl) (G_n (edF g12 rfl) (R_pickF (edF g12 rfl) rfl ?_)))))
   exact ⟨t18,(dec_andF g12),h1,h3,h7,h8,h12,h14,h17,trivial⟩
 intro T H ⟨t18,t129,h1,h3,h7,h8,h12,h14,h17,_⟩
 refine R_mv t129 ?_
 refine Ops_seg 7 (fun T H=>T 137=(V.bool (decide ((w11_13∧((((w11_1.1.t.nd).length:Nat):Int)=(3:Int)))∧(((tst (w11_1.1) w11_0).2.1)=([[1,1],[0,0,1],[0,1,1]])))))∧H 1=w11_8∧H 3=w11_9∧H 7=w11_5∧H 8=w11_6∧H 12=w11_3∧H 14=w11_10∧H 17=w11_7∧True) ?_ ?_
 ·
  by_cases g13:w11_13∧((((w11_1.1.t.nd).length:Nat):Int)=(3:Int))
  ·
   refine G_yes (edT g13 rfl) (R_mv t18 (G_yes (edT g13 rfl) (R_bslice rfl rfl (G_yes (edT g13 rfl) (R_bslice rfl rfl (G_yes (edT g13 rfl) (R_bslice rfl rfl ?_)))))))
   refine G_yes (edT g13 rfl) (R_bslice rfl rfl (G_yes (edT g13 rfl) (R_callk (swords_pure ((tst (w11_1.1) w11_0).2.1) ([[1,1],[0,0,1],[0,1,1]])) rfl (R_pickT (edT g13 rfl) rfl ?_))))
   exact ⟨(dec_andT g13),h1,h3,h7,h8,h12,h14,h17,trivial⟩
  ·
   refine G_n (edF g13 rfl) (G_n (edF g13 rfl) (G_n (edF g13 rfl) (G_n (edF g13 rfl) (G_n (edF g13 rfl) (G_n (edF g13 rfl) (R_pickF (edF g13 rfl) rfl ?_))))))
   exact ⟨(dec_andF g13),h1,h3,h7,h8,h12,h14,h17,trivial⟩
 intro T H ⟨t137,h1,h3,h7,h8,h12,h14,h17,_⟩
 refine R_mv t137 (R_e (W_ret ?_))
 refine Ret_1 (@rfl V (V.bool (decide ((w11_13∧((((w11_1.1.t.nd).length:Nat):Int)=(3:Int)))∧(((tst (w11_1.1) w11_0).2.1)=([[1,1],[0,0,1],[0,1,1]])))))) (fz_bool ?_)
 · decide+kernel
def s23:SF:=⟨9,[.tmp 2],.seq (.reg [sO 1 (.box 24 1 (.t 0)),sO 2 (.mv (.c (.nilsl)))]) (.seq (.seq (.reg [qL 3 1 1,sO 4 (.call false 77 [.t 3]),qC 5 .neq 4 0]) (.cond (.t 5) (.seq (.reg [sO 2 (.mv (.c (.nilsl)))]) (.ret)) (.skip))) (.seq (.reg [qL 6 1 1,sO 7 (.call false 54 [.t 6]),sO 8 (.call false 63 [.t 7]),qM 2 8]) (.ret)))⟩
theorem s23_ok:slimF Tryz.prog ⟨[107,108,109,116,120,126,127,167,169,170,171,172,194,196,198,209,222,226],[]⟩ Tryz.f23=some s23:=by kernel_rfl
def r54_6:List SO:=[
 qM 18 3,
 qF 19 0 1,
 ql 20 19,
 qM 21 4,
 qA 22 5 20 21,
 qF 23 1 22,
 ql 24 23,
 sO 25 (.bslice 54 1 false [.nilsl] 1 [(0,.t 24)]),
 sO 26 (.call false 64 [.t 25]),
 sO 27 (.bslice 54 1 false [.nilsl] 1 [(0,.t 26)]),
 sO 28 (.append 54 1 24 (.t 18) (.t 27)),
 qM 3 28]
def b54_0:SC:=.seq (.seq (.reg [qM 5 4,qF 6 0 1,ql 7 6,qN 8 7,qP 9 .lss 5 8]) (.cond (.t 9) (.skip) (.exit 0))) (.seq (.block 1 (.seq (.reg [qF 12 0 1,ql 13 12,qM 14 4,qA 15 5 13 14,qF 16 0 15,ql 17 16]) (.cond (.t 17) (.reg r54_6) (.skip)))) (.reg [qM 10 4,qC 11 .add 10 1,qM 4 11]))
def s54:SF:=⟨30,[.tmp 2],.seq (.reg [sO 1 (.box 24 1 (.t 0)),sO 2 (.mv (.c (.nilsl)))]) (.seq (.reg [sO 3 (.lazy 54 1)]) (.seq (.seq (.reg [qI 4 0]) (.block 0 (.loop b54_0))) (.seq (.reg [qM 29 3,qM 2 29]) (.ret))))⟩
theorem s54_ok:slimF Tryz.prog ⟨[107,108,109,116,120,126,127,167,169,170,171,172,194,196,198,209,222,226],[3]⟩ Tryz.f54=some s54:=by kernel_rfl
def r64_5:List SO:=[
 qM 11 3,
 qM 12 0,
 qM 13 4,
 qA 14 1 12 13,
 ql 15 14,
 sO 16 (.append 3 1 8 (.t 11) (.t 15)),
 qM 3 16]
def b64_0:SC:=.seq (.seq (.reg [qM 5 4,qM 6 0,qN 7 6,qP 8 .lss 5 7]) (.cond (.t 8) (.skip) (.exit 0))) (.seq (.block 1 (.reg r64_5)) (.reg [qM 9 4,qC 10 .add 9 1,qM 4 10]))
def s64:SF:=⟨18,[.tmp 2],.seq (.reg [sO 2 (.mv (.c (.nilsl)))]) (.seq (.reg [sO 3 (.lazy 3 1)]) (.seq (.seq (.reg [qI 4 0]) (.block 0 (.loop b64_0))) (.seq (.reg [qM 17 3,qM 2 17]) (.ret))))⟩
theorem s64_ok:slimF Tryz.prog ⟨[107,108,109,116,120,126,127,167,169,170,171,172,194,196,198,209,222,226],[3]⟩ Tryz.f64=some s64:=by kernel_rfl
theorem join_pure (l:List (List Int)) (hs:(cat l).length≤17592186044416):PureC Tryz.prog 64 [(intss l)] (ints (cat l)):=by
 refine pW Tryz.func64 s64_ok fun hB=>?_
 unfold s64
 dsimp only
 refine W_r (R_mv rfl (R_e (W_r (R_lazy (i:=3) (n:=0) rfl (congrArg Blk.ver rfl) (R_e (W_seq_seq (W_r ?_)))))))
 refine R_mv rfl (R_e (W_seq_blockg fun Q1 n1 x1 y1 z1=>?_))
 refine W_loop (fun mm T H=> ∃ (k:Nat),mm=l.length - k∧T 0=(intss l)∧T 3=(V.ms 3 (1+k) 0 ((cat (l.take k)).length))∧T 4=(iV ((k:Nat):Int))∧H 3=(bz (1+k) 3 1 (List.map cI (cat (l.take k))))∧(k≤l.length)) ?_ ?_
 ·
  refine ⟨_,0,rfl,rfl,(Eq.trans (@rfl V (V.ms 3 1 0 (0))) (by rfl)),(Eq.trans (@rfl V (iV (0:Int))) rfl),(Eq.trans (@rfl Blk (bz 1 3 1 [])) (by rfl)),?_⟩
  · omega
 intro mm T H ⟨k,hmm,t0,t3,t4,h3,hk⟩ Q2 p12 p22 p32
 unfold b64_0
 refine W_seq_seq (W_r (R_mv t4 (R_mv t0 (R_len rfl (R_lss rfl rfl (R_e ?_))))))
 refine W_seq_if rfl (fun c3=>?_) fun c3=>?_
 ·
  have hq:=cat_take_le (l:=l) (k:=k) (by omega)
  refine W_seq_skip (W_seq_blockg fun Q4 n4 x4 y4 z4=>(W_t (R_mv t3 (R_mv t0 (R_mv t4 (R_idx (i:=k) (@rfl V (intss l)) (@rfl V (iV ((k:Nat):Int))) (by omega) rfl (R_load_pp rfl rfl ?_)))))))
  refine R_appendS (l:=(cat (l.take k))) (m:=((nth (l) (k)))) (f:=cI) (@rfl V (V.ms 3 (1+k) 0 ((cat (l.take k)).length))) h3 (by rfl) (@rfl V (ints ((nth (l) (k))))) (fun _=>rfl) (fun _=>rfl) (by omega) (by omega) (R_mv rfl (R_e (n4 _ _ (.done (W_t (R_mv t4 (R_addN rfl (@rfl V (iV ((1:Nat):Int))) (by omega) ?_)))))))
  refine R_mv rfl (R_e ?_)
  refine p12 _ _ _ ?_ ⟨(k+1),rfl,t0,(Eq.trans (@rfl V (V.ms 3 (1+k+1) 0 (((cat (l.take k)).length)+((nth (l) (k))).length))) (by (rw [cat_take (by omega),List.length_append]; rfl))),(Eq.trans (@rfl V (iV ((k+1:Nat):Int))) (by rfl)),(Eq.trans (@rfl Blk (bz (1+k+1) 3 1 (List.map cI (cat (l.take k)++((nth (l) (k))))))) (by (rw [cat_take (by omega)]; rfl))),?_⟩
  · omega
  · omega
 refine W_seq_exit (p32 _ _ _ (x1 _ _ (.done (W_r (R_mv t3 (R_mv rfl (R_e ?_)))))))
 refine W_ret ?_
 refine Ret_1 (@rfl V (V.ms 3 (1+k) 0 ((cat (l.take k)).length))) (fz_ms h3 (by simp) (l:=(cat (l.take k))) rfl (by rfl) (fun _=>by simp) ?_)
 · (have e:k=l.length:=(by omega); subst e; rw [List.take_length])
theorem raccess_pure (t:Dt) (hb:Bd t):PureC Tryz.prog 54 [(V.agg [(V.sl (List.map cN (t.nd)))])] (intss (acL t.nd)):=by
 refine pW Tryz.func54 s54_ok fun hB=>?_
 unfold s54
 dsimp only
 have hbn:=hb.n
 refine W_r (R_box (i:=1) (n:=0) (m:=1) (cs:=[(V.sl (List.map cN (t.nd)))]) rfl (congrArg Blk.ver rfl) rfl rfl rfl (R_mv rfl (R_e (W_r (R_lazy (i:=3) (n:=0) rfl (congrArg Blk.ver rfl) (R_e (W_seq_seq ?_)))))))
 refine W_r (R_mv rfl (R_e (W_seq_blockg fun Q1 n1 x1 y1 z1=>?_)))
 refine W_loop (fun mm T H=> ∃ (k:Nat) (v:Nat),mm=t.nd.length - k∧T 1=(V.mp 1 1 0 0)∧T 3=(V.ms 3 v 0 ((acL (t.nd.take k)).length))∧T 4=(iV ((k:Nat):Int))∧H 1=(bk 1 24 1 [[(V.sl (List.map cN (t.nd)))]])∧H 3=(bz v 54 1 (List.map cL (acL (t.nd.take k))))∧(k≤t.nd.length)) ?_ ?_
 ·
  refine ⟨_,0,1,rfl,rfl,(Eq.trans (@rfl V (V.ms 3 1 0 (0))) (by rfl)),(Eq.trans (@rfl V (iV (0:Int))) rfl),rfl,(Eq.trans (@rfl Blk (bz 1 54 1 [])) (by rfl)),?_⟩
  · omega
 intro mm T H ⟨k,v,hmm,t1,t3,t4,h1,h3,hk⟩ Q2 p12 p22 p32
 unfold b54_0
 have q1:=acL_len (t.nd.take k)
 have q2:(t.nd.take k).length≤k:=by simp; omega
 refine W_seq_seq (W_r (R_mv t4 (R_fk t1 h1 (R_lk rfl h1 rfl rfl (R_len rfl (R_lss rfl rfl (R_e ?_)))))))
 refine W_seq_if rfl (fun c3=>?_) fun c3=>?_
 ·
  have r1:=hb.ac k (by omega)
  refine W_seq_skip (W_seq_blockg fun Q4 n4 x4 y4 z4=>(W_r (R_fk t1 h1 (R_lk rfl h1 rfl rfl (R_mv t4 (R_idx (i:=k) (@rfl V (V.sl (List.map cN (t.nd)))) (@rfl V (iV ((k:Nat):Int))) (by omega) rfl (R_fld_pp (cs':=(cN (((nth (t.nd) (k)))))) rfl rfl ?_)))))))
  refine R_load_pp rfl rfl (R_e ?_)
  refine W_ifb rfl (fun c5=>?_) (fun c5=>?_)
  ·
   have d1:(nth t.nd k).lf=true:=c5
   refine W_t (R_mv t3 (R_fk t1 h1 (R_lk rfl h1 rfl rfl (R_mv t4 (R_idx (i:=k) (@rfl V (V.sl (List.map cN (t.nd)))) (@rfl V (iV ((k:Nat):Int))) (by omega) rfl (R_fld_pp (cs':=(List.drop 1 (cN (((nth (t.nd) (k))))))) rfl rfl (R_load_pp rfl rfl ?_)))))))
   refine R_bslice rfl rfl (R_callk (join_pure ([((nth (t.nd) (k))).ac]) (by simp [cat]; omega)) rfl (R_bslice rfl rfl (R_append1 (l:=(acL (t.nd.take k))) (f:=cL) (x:=(cat ([((nth (t.nd) (k))).ac]))) (@rfl V (V.ms 3 v 0 ((acL (t.nd.take k)).length))) h3 (by rfl) (@rfl V (V.sl [[(ints (cat ([((nth (t.nd) (k))).ac])))]])) rfl rfl (by omega) (by omega) (R_mv rfl (R_e (n4 _ _ (.done ?_)))))))
   refine W_t (R_mv t4 (R_addN rfl (@rfl V (iV ((1:Nat):Int))) (by omega) (R_mv rfl (R_e ?_))))
   refine p12 _ _ _ ?_ ⟨(k+1),(v+1),rfl,t1,(Eq.trans (@rfl V (V.ms 3 (v+1) 0 (((acL (t.nd.take k)).length)+1))) (by (rw [acL_take (by omega),if_pos (by assumption),List.length_append]; rfl))),(Eq.trans (@rfl V (iV ((k+1:Nat):Int))) (by rfl)),h1,(Eq.trans (@rfl Blk (bz (v+1) 54 1 (List.map cL (acL (t.nd.take k)++[cat ([((nth (t.nd) (k))).ac])])))) (by (rw [acL_take (by omega),if_pos (by assumption)]; simp [cat]; done))),?_⟩
   · omega
   · omega
  have d1: ¬(nth t.nd k).lf=true:=by simpa using c5
  refine W_skip (n4 _ _ (.done (W_t (R_mv t4 (R_addN rfl (@rfl V (iV ((1:Nat):Int))) (by omega) (R_mv rfl (R_e ?_)))))))
  refine p12 _ _ _ ?_ ⟨(k+1),v,rfl,t1,(Eq.trans t3 (by (rw [acL_take (by omega),if_neg (by assumption),List.append_nil]; done))),(Eq.trans (@rfl V (iV ((k+1:Nat):Int))) (by rfl)),h1,(Eq.trans h3 (by (rw [acL_take (by omega),if_neg (by assumption),List.append_nil]; done))),?_⟩
  · omega
  · omega
 refine W_seq_exit (p32 _ _ _ (x1 _ _ (.done (W_r (R_mv t3 (R_mv rfl (R_e ?_)))))))
 refine W_ret ?_
 refine Ret_1 (@rfl V (V.ms 3 v 0 ((acL (t.nd.take k)).length))) (fz_ms h3 (by simp) (l:=(acL (t.nd.take k))) rfl (by rfl) (fun _=>by simp) ?_)
 · rw [show k=t.nd.length by omega,List.take_length]
def r63_5:List SO:=[
 qM 11 3,
 qM 12 0,
 qM 13 4,
 qA 14 1 12 13,
 ql 15 14,
 sO 16 (.call true 120 [.t 11,.t 15]),
 qM 3 16]
def b63_0:SC:=.seq (.seq (.reg [qM 5 4,qM 6 0,qN 7 6,qP 8 .lss 5 7]) (.cond (.t 8) (.skip) (.exit 0))) (.seq (.block 1 (.reg r63_5)) (.reg [qM 9 4,qC 10 .add 9 1,qM 4 10]))
def s63:SF:=⟨18,[.tmp 2],.seq (.reg [sO 2 (.mv (.c (.nilsl)))]) (.seq (.reg [sO 3 (.lazy 54 1)]) (.seq (.seq (.reg [qI 4 0]) (.block 0 (.loop b63_0))) (.seq (.reg [qM 17 3,qM 2 17]) (.ret))))⟩
theorem s63_ok:slimF Tryz.prog ⟨[107,108,109,116,120,126,127,167,169,170,171,172,194,196,198,209,222,226],[3]⟩ Tryz.f63=some s63:=by kernel_rfl
def r120_2:List SO:=[
 qM 10 5,
 qM 11 0,
 qN 12 11,
 qP 13 .lss 10 12,
 qM 14 13,
 ⟨some (14,true),some 15,.mv (.t 0)⟩,
 ⟨some (14,true),some 16,.mv (.t 5)⟩,
 ⟨some (14,true),some 17,.idx 1 (.t 15) (.t 16)⟩,
 ⟨some (14,true),some 18,.load false 1 (.t 17)⟩,
 ⟨some (14,true),some 19,.mv (.t 1)⟩,
 ⟨some (14,true),some 20,.call false 58 [.t 18,.t 19]⟩,
 sO 21 (.pick (.t 14) (.t 20) (.c (.bool false)))]
def r120_8:List SO:=[
 qM 34 0,
 qM 35 6,
 qM 36 0,
 qM 37 6,
 qC 38 .sub 37 1,
 qA 39 1 36 38,
 ql 40 39,
 qA 41 1 34 35,
 sN (.store 1 (.t 41) (.t 40))]
def b120_0:SC:=.seq (.seq (.reg [qM 29 6,qM 30 5,qP 31 .gtr 29 30]) (.cond (.t 31) (.skip) (.exit 0))) (.seq (.block 1 (.reg r120_8)) (.reg [qM 32 6,qC 33 .sub 32 1,qM 6 33]))
def r120_9:List SO:=[
 qM 42 0,
 qM 43 5,
 sO 44 (.lazy 3 1),
 qM 45 1,
 sO 46 (.append 3 1 8 (.t 44) (.t 45)),
 qA 47 1 42 43,
 sN (.store 1 (.t 47) (.t 46))]
def s120:SF:=⟨49,[.tmp 4],.seq (.reg [sO 4 (.mv (.c (.nilsl)))]) (.seq (.reg [qM 7 0,qM 8 1,sO 9 (.call false 168 [.t 7,.t 8]),qM 5 9]) (.seq (.seq (.reg r120_2) (.cond (.t 21) (.seq (.reg [qM 22 0,qM 4 22]) (.ret)) (.skip))) (.seq (.reg [qM 23 0,sO 24 (.bslice 54 1 false [.nilsl] 1 [(0,.c (.nilsl))]),sO 25 (.append 54 1 24 (.t 23) (.t 24)),qM 0 25]) (.seq (.seq (.reg [qM 26 0,qN 27 26,qC 28 .sub 27 1,qM 6 28]) (.block 0 (.loop b120_0))) (.seq (.reg r120_9) (.seq (.reg [qM 48 0,qM 4 48]) (.ret)))))))⟩
theorem s120_ok:slimF Tryz.prog ⟨[107,108,109,116,120,126,127,167,169,170,171,172,194,196,198,209,222,226],[44]⟩ Tryz.f120=some s120:=by kernel_rfl
def r168_4:List SO:=[
 qM 17 0,
 qM 18 7,
 qA 19 1 17 18,
 ql 20 19,
 qM 21 1,
 sO 22 (.call false 94 [.t 20,.t 21]),
 qC 23 .lss 22 0]
def b168_0:SC:=.seq (.seq (.reg [qM 10 5,qM 11 6,qP 12 .lss 10 11]) (.cond (.t 12) (.skip) (.exit 0))) (.block 1 (.seq (.reg [qM 13 5,qM 14 6,qP 15 .add 13 14,qC 16 .quo 15 2,qM 7 16]) (.seq (.reg r168_4) (.cond (.t 23) (.reg [qM 24 7,qC 25 .add 24 1,qM 5 25]) (.reg [qM 26 7,qM 6 26])))))
def s168:SF:=⟨28,[.tmp 4],.seq (.reg [qI 4 0]) (.seq (.reg [qM 8 0,qN 9 8,qI 5 0,qM 6 9]) (.seq (.block 0 (.loop b168_0)) (.seq (.reg [qM 27 5,qM 4 27]) (.ret))))⟩
theorem s168_ok:slimF Tryz.prog ⟨[107,108,109,116,120,126,127,167,169,170,171,172,194,196,198,209,222,226],[]⟩ Tryz.f168=some s168:=by kernel_rfl
theorem place_pure (l:List (List Int)) (w:List Int) (hs:SrtW l) (hl:l.length≤1073741824):PureC Tryz.prog 168 [(intss l),(ints w)] (iV ((plN l w:Nat):Int)):=by
 refine pW Tryz.func168 s168_ok fun hB=>?_
 unfold s168
 dsimp only
 have q0:=pl_le (w:=w) l
 refine W_r (R_mv rfl (R_e (W_r (R_mv rfl (R_len rfl (R_mv rfl (R_mv rfl ?_)))))))
 refine R_e (W_seq_blockg fun Q1 n1 x1 y1 z1=>?_)
 refine W_loop (fun mm T H=> ∃ (i:Nat) (j:Nat),mm=j - i∧T 0=(intss l)∧T 1=(ints w)∧T 5=(iV ((i:Nat):Int))∧T 6=(iV ((j:Nat):Int))∧(i≤plN l w)∧(plN l w≤j)∧(j≤l.length)) ?_ ?_
 ·
  refine ⟨_,0,l.length,rfl,rfl,rfl,(Eq.trans (@rfl V (iV (0:Int))) rfl),rfl,?_,?_,?_⟩
  · omega
  · omega
  · omega
 intro mm T H ⟨i,j,hmm,t0,t1,t5,t6,h1,h2,h3⟩ Q2 p12 p22 p32
 unfold b168_0
 refine W_seq_seq (W_r (R_mv t5 (R_mv t6 (R_lss rfl rfl (R_e ?_)))))
 refine W_seq_if rfl (fun c3=>?_) fun c3=>?_
 ·
  refine W_seq_skip (W_block fun Q4 n4 x4 y4 z4=>(W_r (R_mv t5 (R_mv t6 (R_addN rfl rfl (by omega) (R_quo2 (n:=(i+j)) rfl rfl (by omega) (R_mv rfl ?_)))))))
  refine R_e (W_r (R_mv t0 (R_mv rfl (R_idx (i:=((i+j) / 2)) (@rfl V (intss l)) (@rfl V (iV (((i+j) / 2:Nat):Int))) (by omega) rfl (R_load_pp rfl rfl (R_mv t1 (R_callk (rcompare_pure ((nth (l) ((i+j) / 2))) w) rfl ?_)))))))
  refine R_lss rfl rfl (R_e ?_)
  refine W_if rfl (fun c5=>?_) fun c5=>?_
  ·
   have d1:=(pl_iff hs (by omega)).1 c5
   refine W_t (R_mv rfl (R_addN rfl (@rfl V (iV ((1:Nat):Int))) (by omega) (R_mv rfl (R_e (n4 _ _ ?_)))))
   refine p12 _ _ _ ?_ ⟨(((i+j) / 2)+1),j,rfl,t0,t1,(Eq.trans (@rfl V (iV ((((i+j) / 2)+1:Nat):Int))) (by rfl)),t6,?_,?_,?_⟩
   · omega
   · omega
   · omega
   · omega
  have d1: ¬((i+j) / 2 < plN l w):=fun e=>c5 ((pl_iff hs (by omega)).2 e)
  refine W_t (R_mv rfl (R_mv rfl (R_e (n4 _ _ ?_))))
  refine p12 _ _ _ ?_ ⟨i,((i+j) / 2),rfl,t0,t1,t5,(Eq.trans (@rfl V (iV (((i+j) / 2:Nat):Int))) (by rfl)),?_,?_,?_⟩
  · omega
  · omega
  · omega
  · omega
 refine W_seq_exit (p32 _ _ _ (x1 _ _ (.done (W_r (R_mv t5 (R_mv rfl (R_e ?_)))))))
 refine W_ret ?_
 refine Ret_1 (@rfl V (iV ((i:Nat):Int))) (fz_int ?_)
 · have e:i=plN l w:=by omega
   rw [e]
theorem with_E (l:List (List Int)) (w:List Int) (v3 v44:Nat) (Hi:Heap) (h3:Hi 3=(bz v3 54 1 (List.map cL (l)))) (h544:(Hi 544).ver=v44) (hs:SrtW l) (hl:l.length≤100000) (hw:w.length≤1048576):CallOK Tryz.prog 120 [(V.ms 3 v3 0 (l.length)),(ints w)] Hi (V.ms 3 (v3+1) 0 ((wiW l w).length)) (upd (upd Hi 544 (⟨v44+2,false,false,0,0,[]⟩:Blk)) 3 (bz (v3+1) 54 1 (List.map cL (wiW l w)))):=by
 refine eW (k0:=500) Tryz.func120 s120_ok fun hB=>?_
 have q0:=pl_le (w:=w) l
 unfold s120
 dsimp only
 refine W_r (R_mv rfl (R_e (W_r (R_mv rfl (R_mv rfl (R_call (evcons (@rfl V (V.ms 3 v3 0 (l.length))) (evcons (@rfl V (ints w)) evnil)) (place_pure l w hs (by omega)) (mcons (fz_mst h3 (by simp) (take_map (l:=l) (by rfl)) (fun _=>by simp)) (mcons (fzv_canon 6 _ (by simp [-List.map_take,-List.map_drop,-List.map_append,-List.map_reverse])) rfl)) (by simp [-List.map_take,-List.map_drop,-List.map_append,-List.map_reverse]) (Or.inr rfl) (R_mv rfl ?_)))))))
 refine R_e (W_seq_seq (W_r (R_mv rfl (R_mv rfl (R_len_ms rfl h3 (by simp) (R_lss rfl rfl (R_mv rfl ?_)))))))
 refine Ops_seg 7 (fun T H=>T 0=(V.ms 3 v3 0 (l.length))∧T 1=(ints w)∧T 5=(iV ((plN l w:Nat):Int))∧T 21=(V.bool (decide ((((plN l w:Nat):Int) < ((l.length:Nat):Int))∧(((nth (l) (plN l w)))=w))))∧(∀ j,j∉[544,3]→H j=Hi j)∧H 3=(bz v3 54 1 (List.map cL (l)))∧(H 544).ver=v44∧True) ?_ ?_
 ·
  by_cases g1:((plN l w:Nat):Int) < ((l.length:Nat):Int)
  ·
   refine G_yes (edT g1 rfl) (R_mv rfl (G_yes (edT g1 rfl) (R_mv rfl (G_yes (edT g1 rfl) (R_idx_ms0 (i:=(plN l w)) (@rfl V (V.ms 3 v3 0 (l.length))) (@rfl V (iV ((plN l w:Nat):Int))) h3 (okB_map (by omega)) rfl (by omega) (G_yes (edT g1 rfl) (R_load_mp (v:=(ints ((nth (l) (plN l w))))) rfl h3 (ldB_map (by omega) (by rfl)) ?_)))))))
   refine G_yes (edT g1 rfl) (R_mv rfl (G_yes (edT g1 rfl) (R_callk (rsame1_pure ((nth (l) (plN l w))) w) rfl (R_pickT (edT g1 rfl) rfl ?_))))
   exact ⟨rfl,rfl,rfl,(dec_andT g1),(fun _ _=>rfl),h3,h544,trivial⟩
  ·
   refine G_n (edF g1 rfl) (G_n (edF g1 rfl) (G_n (edF g1 rfl) (G_n (edF g1 rfl) (G_n (edF g1 rfl) (G_n (edF g1 rfl) (R_pickF (edF g1 rfl) rfl ?_))))))
   exact ⟨rfl,rfl,rfl,(dec_andF g1),(fun _ _=>rfl),h3,h544,trivial⟩
 intro T H ⟨t0,t1,t5,t21,hF,h3,h544,_⟩
 refine R_e ?_
 refine W_seq_if t21 (fun c2=>?_) fun c2=>?_
 ·
  have d1:wiH l w:=by simpa [wiH] using c2
  have hwi:=wi_yes d1
  refine W_seq_seq (W_r (R_mv t0 (R_mv rfl (R_e (W_seq_ret (fork_ (R:=fun T H=>T 4=(V.ms 3 v3 0 (l.length))∧(∀ j,j∉[544,3]→H j=Hi j)∧H 3=(bz v3 54 1 (List.map cL (l)))∧(H 544).ver=v44∧True) ⟨(@rfl V (V.ms 3 v3 0 (l.length))),hF,h3,h544,trivial⟩ ?_))))))
  intro T H ⟨t4,hF,h3,h544,_⟩
  skip
  have fh:=FinX.fin (FinX.put (B:=(bz (v3+1) 54 1 (List.map cL (wiW l w)))) (FinX.putv (n:=v44) (B:=(⟨v44+2,false,false,0,0,[]⟩:Blk)) (FinX.start hF) h544 (by show _≤v44+2; omega) rfl) h3 (FinB.up (by omega) (by (rw [hwi]; done))))
  exact RetF_1 t4 fh (FinV.trans_eq (FinV.ms (n:=(v3+1)) fh (by simp [h3]) (by simp [h3]) rfl rfl) (by (rw [hwi]; done)))
 have d1: ¬wiH l w:=fun q=>by have q:=wi_ok.1 q; simp [q] at c2
 have hwi:=wi_no d1
 refine W_seq_skip ?_
 refine W_seq_g (fun T H=>T 0=(V.ms 3 (v3+1) 0 (l.length+1))∧T 1=(ints w)∧T 5=(iV ((plN l w:Nat):Int))∧(∀ j,j∉[544,3]→H j=Hi j)∧H 3=(bz (v3+1) 54 1 (List.map cL (l)++List.replicate (1) [V.nilsl]))∧(H 544).ver=v44∧True) ?_ ?_
 ·
  refine R_mv t0 (R_bslice rfl rfl (R_appendZ (l:=l) (f:=cL) (z:=[.nilsl]) (@rfl V (V.ms 3 v3 0 (l.length))) h3 (by rfl) (@rfl V (V.sl [[V.nilsl]])) rfl rfl (by omega) (by omega) (R_mv rfl ?_)))
  exact R_nil ⟨rfl,t1,t5,(upd_out hF (by decide)),rfl,h544,trivial⟩
 intro T H ⟨t0,t1,t5,hF,h3,h544,_⟩
 refine nil_cell (x:=[]) (f:=cL) (l:=l) h3 rfl (.done ?_)
 refine W_seq_seq (W_r (R_mv t0 (R_len_ms rfl (@rfl Blk (bz (v3+1) 54 1 (List.map cL (l++[[]])))) (by simp) (R_sub rfl rfl (by omega) (by omega) (R_mv rfl (R_e (W_seq_blockg fun Q3 n3 x3 y3 z3=>?_)))))))
 refine W_loop (fun mm T H=> ∃ (j:Nat),mm=j∧T 0=(V.ms 3 (v3+1) 0 (l.length+1))∧T 1=(ints w)∧T 5=(iV ((plN l w:Nat):Int))∧T 6=(iV ((j:Nat):Int))∧(∀ j,j∉[544,3]→H j=Hi j)∧H 3=(bz (v3+1) 54 1 (List.map cL (mvL l j)))∧(H 544).ver=v44∧(j≤l.length)∧(plN l w≤j)) ?_ ?_
 ·
  refine ⟨_,l.length,rfl,t0,t1,t5,(Eq.trans (@rfl V (iV (((l.length+1:Nat):Int) - (1:Int)))) (by (congr 1; omega))),(upd_out hF (by decide)),(Eq.trans (@rfl Blk (bz (v3+1) 54 1 (List.map cL (l++[[]])))) (by (rw [mv_top]; done))),((congrArg Blk.ver (upd_ne _ _ (by decide))).trans h544),?_,?_⟩
  · omega
  · omega
 intro mm T H ⟨j,hmm,t0,t1,t5,t6,hF,h3,h544,hj,hp⟩ Q4 p14 p24 p34
 unfold b120_0
 have q1:=mv_len hj
 refine W_seq_seq (W_r (R_mv t6 (R_mv t5 (R_gtr rfl rfl (R_e ?_)))))
 refine W_seq_if rfl (fun c5=>?_) fun c5=>?_
 ·
  refine W_seq_skip (W_seq_blockg fun Q6 n6 x6 y6 z6=>(W_t (R_mv t0 (R_mv t6 (R_mv t0 (R_mv t6 (R_sub rfl rfl (by omega) (by omega) ?_)))))))
  refine R_idxI_ms0 (i:=(((j:Nat):Int) - (1:Int))) (@rfl V (V.ms 3 (v3+1) 0 (l.length+1))) (@rfl V (iV (((j:Nat):Int) - (1:Int)))) h3 (okB_map (by omega)) rfl (by omega) (by omega) (R_load_mp (v:=(ints ((nth (mvL l j) (((((j:Nat):Int) - (1:Int))).toNat))))) rfl h3 (ldB_map (by omega) (by rfl)) (R_idx_ms0 (i:=j) (@rfl V (V.ms 3 (v3+1) 0 (l.length+1))) (@rfl V (iV ((j:Nat):Int))) h3 (okB_map (by omega)) rfl (by omega) (R_store (vs:=[(ints ((nth (mvL l j) (((((j:Nat):Int) - (1:Int))).toNat))))]) (B':=(bz (v3+1) 54 1 (List.map cL ((mvL l j).set j ((nth (mvL l j) (((((j:Nat):Int) - (1:Int))).toNat))))))) rfl rfl rfl h3 (stB_map (x:=((nth (mvL l j) (((((j:Nat):Int) - (1:Int))).toNat)))) (i:=j) (by omega) rfl rfl rfl rfl) (R_e (n6 _ _ (.done (W_t ?_)))))))
  refine R_mv t6 (R_sub rfl rfl (by omega) (by omega) (R_mv rfl (R_e ?_)))
  refine p14 _ _ _ ?_ ⟨(j - 1),rfl,t0,t1,t5,(Eq.trans (@rfl V (iV (((j:Nat):Int) - (1:Int)))) (by (congr 1; omega))),(upd_out hF (by decide)),(Eq.trans (@rfl Blk (bz (v3+1) 54 1 (List.map cL ((mvL l j).set j ((nth (mvL l j) (((((j:Nat):Int) - (1:Int))).toNat))))))) (by (rw [show (((j:Nat):Int) - (1:Int)).toNat=j - 1 by omega,mv_step (by omega) hj]; done))),h544,?_,?_⟩
  · omega
  · omega
  · omega
 refine W_seq_exit (p34 _ _ _ (x3 _ _ (.done ?_)))
 refine W_seq_g (fun T H=>T 0=(V.ms 3 (v3+1) 0 (l.length+1))∧(∀ j,j∉[544,3]→H j=Hi j)∧H 3=(bz (v3+1) 54 1 ((List.map cL (mvL l j)).set (plN l w) [(V.ms 544 (v44+2) 0 (0+(w).length))]))∧H 544=(bz (v44+2) 3 1 (List.map cI ([]++w)))∧True) ?_ ?_
 ·
  refine R_mv t0 (R_mv t5 (R_lazy (i:=544) (n:=v44) (by rfl) h544 (R_mv t1 (R_appendS (l:=([])) (m:=w) (f:=cI) (@rfl V (V.ms 544 (v44+1) 0 (0))) (show _=(bz (v44+1) 3 1 (List.map cI ([]))) from (@rfl Blk (bz (v44+1) 3 1 []))) (by rfl) (@rfl V (ints w)) (fun _=>rfl) (fun _=>rfl) (by omega) (by omega) (R_idx_ms0 (i:=(plN l w)) (@rfl V (V.ms 3 (v3+1) 0 (l.length+1))) (@rfl V (iV ((plN l w:Nat):Int))) h3 (okB_map (by omega)) rfl (by omega) (R_store (vs:=[(V.ms 544 (v44+2) 0 (0+(w).length))]) (B':=(bz (v3+1) 54 1 ((List.map cL (mvL l j)).set (plN l w) [(V.ms 544 (v44+2) 0 (0+(w).length))]))) rfl rfl rfl h3 (stB_setc (i:=(plN l w)) (by omega) rfl rfl rfl) ?_))))))
  exact R_nil ⟨t0,(upd_out (upd_out (upd_out hF (by decide)) (by decide)) (by decide)),rfl,rfl,trivial⟩
 intro T H ⟨t0,hF,h3,h544,_⟩
 refine frz_cellg (id:=544) (id2:=3) (rows:=(List.map cL (mvL l j))) (i:=(plN l w)) (off:=0) (r:=[(V.ms 544 (v44+2) 0 (0+(w).length))]) (m:=([]++w)) (g:=cI) (by decide) h544 h3 (by (simp; omega)) (by simp) rfl (.done ?_)
 refine fork_ (R:=fun T H=>T 0=(V.ms 3 (v3+1) 0 (l.length+1))∧(∀ j,j∉[544,3]→H j=Hi j)∧H 3=(bz (v3+1) 54 1 (List.map cL ((mvL l j).set (plN l w) ([]++w))))∧((H 544).ver=v44+2∧(H 544).live=false)∧True) ⟨(fzT_q t0 (fzq_other (by decide))),(upd_out (kill_out hF (by decide)) (by decide)),(Eq.trans (upd_same _ _ _) (by (rw [List.map_set]; rfl))),⟨(congrArg Blk.ver (upd_ne _ _ (by decide))).trans (kill_self (congrArg Blk.ver h544)).1,(congrArg Blk.live (upd_ne _ _ (by decide))).trans (kill_self (congrArg Blk.ver h544)).2⟩,trivial⟩ ?_
 intro T H ⟨t0,hF,h3,h544,_⟩
 refine W_r (R_mv t0 (R_mv rfl (R_e (W_ret (fork_ (R:=fun T H=>T 4=(V.ms 3 (v3+1) 0 (l.length+1))∧(∀ j,j∉[544,3]→H j=Hi j)∧H 3=(bz (v3+1) 54 1 (List.map cL ((mvL l j).set (plN l w) ([]++w))))∧((H 544).ver=v44+2∧(H 544).live=false)∧True) ⟨(@rfl V (V.ms 3 (v3+1) 0 (l.length+1))),hF,h3,h544,trivial⟩ ?_)))))
 intro T H ⟨t4,hF,h3,h544,_⟩
 skip
 have fh:=FinX.fin (FinX.put (B:=(bz (v3+1) 54 1 (List.map cL (wiW l w)))) (FinX.putv (n:=(v44+2)) (B:=(⟨v44+2,false,false,0,0,[]⟩:Blk)) (FinX.start hF) (h544).1 (by show _≤v44+2; omega) rfl) h3 (FinB.eq (by (rw [show j=plN l w by omega,mv_end q0,hwi]; rfl))))
 exact RetF_1 t4 fh (FinV.trans_eq (FinV.same fh _) (by (rw [hwi]; simp; omega)))
theorem rsorted_pure (l:List (List Int)) (hl:l.length≤10000) (hw: ∀ w∈l,w.length≤1048576):PureC Tryz.prog 63 [(intss l)] (intss (sdW l)):=by
 refine pW Tryz.func63 s63_ok fun hB=>?_
 unfold s63
 dsimp only
 refine W_r (R_mv rfl (R_e (W_r (R_lazy (i:=3) (n:=0) rfl (congrArg Blk.ver rfl) (R_e (W_seq_seq (W_r ?_)))))))
 refine R_mv rfl (R_e (W_seq_blockg fun Q1 n1 x1 y1 z1=>?_))
 refine W_loop (fun mm T H=> ∃ (k:Nat) (v:Nat) (v544:Nat),mm=l.length - k∧T 0=(intss l)∧T 3=(V.ms 3 v 0 ((sdW (l.take k)).length))∧T 4=(iV ((k:Nat):Int))∧H 3=(bz v 54 1 (List.map cL (sdW (l.take k))))∧(H 544).ver=v544∧(k≤l.length)) ?_ ?_
 ·
  refine ⟨_,0,1,0,rfl,rfl,(Eq.trans (@rfl V (V.ms 3 1 0 (0))) (by rfl)),(Eq.trans (@rfl V (iV (0:Int))) rfl),(Eq.trans (@rfl Blk (bz 1 54 1 [])) (by rfl)),(congrArg Blk.ver rfl),?_⟩
  · omega
 intro mm T H ⟨k,v,v544,hmm,t0,t3,t4,h3,h544,hk⟩ Q2 p12 p22 p32
 unfold b63_0
 have q1:=sdW_len (l.take k)
 have q2:(l.take k).length≤k:=by simp; omega
 refine W_seq_seq (W_r (R_mv t4 (R_mv t0 (R_len rfl (R_lss rfl rfl (R_e ?_))))))
 refine W_seq_if rfl (fun c3=>?_) fun c3=>?_
 ·
  refine W_seq_skip (W_seq_blockg fun Q4 n4 x4 y4 z4=>(W_t (R_mv t3 (R_mv t0 (R_mv t4 (R_idx (i:=k) (@rfl V (intss l)) (@rfl V (iV ((k:Nat):Int))) (by omega) rfl (R_load_pp rfl rfl ?_)))))))
  refine R_callE (evcons rfl (evcons rfl evnil)) (with_E (sdW (l.take k)) ((nth (l) (k))) v v544 _ h3 h544 (sdW_srt _) (by omega) (hw _ (nth_mem (by omega)))) (R_mv rfl (R_e (n4 _ _ (.done (W_t (R_mv t4 (R_addN rfl (@rfl V (iV ((1:Nat):Int))) (by omega) ?_)))))))
  refine R_mv rfl (R_e ?_)
  refine p12 _ _ _ ?_ ⟨(k+1),(v+1),(v544+2),rfl,t0,(Eq.trans (@rfl V (V.ms 3 (v+1) 0 ((wiW (sdW (l.take k)) ((nth (l) (k)))).length))) (by (rw [sdW_take (by omega)]; done))),(Eq.trans (@rfl V (iV ((k+1:Nat):Int))) (by rfl)),(Eq.trans (@rfl Blk (bz (v+1) 54 1 (List.map cL (wiW (sdW (l.take k)) ((nth (l) (k))))))) (by (rw [sdW_take (by omega)]; done))),(congrArg Blk.ver rfl),?_⟩
  · omega
  · omega
 refine W_seq_exit (p32 _ _ _ (x1 _ _ (.done (W_r (R_mv t3 (R_mv rfl (R_e ?_)))))))
 refine W_ret ?_
 refine Ret_1 (@rfl V (V.ms 3 v 0 ((sdW (l.take k)).length))) (fz_ms h3 (by simp) (l:=(sdW (l.take k))) rfl (by rfl) (fun _=>by simp) ?_)
 · rw [show k=l.length by omega,List.take_length]
def r77_8:List SO:=[
 qL 21 1 1,
 qF 22 0 1,
 ql 23 22,
 qM 24 3,
 qA 25 5 23 24,
 qL 26 5 25,
 sO 27 (.call false 130 [.t 21,.t 26]),
 qM 4 27]
def b77_0:SC:=.seq (.seq (.reg [qM 14 3,qF 15 0 1,ql 16 15,qN 17 16,qP 18 .lss 14 17]) (.cond (.t 18) (.skip) (.exit 0))) (.seq (.block 1 (.seq (.reg r77_8) (.seq (.reg [qM 28 4,qC 29 .neq 28 0]) (.cond (.t 29) (.seq (.reg [qM 30 4,qM 2 30]) (.ret)) (.skip))))) (.reg [qM 19 3,qC 20 .add 19 1,qM 3 20]))
def s77:SF:=⟨42,[.tmp 2],.seq (.reg [sO 1 (.box 24 1 (.t 0)),qI 2 0]) (.seq (.seq (.reg [qF 6 0 1,ql 7 6,qN 8 7,qC 9 .eql 8 0]) (.cond (.t 9) (.seq (.reg [qI 2 19]) (.ret)) (.skip))) (.seq (.seq (.reg [qF 10 0 1,ql 11 10,qN 12 11,qC 13 .gtr 12 4096]) (.cond (.t 13) (.seq (.reg [qI 2 11]) (.ret)) (.skip))) (.seq (.seq (.reg [qI 3 0]) (.block 0 (.loop b77_0))) (.seq (.seq (.reg [qL 31 1 1,sO 32 (.call false 131 [.t 31]),sO 33 (.un .not (.t 32))]) (.cond (.t 33) (.seq (.reg [qI 2 1]) (.ret)) (.skip))) (.seq (.reg [qL 34 1 1,sO 35 (.call false 54 [.t 34]),qM 5 35]) (.seq (.seq (.reg [qM 36 5,sO 37 (.call false 63 [.t 36]),qN 38 37,qM 39 5,qN 40 39,qP 41 .neq 38 40]) (.cond (.t 41) (.seq (.reg [qI 2 7]) (.ret)) (.skip))) (.seq (.reg [qI 2 0]) (.ret))))))))⟩
theorem s77_ok:slimF Tryz.prog ⟨[107,108,109,116,120,126,127,167,169,170,171,172,194,196,198,209,222,226],[]⟩ Tryz.f77=some s77:=by kernel_rfl
def r130_2:List SO:=[
 qF 11 2 3,
 ql 12 11,
 qN 13 12,
 qC 14 .gtr 13 0,
 qM 15 14,
 ⟨some (15,false),some 16,.fld 3 (.t 3)⟩,
 ⟨some (15,false),some 17,.load false 1 (.t 16)⟩,
 ⟨some (15,false),some 18,.len (.t 17)⟩,
 ⟨some (15,false),some 19,.bin .gtr (.t 18) (.c (.int .i64 0))⟩,
 sO 20 (.pick (.t 15) (.c (.bool true)) (.t 19)),
 qM 21 20,
 ⟨some (21,false),some 22,.fld 4 (.t 3)⟩,
 ⟨some (21,false),some 23,.load false 1 (.t 22)⟩,
 ⟨some (21,false),some 24,.len (.t 23)⟩,
 ⟨some (21,false),some 25,.bin .gtr (.t 24) (.c (.int .i64 0))⟩,
 sO 26 (.pick (.t 21) (.c (.bool true)) (.t 25))]
def r130_10:List SO:=[
 qF 40 3 3,
 ql 41 40,
 qN 42 41,
 qF 43 4 3,
 ql 44 43,
 qN 45 44,
 qP 46 .neq 42 45]
def r130_15:List SO:=[
 qF 54 3 3,
 ql 55 54,
 qM 56 6,
 qA 57 1 55 56,
 ql 58 57,
 qF 59 2 3,
 ql 60 59,
 sO 61 (.call false 114 [.t 58,.t 60]),
 qM 7 61]
def r130_21:List SO:=[
 qF 70 3 3,
 ql 71 70,
 qM 72 8,
 qA 73 1 71 72,
 ql 74 73,
 qF 75 3 3,
 ql 76 75,
 qM 77 6,
 qA 78 1 76 77,
 ql 79 78,
 sO 80 (.call false 144 [.t 74,.t 79]),
 qC 81 .geq 80 0]
def b130_1:SC:=.seq (.seq (.reg [qM 65 8,qM 66 6,qP 67 .lss 65 66]) (.cond (.t 67) (.skip) (.exit 2))) (.seq (.block 3 (.seq (.reg r130_21) (.cond (.t 81) (.seq (.reg [qI 4 10]) (.ret)) (.skip)))) (.reg [qM 68 8,qC 69 .add 68 1,qM 8 69]))
def r130_23:List SO:=[
 qF 82 4 3,
 ql 83 82,
 qM 84 6,
 qA 85 1 83 84,
 ql 86 85,
 qC 87 .lss 86 0,
 qM 88 87,
 ⟨some (88,false),some 89,.fld 4 (.t 3)⟩,
 ⟨some (88,false),some 90,.load false 1 (.t 89)⟩,
 ⟨some (88,false),some 91,.mv (.t 6)⟩,
 ⟨some (88,false),some 92,.idx 1 (.t 90) (.t 91)⟩,
 ⟨some (88,false),some 93,.load false 1 (.t 92)⟩,
 ⟨some (88,false),some 94,.fld 0 (.t 2)⟩,
 ⟨some (88,false),some 95,.load false 1 (.t 94)⟩,
 ⟨some (88,false),some 96,.len (.t 95)⟩,
 ⟨some (88,false),some 97,.bin .geq (.t 93) (.t 96)⟩,
 sO 98 (.pick (.t 88) (.c (.bool true)) (.t 97))]
def b130_0:SC:=.seq (.seq (.reg [qM 47 6,qF 48 4 3,ql 49 48,qN 50 49,qP 51 .lss 47 50]) (.cond (.t 51) (.skip) (.exit 0))) (.seq (.block 1 (.seq (.seq (.reg r130_15) (.seq (.reg [qM 62 7,qC 63 .neq 62 0]) (.cond (.t 63) (.seq (.reg [qM 64 7,qM 4 64]) (.ret)) (.skip)))) (.seq (.seq (.reg [qI 8 0]) (.block 2 (.loop b130_1))) (.seq (.reg r130_23) (.cond (.t 98) (.seq (.reg [qI 4 2]) (.ret)) (.skip)))))) (.reg [qM 52 6,qC 53 .add 52 1,qM 6 53]))
def s130:SF:=⟨99,[.tmp 4],.seq (.reg [sO 2 (.box 24 1 (.t 0)),sO 3 (.box 99 5 (.t 1)),qI 4 0]) (.seq (.seq (.reg [qF 9 0 3,ql 10 9]) (.cond (.t 10) (.seq (.seq (.reg r130_2) (.cond (.t 26) (.seq (.reg [qI 4 1]) (.ret)) (.skip))) (.seq (.reg [qF 27 1 3,ql 28 27,sO 29 (.call false 80 [.t 28,.c (.int .i64 64)]),qM 4 29]) (.ret))) (.skip))) (.seq (.seq (.reg [qF 30 1 3,ql 31 30,qN 32 31,qC 33 .gtr 32 0]) (.cond (.t 33) (.seq (.reg [qI 4 1]) (.ret)) (.skip))) (.seq (.seq (.reg [qF 34 2 3,ql 35 34,sO 36 (.call false 129 [.t 35]),qM 5 36]) (.seq (.reg [qM 37 5,qC 38 .neq 37 0]) (.cond (.t 38) (.seq (.reg [qM 39 5,qM 4 39]) (.ret)) (.skip)))) (.seq (.seq (.reg r130_10) (.cond (.t 46) (.seq (.reg [qI 4 1]) (.ret)) (.skip))) (.seq (.seq (.reg [qI 6 0]) (.block 0 (.loop b130_0))) (.seq (.reg [qI 4 0]) (.ret)))))))⟩
theorem s130_ok:slimF Tryz.prog ⟨[107,108,109,116,120,126,127,167,169,170,171,172,194,196,198,209,222,226],[]⟩ Tryz.f130=some s130:=by kernel_rfl
def r114_6:List SO:=[
 qM 17 0,
 qM 18 5,
 qA 19 1 17 18,
 ql 20 19,
 qC 21 .lss 20 0,
 qM 22 21,
 ⟨some (22,false),some 23,.mv (.t 0)⟩,
 ⟨some (22,false),some 24,.mv (.t 5)⟩,
 ⟨some (22,false),some 25,.idx 1 (.t 23) (.t 24)⟩,
 ⟨some (22,false),some 26,.load false 1 (.t 25)⟩,
 ⟨some (22,false),some 27,.bin .gtr (.t 26) (.c (.int .i64 1048576))⟩,
 sO 28 (.pick (.t 22) (.c (.bool true)) (.t 27))]
def b114_0:SC:=.seq (.seq (.reg [qM 11 5,qM 12 0,qN 13 12,qP 14 .lss 11 13]) (.cond (.t 14) (.skip) (.exit 0))) (.seq (.block 1 (.seq (.reg r114_6) (.cond (.t 28) (.seq (.reg [qI 4 2]) (.ret)) (.skip)))) (.reg [qM 15 5,qC 16 .add 15 1,qM 5 16]))
def s114:SF:=⟨29,[.tmp 4],.seq (.reg [qI 4 0]) (.seq (.seq (.reg [qM 6 0,qN 7 6,qM 8 1,qN 9 8,qP 10 .neq 7 9]) (.cond (.t 10) (.seq (.reg [qI 4 1]) (.ret)) (.skip))) (.seq (.seq (.reg [qI 5 0]) (.block 0 (.loop b114_0))) (.seq (.reg [qI 4 0]) (.ret))))⟩
theorem s114_ok:slimF Tryz.prog ⟨[107,108,109,116,120,126,127,167,169,170,171,172,194,196,198,209,222,226],[]⟩ Tryz.f114=some s114:=by kernel_rfl
theorem outputs_pure (outs suffix:List Int):PureC Tryz.prog 114 [(ints outs),(ints suffix)] (iV (vlE outs suffix)):=by
 refine pW Tryz.func114 s114_ok fun hB=>?_
 unfold s114
 dsimp only
 refine W_r (R_mv rfl (R_e (W_seq_seq (W_r (R_mv rfl (R_len rfl (R_mv rfl ?_)))))))
 refine R_len rfl (R_neq rfl rfl (R_e ?_))
 refine W_seq_if rfl (fun c1=>?_) fun c1=>?_
 ·
  refine W_seq_seq (W_r (R_mv rfl (R_e (W_seq_ret ?_))))
  refine Ret_1 (@rfl V (iV (1:Int))) (fz_int ?_)
  · rw [vlE,if_pos (by omega)]
 refine W_seq_skip (W_seq_seq (W_r (R_mv rfl (R_e (W_seq_blockg fun Q2 n2 x2 y2 z2=>?_)))))
 refine W_loop (fun mm T H=> ∃ (k:Nat),mm=outs.length - k∧T 0=(ints outs)∧T 5=(iV ((k:Nat):Int))∧(k≤outs.length)∧(outs.length=suffix.length)∧(fe (ouE outs) 0 outs.length=fe (ouE outs) k (outs.length - k))) ?_ ?_
 ·
  refine ⟨_,0,rfl,rfl,(Eq.trans (@rfl V (iV (0:Int))) rfl),?_,?_,?_⟩
  · omega
  · omega
  · rfl
 intro mm T H ⟨k,hmm,t0,t5,hk,hl,hc⟩ Q3 p13 p23 p33
 unfold b114_0
 refine W_seq_seq (W_r (R_mv t5 (R_mv t0 (R_len rfl (R_lss rfl rfl (R_e ?_))))))
 refine W_seq_if rfl (fun c4=>?_) fun c4=>?_
 ·
  refine W_seq_skip (W_seq_blockg fun Q5 n5 x5 y5 z5=>(W_r (R_mv t0 (R_mv t5 (R_idx (i:=k) (@rfl V (ints outs)) (@rfl V (iV ((k:Nat):Int))) (by omega) rfl (R_load_pp rfl rfl (R_lss rfl rfl ?_)))))))
  refine R_mv rfl ?_
  refine Ops_seg 6 (fun T H=>T 0=(ints outs)∧T 5=(iV ((k:Nat):Int))∧T 28=(V.bool (decide ((((nth (outs) (k))) < (0:Int))∨((1048576:Int) < ((nth (outs) (k)))))))∧True) ?_ ?_
  ·
   by_cases g6:((nth (outs) (k))) < (0:Int)
   ·
    refine G_n (edT g6 rfl) (G_n (edT g6 rfl) (G_n (edT g6 rfl) (G_n (edT g6 rfl) (G_n (edT g6 rfl) (R_pickT (edT g6 rfl) rfl ?_)))))
    exact ⟨t0,t5,(dec_orT g6),trivial⟩
   ·
    refine G_yes (edF g6 rfl) (R_mv t0 (G_yes (edF g6 rfl) (R_mv t5 (G_yes (edF g6 rfl) (R_idx (i:=k) (@rfl V (ints outs)) (@rfl V (iV ((k:Nat):Int))) (by omega) rfl (G_yes (edF g6 rfl) (R_load_pp rfl rfl ?_)))))))
    refine G_yes (edF g6 rfl) (R_gtr rfl rfl (R_pickF (edF g6 rfl) rfl ?_))
    exact ⟨t0,t5,(dec_orF g6),trivial⟩
  intro T H ⟨t0,t5,t28,_⟩
  refine R_e ?_
  refine W_if t28 (fun c7=>?_) fun c7=>?_
  ·
   refine W_r (R_mv rfl (R_e (W_ret (y5 _ _ (p23 _ _ (y2 _ _ ?_))))))
   refine Ret_1 (@rfl V (iV (2:Int))) (fz_int ?_)
   · rw [vlE,if_neg (by omega)]; rw [hc,fe_hit (by unfold ouE; split <;> omega) (by omega)]; unfold ouE; split <;> omega
  refine W_skip (n5 _ _ (.done (W_t (R_mv t5 (R_addN rfl (@rfl V (iV ((1:Nat):Int))) (by omega) (R_mv rfl (R_e ?_)))))))
  refine p13 _ _ _ ?_ ⟨(k+1),rfl,t0,(Eq.trans (@rfl V (iV ((k+1:Nat):Int))) (by rfl)),?_,?_,?_⟩
  · omega
  · omega
  · omega
  · rw [hc,fe_skip (by unfold ouE; split <;> omega) (by omega)]
 refine W_seq_exit (p33 _ _ _ (x2 _ _ (.done (W_r (R_mv rfl (R_e (W_ret ?_)))))))
 refine Ret_1 (@rfl V (iV (0:Int))) (fz_int ?_)
 · rw [vlE,if_neg (by omega)]; rw [hc,fe_end (by omega)]
def s129:SF:=⟨8,[.tmp 2],.seq (.reg [qI 2 0]) (.seq (.seq (.reg [qM 3 0,qN 4 3,qC 5 .eql 4 0]) (.cond (.t 5) (.seq (.reg [qI 2 19]) (.ret)) (.skip))) (.seq (.reg [qM 6 0,sO 7 (.call false 80 [.t 6,.c (.int .i64 64)]),qM 2 7]) (.ret)))⟩
theorem s129_ok:slimF Tryz.prog ⟨[107,108,109,116,120,126,127,167,169,170,171,172,194,196,198,209,222,226],[]⟩ Tryz.f129=some s129:=by kernel_rfl
theorem ending_pure (s:List Int):PureC Tryz.prog 129 [(ints s)] (iV (if s.length=0 then 19 else wchk s 64)):=by
 refine pW Tryz.func129 s129_ok fun hB=>?_
 unfold s129
 dsimp only
 refine W_r (R_mv rfl (R_e (W_seq_seq (W_r (R_mv rfl (R_len rfl (R_eql rfl rfl ?_)))))))
 refine R_e ?_
 refine W_seq_if rfl (fun c1=>?_) fun c1=>?_
 ·
  refine W_seq_seq (W_r (R_mv rfl (R_e (W_seq_ret ?_))))
  refine Ret_1 (@rfl V (iV (19:Int))) (fz_int ?_)
  · rw [if_pos (by omega)]
 refine W_seq_skip (W_r (R_mv rfl (R_callk (rcheck_pure s ((64:Int))) rfl (R_mv rfl (R_e (W_ret ?_))))))
 refine Ret_1 (@rfl V (iV (wchk s ((64:Int))))) (fz_int ?_)
 · rw [if_neg (by omega)]
theorem rnode_pure (t:Dt) (x:Nd) (ho:x.ou.length≤1048576) (hk0:x.kd.length≤1048576):PureC Tryz.prog 130 [(V.agg [(V.sl (List.map cN (t.nd)))]),(V.agg (cN x))] (iV (ndE x t.nd.length)):=by
 refine pW Tryz.func130 s130_ok fun hB=>?_
 unfold s130
 dsimp only
 refine W_r (R_box (i:=2) (n:=0) (m:=1) (cs:=[(V.sl (List.map cN (t.nd)))]) rfl (congrArg Blk.ver rfl) rfl rfl rfl (R_box (i:=3) (n:=0) (m:=5) (cs:=[(V.bool x.lf),(ints x.ac),(ints x.sf),(intss x.ou),(ints x.kd)]) rfl (congrArg Blk.ver rfl) rfl rfl rfl (R_mv rfl (R_e (W_seq_seq (W_r (R_fk rfl rfl ?_)))))))
 refine R_lk rfl rfl rfl rfl (R_e ?_)
 refine W_seq_ifb rfl (fun c1=>?_) (fun c1=>?_)
 ·
  have d0:x.lf=true:=c1
  refine W_seq_seq (W_seq_seq (W_r (R_fk rfl rfl (R_lk rfl rfl rfl rfl (R_len rfl (R_gtr rfl rfl (R_mv rfl ?_)))))))
  refine Ops_seg 5 (fun T H=>T 3=(V.mp 3 1 0 0)∧T 20=(V.bool (decide (((0:Int) < ((x.sf.length:Nat):Int))∨((0:Int) < ((x.ou.length:Nat):Int)))))∧H 2=(bk 1 24 1 [[(V.sl (List.map cN (t.nd)))]])∧H 3=(bk 1 99 5 [(cN x)])∧True) ?_ ?_
  ·
   by_cases g2:(0:Int) < ((x.sf.length:Nat):Int)
   ·
    refine G_n (edT g2 rfl) (G_n (edT g2 rfl) (G_n (edT g2 rfl) (G_n (edT g2 rfl) (R_pickT (edT g2 rfl) rfl ?_))))
    exact ⟨rfl,(dec_orT g2),rfl,rfl,trivial⟩
   ·
    refine G_yes (edF g2 rfl) (R_fk rfl rfl (G_yes (edF g2 rfl) (R_lk rfl rfl rfl rfl (G_yes (edF g2 rfl) (R_len rfl (G_yes (edF g2 rfl) (R_gtr rfl rfl ?_)))))))
    refine R_pickF (edF g2 rfl) rfl ?_
    exact ⟨rfl,(dec_orF g2),rfl,rfl,trivial⟩
  intro T H ⟨t3,t20,h2,h3,_⟩
  refine R_mv t20 ?_
  refine Ops_seg 5 (fun T H=>T 3=(V.mp 3 1 0 0)∧T 26=(V.bool (decide ((((0:Int) < ((x.sf.length:Nat):Int))∨((0:Int) < ((x.ou.length:Nat):Int)))∨((0:Int) < ((x.kd.length:Nat):Int)))))∧H 2=(bk 1 24 1 [[(V.sl (List.map cN (t.nd)))]])∧H 3=(bk 1 99 5 [(cN x)])∧True) ?_ ?_
  ·
   by_cases g3:((0:Int) < ((x.sf.length:Nat):Int))∨((0:Int) < ((x.ou.length:Nat):Int))
   ·
    refine G_n (edT g3 rfl) (G_n (edT g3 rfl) (G_n (edT g3 rfl) (G_n (edT g3 rfl) (R_pickT (edT g3 rfl) rfl ?_))))
    exact ⟨t3,(dec_orT g3),h2,h3,trivial⟩
   ·
    refine G_yes (edF g3 rfl) (R_fk t3 h3 (G_yes (edF g3 rfl) (R_lk rfl h3 rfl rfl (G_yes (edF g3 rfl) (R_len rfl (G_yes (edF g3 rfl) (R_gtr rfl rfl ?_)))))))
    refine R_pickF (edF g3 rfl) rfl ?_
    exact ⟨t3,(dec_orF g3),h2,h3,trivial⟩
  intro T H ⟨t3,t26,h2,h3,_⟩
  refine R_e ?_
  refine W_seq_if t26 (fun c4=>?_) fun c4=>?_
  ·
   refine W_seq_seq (W_r (R_mv rfl (R_e (W_seq_ret ?_))))
   refine Ret_1 (@rfl V (iV (1:Int))) (fz_int ?_)
   · rw [ndE,if_pos d0,lfE,if_pos (by omega)]
  refine W_seq_skip (W_seq_seq (W_r (R_fk t3 h3 (R_lk rfl h3 rfl rfl (R_callk (rcheck_pure x.ac ((64:Int))) rfl (R_mv rfl (R_e ?_)))))))
  refine W_seq_ret ?_
  refine Ret_1 (@rfl V (iV (wchk x.ac ((64:Int))))) (fz_int ?_)
  · rw [ndE,if_pos d0,lfE,if_neg (by omega)]
 have d0:x.lf=false:=by simpa using c1
 refine W_seq_skip (W_seq_seq (W_r (R_fk rfl rfl (R_lk rfl rfl rfl rfl (R_len rfl (R_gtr rfl rfl (R_e ?_)))))))
 refine W_seq_if rfl (fun c5=>?_) fun c5=>?_
 ·
  refine W_seq_seq (W_r (R_mv rfl (R_e (W_seq_ret ?_))))
  refine Ret_1 (@rfl V (iV (1:Int))) (fz_int ?_)
  · rw [ndE,if_neg (by simp [d0]),inE2,if_pos (by omega)]
 refine W_seq_skip (W_seq_seq (W_r (R_fk rfl rfl (R_lk rfl rfl rfl rfl (R_callk (ending_pure x.sf) rfl (R_mv rfl (R_e ?_)))))))
 refine W_seq_seq (W_r (R_mv rfl (R_neq rfl rfl (R_e ?_))))
 refine W_seq_if rfl (fun c6=>?_) fun c6=>?_
 ·
  have d4:x.sf.length=0∨wchk x.sf 64≠0:=by by_cases e:x.sf.length=0; exact .inl e; (rw [if_neg e] at c6; exact .inr c6)
  refine W_seq_seq (W_r (R_mv rfl (R_mv rfl (R_e (W_seq_ret ?_)))))
  refine Ret_1 (@rfl V (iV (if x.sf.length=0 then 19 else wchk x.sf 64))) (fz_int ?_)
  · rcases d4 with e|e
    · rw [if_pos e]; rw [ndE,if_neg (by simp [d0]),inE2,if_neg (by omega),if_pos e]
    · by_cases e2:x.sf.length=0
      · rw [if_pos e2]; rw [ndE,if_neg (by simp [d0]),inE2,if_neg (by omega),if_pos e2]
      · rw [if_neg e2]; rw [ndE,if_neg (by simp [d0]),inE2,if_neg (by omega),if_neg e2,if_pos e]
 have d4:x.sf.length≠0∧wchk x.sf 64=0:=by by_cases e:x.sf.length=0; (rw [if_pos e] at c6; exact (c6 (by decide)).elim); (rw [if_neg e] at c6; exact ⟨e,by omega⟩)
 refine W_seq_skip (W_seq_seq (W_r (R_fk rfl rfl (R_lk rfl rfl rfl rfl (R_len rfl (R_fk rfl rfl (R_lk rfl rfl rfl rfl ?_)))))))
 refine R_len rfl (R_neq rfl rfl (R_e ?_))
 refine W_seq_if rfl (fun c7=>?_) fun c7=>?_
 ·
  refine W_seq_seq (W_r (R_mv rfl (R_e (W_seq_ret ?_))))
  refine Ret_1 (@rfl V (iV (1:Int))) (fz_int ?_)
  · rw [ndE,if_neg (by simp [d0]),inE2,if_neg (by omega),if_neg (by omega),if_neg (by omega),if_pos (by omega)]
 refine W_seq_skip (W_seq_seq (W_r (R_mv rfl (R_e (W_seq_blockg fun Q8 n8 x8 y8 z8=>?_)))))
 refine W_loop (fun mm T H=> ∃ (k:Nat),mm=x.kd.length - k∧T 2=(V.mp 2 1 0 0)∧T 3=(V.mp 3 1 0 0)∧T 6=(iV ((k:Nat):Int))∧H 2=(bk 1 24 1 [[(V.sl (List.map cN (t.nd)))]])∧H 3=(bk 1 99 5 [(cN x)])∧(k≤x.kd.length)∧(x.ou.length=x.kd.length)∧(x.ac.length=0)∧(x.sf.length≠0)∧(wchk x.sf 64=0)∧(∀ j,j < k→chE x t.nd.length j=0)∧(fe (chE x t.nd.length) 0 x.ou.length=fe (chE x t.nd.length) k (x.ou.length - k))) ?_ ?_
 ·
  refine ⟨_,0,rfl,rfl,rfl,(Eq.trans (@rfl V (iV (0:Int))) rfl),rfl,rfl,?_,?_,?_,?_,?_,?_,?_⟩
  · omega
  · omega
  · omega
  · omega
  · omega
  · intro j hj; omega
  · rfl
 intro mm T H ⟨k,hmm,t2,t3,t6,h2,h3,hk,hl,ga,gs,gw,hp,hc⟩ Q9 p19 p29 p39
 unfold b130_0
 refine W_seq_seq (W_r (R_mv t6 (R_fk t3 h3 (R_lk rfl h3 rfl rfl (R_len rfl (R_lss rfl rfl (R_e ?_)))))))
 refine W_seq_if rfl (fun c10=>?_) fun c10=>?_
 ·
  refine W_seq_skip (W_seq_blockg fun Q11 n11 x11 y11 z11=>(W_seq_seq (W_r (R_fk t3 h3 (R_lk rfl h3 rfl rfl (R_mv t6 (R_idx (i:=k) (@rfl V (intss x.ou)) (@rfl V (iV ((k:Nat):Int))) (by omega) rfl ?_)))))))
  refine R_load_pp rfl rfl (R_fk t3 h3 (R_lk rfl h3 rfl rfl (R_callk (outputs_pure ((nth (x.ou) (k))) x.sf) rfl (R_mv rfl (R_e (W_seq_seq (W_r ?_)))))))
  refine R_mv rfl (R_neq rfl rfl (R_e ?_))
  refine W_seq_if rfl (fun c12=>?_) fun c12=>?_
  ·
   refine W_seq_seq (W_r (R_mv rfl (R_mv rfl (R_e (W_seq_ret (y11 _ _ (p29 _ _ ?_)))))))
   refine y8 _ _ ?_
   refine Ret_1 (@rfl V (iV (vlE ((nth (x.ou) (k))) x.sf))) (fz_int ?_)
   · rw [ndE,if_neg (by simp [d0]),inE2,if_neg (by omega),if_neg (by omega),if_neg (by omega),if_neg (by omega),hc,fe_hit (by rw [chE,if_pos (by omega)]; omega) (by omega),chE,if_pos (by omega)]
  refine W_seq_skip (W_seq_seq (W_r (R_mv rfl (R_e (W_seq_blockg fun Q13 n13 x13 y13 z13=>?_)))))
  refine W_loop (fun mm T H=> ∃ (j:Nat),mm=k - j∧T 2=(V.mp 2 1 0 0)∧T 3=(V.mp 3 1 0 0)∧T 6=(iV ((k:Nat):Int))∧T 8=(iV ((j:Nat):Int))∧H 2=(bk 1 24 1 [[(V.sl (List.map cN (t.nd)))]])∧H 3=(bk 1 99 5 [(cN x)])∧(j≤k)∧(∀ i,i < j→lexI (nth x.ou i) (nth x.ou k) < 0)) ?_ ?_
  ·
   refine ⟨_,0,rfl,t2,t3,t6,(Eq.trans (@rfl V (iV (0:Int))) rfl),h2,h3,?_,?_⟩
   · omega
   · intro i hi; omega
  intro mm T H ⟨j,hmm,t2,t3,t6,t8,h2,h3,hj,hq⟩ Q14 p114 p214 p314
  unfold b130_1
  refine W_seq_seq (W_r (R_mv t8 (R_mv t6 (R_lss rfl rfl (R_e ?_)))))
  refine W_seq_if rfl (fun c15=>?_) fun c15=>?_
  ·
   refine W_seq_skip (W_seq_blockg fun Q16 n16 x16 y16 z16=>(W_r (R_fk t3 h3 (R_lk rfl h3 rfl rfl (R_mv t8 (R_idx (i:=j) (@rfl V (intss x.ou)) (@rfl V (iV ((j:Nat):Int))) (by omega) rfl (R_load_pp rfl rfl ?_)))))))
   refine R_fk t3 h3 (R_lk rfl h3 rfl rfl (R_mv t6 (R_idx (i:=k) (@rfl V (intss x.ou)) (@rfl V (iV ((k:Nat):Int))) (by omega) rfl (R_load_pp rfl rfl (R_callk (rlex_pure ((nth (x.ou) (j))) ((nth (x.ou) (k)))) rfl (R_geq rfl rfl (R_e ?_)))))))
   refine W_if rfl (fun c17=>?_) fun c17=>?_
   ·
    have d5:=ch_err (x:=x) (n:=t.nd.length) (k:=k) (j:=j) (by omega) (by omega) (by omega) hp
    refine W_r (R_mv rfl (R_e (W_ret (y16 _ _ (p214 _ _ (y13 _ _ (y11 _ _ ?_)))))))
    refine p29 _ _ (y8 _ _ ?_)
    refine Ret_1 (@rfl V (iV (10:Int))) (fz_int ?_)
    · rw [ndE,if_neg (by simp [d0]),inE2,if_neg (by omega),if_neg (by omega),if_neg (by omega),if_neg (by omega),hc,fe_hit (by rw [d5]; decide) (by omega),d5]
   refine W_skip (n16 _ _ (.done (W_t (R_mv t8 (R_addN rfl (@rfl V (iV ((1:Nat):Int))) (by omega) (R_mv rfl (R_e ?_)))))))
   refine p114 _ _ _ ?_ ⟨(j+1),rfl,t2,t3,t6,(Eq.trans (@rfl V (iV ((j+1:Nat):Int))) (by rfl)),h2,h3,?_,?_⟩
   · omega
   · omega
   · intro i hi
     by_cases e:i=j
     · subst e; omega
     · exact hq i (by omega)
  refine W_seq_exit (p314 _ _ _ (x13 _ _ (.done (W_r (R_fk t3 h3 (R_lk rfl h3 rfl rfl (R_mv t6 ?_)))))))
  refine R_idx (i:=k) (@rfl V (ints x.kd)) (@rfl V (iV ((k:Nat):Int))) (by omega) rfl (R_load_pp rfl rfl (R_lss rfl rfl (R_mv rfl ?_)))
  refine Ops_seg 10 (fun T H=>T 2=(V.mp 2 1 0 0)∧T 3=(V.mp 3 1 0 0)∧T 6=(iV ((k:Nat):Int))∧T 98=(V.bool (decide ((((nth (x.kd) (k))) < (0:Int))∨(((t.nd.length:Nat):Int)≤((nth (x.kd) (k)))))))∧H 2=(bk 1 24 1 [[(V.sl (List.map cN (t.nd)))]])∧H 3=(bk 1 99 5 [(cN x)])∧True) ?_ ?_
  ·
   by_cases g18:((nth (x.kd) (k))) < (0:Int)
   ·
    refine G_n (edT g18 rfl) (G_n (edT g18 rfl) (G_n (edT g18 rfl) (G_n (edT g18 rfl) (G_n (edT g18 rfl) (G_n (edT g18 rfl) (G_n (edT g18 rfl) (G_n (edT g18 rfl) ?_)))))))
    refine G_n (edT g18 rfl) (R_pickT (edT g18 rfl) rfl ?_)
    exact ⟨t2,t3,t6,(dec_orT g18),h2,h3,trivial⟩
   ·
    refine G_yes (edF g18 rfl) (R_fk t3 h3 (G_yes (edF g18 rfl) (R_lk rfl h3 rfl rfl (G_yes (edF g18 rfl) (R_mv t6 (G_yes (edF g18 rfl) (R_idx (i:=k) (@rfl V (ints x.kd)) (@rfl V (iV ((k:Nat):Int))) (by omega) rfl ?_)))))))
    refine G_yes (edF g18 rfl) (R_load_pp rfl rfl (G_yes (edF g18 rfl) (R_fk t2 h2 (G_yes (edF g18 rfl) (R_lk rfl h2 rfl rfl (G_yes (edF g18 rfl) (R_len rfl ?_)))))))
    refine G_yes (edF g18 rfl) (R_geq rfl rfl (R_pickF (edF g18 rfl) rfl ?_))
    exact ⟨t2,t3,t6,(dec_orF g18),h2,h3,trivial⟩
  intro T H ⟨t2,t3,t6,t98,h2,h3,_⟩
  refine R_e ?_
  refine W_if t98 (fun c19=>?_) fun c19=>?_
  ·
   skip
   refine W_r (R_mv rfl (R_e (W_ret (y11 _ _ (p29 _ _ (y8 _ _ ?_))))))
   refine Ret_1 (@rfl V (iV (2:Int))) (fz_int ?_)
   · have e:chE x t.nd.length k=2:=by rw [chE,if_neg (by omega),if_neg (by rintro ⟨q1,q2⟩; have:=hq (k - 1) (by omega); omega),if_pos (by omega)]
     rw [ndE,if_neg (by simp [d0]),inE2,if_neg (by omega),if_neg (by omega),if_neg (by omega),if_neg (by omega),hc,fe_hit (by rw [e]; decide) (by omega),e]
  have dz:chE x t.nd.length k=0:=by rw [chE,if_neg (by omega),if_neg (by rintro ⟨q1,q2⟩; have:=hq (k - 1) (by omega); omega),if_neg (by omega)]
  refine W_skip (n11 _ _ (.done (W_t (R_mv t6 (R_addN rfl (@rfl V (iV ((1:Nat):Int))) (by omega) (R_mv rfl (R_e ?_)))))))
  refine p19 _ _ _ ?_ ⟨(k+1),rfl,t2,t3,(Eq.trans (@rfl V (iV ((k+1:Nat):Int))) (by rfl)),h2,h3,?_,?_,?_,?_,?_,?_,?_⟩
  · omega
  · omega
  · omega
  · omega
  · omega
  · omega
  · intro i hi
    by_cases e:i=k
    · subst e; exact dz
    · exact hp i (by omega)
  · rw [hc,fe_skip dz (by omega)]
 refine W_seq_exit (p39 _ _ _ (x8 _ _ (.done (W_r (R_mv rfl (R_e (W_ret ?_)))))))
 refine Ret_1 (@rfl V (iV (0:Int))) (fz_int ?_)
 · rw [ndE,if_neg (by simp [d0]),inE2,if_neg (by omega),if_neg (by omega),if_neg (by omega),if_neg (by omega),hc,fe_end (by omega)]
def r131_7:List SO:=[
 qF 21 0 1,
 ql 22 21,
 qM 23 4,
 qM 24 5,
 qA 25 1 23 24,
 ql 26 25,
 qA 27 5 22 26,
 qL 28 5 27,
 sO 6 (.alloc 99 [.bool false,.nilsl,.nilsl,.nilsl,.nilsl]),
 sN (.store 5 (.t 6) (.t 28))]
def r131_11:List SO:=[
 qM 36 3,
 qF 37 4 6,
 ql 38 37,
 qM 39 7,
 qA 40 1 38 39,
 ql 41 40,
 qA 42 1 36 41,
 ql 43 42]
def r131_13:List SO:=[
 qM 44 3,
 qF 45 4 6,
 ql 46 45,
 qM 47 7,
 qA 48 1 46 47,
 ql 49 48,
 qA 50 1 44 49,
 sN (.store 1 (.t 50) (.c (.bool true)))]
def r131_14:List SO:=[
 qM 51 4,
 qF 52 4 6,
 ql 53 52,
 qM 54 7,
 qA 55 1 53 54,
 ql 56 55,
 sO 57 (.bslice 3 1 false [.int .i64 0] 1 [(0,.t 56)]),
 sO 58 (.append 3 1 8 (.t 51) (.t 57)),
 qM 4 58]
def b131_1:SC:=.seq (.seq (.reg [qM 29 7,qF 30 4 6,ql 31 30,qN 32 31,qP 33 .lss 29 32]) (.cond (.t 33) (.skip) (.exit 2))) (.seq (.block 3 (.seq (.seq (.reg r131_11) (.cond (.t 43) (.seq (.reg [sO 2 (.mv (.c (.bool false)))]) (.ret)) (.skip))) (.seq (.reg r131_13) (.reg r131_14)))) (.reg [qM 34 7,qC 35 .add 34 1,qM 7 35]))
def b131_0:SC:=.seq (.seq (.reg [qM 15 5,qM 16 4,qN 17 16,qP 18 .lss 15 17]) (.cond (.t 18) (.skip) (.exit 0))) (.seq (.block 1 (.seq (.dreg [6] r131_7) (.seq (.reg [qI 7 0]) (.block 2 (.loop b131_1))))) (.reg [qM 19 5,qC 20 .add 19 1,qM 5 20]))
def r131_15:List SO:=[
 qM 59 4,
 qN 60 59,
 qF 61 0 1,
 ql 62 61,
 qN 63 62,
 qP 64 .eql 60 63,
 qM 2 64]
def s131:SF:=⟨65,[.tmp 2],.seq (.reg [sO 1 (.box 24 1 (.t 0)),sO 2 (.mv (.c (.bool false)))]) (.seq (.reg [qF 8 0 1,ql 9 8,qN 10 9,sO 11 (.mks 4 1 1 [.bool false] (.t 10) (.t 10)),qM 3 11]) (.seq (.reg [qM 12 3,sO 13 (.idx 1 (.t 12) (.c (.int .i64 0))),sN (.store 1 (.t 13) (.c (.bool true)))]) (.seq (.reg [sO 14 (.bslice 3 1 true [.int .i64 0] 1 [(0,.c (.int .i64 0))]),qM 4 14]) (.seq (.seq (.reg [qI 5 0]) (.block 0 (.loop b131_0))) (.seq (.reg r131_15) (.ret))))))⟩
theorem s131_ok:slimF Tryz.prog ⟨[107,108,109,116,120,126,127,167,169,170,171,172,194,196,198,209,222,226],[14]⟩ Tryz.f131=some s131:=by kernel_rfl
end Go.Proofs.YtmnjchcoigbngabGreat
namespace Go.Proofs.YtmnjchcoigbngabGreat
open Go Go.Proofs
attribute [local irreducible] mksV
theorem whole_pure (t:Dt) (hk:KI t) (hb:Bd t):PureC Tryz.prog 131 [(V.agg [(V.sl (List.map cN (t.nd)))])] (V.bool (whB t)):=by
 refine pW Tryz.func131 s131_ok fun hB=>?_
 unfold s131
 dsimp only
 have hp:=hk.pos
 have hbn:=hb.n
 refine W_r (R_box (i:=1) (n:=0) (m:=1) (cs:=[(V.sl (List.map cN (t.nd)))]) rfl (congrArg Blk.ver rfl) rfl rfl rfl (R_mv rfl (R_e (W_r (R_fk rfl rfl (R_lk rfl rfl rfl rfl (R_len rfl ?_)))))))
 refine R_mksm (i:=11) (n:=0) (m:=t.nd.length) (q:=t.nd.length) (f:=cB) (x:=false) rfl (congrArg Blk.ver rfl) (@rfl V (iV ((t.nd.length:Nat):Int))) (@rfl V (iV ((t.nd.length:Nat):Int))) rfl (by omega) (by omega) (by omega) (R_mv rfl (R_e (W_r (R_mv rfl (R_idxI_ms0 (i:=(0:Int)) (@rfl V (V.ms 11 1 0 (t.nd.length))) (@rfl V (iV (0:Int))) (@rfl Blk (bk 1 4 1 (List.map cB (List.replicate t.nd.length false)))) oB rfl (by omega) (by omega) (R_store (vs:=[(V.bool true)]) (B':=(bk 1 4 1 (List.map cB ((List.replicate t.nd.length false).set (((0:Int)).toNat) true)))) rfl rfl rfl (@rfl Blk (bk 1 4 1 (List.map cB (List.replicate t.nd.length false)))) (stB_map (x:=true) (i:=(((0:Int)).toNat)) (by (simp only [List.length_replicate]; omega)) rfl rfl rfl rfl) (R_e ?_)))))))
 refine W_r (R_bslice_own (i:=14) (n:=0) (qs:=[(0,(iV (0:Int)))]) (rows:=[[(iV (0:Int))]]) rfl (congrArg Blk.ver rfl) (mcons (congrArg (fun v=>(0,v)) rfl) rfl) rfl (R_mv rfl (R_e (W_seq_seq (W_r (R_mv rfl (R_e ?_)))))))
 refine W_seq_blockg fun Q1 n1 x1 y1 z1=>?_
 refine W_loop (fun mm T H=> ∃ (k:Nat) (w:Nat) (P:RS) (v6:Nat),mm=t.nd.length - k∧T 1=(V.mp 1 1 0 0)∧T 3=(V.ms 11 1 0 (t.nd.length))∧T 4=(V.ms 14 w 0 (P.1.length))∧T 5=(iV ((k:Nat):Int))∧H 1=(bk 1 24 1 [[(V.sl (List.map cN (t.nd)))]])∧((H 6).ver=v6∧(H 6).live=false)∧H 11=(bk 1 4 1 (List.map cB (P.2)))∧H 14=(bk w 3 1 (List.map cI (P.1)))∧(k≤P.1.length)∧(WI t P)∧(whN t t.nd.length 0 (wh0 t)=whN t (t.nd.length - k) k P)) ?_ ?_
 ·
  refine ⟨_,0,1,(wh0 t),0,rfl,rfl,rfl,(Eq.trans (@rfl V (V.ms 14 1 0 (1))) (by rfl)),(Eq.trans (@rfl V (iV (0:Int))) rfl),rfl,⟨(congrArg Blk.ver rfl),congrArg Blk.live (@rfl Blk (⟨0,false,false,0,0,[]⟩:Blk))⟩,(Eq.trans (@rfl Blk (bk 1 4 1 (List.map cB ((List.replicate t.nd.length false).set (((0:Int)).toNat) true)))) (by rfl)),(Eq.trans (@rfl Blk (bk 1 3 1 [[(iV (0:Int))]])) (by rfl)),?_,?_,?_⟩
  · exact Nat.zero_le _
  · exact wi0 hk
  · rfl
 intro mm T H ⟨k,w,P,v6,hmm,t1,t3,t4,t5,h1,h6,h11,h14,hk2,hi,hc⟩ Q2 p12 p22 p32
 unfold b131_0
 have hi1:=hi.len
 refine W_seq_seq (W_r (R_mv t5 (R_mv t4 (R_len_ms rfl h14 (by simp) (R_lss rfl rfl (R_e ?_))))))
 refine W_seq_if rfl (fun c3=>?_) fun c3=>?_
 ·
  have r1:=hi.rg _ (nth_mem (show k < P.1.length by omega))
  have r3:=hb.kd _ (show (nth P.1 k).toNat < t.nd.length by omega)
  refine W_seq_skip (W_seq_blockg fun Q4 n4 x4 y4 z4=>(W_d (by exact (lateC (h6).2 lateN)) (R_fk t1 h1 (R_lk rfl h1 rfl rfl (R_mv t4 (R_mv t5 (R_idx_ms0 (i:=k) (@rfl V (V.ms 14 w 0 (P.1.length))) (@rfl V (iV ((k:Nat):Int))) h14 oB rfl (by omega) ?_)))))))
  refine R_load_mp (v:=(iV ((nth (P.1) (k))))) rfl h14 (ldB_map (by omega) (by rfl)) (R_idxI (i:=((nth (P.1) (k)))) (@rfl V (V.sl (List.map cN (t.nd)))) (@rfl V (iV ((nth (P.1) (k))))) (by omega) (by omega) rfl (R_load_pp rfl rfl (R_alloc (i:=6) (n:=v6) (m:=5) rfl (h6).1 rfl (R_sk rfl rfl rfl rfl rfl rfl rfl rfl rfl (R_e (W_r (R_mv rfl ?_)))))))
  refine R_e (W_block fun Q5 n5 x5 y5 z5=>?_)
  refine W_loop (fun mm T H=> ∃ (j:Nat) (w2:Nat) (Q:RS),mm=(nth t.nd (nth P.1 k).toNat).kd.length - j∧T 1=(V.mp 1 1 0 0)∧T 3=(V.ms 11 1 0 (t.nd.length))∧T 4=(V.ms 14 w2 0 (Q.1.length))∧T 5=(iV ((k:Nat):Int))∧T 6=(V.mp 6 (v6+1) 0 0)∧T 7=(iV ((j:Nat):Int))∧H 1=(bk 1 24 1 [[(V.sl (List.map cN (t.nd)))]])∧H 6=(bk (v6+1) 99 5 [(cN (((nth (t.nd) ((nth (P.1) (k))).toNat))))])∧H 11=(bk 1 4 1 (List.map cB (Q.2)))∧H 14=(bk w2 3 1 (List.map cI (Q.1)))∧(j≤(nth t.nd (nth P.1 k).toNat).kd.length)∧(k < Q.1.length)∧(WI t Q)∧(whN t t.nd.length 0 (wh0 t)=(whI Q ((nth t.nd (nth P.1 k).toNat).kd.drop j)).bind (whN t (t.nd.length - (k+1)) (k+1)))) ?_ ?_
  ·
   refine ⟨_,0,w,P,rfl,t1,t3,t4,t5,rfl,(Eq.trans (@rfl V (iV (0:Int))) rfl),h1,rfl,h11,h14,?_,?_,?_,?_⟩
   · omega
   · omega
   · exact hi
   · rw [hc,wh_go (by omega) (by omega)]; rfl
  intro mm T H ⟨j,w2,Q,hmm,t1,t3,t4,t5,t6,t7,h1,h6,h11,h14,hj,hk3,hiq,hc2⟩ Q6 p16 p26 p36
  unfold b131_1
  have hi2:=hiq.len
  refine W_seq_seq (W_r (R_mv t7 (R_fk t6 h6 (R_lk rfl h6 rfl rfl (R_len rfl (R_lss rfl rfl (R_e ?_)))))))
  refine W_seq_if rfl (fun c7=>?_) fun c7=>?_
  ·
   have r2:=hk.rng _ (show (nth P.1 k).toNat < t.nd.length by omega) _ (nth_mem (show j < (nth t.nd (nth P.1 k).toNat).kd.length by omega))
   refine W_seq_skip (W_seq_blockg fun Q8 n8 x8 y8 z8=>(W_seq_seq (W_r (R_mv t3 (R_fk t6 h6 (R_lk rfl h6 rfl rfl (R_mv t7 ?_)))))))
   refine R_idx (i:=j) (@rfl V (ints (((nth (t.nd) ((nth (P.1) (k))).toNat)).kd))) (@rfl V (iV ((j:Nat):Int))) (by omega) rfl (R_load_pp rfl rfl (R_idxI_ms0 (i:=((nth (((nth (t.nd) ((nth (P.1) (k))).toNat)).kd) (j)))) (@rfl V (V.ms 11 1 0 (t.nd.length))) (@rfl V (iV ((nth (((nth (t.nd) ((nth (P.1) (k))).toNat)).kd) (j))))) h11 oB rfl (by omega) (by omega) (R_load_mp (v:=(V.bool ((nth (Q.2) ((((nth (((nth (t.nd) ((nth (P.1) (k))).toNat)).kd) (j)))).toNat))))) rfl h11 (ldB_map (by omega) (by rfl)) (R_e ?_))))
   refine W_seq_ifb rfl (fun c9=>?_) (fun c9=>?_)
   ·
    have d2:nth Q.2 (nth (nth t.nd (nth P.1 k).toNat).kd j).toNat=true:=c9
    refine W_seq_seq (W_r (R_mv rfl (R_e (W_seq_ret (y8 _ _ (p26 _ _ (y5 _ _ ?_)))))))
    refine y4 _ _ (p22 _ _ (y1 _ _ ?_))
    refine Ret_1 (@rfl V (V.bool false)) (fz_bool ?_)
    · rw [whB_none (by rw [hc2,whI_yes (by omega) d2]; rfl)]
   have d2:nth Q.2 (nth (nth t.nd (nth P.1 k).toNat).kd j).toNat=false:=by simpa using c9
   refine W_seq_skip (W_r (R_mv t3 (R_fk t6 h6 (R_lk rfl h6 rfl rfl (R_mv t7 (R_idx (i:=j) (@rfl V (ints (((nth (t.nd) ((nth (P.1) (k))).toNat)).kd))) (@rfl V (iV ((j:Nat):Int))) (by omega) rfl (R_load_pp rfl rfl ?_)))))))
   refine R_idxI_ms0 (i:=((nth (((nth (t.nd) ((nth (P.1) (k))).toNat)).kd) (j)))) (@rfl V (V.ms 11 1 0 (t.nd.length))) (@rfl V (iV ((nth (((nth (t.nd) ((nth (P.1) (k))).toNat)).kd) (j))))) h11 oB rfl (by omega) (by omega) (R_store (vs:=[(V.bool true)]) (B':=(bk 1 4 1 (List.map cB ((Q.2).set ((((nth (((nth (t.nd) ((nth (P.1) (k))).toNat)).kd) (j)))).toNat) true)))) rfl rfl rfl h11 (stB_map (x:=true) (i:=((((nth (((nth (t.nd) ((nth (P.1) (k))).toNat)).kd) (j)))).toNat)) (by omega) rfl rfl rfl rfl) (R_e (W_t (R_mv t4 (R_fk t6 h6 (R_lk rfl h6 rfl rfl (R_mv t7 ?_)))))))
   refine R_idx (i:=j) (@rfl V (ints (((nth (t.nd) ((nth (P.1) (k))).toNat)).kd))) (@rfl V (iV ((j:Nat):Int))) (by omega) rfl (R_load_pp rfl rfl (R_bslice rfl rfl (R_append1 (l:=Q.1) (f:=cI) (x:=(((nth (((nth (t.nd) ((nth (P.1) (k))).toNat)).kd) (j))))) (@rfl V (V.ms 14 w2 0 (Q.1.length))) h14 (by rfl) (@rfl V (V.sl [[(iV ((nth (((nth (t.nd) ((nth (P.1) (k))).toNat)).kd) (j))))]])) rfl rfl (by omega) (by omega) (R_mv rfl (R_e (n8 _ _ (.done ?_)))))))
   refine W_t (R_mv t7 (R_addN rfl (@rfl V (iV ((1:Nat):Int))) (by omega) (R_mv rfl (R_e ?_))))
   refine p16 _ _ _ ?_ ⟨(j+1),(w2+1),(wS Q (nth (nth t.nd (nth P.1 k).toNat).kd j)),rfl,t1,t3,(Eq.trans (@rfl V (V.ms 14 (w2+1) 0 (Q.1.length+1))) (by (rw [show (wS Q (nth (nth t.nd (nth P.1 k).toNat).kd j)).1.length=Q.1.length+1 by simp [wS]]; done))),t5,t6,(Eq.trans (@rfl V (iV ((j+1:Nat):Int))) (by rfl)),h1,h6,(Eq.trans (@rfl Blk (bk 1 4 1 (List.map cB ((Q.2).set ((((nth (((nth (t.nd) ((nth (P.1) (k))).toNat)).kd) (j)))).toNat) true)))) (by rfl)),(Eq.trans (@rfl Blk (bk (w2+1) 3 1 (List.map cI (Q.1++[((nth (((nth (t.nd) ((nth (P.1) (k))).toNat)).kd) (j)))])))) (by rfl)),?_,?_,?_,?_⟩
   · omega
   · omega
   · show k < (Q.1++_).length; rw [List.length_append]; omega
   · exact hiq.step r2.1 r2.2 d2
   · rw [hc2,whI_no (by omega) d2]
  refine W_seq_exit (p36 _ _ _ (x5 _ _ (n4 _ _ (fork_ (R:=fun T H=>T 1=(V.mp 1 1 0 0)∧T 3=(V.ms 11 1 0 (t.nd.length))∧T 4=(V.ms 14 w2 0 (Q.1.length))∧T 5=(iV ((k:Nat):Int))∧T 6=(V.mp 6 (v6+1) 0 0)∧T 7=(iV ((j:Nat):Int))∧T 33=(V.bool (decide (((j:Nat):Int) < (((((nth (t.nd) ((nth (P.1) (k))).toNat)).kd).length:Nat):Int))))∧H 1=(bk 1 24 1 [[(V.sl (List.map cN (t.nd)))]])∧H 6=(bk (v6+1) 99 5 [(cN (((nth (t.nd) ((nth (P.1) (k))).toNat))))])∧H 11=(bk 1 4 1 (List.map cB (Q.2)))∧H 14=(bk w2 3 1 (List.map cI (Q.1)))∧True) ⟨t1,t3,t4,t5,t6,t7,(@rfl V (V.bool (decide (((j:Nat):Int) < (((((nth (t.nd) ((nth (P.1) (k))).toNat)).kd).length:Nat):Int))))),h1,h6,h11,h14,trivial⟩ ?_))))
  intro T H ⟨t1,t3,t4,t5,t6,t7,t33,h1,h6,h11,h14,_⟩
  refine .freeze 6 (.done ?_)
  refine fork_ (R:=fun T H=>T 1=(V.mp 1 1 0 0)∧T 3=(V.ms 11 1 0 (t.nd.length))∧T 4=(V.ms 14 w2 0 (Q.1.length))∧T 5=(iV ((k:Nat):Int))∧T 6=(V.mp 6 (v6+1) 0 0)∧T 7=(iV ((j:Nat):Int))∧T 33=(V.bool (decide (((j:Nat):Int) < (((((nth (t.nd) ((nth (P.1) (k))).toNat)).kd).length:Nat):Int))))∧H 1=(bk 1 24 1 [[(V.sl (List.map cN (t.nd)))]])∧((H 6).ver=v6+1∧(H 6).live=false)∧H 11=(bk 1 4 1 (List.map cB (Q.2)))∧H 14=(bk w2 3 1 (List.map cI (Q.1)))∧True) ⟨(fzT_q t1 rfl),(fzT_q t3 (fzq_other (by decide))),(fzT_q t4 (fzq_other (by decide))),(fzT_q t5 rfl),(fzT_q t6 rfl),(fzT_q t7 rfl),(fzT_q t33 rfl),(kill_ne h1 (by decide)),(kill_self (congrArg Blk.ver h6)),(kill_ne h11 (by decide)),(kill_ne h14 (by decide)),trivial⟩ ?_
  intro T H ⟨t1,t3,t4,t5,t6,t7,t33,h1,h6,h11,h14,_⟩
  refine W_t (R_mv t5 (R_addN rfl (@rfl V (iV ((1:Nat):Int))) (by omega) (R_mv rfl (R_e ?_))))
  refine p12 _ _ _ ?_ ⟨(k+1),w2,Q,(v6+1),rfl,t1,t3,t4,(Eq.trans (@rfl V (iV ((k+1:Nat):Int))) (by rfl)),h1,h6,h11,h14,?_,?_,?_⟩
  · omega
  · omega
  · exact hiq
  · rw [hc2,whI_end (by omega)]; rfl
 refine W_seq_exit (p32 _ _ _ (x1 _ _ (.done (W_r (R_mv t4 (R_len_ms rfl h14 (by simp) (R_fk t1 h1 ?_)))))))
 refine R_lk rfl h1 rfl rfl (R_len rfl (R_eql rfl rfl (R_mv rfl (R_e (W_ret ?_)))))
 refine Ret_1 (@rfl V (V.bool (decide (((P.1.length:Nat):Int)=((t.nd.length:Nat):Int))))) (fz_bool ?_)
 · rw [whB_some (by rw [hc]; exact wh_end (by omega))]; exact decide_eq_decide.2 (by omega)
end Go.Proofs.YtmnjchcoigbngabGreat
namespace Go.Proofs.YtmnjchcoigbngabGreat
open Go Go.Proofs
theorem rdvalid_pure (t:Dt) (hb:Bd t):PureC Tryz.prog 77 [(V.agg [(V.sl (List.map cN (t.nd)))])] (iV (dvE t)):=by
 refine pW Tryz.func77 s77_ok fun hB=>?_
 unfold s77
 dsimp only
 refine W_r (R_box (i:=1) (n:=0) (m:=1) (cs:=[(V.sl (List.map cN (t.nd)))]) rfl (congrArg Blk.ver rfl) rfl rfl rfl (R_mv rfl (R_e (W_seq_seq (W_r (R_fk rfl rfl (R_lk rfl rfl rfl rfl ?_)))))))
 refine R_len rfl (R_eql rfl rfl (R_e ?_))
 refine W_seq_if rfl (fun c1=>?_) fun c1=>?_
 ·
  refine W_seq_seq (W_r (R_mv rfl (R_e (W_seq_ret ?_))))
  refine Ret_1 (@rfl V (iV (19:Int))) (fz_int ?_)
  · rw [dvE,if_pos (by omega)]
 refine W_seq_skip (W_seq_seq (W_r (R_fk rfl rfl (R_lk rfl rfl rfl rfl (R_len rfl (R_gtr rfl rfl (R_e ?_)))))))
 refine W_seq_if rfl (fun c2=>?_) fun c2=>?_
 ·
  refine W_seq_seq (W_r (R_mv rfl (R_e (W_seq_ret ?_))))
  refine Ret_1 (@rfl V (iV (11:Int))) (fz_int ?_)
  · rw [dvE,if_neg (by omega),if_pos (by omega)]
 refine W_seq_skip (W_seq_seq (W_r (R_mv rfl (R_e (W_seq_blockg fun Q3 n3 x3 y3 z3=>?_)))))
 refine W_loop (fun mm T H=> ∃ (k:Nat),mm=t.nd.length - k∧T 1=(V.mp 1 1 0 0)∧T 3=(iV ((k:Nat):Int))∧H 1=(bk 1 24 1 [[(V.sl (List.map cN (t.nd)))]])∧(k≤t.nd.length)∧(0 < t.nd.length)∧(t.nd.length≤4096)∧(∀ j,j < k→ndE (nth t.nd j) t.nd.length=0)∧(fe (fun k=>ndE (nth t.nd k) t.nd.length) 0 t.nd.length=fe (fun k=>ndE (nth t.nd k) t.nd.length) k (t.nd.length - k))) ?_ ?_
 ·
  refine ⟨_,0,rfl,rfl,(Eq.trans (@rfl V (iV (0:Int))) rfl),rfl,?_,?_,?_,?_,?_⟩
  · omega
  · omega
  · omega
  · intro j hj; omega
  · rfl
 intro mm T H ⟨k,hmm,t1,t3,h1,hk,g0,g1,hp,hc⟩ Q4 p14 p24 p34
 unfold b77_0
 refine W_seq_seq (W_r (R_mv t3 (R_fk t1 h1 (R_lk rfl h1 rfl rfl (R_len rfl (R_lss rfl rfl (R_e ?_)))))))
 refine W_seq_if rfl (fun c5=>?_) fun c5=>?_
 ·
  have r2:=hb.ou k (by omega)
  have r3:=hb.kd k (by omega)
  refine W_seq_skip (W_seq_blockg fun Q6 n6 x6 y6 z6=>(W_r (R_lk t1 h1 rfl rfl (R_fk t1 h1 (R_lk rfl h1 rfl rfl (R_mv t3 (R_idx (i:=k) (@rfl V (V.sl (List.map cN (t.nd)))) (@rfl V (iV ((k:Nat):Int))) (by omega) rfl ?_)))))))
  refine R_load_pp rfl rfl (R_callk (rnode_pure t (((nth (t.nd) (k)))) (by omega) (by omega)) rfl (R_mv rfl (R_e (W_r (R_mv rfl (R_neq rfl rfl (R_e ?_)))))))
  refine W_if rfl (fun c7=>?_) fun c7=>?_
  ·
   have d1:ndE (nth t.nd k) t.nd.length≠0:=c7
   refine W_r (R_mv rfl (R_mv rfl (R_e (W_ret (y6 _ _ (p24 _ _ (y3 _ _ ?_)))))))
   refine Ret_1 (@rfl V (iV (ndE (((nth (t.nd) (k)))) t.nd.length))) (fz_int ?_)
   · have e:fe (fun k=>ndE (nth t.nd k) t.nd.length) 0 t.nd.length=ndE (nth t.nd k) t.nd.length:=by rw [hc]; exact fe_hit (e:=fun k=>ndE (nth t.nd k) t.nd.length) d1 (by omega)
     rw [dvE,if_neg (by omega),if_neg (by omega),if_pos (by rw [e]; exact d1),e]
  have d1:ndE (nth t.nd k) t.nd.length=0:=by omega
  refine W_skip (n6 _ _ (.done (W_t (R_mv t3 (R_addN rfl (@rfl V (iV ((1:Nat):Int))) (by omega) (R_mv rfl (R_e ?_)))))))
  refine p14 _ _ _ ?_ ⟨(k+1),rfl,t1,(Eq.trans (@rfl V (iV ((k+1:Nat):Int))) (by rfl)),h1,?_,?_,?_,?_,?_⟩
  · omega
  · omega
  · omega
  · omega
  · intro i hi
    by_cases e:i=k
    · subst e; exact d1
    · exact hp i (by omega)
  · rw [hc,fe_skip (e:=fun k=>ndE (nth t.nd k) t.nd.length) (by exact d1) (by omega)]
 have hall: ∀ j,j < t.nd.length→ndE (nth t.nd j) t.nd.length=0:=fun j hj=>hp j (by omega)
 have hki:KI t:=nds_ki g0 hall
 have hz:fe (fun k=>ndE (nth t.nd k) t.nd.length) 0 t.nd.length=0:=by rw [hc,fe_end (by omega)]
 have haw: ∀ w∈acL t.nd,w.length≤1048576:=ac_len hb
 have hal:=acL_len t.nd
 refine W_seq_exit (p34 _ _ _ (x3 _ _ (.done (W_seq_seq (W_r (R_lk t1 h1 rfl rfl (R_callk (whole_pure t hki hb) rfl ?_)))))))
 refine R_notb rfl (R_e ?_)
 refine W_seq_ifb rfl (fun c8=>?_) (fun c8=>?_)
 ·
  have d3:whB t=false:=by simpa using c8
  refine W_seq_seq (W_r (R_mv rfl (R_e (W_seq_ret ?_))))
  refine Ret_1 (@rfl V (iV (1:Int))) (fz_int ?_)
  · rw [dvE,if_neg (by omega),if_neg (by omega),if_neg (by rw [hz]; simp),if_pos d3]
 have d3:whB t=true:=by simpa using c8
 refine W_seq_skip (W_r (R_lk t1 h1 rfl rfl (R_callk (raccess_pure t hb) rfl (R_mv rfl (R_e (W_seq_seq (W_r ?_)))))))
 refine R_mv rfl (R_callk (rsorted_pure (acL t.nd) (by omega) haw) rfl (R_len rfl (R_mv rfl (R_len rfl (R_neq rfl rfl (R_e ?_))))))
 refine W_seq_if rfl (fun c9=>?_) fun c9=>?_
 ·
  refine W_seq_seq (W_r (R_mv rfl (R_e (W_seq_ret ?_))))
  refine Ret_1 (@rfl V (iV (7:Int))) (fz_int ?_)
  · rw [dvE,if_neg (by omega),if_neg (by omega),if_neg (by rw [hz]; simp),if_neg (by simp [d3]),if_pos (by omega)]
 refine W_seq_skip (W_r (R_mv rfl (R_e (W_ret ?_))))
 refine Ret_1 (@rfl V (iV (0:Int))) (fz_int ?_)
 · rw [dvE,if_neg (by omega),if_neg (by omega),if_neg (by rw [hz]; simp),if_neg (by simp [d3]),if_neg (by omega)]
theorem rleaves_pure (t:Dt) (hb:Bd t):PureC Tryz.prog 23 [(V.agg [(V.sl (List.map cN (t.nd)))])] (intss ((if dvE t=0 then sdW (acL t.nd) else []))):=by
 refine pW Tryz.func23 s23_ok fun hB=>?_
 unfold s23
 dsimp only
 have hal:=acL_len t.nd
 have hbn:=hb.n
 refine W_r (R_box (i:=1) (n:=0) (m:=1) (cs:=[(V.sl (List.map cN (t.nd)))]) rfl (congrArg Blk.ver rfl) rfl rfl rfl (R_mv rfl (R_e (W_seq_seq (W_r (R_lk rfl rfl rfl rfl (R_callk (rdvalid_pure t hb) rfl ?_)))))))
 refine R_neq rfl rfl (R_e ?_)
 refine W_seq_if rfl (fun c1=>?_) fun c1=>?_
 ·
  refine W_seq_seq (W_r (R_mv rfl (R_e (W_seq_ret ?_))))
  refine Ret_1 (@rfl V V.nilsl) (fz_nil ?_)
  · rw [if_neg (by omega)]
 refine W_seq_skip (W_r (R_lk rfl rfl rfl rfl (R_callk (raccess_pure t hb) rfl (R_callk (rsorted_pure (acL t.nd) (by omega) (ac_len hb)) rfl (R_mv rfl (R_e (W_ret ?_)))))))
 refine Ret_1 (@rfl V (intss (sdW (acL t.nd)))) (fz_sl ?_ (fun _=>by simp))
 · rw [if_pos (by omega)]
def r24_1:List SO:=[
 qM 7 1,
 qN 8 7,
 qM 9 0,
 qN 10 9,
 qM 11 2,
 qP 12 .add 10 11,
 qP 13 .eql 8 12,
 qM 14 13,
 ⟨some (14,true),some 15,.mv (.t 0)⟩,
 ⟨some (14,true),some 16,.mv (.t 1)⟩,
 ⟨some (14,true),some 17,.bslice 37 1 false [.nilsl] 2 [(0,.t 15),(1,.t 16)]⟩,
 ⟨some (14,true),some 18,.call false 78 [.t 17]⟩,
 ⟨some (14,true),some 19,.len (.t 18)⟩,
 ⟨some (14,true),some 20,.mv (.t 1)⟩,
 ⟨some (14,true),some 21,.len (.t 20)⟩,
 ⟨some (14,true),some 22,.bin .eql (.t 19) (.t 21)⟩,
 sO 23 (.pick (.t 14) (.t 22) (.c (.bool false))),
 qM 6 23]
def s24:SF:=⟨24,[.tmp 6],.seq (.reg [sO 6 (.mv (.c (.bool false)))]) (.seq (.reg r24_1) (.ret))⟩
theorem s24_ok:slimF Tryz.prog ⟨[107,108,109,116,120,126,127,167,169,170,171,172,194,196,198,209,222,226],[]⟩ Tryz.f24=some s24:=by kernel_rfl
def r78_5:List SO:=[
 qM 11 3,
 qM 12 0,
 qM 13 4,
 qA 14 1 12 13,
 ql 15 14,
 sO 16 (.append 54 1 24 (.t 11) (.t 15)),
 qM 3 16]
def b78_0:SC:=.seq (.seq (.reg [qM 5 4,qM 6 0,qN 7 6,qP 8 .lss 5 7]) (.cond (.t 8) (.skip) (.exit 0))) (.seq (.block 1 (.reg r78_5)) (.reg [qM 9 4,qC 10 .add 9 1,qM 4 10]))
def s78:SF:=⟨19,[.tmp 2],.seq (.reg [sO 2 (.mv (.c (.nilsl)))]) (.seq (.reg [sO 3 (.lazy 54 1)]) (.seq (.seq (.reg [qI 4 0]) (.block 0 (.loop b78_0))) (.seq (.reg [qM 17 3,sO 18 (.call false 63 [.t 17]),qM 2 18]) (.ret))))⟩
theorem s78_ok:slimF Tryz.prog ⟨[107,108,109,116,120,126,127,167,169,170,171,172,194,196,198,209,222,226],[3]⟩ Tryz.f78=some s78:=by kernel_rfl
theorem union_pure (ls:List (List (List Int))) (hl:ls.flatten.length≤10000) (hw: ∀ w∈ls.flatten,w.length≤1048576):PureC Tryz.prog 78 [(V.sl (List.map cLL (ls)))] (intss (sdW ls.flatten)):=by
 refine pW Tryz.func78 s78_ok fun hB=>?_
 unfold s78
 dsimp only
 refine W_r (R_mv rfl (R_e (W_r (R_lazy (i:=3) (n:=0) rfl (congrArg Blk.ver rfl) (R_e (W_seq_seq (W_r ?_)))))))
 refine R_mv rfl (R_e (W_seq_blockg fun Q1 n1 x1 y1 z1=>?_))
 refine W_loop (fun mm T H=> ∃ (k:Nat) (v:Nat),mm=ls.length - k∧T 0=(V.sl (List.map cLL (ls)))∧T 3=(V.ms 3 v 0 ((flT ls k).length))∧T 4=(iV ((k:Nat):Int))∧H 3=(bz v 54 1 (List.map cL (flT ls k)))∧(k≤ls.length)) ?_ ?_
 ·
  refine ⟨_,0,1,rfl,rfl,(Eq.trans (@rfl V (V.ms 3 1 0 (0))) (by rfl)),(Eq.trans (@rfl V (iV (0:Int))) rfl),(Eq.trans (@rfl Blk (bz 1 54 1 [])) (by rfl)),?_⟩
  · omega
 intro mm T H ⟨k,v,hmm,t0,t3,t4,h3,hk⟩ Q2 p12 p22 p32
 unfold b78_0
 have q1:=flT_le (ls:=ls) k
 refine W_seq_seq (W_r (R_mv t4 (R_mv t0 (R_len rfl (R_lss rfl rfl (R_e ?_))))))
 refine W_seq_if rfl (fun c3=>?_) fun c3=>?_
 ·
  have q2:=flT_le (ls:=ls) (k+1)
  rw [flT_tk (show k < ls.length by omega),List.length_append] at q2
  refine W_seq_skip (W_seq_blockg fun Q4 n4 x4 y4 z4=>(W_t (R_mv t3 (R_mv t0 (R_mv t4 (R_idx (i:=k) (@rfl V (V.sl (List.map cLL (ls)))) (@rfl V (iV ((k:Nat):Int))) (by omega) rfl (R_load_pp rfl rfl ?_)))))))
  refine R_appendS (l:=(flT ls k)) (m:=((nth (ls) (k)))) (f:=cL) (@rfl V (V.ms 3 v 0 ((flT ls k).length))) h3 (by rfl) (@rfl V (intss ((nth (ls) (k))))) (fun _=>rfl) (fun _=>rfl) (by omega) (by omega) (R_mv rfl (R_e (n4 _ _ (.done (W_t (R_mv t4 (R_addN rfl (@rfl V (iV ((1:Nat):Int))) (by omega) ?_)))))))
  refine R_mv rfl (R_e ?_)
  refine p12 _ _ _ ?_ ⟨(k+1),(v+1),rfl,t0,(Eq.trans (@rfl V (V.ms 3 (v+1) 0 (((flT ls k).length)+((nth (ls) (k))).length))) (by (rw [flT_tk (show k < ls.length by omega),List.length_append]; done))),(Eq.trans (@rfl V (iV ((k+1:Nat):Int))) (by rfl)),(Eq.trans (@rfl Blk (bz (v+1) 54 1 (List.map cL (flT ls k++((nth (ls) (k))))))) (by (rw [flT_tk (show k < ls.length by omega)]; done))),?_⟩
  · omega
  · omega
 have hkn:k=ls.length:=by omega
 refine W_seq_exit (p32 _ _ _ (x1 _ _ (fork_ (R:=fun T H=>T 0=(V.sl (List.map cLL (ls)))∧T 3=(V.ms 3 v 0 ((flT ls k).length))∧T 4=(iV ((k:Nat):Int))∧T 8=(V.bool (decide (((k:Nat):Int) < ((ls.length:Nat):Int))))∧H 3=(bz v 54 1 (List.map cL (flT ls k)))∧True) ⟨t0,t3,t4,(@rfl V (V.bool (decide (((k:Nat):Int) < ((ls.length:Nat):Int))))),h3,trivial⟩ ?_)))
 intro T H ⟨t0,t3,t4,t8,h3,_⟩
 refine .freeze 3 (.done ?_)
 refine fork_ (R:=fun T H=>T 0=(V.sl (List.map cLL (ls)))∧T 3=(intss (flT ls k))∧T 4=(iV ((k:Nat):Int))∧T 8=(V.bool (decide (((k:Nat):Int) < ((ls.length:Nat):Int))))∧((H 3).ver=v∧(H 3).live=false)∧True) ⟨(fzT_q t0 rfl),(fzT_q t3 (fzq_own h3 (by simp) (l:=(flT ls k)) rfl (by rfl))),(fzT_q t4 rfl),(fzT_q t8 rfl),(kill_self (congrArg Blk.ver h3)),trivial⟩ ?_
 intro T H ⟨t0,t3,t4,t8,h3,_⟩
 refine W_r (R_mv t3 (R_callk (rsorted_pure (flT ls k) (by rw [flT_end hkn]; exact hl) (by rw [flT_end hkn]; exact hw)) rfl (R_mv rfl (R_e (W_ret ?_)))))
 refine Ret_1 (@rfl V (intss (sdW (flT ls k)))) (fz_sl ?_ (fun _=>by simp))
 · rw [flT_end hkn]
end Go.Proofs.YtmnjchcoigbngabGreat
namespace Go.Proofs.YtmnjchcoigbngabGreat
open Go
def mor (l k:List (List Int)) (n:Nat):Prop:=k.length=l.length+n∧(sdW (l++k)).length=k.length
theorem lvs_srt (t:Dt):SrtW (lvs t):=by
  unfold lvs; split
  · exact sdW_srt _
  · exact List.Pairwise.nil
theorem mor_same (t:Dt):mor (lvs t) (lvs t) 0:=by
  refine ⟨rfl,?_⟩
  have:sdW (lvs t++lvs t)=lvs t:=srtW_ext (sdW_srt _) (lvs_srt t) fun u=>by rw [mem_sdW]; simp
  rw [this]
theorem mor_one {t u:Dt} {w:List Int} (hv:dvE t=0) (h1:dvE u=0) (h2:sdW (acL u.nd)=sdW (sdW (acL t.nd)++[w])) (h3:(sdW (acL u.nd)).length=(sdW (acL t.nd)).length+1):mor (lvs t) (lvs u) 1:=by
  rw [lvs_eq hv,lvs_eq h1]
  refine ⟨h3,?_⟩
  have:sdW (sdW (acL t.nd)++sdW (acL u.nd))=sdW (acL u.nd):=by
    refine srtW_ext (sdW_srt _) (sdW_srt _) fun x=>?_
    rw [mem_sdW,List.mem_append,h2,mem_sdW _ x,mem_sdW _ x,List.mem_append]
    rw [mem_sdW]
    exact ⟨fun q=>q.elim .inl id,.inr⟩
  rw [this]
theorem mor_grow {t:Dt} {n:Int} {outs w:List Int} (h:grE t n outs w=0):mor (lvs t) (lvs (grT t n outs w)) 1:=by
  obtain ⟨a,b,c⟩:=grow_ok h
  exact mor_one (gr_ok h).1 a b c
theorem mor_split {t:Dt} {n:Int} {sf outs w other:List Int} (h:spE t n sf outs w other=0):mor (lvs t) (lvs (spT t n sf outs w other)) 1:=by
  obtain ⟨a,b,c⟩:=split_ok h
  exact mor_one (sp_ok h).1 a b c
theorem tst_cases (l:Ts) (o:Ob):((tst l o).1=l∧ ¬((tst l o).2.2.2=0∧(tst l o).2.1.length=0∧(tst l o).2.2.1=false))∨
    ((tst l o).2.2.2=0∧(tst l o).2.1.length=0∧(tst l o).2.2.1=false∧tsE l o=0∧sfE l o=0∧(mxW (qra l o)).length=0∧ ∃ k:Nat,k < (exs l).length∧tsN l o=k∧inx l o k=true∧
      grE l.t (sftR l.t o (nth (exs l) k)).1 (bho o (nth (exs l) k) (nth l.t.nd (sftR l.t o (nth (exs l) k)).1.toNat).sf) (nth (exs l) k)=0∧
      (tst l o).1=⟨l.i,grT l.t (sftR l.t o (nth (exs l) k)).1 (bho o (nth (exs l) k) (nth l.t.nd (sftR l.t o (nth (exs l) k)).1.toNat).sf) (nth (exs l) k)⟩):=by
  by_cases h1:tsE l o≠0
  · rw [tst_e1 h1]; exact .inl ⟨rfl,fun h=>h1 h.1⟩
  by_cases h2:sfE l o≠0
  · rw [tst_e2 h1 h2]; exact .inl ⟨rfl,fun h=>h2 h.1⟩
  by_cases h3:0 < (mxW (qra l o)).length
  · rw [tst_ask h1 h2 h3]; exact .inl ⟨rfl,fun h=>by have:=h.2.1; dsimp only at this; omega⟩
  by_cases h4:tsN l o < 0
  · rw [tst_done h1 h2 h3 h4]; exact .inl ⟨rfl,fun h=>by simp at h⟩
  by_cases h5:128≤(acL l.t.nd).length
  · rw [tst_lim h1 h2 h3 (by omega) h5]; exact .inl ⟨rfl,fun h=>by simp at h⟩
  have h4':0≤tsN l o:=by omega
  have hb:=(fi_bnd (p:=inx l o) (exs l).length 0).2 h4'
  have hv:=fi_val h4'
  have hk:tsN l o=((tsN l o).toNat:Int):=by omega
  by_cases h6:grE l.t (sftR l.t o (nth (exs l) (tsN l o).toNat)).1 (bho o (nth (exs l) (tsN l o).toNat) (nth l.t.nd (sftR l.t o (nth (exs l) (tsN l o).toNat)).1.toNat).sf) (nth (exs l) (tsN l o).toNat)≠0
  · rw [tst_ge h1 h2 h3 hk (by omega) h6]; exact .inl ⟨rfl,fun h=>h6 h.1⟩
  · refine .inr ?_
    rw [tst_gr h1 h2 h3 hk (by omega) h6]
    exact ⟨rfl,rfl,rfl,by omega,by omega,by omega,(tsN l o).toNat,by have e:fi (inx l o) 0 (exs l).length=tsN l o:=rfl; rw [e] at hb; omega,hk,hv.2.2.1,by omega,rfl⟩
theorem tst_done_ok {l:Ts} {o:Ob} (h:(tst l o).2.2.1=true):(tst l o).2.2.2=0∧(tst l o).2.1=[]∧(hyE l o=0∨hyE l o=15)∧tsE l o=0∧sfE l o=0∧(mxW (qra l o)).length=0∧tsN l o < 0∧(tst l o).1=l:=by
  by_cases h1:tsE l o≠0
  · rw [tst_e1 h1] at h; cases h
  by_cases h2:sfE l o≠0
  · rw [tst_e2 h1 h2] at h; cases h
  by_cases h3:0 < (mxW (qra l o)).length
  · rw [tst_ask h1 h2 h3] at h; cases h
  by_cases h4:tsN l o < 0
  · rw [tst_done h1 h2 h3 h4]
    refine ⟨rfl,rfl,?_,by omega,by omega,by omega,h4,rfl⟩
    by_cases h5:hval (hyH l o)≠0
    · exact .inr (hyE_5 h1 h2 h3 (by omega) h5)
    · exact .inl (hyE_6 h1 h2 h3 (by omega) h5)
  by_cases h5:128≤(acL l.t.nd).length
  · rw [tst_lim h1 h2 h3 (by omega) h5] at h; cases h
  have h4':0≤tsN l o:=by omega
  have hk:tsN l o=((tsN l o).toNat:Int):=by omega
  by_cases h6:grE l.t (sftR l.t o (nth (exs l) (tsN l o).toNat)).1 (bho o (nth (exs l) (tsN l o).toNat) (nth l.t.nd (sftR l.t o (nth (exs l) (tsN l o).toNat)).1.toNat).sf) (nth (exs l) (tsN l o).toNat)≠0
  · rw [tst_ge h1 h2 h3 hk (by omega) h6] at h; cases h
  · rw [tst_gr h1 h2 h3 hk (by omega) h6] at h; cases h
theorem tst_mor (l:Ts) (o:Ob):mor (lvs l.t) (lvs (tst l o).1.t) (if (tst l o).2.2.2=0∧(tst l o).2.1.length=0∧(tst l o).2.2.1=false then 1 else 0):=by
  rcases tst_cases l o with ⟨h1,h2⟩|⟨h1,h2,h3,_,_,_,k,_,_,_,h4,h5⟩
  · rw [if_neg h2,h1]; exact mor_same _
  · rw [if_pos ⟨h1,h2,h3⟩,h5]; exact mor_grow h4
theorem rfR_cases (l:Ts) (o:Ob) (s:Spl):((rfR l o s).1=l∧ ¬((rfR l o s).2.2=0∧(rfR l o s).2.1.length=0))∨
    ((rfR l o s).2.2=0∧(rfR l o s).2.1.length=0∧tsE l o=0∧prS s l.i=0∧(sftR l.t o (rfW s)).2.2=0∧(sftR l.t o (rfW s)).2.1.length=0∧(rfN l o s).lf=true∧(msW o (rfB l o s)).length=0∧rfG l o s=0∧(rfR l o s).1=rfT l o s):=by
  by_cases h1:tsE l o≠0
  · rw [rfR_1 h1]; exact .inl ⟨rfl,fun h=>h1 h.1⟩
  by_cases h2:prS s l.i≠0
  · rw [rfR_2 h1 h2]; exact .inl ⟨rfl,fun h=>h2 h.1⟩
  by_cases h3:(sftR l.t o (rfW s)).2.2≠0
  · rw [rfR_3 h1 h2 h3]; exact .inl ⟨rfl,fun h=>h3 h.1⟩
  by_cases h4:0 < (sftR l.t o (rfW s)).2.1.length
  · rw [rfR_4 h1 h2 h3 h4]; exact .inl ⟨rfl,fun h=>by simp at h⟩
  by_cases h5:(rfN l o s).lf=false
  · rw [rfR_5 h1 h2 h3 h4 h5]; exact .inl ⟨rfl,fun h=>by simp at h⟩
  by_cases h6:1024 < (rfN l o s).ac.length+s.x.length∨1024 < (rfW s).length+s.x.length
  · rw [rfR_6 h1 h2 h3 h4 h5 h6]; exact .inl ⟨rfl,fun h=>by simp at h⟩
  by_cases h7:0 < (msW o (rfB l o s)).length
  · rw [rfR_7 h1 h2 h3 h4 h5 h6 h7]
    refine .inl ⟨rfl,fun h=>?_⟩
    have:=mx_empty (l:=msW o (rfB l o s)) h.2
    rw [this] at h7; simp at h7
  by_cases h8:128≤(acL l.t.nd).length
  · rw [rfR_8 h1 h2 h3 h4 h5 h6 h7 h8]; exact .inl ⟨rfl,fun h=>by simp at h⟩
  by_cases h9:rfG l o s≠0
  · rw [rfR_9 h1 h2 h3 h4 h5 h6 h7 h8 h9]; exact .inl ⟨rfl,fun h=>h9 h.1⟩
  · rw [rfR_10 h1 h2 h3 h4 h5 h6 h7 h8 h9]
    exact .inr ⟨rfl,rfl,by omega,by omega,by omega,by omega,by simpa using h5,by omega,by omega,rfl⟩
theorem rfR_mor (l:Ts) (o:Ob) (s:Spl):mor (lvs l.t) (lvs (rfR l o s).1.t) (if (rfR l o s).2.2=0∧(rfR l o s).2.1.length=0 then 1 else 0):=by
  rcases rfR_cases l o s with ⟨h1,h2⟩|⟨h1,h2,_,_,_,_,_,_,h4,h5⟩
  · rw [if_neg h2,h1]; exact mor_same _
  · rw [if_pos ⟨h1,h2⟩,h5]; exact mor_split h4
theorem tst_bd {l:Ts} {o:Ob} (h:bgT l.t=false) (ho:oval o=0):Bd (tst l o).1.t:=by
  rcases tst_cases l o with ⟨h1,h2⟩|⟨h1,h2,h3,h4,_,_,k,hk,_,_,h5,h6⟩
  · rw [h1]; exact bg_bd h
  · rw [h6]
    have hw:=exs_word (ts_ok h4).1 (nth_mem hk)
    obtain ⟨n0,n1,_⟩:=no_ok (gr_ok h5).2.1
    have hs:=((bg_ok h).2 (sftR l.t o (nth (exs l) k)).1.toNat (by omega)).2.1
    have hb:=bho_le ho (nth (exs l) k) (nth l.t.nd (sftR l.t o (nth (exs l) k)).1.toNat).sf
    exact gr_bd h _ (by omega) (by omega)
theorem rfR_bd {l:Ts} {o:Ob} {s:Spl} (h:bgT l.t=false) (ho:oval o=0):Bd (rfR l o s).1.t:=by
  rcases rfR_cases l o s with ⟨h1,h2⟩|⟨h1,h2,h3,h4,_,_,_,_,h5,h6⟩
  · rw [h1]; exact bg_bd h
  · rw [h6]
    obtain ⟨p1,_,_,_,p5⟩:=prS_ok (s:=s) (i:=l.i) (by omega)
    have q1:=(wchk_ok p1).1
    have q2:=(wchk_ok p5).1
    have q3:(rfW s).length=s.p.length+1:=by simp [rfW,cat]
    have b1:=bho_le ho (rfN l o s).ac s.x
    have b2:=bho_le ho (rfW s) s.x
    exact sp_bd h _ (by omega) (by omega) (by omega) (by omega)
theorem lvs_few {t:Dt} (hb:Bd t):(lvs t).length≤4096:=sd_ln hb
theorem lvs_sm {t:Dt} (hb:Bd t): ∀ w∈lvs t,w.length≤1048576:=sd_sm hb
end Go.Proofs.YtmnjchcoigbngabGreat
namespace Go.Proofs.YtmnjchcoigbngabGreat
open Go Go.Proofs
theorem more27_pure (l k:List (List Int)) (n:Int) (hl:l.length≤4096) (hk:k.length≤4096) (hw: ∀ u∈l,u.length≤1048576) (hv: ∀ u∈k,u.length≤1048576) (hn:0≤n∧n≤1):PureC Tryz.prog 24 [(intss l),(intss k),(iV (n))] (V.bool (decide (((k.length:Nat):Int)=((l.length:Nat):Int)+n∧(sdW (l++k)).length=k.length))):=by
 refine pW Tryz.func24 s24_ok fun hB=>?_
 unfold s24
 dsimp only
 refine W_r (R_mv rfl (R_e (W_r (R_mv rfl (R_len rfl (R_mv rfl (R_len rfl ?_)))))))
 refine R_mv rfl (R_add rfl rfl (by omega) (by omega) (R_eql rfl rfl (R_mv rfl ?_)))
 refine Ops_seg 9 (fun T H=>T 23=(V.bool (decide ((((k.length:Nat):Int)=(((l.length:Nat):Int)+(n)))∧((((sdW ([l,k]).flatten).length:Nat):Int)=((k.length:Nat):Int)))))∧True) ?_ ?_
 ·
  by_cases g1:((k.length:Nat):Int)=(((l.length:Nat):Int)+(n))
  ·
   refine G_yes (edT g1 rfl) (R_mv rfl (G_yes (edT g1 rfl) (R_mv rfl (G_yes (edT g1 rfl) (R_bslice rfl rfl (G_yes (edT g1 rfl) (R_callk (union_pure ([l,k]) (by simp; omega) (by intro u hu; simp at hu; rcases hu with e|e; exact hw u e; exact hv u e)) rfl ?_)))))))
   refine G_yes (edT g1 rfl) (R_len rfl (G_yes (edT g1 rfl) (R_mv rfl (G_yes (edT g1 rfl) (R_len rfl (G_yes (edT g1 rfl) (R_eql rfl rfl ?_)))))))
   refine R_pickT (edT g1 rfl) rfl ?_
   exact ⟨(dec_andT g1),trivial⟩
  ·
   refine G_n (edF g1 rfl) (G_n (edF g1 rfl) (G_n (edF g1 rfl) (G_n (edF g1 rfl) (G_n (edF g1 rfl) (G_n (edF g1 rfl) (G_n (edF g1 rfl) (G_n (edF g1 rfl) ?_)))))))
   refine R_pickF (edF g1 rfl) rfl ?_
   exact ⟨(dec_andF g1),trivial⟩
 intro T H ⟨t23,_⟩
 refine R_mv t23 (R_e (W_ret ?_))
 refine Ret_1 (@rfl V (V.bool (decide ((((k.length:Nat):Int)=(((l.length:Nat):Int)+(n)))∧((((sdW ([l,k]).flatten).length:Nat):Int)=((k.length:Nat):Int)))))) (fz_bool ?_)
 · exact decide_eq_decide.2 (by simp; omega)
theorem law6_pure (l:Ts) (o:Ob) (s:Spl):PureC Tryz.prog 6 [(V.agg [(iV (l.i)),(V.sl (List.map cN (l.t.nd)))]),(V.agg [(iV (o.i)),(V.sl (List.map cT (o.tr)))]),(V.agg [(ints s.p),(iV (s.a)),(ints s.x)])] (V.bool true):=by
 refine pW Tryz.func6 s6_ok fun hB=>?_
 unfold s6
 dsimp only
 refine W_r (R_box (i:=3) (n:=0) (m:=2) (cs:=[(iV (l.i)),(V.sl (List.map cN (l.t.nd)))]) rfl (congrArg Blk.ver rfl) rfl rfl rfl (R_box (i:=4) (n:=0) (m:=2) (cs:=[(iV (o.i)),(V.sl (List.map cT (o.tr)))]) rfl (congrArg Blk.ver rfl) rfl rfl rfl (R_box (i:=5) (n:=0) (m:=3) (cs:=[(ints s.p),(iV (s.a)),(ints s.x)]) rfl (congrArg Blk.ver rfl) rfl rfl rfl (R_mv rfl (R_e (W_seq_seq (W_r ?_)))))))
 refine R_lk rfl rfl rfl rfl (R_lk rfl rfl rfl rfl (R_callk (great27_pure l o) rfl (R_mv rfl ?_)))
 refine Ops_seg 5 (fun T H=>T 3=(V.mp 3 1 0 0)∧T 4=(V.mp 4 1 0 0)∧T 5=(V.mp 5 1 0 0)∧T 27=(V.bool (((grB l o)||decide ((1100:Int) < ((s.p.length:Nat):Int)))))∧H 3=(bk 1 26 2 [[(iV (l.i)),(V.sl (List.map cN (l.t.nd)))]])∧H 4=(bk 1 29 2 [[(iV (o.i)),(V.sl (List.map cT (o.tr)))]])∧H 5=(bk 1 56 3 [[(ints s.p),(iV (s.a)),(ints s.x)]])∧H 8=(⟨0,false,false,0,0,[]⟩:Blk)∧H 12=(⟨0,false,false,0,0,[]⟩:Blk)∧H 15=(⟨0,false,false,0,0,[]⟩:Blk)∧True) ?_ ?_
 ·
  by_cases g1:(grB l o)=true
  ·
   refine G_n (ebT g1 rfl) (G_n (ebT g1 rfl) (G_n (ebT g1 rfl) (G_n (ebT g1 rfl) (R_pickT (ebT g1 rfl) rfl ?_))))
   exact ⟨rfl,rfl,rfl,(borT g1),rfl,rfl,rfl,rfl,rfl,rfl,trivial⟩
  ·
   refine G_yes (ebF g1 rfl) (R_fk rfl rfl (G_yes (ebF g1 rfl) (R_lk rfl rfl rfl rfl (G_yes (ebF g1 rfl) (R_len rfl (G_yes (ebF g1 rfl) (R_gtr rfl rfl ?_)))))))
   refine R_pickF (ebF g1 rfl) rfl ?_
   exact ⟨rfl,rfl,rfl,(borF g1),rfl,rfl,rfl,rfl,rfl,rfl,trivial⟩
 intro T H ⟨t3,t4,t5,t27,h3,h4,h5,h8,h12,h15,_⟩
 refine R_mv t27 ?_
 refine Ops_seg 5 (fun T H=>T 3=(V.mp 3 1 0 0)∧T 4=(V.mp 4 1 0 0)∧T 5=(V.mp 5 1 0 0)∧T 33=(V.bool (((((grB l o)||decide ((1100:Int) < ((s.p.length:Nat):Int))))||decide ((1100:Int) < ((s.x.length:Nat):Int)))))∧H 3=(bk 1 26 2 [[(iV (l.i)),(V.sl (List.map cN (l.t.nd)))]])∧H 4=(bk 1 29 2 [[(iV (o.i)),(V.sl (List.map cT (o.tr)))]])∧H 5=(bk 1 56 3 [[(ints s.p),(iV (s.a)),(ints s.x)]])∧H 8=(⟨0,false,false,0,0,[]⟩:Blk)∧H 12=(⟨0,false,false,0,0,[]⟩:Blk)∧H 15=(⟨0,false,false,0,0,[]⟩:Blk)∧True) ?_ ?_
 ·
  by_cases g2:(((grB l o)||decide ((1100:Int) < ((s.p.length:Nat):Int))))=true
  ·
   refine G_n (ebT g2 rfl) (G_n (ebT g2 rfl) (G_n (ebT g2 rfl) (G_n (ebT g2 rfl) (R_pickT (ebT g2 rfl) rfl ?_))))
   exact ⟨t3,t4,t5,(borT g2),h3,h4,h5,h8,h12,h15,trivial⟩
  ·
   refine G_yes (ebF g2 rfl) (R_fk t5 h5 (G_yes (ebF g2 rfl) (R_lk rfl h5 rfl rfl (G_yes (ebF g2 rfl) (R_len rfl (G_yes (ebF g2 rfl) (R_gtr rfl rfl ?_)))))))
   refine R_pickF (ebF g2 rfl) rfl ?_
   exact ⟨t3,t4,t5,(borF g2),h3,h4,h5,h8,h12,h15,trivial⟩
 intro T H ⟨t3,t4,t5,t33,h3,h4,h5,h8,h12,h15,_⟩
 refine R_e ?_
 refine W_seq_ifb t33 (fun c3=>?_) (fun c3=>?_)
 ·
  refine W_seq_seq (W_r (R_callk (aw_learnerlaw27_awake_pure) rfl (R_mv rfl (R_e (W_seq_ret ?_)))))
  refine Ret_1 (@rfl V (V.bool true)) (fz_canon (by simp) rfl)
 have q1:=c3
 simp only [Bool.or_eq_false_iff,decide_eq_false_iff_not] at q1
 obtain ⟨⟨q2,q3⟩,q4⟩:=q1
 obtain ⟨hi4,hgt,hol,ho⟩:=gr_no q2
 have hb:=bg_bd hgt
 have hx:=exs_40 hgt hi4
 have b1:=tst_bd (l:=l) (o:=o) hgt ho
 have b2:=rfR_bd (l:=l) (o:=o) (s:=s) hgt ho
 have f0:=lvs_few hb
 have f1:=lvs_few b1
 have f2:=lvs_few b2
 have e0:=lvs_sm hb
 have e1:=lvs_sm b1
 have e2:=lvs_sm b2
 refine W_seq_skip (W_r (R_fk t3 h3 (R_lk rfl h3 rfl rfl (R_callk (rleaves_pure l.t (by exact hb)) rfl (R_mv rfl (R_e (W_r ?_)))))))
 refine R_lk t3 h3 rfl rfl (R_lk t4 h4 rfl rfl (R_callk (tstep_pure l o hb ho hx) rfl (R_mv rfl (R_ext rfl rfl (R_ext rfl rfl (R_ext rfl rfl (R_ext rfl rfl ?_)))))))
 refine R_alloc (i:=8) (n:=0) (m:=2) rfl (congrArg Blk.ver h8) rfl (R_sk rfl rfl rfl rfl rfl rfl rfl rfl rfl (R_mv rfl (R_mv rfl (R_mv rfl (R_e ?_)))))
 refine W_seq_regc (fun T H=>T 3=(V.mp 3 1 0 0)∧T 4=(V.mp 4 1 0 0)∧T 7=(intss ((if dvE l.t=0 then sdW (acL l.t.nd) else [])))∧T 8=(V.mp 8 1 0 0)∧T 9=(intss ((tst l o).2.1))∧T 10=(V.bool ((tst l o).2.2.1))∧T 11=(iV ((tst l o).2.2.2))∧T 12=(V.mp 12 1 0 0)∧T 13=(intss ((rfR l o s).2.1))∧T 14=(iV ((rfR l o s).2.2))∧H 3=(bk 1 26 2 [[(iV (l.i)),(V.sl (List.map cN (l.t.nd)))]])∧H 4=(bk 1 29 2 [[(iV (o.i)),(V.sl (List.map cT (o.tr)))]])∧H 5=(bk 1 56 3 [[(ints s.p),(iV (s.a)),(ints s.x)]])∧H 8=(bk 1 26 2 [[(iV ((tst l o).1.i)),(V.sl (List.map cN ((tst l o).1.t.nd)))]])∧H 12=(bk 1 26 2 [[(iV ((rfR l o s).1.i)),(V.sl (List.map cN ((rfR l o s).1.t.nd)))]])∧H 15=(⟨0,false,false,0,0,[]⟩:Blk)∧True) ?_ ?_
 ·
  refine R_lk t3 h3 rfl rfl (R_lk t4 h4 rfl rfl (R_lk t5 h5 rfl rfl (R_callk (trefine_pure l o s hb ho) rfl (R_mv rfl (R_ext rfl rfl (R_ext rfl rfl (R_ext rfl rfl ?_)))))))
  refine R_alloc (i:=12) (n:=0) (m:=2) rfl (congrArg Blk.ver h12) rfl (R_sk rfl rfl rfl rfl rfl rfl rfl rfl rfl (R_mv rfl (R_mv rfl ?_)))
  exact R_nil ⟨t3,t4,rfl,rfl,rfl,rfl,rfl,rfl,rfl,rfl,h3,h4,h5,rfl,rfl,h15,trivial⟩
 intro T H ⟨t3,t4,t7,t8,t9,t10,t11,t12,t13,t14,h3,h4,h5,h8,h12,h15,_⟩
 refine W_r (R_lk t3 h3 rfl rfl (R_lk t4 h4 rfl rfl (R_callk (thyp_pure l o hb ho hx) rfl (R_mv rfl (R_ext rfl rfl (R_ext rfl rfl (R_alloc (i:=15) (n:=0) (m:=5) rfl (congrArg Blk.ver h15) rfl ?_)))))))
 refine R_sk rfl rfl rfl rfl rfl rfl rfl rfl rfl (R_mv rfl (R_e (W_r (R_mv rfl (R_mv rfl (R_e (W_seq_seq ?_)))))))
 refine W_r (R_mv t11 (R_eql rfl rfl (R_mv rfl ?_)))
 refine Ops_seg 4 (fun T H=>T 7=(intss ((if dvE l.t=0 then sdW (acL l.t.nd) else [])))∧T 8=(V.mp 8 1 0 0)∧T 10=(V.bool ((tst l o).2.2.1))∧T 11=(iV ((tst l o).2.2.2))∧T 12=(V.mp 12 1 0 0)∧T 13=(intss ((rfR l o s).2.1))∧T 14=(iV ((rfR l o s).2.2))∧T 16=(iV (hyE l o))∧T 17=(iV (0:Int))∧T 18=(iV (0:Int))∧T 66=(V.bool (decide ((((tst l o).2.2.2)=(0:Int))∧(((((tst l o).2.1).length:Nat):Int)=(0:Int)))))∧H 3=(bk 1 26 2 [[(iV (l.i)),(V.sl (List.map cN (l.t.nd)))]])∧H 4=(bk 1 29 2 [[(iV (o.i)),(V.sl (List.map cT (o.tr)))]])∧H 5=(bk 1 56 3 [[(ints s.p),(iV (s.a)),(ints s.x)]])∧H 8=(bk 1 26 2 [[(iV ((tst l o).1.i)),(V.sl (List.map cN ((tst l o).1.t.nd)))]])∧H 12=(bk 1 26 2 [[(iV ((rfR l o s).1.i)),(V.sl (List.map cN ((rfR l o s).1.t.nd)))]])∧H 15=(bk 1 48 5 [[(iV ((hyR l o).m.i)),(iV ((hyR l o).m.s)),(intss ((hyR l o).m.nx)),(intss ((hyR l o).m.ot)),(intss ((hyR l o).acc))]])∧True) ?_ ?_
 ·
  by_cases g4:((tst l o).2.2.2)=(0:Int)
  ·
   refine G_yes (edT g4 rfl) (R_mv t9 (G_yes (edT g4 rfl) (R_len rfl (G_yes (edT g4 rfl) (R_eql rfl rfl (R_pickT (edT g4 rfl) rfl ?_))))))
   exact ⟨t7,t8,t10,t11,t12,t13,t14,rfl,rfl,rfl,(dec_andT g4),h3,h4,h5,h8,h12,rfl,trivial⟩
  ·
   refine G_n (edF g4 rfl) (G_n (edF g4 rfl) (G_n (edF g4 rfl) (R_pickF (edF g4 rfl) rfl ?_)))
   exact ⟨t7,t8,t10,t11,t12,t13,t14,rfl,rfl,rfl,(dec_andF g4),h3,h4,h5,h8,h12,rfl,trivial⟩
 intro T H ⟨t7,t8,t10,t11,t12,t13,t14,t16,t17,t18,t66,h3,h4,h5,h8,h12,h15,_⟩
 refine R_mv t66 ?_
 refine Ops_seg 3 (fun T H=>T 7=(intss ((if dvE l.t=0 then sdW (acL l.t.nd) else [])))∧T 8=(V.mp 8 1 0 0)∧T 10=(V.bool ((tst l o).2.2.1))∧T 11=(iV ((tst l o).2.2.2))∧T 12=(V.mp 12 1 0 0)∧T 13=(intss ((rfR l o s).2.1))∧T 14=(iV ((rfR l o s).2.2))∧T 16=(iV (hyE l o))∧T 17=(iV (0:Int))∧T 18=(iV (0:Int))∧T 70=(V.bool ((decide ((((tst l o).2.2.2)=(0:Int))∧(((((tst l o).2.1).length:Nat):Int)=(0:Int)))&&((!(tst l o).2.2.1)))))∧H 3=(bk 1 26 2 [[(iV (l.i)),(V.sl (List.map cN (l.t.nd)))]])∧H 4=(bk 1 29 2 [[(iV (o.i)),(V.sl (List.map cT (o.tr)))]])∧H 5=(bk 1 56 3 [[(ints s.p),(iV (s.a)),(ints s.x)]])∧H 8=(bk 1 26 2 [[(iV ((tst l o).1.i)),(V.sl (List.map cN ((tst l o).1.t.nd)))]])∧H 12=(bk 1 26 2 [[(iV ((rfR l o s).1.i)),(V.sl (List.map cN ((rfR l o s).1.t.nd)))]])∧H 15=(bk 1 48 5 [[(iV ((hyR l o).m.i)),(iV ((hyR l o).m.s)),(intss ((hyR l o).m.nx)),(intss ((hyR l o).m.ot)),(intss ((hyR l o).acc))]])∧True) ?_ ?_
 ·
  by_cases g5:(((tst l o).2.2.2)=(0:Int))∧(((((tst l o).2.1).length:Nat):Int)=(0:Int))
  ·
   refine G_yes (edT g5 rfl) (R_mv t10 (G_yes (edT g5 rfl) (R_notb rfl (R_pickT (edT g5 rfl) rfl ?_))))
   exact ⟨t7,t8,t10,t11,t12,t13,t14,t16,t17,t18,(dbandT g5),h3,h4,h5,h8,h12,h15,trivial⟩
  ·
   refine G_n (edF g5 rfl) (G_n (edF g5 rfl) (R_pickF (edF g5 rfl) rfl ?_))
   exact ⟨t7,t8,t10,t11,t12,t13,t14,t16,t17,t18,(dbandF g5),h3,h4,h5,h8,h12,h15,trivial⟩
 intro T H ⟨t7,t8,t10,t11,t12,t13,t14,t16,t17,t18,t70,h3,h4,h5,h8,h12,h15,_⟩
 refine R_e ?_
 refine W_seq_ifb t70 (fun c6=>?_) (fun c6=>?_)
 ·
  have m1:mor (lvs l.t) (lvs (tst l o).1.t) 1:=by have q:=tst_mor l o; rw [if_pos (show (tst l o).2.2.2=0∧(tst l o).2.1.length=0∧(tst l o).2.2.1=false from by have z:=c6; simp only [Bool.and_eq_true,Bool.not_eq_true',decide_eq_true_eq] at z; exact ⟨z.1.1,by omega,z.2⟩)] at q; exact q
  refine W_r (R_mv rfl (R_e (W_seq_seq (W_r (R_mv t14 (R_eql rfl rfl (R_mv rfl ?_)))))))
  refine Ops_seg 4 (fun T H=>T 7=(intss ((if dvE l.t=0 then sdW (acL l.t.nd) else [])))∧T 8=(V.mp 8 1 0 0)∧T 10=(V.bool ((tst l o).2.2.1))∧T 11=(iV ((tst l o).2.2.2))∧T 12=(V.mp 12 1 0 0)∧T 16=(iV (hyE l o))∧T 17=(iV (1:Int))∧T 18=(iV (0:Int))∧T 77=(V.bool (decide ((((rfR l o s).2.2)=(0:Int))∧(((((rfR l o s).2.1).length:Nat):Int)=(0:Int)))))∧H 3=(bk 1 26 2 [[(iV (l.i)),(V.sl (List.map cN (l.t.nd)))]])∧H 4=(bk 1 29 2 [[(iV (o.i)),(V.sl (List.map cT (o.tr)))]])∧H 5=(bk 1 56 3 [[(ints s.p),(iV (s.a)),(ints s.x)]])∧H 8=(bk 1 26 2 [[(iV ((tst l o).1.i)),(V.sl (List.map cN ((tst l o).1.t.nd)))]])∧H 12=(bk 1 26 2 [[(iV ((rfR l o s).1.i)),(V.sl (List.map cN ((rfR l o s).1.t.nd)))]])∧H 15=(bk 1 48 5 [[(iV ((hyR l o).m.i)),(iV ((hyR l o).m.s)),(intss ((hyR l o).m.nx)),(intss ((hyR l o).m.ot)),(intss ((hyR l o).acc))]])∧True) ?_ ?_
  ·
   by_cases g7:((rfR l o s).2.2)=(0:Int)
   ·
    refine G_yes (edT g7 rfl) (R_mv t13 (G_yes (edT g7 rfl) (R_len rfl (G_yes (edT g7 rfl) (R_eql rfl rfl (R_pickT (edT g7 rfl) rfl ?_))))))
    exact ⟨t7,t8,t10,t11,t12,t16,rfl,t18,(dec_andT g7),h3,h4,h5,h8,h12,h15,trivial⟩
   ·
    refine G_n (edF g7 rfl) (G_n (edF g7 rfl) (G_n (edF g7 rfl) (R_pickF (edF g7 rfl) rfl ?_)))
    exact ⟨t7,t8,t10,t11,t12,t16,rfl,t18,(dec_andF g7),h3,h4,h5,h8,h12,h15,trivial⟩
  intro T H ⟨t7,t8,t10,t11,t12,t16,t17,t18,t77,h3,h4,h5,h8,h12,h15,_⟩
  refine R_e ?_
  refine W_seq_if t77 (fun c8=>?_) fun c8=>?_
  ·
   have m2:mor (lvs l.t) (lvs (rfR l o s).1.t) 1:=by have q:=rfR_mor l o s; rw [if_pos (show (rfR l o s).2.2=0∧(rfR l o s).2.1.length=0 from by have z:=c8; exact ⟨z.1,by omega⟩)] at q; exact q
   refine W_r (R_mv rfl (R_e (W_seq_seq (W_r (R_mv t10 (R_mv rfl ?_))))))
   refine Ops_seg 11 (fun T H=>T 7=(intss ((if dvE l.t=0 then sdW (acL l.t.nd) else [])))∧T 8=(V.mp 8 1 0 0)∧T 12=(V.mp 12 1 0 0)∧T 17=(iV (1:Int))∧T 18=(iV (1:Int))∧T 90=(V.bool ((((tst l o).2.2.1)&&decide ((((tst l o).2.2.2)≠(0:Int))∨(((hyE l o)≠(0:Int))∧((hyE l o)≠(15:Int)))))))∧H 3=(bk 1 26 2 [[(iV (l.i)),(V.sl (List.map cN (l.t.nd)))]])∧H 4=(bk 1 29 2 [[(iV (o.i)),(V.sl (List.map cT (o.tr)))]])∧H 5=(bk 1 56 3 [[(ints s.p),(iV (s.a)),(ints s.x)]])∧H 8=(bk 1 26 2 [[(iV ((tst l o).1.i)),(V.sl (List.map cN ((tst l o).1.t.nd)))]])∧H 12=(bk 1 26 2 [[(iV ((rfR l o s).1.i)),(V.sl (List.map cN ((rfR l o s).1.t.nd)))]])∧H 15=(bk 1 48 5 [[(iV ((hyR l o).m.i)),(iV ((hyR l o).m.s)),(intss ((hyR l o).m.nx)),(intss ((hyR l o).m.ot)),(intss ((hyR l o).acc))]])∧True) ?_ ?_
   ·
    by_cases g9:((tst l o).2.2.1)=true
    ·
     refine G_yes (ebT g9 rfl) (R_mv t11 (G_yes (ebT g9 rfl) (R_neq rfl rfl (G_yes (ebT g9 rfl) (R_mv rfl ?_)))))
     refine Ops_seg 7 (fun T H=>T 7=(intss ((if dvE l.t=0 then sdW (acL l.t.nd) else [])))∧T 8=(V.mp 8 1 0 0)∧T 12=(V.mp 12 1 0 0)∧T 17=(iV (1:Int))∧T 18=(iV (1:Int))∧T 79=(V.bool true)∧T 89=(V.bool (decide ((((tst l o).2.2.2)≠(0:Int))∨(((hyE l o)≠(0:Int))∧((hyE l o)≠(15:Int))))))∧H 3=(bk 1 26 2 [[(iV (l.i)),(V.sl (List.map cN (l.t.nd)))]])∧H 4=(bk 1 29 2 [[(iV (o.i)),(V.sl (List.map cT (o.tr)))]])∧H 5=(bk 1 56 3 [[(ints s.p),(iV (s.a)),(ints s.x)]])∧H 8=(bk 1 26 2 [[(iV ((tst l o).1.i)),(V.sl (List.map cN ((tst l o).1.t.nd)))]])∧H 12=(bk 1 26 2 [[(iV ((rfR l o s).1.i)),(V.sl (List.map cN ((rfR l o s).1.t.nd)))]])∧H 15=(bk 1 48 5 [[(iV ((hyR l o).m.i)),(iV ((hyR l o).m.s)),(intss ((hyR l o).m.nx)),(intss ((hyR l o).m.ot)),(intss ((hyR l o).acc))]])∧True) ?_ ?_
     ·
      by_cases g10:((tst l o).2.2.2)≠(0:Int)
      ·
       refine G_n (edT g10 rfl) (G_n (edT g10 rfl) (G_n (edT g10 rfl) (G_raw (@rfl V (V.raw undef)) (G_raw (@rfl V (V.raw undef)) (G_n (edT g10 rfl) (G_yes (ebT g9 rfl) (R_pickT (edT g10 rfl) rfl ?_)))))))
       exact ⟨t7,t8,t12,t17,rfl,(ebT g9 rfl),(dec_orT g10),h3,h4,h5,h8,h12,h15,trivial⟩
      ·
       refine G_yes (edF g10 rfl) (R_mv t16 (G_yes (edF g10 rfl) (R_neq rfl rfl (G_yes (edF g10 rfl) (R_mv rfl ?_)))))
       refine Ops_seg 3 (fun T H=>T 7=(intss ((if dvE l.t=0 then sdW (acL l.t.nd) else [])))∧T 8=(V.mp 8 1 0 0)∧T 12=(V.mp 12 1 0 0)∧T 17=(iV (1:Int))∧T 18=(iV (1:Int))∧T 79=(V.bool true)∧T 82=(V.bool false)∧T 88=(V.bool (decide (((hyE l o)≠(0:Int))∧((hyE l o)≠(15:Int)))))∧H 3=(bk 1 26 2 [[(iV (l.i)),(V.sl (List.map cN (l.t.nd)))]])∧H 4=(bk 1 29 2 [[(iV (o.i)),(V.sl (List.map cT (o.tr)))]])∧H 5=(bk 1 56 3 [[(ints s.p),(iV (s.a)),(ints s.x)]])∧H 8=(bk 1 26 2 [[(iV ((tst l o).1.i)),(V.sl (List.map cN ((tst l o).1.t.nd)))]])∧H 12=(bk 1 26 2 [[(iV ((rfR l o s).1.i)),(V.sl (List.map cN ((rfR l o s).1.t.nd)))]])∧H 15=(bk 1 48 5 [[(iV ((hyR l o).m.i)),(iV ((hyR l o).m.s)),(intss ((hyR l o).m.nx)),(intss ((hyR l o).m.ot)),(intss ((hyR l o).acc))]])∧True) ?_ ?_
       ·
        by_cases g11:(hyE l o)≠(0:Int)
        ·
         refine G_yes (edT g11 rfl) (R_mv t16 (G_yes (edT g11 rfl) (R_neq rfl rfl (G_yes (edF g10 rfl) (R_pickT (edT g11 rfl) rfl ?_)))))
         exact ⟨t7,t8,t12,t17,rfl,(ebT g9 rfl),(edF g10 rfl),(dec_andT g11),h3,h4,h5,h8,h12,h15,trivial⟩
        ·
         refine G_n (edF g11 rfl) (G_n (edF g11 rfl) (G_yes (edF g10 rfl) (R_pickF (edF g11 rfl) rfl ?_)))
         exact ⟨t7,t8,t12,t17,rfl,(ebT g9 rfl),(edF g10 rfl),(dec_andF g11),h3,h4,h5,h8,h12,h15,trivial⟩
       intro T H ⟨t7,t8,t12,t17,t18,t79,t82,t88,h3,h4,h5,h8,h12,h15,_⟩
       refine G_yes t79 (R_pickF t82 t88 ?_)
       exact ⟨t7,t8,t12,t17,t18,t79,(dec_orF g10),h3,h4,h5,h8,h12,h15,trivial⟩
     intro T H ⟨t7,t8,t12,t17,t18,t79,t89,h3,h4,h5,h8,h12,h15,_⟩
     refine R_pickT t79 t89 ?_
     exact ⟨t7,t8,t12,t17,t18,(bandT g9),h3,h4,h5,h8,h12,h15,trivial⟩
    ·
     refine G_n (ebF g9 rfl) (G_n (ebF g9 rfl) (G_n (ebF g9 rfl) (G_raw (@rfl V (V.raw undef)) (G_raw (@rfl V (V.raw undef)) (G_raw (@rfl V (V.raw undef)) (G_raw (@rfl V (V.raw undef)) (G_raw (@rfl V (V.raw undef)) ?_)))))))
     refine G_raw (@rfl V (V.raw undef)) (G_n (ebF g9 rfl) (R_pickF (ebF g9 rfl) rfl ?_))
     exact ⟨t7,t8,t12,t17,rfl,(bandF g9),h3,h4,h5,h8,h12,h15,trivial⟩
   intro T H ⟨t7,t8,t12,t17,t18,t90,h3,h4,h5,h8,h12,h15,_⟩
   refine R_e ?_
   refine W_seq_ifb t90 (fun c12=>?_) (fun c12=>?_)
   · exfalso; have z:=c12; simp only [Bool.and_eq_true,Bool.or_eq_true,decide_eq_true_eq] at z; have y:=tst_done_ok z.1; rcases z.2 with z|z; exact z y.1; rcases y.2.2.1 with y|y <;> omega
   refine W_seq_skip (W_r (R_mv t7 (R_fk t8 h8 (R_lk rfl h8 rfl rfl (R_callk (rleaves_pure ((tst l o).1.t) (by exact b1)) rfl (R_mv t17 (R_callk (more27_pure ((if dvE l.t=0 then sdW (acL l.t.nd) else [])) ((if dvE ((tst l o).1.t)=0 then sdW (acL ((tst l o).1.t).nd) else [])) ((1:Int)) f0 (by exact f1) e0 (by exact e1) (by decide)) rfl ?_)))))))
   refine R_mv rfl ?_
   refine Ops_seg 7 (fun T H=>T 104=(V.bool (decide ((((((if dvE ((tst l o).1.t)=0 then sdW (acL ((tst l o).1.t).nd) else [])).length:Nat):Int)=((((if dvE l.t=0 then sdW (acL l.t.nd) else [])).length:Nat):Int)+((1:Int))∧(sdW (((if dvE l.t=0 then sdW (acL l.t.nd) else []))++((if dvE ((tst l o).1.t)=0 then sdW (acL ((tst l o).1.t).nd) else [])))).length=((if dvE ((tst l o).1.t)=0 then sdW (acL ((tst l o).1.t).nd) else [])).length)∧(((((if dvE ((rfR l o s).1.t)=0 then sdW (acL ((rfR l o s).1.t).nd) else [])).length:Nat):Int)=((((if dvE l.t=0 then sdW (acL l.t.nd) else [])).length:Nat):Int)+((1:Int))∧(sdW (((if dvE l.t=0 then sdW (acL l.t.nd) else []))++((if dvE ((rfR l o s).1.t)=0 then sdW (acL ((rfR l o s).1.t).nd) else [])))).length=((if dvE ((rfR l o s).1.t)=0 then sdW (acL ((rfR l o s).1.t).nd) else [])).length))))∧H 3=(bk 1 26 2 [[(iV (l.i)),(V.sl (List.map cN (l.t.nd)))]])∧H 4=(bk 1 29 2 [[(iV (o.i)),(V.sl (List.map cT (o.tr)))]])∧H 5=(bk 1 56 3 [[(ints s.p),(iV (s.a)),(ints s.x)]])∧H 8=(bk 1 26 2 [[(iV ((tst l o).1.i)),(V.sl (List.map cN ((tst l o).1.t.nd)))]])∧H 12=(bk 1 26 2 [[(iV ((rfR l o s).1.i)),(V.sl (List.map cN ((rfR l o s).1.t.nd)))]])∧H 15=(bk 1 48 5 [[(iV ((hyR l o).m.i)),(iV ((hyR l o).m.s)),(intss ((hyR l o).m.nx)),(intss ((hyR l o).m.ot)),(intss ((hyR l o).acc))]])∧True) ?_ ?_
   ·
    by_cases g13:((((if dvE ((tst l o).1.t)=0 then sdW (acL ((tst l o).1.t).nd) else [])).length:Nat):Int)=((((if dvE l.t=0 then sdW (acL l.t.nd) else [])).length:Nat):Int)+((1:Int))∧(sdW (((if dvE l.t=0 then sdW (acL l.t.nd) else []))++((if dvE ((tst l o).1.t)=0 then sdW (acL ((tst l o).1.t).nd) else [])))).length=((if dvE ((tst l o).1.t)=0 then sdW (acL ((tst l o).1.t).nd) else [])).length
    ·
     refine G_yes (edT g13 rfl) (R_mv t7 (G_yes (edT g13 rfl) (R_fk t12 h12 (G_yes (edT g13 rfl) (R_lk rfl h12 rfl rfl (G_yes (edT g13 rfl) (R_callk (rleaves_pure ((rfR l o s).1.t) (by exact b2)) rfl ?_)))))))
     refine G_yes (edT g13 rfl) (R_mv t18 (G_yes (edT g13 rfl) (R_callk (more27_pure ((if dvE l.t=0 then sdW (acL l.t.nd) else [])) ((if dvE ((rfR l o s).1.t)=0 then sdW (acL ((rfR l o s).1.t).nd) else [])) ((1:Int)) f0 (by exact f2) e0 (by exact e2) (by decide)) rfl (R_pickT (edT g13 rfl) rfl ?_))))
     exact ⟨(dec_andT g13),h3,h4,h5,h8,h12,h15,trivial⟩
    ·
     refine G_n (edF g13 rfl) (G_n (edF g13 rfl) (G_n (edF g13 rfl) (G_n (edF g13 rfl) (G_n (edF g13 rfl) (G_n (edF g13 rfl) (R_pickF (edF g13 rfl) rfl ?_))))))
     exact ⟨(dec_andF g13),h3,h4,h5,h8,h12,h15,trivial⟩
   intro T H ⟨t104,h3,h4,h5,h8,h12,h15,_⟩
   refine R_mv t104 ?_
   refine Ops_seg 2 (fun T H=>T 107=(V.bool (decide ((((((if dvE ((tst l o).1.t)=0 then sdW (acL ((tst l o).1.t).nd) else [])).length:Nat):Int)=((((if dvE l.t=0 then sdW (acL l.t.nd) else [])).length:Nat):Int)+((1:Int))∧(sdW (((if dvE l.t=0 then sdW (acL l.t.nd) else []))++((if dvE ((tst l o).1.t)=0 then sdW (acL ((tst l o).1.t).nd) else [])))).length=((if dvE ((tst l o).1.t)=0 then sdW (acL ((tst l o).1.t).nd) else [])).length)∧(((((if dvE ((rfR l o s).1.t)=0 then sdW (acL ((rfR l o s).1.t).nd) else [])).length:Nat):Int)=((((if dvE l.t=0 then sdW (acL l.t.nd) else [])).length:Nat):Int)+((1:Int))∧(sdW (((if dvE l.t=0 then sdW (acL l.t.nd) else []))++((if dvE ((rfR l o s).1.t)=0 then sdW (acL ((rfR l o s).1.t).nd) else [])))).length=((if dvE ((rfR l o s).1.t)=0 then sdW (acL ((rfR l o s).1.t).nd) else [])).length))))∧H 3=(bk 1 26 2 [[(iV (l.i)),(V.sl (List.map cN (l.t.nd)))]])∧H 4=(bk 1 29 2 [[(iV (o.i)),(V.sl (List.map cT (o.tr)))]])∧H 5=(bk 1 56 3 [[(ints s.p),(iV (s.a)),(ints s.x)]])∧H 8=(bk 1 26 2 [[(iV ((tst l o).1.i)),(V.sl (List.map cN ((tst l o).1.t.nd)))]])∧H 12=(bk 1 26 2 [[(iV ((rfR l o s).1.i)),(V.sl (List.map cN ((rfR l o s).1.t.nd)))]])∧H 15=(bk 1 48 5 [[(iV ((hyR l o).m.i)),(iV ((hyR l o).m.s)),(intss ((hyR l o).m.nx)),(intss ((hyR l o).m.ot)),(intss ((hyR l o).acc))]])∧True) ?_ ?_
   ·
    by_cases g14:(((((if dvE ((tst l o).1.t)=0 then sdW (acL ((tst l o).1.t).nd) else [])).length:Nat):Int)=((((if dvE l.t=0 then sdW (acL l.t.nd) else [])).length:Nat):Int)+((1:Int))∧(sdW (((if dvE l.t=0 then sdW (acL l.t.nd) else []))++((if dvE ((tst l o).1.t)=0 then sdW (acL ((tst l o).1.t).nd) else [])))).length=((if dvE ((tst l o).1.t)=0 then sdW (acL ((tst l o).1.t).nd) else [])).length)∧(((((if dvE ((rfR l o s).1.t)=0 then sdW (acL ((rfR l o s).1.t).nd) else [])).length:Nat):Int)=((((if dvE l.t=0 then sdW (acL l.t.nd) else [])).length:Nat):Int)+((1:Int))∧(sdW (((if dvE l.t=0 then sdW (acL l.t.nd) else []))++((if dvE ((rfR l o s).1.t)=0 then sdW (acL ((rfR l o s).1.t).nd) else [])))).length=((if dvE ((rfR l o s).1.t)=0 then sdW (acL ((rfR l o s).1.t).nd) else [])).length)
    ·
     refine G_yes (edT g14 rfl) (R_callk (aw_learnerlaw27_awake_pure) rfl (R_pickT (edT g14 rfl) rfl ?_))
     exact ⟨(dec_T g14),h3,h4,h5,h8,h12,h15,trivial⟩
    ·
     refine G_n (edF g14 rfl) (R_pickF (edF g14 rfl) rfl ?_)
     exact ⟨(dec_F g14),h3,h4,h5,h8,h12,h15,trivial⟩
   intro T H ⟨t107,h3,h4,h5,h8,h12,h15,_⟩
   refine R_mv t107 (R_e (W_ret ?_))
   refine Ret_1 (@rfl V (V.bool (decide ((((((if dvE ((tst l o).1.t)=0 then sdW (acL ((tst l o).1.t).nd) else [])).length:Nat):Int)=((((if dvE l.t=0 then sdW (acL l.t.nd) else [])).length:Nat):Int)+((1:Int))∧(sdW (((if dvE l.t=0 then sdW (acL l.t.nd) else []))++((if dvE ((tst l o).1.t)=0 then sdW (acL ((tst l o).1.t).nd) else [])))).length=((if dvE ((tst l o).1.t)=0 then sdW (acL ((tst l o).1.t).nd) else [])).length)∧(((((if dvE ((rfR l o s).1.t)=0 then sdW (acL ((rfR l o s).1.t).nd) else [])).length:Nat):Int)=((((if dvE l.t=0 then sdW (acL l.t.nd) else [])).length:Nat):Int)+((1:Int))∧(sdW (((if dvE l.t=0 then sdW (acL l.t.nd) else []))++((if dvE ((rfR l o s).1.t)=0 then sdW (acL ((rfR l o s).1.t).nd) else [])))).length=((if dvE ((rfR l o s).1.t)=0 then sdW (acL ((rfR l o s).1.t).nd) else [])).length))))) (fz_bool ?_)
   · unfold lvs mor at m1 m2
     simp [m1,m2]
  have m2:mor (lvs l.t) (lvs (rfR l o s).1.t) 0:=by have q:=rfR_mor l o s; rw [if_neg (show ¬((rfR l o s).2.2=0∧(rfR l o s).2.1.length=0) from fun y=>c8 ⟨y.1,by omega⟩)] at q; exact q
  refine W_seq_skip (W_seq_seq (W_r (R_mv t10 (R_mv rfl ?_))))
  refine Ops_seg 11 (fun T H=>T 7=(intss ((if dvE l.t=0 then sdW (acL l.t.nd) else [])))∧T 8=(V.mp 8 1 0 0)∧T 12=(V.mp 12 1 0 0)∧T 17=(iV (1:Int))∧T 18=(iV (0:Int))∧T 90=(V.bool ((((tst l o).2.2.1)&&decide ((((tst l o).2.2.2)≠(0:Int))∨(((hyE l o)≠(0:Int))∧((hyE l o)≠(15:Int)))))))∧H 3=(bk 1 26 2 [[(iV (l.i)),(V.sl (List.map cN (l.t.nd)))]])∧H 4=(bk 1 29 2 [[(iV (o.i)),(V.sl (List.map cT (o.tr)))]])∧H 5=(bk 1 56 3 [[(ints s.p),(iV (s.a)),(ints s.x)]])∧H 8=(bk 1 26 2 [[(iV ((tst l o).1.i)),(V.sl (List.map cN ((tst l o).1.t.nd)))]])∧H 12=(bk 1 26 2 [[(iV ((rfR l o s).1.i)),(V.sl (List.map cN ((rfR l o s).1.t.nd)))]])∧H 15=(bk 1 48 5 [[(iV ((hyR l o).m.i)),(iV ((hyR l o).m.s)),(intss ((hyR l o).m.nx)),(intss ((hyR l o).m.ot)),(intss ((hyR l o).acc))]])∧True) ?_ ?_
  ·
   by_cases g15:((tst l o).2.2.1)=true
   ·
    refine G_yes (ebT g15 rfl) (R_mv t11 (G_yes (ebT g15 rfl) (R_neq rfl rfl (G_yes (ebT g15 rfl) (R_mv rfl ?_)))))
    refine Ops_seg 7 (fun T H=>T 7=(intss ((if dvE l.t=0 then sdW (acL l.t.nd) else [])))∧T 8=(V.mp 8 1 0 0)∧T 12=(V.mp 12 1 0 0)∧T 17=(iV (1:Int))∧T 18=(iV (0:Int))∧T 79=(V.bool true)∧T 89=(V.bool (decide ((((tst l o).2.2.2)≠(0:Int))∨(((hyE l o)≠(0:Int))∧((hyE l o)≠(15:Int))))))∧H 3=(bk 1 26 2 [[(iV (l.i)),(V.sl (List.map cN (l.t.nd)))]])∧H 4=(bk 1 29 2 [[(iV (o.i)),(V.sl (List.map cT (o.tr)))]])∧H 5=(bk 1 56 3 [[(ints s.p),(iV (s.a)),(ints s.x)]])∧H 8=(bk 1 26 2 [[(iV ((tst l o).1.i)),(V.sl (List.map cN ((tst l o).1.t.nd)))]])∧H 12=(bk 1 26 2 [[(iV ((rfR l o s).1.i)),(V.sl (List.map cN ((rfR l o s).1.t.nd)))]])∧H 15=(bk 1 48 5 [[(iV ((hyR l o).m.i)),(iV ((hyR l o).m.s)),(intss ((hyR l o).m.nx)),(intss ((hyR l o).m.ot)),(intss ((hyR l o).acc))]])∧True) ?_ ?_
    ·
     by_cases g16:((tst l o).2.2.2)≠(0:Int)
     ·
      refine G_n (edT g16 rfl) (G_n (edT g16 rfl) (G_n (edT g16 rfl) (G_raw (@rfl V (V.raw undef)) (G_raw (@rfl V (V.raw undef)) (G_n (edT g16 rfl) (G_yes (ebT g15 rfl) (R_pickT (edT g16 rfl) rfl ?_)))))))
      exact ⟨t7,t8,t12,t17,t18,(ebT g15 rfl),(dec_orT g16),h3,h4,h5,h8,h12,h15,trivial⟩
     ·
      refine G_yes (edF g16 rfl) (R_mv t16 (G_yes (edF g16 rfl) (R_neq rfl rfl (G_yes (edF g16 rfl) (R_mv rfl ?_)))))
      refine Ops_seg 3 (fun T H=>T 7=(intss ((if dvE l.t=0 then sdW (acL l.t.nd) else [])))∧T 8=(V.mp 8 1 0 0)∧T 12=(V.mp 12 1 0 0)∧T 17=(iV (1:Int))∧T 18=(iV (0:Int))∧T 79=(V.bool true)∧T 82=(V.bool false)∧T 88=(V.bool (decide (((hyE l o)≠(0:Int))∧((hyE l o)≠(15:Int)))))∧H 3=(bk 1 26 2 [[(iV (l.i)),(V.sl (List.map cN (l.t.nd)))]])∧H 4=(bk 1 29 2 [[(iV (o.i)),(V.sl (List.map cT (o.tr)))]])∧H 5=(bk 1 56 3 [[(ints s.p),(iV (s.a)),(ints s.x)]])∧H 8=(bk 1 26 2 [[(iV ((tst l o).1.i)),(V.sl (List.map cN ((tst l o).1.t.nd)))]])∧H 12=(bk 1 26 2 [[(iV ((rfR l o s).1.i)),(V.sl (List.map cN ((rfR l o s).1.t.nd)))]])∧H 15=(bk 1 48 5 [[(iV ((hyR l o).m.i)),(iV ((hyR l o).m.s)),(intss ((hyR l o).m.nx)),(intss ((hyR l o).m.ot)),(intss ((hyR l o).acc))]])∧True) ?_ ?_
      ·
       by_cases g17:(hyE l o)≠(0:Int)
       ·
        refine G_yes (edT g17 rfl) (R_mv t16 (G_yes (edT g17 rfl) (R_neq rfl rfl (G_yes (edF g16 rfl) (R_pickT (edT g17 rfl) rfl ?_)))))
        exact ⟨t7,t8,t12,t17,t18,(ebT g15 rfl),(edF g16 rfl),(dec_andT g17),h3,h4,h5,h8,h12,h15,trivial⟩
       ·
        refine G_n (edF g17 rfl) (G_n (edF g17 rfl) (G_yes (edF g16 rfl) (R_pickF (edF g17 rfl) rfl ?_)))
        exact ⟨t7,t8,t12,t17,t18,(ebT g15 rfl),(edF g16 rfl),(dec_andF g17),h3,h4,h5,h8,h12,h15,trivial⟩
      intro T H ⟨t7,t8,t12,t17,t18,t79,t82,t88,h3,h4,h5,h8,h12,h15,_⟩
      refine G_yes t79 (R_pickF t82 t88 ?_)
      exact ⟨t7,t8,t12,t17,t18,t79,(dec_orF g16),h3,h4,h5,h8,h12,h15,trivial⟩
    intro T H ⟨t7,t8,t12,t17,t18,t79,t89,h3,h4,h5,h8,h12,h15,_⟩
    refine R_pickT t79 t89 ?_
    exact ⟨t7,t8,t12,t17,t18,(bandT g15),h3,h4,h5,h8,h12,h15,trivial⟩
   ·
    refine G_n (ebF g15 rfl) (G_n (ebF g15 rfl) (G_n (ebF g15 rfl) (G_raw (@rfl V (V.raw undef)) (G_raw (@rfl V (V.raw undef)) (G_raw (@rfl V (V.raw undef)) (G_raw (@rfl V (V.raw undef)) (G_raw (@rfl V (V.raw undef)) ?_)))))))
    refine G_raw (@rfl V (V.raw undef)) (G_n (ebF g15 rfl) (R_pickF (ebF g15 rfl) rfl ?_))
    exact ⟨t7,t8,t12,t17,t18,(bandF g15),h3,h4,h5,h8,h12,h15,trivial⟩
  intro T H ⟨t7,t8,t12,t17,t18,t90,h3,h4,h5,h8,h12,h15,_⟩
  refine R_e ?_
  refine W_seq_ifb t90 (fun c18=>?_) (fun c18=>?_)
  · exfalso; have z:=c18; simp only [Bool.and_eq_true,Bool.or_eq_true,decide_eq_true_eq] at z; have y:=tst_done_ok z.1; rcases z.2 with z|z; exact z y.1; rcases y.2.2.1 with y|y <;> omega
  refine W_seq_skip (W_r (R_mv t7 (R_fk t8 h8 (R_lk rfl h8 rfl rfl (R_callk (rleaves_pure ((tst l o).1.t) (by exact b1)) rfl (R_mv t17 (R_callk (more27_pure ((if dvE l.t=0 then sdW (acL l.t.nd) else [])) ((if dvE ((tst l o).1.t)=0 then sdW (acL ((tst l o).1.t).nd) else [])) ((1:Int)) f0 (by exact f1) e0 (by exact e1) (by decide)) rfl ?_)))))))
  refine R_mv rfl ?_
  refine Ops_seg 7 (fun T H=>T 104=(V.bool (decide ((((((if dvE ((tst l o).1.t)=0 then sdW (acL ((tst l o).1.t).nd) else [])).length:Nat):Int)=((((if dvE l.t=0 then sdW (acL l.t.nd) else [])).length:Nat):Int)+((1:Int))∧(sdW (((if dvE l.t=0 then sdW (acL l.t.nd) else []))++((if dvE ((tst l o).1.t)=0 then sdW (acL ((tst l o).1.t).nd) else [])))).length=((if dvE ((tst l o).1.t)=0 then sdW (acL ((tst l o).1.t).nd) else [])).length)∧(((((if dvE ((rfR l o s).1.t)=0 then sdW (acL ((rfR l o s).1.t).nd) else [])).length:Nat):Int)=((((if dvE l.t=0 then sdW (acL l.t.nd) else [])).length:Nat):Int)+((0:Int))∧(sdW (((if dvE l.t=0 then sdW (acL l.t.nd) else []))++((if dvE ((rfR l o s).1.t)=0 then sdW (acL ((rfR l o s).1.t).nd) else [])))).length=((if dvE ((rfR l o s).1.t)=0 then sdW (acL ((rfR l o s).1.t).nd) else [])).length))))∧H 3=(bk 1 26 2 [[(iV (l.i)),(V.sl (List.map cN (l.t.nd)))]])∧H 4=(bk 1 29 2 [[(iV (o.i)),(V.sl (List.map cT (o.tr)))]])∧H 5=(bk 1 56 3 [[(ints s.p),(iV (s.a)),(ints s.x)]])∧H 8=(bk 1 26 2 [[(iV ((tst l o).1.i)),(V.sl (List.map cN ((tst l o).1.t.nd)))]])∧H 12=(bk 1 26 2 [[(iV ((rfR l o s).1.i)),(V.sl (List.map cN ((rfR l o s).1.t.nd)))]])∧H 15=(bk 1 48 5 [[(iV ((hyR l o).m.i)),(iV ((hyR l o).m.s)),(intss ((hyR l o).m.nx)),(intss ((hyR l o).m.ot)),(intss ((hyR l o).acc))]])∧True) ?_ ?_
  ·
   by_cases g19:((((if dvE ((tst l o).1.t)=0 then sdW (acL ((tst l o).1.t).nd) else [])).length:Nat):Int)=((((if dvE l.t=0 then sdW (acL l.t.nd) else [])).length:Nat):Int)+((1:Int))∧(sdW (((if dvE l.t=0 then sdW (acL l.t.nd) else []))++((if dvE ((tst l o).1.t)=0 then sdW (acL ((tst l o).1.t).nd) else [])))).length=((if dvE ((tst l o).1.t)=0 then sdW (acL ((tst l o).1.t).nd) else [])).length
   ·
    refine G_yes (edT g19 rfl) (R_mv t7 (G_yes (edT g19 rfl) (R_fk t12 h12 (G_yes (edT g19 rfl) (R_lk rfl h12 rfl rfl (G_yes (edT g19 rfl) (R_callk (rleaves_pure ((rfR l o s).1.t) (by exact b2)) rfl ?_)))))))
    refine G_yes (edT g19 rfl) (R_mv t18 (G_yes (edT g19 rfl) (R_callk (more27_pure ((if dvE l.t=0 then sdW (acL l.t.nd) else [])) ((if dvE ((rfR l o s).1.t)=0 then sdW (acL ((rfR l o s).1.t).nd) else [])) ((0:Int)) f0 (by exact f2) e0 (by exact e2) (by decide)) rfl (R_pickT (edT g19 rfl) rfl ?_))))
    exact ⟨(dec_andT g19),h3,h4,h5,h8,h12,h15,trivial⟩
   ·
    refine G_n (edF g19 rfl) (G_n (edF g19 rfl) (G_n (edF g19 rfl) (G_n (edF g19 rfl) (G_n (edF g19 rfl) (G_n (edF g19 rfl) (R_pickF (edF g19 rfl) rfl ?_))))))
    exact ⟨(dec_andF g19),h3,h4,h5,h8,h12,h15,trivial⟩
  intro T H ⟨t104,h3,h4,h5,h8,h12,h15,_⟩
  refine R_mv t104 ?_
  refine Ops_seg 2 (fun T H=>T 107=(V.bool (decide ((((((if dvE ((tst l o).1.t)=0 then sdW (acL ((tst l o).1.t).nd) else [])).length:Nat):Int)=((((if dvE l.t=0 then sdW (acL l.t.nd) else [])).length:Nat):Int)+((1:Int))∧(sdW (((if dvE l.t=0 then sdW (acL l.t.nd) else []))++((if dvE ((tst l o).1.t)=0 then sdW (acL ((tst l o).1.t).nd) else [])))).length=((if dvE ((tst l o).1.t)=0 then sdW (acL ((tst l o).1.t).nd) else [])).length)∧(((((if dvE ((rfR l o s).1.t)=0 then sdW (acL ((rfR l o s).1.t).nd) else [])).length:Nat):Int)=((((if dvE l.t=0 then sdW (acL l.t.nd) else [])).length:Nat):Int)+((0:Int))∧(sdW (((if dvE l.t=0 then sdW (acL l.t.nd) else []))++((if dvE ((rfR l o s).1.t)=0 then sdW (acL ((rfR l o s).1.t).nd) else [])))).length=((if dvE ((rfR l o s).1.t)=0 then sdW (acL ((rfR l o s).1.t).nd) else [])).length))))∧H 3=(bk 1 26 2 [[(iV (l.i)),(V.sl (List.map cN (l.t.nd)))]])∧H 4=(bk 1 29 2 [[(iV (o.i)),(V.sl (List.map cT (o.tr)))]])∧H 5=(bk 1 56 3 [[(ints s.p),(iV (s.a)),(ints s.x)]])∧H 8=(bk 1 26 2 [[(iV ((tst l o).1.i)),(V.sl (List.map cN ((tst l o).1.t.nd)))]])∧H 12=(bk 1 26 2 [[(iV ((rfR l o s).1.i)),(V.sl (List.map cN ((rfR l o s).1.t.nd)))]])∧H 15=(bk 1 48 5 [[(iV ((hyR l o).m.i)),(iV ((hyR l o).m.s)),(intss ((hyR l o).m.nx)),(intss ((hyR l o).m.ot)),(intss ((hyR l o).acc))]])∧True) ?_ ?_
  ·
   by_cases g20:(((((if dvE ((tst l o).1.t)=0 then sdW (acL ((tst l o).1.t).nd) else [])).length:Nat):Int)=((((if dvE l.t=0 then sdW (acL l.t.nd) else [])).length:Nat):Int)+((1:Int))∧(sdW (((if dvE l.t=0 then sdW (acL l.t.nd) else []))++((if dvE ((tst l o).1.t)=0 then sdW (acL ((tst l o).1.t).nd) else [])))).length=((if dvE ((tst l o).1.t)=0 then sdW (acL ((tst l o).1.t).nd) else [])).length)∧(((((if dvE ((rfR l o s).1.t)=0 then sdW (acL ((rfR l o s).1.t).nd) else [])).length:Nat):Int)=((((if dvE l.t=0 then sdW (acL l.t.nd) else [])).length:Nat):Int)+((0:Int))∧(sdW (((if dvE l.t=0 then sdW (acL l.t.nd) else []))++((if dvE ((rfR l o s).1.t)=0 then sdW (acL ((rfR l o s).1.t).nd) else [])))).length=((if dvE ((rfR l o s).1.t)=0 then sdW (acL ((rfR l o s).1.t).nd) else [])).length)
   ·
    refine G_yes (edT g20 rfl) (R_callk (aw_learnerlaw27_awake_pure) rfl (R_pickT (edT g20 rfl) rfl ?_))
    exact ⟨(dec_T g20),h3,h4,h5,h8,h12,h15,trivial⟩
   ·
    refine G_n (edF g20 rfl) (R_pickF (edF g20 rfl) rfl ?_)
    exact ⟨(dec_F g20),h3,h4,h5,h8,h12,h15,trivial⟩
  intro T H ⟨t107,h3,h4,h5,h8,h12,h15,_⟩
  refine R_mv t107 (R_e (W_ret ?_))
  refine Ret_1 (@rfl V (V.bool (decide ((((((if dvE ((tst l o).1.t)=0 then sdW (acL ((tst l o).1.t).nd) else [])).length:Nat):Int)=((((if dvE l.t=0 then sdW (acL l.t.nd) else [])).length:Nat):Int)+((1:Int))∧(sdW (((if dvE l.t=0 then sdW (acL l.t.nd) else []))++((if dvE ((tst l o).1.t)=0 then sdW (acL ((tst l o).1.t).nd) else [])))).length=((if dvE ((tst l o).1.t)=0 then sdW (acL ((tst l o).1.t).nd) else [])).length)∧(((((if dvE ((rfR l o s).1.t)=0 then sdW (acL ((rfR l o s).1.t).nd) else [])).length:Nat):Int)=((((if dvE l.t=0 then sdW (acL l.t.nd) else [])).length:Nat):Int)+((0:Int))∧(sdW (((if dvE l.t=0 then sdW (acL l.t.nd) else []))++((if dvE ((rfR l o s).1.t)=0 then sdW (acL ((rfR l o s).1.t).nd) else [])))).length=((if dvE ((rfR l o s).1.t)=0 then sdW (acL ((rfR l o s).1.t).nd) else [])).length))))) (fz_bool ?_)
  · unfold lvs mor at m1 m2
    simp [m1,m2]
 have m1:mor (lvs l.t) (lvs (tst l o).1.t) 0:=by have q:=tst_mor l o; rw [if_neg (show ¬((tst l o).2.2.2=0∧(tst l o).2.1.length=0∧(tst l o).2.2.1=false) from fun y=>by have z:=c6; simp [y.1,y.2.1,y.2.2] at z)] at q; exact q
 refine W_seq_skip (W_seq_seq (W_r (R_mv t14 (R_eql rfl rfl (R_mv rfl ?_)))))
 refine Ops_seg 4 (fun T H=>T 7=(intss ((if dvE l.t=0 then sdW (acL l.t.nd) else [])))∧T 8=(V.mp 8 1 0 0)∧T 10=(V.bool ((tst l o).2.2.1))∧T 11=(iV ((tst l o).2.2.2))∧T 12=(V.mp 12 1 0 0)∧T 16=(iV (hyE l o))∧T 17=(iV (0:Int))∧T 18=(iV (0:Int))∧T 77=(V.bool (decide ((((rfR l o s).2.2)=(0:Int))∧(((((rfR l o s).2.1).length:Nat):Int)=(0:Int)))))∧H 3=(bk 1 26 2 [[(iV (l.i)),(V.sl (List.map cN (l.t.nd)))]])∧H 4=(bk 1 29 2 [[(iV (o.i)),(V.sl (List.map cT (o.tr)))]])∧H 5=(bk 1 56 3 [[(ints s.p),(iV (s.a)),(ints s.x)]])∧H 8=(bk 1 26 2 [[(iV ((tst l o).1.i)),(V.sl (List.map cN ((tst l o).1.t.nd)))]])∧H 12=(bk 1 26 2 [[(iV ((rfR l o s).1.i)),(V.sl (List.map cN ((rfR l o s).1.t.nd)))]])∧H 15=(bk 1 48 5 [[(iV ((hyR l o).m.i)),(iV ((hyR l o).m.s)),(intss ((hyR l o).m.nx)),(intss ((hyR l o).m.ot)),(intss ((hyR l o).acc))]])∧True) ?_ ?_
 ·
  by_cases g21:((rfR l o s).2.2)=(0:Int)
  ·
   refine G_yes (edT g21 rfl) (R_mv t13 (G_yes (edT g21 rfl) (R_len rfl (G_yes (edT g21 rfl) (R_eql rfl rfl (R_pickT (edT g21 rfl) rfl ?_))))))
   exact ⟨t7,t8,t10,t11,t12,t16,t17,t18,(dec_andT g21),h3,h4,h5,h8,h12,h15,trivial⟩
  ·
   refine G_n (edF g21 rfl) (G_n (edF g21 rfl) (G_n (edF g21 rfl) (R_pickF (edF g21 rfl) rfl ?_)))
   exact ⟨t7,t8,t10,t11,t12,t16,t17,t18,(dec_andF g21),h3,h4,h5,h8,h12,h15,trivial⟩
 intro T H ⟨t7,t8,t10,t11,t12,t16,t17,t18,t77,h3,h4,h5,h8,h12,h15,_⟩
 refine R_e ?_
 refine W_seq_if t77 (fun c22=>?_) fun c22=>?_
 ·
  have m2:mor (lvs l.t) (lvs (rfR l o s).1.t) 1:=by have q:=rfR_mor l o s; rw [if_pos (show (rfR l o s).2.2=0∧(rfR l o s).2.1.length=0 from by have z:=c22; exact ⟨z.1,by omega⟩)] at q; exact q
  refine W_r (R_mv rfl (R_e (W_seq_seq (W_r (R_mv t10 (R_mv rfl ?_))))))
  refine Ops_seg 11 (fun T H=>T 7=(intss ((if dvE l.t=0 then sdW (acL l.t.nd) else [])))∧T 8=(V.mp 8 1 0 0)∧T 12=(V.mp 12 1 0 0)∧T 17=(iV (0:Int))∧T 18=(iV (1:Int))∧T 90=(V.bool ((((tst l o).2.2.1)&&decide ((((tst l o).2.2.2)≠(0:Int))∨(((hyE l o)≠(0:Int))∧((hyE l o)≠(15:Int)))))))∧H 3=(bk 1 26 2 [[(iV (l.i)),(V.sl (List.map cN (l.t.nd)))]])∧H 4=(bk 1 29 2 [[(iV (o.i)),(V.sl (List.map cT (o.tr)))]])∧H 5=(bk 1 56 3 [[(ints s.p),(iV (s.a)),(ints s.x)]])∧H 8=(bk 1 26 2 [[(iV ((tst l o).1.i)),(V.sl (List.map cN ((tst l o).1.t.nd)))]])∧H 12=(bk 1 26 2 [[(iV ((rfR l o s).1.i)),(V.sl (List.map cN ((rfR l o s).1.t.nd)))]])∧H 15=(bk 1 48 5 [[(iV ((hyR l o).m.i)),(iV ((hyR l o).m.s)),(intss ((hyR l o).m.nx)),(intss ((hyR l o).m.ot)),(intss ((hyR l o).acc))]])∧True) ?_ ?_
  ·
   by_cases g23:((tst l o).2.2.1)=true
   ·
    refine G_yes (ebT g23 rfl) (R_mv t11 (G_yes (ebT g23 rfl) (R_neq rfl rfl (G_yes (ebT g23 rfl) (R_mv rfl ?_)))))
    refine Ops_seg 7 (fun T H=>T 7=(intss ((if dvE l.t=0 then sdW (acL l.t.nd) else [])))∧T 8=(V.mp 8 1 0 0)∧T 12=(V.mp 12 1 0 0)∧T 17=(iV (0:Int))∧T 18=(iV (1:Int))∧T 79=(V.bool true)∧T 89=(V.bool (decide ((((tst l o).2.2.2)≠(0:Int))∨(((hyE l o)≠(0:Int))∧((hyE l o)≠(15:Int))))))∧H 3=(bk 1 26 2 [[(iV (l.i)),(V.sl (List.map cN (l.t.nd)))]])∧H 4=(bk 1 29 2 [[(iV (o.i)),(V.sl (List.map cT (o.tr)))]])∧H 5=(bk 1 56 3 [[(ints s.p),(iV (s.a)),(ints s.x)]])∧H 8=(bk 1 26 2 [[(iV ((tst l o).1.i)),(V.sl (List.map cN ((tst l o).1.t.nd)))]])∧H 12=(bk 1 26 2 [[(iV ((rfR l o s).1.i)),(V.sl (List.map cN ((rfR l o s).1.t.nd)))]])∧H 15=(bk 1 48 5 [[(iV ((hyR l o).m.i)),(iV ((hyR l o).m.s)),(intss ((hyR l o).m.nx)),(intss ((hyR l o).m.ot)),(intss ((hyR l o).acc))]])∧True) ?_ ?_
    ·
     by_cases g24:((tst l o).2.2.2)≠(0:Int)
     ·
      refine G_n (edT g24 rfl) (G_n (edT g24 rfl) (G_n (edT g24 rfl) (G_raw (@rfl V (V.raw undef)) (G_raw (@rfl V (V.raw undef)) (G_n (edT g24 rfl) (G_yes (ebT g23 rfl) (R_pickT (edT g24 rfl) rfl ?_)))))))
      exact ⟨t7,t8,t12,t17,rfl,(ebT g23 rfl),(dec_orT g24),h3,h4,h5,h8,h12,h15,trivial⟩
     ·
      refine G_yes (edF g24 rfl) (R_mv t16 (G_yes (edF g24 rfl) (R_neq rfl rfl (G_yes (edF g24 rfl) (R_mv rfl ?_)))))
      refine Ops_seg 3 (fun T H=>T 7=(intss ((if dvE l.t=0 then sdW (acL l.t.nd) else [])))∧T 8=(V.mp 8 1 0 0)∧T 12=(V.mp 12 1 0 0)∧T 17=(iV (0:Int))∧T 18=(iV (1:Int))∧T 79=(V.bool true)∧T 82=(V.bool false)∧T 88=(V.bool (decide (((hyE l o)≠(0:Int))∧((hyE l o)≠(15:Int)))))∧H 3=(bk 1 26 2 [[(iV (l.i)),(V.sl (List.map cN (l.t.nd)))]])∧H 4=(bk 1 29 2 [[(iV (o.i)),(V.sl (List.map cT (o.tr)))]])∧H 5=(bk 1 56 3 [[(ints s.p),(iV (s.a)),(ints s.x)]])∧H 8=(bk 1 26 2 [[(iV ((tst l o).1.i)),(V.sl (List.map cN ((tst l o).1.t.nd)))]])∧H 12=(bk 1 26 2 [[(iV ((rfR l o s).1.i)),(V.sl (List.map cN ((rfR l o s).1.t.nd)))]])∧H 15=(bk 1 48 5 [[(iV ((hyR l o).m.i)),(iV ((hyR l o).m.s)),(intss ((hyR l o).m.nx)),(intss ((hyR l o).m.ot)),(intss ((hyR l o).acc))]])∧True) ?_ ?_
      ·
       by_cases g25:(hyE l o)≠(0:Int)
       ·
        refine G_yes (edT g25 rfl) (R_mv t16 (G_yes (edT g25 rfl) (R_neq rfl rfl (G_yes (edF g24 rfl) (R_pickT (edT g25 rfl) rfl ?_)))))
        exact ⟨t7,t8,t12,t17,rfl,(ebT g23 rfl),(edF g24 rfl),(dec_andT g25),h3,h4,h5,h8,h12,h15,trivial⟩
       ·
        refine G_n (edF g25 rfl) (G_n (edF g25 rfl) (G_yes (edF g24 rfl) (R_pickF (edF g25 rfl) rfl ?_)))
        exact ⟨t7,t8,t12,t17,rfl,(ebT g23 rfl),(edF g24 rfl),(dec_andF g25),h3,h4,h5,h8,h12,h15,trivial⟩
      intro T H ⟨t7,t8,t12,t17,t18,t79,t82,t88,h3,h4,h5,h8,h12,h15,_⟩
      refine G_yes t79 (R_pickF t82 t88 ?_)
      exact ⟨t7,t8,t12,t17,t18,t79,(dec_orF g24),h3,h4,h5,h8,h12,h15,trivial⟩
    intro T H ⟨t7,t8,t12,t17,t18,t79,t89,h3,h4,h5,h8,h12,h15,_⟩
    refine R_pickT t79 t89 ?_
    exact ⟨t7,t8,t12,t17,t18,(bandT g23),h3,h4,h5,h8,h12,h15,trivial⟩
   ·
    refine G_n (ebF g23 rfl) (G_n (ebF g23 rfl) (G_n (ebF g23 rfl) (G_raw (@rfl V (V.raw undef)) (G_raw (@rfl V (V.raw undef)) (G_raw (@rfl V (V.raw undef)) (G_raw (@rfl V (V.raw undef)) (G_raw (@rfl V (V.raw undef)) ?_)))))))
    refine G_raw (@rfl V (V.raw undef)) (G_n (ebF g23 rfl) (R_pickF (ebF g23 rfl) rfl ?_))
    exact ⟨t7,t8,t12,t17,rfl,(bandF g23),h3,h4,h5,h8,h12,h15,trivial⟩
  intro T H ⟨t7,t8,t12,t17,t18,t90,h3,h4,h5,h8,h12,h15,_⟩
  refine R_e ?_
  refine W_seq_ifb t90 (fun c26=>?_) (fun c26=>?_)
  · exfalso; have z:=c26; simp only [Bool.and_eq_true,Bool.or_eq_true,decide_eq_true_eq] at z; have y:=tst_done_ok z.1; rcases z.2 with z|z; exact z y.1; rcases y.2.2.1 with y|y <;> omega
  refine W_seq_skip (W_r (R_mv t7 (R_fk t8 h8 (R_lk rfl h8 rfl rfl (R_callk (rleaves_pure ((tst l o).1.t) (by exact b1)) rfl (R_mv t17 (R_callk (more27_pure ((if dvE l.t=0 then sdW (acL l.t.nd) else [])) ((if dvE ((tst l o).1.t)=0 then sdW (acL ((tst l o).1.t).nd) else [])) ((0:Int)) f0 (by exact f1) e0 (by exact e1) (by decide)) rfl ?_)))))))
  refine R_mv rfl ?_
  refine Ops_seg 7 (fun T H=>T 104=(V.bool (decide ((((((if dvE ((tst l o).1.t)=0 then sdW (acL ((tst l o).1.t).nd) else [])).length:Nat):Int)=((((if dvE l.t=0 then sdW (acL l.t.nd) else [])).length:Nat):Int)+((0:Int))∧(sdW (((if dvE l.t=0 then sdW (acL l.t.nd) else []))++((if dvE ((tst l o).1.t)=0 then sdW (acL ((tst l o).1.t).nd) else [])))).length=((if dvE ((tst l o).1.t)=0 then sdW (acL ((tst l o).1.t).nd) else [])).length)∧(((((if dvE ((rfR l o s).1.t)=0 then sdW (acL ((rfR l o s).1.t).nd) else [])).length:Nat):Int)=((((if dvE l.t=0 then sdW (acL l.t.nd) else [])).length:Nat):Int)+((1:Int))∧(sdW (((if dvE l.t=0 then sdW (acL l.t.nd) else []))++((if dvE ((rfR l o s).1.t)=0 then sdW (acL ((rfR l o s).1.t).nd) else [])))).length=((if dvE ((rfR l o s).1.t)=0 then sdW (acL ((rfR l o s).1.t).nd) else [])).length))))∧H 3=(bk 1 26 2 [[(iV (l.i)),(V.sl (List.map cN (l.t.nd)))]])∧H 4=(bk 1 29 2 [[(iV (o.i)),(V.sl (List.map cT (o.tr)))]])∧H 5=(bk 1 56 3 [[(ints s.p),(iV (s.a)),(ints s.x)]])∧H 8=(bk 1 26 2 [[(iV ((tst l o).1.i)),(V.sl (List.map cN ((tst l o).1.t.nd)))]])∧H 12=(bk 1 26 2 [[(iV ((rfR l o s).1.i)),(V.sl (List.map cN ((rfR l o s).1.t.nd)))]])∧H 15=(bk 1 48 5 [[(iV ((hyR l o).m.i)),(iV ((hyR l o).m.s)),(intss ((hyR l o).m.nx)),(intss ((hyR l o).m.ot)),(intss ((hyR l o).acc))]])∧True) ?_ ?_
  ·
   by_cases g27:((((if dvE ((tst l o).1.t)=0 then sdW (acL ((tst l o).1.t).nd) else [])).length:Nat):Int)=((((if dvE l.t=0 then sdW (acL l.t.nd) else [])).length:Nat):Int)+((0:Int))∧(sdW (((if dvE l.t=0 then sdW (acL l.t.nd) else []))++((if dvE ((tst l o).1.t)=0 then sdW (acL ((tst l o).1.t).nd) else [])))).length=((if dvE ((tst l o).1.t)=0 then sdW (acL ((tst l o).1.t).nd) else [])).length
   ·
    refine G_yes (edT g27 rfl) (R_mv t7 (G_yes (edT g27 rfl) (R_fk t12 h12 (G_yes (edT g27 rfl) (R_lk rfl h12 rfl rfl (G_yes (edT g27 rfl) (R_callk (rleaves_pure ((rfR l o s).1.t) (by exact b2)) rfl ?_)))))))
    refine G_yes (edT g27 rfl) (R_mv t18 (G_yes (edT g27 rfl) (R_callk (more27_pure ((if dvE l.t=0 then sdW (acL l.t.nd) else [])) ((if dvE ((rfR l o s).1.t)=0 then sdW (acL ((rfR l o s).1.t).nd) else [])) ((1:Int)) f0 (by exact f2) e0 (by exact e2) (by decide)) rfl (R_pickT (edT g27 rfl) rfl ?_))))
    exact ⟨(dec_andT g27),h3,h4,h5,h8,h12,h15,trivial⟩
   ·
    refine G_n (edF g27 rfl) (G_n (edF g27 rfl) (G_n (edF g27 rfl) (G_n (edF g27 rfl) (G_n (edF g27 rfl) (G_n (edF g27 rfl) (R_pickF (edF g27 rfl) rfl ?_))))))
    exact ⟨(dec_andF g27),h3,h4,h5,h8,h12,h15,trivial⟩
  intro T H ⟨t104,h3,h4,h5,h8,h12,h15,_⟩
  refine R_mv t104 ?_
  refine Ops_seg 2 (fun T H=>T 107=(V.bool (decide ((((((if dvE ((tst l o).1.t)=0 then sdW (acL ((tst l o).1.t).nd) else [])).length:Nat):Int)=((((if dvE l.t=0 then sdW (acL l.t.nd) else [])).length:Nat):Int)+((0:Int))∧(sdW (((if dvE l.t=0 then sdW (acL l.t.nd) else []))++((if dvE ((tst l o).1.t)=0 then sdW (acL ((tst l o).1.t).nd) else [])))).length=((if dvE ((tst l o).1.t)=0 then sdW (acL ((tst l o).1.t).nd) else [])).length)∧(((((if dvE ((rfR l o s).1.t)=0 then sdW (acL ((rfR l o s).1.t).nd) else [])).length:Nat):Int)=((((if dvE l.t=0 then sdW (acL l.t.nd) else [])).length:Nat):Int)+((1:Int))∧(sdW (((if dvE l.t=0 then sdW (acL l.t.nd) else []))++((if dvE ((rfR l o s).1.t)=0 then sdW (acL ((rfR l o s).1.t).nd) else [])))).length=((if dvE ((rfR l o s).1.t)=0 then sdW (acL ((rfR l o s).1.t).nd) else [])).length))))∧H 3=(bk 1 26 2 [[(iV (l.i)),(V.sl (List.map cN (l.t.nd)))]])∧H 4=(bk 1 29 2 [[(iV (o.i)),(V.sl (List.map cT (o.tr)))]])∧H 5=(bk 1 56 3 [[(ints s.p),(iV (s.a)),(ints s.x)]])∧H 8=(bk 1 26 2 [[(iV ((tst l o).1.i)),(V.sl (List.map cN ((tst l o).1.t.nd)))]])∧H 12=(bk 1 26 2 [[(iV ((rfR l o s).1.i)),(V.sl (List.map cN ((rfR l o s).1.t.nd)))]])∧H 15=(bk 1 48 5 [[(iV ((hyR l o).m.i)),(iV ((hyR l o).m.s)),(intss ((hyR l o).m.nx)),(intss ((hyR l o).m.ot)),(intss ((hyR l o).acc))]])∧True) ?_ ?_
  ·
   by_cases g28:(((((if dvE ((tst l o).1.t)=0 then sdW (acL ((tst l o).1.t).nd) else [])).length:Nat):Int)=((((if dvE l.t=0 then sdW (acL l.t.nd) else [])).length:Nat):Int)+((0:Int))∧(sdW (((if dvE l.t=0 then sdW (acL l.t.nd) else []))++((if dvE ((tst l o).1.t)=0 then sdW (acL ((tst l o).1.t).nd) else [])))).length=((if dvE ((tst l o).1.t)=0 then sdW (acL ((tst l o).1.t).nd) else [])).length)∧(((((if dvE ((rfR l o s).1.t)=0 then sdW (acL ((rfR l o s).1.t).nd) else [])).length:Nat):Int)=((((if dvE l.t=0 then sdW (acL l.t.nd) else [])).length:Nat):Int)+((1:Int))∧(sdW (((if dvE l.t=0 then sdW (acL l.t.nd) else []))++((if dvE ((rfR l o s).1.t)=0 then sdW (acL ((rfR l o s).1.t).nd) else [])))).length=((if dvE ((rfR l o s).1.t)=0 then sdW (acL ((rfR l o s).1.t).nd) else [])).length)
   ·
    refine G_yes (edT g28 rfl) (R_callk (aw_learnerlaw27_awake_pure) rfl (R_pickT (edT g28 rfl) rfl ?_))
    exact ⟨(dec_T g28),h3,h4,h5,h8,h12,h15,trivial⟩
   ·
    refine G_n (edF g28 rfl) (R_pickF (edF g28 rfl) rfl ?_)
    exact ⟨(dec_F g28),h3,h4,h5,h8,h12,h15,trivial⟩
  intro T H ⟨t107,h3,h4,h5,h8,h12,h15,_⟩
  refine R_mv t107 (R_e (W_ret ?_))
  refine Ret_1 (@rfl V (V.bool (decide ((((((if dvE ((tst l o).1.t)=0 then sdW (acL ((tst l o).1.t).nd) else [])).length:Nat):Int)=((((if dvE l.t=0 then sdW (acL l.t.nd) else [])).length:Nat):Int)+((0:Int))∧(sdW (((if dvE l.t=0 then sdW (acL l.t.nd) else []))++((if dvE ((tst l o).1.t)=0 then sdW (acL ((tst l o).1.t).nd) else [])))).length=((if dvE ((tst l o).1.t)=0 then sdW (acL ((tst l o).1.t).nd) else [])).length)∧(((((if dvE ((rfR l o s).1.t)=0 then sdW (acL ((rfR l o s).1.t).nd) else [])).length:Nat):Int)=((((if dvE l.t=0 then sdW (acL l.t.nd) else [])).length:Nat):Int)+((1:Int))∧(sdW (((if dvE l.t=0 then sdW (acL l.t.nd) else []))++((if dvE ((rfR l o s).1.t)=0 then sdW (acL ((rfR l o s).1.t).nd) else [])))).length=((if dvE ((rfR l o s).1.t)=0 then sdW (acL ((rfR l o s).1.t).nd) else [])).length))))) (fz_bool ?_)
  · unfold lvs mor at m1 m2
    simp [m1,m2]
 have m2:mor (lvs l.t) (lvs (rfR l o s).1.t) 0:=by have q:=rfR_mor l o s; rw [if_neg (show ¬((rfR l o s).2.2=0∧(rfR l o s).2.1.length=0) from fun y=>c22 ⟨y.1,by omega⟩)] at q; exact q
 refine W_seq_skip (W_seq_seq (W_r (R_mv t10 (R_mv rfl ?_))))
 refine Ops_seg 11 (fun T H=>T 7=(intss ((if dvE l.t=0 then sdW (acL l.t.nd) else [])))∧T 8=(V.mp 8 1 0 0)∧T 12=(V.mp 12 1 0 0)∧T 17=(iV (0:Int))∧T 18=(iV (0:Int))∧T 90=(V.bool ((((tst l o).2.2.1)&&decide ((((tst l o).2.2.2)≠(0:Int))∨(((hyE l o)≠(0:Int))∧((hyE l o)≠(15:Int)))))))∧H 3=(bk 1 26 2 [[(iV (l.i)),(V.sl (List.map cN (l.t.nd)))]])∧H 4=(bk 1 29 2 [[(iV (o.i)),(V.sl (List.map cT (o.tr)))]])∧H 5=(bk 1 56 3 [[(ints s.p),(iV (s.a)),(ints s.x)]])∧H 8=(bk 1 26 2 [[(iV ((tst l o).1.i)),(V.sl (List.map cN ((tst l o).1.t.nd)))]])∧H 12=(bk 1 26 2 [[(iV ((rfR l o s).1.i)),(V.sl (List.map cN ((rfR l o s).1.t.nd)))]])∧H 15=(bk 1 48 5 [[(iV ((hyR l o).m.i)),(iV ((hyR l o).m.s)),(intss ((hyR l o).m.nx)),(intss ((hyR l o).m.ot)),(intss ((hyR l o).acc))]])∧True) ?_ ?_
 ·
  by_cases g29:((tst l o).2.2.1)=true
  ·
   refine G_yes (ebT g29 rfl) (R_mv t11 (G_yes (ebT g29 rfl) (R_neq rfl rfl (G_yes (ebT g29 rfl) (R_mv rfl ?_)))))
   refine Ops_seg 7 (fun T H=>T 7=(intss ((if dvE l.t=0 then sdW (acL l.t.nd) else [])))∧T 8=(V.mp 8 1 0 0)∧T 12=(V.mp 12 1 0 0)∧T 17=(iV (0:Int))∧T 18=(iV (0:Int))∧T 79=(V.bool true)∧T 89=(V.bool (decide ((((tst l o).2.2.2)≠(0:Int))∨(((hyE l o)≠(0:Int))∧((hyE l o)≠(15:Int))))))∧H 3=(bk 1 26 2 [[(iV (l.i)),(V.sl (List.map cN (l.t.nd)))]])∧H 4=(bk 1 29 2 [[(iV (o.i)),(V.sl (List.map cT (o.tr)))]])∧H 5=(bk 1 56 3 [[(ints s.p),(iV (s.a)),(ints s.x)]])∧H 8=(bk 1 26 2 [[(iV ((tst l o).1.i)),(V.sl (List.map cN ((tst l o).1.t.nd)))]])∧H 12=(bk 1 26 2 [[(iV ((rfR l o s).1.i)),(V.sl (List.map cN ((rfR l o s).1.t.nd)))]])∧H 15=(bk 1 48 5 [[(iV ((hyR l o).m.i)),(iV ((hyR l o).m.s)),(intss ((hyR l o).m.nx)),(intss ((hyR l o).m.ot)),(intss ((hyR l o).acc))]])∧True) ?_ ?_
   ·
    by_cases g30:((tst l o).2.2.2)≠(0:Int)
    ·
     refine G_n (edT g30 rfl) (G_n (edT g30 rfl) (G_n (edT g30 rfl) (G_raw (@rfl V (V.raw undef)) (G_raw (@rfl V (V.raw undef)) (G_n (edT g30 rfl) (G_yes (ebT g29 rfl) (R_pickT (edT g30 rfl) rfl ?_)))))))
     exact ⟨t7,t8,t12,t17,t18,(ebT g29 rfl),(dec_orT g30),h3,h4,h5,h8,h12,h15,trivial⟩
    ·
     refine G_yes (edF g30 rfl) (R_mv t16 (G_yes (edF g30 rfl) (R_neq rfl rfl (G_yes (edF g30 rfl) (R_mv rfl ?_)))))
     refine Ops_seg 3 (fun T H=>T 7=(intss ((if dvE l.t=0 then sdW (acL l.t.nd) else [])))∧T 8=(V.mp 8 1 0 0)∧T 12=(V.mp 12 1 0 0)∧T 17=(iV (0:Int))∧T 18=(iV (0:Int))∧T 79=(V.bool true)∧T 82=(V.bool false)∧T 88=(V.bool (decide (((hyE l o)≠(0:Int))∧((hyE l o)≠(15:Int)))))∧H 3=(bk 1 26 2 [[(iV (l.i)),(V.sl (List.map cN (l.t.nd)))]])∧H 4=(bk 1 29 2 [[(iV (o.i)),(V.sl (List.map cT (o.tr)))]])∧H 5=(bk 1 56 3 [[(ints s.p),(iV (s.a)),(ints s.x)]])∧H 8=(bk 1 26 2 [[(iV ((tst l o).1.i)),(V.sl (List.map cN ((tst l o).1.t.nd)))]])∧H 12=(bk 1 26 2 [[(iV ((rfR l o s).1.i)),(V.sl (List.map cN ((rfR l o s).1.t.nd)))]])∧H 15=(bk 1 48 5 [[(iV ((hyR l o).m.i)),(iV ((hyR l o).m.s)),(intss ((hyR l o).m.nx)),(intss ((hyR l o).m.ot)),(intss ((hyR l o).acc))]])∧True) ?_ ?_
     ·
      by_cases g31:(hyE l o)≠(0:Int)
      ·
       refine G_yes (edT g31 rfl) (R_mv t16 (G_yes (edT g31 rfl) (R_neq rfl rfl (G_yes (edF g30 rfl) (R_pickT (edT g31 rfl) rfl ?_)))))
       exact ⟨t7,t8,t12,t17,t18,(ebT g29 rfl),(edF g30 rfl),(dec_andT g31),h3,h4,h5,h8,h12,h15,trivial⟩
      ·
       refine G_n (edF g31 rfl) (G_n (edF g31 rfl) (G_yes (edF g30 rfl) (R_pickF (edF g31 rfl) rfl ?_)))
       exact ⟨t7,t8,t12,t17,t18,(ebT g29 rfl),(edF g30 rfl),(dec_andF g31),h3,h4,h5,h8,h12,h15,trivial⟩
     intro T H ⟨t7,t8,t12,t17,t18,t79,t82,t88,h3,h4,h5,h8,h12,h15,_⟩
     refine G_yes t79 (R_pickF t82 t88 ?_)
     exact ⟨t7,t8,t12,t17,t18,t79,(dec_orF g30),h3,h4,h5,h8,h12,h15,trivial⟩
   intro T H ⟨t7,t8,t12,t17,t18,t79,t89,h3,h4,h5,h8,h12,h15,_⟩
   refine R_pickT t79 t89 ?_
   exact ⟨t7,t8,t12,t17,t18,(bandT g29),h3,h4,h5,h8,h12,h15,trivial⟩
  ·
   refine G_n (ebF g29 rfl) (G_n (ebF g29 rfl) (G_n (ebF g29 rfl) (G_raw (@rfl V (V.raw undef)) (G_raw (@rfl V (V.raw undef)) (G_raw (@rfl V (V.raw undef)) (G_raw (@rfl V (V.raw undef)) (G_raw (@rfl V (V.raw undef)) ?_)))))))
   refine G_raw (@rfl V (V.raw undef)) (G_n (ebF g29 rfl) (R_pickF (ebF g29 rfl) rfl ?_))
   exact ⟨t7,t8,t12,t17,t18,(bandF g29),h3,h4,h5,h8,h12,h15,trivial⟩
 intro T H ⟨t7,t8,t12,t17,t18,t90,h3,h4,h5,h8,h12,h15,_⟩
 refine R_e ?_
 refine W_seq_ifb t90 (fun c32=>?_) (fun c32=>?_)
 · exfalso; have z:=c32; simp only [Bool.and_eq_true,Bool.or_eq_true,decide_eq_true_eq] at z; have y:=tst_done_ok z.1; rcases z.2 with z|z; exact z y.1; rcases y.2.2.1 with y|y <;> omega
 refine W_seq_skip (W_r (R_mv t7 (R_fk t8 h8 (R_lk rfl h8 rfl rfl (R_callk (rleaves_pure ((tst l o).1.t) (by exact b1)) rfl (R_mv t17 (R_callk (more27_pure ((if dvE l.t=0 then sdW (acL l.t.nd) else [])) ((if dvE ((tst l o).1.t)=0 then sdW (acL ((tst l o).1.t).nd) else [])) ((0:Int)) f0 (by exact f1) e0 (by exact e1) (by decide)) rfl ?_)))))))
 refine R_mv rfl ?_
 refine Ops_seg 7 (fun T H=>T 104=(V.bool (decide ((((((if dvE ((tst l o).1.t)=0 then sdW (acL ((tst l o).1.t).nd) else [])).length:Nat):Int)=((((if dvE l.t=0 then sdW (acL l.t.nd) else [])).length:Nat):Int)+((0:Int))∧(sdW (((if dvE l.t=0 then sdW (acL l.t.nd) else []))++((if dvE ((tst l o).1.t)=0 then sdW (acL ((tst l o).1.t).nd) else [])))).length=((if dvE ((tst l o).1.t)=0 then sdW (acL ((tst l o).1.t).nd) else [])).length)∧(((((if dvE ((rfR l o s).1.t)=0 then sdW (acL ((rfR l o s).1.t).nd) else [])).length:Nat):Int)=((((if dvE l.t=0 then sdW (acL l.t.nd) else [])).length:Nat):Int)+((0:Int))∧(sdW (((if dvE l.t=0 then sdW (acL l.t.nd) else []))++((if dvE ((rfR l o s).1.t)=0 then sdW (acL ((rfR l o s).1.t).nd) else [])))).length=((if dvE ((rfR l o s).1.t)=0 then sdW (acL ((rfR l o s).1.t).nd) else [])).length))))∧H 3=(bk 1 26 2 [[(iV (l.i)),(V.sl (List.map cN (l.t.nd)))]])∧H 4=(bk 1 29 2 [[(iV (o.i)),(V.sl (List.map cT (o.tr)))]])∧H 5=(bk 1 56 3 [[(ints s.p),(iV (s.a)),(ints s.x)]])∧H 8=(bk 1 26 2 [[(iV ((tst l o).1.i)),(V.sl (List.map cN ((tst l o).1.t.nd)))]])∧H 12=(bk 1 26 2 [[(iV ((rfR l o s).1.i)),(V.sl (List.map cN ((rfR l o s).1.t.nd)))]])∧H 15=(bk 1 48 5 [[(iV ((hyR l o).m.i)),(iV ((hyR l o).m.s)),(intss ((hyR l o).m.nx)),(intss ((hyR l o).m.ot)),(intss ((hyR l o).acc))]])∧True) ?_ ?_
 ·
  by_cases g33:((((if dvE ((tst l o).1.t)=0 then sdW (acL ((tst l o).1.t).nd) else [])).length:Nat):Int)=((((if dvE l.t=0 then sdW (acL l.t.nd) else [])).length:Nat):Int)+((0:Int))∧(sdW (((if dvE l.t=0 then sdW (acL l.t.nd) else []))++((if dvE ((tst l o).1.t)=0 then sdW (acL ((tst l o).1.t).nd) else [])))).length=((if dvE ((tst l o).1.t)=0 then sdW (acL ((tst l o).1.t).nd) else [])).length
  ·
   refine G_yes (edT g33 rfl) (R_mv t7 (G_yes (edT g33 rfl) (R_fk t12 h12 (G_yes (edT g33 rfl) (R_lk rfl h12 rfl rfl (G_yes (edT g33 rfl) (R_callk (rleaves_pure ((rfR l o s).1.t) (by exact b2)) rfl ?_)))))))
   refine G_yes (edT g33 rfl) (R_mv t18 (G_yes (edT g33 rfl) (R_callk (more27_pure ((if dvE l.t=0 then sdW (acL l.t.nd) else [])) ((if dvE ((rfR l o s).1.t)=0 then sdW (acL ((rfR l o s).1.t).nd) else [])) ((0:Int)) f0 (by exact f2) e0 (by exact e2) (by decide)) rfl (R_pickT (edT g33 rfl) rfl ?_))))
   exact ⟨(dec_andT g33),h3,h4,h5,h8,h12,h15,trivial⟩
  ·
   refine G_n (edF g33 rfl) (G_n (edF g33 rfl) (G_n (edF g33 rfl) (G_n (edF g33 rfl) (G_n (edF g33 rfl) (G_n (edF g33 rfl) (R_pickF (edF g33 rfl) rfl ?_))))))
   exact ⟨(dec_andF g33),h3,h4,h5,h8,h12,h15,trivial⟩
 intro T H ⟨t104,h3,h4,h5,h8,h12,h15,_⟩
 refine R_mv t104 ?_
 refine Ops_seg 2 (fun T H=>T 107=(V.bool (decide ((((((if dvE ((tst l o).1.t)=0 then sdW (acL ((tst l o).1.t).nd) else [])).length:Nat):Int)=((((if dvE l.t=0 then sdW (acL l.t.nd) else [])).length:Nat):Int)+((0:Int))∧(sdW (((if dvE l.t=0 then sdW (acL l.t.nd) else []))++((if dvE ((tst l o).1.t)=0 then sdW (acL ((tst l o).1.t).nd) else [])))).length=((if dvE ((tst l o).1.t)=0 then sdW (acL ((tst l o).1.t).nd) else [])).length)∧(((((if dvE ((rfR l o s).1.t)=0 then sdW (acL ((rfR l o s).1.t).nd) else [])).length:Nat):Int)=((((if dvE l.t=0 then sdW (acL l.t.nd) else [])).length:Nat):Int)+((0:Int))∧(sdW (((if dvE l.t=0 then sdW (acL l.t.nd) else []))++((if dvE ((rfR l o s).1.t)=0 then sdW (acL ((rfR l o s).1.t).nd) else [])))).length=((if dvE ((rfR l o s).1.t)=0 then sdW (acL ((rfR l o s).1.t).nd) else [])).length))))∧H 3=(bk 1 26 2 [[(iV (l.i)),(V.sl (List.map cN (l.t.nd)))]])∧H 4=(bk 1 29 2 [[(iV (o.i)),(V.sl (List.map cT (o.tr)))]])∧H 5=(bk 1 56 3 [[(ints s.p),(iV (s.a)),(ints s.x)]])∧H 8=(bk 1 26 2 [[(iV ((tst l o).1.i)),(V.sl (List.map cN ((tst l o).1.t.nd)))]])∧H 12=(bk 1 26 2 [[(iV ((rfR l o s).1.i)),(V.sl (List.map cN ((rfR l o s).1.t.nd)))]])∧H 15=(bk 1 48 5 [[(iV ((hyR l o).m.i)),(iV ((hyR l o).m.s)),(intss ((hyR l o).m.nx)),(intss ((hyR l o).m.ot)),(intss ((hyR l o).acc))]])∧True) ?_ ?_
 ·
  by_cases g34:(((((if dvE ((tst l o).1.t)=0 then sdW (acL ((tst l o).1.t).nd) else [])).length:Nat):Int)=((((if dvE l.t=0 then sdW (acL l.t.nd) else [])).length:Nat):Int)+((0:Int))∧(sdW (((if dvE l.t=0 then sdW (acL l.t.nd) else []))++((if dvE ((tst l o).1.t)=0 then sdW (acL ((tst l o).1.t).nd) else [])))).length=((if dvE ((tst l o).1.t)=0 then sdW (acL ((tst l o).1.t).nd) else [])).length)∧(((((if dvE ((rfR l o s).1.t)=0 then sdW (acL ((rfR l o s).1.t).nd) else [])).length:Nat):Int)=((((if dvE l.t=0 then sdW (acL l.t.nd) else [])).length:Nat):Int)+((0:Int))∧(sdW (((if dvE l.t=0 then sdW (acL l.t.nd) else []))++((if dvE ((rfR l o s).1.t)=0 then sdW (acL ((rfR l o s).1.t).nd) else [])))).length=((if dvE ((rfR l o s).1.t)=0 then sdW (acL ((rfR l o s).1.t).nd) else [])).length)
  ·
   refine G_yes (edT g34 rfl) (R_callk (aw_learnerlaw27_awake_pure) rfl (R_pickT (edT g34 rfl) rfl ?_))
   exact ⟨(dec_T g34),h3,h4,h5,h8,h12,h15,trivial⟩
  ·
   refine G_n (edF g34 rfl) (R_pickF (edF g34 rfl) rfl ?_)
   exact ⟨(dec_F g34),h3,h4,h5,h8,h12,h15,trivial⟩
 intro T H ⟨t107,h3,h4,h5,h8,h12,h15,_⟩
 refine R_mv t107 (R_e (W_ret ?_))
 refine Ret_1 (@rfl V (V.bool (decide ((((((if dvE ((tst l o).1.t)=0 then sdW (acL ((tst l o).1.t).nd) else [])).length:Nat):Int)=((((if dvE l.t=0 then sdW (acL l.t.nd) else [])).length:Nat):Int)+((0:Int))∧(sdW (((if dvE l.t=0 then sdW (acL l.t.nd) else []))++((if dvE ((tst l o).1.t)=0 then sdW (acL ((tst l o).1.t).nd) else [])))).length=((if dvE ((tst l o).1.t)=0 then sdW (acL ((tst l o).1.t).nd) else [])).length)∧(((((if dvE ((rfR l o s).1.t)=0 then sdW (acL ((rfR l o s).1.t).nd) else [])).length:Nat):Int)=((((if dvE l.t=0 then sdW (acL l.t.nd) else [])).length:Nat):Int)+((0:Int))∧(sdW (((if dvE l.t=0 then sdW (acL l.t.nd) else []))++((if dvE ((rfR l o s).1.t)=0 then sdW (acL ((rfR l o s).1.t).nd) else [])))).length=((if dvE ((rfR l o s).1.t)=0 then sdW (acL ((rfR l o s).1.t).nd) else [])).length))))) (fz_bool ?_)
 · unfold lvs mor at m1 m2
   simp [m1,m2]
end Go.Proofs.YtmnjchcoigbngabGreat
namespace Go.Proofs.YtmnjchcoigbngabGreat
open Go Go.Proofs Go.Proofs.YtmnjchcoigbngabGreat Go.ChangeShapes Go.WideShapes Go.ChangeAt Go.RowKit
structure UT (P:Program):Prop where
  u3:P.underlying 3=some (.int .i64)
  u22:P.underlying 22=some (.slice 99)
  u4:P.underlying 4=some (.bool)
  u54:P.underlying 54=some (.slice 3)
  u37:P.underlying 37=some (.slice 54)
  u99: ∃ f0 f1 f2 f3 f4:Field,P.underlying 99=some (.struct #[f0,f1,f2,f3,f4])∧f0.type=4∧f1.type=54∧f2.type=54∧f3.type=37∧f4.type=54
  u24: ∃ f0:Field,P.underlying 24=some (.struct #[f0])∧f0.type=22
  u26: ∃ f0 f1:Field,P.underlying 26=some (.struct #[f0,f1])∧f0.type=3∧f1.type=24
  u27:P.underlying 27=some (.slice 84)
  u84: ∃ f0 f1:Field,P.underlying 84=some (.struct #[f0,f1])∧f0.type=54∧f1.type=54
  u29: ∃ f0 f1:Field,P.underlying 29=some (.struct #[f0,f1])∧f0.type=3∧f1.type=27
  u56: ∃ f0 f1 f2:Field,P.underlying 56=some (.struct #[f0,f1,f2])∧f0.type=54∧f1.type=3∧f2.type=54
theorem sh3 {P:Program} (U:UT P) (n:Nat) (vs:List V) (h:Shp P (n+1) 3 vs): ∃ a:Int,vs=cI a:=shp_int U.u3 h
theorem sh4 {P:Program} (U:UT P) (n:Nat) (vs:List V) (h:Shp P (n+1) 4 vs): ∃ a:Bool,vs=(fun b=>[V.bool b]) a:=shp_bool U.u4 h
theorem sh54 {P:Program} (U:UT P) (n:Nat) (vs:List V) (h:Shp P (n+2) 54 vs): ∃ a:List Int,vs=cL a:=shp_slice (f:=cI) U.u54 (fun vs h=>sh3 U n vs h) h
theorem sh37 {P:Program} (U:UT P) (n:Nat) (vs:List V) (h:Shp P (n+3) 37 vs): ∃ a:List (List Int),vs=(fun l=>[V.sl (List.map cL l)]) a:=shp_slice (f:=cL) U.u37 (fun vs h=>sh54 U n vs h) h
theorem sh99 {P:Program} (U:UT P) (n:Nat) (vs:List V) (h:Shp P (n+4) 99 vs): ∃ a:Nd,vs=cN a:=by
  obtain ⟨f0,f1,f2,f3,f4,hu,k0,k1,k2,k3,k4⟩:=U.u99
  have h0:=shp_step hu h
  obtain ⟨x0,u0,e0,h1⟩:=shpL_cons (c:=(fun b=>[V.bool b])) (fun vs h=>sh4 U (n+2) vs (by rw [k0] at h; exact h)) h0
  obtain ⟨x1,u1,e1,h2⟩:=shpL_cons (c:=cL) (fun vs h=>sh54 U (n+1) vs (by rw [k1] at h; exact h)) h1
  obtain ⟨x2,u2,e2,h3⟩:=shpL_cons (c:=cL) (fun vs h=>sh54 U (n+1) vs (by rw [k2] at h; exact h)) h2
  obtain ⟨x3,u3,e3,h4⟩:=shpL_cons (c:=(fun l=>[V.sl (List.map cL l)])) (fun vs h=>sh37 U (n+0) vs (by rw [k3] at h; exact h)) h3
  obtain ⟨x4,u4,e4,h5⟩:=shpL_cons (c:=cL) (fun vs h=>sh54 U (n+1) vs (by rw [k4] at h; exact h)) h4
  have e5:=shpL_nil h5
  exact ⟨⟨x0,x1,x2,x3,x4⟩,by rw [e0,e1,e2,e3,e4,e5]; rfl⟩
theorem sh22 {P:Program} (U:UT P) (n:Nat) (vs:List V) (h:Shp P (n+5) 22 vs): ∃ a:List Nd,vs=(fun l=>[V.sl (List.map cN l)]) a:=shp_slice (f:=cN) U.u22 (fun vs h=>sh99 U n vs h) h
theorem sh24 {P:Program} (U:UT P) (n:Nat) (vs:List V) (h:Shp P (n+6) 24 vs): ∃ a:Dt,vs=cD a:=by
  obtain ⟨f0,hu,k0⟩:=U.u24
  have h0:=shp_step hu h
  obtain ⟨x0,u0,e0,h1⟩:=shpL_cons (c:=(fun l=>[V.sl (List.map cN l)])) (fun vs h=>sh22 U (n+0) vs (by rw [k0] at h; exact h)) h0
  have e1:=shpL_nil h1
  exact ⟨⟨x0⟩,by rw [e0,e1]; rfl⟩
theorem sh26 {P:Program} (U:UT P) (n:Nat) (vs:List V) (h:Shp P (n+7) 26 vs): ∃ a:Ts,vs=cTs a:=by
  obtain ⟨f0,f1,hu,k0,k1⟩:=U.u26
  have h0:=shp_step hu h
  obtain ⟨x0,u0,e0,h1⟩:=shpL_cons (c:=cI) (fun vs h=>sh3 U (n+5) vs (by rw [k0] at h; exact h)) h0
  obtain ⟨x1,u1,e1,h2⟩:=shpL_cons (c:=cD) (fun vs h=>sh24 U (n+0) vs (by rw [k1] at h; exact h)) h1
  have e2:=shpL_nil h2
  exact ⟨⟨x0,x1⟩,by rw [e0,e1,e2]; rfl⟩
theorem sh84 {P:Program} (U:UT P) (n:Nat) (vs:List V) (h:Shp P (n+3) 84 vs): ∃ a:Tr,vs=cT a:=by
  obtain ⟨f0,f1,hu,k0,k1⟩:=U.u84
  have h0:=shp_step hu h
  obtain ⟨x0,u0,e0,h1⟩:=shpL_cons (c:=cL) (fun vs h=>sh54 U (n+0) vs (by rw [k0] at h; exact h)) h0
  obtain ⟨x1,u1,e1,h2⟩:=shpL_cons (c:=cL) (fun vs h=>sh54 U (n+0) vs (by rw [k1] at h; exact h)) h1
  have e2:=shpL_nil h2
  exact ⟨⟨x0,x1⟩,by rw [e0,e1,e2]; rfl⟩
theorem sh27 {P:Program} (U:UT P) (n:Nat) (vs:List V) (h:Shp P (n+4) 27 vs): ∃ a:List Tr,vs=(fun l=>[V.sl (List.map cT l)]) a:=shp_slice (f:=cT) U.u27 (fun vs h=>sh84 U n vs h) h
theorem sh29 {P:Program} (U:UT P) (n:Nat) (vs:List V) (h:Shp P (n+5) 29 vs): ∃ a:Ob,vs=oC a:=by
  obtain ⟨f0,f1,hu,k0,k1⟩:=U.u29
  have h0:=shp_step hu h
  obtain ⟨x0,u0,e0,h1⟩:=shpL_cons (c:=cI) (fun vs h=>sh3 U (n+3) vs (by rw [k0] at h; exact h)) h0
  obtain ⟨x1,u1,e1,h2⟩:=shpL_cons (c:=(fun l=>[V.sl (List.map cT l)])) (fun vs h=>sh27 U (n+0) vs (by rw [k1] at h; exact h)) h1
  have e2:=shpL_nil h2
  exact ⟨⟨x0,x1⟩,by rw [e0,e1,e2]; rfl⟩
theorem sh56 {P:Program} (U:UT P) (n:Nat) (vs:List V) (h:Shp P (n+3) 56 vs): ∃ a:Spl,vs=cSpl a:=by
  obtain ⟨f0,f1,f2,hu,k0,k1,k2⟩:=U.u56
  have h0:=shp_step hu h
  obtain ⟨x0,u0,e0,h1⟩:=shpL_cons (c:=cL) (fun vs h=>sh54 U (n+0) vs (by rw [k0] at h; exact h)) h0
  obtain ⟨x1,u1,e1,h2⟩:=shpL_cons (c:=cI) (fun vs h=>sh3 U (n+1) vs (by rw [k1] at h; exact h)) h1
  obtain ⟨x2,u2,e2,h3⟩:=shpL_cons (c:=cL) (fun vs h=>sh54 U (n+0) vs (by rw [k2] at h; exact h)) h2
  have e3:=shpL_nil h3
  exact ⟨⟨x0,x1,x2⟩,by rw [e0,e1,e2,e3]; rfl⟩
theorem ut:UT Tryz.prog:=⟨by kernel_rfl,by kernel_rfl,by kernel_rfl,by kernel_rfl,by kernel_rfl,⟨_,_,_,_,_,Tryz.underlying99,rfl,rfl,rfl,rfl,rfl⟩,⟨_,Tryz.underlying24,rfl⟩,⟨_,_,Tryz.underlying26,rfl,rfl⟩,by kernel_rfl,⟨_,_,Tryz.underlying84,rfl,rfl⟩,⟨_,_,Tryz.underlying29,rfl,rfl⟩,⟨_,_,_,Tryz.underlying56,rfl,rfl,rfl⟩⟩
theorem args6 {P:Program} (U:UT P) {us:List V} (h:ShpA P 8 [26,29,56] us): ∃ (d0:Ts) (d1:Ob) (d2:Spl),us=[V.agg (cTs d0),V.agg (oC d1),V.agg (cSpl d2)]:=by
  obtain ⟨a0,b0,e0,h0,h⟩:=shpA_cons h
  obtain ⟨d0,g0⟩:=sh26 U 1 a0 h0
  have q0:packV P 26 a0=V.agg (cTs d0):=by obtain ⟨_,_,hu,_⟩:=U.u26; rw [g0]; exact pack_struct hu _
  obtain ⟨a1,b1,e1,h1,h⟩:=shpA_cons h
  obtain ⟨d1,g1⟩:=sh29 U 3 a1 h1
  have q1:packV P 29 a1=V.agg (oC d1):=by obtain ⟨_,_,hu,_⟩:=U.u29; rw [g1]; exact pack_struct hu _
  obtain ⟨a2,b2,e2,h2,h⟩:=shpA_cons h
  obtain ⟨d2,g2⟩:=sh56 U 5 a2 h2
  have q2:packV P 56 a2=V.agg (cSpl d2):=by obtain ⟨_,_,_,hu,_⟩:=U.u56; rw [g2]; exact pack_struct hu _
  have e3:=shpA_nil h
  exact ⟨d0,d1,d2,by rw [e0,q0,e1,q1,e2,q2,e3]⟩
theorem own6:ownKnob Tryz.prog.godebug=none:=by kernel_rfl
set_option maxRecDepth 100000 in
theorem lifted6 (os:Os) (started:os.Started) (H:Type) (enc:TypeId×Value→H):
    ReturnsInHanded {} Tryz.checked os 6 .any (Rows.treelearnGrowsSpec.pre6 enc Tryz.prog Tryz.f6 Rows.treelearnGrowsRow.domain false) (Rows.treelearnGrowsSpec.post enc Tryz.prog Tryz.f6 false true false false):=by
  refine returnsInHanded_of_change (C:=Tryz.checked) own6 started (by kernel_rfl) Tryz.func6
    (ChangeSpec.witness6 (enc:=enc) (C:=Tryz.checked) false ⟨#[],#[.agg #[.int .i64 0,.slice none 0 0],.agg #[.int .i64 0,.slice none 0 0],.agg #[.slice none 0 0,.int .i64 0,.slice none 0 0]],[]⟩ 8 (by kernel_rfl) (by kernel_rfl) (by kernel_rfl) (by kernel_rfl)) ?_
  intro W base args ds gs before hval0 hW hcnd _
  refine law_post (n:=8) (tb:=4) (by kernel_rfl) (by kernel_rfl) (by kernel_rfl) (fun t ht=>?_) rfl ?_ (fun us hu=>?_) hval0 hW
  · have h:t∈[26,29,56]:=ht
    simp only [List.mem_cons,List.not_mem_nil,or_false] at h
    rcases h with rfl|rfl|rfl
    · exact ⟨by kernel_rfl,by kernel_rfl,of_decide_eq_true (by kernel_rfl)⟩
    · exact ⟨by kernel_rfl,by kernel_rfl,of_decide_eq_true (by kernel_rfl)⟩
    · exact ⟨by kernel_rfl,by kernel_rfl,of_decide_eq_true (by kernel_rfl)⟩
  · obtain ⟨p,q,hA,hV,rfl,hfz,hnd⟩:=hW
    obtain ⟨rfl,rfl⟩:=trodVars_none hV
    change DataW.TrodAll enc Tryz.prog W 0 (fun _=>true) true [26,29,56] args.toList ds p at hA
    obtain ⟨v0,vs0,y0,ds0,pa0,pb0,hv0,rfl,rfl,_,hA⟩:=trodAll_cons hA
    obtain ⟨v1,vs1,y1,ds1,pa1,pb1,hv1,rfl,rfl,_,hA⟩:=trodAll_cons hA
    obtain ⟨v2,vs2,y2,ds2,pa2,pb2,hv2,rfl,rfl,_,hA⟩:=trodAll_cons hA
    obtain ⟨_,rfl,rfl⟩:=trodAll_nil hA
    rfl
  · obtain ⟨d0,d1,d2,rfl⟩:=args6 ut hu
    exact law6_pure d0 d1 d2
theorem proved6:Rows.TreelearnGrowsSaid:=
  OpenClaim.holds_of_wide 6 Tryz.f6 rfl rfl rfl rfl rfl rfl rfl ⟨rfl,rfl,rfl,rfl,rfl⟩ rfl rfl rfl rfl rfl (by kernel_rfl) Tryz.func6 (by kernel_rfl)
    (of_decide_eq_true (by kernel_rfl)) (by unfold Func.isWrapper; first|(rw [if_pos (by decide+kernel)]; kernel_rfl)|(rw [if_neg (by decide+kernel)]; exact ⟨rfl,rfl⟩))
    (fun os started H enc _=>lifted6 os started H enc)
end Go.Proofs.YtmnjchcoigbngabGreat
