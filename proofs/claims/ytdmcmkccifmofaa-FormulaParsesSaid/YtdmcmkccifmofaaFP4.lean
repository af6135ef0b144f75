/- Contracts of the functions that the law FP reaches, and the law itself, for every input; no condition. -/
import Derived.KernelRfl
import Derived.Test.YtdmcmkccifmofaaProg
import Derived.Test.YtdmcmkccifmofaaRows
import Derived.Test.YtdmcmkccifmofaaFP3
set_option linter.unusedSimpArgs false
set_option linter.unusedVariables false
namespace Go.Proofs.Ytdmcmkccifmofaa
open Go Go.Proofs
theorem rdisj_step (v:Nat) (e:PE) (s:RS) (hs:OkR e s) (k:Nat) (hkb:k≤4294967296) (rihC: ∀ (s:RS) (f:Fm) (s1:RS),OkR e s→rF e k .conj s=some (f,s1)→LocC Try.prog 82 1 [.mp 0 v 0 0] (hpB (bk v 85 7 [rCells e s])) (.ok (fmV f) (hpB (bk v 85 7 [rCells e s1])))) (fr:Fm) (sr:RS) (h:rF e (k+1) .disj s=some (fr,sr)):LocC Try.prog 65 1 [(V.mp 0 v 0 0)] (hpB (bk v 85 7 [[(V.sl (List.map cS (e.ia))),(V.sl (List.map cS (e.oa))),(V.str e.src),(iV ((s.pos:Nat):Int)),(iV (s.dep)),(iV (s.er)),(iV ((s.wh:Nat):Int))]])) (.ok (fmV fr) (hpB (bk v 85 7 [rCells e sr]))):=by
 refine lW (k0:=0) Try.func65 s65_ok fun hB=>?_
 unfold s65
 dsimp only
 have hlen:=hs.len
 have hpos:=hs.pos
 have hd0:=hs.d0
 have hd1:=hs.d1
 have hd2:=hs.d2
 refine W_r (R_alloc (i:=2) (n:=0) (m:=3) rfl (congrArg Blk.ver rfl) rfl (R_e (W_seq_seq (W_r (R_mv rfl (R_e (W_seq_seq ?_)))))))
 rcases hx:rF e k .conj s with _|⟨f1,s1⟩
 ·
  exfalso; rw [rF,rSev,hx] at h; cases h
 ·
  obtain ⟨ks1,ks1d⟩:=rF_keeps e k .conj _ _ _ hs (fun q=>by cases q) hx
  have hfin:rFin 6 (rMore e [124] (rF e k .conj) k [f1] s1)=some (fr,sr):=by rw [rF,rSev,hx] at h; exact h
  refine pop_ok (i:=0) (rihC _ _ _ hs hx) (evcons (@rfl V (V.mp 0 v 0 0)) evnil) rfl (@rfl Blk (bk v 85 7 [[(V.sl (List.map cS (e.ia))),(V.sl (List.map cS (e.oa))),(V.str e.src),(iV ((s.pos:Nat):Int)),(iV (s.dep)),(iV (s.er)),(iV ((s.wh:Nat):Int))]])) rfl rfl (fork_ (R:=fun T H=>T 0=(V.mp 0 v 0 0)∧T 2=(V.mp 2 1 0 0)∧T 4=(V.mp 0 v 0 0)∧T 5=(V.agg [(iV (f1.op)),(iV (f1.arg)),(V.sl (List.map cF (f1.kids)))])∧H 0=(bk v 85 7 [[(V.sl (List.map cS (e.ia))),(V.sl (List.map cS (e.oa))),(V.str e.src),(iV ((s1.pos:Nat):Int)),(iV (s1.dep)),(iV (s1.er)),(iV ((s1.wh:Nat):Int))]])∧H 2=(bk 1 24 3 [[(iV (0:Int)),(iV (0:Int)),V.nilsl]])∧H 6=(⟨0,false,false,0,0,[]⟩:Blk)∧True) ⟨(@rfl V (V.mp 0 v 0 0)),(@rfl V (V.mp 2 1 0 0)),(@rfl V (V.mp 0 v 0 0)),(@rfl V (V.agg [(iV (f1.op)),(iV (f1.arg)),(V.sl (List.map cF (f1.kids)))])),rfl,rfl,rfl,trivial⟩ ?_)
  intro T H ⟨t0,t2,t4,t5,h0,h2,h6,_⟩
  refine W_r (R_bslice_own (i:=6) (n:=0) (qs:=[(0,(V.agg [(iV (f1.op)),(iV (f1.arg)),(V.sl (List.map cF (f1.kids)))]))]) (rows:=[[(iV (f1.op)),(iV (f1.arg)),(V.sl (List.map cF (f1.kids)))]]) rfl (congrArg Blk.ver h6) (mcons (congrArg (fun v=>(0,v)) t5) rfl) rfl (R_mv rfl (R_e (W_seq_blockgP fun Q1 n1 x1 y1 z1 w1=>?_))))
  refine W_loopP (fun mm T H=> ∃ (l:List Fm) (s2:RS) (n:Nat) (w:Nat),mm=n∧T 0=(V.mp 0 v 0 0)∧T 2=(V.mp 2 1 0 0)∧T 3=(V.ms 6 w 0 (l.length))∧H 0=(bk v 85 7 [[(V.sl (List.map cS (e.ia))),(V.sl (List.map cS (e.oa))),(V.str e.src),(iV ((s2.pos:Nat):Int)),(iV (s2.dep)),(iV (s2.er)),(iV ((s2.wh:Nat):Int))]])∧H 2=(bk 1 24 3 [[(iV (0:Int)),(iV (0:Int)),V.nilsl]])∧H 6=(bk w 24 3 (List.map cF (l)))∧(OkR e s2)∧(l.length+n≤1+k)∧(rFin 6 (rMore e [124] (rF e k .conj) n l s2)=some (fr,sr))) ?_ ?_
  ·
   refine ⟨_,[f1],s1,k,1,rfl,t0,t2,(Eq.trans (@rfl V (V.ms 6 1 0 (1))) (by rfl)),h0,h2,(Eq.trans (@rfl Blk (bk 1 24 3 [[(iV (f1.op)),(iV (f1.arg)),(V.sl (List.map cF (f1.kids)))]])) (by (simp [cF_eq]; done))),?_,?_,?_⟩
   · exact ks1
   · first|(simp; done)|(simp; omega)
   · exact hfin
  intro mm T H ⟨l,s2,n,w,hmm,t0,t2,t3,h0,h2,h6,ks2,hlb,hc⟩ Q2 p12 p22 p32 p42
  unfold b65_0
  obtain ⟨n0,hn⟩: ∃ n0,n=n0+1:=by
    cases n with
    |zero=>cases hc
    |succ m=>exact ⟨m,rfl⟩
  refine W_seq_seq (W_seq_seq (W_r (R_mv t0 (R_e (W_seq_seq ?_)))))
  rcases hs3:rTake e [124] s2 with ⟨b,s3⟩
  obtain ⟨ks3,ks3d,ks3b,ks3e⟩:=rTake_inv ks2 hs3
  refine pop_ok (i:=0) (by have q:=rtake_loc v e s2 ks2 [124] (by simp); rw [hs3] at q; exact q) (evcons (@rfl V (V.mp 0 v 0 0)) (evcons (@rfl V (V.str ([124]))) evnil)) rfl h0 rfl rfl (fork_ (R:=fun T H=>T 0=(V.mp 0 v 0 0)∧T 2=(V.mp 2 1 0 0)∧T 3=(V.ms 6 w 0 (l.length))∧T 7=(V.mp 0 v 0 0)∧T 8=(V.bool b)∧H 0=(bk v 85 7 [[(V.sl (List.map cS (e.ia))),(V.sl (List.map cS (e.oa))),(V.str e.src),(iV ((s3.pos:Nat):Int)),(iV (s3.dep)),(iV (s3.er)),(iV ((s3.wh:Nat):Int))]])∧H 2=(bk 1 24 3 [[(iV (0:Int)),(iV (0:Int)),V.nilsl]])∧H 6=(bk w 24 3 (List.map cF (l)))∧True) ⟨t0,t2,t3,(@rfl V (V.mp 0 v 0 0)),(@rfl V (V.bool b)),rfl,h2,h6,trivial⟩ ?_)
  intro T H ⟨t0,t2,t3,t7,t8,h0,h2,h6,_⟩
  refine W_reg0 ?_
  refine W_seq_ifb t8 (fun c3=>?_) (fun c3=>?_)
  ·
   have d1:b=true:=c3
   refine W_seq_skip (W_blockP fun Q4 n4 x4 y4 z4 w4=>(W_r (R_mv t3 (R_mv t0 (R_e ?_)))))
   rcases hx3:rF e k .conj s3 with _|⟨f3,s4⟩
   ·
    exfalso; subst d1; rw [hn] at hc; simp only [rMore,hs3,hx3,rFin] at hc; cases hc
   ·
    obtain ⟨ks4,ks4d⟩:=rF_keeps e k .conj _ _ _ ks3 (fun q=>by cases q) hx3
    refine pop_ok (i:=0) (rihC _ _ _ ks3 hx3) (evcons (@rfl V (V.mp 0 v 0 0)) evnil) rfl h0 rfl rfl (fork_ (R:=fun T H=>T 0=(V.mp 0 v 0 0)∧T 2=(V.mp 2 1 0 0)∧T 9=(V.ms 6 w 0 (l.length))∧T 10=(V.mp 0 v 0 0)∧T 11=(V.agg [(iV (f3.op)),(iV (f3.arg)),(V.sl (List.map cF (f3.kids)))])∧H 0=(bk v 85 7 [[(V.sl (List.map cS (e.ia))),(V.sl (List.map cS (e.oa))),(V.str e.src),(iV ((s4.pos:Nat):Int)),(iV (s4.dep)),(iV (s4.er)),(iV ((s4.wh:Nat):Int))]])∧H 2=(bk 1 24 3 [[(iV (0:Int)),(iV (0:Int)),V.nilsl]])∧H 6=(bk w 24 3 (List.map cF (l)))∧True) ⟨t0,t2,(@rfl V (V.ms 6 w 0 (l.length))),(@rfl V (V.mp 0 v 0 0)),(@rfl V (V.agg [(iV (f3.op)),(iV (f3.arg)),(V.sl (List.map cF (f3.kids)))])),rfl,h2,h6,trivial⟩ ?_)
    intro T H ⟨t0,t2,t9,t10,t11,h0,h2,h6,_⟩
    refine W_t (R_bslice (mcons (congrArg (fun v=>(0,v)) t11) rfl) rfl (R_append1 (l:=l) (f:=cF) (x:=f3) t9 h6 (by rfl) (row_F1 (x:=f3) (@rfl V (V.sl [[(iV (f3.op)),(iV (f3.arg)),(V.sl (List.map cF (f3.kids)))]]))) (cF_len _) (cF_one _) (by omega) (by omega) (R_mv rfl (R_e (n4 _ _ ?_)))))
    refine p12 _ _ _ ?_ ⟨(l++[f3]),s4,n0,(w+1),rfl,t0,t2,(Eq.trans (@rfl V (V.ms 6 (w+1) 0 (l.length+1))) (by simp)),h0,h2,(Eq.trans (@rfl Blk (bk (w+1) 24 3 (List.map cF (l++[f3])))) (by rfl)),?_,?_,?_⟩
    · omega
    · exact ks4
    · first|(simp; done)|(simp; omega)
    · subst d1; rw [hn] at hc; simpa only [rMore,hs3,hx3] using hc
  have d1:b=false:=c3
  have hr:(oneOr 6 l,s3)=(fr,sr):=by subst d1; rw [hn] at hc; simp only [rMore,hs3,rFin] at hc; injection hc
  refine W_seq_exit (p32 _ _ _ (x1 _ _ ?_))
  refine .freeze 6 (.done ?_)
  refine fork_ (R:=fun T H=>T 0=(V.mp 0 v 0 0)∧T 2=(V.mp 2 1 0 0)∧T 3=(V.sl (List.map cF (l)))∧T 7=(V.mp 0 v 0 0)∧T 8=(V.bool b)∧H 0=(bk v 85 7 [[(V.sl (List.map cS (e.ia))),(V.sl (List.map cS (e.oa))),(V.str e.src),(iV ((s3.pos:Nat):Int)),(iV (s3.dep)),(iV (s3.er)),(iV ((s3.wh:Nat):Int))]])∧H 2=(bk 1 24 3 [[(iV (0:Int)),(iV (0:Int)),V.nilsl]])∧((H 6).ver=w∧(H 6).live=false)∧True) ⟨(fzT_q t0 rfl),(fzT_q t2 rfl),(fzT_q t3 (fzq_own h6 (by simp) (l:=l) rfl (by rfl))),(fzT_q t7 rfl),(fzT_q t8 rfl),(kill_ne h0 (by decide)),(kill_ne h2 (by decide)),(kill_self (congrArg Blk.ver h6)),trivial⟩ ?_
  intro T H ⟨t0,t2,t3,t7,t8,h0,h2,h6,_⟩
  refine W_seq_seq (W_r (R_mv t3 (R_len rfl (R_eql rfl rfl (R_e ?_)))))
  refine W_seq_if rfl (fun c5=>?_) fun c5=>?_
  ·
   refine W_seq_seq (W_r (R_mv t3 (R_idxu (i:=0) (@rfl V (V.sl (List.map cF (l)))) (@rfl V (iV ((0:Nat):Int))) (by omega) (cF_eq _) rfl (R_load_pp rfl rfl (R_sk t2 rfl rfl h2 rfl rfl rfl rfl rfl (R_e (W_seq_ret ?_)))))))
   refine RetL_ok (v:=(V.agg [(iV (((nth (l) (0))).op)),(iV (((nth (l) (0))).arg)),(V.sl (List.map cF (((nth (l) (0))).kids)))])) (b:=(bk v 85 7 [[(V.sl (List.map cS (e.ia))),(V.sl (List.map cS (e.oa))),(V.str e.src),(iV ((s3.pos:Nat):Int)),(iV (s3.dep)),(iV (s3.er)),(iV ((s3.wh:Nat):Int))]])) (resT1 (resV_c (u:=(V.agg [(iV (((nth (l) (0))).op)),(iV (((nth (l) (0))).arg)),(V.sl (List.map cF (((nth (l) (0))).kids)))])) t2 (@rfl Blk (bk 1 24 3 [[(iV (((nth (l) (0))).op)),(iV (((nth (l) (0))).arg)),(V.sl (List.map cF (((nth (l) (0))).kids)))]])) (lB oB rfl rfl))) ?_ (by simp) (.same (cut_fin 1 _) _) h0 (by simp [locB,loc0])
   injection hr with hr1 hr2; subst hr1; subst hr2; unfold oneOr; rw [if_pos (by omega)]; rfl
  refine W_seq_skip (W_r (R_mv t3 (R_build rfl rfl (R_sk t2 rfl rfl h2 rfl rfl rfl rfl rfl (R_e (W_ret ?_))))))
  refine RetL_ok (v:=(V.agg [(iV (6:Int)),(iV (0:Int)),(V.sl (List.map cF (l)))])) (b:=(bk v 85 7 [[(V.sl (List.map cS (e.ia))),(V.sl (List.map cS (e.oa))),(V.str e.src),(iV ((s3.pos:Nat):Int)),(iV (s3.dep)),(iV (s3.er)),(iV ((s3.wh:Nat):Int))]])) (resT1 (resV_c (u:=(V.agg [(iV (6:Int)),(iV (0:Int)),(V.sl (List.map cF (l)))])) t2 (@rfl Blk (bk 1 24 3 [[(iV (6:Int)),(iV (0:Int)),(V.sl (List.map cF (l)))]])) (lB oB rfl rfl))) ?_ (by simp) (.same (cut_fin 1 _) _) h0 (by simp [locB,loc0])
  injection hr with hr1 hr2; subst hr1; subst hr2; unfold oneOr; rw [if_neg (by omega)]; rfl
def b82_0:SC:=.seq (.seq (.seq (.reg [qM 7 0]) (.seq (.pop (some 8) (.call 66 [.t 7,.c (.str [38])])) (.reg []))) (.cond (.t 8) (.skip) (.exit 0))) (.block 1 (.seq (.reg [qM 9 3,qM 10 0]) (.seq (.pop (some 11) (.call 93 [.t 10])) (.reg [sO 12 (.bslice 24 3 false [.int .i64 0,.int .i64 0,.nilsl] 1 [(0,.t 11)]),sO 13 (.append 24 3 40 (.t 9) (.t 12)),qM 3 13]))))
def s82:SF:=⟨22,[.cell 2 true 3],.seq (.reg [sO 2 (.alloc 24 [.int .i64 0,.int .i64 0,.nilsl])]) (.seq (.seq (.reg [qM 4 0]) (.seq (.pop (some 5) (.call 93 [.t 4])) (.reg [sO 6 (.bslice 24 3 true [.int .i64 0,.int .i64 0,.nilsl] 1 [(0,.t 5)]),qM 3 6]))) (.seq (.block 0 (.loop b82_0)) (.seq (.seq (.reg [qM 14 3,qN 15 14,qC 16 .eql 15 1]) (.cond (.t 16) (.seq (.reg [qM 17 3,sO 18 (.idx 3 (.t 17) (.c (.int .i64 0))),qL 19 3 18,sN (.store 3 (.t 2) (.t 19))]) (.ret)) (.skip))) (.seq (.reg [qM 20 3,sO 21 (.build [.int .i64 0,.int .i64 0,.nilsl] [(0,1,.c (.int .i64 5)),(2,1,.t 20)]),sN (.store 3 (.t 2) (.t 21))]) (.ret)))))⟩
theorem s82_ok:slimF Try.prog ⟨[31,36,37,38,40,41,42,44,45,59,60,61,65,66,67,71,72,73,81,82,84,92,93,98,99,102,104],[6],[36,37,38,40,41,42,59,60,61,65,66,67,81,82,92,93,98,99,102,104],[]⟩ Try.f82=some s82:=by kernel_rfl
theorem rconj_step (v:Nat) (e:PE) (s:RS) (hs:OkR e s) (k:Nat) (hkb:k≤4294967296) (rihB: ∀ (s:RS) (f:Fm) (s1:RS),OkR e s→rF e k .bin s=some (f,s1)→LocC Try.prog 93 1 [.mp 0 v 0 0] (hpB (bk v 85 7 [rCells e s])) (.ok (fmV f) (hpB (bk v 85 7 [rCells e s1])))) (fr:Fm) (sr:RS) (h:rF e (k+1) .conj s=some (fr,sr)):LocC Try.prog 82 1 [(V.mp 0 v 0 0)] (hpB (bk v 85 7 [[(V.sl (List.map cS (e.ia))),(V.sl (List.map cS (e.oa))),(V.str e.src),(iV ((s.pos:Nat):Int)),(iV (s.dep)),(iV (s.er)),(iV ((s.wh:Nat):Int))]])) (.ok (fmV fr) (hpB (bk v 85 7 [rCells e sr]))):=by
 refine lW (k0:=0) Try.func82 s82_ok fun hB=>?_
 unfold s82
 dsimp only
 have hlen:=hs.len
 have hpos:=hs.pos
 have hd0:=hs.d0
 have hd1:=hs.d1
 have hd2:=hs.d2
 refine W_r (R_alloc (i:=2) (n:=0) (m:=3) rfl (congrArg Blk.ver rfl) rfl (R_e (W_seq_seq (W_r (R_mv rfl (R_e (W_seq_seq ?_)))))))
 rcases hx:rF e k .bin s with _|⟨f1,s1⟩
 ·
  exfalso; rw [rF,rSev,hx] at h; cases h
 ·
  obtain ⟨ks1,ks1d⟩:=rF_keeps e k .bin _ _ _ hs (fun q=>by cases q) hx
  have hfin:rFin 5 (rMore e [38] (rF e k .bin) k [f1] s1)=some (fr,sr):=by rw [rF,rSev,hx] at h; exact h
  refine pop_ok (i:=0) (rihB _ _ _ hs hx) (evcons (@rfl V (V.mp 0 v 0 0)) evnil) rfl (@rfl Blk (bk v 85 7 [[(V.sl (List.map cS (e.ia))),(V.sl (List.map cS (e.oa))),(V.str e.src),(iV ((s.pos:Nat):Int)),(iV (s.dep)),(iV (s.er)),(iV ((s.wh:Nat):Int))]])) rfl rfl (fork_ (R:=fun T H=>T 0=(V.mp 0 v 0 0)∧T 2=(V.mp 2 1 0 0)∧T 4=(V.mp 0 v 0 0)∧T 5=(V.agg [(iV (f1.op)),(iV (f1.arg)),(V.sl (List.map cF (f1.kids)))])∧H 0=(bk v 85 7 [[(V.sl (List.map cS (e.ia))),(V.sl (List.map cS (e.oa))),(V.str e.src),(iV ((s1.pos:Nat):Int)),(iV (s1.dep)),(iV (s1.er)),(iV ((s1.wh:Nat):Int))]])∧H 2=(bk 1 24 3 [[(iV (0:Int)),(iV (0:Int)),V.nilsl]])∧H 6=(⟨0,false,false,0,0,[]⟩:Blk)∧True) ⟨(@rfl V (V.mp 0 v 0 0)),(@rfl V (V.mp 2 1 0 0)),(@rfl V (V.mp 0 v 0 0)),(@rfl V (V.agg [(iV (f1.op)),(iV (f1.arg)),(V.sl (List.map cF (f1.kids)))])),rfl,rfl,rfl,trivial⟩ ?_)
  intro T H ⟨t0,t2,t4,t5,h0,h2,h6,_⟩
  refine W_r (R_bslice_own (i:=6) (n:=0) (qs:=[(0,(V.agg [(iV (f1.op)),(iV (f1.arg)),(V.sl (List.map cF (f1.kids)))]))]) (rows:=[[(iV (f1.op)),(iV (f1.arg)),(V.sl (List.map cF (f1.kids)))]]) rfl (congrArg Blk.ver h6) (mcons (congrArg (fun v=>(0,v)) t5) rfl) rfl (R_mv rfl (R_e (W_seq_blockgP fun Q1 n1 x1 y1 z1 w1=>?_))))
  refine W_loopP (fun mm T H=> ∃ (l:List Fm) (s2:RS) (n:Nat) (w:Nat),mm=n∧T 0=(V.mp 0 v 0 0)∧T 2=(V.mp 2 1 0 0)∧T 3=(V.ms 6 w 0 (l.length))∧H 0=(bk v 85 7 [[(V.sl (List.map cS (e.ia))),(V.sl (List.map cS (e.oa))),(V.str e.src),(iV ((s2.pos:Nat):Int)),(iV (s2.dep)),(iV (s2.er)),(iV ((s2.wh:Nat):Int))]])∧H 2=(bk 1 24 3 [[(iV (0:Int)),(iV (0:Int)),V.nilsl]])∧H 6=(bk w 24 3 (List.map cF (l)))∧(OkR e s2)∧(l.length+n≤1+k)∧(rFin 5 (rMore e [38] (rF e k .bin) n l s2)=some (fr,sr))) ?_ ?_
  ·
   refine ⟨_,[f1],s1,k,1,rfl,t0,t2,(Eq.trans (@rfl V (V.ms 6 1 0 (1))) (by rfl)),h0,h2,(Eq.trans (@rfl Blk (bk 1 24 3 [[(iV (f1.op)),(iV (f1.arg)),(V.sl (List.map cF (f1.kids)))]])) (by (simp [cF_eq]; done))),?_,?_,?_⟩
   · exact ks1
   · first|(simp; done)|(simp; omega)
   · exact hfin
  intro mm T H ⟨l,s2,n,w,hmm,t0,t2,t3,h0,h2,h6,ks2,hlb,hc⟩ Q2 p12 p22 p32 p42
  unfold b82_0
  obtain ⟨n0,hn⟩: ∃ n0,n=n0+1:=by
    cases n with
    |zero=>cases hc
    |succ m=>exact ⟨m,rfl⟩
  refine W_seq_seq (W_seq_seq (W_r (R_mv t0 (R_e (W_seq_seq ?_)))))
  rcases hs3:rTake e [38] s2 with ⟨b,s3⟩
  obtain ⟨ks3,ks3d,ks3b,ks3e⟩:=rTake_inv ks2 hs3
  refine pop_ok (i:=0) (by have q:=rtake_loc v e s2 ks2 [38] (by simp); rw [hs3] at q; exact q) (evcons (@rfl V (V.mp 0 v 0 0)) (evcons (@rfl V (V.str ([38]))) evnil)) rfl h0 rfl rfl (fork_ (R:=fun T H=>T 0=(V.mp 0 v 0 0)∧T 2=(V.mp 2 1 0 0)∧T 3=(V.ms 6 w 0 (l.length))∧T 7=(V.mp 0 v 0 0)∧T 8=(V.bool b)∧H 0=(bk v 85 7 [[(V.sl (List.map cS (e.ia))),(V.sl (List.map cS (e.oa))),(V.str e.src),(iV ((s3.pos:Nat):Int)),(iV (s3.dep)),(iV (s3.er)),(iV ((s3.wh:Nat):Int))]])∧H 2=(bk 1 24 3 [[(iV (0:Int)),(iV (0:Int)),V.nilsl]])∧H 6=(bk w 24 3 (List.map cF (l)))∧True) ⟨t0,t2,t3,(@rfl V (V.mp 0 v 0 0)),(@rfl V (V.bool b)),rfl,h2,h6,trivial⟩ ?_)
  intro T H ⟨t0,t2,t3,t7,t8,h0,h2,h6,_⟩
  refine W_reg0 ?_
  refine W_seq_ifb t8 (fun c3=>?_) (fun c3=>?_)
  ·
   have d1:b=true:=c3
   refine W_seq_skip (W_blockP fun Q4 n4 x4 y4 z4 w4=>(W_r (R_mv t3 (R_mv t0 (R_e ?_)))))
   rcases hx3:rF e k .bin s3 with _|⟨f3,s4⟩
   ·
    exfalso; subst d1; rw [hn] at hc; simp only [rMore,hs3,hx3,rFin] at hc; cases hc
   ·
    obtain ⟨ks4,ks4d⟩:=rF_keeps e k .bin _ _ _ ks3 (fun q=>by cases q) hx3
    refine pop_ok (i:=0) (rihB _ _ _ ks3 hx3) (evcons (@rfl V (V.mp 0 v 0 0)) evnil) rfl h0 rfl rfl (fork_ (R:=fun T H=>T 0=(V.mp 0 v 0 0)∧T 2=(V.mp 2 1 0 0)∧T 9=(V.ms 6 w 0 (l.length))∧T 10=(V.mp 0 v 0 0)∧T 11=(V.agg [(iV (f3.op)),(iV (f3.arg)),(V.sl (List.map cF (f3.kids)))])∧H 0=(bk v 85 7 [[(V.sl (List.map cS (e.ia))),(V.sl (List.map cS (e.oa))),(V.str e.src),(iV ((s4.pos:Nat):Int)),(iV (s4.dep)),(iV (s4.er)),(iV ((s4.wh:Nat):Int))]])∧H 2=(bk 1 24 3 [[(iV (0:Int)),(iV (0:Int)),V.nilsl]])∧H 6=(bk w 24 3 (List.map cF (l)))∧True) ⟨t0,t2,(@rfl V (V.ms 6 w 0 (l.length))),(@rfl V (V.mp 0 v 0 0)),(@rfl V (V.agg [(iV (f3.op)),(iV (f3.arg)),(V.sl (List.map cF (f3.kids)))])),rfl,h2,h6,trivial⟩ ?_)
    intro T H ⟨t0,t2,t9,t10,t11,h0,h2,h6,_⟩
    refine W_t (R_bslice (mcons (congrArg (fun v=>(0,v)) t11) rfl) rfl (R_append1 (l:=l) (f:=cF) (x:=f3) t9 h6 (by rfl) (row_F1 (x:=f3) (@rfl V (V.sl [[(iV (f3.op)),(iV (f3.arg)),(V.sl (List.map cF (f3.kids)))]]))) (cF_len _) (cF_one _) (by omega) (by omega) (R_mv rfl (R_e (n4 _ _ ?_)))))
    refine p12 _ _ _ ?_ ⟨(l++[f3]),s4,n0,(w+1),rfl,t0,t2,(Eq.trans (@rfl V (V.ms 6 (w+1) 0 (l.length+1))) (by simp)),h0,h2,(Eq.trans (@rfl Blk (bk (w+1) 24 3 (List.map cF (l++[f3])))) (by rfl)),?_,?_,?_⟩
    · omega
    · exact ks4
    · first|(simp; done)|(simp; omega)
    · subst d1; rw [hn] at hc; simpa only [rMore,hs3,hx3] using hc
  have d1:b=false:=c3
  have hr:(oneOr 5 l,s3)=(fr,sr):=by subst d1; rw [hn] at hc; simp only [rMore,hs3,rFin] at hc; injection hc
  refine W_seq_exit (p32 _ _ _ (x1 _ _ ?_))
  refine .freeze 6 (.done ?_)
  refine fork_ (R:=fun T H=>T 0=(V.mp 0 v 0 0)∧T 2=(V.mp 2 1 0 0)∧T 3=(V.sl (List.map cF (l)))∧T 7=(V.mp 0 v 0 0)∧T 8=(V.bool b)∧H 0=(bk v 85 7 [[(V.sl (List.map cS (e.ia))),(V.sl (List.map cS (e.oa))),(V.str e.src),(iV ((s3.pos:Nat):Int)),(iV (s3.dep)),(iV (s3.er)),(iV ((s3.wh:Nat):Int))]])∧H 2=(bk 1 24 3 [[(iV (0:Int)),(iV (0:Int)),V.nilsl]])∧((H 6).ver=w∧(H 6).live=false)∧True) ⟨(fzT_q t0 rfl),(fzT_q t2 rfl),(fzT_q t3 (fzq_own h6 (by simp) (l:=l) rfl (by rfl))),(fzT_q t7 rfl),(fzT_q t8 rfl),(kill_ne h0 (by decide)),(kill_ne h2 (by decide)),(kill_self (congrArg Blk.ver h6)),trivial⟩ ?_
  intro T H ⟨t0,t2,t3,t7,t8,h0,h2,h6,_⟩
  refine W_seq_seq (W_r (R_mv t3 (R_len rfl (R_eql rfl rfl (R_e ?_)))))
  refine W_seq_if rfl (fun c5=>?_) fun c5=>?_
  ·
   refine W_seq_seq (W_r (R_mv t3 (R_idxu (i:=0) (@rfl V (V.sl (List.map cF (l)))) (@rfl V (iV ((0:Nat):Int))) (by omega) (cF_eq _) rfl (R_load_pp rfl rfl (R_sk t2 rfl rfl h2 rfl rfl rfl rfl rfl (R_e (W_seq_ret ?_)))))))
   refine RetL_ok (v:=(V.agg [(iV (((nth (l) (0))).op)),(iV (((nth (l) (0))).arg)),(V.sl (List.map cF (((nth (l) (0))).kids)))])) (b:=(bk v 85 7 [[(V.sl (List.map cS (e.ia))),(V.sl (List.map cS (e.oa))),(V.str e.src),(iV ((s3.pos:Nat):Int)),(iV (s3.dep)),(iV (s3.er)),(iV ((s3.wh:Nat):Int))]])) (resT1 (resV_c (u:=(V.agg [(iV (((nth (l) (0))).op)),(iV (((nth (l) (0))).arg)),(V.sl (List.map cF (((nth (l) (0))).kids)))])) t2 (@rfl Blk (bk 1 24 3 [[(iV (((nth (l) (0))).op)),(iV (((nth (l) (0))).arg)),(V.sl (List.map cF (((nth (l) (0))).kids)))]])) (lB oB rfl rfl))) ?_ (by simp) (.same (cut_fin 1 _) _) h0 (by simp [locB,loc0])
   injection hr with hr1 hr2; subst hr1; subst hr2; unfold oneOr; rw [if_pos (by omega)]; rfl
  refine W_seq_skip (W_r (R_mv t3 (R_build rfl rfl (R_sk t2 rfl rfl h2 rfl rfl rfl rfl rfl (R_e (W_ret ?_))))))
  refine RetL_ok (v:=(V.agg [(iV (5:Int)),(iV (0:Int)),(V.sl (List.map cF (l)))])) (b:=(bk v 85 7 [[(V.sl (List.map cS (e.ia))),(V.sl (List.map cS (e.oa))),(V.str e.src),(iV ((s3.pos:Nat):Int)),(iV (s3.dep)),(iV (s3.er)),(iV ((s3.wh:Nat):Int))]])) (resT1 (resV_c (u:=(V.agg [(iV (5:Int)),(iV (0:Int)),(V.sl (List.map cF (l)))])) t2 (@rfl Blk (bk 1 24 3 [[(iV (5:Int)),(iV (0:Int)),(V.sl (List.map cF (l)))]])) (lB oB rfl rfl))) ?_ (by simp) (.same (cut_fin 1 _) _) h0 (by simp [locB,loc0])
  injection hr with hr1 hr2; subst hr1; subst hr2; unfold oneOr; rw [if_neg (by omega)]; rfl
def r93_11:List SO:=[
 qM 19 0,
 sO 20 (.nilck (.t 19)),
 qF 21 4 20,
 ql 22 21,
 qC 23 .sub 22 1,
 sO 24 (.nilck (.t 19)),
 qF 25 4 24,
 sN (.store 1 (.t 25) (.t 23))]
def s93:SF:=⟨31,[.cell 2 true 3],.seq (.reg [sO 2 (.alloc 24 [.int .i64 0,.int .i64 0,.nilsl])]) (.seq (.seq (.reg [qM 6 0]) (.seq (.pop (some 7) (.call 99 [.t 6])) (.reg [sO 3 (.alloc 24 [.int .i64 0,.int .i64 0,.nilsl]),sN (.store 3 (.t 3) (.t 7))]))) (.seq (.reg [qI 4 0]) (.seq (.seq (.seq (.reg [qM 8 0]) (.seq (.pop (some 9) (.call 66 [.t 8,.c (.str [85])])) (.reg []))) (.cond (.t 9) (.reg [qI 4 8]) (.seq (.seq (.reg [qM 10 0]) (.seq (.pop (some 11) (.call 66 [.t 10,.c (.str [82])])) (.reg []))) (.cond (.t 11) (.reg [qI 4 10]) (.skip))))) (.seq (.seq (.reg [qM 12 4,qC 13 .eql 12 0]) (.cond (.t 13) (.seq (.reg [qL 14 3 3,sN (.store 3 (.t 2) (.t 14))]) (.ret)) (.skip))) (.seq (.seq (.reg [qM 15 0]) (.seq (.pop (some 16) (.call 67 [.t 15])) (.reg []))) (.seq (.seq (.reg [qM 17 0]) (.seq (.pop (some 18) (.call 93 [.t 17])) (.reg [sO 5 (.alloc 24 [.int .i64 0,.int .i64 0,.nilsl]),sN (.store 3 (.t 5) (.t 18))]))) (.seq (.reg r93_11) (.seq (.reg [qM 26 4,qL 27 3 3,qL 28 3 5,sO 29 (.bslice 24 3 false [.int .i64 0,.int .i64 0,.nilsl] 2 [(0,.t 27),(1,.t 28)]),sO 30 (.call false 52 [.t 26,.t 29]),sN (.store 3 (.t 2) (.t 30))]) (.ret)))))))))⟩
theorem s93_ok:slimF Try.prog ⟨[31,36,37,38,40,41,42,44,45,59,60,61,65,66,67,71,72,73,81,82,84,92,93,98,99,102,104],[],[36,37,38,40,41,42,59,60,61,65,66,67,81,82,92,93,98,99,102,104],[]⟩ Try.f93=some s93:=by kernel_rfl
theorem rbin_step (v:Nat) (e:PE) (s:RS) (hs:OkR e s) (k:Nat) (hkb:k≤4294967296) (rihU: ∀ (s:RS) (f:Fm) (s1:RS),OkR e s→rF e k .un s=some (f,s1)→LocC Try.prog 99 1 [.mp 0 v 0 0] (hpB (bk v 85 7 [rCells e s])) (.ok (fmV f) (hpB (bk v 85 7 [rCells e s1])))) (rihB: ∀ (s:RS) (f:Fm) (s1:RS),OkR e s→rF e k .bin s=some (f,s1)→LocC Try.prog 93 1 [.mp 0 v 0 0] (hpB (bk v 85 7 [rCells e s])) (.ok (fmV f) (hpB (bk v 85 7 [rCells e s1])))) (fr:Fm) (sr:RS) (h:rF e (k+1) .bin s=some (fr,sr)):LocC Try.prog 93 1 [(V.mp 0 v 0 0)] (hpB (bk v 85 7 [[(V.sl (List.map cS (e.ia))),(V.sl (List.map cS (e.oa))),(V.str e.src),(iV ((s.pos:Nat):Int)),(iV (s.dep)),(iV (s.er)),(iV ((s.wh:Nat):Int))]])) (.ok (fmV fr) (hpB (bk v 85 7 [rCells e sr]))):=by
 refine lW (k0:=0) Try.func93 s93_ok fun hB=>?_
 unfold s93
 dsimp only
 have hlen:=hs.len
 have hpos:=hs.pos
 have hd0:=hs.d0
 have hd1:=hs.d1
 have hd2:=hs.d2
 refine W_r (R_alloc (i:=2) (n:=0) (m:=3) rfl (congrArg Blk.ver rfl) rfl (R_e (W_seq_seq (W_r (R_mv rfl (R_e (W_seq_seq ?_)))))))
 rcases hx:rF e k .un s with _|⟨f1,s1⟩
 ·
  exfalso; rw [rF,hx] at h; cases h
 ·
  obtain ⟨ks1,ks1d⟩:=rF_keeps e k .un _ _ _ hs (fun q=>by cases q) hx
  refine pop_ok (i:=0) (rihU _ _ _ hs hx) (evcons (@rfl V (V.mp 0 v 0 0)) evnil) rfl (@rfl Blk (bk v 85 7 [[(V.sl (List.map cS (e.ia))),(V.sl (List.map cS (e.oa))),(V.str e.src),(iV ((s.pos:Nat):Int)),(iV (s.dep)),(iV (s.er)),(iV ((s.wh:Nat):Int))]])) rfl rfl (fork_ (R:=fun T H=>T 0=(V.mp 0 v 0 0)∧T 2=(V.mp 2 1 0 0)∧T 6=(V.mp 0 v 0 0)∧T 7=(V.agg [(iV (f1.op)),(iV (f1.arg)),(V.sl (List.map cF (f1.kids)))])∧H 0=(bk v 85 7 [[(V.sl (List.map cS (e.ia))),(V.sl (List.map cS (e.oa))),(V.str e.src),(iV ((s1.pos:Nat):Int)),(iV (s1.dep)),(iV (s1.er)),(iV ((s1.wh:Nat):Int))]])∧H 2=(bk 1 24 3 [[(iV (0:Int)),(iV (0:Int)),V.nilsl]])∧H 3=(⟨0,false,false,0,0,[]⟩:Blk)∧H 5=(⟨0,false,false,0,0,[]⟩:Blk)∧True) ⟨(@rfl V (V.mp 0 v 0 0)),(@rfl V (V.mp 2 1 0 0)),(@rfl V (V.mp 0 v 0 0)),(@rfl V (V.agg [(iV (f1.op)),(iV (f1.arg)),(V.sl (List.map cF (f1.kids)))])),rfl,rfl,rfl,rfl,trivial⟩ ?_)
  intro T H ⟨t0,t2,t6,t7,h0,h2,h3,h5,_⟩
  refine W_r (R_alloc (i:=3) (n:=0) (m:=3) rfl (congrArg Blk.ver h3) rfl (R_sk rfl t7 rfl rfl rfl rfl rfl rfl rfl (R_e (W_r (R_mv rfl (R_e (W_seq_seq ?_)))))))
  refine W_seq_seq (W_r (R_mv t0 (R_e (W_seq_seq ?_))))
  rcases hs2:rTake e [85] s1 with ⟨b,s2⟩
  obtain ⟨ks2,ks2d,ks2b,ks2e⟩:=rTake_inv ks1 hs2
  refine pop_ok (i:=0) (by have q:=rtake_loc v e s1 ks1 [85] (by simp); rw [hs2] at q; exact q) (evcons (@rfl V (V.mp 0 v 0 0)) (evcons (@rfl V (V.str ([85]))) evnil)) rfl h0 rfl rfl (fork_ (R:=fun T H=>T 0=(V.mp 0 v 0 0)∧T 2=(V.mp 2 1 0 0)∧T 3=(V.mp 3 1 0 0)∧T 4=(iV (0:Int))∧T 8=(V.mp 0 v 0 0)∧T 9=(V.bool b)∧H 0=(bk v 85 7 [[(V.sl (List.map cS (e.ia))),(V.sl (List.map cS (e.oa))),(V.str e.src),(iV ((s2.pos:Nat):Int)),(iV (s2.dep)),(iV (s2.er)),(iV ((s2.wh:Nat):Int))]])∧H 2=(bk 1 24 3 [[(iV (0:Int)),(iV (0:Int)),V.nilsl]])∧H 3=(bk 1 24 3 [[(iV (f1.op)),(iV (f1.arg)),(V.sl (List.map cF (f1.kids)))]])∧H 5=(⟨0,false,false,0,0,[]⟩:Blk)∧True) ⟨t0,t2,(@rfl V (V.mp 3 1 0 0)),(@rfl V (iV (0:Int))),(@rfl V (V.mp 0 v 0 0)),(@rfl V (V.bool b)),rfl,h2,rfl,h5,trivial⟩ ?_)
  intro T H ⟨t0,t2,t3,t4,t8,t9,h0,h2,h3,h5,_⟩
  refine W_reg0 ?_
  refine W_seq_ifb t9 (fun c1=>?_) (fun c1=>?_)
  ·
   have hb:b=true:=c1
   refine W_r (R_mv rfl (R_e (W_seq_seq (W_r (R_mv rfl (R_eql rfl rfl (R_e ?_)))))))
   refine W_seq_if rfl (fun c2=>?_) fun c2=>?_
   · exact absurd c2 (by decide)
   refine W_seq_skip (W_seq_seq (W_r (R_mv t0 (R_e (W_seq_seq ?_)))))
   obtain ⟨s4,hs4⟩: ∃ q,rOpen e s2=q:=⟨_,rfl⟩
   obtain ⟨ks4,ks4d⟩:=rOpen_inv ks2 (ks2b hb)
   rw [hs4] at ks4 ks4d
   refine pop_ok (i:=0) (by have q:=ropen_loc v e s2 ks2 (ks2b hb); rw [hs4] at q; exact q) (evcons (@rfl V (V.mp 0 v 0 0)) evnil) rfl h0 rfl rfl (fork_ (R:=fun T H=>T 0=(V.mp 0 v 0 0)∧T 2=(V.mp 2 1 0 0)∧T 3=(V.mp 3 1 0 0)∧T 4=(iV (8:Int))∧T 15=(V.mp 0 v 0 0)∧T 16=(V.tup [])∧H 0=(bk v 85 7 [[(V.sl (List.map cS (e.ia))),(V.sl (List.map cS (e.oa))),(V.str e.src),(iV ((s4.pos:Nat):Int)),(iV (s4.dep)),(iV (s4.er)),(iV ((s4.wh:Nat):Int))]])∧H 2=(bk 1 24 3 [[(iV (0:Int)),(iV (0:Int)),V.nilsl]])∧H 3=(bk 1 24 3 [[(iV (f1.op)),(iV (f1.arg)),(V.sl (List.map cF (f1.kids)))]])∧H 5=(⟨0,false,false,0,0,[]⟩:Blk)∧True) ⟨t0,t2,t3,(@rfl V (iV (8:Int))),(@rfl V (V.mp 0 v 0 0)),(@rfl V (V.tup [])),rfl,h2,h3,h5,trivial⟩ ?_)
   intro T H ⟨t0,t2,t3,t4,t15,t16,h0,h2,h3,h5,_⟩
   refine W_reg0 (W_seq_seq (W_r (R_mv t0 (R_e (W_seq_seq ?_)))))
   rcases hy:rF e k .bin s4 with _|⟨f5,s5⟩
   ·
    exfalso; rw [rF,hx] at h; first|(subst hb; simp only [hs2,hs4,hy,rMapD] at h; cases h)|(subst hb; subst hc; simp only [hs2,hs3,hs4,hy,rMapD] at h; cases h)
   ·
    obtain ⟨ks5,ks5d⟩:=rF_keeps e k .bin _ _ _ ks4 (fun q=>by cases q) hy
    refine pop_ok (i:=0) (rihB _ _ _ ks4 hy) (evcons (@rfl V (V.mp 0 v 0 0)) evnil) rfl h0 rfl rfl (fork_ (R:=fun T H=>T 0=(V.mp 0 v 0 0)∧T 2=(V.mp 2 1 0 0)∧T 3=(V.mp 3 1 0 0)∧T 4=(iV (8:Int))∧T 17=(V.mp 0 v 0 0)∧T 18=(V.agg [(iV (f5.op)),(iV (f5.arg)),(V.sl (List.map cF (f5.kids)))])∧H 0=(bk v 85 7 [[(V.sl (List.map cS (e.ia))),(V.sl (List.map cS (e.oa))),(V.str e.src),(iV ((s5.pos:Nat):Int)),(iV (s5.dep)),(iV (s5.er)),(iV ((s5.wh:Nat):Int))]])∧H 2=(bk 1 24 3 [[(iV (0:Int)),(iV (0:Int)),V.nilsl]])∧H 3=(bk 1 24 3 [[(iV (f1.op)),(iV (f1.arg)),(V.sl (List.map cF (f1.kids)))]])∧H 5=(⟨0,false,false,0,0,[]⟩:Blk)∧True) ⟨t0,t2,t3,t4,(@rfl V (V.mp 0 v 0 0)),(@rfl V (V.agg [(iV (f5.op)),(iV (f5.arg)),(V.sl (List.map cF (f5.kids)))])),rfl,h2,h3,h5,trivial⟩ ?_)
    intro T H ⟨t0,t2,t3,t4,t17,t18,h0,h2,h3,h5,_⟩
    refine W_r (R_alloc (i:=5) (n:=0) (m:=3) rfl (congrArg Blk.ver h5) rfl (R_sk rfl t18 rfl rfl rfl rfl rfl rfl rfl (R_e (W_r (R_mv t0 (R_nilck_mp rfl h0 oB (R_fk rfl h0 ?_)))))))
    refine R_lk rfl h0 rfl rfl (R_sub rfl rfl (by omega) (by omega) (R_nilck_mp rfl h0 oB (R_fk rfl h0 (R_sk rfl rfl rfl h0 rfl rfl rfl rfl rfl (R_e (W_r (R_mv t4 ?_)))))))
    refine R_lk t3 h3 rfl rfl (R_lk rfl rfl rfl rfl (R_bslice rfl rfl (R_callk (rnode_pure ((8:Int)) ([f1,f5])) (evcons rfl (evcons (sl_F2 (x:=f1) (y:=f5) rfl) evnil)) (R_sk t2 rfl rfl h2 rfl rfl rfl rfl rfl (R_e (W_ret ?_))))))
    refine RetL_ok (v:=(V.agg [(iV (((8:Int)))),(iV (0:Int)),(V.sl (List.map cF (([f1,f5]))))])) (b:=(bk v 85 7 [[(V.sl (List.map cS (e.ia))),(V.sl (List.map cS (e.oa))),(V.str e.src),(iV ((s5.pos:Nat):Int)),(iV ((s5.dep) - (1:Int))),(iV (s5.er)),(iV ((s5.wh:Nat):Int))]])) (resT1 (resV_c (u:=(V.agg [(iV (((8:Int)))),(iV (0:Int)),(V.sl (List.map cF (([f1,f5]))))])) t2 (@rfl Blk (bk 1 24 3 [[(iV (((8:Int)))),(iV (0:Int)),(V.sl (List.map cF (([f1,f5]))))]])) (lB oB rfl rfl))) ?_ (by simp) (.same (cut_fin 1 _) _) (@rfl Blk (bk v 85 7 [[(V.sl (List.map cS (e.ia))),(V.sl (List.map cS (e.oa))),(V.str e.src),(iV ((s5.pos:Nat):Int)),(iV ((s5.dep) - (1:Int))),(iV (s5.er)),(iV ((s5.wh:Nat):Int))]])) (by simp [locB,loc0])
    subst hb; rw [rF,hx] at h; simp only [hs2,hs4,hy,rMapD] at h; cases h; rfl
  have hb:b=false:=c1
  refine W_seq_seq (W_seq_seq (W_r (R_mv t0 (R_e (W_seq_seq ?_)))))
  rcases hs3:rTake e [82] s2 with ⟨c,s3⟩
  obtain ⟨ks3,ks3d,ks3b,ks3e⟩:=rTake_inv ks2 hs3
  refine pop_ok (i:=0) (by have q:=rtake_loc v e s2 ks2 [82] (by simp); rw [hs3] at q; exact q) (evcons (@rfl V (V.mp 0 v 0 0)) (evcons (@rfl V (V.str ([82]))) evnil)) rfl h0 rfl rfl (fork_ (R:=fun T H=>T 0=(V.mp 0 v 0 0)∧T 2=(V.mp 2 1 0 0)∧T 3=(V.mp 3 1 0 0)∧T 4=(iV (0:Int))∧T 10=(V.mp 0 v 0 0)∧T 11=(V.bool c)∧H 0=(bk v 85 7 [[(V.sl (List.map cS (e.ia))),(V.sl (List.map cS (e.oa))),(V.str e.src),(iV ((s3.pos:Nat):Int)),(iV (s3.dep)),(iV (s3.er)),(iV ((s3.wh:Nat):Int))]])∧H 2=(bk 1 24 3 [[(iV (0:Int)),(iV (0:Int)),V.nilsl]])∧H 3=(bk 1 24 3 [[(iV (f1.op)),(iV (f1.arg)),(V.sl (List.map cF (f1.kids)))]])∧H 5=(⟨0,false,false,0,0,[]⟩:Blk)∧True) ⟨t0,t2,t3,t4,(@rfl V (V.mp 0 v 0 0)),(@rfl V (V.bool c)),rfl,h2,h3,h5,trivial⟩ ?_)
  intro T H ⟨t0,t2,t3,t4,t10,t11,h0,h2,h3,h5,_⟩
  refine W_reg0 ?_
  refine W_seq_ifb t11 (fun c3=>?_) (fun c3=>?_)
  ·
   have hc:c=true:=c3
   refine W_r (R_mv rfl (R_e (W_seq_seq (W_r (R_mv rfl (R_eql rfl rfl (R_e ?_)))))))
   refine W_seq_if rfl (fun c4=>?_) fun c4=>?_
   · exact absurd c4 (by decide)
   refine W_seq_skip (W_seq_seq (W_r (R_mv t0 (R_e (W_seq_seq ?_)))))
   obtain ⟨s4,hs4⟩: ∃ q,rOpen e s3=q:=⟨_,rfl⟩
   obtain ⟨ks4,ks4d⟩:=rOpen_inv ks3 (ks3b hc)
   rw [hs4] at ks4 ks4d
   refine pop_ok (i:=0) (by have q:=ropen_loc v e s3 ks3 (ks3b hc); rw [hs4] at q; exact q) (evcons (@rfl V (V.mp 0 v 0 0)) evnil) rfl h0 rfl rfl (fork_ (R:=fun T H=>T 0=(V.mp 0 v 0 0)∧T 2=(V.mp 2 1 0 0)∧T 3=(V.mp 3 1 0 0)∧T 4=(iV (10:Int))∧T 15=(V.mp 0 v 0 0)∧T 16=(V.tup [])∧H 0=(bk v 85 7 [[(V.sl (List.map cS (e.ia))),(V.sl (List.map cS (e.oa))),(V.str e.src),(iV ((s4.pos:Nat):Int)),(iV (s4.dep)),(iV (s4.er)),(iV ((s4.wh:Nat):Int))]])∧H 2=(bk 1 24 3 [[(iV (0:Int)),(iV (0:Int)),V.nilsl]])∧H 3=(bk 1 24 3 [[(iV (f1.op)),(iV (f1.arg)),(V.sl (List.map cF (f1.kids)))]])∧H 5=(⟨0,false,false,0,0,[]⟩:Blk)∧True) ⟨t0,t2,t3,(@rfl V (iV (10:Int))),(@rfl V (V.mp 0 v 0 0)),(@rfl V (V.tup [])),rfl,h2,h3,h5,trivial⟩ ?_)
   intro T H ⟨t0,t2,t3,t4,t15,t16,h0,h2,h3,h5,_⟩
   refine W_reg0 (W_seq_seq (W_r (R_mv t0 (R_e (W_seq_seq ?_)))))
   rcases hy:rF e k .bin s4 with _|⟨f5,s5⟩
   ·
    exfalso; rw [rF,hx] at h; first|(subst hb; simp only [hs2,hs4,hy,rMapD] at h; cases h)|(subst hb; subst hc; simp only [hs2,hs3,hs4,hy,rMapD] at h; cases h)
   ·
    obtain ⟨ks5,ks5d⟩:=rF_keeps e k .bin _ _ _ ks4 (fun q=>by cases q) hy
    refine pop_ok (i:=0) (rihB _ _ _ ks4 hy) (evcons (@rfl V (V.mp 0 v 0 0)) evnil) rfl h0 rfl rfl (fork_ (R:=fun T H=>T 0=(V.mp 0 v 0 0)∧T 2=(V.mp 2 1 0 0)∧T 3=(V.mp 3 1 0 0)∧T 4=(iV (10:Int))∧T 17=(V.mp 0 v 0 0)∧T 18=(V.agg [(iV (f5.op)),(iV (f5.arg)),(V.sl (List.map cF (f5.kids)))])∧H 0=(bk v 85 7 [[(V.sl (List.map cS (e.ia))),(V.sl (List.map cS (e.oa))),(V.str e.src),(iV ((s5.pos:Nat):Int)),(iV (s5.dep)),(iV (s5.er)),(iV ((s5.wh:Nat):Int))]])∧H 2=(bk 1 24 3 [[(iV (0:Int)),(iV (0:Int)),V.nilsl]])∧H 3=(bk 1 24 3 [[(iV (f1.op)),(iV (f1.arg)),(V.sl (List.map cF (f1.kids)))]])∧H 5=(⟨0,false,false,0,0,[]⟩:Blk)∧True) ⟨t0,t2,t3,t4,(@rfl V (V.mp 0 v 0 0)),(@rfl V (V.agg [(iV (f5.op)),(iV (f5.arg)),(V.sl (List.map cF (f5.kids)))])),rfl,h2,h3,h5,trivial⟩ ?_)
    intro T H ⟨t0,t2,t3,t4,t17,t18,h0,h2,h3,h5,_⟩
    refine W_r (R_alloc (i:=5) (n:=0) (m:=3) rfl (congrArg Blk.ver h5) rfl (R_sk rfl t18 rfl rfl rfl rfl rfl rfl rfl (R_e (W_r (R_mv t0 (R_nilck_mp rfl h0 oB (R_fk rfl h0 ?_)))))))
    refine R_lk rfl h0 rfl rfl (R_sub rfl rfl (by omega) (by omega) (R_nilck_mp rfl h0 oB (R_fk rfl h0 (R_sk rfl rfl rfl h0 rfl rfl rfl rfl rfl (R_e (W_r (R_mv t4 ?_)))))))
    refine R_lk t3 h3 rfl rfl (R_lk rfl rfl rfl rfl (R_bslice rfl rfl (R_callk (rnode_pure ((10:Int)) ([f1,f5])) (evcons rfl (evcons (sl_F2 (x:=f1) (y:=f5) rfl) evnil)) (R_sk t2 rfl rfl h2 rfl rfl rfl rfl rfl (R_e (W_ret ?_))))))
    refine RetL_ok (v:=(V.agg [(iV (((10:Int)))),(iV (0:Int)),(V.sl (List.map cF (([f1,f5]))))])) (b:=(bk v 85 7 [[(V.sl (List.map cS (e.ia))),(V.sl (List.map cS (e.oa))),(V.str e.src),(iV ((s5.pos:Nat):Int)),(iV ((s5.dep) - (1:Int))),(iV (s5.er)),(iV ((s5.wh:Nat):Int))]])) (resT1 (resV_c (u:=(V.agg [(iV (((10:Int)))),(iV (0:Int)),(V.sl (List.map cF (([f1,f5]))))])) t2 (@rfl Blk (bk 1 24 3 [[(iV (((10:Int)))),(iV (0:Int)),(V.sl (List.map cF (([f1,f5]))))]])) (lB oB rfl rfl))) ?_ (by simp) (.same (cut_fin 1 _) _) (@rfl Blk (bk v 85 7 [[(V.sl (List.map cS (e.ia))),(V.sl (List.map cS (e.oa))),(V.str e.src),(iV ((s5.pos:Nat):Int)),(iV ((s5.dep) - (1:Int))),(iV (s5.er)),(iV ((s5.wh:Nat):Int))]])) (by simp [locB,loc0])
    subst hb; subst hc; rw [rF,hx] at h; simp only [hs2,hs3,hs4,hy,rMapD] at h; cases h; rfl
  have hc:c=false:=c3
  refine W_seq_skip (W_seq_seq (W_r (R_mv t4 (R_eql rfl rfl (R_e ?_)))))
  refine W_seq_if rfl (fun c5=>?_) fun c5=>?_
  ·
   refine W_seq_seq (W_r (R_lk t3 h3 rfl rfl (R_sk t2 rfl rfl h2 rfl rfl rfl rfl rfl (R_e (W_seq_ret ?_)))))
   refine RetL_ok (v:=(V.agg [(iV (f1.op)),(iV (f1.arg)),(V.sl (List.map cF (f1.kids)))])) (b:=(bk v 85 7 [[(V.sl (List.map cS (e.ia))),(V.sl (List.map cS (e.oa))),(V.str e.src),(iV ((s3.pos:Nat):Int)),(iV (s3.dep)),(iV (s3.er)),(iV ((s3.wh:Nat):Int))]])) (resT1 (resV_c (u:=(V.agg [(iV (f1.op)),(iV (f1.arg)),(V.sl (List.map cF (f1.kids)))])) t2 (@rfl Blk (bk 1 24 3 [[(iV (f1.op)),(iV (f1.arg)),(V.sl (List.map cF (f1.kids)))]])) (lB oB rfl rfl))) ?_ (by simp) (.same (cut_fin 1 _) _) h0 (by simp [locB,loc0])
   subst hb; subst hc; rw [rF,hx] at h; simp only [hs2,hs3] at h; cases h; rfl
  · exact absurd (by decide) c5
def r99_23:List SO:=[
 qM 72 0,
 sO 73 (.nilck (.t 72)),
 qF 74 4 73,
 ql 75 74,
 qC 76 .sub 75 1,
 sO 77 (.nilck (.t 72)),
 qF 78 4 77,
 sN (.store 1 (.t 78) (.t 76))]
def s99:SF:=⟨90,[.cell 2 true 3],.seq (.reg [sO 2 (.alloc 24 [.int .i64 0,.int .i64 0,.nilsl])]) (.seq (.seq (.reg [qM 5 0]) (.seq (.pop (some 6) (.call 41 [.t 5])) (.reg [qM 3 6]))) (.seq (.block 0 (.seq (.reg [qM 8 0,sO 9 (.nilck (.t 8)),qF 10 5 9,ql 11 10,qC 12 .neq 11 0,qM 7 12]) (.cond (.t 7) (.seq (.reg [sO 13 (.build [.int .i64 0,.int .i64 0,.nilsl] []),sN (.store 3 (.t 2) (.t 13))]) (.ret)) (.seq (.seq (.reg [qM 15 0]) (.seq (.pop (some 16) (.call 66 [.t 15,.c (.str [33])])) (.reg [qM 14 16]))) (.cond (.t 14) (.seq (.seq (.reg [qM 17 0]) (.seq (.pop (some 18) (.call 102 [.t 17])) (.reg [sO 19 (.bslice 24 3 false [.int .i64 0,.int .i64 0,.nilsl] 1 [(0,.t 18)]),sO 20 (.call false 52 [.c (.int .i64 4),.t 19]),sN (.store 3 (.t 2) (.t 20))]))) (.ret)) (.seq (.seq (.reg [qM 22 0]) (.seq (.pop (some 23) (.call 66 [.t 22,.c (.str [88])])) (.reg [qM 21 23]))) (.cond (.t 21) (.seq (.seq (.reg [qM 24 0]) (.seq (.pop (some 25) (.call 102 [.t 24])) (.reg [sO 26 (.bslice 24 3 false [.int .i64 0,.int .i64 0,.nilsl] 1 [(0,.t 25)]),sO 27 (.call false 52 [.c (.int .i64 7),.t 26]),sN (.store 3 (.t 2) (.t 27))]))) (.ret)) (.seq (.seq (.reg [qM 29 0]) (.seq (.pop (some 30) (.call 66 [.t 29,.c (.str [78])])) (.reg [qM 28 30]))) (.cond (.t 28) (.seq (.seq (.reg [qM 31 0]) (.seq (.pop (some 32) (.call 102 [.t 31])) (.reg [sO 33 (.bslice 24 3 false [.int .i64 0,.int .i64 0,.nilsl] 1 [(0,.t 32)]),sO 34 (.call false 52 [.c (.int .i64 9),.t 33]),sN (.store 3 (.t 2) (.t 34))]))) (.ret)) (.seq (.seq (.reg [qM 36 0]) (.seq (.pop (some 37) (.call 66 [.t 36,.c (.str [70])])) (.reg [qM 35 37]))) (.cond (.t 35) (.seq (.seq (.reg [sO 38 (.call false 52 [.c (.int .i64 1),.c (.nilsl)]),qM 39 0]) (.seq (.pop (some 40) (.call 102 [.t 39])) (.reg [sO 41 (.bslice 24 3 false [.int .i64 0,.int .i64 0,.nilsl] 2 [(0,.t 38),(1,.t 40)]),sO 42 (.call false 52 [.c (.int .i64 8),.t 41]),sN (.store 3 (.t 2) (.t 42))]))) (.ret)) (.seq (.seq (.reg [qM 44 0]) (.seq (.pop (some 45) (.call 66 [.t 44,.c (.str [71])])) (.reg [qM 43 45]))) (.cond (.t 43) (.seq (.seq (.reg [sO 46 (.call false 103 []),qM 47 0]) (.seq (.pop (some 48) (.call 102 [.t 47])) (.reg [sO 49 (.bslice 24 3 false [.int .i64 0,.int .i64 0,.nilsl] 2 [(0,.t 46),(1,.t 48)]),sO 50 (.call false 52 [.c (.int .i64 10),.t 49]),sN (.store 3 (.t 2) (.t 50))]))) (.ret)) (.seq (.seq (.reg [qM 52 0]) (.seq (.pop (some 53) (.call 66 [.t 52,.c (.str [116,114,117,101])])) (.reg [qM 51 53]))) (.cond (.t 51) (.seq (.reg [sO 54 (.call false 52 [.c (.int .i64 1),.c (.nilsl)]),sN (.store 3 (.t 2) (.t 54))]) (.ret)) (.seq (.seq (.reg [qM 56 0]) (.seq (.pop (some 57) (.call 66 [.t 56,.c (.str [102,97,108,115,101])])) (.reg [qM 55 57]))) (.cond (.t 55) (.seq (.reg [sO 58 (.call false 103 []),sN (.store 3 (.t 2) (.t 58))]) (.ret)) (.seq (.seq (.reg [qM 60 0]) (.seq (.pop (some 61) (.call 66 [.t 60,.c (.str [40])])) (.reg [qM 59 61]))) (.cond (.t 59) (.seq (.seq (.reg [qM 62 0]) (.seq (.pop (some 63) (.call 67 [.t 62])) (.reg []))) (.seq (.reg [sO 64 (.build [.int .i64 0,.int .i64 0,.nilsl] []),sO 4 (.alloc 24 [.int .i64 0,.int .i64 0,.nilsl]),sN (.store 3 (.t 4) (.t 64))]) (.seq (.seq (.reg [qM 65 0,sO 66 (.nilck (.t 65)),qF 67 5 66,ql 68 67,qC 69 .eql 68 0]) (.cond (.t 69) (.seq (.reg [qM 70 0]) (.seq (.pop (some 71) (.call 40 [.t 70])) (.reg [sN (.store 3 (.t 4) (.t 71))]))) (.skip))) (.seq (.reg r99_23) (.seq (.seq (.seq (.reg [qM 79 0]) (.seq (.pop (some 80) (.call 66 [.t 79,.c (.str [41])])) (.reg [sO 81 (.un .not (.t 80))]))) (.cond (.t 81) (.seq (.seq (.reg [qM 82 0]) (.seq (.pop (some 83) (.call 41 [.t 82])) (.reg []))) (.seq (.reg [qM 84 0]) (.seq (.pop (some 85) (.call 42 [.t 84,.c (.int .i64 5)])) (.reg [])))) (.skip))) (.seq (.reg [qL 86 3 4,sN (.store 3 (.t 2) (.t 86))]) (.ret))))))) (.skip)))))))))))))))))))) (.seq (.seq (.reg [qM 87 0,qM 88 3]) (.seq (.pop (some 89) (.call 104 [.t 87,.t 88])) (.reg [sN (.store 3 (.t 2) (.t 89))]))) (.ret))))⟩
theorem s99_ok:slimF Try.prog ⟨[31,36,37,38,40,41,42,44,45,59,60,61,65,66,67,71,72,73,81,82,84,92,93,98,99,102,104],[],[36,37,38,40,41,42,59,60,61,65,66,67,81,82,92,93,98,99,102,104],[]⟩ Try.f99=some s99:=by kernel_rfl
def s103:SF:=⟨4,[.cell 0 true 3],.seq (.reg [sO 0 (.alloc 24 [.int .i64 0,.int .i64 0,.nilsl])]) (.seq (.reg [sO 1 (.call false 52 [.c (.int .i64 1),.c (.nilsl)]),sO 2 (.bslice 24 3 false [.int .i64 0,.int .i64 0,.nilsl] 1 [(0,.t 1)]),sO 3 (.call false 52 [.c (.int .i64 4),.t 2]),sN (.store 3 (.t 0) (.t 3))]) (.ret))⟩
theorem s103_ok:slimF Try.prog ⟨[31,36,37,38,40,41,42,44,45,59,60,61,65,66,67,71,72,73,81,82,84,92,93,98,99,102,104],[],[],[]⟩ Try.f103=some s103:=by kernel_rfl
theorem rno_pure:PureC Try.prog 103 [] (V.agg [(iV (4:Int)),(iV (0:Int)),(V.sl (List.map cF ([Fm.nd 1 0 []])))]):=by
 refine pW Try.func103 s103_ok fun hB=>?_
 unfold s103
 dsimp only
 refine W_r (R_alloc (i:=0) (n:=0) (m:=3) rfl (congrArg Blk.ver rfl) rfl (R_e (W_r (R_call (evcons (@rfl V (iV (1:Int))) (evcons (@rfl V V.nilsl) evnil)) (rnode_pure ((1:Int)) ([])) (mcons (fzv_canon 6 _ (by simp [-List.map_take,-List.map_drop,-List.map_append,-List.map_reverse])) (mcons (by rfl) rfl)) (by simp [-List.map_take,-List.map_drop,-List.map_append,-List.map_reverse]) (Or.inl (by simp [-List.map_take,-List.map_drop,-List.map_append,-List.map_reverse])) (R_bslice rfl rfl (R_callk (rnode_pure ((4:Int)) ([(Fm.nd (1:Int) (0:Int) [])])) (evcons rfl (evcons (sl_F1 (x:=((Fm.nd (1:Int) (0:Int) []))) rfl) evnil)) (R_sk rfl rfl rfl rfl rfl rfl rfl rfl rfl ?_)))))))
 refine R_e (W_ret ?_)
 refine RetC_1 (resV_c (u:=(V.agg [(iV (((4:Int)))),(iV (0:Int)),(V.sl (List.map cF (([(Fm.nd (1:Int) (0:Int) [])]))))])) rfl (@rfl Blk (bk 1 24 3 [[(iV (((4:Int)))),(iV (0:Int)),(V.sl (List.map cF (([(Fm.nd (1:Int) (0:Int) [])]))))]])) (lB oB rfl rfl)) (fz_agg3 (fz_int ?_) (fz_canon (by simp) rfl) (fz_sl ?_ (fun _=>by simp)))
 · first|rfl|omega|simp_all
 · first|rfl|omega|simp_all
def r104_1:List SO:=[
 qM 10 0,
 sO 11 (.nilck (.t 10)),
 qF 12 0 11,
 qL 13 1 12,
 sO 6 (.alloc 37 [.nilsl]),
 qI 5 0,
 sN (.store 1 (.t 6) (.t 13)),
 sO 7 (.mv (.c (.str [])))]
def r104_2:List SO:=[
 qM 14 1,
 sO 15 (.slen (.t 14)),
 qC 16 .geq 15 3,
 qM 17 16,
 ⟨some (17,true),some 18,.mv (.t 1)⟩,
 ⟨some (17,true),some 19,.sslice (.t 18) none (some (.c (.int .i64 3)))⟩,
 ⟨some (17,true),some 20,.sbin .eql (.t 19) (.c (.str [105,110,58]))⟩,
 sO 21 (.pick (.t 17) (.t 20) (.c (.bool false)))]
def r104_5:List SO:=[
 qM 24 1,
 sO 25 (.slen (.t 24)),
 qC 26 .geq 25 4,
 qM 27 26,
 ⟨some (27,true),some 28,.mv (.t 1)⟩,
 ⟨some (27,true),some 29,.sslice (.t 28) none (some (.c (.int .i64 4)))⟩,
 ⟨some (27,true),some 30,.sbin .eql (.t 29) (.c (.str [111,117,116,58]))⟩,
 sO 31 (.pick (.t 27) (.t 30) (.c (.bool false)))]
def r104_12:List SO:=[
 qL 44 1 6,
 qM 45 7,
 sO 46 (.call false 64 [.t 44,.t 45]),
 qM 43 46,
 qE 47 43 0,
 qE 48 43 1,
 qM 8 47,
 qM 9 48]
def r104_16:List SO:=[
 qM 54 0,
 qM 55 0,
 sO 56 (.nilck (.t 55)),
 qF 57 3 56,
 ql 58 57,
 qM 59 1,
 sO 60 (.slen (.t 59)),
 qP 61 .add 58 60,
 sO 62 (.nilck (.t 54)),
 qF 63 3 62,
 sN (.store 1 (.t 63) (.t 61))]
def s104:SF:=⟨67,[.cell 4 true 3],.seq (.reg [sO 4 (.alloc 24 [.int .i64 0,.int .i64 0,.nilsl])]) (.seq (.dreg [6] r104_1) (.seq (.seq (.reg r104_2) (.cond (.t 21) (.seq (.reg [qI 5 2]) (.reg [qM 22 1,sO 23 (.sslice (.t 22) (some (.c (.int .i64 3))) none),qM 7 23])) (.skip))) (.seq (.seq (.reg r104_5) (.cond (.t 31) (.seq (.reg [qI 5 3]) (.seq (.reg [qM 32 0,sO 33 (.nilck (.t 32)),qF 34 1 33,qL 35 1 34,sN (.store 1 (.t 6) (.t 35))]) (.reg [qM 36 1,sO 37 (.sslice (.t 36) (some (.c (.int .i64 4))) none),qM 7 37]))) (.skip))) (.seq (.seq (.reg [qM 38 5,qC 39 .eql 38 0]) (.cond (.t 39) (.seq (.seq (.reg [qM 40 0]) (.seq (.pop (some 41) (.call 42 [.t 40,.c (.int .i64 5)])) (.reg []))) (.seq (.reg [sO 42 (.build [.int .i64 0,.int .i64 0,.nilsl] []),sN (.store 3 (.t 4) (.t 42))]) (.ret))) (.skip))) (.seq (.reg r104_12) (.seq (.seq (.reg [qM 49 9,sO 50 (.un .not (.t 49))]) (.cond (.t 50) (.seq (.seq (.reg [qM 51 0]) (.seq (.pop (some 52) (.call 42 [.t 51,.c (.int .i64 8)])) (.reg []))) (.seq (.reg [sO 53 (.build [.int .i64 0,.int .i64 0,.nilsl] []),sN (.store 3 (.t 4) (.t 53))]) (.ret))) (.skip))) (.seq (.reg r104_16) (.seq (.reg [qM 64 5,qM 65 8,sO 66 (.build [.int .i64 0,.int .i64 0,.nilsl] [(0,1,.t 64),(1,1,.t 65)]),sN (.store 3 (.t 4) (.t 66))]) (.ret)))))))))⟩
theorem s104_ok:slimF Try.prog ⟨[31,36,37,38,40,41,42,44,45,59,60,61,65,66,67,71,72,73,81,82,84,92,93,98,99,102,104],[],[36,37,38,40,41,42,59,60,61,65,66,67,81,82,92,93,98,99,102,104],[]⟩ Try.f104=some s104:=by kernel_rfl
set_option maxHeartbeats 1000000 in
theorem ratom_loc (v:Nat) (e:PE) (s:RS) (hs:OkR e s) (t:List UInt8) (ht:s.pos+t.length≤e.src.length):LocC Try.prog 104 1 [(V.mp 0 v 0 0),(V.str t)] (hpB (bk v 85 7 [[(V.sl (List.map cS (e.ia))),(V.sl (List.map cS (e.oa))),(V.str e.src),(iV ((s.pos:Nat):Int)),(iV (s.dep)),(iV (s.er)),(iV ((s.wh:Nat):Int))]])) (.ok (fmV (rAtom e t s).1) (hpB (bk v 85 7 [rCells e (rAtom e t s).2]))):=by
 refine lW (k0:=0) Try.func104 s104_ok fun hB=>?_
 unfold s104
 dsimp only
 have hlen:=hs.len
 have hpos:=hs.pos
 have hd0:=hs.d0
 have hd1:=hs.d1
 have hd2:=hs.d2
 refine W_r (R_alloc (i:=4) (n:=0) (m:=3) rfl (congrArg Blk.ver rfl) rfl (R_e (W_d (by exact (lateC rfl lateN)) (R_mv rfl (R_nilck_mp rfl rfl oB (R_fk rfl rfl (R_lk rfl rfl rfl rfl ?_)))))))
 refine R_alloc (i:=6) (n:=0) (m:=1) rfl (congrArg Blk.ver rfl) rfl (R_mv rfl (R_sk rfl rfl rfl rfl rfl rfl rfl rfl rfl (R_mv rfl (R_e (W_seq_seq (W_r (R_mv rfl ?_)))))))
 refine R_slen (s:=t) rfl (R_geq rfl rfl (R_mv rfl ?_))
 refine Ops_seg 4 (fun T H=>T 0=(V.mp 0 v 0 0)∧T 1=(V.str t)∧T 4=(V.mp 4 1 0 0)∧T 5=(iV (0:Int))∧T 6=(V.mp 6 1 0 0)∧T 7=(V.str ([]))∧T 21=(V.bool (decide (((3:Int)≤((t.length:Nat):Int))∧(List.take 3 t=[105,110,58]))))∧H 0=(bk v 85 7 [[(V.sl (List.map cS (e.ia))),(V.sl (List.map cS (e.oa))),(V.str e.src),(iV ((s.pos:Nat):Int)),(iV (s.dep)),(iV (s.er)),(iV ((s.wh:Nat):Int))]])∧H 4=(bk 1 24 3 [[(iV (0:Int)),(iV (0:Int)),V.nilsl]])∧H 6=(bk 1 37 1 [[(V.sl (List.map cS (e.ia)))]])∧True) ?_ ?_
 ·
  by_cases g1:(3:Int)≤((t.length:Nat):Int)
  ·
   refine G_yes (edT g1 rfl) (R_mv rfl (G_yes (edT g1 rfl) (R_sshi (s:=t) (m:=3) (@rfl V (V.str t)) (@rfl V (iV ((3:Nat):Int))) (by omega) (G_yes (edT g1 rfl) (R_seql (s:=(List.take 3 t)) (t:=([105,110,58])) rfl rfl (R_pickT (edT g1 rfl) rfl ?_))))))
   exact ⟨rfl,rfl,rfl,rfl,rfl,rfl,(dec_andT g1),rfl,rfl,rfl,trivial⟩
  ·
   refine G_n (edF g1 rfl) (G_n (edF g1 rfl) (G_n (edF g1 rfl) (R_pickF (edF g1 rfl) rfl ?_)))
   exact ⟨rfl,rfl,rfl,rfl,rfl,rfl,(dec_andF g1),rfl,rfl,rfl,trivial⟩
 intro T H ⟨t0,t1,t4,t5,t6,t7,t21,h0,h4,h6,_⟩
 refine R_e ?_
 refine W_seq_if t21 (fun c2=>?_) fun c2=>?_
 ·
  have q1:prB t wIn=true:=decide_eq_true (by have q:=c2; exact ⟨by have:=q.1; show 3≤t.length; omega,q.2⟩)
  refine W_seq_seq (W_r (R_mv rfl (R_e (W_r (R_mv t1 (R_sslo (s:=t) (m:=3) (@rfl V (V.str t)) (@rfl V (iV ((3:Nat):Int))) (by omega) (R_mv rfl ?_)))))))
  refine R_e (W_seq_seq (W_r (R_mv t1 (R_slen (s:=t) rfl (R_geq rfl rfl (R_mv rfl ?_))))))
  refine Ops_seg 4 (fun T H=>T 0=(V.mp 0 v 0 0)∧T 1=(V.str t)∧T 4=(V.mp 4 1 0 0)∧T 5=(iV (2:Int))∧T 6=(V.mp 6 1 0 0)∧T 7=(V.str (List.drop 3 t))∧T 31=(V.bool (decide (((4:Int)≤((t.length:Nat):Int))∧(List.take 4 t=[111,117,116,58]))))∧H 0=(bk v 85 7 [[(V.sl (List.map cS (e.ia))),(V.sl (List.map cS (e.oa))),(V.str e.src),(iV ((s.pos:Nat):Int)),(iV (s.dep)),(iV (s.er)),(iV ((s.wh:Nat):Int))]])∧H 4=(bk 1 24 3 [[(iV (0:Int)),(iV (0:Int)),V.nilsl]])∧H 6=(bk 1 37 1 [[(V.sl (List.map cS (e.ia)))]])∧True) ?_ ?_
  ·
   by_cases g3:(4:Int)≤((t.length:Nat):Int)
   ·
    refine G_yes (edT g3 rfl) (R_mv t1 (G_yes (edT g3 rfl) (R_sshi (s:=t) (m:=4) (@rfl V (V.str t)) (@rfl V (iV ((4:Nat):Int))) (by omega) (G_yes (edT g3 rfl) (R_seql (s:=(List.take 4 t)) (t:=([111,117,116,58])) rfl rfl (R_pickT (edT g3 rfl) rfl ?_))))))
    exact ⟨t0,t1,t4,rfl,t6,rfl,(dec_andT g3),h0,h4,h6,trivial⟩
   ·
    refine G_n (edF g3 rfl) (G_n (edF g3 rfl) (G_n (edF g3 rfl) (R_pickF (edF g3 rfl) rfl ?_)))
    exact ⟨t0,t1,t4,rfl,t6,rfl,(dec_andF g3),h0,h4,h6,trivial⟩
  intro T H ⟨t0,t1,t4,t5,t6,t7,t31,h0,h4,h6,_⟩
  refine R_e ?_
  refine W_seq_if t31 (fun c4=>?_) fun c4=>?_
  ·
   have q2:prB t wOut=true:=decide_eq_true (by have q:=c4; exact ⟨by have:=q.1; show 4≤t.length; omega,q.2⟩)
   refine W_seq_seq (W_r (R_mv rfl (R_e (W_seq_seq (W_r (R_mv t0 (R_nilck_mp rfl h0 oB ?_)))))))
   refine R_fk rfl h0 (R_lk rfl h0 rfl rfl (R_sk t6 rfl rfl h6 rfl rfl rfl rfl rfl (R_e (W_r (R_mv t1 (R_sslo (s:=t) (m:=4) (@rfl V (V.str t)) (@rfl V (iV ((4:Nat):Int))) (by omega) (R_mv rfl ?_)))))))
   refine R_e (W_seq_seq (W_r (R_mv rfl (R_eql rfl rfl (R_e ?_)))))
   refine W_seq_if rfl (fun c5=>?_) fun c5=>?_
   · exact absurd c5 (by decide)
   refine W_seq_skip (W_r (R_lk t6 rfl rfl rfl (R_mv rfl (R_callk (rindex_pure e.oa (List.drop 4 t)) rfl (R_mv rfl (R_ext rfl rfl (R_ext rfl rfl ?_)))))))
   refine R_mv rfl (R_mv rfl (R_e (W_seq_seq (W_r (R_mv rfl (R_notb rfl (R_e ?_)))))))
   refine W_seq_ifb rfl (fun c6=>?_) (fun c6=>?_)
   ·
    have d8:=c6
    rw [Bool.not_eq_true'] at d8
    rw [← Bool.not_eq_true] at d8
    refine W_seq_seq (W_seq_seq (W_r (R_mv t0 (R_e (W_seq_seq ?_)))))
    obtain ⟨s2,hs2⟩: ∃ q,rFail s 8=q:=⟨_,rfl⟩
    refine pop_ok (i:=0) (by have q:=rfail_loc v e s (8:Int); rw [hs2] at q; exact q) (evcons (@rfl V (V.mp 0 v 0 0)) (evcons (@rfl V (iV (8:Int))) evnil)) rfl h0 rfl rfl (fork_ (R:=fun T H=>T 4=(V.mp 4 1 0 0)∧T 51=(V.mp 0 v 0 0)∧T 52=(V.tup [])∧H 0=(bk v 85 7 [[(V.sl (List.map cS (e.ia))),(V.sl (List.map cS (e.oa))),(V.str e.src),(iV ((s2.pos:Nat):Int)),(iV (s2.dep)),(iV (s2.er)),(iV ((s2.wh:Nat):Int))]])∧H 4=(bk 1 24 3 [[(iV (0:Int)),(iV (0:Int)),V.nilsl]])∧H 6=(bk 1 37 1 [[(V.sl (List.map cS (e.oa)))]])∧True) ⟨t4,(@rfl V (V.mp 0 v 0 0)),(@rfl V (V.tup [])),rfl,h4,rfl,trivial⟩ ?_)
    intro T H ⟨t4,t51,t52,h0,h4,h6,_⟩
    refine W_reg0 (W_seq_seq (W_r (R_build rfl rfl (R_sk t4 rfl rfl h4 rfl rfl rfl rfl rfl (R_e (W_seq_ret ?_))))))
    refine RetL_ok (v:=(V.agg [(iV (0:Int)),(iV (0:Int)),(V.sl (List.map cF ([])))])) (b:=(bk v 85 7 [[(V.sl (List.map cS (e.ia))),(V.sl (List.map cS (e.oa))),(V.str e.src),(iV ((s2.pos:Nat):Int)),(iV (s2.dep)),(iV (s2.er)),(iV ((s2.wh:Nat):Int))]])) (resT1 (resV_c (u:=(V.agg [(iV (0:Int)),(iV (0:Int)),V.nilsl])) t4 (@rfl Blk (bk 1 24 3 [[(iV (0:Int)),(iV (0:Int)),V.nilsl]])) (lB oB rfl rfl))) ?_ (by simp) (FinV.agg3 (.same (cut_fin 1 _) _) (.same (cut_fin 1 _) _) .nil) h0 (by simp [locB,loc0])
    exact (in_out q1 q2).elim
   have d8:=c6
   rw [Bool.not_eq_false'] at d8
   refine W_seq_skip (W_r (R_mv t0 (R_mv t0 (R_nilck_mp rfl h0 oB (R_fk rfl h0 (R_lk rfl h0 rfl rfl (R_mv t1 ?_)))))))
   refine R_slen (s:=t) rfl (R_addN rfl rfl (by omega) (R_nilck_mp rfl h0 oB (R_fk rfl h0 (R_sk rfl rfl rfl h0 rfl rfl rfl rfl rfl (R_e ?_)))))
   refine W_seq_regc (fun T H=>T 4=(V.mp 4 1 0 0)∧H 0=(bk v 85 7 [[(V.sl (List.map cS (e.ia))),(V.sl (List.map cS (e.oa))),(V.str e.src),(iV ((s.pos+t.length:Nat):Int)),(iV (s.dep)),(iV (s.er)),(iV ((s.wh:Nat):Int))]])∧H 4=(bk 1 24 3 [[(iV (3:Int)),(iV (ixV e.oa (List.drop 4 t))),V.nilsl]])∧H 6=(bk 1 37 1 [[(V.sl (List.map cS (e.oa)))]])∧True) ?_ ?_
   ·
    refine R_mv rfl (R_mv rfl (R_build rfl rfl (R_sk t4 rfl rfl h4 rfl rfl rfl rfl rfl ?_)))
    exact R_nil ⟨t4,rfl,rfl,rfl,trivial⟩
   intro T H ⟨t4,h0,h4,h6,_⟩
   refine W_ret ?_
   refine RetL_ok (v:=(V.agg [(iV (3:Int)),(iV (ixV e.oa (List.drop 4 t))),(V.sl (List.map cF ([])))])) (b:=(bk v 85 7 [[(V.sl (List.map cS (e.ia))),(V.sl (List.map cS (e.oa))),(V.str e.src),(iV ((s.pos+t.length:Nat):Int)),(iV (s.dep)),(iV (s.er)),(iV ((s.wh:Nat):Int))]])) (resT1 (resV_c (u:=(V.agg [(iV (3:Int)),(iV (ixV e.oa (List.drop 4 t))),V.nilsl])) t4 h4 (lB oB rfl rfl))) ?_ (by simp) (FinV.agg3 (.same (cut_fin 1 _) _) (.same (cut_fin 1 _) _) .nil) h0 (by simp [locB,loc0])
   exact (in_out q1 q2).elim
  have q2: ¬prB t wOut=true:=fun q=>c4 (by have q:=of_decide_eq_true q; exact ⟨by have:4≤t.length:=q.1; omega,q.2⟩)
  refine W_seq_skip (W_seq_seq (W_r (R_mv t5 (R_eql rfl rfl (R_e ?_)))))
  refine W_seq_if rfl (fun c7=>?_) fun c7=>?_
  · exact absurd c7 (by decide)
  refine W_seq_skip (W_r (R_lk t6 h6 rfl rfl (R_mv t7 (R_callk (rindex_pure e.ia (List.drop 3 t)) rfl (R_mv rfl (R_ext rfl rfl (R_ext rfl rfl ?_)))))))
  refine R_mv rfl (R_mv rfl (R_e (W_seq_seq (W_r (R_mv rfl (R_notb rfl (R_e ?_)))))))
  refine W_seq_ifb rfl (fun c8=>?_) (fun c8=>?_)
  ·
   have d8:=c8
   rw [Bool.not_eq_true'] at d8
   rw [← Bool.not_eq_true] at d8
   refine W_seq_seq (W_seq_seq (W_r (R_mv t0 (R_e (W_seq_seq ?_)))))
   obtain ⟨s2,hs2⟩: ∃ q,rFail s 8=q:=⟨_,rfl⟩
   refine pop_ok (i:=0) (by have q:=rfail_loc v e s (8:Int); rw [hs2] at q; exact q) (evcons (@rfl V (V.mp 0 v 0 0)) (evcons (@rfl V (iV (8:Int))) evnil)) rfl h0 rfl rfl (fork_ (R:=fun T H=>T 4=(V.mp 4 1 0 0)∧T 51=(V.mp 0 v 0 0)∧T 52=(V.tup [])∧H 0=(bk v 85 7 [[(V.sl (List.map cS (e.ia))),(V.sl (List.map cS (e.oa))),(V.str e.src),(iV ((s2.pos:Nat):Int)),(iV (s2.dep)),(iV (s2.er)),(iV ((s2.wh:Nat):Int))]])∧H 4=(bk 1 24 3 [[(iV (0:Int)),(iV (0:Int)),V.nilsl]])∧H 6=(bk 1 37 1 [[(V.sl (List.map cS (e.ia)))]])∧True) ⟨t4,(@rfl V (V.mp 0 v 0 0)),(@rfl V (V.tup [])),rfl,h4,h6,trivial⟩ ?_)
   intro T H ⟨t4,t51,t52,h0,h4,h6,_⟩
   refine W_reg0 (W_seq_seq (W_r (R_build rfl rfl (R_sk t4 rfl rfl h4 rfl rfl rfl rfl rfl (R_e (W_seq_ret ?_))))))
   refine RetL_ok (v:=(V.agg [(iV (0:Int)),(iV (0:Int)),(V.sl (List.map cF ([])))])) (b:=(bk v 85 7 [[(V.sl (List.map cS (e.ia))),(V.sl (List.map cS (e.oa))),(V.str e.src),(iV ((s2.pos:Nat):Int)),(iV (s2.dep)),(iV (s2.er)),(iV ((s2.wh:Nat):Int))]])) (resT1 (resV_c (u:=(V.agg [(iV (0:Int)),(iV (0:Int)),V.nilsl])) t4 (@rfl Blk (bk 1 24 3 [[(iV (0:Int)),(iV (0:Int)),V.nilsl]])) (lB oB rfl rfl))) ?_ (by simp) (FinV.agg3 (.same (cut_fin 1 _) _) (.same (cut_fin 1 _) _) .nil) h0 (by simp [locB,loc0])
   simp only [rAtom,if_pos q1,if_neg d8,hs2]; rfl
  have d8:=c8
  rw [Bool.not_eq_false'] at d8
  refine W_seq_skip (W_r (R_mv t0 (R_mv t0 (R_nilck_mp rfl h0 oB (R_fk rfl h0 (R_lk rfl h0 rfl rfl (R_mv t1 ?_)))))))
  refine R_slen (s:=t) rfl (R_addN rfl rfl (by omega) (R_nilck_mp rfl h0 oB (R_fk rfl h0 (R_sk rfl rfl rfl h0 rfl rfl rfl rfl rfl (R_e (W_r (R_mv t5 ?_)))))))
  refine R_mv rfl (R_build rfl rfl (R_sk t4 rfl rfl h4 rfl rfl rfl rfl rfl (R_e (W_ret ?_))))
  refine RetL_ok (v:=(V.agg [(iV (2:Int)),(iV (ixV e.ia (List.drop 3 t))),(V.sl (List.map cF ([])))])) (b:=(bk v 85 7 [[(V.sl (List.map cS (e.ia))),(V.sl (List.map cS (e.oa))),(V.str e.src),(iV ((s.pos+t.length:Nat):Int)),(iV (s.dep)),(iV (s.er)),(iV ((s.wh:Nat):Int))]])) (resT1 (resV_c (u:=(V.agg [(iV (2:Int)),(iV (ixV e.ia (List.drop 3 t))),V.nilsl])) t4 (@rfl Blk (bk 1 24 3 [[(iV (2:Int)),(iV (ixV e.ia (List.drop 3 t))),V.nilsl]])) (lB oB rfl rfl))) ?_ (by simp) (FinV.agg3 (.same (cut_fin 1 _) _) (.same (cut_fin 1 _) _) .nil) (@rfl Blk (bk v 85 7 [[(V.sl (List.map cS (e.ia))),(V.sl (List.map cS (e.oa))),(V.str e.src),(iV ((s.pos+t.length:Nat):Int)),(iV (s.dep)),(iV (s.er)),(iV ((s.wh:Nat):Int))]])) (by simp [locB,loc0])
  simp only [rAtom,if_pos q1,if_pos d8]; rfl
 have q1: ¬prB t wIn=true:=fun q=>c2 (by have q:=of_decide_eq_true q; exact ⟨by have:3≤t.length:=q.1; omega,q.2⟩)
 refine W_seq_skip (W_seq_seq (W_r (R_mv t1 (R_slen (s:=t) rfl (R_geq rfl rfl (R_mv rfl ?_))))))
 refine Ops_seg 4 (fun T H=>T 0=(V.mp 0 v 0 0)∧T 1=(V.str t)∧T 4=(V.mp 4 1 0 0)∧T 5=(iV (0:Int))∧T 6=(V.mp 6 1 0 0)∧T 7=(V.str ([]))∧T 31=(V.bool (decide (((4:Int)≤((t.length:Nat):Int))∧(List.take 4 t=[111,117,116,58]))))∧H 0=(bk v 85 7 [[(V.sl (List.map cS (e.ia))),(V.sl (List.map cS (e.oa))),(V.str e.src),(iV ((s.pos:Nat):Int)),(iV (s.dep)),(iV (s.er)),(iV ((s.wh:Nat):Int))]])∧H 4=(bk 1 24 3 [[(iV (0:Int)),(iV (0:Int)),V.nilsl]])∧H 6=(bk 1 37 1 [[(V.sl (List.map cS (e.ia)))]])∧True) ?_ ?_
 ·
  by_cases g9:(4:Int)≤((t.length:Nat):Int)
  ·
   refine G_yes (edT g9 rfl) (R_mv t1 (G_yes (edT g9 rfl) (R_sshi (s:=t) (m:=4) (@rfl V (V.str t)) (@rfl V (iV ((4:Nat):Int))) (by omega) (G_yes (edT g9 rfl) (R_seql (s:=(List.take 4 t)) (t:=([111,117,116,58])) rfl rfl (R_pickT (edT g9 rfl) rfl ?_))))))
   exact ⟨t0,t1,t4,t5,t6,t7,(dec_andT g9),h0,h4,h6,trivial⟩
  ·
   refine G_n (edF g9 rfl) (G_n (edF g9 rfl) (G_n (edF g9 rfl) (R_pickF (edF g9 rfl) rfl ?_)))
   exact ⟨t0,t1,t4,t5,t6,t7,(dec_andF g9),h0,h4,h6,trivial⟩
 intro T H ⟨t0,t1,t4,t5,t6,t7,t31,h0,h4,h6,_⟩
 refine R_e ?_
 refine W_seq_if t31 (fun c10=>?_) fun c10=>?_
 ·
  have q2:prB t wOut=true:=decide_eq_true (by have q:=c10; exact ⟨by have:=q.1; show 4≤t.length; omega,q.2⟩)
  refine W_seq_seq (W_r (R_mv rfl (R_e (W_seq_seq (W_r (R_mv t0 (R_nilck_mp rfl h0 oB ?_)))))))
  refine R_fk rfl h0 (R_lk rfl h0 rfl rfl (R_sk t6 rfl rfl h6 rfl rfl rfl rfl rfl (R_e (W_r (R_mv t1 (R_sslo (s:=t) (m:=4) (@rfl V (V.str t)) (@rfl V (iV ((4:Nat):Int))) (by omega) (R_mv rfl ?_)))))))
  refine R_e (W_seq_seq (W_r (R_mv rfl (R_eql rfl rfl (R_e ?_)))))
  refine W_seq_if rfl (fun c11=>?_) fun c11=>?_
  · exact absurd c11 (by decide)
  refine W_seq_skip (W_r (R_lk t6 rfl rfl rfl (R_mv rfl (R_callk (rindex_pure e.oa (List.drop 4 t)) rfl (R_mv rfl (R_ext rfl rfl (R_ext rfl rfl ?_)))))))
  refine R_mv rfl (R_mv rfl (R_e (W_seq_seq (W_r (R_mv rfl (R_notb rfl (R_e ?_)))))))
  refine W_seq_ifb rfl (fun c12=>?_) (fun c12=>?_)
  ·
   have d8:=c12
   rw [Bool.not_eq_true'] at d8
   rw [← Bool.not_eq_true] at d8
   refine W_seq_seq (W_seq_seq (W_r (R_mv t0 (R_e (W_seq_seq ?_)))))
   obtain ⟨s2,hs2⟩: ∃ q,rFail s 8=q:=⟨_,rfl⟩
   refine pop_ok (i:=0) (by have q:=rfail_loc v e s (8:Int); rw [hs2] at q; exact q) (evcons (@rfl V (V.mp 0 v 0 0)) (evcons (@rfl V (iV (8:Int))) evnil)) rfl h0 rfl rfl (fork_ (R:=fun T H=>T 4=(V.mp 4 1 0 0)∧T 51=(V.mp 0 v 0 0)∧T 52=(V.tup [])∧H 0=(bk v 85 7 [[(V.sl (List.map cS (e.ia))),(V.sl (List.map cS (e.oa))),(V.str e.src),(iV ((s2.pos:Nat):Int)),(iV (s2.dep)),(iV (s2.er)),(iV ((s2.wh:Nat):Int))]])∧H 4=(bk 1 24 3 [[(iV (0:Int)),(iV (0:Int)),V.nilsl]])∧H 6=(bk 1 37 1 [[(V.sl (List.map cS (e.oa)))]])∧True) ⟨t4,(@rfl V (V.mp 0 v 0 0)),(@rfl V (V.tup [])),rfl,h4,rfl,trivial⟩ ?_)
   intro T H ⟨t4,t51,t52,h0,h4,h6,_⟩
   refine W_reg0 (W_seq_seq (W_r (R_build rfl rfl (R_sk t4 rfl rfl h4 rfl rfl rfl rfl rfl (R_e (W_seq_ret ?_))))))
   refine RetL_ok (v:=(V.agg [(iV (0:Int)),(iV (0:Int)),(V.sl (List.map cF ([])))])) (b:=(bk v 85 7 [[(V.sl (List.map cS (e.ia))),(V.sl (List.map cS (e.oa))),(V.str e.src),(iV ((s2.pos:Nat):Int)),(iV (s2.dep)),(iV (s2.er)),(iV ((s2.wh:Nat):Int))]])) (resT1 (resV_c (u:=(V.agg [(iV (0:Int)),(iV (0:Int)),V.nilsl])) t4 (@rfl Blk (bk 1 24 3 [[(iV (0:Int)),(iV (0:Int)),V.nilsl]])) (lB oB rfl rfl))) ?_ (by simp) (FinV.agg3 (.same (cut_fin 1 _) _) (.same (cut_fin 1 _) _) .nil) h0 (by simp [locB,loc0])
   simp only [rAtom,if_neg q1,if_pos q2,if_neg d8,hs2]; rfl
  have d8:=c12
  rw [Bool.not_eq_false'] at d8
  refine W_seq_skip (W_r (R_mv t0 (R_mv t0 (R_nilck_mp rfl h0 oB (R_fk rfl h0 (R_lk rfl h0 rfl rfl (R_mv t1 ?_)))))))
  refine R_slen (s:=t) rfl (R_addN rfl rfl (by omega) (R_nilck_mp rfl h0 oB (R_fk rfl h0 (R_sk rfl rfl rfl h0 rfl rfl rfl rfl rfl (R_e ?_)))))
  refine W_seq_regc (fun T H=>T 4=(V.mp 4 1 0 0)∧H 0=(bk v 85 7 [[(V.sl (List.map cS (e.ia))),(V.sl (List.map cS (e.oa))),(V.str e.src),(iV ((s.pos+t.length:Nat):Int)),(iV (s.dep)),(iV (s.er)),(iV ((s.wh:Nat):Int))]])∧H 4=(bk 1 24 3 [[(iV (3:Int)),(iV (ixV e.oa (List.drop 4 t))),V.nilsl]])∧H 6=(bk 1 37 1 [[(V.sl (List.map cS (e.oa)))]])∧True) ?_ ?_
  ·
   refine R_mv rfl (R_mv rfl (R_build rfl rfl (R_sk t4 rfl rfl h4 rfl rfl rfl rfl rfl ?_)))
   exact R_nil ⟨t4,rfl,rfl,rfl,trivial⟩
  intro T H ⟨t4,h0,h4,h6,_⟩
  refine W_ret ?_
  refine RetL_ok (v:=(V.agg [(iV (3:Int)),(iV (ixV e.oa (List.drop 4 t))),(V.sl (List.map cF ([])))])) (b:=(bk v 85 7 [[(V.sl (List.map cS (e.ia))),(V.sl (List.map cS (e.oa))),(V.str e.src),(iV ((s.pos+t.length:Nat):Int)),(iV (s.dep)),(iV (s.er)),(iV ((s.wh:Nat):Int))]])) (resT1 (resV_c (u:=(V.agg [(iV (3:Int)),(iV (ixV e.oa (List.drop 4 t))),V.nilsl])) t4 h4 (lB oB rfl rfl))) ?_ (by simp) (FinV.agg3 (.same (cut_fin 1 _) _) (.same (cut_fin 1 _) _) .nil) h0 (by simp [locB,loc0])
  simp only [rAtom,if_neg q1,if_pos q2,if_pos d8]; rfl
 have q2: ¬prB t wOut=true:=fun q=>c10 (by have q:=of_decide_eq_true q; exact ⟨by have:4≤t.length:=q.1; omega,q.2⟩)
 refine W_seq_skip (W_seq_seq (W_r (R_mv t5 (R_eql rfl rfl (R_e ?_)))))
 refine W_seq_if rfl (fun c13=>?_) fun c13=>?_
 ·
  refine W_seq_seq (W_seq_seq (W_r (R_mv t0 (R_e (W_seq_seq ?_)))))
  obtain ⟨s2,hs2⟩: ∃ q,rFail s 5=q:=⟨_,rfl⟩
  refine pop_ok (i:=0) (by have q:=rfail_loc v e s (5:Int); rw [hs2] at q; exact q) (evcons (@rfl V (V.mp 0 v 0 0)) (evcons (@rfl V (iV (5:Int))) evnil)) rfl h0 rfl rfl (fork_ (R:=fun T H=>T 4=(V.mp 4 1 0 0)∧T 40=(V.mp 0 v 0 0)∧T 41=(V.tup [])∧H 0=(bk v 85 7 [[(V.sl (List.map cS (e.ia))),(V.sl (List.map cS (e.oa))),(V.str e.src),(iV ((s2.pos:Nat):Int)),(iV (s2.dep)),(iV (s2.er)),(iV ((s2.wh:Nat):Int))]])∧H 4=(bk 1 24 3 [[(iV (0:Int)),(iV (0:Int)),V.nilsl]])∧H 6=(bk 1 37 1 [[(V.sl (List.map cS (e.ia)))]])∧True) ⟨t4,(@rfl V (V.mp 0 v 0 0)),(@rfl V (V.tup [])),rfl,h4,h6,trivial⟩ ?_)
  intro T H ⟨t4,t40,t41,h0,h4,h6,_⟩
  refine W_reg0 (W_seq_seq (W_r (R_build rfl rfl (R_sk t4 rfl rfl h4 rfl rfl rfl rfl rfl (R_e (W_seq_ret ?_))))))
  refine RetL_ok (v:=(V.agg [(iV (0:Int)),(iV (0:Int)),(V.sl (List.map cF ([])))])) (b:=(bk v 85 7 [[(V.sl (List.map cS (e.ia))),(V.sl (List.map cS (e.oa))),(V.str e.src),(iV ((s2.pos:Nat):Int)),(iV (s2.dep)),(iV (s2.er)),(iV ((s2.wh:Nat):Int))]])) (resT1 (resV_c (u:=(V.agg [(iV (0:Int)),(iV (0:Int)),V.nilsl])) t4 (@rfl Blk (bk 1 24 3 [[(iV (0:Int)),(iV (0:Int)),V.nilsl]])) (lB oB rfl rfl))) ?_ (by simp) (FinV.agg3 (.same (cut_fin 1 _) _) (.same (cut_fin 1 _) _) .nil) h0 (by simp [locB,loc0])
  simp only [rAtom,if_neg q1,if_neg q2,hs2]; rfl
 · exact absurd (by decide) c13
set_option maxHeartbeats 2000000 in
theorem run_step (v:Nat) (e:PE) (s:RS) (hs:OkR e s) (k:Nat) (hkb:k≤4294967296) (rihL: ∀ (s:RS) (f:Fm) (s1:RS),OkR e s→s.er=0→rF e k .bel s=some (f,s1)→LocC Try.prog 102 1 [.mp 0 v 0 0] (hpB (bk v 85 7 [rCells e s])) (.ok (fmV f) (hpB (bk v 85 7 [rCells e s1])))) (rihF: ∀ (s:RS) (f:Fm) (s1:RS),OkR e s→rF e k .form s=some (f,s1)→LocC Try.prog 40 1 [.mp 0 v 0 0] (hpB (bk v 85 7 [rCells e s])) (.ok (fmV f) (hpB (bk v 85 7 [rCells e s1])))) (fr:Fm) (sr:RS) (h:rF e (k+1) .un s=some (fr,sr)):LocC Try.prog 99 1 [(V.mp 0 v 0 0)] (hpB (bk v 85 7 [[(V.sl (List.map cS (e.ia))),(V.sl (List.map cS (e.oa))),(V.str e.src),(iV ((s.pos:Nat):Int)),(iV (s.dep)),(iV (s.er)),(iV ((s.wh:Nat):Int))]])) (.ok (fmV fr) (hpB (bk v 85 7 [rCells e sr]))):=by
 refine lW (k0:=0) Try.func99 s99_ok fun hB=>?_
 unfold s99
 dsimp only
 have hlen:=hs.len
 have hpos:=hs.pos
 have hd0:=hs.d0
 have hd1:=hs.d1
 have hd2:=hs.d2
 refine W_r (R_alloc (i:=2) (n:=0) (m:=3) rfl (congrArg Blk.ver rfl) rfl (R_e (W_seq_seq (W_r (R_mv rfl (R_e (W_seq_seq ?_)))))))
 rcases hs1:rNext e s with ⟨t,s1⟩
 obtain ⟨ks1,ks1d,ks1p,ks1e⟩:=rNext_inv hs hs1
 refine pop_ok (i:=0) (by have q:=rnext_loc v e s hs; rw [hs1] at q; exact q) (evcons (@rfl V (V.mp 0 v 0 0)) evnil) rfl (@rfl Blk (bk v 85 7 [[(V.sl (List.map cS (e.ia))),(V.sl (List.map cS (e.oa))),(V.str e.src),(iV ((s.pos:Nat):Int)),(iV (s.dep)),(iV (s.er)),(iV ((s.wh:Nat):Int))]])) rfl rfl (fork_ (R:=fun T H=>T 0=(V.mp 0 v 0 0)∧T 2=(V.mp 2 1 0 0)∧T 5=(V.mp 0 v 0 0)∧T 6=(V.str t)∧H 0=(bk v 85 7 [[(V.sl (List.map cS (e.ia))),(V.sl (List.map cS (e.oa))),(V.str e.src),(iV ((s1.pos:Nat):Int)),(iV (s1.dep)),(iV (s1.er)),(iV ((s1.wh:Nat):Int))]])∧H 2=(bk 1 24 3 [[(iV (0:Int)),(iV (0:Int)),V.nilsl]])∧H 4=(⟨0,false,false,0,0,[]⟩:Blk)∧True) ⟨(@rfl V (V.mp 0 v 0 0)),(@rfl V (V.mp 2 1 0 0)),(@rfl V (V.mp 0 v 0 0)),(@rfl V (V.str t)),rfl,rfl,rfl,trivial⟩ ?_)
 intro T H ⟨t0,t2,t5,t6,h0,h2,h4,_⟩
 refine W_r (R_mv t6 (R_e (W_seq_blockgP fun Q1 n1 x1 y1 z1 w1=>(W_r (R_mv t0 (R_nilck_mp rfl h0 oB (R_fk rfl h0 ?_)))))))
 refine R_lk rfl h0 rfl rfl (R_neq rfl rfl (R_mv rfl (R_e ?_)))
 refine W_if rfl (fun c2=>?_) fun c2=>?_
 ·
  have d0:s1.er≠0:=c2
  refine W_r (R_build rfl rfl (R_sk t2 rfl rfl h2 rfl rfl rfl rfl rfl (R_e (W_ret (y1 _ _ ?_)))))
  refine RetL_ok (v:=(V.agg [(iV (0:Int)),(iV (0:Int)),(V.sl (List.map cF ([])))])) (b:=(bk v 85 7 [[(V.sl (List.map cS (e.ia))),(V.sl (List.map cS (e.oa))),(V.str e.src),(iV ((s1.pos:Nat):Int)),(iV (s1.dep)),(iV (s1.er)),(iV ((s1.wh:Nat):Int))]])) (resT1 (resV_c (u:=(V.agg [(iV (0:Int)),(iV (0:Int)),V.nilsl])) t2 (@rfl Blk (bk 1 24 3 [[(iV (0:Int)),(iV (0:Int)),V.nilsl]])) (lB oB rfl rfl))) ?_ (by simp) (FinV.agg3 (.same (cut_fin 1 _) _) (.same (cut_fin 1 _) _) .nil) h0 (by simp [locB,loc0])
  rw [rF,hs1] at h; simp only [if_pos d0] at h; cases h; rfl
 have d0: ¬s1.er≠0:=c2
 have nq1:rNext e s1=(t,s1):=rNext_idem hs1 (Decidable.not_not.1 d0)
 refine W_seq_seq (W_r (R_mv t0 (R_e (W_seq_seq ?_))))
 rcases hs2:rTake e [33] s1 with ⟨b1,s2⟩
 obtain ⟨ks2,ks2d,ks2b,ks2e⟩:=rTake_inv ks1 hs2
 refine pop_ok (i:=0) (by have q:=rtake_loc v e s1 ks1 [33] (by simp); rw [hs2] at q; exact q) (evcons (@rfl V (V.mp 0 v 0 0)) (evcons (@rfl V (V.str ([33]))) evnil)) rfl h0 rfl rfl (fork_ (R:=fun T H=>T 0=(V.mp 0 v 0 0)∧T 2=(V.mp 2 1 0 0)∧T 3=(V.str t)∧T 15=(V.mp 0 v 0 0)∧T 16=(V.bool b1)∧H 0=(bk v 85 7 [[(V.sl (List.map cS (e.ia))),(V.sl (List.map cS (e.oa))),(V.str e.src),(iV ((s2.pos:Nat):Int)),(iV (s2.dep)),(iV (s2.er)),(iV ((s2.wh:Nat):Int))]])∧H 2=(bk 1 24 3 [[(iV (0:Int)),(iV (0:Int)),V.nilsl]])∧H 4=(⟨0,false,false,0,0,[]⟩:Blk)∧True) ⟨t0,t2,(@rfl V (V.str t)),(@rfl V (V.mp 0 v 0 0)),(@rfl V (V.bool b1)),rfl,h2,h4,trivial⟩ ?_)
 intro T H ⟨t0,t2,t3,t15,t16,h0,h2,h4,_⟩
 refine W_r (R_mv t16 (R_e ?_))
 refine W_ifb rfl (fun c3=>?_) (fun c3=>?_)
 ·
  have hb1:b1=true:=c3
  refine W_seq_seq (W_r (R_mv t0 (R_e (W_seq_seq ?_))))
  rcases hy:rF e k .bel s2 with _|⟨f11,s11⟩
  ·
   exfalso; subst hb1; rw [rF,hs1] at h; simp only [if_neg d0,hs2,hy,rMap] at h; cases h
  ·
   obtain ⟨ks11,ks11d⟩:=rF_keeps e k .bel _ _ _ ks2 (fun _=>(ks2b hb1)) hy
   refine pop_ok (i:=0) (rihL _ _ _ ks2 (ks2b hb1) hy) (evcons (@rfl V (V.mp 0 v 0 0)) evnil) rfl h0 rfl rfl (fork_ (R:=fun T H=>T 2=(V.mp 2 1 0 0)∧T 17=(V.mp 0 v 0 0)∧T 18=(V.agg [(iV (f11.op)),(iV (f11.arg)),(V.sl (List.map cF (f11.kids)))])∧H 0=(bk v 85 7 [[(V.sl (List.map cS (e.ia))),(V.sl (List.map cS (e.oa))),(V.str e.src),(iV ((s11.pos:Nat):Int)),(iV (s11.dep)),(iV (s11.er)),(iV ((s11.wh:Nat):Int))]])∧H 2=(bk 1 24 3 [[(iV (0:Int)),(iV (0:Int)),V.nilsl]])∧H 4=(⟨0,false,false,0,0,[]⟩:Blk)∧True) ⟨t2,(@rfl V (V.mp 0 v 0 0)),(@rfl V (V.agg [(iV (f11.op)),(iV (f11.arg)),(V.sl (List.map cF (f11.kids)))])),rfl,h2,h4,trivial⟩ ?_)
   intro T H ⟨t2,t17,t18,h0,h2,h4,_⟩
   refine W_r (R_bslice (mcons (congrArg (fun v=>(0,v)) t18) rfl) rfl (R_callk (rnode_pure ((4:Int)) ([f11])) (evcons rfl (evcons (sl_F1 (x:=f11) rfl) evnil)) (R_sk t2 rfl rfl h2 rfl rfl rfl rfl rfl (R_e (W_ret (y1 _ _ ?_))))))
   refine RetL_ok (v:=(V.agg [(iV (((4:Int)))),(iV (0:Int)),(V.sl (List.map cF (([f11]))))])) (b:=(bk v 85 7 [[(V.sl (List.map cS (e.ia))),(V.sl (List.map cS (e.oa))),(V.str e.src),(iV ((s11.pos:Nat):Int)),(iV (s11.dep)),(iV (s11.er)),(iV ((s11.wh:Nat):Int))]])) (resT1 (resV_c (u:=(V.agg [(iV (((4:Int)))),(iV (0:Int)),(V.sl (List.map cF (([f11]))))])) t2 (@rfl Blk (bk 1 24 3 [[(iV (((4:Int)))),(iV (0:Int)),(V.sl (List.map cF (([f11]))))]])) (lB oB rfl rfl))) ?_ (by simp) (.same (cut_fin 1 _) _) h0 (by simp [locB,loc0])
   subst hb1; rw [rF,hs1] at h; simp only [if_neg d0,hs2,hy,rMap] at h; cases h; rfl
 have hb1:b1=false:=c3
 have e2:s2=s1:=rTake_no nq1 (hb1 ▸ hs2)
 have nq2:rNext e s2=(t,s2):=by rw [e2]; exact nq1
 refine W_seq_seq (W_r (R_mv t0 (R_e (W_seq_seq ?_))))
 rcases hs3:rTake e [88] s2 with ⟨b2,s3⟩
 obtain ⟨ks3,ks3d,ks3b,ks3e⟩:=rTake_inv ks2 hs3
 refine pop_ok (i:=0) (by have q:=rtake_loc v e s2 ks2 [88] (by simp); rw [hs3] at q; exact q) (evcons (@rfl V (V.mp 0 v 0 0)) (evcons (@rfl V (V.str ([88]))) evnil)) rfl h0 rfl rfl (fork_ (R:=fun T H=>T 0=(V.mp 0 v 0 0)∧T 2=(V.mp 2 1 0 0)∧T 3=(V.str t)∧T 22=(V.mp 0 v 0 0)∧T 23=(V.bool b2)∧H 0=(bk v 85 7 [[(V.sl (List.map cS (e.ia))),(V.sl (List.map cS (e.oa))),(V.str e.src),(iV ((s3.pos:Nat):Int)),(iV (s3.dep)),(iV (s3.er)),(iV ((s3.wh:Nat):Int))]])∧H 2=(bk 1 24 3 [[(iV (0:Int)),(iV (0:Int)),V.nilsl]])∧H 4=(⟨0,false,false,0,0,[]⟩:Blk)∧True) ⟨t0,t2,t3,(@rfl V (V.mp 0 v 0 0)),(@rfl V (V.bool b2)),rfl,h2,h4,trivial⟩ ?_)
 intro T H ⟨t0,t2,t3,t22,t23,h0,h2,h4,_⟩
 refine W_r (R_mv t23 (R_e ?_))
 refine W_ifb rfl (fun c4=>?_) (fun c4=>?_)
 ·
  have hb2:b2=true:=c4
  refine W_seq_seq (W_r (R_mv t0 (R_e (W_seq_seq ?_))))
  rcases hy:rF e k .bel s3 with _|⟨f11,s11⟩
  ·
   exfalso; subst hb1; subst hb2; rw [rF,hs1] at h; simp only [if_neg d0,hs2,hs3,hy,rMap] at h; cases h
  ·
   obtain ⟨ks11,ks11d⟩:=rF_keeps e k .bel _ _ _ ks3 (fun _=>(ks3b hb2)) hy
   refine pop_ok (i:=0) (rihL _ _ _ ks3 (ks3b hb2) hy) (evcons (@rfl V (V.mp 0 v 0 0)) evnil) rfl h0 rfl rfl (fork_ (R:=fun T H=>T 2=(V.mp 2 1 0 0)∧T 24=(V.mp 0 v 0 0)∧T 25=(V.agg [(iV (f11.op)),(iV (f11.arg)),(V.sl (List.map cF (f11.kids)))])∧H 0=(bk v 85 7 [[(V.sl (List.map cS (e.ia))),(V.sl (List.map cS (e.oa))),(V.str e.src),(iV ((s11.pos:Nat):Int)),(iV (s11.dep)),(iV (s11.er)),(iV ((s11.wh:Nat):Int))]])∧H 2=(bk 1 24 3 [[(iV (0:Int)),(iV (0:Int)),V.nilsl]])∧H 4=(⟨0,false,false,0,0,[]⟩:Blk)∧True) ⟨t2,(@rfl V (V.mp 0 v 0 0)),(@rfl V (V.agg [(iV (f11.op)),(iV (f11.arg)),(V.sl (List.map cF (f11.kids)))])),rfl,h2,h4,trivial⟩ ?_)
   intro T H ⟨t2,t24,t25,h0,h2,h4,_⟩
   refine W_r (R_bslice (mcons (congrArg (fun v=>(0,v)) t25) rfl) rfl (R_callk (rnode_pure ((7:Int)) ([f11])) (evcons rfl (evcons (sl_F1 (x:=f11) rfl) evnil)) (R_sk t2 rfl rfl h2 rfl rfl rfl rfl rfl (R_e (W_ret (y1 _ _ ?_))))))
   refine RetL_ok (v:=(V.agg [(iV (((7:Int)))),(iV (0:Int)),(V.sl (List.map cF (([f11]))))])) (b:=(bk v 85 7 [[(V.sl (List.map cS (e.ia))),(V.sl (List.map cS (e.oa))),(V.str e.src),(iV ((s11.pos:Nat):Int)),(iV (s11.dep)),(iV (s11.er)),(iV ((s11.wh:Nat):Int))]])) (resT1 (resV_c (u:=(V.agg [(iV (((7:Int)))),(iV (0:Int)),(V.sl (List.map cF (([f11]))))])) t2 (@rfl Blk (bk 1 24 3 [[(iV (((7:Int)))),(iV (0:Int)),(V.sl (List.map cF (([f11]))))]])) (lB oB rfl rfl))) ?_ (by simp) (.same (cut_fin 1 _) _) h0 (by simp [locB,loc0])
   subst hb1; subst hb2; rw [rF,hs1] at h; simp only [if_neg d0,hs2,hs3,hy,rMap] at h; cases h; rfl
 have hb2:b2=false:=c4
 have e3:s3=s2:=rTake_no nq2 (hb2 ▸ hs3)
 have nq3:rNext e s3=(t,s3):=by rw [e3]; exact nq2
 refine W_seq_seq (W_r (R_mv t0 (R_e (W_seq_seq ?_))))
 rcases hs4:rTake e [78] s3 with ⟨b3,s4⟩
 obtain ⟨ks4,ks4d,ks4b,ks4e⟩:=rTake_inv ks3 hs4
 refine pop_ok (i:=0) (by have q:=rtake_loc v e s3 ks3 [78] (by simp); rw [hs4] at q; exact q) (evcons (@rfl V (V.mp 0 v 0 0)) (evcons (@rfl V (V.str ([78]))) evnil)) rfl h0 rfl rfl (fork_ (R:=fun T H=>T 0=(V.mp 0 v 0 0)∧T 2=(V.mp 2 1 0 0)∧T 3=(V.str t)∧T 29=(V.mp 0 v 0 0)∧T 30=(V.bool b3)∧H 0=(bk v 85 7 [[(V.sl (List.map cS (e.ia))),(V.sl (List.map cS (e.oa))),(V.str e.src),(iV ((s4.pos:Nat):Int)),(iV (s4.dep)),(iV (s4.er)),(iV ((s4.wh:Nat):Int))]])∧H 2=(bk 1 24 3 [[(iV (0:Int)),(iV (0:Int)),V.nilsl]])∧H 4=(⟨0,false,false,0,0,[]⟩:Blk)∧True) ⟨t0,t2,t3,(@rfl V (V.mp 0 v 0 0)),(@rfl V (V.bool b3)),rfl,h2,h4,trivial⟩ ?_)
 intro T H ⟨t0,t2,t3,t29,t30,h0,h2,h4,_⟩
 refine W_r (R_mv t30 (R_e ?_))
 refine W_ifb rfl (fun c5=>?_) (fun c5=>?_)
 ·
  have hb3:b3=true:=c5
  refine W_seq_seq (W_r (R_mv t0 (R_e (W_seq_seq ?_))))
  rcases hy:rF e k .bel s4 with _|⟨f11,s11⟩
  ·
   exfalso; subst hb1; subst hb2; subst hb3; rw [rF,hs1] at h; simp only [if_neg d0,hs2,hs3,hs4,hy,rMap] at h; cases h
  ·
   obtain ⟨ks11,ks11d⟩:=rF_keeps e k .bel _ _ _ ks4 (fun _=>(ks4b hb3)) hy
   refine pop_ok (i:=0) (rihL _ _ _ ks4 (ks4b hb3) hy) (evcons (@rfl V (V.mp 0 v 0 0)) evnil) rfl h0 rfl rfl (fork_ (R:=fun T H=>T 2=(V.mp 2 1 0 0)∧T 31=(V.mp 0 v 0 0)∧T 32=(V.agg [(iV (f11.op)),(iV (f11.arg)),(V.sl (List.map cF (f11.kids)))])∧H 0=(bk v 85 7 [[(V.sl (List.map cS (e.ia))),(V.sl (List.map cS (e.oa))),(V.str e.src),(iV ((s11.pos:Nat):Int)),(iV (s11.dep)),(iV (s11.er)),(iV ((s11.wh:Nat):Int))]])∧H 2=(bk 1 24 3 [[(iV (0:Int)),(iV (0:Int)),V.nilsl]])∧H 4=(⟨0,false,false,0,0,[]⟩:Blk)∧True) ⟨t2,(@rfl V (V.mp 0 v 0 0)),(@rfl V (V.agg [(iV (f11.op)),(iV (f11.arg)),(V.sl (List.map cF (f11.kids)))])),rfl,h2,h4,trivial⟩ ?_)
   intro T H ⟨t2,t31,t32,h0,h2,h4,_⟩
   refine W_r (R_bslice (mcons (congrArg (fun v=>(0,v)) t32) rfl) rfl (R_callk (rnode_pure ((9:Int)) ([f11])) (evcons rfl (evcons (sl_F1 (x:=f11) rfl) evnil)) (R_sk t2 rfl rfl h2 rfl rfl rfl rfl rfl (R_e (W_ret (y1 _ _ ?_))))))
   refine RetL_ok (v:=(V.agg [(iV (((9:Int)))),(iV (0:Int)),(V.sl (List.map cF (([f11]))))])) (b:=(bk v 85 7 [[(V.sl (List.map cS (e.ia))),(V.sl (List.map cS (e.oa))),(V.str e.src),(iV ((s11.pos:Nat):Int)),(iV (s11.dep)),(iV (s11.er)),(iV ((s11.wh:Nat):Int))]])) (resT1 (resV_c (u:=(V.agg [(iV (((9:Int)))),(iV (0:Int)),(V.sl (List.map cF (([f11]))))])) t2 (@rfl Blk (bk 1 24 3 [[(iV (((9:Int)))),(iV (0:Int)),(V.sl (List.map cF (([f11]))))]])) (lB oB rfl rfl))) ?_ (by simp) (.same (cut_fin 1 _) _) h0 (by simp [locB,loc0])
   subst hb1; subst hb2; subst hb3; rw [rF,hs1] at h; simp only [if_neg d0,hs2,hs3,hs4,hy,rMap] at h; cases h; rfl
 have hb3:b3=false:=c5
 have e4:s4=s3:=rTake_no nq3 (hb3 ▸ hs4)
 have nq4:rNext e s4=(t,s4):=by rw [e4]; exact nq3
 refine W_seq_seq (W_r (R_mv t0 (R_e (W_seq_seq ?_))))
 rcases hs5:rTake e [70] s4 with ⟨b4,s5⟩
 obtain ⟨ks5,ks5d,ks5b,ks5e⟩:=rTake_inv ks4 hs5
 refine pop_ok (i:=0) (by have q:=rtake_loc v e s4 ks4 [70] (by simp); rw [hs5] at q; exact q) (evcons (@rfl V (V.mp 0 v 0 0)) (evcons (@rfl V (V.str ([70]))) evnil)) rfl h0 rfl rfl (fork_ (R:=fun T H=>T 0=(V.mp 0 v 0 0)∧T 2=(V.mp 2 1 0 0)∧T 3=(V.str t)∧T 36=(V.mp 0 v 0 0)∧T 37=(V.bool b4)∧H 0=(bk v 85 7 [[(V.sl (List.map cS (e.ia))),(V.sl (List.map cS (e.oa))),(V.str e.src),(iV ((s5.pos:Nat):Int)),(iV (s5.dep)),(iV (s5.er)),(iV ((s5.wh:Nat):Int))]])∧H 2=(bk 1 24 3 [[(iV (0:Int)),(iV (0:Int)),V.nilsl]])∧H 4=(⟨0,false,false,0,0,[]⟩:Blk)∧True) ⟨t0,t2,t3,(@rfl V (V.mp 0 v 0 0)),(@rfl V (V.bool b4)),rfl,h2,h4,trivial⟩ ?_)
 intro T H ⟨t0,t2,t3,t36,t37,h0,h2,h4,_⟩
 refine W_r (R_mv t37 (R_e ?_))
 refine W_ifb rfl (fun c6=>?_) (fun c6=>?_)
 ·
  have hb4:b4=true:=c6
  refine W_seq_seq (W_r (R_call (evcons (@rfl V (iV (1:Int))) (evcons (@rfl V V.nilsl) evnil)) (rnode_pure ((1:Int)) ([])) (mcons (fzv_canon 6 _ (by simp [-List.map_take,-List.map_drop,-List.map_append,-List.map_reverse])) (mcons (by rfl) rfl)) (by simp [-List.map_take,-List.map_drop,-List.map_append,-List.map_reverse]) (Or.inl (by simp [-List.map_take,-List.map_drop,-List.map_append,-List.map_reverse])) (R_mv t0 (R_e (W_seq_seq ?_)))))
  rcases hy:rF e k .bel s5 with _|⟨f11,s11⟩
  ·
   exfalso; subst hb1; subst hb2; subst hb3; subst hb4; rw [rF,hs1] at h; simp only [if_neg d0,hs2,hs3,hs4,hs5,hy,rMap] at h; cases h
  ·
   obtain ⟨ks11,ks11d⟩:=rF_keeps e k .bel _ _ _ ks5 (fun _=>(ks5b hb4)) hy
   refine pop_ok (i:=0) (rihL _ _ _ ks5 (ks5b hb4) hy) (evcons (@rfl V (V.mp 0 v 0 0)) evnil) rfl h0 rfl rfl (fork_ (R:=fun T H=>T 2=(V.mp 2 1 0 0)∧T 38=(V.agg [(iV (((1:Int)))),(iV (0:Int)),(V.sl (List.map cF (([]))))])∧T 39=(V.mp 0 v 0 0)∧T 40=(V.agg [(iV (f11.op)),(iV (f11.arg)),(V.sl (List.map cF (f11.kids)))])∧H 0=(bk v 85 7 [[(V.sl (List.map cS (e.ia))),(V.sl (List.map cS (e.oa))),(V.str e.src),(iV ((s11.pos:Nat):Int)),(iV (s11.dep)),(iV (s11.er)),(iV ((s11.wh:Nat):Int))]])∧H 2=(bk 1 24 3 [[(iV (0:Int)),(iV (0:Int)),V.nilsl]])∧H 4=(⟨0,false,false,0,0,[]⟩:Blk)∧True) ⟨t2,(@rfl V (V.agg [(iV (((1:Int)))),(iV (0:Int)),(V.sl (List.map cF (([]))))])),(@rfl V (V.mp 0 v 0 0)),(@rfl V (V.agg [(iV (f11.op)),(iV (f11.arg)),(V.sl (List.map cF (f11.kids)))])),rfl,h2,h4,trivial⟩ ?_)
   intro T H ⟨t2,t38,t39,t40,h0,h2,h4,_⟩
   refine W_r (R_bslice (mcons (congrArg (fun v=>(0,v)) t38) (mcons (congrArg (fun v=>(1,v)) t40) rfl)) rfl (R_callk (rnode_pure ((8:Int)) ([(Fm.nd (1:Int) (0:Int) []),f11])) (evcons rfl (evcons (sl_F2 (x:=((Fm.nd (1:Int) (0:Int) []))) (y:=f11) rfl) evnil)) (R_sk t2 rfl rfl h2 rfl rfl rfl rfl rfl (R_e (W_ret (y1 _ _ ?_))))))
   refine RetL_ok (v:=(V.agg [(iV (((8:Int)))),(iV (0:Int)),(V.sl (List.map cF (([(Fm.nd (1:Int) (0:Int) []),f11]))))])) (b:=(bk v 85 7 [[(V.sl (List.map cS (e.ia))),(V.sl (List.map cS (e.oa))),(V.str e.src),(iV ((s11.pos:Nat):Int)),(iV (s11.dep)),(iV (s11.er)),(iV ((s11.wh:Nat):Int))]])) (resT1 (resV_c (u:=(V.agg [(iV (((8:Int)))),(iV (0:Int)),(V.sl (List.map cF (([(Fm.nd (1:Int) (0:Int) []),f11]))))])) t2 (@rfl Blk (bk 1 24 3 [[(iV (((8:Int)))),(iV (0:Int)),(V.sl (List.map cF (([(Fm.nd (1:Int) (0:Int) []),f11]))))]])) (lB oB rfl rfl))) ?_ (by simp) (.same (cut_fin 1 _) _) h0 (by simp [locB,loc0])
   subst hb1; subst hb2; subst hb3; subst hb4; rw [rF,hs1] at h; simp only [if_neg d0,hs2,hs3,hs4,hs5,hy,rMap] at h; cases h; rfl
 have hb4:b4=false:=c6
 have e5:s5=s4:=rTake_no nq4 (hb4 ▸ hs5)
 have nq5:rNext e s5=(t,s5):=by rw [e5]; exact nq4
 refine W_seq_seq (W_r (R_mv t0 (R_e (W_seq_seq ?_))))
 rcases hs6:rTake e [71] s5 with ⟨b5,s6⟩
 obtain ⟨ks6,ks6d,ks6b,ks6e⟩:=rTake_inv ks5 hs6
 refine pop_ok (i:=0) (by have q:=rtake_loc v e s5 ks5 [71] (by simp); rw [hs6] at q; exact q) (evcons (@rfl V (V.mp 0 v 0 0)) (evcons (@rfl V (V.str ([71]))) evnil)) rfl h0 rfl rfl (fork_ (R:=fun T H=>T 0=(V.mp 0 v 0 0)∧T 2=(V.mp 2 1 0 0)∧T 3=(V.str t)∧T 44=(V.mp 0 v 0 0)∧T 45=(V.bool b5)∧H 0=(bk v 85 7 [[(V.sl (List.map cS (e.ia))),(V.sl (List.map cS (e.oa))),(V.str e.src),(iV ((s6.pos:Nat):Int)),(iV (s6.dep)),(iV (s6.er)),(iV ((s6.wh:Nat):Int))]])∧H 2=(bk 1 24 3 [[(iV (0:Int)),(iV (0:Int)),V.nilsl]])∧H 4=(⟨0,false,false,0,0,[]⟩:Blk)∧True) ⟨t0,t2,t3,(@rfl V (V.mp 0 v 0 0)),(@rfl V (V.bool b5)),rfl,h2,h4,trivial⟩ ?_)
 intro T H ⟨t0,t2,t3,t44,t45,h0,h2,h4,_⟩
 refine W_r (R_mv t45 (R_e ?_))
 refine W_ifb rfl (fun c7=>?_) (fun c7=>?_)
 ·
  have hb5:b5=true:=c7
  refine W_seq_seq (W_r (R_callk (rno_pure) rfl (R_mv t0 (R_e (W_seq_seq ?_)))))
  rcases hy:rF e k .bel s6 with _|⟨f11,s11⟩
  ·
   exfalso; subst hb1; subst hb2; subst hb3; subst hb4; subst hb5; rw [rF,hs1] at h; simp only [if_neg d0,hs2,hs3,hs4,hs5,hs6,hy,rMap] at h; cases h
  ·
   obtain ⟨ks11,ks11d⟩:=rF_keeps e k .bel _ _ _ ks6 (fun _=>(ks6b hb5)) hy
   refine pop_ok (i:=0) (rihL _ _ _ ks6 (ks6b hb5) hy) (evcons (@rfl V (V.mp 0 v 0 0)) evnil) rfl h0 rfl rfl (fork_ (R:=fun T H=>T 2=(V.mp 2 1 0 0)∧T 46=(V.agg [(iV (4:Int)),(iV (0:Int)),(V.sl (List.map cF ([Fm.nd 1 0 []])))])∧T 47=(V.mp 0 v 0 0)∧T 48=(V.agg [(iV (f11.op)),(iV (f11.arg)),(V.sl (List.map cF (f11.kids)))])∧H 0=(bk v 85 7 [[(V.sl (List.map cS (e.ia))),(V.sl (List.map cS (e.oa))),(V.str e.src),(iV ((s11.pos:Nat):Int)),(iV (s11.dep)),(iV (s11.er)),(iV ((s11.wh:Nat):Int))]])∧H 2=(bk 1 24 3 [[(iV (0:Int)),(iV (0:Int)),V.nilsl]])∧H 4=(⟨0,false,false,0,0,[]⟩:Blk)∧True) ⟨t2,(@rfl V (V.agg [(iV (4:Int)),(iV (0:Int)),(V.sl (List.map cF ([Fm.nd 1 0 []])))])),(@rfl V (V.mp 0 v 0 0)),(@rfl V (V.agg [(iV (f11.op)),(iV (f11.arg)),(V.sl (List.map cF (f11.kids)))])),rfl,h2,h4,trivial⟩ ?_)
   intro T H ⟨t2,t46,t47,t48,h0,h2,h4,_⟩
   refine W_r (R_bslice (mcons (congrArg (fun v=>(0,v)) t46) (mcons (congrArg (fun v=>(1,v)) t48) rfl)) rfl (R_callk (rnode_pure ((10:Int)) ([(Fm.nd (4:Int) (0:Int) [Fm.nd 1 0 []]),f11])) (evcons rfl (evcons (sl_F2 (x:=((Fm.nd (4:Int) (0:Int) [Fm.nd 1 0 []]))) (y:=f11) rfl) evnil)) (R_sk t2 rfl rfl h2 rfl rfl rfl rfl rfl (R_e (W_ret (y1 _ _ ?_))))))
   refine RetL_ok (v:=(V.agg [(iV (((10:Int)))),(iV (0:Int)),(V.sl (List.map cF (([(Fm.nd (4:Int) (0:Int) [Fm.nd 1 0 []]),f11]))))])) (b:=(bk v 85 7 [[(V.sl (List.map cS (e.ia))),(V.sl (List.map cS (e.oa))),(V.str e.src),(iV ((s11.pos:Nat):Int)),(iV (s11.dep)),(iV (s11.er)),(iV ((s11.wh:Nat):Int))]])) (resT1 (resV_c (u:=(V.agg [(iV (((10:Int)))),(iV (0:Int)),(V.sl (List.map cF (([(Fm.nd (4:Int) (0:Int) [Fm.nd 1 0 []]),f11]))))])) t2 (@rfl Blk (bk 1 24 3 [[(iV (((10:Int)))),(iV (0:Int)),(V.sl (List.map cF (([(Fm.nd (4:Int) (0:Int) [Fm.nd 1 0 []]),f11]))))]])) (lB oB rfl rfl))) ?_ (by simp) (.same (cut_fin 1 _) _) h0 (by simp [locB,loc0])
   subst hb1; subst hb2; subst hb3; subst hb4; subst hb5; rw [rF,hs1] at h; simp only [if_neg d0,hs2,hs3,hs4,hs5,hs6,hy,rMap] at h; cases h; rfl
 have hb5:b5=false:=c7
 have e6:s6=s5:=rTake_no nq5 (hb5 ▸ hs6)
 have nq6:rNext e s6=(t,s6):=by rw [e6]; exact nq5
 refine W_seq_seq (W_r (R_mv t0 (R_e (W_seq_seq ?_))))
 rcases hs7:rTake e [116,114,117,101] s6 with ⟨b6,s7⟩
 obtain ⟨ks7,ks7d,ks7b,ks7e⟩:=rTake_inv ks6 hs7
 refine pop_ok (i:=0) (by have q:=rtake_loc v e s6 ks6 [116,114,117,101] (by simp); rw [hs7] at q; exact q) (evcons (@rfl V (V.mp 0 v 0 0)) (evcons (@rfl V (V.str ([116,114,117,101]))) evnil)) rfl h0 rfl rfl (fork_ (R:=fun T H=>T 0=(V.mp 0 v 0 0)∧T 2=(V.mp 2 1 0 0)∧T 3=(V.str t)∧T 52=(V.mp 0 v 0 0)∧T 53=(V.bool b6)∧H 0=(bk v 85 7 [[(V.sl (List.map cS (e.ia))),(V.sl (List.map cS (e.oa))),(V.str e.src),(iV ((s7.pos:Nat):Int)),(iV (s7.dep)),(iV (s7.er)),(iV ((s7.wh:Nat):Int))]])∧H 2=(bk 1 24 3 [[(iV (0:Int)),(iV (0:Int)),V.nilsl]])∧H 4=(⟨0,false,false,0,0,[]⟩:Blk)∧True) ⟨t0,t2,t3,(@rfl V (V.mp 0 v 0 0)),(@rfl V (V.bool b6)),rfl,h2,h4,trivial⟩ ?_)
 intro T H ⟨t0,t2,t3,t52,t53,h0,h2,h4,_⟩
 refine W_r (R_mv t53 (R_e ?_))
 refine W_ifb rfl (fun c8=>?_) (fun c8=>?_)
 ·
  have hb6:b6=true:=c8
  refine W_r (R_call (evcons (@rfl V (iV (1:Int))) (evcons (@rfl V V.nilsl) evnil)) (rnode_pure ((1:Int)) ([])) (mcons (fzv_canon 6 _ (by simp [-List.map_take,-List.map_drop,-List.map_append,-List.map_reverse])) (mcons (by rfl) rfl)) (by simp [-List.map_take,-List.map_drop,-List.map_append,-List.map_reverse]) (Or.inl (by simp [-List.map_take,-List.map_drop,-List.map_append,-List.map_reverse])) (R_sk t2 rfl rfl h2 rfl rfl rfl rfl rfl (R_e (W_ret (y1 _ _ ?_)))))
  refine RetL_ok (v:=(V.agg [(iV (((1:Int)))),(iV (0:Int)),(V.sl (List.map cF (([]))))])) (b:=(bk v 85 7 [[(V.sl (List.map cS (e.ia))),(V.sl (List.map cS (e.oa))),(V.str e.src),(iV ((s7.pos:Nat):Int)),(iV (s7.dep)),(iV (s7.er)),(iV ((s7.wh:Nat):Int))]])) (resT1 (resV_c (u:=(V.agg [(iV (((1:Int)))),(iV (0:Int)),(V.sl (List.map cF (([]))))])) t2 (@rfl Blk (bk 1 24 3 [[(iV (((1:Int)))),(iV (0:Int)),(V.sl (List.map cF (([]))))]])) (lB oB rfl rfl))) ?_ (by simp) (.same (cut_fin 1 _) _) h0 (by simp [locB,loc0])
  subst hb1; subst hb2; subst hb3; subst hb4; subst hb5; subst hb6; rw [rF,hs1] at h; simp only [if_neg d0,hs2,hs3,hs4,hs5,hs6,hs7] at h; cases h; rfl
 have hb6:b6=false:=c8
 have e7:s7=s6:=rTake_no nq6 (hb6 ▸ hs7)
 have nq7:rNext e s7=(t,s7):=by rw [e7]; exact nq6
 refine W_seq_seq (W_r (R_mv t0 (R_e (W_seq_seq ?_))))
 rcases hs8:rTake e [102,97,108,115,101] s7 with ⟨b7,s8⟩
 obtain ⟨ks8,ks8d,ks8b,ks8e⟩:=rTake_inv ks7 hs8
 refine pop_ok (i:=0) (by have q:=rtake_loc v e s7 ks7 [102,97,108,115,101] (by simp); rw [hs8] at q; exact q) (evcons (@rfl V (V.mp 0 v 0 0)) (evcons (@rfl V (V.str ([102,97,108,115,101]))) evnil)) rfl h0 rfl rfl (fork_ (R:=fun T H=>T 0=(V.mp 0 v 0 0)∧T 2=(V.mp 2 1 0 0)∧T 3=(V.str t)∧T 56=(V.mp 0 v 0 0)∧T 57=(V.bool b7)∧H 0=(bk v 85 7 [[(V.sl (List.map cS (e.ia))),(V.sl (List.map cS (e.oa))),(V.str e.src),(iV ((s8.pos:Nat):Int)),(iV (s8.dep)),(iV (s8.er)),(iV ((s8.wh:Nat):Int))]])∧H 2=(bk 1 24 3 [[(iV (0:Int)),(iV (0:Int)),V.nilsl]])∧H 4=(⟨0,false,false,0,0,[]⟩:Blk)∧True) ⟨t0,t2,t3,(@rfl V (V.mp 0 v 0 0)),(@rfl V (V.bool b7)),rfl,h2,h4,trivial⟩ ?_)
 intro T H ⟨t0,t2,t3,t56,t57,h0,h2,h4,_⟩
 refine W_r (R_mv t57 (R_e ?_))
 refine W_ifb rfl (fun c9=>?_) (fun c9=>?_)
 ·
  have hb7:b7=true:=c9
  refine W_r (R_callk (rno_pure) rfl (R_sk t2 rfl rfl h2 rfl rfl rfl rfl rfl (R_e (W_ret (y1 _ _ ?_)))))
  refine RetL_ok (v:=(V.agg [(iV (4:Int)),(iV (0:Int)),(V.sl (List.map cF ([Fm.nd 1 0 []])))])) (b:=(bk v 85 7 [[(V.sl (List.map cS (e.ia))),(V.sl (List.map cS (e.oa))),(V.str e.src),(iV ((s8.pos:Nat):Int)),(iV (s8.dep)),(iV (s8.er)),(iV ((s8.wh:Nat):Int))]])) (resT1 (resV_c (u:=(V.agg [(iV (4:Int)),(iV (0:Int)),(V.sl (List.map cF ([Fm.nd 1 0 []])))])) t2 (@rfl Blk (bk 1 24 3 [[(iV (4:Int)),(iV (0:Int)),(V.sl (List.map cF ([Fm.nd 1 0 []])))]])) (lB oB rfl rfl))) ?_ (by simp) (.same (cut_fin 1 _) _) h0 (by simp [locB,loc0])
  subst hb1; subst hb2; subst hb3; subst hb4; subst hb5; subst hb6; subst hb7; rw [rF,hs1] at h; simp only [if_neg d0,hs2,hs3,hs4,hs5,hs6,hs7,hs8] at h; cases h; rfl
 have hb7:b7=false:=c9
 have e8:s8=s7:=rTake_no nq7 (hb7 ▸ hs8)
 have nq8:rNext e s8=(t,s8):=by rw [e8]; exact nq7
 refine W_seq_seq (W_r (R_mv t0 (R_e (W_seq_seq ?_))))
 rcases hs9:rTake e [40] s8 with ⟨b8,s9⟩
 obtain ⟨ks9,ks9d,ks9b,ks9e⟩:=rTake_inv ks8 hs9
 refine pop_ok (i:=0) (by have q:=rtake_loc v e s8 ks8 [40] (by simp); rw [hs9] at q; exact q) (evcons (@rfl V (V.mp 0 v 0 0)) (evcons (@rfl V (V.str ([40]))) evnil)) rfl h0 rfl rfl (fork_ (R:=fun T H=>T 0=(V.mp 0 v 0 0)∧T 2=(V.mp 2 1 0 0)∧T 3=(V.str t)∧T 60=(V.mp 0 v 0 0)∧T 61=(V.bool b8)∧H 0=(bk v 85 7 [[(V.sl (List.map cS (e.ia))),(V.sl (List.map cS (e.oa))),(V.str e.src),(iV ((s9.pos:Nat):Int)),(iV (s9.dep)),(iV (s9.er)),(iV ((s9.wh:Nat):Int))]])∧H 2=(bk 1 24 3 [[(iV (0:Int)),(iV (0:Int)),V.nilsl]])∧H 4=(⟨0,false,false,0,0,[]⟩:Blk)∧True) ⟨t0,t2,t3,(@rfl V (V.mp 0 v 0 0)),(@rfl V (V.bool b8)),rfl,h2,h4,trivial⟩ ?_)
 intro T H ⟨t0,t2,t3,t60,t61,h0,h2,h4,_⟩
 refine W_r (R_mv t61 (R_e ?_))
 refine W_ifb rfl (fun c10=>?_) (fun c10=>?_)
 ·
  have hb8:b8=true:=c10
  refine W_seq_seq (W_r (R_mv t0 (R_e (W_seq_seq ?_))))
  obtain ⟨s10,hs10⟩: ∃ q,rOpen e s9=q:=⟨_,rfl⟩
  obtain ⟨ks10,ks10d⟩:=rOpen_inv ks9 (ks9b hb8)
  rw [hs10] at ks10 ks10d
  refine pop_ok (i:=0) (by have q:=ropen_loc v e s9 ks9 (ks9b hb8); rw [hs10] at q; exact q) (evcons (@rfl V (V.mp 0 v 0 0)) evnil) rfl h0 rfl rfl (fork_ (R:=fun T H=>T 0=(V.mp 0 v 0 0)∧T 2=(V.mp 2 1 0 0)∧T 62=(V.mp 0 v 0 0)∧T 63=(V.tup [])∧H 0=(bk v 85 7 [[(V.sl (List.map cS (e.ia))),(V.sl (List.map cS (e.oa))),(V.str e.src),(iV ((s10.pos:Nat):Int)),(iV (s10.dep)),(iV (s10.er)),(iV ((s10.wh:Nat):Int))]])∧H 2=(bk 1 24 3 [[(iV (0:Int)),(iV (0:Int)),V.nilsl]])∧H 4=(⟨0,false,false,0,0,[]⟩:Blk)∧True) ⟨t0,t2,(@rfl V (V.mp 0 v 0 0)),(@rfl V (V.tup [])),rfl,h2,h4,trivial⟩ ?_)
  intro T H ⟨t0,t2,t62,t63,h0,h2,h4,_⟩
  refine W_reg0 (W_r (R_build rfl rfl (R_alloc (i:=4) (n:=0) (m:=3) rfl (congrArg Blk.ver h4) rfl (R_sk rfl rfl rfl rfl rfl rfl rfl rfl rfl (R_e (W_seq_seq (W_r ?_)))))))
  refine R_mv t0 (R_nilck_mp rfl h0 oB (R_fk rfl h0 (R_lk rfl h0 rfl rfl (R_eql rfl rfl (R_e ?_)))))
  refine W_seq_if rfl (fun c11=>?_) fun c11=>?_
  ·
   have d1:s10.er=0:=c11
   refine W_seq_seq (W_r (R_mv t0 (R_e (W_seq_seq ?_))))
   rcases hy:rF e k .form s10 with _|⟨f11,s11⟩
   ·
    exfalso; subst hb1; subst hb2; subst hb3; subst hb4; subst hb5; subst hb6; subst hb7; subst hb8; rw [rF,hs1] at h; simp only [if_neg d0,hs2,hs3,hs4,hs5,hs6,hs7,hs8,hs9,hs10,if_pos d1,hy,rClo] at h; cases h
   ·
    obtain ⟨ks11,ks11d⟩:=rF_keeps e k .form _ _ _ ks10 (fun q=>by cases q) hy
    refine pop_ok (i:=0) (rihF _ _ _ ks10 hy) (evcons (@rfl V (V.mp 0 v 0 0)) evnil) rfl h0 rfl rfl (fork_ (R:=fun T H=>T 0=(V.mp 0 v 0 0)∧T 2=(V.mp 2 1 0 0)∧T 4=(V.mp 4 1 0 0)∧T 70=(V.mp 0 v 0 0)∧T 71=(V.agg [(iV (f11.op)),(iV (f11.arg)),(V.sl (List.map cF (f11.kids)))])∧H 0=(bk v 85 7 [[(V.sl (List.map cS (e.ia))),(V.sl (List.map cS (e.oa))),(V.str e.src),(iV ((s11.pos:Nat):Int)),(iV (s11.dep)),(iV (s11.er)),(iV ((s11.wh:Nat):Int))]])∧H 2=(bk 1 24 3 [[(iV (0:Int)),(iV (0:Int)),V.nilsl]])∧H 4=(bk 1 24 3 [[(iV (0:Int)),(iV (0:Int)),V.nilsl]])∧True) ⟨t0,t2,(@rfl V (V.mp 4 1 0 0)),(@rfl V (V.mp 0 v 0 0)),(@rfl V (V.agg [(iV (f11.op)),(iV (f11.arg)),(V.sl (List.map cF (f11.kids)))])),rfl,h2,rfl,trivial⟩ ?_)
    intro T H ⟨t0,t2,t4,t70,t71,h0,h2,h4,_⟩
    refine W_r (R_sk t4 t71 rfl h4 rfl rfl rfl rfl rfl (R_e (W_r (R_mv t0 (R_nilck_mp rfl h0 oB (R_fk rfl h0 (R_lk rfl h0 rfl rfl ?_)))))))
    refine R_sub rfl rfl (by omega) (by omega) (R_nilck_mp rfl h0 oB (R_fk rfl h0 (R_sk rfl rfl rfl h0 rfl rfl rfl rfl rfl (R_e (W_seq_seq (W_seq_seq (W_r ?_)))))))
    refine R_mv t0 (R_e (W_seq_seq ?_))
    rcases hs12:rTake e [41] (rDn s11) with ⟨b12,s12⟩
    obtain ⟨ks12,ks12d,ks12b,ks12e⟩:=rTake_inv (rDn_inv (s:=s9) ks11 (by omega) ks9.d0).1 hs12
    refine pop_ok (i:=0) (by have q:=rtake_loc v e (rDn s11) (rDn_inv (s:=s9) ks11 (by omega) ks9.d0).1 [41] (by simp); rw [hs12] at q; exact q) (evcons (@rfl V (V.mp 0 v 0 0)) (evcons (@rfl V (V.str ([41]))) evnil)) rfl (@rfl Blk (bk v 85 7 [[(V.sl (List.map cS (e.ia))),(V.sl (List.map cS (e.oa))),(V.str e.src),(iV ((s11.pos:Nat):Int)),(iV ((s11.dep) - (1:Int))),(iV (s11.er)),(iV ((s11.wh:Nat):Int))]])) rfl rfl (fork_ (R:=fun T H=>T 0=(V.mp 0 v 0 0)∧T 2=(V.mp 2 1 0 0)∧T 4=(V.mp 4 1 0 0)∧T 79=(V.mp 0 v 0 0)∧T 80=(V.bool b12)∧H 0=(bk v 85 7 [[(V.sl (List.map cS (e.ia))),(V.sl (List.map cS (e.oa))),(V.str e.src),(iV ((s12.pos:Nat):Int)),(iV (s12.dep)),(iV (s12.er)),(iV ((s12.wh:Nat):Int))]])∧H 2=(bk 1 24 3 [[(iV (0:Int)),(iV (0:Int)),V.nilsl]])∧H 4=(bk 1 24 3 [[(iV (f11.op)),(iV (f11.arg)),(V.sl (List.map cF (f11.kids)))]])∧True) ⟨t0,t2,t4,(@rfl V (V.mp 0 v 0 0)),(@rfl V (V.bool b12)),rfl,h2,rfl,trivial⟩ ?_)
    intro T H ⟨t0,t2,t4,t79,t80,h0,h2,h4,_⟩
    refine W_r (R_notb t80 (R_e ?_))
    refine W_seq_ifb rfl (fun c12=>?_) (fun c12=>?_)
    ·
     have hb12:b12=false:=by have q:=c12; rwa [Bool.not_eq_true'] at q
     refine W_seq_seq (W_seq_seq (W_r (R_mv t0 (R_e (W_seq_seq ?_)))))
     rcases hs13:rNext e s12 with ⟨t13,s13⟩
     obtain ⟨ks13,ks13d,ks13p,ks13e⟩:=rNext_inv ks12 hs13
     refine pop_ok (i:=0) (by have q:=rnext_loc v e s12 ks12; rw [hs13] at q; exact q) (evcons (@rfl V (V.mp 0 v 0 0)) evnil) rfl h0 rfl rfl (fork_ (R:=fun T H=>T 0=(V.mp 0 v 0 0)∧T 2=(V.mp 2 1 0 0)∧T 4=(V.mp 4 1 0 0)∧T 82=(V.mp 0 v 0 0)∧T 83=(V.str t13)∧H 0=(bk v 85 7 [[(V.sl (List.map cS (e.ia))),(V.sl (List.map cS (e.oa))),(V.str e.src),(iV ((s13.pos:Nat):Int)),(iV (s13.dep)),(iV (s13.er)),(iV ((s13.wh:Nat):Int))]])∧H 2=(bk 1 24 3 [[(iV (0:Int)),(iV (0:Int)),V.nilsl]])∧H 4=(bk 1 24 3 [[(iV (f11.op)),(iV (f11.arg)),(V.sl (List.map cF (f11.kids)))]])∧True) ⟨t0,t2,t4,(@rfl V (V.mp 0 v 0 0)),(@rfl V (V.str t13)),rfl,h2,h4,trivial⟩ ?_)
     intro T H ⟨t0,t2,t4,t82,t83,h0,h2,h4,_⟩
     refine W_reg0 (W_seq_seq (W_r (R_mv t0 (R_e (W_seq_seq ?_)))))
     obtain ⟨s14,hs14⟩: ∃ q,rFail s13 5=q:=⟨_,rfl⟩
     refine pop_ok (i:=0) (by have q:=rfail_loc v e s13 (5:Int); rw [hs14] at q; exact q) (evcons (@rfl V (V.mp 0 v 0 0)) (evcons (@rfl V (iV (5:Int))) evnil)) rfl h0 rfl rfl (fork_ (R:=fun T H=>T 2=(V.mp 2 1 0 0)∧T 4=(V.mp 4 1 0 0)∧T 84=(V.mp 0 v 0 0)∧T 85=(V.tup [])∧H 0=(bk v 85 7 [[(V.sl (List.map cS (e.ia))),(V.sl (List.map cS (e.oa))),(V.str e.src),(iV ((s14.pos:Nat):Int)),(iV (s14.dep)),(iV (s14.er)),(iV ((s14.wh:Nat):Int))]])∧H 2=(bk 1 24 3 [[(iV (0:Int)),(iV (0:Int)),V.nilsl]])∧H 4=(bk 1 24 3 [[(iV (f11.op)),(iV (f11.arg)),(V.sl (List.map cF (f11.kids)))]])∧True) ⟨t2,t4,(@rfl V (V.mp 0 v 0 0)),(@rfl V (V.tup [])),rfl,h2,h4,trivial⟩ ?_)
     intro T H ⟨t2,t4,t84,t85,h0,h2,h4,_⟩
     refine W_reg0 (W_r (R_lk t4 h4 rfl rfl (R_sk t2 rfl rfl h2 rfl rfl rfl rfl rfl (R_e (W_ret (y1 _ _ ?_))))))
     refine RetL_ok (v:=(V.agg [(iV (f11.op)),(iV (f11.arg)),(V.sl (List.map cF (f11.kids)))])) (b:=(bk v 85 7 [[(V.sl (List.map cS (e.ia))),(V.sl (List.map cS (e.oa))),(V.str e.src),(iV ((s14.pos:Nat):Int)),(iV (s14.dep)),(iV (s14.er)),(iV ((s14.wh:Nat):Int))]])) (resT1 (resV_c (u:=(V.agg [(iV (f11.op)),(iV (f11.arg)),(V.sl (List.map cF (f11.kids)))])) t2 (@rfl Blk (bk 1 24 3 [[(iV (f11.op)),(iV (f11.arg)),(V.sl (List.map cF (f11.kids)))]])) (lB oB rfl rfl))) ?_ (by simp) (.same (cut_fin 1 _) _) h0 (by simp [locB,loc0])
     subst hb12; subst hb1; subst hb2; subst hb3; subst hb4; subst hb5; subst hb6; subst hb7; subst hb8; rw [rF,hs1] at h; simp only [if_neg d0,hs2,hs3,hs4,hs5,hs6,hs7,hs8,hs9,hs10,if_pos d1,hy,rClo,rClose,hs12,hs13,hs14] at h; cases h; rfl
    have hb12:b12=true:=by have q:=c12; rwa [Bool.not_eq_false'] at q
    refine W_seq_skip (W_r (R_lk t4 h4 rfl rfl (R_sk t2 rfl rfl h2 rfl rfl rfl rfl rfl (R_e (W_ret (y1 _ _ ?_))))))
    refine RetL_ok (v:=(V.agg [(iV (f11.op)),(iV (f11.arg)),(V.sl (List.map cF (f11.kids)))])) (b:=(bk v 85 7 [[(V.sl (List.map cS (e.ia))),(V.sl (List.map cS (e.oa))),(V.str e.src),(iV ((s12.pos:Nat):Int)),(iV (s12.dep)),(iV (s12.er)),(iV ((s12.wh:Nat):Int))]])) (resT1 (resV_c (u:=(V.agg [(iV (f11.op)),(iV (f11.arg)),(V.sl (List.map cF (f11.kids)))])) t2 (@rfl Blk (bk 1 24 3 [[(iV (f11.op)),(iV (f11.arg)),(V.sl (List.map cF (f11.kids)))]])) (lB oB rfl rfl))) ?_ (by simp) (.same (cut_fin 1 _) _) h0 (by simp [locB,loc0])
    subst hb12; subst hb1; subst hb2; subst hb3; subst hb4; subst hb5; subst hb6; subst hb7; subst hb8; rw [rF,hs1] at h; simp only [if_neg d0,hs2,hs3,hs4,hs5,hs6,hs7,hs8,hs9,hs10,if_pos d1,hy,rClo,rClose,hs12] at h; cases h; rfl
  have d1: ¬s10.er=0:=c11
  refine W_seq_skip (W_r (R_mv t0 (R_nilck_mp rfl h0 oB (R_fk rfl h0 (R_lk rfl h0 rfl rfl (R_sub rfl rfl (by omega) (by omega) (R_nilck_mp rfl h0 oB ?_)))))))
  refine R_fk rfl h0 (R_sk rfl rfl rfl h0 rfl rfl rfl rfl rfl (R_e (W_seq_seq (W_seq_seq (W_r (R_mv t0 (R_e ?_)))))))
  refine W_seq_seq ?_
  rcases hs12:rTake e [41] (rDn s10) with ⟨b12,s12⟩
  obtain ⟨ks12,ks12d,ks12b,ks12e⟩:=rTake_inv (rDn_inv (s:=s9) ks10 (by omega) ks9.d0).1 hs12
  refine pop_ok (i:=0) (by have q:=rtake_loc v e (rDn s10) (rDn_inv (s:=s9) ks10 (by omega) ks9.d0).1 [41] (by simp); rw [hs12] at q; exact q) (evcons (@rfl V (V.mp 0 v 0 0)) (evcons (@rfl V (V.str ([41]))) evnil)) rfl (@rfl Blk (bk v 85 7 [[(V.sl (List.map cS (e.ia))),(V.sl (List.map cS (e.oa))),(V.str e.src),(iV ((s10.pos:Nat):Int)),(iV ((s10.dep) - (1:Int))),(iV (s10.er)),(iV ((s10.wh:Nat):Int))]])) rfl rfl (fork_ (R:=fun T H=>T 0=(V.mp 0 v 0 0)∧T 2=(V.mp 2 1 0 0)∧T 4=(V.mp 4 1 0 0)∧T 79=(V.mp 0 v 0 0)∧T 80=(V.bool b12)∧H 0=(bk v 85 7 [[(V.sl (List.map cS (e.ia))),(V.sl (List.map cS (e.oa))),(V.str e.src),(iV ((s12.pos:Nat):Int)),(iV (s12.dep)),(iV (s12.er)),(iV ((s12.wh:Nat):Int))]])∧H 2=(bk 1 24 3 [[(iV (0:Int)),(iV (0:Int)),V.nilsl]])∧H 4=(bk 1 24 3 [[(iV (0:Int)),(iV (0:Int)),V.nilsl]])∧True) ⟨t0,t2,(@rfl V (V.mp 4 1 0 0)),(@rfl V (V.mp 0 v 0 0)),(@rfl V (V.bool b12)),rfl,h2,rfl,trivial⟩ ?_)
  intro T H ⟨t0,t2,t4,t79,t80,h0,h2,h4,_⟩
  refine W_r (R_notb t80 (R_e ?_))
  refine W_seq_ifb rfl (fun c13=>?_) (fun c13=>?_)
  ·
   have hb12:b12=false:=by have q:=c13; rwa [Bool.not_eq_true'] at q
   refine W_seq_seq (W_seq_seq (W_r (R_mv t0 (R_e (W_seq_seq ?_)))))
   rcases hs13:rNext e s12 with ⟨t13,s13⟩
   obtain ⟨ks13,ks13d,ks13p,ks13e⟩:=rNext_inv ks12 hs13
   refine pop_ok (i:=0) (by have q:=rnext_loc v e s12 ks12; rw [hs13] at q; exact q) (evcons (@rfl V (V.mp 0 v 0 0)) evnil) rfl h0 rfl rfl (fork_ (R:=fun T H=>T 0=(V.mp 0 v 0 0)∧T 2=(V.mp 2 1 0 0)∧T 4=(V.mp 4 1 0 0)∧T 82=(V.mp 0 v 0 0)∧T 83=(V.str t13)∧H 0=(bk v 85 7 [[(V.sl (List.map cS (e.ia))),(V.sl (List.map cS (e.oa))),(V.str e.src),(iV ((s13.pos:Nat):Int)),(iV (s13.dep)),(iV (s13.er)),(iV ((s13.wh:Nat):Int))]])∧H 2=(bk 1 24 3 [[(iV (0:Int)),(iV (0:Int)),V.nilsl]])∧H 4=(bk 1 24 3 [[(iV (0:Int)),(iV (0:Int)),V.nilsl]])∧True) ⟨t0,t2,t4,(@rfl V (V.mp 0 v 0 0)),(@rfl V (V.str t13)),rfl,h2,h4,trivial⟩ ?_)
   intro T H ⟨t0,t2,t4,t82,t83,h0,h2,h4,_⟩
   refine W_reg0 (W_seq_seq (W_r (R_mv t0 (R_e (W_seq_seq ?_)))))
   obtain ⟨s14,hs14⟩: ∃ q,rFail s13 5=q:=⟨_,rfl⟩
   refine pop_ok (i:=0) (by have q:=rfail_loc v e s13 (5:Int); rw [hs14] at q; exact q) (evcons (@rfl V (V.mp 0 v 0 0)) (evcons (@rfl V (iV (5:Int))) evnil)) rfl h0 rfl rfl (fork_ (R:=fun T H=>T 2=(V.mp 2 1 0 0)∧T 4=(V.mp 4 1 0 0)∧T 84=(V.mp 0 v 0 0)∧T 85=(V.tup [])∧H 0=(bk v 85 7 [[(V.sl (List.map cS (e.ia))),(V.sl (List.map cS (e.oa))),(V.str e.src),(iV ((s14.pos:Nat):Int)),(iV (s14.dep)),(iV (s14.er)),(iV ((s14.wh:Nat):Int))]])∧H 2=(bk 1 24 3 [[(iV (0:Int)),(iV (0:Int)),V.nilsl]])∧H 4=(bk 1 24 3 [[(iV (0:Int)),(iV (0:Int)),V.nilsl]])∧True) ⟨t2,t4,(@rfl V (V.mp 0 v 0 0)),(@rfl V (V.tup [])),rfl,h2,h4,trivial⟩ ?_)
   intro T H ⟨t2,t4,t84,t85,h0,h2,h4,_⟩
   refine W_reg0 (W_r (R_lk t4 h4 rfl rfl (R_sk t2 rfl rfl h2 rfl rfl rfl rfl rfl (R_e (W_ret (y1 _ _ ?_))))))
   refine RetL_ok (v:=(V.agg [(iV (0:Int)),(iV (0:Int)),(V.sl (List.map cF ([])))])) (b:=(bk v 85 7 [[(V.sl (List.map cS (e.ia))),(V.sl (List.map cS (e.oa))),(V.str e.src),(iV ((s14.pos:Nat):Int)),(iV (s14.dep)),(iV (s14.er)),(iV ((s14.wh:Nat):Int))]])) (resT1 (resV_c (u:=(V.agg [(iV (0:Int)),(iV (0:Int)),V.nilsl])) t2 (@rfl Blk (bk 1 24 3 [[(iV (0:Int)),(iV (0:Int)),V.nilsl]])) (lB oB rfl rfl))) ?_ (by simp) (FinV.agg3 (.same (cut_fin 1 _) _) (.same (cut_fin 1 _) _) .nil) h0 (by simp [locB,loc0])
   subst hb12; subst hb1; subst hb2; subst hb3; subst hb4; subst hb5; subst hb6; subst hb7; subst hb8; rw [rF,hs1] at h; simp only [if_neg d0,hs2,hs3,hs4,hs5,hs6,hs7,hs8,hs9,hs10,if_neg d1,rClo,rClose,hs12,hs13,hs14] at h; cases h; rfl
  have hb12:b12=true:=by have q:=c13; rwa [Bool.not_eq_false'] at q
  refine W_seq_skip (W_r (R_lk t4 h4 rfl rfl (R_sk t2 rfl rfl h2 rfl rfl rfl rfl rfl (R_e (W_ret (y1 _ _ ?_))))))
  refine RetL_ok (v:=(V.agg [(iV (0:Int)),(iV (0:Int)),(V.sl (List.map cF ([])))])) (b:=(bk v 85 7 [[(V.sl (List.map cS (e.ia))),(V.sl (List.map cS (e.oa))),(V.str e.src),(iV ((s12.pos:Nat):Int)),(iV (s12.dep)),(iV (s12.er)),(iV ((s12.wh:Nat):Int))]])) (resT1 (resV_c (u:=(V.agg [(iV (0:Int)),(iV (0:Int)),V.nilsl])) t2 (@rfl Blk (bk 1 24 3 [[(iV (0:Int)),(iV (0:Int)),V.nilsl]])) (lB oB rfl rfl))) ?_ (by simp) (FinV.agg3 (.same (cut_fin 1 _) _) (.same (cut_fin 1 _) _) .nil) h0 (by simp [locB,loc0])
  subst hb12; subst hb1; subst hb2; subst hb3; subst hb4; subst hb5; subst hb6; subst hb7; subst hb8; rw [rF,hs1] at h; simp only [if_neg d0,hs2,hs3,hs4,hs5,hs6,hs7,hs8,hs9,hs10,if_neg d1,rClo,rClose,hs12] at h; cases h; rfl
 have hb8:b8=false:=c10
 have e9:s9=s8:=rTake_no nq8 (hb8 ▸ hs9)
 have nq9:rNext e s9=(t,s9):=by rw [e9]; exact nq8
 refine W_skip (n1 _ _ (.done (W_seq_seq (W_r (R_mv t0 (R_mv t3 (R_e ?_)))))))
 refine W_seq_seq ?_
 rcases ha:rAtom e t s9 with ⟨f15,s15⟩
 refine pop_ok (i:=0) (by have q:=ratom_loc v e s9 ks9 t (rNext_inv ks9 nq9).2.2.1; rw [ha] at q; exact q) (evcons (@rfl V (V.mp 0 v 0 0)) (evcons (@rfl V (V.str t)) evnil)) rfl h0 rfl rfl (fork_ (R:=fun T H=>T 2=(V.mp 2 1 0 0)∧T 87=(V.mp 0 v 0 0)∧T 88=(V.str t)∧T 89=(V.agg [(iV (f15.op)),(iV (f15.arg)),(V.sl (List.map cF (f15.kids)))])∧H 0=(bk v 85 7 [[(V.sl (List.map cS (e.ia))),(V.sl (List.map cS (e.oa))),(V.str e.src),(iV ((s15.pos:Nat):Int)),(iV (s15.dep)),(iV (s15.er)),(iV ((s15.wh:Nat):Int))]])∧H 2=(bk 1 24 3 [[(iV (0:Int)),(iV (0:Int)),V.nilsl]])∧H 4=(⟨0,false,false,0,0,[]⟩:Blk)∧True) ⟨t2,(@rfl V (V.mp 0 v 0 0)),(@rfl V (V.str t)),(@rfl V (V.agg [(iV (f15.op)),(iV (f15.arg)),(V.sl (List.map cF (f15.kids)))])),rfl,h2,h4,trivial⟩ ?_)
 intro T H ⟨t2,t87,t88,t89,h0,h2,h4,_⟩
 refine W_r (R_sk t2 t89 rfl h2 rfl rfl rfl rfl rfl (R_e (W_ret ?_)))
 refine RetL_ok (v:=(V.agg [(iV (f15.op)),(iV (f15.arg)),(V.sl (List.map cF (f15.kids)))])) (b:=(bk v 85 7 [[(V.sl (List.map cS (e.ia))),(V.sl (List.map cS (e.oa))),(V.str e.src),(iV ((s15.pos:Nat):Int)),(iV (s15.dep)),(iV (s15.er)),(iV ((s15.wh:Nat):Int))]])) (resT1 (resV_c (u:=(V.agg [(iV (f15.op)),(iV (f15.arg)),(V.sl (List.map cF (f15.kids)))])) t2 (@rfl Blk (bk 1 24 3 [[(iV (f15.op)),(iV (f15.arg)),(V.sl (List.map cF (f15.kids)))]])) (lB oB rfl rfl))) ?_ (by simp) (.same (cut_fin 1 _) _) h0 (by simp [locB,loc0])
 subst hb1; subst hb2; subst hb3; subst hb4; subst hb5; subst hb6; subst hb7; subst hb8; rw [rF,hs1] at h; simp only [if_neg d0,hs2,hs3,hs4,hs5,hs6,hs7,hs8,hs9,ha] at h; cases h; rfl
def r102_5:List SO:=[
 qM 14 0,
 sO 15 (.nilck (.t 14)),
 qF 16 4 15,
 ql 17 16,
 qC 18 .sub 17 1,
 sO 19 (.nilck (.t 14)),
 qF 20 4 19,
 sN (.store 1 (.t 20) (.t 18))]
def s102:SF:=⟨22,[.cell 2 true 3],.seq (.reg [sO 2 (.alloc 24 [.int .i64 0,.int .i64 0,.nilsl])]) (.seq (.seq (.reg [qM 4 0]) (.seq (.pop (some 5) (.call 67 [.t 4])) (.reg []))) (.seq (.reg [sO 6 (.build [.int .i64 0,.int .i64 0,.nilsl] []),sO 3 (.alloc 24 [.int .i64 0,.int .i64 0,.nilsl]),sN (.store 3 (.t 3) (.t 6))]) (.seq (.seq (.reg [qM 7 0,sO 8 (.nilck (.t 7)),qF 9 5 8,ql 10 9,qC 11 .eql 10 0]) (.cond (.t 11) (.seq (.reg [qM 12 0]) (.seq (.pop (some 13) (.call 99 [.t 12])) (.reg [sN (.store 3 (.t 3) (.t 13))]))) (.skip))) (.seq (.reg r102_5) (.seq (.reg [qL 21 3 3,sN (.store 3 (.t 2) (.t 21))]) (.ret))))))⟩
theorem s102_ok:slimF Try.prog ⟨[31,36,37,38,40,41,42,44,45,59,60,61,65,66,67,71,72,73,81,82,84,92,93,98,99,102,104],[],[36,37,38,40,41,42,59,60,61,65,66,67,81,82,92,93,98,99,102,104],[]⟩ Try.f102=some s102:=by kernel_rfl
theorem rbel_step (v:Nat) (e:PE) (s:RS) (hs:OkR e s) (h0:s.er=0) (k:Nat) (hkb:k≤4294967296) (rihU: ∀ (s:RS) (f:Fm) (s1:RS),OkR e s→rF e k .un s=some (f,s1)→LocC Try.prog 99 1 [.mp 0 v 0 0] (hpB (bk v 85 7 [rCells e s])) (.ok (fmV f) (hpB (bk v 85 7 [rCells e s1])))) (fr:Fm) (sr:RS) (h:rF e (k+1) .bel s=some (fr,sr)):LocC Try.prog 102 1 [(V.mp 0 v 0 0)] (hpB (bk v 85 7 [[(V.sl (List.map cS (e.ia))),(V.sl (List.map cS (e.oa))),(V.str e.src),(iV ((s.pos:Nat):Int)),(iV (s.dep)),(iV (s.er)),(iV ((s.wh:Nat):Int))]])) (.ok (fmV fr) (hpB (bk v 85 7 [rCells e sr]))):=by
 refine lW (k0:=0) Try.func102 s102_ok fun hB=>?_
 unfold s102
 dsimp only
 have hlen:=hs.len
 have hpos:=hs.pos
 have hd0:=hs.d0
 have hd1:=hs.d1
 have hd2:=hs.d2
 refine W_r (R_alloc (i:=2) (n:=0) (m:=3) rfl (congrArg Blk.ver rfl) rfl (R_e (W_seq_seq (W_r (R_mv rfl (R_e (W_seq_seq ?_)))))))
 obtain ⟨s1,hs1⟩: ∃ q,rOpen e s=q:=⟨_,rfl⟩
 obtain ⟨ks1,ks1d⟩:=rOpen_inv hs h0
 rw [hs1] at ks1 ks1d
 refine pop_ok (i:=0) (by have q:=ropen_loc v e s hs h0; rw [hs1] at q; exact q) (evcons (@rfl V (V.mp 0 v 0 0)) evnil) rfl (@rfl Blk (bk v 85 7 [[(V.sl (List.map cS (e.ia))),(V.sl (List.map cS (e.oa))),(V.str e.src),(iV ((s.pos:Nat):Int)),(iV (s.dep)),(iV (s.er)),(iV ((s.wh:Nat):Int))]])) rfl rfl (fork_ (R:=fun T H=>T 0=(V.mp 0 v 0 0)∧T 2=(V.mp 2 1 0 0)∧T 4=(V.mp 0 v 0 0)∧T 5=(V.tup [])∧H 0=(bk v 85 7 [[(V.sl (List.map cS (e.ia))),(V.sl (List.map cS (e.oa))),(V.str e.src),(iV ((s1.pos:Nat):Int)),(iV (s1.dep)),(iV (s1.er)),(iV ((s1.wh:Nat):Int))]])∧H 2=(bk 1 24 3 [[(iV (0:Int)),(iV (0:Int)),V.nilsl]])∧H 3=(⟨0,false,false,0,0,[]⟩:Blk)∧True) ⟨(@rfl V (V.mp 0 v 0 0)),(@rfl V (V.mp 2 1 0 0)),(@rfl V (V.mp 0 v 0 0)),(@rfl V (V.tup [])),rfl,rfl,rfl,trivial⟩ ?_)
 intro T H ⟨t0,t2,t4,t5,h0,h2,h3,_⟩
 refine W_reg0 (W_r (R_build rfl rfl (R_alloc (i:=3) (n:=0) (m:=3) rfl (congrArg Blk.ver h3) rfl (R_sk rfl rfl rfl rfl rfl rfl rfl rfl rfl (R_e (W_seq_seq (W_r ?_)))))))
 refine R_mv t0 (R_nilck_mp rfl h0 oB (R_fk rfl h0 (R_lk rfl h0 rfl rfl (R_eql rfl rfl (R_e ?_)))))
 refine W_seq_if rfl (fun c1=>?_) fun c1=>?_
 ·
  have d1:s1.er=0:=c1
  refine W_seq_seq (W_r (R_mv t0 (R_e (W_seq_seq ?_))))
  rcases hy:rF e k .un s1 with _|⟨f2,s2⟩
  ·
   exfalso; rw [rF,hs1,if_pos d1,hy] at h; cases h
  ·
   obtain ⟨ks2,ks2d⟩:=rF_keeps e k .un _ _ _ ks1 (fun q=>by cases q) hy
   refine pop_ok (i:=0) (rihU _ _ _ ks1 hy) (evcons (@rfl V (V.mp 0 v 0 0)) evnil) rfl h0 rfl rfl (fork_ (R:=fun T H=>T 0=(V.mp 0 v 0 0)∧T 2=(V.mp 2 1 0 0)∧T 3=(V.mp 3 1 0 0)∧T 12=(V.mp 0 v 0 0)∧T 13=(V.agg [(iV (f2.op)),(iV (f2.arg)),(V.sl (List.map cF (f2.kids)))])∧H 0=(bk v 85 7 [[(V.sl (List.map cS (e.ia))),(V.sl (List.map cS (e.oa))),(V.str e.src),(iV ((s2.pos:Nat):Int)),(iV (s2.dep)),(iV (s2.er)),(iV ((s2.wh:Nat):Int))]])∧H 2=(bk 1 24 3 [[(iV (0:Int)),(iV (0:Int)),V.nilsl]])∧H 3=(bk 1 24 3 [[(iV (0:Int)),(iV (0:Int)),V.nilsl]])∧True) ⟨t0,t2,(@rfl V (V.mp 3 1 0 0)),(@rfl V (V.mp 0 v 0 0)),(@rfl V (V.agg [(iV (f2.op)),(iV (f2.arg)),(V.sl (List.map cF (f2.kids)))])),rfl,h2,rfl,trivial⟩ ?_)
   intro T H ⟨t0,t2,t3,t12,t13,h0,h2,h3,_⟩
   refine W_r (R_sk t3 t13 rfl h3 rfl rfl rfl rfl rfl (R_e (W_r (R_mv t0 (R_nilck_mp rfl h0 oB (R_fk rfl h0 (R_lk rfl h0 rfl rfl ?_)))))))
   refine R_sub rfl rfl (by omega) (by omega) (R_nilck_mp rfl h0 oB (R_fk rfl h0 (R_sk rfl rfl rfl h0 rfl rfl rfl rfl rfl (R_e (W_r (R_lk t3 rfl rfl rfl (R_sk t2 rfl rfl h2 rfl rfl rfl rfl rfl ?_)))))))
   refine R_e (W_ret ?_)
   refine RetL_ok (v:=(V.agg [(iV (f2.op)),(iV (f2.arg)),(V.sl (List.map cF (f2.kids)))])) (b:=(bk v 85 7 [[(V.sl (List.map cS (e.ia))),(V.sl (List.map cS (e.oa))),(V.str e.src),(iV ((s2.pos:Nat):Int)),(iV ((s2.dep) - (1:Int))),(iV (s2.er)),(iV ((s2.wh:Nat):Int))]])) (resT1 (resV_c (u:=(V.agg [(iV (f2.op)),(iV (f2.arg)),(V.sl (List.map cF (f2.kids)))])) t2 (@rfl Blk (bk 1 24 3 [[(iV (f2.op)),(iV (f2.arg)),(V.sl (List.map cF (f2.kids)))]])) (lB oB rfl rfl))) ?_ (by simp) (.same (cut_fin 1 _) _) (@rfl Blk (bk v 85 7 [[(V.sl (List.map cS (e.ia))),(V.sl (List.map cS (e.oa))),(V.str e.src),(iV ((s2.pos:Nat):Int)),(iV ((s2.dep) - (1:Int))),(iV (s2.er)),(iV ((s2.wh:Nat):Int))]])) (by simp [locB,loc0])
   rw [rF,hs1,if_pos d1,hy] at h; cases h; rfl
 have d1: ¬s1.er=0:=c1
 refine W_seq_skip (W_r (R_mv t0 (R_nilck_mp rfl h0 oB (R_fk rfl h0 (R_lk rfl h0 rfl rfl (R_sub rfl rfl (by omega) (by omega) (R_nilck_mp rfl h0 oB ?_)))))))
 refine R_fk rfl h0 (R_sk rfl rfl rfl h0 rfl rfl rfl rfl rfl (R_e (W_r (R_lk rfl rfl rfl rfl (R_sk t2 rfl rfl h2 rfl rfl rfl rfl rfl (R_e (W_ret ?_)))))))
 refine RetL_ok (v:=(V.agg [(iV (0:Int)),(iV (0:Int)),(V.sl (List.map cF ([])))])) (b:=(bk v 85 7 [[(V.sl (List.map cS (e.ia))),(V.sl (List.map cS (e.oa))),(V.str e.src),(iV ((s1.pos:Nat):Int)),(iV ((s1.dep) - (1:Int))),(iV (s1.er)),(iV ((s1.wh:Nat):Int))]])) (resT1 (resV_c (u:=(V.agg [(iV (0:Int)),(iV (0:Int)),V.nilsl])) t2 (@rfl Blk (bk 1 24 3 [[(iV (0:Int)),(iV (0:Int)),V.nilsl]])) (lB oB rfl rfl))) ?_ (by simp) (FinV.agg3 (.same (cut_fin 1 _) _) (.same (cut_fin 1 _) _) .nil) (@rfl Blk (bk v 85 7 [[(V.sl (List.map cS (e.ia))),(V.sl (List.map cS (e.oa))),(V.str e.src),(iV ((s1.pos:Nat):Int)),(iV ((s1.dep) - (1:Int))),(iV (s1.er)),(iV ((s1.wh:Nat):Int))]])) (by simp [locB,loc0])
 rw [rF,hs1,if_neg d1] at h; cases h; rfl
theorem rF_loc (v:Nat) (e:PE): ∀ k:Nat,k≤4294967296→
    (∀ (s:RS) (f:Fm) (s1:RS),OkR e s→rF e k .form s=some (f,s1)→LocC Try.prog 40 1 [.mp 0 v 0 0] (hpB (bk v 85 7 [rCells e s])) (.ok (fmV f) (hpB (bk v 85 7 [rCells e s1]))))∧
    (∀ (s:RS) (f:Fm) (s1:RS),OkR e s→rF e k .disj s=some (f,s1)→LocC Try.prog 65 1 [.mp 0 v 0 0] (hpB (bk v 85 7 [rCells e s])) (.ok (fmV f) (hpB (bk v 85 7 [rCells e s1]))))∧
    (∀ (s:RS) (f:Fm) (s1:RS),OkR e s→rF e k .conj s=some (f,s1)→LocC Try.prog 82 1 [.mp 0 v 0 0] (hpB (bk v 85 7 [rCells e s])) (.ok (fmV f) (hpB (bk v 85 7 [rCells e s1]))))∧
    (∀ (s:RS) (f:Fm) (s1:RS),OkR e s→rF e k .bin s=some (f,s1)→LocC Try.prog 93 1 [.mp 0 v 0 0] (hpB (bk v 85 7 [rCells e s])) (.ok (fmV f) (hpB (bk v 85 7 [rCells e s1]))))∧
    (∀ (s:RS) (f:Fm) (s1:RS),OkR e s→rF e k .un s=some (f,s1)→LocC Try.prog 99 1 [.mp 0 v 0 0] (hpB (bk v 85 7 [rCells e s])) (.ok (fmV f) (hpB (bk v 85 7 [rCells e s1]))))∧
    (∀ (s:RS) (f:Fm) (s1:RS),OkR e s→s.er=0→rF e k .bel s=some (f,s1)→LocC Try.prog 102 1 [.mp 0 v 0 0] (hpB (bk v 85 7 [rCells e s])) (.ok (fmV f) (hpB (bk v 85 7 [rCells e s1]))))
  | 0, _ => by
    refine ⟨?_,?_,?_,?_,?_,?_⟩
    · intro s f s1 _ h; cases h
    · intro s f s1 _ h; cases h
    · intro s f s1 _ h; cases h
    · intro s f s1 _ h; cases h
    · intro s f s1 _ h; cases h
    · intro s f s1 _ _ h; cases h
  | k + 1, hk => by
    obtain ⟨a,b,c,d,u,l⟩:=rF_loc v e k (by omega)
    exact ⟨fun s f s1 hs h=>rform_step v e s hs k (by omega) b a f s1 h,fun s f s1 hs h=>rdisj_step v e s hs k (by omega) c f s1 h,fun s f s1 hs h=>rconj_step v e s hs k (by omega) d f s1 h,
      fun s f s1 hs h=>rbin_step v e s hs k (by omega) u d f s1 h,fun s f s1 hs h=>run_step v e s hs k (by omega) l a f s1 h,fun s f s1 hs h0 h=>rbel_step v e s hs h0 k (by omega) u f s1 h⟩
theorem rprs_pure (ia oa:List (List UInt8)) (src:List UInt8) (hn: ∀ k,k < ia.length→(nth ia k).length≤100) (hm: ∀ k,k < oa.length→(nth oa k).length≤100):PureC Try.prog 20 [(V.agg [(V.sl (List.map cS (ia)))]),(V.agg [(V.sl (List.map cS (oa)))]),(V.str src)] (V.tup [(V.agg [(iV ((prs ia oa src).1.op)),(iV ((prs ia oa src).1.arg)),(V.sl (List.map cF ((prs ia oa src).1.kids)))]),(iV ((prs ia oa src).2.1)),(iV ((prs ia oa src).2.2))]):=by
 refine pW Try.func20 s20_ok fun hB=>?_
 unfold s20
 dsimp only
 refine W_r (R_box (i:=3) (n:=0) (m:=1) (cs:=[(V.sl (List.map cS (ia)))]) rfl (congrArg Blk.ver rfl) rfl rfl rfl (R_box (i:=4) (n:=0) (m:=1) (cs:=[(V.sl (List.map cS (oa)))]) rfl (congrArg Blk.ver rfl) rfl rfl rfl (R_alloc (i:=6) (n:=0) (m:=3) rfl (congrArg Blk.ver rfl) rfl (R_mv rfl (R_mv rfl (R_e (W_seq_blockgP fun Q1 n1 x1 y1 z1 w1=>?_)))))))
 refine W_r (R_lk rfl rfl rfl rfl (R_callk (rav_pure ia (by omega)) rfl (R_neq rfl rfl (R_mv rfl (R_e ?_)))))
 refine W_if rfl (fun c2=>?_) fun c2=>?_
 ·
  have d1:aval ia≠0:=c2
  refine W_r (R_build rfl rfl (R_lk rfl rfl rfl rfl (R_callk (rav_pure ia (by omega)) rfl (R_sk rfl rfl rfl rfl rfl rfl rfl rfl rfl (R_mv rfl (R_mv rfl (R_e ?_)))))))
  refine W_ret (y1 _ _ ?_)
  refine RetC_3 (resV_c (u:=(V.agg [(iV (0:Int)),(iV (0:Int)),V.nilsl])) rfl (@rfl Blk (bk 1 24 3 [[(iV (0:Int)),(iV (0:Int)),V.nilsl]])) (lB oB rfl rfl)) (resV_t (@rfl V (iV (0:Int)))) (resV_t (@rfl V (iV (aval ia)))) (fz_agg3 (fz_int ?_) (fz_int ?_) (fz_nil ?_)) (fz_int ?_) (fz_int ?_)
  · rw [← rprs_eq,show rprs ia oa src=(fZ,0,aval ia) from by rw [rprs,if_pos d1]] <;> rfl
  · rw [← rprs_eq,show rprs ia oa src=(fZ,0,aval ia) from by rw [rprs,if_pos d1]] <;> rfl
  · rw [← rprs_eq,show rprs ia oa src=(fZ,0,aval ia) from by rw [rprs,if_pos d1]] <;> rfl
  · rw [← rprs_eq,show rprs ia oa src=(fZ,0,aval ia) from by rw [rprs,if_pos d1]] <;> rfl
  · rw [← rprs_eq,show rprs ia oa src=(fZ,0,aval ia) from by rw [rprs,if_pos d1]] <;> rfl
 have d1: ¬aval ia≠0:=c2
 refine W_r (R_lk rfl rfl rfl rfl (R_callk (rav_pure oa (by omega)) rfl (R_neq rfl rfl (R_mv rfl (R_e ?_)))))
 refine W_if rfl (fun c3=>?_) fun c3=>?_
 ·
  have d2:aval oa≠0:=c3
  refine W_r (R_build rfl rfl (R_lk rfl rfl rfl rfl (R_callk (rav_pure oa (by omega)) rfl (R_sk rfl rfl rfl rfl rfl rfl rfl rfl rfl (R_mv rfl (R_mv rfl (R_e ?_)))))))
  refine W_ret (y1 _ _ ?_)
  refine RetC_3 (resV_c (u:=(V.agg [(iV (0:Int)),(iV (0:Int)),V.nilsl])) rfl (@rfl Blk (bk 1 24 3 [[(iV (0:Int)),(iV (0:Int)),V.nilsl]])) (lB oB rfl rfl)) (resV_t (@rfl V (iV (0:Int)))) (resV_t (@rfl V (iV (aval oa)))) (fz_agg3 (fz_int ?_) (fz_int ?_) (fz_nil ?_)) (fz_int ?_) (fz_int ?_)
  · rw [← rprs_eq,show rprs ia oa src=(fZ,0,aval oa) from by rw [rprs,if_neg d1,if_pos d2]] <;> rfl
  · rw [← rprs_eq,show rprs ia oa src=(fZ,0,aval oa) from by rw [rprs,if_neg d1,if_pos d2]] <;> rfl
  · rw [← rprs_eq,show rprs ia oa src=(fZ,0,aval oa) from by rw [rprs,if_neg d1,if_pos d2]] <;> rfl
  · rw [← rprs_eq,show rprs ia oa src=(fZ,0,aval oa) from by rw [rprs,if_neg d1,if_pos d2]] <;> rfl
  · rw [← rprs_eq,show rprs ia oa src=(fZ,0,aval oa) from by rw [rprs,if_neg d1,if_pos d2]] <;> rfl
 have d2: ¬aval oa≠0:=c3
 refine W_r (R_mv rfl (R_slen (s:=src) rfl (R_gtr rfl rfl (R_mv rfl (R_e ?_)))))
 refine W_if rfl (fun c4=>?_) fun c4=>?_
 ·
  have d3:1048576 < src.length:=by have q:=c4; omega
  refine W_r (R_build rfl rfl (R_sk rfl rfl rfl rfl rfl rfl rfl rfl rfl (R_mv rfl (R_mv rfl (R_e (W_ret (y1 _ _ ?_)))))))
  refine RetC_3 (resV_c (u:=(V.agg [(iV (0:Int)),(iV (0:Int)),V.nilsl])) rfl (@rfl Blk (bk 1 24 3 [[(iV (0:Int)),(iV (0:Int)),V.nilsl]])) (lB oB rfl rfl)) (resV_t (@rfl V (iV (0:Int)))) (resV_t (@rfl V (iV (3:Int)))) (fz_agg3 (fz_int ?_) (fz_int ?_) (fz_nil ?_)) (fz_int ?_) (fz_int ?_)
  · rw [← rprs_eq,show rprs ia oa src=(fZ,0,3) from by rw [rprs,if_neg d1,if_neg d2,if_pos d3]] <;> rfl
  · rw [← rprs_eq,show rprs ia oa src=(fZ,0,3) from by rw [rprs,if_neg d1,if_neg d2,if_pos d3]] <;> rfl
  · rw [← rprs_eq,show rprs ia oa src=(fZ,0,3) from by rw [rprs,if_neg d1,if_neg d2,if_pos d3]] <;> rfl
  · rw [← rprs_eq,show rprs ia oa src=(fZ,0,3) from by rw [rprs,if_neg d1,if_neg d2,if_pos d3]] <;> rfl
  · rw [← rprs_eq,show rprs ia oa src=(fZ,0,3) from by rw [rprs,if_neg d1,if_neg d2,if_pos d3]] <;> rfl
 have d3: ¬1048576 < src.length:=by have q:=c4; omega
 refine W_skip (n1 _ _ (.done (W_r (R_lk rfl rfl rfl rfl (R_lk rfl rfl rfl rfl (R_mv rfl (R_build rfl rfl ?_)))))))
 refine R_box (i:=34) (n:=0) (m:=7) (cs:=[(V.sl (List.map cS (ia))),(V.sl (List.map cS (oa))),(V.str src),(iV (0:Int)),(iV (0:Int)),(iV (0:Int)),(iV (0:Int))]) rfl (congrArg Blk.ver rfl) rfl rfl rfl (R_mv rfl (R_e (W_seq_seq (W_r (R_mv rfl (R_e (W_seq_seq ?_)))))))
 have hs0:OkR (⟨ia,oa,src⟩:PE) rs0:=⟨by show src.length≤1048576; omega,Nat.zero_le _,by decide,by decide,fun _=>by decide⟩
 rcases hx:rF (⟨ia,oa,src⟩:PE) (2*fuE ⟨ia,oa,src⟩+8) .form rs0 with _|⟨f1,s1⟩
 ·
  exact absurd hx (rF_some (by show src.length≤1048576; omega))
 ·
  obtain ⟨ks1,ks1d⟩:=rF_keeps _ _ .form _ _ _ hs0 (fun q=>by cases q) hx
  refine pop_ok (i:=34) ((rF_loc 1 (⟨ia,oa,src⟩:PE) (2*fuE ⟨ia,oa,src⟩+8) (by unfold fuE; show 2*(4*src.length+7)+8≤_; omega)).1 _ _ _ hs0 hx) (evcons (@rfl V (V.mp 34 1 0 0)) evnil) rfl (@rfl Blk (bk 1 85 7 [[(V.sl (List.map cS (ia))),(V.sl (List.map cS (oa))),(V.str src),(iV (0:Int)),(iV (0:Int)),(iV (0:Int)),(iV (0:Int))]])) rfl rfl (fork_ (R:=fun T H=>T 2=(V.str src)∧T 6=(V.mp 6 1 0 0)∧T 9=(V.mp 34 1 0 0)∧T 35=(V.mp 34 1 0 0)∧T 36=(V.agg [(iV (f1.op)),(iV (f1.arg)),(V.sl (List.map cF (f1.kids)))])∧H 0=(⟨0,false,false,0,0,[]⟩:Blk)∧H 3=(bk 1 37 1 [[(V.sl (List.map cS (ia)))]])∧H 4=(bk 1 37 1 [[(V.sl (List.map cS (oa)))]])∧H 6=(bk 1 24 3 [[(iV (0:Int)),(iV (0:Int)),V.nilsl]])∧H 10=(⟨0,false,false,0,0,[]⟩:Blk)∧H 34=(bk 1 85 7 [[(V.sl (List.map cS (ia))),(V.sl (List.map cS (oa))),(V.str src),(iV ((s1.pos:Nat):Int)),(iV (s1.dep)),(iV (s1.er)),(iV ((s1.wh:Nat):Int))]])∧True) ⟨(@rfl V (V.str src)),(@rfl V (V.mp 6 1 0 0)),(@rfl V (V.mp 34 1 0 0)),(@rfl V (V.mp 34 1 0 0)),(@rfl V (V.agg [(iV (f1.op)),(iV (f1.arg)),(V.sl (List.map cF (f1.kids)))])),rfl,rfl,rfl,rfl,rfl,rfl,trivial⟩ ?_)
  intro T H ⟨t2,t6,t9,t35,t36,h0,h3,h4,h6,h10,h34,_⟩
  refine W_r (R_alloc (i:=10) (n:=0) (m:=3) rfl (congrArg Blk.ver h10) rfl (R_sk rfl t36 rfl rfl rfl rfl rfl rfl rfl (R_e (W_seq_seq (W_seq_seq (W_r (R_mv t9 ?_)))))))
  refine R_e (W_seq_seq ?_)
  rcases hs2:rNext (⟨ia,oa,src⟩:PE) s1 with ⟨t,s2⟩
  refine pop_ok (i:=34) (by have q:=rnext_loc 1 (⟨ia,oa,src⟩:PE) s1 ks1; rw [hs2] at q; exact q) (evcons (@rfl V (V.mp 34 1 0 0)) evnil) rfl h34 rfl rfl (fork_ (R:=fun T H=>T 2=(V.str src)∧T 6=(V.mp 6 1 0 0)∧T 9=(V.mp 34 1 0 0)∧T 10=(V.mp 10 1 0 0)∧T 37=(V.mp 34 1 0 0)∧T 38=(V.str t)∧H 0=(⟨0,false,false,0,0,[]⟩:Blk)∧H 3=(bk 1 37 1 [[(V.sl (List.map cS (ia)))]])∧H 4=(bk 1 37 1 [[(V.sl (List.map cS (oa)))]])∧H 6=(bk 1 24 3 [[(iV (0:Int)),(iV (0:Int)),V.nilsl]])∧H 10=(bk 1 24 3 [[(iV (f1.op)),(iV (f1.arg)),(V.sl (List.map cF (f1.kids)))]])∧H 34=(bk 1 85 7 [[(V.sl (List.map cS (ia))),(V.sl (List.map cS (oa))),(V.str src),(iV ((s2.pos:Nat):Int)),(iV (s2.dep)),(iV (s2.er)),(iV ((s2.wh:Nat):Int))]])∧True) ⟨t2,t6,t9,(@rfl V (V.mp 10 1 0 0)),(@rfl V (V.mp 34 1 0 0)),(@rfl V (V.str t)),h0,h3,h4,h6,rfl,rfl,trivial⟩ ?_)
  intro T H ⟨t2,t6,t9,t10,t37,t38,h0,h3,h4,h6,h10,h34,_⟩
  refine W_r (R_sneq (s:=t) (t:=([])) t38 rfl (R_e ?_))
  refine W_seq_if rfl (fun c5=>?_) fun c5=>?_
  ·
   have d4:t≠[]:=c5
   refine W_seq_seq (W_r (R_mv t9 (R_e (W_seq_seq ?_))))
   obtain ⟨s3,hs3⟩: ∃ q,rFail s2 5=q:=⟨_,rfl⟩
   refine pop_ok (i:=34) (by have q:=rfail_loc 1 (⟨ia,oa,src⟩:PE) s2 (5:Int); rw [hs3] at q; exact q) (evcons (@rfl V (V.mp 34 1 0 0)) (evcons (@rfl V (iV (5:Int))) evnil)) rfl h34 rfl rfl (fork_ (R:=fun T H=>T 2=(V.str src)∧T 6=(V.mp 6 1 0 0)∧T 9=(V.mp 34 1 0 0)∧T 10=(V.mp 10 1 0 0)∧T 40=(V.mp 34 1 0 0)∧T 41=(V.tup [])∧H 0=(⟨0,false,false,0,0,[]⟩:Blk)∧H 3=(bk 1 37 1 [[(V.sl (List.map cS (ia)))]])∧H 4=(bk 1 37 1 [[(V.sl (List.map cS (oa)))]])∧H 6=(bk 1 24 3 [[(iV (0:Int)),(iV (0:Int)),V.nilsl]])∧H 10=(bk 1 24 3 [[(iV (f1.op)),(iV (f1.arg)),(V.sl (List.map cF (f1.kids)))]])∧H 34=(bk 1 85 7 [[(V.sl (List.map cS (ia))),(V.sl (List.map cS (oa))),(V.str src),(iV ((s3.pos:Nat):Int)),(iV (s3.dep)),(iV (s3.er)),(iV ((s3.wh:Nat):Int))]])∧True) ⟨t2,t6,t9,t10,(@rfl V (V.mp 34 1 0 0)),(@rfl V (V.tup [])),h0,h3,h4,h6,h10,rfl,trivial⟩ ?_)
   intro T H ⟨t2,t6,t9,t10,t40,t41,h0,h3,h4,h6,h10,h34,_⟩
   refine W_reg0 (W_seq_seq ?_)
   refine W_seq_g (fun T H=>T 2=(V.str src)∧T 6=(V.mp 6 1 0 0)∧T 9=(V.mp 34 1 0 0)∧T 10=(V.mp 10 1 0 0)∧T 46=(V.bool (decide ((s3.er)≠(0:Int))))∧H 0=(⟨0,false,false,0,0,[]⟩:Blk)∧H 3=(bk 1 37 1 [[(V.sl (List.map cS (ia)))]])∧H 4=(bk 1 37 1 [[(V.sl (List.map cS (oa)))]])∧H 6=(bk 1 24 3 [[(iV (0:Int)),(iV (0:Int)),V.nilsl]])∧H 10=(bk 1 24 3 [[(iV (f1.op)),(iV (f1.arg)),(V.sl (List.map cF (f1.kids)))]])∧H 34=(bk 1 85 7 [[(V.sl (List.map cS (ia))),(V.sl (List.map cS (oa))),(V.str src),(iV ((s3.pos:Nat):Int)),(iV (s3.dep)),(iV (s3.er)),(iV ((s3.wh:Nat):Int))]])∧True) ?_ ?_
   ·
    refine R_mv t9 (R_nilck_mp rfl h34 oB (R_fk rfl h34 (R_lk rfl h34 rfl rfl (R_neq rfl rfl ?_))))
    exact R_nil ⟨t2,t6,t9,t10,rfl,h0,h3,h4,h6,h10,h34,trivial⟩
   intro T H ⟨t2,t6,t9,t10,t46,h0,h3,h4,h6,h10,h34,_⟩
   refine .freezeP 34 9 1 0 0 [(V.sl (List.map cS (ia))),(V.sl (List.map cS (oa))),(V.str src),(iV ((s3.pos:Nat):Int)),(iV (s3.dep)),(iV (s3.er)),(iV ((s3.wh:Nat):Int))] t9 (by rw [h34]) (by rw [h34]; rfl) (by rw [h34]; rfl) (.done ?_)
   refine fork_ (R:=fun T H=>T 2=(V.str src)∧T 6=(V.mp 6 1 0 0)∧T 9=(V.pp [(V.sl (List.map cS (ia))),(V.sl (List.map cS (oa))),(V.str src),(iV ((s3.pos:Nat):Int)),(iV (s3.dep)),(iV (s3.er)),(iV ((s3.wh:Nat):Int))])∧T 10=(V.mp 10 1 0 0)∧T 46=(V.bool (decide ((s3.er)≠(0:Int))))∧H 0=(⟨0,false,false,0,0,[]⟩:Blk)∧H 3=(bk 1 37 1 [[(V.sl (List.map cS (ia)))]])∧H 4=(bk 1 37 1 [[(V.sl (List.map cS (oa)))]])∧H 6=(bk 1 24 3 [[(iV (0:Int)),(iV (0:Int)),V.nilsl]])∧H 10=(bk 1 24 3 [[(iV (f1.op)),(iV (f1.arg)),(V.sl (List.map cF (f1.kids)))]])∧((H 34).ver=1∧(H 34).live=false)∧True) ⟨((upd_ne _ _ (by decide)).trans t2),((upd_ne _ _ (by decide)).trans t6),(upd_same _ _ _),((upd_ne _ _ (by decide)).trans t10),((upd_ne _ _ (by decide)).trans t46),(kill_ne h0 (by decide)),(kill_ne h3 (by decide)),(kill_ne h4 (by decide)),(kill_ne h6 (by decide)),(kill_ne h10 (by decide)),(kill_self (congrArg Blk.ver h34)),trivial⟩ ?_
   intro T H ⟨t2,t6,t9,t10,t46,h0,h3,h4,h6,h10,h34,_⟩
   refine W_seq_if t46 (fun c6=>?_) fun c6=>?_
   ·
    have d5:=c6
    refine W_seq_seq (W_r (R_build rfl rfl (R_mv t9 (R_nilck_pp rfl (R_fld_pp (cs':=[(iV ((s3.wh:Nat):Int))]) rfl rfl (R_ldp (v:=(iV ((s3.wh:Nat):Int))) rfl rfl (R_mv t9 ?_)))))))
    refine R_nilck_pp rfl (R_fld_pp (cs':=[(iV (s3.er)),(iV ((s3.wh:Nat):Int))]) rfl rfl (R_ldp (v:=(iV (s3.er))) rfl rfl (R_sk t6 rfl rfl h6 rfl rfl rfl rfl rfl (R_mv rfl (R_mv rfl (R_e (W_seq_ret ?_)))))))
    refine RetC_3 (resV_c (u:=(V.agg [(iV (0:Int)),(iV (0:Int)),V.nilsl])) t6 (@rfl Blk (bk 1 24 3 [[(iV (0:Int)),(iV (0:Int)),V.nilsl]])) (lB oB rfl rfl)) (resV_t (@rfl V (iV ((s3.wh:Nat):Int)))) (resV_t (@rfl V (iV (s3.er)))) (fz_agg3 (fz_int ?_) (fz_int ?_) (fz_nil ?_)) (fz_int ?_) (fz_int ?_)
    · rw [← rprs_eq,show rprs ia oa src=(fZ,(s3.wh:Int),s3.er) from by rw [rprs,if_neg d1,if_neg d2,if_neg d3,rprsE,hx]; simp only [rEnd,hs2]; rw [if_pos d4,hs3,if_pos d5]] <;> rfl
    · rw [← rprs_eq,show rprs ia oa src=(fZ,(s3.wh:Int),s3.er) from by rw [rprs,if_neg d1,if_neg d2,if_neg d3,rprsE,hx]; simp only [rEnd,hs2]; rw [if_pos d4,hs3,if_pos d5]] <;> rfl
    · rw [← rprs_eq,show rprs ia oa src=(fZ,(s3.wh:Int),s3.er) from by rw [rprs,if_neg d1,if_neg d2,if_neg d3,rprsE,hx]; simp only [rEnd,hs2]; rw [if_pos d4,hs3,if_pos d5]] <;> rfl
    · rw [← rprs_eq,show rprs ia oa src=(fZ,(s3.wh:Int),s3.er) from by rw [rprs,if_neg d1,if_neg d2,if_neg d3,rprsE,hx]; simp only [rEnd,hs2]; rw [if_pos d4,hs3,if_pos d5]] <;> rfl
    · rw [← rprs_eq,show rprs ia oa src=(fZ,(s3.wh:Int),s3.er) from by rw [rprs,if_neg d1,if_neg d2,if_neg d3,rprsE,hx]; simp only [rEnd,hs2]; rw [if_pos d4,hs3,if_pos d5]] <;> rfl
   have d5:=c6
   refine W_seq_skip (W_seq_seq (W_r (R_lk t10 h10 rfl rfl (R_callk (rfvalid_pure f1) rfl (R_neq rfl rfl (R_e ?_))))))
   refine W_seq_if rfl (fun c7=>?_) fun c7=>?_
   ·
    have d6:fval f1≠0:=c7
    refine W_seq_seq (W_r (R_build rfl rfl (R_mv t2 (R_slen (s:=src) rfl (R_lk t10 h10 rfl rfl (R_callk (rfvalid_pure f1) rfl (R_sk t6 rfl rfl h6 rfl rfl rfl rfl rfl ?_)))))))
    refine R_mv rfl (R_mv rfl (R_e (W_seq_ret ?_)))
    refine RetC_3 (resV_c (u:=(V.agg [(iV (0:Int)),(iV (0:Int)),V.nilsl])) t6 (@rfl Blk (bk 1 24 3 [[(iV (0:Int)),(iV (0:Int)),V.nilsl]])) (lB oB rfl rfl)) (resV_t (@rfl V (iV ((src.length:Nat):Int)))) (resV_t (@rfl V (iV (fval f1)))) (fz_agg3 (fz_int ?_) (fz_int ?_) (fz_nil ?_)) (fz_int ?_) (fz_int ?_)
    · rw [← rprs_eq,show rprs ia oa src=(fZ,((src.length:Nat):Int),fval f1) from by rw [rprs,if_neg d1,if_neg d2,if_neg d3,rprsE,hx]; simp only [rEnd,hs2]; rw [if_pos d4,hs3,if_neg d5,if_pos d6]] <;> rfl
    · rw [← rprs_eq,show rprs ia oa src=(fZ,((src.length:Nat):Int),fval f1) from by rw [rprs,if_neg d1,if_neg d2,if_neg d3,rprsE,hx]; simp only [rEnd,hs2]; rw [if_pos d4,hs3,if_neg d5,if_pos d6]] <;> rfl
    · rw [← rprs_eq,show rprs ia oa src=(fZ,((src.length:Nat):Int),fval f1) from by rw [rprs,if_neg d1,if_neg d2,if_neg d3,rprsE,hx]; simp only [rEnd,hs2]; rw [if_pos d4,hs3,if_neg d5,if_pos d6]] <;> rfl
    · rw [← rprs_eq,show rprs ia oa src=(fZ,((src.length:Nat):Int),fval f1) from by rw [rprs,if_neg d1,if_neg d2,if_neg d3,rprsE,hx]; simp only [rEnd,hs2]; rw [if_pos d4,hs3,if_neg d5,if_pos d6]] <;> rfl
    · rw [← rprs_eq,show rprs ia oa src=(fZ,((src.length:Nat):Int),fval f1) from by rw [rprs,if_neg d1,if_neg d2,if_neg d3,rprsE,hx]; simp only [rEnd,hs2]; rw [if_pos d4,hs3,if_neg d5,if_pos d6]] <;> rfl
   have d6: ¬fval f1≠0:=c7
   refine W_seq_skip (W_r (R_lk t10 h10 rfl rfl (R_sk t6 rfl rfl h6 rfl rfl rfl rfl rfl (R_mv rfl (R_mv rfl (R_e (W_ret ?_)))))))
   refine RetC_3 (resV_c (u:=(V.agg [(iV (f1.op)),(iV (f1.arg)),(V.sl (List.map cF (f1.kids)))])) t6 (@rfl Blk (bk 1 24 3 [[(iV (f1.op)),(iV (f1.arg)),(V.sl (List.map cF (f1.kids)))]])) (lB oB rfl rfl)) (resV_t (@rfl V (iV (0:Int)))) (resV_t (@rfl V (iV (0:Int)))) (fz_agg3 (fz_int ?_) (fz_int ?_) (fz_sl ?_ (fun _=>by simp))) (fz_int ?_) (fz_int ?_)
   · rw [← rprs_eq,show rprs ia oa src=(f1,0,0) from by rw [rprs,if_neg d1,if_neg d2,if_neg d3,rprsE,hx]; simp only [rEnd,hs2]; rw [if_pos d4,hs3,if_neg d5,if_neg d6]] <;> rfl
   · rw [← rprs_eq,show rprs ia oa src=(f1,0,0) from by rw [rprs,if_neg d1,if_neg d2,if_neg d3,rprsE,hx]; simp only [rEnd,hs2]; rw [if_pos d4,hs3,if_neg d5,if_neg d6]] <;> rfl
   · rw [← rprs_eq,show rprs ia oa src=(f1,0,0) from by rw [rprs,if_neg d1,if_neg d2,if_neg d3,rprsE,hx]; simp only [rEnd,hs2]; rw [if_pos d4,hs3,if_neg d5,if_neg d6]] <;> rfl
   · rw [← rprs_eq,show rprs ia oa src=(f1,0,0) from by rw [rprs,if_neg d1,if_neg d2,if_neg d3,rprsE,hx]; simp only [rEnd,hs2]; rw [if_pos d4,hs3,if_neg d5,if_neg d6]] <;> rfl
   · rw [← rprs_eq,show rprs ia oa src=(f1,0,0) from by rw [rprs,if_neg d1,if_neg d2,if_neg d3,rprsE,hx]; simp only [rEnd,hs2]; rw [if_pos d4,hs3,if_neg d5,if_neg d6]] <;> rfl
  have d4: ¬t≠[]:=c5
  refine W_seq_skip (W_seq_seq ?_)
  refine W_seq_g (fun T H=>T 2=(V.str src)∧T 6=(V.mp 6 1 0 0)∧T 9=(V.mp 34 1 0 0)∧T 10=(V.mp 10 1 0 0)∧T 46=(V.bool (decide ((s2.er)≠(0:Int))))∧H 0=(⟨0,false,false,0,0,[]⟩:Blk)∧H 3=(bk 1 37 1 [[(V.sl (List.map cS (ia)))]])∧H 4=(bk 1 37 1 [[(V.sl (List.map cS (oa)))]])∧H 6=(bk 1 24 3 [[(iV (0:Int)),(iV (0:Int)),V.nilsl]])∧H 10=(bk 1 24 3 [[(iV (f1.op)),(iV (f1.arg)),(V.sl (List.map cF (f1.kids)))]])∧H 34=(bk 1 85 7 [[(V.sl (List.map cS (ia))),(V.sl (List.map cS (oa))),(V.str src),(iV ((s2.pos:Nat):Int)),(iV (s2.dep)),(iV (s2.er)),(iV ((s2.wh:Nat):Int))]])∧True) ?_ ?_
  ·
   refine R_mv t9 (R_nilck_mp rfl h34 oB (R_fk rfl h34 (R_lk rfl h34 rfl rfl (R_neq rfl rfl ?_))))
   exact R_nil ⟨t2,t6,t9,t10,rfl,h0,h3,h4,h6,h10,h34,trivial⟩
  intro T H ⟨t2,t6,t9,t10,t46,h0,h3,h4,h6,h10,h34,_⟩
  refine .freezeP 34 9 1 0 0 [(V.sl (List.map cS (ia))),(V.sl (List.map cS (oa))),(V.str src),(iV ((s2.pos:Nat):Int)),(iV (s2.dep)),(iV (s2.er)),(iV ((s2.wh:Nat):Int))] t9 (by rw [h34]) (by rw [h34]; rfl) (by rw [h34]; rfl) (.done ?_)
  refine fork_ (R:=fun T H=>T 2=(V.str src)∧T 6=(V.mp 6 1 0 0)∧T 9=(V.pp [(V.sl (List.map cS (ia))),(V.sl (List.map cS (oa))),(V.str src),(iV ((s2.pos:Nat):Int)),(iV (s2.dep)),(iV (s2.er)),(iV ((s2.wh:Nat):Int))])∧T 10=(V.mp 10 1 0 0)∧T 46=(V.bool (decide ((s2.er)≠(0:Int))))∧H 0=(⟨0,false,false,0,0,[]⟩:Blk)∧H 3=(bk 1 37 1 [[(V.sl (List.map cS (ia)))]])∧H 4=(bk 1 37 1 [[(V.sl (List.map cS (oa)))]])∧H 6=(bk 1 24 3 [[(iV (0:Int)),(iV (0:Int)),V.nilsl]])∧H 10=(bk 1 24 3 [[(iV (f1.op)),(iV (f1.arg)),(V.sl (List.map cF (f1.kids)))]])∧((H 34).ver=1∧(H 34).live=false)∧True) ⟨((upd_ne _ _ (by decide)).trans t2),((upd_ne _ _ (by decide)).trans t6),(upd_same _ _ _),((upd_ne _ _ (by decide)).trans t10),((upd_ne _ _ (by decide)).trans t46),(kill_ne h0 (by decide)),(kill_ne h3 (by decide)),(kill_ne h4 (by decide)),(kill_ne h6 (by decide)),(kill_ne h10 (by decide)),(kill_self (congrArg Blk.ver h34)),trivial⟩ ?_
  intro T H ⟨t2,t6,t9,t10,t46,h0,h3,h4,h6,h10,h34,_⟩
  refine W_seq_if t46 (fun c8=>?_) fun c8=>?_
  ·
   have d5:=c8
   refine W_seq_seq (W_r (R_build rfl rfl (R_mv t9 (R_nilck_pp rfl (R_fld_pp (cs':=[(iV ((s2.wh:Nat):Int))]) rfl rfl (R_ldp (v:=(iV ((s2.wh:Nat):Int))) rfl rfl (R_mv t9 ?_)))))))
   refine R_nilck_pp rfl (R_fld_pp (cs':=[(iV (s2.er)),(iV ((s2.wh:Nat):Int))]) rfl rfl (R_ldp (v:=(iV (s2.er))) rfl rfl (R_sk t6 rfl rfl h6 rfl rfl rfl rfl rfl (R_mv rfl (R_mv rfl (R_e (W_seq_ret ?_)))))))
   refine RetC_3 (resV_c (u:=(V.agg [(iV (0:Int)),(iV (0:Int)),V.nilsl])) t6 (@rfl Blk (bk 1 24 3 [[(iV (0:Int)),(iV (0:Int)),V.nilsl]])) (lB oB rfl rfl)) (resV_t (@rfl V (iV ((s2.wh:Nat):Int)))) (resV_t (@rfl V (iV (s2.er)))) (fz_agg3 (fz_int ?_) (fz_int ?_) (fz_nil ?_)) (fz_int ?_) (fz_int ?_)
   · rw [← rprs_eq,show rprs ia oa src=(fZ,(s2.wh:Int),s2.er) from by rw [rprs,if_neg d1,if_neg d2,if_neg d3,rprsE,hx]; simp only [rEnd,hs2]; rw [if_neg d4,if_pos d5]] <;> rfl
   · rw [← rprs_eq,show rprs ia oa src=(fZ,(s2.wh:Int),s2.er) from by rw [rprs,if_neg d1,if_neg d2,if_neg d3,rprsE,hx]; simp only [rEnd,hs2]; rw [if_neg d4,if_pos d5]] <;> rfl
   · rw [← rprs_eq,show rprs ia oa src=(fZ,(s2.wh:Int),s2.er) from by rw [rprs,if_neg d1,if_neg d2,if_neg d3,rprsE,hx]; simp only [rEnd,hs2]; rw [if_neg d4,if_pos d5]] <;> rfl
   · rw [← rprs_eq,show rprs ia oa src=(fZ,(s2.wh:Int),s2.er) from by rw [rprs,if_neg d1,if_neg d2,if_neg d3,rprsE,hx]; simp only [rEnd,hs2]; rw [if_neg d4,if_pos d5]] <;> rfl
   · rw [← rprs_eq,show rprs ia oa src=(fZ,(s2.wh:Int),s2.er) from by rw [rprs,if_neg d1,if_neg d2,if_neg d3,rprsE,hx]; simp only [rEnd,hs2]; rw [if_neg d4,if_pos d5]] <;> rfl
  have d5:=c8
  refine W_seq_skip (W_seq_seq (W_r (R_lk t10 h10 rfl rfl (R_callk (rfvalid_pure f1) rfl (R_neq rfl rfl (R_e ?_))))))
  refine W_seq_if rfl (fun c9=>?_) fun c9=>?_
  ·
   have d6:fval f1≠0:=c9
   refine W_seq_seq (W_r (R_build rfl rfl (R_mv t2 (R_slen (s:=src) rfl (R_lk t10 h10 rfl rfl (R_callk (rfvalid_pure f1) rfl (R_sk t6 rfl rfl h6 rfl rfl rfl rfl rfl ?_)))))))
   refine R_mv rfl (R_mv rfl (R_e (W_seq_ret ?_)))
   refine RetC_3 (resV_c (u:=(V.agg [(iV (0:Int)),(iV (0:Int)),V.nilsl])) t6 (@rfl Blk (bk 1 24 3 [[(iV (0:Int)),(iV (0:Int)),V.nilsl]])) (lB oB rfl rfl)) (resV_t (@rfl V (iV ((src.length:Nat):Int)))) (resV_t (@rfl V (iV (fval f1)))) (fz_agg3 (fz_int ?_) (fz_int ?_) (fz_nil ?_)) (fz_int ?_) (fz_int ?_)
   · rw [← rprs_eq,show rprs ia oa src=(fZ,((src.length:Nat):Int),fval f1) from by rw [rprs,if_neg d1,if_neg d2,if_neg d3,rprsE,hx]; simp only [rEnd,hs2]; rw [if_neg d4,if_neg d5,if_pos d6]] <;> rfl
   · rw [← rprs_eq,show rprs ia oa src=(fZ,((src.length:Nat):Int),fval f1) from by rw [rprs,if_neg d1,if_neg d2,if_neg d3,rprsE,hx]; simp only [rEnd,hs2]; rw [if_neg d4,if_neg d5,if_pos d6]] <;> rfl
   · rw [← rprs_eq,show rprs ia oa src=(fZ,((src.length:Nat):Int),fval f1) from by rw [rprs,if_neg d1,if_neg d2,if_neg d3,rprsE,hx]; simp only [rEnd,hs2]; rw [if_neg d4,if_neg d5,if_pos d6]] <;> rfl
   · rw [← rprs_eq,show rprs ia oa src=(fZ,((src.length:Nat):Int),fval f1) from by rw [rprs,if_neg d1,if_neg d2,if_neg d3,rprsE,hx]; simp only [rEnd,hs2]; rw [if_neg d4,if_neg d5,if_pos d6]] <;> rfl
   · rw [← rprs_eq,show rprs ia oa src=(fZ,((src.length:Nat):Int),fval f1) from by rw [rprs,if_neg d1,if_neg d2,if_neg d3,rprsE,hx]; simp only [rEnd,hs2]; rw [if_neg d4,if_neg d5,if_pos d6]] <;> rfl
  have d6: ¬fval f1≠0:=c9
  refine W_seq_skip (W_r (R_lk t10 h10 rfl rfl (R_sk t6 rfl rfl h6 rfl rfl rfl rfl rfl (R_mv rfl (R_mv rfl (R_e (W_ret ?_)))))))
  refine RetC_3 (resV_c (u:=(V.agg [(iV (f1.op)),(iV (f1.arg)),(V.sl (List.map cF (f1.kids)))])) t6 (@rfl Blk (bk 1 24 3 [[(iV (f1.op)),(iV (f1.arg)),(V.sl (List.map cF (f1.kids)))]])) (lB oB rfl rfl)) (resV_t (@rfl V (iV (0:Int)))) (resV_t (@rfl V (iV (0:Int)))) (fz_agg3 (fz_int ?_) (fz_int ?_) (fz_sl ?_ (fun _=>by simp))) (fz_int ?_) (fz_int ?_)
  · rw [← rprs_eq,show rprs ia oa src=(f1,0,0) from by rw [rprs,if_neg d1,if_neg d2,if_neg d3,rprsE,hx]; simp only [rEnd,hs2]; rw [if_neg d4,if_neg d5,if_neg d6]] <;> rfl
  · rw [← rprs_eq,show rprs ia oa src=(f1,0,0) from by rw [rprs,if_neg d1,if_neg d2,if_neg d3,rprsE,hx]; simp only [rEnd,hs2]; rw [if_neg d4,if_neg d5,if_neg d6]] <;> rfl
  · rw [← rprs_eq,show rprs ia oa src=(f1,0,0) from by rw [rprs,if_neg d1,if_neg d2,if_neg d3,rprsE,hx]; simp only [rEnd,hs2]; rw [if_neg d4,if_neg d5,if_neg d6]] <;> rfl
  · rw [← rprs_eq,show rprs ia oa src=(f1,0,0) from by rw [rprs,if_neg d1,if_neg d2,if_neg d3,rprsE,hx]; simp only [rEnd,hs2]; rw [if_neg d4,if_neg d5,if_neg d6]] <;> rfl
  · rw [← rprs_eq,show rprs ia oa src=(f1,0,0) from by rw [rprs,if_neg d1,if_neg d2,if_neg d3,rprsE,hx]; simp only [rEnd,hs2]; rw [if_neg d4,if_neg d5,if_neg d6]] <;> rfl
theorem law4_pure (ia oa:List (List UInt8)) (src:List UInt8):PureC Try.prog 4 [(V.agg [(V.sl (List.map cS (ia)))]),(V.agg [(V.sl (List.map cS (oa)))]),(V.str src)] (V.bool true):=by
 refine pW Try.func4 s4_ok fun hB=>?_
 unfold s4
 dsimp only
 refine W_r (R_box (i:=3) (n:=0) (m:=1) (cs:=[(V.sl (List.map cS (ia)))]) rfl (congrArg Blk.ver rfl) rfl rfl rfl (R_box (i:=4) (n:=0) (m:=1) (cs:=[(V.sl (List.map cS (oa)))]) rfl (congrArg Blk.ver rfl) rfl rfl rfl (R_mv rfl (R_e (W_seq_seq (W_r (R_lk rfl rfl rfl rfl ?_)))))))
 refine R_callk (great_pure ia) rfl (R_mv rfl ?_)
 refine Ops_seg 3 (fun T H=>T 2=(V.str src)∧T 3=(V.mp 3 1 0 0)∧T 4=(V.mp 4 1 0 0)∧T 18=(V.bool (((grB ia)||(grB oa))))∧H 3=(bk 1 37 1 [[(V.sl (List.map cS (ia)))]])∧H 4=(bk 1 37 1 [[(V.sl (List.map cS (oa)))]])∧H 7=(⟨0,false,false,0,0,[]⟩:Blk)∧H 10=(⟨0,false,false,0,0,[]⟩:Blk)∧True) ?_ ?_
 ·
  by_cases g1:(grB ia)=true
  ·
   refine G_n (ebT g1 rfl) (G_n (ebT g1 rfl) (R_pickT (ebT g1 rfl) rfl ?_))
   exact ⟨rfl,rfl,rfl,(borT g1),rfl,rfl,rfl,rfl,trivial⟩
  ·
   refine G_yes (ebF g1 rfl) (R_lk rfl rfl rfl rfl (G_yes (ebF g1 rfl) (R_callk (great_pure oa) rfl (R_pickF (ebF g1 rfl) rfl ?_))))
   exact ⟨rfl,rfl,rfl,(borF g1),rfl,rfl,rfl,rfl,trivial⟩
 intro T H ⟨t2,t3,t4,t18,h3,h4,h7,h10,_⟩
 refine R_mv t18 ?_
 refine Ops_seg 4 (fun T H=>T 2=(V.str src)∧T 3=(V.mp 3 1 0 0)∧T 4=(V.mp 4 1 0 0)∧T 23=(V.bool (((((grB ia)||(grB oa)))||decide ((600:Int) < ((src.length:Nat):Int)))))∧H 3=(bk 1 37 1 [[(V.sl (List.map cS (ia)))]])∧H 4=(bk 1 37 1 [[(V.sl (List.map cS (oa)))]])∧H 7=(⟨0,false,false,0,0,[]⟩:Blk)∧H 10=(⟨0,false,false,0,0,[]⟩:Blk)∧True) ?_ ?_
 ·
  by_cases g2:(((grB ia)||(grB oa)))=true
  ·
   have g2x:=g2
   simp only [Bool.and_eq_true,Bool.or_eq_true,Bool.not_eq_true',decide_eq_true_eq] at g2x
   refine G_n (ebT g2 rfl) (G_n (ebT g2 rfl) (G_n (ebT g2 rfl) (R_pickT (ebT g2 rfl) rfl ?_)))
   exact ⟨t2,t3,t4,(borT g2),h3,h4,h7,h10,trivial⟩
  ·
   have g2x:=g2
   simp only [Bool.and_eq_true,Bool.or_eq_true,Bool.not_eq_true',decide_eq_true_eq] at g2x
   refine G_yes (ebF g2 rfl) (R_mv t2 (G_yes (ebF g2 rfl) (R_slen (s:=src) rfl (G_yes (ebF g2 rfl) (R_gtr rfl rfl (R_pickF (ebF g2 rfl) rfl ?_))))))
   exact ⟨t2,t3,t4,(borF g2),h3,h4,h7,h10,trivial⟩
 intro T H ⟨t2,t3,t4,t23,h3,h4,h7,h10,_⟩
 refine R_e ?_
 refine W_seq_ifb t23 (fun c3=>?_) (fun c3=>?_)
 ·
  refine W_seq_seq (W_r (R_callk (aw45_pure) rfl (R_mv rfl (R_e (W_seq_ret ?_)))))
  refine Ret_1 (@rfl V (V.bool true)) (fz_canon (by simp) rfl)
 have q1:grB ia=false∧grB oa=false:=by have q:=c3; simp only [Bool.or_eq_false_iff] at q; exact ⟨q.1.1,q.1.2⟩
 have g1:=(grB_no q1.1).2
 have g2:=(grB_no q1.2).2
 refine W_seq_skip (W_r (R_lk t3 h3 rfl rfl (R_lk t4 h4 rfl rfl (R_mv t2 (R_callk (prs_pure ia oa src g1 g2) rfl (R_mv rfl (R_ext rfl rfl ?_)))))))
 refine R_ext rfl rfl (R_ext rfl rfl (R_alloc (i:=7) (n:=0) (m:=3) rfl (congrArg Blk.ver h7) rfl (R_sk rfl rfl rfl rfl rfl rfl rfl rfl rfl (R_mv rfl (R_mv rfl (R_e (W_r ?_)))))))
 refine R_lk t3 h3 rfl rfl (R_lk t4 h4 rfl rfl (R_mv t2 (R_callk (rprs_pure ia oa src g1 g2) rfl (R_mv rfl (R_ext rfl rfl (R_ext rfl rfl (R_ext rfl rfl ?_)))))))
 refine R_alloc (i:=10) (n:=0) (m:=3) rfl (congrArg Blk.ver h10) rfl (R_sk rfl rfl rfl rfl rfl rfl rfl rfl rfl (R_mv rfl (R_mv rfl (R_e ?_))))
 refine W_seq_regc (fun T H=>T 6=(V.bool (((((((sameF ((prs ia oa src).1) ((prs ia oa src).1))&&decide (((prs ia oa src).2.1)=((prs ia oa src).2.1))))&&decide (((prs ia oa src).2.2)=((prs ia oa src).2.2))))||false)))∧H 3=(bk 1 37 1 [[(V.sl (List.map cS (ia)))]])∧H 4=(bk 1 37 1 [[(V.sl (List.map cS (oa)))]])∧H 7=(bk 1 24 3 [[(iV ((prs ia oa src).1.op)),(iV ((prs ia oa src).1.arg)),(V.sl (List.map cF ((prs ia oa src).1.kids)))]])∧H 10=(bk 1 24 3 [[(iV ((prs ia oa src).1.op)),(iV ((prs ia oa src).1.arg)),(V.sl (List.map cF ((prs ia oa src).1.kids)))]])∧True) ?_ ?_
 ·
  refine R_lk rfl rfl rfl rfl (R_lk rfl rfl rfl rfl (R_callk (rsame_pure ((prs ia oa src).1) ((prs ia oa src).1)) rfl (R_mv rfl ?_)))
  refine Ops_seg 4 (fun T H=>T 9=(iV ((prs ia oa src).2.2))∧T 12=(iV ((prs ia oa src).2.2))∧T 48=(V.bool (((sameF ((prs ia oa src).1) ((prs ia oa src).1))&&decide (((prs ia oa src).2.1)=((prs ia oa src).2.1)))))∧H 3=(bk 1 37 1 [[(V.sl (List.map cS (ia)))]])∧H 4=(bk 1 37 1 [[(V.sl (List.map cS (oa)))]])∧H 7=(bk 1 24 3 [[(iV ((prs ia oa src).1.op)),(iV ((prs ia oa src).1.arg)),(V.sl (List.map cF ((prs ia oa src).1.kids)))]])∧H 10=(bk 1 24 3 [[(iV ((prs ia oa src).1.op)),(iV ((prs ia oa src).1.arg)),(V.sl (List.map cF ((prs ia oa src).1.kids)))]])∧True) ?_ ?_
  ·
   by_cases g4:(sameF ((prs ia oa src).1) ((prs ia oa src).1))=true
   ·
    refine G_yes (ebT g4 rfl) (R_mv rfl (G_yes (ebT g4 rfl) (R_mv rfl (G_yes (ebT g4 rfl) (R_eql rfl rfl (R_pickT (ebT g4 rfl) rfl ?_))))))
    exact ⟨rfl,rfl,(bandT g4),h3,h4,rfl,rfl,trivial⟩
   ·
    refine G_n (ebF g4 rfl) (G_n (ebF g4 rfl) (G_n (ebF g4 rfl) (R_pickF (ebF g4 rfl) rfl ?_)))
    exact ⟨rfl,rfl,(bandF g4),h3,h4,rfl,rfl,trivial⟩
  intro T H ⟨t9,t12,t48,h3,h4,h7,h10,_⟩
  refine R_mv t48 ?_
  refine Ops_seg 4 (fun T H=>T 53=(V.bool (((((sameF ((prs ia oa src).1) ((prs ia oa src).1))&&decide (((prs ia oa src).2.1)=((prs ia oa src).2.1))))&&decide (((prs ia oa src).2.2)=((prs ia oa src).2.2)))))∧H 3=(bk 1 37 1 [[(V.sl (List.map cS (ia)))]])∧H 4=(bk 1 37 1 [[(V.sl (List.map cS (oa)))]])∧H 7=(bk 1 24 3 [[(iV ((prs ia oa src).1.op)),(iV ((prs ia oa src).1.arg)),(V.sl (List.map cF ((prs ia oa src).1.kids)))]])∧H 10=(bk 1 24 3 [[(iV ((prs ia oa src).1.op)),(iV ((prs ia oa src).1.arg)),(V.sl (List.map cF ((prs ia oa src).1.kids)))]])∧True) ?_ ?_
  ·
   by_cases g5:(((sameF ((prs ia oa src).1) ((prs ia oa src).1))&&decide (((prs ia oa src).2.1)=((prs ia oa src).2.1))))=true
   ·
    have g5x:=g5
    simp only [Bool.and_eq_true,Bool.or_eq_true,Bool.not_eq_true',decide_eq_true_eq] at g5x
    refine G_yes (ebT g5 rfl) (R_mv t9 (G_yes (ebT g5 rfl) (R_mv t12 (G_yes (ebT g5 rfl) (R_eql rfl rfl (R_pickT (ebT g5 rfl) rfl ?_))))))
    exact ⟨(bandT g5),h3,h4,h7,h10,trivial⟩
   ·
    have g5x:=g5
    simp only [Bool.and_eq_true,Bool.or_eq_true,Bool.not_eq_true',decide_eq_true_eq] at g5x
    refine G_n (ebF g5 rfl) (G_n (ebF g5 rfl) (G_n (ebF g5 rfl) (R_pickF (ebF g5 rfl) rfl ?_)))
    exact ⟨(bandF g5),h3,h4,h7,h10,trivial⟩
  intro T H ⟨t53,h3,h4,h7,h10,_⟩
  refine R_mv t53 ?_
  refine Ops_seg 2 (fun T H=>T 56=(V.bool (((((((sameF ((prs ia oa src).1) ((prs ia oa src).1))&&decide (((prs ia oa src).2.1)=((prs ia oa src).2.1))))&&decide (((prs ia oa src).2.2)=((prs ia oa src).2.2))))||false)))∧H 3=(bk 1 37 1 [[(V.sl (List.map cS (ia)))]])∧H 4=(bk 1 37 1 [[(V.sl (List.map cS (oa)))]])∧H 7=(bk 1 24 3 [[(iV ((prs ia oa src).1.op)),(iV ((prs ia oa src).1.arg)),(V.sl (List.map cF ((prs ia oa src).1.kids)))]])∧H 10=(bk 1 24 3 [[(iV ((prs ia oa src).1.op)),(iV ((prs ia oa src).1.arg)),(V.sl (List.map cF ((prs ia oa src).1.kids)))]])∧True) ?_ ?_
  ·
   by_cases g6:(((((sameF ((prs ia oa src).1) ((prs ia oa src).1))&&decide (((prs ia oa src).2.1)=((prs ia oa src).2.1))))&&decide (((prs ia oa src).2.2)=((prs ia oa src).2.2))))=true
   ·
    have g6x:=g6
    simp only [Bool.and_eq_true,Bool.or_eq_true,Bool.not_eq_true',decide_eq_true_eq] at g6x
    refine G_yes (ebT g6 rfl) (R_callk (aw45_pure) rfl (R_pickT (ebT g6 rfl) rfl ?_))
    exact ⟨(borT g6),h3,h4,h7,h10,trivial⟩
   ·
    have g6x:=g6
    simp only [Bool.and_eq_true,Bool.or_eq_true,Bool.not_eq_true',decide_eq_true_eq] at g6x
    refine G_n (ebF g6 rfl) (R_pickF (ebF g6 rfl) rfl ?_)
    exact ⟨(borF g6),h3,h4,h7,h10,trivial⟩
  intro T H ⟨t56,h3,h4,h7,h10,_⟩
  refine R_mv t56 ?_
  exact R_nil ⟨rfl,h3,h4,h7,h10,trivial⟩
 intro T H ⟨t6,h3,h4,h7,h10,_⟩
 refine W_ret ?_
 refine Ret_1 t6 (fz_bool ?_)
 · simp [sameF_self]
end Go.Proofs.Ytdmcmkccifmofaa
namespace Go.Proofs.Ytdmcmkccifmofaa
open Go Go.ChangeShapes Go.WideShapes Go.ChangeAt Go.RowKit
def okS (P:Program) (S:List TypeId) (t:TypeId):Bool:=match P.underlying t with
  |some .bool=>true
  |some (.int _)=>true
  |some .string=>true
  |some (.slice e)=>decide (e∈S)&&decide (P.cellsOf e≠0)
  |some (.struct fs)=>fs.toList.all (fun f=>decide (f.type∈S))&&tile P (P.cellsOf t) 0 fs.toList
  |some (.array m e)=>decide (e∈S)&&decide (m*P.cellsOf e=P.cellsOf t)
  |_=>false
section
variable {H:Type} {enc:TypeId×Value→H} {P:Program} {base:Nat} {spare:Nat→Bool} {held:Bool}
theorem trod_RS {x : Cx} (hZ : ∀ b, b < x.w.heap.size → x.Z b) {S : List TypeId} (hS : ∀ t ∈ S, okS P S t = true) : ∀ (fuel : Nat) (t : TypeId), t ∈ S → ∀ (cs : List Value) (y : DataW H × List MemPlace), DataW.trod enc P x.w base spare held fuel t cs = some y →
    ∃ vs,Shp P fuel t vs∧RC x vs cs:=by
  intro n
  induction n with
  |zero=>intro t _ cs y hy; simp [DataW.trod] at hy
  | succ n ih =>
    intro t hm cs y hy
    have hok:=hS t hm
    have one: ∀ {v:V} {c:Value},R x v c→RC x [v] [c]:=fun {v c} h=>⟨rfl,fun j u hj=>by
      cases j with
      |zero=>simp at hj; subst hj; exact h
      |succ j=>simp at hj⟩
    simp only [okS] at hok
    split at hok
    · rename_i ht
      simp only [Shp,ht]
      obtain ⟨b,rfl,_⟩:=DataW.trod_bool ht hy
      exact ⟨[.bool b],⟨b,rfl⟩,one (.bool b)⟩
    · rename_i k ht
      simp only [Shp,ht]
      obtain ⟨m,rfl,_⟩:=DataW.trod_int ht hy
      exact ⟨[.int k m],⟨m,rfl⟩,one (.int k m)⟩
    · rename_i ht
      simp only [Shp,ht]
      obtain ⟨s,rfl,_⟩:=DataW.trod_string ht hy
      exact ⟨[.str s.data.toList],⟨_,rfl⟩,one (R.str s.data.toList)⟩
    · rename_i e ht
      simp only [Shp,ht]
      simp only [Bool.and_eq_true,decide_eq_true_eq] at hok
      obtain ⟨hok,hnz⟩:=hok
      rcases DataW.trod_slice ht hy with ⟨rfl,_⟩|⟨a,len,cap,elems,rest,m,em,rfl,_,hb,hl,hc,hlen,hel,_,_⟩
      · exact ⟨[.sl []],⟨[],rfl,fun r hr=>by cases hr⟩,one .slnil⟩
      · obtain rfl:n=m:=by omega
        have hall: ∀ i,i < len→ ∃ r:List V,Shp P n e r∧ ∃ ci:List Value,x.w.cells? base (a.add (i*P.cellsOf e)) (P.cellsOf e)=some ci∧RC x r ci:=by
          intro i hi
          have h1:=hel i hi
          rw [List.getElem?_eq_getElem (by omega)] at h1
          cases h2:x.w.cells? base (a.add (i*P.cellsOf e)) (P.cellsOf e) with
          |none=>rw [h2] at h1; cases h1
          | some ci =>
            rw [h2] at h1
            obtain ⟨vs,h3,h4⟩:=ih e hok ci _ h1
            exact ⟨vs,h3,ci,rfl,h4⟩
        obtain ⟨rows,hrl,hrows⟩:=choiceL hall
        have hcell: ∀ (r:Nat) (row:List V) (j:Nat) (v:V),rows[r]?=some row→row[j]?=some v→
            ∃ c,x.w.cell? (a.add (r*P.cellsOf e+j))=some c∧R x v c:=by
          intro r row j v hr hj
          obtain ⟨_,ci,g1,g2⟩:=hrows r row hr
          obtain ⟨_,g4,g5⟩:=World.cells?_some g1
          have hjlt:j < ci.length:=by have:=(List.getElem?_eq_some_iff.1 hj).1; rw [← g2.1]; exact this
          have g6:=g5 j (by omega)
          rw [List.getElem?_eq_getElem hjlt,Addr.add_add] at g6
          refine ⟨_,g6,?_⟩
          have:=g2.2 j v hj
          rw [List.getD_eq_getElem?_getD,List.getElem?_eq_getElem hjlt] at this
          exact this
        have key:=R.sl (x:=x) rows a cap (P.cellsOf e) (fun k=>(x.w.cell? (a.add k)).getD undef) (by omega) hc ?_ ?_ ?_ ?_
        · rw [hrl] at key
          exact ⟨[.sl rows],⟨rows,rfl,fun r hr=>by obtain ⟨i,hi⟩:=List.getElem?_of_mem hr; exact (hrows i r hi).1⟩,one key⟩
        · intro hne
          cases hrr:rows with
          |nil=>exact (hne hrr).elim
          | cons r0 rs =>
            obtain ⟨_,ci,g1,g2⟩:=hrows 0 r0 (by rw [hrr]; rfl)
            · obtain ⟨_,g4,g5⟩:=World.cells?_some g1
              have g6:=g5 0 (by omega)
              rw [List.getElem?_eq_getElem (by omega),Addr.add_add] at g6
              have hlt:(a.add (0*P.cellsOf e+0)).block < x.w.heap.size:=by
                unfold World.cell? at g6
                split at g6
                · rename_i hh
                  exact (Array.getElem?_eq_some_iff.1 hh).1
                · cases g6
              exact hZ _ (by simpa [Addr.add] using hlt)
        · intro r hr
          obtain ⟨i,hi⟩:=List.getElem?_of_mem hr
          obtain ⟨_,ci,g1,g2⟩:=hrows i r hi
          rw [g2.1]
          exact (World.cells?_some g1).2.1
        · intro r row j v hr hj
          obtain ⟨c,g1,_⟩:=hcell r row j v hr hj
          rw [g1]; rfl
        · intro r row j v hr hj
          obtain ⟨c,g1,g2⟩:=hcell r row j v hr hj
          simp only [g1,Option.getD_some]
          exact g2
    · rename_i fs ht
      simp only [Shp,ht]
      simp only [Bool.and_eq_true] at hok
      obtain ⟨xs,m,em,_,hl,hxl,hf⟩:=DataW.trod_struct ht hy
      obtain rfl:n=m:=by omega
      have hfs: ∀ f∈fs.toList,∃ z,DataW.trod enc P x.w base spare held n f.type ((cs.drop f.offset).take (P.cellsOf f.type))=some z:=by
        intro f hm
        obtain ⟨i,hi⟩:=List.getElem?_of_mem hm
        have hi':fs[i]?=some f:=by simpa using hi
        have hlt:i < xs.length:=by
          have:=(Array.getElem?_eq_some_iff.1 hi').1
          omega
        exact ⟨xs[i],by rw [hf i f hi',List.getElem?_eq_getElem hlt]⟩
      have hok':=List.all_eq_true.1 hok.1
      have main: ∀ (l:List Field) (off:Nat),(∀ f∈l,f∈fs.toList)→tile P (P.cellsOf t) off l=true→off≤cs.length→ ∃ vs,ShpL (Shp P n) l vs∧RC x vs (cs.drop off):=by
        intro l
        induction l with
        | nil =>
          intro off _ htl hle
          simp only [tile,decide_eq_true_eq] at htl
          refine ⟨[],rfl,?_⟩
          rw [List.drop_of_length_le (by omega)]
          exact ⟨rfl,fun j v hj=>by simp at hj⟩
        | cons f r ihr =>
          intro off hsub htl hle
          simp only [tile,Bool.and_eq_true,decide_eq_true_eq] at htl
          obtain ⟨z,hz⟩:=hfs f (hsub f (List.mem_cons_self ..))
          obtain ⟨va,g1,g2⟩:=ih f.type (of_decide_eq_true (hok' f (hsub f (List.mem_cons_self ..)))) _ _ hz
          have hoff:off+P.cellsOf f.type≤cs.length:=by
            rw [hl]
            have: ∀ (l:List Field) (o:Nat),tile P (P.cellsOf t) o l=true→o≤P.cellsOf t:=by
              intro l
              induction l with
              |nil=>intro o h; simp only [tile,decide_eq_true_eq] at h; omega
              |cons f r ih=>intro o h; simp only [tile,Bool.and_eq_true,decide_eq_true_eq] at h; have:=ih _ h.2; omega
            exact this _ _ htl.2
          obtain ⟨vb,g3,g4⟩:=ihr (off+P.cellsOf f.type) (fun q hq=>hsub q (List.mem_cons_of_mem _ hq)) htl.2 hoff
          refine ⟨va++vb,⟨va,vb,rfl,g1,g3⟩,?_⟩
          have hsplit:cs.drop off=(cs.drop off).take (P.cellsOf f.type)++cs.drop (off+P.cellsOf f.type):=by
            rw [← List.drop_drop,List.take_append_drop]
          rw [hsplit]
          rw [htl.1] at g2
          exact RC_append g2 g4
      obtain ⟨vs,g1,g2⟩:=main fs.toList 0 (fun _ h=>h) hok.2 (Nat.zero_le _)
      exact ⟨vs,g1,by simpa using g2⟩
    · rename_i m e ht
      simp only [Shp,ht]
      simp only [Bool.and_eq_true,decide_eq_true_eq] at hok
      obtain ⟨xs,f,em,_,hl,hxl,hf⟩:=DataW.trod_array ht hy
      obtain rfl:n=f:=by omega
      have main: ∀ (k i:Nat),i+k=m→ ∃ vs,ShpR (Shp P n e) k vs∧RC x vs (cs.drop (i*P.cellsOf e)):=by
        intro k
        induction k with
        | zero =>
          intro i hi
          refine ⟨[],rfl,?_⟩
          rw [List.drop_of_length_le (by rw [hl,← hok.2,show i=m by omega]; exact Nat.le_refl _)]
          exact ⟨rfl,fun j v hj=>by simp at hj⟩
        | succ k ihk =>
          intro i hi
          have hlt:i < m:=by omega
          have hz:=hf i hlt
          rw [List.getElem?_eq_getElem (by omega)] at hz
          obtain ⟨va,g1,g2⟩:=ih e hok.1 _ _ hz
          obtain ⟨vb,g3,g4⟩:=ihk (i+1) (by omega)
          refine ⟨va++vb,⟨va,vb,rfl,g1,g3⟩,?_⟩
          have hsplit:cs.drop (i*P.cellsOf e)=(cs.drop (i*P.cellsOf e)).take (P.cellsOf e)++cs.drop ((i+1)*P.cellsOf e):=by
            rw [Nat.add_mul,Nat.one_mul,← List.drop_drop,List.take_append_drop]
          rw [hsplit]
          exact RC_append g2 g4
      obtain ⟨vs,g1,g2⟩:=main m 0 (by omega)
      exact ⟨vs,g1,by simpa using g2⟩
    · cases hok
theorem open_RS {x:Cx} (hZ: ∀ b,b < x.w.heap.size→x.Z b) {S:List TypeId} (hS: ∀ t∈S,okS P S t=true) {t:TypeId} (ht0:t∈S) {r:Reach} {b0 base:Nat} {spare:Nat→Bool} {held:Bool} {v:Value} {d:DataW H} {ps:List MemPlace}
    (hval:Value.okWide P x.w r b0 t v) (hd:DataW.Trod enc P x.w base spare held t v d ps): ∃ n vs,Shp P n t vs∧R x (packV P t vs) v:=by
  obtain ⟨fuel,hf⟩:=hd
  obtain ⟨vs,h1,h2⟩:=trod_RS hZ hS fuel t ht0 _ _ hf
  refine ⟨fuel,vs,h1,?_⟩
  have hok:=hS t ht0
  unfold packV
  simp only [okS] at hok
  split at hok
  · rename_i ht
    obtain ⟨b,rfl⟩:=okWide_bool ht hval
    rw [ht]; exact RC_one h2
  · rename_i k ht
    obtain ⟨m,rfl⟩:=okWide_int ht hval
    rw [ht]; exact RC_one h2
  · rename_i ht
    obtain ⟨s,rfl⟩:=okWide_string ht hval
    rw [ht]; exact RC_one h2
  · rename_i e ht
    obtain ⟨a,l,c,rfl⟩:=okWide_slice ht hval
    rw [ht]; exact RC_one h2
  · rename_i fs ht
    obtain ⟨cs,rfl,_⟩:=okWide_struct ht hval
    rw [ht]
    refine .agg vs cs (by have:=h2.1; simp [Value.cells] at this; omega) fun j u hj=>?_
    have:=h2.2 j u hj
    rw [List.getD_eq_getElem?_getD] at this
    rw [Array.getD_eq_getD_getElem?,← Array.getElem?_toList]
    exact this
  · rename_i m e ht
    have hval2:=hval
    simp only [Value.okWide,ht] at hval2
    obtain ⟨cs,rfl,_⟩:=hval2
    rw [ht]
    refine .agg vs cs (by have:=h2.1; simp [Value.cells] at this; omega) fun j u hj=>?_
    have:=h2.2 j u hj
    rw [List.getD_eq_getElem?_getD] at this
    rw [Array.getD_eq_getD_getElem?,← Array.getElem?_toList]
    exact this
  · cases hok
def ShpB (P:Program):List TypeId→List V→Prop
  |[],vs=>vs=[]
  |t::ts,vs=> ∃ n a b,vs=packV P t a::b∧Shp P n t a∧ShpB P ts b
theorem open_allS {x:Cx} (hZ: ∀ b,b < x.w.heap.size→x.Z b) {S:List TypeId} (hS: ∀ t∈S,okS P S t=true) {r:Reach} {b0 base:Nat} {spare:Nat→Bool} {held:Bool}: ∀ (ts:List TypeId) (vs:List Value) (ds:List (DataW H)) (ps:List MemPlace),
    (∀ t∈ts,t∈S)→(∀ (j:Nat) t v,ts[j]?=some t→vs[j]?=some v→Value.okWide P x.w r b0 t v)→DataW.TrodAll enc P x.w base spare held ts vs ds ps→
    ∃ us,ShpB P ts us∧RL x us vs
  | [], vs, ds, ps, _, _, h => by
    obtain ⟨rfl,rfl,rfl⟩:=trodAll_nil h
    exact ⟨[],rfl,rfl,fun j v hj=>by simp at hj⟩
  | t :: ts, vs, ds, ps, hok, hval, h => by
    obtain ⟨v,vs1,d,ds1,a,b,rfl,rfl,rfl,h1,h2⟩:=trodAll_cons h
    obtain ⟨n,ws,g1,g2⟩:=open_RS hZ hS (hok t (List.mem_cons_self ..)) (hval 0 t v rfl rfl) h1
    obtain ⟨us,g3,g4⟩:=open_allS hZ hS ts vs1 ds1 b (fun q hq=>hok q (List.mem_cons_of_mem _ hq)) (fun j q u hq hu=>hval (j+1) q u (by simpa using hq) (by simpa using hu)) h2
    refine ⟨packV P t ws::us,⟨n,ws,us,rfl,g1,g3⟩,by simp [g4.1],fun j u hj=>?_⟩
    cases j with
    |zero=>simp at hj; subst hj; exact g2
    |succ j=>exact g4.2 j u (by simpa using hj)
theorem law_postS {f:FuncId} {fn:Func} {s:ChangeSpec} {apart fresh handsOn again:Bool} {tb:Nat} {S:List TypeId} {W:World} {args:Array Value} {ds gs:List (DataW H)} {before:List MemPlace}
    (hl:laidOutB P=true) (hres:fn.resultTypes=#[tb]) (htb:P.underlying tb=some .bool) (hS: ∀ t∈S,okS P S t=true) (hts: ∀ t∈fn.params.toList,t∈S∧P.readableRec t=true∧t < P.types.size)
    (hvars:s.vars=[]) (hs:s.fn H (ds++gs)={results:=[.lit (.bool true)],args:=ds})
    (hlaw: ∀ us,ShpB P fn.params.toList us→PureC P f us (.bool true))
    (hval: ∀ (j:Nat) t v,fn.params[j]?=some t→args[j]?=some v→Value.okWide P W .any 0 t v)
    (hW:DataW.Whole enc P fn.params.toList s.vars apart W args.toList ds gs before):
    Calls P f args W fun e W'=> ∃ v,e=.returned v∧s.post enc P fn apart fresh handsOn again W args v W':=by
  have hW':=hW
  obtain ⟨p,q,hA,hV,rfl,hfz,hnd⟩:=hW
  rw [hvars] at hV
  obtain ⟨rfl,rfl⟩:=trodVars_none hV
  have hlt:=hW'.lt
  let x:Cx:=start {w:=W,Z:=fun b=>b < W.heap.size,σ:=fun _=>0,H:=H0} (fun b=>b < W.heap.size)
  have hx:Inv x:=start_ok fun b hb=>hb
  obtain ⟨us,g1,g2⟩:=open_allS (x:=x) (fun b hb=>hb) hS fn.params.toList args.toList ds p (fun t ht=>(hts t ht).1) (fun j t v h1 h2=>hval j t v (by simpa using h1) (by simpa using h2)) hA
  have hc:=(hlaw us g1 H0).2 x args.toList rfl hx g2
  rw [Array.toArray_toList] at hc
  refine Calls.mono (show Calls P f args W _ from hc) fun e W' h=>?_
  obtain ⟨c,y,rfl,rfl,h3,h4,h5,h6⟩:=h
  cases h5
  have hb:Below W.heap.size W y.w:=below_of_frame h6 (fun _=>rfl) rfl
  refine ⟨_,rfl,post_of_below (pa:=p) (pv:=[]) hW' (fun b sp hd=>?_) (fun sp hsp=>?_) (fun sp _=>?_) (by simp) hb ?_⟩
  · rw [hs,hres]
    exact trodAll_mk1 (shut_bool htb true)
  · rw [hs]
    exact trodAll_stays hl hb _ _ _ _ (fun t ht=>(hts t ht).2) hA (fun z hz=>hlt z (by simpa using hz)) (fun z hz=>hsp z (by simpa using hz))
  · rw [hs,hvars]; rfl
  · exact ok_one hres rfl (okWide_bool_mk htb true)
end
section
variable {P:Program} {n t:Nat} {vs:List V}
theorem shq_str (ht:P.underlying t=some .string) (h:Shp P n t vs): ∃ s:List UInt8,vs=[.str s]:=by
  cases n with
  |zero=>exact h.elim
  |succ n=>exact shp_str ht h
theorem shq_slice {e:Nat} {α:Type} {f:α→List V} (ht:P.underlying t=some (.slice e)) (he: ∀ m vs,Shp P m e vs→ ∃ a,vs=f a) (h:Shp P n t vs): ∃ l:List α,vs=[.sl (l.map f)]:=by
  cases n with
  |zero=>exact h.elim
  |succ n=>exact shp_slice ht (he n) h
theorem shq_step {fs:Array Field} (ht:P.underlying t=some (.struct fs)) (h:Shp P n t vs): ∃ m,n=m+1∧ShpL (Shp P m) fs.toList vs:=by
  cases n with
  |zero=>exact h.elim
  |succ n=>exact ⟨n,rfl,shp_step ht h⟩
theorem shpB_cons {ts:List TypeId} {us:List V} (h:ShpB P (t::ts) us): ∃ n a b,us=packV P t a::b∧Shp P n t a∧ShpB P ts b:=h
theorem shpB_nil {us:List V} (h:ShpB P [] us):us=[]:=h
end
end Go.Proofs.Ytdmcmkccifmofaa
namespace Go.Proofs.Ytdmcmkccifmofaa
open Go
abbrev cSL (l:List (List UInt8)):List V:=[.sl (l.map cS)]
abbrev cAl (l:List (List UInt8)):List V:=[.sl (l.map cS)]
structure Tri where
  ia:List (List UInt8)
  oa:List (List UInt8)
  f:Fm
  s:List UInt8
end Go.Proofs.Ytdmcmkccifmofaa
namespace Go.Proofs.Ytdmcmkccifmofaa
open Go Go.Proofs Go.Proofs.Ytdmcmkccifmofaa Go.ChangeShapes Go.WideShapes Go.ChangeAt Go.RowKit
structure UT (P:Program):Prop where
  u35:P.underlying 35=some (.slice 9)
  u9:P.underlying 9=some (.string)
  u37: ∃ f0:Field,P.underlying 37=some (.struct #[f0])∧f0.type=35
theorem sh9 {P:Program} (U:UT P): ∀ (n:Nat) (vs:List V),Shp P n 9 vs→ ∃ a:(List UInt8),vs=cS a:=fun _ _ h=>shq_str U.u9 h
theorem sh35 {P:Program} (U:UT P): ∀ (n:Nat) (vs:List V),Shp P n 35 vs→ ∃ a:(List (List UInt8)),vs=cSL a:=fun _ _ h=>shq_slice (f:=cS) U.u35 (sh9 U) h
theorem sh37 {P:Program} (U:UT P): ∀ (n:Nat) (vs:List V),Shp P n 37 vs→ ∃ a:(List (List UInt8)),vs=cAl a:=by
  intro n
  induction n using Nat.strongRecOn with
  | ind n ih =>
    intro vs h
    obtain ⟨f0,hu,k0⟩:=U.u37
    obtain ⟨m,hm,h0⟩:=shq_step hu h
    obtain ⟨x0,u0,e0,h1⟩:=shpL_cons (c:=cSL) (fun vs h=>sh35 U m vs (by rw [k0] at h; exact h)) h0
    have e1:=shpL_nil h1
    exact ⟨x0,by rw [e0,e1]; rfl⟩
theorem ut:UT Try.prog:=⟨by kernel_rfl,by kernel_rfl,⟨_,Try.underlying37,rfl⟩⟩
theorem args4 {P:Program} (U:UT P) {us:List V} (h:ShpB P [37,37,9] us): ∃ (d0:(List (List UInt8))) (d1:(List (List UInt8))) (d2:(List UInt8)),us=[V.agg (cAl d0),V.agg (cAl d1),V.str d2]:=by
  obtain ⟨n0,a0,b0,e0,h0,h⟩:=shpB_cons h
  obtain ⟨d0,g0⟩:=sh37 U n0 a0 h0
  have q0:packV P 37 a0=V.agg (cAl d0):=by obtain ⟨_,hu,_⟩:=U.u37; rw [g0]; exact pack_struct hu _
  obtain ⟨n1,a1,b1,e1,h1,h⟩:=shpB_cons h
  obtain ⟨d1,g1⟩:=sh37 U n1 a1 h1
  have q1:packV P 37 a1=V.agg (cAl d1):=by obtain ⟨_,hu,_⟩:=U.u37; rw [g1]; exact pack_struct hu _
  obtain ⟨n2,a2,b2,e2,h2,h⟩:=shpB_cons h
  obtain ⟨d2,g2⟩:=sh9 U n2 a2 h2
  have q2:packV P 9 a2=V.str d2:=by rw [g2]; exact pack_other (fun fs h=>by rw [U.u9] at h; cases h) (fun m e h=>by rw [U.u9] at h; cases h)
  have e3:=shpB_nil h
  exact ⟨d0,d1,d2,by rw [e0,q0,e1,q1,e2,q2,e3]⟩
theorem own4:ownKnob Try.prog.godebug=none:=by kernel_rfl
theorem okS4: ∀ t∈[9,35,37],okS Try.prog [9,35,37] t=true:=by
  intro t ht
  simp only [List.mem_cons,List.not_mem_nil,or_false] at ht
  rcases ht with rfl|rfl|rfl
  · kernel_rfl
  · kernel_rfl
  · kernel_rfl
set_option maxRecDepth 100000 in
theorem lifted4 (os:Os) (started:os.Started) (H:Type) (enc:TypeId×Value→H):
    ReturnsInHanded {} Try.checked os 4 .any (Rows.formulaParsesSpec.pre6 enc Try.prog Try.f4 Rows.formulaParsesRow.domain false) (Rows.formulaParsesSpec.post enc Try.prog Try.f4 false true false false):=by
  refine returnsInHanded_of_change (C:=Try.checked) own4 started (by kernel_rfl) Try.func4
    (ChangeSpec.witness6 (enc:=enc) (C:=Try.checked) false ⟨#[],#[.agg #[.slice none 0 0],.agg #[.slice none 0 0],.string ⟨#[]⟩],[]⟩ 8 (by kernel_rfl) (by kernel_rfl) (by kernel_rfl) (by kernel_rfl)) ?_
  intro W base args ds gs before hval0 hW hcnd _
  refine law_postS (S:=[9,35,37]) (tb:=4) (by kernel_rfl) (by kernel_rfl) (by kernel_rfl) okS4 (fun t ht=>?_) rfl ?_ (fun us hu=>?_) hval0 hW
  · have h:t∈[37,37,9]:=ht
    simp only [List.mem_cons,List.not_mem_nil,or_false] at h
    rcases h with rfl|rfl|rfl
    · exact ⟨of_decide_eq_true (by kernel_rfl),by kernel_rfl,of_decide_eq_true (by kernel_rfl)⟩
    · exact ⟨of_decide_eq_true (by kernel_rfl),by kernel_rfl,of_decide_eq_true (by kernel_rfl)⟩
    · exact ⟨of_decide_eq_true (by kernel_rfl),by kernel_rfl,of_decide_eq_true (by kernel_rfl)⟩
  · obtain ⟨p,q,hA,hV,rfl,hfz,hnd⟩:=hW
    obtain ⟨rfl,rfl⟩:=trodVars_none hV
    change DataW.TrodAll enc Try.prog W 0 (fun _=>true) true [37,37,9] args.toList ds p at hA
    obtain ⟨v0,vs0,y0,ds0,pa0,pb0,hv0,rfl,rfl,_,hA⟩:=trodAll_cons hA
    obtain ⟨v1,vs1,y1,ds1,pa1,pb1,hv1,rfl,rfl,_,hA⟩:=trodAll_cons hA
    obtain ⟨v2,vs2,y2,ds2,pa2,pb2,hv2,rfl,rfl,_,hA⟩:=trodAll_cons hA
    obtain ⟨_,rfl,rfl⟩:=trodAll_nil hA
    rfl
  · obtain ⟨d0,d1,d2,rfl⟩:=args4 ut hu
    exact law4_pure d0 d1 d2
theorem proved4:Rows.FormulaParsesSaid:=
  OpenClaim.holds_of_wide 4 Try.f4 rfl rfl rfl rfl rfl rfl rfl ⟨rfl,rfl,rfl,rfl,rfl⟩ rfl rfl rfl rfl rfl (by kernel_rfl) Try.func4 (by kernel_rfl)
    (of_decide_eq_true (by kernel_rfl)) (by unfold Func.isWrapper; first|(rw [if_pos (by decide+kernel)]; kernel_rfl)|(rw [if_neg (by decide+kernel)]; exact ⟨rfl,rfl⟩))
    (fun os started H enc _=>lifted4 os started H enc)
end Go.Proofs.Ytdmcmkccifmofaa
