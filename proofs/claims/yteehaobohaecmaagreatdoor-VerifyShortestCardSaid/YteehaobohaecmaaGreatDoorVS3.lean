/- Contracts of the functions that the law VS reaches, and the law itself, for every input; no condition. -/
import Derived.KernelRfl
import Derived.Test.YteehaobohaecmaaGreatDoorProg
import Derived.Shelf.Strconv.Itoa3
import Derived.Test.YteehaobohaecmaaGreatDoorVS2
set_option linter.unusedSimpArgs false
set_option linter.unusedVariables false
namespace Go.Proofs.YteehaobohaecmaaGreatDoor
open Go Go.Proofs
def s63:SF:=⟨14,[.tmp 2],.seq (.reg [qI 2 0]) (.seq (.seq (.reg [qM 3 0]) (.block 0 (.seq (.reg [qC 5 .eql 3 5,qM 4 5]) (.cond (.t 4) (.seq (.reg [qI 2 6]) (.ret)) (.seq (.reg [qC 7 .eql 3 6,qM 6 7]) (.cond (.t 6) (.seq (.reg [qI 2 5]) (.ret)) (.seq (.reg [qC 9 .eql 3 7,qM 8 9]) (.cond (.t 8) (.seq (.reg [qI 2 9]) (.ret)) (.seq (.reg [qC 11 .eql 3 9,qM 10 11]) (.cond (.t 10) (.seq (.reg [qI 2 7]) (.ret)) (.seq (.reg [qC 13 .eql 3 8,qM 12 13]) (.cond (.t 12) (.seq (.reg [qI 2 10]) (.ret)) (.skip))))))))))))) (.seq (.reg [qI 2 8]) (.ret)))⟩
theorem aNt:bF Tryz.prog ⟨[51,59,84,90,97,109,153,154,155,160],[],[],[]⟩ Tryz.f63=some s63:=by kernel_rfl
theorem aJe (o:Int):aP Tryz.prog 63 [(iV o)] (iV (jP o)):=by
 refine pW Tryz.func63 aNt fun hB=>?_
 unfold s63
 dsimp only
 refine W_r (aA rfl (R_e (aB (W_r (aA rfl (R_e (aE fun Q1 n1 x1 y1 z1=>?_)))))))
 refine W_r (bH rfl rfl (aA rfl (R_e ?_)))
 refine cW rfl (fun c2=>?_) fun c2=>?_
 ·
  refine W_r (aA rfl (R_e (aN (y1 _ _ ?_))))
  refine bB (rVq (iV 6)) (aF ?_)
  · simp only [jP]; repeat (first|rfl|omega|split)
 refine W_r (bH rfl rfl (aA rfl (R_e ?_)))
 refine cW rfl (fun c3=>?_) fun c3=>?_
 ·
  refine W_r (aA rfl (R_e (aN (y1 _ _ ?_))))
  refine bB (rVq (iV 5)) (aF ?_)
  · simp only [jP]; repeat (first|rfl|omega|split)
 refine W_r (bH rfl rfl (aA rfl (R_e ?_)))
 refine cW rfl (fun c4=>?_) fun c4=>?_
 ·
  refine W_r (aA rfl (R_e (aN (y1 _ _ ?_))))
  refine bB (rVq (iV 9)) (aF ?_)
  · simp only [jP]; repeat (first|rfl|omega|split)
 refine W_r (bH rfl rfl (aA rfl (R_e ?_)))
 refine cW rfl (fun c5=>?_) fun c5=>?_
 ·
  refine W_r (aA rfl (R_e (aN (y1 _ _ ?_))))
  refine bB (rVq (iV 7)) (aF ?_)
  · simp only [jP]; repeat (first|rfl|omega|split)
 refine W_r (bH rfl rfl (aA rfl (R_e ?_)))
 refine cW rfl (fun c6=>?_) fun c6=>?_
 ·
  refine W_r (aA rfl (R_e (aN (y1 _ _ ?_))))
  refine bB (rVq (iV 10)) (aF ?_)
  · simp only [jP]; repeat (first|rfl|omega|split)
 refine dA (n1 _ _ (.done (W_r (aA rfl (R_e (aN ?_))))))
 refine bB (rVq (iV 8)) (aF ?_)
 · simp only [jP]; repeat (first|rfl|omega|split)
theorem qZ (f:Fm) (b:Bool) (hf:okF f=true) (hz:f.sz≤4096) (ih: ∀ (g:Fm) (b:Bool),g.sz < f.sz→okF g=true→g.sz≤4096→aP Tryz.prog 37 [(V.agg [(iV g.op),(iV g.arg),(V.sl (List.map cF g.kids))]),(V.bool b)] (V.agg [(iV ((nrm g b).op)),(iV ((nrm g b).arg)),(V.sl (List.map cF ((nrm g b).kids)))])):aP Tryz.prog 37 [(V.agg [(iV f.op),(iV f.arg),(V.sl (List.map cF f.kids))]),(V.bool b)] (V.agg [(iV ((nrm f b).op)),(iV ((nrm f b).arg)),(V.sl (List.map cF ((nrm f b).kids)))]):=by
 refine pW Tryz.func37 aO0 fun hB=>?_
 unfold s37
 dsimp only
 have hp:=bJ hf
 have hr:=cP hp.1
 have hln:=f.sz_len
 refine W_r (cK (i:=2) (n:=0) (m:=3) (cs:=[(iV f.op),(iV f.arg),(V.sl (List.map cF f.kids))]) rfl (cVq rfl) rfl rfl rfl (bE (i:=4) (n:=0) (m:=3) rfl (cVq rfl) rfl (R_e (aB (W_r (aU rfl rfl (aL rfl rfl rfl rfl ?_)))))))
 refine bH rfl rfl (R_e ?_)
 refine aK rfl (fun c1=>?_) fun c1=>?_
 ·
  refine aB (W_r (aU rfl rfl (aL rfl rfl rfl rfl (dC (i:=0) (rVq (V.sl (List.map cF f.kids))) (rNq 0) (by omega) (bX _) rfl (aH rfl rfl (aA rfl (gA rfl ?_)))))))
  refine aJ (ih (nth f.kids 0) (!b) (Fm.sz_kid (by omega)) (hp.2 _ (by omega)) (Nat.le_trans (Nat.le_of_lt (Fm.sz_kid (by omega))) hz)) rfl (bP rfl rfl rfl rfl rfl rfl rfl rfl rfl (R_e (aW ?_)))
  refine eK (bS (u:=(V.agg [(iV ((nrm (nth f.kids 0) (!b)).op)),(iV ((nrm (nth f.kids 0) (!b)).arg)),(V.sl (List.map cF ((nrm (nth f.kids 0) (!b)).kids)))])) rfl (@rfl Blk (bk 1 24 3 [[(iV ((nrm (nth f.kids 0) (!b)).op)),(iV ((nrm (nth f.kids 0) (!b)).arg)),(V.sl (List.map cF ((nrm (nth f.kids 0) (!b)).kids)))]])) (lB oB rfl rfl)) (bV (aF ?_) (aF ?_) (eI ?_ (fun _=>by simp)))
  · rw [mE (f:=f) (b:=b) (by omega) (by omega)]
  · rw [mE (f:=f) (b:=b) (by omega) (by omega)]
  · rw [mE (f:=f) (b:=b) (by omega) (by omega)]
 refine aD (aB (W_r (aU rfl rfl (aL rfl rfl rfl rfl (bM rfl (bH rfl rfl (R_e ?_)))))))
 refine aK rfl (fun c2=>?_) fun c2=>?_
 ·
  refine aB (W_r (aU rfl rfl (aL rfl rfl rfl rfl (aU rfl rfl (aL rfl rfl rfl rfl (bI rfl rfl (bE (i:=5) (n:=0) (m:=3) rfl (cVq rfl) rfl ?_)))))))
  refine bP rfl rfl rfl rfl rfl rfl rfl rfl rfl (R_e (aB (aB (W_r (aA rfl (R_e ?_))))))
  refine cO rfl (fun c3=>?_) (fun c3=>?_)
  ·
   have hb:b=true:=c3
   refine aB (W_r (aL rfl rfl rfl rfl (iR (aY (rVq (V.agg [(iV f.op),(iV f.arg),V.nilsl])) cU) (aAu (⟨f.op,f.arg,([])⟩:Fm)) (fS (by rfl) rfl) (by simp [-List.map_take,-List.map_drop,-List.map_append,-List.map_reverse]) (Or.inl (by simp [-List.map_take,-List.map_drop,-List.map_append,-List.map_reverse])) (bP rfl rfl rfl rfl rfl rfl rfl rfl rfl (R_e (aW ?_))))))
   refine eK (bS (u:=(V.agg [(iV 4),(iV 0),(V.sl (List.map cF ([(⟨f.op,f.arg,([])⟩:Fm)])))])) rfl (@rfl Blk (bk 1 24 3 [[(iV 4),(iV 0),(V.sl (List.map cF ([(⟨f.op,f.arg,([])⟩:Fm)])))]])) (lB oB rfl rfl)) (bV (aF ?_) (aF ?_) (eI ?_ (fun _=>by simp)))
   · rw [hb,oS (by omega) (by omega)]; rfl
   · rw [hb,oS (by omega) (by omega)]; rfl
   · rw [hb,oS (by omega) (by omega)]; rfl
  have hb:b=false:=by simpa using c3
  refine aD (aB (W_r (aL rfl rfl rfl rfl (bP rfl rfl rfl rfl rfl rfl rfl rfl rfl (R_e (aW ?_))))))
  refine eK (bS (u:=(V.agg [(iV f.op),(iV f.arg),V.nilsl])) rfl (@rfl Blk (bk 1 24 3 [[(iV f.op),(iV f.arg),V.nilsl]])) (lB oB rfl rfl)) (bV (aF ?_) (aF ?_) (dD ?_))
  · rw [hb,oZ (by omega) (by omega)]; rfl
  · rw [hb,oZ (by omega) (by omega)]; rfl
  · rw [hb,oZ (by omega) (by omega)]; rfl
 refine aD (W_r (aU rfl rfl (aL rfl rfl rfl rfl (bI rfl rfl (bE (i:=6) (n:=0) (m:=3) rfl (cVq rfl) rfl (bP rfl rfl rfl rfl rfl rfl rfl rfl rfl (R_e ?_)))))))
 refine aB (W_r (aA rfl (R_e ?_)))
 refine cO rfl (fun c4=>?_) (fun c4=>?_)
 ·
  have hb:b=true:=c4
  refine W_r (aU rfl rfl (aL rfl rfl rfl rfl (aJ (aJe f.op) rfl (aU rfl rfl (bP rfl rfl rfl rfl rfl rfl rfl rfl rfl (R_e (aB ?_)))))))
  refine gP (fun T H=>T 1=(V.bool b)∧T 4=(mPq 4)∧T 6=(mPq 6)∧T 41=(V.sl (List.map cF f.kids))∧T 42=(iV ((f.kids.length:Nat):Int))∧T 43=(iV 0)∧H 2=(bk 1 24 3 [[(iV f.op),(iV f.arg),(V.sl (List.map cF f.kids))]])∧H 4=(bk 1 24 3 [[(iV 0),(iV 0),V.nilsl]])∧H 5=bZq∧H 6=(bk 1 24 3 [[(iV (jP f.op)),(iV 0),V.nilsl]])∧H 8=bZq∧H 653=bZq∧True) ?_ ?_
  ·
   refine aU rfl rfl (aL rfl rfl rfl rfl (bM rfl (aA rfl ?_)))
   exact fM ⟨rfl,rfl,rfl,rfl,rfl,rfl,rfl,rfl,rfl,rfl,rfl,rfl,trivial⟩
  intro T H ⟨t1,t4,t6,t41,t42,t43,h2,h4,h5,h6,h8,h653,_⟩
  refine .lazyCell 653 24 3 6 0 2 [(iV (jP f.op)),(iV 0),V.nilsl] (by decide) (by rw [h6]; rfl) (by rw [h6]; rfl) rfl (.done ?_)
  refine dQ (R:=fun T H=>T 1=(V.bool b)∧T 4=(mPq 4)∧T 6=(mPq 6)∧T 41=(V.sl (List.map cF f.kids))∧T 42=(iV ((f.kids.length:Nat):Int))∧T 43=(iV 0)∧H 2=(bk 1 24 3 [[(iV f.op),(iV f.arg),(V.sl (List.map cF f.kids))]])∧H 4=(bk 1 24 3 [[(iV 0),(iV 0),V.nilsl]])∧H 5=bZq∧H 6=(bk 1 24 3 [[(iV (jP f.op)),(iV 0),(V.ms 653 1 0 0)]])∧H 8=bZq∧H 653=(bz 1 24 3 [])∧True) ⟨t1,t4,t6,t41,t42,t43,(uTq (uTq h2)),(uTq (uTq h4)),(uTq (uTq h5)),(by rw [aG,h6,(cVq h653)]; rfl),(uTq (uTq h8)),(by rw [aV _ _ (by decide),aG,(cVq h653)]),trivial⟩ ?_
  intro T H ⟨t1,t4,t6,t41,t42,t43,h2,h4,h5,h6,h8,h653,_⟩
  refine aE fun Q5 n5 x5 y5 z5=>?_
  refine cQ (fun mm T H=> ∃ (k:Nat) (w:Nat) (v8:Nat),mm=f.kids.length - k∧T 1=(V.bool b)∧T 4=(mPq 4)∧T 6=(mPq 6)∧T 41=(V.sl (List.map cF f.kids))∧T 42=(iV ((f.kids.length:Nat):Int))∧T 43=(iV ((k:Nat):Int))∧H 2=(bk 1 24 3 [[(iV f.op),(iV f.arg),(V.sl (List.map cF f.kids))]])∧H 4=(bk 1 24 3 [[(iV 0),(iV 0),V.nilsl]])∧H 5=bZq∧H 6=(bk 1 24 3 [[(iV (nop f.op b)),(iV 0),(V.ms 653 w 0 k)]])∧(H 8).ver=v8∧H 653=(bz w 24 3 (List.map cF ((f.kids.take k).map (fun g=>nrm g b))))∧(k≤f.kids.length)) ?_ ?_
  ·
   refine ⟨_,0,1,0,rfl,t1,t4,t6,t41,t42,(eTq t43 rfl),h2,h4,h5,(eTq h6 (by (exact aNl (by simp only [nop,jP,hb,if_true,Bool.false_eq_true,if_false]; repeat (first|rfl|omega|split))))),(cVq h8),(eTq h653 (by rfl)),?_⟩
   · omega
  intro mm T H ⟨k,w,v8,hmm,t1,t4,t6,t41,t42,t43,h2,h4,h5,h6,h8,h653,hk⟩ Q6 p16 p26 p36
  unfold aHB
  refine W_r (bW t43 t42 (R_e ?_))
  refine aK rfl (fun c7=>?_) fun c7=>?_
  ·
   refine aD (aE fun Q8 n8 x8 y8 z8=>(W_r (dC (i:=k) t41 t43 (by omega) (bX _) rfl (aH rfl rfl (bE (i:=8) (n:=v8) (m:=3) rfl h8 rfl (bP rfl rfl rfl rfl rfl rfl rfl rfl rfl (R_e ?_)))))))
   refine W_t (aU t6 h6 (aL rfl h6 rfl rfl (aL rfl rfl rfl rfl (aA t1 (aJ (ih (nth f.kids k) b (Fm.sz_kid (by omega)) (hp.2 _ (by omega)) (Nat.le_trans (Nat.le_of_lt (Fm.sz_kid (by omega))) hz)) rfl (bC rfl rfl (eH (l:=((f.kids.take k).map (fun g=>nrm g b))) (f:=cF) (x:=(nrm (nth f.kids k) b)) (rVq (V.ms 653 w 0 k)) h653 (by (simp; omega)) (pV (x:=(nrm (nth f.kids k) b)) (rVq (V.sl [[(iV ((nrm (nth f.kids k) b).op)),(iV ((nrm (nth f.kids k) b).arg)),(V.sl (List.map cF ((nrm (nth f.kids k) b).kids)))]]))) (kJ _) (lG _) (by omega) (by omega) ?_)))))))
   refine aU t6 h6 (bP rfl rfl rfl h6 rfl rfl rfl rfl rfl (R_e (n8 _ _ (.done (W_t (bL t43 (rNq 1) (by omega) (aA rfl ?_)))))))
   refine R_e ?_
   refine p16 _ _ _ ?_ ⟨(k+1),(w+1),(v8+1),rfl,t1,t4,t6,t41,t42,(eTq (rNq (k+1)) (by rfl)),h2,h4,h5,(eTq (@rfl Blk (bk 1 24 3 [[(iV (nop f.op b)),(iV 0),(V.ms 653 (w+1) 0 (k+1))]])) (by rfl)),(cVq rfl),(eTq (@rfl Blk (bz (w+1) 24 3 (List.map cF ((f.kids.take k).map (fun g=>nrm g b)++[(nrm (nth f.kids k) b)])))) (by (rw [oE (by omega)]; done))),?_⟩
   · omega
   · omega
  refine aX (p36 _ _ _ (x5 _ _ (.done (W_r (aL t6 h6 rfl rfl (bP t4 rfl rfl h4 rfl rfl rfl rfl rfl (R_e ?_)))))))
  refine aN ?_
  refine eK (bS (u:=(V.agg [(iV (nop f.op b)),(iV 0),(V.ms 653 w 0 k)])) t4 (@rfl Blk (bk 1 24 3 [[(iV (nop f.op b)),(iV 0),(V.ms 653 w 0 k)]])) (lB oB rfl rfl)) (bV (aF ?_) (aF ?_) (yP h653 (by simp) (l:=((f.kids.take k).map (fun g=>nrm g b))) rfl (by (simp; omega)) (fun _=>by simp) ?_))
  · rw [gF (by omega) (by omega)]; rfl
  · rw [gF (by omega) (by omega)]; rfl
  · rw [gF (by omega) (by omega)]; first|rfl|(show _=List.map _ f.kids; rw [show k=f.kids.length by omega,List.take_length]; done)
 have hb:b=false:=by simpa using c4
 refine aD (aB ?_)
 refine gP (fun T H=>T 1=(V.bool b)∧T 4=(mPq 4)∧T 6=(mPq 6)∧T 41=(V.sl (List.map cF f.kids))∧T 42=(iV ((f.kids.length:Nat):Int))∧T 43=(iV 0)∧H 2=(bk 1 24 3 [[(iV f.op),(iV f.arg),(V.sl (List.map cF f.kids))]])∧H 4=(bk 1 24 3 [[(iV 0),(iV 0),V.nilsl]])∧H 5=bZq∧H 6=(bk 1 24 3 [[(iV f.op),(iV 0),V.nilsl]])∧H 8=bZq∧H 653=bZq∧True) ?_ ?_
 ·
  refine aU rfl rfl (aL rfl rfl rfl rfl (bM rfl (aA rfl ?_)))
  exact fM ⟨rfl,rfl,rfl,rfl,rfl,rfl,rfl,rfl,rfl,rfl,rfl,rfl,trivial⟩
 intro T H ⟨t1,t4,t6,t41,t42,t43,h2,h4,h5,h6,h8,h653,_⟩
 refine .lazyCell 653 24 3 6 0 2 [(iV f.op),(iV 0),V.nilsl] (by decide) (by rw [h6]; rfl) (by rw [h6]; rfl) rfl (.done ?_)
 refine dQ (R:=fun T H=>T 1=(V.bool b)∧T 4=(mPq 4)∧T 6=(mPq 6)∧T 41=(V.sl (List.map cF f.kids))∧T 42=(iV ((f.kids.length:Nat):Int))∧T 43=(iV 0)∧H 2=(bk 1 24 3 [[(iV f.op),(iV f.arg),(V.sl (List.map cF f.kids))]])∧H 4=(bk 1 24 3 [[(iV 0),(iV 0),V.nilsl]])∧H 5=bZq∧H 6=(bk 1 24 3 [[(iV f.op),(iV 0),(V.ms 653 1 0 0)]])∧H 8=bZq∧H 653=(bz 1 24 3 [])∧True) ⟨t1,t4,t6,t41,t42,t43,(uTq (uTq h2)),(uTq (uTq h4)),(uTq (uTq h5)),(by rw [aG,h6,(cVq h653)]; rfl),(uTq (uTq h8)),(by rw [aV _ _ (by decide),aG,(cVq h653)]),trivial⟩ ?_
 intro T H ⟨t1,t4,t6,t41,t42,t43,h2,h4,h5,h6,h8,h653,_⟩
 refine aE fun Q9 n9 x9 y9 z9=>?_
 refine cQ (fun mm T H=> ∃ (k:Nat) (w:Nat) (v8:Nat),mm=f.kids.length - k∧T 1=(V.bool b)∧T 4=(mPq 4)∧T 6=(mPq 6)∧T 41=(V.sl (List.map cF f.kids))∧T 42=(iV ((f.kids.length:Nat):Int))∧T 43=(iV ((k:Nat):Int))∧H 2=(bk 1 24 3 [[(iV f.op),(iV f.arg),(V.sl (List.map cF f.kids))]])∧H 4=(bk 1 24 3 [[(iV 0),(iV 0),V.nilsl]])∧H 5=bZq∧H 6=(bk 1 24 3 [[(iV (nop f.op b)),(iV 0),(V.ms 653 w 0 k)]])∧(H 8).ver=v8∧H 653=(bz w 24 3 (List.map cF ((f.kids.take k).map (fun g=>nrm g b))))∧(k≤f.kids.length)) ?_ ?_
 ·
  refine ⟨_,0,1,0,rfl,t1,t4,t6,t41,t42,(eTq t43 rfl),h2,h4,h5,(eTq h6 (by (exact aNl (by simp only [nop,jP,hb,if_true,Bool.false_eq_true,if_false]; repeat (first|rfl|omega|split))))),(cVq h8),(eTq h653 (by rfl)),?_⟩
  · omega
 intro mm T H ⟨k,w,v8,hmm,t1,t4,t6,t41,t42,t43,h2,h4,h5,h6,h8,h653,hk⟩ Q10 p110 p210 p310
 unfold aHB
 refine W_r (bW t43 t42 (R_e ?_))
 refine aK rfl (fun c11=>?_) fun c11=>?_
 ·
  refine aD (aE fun Q12 n12 x12 y12 z12=>(W_r (dC (i:=k) t41 t43 (by omega) (bX _) rfl (aH rfl rfl (bE (i:=8) (n:=v8) (m:=3) rfl h8 rfl (bP rfl rfl rfl rfl rfl rfl rfl rfl rfl (R_e ?_)))))))
  refine W_t (aU t6 h6 (aL rfl h6 rfl rfl (aL rfl rfl rfl rfl (aA t1 (aJ (ih (nth f.kids k) b (Fm.sz_kid (by omega)) (hp.2 _ (by omega)) (Nat.le_trans (Nat.le_of_lt (Fm.sz_kid (by omega))) hz)) rfl (bC rfl rfl (eH (l:=((f.kids.take k).map (fun g=>nrm g b))) (f:=cF) (x:=(nrm (nth f.kids k) b)) (rVq (V.ms 653 w 0 k)) h653 (by (simp; omega)) (pV (x:=(nrm (nth f.kids k) b)) (rVq (V.sl [[(iV ((nrm (nth f.kids k) b).op)),(iV ((nrm (nth f.kids k) b).arg)),(V.sl (List.map cF ((nrm (nth f.kids k) b).kids)))]]))) (kJ _) (lG _) (by omega) (by omega) ?_)))))))
  refine aU t6 h6 (bP rfl rfl rfl h6 rfl rfl rfl rfl rfl (R_e (n12 _ _ (.done (W_t (bL t43 (rNq 1) (by omega) (aA rfl ?_)))))))
  refine R_e ?_
  refine p110 _ _ _ ?_ ⟨(k+1),(w+1),(v8+1),rfl,t1,t4,t6,t41,t42,(eTq (rNq (k+1)) (by rfl)),h2,h4,h5,(eTq (@rfl Blk (bk 1 24 3 [[(iV (nop f.op b)),(iV 0),(V.ms 653 (w+1) 0 (k+1))]])) (by rfl)),(cVq rfl),(eTq (@rfl Blk (bz (w+1) 24 3 (List.map cF ((f.kids.take k).map (fun g=>nrm g b)++[(nrm (nth f.kids k) b)])))) (by (rw [oE (by omega)]; done))),?_⟩
  · omega
  · omega
 refine aX (p310 _ _ _ (x9 _ _ (.done (W_r (aL t6 h6 rfl rfl (bP t4 rfl rfl h4 rfl rfl rfl rfl rfl (R_e ?_)))))))
 refine aN ?_
 refine eK (bS (u:=(V.agg [(iV (nop f.op b)),(iV 0),(V.ms 653 w 0 k)])) t4 (@rfl Blk (bk 1 24 3 [[(iV (nop f.op b)),(iV 0),(V.ms 653 w 0 k)]])) (lB oB rfl rfl)) (bV (aF ?_) (aF ?_) (yP h653 (by simp) (l:=((f.kids.take k).map (fun g=>nrm g b))) rfl (by (simp; omega)) (fun _=>by simp) ?_))
 · rw [gF (by omega) (by omega)]; rfl
 · rw [gF (by omega) (by omega)]; rfl
 · rw [gF (by omega) (by omega)]; first|rfl|(show _=List.map _ f.kids; rw [show k=f.kids.length by omega,List.take_length]; done)
theorem aBC (f:Fm) (b:Bool) (hf:okF f=true) (hz:f.sz≤4096):aP Tryz.prog 37 [(V.agg [(iV f.op),(iV f.arg),(V.sl (List.map cF f.kids))]),(V.bool b)] (V.agg [(iV ((nrm f b).op)),(iV ((nrm f b).arg)),(V.sl (List.map cF ((nrm f b).kids)))]):=by
  have key: ∀ (mm:Nat) (f:Fm) (b:Bool),f.sz < mm→okF f=true→f.sz≤4096→aP Tryz.prog 37 [(V.agg [(iV f.op),(iV f.arg),(V.sl (List.map cF f.kids))]),(V.bool b)] (V.agg [(iV ((nrm f b).op)),(iV ((nrm f b).arg)),(V.sl (List.map cF ((nrm f b).kids)))]):=by
    intro mm
    induction mm with
    |zero=>intro f b hlt; exact absurd hlt (Nat.not_lt_zero _)
    | succ mm ih =>
      intro f b hlt hf hz
      exact qZ f b hf hz fun f2 b2 hlt2=>ih f2 b2 (by omega)
  exact key (f.sz+1) f b (Nat.lt_succ_self _) hf hz
theorem pH (f:Fm):aP Tryz.prog 11 [(V.agg [(iV f.op),(iV f.arg),(V.sl (List.map cF f.kids))])] (V.tup [(V.agg [(iV ((aM f).1.op)),(iV ((aM f).1.arg)),(V.sl (List.map cF ((aM f).1.kids)))]),(iV ((aM f).2))]):=by
 refine pW Tryz.func11 aN8 fun hB=>?_
 unfold s11
 dsimp only
 refine W_r (cK (i:=1) (n:=0) (m:=3) (cs:=[(iV f.op),(iV f.arg),(V.sl (List.map cF f.kids))]) rfl (cVq rfl) rfl rfl rfl (bE (i:=2) (n:=0) (m:=3) rfl (cVq rfl) rfl (aA rfl (R_e (aB (W_r (aL rfl rfl rfl rfl ?_)))))))
 refine aJ (gX f) rfl (aA rfl (R_e (aB (W_r (aA rfl (cM rfl rfl (R_e ?_)))))))
 refine aK rfl (fun c1=>?_) fun c1=>?_
 ·
  have d1:=aPl c1
  refine aB (W_r (bI rfl rfl (aA rfl (bP rfl rfl rfl rfl rfl rfl rfl rfl rfl (aA rfl (R_e (aW ?_)))))))
  refine iO (bS (u:=(V.agg [(iV 0),(iV 0),V.nilsl])) rfl (@rfl Blk (bk 1 24 3 [[(iV 0),(iV 0),V.nilsl]])) (lB oB rfl rfl)) (cR (rVq (iV (cE f)))) (bV (aF ?_) (aF ?_) (dD ?_)) (aF ?_)
  · rw [d1]; rfl
  · rw [d1]; rfl
  · rw [d1]; rfl
  · rw [d1]
 have d1:=aIo c1
 refine aD (W_r (aL rfl rfl rfl rfl (aJ (aBC f false (eN (by omega)) (iI (by omega))) rfl (aJ (sR (nrm f false) (aBw f (eN (by omega)) false) (Nat.le_trans (aAN f false) (by have:=iI (f:=f) (by omega); omega))) rfl (bG rfl rfl (bG rfl rfl (bP rfl rfl rfl rfl rfl rfl rfl rfl rfl ?_)))))))
 refine aA rfl (R_e (aN ?_))
 refine iO (bS (u:=(V.agg [(iV ((chk (nrm f false)).1.op)),(iV ((chk (nrm f false)).1.arg)),(V.sl (List.map cF ((chk (nrm f false)).1.kids)))])) rfl (@rfl Blk (bk 1 24 3 [[(iV ((chk (nrm f false)).1.op)),(iV ((chk (nrm f false)).1.arg)),(V.sl (List.map cF ((chk (nrm f false)).1.kids)))]])) (lB oB rfl rfl)) (cR (rVq (iV ((chk (nrm f false)).2)))) (bV (aF ?_) (aF ?_) (eI ?_ (fun _=>by simp))) (aF ?_)
 · rw [d1]
 · rw [d1]
 · rw [d1]
 · rw [d1]
def aQO:List SO:=[
 qM 17 1,
 qC 18 .lss 17 0,
 qM 19 18,
 ⟨some (19,false),some 20,.mv (.t 1)⟩,
 ⟨some (19,false),some 21,.bin .geq (.t 20) (.c (.int .i64 64))⟩,
 sO 22 (.pick (.t 19) (.c (.bool true)) (.t 21)),
 qM 23 22,
 ⟨some (23,false),some 24,.mv (.t 2)⟩,
 ⟨some (23,false),some 25,.bin .lss (.t 24) (.c (.int .i64 0))⟩,
 sO 26 (.pick (.t 23) (.c (.bool true)) (.t 25)),
 qM 27 26,
 ⟨some (27,false),some 28,.mv (.t 2)⟩,
 ⟨some (27,false),some 29,.bin .gtr (.t 28) (.c (.int .i64 1048576))⟩,
 sO 30 (.pick (.t 27) (.c (.bool true)) (.t 29))]
def aRf:List SO:=[
 qL 33 3 3,
 sO 34 (.call false 11 [.t 33]),
 qM 32 34,
 qE 35 32 0,
 qE 36 32 1,
 sO 9 (.alloc 24 [.int .i64 0,.int .i64 0,.nilsl]),
 sN (.store 3 (.t 9) (.t 35)),
 qM 10 36]
def aRw:List SO:=[
 qL 41 3 9,
 qM 42 1,
 qM 43 2,
 sO 44 (.call false 40 [.t 41,.t 42,.t 43]),
 sO 45 (.call false 36 [.t 44]),
 qE 46 45 0,
 qE 47 45 1,
 sN (.store 3 (.t 6) (.t 46)),
 qM 7 47]
def s13:SF:=⟨48,[.cell 6 true 3,.tmp 7],.seq (.reg [sO 3 (.box 24 3 (.t 0)),sO 6 (.alloc 24 [.int .i64 0,.int .i64 0,.nilsl]),qI 7 0]) (.seq (.seq (.reg [qL 11 3 3,sO 12 (.call false 35 [.t 11]),qM 8 12]) (.seq (.reg [qM 13 8,qC 14 .neq 13 0]) (.cond (.t 14) (.seq (.reg [sO 15 (.build [.int .i64 0,.int .i64 0,.nilsl] []),qM 16 8,sN (.store 3 (.t 6) (.t 15)),qM 7 16]) (.ret)) (.skip)))) (.seq (.seq (.reg aQO) (.cond (.t 30) (.seq (.reg [sO 31 (.build [.int .i64 0,.int .i64 0,.nilsl] []),sN (.store 3 (.t 6) (.t 31)),qI 7 2]) (.ret)) (.skip))) (.seq (.reg aRf) (.seq (.seq (.reg [qM 37 10,qC 38 .neq 37 0]) (.cond (.t 38) (.seq (.reg [sO 39 (.build [.int .i64 0,.int .i64 0,.nilsl] []),qM 40 10,sN (.store 3 (.t 6) (.t 39)),qM 7 40]) (.ret)) (.skip))) (.seq (.reg aRw) (.ret))))))⟩
theorem aOl:bF Tryz.prog ⟨[51,59,84,90,97,109,153,154,155,160],[],[],[]⟩ Tryz.f13=some s13:=by kernel_rfl
def aQb:List SO:=[
 qF 33 0 7,
 ql 34 33,
 qC 35 .eql 34 2,
 qM 36 35,
 ⟨some (36,true),some 37,.fld 1 (.t 7)⟩,
 ⟨some (36,true),some 38,.load false 1 (.t 37)⟩,
 ⟨some (36,true),some 39,.mv (.t 1)⟩,
 ⟨some (36,true),some 40,.bin .neq (.t 38) (.t 39)⟩,
 sO 41 (.pick (.t 36) (.t 40) (.c (.bool false))),
 qM 42 41,
 ⟨some (42,false),some 43,.fld 0 (.t 7)⟩,
 ⟨some (42,false),some 44,.load false 1 (.t 43)⟩,
 ⟨some (42,false),some 45,.bin .eql (.t 44) (.c (.int .i64 3))⟩,
 ⟨some (42,false),some 46,.mv (.t 45)⟩,
 ⟨some (46,true),some 47,.fld 1 (.t 7)⟩,
 ⟨some (46,true),some 48,.load false 1 (.t 47)⟩,
 ⟨some (46,true),some 49,.mv (.t 2)⟩,
 ⟨some (46,true),some 50,.bin .neq (.t 48) (.t 49)⟩,
 ⟨some (42,false),some 51,.pick (.t 46) (.t 50) (.c (.bool false))⟩,
 sO 52 (.pick (.t 42) (.c (.bool true)) (.t 51)),
 sO 53 (.call false 66 [.t 52]),
 sN (.store 3 (.t 6) (.t 53))]
def aNM:List SO:=[
 qF 63 2 3,
 ql 64 63,
 sO 65 (.idx 3 (.t 64) (.c (.int .i64 1))),
 qL 66 3 65,
 qM 67 1,
 qM 68 2,
 sO 69 (.call false 40 [.t 66,.t 67,.t 68]),
 qF 70 2 3,
 ql 71 70,
 sO 72 (.idx 3 (.t 71) (.c (.int .i64 0))),
 qL 73 3 72,
 qM 74 1,
 qM 75 2,
 sO 76 (.call false 40 [.t 73,.t 74,.t 75]),
 qL 77 3 3,
 sO 78 (.bslice 24 3 false [.int .i64 0,.int .i64 0,.nilsl] 2 [(0,.t 76),(1,.t 77)]),
 sO 79 (.call false 67 [.c (.int .i64 5),.t 78]),
 sO 80 (.bslice 24 3 false [.int .i64 0,.int .i64 0,.nilsl] 2 [(0,.t 69),(1,.t 79)]),
 sO 81 (.call false 67 [.c (.int .i64 6),.t 80]),
 sN (.store 3 (.t 6) (.t 81))]
def aNW:List SO:=[
 qF 84 2 3,
 ql 85 84,
 sO 86 (.idx 3 (.t 85) (.c (.int .i64 1))),
 qL 87 3 86,
 qM 88 1,
 qM 89 2,
 sO 90 (.call false 40 [.t 87,.t 88,.t 89]),
 qF 91 2 3,
 ql 92 91,
 sO 93 (.idx 3 (.t 92) (.c (.int .i64 0))),
 qL 94 3 93,
 qM 95 1,
 qM 96 2,
 sO 97 (.call false 40 [.t 94,.t 95,.t 96]),
 qL 98 3 3,
 sO 99 (.bslice 24 3 false [.int .i64 0,.int .i64 0,.nilsl] 2 [(0,.t 97),(1,.t 98)]),
 sO 100 (.call false 67 [.c (.int .i64 6),.t 99]),
 sO 101 (.bslice 24 3 false [.int .i64 0,.int .i64 0,.nilsl] 2 [(0,.t 90),(1,.t 100)]),
 sO 102 (.call false 67 [.c (.int .i64 5),.t 101]),
 sN (.store 3 (.t 6) (.t 102))]
def aPG:List SO:=[
 qF 113 2 8,
 ql 114 113,
 qL 115 3 10,
 qM 116 1,
 qM 117 2,
 sO 118 (.call false 40 [.t 115,.t 116,.t 117]),
 sO 119 (.bslice 24 3 false [.int .i64 0,.int .i64 0,.nilsl] 1 [(0,.t 118)]),
 sO 120 (.append 24 3 40 (.t 114) (.t 119)),
 qF 121 2 8,
 sN (.store 1 (.t 121) (.t 120))]
def aMT:SC:=.seq (.reg [qP 110 .lss 109 108]) (.seq (.cond (.t 110) (.skip) (.exit 1)) (.seq (.block 2 (.seq (.reg [qA 111 3 107 109,qL 112 3 111,sO 10 (.alloc 24 [.int .i64 0,.int .i64 0,.nilsl]),sN (.store 3 (.t 10) (.t 112))]) (.reg aPG))) (.reg [qC 122 .add 109 1,qM 109 122])))
def s40:SF:=⟨124,[.cell 6 true 3],.seq (.reg [sO 3 (.box 24 3 (.t 0)),sO 6 (.alloc 24 [.int .i64 0,.int .i64 0,.nilsl])]) (.seq (.seq (.reg [qF 11 0 3,ql 12 11]) (.block 0 (.seq (.reg [qC 14 .eql 12 2,qM 13 14]) (.cond (.t 13) (.seq (.reg [qF 15 1 3,ql 16 15,qM 17 1,qP 18 .eql 16 17,sO 19 (.call false 66 [.t 18]),sN (.store 3 (.t 6) (.t 19))]) (.ret)) (.seq (.reg [qC 21 .eql 12 3,qM 20 21]) (.cond (.t 20) (.seq (.reg [qF 22 1 3,ql 23 22,qM 24 2,qP 25 .eql 23 24,sO 26 (.call false 66 [.t 25]),sN (.store 3 (.t 6) (.t 26))]) (.ret)) (.seq (.reg [qC 28 .eql 12 4,qM 27 28]) (.cond (.t 27) (.seq (.reg [qF 29 2 3,ql 30 29,sO 31 (.idx 3 (.t 30) (.c (.int .i64 0))),qL 32 3 31,sO 7 (.alloc 24 [.int .i64 0,.int .i64 0,.nilsl]),sN (.store 3 (.t 7) (.t 32))]) (.seq (.reg aQb) (.ret))) (.seq (.seq (.reg [qC 55 .eql 12 7,qM 54 55]) (.cond (.t 54) (.skip) (.reg [qC 56 .eql 12 9,qM 54 56]))) (.cond (.t 54) (.seq (.reg [qF 57 2 3,ql 58 57,sO 59 (.idx 3 (.t 58) (.c (.int .i64 0))),qL 60 3 59,sN (.store 3 (.t 6) (.t 60))]) (.ret)) (.seq (.reg [qC 62 .eql 12 8,qM 61 62]) (.cond (.t 61) (.seq (.reg aNM) (.ret)) (.seq (.reg [qC 83 .eql 12 10,qM 82 83]) (.cond (.t 82) (.seq (.reg aNW) (.ret)) (.skip))))))))))))))) (.seq (.reg [qF 103 0 3,ql 104 103,sO 105 (.build [.int .i64 0,.int .i64 0,.nilsl] [(0,1,.t 104)]),sO 8 (.alloc 24 [.int .i64 0,.int .i64 0,.nilsl]),sN (.store 3 (.t 8) (.t 105))]) (.seq (.seq (.reg [qF 106 2 3,ql 107 106,qN 108 107,qI 109 0]) (.block 1 (.loop aMT))) (.seq (.reg [qL 123 3 8,sN (.store 3 (.t 6) (.t 123))]) (.ret)))))⟩
theorem aOw:bF Tryz.prog ⟨[51,59,84,90,97,109,153,154,155,160],[],[],[]⟩ Tryz.f40=some s40:=by kernel_rfl
def s66:SF:=⟨6,[.cell 2 true 3],.seq (.reg [sO 2 (.alloc 24 [.int .i64 0,.int .i64 0,.nilsl])]) (.seq (.seq (.reg [qM 3 0]) (.cond (.t 3) (.seq (.reg [sO 4 (.call false 89 []),sN (.store 3 (.t 2) (.t 4))]) (.ret)) (.skip))) (.seq (.reg [sO 5 (.call false 88 []),sN (.store 3 (.t 2) (.t 5))]) (.ret)))⟩
theorem aPv:bF Tryz.prog ⟨[51,59,84,90,97,109,153,154,155,160],[],[],[]⟩ Tryz.f66=some s66:=by kernel_rfl
theorem pR (b:Bool):aP Tryz.prog 66 [(V.bool b)] (V.agg [(iV ((trF b).op)),(iV ((trF b).arg)),(V.sl (List.map cF ((trF b).kids)))]):=by
 refine pW Tryz.func66 aPv fun hB=>?_
 unfold s66
 dsimp only
 refine W_r (bE (i:=2) (n:=0) (m:=3) rfl (cVq rfl) rfl (R_e (aB (W_r (aA rfl (R_e ?_))))))
 refine cO rfl (fun c1=>?_) (fun c1=>?_)
 ·
  refine aB (W_r (aJ tF rfl (bP rfl rfl rfl rfl rfl rfl rfl rfl rfl (R_e (aW ?_)))))
  refine eK (bS (u:=(V.agg [(iV 1),(iV 0),(V.sl (List.map cF ([])))])) rfl (@rfl Blk (bk 1 24 3 [[(iV 1),(iV 0),(V.sl (List.map cF ([])))]])) (lB oB rfl rfl)) (bV (aF ?_) (aF ?_) (eI ?_ (fun _=>by simp)))
  · cases b <;> first|rfl|(simp_all; done)
  · cases b <;> first|rfl|(simp_all; done)
  · cases b <;> first|rfl|(simp_all; done)
 refine aD (W_r (aJ aCJ rfl (bP rfl rfl rfl rfl rfl rfl rfl rfl rfl (R_e (aN ?_)))))
 refine eK (bS (u:=(V.agg [(iV 4),(iV 0),(V.sl (List.map cF ([Fm.nd 1 0 []])))])) rfl (@rfl Blk (bk 1 24 3 [[(iV 4),(iV 0),(V.sl (List.map cF ([Fm.nd 1 0 []])))]])) (lB oB rfl rfl)) (bV (aF ?_) (aF ?_) (eI ?_ (fun _=>by simp)))
 · cases b <;> first|rfl|(simp_all; done)
 · cases b <;> first|rfl|(simp_all; done)
 · cases b <;> first|rfl|(simp_all; done)
theorem vD (f:Fm) (a o:Int) (hok:okF f=true) (hz:f.sz≤4096) (ih: ∀ (g:Fm) (a o:Int),g.sz < f.sz→okF g=true→g.sz≤4096→aP Tryz.prog 40 [(V.agg [(iV g.op),(iV g.arg),(V.sl (List.map cF g.kids))]),(iV a),(iV o)] (V.agg [(iV ((mst g a o).op)),(iV ((mst g a o).arg)),(V.sl (List.map cF ((mst g a o).kids)))])):aP Tryz.prog 40 [(V.agg [(iV f.op),(iV f.arg),(V.sl (List.map cF f.kids))]),(iV a),(iV o)] (V.agg [(iV ((mst f a o).op)),(iV ((mst f a o).arg)),(V.sl (List.map cF ((mst f a o).kids)))]):=by
 refine pW Tryz.func40 aOw fun hB=>?_
 unfold s40
 dsimp only
 have hp:=bJ hok
 have hr:=cP hp.1
 have hln:=f.sz_len
 refine W_r (cK (i:=3) (n:=0) (m:=3) (cs:=[(iV f.op),(iV f.arg),(V.sl (List.map cF f.kids))]) rfl (cVq rfl) rfl rfl rfl (bE (i:=6) (n:=0) (m:=3) rfl (cVq rfl) rfl (R_e (aB (W_r (aU rfl rfl (aL rfl rfl rfl rfl ?_)))))))
 refine R_e (aE fun Q1 n1 x1 y1 z1=>(W_r (bH rfl rfl (aA rfl (R_e ?_)))))
 refine cW rfl (fun c2=>?_) fun c2=>?_
 ·
  refine W_r (aU rfl rfl (aL rfl rfl rfl rfl (aA rfl (bH rfl rfl (aJ (pR (decide (f.arg=a))) rfl (bP rfl rfl rfl rfl rfl rfl rfl rfl rfl (R_e ?_)))))))
  refine aN (y1 _ _ ?_)
  refine eK (bS (u:=(V.agg [(iV ((trF (decide (f.arg=a))).op)),(iV ((trF (decide (f.arg=a))).arg)),(V.sl (List.map cF ((trF (decide (f.arg=a))).kids)))])) rfl (@rfl Blk (bk 1 24 3 [[(iV ((trF (decide (f.arg=a))).op)),(iV ((trF (decide (f.arg=a))).arg)),(V.sl (List.map cF ((trF (decide (f.arg=a))).kids)))]])) (lB oB rfl rfl)) (bV (aF ?_) (aF ?_) (eI ?_ (fun _=>by simp)))
  · rw [zA (f:=f) (by omega)]
  · rw [zA (f:=f) (by omega)]
  · rw [zA (f:=f) (by omega)]
 refine W_r (bH rfl rfl (aA rfl (R_e ?_)))
 refine cW rfl (fun c3=>?_) fun c3=>?_
 ·
  refine W_r (aU rfl rfl (aL rfl rfl rfl rfl (aA rfl (bH rfl rfl (aJ (pR (decide (f.arg=o))) rfl (bP rfl rfl rfl rfl rfl rfl rfl rfl rfl (R_e ?_)))))))
  refine aN (y1 _ _ ?_)
  refine eK (bS (u:=(V.agg [(iV ((trF (decide (f.arg=o))).op)),(iV ((trF (decide (f.arg=o))).arg)),(V.sl (List.map cF ((trF (decide (f.arg=o))).kids)))])) rfl (@rfl Blk (bk 1 24 3 [[(iV ((trF (decide (f.arg=o))).op)),(iV ((trF (decide (f.arg=o))).arg)),(V.sl (List.map cF ((trF (decide (f.arg=o))).kids)))]])) (lB oB rfl rfl)) (bV (aF ?_) (aF ?_) (eI ?_ (fun _=>by simp)))
  · rw [wP (f:=f) (by omega)]
  · rw [wP (f:=f) (by omega)]
  · rw [wP (f:=f) (by omega)]
 refine W_r (bH rfl rfl (aA rfl (R_e ?_)))
 refine cW rfl (fun c4=>?_) fun c4=>?_
 ·
  refine W_r (aU rfl rfl (aL rfl rfl rfl rfl (dC (i:=0) (rVq (V.sl (List.map cF f.kids))) (rNq 0) (by omega) (bX _) rfl (aH rfl rfl (bE (i:=7) (n:=0) (m:=3) rfl (cVq rfl) rfl (bP rfl rfl rfl rfl rfl rfl rfl rfl rfl (R_e ?_)))))))
  refine W_r (aU rfl rfl (aL rfl rfl rfl rfl (bH rfl rfl (aA rfl ?_))))
  refine aS 5 (fun T H=>T 2=(iV o)∧T 6=(mPq 6)∧T 7=(mPq 7)∧T 41=(V.bool (decide ((((nth f.kids 0).op)=(2:Int))∧(((nth f.kids 0).arg)≠a))))∧H 3=(bk 1 24 3 [[(iV f.op),(iV f.arg),(V.sl (List.map cF f.kids))]])∧H 6=(bk 1 24 3 [[(iV 0),(iV 0),V.nilsl]])∧H 7=(bk 1 24 3 [[(iV ((nth f.kids 0).op)),(iV ((nth f.kids 0).arg)),(V.sl (List.map cF ((nth f.kids 0).kids)))]])∧H 8=bZq∧H 10=bZq∧H 708=bZq∧True) ?_ ?_
  ·
   by_cases g5:((nth f.kids 0).op)=(2:Int)
   ·
    refine aC (edT g5 rfl) (aU rfl rfl (aC (edT g5 rfl) (aL rfl rfl rfl rfl (aC (edT g5 rfl) (aA rfl (aC (edT g5 rfl) (cM rfl rfl ?_)))))))
    refine aR (edT g5 rfl) rfl ?_
    exact ⟨rfl,rfl,rfl,(dM g5),rfl,rfl,rfl,rfl,rfl,rfl,trivial⟩
   ·
    refine G_n (edF g5 rfl) (G_n (edF g5 rfl) (G_n (edF g5 rfl) (G_n (edF g5 rfl) (aT (edF g5 rfl) rfl ?_))))
    exact ⟨rfl,rfl,rfl,(dO g5),rfl,rfl,rfl,rfl,rfl,rfl,trivial⟩
  intro T H ⟨t2,t6,t7,t41,h3,h6,h7,h8,h10,h708,_⟩
  refine aA t41 ?_
  refine aS 10 (fun T H=>T 6=(mPq 6)∧T 52=(V.bool (decide (((((nth f.kids 0).op)=(2:Int))∧(((nth f.kids 0).arg)≠a))∨((((nth f.kids 0).op)=(3:Int))∧(((nth f.kids 0).arg)≠o)))))∧H 3=(bk 1 24 3 [[(iV f.op),(iV f.arg),(V.sl (List.map cF f.kids))]])∧H 6=(bk 1 24 3 [[(iV 0),(iV 0),V.nilsl]])∧H 7=(bk 1 24 3 [[(iV ((nth f.kids 0).op)),(iV ((nth f.kids 0).arg)),(V.sl (List.map cF ((nth f.kids 0).kids)))]])∧H 8=bZq∧H 10=bZq∧H 708=bZq∧True) ?_ ?_
  ·
   by_cases g6:(((nth f.kids 0).op)=(2:Int))∧(((nth f.kids 0).arg)≠a)
   ·
    refine G_n (edT g6 rfl) (G_n (edT g6 rfl) (G_n (edT g6 rfl) (G_n (edT g6 rfl) (bO (rVq (V.raw undef)) (bO (rVq (V.raw undef)) (bO (rVq (V.raw undef)) (bO (rVq (V.raw undef)) ?_)))))))
    refine G_n (edT g6 rfl) (aR (edT g6 rfl) rfl ?_)
    exact ⟨t6,(dH g6),h3,h6,h7,h8,h10,h708,trivial⟩
   ·
    refine aC (edF g6 rfl) (aU t7 h7 (aC (edF g6 rfl) (aL rfl h7 rfl rfl (aC (edF g6 rfl) (bH rfl rfl (aC (edF g6 rfl) (aA rfl ?_)))))))
    refine aS 5 (fun T H=>T 6=(mPq 6)∧T 42=(V.bool false)∧T 51=(V.bool (decide ((((nth f.kids 0).op)=(3:Int))∧(((nth f.kids 0).arg)≠o))))∧H 3=(bk 1 24 3 [[(iV f.op),(iV f.arg),(V.sl (List.map cF f.kids))]])∧H 6=(bk 1 24 3 [[(iV 0),(iV 0),V.nilsl]])∧H 7=(bk 1 24 3 [[(iV ((nth f.kids 0).op)),(iV ((nth f.kids 0).arg)),(V.sl (List.map cF ((nth f.kids 0).kids)))]])∧H 8=bZq∧H 10=bZq∧H 708=bZq∧True) ?_ ?_
    ·
     by_cases g7:((nth f.kids 0).op)=(3:Int)
     ·
      refine aC (edT g7 rfl) (aU t7 h7 (aC (edT g7 rfl) (aL rfl h7 rfl rfl (aC (edT g7 rfl) (aA t2 (aC (edT g7 rfl) (cM rfl rfl ?_)))))))
      refine aC (edF g6 rfl) (aR (edT g7 rfl) rfl ?_)
      exact ⟨t6,(edF g6 rfl),(dM g7),h3,h6,h7,h8,h10,h708,trivial⟩
     ·
      refine G_n (edF g7 rfl) (G_n (edF g7 rfl) (G_n (edF g7 rfl) (G_n (edF g7 rfl) (aC (edF g6 rfl) (aT (edF g7 rfl) rfl ?_)))))
      exact ⟨t6,(edF g6 rfl),(dO g7),h3,h6,h7,h8,h10,h708,trivial⟩
    intro T H ⟨t6,t42,t51,h3,h6,h7,h8,h10,h708,_⟩
    refine aT t42 t51 ?_
    exact ⟨t6,(dL g6),h3,h6,h7,h8,h10,h708,trivial⟩
  intro T H ⟨t6,t52,h3,h6,h7,h8,h10,h708,_⟩
  refine aJ (pR (decide (((((nth f.kids 0).op)=(2:Int))∧(((nth f.kids 0).arg)≠a))∨((((nth f.kids 0).op)=(3:Int))∧(((nth f.kids 0).arg)≠o))))) (aY t52 cU) (bP t6 rfl rfl h6 rfl rfl rfl rfl rfl (R_e (aN (y1 _ _ ?_))))
  refine eK (bS (u:=(V.agg [(iV ((trF (decide (((((nth f.kids 0).op)=(2:Int))∧(((nth f.kids 0).arg)≠a))∨((((nth f.kids 0).op)=(3:Int))∧(((nth f.kids 0).arg)≠o))))).op)),(iV ((trF (decide (((((nth f.kids 0).op)=(2:Int))∧(((nth f.kids 0).arg)≠a))∨((((nth f.kids 0).op)=(3:Int))∧(((nth f.kids 0).arg)≠o))))).arg)),(V.sl (List.map cF ((trF (decide (((((nth f.kids 0).op)=(2:Int))∧(((nth f.kids 0).arg)≠a))∨((((nth f.kids 0).op)=(3:Int))∧(((nth f.kids 0).arg)≠o))))).kids)))])) t6 (@rfl Blk (bk 1 24 3 [[(iV ((trF (decide (((((nth f.kids 0).op)=(2:Int))∧(((nth f.kids 0).arg)≠a))∨((((nth f.kids 0).op)=(3:Int))∧(((nth f.kids 0).arg)≠o))))).op)),(iV ((trF (decide (((((nth f.kids 0).op)=(2:Int))∧(((nth f.kids 0).arg)≠a))∨((((nth f.kids 0).op)=(3:Int))∧(((nth f.kids 0).arg)≠o))))).arg)),(V.sl (List.map cF ((trF (decide (((((nth f.kids 0).op)=(2:Int))∧(((nth f.kids 0).arg)≠a))∨((((nth f.kids 0).op)=(3:Int))∧(((nth f.kids 0).arg)≠o))))).kids)))]])) (lB oB rfl rfl)) (bV (aF ?_) (aF ?_) (eI ?_ (fun _=>by simp)))
  · rw [yL (f:=f) (by omega)]; rfl
  · rw [yL (f:=f) (by omega)]; rfl
  · rw [yL (f:=f) (by omega)]; rfl
 refine aB (W_r (bH rfl rfl (aA rfl (R_e ?_))))
 refine aK rfl (fun c8=>?_) fun c8=>?_
 ·
  refine aD ?_
  refine cW rfl (fun c9=>?_) fun c9=>?_
  ·
   refine W_r (aU rfl rfl (aL rfl rfl rfl rfl (dC (i:=0) (rVq (V.sl (List.map cF f.kids))) (rNq 0) (by omega) (bX _) rfl (aH rfl rfl (bP rfl rfl rfl rfl rfl rfl rfl rfl rfl (R_e (aN ?_)))))))
   refine y1 _ _ ?_
   refine eK (bS (u:=(V.agg [(iV ((nth f.kids 0).op)),(iV ((nth f.kids 0).arg)),(V.sl (List.map cF ((nth f.kids 0).kids)))])) rfl (@rfl Blk (bk 1 24 3 [[(iV ((nth f.kids 0).op)),(iV ((nth f.kids 0).arg)),(V.sl (List.map cF ((nth f.kids 0).kids)))]])) (lB oB rfl rfl)) (bV (aF ?_) (aF ?_) (eI ?_ (fun _=>by simp)))
   · rw [kN (f:=f) (by omega)]
   · rw [kN (f:=f) (by omega)]
   · rw [kN (f:=f) (by omega)]
  · exact (c9 c8).elim
 refine W_r (bH rfl rfl (aA rfl (R_e ?_)))
 refine cW rfl (fun c10=>?_) fun c10=>?_
 ·
  refine W_r (aU rfl rfl (aL rfl rfl rfl rfl (dC (i:=0) (rVq (V.sl (List.map cF f.kids))) (rNq 0) (by omega) (bX _) rfl (aH rfl rfl (bP rfl rfl rfl rfl rfl rfl rfl rfl rfl (R_e (aN ?_)))))))
  refine y1 _ _ ?_
  refine eK (bS (u:=(V.agg [(iV ((nth f.kids 0).op)),(iV ((nth f.kids 0).arg)),(V.sl (List.map cF ((nth f.kids 0).kids)))])) rfl (@rfl Blk (bk 1 24 3 [[(iV ((nth f.kids 0).op)),(iV ((nth f.kids 0).arg)),(V.sl (List.map cF ((nth f.kids 0).kids)))]])) (lB oB rfl rfl)) (bV (aF ?_) (aF ?_) (eI ?_ (fun _=>by simp)))
  · rw [kN (f:=f) (by omega)]
  · rw [kN (f:=f) (by omega)]
  · rw [kN (f:=f) (by omega)]
 refine W_r (bH rfl rfl (aA rfl (R_e ?_)))
 refine cW rfl (fun c11=>?_) fun c11=>?_
 ·
  refine W_r (aU rfl rfl (aL rfl rfl rfl rfl (dC (i:=1) (rVq (V.sl (List.map cF f.kids))) (rNq 1) (by omega) (bX _) rfl (aH rfl rfl (aA rfl (aA rfl (aJ (ih (nth f.kids 1) a o (Fm.sz_kid (by omega)) (hp.2 _ (by omega)) (Nat.le_trans (Nat.le_of_lt (Fm.sz_kid (by omega))) hz)) rfl ?_)))))))
  refine aU rfl rfl (aL rfl rfl rfl rfl (dC (i:=0) (rVq (V.sl (List.map cF f.kids))) (rNq 0) (by omega) (bX _) rfl (aH rfl rfl (aA rfl (aA rfl (aJ (ih (nth f.kids 0) a o (Fm.sz_kid (by omega)) (hp.2 _ (by omega)) (Nat.le_trans (Nat.le_of_lt (Fm.sz_kid (by omega))) hz)) rfl (aL rfl rfl rfl rfl ?_)))))))
  refine bC rfl rfl (aJ (iT (5:Int) ([(mst (nth f.kids 0) a o),f])) (aY rfl (aY (aEy (x:=(mst (nth f.kids 0) a o)) (y:=f) rfl) cU)) (bC rfl rfl (aJ (iT (6:Int) ([(mst (nth f.kids 1) a o),(Fm.nd (5:Int) (0:Int) [(mst (nth f.kids 0) a o),f])])) (aY rfl (aY (aEy (x:=(mst (nth f.kids 1) a o)) (y:=(Fm.nd (5:Int) (0:Int) [(mst (nth f.kids 0) a o),f])) rfl) cU)) (bP rfl rfl rfl rfl rfl rfl rfl rfl rfl (R_e (aN (y1 _ _ ?_)))))))
  refine eK (bS (u:=(V.agg [(iV (6:Int)),(iV 0),(V.sl (List.map cF ([(mst (nth f.kids 1) a o),(Fm.nd (5:Int) (0:Int) [(mst (nth f.kids 0) a o),f])])))])) rfl (@rfl Blk (bk 1 24 3 [[(iV (6:Int)),(iV 0),(V.sl (List.map cF ([(mst (nth f.kids 1) a o),(Fm.nd (5:Int) (0:Int) [(mst (nth f.kids 0) a o),f])])))]])) (lB oB rfl rfl)) (bV (aF ?_) (aF ?_) (eI ?_ (fun _=>by simp)))
  · rw [zD (f:=f) (by omega) (by omega)]; rfl
  · rw [zD (f:=f) (by omega) (by omega)]; rfl
  · rw [zD (f:=f) (by omega) (by omega)]; rfl
 refine W_r (bH rfl rfl (aA rfl (R_e ?_)))
 refine cW rfl (fun c12=>?_) fun c12=>?_
 ·
  refine W_r (aU rfl rfl (aL rfl rfl rfl rfl (dC (i:=1) (rVq (V.sl (List.map cF f.kids))) (rNq 1) (by omega) (bX _) rfl (aH rfl rfl (aA rfl (aA rfl (aJ (ih (nth f.kids 1) a o (Fm.sz_kid (by omega)) (hp.2 _ (by omega)) (Nat.le_trans (Nat.le_of_lt (Fm.sz_kid (by omega))) hz)) rfl ?_)))))))
  refine aU rfl rfl (aL rfl rfl rfl rfl (dC (i:=0) (rVq (V.sl (List.map cF f.kids))) (rNq 0) (by omega) (bX _) rfl (aH rfl rfl (aA rfl (aA rfl (aJ (ih (nth f.kids 0) a o (Fm.sz_kid (by omega)) (hp.2 _ (by omega)) (Nat.le_trans (Nat.le_of_lt (Fm.sz_kid (by omega))) hz)) rfl (aL rfl rfl rfl rfl ?_)))))))
  refine bC rfl rfl (aJ (iT (6:Int) ([(mst (nth f.kids 0) a o),f])) (aY rfl (aY (aEy (x:=(mst (nth f.kids 0) a o)) (y:=f) rfl) cU)) (bC rfl rfl (aJ (iT (5:Int) ([(mst (nth f.kids 1) a o),(Fm.nd (6:Int) (0:Int) [(mst (nth f.kids 0) a o),f])])) (aY rfl (aY (aEy (x:=(mst (nth f.kids 1) a o)) (y:=(Fm.nd (6:Int) (0:Int) [(mst (nth f.kids 0) a o),f])) rfl) cU)) (bP rfl rfl rfl rfl rfl rfl rfl rfl rfl (R_e (aN (y1 _ _ ?_)))))))
  refine eK (bS (u:=(V.agg [(iV (5:Int)),(iV 0),(V.sl (List.map cF ([(mst (nth f.kids 1) a o),(Fm.nd (6:Int) (0:Int) [(mst (nth f.kids 0) a o),f])])))])) rfl (@rfl Blk (bk 1 24 3 [[(iV (5:Int)),(iV 0),(V.sl (List.map cF ([(mst (nth f.kids 1) a o),(Fm.nd (6:Int) (0:Int) [(mst (nth f.kids 0) a o),f])])))]])) (lB oB rfl rfl)) (bV (aF ?_) (aF ?_) (eI ?_ (fun _=>by simp)))
  · rw [pP (f:=f) (by omega) (by omega)]; rfl
  · rw [pP (f:=f) (by omega) (by omega)]; rfl
  · rw [pP (f:=f) (by omega) (by omega)]; rfl
 refine dA (n1 _ _ (.done (W_r (aU rfl rfl (aL rfl rfl rfl rfl (bI rfl rfl (bE (i:=8) (n:=0) (m:=3) rfl (cVq rfl) rfl ?_)))))))
 refine bP rfl rfl rfl rfl rfl rfl rfl rfl rfl (R_e (aB ?_))
 refine gP (fun T H=>T 1=(iV a)∧T 2=(iV o)∧T 6=(mPq 6)∧T 8=(mPq 8)∧T 107=(V.sl (List.map cF f.kids))∧T 108=(iV ((f.kids.length:Nat):Int))∧T 109=(iV 0)∧H 3=(bk 1 24 3 [[(iV f.op),(iV f.arg),(V.sl (List.map cF f.kids))]])∧H 6=(bk 1 24 3 [[(iV 0),(iV 0),V.nilsl]])∧H 7=bZq∧H 8=(bk 1 24 3 [[(iV f.op),(iV 0),V.nilsl]])∧H 10=bZq∧H 708=bZq∧True) ?_ ?_
 ·
  refine aU rfl rfl (aL rfl rfl rfl rfl (bM rfl (aA rfl ?_)))
  exact fM ⟨rfl,rfl,rfl,rfl,rfl,rfl,rfl,rfl,rfl,rfl,rfl,rfl,rfl,trivial⟩
 intro T H ⟨t1,t2,t6,t8,t107,t108,t109,h3,h6,h7,h8,h10,h708,_⟩
 refine .lazyCell 708 24 3 8 0 2 [(iV f.op),(iV 0),V.nilsl] (by decide) (by rw [h8]; rfl) (by rw [h8]; rfl) rfl (.done ?_)
 refine dQ (R:=fun T H=>T 1=(iV a)∧T 2=(iV o)∧T 6=(mPq 6)∧T 8=(mPq 8)∧T 107=(V.sl (List.map cF f.kids))∧T 108=(iV ((f.kids.length:Nat):Int))∧T 109=(iV 0)∧H 3=(bk 1 24 3 [[(iV f.op),(iV f.arg),(V.sl (List.map cF f.kids))]])∧H 6=(bk 1 24 3 [[(iV 0),(iV 0),V.nilsl]])∧H 7=bZq∧H 8=(bk 1 24 3 [[(iV f.op),(iV 0),(V.ms 708 1 0 0)]])∧H 10=bZq∧H 708=(bz 1 24 3 [])∧True) ⟨t1,t2,t6,t8,t107,t108,t109,(uTq (uTq h3)),(uTq (uTq h6)),(uTq (uTq h7)),(by rw [aG,h8,(cVq h708)]; rfl),(uTq (uTq h10)),(by rw [aV _ _ (by decide),aG,(cVq h708)]),trivial⟩ ?_
 intro T H ⟨t1,t2,t6,t8,t107,t108,t109,h3,h6,h7,h8,h10,h708,_⟩
 refine aE fun Q13 n13 x13 y13 z13=>?_
 refine cQ (fun mm T H=> ∃ (k:Nat) (w:Nat) (v10:Nat),mm=f.kids.length - k∧T 1=(iV a)∧T 2=(iV o)∧T 6=(mPq 6)∧T 8=(mPq 8)∧T 107=(V.sl (List.map cF f.kids))∧T 108=(iV ((f.kids.length:Nat):Int))∧T 109=(iV ((k:Nat):Int))∧H 3=(bk 1 24 3 [[(iV f.op),(iV f.arg),(V.sl (List.map cF f.kids))]])∧H 6=(bk 1 24 3 [[(iV 0),(iV 0),V.nilsl]])∧H 7=bZq∧H 8=(bk 1 24 3 [[(iV f.op),(iV 0),(V.ms 708 w 0 k)]])∧(H 10).ver=v10∧H 708=(bz w 24 3 (List.map cF ((f.kids.take k).map (fun g=>mst g a o))))∧(k≤f.kids.length)) ?_ ?_
 ·
  refine ⟨_,0,1,0,rfl,t1,t2,t6,t8,t107,t108,(eTq t109 rfl),h3,h6,h7,h8,(cVq h10),(eTq h708 (by rfl)),?_⟩
  · omega
 intro mm T H ⟨k,w,v10,hmm,t1,t2,t6,t8,t107,t108,t109,h3,h6,h7,h8,h10,h708,hk⟩ Q14 p114 p214 p314
 unfold aMT
 refine W_r (bW t109 t108 (R_e ?_))
 refine aK rfl (fun c15=>?_) fun c15=>?_
 ·
  refine aD (aE fun Q16 n16 x16 y16 z16=>(W_r (dC (i:=k) t107 t109 (by omega) (bX _) rfl (aH rfl rfl (bE (i:=10) (n:=v10) (m:=3) rfl h10 rfl (bP rfl rfl rfl rfl rfl rfl rfl rfl rfl (R_e ?_)))))))
  refine W_t (aU t8 h8 (aL rfl h8 rfl rfl (aL rfl rfl rfl rfl (aA t1 (aA t2 (aJ (ih (nth f.kids k) a o (Fm.sz_kid (by omega)) (hp.2 _ (by omega)) (Nat.le_trans (Nat.le_of_lt (Fm.sz_kid (by omega))) hz)) rfl (bC rfl rfl ?_)))))))
  refine eH (l:=((f.kids.take k).map (fun g=>mst g a o))) (f:=cF) (x:=(mst (nth f.kids k) a o)) (rVq (V.ms 708 w 0 k)) h708 (by (simp; omega)) (pV (x:=(mst (nth f.kids k) a o)) (rVq (V.sl [[(iV ((mst (nth f.kids k) a o).op)),(iV ((mst (nth f.kids k) a o).arg)),(V.sl (List.map cF ((mst (nth f.kids k) a o).kids)))]]))) (kJ _) (lG _) (by omega) (by omega) (aU t8 h8 (bP rfl rfl rfl h8 rfl rfl rfl rfl rfl (R_e (n16 _ _ (.done (W_t (bL t109 (rNq 1) (by omega) ?_)))))))
  refine aA rfl (R_e ?_)
  refine p114 _ _ _ ?_ ⟨(k+1),(w+1),(v10+1),rfl,t1,t2,t6,t8,t107,t108,(eTq (rNq (k+1)) (by rfl)),h3,h6,h7,(eTq (@rfl Blk (bk 1 24 3 [[(iV f.op),(iV 0),(V.ms 708 (w+1) 0 (k+1))]])) (by rfl)),(cVq rfl),(eTq (@rfl Blk (bz (w+1) 24 3 (List.map cF ((f.kids.take k).map (fun g=>mst g a o)++[(mst (nth f.kids k) a o)])))) (by (rw [oE (by omega)]; done))),?_⟩
  · omega
  · omega
 refine aX (p314 _ _ _ (x13 _ _ (.done (W_r (aL t8 h8 rfl rfl (bP t6 rfl rfl h6 rfl rfl rfl rfl rfl (R_e ?_)))))))
 refine aN ?_
 refine eK (bS (u:=(V.agg [(iV f.op),(iV 0),(V.ms 708 w 0 k)])) t6 (@rfl Blk (bk 1 24 3 [[(iV f.op),(iV 0),(V.ms 708 w 0 k)]])) (lB oB rfl rfl)) (bV (aF ?_) (aF ?_) (yP h708 (by simp) (l:=((f.kids.take k).map (fun g=>mst g a o))) rfl (by (simp; omega)) (fun _=>by simp) ?_))
 · rw [uI (f:=f) (by omega)]; rfl
 · rw [uI (f:=f) (by omega)]; rfl
 · rw [uI (f:=f) (by omega),show k=f.kids.length by omega,List.take_length]; rfl
theorem aDR (f:Fm) (a o:Int) (hok:okF f=true) (hz:f.sz≤4096):aP Tryz.prog 40 [(V.agg [(iV f.op),(iV f.arg),(V.sl (List.map cF f.kids))]),(iV a),(iV o)] (V.agg [(iV ((mst f a o).op)),(iV ((mst f a o).arg)),(V.sl (List.map cF ((mst f a o).kids)))]):=by
  have key: ∀ (mm:Nat) (f:Fm) (a o:Int),f.sz < mm→okF f=true→f.sz≤4096→aP Tryz.prog 40 [(V.agg [(iV f.op),(iV f.arg),(V.sl (List.map cF f.kids))]),(iV a),(iV o)] (V.agg [(iV ((mst f a o).op)),(iV ((mst f a o).arg)),(V.sl (List.map cF ((mst f a o).kids)))]):=by
    intro mm
    induction mm with
    |zero=>intro f a o hlt; exact absurd hlt (Nat.not_lt_zero _)
    | succ mm ih =>
      intro f a o hlt hok hz
      exact vD f a o hok hz fun f2 a2 o2 hlt2=>ih f2 a2 o2 (by omega)
  exact key (f.sz+1) f a o (Nat.lt_succ_self _) hok hz
theorem aDW (f:Fm) (a o:Int):aP Tryz.prog 13 [(V.agg [(iV f.op),(iV f.arg),(V.sl (List.map cF f.kids))]),(iV a),(iV o)] (V.tup [(V.agg [(iV ((stM f a o).1.op)),(iV ((stM f a o).1.arg)),(V.sl (List.map cF ((stM f a o).1.kids)))]),(iV ((stM f a o).2))]):=by
 refine pW Tryz.func13 aOl fun hB=>?_
 unfold s13
 dsimp only
 refine W_r (cK (i:=3) (n:=0) (m:=3) (cs:=[(iV f.op),(iV f.arg),(V.sl (List.map cF f.kids))]) rfl (cVq rfl) rfl rfl rfl (bE (i:=6) (n:=0) (m:=3) rfl (cVq rfl) rfl (aA rfl (R_e (aB (W_r (aL rfl rfl rfl rfl ?_)))))))
 refine aJ (gX f) rfl (aA rfl (R_e (aB (W_r (aA rfl (cM rfl rfl (R_e ?_)))))))
 refine aK rfl (fun c1=>?_) fun c1=>?_
 ·
  have d1:=aM0 (a:=a) (o:=o) c1
  refine aB (W_r (bI rfl rfl (aA rfl (bP rfl rfl rfl rfl rfl rfl rfl rfl rfl (aA rfl (R_e (aW ?_)))))))
  refine iO (bS (u:=(V.agg [(iV 0),(iV 0),V.nilsl])) rfl (@rfl Blk (bk 1 24 3 [[(iV 0),(iV 0),V.nilsl]])) (lB oB rfl rfl)) (cR (rVq (iV (cE f)))) (bV (aF ?_) (aF ?_) (dD ?_)) (aF ?_)
  · rw [d1]; rfl
  · rw [d1]; rfl
  · rw [d1]; rfl
  · rw [d1]
 have d0:=c1
 refine aD (aB (W_r (aA rfl (bW rfl rfl (aA rfl ?_)))))
 refine aS 3 (fun T H=>T 1=(iV a)∧T 2=(iV o)∧T 3=(mPq 3)∧T 6=(mPq 6)∧T 22=(V.bool (decide ((a < (0:Int))∨((64:Int)≤a))))∧H 3=(bk 1 24 3 [[(iV f.op),(iV f.arg),(V.sl (List.map cF f.kids))]])∧H 6=(bk 1 24 3 [[(iV 0),(iV 0),V.nilsl]])∧H 9=bZq∧True) ?_ ?_
 ·
  by_cases g2:a < (0:Int)
  ·
   refine G_n (edT g2 rfl) (G_n (edT g2 rfl) (aR (edT g2 rfl) rfl ?_))
   exact ⟨rfl,rfl,rfl,rfl,(dH g2),rfl,rfl,rfl,trivial⟩
  ·
   refine aC (edF g2 rfl) (aA rfl (aC (edF g2 rfl) (lI rfl rfl (aT (edF g2 rfl) rfl ?_))))
   exact ⟨rfl,rfl,rfl,rfl,(dL g2),rfl,rfl,rfl,trivial⟩
 intro T H ⟨t1,t2,t3,t6,t22,h3,h6,h9,_⟩
 refine aA t22 ?_
 refine aS 3 (fun T H=>T 1=(iV a)∧T 2=(iV o)∧T 3=(mPq 3)∧T 6=(mPq 6)∧T 26=(V.bool (decide (((a < (0:Int))∨((64:Int)≤a))∨(o < (0:Int)))))∧H 3=(bk 1 24 3 [[(iV f.op),(iV f.arg),(V.sl (List.map cF f.kids))]])∧H 6=(bk 1 24 3 [[(iV 0),(iV 0),V.nilsl]])∧H 9=bZq∧True) ?_ ?_
 ·
  by_cases g3:(a < (0:Int))∨((64:Int)≤a)
  ·
   refine G_n (edT g3 rfl) (G_n (edT g3 rfl) (aR (edT g3 rfl) rfl ?_))
   exact ⟨t1,t2,t3,t6,(dH g3),h3,h6,h9,trivial⟩
  ·
   refine aC (edF g3 rfl) (aA t2 (aC (edF g3 rfl) (bW rfl rfl (aT (edF g3 rfl) rfl ?_))))
   exact ⟨t1,t2,t3,t6,(dL g3),h3,h6,h9,trivial⟩
 intro T H ⟨t1,t2,t3,t6,t26,h3,h6,h9,_⟩
 refine aA t26 ?_
 refine aS 3 (fun T H=>T 1=(iV a)∧T 2=(iV o)∧T 3=(mPq 3)∧T 6=(mPq 6)∧T 30=(V.bool (decide ((((a < (0:Int))∨((64:Int)≤a))∨(o < (0:Int)))∨((1048576:Int) < o))))∧H 3=(bk 1 24 3 [[(iV f.op),(iV f.arg),(V.sl (List.map cF f.kids))]])∧H 6=(bk 1 24 3 [[(iV 0),(iV 0),V.nilsl]])∧H 9=bZq∧True) ?_ ?_
 ·
  by_cases g4:((a < (0:Int))∨((64:Int)≤a))∨(o < (0:Int))
  ·
   refine G_n (edT g4 rfl) (G_n (edT g4 rfl) (aR (edT g4 rfl) rfl ?_))
   exact ⟨t1,t2,t3,t6,(dH g4),h3,h6,h9,trivial⟩
  ·
   refine aC (edF g4 rfl) (aA t2 (aC (edF g4 rfl) (gH rfl rfl (aT (edF g4 rfl) rfl ?_))))
   exact ⟨t1,t2,t3,t6,(dL g4),h3,h6,h9,trivial⟩
 intro T H ⟨t1,t2,t3,t6,t30,h3,h6,h9,_⟩
 refine R_e ?_
 refine aK t30 (fun c5=>?_) fun c5=>?_
 ·
  have d1:=aMI (a:=a) (o:=o) d0 (by omega)
  refine aB (W_r (bI rfl rfl (bP t6 rfl rfl h6 rfl rfl rfl rfl rfl (aA rfl (R_e (aW ?_))))))
  refine iO (bS (u:=(V.agg [(iV 0),(iV 0),V.nilsl])) t6 (@rfl Blk (bk 1 24 3 [[(iV 0),(iV 0),V.nilsl]])) (lB oB rfl rfl)) (cR (rVq (iV 2))) (bV (aF ?_) (aF ?_) (dD ?_)) (aF ?_)
  · rw [d1]; rfl
  · rw [d1]; rfl
  · rw [d1]; rfl
  · rw [d1]
 have d2: ¬(a < 0∨64≤a∨o < 0∨1048576 < o):=by omega
 refine aD (W_r (aL t3 h3 rfl rfl (aJ (pH f) rfl (aA rfl (bG rfl rfl (bG rfl rfl (bE (i:=9) (n:=0) (m:=3) rfl (cVq h9) rfl ?_)))))))
 refine bP rfl rfl rfl rfl rfl rfl rfl rfl rfl (aA rfl (R_e (aB (W_r (aA rfl (cM rfl rfl (R_e ?_)))))))
 refine aK rfl (fun c6=>?_) fun c6=>?_
 ·
  have d1:=aMu d0 d2 c6
  refine aB (W_r (bI rfl rfl (aA rfl (bP t6 rfl rfl h6 rfl rfl rfl rfl rfl (aA rfl (R_e (aW ?_)))))))
  refine iO (bS (u:=(V.agg [(iV 0),(iV 0),V.nilsl])) t6 (@rfl Blk (bk 1 24 3 [[(iV 0),(iV 0),V.nilsl]])) (lB oB rfl rfl)) (cR (rVq (iV ((aM f).2)))) (bV (aF ?_) (aF ?_) (dD ?_)) (aF ?_)
  · rw [d1]; rfl
  · rw [d1]; rfl
  · rw [d1]; rfl
  · rw [d1]
 have d1:=aNb d0 d2 c6
 have v1:=aCG c6
 have v2:=aLy d0 c6
 refine aD (W_r (aL rfl rfl rfl rfl (aA t1 (aA t2 (aJ (aDR ((aM f).1) a o v2.1 (iI v1)) rfl (aJ (sR (mst ((aM f).1) a o) (aHF _ a o v2.1 v2.2).1 (aKy v2.1 (iI v1))) rfl (bG rfl rfl ?_)))))))
 refine bG rfl rfl (bP t6 rfl rfl h6 rfl rfl rfl rfl rfl (aA rfl (R_e (aN ?_))))
 refine iO (bS (u:=(V.agg [(iV ((chk (mst ((aM f).1) a o)).1.op)),(iV ((chk (mst ((aM f).1) a o)).1.arg)),(V.sl (List.map cF ((chk (mst ((aM f).1) a o)).1.kids)))])) t6 (@rfl Blk (bk 1 24 3 [[(iV ((chk (mst ((aM f).1) a o)).1.op)),(iV ((chk (mst ((aM f).1) a o)).1.arg)),(V.sl (List.map cF ((chk (mst ((aM f).1) a o)).1.kids)))]])) (lB oB rfl rfl)) (cR (rVq (iV ((chk (mst ((aM f).1) a o)).2)))) (bV (aF ?_) (aF ?_) (eI ?_ (fun _=>by simp))) (aF ?_)
 · rw [d1]
 · rw [d1]
 · rw [d1]
 · rw [d1]
def aRh:List SO:=[
 qL 10 4 2,
 qF 11 1 2,
 ql 12 11,
 qM 13 1,
 sO 14 (.call false 57 [.t 10,.t 12,.t 13]),
 qM 9 14,
 qE 15 9 0,
 qE 16 9 1,
 qE 17 9 2,
 qM 6 15,
 qM 7 16,
 qM 8 17]
def s30:SF:=⟨20,[.tmp 4,.tmp 5],.seq (.reg [sO 2 (.box 50 4 (.t 0)),sO 4 (.mv (.c (.nilsl))),qI 5 0]) (.seq (.reg aRh) (.seq (.reg [qM 18 6,qM 19 8,qM 4 18,qM 5 19]) (.ret)))⟩
theorem aOQ:bF Tryz.prog ⟨[51,59,84,90,97,109,153,154,155,160],[],[],[]⟩ Tryz.f30=some s30:=by kernel_rfl
def aRB:List SO:=[
 qM 34 12,
 qM 35 11,
 sO 36 (.nilck (.t 35)),
 qF 37 4 36,
 ql 38 37,
 qM 6 34,
 qM 7 38,
 qI 8 0]
def s57:SF:=⟨39,[.tmp 6,.tmp 7,.tmp 8],.seq (.reg [sO 3 (.box 50 4 (.t 0)),sO 6 (.mv (.c (.nilsl))),qI 7 0,qI 8 0]) (.seq (.seq (.reg [qL 13 4 3,qM 14 1,sO 15 (.call false 82 [.t 13,.t 14]),qM 9 15]) (.seq (.reg [qM 16 9,qC 17 .neq 16 0]) (.cond (.t 17) (.seq (.reg [qM 18 9,sO 6 (.mv (.c (.nilsl))),qI 7 0,qM 8 18]) (.ret)) (.skip)))) (.seq (.seq (.reg [qM 19 2,qF 20 0 3,ql 21 20,sO 22 (.call false 83 [.t 19,.t 21]),qM 10 22]) (.seq (.reg [qM 23 10,qC 24 .neq 23 0]) (.cond (.t 24) (.seq (.reg [qM 25 10,sO 6 (.mv (.c (.nilsl))),qI 7 0,qM 8 25]) (.ret)) (.skip)))) (.seq (.reg [qL 26 4 3,sO 27 (.build [.int .i64 0,.int .i64 0,.nilsl,.nilsl] [(0,4,.t 26)]),qM 28 1,sO 29 (.build [.int .i64 0,.int .i64 0,.nilsl,.nilsl,.int .i64 0] [(0,4,.t 27),(4,1,.t 28)]),sO 30 (.box 128 5 (.t 29)),qM 11 30]) (.seq (.reg [qM 31 11,qM 32 2,sO 33 (.call true 84 [.t 31,.t 32]),qM 12 33]) (.seq (.reg aRB) (.ret))))))⟩
theorem aPh:bF Tryz.prog ⟨[51,59,84,90,97,109,153,154,155,160],[],[],[]⟩ Tryz.f57=some s57:=by kernel_rfl
def aRQ:List SO:=[
 qM 11 1,
 qC 12 .lss 11 0,
 qM 13 12,
 ⟨some (13,false),some 14,.mv (.t 1)⟩,
 ⟨some (13,false),some 15,.fld 2 (.t 2)⟩,
 ⟨some (13,false),some 16,.load false 1 (.t 15)⟩,
 ⟨some (13,false),some 17,.len (.t 16)⟩,
 ⟨some (13,false),some 18,.bin .geq (.t 14) (.t 17)⟩,
 sO 19 (.pick (.t 13) (.c (.bool true)) (.t 18))]
def s82:SF:=⟨20,[.tmp 4],.seq (.reg [sO 2 (.box 50 4 (.t 0)),qI 4 0]) (.seq (.seq (.reg [qL 6 4 2,sO 7 (.call false 50 [.t 6]),qM 5 7]) (.seq (.reg [qM 8 5,qC 9 .neq 8 0]) (.cond (.t 9) (.seq (.reg [qM 10 5,qM 4 10]) (.ret)) (.skip)))) (.seq (.seq (.reg aRQ) (.cond (.t 19) (.seq (.reg [qI 4 2]) (.ret)) (.skip))) (.seq (.reg [qI 4 0]) (.ret))))⟩
theorem aOp:bF Tryz.prog ⟨[51,59,84,90,97,109,153,154,155,160],[],[],[]⟩ Tryz.f82=some s82:=by kernel_rfl
def aRg:List SO:=[
 qF 12 0 1,
 ql 13 12,
 qC 14 .lss 13 1,
 qM 15 14,
 ⟨some (15,false),some 16,.fld 0 (.t 1)⟩,
 ⟨some (15,false),some 17,.load false 1 (.t 16)⟩,
 ⟨some (15,false),some 18,.bin .gtr (.t 17) (.c (.int .i64 64))⟩,
 sO 19 (.pick (.t 15) (.c (.bool true)) (.t 18)),
 qM 11 19]
def aRe:List SO:=[
 qF 27 1 1,
 ql 28 27,
 qC 29 .lss 28 0,
 qM 30 29,
 ⟨some (30,false),some 31,.fld 1 (.t 1)⟩,
 ⟨some (30,false),some 32,.load false 1 (.t 31)⟩,
 ⟨some (30,false),some 33,.mv (.t 3)⟩,
 ⟨some (30,false),some 34,.bin .geq (.t 32) (.t 33)⟩,
 sO 35 (.pick (.t 30) (.c (.bool true)) (.t 34)),
 qM 26 35]
def aOy:List SO:=[
 qF 46 2 1,
 ql 47 46,
 qM 48 4,
 qA 49 1 47 48,
 ql 50 49,
 qN 51 50,
 qF 52 0 1,
 ql 53 52,
 qP 54 .neq 51 53,
 qM 55 54,
 ⟨some (55,false),some 56,.fld 3 (.t 1)⟩,
 ⟨some (55,false),some 57,.load false 1 (.t 56)⟩,
 ⟨some (55,false),some 58,.mv (.t 4)⟩,
 ⟨some (55,false),some 59,.idx 1 (.t 57) (.t 58)⟩,
 ⟨some (55,false),some 60,.load false 1 (.t 59)⟩,
 ⟨some (55,false),some 61,.len (.t 60)⟩,
 ⟨some (55,false),some 62,.fld 0 (.t 1)⟩,
 ⟨some (55,false),some 63,.load false 1 (.t 62)⟩,
 ⟨some (55,false),some 64,.bin .neq (.t 61) (.t 63)⟩,
 sO 65 (.pick (.t 55) (.c (.bool true)) (.t 64))]
def aOD:List SO:=[
 qF 71 2 1,
 ql 72 71,
 qM 73 4,
 qA 74 1 72 73,
 ql 75 74,
 qM 76 5,
 qA 77 1 75 76,
 ql 78 77,
 qF 79 3 1,
 ql 80 79,
 qM 81 4,
 qA 82 1 80 81,
 ql 83 82,
 qM 84 5,
 qA 85 1 83 84,
 ql 86 85,
 qM 6 78,
 qM 7 86]
def aOJ:List SO:=[
 qM 87 6,
 qC 88 .lss 87 0,
 qM 89 88,
 ⟨some (89,false),some 90,.mv (.t 6)⟩,
 ⟨some (89,false),some 91,.mv (.t 3)⟩,
 ⟨some (89,false),some 92,.bin .geq (.t 90) (.t 91)⟩,
 sO 93 (.pick (.t 89) (.c (.bool true)) (.t 92)),
 qM 94 93,
 ⟨some (94,false),some 95,.mv (.t 7)⟩,
 ⟨some (94,false),some 96,.bin .lss (.t 95) (.c (.int .i64 0))⟩,
 sO 97 (.pick (.t 94) (.c (.bool true)) (.t 96)),
 qM 98 97,
 ⟨some (98,false),some 99,.mv (.t 7)⟩,
 ⟨some (98,false),some 100,.bin .gtr (.t 99) (.c (.int .i64 1048576))⟩,
 sO 101 (.pick (.t 98) (.c (.bool true)) (.t 100))]
def aM3:SC:=.seq (.reg [qP 69 .lss 68 67]) (.seq (.cond (.t 69) (.skip) (.exit 3)) (.seq (.block 4 (.seq (.reg [qM 70 68,qM 5 70]) (.seq (.reg aOD) (.seq (.reg aOJ) (.cond (.t 101) (.seq (.reg [qI 2 2]) (.ret)) (.skip)))))) (.reg [qC 102 .add 68 1,qM 68 102])))
def aMZ:SC:=.seq (.reg [qP 44 .lss 43 42]) (.seq (.cond (.t 44) (.skip) (.exit 1)) (.seq (.block 2 (.seq (.reg [qM 45 43,qM 4 45]) (.seq (.seq (.reg aOy) (.cond (.t 65) (.seq (.reg [qI 2 1]) (.ret)) (.skip))) (.seq (.reg [qF 66 0 1,ql 67 66,qI 68 0]) (.block 3 (.loop aM3)))))) (.reg [qC 103 .add 43 1,qM 43 103])))
def s50:SF:=⟨104,[.tmp 2],.seq (.reg [sO 1 (.box 50 4 (.t 0)),qI 2 0]) (.seq (.reg [qF 8 2 1,ql 9 8,qN 10 9,qM 3 10]) (.seq (.block 0 (.seq (.reg aRg) (.cond (.t 11) (.seq (.reg [qI 2 2]) (.ret)) (.seq (.reg [qM 21 3,qC 22 .eql 21 0,qM 20 22]) (.cond (.t 20) (.seq (.reg [qI 2 19]) (.ret)) (.seq (.reg [qM 24 3,qC 25 .gtr 24 128,qM 23 25]) (.cond (.t 23) (.seq (.reg [qI 2 11]) (.ret)) (.seq (.reg aRe) (.cond (.t 26) (.seq (.reg [qI 2 2]) (.ret)) (.seq (.reg [qF 37 3 1,ql 38 37,qN 39 38,qM 40 3,qP 41 .neq 39 40,qM 36 41]) (.cond (.t 36) (.seq (.reg [qI 2 1]) (.ret)) (.skip)))))))))))) (.seq (.seq (.reg [qM 42 3,qI 43 0]) (.block 1 (.loop aMZ))) (.seq (.reg [qI 2 0]) (.ret)))))⟩
theorem aN9:bF Tryz.prog ⟨[51,59,84,90,97,109,153,154,155,160],[],[],[]⟩ Tryz.f50=some s50:=by kernel_rfl
theorem uP (m:M):aP Tryz.prog 50 [(V.agg [(iV m.i),(iV m.s),(aZ m.nx),(aZ m.ot)])] (iV (dY m)):=by
 refine pW Tryz.func50 aN9 fun hB=>?_
 unfold s50
 dsimp only
 refine W_r (cK (i:=1) (n:=0) (m:=4) (cs:=[(iV m.i),(iV m.s),(aZ m.nx),(aZ m.ot)]) rfl (cVq rfl) rfl rfl rfl (aA rfl (R_e (W_r (aU rfl rfl (aL rfl rfl rfl rfl (bM rfl ?_)))))))
 refine aA rfl (R_e (aE fun Q1 n1 x1 y1 z1=>(W_r (aU rfl rfl (aL rfl rfl rfl rfl (bW rfl rfl (aA rfl ?_)))))))
 refine aS 4 (fun T H=>T 1=(mPq 1)∧T 3=(iV ((m.nx.length:Nat):Int))∧T 19=(V.bool (decide ((m.i < (1:Int))∨((64:Int) < m.i))))∧H 1=(bMq m)∧True) ?_ ?_
 ·
  by_cases g2:m.i < (1:Int)
  ·
   refine G_n (edT g2 rfl) (G_n (edT g2 rfl) (G_n (edT g2 rfl) (aR (edT g2 rfl) rfl ?_)))
   exact ⟨rfl,rfl,(dH g2),rfl,trivial⟩
  ·
   refine aC (edF g2 rfl) (aU rfl rfl (aC (edF g2 rfl) (aL rfl rfl rfl rfl (aC (edF g2 rfl) (gH rfl rfl (aT (edF g2 rfl) rfl ?_))))))
   exact ⟨rfl,rfl,(dL g2),rfl,trivial⟩
 intro T H ⟨t1,t3,t19,h1,_⟩
 refine aA t19 (R_e ?_)
 refine cW rfl (fun c3=>?_) fun c3=>?_
 ·
  refine W_r (aA rfl (R_e (aN (y1 _ _ ?_))))
  refine bB (rVq (iV 2)) (aF ?_)
  · rw [dY,if_pos (by omega)]
 refine W_r (aA t3 (bH rfl rfl (aA rfl (R_e ?_))))
 refine cW rfl (fun c4=>?_) fun c4=>?_
 ·
  refine W_r (aA rfl (R_e (aN (y1 _ _ ?_))))
  refine bB (rVq (iV 19)) (aF ?_)
  · rw [dY,if_neg (by omega),if_pos (by omega)]
 refine W_r (aA t3 (gH rfl rfl (aA rfl (R_e ?_))))
 refine cW rfl (fun c5=>?_) fun c5=>?_
 ·
  refine W_r (aA rfl (R_e (aN (y1 _ _ ?_))))
  refine bB (rVq (iV 11)) (aF ?_)
  · rw [dY,if_neg (by omega),if_neg (by omega),if_pos (by omega)]
 refine W_r (aU t1 h1 (aL rfl h1 rfl rfl (bW rfl rfl (aA rfl ?_))))
 refine aS 5 (fun T H=>T 1=(mPq 1)∧T 3=(iV ((m.nx.length:Nat):Int))∧T 35=(V.bool (decide ((m.s < (0:Int))∨(((m.nx.length:Nat):Int)≤m.s))))∧H 1=(bMq m)∧True) ?_ ?_
 ·
  by_cases g6:m.s < (0:Int)
  ·
   refine G_n (edT g6 rfl) (G_n (edT g6 rfl) (G_n (edT g6 rfl) (G_n (edT g6 rfl) (aR (edT g6 rfl) rfl ?_))))
   exact ⟨t1,t3,(dH g6),h1,trivial⟩
  ·
   refine aC (edF g6 rfl) (aU t1 h1 (aC (edF g6 rfl) (aL rfl h1 rfl rfl (aC (edF g6 rfl) (aA t3 (aC (edF g6 rfl) (lI rfl rfl ?_)))))))
   refine aT (edF g6 rfl) rfl ?_
   exact ⟨t1,t3,(dL g6),h1,trivial⟩
 intro T H ⟨t1,t3,t35,h1,_⟩
 refine aA t35 (R_e ?_)
 refine cW rfl (fun c7=>?_) fun c7=>?_
 ·
  refine W_r (aA rfl (R_e (aN (y1 _ _ ?_))))
  refine bB (rVq (iV 2)) (aF ?_)
  · rw [dY,if_neg (by omega),if_neg (by omega),if_neg (by omega),if_pos (by omega)]
 refine W_r (aU t1 h1 (aL rfl h1 rfl rfl (bM rfl (aA t3 (cM rfl rfl (aA rfl (R_e ?_)))))))
 refine cW rfl (fun c8=>?_) fun c8=>?_
 ·
  refine W_r (aA rfl (R_e (aN (y1 _ _ ?_))))
  refine bB (rVq (iV 1)) (aF ?_)
  · rw [dY,if_neg (by omega),if_neg (by omega),if_neg (by omega),if_neg (by omega),if_pos (by omega)]
 refine dA (n1 _ _ (.done (aB (W_r (aA t3 (aA rfl (R_e ?_)))))))
 refine aE fun Q9 n9 x9 y9 z9=>?_
 refine cQ (fun mm T H=> ∃ (k:Nat),mm=m.nx.length - k∧T 1=(mPq 1)∧T 3=(iV ((m.nx.length:Nat):Int))∧T 42=(iV ((m.nx.length:Nat):Int))∧T 43=(iV ((k:Nat):Int))∧H 1=(bMq m)∧(k≤m.nx.length)∧(1≤m.i∧m.i≤64∧0 < m.nx.length∧m.nx.length≤128∧m.ot.length=m.nx.length)∧(dY m=fe (aC5 m) k (m.nx.length - k))) ?_ ?_
 ·
  refine ⟨_,0,rfl,t1,t3,rfl,(eTq (rVq (iV 0)) rfl),h1,?_,?_,?_⟩
  · omega
  · omega
  · rw [dY,if_neg (by omega),if_neg (by omega),if_neg (by omega),if_neg (by omega),if_neg (by omega)]; rfl
 intro mm T H ⟨k,hmm,t1,t3,t42,t43,h1,hk,hv,hc⟩ Q10 p110 p210 p310
 unfold aMZ
 refine W_r (bW t43 t42 (R_e ?_))
 refine aK rfl (fun c11=>?_) fun c11=>?_
 ·
  refine aD (aE fun Q12 n12 x12 y12 z12=>(W_r (aA t43 (aA rfl (R_e (aB (W_r ?_)))))))
  refine aU t1 h1 (aL rfl h1 rfl rfl (aA rfl (dE (i:=k) (rVq (aZ m.nx)) (rNq k) (by omega) rfl (aH rfl rfl (bM rfl (aU t1 h1 (aL rfl h1 rfl rfl ?_)))))))
  refine cM rfl rfl (aA rfl ?_)
  refine aS 10 (fun T H=>T 1=(mPq 1)∧T 3=(iV ((m.nx.length:Nat):Int))∧T 4=(iV ((k:Nat):Int))∧T 42=(iV ((m.nx.length:Nat):Int))∧T 43=(iV ((k:Nat):Int))∧T 65=(V.bool (decide (((((nth m.nx k).length:Nat):Int)≠m.i)∨((((nth m.ot k).length:Nat):Int)≠m.i))))∧H 1=(bMq m)∧True) ?_ ?_
  ·
   by_cases g13:(((nth m.nx k).length:Nat):Int)≠m.i
   ·
    refine G_n (edT g13 rfl) (G_n (edT g13 rfl) (G_n (edT g13 rfl) (G_n (edT g13 rfl) (G_n (edT g13 rfl) (G_n (edT g13 rfl) (G_n (edT g13 rfl) (G_n (edT g13 rfl) ?_)))))))
    refine G_n (edT g13 rfl) (aR (edT g13 rfl) rfl ?_)
    exact ⟨t1,t3,rfl,t42,t43,(dH g13),h1,trivial⟩
   ·
    refine aC (edF g13 rfl) (aU t1 h1 (aC (edF g13 rfl) (aL rfl h1 rfl rfl (aC (edF g13 rfl) (aA rfl (aC (edF g13 rfl) (dE (i:=k) (rVq (aZ m.ot)) (rNq k) (by omega) rfl ?_)))))))
    refine aC (edF g13 rfl) (aH rfl rfl (aC (edF g13 rfl) (bM rfl (aC (edF g13 rfl) (aU t1 h1 (aC (edF g13 rfl) (aL rfl h1 rfl rfl ?_)))))))
    refine aC (edF g13 rfl) (cM rfl rfl (aT (edF g13 rfl) rfl ?_))
    exact ⟨t1,t3,rfl,t42,t43,(dL g13),h1,trivial⟩
  intro T H ⟨t1,t3,t4,t42,t43,t65,h1,_⟩
  refine R_e ?_
  refine aK t65 (fun c14=>?_) fun c14=>?_
  ·
   refine aB (W_r (aA rfl (R_e (aW (y12 _ _ (p210 _ _ (y9 _ _ ?_)))))))
   refine bB (rVq (iV 1)) (aF ?_)
   · rw [hc,aEe (by rw [aC5,if_pos (by omega)]; decide) (by omega),aC5,if_pos (by omega)]
  refine aD (W_r (aU t1 h1 (aL rfl h1 rfl rfl (aA rfl (R_e (oR fun Q15 n15 x15 y15 z15=>?_))))))
  refine cQ (fun mm T H=> ∃ (j:Nat),mm=m.i.toNat - j∧T 1=(mPq 1)∧T 3=(iV ((m.nx.length:Nat):Int))∧T 4=(iV ((k:Nat):Int))∧T 42=(iV ((m.nx.length:Nat):Int))∧T 43=(iV ((k:Nat):Int))∧T 67=(iV m.i)∧T 68=(iV ((j:Nat):Int))∧H 1=(bMq m)∧(j≤m.i.toNat)∧(((nth m.nx k).length:Int)=m.i∧((nth m.ot k).length:Int)=m.i)∧(aC5 m k=fe (aGW m k) j (m.i.toNat - j))) ?_ ?_
  ·
   refine ⟨_,0,rfl,t1,t3,t4,t42,t43,rfl,(eTq (rVq (iV 0)) rfl),h1,?_,?_,?_⟩
   · omega
   · omega
   · rw [aC5,if_neg (by omega)]; rfl
  intro mm T H ⟨j,hmm,t1,t3,t4,t42,t43,t67,t68,h1,hj,hl,hr⟩ Q16 p116 p216 p316
  unfold aM3
  refine W_r (bW t68 t67 (R_e ?_))
  refine aK rfl (fun c17=>?_) fun c17=>?_
  ·
   refine aD (aE fun Q18 n18 x18 y18 z18=>(W_r (aA t68 (aA rfl (R_e (W_r (aU t1 h1 ?_)))))))
   refine aL rfl h1 rfl rfl (aA t4 (dE (i:=k) (rVq (aZ m.nx)) (rNq k) (by omega) rfl (aH rfl rfl (aA rfl (dE (i:=j) (rVq (aQ (nth m.nx k))) (rNq j) (by omega) rfl (aH rfl rfl (aU t1 h1 ?_)))))))
   refine aL rfl h1 rfl rfl (aA t4 (dE (i:=k) (rVq (aZ m.ot)) (rNq k) (by omega) rfl (aH rfl rfl (aA rfl (dE (i:=j) (rVq (aQ (nth m.ot k))) (rNq j) (by omega) rfl (aH rfl rfl (aA rfl ?_)))))))
   refine aA rfl (R_e (W_r (aA rfl (bW rfl rfl (aA rfl ?_)))))
   refine aS 4 (fun T H=>T 1=(mPq 1)∧T 3=(iV ((m.nx.length:Nat):Int))∧T 4=(iV ((k:Nat):Int))∧T 7=(iV (nth (nth m.ot k) j))∧T 42=(iV ((m.nx.length:Nat):Int))∧T 43=(iV ((k:Nat):Int))∧T 67=(iV m.i)∧T 68=(iV ((j:Nat):Int))∧T 93=(V.bool (decide (((nth (nth m.nx k) j) < (0:Int))∨(((m.nx.length:Nat):Int)≤(nth (nth m.nx k) j)))))∧H 1=(bMq m)∧True) ?_ ?_
   ·
    by_cases g19:(nth (nth m.nx k) j) < (0:Int)
    ·
     refine G_n (edT g19 rfl) (G_n (edT g19 rfl) (G_n (edT g19 rfl) (aR (edT g19 rfl) rfl ?_)))
     exact ⟨t1,t3,t4,rfl,t42,t43,t67,t68,(dH g19),h1,trivial⟩
    ·
     refine aC (edF g19 rfl) (aA rfl (aC (edF g19 rfl) (aA t3 (aC (edF g19 rfl) (lI rfl rfl (aT (edF g19 rfl) rfl ?_))))))
     exact ⟨t1,t3,t4,rfl,t42,t43,t67,t68,(dL g19),h1,trivial⟩
   intro T H ⟨t1,t3,t4,t7,t42,t43,t67,t68,t93,h1,_⟩
   refine aA t93 ?_
   refine aS 3 (fun T H=>T 1=(mPq 1)∧T 3=(iV ((m.nx.length:Nat):Int))∧T 4=(iV ((k:Nat):Int))∧T 7=(iV (nth (nth m.ot k) j))∧T 42=(iV ((m.nx.length:Nat):Int))∧T 43=(iV ((k:Nat):Int))∧T 67=(iV m.i)∧T 68=(iV ((j:Nat):Int))∧T 97=(V.bool (decide ((((nth (nth m.nx k) j) < (0:Int))∨(((m.nx.length:Nat):Int)≤(nth (nth m.nx k) j)))∨((nth (nth m.ot k) j) < (0:Int)))))∧H 1=(bMq m)∧True) ?_ ?_
   ·
    by_cases g20:((nth (nth m.nx k) j) < (0:Int))∨(((m.nx.length:Nat):Int)≤(nth (nth m.nx k) j))
    ·
     refine G_n (edT g20 rfl) (G_n (edT g20 rfl) (aR (edT g20 rfl) rfl ?_))
     exact ⟨t1,t3,t4,t7,t42,t43,t67,t68,(dH g20),h1,trivial⟩
    ·
     refine aC (edF g20 rfl) (aA t7 (aC (edF g20 rfl) (bW rfl rfl (aT (edF g20 rfl) rfl ?_))))
     exact ⟨t1,t3,t4,t7,t42,t43,t67,t68,(dL g20),h1,trivial⟩
   intro T H ⟨t1,t3,t4,t7,t42,t43,t67,t68,t97,h1,_⟩
   refine aA t97 ?_
   refine aS 3 (fun T H=>T 1=(mPq 1)∧T 3=(iV ((m.nx.length:Nat):Int))∧T 4=(iV ((k:Nat):Int))∧T 42=(iV ((m.nx.length:Nat):Int))∧T 43=(iV ((k:Nat):Int))∧T 67=(iV m.i)∧T 68=(iV ((j:Nat):Int))∧T 101=(V.bool (decide (((((nth (nth m.nx k) j) < (0:Int))∨(((m.nx.length:Nat):Int)≤(nth (nth m.nx k) j)))∨((nth (nth m.ot k) j) < (0:Int)))∨((1048576:Int) < (nth (nth m.ot k) j)))))∧H 1=(bMq m)∧True) ?_ ?_
   ·
    by_cases g21:(((nth (nth m.nx k) j) < (0:Int))∨(((m.nx.length:Nat):Int)≤(nth (nth m.nx k) j)))∨((nth (nth m.ot k) j) < (0:Int))
    ·
     refine G_n (edT g21 rfl) (G_n (edT g21 rfl) (aR (edT g21 rfl) rfl ?_))
     exact ⟨t1,t3,t4,t42,t43,t67,t68,(dH g21),h1,trivial⟩
    ·
     refine aC (edF g21 rfl) (aA t7 (aC (edF g21 rfl) (gH rfl rfl (aT (edF g21 rfl) rfl ?_))))
     exact ⟨t1,t3,t4,t42,t43,t67,t68,(dL g21),h1,trivial⟩
   intro T H ⟨t1,t3,t4,t42,t43,t67,t68,t101,h1,_⟩
   refine R_e ?_
   refine cW t101 (fun c22=>?_) fun c22=>?_
   ·
    refine W_r (aA rfl (R_e (aN (y18 _ _ (p216 _ _ (y15 _ _ (y12 _ _ ?_)))))))
    refine p210 _ _ (y9 _ _ ?_)
    refine bB (rVq (iV 2)) (aF ?_)
    · have e:aC5 m k=2:=by
        rw [hr,aEe (by unfold aGW; split <;> omega) (by omega)]; unfold aGW; split <;> omega
      rw [hc,aEe (by omega) (by omega),e]
   refine dA (n18 _ _ (.done (W_t (bL t68 (rNq 1) (by omega) (aA rfl (R_e ?_))))))
   refine p116 _ _ _ ?_ ⟨(j+1),rfl,t1,t3,t4,t42,t43,t67,(eTq (rNq (j+1)) (by rfl)),h1,?_,?_,?_⟩
   · omega
   · omega
   · omega
   · rw [hr,aFA (by unfold aGW; split <;> omega) (by omega)]
  refine aX (p316 _ _ _ (x15 _ _ (n12 _ _ (.done (W_t (bL t43 (rNq 1) (by omega) (aA rfl ?_)))))))
  refine R_e ?_
  refine p110 _ _ _ ?_ ⟨(k+1),rfl,t1,t3,t42,(eTq (rNq (k+1)) (by rfl)),h1,?_,?_,?_⟩
  · omega
  · omega
  · omega
  · rw [hc,aFA (by rw [hr,aIt (by omega)]) (by omega)]
 refine aX (p310 _ _ _ (x9 _ _ (.done (W_r (aA rfl (R_e (aN ?_)))))))
 refine bB (rVq (iV 0)) (aF ?_)
 · rw [hc,aIt (by omega)]
theorem aD0 (m:M) (s:Int):aP Tryz.prog 82 [(V.agg [(iV m.i),(iV m.s),(aZ m.nx),(aZ m.ot)]),(iV s)] (iV (stE m s)):=by
 refine pW Tryz.func82 aOp fun hB=>?_
 unfold s82
 dsimp only
 refine W_r (cK (i:=2) (n:=0) (m:=4) (cs:=[(iV m.i),(iV m.s),(aZ m.nx),(aZ m.ot)]) rfl (cVq rfl) rfl rfl rfl (aA rfl (R_e (aB (W_r (aL rfl rfl rfl rfl (aJ (uP m) rfl ?_)))))))
 refine aA rfl (R_e (aB (W_r (aA rfl (cM rfl rfl (R_e ?_))))))
 refine aK rfl (fun c1=>?_) fun c1=>?_
 ·
  refine aB (W_r (aA rfl (aA rfl (R_e (aW ?_)))))
  refine bB (rVq (iV (dY m))) (aF ?_)
  · rw [stE,if_pos (by omega)]
 refine aD (aB (W_r (aA rfl (bW rfl rfl (aA rfl ?_)))))
 refine aS 6 (fun T H=>T 19=(V.bool (decide ((s < (0:Int))∨(((m.nx.length:Nat):Int)≤s))))∧H 2=(bMq m)∧True) ?_ ?_
 ·
  by_cases g2:s < (0:Int)
  ·
   refine G_n (edT g2 rfl) (G_n (edT g2 rfl) (G_n (edT g2 rfl) (G_n (edT g2 rfl) (G_n (edT g2 rfl) (aR (edT g2 rfl) rfl ?_)))))
   exact ⟨(dH g2),rfl,trivial⟩
  ·
   refine aC (edF g2 rfl) (aA rfl (aC (edF g2 rfl) (aU rfl rfl (aC (edF g2 rfl) (aL rfl rfl rfl rfl (aC (edF g2 rfl) (bM rfl ?_)))))))
   refine aC (edF g2 rfl) (lI rfl rfl (aT (edF g2 rfl) rfl ?_))
   exact ⟨(dL g2),rfl,trivial⟩
 intro T H ⟨t19,h2,_⟩
 refine R_e ?_
 refine aK t19 (fun c3=>?_) fun c3=>?_
 ·
  refine aB (W_r (aA rfl (R_e (aW ?_))))
  refine bB (rVq (iV 2)) (aF ?_)
  · rw [stE,if_neg (by omega),if_pos (by omega)]
 refine aD (W_r (aA rfl (R_e (aN ?_))))
 refine bB (rVq (iV 0)) (aF ?_)
 · rw [stE,if_neg (by omega),if_neg (by omega)]
def s83:SF:=⟨17,[.tmp 4],.seq (.reg [sO 3 (.box 3 1 (.t 1)),qI 4 0]) (.seq (.block 0 (.seq (.reg [ql 6 3,sO 7 (.call false 99 [.t 6]),sO 8 (.un .not (.t 7)),qM 5 8]) (.cond (.t 5) (.seq (.reg [qI 4 2]) (.ret)) (.seq (.reg [qM 10 0,qN 11 10,qC 12 .gtr 11 1024,qM 9 12]) (.cond (.t 9) (.seq (.reg [qI 4 3]) (.ret)) (.seq (.reg [qM 14 0,sO 15 (.mkf 101 [.t 3]),sO 16 (.call false 100 [.t 14,.t 15]),qM 13 16]) (.cond (.t 13) (.seq (.reg [qI 4 1]) (.ret)) (.skip)))))))) (.seq (.reg [qI 4 0]) (.ret)))⟩
theorem aNx:bF Tryz.prog ⟨[51,59,84,90,97,109,153,154,155,160],[],[],[]⟩ Tryz.f83=some s83:=by kernel_rfl
def aQI:List SO:=[
 qM 3 0,
 qC 4 .geq 3 1,
 qM 5 4,
 ⟨some (5,true),some 6,.mv (.t 0)⟩,
 ⟨some (5,true),some 7,.bin .leq (.t 6) (.c (.int .i64 1024))⟩,
 sO 8 (.pick (.t 5) (.t 7) (.c (.bool false))),
 qM 2 8]
def s99:SF:=⟨9,[.tmp 2],.seq (.reg [sO 2 (.mv (.c (.bool false)))]) (.seq (.reg aQI) (.ret))⟩
theorem aN7:bF Tryz.prog ⟨[51,59,84,90,97,109,153,154,155,160],[],[],[]⟩ Tryz.f99=some s99:=by kernel_rfl
theorem yA (n:Int):aP Tryz.prog 99 [(iV n)] (V.bool (decide (1≤n∧n≤1024))):=by
 refine pW Tryz.func99 aN7 fun hB=>?_
 unfold s99
 dsimp only
 refine W_r (aA rfl (R_e (W_r (aA rfl (lI rfl rfl (aA rfl ?_))))))
 refine aS 3 (fun T H=>T 8=(V.bool (decide (((1:Int)≤n)∧(n≤(1024:Int)))))∧True) ?_ ?_
 ·
  by_cases g1:(1:Int)≤n
  ·
   refine aC (edT g1 rfl) (aA rfl (aC (edT g1 rfl) (aCc rfl rfl (aR (edT g1 rfl) rfl ?_))))
   exact ⟨(dM g1),trivial⟩
  ·
   refine G_n (edF g1 rfl) (G_n (edF g1 rfl) (aT (edF g1 rfl) rfl ?_))
   exact ⟨(dO g1),trivial⟩
 intro T H ⟨t8,_⟩
 refine aA t8 (R_e (aN ?_))
 refine bB (rVq (V.bool (decide (((1:Int)≤n)∧(n≤(1024:Int)))))) (bD ?_)
 · first|rfl|omega|simp_all
def aPK:SF:=⟨9,[.tmp 4],.seq (.reg [sO 4 (.mv (.c (.bool false)))]) (.seq (.reg [qM 5 0,qM 6 1,sO 7 (.call false 117 [.t 5,.t 6]),qC 8 .geq 7 0,qM 4 8]) (.ret))⟩
theorem aLa:bF Tryz.prog ⟨[51,59,84,90,97,109,153,154,155,160],[],[],[]⟩ Tryz.f100=some aPK:=by kernel_rfl
def aI3:SC:=.seq (.reg [qP 9 .lss 8 7]) (.seq (.cond (.t 9) (.skip) (.exit 0)) (.seq (.block 1 (.seq (.reg [qM 10 8,qM 5 10]) (.seq (.reg [qM 11 1,qM 12 0,qM 13 5,qA 14 1 12 13,ql 15 14,sO 16 (.callv false (.t 11) [.t 15])]) (.cond (.t 16) (.seq (.reg [qM 17 5,qM 4 17]) (.ret)) (.skip))))) (.reg [qC 18 .add 8 1,qM 8 18])))
def aOH:SF:=⟨19,[.tmp 4],.seq (.reg [qI 4 0]) (.seq (.seq (.reg [qM 6 0,qN 7 6,qI 8 0]) (.block 0 (.loop aI3))) (.seq (.reg [sO 4 (.mv (.c (.int .i64 (-1))))]) (.ret)))⟩
theorem aKX:bF Tryz.prog ⟨[51,59,84,90,97,109,153,154,155,160],[],[],[]⟩ Tryz.f117=some aOH:=by kernel_rfl
theorem aGE (p:Int→Bool) (w:List Int) (g:Nat) (caps:List V) (hca:cD caps=true) (hpu:cY caps=true) (hq: ∀ k,k < w.length→aP Tryz.prog g (iV (nth w k)::caps) (.bool (p (nth w k)))):aP Tryz.prog 117 [(aQ w),(V.fn g [] caps)] (iV (fi (fun jx=>p (nth w jx)) 0 w.length)):=by
 refine gS true 6 Tryz.func117 aKX (by kernel_rfl) (by simp [aOH]) (by simp [hpu]) (by simp) fun hB=>?_
 simp only [kA,jZ,iK,jT,jV,mI,jX,iN,implies_true,and_true,true_and] at hB
 unfold aOH
 dsimp only
 refine W_r (aA rfl (R_e (aB (W_r (aA rfl (bM rfl (aA rfl ?_)))))))
 refine R_e (aE fun Q1 n1 x1 y1 z1=>?_)
 refine cQ (fun mm T H=> ∃ (k:Nat),mm=w.length - k∧T 0=(aQ w)∧T 1=(V.fn g [] caps)∧T 7=(iV ((w.length:Nat):Int))∧T 8=(iV ((k:Nat):Int))∧(k≤w.length)∧(fi (fun j=>p (nth w j)) 0 w.length=fi (fun j=>p (nth w j)) k (w.length - k))) ?_ ?_
 ·
  refine ⟨_,0,rfl,rfl,rfl,rfl,(eTq (rVq (iV 0)) rfl),?_,?_⟩
  · omega
  · rfl
 intro mm T H ⟨k,hmm,t0,t1,t7,t8,hk,hc⟩ Q2 p12 p22 p32
 unfold aI3
 refine W_r (bW t8 t7 (R_e ?_))
 refine aK rfl (fun c3=>?_) fun c3=>?_
 ·
  refine aD (aE fun Q4 n4 x4 y4 z4=>(W_r (aA t8 (aA rfl (R_e (W_r (aA t1 ?_)))))))
  refine aA t0 (aA rfl (dE (i:=k) (rVq (aQ w)) (rNq k) (by omega) rfl (aH rfl rfl (jW (rVq (V.fn g [] caps)) (aY (rVq (iV (nth w k))) cU) (hq k (by omega)) (cC _ _ (by simp [hca])) (by simp [hpu]) (Or.inl (by simp [hpu])) (R_e ?_)))))
  refine mT rfl (fun c5=>?_) (fun c5=>?_)
  ·
   have d1:=c5
   refine W_r (aA rfl (aA rfl (R_e (aN (y4 _ _ (p22 _ _ (y1 _ _ ?_)))))))
   refine bB (rNq k) (aF ?_)
   · rw [hc,aJU (by exact d1) (by omega)]
  have d1:=c5
  refine dA (n4 _ _ (.done (W_t (bL t8 (rNq 1) (by omega) (aA rfl (R_e ?_))))))
  refine p12 _ _ _ ?_ ⟨(k+1),rfl,t0,t1,t7,(eTq (rNq (k+1)) (by rfl)),?_,?_⟩
  · omega
  · omega
  · rw [hc,aFE (by exact d1) (by omega)]
 refine aX (p32 _ _ _ (x1 _ _ (.done (W_r (aA rfl (R_e (aN ?_)))))))
 refine bB (rVq (iV (-1))) (aF ?_)
 · rw [hc,aJD (by omega)]
theorem aGI (p:Int→Bool) (w:List Int) (g:Nat) (caps:List V) (hca:cD caps=true) (hpu:cY caps=true) (hq: ∀ k,k < w.length→aP Tryz.prog g (iV (nth w k)::caps) (.bool (p (nth w k)))):aP Tryz.prog 100 [(aQ w),(V.fn g [] caps)] (V.bool (decide (0≤fi (fun jx=>p (nth w jx)) 0 w.length))):=by
 refine gS true 6 Tryz.func100 aLa (by kernel_rfl) (by simp [aPK]) (by simp [hpu]) (by simp) fun hB=>?_
 simp only [kA,jZ,iK,jT,jV,mI,jX,iN,implies_true,and_true,true_and] at hB
 unfold aPK
 dsimp only
 refine W_r (aA rfl (R_e (W_r (aA rfl (aA rfl (iR (aY (rVq (aQ w)) (aY (rVq (V.fn g [] caps)) cU)) (aGE p w g caps hca hpu hq) (cC _ _ (by simp [hca,hpu,-List.map_take,-List.map_drop,-List.map_append,-List.map_reverse])) (by simp [hca,hpu,-List.map_take,-List.map_drop,-List.map_append,-List.map_reverse]) (Or.inl (by simp [hca,hpu,-List.map_take,-List.map_drop,-List.map_append,-List.map_reverse])) (lI rfl rfl ?_)))))))
 refine aA rfl (R_e (aN ?_))
 refine bB (rVq (V.bool (decide ((0:Int)≤(fi (fun jx=>p (nth w jx)) 0 w.length))))) (bD ?_)
 · first|rfl|omega|simp_all
def aN4:List SO:=[
 qM 4 0,
 qC 5 .lss 4 0,
 qM 6 5,
 ⟨some (6,false),some 7,.mv (.t 0)⟩,
 ⟨some (6,false),some 8,.load false 1 (.t 1)⟩,
 ⟨some (6,false),some 9,.bin .geq (.t 7) (.t 8)⟩,
 sO 10 (.pick (.t 6) (.c (.bool true)) (.t 9)),
 qM 3 10]
def aQk:SF:=⟨11,[.tmp 3],.seq (.reg [sO 3 (.mv (.c (.bool false)))]) (.seq (.reg aN4) (.ret))⟩
theorem aMo:bF Tryz.prog ⟨[51,59,84,90,97,109,153,154,155,160],[],[],[]⟩ Tryz.f101=some aQk:=by kernel_rfl
theorem aB7 (a n:Int):aP Tryz.prog 101 [(iV a),(V.pp [(iV n)])] (V.bool (decide (a < 0∨n≤a))):=by
 refine pW Tryz.func101 aMo fun hB=>?_
 unfold aQk
 dsimp only
 refine W_r (aA rfl (R_e (W_r (aA rfl (bW rfl rfl (aA rfl ?_))))))
 refine aS 4 (fun T H=>T 10=(V.bool (decide ((a < (0:Int))∨(n≤a))))∧True) ?_ ?_
 ·
  by_cases g1:a < (0:Int)
  ·
   refine G_n (edT g1 rfl) (G_n (edT g1 rfl) (G_n (edT g1 rfl) (aR (edT g1 rfl) rfl ?_)))
   exact ⟨(dH g1),trivial⟩
  ·
   refine aC (edF g1 rfl) (aA rfl (aC (edF g1 rfl) (aH rfl rfl (aC (edF g1 rfl) (lI rfl rfl (aT (edF g1 rfl) rfl ?_))))))
   exact ⟨(dL g1),trivial⟩
 intro T H ⟨t10,_⟩
 refine aA t10 (R_e (aN ?_))
 refine bB (rVq (V.bool (decide ((a < (0:Int))∨(n≤a))))) (bD ?_)
 · first|rfl|omega|simp_all
theorem aDy (w:List Int) (n:Int):aP Tryz.prog 83 [(aQ w),(iV n)] (iV (nH w n)):=by
 refine pW Tryz.func83 aNx fun hB=>?_
 unfold s83
 dsimp only
 refine W_r (cK (i:=3) (n:=0) (m:=1) (cs:=[(iV n)]) rfl (cVq rfl) rfl rfl rfl (aA rfl (R_e (aE fun Q1 n1 x1 y1 z1=>(W_r (aL rfl rfl rfl rfl (aJ (yA n) rfl ?_)))))))
 refine rF rfl (aA rfl (R_e ?_))
 refine cW rfl (fun c2=>?_) fun c2=>?_
 ·
  refine W_r (aA rfl (R_e (aN (y1 _ _ ?_))))
  refine bB (rVq (iV 2)) (aF ?_)
  · rw [nH,if_pos (by omega)]
 refine W_r (aA rfl (bM rfl (gH rfl rfl (aA rfl (R_e ?_)))))
 refine cW rfl (fun c3=>?_) fun c3=>?_
 ·
  refine W_r (aA rfl (R_e (aN (y1 _ _ ?_))))
  refine bB (rVq (iV 3)) (aF ?_)
  · rw [nH,if_neg (by omega),if_pos (by omega)]
 refine W_r (aA rfl (aCo (aY rfl cU) (iR (aY (rVq (aQ w)) (aY (rVq (V.fn 101 [] [(mPq 3)])) cU)) (aGI (fun a=>decide (a < 0∨n≤a)) w 101 ([(V.pp [(iV n)])]) (by simp) (by simp) (fun k _=>aB7 (nth w k) n)) (fS (dU 6 _ (by simp [-List.map_take,-List.map_drop,-List.map_append,-List.map_reverse])) (fS (by rfl) rfl)) (by simp [-List.map_take,-List.map_drop,-List.map_append,-List.map_reverse]) (Or.inr rfl) (aA rfl (R_e ?_)))))
 refine cW (p:=0≤fi (fun jx=>(fun a=>decide (a < 0∨n≤a)) (nth w jx)) 0 w.length) rfl (fun c4=>?_) (fun c4=>?_)
 ·
  refine W_r (aA rfl (R_e (aN (y1 _ _ ?_))))
  refine bB (rVq (iV 1)) (aF ?_)
  · have e:(0≤fi (fun j=>(fun a=>decide (a < 0∨n≤a)) (nth w j)) 0 w.length↔fe (wE w n) 0 w.length=1)∧(fe (wE w n) 0 w.length=0∨fe (wE w n) 0 w.length=1):=aNm w n w.length 0
    rw [nH,if_neg (by omega),if_neg (by omega)]; omega
 refine dA (n1 _ _ (.done (W_r (aA rfl (R_e (aN ?_))))))
 refine bB (rVq (iV 0)) (aF ?_)
 · have e:(0≤fi (fun j=>(fun a=>decide (a < 0∨n≤a)) (nth w j)) 0 w.length↔fe (wE w n) 0 w.length=1)∧(fe (wE w n) 0 w.length=0∨fe (wE w n) 0 w.length=1):=aNm w n w.length 0
   rw [nH,if_neg (by omega),if_neg (by omega)]; omega
def aQu:List SO:=[
 qM 17 0,
 sO 18 (.nilck (.t 17)),
 qF 19 0 18,
 qL 20 4 19,
 qM 21 0,
 sO 22 (.nilck (.t 21)),
 qF 23 4 22,
 ql 24 23,
 qM 25 7,
 sO 26 (.call false 102 [.t 20,.t 24,.t 25]),
 qM 16 26,
 qE 27 16 0,
 qE 28 16 1,
 qM 8 27,
 qM 9 28]
def aMH:SC:=.seq (.reg [qP 13 .lss 12 11]) (.seq (.cond (.t 13) (.skip) (.exit 0)) (.seq (.block 1 (.seq (.reg [qA 14 1 10 12,ql 15 14,qM 7 15]) (.seq (.reg aQu) (.seq (.reg [qM 29 0,qM 30 8,sO 31 (.nilck (.t 29)),qF 32 4 31,sN (.store 1 (.t 32) (.t 30))]) (.reg [qM 33 5,qM 34 9,sO 35 (.bslice 3 1 false [.int .i64 0] 1 [(0,.t 34)]),sO 36 (.append 3 1 8 (.t 33) (.t 35)),qM 5 36]))))) (.reg [qC 37 .add 12 1,qM 12 37])))
def s84:SF:=⟨39,[.tmp 4],.seq (.reg [sO 4 (.mv (.c (.nilsl)))]) (.seq (.reg [sO 5 (.lazy 3 1)]) (.seq (.seq (.reg [qM 10 1,qN 11 10,qI 12 0]) (.block 0 (.loop aMH))) (.seq (.reg [qM 38 5,qM 4 38]) (.ret))))⟩
theorem aO5:bF Tryz.prog ⟨[51,59,84,90,97,109,153,154,155,160],[5],[],[]⟩ Tryz.f84=some s84:=by kernel_rfl
def aOg:List SO:=[
 qF 8 0 3,
 qF 9 2 8,
 ql 10 9,
 qM 11 1,
 qA 12 1 10 11,
 ql 13 12,
 qM 14 2,
 qA 15 1 13 14,
 ql 16 15,
 qF 17 0 3,
 qF 18 3 17,
 ql 19 18,
 qM 20 1,
 qA 21 1 19 20,
 ql 22 21,
 qM 23 2,
 qA 24 1 22 23,
 ql 25 24,
 qM 6 16,
 qM 7 25]
def aRU:SF:=⟨26,[.tmp 6,.tmp 7],.seq (.reg [sO 3 (.box 126 4 (.t 0)),qI 6 0,qI 7 0]) (.seq (.reg aOg) (.ret))⟩
theorem aLS:bF Tryz.prog ⟨[51,59,84,90,97,109,153,154,155,160],[],[],[]⟩ Tryz.f102=some aRU:=by kernel_rfl
theorem aGR (m:M) (s a:Int) (hs:0≤s∧s < m.nx.length∧m.ot.length=m.nx.length) (ha:0≤a∧a < (nth m.nx s.toNat).length∧a < (nth m.ot s.toNat).length):aP Tryz.prog 102 [(V.agg [(iV m.i),(iV m.s),(aZ m.nx),(aZ m.ot)]),(iV s),(iV a)] (V.tup [(iV (cell m.nx s a)),(iV (cell m.ot s a))]):=by
 refine pW Tryz.func102 aLS fun hB=>?_
 unfold aRU
 dsimp only
 refine W_r (cK (i:=3) (n:=0) (m:=4) (cs:=[(iV m.i),(iV m.s),(aZ m.nx),(aZ m.ot)]) rfl (cVq rfl) rfl rfl rfl (aA rfl (aA rfl (R_e (W_r (aU rfl rfl (aU rfl rfl ?_)))))))
 refine aL rfl rfl rfl rfl (aA rfl (fC (i:=s) (rVq (aZ m.nx)) (rVq (iV s)) (by omega) (by omega) rfl (aH rfl rfl (aA rfl (fC (i:=a) (rVq (aQ (nth m.nx s.toNat))) (rVq (iV a)) (by omega) (by omega) rfl (aH rfl rfl (aU rfl rfl ?_)))))))
 refine aU rfl rfl (aL rfl rfl rfl rfl (aA rfl (fC (i:=s) (rVq (aZ m.ot)) (rVq (iV s)) (by omega) (by omega) rfl (aH rfl rfl (aA rfl (fC (i:=a) (rVq (aQ (nth m.ot s.toNat))) (rVq (iV a)) (by omega) (by omega) rfl (aH rfl rfl ?_)))))))
 refine aA rfl (aA rfl (R_e (aN ?_)))
 refine eE (rVq (iV (nth (nth m.nx s.toNat) a.toNat))) (rVq (iV (nth (nth m.ot s.toNat) a.toNat))) (aF ?_) (aF ?_)
 · rfl
 · rfl
theorem aQj (m:M) (s:Int) (w:List Int) (v1 v5:Nat) (Hi:aI) (hb:Hi 30=(bk v1 128 5 [[(iV m.i),(iV m.s),(aZ m.nx),(aZ m.ot),(iV s)]])) (h105:(Hi 105).ver=v5) (hm:dY m=0) (hs:0≤s∧s < m.nx.length) (hl:w.length≤1024) (hw: ∀ k,k < w.length→0≤nth w k∧nth w k < m.i):dW Tryz.prog 84 [(V.mp 30 v1 0 0),(aQ w)] Hi (aQ (fB m s w)) (upd (upd Hi 105 (⟨v5+1+w.length,false,false,0,0,[]⟩:Blk)) 30 (bk v1 128 5 [[(iV m.i),(iV m.s),(aZ m.nx),(aZ m.ot),(iV (eC m s w))]])):=by
 refine eW (k0:=100) Tryz.func84 aO5 fun hB=>?_
 unfold s84
 dsimp only
 refine W_r (aA rfl (R_e (W_r (aDx (i:=105) (n:=v5) rfl h105 (R_e (aB (W_r ?_)))))))
 refine aA rfl (bM rfl (aA rfl (R_e (aE fun Q1 n1 x1 y1 z1=>?_))))
 refine cQ (fun mm T H=> ∃ (k:Nat),mm=w.length - k∧T 0=(V.mp 30 v1 0 0)∧T 5=(V.ms 105 (v5+1+k) 0 k)∧T 10=(aQ w)∧T 11=(iV ((w.length:Nat):Int))∧T 12=(iV ((k:Nat):Int))∧(∀ j,j∉[105,30]→H j=Hi j)∧H 30=(bk v1 128 5 [[(iV m.i),(iV m.s),(aZ m.nx),(aZ m.ot),(iV (eC m s (w.take k)))]])∧H 105=(bz (v5+1+k) 3 1 (List.map cI (fB m s (w.take k))))∧(k≤w.length)) ?_ ?_
 ·
  refine ⟨_,0,rfl,rfl,(eTq (rVq (V.ms 105 (v5+1) 0 0)) (by rfl)),rfl,rfl,(eTq (rVq (iV 0)) rfl),(bN (fun _ _=>rfl) (by decide)),(eTq hb (by rfl)),(eTq (@rfl Blk (bz (v5+1) 3 1 [])) (by rfl)),?_⟩
  · omega
 intro mm T H ⟨k,hmm,t0,t5,t10,t11,t12,hF,h30,h105,hk⟩ Q2 p12 p22 p32
 unfold aMH
 refine W_r (bW t12 t11 (R_e ?_))
 refine aK rfl (fun c3=>?_) fun c3=>?_
 ·
  have h1:=aNA hm hs hw (k:=k) (by omega)
  refine aD (aE fun Q4 n4 x4 y4 z4=>(W_r (dE (i:=k) t10 t12 (by omega) rfl (aH rfl rfl (aA rfl (R_e (W_r ?_)))))))
  refine aA t0 (bK rfl h30 oB (aU rfl h30 (aL rfl h30 rfl rfl (aA t0 (bK rfl h30 oB (aU rfl h30 (aL rfl h30 rfl rfl ?_)))))))
  refine aA rfl (aJ (aGR m (eC m s (w.take k)) (nth w k) h1.1 h1.2) rfl (aA rfl (bG rfl rfl (bG rfl rfl (aA rfl (aA rfl (R_e ?_)))))))
  refine W_r (aA t0 (aA rfl (bK rfl h30 oB (aU rfl h30 (bP rfl rfl rfl h30 rfl rfl rfl rfl rfl (R_e (W_t ?_)))))))
  refine aA t5 (aA rfl (bC rfl rfl (eH (l:=(fB m s (w.take k))) (f:=cI) (x:=(cell m.ot (eC m s (w.take k)) (nth w k))) (rVq (V.ms 105 (v5+1+k) 0 k)) h105 (by (simp only [iJ,List.length_take]; omega)) (rVq (V.sl [[(iV (cell m.ot (eC m s (w.take k)) (nth w k)))]])) rfl rfl (by omega) (by omega) (aA rfl (R_e (n4 _ _ (.done ?_)))))))
  refine W_t (bL t12 (rNq 1) (by omega) (aA rfl (R_e ?_)))
  refine p12 _ _ _ ?_ ⟨(k+1),rfl,t0,(eTq (rVq (V.ms 105 (v5+1+k+1) 0 (k+1))) (by rfl)),t10,t11,(eTq (rNq (k+1)) (by rfl)),(bN (bN hF (by decide)) (by decide)),(eTq (@rfl Blk (bk v1 128 5 [[(iV m.i),(iV m.s),(aZ m.nx),(aZ m.ot),(iV (cell m.nx (eC m s (w.take k)) (nth w k)))]])) (by (rw [aF5 m s (by omega)]))),(eTq (@rfl Blk (bz (v5+1+k+1) 3 1 (List.map cI (fB m s (w.take k)++[(cell m.ot (eC m s (w.take k)) (nth w k))])))) (by (rw [aGH m s (by omega)]; rfl))),?_⟩
  · omega
  · omega
 refine aX (p32 _ _ _ (x1 _ _ (.done (W_r (aA t5 (aA rfl (R_e ?_)))))))
 refine aN (dQ (R:=fun T H=>T 4=(V.ms 105 (v5+1+k) 0 k)∧(∀ j,j∉[105,30]→H j=Hi j)∧H 30=(bk v1 128 5 [[(iV m.i),(iV m.s),(aZ m.nx),(aZ m.ot),(iV (eC m s (w.take k)))]])∧H 105=(bz (v5+1+k) 3 1 (List.map cI (fB m s (w.take k))))∧True) ⟨(rVq (V.ms 105 (v5+1+k) 0 k)),hF,h30,h105,trivial⟩ ?_)
 intro T H ⟨t4,hF,h30,h105,_⟩
 have fh:=cX.fin (cX.put (B:=(bk v1 128 5 [[(iV m.i),(iV m.s),(aZ m.nx),(aZ m.ot),(iV (eC m s w))]])) (cX.putv (n:=(v5+1+k)) (B:=(⟨v5+1+w.length,false,false,0,0,[]⟩:Blk)) (cX.start hF) (cVq h105) (by show _≤v5+1+w.length; omega) rfl) h30 (kL.eq (by (have e:k=w.length:=(by omega); subst e; rw [List.take_length]; done))))
 exact wI t4 fh (cV.trans_eq (cV.frz (rows:=(List.map cI (fB m s (w.take k)))) fh (by simp [h105]) (by simp [h105]) rfl (by rw [h105]; exact xB (l:=(fB m s (w.take k))) (by (simp only [iJ,List.length_take]; omega)))) (by (have e:k=w.length:=(by omega); subst e; rw [List.take_length]; done)))
theorem aGP (m:M) (s:Int) (w:List Int):aP Tryz.prog 57 [(V.agg [(iV m.i),(iV m.s),(aZ m.nx),(aZ m.ot)]),(iV s),(aQ w)] (V.tup [(aQ (dP m s w)),(iV (aAE m s w)),(iV (frE m s w))]):=by
 refine pW Tryz.func57 aPh fun hB=>?_
 unfold s57
 dsimp only
 refine W_r (cK (i:=3) (n:=0) (m:=4) (cs:=[(iV m.i),(iV m.s),(aZ m.nx),(aZ m.ot)]) rfl (cVq rfl) rfl rfl rfl (aA rfl (aA rfl (aA rfl (R_e (aB (W_r ?_)))))))
 refine aL rfl rfl rfl rfl (aA rfl (aJ (aD0 m s) rfl (aA rfl (R_e (aB (W_r (aA rfl ?_)))))))
 refine cM rfl rfl (R_e ?_)
 refine aK rfl (fun c1=>?_) fun c1=>?_
 ·
  refine aB (W_r (aA rfl (aA rfl (aA rfl (aA rfl (R_e (aW ?_)))))))
  refine aIp (rVq V.nilsl) (rVq (iV 0)) (rVq (iV (stE m s))) (dD ?_) (aF ?_) (aF ?_)
  · rw [dP,if_pos (by rw [frE,if_pos (by omega)]; omega)]
  · rw [aAE,if_pos (by rw [frE,if_pos (by omega)]; omega)]
  · rw [frE,if_pos (by omega)]
 have hs:=aPj (m:=m) (s:=s) (by omega)
 refine aD (aB (W_r (aA rfl (aU rfl rfl (aL rfl rfl rfl rfl (aJ (aDy w m.i) rfl (aA rfl ?_)))))))
 refine R_e (aB (W_r (aA rfl (cM rfl rfl (R_e ?_)))))
 refine aK rfl (fun c2=>?_) fun c2=>?_
 ·
  refine aB (W_r (aA rfl (aA rfl (aA rfl (aA rfl (R_e (aW ?_)))))))
  refine aIp (rVq V.nilsl) (rVq (iV 0)) (rVq (iV (nH w m.i))) (dD ?_) (aF ?_) (aF ?_)
  · rw [dP,if_pos (by rw [frE,if_neg (by omega)]; omega)]
  · rw [aAE,if_pos (by rw [frE,if_neg (by omega)]; omega)]
  · rw [frE,if_neg (by omega)]
 have hw:=wC (w:=w) (n:=m.i) (by omega)
 refine aD (W_r (aL rfl rfl rfl rfl (bI rfl rfl (aA rfl (bI rfl rfl (cK (i:=30) (n:=0) (m:=5) (cs:=[(iV m.i),(iV m.s),(aZ m.nx),(aZ m.ot),(iV s)]) rfl (cVq rfl) rfl rfl rfl (aA rfl ?_)))))))
 refine R_e (W_r (aA rfl (aA rfl (fP (aY rfl (aY rfl cU)) (aQj m s w 1 0 _ rfl (cVq rfl) hs.1 hs.2 hw.1 hw.2) (aA rfl (R_e (W_r ?_)))))))
 refine aA rfl (aA rfl (bK rfl rfl oB (aU rfl rfl (aL rfl rfl rfl rfl (aA rfl (aA rfl (aA rfl ?_)))))))
 refine R_e (aN ?_)
 refine aIp (rVq (aQ (fB m s w))) (rVq (iV (eC m s w))) (rVq (iV 0)) (eI ?_ (fun _=>by simp)) (aF ?_) (aF ?_)
 · rw [dP,if_neg (by rw [frE,if_neg (by omega)]; omega)]
 · rw [aAE,if_neg (by rw [frE,if_neg (by omega)]; omega)]
 · rw [frE,if_neg (by omega)]; omega
theorem oW (m:M) (w:List Int):aP Tryz.prog 30 [(V.agg [(iV m.i),(iV m.s),(aZ m.nx),(aZ m.ot)]),(aQ w)] (V.tup [(aQ (dP m m.s w)),(iV (frE m m.s w))]):=by
 refine pW Tryz.func30 aOQ fun hB=>?_
 unfold s30
 dsimp only
 refine W_r (cK (i:=2) (n:=0) (m:=4) (cs:=[(iV m.i),(iV m.s),(aZ m.nx),(aZ m.ot)]) rfl (cVq rfl) rfl rfl rfl (aA rfl (aA rfl (R_e (W_r (aL rfl rfl rfl rfl (aU rfl rfl ?_)))))))
 refine aL rfl rfl rfl rfl (aA rfl (aJ (aGP m m.s w) rfl (aA rfl (bG rfl rfl (bG rfl rfl (bG rfl rfl (aA rfl ?_)))))))
 refine aA rfl (aA rfl (R_e (W_r (aA rfl (aA rfl (aA rfl (aA rfl ?_)))))))
 refine R_e (aN ?_)
 refine eE (rVq (aQ (dP m m.s w))) (rVq (iV (frE m m.s w))) (eI ?_ (fun _=>by simp)) (aF ?_)
 · rfl
 · rfl
def aRo:List SO:=[
 qF 9 0 3,
 ql 10 9,
 qF 11 1 3,
 qL 12 3 11,
 sO 13 (.call false 73 [.t 12]),
 sO 14 (.build [.int .i64 0,.str []] [(0,1,.t 10),(1,1,.t 13)]),
 sO 6 (.alloc 90 [.int .i64 0,.str []]),
 sN (.store 2 (.t 6) (.t 14))]
def aQH:List SO:=[
 qL 15 2 6,
 qM 16 0,
 sO 17 (.nilck (.t 16)),
 qF 18 2 17,
 qL 19 2 18,
 sO 20 (.abin false [0,1] (.t 15) (.t 19)),
 qM 21 20,
 ⟨some (21,false),some 22,.mv (.t 0)⟩,
 ⟨some (21,false),some 23,.nilck (.t 22)⟩,
 ⟨some (21,false),some 24,.fld 0 (.t 23)⟩,
 ⟨some (21,false),some 25,.load false 1 (.t 24)⟩,
 ⟨some (21,false),some 26,.load true 2 (.t 6)⟩,
 ⟨some (21,false),some 27,.mlook 12 false (.bool false) (.t 25) (.t 26)⟩,
 sO 28 (.pick (.t 21) (.c (.bool true)) (.t 27))]
def aRX:List SO:=[
 qF 30 1 3,
 qL 31 3 30,
 sO 32 (.call false 15 [.t 31]),
 qM 29 32,
 qE 33 29 0,
 qE 34 29 1,
 qM 7 33,
 qM 8 34]
def aPk:List SO:=[
 qM 59 0,
 qM 60 0,
 sO 61 (.nilck (.t 60)),
 qF 62 1 61,
 ql 63 62,
 qL 64 5 3,
 sO 65 (.bslice 95 5 false [.int .i64 0,.int .i64 0,.int .i64 0,.nilsl,.nilsl] 1 [(0,.t 64)]),
 sO 66 (.append 95 5 72 (.t 63) (.t 65)),
 sO 67 (.nilck (.t 59)),
 qF 68 1 67,
 sN (.store 1 (.t 68) (.t 66))]
def s51:SF:=⟨69,[.tmp 4,.tmp 5],.seq (.reg [sO 3 (.box 95 5 (.t 1)),sO 4 (.mv (.c (.bool false))),qI 5 0]) (.seq (.dreg [6] aRo) (.seq (.seq (.reg aQH) (.cond (.t 28) (.seq (.reg [sO 4 (.mv (.c (.bool false))),qI 5 0]) (.ret)) (.skip))) (.seq (.reg aRX) (.seq (.seq (.reg [qM 35 8,qC 36 .neq 35 0,qM 37 36,⟨some (37,false),some 38,.mv (.t 7)⟩,⟨some (37,false),some 39,.un .not (.t 38)⟩,sO 40 (.pick (.t 37) (.c (.bool true)) (.t 39))]) (.cond (.t 40) (.seq (.reg [qM 41 8,qC 42 .eql 41 0,qM 43 8,qM 4 42,qM 5 43]) (.ret)) (.skip))) (.seq (.seq (.reg [qM 44 0,sO 45 (.nilck (.t 44)),qF 46 1 45,ql 47 46,qN 48 47,qC 49 .eql 48 4096]) (.cond (.t 49) (.seq (.reg [sO 4 (.mv (.c (.bool false))),qI 5 11]) (.ret)) (.skip))) (.seq (.reg [qM 50 0,sO 51 (.nilck (.t 50)),qF 52 0 51,ql 53 52,qL 54 2 6,sN (.mset 12 (.t 53) (.t 54) (.c (.bool true)))]) (.seq (.reg [qM 55 0,qL 56 2 6,sO 57 (.nilck (.t 55)),qF 58 2 57,sN (.store 2 (.t 58) (.t 56))]) (.seq (.reg aPk) (.seq (.reg [sO 4 (.mv (.c (.bool false))),qI 5 0]) (.ret))))))))))⟩
theorem aBe:bF Tryz.prog ⟨[51,59,84,90,97,109,153,154,155,160],[],[],[]⟩ Tryz.f51=some s51:=by kernel_rfl
def s15:SF:=⟨12,[.tmp 2,.tmp 3],.seq (.reg [sO 1 (.box 24 3 (.t 0)),sO 2 (.mv (.c (.bool false))),qI 3 0]) (.seq (.seq (.reg [qL 5 3 1,sO 6 (.call false 35 [.t 5]),qM 4 6]) (.seq (.reg [qM 7 4,qC 8 .neq 7 0]) (.cond (.t 8) (.seq (.reg [qM 9 4,sO 2 (.mv (.c (.bool false))),qM 3 9]) (.ret)) (.skip)))) (.seq (.reg [qL 10 3 1,sO 11 (.call false 42 [.t 10]),qM 2 11,qI 3 0]) (.ret)))⟩
theorem aPd:bF Tryz.prog ⟨[51,59,84,90,97,109,153,154,155,160],[],[],[]⟩ Tryz.f15=some s15:=by kernel_rfl
def aP9:List SO:=[
 qF 10 2 1,
 ql 11 10,
 sO 12 (.idx 3 (.t 11) (.c (.int .i64 0))),
 qL 13 3 12,
 sO 14 (.call false 42 [.t 13]),
 sO 15 (.un .not (.t 14)),
 qM 2 15]
def aQy:List SO:=[
 qF 18 2 1,
 ql 19 18,
 sO 20 (.call false 69 [.t 19,.c (.fn 42 [] [])]),
 qF 21 2 1,
 ql 22 21,
 qN 23 22,
 qP 24 .eql 20 23,
 qM 2 24]
def s42:SF:=⟨39,[.tmp 2],.seq (.reg [sO 1 (.box 24 3 (.t 0)),sO 2 (.mv (.c (.bool false)))]) (.seq (.seq (.reg [qF 3 0 1,ql 4 3]) (.block 0 (.seq (.seq (.reg [qC 6 .eql 4 1,qM 5 6]) (.cond (.t 5) (.skip) (.reg [qC 7 .eql 4 9,qM 5 7]))) (.cond (.t 5) (.seq (.reg [sO 2 (.mv (.c (.bool true)))]) (.ret)) (.seq (.reg [qC 9 .eql 4 4,qM 8 9]) (.cond (.t 8) (.seq (.reg aP9) (.ret)) (.seq (.reg [qC 17 .eql 4 5,qM 16 17]) (.cond (.t 16) (.seq (.reg aQy) (.ret)) (.seq (.reg [qC 26 .eql 4 6,qM 25 26]) (.cond (.t 25) (.seq (.reg [qF 27 2 1,ql 28 27,sO 29 (.call false 69 [.t 28,.c (.fn 42 [] [])]),qC 30 .gtr 29 0,qM 2 30]) (.ret)) (.seq (.seq (.reg [qC 32 .eql 4 8,qM 31 32]) (.cond (.t 31) (.skip) (.reg [qC 33 .eql 4 10,qM 31 33]))) (.cond (.t 31) (.seq (.reg [qF 34 2 1,ql 35 34,sO 36 (.idx 3 (.t 35) (.c (.int .i64 1))),qL 37 3 36,sO 38 (.call false 42 [.t 37]),qM 2 38]) (.ret)) (.skip))))))))))))) (.seq (.reg [sO 2 (.mv (.c (.bool false)))]) (.ret)))⟩
theorem aO9:bF Tryz.prog ⟨[51,59,84,90,97,109,153,154,155,160],[],[],[]⟩ Tryz.f42=some s42:=by kernel_rfl
theorem wY (f:Fm) (hf:okF f=true) (hz:f.sz≤4096) (ih: ∀ (g:Fm),g.sz < f.sz→okF g=true→g.sz≤4096→aP Tryz.prog 42 [(V.agg [(iV g.op),(iV g.arg),(V.sl (List.map cF g.kids))])] (V.bool (sat t0 g 0))):aP Tryz.prog 42 [(V.agg [(iV f.op),(iV f.arg),(V.sl (List.map cF f.kids))])] (V.bool (sat t0 f 0)):=by
 refine pW Tryz.func42 aO9 fun hB=>?_
 unfold s42
 dsimp only
 have hp:=bJ hf
 have hr:=cP hp.1
 have hln:=f.sz_len
 refine W_r (cK (i:=1) (n:=0) (m:=3) (cs:=[(iV f.op),(iV f.arg),(V.sl (List.map cF f.kids))]) rfl (cVq rfl) rfl rfl rfl (aA rfl (R_e (aB (W_r (aU rfl rfl (aL rfl rfl rfl rfl ?_)))))))
 refine R_e (aE fun Q1 n1 x1 y1 z1=>(aB (W_r (bH rfl rfl (aA rfl (R_e ?_))))))
 refine aK rfl (fun c2=>?_) fun c2=>?_
 ·
  refine aD ?_
  refine cW rfl (fun c3=>?_) fun c3=>?_
  ·
   refine W_r (aA rfl (R_e (aN (y1 _ _ ?_))))
   refine bB (rVq (V.bool true)) (bD ?_)
   · rw [aMA (by omega)]
  · exact (c3 c2).elim
 refine W_r (bH rfl rfl (aA rfl (R_e ?_)))
 refine cW rfl (fun c4=>?_) fun c4=>?_
 ·
  refine W_r (aA rfl (R_e (aN (y1 _ _ ?_))))
  refine bB (rVq (V.bool true)) (bD ?_)
  · rw [aMA (by omega)]
 refine W_r (bH rfl rfl (aA rfl (R_e ?_)))
 refine cW rfl (fun c5=>?_) fun c5=>?_
 ·
  refine W_r (aU rfl rfl (aL rfl rfl rfl rfl (dC (i:=0) (rVq (V.sl (List.map cF f.kids))) (rNq 0) (by omega) (bX _) rfl (aH rfl rfl (aJ (ih (nth f.kids 0) (Fm.sz_kid (by omega)) (hp.2 _ (by omega)) (Nat.le_trans (Nat.le_of_lt (Fm.sz_kid (by omega))) hz)) rfl (gA rfl (aA rfl ?_)))))))
  refine R_e (aN (y1 _ _ ?_))
  refine bB (rVq (V.bool (!sat t0 (nth f.kids 0) 0))) (bD ?_)
  · rw [aQS hf (by omega)]
 refine W_r (bH rfl rfl (aA rfl (R_e ?_)))
 refine cW rfl (fun c6=>?_) fun c6=>?_
 ·
  refine W_r (aU rfl rfl (aL rfl rfl rfl rfl (aJ (sW (fun g=>sat t0 g 0) f.kids 42 ([]) (by simp) (by simp) (fun k h=>ih (nth f.kids k) (Fm.sz_kid h) (hp.2 k h) (Nat.le_trans (Nat.le_of_lt (Fm.sz_kid h)) hz)) (by omega)) rfl (aU rfl rfl (aL rfl rfl rfl rfl (bM rfl (bH rfl rfl ?_)))))))
  refine aA rfl (R_e (aN (y1 _ _ ?_)))
  refine bB (rVq (V.bool (decide (((iG (fun g=>sat t0 g 0) f.kids:Nat):Int)=((f.kids.length:Nat):Int))))) (bD ?_)
  · rw [aQm (by omega),← aJ0]
 refine W_r (bH rfl rfl (aA rfl (R_e ?_)))
 refine cW rfl (fun c7=>?_) fun c7=>?_
 ·
  refine W_r (aU rfl rfl (aL rfl rfl rfl rfl (aJ (sW (fun g=>sat t0 g 0) f.kids 42 ([]) (by simp) (by simp) (fun k h=>ih (nth f.kids k) (Fm.sz_kid h) (hp.2 k h) (Nat.le_trans (Nat.le_of_lt (Fm.sz_kid h)) hz)) (by omega)) rfl (gH rfl rfl (aA rfl (R_e (aN ?_)))))))
  refine y1 _ _ ?_
  refine bB (rVq (V.bool (decide ((0:Int) < ((iG (fun g=>sat t0 g 0) f.kids:Nat):Int))))) (bD ?_)
  · rw [aQn (by omega),← xF]
 refine aB (W_r (bH rfl rfl (aA rfl (R_e ?_))))
 refine aK rfl (fun c8=>?_) fun c8=>?_
 ·
  refine aD ?_
  refine cW rfl (fun c9=>?_) fun c9=>?_
  ·
   refine W_r (aU rfl rfl (aL rfl rfl rfl rfl (dC (i:=1) (rVq (V.sl (List.map cF f.kids))) (rNq 1) (by omega) (bX _) rfl (aH rfl rfl (aJ (ih (nth f.kids 1) (Fm.sz_kid (by omega)) (hp.2 _ (by omega)) (Nat.le_trans (Nat.le_of_lt (Fm.sz_kid (by omega))) hz)) rfl (aA rfl (R_e ?_)))))))
   refine aN (y1 _ _ ?_)
   refine bB (rVq (V.bool (sat t0 (nth f.kids 1) 0))) (bD ?_)
   · rw [aNi hf (by omega)]
  · exact (c9 c8).elim
 refine W_r (bH rfl rfl (aA rfl (R_e ?_)))
 refine cW rfl (fun c10=>?_) fun c10=>?_
 ·
  refine W_r (aU rfl rfl (aL rfl rfl rfl rfl (dC (i:=1) (rVq (V.sl (List.map cF f.kids))) (rNq 1) (by omega) (bX _) rfl (aH rfl rfl (aJ (ih (nth f.kids 1) (Fm.sz_kid (by omega)) (hp.2 _ (by omega)) (Nat.le_trans (Nat.le_of_lt (Fm.sz_kid (by omega))) hz)) rfl (aA rfl (R_e ?_)))))))
  refine aN (y1 _ _ ?_)
  refine bB (rVq (V.bool (sat t0 (nth f.kids 1) 0))) (bD ?_)
  · rw [aNi hf (by omega)]
 refine dA (n1 _ _ (.done (W_r (aA rfl (R_e (aN ?_))))))
 refine bB (rVq (V.bool false)) (bD ?_)
 · rw [aQz hf (by omega) (by omega) (by omega) (by omega) (by omega)]
theorem aF8 (f:Fm) (hf:okF f=true) (hz:f.sz≤4096):aP Tryz.prog 42 [(V.agg [(iV f.op),(iV f.arg),(V.sl (List.map cF f.kids))])] (V.bool (sat t0 f 0)):=by
  have key: ∀ (mm:Nat) (f:Fm),f.sz < mm→okF f=true→f.sz≤4096→aP Tryz.prog 42 [(V.agg [(iV f.op),(iV f.arg),(V.sl (List.map cF f.kids))])] (V.bool (sat t0 f 0)):=by
    intro mm
    induction mm with
    |zero=>intro f hlt; exact absurd hlt (Nat.not_lt_zero _)
    | succ mm ih =>
      intro f hlt hf hz
      exact wY f hf hz fun f2 hlt2=>ih f2 (by omega)
  exact key (f.sz+1) f (Nat.lt_succ_self _) hf hz
theorem mF (f:Fm):aP Tryz.prog 15 [(V.agg [(iV f.op),(iV f.arg),(V.sl (List.map cF f.kids))])] (V.tup [(V.bool (hoB t0 f)),(iV (hoE t0 f))]):=by
 refine pW Tryz.func15 aPd fun hB=>?_
 unfold s15
 dsimp only
 refine W_r (cK (i:=1) (n:=0) (m:=3) (cs:=[(iV f.op),(iV f.arg),(V.sl (List.map cF f.kids))]) rfl (cVq rfl) rfl rfl rfl (aA rfl (aA rfl (R_e (aB (W_r (aL rfl rfl rfl rfl ?_)))))))
 refine aJ (gX f) rfl (aA rfl (R_e (aB (W_r (aA rfl (cM rfl rfl (R_e ?_)))))))
 refine aK rfl (fun c1=>?_) fun c1=>?_
 ·
  have h0:hoE t0 f=cE f:=if_pos c1
  have hb0:hoB t0 f=false:=by unfold hoB; rw [h0,decide_eq_false (by omega)]; rfl
  refine aB (W_r (aA rfl (aA rfl (aA rfl (R_e (aW ?_))))))
  refine eE (rVq (V.bool false)) (rVq (iV (cE f))) (bD ?_) (aF ?_)
  · rw [hb0]
  · omega
 have h1:cE f=0:=by omega
 have h0:hoE t0 f=0:=by unfold hoE; rw [if_neg (by omega),if_neg (by decide),if_neg (by decide)]
 have hb0:hoB t0 f=sat t0 f 0:=by unfold hoB; rw [h0]; rfl
 refine aD (W_r (aL rfl rfl rfl rfl (aJ (aF8 f (eN h1) (iI h1)) rfl (aA rfl (aA rfl (R_e (aN ?_)))))))
 refine eE (rVq (V.bool (sat t0 f 0))) (rVq (iV 0)) (bD ?_) (aF ?_)
 · rw [hb0]
 · omega
def aQp:List SO:=[
 qF 6 0 1,
 ql 7 6,
 sO 8 (.call false 71 [.t 7]),
 sO 9 (.sbin .add (.t 8) (.c (.str [46]))),
 qF 10 1 1,
 ql 11 10,
 sO 12 (.call false 71 [.t 11]),
 sO 13 (.sbin .add (.t 9) (.t 12)),
 sO 14 (.sbin .add (.t 13) (.c (.str [40]))),
 qM 3 14]
def aMF:SC:=.seq (.reg [qP 19 .lss 18 17]) (.seq (.cond (.t 19) (.skip) (.exit 0)) (.seq (.block 1 (.seq (.reg [qA 20 3 16 18,qL 21 3 20,sO 5 (.alloc 24 [.int .i64 0,.int .i64 0,.nilsl]),sN (.store 3 (.t 5) (.t 21))]) (.reg [qM 22 3,qL 23 3 5,sO 24 (.call false 73 [.t 23]),sO 25 (.sbin .add (.t 22) (.t 24)),qM 3 25]))) (.reg [qC 26 .add 18 1,qM 18 26])))
def s73:SF:=⟨29,[.tmp 2],.seq (.reg [sO 1 (.box 24 3 (.t 0)),sO 2 (.mv (.c (.str [])))]) (.seq (.reg aQp) (.seq (.seq (.reg [qF 15 2 1,ql 16 15,qN 17 16,qI 18 0]) (.block 0 (.loop aMF))) (.seq (.reg [qM 27 3,sO 28 (.sbin .add (.t 27) (.c (.str [41]))),qM 2 28]) (.ret))))⟩
theorem aPE:bF Tryz.prog ⟨[51,59,84,90,97,109,153,154,155,160],[],[],[]⟩ Tryz.f73=some s73:=by kernel_rfl
end Go.Proofs.YteehaobohaecmaaGreatDoor
namespace Go.Proofs.YteehaobohaecmaaGreatDoor
open Go Go.Proofs Go.Shelf Go.Lib Go.Sort
theorem aEj {x:Cx} (hx:Inv x) (k:Nat) (os:Array Obj):let y:Cx:={x with w:=grow (x.w.drewN k) os}; Inv y∧Frame x y:=by
  intro y
  have hlt: ∀ b,b < x.w.heap.size→y.w.heap[b]?=x.w.heap[b]?:=fun b hb=>by
    show (x.w.heap++os)[b]?=_
    exact Array.getElem?_append_left hb
  have hsz:x.w.heap.size≤y.w.heap.size:=by
    show _≤(x.w.heap++os).size
    rw [Array.size_append]; omega
  have hf:Frame x y:=by
    refine ⟨rfl,rfl,rfl,hsz,fun b hb _=>hlt b hb,fun _ h=>h,fun _ h=>.inl h,fun id=>⟨Nat.le_refl _,fun h _=>⟨h,rfl,rfl,fun _=>rfl,fun ho=>⟨rfl,?_⟩⟩⟩,fun _ h=>.inl ⟨h,rfl⟩,Nat.le_add_right _ _,fun _ _ _=>rfl⟩
    unfold dB
    rw [hlt _ (hx.lt ho)]
  refine ⟨⟨fun b hb=>Nat.lt_of_lt_of_le (hx.zlt b hb) hsz,hx.zown,fun id ho=>?_,hx.inj,hx.tab_of hf⟩,hf⟩
  obtain ⟨cc,h1,h2,h3,h4⟩:=hx.blk id ho
  exact ⟨cc,by rw [hlt _ (hx.lt ho)]; exact h1,h2,h3,fun r row j v hr hj=>(h4 r row j v hr hj).frame hx hf⟩
theorem aGc {P:Program} {ρ:Go.Shelf.Ren} (L:LaysM.n171 P ρ) (hcf:cZ P (ρ.f 171)) (hT:(ρ.g 17,aPN)∈aKZ) (n:Int) (h0: -9223372036854775808≤n) (h1:n≤9223372036854775807):
    aP P (ρ.f 171) [iV n] (.str (itoa n)):=by
  intro H
  refine ⟨hcf,fun x cs hxH hx hr=>?_⟩
  subst hxH
  obtain ⟨c0,rfl⟩: ∃ c0,cs=[c0]:=by
    have:=hr.1
    match cs with
    |[a]=>exact ⟨a,rfl⟩
    |[]=>simp at this
    |_::_::_=>simp at this
  have r0:R x (iV n) c0:=hr.2 0 _ rfl
  have hc0:c0=.int .i64 n:=by unfold iV at r0; cases r0; rfl
  subst hc0
  have htab : TabIs P x.w "internal/strconv.uint64pow10" .u64 pow10Tab := by
    obtain ⟨_,ty,m,h⟩:=hx.tab _ hT
    unfold TabIs World.var?
    rw [L.m17]
    simp only [Option.bind_some]
    rw [show x.w.heap[ρ.g 17]?=_ from h]
    rfl
  refine (Any.strconv_Itoa L n h0 h1 x.w htab).mono fun e w' h=>?_
  obtain ⟨rfl,k,os,rfl⟩:=h
  obtain ⟨g1,g2⟩:=aEj hx k os
  exact ⟨_,{x with w:=grow (x.w.drewN k) os},rfl,rfl,rfl,g1,.str _,g2⟩
end Go.Proofs.YteehaobohaecmaaGreatDoor
namespace Go.Proofs.YteehaobohaecmaaGreatDoor
open Go Go.Proofs Go.Shelf
def aJY:Go.Shelf.Ren:=⟨fun|129=>131|171=>71|243=>95|246=>116|283=>134|284=>135|285=>136|286=>137|317=>147|318=>148|319=>149|320=>150|337=>158|338=>159|n=>n,fun|0=>0|2=>2|3=>3|4=>4|5=>5|9=>9|20=>20|37=>182|46=>156|51=>175|53=>177|171=>180|173=>183|212=>195|213=>196|232=>205|233=>206|n=>n,fun|17=>0|18=>1|19=>2|n=>n⟩
set_option maxRecDepth 100000 in
theorem aHU:LaysM.n171 Tryz.prog aJY:={
  mixed:=(by kernel_rfl),
  f129:=Tryz.func131.trans (congrArg some (by kernel_rfl)),
  f171:=Tryz.func71.trans (congrArg some (by kernel_rfl)),
  f243:=Tryz.func95.trans (congrArg some (by kernel_rfl)),
  f246:=Tryz.func116.trans (congrArg some (by kernel_rfl)),
  f283:=Tryz.func134.trans (congrArg some (by kernel_rfl)),
  f284:=Tryz.func135.trans (congrArg some (by kernel_rfl)),
  f285:=Tryz.func136.trans (congrArg some (by kernel_rfl)),
  f286:=Tryz.func137.trans (congrArg some (by kernel_rfl)),
  f317:=Tryz.func147.trans (congrArg some (by kernel_rfl)),
  f318:=Tryz.func148.trans (congrArg some (by kernel_rfl)),
  f319:=Tryz.func149.trans (congrArg some (by kernel_rfl)),
  f320:=Tryz.func150.trans (congrArg some (by kernel_rfl)),
  f337:=Tryz.func158.trans (congrArg some (by kernel_rfl)),
  f338:=Tryz.func159.trans (congrArg some (by kernel_rfl)),
  t0:=Tryz.underlying0,
  a0:=Tryz.isAgg0,
  z0:=Tryz.sizeOf0,
  v0:=Tryz.zeroValue0,
  t2:=Tryz.underlying2,
  a2:=Tryz.isAgg2,
  z2:=Tryz.sizeOf2,
  v2:=Tryz.zeroValue2,
  t3:=Tryz.underlying3,
  a3:=Tryz.isAgg3,
  z3:=Tryz.sizeOf3,
  v3:=Tryz.zeroValue3,
  t4:=Tryz.underlying4,
  a4:=Tryz.isAgg4,
  z4:=Tryz.sizeOf4,
  v4:=Tryz.zeroValue4,
  t5:=Tryz.underlying5,
  a5:=Tryz.isAgg5,
  z5:=Tryz.sizeOf5,
  v5:=Tryz.zeroValue5,
  t9:=Tryz.underlying9,
  a9:=Tryz.isAgg9,
  z9:=Tryz.sizeOf9,
  v9:=Tryz.zeroValue9,
  t20:=Tryz.underlying20,
  a20:=Tryz.isAgg20,
  z20:=Tryz.sizeOf20,
  v20:=Tryz.zeroValue20,
  t37:=Tryz.underlying182,
  a37:=Tryz.isAgg182,
  z37:=Tryz.sizeOf182,
  v37:=Tryz.zeroValue182,
  t46:=Tryz.underlying156,
  a46:=Tryz.isAgg156,
  z46:=Tryz.sizeOf156,
  v46:=Tryz.zeroValue156,
  t51:=Tryz.underlying175,
  a51:=Tryz.isAgg175,
  z51:=Tryz.sizeOf175,
  v51:=Tryz.zeroValue175,
  t53:=Tryz.underlying177,
  a53:=Tryz.isAgg177,
  z53:=Tryz.sizeOf177,
  v53:=Tryz.zeroValue177,
  t171:=Tryz.underlying180,
  a171:=Tryz.isAgg180,
  z171:=Tryz.sizeOf180,
  v171:=Tryz.zeroValue180,
  t173:=Tryz.underlying183,
  a173:=Tryz.isAgg183,
  z173:=Tryz.sizeOf183,
  v173:=Tryz.zeroValue183,
  t212:=Tryz.underlying195,
  a212:=Tryz.isAgg195,
  z212:=Tryz.sizeOf195,
  v212:=Tryz.zeroValue195,
  t213:=Tryz.underlying196,
  a213:=Tryz.isAgg196,
  z213:=Tryz.sizeOf196,
  t232:=Tryz.underlying205,
  a232:=Tryz.isAgg205,
  z232:=Tryz.sizeOf205,
  v232:=Tryz.zeroValue205,
  t233:=Tryz.underlying206,
  a233:=Tryz.isAgg206,
  z233:=Tryz.sizeOf206,
  v233:=Tryz.zeroValue206,
  g17:=(by kernel_rfl),
  g18:=(by kernel_rfl),
  g19:=(by kernel_rfl),
  i0:=(by kernel_rfl),
  i2:=(by kernel_rfl),
  i3:=(by kernel_rfl),
  i4:=(by kernel_rfl),
  i5:=(by kernel_rfl),
  i9:=(by kernel_rfl),
  i20:=(by kernel_rfl),
  i37:=(by kernel_rfl),
  i46:=(by kernel_rfl),
  i51:=(by kernel_rfl),
  i53:=(by kernel_rfl),
  i171:=(by kernel_rfl),
  i173:=(by kernel_rfl),
  i212:=(by kernel_rfl),
  i232:=(by kernel_rfl),
  i233:=(by kernel_rfl),
  m17:=(by kernel_rfl),
  m18:=(by kernel_rfl),
  m19:=(by kernel_rfl)}
theorem aF2:cZ Tryz.prog 71:=⟨_,Tryz.func71,by kernel_rfl,by kernel_rfl⟩
theorem uN (n:Int) (h0: -9223372036854775808≤n) (h1:n≤9223372036854775807):aP Tryz.prog 71 [iV n] (.str (Lib.itoa n)):=aGc aHU aF2 (.head _) n h0 h1
end Go.Proofs.YteehaobohaecmaaGreatDoor
namespace Go.Proofs.YteehaobohaecmaaGreatDoor
open Go Go.Proofs
theorem vJ (f:Fm) (hok:okF f=true) (hz:f.sz≤4096) (ih: ∀ (g:Fm),g.sz < f.sz→okF g=true→g.sz≤4096→aP Tryz.prog 73 [(V.agg [(iV g.op),(iV g.arg),(V.sl (List.map cF g.kids))])] (V.str (kyF g))):aP Tryz.prog 73 [(V.agg [(iV f.op),(iV f.arg),(V.sl (List.map cF f.kids))])] (V.str (kyF f)):=by
 refine pW Tryz.func73 aPE fun hB=>?_
 unfold s73
 dsimp only
 have hp:=bJ hok
 have hr:=cP hp.1
 have hln:=f.sz_len
 have hi1:=qX (n:=f.op) (by omega) (by omega)
 have hi2:=qX (n:=f.arg) (by omega) (by omega)
 refine W_r (cK (i:=1) (n:=0) (m:=3) (cs:=[(iV f.op),(iV f.arg),(V.sl (List.map cF f.kids))]) rfl (cVq rfl) rfl rfl rfl (aA rfl (R_e (W_r (aU rfl rfl (aL rfl rfl rfl rfl (aJ (uN f.op (by omega) (by omega)) rfl ?_)))))))
 refine yH (s:=(Lib.itoa f.op)) (t:=([46])) rfl rfl (by (simp only [List.length_append,List.length_cons,List.length_nil]; omega)) (aU rfl rfl (aL rfl rfl rfl rfl (aJ (uN f.arg (by omega) (by omega)) rfl (yH (s:=((Lib.itoa f.op)++[46])) (t:=(Lib.itoa f.arg)) rfl rfl (by (simp only [List.length_append,List.length_cons,List.length_nil]; omega)) (yH (s:=((Lib.itoa f.op)++[46]++(Lib.itoa f.arg))) (t:=([40])) rfl rfl (by (simp only [List.length_append,List.length_cons,List.length_nil]; omega)) (aA rfl (R_e ?_)))))))
 refine aB (W_r (aU rfl rfl (aL rfl rfl rfl rfl (bM rfl (aA rfl (R_e (aE fun Q1 n1 x1 y1 z1=>?_)))))))
 refine cQ (fun mm T H=> ∃ (k:Nat) (v5:Nat),mm=f.kids.length - k∧T 3=(V.str (Lib.itoa f.op++[46]++Lib.itoa f.arg++[40]++kyL (f.kids.take k)))∧T 16=(V.sl (List.map cF f.kids))∧T 17=(iV ((f.kids.length:Nat):Int))∧T 18=(iV ((k:Nat):Int))∧H 1=(bk 1 24 3 [[(iV f.op),(iV f.arg),(V.sl (List.map cF f.kids))]])∧(H 5).ver=v5∧(k≤f.kids.length)) ?_ ?_
 ·
  refine ⟨_,0,0,rfl,(eTq (rVq (V.str ((Lib.itoa f.op)++[46]++(Lib.itoa f.arg)++[40]))) (by simp [kyL])),rfl,rfl,(eTq (rVq (iV 0)) rfl),rfl,(cVq rfl),?_⟩
  · omega
 intro mm T H ⟨k,v5,hmm,t3,t16,t17,t18,h1,h5,hk⟩ Q2 p12 p22 p32
 unfold aMF
 have hq:=aPr hok hz k
 have hq2:k < f.kids.length→(kyF (nth f.kids k)).length≤131072:=fun h=>aFg (hp.2 k h) (Nat.le_trans (Nat.le_of_lt (Fm.sz_kid h)) hz)
 refine W_r (bW t18 t17 (R_e ?_))
 refine aK rfl (fun c3=>?_) fun c3=>?_
 ·
  refine aD (aE fun Q4 n4 x4 y4 z4=>(W_r (dC (i:=k) t16 t18 (by omega) (bX _) rfl (aH rfl rfl (bE (i:=5) (n:=v5) (m:=3) rfl h5 rfl (bP rfl rfl rfl rfl rfl rfl rfl rfl rfl (R_e ?_)))))))
  refine W_t (aA t3 (aL rfl rfl rfl rfl (aJ (ih (nth f.kids k) (Fm.sz_kid (by omega)) (hp.2 _ (by omega)) (Nat.le_trans (Nat.le_of_lt (Fm.sz_kid (by omega))) hz)) rfl (yH (s:=(Lib.itoa f.op++[46]++Lib.itoa f.arg++[40]++kyL (f.kids.take k))) (t:=(kyF (nth f.kids k))) rfl rfl (by (simp only [List.length_append,List.length_cons,List.length_nil]; omega)) (aA rfl (R_e (n4 _ _ ?_)))))))
  refine .done (W_t (bL t18 (rNq 1) (by omega) (aA rfl (R_e ?_))))
  refine p12 _ _ _ ?_ ⟨(k+1),(v5+1),rfl,(eTq (rVq (V.str (Lib.itoa f.op++[46]++Lib.itoa f.arg++[40]++kyL (f.kids.take k)++(kyF (nth f.kids k))))) (by (rw [aIH (by omega),← List.append_assoc]; done))),t16,t17,(eTq (rNq (k+1)) (by rfl)),h1,(cVq rfl),?_⟩
  · omega
  · omega
 refine aX (p32 _ _ _ (x1 _ _ (.done (W_r (aA t3 (yH (s:=(Lib.itoa f.op++[46]++Lib.itoa f.arg++[40]++kyL (f.kids.take k))) (t:=([41])) rfl rfl (by (simp only [List.length_append,List.length_cons,List.length_nil]; omega)) (aA rfl ?_)))))))
 refine R_e (aN ?_)
 refine bB (rVq (V.str (Lib.itoa f.op++[46]++Lib.itoa f.arg++[40]++kyL (f.kids.take k)++[41]))) (cA (by simp) ?_)
 · rw [yY,show k=f.kids.length by omega,List.take_length]; simp [List.append_assoc]
theorem mK (f:Fm) (hok:okF f=true) (hz:f.sz≤4096):aP Tryz.prog 73 [(V.agg [(iV f.op),(iV f.arg),(V.sl (List.map cF f.kids))])] (V.str (kyF f)):=by
  have key: ∀ (mm:Nat) (f:Fm),f.sz < mm→okF f=true→f.sz≤4096→aP Tryz.prog 73 [(V.agg [(iV f.op),(iV f.arg),(V.sl (List.map cF f.kids))])] (V.str (kyF f)):=by
    intro mm
    induction mm with
    |zero=>intro f hlt; exact absurd hlt (Nat.not_lt_zero _)
    | succ mm ih =>
      intro f hlt hok hz
      exact vJ f hok hz fun f2 hlt2=>ih f2 (by omega)
  exact key (f.sz+1) f (Nat.lt_succ_self _) hok hz
theorem aDN (l:List Pl) (q:Pl) (ls:Int) (lk:List UInt8) (v11 vm v8 u3 u6:Nat) (hn:mM l q) (Hi:aI) (h11:Hi 11=(bk v11 92 4 [[(V.mm 43 vm),(V.ms 815 v8 0 l.length),(iV ls),(V.str lk)]])) (hm:Hi 43=(bz vm dV 2 (dZ (List.map plK l)))) (h8:Hi 815=(bz v8 95 5 (List.map cPl l))) (h3:(Hi 1003).ver=u3) (h6:(Hi 1006).ver=u6∧(Hi 1006).live=false) (hl:l.length≤4096) (hq:cE q.f=0) (hk:ls=q.s→lk=kyF q.f→jN l q.s q.f=true):dW Tryz.prog 51 [(V.mp 11 v11 0 0),(V.agg [(iV q.s),(iV q.f.op),(iV q.f.arg),(V.sl (List.map cF q.f.kids)),(aQ q.w)])] Hi (V.tup [(V.bool ((fnd l q).1)),(iV ((fnd l q).2))]) (upd (upd (upd (upd (upd Hi 1003 (⟨u3+1,false,false,0,0,[]⟩:Blk)) 1006 (⟨u6+1,false,false,0,0,[]⟩:Blk)) 43 (bz vm dV 2 (dZ (List.map plK (l++[q]))))) 815 (bz (v8+1) 95 5 (List.map cPl (l++[q])))) 11 (bk v11 92 4 [[(V.mm 43 vm),(V.ms 815 (v8+1) 0 ((l++[q]).length)),(iV q.s),(V.str (kyF q.f))]])):=by
 refine eW (k0:=1000) Tryz.func51 aBe fun hB=>?_
 unfold s51
 dsimp only
 refine W_r (cK (i:=1003) (n:=u3) (m:=5) (cs:=[(iV q.s),(iV q.f.op),(iV q.f.arg),(V.sl (List.map cF q.f.kids)),(aQ q.w)]) (by rfl) h3 rfl rfl rfl (aA rfl (aA rfl (R_e (W_d (by exact (yQ h6.2 xX)) (aU rfl rfl (aL rfl rfl rfl rfl ?_)))))))
 refine aU rfl rfl (aL rfl rfl rfl rfl (aJ (mK q.f (eN hq) (iI hq)) rfl (bI rfl rfl (bE (i:=1006) (n:=u6) (m:=2) (by rfl) h6.1 rfl (bP rfl rfl rfl rfl rfl rfl rfl rfl rfl (R_e (aB ?_)))))))
 refine W_r (aL rfl rfl rfl rfl (aA rfl (bK rfl h11 oB (aU rfl h11 (aL rfl h11 rfl rfl (aAS rfl rfl (aA rfl ?_)))))))
 refine aS 7 (fun T H=>T 0=(V.mp 11 v11 0 0)∧T 3=(V.mp 1003 (u3+1) 0 0)∧T 6=(V.mp 1006 (u6+1) 0 0)∧T 28=(V.bool (decide (q.s=ls∧(kyF q.f)=lk)||(decide ((q.s,kyF q.f)∈List.map plK l))))∧(∀ j,j∉[1003,1006,43,815,11]→H j=Hi j)∧H 11=(bk v11 92 4 [[(V.mm 43 vm),(V.ms 815 v8 0 l.length),(iV ls),(V.str lk)]])∧H 43=(bz vm dV 2 (dZ (List.map plK l)))∧H 815=(bz v8 95 5 (List.map cPl l))∧H 1003=(bk (u3+1) 95 5 [[(iV q.s),(iV q.f.op),(iV q.f.arg),(V.sl (List.map cF q.f.kids)),(aQ q.w)]])∧H 1006=(bk (u6+1) 90 2 [[(iV q.s),(V.str (kyF q.f))]])∧True) ?_ ?_
 ·
  by_cases g1:q.s=ls∧(kyF q.f)=lk
  ·
   refine G_n (edT g1 rfl) (G_n (edT g1 rfl) (G_n (edT g1 rfl) (G_n (edT g1 rfl) (G_n (edT g1 rfl) (G_n (edT g1 rfl) (aR (edT g1 rfl) rfl ?_))))))
   exact ⟨rfl,rfl,rfl,(jI g1),(bN (bN (bN (fun _ _=>rfl) (by decide)) (by decide)) (by decide)),h11,hm,h8,rfl,rfl,trivial⟩
  ·
   refine aC (edF g1 rfl) (aA rfl (aC (edF g1 rfl) (bK rfl h11 oB (aC (edF g1 rfl) (aU rfl h11 (aC (edF g1 rfl) (aL rfl h11 rfl rfl ?_)))))))
   refine aC (edF g1 rfl) (aL rfl rfl rfl rfl (aC (edF g1 rfl) (rX (z:=(V.bool false)) (u:=(V.bool (decide ((q.s,kyF q.f)∈List.map plK l)))) (f:=(decide ((q.s,kyF q.f)∈List.map plK l))) (rVq (V.mm 43 vm)) (rVq (V.agg [(iV q.s),(V.str (kyF q.f))])) hm (aEK (k:=(q.s,kyF q.f))) (aT (edF g1 rfl) rfl ?_))))
   exact ⟨rfl,rfl,rfl,(jF g1),(bN (bN (bN (fun _ _=>rfl) (by decide)) (by decide)) (by decide)),h11,hm,h8,rfl,rfl,trivial⟩
 intro T H ⟨t0,t3,t6,t28,hF,h11,h43,h815,h1003,h1006,_⟩
 refine R_e ?_
 refine cO t28 (fun c2=>?_) (fun c2=>?_)
 · exfalso; exact hn (.inl (aAP (q:=q) hk c2))
 obtain ⟨i0,hnew⟩:=aAQ (q:=q) c2
 refine aD (W_r (aU t3 h1003 (aL rfl h1003 rfl rfl (aJ (mF q.f) rfl (aA rfl (bG rfl rfl (bG rfl rfl ?_)))))))
 refine aA rfl (aA rfl (R_e (aB (W_r (aA rfl (cM rfl rfl (aA rfl ?_)))))))
 refine aS 3 (fun T H=>T 0=(V.mp 11 v11 0 0)∧T 3=(V.mp 1003 (u3+1) 0 0)∧T 6=(V.mp 1006 (u6+1) 0 0)∧T 8=(iV (enE q.f))∧T 40=(V.bool (decide ((enE q.f)≠(0:Int))||(!enB q.f)))∧(∀ j,j∉[1003,1006,43,815,11]→H j=Hi j)∧H 11=(bk v11 92 4 [[(V.mm 43 vm),(V.ms 815 v8 0 l.length),(iV ls),(V.str lk)]])∧H 43=(bz vm dV 2 (dZ (List.map plK l)))∧H 815=(bz v8 95 5 (List.map cPl l))∧H 1003=(bk (u3+1) 95 5 [[(iV q.s),(iV q.f.op),(iV q.f.arg),(V.sl (List.map cF q.f.kids)),(aQ q.w)]])∧H 1006=(bk (u6+1) 90 2 [[(iV q.s),(V.str (kyF q.f))]])∧True) ?_ ?_
 ·
  by_cases g3:(enE q.f)≠(0:Int)
  ·
   refine G_n (edT g3 rfl) (G_n (edT g3 rfl) (aR (edT g3 rfl) rfl ?_))
   exact ⟨t0,t3,t6,rfl,(jI g3),hF,h11,h43,h815,h1003,h1006,trivial⟩
  ·
   refine aC (edF g3 rfl) (aA rfl (aC (edF g3 rfl) (gA rfl (aT (edF g3 rfl) rfl ?_))))
   exact ⟨t0,t3,t6,rfl,(jF g3),hF,h11,h43,h815,h1003,h1006,trivial⟩
 intro T H ⟨t0,t3,t6,t8,t40,hF,h11,h43,h815,h1003,h1006,_⟩
 refine R_e ?_
 refine cO t40 (fun c4=>?_) (fun c4=>?_)
 · exfalso; exact hn (.inr (by rcases (show enE q.f≠0∨enB q.f=false by simpa using c4) with e|e; exact .inl e; exact .inr (.inl e)))
 have i2: ¬(enE q.f≠0∨enB q.f=false):=by simpa using c4
 refine aD (aB (W_r (aA t0 (bK rfl h11 oB (aU rfl h11 (aL rfl h11 rfl rfl (gJ rfl h815 (by simp) ?_)))))))
 refine bH rfl rfl (R_e ?_)
 refine aK rfl (fun c5=>?_) fun c5=>?_
 · exfalso; exact hn (.inr (.inr (.inr (by omega))))
 refine aD (W_r (aA t0 (bK rfl h11 oB (aU rfl h11 (aL rfl h11 rfl rfl (aL t6 h1006 rfl rfl (aKa (B':=(bz vm dV 2 (dZ (List.map plK (l++[q]))))) (rVq (V.mm 43 vm)) (rVq (V.agg [(iV q.s),(V.str (kyF q.f))])) (rVq (V.bool true)) h43 ((aQN hnew).trans (by rw [List.map_append]; rfl)) ?_)))))))
 refine R_e (W_r (aA t0 (aL t6 h1006 rfl rfl (bK rfl h11 oB (aU rfl h11 (bP rfl rfl rfl h11 rfl rfl rfl rfl rfl (R_e ?_)))))))
 refine W_r (aA t0 (aA t0 (bK rfl rfl oB (aU rfl rfl (aL rfl rfl rfl rfl (aL t3 h1003 rfl rfl (bC rfl rfl ?_)))))))
 refine eH (l:=l) (f:=cPl) (x:=q) (rVq (V.ms 815 v8 0 l.length)) h815 (by rfl) (rVq (V.sl [[(iV q.s),(iV q.f.op),(iV q.f.arg),(V.sl (List.map cF q.f.kids)),(aQ q.w)]])) rfl rfl (by omega) (by omega) (bK rfl rfl oB (aU rfl rfl (bP rfl rfl rfl rfl rfl rfl rfl rfl rfl (R_e (W_r (aA rfl (aA rfl ?_)))))))
 refine R_e (aN (dQ (R:=fun T H=>T 4=(V.bool false)∧T 5=(iV 0)∧(∀ j,j∉[1003,1006,43,815,11]→H j=Hi j)∧H 11=(bk v11 92 4 [[(V.mm 43 vm),(V.ms 815 (v8+1) 0 (l.length+1)),(iV q.s),(V.str (kyF q.f))]])∧H 43=(bz vm dV 2 (dZ (List.map plK (l++[q]))))∧H 815=(bz (v8+1) 95 5 (List.map cPl (l++[q])))∧H 1003=(bk (u3+1) 95 5 [[(iV q.s),(iV q.f.op),(iV q.f.arg),(V.sl (List.map cF q.f.kids)),(aQ q.w)]])∧H 1006=(bk (u6+1) 90 2 [[(iV q.s),(V.str (kyF q.f))]])∧True) ⟨(rVq (V.bool false)),(rVq (iV 0)),(bN (bN (bN (bN hF (by decide)) (by decide)) (by decide)) (by decide)),rfl,rfl,rfl,h1003,h1006,trivial⟩ ?_))
 intro T H ⟨t4,t5,hF,h11,h43,h815,h1003,h1006,_⟩
 have d:=(eR hn).1
 have fh:=cX.fin (cX.put (B:=(bk v11 92 4 [[(V.mm 43 vm),(V.ms 815 (v8+1) 0 ((l++[q]).length)),(iV q.s),(V.str (kyF q.f))]])) (cX.put (cX.put (cX.putv (n:=(u6+1)) (B:=(⟨u6+1,false,false,0,0,[]⟩:Blk)) (cX.putv (n:=(u3+1)) (B:=(⟨u3+1,false,false,0,0,[]⟩:Blk)) (cX.start hF) (cVq h1003) (by show _≤u3+1; omega) rfl) (cVq h1006) (by show _≤u6+1; omega) rfl) h43 (kL.eq rfl)) h815 (kL.eq rfl)) h11 (kL.eq (by simp)))
 exact nB t4 t5 fh (cV.trans_eq (cV.same fh _) (by (rw [d]; done))) (cV.trans_eq (cV.same fh _) (by (rw [d]; done)))
theorem aEq (l:List Pl) (q:Pl) (ls:Int) (lk:List UInt8) (v11 vm v8 u3 u6:Nat) (hn: ¬mM l q) (Hi:aI) (h11:Hi 11=(bk v11 92 4 [[(V.mm 43 vm),(V.ms 815 v8 0 l.length),(iV ls),(V.str lk)]])) (hm:Hi 43=(bz vm dV 2 (dZ (List.map plK l)))) (h8:Hi 815=(bz v8 95 5 (List.map cPl l))) (h3:(Hi 1003).ver=u3) (h6:(Hi 1006).ver=u6∧(Hi 1006).live=false) (hl:l.length≤4096) (hq:cE q.f=0) (hk:ls=q.s→lk=kyF q.f→jN l q.s q.f=true):dW Tryz.prog 51 [(V.mp 11 v11 0 0),(V.agg [(iV q.s),(iV q.f.op),(iV q.f.arg),(V.sl (List.map cF q.f.kids)),(aQ q.w)])] Hi (V.tup [(V.bool ((fnd l q).1)),(iV ((fnd l q).2))]) (upd (upd Hi 1003 (⟨u3+1,false,false,0,0,[]⟩:Blk)) 1006 (⟨u6+1,false,false,0,0,[]⟩:Blk)):=by
 refine eW (k0:=1000) Tryz.func51 aBe fun hB=>?_
 unfold s51
 dsimp only
 refine W_r (cK (i:=1003) (n:=u3) (m:=5) (cs:=[(iV q.s),(iV q.f.op),(iV q.f.arg),(V.sl (List.map cF q.f.kids)),(aQ q.w)]) (by rfl) h3 rfl rfl rfl (aA rfl (aA rfl (R_e (W_d (by exact (yQ h6.2 xX)) (aU rfl rfl (aL rfl rfl rfl rfl ?_)))))))
 refine aU rfl rfl (aL rfl rfl rfl rfl (aJ (mK q.f (eN hq) (iI hq)) rfl (bI rfl rfl (bE (i:=1006) (n:=u6) (m:=2) (by rfl) h6.1 rfl (bP rfl rfl rfl rfl rfl rfl rfl rfl rfl (R_e (aB ?_)))))))
 refine W_r (aL rfl rfl rfl rfl (aA rfl (bK rfl h11 oB (aU rfl h11 (aL rfl h11 rfl rfl (aAS rfl rfl (aA rfl ?_)))))))
 refine aS 7 (fun T H=>T 0=(V.mp 11 v11 0 0)∧T 3=(V.mp 1003 (u3+1) 0 0)∧T 6=(V.mp 1006 (u6+1) 0 0)∧T 28=(V.bool (decide (q.s=ls∧(kyF q.f)=lk)||(decide ((q.s,kyF q.f)∈List.map plK l))))∧(∀ j,j∉[1003,1006]→H j=Hi j)∧H 11=(bk v11 92 4 [[(V.mm 43 vm),(V.ms 815 v8 0 l.length),(iV ls),(V.str lk)]])∧H 43=(bz vm dV 2 (dZ (List.map plK l)))∧H 815=(bz v8 95 5 (List.map cPl l))∧H 1003=(bk (u3+1) 95 5 [[(iV q.s),(iV q.f.op),(iV q.f.arg),(V.sl (List.map cF q.f.kids)),(aQ q.w)]])∧H 1006=(bk (u6+1) 90 2 [[(iV q.s),(V.str (kyF q.f))]])∧True) ?_ ?_
 ·
  by_cases g1:q.s=ls∧(kyF q.f)=lk
  ·
   refine G_n (edT g1 rfl) (G_n (edT g1 rfl) (G_n (edT g1 rfl) (G_n (edT g1 rfl) (G_n (edT g1 rfl) (G_n (edT g1 rfl) (aR (edT g1 rfl) rfl ?_))))))
   exact ⟨rfl,rfl,rfl,(jI g1),(bN (bN (bN (fun _ _=>rfl) (by decide)) (by decide)) (by decide)),h11,hm,h8,rfl,rfl,trivial⟩
  ·
   refine aC (edF g1 rfl) (aA rfl (aC (edF g1 rfl) (bK rfl h11 oB (aC (edF g1 rfl) (aU rfl h11 (aC (edF g1 rfl) (aL rfl h11 rfl rfl ?_)))))))
   refine aC (edF g1 rfl) (aL rfl rfl rfl rfl (aC (edF g1 rfl) (rX (z:=(V.bool false)) (u:=(V.bool (decide ((q.s,kyF q.f)∈List.map plK l)))) (f:=(decide ((q.s,kyF q.f)∈List.map plK l))) (rVq (V.mm 43 vm)) (rVq (V.agg [(iV q.s),(V.str (kyF q.f))])) hm (aEK (k:=(q.s,kyF q.f))) (aT (edF g1 rfl) rfl ?_))))
   exact ⟨rfl,rfl,rfl,(jF g1),(bN (bN (bN (fun _ _=>rfl) (by decide)) (by decide)) (by decide)),h11,hm,h8,rfl,rfl,trivial⟩
 intro T H ⟨t0,t3,t6,t28,hF,h11,h43,h815,h1003,h1006,_⟩
 refine R_e ?_
 refine cO t28 (fun c2=>?_) (fun c2=>?_)
 ·
  have i1:=aAP (q:=q) hk c2
  refine aB (W_r (aA rfl (aA rfl (R_e (aW (dQ (R:=fun T H=>T 4=(V.bool false)∧T 5=(iV 0)∧(∀ j,j∉[1003,1006]→H j=Hi j)∧H 11=(bk v11 92 4 [[(V.mm 43 vm),(V.ms 815 v8 0 l.length),(iV ls),(V.str lk)]])∧H 43=(bz vm dV 2 (dZ (List.map plK l)))∧H 815=(bz v8 95 5 (List.map cPl l))∧H 1003=(bk (u3+1) 95 5 [[(iV q.s),(iV q.f.op),(iV q.f.arg),(V.sl (List.map cF q.f.kids)),(aQ q.w)]])∧H 1006=(bk (u6+1) 90 2 [[(iV q.s),(V.str (kyF q.f))]])∧True) ⟨(rVq (V.bool false)),(rVq (iV 0)),hF,h11,h43,h815,h1003,h1006,trivial⟩ ?_))))))
  intro T H ⟨t4,t5,hF,h11,h43,h815,h1003,h1006,_⟩
  have d:=aI5 (q:=q) i1
  have fh:=cX.fin (cX.putv (n:=(u6+1)) (B:=(⟨u6+1,false,false,0,0,[]⟩:Blk)) (cX.putv (n:=(u3+1)) (B:=(⟨u3+1,false,false,0,0,[]⟩:Blk)) (cX.start hF) (cVq h1003) (by show _≤u3+1; omega) rfl) (cVq h1006) (by show _≤u6+1; omega) rfl)
  exact nB t4 t5 fh (cV.trans_eq (cV.same fh _) (by (rw [d]; done))) (cV.trans_eq (cV.same fh _) (by (rw [d]; done)))
 obtain ⟨i0,hnew⟩:=aAQ (q:=q) c2
 refine aD (W_r (aU t3 h1003 (aL rfl h1003 rfl rfl (aJ (mF q.f) rfl (aA rfl (bG rfl rfl (bG rfl rfl ?_)))))))
 refine aA rfl (aA rfl (R_e (aB (W_r (aA rfl (cM rfl rfl (aA rfl ?_)))))))
 refine aS 3 (fun T H=>T 0=(V.mp 11 v11 0 0)∧T 3=(V.mp 1003 (u3+1) 0 0)∧T 6=(V.mp 1006 (u6+1) 0 0)∧T 8=(iV (enE q.f))∧T 40=(V.bool (decide ((enE q.f)≠(0:Int))||(!enB q.f)))∧(∀ j,j∉[1003,1006]→H j=Hi j)∧H 11=(bk v11 92 4 [[(V.mm 43 vm),(V.ms 815 v8 0 l.length),(iV ls),(V.str lk)]])∧H 43=(bz vm dV 2 (dZ (List.map plK l)))∧H 815=(bz v8 95 5 (List.map cPl l))∧H 1003=(bk (u3+1) 95 5 [[(iV q.s),(iV q.f.op),(iV q.f.arg),(V.sl (List.map cF q.f.kids)),(aQ q.w)]])∧H 1006=(bk (u6+1) 90 2 [[(iV q.s),(V.str (kyF q.f))]])∧True) ?_ ?_
 ·
  by_cases g3:(enE q.f)≠(0:Int)
  ·
   refine G_n (edT g3 rfl) (G_n (edT g3 rfl) (aR (edT g3 rfl) rfl ?_))
   exact ⟨t0,t3,t6,rfl,(jI g3),hF,h11,h43,h815,h1003,h1006,trivial⟩
  ·
   refine aC (edF g3 rfl) (aA rfl (aC (edF g3 rfl) (gA rfl (aT (edF g3 rfl) rfl ?_))))
   exact ⟨t0,t3,t6,rfl,(jF g3),hF,h11,h43,h815,h1003,h1006,trivial⟩
 intro T H ⟨t0,t3,t6,t8,t40,hF,h11,h43,h815,h1003,h1006,_⟩
 refine R_e ?_
 refine cO t40 (fun c4=>?_) (fun c4=>?_)
 ·
  have i2:enE q.f≠0∨enB q.f=false:=by simpa using c4
  refine aB (W_r (aA t8 (bH rfl rfl (aA t8 (aA rfl (aA rfl (R_e ?_)))))))
  refine aW (dQ (R:=fun T H=>T 4=(V.bool (decide ((enE q.f)=(0:Int))))∧T 5=(iV (enE q.f))∧(∀ j,j∉[1003,1006]→H j=Hi j)∧H 11=(bk v11 92 4 [[(V.mm 43 vm),(V.ms 815 v8 0 l.length),(iV ls),(V.str lk)]])∧H 43=(bz vm dV 2 (dZ (List.map plK l)))∧H 815=(bz v8 95 5 (List.map cPl l))∧H 1003=(bk (u3+1) 95 5 [[(iV q.s),(iV q.f.op),(iV q.f.arg),(V.sl (List.map cF q.f.kids)),(aQ q.w)]])∧H 1006=(bk (u6+1) 90 2 [[(iV q.s),(V.str (kyF q.f))]])∧True) ⟨(rVq (V.bool (decide ((enE q.f)=(0:Int))))),(rVq (iV (enE q.f))),hF,h11,h43,h815,h1003,h1006,trivial⟩ ?_)
  intro T H ⟨t4,t5,hF,h11,h43,h815,h1003,h1006,_⟩
  have d:=aAz (q:=q) i0 i2
  have fh:=cX.fin (cX.putv (n:=(u6+1)) (B:=(⟨u6+1,false,false,0,0,[]⟩:Blk)) (cX.putv (n:=(u3+1)) (B:=(⟨u3+1,false,false,0,0,[]⟩:Blk)) (cX.start hF) (cVq h1003) (by show _≤u3+1; omega) rfl) (cVq h1006) (by show _≤u6+1; omega) rfl)
  exact nB t4 t5 fh (cV.trans_eq (cV.same fh _) (by (rw [d]; done))) (cV.trans_eq (cV.same fh _) (by (rw [d]; done)))
 have i2: ¬(enE q.f≠0∨enB q.f=false):=by simpa using c4
 refine aD (aB (W_r (aA t0 (bK rfl h11 oB (aU rfl h11 (aL rfl h11 rfl rfl (gJ rfl h815 (by simp) ?_)))))))
 refine bH rfl rfl (R_e ?_)
 refine aK rfl (fun c5=>?_) fun c5=>?_
 ·
  have i3:l.length=4096:=by omega
  refine aB (W_r (aA rfl (aA rfl (R_e (aW (dQ (R:=fun T H=>T 4=(V.bool false)∧T 5=(iV 11)∧(∀ j,j∉[1003,1006]→H j=Hi j)∧H 11=(bk v11 92 4 [[(V.mm 43 vm),(V.ms 815 v8 0 l.length),(iV ls),(V.str lk)]])∧H 43=(bz vm dV 2 (dZ (List.map plK l)))∧H 815=(bz v8 95 5 (List.map cPl l))∧H 1003=(bk (u3+1) 95 5 [[(iV q.s),(iV q.f.op),(iV q.f.arg),(V.sl (List.map cF q.f.kids)),(aQ q.w)]])∧H 1006=(bk (u6+1) 90 2 [[(iV q.s),(V.str (kyF q.f))]])∧True) ⟨(rVq (V.bool false)),(rVq (iV 11)),hF,h11,h43,h815,h1003,h1006,trivial⟩ ?_))))))
  intro T H ⟨t4,t5,hF,h11,h43,h815,h1003,h1006,_⟩
  have d:=aEQ (q:=q) i0 i2 i3
  have fh:=cX.fin (cX.putv (n:=(u6+1)) (B:=(⟨u6+1,false,false,0,0,[]⟩:Blk)) (cX.putv (n:=(u3+1)) (B:=(⟨u3+1,false,false,0,0,[]⟩:Blk)) (cX.start hF) (cVq h1003) (by show _≤u3+1; omega) rfl) (cVq h1006) (by show _≤u6+1; omega) rfl)
  exact nB t4 t5 fh (cV.trans_eq (cV.same fh _) (by (rw [d]; done))) (cV.trans_eq (cV.same fh _) (by (rw [d]; done)))
 · exfalso; exact hn (aAm (q:=q) i0 i2 (by omega))
theorem aCb (l:List Pl) (qs:Int) (qf:Fm) (ls:Int) (lk:List UInt8) (v11 vm v8 u3 u6:Nat) (hn:mM l (⟨qs,qf,[]⟩:Pl)) (Hi:aI) (h11:Hi 11=(bk v11 92 4 [[(V.mm 43 vm),(V.ms 815 v8 0 l.length),(iV ls),(V.str lk)]])) (hm:Hi 43=(bz vm dV 2 (dZ (List.map plK l)))) (h8:Hi 815=(bz v8 95 5 (List.map cPl l))) (h3:(Hi 1003).ver=u3) (h6:(Hi 1006).ver=u6∧(Hi 1006).live=false) (hl:l.length≤4096) (hq:cE qf=0) (hk:ls=qs→lk=kyF qf→jN l qs qf=true):dW Tryz.prog 51 [(V.mp 11 v11 0 0),(V.agg [(iV qs),(iV qf.op),(iV qf.arg),(V.sl (List.map cF qf.kids)),V.nilsl])] Hi (V.tup [(V.bool ((fnd l (⟨qs,qf,[]⟩:Pl)).1)),(iV ((fnd l (⟨qs,qf,[]⟩:Pl)).2))]) (upd (upd (upd (upd (upd Hi 1003 (⟨u3+1,false,false,0,0,[]⟩:Blk)) 1006 (⟨u6+1,false,false,0,0,[]⟩:Blk)) 43 (bz vm dV 2 (dZ (List.map plK (l++[(⟨qs,qf,[]⟩:Pl)]))))) 815 (bz (v8+1) 95 5 (List.map cPl (l++[(⟨qs,qf,[]⟩:Pl)])))) 11 (bk v11 92 4 [[(V.mm 43 vm),(V.ms 815 (v8+1) 0 ((l++[(⟨qs,qf,[]⟩:Pl)]).length)),(iV qs),(V.str (kyF qf))]])):=by
 refine eW (k0:=1000) Tryz.func51 aBe fun hB=>?_
 unfold s51
 dsimp only
 refine gP (fun T H=>T 0=(V.mp 11 v11 0 0)∧T 3=(V.mp 1003 (u3+1) 0 0)∧(∀ j,j∉[1003,1006,43,815,11]→H j=Hi j)∧H 11=(bk v11 92 4 [[(V.mm 43 vm),(V.ms 815 v8 0 l.length),(iV ls),(V.str lk)]])∧H 43=(bz vm dV 2 (dZ (List.map plK l)))∧H 815=(bz v8 95 5 (List.map cPl l))∧H 1003=(bk (u3+1) 95 5 [[(iV qs),(iV qf.op),(iV qf.arg),(V.sl (List.map cF qf.kids)),V.nilsl]])∧((H 1006).ver=u6∧(H 1006).live=false)∧True) ?_ ?_
 ·
  refine cK (i:=1003) (n:=u3) (m:=5) (cs:=[(iV qs),(iV qf.op),(iV qf.arg),(V.sl (List.map cF qf.kids)),V.nilsl]) (by rfl) h3 rfl rfl rfl (aA rfl (aA rfl ?_))
  exact fM ⟨rfl,rfl,(bN (fun _ _=>rfl) (by decide)),h11,hm,h8,rfl,h6,trivial⟩
 intro T H ⟨t0,t3,hF,h11,h43,h815,h1003,h1006,_⟩
 refine aIl (r':=[(iV qs),(iV qf.op),(iV qf.arg),(V.sl (List.map cF qf.kids)),(aQ ([]))]) h1003 rfl (.done ?_)
 refine dQ (R:=fun T H=>T 0=(V.mp 11 v11 0 0)∧T 3=(V.mp 1003 (u3+1) 0 0)∧(∀ j,j∉[1003,1006,43,815,11]→H j=Hi j)∧H 11=(bk v11 92 4 [[(V.mm 43 vm),(V.ms 815 v8 0 l.length),(iV ls),(V.str lk)]])∧H 43=(bz vm dV 2 (dZ (List.map plK l)))∧H 815=(bz v8 95 5 (List.map cPl l))∧H 1003=(bk (u3+1) 95 5 [[(iV qs),(iV qf.op),(iV qf.arg),(V.sl (List.map cF qf.kids)),(aQ ([]))]])∧((H 1006).ver=u6∧(H 1006).live=false)∧True) ⟨t0,t3,(bN hF (by decide)),(uTq h11),(uTq h43),(uTq h815),(aG _ _ _),⟨(cVq (aV _ _ (by decide))).trans h1006.1,(congrArg Blk.live (aV _ _ (by decide))).trans h1006.2⟩,trivial⟩ ?_
 intro T H ⟨t0,t3,hF,h11,h43,h815,h1003,h1006,_⟩
 refine W_d (by exact (yQ h1006.2 xX)) (aU t3 h1003 (aL rfl h1003 rfl rfl (aU t3 h1003 (aL rfl h1003 rfl rfl (aJ (mK qf (eN hq) (iI hq)) rfl (bI rfl rfl (bE (i:=1006) (n:=u6) (m:=2) (by rfl) h1006.1 rfl ?_)))))))
 refine bP rfl rfl rfl rfl rfl rfl rfl rfl rfl (R_e (aB (W_r (aL rfl rfl rfl rfl (aA t0 (bK rfl h11 oB (aU rfl h11 ?_)))))))
 refine aL rfl h11 rfl rfl (aAS rfl rfl (aA rfl ?_))
 refine aS 7 (fun T H=>T 0=(V.mp 11 v11 0 0)∧T 3=(V.mp 1003 (u3+1) 0 0)∧T 6=(V.mp 1006 (u6+1) 0 0)∧T 28=(V.bool (decide (qs=ls∧(kyF qf)=lk)||(decide ((qs,kyF qf)∈List.map plK l))))∧(∀ j,j∉[1003,1006,43,815,11]→H j=Hi j)∧H 11=(bk v11 92 4 [[(V.mm 43 vm),(V.ms 815 v8 0 l.length),(iV ls),(V.str lk)]])∧H 43=(bz vm dV 2 (dZ (List.map plK l)))∧H 815=(bz v8 95 5 (List.map cPl l))∧H 1003=(bk (u3+1) 95 5 [[(iV qs),(iV qf.op),(iV qf.arg),(V.sl (List.map cF qf.kids)),(aQ ([]))]])∧H 1006=(bk (u6+1) 90 2 [[(iV qs),(V.str (kyF qf))]])∧True) ?_ ?_
 ·
  by_cases g1:qs=ls∧(kyF qf)=lk
  ·
   refine G_n (edT g1 rfl) (G_n (edT g1 rfl) (G_n (edT g1 rfl) (G_n (edT g1 rfl) (G_n (edT g1 rfl) (G_n (edT g1 rfl) (aR (edT g1 rfl) rfl ?_))))))
   exact ⟨t0,t3,rfl,(jI g1),(bN (bN hF (by decide)) (by decide)),h11,h43,h815,h1003,rfl,trivial⟩
  ·
   refine aC (edF g1 rfl) (aA t0 (aC (edF g1 rfl) (bK rfl h11 oB (aC (edF g1 rfl) (aU rfl h11 (aC (edF g1 rfl) (aL rfl h11 rfl rfl ?_)))))))
   refine aC (edF g1 rfl) (aL rfl rfl rfl rfl (aC (edF g1 rfl) (rX (z:=(V.bool false)) (u:=(V.bool (decide ((qs,kyF qf)∈List.map plK l)))) (f:=(decide ((qs,kyF qf)∈List.map plK l))) (rVq (V.mm 43 vm)) (rVq (V.agg [(iV qs),(V.str (kyF qf))])) h43 (aEK (k:=(qs,kyF qf))) (aT (edF g1 rfl) rfl ?_))))
   exact ⟨t0,t3,rfl,(jF g1),(bN (bN hF (by decide)) (by decide)),h11,h43,h815,h1003,rfl,trivial⟩
 intro T H ⟨t0,t3,t6,t28,hF,h11,h43,h815,h1003,h1006,_⟩
 refine R_e ?_
 refine cO t28 (fun c2=>?_) (fun c2=>?_)
 · exfalso; exact hn (.inl (aAP (q:=(⟨qs,qf,[]⟩:Pl)) hk c2))
 obtain ⟨i0,hnew⟩:=aAQ (q:=(⟨qs,qf,[]⟩:Pl)) c2
 refine aD (W_r (aU t3 h1003 (aL rfl h1003 rfl rfl (aJ (mF qf) rfl (aA rfl (bG rfl rfl (bG rfl rfl ?_)))))))
 refine aA rfl (aA rfl (R_e (aB (W_r (aA rfl (cM rfl rfl (aA rfl ?_)))))))
 refine aS 3 (fun T H=>T 0=(V.mp 11 v11 0 0)∧T 3=(V.mp 1003 (u3+1) 0 0)∧T 6=(V.mp 1006 (u6+1) 0 0)∧T 8=(iV (enE qf))∧T 40=(V.bool (decide ((enE qf)≠(0:Int))||(!enB qf)))∧(∀ j,j∉[1003,1006,43,815,11]→H j=Hi j)∧H 11=(bk v11 92 4 [[(V.mm 43 vm),(V.ms 815 v8 0 l.length),(iV ls),(V.str lk)]])∧H 43=(bz vm dV 2 (dZ (List.map plK l)))∧H 815=(bz v8 95 5 (List.map cPl l))∧H 1003=(bk (u3+1) 95 5 [[(iV qs),(iV qf.op),(iV qf.arg),(V.sl (List.map cF qf.kids)),(aQ ([]))]])∧H 1006=(bk (u6+1) 90 2 [[(iV qs),(V.str (kyF qf))]])∧True) ?_ ?_
 ·
  by_cases g3:(enE qf)≠(0:Int)
  ·
   refine G_n (edT g3 rfl) (G_n (edT g3 rfl) (aR (edT g3 rfl) rfl ?_))
   exact ⟨t0,t3,t6,rfl,(jI g3),hF,h11,h43,h815,h1003,h1006,trivial⟩
  ·
   refine aC (edF g3 rfl) (aA rfl (aC (edF g3 rfl) (gA rfl (aT (edF g3 rfl) rfl ?_))))
   exact ⟨t0,t3,t6,rfl,(jF g3),hF,h11,h43,h815,h1003,h1006,trivial⟩
 intro T H ⟨t0,t3,t6,t8,t40,hF,h11,h43,h815,h1003,h1006,_⟩
 refine R_e ?_
 refine cO t40 (fun c4=>?_) (fun c4=>?_)
 · exfalso; exact hn (.inr (by rcases (show enE qf≠0∨enB qf=false by simpa using c4) with e|e; exact .inl e; exact .inr (.inl e)))
 have i2: ¬(enE qf≠0∨enB qf=false):=by simpa using c4
 refine aD (aB (W_r (aA t0 (bK rfl h11 oB (aU rfl h11 (aL rfl h11 rfl rfl (gJ rfl h815 (by simp) ?_)))))))
 refine bH rfl rfl (R_e ?_)
 refine aK rfl (fun c5=>?_) fun c5=>?_
 · exfalso; exact hn (.inr (.inr (.inr (by omega))))
 refine aD (W_r (aA t0 (bK rfl h11 oB (aU rfl h11 (aL rfl h11 rfl rfl (aL t6 h1006 rfl rfl (aKa (B':=(bz vm dV 2 (dZ (List.map plK (l++[(⟨qs,qf,[]⟩:Pl)]))))) (rVq (V.mm 43 vm)) (rVq (V.agg [(iV qs),(V.str (kyF qf))])) (rVq (V.bool true)) h43 ((aQN hnew).trans (by rw [List.map_append]; rfl)) ?_)))))))
 refine R_e (W_r (aA t0 (aL t6 h1006 rfl rfl (bK rfl h11 oB (aU rfl h11 (bP rfl rfl rfl h11 rfl rfl rfl rfl rfl (R_e ?_)))))))
 refine W_r (aA t0 (aA t0 (bK rfl rfl oB (aU rfl rfl (aL rfl rfl rfl rfl (aL t3 h1003 rfl rfl (bC rfl rfl ?_)))))))
 refine eH (l:=l) (f:=cPl) (x:=(⟨qs,qf,[]⟩:Pl)) (rVq (V.ms 815 v8 0 l.length)) h815 (by rfl) (rVq (V.sl [[(iV qs),(iV qf.op),(iV qf.arg),(V.sl (List.map cF qf.kids)),(aQ ([]))]])) rfl rfl (by omega) (by omega) (bK rfl rfl oB (aU rfl rfl (bP rfl rfl rfl rfl rfl rfl rfl rfl rfl (R_e (W_r (aA rfl (aA rfl ?_)))))))
 refine R_e (aN (dQ (R:=fun T H=>T 4=(V.bool false)∧T 5=(iV 0)∧(∀ j,j∉[1003,1006,43,815,11]→H j=Hi j)∧H 11=(bk v11 92 4 [[(V.mm 43 vm),(V.ms 815 (v8+1) 0 (l.length+1)),(iV qs),(V.str (kyF qf))]])∧H 43=(bz vm dV 2 (dZ (List.map plK (l++[(⟨qs,qf,[]⟩:Pl)]))))∧H 815=(bz (v8+1) 95 5 (List.map cPl (l++[(⟨qs,qf,[]⟩:Pl)])))∧H 1003=(bk (u3+1) 95 5 [[(iV qs),(iV qf.op),(iV qf.arg),(V.sl (List.map cF qf.kids)),(aQ ([]))]])∧H 1006=(bk (u6+1) 90 2 [[(iV qs),(V.str (kyF qf))]])∧True) ⟨(rVq (V.bool false)),(rVq (iV 0)),(bN (bN (bN (bN hF (by decide)) (by decide)) (by decide)) (by decide)),rfl,rfl,rfl,h1003,h1006,trivial⟩ ?_))
 intro T H ⟨t4,t5,hF,h11,h43,h815,h1003,h1006,_⟩
 have d:=(eR hn).1
 have fh:=cX.fin (cX.put (B:=(bk v11 92 4 [[(V.mm 43 vm),(V.ms 815 (v8+1) 0 ((l++[(⟨qs,qf,[]⟩:Pl)]).length)),(iV qs),(V.str (kyF qf))]])) (cX.put (cX.put (cX.putv (n:=(u6+1)) (B:=(⟨u6+1,false,false,0,0,[]⟩:Blk)) (cX.putv (n:=(u3+1)) (B:=(⟨u3+1,false,false,0,0,[]⟩:Blk)) (cX.start hF) (cVq h1003) (by show _≤u3+1; omega) rfl) (cVq h1006) (by show _≤u6+1; omega) rfl) h43 (kL.eq rfl)) h815 (kL.eq rfl)) h11 (kL.eq (by simp)))
 exact nB t4 t5 fh (cV.trans_eq (cV.same fh _) (by (rw [d]; done))) (cV.trans_eq (cV.same fh _) (by (rw [d]; done)))
theorem aC7 (l:List Pl) (qs:Int) (qf:Fm) (ls:Int) (lk:List UInt8) (v11 vm v8 u3 u6:Nat) (hn: ¬mM l (⟨qs,qf,[]⟩:Pl)) (Hi:aI) (h11:Hi 11=(bk v11 92 4 [[(V.mm 43 vm),(V.ms 815 v8 0 l.length),(iV ls),(V.str lk)]])) (hm:Hi 43=(bz vm dV 2 (dZ (List.map plK l)))) (h8:Hi 815=(bz v8 95 5 (List.map cPl l))) (h3:(Hi 1003).ver=u3) (h6:(Hi 1006).ver=u6∧(Hi 1006).live=false) (hl:l.length≤4096) (hq:cE qf=0) (hk:ls=qs→lk=kyF qf→jN l qs qf=true):dW Tryz.prog 51 [(V.mp 11 v11 0 0),(V.agg [(iV qs),(iV qf.op),(iV qf.arg),(V.sl (List.map cF qf.kids)),V.nilsl])] Hi (V.tup [(V.bool ((fnd l (⟨qs,qf,[]⟩:Pl)).1)),(iV ((fnd l (⟨qs,qf,[]⟩:Pl)).2))]) (upd (upd Hi 1003 (⟨u3+1,false,false,0,0,[]⟩:Blk)) 1006 (⟨u6+1,false,false,0,0,[]⟩:Blk)):=by
 refine eW (k0:=1000) Tryz.func51 aBe fun hB=>?_
 unfold s51
 dsimp only
 refine gP (fun T H=>T 0=(V.mp 11 v11 0 0)∧T 3=(V.mp 1003 (u3+1) 0 0)∧(∀ j,j∉[1003,1006]→H j=Hi j)∧H 11=(bk v11 92 4 [[(V.mm 43 vm),(V.ms 815 v8 0 l.length),(iV ls),(V.str lk)]])∧H 43=(bz vm dV 2 (dZ (List.map plK l)))∧H 815=(bz v8 95 5 (List.map cPl l))∧H 1003=(bk (u3+1) 95 5 [[(iV qs),(iV qf.op),(iV qf.arg),(V.sl (List.map cF qf.kids)),V.nilsl]])∧((H 1006).ver=u6∧(H 1006).live=false)∧True) ?_ ?_
 ·
  refine cK (i:=1003) (n:=u3) (m:=5) (cs:=[(iV qs),(iV qf.op),(iV qf.arg),(V.sl (List.map cF qf.kids)),V.nilsl]) (by rfl) h3 rfl rfl rfl (aA rfl (aA rfl ?_))
  exact fM ⟨rfl,rfl,(bN (fun _ _=>rfl) (by decide)),h11,hm,h8,rfl,h6,trivial⟩
 intro T H ⟨t0,t3,hF,h11,h43,h815,h1003,h1006,_⟩
 refine aIl (r':=[(iV qs),(iV qf.op),(iV qf.arg),(V.sl (List.map cF qf.kids)),(aQ ([]))]) h1003 rfl (.done ?_)
 refine dQ (R:=fun T H=>T 0=(V.mp 11 v11 0 0)∧T 3=(V.mp 1003 (u3+1) 0 0)∧(∀ j,j∉[1003,1006]→H j=Hi j)∧H 11=(bk v11 92 4 [[(V.mm 43 vm),(V.ms 815 v8 0 l.length),(iV ls),(V.str lk)]])∧H 43=(bz vm dV 2 (dZ (List.map plK l)))∧H 815=(bz v8 95 5 (List.map cPl l))∧H 1003=(bk (u3+1) 95 5 [[(iV qs),(iV qf.op),(iV qf.arg),(V.sl (List.map cF qf.kids)),(aQ ([]))]])∧((H 1006).ver=u6∧(H 1006).live=false)∧True) ⟨t0,t3,(bN hF (by decide)),(uTq h11),(uTq h43),(uTq h815),(aG _ _ _),⟨(cVq (aV _ _ (by decide))).trans h1006.1,(congrArg Blk.live (aV _ _ (by decide))).trans h1006.2⟩,trivial⟩ ?_
 intro T H ⟨t0,t3,hF,h11,h43,h815,h1003,h1006,_⟩
 refine W_d (by exact (yQ h1006.2 xX)) (aU t3 h1003 (aL rfl h1003 rfl rfl (aU t3 h1003 (aL rfl h1003 rfl rfl (aJ (mK qf (eN hq) (iI hq)) rfl (bI rfl rfl (bE (i:=1006) (n:=u6) (m:=2) (by rfl) h1006.1 rfl ?_)))))))
 refine bP rfl rfl rfl rfl rfl rfl rfl rfl rfl (R_e (aB (W_r (aL rfl rfl rfl rfl (aA t0 (bK rfl h11 oB (aU rfl h11 ?_)))))))
 refine aL rfl h11 rfl rfl (aAS rfl rfl (aA rfl ?_))
 refine aS 7 (fun T H=>T 0=(V.mp 11 v11 0 0)∧T 3=(V.mp 1003 (u3+1) 0 0)∧T 6=(V.mp 1006 (u6+1) 0 0)∧T 28=(V.bool (decide (qs=ls∧(kyF qf)=lk)||(decide ((qs,kyF qf)∈List.map plK l))))∧(∀ j,j∉[1003,1006]→H j=Hi j)∧H 11=(bk v11 92 4 [[(V.mm 43 vm),(V.ms 815 v8 0 l.length),(iV ls),(V.str lk)]])∧H 43=(bz vm dV 2 (dZ (List.map plK l)))∧H 815=(bz v8 95 5 (List.map cPl l))∧H 1003=(bk (u3+1) 95 5 [[(iV qs),(iV qf.op),(iV qf.arg),(V.sl (List.map cF qf.kids)),(aQ ([]))]])∧H 1006=(bk (u6+1) 90 2 [[(iV qs),(V.str (kyF qf))]])∧True) ?_ ?_
 ·
  by_cases g1:qs=ls∧(kyF qf)=lk
  ·
   refine G_n (edT g1 rfl) (G_n (edT g1 rfl) (G_n (edT g1 rfl) (G_n (edT g1 rfl) (G_n (edT g1 rfl) (G_n (edT g1 rfl) (aR (edT g1 rfl) rfl ?_))))))
   exact ⟨t0,t3,rfl,(jI g1),(bN (bN hF (by decide)) (by decide)),h11,h43,h815,h1003,rfl,trivial⟩
  ·
   refine aC (edF g1 rfl) (aA t0 (aC (edF g1 rfl) (bK rfl h11 oB (aC (edF g1 rfl) (aU rfl h11 (aC (edF g1 rfl) (aL rfl h11 rfl rfl ?_)))))))
   refine aC (edF g1 rfl) (aL rfl rfl rfl rfl (aC (edF g1 rfl) (rX (z:=(V.bool false)) (u:=(V.bool (decide ((qs,kyF qf)∈List.map plK l)))) (f:=(decide ((qs,kyF qf)∈List.map plK l))) (rVq (V.mm 43 vm)) (rVq (V.agg [(iV qs),(V.str (kyF qf))])) h43 (aEK (k:=(qs,kyF qf))) (aT (edF g1 rfl) rfl ?_))))
   exact ⟨t0,t3,rfl,(jF g1),(bN (bN hF (by decide)) (by decide)),h11,h43,h815,h1003,rfl,trivial⟩
 intro T H ⟨t0,t3,t6,t28,hF,h11,h43,h815,h1003,h1006,_⟩
 refine R_e ?_
 refine cO t28 (fun c2=>?_) (fun c2=>?_)
 ·
  have i1:=aAP (q:=(⟨qs,qf,[]⟩:Pl)) hk c2
  refine aB (W_r (aA rfl (aA rfl (R_e (aW (dQ (R:=fun T H=>T 4=(V.bool false)∧T 5=(iV 0)∧(∀ j,j∉[1003,1006]→H j=Hi j)∧H 11=(bk v11 92 4 [[(V.mm 43 vm),(V.ms 815 v8 0 l.length),(iV ls),(V.str lk)]])∧H 43=(bz vm dV 2 (dZ (List.map plK l)))∧H 815=(bz v8 95 5 (List.map cPl l))∧H 1003=(bk (u3+1) 95 5 [[(iV qs),(iV qf.op),(iV qf.arg),(V.sl (List.map cF qf.kids)),(aQ ([]))]])∧H 1006=(bk (u6+1) 90 2 [[(iV qs),(V.str (kyF qf))]])∧True) ⟨(rVq (V.bool false)),(rVq (iV 0)),hF,h11,h43,h815,h1003,h1006,trivial⟩ ?_))))))
  intro T H ⟨t4,t5,hF,h11,h43,h815,h1003,h1006,_⟩
  have d:=aI5 (q:=(⟨qs,qf,[]⟩:Pl)) i1
  have fh:=cX.fin (cX.putv (n:=(u6+1)) (B:=(⟨u6+1,false,false,0,0,[]⟩:Blk)) (cX.putv (n:=(u3+1)) (B:=(⟨u3+1,false,false,0,0,[]⟩:Blk)) (cX.start hF) (cVq h1003) (by show _≤u3+1; omega) rfl) (cVq h1006) (by show _≤u6+1; omega) rfl)
  exact nB t4 t5 fh (cV.trans_eq (cV.same fh _) (by (rw [d]; done))) (cV.trans_eq (cV.same fh _) (by (rw [d]; done)))
 obtain ⟨i0,hnew⟩:=aAQ (q:=(⟨qs,qf,[]⟩:Pl)) c2
 refine aD (W_r (aU t3 h1003 (aL rfl h1003 rfl rfl (aJ (mF qf) rfl (aA rfl (bG rfl rfl (bG rfl rfl ?_)))))))
 refine aA rfl (aA rfl (R_e (aB (W_r (aA rfl (cM rfl rfl (aA rfl ?_)))))))
 refine aS 3 (fun T H=>T 0=(V.mp 11 v11 0 0)∧T 3=(V.mp 1003 (u3+1) 0 0)∧T 6=(V.mp 1006 (u6+1) 0 0)∧T 8=(iV (enE qf))∧T 40=(V.bool (decide ((enE qf)≠(0:Int))||(!enB qf)))∧(∀ j,j∉[1003,1006]→H j=Hi j)∧H 11=(bk v11 92 4 [[(V.mm 43 vm),(V.ms 815 v8 0 l.length),(iV ls),(V.str lk)]])∧H 43=(bz vm dV 2 (dZ (List.map plK l)))∧H 815=(bz v8 95 5 (List.map cPl l))∧H 1003=(bk (u3+1) 95 5 [[(iV qs),(iV qf.op),(iV qf.arg),(V.sl (List.map cF qf.kids)),(aQ ([]))]])∧H 1006=(bk (u6+1) 90 2 [[(iV qs),(V.str (kyF qf))]])∧True) ?_ ?_
 ·
  by_cases g3:(enE qf)≠(0:Int)
  ·
   refine G_n (edT g3 rfl) (G_n (edT g3 rfl) (aR (edT g3 rfl) rfl ?_))
   exact ⟨t0,t3,t6,rfl,(jI g3),hF,h11,h43,h815,h1003,h1006,trivial⟩
  ·
   refine aC (edF g3 rfl) (aA rfl (aC (edF g3 rfl) (gA rfl (aT (edF g3 rfl) rfl ?_))))
   exact ⟨t0,t3,t6,rfl,(jF g3),hF,h11,h43,h815,h1003,h1006,trivial⟩
 intro T H ⟨t0,t3,t6,t8,t40,hF,h11,h43,h815,h1003,h1006,_⟩
 refine R_e ?_
 refine cO t40 (fun c4=>?_) (fun c4=>?_)
 ·
  have i2:enE qf≠0∨enB qf=false:=by simpa using c4
  refine aB (W_r (aA t8 (bH rfl rfl (aA t8 (aA rfl (aA rfl (R_e ?_)))))))
  refine aW (dQ (R:=fun T H=>T 4=(V.bool (decide ((enE qf)=(0:Int))))∧T 5=(iV (enE qf))∧(∀ j,j∉[1003,1006]→H j=Hi j)∧H 11=(bk v11 92 4 [[(V.mm 43 vm),(V.ms 815 v8 0 l.length),(iV ls),(V.str lk)]])∧H 43=(bz vm dV 2 (dZ (List.map plK l)))∧H 815=(bz v8 95 5 (List.map cPl l))∧H 1003=(bk (u3+1) 95 5 [[(iV qs),(iV qf.op),(iV qf.arg),(V.sl (List.map cF qf.kids)),(aQ ([]))]])∧H 1006=(bk (u6+1) 90 2 [[(iV qs),(V.str (kyF qf))]])∧True) ⟨(rVq (V.bool (decide ((enE qf)=(0:Int))))),(rVq (iV (enE qf))),hF,h11,h43,h815,h1003,h1006,trivial⟩ ?_)
  intro T H ⟨t4,t5,hF,h11,h43,h815,h1003,h1006,_⟩
  have d:=aAz (q:=(⟨qs,qf,[]⟩:Pl)) i0 i2
  have fh:=cX.fin (cX.putv (n:=(u6+1)) (B:=(⟨u6+1,false,false,0,0,[]⟩:Blk)) (cX.putv (n:=(u3+1)) (B:=(⟨u3+1,false,false,0,0,[]⟩:Blk)) (cX.start hF) (cVq h1003) (by show _≤u3+1; omega) rfl) (cVq h1006) (by show _≤u6+1; omega) rfl)
  exact nB t4 t5 fh (cV.trans_eq (cV.same fh _) (by (rw [d]; done))) (cV.trans_eq (cV.same fh _) (by (rw [d]; done)))
 have i2: ¬(enE qf≠0∨enB qf=false):=by simpa using c4
 refine aD (aB (W_r (aA t0 (bK rfl h11 oB (aU rfl h11 (aL rfl h11 rfl rfl (gJ rfl h815 (by simp) ?_)))))))
 refine bH rfl rfl (R_e ?_)
 refine aK rfl (fun c5=>?_) fun c5=>?_
 ·
  have i3:l.length=4096:=by omega
  refine aB (W_r (aA rfl (aA rfl (R_e (aW (dQ (R:=fun T H=>T 4=(V.bool false)∧T 5=(iV 11)∧(∀ j,j∉[1003,1006]→H j=Hi j)∧H 11=(bk v11 92 4 [[(V.mm 43 vm),(V.ms 815 v8 0 l.length),(iV ls),(V.str lk)]])∧H 43=(bz vm dV 2 (dZ (List.map plK l)))∧H 815=(bz v8 95 5 (List.map cPl l))∧H 1003=(bk (u3+1) 95 5 [[(iV qs),(iV qf.op),(iV qf.arg),(V.sl (List.map cF qf.kids)),(aQ ([]))]])∧H 1006=(bk (u6+1) 90 2 [[(iV qs),(V.str (kyF qf))]])∧True) ⟨(rVq (V.bool false)),(rVq (iV 11)),hF,h11,h43,h815,h1003,h1006,trivial⟩ ?_))))))
  intro T H ⟨t4,t5,hF,h11,h43,h815,h1003,h1006,_⟩
  have d:=aEQ (q:=(⟨qs,qf,[]⟩:Pl)) i0 i2 i3
  have fh:=cX.fin (cX.putv (n:=(u6+1)) (B:=(⟨u6+1,false,false,0,0,[]⟩:Blk)) (cX.putv (n:=(u3+1)) (B:=(⟨u3+1,false,false,0,0,[]⟩:Blk)) (cX.start hF) (cVq h1003) (by show _≤u3+1; omega) rfl) (cVq h1006) (by show _≤u6+1; omega) rfl)
  exact nB t4 t5 fh (cV.trans_eq (cV.same fh _) (by (rw [d]; done))) (cV.trans_eq (cV.same fh _) (by (rw [d]; done)))
 · exfalso; exact hn (aAm (q:=(⟨qs,qf,[]⟩:Pl)) i0 i2 (by omega))
def s52:SF:=⟨5,[.tmp 2],.seq (.reg [sO 2 (.mv (.c (.nilsl)))]) (.seq (.reg [qM 3 0,sO 4 (.call false 74 [.t 3]),qM 2 4]) (.ret))⟩
theorem aOA:bF Tryz.prog ⟨[51,59,84,90,97,109,153,154,155,160],[],[],[]⟩ Tryz.f52=some s52:=by kernel_rfl
def aMx:SC:=.seq (.reg [qP 12 .lss 11 10]) (.seq (.cond (.t 12) (.skip) (.exit 0)) (.seq (.block 1 (.seq (.reg [qA 13 1 9 11,ql 14 13,qM 5 14]) (.seq (.reg [qM 15 3,qM 16 5,qN 17 16,qP 18 .add 15 17,qM 3 18]) (.seq (.reg [qM 19 3,qC 20 .lss 19 0]) (.cond (.t 20) (.seq (.reg [sO 21 (.bad)]) (.seq (.pop none (.raise (.t 21))) (.reg []))) (.skip)))))) (.reg [qC 22 .add 11 1,qM 11 22])))
def aMz:SC:=.seq (.reg [qP 28 .lss 27 26]) (.seq (.cond (.t 28) (.skip) (.exit 2)) (.seq (.block 3 (.seq (.reg [qA 29 1 25 27,ql 30 29,qM 8 30]) (.reg [qM 31 6,qM 32 8,sO 33 (.append 3 1 8 (.t 31) (.t 32)),qM 6 33]))) (.reg [qC 34 .add 27 1,qM 27 34])))
def s74:SF:=⟨36,[.tmp 2],.seq (.reg [sO 2 (.mv (.c (.nilsl)))]) (.seq (.reg [qI 3 0]) (.seq (.seq (.reg [qM 9 0,qN 10 9,qI 11 0]) (.block 0 (.loop aMx))) (.seq (.reg [qM 23 3,sO 24 (.call true 97 [.c (.nilsl),.t 23]),qM 6 24]) (.seq (.seq (.reg [qM 25 0,qN 26 25,qI 27 0]) (.block 2 (.loop aMz))) (.seq (.reg [qM 35 6,qM 2 35]) (.ret))))))⟩
theorem aNO:bF Tryz.prog ⟨[51,59,84,90,97,109,153,154,155,160],[],[],[]⟩ Tryz.f74=some s74:=by kernel_rfl
end Go.Proofs.YteehaobohaecmaaGreatDoor
namespace Go.Proofs.YteehaobohaecmaaGreatDoor
open Go Go.Proofs Go.Shelf
def aG9:Go.Shelf.Ren:=⟨fun|4=>97|n=>n,fun|22=>52|25=>3|3=>3|4=>4|9=>9|20=>20|0=>0|n=>n,fun n=>n⟩
theorem aGz:Lays8.n4 Tryz.prog aG9:={
  mixed:=(by kernel_rfl),
  f4:=⟨Tryz.f97.name,by decide,Tryz.func97.trans (congrArg some (by kernel_rfl))⟩,
  t0:=Tryz.underlying0,
  a0:=Tryz.isAgg0,
  z0:=Tryz.sizeOf0,
  v0:=Tryz.zeroValue0,
  t3:=Tryz.underlying3,
  a3:=Tryz.isAgg3,
  z3:=Tryz.sizeOf3,
  v3:=Tryz.zeroValue3,
  t4:=Tryz.underlying4,
  a4:=Tryz.isAgg4,
  z4:=Tryz.sizeOf4,
  v4:=Tryz.zeroValue4,
  t9:=Tryz.underlying9,
  a9:=Tryz.isAgg9,
  z9:=Tryz.sizeOf9,
  v9:=Tryz.zeroValue9,
  t20:=Tryz.underlying20,
  a20:=Tryz.isAgg20,
  z20:=Tryz.sizeOf20,
  v20:=Tryz.zeroValue20,
  t22:=Tryz.underlying52,
  a22:=Tryz.isAgg52,
  z22:=Tryz.sizeOf52,
  v22:=Tryz.zeroValue52}
theorem aDI:cZ Tryz.prog 97:=⟨_,Tryz.func97,by kernel_rfl,by kernel_rfl⟩
theorem aD4:(Tryz.prog.info? 3).map (fun i=>(i.zero,i.size,i.bytes))=some (some (.int .i64 0),1,8):=by kernel_rfl
end Go.Proofs.YteehaobohaecmaaGreatDoor
namespace Go.Proofs.YteehaobohaecmaaGreatDoor
open Go Go.Proofs
theorem aBR (l:List (List Int)) (hs:(cat l).length≤4294967296):aP Tryz.prog 74 [(aZ l)] (aQ (cat l)):=by
 refine pW Tryz.func74 aNO fun hB=>?_
 unfold s74
 dsimp only
 refine W_r (aA rfl (R_e (W_r (aA rfl (R_e (aB (W_r ?_)))))))
 refine aA rfl (bM rfl (aA rfl (R_e (eG fun Q1 n1 x1 y1 z1 w1=>?_))))
 refine vT (fun mm T H=> ∃ (k:Nat) (v0:Nat),mm=l.length - k∧T 0=(aZ l)∧T 3=(iV (((cat (l.take k)).length:Nat):Int))∧T 9=(aZ l)∧T 10=(iV ((l.length:Nat):Int))∧T 11=(iV ((k:Nat):Int))∧(H 0).ver=v0∧H 900=bZq∧(k≤l.length)) ?_ ?_
 ·
  refine ⟨_,0,0,rfl,rfl,(eTq (rVq (iV 0)) (by rfl)),rfl,rfl,(eTq (rVq (iV 0)) rfl),(cVq rfl),rfl,?_⟩
  · omega
 intro mm T H ⟨k,v0,hmm,t0,t3,t9,t10,t11,h0,h900,hk⟩ Q2 p12 p22 p32 p42
 unfold aMx
 refine W_r (bW t11 t10 (R_e ?_))
 refine aK rfl (fun c3=>?_) fun c3=>?_
 ·
  have hq:=uR (l:=l) (k:=k) (by omega)
  refine aD (eG fun Q4 n4 x4 y4 z4 w4=>(W_r (dE (i:=k) t9 t11 (by omega) rfl (aH rfl rfl (aA rfl (R_e (W_r ?_)))))))
  refine aA t3 (aA rfl (bM rfl (bL rfl rfl (by omega) (aA rfl (R_e (W_r (aA rfl ?_)))))))
  refine bW rfl rfl (R_e ?_)
  refine cW rfl (fun c5=>?_) fun c5=>?_
  · exfalso; omega
  refine dA (n4 _ _ (.done (W_t (bL t11 (rNq 1) (by omega) (aA rfl (R_e ?_))))))
  refine p12 _ _ _ ?_ ⟨(k+1),v0,rfl,t0,(eTq (rNq (((cat (l.take k)).length)+(nth l k).length)) (by (rw [sJ (by omega),List.length_append]; done))),t9,t10,(eTq (rNq (k+1)) (by rfl)),h0,h900,?_⟩
  · omega
  · omega
 have hk2:(cat (l.take k)).length=(cat l).length:=by rw [show k=l.length by omega,List.take_length]
 refine aX (p32 _ _ _ (x1 _ _ (.done (W_r (aA t3 (fP (aY rfl (aY rfl cU)) (sE aGz aDI aD4 (by decide) rfl (n:=((cat (l.take k)).length)) (by omega) (by omega) 900 (cVq h900)) (aA rfl ?_)))))))
 refine R_e (aB (W_r (aA t0 (bM rfl (aA rfl (R_e (eG fun Q6 n6 x6 y6 z6 w6=>?_)))))))
 refine vT (fun mm T H=> ∃ (j:Nat) (w:Nat),mm=l.length - j∧T 6=(V.ms 900 w 0 ((cat (l.take j)).length))∧T 25=(aZ l)∧T 26=(iV ((l.length:Nat):Int))∧T 27=(iV ((j:Nat):Int))∧(H 0).ver=v0∧H 900=(⟨w,true,decide ((cat (l.take k)).length=0),3,1,(List.map cI (cat (l.take j)))⟩:Blk)∧(j≤l.length)) ?_ ?_
 ·
  refine ⟨_,0,(0+1),rfl,(eTq (rVq (V.ms 900 (0+1) 0 0)) (by rfl)),rfl,rfl,(eTq (rVq (iV 0)) rfl),h0,(eTq (@rfl Blk (⟨0+1,true,decide ((cat (l.take k)).length=0),3,1,[]⟩:Blk)) (by rfl)),?_⟩
  · omega
 intro mm T H ⟨j,w,hmm,t6,t25,t26,t27,h0,h900,hj⟩ Q7 p17 p27 p37 p47
 unfold aMz
 refine W_r (bW t27 t26 (R_e ?_))
 refine aK rfl (fun c8=>?_) fun c8=>?_
 ·
  have hq:=uR (l:=l) (k:=j) (by omega)
  refine aD (eG fun Q9 n9 x9 y9 z9 w9=>(W_r (dE (i:=j) t25 t27 (by omega) rfl (aH rfl rfl (aA rfl (R_e (W_t ?_)))))))
  refine aA t6 (aA rfl (aAx (l:=(cat (l.take j))) (m:=(nth l j)) (f:=cI) (rVq (V.ms 900 w 0 ((cat (l.take j)).length))) h900 (by rfl) (rVq (aQ (nth l j))) (fun _=>rfl) (fun _=>rfl) (by omega) (by omega) (aA rfl (R_e (n9 _ _ (.done (W_t ?_)))))))
  refine bL t27 (rNq 1) (by omega) (aA rfl (R_e ?_))
  refine p17 _ _ _ ?_ ⟨(j+1),(w+1),rfl,(eTq (rVq (V.ms 900 (w+1) 0 (((cat (l.take j)).length)+(nth l j).length))) (by (rw [sJ (by omega),List.length_append]; done))),t25,t26,(eTq (rNq (j+1)) (by rfl)),h0,(eTq (@rfl Blk (⟨w+1,true,decide ((cat (l.take k)).length=0),3,1,(List.map cI (cat (l.take j)++(nth l j)))⟩:Blk)) (by (rw [sJ (by omega)]; done))),?_⟩
  · omega
  · omega
 refine aX (p37 _ _ _ (x6 _ _ (.done (W_r (aA t6 (aA rfl (R_e ?_)))))))
 refine aN ?_
 refine bB (rVq (V.ms 900 w 0 ((cat (l.take j)).length))) (yP h900 (by simp) (l:=(cat (l.take j))) rfl (by rfl) (fun _=>by simp) ?_)
 · rw [show j=l.length by omega,List.take_length]
theorem aD9 (l:List (List Int)) (hs:(cat l).length≤4294967296):aP Tryz.prog 52 [(aZ l)] (aQ (cat l)):=by
 refine pW Tryz.func52 aOA fun hB=>?_
 unfold s52
 dsimp only
 refine W_r (aA rfl (R_e (W_r (aA rfl (aJ (aBR l hs) rfl (aA rfl (R_e ?_)))))))
 refine aN ?_
 refine bB (rVq (aQ (cat l))) (cA (by simp) rfl)
theorem kS (m:M) (f:Fm):aP Tryz.prog 23 [(V.agg [(iV m.i),(iV m.s),(aZ m.nx),(aZ m.ot)]),(V.agg [(iV f.op),(iV f.arg),(V.sl (List.map cF f.kids))])] (V.tup [(V.agg [(aQ ((vck m f).1.ni)),(aQ ((vck m f).1.no))]),(V.bool ((vck m f).2.1)),(iV ((vck m f).2.2))]):=by
 refine pW Tryz.func23 aNK fun hB=>?_
 unfold s23
 dsimp only
 refine W_r (cK (i:=2) (n:=0) (m:=4) (cs:=[(iV m.i),(iV m.s),(aZ m.nx),(aZ m.ot)]) rfl (cVq rfl) rfl rfl rfl (cK (i:=3) (n:=0) (m:=3) (cs:=[(iV f.op),(iV f.arg),(V.sl (List.map cF f.kids))]) rfl (cVq rfl) rfl rfl rfl (bE (i:=4) (n:=0) (m:=2) rfl (cVq rfl) rfl (aA rfl (aA rfl (R_e (aB ?_)))))))
 refine W_r (aL rfl rfl rfl rfl (aJ (uP m) rfl (aA rfl (R_e (aB (W_r (aA rfl ?_)))))))
 refine cM rfl rfl (R_e ?_)
 refine aK rfl (fun c1=>?_) fun c1=>?_
 ·
  have d1:=aIY (f:=f) c1
  refine aB (W_r (bI rfl rfl (aA rfl (bP rfl rfl rfl rfl rfl rfl rfl rfl rfl (aA rfl (aA rfl (R_e ?_)))))))
  refine aW ?_
  refine nR (bS (u:=(V.agg [V.nilsl,V.nilsl])) rfl (@rfl Blk (bk 1 54 2 [[V.nilsl,V.nilsl]])) (lB oB rfl rfl)) (cR (rVq (V.bool false))) (cR (rVq (iV (dY m)))) (kW (dD ?_) (dD ?_)) (bD ?_) (aF ?_)
  · rw [d1]; try rfl
  · rw [d1]; try rfl
  · rw [d1]; try rfl
  · rw [d1]; try rfl
 have a1:=c1
 have mo:=fO (Decidable.of_not_not c1)
 refine aD (aB (W_r (aL rfl rfl rfl rfl (aJ (gX f) rfl (aA rfl (R_e (aB ?_)))))))
 refine W_r (aA rfl (cM rfl rfl (R_e ?_)))
 refine aK rfl (fun c2=>?_) fun c2=>?_
 ·
  have d1:=aIP a1 c2
  refine aB (W_r (bI rfl rfl (aA rfl (bP rfl rfl rfl rfl rfl rfl rfl rfl rfl (aA rfl (aA rfl (R_e ?_)))))))
  refine aW ?_
  refine nR (bS (u:=(V.agg [V.nilsl,V.nilsl])) rfl (@rfl Blk (bk 1 54 2 [[V.nilsl,V.nilsl]])) (lB oB rfl rfl)) (cR (rVq (V.bool false))) (cR (rVq (iV (cE f)))) (kW (dD ?_) (dD ?_)) (bD ?_) (aF ?_)
  · rw [d1]; try rfl
  · rw [d1]; try rfl
  · rw [d1]; try rfl
  · rw [d1]; try rfl
 have a2:=c2
 refine aD (W_r (aL rfl rfl rfl rfl (aJ (pH f) rfl (aA rfl (bG rfl rfl (bG rfl rfl (bE (i:=9) (n:=0) (m:=3) rfl (cVq rfl) rfl ?_)))))))
 refine bP rfl rfl rfl rfl rfl rfl rfl rfl rfl (aA rfl (R_e (aB (W_r (aA rfl (cM rfl rfl (R_e ?_)))))))
 refine aK rfl (fun c3=>?_) fun c3=>?_
 ·
  have d1:=aMJ a1 a2 c3
  refine aB (W_r (bI rfl rfl (aA rfl (bP rfl rfl rfl rfl rfl rfl rfl rfl rfl (aA rfl (aA rfl (R_e ?_)))))))
  refine aW ?_
  refine nR (bS (u:=(V.agg [V.nilsl,V.nilsl])) rfl (@rfl Blk (bk 1 54 2 [[V.nilsl,V.nilsl]])) (lB oB rfl rfl)) (cR (rVq (V.bool false))) (cR (rVq (iV ((aM f).2)))) (kW (dD ?_) (dD ?_)) (bD ?_) (aF ?_)
  · rw [d1]; try rfl
  · rw [d1]; try rfl
  · rw [d1]; try rfl
  · rw [d1]; try rfl
 have a3:=c3
 have v0:=aCG c3
 refine aD ?_
 refine gP (fun T H=>T 2=(mPq 2)∧T 4=(mPq 4)∧T 9=(mPq 9)∧T 11=(mPq 11)∧H 2=(bMq m)∧H 3=(bk 1 24 3 [[(iV f.op),(iV f.arg),(V.sl (List.map cF f.kids))]])∧H 4=(bk 1 54 2 [[V.nilsl,V.nilsl]])∧H 9=(bk 1 24 3 [[(iV ((aM f).1.op)),(iV ((aM f).1.arg)),(V.sl (List.map cF ((aM f).1.kids)))]])∧H 11=(bk 1 92 4 [[(V.mm 43 1),V.nilsl,(iV 0),(V.str ([]))]])∧H 14=bZq∧H 16=bZq∧H 43=(bz 1 dV 2 (dZ (List.map plK [])))∧H 815=bZq∧H 1003=bZq∧H 1006=bZq∧True) ?_ ?_
 ·
  refine aKq (i:=43) (n:=0) (rows:=dZ (List.map plK [])) rfl (cVq rfl) rfl (bI rfl rfl (bE (i:=11) (n:=0) (m:=4) rfl (cVq rfl) rfl (bP rfl rfl rfl rfl rfl rfl rfl rfl rfl ?_)))
  exact fM ⟨rfl,rfl,rfl,rfl,rfl,rfl,rfl,rfl,rfl,rfl,rfl,rfl,rfl,rfl,rfl,trivial⟩
 intro T H ⟨t2,t4,t9,t11,h2,h3,h4,h9,h11,h14,h16,h43,h815,h1003,h1006,_⟩
 refine .lazyCell 815 95 5 11 0 1 [(V.mm 43 1),V.nilsl,(iV 0),(V.str ([]))] (by decide) (by rw [h11]; rfl) (by rw [h11]; rfl) rfl (.done ?_)
 refine dQ (R:=fun T H=>T 2=(mPq 2)∧T 4=(mPq 4)∧T 9=(mPq 9)∧T 11=(mPq 11)∧H 2=(bMq m)∧H 3=(bk 1 24 3 [[(iV f.op),(iV f.arg),(V.sl (List.map cF f.kids))]])∧H 4=(bk 1 54 2 [[V.nilsl,V.nilsl]])∧H 9=(bk 1 24 3 [[(iV ((aM f).1.op)),(iV ((aM f).1.arg)),(V.sl (List.map cF ((aM f).1.kids)))]])∧H 11=(bk 1 92 4 [[(V.mm 43 1),(V.ms 815 1 0 0),(iV 0),(V.str ([]))]])∧H 14=bZq∧H 16=bZq∧H 43=(bz 1 dV 2 (dZ (List.map plK [])))∧H 815=(bz 1 95 5 [])∧H 1003=bZq∧H 1006=bZq∧True) ⟨t2,t4,t9,t11,(uTq (uTq h2)),(uTq (uTq h3)),(uTq (uTq h4)),(uTq (uTq h9)),(by rw [aG,h11,(cVq h815)]; rfl),(uTq (uTq h14)),(uTq (uTq h16)),(uTq (uTq h43)),(by rw [aV _ _ (by decide),aG,(cVq h815)]),(uTq (uTq h1003)),(uTq (uTq h1006)),trivial⟩ ?_
 intro T H ⟨t2,t4,t9,t11,h2,h3,h4,h9,h11,h14,h16,h43,h815,h1003,h1006,_⟩
 refine tY fun K hK=>(aU t2 h2 (aL rfl h2 rfl rfl (aL t9 h9 rfl rfl (bI rfl rfl ?_))))
 by_cases heF:mM ([]) (⟨m.s,(aM f).1,[]⟩:Pl)
 ·
  refine fP (aY t11 (aY rfl cU)) (aCb ([]) m.s ((aM f).1) (0:Int) ([]) 1 1 1 0 0 heF _ h11 h43 h815 (cVq h1003) ⟨cVq h1006,congrArg Blk.live h1006⟩ (Nat.zero_le _) v0 (fun _ e=>absurd e.symm (aMP _))) (aA rfl (bG rfl rfl (bG rfl rfl (aA rfl (aA rfl ?_)))))
  refine fM (hK _ _ ?_); clear hK K
  refine dQ (R:=fun T H=>T 2=(mPq 2)∧T 4=(mPq 4)∧T 10=(iV ((fnd ([]) (⟨m.s,(aM f).1,[]⟩:Pl)).2))∧T 11=(mPq 11)∧T 12=(V.bool ((fnd ([]) (⟨m.s,(aM f).1,[]⟩:Pl)).1))∧H 2=(bMq m)∧H 3=(bk 1 24 3 [[(iV f.op),(iV f.arg),(V.sl (List.map cF f.kids))]])∧H 4=(bk 1 54 2 [[V.nilsl,V.nilsl]])∧H 9=(bk 1 24 3 [[(iV ((aM f).1.op)),(iV ((aM f).1.arg)),(V.sl (List.map cF ((aM f).1.kids)))]])∧H 11=(bk 1 92 4 [[(V.mm 43 1),(V.ms 815 2 0 (([]++[(⟨m.s,(aM f).1,[]⟩:Pl)]).length)),(iV m.s),(V.str (kyF ((aM f).1)))]])∧H 14=bZq∧H 16=bZq∧H 43=(bz 1 dV 2 (dZ (List.map plK ([]++[(⟨m.s,(aM f).1,[]⟩:Pl)]))))∧H 815=(bz 2 95 5 (List.map cPl ([]++[(⟨m.s,(aM f).1,[]⟩:Pl)])))∧H 1003=(⟨1,false,false,0,0,[]⟩:Blk)∧H 1006=(⟨1,false,false,0,0,[]⟩:Blk)∧True) ⟨t2,t4,rfl,t11,rfl,h2,h3,h4,h9,rfl,h14,h16,rfl,rfl,rfl,rfl,trivial⟩ ?_
  intro T H ⟨t2,t4,t10,t11,t12,h2,h3,h4,h9,h11,h14,h16,h43,h815,h1003,h1006,_⟩
  refine aB (W_r (aA t10 (cM rfl rfl (aA rfl ?_))))
  refine aS 2 (fun T H=>T 2=(mPq 2)∧T 4=(mPq 4)∧T 10=(iV ((fnd ([]) (⟨m.s,(aM f).1,[]⟩:Pl)).2))∧T 11=(mPq 11)∧T 12=(V.bool ((fnd ([]) (⟨m.s,(aM f).1,[]⟩:Pl)).1))∧T 57=(V.bool (decide (((fnd ([]) (⟨m.s,(aM f).1,[]⟩:Pl)).2)≠(0:Int))||((fnd ([]) (⟨m.s,(aM f).1,[]⟩:Pl)).1)))∧H 2=(bMq m)∧H 3=(bk 1 24 3 [[(iV f.op),(iV f.arg),(V.sl (List.map cF f.kids))]])∧H 4=(bk 1 54 2 [[V.nilsl,V.nilsl]])∧H 9=(bk 1 24 3 [[(iV ((aM f).1.op)),(iV ((aM f).1.arg)),(V.sl (List.map cF ((aM f).1.kids)))]])∧H 11=(bk 1 92 4 [[(V.mm 43 1),(V.ms 815 2 0 (([]++[(⟨m.s,(aM f).1,[]⟩:Pl)]).length)),(iV m.s),(V.str (kyF ((aM f).1)))]])∧H 14=bZq∧H 16=bZq∧H 43=(bz 1 dV 2 (dZ (List.map plK ([]++[(⟨m.s,(aM f).1,[]⟩:Pl)]))))∧H 815=(bz 2 95 5 (List.map cPl ([]++[(⟨m.s,(aM f).1,[]⟩:Pl)])))∧H 1003=(⟨1,false,false,0,0,[]⟩:Blk)∧H 1006=(⟨1,false,false,0,0,[]⟩:Blk)∧True) ?_ ?_
  ·
   by_cases g6:((fnd ([]) (⟨m.s,(aM f).1,[]⟩:Pl)).2)≠(0:Int)
   ·
    refine G_n (edT g6 rfl) (aR (edT g6 rfl) rfl ?_)
    exact ⟨t2,t4,t10,t11,t12,(jI g6),h2,h3,h4,h9,h11,h14,h16,h43,h815,h1003,h1006,trivial⟩
   ·
    refine aC (edF g6 rfl) (aA t12 (aT (edF g6 rfl) rfl ?_))
    exact ⟨t2,t4,t10,t11,t12,(jF g6),h2,h3,h4,h9,h11,h14,h16,h43,h815,h1003,h1006,trivial⟩
  intro T H ⟨t2,t4,t10,t11,t12,t57,h2,h3,h4,h9,h11,h14,h16,h43,h815,h1003,h1006,_⟩
  refine R_e ?_
  refine cO t57 (fun c7=>?_) (fun c7=>?_)
  · exact False.elim ((aH7 heF) c7)
  have a4:=aPu (q:=vS m f) (fun e=>absurd (e.symm.trans c7) (by decide))
  refine aD (aB (W_r (aA rfl (R_e (aE fun Q8 n8 x8 y8 z8=>?_)))))
  refine cQ (fun mm T H=> ∃ (k:Nat) (l:List Pl) (ls:Int) (lk:List UInt8) (v8:Nat) (v14:Nat) (v16:Nat) (v1003:Nat) (v1006:Nat),mm=4097 - k∧T 2=(mPq 2)∧T 4=(mPq 4)∧T 11=(mPq 11)∧T 13=(iV ((k:Nat):Int))∧H 2=(bMq m)∧H 3=(bk 1 24 3 [[(iV f.op),(iV f.arg),(V.sl (List.map cF f.kids))]])∧H 4=(bk 1 54 2 [[V.nilsl,V.nilsl]])∧H 9=(bk 1 24 3 [[(iV ((aM f).1.op)),(iV ((aM f).1.arg)),(V.sl (List.map cF ((aM f).1.kids)))]])∧H 11=(bk 1 92 4 [[(V.mm 43 1),(V.ms 815 v8 0 l.length),(iV ls),(V.str lk)]])∧((H 14).ver=v14∧(H 14).live=false)∧((H 16).ver=v16∧(H 16).live=false)∧H 43=(bz 1 dV 2 (dZ (List.map plK l)))∧H 815=(bz v8 95 5 (List.map cPl l))∧((H 1003).ver=v1003∧(H 1003).live=false)∧((H 1006).ver=v1006∧(H 1006).live=false)∧(k≤l.length)∧(PlOK m l)∧(aA2 l ls lk)∧(vck m f=pD m (4097 - k) k l)) ?_ ?_
  ·
   refine ⟨_,0,([]++[(⟨m.s,(aM f).1,[]⟩:Pl)]),m.s,(kyF ((aM f).1)),2,0,0,1,1,rfl,t2,t4,t11,(eTq (rVq (iV 0)) rfl),h2,h3,h4,h9,(eTq h11 (by rfl)),⟨(cVq h14),congrArg Blk.live h14⟩,⟨(cVq h16),congrArg Blk.live h16⟩,(eTq h43 (by rfl)),(eTq h815 (by rfl)),⟨(cVq h1003),congrArg Blk.live h1003⟩,⟨(cVq h1006),congrArg Blk.live h1006⟩,?_,?_,?_,?_⟩
   · exact Nat.zero_le _
   · exact (eR heF).2 ▸ aOu a1 v0
   · exact xQ
   · exact (aMQ a1 a2 a3 a4).trans (congrArg (pD m (4097 - 0) 0) (eR heF).2)
  intro mm T H ⟨k,l,ls,lk,v8,v14,v16,v1003,v1006,hmm,t2,t4,t11,t13,h2,h3,h4,h9,h11,h14,h16,h43,h815,h1003,h1006,hk,hp,hla,hc⟩ Q9 p19 p29 p39
  unfold aMB
  refine aB (W_r (aA t13 (aU t11 h11 (aL rfl h11 rfl rfl (gJ rfl h815 (by simp) (bW rfl rfl (R_e ?_)))))))
  refine aK rfl (fun c10=>?_) fun c10=>?_
  ·
   have pk:=hp.at_ k (by omega)
   have hr:=aRt a1 pk.1 pk.2.1
   have hpl:=hp.len
   refine aD (aE fun Q11 n11 x11 y11 z11=>(W_r (aU t11 h11 (aL rfl h11 rfl rfl (aA t13 (oH (i:=k) (rVq (V.ms 815 v8 0 l.length)) (rNq k) h815 (gK (by omega)) rfl (by omega) (iD (v:=(V.agg [(iV ((nth l k).s)),(iV ((nth l k).f.op)),(iV ((nth l k).f.arg)),(V.sl (List.map cF ((nth l k).f.kids))),(aQ ((nth l k).w))])) rfl h815 (mH (by omega) (by rfl)) ?_)))))))
   refine bE (i:=14) (n:=v14) (m:=5) rfl h14.1 rfl (bP rfl rfl rfl rfl rfl rfl rfl rfl rfl (R_e (W_r (aU t2 h2 (aL rfl h2 rfl rfl (aA rfl (R_e ?_)))))))
   refine oR fun Q12 n12 x12 y12 z12=>?_
   refine cQ (fun mm T H=> ∃ (j:Nat) (l2:List Pl) (ls2:Int) (lk2:List UInt8) (w8:Nat) (v16:Nat) (v1003:Nat) (v1006:Nat),mm=m.i.toNat - j∧T 2=(mPq 2)∧T 4=(mPq 4)∧T 11=(mPq 11)∧T 13=(iV ((k:Nat):Int))∧T 14=(V.mp 14 (v14+1) 0 0)∧T 74=(iV m.i)∧T 75=(iV ((j:Nat):Int))∧H 2=(bMq m)∧H 3=(bk 1 24 3 [[(iV f.op),(iV f.arg),(V.sl (List.map cF f.kids))]])∧H 4=(bk 1 54 2 [[V.nilsl,V.nilsl]])∧H 9=(bk 1 24 3 [[(iV ((aM f).1.op)),(iV ((aM f).1.arg)),(V.sl (List.map cF ((aM f).1.kids)))]])∧H 11=(bk 1 92 4 [[(V.mm 43 1),(V.ms 815 w8 0 l2.length),(iV ls2),(V.str lk2)]])∧H 14=(bk (v14+1) 95 5 [[(iV ((nth l k).s)),(iV ((nth l k).f.op)),(iV ((nth l k).f.arg)),(V.sl (List.map cF ((nth l k).f.kids))),(aQ ((nth l k).w))]])∧((H 16).ver=v16∧(H 16).live=false)∧H 43=(bz 1 dV 2 (dZ (List.map plK l2)))∧H 815=(bz w8 95 5 (List.map cPl l2))∧((H 1003).ver=v1003∧(H 1003).live=false)∧((H 1006).ver=v1006∧(H 1006).live=false)∧(j≤m.i.toNat)∧(PlOK m l2)∧(aA2 l2 ls2 lk2)∧(l.length≤l2.length)∧(lE m (nth l k) m.i.toNat 0 l=lE m (nth l k) (m.i.toNat - j) j l2)) ?_ ?_
   ·
    refine ⟨_,0,l,ls,lk,v8,v16,v1003,v1006,rfl,t2,t4,t11,t13,rfl,rfl,(eTq (rVq (iV 0)) rfl),h2,h3,h4,h9,h11,rfl,h16,h43,h815,h1003,h1006,?_,?_,?_,?_,?_⟩
    · exact Nat.zero_le _
    · exact hp
    · exact hla
    · exact Nat.le_refl _
    · rfl
   intro mm T H ⟨j,l2,ls2,lk2,w8,v16,v1003,v1006,hmm,t2,t4,t11,t13,t14,t74,t75,h2,h3,h4,h9,h11,h14,h16,h43,h815,h1003,h1006,hj,hp2,hla2,hl2,hc2⟩ Q13 p113 p213 p313
   unfold aNs
   refine W_r (bW t75 t74 (R_e ?_))
   refine aK rfl (fun c14=>?_) fun c14=>?_
   ·
    refine aD (aE fun Q15 n15 x15 y15 z15=>(W_r (aA t75 (aA rfl (R_e (W_d (by exact (yQ h16.2 xX)) (aU t14 h14 ?_)))))))
    refine aL rfl h14 rfl rfl (aA rfl (aU t2 h2 (aL rfl h2 rfl rfl (aU t14 h14 (aL rfl h14 rfl rfl (fC (i:=((nth l k).s)) (rVq (aZ m.ot)) (rVq (iV ((nth l k).s))) (by omega) (by omega) rfl (aH rfl rfl ?_)))))))
    refine aA rfl (dE (i:=j) (rVq (aQ (nth m.ot ((nth l k).s).toNat))) (rNq j) (by omega) rfl (aH rfl rfl (aJ (aDW ((nth l k).f) ((j:Nat):Int) (nth (nth m.ot ((nth l k).s).toNat) j)) rfl (aA rfl (bG rfl rfl (bG rfl rfl (bE (i:=16) (n:=v16) (m:=3) rfl h16.1 rfl ?_)))))))
    refine bP rfl rfl rfl rfl rfl rfl rfl rfl rfl (aA rfl (R_e (aB (W_r (aA rfl (cM rfl rfl (R_e ?_)))))))
    refine aK rfl (fun c16=>?_) fun c16=>?_
    ·
     have d1:=hc.trans (tP (by omega) hp.len (hc2.trans (aOC (by omega) c16)))
     refine aB (W_r (bI rfl rfl (aA rfl (bP t4 rfl rfl h4 rfl rfl rfl rfl rfl (aA rfl (aA rfl (R_e ?_)))))))
     refine aW (y15 _ _ (p213 _ _ (y12 _ _ (y11 _ _ (p29 _ _ (y8 _ _ ?_))))))
     refine nR (bS (u:=(V.agg [V.nilsl,V.nilsl])) t4 (@rfl Blk (bk 1 54 2 [[V.nilsl,V.nilsl]])) (lB oB rfl rfl)) (cR (rVq (V.bool false))) (cR (rVq (iV ((stM ((nth l k).f) ((j:Nat):Int) (nth (nth m.ot ((nth l k).s).toNat) j)).2)))) (kW (dD ?_) (dD ?_)) (bD ?_) (aF ?_)
     · rw [d1]; try rfl
     · rw [d1]; try rfl
     · rw [d1]; try rfl
     · rw [d1]; try rfl
    have e1:=c16
    have x1:=aBB c16
    have p3:=aKJ (k:=k) a1 hp2 pk (by omega) (by omega) e1
    refine aD (W_r (aU t14 h14 (aL rfl h14 rfl rfl (aA rfl (bC rfl rfl (bC rfl rfl (aJ (aD9 ([(nth l k).w,[((j:Nat):Int)]]) (by simp only [cat,List.append_nil,List.length_append,List.length_singleton]; omega)) rfl ?_)))))))
    refine aA rfl (R_e (tY fun K hK=>(aU t2 h2 (aL rfl h2 rfl rfl (aU t14 h14 (aL rfl h14 rfl rfl (fC (i:=((nth l k).s)) (rVq (aZ m.nx)) (rVq (iV ((nth l k).s))) (by omega) (by omega) rfl ?_)))))))
    refine aH rfl rfl (aA rfl (dE (i:=j) (rVq (aQ (nth m.nx ((nth l k).s).toNat))) (rNq j) (by omega) rfl (aH rfl rfl (aL rfl rfl rfl rfl (aA rfl (bI rfl rfl ?_))))))
    by_cases heF:mM l2 (⟨nth (nth m.nx ((nth l k).s).toNat) j,(stM ((nth l k).f) ((j:Nat):Int) (nth (nth m.ot ((nth l k).s).toNat) j)).1,cat ([(nth l k).w,[((j:Nat):Int)]])⟩:Pl)
    ·
     refine fP (aY t11 (aY rfl cU)) (aDN l2 (⟨nth (nth m.nx ((nth l k).s).toNat) j,(stM ((nth l k).f) ((j:Nat):Int) (nth (nth m.ot ((nth l k).s).toNat) j)).1,cat ([(nth l k).w,[((j:Nat):Int)]])⟩:Pl) ls2 lk2 1 1 w8 v1003 v1006 heF _ h11 h43 h815 h1003.1 h1006 hp2.len x1 (aFf hla2)) (aA rfl (bG rfl rfl (bG rfl rfl (aA rfl (aA rfl ?_)))))
     refine fM (hK _ _ ?_); clear hK K
     refine dQ (R:=fun T H=>T 2=(mPq 2)∧T 4=(mPq 4)∧T 11=(mPq 11)∧T 13=(iV ((k:Nat):Int))∧T 14=(V.mp 14 (v14+1) 0 0)∧T 17=(iV ((fnd l2 (⟨nth (nth m.nx ((nth l k).s).toNat) j,(stM ((nth l k).f) ((j:Nat):Int) (nth (nth m.ot ((nth l k).s).toNat) j)).1,cat ([(nth l k).w,[((j:Nat):Int)]])⟩:Pl)).2))∧T 18=(aQ (cat ([(nth l k).w,[((j:Nat):Int)]])))∧T 19=(V.bool ((fnd l2 (⟨nth (nth m.nx ((nth l k).s).toNat) j,(stM ((nth l k).f) ((j:Nat):Int) (nth (nth m.ot ((nth l k).s).toNat) j)).1,cat ([(nth l k).w,[((j:Nat):Int)]])⟩:Pl)).1))∧T 74=(iV m.i)∧T 75=(iV ((j:Nat):Int))∧H 2=(bMq m)∧H 3=(bk 1 24 3 [[(iV f.op),(iV f.arg),(V.sl (List.map cF f.kids))]])∧H 4=(bk 1 54 2 [[V.nilsl,V.nilsl]])∧H 9=(bk 1 24 3 [[(iV ((aM f).1.op)),(iV ((aM f).1.arg)),(V.sl (List.map cF ((aM f).1.kids)))]])∧H 11=(bk 1 92 4 [[(V.mm 43 1),(V.ms 815 (w8+1) 0 ((l2++[(⟨nth (nth m.nx ((nth l k).s).toNat) j,(stM ((nth l k).f) ((j:Nat):Int) (nth (nth m.ot ((nth l k).s).toNat) j)).1,cat ([(nth l k).w,[((j:Nat):Int)]])⟩:Pl)]).length)),(iV (nth (nth m.nx ((nth l k).s).toNat) j)),(V.str (kyF ((stM ((nth l k).f) ((j:Nat):Int) (nth (nth m.ot ((nth l k).s).toNat) j)).1)))]])∧H 14=(bk (v14+1) 95 5 [[(iV ((nth l k).s)),(iV ((nth l k).f.op)),(iV ((nth l k).f.arg)),(V.sl (List.map cF ((nth l k).f.kids))),(aQ ((nth l k).w))]])∧H 16=(bk (v16+1) 24 3 [[(iV ((stM ((nth l k).f) ((j:Nat):Int) (nth (nth m.ot ((nth l k).s).toNat) j)).1.op)),(iV ((stM ((nth l k).f) ((j:Nat):Int) (nth (nth m.ot ((nth l k).s).toNat) j)).1.arg)),(V.sl (List.map cF ((stM ((nth l k).f) ((j:Nat):Int) (nth (nth m.ot ((nth l k).s).toNat) j)).1.kids)))]])∧H 43=(bz 1 dV 2 (dZ (List.map plK (l2++[(⟨nth (nth m.nx ((nth l k).s).toNat) j,(stM ((nth l k).f) ((j:Nat):Int) (nth (nth m.ot ((nth l k).s).toNat) j)).1,cat ([(nth l k).w,[((j:Nat):Int)]])⟩:Pl)]))))∧H 815=(bz (w8+1) 95 5 (List.map cPl (l2++[(⟨nth (nth m.nx ((nth l k).s).toNat) j,(stM ((nth l k).f) ((j:Nat):Int) (nth (nth m.ot ((nth l k).s).toNat) j)).1,cat ([(nth l k).w,[((j:Nat):Int)]])⟩:Pl)])))∧H 1003=(⟨v1003+1,false,false,0,0,[]⟩:Blk)∧H 1006=(⟨v1006+1,false,false,0,0,[]⟩:Blk)∧True) ⟨t2,t4,t11,t13,t14,rfl,rfl,rfl,t74,t75,h2,h3,h4,h9,rfl,h14,rfl,rfl,rfl,rfl,rfl,trivial⟩ ?_
     intro T H ⟨t2,t4,t11,t13,t14,t17,t18,t19,t74,t75,h2,h3,h4,h9,h11,h14,h16,h43,h815,h1003,h1006,_⟩
     refine aB (W_r (aA t17 (cM rfl rfl (R_e ?_))))
     refine aK rfl (fun c19=>?_) fun c19=>?_
     · exact False.elim ((fun (e:(fnd l2 (⟨nth (nth m.nx ((nth l k).s).toNat) j,(stM ((nth l k).f) ((j:Nat):Int) (nth (nth m.ot ((nth l k).s).toNat) j)).1,cat ([(nth l k).w,[((j:Nat):Int)]])⟩:Pl)).2≠0)=>e (congrArg Prod.snd (eR heF).1)) c19)
     have e2:=c19
     refine aD (W_r (aA t19 (R_e ?_)))
     refine mT rfl (fun c20=>?_) (fun c20=>?_)
     · exact False.elim ((fun (e:(fnd l2 (⟨nth (nth m.nx ((nth l k).s).toNat) j,(stM ((nth l k).f) ((j:Nat):Int) (nth (nth m.ot ((nth l k).s).toNat) j)).1,cat ([(nth l k).w,[((j:Nat):Int)]])⟩:Pl)).1=true)=>absurd (e.symm.trans (congrArg Prod.fst (eR heF).1)) (by decide)) c20)
     have e3:=c20
     replace e3: ¬(_=true):=fun q=>absurd (q.symm.trans e3) (by decide)
     refine dA (n15 _ _ (dQ (R:=fun T H=>T 2=(mPq 2)∧T 4=(mPq 4)∧T 11=(mPq 11)∧T 13=(iV ((k:Nat):Int))∧T 14=(V.mp 14 (v14+1) 0 0)∧T 18=(aQ (cat ([(nth l k).w,[((j:Nat):Int)]])))∧T 74=(iV m.i)∧T 75=(iV ((j:Nat):Int))∧T 124=(V.bool ((fnd l2 (⟨nth (nth m.nx ((nth l k).s).toNat) j,(stM ((nth l k).f) ((j:Nat):Int) (nth (nth m.ot ((nth l k).s).toNat) j)).1,cat ([(nth l k).w,[((j:Nat):Int)]])⟩:Pl)).1))∧H 2=(bMq m)∧H 3=(bk 1 24 3 [[(iV f.op),(iV f.arg),(V.sl (List.map cF f.kids))]])∧H 4=(bk 1 54 2 [[V.nilsl,V.nilsl]])∧H 9=(bk 1 24 3 [[(iV ((aM f).1.op)),(iV ((aM f).1.arg)),(V.sl (List.map cF ((aM f).1.kids)))]])∧H 11=(bk 1 92 4 [[(V.mm 43 1),(V.ms 815 (w8+1) 0 ((l2++[(⟨nth (nth m.nx ((nth l k).s).toNat) j,(stM ((nth l k).f) ((j:Nat):Int) (nth (nth m.ot ((nth l k).s).toNat) j)).1,cat ([(nth l k).w,[((j:Nat):Int)]])⟩:Pl)]).length)),(iV (nth (nth m.nx ((nth l k).s).toNat) j)),(V.str (kyF ((stM ((nth l k).f) ((j:Nat):Int) (nth (nth m.ot ((nth l k).s).toNat) j)).1)))]])∧H 14=(bk (v14+1) 95 5 [[(iV ((nth l k).s)),(iV ((nth l k).f.op)),(iV ((nth l k).f.arg)),(V.sl (List.map cF ((nth l k).f.kids))),(aQ ((nth l k).w))]])∧H 16=(bk (v16+1) 24 3 [[(iV ((stM ((nth l k).f) ((j:Nat):Int) (nth (nth m.ot ((nth l k).s).toNat) j)).1.op)),(iV ((stM ((nth l k).f) ((j:Nat):Int) (nth (nth m.ot ((nth l k).s).toNat) j)).1.arg)),(V.sl (List.map cF ((stM ((nth l k).f) ((j:Nat):Int) (nth (nth m.ot ((nth l k).s).toNat) j)).1.kids)))]])∧H 43=(bz 1 dV 2 (dZ (List.map plK (l2++[(⟨nth (nth m.nx ((nth l k).s).toNat) j,(stM ((nth l k).f) ((j:Nat):Int) (nth (nth m.ot ((nth l k).s).toNat) j)).1,cat ([(nth l k).w,[((j:Nat):Int)]])⟩:Pl)]))))∧H 815=(bz (w8+1) 95 5 (List.map cPl (l2++[(⟨nth (nth m.nx ((nth l k).s).toNat) j,(stM ((nth l k).f) ((j:Nat):Int) (nth (nth m.ot ((nth l k).s).toNat) j)).1,cat ([(nth l k).w,[((j:Nat):Int)]])⟩:Pl)])))∧H 1003=(⟨v1003+1,false,false,0,0,[]⟩:Blk)∧H 1006=(⟨v1006+1,false,false,0,0,[]⟩:Blk)∧True) ⟨t2,t4,t11,t13,t14,t18,t74,t75,(rVq (V.bool ((fnd l2 (⟨nth (nth m.nx ((nth l k).s).toNat) j,(stM ((nth l k).f) ((j:Nat):Int) (nth (nth m.ot ((nth l k).s).toNat) j)).1,cat ([(nth l k).w,[((j:Nat):Int)]])⟩:Pl)).1))),h2,h3,h4,h9,h11,h14,h16,h43,h815,h1003,h1006,trivial⟩ ?_))
     intro T H ⟨t2,t4,t11,t13,t14,t18,t74,t75,t124,h2,h3,h4,h9,h11,h14,h16,h43,h815,h1003,h1006,_⟩
     refine .freeze 16 (.done ?_)
     refine dQ (R:=fun T H=>T 2=(mPq 2)∧T 4=(mPq 4)∧T 11=(mPq 11)∧T 13=(iV ((k:Nat):Int))∧T 14=(V.mp 14 (v14+1) 0 0)∧T 18=(aQ (cat ([(nth l k).w,[((j:Nat):Int)]])))∧T 74=(iV m.i)∧T 75=(iV ((j:Nat):Int))∧T 124=(V.bool ((fnd l2 (⟨nth (nth m.nx ((nth l k).s).toNat) j,(stM ((nth l k).f) ((j:Nat):Int) (nth (nth m.ot ((nth l k).s).toNat) j)).1,cat ([(nth l k).w,[((j:Nat):Int)]])⟩:Pl)).1))∧H 2=(bMq m)∧H 3=(bk 1 24 3 [[(iV f.op),(iV f.arg),(V.sl (List.map cF f.kids))]])∧H 4=(bk 1 54 2 [[V.nilsl,V.nilsl]])∧H 9=(bk 1 24 3 [[(iV ((aM f).1.op)),(iV ((aM f).1.arg)),(V.sl (List.map cF ((aM f).1.kids)))]])∧H 11=(bk 1 92 4 [[(V.mm 43 1),(V.ms 815 (w8+1) 0 ((l2++[(⟨nth (nth m.nx ((nth l k).s).toNat) j,(stM ((nth l k).f) ((j:Nat):Int) (nth (nth m.ot ((nth l k).s).toNat) j)).1,cat ([(nth l k).w,[((j:Nat):Int)]])⟩:Pl)]).length)),(iV (nth (nth m.nx ((nth l k).s).toNat) j)),(V.str (kyF ((stM ((nth l k).f) ((j:Nat):Int) (nth (nth m.ot ((nth l k).s).toNat) j)).1)))]])∧H 14=(bk (v14+1) 95 5 [[(iV ((nth l k).s)),(iV ((nth l k).f.op)),(iV ((nth l k).f.arg)),(V.sl (List.map cF ((nth l k).f.kids))),(aQ ((nth l k).w))]])∧((H 16).ver=v16+1∧(H 16).live=false)∧H 43=(bz 1 dV 2 (dZ (List.map plK (l2++[(⟨nth (nth m.nx ((nth l k).s).toNat) j,(stM ((nth l k).f) ((j:Nat):Int) (nth (nth m.ot ((nth l k).s).toNat) j)).1,cat ([(nth l k).w,[((j:Nat):Int)]])⟩:Pl)]))))∧H 815=(bz (w8+1) 95 5 (List.map cPl (l2++[(⟨nth (nth m.nx ((nth l k).s).toNat) j,(stM ((nth l k).f) ((j:Nat):Int) (nth (nth m.ot ((nth l k).s).toNat) j)).1,cat ([(nth l k).w,[((j:Nat):Int)]])⟩:Pl)])))∧H 1003=(⟨v1003+1,false,false,0,0,[]⟩:Blk)∧H 1006=(⟨v1006+1,false,false,0,0,[]⟩:Blk)∧True) ⟨(eF t2 rfl),(eF t4 rfl),(eF t11 rfl),(eF t13 rfl),(eF t14 rfl),(eF t18 rfl),(eF t74 rfl),(eF t75 rfl),(eF t124 rfl),(cH h2 (by decide)),(cH h3 (by decide)),(cH h4 (by decide)),(cH h9 (by decide)),(cH h11 (by decide)),(cH h14 (by decide)),(iZ (cVq h16)),(cH h43 (by decide)),(cH h815 (by decide)),(cH h1003 (by decide)),(cH h1006 (by decide)),trivial⟩ ?_
     intro T H ⟨t2,t4,t11,t13,t14,t18,t74,t75,t124,h2,h3,h4,h9,h11,h14,h16,h43,h815,h1003,h1006,_⟩
     refine W_t (bL t75 (rNq 1) (by omega) (aA rfl (R_e ?_)))
     refine p113 _ _ _ ?_ ⟨(j+1),(l2++[(⟨nth (nth m.nx ((nth l k).s).toNat) j,(stM ((nth l k).f) ((j:Nat):Int) (nth (nth m.ot ((nth l k).s).toNat) j)).1,cat ([(nth l k).w,[((j:Nat):Int)]])⟩:Pl)]),(nth (nth m.nx ((nth l k).s).toNat) j),(kyF ((stM ((nth l k).f) ((j:Nat):Int) (nth (nth m.ot ((nth l k).s).toNat) j)).1)),(w8+1),(v16+1),(v1003+1),(v1006+1),rfl,t2,t4,t11,t13,t14,t74,(eTq (rNq (j+1)) (by rfl)),h2,h3,h4,h9,(eTq h11 (by rfl)),h14,h16,(eTq h43 (by rfl)),(eTq h815 (by rfl)),⟨(cVq h1003),congrArg Blk.live h1003⟩,⟨(cVq h1006),congrArg Blk.live h1006⟩,?_,?_,?_,?_,?_⟩
     · omega
     · omega
     · first|exact (eR heF).2 ▸ p3|exact (oL heF) ▸ p3
     · first|exact xQ|exact hla2
     · first|exact hl2|(rw [List.length_append]; omega)
     · first|exact hc2.trans ((wD (by omega) e1 e2 e3).trans (by rw [show lL l2 (vNx m (nth l k) j)=_ from (eR heF).2]))|exact hc2.trans ((wD (by omega) e1 e2 e3).trans (by rw [show lL l2 (vNx m (nth l k) j)=_ from oL heF]))
    ·
     refine fP (aY t11 (aY rfl cU)) (aEq l2 (⟨nth (nth m.nx ((nth l k).s).toNat) j,(stM ((nth l k).f) ((j:Nat):Int) (nth (nth m.ot ((nth l k).s).toNat) j)).1,cat ([(nth l k).w,[((j:Nat):Int)]])⟩:Pl) ls2 lk2 1 1 w8 v1003 v1006 heF _ h11 h43 h815 h1003.1 h1006 hp2.len x1 (aFf hla2)) (aA rfl (bG rfl rfl (bG rfl rfl (aA rfl (aA rfl ?_)))))
     refine fM (hK _ _ ?_); clear hK K
     refine dQ (R:=fun T H=>T 2=(mPq 2)∧T 4=(mPq 4)∧T 11=(mPq 11)∧T 13=(iV ((k:Nat):Int))∧T 14=(V.mp 14 (v14+1) 0 0)∧T 17=(iV ((fnd l2 (⟨nth (nth m.nx ((nth l k).s).toNat) j,(stM ((nth l k).f) ((j:Nat):Int) (nth (nth m.ot ((nth l k).s).toNat) j)).1,cat ([(nth l k).w,[((j:Nat):Int)]])⟩:Pl)).2))∧T 18=(aQ (cat ([(nth l k).w,[((j:Nat):Int)]])))∧T 19=(V.bool ((fnd l2 (⟨nth (nth m.nx ((nth l k).s).toNat) j,(stM ((nth l k).f) ((j:Nat):Int) (nth (nth m.ot ((nth l k).s).toNat) j)).1,cat ([(nth l k).w,[((j:Nat):Int)]])⟩:Pl)).1))∧T 74=(iV m.i)∧T 75=(iV ((j:Nat):Int))∧H 2=(bMq m)∧H 3=(bk 1 24 3 [[(iV f.op),(iV f.arg),(V.sl (List.map cF f.kids))]])∧H 4=(bk 1 54 2 [[V.nilsl,V.nilsl]])∧H 9=(bk 1 24 3 [[(iV ((aM f).1.op)),(iV ((aM f).1.arg)),(V.sl (List.map cF ((aM f).1.kids)))]])∧H 11=(bk 1 92 4 [[(V.mm 43 1),(V.ms 815 w8 0 l2.length),(iV ls2),(V.str lk2)]])∧H 14=(bk (v14+1) 95 5 [[(iV ((nth l k).s)),(iV ((nth l k).f.op)),(iV ((nth l k).f.arg)),(V.sl (List.map cF ((nth l k).f.kids))),(aQ ((nth l k).w))]])∧H 16=(bk (v16+1) 24 3 [[(iV ((stM ((nth l k).f) ((j:Nat):Int) (nth (nth m.ot ((nth l k).s).toNat) j)).1.op)),(iV ((stM ((nth l k).f) ((j:Nat):Int) (nth (nth m.ot ((nth l k).s).toNat) j)).1.arg)),(V.sl (List.map cF ((stM ((nth l k).f) ((j:Nat):Int) (nth (nth m.ot ((nth l k).s).toNat) j)).1.kids)))]])∧H 43=(bz 1 dV 2 (dZ (List.map plK l2)))∧H 815=(bz w8 95 5 (List.map cPl l2))∧H 1003=(⟨v1003+1,false,false,0,0,[]⟩:Blk)∧H 1006=(⟨v1006+1,false,false,0,0,[]⟩:Blk)∧True) ⟨t2,t4,t11,t13,t14,rfl,rfl,rfl,t74,t75,h2,h3,h4,h9,h11,h14,rfl,h43,h815,rfl,rfl,trivial⟩ ?_
     intro T H ⟨t2,t4,t11,t13,t14,t17,t18,t19,t74,t75,h2,h3,h4,h9,h11,h14,h16,h43,h815,h1003,h1006,_⟩
     refine aB (W_r (aA t17 (cM rfl rfl (R_e ?_))))
     refine aK rfl (fun c23=>?_) fun c23=>?_
     ·
      have d1:=hc.trans (tP (by omega) hp.len (hc2.trans (aPo (by omega) e1 c23)))
      refine aB (W_r (bI rfl rfl (aA t17 (bP t4 rfl rfl h4 rfl rfl rfl rfl rfl (aA rfl (aA rfl (R_e ?_)))))))
      refine aW (y15 _ _ (p213 _ _ (y12 _ _ (y11 _ _ (p29 _ _ (y8 _ _ ?_))))))
      refine nR (bS (u:=(V.agg [V.nilsl,V.nilsl])) t4 (@rfl Blk (bk 1 54 2 [[V.nilsl,V.nilsl]])) (lB oB rfl rfl)) (cR (rVq (V.bool false))) (cR (rVq (iV ((fnd l2 (⟨nth (nth m.nx ((nth l k).s).toNat) j,(stM ((nth l k).f) ((j:Nat):Int) (nth (nth m.ot ((nth l k).s).toNat) j)).1,cat ([(nth l k).w,[((j:Nat):Int)]])⟩:Pl)).2)))) (kW (dD ?_) (dD ?_)) (bD ?_) (aF ?_)
      · rw [d1]; try rfl
      · rw [d1]; try rfl
      · rw [d1]; try rfl
      · rw [d1]; try rfl
     have e2:=c23
     refine aD (W_r (aA t19 (R_e ?_)))
     refine mT rfl (fun c24=>?_) (fun c24=>?_)
     ·
      have d1:=hc.trans (tP (by omega) hp.len (hc2.trans (aPa (by omega) e1 e2 c24)))
      refine W_r (aL t2 h2 rfl rfl (aA t18 (aJ (oW m (cat ([(nth l k).w,[((j:Nat):Int)]]))) rfl (aA rfl (bG rfl rfl (bG rfl rfl (aA rfl ?_)))))))
      refine aA rfl (R_e (W_r (aA t18 (aA rfl (bI rfl rfl (aA rfl (bH rfl rfl ?_)))))))
      refine aA rfl (bP t4 rfl rfl h4 rfl rfl rfl rfl rfl (aA rfl (aA rfl (R_e (aN (y15 _ _ (p213 _ _ ?_)))))))
      refine y12 _ _ (y11 _ _ (p29 _ _ (y8 _ _ ?_)))
      refine nR (bS (u:=(V.agg [(aQ (cat ([(nth l k).w,[((j:Nat):Int)]]))),(aQ (dP m m.s (cat ([(nth l k).w,[((j:Nat):Int)]]))))])) t4 (@rfl Blk (bk 1 54 2 [[(aQ (cat ([(nth l k).w,[((j:Nat):Int)]]))),(aQ (dP m m.s (cat ([(nth l k).w,[((j:Nat):Int)]]))))]])) (lB oB rfl rfl)) (cR (rVq (V.bool (decide ((frE m m.s (cat ([(nth l k).w,[((j:Nat):Int)]])))=(0:Int)))))) (cR (rVq (iV (frE m m.s (cat ([(nth l k).w,[((j:Nat):Int)]])))))) (kW (eI ?_ (fun _=>by simp)) (eI ?_ (fun _=>by simp))) (bD ?_) (aF ?_)
      · rw [d1]; try rfl
      · rw [d1]; try rfl
      · rw [d1]; try rfl
      · rw [d1]; try rfl
     have e3:=c24
     replace e3: ¬(_=true):=fun q=>absurd (q.symm.trans e3) (by decide)
     refine dA (n15 _ _ (dQ (R:=fun T H=>T 2=(mPq 2)∧T 4=(mPq 4)∧T 11=(mPq 11)∧T 13=(iV ((k:Nat):Int))∧T 14=(V.mp 14 (v14+1) 0 0)∧T 18=(aQ (cat ([(nth l k).w,[((j:Nat):Int)]])))∧T 74=(iV m.i)∧T 75=(iV ((j:Nat):Int))∧T 124=(V.bool ((fnd l2 (⟨nth (nth m.nx ((nth l k).s).toNat) j,(stM ((nth l k).f) ((j:Nat):Int) (nth (nth m.ot ((nth l k).s).toNat) j)).1,cat ([(nth l k).w,[((j:Nat):Int)]])⟩:Pl)).1))∧H 2=(bMq m)∧H 3=(bk 1 24 3 [[(iV f.op),(iV f.arg),(V.sl (List.map cF f.kids))]])∧H 4=(bk 1 54 2 [[V.nilsl,V.nilsl]])∧H 9=(bk 1 24 3 [[(iV ((aM f).1.op)),(iV ((aM f).1.arg)),(V.sl (List.map cF ((aM f).1.kids)))]])∧H 11=(bk 1 92 4 [[(V.mm 43 1),(V.ms 815 w8 0 l2.length),(iV ls2),(V.str lk2)]])∧H 14=(bk (v14+1) 95 5 [[(iV ((nth l k).s)),(iV ((nth l k).f.op)),(iV ((nth l k).f.arg)),(V.sl (List.map cF ((nth l k).f.kids))),(aQ ((nth l k).w))]])∧H 16=(bk (v16+1) 24 3 [[(iV ((stM ((nth l k).f) ((j:Nat):Int) (nth (nth m.ot ((nth l k).s).toNat) j)).1.op)),(iV ((stM ((nth l k).f) ((j:Nat):Int) (nth (nth m.ot ((nth l k).s).toNat) j)).1.arg)),(V.sl (List.map cF ((stM ((nth l k).f) ((j:Nat):Int) (nth (nth m.ot ((nth l k).s).toNat) j)).1.kids)))]])∧H 43=(bz 1 dV 2 (dZ (List.map plK l2)))∧H 815=(bz w8 95 5 (List.map cPl l2))∧H 1003=(⟨v1003+1,false,false,0,0,[]⟩:Blk)∧H 1006=(⟨v1006+1,false,false,0,0,[]⟩:Blk)∧True) ⟨t2,t4,t11,t13,t14,t18,t74,t75,(rVq (V.bool ((fnd l2 (⟨nth (nth m.nx ((nth l k).s).toNat) j,(stM ((nth l k).f) ((j:Nat):Int) (nth (nth m.ot ((nth l k).s).toNat) j)).1,cat ([(nth l k).w,[((j:Nat):Int)]])⟩:Pl)).1))),h2,h3,h4,h9,h11,h14,h16,h43,h815,h1003,h1006,trivial⟩ ?_))
     intro T H ⟨t2,t4,t11,t13,t14,t18,t74,t75,t124,h2,h3,h4,h9,h11,h14,h16,h43,h815,h1003,h1006,_⟩
     refine .freeze 16 (.done ?_)
     refine dQ (R:=fun T H=>T 2=(mPq 2)∧T 4=(mPq 4)∧T 11=(mPq 11)∧T 13=(iV ((k:Nat):Int))∧T 14=(V.mp 14 (v14+1) 0 0)∧T 18=(aQ (cat ([(nth l k).w,[((j:Nat):Int)]])))∧T 74=(iV m.i)∧T 75=(iV ((j:Nat):Int))∧T 124=(V.bool ((fnd l2 (⟨nth (nth m.nx ((nth l k).s).toNat) j,(stM ((nth l k).f) ((j:Nat):Int) (nth (nth m.ot ((nth l k).s).toNat) j)).1,cat ([(nth l k).w,[((j:Nat):Int)]])⟩:Pl)).1))∧H 2=(bMq m)∧H 3=(bk 1 24 3 [[(iV f.op),(iV f.arg),(V.sl (List.map cF f.kids))]])∧H 4=(bk 1 54 2 [[V.nilsl,V.nilsl]])∧H 9=(bk 1 24 3 [[(iV ((aM f).1.op)),(iV ((aM f).1.arg)),(V.sl (List.map cF ((aM f).1.kids)))]])∧H 11=(bk 1 92 4 [[(V.mm 43 1),(V.ms 815 w8 0 l2.length),(iV ls2),(V.str lk2)]])∧H 14=(bk (v14+1) 95 5 [[(iV ((nth l k).s)),(iV ((nth l k).f.op)),(iV ((nth l k).f.arg)),(V.sl (List.map cF ((nth l k).f.kids))),(aQ ((nth l k).w))]])∧((H 16).ver=v16+1∧(H 16).live=false)∧H 43=(bz 1 dV 2 (dZ (List.map plK l2)))∧H 815=(bz w8 95 5 (List.map cPl l2))∧H 1003=(⟨v1003+1,false,false,0,0,[]⟩:Blk)∧H 1006=(⟨v1006+1,false,false,0,0,[]⟩:Blk)∧True) ⟨(eF t2 rfl),(eF t4 rfl),(eF t11 rfl),(eF t13 rfl),(eF t14 rfl),(eF t18 rfl),(eF t74 rfl),(eF t75 rfl),(eF t124 rfl),(cH h2 (by decide)),(cH h3 (by decide)),(cH h4 (by decide)),(cH h9 (by decide)),(cH h11 (by decide)),(cH h14 (by decide)),(iZ (cVq h16)),(cH h43 (by decide)),(cH h815 (by decide)),(cH h1003 (by decide)),(cH h1006 (by decide)),trivial⟩ ?_
     intro T H ⟨t2,t4,t11,t13,t14,t18,t74,t75,t124,h2,h3,h4,h9,h11,h14,h16,h43,h815,h1003,h1006,_⟩
     refine W_t (bL t75 (rNq 1) (by omega) (aA rfl (R_e ?_)))
     refine p113 _ _ _ ?_ ⟨(j+1),l2,ls2,lk2,w8,(v16+1),(v1003+1),(v1006+1),rfl,t2,t4,t11,t13,t14,t74,(eTq (rNq (j+1)) (by rfl)),h2,h3,h4,h9,h11,h14,h16,h43,h815,⟨(cVq h1003),congrArg Blk.live h1003⟩,⟨(cVq h1006),congrArg Blk.live h1006⟩,?_,?_,?_,?_,?_⟩
     · omega
     · omega
     · first|exact (eR heF).2 ▸ p3|exact (oL heF) ▸ p3
     · first|exact xQ|exact hla2
     · first|exact hl2|(rw [List.length_append]; omega)
     · first|exact hc2.trans ((wD (by omega) e1 e2 e3).trans (by rw [show lL l2 (vNx m (nth l k) j)=_ from (eR heF).2]))|exact hc2.trans ((wD (by omega) e1 e2 e3).trans (by rw [show lL l2 (vNx m (nth l k) j)=_ from oL heF]))
   have hr0:=hc2.trans (aHQ (by omega))
   refine aX (p313 _ _ _ (x12 _ _ (n11 _ _ (dQ (R:=fun T H=>T 2=(mPq 2)∧T 4=(mPq 4)∧T 11=(mPq 11)∧T 13=(iV ((k:Nat):Int))∧T 14=(V.mp 14 (v14+1) 0 0)∧T 74=(iV m.i)∧T 75=(iV ((j:Nat):Int))∧T 76=(V.bool (decide (((j:Nat):Int) < m.i)))∧H 2=(bMq m)∧H 3=(bk 1 24 3 [[(iV f.op),(iV f.arg),(V.sl (List.map cF f.kids))]])∧H 4=(bk 1 54 2 [[V.nilsl,V.nilsl]])∧H 9=(bk 1 24 3 [[(iV ((aM f).1.op)),(iV ((aM f).1.arg)),(V.sl (List.map cF ((aM f).1.kids)))]])∧H 11=(bk 1 92 4 [[(V.mm 43 1),(V.ms 815 w8 0 l2.length),(iV ls2),(V.str lk2)]])∧H 14=(bk (v14+1) 95 5 [[(iV ((nth l k).s)),(iV ((nth l k).f.op)),(iV ((nth l k).f.arg)),(V.sl (List.map cF ((nth l k).f.kids))),(aQ ((nth l k).w))]])∧((H 16).ver=v16∧(H 16).live=false)∧H 43=(bz 1 dV 2 (dZ (List.map plK l2)))∧H 815=(bz w8 95 5 (List.map cPl l2))∧((H 1003).ver=v1003∧(H 1003).live=false)∧((H 1006).ver=v1006∧(H 1006).live=false)∧True) ⟨t2,t4,t11,t13,t14,t74,t75,(rVq (V.bool (decide (((j:Nat):Int) < m.i)))),h2,h3,h4,h9,h11,h14,h16,h43,h815,h1003,h1006,trivial⟩ ?_))))
   intro T H ⟨t2,t4,t11,t13,t14,t74,t75,t76,h2,h3,h4,h9,h11,h14,h16,h43,h815,h1003,h1006,_⟩
   refine .freeze 14 (.done ?_)
   refine dQ (R:=fun T H=>T 2=(mPq 2)∧T 4=(mPq 4)∧T 11=(mPq 11)∧T 13=(iV ((k:Nat):Int))∧T 14=(V.mp 14 (v14+1) 0 0)∧T 74=(iV m.i)∧T 75=(iV ((j:Nat):Int))∧T 76=(V.bool (decide (((j:Nat):Int) < m.i)))∧H 2=(bMq m)∧H 3=(bk 1 24 3 [[(iV f.op),(iV f.arg),(V.sl (List.map cF f.kids))]])∧H 4=(bk 1 54 2 [[V.nilsl,V.nilsl]])∧H 9=(bk 1 24 3 [[(iV ((aM f).1.op)),(iV ((aM f).1.arg)),(V.sl (List.map cF ((aM f).1.kids)))]])∧H 11=(bk 1 92 4 [[(V.mm 43 1),(V.ms 815 w8 0 l2.length),(iV ls2),(V.str lk2)]])∧((H 14).ver=v14+1∧(H 14).live=false)∧((H 16).ver=v16∧(H 16).live=false)∧H 43=(bz 1 dV 2 (dZ (List.map plK l2)))∧H 815=(bz w8 95 5 (List.map cPl l2))∧((H 1003).ver=v1003∧(H 1003).live=false)∧((H 1006).ver=v1006∧(H 1006).live=false)∧True) ⟨(eF t2 rfl),(eF t4 rfl),(eF t11 rfl),(eF t13 rfl),(eF t14 rfl),(eF t74 rfl),(eF t75 rfl),(eF t76 rfl),(cH h2 (by decide)),(cH h3 (by decide)),(cH h4 (by decide)),(cH h9 (by decide)),(cH h11 (by decide)),(iZ (cVq h14)),(sS h16),(cH h43 (by decide)),(cH h815 (by decide)),(sS h1003),(sS h1006),trivial⟩ ?_
   intro T H ⟨t2,t4,t11,t13,t14,t74,t75,t76,h2,h3,h4,h9,h11,h14,h16,h43,h815,h1003,h1006,_⟩
   refine W_t (aA t13 (bL rfl (rNq 1) (by omega) (aA rfl (R_e ?_))))
   refine p19 _ _ _ ?_ ⟨(k+1),l2,ls2,lk2,w8,(v14+1),v16,v1003,v1006,rfl,t2,t4,t11,(eTq (rNq (k+1)) (by rfl)),h2,h3,h4,h9,h11,h14,h16,h43,h815,h1003,h1006,?_,?_,?_,?_⟩
   · have:=hp.len; omega
   · omega
   · exact hp2
   · exact hla2
   · exact hc.trans (aL9 (by omega) hp.len hr0)
  have d1:=hc.trans (aJW (by omega))
  refine aX (p39 _ _ _ (x8 _ _ (.done (W_r (bI rfl rfl (bP t4 rfl rfl h4 rfl rfl rfl rfl rfl (aA rfl ?_)))))))
  refine aA rfl (R_e (aN ?_))
  refine nR (bS (u:=(V.agg [V.nilsl,V.nilsl])) t4 (@rfl Blk (bk 1 54 2 [[V.nilsl,V.nilsl]])) (lB oB rfl rfl)) (cR (rVq (V.bool false))) (cR (rVq (iV 0))) (kW (dD ?_) (dD ?_)) (bD ?_) (aF ?_)
  · rw [d1]; try rfl
  · rw [d1]; try rfl
  · rw [d1]; try rfl
  · rw [d1]; try rfl
 ·
  refine fP (aY t11 (aY rfl cU)) (aC7 ([]) m.s ((aM f).1) (0:Int) ([]) 1 1 1 0 0 heF _ h11 h43 h815 (cVq h1003) ⟨cVq h1006,congrArg Blk.live h1006⟩ (Nat.zero_le _) v0 (fun _ e=>absurd e.symm (aMP _))) (aA rfl (bG rfl rfl (bG rfl rfl (aA rfl (aA rfl ?_)))))
  refine fM (hK _ _ ?_); clear hK K
  refine dQ (R:=fun T H=>T 2=(mPq 2)∧T 4=(mPq 4)∧T 10=(iV ((fnd ([]) (⟨m.s,(aM f).1,[]⟩:Pl)).2))∧T 11=(mPq 11)∧T 12=(V.bool ((fnd ([]) (⟨m.s,(aM f).1,[]⟩:Pl)).1))∧H 2=(bMq m)∧H 3=(bk 1 24 3 [[(iV f.op),(iV f.arg),(V.sl (List.map cF f.kids))]])∧H 4=(bk 1 54 2 [[V.nilsl,V.nilsl]])∧H 9=(bk 1 24 3 [[(iV ((aM f).1.op)),(iV ((aM f).1.arg)),(V.sl (List.map cF ((aM f).1.kids)))]])∧H 11=(bk 1 92 4 [[(V.mm 43 1),(V.ms 815 1 0 0),(iV 0),(V.str ([]))]])∧H 14=bZq∧H 16=bZq∧H 43=(bz 1 dV 2 (dZ (List.map plK [])))∧H 815=(bz 1 95 5 [])∧H 1003=(⟨1,false,false,0,0,[]⟩:Blk)∧H 1006=(⟨1,false,false,0,0,[]⟩:Blk)∧True) ⟨t2,t4,rfl,t11,rfl,h2,h3,h4,h9,h11,h14,h16,h43,h815,rfl,rfl,trivial⟩ ?_
  intro T H ⟨t2,t4,t10,t11,t12,h2,h3,h4,h9,h11,h14,h16,h43,h815,h1003,h1006,_⟩
  refine aB (W_r (aA t10 (cM rfl rfl (aA rfl ?_))))
  refine aS 2 (fun T H=>T 2=(mPq 2)∧T 4=(mPq 4)∧T 10=(iV ((fnd ([]) (⟨m.s,(aM f).1,[]⟩:Pl)).2))∧T 11=(mPq 11)∧T 12=(V.bool ((fnd ([]) (⟨m.s,(aM f).1,[]⟩:Pl)).1))∧T 57=(V.bool (decide (((fnd ([]) (⟨m.s,(aM f).1,[]⟩:Pl)).2)≠(0:Int))||((fnd ([]) (⟨m.s,(aM f).1,[]⟩:Pl)).1)))∧H 2=(bMq m)∧H 3=(bk 1 24 3 [[(iV f.op),(iV f.arg),(V.sl (List.map cF f.kids))]])∧H 4=(bk 1 54 2 [[V.nilsl,V.nilsl]])∧H 9=(bk 1 24 3 [[(iV ((aM f).1.op)),(iV ((aM f).1.arg)),(V.sl (List.map cF ((aM f).1.kids)))]])∧H 11=(bk 1 92 4 [[(V.mm 43 1),(V.ms 815 1 0 0),(iV 0),(V.str ([]))]])∧H 14=bZq∧H 16=bZq∧H 43=(bz 1 dV 2 (dZ (List.map plK [])))∧H 815=(bz 1 95 5 [])∧H 1003=(⟨1,false,false,0,0,[]⟩:Blk)∧H 1006=(⟨1,false,false,0,0,[]⟩:Blk)∧True) ?_ ?_
  ·
   by_cases g27:((fnd ([]) (⟨m.s,(aM f).1,[]⟩:Pl)).2)≠(0:Int)
   ·
    refine G_n (edT g27 rfl) (aR (edT g27 rfl) rfl ?_)
    exact ⟨t2,t4,t10,t11,t12,(jI g27),h2,h3,h4,h9,h11,h14,h16,h43,h815,h1003,h1006,trivial⟩
   ·
    refine aC (edF g27 rfl) (aA t12 (aT (edF g27 rfl) rfl ?_))
    exact ⟨t2,t4,t10,t11,t12,(jF g27),h2,h3,h4,h9,h11,h14,h16,h43,h815,h1003,h1006,trivial⟩
  intro T H ⟨t2,t4,t10,t11,t12,t57,h2,h3,h4,h9,h11,h14,h16,h43,h815,h1003,h1006,_⟩
  refine R_e ?_
  refine cO t57 (fun c28=>?_) (fun c28=>?_)
  ·
   have d1:=aMw a1 a2 a3 (aNX c28)
   refine aB (W_r (bI rfl rfl (aA t12 (aA t10 (bP t4 rfl rfl h4 rfl rfl rfl rfl rfl (aA rfl (aA rfl ?_)))))))
   refine R_e (aW ?_)
   refine nR (bS (u:=(V.agg [V.nilsl,V.nilsl])) t4 (@rfl Blk (bk 1 54 2 [[V.nilsl,V.nilsl]])) (lB oB rfl rfl)) (cR (rVq (V.bool ((fnd ([]) (⟨m.s,(aM f).1,[]⟩:Pl)).1)))) (cR (rVq (iV ((fnd ([]) (⟨m.s,(aM f).1,[]⟩:Pl)).2)))) (kW (dD ?_) (dD ?_)) (bD ?_) (aF ?_)
   · rw [d1]; try rfl
   · rw [d1]; try rfl
   · rw [d1]; try rfl
   · rw [d1]; try rfl
  · exact absurd (eTq (Eq.symm c28) (aJI heF)) (by decide)
def aQM:List SO:=[
 qM 17 0,
 qM 18 5,
 qA 19 1 17 18,
 ql 20 19,
 qM 21 1,
 qM 22 5,
 qA 23 1 21 22,
 ql 24 23,
 qP 25 .neq 20 24]
def aMv:SC:=.seq (.seq (.reg [qM 11 5,qM 12 0,qN 13 12,qP 14 .lss 11 13]) (.cond (.t 14) (.skip) (.exit 0))) (.seq (.block 1 (.seq (.reg aQM) (.cond (.t 25) (.seq (.reg [sO 4 (.mv (.c (.bool false)))]) (.ret)) (.skip)))) (.reg [qM 15 5,qC 16 .add 15 1,qM 5 16]))
def s32:SF:=⟨26,[.tmp 4],.seq (.reg [sO 4 (.mv (.c (.bool false)))]) (.seq (.seq (.reg [qM 6 0,qN 7 6,qM 8 1,qN 9 8,qP 10 .neq 7 9]) (.cond (.t 10) (.seq (.reg [sO 4 (.mv (.c (.bool false)))]) (.ret)) (.skip))) (.seq (.seq (.reg [qI 5 0]) (.block 0 (.loop aMv))) (.seq (.reg [sO 4 (.mv (.c (.bool true)))]) (.ret))))⟩
theorem aO3:bF Tryz.prog ⟨[51,59,84,90,97,109,153,154,155,160],[],[],[]⟩ Tryz.f32=some s32:=by kernel_rfl
theorem oG (a b:List Int):aP Tryz.prog 32 [(aQ a),(aQ b)] (V.bool (decide (a=b))):=by
 refine pW Tryz.func32 aO3 fun hB=>?_
 unfold s32
 dsimp only
 refine W_r (aA rfl (R_e (aB (W_r (aA rfl (bM rfl (aA rfl ?_)))))))
 refine bM rfl (cM rfl rfl (R_e ?_))
 refine aK rfl (fun c1=>?_) fun c1=>?_
 ·
  refine aB (W_r (aA rfl (R_e (aW ?_))))
  refine bB (rVq (V.bool false)) (bD ?_)
  · exact (decide_eq_false (fun e=>by subst e; omega)).symm
 refine aD (aB (W_r (aA rfl (R_e (aE fun Q2 n2 x2 y2 z2=>?_)))))
 refine cQ (fun mm T H=> ∃ (k:Nat),mm=a.length - k∧T 0=(aQ a)∧T 1=(aQ b)∧T 5=(iV ((k:Nat):Int))∧(k≤a.length)∧(a.length=b.length)∧(∀ j,j < k→nth a j=nth b j)) ?_ ?_
 ·
  refine ⟨_,0,rfl,rfl,rfl,(eTq (rVq (iV 0)) rfl),?_,?_,?_⟩
  · omega
  · omega
  · intro j hj; omega
 intro mm T H ⟨k,hmm,t0,t1,t5,hk,hl,hc⟩ Q3 p13 p23 p33
 unfold aMv
 refine aB (W_r (aA t5 (aA t0 (bM rfl (bW rfl rfl (R_e ?_))))))
 refine aK rfl (fun c4=>?_) fun c4=>?_
 ·
  refine aD (aE fun Q5 n5 x5 y5 z5=>(W_r (aA t0 (aA t5 (dE (i:=k) (rVq (aQ a)) (rNq k) (by omega) rfl (aH rfl rfl (aA t1 ?_)))))))
  refine aA t5 (dE (i:=k) (rVq (aQ b)) (rNq k) (by omega) rfl (aH rfl rfl (cM rfl rfl (R_e ?_))))
  refine cW rfl (fun c6=>?_) fun c6=>?_
  ·
   refine W_r (aA rfl (R_e (aN (y5 _ _ (p23 _ _ (y2 _ _ ?_))))))
   refine bB (rVq (V.bool false)) (bD ?_)
   · exact (decide_eq_false (fun e=>by subst e; omega)).symm
  refine dA (n5 _ _ (.done (W_t (aA t5 (bL rfl (rNq 1) (by omega) (aA rfl (R_e ?_)))))))
  refine p13 _ _ _ ?_ ⟨(k+1),rfl,t0,t1,(eTq (rNq (k+1)) (by rfl)),?_,?_,?_⟩
  · omega
  · omega
  · omega
  · intro j hj
    by_cases e:j=k
    · subst e; omega
    · exact hc j (by omega)
 refine aX (p33 _ _ _ (x2 _ _ (.done (W_r (aA rfl (R_e (aN ?_)))))))
 refine bB (rVq (V.bool true)) (bD ?_)
 · exact (decide_eq_true (aBz hl fun j hj=>hc j (by omega))).symm
def aRR:List SO:=[
 sO 1 (.bslice 3 1 false [.int .i64 0] 2 [(0,.c (.int .i64 1)),(1,.c (.int .i64 0))]),
 sO 2 (.bslice 3 1 false [.int .i64 0] 2 [(0,.c (.int .i64 1)),(1,.c (.int .i64 0))]),
 sO 3 (.bslice 52 1 false [.nilsl] 2 [(0,.t 1),(1,.t 2)]),
 sO 4 (.bslice 3 1 false [.int .i64 0] 2 [(0,.c (.int .i64 1)),(1,.c (.int .i64 0))]),
 sO 5 (.bslice 3 1 false [.int .i64 0] 2 [(0,.c (.int .i64 1)),(1,.c (.int .i64 2))]),
 sO 6 (.bslice 52 1 false [.nilsl] 2 [(0,.t 4),(1,.t 5)]),
 sO 7 (.build [.int .i64 0,.int .i64 0,.nilsl,.nilsl] [(0,1,.c (.int .i64 2)),(2,1,.t 3),(3,1,.t 6)]),
 sN (.store 4 (.t 0) (.t 7))]
def s48:SF:=⟨8,[.cell 0 true 4],.seq (.reg [sO 0 (.alloc 50 [.int .i64 0,.int .i64 0,.nilsl,.nilsl])]) (.seq (.reg aRR) (.ret))⟩
theorem aOI:bF Tryz.prog ⟨[51,59,84,90,97,109,153,154,155,160],[],[],[]⟩ Tryz.f48=some s48:=by kernel_rfl
theorem uA:aP Tryz.prog 48 [] (V.agg [(iV 2),(iV 0),(aZ ([[1,0],[1,0]])),(aZ ([[1,0],[1,2]]))]):=by
 refine pW Tryz.func48 aOI fun hB=>?_
 unfold s48
 dsimp only
 refine W_r (bE (i:=0) (n:=0) (m:=4) rfl (cVq rfl) rfl (R_e (W_r (bC rfl rfl (bC rfl rfl (bC rfl rfl (bC rfl rfl ?_)))))))
 refine bC rfl rfl (bC rfl rfl (bI rfl rfl (bP rfl rfl rfl rfl rfl rfl rfl rfl rfl (R_e (aN ?_)))))
 refine eK (bS (u:=(V.agg [(iV 2),(iV 0),(V.sl [[(V.sl [[(iV 1)],[(iV 0)]])],[(V.sl [[(iV 1)],[(iV 0)]])]]),(V.sl [[(V.sl [[(iV 1)],[(iV 0)]])],[(V.sl [[(iV 1)],[(iV 2)]])]])])) rfl (@rfl Blk (bk 1 50 4 [[(iV 2),(iV 0),(V.sl [[(V.sl [[(iV 1)],[(iV 0)]])],[(V.sl [[(iV 1)],[(iV 0)]])]]),(V.sl [[(V.sl [[(iV 1)],[(iV 0)]])],[(V.sl [[(iV 1)],[(iV 2)]])]])]])) (lB oB rfl rfl)) (aLh (fS (cA (by simp) rfl) (fS (cA (by simp) rfl) (fS (cA (by simp) ?_) (fS (cA (by simp) ?_) rfl)))))
 · first|rfl|omega|simp_all
 · first|rfl|omega|simp_all
def aQ4:List SO:=[
 qL 7 3 3,
 qL 8 3 1,
 sO 9 (.bslice 24 3 false [.int .i64 0,.int .i64 0,.nilsl] 1 [(0,.t 8)]),
 sO 10 (.build [.int .i64 0,.int .i64 0,.nilsl] [(0,1,.c (.int .i64 4)),(2,1,.t 9)]),
 sO 11 (.bslice 24 3 false [.int .i64 0,.int .i64 0,.nilsl] 2 [(0,.t 7),(1,.t 10)]),
 sO 12 (.build [.int .i64 0,.int .i64 0,.nilsl] [(0,1,.c (.int .i64 10)),(2,1,.t 11)]),
 sN (.store 3 (.t 2) (.t 12))]
def s49:SF:=⟨13,[.cell 2 true 3],.seq (.reg [sO 1 (.box 24 3 (.t 0)),sO 2 (.alloc 24 [.int .i64 0,.int .i64 0,.nilsl])]) (.seq (.reg [sO 4 (.build [.int .i64 0,.int .i64 0,.nilsl] [(0,1,.c (.int .i64 1))]),sO 5 (.bslice 24 3 false [.int .i64 0,.int .i64 0,.nilsl] 1 [(0,.t 4)]),sO 6 (.build [.int .i64 0,.int .i64 0,.nilsl] [(0,1,.c (.int .i64 4)),(2,1,.t 5)]),sO 3 (.alloc 24 [.int .i64 0,.int .i64 0,.nilsl]),sN (.store 3 (.t 3) (.t 6))]) (.seq (.reg aQ4) (.ret)))⟩
theorem aPs:bF Tryz.prog ⟨[51,59,84,90,97,109,153,154,155,160],[],[],[]⟩ Tryz.f49=some s49:=by kernel_rfl
theorem qR (f:Fm):aP Tryz.prog 49 [(V.agg [(iV f.op),(iV f.arg),(V.sl (List.map cF f.kids))])] (V.agg [(iV 10),(iV 0),(V.sl (List.map cF ([Fm.nd 4 0 [Fm.nd 1 0 []],Fm.nd 4 0 [f]])))]):=by
 refine pW Tryz.func49 aPs fun hB=>?_
 unfold s49
 dsimp only
 refine W_r (cK (i:=1) (n:=0) (m:=3) (cs:=[(iV f.op),(iV f.arg),(V.sl (List.map cF f.kids))]) rfl (cVq rfl) rfl rfl rfl (bE (i:=2) (n:=0) (m:=3) rfl (cVq rfl) rfl (R_e (W_r (bI rfl rfl (bC rfl rfl (bI rfl rfl ?_)))))))
 refine bE (i:=3) (n:=0) (m:=3) rfl (cVq rfl) rfl (bP rfl rfl rfl rfl rfl rfl rfl rfl rfl (R_e (W_r (aL rfl rfl rfl rfl (aL rfl rfl rfl rfl (bC rfl rfl (bI rfl rfl ?_)))))))
 refine bC rfl rfl (bI rfl rfl (bP rfl rfl rfl rfl rfl rfl rfl rfl rfl (R_e (aN ?_))))
 refine eK (bS (u:=(V.agg [(iV 10),(iV 0),(V.sl [[(iV 4),(iV 0),(V.sl [[(iV 1),(iV 0),V.nilsl]])],[(iV 4),(iV 0),(V.sl [[(iV f.op),(iV f.arg),(V.sl (List.map cF f.kids))]])]])])) rfl (@rfl Blk (bk 1 24 3 [[(iV 10),(iV 0),(V.sl [[(iV 4),(iV 0),(V.sl [[(iV 1),(iV 0),V.nilsl]])],[(iV 4),(iV 0),(V.sl [[(iV f.op),(iV f.arg),(V.sl (List.map cF f.kids))]])]])]])) (lB oB rfl rfl)) (bV (cA (by simp) rfl) (cA (by simp) rfl) aIe)
end Go.Proofs.YteehaobohaecmaaGreatDoor
namespace Go.Proofs.YteehaobohaecmaaGreatDoor
theorem Tr.eq_iff {a b:Tr}:a=b↔a.ni=b.ni∧a.no=b.no:=by cases a; cases b; simp
theorem Ob.eq_iff {a b:Ob}:a=b↔a.i=b.i∧a.tr=b.tr:=by cases a; cases b; simp
instance:DecidableEq Tr:=fun _ _=>decidable_of_iff _ Tr.eq_iff.symm
instance:DecidableEq Ob:=fun _ _=>decidable_of_iff _ Ob.eq_iff.symm
end Go.Proofs.YteehaobohaecmaaGreatDoor
namespace Go.Proofs.YteehaobohaecmaaGreatDoor
open Go
theorem aH6 {m:M} {f:Fm} (h:aDk m f=true):f.sz≤12:=by
  have:=of_decide_eq_true h
  have h2:=zV f 0 this.2.2.2
  omega
end Go.Proofs.YteehaobohaecmaaGreatDoor
namespace Go.Proofs.YteehaobohaecmaaGreatDoor
open Go Go.Proofs
set_option maxRecDepth 20000
theorem aRS:aP Tryz.prog 49 [(V.agg [(iV 3),(iV 2),(V.sl (List.map cF ([])))])] (V.agg [(iV 10),(iV 0),(V.sl (List.map cF ([Fm.nd 4 0 [Fm.nd 1 0 []],Fm.nd 4 0 [(Fm.nd 3 2 [])]])))]):=by
  have h:=qR (Fm.nd 3 2 [])
  exact h
theorem aRl:aP Tryz.prog 23 [(V.agg [(iV 2),(iV 0),(aZ ([[1,0],[1,0]])),(aZ ([[1,0],[1,2]]))]),(V.agg [(iV 10),(iV 0),(V.sl (List.map cF ([Fm.nd 4 0 [Fm.nd 1 0 []],Fm.nd 4 0 [(Fm.nd 3 2 [])]])))])] (V.tup [(V.agg [(aQ ([0,1])),(aQ ([1,2]))]),(V.bool true),(iV 0)]):=by
  have h:=kS ⟨2,0,[[1,0],[1,0]],[[1,0],[1,2]]⟩ (Fm.nd 10 0 [Fm.nd 4 0 [Fm.nd 1 0 []],Fm.nd 4 0 [(Fm.nd 3 2 [])]])
  rw [show vck ⟨2,0,[[1,0],[1,0]],[[1,0],[1,2]]⟩ (Fm.nd 10 0 [Fm.nd 4 0 [Fm.nd 1 0 []],Fm.nd 4 0 [(Fm.nd 3 2 [])]])=(⟨[0,1],[1,2]⟩,true,0) from by decide+kernel] at h
  exact h
theorem aRc:aP Tryz.prog 49 [(V.agg [(iV 5),(iV 0),(V.sl (List.map cF ([Fm.nd 2 1 [],Fm.nd 3 0 []])))])] (V.agg [(iV 10),(iV 0),(V.sl (List.map cF ([Fm.nd 4 0 [Fm.nd 1 0 []],Fm.nd 4 0 [(Fm.nd 5 0 [Fm.nd 2 1 [],Fm.nd 3 0 []])]])))]):=by
  have h:=qR (Fm.nd 5 0 [Fm.nd 2 1 [],Fm.nd 3 0 []])
  exact h
theorem aQY:aP Tryz.prog 23 [(V.agg [(iV 2),(iV 0),(aZ ([[1,0],[1,0]])),(aZ ([[1,0],[1,2]]))]),(V.agg [(iV 10),(iV 0),(V.sl (List.map cF ([Fm.nd 4 0 [Fm.nd 1 0 []],Fm.nd 4 0 [(Fm.nd 5 0 [Fm.nd 2 1 [],Fm.nd 3 0 []])]])))])] (V.tup [(V.agg [(aQ ([1])),(aQ ([0]))]),(V.bool true),(iV 0)]):=by
  have h:=kS ⟨2,0,[[1,0],[1,0]],[[1,0],[1,2]]⟩ (Fm.nd 10 0 [Fm.nd 4 0 [Fm.nd 1 0 []],Fm.nd 4 0 [(Fm.nd 5 0 [Fm.nd 2 1 [],Fm.nd 3 0 []])]])
  rw [show vck ⟨2,0,[[1,0],[1,0]],[[1,0],[1,2]]⟩ (Fm.nd 10 0 [Fm.nd 4 0 [Fm.nd 1 0 []],Fm.nd 4 0 [(Fm.nd 5 0 [Fm.nd 2 1 [],Fm.nd 3 0 []])]])=(⟨[1],[0]⟩,true,0) from by decide+kernel] at h
  exact h
theorem aQC:aP Tryz.prog 49 [(V.agg [(iV 3),(iV 3),(V.sl (List.map cF ([])))])] (V.agg [(iV 10),(iV 0),(V.sl (List.map cF ([Fm.nd 4 0 [Fm.nd 1 0 []],Fm.nd 4 0 [(Fm.nd 3 3 [])]])))]):=by
  have h:=qR (Fm.nd 3 3 [])
  exact h
theorem aQw:aP Tryz.prog 23 [(V.agg [(iV 2),(iV 0),(aZ ([[1,0],[1,0]])),(aZ ([[1,0],[1,2]]))]),(V.agg [(iV 10),(iV 0),(V.sl (List.map cF ([Fm.nd 4 0 [Fm.nd 1 0 []],Fm.nd 4 0 [(Fm.nd 3 3 [])]])))])] (V.tup [(V.agg [(aQ ([])),(aQ ([]))]),(V.bool false),(iV 0)]):=by
  have h:=kS ⟨2,0,[[1,0],[1,0]],[[1,0],[1,2]]⟩ (Fm.nd 10 0 [Fm.nd 4 0 [Fm.nd 1 0 []],Fm.nd 4 0 [(Fm.nd 3 3 [])]])
  rw [show vck ⟨2,0,[[1,0],[1,0]],[[1,0],[1,2]]⟩ (Fm.nd 10 0 [Fm.nd 4 0 [Fm.nd 1 0 []],Fm.nd 4 0 [(Fm.nd 3 3 [])]])=(⟨[],[]⟩,false,0) from by decide+kernel] at h
  exact h
abbrev uM:=(bk 1 24 3 [[(iV 5),(iV 0),(V.sl [[(iV 2),(iV 1),V.nilsl],[(iV 3),(iV 0),V.nilsl]])]])
abbrev aFK:=((((0:Int)=(0:Int))∧(([0,1])=([0,1])))∧(([1,2])=([1,2])))
abbrev vB:=(bk 1 24 3 [[(iV 3),(iV 2),V.nilsl]])
abbrev uU:=(bk 1 54 2 [[(aQ ([0,1])),(aQ ([1,2]))]])
abbrev uZ:=(bk 1 54 2 [[(aQ ([1])),(aQ ([0]))]])
abbrev uT:=(bk 1 54 2 [[(aQ ([])),(aQ ([]))]])
abbrev yK:=(aFK∧((0:Int)=(0:Int)))
theorem oK:aP Tryz.prog 22 [] (V.bool true):=by
 refine pW Tryz.func22 aOn fun hB=>?_
 unfold s22
 dsimp only
 refine W_r (aA rfl (R_e (W_r (bI rfl rfl (bE (i:=1) (n:=0) (m:=3) rfl (cVq rfl) rfl (bP rfl rfl rfl rfl rfl rfl rfl rfl rfl (R_e ?_)))))))
 refine W_r (bI rfl rfl (bI rfl rfl (bC rfl rfl (bI rfl rfl (bE (i:=2) (n:=0) (m:=3) rfl (cVq rfl) rfl (bP rfl rfl rfl rfl rfl rfl rfl rfl rfl (R_e ?_)))))))
 refine W_d (by exact (yQ rfl xX)) (aJ uA rfl (aL rfl rfl rfl rfl (iR (aY (rVq (V.agg [(iV 3),(iV 2),V.nilsl])) cU) aRS (fS (by rfl) rfl) (by simp [-List.map_take,-List.map_drop,-List.map_append,-List.map_reverse]) (Or.inl (by simp [-List.map_take,-List.map_drop,-List.map_append,-List.map_reverse])) (aJ aRl rfl (aA rfl (bG rfl rfl (bG rfl rfl ?_)))))))
 refine bG rfl rfl (bE (i:=3) (n:=0) (m:=2) rfl (cVq rfl) rfl (bP rfl rfl rfl rfl rfl rfl rfl rfl rfl (aA rfl (aA rfl (R_e (W_d (by exact (yQ rfl xX)) (aJ uA rfl ?_)))))))
 refine aL rfl rfl rfl rfl (iR (aY (rVq (V.agg [(iV 5),(iV 0),(V.sl [[(iV 2),(iV 1),V.nilsl],[(iV 3),(iV 0),V.nilsl]])])) cU) aRc (fS (by rfl) rfl) (by simp [-List.map_take,-List.map_drop,-List.map_append,-List.map_reverse]) (Or.inl (by simp [-List.map_take,-List.map_drop,-List.map_append,-List.map_reverse])) (aJ aQY rfl (aA rfl (bG rfl rfl (bG rfl rfl (bG rfl rfl (bE (i:=6) (n:=0) (m:=2) rfl (cVq rfl) rfl ?_)))))))
 refine bP rfl rfl rfl rfl rfl rfl rfl rfl rfl (aA rfl (aA rfl (R_e ?_)))
 refine fW (fun T H=>T 3=(mPq 3)∧T 4=(V.bool true)∧T 5=(iV 0)∧T 6=(mPq 6)∧T 7=(V.bool true)∧T 8=(iV 0)∧T 10=(V.bool false)∧T 11=(iV 0)∧H 1=vB∧H 2=uM∧H 3=uU∧H 6=uZ∧H 9=uT∧True) ?_ ?_
 ·
  refine aJ uA rfl (bI rfl rfl (iR (aY (rVq (V.agg [(iV 3),(iV 3),V.nilsl])) cU) aQC (fS (by rfl) rfl) (by simp [-List.map_take,-List.map_drop,-List.map_append,-List.map_reverse]) (Or.inl (by simp [-List.map_take,-List.map_drop,-List.map_append,-List.map_reverse])) (aJ aQw rfl (aA rfl (bG rfl rfl (bG rfl rfl (bG rfl rfl ?_)))))))
  refine bE (i:=9) (n:=0) (m:=2) rfl (cVq rfl) rfl (bP rfl rfl rfl rfl rfl rfl rfl rfl rfl (aA rfl (aA rfl ?_)))
  exact fM ⟨rfl,rfl,rfl,rfl,rfl,rfl,rfl,rfl,rfl,rfl,rfl,rfl,rfl,trivial⟩
 intro T H ⟨t3,t4,t5,t6,t7,t8,t10,t11,h1,h2,h3,h6,h9,_⟩
 refine W_r (aA t4 (aA rfl (aC rfl (aA t5 (aC rfl (bH rfl rfl (aR rfl rfl ?_)))))))
 refine aA rfl ?_
 refine aS 5 (fun T H=>T 3=(mPq 3)∧T 6=(mPq 6)∧T 7=(V.bool true)∧T 8=(iV 0)∧T 10=(V.bool false)∧T 11=(iV 0)∧T 51=(V.bool (decide (((0:Int)=(0:Int))∧(([0,1])=([0,1])))))∧H 1=vB∧H 2=uM∧H 3=uU∧H 6=uZ∧H 9=uT∧True) ?_ ?_
 ·
  by_cases g1:(0:Int)=(0:Int)
  ·
   refine aC (edT g1 rfl) (aU t3 h3 (aC (edT g1 rfl) (aL rfl h3 rfl rfl (aC (edT g1 rfl) (bC rfl rfl (aC (edT g1 rfl) (aJ (oG ([0,1]) ([0,1])) rfl ?_)))))))
   refine aR (edT g1 rfl) rfl ?_
   exact ⟨t3,t6,t7,t8,t10,t11,(dM g1),h1,h2,h3,h6,h9,trivial⟩
  ·
   refine G_n (edF g1 rfl) (G_n (edF g1 rfl) (G_n (edF g1 rfl) (G_n (edF g1 rfl) (aT (edF g1 rfl) rfl ?_))))
   exact ⟨t3,t6,t7,t8,t10,t11,(dO g1),h1,h2,h3,h6,h9,trivial⟩
 intro T H ⟨t3,t6,t7,t8,t10,t11,t51,h1,h2,h3,h6,h9,_⟩
 refine aA t51 ?_
 refine aS 5 (fun T H=>T 6=(mPq 6)∧T 7=(V.bool true)∧T 8=(iV 0)∧T 10=(V.bool false)∧T 11=(iV 0)∧T 57=(V.bool (decide aFK))∧H 1=vB∧H 2=uM∧H 3=uU∧H 6=uZ∧H 9=uT∧True) ?_ ?_
 ·
  by_cases g2:((0:Int)=(0:Int))∧(([0,1])=([0,1]))
  ·
   refine aC (edT g2 rfl) (aU t3 h3 (aC (edT g2 rfl) (aL rfl h3 rfl rfl (aC (edT g2 rfl) (bC rfl rfl (aC (edT g2 rfl) (aJ (oG ([1,2]) ([1,2])) rfl ?_)))))))
   refine aR (edT g2 rfl) rfl ?_
   exact ⟨t6,t7,t8,t10,t11,(dM g2),h1,h2,h3,h6,h9,trivial⟩
  ·
   refine G_n (edF g2 rfl) (G_n (edF g2 rfl) (G_n (edF g2 rfl) (G_n (edF g2 rfl) (aT (edF g2 rfl) rfl ?_))))
   exact ⟨t6,t7,t8,t10,t11,(dO g2),h1,h2,h3,h6,h9,trivial⟩
 intro T H ⟨t6,t7,t8,t10,t11,t57,h1,h2,h3,h6,h9,_⟩
 refine aA t57 ?_
 refine aS 2 (fun T H=>T 6=(mPq 6)∧T 8=(iV 0)∧T 10=(V.bool false)∧T 11=(iV 0)∧T 60=(V.bool (decide aFK))∧H 1=vB∧H 2=uM∧H 3=uU∧H 6=uZ∧H 9=uT∧True) ?_ ?_
 ·
  by_cases g3:(((0:Int)=(0:Int))∧(([0,1])=([0,1])))∧(([1,2])=([1,2]))
  ·
   refine aC (edT g3 rfl) (aA t7 (aR (edT g3 rfl) rfl ?_))
   exact ⟨t6,t8,t10,t11,(aM9 g3),h1,h2,h3,h6,h9,trivial⟩
  ·
   refine G_n (edF g3 rfl) (aT (edF g3 rfl) rfl ?_)
   exact ⟨t6,t8,t10,t11,(aM8 g3),h1,h2,h3,h6,h9,trivial⟩
 intro T H ⟨t6,t8,t10,t11,t60,h1,h2,h3,h6,h9,_⟩
 refine aA t60 ?_
 refine aS 3 (fun T H=>T 6=(mPq 6)∧T 10=(V.bool false)∧T 11=(iV 0)∧T 64=(V.bool (decide yK))∧H 1=vB∧H 2=uM∧H 3=uU∧H 6=uZ∧H 9=uT∧True) ?_ ?_
 ·
  by_cases g4:(((0:Int)=(0:Int))∧(([0,1])=([0,1])))∧(([1,2])=([1,2]))
  ·
   refine aC (edT g4 rfl) (aA t8 (aC (edT g4 rfl) (bH rfl rfl (aR (edT g4 rfl) rfl ?_))))
   exact ⟨t6,t10,t11,(dM g4),h1,h2,h3,h6,h9,trivial⟩
  ·
   refine G_n (edF g4 rfl) (G_n (edF g4 rfl) (aT (edF g4 rfl) rfl ?_))
   exact ⟨t6,t10,t11,(dO g4),h1,h2,h3,h6,h9,trivial⟩
 intro T H ⟨t6,t10,t11,t64,h1,h2,h3,h6,h9,_⟩
 refine aA t64 ?_
 refine aS 5 (fun T H=>T 10=(V.bool false)∧T 11=(iV 0)∧T 70=(V.bool (decide (yK∧(([1])=([1])))))∧H 1=vB∧H 2=uM∧H 3=uU∧H 6=uZ∧H 9=uT∧True) ?_ ?_
 ·
  by_cases g5:aFK∧((0:Int)=(0:Int))
  ·
   refine aC (edT g5 rfl) (aU t6 h6 (aC (edT g5 rfl) (aL rfl h6 rfl rfl (aC (edT g5 rfl) (bC rfl rfl (aC (edT g5 rfl) (aJ (oG ([1]) ([1])) rfl ?_)))))))
   refine aR (edT g5 rfl) rfl ?_
   exact ⟨t10,t11,(dM g5),h1,h2,h3,h6,h9,trivial⟩
  ·
   refine G_n (edF g5 rfl) (G_n (edF g5 rfl) (G_n (edF g5 rfl) (G_n (edF g5 rfl) (aT (edF g5 rfl) rfl ?_))))
   exact ⟨t10,t11,(dO g5),h1,h2,h3,h6,h9,trivial⟩
 intro T H ⟨t10,t11,t70,h1,h2,h3,h6,h9,_⟩
 refine aA t70 ?_
 refine aS 3 (fun T H=>T 11=(iV 0)∧T 74=(V.bool (decide (yK∧(([1])=([1])))))∧H 1=vB∧H 2=uM∧H 3=uU∧H 6=uZ∧H 9=uT∧True) ?_ ?_
 ·
  by_cases g6:yK∧(([1])=([1]))
  ·
   refine aC (edT g6 rfl) (aA t10 (aC (edT g6 rfl) (gA rfl (aR (edT g6 rfl) rfl ?_))))
   exact ⟨t11,(aM9 g6),h1,h2,h3,h6,h9,trivial⟩
  ·
   refine G_n (edF g6 rfl) (G_n (edF g6 rfl) (aT (edF g6 rfl) rfl ?_))
   exact ⟨t11,(aM8 g6),h1,h2,h3,h6,h9,trivial⟩
 intro T H ⟨t11,t74,h1,h2,h3,h6,h9,_⟩
 refine aA t74 ?_
 refine aS 3 (fun T H=>T 78=(V.bool (decide ((yK∧(([1])=([1])))∧((0:Int)=(0:Int)))))∧H 1=vB∧H 2=uM∧H 3=uU∧H 6=uZ∧H 9=uT∧True) ?_ ?_
 ·
  by_cases g7:yK∧(([1])=([1]))
  ·
   refine aC (edT g7 rfl) (aA t11 (aC (edT g7 rfl) (bH rfl rfl (aR (edT g7 rfl) rfl ?_))))
   exact ⟨(dM g7),h1,h2,h3,h6,h9,trivial⟩
  ·
   refine G_n (edF g7 rfl) (G_n (edF g7 rfl) (aT (edF g7 rfl) rfl ?_))
   exact ⟨(dO g7),h1,h2,h3,h6,h9,trivial⟩
 intro T H ⟨t78,h1,h2,h3,h6,h9,_⟩
 refine aA t78 (R_e (aN ?_))
 refine bB (rVq (V.bool (decide ((yK∧(([1])=([1])))∧((0:Int)=(0:Int)))))) (bD ?_)
 · decide+kernel
end Go.Proofs.YteehaobohaecmaaGreatDoor
namespace Go.Proofs.YteehaobohaecmaaGreatDoor
open Go Go.Proofs
def aRA:List SO:=[
 qF 18 1 3,
 ql 19 18,
 qN 20 19,
 qF 21 0 3,
 ql 22 21,
 qN 23 22,
 qP 24 .neq 20 23,
 qM 17 24]
def aP6:List SO:=[
 qL 25 3 2,
 qL 26 2 3,
 sO 27 (.call false 58 [.t 25,.t 26]),
 sO 28 (.idx 1 (.t 27) (.c (.int .i64 0))),
 ql 29 28,
 qM 4 29,
 qI 5 0]
def s31:SF:=⟨30,[.tmp 4,.tmp 5],.seq (.reg [sO 2 (.box 24 3 (.t 0)),sO 3 (.box 54 2 (.t 1)),sO 4 (.mv (.c (.bool false))),qI 5 0]) (.seq (.seq (.reg [qL 7 3 2,sO 8 (.call false 35 [.t 7]),qM 6 8]) (.seq (.reg [qM 9 6,qC 10 .neq 9 0]) (.cond (.t 10) (.seq (.reg [qM 11 6,sO 4 (.mv (.c (.bool false))),qM 5 11]) (.ret)) (.skip)))) (.seq (.block 0 (.seq (.reg [qF 13 0 3,ql 14 13,qN 15 14,qC 16 .gtr 15 1024,qM 12 16]) (.cond (.t 12) (.seq (.reg [sO 4 (.mv (.c (.bool false))),qI 5 3]) (.ret)) (.seq (.reg aRA) (.cond (.t 17) (.seq (.reg [sO 4 (.mv (.c (.bool false))),qI 5 1]) (.ret)) (.skip)))))) (.seq (.reg aP6) (.ret))))⟩
theorem aOV:bF Tryz.prog ⟨[51,59,84,90,97,109,153,154,155,160],[],[],[]⟩ Tryz.f31=some s31:=by kernel_rfl
def aQi:List SO:=[
 qM 21 6,
 qL 22 3 8,
 qL 23 2 3,
 sO 24 (.call false 58 [.t 22,.t 23]),
 sO 25 (.bslice 41 1 false [.nilsl] 1 [(0,.t 24)]),
 sO 26 (.append 41 1 24 (.t 21) (.t 25)),
 qM 6 26]
def aMX:SC:=.seq (.reg [qP 18 .lss 17 16]) (.seq (.cond (.t 18) (.skip) (.exit 0)) (.seq (.block 1 (.seq (.reg [qA 19 3 15 17,qL 20 3 19,sO 8 (.alloc 24 [.int .i64 0,.int .i64 0,.nilsl]),sN (.store 3 (.t 8) (.t 20))]) (.reg aQi))) (.reg [qC 27 .add 17 1,qM 17 27])))
def aPS:List SO:=[
 qM 36 9,
 qM 37 10,
 qL 38 3 2,
 qL 39 2 3,
 qM 40 6,
 qM 41 9,
 qM 42 10,
 sO 43 (.call false 85 [.t 38,.t 39,.t 40,.t 41,.t 42]),
 qA 44 1 36 37,
 sN (.store 1 (.t 44) (.t 43))]
def aMY:SC:=.seq (.seq (.reg [qM 32 10,qC 33 .geq 32 0]) (.cond (.t 33) (.skip) (.exit 2))) (.seq (.block 3 (.reg aPS)) (.reg [qM 34 10,qC 35 .sub 34 1,qM 10 35]))
def s58:SF:=⟨46,[.tmp 4],.seq (.reg [sO 2 (.box 24 3 (.t 0)),sO 3 (.box 54 2 (.t 1)),sO 4 (.mv (.c (.nilsl)))]) (.seq (.reg [qF 11 0 3,ql 12 11,qN 13 12,qM 5 13]) (.seq (.reg [sO 6 (.lazy 41 1)]) (.seq (.seq (.reg [qF 14 2 2,ql 15 14,qN 16 15,qI 17 0]) (.block 0 (.loop aMX))) (.seq (.reg [qM 28 5,qC 29 .add 28 1,sO 30 (.mks 4 1 1 [.bool false] (.t 29) (.t 29)),qM 9 30]) (.seq (.seq (.reg [qM 31 5,qM 10 31]) (.block 2 (.loop aMY))) (.seq (.reg [qM 45 9,qM 4 45]) (.ret)))))))⟩
theorem aOq:bF Tryz.prog ⟨[51,59,84,90,97,109,153,154,155,160],[6],[],[]⟩ Tryz.f58=some s58:=by kernel_rfl
def aQs:List SO:=[
 qM 25 11,
 sO 26 (.un .not (.t 25)),
 qM 27 26,
 ⟨some (27,true),some 28,.fld 0 (.t 6)⟩,
 ⟨some (27,true),some 29,.load false 1 (.t 28)⟩,
 ⟨some (27,true),some 30,.load false 1 (.t 9)⟩,
 ⟨some (27,true),some 31,.idx 1 (.t 29) (.t 30)⟩,
 ⟨some (27,true),some 32,.load false 1 (.t 31)⟩,
 ⟨some (27,true),some 33,.fld 1 (.t 5)⟩,
 ⟨some (27,true),some 34,.load false 1 (.t 33)⟩,
 ⟨some (27,true),some 35,.bin .eql (.t 32) (.t 34)⟩,
 sO 36 (.pick (.t 27) (.t 35) (.c (.bool false))),
 qM 10 36]
def aQF:List SO:=[
 qM 39 11,
 sO 40 (.un .not (.t 39)),
 qM 41 40,
 ⟨some (41,true),some 42,.fld 1 (.t 6)⟩,
 ⟨some (41,true),some 43,.load false 1 (.t 42)⟩,
 ⟨some (41,true),some 44,.load false 1 (.t 9)⟩,
 ⟨some (41,true),some 45,.idx 1 (.t 43) (.t 44)⟩,
 ⟨some (41,true),some 46,.load false 1 (.t 45)⟩,
 ⟨some (41,true),some 47,.fld 1 (.t 5)⟩,
 ⟨some (41,true),some 48,.load false 1 (.t 47)⟩,
 ⟨some (41,true),some 49,.bin .eql (.t 46) (.t 48)⟩,
 sO 50 (.pick (.t 41) (.t 49) (.c (.bool false))),
 qM 10 50]
def aOx:List SO:=[
 qM 53 2,
 sO 54 (.idx 1 (.t 53) (.c (.int .i64 0))),
 ql 55 54,
 ql 56 9,
 qA 57 1 55 56,
 ql 58 57,
 sO 59 (.un .not (.t 58)),
 qM 10 59]
def aOT:List SO:=[
 qM 73 11,
 sO 74 (.un .not (.t 73)),
 qM 75 74,
 ⟨some (75,true),some 76,.mv (.t 2)⟩,
 ⟨some (75,true),some 77,.idx 1 (.t 76) (.c (.int .i64 0))⟩,
 ⟨some (75,true),some 78,.load false 1 (.t 77)⟩,
 ⟨some (75,true),some 79,.load false 1 (.t 9)⟩,
 ⟨some (75,true),some 80,.bin .add (.t 79) (.c (.int .i64 1))⟩,
 ⟨some (75,true),some 81,.idx 1 (.t 78) (.t 80)⟩,
 ⟨some (75,true),some 82,.load false 1 (.t 81)⟩,
 sO 83 (.pick (.t 75) (.t 82) (.c (.bool false))),
 qM 10 83]
def aOK:List SO:=[
 qM 86 11,
 qM 87 86,
 ⟨some (87,false),some 88,.mv (.t 2)⟩,
 ⟨some (87,false),some 89,.idx 1 (.t 88) (.c (.int .i64 0))⟩,
 ⟨some (87,false),some 90,.load false 1 (.t 89)⟩,
 ⟨some (87,false),some 91,.load false 1 (.t 9)⟩,
 ⟨some (87,false),some 92,.bin .add (.t 91) (.c (.int .i64 1))⟩,
 ⟨some (87,false),some 93,.idx 1 (.t 90) (.t 92)⟩,
 ⟨some (87,false),some 94,.load false 1 (.t 93)⟩,
 sO 95 (.pick (.t 87) (.c (.bool true)) (.t 94)),
 qM 10 95]
def aNU:List SO:=[
 qM 98 2,
 sO 99 (.idx 1 (.t 98) (.c (.int .i64 1))),
 ql 100 99,
 ql 101 9,
 qA 102 1 100 101,
 ql 103 102,
 qM 104 103,
 ⟨some (104,false),some 105,.mv (.t 11)⟩,
 ⟨some (104,false),some 106,.un .not (.t 105)⟩,
 ⟨some (104,false),some 107,.mv (.t 106)⟩,
 ⟨some (107,true),some 108,.mv (.t 2)⟩,
 ⟨some (107,true),some 109,.idx 1 (.t 108) (.c (.int .i64 0))⟩,
 ⟨some (107,true),some 110,.load false 1 (.t 109)⟩,
 ⟨some (107,true),some 111,.load false 1 (.t 9)⟩,
 ⟨some (107,true),some 112,.idx 1 (.t 110) (.t 111)⟩,
 ⟨some (107,true),some 113,.load false 1 (.t 112)⟩,
 ⟨some (104,false),some 114,.pick (.t 107) (.t 113) (.c (.bool false))⟩,
 ⟨some (104,false),some 115,.mv (.t 114)⟩,
 ⟨some (115,true),some 116,.mv (.t 3)⟩,
 ⟨some (115,true),some 117,.load false 1 (.t 9)⟩,
 ⟨some (115,true),some 118,.bin .add (.t 117) (.c (.int .i64 1))⟩,
 ⟨some (115,true),some 119,.idx 1 (.t 116) (.t 118)⟩,
 ⟨some (115,true),some 120,.load false 1 (.t 119)⟩,
 ⟨some (104,false),some 121,.pick (.t 115) (.t 120) (.c (.bool false))⟩,
 sO 122 (.pick (.t 104) (.c (.bool true)) (.t 121)),
 qM 10 122]
def aPg:List SO:=[
 qM 123 2,
 sO 124 (.idx 1 (.t 123) (.c (.int .i64 1))),
 ql 125 124,
 ql 126 9,
 qA 127 1 125 126,
 ql 128 127,
 qM 129 128,
 ⟨some (129,true),some 130,.mv (.t 11)⟩,
 ⟨some (129,true),some 131,.mv (.t 130)⟩,
 ⟨some (131,false),some 132,.mv (.t 2)⟩,
 ⟨some (131,false),some 133,.idx 1 (.t 132) (.c (.int .i64 0))⟩,
 ⟨some (131,false),some 134,.load false 1 (.t 133)⟩,
 ⟨some (131,false),some 135,.load false 1 (.t 9)⟩,
 ⟨some (131,false),some 136,.idx 1 (.t 134) (.t 135)⟩,
 ⟨some (131,false),some 137,.load false 1 (.t 136)⟩,
 ⟨some (129,true),some 138,.pick (.t 131) (.c (.bool true)) (.t 137)⟩,
 ⟨some (129,true),some 139,.mv (.t 138)⟩,
 ⟨some (139,false),some 140,.mv (.t 3)⟩,
 ⟨some (139,false),some 141,.load false 1 (.t 9)⟩,
 ⟨some (139,false),some 142,.bin .add (.t 141) (.c (.int .i64 1))⟩,
 ⟨some (139,false),some 143,.idx 1 (.t 140) (.t 142)⟩,
 ⟨some (139,false),some 144,.load false 1 (.t 143)⟩,
 ⟨some (129,true),some 145,.pick (.t 139) (.c (.bool true)) (.t 144)⟩,
 sO 146 (.pick (.t 129) (.t 145) (.c (.bool false))),
 qM 10 146]
def s85:SF:=⟨147,[.tmp 10],.seq (.reg [sO 5 (.box 24 3 (.t 0)),sO 6 (.box 54 2 (.t 1)),sO 9 (.box 3 1 (.t 4)),sO 10 (.mv (.c (.bool false)))]) (.seq (.reg [ql 13 9,qF 14 0 6,ql 15 14,qN 16 15,qP 17 .eql 13 16,qM 11 17]) (.seq (.reg [sO 18 (.mkf 103 [.t 9]),qM 12 18]) (.seq (.seq (.reg [qF 19 0 5,ql 20 19]) (.block 0 (.seq (.reg [qC 22 .eql 20 1,qM 21 22]) (.cond (.t 21) (.seq (.reg [sO 10 (.mv (.c (.bool true)))]) (.ret)) (.seq (.reg [qC 24 .eql 20 2,qM 23 24]) (.cond (.t 23) (.seq (.reg aQs) (.ret)) (.seq (.reg [qC 38 .eql 20 3,qM 37 38]) (.cond (.t 37) (.seq (.reg aQF) (.ret)) (.seq (.reg [qC 52 .eql 20 4,qM 51 52]) (.cond (.t 51) (.seq (.reg aOx) (.ret)) (.seq (.reg [qC 61 .eql 20 5,qM 60 61]) (.cond (.t 60) (.seq (.reg [qM 62 2,sO 63 (.mkf 105 [.t 9]),sO 64 (.call false 104 [.t 62,.t 63]),sO 65 (.un .not (.t 64)),qM 10 65]) (.ret)) (.seq (.reg [qC 67 .eql 20 6,qM 66 67]) (.cond (.t 66) (.seq (.reg [qM 68 2,qM 69 12,sO 70 (.call false 104 [.t 68,.t 69]),qM 10 70]) (.ret)) (.seq (.reg [qC 72 .eql 20 7,qM 71 72]) (.cond (.t 71) (.seq (.reg aOT) (.ret)) (.seq (.reg [qC 85 .eql 20 9,qM 84 85]) (.cond (.t 84) (.seq (.reg aOK) (.ret)) (.seq (.reg [qC 97 .eql 20 8,qM 96 97]) (.cond (.t 96) (.seq (.reg aNU) (.ret)) (.skip))))))))))))))))))))) (.seq (.reg aPg) (.ret)))))⟩
theorem aOr:bF Tryz.prog ⟨[51,59,84,90,97,109,153,154,155,160],[],[],[]⟩ Tryz.f85=some s85:=by kernel_rfl
def aQV:SF:=⟨8,[.tmp 3],.seq (.reg [sO 3 (.mv (.c (.bool false)))]) (.seq (.reg [qM 4 0,ql 5 1,qA 6 1 4 5,ql 7 6,qM 3 7]) (.ret))⟩
theorem aLn:bF Tryz.prog ⟨[51,59,84,90,97,109,153,154,155,160],[],[],[]⟩ Tryz.f103=some aQV:=by kernel_rfl
theorem aGL (w:List Bool) (i:Int) (h0:0≤i) (hi:i < w.length):aP Tryz.prog 103 [(V.sl (List.map cB w)),(V.pp [(iV i)])] (V.bool (nth w i.toNat)):=by
 refine pW Tryz.func103 aLn fun hB=>?_
 unfold aQV
 dsimp only
 refine W_r (aA rfl (R_e (W_r (aA rfl (aH rfl rfl (fC (i:=i) (rVq (V.sl (List.map cB w))) (rVq (iV i)) (by omega) (by omega) rfl (aH rfl rfl ?_)))))))
 refine aA rfl (R_e (aN ?_))
 refine bB (rVq (V.bool (nth w i.toNat))) (bD ?_)
 · rfl
def aPM:SF:=⟨9,[.tmp 4],.seq (.reg [sO 4 (.mv (.c (.bool false)))]) (.seq (.reg [qM 5 0,qM 6 1,sO 7 (.call false 118 [.t 5,.t 6]),qC 8 .geq 7 0,qM 4 8]) (.ret))⟩
theorem aL2:bF Tryz.prog ⟨[51,59,84,90,97,109,153,154,155,160],[],[],[]⟩ Tryz.f104=some aPM:=by kernel_rfl
def aJL:SC:=.seq (.reg [qP 9 .lss 8 7]) (.seq (.cond (.t 9) (.skip) (.exit 0)) (.seq (.block 1 (.seq (.reg [qM 10 8,qM 5 10]) (.seq (.reg [qM 11 1,qM 12 0,qM 13 5,qA 14 1 12 13,ql 15 14,sO 16 (.callv false (.t 11) [.t 15])]) (.cond (.t 16) (.seq (.reg [qM 17 5,qM 4 17]) (.ret)) (.skip))))) (.reg [qC 18 .add 8 1,qM 8 18])))
def aNL:SF:=⟨19,[.tmp 4],.seq (.reg [qI 4 0]) (.seq (.seq (.reg [qM 6 0,qN 7 6,qI 8 0]) (.block 0 (.loop aJL))) (.seq (.reg [sO 4 (.mv (.c (.int .i64 (-1))))]) (.ret)))⟩
theorem aLZ:bF Tryz.prog ⟨[51,59,84,90,97,109,153,154,155,160],[],[],[]⟩ Tryz.f118=some aNL:=by kernel_rfl
theorem aHb (p:(List Bool)→Bool) (w:List (List Bool)) (g:Nat) (caps:List V) (hca:cD caps=true) (hpu:cY caps=true) (hq: ∀ k,k < w.length→aP Tryz.prog g (V.sl ((nth w k).map cB)::caps) (.bool (p (nth w k)))):aP Tryz.prog 118 [(V.sl (List.map cBL w)),(V.fn g [] caps)] (iV (fi (fun jx=>p (nth w jx)) 0 w.length)):=by
 refine gS true 6 Tryz.func118 aLZ (by kernel_rfl) (by simp [aNL]) (by simp [hpu]) (by simp) fun hB=>?_
 simp only [kA,jZ,iK,jT,jV,mI,jX,iN,implies_true,and_true,true_and] at hB
 unfold aNL
 dsimp only
 refine W_r (aA rfl (R_e (aB (W_r (aA rfl (bM rfl (aA rfl ?_)))))))
 refine R_e (aE fun Q1 n1 x1 y1 z1=>?_)
 refine cQ (fun mm T H=> ∃ (k:Nat),mm=w.length - k∧T 0=(V.sl (List.map cBL w))∧T 1=(V.fn g [] caps)∧T 7=(iV ((w.length:Nat):Int))∧T 8=(iV ((k:Nat):Int))∧(k≤w.length)∧(fi (fun j=>p (nth w j)) 0 w.length=fi (fun j=>p (nth w j)) k (w.length - k))) ?_ ?_
 ·
  refine ⟨_,0,rfl,rfl,rfl,rfl,(eTq (rVq (iV 0)) rfl),?_,?_⟩
  · omega
  · rfl
 intro mm T H ⟨k,hmm,t0,t1,t7,t8,hk,hc⟩ Q2 p12 p22 p32
 unfold aJL
 refine W_r (bW t8 t7 (R_e ?_))
 refine aK rfl (fun c3=>?_) fun c3=>?_
 ·
  refine aD (aE fun Q4 n4 x4 y4 z4=>(W_r (aA t8 (aA rfl (R_e (W_r (aA t1 ?_)))))))
  refine aA t0 (aA rfl (dE (i:=k) (rVq (V.sl (List.map cBL w))) (rNq k) (by omega) rfl (aH rfl rfl (jW (rVq (V.fn g [] caps)) (aY (rVq (V.sl (List.map cB (nth w k)))) cU) (hq k (by omega)) (cC _ _ (by simp [hca])) (by simp [hpu]) (Or.inl (by simp [hpu])) (R_e ?_)))))
  refine mT rfl (fun c5=>?_) (fun c5=>?_)
  ·
   have d1:=c5
   refine W_r (aA rfl (aA rfl (R_e (aN (y4 _ _ (p22 _ _ (y1 _ _ ?_)))))))
   refine bB (rNq k) (aF ?_)
   · rw [hc,aJU (by exact d1) (by omega)]
  have d1:=c5
  refine dA (n4 _ _ (.done (W_t (bL t8 (rNq 1) (by omega) (aA rfl (R_e ?_))))))
  refine p12 _ _ _ ?_ ⟨(k+1),rfl,t0,t1,t7,(eTq (rNq (k+1)) (by rfl)),?_,?_⟩
  · omega
  · omega
  · rw [hc,aFE (by exact d1) (by omega)]
 refine aX (p32 _ _ _ (x1 _ _ (.done (W_r (aA rfl (R_e (aN ?_)))))))
 refine bB (rVq (iV (-1))) (aF ?_)
 · rw [hc,aJD (by omega)]
theorem zW (p:(List Bool)→Bool) (w:List (List Bool)) (g:Nat) (caps:List V) (hca:cD caps=true) (hpu:cY caps=true) (hq: ∀ k,k < w.length→aP Tryz.prog g (V.sl ((nth w k).map cB)::caps) (.bool (p (nth w k)))):aP Tryz.prog 104 [(V.sl (List.map cBL w)),(V.fn g [] caps)] (V.bool (decide (0≤fi (fun jx=>p (nth w jx)) 0 w.length))):=by
 refine gS true 6 Tryz.func104 aL2 (by kernel_rfl) (by simp [aPM]) (by simp [hpu]) (by simp) fun hB=>?_
 simp only [kA,jZ,iK,jT,jV,mI,jX,iN,implies_true,and_true,true_and] at hB
 unfold aPM
 dsimp only
 refine W_r (aA rfl (R_e (W_r (aA rfl (aA rfl (iR (aY (rVq (V.sl (List.map cBL w))) (aY (rVq (V.fn g [] caps)) cU)) (aHb p w g caps hca hpu hq) (cC _ _ (by simp [hca,hpu,-List.map_take,-List.map_drop,-List.map_append,-List.map_reverse])) (by simp [hca,hpu,-List.map_take,-List.map_drop,-List.map_append,-List.map_reverse]) (Or.inl (by simp [hca,hpu,-List.map_take,-List.map_drop,-List.map_append,-List.map_reverse])) (lI rfl rfl ?_)))))))
 refine aA rfl (R_e (aN ?_))
 refine bB (rVq (V.bool (decide ((0:Int)≤(fi (fun jx=>p (nth w jx)) 0 w.length))))) (bD ?_)
 · first|rfl|omega|simp_all
def aQ6:SF:=⟨9,[.tmp 3],.seq (.reg [sO 3 (.mv (.c (.bool false)))]) (.seq (.reg [qM 4 0,ql 5 1,qA 6 1 4 5,ql 7 6,sO 8 (.un .not (.t 7)),qM 3 8]) (.ret))⟩
theorem aLl:bF Tryz.prog ⟨[51,59,84,90,97,109,153,154,155,160],[],[],[]⟩ Tryz.f105=some aQ6:=by kernel_rfl
theorem aF6 (w:List Bool) (i:Int) (h0:0≤i) (hi:i < w.length):aP Tryz.prog 105 [(V.sl (List.map cB w)),(V.pp [(iV i)])] (V.bool (!nth w i.toNat)):=by
 refine pW Tryz.func105 aLl fun hB=>?_
 unfold aQ6
 dsimp only
 refine W_r (aA rfl (R_e (W_r (aA rfl (aH rfl rfl (fC (i:=i) (rVq (V.sl (List.map cB w))) (rVq (iV i)) (by omega) (by omega) rfl (aH rfl rfl ?_)))))))
 refine gA rfl (aA rfl (R_e (aN ?_)))
 refine bB (rVq (V.bool (!(nth w i.toNat)))) (bD ?_)
 · rfl
theorem wQ (f:Fm) (t:Tr) (K:List (List Bool)) (B:List Bool) (i:Int) (hf:rgt f=0) (ht:t.no.length=t.ni.length) (h0:0≤i) (hi:i≤t.ni.length) (hn:t.ni.length≤1024) (hK:K.length=f.kids.length) (hr: ∀ k,k < K.length→(nth K k).length=t.ni.length+1) (hb:B.length=t.ni.length+1):aP Tryz.prog 85 [(V.agg [(iV f.op),(iV f.arg),(V.sl (List.map cF f.kids))]),(V.agg [(aQ t.ni),(aQ t.no)]),(V.sl (List.map cBL K)),(V.sl (List.map cB B)),(iV i)] (V.bool (mX t f K B i.toNat)):=by
 refine pW Tryz.func85 aOr fun hB=>?_
 unfold s85
 dsimp only
 have hrg:=cP hf
 have hr0:0 < K.length→(nth K 0).length=t.ni.length+1:=hr 0
 have hr1:1 < K.length→(nth K 1).length=t.ni.length+1:=hr 1
 refine W_r (cK (i:=5) (n:=0) (m:=3) (cs:=[(iV f.op),(iV f.arg),(V.sl (List.map cF f.kids))]) rfl (cVq rfl) rfl rfl rfl (cK (i:=6) (n:=0) (m:=2) (cs:=[(aQ t.ni),(aQ t.no)]) rfl (cVq rfl) rfl rfl rfl (cK (i:=9) (n:=0) (m:=1) (cs:=[(iV i)]) rfl (cVq rfl) rfl rfl rfl (aA rfl (R_e (W_r (aL rfl rfl rfl rfl ?_)))))))
 refine aU rfl rfl (aL rfl rfl rfl rfl (bM rfl (bH rfl rfl (aA rfl (R_e (W_r (aCo (aY rfl cU) ?_)))))))
 refine aA rfl (R_e (aB (W_r (aU rfl rfl (aL rfl rfl rfl rfl (R_e (aE fun Q1 n1 x1 y1 z1=>?_)))))))
 refine W_r (bH rfl rfl (aA rfl (R_e ?_)))
 refine cW rfl (fun c2=>?_) fun c2=>?_
 ·
  refine W_r (aA rfl (R_e (aN (y1 _ _ ?_))))
  refine bB (rVq (V.bool true)) (bD ?_)
  · unfold mX; rw [if_pos (by omega)]
 refine W_r (bH rfl rfl (aA rfl (R_e ?_)))
 refine cW rfl (fun c3=>?_) fun c3=>?_
 ·
  refine W_r (aA rfl (rF rfl (aA rfl ?_)))
  refine aS 9 (fun T H=>T 36=(V.bool (decide ((¬(i=((t.ni.length:Nat):Int)))∧((nth t.ni i.toNat)=f.arg))))∧H 5=(bk 1 24 3 [[(iV f.op),(iV f.arg),(V.sl (List.map cF f.kids))]])∧H 6=(bk 1 54 2 [[(aQ t.ni),(aQ t.no)]])∧H 9=(bk 1 3 1 [[(iV i)]])∧True) ?_ ?_
  ·
   by_cases g4: ¬(i=((t.ni.length:Nat):Int))
   ·
    refine aC (edT g4 rfl) (aU rfl rfl (aC (edT g4 rfl) (aL rfl rfl rfl rfl (aC (edT g4 rfl) (aL rfl rfl rfl rfl (aC (edT g4 rfl) (fC (i:=i) (rVq (aQ t.ni)) (rVq (iV i)) (by omega) (by omega) rfl ?_)))))))
    refine aC (edT g4 rfl) (aH rfl rfl (aC (edT g4 rfl) (aU rfl rfl (aC (edT g4 rfl) (aL rfl rfl rfl rfl (aC (edT g4 rfl) (bH rfl rfl ?_)))))))
    refine aR (edT g4 rfl) rfl ?_
    exact ⟨(dM g4),rfl,rfl,rfl,trivial⟩
   ·
    refine G_n (edF g4 rfl) (G_n (edF g4 rfl) (G_n (edF g4 rfl) (G_n (edF g4 rfl) (G_n (edF g4 rfl) (G_n (edF g4 rfl) (G_n (edF g4 rfl) (G_n (edF g4 rfl) ?_)))))))
    refine aT (edF g4 rfl) rfl ?_
    exact ⟨(dO g4),rfl,rfl,rfl,trivial⟩
  intro T H ⟨t36,h5,h6,h9,_⟩
  refine aA t36 (R_e (aN (y1 _ _ ?_)))
  refine bB (rVq (V.bool (decide ((¬(i=((t.ni.length:Nat):Int)))∧((nth t.ni i.toNat)=f.arg))))) (bD ?_)
  · unfold mX; rw [if_neg (by omega),if_pos (by omega)]; rw [← Bool.decide_and]; exact decide_eq_decide.2 (by omega)
 refine W_r (bH rfl rfl (aA rfl (R_e ?_)))
 refine cW rfl (fun c5=>?_) fun c5=>?_
 ·
  refine W_r (aA rfl (rF rfl (aA rfl ?_)))
  refine aS 9 (fun T H=>T 50=(V.bool (decide ((¬(i=((t.ni.length:Nat):Int)))∧((nth t.no i.toNat)=f.arg))))∧H 5=(bk 1 24 3 [[(iV f.op),(iV f.arg),(V.sl (List.map cF f.kids))]])∧H 6=(bk 1 54 2 [[(aQ t.ni),(aQ t.no)]])∧H 9=(bk 1 3 1 [[(iV i)]])∧True) ?_ ?_
  ·
   by_cases g6: ¬(i=((t.ni.length:Nat):Int))
   ·
    refine aC (edT g6 rfl) (aU rfl rfl (aC (edT g6 rfl) (aL rfl rfl rfl rfl (aC (edT g6 rfl) (aL rfl rfl rfl rfl (aC (edT g6 rfl) (fC (i:=i) (rVq (aQ t.no)) (rVq (iV i)) (by omega) (by omega) rfl ?_)))))))
    refine aC (edT g6 rfl) (aH rfl rfl (aC (edT g6 rfl) (aU rfl rfl (aC (edT g6 rfl) (aL rfl rfl rfl rfl (aC (edT g6 rfl) (bH rfl rfl ?_)))))))
    refine aR (edT g6 rfl) rfl ?_
    exact ⟨(dM g6),rfl,rfl,rfl,trivial⟩
   ·
    refine G_n (edF g6 rfl) (G_n (edF g6 rfl) (G_n (edF g6 rfl) (G_n (edF g6 rfl) (G_n (edF g6 rfl) (G_n (edF g6 rfl) (G_n (edF g6 rfl) (G_n (edF g6 rfl) ?_)))))))
    refine aT (edF g6 rfl) rfl ?_
    exact ⟨(dO g6),rfl,rfl,rfl,trivial⟩
  intro T H ⟨t50,h5,h6,h9,_⟩
  refine aA t50 (R_e (aN (y1 _ _ ?_)))
  refine bB (rVq (V.bool (decide ((¬(i=((t.ni.length:Nat):Int)))∧((nth t.no i.toNat)=f.arg))))) (bD ?_)
  · unfold mX; rw [if_neg (by omega),if_neg (by omega),if_pos (by omega)]; rw [← Bool.decide_and]; exact decide_eq_decide.2 (by omega)
 refine W_r (bH rfl rfl (aA rfl (R_e ?_)))
 refine cW rfl (fun c7=>?_) fun c7=>?_
 ·
  refine W_r (aA rfl (dE (i:=0) (rVq (V.sl (List.map cBL K))) (rNq 0) (by omega) rfl (aH rfl rfl (aL rfl rfl rfl rfl (fC (i:=i) (rVq (V.sl (List.map cB (nth K 0)))) (rVq (iV i)) (by omega) (by omega) rfl (aH rfl rfl (gA rfl ?_)))))))
  refine aA rfl (R_e (aN (y1 _ _ ?_)))
  refine bB (rVq (V.bool (!(nth (nth K 0) i.toNat)))) (bD ?_)
  · unfold mX; rw [if_neg (by omega),if_neg (by omega),if_neg (by omega),if_pos (by omega)]
 refine W_r (bH rfl rfl (aA rfl (R_e ?_)))
 refine cW rfl (fun c8=>?_) fun c8=>?_
 ·
  refine W_r (aA rfl (aCo (aY rfl cU) (iR (aY (rVq (V.sl (List.map cBL K))) (aY (rVq (V.fn 105 [] [(mPq 9)])) cU)) (zW (fun r=> !nth r i.toNat) K 105 ([(V.pp [(iV i)])]) (by simp) (by simp) (fun k hk=>aF6 (nth K k) i h0 (by rw [hr k hk]; omega))) (fS (dU 6 _ (by simp [-List.map_take,-List.map_drop,-List.map_append,-List.map_reverse])) (fS (by rfl) rfl)) (by simp [-List.map_take,-List.map_drop,-List.map_append,-List.map_reverse]) (Or.inr rfl) (rF rfl (aA rfl (R_e (aN ?_)))))))
  refine y1 _ _ ?_
  refine bB (rVq (V.bool (decide (¬(0≤fi (fun jx=>(fun r=> !nth r i.toNat) (nth K jx)) 0 K.length))))) (bD ?_)
  · unfold mX; rw [if_neg (by omega),if_neg (by omega),if_neg (by omega),if_neg (by omega),if_pos (by omega)]; rw [decide_not]; exact aNG (p:=fun r=>nth r i.toNat)
 refine W_r (bH rfl rfl (aA rfl (R_e ?_)))
 refine cW rfl (fun c9=>?_) fun c9=>?_
 ·
  refine W_r (aA rfl (aA rfl (iR (aY (rVq (V.sl (List.map cBL K))) (aY (rVq (V.fn 103 [] [(mPq 9)])) cU)) (zW (fun r=>nth r i.toNat) K 103 ([(V.pp [(iV i)])]) (by simp) (by simp) (fun k hk=>aGL (nth K k) i h0 (by rw [hr k hk]; omega))) (fS (dU 6 _ (by simp [-List.map_take,-List.map_drop,-List.map_append,-List.map_reverse])) (fS (by rfl) rfl)) (by simp [-List.map_take,-List.map_drop,-List.map_append,-List.map_reverse]) (Or.inr rfl) (aA rfl (R_e (aN (y1 _ _ ?_)))))))
  refine bB (rVq (V.bool (decide (0≤fi (fun jx=>(fun r=>nth r i.toNat) (nth K jx)) 0 K.length)))) (bD ?_)
  · unfold mX; rw [if_neg (by omega),if_neg (by omega),if_neg (by omega),if_neg (by omega),if_neg (by omega),if_pos (by omega)]; exact aI4 (p:=fun r=>nth r i.toNat)
 refine W_r (bH rfl rfl (aA rfl (R_e ?_)))
 refine cW rfl (fun c10=>?_) fun c10=>?_
 ·
  refine W_r (aA rfl (rF rfl (aA rfl ?_)))
  refine aS 8 (fun T H=>T 83=(V.bool (decide (¬(i=((t.ni.length:Nat):Int)))&&(nth (nth K 0) (i+(1:Int)).toNat)))∧H 5=(bk 1 24 3 [[(iV f.op),(iV f.arg),(V.sl (List.map cF f.kids))]])∧H 6=(bk 1 54 2 [[(aQ t.ni),(aQ t.no)]])∧H 9=(bk 1 3 1 [[(iV i)]])∧True) ?_ ?_
  ·
   by_cases g11: ¬(i=((t.ni.length:Nat):Int))
   ·
    refine aC (edT g11 rfl) (aA rfl (aC (edT g11 rfl) (dE (i:=0) (rVq (V.sl (List.map cBL K))) (rNq 0) (by omega) rfl (aC (edT g11 rfl) (aH rfl rfl (aC (edT g11 rfl) (aL rfl rfl rfl rfl ?_)))))))
    refine aC (edT g11 rfl) (rO rfl rfl (by omega) (by omega) (aC (edT g11 rfl) (fC (i:=(i+(1:Int))) (rVq (V.sl (List.map cB (nth K 0)))) (rVq (iV (i+(1:Int)))) (by omega) (by omega) rfl (aC (edT g11 rfl) (aH rfl rfl (aR (edT g11 rfl) rfl ?_))))))
    exact ⟨(aDZ g11),rfl,rfl,rfl,trivial⟩
   ·
    refine G_n (edF g11 rfl) (G_n (edF g11 rfl) (G_n (edF g11 rfl) (G_n (edF g11 rfl) (G_n (edF g11 rfl) (G_n (edF g11 rfl) (G_n (edF g11 rfl) (aT (edF g11 rfl) rfl ?_)))))))
    exact ⟨(aD6 g11),rfl,rfl,rfl,trivial⟩
  intro T H ⟨t83,h5,h6,h9,_⟩
  refine aA t83 (R_e (aN (y1 _ _ ?_)))
  refine bB (rVq (V.bool (decide (¬(i=((t.ni.length:Nat):Int)))&&(nth (nth K 0) (i+(1:Int)).toNat)))) (bD ?_)
  · unfold mX; rw [if_neg (by omega),if_neg (by omega),if_neg (by omega),if_neg (by omega),if_neg (by omega),if_neg (by omega),if_pos (by omega)]; rw [show (i+1).toNat=i.toNat+1 by omega]; congr 1; exact decide_eq_decide.2 (by omega)
 refine W_r (bH rfl rfl (aA rfl (R_e ?_)))
 refine cW rfl (fun c12=>?_) fun c12=>?_
 ·
  refine fW (fun T H=>T 10=(V.bool (decide (i=((t.ni.length:Nat):Int))||(nth (nth K 0) (i+(1:Int)).toNat)))∧H 5=(bk 1 24 3 [[(iV f.op),(iV f.arg),(V.sl (List.map cF f.kids))]])∧H 6=(bk 1 54 2 [[(aQ t.ni),(aQ t.no)]])∧H 9=(bk 1 3 1 [[(iV i)]])∧True) ?_ ?_
  ·
   refine aA rfl (aA rfl ?_)
   refine aS 8 (fun T H=>T 95=(V.bool (decide (i=((t.ni.length:Nat):Int))||(nth (nth K 0) (i+(1:Int)).toNat)))∧H 5=(bk 1 24 3 [[(iV f.op),(iV f.arg),(V.sl (List.map cF f.kids))]])∧H 6=(bk 1 54 2 [[(aQ t.ni),(aQ t.no)]])∧H 9=(bk 1 3 1 [[(iV i)]])∧True) ?_ ?_
   ·
    by_cases g13:i=((t.ni.length:Nat):Int)
    ·
     refine G_n (edT g13 rfl) (G_n (edT g13 rfl) (G_n (edT g13 rfl) (G_n (edT g13 rfl) (G_n (edT g13 rfl) (G_n (edT g13 rfl) (G_n (edT g13 rfl) (aR (edT g13 rfl) rfl ?_)))))))
     exact ⟨(jI g13),rfl,rfl,rfl,trivial⟩
    ·
     refine aC (edF g13 rfl) (aA rfl (aC (edF g13 rfl) (dE (i:=0) (rVq (V.sl (List.map cBL K))) (rNq 0) (by omega) rfl (aC (edF g13 rfl) (aH rfl rfl (aC (edF g13 rfl) (aL rfl rfl rfl rfl ?_)))))))
     refine aC (edF g13 rfl) (rO rfl rfl (by omega) (by omega) (aC (edF g13 rfl) (fC (i:=(i+(1:Int))) (rVq (V.sl (List.map cB (nth K 0)))) (rVq (iV (i+(1:Int)))) (by omega) (by omega) rfl (aC (edF g13 rfl) (aH rfl rfl (aT (edF g13 rfl) rfl ?_))))))
     exact ⟨(jF g13),rfl,rfl,rfl,trivial⟩
   intro T H ⟨t95,h5,h6,h9,_⟩
   refine aA t95 ?_
   exact fM ⟨rfl,h5,h6,h9,trivial⟩
  intro T H ⟨t10,h5,h6,h9,_⟩
  refine aN (y1 _ _ ?_)
  refine bB t10 (bD ?_)
  · unfold mX; rw [if_neg (by omega),if_neg (by omega),if_neg (by omega),if_neg (by omega),if_neg (by omega),if_neg (by omega),if_neg (by omega),if_pos (by omega)]; rw [show (i+1).toNat=i.toNat+1 by omega]; congr 1; exact decide_eq_decide.2 (by omega)
 refine W_r (bH rfl rfl (aA rfl (R_e ?_)))
 refine cW rfl (fun c14=>?_) fun c14=>?_
 ·
  refine fW (fun T H=>T 10=(V.bool ((nth (nth K 1) i.toNat)||((decide (¬(i=((t.ni.length:Nat):Int)))&&(nth (nth K 0) i.toNat))&&(nth B (i+(1:Int)).toNat))))∧H 5=(bk 1 24 3 [[(iV f.op),(iV f.arg),(V.sl (List.map cF f.kids))]])∧H 6=(bk 1 54 2 [[(aQ t.ni),(aQ t.no)]])∧H 9=(bk 1 3 1 [[(iV i)]])∧True) ?_ ?_
  ·
   refine aA rfl (dE (i:=1) (rVq (V.sl (List.map cBL K))) (rNq 1) (by omega) rfl (aH rfl rfl (aL rfl rfl rfl rfl (fC (i:=i) (rVq (V.sl (List.map cB (nth K 1)))) (rVq (iV i)) (by omega) (by omega) rfl (aH rfl rfl (aA rfl ?_))))))
   refine aS 18 (fun T H=>T 122=(V.bool ((nth (nth K 1) i.toNat)||((decide (¬(i=((t.ni.length:Nat):Int)))&&(nth (nth K 0) i.toNat))&&(nth B (i+(1:Int)).toNat))))∧H 5=(bk 1 24 3 [[(iV f.op),(iV f.arg),(V.sl (List.map cF f.kids))]])∧H 6=(bk 1 54 2 [[(aQ t.ni),(aQ t.no)]])∧H 9=(bk 1 3 1 [[(iV i)]])∧True) ?_ ?_
   ·
    by_cases g15:(nth (nth K 1) i.toNat)=true
    ·
     refine G_n (ebT g15 rfl) (G_n (ebT g15 rfl) (G_n (ebT g15 rfl) (bO (rVq (V.raw undef)) (bO (rVq (V.raw undef)) (bO (rVq (V.raw undef)) (bO (rVq (V.raw undef)) (bO (rVq (V.raw undef)) ?_)))))))
     refine bO (rVq (V.raw undef)) (G_n (ebT g15 rfl) (G_n (ebT g15 rfl) (bO (rVq (V.raw undef)) (bO (rVq (V.raw undef)) (bO (rVq (V.raw undef)) (bO (rVq (V.raw undef)) (bO (rVq (V.raw undef)) ?_)))))))
     refine G_n (ebT g15 rfl) (aR (ebT g15 rfl) rfl ?_)
     exact ⟨(aIs g15),rfl,rfl,rfl,trivial⟩
    ·
     refine aC (ebF g15 rfl) (aA rfl (aC (ebF g15 rfl) (rF rfl (aC (ebF g15 rfl) (aA rfl ?_)))))
     refine aS 7 (fun T H=>T 3=(V.sl (List.map cB B))∧T 9=(mPq 9)∧T 104=(V.bool false)∧T 114=(V.bool (decide (¬(i=((t.ni.length:Nat):Int)))&&(nth (nth K 0) i.toNat)))∧H 5=(bk 1 24 3 [[(iV f.op),(iV f.arg),(V.sl (List.map cF f.kids))]])∧H 6=(bk 1 54 2 [[(aQ t.ni),(aQ t.no)]])∧H 9=(bk 1 3 1 [[(iV i)]])∧True) ?_ ?_
     ·
      by_cases g16: ¬(i=((t.ni.length:Nat):Int))
      ·
       refine aC (edT g16 rfl) (aA rfl (aC (edT g16 rfl) (dE (i:=0) (rVq (V.sl (List.map cBL K))) (rNq 0) (by omega) rfl (aC (edT g16 rfl) (aH rfl rfl (aC (edT g16 rfl) (aL rfl rfl rfl rfl ?_)))))))
       refine aC (edT g16 rfl) (fC (i:=i) (rVq (V.sl (List.map cB (nth K 0)))) (rVq (iV i)) (by omega) (by omega) rfl (aC (edT g16 rfl) (aH rfl rfl (aC (ebF g15 rfl) (aR (edT g16 rfl) rfl ?_)))))
       exact ⟨rfl,rfl,(ebF g15 rfl),(aDZ g16),rfl,rfl,rfl,trivial⟩
      ·
       refine G_n (edF g16 rfl) (G_n (edF g16 rfl) (G_n (edF g16 rfl) (G_n (edF g16 rfl) (G_n (edF g16 rfl) (G_n (edF g16 rfl) (aC (ebF g15 rfl) (aT (edF g16 rfl) rfl ?_)))))))
       exact ⟨rfl,rfl,(ebF g15 rfl),(aD6 g16),rfl,rfl,rfl,trivial⟩
     intro T H ⟨t3,t9,t104,t114,h5,h6,h9,_⟩
     refine aC t104 (aA t114 ?_)
     refine aS 6 (fun T H=>T 104=(V.bool false)∧T 121=(V.bool ((decide (¬(i=((t.ni.length:Nat):Int)))&&(nth (nth K 0) i.toNat))&&(nth B (i+(1:Int)).toNat)))∧H 5=(bk 1 24 3 [[(iV f.op),(iV f.arg),(V.sl (List.map cF f.kids))]])∧H 6=(bk 1 54 2 [[(aQ t.ni),(aQ t.no)]])∧H 9=(bk 1 3 1 [[(iV i)]])∧True) ?_ ?_
     ·
      by_cases g17:(decide (¬(i=((t.ni.length:Nat):Int)))&&(nth (nth K 0) i.toNat))=true
      ·
       have g17x:=g17
       try simp only [Bool.and_eq_true,Bool.or_eq_true,Bool.not_eq_true',decide_eq_true_eq] at g17x
       refine aC (ebT g17 rfl) (aA t3 (aC (ebT g17 rfl) (aL t9 h9 rfl rfl (aC (ebT g17 rfl) (rO rfl rfl (by omega) (by omega) (aC (ebT g17 rfl) (fC (i:=(i+(1:Int))) (rVq (V.sl (List.map cB B))) (rVq (iV (i+(1:Int)))) (by omega) (by omega) rfl ?_)))))))
       refine aC (ebT g17 rfl) (aH rfl rfl (aC t104 (aR (ebT g17 rfl) rfl ?_)))
       exact ⟨t104,(aBP g17),h5,h6,h9,trivial⟩
      ·
       have g17x:=g17
       try simp only [Bool.and_eq_true,Bool.or_eq_true,Bool.not_eq_true',decide_eq_true_eq] at g17x
       refine G_n (ebF g17 rfl) (G_n (ebF g17 rfl) (G_n (ebF g17 rfl) (G_n (ebF g17 rfl) (G_n (ebF g17 rfl) (aC t104 (aT (ebF g17 rfl) rfl ?_))))))
       exact ⟨t104,(aBY g17),h5,h6,h9,trivial⟩
     intro T H ⟨t104,t121,h5,h6,h9,_⟩
     refine aT t104 t121 ?_
     exact ⟨(aH0 g15),h5,h6,h9,trivial⟩
   intro T H ⟨t122,h5,h6,h9,_⟩
   refine aA t122 ?_
   exact fM ⟨rfl,h5,h6,h9,trivial⟩
  intro T H ⟨t10,h5,h6,h9,_⟩
  refine aN (y1 _ _ ?_)
  refine bB t10 (bD ?_)
  · unfold mX; rw [if_neg (by omega),if_neg (by omega),if_neg (by omega),if_neg (by omega),if_neg (by omega),if_neg (by omega),if_neg (by omega),if_neg (by omega),if_pos (by omega)]; rw [show (i+1).toNat=i.toNat+1 by omega]; congr 1; congr 1; congr 1; exact decide_eq_decide.2 (by omega)
 refine dA (n1 _ _ (.done ?_))
 refine fW (fun T H=>T 10=(V.bool ((nth (nth K 1) i.toNat)&&((decide (i=((t.ni.length:Nat):Int))||(nth (nth K 0) i.toNat))||(nth B (i+(1:Int)).toNat))))∧H 5=(bk 1 24 3 [[(iV f.op),(iV f.arg),(V.sl (List.map cF f.kids))]])∧H 6=(bk 1 54 2 [[(aQ t.ni),(aQ t.no)]])∧H 9=(bk 1 3 1 [[(iV i)]])∧True) ?_ ?_
 ·
  refine aA rfl (dE (i:=1) (rVq (V.sl (List.map cBL K))) (rNq 1) (by omega) rfl (aH rfl rfl (aL rfl rfl rfl rfl (fC (i:=i) (rVq (V.sl (List.map cB (nth K 1)))) (rVq (iV i)) (by omega) (by omega) rfl (aH rfl rfl (aA rfl ?_))))))
  refine aS 17 (fun T H=>T 146=(V.bool ((nth (nth K 1) i.toNat)&&((decide (i=((t.ni.length:Nat):Int))||(nth (nth K 0) i.toNat))||(nth B (i+(1:Int)).toNat))))∧H 5=(bk 1 24 3 [[(iV f.op),(iV f.arg),(V.sl (List.map cF f.kids))]])∧H 6=(bk 1 54 2 [[(aQ t.ni),(aQ t.no)]])∧H 9=(bk 1 3 1 [[(iV i)]])∧True) ?_ ?_
  ·
   by_cases g18:(nth (nth K 1) i.toNat)=true
   ·
    refine aC (ebT g18 rfl) (aA rfl (aC (ebT g18 rfl) (aA rfl ?_)))
    refine aS 7 (fun T H=>T 3=(V.sl (List.map cB B))∧T 9=(mPq 9)∧T 129=(V.bool true)∧T 138=(V.bool (decide (i=((t.ni.length:Nat):Int))||(nth (nth K 0) i.toNat)))∧H 5=(bk 1 24 3 [[(iV f.op),(iV f.arg),(V.sl (List.map cF f.kids))]])∧H 6=(bk 1 54 2 [[(aQ t.ni),(aQ t.no)]])∧H 9=(bk 1 3 1 [[(iV i)]])∧True) ?_ ?_
    ·
     by_cases g19:i=((t.ni.length:Nat):Int)
     ·
      refine G_n (edT g19 rfl) (G_n (edT g19 rfl) (G_n (edT g19 rfl) (G_n (edT g19 rfl) (G_n (edT g19 rfl) (G_n (edT g19 rfl) (aC (ebT g18 rfl) (aR (edT g19 rfl) rfl ?_)))))))
      exact ⟨rfl,rfl,(ebT g18 rfl),(jI g19),rfl,rfl,rfl,trivial⟩
     ·
      refine aC (edF g19 rfl) (aA rfl (aC (edF g19 rfl) (dE (i:=0) (rVq (V.sl (List.map cBL K))) (rNq 0) (by omega) rfl (aC (edF g19 rfl) (aH rfl rfl (aC (edF g19 rfl) (aL rfl rfl rfl rfl ?_)))))))
      refine aC (edF g19 rfl) (fC (i:=i) (rVq (V.sl (List.map cB (nth K 0)))) (rVq (iV i)) (by omega) (by omega) rfl (aC (edF g19 rfl) (aH rfl rfl (aC (ebT g18 rfl) (aT (edF g19 rfl) rfl ?_)))))
      exact ⟨rfl,rfl,(ebT g18 rfl),(jF g19),rfl,rfl,rfl,trivial⟩
    intro T H ⟨t3,t9,t129,t138,h5,h6,h9,_⟩
    refine aC t129 (aA t138 ?_)
    refine aS 6 (fun T H=>T 129=(V.bool true)∧T 145=(V.bool ((decide (i=((t.ni.length:Nat):Int))||(nth (nth K 0) i.toNat))||(nth B (i+(1:Int)).toNat)))∧H 5=(bk 1 24 3 [[(iV f.op),(iV f.arg),(V.sl (List.map cF f.kids))]])∧H 6=(bk 1 54 2 [[(aQ t.ni),(aQ t.no)]])∧H 9=(bk 1 3 1 [[(iV i)]])∧True) ?_ ?_
    ·
     by_cases g20:(decide (i=((t.ni.length:Nat):Int))||(nth (nth K 0) i.toNat))=true
     ·
      have g20x:=g20
      try simp only [Bool.and_eq_true,Bool.or_eq_true,Bool.not_eq_true',decide_eq_true_eq] at g20x
      refine G_n (ebT g20 rfl) (G_n (ebT g20 rfl) (G_n (ebT g20 rfl) (G_n (ebT g20 rfl) (G_n (ebT g20 rfl) (aC t129 (aR (ebT g20 rfl) rfl ?_))))))
      exact ⟨t129,(aIs g20),h5,h6,h9,trivial⟩
     ·
      have g20x:=g20
      try simp only [Bool.and_eq_true,Bool.or_eq_true,Bool.not_eq_true',decide_eq_true_eq] at g20x
      refine aC (ebF g20 rfl) (aA t3 (aC (ebF g20 rfl) (aL t9 h9 rfl rfl (aC (ebF g20 rfl) (rO rfl rfl (by omega) (by omega) (aC (ebF g20 rfl) (fC (i:=(i+(1:Int))) (rVq (V.sl (List.map cB B))) (rVq (iV (i+(1:Int)))) (by omega) (by omega) rfl ?_)))))))
      refine aC (ebF g20 rfl) (aH rfl rfl (aC t129 (aT (ebF g20 rfl) rfl ?_)))
      exact ⟨t129,(aH0 g20),h5,h6,h9,trivial⟩
    intro T H ⟨t129,t145,h5,h6,h9,_⟩
    refine aR t129 t145 ?_
    exact ⟨(aBP g18),h5,h6,h9,trivial⟩
   ·
    refine G_n (ebF g18 rfl) (G_n (ebF g18 rfl) (bO (rVq (V.raw undef)) (bO (rVq (V.raw undef)) (bO (rVq (V.raw undef)) (bO (rVq (V.raw undef)) (bO (rVq (V.raw undef)) (bO (rVq (V.raw undef)) ?_)))))))
    refine G_n (ebF g18 rfl) (G_n (ebF g18 rfl) (bO (rVq (V.raw undef)) (bO (rVq (V.raw undef)) (bO (rVq (V.raw undef)) (bO (rVq (V.raw undef)) (bO (rVq (V.raw undef)) (G_n (ebF g18 rfl) ?_)))))))
    refine aT (ebF g18 rfl) rfl ?_
    exact ⟨(aBY g18),rfl,rfl,rfl,trivial⟩
  intro T H ⟨t146,h5,h6,h9,_⟩
  refine aA t146 ?_
  exact fM ⟨rfl,h5,h6,h9,trivial⟩
 intro T H ⟨t10,h5,h6,h9,_⟩
 refine aN ?_
 refine bB t10 (bD ?_)
 · unfold mX; rw [if_neg (by omega),if_neg (by omega),if_neg (by omega),if_neg (by omega),if_neg (by omega),if_neg (by omega),if_neg (by omega),if_neg (by omega),if_neg (by omega)]; rw [show (i+1).toNat=i.toNat+1 by omega]; congr 1; congr 1; congr 1; exact decide_eq_decide.2 (by omega)
end Go.Proofs.YteehaobohaecmaaGreatDoor
namespace Go.Proofs.YteehaobohaecmaaGreatDoor
open Go Go.Proofs
attribute [local irreducible] aCx
theorem vK (f:Fm) (t:Tr) (hf:okF f=true) (hz:f.sz≤4096) (ht:t.no.length=t.ni.length) (hn:t.ni.length≤1024) (ih: ∀ (g:Fm) (t:Tr),g.sz < f.sz→okF g=true→g.sz≤4096→t.no.length=t.ni.length→t.ni.length≤1024→aP Tryz.prog 58 [(V.agg [(iV g.op),(iV g.arg),(V.sl (List.map cF g.kids))]),(V.agg [(aQ t.ni),(aQ t.no)])] (V.sl (List.map cB (rst t g)))):aP Tryz.prog 58 [(V.agg [(iV f.op),(iV f.arg),(V.sl (List.map cF f.kids))]),(V.agg [(aQ t.ni),(aQ t.no)])] (V.sl (List.map cB (rst t f))):=by
 refine pW Tryz.func58 aOq fun hB=>?_
 unfold s58
 dsimp only
 have hp:=bJ hf
 have hr:=cP hp.1
 have hln:=f.sz_len
 refine W_r (cK (i:=2) (n:=0) (m:=3) (cs:=[(iV f.op),(iV f.arg),(V.sl (List.map cF f.kids))]) rfl (cVq rfl) rfl rfl rfl (cK (i:=3) (n:=0) (m:=2) (cs:=[(aQ t.ni),(aQ t.no)]) rfl (cVq rfl) rfl rfl rfl (aA rfl (R_e (W_r (aU rfl rfl (aL rfl rfl rfl rfl ?_)))))))
 refine bM rfl (aA rfl (R_e (W_r (aDx (i:=6) (n:=0) rfl (cVq rfl) (R_e (aB (W_r ?_)))))))
 refine aU rfl rfl (aL rfl rfl rfl rfl (bM rfl (aA rfl (R_e (aE fun Q1 n1 x1 y1 z1=>?_)))))
 refine cQ (fun mm T H=> ∃ (k:Nat) (v:Nat) (v8:Nat),mm=f.kids.length - k∧T 2=(mPq 2)∧T 3=(mPq 3)∧T 5=(iV ((t.ni.length:Nat):Int))∧T 6=(V.ms 6 v 0 k)∧T 15=(V.sl (List.map cF f.kids))∧T 16=(iV ((f.kids.length:Nat):Int))∧T 17=(iV ((k:Nat):Int))∧H 2=(bk 1 24 3 [[(iV f.op),(iV f.arg),(V.sl (List.map cF f.kids))]])∧H 3=(bk 1 54 2 [[(aQ t.ni),(aQ t.no)]])∧H 6=(bz v 41 1 (List.map cBL ((f.kids.take k).map (rst t))))∧(H 8).ver=v8∧H 30=bZq∧(k≤f.kids.length)) ?_ ?_
 ·
  refine ⟨_,0,1,0,rfl,rfl,rfl,rfl,rfl,rfl,rfl,(eTq (rVq (iV 0)) rfl),rfl,rfl,(eTq (@rfl Blk (bz 1 41 1 [])) (by rfl)),(cVq rfl),rfl,?_⟩
  · omega
 intro mm T H ⟨k,v,v8,hmm,t2,t3,t5,t6,t15,t16,t17,h2,h3,h6,h8,h30,hk⟩ Q2 p12 p22 p32
 unfold aMX
 refine W_r (bW t17 t16 (R_e ?_))
 refine aK rfl (fun c3=>?_) fun c3=>?_
 ·
  refine aD (aE fun Q4 n4 x4 y4 z4=>(W_r (dC (i:=k) t15 t17 (by omega) (bX _) rfl (aH rfl rfl (bE (i:=8) (n:=v8) (m:=3) rfl h8 rfl (bP rfl rfl rfl rfl rfl rfl rfl rfl rfl (R_e ?_)))))))
  refine W_t (aA t6 (aL rfl rfl rfl rfl (aL t3 h3 rfl rfl (aJ (ih (nth f.kids k) t (Fm.sz_kid (by omega)) (hp.2 _ (by omega)) (Nat.le_trans (Nat.le_of_lt (Fm.sz_kid (by omega))) hz) (by omega) (by omega)) rfl (bC rfl rfl (eH (l:=((f.kids.take k).map (rst t))) (f:=cBL) (x:=(rst t (nth f.kids k))) (rVq (V.ms 6 v 0 k)) h6 (by (simp; omega)) (rVq (V.sl [[(V.sl (List.map cB (rst t (nth f.kids k))))]])) rfl rfl (by omega) (by omega) (aA rfl ?_)))))))
  refine R_e (n4 _ _ (.done (W_t (bL t17 (rNq 1) (by omega) (aA rfl (R_e ?_))))))
  refine p12 _ _ _ ?_ ⟨(k+1),(v+1),(v8+1),rfl,t2,t3,t5,(eTq (rVq (V.ms 6 (v+1) 0 (k+1))) (by rfl)),t15,t16,(eTq (rNq (k+1)) (by rfl)),h2,h3,(eTq (@rfl Blk (bz (v+1) 41 1 (List.map cBL ((f.kids.take k).map (rst t)++[(rst t (nth f.kids k))])))) (by (rw [oE (by omega)]; done))),(cVq rfl),h30,?_⟩
  · omega
  · omega
 refine aX (p32 _ _ _ (x1 _ _ (.done (W_r (aA t5 (bL rfl (rNq 1) (by omega) (aNS (i:=30) (n:=0) (m:=(t.ni.length+1)) (q:=(t.ni.length+1)) (f:=cB) (x:=false) rfl (cVq h30) (rNq (t.ni.length+1)) (rNq (t.ni.length+1)) rfl (by omega) (by omega) (by omega) ?_)))))))
 refine aA rfl (R_e (aB (W_r (aA t5 (aA rfl (R_e (aE fun Q5 n5 x5 y5 z5=>?_)))))))
 refine cQ (fun mm T H=> ∃ (i:Int) (v:Nat),mm=(i+1).toNat∧T 2=(mPq 2)∧T 3=(mPq 3)∧T 6=(V.ms 6 v 0 f.kids.length)∧T 9=(V.ms 30 1 0 (t.ni.length+1))∧T 10=(iV i)∧H 2=(bk 1 24 3 [[(iV f.op),(iV f.arg),(V.sl (List.map cF f.kids))]])∧H 3=(bk 1 54 2 [[(aQ t.ni),(aQ t.no)]])∧H 6=(bz v 41 1 (List.map cBL (f.kids.map (rst t))))∧(H 8).ver=v8∧H 30=(bk 1 4 1 (List.map cB (gD t f i)))∧(-1≤i∧i≤t.ni.length)) ?_ ?_
 ·
  refine ⟨_,((t.ni.length:Nat):Int),v,rfl,t2,t3,(eTq t6 (by (rw [show k=f.kids.length by omega]; done))),rfl,(eTq (rNq t.ni.length) (by rfl)),h2,h3,(eTq h6 (by (rw [show k=f.kids.length by omega,List.take_length]; done))),h8,(eTq (@rfl Blk (bk 1 4 1 (List.map cB (List.replicate (t.ni.length+1) false)))) (by (rw [aDX]; done))),?_⟩
  · omega
 intro mm T H ⟨i,v,hmm,t2,t3,t6,t9,t10,h2,h3,h6,h8,h30,hi⟩ Q6 p16 p26 p36
 unfold aMY
 have hol:=oC t f i
 refine aB (W_r (aA t10 (lI rfl rfl (R_e ?_))))
 refine aK rfl (fun c7=>?_) fun c7=>?_
 ·
  refine aD (aE fun Q8 n8 x8 y8 z8=>(W_t (aA t9 (aA t10 (aL t2 h2 rfl rfl (aL t3 h3 rfl rfl (aA t6 ?_)))))))
  refine aA t9 (aA t10 (iR (aY (rVq (V.agg [(iV f.op),(iV f.arg),(V.sl (List.map cF f.kids))])) (aY (rVq (V.agg [(aQ t.ni),(aQ t.no)])) (aY (rVq (V.ms 6 v 0 f.kids.length)) (aY (rVq (V.ms 30 1 0 (t.ni.length+1))) (aY (rVq (iV i)) cU))))) (wQ f t (f.kids.map (rst t)) (gD t f i) i hp.1 (by omega) (by omega) (by omega) (by omega) (by simp) (fun q hq=>by rw [eU (by simpa using hq),aAU]) (oC _ _ _)) (fS (dU 6 _ (by simp [-List.map_take,-List.map_drop,-List.map_append,-List.map_reverse])) (fS (dU 6 _ (by simp [-List.map_take,-List.map_drop,-List.map_append,-List.map_reverse])) (fS (aEr h6 (by simp) (xB (l:=(f.kids.map (rst t))) (by simp)) (fun _=>by simp)) (fS (aEr h30 (by rfl) (xB (l:=(gD t f i)) (by exact (oC _ _ _).symm)) (fun _=>by simp)) (fS (dU 6 _ (by simp [-List.map_take,-List.map_drop,-List.map_append,-List.map_reverse])) rfl))))) (by simp [-List.map_take,-List.map_drop,-List.map_append,-List.map_reverse]) (Or.inr rfl) (xW (i:=i) (rVq (V.ms 30 1 0 (t.ni.length+1))) (rVq (iV i)) h30 oB rfl (by omega) (by omega) (aAZ (vs:=[(V.bool (mX t f (f.kids.map (rst t)) (gD t f i) i.toNat))]) (B':=(bk 1 4 1 (List.map cB ((gD t f i).set i.toNat (mX t f (f.kids.map (rst t)) (gD t f i) i.toNat))))) rfl rfl rfl h30 (aFm (x:=(mX t f (f.kids.map (rst t)) (gD t f i) i.toNat)) (i:=i.toNat) (by omega) rfl rfl rfl rfl) (R_e (n8 _ _ (.done ?_)))))))
  refine W_t (aA t10 (aIS rfl rfl (by omega) (by omega) (aA rfl (R_e ?_))))
  refine p16 _ _ _ ?_ ⟨(i - 1),v,rfl,t2,t3,t6,t9,(eTq (rVq (iV (i - (1:Int)))) (by rfl)),h2,h3,h6,h8,(eTq (@rfl Blk (bk 1 4 1 (List.map cB ((gD t f i).set i.toNat (mX t f (f.kids.map (rst t)) (gD t f i) i.toNat))))) (by (rw [aGY hp.1 (by omega) (by omega)]; done))),?_⟩
  · omega
  · omega
 refine aX (p36 _ _ _ (x5 _ _ (.done (W_r (aA t9 (aA rfl (R_e ?_)))))))
 refine aN ?_
 refine bB (rVq (V.ms 30 1 0 (t.ni.length+1))) (yP h30 (by rfl) (l:=(gD t f i)) rfl (by exact (oC _ _ _).symm) (fun _=>by simp) ?_)
 · rw [show i= -1 by omega,aJX]
theorem aDs (f:Fm) (t:Tr) (hf:okF f=true) (hz:f.sz≤4096) (ht:t.no.length=t.ni.length) (hn:t.ni.length≤1024):aP Tryz.prog 58 [(V.agg [(iV f.op),(iV f.arg),(V.sl (List.map cF f.kids))]),(V.agg [(aQ t.ni),(aQ t.no)])] (V.sl (List.map cB (rst t f))):=by
  have key: ∀ (mm:Nat) (f:Fm) (t:Tr),f.sz < mm→okF f=true→f.sz≤4096→t.no.length=t.ni.length→t.ni.length≤1024→aP Tryz.prog 58 [(V.agg [(iV f.op),(iV f.arg),(V.sl (List.map cF f.kids))]),(V.agg [(aQ t.ni),(aQ t.no)])] (V.sl (List.map cB (rst t f))):=by
    intro mm
    induction mm with
    |zero=>intro f t hlt; exact absurd hlt (Nat.not_lt_zero _)
    | succ mm ih =>
      intro f t hlt hf hz ht hn
      exact vK f t hf hz ht hn fun f2 t2 hlt2=>ih f2 t2 (by omega)
  exact key (f.sz+1) f t (Nat.lt_succ_self _) hf hz ht hn
end Go.Proofs.YteehaobohaecmaaGreatDoor
namespace Go.Proofs.YteehaobohaecmaaGreatDoor
open Go Go.Proofs
theorem qK (f:Fm) (t:Tr):aP Tryz.prog 31 [(V.agg [(iV f.op),(iV f.arg),(V.sl (List.map cF f.kids))]),(V.agg [(aQ t.ni),(aQ t.no)])] (V.tup [(V.bool (hoB t f)),(iV (hoE t f))]):=by
 refine pW Tryz.func31 aOV fun hB=>?_
 unfold s31
 dsimp only
 refine W_r (cK (i:=2) (n:=0) (m:=3) (cs:=[(iV f.op),(iV f.arg),(V.sl (List.map cF f.kids))]) rfl (cVq rfl) rfl rfl rfl (cK (i:=3) (n:=0) (m:=2) (cs:=[(aQ t.ni),(aQ t.no)]) rfl (cVq rfl) rfl rfl rfl (aA rfl (aA rfl (R_e (aB (W_r ?_)))))))
 refine aL rfl rfl rfl rfl (aJ (gX f) rfl (aA rfl (R_e (aB (W_r (aA rfl (cM rfl rfl ?_)))))))
 refine R_e ?_
 refine aK rfl (fun c1=>?_) fun c1=>?_
 ·
  have h0:hoE t f=cE f:=if_pos c1
  have hb0:hoB t f=false:=by unfold hoB; rw [h0,decide_eq_false (by omega)]; rfl
  refine aB (W_r (aA rfl (aA rfl (aA rfl (R_e (aW ?_))))))
  refine eE (rVq (V.bool false)) (rVq (iV (cE f))) (bD ?_) (aF ?_)
  · rw [hb0]
  · omega
 have h1:cE f=0:=by omega
 refine aD (aE fun Q2 n2 x2 y2 z2=>(W_r (aU rfl rfl (aL rfl rfl rfl rfl (bM rfl (gH rfl rfl (aA rfl ?_)))))))
 refine R_e ?_
 refine cW rfl (fun c3=>?_) fun c3=>?_
 ·
  have h0:hoE t f=3:=by unfold hoE; rw [if_neg (by omega),if_pos (by omega)]
  have hb0:hoB t f=false:=by unfold hoB; rw [h0]; rfl
  refine W_r (aA rfl (aA rfl (R_e (aN (y2 _ _ ?_)))))
  refine eE (rVq (V.bool false)) (rVq (iV 3)) (bD ?_) (aF ?_)
  · rw [hb0]
  · omega
 refine W_r (aU rfl rfl (aL rfl rfl rfl rfl (bM rfl (aU rfl rfl (aL rfl rfl rfl rfl (bM rfl (cM rfl rfl ?_)))))))
 refine aA rfl (R_e ?_)
 refine cW rfl (fun c4=>?_) fun c4=>?_
 ·
  have h0:hoE t f=1:=by unfold hoE; rw [if_neg (by omega),if_neg (by omega),if_pos (by omega)]
  have hb0:hoB t f=false:=by unfold hoB; rw [h0]; rfl
  refine W_r (aA rfl (aA rfl (R_e (aN (y2 _ _ ?_)))))
  refine eE (rVq (V.bool false)) (rVq (iV 1)) (bD ?_) (aF ?_)
  · rw [hb0]
  · omega
 have h0:hoE t f=0:=by unfold hoE; rw [if_neg (by omega),if_neg (by omega),if_neg (by omega)]
 have hb0:hoB t f=nth (rst t f) 0:=by unfold hoB; rw [h0,qY (Nat.zero_le _)]; rfl
 have hrl:=aAU t f
 refine dA (n2 _ _ (.done (W_r (aL rfl rfl rfl rfl (aL rfl rfl rfl rfl (aJ (aDs f t (eN h1) (iI h1) (by omega) (by omega)) rfl (dE (i:=0) (rVq (V.sl (List.map cB (rst t f)))) (rNq 0) (by omega) rfl ?_)))))))
 refine aH rfl rfl (aA rfl (aA rfl (R_e (aN ?_))))
 refine eE (rVq (V.bool (nth (rst t f) 0))) (rVq (iV 0)) (bD ?_) (aF ?_)
 · rw [hb0]
 · omega
end Go.Proofs.YteehaobohaecmaaGreatDoor
