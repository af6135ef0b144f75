/- Contracts of the functions that the law N reaches, and the law itself, for every input; no condition. -/
import Derived.KernelRfl
import Derived.Test.YtinpihlhcmpkhaaGreatProg
import Derived.Test.YtinpihlhcmpkhaaGreatN3
set_option linter.unusedSimpArgs false
set_option linter.unusedVariables false
set_option maxRecDepth 20000
set_option maxHeartbeats 1000000
namespace Go.Proofs.YtinpihlhcmpkhaaGreat
section
open Go Go.Proofs
theorem aEG (h:Hy) (o:Ob) (w:List Int) (ho:jE o=0):bJ Tryz.prog 115 [(V.agg [(iV h.m.i),(iV h.m.s),(aC h.m.nx),(aC h.m.ot),(aC h.acc)]),(V.agg [(iV o.i),(V.sl (List.map cT o.tr))]),(aD w)] (V.tup [(bgP h o w),(iV (xH h o w))]):=by
 refine' pK [48] [] Tryz.func115 ?e λhB=>?_
 case e=>conv=>lhs; cbv
 dsimp only;refine aU<|cJ (i:=3) (n:=0) (m:=5) (cs:=[(iV h.m.i),(iV h.m.s),(aC h.m.nx),(aC h.m.ot),(aC h.acc)]) J (cM J) J J J<|cJ (i:=4) (n:=0) (m:=2) (cs:=[(iV o.i),(V.sl<|List.map cT o.tr)]) J (cM J) J J J<|aP<|aE<|aO<|bB J J J J<|aL (aAT h) J<|aE<|aO<|aP<|cA J J ?_
 refine cE ?_;refine aG J (λc1=>?_) λc1=>?_
 . 
  have d0:=c1;have ag:=aP9 (h:=h) (o:=o) (w:=w) (by unfold ckA; rw [if_pos d0]; exact d0);rw [show ckA h o=gG h from by unfold ckA; rw [if_pos d0]] at ag;refine aO<|aP<|aP<|aE<|aN ?_
  refine lE (aM V.nilp) (aM<|iV<|gG h) (eA SI ?_)<|aH ?_
  . unfold bgP; rw [ag,if_pos OM]
  . omega
 have hv:gG h=0:=OM
 obtain ⟨hm,hal,hac⟩:=nL hv;refine aB<|aO<|cQ J J<|aZ J J J J<|aZ J J J J<|cA J J<|cE ?_
 refine aG J (λc2=>?_) λc2=>?_
 . 
  have ck:ckA h o=15:=by unfold ckA; rw [if_neg OM,if_pos OM]
  have ag:=aP9 (h:=h) (o:=o) (w:=w) OM;rw [ck] at ag;refine aO<|aP<|aE<|aN ?_
  refine lE (aM V.nilp) (aM<|iV 15) (eA SI ?_)<|aH ?_
  . unfold bgP; rw [ag,if_pos OM]
  . omega
 have ck:ckA h o=0:=by unfold ckA; rw [if_neg OM,if_neg OM]
 refine aB<|aO<|aP<|aZ J J J J<|aL (gM w o.i) J<|aE<|aO<|aP<|cA J J<|cE ?_
 refine aG J (λc3=>?_) λc3=>?_
 . 
  have ag:=aSG (h:=h) (o:=o) (w:=w) ck c3;refine aO<|aP<|aP<|aE<|aN ?_
  refine lE (aM V.nilp) (aM<|iV<|cP w o.i) (eA SI ?_)<|aH ?_
  . unfold bgP; rw [ag,if_pos OM]
  . omega
 have hwo:cP w o.i=0:=OM
 have hw:cP w h.m.i=0:=by rw [(aB9 ck).2]; exact hwo
 obtain ⟨hwl1,hwl2⟩:=dO hw;have hl2:=pR h w;refine aB<|aU<|bB J J J J<|aP<|aL (lD o w ho) J<|aP<|bR J J<|bR J J<|aP<|aE<|aO<|aP<|jS J<|cE ?_
 refine dW J (λc4=>?_) (λc4=>?_)
 . 
  have ag:=aSl (h:=h) (o:=o) (w:=w) ck hwo (by simpa using c4);refine aO<|aP<|aE<|aN ?_
  refine lE (aM V.nilp) (aM<|iV 12) (eA SI ?_)<|aH ?_
  . unfold bgP; rw [ag,if_pos OM]
  . omega
 have hka:(dP o w).isSome=true:=by simpa using c4
 refine aB ?_;refine eZ (λT H=>T 2=(aD w)/\T 3=(cR 3)/\T 10=(aD<|(dP o w).getD [])/\T 12=(cR 50)/\H 3=(bk 1 28 5 [[(iV h.m.i),(iV h.m.s),(aC h.m.nx),(aC h.m.ot),(aC h.acc)]])/\H 4=(bk 1 31 2 [[(iV o.i),(V.sl<|List.map cT o.tr)]])/\H 48=(bk 1 3 1 [[(iV h.m.s)]])/\H 50=(bk 1 224 10 [[(iV h.m.i),(iV h.m.s),(aC h.m.nx),(aC h.m.ot),(aC h.acc),(iV o.i),(V.sl<|List.map cT o.tr),(aD w),(V.ms 48 1 0 1),V.nilsl]])/\H 812=iN/\True) ?_ ?_
 . 
  refine bB J J J J<|bB J J J J<|aP<|cQ J J<|aZ J J J J<|gA (i:=48) (n:=0) (qs:=[(0,(iV h.m.s))]) (rows:=[[(iV h.m.s)]]) J (cM J) (cO (congrArg (λv=>(0,v)) J) J) J<|bZ J J<|cJ (i:=50) (n:=0) (m:=10) (cs:=[(iV h.m.i),(iV h.m.s),(aC h.m.nx),(aC h.m.ot),(aC h.acc),(iV o.i),(V.sl<|List.map cT o.tr),(aD w),(V.ms 48 1 0 1),V.nilsl]) J (cM J) J J J<|aP ?_
  exact gD ⟨J,J,J,J,J,J,J,J,J,trivial⟩
 intro T H ⟨t2,t3,t10,t12,h3,h4,h48,h50,h812,_⟩;refine aU<|cQ t3 h3<|aZ J h3 J J<|aE<|fM<|W_g<|aI t2<|bA J<|aE<|fL (R:=λT H=>T 3=(cR 3)/\T 10=(aD<|(dP o w).getD [])/\T 12=(cR 50)/\T 13=(iV h.m.s)/\T 54=(aD w)/\T 55=(iV ((w.length:Nat):Int))/\T 56=(iV 0)/\H 3=(bk 1 28 5 [[(iV h.m.i),(iV h.m.s),(aC h.m.nx),(aC h.m.ot),(aC h.acc)]])/\H 4=(bk 1 31 2 [[(iV o.i),(V.sl<|List.map cT o.tr)]])/\H 48=(bk 1 3 1 [[(iV h.m.s)]])/\H 50=(bk 1 224 10 [[(iV h.m.i),(iV h.m.s),(aC h.m.nx),(aC h.m.ot),(aC h.acc),(iV o.i),(V.sl<|List.map cT o.tr),(aD w),(V.ms 48 1 0 1),V.nilsl]])/\H 812=iN/\True) ⟨t3,t10,t12,(aM<|iV h.m.s),(aM<|aD w),(cS w.length),(aM<|iV 0),h3,h4,h48,h50,h812,trivial⟩ ?_
 intro T H ⟨t3,t10,t12,t13,t54,t55,t56,h3,h4,h48,h50,h812,_⟩;refine .lazyCell 812 3 1 50 0 9 [(iV h.m.i),(iV h.m.s),(aC h.m.nx),(aC h.m.ot),(aC h.acc),(iV o.i),(V.sl<|List.map cT o.tr),(aD w),(V.ms 48 1 0 1),V.nilsl] DE (by rw [h50]; rfl) (by rw [h50]; rfl) J (.done ?_);refine fL (R:=λT H=>T 3=(cR 3)/\T 10=(aD<|(dP o w).getD [])/\T 12=(cR 50)/\T 13=(iV h.m.s)/\T 54=(aD w)/\T 55=(iV ((w.length:Nat):Int))/\T 56=(iV 0)/\H 3=(bk 1 28 5 [[(iV h.m.i),(iV h.m.s),(aC h.m.nx),(aC h.m.ot),(aC h.acc)]])/\H 4=(bk 1 31 2 [[(iV o.i),(V.sl<|List.map cT o.tr)]])/\H 48=(bk 1 3 1 [[(iV h.m.s)]])/\H 50=(bk 1 224 10 [[(iV h.m.i),(iV h.m.s),(aC h.m.nx),(aC h.m.ot),(aC h.acc),(iV o.i),(V.sl<|List.map cT o.tr),(aD w),(V.ms 48 1 0 1),(V.ms 812 1 0 0)]])/\H 812=(bz 1 3 1 [])/\True) ⟨t3,t10,t12,t13,t54,t55,t56,(iI<|iI h3),(iI<|iI h4),(iI<|iI h48),(by rw [aR,h50,(cM h812)]; rfl),(by rw [bT _ _ DE,aR,(cM h812)]),trivial⟩ ?_;intro T H ⟨t3,t10,t12,t13,t54,t55,t56,h3,h4,h48,h50,h812,_⟩;refine aF λQ5 n5 x5 y5 z5=>?_;refine cF (λmm T H=> ∃ (k:Nat) (v1:Nat) (v2:Nat),mm=w.length - k/\T 3=(cR 3)/\T 10=(aD<|(dP o w).getD [])/\T 12=(cR 50)/\T 13=(iV<|mU h w k)/\T 54=(aD w)/\T 55=(iV ((w.length:Nat):Int))/\T 56=(iV ((k:Nat):Int))/\H 3=(bk 1 28 5 [[(iV h.m.i),(iV h.m.s),(aC h.m.nx),(aC h.m.ot),(aC h.acc)]])/\H 4=(bk 1 31 2 [[(iV o.i),(V.sl<|List.map cT o.tr)]])/\H 48=(bk v1 3 1<|List.map cI<|nY h w<|k+1)/\H 50=(bk 1 224 10 [[(iV h.m.i),(iV h.m.s),(aC h.m.nx),(aC h.m.ot),(aC h.acc),(iV o.i),(V.sl<|List.map cT o.tr),(aD w),(V.ms 48 v1 0<|k+1),(V.ms 812 v2 0 k)]])/\H 812=(bz v2 3 1<|List.map cI<|(oJ h w).take k)/\(k<=w.length)) ?_ ?_
 . 
  refine ⟨_,0,1,1,J,t3,t10,t12,(bG t13 JR),t54,t55,(bG t56 J),h3,h4,(bG h48 JR),(bG h50 JR),(bG h812 JR),?_⟩
  . omega
 intro mm T H ⟨k,v1,v2,hmm,t3,t10,t12,t13,t54,t55,t56,h3,h4,h48,h50,h812,hk⟩ Q6 p16 p26 p36;refine aU<|bY t56 t55<|cE ?_
 refine aG J (λc7=>?_) λc7=>?_
 . 
  have hsi:=aBB hm hw k;have hrw:=mQ hm hsi.1 hsi.2;have hwi:=hwl2 k OM;have hg1:=aMk (h:=h) (w:=w) (k:=k) OM;have hg2:=aQC (h:=h) (w:=w) (k:=k) OM;refine aB (aF λQ8 n8 x8 y8 z8=>(aU<|dL (i:=k) t54 t56<|aJ J J<|aE<|aU<|aI t12<|aI t12<|gK J h50 oB<|aZ J h50 J J<|cQ t3 h3<|aZ J h3 J J ?_));refine aI t13<|dQ (i:=(mU h w k)) (aM<|aC h.m.ot) (aM<|iV<|mU h w k) OM OM J<|aJ J J<|aP<|dQ (i:=(aA w k)) (aM<|aD<|aA h.m.ot (mU h w k).toNat) (aM<|iV<|aA w k) OM OM J<|aJ J J<|aY J J<|gF (l:=((oJ h w).take k)) (f:=cI) (x:=(aA (aA h.m.ot (mU h w k).toNat) (aA w k).toNat)) (aM<|V.ms 812 v2 0 k) h812 (by (rw [List.length_take]; omega)) (aM<|V.sl [[(iV<|aA (aA h.m.ot (mU h w k).toNat) (aA w k).toNat)]])<|gK J h50 oB<|cQ J h50<|cZ (vs:=[(V.ms 812 (v2+1) 0<|k+1)]) (B':=(bk 1 224 10 [[(iV h.m.i),(iV h.m.s),(aC h.m.nx),(aC h.m.ot),(aC h.acc),(iV o.i),(V.sl<|List.map cT o.tr),(aD w),(V.ms 48 v1 0<|k+1),(V.ms 812 (v2+1) 0<|k+1)]])) J J J h50 (sB oB J J J J J)<|R_r<|cQ t3 h3<|aZ J h3 J J ?_
  refine aI t13<|dQ (i:=(mU h w k)) (aM<|aC h.m.nx) (aM<|iV<|mU h w k) OM OM J<|aJ J J<|aP<|dQ (i:=(aA w k)) (aM<|aD<|aA h.m.nx (mU h w k).toNat) (aM<|iV<|aA w k) OM OM J<|aJ J J<|aE ?_
  refine tR (λT H=>T 3=(cR 3)/\T 10=(aD<|(dP o w).getD [])/\T 12=(cR 50)/\T 13=(iV<|aA (aA h.m.nx (mU h w k).toNat) (aA w k).toNat)/\T 54=(aD w)/\T 55=(iV ((w.length:Nat):Int))/\T 56=(iV ((k:Nat):Int))/\H 3=(bk 1 28 5 [[(iV h.m.i),(iV h.m.s),(aC h.m.nx),(aC h.m.ot),(aC h.acc)]])/\H 4=(bk 1 31 2 [[(iV o.i),(V.sl<|List.map cT o.tr)]])/\H 48=(bk (v1+1) 3 1<|List.map cI<|nY h w (k+1)++[(aA (aA h.m.nx (mU h w k).toNat) (aA w k).toNat)])/\H 50=(bk 1 224 10 [[(iV h.m.i),(iV h.m.s),(aC h.m.nx),(aC h.m.ot),(aC h.acc),(iV o.i),(V.sl<|List.map cT o.tr),(aD w),(V.ms 48 (v1+1) 0<|(k+1)+1),(V.ms 812 (v2+1) 0<|k+1)]])/\H 812=(bz (v2+1) 3 1<|List.map cI<|(oJ h w).take k++[(aA (aA h.m.ot (mU h w k).toNat) (aA w k).toNat)])/\True) ?_ ?_
  . 
   refine aI t12<|aI t12<|gK J J oB<|aZ J J J J<|aP<|aY J J<|gF (l:=(nY h w<|k+1)) (f:=cI) (x:=(aA (aA h.m.nx (mU h w k).toNat) (aA w k).toNat)) (aM<|V.ms 48 v1 0<|k+1) h48 (by (rw [sR]; done)) (aM<|V.sl [[(iV<|aA (aA h.m.nx (mU h w k).toNat) (aA w k).toNat)]])<|gK J J oB<|cQ J J<|cZ (vs:=[(V.ms 48 (v1+1) 0<|(k+1)+1)]) (B':=(bk 1 224 10 [[(iV h.m.i),(iV h.m.s),(aC h.m.nx),(aC h.m.ot),(aC h.acc),(iV o.i),(V.sl<|List.map cT o.tr),(aD w),(V.ms 48 (v1+1) 0<|(k+1)+1),(V.ms 812 (v2+1) 0<|k+1)]])) J J J J (sB oB J J J J J) ?_
   exact gD ⟨t3,t10,t12,J,t54,t55,t56,h3,h4,J,J,J,trivial⟩
  intro T H ⟨t3,t10,t12,t13,t54,t55,t56,h3,h4,h48,h50,h812,_⟩;refine n8 _ _ (.done (fO<|cD t56<|aE ?_));refine p16 _ _ _ ?_ ⟨(k+1),(v1+1),(v2+1),J,t3,t10,t12,(bG t13 (by (rw [hg1]; done))),t54,t55,(bG (cS<|k+1) JR),h3,h4,(bG h48 (by (rw [aLU (k:=k+1),hg1]; first|done|rfl))),(bG h50 JR),(bG h812 (by (rw [hg2]; first|done|rfl))),?_⟩
  . omega
  . omega
 have hke:k=w.length:=OM
 have hte:(oJ h w).take k=oJ h w:=List.take_of_length_le OM;refine aS<|p36 _ _ _<|x5 _ _ ?_
 refine gU (id:=48) (id2:=50) (rows:=[[(iV h.m.i),(iV h.m.s),(aC h.m.nx),(aC h.m.ot),(aC h.acc),(iV o.i),(V.sl<|List.map cT o.tr),(aD w),(V.ms 48 v1 0<|k+1),(V.ms 812 v2 0 k)]]) (i:=0) (off:=8) (r:=[(iV h.m.i),(iV h.m.s),(aC h.m.nx),(aC h.m.ot),(aC h.acc),(iV o.i),(V.sl<|List.map cT o.tr),(aD w),(V.ms 48 v1 0<|k+1),(V.ms 812 v2 0 k)]) (m:=(nY h w<|k+1)) (g:=cI) DE h48 h50 (by (simp; done)) (by (rw [sR]; done)) J ?_;refine gU (id:=812) (id2:=50) (rows:=[[(iV h.m.i),(iV h.m.s),(aC h.m.nx),(aC h.m.ot),(aC h.acc),(iV o.i),(V.sl<|List.map cT o.tr),(aD w),(aD<|nY h w<|k+1),(V.ms 812 v2 0 k)]]) (i:=0) (off:=9) (r:=[(iV h.m.i),(iV h.m.s),(aC h.m.nx),(aC h.m.ot),(aC h.acc),(iV o.i),(V.sl<|List.map cT o.tr),(aD w),(aD<|nY h w<|k+1),(V.ms 812 v2 0 k)]) (m:=((oJ h w).take k)) (g:=cI) DE (aQ (id:=48) h812 DE) (@J Blk<|bk 1 224 10 [[(iV h.m.i),(iV h.m.s),(aC h.m.nx),(aC h.m.ot),(aC h.acc),(iV o.i),(V.sl<|List.map cT o.tr),(aD w),(aD<|nY h w<|k+1),(V.ms 812 v2 0 k)]]) (by (simp; done)) (by (rw [List.length_take]; omega)) J (.done ?_);refine fM<|W_g<|aI (aX (id:=812) (aX (id:=48) t10 J) J)<|aI (aX (id:=812) (aX (id:=48) t12 J) J)<|gK J J oB<|aZ J J J J<|aL (nC ((dP o w).getD [])<|(oJ h w).take k) J<|cE<|fL (R:=λT H=>T 12=(cR 50)/\T 103=(V.bool<|decide (((dP o w).getD [])=((oJ h w).take k)))/\H 3=(bk 1 28 5 [[(iV h.m.i),(iV h.m.s),(aC h.m.nx),(aC h.m.ot),(aC h.acc)]])/\H 4=(bk 1 31 2 [[(iV o.i),(V.sl<|List.map cT o.tr)]])/\((H 48).ver=v1/\(H 48).live=false)/\H 50=(bk 1 224 10 [[(iV h.m.i),(iV h.m.s),(aC h.m.nx),(aC h.m.ot),(aC h.acc),(iV o.i),(V.sl<|List.map cT o.tr),(aD w),(aD<|nY h w<|k+1),(aD<|(oJ h w).take k)]])/\((H 812).ver=v2/\(H 812).live=false)/\True) ⟨(aX (id:=812) (aX (id:=48) t12 J) J),(aM<|V.bool<|decide (((dP o w).getD [])=((oJ h w).take k))),(aQ (id:=812) (aQ (id:=48) h3 DE) DE),(aQ (id:=812) (aQ (id:=48) h4 DE) DE),(gV (id:=812)<|fW (id:=48)<|cM h48),J,(fW (id:=812)<|cM<|aQ (id:=48) h812 DE),trivial⟩ ?_
 intro T H ⟨t12,t103,h3,h4,h48,h50,h812,_⟩;refine .freezeP 50 12 1 0 0 [(iV h.m.i),(iV h.m.s),(aC h.m.nx),(aC h.m.ot),(aC h.acc),(iV o.i),(V.sl<|List.map cT o.tr),(aD w),(aD<|nY h w<|k+1),(aD<|(oJ h w).take k)] t12 (by rw [h50]) (by rw [h50]; rfl) (by rw [h50]; rfl) (.done ?_);refine fL (R:=λT H=>T 12=(V.pp [(iV h.m.i),(iV h.m.s),(aC h.m.nx),(aC h.m.ot),(aC h.acc),(iV o.i),(V.sl<|List.map cT o.tr),(aD w),(aD<|nY h w<|k+1),(aD<|(oJ h w).take k)])/\T 103=(V.bool<|decide (((dP o w).getD [])=((oJ h w).take k)))/\H 3=(bk 1 28 5 [[(iV h.m.i),(iV h.m.s),(aC h.m.nx),(aC h.m.ot),(aC h.acc)]])/\H 4=(bk 1 31 2 [[(iV o.i),(V.sl<|List.map cT o.tr)]])/\((H 48).ver=v1/\(H 48).live=false)/\((H 50).ver=1/\(H 50).live=false)/\((H 812).ver=v2/\(H 812).live=false)/\True) ⟨(aR _ _ _),(iI t103),(aQ h3 DE),(aQ h4 DE),(gV h48),(fW<|cM h50),(gV h812),trivial⟩ ?_;intro T H ⟨t12,t103,h3,h4,h48,h50,h812,_⟩;refine aG t103 (λc9=>?_) λc9=>?_
 . 
  have ag:=aR5 (h:=h) (o:=o) (w:=w) ck hwo hka (by have q:=c9; rw [hte] at q; exact q);refine aO<|aP<|aE<|aN ?_
  refine lE (aM V.nilp) (aM<|iV 8) (eA SI ?_)<|aH ?_
  . unfold bgP; rw [ag,if_pos DE]
  . omega
 have ag:=aQb (h:=h) (o:=o) (w:=w) ck hwo hka (by have q:=c9; rw [hte] at q; exact q);refine aB<|aU<|aI t12<|aP<|aE<|bE ?_
 refine lE (aM<|V.pp [(iV h.m.i),(iV h.m.s),(aC h.m.nx),(aC h.m.ot),(aC h.acc),(iV o.i),(V.sl<|List.map cT o.tr),(aD w),(aD<|nY h w<|k+1),(aD<|(oJ h w).take k)]) (aM<|iV 0) (eA SI ?_)<|aH ?_
 . rw [aNC ag,hke]; first|done|rfl|(rw [List.take_of_length_le OM]; first|done|rfl)
 . omega
theorem aHy (lo hi:Nat) (h1:lo<=1048576) (h2:hi<=1048576):bJ Tryz.prog 117 [(iV ((lo:Nat):Int)),(iV ((hi:Nat):Int))] (iV (((lo+hi) / 2:Nat):Int)):=by
 refine' pK [] [] Tryz.func117 ?e λhB=>?_
 case e=>conv=>lhs; cbv
 dsimp only;refine aU<|aE<|aU<|aP<|aP<|wU J J OM<|aQT (n:=(lo+hi)) J J OM<|aE<|bE ?_
 refine aW (cS<|(lo+hi) / 2)<|eA SI J
theorem yR (h:Hy) (o:Ob) (w:List Int) (e:xH h o w=0) (ho:jE o=0) (i:Nat) (hi:i<=w.length):bJ Tryz.prog 168 [(V.pp [(iV h.m.i),(iV h.m.s),(aC h.m.nx),(aC h.m.ot),(aC h.acc),(iV o.i),(V.sl (List.map cT o.tr)),(aD w),(aD (nY h w (w.length+1))),(aD (oJ h w))]),(iV ((i:Nat):Int))] (aD (jL h w i)):=by
 refine' pK [] [] Tryz.func168 ?e λhB=>?_
 case e=>conv=>lhs; cbv
 dsimp only;obtain ⟨hv,hio,hwo,hka,hdf,hwp⟩:=aBX e;obtain ⟨hm,hal,hac⟩:=nL hv;have hw:cP w h.m.i=0:=by rw [hio]; exact hwo
 obtain ⟨hwl1,hwl2⟩:=dO hw;have hl1:=sR h w<|w.length+1
 have hl2:=pR h w;have hsi:=aBB hm hw i;have hst:aA (nY h w<|w.length+1) i=mU h w i:=aEn OM;have hql:(bH [aA h.acc (mU h w i).toNat,w.drop i]).length=(aA h.acc (mU h w i).toNat).length+(w.length - i):=sD h w i;have hal2:(aA h.acc (mU h w i).toNat).length<=1024:=hac _ OM

 refine aU<|aE<|aU<|aP<|gL J<|dY (cs':=[(iV h.m.i),(iV h.m.s),(aC h.m.nx),(aC h.m.ot),(aC h.acc),(iV o.i),(V.sl<|List.map cT o.tr),(aD w),(aD<|nY h w<|w.length+1),(aD<|oJ h w)]) J J<|dY (cs':=[(aC h.acc),(iV o.i),(V.sl<|List.map cT o.tr),(aD w),(aD<|nY h w<|w.length+1),(aD<|oJ h w)]) J J<|aJ J J<|aP<|gL J<|dY (cs':=[(aD<|nY h w<|w.length+1),(aD<|oJ h w)]) J J<|aJ J J<|aP<|dL (i:=i) (aM<|aD<|nY h w<|w.length+1) (cS i)<|aJ J J ?_
 refine dQ (i:=(aA (nY h w<|w.length+1) i)) (aM<|aC h.acc) (aM<|iV<|aA (nY h w<|w.length+1) i) OM OM J<|aJ J J<|aP<|gL J<|dY (cs':=[(aD w),(aD<|nY h w<|w.length+1),(aD<|oJ h w)]) J J<|aJ J J<|aP<|kT (n:=i) (aM<|aD w) (cS i) OM (λ_=>J)<|aY J J<|aL (dD ([(aA h.acc (aA (nY h w<|w.length+1) i).toNat),List.drop i w]) (by rw [hst]; omega)) J<|aE<|bE ?_
 refine aW (aM<|aD<|bH<|[(aA h.acc (aA (nY h w<|w.length+1) i).toNat),List.drop i w])<|dM ?_ (λ_=>by simp)
 . first|(rw [hst]; done)|(rw [hst]; rfl)|skip
theorem aAN (h:Hy) (o:Ob) (w:List Int) (e:xH h o w=0) (ho:jE o=0) (i:Nat) (hi:i<=w.length) (hk:(dP o (jL h w i)).isSome=true):bJ Tryz.prog 167 [(V.pp [(iV h.m.i),(iV h.m.s),(aC h.m.nx),(aC h.m.ot),(aC h.acc),(iV o.i),(V.sl (List.map cT o.tr)),(aD w),(aD (nY h w (w.length+1))),(aD (oJ h w))]),(iV ((i:Nat):Int))] (aD (reA h o w i)):=by
 refine' pK [] [] Tryz.func167 ?e λhB=>?_
 case e=>conv=>lhs; cbv
 dsimp only;obtain ⟨hv,hio,hwo,hka,hdf,hwp⟩:=aBX e;obtain ⟨hm,hal,hac⟩:=nL hv;have hw:cP w h.m.i=0:=by rw [hio]; exact hwo
 obtain ⟨hwl1,hwl2⟩:=dO hw;have hl1:=sR h w<|w.length+1
 have hl2:=pR h w;have hsi:=aBB hm hw i;have hst:aA (nY h w<|w.length+1) i=mU h w i:=aEn OM;have hql:(bH [aA h.acc (mU h w i).toNat,w.drop i]).length=(aA h.acc (mU h w i).toNat).length+(w.length - i):=sD h w i;have hal2:(aA h.acc (mU h w i).toNat).length<=1024:=hac _ OM;have hln:=vO (lR ho) hk;have hqa:=sD h w i;have hal3:(tT h w i).length<=1024:=hal2;refine aU<|aE<|aU<|aP<|gL J<|dY (cs':=[(iV o.i),(V.sl<|List.map cT o.tr),(aD w),(aD<|nY h w<|w.length+1),(aD<|oJ h w)]) J J<|aJ J J<|aP<|aP<|aL (yR h o w e ho i hi) J<|aL (lD o (jL h w i) ho) J<|aP<|bR J J<|bR J J<|aP ?_
 refine aE<|aU<|aP<|aP<|bA J<|aP<|gL J<|dY (cs':=[(aD w),(aD<|nY h w<|w.length+1),(aD<|oJ h w)]) J J<|aJ J J<|bA J<|aP<|lS J J OM OM<|lS J J OM OM<|kT (n:=((((((dP o<|jL h w i).getD []).length:Nat):Int) - (((w.length:Nat):Int) - ((i:Nat):Int))).toNat)) (aM<|aD<|(dP o<|jL h w i).getD []) (bG (aM<|iV<|((((dP o<|jL h w i).getD []).length:Nat):Int) - (((w.length:Nat):Int) - ((i:Nat):Int)))<|rD OM) OM (λ_=>J)<|aP ?_
 refine R_q ?_;refine aW (aM<|aD<|List.drop ((((((dP o<|jL h w i).getD []).length:Nat):Int) - (((w.length:Nat):Int) - ((i:Nat):Int))).toNat)<|(dP o<|jL h w i).getD [])<|dM ?_ (λ_=>by simp)
 . unfold reA; rw [show ((((dP o<|jL h w i).getD []).length:Int) - ((w.length:Int) - (i:Int))).toNat=(tT h w i).length by omega]
theorem aHo (h:Hy) (o:Ob) (w:List Int) (e:xH h o w=0) (ho:jE o=0) (i:Nat) (hi:i<=w.length) (hk:(dP o (jL h w i)).isSome=true):bJ Tryz.prog 166 [(iV ((i:Nat):Int)),(V.pp [(V.pp [(iV h.m.i),(iV h.m.s),(aC h.m.nx),(aC h.m.ot),(aC h.acc),(iV o.i),(V.sl (List.map cT o.tr)),(aD w),(aD (nY h w (w.length+1))),(aD (oJ h w))])])] (V.bool (baA h o w i)):=by
 refine' pK [] [] Tryz.func166 ?e λhB=>?_
 case e=>conv=>lhs; cbv
 dsimp only;obtain ⟨hv,hio,hwo,hka,hdf,hwp⟩:=aBX e;obtain ⟨hm,hal,hac⟩:=nL hv;have hw:cP w h.m.i=0:=by rw [hio]; exact hwo
 obtain ⟨hwl1,hwl2⟩:=dO hw;have hl1:=sR h w<|w.length+1
 have hl2:=pR h w

 refine aU<|aE<|aU<|aJ J J<|aP<|aL (aAN h o w e ho i hi hk) J<|aJ J J<|gL J<|dY (cs':=[(aD<|oJ h w)]) J J<|aJ J J<|aP<|kT (n:=i) (aM<|aD<|oJ h w) (cS i) OM (λ_=>J)<|aL (nC (reA h o w i)<|List.drop i<|oJ h w) J<|uQ J<|aP ?_
 refine R_q ?_;refine aW (aM<|V.bool<|decide (¬((reA h o w i)=(List.drop i<|oJ h w))))<|cK ?_
 . rw [aRv]
theorem aD1 (h:Hy) (o:Ob) (w:List Int) (e:xH h o w=0) (ho:jE o=0) (i:Nat) (hi:i < w.length) (hk:(dP o (jL h w i)).isSome=true):bJ Tryz.prog 169 [(V.pp [(iV h.m.i),(iV h.m.s),(aC h.m.nx),(aC h.m.ot),(aC h.acc),(iV o.i),(V.sl (List.map cT o.tr)),(aD w),(aD (nY h w (w.length+1))),(aD (oJ h w))]),(iV ((i:Nat):Int))] (V.tup [(V.agg [(aD ((snS h o w i).p)),(iV ((snS h o w i).a)),(aD ((snS h o w i).x))]),(aD ([]:List Int)),(iV (snE h o w i))]):=by
 refine' pK [] [] Tryz.func169 ?e λhB=>?_
 case e=>conv=>lhs; cbv
 dsimp only;obtain ⟨hv,hio,hwo,hka,hdf,hwp⟩:=aBX e;obtain ⟨hm,hal,hac⟩:=nL hv;have hw:cP w h.m.i=0:=by rw [hio]; exact hwo
 obtain ⟨hwl1,hwl2⟩:=dO hw;have hl1:=sR h w<|w.length+1
 have hl2:=pR h w;have hsi:=aBB hm hw i;have hst:aA (nY h w<|w.length+1) i=mU h w i:=aEn OM;have hql:(bH [aA h.acc (mU h w i).toNat,w.drop i]).length=(aA h.acc (mU h w i).toNat).length+(w.length - i):=sD h w i;have hal2:(aA h.acc (mU h w i).toNat).length<=1024:=hac _ OM;have hrw:=mQ hm hsi.1 hsi.2;have hwi:=hwl2 i hi;have hal3:(tT h w i).length<=1024:=hal2;have hqa:=sD h w i;have hln:=vO (lR ho) hk;have hon:=aIo (h:=h) hi;have hdn:aA (reA h o w i) 0=aA ((dP o<|jL h w i).getD []) (tT h w i).length:=by unfold reA; rw [vD]; rfl
 have hrl:(reA h o w i).length=w.length - i:=by unfold reA; rw [List.length_drop]; omega
 refine aU<|bX (i:=4) (n:=0) (m:=3) J (cM J) J<|aP<|aE<|aO<|aP<|aP<|aL (aAN h o w e ho i OM hk) J<|dL (i:=0) (aM<|aD<|reA h o w i) (cS 0)<|aJ J J<|aP<|gL J<|dY (cs':=[(aD<|oJ h w)]) J J<|aJ J J ?_
 refine aP<|dL (i:=i) (aM<|aD<|oJ h w) (cS i)<|aJ J J<|cA J J<|cE ?_
 refine aG J (λc1=>?_) λc1=>?_
 . 
  have d1:snE h o w i=15:=if_pos (by have q:=c1; rw [hdn,hon] at q; exact q);refine aO<|bZ J J<|dA J J J J J J J J J<|aP<|aE<|aN ?_
  refine kE (cH (u:=(V.agg [V.nilsl,(iV 0),V.nilsl])) J (@J Blk<|bk 1 62 3 [[V.nilsl,(iV 0),V.nilsl]])<|lB oB J J) (bM<|aM V.nilsl) (bM<|aM<|iV 15) (vH (cC ?_) (aH ?_)<|cC ?_) (cC ?_)<|aH ?_
  . unfold snS; rw [if_pos OM]
  . unfold snS; rw [if_pos OM]
  . unfold snS; rw [if_pos OM]
  . rfl
  . exact d1.symm
 have d1:snE h o w i=0:=if_neg (by have q:=c1; rw [hdn,hon] at q; exact q);refine aB ?_;refine eZ (λT H=>T 4=(cR 4)/\T 5=V.nilsl/\T 6=(iV 0)/\H 4=(bk 1 62 3 [[(aD<|aA h.acc (aA (nY h w<|w.length+1) i).toNat),(iV<|aA w i),(aD<|List.drop (i+1) w)]])/\True) ?_ ?_
 . 
  refine aP<|gL J<|dY (cs':=[(iV h.m.i),(iV h.m.s),(aC h.m.nx),(aC h.m.ot),(aC h.acc),(iV o.i),(V.sl<|List.map cT o.tr),(aD w),(aD<|nY h w<|w.length+1),(aD<|oJ h w)]) J J<|dY (cs':=[(aC h.acc),(iV o.i),(V.sl<|List.map cT o.tr),(aD w),(aD<|nY h w<|w.length+1),(aD<|oJ h w)]) J J<|aJ J J<|aP<|gL J<|dY (cs':=[(aD<|nY h w<|w.length+1),(aD<|oJ h w)]) J J<|aJ J J<|aP<|dL (i:=i) (aM<|aD<|nY h w<|w.length+1) (cS i)<|aJ J J<|dQ (i:=(aA (nY h w<|w.length+1) i)) (aM<|aC h.acc) (aM<|iV<|aA (nY h w<|w.length+1) i) OM OM J<|aJ J J<|aL (kQ (aA h.acc (aA (nY h w<|w.length+1) i).toNat) (by (rw [hst]; omega))) J<|aP ?_
  refine gL J<|dY (cs':=[(aD w),(aD<|nY h w<|w.length+1),(aD<|oJ h w)]) J J<|aJ J J<|aP<|dL (i:=i) (aM<|aD w) (cS i)<|aJ J J<|aP<|gL J<|dY (cs':=[(aD w),(aD<|nY h w<|w.length+1),(aD<|oJ h w)]) J J<|aJ J J<|aP<|cD J<|kT (n:=(i+1)) (aM<|aD w) (cS<|i+1) OM (λ_=>J)<|aL (kQ (List.drop (i+1) w) (by (rw [List.length_drop]; omega))) J<|bZ J J<|dA J J J J J J J J J ?_
  refine aP<|aP ?_
  exact gD ⟨J,J,J,J,trivial⟩
 intro T H ⟨t4,t5,t6,h4,_⟩;refine bE ?_;refine kE (cH (u:=(V.agg [(aD<|aA h.acc (aA (nY h w<|w.length+1) i).toNat),(iV<|aA w i),(aD<|List.drop (i+1) w)])) t4 h4<|lB oB J J) (bM t5) (bM t6) (vH (dM ?_ (λ_=>by simp)) (aH ?_)<|dM ?_ (λ_=>by simp)) (cC ?_)<|aH ?_
 . unfold snS; first|(rw [if_neg OM]; done)|(rw [if_neg OM,hst]; first|done|rfl)
 . unfold snS; first|(rw [if_neg OM]; done)|(rw [if_neg OM,hst]; first|done|rfl)
 . unfold snS; first|(rw [if_neg OM]; done)|(rw [if_neg OM,hst]; first|done|rfl)
 . rfl
 . exact d1.symm
theorem aCV (h:Hy) (o:Ob) (w:List Int) (e:xH h o w=0) (ho:jE o=0):bJ Tryz.prog 116 [(V.pp [(iV h.m.i),(iV h.m.s),(aC h.m.nx),(aC h.m.ot),(aC h.acc),(iV o.i),(V.sl (List.map cT o.tr)),(aD w),(aD (nY h w (w.length+1))),(aD (oJ h w))]),(V.fn 117 [] [])] (V.tup [(V.agg [(aD ((lM h o w).p)),(iV ((lM h o w).a)),(aD ((lM h o w).x))]),(aD (mO h o w)),(iV (fdE h o w))]):=by
 refine' pK [] [] Tryz.func116 ?e λhB=>?_
 case e=>conv=>lhs; cbv
 dsimp only;obtain ⟨hv,hio,hwo,hka,hdf,hwp⟩:=aBX e;obtain ⟨hm,hal,hac⟩:=nL hv;have hw:cP w h.m.i=0:=by rw [hio]; exact hwo
 obtain ⟨hwl1,hwl2⟩:=dO hw;have hl1:=sR h w<|w.length+1
 have hl2:=pR h w

 refine aU<|cJ (i:=2) (n:=0) (m:=1) (cs:=[(V.pp [(iV h.m.i),(iV h.m.s),(aC h.m.nx),(aC h.m.ot),(aC h.acc),(iV o.i),(V.sl<|List.map cT o.tr),(aD w),(aD<|nY h w<|w.length+1),(aD<|oJ h w)])]) J (cM J) J J J<|bX (i:=4) (n:=0) (m:=3) J (cM J) J<|aP<|aE<|aU<|zX (bI J dR)<|aE<|aU<|bB J J J J<|gL J<|dY (cs':=[(aD w),(aD<|nY h w<|w.length+1),(aD<|oJ h w)]) J J<|aJ J J<|bA J ?_
 refine aP<|aE (aF λQ1 n1 x1 y1 z1=>?_)
 refine cF (λmm T H=> ∃ (lo:Nat) (hi:Nat) (n:Nat),mm=hi - lo/\T 1=(V.fn 117 [] [])/\T 2=(cR 2)/\T 4=(cR 4)/\T 7=(V.fn 166 [] [(cR 2)])/\T 8=(iV ((lo:Nat):Int))/\T 9=(iV ((hi:Nat):Int))/\H 2=(bk 1 175 1 [[(V.pp [(iV h.m.i),(iV h.m.s),(aC h.m.nx),(aC h.m.ot),(aC h.acc),(iV o.i),(V.sl<|List.map cT o.tr),(aD w),(aD<|nY h w<|w.length+1),(aD<|oJ h w)])]])/\H 4=(bk 1 62 3 [[V.nilsl,(iV 0),V.nilsl]])/\(lo < hi)/\(hi<=w.length)/\(hi - lo<=n)/\((dP o<|jL h w lo).isSome=true)/\(fdR h o w=fnA h o w n lo hi)) ?_ ?_
 . 
  refine ⟨_,0,w.length,w.length,J,J,J,J,J,(bG (aM<|iV 0) J),J,J,J,?_,?_,?_,?_,?_⟩
  . omega
  . omega
  . omega
  . rw [aF8 hv]; exact hka
  . rfl
 intro mm T H ⟨lo,hi,n,hmm,t1,t2,t4,t7,t8,t9,h2,h4,u1,u2,u3,hk,hc⟩ Q2 p12 p22 p32;refine aO<|aI t9<|aI t8<|lS J J OM OM<|fZ J J<|cE ?_
 refine aG J (λc3=>?_) λc3=>?_
 . 
  have d3:1 < hi - lo:=OM
  obtain ⟨n0,hn⟩: ∃ n0,n=n0+1:=⟨n - 1,OM⟩;have hqm:=sD h w<|(lo+hi) / 2
  refine aB (iZ λQ4 n4 x4 y4 z4=>(aU<|aI t1<|aI t8<|aI t9<|iP (aM<|V.fn 117 [] []) (bI (cS lo)<|bI (cS hi) dR) (aHy lo hi OM OM) (eD _ _ (by simp [-List.map_take,-List.map_drop,-List.map_append,-List.map_reverse])) (by simp [-List.map_take,-List.map_drop,-List.map_append,-List.map_reverse]) (Or.inl (by simp [-List.map_take,-List.map_drop,-List.map_append,-List.map_reverse]))<|aE<|aU<|bB t2 h2 J J<|aP<|aL (yR h o w e ho ((lo+hi) / 2) OM) J<|aE<|fM ?_));refine aU<|aP<|bA J<|fZ J J<|cE ?_
  refine aG J (λc5=>?_) λc5=>?_
  . 
   have d4:1024 < (jL h w<|(lo+hi) / 2).length:=OM
   obtain ⟨s1,s2,s3⟩:=aBz e (show fdR h o w=(none,[],3) by rw [hc,hn]; exact aLn d3 d4);refine aO<|bZ J J<|dA t4 J J h4 J J J J J<|aP<|aE<|aN<|y4 _ _<|p22 _ _<|y1 _ _ ?_
   refine kE (cH (u:=(V.agg [V.nilsl,(iV 0),V.nilsl])) t4 (@J Blk<|bk 1 62 3 [[V.nilsl,(iV 0),V.nilsl]])<|lB oB J J) (bM<|aM V.nilsl) (bM<|aM<|iV 3) (vH (cC ?_) (aH ?_)<|cC ?_) (cC ?_)<|aH ?_
   . rw [s1]
   . rw [s1]
   . rw [s1]
   . rw [s2]
   . rw [s3]
  have d4:(jL h w<|(lo+hi) / 2).length<=1024:=OM
  refine aB<|aO<|bB t2 h2 J J<|gL J<|dY (cs':=[(iV o.i),(V.sl<|List.map cT o.tr),(aD w),(aD<|nY h w<|w.length+1),(aD<|oJ h w)]) J J<|aJ J J<|aP<|aL (lD o (jL h w<|(lo+hi) / 2) ho) J<|aP<|bR J J<|bR J J<|aP<|aE<|fM ?_
  refine aU<|aP<|jS J<|cE ?_
  refine dW J (λc6=>?_) (λc6=>?_)
  . 
   have d5:(dP o<|jL h w<|(lo+hi) / 2).isSome=false:=by simpa using c6
   obtain ⟨s1,s2,s3⟩:=aBz e (show fdR h o w=(none,jL h w ((lo+hi) / 2),0) by rw [hc,hn]; exact aJL d3 d4 d5);refine aO<|bZ J J<|aP<|dA t4 J J h4 J J J J J<|aP<|aE<|aN<|y4 _ _<|p22 _ _<|y1 _ _ ?_
   refine kE (cH (u:=(V.agg [V.nilsl,(iV 0),V.nilsl])) t4 (@J Blk<|bk 1 62 3 [[V.nilsl,(iV 0),V.nilsl]])<|lB oB J J) (bM<|aM<|aD<|jL h w<|(lo+hi) / 2) (bM<|aM<|iV 0) (vH (cC ?_) (aH ?_)<|cC ?_) (dM ?_ (λ_=>by simp))<|aH ?_
   . rw [s1]
   . rw [s1]
   . rw [s1]
   . rw [s2]
   . rw [s3]
  have d5:(dP o<|jL h w<|(lo+hi) / 2).isSome=true:=by simpa using c6
  refine aB<|aU<|aI t7<|aP<|iP (aM<|V.fn 166 [] [(cR 2)]) (bI (cS<|(lo+hi) / 2) dR) (aHo h o w e ho ((lo+hi) / 2) OM d5) (cO (dN 6 _ (by simp [-List.map_take,-List.map_drop,-List.map_append,-List.map_reverse]))<|cO (by simp [fR,Blk.own,h2,h4]) J) (by simp [-List.map_take,-List.map_drop,-List.map_append,-List.map_reverse]) (Or.inr J)<|cE ?_
  refine pS J (λc7=>?_) (λc7=>?_)
  . 
   have d6:baA h o w ((lo+hi) / 2)=true:=c7;refine fO<|aP<|aE<|n4 _ _ ?_
   refine p12 _ _ _ ?_ ⟨((lo+hi) / 2),hi,(n - 1),J,t1,t2,t4,t7,(bG (cS<|(lo+hi) / 2) JR),t9,h2,h4,?_,?_,?_,?_,?_⟩
   . omega
   . omega
   . omega
   . omega
   . first|exact hk|exact d5
   . rw [hc,hn]; first|exact aEZ d3 d4 d5 d6|exact aCN d3 d4 d5 d6
  have d6:baA h o w ((lo+hi) / 2)=false:=by simpa using c7
  refine fO<|aP<|aE<|n4 _ _ ?_
  refine p12 _ _ _ ?_ ⟨lo,((lo+hi) / 2),(n - 1),J,t1,t2,t4,t7,t8,(bG (cS<|(lo+hi) / 2) JR),h2,h4,?_,?_,?_,?_,?_⟩
  . omega
  . omega
  . omega
  . omega
  . first|exact hk|exact d5
  . rw [hc,hn]; first|exact aEZ d3 d4 d5 d6|exact aCN d3 d4 d5 d6
 have d3: ¬ 1 < hi - lo:=OM
 obtain ⟨n0,hn⟩: ∃ n0,n=n0+1:=⟨n - 1,OM⟩;obtain ⟨s1,s2,s3⟩:=aGt (q:=[]) (z:=0) e (by rw [hc,hn]; exact aJn d3);have s4:mO h o w=[]:=s2;refine aS<|p32 _ _ _<|x1 _ _ (.done (aU<|bB t2 h2 J J<|aI t8<|aL (aD1 h o w e ho lo OM hk) J<|bR J J<|bR J J<|bR J J<|dA t4 J J h4 J J J J J<|aP<|aE<|bE ?_))
 refine kE (cH (u:=(V.agg [(aD<|(snS h o w lo).p),(iV<|(snS h o w lo).a),(aD<|(snS h o w lo).x)])) t4 (@J Blk<|bk 1 62 3 [[(aD<|(snS h o w lo).p),(iV<|(snS h o w lo).a),(aD<|(snS h o w lo).x)]])<|lB oB J J) (bM<|aM<|aD ([]:List Int)) (bM<|aM<|iV<|snE h o w lo) (vH (dM ?_ (λ_=>by simp)) (aH ?_)<|dM ?_ (λ_=>by simp)) (dM ?_ (λ_=>by simp))<|aH ?_
 . rw [s1]
 . rw [s1]
 . rw [s1]
 . rw [s2]
 . rw [s3]
theorem aAQ (h:Hy) (o:Ob) (w:List Int) (ho:jE o=0):bJ Tryz.prog 68 [(V.agg [(iV h.m.i),(iV h.m.s),(aC h.m.nx),(aC h.m.ot),(aC h.acc)]),(V.agg [(iV o.i),(V.sl (List.map cT o.tr))]),(aD w)] (V.tup [(V.agg [(aD ((lM h o w).p)),(iV ((lM h o w).a)),(aD ((lM h o w).x))]),(aD (mO h o w)),(iV (fdE h o w))]):=by
 refine' pK [] [] Tryz.func68 ?e λhB=>?_
 case e=>conv=>lhs; cbv
 dsimp only;refine aU<|cJ (i:=3) (n:=0) (m:=5) (cs:=[(iV h.m.i),(iV h.m.s),(aC h.m.nx),(aC h.m.ot),(aC h.acc)]) J (cM J) J J J<|cJ (i:=4) (n:=0) (m:=2) (cs:=[(iV o.i),(V.sl<|List.map cT o.tr)]) J (cM J) J J J<|bX (i:=6) (n:=0) (m:=3) J (cM J) J<|aP<|aE<|aU<|bB J J J J<|bB J J J J<|aP<|aL (aEG h o w ho) J<|aP<|bR J J<|bR J J<|aP ?_
 refine aE<|aO<|aP<|cA J J<|cE ?_
 refine aG J (λc1=>?_) λc1=>?_
 . 
  obtain ⟨s1,s2,s3⟩:=aN5 (h:=h) (o:=o) (w:=w) c1;refine aO<|bZ J J<|aP<|dA J J J J J J J J J<|aP<|aE<|aN ?_
  refine kE (cH (u:=(V.agg [V.nilsl,(iV 0),V.nilsl])) J (@J Blk<|bk 1 62 3 [[V.nilsl,(iV 0),V.nilsl]])<|lB oB J J) (bM<|aM V.nilsl) (bM<|aM<|iV<|xH h o w) (vH (cC ?_) (aH ?_)<|cC ?_) (cC ?_)<|aH ?_
  . rw [s1]
  . rw [s1]
  . rw [s1]
  . rw [s2]
  . rw [s3]
 have d0:xH h o w=0:=OM
 have d1:=aNC d0;refine aB<|aU<|aI ((aM<|bgP h o w).trans d1)<|aL (aCV h o w d0 ho) J<|bR J J<|bR J J<|bR J J<|dA J J J J J J J J J<|aP<|aE<|bE ?_
 refine kE (cH (u:=(V.agg [(aD<|(lM h o w).p),(iV<|(lM h o w).a),(aD<|(lM h o w).x)])) J (@J Blk<|bk 1 62 3 [[(aD<|(lM h o w).p),(iV<|(lM h o w).a),(aD<|(lM h o w).x)]])<|lB oB J J) (bM<|aM<|aD<|mO h o w) (bM<|aM<|iV<|fdE h o w) (eA SI J) (eA SI J)<|eA SI J
end
section
open Go
def wC (l:List Tr):Nat:=(l.map λt=>t.ni.length).sum
theorem zY (t:Tr) (l:List Tr):wC (t::l)=t.ni.length+wC l:=by simp [wC]
theorem aOA (l k:List Tr):wC (l++k)=wC l+wC k:=by simp [wC]
theorem xR (p:Tr->Bool): ∀ (l:List Tr),wC (l.filter p)+wC (l.filter λt=> !p t)=wC l
  |[]=>rfl
  | t :: l => by
    have ih:=xR p l
    grind [zY]
theorem aOV (l:List Tr) (t:Tr):wC (ins l t)=wC l+t.ni.length:=by grind [ins,aOA,zY,xR]
theorem aMl {n:Nat}: ∀ {l:List Tr},(∀ t∈l,t.ni.length<=n)->wC l<=l.length*n
  |[],_=>by simp [wC]
  | t :: l, h => by
    have h1:=h t<|List.mem_cons_self ..
    have h2:=aMl λu hu=>h u<|List.mem_cons_of_mem _ hu
    grind [zY,Nat.succ_mul]
theorem aIL {n : Nat} {p : Tr -> Bool} : ∀ {l : List Tr}, (∀ t ∈ l, p t = true -> t.ni.length < n) -> l.Pairwise (λu v => ¬(p u = true /\ p v = true)) -> wC (l.filter p) < n \/ wC (l.filter p) = 0
  |[],_,_=>.inr rfl
  | t :: l, h, hp => by
    obtain ⟨h1,h2⟩:=List.pairwise_cons.1 hp;rw [List.filter_cons];cases q:p t with
    | false =>
      simp only [Bool.false_eq_true,if_false];exact aIL (λu hu=>h u<|List.mem_cons_of_mem _ hu) h2
    | true =>
      simp only [if_true]
      have e:l.filter p=[]:=by
        grind [List.filter_eq_nil_iff]
      rw [e,zY];have:=h t (List.mem_cons_self ..) q;left;show t.ni.length+0 < n;omega
theorem aRu {o:Ob} (ho:OK o) (t:Tr):o.tr.Pairwise (λu v=> ¬((!kp t u)=true/\(!kp t v)=true)):=by
  rw [List.pairwise_iff_getElem];intro i j hi hj hij;have c1:o.tr[i]=aA o.tr i:=by grind [aA]
  have c2:o.tr[j]=aA o.tr j:=by grind [aA]
  rw [c1,c2];rintro ⟨h1,h2⟩;have p1:hp t.ni (aA o.tr i).ni=true:=by simpa [kp] using h1
  have p2:hp t.ni (aA o.tr j).ni=true:=by simpa [kp] using h2
  obtain ⟨x,hx⟩:=kN.1 p1;obtain ⟨y,hy⟩:=kN.1 p2;have hpre:=ho.pre i j hij hj;have hlen:(aA o.tr i).ni.length<=(aA o.tr j).ni.length\/(aA o.tr j).ni.length<=(aA o.tr i).ni.length:=Nat.le_total ..;rcases hlen with q|q
  . have e:(aA o.tr j).ni=(aA o.tr i).ni++x.take ((aA o.tr j).ni.length - (aA o.tr i).ni.length):=by
      have:=congrArg (List.take (aA o.tr j).ni.length)<|hx.symm.trans hy
      grind [List.take_append,List.take_of_length_le]
    grind [kN]
  . have e:(aA o.tr i).ni=(aA o.tr j).ni++y.take ((aA o.tr i).ni.length - (aA o.tr j).ni.length):=by
      have:=congrArg (List.take (aA o.tr i).ni.length)<|hy.symm.trans hx
      grind [List.take_append,List.take_of_length_le]
    have h1:=aF7<|kN.2 ⟨_,e⟩
    have h2:=uX<|OK.lt_of ho.ord hij hj
    omega
theorem aOY {o:Ob} (ho:OK o) {t:Tr} (hu:(dP o t.ni).isSome=false):wC o.tr < wC (lH o.tr t):=by
  have hn: ¬(t.ni=[]\/ ∃ u∈o.tr,hp u.ni t.ni=true):=λz=>by rw [oD.2 z] at hu; cases hu
  have hl: ¬inL o.tr t:=λz=>by
    grind [aJd,List.length_pos_iff]
  unfold lH;rw [if_neg hl,aOV];have hw:=xR (kp t) o.tr;have hpos:0 < t.ni.length:=List.length_pos_iff.2 λe=>hn (.inl e)
  have h1:wC (o.tr.filter λu=> !kp t u) < t.ni.length\/wC (o.tr.filter λu=> !kp t u)=0:=aIL (λu hm hk=>by
    have p1:hp t.ni u.ni=true:=by simpa [kp] using hk
    obtain ⟨x,hx⟩:=kN.1 p1;have hne:x≠[]:=λe=>hn (.inr ⟨u,hm,by rw [e,List.append_nil] at hx; rw [hx]; exact aFm _⟩)
    have:=congrArg List.length hx;rw [List.length_append] at this;have:=List.length_pos_iff.2 hne;omega) (aRu ho t)
  omega
theorem aOz {o:Ob} (ho:OK o):wC o.tr<=10240000:=by
  have h:=aMl (l:=o.tr) (n:=1024) λt ht=>by
    obtain ⟨k,hk,rfl⟩:=lY ht;exact (ho.pr k hk).1.lel
  have:=ho.len;omega
theorem aKv {o:Ob} {t:Tr} (h:(tJ o.i o.tr [t]).2=0) (hk:(dP o t.ni).isSome=true):wC (vR o [t]).tr=wC o.tr\/wC o.tr < wC (vR o [t]).tr:=by
  rw [kX h];show wC (lH o.tr t)=_\/_ < wC (lH o.tr t);unfold lH;split
  . exact .inl J
  . rename_i hl
    -- an unlisted word that is known:only the empty one
    refine absurd ?_ hl;rcases oD.1 hk with e|⟨u,hu,g⟩
    . right; rw [e]; rfl
    . left
      obtain ⟨k,hk2,rfl⟩:=lY hu;exact pV.2 ⟨k,hk2,by rw [Nat.zero_add]; exact g⟩
theorem aE1 {m : M} : ∀ {ws : List (List Int)} {o : Ob}, OK o -> wC o.tr <= wC (eP m o ws).1.tr /\ ((eP m o ws).2 = 0 -> (∃ x ∈ ws, (dP o x).isSome = false) -> wC o.tr < wC (eP m o ws).1.tr)
  |[],o,_=>⟨Nat.le_refl _,λ_ h=>by obtain ⟨x,hx,_⟩:=h; cases hx⟩
  | w :: ws, o, ho => by
    unfold eP;by_cases e1:wX m m.s w≠0
    . grind
    rw [if_neg e1];by_cases e2:(tJ o.i o.tr [⟨w,gQ m m.s w⟩]).2≠0
    . grind
    rw [if_neg e2];have h0:(tJ o.i o.tr [⟨w,gQ m m.s w⟩]).2=0:=OM
    have ok':=aD3 (l:=[⟨w,gQ m m.s w⟩]) ho;obtain ⟨i1,i2⟩:=aE1 (m:=m) (ws:=ws) ok';cases hk:(dP o w).isSome with
    | false =>
      grind [aOY,kX]
    | true =>
      have hw:=aKv h0 (t:=⟨w,gQ m m.s w⟩) hk;refine ⟨OM,λhe hx=>?_⟩;rcases hw with hw|hw
      . obtain ⟨x, hx, hu⟩ := hx
        rcases List.mem_cons.1 hx with q|q
        . subst q; rw [hk] at hu; cases hu
        . have same:vR o [⟨w,gQ m m.s w⟩]=o:=by
            rw [kX h0];unfold lH;split
            . rfl
            . rename_i hl
              refine absurd ?_ hl;rcases oD.1 hk with e|⟨u,hu',g⟩
              . right; rw [e]; rfl
              . left
                obtain ⟨k,hk2,rfl⟩:=lY hu';exact pV.2 ⟨k,hk2,by rw [Nat.zero_add]; exact g⟩
          grind
      . omega
end
section
open Go
theorem aSa {t:Dt} (h:iB t=0):Bd t:=by
  have tr:=tC (lC h)<|mT h
  have hn:=(oZ h).2.1
  have key: ∀ k,k < t.nd.length->(aA t.nd k).ac.length<=1024/\(aA t.nd k).sf.length<=1024/\(aA t.nd k).kd.length<=4096/\(aA t.nd k).ou.length=(aA t.nd k).kd.length/\ ∀ j,j < (aA t.nd k).ou.length->(aA (aA t.nd k).ou j).length<=1024:=by
    intro k hk;cases hl:(aA t.nd k).lf with
    | true =>
      have q:=aB0 h hk hl;have a:=(dO q.aw).1;rw [q.sf,q.ou,q.kd]
      grind
    | false =>
      have q:=qK h hk hl;have a:=(dO q.sw).1;have b:=aAc (P:=(aA t.nd k).kd) q.kr<|tr.d1 k hk
      rw [q.ac];exact ⟨SI,a,OM,q.len,λj hj=>by have:=(aR9<|q.ov j hj).1; omega⟩
  exact ⟨hn,λk hk=>by have:=(key k hk).1; omega,λk hk=>by have:=(key k hk).2.1; omega,λk hk=>by have:=key k hk; omega,λk hk=>by have:=(key k hk).2.2.1; omega,λk hk j hj=>by have:=(key k hk).2.2.2.2 j hj; omega⟩
theorem aF2 {t:Dt} {o:Ob} {w:List Int}: ∀ (f n:Nat),(gS t o w f n).2.1≠[]->(dP o (gS t o w f n).2.1).isSome=false
  |0,_,h=>absurd rfl h
  | f + 1, n, h => by
    unfold gS at h ⊢;split at h
    . exact absurd J h
    rename_i g1; rw [if_neg g1];split at h
    . exact absurd J h
    rename_i g2; rw [if_neg g2];split at h
    . rename_i g3; rw [if_pos g3]; exact g3
    rename_i g3; rw [if_neg g3];split at h
    . rename_i g4; rw [if_pos g4]; exact aF2 f _ h
    . exact absurd J h
theorem aJO {t:Dt} {o:Ob} {w:List Int} (h:(bF t o w).2.1≠[]):(dP o (bF t o w).2.1).isSome=false:=by grind [bF,aF2]
theorem aPH {l:Ts} {o:Ob} {x:List Int} (h:x∈qra l o):(dP o x).isSome=false:=by grind [qra,qr1,aJO]
theorem aME {l:List (List Int)} (h:mK l≠[]): ∃ x,x∈mK l/\x∈l:=by
  obtain ⟨x,hx⟩:=List.exists_mem_of_ne_nil _ h;exact ⟨x,hx,(vQ.1 hx).1⟩
theorem aPy {l:Ts} {o:Ob} (h:(dJ l o).2.1≠[]):(dJ l o).1=l/\ ∃ x∈(dJ l o).2.1,(dP o x).isSome=false:=by grind [aME,aPH,dJ]
theorem aOF {l:Ts} {o:Ob} {s:Spl} (h:(hJ l o s).2.1≠[]): ∃ x∈(hJ l o s).2.1,(dP o x).isSome=false:=by
  by_cases h1:kH l o≠0
  . grind [aDs]
  by_cases h2:prS s l.i≠0
  . grind [aDO]
  by_cases h3:(bF l.t o<|gJ s).2.2≠0
  . grind [aDU]
  by_cases h4:0 < (bF l.t o<|gJ s).2.1.length
  . grind [aDJ,aJO]
  by_cases h5:(sC l o s).lf=false
  . grind [aDg]
  grind [aCs,vX,aCJ,aME,aBS,aDy,wQ]
def rfA (s:Spl) (m:M) (l:Ts):Nat->Ob->Ts×Ob×Int
  |0,o=>(l,o,0)
  | n + 1, o => if (hJ l o s).2.2 ≠ 0 \/ (hJ l o s).2.1 = [] then ((hJ l o s).1, o, (hJ l o s).2.2) else
      if (eP m o (hJ l o s).2.1).2≠0 then (l,(eP m o (hJ l o s).2.1).1,(eP m o (hJ l o s).2.1).2) else rfA s m l n (eP m o (hJ l o s).2.1).1
section
variable {s:Spl} {m:M} {l:Ts} {n:Nat} {o:Ob}
theorem uI (h:(hJ l o s).2.2≠0\/(hJ l o s).2.1=[]):rfA s m l (n+1) o=((hJ l o s).1,o,(hJ l o s).2.2):=if_pos h
theorem aIu (h: ¬((hJ l o s).2.2≠0\/(hJ l o s).2.1=[])) (h2:(eP m o (hJ l o s).2.1).2≠0):rfA s m l (n+1) o=(l,(eP m o (hJ l o s).2.1).1,(eP m o (hJ l o s).2.1).2):=by rw [rfA,if_neg h,if_pos h2]
theorem aHK (h: ¬((hJ l o s).2.2≠0\/(hJ l o s).2.1=[])) (h2:(eP m o (hJ l o s).2.1).2=0):rfA s m l (n+1) o=rfA s m l n (eP m o (hJ l o s).2.1).1:=by grind [rfA]
def lft (o:Ob):Nat:=10240000 - wC o.tr
theorem aIl {ws:List (List Int)} (ho:OK o) (h:(eP m o ws).2=0) (hx: ∃ x∈ws,(dP o x).isSome=false):OK (eP m o ws).1/\lft (eP m o ws).1 < lft o:=by grind [oQ,aE1,aOz,lft]
theorem aEy {ws:List (List Int)} (ho:OK o):lft (eP m o ws).1<=lft o:=by grind [aE1,lft]
theorem aG0 (ho:OK o) (h: ¬((hJ l o s).2.2≠0\/(hJ l o s).2.1=[])) (h2:(eP m o (hJ l o s).2.1).2=0):lft (eP m o (hJ l o s).2.1).1 < lft o:=
  (aIl ho h2 (aOF λe=>h (.inr e))).2
end
theorem aMc {s : Spl} {m : M} {l : Ts} : ∀ {n : Nat} {o : Ob}, OK o -> lft o < n -> (rfA s m l n o).2.2 = 0 -> ∃ q, OK q /\ q.i = o.i /\ lft q <= lft o /\ (rfA s m l n o).1 = (hJ l q s).1 /\ (rfA s m l n o).2.1 = q /\ (hJ l q s).2.2 = 0 /\ (hJ l q s).2.1 = []
  |0,o,_,h,_=>by omega
  | n + 1, o, ho, h, he => by
    by_cases g:(hJ l o s).2.2≠0\/(hJ l o s).2.1=[]
    . grind [uI]
    . by_cases g2:(eP m o (hJ l o s).2.1).2≠0
      . grind [aIu]
      . have g2':(eP m o (hJ l o s).2.1).2=0:=OM
        rw [aHK g g2'] at he ⊢;have hl:=aG0 ho g g2';have hk:=oQ (m:=m) (ws:=(hJ l o s).2.1) ho;obtain ⟨q,a,b,c,d⟩:=aMc hk.1 OM he
        grind
theorem aJo {h:Hy} {m:M} {w:List Int}: ∀ {n:Nat} {o:Ob},OK o->OK (lcA h m w n o).1/\(lcA h m w n o).1.i=o.i/\lft (lcA h m w n o).1<=lft o
  |0,o,ho=>⟨ho,rfl,Nat.le_refl _⟩
  | n + 1, o, ho => by
    have hk:=oQ (m:=m) (ws:=[mO h o w]) ho;have hl:=aEy (m:=m) (ws:=[mO h o w]) ho;unfold lcA;split
    . exact ⟨ho,J,Nat.le_refl _⟩
    split
    . exact ⟨hk.1,hk.2,hl⟩
    . obtain ⟨a,b,c⟩:=aJo (h:=h) (m:=m) (w:=w) (n:=n) hk.1
      exact ⟨a,b.trans hk.2,OM⟩
theorem aPs {h:Hy} {m:M} {w:List Int} {o:Ob} (ho:OK o):OK (lcR h m w o).1/\(lcR h m w o).1.i=o.i/\lft (lcR h m w o).1<=lft o:=by grind [oQ,aEy,lcR,aJo]
def aCt:Nat:=10240200
theorem aFh (o:Ob):lft o < aCt:=by unfold lft aCt; omega
def rC (m:M) (l:Ts) (o:Ob) (h:Hy) (w:List Int):Ts×Ob×Int:=
  if (lcR h m w o).2.2≠0 then (l,(lcR h m w o).1,(lcR h m w o).2.2) else rfA (lcR h m w o).2.1 m l aCt (lcR h m w o).1
theorem aEL {m:M} {l:Ts} {o:Ob} {h:Hy} {w:List Int} (e:(lcR h m w o).2.2≠0):rC m l o h w=(l,(lcR h m w o).1,(lcR h m w o).2.2):=if_pos e
theorem aId {m:M} {l:Ts} {o:Ob} {h:Hy} {w:List Int} (e:(lcR h m w o).2.2=0):rC m l o h w=rfA (lcR h m w o).2.1 m l aCt (lcR h m w o).1:=if_neg OM
def cpT (m:M) (l:Ts) (o:Ob) (h:Hy) (w:List Int):Ts:=if (rC m l o h w).2.2≠0 then l else (rC m l o h w).1
def cpO (m:M) (l:Ts) (o:Ob) (h:Hy) (w:List Int):Ob:=if (rC m l o h w).2.2≠0 then o else (rC m l o h w).2.1
end
section
open Go
def oP (l:Ts):Nat:=(fT l.t.nd).length
structure LnI (m:M) (l:Ts) (o:Ob):Prop where
  d:iB l.t=0
  a:oP l<=128
  i:l.i=m.i
  ok:OK o
  oi:o.i=m.i
theorem aFz {t:Dt} {n:Int} {aV w:List Int} (h:nP t n aV w=0):iB (wN t n aV w)=0/\(fT (wN t n aV w).nd).length=(fT t.nd).length+1:=by
  obtain ⟨a,b,c⟩:=aEg h;refine ⟨a,?_⟩;rw [(oZ a).2.2.2.2,(oZ (aBI h).1).2.2.2.2] at c;exact c
theorem aDc {t:Dt} {n:Int} {sf aV w other:List Int} (h:spE t n sf aV w other=0):iB (xE t n sf aV w other)=0/\(fT (xE t n sf aV w other).nd).length=(fT t.nd).length+1:=by
  obtain ⟨a,b,c⟩:=aBH h;refine ⟨a,?_⟩;rw [(oZ a).2.2.2.2,(oZ (aAW h).1).2.2.2.2] at c;exact c
theorem aD5 {l:Ts} {o:Ob} (hd:iB l.t=0) (ha:oP l<=128):iB (dJ l o).1.t=0/\oP (dJ l o).1<=128/\(dJ l o).1.i=l.i/\((dJ l o).1=l\/oP (dJ l o).1=oP l+1)/\
    ((dJ l o).2.2.2=0->(dJ l o).2.1=[]->(dJ l o).2.2.1=false->oP (dJ l o).1=oP l+1):=by grind [aDf,oP,qF,aFz]
theorem aPC {l:Ts} {o:Ob} {s:Spl} (hd:iB l.t=0) (ha:oP l<=128):iB (hJ l o s).1.t=0/\oP (hJ l o s).1<=128/\(hJ l o s).1.i=l.i/\((hJ l o s).2.2=0->(hJ l o s).2.1=[]->oP (hJ l o s).1=oP l+1):=by
  rcases aDA l o s with ⟨h1,h2⟩|⟨h1,h2,h3,h4,h5,h6,h7,h8,h9,h10⟩
  . grind
  . have hlt:oP l < 128:=by
      grind [aCs,aBS,oP]
    obtain ⟨g1,g2⟩:=aDc h9
    grind [oP,rfT]
theorem aPh {m:M} {l:Ts} {o:Ob} {h:Hy} {w:List Int} (hi:LnI m l o) (he:(rC m l o h w).2.2=0):LnI m (rC m l o h w).1 (rC m l o h w).2.1/\oP (rC m l o h w).1=oP l+1/\lft (rC m l o h w).2.1<=lft o:=by
  have hl:=aPs (h:=h) (m:=m) (w:=w) hi.ok;by_cases e:(lcR h m w o).2.2=0
  . rw [aId e] at he ⊢
    obtain ⟨q,q1,q2,q3,q4,q5,q6,q7⟩:=aMc hl.1 (aFh _) he;obtain ⟨r1,r2,r3,r4⟩:=aPC (o:=q) (s:=(lcR h m w o).2.1) hi.d hi.a;rw [q4,q5];exact ⟨⟨r1,r2,r3.trans hi.i,q1,(q2.trans hl.2.1).trans hi.oi⟩,r4 q6 q7,OM⟩
  grind [aEL]
theorem aQq {m:M} {l:Ts} {o:Ob} {h:Hy} {w:List Int} (he:(rC m l o h w).2.2=0):cpT m l o h w=(rC m l o h w).1/\cpO m l o h w=(rC m l o h w).2.1:=
  ⟨if_neg OM,if_neg OM⟩
section
variable {m:M} {l:Ts} {o:Ob} {h:Hy} {w:List Int}
theorem wH (e:(rC m l o h w).2.2≠0):cpT m l o h w=l:=if_pos e
theorem wF (e:(rC m l o h w).2.2≠0):cpO m l o h w=o:=if_pos e
theorem aNl (e:(rC m l o h w).2.2=0):cpT m l o h w=(rC m l o h w).1:=(aQq e).1
theorem aMX (e:(rC m l o h w).2.2=0):cpO m l o h w=(rC m l o h w).2.1:=(aQq e).2
theorem aSk (e:(eP m o [w]).2≠0):(rC m l o h w).2.2=(eP m o [w]).2:=by grind [lcR,aEL]
theorem aPV {q:Ob} {s:Spl} {z:Int} (hz:lcR h m w o=(q,s,z)) (e:z≠0):(rC m l o h w).2.2=z:=by grind [aEL]
theorem aSz {q:Ob} {s:Spl} {z:Int} (hz:lcR h m w o=(q,s,z)) (e:z=0):rC m l o h w=rfA s m l aCt q:=by grind [aId]
end
abbrev LnR:=Hy×Ob×Int×Int
def zOb:Ob:=⟨0,[]⟩
def lnE (e:Int):LnR:=(zH,zOb,0,e)
def lnT (l:Ts) (o:Ob):Ts:=(dJ l o).1
def lnO (m:M) (l:Ts) (o:Ob):Ob:=(eP m o (dJ l o).2.1).1
def lnH (m:M) (l:Ts) (o:Ob):Hy:=nW (lnT l o) (lnO m l o)
def lnW (m:M) (l:Ts) (o:Ob):List Int:=zB (lnH m l o).m m
def lnC (m:M) (l:Ts) (o:Ob):Ts×Ob×Int:=rC m (lnT l o) (lnO m l o) (lnH m l o) (lnW m l o)
def lnA (m : M) : Nat -> Ts -> Ob -> Int -> LnR
  |0,_,_,_=>lnE 0
  | n + 1, l, o, r => if (dJ l o).2.2.2 ≠ 0 then lnE (dJ l o).2.2.2 else if (eP m o (dJ l o).2.1).2 ≠ 0 then lnE (eP m o (dJ l o).2.1).2
    else if (dJ l o).2.2.1=false then lnA m n (lnT l o) (lnO m l o) r
    else if xM (lnT l o) (lnO m l o)≠0 then lnE (xM (lnT l o)<|lnO m l o) else if nA (lnH m l o).m m≠0 then lnE (nA (lnH m l o).m m)
    else if yC (lnH m l o).m m=false then (lnH m l o,lnO m l o,r+1,0)
    else if (lnC m l o).2.2≠0 then lnE (lnC m l o).2.2 else lnA m n (lnC m l o).1 (lnC m l o).2.1 (r+1)
section
variable {m:M} {n:Nat} {l:Ts} {o:Ob} {r:Int}
theorem aSy (h1:(dJ l o).2.2.2≠0):lnA m (n+1) l o r=lnE (dJ l o).2.2.2:=if_pos h1
theorem aRP (h1: ¬(dJ l o).2.2.2≠0) (h2:(eP m o (dJ l o).2.1).2≠0):lnA m (n+1) l o r=lnE (eP m o (dJ l o).2.1).2:=by grind [lnA]
theorem aHM (h1: ¬(dJ l o).2.2.2≠0) (h2: ¬(eP m o (dJ l o).2.1).2≠0) (h3:(dJ l o).2.2.1=false):lnA m (n+1) l o r=lnA m n (lnT l o) (lnO m l o) r:=by grind [lnA]
theorem aSr (h1: ¬(dJ l o).2.2.2≠0) (h2: ¬(eP m o (dJ l o).2.1).2≠0) (h3: ¬(dJ l o).2.2.1=false) (h4:xM (lnT l o) (lnO m l o)≠0):lnA m (n+1) l o r=lnE (xM (lnT l o) (lnO m l o)):=by grind [lnA]
theorem aSA (h1: ¬(dJ l o).2.2.2≠0) (h2: ¬(eP m o (dJ l o).2.1).2≠0) (h3: ¬(dJ l o).2.2.1=false) (h4: ¬xM (lnT l o) (lnO m l o)≠0) (h5:nA (lnH m l o).m m≠0):lnA m (n+1) l o r=lnE (nA (lnH m l o).m m):=by grind [lnA]
theorem aQl (h1: ¬(dJ l o).2.2.2≠0) (h2: ¬(eP m o (dJ l o).2.1).2≠0) (h3: ¬(dJ l o).2.2.1=false) (h4: ¬xM (lnT l o) (lnO m l o)≠0) (h5: ¬nA (lnH m l o).m m≠0) (h6:yC (lnH m l o).m m=false):lnA m (n+1) l o r=(lnH m l o,lnO m l o,r+1,0):=by grind [lnA]
theorem aR6 (h1: ¬(dJ l o).2.2.2≠0) (h2: ¬(eP m o (dJ l o).2.1).2≠0) (h3: ¬(dJ l o).2.2.1=false) (h4: ¬xM (lnT l o) (lnO m l o)≠0) (h5: ¬nA (lnH m l o).m m≠0) (h6: ¬yC (lnH m l o).m m=false) (h7:(lnC m l o).2.2≠0):lnA m (n+1) l o r=lnE (lnC m l o).2.2:=by grind [lnA]
theorem aLt (h1: ¬(dJ l o).2.2.2≠0) (h2: ¬(eP m o (dJ l o).2.1).2≠0) (h3: ¬(dJ l o).2.2.1=false) (h4: ¬xM (lnT l o) (lnO m l o)≠0) (h5: ¬nA (lnH m l o).m m≠0) (h6: ¬yC (lnH m l o).m m=false) (h7: ¬(lnC m l o).2.2≠0):lnA m (n+1) l o r=lnA m n (lnC m l o).1 (lnC m l o).2.1 (r+1):=by grind [lnA]
def lms (l:Ts) (o:Ob):Nat:=(128 - oP l)*aCt+lft o
theorem aMz {l':Ts} {o':Ob} (h:oP l'=oP l+1) (h2:oP l'<=128) (h3:lft o'<=lft o):lms l' o' < lms l o:=by
  unfold lms
  grind [aCt]
theorem LnI.mid (h:LnI m l o):LnI m (lnT l o) (lnO m l o):=by
  obtain ⟨a,b,c,_⟩:=aD5 (o:=o) h.d h.a;have k:=oQ (m:=m) (ws:=(dJ l o).2.1) h.ok;exact ⟨a,b,c.trans h.i,k.1,k.2.trans h.oi⟩
theorem LnI.up (h:LnI m l o):oP l<=oP (lnT l o):=by
  obtain ⟨a,b,c,d,e⟩:=aD5 (o:=o) h.d h.a
  grind [lnT]
theorem aEF (h:LnI m l o) (h1: ¬(dJ l o).2.2.2≠0) (h2: ¬(eP m o (dJ l o).2.1).2≠0) (h3:(dJ l o).2.2.1=false):lms (lnT l o) (lnO m l o) < lms l o:=by
  obtain ⟨a,b,c,d,e⟩:=aD5 (o:=o) h.d h.a;by_cases q:(dJ l o).2.1=[]
  . exact aMz (e OM q h3) b<|aEy h.ok
  . obtain ⟨t1,t2⟩:=aPy q
    have:=(aIl (m:=m) h.ok OM t2).2;unfold lms lnT;rw [t1];show _+lft (eP m o (dJ l o).2.1).1 < _;omega
theorem aOj (h:LnI m l o) (h3: ¬(dJ l o).2.2.1=false):lnT l o=l:=by
  have:=uT (l:=l) (o:=o) (by cases q:(dJ l o).2.2.1 with
    |true=>rfl
    |false=>exact absurd q h3)
  exact this.2.2.2.2.2.2.2
theorem aBM (h:LnI m l o) (h3: ¬(dJ l o).2.2.1=false) (h7: ¬(lnC m l o).2.2≠0):LnI m (lnC m l o).1 (lnC m l o).2.1/\oP (lnC m l o).1=oP l+1/\lms (lnC m l o).1 (lnC m l o).2.1 < lms l o:=by
  obtain ⟨a,b,c⟩:=aPh h.mid<|Decidable.of_not_not h7
  have e:=aOj h h3;have b':oP (lnC m l o).1=oP l+1:=by grind [lnC]
  exact ⟨a,b',aMz b' a.a (Nat.le_trans c<|aEy h.ok)⟩
end
def aB3:Nat:=129*aCt
theorem aFW (l:Ts) (o:Ob):lms l o < aB3:=by
  unfold lms aB3;have h1:=aFh o
  grind [aCt]
def dX (m:M):LnR:=if bK m≠0 then lnE (bK m) else lnA m aB3 (pN m.i) ⟨m.i,[]⟩ 0
theorem aRY {m:M} (h:bK m≠0):dX m=lnE (bK m):=if_pos h
theorem aBF {m:M} {r:LnR} (h: ¬bK m≠0) (e:lnA m aB3 (pN m.i) ⟨m.i,[]⟩ 0=r):dX m=r:=by grind [dX]
theorem aLB {m:M} (h: ¬bK m≠0):pN m.i=⟨m.i,⟨[rY []]⟩⟩:=by simp_all [cY,pN]
theorem LnI.start {m:M} (h: ¬bK m≠0):LnI m (pN m.i) ⟨m.i,[]⟩:=by
  have mo:=cY<|Decidable.of_not_not h
  rw [aLB h];exact ⟨by show iB ⟨[rY []]⟩=0; decide+kernel,by show (fT [rY []]).length<=128; decide,J,OK.of ⟨mo.1,mo.2.1⟩ SI (λt ht=>absurd ht SI) List.Pairwise.nil,J⟩
theorem LnI.bd {m:M} {l:Ts} {o:Ob} (h:LnI m l o):Bd l.t:=aSa h.d
theorem LnI.ho {m:M} {l:Ts} {o:Ob} (h:LnI m l o):jE o=0:=sX h.ok
theorem LnI.hx {m:M} {l:Ts} {o:Ob} (h:LnI m l o) (hi:m.i<=39):(dC l).length<=5000:=by
  rw [aAe,mP h.d,h.i];have h1:(fT l.t.nd).length<=128:=h.a;have h2:(fT l.t.nd).length*m.i.toNat<=128*39:=Nat.mul_le_mul h1 OM;omega
end
section
open Go Go.Proofs
theorem aEx (m:M) (l:Ts) (o:Ob) (h:Hy) (w:List Int) (hb:Bd l.t) (ho:OK o):bJ Tryz.prog 27 [(V.agg [(iV l.i),(V.sl (List.map cN l.t.nd)),(iV o.i),(V.sl (List.map cT o.tr))]),(V.agg [(iV m.i),(iV m.s),(aC m.nx),(aC m.ot)]),(V.agg [(iV h.m.i),(iV h.m.s),(aC h.m.nx),(aC h.m.ot),(aC h.acc)]),(aD w)] (V.tup [(V.agg [(iV ((cpT m l o h w).i)),(V.sl (List.map cN ((cpT m l o h w).t.nd))),(iV ((cpO m l o h w).i)),(V.sl (List.map cT ((cpO m l o h w).tr)))]),(iV ((rC m l o h w).2.2))]):=by
 refine' pK [] [] Tryz.func27 ?e λhB=>?_
 case e=>conv=>lhs; cbv
 dsimp only;refine aU<|cJ (i:=4) (n:=0) (m:=4) (cs:=[(iV l.i),(V.sl<|List.map cN l.t.nd),(iV o.i),(V.sl<|List.map cT o.tr)]) J (cM J) J J J<|cJ (i:=5) (n:=0) (m:=4) (cs:=[(iV m.i),(iV m.s),(aC m.nx),(aC m.ot)]) J (cM J) J J J<|cJ (i:=6) (n:=0) (m:=5) (cs:=[(iV h.m.i),(iV h.m.s),(aC h.m.nx),(aC h.m.ot),(aC h.acc)]) J (cM J) J J J<|bX (i:=8) (n:=0) (m:=4) J (cM J) J<|aE<|aU<|bB J J J J<|aZ J J J J<|aP<|aY J J<|aL (sL m o ([w]) ho) J<|aP<|bR J J ?_
 refine bR J J<|bX (i:=10) (n:=0) (m:=2) J (cM J) J<|dA J J J J J J J J J<|aE<|aO<|aP<|cA J J<|cE ?_
 refine aG J (λc1=>?_) λc1=>?_
 . 
  have d9:=aSk (l:=l) (h:=h) c1;have z9:(rC m l o h w).2.2≠0:=by rw [d9]; exact c1
  refine aO<|bB J J J J<|aP<|dA J J J J J J J J J<|aE<|aN ?_
  refine fF (cH (u:=(V.agg [(iV l.i),(V.sl<|List.map cN l.t.nd),(iV o.i),(V.sl<|List.map cT o.tr)])) J (@J Blk<|bk 1 66 4 [[(iV l.i),(V.sl<|List.map cN l.t.nd),(iV o.i),(V.sl<|List.map cT o.tr)]])<|lB oB J J) (bM<|aM<|iV<|(eP m o<|[w]).2) (mA<|cO (aH ?_)<|cO (dM ?_ (λ_=>by simp))<|cO (aH ?_)<|cO (dM ?_ (λ_=>by simp)) J)<|aH ?_
  . rw [wH z9]
  . rw [wH z9]
  . rw [wF z9]
  . rw [wF z9]
  . exact d9.symm
 refine aB<|aU<|bB J J J J<|bB J J J J<|aP<|aL (aAQ h ((eP m o<|[w]).1) w<|sX (oQ ho).1) J<|aP<|bR J J<|bR J J<|bR J J<|bX (i:=12) (n:=0) (m:=3) J (cM J) J<|dA J J J J J J J J J<|aP<|aE (aF λQ2 n2 x2 y2 z2=>?_)
 refine cF (λmm T H=> ∃ (q:Ob) (n:Nat),mm=n/\T 3=(aD w)/\T 4=(cR 4)/\T 5=(cR 5)/\T 6=(cR 6)/\T 8=(cR 8)/\T 10=(cR 10)/\T 11=(iV<|fdE h q w)/\T 12=(cR 12)/\T 13=(aD<|mO h q w)/\H 4=(bk 1 66 4 [[(iV l.i),(V.sl<|List.map cN l.t.nd),(iV o.i),(V.sl<|List.map cT o.tr)]])/\H 5=(jV m)/\H 6=(bk 1 28 5 [[(iV h.m.i),(iV h.m.s),(aC h.m.nx),(aC h.m.ot),(aC h.acc)]])/\H 8=(bk 1 66 4 [[(iV 0),V.nilsl,(iV 0),V.nilsl]])/\H 10=(bk 1 31 2 [[(iV q.i),(V.sl<|List.map cT q.tr)]])/\H 12=(bk 1 62 3 [[(aD<|(lM h q w).p),(iV<|(lM h q w).a),(aD<|(lM h q w).x)]])/\H 14=iN/\(OK q)/\(unA h q w w.length < n)/\(lcR h m w o=lcA h m w n q)) ?_ ?_
 . 
  refine ⟨_,(eP m o [w]).1,(w.length+1),J,J,J,J,J,J,J,(bG (aM<|iV<|fdE h ((eP m o<|[w]).1) w) JR),J,(bG (aM<|aD<|mO h ((eP m o<|[w]).1) w) JR),J,J,J,J,(bG (@J Blk<|bk 1 31 2 [[(iV<|(eP m o<|[w]).1.i),(V.sl<|List.map cT<|(eP m o<|[w]).1.tr)]]) JR),(bG (@J Blk<|bk 1 62 3 [[(aD<|(lM h ((eP m o<|[w]).1) w).p),(iV<|(lM h ((eP m o<|[w]).1) w).a),(aD<|(lM h ((eP m o<|[w]).1) w).x)]]) JR),J,?_,?_,?_⟩
  . exact (oQ ho).1
  . exact Nat.lt_succ_of_le aHS
  . exact if_neg OM
 intro mm T H ⟨q,n,hmm,t3,t4,t5,t6,t8,t10,t11,t12,t13,h4,h5,h6,h8,h10,h12,h14,hok,hn,hc⟩ Q3 p13 p23 p33;obtain ⟨n0,hn2⟩: ∃ n0,n=n0+1:=⟨n - 1,OM⟩;refine aO<|aI t11<|fP J J<|aP ?_
 refine bN 4 (λT H=>T 3=(aD w)/\T 4=(cR 4)/\T 5=(cR 5)/\T 6=(cR 6)/\T 8=(cR 8)/\T 10=(cR 10)/\T 11=(iV<|fdE h q w)/\T 12=(cR 12)/\T 13=(aD<|mO h q w)/\T 44=(V.bool<|decide (((fdE h q w)=(0:Int))/\((0:Int) < (((mO h q w).length:Nat):Int))))/\H 4=(bk 1 66 4 [[(iV l.i),(V.sl<|List.map cN l.t.nd),(iV o.i),(V.sl<|List.map cT o.tr)]])/\H 5=(jV m)/\H 6=(bk 1 28 5 [[(iV h.m.i),(iV h.m.s),(aC h.m.nx),(aC h.m.ot),(aC h.acc)]])/\H 8=(bk 1 66 4 [[(iV 0),V.nilsl,(iV 0),V.nilsl]])/\H 10=(bk 1 31 2 [[(iV q.i),(V.sl<|List.map cT q.tr)]])/\H 12=(bk 1 62 3 [[(aD<|(lM h q w).p),(iV<|(lM h q w).a),(aD<|(lM h q w).x)]])/\H 14=iN/\True) ?_ ?_
 . 
  by_cases g4:(fdE h q w)=(0:Int)
  . 
   refine aK (bU g4 J)<|aI t13<|aK (bU g4 J)<|bA J<|aK (bU g4 J)<|fZ J J<|bP (bU g4 J) J ?_
   exact ⟨t3,t4,t5,t6,t8,t10,t11,t12,t13,(eY g4),h4,h5,h6,h8,h10,h12,h14,trivial⟩
  . 
   refine bQ (bV g4 J)<|bQ (bV g4 J)<|bQ (bV g4 J)<|bO (bV g4 J) J ?_
   exact ⟨t3,t4,t5,t6,t8,t10,t11,t12,t13,(eX g4),h4,h5,h6,h8,h10,h12,h14,trivial⟩
 intro T H ⟨t3,t4,t5,t6,t8,t10,t11,t12,t13,t44,h4,h5,h6,h8,h10,h12,h14,_⟩;refine cE ?_;refine aG t44 (λc5=>?_) λc5=>?_
 . 
  have q0:=c5;have d4:fdE h q w=0:=q0.1;have d5:mO h q w≠[]:=λe=>by have q1:=q0.2; rw [e] at q1; exact absurd q1 DE
  have d3: ¬(¬fdE h q w=0\/mO h q w=[]):=by rintro (e|e); exact e d4; exact d5 e
  refine aB (aF λQ6 n6 x6 y6 z6=>(aU<|bB t5 h5 J J<|bB t10 h10 J J<|aI t13<|aY J J<|aL (sL m q ([(mO h q w)]) hok) J<|aP<|bR J J<|bR J J<|dA t10 J J h10 J J J J J<|aE<|aU<|aP ?_));refine cA J J<|cE ?_
  refine gE J (λc7=>?_) λc7=>?_
  . 
   have hz:lcR h m w o=((eP m q [mO h q w]).1,⟨[],0,[]⟩,(eP m q [mO h q w]).2):=by rw [hc,hn2]; exact aOO d3 c7
   have d9:=aPV (l:=l) hz c7;have z9:(rC m l o h w).2.2≠0:=by rw [d9]; exact c7
   refine aU<|bB t4 h4 J J<|aP<|dA t8 J J h8 J J J J J<|aE<|bE<|y6 _ _<|p23 _ _<|y2 _ _ ?_
   refine fF (cH (u:=(V.agg [(iV l.i),(V.sl<|List.map cN l.t.nd),(iV o.i),(V.sl<|List.map cT o.tr)])) t8 (@J Blk<|bk 1 66 4 [[(iV l.i),(V.sl<|List.map cN l.t.nd),(iV o.i),(V.sl<|List.map cT o.tr)]])<|lB oB J J) (bM<|aM<|iV<|(eP m q<|[(mO h q w)]).2) (mA<|cO (aH ?_)<|cO (dM ?_ (λ_=>by simp))<|cO (aH ?_)<|cO (dM ?_ (λ_=>by simp)) J)<|aH ?_
   . rw [wH z9]
   . rw [wH z9]
   . rw [wF z9]
   . rw [wF z9]
   . exact d9.symm
  refine dH<|n6 _ _ (.done (fO<|bB t6 h6 J J<|bB t10 J J J<|aI t3<|aL (aAQ h ((eP m q<|[(mO h q w)]).1) w<|sX (oQ hok).1) J<|aP<|bR J J<|bR J J<|bR J J<|dA t12 J J h12 J J J J J<|aP<|aE ?_))
  refine p13 _ _ _ ?_ ⟨(eP m q [mO h q w]).1,(n - 1),J,t3,t4,t5,t6,t8,t10,(bG (aM<|iV<|fdE h ((eP m q<|[(mO h q w)]).1) w) JR),t12,(bG (aM<|aD<|mO h ((eP m q<|[(mO h q w)]).1) w) JR),h4,h5,h6,h8,(bG (@J Blk<|bk 1 31 2 [[(iV<|(eP m q<|[(mO h q w)]).1.i),(V.sl<|List.map cT<|(eP m q<|[(mO h q w)]).1.tr)]]) JR),(bG (@J Blk<|bk 1 62 3 [[(aD<|(lM h ((eP m q<|[(mO h q w)]).1) w).p),(iV<|(lM h ((eP m q<|[(mO h q w)]).1) w).a),(aD<|(lM h ((eP m q<|[(mO h q w)]).1) w).x)]]) JR),h14,?_,?_,?_⟩
  . omega
  . exact (oQ hok).1
  . obtain ⟨i,i1,i2,i3⟩:=aK4 d4 d5; have:=aCF (h:=h) (w:=w) (λx hx=>lW (m:=m) (ws:=[mO h q w]) hx) i3 (by rw [<- i2]; exact zG OM SI) i1; omega
  . rw [hc,hn2]; exact aLo d3 OM
 have q0:=c5
 have hz:lcR h m w o=(q,lM h q w,fdE h q w):=by
   rw [hc,hn2]; refine aFJ ?_;by_cases e:fdE h q w=0
   . refine .inr (List.length_eq_zero_iff.1 ?_)
     by_cases g:(0:Int) < (((mO h q w).length:Nat):Int)
     . exact absurd ⟨e,g⟩ q0
     . omega
   . exact .inl e
 refine aS<|p33 _ _ _<|x2 _ _ (.done (aO<|aI t11<|cA J J<|cE ?_))
 refine aG J (λc8=>?_) λc8=>?_
 . 
  have d9:=aPV (l:=l) hz c8;have z9:(rC m l o h w).2.2≠0:=by rw [d9]; exact c8
  refine aO<|bB t4 h4 J J<|aI t11<|dA t8 J J h8 J J J J J<|aE<|aN ?_
  refine fF (cH (u:=(V.agg [(iV l.i),(V.sl<|List.map cN l.t.nd),(iV o.i),(V.sl<|List.map cT o.tr)])) t8 (@J Blk<|bk 1 66 4 [[(iV l.i),(V.sl<|List.map cN l.t.nd),(iV o.i),(V.sl<|List.map cT o.tr)]])<|lB oB J J) (bM<|aM<|iV<|fdE h q w) (mA<|cO (aH ?_)<|cO (dM ?_ (λ_=>by simp))<|cO (aH ?_)<|cO (dM ?_ (λ_=>by simp)) J)<|aH ?_
  . rw [wH z9]
  . rw [wH z9]
  . rw [wF z9]
  . rw [wF z9]
  . exact d9.symm
 refine aB (iZ λQ9 n9 x9 y9 z9=>?_);refine cF (λmm T H=> ∃ (q2:Ob) (k:Nat) (v14:Nat),mm=k/\T 4=(cR 4)/\T 5=(cR 5)/\T 8=(cR 8)/\T 10=(cR 10)/\T 12=(cR 12)/\H 4=(bk 1 66 4 [[(iV l.i),(V.sl<|List.map cN l.t.nd),(iV o.i),(V.sl<|List.map cT o.tr)]])/\H 5=(jV m)/\H 6=(bk 1 28 5 [[(iV h.m.i),(iV h.m.s),(aC h.m.nx),(aC h.m.ot),(aC h.acc)]])/\H 8=(bk 1 66 4 [[(iV 0),V.nilsl,(iV 0),V.nilsl]])/\H 10=(bk 1 31 2 [[(iV q2.i),(V.sl<|List.map cT q2.tr)]])/\H 12=(bk 1 62 3 [[(aD<|(lM h q w).p),(iV<|(lM h q w).a),(aD<|(lM h q w).x)]])/\(H 14).ver=v14/\(OK q2)/\(lft q2 < k)/\(rC m l o h w=rfA (lM h q w) m l k q2)) ?_ ?_
 . 
  refine ⟨_,q,aCt,0,J,t4,t5,t8,t10,t12,h4,h5,h6,h8,h10,h12,(cM h14),?_,?_,?_⟩
  . exact hok
  . exact aFh _
  . exact aSz hz OM
 intro mm T H ⟨q2,k,v14,hmm,t4,t5,t8,t10,t12,h4,h5,h6,h8,h10,h12,h14,hok2,hk3,hc2⟩ Q10 p110 p210 p310;obtain ⟨k0,hk2⟩: ∃ k0,k=k0+1:=⟨k - 1,OM⟩;refine iZ λQ11 n11 x11 y11 z11=>(aU<|aZ t4 h4 J J<|bB t10 h10 J J<|bB t12 h12 J J<|aL (zJ l q2 (lM h q w) hb<|sX hok2) J<|aP<|bR J J<|bR J J<|bR J J<|bX (i:=14) (n:=v14) (m:=2) J h14 J<|dA J J J J J J J J J<|aP<|aE ?_);refine aO<|aP<|cA J J<|cE ?_
 refine aG J (λc12=>?_) λc12=>?_
 . 
  have d8:rC m l o h w=((hJ l q2<|lM h q w).1,q2,(hJ l q2<|lM h q w).2.2):=by rw [hc2,hk2]; exact uI (.inl c12)
  have d9:(rC m l o h w).2.2=(hJ l q2<|lM h q w).2.2:=by rw [d8]
  have z9:(rC m l o h w).2.2≠0:=by rw [d9]; exact c12
  refine aO<|bB t4 h4 J J<|aP<|dA t8 J J h8 J J J J J<|aE<|aN<|y11 _ _<|p210 _ _<|y9 _ _ ?_
  refine fF (cH (u:=(V.agg [(iV l.i),(V.sl<|List.map cN l.t.nd),(iV o.i),(V.sl<|List.map cT o.tr)])) t8 (@J Blk<|bk 1 66 4 [[(iV l.i),(V.sl<|List.map cN l.t.nd),(iV o.i),(V.sl<|List.map cT o.tr)]])<|lB oB J J) (bM<|aM<|iV<|(hJ l q2<|lM h q w).2.2) (mA<|cO (aH ?_)<|cO (dM ?_ (λ_=>by simp))<|cO (aH ?_)<|cO (dM ?_ (λ_=>by simp)) J)<|aH ?_
  . rw [wH z9]
  . rw [wH z9]
  . rw [wF z9]
  . rw [wF z9]
  . exact d9.symm
 refine aB<|aO<|aP<|bA J<|fP J J<|cE ?_
 refine aG J (λc13=>?_) λc13=>?_
 . 
  have d8:rC m l o h w=((hJ l q2<|lM h q w).1,q2,(hJ l q2<|lM h q w).2.2):=by rw [hc2,hk2]; exact uI (.inr (List.length_eq_zero_iff.1 OM))
  have z0:(rC m l o h w).2.2=0:=by rw [d8]; show (hJ l q2<|lM h q w).2.2=0; omega
  refine aO<|bB J J J J<|bB t10 h10 J J<|bZ J J<|dA t8 J J h8 J J J J J<|aE<|aN<|y11 _ _<|p210 _ _<|y9 _ _ ?_
  refine fF (cH (u:=(V.agg [(iV<|(hJ l q2<|lM h q w).1.i),(V.sl<|List.map cN<|(hJ l q2<|lM h q w).1.t.nd),(iV q2.i),(V.sl<|List.map cT q2.tr)])) t8 (@J Blk<|bk 1 66 4 [[(iV<|(hJ l q2<|lM h q w).1.i),(V.sl<|List.map cN<|(hJ l q2<|lM h q w).1.t.nd),(iV q2.i),(V.sl<|List.map cT q2.tr)]])<|lB oB J J) (bM<|aM<|iV 0) (mA<|cO (aH ?_)<|cO (dM ?_ (λ_=>by simp))<|cO (aH ?_)<|cO (dM ?_ (λ_=>by simp)) J)<|aH ?_
  . rw [aNl z0,d8]
  . rw [aNl z0,d8]
  . rw [aMX z0,d8]
  . rw [aMX z0,d8]
  . exact z0.symm
 have e3: ¬((hJ l q2<|lM h q w).2.2≠0\/(hJ l q2<|lM h q w).2.1=[]):=by
   rintro (e|e)
   . exact e OM
   . have q1:=c13; rw [e] at q1; exact q1 J
 refine aB<|aU<|bB t5 h5 J J<|bB t10 h10 J J<|aP<|aL (sL m q2 ((hJ l q2<|lM h q w).2.1) hok2) J<|aP<|bR J J<|bR J J<|dA t10 J J h10 J J J J J<|aE<|aU<|aP<|cA J J<|cE ?_
 refine gE J (λc14=>?_) λc14=>?_
 . 
  have d8:rC m l o h w=(l,(eP m q2 (hJ l q2<|lM h q w).2.1).1,(eP m q2 (hJ l q2<|lM h q w).2.1).2):=by rw [hc2,hk2]; exact aIu e3 c14
  have d9:(rC m l o h w).2.2=(eP m q2 (hJ l q2<|lM h q w).2.1).2:=by rw [d8]
  have z9:(rC m l o h w).2.2≠0:=by rw [d9]; exact c14
  refine aU<|bB t4 h4 J J<|aP<|dA t8 J J h8 J J J J J<|aE<|bE<|y11 _ _<|p210 _ _<|y9 _ _ ?_
  refine fF (cH (u:=(V.agg [(iV l.i),(V.sl<|List.map cN l.t.nd),(iV o.i),(V.sl<|List.map cT o.tr)])) t8 (@J Blk<|bk 1 66 4 [[(iV l.i),(V.sl<|List.map cN l.t.nd),(iV o.i),(V.sl<|List.map cT o.tr)]])<|lB oB J J) (bM<|aM<|iV<|(eP m q2<|(hJ l q2<|lM h q w).2.1).2) (mA<|cO (aH ?_)<|cO (dM ?_ (λ_=>by simp))<|cO (aH ?_)<|cO (dM ?_ (λ_=>by simp)) J)<|aH ?_
  . rw [wH z9]
  . rw [wH z9]
  . rw [wF z9]
  . rw [wF z9]
  . exact d9.symm
 refine dH<|n11 _ _ ?_
 refine p110 _ _ _ ?_ ⟨(eP m q2 (hJ l q2<|lM h q w).2.1).1,(k - 1),(v14+1),J,t4,t5,t8,t10,t12,h4,h5,h6,h8,(bG (@J Blk<|bk 1 31 2 [[(iV<|(eP m q2<|(hJ l q2<|lM h q w).2.1).1.i),(V.sl<|List.map cT<|(eP m q2<|(hJ l q2<|lM h q w).2.1).1.tr)]]) JR),h12,(cM J),?_,?_,?_⟩
 . omega
 . exact (oQ hok2).1
 . have:=aG0 (m:=m) hok2 e3 OM; omega
 . rw [hc2,hk2]; exact aHK e3 OM
theorem aHC (m:M) (hi:m.i<=39):bJ Tryz.prog 7 [(V.agg [(iV m.i),(iV m.s),(aC m.nx),(aC m.ot)])] (V.tup [(V.agg [(iV ((dX m).1.m.i)),(iV ((dX m).1.m.s)),(aC ((dX m).1.m.nx)),(aC ((dX m).1.m.ot)),(aC ((dX m).1.acc))]),(V.agg [(iV ((dX m).2.1.i)),(V.sl (List.map cT ((dX m).2.1.tr)))]),(iV ((dX m).2.2.1)),(iV ((dX m).2.2.2))]):=by
 refine' pK [] [⟨25,[0,1,2,3,4,5,6,7],[],[(105,2,2,5)]⟩] Tryz.func7 ?e λhB=>?_
 case e=>conv=>lhs; cbv
 dsimp only;refine aU<|cJ (i:=1) (n:=0) (m:=4) (cs:=[(iV m.i),(iV m.s),(aC m.nx),(aC m.ot)]) J (cM J) J J J<|bX (i:=2) (n:=0) (m:=5) J (cM J) J<|bX (i:=3) (n:=0) (m:=2) J (cM J) J<|aP<|aE<|aO<|bB J J J J<|aL (qO m) J<|aE<|aO<|aP ?_
 refine cA J J<|cE ?_
 refine aG J (λc1=>?_) λc1=>?_
 . 
  have d1:=aRY c1;refine aO<|bZ J J<|bZ J J<|aP<|dA J J J J J J J J J<|dA J J J J J J J J J<|aP<|aE<|aN ?_
  refine lK (cH (u:=(V.agg [(iV 0),(iV 0),V.nilsl,V.nilsl,V.nilsl])) J (@J Blk<|bk 1 28 5 [[(iV 0),(iV 0),V.nilsl,V.nilsl,V.nilsl]])<|lB oB J J) (cH (u:=(V.agg [(iV 0),V.nilsl])) J (@J Blk<|bk 1 31 2 [[(iV 0),V.nilsl]])<|lB oB J J) (bM<|aM<|iV 0) (bM<|aM<|iV<|bK m) (jW (aH ?_) (aH ?_) (cC ?_) (cC ?_)<|cC ?_) (eU (aH ?_)<|cC ?_) (aH ?_)<|aH ?_
  . rw [d1]; try rfl
  . rw [d1]; try rfl
  . rw [d1]; try rfl
  . rw [d1]; try rfl
  . rw [d1]; try rfl
  . rw [d1]; try rfl
  . rw [d1]; try rfl
  . rw [d1]; try rfl
  . rw [d1]; try rfl
 have a1:=c1;have mo:=cY<|Decidable.of_not_not c1
 refine aB<|aU<|aZ J J J J<|aL (aDx m.i) J<|aP<|bR J J<|bR J J<|bX (i:=7) (n:=0) (m:=2) J (cM J) J<|dA J J J J J J J J J<|aE<|aO<|aP<|cA J J ?_
 refine cE ?_;refine aG J (λc2=>?_) λc2=>?_
 . exfalso; exact c2 (if_neg OM)
 refine aB<|W_g<|bB J J J J<|aZ J J J J<|bZ J J<|bZ J J<|bX (i:=9) (n:=0) (m:=4) J (cM J) J<|dA J J J J J J J J J<|cE ?_
 refine aQ6 (id:=9) (r':=[(iV<|(pN m.i).i),(V.sl<|List.map cN<|(pN m.i).t.nd),(iV m.i),(V.sl<|List.map cT<|[])]) (@J Blk<|bk 1 66 4 [[(iV<|(pN m.i).i),(V.sl<|List.map cN<|(pN m.i).t.nd),(iV m.i),V.nilsl]]) J (.done ?_);refine aU<|aE (iZ λQ3 n3 x3 y3 z3=>?_)
 refine cF (λmm T H=> ∃ (l:Ts) (o:Ob) (r:Int) (n:Nat) (v11:Nat) (v15:Nat),mm=n/\T 1=(cR 1)/\T 2=(cR 2)/\T 3=(cR 3)/\T 9=(cR 9)/\T 10=(iV r)/\H 1=(jV m)/\H 2=(bk 1 28 5 [[(iV 0),(iV 0),V.nilsl,V.nilsl,V.nilsl]])/\H 3=(bk 1 31 2 [[(iV 0),V.nilsl]])/\H 7=(bk 1 49 2 [[(iV<|(pN m.i).i),(V.sl<|List.map cN<|(pN m.i).t.nd)]])/\H 9=(bk 1 66 4 [[(iV l.i),(V.sl<|List.map cN l.t.nd),(iV o.i),(V.sl<|List.map cT o.tr)]])/\(H 11).ver=v11/\(H 15).ver=v15/\(LnI m l o)/\(0<=r/\r<=oP l)/\(lms l o < n)/\(lnA m aB3 (pN m.i) ⟨m.i,[]⟩ 0=lnA m n l o r)) ?_ ?_
 . 
  refine ⟨_,(pN m.i),⟨m.i,[]⟩,0,aB3,0,0,J,J,J,J,J,J,J,J,J,J,(bG (@J Blk<|bk 1 66 4 [[(iV<|(pN m.i).i),(V.sl<|List.map cN<|(pN m.i).t.nd),(iV m.i),(V.sl<|List.map cT<|[])]]) JR),(cM J),(cM J),?_,?_,?_,?_⟩
  . exact LnI.start a1
  . exact ⟨OM,OM⟩
  . exact aFW _ _
  . rfl
 intro mm T H ⟨l,o,r,n,v11,v15,hmm,t1,t2,t3,t9,t10,h1,h2,h3,h7,h9,h11,h15,hI,hr,hn,hc⟩ Q4 p14 p24 p34;obtain ⟨n0,hn2⟩: ∃ n0,n=n0+1:=⟨n - 1,OM⟩;have hra:=hI.a;refine iZ λQ5 n5 x5 y5 z5=>(aU<|aZ t9 h9 J J<|aZ t9 h9 J J<|aL (sV l o hI.bd hI.ho<|hI.hx hi) J<|aP<|bR J J<|bR J J<|bR J J<|bR J J<|bX (i:=11) (n:=v11) (m:=2) J h11 J<|dA J J J J J J J J J<|aP<|aP ?_);refine aE<|aO<|aP<|cA J J<|cE ?_
 refine aG J (λc6=>?_) λc6=>?_
 . 
  have d1:dX m=lnE (dJ l o).2.2.2:=aBF a1<|hc.trans (by rw [hn2]; exact aSy c6)
  refine aO<|bZ J J<|bZ J J<|aP<|dA t2 J J h2 J J J J J<|dA t3 J J h3 J J J J J<|aP<|aE<|aN<|y5 _ _<|p24 _ _<|y3 _ _ ?_
  refine lK (cH (u:=(V.agg [(iV 0),(iV 0),V.nilsl,V.nilsl,V.nilsl])) t2 (@J Blk<|bk 1 28 5 [[(iV 0),(iV 0),V.nilsl,V.nilsl,V.nilsl]])<|lB oB J J) (cH (u:=(V.agg [(iV 0),V.nilsl])) t3 (@J Blk<|bk 1 31 2 [[(iV 0),V.nilsl]])<|lB oB J J) (bM<|aM<|iV 0) (bM<|aM<|iV<|(dJ l o).2.2.2) (jW (aH ?_) (aH ?_) (cC ?_) (cC ?_)<|cC ?_) (eU (aH ?_)<|cC ?_) (aH ?_)<|aH ?_
  . rw [d1]; try rfl
  . rw [d1]; try rfl
  . rw [d1]; try rfl
  . rw [d1]; try rfl
  . rw [d1]; try rfl
  . rw [d1]; try rfl
  . rw [d1]; try rfl
  . rw [d1]; try rfl
  . rw [d1]; try rfl
 have z1:=c6;refine aB<|aU<|bB J J J J<|cQ t9 h9<|dA J J J h9 J J J J J<|zL<|aU<|bB t1 h1 J J<|aZ t9 J J J<|aP<|aL (sL m o ((dJ l o).2.1) hI.ok) J<|aP<|bR J J<|bR J J ?_
 refine cQ t9 J<|dA J J J J J J J J J<|aE<|aO<|aP<|cA J J<|cE ?_
 refine aG J (λc7=>?_) λc7=>?_
 . 
  have d1:dX m=lnE (eP m o (dJ l o).2.1).2:=aBF a1<|hc.trans (by rw [hn2]; exact aRP z1 c7)
  refine aO<|bZ J J<|bZ J J<|aP<|dA t2 J J h2 J J J J J<|dA t3 J J h3 J J J J J<|aP<|aE<|aN<|y5 _ _<|p24 _ _<|y3 _ _ ?_
  refine lK (cH (u:=(V.agg [(iV 0),(iV 0),V.nilsl,V.nilsl,V.nilsl])) t2 (@J Blk<|bk 1 28 5 [[(iV 0),(iV 0),V.nilsl,V.nilsl,V.nilsl]])<|lB oB J J) (cH (u:=(V.agg [(iV 0),V.nilsl])) t3 (@J Blk<|bk 1 31 2 [[(iV 0),V.nilsl]])<|lB oB J J) (bM<|aM<|iV 0) (bM<|aM<|iV<|(eP m o<|(dJ l o).2.1).2) (jW (aH ?_) (aH ?_) (cC ?_) (cC ?_)<|cC ?_) (eU (aH ?_)<|cC ?_) (aH ?_)<|aH ?_
  . rw [d1]; try rfl
  . rw [d1]; try rfl
  . rw [d1]; try rfl
  . rw [d1]; try rfl
  . rw [d1]; try rfl
  . rw [d1]; try rfl
  . rw [d1]; try rfl
  . rw [d1]; try rfl
  . rw [d1]; try rfl
 have z2:=c7;refine aB<|aO<|aP<|jS J<|cE ?_
 refine dW J (λc8=>?_) (λc8=>?_)
 . 
  have z3:(dJ l o).2.2.1=false:=by have q0:=c8; simpa using q0
  refine aS<|x5 _ _ ?_
  refine p14 _ _ _ ?_ ⟨(lnT l o),(lnO m l o),r,(n - 1),(v11+1),v15,J,t1,t2,t3,t9,t10,h1,h2,h3,h7,(bG (@J Blk<|bk 1 66 4 [[(iV<|(dJ l o).1.i),(V.sl<|List.map cN<|(dJ l o).1.t.nd),(iV<|(eP m o<|(dJ l o).2.1).1.i),(V.sl<|List.map cT<|(eP m o<|(dJ l o).2.1).1.tr)]]) JR),(cM J),h15,?_,?_,?_,?_⟩
  . omega
  . first|exact (aBM hI z3 z7).1|exact hI.mid
  . first|(have:=(aBM hI z3 z7).2.1; omega)|(have:=hI.up; omega)
  . first|(have:=(aBM hI z3 z7).2.2; omega)|(have:=aEF hI z1 z2 z3; omega)
  . rw [hc,hn2]; first|exact aLt z1 z2 z3 z4 z5 z6 z7|exact aHM z1 z2 z3
 have z3: ¬(dJ l o).2.2.1=false:=by have q0:=c8; simpa using q0
 refine aB ?_;refine eZ (λT H=>T 1=(cR 1)/\T 2=(cR 2)/\T 3=(cR 3)/\T 9=(cR 9)/\T 10=(iV r)/\T 14=(iV<|xM ((dJ l o).1)<|(eP m o<|(dJ l o).2.1).1)/\T 15=(V.mp 15 (v15+1) 0 0)/\H 1=(jV m)/\H 2=(bk 1 28 5 [[(iV 0),(iV 0),V.nilsl,V.nilsl,V.nilsl]])/\H 3=(bk 1 31 2 [[(iV 0),V.nilsl]])/\H 7=(bk 1 49 2 [[(iV<|(pN m.i).i),(V.sl<|List.map cN<|(pN m.i).t.nd)]])/\H 9=(bk 1 66 4 [[(iV<|(dJ l o).1.i),(V.sl<|List.map cN<|(dJ l o).1.t.nd),(iV<|(eP m o<|(dJ l o).2.1).1.i),(V.sl<|List.map cT<|(eP m o<|(dJ l o).2.1).1.tr)]])/\H 11=(bk (v11+1) 49 2 [[(iV<|(dJ l o).1.i),(V.sl<|List.map cN<|(dJ l o).1.t.nd)]])/\H 15=(bk (v15+1) 28 5 [[(iV<|(nW ((dJ l o).1)<|(eP m o<|(dJ l o).2.1).1).m.i),(iV<|(nW ((dJ l o).1)<|(eP m o<|(dJ l o).2.1).1).m.s),(aC<|(nW ((dJ l o).1)<|(eP m o<|(dJ l o).2.1).1).m.nx),(aC<|(nW ((dJ l o).1)<|(eP m o<|(dJ l o).2.1).1).m.ot),(aC<|(nW ((dJ l o).1)<|(eP m o<|(dJ l o).2.1).1).acc)]])/\True) ?_ ?_
 . 
  refine aZ t9 J J J<|aZ t9 J J J<|aL (aC7 ((dJ l o).1) ((eP m o<|(dJ l o).2.1).1) hI.mid.bd hI.mid.ho<|hI.mid.hx hi) J<|aP<|bR J J<|bR J J<|bX (i:=15) (n:=v15) (m:=5) J h15 J<|dA J J J J J J J J J<|aP ?_
  exact gD ⟨t1,t2,t3,t9,t10,J,J,h1,h2,h3,h7,J,J,J,trivial⟩
 intro T H ⟨t1,t2,t3,t9,t10,t14,t15,h1,h2,h3,h7,h9,h11,h15,_⟩;refine aO<|aI t14<|cA J J<|cE ?_
 refine aG J (λc9=>?_) λc9=>?_
 . 
  have d1:dX m=lnE (xM (lnT l o)<|lnO m l o):=aBF a1<|hc.trans (by rw [hn2]; exact aSr z1 z2 z3 c9)
  refine aO<|bZ J J<|bZ J J<|aI t14<|dA t2 J J h2 J J J J J<|dA t3 J J h3 J J J J J<|aP<|aE<|aN<|y5 _ _<|p24 _ _<|y3 _ _ ?_
  refine lK (cH (u:=(V.agg [(iV 0),(iV 0),V.nilsl,V.nilsl,V.nilsl])) t2 (@J Blk<|bk 1 28 5 [[(iV 0),(iV 0),V.nilsl,V.nilsl,V.nilsl]])<|lB oB J J) (cH (u:=(V.agg [(iV 0),V.nilsl])) t3 (@J Blk<|bk 1 31 2 [[(iV 0),V.nilsl]])<|lB oB J J) (bM<|aM<|iV 0) (bM<|aM<|iV<|xM ((dJ l o).1)<|(eP m o<|(dJ l o).2.1).1) (jW (aH ?_) (aH ?_) (cC ?_) (cC ?_)<|cC ?_) (eU (aH ?_)<|cC ?_) (aH ?_)<|aH ?_
  . rw [d1]; try rfl
  . rw [d1]; try rfl
  . rw [d1]; try rfl
  . rw [d1]; try rfl
  . rw [d1]; try rfl
  . rw [d1]; try rfl
  . rw [d1]; try rfl
  . rw [d1]; try rfl
  . rw [d1]; try rfl
 have z4:=c9;refine aB<|aU<|aI t10<|aM7 J J OM OM<|aE<|aU<|aZ t15 h15 J J<|bB t1 h1 J J<|aL (aG4 ((nW ((dJ l o).1)<|(eP m o<|(dJ l o).2.1).1).m) m) J<|aP<|bR J J<|bR J J<|bR J J<|aP ?_
 refine aP<|aE<|aO<|aP<|cA J J<|cE ?_
 refine aG J (λc10=>?_) λc10=>?_
 . 
  have d1:dX m=lnE (nA (lnH m l o).m m):=aBF a1<|hc.trans (by rw [hn2]; exact aSA z1 z2 z3 z4 c10)
  refine aO<|bZ J J<|bZ J J<|aP<|dA t2 J J h2 J J J J J<|dA t3 J J h3 J J J J J<|aP<|aE<|aN<|y5 _ _<|p24 _ _<|y3 _ _ ?_
  refine lK (cH (u:=(V.agg [(iV 0),(iV 0),V.nilsl,V.nilsl,V.nilsl])) t2 (@J Blk<|bk 1 28 5 [[(iV 0),(iV 0),V.nilsl,V.nilsl,V.nilsl]])<|lB oB J J) (cH (u:=(V.agg [(iV 0),V.nilsl])) t3 (@J Blk<|bk 1 31 2 [[(iV 0),V.nilsl]])<|lB oB J J) (bM<|aM<|iV 0) (bM<|aM<|iV<|nA ((nW ((dJ l o).1)<|(eP m o<|(dJ l o).2.1).1).m) m) (jW (aH ?_) (aH ?_) (cC ?_) (cC ?_)<|cC ?_) (eU (aH ?_)<|cC ?_) (aH ?_)<|aH ?_
  . rw [d1]; try rfl
  . rw [d1]; try rfl
  . rw [d1]; try rfl
  . rw [d1]; try rfl
  . rw [d1]; try rfl
  . rw [d1]; try rfl
  . rw [d1]; try rfl
  . rw [d1]; try rfl
  . rw [d1]; try rfl
 have z5:=c10;refine aB<|aO<|aP<|jS J<|cE ?_
 refine dW J (λc11=>?_) (λc11=>?_)
 . 
  have z6:yC (lnH m l o).m m=false:=by have q0:=c11; show yC (nW (dJ l o).1 (eP m o (dJ l o).2.1).1).m m=false; simpa using q0
  have d1:dX m=(lnH m l o,lnO m l o,r+1,0):=aBF a1<|hc.trans (by rw [hn2]; exact aQl z1 z2 z3 z4 z5 z6)
  refine fM<|W_x<|bB t15 h15 J J<|aZ t9 h9 J J<|aP<|dA t2 J J h2 J J J J J<|dA t3 J J h3 J J J J J<|aP<|aE ?_
  refine ⟨by simp [ddB,apV,pJ,t1,t15,t2,t3,t9],?_⟩;refine aN<|y5 _ _<|p24 _ _<|y3 _ _ ?_
  refine lK (cH (u:=(V.agg [(iV<|(nW ((dJ l o).1)<|(eP m o<|(dJ l o).2.1).1).m.i),(iV<|(nW ((dJ l o).1)<|(eP m o<|(dJ l o).2.1).1).m.s),(aC<|(nW ((dJ l o).1)<|(eP m o<|(dJ l o).2.1).1).m.nx),(aC<|(nW ((dJ l o).1)<|(eP m o<|(dJ l o).2.1).1).m.ot),(aC<|(nW ((dJ l o).1)<|(eP m o<|(dJ l o).2.1).1).acc)])) t2 (@J Blk<|bk 1 28 5 [[(iV<|(nW ((dJ l o).1)<|(eP m o<|(dJ l o).2.1).1).m.i),(iV<|(nW ((dJ l o).1)<|(eP m o<|(dJ l o).2.1).1).m.s),(aC<|(nW ((dJ l o).1)<|(eP m o<|(dJ l o).2.1).1).m.nx),(aC<|(nW ((dJ l o).1)<|(eP m o<|(dJ l o).2.1).1).m.ot),(aC<|(nW ((dJ l o).1)<|(eP m o<|(dJ l o).2.1).1).acc)]])<|lB oB J J) (cH (u:=(V.agg [(iV<|(eP m o<|(dJ l o).2.1).1.i),(V.sl<|List.map cT<|(eP m o<|(dJ l o).2.1).1.tr)])) t3 (@J Blk<|bk 1 31 2 [[(iV<|(eP m o<|(dJ l o).2.1).1.i),(V.sl<|List.map cT<|(eP m o<|(dJ l o).2.1).1.tr)]])<|lB oB J J) (bM<|aM<|iV<|r+(1:Int)) (bM<|aM<|iV 0) (jW (aH ?_) (aH ?_) (dM ?_ (λ_=>by simp)) (dM ?_ (λ_=>by simp))<|dM ?_ (λ_=>by simp)) (eU (aH ?_)<|dM ?_ (λ_=>by simp)) (aH ?_)<|aH ?_
  . rw [d1]; try rfl
  . rw [d1]; try rfl
  . rw [d1]; try rfl
  . rw [d1]; try rfl
  . rw [d1]; try rfl
  . rw [d1]; try rfl
  . rw [d1]; try rfl
  . rw [d1]; try rfl
  . rw [d1]; try rfl
 have z6: ¬yC (lnH m l o).m m=false:=by have q0:=c11; show ¬yC (nW (dJ l o).1 (eP m o (dJ l o).2.1).1).m m=false; simpa using q0
 refine aB<|aU<|bB t9 h9 J J<|bB t1 h1 J J<|bB t15 h15 J J<|aP<|aL (aEx m ((dJ l o).1) ((eP m o<|(dJ l o).2.1).1) (nW ((dJ l o).1)<|(eP m o<|(dJ l o).2.1).1) (zB ((nW ((dJ l o).1)<|(eP m o<|(dJ l o).2.1).1).m) m) hI.mid.bd hI.mid.ok) J<|aP<|bR J J<|bR J J<|dA t9 J J h9 J J J J J<|aE<|aU<|aP<|cA J J ?_
 refine cE ?_;refine gE J (λc12=>?_) λc12=>?_
 . 
  have d1:dX m=lnE (lnC m l o).2.2:=aBF a1<|hc.trans (by rw [hn2]; exact aR6 z1 z2 z3 z4 z5 z6 c12)
  refine aU<|bZ J J<|bZ J J<|aP<|dA t2 J J h2 J J J J J<|dA t3 J J h3 J J J J J<|aP<|aE<|bE<|y5 _ _<|p24 _ _<|y3 _ _ ?_
  refine lK (cH (u:=(V.agg [(iV 0),(iV 0),V.nilsl,V.nilsl,V.nilsl])) t2 (@J Blk<|bk 1 28 5 [[(iV 0),(iV 0),V.nilsl,V.nilsl,V.nilsl]])<|lB oB J J) (cH (u:=(V.agg [(iV 0),V.nilsl])) t3 (@J Blk<|bk 1 31 2 [[(iV 0),V.nilsl]])<|lB oB J J) (bM<|aM<|iV 0) (bM<|aM<|iV<|(rC m ((dJ l o).1) ((eP m o<|(dJ l o).2.1).1) (nW ((dJ l o).1)<|(eP m o<|(dJ l o).2.1).1)<|zB ((nW ((dJ l o).1)<|(eP m o<|(dJ l o).2.1).1).m) m).2.2) (jW (aH ?_) (aH ?_) (cC ?_) (cC ?_)<|cC ?_) (eU (aH ?_)<|cC ?_) (aH ?_)<|aH ?_
  . rw [d1]; try rfl
  . rw [d1]; try rfl
  . rw [d1]; try rfl
  . rw [d1]; try rfl
  . rw [d1]; try rfl
  . rw [d1]; try rfl
  . rw [d1]; try rfl
  . rw [d1]; try rfl
  . rw [d1]; try rfl
 have z7: ¬(lnC m l o).2.2≠0:=c12;have e7:cpT m (dJ l o).1 (eP m o (dJ l o).2.1).1 (nW (dJ l o).1 (eP m o (dJ l o).2.1).1) (zB (nW (dJ l o).1 (eP m o (dJ l o).2.1).1).m m)=(lnC m l o).1:=aNl<|Decidable.of_not_not z7
 have e8:cpO m (dJ l o).1 (eP m o (dJ l o).2.1).1 (nW (dJ l o).1 (eP m o (dJ l o).2.1).1) (zB (nW (dJ l o).1 (eP m o (dJ l o).2.1).1).m m)=(lnC m l o).2.1:=aMX<|Decidable.of_not_not z7
 refine dH<|n5 _ _ ?_
 refine p14 _ _ _ ?_ ⟨(lnC m l o).1,(lnC m l o).2.1,(r+1),(n - 1),(v11+1),(v15+1),J,t1,t2,t3,t9,(bG (aM<|iV<|r+(1:Int)) JR),h1,h2,h3,h7,(bG (@J Blk<|bk 1 66 4 [[(iV<|(cpT m ((dJ l o).1) ((eP m o<|(dJ l o).2.1).1) (nW ((dJ l o).1)<|(eP m o<|(dJ l o).2.1).1)<|zB ((nW ((dJ l o).1)<|(eP m o<|(dJ l o).2.1).1).m) m).i),(V.sl<|List.map cN<|(cpT m ((dJ l o).1) ((eP m o<|(dJ l o).2.1).1) (nW ((dJ l o).1)<|(eP m o<|(dJ l o).2.1).1)<|zB ((nW ((dJ l o).1)<|(eP m o<|(dJ l o).2.1).1).m) m).t.nd),(iV<|(cpO m ((dJ l o).1) ((eP m o<|(dJ l o).2.1).1) (nW ((dJ l o).1)<|(eP m o<|(dJ l o).2.1).1)<|zB ((nW ((dJ l o).1)<|(eP m o<|(dJ l o).2.1).1).m) m).i),(V.sl<|List.map cT<|(cpO m ((dJ l o).1) ((eP m o<|(dJ l o).2.1).1) (nW ((dJ l o).1)<|(eP m o<|(dJ l o).2.1).1)<|zB ((nW ((dJ l o).1)<|(eP m o<|(dJ l o).2.1).1).m) m).tr)]]) (by (rw [e7,e8]; done))),(cM h11),(cM h15),?_,?_,?_,?_⟩
 . omega
 . first|exact (aBM hI z3 z7).1|exact hI.mid
 . first|(have:=(aBM hI z3 z7).2.1; omega)|(have:=hI.up; omega)
 . first|(have:=(aBM hI z3 z7).2.2; omega)|(have:=aEF hI z1 z2 z3; omega)
 . rw [hc,hn2]; first|exact aLt z1 z2 z3 z4 z5 z6 z7|exact aHM z1 z2 z3
theorem aGy (m:M):bJ Tryz.prog 11 [(V.agg [(iV m.i),(iV m.s),(aC m.nx),(aC m.ot)])] (V.bool (decide (40 < m.nx.length\/40 < m.ot.length\/20 < m.i))):=by
 refine' pK [] [] Tryz.func11 ?e λhB=>?_
 case e=>conv=>lhs; cbv
 dsimp only;refine aU<|cJ (i:=1) (n:=0) (m:=4) (cs:=[(iV m.i),(iV m.s),(aC m.nx),(aC m.ot)]) J (cM J) J J J<|aE<|aU<|aZ J J J J<|bA J<|fZ J J<|aP ?_
 refine bN 5 (λT H=>T 1=(cR 1)/\T 12=(V.bool<|decide (((40:Int) < ((m.nx.length:Nat):Int))\/((40:Int) < ((m.ot.length:Nat):Int))))/\H 1=(jV m)/\True) ?_ ?_
 . 
  by_cases g1:(40:Int) < ((m.nx.length:Nat):Int)
  . 
   refine bQ (bU g1 J)<|bQ (bU g1 J)<|bQ (bU g1 J)<|bQ (bU g1 J)<|bP (bU g1 J) J ?_
   exact ⟨J,(fB g1),J,trivial⟩
  . 
   refine aK (bV g1 J)<|cQ J J<|aK (bV g1 J)<|bB J J J J<|aK (bV g1 J)<|bA J<|aK (bV g1 J)<|fZ J J<|bO (bV g1 J) J ?_
   exact ⟨J,(fC g1),J,trivial⟩
 intro T H ⟨t1,t12,h1,_⟩;refine aI t12 ?_;refine bN 4 (λT H=>T 17=(V.bool<|decide ((((40:Int) < ((m.nx.length:Nat):Int))\/((40:Int) < ((m.ot.length:Nat):Int)))\/((20:Int) < m.i)))/\H 1=(jV m)/\True) ?_ ?_
 . 
  by_cases g2:((40:Int) < ((m.nx.length:Nat):Int))\/((40:Int) < ((m.ot.length:Nat):Int))
  . 
   refine bQ (bU g2 J)<|bQ (bU g2 J)<|bQ (bU g2 J)<|bP (bU g2 J) J ?_
   exact ⟨(fB g2),h1,trivial⟩
  . 
   refine aK (bV g2 J)<|cQ t1 h1<|aK (bV g2 J)<|bB J h1 J J<|aK (bV g2 J)<|fZ J J<|bO (bV g2 J) J ?_
   exact ⟨(fC g2),h1,trivial⟩
 intro T H ⟨t17,h1,_⟩;refine aI t17<|R_q ?_
 refine aW (aM<|V.bool<|decide ((((40:Int) < ((m.nx.length:Nat):Int))\/((40:Int) < ((m.ot.length:Nat):Int)))\/((20:Int) < m.i)))<|cK ?_
 . exact decide_eq_decide.2 OM
theorem aLb (m:M) (s:Nat) (h1:s < m.nx.length) (h2:s < m.ot.length) (hi:1<=m.i/\m.i<=64):bJ Tryz.prog 37 [(V.agg [(iV m.i),(iV m.s),(aC m.nx),(aC m.ot)]),(iV ((s:Nat):Int))] (iV (wP m s)):=by
 refine' pK [] [] Tryz.func37 ?e λhB=>?_
 case e=>conv=>lhs; cbv
 dsimp only;refine aU<|cJ (i:=2) (n:=0) (m:=4) (cs:=[(iV m.i),(iV m.s),(aC m.nx),(aC m.ot)]) J (cM J) J J J<|aE<|aO<|aZ J J J J<|aP<|dL (i:=s) (aM<|aC m.nx) (cS s)<|aJ J J<|bA J<|aZ J J J J<|cA J J<|aP ?_
 refine bN 10 (λT H=>T 1=(iV ((s:Nat):Int))/\T 2=(cR 2)/\T 25=(V.bool<|decide (((((aA m.nx s).length:Nat):Int)≠m.i)\/((((aA m.ot s).length:Nat):Int)≠m.i)))/\H 2=(jV m)/\True) ?_ ?_
 . 
  by_cases g1:(((aA m.nx s).length:Nat):Int)≠m.i
  . 
   refine bQ (bU g1 J)<|bQ (bU g1 J)<|bQ (bU g1 J)<|bQ (bU g1 J)<|bQ (bU g1 J)<|bQ (bU g1 J)<|bQ (bU g1 J)<|bQ (bU g1 J)<|bQ (bU g1 J)<|bP (bU g1 J) J ?_
   exact ⟨J,J,(fB g1),J,trivial⟩
  . 
   refine aK (bV g1 J)<|cQ J J<|aK (bV g1 J)<|bB J J J J<|aK (bV g1 J)<|aP<|aK (bV g1 J)<|dL (i:=s) (aM<|aC m.ot) (cS s)<|aK (bV g1 J)<|aJ J J<|aK (bV g1 J)<|bA J<|aK (bV g1 J)<|cQ J J<|aK (bV g1 J)<|bB J J J J ?_
   refine aK (bV g1 J)<|cA J J<|bO (bV g1 J) J ?_
   exact ⟨J,J,(fC g1),J,trivial⟩
 intro T H ⟨t1,t2,t25,h2,_⟩;refine cE ?_;refine aG t25 (λc2=>?_) λc2=>?_
 . 
  refine aO<|aE<|aN ?_
  refine aW (aM<|iV 1)<|aH ?_
  . rw [wP,if_pos OM]
 refine aB<|aO<|aE (aF λQ3 n3 x3 y3 z3=>?_)
 refine cF (λmm T H=> ∃ (k:Nat),mm=m.i.toNat - k/\T 1=(iV ((s:Nat):Int))/\T 2=(cR 2)/\T 5=(iV ((k:Nat):Int))/\H 2=(jV m)/\(k<=m.i.toNat)/\(((aA m.nx s).length:Int)=m.i/\((aA m.ot s).length:Int)=m.i)/\(wP m s=fe (aB7 m s) k (m.i.toNat - k))) ?_ ?_
 . 
  refine ⟨_,0,J,t1,t2,(bG (aM<|iV 0) J),h2,?_,?_,?_⟩
  . omega
  . omega
  . rw [wP,if_neg OM]; rfl
 intro mm T H ⟨k,hmm,t1,t2,t5,h2,hk,hl,hc⟩ Q4 p14 p24 p34;refine aO<|aI t5<|aZ t2 h2 J J<|bY J J<|cE ?_
 refine aG J (λc5=>?_) λc5=>?_
 . 
  refine aB (aF λQ6 n6 x6 y6 z6=>?_);refine eZ (λT H=>T 1=(iV ((s:Nat):Int))/\T 2=(cR 2)/\T 5=(iV ((k:Nat):Int))/\T 76=(V.bool<|decide (((((aA (aA m.nx s) k) < (0:Int))\/(((m.nx.length:Nat):Int)<=(aA (aA m.nx s) k)))\/((aA (aA m.ot s) k) < (0:Int)))\/((1048576:Int) < (aA (aA m.ot s) k))))/\H 2=(jV m)/\True) ?_ ?_
  . 
   refine aZ t2 h2 J J<|aI t1<|dL (i:=s) (aM<|aC m.nx) (cS s)<|aJ J J<|aI t5<|dL (i:=k) (aM<|aD<|aA m.nx s) (cS k)<|aJ J J<|bY J J<|aP ?_
   refine bN 13 (λT H=>T 1=(iV ((s:Nat):Int))/\T 2=(cR 2)/\T 5=(iV ((k:Nat):Int))/\T 54=(V.bool<|decide (((aA (aA m.nx s) k) < (0:Int))\/(((m.nx.length:Nat):Int)<=(aA (aA m.nx s) k))))/\H 2=(jV m)/\True) ?_ ?_
   . 
    by_cases g7:(aA (aA m.nx s) k) < (0:Int)
    . 
     refine bQ (bU g7 J)<|bQ (bU g7 J)<|bQ (bU g7 J)<|bQ (bU g7 J)<|bQ (bU g7 J)<|bQ (bU g7 J)<|bQ (bU g7 J)<|bQ (bU g7 J)<|bQ (bU g7 J)<|bQ (bU g7 J)<|bQ (bU g7 J)<|bQ (bU g7 J)<|bP (bU g7 J) J ?_
     exact ⟨t1,t2,t5,(fB g7),h2,trivial⟩
    . 
     refine aK (bV g7 J)<|cQ t2 h2<|aK (bV g7 J)<|bB J h2 J J<|aK (bV g7 J)<|aI t1<|aK (bV g7 J)<|dL (i:=s) (aM<|aC m.nx) (cS s)<|aK (bV g7 J)<|aJ J J<|aK (bV g7 J)<|aI t5<|aK (bV g7 J)<|dL (i:=k) (aM<|aD<|aA m.nx s) (cS k)<|aK (bV g7 J)<|aJ J J ?_
     refine aK (bV g7 J)<|cQ t2 h2<|aK (bV g7 J)<|bB J h2 J J<|aK (bV g7 J)<|bA J<|aK (bV g7 J)<|jB J J<|bO (bV g7 J) J ?_
     exact ⟨t1,t2,t5,(fC g7),h2,trivial⟩
   intro T H ⟨t1,t2,t5,t54,h2,_⟩;refine aI t54 ?_;refine bN 10 (λT H=>T 1=(iV ((s:Nat):Int))/\T 2=(cR 2)/\T 5=(iV ((k:Nat):Int))/\T 65=(V.bool<|decide ((((aA (aA m.nx s) k) < (0:Int))\/(((m.nx.length:Nat):Int)<=(aA (aA m.nx s) k)))\/((aA (aA m.ot s) k) < (0:Int))))/\H 2=(jV m)/\True) ?_ ?_
   . 
    by_cases g8:((aA (aA m.nx s) k) < (0:Int))\/(((m.nx.length:Nat):Int)<=(aA (aA m.nx s) k))
    . 
     refine bQ (bU g8 J)<|bQ (bU g8 J)<|bQ (bU g8 J)<|bQ (bU g8 J)<|bQ (bU g8 J)<|bQ (bU g8 J)<|bQ (bU g8 J)<|bQ (bU g8 J)<|bQ (bU g8 J)<|bP (bU g8 J) J ?_
     exact ⟨t1,t2,t5,(fB g8),h2,trivial⟩
    . 
     refine aK (bV g8 J)<|cQ t2 h2<|aK (bV g8 J)<|bB J h2 J J<|aK (bV g8 J)<|aI t1<|aK (bV g8 J)<|dL (i:=s) (aM<|aC m.ot) (cS s)<|aK (bV g8 J)<|aJ J J<|aK (bV g8 J)<|aI t5<|aK (bV g8 J)<|dL (i:=k) (aM<|aD<|aA m.ot s) (cS k)<|aK (bV g8 J)<|aJ J J ?_
     refine aK (bV g8 J)<|bY J J<|bO (bV g8 J) J ?_
     exact ⟨t1,t2,t5,(fC g8),h2,trivial⟩
   intro T H ⟨t1,t2,t5,t65,h2,_⟩;refine aI t65 ?_;refine bN 10 (λT H=>T 1=(iV ((s:Nat):Int))/\T 2=(cR 2)/\T 5=(iV ((k:Nat):Int))/\T 76=(V.bool<|decide (((((aA (aA m.nx s) k) < (0:Int))\/(((m.nx.length:Nat):Int)<=(aA (aA m.nx s) k)))\/((aA (aA m.ot s) k) < (0:Int)))\/((1048576:Int) < (aA (aA m.ot s) k))))/\H 2=(jV m)/\True) ?_ ?_
   . 
    by_cases g9:(((aA (aA m.nx s) k) < (0:Int))\/(((m.nx.length:Nat):Int)<=(aA (aA m.nx s) k)))\/((aA (aA m.ot s) k) < (0:Int))
    . 
     refine bQ (bU g9 J)<|bQ (bU g9 J)<|bQ (bU g9 J)<|bQ (bU g9 J)<|bQ (bU g9 J)<|bQ (bU g9 J)<|bQ (bU g9 J)<|bQ (bU g9 J)<|bQ (bU g9 J)<|bP (bU g9 J) J ?_
     exact ⟨t1,t2,t5,(fB g9),h2,trivial⟩
    . 
     refine aK (bV g9 J)<|cQ t2 h2<|aK (bV g9 J)<|bB J h2 J J<|aK (bV g9 J)<|aI t1<|aK (bV g9 J)<|dL (i:=s) (aM<|aC m.ot) (cS s)<|aK (bV g9 J)<|aJ J J<|aK (bV g9 J)<|aI t5<|aK (bV g9 J)<|dL (i:=k) (aM<|aD<|aA m.ot s) (cS k)<|aK (bV g9 J)<|aJ J J ?_
     refine aK (bV g9 J)<|fZ J J<|bO (bV g9 J) J ?_
     exact ⟨t1,t2,t5,(fC g9),h2,trivial⟩
   intro T H ⟨t1,t2,t5,t76,h2,_⟩;exact gD ⟨t1,t2,t5,t76,h2,trivial⟩
  intro T H ⟨t1,t2,t5,t76,h2,_⟩;refine gE t76 (λc10=>?_) λc10=>?_
  . 
   refine aU<|aE<|bE<|y6 _ _<|p24 _ _<|y3 _ _ ?_
   refine aW (aM<|iV 2)<|aH ?_
   . rw [hc,gH (by unfold aB7; split <;> omega) OM]; unfold aB7; split <;> omega
  refine dH<|n6 _ _ (.done (fO<|aI t5<|cD J<|aE ?_))
  refine p14 _ _ _ ?_ ⟨(k+1),J,t1,t2,(bG (cS<|k+1) JR),h2,?_,?_,?_⟩
  . omega
  . omega
  . omega
  . rw [hc,gW (by unfold aB7; split <;> omega) OM]
 refine aS<|p34 _ _ _<|x3 _ _ (.done (aU<|aE<|bE ?_))
 refine aW (aM<|iV 0)<|aH ?_
 . rw [hc,jK OM]
theorem nB (m:M):bJ Tryz.prog 12 [(V.agg [(iV m.i),(iV m.s),(aC m.nx),(aC m.ot)])] (iV (bK m)):=by
 refine' pK [] [] Tryz.func12 ?e λhB=>?_
 case e=>conv=>lhs; cbv
 dsimp only;refine aU<|cJ (i:=1) (n:=0) (m:=4) (cs:=[(iV m.i),(iV m.s),(aC m.nx),(aC m.ot)]) J (cM J) J J J<|aE<|aO<|aZ J J J J<|bY J J<|aP ?_
 refine bN 4 (λT H=>T 1=(cR 1)/\T 12=(V.bool<|decide ((m.i < (1:Int))\/((64:Int) < m.i)))/\H 1=(jV m)/\True) ?_ ?_
 . 
  by_cases g1:m.i < (1:Int)
  . 
   refine bQ (bU g1 J)<|bQ (bU g1 J)<|bQ (bU g1 J)<|bP (bU g1 J) J ?_
   exact ⟨J,(fB g1),J,trivial⟩
  . 
   refine aK (bV g1 J)<|cQ J J<|aK (bV g1 J)<|bB J J J J<|aK (bV g1 J)<|fZ J J<|bO (bV g1 J) J ?_
   exact ⟨J,(fC g1),J,trivial⟩
 intro T H ⟨t1,t12,h1,_⟩;refine cE ?_;refine aG t12 (λc2=>?_) λc2=>?_
 . 
  refine aO<|aE<|aN ?_
  refine aW (aM<|iV 2)<|aH ?_
  . rw [bK,if_pos OM]
 refine aB<|aO<|aZ t1 h1 J J<|bA J<|fP J J<|cE ?_
 refine aG J (λc3=>?_) λc3=>?_
 . 
  refine aO<|aE<|aN ?_
  refine aW (aM<|iV 19)<|aH ?_
  . rw [bK,if_neg OM,if_pos OM]
 refine aB<|aO<|aZ t1 h1 J J<|bA J<|fZ J J<|cE ?_
 refine aG J (λc4=>?_) λc4=>?_
 . 
  refine aO<|aE<|aN ?_
  refine aW (aM<|iV 11)<|aH ?_
  . rw [bK,if_neg OM,if_neg OM,if_pos OM]
 refine aB<|aO<|aZ t1 h1 J J<|bY J J<|aP ?_
 refine bN 7 (λT H=>T 1=(cR 1)/\T 31=(V.bool<|decide ((m.s < (0:Int))\/(((m.nx.length:Nat):Int)<=m.s)))/\H 1=(jV m)/\True) ?_ ?_
 . 
  by_cases g5:m.s < (0:Int)
  . 
   refine bQ (bU g5 J)<|bQ (bU g5 J)<|bQ (bU g5 J)<|bQ (bU g5 J)<|bQ (bU g5 J)<|bQ (bU g5 J)<|bP (bU g5 J) J ?_
   exact ⟨t1,(fB g5),h1,trivial⟩
  . 
   refine aK (bV g5 J)<|cQ t1 h1<|aK (bV g5 J)<|bB J h1 J J<|aK (bV g5 J)<|cQ t1 h1<|aK (bV g5 J)<|bB J h1 J J<|aK (bV g5 J)<|bA J<|aK (bV g5 J)<|jB J J<|bO (bV g5 J) J ?_
   exact ⟨t1,(fC g5),h1,trivial⟩
 intro T H ⟨t1,t31,h1,_⟩;refine cE ?_;refine aG t31 (λc6=>?_) λc6=>?_
 . 
  refine aO<|aE<|aN ?_
  refine aW (aM<|iV 2)<|aH ?_
  . rw [bK,if_neg OM,if_neg OM,if_neg OM,if_pos OM]
 refine aB<|aO<|aZ t1 h1 J J<|bA J<|aZ t1 h1 J J<|bA J<|cA J J<|cE ?_
 refine aG J (λc7=>?_) λc7=>?_
 . 
  refine aO<|aE<|aN ?_
  refine aW (aM<|iV 1)<|aH ?_
  . rw [bK,if_neg OM,if_neg OM,if_neg OM,if_neg OM,if_pos OM]
 refine aB<|aO<|aE (aF λQ8 n8 x8 y8 z8=>?_)
 refine cF (λmm T H=> ∃ (k:Nat),mm=m.nx.length - k/\T 1=(cR 1)/\T 3=(iV ((k:Nat):Int))/\H 1=(jV m)/\(k<=m.nx.length)/\(1<=m.i/\m.i<=64/\0 < m.nx.length/\m.nx.length<=128/\m.ot.length=m.nx.length)/\(bK m=fe (wP m) k (m.nx.length - k))) ?_ ?_
 . 
  refine ⟨_,0,J,t1,(bG (aM<|iV 0) J),h1,?_,?_,?_⟩
  . omega
  . omega
  . rw [bK,if_neg OM,if_neg OM,if_neg OM,if_neg OM,if_neg OM]; rfl
 intro mm T H ⟨k,hmm,t1,t3,h1,hk,hv,hc⟩ Q9 p19 p29 p39;refine aO<|aI t3<|aZ t1 h1 J J<|bA J<|bY J J<|cE ?_
 refine aG J (λc10=>?_) λc10=>?_
 . 
  refine aB (aF λQ11 n11 x11 y11 z11=>(aU<|bB t1 h1 J J<|aI t3<|aL (aLb m k OM OM OM) J<|aE<|aU<|aP<|cA J J<|cE ?_));refine gE J (λc12=>?_) λc12=>?_
  . 
   refine aU<|aP<|aE<|bE<|y11 _ _<|p29 _ _<|y8 _ _ ?_
   refine aW (aM<|iV<|wP m k)<|aH ?_
   . rw [hc,gH OM OM]
  refine dH<|n11 _ _ (.done (fO<|aI t3<|cD J<|aE ?_))
  refine p19 _ _ _ ?_ ⟨(k+1),J,t1,(bG (cS<|k+1) JR),h1,?_,?_,?_⟩
  . omega
  . omega
  . omega
  . rw [hc,gW OM OM]
 refine aS<|p39 _ _ _<|x8 _ _ (.done (aU<|aE<|bE ?_))
 refine aW (aM<|iV 0)<|aH ?_
 . rw [hc,jK OM]
theorem aKe (n:Int):bJ Tryz.prog 86 [(iV n)] (V.bool (decide (1<=n/\n<=1024))):=by
 refine' pK [] [] Tryz.func86 ?e λhB=>?_
 case e=>conv=>lhs; cbv
 dsimp only;refine aU<|aE<|aU<|aP<|jB J J<|aP ?_
 refine bN 3 (λT H=>T 8=(V.bool<|decide (((1:Int)<=n)/\(n<=(1024:Int))))/\True) ?_ ?_
 . 
  by_cases g1:(1:Int)<=n
  . 
   refine aK (bU g1 J)<|aP<|aK (bU g1 J)<|aC4 J J<|bP (bU g1 J) J ?_
   exact ⟨(eY g1),trivial⟩
  . 
   refine bQ (bV g1 J)<|bQ (bV g1 J)<|bO (bV g1 J) J ?_
   exact ⟨(eX g1),trivial⟩
 intro T H ⟨t8,_⟩;refine aI t8<|R_q ?_
 refine aW (aM<|V.bool<|decide (((1:Int)<=n)/\(n<=(1024:Int))))<|cK ?_
 . first|rfl|omega|simp_all
theorem tS (w:List Int) (n:Int):bJ Tryz.prog 38 [(aD w),(iV n)] (iV (cP w n)):=by
 refine' pK [] [] Tryz.func38 ?e λhB=>?_
 case e=>conv=>lhs; cbv
 dsimp only;refine aU<|aE<|aO<|aP<|aL (aKe n) J<|uQ J<|cE ?_
 refine aG J (λc1=>?_) λc1=>?_
 . 
  refine aO<|aE<|aN ?_
  refine aW (aM<|iV 2)<|aH ?_
  . rw [cP,if_pos OM]
 refine aB<|aO<|aP<|bA J<|fZ J J<|cE ?_
 refine aG J (λc2=>?_) λc2=>?_
 . 
  refine aO<|aE<|aN ?_
  refine aW (aM<|iV 3)<|aH ?_
  . rw [cP,if_neg OM,if_pos OM]
 refine aB<|aO<|aE (aF λQ3 n3 x3 y3 z3=>?_)
 refine cF (λmm T H=> ∃ (k:Nat),mm=w.length - k/\T 0=(aD w)/\T 1=(iV n)/\T 5=(iV ((k:Nat):Int))/\(k<=w.length)/\(w.length<=1024)/\(1<=n/\n<=1024)/\(cP w n=fe (wE w n) k (w.length - k))) ?_ ?_
 . 
  refine ⟨_,0,J,J,J,(bG (aM<|iV 0) J),?_,?_,?_,?_⟩
  . omega
  . omega
  . omega
  . rw [cP,if_neg OM,if_neg OM]; rfl
 intro mm T H ⟨k,hmm,t0,t1,t5,hk,hl,hn,hc⟩ Q4 p14 p24 p34;refine aO<|aI t5<|aI t0<|bA J<|bY J J<|cE ?_
 refine aG J (λc5=>?_) λc5=>?_
 . 
  refine aB (aF λQ6 n6 x6 y6 z6=>(aU<|aI t0<|aI t5<|dL (i:=k) (aM<|aD w) (cS k)<|aJ J J<|bY J J<|aP ?_));refine bN 7 (λT H=>T 0=(aD w)/\T 1=(iV n)/\T 5=(iV ((k:Nat):Int))/\T 30=(V.bool<|decide (((aA w k) < (0:Int))\/(n<=(aA w k))))/\True) ?_ ?_
  . 
   by_cases g7:(aA w k) < (0:Int)
   . 
    refine bQ (bU g7 J)<|bQ (bU g7 J)<|bQ (bU g7 J)<|bQ (bU g7 J)<|bQ (bU g7 J)<|bQ (bU g7 J)<|bP (bU g7 J) J ?_
    exact ⟨t0,t1,t5,(fB g7),trivial⟩
   . 
    refine aK (bV g7 J)<|aI t0<|aK (bV g7 J)<|aI t5<|aK (bV g7 J)<|dL (i:=k) (aM<|aD w) (cS k)<|aK (bV g7 J)<|aJ J J<|aK (bV g7 J)<|aI t1<|aK (bV g7 J)<|jB J J<|bO (bV g7 J) J ?_
    exact ⟨t0,t1,t5,(fC g7),trivial⟩
  intro T H ⟨t0,t1,t5,t30,_⟩;refine cE ?_;refine gE t30 (λc8=>?_) λc8=>?_
  . 
   refine aU<|aE<|bE<|y6 _ _<|p24 _ _<|y3 _ _ ?_
   refine aW (aM<|iV 1)<|aH ?_
   . rw [hc,gH (by unfold wE; split <;> omega) OM]; unfold wE; split <;> omega
  refine dH<|n6 _ _ (.done (fO<|aI t5<|cD J<|aE ?_))
  refine p14 _ _ _ ?_ ⟨(k+1),J,t0,t1,(bG (cS<|k+1) JR),?_,?_,?_,?_⟩
  . omega
  . omega
  . omega
  . omega
  . rw [hc,gW (by unfold wE; split <;> omega) OM]
 refine aS<|p34 _ _ _<|x3 _ _ (.done (aU<|aE<|bE ?_))
 refine aW (aM<|iV 0)<|aH ?_
 . rw [hc,jK OM]
theorem aDp (m:M) (s:Int) (w:List Int) (hm:bK m=0) (hs:0<=s/\s < m.nx.length) (hl:w.length<=1024) (hw: ∀ k,k < w.length->0<=aA w k/\aA w k < m.i):bJ Tryz.prog 39 [(V.agg [(iV m.i),(iV m.s),(aC m.nx),(aC m.ot)]),(iV s),(aD w)] (V.tup [(aD (aV m s w)),(iV (eJ m s w))]):=by
 refine' pK [8] [] Tryz.func39 ?e λhB=>?_
 case e=>conv=>lhs; cbv
 dsimp only;refine aU<|cJ (i:=3) (n:=0) (m:=4) (cs:=[(iV m.i),(iV m.s),(aC m.nx),(aC m.ot)]) J (cM J) J J J<|aP<|aE<|aU<|iD (i:=8) (n:=0) J (cM J)<|zL<|aU<|aE (aF λQ1 n1 x1 y1 z1=>?_)
 refine cF (λmm T H=> ∃ (k:Nat),mm=w.length - k/\T 1=(iV<|eJ m s<|w.take k)/\T 2=(aD w)/\T 3=(cR 3)/\T 8=(V.ms 8 (1+k) 0 k)/\T 9=(iV ((k:Nat):Int))/\H 3=(jV m)/\H 8=(bz (1+k) 3 1<|List.map cI<|aV m s<|w.take k)/\(k<=w.length)) ?_ ?_
 . 
  refine ⟨_,0,J,(bG (aM<|iV s) JR),J,J,(bG (aM<|V.ms 8 1 0 0) JR),(bG (aM<|iV 0) J),J,(bG (@J Blk<|bz 1 3 1 []) JR),?_⟩
  . omega
 intro mm T H ⟨k,hmm,t1,t2,t3,t8,t9,h3,h8,hk⟩ Q2 p12 p22 p32;refine aO<|aI t9<|aI t2<|bA J<|bY J J<|cE ?_
 refine aG J (λc3=>?_) λc3=>?_
 . 
  have h1:=aNx hm hs hw (k:=k) OM;refine aB (aF λQ4 n4 x4 y4 z4=>(aU<|aI t8<|aZ t3 h3 J J<|aI t1<|dQ (i:=(eJ m s<|w.take k)) (aM<|aC m.ot) (aM<|iV<|eJ m s<|w.take k) OM OM J<|aJ J J<|aI t2<|aI t9<|dL (i:=k) (aM<|aD w) (cS k)<|aJ J J<|dQ (i:=(aA w k)) (aM<|aD<|aA m.ot (eJ m s<|w.take k).toNat) (aM<|iV<|aA w k) OM OM J<|aJ J J<|aY J J ?_));refine gF (l:=(aV m s<|w.take k)) (f:=cI) (x:=(aA (aA m.ot (eJ m s<|w.take k).toNat) (aA w k).toNat)) (aM<|V.ms 8 (1+k) 0 k) h8 (by (simp only [gI,List.length_take]; omega)) (aM<|V.sl [[(iV<|aA (aA m.ot (eJ m s<|w.take k).toNat) (aA w k).toNat)]])<|aE<|fO<|aZ t3 h3 J J<|aI t1<|dQ (i:=(eJ m s<|w.take k)) (aM<|aC m.nx) (aM<|iV<|eJ m s<|w.take k) OM OM J<|aJ J J<|aI t2<|aI t9<|dL (i:=k) (aM<|aD w) (cS k)<|aJ J J<|dQ (i:=(aA w k)) (aM<|aD<|aA m.nx (eJ m s<|w.take k).toNat) (aM<|iV<|aA w k) OM OM J<|aJ J J<|aP ?_
  refine cE<|n4 _ _ (.done (fO<|aI t9<|cD J<|aE ?_))
  refine p12 _ _ _ ?_ ⟨(k+1),J,(bG (aM<|iV<|aA (aA m.nx (eJ m s<|w.take k).toNat) (aA w k).toNat) (by (rw [aAu m s OM]; rfl))),t2,t3,(bG (aM<|V.ms 8 (1+k+1) 0<|k+1) JR),(bG (cS<|k+1) JR),h3,(bG (@J Blk<|bz (1+k+1) 3 1<|List.map cI<|aV m s (w.take k)++[(aA (aA m.ot (eJ m s<|w.take k).toNat) (aA w k).toNat)]) (by (rw [aAG m s OM]; rfl))),?_⟩
  . omega
  . omega
 refine aS<|p32 _ _ _<|x1 _ _ (.done (aU<|aI t8<|aI t1<|aP<|aE<|bE ?_))
 refine lE (aM<|V.ms 8 (1+k) 0 k) (aM<|iV<|eJ m s<|w.take k) (mI h8 SI (l:=(aV m s<|w.take k)) J (by (simp only [gI,List.length_take]; omega)) (λ_=>by simp) ?_)<|aH ?_
 . (have e:k=w.length:=OM; subst e; rw [List.take_length])
 . (have e:k=w.length:=OM; subst e; rw [List.take_length])
theorem aEY (h:Hy):bJ Tryz.prog 13 [(V.agg [(iV h.m.i),(iV h.m.s),(aC h.m.nx),(aC h.m.ot),(aC h.acc)])] (iV (gG h)):=by
 refine' pK [] [] Tryz.func13 ?e λhB=>?_
 case e=>conv=>lhs; cbv
 dsimp only;refine aU<|cJ (i:=1) (n:=0) (m:=5) (cs:=[(iV h.m.i),(iV h.m.s),(aC h.m.nx),(aC h.m.ot),(aC h.acc)]) J (cM J) J J J<|aE<|aO<|aZ J J J J<|aL (nB h.m) J<|aE<|aO<|aP<|cA J J<|cE ?_
 refine aG J (λc1=>?_) λc1=>?_
 . 
  refine aO<|aP<|aE<|aN ?_
  refine aW (aM<|iV<|bK h.m)<|aH ?_
  . rw [gG,if_pos OM]
 have hm:=cY (m:=h.m) OM;refine aB<|aO<|aZ J J J J<|bA J<|cQ J J<|aZ J J J J<|bA J<|cA J J<|cE ?_
 refine aG J (λc2=>?_) λc2=>?_
 . 
  refine aO<|aE<|aN ?_
  refine aW (aM<|iV 1)<|aH ?_
  . rw [gG,if_neg OM,if_pos OM]
 refine aB<|aO<|aE (aF λQ3 n3 x3 y3 z3=>?_)
 refine cF (λmm T H=> ∃ (k:Nat),mm=h.acc.length - k/\T 1=(cR 1)/\T 4=(iV ((k:Nat):Int))/\H 1=(bk 1 28 5 [[(iV h.m.i),(iV h.m.s),(aC h.m.nx),(aC h.m.ot),(aC h.acc)]])/\(k<=h.acc.length)/\(bK h.m=0)/\(h.acc.length=h.m.nx.length)/\(0<=h.m.s/\h.m.s < h.m.nx.length/\h.m.nx.length<=128)/\(fe (mG h) 0 h.acc.length=fe (mG h) k (h.acc.length - k))) ?_ ?_
 . 
  refine ⟨_,0,J,J,(bG (aM<|iV 0) J),J,?_,?_,?_,?_,?_⟩
  . omega
  . omega
  . omega
  . omega
  . rfl
 intro mm T H ⟨k,hmm,t1,t4,h1,hk,hv,hl,hs,hc⟩ Q4 p14 p24 p34;refine aO<|aI t4<|aZ t1 h1 J J<|bA J<|bY J J<|cE ?_
 refine aG J (λc5=>?_) λc5=>?_
 . 
  refine aB (aF λQ6 n6 x6 y6 z6=>(aU<|aZ t1 h1 J J<|aI t4<|dL (i:=k) (aM<|aC h.acc) (cS k)<|aJ J J<|aE<|aO<|aP<|cQ t1 h1<|aZ J h1 J J ?_));refine aL (tS (aA h.acc k) h.m.i) J<|aE<|aO<|aP<|cA J J<|cE ?_
  refine aG J (λc7=>?_) λc7=>?_
  . 
   refine aO<|aP<|aE<|aN<|y6 _ _<|p24 _ _<|y3 _ _ ?_
   refine aW (aM<|iV<|cP (aA h.acc k) h.m.i)<|aH ?_
   . have e:mG h k=cP (aA h.acc k) h.m.i:=by rw [mG,if_pos OM]
     have e2:fe (mG h) 0 h.acc.length=mG h k:=by rw [hc]; exact gH OM OM
     rw [gG,if_neg OM,if_neg OM,if_pos OM]; omega
  have hw:=dO (w:=aA h.acc k) (n:=h.m.i) OM;refine aB<|aU<|aZ t1 h1 J J<|cQ t1 h1<|aZ J h1 J J<|aP<|aL (aDp h.m h.m.s (aA h.acc k) hv ⟨hs.1,hs.2.1⟩ hw.1 hw.2) J<|aP<|bR J J<|bR J J<|aP<|aE<|aU ?_
  refine aP<|aI t4<|cA J J<|cE ?_
  refine gE J (λc8=>?_) λc8=>?_
  . 
   refine aU<|aE<|bE<|y6 _ _<|p24 _ _<|y3 _ _ ?_
   refine aW (aM<|iV 15)<|aH ?_
   . have e:mG h k=15:=by rw [mG,if_neg OM,if_pos OM]
     have e2:fe (mG h) 0 h.acc.length=mG h k:=by rw [hc]; exact gH OM OM
     rw [gG,if_neg OM,if_neg OM,if_pos OM]; omega
  refine dH<|n6 _ _ (.done (fO<|aI t4<|cD J<|aE ?_))
  refine p14 _ _ _ ?_ ⟨(k+1),J,t1,(bG (cS<|k+1) JR),h1,?_,?_,?_,?_,?_⟩
  . omega
  . omega
  . omega
  . omega
  . omega
  . have e:mG h k=0:=by rw [mG,if_neg OM,if_neg OM]
    rw [hc]; exact gW e OM
 refine aS<|p34 _ _ _<|x3 _ _ (.done (aO<|aZ t1 h1 J J<|cQ t1 h1<|aZ J h1 J J<|dQ (i:=h.m.s) (aM<|aC h.acc) (aM<|iV h.m.s) OM OM J<|aJ J J<|bA J<|fZ J J<|cE ?_))
 refine aG J (λc9=>?_) λc9=>?_
 . 
  refine aO<|aE<|aN ?_
  refine aW (aM<|iV 10)<|aH ?_
  . have e2:fe (mG h) 0 h.acc.length=0:=by rw [hc,jK OM]
    rw [gG,if_neg OM,if_neg OM,if_neg OM,if_pos OM]
 refine aB<|aU<|aE<|bE ?_
 refine aW (aM<|iV 0)<|aH ?_
 . have e2:fe (mG h) 0 h.acc.length=0:=by rw [hc,jK OM]
   rw [gG,if_neg OM,if_neg OM,if_neg OM,if_neg OM]
theorem aEB (t:Tr) (n:Int):bJ Tryz.prog 40 [(V.agg [(aD t.ni),(aD t.no)]),(iV n)] (iV (vY t n)):=by
 refine' pK [] [] Tryz.func40 ?e λhB=>?_
 case e=>conv=>lhs; cbv
 dsimp only;refine aU<|cJ (i:=2) (n:=0) (m:=2) (cs:=[(aD t.ni),(aD t.no)]) J (cM J) J J J<|aE<|aO<|aZ J J J J<|aP<|aL (tS t.ni n) J<|aE<|aO<|aP<|cA J J ?_
 refine cE ?_;refine aG J (λc1=>?_) λc1=>?_
 . 
  refine aO<|aP<|aE<|aN ?_
  refine aW (aM<|iV<|cP t.ni n)<|aH ?_
  . rw [vY,if_pos OM]
 refine aB<|aO<|aZ J J J J<|bA J<|aZ J J J J<|bA J<|cA J J<|cE ?_
 refine aG J (λc2=>?_) λc2=>?_
 . 
  refine aO<|aE<|aN ?_
  refine aW (aM<|iV 1)<|aH ?_
  . rw [vY,if_neg OM,if_pos OM]
 refine aB<|aO<|aE (aF λQ3 n3 x3 y3 z3=>?_)
 refine cF (λmm T H=> ∃ (k:Nat),mm=t.no.length - k/\T 2=(cR 2)/\T 6=(iV ((k:Nat):Int))/\H 2=(bk 1 56 2 [[(aD t.ni),(aD t.no)]])/\(k<=t.no.length)/\(vY t n=fe (tA t) k (t.no.length - k))) ?_ ?_
 . 
  refine ⟨_,0,J,J,(bG (aM<|iV 0) J),J,?_,?_⟩
  . omega
  . rw [vY,if_neg OM,if_neg OM]; rfl
 intro mm T H ⟨k,hmm,t2,t6,h2,hk,hc⟩ Q4 p14 p24 p34;refine aO<|aI t6<|aZ t2 h2 J J<|bA J<|bY J J<|cE ?_
 refine aG J (λc5=>?_) λc5=>?_
 . 
  refine aB (aF λQ6 n6 x6 y6 z6=>(aU<|aZ t2 h2 J J<|aI t6<|dL (i:=k) (aM<|aD t.no) (cS k)<|aJ J J<|bY J J<|aP ?_));refine bN 7 (λT H=>T 2=(cR 2)/\T 6=(iV ((k:Nat):Int))/\T 41=(V.bool<|decide (((aA t.no k) < (0:Int))\/((1048576:Int) < (aA t.no k))))/\H 2=(bk 1 56 2 [[(aD t.ni),(aD t.no)]])/\True) ?_ ?_
  . 
   by_cases g7:(aA t.no k) < (0:Int)
   . 
    refine bQ (bU g7 J)<|bQ (bU g7 J)<|bQ (bU g7 J)<|bQ (bU g7 J)<|bQ (bU g7 J)<|bQ (bU g7 J)<|bP (bU g7 J) J ?_
    exact ⟨t2,t6,(fB g7),h2,trivial⟩
   . 
    refine aK (bV g7 J)<|cQ t2 h2<|aK (bV g7 J)<|bB J h2 J J<|aK (bV g7 J)<|aI t6<|aK (bV g7 J)<|dL (i:=k) (aM<|aD t.no) (cS k)<|aK (bV g7 J)<|aJ J J<|aK (bV g7 J)<|fZ J J<|bO (bV g7 J) J ?_
    exact ⟨t2,t6,(fC g7),h2,trivial⟩
  intro T H ⟨t2,t6,t41,h2,_⟩;refine cE ?_;refine gE t41 (λc8=>?_) λc8=>?_
  . 
   refine aU<|aE<|bE<|y6 _ _<|p24 _ _<|y3 _ _ ?_
   refine aW (aM<|iV 2)<|aH ?_
   . rw [hc,gH (by unfold tA; split <;> omega) OM]; unfold tA; split <;> omega
  refine dH<|n6 _ _ (.done (fO<|aI t6<|cD J<|aE ?_))
  refine p14 _ _ _ ?_ ⟨(k+1),J,t2,(bG (cS<|k+1) JR),h2,?_,?_⟩
  . omega
  . omega
  . rw [hc,gW (by unfold tA; split <;> omega) OM]
 refine aS<|p34 _ _ _<|x3 _ _ (.done (aU<|aE<|bE ?_))
 refine aW (aM<|iV 0)<|aH ?_
 . rw [hc,jK OM]
theorem aKs (a b:List Int):bJ Tryz.prog 87 [(aD a),(aD b)] (iV (cX a b)):=by
 refine' pK [] [] Tryz.func87 ?e λhB=>?_
 case e=>conv=>lhs; cbv
 dsimp only;refine aU<|aE<|aU<|aP<|aP ?_
 have q1:=kJ a b;have q2:=mJ a b;refine aL (oA a b) J<|aE ?_
 have q3:=kJ a b;have q4:=mJ a b;refine aF λQ5 n5 x5 y5 z5=>(aU<|aP<|aP<|bA J<|fP J J<|aP ?_);refine bN 5 (λT H=>T 0=(aD a)/\T 1=(aD b)/\T 5=(iV ((gC a b:Nat):Int))/\T 19=(V.bool<|decide ((((gC a b:Nat):Int)=((a.length:Nat):Int))/\(((gC a b:Nat):Int)=((b.length:Nat):Int))))/\True) ?_ ?_
 . 
  by_cases g6:((gC a b:Nat):Int)=((a.length:Nat):Int)
  . 
   refine aK (bU g6 J)<|aP<|aK (bU g6 J)<|aP<|aK (bU g6 J)<|bA J<|aK (bU g6 J)<|fP J J<|bP (bU g6 J) J ?_
   exact ⟨J,J,J,(eY g6),trivial⟩
  . 
   refine bQ (bV g6 J)<|bQ (bV g6 J)<|bQ (bV g6 J)<|bQ (bV g6 J)<|bO (bV g6 J) J ?_
   exact ⟨J,J,J,(eX g6),trivial⟩
 intro T H ⟨t0,t1,t5,t19,_⟩;refine aI t19<|cE ?_
 refine gE J (λc7=>?_) λc7=>?_
 . 
  refine aU<|aE<|bE<|y5 _ _ ?_
  refine aW (aM<|iV 0)<|aH ?_
  . unfold cX; rw [if_pos OM]
 refine aO<|aI t5<|aI t0<|bA J<|fP J J<|aE ?_
 refine aG J (λc8=>?_) λc8=>?_
 . 
  refine aB ?_;refine gE J (λc9=>?_) λc9=>?_
  . 
   refine aU<|aE<|bE<|y5 _ _ ?_
   refine aW (aM<|iV (-1))<|aH ?_
   . unfold cX; rw [if_neg OM,if_pos OM]
  . exact (c9 c8).elim
 refine aU<|aI t5<|aI t1<|bA J<|bY J J<|aP ?_
 refine bN 10 (λT H=>T 20=(V.bool<|decide (((gC a b:Nat):Int)=((a.length:Nat):Int)))/\T 39=(V.bool<|decide ((((gC a b:Nat):Int) < ((b.length:Nat):Int))/\((aA a<|gC a b) < (aA b<|gC a b))))/\True) ?_ ?_
 . 
  by_cases g10:((gC a b:Nat):Int) < ((b.length:Nat):Int)
  . 
   refine aK (bU g10 J)<|aI t0<|aK (bU g10 J)<|aI t5<|aK (bU g10 J)<|dL (i:=(gC a b)) (aM<|aD a) (cS<|gC a b)<|aK (bU g10 J)<|aJ J J<|aK (bU g10 J)<|aI t1<|aK (bU g10 J)<|aI t5<|aK (bU g10 J)<|dL (i:=(gC a b)) (aM<|aD b) (cS<|gC a b)<|aK (bU g10 J)<|aJ J J ?_
   refine aK (bU g10 J)<|bY J J<|bP (bU g10 J) J ?_
   exact ⟨J,(eY g10),trivial⟩
  . 
   refine bQ (bV g10 J)<|bQ (bV g10 J)<|bQ (bV g10 J)<|bQ (bV g10 J)<|bQ (bV g10 J)<|bQ (bV g10 J)<|bQ (bV g10 J)<|bQ (bV g10 J)<|bQ (bV g10 J)<|bO (bV g10 J) J ?_
   exact ⟨J,(eX g10),trivial⟩
 intro T H ⟨t20,t39,_⟩;refine aI t39<|cE ?_
 refine gE J (λc11=>?_) λc11=>?_
 . 
  refine aU<|aE<|bE<|y5 _ _ ?_
  refine aW (aM<|iV (-1))<|aH ?_
  . unfold cX; rw [if_neg OM,if_pos OM]
 refine dH<|n5 _ _ (.done (aU<|aE<|bE ?_))
 refine aW (aM<|iV 1)<|aH ?_
 . unfold cX; rw [if_neg OM,if_neg OM]
theorem aCX (a b:List Int):bJ Tryz.prog 41 [(aD a),(aD b)] (iV (fV a b)):=by
 refine' pK [] [] Tryz.func41 ?e λhB=>?_
 case e=>conv=>lhs; cbv
 dsimp only;refine aU<|aE<|aO<|aP<|bA J<|aP<|bA J<|bY J J<|cE ?_
 refine aG J (λc1=>?_) λc1=>?_
 . 
  refine aO<|aE<|aN ?_
  refine aW (aM<|iV (-1))<|aH ?_
  . rw [fV,if_pos OM]
 refine aB<|aO<|aP<|bA J<|aP<|bA J<|fZ J J<|cE ?_
 refine aG J (λc2=>?_) λc2=>?_
 . 
  refine aO<|aE<|aN ?_
  refine aW (aM<|iV 1)<|aH ?_
  . rw [fV,if_neg OM,if_pos OM]
 refine aB<|aU<|aP<|aP<|aL (aKs a b) J<|aE<|bE ?_
 refine aW (aM<|iV<|cX a b)<|aH ?_
 . rw [fV,if_neg OM,if_neg OM]
theorem aLX (w p:List Int):bJ Tryz.prog 88 [(aD w),(aD p)] (V.bool (hp w p)):=by
 refine' pK [] [] Tryz.func88 ?e λhB=>?_
 case e=>conv=>lhs; cbv
 dsimp only;refine aU<|aE<|aU<|aP<|aP ?_
 have q1:=kJ w p;have q2:=mJ w p;refine aL (oA w p) J<|aP<|bA J<|fP J J<|aE ?_
 have q3:=kJ w p;have q4:=mJ w p;refine bE ?_;refine aW (aM<|V.bool<|decide (((gC w p:Nat):Int)=((p.length:Nat):Int)))<|cK ?_
 . unfold hp; exact decide_eq_decide.2 OM
theorem aDZ (a b:Tr) (ha:a.no.length=a.ni.length) (hb:b.no.length=b.ni.length):bJ Tryz.prog 89 [(V.agg [(aD a.ni),(aD a.no)]),(V.agg [(aD b.ni),(aD b.no)])] (iV (df a b)):=by
 refine' pK [] [] Tryz.func89 ?e λhB=>?_
 case e=>conv=>lhs; cbv
 dsimp only;refine aU<|cJ (i:=2) (n:=0) (m:=2) (cs:=[(aD a.ni),(aD a.no)]) J (cM J) J J J<|cJ (i:=3) (n:=0) (m:=2) (cs:=[(aD b.ni),(aD b.no)]) J (cM J) J J J<|aE<|aU<|aZ J J J J<|aZ J J J J ?_
 have q1:=kJ a.ni b.ni;have q2:=mJ a.ni b.ni;refine aL (oA a.ni b.ni) J<|aE ?_
 have q3:=kJ a.ni b.ni;have q4:=mJ a.ni b.ni;refine aO<|aE (aF λQ5 n5 x5 y5 z5=>?_)
 refine cF (λmm T H=> ∃ (k:Nat),mm=(gC a.ni b.ni) - k/\T 2=(cR 2)/\T 3=(cR 3)/\T 5=(iV ((gC a.ni b.ni:Nat):Int))/\T 6=(iV ((k:Nat):Int))/\H 2=(bk 1 56 2 [[(aD a.ni),(aD a.no)]])/\H 3=(bk 1 56 2 [[(aD b.ni),(aD b.no)]])/\(k<=gC a.ni b.ni)/\(df a b=fi (dfE a b) k (gC a.ni b.ni - k))) ?_ ?_
 . 
  refine ⟨_,0,J,J,J,J,(bG (aM<|iV 0) J),J,J,?_,?_⟩
  . omega
  . rfl
 intro mm T H ⟨k,hmm,t2,t3,t5,t6,h2,h3,hk,hc⟩ Q6 p16 p26 p36;refine aO<|aI t6<|aI t5<|bY J J<|cE ?_
 refine aG J (λc7=>?_) λc7=>?_
 . 
  refine aB (aF λQ8 n8 x8 y8 z8=>(aU<|aZ t2 h2 J J<|aI t6<|dL (i:=k) (aM<|aD a.no) (cS k)<|aJ J J<|aZ t3 h3 J J<|aI t6<|dL (i:=k) (aM<|aD b.no) (cS k)<|aJ J J<|cA J J<|cE ?_));refine gE J (λc9=>?_) λc9=>?_
  . 
   refine aU<|aI t6<|aE<|bE<|y8 _ _<|p26 _ _<|y5 _ _ ?_
   refine aW (cS k)<|aH ?_
   . rw [hc,qZ (by simp only [dfE,decide_eq_true_eq]; omega) OM]
  refine dH<|n8 _ _ (.done (fO<|aI t6<|cD J<|aE ?_))
  refine p16 _ _ _ ?_ ⟨(k+1),J,t2,t3,t5,(bG (cS<|k+1) JR),h2,h3,?_,?_⟩
  . omega
  . omega
  . rw [hc,mX (by simp only [dfE,decide_eq_false_iff_not]; omega) OM]
 refine aS<|p36 _ _ _<|x5 _ _ (.done (aU<|aE<|bE ?_))
 refine aW (aM<|iV (-1))<|aH ?_
 . rw [hc,pF OM]
theorem aFE (o:Ob) (hpl: ∀ k,k < o.tr.length->(aA o.tr k).no.length=(aA o.tr k).ni.length):bJ Tryz.prog 42 [(V.agg [(iV o.i),(V.sl (List.map cT o.tr))])] (iV (fe (apE o) 0 o.tr.length)):=by
 refine' pK [] [] Tryz.func42 ?e λhB=>?_
 case e=>conv=>lhs; cbv
 dsimp only;refine aU<|cJ (i:=1) (n:=0) (m:=2) (cs:=[(iV o.i),(V.sl<|List.map cT o.tr)]) J (cM J) J J J<|aE<|aO<|aE (aF λQ1 n1 x1 y1 z1=>?_)
 refine cF (λmm T H=> ∃ (k:Nat),mm=o.tr.length - k/\T 1=(cR 1)/\T 3=(iV ((k:Nat):Int))/\H 1=(bk 1 31 2 [[(iV o.i),(V.sl<|List.map cT o.tr)]])/\(k<=o.tr.length)/\(fe (apE o) 0 o.tr.length=fe (apE o) k (o.tr.length - k))) ?_ ?_
 . 
  refine ⟨_,0,J,J,(bG (aM<|iV 0) J),J,?_,?_⟩
  . omega
  . rfl
 intro mm T H ⟨k,hmm,t1,t3,h1,hk,hc⟩ Q2 p12 p22 p32;refine aO<|aI t3<|aZ t1 h1 J J<|bA J<|bY J J<|cE ?_
 refine aG J (λc3=>?_) λc3=>?_
 . 
  refine aB (aF λQ4 n4 x4 y4 z4=>(aU<|aP<|aE<|aO<|aI t3<|cD J<|aE (aF λQ5 n5 x5 y5 z5=>?_)));refine cF (λmm T H=> ∃ (j:Nat),mm=o.tr.length - (k+1+j)/\T 1=(cR 1)/\T 3=(iV ((k:Nat):Int))/\T 4=(V.bool<|vK (aD6 o k) (k+1) j)/\T 5=(V.bool<|vK (aBK o k) (k+1) j)/\T 6=(iV ((k+1+j:Nat):Int))/\H 1=(bk 1 31 2 [[(iV o.i),(V.sl<|List.map cT o.tr)]])/\(k+1+j<=o.tr.length)) ?_ ?_
  . 
   refine ⟨_,0,J,t1,t3,(bG (aM<|V.bool false) JR),(bG (aM<|V.bool false) JR),(bG (cS<|k+1) JR),h1,?_⟩
   . omega
  intro mm T H ⟨j,hmm,t1,t3,t4,t5,t6,h1,hj⟩ Q6 p16 p26 p36;refine aO<|aI t6<|aZ t1 h1 J J<|bA J<|bY J J<|cE ?_
  refine aG J (λc7=>?_) λc7=>?_
  . 
   refine aB (aF λQ8 n8 x8 y8 z8=>(aU<|aI t4<|aP ?_));refine bN 14 (λT H=>T 1=(cR 1)/\T 3=(iV ((k:Nat):Int))/\T 4=(V.bool<|vK (aD6 o k) (k+1) j)/\T 5=(V.bool<|vK (aBK o k) (k+1) j)/\T 6=(iV ((k+1+j:Nat):Int))/\T 38=(V.bool ((vK (aD6 o k) (k+1) j)||(hp ((aA o.tr<|k+1+j).ni)<|(aA o.tr k).ni)))/\H 1=(bk 1 31 2 [[(iV o.i),(V.sl<|List.map cT o.tr)]])/\True) ?_ ?_
   . 
    by_cases g9:(vK (aD6 o k) (k+1) j)=true
    . 
     refine bQ (gZ g9 J)<|bQ (gZ g9 J)<|bQ (gZ g9 J)<|bQ (gZ g9 J)<|bQ (gZ g9 J)<|bQ (gZ g9 J)<|bQ (gZ g9 J)<|bQ (gZ g9 J)<|bQ (gZ g9 J)<|bQ (gZ g9 J)<|bQ (gZ g9 J)<|bQ (gZ g9 J)<|bQ (gZ g9 J)<|bP (gZ g9 J) J ?_
     exact ⟨t1,t3,t4,t5,t6,(uK g9),h1,trivial⟩
    . 
     refine aK (hC g9 J)<|cQ t1 h1<|aK (hC g9 J)<|bB J h1 J J<|aK (hC g9 J)<|aI t6<|aK (hC g9 J)<|dL (i:=(k+1+j)) (aM<|V.sl<|List.map cT o.tr) (cS<|k+1+j)<|aK (hC g9 J)<|dY (cs':=[(aD<|(aA o.tr<|k+1+j).ni),(aD<|(aA o.tr<|k+1+j).no)]) J J<|aK (hC g9 J)<|aJ J J<|aK (hC g9 J)<|cQ t1 h1<|aK (hC g9 J)<|bB J h1 J J ?_
     refine aK (hC g9 J)<|aI t3<|aK (hC g9 J)<|dL (i:=k) (aM<|V.sl<|List.map cT o.tr) (cS k)<|aK (hC g9 J)<|dY (cs':=[(aD<|(aA o.tr k).ni),(aD<|(aA o.tr k).no)]) J J<|aK (hC g9 J)<|aJ J J<|aK (hC g9 J)<|aL (aLX ((aA o.tr<|k+1+j).ni)<|(aA o.tr k).ni) J<|bO (hC g9 J) J ?_
     exact ⟨t1,t3,t4,t5,t6,(uG g9),h1,trivial⟩
   intro T H ⟨t1,t3,t4,t5,t6,t38,h1,_⟩;refine aI t38<|cE<|fO<|aI t5<|aP ?_
   refine bN 13 (λT H=>T 1=(cR 1)/\T 3=(iV ((k:Nat):Int))/\T 4=(V.bool ((vK (aD6 o k) (k+1) j)||(hp ((aA o.tr<|k+1+j).ni)<|(aA o.tr k).ni)))/\T 5=(V.bool<|vK (aBK o k) (k+1) j)/\T 6=(iV ((k+1+j:Nat):Int))/\T 53=(V.bool ((vK (aBK o k) (k+1) j)||decide ((0:Int)<=(df (aA o.tr k)<|aA o.tr<|k+1+j))))/\H 1=(bk 1 31 2 [[(iV o.i),(V.sl<|List.map cT o.tr)]])/\True) ?_ ?_
   . 
    by_cases g10:(vK (aBK o k) (k+1) j)=true
    . 
     refine bQ (gZ g10 J)<|bQ (gZ g10 J)<|bQ (gZ g10 J)<|bQ (gZ g10 J)<|bQ (gZ g10 J)<|bQ (gZ g10 J)<|bQ (gZ g10 J)<|bQ (gZ g10 J)<|bQ (gZ g10 J)<|bQ (gZ g10 J)<|bQ (gZ g10 J)<|bQ (gZ g10 J)<|bP (gZ g10 J) J ?_
     exact ⟨t1,t3,J,t5,t6,(uK g10),h1,trivial⟩
    . 
     refine aK (hC g10 J)<|cQ t1 h1<|aK (hC g10 J)<|bB J h1 J J<|aK (hC g10 J)<|aI t3<|aK (hC g10 J)<|dL (i:=k) (aM<|V.sl<|List.map cT o.tr) (cS k)<|aK (hC g10 J)<|aJ J J<|aK (hC g10 J)<|cQ t1 h1<|aK (hC g10 J)<|bB J h1 J J<|aK (hC g10 J)<|aI t6 ?_
     refine aK (hC g10 J)<|dL (i:=(k+1+j)) (aM<|V.sl<|List.map cT o.tr) (cS<|k+1+j)<|aK (hC g10 J)<|aJ J J<|aK (hC g10 J)<|aL (aDZ (aA o.tr k) (aA o.tr<|k+1+j) (hpl k OM)<|hpl (k+1+j) OM) J<|aK (hC g10 J)<|jB J J<|bO (hC g10 J) J ?_
     exact ⟨t1,t3,J,t5,t6,(uG g10),h1,trivial⟩
   intro T H ⟨t1,t3,t4,t5,t6,t53,h1,_⟩;refine aI t53<|cE<|n8 _ _ (.done (fO<|aI t6<|cD J<|aE ?_))
   refine p16 _ _ _ ?_ ⟨j+1,J,t1,t3,(bG t4 JR),(bG (aM<|V.bool ((vK (aBK o k) (k+1) j)||decide ((0:Int)<=(df (aA o.tr k)<|aA o.tr<|k+1+j)))) JR),(bG (cS<|k+1+j+1) JR),h1,?_⟩
   . omega
   . omega
  refine aS<|p36 _ _ _<|x5 _ _ (.done (aO<|aI t4<|cE ?_))
  refine dW J (λc11=>?_) (λc11=>?_)
  . 
   have d1:=c11;refine aO<|aE<|aN<|y4 _ _<|p22 _ _<|y1 _ _ ?_
   refine aW (aM<|iV 7)<|aH ?_
   . have e:j=o.tr.length - (k+1):=OM
     subst e;rw [hc,gH (by rw [apE,if_pos d1]; decide) OM,apE,if_pos d1]
  have d1:=c11;refine aB<|aU<|aI t5<|cE ?_
  refine pS J (λc12=>?_) (λc12=>?_)
  . 
   have d2:=c12;refine aU<|aE<|bE<|y4 _ _<|p22 _ _<|y1 _ _ ?_
   refine aW (aM<|iV 13)<|aH ?_
   . have e:j=o.tr.length - (k+1):=OM
     subst e;rw [hc,gH (by rw [apE,if_neg (by simp [d1]),if_pos d2]; decide) OM,apE,if_neg (by simp [d1]),if_pos d2]
  have d2:=c12;refine dH<|n4 _ _ (.done (fO<|aI t3<|cD J<|aE ?_))
  refine p12 _ _ _ ?_ ⟨(k+1),J,t1,(bG (cS<|k+1) JR),h1,?_,?_⟩
  . omega
  . omega
  . have e:j=o.tr.length - (k+1):=OM
    subst e;rw [hc,gW (by rw [apE,if_neg (by simp [d1]),if_neg (by simp [d2])]) OM]
 refine aS<|p32 _ _ _<|x1 _ _ (.done (aU<|aE<|bE ?_))
 refine aW (aM<|iV 0)<|aH ?_
 . rw [hc,jK OM]
theorem aHx (o:Ob):bJ Tryz.prog 14 [(V.agg [(iV o.i),(V.sl (List.map cT o.tr))])] (iV (jE o)):=by
 refine' pK [] [] Tryz.func14 ?e λhB=>?_
 case e=>conv=>lhs; cbv
 dsimp only;refine aU<|cJ (i:=1) (n:=0) (m:=2) (cs:=[(iV o.i),(V.sl<|List.map cT o.tr)]) J (cM J) J J J<|aE<|aO<|aZ J J J J<|bY J J<|aP ?_
 refine bN 4 (λT H=>T 1=(cR 1)/\T 14=(V.bool<|decide ((o.i < (1:Int))\/((64:Int) < o.i)))/\H 1=(bk 1 31 2 [[(iV o.i),(V.sl<|List.map cT o.tr)]])/\H 4=iN/\True) ?_ ?_
 . 
  by_cases g1:o.i < (1:Int)
  . 
   refine bQ (bU g1 J)<|bQ (bU g1 J)<|bQ (bU g1 J)<|bP (bU g1 J) J ?_
   exact ⟨J,(fB g1),J,J,trivial⟩
  . 
   refine aK (bV g1 J)<|cQ J J<|aK (bV g1 J)<|bB J J J J<|aK (bV g1 J)<|fZ J J<|bO (bV g1 J) J ?_
   exact ⟨J,(fC g1),J,J,trivial⟩
 intro T H ⟨t1,t14,h1,h4,_⟩;refine cE ?_;refine aG t14 (λc2=>?_) λc2=>?_
 . 
  refine aO<|aE<|aN ?_
  refine aW (aM<|iV 2)<|aH ?_
  . rw [jE,if_pos OM]
 refine aB<|aO<|aZ t1 h1 J J<|bA J<|fZ J J<|cE ?_
 refine aG J (λc3=>?_) λc3=>?_
 . 
  refine aO<|aE<|aN ?_
  refine aW (aM<|iV 11)<|aH ?_
  . rw [jE,if_neg OM,if_pos OM]
 refine aB<|aO<|aE (aF λQ4 n4 x4 y4 z4=>?_)
 refine cF (λmm T H=> ∃ (k:Nat) (v4:Nat),mm=o.tr.length - k/\T 1=(cR 1)/\T 3=(iV ((k:Nat):Int))/\H 1=(bk 1 31 2 [[(iV o.i),(V.sl<|List.map cT o.tr)]])/\(H 4).ver=v4/\(k<=o.tr.length)/\(1<=o.i/\o.i<=64/\o.tr.length<=10000)/\(fe (trE o) 0 o.tr.length=fe (trE o) k (o.tr.length - k))/\(∀ j,j < k->(aA o.tr j).no.length=(aA o.tr j).ni.length)) ?_ ?_
 . 
  refine ⟨_,0,0,J,t1,(bG (aM<|iV 0) J),h1,(cM h4),?_,?_,?_,?_⟩
  . omega
  . omega
  . rfl
  . intro j hj; omega
 intro mm T H ⟨k,v4,hmm,t1,t3,h1,h4,hk,hh,hc,hpl⟩ Q5 p15 p25 p35;refine aO<|aI t3<|aZ t1 h1 J J<|bA J<|bY J J<|cE ?_
 refine aG J (λc6=>?_) λc6=>?_
 . 
  refine aB (aF λQ7 n7 x7 y7 z7=>(aU<|aZ t1 h1 J J<|aI t3<|dL (i:=k) (aM<|V.sl<|List.map cT o.tr) (cS k)<|aJ J J<|bX (i:=4) (n:=v4) (m:=2) J h4 J<|dA J J J J J J J J J<|zL<|aU<|aZ J J J J<|cQ t1 h1 ?_));refine bB J h1 J J<|aL (tS ((aA o.tr k).ni) o.i) J<|aE<|aO<|aP<|cA J J<|cE ?_
  refine aG J (λc8=>?_) λc8=>?_
  . 
   refine aO<|aP<|aE<|aN<|y7 _ _<|p25 _ _<|y4 _ _ ?_
   refine aW (aM<|iV<|cP ((aA o.tr k).ni) o.i)<|aH ?_
   . have e:trE o k=cP (aA o.tr k).ni o.i:=by rw [trE,if_pos OM]
     have e2:fe (trE o) 0 o.tr.length=trE o k:=by rw [hc]; exact gH OM OM
     rw [jE,if_neg OM,if_neg OM,if_pos OM]; omega
  refine aB<|aO<|aZ J J J J<|bA J<|fP J J<|cE ?_
  refine aG J (λc9=>?_) λc9=>?_
  . 
   refine aO<|aE<|aN<|y7 _ _<|p25 _ _<|y4 _ _ ?_
   refine aW (aM<|iV 19)<|aH ?_
   . have e:trE o k=19:=by rw [trE,if_neg OM,if_pos OM]
     have e2:fe (trE o) 0 o.tr.length=trE o k:=by rw [hc]; exact gH OM OM
     rw [jE,if_neg OM,if_neg OM,if_pos OM]; omega
  refine aB<|aO<|bB J J J J<|aZ t1 h1 J J<|aL (aEB (aA o.tr k) o.i) J<|aE<|aO<|aP<|cA J J<|cE ?_
  refine aG J (λc10=>?_) λc10=>?_
  . 
   refine aO<|aP<|aE<|aN<|y7 _ _<|p25 _ _<|y4 _ _ ?_
   refine aW (aM<|iV<|vY (aA o.tr k) o.i)<|aH ?_
   . have e:trE o k=vY (aA o.tr k) o.i:=by rw [trE,if_neg OM,if_neg OM,if_pos OM]
     have e2:fe (trE o) 0 o.tr.length=trE o k:=by rw [hc]; exact gH OM OM
     rw [jE,if_neg OM,if_neg OM,if_pos OM]; rw [e2,e]
  refine aB ?_;refine eZ (λT H=>T 1=(cR 1)/\T 3=(iV ((k:Nat):Int))/\T 64=(V.bool<|decide (((0:Int) < ((k:Nat):Int))/\((0:Int)<=(fV ((aA o.tr (((k:Nat):Int) - (1:Int)).toNat).ni)<|(aA o.tr k).ni))))/\H 1=(bk 1 31 2 [[(iV o.i),(V.sl<|List.map cT o.tr)]])/\H 4=(bk (v4+1) 56 2 [[(aD<|(aA o.tr k).ni),(aD<|(aA o.tr k).no)]])/\True) ?_ ?_
  . 
   refine aI t3<|fZ J J<|aP ?_
   refine bN 12 (λT H=>T 1=(cR 1)/\T 3=(iV ((k:Nat):Int))/\T 64=(V.bool<|decide (((0:Int) < ((k:Nat):Int))/\((0:Int)<=(fV ((aA o.tr (((k:Nat):Int) - (1:Int)).toNat).ni)<|(aA o.tr k).ni))))/\H 1=(bk 1 31 2 [[(iV o.i),(V.sl<|List.map cT o.tr)]])/\H 4=(bk (v4+1) 56 2 [[(aD<|(aA o.tr k).ni),(aD<|(aA o.tr k).no)]])/\True) ?_ ?_
   . 
    by_cases g11:(0:Int) < ((k:Nat):Int)
    . 
     refine aK (bU g11 J)<|cQ t1 h1<|aK (bU g11 J)<|bB J h1 J J<|aK (bU g11 J)<|aI t3<|aK (bU g11 J)<|lS J J OM OM<|aK (bU g11 J)<|dQ (i:=(((k:Nat):Int) - (1:Int))) (aM<|V.sl<|List.map cT o.tr) (aM<|iV<|((k:Nat):Int) - (1:Int)) OM OM J<|aK (bU g11 J)<|dY (cs':=[(aD<|(aA o.tr (((k:Nat):Int) - (1:Int)).toNat).ni),(aD<|(aA o.tr (((k:Nat):Int) - (1:Int)).toNat).no)]) J J<|aK (bU g11 J)<|aJ J J<|aK (bU g11 J)<|cQ J J ?_
     refine aK (bU g11 J)<|bB J J J J<|aK (bU g11 J)<|aL (aCX ((aA o.tr (((k:Nat):Int) - (1:Int)).toNat).ni)<|(aA o.tr k).ni) J<|aK (bU g11 J)<|jB J J<|bP (bU g11 J) J ?_
     exact ⟨t1,t3,(eY g11),h1,J,trivial⟩
    . 
     refine bQ (bV g11 J)<|bQ (bV g11 J)<|bQ (bV g11 J)<|bQ (bV g11 J)<|bQ (bV g11 J)<|bQ (bV g11 J)<|bQ (bV g11 J)<|bQ (bV g11 J)<|bQ (bV g11 J)<|bQ (bV g11 J)<|bQ (bV g11 J)<|bO (bV g11 J) J ?_
     exact ⟨t1,t3,(eX g11),h1,J,trivial⟩
   intro T H ⟨t1,t3,t64,h1,h4,_⟩;exact gD ⟨t1,t3,t64,h1,h4,trivial⟩
  intro T H ⟨t1,t3,t64,h1,h4,_⟩;refine gE t64 (λc12=>?_) λc12=>?_
  . 
   rw [show (((k:Nat):Int) - 1).toNat=k - 1 by omega] at c12;refine aU<|aE<|bE<|y7 _ _<|p25 _ _<|y4 _ _ ?_
   refine aW (aM<|iV 10)<|aH ?_
   . have e:trE o k=10:=by rw [trE,if_neg OM,if_neg OM,if_neg OM,if_pos OM]
     have e2:fe (trE o) 0 o.tr.length=trE o k:=by rw [hc]; exact gH OM OM
     rw [jE,if_neg OM,if_neg OM,if_pos OM]; omega
  rw [show (((k:Nat):Int) - 1).toNat=k - 1 by omega] at c12;refine dH<|n7 _ _ (.done (fO<|aI t3<|cD J<|aE ?_))
  refine p15 _ _ _ ?_ ⟨(k+1),(v4+1),J,t1,(bG (cS<|k+1) JR),h1,(cM h4),?_,?_,?_,?_⟩
  . omega
  . omega
  . omega
  . have e:trE o k=0:=by rw [trE,if_neg OM,if_neg OM,if_neg OM,if_neg OM]
    rw [hc]; exact gW e OM
  . intro j hj
    by_cases e:j=k
    . subst e; exact (aCn (n:=o.i) OM).len
    . exact hpl j OM
 refine aS<|p35 _ _ _<|x4 _ _ (.done (aU<|bB t1 h1 J J<|aL (aFE o (λj hj=>hpl j OM)) J<|aE<|bE ?_))
 refine aW (aM<|iV<|fe (apE o) 0 o.tr.length)<|aH ?_
 . rw [jE,if_neg OM,if_neg OM,if_neg (by rw [hc,jK OM]; omega)]
end
section
open Go
@[simp] theorem aKV {l:List Bool}:kF (l.map cB)=true:=by simp_all [cB]
@[simp] theorem aRy {l:List Bool}:hY (l.map cB)=true:=by simp_all [iW,cB]
attribute [simp] cB
@[simp] theorem aPS {l : List Bool} {i : Nat} {b : Bool} : kF ((l.map cB).set i [V.bool b]) = true := by
  have e:(l.map cB).set i [V.bool b]=(l.set i b).map cB:=by rw [List.map_set]; rfl
  rw [e]; exact aKV
def idL (l:List Int) (n:Int):Int:=fi (λj=>decide (aA l j=n)) 0 l.length
def trm (m:M):M:=⟨m.i,0,(rch m).map λs=>(aA m.nx s.toNat).map (idL (rch m)),(rch m).map λs=>aA m.ot s.toNat⟩
theorem zD {p:Nat->Bool}: ∀ {n k:Nat},0<=fi p k n-> ∃ j:Nat,fi p k n=j/\k<=j/\j < k+n/\p j=true/\ ∀ i,k<=i->i < j->p i=false
  |0,k,h=>by simp [fi] at h
  | n + 1, k, h => by
    unfold fi at h ⊢;split
    . grind
    . rename_i hp
      rw [if_neg hp] at h;obtain ⟨j,h1,h2,h3,h4,h5⟩:=zD h
      grind
theorem aBk {p:Nat->Bool}: ∀ {n k j:Nat},k<=j->j < k+n->p j=true->0<=fi p k n
  |0,k,j,h1,h2,_=>by omega
  | n + 1, k, j, h1, h2, h3 => by
    unfold fi;split
    . omega
    . rename_i hp
      by_cases e:j=k
      . subst e; exact (hp h3).elim
      . exact aBk (show k+1<=j by omega) OM h3
theorem aEq {l:List Int} {n:Int} (h:n∈l):0<=idL l n/\idL l n < l.length/\aA l (idL l n).toNat=n:=by
  obtain ⟨j,hj,e⟩:=dZ h;have h0:0<=idL l n:=aBk (j:=j) (Nat.zero_le _) OM<|decide_eq_true e
  grind [zD,idL]
theorem aI1 {l:List Int} (hn:l.Nodup) {k:Nat} (hk:k < l.length):idL l (aA l k)=k:=by
  obtain ⟨h1,h2,h3⟩:=aEq<|bC hk
  grind [aA,List.pairwise_iff_getElem]
theorem aJs (m:M): ∀ (n k:Nat) (P:RS),∃ x,(nZ m n k P).1=P.1++x
  |0,_,P=>⟨[],by rw [nZ,List.append_nil]⟩
  | n + 1, k, P => by
    rw [nZ];split
    . obtain ⟨x,hx⟩:=oM (aA m.nx (aA P.1 k).toNat) P
      obtain ⟨y,hy⟩:=aJs m n (k+1)<|rN m P k
      grind [rN]
    simp_all
theorem aFQ {P Q:RS} {k:Nat} {a:Int} (h:aA Q.1 k=aA P.1 k/\P.1.length<=Q.1.length) (hk:k < P.1.length):aA (oT Q a).1 k=aA P.1 k/\P.1.length<=(oT Q a).1.length:=by grind [oT,dB]
structure RcM (m:M):Prop where
  rng: ∀ k,k < (rch m).length->0<=aA (rch m) k/\aA (rch m) k < m.nx.length
  nd:(rch m).Nodup
  first:aA (rch m) 0=m.s
  pos:0 < (rch m).length
  len:(rch m).length<=m.nx.length
  clo: ∀ k,k < (rch m).length-> ∀ a∈aA m.nx (aA (rch m) k).toNat,a∈rch m
theorem qT {m:M} (h:bK m=0):RcM m:=by
  obtain ⟨h1,h2,h3⟩:=aGs h m.nx.length 0 (wT m) (aHQ h) (Nat.zero_le _) OM (λj hj=>by omega) (by simp [wT]);have e:rch m=(nZ m m.nx.length 0<|wT m).1:=if_neg OM;obtain ⟨x,hx⟩:=aJs m m.nx.length 0<|wT m
  have hx2:rch m=m.s::x:=by rw [e,hx]; rfl
  refine ⟨λk hk=>?_,by rw [e]; exact h1.nd,by rw [hx2]; rfl,by rw [hx2]; simp,by rw [e]; exact h1.len,λk hk=>?_⟩
  . exact h1.rng _<|e ▸ bC hk
  . rw [e] at hk ⊢; exact h2 k hk
def wY (m:M) (k a:Nat):Int:=idL (rch m) (aA (aA m.nx (aA (rch m) k).toNat) a)
def aEo (m:M) (k a:Nat):Int:=aA (aA m.ot (aA (rch m) k).toNat) a
def tNx (m:M) (k:Nat):List Int:=eI (wY m k) m.i.toNat
def tOt (m:M) (k:Nat):List Int:=eI (aEo m k) m.i.toNat
theorem zN {m:M} (h:bK m=0):trm m=⟨m.i,0,eI (tNx m) (rch m).length,eI (tOt m) (rch m).length⟩:=by
  have hc:=qT h;have mo:=cY h;unfold trm;congr 1
  . refine fU (by simp_all [bS]) λk hk=>?_
    rw [List.length_map] at hk;have hr:=hc.rng k hk;have g:=mo.2.2.2.2.2.2.2 (aA (rch m) k).toNat OM;rw [lO hk,eG hk];refine fU (by rw [List.length_map,tNx,bS]; omega) λj hj=>?_;rw [List.length_map] at hj;rw [lO hj,tNx,eG OM]; rfl
  . refine fU (by simp_all [bS]) λk hk=>?_
    rw [List.length_map] at hk;have hr:=hc.rng k hk;have g:=mo.2.2.2.2.2.2.2 (aA (rch m) k).toNat OM;rw [lO hk,eG hk];refine fU (by rw [tOt,bS]; omega) λj hj=>?_;rw [tOt,eG OM]; rfl
def rV {α:Type} (f:Nat->α) (z:α) (n j:Nat):List α:=(List.range n).map λa=>if a < j then f a else z
section
variable {α:Type} {f:Nat->α} {z:α} {n j:Nat}
theorem aFR:(rV f z n j).length=n:=by simp [rV]
theorem aRE:List.replicate n z=rV f z n 0:=by
  refine List.ext_getElem (by simp [rV]) λk h1 h2=>?_;simp [rV]
theorem aN7 (hj:j < n):(rV f z n j).set j (f j)=rV f z n (j+1):=by
  refine List.ext_getElem (by simp [rV]) λk h1 h2=>?_
  grind [rV]
theorem aMG (hj:n<=j):rV f z n j=eI f n:=by grind [rV,eI,List.map_congr_left]
end
theorem RcM.inj {m:M} (h:RcM m) {i j:Nat} (hi:i < (rch m).length) (hj:j < (rch m).length) (e:aA (rch m) i=aA (rch m) j):i=j:=by
  have h1:=aI1 h.nd hi;have h2:=aI1 h.nd hj;rw [e] at h1;omega
def rB (m:M):M:=if bK m=0 then trm m else zM
theorem aQA {m:M} {k i:Nat} (hk:k < (rch m).length) (hi:i < (aA m.nx (aA (rch m) k).toNat).length):aA (aA (trm m).nx k) i=idL (rch m) (aA (aA m.nx (aA (rch m) k).toNat) i):=by grind [trm,lO]
end
section
open Go
section
variable (f:Nat->List Int)
def pD (s:Nat):Nat:=if 0<=fi (λt=>decide (f s=f t)) 0 s then (fi (λt=>decide (f s=f t)) 0 s).toNat else s
def nM:Nat->Nat
  |0=>0
  |s+1=>nM s+(if pD f s=s then 1 else 0)
def rA (s:Nat):Int:=(nM f (pD f s):Nat)
end
section
variable {f g:Nat->List Int} {s t n:Nat}
theorem gY (f:Nat->List Int) (s:Nat):pD f s<=s/\f (pD f s)=f s/\ ∀ t,t < pD f s->f t≠f s:=by
  unfold pD;split
  . grind [zD]
  . rename_i h
    refine ⟨Nat.le_refl _,J,λt ht e=>h ?_⟩;exact aBk (Nat.zero_le t) OM<|decide_eq_true e.symm
theorem vG (h:f s=f t):pD f s=pD f t:=by grind [gY]
theorem aAa:pD f (pD f s)=pD f s:=vG (gY f s).2.1
theorem aNG (h:s<=t):nM f s<=nM f t:=by induction t <;> grind [nM]
theorem aH5 (h:s < t) (hs:pD f s=s):nM f s < nM f t:=by
  have:=aNG (f:=f) (show s+1<=t from h)
  grind [nM]
theorem aAy: ∀ n,nM f n<=n
  |0=>Nat.le_refl 0
  |n+1=>by rw [nM]; have:=aAy n; split <;> omega
theorem aED:rA f s=rA f t↔f s=f t:=by
  constructor
  . intro h
    have h:nM f (pD f s)=nM f (pD f t):=by unfold rA at h; omega
    have e:pD f s=pD f t:=by
      rcases Nat.lt_trichotomy (pD f s) (pD f t) with q|q|q
      . have:=aH5 q aAa; omega
      . exact q
      . have:=aH5 q aAa; omega
    grind [gY]
  grind [rA,vG]
theorem aJ4 (h:pD f s=s):rA f s=(nM f s:Nat):=by unfold rA; rw [h]
theorem aM9 (h:s < n):0<=rA f s/\rA f s < (nM f n:Nat):=by
  have:=aH5 (f:=f) (show pD f s < n by have:=(gY f s).1; omega) aAa;unfold rA; omega
theorem aJa (h: ∀ s t,s < n->t < n->(f s=f t↔g s=g t)) (hs:s < n):pD f s=pD g s:=by grind [gY,Nat.lt_trichotomy]
theorem aI7 (h: ∀ s t,s < n->t < n->(f s=f t↔g s=g t)): ∀ {s},s<=n->nM f s=nM g s
  |0,_=>rfl
  |s+1,hs=>by rw [nM,nM,aI7 h OM,aJa h OM]
theorem aOf (h: ∀ s t,s < n->t < n->(f s=f t↔g s=g t)) (hs:s < n):rA f s=rA g s:=by grind [gY,rA,aJa,aI7]
theorem aNk (h: ∀ s t,s < n->t < n->g s=g t->f s=f t) (hs:s < n) (e:pD f s=s):pD g s=s:=by
  obtain ⟨a1,a2,a3⟩:=gY g s;by_cases q:pD g s=s
  . exact q
  . have:=(gY f s).2.2 (pD g s) OM
    grind
theorem aCq (h: ∀ s t,s < n->t < n->g s=g t->f s=f t): ∀ {k},k<=n->nM f k<=nM g k/\(nM f k=nM g k-> ∀ s,s < k->pD g s=s->pD f s=s)
  |0,_=>⟨Nat.le_refl 0,λ_ s hs=>absurd hs (Nat.not_lt_zero _)⟩
  | k + 1, hk => by
    obtain ⟨h1,h2⟩:=aCq h (k:=k) OM
    grind [aNk,nM]
theorem aKX (h: ∀ s t,s < n->t < n->g s=g t->f s=f t) (hc:nM f n=nM g n) (hs:s < n) (ht:t < n) (e:f s=f t):g s=g t:=by
  obtain ⟨a1,a2,a3⟩:=gY g s;obtain ⟨b1,b2,b3⟩:=gY g t;have h2:=(aCq h<|Nat.le_refl n).2 hc
  grind [aAa,vG]
end
end
section
open Go
def aEC (m:M) (c:List Int) (s:Nat):List Int:=eI (yB m s) m.i.toNat++eI (λa=>aA c (kI m s a).toNat) m.i.toNat
def qX (m:M) (c:List Int) (s:Nat):List Int:=aA c s::aEC m c s
def qW (m:M):Nat->List Int
  |0=>eI (λ_=>0) m.nx.length
  |k+1=>eI (rA (aEC m (qW m k))) m.nx.length
def eqk (m:M):Nat->Int->Int->Prop
  |0,_,_=>True
  |k+1,s,t=> ∀ a,a < m.i.toNat->yB m s a=yB m t a/\eqk m k (kI m s a) (kI m t a)
theorem zS {m:M}: ∀ {k:Nat} {s t:Int},eqk m (k+1) s t->eqk m k s t
  |0,_,_,_=>trivial
  |k+1,_,_,h=>λa ha=>⟨(h a ha).1,zS (h a ha).2⟩
theorem aOD {a b c d:List Int} (h:a.length=b.length):a++c=b++d↔a=b/\c=d:=by grind [List.append_inj]
theorem aBf {f g:Nat->Int} {n:Nat}:eI f n=eI g n↔ ∀ k,k < n->f k=g k:=by simp_all [eI]
theorem aLw {m:M} {c:List Int} {s t:Nat}:aEC m c s=aEC m c t↔ ∀ a,a < m.i.toNat->yB m s a=yB m t a/\aA c (kI m s a).toNat=aA c (kI m t a).toNat:=by grind [aEC,aOD,bS,aBf]
theorem aFf {m:M} (k:Nat):(qW m k).length=m.nx.length:=by cases k <;> exact bS _ _
theorem aAs {m:M} (h:bK m=0): ∀ (k:Nat) {s t:Nat},s < m.nx.length->t < m.nx.length->(aA (qW m k) s=aA (qW m k) t↔eqk m k s t)
  | 0, s, t, hs, ht => by
    unfold qW;rw [eG hs,eG ht];exact ⟨λ_=>trivial,λ_=>J⟩
  | k + 1, s, t, hs, ht => by
    rw [qW,eG hs,eG ht,aED,aLw]
    have key: ∀ a,a < m.i.toNat->((aA (qW m k) (kI m s a).toNat=aA (qW m k) (kI m t a).toNat)↔eqk m k (kI m s a) (kI m t a)):=λa ha=>by
      have h1:=nX h (s:=(s:Int)) (x:=a) OM OM ha;have h2:=nX h (s:=(t:Int)) (x:=a) OM OM ha;have:=aAs h k (s:=(kI m s a).toNat) (t:=(kI m t a).toNat) OM OM
      grind
    exact ⟨λq a ha=>⟨(q a ha).1,(key a ha).1 (q a ha).2⟩,λq a ha=>⟨(q a ha).1,(key a ha).2 (q a ha).2⟩⟩
theorem aR8 {m:M} (h:bK m=0) (k:Nat) {s t:Nat} (hs:s < m.nx.length) (ht:t < m.nx.length):qX m (qW m k) s=qX m (qW m k) t↔aEC m (qW m k) s=aEC m (qW m k) t:=by
  constructor
  . exact λe=>(List.cons.inj e).2
  . intro e
    have e1:aA (qW m<|k+1) s=aA (qW m<|k+1) t:=by grind [qW,eG,aED]
    grind [aAs,zS,qX]
theorem aQN {m:M} (h:bK m=0) (k:Nat):eI (rA (qX m (qW m k))) m.nx.length=qW m (k+1):=by grind [qW,aBf,aOf,aR8]
def ctK (m:M) (k:Nat):Nat:=nM (λs=>[aA (qW m k) s]) m.nx.length
theorem aID {m:M} (h:bK m=0) (k:Nat) {s t:Nat} (hs:s < m.nx.length) (ht:t < m.nx.length) (e:[aA (qW m (k+1)) s]=[aA (qW m (k+1)) t]):[aA (qW m k) s]=[aA (qW m k) t]:=by grind [aAs,zS]
theorem aOP {m:M} (h:bK m=0) (k:Nat):ctK m k<=ctK m (k+1):=(aCq (λs t hs ht=>aID h k hs ht) (Nat.le_refl _)).1
theorem aS2 {m:M} (h:bK m=0):ctK m 0=1:=by
  have hp:=(cY h).2.2.1
  have: ∀ n,0 < n->n<=m.nx.length->nM (λs=>[aA (qW m 0) s]) n=1:=by
    intro n
    induction n <;> grind [nM,gY,qW,eG]
  exact this _ hp<|Nat.le_refl _
theorem aSe {m:M} (k:Nat):ctK m k<=m.nx.length:=aAy _
theorem aJE {m:M} (h:bK m=0) {k:Nat} (hc:ctK m k=ctK m (k+1)) {s t:Int} (hs:0<=s/\s < m.nx.length) (ht:0<=t/\t < m.nx.length):eqk m k s t->eqk m (k+1) s t:=λe=>by
  have e1:=(aAs h k (s:=s.toNat) (t:=t.toNat) OM OM).2 (by grind);have:=aKX (λs t hs ht=>aID h k hs ht) hc (s:=s.toNat) (t:=t.toNat) OM OM (by grind);have:=(aAs h (k+1) (s:=s.toNat) (t:=t.toNat) OM OM).1 (List.cons.inj this).1
  rwa [Int.toNat_of_nonneg hs.1,Int.toNat_of_nonneg ht.1] at this
theorem aB8 {m:M} (h:bK m=0) {k:Nat} (hc:ctK m k=ctK m (k+1)): ∀ (d:Nat) {s t:Int},0<=s/\s < m.nx.length->0<=t/\t < m.nx.length->eqk m k s t->eqk m (k+d) s t
  |0,_,_,_,_,e=>e
  | d + 1, s, t, hs, ht, e => λa ha => by
    have e1:=aJE h hc hs ht e a ha;have h1:=nX h (s:=s) (x:=a) hs.1 hs.2 ha;have h2:=nX h (s:=t) (x:=a) ht.1 ht.2 ha;exact ⟨e1.1,aB8 h hc d ⟨h1.1,h1.2.1⟩ ⟨h2.1,h2.2.1⟩ e1.2⟩
theorem aEf {m:M} {k:Nat}: ∀ (d:Nat) {s t:Int},eqk m (k+d) s t->eqk m k s t
  |0,_,_,e=>e
  |d+1,_,_,e=>aEf d (zS e)
def eqv (m:M) (s t:Int):Prop:=eqk m m.nx.length s t
theorem aJG {m:M} (h:bK m=0): ∀ k,(∀ j,j < k->ctK m j≠ctK m (j+1))->k+1<=ctK m k
  |0,_=>by rw [aS2 h]; exact Nat.le_refl _
  | k + 1, hn => by
    have:=aJG h k λj hj=>hn j OM
    have:=aOP h k;have:=hn k OM;omega
theorem aJm {m:M} (h:bK m=0): ∃ k,k < m.nx.length/\ctK m k=ctK m (k+1):=by
  refine Decidable.byContradiction λq=>?_;have:=aJG h m.nx.length λj hj e=>q ⟨j,hj,e⟩
  have:=aSe (m:=m) m.nx.length;omega
theorem aNq {m:M} (h:bK m=0) {k:Nat} (hc:ctK m k=ctK m (k+1)) {s t:Int} (hs:0<=s/\s < m.nx.length) (ht:0<=t/\t < m.nx.length):eqk m k s t↔eqv m s t:=by
  unfold eqv;by_cases q:k<=m.nx.length
  . constructor
    . intro e
      have:=aB8 h hc (m.nx.length - k) hs ht e
      grind
    . intro e
      exact aEf (m.nx.length - k) (by grind)
  . constructor
    . intro e
      exact aEf (k - m.nx.length) (by grind)
    . intro e
      obtain ⟨j,hj,hcj⟩:=aJm h;have e1:eqk m j s t:=aEf (m.nx.length - j) (by grind);have:=aB8 h hcj (k - j) hs ht e1
      grind
theorem aGr {m:M} (h:bK m=0) {s t:Int} (hs:0<=s/\s < m.nx.length) (ht:0<=t/\t < m.nx.length) (e:eqv m s t) {a:Nat} (ha:a < m.i.toNat):yB m s a=yB m t a/\eqv m (kI m s a) (kI m t a):=by
  obtain ⟨j,hj,hcj⟩:=aJm h;have e1:=aJE h hcj hs ht ((aNq h hcj hs ht).2 e) a ha
  grind [nX,aNq]
end
section
open Go
def uL (cc:Int->Int) (O:List Int) (t:Int):Int:=fi (λj=>decide (cc (aA O j)=cc t)) 0 O.length
def pI (cc:Int->Int) (O:List Int) (t:Int):List Int:=if 0<=uL cc O t then O else O++[t]
section
variable {cc:Int->Int} {O A:List Int} {t:Int}
theorem yH:0<=uL cc O t↔ ∃ o∈O,cc o=cc t:=by
  constructor
  . intro h
    obtain ⟨j,h1,_,h3,h4,_⟩:=zD h
    grind [bC]
  . rintro ⟨o,ho,e⟩
    obtain ⟨j,hj,rfl⟩:=dZ ho;exact aBk (Nat.zero_le j) OM<|decide_eq_true e
theorem aEt (h:0<=uL cc O t): ∃ j:Nat,uL cc O t=j/\j < O.length/\cc (aA O j)=cc t/\ ∀ i,i < j->cc (aA O i)≠cc t:=by
  obtain ⟨j,h1,_,h3,h4,h5⟩:=zD h;refine ⟨j,h1,OM,of_decide_eq_true h4,λi hi e=>?_⟩
  grind
theorem aRr (h: ¬0<=uL cc O t):uL cc O t= -1:=by
  have:=(aEj (p:=λj=>decide (cc (aA O j)=cc t)) O.length 0).1;unfold uL at*; omega
theorem aG8 {j:Nat} (hj:j < O.length) (h1:cc (aA O j)=cc t) (h2: ∀ i,i < j->cc (aA O i)≠cc t):uL cc O t=j:=by
  obtain ⟨i,g1,g2,g3,g4⟩:=aEt<|yH.2 ⟨_,bC hj,h1⟩
  grind
theorem aBi (h:0<=uL cc O t):uL cc (O++A) t=uL cc O t:=by grind [aEt,aG8,dB]
theorem aEQ (h: ¬0<=uL cc O t):uL cc (O++[t]) t=O.length:=by
  refine aG8 SI (by
    have:=iC (l:=O) (m:=[t]) (j:=0);rw [Nat.add_zero] at this;rw [this]; rfl) λi hi e=>h<|yH.2 ⟨aA O i,bC hi,by rwa [dB hi] at e⟩
theorem aAw {u:Int} (e:cc t=cc u):uL cc O t=uL cc O u:=by unfold uL; rw [e]
theorem aIH (O:List Int) (t:Int): ∃ y,pI cc O t=O++y:=by
  unfold pI; split
  all_goals (simp_all)
theorem aIK (O:List Int) (t:Int):0<=uL cc (pI cc O t) t:=by grind [pI,aEQ]
theorem jY: ∀ (w O:List Int),∃ y,w.foldl (pI cc) O=O++y
  |[],O=>⟨[],SI⟩
  | a :: w, O => by
    obtain ⟨x,hx⟩:=jY w<|pI cc O a
    obtain ⟨y,hy⟩:=aIH (cc:=cc) O a
    grind
theorem sW: ∀ (w O:List Int),∀ a∈w,0<=uL cc (w.foldl (pI cc) O) a
  | b :: w, O, a, ha => by
    rcases List.mem_cons.1 ha with rfl|ha
    . obtain ⟨y,hy⟩:=jY (cc:=cc) w<|pI cc O a
      grind [aBi,aIK]
    . exact sW w (pI cc O b) a ha
theorem wG: ∀ (w O:List Int),(∀ a∈w,0<=uL cc O a)->w.foldl (pI cc) O=O
  |[],O,_=>rfl
  | a :: w, O, h => by
    rw [List.foldl_cons,show pI cc O a=O from if_pos (h a SI)];exact wG w O λb hb=>h b<|List.mem_cons_of_mem _ hb
theorem aOJ (w:List Int): ∀ O,(w.foldl (pI cc) O).length<=O.length+w.length:=by induction w <;> grind [pI]
def qD (cc:Int->Int) (L:List Int):List Int:=L.foldl (pI cc) []
theorem zT (L R:List Int):qD cc (L++R)=R.foldl (pI cc) (qD cc L):=List.foldl_append
theorem aIJ {L : List Int} {t : Int} : 0 <= uL cc (qD cc L) t ↔ ∃ o ∈ L, cc o = cc t := by
  constructor
  . intro h
    have key: ∀ (w O:List Int),(∃ o∈w.foldl (pI cc) O,cc o=cc t)->(∃ o∈O,cc o=cc t)\/ ∃ o∈w,cc o=cc t:=by
      intro w
      induction w with
      |nil=>intro O h; exact .inl h
      | cons a w ih =>
        intro O h;rcases ih (pI cc O a) h with ⟨o,ho,e⟩|⟨o,ho,e⟩
        . grind [pI]
        grind
    rcases key L [] (yH.1 h) with ⟨o,ho,_⟩|h
    . cases ho
    . exact h
  . rintro ⟨o,ho,e⟩
    rw [<- aAw e];exact sW L [] o ho
end
def rwO (m:M) (cc:Int->Int) (O:List Int) (i:Nat):List Int:=(aA m.nx (aA O i).toNat).foldl (pI cc) O
def bfO (m:M) (cc:Int->Int):Nat->Nat->List Int->List Int
  |0,_,O=>O
  |n+1,i,O=>if i < O.length then bfO m cc n (i+1) (rwO m cc O i) else O
section
variable {m:M} {cc:Int->Int}
theorem aBj {n i:Nat} {O:List Int} (h:O.length<=i):bfO m cc n i O=O:=by cases n <;> grind [bfO]
theorem aMw {n i:Nat} {O:List Int} (h:i < O.length) (hn:i < n):bfO m cc (n - i) i O=bfO m cc (n - (i+1)) (i+1) (rwO m cc O i):=by rw [show n - i=(n - (i+1))+1 by omega,bfO,if_pos h]
theorem aBt: ∀ (n i:Nat) (O:List Int),∃ y,bfO m cc n i O=O++y
  |0,i,O=>⟨[],by simp [bfO]⟩
  | n + 1, i, O => by
    rw [bfO]; split
    . obtain ⟨x,hx⟩:=aBt n (i+1) (rwO m cc O i)
      obtain ⟨y,hy⟩:=jY (cc:=cc) (aA m.nx (aA O i).toNat) O;exact ⟨y++x,by rw [hx]; show (aA m.nx (aA O i).toNat).foldl (pI cc) O++x=_; rw [hy,List.append_assoc]⟩
    . exact ⟨[],SI⟩
theorem aF3 {n:Nat}: ∀ {w:List Int} {P:RS},RI n P->(∀ a∈w,0<=a/\a < n)->qD cc (w.foldl oT P).1=w.foldl (pI cc) (qD cc P.1)
  |[],_,_,_=>rfl
  | a :: w, P, h, hw => by
    have ha:=hw a SI;rw [List.foldl_cons,List.foldl_cons,aF3 (h.step ha.1 ha.2) λb hb=>hw b (List.mem_cons_of_mem _ hb)];congr 1;unfold oT;split
    . rename_i q
      have:=(h.mem a ha.1 ha.2).1 q;exact (if_pos<|aIJ.2 ⟨a,this,J⟩).symm
    grind [zT]
theorem aFG {L:List Int} {k:Nat} (hk:k<=L.length): ∃ y,qD cc L=qD cc (L.take k)++y:=by
  obtain ⟨y,hy⟩:=jY (cc:=cc) (L.drop k)<|qD cc<|L.take k
  grind [zT,List.take_append_drop]
theorem aHu (h : bK m = 0) (hcc : ∀ s t : Int, 0 <= s -> s < m.nx.length -> 0 <= t -> t < m.nx.length -> cc s = cc t -> ∀ a, a < m.i.toNat -> cc (kI m s a) = cc (kI m t a)) : ∀ (n k i n' : Nat) (P : RS),
    RI m.nx.length P->k<=P.1.length->m.nx.length<=k+n->m.nx.length<=i+n'->i=(qD cc<|P.1.take k).length->(∀ x,x < i-> ∀ a,a < m.i.toNat->0<=uL cc (qD cc P.1) (kI m (aA (qD cc P.1) x) a))->
    bfO m cc n' i (qD cc P.1)=qD cc (nZ m n k P).1
  | 0, k, i, n', P, hP, hk, hn, hn', hi, hcl => by
    have hPl:=hP.len
    grind [nZ,aBj]
  | n + 1, k, i, n', P, hP, hk, hn, hn', hi, hcl => by
    have hPl:=hP.len;by_cases hkl:k < P.1.length
    . rw [nZ, if_pos hkl]
      have hs:=hP.rng _<|bC hkl
      have hrow:=aEI h hs.1 hs.2;have hR:RI m.nx.length (rN m P k):=hP.row h hkl;have hf:qD cc (rN m P k).1=(aA m.nx (aA P.1 k).toNat).foldl (pI cc) (qD cc P.1):=aF3 hP hrow;obtain ⟨x,hx⟩:=oM (aA m.nx (aA P.1 k).toNat) P;have hx:(rN m P k).1=P.1++x:=hx
      have htk:(rN m P k).1.take (k+1)=P.1.take k++[aA P.1 k]:=by
        rw [hx,List.take_append_of_le_length OM,cV hkl]
      have hddk:qD cc ((rN m P k).1.take (k+1))=pI cc (qD cc<|P.1.take k) (aA P.1 k):=by rw [htk,zT]; rfl
      obtain ⟨y,hy⟩:=aFG (cc:=cc) (L:=P.1) (k:=k) OM;by_cases hnew:0<=uL cc (qD cc<|P.1.take k) (aA P.1 k)
      . -- the class came before
        obtain ⟨j,j1,j2,j3,_⟩:=aEt hnew;have hO:aA (qD cc P.1) j=aA (qD cc<|P.1.take k) j:=by rw [hy,dB j2]
        have hj:j < i:=OM
        have hsame:qD cc (rN m P k).1=qD cc P.1:=by
          rw [hf];refine wG _ _ λa ha=>?_;obtain ⟨b,hb,rfl⟩:=dZ ha;have hr:=(mQ h hs.1 hs.2).1;have h1:=hcl j hj b OM
          have hjm:aA (qD cc P.1) j∈P.1:=by
            have key: ∀ (w O:List Int),(∀ z∈O,z∈P.1)->(∀ z∈w,z∈P.1)-> ∀ z∈w.foldl (pI cc) O,z∈P.1:=by
              intro w
              induction w with
              |nil=>intro O hO _ z hz; exact hO z hz
              | cons a w ih =>
                intro O hO hw z hz;refine ih (pI cc O a) (λz hz=>?_) (λz hz=>hw z<|List.mem_cons_of_mem _ hz) z hz;unfold pI at hz;split at hz
                . exact hO z hz
                . rcases List.mem_append.1 hz with hz|hz
                  . exact hO z hz
                  . rw [List.mem_singleton.1 hz]; exact hw a SI
            exact key P.1 [] (λz hz=>by cases hz) (λz hz=>hz) _<|bC (l:=qD cc P.1) (by rw [hy,List.length_append]; omega)
          have hjr:=hP.rng _ hjm;have e:=hcc _ _ hjr.1 hjr.2 hs.1 hs.2 (by rw [hO]; exact j3) b OM;rw [aAw (show cc (aA (aA m.nx (aA P.1 k).toNat) b)=cc (kI m (aA (qD cc P.1) j) b) from e.symm)];exact h1
        rw [<- hsame];refine aHu h hcc n (k+1) i n' (rN m P k) hR ?_ OM hn' ?_ ?_
        . rw [hx,List.length_append]; omega
        . rw [hddk,show pI cc (qD cc<|P.1.take k) (aA P.1 k)=qD cc (P.1.take k) from if_pos hnew]; exact hi
        . rw [hsame]; exact hcl
      . have hst:pI cc (qD cc<|P.1.take k) (aA P.1 k)=qD cc (P.1.take k)++[aA P.1 k]:=if_neg hnew
        have hkk:qD cc (P.1.take<|k+1)=qD cc (P.1.take k)++[aA P.1 k]:=by rw [cV hkl,zT]; exact hst
        obtain ⟨z,hz⟩:=aFG (cc:=cc) (L:=P.1) (k:=k+1) OM;have hil:i < (qD cc P.1).length:=by rw [hz,hkk]; simp; omega
        have hOi:aA (qD cc P.1) i=aA P.1 k:=by
          rw [hz,hkk,dB (by simp; omega),hi];have:=iC (l:=qD cc<|P.1.take k) (m:=[aA P.1 k]) (j:=0);rw [Nat.add_zero] at this;rw [this]; rfl
        have hlen:(qD cc P.1).length<=P.1.length:=by have:=aOJ (cc:=cc) P.1 []; simp only [List.length_nil,Nat.zero_add] at this; exact this
        obtain ⟨n',rfl⟩: ∃ z,n'=z+1:=⟨n' - 1,OM⟩;rw [bfO,if_pos hil];have hrw:rwO m cc (qD cc P.1) i=qD cc (rN m P k).1:=by rw [hf]; unfold rwO; rw [hOi]
        rw [hrw];refine aHu h hcc n (k+1) (i+1) n' (rN m P k) hR ?_ OM OM ?_ ?_
        . rw [hx,List.length_append]; omega
        . rw [hddk,hst]; simp; omega
        . intro x0 hx0 a ha
          rw [hf];obtain ⟨u,hu⟩:=jY (cc:=cc) (aA m.nx (aA P.1 k).toNat)<|qD cc P.1
          by_cases e:x0 < i
          . have h1:=hcl x0 e a ha
            rw [hu,dB OM,aBi h1]; exact h1
          . have e:x0=i:=OM
            subst e;have hr:=(mQ h hs.1 hs.2).1;have hmem:kI m (aA P.1 k) a∈aA m.nx (aA P.1 k).toNat:=bC OM;have h2:=sW (cc:=cc) _ (qD cc P.1) _ hmem;rw [hu] at h2 ⊢;rw [dB hil,hOi]; exact h2
    . have hkk:k=P.1.length:=OM
      have hE:(nZ m (n+1) k P)=P:=aJX OM;rw [hE];exact aBj (by rw [hi,hkk,List.take_length]; exact Nat.le_refl _)
end
end
section
open Go
def kG (m:M) (t:Int):Int:=aA (qW m m.nx.length) t.toNat
def cRc (m:M) (k:Nat):List Int:=[kG m (aA (rch m) k)]
def FK (m:M) (j:Nat):List Nat:=(List.range j).filter λk=>decide (pD (cRc m) k=k)
def wJ (m:M):List Int:=qD (kG m) (rch m)
def aNz (m:M) (k:Nat):List Int:=eI (λa=>rA (cRc m) (wY m k a).toNat) m.i.toNat
def mnM (m:M):M:=⟨m.i,0,(FK m (rch m).length).map (aNz m),(FK m (rch m).length).map (tOt m)⟩
def jQ (m:M):M:=if bK m=0 then mnM m else zM
section
variable {m:M}
theorem aJk (h:bK m=0) {s t:Int} (hs:0<=s/\s < m.nx.length) (ht:0<=t/\t < m.nx.length):kG m s=kG m t↔eqv m s t:=by
  have:=aAs h m.nx.length (s:=s.toNat) (t:=t.toNat) OM OM
  rwa [Int.toNat_of_nonneg hs.1,Int.toNat_of_nonneg ht.1] at this
theorem aL6 (h:bK m=0) (s t:Int) (s0:0<=s) (s1:s < m.nx.length) (t0:0<=t) (t1:t < m.nx.length) (e:kG m s=kG m t) (a:Nat) (ha:a < m.i.toNat):kG m (kI m s a)=kG m (kI m t a):=by grind [nX,aJk,aGr]
theorem aE5 (j:Nat):FK m (j+1)=if pD (cRc m) j=j then FK m j++[j] else FK m j:=by grind [FK,List.range_succ]
theorem aEO: ∀ j,(FK m j).length=nM (cRc m) j
  |0=>rfl
  | j + 1 => by
    rw [aE5,nM];split
    . rw [List.length_append,aEO j]; rfl
    . exact aEO j
theorem aNg {j k:Nat}:k∈FK m j↔k < j/\pD (cRc m) k=k:=by unfold FK; simp
theorem aQf: ∀ {j k:Nat},k < j->pD (cRc m) k=k->nM (cRc m) k < (FK m j).length/\aA (FK m j) (nM (cRc m) k)=k
  |0,k,h,_=>by omega
  | j + 1, k, h, e => by
    rw [aE5];by_cases q:k=j
    . subst q
      rw [if_pos e,<- aEO k];refine ⟨SI,?_⟩;have:=iC (l:=FK m k) (m:=[k]) (j:=0);rw [Nat.add_zero] at this;rw [this]; rfl
    . obtain ⟨h1,h2⟩:=aQf (j:=j) OM e
      grind [dB]
theorem aPU : ∀ {j : Nat}, j <= (rch m).length -> qD (kG m) ((rch m).take j) = (FK m j).map (aA (rch m))
  |0,_=>rfl
  | j + 1, hj => by
    have ih:=aPU (j:=j) OM;rw [cV OM,zT];show pI (kG m) (qD (kG m)<|(rch m).take j) (aA (rch m) j)=_
    have key:(0<=uL (kG m) (qD (kG m)<|(rch m).take j) (aA (rch m) j))↔pD (cRc m) j≠j:=by
      rw [aIJ];obtain ⟨l1,l2,l3⟩:=gY (cRc m) j;constructor
      . rintro ⟨o,ho,e⟩ q
        obtain ⟨x,hx,rfl⟩:=dZ ho;rw [List.length_take] at hx;have hx:x < j:=OM
        refine l3 x OM ?_;unfold cRc;rw [<- bL (by grind),List.getElem_take,bL] at e;rw [e]
      . intro q
        refine ⟨aA (rch m) (pD (cRc m) j),?_,(List.cons.inj l2).1⟩;have:=bC (l:=(rch m).take j) (j:=pD (cRc m) j) (by grind)
        rwa [<- bL (by grind),List.getElem_take,bL] at this
    grind [aE5,pI]
theorem aCv:wJ m=(FK m (rch m).length).map (aA (rch m)):=by grind [wJ,aPU,List.take_length]
theorem aJQ:(wJ m).length=nM (cRc m) (rch m).length:=by grind [aCv,aEO]
theorem aQ7 {y:Nat} (hy:y < (rch m).length):uL (kG m) (wJ m) (aA (rch m) y)=rA (cRc m) y:=by
  obtain ⟨l1,l2,l3⟩:=gY (cRc m) y;obtain ⟨h1,h2⟩:=aQf (m:=m) (j:=(rch m).length) (k:=pD (cRc m) y) OM aAa;unfold rA;rw [aCv];refine aG8 (by grind) (by rw [lO h1,h2]; exact (List.cons.inj l2).1) λi hi e=>?_;rw [lO OM] at e;have hm:=aNg.1<|bC (l:=FK m (rch m).length) (j:=i) OM
  -- an earlier place holds an earlier first one
  grind [aA,FK,cRc,vG,List.filter_sublist,List.nodup_range,List.pairwise_iff_getElem]
theorem vB (h:bK m=0):bfO m (kG m) m.nx.length 0 [m.s]=wJ m:=by
  have e:rch m=(nZ m m.nx.length 0<|wT m).1:=if_neg OM;have e0:qD (kG m) (wT m).1=[m.s]:=J;have:=aHu (cc:=kG m) h (λs t s0 s1 t0 t1 e a ha=>aL6 h s t s0 s1 t0 t1 e a ha) m.nx.length 0 0 m.nx.length (wT m) (aHQ h) (Nat.zero_le _) OM OM J (λx hx=>absurd hx<|Nat.not_lt_zero _)
  grind [wJ]
def vW (m:M) (x a:Nat):Int:=uL (kG m) (wJ m) (kI m (aA (wJ m) x) a)
def rNx (m:M) (x:Nat):List Int:=eI (vW m x) m.i.toNat
def xL (m:M) (x a:Nat):Int:=yB m (aA (wJ m) x) a
def rOt (m:M) (x:Nat):List Int:=eI (xL m x) m.i.toNat
theorem aNh {x:Nat} (hx:x < (wJ m).length):aA (FK m (rch m).length) x < (rch m).length/\aA (wJ m) x=aA (rch m) (aA (FK m (rch m).length) x):=by grind [aCv,aNg,bC,lO]
theorem aQE (h:bK m=0):eI (rNx m) (wJ m).length=(FK m (rch m).length).map (aNz m):=by
  have hl:(wJ m).length=(FK m (rch m).length).length:=by grind [aCv]
  have hc:=qT h;refine fU (by grind [bS]) λx hx=>?_;rw [bS] at hx;obtain ⟨h1,h2⟩:=aNh hx;rw [eG hx,lO OM];unfold rNx aNz;rw [aBf];intro a ha;unfold vW;rw [h2];have hr:=hc.rng _ h1;have hrow:=(mQ h hr.1 hr.2).1;have hin:=hc.clo _ h1 _<|bC (l:=aA m.nx (aA (rch m)<|aA (FK m (rch m).length) x).toNat) (j:=a) OM
  obtain ⟨q1,q2,q3⟩:=aEq hin
  grind [kI,wY,aQ7]
theorem aRt (h:bK m=0):eI (rOt m) (wJ m).length=(FK m (rch m).length).map (tOt m):=by
  have hl:(wJ m).length=(FK m (rch m).length).length:=by grind [aCv]
  refine fU (by grind [bS]) λx hx=>?_;rw [bS] at hx;obtain ⟨h1,h2⟩:=aNh hx;rw [eG hx,lO OM];unfold rOt tOt;rw [aBf];intro a ha;unfold xL;rw [h2]; rfl
theorem vI (h:bK m=0):mnM m=⟨m.i,0,eI (rNx m) (wJ m).length,eI (rOt m) (wJ m).length⟩:=by rw [aQE h,aRt h]; rfl
theorem aOn:(trm m).nx.length=(rch m).length:=List.length_map ..
theorem aOG (h:bK m=0) {k a:Nat} (hk:k < (rch m).length) (ha:a < m.i.toNat):kI (trm m) (k:Int) a=wY m k a/\(wY m k a).toNat < (rch m).length/\0<=wY m k a/\aA (rch m) (wY m k a).toNat=kI m (aA (rch m) k) a:=by
  have hc:=qT h;have hr:=hc.rng _ hk;have hrow:=(mQ h hr.1 hr.2).1;have hin:=hc.clo _ hk _<|bC (l:=aA m.nx (aA (rch m) k).toNat) (j:=a) OM
  obtain ⟨q1,q2,q3⟩:=aEq hin;exact ⟨aQA hk (show a < (aA m.nx (aA (rch m) k).toNat).length by omega),by show (idL _ _).toNat < _; omega,q1,q3⟩
end
end
section
open Go
end
section
open Go
theorem aSE {m:M}:qW m 0=List.replicate m.nx.length 0:=by
  show eI (λ_=>(0:Int)) m.nx.length=_;unfold eI;rw [List.map_const',List.length_range]
def kC (m:M):List Int:=if bK m=0 then qW m m.nx.length else []
def FnQ (f:Nat->List Int) (k i:Nat) (q:Int):Prop:=(q= -1/\ ∀ t,i<=t->t < k->f t≠f k)\/(q=rA f k/\ ∃ t,t < k/\f t=f k)
theorem aRT {f:Nat->List Int} {k:Nat}:FnQ f k k (-1):=.inl ⟨J,λt h1 h2=>by omega⟩
theorem FnQ.yes {f:Nat->List Int} {k i:Nat} {q:Int} (_:FnQ f k i q) (h:f (i - 1)=f k) (hi:1<=i/\i<=k):FnQ f k (i - 1) (rA f (i - 1)):=.inr ⟨aED.2 h,i - 1,OM,h⟩
theorem FnQ.no {f:Nat->List Int} {k i:Nat} {q:Int} (hq:FnQ f k i q) (h:f (i - 1)≠f k) (hi:1<=i/\i<=k):FnQ f k (i - 1) q:=by
  rcases hq with ⟨a,b⟩|⟨a,b⟩
  . refine .inl ⟨a,λt h1 h2=>?_⟩
    by_cases e:t=i - 1
    . rw [e]; exact h
    . exact b t OM h2
  . exact .inr ⟨a,b⟩
theorem FnQ.new {f:Nat->List Int} {k:Nat} {q:Int} (hq:FnQ f k 0 q) (h:q < 0):pD f k=k/\rA f k=((nM f k:Nat):Int):=by
  have e:pD f k=k:=by
    obtain ⟨l1,l2,_⟩:=gY f k;rcases hq with ⟨_,b⟩|⟨a,_⟩
    . refine Classical.byContradiction λz=>b (pD f k) (Nat.zero_le _) OM l2
    . have:=(aM9 (f:=f) (show k < k+1 by omega)).1
      omega
  exact ⟨e,aJ4 e⟩
theorem FnQ.old {f:Nat->List Int} {k:Nat} {q:Int} (hq:FnQ f k 0 q) (h: ¬q < 0):pD f k≠k/\q=rA f k:=by
  rcases hq with ⟨a,_⟩|⟨a,t,ht,e⟩
  . omega
  . refine ⟨λz=>?_,a⟩
    obtain ⟨_,_,l3⟩:=gY f k;exact l3 t OM e
def FnB (m:M) (c:List Int) (k t j:Nat) (b:Bool):Prop:=b=true↔aA c k=aA c t/\ ∀ a,a < j->yB m k a=yB m t a/\aA c (kI m k a).toNat=aA c (kI m t a).toNat
theorem aPQ {m:M} {c:List Int} {k t:Nat}:FnB m c k t 0 (decide (aA c k=aA c t)):=by
  unfold FnB;rw [decide_eq_true_eq];exact ⟨λh=>⟨h,λa ha=>by omega⟩,λh=>h.1⟩
theorem FnB.go {m:M} {c:List Int} {k t j:Nat} {b:Bool} (hb:FnB m c k t j b) (h:b=true) {b':Bool} (h':b'=true↔yB m k j=yB m t j/\aA c (kI m k j).toNat=aA c (kI m t j).toNat):FnB m c k t (j+1) b':=by
  unfold FnB at hb ⊢;obtain ⟨h1,h2⟩:=hb.1 h;rw [h'];constructor
  . intro z
    refine ⟨h1,λa ha=>?_⟩;by_cases e:a=j
    . subst e; exact z
    . exact h2 a OM
  . intro z; exact z.2 j OM
theorem FnB.fin {m:M} {c:List Int} {k t j:Nat} {b:Bool} (hb:FnB m c k t j b) (h:m.i.toNat<=j\/b=false) (hj:j<=m.i.toNat):b=true↔qX m c t=qX m c k:=by
  unfold FnB at hb;rw [hb];unfold qX;rw [List.cons.injEq,aLw];constructor
  . intro z
    rcases h with h|h
    . exact ⟨z.1.symm,λa ha=>by obtain ⟨p,q⟩:=z.2 a OM; exact ⟨p.symm,q.symm⟩⟩
    . exact absurd (hb.2 z) (by rw [h]; decide)
  . intro z
    exact ⟨z.1.symm,λa ha=>by obtain ⟨p,q⟩:=z.2 a OM; exact ⟨p.symm,q.symm⟩⟩
theorem aO8 {f:Nat->List Int} {k:Nat} (e:pD f k=k):iV ((nM f k+1:Nat):Int)=iV ((nM f (k+1):Nat):Int):=by rw [nM,if_pos e]
theorem aPo {f:Nat->List Int} {k:Nat} (e:pD f k≠k):iV ((nM f k:Nat):Int)=iV ((nM f (k+1):Nat):Int):=by rw [nM,if_neg e]; rfl
end
section
open Go Go.Proofs
theorem aHk (m:M) (c:List Int) (hm:bK m=0) (hc:c.length=m.nx.length) (hr: ∀ s,s < c.length->0<=aA c s):bJ Tryz.prog 179 [(V.agg [(iV m.i),(iV m.s),(aC m.nx),(aC m.ot)]),(aD c)] (aD (eI (rA (qX m c)) c.length)):=by
 refine' pK [5] [] Tryz.func179 ?e λhB=>?_
 case e=>conv=>lhs; cbv
 dsimp only;have mo:=cY hm;refine aU<|cJ (i:=2) (n:=0) (m:=4) (cs:=[(iV m.i),(iV m.s),(aC m.nx),(aC m.ot)]) J (cM J) J J J<|aE<|aU<|iD (i:=5) (n:=0) J (cM J)<|R_r<|aE<|aO<|aE (aF λQ1 n1 x1 y1 z1=>?_)
 refine cF (λmm T H=> ∃ (k:Nat) (v:Nat),mm=c.length - k/\T 1=(aD c)/\T 2=(cR 2)/\T 5=(V.ms 5 v 0 k)/\T 6=(iV (((nM (qX m c) k):Nat):Int))/\T 7=(iV ((k:Nat):Int))/\H 2=(jV m)/\H 5=(bz v 3 1<|List.map cI<|eI (rA<|qX m c) k)/\(k<=c.length)) ?_ ?_
 . 
  refine ⟨_,0,1,J,J,J,J,(bG (aM<|iV 0) JR),(bG (aM<|iV 0) J),J,(bG (@J Blk<|bz 1 3 1 []) JR),?_⟩
  . exact Nat.zero_le _
 intro mm T H ⟨k,v,hmm,t1,t2,t5,t6,t7,h2,h5,hk⟩ Q2 p12 p22 p32;refine aO<|aI t7<|aI t1<|bA J<|bY J J<|cE ?_
 refine aG J (λc3=>?_) λc3=>?_
 . 
  have rk:=mo.2.2.2.2.2.2.2 k OM;have cl:=aAy (f:=(qX m c)) k;refine aB (aF λQ4 n4 x4 y4 z4=>(aU<|aE<|aO<|aI t7<|lS J J OM OM<|aE (aF λQ5 n5 x5 y5 z5=>?_)));refine cF (λmm T H=> ∃ (i:Nat) (q:Int),mm=i/\T 1=(aD c)/\T 2=(cR 2)/\T 5=(V.ms 5 v 0 k)/\T 6=(iV (((nM (qX m c) k):Nat):Int))/\T 7=(iV ((k:Nat):Int))/\T 8=(iV q)/\T 9=(iV<|((i:Nat):Int) - 1)/\H 2=(jV m)/\H 5=(bz v 3 1<|List.map cI<|eI (rA<|qX m c) k)/\(i<=k)/\(FnQ (qX m c) k i q)) ?_ ?_
  . 
   refine ⟨_,k,(-1),J,t1,t2,t5,t6,t7,(bG (aM<|iV (-1)) JR),(bG (aM<|iV<|((k:Nat):Int) - (1:Int)) JR),h2,h5,?_,?_⟩
   . exact Nat.le_refl _
   . exact aRT
  intro mm T H ⟨i,q,hmm,t1,t2,t5,t6,t7,t8,t9,h2,h5,hi,hq⟩ Q6 p16 p26 p36;refine aO<|aI t9<|jB J J<|cE ?_
  refine aG J (λc7=>?_) λc7=>?_
  . 
   have ei:(((i:Nat):Int) - 1).toNat=i - 1:=OM
   have ri:=mo.2.2.2.2.2.2.2 (((i:Nat):Int) - 1).toNat OM;refine aB (aF λQ8 n8 x8 y8 z8=>(aU<|aI t1<|aI t7<|dL (i:=k) (aM<|aD c) (cS k)<|aJ J J<|aI t1<|aI t9<|dQ (i:=(((i:Nat):Int) - 1)) (aM<|aD c) (aM<|iV<|((i:Nat):Int) - 1) OM OM J<|aJ J J<|fP J J<|aE<|aO ?_));refine aE (aF λQ9 n9 x9 y9 z9=>?_);refine cF (λmm T H=> ∃ (j:Nat) (b:Bool),mm=m.i.toNat - j/\T 1=(aD c)/\T 2=(cR 2)/\T 5=(V.ms 5 v 0 k)/\T 6=(iV (((nM (qX m c) k):Nat):Int))/\T 7=(iV ((k:Nat):Int))/\T 8=(iV q)/\T 9=(iV<|((i:Nat):Int) - 1)/\T 10=(V.bool b)/\T 11=(iV ((j:Nat):Int))/\H 2=(jV m)/\H 5=(bz v 3 1<|List.map cI<|eI (rA<|qX m c) k)/\(j<=m.i.toNat)/\(FnB m c k (((i:Nat):Int) - 1).toNat j b)) ?_ ?_
   . 
    refine ⟨_,0,(decide ((aA c k)=(aA c (((i:Nat):Int) - 1).toNat))),J,t1,t2,t5,t6,t7,t8,t9,(bG (aM<|V.bool<|decide ((aA c k)=(aA c (((i:Nat):Int) - 1).toNat))) JR),(bG (aM<|iV 0) J),h2,h5,?_,?_⟩
    . exact Nat.zero_le _
    . first|exact aPQ|exact aPQ
   intro mm T H ⟨j,b,hmm,t1,t2,t5,t6,t7,t8,t9,t10,t11,h2,h5,hj,hb⟩ Q10 p110 p210 p310;refine aO<|aI t11<|aZ t2 h2 J J<|bY J J<|aP ?_
   refine bN 2 (λT H=>T 1=(aD c)/\T 2=(cR 2)/\T 5=(V.ms 5 v 0 k)/\T 6=(iV (((nM (qX m c) k):Nat):Int))/\T 7=(iV ((k:Nat):Int))/\T 8=(iV q)/\T 9=(iV<|((i:Nat):Int) - 1)/\T 10=(V.bool b)/\T 11=(iV ((j:Nat):Int))/\T 39=(V.bool<|decide (((j:Nat):Int) < m.i)&&b)/\H 2=(jV m)/\H 5=(bz v 3 1<|List.map cI<|eI (rA<|qX m c) k)/\True) ?_ ?_
   . 
    by_cases g11:((j:Nat):Int) < m.i
    . 
     refine aK (bU g11 J)<|aI t10<|bP (bU g11 J) J ?_
     exact ⟨t1,t2,t5,t6,t7,t8,t9,t10,t11,(aFq g11),h2,h5,trivial⟩
    . 
     refine bQ (bV g11 J)<|bO (bV g11 J) J ?_
     exact ⟨t1,t2,t5,t6,t7,t8,t9,t10,t11,(aEM g11),h2,h5,trivial⟩
   intro T H ⟨t1,t2,t5,t6,t7,t8,t9,t10,t11,t39,h2,h5,_⟩;refine cE ?_;refine dW t39 (λc12=>?_) (λc12=>?_)
   . 
    have c20:((j:Nat):Int) < m.i/\b=true:=by have z:=c12; simpa using z
    obtain ⟨c21,c22⟩:=c20;have rj:=rk.2.2 j c21;have rj2:=ri.2.2 j c21;refine aB (aF λQ13 n13 x13 y13 z13=>?_);refine tR (λT H=>T 1=(aD c)/\T 2=(cR 2)/\T 5=(V.ms 5 v 0 k)/\T 6=(iV (((nM (qX m c) k):Nat):Int))/\T 7=(iV ((k:Nat):Int))/\T 8=(iV q)/\T 9=(iV<|((i:Nat):Int) - 1)/\T 10=(V.bool<|decide (((aA (aA m.ot k) j)=(aA (aA m.ot (((i:Nat):Int) - 1).toNat) j))/\((aA c (aA (aA m.nx k) j).toNat)=(aA c (aA (aA m.nx (((i:Nat):Int) - 1).toNat) j).toNat))))/\T 11=(iV ((j:Nat):Int))/\H 2=(jV m)/\H 5=(bz v 3 1<|List.map cI<|eI (rA<|qX m c) k)/\True) ?_ ?_
    . 
     refine aZ t2 h2 J J<|aI t7<|dL (i:=k) (aM<|aC m.ot) (cS k)<|aJ J J<|aI t11<|dL (i:=j) (aM<|aD<|aA m.ot k) (cS j)<|aJ J J<|aZ t2 h2 J J<|aI t9<|dQ (i:=(((i:Nat):Int) - 1)) (aM<|aC m.ot) (aM<|iV<|((i:Nat):Int) - 1) OM OM J<|aJ J J<|aI t11<|dL (i:=j) (aM<|aD<|aA m.ot (((i:Nat):Int) - 1).toNat) (cS j)<|aJ J J ?_
     refine fP J J<|aP ?_
     refine bN 24 (λT H=>T 1=(aD c)/\T 2=(cR 2)/\T 5=(V.ms 5 v 0 k)/\T 6=(iV (((nM (qX m c) k):Nat):Int))/\T 7=(iV ((k:Nat):Int))/\T 8=(iV q)/\T 9=(iV<|((i:Nat):Int) - 1)/\T 10=(V.bool b)/\T 11=(iV ((j:Nat):Int))/\T 83=(V.bool<|decide (((aA (aA m.ot k) j)=(aA (aA m.ot (((i:Nat):Int) - 1).toNat) j))/\((aA c (aA (aA m.nx k) j).toNat)=(aA c (aA (aA m.nx (((i:Nat):Int) - 1).toNat) j).toNat))))/\H 2=(jV m)/\H 5=(bz v 3 1<|List.map cI<|eI (rA<|qX m c) k)/\True) ?_ ?_
     . 
      by_cases g14:(aA (aA m.ot k) j)=(aA (aA m.ot (((i:Nat):Int) - 1).toNat) j)
      . 
       refine aK (bU g14 J)<|aI t1<|aK (bU g14 J)<|cQ t2 h2<|aK (bU g14 J)<|bB J h2 J J<|aK (bU g14 J)<|aI t7<|aK (bU g14 J)<|dL (i:=k) (aM<|aC m.nx) (cS k)<|aK (bU g14 J)<|aJ J J<|aK (bU g14 J)<|aI t11<|aK (bU g14 J)<|dL (i:=j) (aM<|aD<|aA m.nx k) (cS j) ?_
       refine aK (bU g14 J)<|aJ J J<|aK (bU g14 J)<|dQ (i:=(aA (aA m.nx k) j)) (aM<|aD c) (aM<|iV<|aA (aA m.nx k) j) OM OM J<|aK (bU g14 J)<|aJ J J<|aK (bU g14 J)<|aI t1<|aK (bU g14 J)<|cQ t2 h2<|aK (bU g14 J)<|bB J h2 J J<|aK (bU g14 J)<|aI t9<|aK (bU g14 J)<|dQ (i:=(((i:Nat):Int) - 1)) (aM<|aC m.nx) (aM<|iV<|((i:Nat):Int) - 1) OM OM J ?_
       refine aK (bU g14 J)<|aJ J J<|aK (bU g14 J)<|aI t11<|aK (bU g14 J)<|dL (i:=j) (aM<|aD<|aA m.nx (((i:Nat):Int) - 1).toNat) (cS j)<|aK (bU g14 J)<|aJ J J<|aK (bU g14 J)<|dQ (i:=(aA (aA m.nx (((i:Nat):Int) - 1).toNat) j)) (aM<|aD c) (aM<|iV<|aA (aA m.nx (((i:Nat):Int) - 1).toNat) j) OM OM J<|aK (bU g14 J)<|aJ J J<|aK (bU g14 J)<|fP J J<|bP (bU g14 J) J ?_
       exact ⟨t1,t2,t5,t6,t7,t8,t9,t10,t11,(eY g14),h2,h5,trivial⟩
      . 
       refine bQ (bV g14 J)<|bQ (bV g14 J)<|bQ (bV g14 J)<|bQ (bV g14 J)<|bQ (bV g14 J)<|bQ (bV g14 J)<|bQ (bV g14 J)<|bQ (bV g14 J)<|bQ (bV g14 J)<|bQ (bV g14 J)<|bQ (bV g14 J)<|bQ (bV g14 J)<|bQ (bV g14 J)<|bQ (bV g14 J)<|bQ (bV g14 J)<|bQ (bV g14 J) ?_
       refine bQ (bV g14 J)<|bQ (bV g14 J)<|bQ (bV g14 J)<|bQ (bV g14 J)<|bQ (bV g14 J)<|bQ (bV g14 J)<|bQ (bV g14 J)<|bO (bV g14 J) J ?_
       exact ⟨t1,t2,t5,t6,t7,t8,t9,t10,t11,(eX g14),h2,h5,trivial⟩
     intro T H ⟨t1,t2,t5,t6,t7,t8,t9,t10,t11,t83,h2,h5,_⟩;refine aI t83 ?_;exact gD ⟨t1,t2,t5,t6,t7,t8,t9,J,t11,h2,h5,trivial⟩
    intro T H ⟨t1,t2,t5,t6,t7,t8,t9,t10,t11,h2,h5,_⟩;refine n13 _ _ (.done (fO<|aI t11<|cD J<|aE ?_));refine p110 _ _ _ ?_ ⟨(j+1),(decide (((aA (aA m.ot k) j)=(aA (aA m.ot (((i:Nat):Int) - 1).toNat) j))/\((aA c (aA (aA m.nx k) j).toNat)=(aA c (aA (aA m.nx (((i:Nat):Int) - 1).toNat) j).toNat)))),J,t1,t2,t5,t6,t7,t8,t9,(bG t10 JR),(bG (cS<|j+1) JR),h2,h5,?_,?_⟩
    . omega
    . omega
    . exact hb.go c22 decide_eq_true_iff
   have c20:m.i.toNat<=j\/b=false:=by
     by_cases z:((j:Nat):Int) < m.i
     . right; have y:=c12; simpa [z] using y
     . left; omega
   have d7:=hb.fin c20 hj;refine aS<|p310 _ _ _<|x9 _ _ (.done (aU<|aI t10<|cE ?_))
   refine pS J (λc15=>?_) (λc15=>?_)
   . 
    have d5:=d7.1 c15;refine fO<|aI t5<|aI t9<|dS (i:=(((i:Nat):Int) - 1)) (aM<|V.ms 5 v 0 k) (aM<|iV<|((i:Nat):Int) - 1) h5 (fJ (by (rw [bS]; omega))) J OM OM<|cG (v:=(iV<|aA (eI (rA<|qX m c) k)<|(((i:Nat):Int) - 1).toNat)) J h5 (dU (by (rw [bS]; omega)) JR)<|aE<|n8 _ _ (.done (fO<|aI t9<|lS J J OM OM<|aE ?_))
    refine p16 _ _ _ ?_ ⟨(i - 1),(aA (eI (rA<|qX m c) k)<|(((i:Nat):Int) - 1).toNat),J,t1,t2,t5,t6,t7,(bG (aM<|iV<|aA (eI (rA<|qX m c) k)<|(((i:Nat):Int) - 1).toNat) JR),(bG (aM<|iV<|(((i:Nat):Int) - 1) - (1:Int)) (by exact congrArg iV OM)),h2,h5,?_,?_⟩
    . omega
    . omega
    . first|(rw [eG OM,ei]; exact hq.yes (ei ▸ d5) OM)|exact hq.no (ei ▸ d5) OM
   have d5: ¬qX m c (((i:Nat):Int) - 1).toNat=qX m c k:=λe=>by have z:=d7.2 e; rw [c15] at z; cases z
   refine dH<|n8 _ _ (.done (fO<|aI t9<|lS J J OM OM<|aE ?_))
   refine p16 _ _ _ ?_ ⟨(i - 1),q,J,t1,t2,t5,t6,t7,(bG t8 JR),(bG (aM<|iV<|(((i:Nat):Int) - 1) - (1:Int)) (by exact congrArg iV OM)),h2,h5,?_,?_⟩
   . omega
   . omega
   . first|(rw [eG OM,ei]; exact hq.yes (ei ▸ d5) OM)|exact hq.no (ei ▸ d5) OM
  refine aS<|p36 _ _ _<|x5 _ _ (.done (aO<|aI t8<|bY J J<|cE ?_))
  refine aG J (λc16=>?_) λc16=>?_
  . 
   obtain ⟨e1,e2⟩:pD (qX m c) k=k/\rA (qX m c) k=((nM (qX m c) k:Nat):Int):=by
     have z:i=0:=OM
     subst z; exact hq.new c16
   refine aO<|aI t6<|aE<|aU<|aI t6<|cD J<|aE<|fO<|aI t5<|aP<|aY J J<|gF (l:=(eI (rA<|qX m c) k)) (f:=cI) (x:=(((nM (qX m c) k):Nat):Int)) (aM<|V.ms 5 v 0 k) h5 (by exact (bS _ _).symm) (aM<|V.sl [[(iV (((nM (qX m c) k):Nat):Int))]])<|aP ?_
   refine cE<|n4 _ _ (.done (fO<|aI t7<|cD J<|aE ?_))
   refine p12 _ _ _ ?_ ⟨(k+1),(v+1),J,t1,t2,(bG (aM<|V.ms 5 (v+1) 0<|k+1) JR),(bG (cS<|(nM (qX m c) k)+1) (by exact aO8 e1)),(bG (cS<|k+1) JR),h2,(bG (@J Blk<|bz (v+1) 3 1<|List.map cI<|eI (rA<|qX m c) k++[(((nM (qX m c) k):Nat):Int)]) (by (rw [fK,e2]; done))),?_⟩
   . omega
   . omega
  obtain ⟨e1,e2⟩:pD (qX m c) k≠k/\rA (qX m c) k=q:=by
    have z:i=0:=OM
    subst z; exact ⟨(hq.old c16).1,(hq.old c16).2.symm⟩
  refine aB<|fO<|aI t5<|aI t8<|aY J J<|gF (l:=(eI (rA<|qX m c) k)) (f:=cI) (x:=q) (aM<|V.ms 5 v 0 k) h5 (by exact (bS _ _).symm) (aM<|V.sl [[(iV q)]])<|aE<|n4 _ _ (.done (fO<|aI t7<|cD J<|aE ?_))
  refine p12 _ _ _ ?_ ⟨(k+1),(v+1),J,t1,t2,(bG (aM<|V.ms 5 (v+1) 0<|k+1) JR),(bG t6 (by exact aPo e1)),(bG (cS<|k+1) JR),h2,(bG (@J Blk<|bz (v+1) 3 1<|List.map cI<|eI (rA<|qX m c) k++[q]) (by (rw [fK,e2]; done))),?_⟩
  . omega
  . omega
 refine aS<|p32 _ _ _<|x1 _ _ (.done (aU<|aI t5<|aE<|bE ?_))
 refine aW (aM<|V.ms 5 v 0 k)<|mI h5 SI (l:=(eI (rA<|qX m c) k)) J (by exact (bS _ _).symm) (λ_=>by simp) ?_
 . rw [show k=c.length by omega]
end
section
open Go
theorem aPL {m:M}: ∀ (k:Nat) {s:Nat},s < m.nx.length->0<=aA (qW m k) s/\aA (qW m k) s < m.nx.length
  | 0, s, hs => by
    grind [qW,eG]
  | k + 1, s, hs => by
    unfold qW;rw [eG hs];have h1:=aM9 (f:=aEC m<|qW m k) hs;have h2:=aAy (f:=aEC m<|qW m k) m.nx.length;omega
theorem aQJ {m:M} (h:bK m=0) (k:Nat):eI (rA (qX m (qW m k))) (qW m k).length=qW m (k+1):=by grind [aFf,aQN]
def NmI (m:M) (O N:List Int):Prop:=N.length=m.nx.length/\ ∀ t:Int,0<=t->t < m.nx.length->aA N (aA (kC m) t.toNat).toNat=uL (kG m) O t
section
variable {m:M} {O N:List Int}
theorem aHZ (h:bK m=0) (t:Int):aA (kC m) t.toNat=kG m t:=by grind [kC,kG]
theorem vS (h:bK m=0) {t:Int} (h0:0<=t) (h1:t < m.nx.length):0<=aA (kC m) t.toNat/\aA (kC m) t.toNat < m.nx.length:=by
  rw [aHZ h];exact aPL _ OM
theorem aO6 (h:bK m=0):(kC m).length=m.nx.length:=by grind [kC,aFf]
theorem aJ8 {cc:Int->Int} {t u:Int} (h:cc t≠cc u):uL cc (O++[t]) u=uL cc O u:=by
  by_cases q:0<=uL cc O u
  . exact aBi q
  simp_all [aRr,yH]
theorem aJS (hm:bK m=0) (h:NmI m O N) {t:Int} (h0:0<=t) (h1:t < m.nx.length) (hn: ¬0<=uL (kG m) O t):NmI m (O++[t]) (N.set (aA (kC m) t.toNat).toNat ((O.length:Nat):Int)):=by
  obtain ⟨hl,hv⟩:=h;have rt:=vS hm h0 h1;refine ⟨by rw [List.length_set]; exact hl,λu u0 u1=>?_⟩;have ru:=vS hm u0 u1;rw [sQ OM];by_cases e:kG m t=kG m u
  . rw [if_pos (by grind [aHZ]),<- aAw e,aEQ hn]
  grind [aJ8,aHZ]
theorem aSK (hm:bK m=0):NmI m [m.s] ((List.replicate m.nx.length (-1:Int)).set (aA (kC m) m.s.toNat).toNat 0):=by
  have mo:=cY hm
  have h:NmI m [] (List.replicate m.nx.length (-1)):=by
    refine ⟨List.length_replicate ..,λt t0 t1=>?_⟩;have rt:=vS hm t0 t1;have hx:(aA (kC m) t.toNat).toNat < m.nx.length:=OM
    generalize (aA (kC m) t.toNat).toNat=x at hx ⊢;unfold aA;rw [List.getD_eq_getElem?_getD,List.getElem?_replicate,if_pos hx]
    rfl
  exact aJS hm h (t:=m.s) OM OM (λz=>by obtain ⟨o,ho,_⟩:=yH.1 z; cases ho)
def ROI (m:M) (i:Nat) (O N:List Int):Prop:=i<=O.length/\(∀ t∈O,0<=t/\t < m.nx.length)/\NmI m O N/\(∃ y,wJ m=O++y)/\bfO m (kG m) m.nx.length 0 [m.s]=bfO m (kG m) (m.nx.length - i) i O
theorem aQy (hm:bK m=0):(rch m).length<=m.nx.length:=(qT hm).len
theorem aNB (hm:bK m=0):(wJ m).length<=m.nx.length:=by grind [aJQ,aAy,aQy]
theorem aPP (hm:bK m=0):ROI m 0 [m.s] ((List.replicate m.nx.length (-1:Int)).set (aA (kC m) m.s.toNat).toNat 0):=by
  have mo:=cY hm;refine ⟨Nat.zero_le _,λt ht=>?_,aSK hm,?_,J⟩
  . grind
  . obtain ⟨y,hy⟩:=aBt (m:=m) (cc:=kG m) m.nx.length 0 [m.s]
    grind [vB]
theorem ROI.len (hm:bK m=0) {i:Nat} (h:ROI m i O N):O.length<=m.nx.length:=by
  obtain ⟨y,hy⟩:=h.2.2.2.1
  grind [aNB]
theorem ROI.at (hm:bK m=0) {i:Nat} (h:ROI m i O N) (hi:i < O.length):aA (wJ m) i=aA O i/\0<=aA O i/\aA O i < m.nx.length:=by
  obtain ⟨y,hy⟩:=h.2.2.2.1;exact ⟨by rw [hy,dB hi],h.2.1 _ (bC hi)⟩
def RQI (m:M) (i j:Nat) (O Q N:List Int):Prop:=Q=((aA m.nx (aA O i).toNat).take j).foldl (pI (kG m)) O/\(∀ t∈Q,0<=t/\t < m.nx.length)/\NmI m Q N/\O.length<=Q.length/\aA Q i=aA O i
theorem aSn {i:Nat} (h:ROI m i O N):RQI m i 0 O O N:=⟨J,h.2.1,h.2.2.1,Nat.le_refl _,J⟩
variable {i j:Nat} {Q N2:List Int}
theorem RQI.step (hm:bK m=0) (hO:ROI m i O N) (hi:i < O.length) (h:RQI m i j O Q N2) (hj:(j:Int) < m.i):
    let t:=aA (aA m.nx (aA Q i).toNat) j
    let x:=(aA (kC m) t.toNat).toNat
    (aA N2 x < 0->RQI m i (j+1) O (Q++[t]) (N2.set x ((Q.length:Nat):Int))/\aA (N2.set x ((Q.length:Nat):Int)) x=vW m i j)/\
    (¬aA N2 x < 0->RQI m i (j+1) O Q N2/\aA N2 x=vW m i j)/\Q.length<=m.nx.length:=by
  intro t x;have mo:=cY hm;obtain ⟨a1,a2,a3⟩:=hO.at hm hi;obtain ⟨q1,q2,q3,q4,q5⟩:=h;have rr:=mo.2.2.2.2.2.2.2 (aA O i).toNat OM;have et:t=kI m (aA O i) j:=by show aA (aA m.nx (aA Q i).toNat) j=_; rw [q5]; rfl
  have e0:t=aA (aA m.nx (aA O i).toNat) j:=et;have tr:0<=t/\t < m.nx.length:=by rw [e0]; have z:=rr.2.2 j hj; omega
  have xr:=vS hm tr.1 tr.2;have hx:aA N2 x=uL (kG m) Q t:=q3.2 t tr.1 tr.2
  have st:((aA m.nx (aA O i).toNat).take (j+1)).foldl (pI<|kG m) O=pI (kG m) Q t:=by
    rw [cV OM,List.foldl_append,<- q1,<- e0]; rfl
  obtain ⟨y,hy⟩: ∃ y,wJ m=pI (kG m) Q t++y:=by
    have g:wJ m=bfO m (kG m) (m.nx.length - (i+1)) (i+1) (rwO m (kG m) O i):=by
      rw [<- vB hm,hO.2.2.2.2,aMw hi (by have:=hO.len hm; omega)]
    obtain ⟨y1,h1⟩:=aBt (m:=m) (cc:=kG m) (m.nx.length - (i+1)) (i+1) (rwO m (kG m) O i)
    have h2: ∃ y2,rwO m (kG m) O i=pI (kG m) Q t++y2:=by
      unfold rwO;rw [<- List.take_append_drop (j+1) (aA m.nx (aA O i).toNat),List.foldl_append,st];exact jY _ _
    obtain ⟨y2,h2⟩:=h2;exact ⟨y2++y1,by rw [g,h1,h2,List.append_assoc]⟩
  have hr:vW m i j=uL (kG m) (pI (kG m) Q t) t:=by
    unfold vW;rw [a1,<- et,hy,aBi (aIK _ _)]
  refine ⟨λhn=>?_,λhn=>?_,?_⟩
  . rw [hx] at hn
    have es:pI (kG m) Q t=Q++[t]:=by unfold pI; rw [if_neg OM]
    refine ⟨⟨by rw [st,es],λu hu=>?_,aJS hm q3 tr.1 tr.2 OM,by rw [List.length_append]; omega,by rw [dB OM]; exact q5⟩,?_⟩
    . rcases List.mem_append.1 hu with hu|hu
      . exact q2 u hu
      . rw [List.mem_singleton] at hu; subst hu; exact tr
    . rw [sQ (by rw [q3.1]; show (aA (kC m) t.toNat).toNat < _; omega),if_pos J,hr,es,aEQ OM]
  . rw [hx] at hn
    have es:pI (kG m) Q t=Q:=by unfold pI; rw [if_pos OM]
    exact ⟨⟨by rw [st,es],q2,q3,q4,q5⟩,by rw [hx,hr,es]⟩
  . obtain ⟨z,hz⟩:=aIH (cc:=kG m) Q t
    have h1:=aNB hm;rw [hy,hz,List.length_append,List.length_append] at h1;omega
theorem RQI.out (hm:bK m=0) (hO:ROI m i O N) (hi:i < O.length) (h:RQI m i j O Q N2):aA (aA m.ot (aA Q i).toNat) j=xL m i j:=by
  obtain ⟨a1,_⟩:=hO.at hm hi;unfold xL yB;rw [a1,h.2.2.2.2]
theorem RQI.fin (hm:bK m=0) (hO:ROI m i O N) (hi:i < O.length) (h:RQI m i j O Q N2) (hj: ¬(j:Int) < m.i):ROI m (i+1) Q N2:=by
  have mo:=cY hm;obtain ⟨a1,a2,a3⟩:=hO.at hm hi;obtain ⟨q1,q2,q3,q4,q5⟩:=h;have rr:=mo.2.2.2.2.2.2.2 (aA O i).toNat OM;have e:Q=rwO m (kG m) O i:=by grind [rwO,List.take_of_length_le]
  have g:=hO.2.2.2.2;rw [aMw hi (by have:=hO.len hm; omega),<- e] at g;refine ⟨OM,q2,q3,?_,g⟩
  simp_all [aBt,vB]
theorem ROI.end (hm:bK m=0) (h:ROI m i O N) (hi:O.length<=i):i=(wJ m).length:=by
  have e:i=O.length:=Nat.le_antisymm h.1 hi;have g:=h.2.2.2.2
  grind [aBj,vB]
end
end
section
open Go Go.Proofs
attribute [local irreducible] aBa
theorem aHz (m:M):bJ Tryz.prog 135 [(V.agg [(iV m.i),(iV m.s),(aC m.nx),(aC m.ot)]),(iV ((m.nx.length:Nat):Int))] (V.tup [(aD (kC m)),(iV (bK m))]):=by
 refine' pK [] [] Tryz.func135 ?e λhB=>?_
 case e=>conv=>lhs; cbv
 dsimp only;refine aU<|cJ (i:=2) (n:=0) (m:=4) (cs:=[(iV m.i),(iV m.s),(aC m.nx),(aC m.ot)]) J (cM J) J J J<|aP<|aE<|aO<|bB J J J J<|aL (nB m) J<|aE<|aO<|aP<|cA J J<|cE ?_
 refine aG J (λc1=>?_) λc1=>?_
 . 
  have d0:=c1;refine aO<|aP<|aP<|aE<|aN ?_
  refine lE (aM V.nilsl) (aM<|iV<|bK m) (cC ?_)<|eA SI J
  . rw [kC,if_neg d0]; try rfl
 have hm:bK m=0:=OM
 have mo:=cY hm;refine aB<|W_g<|aZ J J J J<|bA J<|aCk (i:=17) (n:=0) (m:=m.nx.length) (q:=m.nx.length) (f:=cI) (x:=0) J (cM J) (cS m.nx.length) (cS m.nx.length) J OM OM OM<|aE<|fL (R:=λT H=>T 1=(iV ((m.nx.length:Nat):Int))/\T 2=(cR 2)/\T 7=(V.ms 17 1 0 m.nx.length)/\H 2=(jV m)/\H 17=(bk 1 3 1<|List.map cI<|List.replicate m.nx.length 0)/\True) ⟨(cS m.nx.length),(aM<|cR 2),(aM<|V.ms 17 1 0 m.nx.length),J,J,trivial⟩ ?_
 intro T H ⟨t1,t2,t7,h2,h17,_⟩;refine .freeze 17 (.done ?_);refine aO<|aE (aF λQ2 n2 x2 y2 z2=>?_)
 refine cF (λmm T H=> ∃ (k:Nat),mm=m.nx.length - k/\T 1=(iV ((m.nx.length:Nat):Int))/\T 2=(cR 2)/\T 7=(aD<|qW m k)/\T 8=(iV ((k:Nat):Int))/\H 2=(jV m)/\((H 17).ver=1/\(H 17).live=false)/\(k<=m.nx.length)) ?_ ?_
 . 
  refine ⟨_,0,J,(aX t1 J),(aX t2 J),(bG (aX t7<|mW h17 JR (l:=(List.replicate m.nx.length 0)) J SI) (by exact congrArg aD aSE.symm)),(bG (aM<|iV 0) J),(aQ (id:=17) h2 DE),(fW<|cM h17),?_⟩
  . exact Nat.zero_le _
 intro mm T H ⟨k,hmm,t1,t2,t7,t8,h2,h17,hk⟩ Q3 p13 p23 p33;refine aO<|aI t8<|aI t1<|bY J J<|aP ?_
 refine bN 6 (λT H=>T 1=(iV ((m.nx.length:Nat):Int))/\T 2=(cR 2)/\T 7=(aD<|qW m k)/\T 8=(iV ((k:Nat):Int))/\T 27=(V.bool<|decide ((((k:Nat):Int) < ((m.nx.length:Nat):Int))/\(((k:Nat):Int) < ((m.nx.length:Nat):Int))))/\H 2=(jV m)/\((H 17).ver=1/\(H 17).live=false)/\True) ?_ ?_
 . 
  by_cases g4:((k:Nat):Int) < ((m.nx.length:Nat):Int)
  . 
   refine aK (bU g4 J)<|aI t8<|aK (bU g4 J)<|cQ t2 h2<|aK (bU g4 J)<|bB J h2 J J<|aK (bU g4 J)<|bA J<|aK (bU g4 J)<|bY J J<|bP (bU g4 J) J ?_
   exact ⟨t1,t2,t7,t8,(eY g4),h2,h17,trivial⟩
  . 
   refine bQ (bV g4 J)<|bQ (bV g4 J)<|bQ (bV g4 J)<|bQ (bV g4 J)<|bQ (bV g4 J)<|bO (bV g4 J) J ?_
   exact ⟨t1,t2,t7,t8,(eX g4),h2,h17,trivial⟩
 intro T H ⟨t1,t2,t7,t8,t27,h2,h17,_⟩;refine cE ?_;refine aG t27 (λc5=>?_) λc5=>?_
 . 
  have c9:k < m.nx.length:=by have z:=c5; simpa using z
  refine aB (aF λQ6 n6 x6 y6 z6=>(fO<|bB t2 h2 J J<|aI t7<|aL (aHk m (qW m k) hm (aFf k) (λs hs=>(aPL k (by rw [aFf] at hs; exact hs)).1)) J<|aE<|n6 _ _ (.done (fO<|aI t8<|cD J<|aE ?_))));refine p13 _ _ _ ?_ ⟨(k+1),J,t1,t2,(bG (aM<|aD<|eI (rA<|qX m<|qW m k) (qW m k).length) (by exact congrArg aD<|aQJ hm k)),(bG (cS<|k+1) JR),h2,h17,?_⟩
  . omega
  . omega
 have c9: ¬k < m.nx.length:=by have z:=c5; simpa using z
 refine aS<|p33 _ _ _<|x2 _ _ (.done (aU<|aI t7<|aP<|aE<|bE ?_))
 refine lE (aM<|aD<|qW m k) (aM<|iV 0) (dM ?_ (λ_=>by simp))<|aH ?_
 . rw [kC,if_pos hm,show k=m.nx.length by omega]
 . exact hm.symm
end
section
open Go Go.Proofs
theorem aCT (m:M):bJ Tryz.prog 90 [(V.agg [(iV m.i),(iV m.s),(aC m.nx),(aC m.ot)])] (V.tup [(aD (kC m)),(iV (bK m))]):=by
 refine' pK [] [] Tryz.func90 ?e λhB=>?_
 case e=>conv=>lhs; cbv
 dsimp only;refine aU<|cJ (i:=1) (n:=0) (m:=4) (cs:=[(iV m.i),(iV m.s),(aC m.nx),(aC m.ot)]) J (cM J) J J J<|aP<|aE<|aU<|bB J J J J<|aZ J J J J<|bA J<|aL (aHz m) J<|bR J J<|bR J J<|aP<|aE ?_
 refine bE ?_;refine lE (aM<|aD<|kC m) (aM<|iV<|bK m) (eA SI J)<|eA SI J
end
section
open Go Go.Proofs
attribute [local irreducible] aBa
theorem aDz (m:M):bJ Tryz.prog 43 [(V.agg [(iV m.i),(iV m.s),(aC m.nx),(aC m.ot)])] (V.tup [(V.agg [(iV ((jQ m).i)),(iV ((jQ m).s)),(aC ((jQ m).nx)),(aC ((jQ m).ot))]),(iV (bK m))]):=by
 refine' pK [11,12,26] [] Tryz.func43 ?e λhB=>?_
 case e=>conv=>lhs; cbv
 dsimp only;refine aU<|cJ (i:=1) (n:=0) (m:=4) (cs:=[(iV m.i),(iV m.s),(aC m.nx),(aC m.ot)]) J (cM J) J J J<|bX (i:=2) (n:=0) (m:=4) J (cM J) J<|aE<|aU<|bB J J J J<|aL (aCT m) J<|aP<|bR J J<|bR J J<|aP<|aE<|aO ?_
 refine aP<|cA J J<|cE ?_
 refine aG J (λc1=>?_) λc1=>?_
 . 
  have d0:=c1;refine aO<|bZ J J<|aP<|cZ (vs:=[(iV 0),(iV 0),V.nilsl,V.nilsl]) (B':=bNq) J J J J (sB oB J J J J J)<|aE<|aN ?_
  refine fF (cH (u:=(V.agg [(iV 0),(iV 0),V.nilsl,V.nilsl])) J (@J Blk bNq)<|lB oB J J) (bM<|aM<|iV<|bK m) (mA<|cO (aH ?_)<|cO (aH ?_)<|cO (cC ?_)<|cO (cC ?_) J)<|eA SI J
  . rw [jQ,if_neg d0]; try rfl
  . rw [jQ,if_neg d0]; try rfl
  . rw [jQ,if_neg d0]; try rfl
  . rw [jQ,if_neg d0]; try rfl
 have hm:bK m=0:=OM
 have mo:=cY hm;have rc:=qT hm;have rl:=rc.len;have me:=mo.2.2.2.2.2.2.1;have cln:=aO6 hm;have ms:=vS hm (show 0<=m.s by omega) (show m.s < m.nx.length by omega);refine aB<|aU<|aZ J J J J<|gA (i:=26) (n:=0) (qs:=[(0,(iV m.s))]) (rows:=[[(iV m.s)]]) J (cM J) (cO (congrArg (λv=>(0,v)) J) J) J<|aE<|aU<|aZ J J J J<|bA J<|aCk (i:=30) (n:=0) (m:=m.nx.length) (q:=m.nx.length) (f:=cI) (x:=0) J (cM J) (cS m.nx.length) (cS m.nx.length) J OM OM OM<|aE<|aO ?_
 refine aE (aF λQ2 n2 x2 y2 z2=>?_);refine cF (λmm T H=> ∃ (k:Nat),mm=m.nx.length - k/\T 1=(cR 1)/\T 2=(cR 2)/\T 4=(aD<|kC m)/\T 6=(V.ms 26 1 0 1)/\T 7=(V.ms 30 1 0 m.nx.length)/\T 8=(iV ((k:Nat):Int))/\H 1=(jV m)/\H 2=bNq/\H 9=iN/\H 11=iN/\H 12=iN/\H 26=(bk 1 3 1<|List.map cI<|[m.s])/\H 30=(bk 1 3 1<|List.map cI<|rV (λ_=>(-1:Int)) 0 m.nx.length k)/\H 812=iN/\H 813=iN/\(k<=m.nx.length)) ?_ ?_
 . 
  refine ⟨_,0,J,J,J,(bG (aM<|aD<|kC m) JR),J,J,(bG (aM<|iV 0) J),J,J,J,J,J,(bG (@J Blk<|bk 1 3 1 [[(iV m.s)]]) JR),(bG (@J Blk<|bk 1 3 1<|List.map cI<|List.replicate m.nx.length 0) (by (rw [<- aRE,List.map_replicate]; done))),J,J,?_⟩
  . exact Nat.zero_le _
 intro mm T H ⟨k,hmm,t1,t2,t4,t6,t7,t8,h1,h2,h9,h11,h12,h26,h30,h812,h813,hk⟩ Q3 p13 p23 p33;refine aO<|aI t8<|aI t7<|eS J h30 JR<|bY J J<|cE ?_
 refine aG J (λc4=>?_) λc4=>?_
 . 
  refine aB (aF λQ5 n5 x5 y5 z5=>(fO<|aI t7<|aI t8<|dG (i:=k) (aM<|V.ms 30 1 0 m.nx.length) (cS k) h30 oB J OM<|cZ (vs:=[(iV (-1))]) (B':=(bk 1 3 1<|List.map cI<|(rV (λ_=>(-1:Int)) 0 m.nx.length k).set k (-1))) J J J h30 (jM (x:=(-1)) (i:=k) (by (rw [aFR]; omega)) J J J J)<|cE<|n5 _ _ (.done (fO<|aI t8<|cD J<|aE ?_))));refine p13 _ _ _ ?_ ⟨(k+1),J,t1,t2,t4,t6,t7,(bG (cS<|k+1) JR),h1,h2,h9,h11,h12,h26,(bG (@J Blk<|bk 1 3 1<|List.map cI<|(rV (λ_=>(-1:Int)) 0 m.nx.length k).set k (-1)) (by (rw [<- aN7 (f:=λ_=>(-1:Int)) (z:=0) (n:=m.nx.length) (j:=k) OM]; first|done|rfl))),h812,h813,?_⟩
  . omega
  . omega
 have e7:rV (λ_=>(-1:Int)) 0 m.nx.length k=List.replicate m.nx.length (-1):=by rw [aMG OM]; unfold eI; rw [List.map_const',List.length_range]
 refine aS<|p33 _ _ _<|x2 _ _ (.done (aU<|aI t7<|aI t4<|aZ t1 h1 J J<|dQ (i:=m.s) (aM<|aD<|kC m) (aM<|iV m.s) OM OM J<|aJ J J<|dS (i:=(aA (kC m) m.s.toNat)) (aM<|V.ms 30 1 0 m.nx.length) (aM<|iV<|aA (kC m) m.s.toNat) h30 oB J OM OM<|cZ (vs:=[(iV 0)]) (B':=(bk 1 3 1<|List.map cI<|(rV (λ_=>(-1:Int)) 0 m.nx.length k).set ((aA (kC m) m.s.toNat).toNat) 0)) J J J h30 (jM (x:=0) (i:=((aA (kC m) m.s.toNat).toNat)) (by (rw [aFR]; omega)) J J J J)<|R_r<|cQ t1 h1 ?_))
 refine bB J h1 J J<|bZ J J<|bX (i:=9) (n:=0) (m:=4) J (cM h9) J<|cZ (vs:=[(iV m.i),(iV 0),V.nilsl,V.nilsl]) (B':=(bk 1 24 4 [[(iV m.i),(iV 0),V.nilsl,V.nilsl]])) J J J J (sB oB J J J J J)<|zL<|W_g<|aE<|fL (R:=λT H=>T 1=(cR 1)/\T 2=(cR 2)/\T 4=(aD<|kC m)/\T 6=(V.ms 26 1 0 1)/\T 7=(V.ms 30 1 0 m.nx.length)/\T 9=(cR 9)/\T 10=(iV 0)/\H 1=(jV m)/\H 2=bNq/\H 9=(bk 1 24 4 [[(iV m.i),(iV 0),V.nilsl,V.nilsl]])/\H 11=iN/\H 12=iN/\H 26=(bk 1 3 1<|List.map cI<|[m.s])/\H 30=(bk 1 3 1<|List.map cI<|(rV (λ_=>(-1:Int)) 0 m.nx.length k).set ((aA (kC m) m.s.toNat).toNat) 0)/\H 812=iN/\H 813=iN/\True) ⟨t1,t2,t4,t6,t7,(aM<|cR 9),(aM<|iV 0),h1,h2,J,h11,h12,h26,J,h812,h813,trivial⟩ ?_
 intro T H ⟨t1,t2,t4,t6,t7,t9,t10,h1,h2,h9,h11,h12,h26,h30,h812,h813,_⟩;refine .lazyCell 812 54 1 9 0 2 [(iV m.i),(iV 0),V.nilsl,V.nilsl] DE (by rw [h9]; rfl) (by rw [h9]; rfl) J (fL (R:=λT H=>T 1=(cR 1)/\T 2=(cR 2)/\T 4=(aD<|kC m)/\T 6=(V.ms 26 1 0 1)/\T 7=(V.ms 30 1 0 m.nx.length)/\T 9=(cR 9)/\T 10=(iV 0)/\H 1=(jV m)/\H 2=bNq/\H 9=(bk 1 24 4 [[(iV m.i),(iV 0),(V.ms 812 1 0 0),V.nilsl]])/\H 11=iN/\H 12=iN/\H 26=(bk 1 3 1<|List.map cI<|[m.s])/\H 30=(bk 1 3 1<|List.map cI<|(rV (λ_=>(-1:Int)) 0 m.nx.length k).set ((aA (kC m) m.s.toNat).toNat) 0)/\H 812=(bz 1 54 1 [])/\H 813=iN/\True) ⟨t1,t2,t4,t6,t7,t9,t10,(iI<|iI h1),(iI<|iI h2),(by rw [aR,h9,(cM h812)]; rfl),(iI<|iI h11),(iI<|iI h12),(iI<|iI h26),(iI<|iI h30),(by rw [bT _ _ DE,aR,(cM h812)]),(iI<|iI h813),trivial⟩ ?_);intro T H ⟨t1,t2,t4,t6,t7,t9,t10,h1,h2,h9,h11,h12,h26,h30,h812,h813,_⟩;refine .lazyCell 813 54 1 9 0 3 [(iV m.i),(iV 0),(V.ms 812 1 0 0),V.nilsl] DE (by rw [h9]; rfl) (by rw [h9]; rfl) J (.done ?_);refine fL (R:=λT H=>T 1=(cR 1)/\T 2=(cR 2)/\T 4=(aD<|kC m)/\T 6=(V.ms 26 1 0 1)/\T 7=(V.ms 30 1 0 m.nx.length)/\T 9=(cR 9)/\T 10=(iV 0)/\H 1=(jV m)/\H 2=bNq/\H 9=(bk 1 24 4 [[(iV m.i),(iV 0),(V.ms 812 1 0 0),(V.ms 813 1 0 0)]])/\H 11=iN/\H 12=iN/\H 26=(bk 1 3 1<|List.map cI<|[m.s])/\H 30=(bk 1 3 1<|List.map cI<|(rV (λ_=>(-1:Int)) 0 m.nx.length k).set ((aA (kC m) m.s.toNat).toNat) 0)/\H 812=(bz 1 54 1 [])/\H 813=(bz 1 54 1 [])/\True) ⟨t1,t2,t4,t6,t7,t9,t10,(iI<|iI h1),(iI<|iI h2),(by rw [aR,h9,(cM h813)]; rfl),(iI<|iI h11),(iI<|iI h12),(iI<|iI h26),(iI<|iI h30),(iI<|iI h812),(by rw [bT _ _ DE,aR,(cM h813)]),trivial⟩ ?_
 intro T H ⟨t1,t2,t4,t6,t7,t9,t10,h1,h2,h9,h11,h12,h26,h30,h812,h813,_⟩;refine aF λQ6 n6 x6 y6 z6=>?_;refine cF (λmm T H=> ∃ (i:Nat) (v:Nat) (w:Nat) (u:Nat) (O:List Int) (N:List Int) (v11:Nat) (v12:Nat),mm=m.nx.length - i/\T 1=(cR 1)/\T 2=(cR 2)/\T 4=(aD<|kC m)/\T 6=(V.ms 26 u 0 O.length)/\T 7=(V.ms 30 1 0 m.nx.length)/\T 9=(cR 9)/\T 10=(iV ((i:Nat):Int))/\H 1=(jV m)/\H 2=bNq/\H 9=(bk 1 24 4 [[(iV m.i),(iV 0),(V.ms 812 v 0 i),(V.ms 813 w 0 i)]])/\((H 11).ver=v11/\(H 11).live=false)/\((H 12).ver=v12/\(H 12).live=false)/\H 26=(bk u 3 1<|List.map cI O)/\H 30=(bk 1 3 1<|List.map cI N)/\H 812=(bz v 54 1<|List.map cL<|eI (rNx m) i)/\H 813=(bz w 54 1<|List.map cL<|eI (rOt m) i)/\(ROI m i O N)) ?_ ?_
 . 
  refine ⟨_,0,1,1,1,[m.s],((rV (λ_=>(-1:Int)) 0 m.nx.length k).set ((aA (kC m) m.s.toNat).toNat) 0),0,0,J,t1,t2,t4,(bG t6 JR),t7,t9,(bG t10 J),h1,h2,h9,⟨(cM h11),congrArg Blk.live h11⟩,⟨(cM h12),congrArg Blk.live h12⟩,(bG h26 JR),(bG h30 JR),(bG h812 JR),(bG h813 JR),?_⟩
  . first|exact aPP hm|(rw [e7]; exact aPP hm)
 intro mm T H ⟨i,v,w,u,O,N,v11,v12,hmm,t1,t2,t4,t6,t7,t9,t10,h1,h2,h9,h11,h12,h26,h30,h812,h813,hO⟩ Q7 p17 p27 p37;refine aO<|aI t10<|aI t6<|eS J h26 SI<|bY J J<|cE ?_
 refine aG J (λc8=>?_) λc8=>?_
 . 
  have ol:=hO.len hm;obtain ⟨a1,a2,a3⟩:=hO.at hm OM;have rr:=mo.2.2.2.2.2.2.2 (aA O i).toNat OM;refine aB (aF λQ9 n9 x9 y9 z9=>(aU<|iD (i:=11) (n:=v11) J h11.1<|iD (i:=12) (n:=v12) J h12.1<|zL<|aU<|aE (aF λQ10 n10 x10 y10 z10=>?_)));refine cF (λmm T H=> ∃ (j:Nat) (v2:Nat) (w2:Nat) (u2:Nat) (Q:List Int) (N2:List Int),mm=m.i.toNat - j/\T 1=(cR 1)/\T 2=(cR 2)/\T 4=(aD<|kC m)/\T 6=(V.ms 26 u2 0 Q.length)/\T 7=(V.ms 30 1 0 m.nx.length)/\T 9=(cR 9)/\T 10=(iV ((i:Nat):Int))/\T 11=(V.ms 11 v2 0 j)/\T 12=(V.ms 12 w2 0 j)/\T 13=(iV ((j:Nat):Int))/\H 1=(jV m)/\H 2=bNq/\H 9=(bk 1 24 4 [[(iV m.i),(iV 0),(V.ms 812 v 0 i),(V.ms 813 w 0 i)]])/\H 11=(bz v2 3 1<|List.map cI<|eI (vW m i) j)/\H 12=(bz w2 3 1<|List.map cI<|eI (xL m i) j)/\H 26=(bk u2 3 1<|List.map cI Q)/\H 30=(bk 1 3 1<|List.map cI N2)/\H 812=(bz v 54 1<|List.map cL<|eI (rNx m) i)/\H 813=(bz w 54 1<|List.map cL<|eI (rOt m) i)/\(j<=m.i.toNat)/\(RQI m i j O Q N2)) ?_ ?_
  . 
   refine ⟨_,0,(v11+1),(v12+1),u,O,N,J,t1,t2,t4,t6,t7,t9,t10,(bG (aM<|V.ms 11 (v11+1) 0 0) JR),(bG (aM<|V.ms 12 (v12+1) 0 0) JR),(bG (aM<|iV 0) J),h1,h2,h9,(bG (@J Blk<|bz (v11+1) 3 1 []) JR),(bG (@J Blk<|bz (v12+1) 3 1 []) JR),h26,h30,h812,h813,?_,?_⟩
   . exact Nat.zero_le _
   . exact aSn hO
  intro mm T H ⟨j,v2,w2,u2,Q,N2,hmm,t1,t2,t4,t6,t7,t9,t10,t11,t12,t13,h1,h2,h9,h11,h12,h26,h30,h812,h813,hj,hQ⟩ Q11 p111 p211 p311;refine aO<|aI t13<|aZ t1 h1 J J<|bY J J<|cE ?_
  refine aG J (λc12=>?_) λc12=>?_
  . 
   have q5:=hQ.2.2.2.2;have ql:=hQ.2.2.2.1;have qn:=hQ.2.2.1.1;have rj:=rr.2.2 j OM;have rq:=mo.2.2.2.2.2.2.2 (aA Q i).toNat (by rw [q5]; omega);have rqj:=rq.2.2 j OM;have xr:=vS hm rqj.1 OM;obtain ⟨z1,z2,z3⟩:=hQ.step hm hO OM OM;have eo:=hQ.out hm hO (j:=j) OM;refine aB (aF λQ13 n13 x13 y13 z13=>(aU<|aZ t1 h1 J J<|aI t6<|aI t10<|dG (i:=i) (aM<|V.ms 26 u2 0 Q.length) (cS i) h26 oB J OM<|cG (v:=(iV<|aA Q i)) J h26 (dU OM JR)<|dQ (i:=(aA Q i)) (aM<|aC m.nx) (aM<|iV<|aA Q i) OM OM J<|aJ J J<|aI t13<|dL (i:=j) (aM<|aD<|aA m.nx (aA Q i).toNat) (cS j)<|aJ J J<|aE ?_));refine aO<|aI t7<|aI t4<|aP<|dQ (i:=(aA (aA m.nx (aA Q i).toNat) j)) (aM<|aD<|kC m) (aM<|iV<|aA (aA m.nx (aA Q i).toNat) j) OM OM J<|aJ J J<|dS (i:=(aA (kC m) (aA (aA m.nx (aA Q i).toNat) j).toNat)) (aM<|V.ms 30 1 0 m.nx.length) (aM<|iV<|aA (kC m) (aA (aA m.nx (aA Q i).toNat) j).toNat) h30 oB J OM OM<|cG (v:=(iV<|aA N2<|(aA (kC m) (aA (aA m.nx (aA Q i).toNat) j).toNat).toNat)) J h30 (dU OM JR)<|bY J J<|cE ?_
   refine aG J (λc14=>?_) λc14=>?_
   . 
    obtain ⟨g1,g2⟩:=z1 c14;have e9:aA (Q++[aA (aA m.nx (aA Q i).toNat) j]) i=aA Q i:=dB OM;refine aO<|aI t7<|aI t4<|aP<|dQ (i:=(aA (aA m.nx (aA Q i).toNat) j)) (aM<|aD<|kC m) (aM<|iV<|aA (aA m.nx (aA Q i).toNat) j) OM OM J<|aJ J J<|aI t6<|eS J h26 SI<|dS (i:=(aA (kC m) (aA (aA m.nx (aA Q i).toNat) j).toNat)) (aM<|V.ms 30 1 0 m.nx.length) (aM<|iV<|aA (kC m) (aA (aA m.nx (aA Q i).toNat) j).toNat) h30 oB J OM OM<|cZ (vs:=[(iV ((Q.length:Nat):Int))]) (B':=(bk 1 3 1<|List.map cI<|N2.set ((aA (kC m) (aA (aA m.nx (aA Q i).toNat) j).toNat).toNat) ((Q.length:Nat):Int))) J J J h30 (jM (x:=((Q.length:Nat):Int)) (i:=((aA (kC m) (aA (aA m.nx (aA Q i).toNat) j).toNat).toNat)) OM J J J J)<|R_r<|aI t6<|aP<|aY J J ?_
    refine gF (l:=Q) (f:=cI) (x:=(aA (aA m.nx (aA Q i).toNat) j)) (aM<|V.ms 26 u2 0 Q.length) h26 JR (aM<|V.sl [[(iV<|aA (aA m.nx (aA Q i).toNat) j)]])<|aE ?_
    refine eZ (λT H=>T 1=(cR 1)/\T 2=(cR 2)/\T 4=(aD<|kC m)/\T 6=(V.ms 26 (u2+1) 0<|Q.length+1)/\T 7=(V.ms 30 1 0 m.nx.length)/\T 9=(cR 9)/\T 10=(iV ((i:Nat):Int))/\T 11=(V.ms 11 (v2+1) 0<|j+1)/\T 12=(V.ms 12 w2 0 j)/\T 13=(iV ((j:Nat):Int))/\H 1=(jV m)/\H 2=bNq/\H 9=(bk 1 24 4 [[(iV m.i),(iV 0),(V.ms 812 v 0 i),(V.ms 813 w 0 i)]])/\H 11=(bz (v2+1) 3 1<|List.map cI<|eI (vW m i) j++[(aA (N2.set ((aA (kC m) (aA (aA m.nx (aA Q i).toNat) j).toNat).toNat) ((Q.length:Nat):Int))<|(aA (kC m) (aA (aA m.nx (aA Q i).toNat) j).toNat).toNat)])/\H 12=(bz w2 3 1<|List.map cI<|eI (xL m i) j)/\H 26=(bk (u2+1) 3 1<|List.map cI<|Q++[(aA (aA m.nx (aA Q i).toNat) j)])/\H 30=(bk 1 3 1<|List.map cI<|N2.set ((aA (kC m) (aA (aA m.nx (aA Q i).toNat) j).toNat).toNat) ((Q.length:Nat):Int))/\H 812=(bz v 54 1<|List.map cL<|eI (rNx m) i)/\H 813=(bz w 54 1<|List.map cL<|eI (rOt m) i)/\True) ?_ ?_
    . 
     refine aI t11<|aI t7<|aI t4<|aP<|dQ (i:=(aA (aA m.nx (aA Q i).toNat) j)) (aM<|aD<|kC m) (aM<|iV<|aA (aA m.nx (aA Q i).toNat) j) OM OM J<|aJ J J<|dS (i:=(aA (kC m) (aA (aA m.nx (aA Q i).toNat) j).toNat)) (aM<|V.ms 30 1 0 m.nx.length) (aM<|iV<|aA (kC m) (aA (aA m.nx (aA Q i).toNat) j).toNat) (@J Blk<|bk 1 3 1<|List.map cI<|N2.set ((aA (kC m) (aA (aA m.nx (aA Q i).toNat) j).toNat).toNat) ((Q.length:Nat):Int)) oB J OM OM<|cG (v:=(iV<|aA (N2.set ((aA (kC m) (aA (aA m.nx (aA Q i).toNat) j).toNat).toNat) ((Q.length:Nat):Int))<|(aA (kC m) (aA (aA m.nx (aA Q i).toNat) j).toNat).toNat)) J (@J Blk<|bk 1 3 1<|List.map cI<|N2.set ((aA (kC m) (aA (aA m.nx (aA Q i).toNat) j).toNat).toNat) ((Q.length:Nat):Int)) (dU (by (rw [List.length_set]; omega)) JR)<|aY J J<|gF (l:=(eI (vW m i) j)) (f:=cI) (x:=(aA (N2.set ((aA (kC m) (aA (aA m.nx (aA Q i).toNat) j).toNat).toNat) ((Q.length:Nat):Int))<|(aA (kC m) (aA (aA m.nx (aA Q i).toNat) j).toNat).toNat)) (aM<|V.ms 11 v2 0 j) h11 (by exact (bS _ _).symm) (aM<|V.sl [[(iV<|aA (N2.set ((aA (kC m) (aA (aA m.nx (aA Q i).toNat) j).toNat).toNat) ((Q.length:Nat):Int))<|(aA (kC m) (aA (aA m.nx (aA Q i).toNat) j).toNat).toNat)]])<|aP ?_
     exact gD ⟨t1,t2,t4,J,t7,t9,t10,J,t12,t13,h1,h2,h9,J,h12,J,J,h812,h813,trivial⟩
    intro T H ⟨t1,t2,t4,t6,t7,t9,t10,t11,t12,t13,h1,h2,h9,h11,h12,h26,h30,h812,h813,_⟩;refine fO<|aI t12<|aZ t1 h1 J J<|aI t6<|aI t10<|dG (i:=i) (aM<|V.ms 26 (u2+1) 0<|Q.length+1) (cS i) h26 oB J OM<|cG (v:=(iV<|aA (Q++[(aA (aA m.nx (aA Q i).toNat) j)]) i)) J h26 (dU (by (rw [List.length_append]; omega)) JR)<|dQ (i:=(aA (Q++[(aA (aA m.nx (aA Q i).toNat) j)]) i)) (aM<|aC m.ot) (aM<|iV<|aA (Q++[(aA (aA m.nx (aA Q i).toNat) j)]) i) OM OM J<|aJ J J<|aI t13<|aNN (i:=j) (aM<|aD<|aA m.ot (aA (Q++[(aA (aA m.nx (aA Q i).toNat) j)]) i).toNat) (cS j) (by (rw [e9]; omega)) J<|aJ J J<|aY J J<|gF (l:=(eI (xL m i) j)) (f:=cI) (x:=(aA (aA m.ot (aA (Q++[(aA (aA m.nx (aA Q i).toNat) j)]) i).toNat) j)) (aM<|V.ms 12 w2 0 j) h12 (by exact (bS _ _).symm) (aM<|V.sl [[(iV<|aA (aA m.ot (aA (Q++[(aA (aA m.nx (aA Q i).toNat) j)]) i).toNat) j)]])<|aP ?_
    refine cE<|n13 _ _ (.done (fO<|aI t13<|cD J<|aE ?_))
    refine p111 _ _ _ ?_ ⟨(j+1),(v2+1),(w2+1),(u2+1),(Q++[(aA (aA m.nx (aA Q i).toNat) j)]),(N2.set ((aA (kC m) (aA (aA m.nx (aA Q i).toNat) j).toNat).toNat) ((Q.length:Nat):Int)),J,t1,t2,t4,(bG t6 SI),t7,t9,t10,(bG t11 JR),(bG (aM<|V.ms 12 (w2+1) 0<|j+1) JR),(bG (cS<|j+1) JR),h1,h2,h9,(bG h11 (by (rw [fK,g2]; first|done|rfl))),(bG (@J Blk<|bz (w2+1) 3 1<|List.map cI<|eI (xL m i) j++[(aA (aA m.ot (aA (Q++[(aA (aA m.nx (aA Q i).toNat) j)]) i).toNat) j)]) (by (rw [fK,e9,eo]; first|done|rfl))),(bG h26 JR),(bG h30 JR),h812,h813,?_,?_⟩
    . omega
    . omega
    . exact g1
   obtain ⟨g1,g2⟩:=z2 c14;refine aB<|aU<|aI t11<|aI t7<|aI t4<|aP<|dQ (i:=(aA (aA m.nx (aA Q i).toNat) j)) (aM<|aD<|kC m) (aM<|iV<|aA (aA m.nx (aA Q i).toNat) j) OM OM J<|aJ J J<|dS (i:=(aA (kC m) (aA (aA m.nx (aA Q i).toNat) j).toNat)) (aM<|V.ms 30 1 0 m.nx.length) (aM<|iV<|aA (kC m) (aA (aA m.nx (aA Q i).toNat) j).toNat) h30 oB J OM OM<|cG (v:=(iV<|aA N2<|(aA (kC m) (aA (aA m.nx (aA Q i).toNat) j).toNat).toNat)) J h30 (dU OM JR)<|aY J J<|gF (l:=(eI (vW m i) j)) (f:=cI) (x:=(aA N2<|(aA (kC m) (aA (aA m.nx (aA Q i).toNat) j).toNat).toNat)) (aM<|V.ms 11 v2 0 j) h11 (by exact (bS _ _).symm) (aM<|V.sl [[(iV<|aA N2<|(aA (kC m) (aA (aA m.nx (aA Q i).toNat) j).toNat).toNat)]])<|aE ?_
   refine tR (λT H=>T 1=(cR 1)/\T 2=(cR 2)/\T 4=(aD<|kC m)/\T 6=(V.ms 26 u2 0 Q.length)/\T 7=(V.ms 30 1 0 m.nx.length)/\T 9=(cR 9)/\T 10=(iV ((i:Nat):Int))/\T 11=(V.ms 11 (v2+1) 0<|j+1)/\T 12=(V.ms 12 (w2+1) 0<|j+1)/\T 13=(iV ((j:Nat):Int))/\H 1=(jV m)/\H 2=bNq/\H 9=(bk 1 24 4 [[(iV m.i),(iV 0),(V.ms 812 v 0 i),(V.ms 813 w 0 i)]])/\H 11=(bz (v2+1) 3 1<|List.map cI<|eI (vW m i) j++[(aA N2<|(aA (kC m) (aA (aA m.nx (aA Q i).toNat) j).toNat).toNat)])/\H 12=(bz (w2+1) 3 1<|List.map cI<|eI (xL m i) j++[(aA (aA m.ot (aA Q i).toNat) j)])/\H 26=(bk u2 3 1<|List.map cI Q)/\H 30=(bk 1 3 1<|List.map cI N2)/\H 812=(bz v 54 1<|List.map cL<|eI (rNx m) i)/\H 813=(bz w 54 1<|List.map cL<|eI (rOt m) i)/\True) ?_ ?_
   . 
    refine aI t12<|aZ t1 h1 J J<|aI t6<|aI t10<|dG (i:=i) (aM<|V.ms 26 u2 0 Q.length) (cS i) h26 oB J OM<|cG (v:=(iV<|aA Q i)) J h26 (dU OM JR)<|dQ (i:=(aA Q i)) (aM<|aC m.ot) (aM<|iV<|aA Q i) OM OM J<|aJ J J<|aI t13<|dL (i:=j) (aM<|aD<|aA m.ot (aA Q i).toNat) (cS j)<|aJ J J<|aY J J<|gF (l:=(eI (xL m i) j)) (f:=cI) (x:=(aA (aA m.ot (aA Q i).toNat) j)) (aM<|V.ms 12 w2 0 j) h12 (by exact (bS _ _).symm) (aM<|V.sl [[(iV<|aA (aA m.ot (aA Q i).toNat) j)]])<|aP ?_
    exact gD ⟨t1,t2,t4,t6,t7,t9,t10,J,J,t13,h1,h2,h9,J,J,h26,h30,h812,h813,trivial⟩
   intro T H ⟨t1,t2,t4,t6,t7,t9,t10,t11,t12,t13,h1,h2,h9,h11,h12,h26,h30,h812,h813,_⟩;refine n13 _ _ (.done (fO<|aI t13<|cD J<|aE ?_));refine p111 _ _ _ ?_ ⟨(j+1),(v2+1),(w2+1),u2,Q,N2,J,t1,t2,t4,t6,t7,t9,t10,(bG t11 JR),(bG t12 JR),(bG (cS<|j+1) JR),h1,h2,h9,(bG h11 (by (rw [fK,g2]; first|done|rfl))),(bG h12 (by (rw [fK,eo]; first|done|rfl))),h26,h30,h812,h813,?_,?_⟩
   . omega
   . omega
   . exact g1
  have f1:=hQ.fin hm hO OM OM;have ej:rNx m i=eI (vW m i) j:=by unfold rNx; rw [show m.i.toNat=j by omega]
  have ek:rOt m i=eI (xL m i) j:=by unfold rOt; rw [show m.i.toNat=j by omega]
  refine aS<|p311 _ _ _<|x10 _ _ ?_
  refine .freeze 11 (.done ?_);refine W_g<|cQ (aX t9 J) (aQ (id:=11) h9 DE)<|bB J (aQ (id:=11) h9 DE) J J<|aI (aX t11<|mW h11 SI (l:=(eI (vW m i) j)) J (by exact (bS _ _).symm))<|aY J J<|gF (l:=(eI (rNx m) i)) (f:=cL) (x:=(eI (vW m i) j)) (aM<|V.ms 812 v 0 i) (aQ (id:=11) h812 DE) (by exact (bS _ _).symm) (aM<|V.sl [[(aD<|eI (vW m i) j)]])<|cQ (aX t9 J) (aQ (id:=11) h9 DE)<|cZ (vs:=[(V.ms 812 (v+1) 0<|i+1)]) (B':=(bk 1 24 4 [[(iV m.i),(iV 0),(V.ms 812 (v+1) 0<|i+1),(V.ms 813 w 0 i)]])) J J J (aQ (id:=11) h9 DE) (sB oB J J J J J)<|cE ?_
  refine .freeze 12 (.done ?_);refine fO<|cQ (aX (aX t9 J) J) J<|bB J J J J<|aI (aX (aX t12<|dV DE)<|mW (aQ (id:=11) h12 DE) SI (l:=(eI (xL m i) j)) J (by exact (bS _ _).symm))<|aY J J<|gF (l:=(eI (rOt m) i)) (f:=cL) (x:=(eI (xL m i) j)) (aM<|V.ms 813 w 0 i) (aQ (id:=12) (aQ (id:=11) h813 DE) DE) (by exact (bS _ _).symm) (aM<|V.sl [[(aD<|eI (xL m i) j)]])<|cQ (aX (aX t9 J) J) J<|cZ (vs:=[(V.ms 813 (w+1) 0<|i+1)]) (B':=(bk 1 24 4 [[(iV m.i),(iV 0),(V.ms 812 (v+1) 0<|i+1),(V.ms 813 (w+1) 0<|i+1)]])) J J J J (sB oB J J J J J)<|cE<|n9 _ _ (.done (fO<|aI (aX (aX t10 J) J)<|cD J<|aE ?_))
  refine p17 _ _ _ ?_ ⟨(i+1),(v+1),(w+1),u2,Q,N2,v2,w2,J,(aX (aX t1 J) J),(aX (aX t2 J) J),(aX (aX t4 J) J),(aX (aX t6<|dV DE)<|dV DE),(aX (aX t7<|dV DE)<|dV DE),(aX (aX t9 J) J),(bG (cS<|i+1) JR),(aQ (id:=12) (aQ (id:=11) h1 DE) DE),(aQ (id:=12) (aQ (id:=11) h2 DE) DE),(bG (@J Blk<|bk 1 24 4 [[(iV m.i),(iV 0),(V.ms 812 (v+1) 0<|i+1),(V.ms 813 (w+1) 0<|i+1)]]) JR),(gV (id:=12)<|fW<|cM h11),(fW<|cM<|aQ (id:=11) h12 DE),(aQ (id:=12) (aQ (id:=11) h26 DE) DE),(aQ (id:=12) (aQ (id:=11) h30 DE) DE),(bG (@J Blk<|bz (v+1) 54 1<|List.map cL<|eI (rNx m) i++[eI (vW m i) j]) (by (rw [fK,ej,List.map_append]; first|done|rfl))),(bG (@J Blk<|bz (w+1) 54 1<|List.map cL<|eI (rOt m) i++[eI (xL m i) j]) (by (rw [fK,ek,List.map_append]; first|done|rfl))),?_⟩
  . omega
  . exact f1
 have e8:=hO.end hm OM;refine aS<|p37 _ _ _<|x6 _ _ (.done (aU<|bB t9 h9 J J<|cZ (vs:=[(iV m.i),(iV 0),(V.ms 812 v 0 i),(V.ms 813 w 0 i)]) (B':=(bk 1 24 4 [[(iV m.i),(iV 0),(V.ms 812 v 0 i),(V.ms 813 w 0 i)]])) t2 J J h2 (sB oB J J J J J)<|aE<|bE ?_))
 refine fF (cH (u:=(V.agg [(iV m.i),(iV 0),(V.ms 812 v 0 i),(V.ms 813 w 0 i)])) t2 (@J Blk<|bk 1 24 4 [[(iV m.i),(iV 0),(V.ms 812 v 0 i),(V.ms 813 w 0 i)]])<|lB oB J J) (bM<|aM<|iV 0) (mA<|cO (aH ?_)<|cO (aH ?_)<|cO (mI h812 SI (l:=(eI (rNx m) i)) J (by exact (bS _ _).symm) (λ_=>by simp) ?_)<|cO (mI h813 SI (l:=(eI (rOt m) i)) J (by exact (bS _ _).symm) (λ_=>by simp) ?_) J)<|aH ?_
 . rw [jQ,if_pos hm,vI hm]; try first|rfl|(rw [<- e8]; done)|(rw [<- e8]; rfl)
 . rw [jQ,if_pos hm,vI hm]; try first|rfl|(rw [<- e8]; done)|(rw [<- e8]; rfl)
 . rw [jQ,if_pos hm,vI hm]; try first|rfl|(rw [<- e8]; done)|(rw [<- e8]; rfl)
 . rw [jQ,if_pos hm,vI hm]; try first|rfl|(rw [<- e8]; done)|(rw [<- e8]; rfl)
 . exact hm.symm
end
section
open Go Go.Proofs
theorem aEe (m:M):bJ Tryz.prog 15 [(V.agg [(iV m.i),(iV m.s),(aC m.nx),(aC m.ot)])] (V.bool (decide (bK m=0/\(jQ m).nx.length=m.nx.length))):=by
 refine' pK [] [] Tryz.func15 ?e λhB=>?_
 case e=>conv=>lhs; cbv
 dsimp only;refine aU<|cJ (i:=1) (n:=0) (m:=4) (cs:=[(iV m.i),(iV m.s),(aC m.nx),(aC m.ot)]) J (cM J) J J J<|aE<|aU<|bB J J J J<|aL (aDz m) J<|aP<|bR J J<|bR J J<|bX (i:=3) (n:=0) (m:=4) J (cM J) J<|dA J J J J J J J J J<|aE<|aU<|aP ?_
 refine fP J J<|aP ?_
 refine bN 8 (λT H=>T 20=(V.bool<|decide (((bK m)=(0:Int))/\(((((jQ m).nx).length:Nat):Int)=((m.nx.length:Nat):Int))))/\H 1=(jV m)/\H 3=(bk 1 24 4 [[(iV<|(jQ m).i),(iV<|(jQ m).s),(aC<|(jQ m).nx),(aC<|(jQ m).ot)]])/\True) ?_ ?_
 . 
  by_cases g1:(bK m)=(0:Int)
  . 
   refine aK (bU g1 J)<|cQ J J<|aK (bU g1 J)<|bB J J J J<|aK (bU g1 J)<|bA J<|aK (bU g1 J)<|cQ J J<|aK (bU g1 J)<|bB J J J J<|aK (bU g1 J)<|bA J<|aK (bU g1 J)<|fP J J<|bP (bU g1 J) J ?_
   exact ⟨(eY g1),J,J,trivial⟩
  . 
   refine bQ (bV g1 J)<|bQ (bV g1 J)<|bQ (bV g1 J)<|bQ (bV g1 J)<|bQ (bV g1 J)<|bQ (bV g1 J)<|bQ (bV g1 J)<|bO (bV g1 J) J ?_
   exact ⟨(eX g1),J,J,trivial⟩
 intro T H ⟨t20,h1,h3,_⟩;refine aI t20<|R_q ?_
 refine aW (aM<|V.bool<|decide (((bK m)=(0:Int))/\(((((jQ m).nx).length:Nat):Int)=((m.nx.length:Nat):Int))))<|cK ?_
 . first|rfl|(rw [decide_eq_decide]; omega)
theorem aDC (a b:List Int):bJ Tryz.prog 45 [(aD a),(aD b)] (V.bool (decide (a=b))):=by
 refine' pK [] [] Tryz.func45 ?e λhB=>?_
 case e=>conv=>lhs; cbv
 dsimp only;refine aU<|aE<|aO<|aP<|bA J<|aP<|bA J<|cA J J<|cE ?_
 refine aG J (λc1=>?_) λc1=>?_
 . 
  refine aO<|aE<|aN ?_
  refine aW (aM<|V.bool false)<|cK ?_
  . exact (decide_eq_false (λe=>by subst e; omega)).symm
 refine aB<|aO<|aE (aF λQ2 n2 x2 y2 z2=>?_)
 refine cF (λmm T H=> ∃ (k:Nat),mm=a.length - k/\T 0=(aD a)/\T 1=(aD b)/\T 5=(iV ((k:Nat):Int))/\(k<=a.length)/\(a.length=b.length)/\(∀ j,j < k->aA a j=aA b j)) ?_ ?_
 . 
  refine ⟨_,0,J,J,J,(bG (aM<|iV 0) J),?_,?_,?_⟩
  . omega
  . omega
  . intro j hj; omega
 intro mm T H ⟨k,hmm,t0,t1,t5,hk,hl,hc⟩ Q3 p13 p23 p33;refine aO<|aI t5<|aI t0<|bA J<|bY J J<|cE ?_
 refine aG J (λc4=>?_) λc4=>?_
 . 
  refine aB (aF λQ5 n5 x5 y5 z5=>(aU<|aI t0<|aI t5<|dL (i:=k) (aM<|aD a) (cS k)<|aJ J J<|aI t1<|aI t5<|dL (i:=k) (aM<|aD b) (cS k)<|aJ J J<|cA J J<|cE ?_));refine gE J (λc6=>?_) λc6=>?_
  . 
   refine aU<|aE<|bE<|y5 _ _<|p23 _ _<|y2 _ _ ?_
   refine aW (aM<|V.bool false)<|cK ?_
   . exact (decide_eq_false (λe=>by subst e; omega)).symm
  refine dH<|n5 _ _ (.done (fO<|aI t5<|cD J<|aE ?_))
  refine p13 _ _ _ ?_ ⟨(k+1),J,t0,t1,(bG (cS<|k+1) JR),?_,?_,?_⟩
  . omega
  . omega
  . omega
  . intro j hj
    by_cases e:j=k
    . subst e; omega
    . exact hc j OM
 refine aS<|p33 _ _ _<|x2 _ _ (.done (aU<|aE<|bE ?_))
 refine aW (aM<|V.bool true)<|cK ?_
 . exact (decide_eq_true (fU hl λj hj=>hc j OM)).symm
theorem aCl (a b:List (List Int)):bJ Tryz.prog 35 [(aC a),(aC b)] (V.bool (decide (a=b))):=by
 refine' pK [] [] Tryz.func35 ?e λhB=>?_
 case e=>conv=>lhs; cbv
 dsimp only;refine aU<|aE<|aO<|aP<|bA J<|aP<|bA J<|cA J J<|cE ?_
 refine aG J (λc1=>?_) λc1=>?_
 . 
  refine aO<|aE<|aN ?_
  refine aW (aM<|V.bool false)<|cK ?_
  . exact (decide_eq_false (λe=>by subst e; omega)).symm
 refine aB<|aO<|aE (aF λQ2 n2 x2 y2 z2=>?_)
 refine cF (λmm T H=> ∃ (k:Nat),mm=a.length - k/\T 0=(aC a)/\T 1=(aC b)/\T 5=(iV ((k:Nat):Int))/\(k<=a.length)/\(a.length=b.length)/\(∀ j,j < k->aA a j=aA b j)) ?_ ?_
 . 
  refine ⟨_,0,J,J,J,(bG (aM<|iV 0) J),?_,?_,?_⟩
  . omega
  . omega
  . intro j hj; omega
 intro mm T H ⟨k,hmm,t0,t1,t5,hk,hl,hc⟩ Q3 p13 p23 p33;refine aO<|aI t5<|aI t0<|bA J<|bY J J<|cE ?_
 refine aG J (λc4=>?_) λc4=>?_
 . 
  refine aB (aF λQ5 n5 x5 y5 z5=>(aU<|aI t0<|aI t5<|dL (i:=k) (aM<|aC a) (cS k)<|aJ J J<|aI t1<|aI t5<|dL (i:=k) (aM<|aC b) (cS k)<|aJ J J<|aL (aDC (aA a k)<|aA b k) J<|uQ J<|cE ?_));refine gE J (λc6=>?_) λc6=>?_
  . 
   have d1:=c6;refine aU<|aE<|bE<|y5 _ _<|p23 _ _<|y2 _ _ ?_
   refine aW (aM<|V.bool false)<|cK ?_
   . exact (decide_eq_false (λe=>d1 (by subst e; rfl))).symm
  have d1:=Decidable.not_not.1 c6;refine dH<|n5 _ _ (.done (fO<|aI t5<|cD J<|aE ?_))
  refine p13 _ _ _ ?_ ⟨(k+1),J,t0,t1,(bG (cS<|k+1) JR),?_,?_,?_⟩
  . omega
  . omega
  . omega
  . intro j hj
    by_cases e:j=k
    . subst e; exact d1
    . exact hc j OM
 refine aS<|p33 _ _ _<|x2 _ _ (.done (aU<|aE<|bE ?_))
 refine aW (aM<|V.bool true)<|cK ?_
 . exact (decide_eq_true (fU hl λj hj=>hc j OM)).symm
theorem aHF (a b:M):bJ Tryz.prog 34 [(V.agg [(iV a.i),(iV a.s),(aC a.nx),(aC a.ot)]),(V.agg [(iV b.i),(iV b.s),(aC b.nx),(aC b.ot)])] (V.bool (decide (a=b))):=by
 refine' pK [] [] Tryz.func34 ?e λhB=>?_
 case e=>conv=>lhs; cbv
 dsimp only;refine aU<|cJ (i:=2) (n:=0) (m:=4) (cs:=[(iV a.i),(iV a.s),(aC a.nx),(aC a.ot)]) J (cM J) J J J<|cJ (i:=3) (n:=0) (m:=4) (cs:=[(iV b.i),(iV b.s),(aC b.nx),(aC b.ot)]) J (cM J) J J J<|aE<|aU<|aZ J J J J<|aZ J J J J<|fP J J<|aP ?_
 refine bN 6 (λT H=>T 2=(cR 2)/\T 3=(cR 3)/\T 16=(V.bool<|decide ((a.i=b.i)/\(a.s=b.s)))/\H 2=(bk 1 24 4 [[(iV a.i),(iV a.s),(aC a.nx),(aC a.ot)]])/\H 3=(bk 1 24 4 [[(iV b.i),(iV b.s),(aC b.nx),(aC b.ot)]])/\True) ?_ ?_
 . 
  by_cases g1:a.i=b.i
  . 
   refine aK (bU g1 J)<|cQ J J<|aK (bU g1 J)<|bB J J J J<|aK (bU g1 J)<|cQ J J<|aK (bU g1 J)<|bB J J J J<|aK (bU g1 J)<|fP J J<|bP (bU g1 J) J ?_
   exact ⟨J,J,(eY g1),J,J,trivial⟩
  . 
   refine bQ (bV g1 J)<|bQ (bV g1 J)<|bQ (bV g1 J)<|bQ (bV g1 J)<|bQ (bV g1 J)<|bO (bV g1 J) J ?_
   exact ⟨J,J,(eX g1),J,J,trivial⟩
 intro T H ⟨t2,t3,t16,h2,h3,_⟩;refine aI t16 ?_;refine bN 6 (λT H=>T 2=(cR 2)/\T 3=(cR 3)/\T 23=(V.bool<|decide (((a.i=b.i)/\(a.s=b.s))/\(a.nx=b.nx)))/\H 2=(bk 1 24 4 [[(iV a.i),(iV a.s),(aC a.nx),(aC a.ot)]])/\H 3=(bk 1 24 4 [[(iV b.i),(iV b.s),(aC b.nx),(aC b.ot)]])/\True) ?_ ?_
 . 
  by_cases g2:(a.i=b.i)/\(a.s=b.s)
  . 
   refine aK (bU g2 J)<|cQ t2 h2<|aK (bU g2 J)<|bB J h2 J J<|aK (bU g2 J)<|cQ t3 h3<|aK (bU g2 J)<|bB J h3 J J<|aK (bU g2 J)<|aL (aCl a.nx b.nx) J<|bP (bU g2 J) J ?_
   exact ⟨t2,t3,(eY g2),h2,h3,trivial⟩
  . 
   refine bQ (bV g2 J)<|bQ (bV g2 J)<|bQ (bV g2 J)<|bQ (bV g2 J)<|bQ (bV g2 J)<|bO (bV g2 J) J ?_
   exact ⟨t2,t3,(eX g2),h2,h3,trivial⟩
 intro T H ⟨t2,t3,t23,h2,h3,_⟩;refine aI t23 ?_;refine bN 6 (λT H=>T 30=(V.bool<|decide ((((a.i=b.i)/\(a.s=b.s))/\(a.nx=b.nx))/\(a.ot=b.ot)))/\H 2=(bk 1 24 4 [[(iV a.i),(iV a.s),(aC a.nx),(aC a.ot)]])/\H 3=(bk 1 24 4 [[(iV b.i),(iV b.s),(aC b.nx),(aC b.ot)]])/\True) ?_ ?_
 . 
  by_cases g3:((a.i=b.i)/\(a.s=b.s))/\(a.nx=b.nx)
  . 
   refine aK (bU g3 J)<|cQ t2 h2<|aK (bU g3 J)<|bB J h2 J J<|aK (bU g3 J)<|cQ t3 h3<|aK (bU g3 J)<|bB J h3 J J<|aK (bU g3 J)<|aL (aCl a.ot b.ot) J<|bP (bU g3 J) J ?_
   exact ⟨(eY g3),h2,h3,trivial⟩
  . 
   refine bQ (bV g3 J)<|bQ (bV g3 J)<|bQ (bV g3 J)<|bQ (bV g3 J)<|bQ (bV g3 J)<|bO (bV g3 J) J ?_
   exact ⟨(eX g3),h2,h3,trivial⟩
 intro T H ⟨t30,h2,h3,_⟩;refine aI t30<|R_q ?_
 refine aW (aM<|V.bool<|decide ((((a.i=b.i)/\(a.s=b.s))/\(a.nx=b.nx))/\(a.ot=b.ot)))<|cK ?_
 . first|rfl|(rw [decide_eq_decide]; rw [M.eq_iff]; simp [and_assoc])|(simp [M.eq_iff,and_assoc])
theorem aHs (l:List Int) (n:Int):bJ Tryz.prog 136 [(aD l),(iV n)] (V.bool (decide (n∈l))):=by
 refine' pK [] [] Tryz.func136 ?e λhB=>?_
 case e=>conv=>lhs; cbv
 dsimp only;refine aU<|aE<|aO<|aE (aF λQ1 n1 x1 y1 z1=>?_)
 refine cF (λmm T H=> ∃ (k:Nat),mm=l.length - k/\T 0=(aD l)/\T 1=(iV n)/\T 5=(iV ((k:Nat):Int))/\(k<=l.length)/\(∀ j,j < k->aA l j≠n)) ?_ ?_
 . 
  refine ⟨_,0,J,J,J,(bG (aM<|iV 0) J),?_,?_⟩
  . omega
  . intro j hj; omega
 intro mm T H ⟨k,hmm,t0,t1,t5,hk,hc⟩ Q2 p12 p22 p32;refine aO<|aI t5<|aI t0<|bA J<|bY J J<|cE ?_
 refine aG J (λc3=>?_) λc3=>?_
 . 
  refine aB (aF λQ4 n4 x4 y4 z4=>(aU<|aI t0<|aI t5<|dL (i:=k) (aM<|aD l) (cS k)<|aJ J J<|aI t1<|fP J J<|cE ?_));refine gE J (λc5=>?_) λc5=>?_
  . 
   have d1:=c5;refine aU<|aE<|bE<|y4 _ _<|p22 _ _<|y1 _ _ ?_
   refine aW (aM<|V.bool true)<|cK ?_
   . exact (decide_eq_true<|d1 ▸ bC OM).symm
  have d1:=c5;refine dH<|n4 _ _ (.done (fO<|aI t5<|cD J<|aE ?_))
  refine p12 _ _ _ ?_ ⟨(k+1),J,t0,t1,(bG (cS<|k+1) JR),?_,?_⟩
  . omega
  . omega
  . intro j hj
    by_cases e:j=k
    . subst e; exact d1
    . exact hc j OM
 refine aS<|p32 _ _ _<|x1 _ _ (.done (aU<|aE<|bE ?_))
 refine aW (aM<|V.bool false)<|cK ?_
 . exact (decide_eq_false (λe=>by obtain ⟨j,hj,q⟩:=lY e; exact hc j OM q)).symm
theorem aGx (m:M):bJ Tryz.prog 91 [(V.agg [(iV m.i),(iV m.s),(aC m.nx),(aC m.ot)])] (aD (rch m)):=by
 refine' pK [11] [] Tryz.func91 ?e λhB=>?_
 case e=>conv=>lhs; cbv
 dsimp only;refine aU<|cJ (i:=1) (n:=0) (m:=4) (cs:=[(iV m.i),(iV m.s),(aC m.nx),(aC m.ot)]) J (cM J) J J J<|aE<|aO<|bB J J J J<|aL (nB m) J<|cA J J<|cE ?_
 refine aG J (λc1=>?_) λc1=>?_
 . 
  have d0:=c1;refine aO<|aE<|aN ?_
  refine aW (aM V.nilsl)<|cC ?_
  . rw [rch,if_pos d0]
 have hm:bK m=0:=OM
 obtain ⟨v1,v2,v3,v4,v5,v6,v7,_⟩:=cY hm;refine aB<|aU<|aZ J J J J<|gA (i:=11) (n:=0) (qs:=[(0,(iV m.s))]) (rows:=[[(iV m.s)]]) J (cM J) (cO (congrArg (λv=>(0,v)) J) J) J<|aE<|aO<|aE (aF λQ2 n2 x2 y2 z2=>?_)
 refine cF (λmm T H=> ∃ (k:Nat) (w:Nat) (P:RS),mm=m.nx.length - k/\T 1=(cR 1)/\T 3=(V.ms 11 w 0 P.1.length)/\T 4=(iV ((k:Nat):Int))/\H 1=(jV m)/\H 11=(bk w 3 1<|List.map cI P.1)/\(k<=P.1.length)/\(RI m.nx.length P)/\(nZ m m.nx.length 0 (wT m)=nZ m (m.nx.length - k) k P)) ?_ ?_
 . 
  refine ⟨_,0,1,(wT m),J,J,(bG (aM<|V.ms 11 1 0 1) JR),(bG (aM<|iV 0) J),J,(bG (@J Blk<|bk 1 3 1 [[(iV m.s)]]) JR),?_,?_,?_⟩
  . exact Nat.zero_le _
  . exact aHQ hm
  . rfl
 intro mm T H ⟨k,w,P,hmm,t1,t3,t4,h1,h11,hk,hr,hc⟩ Q3 p13 p23 p33;refine aO<|aI t4<|aI t3<|eS J h11 SI<|bY J J<|cE ?_
 refine aG J (λc4=>?_) λc4=>?_
 . 
  have r1:=hr.rng _<|bC (show k < P.1.length by omega)
  have r0:=hr.len;have r6:=((cY hm).2.2.2.2.2.2.2 (aA P.1 k).toNat OM).1;refine aB (aF λQ5 n5 x5 y5 z5=>(aU<|aE (iZ λQ6 n6 x6 y6 z6=>?_)));refine cF (λmm T H=> ∃ (j:Nat) (w2:Nat) (Q:RS),mm=m.i.toNat - j/\T 1=(cR 1)/\T 3=(V.ms 11 w2 0 Q.1.length)/\T 4=(iV ((k:Nat):Int))/\T 5=(iV ((j:Nat):Int))/\H 1=(jV m)/\H 11=(bk w2 3 1<|List.map cI Q.1)/\(j<=m.i.toNat)/\(Q=((aA m.nx (aA P.1 k).toNat).take j).foldl oT P)/\(RI m.nx.length Q)/\(aA Q.1 k=aA P.1 k/\P.1.length<=Q.1.length)) ?_ ?_
  . 
   refine ⟨_,0,w,P,J,t1,t3,t4,(bG (aM<|iV 0) J),h1,h11,?_,?_,?_,?_⟩
   . exact Nat.zero_le _
   . rfl
   . exact hr
   . exact ⟨J,Nat.le_refl _⟩
  intro mm T H ⟨j,w2,Q,hmm,t1,t3,t4,t5,h1,h11,hj,hq,hrq,hn⟩ Q7 p17 p27 p37;refine aO<|aI t5<|aZ t1 h1 J J<|bY J J<|cE ?_
  refine aG J (λc8=>?_) λc8=>?_
  . 
   have r2:=aEI hm r1.1 r1.2 _<|bC (show j < (aA m.nx (aA P.1 k).toNat).length by omega)
   have r4:=hrq.len;have r5:=hn.1;have r7:(aA m.nx (aA Q.1 k).toNat).length=(aA m.nx (aA P.1 k).toNat).length:=by rw [hn.1]
   refine aB (aF λQ9 n9 x9 y9 z9=>(aU<|aI t3<|aZ t1 h1 J J<|aI t3<|aI t4<|dG (i:=k) (aM<|V.ms 11 w2 0 Q.1.length) (cS k) h11 oB J OM<|cG (v:=(iV<|aA Q.1 k)) J h11 (dU OM JR)<|dQ (i:=(aA Q.1 k)) (aM<|aC m.nx) (aM<|iV<|aA Q.1 k) OM OM J<|aJ J J<|aI t5<|dL (i:=j) (aM<|aD<|aA m.nx (aA Q.1 k).toNat) (cS j)<|aJ J J<|kS (bI (aM<|V.ms 11 w2 0 Q.1.length)<|bI (aM<|iV<|aA (aA m.nx (aA Q.1 k).toNat) j) dR) (aHs Q.1<|aA (aA m.nx (aA Q.1 k).toNat) j) (cO (wW h11 SI (uJ (l:=Q.1) JR) (λ_=>by simp))<|cO (dN 6 _ (by simp [-List.map_take,-List.map_drop,-List.map_append,-List.map_reverse])) J) (by simp [-List.map_take,-List.map_drop,-List.map_append,-List.map_reverse]) (Or.inr J) ?_));refine uQ J<|cE ?_
   refine gE J (λc10=>?_) λc10=>?_
   . 
    have d2:aA Q.2 (aA (aA m.nx (aA P.1 k).toNat) j).toNat=false:=by
      have z:=mt (hrq.mem (aA (aA m.nx (aA P.1 k).toNat) j) r2.1 r2.2).1 (hn.1 ▸ c10);simpa using z
    refine fO<|aI t3<|aZ t1 h1 J J<|aI t3<|aI t4<|dG (i:=k) (aM<|V.ms 11 w2 0 Q.1.length) (cS k) h11 oB J OM<|cG (v:=(iV<|aA Q.1 k)) J h11 (dU OM JR)<|dQ (i:=(aA Q.1 k)) (aM<|aC m.nx) (aM<|iV<|aA Q.1 k) OM OM J<|aJ J J<|aI t5<|dL (i:=j) (aM<|aD<|aA m.nx (aA Q.1 k).toNat) (cS j)<|aJ J J<|aY J J<|gF (l:=Q.1) (f:=cI) (x:=(aA (aA m.nx (aA Q.1 k).toNat) j)) (aM<|V.ms 11 w2 0 Q.1.length) h11 JR (aM<|V.sl [[(iV<|aA (aA m.nx (aA Q.1 k).toNat) j)]])<|aP ?_
    refine cE<|n9 _ _ (.done (fO<|aI t5<|cD J<|aE ?_))
    refine p17 _ _ _ ?_ ⟨(j+1),(w2+1),(oT Q<|aA (aA m.nx (aA P.1 k).toNat) j),J,t1,(bG (aM<|V.ms 11 (w2+1) 0<|Q.1.length+1) (by (rw [aMu d2,List.length_append]; rfl))),t4,(bG (cS<|j+1) JR),h1,(bG (@J Blk<|bk (w2+1) 3 1<|List.map cI<|Q.1++[(aA (aA m.nx (aA Q.1 k).toNat) j)]) (by (rw [aMu d2,hn.1]; done))),?_,?_,?_,?_⟩
    . omega
    . omega
    . rw [aC9 OM,<- hq]
    . exact hrq.step r2.1 r2.2
    . exact aFQ hn OM
   have d2:aA Q.2 (aA (aA m.nx (aA P.1 k).toNat) j).toNat=true:=(hrq.mem (aA (aA m.nx (aA P.1 k).toNat) j) r2.1 r2.2).2 (Decidable.not_not.1<|hn.1 ▸ c10);refine dH<|n9 _ _ (.done (fO<|aI t5<|cD J<|aE ?_))
   refine p17 _ _ _ ?_ ⟨(j+1),w2,(oT Q<|aA (aA m.nx (aA P.1 k).toNat) j),J,t1,(bG t3 (by (rw [aIY d2]; done))),t4,(bG (cS<|j+1) JR),h1,(bG h11 (by (rw [aIY d2]; done))),?_,?_,?_,?_⟩
   . omega
   . omega
   . rw [aC9 OM,<- hq]
   . exact hrq.step r2.1 r2.2
   . exact aFQ hn OM
  have e9:Q=rN m P k:=by rw [hq]; unfold rN; rw [List.take_of_length_le OM]
  refine aS<|p37 _ _ _<|x6 _ _<|n5 _ _ (.done (fO<|aI t4<|cD J<|aE ?_))
  refine p13 _ _ _ ?_ ⟨(k+1),w2,(rN m P k),J,t1,(bG t3 (by (rw [<- e9]; done))),(bG (cS<|k+1) JR),h1,(bG h11 (by (rw [<- e9]; done))),?_,?_,?_⟩
  . omega
  . obtain ⟨x,hx⟩:=oM (aA m.nx (aA P.1 k).toNat) P
    have hg:(rN m P k).1=P.1++x:=hx;rw [hg,List.length_append]; omega
  . exact hr.row hm OM
  . rw [hc,aRp OM OM]
 refine aS<|p33 _ _ _<|x2 _ _ (.done (aU<|aI t3<|aE<|bE ?_))
 refine aW (aM<|V.ms 11 w 0 P.1.length)<|mI h11 SI (l:=P.1) J JR (λ_=>by simp) ?_
 . rw [rch,if_neg OM,hc,aJX OM]
theorem aD8 (l:List Int) (n:Int) (hn:n∈l):bJ Tryz.prog 92 [(aD l),(iV n)] (iV (idL l n)):=by
 refine' pK [] [] Tryz.func92 ?e λhB=>?_
 case e=>conv=>lhs; cbv
 dsimp only;have q0:=aEq hn;refine aU<|aE<|aO<|aE (aF λQ1 n1 x1 y1 z1=>?_)
 refine cF (λmm T H=> ∃ (k:Nat),mm=l.length - k/\T 0=(aD l)/\T 1=(iV n)/\T 5=(iV ((k:Nat):Int))/\(k<=l.length)/\(idL l n=fi (λj=>decide (aA l j=n)) k (l.length - k))) ?_ ?_
 . 
  refine ⟨_,0,J,J,J,(bG (aM<|iV 0) J),?_,?_⟩
  . omega
  . rfl
 intro mm T H ⟨k,hmm,t0,t1,t5,hk,hc⟩ Q2 p12 p22 p32;refine aO<|aI t5<|aI t0<|bA J<|bY J J<|cE ?_
 refine aG J (λc3=>?_) λc3=>?_
 . 
  refine aB (aF λQ4 n4 x4 y4 z4=>(aU<|aI t0<|aI t5<|dL (i:=k) (aM<|aD l) (cS k)<|aJ J J<|aI t1<|fP J J<|cE ?_));refine gE J (λc5=>?_) λc5=>?_
  . 
   have d1:=c5;refine aU<|aI t5<|aE<|bE<|y4 _ _<|p22 _ _<|y1 _ _ ?_
   refine aW (cS k)<|aH ?_
   . rw [hc,qZ (p:=λj=>decide (aA l j=n)) (decide_eq_true d1) OM]
  have d1:=c5;refine dH<|n4 _ _ (.done (fO<|aI t5<|cD J<|aE ?_))
  refine p12 _ _ _ ?_ ⟨(k+1),J,t0,t1,(bG (cS<|k+1) JR),?_,?_⟩
  . omega
  . omega
  . rw [hc,mX (p:=λj=>decide (aA l j=n)) (decide_eq_false d1) OM]
 refine aS<|p32 _ _ _<|x1 _ _ (.done (aU<|aE<|bE ?_))
 refine aW (aM<|iV 0)<|aH ?_
 . exfalso; rw [hc,pF OM] at q0; omega
theorem aHI (m:M):bJ Tryz.prog 44 [(V.agg [(iV m.i),(iV m.s),(aC m.nx),(aC m.ot)])] (V.tup [(V.agg [(iV ((rB m).i)),(iV ((rB m).s)),(aC ((rB m).nx)),(aC ((rB m).ot))]),(iV (bK m))]):=by
 refine' pK [8,9] [] Tryz.func44 ?e λhB=>?_
 case e=>conv=>lhs; cbv
 dsimp only;refine aU<|cJ (i:=1) (n:=0) (m:=4) (cs:=[(iV m.i),(iV m.s),(aC m.nx),(aC m.ot)]) J (cM J) J J J<|bX (i:=2) (n:=0) (m:=4) J (cM J) J<|aE<|aO<|bB J J J J<|aL (nB m) J<|aE<|aO<|aP<|cA J J<|cE ?_
 refine aG J (λc1=>?_) λc1=>?_
 . 
  have d0:=c1;refine aO<|bZ J J<|aP<|cZ (vs:=[(iV 0),(iV 0),V.nilsl,V.nilsl]) (B':=bNq) J J J J (sB oB J J J J J)<|aE<|aN ?_
  refine fF (cH (u:=(V.agg [(iV 0),(iV 0),V.nilsl,V.nilsl])) J (@J Blk bNq)<|lB oB J J) (bM<|aM<|iV<|bK m) (mA<|cO (aH ?_)<|cO (aH ?_)<|cO (cC ?_)<|cO (cC ?_) J)<|eA SI J
  . rw [rB,if_neg d0]; try rfl
  . rw [rB,if_neg d0]; try rfl
  . rw [rB,if_neg d0]; try rfl
  . rw [rB,if_neg d0]; try rfl
 have d0:=c1;have hm:bK m=0:=OM
 have mo:=cY hm;have rc:=qT hm;have rl:=rc.len;have me:=mo.2.2.2.2.2.2.1;refine aB<|aU<|bB J J J J<|aL (aGx m) J<|aE<|aU<|aZ J J J J<|bZ J J<|bX (i:=6) (n:=0) (m:=4) J (cM J) J<|cZ (vs:=[(iV m.i),(iV 0),V.nilsl,V.nilsl]) (B':=(bk 1 24 4 [[(iV m.i),(iV 0),V.nilsl,V.nilsl]])) J J J J (sB oB J J J J J)<|zL<|W_g<|aP ?_
 refine cE<|fL (R:=λT H=>T 1=(cR 1)/\T 2=(cR 2)/\T 5=(aD<|rch m)/\T 6=(cR 6)/\T 7=(iV 0)/\H 1=(jV m)/\H 2=bNq/\H 6=(bk 1 24 4 [[(iV m.i),(iV 0),V.nilsl,V.nilsl]])/\H 8=iN/\H 9=iN/\H 812=iN/\H 813=iN/\True) ⟨(aM<|cR 1),(aM<|cR 2),(aM<|aD<|rch m),(aM<|cR 6),(aM<|iV 0),J,J,J,J,J,J,J,trivial⟩ ?_
 intro T H ⟨t1,t2,t5,t6,t7,h1,h2,h6,h8,h9,h812,h813,_⟩;refine .lazyCell 812 54 1 6 0 2 [(iV m.i),(iV 0),V.nilsl,V.nilsl] DE (by rw [h6]; rfl) (by rw [h6]; rfl) J (fL (R:=λT H=>T 1=(cR 1)/\T 2=(cR 2)/\T 5=(aD<|rch m)/\T 6=(cR 6)/\T 7=(iV 0)/\H 1=(jV m)/\H 2=bNq/\H 6=(bk 1 24 4 [[(iV m.i),(iV 0),(V.ms 812 1 0 0),V.nilsl]])/\H 8=iN/\H 9=iN/\H 812=(bz 1 54 1 [])/\H 813=iN/\True) ⟨t1,t2,t5,t6,t7,(iI<|iI h1),(iI<|iI h2),(by rw [aR,h6,(cM h812)]; rfl),(iI<|iI h8),(iI<|iI h9),(by rw [bT _ _ DE,aR,(cM h812)]),(iI<|iI h813),trivial⟩ ?_);intro T H ⟨t1,t2,t5,t6,t7,h1,h2,h6,h8,h9,h812,h813,_⟩;refine .lazyCell 813 54 1 6 0 3 [(iV m.i),(iV 0),(V.ms 812 1 0 0),V.nilsl] DE (by rw [h6]; rfl) (by rw [h6]; rfl) J (.done ?_);refine fL (R:=λT H=>T 1=(cR 1)/\T 2=(cR 2)/\T 5=(aD<|rch m)/\T 6=(cR 6)/\T 7=(iV 0)/\H 1=(jV m)/\H 2=bNq/\H 6=(bk 1 24 4 [[(iV m.i),(iV 0),(V.ms 812 1 0 0),(V.ms 813 1 0 0)]])/\H 8=iN/\H 9=iN/\H 812=(bz 1 54 1 [])/\H 813=(bz 1 54 1 [])/\True) ⟨t1,t2,t5,t6,t7,(iI<|iI h1),(iI<|iI h2),(by rw [aR,h6,(cM h813)]; rfl),(iI<|iI h8),(iI<|iI h9),(iI<|iI h812),(by rw [bT _ _ DE,aR,(cM h813)]),trivial⟩ ?_;intro T H ⟨t1,t2,t5,t6,t7,h1,h2,h6,h8,h9,h812,h813,_⟩;refine aF λQ2 n2 x2 y2 z2=>?_;refine cF (λmm T H=> ∃ (k:Nat) (v:Nat) (w:Nat) (v8:Nat) (v9:Nat),mm=(rch m).length - k/\T 1=(cR 1)/\T 2=(cR 2)/\T 5=(aD<|rch m)/\T 6=(cR 6)/\T 7=(iV ((k:Nat):Int))/\H 1=(jV m)/\H 2=bNq/\H 6=(bk 1 24 4 [[(iV m.i),(iV 0),(V.ms 812 v 0 k),(V.ms 813 w 0 k)]])/\((H 8).ver=v8/\(H 8).live=false)/\((H 9).ver=v9/\(H 9).live=false)/\H 812=(bz v 54 1<|List.map cL<|eI (tNx m) k)/\H 813=(bz w 54 1<|List.map cL<|eI (tOt m) k)/\(k<=(rch m).length)) ?_ ?_
 . 
  refine ⟨_,0,1,1,0,0,J,t1,t2,t5,t6,(bG t7 J),h1,h2,h6,⟨(cM h8),congrArg Blk.live h8⟩,⟨(cM h9),congrArg Blk.live h9⟩,(bG h812 JR),(bG h813 JR),?_⟩
  . exact Nat.zero_le _
 intro mm T H ⟨k,v,w,v8,v9,hmm,t1,t2,t5,t6,t7,h1,h2,h6,h8,h9,h812,h813,hk⟩ Q3 p13 p23 p33;refine aO<|aI t7<|aI t5<|bA J<|bY J J<|cE ?_
 refine aG J (λc4=>?_) λc4=>?_
 . 
  have rk:=rc.rng k OM;have rr:=mo.2.2.2.2.2.2.2 (aA (rch m) k).toNat OM;refine aB (aF λQ5 n5 x5 y5 z5=>(aU<|iD (i:=8) (n:=v8) J h8.1<|iD (i:=9) (n:=v9) J h9.1<|zL<|aU<|aE (aF λQ6 n6 x6 y6 z6=>?_)));refine cF (λmm T H=> ∃ (j:Nat) (v2:Nat) (w2:Nat),mm=m.i.toNat - j/\T 1=(cR 1)/\T 2=(cR 2)/\T 5=(aD<|rch m)/\T 6=(cR 6)/\T 7=(iV ((k:Nat):Int))/\T 8=(V.ms 8 v2 0 j)/\T 9=(V.ms 9 w2 0 j)/\T 10=(iV ((j:Nat):Int))/\H 1=(jV m)/\H 2=bNq/\H 6=(bk 1 24 4 [[(iV m.i),(iV 0),(V.ms 812 v 0 k),(V.ms 813 w 0 k)]])/\H 8=(bz v2 3 1<|List.map cI<|eI (wY m k) j)/\H 9=(bz w2 3 1<|List.map cI<|eI (aEo m k) j)/\H 812=(bz v 54 1<|List.map cL<|eI (tNx m) k)/\H 813=(bz w 54 1<|List.map cL<|eI (tOt m) k)/\(j<=m.i.toNat)) ?_ ?_
  . 
   refine ⟨_,0,(v8+1),(v9+1),J,t1,t2,t5,t6,t7,(bG (aM<|V.ms 8 (v8+1) 0 0) JR),(bG (aM<|V.ms 9 (v9+1) 0 0) JR),(bG (aM<|iV 0) J),h1,h2,h6,(bG (@J Blk<|bz (v8+1) 3 1 []) JR),(bG (@J Blk<|bz (v9+1) 3 1 []) JR),h812,h813,?_⟩
   . exact Nat.zero_le _
  intro mm T H ⟨j,v2,w2,hmm,t1,t2,t5,t6,t7,t8,t9,t10,h1,h2,h6,h8,h9,h812,h813,hj⟩ Q7 p17 p27 p37;refine aO<|aI t10<|aZ t1 h1 J J<|bY J J<|cE ?_
  refine aG J (λc8=>?_) λc8=>?_
  . 
   have rj:=rr.2.2 j OM;have rin:=rc.clo k OM _<|bC (show j < (aA m.nx (aA (rch m) k).toNat).length by omega)
   refine aB (aF λQ9 n9 x9 y9 z9=>(aU<|aI t8<|aI t5<|aZ t1 h1 J J<|aI t5<|aI t7<|dL (i:=k) (aM<|aD<|rch m) (cS k)<|aJ J J<|dQ (i:=(aA (rch m) k)) (aM<|aC m.nx) (aM<|iV<|aA (rch m) k) OM OM J<|aJ J J<|aI t10<|dL (i:=j) (aM<|aD<|aA m.nx (aA (rch m) k).toNat) (cS j)<|aJ J J ?_));refine aL (aD8 (rch m) (aA (aA m.nx (aA (rch m) k).toNat) j) rin) J<|aY J J<|gF (l:=(eI (wY m k) j)) (f:=cI) (x:=(idL (rch m)<|aA (aA m.nx (aA (rch m) k).toNat) j)) (aM<|V.ms 8 v2 0 j) h8 (by exact (bS _ _).symm) (aM<|V.sl [[(iV<|idL (rch m)<|aA (aA m.nx (aA (rch m) k).toNat) j)]])<|aE<|fO<|aI t9<|aZ t1 h1 J J<|aI t5<|aI t7<|dL (i:=k) (aM<|aD<|rch m) (cS k)<|aJ J J<|dQ (i:=(aA (rch m) k)) (aM<|aC m.ot) (aM<|iV<|aA (rch m) k) OM OM J<|aJ J J<|aI t10 ?_
   refine dL (i:=j) (aM<|aD<|aA m.ot (aA (rch m) k).toNat) (cS j)<|aJ J J<|aY J J<|gF (l:=(eI (aEo m k) j)) (f:=cI) (x:=(aA (aA m.ot (aA (rch m) k).toNat) j)) (aM<|V.ms 9 w2 0 j) h9 (by exact (bS _ _).symm) (aM<|V.sl [[(iV<|aA (aA m.ot (aA (rch m) k).toNat) j)]])<|aE<|n9 _ _ (.done (fO<|aI t10<|cD J<|aE ?_))
   refine p17 _ _ _ ?_ ⟨(j+1),(v2+1),(w2+1),J,t1,t2,t5,t6,t7,(bG (aM<|V.ms 8 (v2+1) 0<|j+1) JR),(bG (aM<|V.ms 9 (w2+1) 0<|j+1) JR),(bG (cS<|j+1) JR),h1,h2,h6,(bG (@J Blk<|bz (v2+1) 3 1<|List.map cI<|eI (wY m k) j++[(idL (rch m)<|aA (aA m.nx (aA (rch m) k).toNat) j)]) (by (rw [fK]; first|done|rfl))),(bG (@J Blk<|bz (w2+1) 3 1<|List.map cI<|eI (aEo m k) j++[(aA (aA m.ot (aA (rch m) k).toNat) j)]) (by (rw [fK]; first|done|rfl))),h812,h813,?_⟩
   . omega
   . omega
  have ej:tNx m k=eI (wY m k) j:=by unfold tNx; rw [show m.i.toNat=j by omega]
  have eo:tOt m k=eI (aEo m k) j:=by unfold tOt; rw [show m.i.toNat=j by omega]
  refine aS<|p37 _ _ _<|x6 _ _ ?_
  refine .freeze 8 (.done ?_);refine W_g<|cQ (aX t6 J) (aQ (id:=8) h6 DE)<|bB J (aQ (id:=8) h6 DE) J J<|aI (aX t8<|mW h8 SI (l:=(eI (wY m k) j)) J (by exact (bS _ _).symm))<|aY J J<|gF (l:=(eI (tNx m) k)) (f:=cL) (x:=(eI (wY m k) j)) (aM<|V.ms 812 v 0 k) (aQ (id:=8) h812 DE) (by exact (bS _ _).symm) (aM<|V.sl [[(aD<|eI (wY m k) j)]])<|cQ (aX t6 J) (aQ (id:=8) h6 DE)<|cZ (vs:=[(V.ms 812 (v+1) 0<|k+1)]) (B':=(bk 1 24 4 [[(iV m.i),(iV 0),(V.ms 812 (v+1) 0<|k+1),(V.ms 813 w 0 k)]])) J J J (aQ (id:=8) h6 DE) (sB oB J J J J J)<|cE ?_
  refine .freeze 9 (.done ?_);refine fO<|cQ (aX (aX t6 J) J) J<|bB J J J J<|aI (aX (aX t9<|dV DE)<|mW (aQ (id:=8) h9 DE) SI (l:=(eI (aEo m k) j)) J (by exact (bS _ _).symm))<|aY J J<|gF (l:=(eI (tOt m) k)) (f:=cL) (x:=(eI (aEo m k) j)) (aM<|V.ms 813 w 0 k) (aQ (id:=9) (aQ (id:=8) h813 DE) DE) (by exact (bS _ _).symm) (aM<|V.sl [[(aD<|eI (aEo m k) j)]])<|cQ (aX (aX t6 J) J) J<|cZ (vs:=[(V.ms 813 (w+1) 0<|k+1)]) (B':=(bk 1 24 4 [[(iV m.i),(iV 0),(V.ms 812 (v+1) 0<|k+1),(V.ms 813 (w+1) 0<|k+1)]])) J J J J (sB oB J J J J J)<|cE<|n5 _ _ (.done (fO<|aI (aX (aX t7 J) J)<|cD J<|aE ?_))
  refine p13 _ _ _ ?_ ⟨(k+1),(v+1),(w+1),v2,w2,J,(aX (aX t1 J) J),(aX (aX t2 J) J),(aX (aX t5 J) J),(aX (aX t6 J) J),(bG (cS<|k+1) JR),(aQ (id:=9) (aQ (id:=8) h1 DE) DE),(aQ (id:=9) (aQ (id:=8) h2 DE) DE),(bG (@J Blk<|bk 1 24 4 [[(iV m.i),(iV 0),(V.ms 812 (v+1) 0<|k+1),(V.ms 813 (w+1) 0<|k+1)]]) JR),(gV (id:=9)<|fW<|cM h8),(fW<|cM<|aQ (id:=8) h9 DE),(bG (@J Blk<|bz (v+1) 54 1<|List.map cL<|eI (tNx m) k++[eI (wY m k) j]) (by (rw [fK,ej]; first|done|rfl))),(bG (@J Blk<|bz (w+1) 54 1<|List.map cL<|eI (tOt m) k++[eI (aEo m k) j]) (by (rw [fK,eo]; first|done|rfl))),?_⟩
  . omega
  . omega
 refine aS<|p33 _ _ _<|x2 _ _ (.done (aU<|bB t6 h6 J J<|cZ (vs:=[(iV m.i),(iV 0),(V.ms 812 v 0 k),(V.ms 813 w 0 k)]) (B':=(bk 1 24 4 [[(iV m.i),(iV 0),(V.ms 812 v 0 k),(V.ms 813 w 0 k)]])) t2 J J h2 (sB oB J J J J J)<|aE<|bE ?_))
 refine fF (cH (u:=(V.agg [(iV m.i),(iV 0),(V.ms 812 v 0 k),(V.ms 813 w 0 k)])) t2 (@J Blk<|bk 1 24 4 [[(iV m.i),(iV 0),(V.ms 812 v 0 k),(V.ms 813 w 0 k)]])<|lB oB J J) (bM<|aM<|iV 0) (mA<|cO (aH ?_)<|cO (aH ?_)<|cO (mI h812 SI (l:=(eI (tNx m) k)) J (by exact (bS _ _).symm) (λ_=>by simp) ?_)<|cO (mI h813 SI (l:=(eI (tOt m) k)) J (by exact (bS _ _).symm) (λ_=>by simp) ?_) J)<|aH ?_
 . rw [rB,if_pos hm,zN hm]; try first|rfl|(rw [show k=(rch m).length by omega]; done)|(rw [show k=(rch m).length by omega]; rfl)
 . rw [rB,if_pos hm,zN hm]; try first|rfl|(rw [show k=(rch m).length by omega]; done)|(rw [show k=(rch m).length by omega]; rfl)
 . rw [rB,if_pos hm,zN hm]; try first|rfl|(rw [show k=(rch m).length by omega]; done)|(rw [show k=(rch m).length by omega]; rfl)
 . rw [rB,if_pos hm,zN hm]; try first|rfl|(rw [show k=(rch m).length by omega]; done)|(rw [show k=(rch m).length by omega]; rfl)
 . exact hm.symm
theorem aHl (h m:M):bJ Tryz.prog 16 [(V.agg [(iV h.i),(iV h.s),(aC h.nx),(aC h.ot)]),(V.agg [(iV m.i),(iV m.s),(aC m.nx),(aC m.ot)])] (V.bool (decide (((bK m=0/\bK h=0)/\h.nx.length=(jQ m).nx.length)/\rB h=jQ m))):=by
 refine' pK [] [] Tryz.func16 ?e λhB=>?_
 case e=>conv=>lhs; cbv
 dsimp only;refine aU<|cJ (i:=2) (n:=0) (m:=4) (cs:=[(iV h.i),(iV h.s),(aC h.nx),(aC h.ot)]) J (cM J) J J J<|cJ (i:=3) (n:=0) (m:=4) (cs:=[(iV m.i),(iV m.s),(aC m.nx),(aC m.ot)]) J (cM J) J J J<|aE<|aU<|bB J J J J<|aL (aDz m) J<|aP<|bR J J<|bR J J<|bX (i:=5) (n:=0) (m:=4) J (cM J) J<|dA J J J J J J J J J<|aE<|aU ?_
 refine bB J J J J<|aL (aHI h) J<|aP<|bR J J<|bR J J<|bX (i:=7) (n:=0) (m:=4) J (cM J) J<|dA J J J J J J J J J<|aE<|aU<|aP<|fP J J<|aP ?_
 refine bN 3 (λT H=>T 2=(cR 2)/\T 5=(cR 5)/\T 7=(cR 7)/\T 24=(V.bool<|decide (((bK m)=(0:Int))/\((bK h)=(0:Int))))/\H 2=(bk 1 24 4 [[(iV h.i),(iV h.s),(aC h.nx),(aC h.ot)]])/\H 3=(jV m)/\H 5=(bk 1 24 4 [[(iV<|(jQ m).i),(iV<|(jQ m).s),(aC<|(jQ m).nx),(aC<|(jQ m).ot)]])/\H 7=(bk 1 24 4 [[(iV<|(rB h).i),(iV<|(rB h).s),(aC<|(rB h).nx),(aC<|(rB h).ot)]])/\True) ?_ ?_
 . 
  by_cases g1:(bK m)=(0:Int)
  . 
   refine aK (bU g1 J)<|aP<|aK (bU g1 J)<|fP J J<|bP (bU g1 J) J ?_
   exact ⟨J,J,J,(eY g1),J,J,J,J,trivial⟩
  . 
   refine bQ (bV g1 J)<|bQ (bV g1 J)<|bO (bV g1 J) J ?_
   exact ⟨J,J,J,(eX g1),J,J,J,J,trivial⟩
 intro T H ⟨t2,t5,t7,t24,h2,h3,h5,h7,_⟩;refine aI t24 ?_;refine bN 8 (λT H=>T 5=(cR 5)/\T 7=(cR 7)/\T 33=(V.bool<|decide ((((bK m)=(0:Int))/\((bK h)=(0:Int)))/\(((h.nx.length:Nat):Int)=((((jQ m).nx).length:Nat):Int))))/\H 2=(bk 1 24 4 [[(iV h.i),(iV h.s),(aC h.nx),(aC h.ot)]])/\H 3=(jV m)/\H 5=(bk 1 24 4 [[(iV<|(jQ m).i),(iV<|(jQ m).s),(aC<|(jQ m).nx),(aC<|(jQ m).ot)]])/\H 7=(bk 1 24 4 [[(iV<|(rB h).i),(iV<|(rB h).s),(aC<|(rB h).nx),(aC<|(rB h).ot)]])/\True) ?_ ?_
 . 
  by_cases g2:((bK m)=(0:Int))/\((bK h)=(0:Int))
  . 
   refine aK (bU g2 J)<|cQ t2 h2<|aK (bU g2 J)<|bB J h2 J J<|aK (bU g2 J)<|bA J<|aK (bU g2 J)<|cQ t5 h5<|aK (bU g2 J)<|bB J h5 J J<|aK (bU g2 J)<|bA J<|aK (bU g2 J)<|fP J J<|bP (bU g2 J) J ?_
   exact ⟨t5,t7,(eY g2),h2,h3,h5,h7,trivial⟩
  . 
   refine bQ (bV g2 J)<|bQ (bV g2 J)<|bQ (bV g2 J)<|bQ (bV g2 J)<|bQ (bV g2 J)<|bQ (bV g2 J)<|bQ (bV g2 J)<|bO (bV g2 J) J ?_
   exact ⟨t5,t7,(eX g2),h2,h3,h5,h7,trivial⟩
 intro T H ⟨t5,t7,t33,h2,h3,h5,h7,_⟩;refine aI t33 ?_;refine bN 4 (λT H=>T 38=(V.bool<|decide (((((bK m)=(0:Int))/\((bK h)=(0:Int)))/\(((h.nx.length:Nat):Int)=((((jQ m).nx).length:Nat):Int)))/\((rB h)=(jQ m))))/\H 2=(bk 1 24 4 [[(iV h.i),(iV h.s),(aC h.nx),(aC h.ot)]])/\H 3=(jV m)/\H 5=(bk 1 24 4 [[(iV<|(jQ m).i),(iV<|(jQ m).s),(aC<|(jQ m).nx),(aC<|(jQ m).ot)]])/\H 7=(bk 1 24 4 [[(iV<|(rB h).i),(iV<|(rB h).s),(aC<|(rB h).nx),(aC<|(rB h).ot)]])/\True) ?_ ?_
 . 
  by_cases g3:(((bK m)=(0:Int))/\((bK h)=(0:Int)))/\(((h.nx.length:Nat):Int)=((((jQ m).nx).length:Nat):Int))
  . 
   refine aK (bU g3 J)<|bB t7 h7 J J<|aK (bU g3 J)<|bB t5 h5 J J<|aK (bU g3 J)<|aL (aHF (rB h)<|jQ m) J<|bP (bU g3 J) J ?_
   exact ⟨(eY g3),h2,h3,h5,h7,trivial⟩
  . 
   refine bQ (bV g3 J)<|bQ (bV g3 J)<|bQ (bV g3 J)<|bO (bV g3 J) J ?_
   exact ⟨(eX g3),h2,h3,h5,h7,trivial⟩
 intro T H ⟨t38,h2,h3,h5,h7,_⟩;refine aI t38<|R_q ?_
 refine aW (aM<|V.bool<|decide (((((bK m)=(0:Int))/\((bK h)=(0:Int)))/\(((h.nx.length:Nat):Int)=((((jQ m).nx).length:Nat):Int)))/\((rB h)=(jQ m))))<|cK ?_
 . first|rfl|(rw [decide_eq_decide]; constructor <;> (intro q; exact ⟨⟨q.1.1,OM⟩,q.2⟩))
theorem aDV (m:M) (o:Ob) (hm:bK m=0) (ho:jE o=0) (hi:o.i=m.i):bJ Tryz.prog 18 [(V.agg [(iV m.i),(iV m.s),(aC m.nx),(aC m.ot)]),(V.agg [(iV o.i),(V.sl (List.map cT o.tr))])] (V.bool (lF m o)):=by
 refine' pK [] [] Tryz.func18 ?e λhB=>?_
 case e=>conv=>lhs; cbv
 dsimp only;have ok:=lR ho;have hq:=cY hm;refine aU<|cJ (i:=2) (n:=0) (m:=4) (cs:=[(iV m.i),(iV m.s),(aC m.nx),(aC m.ot)]) J (cM J) J J J<|cJ (i:=3) (n:=0) (m:=2) (cs:=[(iV o.i),(V.sl<|List.map cT o.tr)]) J (cM J) J J J<|aE<|aO<|aE (aF λQ1 n1 x1 y1 z1=>?_)
 refine cF (λmm T H=> ∃ (k:Nat),mm=o.tr.length - k/\T 2=(cR 2)/\T 3=(cR 3)/\T 5=(iV ((k:Nat):Int))/\H 2=(jV m)/\H 3=(bk 1 31 2 [[(iV o.i),(V.sl<|List.map cT o.tr)]])/\(k<=o.tr.length)/\(fe (aBD m o) 0 o.tr.length=fe (aBD m o) k (o.tr.length - k))) ?_ ?_
 . 
  refine ⟨_,0,J,J,J,(bG (aM<|iV 0) J),J,J,?_,?_⟩
  . omega
  . rfl
 intro mm T H ⟨k,hmm,t2,t3,t5,h2,h3,hk,hc⟩ Q2 p12 p22 p32;refine aO<|aI t5<|aZ t3 h3 J J<|bA J<|bY J J<|cE ?_
 refine aG J (λc3=>?_) λc3=>?_
 . 
  have r1:=ok.mem<|bC (show k < o.tr.length by omega)
  refine aB (aF λQ4 n4 x4 y4 z4=>(aU<|bB t2 h2 J J<|aZ t2 h2 J J<|aZ t3 h3 J J<|aI t5<|dL (i:=k) (aM<|V.sl<|List.map cT o.tr) (cS k)<|dY (cs':=[(aD<|(aA o.tr k).ni),(aD<|(aA o.tr k).no)]) J J<|aJ J J<|aL (aDp m m.s ((aA o.tr k).ni) hm ⟨OM,OM⟩ r1.1.lel (by rw [<- hi]; exact r1.1.sym)) J<|aP<|bR J J<|bR J J ?_));refine aP<|aE<|aU<|aP<|aZ t3 h3 J J<|aI t5<|dL (i:=k) (aM<|V.sl<|List.map cT o.tr) (cS k)<|dY (cs':=[(aD<|(aA o.tr k).no)]) J J<|aJ J J<|aL (aDC (aV m m.s<|(aA o.tr k).ni)<|(aA o.tr k).no) J<|uQ J<|cE ?_
  refine gE J (λc5=>?_) λc5=>?_
  . 
   have d1:aBD m o k≠0:=by unfold aBD; rw [if_neg c5]; decide
   refine aU<|aE<|bE<|y4 _ _<|p22 _ _<|y1 _ _ ?_
   refine aW (aM<|V.bool false)<|cK ?_
   . unfold lF; exact (decide_eq_false (by rw [hc,gH (e:=aBD m o) d1 OM]; exact d1)).symm
  have d1:aBD m o k=0:=by unfold aBD; rw [if_pos (Decidable.not_not.1 c5)]
  refine dH<|n4 _ _ (.done (fO<|aI t5<|cD J<|aE ?_))
  refine p12 _ _ _ ?_ ⟨(k+1),J,t2,t3,(bG (cS<|k+1) JR),h2,h3,?_,?_⟩
  . omega
  . omega
  . rw [hc,gW (e:=aBD m o) d1 OM]
 refine aS<|p32 _ _ _<|x1 _ _ (.done (aU<|aE<|bE ?_))
 refine aW (aM<|V.bool true)<|cK ?_
 . unfold lF; exact (decide_eq_true (by rw [hc,jK OM])).symm
theorem aHA (o:Ob) (m:M) (hm:bK m=0) (ho:jE o=0):bJ Tryz.prog 17 [(V.agg [(iV o.i),(V.sl (List.map cT o.tr))]),(V.agg [(iV m.i),(iV m.s),(aC m.nx),(aC m.ot)])] (V.bool (agB o m)):=by
 refine' pK [] [] Tryz.func17 ?e λhB=>?_
 case e=>conv=>lhs; cbv
 dsimp only;refine aU<|cJ (i:=2) (n:=0) (m:=2) (cs:=[(iV o.i),(V.sl<|List.map cT o.tr)]) J (cM J) J J J<|cJ (i:=3) (n:=0) (m:=4) (cs:=[(iV m.i),(iV m.s),(aC m.nx),(aC m.ot)]) J (cM J) J J J<|aE<|aU<|aZ J J J J<|aZ J J J J<|fP J J<|aP ?_
 refine bN 4 (λT H=>T 14=(V.bool<|decide (o.i=m.i)&&(lF m o))/\H 2=(bk 1 31 2 [[(iV o.i),(V.sl<|List.map cT o.tr)]])/\H 3=(jV m)/\True) ?_ ?_
 . 
  by_cases g1:o.i=m.i
  . 
   refine aK (bU g1 J)<|bB J J J J<|aK (bU g1 J)<|bB J J J J<|aK (bU g1 J)<|aL (aDV m o hm ho (by assumption)) J<|bP (bU g1 J) J ?_
   exact ⟨(aFq g1),J,J,trivial⟩
  . 
   refine bQ (bV g1 J)<|bQ (bV g1 J)<|bQ (bV g1 J)<|bO (bV g1 J) J ?_
   exact ⟨(aEM g1),J,J,trivial⟩
 intro T H ⟨t14,h2,h3,_⟩;refine aI t14<|R_q ?_
 refine aW (aM<|V.bool<|decide (o.i=m.i)&&(lF m o))<|cK ?_
 . rfl
end
end Go.Proofs.YtinpihlhcmpkhaaGreat
