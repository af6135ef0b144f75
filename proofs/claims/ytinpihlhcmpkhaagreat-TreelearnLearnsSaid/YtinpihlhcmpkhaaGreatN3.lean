/- Contracts of the functions that the law N reaches, and the law itself, for every input; no condition. -/
import Derived.KernelRfl
import Derived.Test.YtinpihlhcmpkhaaGreatProg
import Derived.Test.YtinpihlhcmpkhaaGreatN2
set_option linter.unusedSimpArgs false
set_option linter.unusedVariables false
set_option maxRecDepth 20000
set_option maxHeartbeats 1000000
namespace Go.Proofs.YtinpihlhcmpkhaaGreat
section
open Go Go.Proofs
theorem sV (l:Ts) (o:Ob) (hb:Bd l.t) (ho:jE o=0) (hx:(dC l).length<=5000):bJ Tryz.prog 20 [(V.agg [(iV l.i),(V.sl (List.map cN l.t.nd))]),(V.agg [(iV o.i),(V.sl (List.map cT o.tr))])] (V.tup [(V.agg [(iV ((dJ l o).1.i)),(V.sl (List.map cN ((dJ l o).1.t.nd)))]),(aC ((dJ l o).2.1)),(V.bool ((dJ l o).2.2.1)),(iV ((dJ l o).2.2.2))]):=by
 refine' pK [] [⟨16,[0,1,2,3,4,5,6,7,8,9,10,11,12,13,14,15,16,17,18,19,20,21,22,23,24],[15],[]⟩] Tryz.func20 ?e λhB=>?_
 case e=>conv=>lhs; cbv
 dsimp only;have hal:=pP l.t.nd;have hxn:=aJU l o

 refine aU<|cJ (i:=2) (n:=0) (m:=2) (cs:=[(iV l.i),(V.sl<|List.map cN l.t.nd)]) J (cM J) J J J<|cJ (i:=3) (n:=0) (m:=2) (cs:=[(iV o.i),(V.sl<|List.map cT o.tr)]) J (cM J) J J J<|bX (i:=4) (n:=0) (m:=2) J (cM J) J<|aP<|aP<|aE<|aU<|bB J J J J<|bB J J J J<|bZ J J<|bX (i:=8) (n:=0) (m:=4) J (cM J) J<|dA J J J J J J J J J<|zL ?_
 refine aU<|bB J J J J<|aL (tZ l o hb) J<|aE<|aO<|aP<|cA J J<|cE ?_
 refine aG J (λc1=>?_) λc1=>?_
 . 
  have za:=c1;refine aO<|bB J J J J<|aP<|dA J J J J J J J J J<|aP<|aP<|aE<|aN ?_
  refine lK (cH (u:=(V.agg [(iV l.i),(V.sl<|List.map cN l.t.nd)])) J (@J Blk<|bk 1 49 2 [[(iV l.i),(V.sl<|List.map cN l.t.nd)]])<|lB oB J J) (bM<|aM V.nilsl) (bM<|aM<|V.bool false) (bM<|aM<|iV<|kH l o) (eU (aH ?_)<|dM ?_ (λ_=>by simp)) (cC ?_) (cK ?_)<|aH ?_
  . rw [xJ za]
  . rw [xJ za]
  . rw [xJ za]
  . rw [xJ za]
  . rw [xJ za]
 have za:=c1;have ht:=aJc (show kH l o=0 by omega);obtain ⟨hi1,hi2,hv,hw0,_,hl0⟩:=nG ht.1;have hbn:=hb.n;have hll:=mP hv;refine aB<|aU<|bB J J J J<|aL (aB6 l o hb ht.1 ho hx) J<|aP<|bR J J<|bR J J<|bR J J<|aP<|aP<|aE<|aO<|aP<|cA J J ?_
 refine cE ?_;refine aG J (λc2=>?_) λc2=>?_
 . 
  have zb:=c2;refine aO<|bB J J J J<|aP<|dA J J J J J J J J J<|aP<|aP<|aE<|aN ?_
  refine lK (cH (u:=(V.agg [(iV l.i),(V.sl<|List.map cN l.t.nd)])) J (@J Blk<|bk 1 49 2 [[(iV l.i),(V.sl<|List.map cN l.t.nd)]])<|lB oB J J) (bM<|aM V.nilsl) (bM<|aM<|V.bool false) (bM<|aM<|iV<|pL l o) (eU (aH ?_)<|dM ?_ (λ_=>by simp)) (cC ?_) (cK ?_)<|aH ?_
  . rw [xB za zb]
  . rw [xB za zb]
  . rw [xB za zb]
  . rw [xB za zb]
  . rw [xB za zb]
 have zb:=c2;refine aB<|aO<|aP<|bA J<|fZ J J<|cE ?_
 refine aG J (λc3=>?_) λc3=>?_
 . 
  have zc:0 < (mK<|qra l o).length:=by have q:=c3; rw [if_pos (show pL l o=0 by omega)] at q; omega
  refine aO<|bB J J J J<|aP<|dA J J J J J J J J J<|aP<|aP<|aE<|aN ?_
  refine lK (cH (u:=(V.agg [(iV l.i),(V.sl<|List.map cN l.t.nd)])) J (@J Blk<|bk 1 49 2 [[(iV l.i),(V.sl<|List.map cN l.t.nd)]])<|lB oB J J) (bM<|aM<|aC (if pL l o=0 then mK (qra l o) else [])) (bM<|aM<|V.bool false) (bM<|aM<|iV 0) (eU (aH ?_)<|dM ?_ (λ_=>by simp)) (dM ?_ (λ_=>by simp)) (cK ?_)<|aH ?_
  . rw [oC za zb zc]
  . rw [oC za zb zc]
  . rw [oC za zb zc]; exact if_pos OM
  . rw [oC za zb zc]
  . rw [oC za zb zc]
 have zc: ¬0 < (mK<|qra l o).length:=by have q:=c3; rw [if_pos (show pL l o=0 by omega)] at q; omega
 refine aB<|aO<|aP<|bA J<|aE (aF λQ4 n4 x4 y4 z4=>?_)
 refine cF (λmm T H=> ∃ (k:Nat) (v14:Nat) (v15:Nat),mm=(dC l).length - k/\T 2=(cR 2)/\T 4=(cR 4)/\T 8=(cR 8)/\T 41=(V.sl<|List.map cXt<|iU l o)/\T 42=(iV (((dC l).length:Nat):Int))/\T 43=(iV ((k:Nat):Int))/\H 2=(bk 1 49 2 [[(iV l.i),(V.sl<|List.map cN l.t.nd)]])/\H 3=(bk 1 31 2 [[(iV o.i),(V.sl<|List.map cT o.tr)]])/\H 4=(bk 1 49 2 [[(iV 0),V.nilsl]])/\H 8=(bk 1 66 4 [[(iV l.i),(V.sl<|List.map cN l.t.nd),(iV o.i),(V.sl<|List.map cT o.tr)]])/\(H 14).ver=v14/\((H 15).ver=v15/\(H 15).live=false)/\(k<=(dC l).length)/\(nO l o=fi (inx l o) k ((dC l).length - k))) ?_ ?_
 . 
  refine ⟨_,0,0,0,J,J,J,J,(bG (aM<|V.sl<|List.map cXt (if pL l o=0 then iU l o else [])) (by (rw [if_pos (show pL l o=0 by omega)]; done))),(bG (cS<|(if pL l o=0 then iU l o else []).length) (by (rw [if_pos (show pL l o=0 by omega),hxn]; done))),(bG (aM<|iV 0) J),J,J,J,J,(cM J),⟨(cM J),congrArg Blk.live (@J Blk iN)⟩,?_,?_⟩
  . omega
  . rfl
 intro mm T H ⟨k,v14,v15,hmm,t2,t4,t8,t41,t42,t43,h2,h3,h4,h8,h14,h15,hk,hc⟩ Q5 p15 p25 p35;refine aU<|bY t43 t42<|cE ?_
 refine aG J (λc6=>?_) λc6=>?_
 . 
  have hnd:=vJ za zb zc (show k < (dC l).length by omega);have r1:=uE ht.1<|bC (show k < (dC l).length by omega)
  have d9:aA (iU l o) k=_:=aIF OM;refine aB (aF λQ7 n7 x7 y7 z7=>(aU<|dL (i:=k) t41 t43<|aJ J J<|bX (i:=14) (n:=v14) (m:=2) J h14 J<|dA J J J J J J J J J<|zL<|aU<|bB t8 h8 J J<|aZ J J J J<|aL (xP l o ((aA (iU l o) k).n) (by rw [d9]; exact hnd.2.1) (by rw [d9]; exact hnd.2.2.1)) J<|cE ?_));refine dW J (λc8=>?_) (λc8=>?_)
  . 
   have d1:inx l o k=false:=by have q:=c8; rw [d9] at q; unfold inx; simpa using q
   refine aS<|x7 _ _ (.done (fO<|cD t43<|aE ?_))
   refine p15 _ _ _ ?_ ⟨(k+1),(v14+1),v15,J,t2,t4,t8,t41,t42,(bG (cS<|k+1) JR),h2,h3,h4,h8,(cM J),h15,?_,?_⟩
   . omega
   . omega
   . rw [hc,mX (p:=inx l o) d1 OM]
  have d0:(aA l.t.nd (bF l.t o<|aA (dC l) k).1.toNat).lf=false:=by have q:=c8; rw [d9] at q; simpa using q
  have d1:inx l o k=true:=by unfold inx; simpa using d0
  have d2:nO l o=(k:Int):=by rw [hc,qZ (p:=inx l o) d1 OM]
  have d3:=hnd.2.2.2 d0;have hsf:=hb.sf (bF l.t o<|aA (dC l) k).1.toNat OM;have hbh:=aHe ho (aA (dC l) k) (aA l.t.nd (bF l.t o<|aA (dC l) k).1.toNat).sf;refine aB<|aO<|aZ t2 h2 J J<|aL (oE l.t hb) J<|bA J<|jB J J<|cE ?_
  refine aG J (λc9=>?_) λc9=>?_
  . 
   have z5:128<=(fT l.t.nd).length:=by rw [<- hll]; have q:=c9; unfold eM; omega
   refine aO<|bB t2 h2 J J<|dA t4 J J h4 J J J J J<|aP<|aP<|aE<|aN<|y7 _ _<|p25 _ _<|y4 _ _ ?_
   refine lK (cH (u:=(V.agg [(iV l.i),(V.sl<|List.map cN l.t.nd)])) t4 (@J Blk<|bk 1 49 2 [[(iV l.i),(V.sl<|List.map cN l.t.nd)]])<|lB oB J J) (bM<|aM V.nilsl) (bM<|aM<|V.bool false) (bM<|aM<|iV 11) (eU (aH ?_)<|dM ?_ (λ_=>by simp)) (cC ?_) (cK ?_)<|aH ?_
   . rw [qF za zb zc OM z5]
   . rw [qF za zb zc OM z5]
   . rw [qF za zb zc OM z5]
   . rw [qF za zb zc OM z5]
   . rw [qF za zb zc OM z5]
  have z5:(fT l.t.nd).length < 128:=by rw [<- hll]; have q:=c9; unfold eM; omega
  refine aB<|W_d (by exact (tD h15.2 wD))<|aZ t2 h2 J J<|aZ J J J J<|bB t8 h8 J J<|aZ J J J J<|cQ t2 h2<|aZ J h2 J J<|aZ J J J J<|dQ (i:=((aA (iU l o) k).n)) (aM<|V.sl<|List.map cN l.t.nd) (aM<|iV<|(aA (iU l o) k).n) (by (rw [d9]; show _<=(bF l.t o<|aA (dC l) k).1; omega)) (by (rw [d9]; show (bF l.t o<|aA (dC l) k).1 < _; omega)) J<|dY (cs':=(List.drop 2<|cN<|aA l.t.nd ((aA (iU l o) k).n).toNat)) J J ?_
  refine aJ J J<|aL (sM l o ((aA (iU l o) k).w) ((aA l.t.nd ((aA (iU l o) k).n).toNat).sf) ho (by rw [d9]; show (aA (dC l) k).length<=_; omega) (by rw [d9]; exact hsf) (by rw [d9]; exact d3.1)) J<|aZ J J J J<|aL (aHh l.t ((aA (iU l o) k).n) (lJ o ((aA (iU l o) k).w)<|(aA l.t.nd ((aA (iU l o) k).n).toNat).sf) ((aA (iU l o) k).w) hb (by simp only [d9]; omega) (by rw [d9]; show (aA (dC l) k).length<=_; omega)) J<|aP<|bR J J<|bR J J<|bX (i:=15) (n:=v15) (m:=1) J h15.1 J<|dA J J J J J J J J J<|aE<|fM ?_
  refine eZ (λT H=>T 2=(cR 2)/\T 4=(cR 4)/\T 15=(V.mp 15 (v15+1) 0 0)/\T 16=(iV<|nP l.t ((aA (iU l o) k).n) (lJ o ((aA (iU l o) k).w)<|(aA l.t.nd ((aA (iU l o) k).n).toNat).sf)<|(aA (iU l o) k).w)/\T 80=(V.bool<|decide ((nP l.t ((aA (iU l o) k).n) (lJ o ((aA (iU l o) k).w)<|(aA l.t.nd ((aA (iU l o) k).n).toNat).sf)<|(aA (iU l o) k).w)≠(0:Int)))/\H 2=(bk 1 49 2 [[(iV l.i),(V.sl<|List.map cN l.t.nd)]])/\H 3=(bk 1 31 2 [[(iV o.i),(V.sl<|List.map cT o.tr)]])/\H 4=(bk 1 49 2 [[(iV 0),V.nilsl]])/\H 8=(bk 1 66 4 [[(iV l.i),(V.sl<|List.map cN l.t.nd),(iV o.i),(V.sl<|List.map cT o.tr)]])/\H 14=(bk (v14+1) 101 2 [[(aD<|(aA (iU l o) k).w),(iV<|(aA (iU l o) k).n)]])/\H 15=(bk (v15+1) 47 1 [[(V.sl<|List.map cN<|(wN l.t ((aA (iU l o) k).n) (lJ o ((aA (iU l o) k).w)<|(aA l.t.nd ((aA (iU l o) k).n).toNat).sf)<|(aA (iU l o) k).w).nd)]])/\True) ?_ ?_
  . 
   refine aP<|cA J J ?_
   exact gD ⟨t2,t4,J,J,J,h2,h3,h4,h8,J,J,trivial⟩
  intro T H ⟨t2,t4,t15,t16,t80,h2,h3,h4,h8,h14,h15,_⟩;refine aG t80 (λc10=>?_) λc10=>?_
  . 
   have d6:=c10;rw [d9] at d6;refine aO<|bB t2 h2 J J<|aI t16<|dA t4 J J h4 J J J J J<|aP<|aP<|aE<|aN<|y7 _ _<|p25 _ _<|y4 _ _ ?_
   refine lK (cH (u:=(V.agg [(iV l.i),(V.sl<|List.map cN l.t.nd)])) t4 (@J Blk<|bk 1 49 2 [[(iV l.i),(V.sl<|List.map cN l.t.nd)]])<|lB oB J J) (bM<|aM V.nilsl) (bM<|aM<|V.bool false) (bM<|aM<|iV<|nP l.t ((aA (iU l o) k).n) (lJ o ((aA (iU l o) k).w)<|(aA l.t.nd ((aA (iU l o) k).n).toNat).sf)<|(aA (iU l o) k).w) (eU (aH ?_)<|dM ?_ (λ_=>by simp)) (cC ?_) (cK ?_)<|aH ?_
   . try rw [d9]
     rw [wV za zb zc d2 z5 d6]
   . try rw [d9]
     rw [wV za zb zc d2 z5 d6]
   . try rw [d9]
     rw [wV za zb zc d2 z5 d6]
   . try rw [d9]
     rw [wV za zb zc d2 z5 d6]
   . try rw [d9]
     rw [wV za zb zc d2 z5 d6]
  have d6:=c10;rw [d9] at d6;refine aB<|aU<|aZ t2 h2 J J<|bB t15 h15 J J<|bZ J J<|dA t4 J J h4 J J J J J<|aP<|aP<|aE<|bE<|y7 _ _<|p25 _ _<|y4 _ _ ?_
  refine lK (cH (u:=(V.agg [(iV l.i),(V.sl<|List.map cN<|(wN l.t ((aA (iU l o) k).n) (lJ o ((aA (iU l o) k).w)<|(aA l.t.nd ((aA (iU l o) k).n).toNat).sf)<|(aA (iU l o) k).w).nd)])) t4 (@J Blk<|bk 1 49 2 [[(iV l.i),(V.sl<|List.map cN<|(wN l.t ((aA (iU l o) k).n) (lJ o ((aA (iU l o) k).w)<|(aA l.t.nd ((aA (iU l o) k).n).toNat).sf)<|(aA (iU l o) k).w).nd)]])<|lB oB J J) (bM<|aM V.nilsl) (bM<|aM<|V.bool false) (bM<|aM<|iV 0) (eU (aH ?_)<|dM ?_ (λ_=>by simp)) (cC ?_) (cK ?_)<|aH ?_
  . try rw [d9]
    rw [sS za zb zc d2 z5 d6]
  . try rw [d9]
    rw [sS za zb zc d2 z5 d6]
  . try rw [d9]
    rw [sS za zb zc d2 z5 d6]
  . try rw [d9]
    rw [sS za zb zc d2 z5 d6]
  . try rw [d9]
    rw [sS za zb zc d2 z5 d6]
 have zd:nO l o < 0:=by rw [hc,pF OM]; omega
 refine aS<|p35 _ _ _<|x4 _ _ (.done (aU<|bB t2 h2 J J<|dA t4 J J h4 J J J J J<|aP<|aP<|aE<|bE ?_))
 refine lK (cH (u:=(V.agg [(iV l.i),(V.sl<|List.map cN l.t.nd)])) t4 (@J Blk<|bk 1 49 2 [[(iV l.i),(V.sl<|List.map cN l.t.nd)]])<|lB oB J J) (bM<|aM V.nilsl) (bM<|aM<|V.bool true) (bM<|aM<|iV 0) (eU (aH ?_)<|dM ?_ (λ_=>by simp)) (cC ?_) (cK ?_)<|aH ?_
 . rw [lQ za zb zc zd]
 . rw [lQ za zb zc zd]
 . rw [lQ za zb zc zd]
 . rw [lQ za zb zc zd]
 . rw [lQ za zb zc zd]
theorem aHW (v w:List Int):bJ Tryz.prog 54 [(aD v),(V.pp [(aD w)])] (V.bool (decide (v=w))):=by
 refine' pK [] [] Tryz.func54 ?e λhB=>?_
 case e=>conv=>lhs; cbv
 dsimp only;refine aU<|aE<|aU<|aP<|aJ J J<|aL (nC v w) J<|aE<|bE ?_
 refine aW (aM<|V.bool<|decide (v=w))<|eA SI J
theorem qO (m:M):bJ Tryz.prog 24 [(V.agg [(iV m.i),(iV m.s),(aC m.nx),(aC m.ot)])] (iV (bK m)):=by
 refine' pK [] [] Tryz.func24 ?e λhB=>?_
 case e=>conv=>lhs; cbv
 dsimp only;refine aU<|cJ (i:=1) (n:=0) (m:=4) (cs:=[(iV m.i),(iV m.s),(aC m.nx),(aC m.ot)]) J (cM J) J J J<|aE<|aU<|aZ J J J J<|bA J<|aE (aF λQ1 n1 x1 y1 z1=>(aU<|aZ J J J J<|bY J J<|aP ?_))
 refine bN 4 (λT H=>T 1=(cR 1)/\T 3=(iV ((m.nx.length:Nat):Int))/\T 19=(V.bool<|decide ((m.i < (1:Int))\/((64:Int) < m.i)))/\H 1=(jV m)/\True) ?_ ?_
 . 
  by_cases g2:m.i < (1:Int)
  . 
   refine bQ (bU g2 J)<|bQ (bU g2 J)<|bQ (bU g2 J)<|bP (bU g2 J) J ?_
   exact ⟨J,J,(fB g2),J,trivial⟩
  . 
   refine aK (bV g2 J)<|cQ J J<|aK (bV g2 J)<|bB J J J J<|aK (bV g2 J)<|fZ J J<|bO (bV g2 J) J ?_
   exact ⟨J,J,(fC g2),J,trivial⟩
 intro T H ⟨t1,t3,t19,h1,_⟩;refine aI t19<|cE ?_
 refine gE J (λc3=>?_) λc3=>?_
 . 
  refine aU<|aE<|bE<|y1 _ _ ?_
  refine aW (aM<|iV 2)<|aH ?_
  . rw [bK,if_pos OM]
 refine aU<|aI t3<|fP J J<|aE ?_
 refine gE J (λc4=>?_) λc4=>?_
 . 
  refine aU<|aE<|bE<|y1 _ _ ?_
  refine aW (aM<|iV 19)<|aH ?_
  . rw [bK,if_neg OM,if_pos OM]
 refine aU<|aI t3<|fZ J J<|aE ?_
 refine gE J (λc5=>?_) λc5=>?_
 . 
  refine aU<|aE<|bE<|y1 _ _ ?_
  refine aW (aM<|iV 11)<|aH ?_
  . rw [bK,if_neg OM,if_neg OM,if_pos OM]
 refine aU<|aZ t1 h1 J J<|bY J J<|aP ?_
 refine bN 5 (λT H=>T 1=(cR 1)/\T 3=(iV ((m.nx.length:Nat):Int))/\T 35=(V.bool<|decide ((m.s < (0:Int))\/(((m.nx.length:Nat):Int)<=m.s)))/\H 1=(jV m)/\True) ?_ ?_
 . 
  by_cases g6:m.s < (0:Int)
  . 
   refine bQ (bU g6 J)<|bQ (bU g6 J)<|bQ (bU g6 J)<|bQ (bU g6 J)<|bP (bU g6 J) J ?_
   exact ⟨t1,t3,(fB g6),h1,trivial⟩
  . 
   refine aK (bV g6 J)<|cQ t1 h1<|aK (bV g6 J)<|bB J h1 J J<|aK (bV g6 J)<|aI t3<|aK (bV g6 J)<|jB J J<|bO (bV g6 J) J ?_
   exact ⟨t1,t3,(fC g6),h1,trivial⟩
 intro T H ⟨t1,t3,t35,h1,_⟩;refine aI t35<|cE ?_
 refine gE J (λc7=>?_) λc7=>?_
 . 
  refine aU<|aE<|bE<|y1 _ _ ?_
  refine aW (aM<|iV 2)<|aH ?_
  . rw [bK,if_neg OM,if_neg OM,if_neg OM,if_pos OM]
 refine aU<|aZ t1 h1 J J<|bA J<|aI t3<|cA J J<|aE ?_
 refine gE J (λc8=>?_) λc8=>?_
 . 
  refine aU<|aE<|bE<|y1 _ _ ?_
  refine aW (aM<|iV 1)<|aH ?_
  . rw [bK,if_neg OM,if_neg OM,if_neg OM,if_neg OM,if_pos OM]
 refine dH<|n1 _ _ (.done (aO<|aI t3<|aE (aF λQ9 n9 x9 y9 z9=>?_)))
 refine cF (λmm T H=> ∃ (k:Nat),mm=m.nx.length - k/\T 1=(cR 1)/\T 3=(iV ((m.nx.length:Nat):Int))/\T 42=(iV ((m.nx.length:Nat):Int))/\T 43=(iV ((k:Nat):Int))/\H 1=(jV m)/\(k<=m.nx.length)/\(1<=m.i/\m.i<=64/\0 < m.nx.length/\m.nx.length<=128/\m.ot.length=m.nx.length)/\(bK m=fe (wP m) k (m.nx.length - k))) ?_ ?_
 . 
  refine ⟨_,0,J,t1,t3,J,(bG (aM<|iV 0) J),h1,?_,?_,?_⟩
  . omega
  . omega
  . rw [bK,if_neg OM,if_neg OM,if_neg OM,if_neg OM,if_neg OM]; rfl
 intro mm T H ⟨k,hmm,t1,t3,t42,t43,h1,hk,hv,hc⟩ Q10 p110 p210 p310;refine aU<|bY t43 t42<|cE ?_
 refine aG J (λc11=>?_) λc11=>?_
 . 
  refine aB (aF λQ12 n12 x12 y12 z12=>(aU<|aI t43<|aE<|aO<|aZ t1 h1 J J<|aP<|dL (i:=k) (aM<|aC m.nx) (cS k)<|aJ J J<|bA J<|aZ t1 h1 J J ?_));refine cA J J<|aP ?_
  refine bN 10 (λT H=>T 1=(cR 1)/\T 3=(iV ((m.nx.length:Nat):Int))/\T 4=(iV ((k:Nat):Int))/\T 42=(iV ((m.nx.length:Nat):Int))/\T 43=(iV ((k:Nat):Int))/\T 65=(V.bool<|decide (((((aA m.nx k).length:Nat):Int)≠m.i)\/((((aA m.ot k).length:Nat):Int)≠m.i)))/\H 1=(jV m)/\True) ?_ ?_
  . 
   by_cases g13:(((aA m.nx k).length:Nat):Int)≠m.i
   . 
    refine bQ (bU g13 J)<|bQ (bU g13 J)<|bQ (bU g13 J)<|bQ (bU g13 J)<|bQ (bU g13 J)<|bQ (bU g13 J)<|bQ (bU g13 J)<|bQ (bU g13 J)<|bQ (bU g13 J)<|bP (bU g13 J) J ?_
    exact ⟨t1,t3,J,t42,t43,(fB g13),h1,trivial⟩
   . 
    refine aK (bV g13 J)<|cQ t1 h1<|aK (bV g13 J)<|bB J h1 J J<|aK (bV g13 J)<|aP<|aK (bV g13 J)<|dL (i:=k) (aM<|aC m.ot) (cS k)<|aK (bV g13 J)<|aJ J J<|aK (bV g13 J)<|bA J<|aK (bV g13 J)<|cQ t1 h1<|aK (bV g13 J)<|bB J h1 J J ?_
    refine aK (bV g13 J)<|cA J J<|bO (bV g13 J) J ?_
    exact ⟨t1,t3,J,t42,t43,(fC g13),h1,trivial⟩
  intro T H ⟨t1,t3,t4,t42,t43,t65,h1,_⟩;refine cE ?_;refine aG t65 (λc14=>?_) λc14=>?_
  . 
   refine aO<|aE<|aN<|y12 _ _<|p210 _ _<|y9 _ _ ?_
   refine aW (aM<|iV 1)<|aH ?_
   . rw [hc,gH (by rw [wP,if_pos OM]; decide) OM,wP,if_pos OM]
  refine aB<|aU<|aZ t1 h1 J J<|aE (iZ λQ15 n15 x15 y15 z15=>?_)
  refine cF (λmm T H=> ∃ (j:Nat),mm=m.i.toNat - j/\T 1=(cR 1)/\T 3=(iV ((m.nx.length:Nat):Int))/\T 4=(iV ((k:Nat):Int))/\T 42=(iV ((m.nx.length:Nat):Int))/\T 43=(iV ((k:Nat):Int))/\T 67=(iV m.i)/\T 68=(iV ((j:Nat):Int))/\H 1=(jV m)/\(j<=m.i.toNat)/\(((aA m.nx k).length:Int)=m.i/\((aA m.ot k).length:Int)=m.i)/\(wP m k=fe (aB7 m k) j (m.i.toNat - j))) ?_ ?_
  . 
   refine ⟨_,0,J,t1,t3,t4,t42,t43,J,(bG (aM<|iV 0) J),h1,?_,?_,?_⟩
   . omega
   . omega
   . rw [wP,if_neg OM]; rfl
  intro mm T H ⟨j,hmm,t1,t3,t4,t42,t43,t67,t68,h1,hj,hl,hr⟩ Q16 p116 p216 p316;refine aU<|bY t68 t67<|cE ?_
  refine aG J (λc17=>?_) λc17=>?_
  . 
   refine aB (aF λQ18 n18 x18 y18 z18=>(aU<|aI t68<|aE<|aU<|aZ t1 h1 J J<|aI t4<|dL (i:=k) (aM<|aC m.nx) (cS k)<|aJ J J<|aP<|dL (i:=j) (aM<|aD<|aA m.nx k) (cS j)<|aJ J J<|cQ t1 h1 ?_));refine bB J h1 J J<|aI t4<|dL (i:=k) (aM<|aC m.ot) (cS k)<|aJ J J<|aP<|dL (i:=j) (aM<|aD<|aA m.ot k) (cS j)<|aJ J J<|aP<|aE<|aU<|aP<|bY J J<|aP ?_
   refine bN 4 (λT H=>T 1=(cR 1)/\T 3=(iV ((m.nx.length:Nat):Int))/\T 4=(iV ((k:Nat):Int))/\T 7=(iV<|aA (aA m.ot k) j)/\T 42=(iV ((m.nx.length:Nat):Int))/\T 43=(iV ((k:Nat):Int))/\T 67=(iV m.i)/\T 68=(iV ((j:Nat):Int))/\T 93=(V.bool<|decide (((aA (aA m.nx k) j) < (0:Int))\/(((m.nx.length:Nat):Int)<=(aA (aA m.nx k) j))))/\H 1=(jV m)/\True) ?_ ?_
   . 
    by_cases g19:(aA (aA m.nx k) j) < (0:Int)
    . 
     refine bQ (bU g19 J)<|bQ (bU g19 J)<|bQ (bU g19 J)<|bP (bU g19 J) J ?_
     exact ⟨t1,t3,t4,J,t42,t43,t67,t68,(fB g19),h1,trivial⟩
    . 
     refine aK (bV g19 J)<|aP<|aK (bV g19 J)<|aI t3<|aK (bV g19 J)<|jB J J<|bO (bV g19 J) J ?_
     exact ⟨t1,t3,t4,J,t42,t43,t67,t68,(fC g19),h1,trivial⟩
   intro T H ⟨t1,t3,t4,t7,t42,t43,t67,t68,t93,h1,_⟩;refine aI t93 ?_;refine bN 3 (λT H=>T 1=(cR 1)/\T 3=(iV ((m.nx.length:Nat):Int))/\T 4=(iV ((k:Nat):Int))/\T 7=(iV<|aA (aA m.ot k) j)/\T 42=(iV ((m.nx.length:Nat):Int))/\T 43=(iV ((k:Nat):Int))/\T 67=(iV m.i)/\T 68=(iV ((j:Nat):Int))/\T 97=(V.bool<|decide ((((aA (aA m.nx k) j) < (0:Int))\/(((m.nx.length:Nat):Int)<=(aA (aA m.nx k) j)))\/((aA (aA m.ot k) j) < (0:Int))))/\H 1=(jV m)/\True) ?_ ?_
   . 
    by_cases g20:((aA (aA m.nx k) j) < (0:Int))\/(((m.nx.length:Nat):Int)<=(aA (aA m.nx k) j))
    . 
     refine bQ (bU g20 J)<|bQ (bU g20 J)<|bP (bU g20 J) J ?_
     exact ⟨t1,t3,t4,t7,t42,t43,t67,t68,(fB g20),h1,trivial⟩
    . 
     refine aK (bV g20 J)<|aI t7<|aK (bV g20 J)<|bY J J<|bO (bV g20 J) J ?_
     exact ⟨t1,t3,t4,t7,t42,t43,t67,t68,(fC g20),h1,trivial⟩
   intro T H ⟨t1,t3,t4,t7,t42,t43,t67,t68,t97,h1,_⟩;refine aI t97 ?_;refine bN 3 (λT H=>T 1=(cR 1)/\T 3=(iV ((m.nx.length:Nat):Int))/\T 4=(iV ((k:Nat):Int))/\T 42=(iV ((m.nx.length:Nat):Int))/\T 43=(iV ((k:Nat):Int))/\T 67=(iV m.i)/\T 68=(iV ((j:Nat):Int))/\T 101=(V.bool<|decide (((((aA (aA m.nx k) j) < (0:Int))\/(((m.nx.length:Nat):Int)<=(aA (aA m.nx k) j)))\/((aA (aA m.ot k) j) < (0:Int)))\/((1048576:Int) < (aA (aA m.ot k) j))))/\H 1=(jV m)/\True) ?_ ?_
   . 
    by_cases g21:(((aA (aA m.nx k) j) < (0:Int))\/(((m.nx.length:Nat):Int)<=(aA (aA m.nx k) j)))\/((aA (aA m.ot k) j) < (0:Int))
    . 
     refine bQ (bU g21 J)<|bQ (bU g21 J)<|bP (bU g21 J) J ?_
     exact ⟨t1,t3,t4,t42,t43,t67,t68,(fB g21),h1,trivial⟩
    . 
     refine aK (bV g21 J)<|aI t7<|aK (bV g21 J)<|fZ J J<|bO (bV g21 J) J ?_
     exact ⟨t1,t3,t4,t42,t43,t67,t68,(fC g21),h1,trivial⟩
   intro T H ⟨t1,t3,t4,t42,t43,t67,t68,t101,h1,_⟩;refine cE ?_;refine gE t101 (λc22=>?_) λc22=>?_
   . 
    refine aU<|aE<|bE<|y18 _ _<|p216 _ _<|y15 _ _<|y12 _ _<|p210 _ _<|y9 _ _ ?_
    refine aW (aM<|iV 2)<|aH ?_
    . have e:wP m k=2:=by
        rw [hr,gH (by unfold aB7; split <;> omega) OM]; unfold aB7; split <;> omega
      rw [hc,gH OM OM,e]
   refine dH<|n18 _ _ (.done (fO<|cD t68<|aE ?_))
   refine p116 _ _ _ ?_ ⟨(j+1),J,t1,t3,t4,t42,t43,t67,(bG (cS<|j+1) JR),h1,?_,?_,?_⟩
   . omega
   . omega
   . omega
   . rw [hr,gW (by unfold aB7; split <;> omega) OM]
  refine aS<|p316 _ _ _<|x15 _ _<|n12 _ _ (.done (fO<|cD t43<|aE ?_))
  refine p110 _ _ _ ?_ ⟨(k+1),J,t1,t3,t42,(bG (cS<|k+1) JR),h1,?_,?_,?_⟩
  . omega
  . omega
  . omega
  . rw [hc,gW (by rw [hr,jK OM]) OM]
 refine aS<|p310 _ _ _<|x9 _ _ (.done (aU<|aE<|bE ?_))
 refine aW (aM<|iV 0)<|aH ?_
 . rw [hc,jK OM]
theorem aIc (m:M) (s:Int):bJ Tryz.prog 154 [(V.agg [(iV m.i),(iV m.s),(aC m.nx),(aC m.ot)]),(iV s)] (iV (stE m s)):=by
 refine' pK [] [] Tryz.func154 ?e λhB=>?_
 case e=>conv=>lhs; cbv
 dsimp only;refine aU<|cJ (i:=2) (n:=0) (m:=4) (cs:=[(iV m.i),(iV m.s),(aC m.nx),(aC m.ot)]) J (cM J) J J J<|aE<|aO<|bB J J J J<|aL (qO m) J<|aE<|aO<|aP<|cA J J<|cE ?_
 refine aG J (λc1=>?_) λc1=>?_
 . 
  refine aO<|aP<|aE<|aN ?_
  refine aW (aM<|iV<|bK m)<|aH ?_
  . rw [stE,if_pos OM]
 refine aB<|aO<|aP<|bY J J<|aP ?_
 refine bN 6 (λT H=>T 19=(V.bool<|decide ((s < (0:Int))\/(((m.nx.length:Nat):Int)<=s)))/\H 2=(jV m)/\True) ?_ ?_
 . 
  by_cases g2:s < (0:Int)
  . 
   refine bQ (bU g2 J)<|bQ (bU g2 J)<|bQ (bU g2 J)<|bQ (bU g2 J)<|bQ (bU g2 J)<|bP (bU g2 J) J ?_
   exact ⟨(fB g2),J,trivial⟩
  . 
   refine aK (bV g2 J)<|aP<|aK (bV g2 J)<|cQ J J<|aK (bV g2 J)<|bB J J J J<|aK (bV g2 J)<|bA J<|aK (bV g2 J)<|jB J J<|bO (bV g2 J) J ?_
   exact ⟨(fC g2),J,trivial⟩
 intro T H ⟨t19,h2,_⟩;refine cE ?_;refine aG t19 (λc3=>?_) λc3=>?_
 . 
  refine aO<|aE<|aN ?_
  refine aW (aM<|iV 2)<|aH ?_
  . rw [stE,if_neg OM,if_pos OM]
 refine aB<|aU<|aE<|bE ?_
 refine aW (aM<|iV 0)<|aH ?_
 . rw [stE,if_neg OM,if_neg OM]
theorem aKU (m:M) (s a:Int) (hs:0<=s/\s < m.nx.length/\m.ot.length=m.nx.length) (ha:0<=a/\a < (aA m.nx s.toNat).length/\a < (aA m.ot s.toNat).length):bJ Tryz.prog 187 [(V.agg [(iV m.i),(iV m.s),(aC m.nx),(aC m.ot)]),(iV s),(iV a)] (V.tup [(iV (cell m.nx s a)),(iV (cell m.ot s a))]):=by
 refine' pK [] [] Tryz.func187 ?e λhB=>?_
 case e=>conv=>lhs; cbv
 dsimp only;refine aU<|cJ (i:=3) (n:=0) (m:=4) (cs:=[(iV m.i),(iV m.s),(aC m.nx),(aC m.ot)]) J (cM J) J J J<|aP<|aE<|aU<|cQ J J<|aZ J J J J<|aP<|dQ (i:=s) (aM<|aC m.nx) (aM<|iV s) OM OM J<|aJ J J<|aP<|dQ (i:=a) (aM<|aD<|aA m.nx s.toNat) (aM<|iV a) OM OM J<|aJ J J<|cQ J J ?_
 refine aZ J J J J<|aP<|dQ (i:=s) (aM<|aC m.ot) (aM<|iV s) OM OM J<|aJ J J<|aP<|dQ (i:=a) (aM<|aD<|aA m.ot s.toNat) (aM<|iV a) OM OM J<|aJ J J<|aP<|aE<|bE ?_
 refine lE (aM<|iV<|aA (aA m.nx s.toNat) a.toNat) (aM<|iV<|aA (aA m.ot s.toNat) a.toNat) (aH ?_)<|aH ?_
 . rfl
 . rfl
theorem aSs (m:M) (s:Int) (w:List Int) (v1 v5:Nat) (Hi:aT) (hb:Hi 30=(bk v1 216 5 [[(iV m.i),(iV m.s),(aC m.nx),(aC m.ot),(iV s)]])) (h105:(Hi 105).ver=v5) (hm:bK m=0) (hs:0<=s/\s < m.nx.length) (hl:w.length<=1024) (hw: ∀ k,k < w.length->0<=aA w k/\aA w k < m.i):fH Tryz.prog 155 [(V.mp 30 v1 0 0),(aD w)] Hi (aD (aV m s w)) (cU (cU Hi 105 (⟨v5+1+w.length,false,false,0,0,[]⟩:Blk)) 30 (bk v1 216 5 [[(iV m.i),(iV m.s),(aC m.nx),(aC m.ot),(iV (eJ m s w))]])):=by
 refine' eK [5] [] (k0:=100) Tryz.func155 ?e λhB=>?_
 case e=>conv=>lhs; cbv
 dsimp only;refine aU<|aE<|aU<|iD (i:=105) (n:=v5) J h105<|zL<|aU<|aP<|bA J<|aE (aF λQ1 n1 x1 y1 z1=>?_)
 refine cF (λmm T H=> ∃ (k:Nat),mm=w.length - k/\T 0=(V.mp 30 v1 0 0)/\T 5=(V.ms 105 (v5+1+k) 0 k)/\T 10=(aD w)/\T 11=(iV ((w.length:Nat):Int))/\T 12=(iV ((k:Nat):Int))/\(∀ j,j∉[105,30]->H j=Hi j)/\H 30=(bk v1 216 5 [[(iV m.i),(iV m.s),(aC m.nx),(aC m.ot),(iV<|eJ m s<|w.take k)]])/\H 105=(bz (v5+1+k) 3 1<|List.map cI<|aV m s<|w.take k)/\(k<=w.length)) ?_ ?_
 . 
  refine ⟨_,0,J,J,(bG (aM<|V.ms 105 (v5+1) 0 0) JR),J,J,(bG (aM<|iV 0) J),(bD (λ_ _=>J) DE),(bG hb JR),(bG (@J Blk<|bz (v5+1) 3 1 []) JR),?_⟩
  . omega
 intro mm T H ⟨k,hmm,t0,t5,t10,t11,t12,hF,h30,h105,hk⟩ Q2 p12 p22 p32;refine aU<|bY t12 t11<|cE ?_
 refine aG J (λc3=>?_) λc3=>?_
 . 
  have h1:=aNx hm hs hw (k:=k) OM;refine aB (aF λQ4 n4 x4 y4 z4=>(aU<|dL (i:=k) t10 t12<|aJ J J<|aE<|aU<|aI t0<|gK J h30 oB<|aZ J h30 J J<|aI t0<|gK J h30 oB<|aZ J h30 J J ?_));refine aP<|aL (aKU m (eJ m s<|w.take k) (aA w k) h1.1 h1.2) J<|aP<|bR J J<|bR J J<|aP<|aE<|aU<|aI t0<|aP<|gK J h30 oB<|cQ J h30<|dA J J J h30 J J J J J<|cE<|fO ?_
  refine aI t5<|aP<|aY J J<|gF (l:=(aV m s<|w.take k)) (f:=cI) (x:=(cell m.ot (eJ m s<|w.take k)<|aA w k)) (aM<|V.ms 105 (v5+1+k) 0 k) h105 (by (simp only [gI,List.length_take]; omega)) (aM<|V.sl [[(iV<|cell m.ot (eJ m s<|w.take k)<|aA w k)]])<|aE<|n4 _ _ (.done (fO<|cD t12<|aE ?_))
  refine p12 _ _ _ ?_ ⟨(k+1),J,t0,(bG (aM<|V.ms 105 (v5+1+k+1) 0<|k+1) JR),t10,t11,(bG (cS<|k+1) JR),(bD (bD hF DE) DE),(bG (@J Blk<|bk v1 216 5 [[(iV m.i),(iV m.s),(aC m.nx),(aC m.ot),(iV<|cell m.nx (eJ m s<|w.take k)<|aA w k)]]) (by (rw [aAu m s OM]))),(bG (@J Blk<|bz (v5+1+k+1) 3 1<|List.map cI<|aV m s (w.take k)++[(cell m.ot (eJ m s<|w.take k)<|aA w k)]) (by (rw [aAG m s OM]; rfl))),?_⟩
  . omega
  . omega
 refine aS<|p32 _ _ _<|x1 _ _ (.done (aU<|aI t5<|aE<|bE<|fL (R:=λT H=>T 4=(V.ms 105 (v5+1+k) 0 k)/\(∀ j,j∉[105,30]->H j=Hi j)/\H 30=(bk v1 216 5 [[(iV m.i),(iV m.s),(aC m.nx),(aC m.ot),(iV<|eJ m s<|w.take k)]])/\H 105=(bz (v5+1+k) 3 1<|List.map cI<|aV m s<|w.take k)/\True) ⟨(aM<|V.ms 105 (v5+1+k) 0 k),hF,h30,h105,trivial⟩ ?_))
 intro T H ⟨t4,hF,h30,h105,_⟩;have fh:=dK.fin<|dK.put (B:=(bk v1 216 5 [[(iV m.i),(iV m.s),(aC m.nx),(aC m.ot),(iV<|eJ m s w)]])) (dK.putv (n:=(v5+1+k)) (B:=(⟨v5+1+w.length,false,false,0,0,[]⟩:Blk)) (dK.start hF) (cM h105) (by show _<=v5+1+w.length; omega) J) h30<|jN.eq (by (have e:k=w.length:=OM; subst e; rw [List.take_length]; done))
 exact lU t4 fh<|fD.trans_eq (fD.frz (rows:=(List.map cI<|aV m s<|w.take k)) fh (by simp [h105]) (by simp [h105]) J (by rw [h105]; exact uJ (l:=(aV m s<|w.take k)) (by (simp only [gI,List.length_take]; omega)))) (by (have e:k=w.length:=OM; subst e; rw [List.take_length]; done))
theorem aDo (m:M) (s:Int) (w:List Int):bJ Tryz.prog 105 [(V.agg [(iV m.i),(iV m.s),(aC m.nx),(aC m.ot)]),(iV s),(aD w)] (V.tup [(aD (gQ m s w)),(iV (aAK m s w)),(iV (wX m s w))]):=by
 refine' pK [] [] Tryz.func105 ?e λhB=>?_
 case e=>conv=>lhs; cbv
 dsimp only;refine aU<|cJ (i:=3) (n:=0) (m:=4) (cs:=[(iV m.i),(iV m.s),(aC m.nx),(aC m.ot)]) J (cM J) J J J<|aP<|aP<|aE<|aO<|bB J J J J<|aP<|aL (aIc m s) J<|aE<|aO<|aP ?_
 refine cA J J<|cE ?_
 refine aG J (λc1=>?_) λc1=>?_
 . 
  refine aO<|aP<|aP<|aP<|aE<|aN ?_
  refine rU (aM V.nilsl) (aM<|iV 0) (aM<|iV<|stE m s) (cC ?_) (aH ?_)<|aH ?_
  . rw [gQ,if_pos (by rw [wX,if_pos OM]; omega)]
  . rw [aAK,if_pos (by rw [wX,if_pos OM]; omega)]
  . rw [wX,if_pos OM]
 have hs:=aQR (m:=m) (s:=s) OM;refine aB<|aO<|aP<|aZ J J J J<|aL (gM w m.i) J<|aE<|aO<|aP<|cA J J<|cE ?_
 refine aG J (λc2=>?_) λc2=>?_
 . 
  refine aO<|aP<|aP<|aP<|aE<|aN ?_
  refine rU (aM V.nilsl) (aM<|iV 0) (aM<|iV<|cP w m.i) (cC ?_) (aH ?_)<|aH ?_
  . rw [gQ,if_pos (by rw [wX,if_neg OM]; omega)]
  . rw [aAK,if_pos (by rw [wX,if_neg OM]; omega)]
  . rw [wX,if_neg OM]
 have hw:=dO (w:=w) (n:=m.i) OM;refine aB<|aU<|bB J J J J<|bZ J J<|aP<|bZ J J<|cJ (i:=30) (n:=0) (m:=5) (cs:=[(iV m.i),(iV m.s),(aC m.nx),(aC m.ot),(iV s)]) J (cM J) J J J<|aE<|aU<|aP<|aP<|gO (bI J<|bI J dR) (aSs m s w 1 0 _ J (cM J) hs.1 hs.2 hw.1 hw.2)<|aE<|aU ?_
 refine aP<|aP<|gK J J oB<|aZ J J J J<|aP<|aP<|aE<|bE ?_
 refine rU (aM<|aD<|aV m s w) (aM<|iV<|eJ m s w) (aM<|iV 0) (dM ?_ (λ_=>by simp)) (aH ?_)<|aH ?_
 . rw [gQ,if_neg (by rw [wX,if_neg OM]; omega)]
 . rw [aAK,if_neg (by rw [wX,if_neg OM]; omega)]
 . rw [wX,if_neg OM]; omega
theorem aAT (h:Hy):bJ Tryz.prog 56 [(V.agg [(iV h.m.i),(iV h.m.s),(aC h.m.nx),(aC h.m.ot),(aC h.acc)])] (iV (gG h)):=by
 refine' pK [] [] Tryz.func56 ?e λhB=>?_
 case e=>conv=>lhs; cbv
 dsimp only;refine aU<|cJ (i:=1) (n:=0) (m:=5) (cs:=[(iV h.m.i),(iV h.m.s),(aC h.m.nx),(aC h.m.ot),(aC h.acc)]) J (cM J) J J J<|aE<|aO<|aZ J J J J<|aL (qO h.m) J<|aE<|aO<|aP<|cA J J<|cE ?_
 refine aG J (λc1=>?_) λc1=>?_
 . 
  refine aO<|aP<|aE<|aN ?_
  refine aW (aM<|iV<|bK h.m)<|aH ?_
  . rw [gG,if_pos OM]
 have hm:=cY (m:=h.m) OM;refine aB<|aO<|aZ J J J J<|bA J<|cQ J J<|aZ J J J J<|bA J<|cA J J<|cE ?_
 refine aG J (λc2=>?_) λc2=>?_
 . 
  refine aO<|aE<|aN ?_
  refine aW (aM<|iV 1)<|aH ?_
  . rw [gG,if_neg OM,if_pos OM]
 refine aB<|aO<|aZ J J J J<|bA J<|aE (aF λQ3 n3 x3 y3 z3=>?_)
 refine cF (λmm T H=> ∃ (k:Nat),mm=h.acc.length - k/\T 1=(cR 1)/\T 24=(aC h.acc)/\T 25=(iV ((h.acc.length:Nat):Int))/\T 26=(iV ((k:Nat):Int))/\H 1=(bk 1 28 5 [[(iV h.m.i),(iV h.m.s),(aC h.m.nx),(aC h.m.ot),(aC h.acc)]])/\(k<=h.acc.length)/\(bK h.m=0)/\(h.acc.length=h.m.nx.length)/\(0<=h.m.s/\h.m.s < h.m.nx.length/\h.m.nx.length<=128)/\(fe (mG h) 0 h.acc.length=fe (mG h) k (h.acc.length - k))) ?_ ?_
 . 
  refine ⟨_,0,J,J,J,J,(bG (aM<|iV 0) J),J,?_,?_,?_,?_,?_⟩
  . omega
  . omega
  . omega
  . omega
  . rfl
 intro mm T H ⟨k,hmm,t1,t24,t25,t26,h1,hk,hv,hl,hs,hc⟩ Q4 p14 p24 p34;refine aU<|bY t26 t25<|cE ?_
 refine aG J (λc5=>?_) λc5=>?_
 . 
  refine aB (aF λQ6 n6 x6 y6 z6=>(aU<|aI t26<|dL (i:=k) t24 t26<|aJ J J<|aP<|aE<|aU<|aZ t1 h1 J J<|cQ t1 h1<|aZ J h1 J J<|aP ?_));refine aL (aDo h.m h.m.s<|aA h.acc k) J<|aP<|bR J J<|bR J J<|bR J J<|aP<|aP<|aE<|aO<|aP<|cA J J<|cE ?_
  refine aG J (λc7=>?_) λc7=>?_
  . 
   refine aO<|aP<|aE<|aN<|y6 _ _<|p24 _ _<|y3 _ _ ?_
   refine aW (aM<|iV<|wX h.m h.m.s<|aA h.acc k)<|aH ?_
   . have e:=aE6 hv k
     rw [if_pos OM] at e;have e2:fe (mG h) 0 h.acc.length=mG h k:=by rw [hc]; exact gH OM OM
     rw [gG,if_neg OM,if_neg OM,if_pos OM]; omega
  refine aB<|aU<|aP<|aP<|cA J J<|cE ?_
  refine gE J (λc8=>?_) λc8=>?_
  . 
   refine aU<|aE<|bE<|y6 _ _<|p24 _ _<|y3 _ _ ?_
   refine aW (aM<|iV 15)<|aH ?_
   . have e:=aE6 hv k
     rw [if_neg OM,if_pos OM] at e;have e2:fe (mG h) 0 h.acc.length=mG h k:=by rw [hc]; exact gH OM OM
     rw [gG,if_neg OM,if_neg OM,if_pos OM]; omega
  refine dH<|n6 _ _ (.done (fO<|cD t26<|aE ?_))
  refine p14 _ _ _ ?_ ⟨(k+1),J,t1,t24,t25,(bG (cS<|k+1) JR),h1,?_,?_,?_,?_,?_⟩
  . omega
  . omega
  . omega
  . omega
  . omega
  . have e:=aE6 hv k
    rw [if_neg OM,if_neg OM] at e;rw [hc]; exact gW e OM
 refine aS<|p34 _ _ _<|x3 _ _ (.done (aO<|aZ t1 h1 J J<|cQ t1 h1<|aZ J h1 J J<|dQ (i:=h.m.s) (aM<|aC h.acc) (aM<|iV h.m.s) OM OM J<|aJ J J<|bA J<|cA J J<|cE ?_))
 refine aG J (λc9=>?_) λc9=>?_
 . 
  refine aO<|aE<|aN ?_
  refine aW (aM<|iV 10)<|aH ?_
  . have e2:fe (mG h) 0 h.acc.length=0:=by rw [hc,jK OM]
    rw [gG,if_neg OM,if_neg OM,if_neg OM,if_pos OM]
 refine aB<|aU<|aE<|bE ?_
 refine aW (aM<|iV 0)<|aH ?_
 . have e2:fe (mG h) 0 h.acc.length=0:=by rw [hc,jK OM]
   rw [gG,if_neg OM,if_neg OM,if_neg OM,if_neg OM]
theorem aC7 (l:Ts) (o:Ob) (hb:Bd l.t) (ho:jE o=0) (hx:(dC l).length<=5000):bJ Tryz.prog 21 [(V.agg [(iV l.i),(V.sl (List.map cN l.t.nd))]),(V.agg [(iV o.i),(V.sl (List.map cT o.tr))])] (V.tup [(V.agg [(iV ((nW l o).m.i)),(iV ((nW l o).m.s)),(aC ((nW l o).m.nx)),(aC ((nW l o).m.ot)),(aC ((nW l o).acc))]),(iV (xM l o))]):=by
 refine' pK [14,15] [] Tryz.func21 ?e λhB=>?_
 case e=>conv=>lhs; cbv
 dsimp only;have hal:=pP l.t.nd;have hxn:=aJU l o;have hxl:=aAe l

 refine aU<|cJ (i:=2) (n:=0) (m:=2) (cs:=[(iV l.i),(V.sl<|List.map cN l.t.nd)]) J (cM J) J J J<|cJ (i:=3) (n:=0) (m:=2) (cs:=[(iV o.i),(V.sl<|List.map cT o.tr)]) J (cM J) J J J<|bX (i:=4) (n:=0) (m:=5) J (cM J) J<|aE<|aU<|bB J J J J<|bB J J J J<|bZ J J<|bX (i:=6) (n:=0) (m:=4) J (cM J) J<|cZ (vs:=[(iV l.i),(V.sl<|List.map cN l.t.nd),(iV o.i),(V.sl<|List.map cT o.tr)]) (B':=(bk 1 66 4 [[(iV l.i),(V.sl<|List.map cN l.t.nd),(iV o.i),(V.sl<|List.map cT o.tr)]])) J J J J (sB oB J J J J J)<|zL<|aU<|bB J J J J ?_
 refine aL (tZ l o hb) J<|aE<|aO<|aP<|cA J J<|cE ?_
 refine aG J (λc1=>?_) λc1=>?_
 . 
  have za:=c1;refine aO<|bZ J J<|aP<|cZ (vs:=[(iV 0),(iV 0),V.nilsl,V.nilsl,V.nilsl]) (B':=(bk 1 28 5 [[(iV 0),(iV 0),V.nilsl,V.nilsl,V.nilsl]])) J J J J (sB oB J J J J J)<|aE<|aN ?_
  refine fF (cH (u:=(V.agg [(iV 0),(iV 0),V.nilsl,V.nilsl,V.nilsl])) J (@J Blk<|bk 1 28 5 [[(iV 0),(iV 0),V.nilsl,V.nilsl,V.nilsl]])<|lB oB J J) (bM<|aM<|iV<|kH l o) (jW (aH ?_) (aH ?_) (cC ?_) (cC ?_)<|cC ?_)<|aH ?_
  . try rw [tH za]
    try rw [fY (by rw [tH za]; exact za)]
    try rfl
  . try rw [tH za]
    try rw [fY (by rw [tH za]; exact za)]
    try rfl
  . try rw [tH za]
    try rw [fY (by rw [tH za]; exact za)]
    try rfl
  . try rw [tH za]
    try rw [fY (by rw [tH za]; exact za)]
    try rfl
  . try rw [tH za]
    try rw [fY (by rw [tH za]; exact za)]
    try rfl
  . try rw [tH za]
    try rw [fY (by rw [tH za]; exact za)]
    try rfl
 have za:=c1;have ht:=aJc (show kH l o=0 by omega);obtain ⟨hi1,hi2,hv,hw0,_,hl0⟩:=nG ht.1;have hbn:=hb.n;have hll:=mP hv;have hlv:eM l.t=(if iB l.t=0 then mH (fT l.t.nd) else []):=J;refine aB<|aU<|bB J J J J<|aL (aB6 l o hb ht.1 ho hx) J<|aP<|bR J J<|bR J J<|bR J J<|aP<|aP<|aE<|aO<|aP<|cA J J ?_
 refine cE ?_;refine aG J (λc2=>?_) λc2=>?_
 . 
  have zb:=c2;refine aO<|bZ J J<|aP<|cZ (vs:=[(iV 0),(iV 0),V.nilsl,V.nilsl,V.nilsl]) (B':=(bk 1 28 5 [[(iV 0),(iV 0),V.nilsl,V.nilsl,V.nilsl]])) J J J J (sB oB J J J J J)<|aE<|aN ?_
  refine fF (cH (u:=(V.agg [(iV 0),(iV 0),V.nilsl,V.nilsl,V.nilsl])) J (@J Blk<|bk 1 28 5 [[(iV 0),(iV 0),V.nilsl,V.nilsl,V.nilsl]])<|lB oB J J) (bM<|aM<|iV<|pL l o) (jW (aH ?_) (aH ?_) (cC ?_) (cC ?_)<|cC ?_)<|aH ?_
  . try rw [tF za zb]
    try rw [fY (by rw [tF za zb]; exact zb)]
    try rfl
  . try rw [tF za zb]
    try rw [fY (by rw [tF za zb]; exact zb)]
    try rfl
  . try rw [tF za zb]
    try rw [fY (by rw [tF za zb]; exact zb)]
    try rfl
  . try rw [tF za zb]
    try rw [fY (by rw [tF za zb]; exact zb)]
    try rfl
  . try rw [tF za zb]
    try rw [fY (by rw [tF za zb]; exact zb)]
    try rfl
  . try rw [tF za zb]
    try rw [fY (by rw [tF za zb]; exact zb)]
    try rfl
 have zb:=c2;refine aB<|aO<|aP<|bA J<|fZ J J<|cE ?_
 refine aG J (λc3=>?_) λc3=>?_
 . 
  have zc:0 < (mK<|qra l o).length:=by have q:=c3; rw [if_pos (show pL l o=0 by omega)] at q; omega
  refine aO<|bZ J J<|cZ (vs:=[(iV 0),(iV 0),V.nilsl,V.nilsl,V.nilsl]) (B':=(bk 1 28 5 [[(iV 0),(iV 0),V.nilsl,V.nilsl,V.nilsl]])) J J J J (sB oB J J J J J)<|aE<|aN ?_
  refine fF (cH (u:=(V.agg [(iV 0),(iV 0),V.nilsl,V.nilsl,V.nilsl])) J (@J Blk<|bk 1 28 5 [[(iV 0),(iV 0),V.nilsl,V.nilsl,V.nilsl]])<|lB oB J J) (bM<|aM<|iV 12) (jW (aH ?_) (aH ?_) (cC ?_) (cC ?_)<|cC ?_)<|aH ?_
  . try rw [tG za zb zc]
    try rw [fY (by rw [tG za zb zc]; decide)]
    try rfl
  . try rw [tG za zb zc]
    try rw [fY (by rw [tG za zb zc]; decide)]
    try rfl
  . try rw [tG za zb zc]
    try rw [fY (by rw [tG za zb zc]; decide)]
    try rfl
  . try rw [tG za zb zc]
    try rw [fY (by rw [tG za zb zc]; decide)]
    try rfl
  . try rw [tG za zb zc]
    try rw [fY (by rw [tG za zb zc]; decide)]
    try rfl
  . try rw [tG za zb zc]
    try rw [fY (by rw [tG za zb zc]; decide)]
    try rfl
 have zc: ¬0 < (mK<|qra l o).length:=by have q:=c3; rw [if_pos (show pL l o=0 by omega)] at q; omega
 refine aB<|aU<|aZ J J J J<|aL (oE l.t hb) J<|aE<|aU<|aZ J J J J<|bZ J J<|aP<|bZ J J<|bX (i:=12) (n:=0) (m:=5) J (cM J) J<|cZ (vs:=[(iV l.i),(iV 0),V.nilsl,V.nilsl,(aC (if iB l.t=0 then mH (fT l.t.nd) else []))]) (B':=(bk 1 28 5 [[(iV l.i),(iV 0),V.nilsl,V.nilsl,(aC (if iB l.t=0 then mH (fT l.t.nd) else []))]])) J J J J (sB oB J J J J J)<|cE ?_
 refine fM ?_;refine aOk (λT H=>T 2=(cR 2)/\T 4=(cR 4)/\T 6=(cR 6)/\T 8=(V.sl<|List.map cXt (if pL l o=0 then iU l o else []))/\T 11=(aC (if iB l.t=0 then mH (fT l.t.nd) else []))/\T 12=(cR 12)/\T 51=(iV (((if iB l.t=0 then mH (fT l.t.nd) else []).length:Nat):Int))/\T 52=(iV 0)/\H 2=(bk 1 49 2 [[(iV l.i),(V.sl<|List.map cN l.t.nd)]])/\H 3=(bk 1 31 2 [[(iV o.i),(V.sl<|List.map cT o.tr)]])/\H 4=(bk 1 28 5 [[(iV 0),(iV 0),V.nilsl,V.nilsl,V.nilsl]])/\H 6=(bk 1 66 4 [[(iV l.i),(V.sl<|List.map cN l.t.nd),(iV o.i),(V.sl<|List.map cT o.tr)]])/\H 12=(bk 1 28 5 [[(iV l.i),(iV 0),V.nilsl,V.nilsl,(aC (if iB l.t=0 then mH (fT l.t.nd) else []))]])/\H 14=iN/\H 15=iN/\H 17=iN/\H 18=iN/\H 812=iN/\H 813=iN/\True) ?_ ?_
 . 
  refine aP<|bA J<|aP ?_
  exact gD ⟨J,J,J,J,J,J,J,J,J,J,J,J,J,J,J,J,J,J,J,trivial⟩
 intro T H ⟨t2,t4,t6,t8,t11,t12,t51,t52,h2,h3,h4,h6,h12,h14,h15,h17,h18,h812,h813,_⟩;refine .lazyCell 812 54 1 12 0 2 [(iV l.i),(iV 0),V.nilsl,V.nilsl,(aC (if iB l.t=0 then mH (fT l.t.nd) else []))] DE (by rw [h12]; rfl) (by rw [h12]; rfl) J (fL (R:=λT H=>T 2=(cR 2)/\T 4=(cR 4)/\T 6=(cR 6)/\T 8=(V.sl<|List.map cXt (if pL l o=0 then iU l o else []))/\T 11=(aC (if iB l.t=0 then mH (fT l.t.nd) else []))/\T 12=(cR 12)/\T 51=(iV (((if iB l.t=0 then mH (fT l.t.nd) else []).length:Nat):Int))/\T 52=(iV 0)/\H 2=(bk 1 49 2 [[(iV l.i),(V.sl<|List.map cN l.t.nd)]])/\H 3=(bk 1 31 2 [[(iV o.i),(V.sl<|List.map cT o.tr)]])/\H 4=(bk 1 28 5 [[(iV 0),(iV 0),V.nilsl,V.nilsl,V.nilsl]])/\H 6=(bk 1 66 4 [[(iV l.i),(V.sl<|List.map cN l.t.nd),(iV o.i),(V.sl<|List.map cT o.tr)]])/\H 12=(bk 1 28 5 [[(iV l.i),(iV 0),(V.ms 812 1 0 0),V.nilsl,(aC (if iB l.t=0 then mH (fT l.t.nd) else []))]])/\H 14=iN/\H 15=iN/\H 17=iN/\H 18=iN/\H 812=(bz 1 54 1 [])/\H 813=iN/\True) ⟨t2,t4,t6,t8,t11,t12,t51,t52,(iI<|iI h2),(iI<|iI h3),(iI<|iI h4),(iI<|iI h6),(by rw [aR,h12,(cM h812)]; rfl),(iI<|iI h14),(iI<|iI h15),(iI<|iI h17),(iI<|iI h18),(by rw [bT _ _ DE,aR,(cM h812)]),(iI<|iI h813),trivial⟩ ?_);intro T H ⟨t2,t4,t6,t8,t11,t12,t51,t52,h2,h3,h4,h6,h12,h14,h15,h17,h18,h812,h813,_⟩;refine .lazyCell 813 54 1 12 0 3 [(iV l.i),(iV 0),(V.ms 812 1 0 0),V.nilsl,(aC (if iB l.t=0 then mH (fT l.t.nd) else []))] DE (by rw [h12]; rfl) (by rw [h12]; rfl) J (.done ?_);refine fL (R:=λT H=>T 2=(cR 2)/\T 4=(cR 4)/\T 6=(cR 6)/\T 8=(V.sl<|List.map cXt (if pL l o=0 then iU l o else []))/\T 11=(aC (if iB l.t=0 then mH (fT l.t.nd) else []))/\T 12=(cR 12)/\T 51=(iV (((if iB l.t=0 then mH (fT l.t.nd) else []).length:Nat):Int))/\T 52=(iV 0)/\H 2=(bk 1 49 2 [[(iV l.i),(V.sl<|List.map cN l.t.nd)]])/\H 3=(bk 1 31 2 [[(iV o.i),(V.sl<|List.map cT o.tr)]])/\H 4=(bk 1 28 5 [[(iV 0),(iV 0),V.nilsl,V.nilsl,V.nilsl]])/\H 6=(bk 1 66 4 [[(iV l.i),(V.sl<|List.map cN l.t.nd),(iV o.i),(V.sl<|List.map cT o.tr)]])/\H 12=(bk 1 28 5 [[(iV l.i),(iV 0),(V.ms 812 1 0 0),(V.ms 813 1 0 0),(aC (if iB l.t=0 then mH (fT l.t.nd) else []))]])/\H 14=iN/\H 15=iN/\H 17=iN/\H 18=iN/\H 812=(bz 1 54 1 [])/\H 813=(bz 1 54 1 [])/\True) ⟨t2,t4,t6,t8,t11,t12,t51,t52,(iI<|iI h2),(iI<|iI h3),(iI<|iI h4),(iI<|iI h6),(by rw [aR,h12,(cM h813)]; rfl),(iI<|iI h14),(iI<|iI h15),(iI<|iI h17),(iI<|iI h18),(iI<|iI h812),(by rw [bT _ _ DE,aR,(cM h813)]),trivial⟩ ?_
 intro T H ⟨t2,t4,t6,t8,t11,t12,t51,t52,h2,h3,h4,h6,h12,h14,h15,h17,h18,h812,h813,_⟩;refine aF λQ4 n4 x4 y4 z4=>?_;refine cF (λmm T H=> ∃ (k:Nat) (v:Nat) (w:Nat) (v14:Nat) (v15:Nat) (v17:Nat) (v18:Nat),mm=(eM l.t).length - k/\T 2=(cR 2)/\T 4=(cR 4)/\T 6=(cR 6)/\T 8=(V.sl<|List.map cXt<|iU l o)/\T 11=(aC<|eM l.t)/\T 12=(cR 12)/\T 51=(iV (((eM l.t).length:Nat):Int))/\T 52=(iV ((k:Nat):Int))/\H 2=(bk 1 49 2 [[(iV l.i),(V.sl<|List.map cN l.t.nd)]])/\H 3=(bk 1 31 2 [[(iV o.i),(V.sl<|List.map cT o.tr)]])/\H 4=(bk 1 28 5 [[(iV 0),(iV 0),V.nilsl,V.nilsl,V.nilsl]])/\H 6=(bk 1 66 4 [[(iV l.i),(V.sl<|List.map cN l.t.nd),(iV o.i),(V.sl<|List.map cT o.tr)]])/\H 12=(bk 1 28 5 [[(iV l.i),(iV 0),(V.ms 812 v 0 k),(V.ms 813 w 0 k),(aC<|eM l.t)]])/\((H 14).ver=v14/\(H 14).live=false)/\((H 15).ver=v15/\(H 15).live=false)/\(H 17).ver=v17/\(H 18).ver=v18/\H 812=(bz v 54 1<|List.map cL<|eI (iX (hyN l o) l.i.toNat) k)/\H 813=(bz w 54 1<|List.map cL<|eI (iX (hyO l o) l.i.toNat) k)/\(k<=(eM l.t).length)/\(nO l o=fi (inx l o) (k*l.i.toNat) ((dC l).length - k*l.i.toNat))) ?_ ?_
 . 
  refine ⟨_,0,1,1,0,0,0,0,J,t2,t4,t6,(bG t8 (by (rw [if_pos (show pL l o=0 by omega)]; done))),(bG t11 JR),t12,(bG t51 JR),(bG t52 J),h2,h3,h4,h6,(bG h12 JR),⟨(cM h14),congrArg Blk.live h14⟩,⟨(cM h15),congrArg Blk.live h15⟩,(cM h17),(cM h18),(bG h812 JR),(bG h813 JR),?_,?_⟩
  . omega
  . simp [nO]
 intro mm T H ⟨k,v,w,v14,v15,v17,v18,hmm,t2,t4,t6,t8,t11,t12,t51,t52,h2,h3,h4,h6,h12,h14,h15,h17,h18,h812,h813,hk,hc⟩ Q5 p15 p25 p35;refine aU<|bY t52 t51<|cE ?_
 refine aG J (λc6=>?_) λc6=>?_
 . 
  have hM1:=aSd (show (0:Int)<=l.i by omega) k;have hM2:=aSd (show (0:Int)<=l.i by omega)<|k+1
  have hM3:(k+1)*l.i.toNat=k*l.i.toNat+l.i.toNat:=Nat.succ_mul _ _;have hM4:(k+1)*l.i.toNat<=(eM l.t).length*l.i.toNat:=Nat.mul_le_mul_right _ OM;refine aB (aF λQ7 n7 x7 y7 z7=>(aU<|aI t52<|aE<|aU<|iD (i:=14) (n:=v14) J h14.1<|iD (i:=15) (n:=v15) J h15.1<|zL<|aU<|aI t8<|aP<|aZ t2 h2 J J ?_));refine aP1 J J OM OM<|aP<|cD J<|aZ t2 h2 J J<|aP1 J J OM OM<|aHg (m:=((((k:Nat):Int)*l.i).toNat)) (n:=((((k+1:Nat):Int)*l.i).toNat)) (aM<|V.sl<|List.map cXt<|iU l o) (bG (aM<|iV<|((k:Nat):Int)*l.i)<|rD OM) (bG (aM<|iV<|((k+1:Nat):Int)*l.i)<|rD OM) OM OM (λ_=>J)<|bA J<|aE (aF λQ8 n8 x8 y8 z8=>?_)
  refine cF (λmm T H=> ∃ (j:Nat) (v2:Nat) (w2:Nat) (v17:Nat) (v18:Nat),mm=l.i.toNat - j/\T 2=(cR 2)/\T 4=(cR 4)/\T 6=(cR 6)/\T 8=(V.sl<|List.map cXt<|iU l o)/\T 11=(aC<|eM l.t)/\T 12=(cR 12)/\T 14=(V.ms 14 v2 0 j)/\T 15=(V.ms 15 w2 0 j)/\T 51=(iV (((eM l.t).length:Nat):Int))/\T 52=(iV ((k:Nat):Int))/\T 65=(V.sl<|List.map cXt<|(List.take ((k+1)*l.i.toNat)<|iU l o).drop (k*l.i.toNat))/\T 66=(iV ((l.i.toNat:Nat):Int))/\T 67=(iV ((j:Nat):Int))/\H 2=(bk 1 49 2 [[(iV l.i),(V.sl<|List.map cN l.t.nd)]])/\H 3=(bk 1 31 2 [[(iV o.i),(V.sl<|List.map cT o.tr)]])/\H 4=(bk 1 28 5 [[(iV 0),(iV 0),V.nilsl,V.nilsl,V.nilsl]])/\H 6=(bk 1 66 4 [[(iV l.i),(V.sl<|List.map cN l.t.nd),(iV o.i),(V.sl<|List.map cT o.tr)]])/\H 12=(bk 1 28 5 [[(iV l.i),(iV 0),(V.ms 812 v 0 k),(V.ms 813 w 0 k),(aC<|eM l.t)]])/\H 14=(bz v2 3 1<|List.map cI<|eI (λa=>hyN l o<|k*l.i.toNat+a) j)/\H 15=(bz w2 3 1<|List.map cI<|eI (λa=>hyO l o<|k*l.i.toNat+a) j)/\(H 17).ver=v17/\(H 18).ver=v18/\H 812=(bz v 54 1<|List.map cL<|eI (iX (hyN l o) l.i.toNat) k)/\H 813=(bz w 54 1<|List.map cL<|eI (iX (hyO l o) l.i.toNat) k)/\(j<=l.i.toNat)/\(nO l o=fi (inx l o) (k*l.i.toNat+j) ((dC l).length - (k*l.i.toNat+j)))) ?_ ?_
  . 
   refine ⟨_,0,(v14+1),(v15+1),v17,v18,J,t2,t4,t6,t8,t11,t12,(bG (aM<|V.ms 14 (v14+1) 0 0) JR),(bG (aM<|V.ms 15 (v15+1) 0 0) JR),t51,t52,(bG (aM<|V.sl<|List.map cXt<|(List.take ((((k+1:Nat):Int)*l.i).toNat)<|iU l o).drop ((((k:Nat):Int)*l.i).toNat)) (by (rw [hM1,hM2,Int.toNat_natCast,Int.toNat_natCast]; done))),(bG (aM<|iV ((((List.take ((((k+1:Nat):Int)*l.i).toNat)<|iU l o).drop ((((k:Nat):Int)*l.i).toNat)).length:Nat):Int)) (by (rw [hM1,hM2,Int.toNat_natCast,Int.toNat_natCast,List.length_drop,List.length_take,hxn,hxl]; congr 1; omega))),(bG (aM<|iV 0) J),h2,h3,h4,h6,h12,(bG (@J Blk<|bz (v14+1) 3 1 []) JR),(bG (@J Blk<|bz (v15+1) 3 1 []) JR),h17,h18,h812,h813,?_,?_⟩
   . omega
   . exact hc
  intro mm T H ⟨j,v2,w2,v17,v18,hmm,t2,t4,t6,t8,t11,t12,t14,t15,t51,t52,t65,t66,t67,h2,h3,h4,h6,h12,h14,h15,h17,h18,h812,h813,hj,hc2⟩ Q9 p19 p29 p39;refine aU<|bY t67 t66<|cE ?_
  refine aG J (λc10=>?_) λc10=>?_
  . 
   have hnd:=vJ za zb zc (show k*l.i.toNat+j < (dC l).length by omega);have hkn:=aC5 zc (show k*l.i.toNat+j < (dC l).length by omega);have r1:=uE ht.1<|bC (show k*l.i.toNat+j < (dC l).length by omega)
   have d9:aA ((List.take ((k+1)*l.i.toNat)<|iU l o).drop (k*l.i.toNat)) j=⟨aA (dC l) (k*l.i.toNat+j),(bF l.t o<|aA (dC l)<|k*l.i.toNat+j).1⟩:=by rw [vD,jU OM]; exact aIF OM
   have d10:=aJi ho r1.2.1 hkn;refine aB (aF λQ11 n11 x11 y11 z11=>(aU<|aNN (i:=j) t65 t67 (by (simp; omega)) J<|aJ J J<|bX (i:=17) (n:=v17) (m:=2) J h17 J<|cZ (vs:=[(aD<|(aA ((List.take ((k+1)*l.i.toNat)<|iU l o).drop (k*l.i.toNat)) j).w),(iV<|(aA ((List.take ((k+1)*l.i.toNat)<|iU l o).drop (k*l.i.toNat)) j).n)]) (B':=(bk (v17+1) 101 2 [[(aD<|(aA ((List.take ((k+1)*l.i.toNat)<|iU l o).drop (k*l.i.toNat)) j).w),(iV<|(aA ((List.take ((k+1)*l.i.toNat)<|iU l o).drop (k*l.i.toNat)) j).n)]])) J J J J (sB oB J J J J J)<|zL<|aU<|bB t6 h6 J J<|aZ J J J J<|aL (xP l o ((aA ((List.take ((k+1)*l.i.toNat)<|iU l o).drop (k*l.i.toNat)) j).n) (by simp only [d9]; exact hnd.2.1) (by simp only [d9]; exact hnd.2.2.1)) J<|jS J<|cE ?_));refine dW J (λc12=>?_) (λc12=>?_)
   . 
    have d0:(aA l.t.nd (bF l.t o<|aA (dC l)<|k*l.i.toNat+j).1.toNat).lf=false:=by have q:=c12; rw [d9] at q; simpa using q
    have d1:inx l o (k*l.i.toNat+j)=true:=by unfold inx; simpa using d0
    have zd:0<=nO l o:=by rw [hc2,qZ (p:=inx l o) d1 OM]; omega
    refine aO<|bZ J J<|cZ (vs:=[(iV 0),(iV 0),V.nilsl,V.nilsl,V.nilsl]) (B':=(bk 1 28 5 [[(iV 0),(iV 0),V.nilsl,V.nilsl,V.nilsl]])) t4 J J h4 (sB oB J J J J J)<|aE<|aN<|y11 _ _<|p29 _ _<|y8 _ _<|y7 _ _<|p25 _ _<|y4 _ _ ?_
    refine fF (cH (u:=(V.agg [(iV 0),(iV 0),V.nilsl,V.nilsl,V.nilsl])) t4 (@J Blk<|bk 1 28 5 [[(iV 0),(iV 0),V.nilsl,V.nilsl,V.nilsl]])<|lB oB J J) (bM<|aM<|iV 10) (jW (aH ?_) (aH ?_) (cC ?_) (cC ?_)<|cC ?_)<|aH ?_
    . try rw [tE za zb zc zd]
      try rw [fY (by rw [tE za zb zc zd]; decide)]
      try rfl
    . try rw [tE za zb zc zd]
      try rw [fY (by rw [tE za zb zc zd]; decide)]
      try rfl
    . try rw [tE za zb zc zd]
      try rw [fY (by rw [tE za zb zc zd]; decide)]
      try rfl
    . try rw [tE za zb zc zd]
      try rw [fY (by rw [tE za zb zc zd]; decide)]
      try rfl
    . try rw [tE za zb zc zd]
      try rw [fY (by rw [tE za zb zc zd]; decide)]
      try rfl
    . try rw [tE za zb zc zd]
      try rw [fY (by rw [tE za zb zc zd]; decide)]
      try rfl
   have d1:inx l o (k*l.i.toNat+j)=false:=by have q:=c12; rw [d9] at q; unfold inx; simpa using q
   refine aB<|aU<|cQ t2 h2<|aZ J h2 J J<|aZ J J J J<|dQ (i:=((aA ((List.take ((k+1)*l.i.toNat)<|iU l o).drop (k*l.i.toNat)) j).n)) (aM<|V.sl<|List.map cN l.t.nd) (aM<|iV<|(aA ((List.take ((k+1)*l.i.toNat)<|iU l o).drop (k*l.i.toNat)) j).n) (by (simp only [d9]; omega)) (by (simp only [d9]; omega)) J<|dY (cs':=(List.drop 1<|cN<|aA l.t.nd ((aA ((List.take ((k+1)*l.i.toNat)<|iU l o).drop (k*l.i.toNat)) j).n).toNat)) J J<|aJ J J<|bX (i:=18) (n:=v18) (m:=1) J h18 J<|cZ (vs:=[(aD<|(aA l.t.nd ((aA ((List.take ((k+1)*l.i.toNat)<|iU l o).drop (k*l.i.toNat)) j).n).toNat).ac)]) (B':=(bk (v18+1) 54 1 [[(aD<|(aA l.t.nd ((aA ((List.take ((k+1)*l.i.toNat)<|iU l o).drop (k*l.i.toNat)) j).n).toNat).ac)]])) J J J J (sB oB J J J J J)<|R_r<|aI t14<|aI t11 ?_
   refine zX (bI J dR)<|kS (bI (aM<|aC<|eM l.t)<|bI (aM<|V.fn 54 [] [(V.mp 18 (v18+1) 0 0)]) dR) (aDb (λv=>decide (v=hyA l o (k*l.i.toNat+j))) (eM l.t) 54 ([(V.pp [(aD<|(aA l.t.nd ((aA ((List.take ((k+1)*l.i.toNat)<|iU l o).drop (k*l.i.toNat)) j).n).toNat).ac)])]) SI SI (λi _=>by have q:=aHW (aA (eM l.t) i)<|hyA l o<|k*l.i.toNat+j; unfold hyA at q ⊢; simpa only [d9] using q)) (cO (dN 6 _ (by simp [-List.map_take,-List.map_drop,-List.map_append,-List.map_reverse]))<|cO (aEz (@J Blk<|bk (v18+1) 54 1 [[(aD<|(aA l.t.nd ((aA ((List.take ((k+1)*l.i.toNat)<|iU l o).drop (k*l.i.toNat)) j).n).toNat).ac)]]) (by simp [-List.map_take,-List.map_drop,-List.map_append,-List.map_reverse])) J) (by simp [-List.map_take,-List.map_drop,-List.map_append,-List.map_reverse]) (Or.inr J)<|aY J J<|gF (l:=(eI (λa=>hyN l o<|k*l.i.toNat+a) j)) (f:=cI) (x:=(fi (λjx=>(λv=>decide (v=hyA l o (k*l.i.toNat+j))) (aA (eM l.t) jx)) 0 (eM l.t).length)) (aM<|V.ms 14 v2 0 j) h14 (by exact (bS _ _).symm) (aM<|V.sl [[(iV<|fi (λjx=>(λv=>decide (v=hyA l o (k*l.i.toNat+j))) (aA (eM l.t) jx)) 0 (eM l.t).length)]])<|aE ?_
   refine tR (λT H=>T 2=(cR 2)/\T 4=(cR 4)/\T 6=(cR 6)/\T 8=(V.sl<|List.map cXt<|iU l o)/\T 11=(aC<|eM l.t)/\T 12=(cR 12)/\T 14=(V.ms 14 (v2+1) 0<|j+1)/\T 15=(V.ms 15 (w2+1) 0<|j+1)/\T 51=(iV (((eM l.t).length:Nat):Int))/\T 52=(iV ((k:Nat):Int))/\T 65=(V.sl<|List.map cXt<|(List.take ((k+1)*l.i.toNat)<|iU l o).drop (k*l.i.toNat))/\T 66=(iV ((l.i.toNat:Nat):Int))/\T 67=(iV ((j:Nat):Int))/\H 2=(bk 1 49 2 [[(iV l.i),(V.sl<|List.map cN l.t.nd)]])/\H 3=(bk 1 31 2 [[(iV o.i),(V.sl<|List.map cT o.tr)]])/\H 4=(bk 1 28 5 [[(iV 0),(iV 0),V.nilsl,V.nilsl,V.nilsl]])/\H 6=(bk 1 66 4 [[(iV l.i),(V.sl<|List.map cN l.t.nd),(iV o.i),(V.sl<|List.map cT o.tr)]])/\H 12=(bk 1 28 5 [[(iV l.i),(iV 0),(V.ms 812 v 0 k),(V.ms 813 w 0 k),(aC<|eM l.t)]])/\H 14=(bz (v2+1) 3 1<|List.map cI<|eI (λa=>hyN l o<|k*l.i.toNat+a) j++[(fi (λjx=>(λv=>decide (v=hyA l o (k*l.i.toNat+j))) (aA (eM l.t) jx)) 0 (eM l.t).length)])/\H 15=(bz (w2+1) 3 1<|List.map cI<|eI (λa=>hyO l o<|k*l.i.toNat+a) j++[(hyO l o<|k*l.i.toNat+j)])/\H 17=(bk (v17+1) 101 2 [[(aD<|(aA ((List.take ((k+1)*l.i.toNat)<|iU l o).drop (k*l.i.toNat)) j).w),(iV<|(aA ((List.take ((k+1)*l.i.toNat)<|iU l o).drop (k*l.i.toNat)) j).n)]])/\H 18=(bk (v18+1) 54 1 [[(aD<|(aA l.t.nd ((aA ((List.take ((k+1)*l.i.toNat)<|iU l o).drop (k*l.i.toNat)) j).n).toNat).ac)]])/\H 812=(bz v 54 1<|List.map cL<|eI (iX (hyN l o) l.i.toNat) k)/\H 813=(bz w 54 1<|List.map cL<|eI (iX (hyO l o) l.i.toNat) k)/\True) ?_ ?_
   . 
    refine aI t15<|bB t6 h6 J J<|aZ J J J J<|aZ J J J J<|bA J<|lS J J OM (by (simp only [d9]; omega))<|sE (n:=((((((aA ((List.take ((k+1)*l.i.toNat)<|iU l o).drop (k*l.i.toNat)) j).w).length:Nat):Int) - (1:Int)).toNat)) (aM<|aD<|(aA ((List.take ((k+1)*l.i.toNat)<|iU l o).drop (k*l.i.toNat)) j).w) (bG (aM<|iV<|((((aA ((List.take ((k+1)*l.i.toNat)<|iU l o).drop (k*l.i.toNat)) j).w).length:Nat):Int) - (1:Int))<|rD (by (simp only [d9]; omega))) OM (λ_=>J)<|aZ J J J J<|aZ J J J J<|bA J<|lS J J OM (by (simp only [d9]; omega))<|kT (n:=((((((aA ((List.take ((k+1)*l.i.toNat)<|iU l o).drop (k*l.i.toNat)) j).w).length:Nat):Int) - (1:Int)).toNat)) (aM<|aD<|(aA ((List.take ((k+1)*l.i.toNat)<|iU l o).drop (k*l.i.toNat)) j).w) (bG (aM<|iV<|((((aA ((List.take ((k+1)*l.i.toNat)<|iU l o).drop (k*l.i.toNat)) j).w).length:Nat):Int) - (1:Int))<|rD (by (simp only [d9]; omega))) OM (λ_=>J) ?_
    refine aEu (bI J<|bI J<|bI J dR) (show bJ Tryz.prog 52 [(V.agg [(iV l.i),(V.sl<|List.map cN l.t.nd),(iV o.i),(V.sl<|List.map cT o.tr)]),(aD<|List.take ((((((aA ((List.take ((k+1)*l.i.toNat)<|iU l o).drop (k*l.i.toNat)) j).w).length:Nat):Int) - (1:Int)).toNat)<|(aA ((List.take ((k+1)*l.i.toNat)<|iU l o).drop (k*l.i.toNat)) j).w),(aD<|List.drop ((((((aA ((List.take ((k+1)*l.i.toNat)<|iU l o).drop (k*l.i.toNat)) j).w).length:Nat):Int) - (1:Int)).toNat)<|(aA ((List.take ((k+1)*l.i.toNat)<|iU l o).drop (k*l.i.toNat)) j).w)] (V.sl [[iV (hyO l o<|k*l.i.toNat+j)]]) from by simp only [d9]; rw [show (((aA (dC l)<|k*l.i.toNat+j).length:Int) - 1).toNat=(aA (dC l)<|k*l.i.toNat+j).length - 1 by omega]; have q:=sM l o (exI l<|k*l.i.toNat+j) (exL l<|k*l.i.toNat+j) ho (by unfold exI; rw [List.length_take]; omega) (by unfold exL; rw [List.length_drop]; omega) (by rw [aH4]; exact hkn); rw [d10] at q; exact q)<|gF (l:=(eI (λa=>hyO l o<|k*l.i.toNat+a) j)) (f:=cI) (x:=(hyO l o<|k*l.i.toNat+j)) (aM<|V.ms 15 w2 0 j) h15 (by exact (bS _ _).symm) (aM<|V.sl [[(iV<|hyO l o<|k*l.i.toNat+j)]])<|aP ?_
    exact gD ⟨t2,t4,t6,t8,t11,t12,J,J,t51,t52,t65,t66,t67,h2,h3,h4,h6,h12,J,J,J,J,h812,h813,trivial⟩
   intro T H ⟨t2,t4,t6,t8,t11,t12,t14,t15,t51,t52,t65,t66,t67,h2,h3,h4,h6,h12,h14,h15,h17,h18,h812,h813,_⟩;refine n11 _ _ (.done (fO<|cD t67<|aE ?_));refine p19 _ _ _ ?_ ⟨(j+1),(v2+1),(w2+1),(v17+1),(v18+1),J,t2,t4,t6,t8,t11,t12,(bG t14 JR),(bG t15 JR),t51,t52,t65,t66,(bG (cS<|j+1) JR),h2,h3,h4,h6,h12,(bG h14 (by (rw [fK]; first|done|rfl))),(bG h15 (by (rw [fK]; first|done|rfl))),(cM h17),(cM h18),h812,h813,?_,?_⟩
   . omega
   . omega
   . rw [hc2,mX (p:=inx l o) d1 OM]; rfl
  refine aS<|p39 _ _ _<|x8 _ _ ?_
  refine .freeze 14 (.done ?_);refine W_g<|cQ (aX t12 J) (aQ (id:=14) h12 DE)<|cQ J (aQ (id:=14) h12 DE)<|bB J (aQ (id:=14) h12 DE) J J<|aI (aX t14<|mW h14 SI (l:=(eI (λa=>hyN l o<|k*l.i.toNat+a) j)) J (by exact (bS _ _).symm))<|aY J J<|gF (l:=(eI (iX (hyN l o) l.i.toNat) k)) (f:=cL) (x:=(eI (λa=>hyN l o<|k*l.i.toNat+a) j)) (aM<|V.ms 812 v 0 k) (aQ (id:=14) h812 DE) (by exact (bS _ _).symm) (aM<|V.sl [[(aD<|eI (λa=>hyN l o<|k*l.i.toNat+a) j)]])<|cQ (aX t12 J) (aQ (id:=14) h12 DE)<|cQ J (aQ (id:=14) h12 DE)<|cZ (vs:=[(V.ms 812 (v+1) 0<|k+1)]) (B':=(bk 1 28 5 [[(iV l.i),(iV 0),(V.ms 812 (v+1) 0<|k+1),(V.ms 813 w 0 k),(aC<|eM l.t)]])) J J J (aQ (id:=14) h12 DE) (sB oB J J J J J)<|cE ?_
  refine .freeze 15 (.done ?_);refine fO<|cQ (aX (aX t12 J) J) J<|aZ J J J J<|aI (aX (aX t15<|dV DE)<|mW (aQ (id:=14) h15 DE) SI (l:=(eI (λa=>hyO l o<|k*l.i.toNat+a) j)) J (by exact (bS _ _).symm))<|aY J J<|gF (l:=(eI (iX (hyO l o) l.i.toNat) k)) (f:=cL) (x:=(eI (λa=>hyO l o<|k*l.i.toNat+a) j)) (aM<|V.ms 813 w 0 k) (aQ (id:=15) (aQ (id:=14) h813 DE) DE) (by exact (bS _ _).symm) (aM<|V.sl [[(aD<|eI (λa=>hyO l o<|k*l.i.toNat+a) j)]])<|cQ (aX (aX t12 J) J) J<|cQ J J<|cZ (vs:=[(V.ms 813 (w+1) 0<|k+1)]) (B':=(bk 1 28 5 [[(iV l.i),(iV 0),(V.ms 812 (v+1) 0<|k+1),(V.ms 813 (w+1) 0<|k+1),(aC<|eM l.t)]])) J J J J (sB oB J J J J J)<|cE<|n7 _ _ (.done (fO<|cD (aX (aX t52 J) J)<|aP ?_))
  refine cE ?_;refine p15 _ _ _ ?_ ⟨(k+1),(v+1),(w+1),v2,w2,v17,v18,J,(aX (aX t2 J) J),(aX (aX t4 J) J),(aX (aX t6 J) J),(aX (aX t8 J) J),(aX (aX t11 J) J),(aX (aX t12 J) J),(aX (aX t51 J) J),(bG (cS<|k+1) JR),(aQ (id:=15) (aQ (id:=14) h2 DE) DE),(aQ (id:=15) (aQ (id:=14) h3 DE) DE),(aQ (id:=15) (aQ (id:=14) h4 DE) DE),(aQ (id:=15) (aQ (id:=14) h6 DE) DE),(bG (@J Blk<|bk 1 28 5 [[(iV l.i),(iV 0),(V.ms 812 (v+1) 0<|k+1),(V.ms 813 (w+1) 0<|k+1),(aC<|eM l.t)]]) JR),(gV (id:=15)<|fW<|cM h14),(fW<|cM<|aQ (id:=14) h15 DE),(nK (id:=15)<|nK (id:=14) h17),(nK (id:=15)<|nK (id:=14) h18),(bG (@J Blk<|bz (v+1) 54 1<|List.map cL<|eI (iX (hyN l o) l.i.toNat) k++[eI (λa=>hyN l o<|k*l.i.toNat+a) j]) (by (rw [fK,show l.i.toNat=j by omega]; first|done|rfl))),(bG (@J Blk<|bz (w+1) 54 1<|List.map cL<|eI (iX (hyO l o) l.i.toNat) k++[eI (λa=>hyO l o<|k*l.i.toNat+a) j]) (by (rw [fK,show l.i.toNat=j by omega]; first|done|rfl))),?_,?_⟩
  . omega
  . omega
  . have e:(k+1)*l.i.toNat=k*l.i.toNat+j:=OM
    rw [e]; exact hc2
 have zd: ¬0<=nO l o:=by rw [hc,pF (by rw [hxl,show k=(eM l.t).length by omega]; exact Nat.le_refl _)]; omega
 refine aS<|p35 _ _ _<|x4 _ _ (.done (aO<|bB t12 h12 J J<|kS (bI (aM<|V.agg [(iV l.i),(iV 0),(V.ms 812 v 0 k),(V.ms 813 w 0 k),(aC<|eM l.t)]) dR) (aAT (⟨(⟨l.i,(0:Int),(eI (iX (hyN l o) l.i.toNat) k),(eI (iX (hyO l o) l.i.toNat) k)⟩:M),(eM l.t)⟩:Hy)) (cO (mA<|cO (dN 5 _ (by simp [-List.map_take,-List.map_drop,-List.map_append,-List.map_reverse]))<|cO (dN 5 _ (by simp [-List.map_take,-List.map_drop,-List.map_append,-List.map_reverse]))<|cO (wW h812 SI (uJ (l:=(eI (iX (hyN l o) l.i.toNat) k)) (by exact (bS _ _).symm)) (λ_=>by simp))<|cO (wW h813 SI (uJ (l:=(eI (iX (hyO l o) l.i.toNat) k)) (by exact (bS _ _).symm)) (λ_=>by simp))<|cO (dN 5 _ (by simp [-List.map_take,-List.map_drop,-List.map_append,-List.map_reverse])) J) J) (by simp [-List.map_take,-List.map_drop,-List.map_append,-List.map_reverse]) (Or.inr J)<|cA J J<|cE ?_))
 refine aG J (λc13=>?_) λc13=>?_
 . 
  have ze:gG (gN l o)≠0:=by have q:=c13; rw [show k=(eM l.t).length by omega] at q; exact q
  refine aO<|bZ J J<|cZ (vs:=[(iV 0),(iV 0),V.nilsl,V.nilsl,V.nilsl]) (B':=(bk 1 28 5 [[(iV 0),(iV 0),V.nilsl,V.nilsl,V.nilsl]])) t4 J J h4 (sB oB J J J J J)<|aE<|aN ?_
  refine fF (cH (u:=(V.agg [(iV 0),(iV 0),V.nilsl,V.nilsl,V.nilsl])) t4 (@J Blk<|bk 1 28 5 [[(iV 0),(iV 0),V.nilsl,V.nilsl,V.nilsl]])<|lB oB J J) (bM<|aM<|iV 15) (jW (aH ?_) (aH ?_) (cC ?_) (cC ?_)<|cC ?_)<|aH ?_
  . try rw [rM za zb zc zd ze]
    try rw [fY (by rw [rM za zb zc zd ze]; decide)]
    try rfl
  . try rw [rM za zb zc zd ze]
    try rw [fY (by rw [rM za zb zc zd ze]; decide)]
    try rfl
  . try rw [rM za zb zc zd ze]
    try rw [fY (by rw [rM za zb zc zd ze]; decide)]
    try rfl
  . try rw [rM za zb zc zd ze]
    try rw [fY (by rw [rM za zb zc zd ze]; decide)]
    try rfl
  . try rw [rM za zb zc zd ze]
    try rw [fY (by rw [rM za zb zc zd ze]; decide)]
    try rfl
  . try rw [rM za zb zc zd ze]
    try rw [fY (by rw [rM za zb zc zd ze]; decide)]
    try rfl
 have ze: ¬gG (gN l o)≠0:=by have q:=c13; rw [show k=(eM l.t).length by omega] at q; exact q
 refine aB<|aU<|bB t12 h12 J J<|cZ (vs:=[(iV l.i),(iV 0),(V.ms 812 v 0 k),(V.ms 813 w 0 k),(aC<|eM l.t)]) (B':=(bk 1 28 5 [[(iV l.i),(iV 0),(V.ms 812 v 0 k),(V.ms 813 w 0 k),(aC<|eM l.t)]])) t4 J J h4 (sB oB J J J J J)<|aE<|bE ?_
 refine fF (cH (u:=(V.agg [(iV l.i),(iV 0),(V.ms 812 v 0 k),(V.ms 813 w 0 k),(aC<|eM l.t)])) t4 (@J Blk<|bk 1 28 5 [[(iV l.i),(iV 0),(V.ms 812 v 0 k),(V.ms 813 w 0 k),(aC<|eM l.t)]])<|lB oB J J) (bM<|aM<|iV 0) (jW (aH ?_) (aH ?_) (mI h812 SI (l:=(eI (iX (hyN l o) l.i.toNat) k)) J (by exact (bS _ _).symm) (λ_=>by simp) ?_) (mI h813 SI (l:=(eI (iX (hyO l o) l.i.toNat) k)) J (by exact (bS _ _).symm) (λ_=>by simp) ?_)<|dM ?_ (λ_=>by simp))<|aH ?_
 . try rw [qH za zb zc zd ze]
   try rw [tB (by rw [qH za zb zc zd ze])]
   try first|rfl|(rw [show k=(eM l.t).length by omega]; rfl)
 . try rw [qH za zb zc zd ze]
   try rw [tB (by rw [qH za zb zc zd ze])]
   try first|rfl|(rw [show k=(eM l.t).length by omega]; rfl)
 . try rw [qH za zb zc zd ze]
   try rw [tB (by rw [qH za zb zc zd ze])]
   try first|rfl|(rw [show k=(eM l.t).length by omega]; rfl)
 . try rw [qH za zb zc zd ze]
   try rw [tB (by rw [qH za zb zc zd ze])]
   try first|rfl|(rw [show k=(eM l.t).length by omega]; rfl)
 . try rw [qH za zb zc zd ze]
   try rw [tB (by rw [qH za zb zc zd ze])]
   try first|rfl|(rw [show k=(eM l.t).length by omega]; rfl)
 . try rw [qH za zb zc zd ze]
   try rw [tB (by rw [qH za zb zc zd ze])]
   try first|rfl|(rw [show k=(eM l.t).length by omega]; rfl)
theorem aGl (l:Ts) (o:Ob) (s:Spl) (hb:Bd l.t):bJ Tryz.prog 57 [(V.agg [(iV l.i),(V.sl (List.map cN l.t.nd)),(iV o.i),(V.sl (List.map cT o.tr))]),(V.agg [(aD s.p),(iV s.a),(aD s.x)])] (iV (if kH l o≠0 then kH l o else prS s l.i)):=by
 refine' pK [] [] Tryz.func57 ?e λhB=>?_
 case e=>conv=>lhs; cbv
 dsimp only;refine aU<|cJ (i:=2) (n:=0) (m:=4) (cs:=[(iV l.i),(V.sl<|List.map cN l.t.nd),(iV o.i),(V.sl<|List.map cT o.tr)]) J (cM J) J J J<|cJ (i:=3) (n:=0) (m:=3) (cs:=[(aD s.p),(iV s.a),(aD s.x)]) J (cM J) J J J<|aE<|aO<|bB J J J J<|aL (tZ l o hb) J<|aE<|aO<|aP<|cA J J<|cE ?_
 refine aG J (λc1=>?_) λc1=>?_
 . 
  refine aO<|aP<|aE<|aN ?_
  refine aW (aM<|iV<|kH l o)<|aH ?_
  . rw [if_pos (by assumption)]
 refine aB<|aO<|aZ J J J J<|cQ J J<|aZ J J J J<|aL (gM s.p l.i) J<|aE<|aO<|aP<|cA J J<|cE ?_
 refine aG J (λc2=>?_) λc2=>?_
 . 
  refine aO<|aP<|aE<|aN ?_
  refine aW (aM<|iV<|cP s.p l.i)<|aH ?_
  . rw [if_neg OM]; unfold prS; rw [if_pos (by assumption)]
 refine aB<|aO<|aZ J J J J<|bY J J<|aP ?_
 refine bN 7 (λT H=>T 2=(cR 2)/\T 3=(cR 3)/\T 31=(V.bool<|decide ((s.a < (0:Int))\/(l.i<=s.a)))/\H 2=(bk 1 66 4 [[(iV l.i),(V.sl<|List.map cN l.t.nd),(iV o.i),(V.sl<|List.map cT o.tr)]])/\H 3=(bk 1 62 3 [[(aD s.p),(iV s.a),(aD s.x)]])/\True) ?_ ?_
 . 
  by_cases g3:s.a < (0:Int)
  . 
   refine bQ (bU g3 J)<|bQ (bU g3 J)<|bQ (bU g3 J)<|bQ (bU g3 J)<|bQ (bU g3 J)<|bQ (bU g3 J)<|bP (bU g3 J) J ?_
   exact ⟨J,J,(fB g3),J,J,trivial⟩
  . 
   refine aK (bV g3 J)<|cQ J J<|aK (bV g3 J)<|bB J J J J<|aK (bV g3 J)<|cQ J J<|aK (bV g3 J)<|cQ J J<|aK (bV g3 J)<|bB J J J J<|aK (bV g3 J)<|jB J J<|bO (bV g3 J) J ?_
   exact ⟨J,J,(fC g3),J,J,trivial⟩
 intro T H ⟨t2,t3,t31,h2,h3,_⟩;refine cE ?_;refine aG t31 (λc4=>?_) λc4=>?_
 . 
  refine aO<|aE<|aN ?_
  refine aW (aM<|iV 2)<|aH ?_
  . rw [if_neg OM]; unfold prS; rw [if_neg OM,if_pos OM]
 refine aB<|aO<|aZ t3 h3 J J<|bA J<|fP J J<|cE ?_
 refine aG J (λc5=>?_) λc5=>?_
 . 
  refine aO<|aE<|aN ?_
  refine aW (aM<|iV 19)<|aH ?_
  . rw [if_neg OM]; unfold prS; rw [if_neg OM,if_neg OM,if_pos OM]
 refine aB<|aU<|aZ t3 h3 J J<|cQ t2 h2<|aZ J h2 J J<|aL (gM s.x l.i) J<|aE<|bE ?_
 refine aW (aM<|iV<|cP s.x l.i)<|aH ?_
 . rw [if_neg OM]; unfold prS; rw [if_neg OM,if_neg OM,if_neg OM]
theorem aFi (t:Dt) (n:Int) (sf aV w other:List Int) (hb:Bd t):bJ Tryz.prog 110 [(V.agg [(V.sl (List.map cN t.nd))]),(iV n),(aD sf),(aD aV),(aD w),(aD other)] (iV (yW t n sf aV w other)):=by
 refine' pK [] [] Tryz.func110 ?e λhB=>?_
 case e=>conv=>lhs; cbv
 dsimp only;refine aU<|cJ (i:=6) (n:=0) (m:=1) (cs:=[(V.sl<|List.map cN t.nd)]) J (cM J) J J J<|aE<|aO<|bB J J J J<|aP<|aL (aCI t n true) J<|aE<|aO<|aP<|cA J J<|cE ?_
 refine aG J (λc1=>?_) λc1=>?_
 . 
  refine aO<|aP<|aE<|aN ?_
  refine aW (aM<|iV<|noE t n true)<|aH ?_
  . rw [yW,if_pos OM]
 refine aB<|aO<|aP<|bA J<|fP J J<|cE ?_
 refine aG J (λc2=>?_) λc2=>?_
 . 
  refine aO<|aE<|aN ?_
  refine aW (aM<|iV 19)<|aH ?_
  . rw [yW,if_neg OM,if_pos OM]
 refine aB<|aO<|aP<|aL (gM sf (64:Int)) J<|aE<|aO<|aP<|cA J J<|cE ?_
 refine aG J (λc3=>?_) λc3=>?_
 . 
  refine aO<|aP<|aE<|aN ?_
  refine aW (aM<|iV<|cP sf (64:Int))<|aH ?_
  . rw [yW,if_neg OM,if_neg OM,if_pos OM]
 refine aB<|aO<|aP<|aP<|aL (qB aV sf) J<|aE<|aO<|aP<|cA J J<|cE ?_
 refine aG J (λc4=>?_) λc4=>?_
 . 
  refine aO<|aP<|aE<|aN ?_
  refine aW (aM<|iV<|vlE aV sf)<|aH ?_
  . rw [yW,if_neg OM,if_neg OM,if_neg OM,if_pos OM]
 refine aB<|aO<|bB J J J J<|aP<|aL (aAR t w hb) J<|aE<|aO<|aP<|cA J J<|cE ?_
 refine aG J (λc5=>?_) λc5=>?_
 . 
  refine aO<|aP<|aE<|aN ?_
  refine aW (aM<|iV<|fsE t w)<|aH ?_
  . rw [yW,if_neg OM,if_neg OM,if_neg OM,if_neg OM,if_pos OM]
 refine aB<|aO<|aP<|aP<|aL (qB other sf) J<|aE<|aO<|aP<|cA J J<|cE ?_
 refine aG J (λc6=>?_) λc6=>?_
 . 
  refine aO<|aP<|aE<|aN ?_
  refine aW (aM<|iV<|vlE other sf)<|aH ?_
  . rw [yW,if_neg OM,if_neg OM,if_neg OM,if_neg OM,if_neg OM,if_pos OM]
 refine aB (aF λQ7 n7 x7 y7 z7=>(aU<|aP<|aP<|aL (nC aV other) J<|aE ?_));refine gE J (λc8=>?_) λc8=>?_
 . 
  have d6:aV=other:=by simpa using c8
  refine aU<|aE<|bE<|y7 _ _ ?_
  refine aW (aM<|iV 15)<|aH ?_
  . rw [yW,if_neg OM,if_neg OM,if_neg OM,if_neg OM,if_neg OM,if_neg OM,if_pos d6]
 have d6: ¬(aV=other):=by simpa using c8
 refine eZ (λT H=>T 54=(V.bool<|decide ((4094:Int) < ((t.nd.length:Nat):Int)))/\H 6=(bk 1 47 1 [[(V.sl<|List.map cN t.nd)]])/\True) ?_ ?_
 . 
  refine aZ J J J J<|bA J<|fZ J J<|aP ?_
  exact gD ⟨J,J,trivial⟩
 intro T H ⟨t54,h6,_⟩;refine gE t54 (λc9=>?_) λc9=>?_
 . 
  refine aU<|aE<|bE<|y7 _ _ ?_
  refine aW (aM<|iV 11)<|aH ?_
  . rw [yW,if_neg OM,if_neg OM,if_neg OM,if_neg OM,if_neg OM,if_neg OM,if_neg d6,if_pos OM]
 refine dH<|n7 _ _ (.done (aU<|aE<|bE ?_))
 refine aW (aM<|iV 0)<|aH ?_
 . rw [yW,if_neg OM,if_neg OM,if_neg OM,if_neg OM,if_neg OM,if_neg OM,if_neg d6,if_neg OM]
theorem aKd (l:List (List Int)) (v:Nat) (z:Bool) (Hi:aT) (hq:Hi 52=(⟨v,true,z,54,1,(List.map cL l)⟩:Blk)) (hl:l.length<=1073741824):fH Tryz.prog 111 [(V.ms 52 v 0 l.length)] Hi (V.tup []) (cU Hi 52 (⟨v,true,z,54,1,(List.map cL l.reverse)⟩:Blk)):=by
 refine' eK [] [] (k0:=600) Tryz.func111 ?e λhB=>?_
 case e=>conv=>lhs; cbv
 dsimp only;refine aU<|aP<|eS J hq SI<|lS J J OM OM<|aP<|aE (iZ λQ1 n1 x1 y1 z1=>?_)
 refine cF (λmm T H=> ∃ (k:Nat),mm=l.length - k/\T 0=(V.ms 52 v 0 l.length)/\T 2=(iV ((k:Nat):Int))/\T 3=(iV<|((l.length:Nat):Int) - 1 - k)/\(∀ j,j∉[52]->H j=Hi j)/\H 52=(⟨v,true,z,54,1,(List.map cL<|nU l k)⟩:Blk)/\(2*k<=l.length+1)) ?_ ?_
 . 
  refine ⟨_,0,J,J,(bG (aM<|iV 0) J),(bG (aM<|iV<|((l.length:Nat):Int) - (1:Int)) (by (exact congrArg (V.int .i64) OM))),(λ_ _=>J),(bG hq (by (rw [aJR]; done))),?_⟩
  . omega
 intro mm T H ⟨k,hmm,t0,t2,t3,hF,h52,hk⟩ Q2 p12 p22 p32;have q1:=xC l k;refine aO<|aI t2<|aI t3<|bY J J<|cE ?_
 refine aG J (λc3=>?_) λc3=>?_
 . 
  refine aB (aF λQ4 n4 x4 y4 z4=>(fO<|aI t0<|aI t2<|aI t0<|aI t3<|aI t0<|aI t3<|dS (i:=(((l.length:Nat):Int) - 1 - k)) (aM<|V.ms 52 v 0 l.length) (aM<|iV<|((l.length:Nat):Int) - 1 - k) h52 (fJ OM) J OM OM<|cG (v:=(aD<|aA (nU l k)<|(((l.length:Nat):Int) - 1 - k).toNat)) J h52 (dU OM JR)<|aI t0<|aI t2<|dG (i:=k) (aM<|V.ms 52 v 0 l.length) (cS k) h52 (fJ OM) J OM<|cG (v:=(aD<|aA (nU l k) k)) J h52 (dU OM JR)<|dG (i:=k) (aM<|V.ms 52 v 0 l.length) (cS k) h52 (fJ OM) J OM ?_));refine cZ (vs:=[(aD<|aA (nU l k)<|(((l.length:Nat):Int) - 1 - k).toNat)]) (B':=(⟨v,true,z,54,1,(List.map cL<|(nU l k).set k (aA (nU l k)<|(((l.length:Nat):Int) - 1 - k).toNat))⟩:Blk)) J J J h52 (jM (x:=(aA (nU l k)<|(((l.length:Nat):Int) - 1 - k).toNat)) (i:=k) OM J J J J)<|dS (i:=(((l.length:Nat):Int) - 1 - k)) (aM<|V.ms 52 v 0 l.length) (aM<|iV<|((l.length:Nat):Int) - 1 - k) (@J Blk (⟨v,true,z,54,1,(List.map cL<|(nU l k).set k (aA (nU l k)<|(((l.length:Nat):Int) - 1 - k).toNat))⟩:Blk)) (fJ (by (simp only [List.length_set]; omega))) J OM OM<|cZ (vs:=[(aD<|aA (nU l k) k)]) (B':=(⟨v,true,z,54,1,(List.map cL<|((nU l k).set k (aA (nU l k)<|(((l.length:Nat):Int) - 1 - k).toNat)).set ((((l.length:Nat):Int) - 1 - k).toNat) (aA (nU l k) k))⟩:Blk)) J J J (@J Blk (⟨v,true,z,54,1,(List.map cL<|(nU l k).set k (aA (nU l k)<|(((l.length:Nat):Int) - 1 - k).toNat))⟩:Blk)) (jM (x:=(aA (nU l k) k)) (i:=((((l.length:Nat):Int) - 1 - k).toNat)) (by (simp only [List.length_set]; omega)) J J J J)<|cE<|n4 _ _ (.done (fO<|aI t2<|cD J<|aI t3<|lS J J OM OM<|aP<|aE ?_))
  refine p12 _ _ _ ?_ ⟨(k+1),J,t0,(bG (cS<|k+1) JR),(bG (aM<|iV<|(((l.length:Nat):Int) - 1 - k) - (1:Int)) (by (exact congrArg (V.int .i64) OM))),(bD (bD hF DE) DE),(bG (@J Blk (⟨v,true,z,54,1,(List.map cL<|((nU l k).set k (aA (nU l k)<|(((l.length:Nat):Int) - 1 - k).toNat)).set ((((l.length:Nat):Int) - 1 - k).toNat) (aA (nU l k) k))⟩:Blk)) (by (rw [show (((l.length:Nat):Int) - 1 - (k:Int)).toNat=l.length - 1 - k by omega,aJM OM OM]; done))),?_⟩
  . omega
  . omega
 refine aS<|p32 _ _ _<|x1 _ _<|fL (R:=λT H=>T 0=(V.ms 52 v 0 l.length)/\T 2=(iV ((k:Nat):Int))/\T 3=(iV<|((l.length:Nat):Int) - 1 - k)/\T 9=(V.bool<|decide (((k:Nat):Int) < (((l.length:Nat):Int) - 1 - k)))/\(∀ j,j∉[52]->H j=Hi j)/\H 52=(⟨v,true,z,54,1,(List.map cL<|nU l k)⟩:Blk)/\True) ⟨t0,t2,t3,(aM<|V.bool<|decide (((k:Nat):Int) < (((l.length:Nat):Int) - 1 - k))),hF,h52,trivial⟩ ?_
 intro T H ⟨t0,t2,t3,t9,hF,h52,_⟩;skip;have fh:=dK.fin<|dK.put (B:=(⟨v,true,z,54,1,(List.map cL l.reverse)⟩:Blk)) (dK.start hF) h52<|jN.eq (by (rw [aMI OM OM]; done))
 exact aLY fh
theorem aKF (l:List Int) (v:Nat) (z:Bool) (Hi:aT) (hq:Hi 60=(⟨v,true,z,3,1,(List.map cI l)⟩:Blk)) (hl:l.length<=1073741824):fH Tryz.prog 112 [(V.ms 60 v 0 l.length)] Hi (V.tup []) (cU Hi 60 (⟨v,true,z,3,1,(List.map cI l.reverse)⟩:Blk)):=by
 refine' eK [] [] (k0:=600) Tryz.func112 ?e λhB=>?_
 case e=>conv=>lhs; cbv
 dsimp only;refine aU<|aP<|eS J hq SI<|lS J J OM OM<|aP<|aE (iZ λQ1 n1 x1 y1 z1=>?_)
 refine cF (λmm T H=> ∃ (k:Nat),mm=l.length - k/\T 0=(V.ms 60 v 0 l.length)/\T 2=(iV ((k:Nat):Int))/\T 3=(iV<|((l.length:Nat):Int) - 1 - k)/\(∀ j,j∉[60]->H j=Hi j)/\H 60=(⟨v,true,z,3,1,(List.map cI<|nU l k)⟩:Blk)/\(2*k<=l.length+1)) ?_ ?_
 . 
  refine ⟨_,0,J,J,(bG (aM<|iV 0) J),(bG (aM<|iV<|((l.length:Nat):Int) - (1:Int)) (by (exact congrArg (V.int .i64) OM))),(λ_ _=>J),(bG hq (by (rw [aJR]; done))),?_⟩
  . omega
 intro mm T H ⟨k,hmm,t0,t2,t3,hF,h60,hk⟩ Q2 p12 p22 p32;have q1:=xC l k;refine aO<|aI t2<|aI t3<|bY J J<|cE ?_
 refine aG J (λc3=>?_) λc3=>?_
 . 
  refine aB (aF λQ4 n4 x4 y4 z4=>(fO<|aI t0<|aI t2<|aI t0<|aI t3<|aI t0<|aI t3<|dS (i:=(((l.length:Nat):Int) - 1 - k)) (aM<|V.ms 60 v 0 l.length) (aM<|iV<|((l.length:Nat):Int) - 1 - k) h60 (fJ OM) J OM OM<|cG (v:=(iV<|aA (nU l k)<|(((l.length:Nat):Int) - 1 - k).toNat)) J h60 (dU OM JR)<|aI t0<|aI t2<|dG (i:=k) (aM<|V.ms 60 v 0 l.length) (cS k) h60 (fJ OM) J OM<|cG (v:=(iV<|aA (nU l k) k)) J h60 (dU OM JR)<|dG (i:=k) (aM<|V.ms 60 v 0 l.length) (cS k) h60 (fJ OM) J OM ?_));refine cZ (vs:=[(iV<|aA (nU l k)<|(((l.length:Nat):Int) - 1 - k).toNat)]) (B':=(⟨v,true,z,3,1,(List.map cI<|(nU l k).set k (aA (nU l k)<|(((l.length:Nat):Int) - 1 - k).toNat))⟩:Blk)) J J J h60 (jM (x:=(aA (nU l k)<|(((l.length:Nat):Int) - 1 - k).toNat)) (i:=k) OM J J J J)<|dS (i:=(((l.length:Nat):Int) - 1 - k)) (aM<|V.ms 60 v 0 l.length) (aM<|iV<|((l.length:Nat):Int) - 1 - k) (@J Blk (⟨v,true,z,3,1,(List.map cI<|(nU l k).set k (aA (nU l k)<|(((l.length:Nat):Int) - 1 - k).toNat))⟩:Blk)) (fJ (by (simp only [List.length_set]; omega))) J OM OM<|cZ (vs:=[(iV<|aA (nU l k) k)]) (B':=(⟨v,true,z,3,1,(List.map cI<|((nU l k).set k (aA (nU l k)<|(((l.length:Nat):Int) - 1 - k).toNat)).set ((((l.length:Nat):Int) - 1 - k).toNat) (aA (nU l k) k))⟩:Blk)) J J J (@J Blk (⟨v,true,z,3,1,(List.map cI<|(nU l k).set k (aA (nU l k)<|(((l.length:Nat):Int) - 1 - k).toNat))⟩:Blk)) (jM (x:=(aA (nU l k) k)) (i:=((((l.length:Nat):Int) - 1 - k).toNat)) (by (simp only [List.length_set]; omega)) J J J J)<|cE<|n4 _ _ (.done (fO<|aI t2<|cD J<|aI t3<|lS J J OM OM<|aP<|aE ?_))
  refine p12 _ _ _ ?_ ⟨(k+1),J,t0,(bG (cS<|k+1) JR),(bG (aM<|iV<|(((l.length:Nat):Int) - 1 - k) - (1:Int)) (by (exact congrArg (V.int .i64) OM))),(bD (bD hF DE) DE),(bG (@J Blk (⟨v,true,z,3,1,(List.map cI<|((nU l k).set k (aA (nU l k)<|(((l.length:Nat):Int) - 1 - k).toNat)).set ((((l.length:Nat):Int) - 1 - k).toNat) (aA (nU l k) k))⟩:Blk)) (by (rw [show (((l.length:Nat):Int) - 1 - (k:Int)).toNat=l.length - 1 - k by omega,aJM OM OM]; done))),?_⟩
  . omega
  . omega
 refine aS<|p32 _ _ _<|x1 _ _<|fL (R:=λT H=>T 0=(V.ms 60 v 0 l.length)/\T 2=(iV ((k:Nat):Int))/\T 3=(iV<|((l.length:Nat):Int) - 1 - k)/\T 9=(V.bool<|decide (((k:Nat):Int) < (((l.length:Nat):Int) - 1 - k)))/\(∀ j,j∉[60]->H j=Hi j)/\H 60=(⟨v,true,z,3,1,(List.map cI<|nU l k)⟩:Blk)/\True) ⟨t0,t2,t3,(aM<|V.bool<|decide (((k:Nat):Int) < (((l.length:Nat):Int) - 1 - k))),hF,h60,trivial⟩ ?_
 intro T H ⟨t0,t2,t3,t9,hF,h60,_⟩;skip;have fh:=dK.fin<|dK.put (B:=(⟨v,true,z,3,1,(List.map cI l.reverse)⟩:Blk)) (dK.start hF) h60<|jN.eq (by (rw [aMI OM OM]; done))
 exact aLY fh
theorem aFK (t:Dt) (n:Int) (sf aV w other:List Int) (hb:Bd t) (hsf:sf.length<=1048576) (ho:aV.length<=1048576) (hw:w.length<=1048576) (hot:other.length<=1048576):bJ Tryz.prog 62 [(V.agg [(V.sl (List.map cN t.nd))]),(iV n),(aD sf),(aD aV),(aD w),(aD other)] (V.tup [(V.agg [(V.sl (List.map cN ((xE t n sf aV w other).nd)))]),(iV (spE t n sf aV w other))]):=by
 refine' pK [52,60] [⟨9,[0,1,2,3,4,5,6,7,8,10,11,12,13,14,15,16,9,17,18,19,20],[52,60,18],[]⟩] Tryz.func62 ?e λhB=>?_
 case e=>conv=>lhs; cbv
 dsimp only;have hbn:=hb.n;refine aU<|cJ (i:=6) (n:=0) (m:=1) (cs:=[(V.sl<|List.map cN t.nd)]) J (cM J) J J J<|bX (i:=12) (n:=0) (m:=1) J (cM J) J<|aE<|aO<|bB J J J J<|aL (nF t hb) J<|aE<|aO<|aP<|cA J J<|cE ?_
 refine aG J (λc1=>?_) λc1=>?_
 . 
  refine aO<|bB J J J J<|aP<|dA J J J J J J J J J<|aE<|aN ?_
  refine fF (cH (u:=(V.agg [(V.sl<|List.map cN t.nd)])) J (@J Blk<|bk 1 47 1 [[(V.sl<|List.map cN t.nd)]])<|lB oB J J) (bM<|aM<|iV<|iB t) (kM<|dM ?_ (λ_=>by simp))<|aH ?_
  . rw [aNA (by unfold spE; rw [if_pos OM]; omega)]
  . unfold spE; rw [if_pos OM]
 refine aB<|aO<|bB J J J J<|aP<|aP<|aP<|aP<|aP<|aL (aFi t n sf aV w other hb) J<|aE<|aO<|aP<|cA J J ?_
 refine cE ?_;refine aG J (λc2=>?_) λc2=>?_
 . 
  refine aO<|bB J J J J<|aP<|dA J J J J J J J J J<|aE<|aN ?_
  refine fF (cH (u:=(V.agg [(V.sl<|List.map cN t.nd)])) J (@J Blk<|bk 1 47 1 [[(V.sl<|List.map cN t.nd)]])<|lB oB J J) (bM<|aM<|iV<|yW t n sf aV w other) (kM<|dM ?_ (λ_=>by simp))<|aH ?_
  . rw [aNA (by unfold spE; rw [if_neg OM]; omega)]
  . unfold spE; rw [if_neg OM]
 have hE:spE t n sf aV w other=0:=by unfold spE; rw [if_neg OM]; omega
 obtain ⟨y1,y2,y3,y4,y5,y6,y7,y8,y9⟩:=aAW hE;obtain ⟨n0,n1,n2⟩:=rH y2;have nb:n.toNat < t.nd.length:=OM
 refine aB<|aU<|bB J J J J<|gO (bI J dR) (aMs t 0 0 0 0 0 0 _ hb (cM J) (cM J) (cM J) (cM J) (cM J) ⟨cM J,congrArg Blk.live J⟩)<|bX (i:=16) (n:=0) (m:=1) J (cM J) J<|dA J J J J J J J J J<|R_r<|aZ J J J J<|aP<|dS (i:=n) (aM<|V.ms 212 1 0 t.nd.length) (aM<|iV n) (@J Blk<|bk 1 108 5<|List.map cN t.nd) oB J OM OM<|cG (v:=(V.agg<|cN<|aA t.nd n.toNat)) J (@J Blk<|bk 1 108 5<|List.map cN t.nd) (dU OM JR)<|bX (i:=17) (n:=0) (m:=5) J (cM J) J<|dA J J J J J J J J J<|cE ?_
 refine aA4 (λT H=>T 1=(iV n)/\T 3=(aD aV)/\T 4=(aD w)/\T 5=(aD other)/\T 12=(cR 12)/\T 16=(cR 16)/\T 17=(cR 17)/\T 18=(cR 18)/\H 6=(bk 1 47 1 [[(V.sl<|List.map cN t.nd)]])/\H 12=(bk 1 47 1 [[V.nilsl]])/\H 16=(bk 1 47 1 [[(V.ms 212 1 0 t.nd.length)]])/\H 17=(bk 1 108 5 [(cN<|aA t.nd n.toNat)])/\H 18=(bk 1 108 5 [[(V.bool false),V.nilsl,(aD<|bH<|[sf]),(V.ms 52 1 0 2),(V.ms 60 1 0 2)]])/\H 52=(bk 1 54 1 [[(aD<|bH<|[aV])],[(aD<|bH<|[other])]])/\H 60=(bk 1 3 1 [[(iV ((t.nd.length:Nat):Int))],[(iV ((t.nd.length+1:Nat):Int))]])/\H 201=(⟨1,false,false,0,0,[]⟩:Blk)/\H 202=(⟨1,false,false,0,0,[]⟩:Blk)/\H 205=(⟨0+t.nd.length,false,false,0,0,[]⟩:Blk)/\H 212=(bk 1 108 5<|List.map cN t.nd)/\H 228=(⟨0+t.nd.length*1048578,false,false,0,0,[]⟩:Blk)/\H 258=(⟨0+3*t.nd.length,false,false,0,0,[]⟩:Blk)/\True) (by exact (tD J<|tD J<|tD J wD)) ?_ ?_
 . 
  refine aP<|aY J J<|aL (dD ([sf]) (by simp only [bH,List.append_nil]; omega)) J<|aP<|aY J J<|aL (dD ([aV]) (by simp only [bH,List.append_nil]; omega)) J<|aP<|aY J J<|aL (dD ([other]) (by simp only [bH,List.append_nil]; omega)) J<|aZ J J J J<|bA J<|aZ J J J J<|bA J<|cD J ?_
  refine gA (i:=52) (n:=0) (qs:=[(0,(aD<|bH<|[aV])),(1,(aD<|bH<|[other]))]) (rows:=[[(aD<|bH<|[aV])],[(aD<|bH<|[other])]]) J (cM J) (cO (congrArg (λv=>(0,v)) J)<|cO (congrArg (λv=>(1,v)) J) J) J<|gA (i:=60) (n:=0) (qs:=[(0,(iV ((t.nd.length:Nat):Int))),(1,(iV ((t.nd.length+1:Nat):Int)))]) (rows:=[[(iV ((t.nd.length:Nat):Int))],[(iV ((t.nd.length+1:Nat):Int))]]) J (cM J) (cO (congrArg (λv=>(0,v)) J)<|cO (congrArg (λv=>(1,v)) J) J) J<|bZ J J<|bX (i:=18) (n:=0) (m:=5) J (cM J) J<|dA J J J J J J J J J ?_
  exact gD ⟨J,J,J,J,J,J,J,J,J,J,J,J,J,J,J,J,J,J,J,J,J,trivial⟩
 intro T H ⟨t1,t3,t4,t5,t12,t16,t17,t18,h6,h12,h16,h17,h18,h52,h60,h201,h202,h205,h212,h228,h258,_⟩;refine aO<|aI t3<|aI t5<|aL (rP aV other) J<|fZ J J<|cE ?_
 refine aG J (λc3=>?_) λc3=>?_
 . 
  have d7:=c3;refine aO<|aZ t18 h18 J J<|gO (bI J dR) (aKd ([bH ([aV]),bH ([other])]) 1 false _ (show _=(bk 1 54 1<|List.map cL<|[bH ([aV]),bH ([other])]) from h52) SI)<|R_r<|aZ t18 h18 J J<|gO (bI J dR) (aKF ([((t.nd.length:Nat):Int),((t.nd.length+1:Nat):Int)]) 1 false _ (show _=(bk 1 3 1<|List.map cI<|[((t.nd.length:Nat):Int),((t.nd.length+1:Nat):Int)]) from h60) SI)<|cE<|W_g<|aZ t16 h16 J J<|aI t1<|bB t18 h18 J J ?_
  refine dS (i:=n) (aM<|V.ms 212 1 0 t.nd.length) (aM<|iV n) h212 oB J OM OM<|cZ (vs:=[(V.bool false),V.nilsl,(aD<|bH<|[sf]),(V.ms 52 1 0 2),(V.ms 60 1 0 2)]) (B':=(bk 1 108 5<|(List.map cN t.nd).set n.toNat [(V.bool false),V.nilsl,(aD<|bH<|[sf]),(V.ms 52 1 0 2),(V.ms 60 1 0 2)])) J J J h212 (tN (i:=n.toNat) OM J J J)<|cE<|aEr (id:=212) (rows:=List.map cN t.nd) (i:=n.toNat) (r':=[(V.bool false),(aD<|[]),(aD<|bH<|[sf]),(V.ms 52 1 0 2),(V.ms 60 1 0 2)]) (@J Blk<|bk 1 108 5<|(List.map cN t.nd).set n.toNat [(V.bool false),V.nilsl,(aD<|bH<|[sf]),(V.ms 52 1 0 2),(V.ms 60 1 0 2)]) (by (simp; omega)) J<|gU (id:=52) (id2:=212) (rows:=(List.map cN t.nd)) (i:=n.toNat) (off:=3) (r:=[(V.bool false),(aD<|[]),(aD<|bH<|[sf]),(V.ms 52 1 0 2),(V.ms 60 1 0 2)]) (m:=(([bH ([aV]),bH ([other])]).reverse)) (g:=cL) DE (@J Blk<|bk 1 54 1<|List.map cL<|([bH ([aV]),bH ([other])]).reverse) (@J Blk<|bk 1 108 5<|(List.map cN t.nd).set n.toNat [(V.bool false),(aD<|[]),(aD<|bH<|[sf]),(V.ms 52 1 0 2),(V.ms 60 1 0 2)]) (by (simp; omega)) JR J ?_
  refine gU (id:=60) (id2:=212) (rows:=(List.map cN t.nd)) (i:=n.toNat) (off:=4) (r:=[(V.bool false),(aD<|[]),(aD<|bH<|[sf]),(aC<|([bH ([aV]),bH ([other])]).reverse),(V.ms 60 1 0 2)]) (m:=(([((t.nd.length:Nat):Int),((t.nd.length+1:Nat):Int)]).reverse)) (g:=cI) DE (@J Blk<|bk 1 3 1<|List.map cI<|([((t.nd.length:Nat):Int),((t.nd.length+1:Nat):Int)]).reverse) (@J Blk<|bk 1 108 5<|(List.map cN t.nd).set n.toNat [(V.bool false),(aD<|[]),(aD<|bH<|[sf]),(aC<|([bH ([aV]),bH ([other])]).reverse),(V.ms 60 1 0 2)]) (by (simp; omega)) JR J (.done ?_);refine W_g<|cQ (aX (id:=60) (aX (id:=52) t16 J) J) (aQ (id:=60) (aQ (id:=52) h16 DE) DE)<|bB J (aQ (id:=60) (aQ (id:=52) h16 DE) DE) J J<|bB (aX (id:=60) (aX (id:=52) t17 J) J) (aQ (id:=60) (aQ (id:=52) h17 DE) DE) J J<|aI (aX (id:=60) (aX (id:=52) t4 J) J)<|aY J J<|aL (dD ([w]) (by simp only [bH,List.append_nil]; omega)) J<|bZ J J<|aY J J<|aAC (l:=(t.nd.set n.toNat (⟨false,[],bH ([sf]),([bH ([aV]),bH ([other])]).reverse,([((t.nd.length:Nat):Int),((t.nd.length+1:Nat):Int)]).reverse⟩:Nd))) (f:=cN) (aM<|V.ms 212 1 0 t.nd.length) ((by (rw [aR,List.map_set]; rfl)):_=(bk 1 108 5<|List.map cN<|t.nd.set n.toNat (⟨false,[],bH ([sf]),([bH ([aV]),bH ([other])]).reverse,([((t.nd.length:Nat):Int),((t.nd.length+1:Nat):Int)]).reverse⟩:Nd))) SI (aM<|V.sl [(cN<|aA t.nd n.toNat),[(V.bool true),(aD<|bH<|[w]),V.nilsl,V.nilsl,V.nilsl]]) (by simp [eV,V.one]) (by (simp; omega)) (by (simp; omega))<|cQ (aX (id:=60) (aX (id:=52) t16 J) J) (aQ (id:=60) (aQ (id:=52) h16 DE) DE)<|dA J J J (aQ (id:=60) (aQ (id:=52) h16 DE) DE) J J J J J<|cE ?_
  refine aBu (id:=212) (l:=(t.nd.set n.toNat (⟨false,[],bH ([sf]),([bH ([aV]),bH ([other])]).reverse,([((t.nd.length:Nat):Int),((t.nd.length+1:Nat):Int)]).reverse⟩:Nd))) (m:=([(aA t.nd n.toNat),(⟨true,bH ([w]),[],[],[]⟩:Nd)])) (f:=cN) (@J Blk<|bk 2 108 5<|List.map cN (t.nd.set n.toNat (⟨false,[],bH ([sf]),([bH ([aV]),bH ([other])]).reverse,([((t.nd.length:Nat):Int),((t.nd.length+1:Nat):Int)]).reverse⟩:Nd))++[(cN<|aA t.nd n.toNat),[(V.bool true),(aD<|bH<|[w]),V.nilsl,V.nilsl,V.nilsl]]) J (.done ?_);refine aU<|bB (aX (id:=60) (aX (id:=52) t16 J) J) J J J<|dA (aX (id:=60) (aX (id:=52) t12 J) J) J J (aQ (id:=60) (aQ (id:=52) h12 DE) DE) J J J J J<|aE<|bE ?_
  refine fF (cH (u:=(V.agg [(V.ms 212 2 0<|t.nd.length+2)])) (aX (id:=60) (aX (id:=52) t12 J) J) (@J Blk<|bk 1 47 1 [[(V.ms 212 2 0<|t.nd.length+2)]])<|lB oB J J) (bM<|aM<|iV 0) (kM<|mI (@J Blk<|bk 2 108 5<|List.map cN<|t.nd.set n.toNat (⟨false,[],bH ([sf]),([bH ([aV]),bH ([other])]).reverse,([((t.nd.length:Nat):Int),((t.nd.length+1:Nat):Int)]).reverse⟩:Nd)++[(aA t.nd n.toNat),(⟨true,bH ([w]),[],[],[]⟩:Nd)]) JR (l:=(t.nd.set n.toNat (⟨false,[],bH ([sf]),([bH ([aV]),bH ([other])]).reverse,([((t.nd.length:Nat):Int),((t.nd.length+1:Nat):Int)]).reverse⟩:Nd)++[(aA t.nd n.toNat),(⟨true,bH ([w]),[],[],[]⟩:Nd)])) J SI (λ_=>by simp) ?_)<|aH ?_
  . rw [aIq hE]; unfold spN spO spK; rw [if_pos d7,if_pos d7]; simp [aOq,rY]
  . exact hE.symm
 have d7:=c3;refine aB<|W_g<|aZ t16 h16 J J<|aI t1<|bB t18 h18 J J<|dS (i:=n) (aM<|V.ms 212 1 0 t.nd.length) (aM<|iV n) h212 oB J OM OM<|cZ (vs:=[(V.bool false),V.nilsl,(aD<|bH<|[sf]),(V.ms 52 1 0 2),(V.ms 60 1 0 2)]) (B':=(bk 1 108 5<|(List.map cN t.nd).set n.toNat [(V.bool false),V.nilsl,(aD<|bH<|[sf]),(V.ms 52 1 0 2),(V.ms 60 1 0 2)])) J J J h212 (tN (i:=n.toNat) OM J J J)<|cE<|aEr (id:=212) (rows:=List.map cN t.nd) (i:=n.toNat) (r':=[(V.bool false),(aD<|[]),(aD<|bH<|[sf]),(V.ms 52 1 0 2),(V.ms 60 1 0 2)]) (@J Blk<|bk 1 108 5<|(List.map cN t.nd).set n.toNat [(V.bool false),V.nilsl,(aD<|bH<|[sf]),(V.ms 52 1 0 2),(V.ms 60 1 0 2)]) (by (simp; omega)) J<|gU (id:=52) (id2:=212) (rows:=(List.map cN t.nd)) (i:=n.toNat) (off:=3) (r:=[(V.bool false),(aD<|[]),(aD<|bH<|[sf]),(V.ms 52 1 0 2),(V.ms 60 1 0 2)]) (m:=([bH ([aV]),bH ([other])])) (g:=cL) DE (show _=(bk 1 54 1<|List.map cL<|[bH ([aV]),bH ([other])]) from h52) (@J Blk<|bk 1 108 5<|(List.map cN t.nd).set n.toNat [(V.bool false),(aD<|[]),(aD<|bH<|[sf]),(V.ms 52 1 0 2),(V.ms 60 1 0 2)]) (by (simp; omega)) JR J ?_
 refine gU (id:=60) (id2:=212) (rows:=(List.map cN t.nd)) (i:=n.toNat) (off:=4) (r:=[(V.bool false),(aD<|[]),(aD<|bH<|[sf]),(aC<|[bH ([aV]),bH ([other])]),(V.ms 60 1 0 2)]) (m:=([((t.nd.length:Nat):Int),((t.nd.length+1:Nat):Int)])) (g:=cI) DE (show _=(bk 1 3 1<|List.map cI<|[((t.nd.length:Nat):Int),((t.nd.length+1:Nat):Int)]) from (aQ (id:=52) h60 DE)) (@J Blk<|bk 1 108 5<|(List.map cN t.nd).set n.toNat [(V.bool false),(aD<|[]),(aD<|bH<|[sf]),(aC<|[bH ([aV]),bH ([other])]),(V.ms 60 1 0 2)]) (by (simp; omega)) JR J (.done ?_);refine W_g<|cQ (aX (id:=60) (aX (id:=52) t16 J) J) (aQ (id:=60) (aQ (id:=52) h16 DE) DE)<|bB J (aQ (id:=60) (aQ (id:=52) h16 DE) DE) J J<|bB (aX (id:=60) (aX (id:=52) t17 J) J) (aQ (id:=60) (aQ (id:=52) h17 DE) DE) J J<|aI (aX (id:=60) (aX (id:=52) t4 J) J)<|aY J J<|aL (dD ([w]) (by simp only [bH,List.append_nil]; omega)) J<|bZ J J<|aY J J<|aAC (l:=(t.nd.set n.toNat (⟨false,[],bH ([sf]),[bH ([aV]),bH ([other])],[((t.nd.length:Nat):Int),((t.nd.length+1:Nat):Int)]⟩:Nd))) (f:=cN) (aM<|V.ms 212 1 0 t.nd.length) ((by (rw [aR,List.map_set]; rfl)):_=(bk 1 108 5<|List.map cN<|t.nd.set n.toNat (⟨false,[],bH ([sf]),[bH ([aV]),bH ([other])],[((t.nd.length:Nat):Int),((t.nd.length+1:Nat):Int)]⟩:Nd))) SI (aM<|V.sl [(cN<|aA t.nd n.toNat),[(V.bool true),(aD<|bH<|[w]),V.nilsl,V.nilsl,V.nilsl]]) (by simp [eV,V.one]) (by (simp; omega)) (by (simp; omega))<|cQ (aX (id:=60) (aX (id:=52) t16 J) J) (aQ (id:=60) (aQ (id:=52) h16 DE) DE)<|dA J J J (aQ (id:=60) (aQ (id:=52) h16 DE) DE) J J J J J<|cE ?_
 refine aBu (id:=212) (l:=(t.nd.set n.toNat (⟨false,[],bH ([sf]),[bH ([aV]),bH ([other])],[((t.nd.length:Nat):Int),((t.nd.length+1:Nat):Int)]⟩:Nd))) (m:=([(aA t.nd n.toNat),(⟨true,bH ([w]),[],[],[]⟩:Nd)])) (f:=cN) (@J Blk<|bk 2 108 5<|List.map cN (t.nd.set n.toNat (⟨false,[],bH ([sf]),[bH ([aV]),bH ([other])],[((t.nd.length:Nat):Int),((t.nd.length+1:Nat):Int)]⟩:Nd))++[(cN<|aA t.nd n.toNat),[(V.bool true),(aD<|bH<|[w]),V.nilsl,V.nilsl,V.nilsl]]) J (.done ?_);refine aU<|bB (aX (id:=60) (aX (id:=52) t16 J) J) J J J<|dA (aX (id:=60) (aX (id:=52) t12 J) J) J J (aQ (id:=60) (aQ (id:=52) h12 DE) DE) J J J J J<|aE<|bE ?_
 refine fF (cH (u:=(V.agg [(V.ms 212 2 0<|t.nd.length+2)])) (aX (id:=60) (aX (id:=52) t12 J) J) (@J Blk<|bk 1 47 1 [[(V.ms 212 2 0<|t.nd.length+2)]])<|lB oB J J) (bM<|aM<|iV 0) (kM<|mI (@J Blk<|bk 2 108 5<|List.map cN<|t.nd.set n.toNat (⟨false,[],bH ([sf]),[bH ([aV]),bH ([other])],[((t.nd.length:Nat):Int),((t.nd.length+1:Nat):Int)]⟩:Nd)++[(aA t.nd n.toNat),(⟨true,bH ([w]),[],[],[]⟩:Nd)]) JR (l:=(t.nd.set n.toNat (⟨false,[],bH ([sf]),[bH ([aV]),bH ([other])],[((t.nd.length:Nat):Int),((t.nd.length+1:Nat):Int)]⟩:Nd)++[(aA t.nd n.toNat),(⟨true,bH ([w]),[],[],[]⟩:Nd)])) J SI (λ_=>by simp) ?_)<|aH ?_
 . rw [aIq hE]; unfold spN spO spK; rw [if_neg d7,if_neg d7]; simp [aOq,rY]
 . exact hE.symm
theorem zJ (l:Ts) (o:Ob) (s:Spl) (hb:Bd l.t) (ho:jE o=0):bJ Tryz.prog 22 [(V.agg [(iV l.i),(V.sl (List.map cN l.t.nd))]),(V.agg [(iV o.i),(V.sl (List.map cT o.tr))]),(V.agg [(aD s.p),(iV s.a),(aD s.x)])] (V.tup [(V.agg [(iV ((hJ l o s).1.i)),(V.sl (List.map cN ((hJ l o s).1.t.nd)))]),(aC ((hJ l o s).2.1)),(iV ((hJ l o s).2.2))]):=by
 refine' pK [17] [⟨28,[0,1,2,3,4,5,6,7,8,9,10,11,12,13,14,15,16,17,18,19,20,21,22],[20],[]⟩] Tryz.func22 ?e λhB=>?_
 case e=>conv=>lhs; cbv
 dsimp only;have hal:=pP l.t.nd;refine aU<|cJ (i:=3) (n:=0) (m:=2) (cs:=[(iV l.i),(V.sl<|List.map cN l.t.nd)]) J (cM J) J J J<|cJ (i:=4) (n:=0) (m:=2) (cs:=[(iV o.i),(V.sl<|List.map cT o.tr)]) J (cM J) J J J<|cJ (i:=5) (n:=0) (m:=3) (cs:=[(aD s.p),(iV s.a),(aD s.x)]) J (cM J) J J J<|bX (i:=6) (n:=0) (m:=2) J (cM J) J<|aP<|aE<|aU<|bB J J J J<|bB J J J J<|bZ J J<|bX (i:=9) (n:=0) (m:=4) J (cM J) J<|dA J J J J J J J J J<|zL ?_
 refine aU<|bB J J J J<|bB J J J J<|aL (aGl l o s hb) J<|aE<|aO<|aP<|cA J J<|cE ?_
 refine aG J (λc1=>?_) λc1=>?_
 . 
  have c0:=c1;refine aO<|bB J J J J<|aP<|dA J J J J J J J J J<|aP<|aE<|aN ?_
  refine kE (cH (u:=(V.agg [(iV l.i),(V.sl<|List.map cN l.t.nd)])) J (@J Blk<|bk 1 49 2 [[(iV l.i),(V.sl<|List.map cN l.t.nd)]])<|lB oB J J) (bM<|aM V.nilsl) (bM<|aM<|iV (if kH l o≠0 then kH l o else prS s l.i)) (eU (aH ?_)<|dM ?_ (λ_=>by simp)) (cC ?_)<|aH ?_
  . by_cases zq1:kH l o≠0
    . rw [aDs zq1]
    . rw [if_neg zq1] at c0; rw [aDO zq1 c0]
  . by_cases zq1:kH l o≠0
    . rw [aDs zq1]
    . rw [if_neg zq1] at c0; rw [aDO zq1 c0]
  . by_cases zq1:kH l o≠0
    . rw [aDs zq1]
    . rw [if_neg zq1] at c0; rw [aDO zq1 c0]
  . by_cases zq1:kH l o≠0
    . rw [aDs zq1]; exact if_pos zq1
    . rw [if_neg zq1] at c0; rw [aDO zq1 c0]; exact if_neg zq1
 have c0:=c1;have zq1: ¬kH l o≠0:=λe=>c0 (by rw [if_pos e]; exact e)
 have zq2: ¬prS s l.i≠0:=λe=>c0 (by rw [if_neg zq1]; exact e)
 have ht:=aJc<|Decidable.not_not.1 zq1
 obtain ⟨hi1,hi2,hv,hw0,_,hl0⟩:=nG ht.1;have hbn:=hb.n;obtain ⟨p1,p2,p3,p4,p5⟩:=aNE zq2;have p6:=dO p1;have p7:=dO p5;have p8:(gJ s).length=s.p.length+1:=by simp [gJ,bH]
 have hll:=mP hv;refine aB<|aU<|aZ J J J J<|aZ J J J J<|aY J J<|aY J J<|aEu (bI J dR) (show bJ _ _ _ (aD<|gJ s) from dD [s.p,[s.a]] (by simp only [bH,List.append_nil,List.length_append,List.length_cons,List.length_nil]; omega))<|aE<|aU<|aZ J J J J<|bB J J J J<|aP ?_
 refine aL (aC8 l.t o (gJ s) hb ho OM) J<|aP<|bR J J<|bR J J<|bR J J<|aP<|aP<|aE<|aO<|aP<|cA J J<|cE ?_
 refine aG J (λc2=>?_) λc2=>?_
 . 
  have zq3:(bF l.t o<|gJ s).2.2≠0:=c2;refine fM ?_;refine eZ (λT H=>T 6=(cR 6)/\T 7=V.nilsl/\T 8=(iV<|(bF l.t o<|gJ s).2.2)/\H 3=(bk 1 49 2 [[(iV l.i),(V.sl<|List.map cN l.t.nd)]])/\H 4=(bk 1 31 2 [[(iV o.i),(V.sl<|List.map cT o.tr)]])/\H 5=(bk 1 62 3 [[(aD s.p),(iV s.a),(aD s.x)]])/\H 6=(bk 1 49 2 [[(iV l.i),(V.sl<|List.map cN l.t.nd)]])/\H 9=(bk 1 66 4 [[(iV l.i),(V.sl<|List.map cN l.t.nd),(iV o.i),(V.sl<|List.map cT o.tr)]])/\H 17=iN/\H 20=iN/\True) ?_ ?_
  . 
   refine bB J J J J<|aP<|dA J J J J J J J J J<|aP<|aP ?_
   exact gD ⟨J,J,J,J,J,J,J,J,J,J,trivial⟩
  intro T H ⟨t6,t7,t8,h3,h4,h5,h6,h9,h17,h20,_⟩;refine aN ?_;refine kE (cH (u:=(V.agg [(iV l.i),(V.sl<|List.map cN l.t.nd)])) t6 h6<|lB oB J J) (bM t7) (bM t8) (eU (aH ?_)<|dM ?_ (λ_=>by simp)) (cC ?_)<|aH ?_
  . rw [aDU zq1 zq2 zq3]
    try rfl
  . rw [aDU zq1 zq2 zq3]
    try rfl
  . rw [aDU zq1 zq2 zq3]
    try rfl
  . rw [aDU zq1 zq2 zq3]
    try rfl
 have zq3: ¬(bF l.t o<|gJ s).2.2≠0:=c2;refine aB<|fM ?_
 refine eZ (λT H=>T 3=(cR 3)/\T 5=(cR 5)/\T 6=(cR 6)/\T 9=(cR 9)/\T 11=(aD<|gJ s)/\T 12=(iV<|(bF l.t o<|gJ s).1)/\T 13=(aD<|(bF l.t o<|gJ s).2.1)/\T 53=(V.bool<|decide ((0:Int) < ((((bF l.t o<|gJ s).2.1).length:Nat):Int)))/\H 3=(bk 1 49 2 [[(iV l.i),(V.sl<|List.map cN l.t.nd)]])/\H 4=(bk 1 31 2 [[(iV o.i),(V.sl<|List.map cT o.tr)]])/\H 5=(bk 1 62 3 [[(aD s.p),(iV s.a),(aD s.x)]])/\H 6=(bk 1 49 2 [[(iV 0),V.nilsl]])/\H 9=(bk 1 66 4 [[(iV l.i),(V.sl<|List.map cN l.t.nd),(iV o.i),(V.sl<|List.map cT o.tr)]])/\H 17=iN/\H 20=iN/\True) ?_ ?_
 . 
  refine aP<|bA J<|fZ J J ?_
  exact gD ⟨J,J,J,J,J,J,J,J,J,J,J,J,J,J,J,trivial⟩
 intro T H ⟨t3,t5,t6,t9,t11,t12,t13,t53,h3,h4,h5,h6,h9,h17,h20,_⟩;refine aG t53 (λc3=>?_) λc3=>?_
 . 
  have zq4:0 < (bF l.t o<|gJ s).2.1.length:=OM
  refine aO<|bB t3 h3 J J<|aI t13<|aY J J<|dA t6 J J h6 J J J J J<|aP<|aE<|aN ?_
  refine kE (cH (u:=(V.agg [(iV l.i),(V.sl<|List.map cN l.t.nd)])) t6 (@J Blk<|bk 1 49 2 [[(iV l.i),(V.sl<|List.map cN l.t.nd)]])<|lB oB J J) (bM<|aM<|V.sl [[(aD<|(bF l.t o<|gJ s).2.1)]]) (bM<|aM<|iV 0) (eU (aH ?_)<|dM ?_ (λ_=>by simp)) (eA SI ?_)<|aH ?_
  . rw [aDJ zq1 zq2 zq3 zq4]
    try rfl
  . rw [aDJ zq1 zq2 zq3 zq4]
    try rfl
  . rw [aDJ zq1 zq2 zq3 zq4]
    try rfl
  . rw [aDJ zq1 zq2 zq3 zq4]
    try rfl
 have zq4: ¬0 < (bF l.t o<|gJ s).2.1.length:=OM
 have q4:(bF l.t o<|gJ s).2.1=[]:=List.length_eq_zero_iff.1 OM;have hnd:=aFT (Decidable.not_not.1 zq3) q4 hv;refine aB<|aO<|bB t9 h9 J J<|aI t12<|aL (xP l o ((bF l.t o<|gJ s).1) hnd.1 hnd.2.1) J<|jS J<|cE ?_
 refine dW J (λc4=>?_) (λc4=>?_)
 . 
  have zq5:(sC l o s).lf=false:=by simpa [sC] using c4
  refine aO<|bB t3 h3 J J<|dA t6 J J h6 J J J J J<|aP<|aE<|aN ?_
  refine kE (cH (u:=(V.agg [(iV l.i),(V.sl<|List.map cN l.t.nd)])) t6 (@J Blk<|bk 1 49 2 [[(iV l.i),(V.sl<|List.map cN l.t.nd)]])<|lB oB J J) (bM<|aM V.nilsl) (bM<|aM<|iV 10) (eU (aH ?_)<|dM ?_ (λ_=>by simp)) (cC ?_)<|aH ?_
  . rw [aDg zq1 zq2 zq3 zq4 zq5]
    try rfl
  . rw [aDg zq1 zq2 zq3 zq4 zq5]
    try rfl
  . rw [aDg zq1 zq2 zq3 zq4 zq5]
    try rfl
  . rw [aDg zq1 zq2 zq3 zq4 zq5]
    try rfl
 have zq5: ¬(sC l o s).lf=false:=by simpa [sC] using c4
 have hac:=(dO (hw0 (bF l.t o<|gJ s).1.toNat OM).1).1;have hba:(sC l o s).ac.length<=1024:=hac;have hlc:(sC l o s).lf=true:=by simpa using zq5
 have bh1:=aHe ho (aA l.t.nd (bF l.t o<|gJ s).1.toNat).ac s.x;have bh2:=aHe ho (gJ s) s.x;have b0:(aA (mM l o s) 0).length=(sC l o s).ac.length+s.x.length:=by show (bH [_,_]).length=_; simp [bH]
 have b1:(aA (mM l o s) 1).length=(gJ s).length+s.x.length:=by show (bH [_,_]).length=_; simp [bH]
 have hbl:(mM l o s).length=2:=J;refine aB<|aU<|cQ t3 h3<|aZ J h3 J J<|aI t12<|dQ (i:=((bF l.t o<|gJ s).1)) (aM<|V.sl<|List.map cN l.t.nd) (aM<|iV<|(bF l.t o<|gJ s).1) OM OM J<|dY (cs':=(List.drop 1<|cN<|aA l.t.nd ((bF l.t o<|gJ s).1).toNat)) J J<|aJ J J<|aE<|aU<|aP<|aZ t5 h5 J J<|aY J J ?_
 refine aL (dD ([(aA l.t.nd ((bF l.t o<|gJ s).1).toNat).ac,s.x]) (by simp only [bH,List.append_nil,List.length_append,List.length_cons,List.length_nil]; omega)) J<|aI t11<|aZ t5 h5 J J<|aY J J<|aL (dD ([gJ s,s.x]) (by simp only [bH,List.append_nil,List.length_append,List.length_cons,List.length_nil]; omega)) J<|aY J J<|aE<|aU<|iD (i:=17) (n:=0) J (cM h17)<|zL<|aU<|aP<|aKS (n:=2) J J ?_
 refine aE (aF λQ5 n5 x5 y5 z5=>?_);refine cF (λmm T H=> ∃ (k:Nat) (v:Nat),mm=2 - k/\T 3=(cR 3)/\T 5=(cR 5)/\T 6=(cR 6)/\T 9=(cR 9)/\T 11=(aD<|gJ s)/\T 12=(iV<|(bF l.t o<|gJ s).1)/\T 15=(aD<|(aA l.t.nd ((bF l.t o<|gJ s).1).toNat).ac)/\T 17=(V.ms 17 v 0<|(msK o (mM l o s) k).length)/\T 80=(aC<|mM l o s)/\T 81=(iV ((2:Nat):Int))/\T 82=(iV ((k:Nat):Int))/\H 3=(bk 1 49 2 [[(iV l.i),(V.sl<|List.map cN l.t.nd)]])/\H 4=(bk 1 31 2 [[(iV o.i),(V.sl<|List.map cT o.tr)]])/\H 5=(bk 1 62 3 [[(aD s.p),(iV s.a),(aD s.x)]])/\H 6=(bk 1 49 2 [[(iV 0),V.nilsl]])/\H 9=(bk 1 66 4 [[(iV l.i),(V.sl<|List.map cN l.t.nd),(iV o.i),(V.sl<|List.map cT o.tr)]])/\H 17=(bz v 54 1<|List.map cL<|msK o (mM l o s) k)/\H 20=iN/\(k<=2)/\(∀ j,j < k->(aA (mM l o s) j).length<=1024)) ?_ ?_
 . 
  refine ⟨_,0,1,J,t3,t5,t6,t9,t11,t12,J,(bG (aM<|V.ms 17 1 0 0) JR),(bG (aM<|V.sl [[(aD<|bH<|[(aA l.t.nd ((bF l.t o<|gJ s).1).toNat).ac,s.x])],[(aD<|bH<|[gJ s,s.x])]]) JR),J,(bG (aM<|iV 0) J),h3,h4,h5,h6,h9,(bG (@J Blk<|bz 1 54 1 []) JR),h20,?_,?_⟩
  . omega
  . intro j hj; omega
 intro mm T H ⟨k,v,hmm,t3,t5,t6,t9,t11,t12,t15,t17,t80,t81,t82,h3,h4,h5,h6,h9,h17,h20,hk,hc⟩ Q6 p16 p26 p36;have q1:=aPc o (mM l o s) k;refine aU<|bY t82 t81<|cE ?_
 refine aG J (λc7=>?_) λc7=>?_
 . 
  have hk2:k=0\/k=1:=OM
  refine aB (aF λQ8 n8 x8 y8 z8=>(aU<|dL (i:=k) t80 t82<|aJ J J<|aE<|aO<|aP<|bA J<|fZ J J<|cE ?_));refine aG J (λc9=>?_) λc9=>?_
  . 
   have zq6:1024 < (sC l o s).ac.length+s.x.length\/1024 < (gJ s).length+s.x.length:=by rcases hk2 with e|e <;> subst e <;> omega
   refine aO<|bB t3 h3 J J<|dA t6 J J h6 J J J J J<|aP<|aE<|aN<|y8 _ _<|p26 _ _<|y5 _ _ ?_
   refine kE (cH (u:=(V.agg [(iV l.i),(V.sl<|List.map cN l.t.nd)])) t6 (@J Blk<|bk 1 49 2 [[(iV l.i),(V.sl<|List.map cN l.t.nd)]])<|lB oB J J) (bM<|aM V.nilsl) (bM<|aM<|iV 3) (eU (aH ?_)<|dM ?_ (λ_=>by simp)) (cC ?_)<|aH ?_
   . rw [aCs zq1 zq2 zq3 zq4 zq5 zq6]
     try rfl
   . rw [aCs zq1 zq2 zq3 zq4 zq5 zq6]
     try rfl
   . rw [aCs zq1 zq2 zq3 zq4 zq5 zq6]
     try rfl
   . rw [aCs zq1 zq2 zq3 zq4 zq5 zq6]
     try rfl
  refine aB<|aU<|bB t9 h9 J J<|aP<|aL (aA5 l o (aA (mM l o s) k) ho) J<|jS J<|cE ?_
  refine pS J (λc10=>?_) (λc10=>?_)
  . 
   have d1:(dP o<|aA (mM l o s) k).isSome=false:=by simpa using c10
   refine fO<|aI t17<|aP<|aY J J<|gF (l:=(msK o (mM l o s) k)) (f:=cL) (x:=(aA (mM l o s) k)) (aM<|V.ms 17 v 0<|(msK o (mM l o s) k).length) h17 JR (aM<|V.sl [[(aD<|aA (mM l o s) k)]])<|aE<|n8 _ _ (.done (fO<|cD t82<|aE ?_))
   refine p16 _ _ _ ?_ ⟨(k+1),(v+1),J,t3,t5,t6,t9,t11,t12,t15,(bG (aM<|V.ms 17 (v+1) 0<|((msK o (mM l o s) k).length)+1) (by (rw [aIy OM d1,List.length_append]; rfl))),t80,t81,(bG (cS<|k+1) JR),h3,h4,h5,h6,h9,(bG (@J Blk<|bz (v+1) 54 1<|List.map cL<|msK o (mM l o s) k++[(aA (mM l o s) k)]) (by (rw [aIy OM d1]; done))),h20,?_,?_⟩
   . omega
   . omega
   . intro j hj
     by_cases e:j=k
     . subst e; omega
     . exact hc j OM
  have d1:(dP o<|aA (mM l o s) k).isSome=true:=by simpa using c10
  refine dH<|n8 _ _ (.done (fO<|cD t82<|aE ?_))
  refine p16 _ _ _ ?_ ⟨(k+1),v,J,t3,t5,t6,t9,t11,t12,t15,(bG t17 (by (rw [aLK OM d1]; done))),t80,t81,(bG (cS<|k+1) JR),h3,h4,h5,h6,h9,(bG h17 (by (rw [aLK OM d1]; done))),h20,?_,?_⟩
  . omega
  . omega
  . intro j hj
    by_cases e:j=k
    . subst e; omega
    . exact hc j OM
 have zq6: ¬(1024 < (sC l o s).ac.length+s.x.length\/1024 < (gJ s).length+s.x.length):=by have:=hc 0 OM; have:=hc 1 OM; omega
 have hme:=aPz (o:=o) (l:=mM l o s) (k:=k) OM;refine aS<|p36 _ _ _<|x5 _ _ (.done (fM<|W_g<|aI t17<|eS J h17 SI<|fZ J J<|cE ?_))
 refine .freeze 17 (.done ?_);refine aG J (λc11=>?_) λc11=>?_
 . 
  have zq7:0 < (vX o<|mM l o s).length:=by rw [<- hme]; omega
  refine aO<|bB (aX t3 rfl) (aQ (id:=17) h3 DE) rfl rfl<|aI (aX t17<|mW h17 SI (l:=(msK o (mM l o s) k)) rfl JR)<|aL (yK (msK o (mM l o s) k) OM (by rw [hme]; intro w hw; have hm:=(List.mem_filter.1 hw).1; obtain ⟨j,j1,rfl⟩:=dZ hm; have:=hc j OM; omega)) rfl<|dA (aX t6 rfl) rfl rfl (aQ (id:=17) h6 DE) rfl rfl rfl rfl rfl<|aP<|aE<|aN ?_
  refine kE (cH (u:=(V.agg [(iV l.i),(V.sl<|List.map cN l.t.nd)])) (aX t6 J) (@J Blk<|bk 1 49 2 [[(iV l.i),(V.sl<|List.map cN l.t.nd)]])<|lB oB J J) (bM<|aM<|aC<|mK<|msK o (mM l o s) k) (bM<|aM<|iV 0) (eU (aH ?_)<|dM ?_ (λ_=>by simp)) (dM ?_ (λ_=>by simp))<|aH ?_
  . rw [aCJ zq1 zq2 zq3 zq4 zq5 zq6 zq7]
  . rw [aCJ zq1 zq2 zq3 zq4 zq5 zq6 zq7]
  . rw [aCJ zq1 zq2 zq3 zq4 zq5 zq6 zq7,hme]
  . rw [aCJ zq1 zq2 zq3 zq4 zq5 zq6 zq7]
 have zq7: ¬0 < (vX o<|mM l o s).length:=by rw [<- hme]; omega
 have m0:=List.length_eq_zero_iff.1 (show (vX o<|mM l o s).length=0 by omega);unfold mM at m0;rw [aIs] at m0;have k1:(dP o<|bH [(sC l o s).ac,s.x]).isSome=true:=by by_cases e:(dP o<|bH [(sC l o s).ac,s.x]).isSome=true; exact e; (rw [if_neg e] at m0; simp at m0)
 have k2:(dP o<|bH [gJ s,s.x]).isSome=true:=by by_cases e:(dP o<|bH [gJ s,s.x]).isSome=true; exact e; (rw [if_neg e] at m0; simp at m0)
 refine aB<|aO<|cQ (aX t3 J) (aQ (id:=17) h3 DE)<|bB J (aQ (id:=17) h3 DE) J J<|aL (oE l.t hb) J<|bA J<|jB J J<|cE ?_
 refine aG J (λc12=>?_) λc12=>?_
 . 
  have zq8:128<=(fT l.t.nd).length:=by rw [<- hll]; have q:=c12; unfold eM; omega
  refine aO<|bB (aX t3 J) (aQ (id:=17) h3 DE) J J<|dA (aX t6 J) J J (aQ (id:=17) h6 DE) J J J J J<|aP<|aE<|aN ?_
  refine kE (cH (u:=(V.agg [(iV l.i),(V.sl<|List.map cN l.t.nd)])) (aX t6 J) (@J Blk<|bk 1 49 2 [[(iV l.i),(V.sl<|List.map cN l.t.nd)]])<|lB oB J J) (bM<|aM V.nilsl) (bM<|aM<|iV 11) (eU (aH ?_)<|dM ?_ (λ_=>by simp)) (cC ?_)<|aH ?_
  . rw [aBS zq1 zq2 zq3 zq4 zq5 zq6 zq7 zq8]
    try rfl
  . rw [aBS zq1 zq2 zq3 zq4 zq5 zq6 zq7 zq8]
    try rfl
  . rw [aBS zq1 zq2 zq3 zq4 zq5 zq6 zq7 zq8]
    try rfl
  . rw [aBS zq1 zq2 zq3 zq4 zq5 zq6 zq7 zq8]
    try rfl
 have zq8: ¬128<=(fT l.t.nd).length:=by rw [<- hll]; have q:=c12; unfold eM; omega
 refine aB<|W_d (by exact (tD (congrArg Blk.live<|aQ (id:=17) h20 DE) wD))<|cQ (aX t3 J) (aQ (id:=17) h3 DE)<|bB J (aQ (id:=17) h3 DE) J J<|aI (aX t12 J)<|cQ (aX t5 J) (aQ (id:=17) h5 DE)<|bB J (aQ (id:=17) h5 DE) J J<|bB (aX t9 J) (aQ (id:=17) h9 DE) J J<|aI (aX t15 J)<|cQ (aX t5 J) (aQ (id:=17) h5 DE)<|bB J (aQ (id:=17) h5 DE) J J<|aL (sM l o ((aA l.t.nd ((bF l.t o<|gJ s).1).toNat).ac) s.x ho OM OM (by exact k1)) J<|aI (aX t11 J)<|bB (aX t9 J) (aQ (id:=17) h9 DE) J J<|aI (aX t11 J)<|cQ (aX t5 J) (aQ (id:=17) h5 DE) ?_
 refine bB J (aQ (id:=17) h5 DE) J J<|aL (sM l o (gJ s) s.x ho OM OM (by exact k2)) J<|aL (aFK l.t ((bF l.t o<|gJ s).1) s.x (lJ o ((aA l.t.nd ((bF l.t o<|gJ s).1).toNat).ac) s.x) (gJ s) (lJ o (gJ s) s.x) hb OM OM OM OM) J<|aP<|bR J J<|bR J J<|bX (i:=20) (n:=0) (m:=1) J (cM<|aQ (id:=17) h20 DE) J<|dA J J J J J J J J J<|aE<|aO<|aP<|cA J J<|cE ?_
 refine aG J (λc13=>?_) λc13=>?_
 . 
  have zq9:rfG l o s≠0:=c13;refine aO<|bB (aX t3 J) (aQ (id:=17) h3 DE) J J<|aP<|dA (aX t6 J) J J (aQ (id:=17) h6 DE) J J J J J<|aP<|aE<|aN ?_
  refine kE (cH (u:=(V.agg [(iV l.i),(V.sl<|List.map cN l.t.nd)])) (aX t6 J) (@J Blk<|bk 1 49 2 [[(iV l.i),(V.sl<|List.map cN l.t.nd)]])<|lB oB J J) (bM<|aM V.nilsl) (bM<|aM<|iV<|spE l.t ((bF l.t o<|gJ s).1) s.x (lJ o ((aA l.t.nd ((bF l.t o<|gJ s).1).toNat).ac) s.x) (gJ s)<|lJ o (gJ s) s.x) (eU (aH ?_)<|dM ?_ (λ_=>by simp)) (cC ?_)<|aH ?_
  . rw [aDy zq1 zq2 zq3 zq4 zq5 zq6 zq7 zq8 zq9]
    try rfl
  . rw [aDy zq1 zq2 zq3 zq4 zq5 zq6 zq7 zq8 zq9]
    try rfl
  . rw [aDy zq1 zq2 zq3 zq4 zq5 zq6 zq7 zq8 zq9]
    try rfl
  . rw [aDy zq1 zq2 zq3 zq4 zq5 zq6 zq7 zq8 zq9]
    try rfl
 have zq9: ¬rfG l o s≠0:=c13;refine aB ?_;refine eZ (λT H=>T 6=(cR 6)/\T 7=V.nilsl/\T 8=(iV 0)/\H 3=(bk 1 49 2 [[(iV l.i),(V.sl<|List.map cN l.t.nd)]])/\H 4=(bk 1 31 2 [[(iV o.i),(V.sl<|List.map cT o.tr)]])/\H 5=(bk 1 62 3 [[(aD s.p),(iV s.a),(aD s.x)]])/\H 6=(bk 1 49 2 [[(iV l.i),(V.sl<|List.map cN<|(xE l.t ((bF l.t o<|gJ s).1) s.x (lJ o ((aA l.t.nd ((bF l.t o<|gJ s).1).toNat).ac) s.x) (gJ s)<|lJ o (gJ s) s.x).nd)]])/\H 9=(bk 1 66 4 [[(iV l.i),(V.sl<|List.map cN l.t.nd),(iV o.i),(V.sl<|List.map cT o.tr)]])/\((H 17).ver=v/\(H 17).live=false)/\H 20=(bk 1 47 1 [[(V.sl<|List.map cN<|(xE l.t ((bF l.t o<|gJ s).1) s.x (lJ o ((aA l.t.nd ((bF l.t o<|gJ s).1).toNat).ac) s.x) (gJ s)<|lJ o (gJ s) s.x).nd)]])/\True) ?_ ?_
 . 
  refine cQ (aX t3 J) (aQ (id:=17) h3 DE)<|bB J (aQ (id:=17) h3 DE) J J<|bB J J J J<|bZ J J<|dA (aX t6 J) J J (aQ (id:=17) h6 DE) J J J J J<|aP<|aP ?_
  exact gD ⟨(aX t6 J),J,J,(aQ (id:=17) h3 DE),(aQ (id:=17) h4 DE),(aQ (id:=17) h5 DE),J,(aQ (id:=17) h9 DE),(fW<|cM h17),J,trivial⟩
 intro T H ⟨t6,t7,t8,h3,h4,h5,h6,h9,h17,h20,_⟩;refine bE ?_;refine kE (cH (u:=(V.agg [(iV l.i),(V.sl<|List.map cN<|(xE l.t ((bF l.t o<|gJ s).1) s.x (lJ o ((aA l.t.nd ((bF l.t o<|gJ s).1).toNat).ac) s.x) (gJ s)<|lJ o (gJ s) s.x).nd)])) t6 h6<|lB oB J J) (bM t7) (bM t8) (eU (aH ?_)<|dM ?_ (λ_=>by simp)) (cC ?_)<|aH ?_
 . rw [wQ zq1 zq2 zq3 zq4 zq5 zq6 zq7 zq8 zq9]
   try rfl
 . rw [wQ zq1 zq2 zq3 zq4 zq5 zq6 zq7 zq8 zq9]
   try rfl
 . rw [wQ zq1 zq2 zq3 zq4 zq5 zq6 zq7 zq8 zq9]
   try rfl
 . rw [wQ zq1 zq2 zq3 zq4 zq5 zq6 zq7 zq8 zq9]
   try rfl
theorem oA (a b:List Int):bJ Tryz.prog 113 [(aD a),(aD b)] (iV ((gC a b:Nat):Int)):=by
 refine' pK [] [] Tryz.func113 ?e λhB=>?_
 case e=>conv=>lhs; cbv
 dsimp only;refine aU<|aE<|aU<|aE (aF λQ1 n1 x1 y1 z1=>?_)
 refine cF (λmm T H=> ∃ (k:Nat),mm=a.length - k/\T 0=(aD a)/\T 1=(aD b)/\T 5=(iV ((k:Nat):Int))/\(k<=a.length)/\(k<=gC a b)) ?_ ?_
 . 
  refine ⟨_,0,J,J,J,(bG (aM<|iV 0) J),?_,?_⟩
  . omega
  . exact Nat.zero_le _
 intro mm T H ⟨k,hmm,t0,t1,t5,hk,hc⟩ Q2 p12 p22 p32;refine aO<|aI t5<|aI t0<|bA J<|bY J J<|aP ?_
 refine bN 5 (λT H=>T 0=(aD a)/\T 1=(aD b)/\T 5=(iV ((k:Nat):Int))/\T 15=(V.bool<|decide ((((k:Nat):Int) < ((a.length:Nat):Int))/\(((k:Nat):Int) < ((b.length:Nat):Int))))/\True) ?_ ?_
 . 
  by_cases g3:((k:Nat):Int) < ((a.length:Nat):Int)
  . 
   refine aK (bU g3 J)<|aI t5<|aK (bU g3 J)<|aI t1<|aK (bU g3 J)<|bA J<|aK (bU g3 J)<|bY J J<|bP (bU g3 J) J ?_
   exact ⟨t0,t1,t5,(eY g3),trivial⟩
  . 
   refine bQ (bV g3 J)<|bQ (bV g3 J)<|bQ (bV g3 J)<|bQ (bV g3 J)<|bO (bV g3 J) J ?_
   exact ⟨t0,t1,t5,(eX g3),trivial⟩
 intro T H ⟨t0,t1,t5,t15,_⟩;refine aI t15 ?_;refine bN 10 (λT H=>T 0=(aD a)/\T 1=(aD b)/\T 5=(iV ((k:Nat):Int))/\T 26=(V.bool<|decide (((((k:Nat):Int) < ((a.length:Nat):Int))/\(((k:Nat):Int) < ((b.length:Nat):Int)))/\((aA a k)=(aA b k))))/\True) ?_ ?_
 . 
  by_cases g4:(((k:Nat):Int) < ((a.length:Nat):Int))/\(((k:Nat):Int) < ((b.length:Nat):Int))
  . 
   refine aK (bU g4 J)<|aI t0<|aK (bU g4 J)<|aI t5<|aK (bU g4 J)<|dL (i:=k) (aM<|aD a) (cS k)<|aK (bU g4 J)<|aJ J J<|aK (bU g4 J)<|aI t1<|aK (bU g4 J)<|aI t5<|aK (bU g4 J)<|dL (i:=k) (aM<|aD b) (cS k)<|aK (bU g4 J)<|aJ J J ?_
   refine aK (bU g4 J)<|fP J J<|bP (bU g4 J) J ?_
   exact ⟨t0,t1,t5,(eY g4),trivial⟩
  . 
   refine bQ (bV g4 J)<|bQ (bV g4 J)<|bQ (bV g4 J)<|bQ (bV g4 J)<|bQ (bV g4 J)<|bQ (bV g4 J)<|bQ (bV g4 J)<|bQ (bV g4 J)<|bQ (bV g4 J)<|bO (bV g4 J) J ?_
   exact ⟨t0,t1,t5,(eX g4),trivial⟩
 intro T H ⟨t0,t1,t5,t26,_⟩;refine cE ?_;refine aG t26 (λc5=>?_) λc5=>?_
 . 
  refine aB (iZ λQ6 n6 x6 y6 z6=>(fO<|aI t5<|cD J<|aE<|n6 _ _ ?_));refine p12 _ _ _ ?_ ⟨(k+1),J,t0,t1,(bG (cS<|k+1) JR),?_,?_⟩
  . omega
  . omega
  . exact yE hc OM OM OM
 refine aS<|p32 _ _ _<|x1 _ _ (.done (aU<|aI t5<|aE<|bE ?_))
 refine aW (cS k)<|aH ?_
 . rw [tO hc OM]
theorem aGS (a b:List Int):bJ Tryz.prog 63 [(aD a),(aD b)] (V.bool (decide (a=b))):=by
 refine' pK [] [] Tryz.func63 ?e λhB=>?_
 case e=>conv=>lhs; cbv
 dsimp only;refine aU<|aE<|aU<|aP<|bA J<|aP<|bA J<|fP J J<|aP ?_
 refine bN 7 (λT H=>T 17=(V.bool<|decide ((((a.length:Nat):Int)=((b.length:Nat):Int))/\(((gC a b:Nat):Int)=((a.length:Nat):Int))))/\True) ?_ ?_
 . 
  by_cases g1:((a.length:Nat):Int)=((b.length:Nat):Int)
  . 
   refine aK (bU g1 J)<|aP<|aK (bU g1 J)<|aP<|aK (bU g1 J) ?_
   have q2:=kJ a b;have q3:=mJ a b;refine aL (oA a b) J<|aK (bU g1 J)<|aP<|aK (bU g1 J)<|bA J<|aK (bU g1 J)<|fP J J<|bP (bU g1 J) J ?_
   exact ⟨(eY g1),trivial⟩
  . 
   refine bQ (bV g1 J)<|bQ (bV g1 J)<|bQ (bV g1 J)<|bQ (bV g1 J)<|bQ (bV g1 J)<|bQ (bV g1 J)<|bO (bV g1 J) J ?_
   exact ⟨(eX g1),trivial⟩
 intro T H ⟨t17,_⟩;refine aI t17<|R_q ?_
 refine aW (aM<|V.bool<|decide ((((a.length:Nat):Int)=((b.length:Nat):Int))/\(((gC a b:Nat):Int)=((a.length:Nat):Int))))<|cK ?_
 . exact aNF a b
theorem aAX (a b:List (List Int)):bJ Tryz.prog 23 [(aC a),(aC b)] (V.bool (decide (a=b))):=by
 refine' pK [] [] Tryz.func23 ?e λhB=>?_
 case e=>conv=>lhs; cbv
 dsimp only;refine aU<|aE<|aO<|aP<|bA J<|aP<|bA J<|cA J J<|cE ?_
 refine aG J (λc1=>?_) λc1=>?_
 . 
  refine aO<|aE<|aN ?_
  refine aW (aM<|V.bool false)<|cK ?_
  . exact (decide_eq_false (λe=>by subst e; omega)).symm
 refine aB<|aO<|aE (aF λQ2 n2 x2 y2 z2=>?_)
 refine cF (λmm T H=> ∃ (k:Nat),mm=a.length - k/\T 0=(aC a)/\T 1=(aC b)/\T 5=(iV ((k:Nat):Int))/\(k<=a.length)/\(a.length=b.length)/\(∀ j,j < k->aA a j=aA b j)) ?_ ?_
 . 
  refine ⟨_,0,J,J,J,(bG (aM<|iV 0) J),?_,?_,?_⟩
  . omega
  . omega
  . intro j hj; omega
 intro mm T H ⟨k,hmm,t0,t1,t5,hk,hl,hc⟩ Q3 p13 p23 p33;refine aO<|aI t5<|aI t0<|bA J<|bY J J<|cE ?_
 refine aG J (λc4=>?_) λc4=>?_
 . 
  refine aB (aF λQ5 n5 x5 y5 z5=>(aU<|aI t0<|aI t5<|dL (i:=k) (aM<|aC a) (cS k)<|aJ J J<|aI t1<|aI t5<|dL (i:=k) (aM<|aC b) (cS k)<|aJ J J<|aL (aGS (aA a k)<|aA b k) J<|uQ J<|cE ?_));refine gE J (λc6=>?_) λc6=>?_
  . 
   have d1:=c6;refine aU<|aE<|bE<|y5 _ _<|p23 _ _<|y2 _ _ ?_
   refine aW (aM<|V.bool false)<|cK ?_
   . exact (decide_eq_false (λe=>d1 (by subst e; rfl))).symm
  have d1:=Decidable.not_not.1 c6;refine dH<|n5 _ _ (.done (fO<|aI t5<|cD J<|aE ?_))
  refine p13 _ _ _ ?_ ⟨(k+1),J,t0,t1,(bG (cS<|k+1) JR),?_,?_,?_⟩
  . omega
  . omega
  . omega
  . intro j hj
    by_cases e:j=k
    . subst e; exact d1
    . exact hc j OM
 refine aS<|p33 _ _ _<|x2 _ _ (.done (aU<|aE<|bE ?_))
 refine aW (aM<|V.bool true)<|cK ?_
 . exact (decide_eq_true (fU hl λj hj=>hc j OM)).symm
abbrev oR:=(⟨((2:Int)),([(⟨[1],[0]⟩:Tr),(⟨[0,1],[1,2]⟩:Tr)])⟩:Ob)
abbrev jX:=(hJ ((pN ((2:Int)))) oR (⟨([]),((0:Int)),([1])⟩:Spl))
abbrev mE:=(dJ ((pN ((2:Int)))) (⟨((2:Int)),([])⟩:Ob))
abbrev aAt:=(bk 1 28 5 [[(iV ((nW ((pN ((2:Int)))) oR).m.i)),(iV ((nW ((pN ((2:Int)))) oR).m.s)),(aC ((nW ((pN ((2:Int)))) oR).m.nx)),(aC ((nW ((pN ((2:Int)))) oR).m.ot)),(aC ((nW ((pN ((2:Int)))) oR).acc))]])
abbrev lZ:=(dJ ((pN ((2:Int)))) oR)
abbrev aGQ:=((((decide (((nwE ((2:Int)))≠(0:Int))\/((mE.2.2.2)≠(0:Int)))||(mE.2.2.1)))||decide ((lZ.2.2.2)≠(0:Int))))
abbrev aLy:=((((aGQ||((!lZ.2.2.1))))||decide ((((lZ.2.1).length:Nat):Int)≠(0:Int))))
abbrev xX:=(bk 1 31 2 [[(iV (2:Int)),(V.sl [[(V.sl [[(iV (1:Int))]]),(V.sl [[(iV (0:Int))]])],[(V.sl [[(iV (0:Int))],[(iV (1:Int))]]),(V.sl [[(iV (1:Int))],[(iV (2:Int))]])]])]])
abbrev zW:=(bk 1 49 2 [[(iV (lZ.1.i)),(V.sl (List.map cN (lZ.1.t.nd)))]])
abbrev aAq:=(bk 1 49 2 [[(iV ((dJ (jX.1) oR).1.i)),(V.sl (List.map cN ((dJ (jX.1) oR).1.t.nd)))]])
abbrev zR:=(bk 1 49 2 [[(iV ((pN ((2:Int))).i)),(V.sl (List.map cN ((pN ((2:Int))).t.nd)))]])
abbrev yG:=(bk 1 49 2 [[(iV (mE.1.i)),(V.sl (List.map cN (mE.1.t.nd)))]])
abbrev rX:=(bk 1 49 2 [[(iV (jX.1.i)),(V.sl (List.map cN (jX.1.t.nd)))]])
abbrev aAP:=(xM ((pN ((2:Int)))) oR)
abbrev aDI:=((((aLy||decide (aAP≠(0:Int))))||decide ((((jX.2.1).length:Nat):Int)≠(0:Int))))
abbrev aFO:=(((mE.2.1)=([[0],[1]]))/\(((((nW ((pN ((2:Int)))) oR).m.nx).length:Nat):Int)=(1:Int)))
abbrev tI:=(aC ((dJ (jX.1) oR).2.1))
abbrev aAV:=(iV ((dJ (jX.1) oR).2.2.2))
theorem jP:bJ Tryz.prog 6 [] (V.bool true):=by
 refine' pK [] [] Tryz.func6 ?e λhB=>?_
 case e=>conv=>lhs; cbv
 dsimp only;refine aU<|aE<|aU<|aL (aDx (2:Int)) J<|aP<|bR J J<|bR J J<|bX (i:=1) (n:=0) (m:=2) J (cM J) J<|dA J J J J J J J J J<|aE<|aU<|bB J J J J<|bZ J J<|kS (bI (aM<|V.agg [(iV<|(pN (2:Int)).i),(V.sl<|List.map cN<|(pN (2:Int)).t.nd)])<|bI (aM<|V.agg [(iV 2),V.nilsl]) dR) (sV (pN (2:Int)) (⟨(2:Int),([])⟩:Ob) (aGu (by decide+kernel)) (by decide+kernel) (by decide+kernel)) (cO (dN 6 _ (by simp [-List.map_take,-List.map_drop,-List.map_append,-List.map_reverse]))<|cO JR J) (by simp [-List.map_take,-List.map_drop,-List.map_append,-List.map_reverse]) (Or.inl (by simp [-List.map_take,-List.map_drop,-List.map_append,-List.map_reverse])) ?_
 refine aP<|bR J J<|bR J J<|bR J J<|bR J J<|bX (i:=3) (n:=0) (m:=2) J (cM J) J<|dA J J J J J J J J J<|aP<|aP<|aE<|aU<|aY J J<|aY J J<|bZ J J<|aY J J ?_
 refine aY J J<|bZ J J<|aY J J<|bZ J J<|bX (i:=7) (n:=0) (m:=2) J (cM J) J<|dA J J J J J J J J J<|cE ?_
 refine eZ (λT H=>T 1=(cR 1)/\T 2=(iV<|nwE (2:Int))/\T 4=(aC mE.2.1)/\T 5=(V.bool mE.2.2.1)/\T 6=(iV mE.2.2.2)/\T 7=(cR 7)/\T 9=(aC lZ.2.1)/\T 10=(V.bool lZ.2.2.1)/\T 11=(iV lZ.2.2.2)/\H 1=zR/\H 3=yG/\H 7=xX/\H 8=zW/\H 12=iN/\H 14=iN/\H 17=iN/\True) ?_ ?_
 . 
  refine bB J J J J<|bB J J J J<|aL (sV (pN (2:Int)) oR (aGu (by decide+kernel)) (by decide+kernel) (by decide+kernel)) J<|aP<|bR J J<|bR J J<|bR J J<|bR J J<|bX (i:=8) (n:=0) (m:=2) J (cM J) J<|dA J J J J J J J J J<|aP<|aP<|aP ?_
  exact gD ⟨J,J,J,J,J,J,J,J,J,J,J,J,J,J,J,J,trivial⟩
 intro T H ⟨t1,t2,t4,t5,t6,t7,t9,t10,t11,h1,h3,h7,h8,h12,h14,h17,_⟩;refine aU<|bB t1 h1 J J<|bB t7 h7 J J<|aL (aC7 (pN (2:Int)) oR (aGu (by decide+kernel)) (by decide+kernel) (by decide+kernel)) J<|aP<|bR J J<|bR J J<|bX (i:=12) (n:=0) (m:=5) J (cM h12) J<|dA J J J J J J J J J<|aE<|aU<|bB t1 h1 J J<|bB t7 h7 J J<|aY J J<|bZ J J ?_
 refine kS (bI (aM<|V.agg [(iV<|(pN (2:Int)).i),(V.sl<|List.map cN<|(pN (2:Int)).t.nd)])<|bI (aM<|V.agg [(iV 2),(V.sl [[(V.sl [[(iV 1)]]),(V.sl [[(iV 0)]])],[(V.sl [[(iV 0)],[(iV 1)]]),(V.sl [[(iV 1)],[(iV 2)]])]])])<|bI (aM<|V.agg [V.nilsl,(iV 0),(V.sl [[(iV 1)]])]) dR) (zJ (pN (2:Int)) oR (⟨([]),(0:Int),([1])⟩:Spl) (aGu (by decide+kernel)) (by decide+kernel)) (cO (dN 6 _ (by simp [-List.map_take,-List.map_drop,-List.map_append,-List.map_reverse]))<|cO (dN 6 _ (by simp [-List.map_take,-List.map_drop,-List.map_append,-List.map_reverse]))<|cO JR J) (by simp [-List.map_take,-List.map_drop,-List.map_append,-List.map_reverse]) (Or.inl (by simp [-List.map_take,-List.map_drop,-List.map_append,-List.map_reverse]))<|aP<|bR J J<|bR J J<|bR J J<|bX (i:=14) (n:=0) (m:=2) J (cM h14) J<|dA J J J J J J J J J<|aP<|aE<|aU<|bB J J J J<|bB t7 h7 J J<|aL (sV jX.1 oR (aGu (by decide+kernel)) (by decide+kernel) (by decide+kernel)) J<|aP<|bR J J ?_
 refine bR J J<|bR J J<|bR J J<|bX (i:=17) (n:=0) (m:=2) J (cM h17) J<|dA J J J J J J J J J<|aP<|aP<|aE<|fM ?_
 refine eZ (λT H=>T 4=(aC mE.2.1)/\T 12=(cR 12)/\T 14=(cR 14)/\T 18=tI/\T 110=(V.bool ((aDI||decide (jX.2.2≠(0:Int)))||decide (((dJ jX.1 oR).2.2.2)≠(0:Int))))/\H 1=zR/\H 3=yG/\H 7=xX/\H 8=zW/\H 12=aAt/\H 14=rX/\H 17=aAq/\True) ?_ ?_
 . 
  refine aI t2<|cA J J<|aP ?_
  refine bN 3 (λT H=>T 4=(aC mE.2.1)/\T 5=(V.bool mE.2.2.1)/\T 9=(aC lZ.2.1)/\T 10=(V.bool lZ.2.2.1)/\T 11=(iV lZ.2.2.2)/\T 12=(cR 12)/\T 13=(iV aAP)/\T 14=(cR 14)/\T 15=(aC jX.2.1)/\T 16=(iV jX.2.2)/\T 18=tI/\T 20=aAV/\T 77=(V.bool<|decide (((nwE (2:Int))≠(0:Int))\/(mE.2.2.2≠(0:Int))))/\H 1=zR/\H 3=yG/\H 7=xX/\H 8=zW/\H 12=aAt/\H 14=rX/\H 17=aAq/\True) ?_ ?_
  . 
   by_cases g1:(nwE (2:Int))≠(0:Int)
   . 
    refine bQ (bU g1 J)<|bQ (bU g1 J)<|bP (bU g1 J) J ?_
    exact ⟨t4,t5,t9,t10,t11,J,J,J,J,J,J,J,(fB g1),h1,h3,h7,h8,J,J,J,trivial⟩
   . 
    refine aK (bV g1 J)<|aI t6<|aK (bV g1 J)<|cA J J<|bO (bV g1 J) J ?_
    exact ⟨t4,t5,t9,t10,t11,J,J,J,J,J,J,J,(fC g1),h1,h3,h7,h8,J,J,J,trivial⟩
  intro T H ⟨t4,t5,t9,t10,t11,t12,t13,t14,t15,t16,t18,t20,t77,h1,h3,h7,h8,h12,h14,h17,_⟩;refine aI t77 ?_;refine bN 2 (λT H=>T 4=(aC mE.2.1)/\T 9=(aC lZ.2.1)/\T 10=(V.bool lZ.2.2.1)/\T 11=(iV lZ.2.2.2)/\T 12=(cR 12)/\T 13=(iV aAP)/\T 14=(cR 14)/\T 15=(aC jX.2.1)/\T 16=(iV jX.2.2)/\T 18=tI/\T 20=aAV/\T 80=(V.bool (decide (((nwE (2:Int))≠(0:Int))\/(mE.2.2.2≠(0:Int)))||mE.2.2.1))/\H 1=zR/\H 3=yG/\H 7=xX/\H 8=zW/\H 12=aAt/\H 14=rX/\H 17=aAq/\True) ?_ ?_
  . 
   by_cases g2:((nwE (2:Int))≠(0:Int))\/(mE.2.2.2≠(0:Int))
   . 
    refine bQ (bU g2 J)<|bP (bU g2 J) J ?_
    exact ⟨t4,t9,t10,t11,t12,t13,t14,t15,t16,t18,t20,(aP8 g2),h1,h3,h7,h8,h12,h14,h17,trivial⟩
   . 
    refine aK (bV g2 J)<|aI t5<|bO (bV g2 J) J ?_
    exact ⟨t4,t9,t10,t11,t12,t13,t14,t15,t16,t18,t20,(aQo g2),h1,h3,h7,h8,h12,h14,h17,trivial⟩
  intro T H ⟨t4,t9,t10,t11,t12,t13,t14,t15,t16,t18,t20,t80,h1,h3,h7,h8,h12,h14,h17,_⟩;refine aI t80 ?_;refine bN 3 (λT H=>T 4=(aC mE.2.1)/\T 9=(aC lZ.2.1)/\T 10=(V.bool lZ.2.2.1)/\T 12=(cR 12)/\T 13=(iV aAP)/\T 14=(cR 14)/\T 15=(aC jX.2.1)/\T 16=(iV jX.2.2)/\T 18=tI/\T 20=aAV/\T 84=(V.bool aGQ)/\H 1=zR/\H 3=yG/\H 7=xX/\H 8=zW/\H 12=aAt/\H 14=rX/\H 17=aAq/\True) ?_ ?_
  . 
   by_cases g3:(decide (((nwE (2:Int))≠(0:Int))\/(mE.2.2.2≠(0:Int)))||mE.2.2.1)=true
   . 
    have g3x:=g3
    try simp only [Bool.and_eq_true,Bool.or_eq_true,Bool.not_eq_true',decide_eq_true_eq] at g3x
    refine bQ (gZ g3 J)<|bQ (gZ g3 J)<|bP (gZ g3 J) J ?_
    exact ⟨t4,t9,t10,t12,t13,t14,t15,t16,t18,t20,(uK g3),h1,h3,h7,h8,h12,h14,h17,trivial⟩
   . 
    have g3x:=g3
    try simp only [Bool.and_eq_true,Bool.or_eq_true,Bool.not_eq_true',decide_eq_true_eq] at g3x
    refine aK (hC g3 J)<|aI t11<|aK (hC g3 J)<|cA J J<|bO (hC g3 J) J ?_
    exact ⟨t4,t9,t10,t12,t13,t14,t15,t16,t18,t20,(uG g3),h1,h3,h7,h8,h12,h14,h17,trivial⟩
  intro T H ⟨t4,t9,t10,t12,t13,t14,t15,t16,t18,t20,t84,h1,h3,h7,h8,h12,h14,h17,_⟩;refine aI t84 ?_;refine bN 3 (λT H=>T 4=(aC mE.2.1)/\T 9=(aC lZ.2.1)/\T 12=(cR 12)/\T 13=(iV aAP)/\T 14=(cR 14)/\T 15=(aC jX.2.1)/\T 16=(iV jX.2.2)/\T 18=tI/\T 20=aAV/\T 88=(V.bool (aGQ||(!lZ.2.2.1)))/\H 1=zR/\H 3=yG/\H 7=xX/\H 8=zW/\H 12=aAt/\H 14=rX/\H 17=aAq/\True) ?_ ?_
  . 
   by_cases g4:aGQ=true
   . 
    have g4x:=g4
    try simp only [Bool.and_eq_true,Bool.or_eq_true,Bool.not_eq_true',decide_eq_true_eq] at g4x
    refine bQ (gZ g4 J)<|bQ (gZ g4 J)<|bP (gZ g4 J) J ?_
    exact ⟨t4,t9,t12,t13,t14,t15,t16,t18,t20,(uK g4),h1,h3,h7,h8,h12,h14,h17,trivial⟩
   . 
    have g4x:=g4
    try simp only [Bool.and_eq_true,Bool.or_eq_true,Bool.not_eq_true',decide_eq_true_eq] at g4x
    refine aK (hC g4 J)<|aI t10<|aK (hC g4 J)<|jS J<|bO (hC g4 J) J ?_
    exact ⟨t4,t9,t12,t13,t14,t15,t16,t18,t20,(uG g4),h1,h3,h7,h8,h12,h14,h17,trivial⟩
  intro T H ⟨t4,t9,t12,t13,t14,t15,t16,t18,t20,t88,h1,h3,h7,h8,h12,h14,h17,_⟩;refine aI t88 ?_;refine bN 4 (λT H=>T 4=(aC mE.2.1)/\T 12=(cR 12)/\T 13=(iV aAP)/\T 14=(cR 14)/\T 15=(aC jX.2.1)/\T 16=(iV jX.2.2)/\T 18=tI/\T 20=aAV/\T 93=(V.bool aLy)/\H 1=zR/\H 3=yG/\H 7=xX/\H 8=zW/\H 12=aAt/\H 14=rX/\H 17=aAq/\True) ?_ ?_
  . 
   by_cases g5:(aGQ||(!lZ.2.2.1))=true
   . 
    have g5x:=g5
    try simp only [Bool.and_eq_true,Bool.or_eq_true,Bool.not_eq_true',decide_eq_true_eq] at g5x
    refine bQ (gZ g5 J)<|bQ (gZ g5 J)<|bQ (gZ g5 J)<|bP (gZ g5 J) J ?_
    exact ⟨t4,t12,t13,t14,t15,t16,t18,t20,(uK g5),h1,h3,h7,h8,h12,h14,h17,trivial⟩
   . 
    have g5x:=g5
    try simp only [Bool.and_eq_true,Bool.or_eq_true,Bool.not_eq_true',decide_eq_true_eq] at g5x
    refine aK (hC g5 J)<|aI t9<|aK (hC g5 J)<|bA J<|aK (hC g5 J)<|cA J J<|bO (hC g5 J) J ?_
    exact ⟨t4,t12,t13,t14,t15,t16,t18,t20,(uG g5),h1,h3,h7,h8,h12,h14,h17,trivial⟩
  intro T H ⟨t4,t12,t13,t14,t15,t16,t18,t20,t93,h1,h3,h7,h8,h12,h14,h17,_⟩;refine aI t93 ?_;refine bN 3 (λT H=>T 4=(aC mE.2.1)/\T 12=(cR 12)/\T 14=(cR 14)/\T 15=(aC jX.2.1)/\T 16=(iV jX.2.2)/\T 18=tI/\T 20=aAV/\T 97=(V.bool (aLy||decide (aAP≠(0:Int))))/\H 1=zR/\H 3=yG/\H 7=xX/\H 8=zW/\H 12=aAt/\H 14=rX/\H 17=aAq/\True) ?_ ?_
  . 
   by_cases g6:aLy=true
   . 
    have g6x:=g6
    try simp only [Bool.and_eq_true,Bool.or_eq_true,Bool.not_eq_true',decide_eq_true_eq] at g6x
    refine bQ (gZ g6 J)<|bQ (gZ g6 J)<|bP (gZ g6 J) J ?_
    exact ⟨t4,t12,t14,t15,t16,t18,t20,(uK g6),h1,h3,h7,h8,h12,h14,h17,trivial⟩
   . 
    have g6x:=g6
    try simp only [Bool.and_eq_true,Bool.or_eq_true,Bool.not_eq_true',decide_eq_true_eq] at g6x
    refine aK (hC g6 J)<|aI t13<|aK (hC g6 J)<|cA J J<|bO (hC g6 J) J ?_
    exact ⟨t4,t12,t14,t15,t16,t18,t20,(uG g6),h1,h3,h7,h8,h12,h14,h17,trivial⟩
  intro T H ⟨t4,t12,t14,t15,t16,t18,t20,t97,h1,h3,h7,h8,h12,h14,h17,_⟩;refine aI t97 ?_;refine bN 4 (λT H=>T 4=(aC mE.2.1)/\T 12=(cR 12)/\T 14=(cR 14)/\T 16=(iV jX.2.2)/\T 18=tI/\T 20=aAV/\T 102=(V.bool aDI)/\H 1=zR/\H 3=yG/\H 7=xX/\H 8=zW/\H 12=aAt/\H 14=rX/\H 17=aAq/\True) ?_ ?_
  . 
   by_cases g7:(aLy||decide (aAP≠(0:Int)))=true
   . 
    have g7x:=g7
    try simp only [Bool.and_eq_true,Bool.or_eq_true,Bool.not_eq_true',decide_eq_true_eq] at g7x
    refine bQ (gZ g7 J)<|bQ (gZ g7 J)<|bQ (gZ g7 J)<|bP (gZ g7 J) J ?_
    exact ⟨t4,t12,t14,t16,t18,t20,(uK g7),h1,h3,h7,h8,h12,h14,h17,trivial⟩
   . 
    have g7x:=g7
    try simp only [Bool.and_eq_true,Bool.or_eq_true,Bool.not_eq_true',decide_eq_true_eq] at g7x
    refine aK (hC g7 J)<|aI t15<|aK (hC g7 J)<|bA J<|aK (hC g7 J)<|cA J J<|bO (hC g7 J) J ?_
    exact ⟨t4,t12,t14,t16,t18,t20,(uG g7),h1,h3,h7,h8,h12,h14,h17,trivial⟩
  intro T H ⟨t4,t12,t14,t16,t18,t20,t102,h1,h3,h7,h8,h12,h14,h17,_⟩;refine aI t102 ?_;refine bN 3 (λT H=>T 4=(aC mE.2.1)/\T 12=(cR 12)/\T 14=(cR 14)/\T 18=tI/\T 20=aAV/\T 106=(V.bool (aDI||decide (jX.2.2≠(0:Int))))/\H 1=zR/\H 3=yG/\H 7=xX/\H 8=zW/\H 12=aAt/\H 14=rX/\H 17=aAq/\True) ?_ ?_
  . 
   by_cases g8:aDI=true
   . 
    have g8x:=g8
    try simp only [Bool.and_eq_true,Bool.or_eq_true,Bool.not_eq_true',decide_eq_true_eq] at g8x
    refine bQ (gZ g8 J)<|bQ (gZ g8 J)<|bP (gZ g8 J) J ?_
    exact ⟨t4,t12,t14,t18,t20,(uK g8),h1,h3,h7,h8,h12,h14,h17,trivial⟩
   . 
    have g8x:=g8
    try simp only [Bool.and_eq_true,Bool.or_eq_true,Bool.not_eq_true',decide_eq_true_eq] at g8x
    refine aK (hC g8 J)<|aI t16<|aK (hC g8 J)<|cA J J<|bO (hC g8 J) J ?_
    exact ⟨t4,t12,t14,t18,t20,(uG g8),h1,h3,h7,h8,h12,h14,h17,trivial⟩
  intro T H ⟨t4,t12,t14,t18,t20,t106,h1,h3,h7,h8,h12,h14,h17,_⟩;refine aI t106 ?_;refine bN 3 (λT H=>T 4=(aC mE.2.1)/\T 12=(cR 12)/\T 14=(cR 14)/\T 18=tI/\T 110=(V.bool ((aDI||decide (jX.2.2≠(0:Int)))||decide (((dJ jX.1 oR).2.2.2)≠(0:Int))))/\H 1=zR/\H 3=yG/\H 7=xX/\H 8=zW/\H 12=aAt/\H 14=rX/\H 17=aAq/\True) ?_ ?_
  . 
   by_cases g9:(aDI||decide (jX.2.2≠(0:Int)))=true
   . 
    have g9x:=g9
    try simp only [Bool.and_eq_true,Bool.or_eq_true,Bool.not_eq_true',decide_eq_true_eq] at g9x
    refine bQ (gZ g9 J)<|bQ (gZ g9 J)<|bP (gZ g9 J) J ?_
    exact ⟨t4,t12,t14,t18,(uK g9),h1,h3,h7,h8,h12,h14,h17,trivial⟩
   . 
    have g9x:=g9
    try simp only [Bool.and_eq_true,Bool.or_eq_true,Bool.not_eq_true',decide_eq_true_eq] at g9x
    refine aK (hC g9 J)<|aI t20<|aK (hC g9 J)<|cA J J<|bO (hC g9 J) J ?_
    exact ⟨t4,t12,t14,t18,(uG g9),h1,h3,h7,h8,h12,h14,h17,trivial⟩
  intro T H ⟨t4,t12,t14,t18,t110,h1,h3,h7,h8,h12,h14,h17,_⟩;exact gD ⟨t4,t12,t14,t18,t110,h1,h3,h7,h8,h12,h14,h17,trivial⟩
 intro T H ⟨t4,t12,t14,t18,t110,h1,h3,h7,h8,h12,h14,h17,_⟩;refine dW t110 (λc10=>?_) (λc10=>?_)
 . exfalso; revert c10; decide+kernel
 refine aB<|aU<|aI t4<|aY J J<|aY J J<|aY J J<|aL (aAX mE.2.1<|[[0],[1]]) J<|aP ?_
 refine bN 6 (λT H=>T 14=(cR 14)/\T 18=tI/\T 122=(V.bool<|decide aFO)/\H 1=zR/\H 3=yG/\H 7=xX/\H 8=zW/\H 12=aAt/\H 14=rX/\H 17=aAq/\True) ?_ ?_
 . 
  by_cases g11:mE.2.1=([[0],[1]])
  . 
   refine aK (bU g11 J)<|cQ t12 h12<|aK (bU g11 J)<|cQ J h12<|aK (bU g11 J)<|bB J h12 J J<|aK (bU g11 J)<|bA J<|aK (bU g11 J)<|fP J J<|bP (bU g11 J) J ?_
   exact ⟨t14,t18,(eY g11),h1,h3,h7,h8,h12,h14,h17,trivial⟩
  . 
   refine bQ (bV g11 J)<|bQ (bV g11 J)<|bQ (bV g11 J)<|bQ (bV g11 J)<|bQ (bV g11 J)<|bO (bV g11 J) J ?_
   exact ⟨t14,t18,(eX g11),h1,h3,h7,h8,h12,h14,h17,trivial⟩
 intro T H ⟨t14,t18,t122,h1,h3,h7,h8,h12,h14,h17,_⟩;refine aI t122 ?_;refine bN 6 (λT H=>T 18=tI/\T 129=(V.bool<|decide (aFO/\(((jX.1.t.nd.length:Nat):Int)=(3:Int))))/\H 1=zR/\H 3=yG/\H 7=xX/\H 8=zW/\H 12=aAt/\H 14=rX/\H 17=aAq/\True) ?_ ?_
 . 
  by_cases g12:(mE.2.1=([[0],[1]]))/\(((((nW (pN (2:Int)) oR).m.nx).length:Nat):Int)=(1:Int))
  . 
   refine aK (bU g12 J)<|cQ t14 h14<|aK (bU g12 J)<|cQ J h14<|aK (bU g12 J)<|bB J h14 J J<|aK (bU g12 J)<|bA J<|aK (bU g12 J)<|fP J J<|bP (bU g12 J) J ?_
   exact ⟨t18,(eY g12),h1,h3,h7,h8,h12,h14,h17,trivial⟩
  . 
   refine bQ (bV g12 J)<|bQ (bV g12 J)<|bQ (bV g12 J)<|bQ (bV g12 J)<|bQ (bV g12 J)<|bO (bV g12 J) J ?_
   exact ⟨t18,(eX g12),h1,h3,h7,h8,h12,h14,h17,trivial⟩
 intro T H ⟨t18,t129,h1,h3,h7,h8,h12,h14,h17,_⟩;refine aI t129 ?_;refine bN 7 (λT H=>T 137=(V.bool<|decide ((aFO/\(((jX.1.t.nd.length:Nat):Int)=(3:Int)))/\(((dJ jX.1 oR).2.1)=([[1,1],[0,0,1],[0,1,1]]))))/\H 1=zR/\H 3=yG/\H 7=xX/\H 8=zW/\H 12=aAt/\H 14=rX/\H 17=aAq/\True) ?_ ?_
 . 
  by_cases g13:aFO/\(((jX.1.t.nd.length:Nat):Int)=(3:Int))
  . 
   refine aK (bU g13 J)<|aI t18<|aK (bU g13 J)<|aY J J<|aK (bU g13 J)<|aY J J<|aK (bU g13 J)<|aY J J<|aK (bU g13 J)<|aY J J<|aK (bU g13 J)<|aL (aAX ((dJ jX.1 oR).2.1)<|[[1,1],[0,0,1],[0,1,1]]) J<|bP (bU g13 J) J ?_
   exact ⟨(eY g13),h1,h3,h7,h8,h12,h14,h17,trivial⟩
  . 
   refine bQ (bV g13 J)<|bQ (bV g13 J)<|bQ (bV g13 J)<|bQ (bV g13 J)<|bQ (bV g13 J)<|bQ (bV g13 J)<|bO (bV g13 J) J ?_
   exact ⟨(eX g13),h1,h3,h7,h8,h12,h14,h17,trivial⟩
 intro T H ⟨t137,h1,h3,h7,h8,h12,h14,h17,_⟩;refine aI t137<|R_q ?_
 refine aW (aM<|V.bool<|decide ((aFO/\(((jX.1.t.nd.length:Nat):Int)=(3:Int)))/\(((dJ jX.1 oR).2.1)=([[1,1],[0,0,1],[0,1,1]]))))<|cK ?_
 . decide+kernel
theorem aKK (m:M) (w:List Int):bJ Tryz.prog 64 [(V.agg [(iV m.i),(iV m.s),(aC m.nx),(aC m.ot)]),(aD w)] (V.tup [(aD (gQ m m.s w)),(iV (wX m m.s w))]):=by
 refine' pK [] [] Tryz.func64 ?e λhB=>?_
 case e=>conv=>lhs; cbv
 dsimp only;refine aU<|cJ (i:=2) (n:=0) (m:=4) (cs:=[(iV m.i),(iV m.s),(aC m.nx),(aC m.ot)]) J (cM J) J J J<|aP<|aE<|aU<|bB J J J J<|aZ J J J J<|aP<|aL (aDo m m.s w) J<|aP<|bR J J<|bR J J<|bR J J<|aP ?_
 refine aP<|aE<|aU<|aP<|aP<|aP<|aE<|bE ?_
 refine lE (aM<|aD<|gQ m m.s w) (aM<|iV<|wX m m.s w) (dM ?_ (λ_=>by simp))<|aH ?_
 . rfl
 . rfl
theorem uM (t:Tr) (h1:t.ni.length<=1048576) (h2:t.no.length<=1048576):bJ Tryz.prog 190 [(V.agg [(aD t.ni),(aD t.no)])] (V.agg [(aD t.ni),(aD t.no)]):=by
 refine' pK [] [] Tryz.func190 ?e λhB=>?_
 case e=>conv=>lhs; cbv
 dsimp only;refine aU<|cJ (i:=1) (n:=0) (m:=2) (cs:=[(aD t.ni),(aD t.no)]) J (cM J) J J J<|bX (i:=2) (n:=0) (m:=2) J (cM J) J<|R_r<|aZ J J J J<|aL (kQ t.ni OM) J<|aZ J J J J<|aL (kQ t.no OM) J<|bZ J J<|dA J J J J J J J J J<|R_q ?_
 refine aK9 (cH (u:=(V.agg [(aD t.ni),(aD t.no)])) J (@J Blk<|bk 1 56 2 [[(aD t.ni),(aD t.no)]])<|lB oB J J)<|eA SI J
end
section
open Go Go.Proofs
attribute [local irreducible] aBa
theorem aO2 (l:List Tr) (v5 v9:Nat) (hb: ∀ k,k < l.length->(aA l k).ni.length<=1048576/\(aA l k).no.length<=1048576) (Hi:aT) (h205:(Hi 205).ver=v5) (h209:(Hi 209).ver=v9) (hl:l.length<=1000000):fH Tryz.prog 163 [(V.sl (List.map cT l))] Hi (V.ms 209 (v9+1+l.length) 0 l.length) (cU (cU Hi 205 (⟨v5+l.length,false,false,0,0,[]⟩:Blk)) 209 (bk (v9+1+l.length) 56 2 (List.map cT l))):=by
 refine' eK [] [] (k0:=200) Tryz.func163 ?e λhB=>?_
 case e=>conv=>lhs; cbv
 dsimp only;refine aU<|aE<|aU<|aP<|bA J<|cD J ?_
 refine (aAS (i:=209) (n:=v9) (m:=0) (q:=(l.length+1)) JR h209 (aM<|iV 0) (cS<|l.length+1) OM OM OM ?_);refine aE<|aO<|aP<|bA J<|aE (aF λQ1 n1 x1 y1 z1=>?_)
 refine cF (λmm T H=> ∃ (k:Nat),mm=l.length - k/\T 3=(V.ms 209 (v9+1+k) 0 k)/\T 10=(V.sl<|List.map cT l)/\T 11=(iV ((l.length:Nat):Int))/\T 12=(iV ((k:Nat):Int))/\(∀ j,j∉[205,209]->H j=Hi j)/\(H 205).ver=v5+k/\H 209=(bk (v9+1+k) 56 2<|List.map cT<|l.take k)/\(k<=l.length)) ?_ ?_
 . 
  refine ⟨_,0,J,(bG (aM<|V.ms 209 (v9+1) 0 0) JR),J,J,(bG (aM<|iV 0) J),(bD (λ_ _=>J) DE),h205,(bG (@J Blk<|bk (v9+1) 56 2<|List.replicate 0 [V.nilsl,V.nilsl]) JR),?_⟩
  . omega
 intro mm T H ⟨k,hmm,t3,t10,t11,t12,hF,h205,h209,hk⟩ Q2 p12 p22 p32;refine aU<|bY t12 t11<|cE ?_
 refine aG J (λc3=>?_) λc3=>?_
 . 
  refine aB (aF λQ4 n4 x4 y4 z4=>(aU<|dL (i:=k) t10 t12<|aJ J J<|bX (i:=205) (n:=(v5+k)) (m:=2) JR h205 J<|dA J J J J J J J J J<|cE<|fO<|aI t3<|bB J J J J<|aL (uM (aA l k) (hb k OM).1 (hb k OM).2) J<|aY J J<|gF (l:=(l.take k)) (f:=cT) (x:=(aA l k)) (aM<|V.ms 209 (v9+1+k) 0 k) h209 (by (rw [List.length_take]; omega)) (aM<|V.sl [[(aD<|(aA l k).ni),(aD<|(aA l k).no)]])<|aE ?_));refine n4 _ _ (.done (fO<|cD t12<|aE ?_));refine p12 _ _ _ ?_ ⟨(k+1),J,(bG (aM<|V.ms 209 (v9+1+k+1) 0<|k+1) JR),t10,t11,(bG (cS<|k+1) JR),(bD (bD (bD hF DE) DE) DE),(cM J),(bG (@J Blk<|bk (v9+1+k+1) 56 2<|List.map cT<|(l.take k)++[(aA l k)]) (by (rw [cV OM]; rfl))),?_⟩
  . omega
  . omega
 refine aS<|p32 _ _ _<|x1 _ _ (.done (aU<|aI t3<|aE<|bE<|fL (R:=λT H=>T 2=(V.ms 209 (v9+1+k) 0 k)/\(∀ j,j∉[205,209]->H j=Hi j)/\(H 205).ver=v5+k/\H 209=(bk (v9+1+k) 56 2<|List.map cT<|l.take k)/\True) ⟨(aM<|V.ms 209 (v9+1+k) 0 k),hF,h205,h209,trivial⟩ ?_))
 intro T H ⟨t2,hF,h205,h209,_⟩;have fh:=dK.fin<|dK.put (B:=(bk (v9+1+l.length) 56 2<|List.map cT l)) (dK.putv (n:=(v5+k)) (B:=(⟨v5+l.length,false,false,0,0,[]⟩:Blk)) (dK.start hF) h205 (by show _<=v5+l.length; omega) J) h209<|jN.up OM (by (have e:k=l.length:=OM; subst e; rw [List.take_length]; done))
 exact lU t2 fh<|fD.trans_eq (fD.ms (n:=(v9+1+l.length)) fh (by simp [h209]) (by simp [h209]) J J) (by (have e:k=l.length:=OM; subst e; rfl))
end
section
open Go Go.Proofs
theorem aFp (a:Int):bJ Tryz.prog 191 [(iV a)] (V.bool (decide (a < 0\/1048576 < a))):=by
 refine' pK [] [] Tryz.func191 ?e λhB=>?_
 case e=>conv=>lhs; cbv
 dsimp only;refine aU<|aE<|aU<|aP<|bY J J<|aP ?_
 refine bN 3 (λT H=>T 8=(V.bool<|decide ((a < (0:Int))\/((1048576:Int) < a)))/\True) ?_ ?_
 . 
  by_cases g1:a < (0:Int)
  . 
   refine bQ (bU g1 J)<|bQ (bU g1 J)<|bP (bU g1 J) J ?_
   exact ⟨(fB g1),trivial⟩
  . 
   refine aK (bV g1 J)<|aP<|aK (bV g1 J)<|fZ J J<|bO (bV g1 J) J ?_
   exact ⟨(fC g1),trivial⟩
 intro T H ⟨t8,_⟩;refine aI t8<|R_q ?_
 refine aW (aM<|V.bool<|decide ((a < (0:Int))\/((1048576:Int) < a)))<|cK ?_
 . first|rfl|omega|simp_all
theorem aF6 (t:Tr) (n:Int):bJ Tryz.prog 164 [(V.agg [(aD t.ni),(aD t.no)]),(iV n)] (iV (vY t n)):=by
 refine' pK [] [] Tryz.func164 ?e λhB=>?_
 case e=>conv=>lhs; cbv
 dsimp only;refine aU<|cJ (i:=2) (n:=0) (m:=2) (cs:=[(aD t.ni),(aD t.no)]) J (cM J) J J J<|aE<|aO<|aZ J J J J<|aP<|aL (gM t.ni n) J<|aE<|aO<|aP<|cA J J ?_
 refine cE ?_;refine aG J (λc1=>?_) λc1=>?_
 . 
  refine aO<|aP<|aE<|aN ?_
  refine aW (aM<|iV<|cP t.ni n)<|aH ?_
  . rw [vY,if_pos OM]
 refine aB (aF λQ2 n2 x2 y2 z2=>(aU<|aZ J J J J<|bA J<|aZ J J J J<|bA J<|cA J J<|aE ?_));refine gE J (λc3=>?_) λc3=>?_
 . 
  refine aU<|aE<|bE<|y2 _ _ ?_
  refine aW (aM<|iV 1)<|aH ?_
  . rw [vY,if_neg OM,if_pos OM]
 refine aU<|aZ J J J J<|aL (aAx (λa=>decide (a < 0\/1048576 < a)) t.no 191 ([]) SI SI (λk _=>aFp<|aA t.no k)) J<|aE ?_
 refine gE (p:=0<=fi (λjx=>(λa=>decide (a < 0\/1048576 < a)) (aA t.no jx)) 0 t.no.length) J (λc4=>?_) (λc4=>?_)
 . 
  refine aU<|aE<|bE<|y2 _ _ ?_
  refine aW (aM<|iV 2)<|aH ?_
  . have e:(0<=fi (λj=>(λa=>decide (a < 0\/1048576 < a)) (aA t.no j)) 0 t.no.length↔fe (tA t) 0 t.no.length=2)/\(fe (tA t) 0 t.no.length=0\/fe (tA t) 0 t.no.length=2):=aIe t t.no.length 0
    rw [vY,if_neg OM,if_neg OM]; omega
 refine dH<|n2 _ _ (.done (aU<|aE<|bE ?_))
 refine aW (aM<|iV 0)<|aH ?_
 . have e:(0<=fi (λj=>(λa=>decide (a < 0\/1048576 < a)) (aA t.no j)) 0 t.no.length↔fe (tA t) 0 t.no.length=2)/\(fe (tA t) 0 t.no.length=0\/fe (tA t) 0 t.no.length=2):=aIe t t.no.length 0
   rw [vY,if_neg OM,if_neg OM]; omega
theorem zV (a b:Tr) (ha:a.no.length=a.ni.length) (hb:b.no.length=b.ni.length):bJ Tryz.prog 192 [(V.agg [(aD a.ni),(aD a.no)]),(V.agg [(aD b.ni),(aD b.no)])] (iV (df a b)):=by
 refine' pK [] [] Tryz.func192 ?e λhB=>?_
 case e=>conv=>lhs; cbv
 dsimp only;refine aU<|cJ (i:=2) (n:=0) (m:=2) (cs:=[(aD a.ni),(aD a.no)]) J (cM J) J J J<|cJ (i:=3) (n:=0) (m:=2) (cs:=[(aD b.ni),(aD b.no)]) J (cM J) J J J<|aE<|aU<|aZ J J J J<|aZ J J J J ?_
 have q1:=kJ a.ni b.ni;have q2:=mJ a.ni b.ni;refine aL (uD a.ni b.ni) J<|aZ J J J J<|bA J<|aZ J J J J<|bA J<|aQH (m:=(gC a.ni b.ni)) (n:=a.no.length) (q:=b.no.length) J J J<|aE ?_
 have q3:=kJ a.ni b.ni;have q4:=mJ a.ni b.ni;refine aO<|aZ J J J J<|aP<|sE (n:=(min (min (gC a.ni b.ni) a.no.length) b.no.length)) (aM<|aD a.no) (cS<|min (min (gC a.ni b.ni) a.no.length) b.no.length) OM (λ_=>J)<|aZ J J J J<|aP<|sE (n:=(min (min (gC a.ni b.ni) a.no.length) b.no.length)) (aM<|aD b.no) (cS<|min (min (gC a.ni b.ni) a.no.length) b.no.length) OM (λ_=>J) ?_
 have q5:=kJ (List.take (min (min (gC a.ni b.ni) a.no.length) b.no.length) a.no)<|List.take (min (min (gC a.ni b.ni) a.no.length) b.no.length) b.no
 have q6:=mJ (List.take (min (min (gC a.ni b.ni) a.no.length) b.no.length) a.no)<|List.take (min (min (gC a.ni b.ni) a.no.length) b.no.length) b.no
 refine aL (uD (List.take (min (min (gC a.ni b.ni) a.no.length) b.no.length) a.no)<|List.take (min (min (gC a.ni b.ni) a.no.length) b.no.length) b.no) J<|aE ?_
 have q7:=kJ (List.take (min (min (gC a.ni b.ni) a.no.length) b.no.length) a.no)<|List.take (min (min (gC a.ni b.ni) a.no.length) b.no.length) b.no
 have q8:=mJ (List.take (min (min (gC a.ni b.ni) a.no.length) b.no.length) a.no)<|List.take (min (min (gC a.ni b.ni) a.no.length) b.no.length) b.no
 refine aO<|aP<|aP<|bY J J<|cE ?_
 refine aG J (λc9=>?_) λc9=>?_
 . 
  have d1:=c9;refine aO<|aP<|aE<|aN ?_
  refine aW (cS<|gC (List.take (min (min (gC a.ni b.ni) a.no.length) b.no.length) a.no)<|List.take (min (min (gC a.ni b.ni) a.no.length) b.no.length) b.no)<|aH ?_
  . have e:min (min (gC a.ni b.ni) a.no.length) b.no.length=gC a.ni b.ni:=OM
    rw [e] at d1 ⊢;rw [<- aIQ ha hb,if_pos OM]
 have d1:=c9;refine aB<|aU<|aE<|bE ?_
 refine aW (aM<|iV (-1))<|aH ?_
 . have e:min (min (gC a.ni b.ni) a.no.length) b.no.length=gC a.ni b.ni:=OM
   rw [e] at d1;rw [<- aIQ ha hb,if_neg OM]
theorem aDh (u t:Tr):bJ Tryz.prog 194 [(V.agg [(aD u.ni),(aD u.no)]),(V.pp [(aD t.ni),(aD t.no)])] (V.bool (hp t.ni u.ni)):=by
 refine' pK [] [] Tryz.func194 ?e λhB=>?_
 case e=>conv=>lhs; cbv
 dsimp only;refine aU<|cJ (i:=2) (n:=0) (m:=2) (cs:=[(aD u.ni),(aD u.no)]) J (cM J) J J J<|aE<|aU<|dY (cs':=[(aD t.ni),(aD t.no)]) J J<|aJ J J<|aZ J J J J<|aL (zU t.ni u.ni) J<|aE<|bE ?_
 refine aW (aM<|V.bool<|hp t.ni u.ni)<|eA SI J
theorem aPK (l:List Tr) (t:Tr) (v9 v3 v7:Nat) (Hi:aT) (h209:Hi 209=(bk v9 56 2 (List.map cT l))) (h303:Hi 303=(bk v3 56 2 [[(aD t.ni),(aD t.no)]])) (h407:(Hi 407).ver=v7) (hl:l.length<=1000000):fH Tryz.prog 193 [(V.ms 209 v9 0 l.length),(V.fn 194 [] [(V.mp 303 v3 0 0)])] Hi (V.ms 209 v9 0 ((l.filter (kp t)).length)) (cU (cU Hi 407 (⟨v7+l.length,false,false,0,0,[]⟩:Blk)) 209 (bk v9 56 2 (List.map cT (l.filter (kp t))++List.replicate (l.length - (l.filter (kp t)).length) [V.nilsl,V.nilsl]))):=by
 refine' eK [] [] (k0:=400) Tryz.func193 ?e λhB=>?_
 case e=>conv=>lhs; cbv
 dsimp only;refine aU<|aE<|aU<|aP<|aP<|kS (bI (aM<|V.ms 209 v9 0 l.length)<|bI (aM<|V.fn 194 [] [(V.mp 303 v3 0 0)]) dR) (aDE (λu:Tr=>hp t.ni u.ni) l 194 ([(V.pp [(aD t.ni),(aD t.no)])]) SI SI (λj _=>aDh (aA l j) t)) (cO (wW h209 SI (uJ (l:=l) JR) (λ_=>by simp))<|cO (aEz h303 (by simp [-List.map_take,-List.map_drop,-List.map_append,-List.map_reverse])) J) (by simp [-List.map_take,-List.map_drop,-List.map_append,-List.map_reverse]) (Or.inr J)<|aE<|aO<|aP<|fP J J<|cE ?_
 refine aG (p:=(fi (λjx=>(λu:Tr=>hp t.ni u.ni) (aA l jx)) 0 l.length)=(-1:Int)) J (λc1=>?_) (λc1=>?_)
 . 
  have d0:fi (λj=>(λu:Tr=>hp t.ni u.ni) (aA l j)) 0 l.length < 0:=OM
  refine aO<|aP<|aE<|aN<|fL (R:=λT H=>T 4=(V.ms 209 v9 0 l.length)/\(∀ j,j∉[407,209]->H j=Hi j)/\H 209=(bk v9 56 2<|List.map cT l)/\H 303=(bk v3 56 2 [[(aD t.ni),(aD t.no)]])/\(H 407).ver=v7/\True) ⟨(aM<|V.ms 209 v9 0 l.length),(λ_ _=>J),h209,h303,h407,trivial⟩ ?_
  intro T H ⟨t4,hF,h209,h303,h407,_⟩;have fh:=dK.fin<|dK.put (B:=(bk v9 56 2<|List.map cT (l.filter<|kp t)++List.replicate (l.length - (l.filter<|kp t).length) [V.nilsl,V.nilsl])) (dK.putv (n:=v7) (B:=(⟨v7+l.length,false,false,0,0,[]⟩:Blk)) (dK.start hF) h407 (by show _<=v7+l.length; omega) J) h209<|jN.eq (by (rw [aIW d0]; simp; done))
  exact lU t4 fh<|fD.trans_eq (fD.same fh _) (by (rw [aIW d0]; done))
 obtain ⟨i0,d1,d2,d3,d4⟩:=aLm (t:=t) (l:=l) (by have:=aEj (p:=λj=>(λu:Tr=>hp t.ni u.ni) (aA l j)) l.length 0; omega);have d6:fi (λjx=>hp t.ni (aA l jx).ni) 0 l.length=i0:=d1;refine aB<|aO<|aP<|aM7 J J OM OM<|aE (aF λQ2 n2 x2 y2 z2=>?_)
 refine cF (λmm T H=> ∃ (k:Nat) (v407:Nat),mm=l.length - k/\T 0=(V.ms 209 v9 0 l.length)/\T 1=(V.fn 194 [] [(V.mp 303 v3 0 0)])/\T 5=(iV (((rI t l k).length:Nat):Int))/\T 6=(iV ((k:Nat):Int))/\(∀ j,j∉[407,209]->H j=Hi j)/\H 209=(bk v9 56 2<|List.map cT<|xV t l k)/\H 303=(bk v3 56 2 [[(aD t.ni),(aD t.no)]])/\(H 407).ver=v407/\(k<=l.length)/\((rI t l k).length < k)/\(v407<=v7+k)) ?_ ?_
 . 
  refine ⟨_,i0+1,v7,J,J,J,(bG (aM<|iV<|fi (λjx=>(λu:Tr=>hp t.ni u.ni) (aA l jx)) 0 l.length) (by (rw [d3]; exact congrArg (V.int .i64) (by first|rfl|omega)))),(bG (aM<|iV<|(fi (λjx=>(λu:Tr=>hp t.ni u.ni) (aA l jx)) 0 l.length)+(1:Int)) (by (exact congrArg (V.int .i64) OM))),(λ_ _=>J),(bG h209 (by (rw [d4]; done))),h303,h407,?_,?_,?_⟩
  . omega
  . omega
  . omega
 intro mm T H ⟨k,v407,hmm,t0,t1,t5,t6,hF,h209,h303,h407,hk,hlt,hv⟩ Q3 p13 p23 p33;have q1:=aOZ t l k;refine aO<|aI t6<|aI t0<|eS J h209 SI<|bY J J<|cE ?_
 refine aG J (λc4=>?_) λc4=>?_
 . 
  refine aB (aF λQ5 n5 x5 y5 z5=>(aU<|aI t0<|aI t6<|pE (i:=k) (aM<|V.ms 209 v9 0 l.length) (cS k) h209 oB J OM<|cG (v:=(V.agg [(aD<|(aA (xV t l k)<|0+k).ni),(aD<|(aA (xV t l k)<|0+k).no)])) J h209 (dU OM JR)<|bX (i:=407) (n:=v407) (m:=2) JR h407 J<|dA J J J J J J J J J<|R_r<|aI t1<|bB J J J J<|iP (aM<|V.fn 194 [] [(V.mp 303 v3 0 0)]) (bI (aM<|V.agg [(aD<|(aA (xV t l k)<|0+k).ni),(aD<|(aA (xV t l k)<|0+k).no)]) dR) (aDh (aA (xV t l k)<|0+k) t) (cO (dN 6 _ (by simp [-List.map_take,-List.map_drop,-List.map_append,-List.map_reverse]))<|cO (by simp [fR,Blk.own,h209,h303]) J) (by simp [-List.map_take,-List.map_drop,-List.map_append,-List.map_reverse]) (Or.inr J)<|jS J<|cE ?_));refine pS J (λc6=>?_) (λc6=>?_)
  . 
   have d5:kp t (aA l k)=true:=by unfold kp; rw [Nat.zero_add,aFa] at c6; simpa using c6
   refine aU<|aI t0<|aI t5<|bB J J J J<|pE (i:=((rI t l k).length)) (aM<|V.ms 209 v9 0 l.length) (cS<|(rI t l k).length) h209 oB J OM<|cZ (vs:=[(aD<|(aA (xV t l k)<|0+k).ni),(aD<|(aA (xV t l k)<|0+k).no)]) (B':=(bk v9 56 2<|List.map cT<|(xV t l k).set ((rI t l k).length) (aA (xV t l k)<|0+k))) (bG J<|congrArg (λn=>V.mp 209 v9 n 0)<|Nat.zero_add _) J J h209 (jM (x:=(aA (xV t l k)<|0+k)) (i:=((rI t l k).length)) OM J J J J)<|cE<|fO<|aI t5<|cD J<|aE<|n5 _ _ (.done (fO<|aI t6 ?_))
   refine cD J<|aE ?_
   refine p13 _ _ _ ?_ ⟨k+1,(v407+1),J,t0,t1,(bG (cS<|((rI t l k).length)+1) (by (rw [yU OM d5,List.length_append]; rfl))),(bG (cS<|k+1) JR),(bD (bD (bD hF DE) DE) DE),(bG (@J Blk<|bk v9 56 2<|List.map cT<|(xV t l k).set ((rI t l k).length) (aA (xV t l k)<|0+k)) (by (rw [Nat.zero_add,aFa,aLE OM d5]; done))),h303,(cM J),?_,?_,?_⟩
   . omega
   . omega
   . first|(rw [yU OM d5,List.length_append]; simp; omega)|(rw [uP OM d5]; omega)
   . omega
  have d5: ¬kp t (aA l k)=true:=by unfold kp; rw [Nat.zero_add,aFa] at c6; simpa using c6
  refine dH<|n5 _ _ (.done (fO<|aI t6<|cD J<|aE ?_))
  refine p13 _ _ _ ?_ ⟨k+1,(v407+1),J,t0,t1,(bG t5 (by (rw [uP OM d5]; done))),(bG (cS<|k+1) JR),(bD (bD hF DE) DE),(bG h209 (by (rw [aMx OM d5]; done))),h303,(cM J),?_,?_,?_⟩
  . omega
  . omega
  . first|(rw [yU OM d5,List.length_append]; simp; omega)|(rw [uP OM d5]; omega)
  . omega
 refine aS<|p33 _ _ _<|x2 _ _ (.done (aU<|aI t0<|aI t5<|kL (n:=((rI t l k).length)) (aM<|V.ms 209 v9 0 l.length) (cS<|(rI t l k).length) h209 oB J OM<|aMA (m:=((rI t l k).length)) (n:=(l.length - ((rI t l k).length))) (f:=cT) (l:=(xV t l k)) (bG (aM<|V.ms 209 v9 (0+((rI t l k).length))<|l.length - ((rI t l k).length))<|congrArg (λn=>V.ms 209 v9 n<|l.length - ((rI t l k).length))<|Nat.zero_add _) h209 J DE J OM OM<|R_r<|aI t0<|aI t5<|qU (n:=((rI t l k).length)) (aM<|V.ms 209 v9 0 l.length) (cS<|(rI t l k).length) (@J Blk<|bk v9 56 2<|List.map cT (List.take ((rI t l k).length)<|xV t l k)++List.replicate (l.length - ((rI t l k).length)) [V.nilsl,V.nilsl]) oB J OM<|aE ?_))
 refine bE<|fL (R:=λT H=>T 4=(V.ms 209 v9 0<|(rI t l k).length)/\(∀ j,j∉[407,209]->H j=Hi j)/\H 209=(bk v9 56 2<|List.map cT (List.take ((rI t l k).length)<|xV t l k)++List.replicate (l.length - ((rI t l k).length)) [V.nilsl,V.nilsl])/\H 303=(bk v3 56 2 [[(aD t.ni),(aD t.no)]])/\(H 407).ver=v407/\True) ⟨(aM<|V.ms 209 v9 0<|(rI t l k).length),(bD hF DE),J,h303,h407,trivial⟩ ?_
 intro T H ⟨t4,hF,h209,h303,h407,_⟩;have fh:=dK.fin<|dK.put (B:=(bk v9 56 2<|List.map cT (l.filter<|kp t)++List.replicate (l.length - (l.filter<|kp t).length) [V.nilsl,V.nilsl])) (dK.putv (n:=v407) (B:=(⟨v7+l.length,false,false,0,0,[]⟩:Blk)) (dK.start hF) h407 (by show _<=v7+l.length; omega) J) h209<|jN.eq (by (have e:k=l.length:=OM; subst e; unfold xV rI; rw [List.take_length,List.take_left]; done))
 exact lU t4 fh<|fD.trans_eq (fD.same fh _) (by (have e:k=l.length:=OM; subst e; unfold rI; rw [List.take_length]; done))
theorem aBE (a b:Tr):bJ Tryz.prog 196 [(V.agg [(aD a.ni),(aD a.no)]),(V.agg [(aD b.ni),(aD b.no)])] (iV (fV a.ni b.ni)):=by
 refine' pK [] [] Tryz.func196 ?e λhB=>?_
 case e=>conv=>lhs; cbv
 dsimp only;refine aU<|cJ (i:=2) (n:=0) (m:=2) (cs:=[(aD a.ni),(aD a.no)]) J (cM J) J J J<|cJ (i:=3) (n:=0) (m:=2) (cs:=[(aD b.ni),(aD b.no)]) J (cM J) J J J<|aE<|aU<|aZ J J J J<|aZ J J J J<|aL (sN a.ni b.ni) J<|aE<|bE ?_
 refine aW (aM<|iV<|fV a.ni b.ni)<|eA SI J
theorem aIX (l:List Tr) (t:Tr) (hs:Srt l) (hl:l.length<=1000000):bJ Tryz.prog 195 [(V.sl (List.map cT l)),(V.agg [(aD t.ni),(aD t.no)]),(V.fn 196 [] [])] (V.tup [(iV ((lbN l t:Nat):Int)),(V.bool (decide (lbN l t < l.length/\fV (aA l (lbN l t)).ni t.ni=0)))]):=by
 refine' pK [] [] Tryz.func195 ?e λhB=>?_
 case e=>conv=>lhs; cbv
 dsimp only;have q0:=aLN (t:=t) l;refine aU<|cJ (i:=4) (n:=0) (m:=2) (cs:=[(aD t.ni),(aD t.no)]) J (cM J) J J J<|aP<|aE<|aU<|aP<|bA J<|aE<|aU<|aP<|aP<|aE (aF λQ1 n1 x1 y1 z1=>?_)
 refine cF (λmm T H=> ∃ (i:Nat) (j:Nat),mm=j - i/\T 0=(V.sl<|List.map cT l)/\T 2=(V.fn 196 [] [])/\T 4=(cR 4)/\T 8=(iV ((l.length:Nat):Int))/\T 9=(iV ((i:Nat):Int))/\T 10=(iV ((j:Nat):Int))/\H 4=(bk 1 56 2 [[(aD t.ni),(aD t.no)]])/\(i<=lbN l t)/\(lbN l t<=j)/\(j<=l.length)) ?_ ?_
 . 
  refine ⟨_,0,l.length,J,J,J,J,J,(bG (aM<|iV 0) J),J,J,?_,?_,?_⟩
  . omega
  . omega
  . omega
 intro mm T H ⟨i,j,hmm,t0,t2,t4,t8,t9,t10,h4,h1,h2,h3⟩ Q2 p12 p22 p32;refine aO<|aI t9<|aI t10<|bY J J<|cE ?_
 refine aG J (λc3=>?_) λc3=>?_
 . 
  refine aB (iZ λQ4 n4 x4 y4 z4=>(aU<|aI t9<|aI t10<|wU J J OM<|aJv (n:=(i+j)) (cS<|i+j) OM<|aNb (n:=(i+j)) J J<|aI5 (n:=((i+j) / 2)) (aM<|V.int .u64 (((i+j) / 2:Nat):Int)) OM<|aE<|aU<|aI t2<|aI t0<|aP<|dL (i:=((i+j) / 2)) (aM<|V.sl<|List.map cT l) (cS<|(i+j) / 2) ?_));refine aJ J J<|bB t4 h4 J J<|iP (aM<|V.fn 196 [] []) (bI (aM<|V.agg [(aD<|(aA l<|(i+j) / 2).ni),(aD<|(aA l<|(i+j) / 2).no)])<|bI (aM<|V.agg [(aD t.ni),(aD t.no)]) dR) (aBE (aA l<|(i+j) / 2) t) (eD _ _ (by simp [-List.map_take,-List.map_drop,-List.map_append,-List.map_reverse])) (by simp [-List.map_take,-List.map_drop,-List.map_append,-List.map_reverse]) (Or.inl (by simp [-List.map_take,-List.map_drop,-List.map_append,-List.map_reverse]))<|bY J J<|cE ?_
  refine gE J (λc5=>?_) λc5=>?_
  . 
   have d1:=(aHL hs OM).1 c5;refine fO<|aP<|cD J<|aE<|n4 _ _ ?_
   refine p12 _ _ _ ?_ ⟨(((i+j) / 2)+1),j,J,t0,t2,t4,t8,(bG (cS<|((i+j) / 2)+1) JR),t10,h4,?_,?_,?_⟩
   . omega
   . omega
   . omega
   . omega
  have d1: ¬((i+j) / 2 < lbN l t):=λe=>c5<|(aHL hs OM).2 e
  refine fO<|aP<|aE<|n4 _ _ ?_
  refine p12 _ _ _ ?_ ⟨i,((i+j) / 2),J,t0,t2,t4,t8,t9,(bG (cS<|(i+j) / 2) JR),h4,?_,?_,?_⟩
  . omega
  . omega
  . omega
  . omega
 refine aS<|p32 _ _ _<|x1 _ _ (.done (aU<|aI t9<|aI t9<|aI t8<|bY J J<|aP ?_))
 refine bN 9 (λT H=>T 35=(iV ((i:Nat):Int))/\T 48=(V.bool<|decide ((((i:Nat):Int) < ((l.length:Nat):Int))/\((fV (aA l i).ni t.ni)=(0:Int))))/\H 4=(bk 1 56 2 [[(aD t.ni),(aD t.no)]])/\True) ?_ ?_
 . 
  by_cases g6:((i:Nat):Int) < ((l.length:Nat):Int)
  . 
   refine aK (bU g6 J)<|aI t2<|aK (bU g6 J)<|aI t0<|aK (bU g6 J)<|aI t9<|aK (bU g6 J)<|dL (i:=i) (aM<|V.sl<|List.map cT l) (cS i)<|aK (bU g6 J)<|aJ J J<|aK (bU g6 J)<|bB t4 h4 J J<|aK (bU g6 J)<|iP (aM<|V.fn 196 [] []) (bI (aM<|V.agg [(aD<|(aA l i).ni),(aD<|(aA l i).no)])<|bI (aM<|V.agg [(aD t.ni),(aD t.no)]) dR) (aBE (aA l i) t) (eD _ _ (by simp [-List.map_take,-List.map_drop,-List.map_append,-List.map_reverse])) (by simp [-List.map_take,-List.map_drop,-List.map_append,-List.map_reverse]) (Or.inl (by simp [-List.map_take,-List.map_drop,-List.map_append,-List.map_reverse]))<|aK (bU g6 J)<|fP J J ?_
   refine bP (bU g6 J) J ?_;exact ⟨J,(eY g6),h4,trivial⟩
  . 
   refine bQ (bV g6 J)<|bQ (bV g6 J)<|bQ (bV g6 J)<|bQ (bV g6 J)<|bQ (bV g6 J)<|bQ (bV g6 J)<|bQ (bV g6 J)<|bQ (bV g6 J)<|bO (bV g6 J) J ?_
   exact ⟨J,(eX g6),h4,trivial⟩
 intro T H ⟨t35,t48,h4,_⟩;refine aI t35<|aI t48<|R_q ?_
 refine lE (cS i) (aM<|V.bool<|decide ((((i:Nat):Int) < ((l.length:Nat):Int))/\((fV (aA l i).ni t.ni)=(0:Int)))) (aH ?_)<|cK ?_
 . have e:i=lbN l t:=OM
   rw [e]
 . have e:i=lbN l t:=OM
   rw [e]; exact decide_eq_decide.2 OM
end
section
open Go Go.Proofs Go.Shelf
def aKr:Go.Shelf.Ren:=⟨fun|22=>197|29=>211|30=>212|n=>n,fun|24=>29|9=>56|n=>n,λn=>n⟩
theorem aKJ:InsLay Tryz.prog aKr Tryz.f197.name 2 48 (.agg #[.slice none 0 0,.slice none 0 0]):={
  mixed:=by kernel_rfl
  f22:=Tryz.func197.trans<|congrArg some (by kernel_rfl)
  ov:=λargs w=>run_callFunc_extern Tryz.func211 (by kernel_rfl) (by kernel_rfl) (by kernel_rfl) (by kernel_rfl) args w
  t0:=Tryz.underlying0,a0:=Tryz.isAgg0,z0:=Tryz.sizeOf0,v0:=Tryz.zeroValue0
  t3:=Tryz.underlying3,a3:=Tryz.isAgg3,z3:=Tryz.sizeOf3,v3:=Tryz.zeroValue3
  t4:=Tryz.underlying4,a4:=Tryz.isAgg4,z4:=Tryz.sizeOf4,v4:=Tryz.zeroValue4
  z9:=Tryz.sizeOf56
  t24:=Tryz.underlying29,a24:=Tryz.isAgg29,z24:=Tryz.sizeOf29,v24:=Tryz.zeroValue29
  i9:=by kernel_rfl
  hk:=DE
  hz:=by kernel_rfl}
theorem aHG:fS Tryz.prog 197:=⟨_,Tryz.func197,by kernel_rfl,by kernel_rfl⟩
end
section
open Go Go.Proofs
theorem aDF {F:List Tr} {t:Tr} {v9 v54 ty2:Nat} {H:aT} (r:List (List V)) (h209:H 209=⟨v9,true,false,56,2,List.map cT F++r⟩) (h354:H 354=⟨v54,true,false,ty2,2,[cT t]⟩) (hl:F.length<=100000) (hs:Srt F):
    fH Tryz.prog 197 [.ms 209 v9 0 F.length,iV ((lbN F t:Nat):Int),.ms 354 v54 0 1] H (.ms 209 (v9+2) 0 (F.length+1)) (cU H 209 ⟨v9+2,true,false,56,2,List.map cT (ins F t)⟩):=by
  have hf: ∀ l:List Tr,eV 2 (List.map cT l)=true:=λl=>by
    simp only [eV,List.all_eq_true];intro r hr;obtain ⟨x,_,rfl⟩:=List.mem_map.1 hr
    rfl
  have e:(List.map cT F++r).take F.length=List.map cT F:=uW J;have:=wK (zz:=[.nilsl,.nilsl]) (row:=cT t) (i:=lbN F t) (n:=F.length) aKJ aHG (by kernel_rfl) J (lz:=false) J h209 h354 DE SI (aLN F) (by rw [e]; exact hf F) (hf [t]) OM OM;rw [e] at this;rw [<- aQD hs,List.map_append,List.map_cons,List.map_take,List.map_drop];exact this
theorem aL1 (l:List Tr) (t:Tr) (i:Int) (v9 v3 v8 v54 v7:Nat) (ho:OK ⟨i,l⟩) (hpt:vY t i=0) (he:nJ l t=0) (Hi:aT) (h209:Hi 209=(bk v9 56 2 (List.map cT l))) (h303:(Hi 303).ver=v3) (h308:(Hi 308).ver=v8) (h354:(Hi 354).ver=v54) (h407:(Hi 407).ver=v7):fH Tryz.prog 165 [(V.ms 209 v9 0 l.length),(V.agg [(aD t.ni),(aD t.no)])] Hi (V.tup [(V.ms 209 (v9+2) 0 ((lH l t).length)),(iV (nJ l t))]) (cU (cU (cU (cU (cU Hi 303 (⟨v3+1,false,false,0,0,[]⟩:Blk)) 308 (⟨v8+l.length,false,false,0,0,[]⟩:Blk)) 354 (⟨v54+1,false,false,0,0,[]⟩:Blk)) 407 (⟨v7+l.length,false,false,0,0,[]⟩:Blk)) 209 (bk (v9+2) 56 2 (List.map cT (lH l t)))):=by
 refine' eK [54] [] (k0:=300) Tryz.func165 ?e λhB=>?_
 case e=>conv=>lhs; cbv
 have hl:l.length<=10000:=ho.len;have hp1:=aCn hpt;have hp2:=hp1.len;have hp3:=hp1.lel;have hpl: ∀ k,k < l.length->(aA l k).no.length=(aA l k).ni.length:=λk hk=>((ho.pr k hk).1.len)
 have hfl:=List.length_filter_le (kp t) l;have hsr:Srt (l.filter<|kp t):=aCG ho.srt _;dsimp only;refine aU<|cJ (i:=303) (n:=v3) (m:=2) (cs:=[(aD t.ni),(aD t.no)]) JR h303 J J J<|aP<|aE<|aU<|aE<|aO<|aP<|eS J h209 SI<|aE (aF λQ1 n1 x1 y1 z1=>?_)
 refine cF (λmm T H=> ∃ (k:Nat) (v308:Nat),mm=l.length - k/\T 0=(V.ms 209 v9 0 l.length)/\T 3=(V.mp 303 (v3+1) 0 0)/\T 6=(V.bool<|vK (inP l t) 0 k)/\T 11=(V.ms 209 v9 0 l.length)/\T 12=(iV ((l.length:Nat):Int))/\T 13=(iV ((k:Nat):Int))/\(∀ j,j∉[303,308,354,407,209]->H j=Hi j)/\H 209=(bk v9 56 2<|List.map cT l)/\H 303=(bk (v3+1) 56 2 [[(aD t.ni),(aD t.no)]])/\(H 308).ver=v308/\(H 354).ver=v54/\(H 407).ver=v7/\(k<=l.length)/\(v308<=v8+k)/\(fi (ndP l t) 0 l.length=fi (ndP l t) k (l.length - k))) ?_ ?_
 . 
  refine ⟨_,0,v8,J,J,J,(bG (aM<|V.bool false) JR),J,J,(bG (aM<|iV 0) J),(bD (λ_ _=>J) DE),h209,J,h308,h354,h407,?_,?_,?_⟩
  . omega
  . omega
  . rfl
 intro mm T H ⟨k,v308,hmm,t0,t3,t6,t11,t12,t13,hF,h209,h303,h308,h354,h407,hk,hv8,hc⟩ Q2 p12 p22 p32;refine aU<|bY t13 t12<|cE ?_
 refine aG J (λc3=>?_) λc3=>?_
 . 
  refine aB (aF λQ4 n4 x4 y4 z4=>(aU<|dG (i:=k) t11 t13 h209 oB J OM<|cG (v:=(V.agg [(aD<|(aA l k).ni),(aD<|(aA l k).no)])) J h209 (dU OM JR)<|bX (i:=308) (n:=v308) (m:=2) JR h308 J<|dA J J J J J J J J J<|zL<|aU<|bB J J J J<|bB t3 h303 J J<|aL (zV (aA l k) t (hpl k OM) hp1.len) J<|jB J J<|cE ?_));refine aG J (λc5=>?_) λc5=>?_
  . 
   have d1:ndP l t k=true:=decide_eq_true c5;refine aO<|aP<|aE<|aN<|y4 _ _<|p22 _ _<|y1 _ _<|fL (R:=λT H=>T 4=V.nilsl/\T 5=(iV 13)/\(∀ j,j∉[303,308,354,407,209]->H j=Hi j)/\H 209=(bk v9 56 2<|List.map cT l)/\H 303=(bk (v3+1) 56 2 [[(aD t.ni),(aD t.no)]])/\H 308=(bk (v308+1) 56 2 [[(aD<|(aA l k).ni),(aD<|(aA l k).no)]])/\(H 354).ver=v54/\(H 407).ver=v7/\True) ⟨(aM V.nilsl),(aM<|iV 13),(bD (bD hF DE) DE),h209,h303,J,h354,h407,trivial⟩ ?_
   intro T H ⟨t4,t5,hF,h209,h303,h308,h354,h407,_⟩;exfalso; unfold nJ at he; rw [if_pos (by rw [hc,qZ d1 OM]; omega)] at he; cases he
  have d1:ndP l t k=false:=decide_eq_false c5;refine aB<|fO<|aI t6<|aP ?_
  refine bN 6 (λT H=>T 0=(V.ms 209 v9 0 l.length)/\T 3=(V.mp 303 (v3+1) 0 0)/\T 6=(V.bool<|vK (inP l t) 0 k)/\T 11=(V.ms 209 v9 0 l.length)/\T 12=(iV ((l.length:Nat):Int))/\T 13=(iV ((k:Nat):Int))/\T 28=(V.bool ((vK (inP l t) 0 k)||(hp ((aA l k).ni) t.ni)))/\(∀ j,j∉[303,308,354,407,209]->H j=Hi j)/\H 209=(bk v9 56 2<|List.map cT l)/\H 303=(bk (v3+1) 56 2 [[(aD t.ni),(aD t.no)]])/\H 308=(bk (v308+1) 56 2 [[(aD<|(aA l k).ni),(aD<|(aA l k).no)]])/\(H 354).ver=v54/\(H 407).ver=v7/\True) ?_ ?_
  . 
   by_cases g6:(vK (inP l t) 0 k)=true
   . 
    refine bQ (gZ g6 J)<|bQ (gZ g6 J)<|bQ (gZ g6 J)<|bQ (gZ g6 J)<|bQ (gZ g6 J)<|bP (gZ g6 J) J ?_
    exact ⟨t0,t3,t6,t11,t12,t13,(uK g6),(bD (bD hF DE) DE),h209,h303,J,h354,h407,trivial⟩
   . 
    refine aK (hC g6 J)<|cQ J J<|aK (hC g6 J)<|bB J J J J<|aK (hC g6 J)<|cQ t3 h303<|aK (hC g6 J)<|bB J h303 J J<|aK (hC g6 J)<|aL (zU ((aA l k).ni) t.ni) J<|bO (hC g6 J) J ?_
    exact ⟨t0,t3,t6,t11,t12,t13,(uG g6),(bD (bD hF DE) DE),h209,h303,J,h354,h407,trivial⟩
  intro T H ⟨t0,t3,t6,t11,t12,t13,t28,hF,h209,h303,h308,h354,h407,_⟩;refine aI t28<|cE<|n4 _ _ (.done (fO<|cD t13<|aE ?_))
  refine p12 _ _ _ ?_ ⟨(k+1),(v308+1),J,t0,t3,(bG (aM<|V.bool ((vK (inP l t) 0 k)||(hp ((aA l k).ni) t.ni))) (by (simp only [vK,inP,Nat.zero_add]; done))),t11,t12,(bG (cS<|k+1) JR),hF,h209,h303,(cM h308),h354,h407,?_,?_,?_⟩
  . omega
  . omega
  . omega
  . rw [hc,mX d1 OM]
 refine aS<|p32 _ _ _<|x1 _ _ (.done (aO<|aI t6<|aP ?_))
 refine bN 5 (λT H=>T 0=(V.ms 209 v9 0 l.length)/\T 3=(V.mp 303 (v3+1) 0 0)/\T 36=(V.bool ((vK (inP l t) 0 k)||decide (((t.ni.length:Nat):Int)=(0:Int))))/\(∀ j,j∉[303,308,354,407,209]->H j=Hi j)/\H 209=(bk v9 56 2<|List.map cT l)/\H 303=(bk (v3+1) 56 2 [[(aD t.ni),(aD t.no)]])/\(H 308).ver=v308/\(H 354).ver=v54/\(H 407).ver=v7/\True) ?_ ?_
 . 
  by_cases g7:(vK (inP l t) 0 k)=true
  . 
   refine bQ (gZ g7 J)<|bQ (gZ g7 J)<|bQ (gZ g7 J)<|bQ (gZ g7 J)<|bP (gZ g7 J) J ?_
   exact ⟨t0,t3,(uK g7),hF,h209,h303,h308,h354,h407,trivial⟩
  . 
   refine aK (hC g7 J)<|cQ t3 h303<|aK (hC g7 J)<|bB J h303 J J<|aK (hC g7 J)<|bA J<|aK (hC g7 J)<|fP J J<|bO (hC g7 J) J ?_
   exact ⟨t0,t3,(uG g7),hF,h209,h303,h308,h354,h407,trivial⟩
 intro T H ⟨t0,t3,t36,hF,h209,h303,h308,h354,h407,_⟩;refine cE ?_;refine dW t36 (λc8=>?_) (λc8=>?_)
 . 
  have d2:inL l t:=by have q:=c8; rw [show k=l.length by omega] at q; simpa [inL] using q
  refine aO<|aI t0<|aP<|aE<|aN<|fL (R:=λT H=>T 4=(V.ms 209 v9 0 l.length)/\T 5=(iV 0)/\(∀ j,j∉[303,308,354,407,209]->H j=Hi j)/\H 209=(bk v9 56 2<|List.map cT l)/\H 303=(bk (v3+1) 56 2 [[(aD t.ni),(aD t.no)]])/\(H 308).ver=v308/\(H 354).ver=v54/\(H 407).ver=v7/\True) ⟨(aM<|V.ms 209 v9 0 l.length),(aM<|iV 0),hF,h209,h303,h308,h354,h407,trivial⟩ ?_
  intro T H ⟨t4,t5,hF,h209,h303,h308,h354,h407,_⟩;skip;have fh:=dK.fin<|dK.put (B:=(bk (v9+2) 56 2<|List.map cT<|lH l t)) (dK.putv (n:=v7) (B:=(⟨v7+l.length,false,false,0,0,[]⟩:Blk)) (dK.putv (n:=v54) (B:=(⟨v54+1,false,false,0,0,[]⟩:Blk)) (dK.putv (n:=v308) (B:=(⟨v8+l.length,false,false,0,0,[]⟩:Blk)) (dK.putv (n:=(v3+1)) (B:=(⟨v3+1,false,false,0,0,[]⟩:Blk)) (dK.start hF) (cM h303) (by show _<=v3+1; omega) J) h308 (by show _<=v8+l.length; omega) J) h354 (by show _<=v54+1; omega) J) h407 (by show _<=v7+l.length; omega) J) h209<|jN.up OM (by (rw [lH,if_pos d2]; done))
  exact aEU t4 t5 fh (fD.trans_eq (fD.ms (n:=(v9+2)) fh (by simp [h209]) (by simp [h209]) J J) (by (rw [lH,if_pos d2]; done)))<|fD.trans_eq (fD.same fh _) (by (rw [he]; done))
 have d2: ¬inL l t:=by have q:=c8; rw [show k=l.length by omega] at q; simpa [inL] using q
 refine aB<|aU<|aI t0<|zX (bI t3 dR)<|gO (bI J<|bI J dR) (aPK l t v9 (v3+1) v7 _ h209 h303 h407 OM)<|aE<|aO<|aP<|eS J (@J Blk<|bk v9 56 2<|List.map cT (l.filter<|kp t)++List.replicate (l.length - (l.filter<|kp t).length) [V.nilsl,V.nilsl]) SI<|fP J J<|cE ?_
 refine aG J (λc9=>?_) λc9=>?_
 . 
  have d3:=c9;refine aO<|aP<|aE<|aN<|fL (R:=λT H=>T 4=V.nilsl/\T 5=(iV 11)/\(∀ j,j∉[303,308,354,407,209]->H j=Hi j)/\H 209=(bk v9 56 2<|List.map cT (l.filter<|kp t)++List.replicate (l.length - (l.filter<|kp t).length) [V.nilsl,V.nilsl])/\H 303=(bk (v3+1) 56 2 [[(aD t.ni),(aD t.no)]])/\(H 308).ver=v308/\(H 354).ver=v54/\H 407=(⟨v7+l.length,false,false,0,0,[]⟩:Blk)/\True) ⟨(aM V.nilsl),(aM<|iV 11),(bD (bD hF DE) DE),J,h303,h308,h354,J,trivial⟩ ?_
  intro T H ⟨t4,t5,hF,h209,h303,h308,h354,h407,_⟩;exfalso;have d4: ¬0<=fi (ndP l t) 0 l.length:=by rw [hc,pF OM]; omega
  unfold nJ at he;rw [if_neg d4,if_neg d2,if_pos OM] at he; cases he
 have d3:=c9;refine aB<|aU<|aP<|bB t3 h303 J J<|kS (bI (aM<|V.ms 209 v9 0<|(l.filter<|kp t).length)<|bI (aM<|V.agg [(aD t.ni),(aD t.no)])<|bI (aM<|V.fn 196 [] []) dR) (aIX (l.filter<|kp t) t hsr OM) (cO (wW (@J Blk<|bk v9 56 2<|List.map cT (l.filter<|kp t)++List.replicate (l.length - (l.filter<|kp t).length) [V.nilsl,V.nilsl]) SI (uW (l:=(l.filter<|kp t)) JR) (λ_=>by simp))<|cO (dN 6 _ (by simp [-List.map_take,-List.map_drop,-List.map_append,-List.map_reverse]))<|cO (dN 6 _ (by simp [-List.map_take,-List.map_drop,-List.map_append,-List.map_reverse])) J) (by simp [-List.map_take,-List.map_drop,-List.map_append,-List.map_reverse]) (Or.inr J)<|aP<|bR J J<|bR J J<|aP<|aE<|aU<|aP<|aP<|bB t3 h303 J J<|aL (uM t OM OM) J ?_
 refine gA (i:=354) (n:=v54) (qs:=[(0,(V.agg [(aD t.ni),(aD t.no)]))]) (rows:=[[(aD t.ni),(aD t.no)]]) JR h354 (cO (congrArg (λv=>(0,v)) J) J) J<|gO (bI J<|bI J<|bI J dR) (aDF (F:=(l.filter<|kp t)) (t:=t) _ J J OM hsr)<|aP<|aE<|bE<|fL (R:=λT H=>T 4=(V.ms 209 (v9+2) 0<|(l.filter<|kp t).length+1)/\T 5=(iV 0)/\(∀ j,j∉[303,308,354,407,209]->H j=Hi j)/\H 209=(bk (v9+2) 56 2<|List.map cT<|ins (l.filter<|kp t) t)/\H 303=(bk (v3+1) 56 2 [[(aD t.ni),(aD t.no)]])/\(H 308).ver=v308/\H 354=(bk (v54+1) 56 2 [[(aD t.ni),(aD t.no)]])/\H 407=(⟨v7+l.length,false,false,0,0,[]⟩:Blk)/\True) ⟨(aM<|V.ms 209 (v9+2) 0<|(l.filter<|kp t).length+1),(aM<|iV 0),(bD (bD (bD (bD hF DE) DE) DE) DE),J,h303,h308,J,J,trivial⟩ ?_
 intro T H ⟨t4,t5,hF,h209,h303,h308,h354,h407,_⟩;skip;have fh:=dK.fin<|dK.put (B:=(bk (v9+2) 56 2<|List.map cT<|lH l t)) (dK.put (dK.putv (n:=(v54+1)) (B:=(⟨v54+1,false,false,0,0,[]⟩:Blk)) (dK.putv (n:=v308) (B:=(⟨v8+l.length,false,false,0,0,[]⟩:Blk)) (dK.putv (n:=(v3+1)) (B:=(⟨v3+1,false,false,0,0,[]⟩:Blk)) (dK.start hF) (cM h303) (by show _<=v3+1; omega) J) h308 (by show _<=v8+l.length; omega) J) (cM h354) (by show _<=v54+1; omega) J) h407<|jN.eq J) h209<|jN.eq (by (rw [lH,if_neg d2]; done))
 exact aEU t4 t5 fh (fD.trans_eq (fD.same fh _) (by (rw [lH,if_neg d2,aJl]; done)))<|fD.trans_eq (fD.same fh _) (by (rw [he]; done))
theorem aJ6 (l:List Tr) (t:Tr) (i:Int) (v9 v3 v8 v54 v7:Nat) (ho:OK ⟨i,l⟩) (hpt:vY t i=0) (he:nJ l t≠0) (Hi:aT) (h209:Hi 209=(bk v9 56 2 (List.map cT l))) (h303:(Hi 303).ver=v3) (h308:(Hi 308).ver=v8) (h354:(Hi 354).ver=v54) (h407:(Hi 407).ver=v7):fH Tryz.prog 165 [(V.ms 209 v9 0 l.length),(V.agg [(aD t.ni),(aD t.no)])] Hi (V.tup [(V.sl []),(iV (nJ l t))]) (cU (cU (cU (cU (cU Hi 303 (⟨v3+1,false,false,0,0,[]⟩:Blk)) 308 (⟨v8+l.length,false,false,0,0,[]⟩:Blk)) 354 (⟨v54+1,false,false,0,0,[]⟩:Blk)) 407 (⟨v7+l.length,false,false,0,0,[]⟩:Blk)) 209 (⟨v9+2,false,false,0,0,[]⟩:Blk)):=by
 refine' eK [54] [] (k0:=300) Tryz.func165 ?e λhB=>?_
 case e=>conv=>lhs; cbv
 have hl:l.length<=10000:=ho.len;have hp1:=aCn hpt;have hp2:=hp1.len;have hp3:=hp1.lel;have hpl: ∀ k,k < l.length->(aA l k).no.length=(aA l k).ni.length:=λk hk=>((ho.pr k hk).1.len)
 have hfl:=List.length_filter_le (kp t) l;have hsr:Srt (l.filter<|kp t):=aCG ho.srt _;dsimp only;refine aU<|cJ (i:=303) (n:=v3) (m:=2) (cs:=[(aD t.ni),(aD t.no)]) JR h303 J J J<|aP<|aE<|aU<|aE<|aO<|aP<|eS J h209 SI<|aE (aF λQ1 n1 x1 y1 z1=>?_)
 refine cF (λmm T H=> ∃ (k:Nat) (v308:Nat),mm=l.length - k/\T 0=(V.ms 209 v9 0 l.length)/\T 3=(V.mp 303 (v3+1) 0 0)/\T 6=(V.bool<|vK (inP l t) 0 k)/\T 11=(V.ms 209 v9 0 l.length)/\T 12=(iV ((l.length:Nat):Int))/\T 13=(iV ((k:Nat):Int))/\(∀ j,j∉[303,308,354,407,209]->H j=Hi j)/\H 209=(bk v9 56 2<|List.map cT l)/\H 303=(bk (v3+1) 56 2 [[(aD t.ni),(aD t.no)]])/\(H 308).ver=v308/\(H 354).ver=v54/\(H 407).ver=v7/\(k<=l.length)/\(v308<=v8+k)/\(fi (ndP l t) 0 l.length=fi (ndP l t) k (l.length - k))) ?_ ?_
 . 
  refine ⟨_,0,v8,J,J,J,(bG (aM<|V.bool false) JR),J,J,(bG (aM<|iV 0) J),(bD (λ_ _=>J) DE),h209,J,h308,h354,h407,?_,?_,?_⟩
  . omega
  . omega
  . rfl
 intro mm T H ⟨k,v308,hmm,t0,t3,t6,t11,t12,t13,hF,h209,h303,h308,h354,h407,hk,hv8,hc⟩ Q2 p12 p22 p32;refine aU<|bY t13 t12<|cE ?_
 refine aG J (λc3=>?_) λc3=>?_
 . 
  refine aB (aF λQ4 n4 x4 y4 z4=>(aU<|dG (i:=k) t11 t13 h209 oB J OM<|cG (v:=(V.agg [(aD<|(aA l k).ni),(aD<|(aA l k).no)])) J h209 (dU OM JR)<|bX (i:=308) (n:=v308) (m:=2) JR h308 J<|dA J J J J J J J J J<|zL<|aU<|bB J J J J<|bB t3 h303 J J<|aL (zV (aA l k) t (hpl k OM) hp1.len) J<|jB J J<|cE ?_));refine aG J (λc5=>?_) λc5=>?_
  . 
   have d1:ndP l t k=true:=decide_eq_true c5;refine aO<|aP<|aE<|aN<|y4 _ _<|p22 _ _<|y1 _ _<|fL (R:=λT H=>T 4=V.nilsl/\T 5=(iV 13)/\(∀ j,j∉[303,308,354,407,209]->H j=Hi j)/\H 209=(bk v9 56 2<|List.map cT l)/\H 303=(bk (v3+1) 56 2 [[(aD t.ni),(aD t.no)]])/\H 308=(bk (v308+1) 56 2 [[(aD<|(aA l k).ni),(aD<|(aA l k).no)]])/\(H 354).ver=v54/\(H 407).ver=v7/\True) ⟨(aM V.nilsl),(aM<|iV 13),(bD (bD hF DE) DE),h209,h303,J,h354,h407,trivial⟩ ?_
   intro T H ⟨t4,t5,hF,h209,h303,h308,h354,h407,_⟩;skip;have fh:=dK.fin<|dK.putv (n:=v9) (B:=(⟨v9+2,false,false,0,0,[]⟩:Blk)) (dK.putv (n:=v7) (B:=(⟨v7+l.length,false,false,0,0,[]⟩:Blk)) (dK.putv (n:=v54) (B:=(⟨v54+1,false,false,0,0,[]⟩:Blk)) (dK.putv (n:=(v308+1)) (B:=(⟨v8+l.length,false,false,0,0,[]⟩:Blk)) (dK.putv (n:=(v3+1)) (B:=(⟨v3+1,false,false,0,0,[]⟩:Blk)) (dK.start hF) (cM h303) (by show _<=v3+1; omega) J) (cM h308) (by show _<=v8+l.length; omega) J) h354 (by show _<=v54+1; omega) J) h407 (by show _<=v7+l.length; omega) J) (cM h209) (by show _<=v9+2; omega) J
   exact aEU t4 t5 fh .nil<|fD.trans_eq (fD.same fh _) (by (rw [nJ,if_pos (by rw [hc,qZ d1 OM]; omega)]; done))
  have d1:ndP l t k=false:=decide_eq_false c5;refine aB<|fO<|aI t6<|aP ?_
  refine bN 6 (λT H=>T 0=(V.ms 209 v9 0 l.length)/\T 3=(V.mp 303 (v3+1) 0 0)/\T 6=(V.bool<|vK (inP l t) 0 k)/\T 11=(V.ms 209 v9 0 l.length)/\T 12=(iV ((l.length:Nat):Int))/\T 13=(iV ((k:Nat):Int))/\T 28=(V.bool ((vK (inP l t) 0 k)||(hp ((aA l k).ni) t.ni)))/\(∀ j,j∉[303,308,354,407,209]->H j=Hi j)/\H 209=(bk v9 56 2<|List.map cT l)/\H 303=(bk (v3+1) 56 2 [[(aD t.ni),(aD t.no)]])/\H 308=(bk (v308+1) 56 2 [[(aD<|(aA l k).ni),(aD<|(aA l k).no)]])/\(H 354).ver=v54/\(H 407).ver=v7/\True) ?_ ?_
  . 
   by_cases g6:(vK (inP l t) 0 k)=true
   . 
    refine bQ (gZ g6 J)<|bQ (gZ g6 J)<|bQ (gZ g6 J)<|bQ (gZ g6 J)<|bQ (gZ g6 J)<|bP (gZ g6 J) J ?_
    exact ⟨t0,t3,t6,t11,t12,t13,(uK g6),(bD (bD hF DE) DE),h209,h303,J,h354,h407,trivial⟩
   . 
    refine aK (hC g6 J)<|cQ J J<|aK (hC g6 J)<|bB J J J J<|aK (hC g6 J)<|cQ t3 h303<|aK (hC g6 J)<|bB J h303 J J<|aK (hC g6 J)<|aL (zU ((aA l k).ni) t.ni) J<|bO (hC g6 J) J ?_
    exact ⟨t0,t3,t6,t11,t12,t13,(uG g6),(bD (bD hF DE) DE),h209,h303,J,h354,h407,trivial⟩
  intro T H ⟨t0,t3,t6,t11,t12,t13,t28,hF,h209,h303,h308,h354,h407,_⟩;refine aI t28<|cE<|n4 _ _ (.done (fO<|cD t13<|aE ?_))
  refine p12 _ _ _ ?_ ⟨(k+1),(v308+1),J,t0,t3,(bG (aM<|V.bool ((vK (inP l t) 0 k)||(hp ((aA l k).ni) t.ni))) (by (simp only [vK,inP,Nat.zero_add]; done))),t11,t12,(bG (cS<|k+1) JR),hF,h209,h303,(cM h308),h354,h407,?_,?_,?_⟩
  . omega
  . omega
  . omega
  . rw [hc,mX d1 OM]
 refine aS<|p32 _ _ _<|x1 _ _ (.done (aO<|aI t6<|aP ?_))
 refine bN 5 (λT H=>T 0=(V.ms 209 v9 0 l.length)/\T 3=(V.mp 303 (v3+1) 0 0)/\T 36=(V.bool ((vK (inP l t) 0 k)||decide (((t.ni.length:Nat):Int)=(0:Int))))/\(∀ j,j∉[303,308,354,407,209]->H j=Hi j)/\H 209=(bk v9 56 2<|List.map cT l)/\H 303=(bk (v3+1) 56 2 [[(aD t.ni),(aD t.no)]])/\(H 308).ver=v308/\(H 354).ver=v54/\(H 407).ver=v7/\True) ?_ ?_
 . 
  by_cases g7:(vK (inP l t) 0 k)=true
  . 
   refine bQ (gZ g7 J)<|bQ (gZ g7 J)<|bQ (gZ g7 J)<|bQ (gZ g7 J)<|bP (gZ g7 J) J ?_
   exact ⟨t0,t3,(uK g7),hF,h209,h303,h308,h354,h407,trivial⟩
  . 
   refine aK (hC g7 J)<|cQ t3 h303<|aK (hC g7 J)<|bB J h303 J J<|aK (hC g7 J)<|bA J<|aK (hC g7 J)<|fP J J<|bO (hC g7 J) J ?_
   exact ⟨t0,t3,(uG g7),hF,h209,h303,h308,h354,h407,trivial⟩
 intro T H ⟨t0,t3,t36,hF,h209,h303,h308,h354,h407,_⟩;refine cE ?_;refine dW t36 (λc8=>?_) (λc8=>?_)
 . 
  have d2:inL l t:=by have q:=c8; rw [show k=l.length by omega] at q; simpa [inL] using q
  refine aO<|aI t0<|aP<|aE<|aN<|fL (R:=λT H=>T 4=(V.ms 209 v9 0 l.length)/\T 5=(iV 0)/\(∀ j,j∉[303,308,354,407,209]->H j=Hi j)/\H 209=(bk v9 56 2<|List.map cT l)/\H 303=(bk (v3+1) 56 2 [[(aD t.ni),(aD t.no)]])/\(H 308).ver=v308/\(H 354).ver=v54/\(H 407).ver=v7/\True) ⟨(aM<|V.ms 209 v9 0 l.length),(aM<|iV 0),hF,h209,h303,h308,h354,h407,trivial⟩ ?_
  intro T H ⟨t4,t5,hF,h209,h303,h308,h354,h407,_⟩;exfalso;have d4: ¬0<=fi (ndP l t) 0 l.length:=by rw [hc,pF OM]; omega
  apply he; rw [nJ,if_neg d4,if_pos d2]
 have d2: ¬inL l t:=by have q:=c8; rw [show k=l.length by omega] at q; simpa [inL] using q
 refine aB<|aU<|aI t0<|zX (bI t3 dR)<|gO (bI J<|bI J dR) (aPK l t v9 (v3+1) v7 _ h209 h303 h407 OM)<|aE<|aO<|aP<|eS J (@J Blk<|bk v9 56 2<|List.map cT (l.filter<|kp t)++List.replicate (l.length - (l.filter<|kp t).length) [V.nilsl,V.nilsl]) SI<|fP J J<|cE ?_
 refine aG J (λc9=>?_) λc9=>?_
 . 
  have d3:=c9;refine aO<|aP<|aE<|aN<|fL (R:=λT H=>T 4=V.nilsl/\T 5=(iV 11)/\(∀ j,j∉[303,308,354,407,209]->H j=Hi j)/\H 209=(bk v9 56 2<|List.map cT (l.filter<|kp t)++List.replicate (l.length - (l.filter<|kp t).length) [V.nilsl,V.nilsl])/\H 303=(bk (v3+1) 56 2 [[(aD t.ni),(aD t.no)]])/\(H 308).ver=v308/\(H 354).ver=v54/\H 407=(⟨v7+l.length,false,false,0,0,[]⟩:Blk)/\True) ⟨(aM V.nilsl),(aM<|iV 11),(bD (bD hF DE) DE),J,h303,h308,h354,J,trivial⟩ ?_
  intro T H ⟨t4,t5,hF,h209,h303,h308,h354,h407,_⟩;have d4: ¬0<=fi (ndP l t) 0 l.length:=by rw [hc,pF OM]; omega

  have fh:=dK.fin<|dK.putv (n:=v9) (B:=(⟨v9+2,false,false,0,0,[]⟩:Blk)) (dK.put (dK.putv (n:=v54) (B:=(⟨v54+1,false,false,0,0,[]⟩:Blk)) (dK.putv (n:=v308) (B:=(⟨v8+l.length,false,false,0,0,[]⟩:Blk)) (dK.putv (n:=(v3+1)) (B:=(⟨v3+1,false,false,0,0,[]⟩:Blk)) (dK.start hF) (cM h303) (by show _<=v3+1; omega) J) h308 (by show _<=v8+l.length; omega) J) h354 (by show _<=v54+1; omega) J) h407<|jN.eq J) (cM h209) (by show _<=v9+2; omega) J
  exact aEU t4 t5 fh .nil<|fD.trans_eq (fD.same fh _) (by (rw [nJ,if_neg d4,if_neg d2,if_pos OM]; done))
 have d3:=c9;refine aB<|aU<|aP<|bB t3 h303 J J<|kS (bI (aM<|V.ms 209 v9 0<|(l.filter<|kp t).length)<|bI (aM<|V.agg [(aD t.ni),(aD t.no)])<|bI (aM<|V.fn 196 [] []) dR) (aIX (l.filter<|kp t) t hsr OM) (cO (wW (@J Blk<|bk v9 56 2<|List.map cT (l.filter<|kp t)++List.replicate (l.length - (l.filter<|kp t).length) [V.nilsl,V.nilsl]) SI (uW (l:=(l.filter<|kp t)) JR) (λ_=>by simp))<|cO (dN 6 _ (by simp [-List.map_take,-List.map_drop,-List.map_append,-List.map_reverse]))<|cO (dN 6 _ (by simp [-List.map_take,-List.map_drop,-List.map_append,-List.map_reverse])) J) (by simp [-List.map_take,-List.map_drop,-List.map_append,-List.map_reverse]) (Or.inr J)<|aP<|bR J J<|bR J J<|aP<|aE<|aU<|aP<|aP<|bB t3 h303 J J<|aL (uM t OM OM) J ?_
 refine gA (i:=354) (n:=v54) (qs:=[(0,(V.agg [(aD t.ni),(aD t.no)]))]) (rows:=[[(aD t.ni),(aD t.no)]]) JR h354 (cO (congrArg (λv=>(0,v)) J) J) J<|gO (bI J<|bI J<|bI J dR) (aDF (F:=(l.filter<|kp t)) (t:=t) _ J J OM hsr)<|aP<|aE<|bE<|fL (R:=λT H=>T 4=(V.ms 209 (v9+2) 0<|(l.filter<|kp t).length+1)/\T 5=(iV 0)/\(∀ j,j∉[303,308,354,407,209]->H j=Hi j)/\H 209=(bk (v9+2) 56 2<|List.map cT<|ins (l.filter<|kp t) t)/\H 303=(bk (v3+1) 56 2 [[(aD t.ni),(aD t.no)]])/\(H 308).ver=v308/\H 354=(bk (v54+1) 56 2 [[(aD t.ni),(aD t.no)]])/\H 407=(⟨v7+l.length,false,false,0,0,[]⟩:Blk)/\True) ⟨(aM<|V.ms 209 (v9+2) 0<|(l.filter<|kp t).length+1),(aM<|iV 0),(bD (bD (bD (bD hF DE) DE) DE) DE),J,h303,h308,J,J,trivial⟩ ?_
 intro T H ⟨t4,t5,hF,h209,h303,h308,h354,h407,_⟩;exfalso;have d4: ¬0<=fi (ndP l t) 0 l.length:=by rw [hc,pF OM]; omega
 apply he; rw [nJ,if_neg d4,if_neg d2,if_neg OM]
theorem aNQ (o:Ob) (l:List Tr) (ho:OK o):bJ Tryz.prog 114 [(V.agg [(iV o.i),(V.sl (List.map cT o.tr))]),(V.sl (List.map cT l))] (V.tup [(V.agg [(iV ((vR o l).i)),(V.sl (List.map cT ((vR o l).tr)))]),(iV ((tJ o.i o.tr l).2))]):=by
 refine' pK [] [] Tryz.func114 ?e λhB=>?_
 case e=>conv=>lhs; cbv
 dsimp only;have hbd: ∀ k,k < o.tr.length->(aA o.tr k).ni.length<=1048576/\(aA o.tr k).no.length<=1048576:=λk hk=>by have:=(ho.pr k hk).1.len; have:=(ho.pr k hk).1.lel; omega
 have hol:=ho.len;refine aU<|cJ (i:=2) (n:=0) (m:=2) (cs:=[(iV o.i),(V.sl<|List.map cT o.tr)]) J (cM J) J J J<|bX (i:=4) (n:=0) (m:=2) J (cM J) J<|aE<|aU<|aZ J J J J<|gO (bI J dR) (aO2 o.tr 0 0 hbd _ (cM J) (cM J) OM)<|aE<|aO<|aP<|bA J<|aP ?_
 refine cE (aF λQ1 n1 x1 y1 z1=>?_);refine cF (λmm T H=> ∃ (k:Nat) (w:Nat) (acc:List Tr) (v8:Nat) (v303:Nat) (v308:Nat) (v354:Nat) (v407:Nat),mm=l.length - k/\T 2=(cR 2)/\T 4=(cR 4)/\T 6=(V.ms 209 w 0 acc.length)/\T 15=(V.sl<|List.map cT l)/\T 16=(iV ((l.length:Nat):Int))/\T 17=(iV ((k:Nat):Int))/\H 2=(bk 1 31 2 [[(iV o.i),(V.sl<|List.map cT o.tr)]])/\H 4=(bk 1 31 2 [[(iV 0),V.nilsl]])/\(H 8).ver=v8/\H 205=(⟨0+o.tr.length,false,false,0,0,[]⟩:Blk)/\H 209=(bk w 56 2<|List.map cT acc)/\(H 303).ver=v303/\(H 308).ver=v308/\(H 354).ver=v354/\(H 407).ver=v407/\(k<=l.length)/\(tJ o.i o.tr l=tJ o.i acc (l.drop k))/\(OK ⟨o.i,acc⟩)) ?_ ?_
 . 
  refine ⟨_,0,(0+1+o.tr.length),o.tr,0,0,0,0,0,J,J,J,(bG (aM<|V.ms 209 (0+1+o.tr.length) 0 o.tr.length) JR),J,J,(bG (aM<|iV 0) J),J,J,(cM J),J,(bG (@J Blk<|bk (0+1+o.tr.length) 56 2<|List.map cT o.tr) JR),(cM J),(cM J),(cM J),(cM J),?_,?_,?_⟩
  . omega
  . rfl
  . exact ho
 intro mm T H ⟨k,w,acc,v8,v303,v308,v354,v407,hmm,t2,t4,t6,t15,t16,t17,h2,h4,h8,h205,h209,h303,h308,h354,h407,hk,hc,hok⟩ Q2 p12 p22 p32;refine aU<|bY t17 t16<|cE ?_
 refine aG J (λc3=>?_) λc3=>?_
 . 
  refine aB (aF λQ4 n4 x4 y4 z4=>(aU<|dL (i:=k) t15 t17<|aJ J J<|bX (i:=8) (n:=v8) (m:=2) J h8 J<|dA J J J J J J J J J<|zL<|aU<|bB J J J J<|aZ t2 h2 J J<|aL (aF6 (aA l k) o.i) J<|aE ?_));refine aO<|aP<|cA J J<|cE ?_
  refine aG J (λc5=>?_) λc5=>?_
  . 
   have d1:=c5;refine aO<|bB t2 h2 J J<|aP<|dA t4 J J h4 J J J J J<|aE<|aN<|y4 _ _<|p22 _ _<|y1 _ _ ?_
   refine fF (cH (u:=(V.agg [(iV o.i),(V.sl<|List.map cT o.tr)])) t4 (@J Blk<|bk 1 31 2 [[(iV o.i),(V.sl<|List.map cT o.tr)]])<|lB oB J J) (bM<|aM<|iV<|vY (aA l k) o.i) (eU (aH ?_)<|dM ?_ (λ_=>by simp))<|aH ?_
   . rw [aIC]
   . unfold vR; rw [if_pos (by rw [hc,aMH OM d1]; exact d1)]
   . rw [hc,aMH OM d1]
  have d1:vY (aA l k) o.i=0:=OM
  refine aB (rQ λK hK=>(aI t6<|bB J J J J ?_));by_cases heF:nJ acc (aA l k)=0
  . 
   refine gO (bI J<|bI J dR) (aL1 acc (aA l k) _ w v303 v308 v354 v407 hok d1 heF _ h209 h303 h308 h354 h407)<|aP<|bR J J<|bR J J<|aP<|aP ?_
   refine gD<|hK _ _ ?_; clear hK K
   refine fL (R:=λT H=>T 2=(cR 2)/\T 4=(cR 4)/\T 10=(V.ms 209 (w+2) 0<|(lH acc<|aA l k).length)/\T 11=(iV<|nJ acc<|aA l k)/\T 15=(V.sl<|List.map cT l)/\T 16=(iV ((l.length:Nat):Int))/\T 17=(iV ((k:Nat):Int))/\H 2=(bk 1 31 2 [[(iV o.i),(V.sl<|List.map cT o.tr)]])/\H 4=(bk 1 31 2 [[(iV 0),V.nilsl]])/\H 8=(bk (v8+1) 56 2 [[(aD<|(aA l k).ni),(aD<|(aA l k).no)]])/\H 205=(⟨0+o.tr.length,false,false,0,0,[]⟩:Blk)/\H 209=(bk (w+2) 56 2<|List.map cT<|lH acc<|aA l k)/\H 303=(⟨v303+1,false,false,0,0,[]⟩:Blk)/\H 308=(⟨v308+acc.length,false,false,0,0,[]⟩:Blk)/\H 354=(⟨v354+1,false,false,0,0,[]⟩:Blk)/\H 407=(⟨v407+acc.length,false,false,0,0,[]⟩:Blk)/\True) ⟨t2,t4,J,J,t15,t16,t17,h2,h4,J,h205,J,J,J,J,J,trivial⟩ ?_;intro T H ⟨t2,t4,t10,t11,t15,t16,t17,h2,h4,h8,h205,h209,h303,h308,h354,h407,_⟩;refine aO<|aI t11<|cA J J<|cE ?_
   refine aG J (λc8=>?_) λc8=>?_
   . exact ((λ(e:(nJ acc<|aA l k)≠(0:Int))=>e heF) c8).elim
   refine aB<|fO<|aI t10<|aE<|n4 _ _ (.done (fO<|cD t17<|aE ?_))
   refine p12 _ _ _ ?_ ⟨(k+1),(w+2),(lH acc<|aA l k),(v8+1),(v303+1),(v308+acc.length),(v354+1),(v407+acc.length),J,t2,t4,(bG (aM<|V.ms 209 (w+2) 0<|(lH acc<|aA l k).length) JR),t15,t16,(bG (cS<|k+1) JR),h2,h4,(cM h8),h205,(bG h209 JR),(cM h303),(cM h308),(cM h354),(cM h407),?_,?_,?_⟩
   . omega
   . omega
   . rw [hc,aRq OM d1 heF]
   . exact aMW hok d1 heF
  . 
   refine gO (bI J<|bI J dR) (aJ6 acc (aA l k) _ w v303 v308 v354 v407 hok d1 heF _ h209 h303 h308 h354 h407)<|aP<|bR J J<|bR J J<|aP<|aP ?_
   refine gD<|hK _ _ ?_; clear hK K
   refine fL (R:=λT H=>T 2=(cR 2)/\T 4=(cR 4)/\T 10=(V.sl [])/\T 11=(iV<|nJ acc<|aA l k)/\T 15=(V.sl<|List.map cT l)/\T 16=(iV ((l.length:Nat):Int))/\T 17=(iV ((k:Nat):Int))/\H 2=(bk 1 31 2 [[(iV o.i),(V.sl<|List.map cT o.tr)]])/\H 4=(bk 1 31 2 [[(iV 0),V.nilsl]])/\H 8=(bk (v8+1) 56 2 [[(aD<|(aA l k).ni),(aD<|(aA l k).no)]])/\H 205=(⟨0+o.tr.length,false,false,0,0,[]⟩:Blk)/\H 209=(⟨w+2,false,false,0,0,[]⟩:Blk)/\H 303=(⟨v303+1,false,false,0,0,[]⟩:Blk)/\H 308=(⟨v308+acc.length,false,false,0,0,[]⟩:Blk)/\H 354=(⟨v354+1,false,false,0,0,[]⟩:Blk)/\H 407=(⟨v407+acc.length,false,false,0,0,[]⟩:Blk)/\True) ⟨t2,t4,J,J,t15,t16,t17,h2,h4,J,h205,J,J,J,J,J,trivial⟩ ?_;intro T H ⟨t2,t4,t10,t11,t15,t16,t17,h2,h4,h8,h205,h209,h303,h308,h354,h407,_⟩;refine aO<|aI t11<|cA J J<|cE ?_
   refine aG J (λc11=>?_) λc11=>?_
   . 
    refine aO<|bB t2 h2 J J<|aI t11<|dA t4 J J h4 J J J J J<|aE<|aN<|y4 _ _<|p22 _ _<|y1 _ _ ?_
    refine fF (cH (u:=(V.agg [(iV o.i),(V.sl<|List.map cT o.tr)])) t4 (@J Blk<|bk 1 31 2 [[(iV o.i),(V.sl<|List.map cT o.tr)]])<|lB oB J J) (bM<|aM<|iV<|nJ acc<|aA l k) (eU (aH ?_)<|dM ?_ (λ_=>by simp))<|aH ?_
    . rw [aIC]
    . unfold vR; rw [if_pos (by rw [hc,aLc OM d1 heF]; exact heF)]
    . rw [hc,aLc OM d1 heF]
   . exact (c11 heF).elim
 refine aS<|p32 _ _ _<|x1 _ _ (.done (aU<|aZ t2 h2 J J<|aI t6<|bZ J J<|dA t4 J J h4 J J J J J<|aE<|bE ?_))
 refine fF (cH (u:=(V.agg [(iV o.i),(V.ms 209 w 0 acc.length)])) t4 (@J Blk<|bk 1 31 2 [[(iV o.i),(V.ms 209 w 0 acc.length)]])<|lB oB J J) (bM<|aM<|iV 0) (eU (aH ?_)<|mI h209 SI (l:=acc) J JR (λ_=>by simp) ?_)<|aH ?_
 . rw [aIC]
 . unfold vR; rw [if_neg (by rw [hc,aFl OM]; simp),hc,aFl OM]
 . rw [hc,aFl OM]
theorem aKI (o:Ob) (t:Tr) (ho:OK o):bJ Tryz.prog 65 [(V.agg [(iV o.i),(V.sl (List.map cT o.tr))]),(V.agg [(aD t.ni),(aD t.no)])] (V.tup [(V.agg [(iV ((vR o [t]).i)),(V.sl (List.map cT ((vR o [t]).tr)))]),(iV ((tJ o.i o.tr [t]).2))]):=by
 refine' pK [] [] Tryz.func65 ?e λhB=>?_
 case e=>conv=>lhs; cbv
 dsimp only;refine aU<|cJ (i:=2) (n:=0) (m:=2) (cs:=[(iV o.i),(V.sl<|List.map cT o.tr)]) J (cM J) J J J<|cJ (i:=3) (n:=0) (m:=2) (cs:=[(aD t.ni),(aD t.no)]) J (cM J) J J J<|bX (i:=4) (n:=0) (m:=2) J (cM J) J<|aE<|aU<|bB J J J J<|bB J J J J<|aY J J<|aL (aNQ o ([t]) OM) J<|bR J J<|bR J J<|dA J J J J J J J J J<|aE ?_
 refine bE ?_;refine fF (cH (u:=(V.agg [(iV<|(vR o<|[t]).i),(V.sl<|List.map cT<|(vR o<|[t]).tr)])) J (@J Blk<|bk 1 31 2 [[(iV<|(vR o<|[t]).i),(V.sl<|List.map cT<|(vR o<|[t]).tr)]])<|lB oB J J) (bM<|aM<|iV<|(tJ o.i o.tr<|[t]).2) (eU (aH ?_)<|dM ?_ (λ_=>by simp))<|aH ?_
 . first|rfl|omega|simp_all
 . first|rfl|omega|simp_all
 . first|rfl|omega|simp_all
end
section
open Go
def eP (m:M):Ob->List (List Int)->Ob×Int
  |o,[]=>(o,0)
  |o,w::ws=>if wX m m.s w≠0 then (o,wX m m.s w) else if (tJ o.i o.tr [⟨w,gQ m m.s w⟩]).2≠0 then (o,(tJ o.i o.tr [⟨w,gQ m m.s w⟩]).2) else eP m (vR o [⟨w,gQ m m.s w⟩]) ws
theorem aE3 {m:M} {q:Ob} {ws:List (List Int)} {k:Nat} (h:ws.length<=k):eP m q (ws.drop k)=(q,0):=by
  rw [List.drop_of_length_le h]; rfl
theorem tX {α:Type} [Inhabited α] {l:List α} {k:Nat} (h:k < l.length):l.drop k=aA l k::l.drop (k+1):=by
  rw [List.drop_eq_getElem_cons h,bL h]
theorem aE0 {m:M} {q:Ob} {ws:List (List Int)} {k:Nat} (h:k < ws.length) (e:wX m m.s (aA ws k)≠0):eP m q (ws.drop k)=(q,wX m m.s (aA ws k)):=by
  rw [tX h,eP,if_pos e]
theorem aE7 {m:M} {q:Ob} {ws:List (List Int)} {k:Nat} (h:k < ws.length) (e:wX m m.s (aA ws k)=0) (e2:(tJ q.i q.tr [⟨aA ws k,gQ m m.s (aA ws k)⟩]).2≠0):
    eP m q (ws.drop k)=(q,(tJ q.i q.tr [⟨aA ws k,gQ m m.s (aA ws k)⟩]).2):=by
  rw [tX h,eP,if_neg OM,if_pos e2]
theorem aRn {m:M} {q:Ob} {ws:List (List Int)} {k:Nat} (h:k < ws.length) (e:wX m m.s (aA ws k)=0) (e2:(tJ q.i q.tr [⟨aA ws k,gQ m m.s (aA ws k)⟩]).2=0):
    eP m q (ws.drop k)=eP m (vR q [⟨aA ws k,gQ m m.s (aA ws k)⟩]) (ws.drop<|k+1):=by
  rw [tX h,eP,if_neg OM,if_neg OM]
theorem aNo {o:Ob} {l:List Tr} (h:(tJ o.i o.tr l).2≠0):vR o l=o:=if_pos h
instance:Inhabited M:=⟨⟨0,0,[],[]⟩⟩
def nA (a b:M):Int:=if bK a≠0 then bK a else if bK b≠0 then bK b else if a.i≠b.i then 15 else 0
theorem aQ9 {a b:M} (h:bK a≠0):nA a b=bK a:=if_pos h
theorem aQZ {a b:M} (h:bK a=0) (h2:bK b≠0):nA a b=bK b:=by rw [nA,if_neg OM,if_pos h2]
theorem aRH {a b:M} (h:bK a=0) (h2:bK b=0) (h3:a.i≠b.i):nA a b=15:=by rw [nA,if_neg OM,if_neg OM,if_pos h3]
theorem aLz {a b:M} (h:bK a=0) (h2:bK b=0) (h3:a.i=b.i):nA a b=0:=by rw [nA,if_neg OM,if_neg OM,if_neg OM]
end
section
open Go Go.Proofs
theorem sL (m:M) (o:Ob) (ws:List (List Int)) (ho:OK o):bJ Tryz.prog 25 [(V.agg [(iV m.i),(iV m.s),(aC m.nx),(aC m.ot)]),(V.agg [(iV o.i),(V.sl (List.map cT o.tr))]),(aC ws)] (V.tup [(V.agg [(iV ((eP m o ws).1.i)),(V.sl (List.map cT ((eP m o ws).1.tr)))]),(iV ((eP m o ws).2))]):=by
 refine' pK [] [] Tryz.func25 ?e λhB=>?_
 case e=>conv=>lhs; cbv
 dsimp only;refine aU<|cJ (i:=3) (n:=0) (m:=4) (cs:=[(iV m.i),(iV m.s),(aC m.nx),(aC m.ot)]) J (cM J) J J J<|cJ (i:=4) (n:=0) (m:=2) (cs:=[(iV o.i),(V.sl<|List.map cT o.tr)]) J (cM J) J J J<|bX (i:=6) (n:=0) (m:=2) J (cM J) J<|aE<|aO<|aP<|bA J<|aE (aF λQ1 n1 x1 y1 z1=>?_)
 refine cF (λmm T H=> ∃ (k:Nat) (q:Ob),mm=ws.length - k/\T 3=(cR 3)/\T 4=(cR 4)/\T 6=(cR 6)/\T 12=(aC ws)/\T 13=(iV ((ws.length:Nat):Int))/\T 14=(iV ((k:Nat):Int))/\H 3=(jV m)/\H 4=(bk 1 31 2 [[(iV q.i),(V.sl<|List.map cT q.tr)]])/\H 6=(bk 1 31 2 [[(iV 0),V.nilsl]])/\(k<=ws.length)/\(OK q)/\(eP m o ws=eP m q (ws.drop k))) ?_ ?_
 . 
  refine ⟨_,0,o,J,J,J,J,J,J,(bG (aM<|iV 0) J),J,J,J,?_,?_,?_⟩
  . omega
  . exact ho
  . rfl
 intro mm T H ⟨k,q,hmm,t3,t4,t6,t12,t13,t14,h3,h4,h6,hk,hok,hc⟩ Q2 p12 p22 p32;refine aU<|bY t14 t13<|cE ?_
 refine aG J (λc3=>?_) λc3=>?_
 . 
  refine aB (aF λQ4 n4 x4 y4 z4=>(aU<|dL (i:=k) t12 t14<|aJ J J<|aE<|aU<|bB t3 h3 J J<|aP<|aL (aKK m<|aA ws k) J<|aP<|bR J J<|bR J J<|aP<|aP ?_));refine zL<|aU<|aP<|cA J J<|cE ?_
  refine aG J (λc5=>?_) λc5=>?_
  . 
   have d0:=c5;refine aO<|bB t4 h4 J J<|aP<|dA t6 J J h6 J J J J J<|aE<|aN<|y4 _ _<|p22 _ _<|y1 _ _ ?_
   refine fF (cH (u:=(V.agg [(iV q.i),(V.sl<|List.map cT q.tr)])) t6 (@J Blk<|bk 1 31 2 [[(iV q.i),(V.sl<|List.map cT q.tr)]])<|lB oB J J) (bM<|aM<|iV<|wX m m.s<|aA ws k) (eU (aH ?_)<|dM ?_ (λ_=>by simp))<|aH ?_
   . rw [hc,aE0 OM d0]
   . rw [hc,aE0 OM d0]
   . rw [hc,aE0 OM d0]
  have d1:wX m m.s (aA ws k)=0:=OM
  refine aB<|aU<|bB t4 h4 J J<|aP<|aP<|bZ J J<|aL (aKI q (⟨(aA ws k),(gQ m m.s<|aA ws k)⟩:Tr) hok) J<|aP<|bR J J<|bR J J<|dA t4 J J h4 J J J J J<|aE<|aU<|aP<|cA J J ?_
  refine cE ?_;refine gE J (λc6=>?_) λc6=>?_
  . 
   have d2:=c6;refine aU<|bB t4 J J J<|aP<|dA t6 J J h6 J J J J J<|aE<|bE<|y4 _ _<|p22 _ _<|y1 _ _ ?_
   refine fF (cH (u:=(V.agg [(iV<|(vR q [(⟨(aA ws k),(gQ m m.s<|aA ws k)⟩:Tr)]).i),(V.sl<|List.map cT<|(vR q [(⟨(aA ws k),(gQ m m.s<|aA ws k)⟩:Tr)]).tr)])) t6 (@J Blk<|bk 1 31 2 [[(iV<|(vR q [(⟨(aA ws k),(gQ m m.s<|aA ws k)⟩:Tr)]).i),(V.sl<|List.map cT<|(vR q [(⟨(aA ws k),(gQ m m.s<|aA ws k)⟩:Tr)]).tr)]])<|lB oB J J) (bM<|aM<|iV<|(tJ q.i q.tr [(⟨(aA ws k),(gQ m m.s<|aA ws k)⟩:Tr)]).2) (eU (aH ?_)<|dM ?_ (λ_=>by simp))<|aH ?_
   . rw [hc,aE7 OM d1 d2,aNo d2]
   . rw [hc,aE7 OM d1 d2,aNo d2]
   . rw [hc,aE7 OM d1 d2]
  have d2:(tJ q.i q.tr [⟨aA ws k,gQ m m.s (aA ws k)⟩]).2=0:=OM
  refine dH<|n4 _ _ (.done (fO<|cD t14<|aE ?_))
  refine p12 _ _ _ ?_ ⟨(k+1),(vR q [⟨aA ws k,gQ m m.s (aA ws k)⟩]),J,t3,t4,t6,t12,t13,(bG (cS<|k+1) JR),h3,(bG (@J Blk<|bk 1 31 2 [[(iV<|(vR q [(⟨(aA ws k),(gQ m m.s<|aA ws k)⟩:Tr)]).i),(V.sl<|List.map cT<|(vR q [(⟨(aA ws k),(gQ m m.s<|aA ws k)⟩:Tr)]).tr)]]) JR),h6,?_,?_,?_⟩
  . omega
  . omega
  . exact aD3 hok
  . rw [hc,aRn OM d1 d2]
 refine aS<|p32 _ _ _<|x1 _ _ (.done (aU<|bB t4 h4 J J<|dA t6 J J h6 J J J J J<|aE<|bE ?_))
 refine fF (cH (u:=(V.agg [(iV q.i),(V.sl<|List.map cT q.tr)])) t6 (@J Blk<|bk 1 31 2 [[(iV q.i),(V.sl<|List.map cT q.tr)]])<|lB oB J J) (bM<|aM<|iV 0) (eU (aH ?_)<|dM ?_ (λ_=>by simp))<|aH ?_
 . rw [hc,aE3 OM]
 . rw [hc,aE3 OM]
 . rw [hc,aE3 OM]
theorem aF9 (a b:M):bJ Tryz.prog 66 [(V.agg [(iV a.i),(iV a.s),(aC a.nx),(aC a.ot)]),(V.agg [(iV b.i),(iV b.s),(aC b.nx),(aC b.ot)])] (iV (nA a b)):=by
 refine' pK [] [] Tryz.func66 ?e λhB=>?_
 case e=>conv=>lhs; cbv
 dsimp only;refine aU<|cJ (i:=2) (n:=0) (m:=4) (cs:=[(iV a.i),(iV a.s),(aC a.nx),(aC a.ot)]) J (cM J) J J J<|cJ (i:=3) (n:=0) (m:=4) (cs:=[(iV b.i),(iV b.s),(aC b.nx),(aC b.ot)]) J (cM J) J J J<|aE<|aO<|bB J J J J<|bB J J J J<|bZ J J<|aE (aF λQ1 n1 x1 y1 z1=>?_)
 refine cF (λmm T H=> ∃ (k:Nat) (v6:Nat),mm=2 - k/\T 2=(cR 2)/\T 3=(cR 3)/\T 10=(V.agg [(iV a.i),(iV a.s),(aC a.nx),(aC a.ot),(iV b.i),(iV b.s),(aC b.nx),(aC b.ot)])/\T 11=(iV ((k:Nat):Int))/\H 2=(bk 1 24 4 [[(iV a.i),(iV a.s),(aC a.nx),(aC a.ot)]])/\H 3=(bk 1 24 4 [[(iV b.i),(iV b.s),(aC b.nx),(aC b.ot)]])/\(H 6).ver=v6/\(k<=2)/\(1<=k->bK a=0)/\(2<=k->bK b=0)) ?_ ?_
 . 
  refine ⟨_,0,0,J,J,J,J,(bG (aM<|iV 0) J),J,J,(cM J),?_,?_,?_⟩
  . omega
  . intro; omega
  . intro; omega
 intro mm T H ⟨k,v6,hmm,t2,t3,t10,t11,h2,h3,h6,hk,ha,hb⟩ Q2 p12 p22 p32;refine aU<|bY t11 J<|cE ?_
 refine aG J (λc3=>?_) λc3=>?_
 . 
  refine aB (aF λQ4 n4 x4 y4 z4=>(aU<|aOt (v:=(V.agg [(iV<|(aA [a,b] k).i),(iV<|(aA [a,b] k).s),(aC<|(aA [a,b] k).nx),(aC<|(aA [a,b] k).ot)])) t10 t11 (by rcases (show k=0\/k=1 by omega) with e|e <;> subst e <;> rfl)<|bX (i:=6) (n:=v6) (m:=4) rfl h6 rfl<|dA rfl rfl rfl rfl rfl rfl rfl rfl rfl<|R_r<|bB rfl rfl rfl rfl<|aL (qO<|aA [a,b] k) rfl<|aE<|aU<|aP<|cA rfl rfl<|cE ?_));refine gE J (λc5=>?_) λc5=>?_
  . 
   have d0:=c5;refine aU<|aP<|aE<|bE<|y4 _ _<|p22 _ _<|y1 _ _ ?_
   refine aW (aM<|iV<|bK<|aA [a,b] k)<|aH ?_
   . rcases (show k=0\/k=1 by omega) with e|e
     . subst e; rw [fX]; exact (aQ9 d0).symm
     . subst e; exact (aQZ (ha OM) d0).symm
  have d0:bK (aA [a,b] k)=0:=OM
  refine dH<|n4 _ _ (.done (fO<|cD t11<|aE ?_))
  refine p12 _ _ _ ?_ ⟨(k+1),(v6+1),J,t2,t3,t10,(bG (cS<|k+1) JR),h2,h3,(cM J),?_,?_,?_⟩
  . omega
  . omega
  . intro _; rcases (show k=0\/k=1 by omega) with e|e
    . subst e; have d1:=d0; rw [fX] at d1; exact d1
    . exact ha OM
  . intro _; have e:k=1:=OM
    subst e; exact d0
 refine aS<|p32 _ _ _<|x1 _ _ (.done (aO<|aZ t2 h2 J J<|aZ t3 h3 J J<|cA J J<|cE ?_))
 refine aG J (λc6=>?_) λc6=>?_
 . 
  refine aO<|aE<|aN ?_
  refine aW (aM<|iV 15)<|aH ?_
  . rw [aRH (ha OM) (hb OM) OM]
 refine aB<|aU<|aE<|bE ?_
 refine aW (aM<|iV 0)<|aH ?_
 . rw [aLz (ha OM) (hb OM) OM]
end
section
open Go
theorem iF {H:aT} {i:Nat} {B:Blk} {p:Nat->Prop} {f:Nat->Nat} {g:Nat->Blk} (h: ∀ j,p j->H (f j)=g j) (hi: ∀ j,f j≠i): ∀ j,p j->cU H i B (f j)=g j:=
  λj hj=>(bT _ _<|hi j).trans (h j hj)
theorem aOm {H:aT} {n c:Nat} {B:Blk} {g:Nat->Blk} (h: ∀ j,j < n->H (65536*(j+1)+c)=g j) (hB:B=g n): ∀ j,j < n+1->cU H (65536*(n+1)+c) B (65536*(j+1)+c)=g j:=by
  intro j hj;by_cases e:j=n
  . simp_all
  . exact (bT _ _ OM).trans (h j OM)
theorem aMo {H:aT} {n c:Nat} {B C:Blk} (h: ∀ j,n<=j->H (65536*(j+1)+c)=C): ∀ j,n+1<=j->cU H (65536*(n+1)+c) B (65536*(j+1)+c)=C:=
  λj hj=>(bT _ _ OM).trans (h j OM)
theorem aJh {H:aT} {n c s:Nat} {B:Blk} {g g':Nat->Blk} (h: ∀ j,j < n->H (65536*(j+1)+c)=g j) (hB:B=g' s) (hg: ∀ j,j≠s->g j=g' j): ∀ j,j < n->cU H (65536*(s+1)+c) B (65536*(j+1)+c)=g' j:=by
  intro j hj;by_cases e:j=s
  . grind [aR]
  . exact (bT _ _ OM).trans ((h j hj).trans (hg j e))
def snR (L:List Pr) (n j:Nat):List Bool:=(List.range n).map λ(t:Nat)=>knK L (j:Int) (t:Int) L.length
theorem yS (L:List Pr) (n j:Nat):(snR L n j).length=n:=by simp [snR]
theorem aN6 {L:List Pr} {n j t:Nat} (h:t < n):aA (snR L n j) t=knK L j t L.length:=by rw [<- bL (by rw [yS]; exact h)]; simp [snR]
theorem aON (n j:Nat):snR [] n j=List.replicate n false:=by apply List.ext_getElem <;> simp [snR,knK]
theorem aGh {L:List Pr} {p:Pr} {u v:Int}:knK (L++[p]) u v (L++[p]).length=(knK L u v L.length||decide (p.s=u/\p.t=v)):=by
  rw [Bool.eq_iff_iff,Bool.or_eq_true,oH,oH,decide_eq_true_eq];constructor
  . grind [dB,aA]
  . rintro (⟨j,h1,h2⟩|h)
    . exact ⟨j,by rw [List.length_append]; omega,by rw [dB h1]; exact h2⟩
    . refine ⟨L.length,SI,?_⟩
      grind [aA]
theorem aIB {L:List Pr} {p:Pr} {n:Nat} (h0:0<=p.s) (h1:0<=p.t) (h2:p.t < n):(snR L n p.s.toNat).set p.t.toNat true=snR (L++[p]) n p.s.toNat:=by
  apply List.ext_getElem
  all_goals (grind [snR,aGh])
theorem aDr {L:List Pr} {p:Pr} {n j:Nat} (h0:0<=p.s) (h:j≠p.s.toNat):snR L n j=snR (L++[p]) n j:=by grind [snR,aGh]
def rwL (n m k:Nat):List V:=(List.range n).map λj=>if j < k then V.ms (65536*(j+1)+29) 1 0 m else V.nilsl
abbrev c1V (v:V):List V:=[v]
theorem pX (n m k:Nat):(rwL n m k).length=n:=by simp [rwL]
theorem aFb {n m k i:Nat} (h:i < n) (h2:i < k):aA (rwL n m k) i=V.ms (65536*(i+1)+29) 1 0 m:=by rw [<- bL (by rw [pX]; exact h)]; simp [rwL,h2]
theorem aLv (n m:Nat):rwL n m 0=List.replicate n V.nilsl:=by apply List.ext_getElem <;> simp [rwL]
theorem aN1 {n m k:Nat}:(rwL n m k).set k (V.ms (65536*(k+1)+29) 1 0 m)=rwL n m (k+1):=by
  apply List.ext_getElem
  . simp [rwL]
  . intro i g1 g2
    simp only [rwL,List.getElem_set,List.getElem_map,List.getElem_range]
    grind
theorem aMy {L:List Pr} {n:Nat} {u v:Int} (h0:0<=u) (h1:0<=v) (h2:v < n):aA (snR L n u.toNat) v.toNat=knK L u v L.length:=by grind [aN6]
theorem aGR {H:aT} {i:Nat} {p:Nat->Prop} {f:Nat->Nat} {g:Nat->Blk} (h: ∀ j,p j->H (f j)=g j) (hi: ∀ j,f j≠i): ∀ j,p j->mF i H (f j)=g j:=iF h hi
def zB (a b:M):List Int:=if nA a b≠0 then [] else (dst a b a.s b.s).getD []
def yC (a b:M):Bool:=if nA a b≠0 then false else (dst a b a.s b.s).isSome
theorem aQV {a b:M} (h:nA a b=0):bK a=0/\bK b=0/\a.i=b.i:=by grind [nA]
theorem aNs {m:M} (h:bK m=0):0<=m.s/\m.s < m.nx.length:=⟨(cY h).2.2.2.2.1,(cY h).2.2.2.2.2.1⟩
end
section
open Go Go.Proofs
attribute [local irreducible] aBa
theorem aFD (a b:M) (s t:Int) (hma:bK a=0) (hmb:bK b=0) (hi:a.i=b.i) (hs:0<=s/\s < a.nx.length) (ht:0<=t/\t < b.nx.length):bJ Tryz.prog 67 [(V.agg [(iV a.i),(iV a.s),(aC a.nx),(aC a.ot)]),(V.agg [(iV b.i),(iV b.s),(aC b.nx),(aC b.ot)]),(V.agg [(iV s),(iV t)])] (V.tup [(aD ((dst a b s t).getD [])),(V.bool ((dst a b s t).isSome))]):=by
 refine' pK [42] [⟨18,[0,1,2,3,4,5,6,7,8,9,10,11,12,13,14,15,16,17,18,19,20],[14],[]⟩] Tryz.func67 ?e λhB=>?_
 case e=>conv=>lhs; cbv
 dsimp only;have hqa:=cY hma;have hqb:=cY hmb;have hab:a.nx.length*b.nx.length<=128*128:=Nat.mul_le_mul hqa.2.2.2.1 hqb.2.2.2.1;refine aU<|cJ (i:=3) (n:=0) (m:=4) (cs:=[(iV a.i),(iV a.s),(aC a.nx),(aC a.ot)]) J (cM J) J J J<|cJ (i:=4) (n:=0) (m:=4) (cs:=[(iV b.i),(iV b.s),(aC b.nx),(aC b.ot)]) J (cM J) J J J<|cJ (i:=5) (n:=0) (m:=2) (cs:=[(iV s),(iV t)]) J (cM J) J J J<|aP<|aE<|aU<|aZ J J J J<|bA J<|aCk (i:=18) (n:=0) (m:=a.nx.length) (q:=a.nx.length) (f:=c1V) (x:=V.nilsl) J (cM J) (cS a.nx.length) (cS a.nx.length) J OM OM OM<|aE<|aO ?_
 refine aP<|eS J (@J Blk<|bk 1 171 1<|List.map c1V<|List.replicate a.nx.length V.nilsl) JR<|aE (aF λQ1 n1 x1 y1 z1=>?_)
 refine cF (λmm T H=> ∃ (k:Nat),mm=a.nx.length - k/\T 3=(cR 3)/\T 4=(cR 4)/\T 5=(cR 5)/\T 8=(V.ms 18 1 0 a.nx.length)/\T 20=(iV ((a.nx.length:Nat):Int))/\T 21=(iV ((k:Nat):Int))/\(∀ j,k<=j->H (65536*(j+1)+29)=iN)/\(∀ j,j < k->H (65536*(j+1)+29)=(bk 1 4 1<|List.map cB<|snR ([]) b.nx.length j))/\H 3=(bk 1 24 4 [[(iV a.i),(iV a.s),(aC a.nx),(aC a.ot)]])/\H 4=(bk 1 24 4 [[(iV b.i),(iV b.s),(aC b.nx),(aC b.ot)]])/\H 5=(bk 1 125 2 [[(iV s),(iV t)]])/\H 12=iN/\H 14=iN/\H 18=(bk 1 171 1<|List.map c1V (rwL a.nx.length b.nx.length k))/\H 42=iN/\(k<=a.nx.length)) ?_ ?_
 . 
  refine ⟨_,0,J,J,J,J,J,J,(bG (aM<|iV 0) J),(iF (iF (iF (iF (λ_ _=>J) (λj=>by omega)) (λj=>by omega)) (λj=>by omega)) (λj=>by omega)),(iF (iF (iF (iF (λj hj=>absurd hj<|Nat.not_lt_zero j) (λj=>by omega)) (λj=>by omega)) (λj=>by omega)) (λj=>by omega)),J,J,J,J,J,(bG (@J Blk<|bk 1 171 1<|List.map c1V<|List.replicate a.nx.length V.nilsl) (by (rw [aLv]; done))),J,?_⟩
  . omega
 intro mm T H ⟨k,hmm,t3,t4,t5,t8,t20,t21,hU3,hU2,h3,h4,h5,h12,h14,h18,h42,hk⟩ Q2 p12 p22 p32;refine aU<|bY t21 t20<|cE ?_
 refine aG J (λc3=>?_) λc3=>?_
 . 
  refine aB (aF λQ4 n4 x4 y4 z4=>(aU<|aI t21<|aE<|aSR (65536*(k+1))<|aI t8<|aP<|aZ t4 h4 J J<|bA J<|aCk (i:=65536*(k+1)+29) (n:=0) (m:=b.nx.length) (q:=b.nx.length) (f:=cB) (x:=false) J (cM<|hU3 _ OM) (cS b.nx.length) (cS b.nx.length) J OM OM OM<|dG (i:=k) (aM<|V.ms 18 1 0 a.nx.length) (cS k) ((bT _ _ OM).trans h18) oB J OM<|cZ (vs:=[(V.ms (65536*(k+1)+29) 1 0 b.nx.length)]) (B':=(bk 1 171 1<|List.map c1V<|(rwL a.nx.length b.nx.length k).set k (V.ms (65536*(k+1)+29) 1 0 b.nx.length))) J J J ((bT _ _ OM).trans h18) (jM (x:=(V.ms (65536*(k+1)+29) 1 0 b.nx.length)) (i:=k) (by (simp only [pX,yS,List.length_replicate,List.length_set]; omega)) J J J J)<|cE ?_));refine n4 _ _ (.done (fO<|cD t21<|aE ?_));refine p12 _ _ _ ?_ ⟨(k+1),J,t3,t4,t5,t8,t20,(bG (cS<|k+1) JR),(λj hj=>(iF (aMo hU3) (λj=>by omega)) j OM),(λj hj=>(iF (aOm hU2 (by rw [aON])) (λj=>by omega)) j OM),((bT _ _ OM).trans h3),((bT _ _ OM).trans h4),((bT _ _ OM).trans h5),((bT _ _ OM).trans h12),((bT _ _ OM).trans h14),(bG (@J Blk<|bk 1 171 1<|List.map c1V<|(rwL a.nx.length b.nx.length k).set k (V.ms (65536*(k+1)+29) 1 0 b.nx.length)) (by (rw [aN1]; done))),((bT _ _ OM).trans h42),?_⟩
  . omega
  . omega
 refine aS<|p32 _ _ _<|x1 _ _ (.done (aU<|aI t8<|aZ t5 h5 J J<|dS (i:=s) (aM<|V.ms 18 1 0 a.nx.length) (aM<|iV s) h18 oB J OM OM<|cG (v:=(V.ms (65536*(s.toNat+1)+29) 1 0 b.nx.length)) J h18 (dU (by simp only [pX]; omega) (by simp only [c1V,aFb (show s.toNat < a.nx.length by omega) (show s.toNat < k by omega)]; rfl))<|aZ t5 h5 J J<|dS (i:=t) (aM<|V.ms (65536*(s.toNat+1)+29) 1 0 b.nx.length) (aM<|iV t) (hU2 _ OM) oB J OM OM<|cZ (vs:=[(V.bool true)]) (B':=(bk 1 4 1<|List.map cB<|(snR ([]) b.nx.length s.toNat).set t.toNat true)) J J J (hU2 _ OM) (jM (x:=true) (i:=t.toNat) (by (simp only [pX,yS,List.length_replicate,List.length_set]; omega)) J J J J)<|cE<|W_g ?_))
 refine bB t5 ((bT _ _ OM).trans h5) J J<|bZ J J<|gA (i:=42) (n:=0) (qs:=[(0,(V.agg [(iV s),(iV t),V.nilsl]))]) (rows:=[[(iV s),(iV t),V.nilsl]]) J (cM<|(bT _ _ OM).trans h42) (cO (congrArg (λv=>(0,v)) J) J) J<|aE ?_
 refine aBu (id:=42) (l:=([])) (m:=([(⟨s,t,[]⟩:Pr)])) (f:=cPr) (@J Blk<|bk 1 173 3 [[(iV s),(iV t),V.nilsl]]) J (.done ?_);refine aO<|aE (aF λQ5 n5 x5 y5 z5=>?_)
 refine cF (λmm T H=> ∃ (i:Nat) (v:Nat) (L:List Pr) (v12:Nat) (v14:Nat),mm=a.nx.length*b.nx.length+1 - i/\T 3=(cR 3)/\T 4=(cR 4)/\T 8=(V.ms 18 1 0 a.nx.length)/\T 10=(V.ms 42 v 0 L.length)/\T 11=(iV ((i:Nat):Int))/\(∀ j,j < k->H (65536*(j+1)+29)=(bk 1 4 1<|List.map cB<|snR L b.nx.length j))/\H 3=(bk 1 24 4 [[(iV a.i),(iV a.s),(aC a.nx),(aC a.ot)]])/\H 4=(bk 1 24 4 [[(iV b.i),(iV b.s),(aC b.nx),(aC b.ot)]])/\H 5=(bk 1 125 2 [[(iV s),(iV t)]])/\(H 12).ver=v12/\((H 14).ver=v14/\(H 14).live=false)/\H 18=(bk 1 171 1<|List.map c1V (rwL a.nx.length b.nx.length k))/\H 42=(bk v 173 3<|List.map cPr L)/\(i<=L.length)/\(BI a b s t L)/\(dst a b s t=bq a b (a.nx.length*b.nx.length+1 - i) i L)) ?_ ?_
 . 
  refine ⟨_,0,1,[⟨s,t,[]⟩],0,0,J,t3,t4,t8,(bG (aM<|V.ms 42 1 0 1) JR),(bG (aM<|iV 0) J),(λj hj=>((iF (iF (aJh hU2 (congrArg (λl=>bk 1 4 1<|List.map cB l)<|aIB (L:=[]) (p:=⟨s,t,[]⟩) hs.1 ht.1 ht.2) λj hj=>by rw [aDr (p:=⟨s,t,[]⟩) hs.1 hj] <;> rfl) (λj=>by omega)) (λj=>by omega)) j OM).trans JR),((bT _ _ OM).trans h3),((bT _ _ OM).trans h4),((bT _ _ OM).trans h5),(cM<|(bT _ _ OM).trans h12),⟨(cM<|(bT _ _ OM).trans h14),congrArg Blk.live ((bT _ _ OM).trans h14)⟩,((bT _ _ OM).trans h18),(bG (@J Blk<|bk 1 173 3<|List.map cPr<|[]++[(⟨s,t,[]⟩:Pr)]) JR),?_,?_,?_⟩
  . simp
  . exact BI.start hs.1 hs.2 ht.1 ht.2
  . rfl
 intro mm T H ⟨i,v,L,v12,v14,hmm,t3,t4,t8,t10,t11,hU2,h3,h4,h5,h12,h14,h18,h42,hil,hbi,hc⟩ Q6 p16 p26 p36;have hln:=hbi.len;refine aO<|aI t11<|aI t10<|eS J h42 SI<|bY J J<|cE ?_
 refine aG J (λc7=>?_) λc7=>?_
 . 
  have hil2:i < L.length:=OM
  refine aB (aF λQ8 n8 x8 y8 z8=>(aU<|aI t10<|aI t11<|dG (i:=i) (aM<|V.ms 42 v 0 L.length) (cS i) h42 oB J OM<|cQ J h42<|cG (v:=(V.agg [(iV<|(aA L i).s),(iV<|(aA L i).t)])) J h42 (dU OM JR)<|bX (i:=12) (n:=v12) (m:=2) J h12 J<|dA J J J J J J J J J<|R_r<|aZ t3 h3 J J<|aE ?_));refine iZ λQ9 n9 x9 y9 z9=>?_;refine cF (λmm T H=> ∃ (x:Nat) (v2:Nat) (v14:Nat),mm=a.i.toNat - x/\T 3=(cR 3)/\T 4=(cR 4)/\T 8=(V.ms 18 1 0 a.nx.length)/\T 10=(V.ms 42 v2 0<|(lG a b (aA L i) L x).length)/\T 11=(iV ((i:Nat):Int))/\T 12=(V.mp 12 (v12+1) 0 0)/\T 55=(iV a.i)/\T 56=(iV ((x:Nat):Int))/\(∀ j,j < k->H (65536*(j+1)+29)=(bk 1 4 1<|List.map cB<|snR (lG a b (aA L i) L x) b.nx.length j))/\H 3=(bk 1 24 4 [[(iV a.i),(iV a.s),(aC a.nx),(aC a.ot)]])/\H 4=(bk 1 24 4 [[(iV b.i),(iV b.s),(aC b.nx),(aC b.ot)]])/\H 5=(bk 1 125 2 [[(iV s),(iV t)]])/\H 12=(bk (v12+1) 125 2 [[(iV<|(aA L i).s),(iV<|(aA L i).t)]])/\((H 14).ver=v14/\(H 14).live=false)/\H 18=(bk 1 171 1<|List.map c1V (rwL a.nx.length b.nx.length k))/\H 42=(bk v2 173 3<|List.map cPr<|lG a b (aA L i) L x)/\(x<=a.i.toNat)/\(∀ j,j < x->bqD a b (aA L i) j=false)) ?_ ?_
  . 
   refine ⟨_,0,v,v14,J,t3,t4,t8,(bG t10 JR),t11,J,J,(bG (aM<|iV 0) J),(λj hj=>((iF (iF hU2 (λj=>by omega)) (λj=>by omega)) j OM).trans JR),h3,h4,h5,J,h14,h18,(bG h42 JR),?_,?_⟩
   . omega
   . intro j hj; omega
  intro mm T H ⟨x,v2,v14,hmm,t3,t4,t8,t10,t11,t12,t55,t56,hU2,h3,h4,h5,h12,h14,h18,h42,hx,hdx⟩ Q10 p110 p210 p310;refine aU<|bY t56 t55<|cE ?_
  refine aG J (λc11=>?_) λc11=>?_
  . 
   have r0:=hbi.row hma hmb hi hil2 (x:=x) OM hdx;have r9:=r0.len;have r1:i < (lG a b (aA L i) L x).length:=Nat.lt_of_lt_of_le hil2 aBp;have r2:aA (lG a b (aA L i) L x) i=aA L i:=aBw hil2;have r3:=hbi.rg _<|bC hil2
   have r4:=hbi.ln i hil2;have r5:=mQ hma r3.1 r3.2.1;have r6:=mQ hmb r3.2.2.1 r3.2.2.2;have n1:=nX hma r3.1 r3.2.1 (x:=x) OM;have n2:=nX hmb r3.2.2.1 r3.2.2.2 (x:=x) OM;have n3:=n1;have n4:=n2;unfold kI yB at n3 n4;refine aB (aF λQ12 n12 x12 y12 z12=>(aU<|aI t56<|aE<|aO<|aZ t3 h3 J J<|aZ t12 h12 J J<|dQ (i:=((aA L i).s)) (aM<|aC a.ot) (aM<|iV<|(aA L i).s) OM OM J<|aJ J J<|aP<|dL (i:=x) (aM<|aD<|aA a.ot ((aA L i).s).toNat) (cS x) ?_));refine aJ J J<|aZ t4 h4 J J<|aZ t12 h12 J J<|dQ (i:=((aA L i).t)) (aM<|aC b.ot) (aM<|iV<|(aA L i).t) OM OM J<|aJ J J<|aP<|dL (i:=x) (aM<|aD<|aA b.ot ((aA L i).t).toNat) (cS x)<|aJ J J<|cA J J<|cE ?_
   refine aG J (λc13=>?_) λc13=>?_
   . 
    have d1:bqD a b (aA L i) x=true:=decide_eq_true c13;have hz:dst a b s t=some ((aA L i).w++[(x:Int)]):=by rw [hc,aQz hil2 OM OM d1 hdx]
    refine aO<|aI t10<|aI t11<|dG (i:=i) (aM<|V.ms 42 v2 0<|(lG a b (aA L i) L x).length) (cS i) h42 oB J OM<|cQ J h42<|cG (v:=(aD<|(aA (lG a b (aA L i) L x) i).w)) J h42 (dU OM JR)<|aP<|aY J J<|aY J J<|aL (dD ([(aA (lG a b (aA L i) L x) i).w,[((x:Nat):Int)]]) (by simp only [r2,bH,List.append_nil,List.length_append,List.length_singleton]; omega)) J<|aP<|aE<|aN<|y12 _ _ ?_
    refine p210 _ _<|y9 _ _<|y8 _ _<|p26 _ _<|y5 _ _ ?_
    refine lE (aM<|aD<|bH<|[(aA (lG a b (aA L i) L x) i).w,[((x:Nat):Int)]]) (aM<|V.bool true) (dM ?_ (λ_=>by simp))<|cK ?_
    . rw [hz]; simp only [r2]; rfl
    . rw [hz]; rfl
   have d1:bqD a b (aA L i) x=false:=decide_eq_false c13;refine aB ?_;refine aA4 (λT H=>T 3=(cR 3)/\T 4=(cR 4)/\T 8=(V.ms 18 1 0 a.nx.length)/\T 10=(V.ms 42 v2 0<|(lG a b (aA L i) L x).length)/\T 11=(iV ((i:Nat):Int))/\T 12=(V.mp 12 (v12+1) 0 0)/\T 13=(iV ((x:Nat):Int))/\T 14=(V.mp 14 (v14+1) 0 0)/\T 55=(iV a.i)/\T 56=(iV ((x:Nat):Int))/\(∀ j,j < k->H (65536*(j+1)+29)=(bk 1 4 1<|List.map cB<|snR (lG a b (aA L i) L x) b.nx.length j))/\H 3=(bk 1 24 4 [[(iV a.i),(iV a.s),(aC a.nx),(aC a.ot)]])/\H 4=(bk 1 24 4 [[(iV b.i),(iV b.s),(aC b.nx),(aC b.ot)]])/\H 5=(bk 1 125 2 [[(iV s),(iV t)]])/\H 12=(bk (v12+1) 125 2 [[(iV<|(aA L i).s),(iV<|(aA L i).t)]])/\H 14=(bk (v14+1) 125 2 [[(iV<|aA (aA a.nx ((aA L i).s).toNat) x),(iV<|aA (aA b.nx ((aA L i).t).toNat) x)]])/\H 18=(bk 1 171 1<|List.map c1V (rwL a.nx.length b.nx.length k))/\H 42=(bk v2 173 3<|List.map cPr<|lG a b (aA L i) L x)/\True) (by exact (tD h14.2 wD)) ?_ ?_
   . 
    refine aZ t3 h3 J J<|aZ t12 h12 J J<|dQ (i:=((aA L i).s)) (aM<|aC a.nx) (aM<|iV<|(aA L i).s) OM OM J<|aJ J J<|aP<|dL (i:=x) (aM<|aD<|aA a.nx ((aA L i).s).toNat) (cS x)<|aJ J J<|aZ t4 h4 J J<|aZ t12 h12 J J<|dQ (i:=((aA L i).t)) (aM<|aC b.nx) (aM<|iV<|(aA L i).t) OM OM J<|aJ J J<|aP ?_
    refine dL (i:=x) (aM<|aD<|aA b.nx ((aA L i).t).toNat) (cS x)<|aJ J J<|bZ J J<|bX (i:=14) (n:=v14) (m:=2) J h14.1 J<|dA J J J J J J J J J ?_
    exact gD ⟨t3,t4,t8,t10,t11,t12,J,J,t55,t56,(iF (iF hU2 (λj=>by omega)) (λj=>by omega)),h3,h4,h5,h12,J,h18,h42,trivial⟩
   intro T H ⟨t3,t4,t8,t10,t11,t12,t13,t14,t55,t56,hU2,h3,h4,h5,h12,h14,h18,h42,_⟩;refine aU<|bB t14 h14 J J<|bB t12 h12 J J<|aQL J J<|aP ?_
   refine bN 11 (λT H=>T 3=(cR 3)/\T 4=(cR 4)/\T 8=(V.ms 18 1 0 a.nx.length)/\T 10=(V.ms 42 v2 0<|(lG a b (aA L i) L x).length)/\T 11=(iV ((i:Nat):Int))/\T 12=(V.mp 12 (v12+1) 0 0)/\T 13=(iV ((x:Nat):Int))/\T 14=(V.mp 14 (v14+1) 0 0)/\T 55=(iV a.i)/\T 56=(iV ((x:Nat):Int))/\T 120=(V.bool<|decide (¬((aA (aA a.nx ((aA L i).s).toNat) x)=((aA L i).s)/\(aA (aA b.nx ((aA L i).t).toNat) x)=((aA L i).t)))&&(!(aA (snR (lG a b (aA L i) L x) b.nx.length<|(aA (aA a.nx (aA L i).s.toNat) x).toNat)<|(aA (aA b.nx ((aA L i).t).toNat) x).toNat)))/\(∀ j,j < k->H (65536*(j+1)+29)=(bk 1 4 1<|List.map cB<|snR (lG a b (aA L i) L x) b.nx.length j))/\H 3=(bk 1 24 4 [[(iV a.i),(iV a.s),(aC a.nx),(aC a.ot)]])/\H 4=(bk 1 24 4 [[(iV b.i),(iV b.s),(aC b.nx),(aC b.ot)]])/\H 5=(bk 1 125 2 [[(iV s),(iV t)]])/\H 12=(bk (v12+1) 125 2 [[(iV<|(aA L i).s),(iV<|(aA L i).t)]])/\H 14=(bk (v14+1) 125 2 [[(iV<|aA (aA a.nx ((aA L i).s).toNat) x),(iV<|aA (aA b.nx ((aA L i).t).toNat) x)]])/\H 18=(bk 1 171 1<|List.map c1V (rwL a.nx.length b.nx.length k))/\H 42=(bk v2 173 3<|List.map cPr<|lG a b (aA L i) L x)/\True) ?_ ?_
   . 
    by_cases g14: ¬((aA (aA a.nx ((aA L i).s).toNat) x)=((aA L i).s)/\(aA (aA b.nx ((aA L i).t).toNat) x)=((aA L i).t))
    . 
     refine aK (bU g14 J)<|aI t8<|aK (bU g14 J)<|cQ t14 h14<|aK (bU g14 J)<|bB J h14 J J<|aK (bU g14 J)<|dS (i:=(aA (aA a.nx ((aA L i).s).toNat) x)) (aM<|V.ms 18 1 0 a.nx.length) (aM<|iV<|aA (aA a.nx ((aA L i).s).toNat) x) h18 oB J OM OM<|aK (bU g14 J)<|cG (v:=(V.ms (65536*((aA (aA a.nx (aA L i).s.toNat) x).toNat+1)+29) 1 0 b.nx.length)) J h18 (dU (by simp only [pX]; omega) (by simp only [c1V,aFb (show (aA (aA a.nx (aA L i).s.toNat) x).toNat < a.nx.length by omega) (show (aA (aA a.nx (aA L i).s.toNat) x).toNat < k by omega)]; rfl))<|aK (bU g14 J)<|cQ t14 h14<|aK (bU g14 J)<|bB J h14 J J<|aK (bU g14 J)<|dS (i:=(aA (aA b.nx ((aA L i).t).toNat) x)) (aM<|V.ms (65536*((aA (aA a.nx (aA L i).s.toNat) x).toNat+1)+29) 1 0 b.nx.length) (aM<|iV<|aA (aA b.nx ((aA L i).t).toNat) x) (hU2 _ OM) oB J OM OM ?_
     refine aK (bU g14 J)<|cG (v:=(V.bool<|aA (snR (lG a b (aA L i) L x) b.nx.length<|(aA (aA a.nx (aA L i).s.toNat) x).toNat)<|(aA (aA b.nx ((aA L i).t).toNat) x).toNat)) J (hU2 _ OM) (dU (by (simp only [pX,yS,List.length_replicate,List.length_set]; omega)) JR)<|aK (bU g14 J)<|jS J<|bP (bU g14 J) J ?_
     exact ⟨t3,t4,t8,t10,t11,t12,t13,t14,t55,t56,(aFq g14),hU2,h3,h4,h5,h12,h14,h18,h42,trivial⟩
    . 
     refine bQ (bV g14 J)<|bQ (bV g14 J)<|bQ (bV g14 J)<|bQ (bV g14 J)<|bQ (bV g14 J)<|bQ (bV g14 J)<|bQ (bV g14 J)<|bQ (bV g14 J)<|bQ (bV g14 J)<|bQ (bV g14 J)<|bO (bV g14 J) J ?_
     exact ⟨t3,t4,t8,t10,t11,t12,t13,t14,t55,t56,(aEM g14),hU2,h3,h4,h5,h12,h14,h18,h42,trivial⟩
   intro T H ⟨t3,t4,t8,t10,t11,t12,t13,t14,t55,t56,t120,hU2,h3,h4,h5,h12,h14,h18,h42,_⟩;refine cE ?_;refine pS t120 (λc15=>?_) (λc15=>?_)
   . 
    have q0:=aMy (L:=lG a b (aA L i) L x) n1.1 n2.1 n2.2.1;have d2:knK (lG a b (aA L i) L x) (kI a (aA L i).s x) (kI b (aA L i).t x) (lG a b (aA L i) L x).length=false:=q0.symm.trans (by have q:=c15; rw [Bool.and_eq_true] at q; have q1:=q.2; rw [Bool.not_eq_true'] at q1; exact q1);refine aU<|aI t8<|aZ t14 h14 J J<|dS (i:=(aA (aA a.nx ((aA L i).s).toNat) x)) (aM<|V.ms 18 1 0 a.nx.length) (aM<|iV<|aA (aA a.nx ((aA L i).s).toNat) x) h18 oB J OM OM<|cG (v:=(V.ms (65536*((aA (aA a.nx (aA L i).s.toNat) x).toNat+1)+29) 1 0 b.nx.length)) J h18 (dU (by simp only [pX]; omega) (by simp only [c1V,aFb (show (aA (aA a.nx (aA L i).s.toNat) x).toNat < a.nx.length by omega) (show (aA (aA a.nx (aA L i).s.toNat) x).toNat < k by omega)]; rfl))<|aZ t14 h14 J J<|dS (i:=(aA (aA b.nx ((aA L i).t).toNat) x)) (aM<|V.ms (65536*((aA (aA a.nx (aA L i).s.toNat) x).toNat+1)+29) 1 0 b.nx.length) (aM<|iV<|aA (aA b.nx ((aA L i).t).toNat) x) (hU2 _ OM) oB J OM OM<|cZ (vs:=[(V.bool true)]) (B':=(bk 1 4 1<|List.map cB<|(snR (lG a b (aA L i) L x) b.nx.length<|(aA (aA a.nx (aA L i).s.toNat) x).toNat).set ((aA (aA b.nx ((aA L i).t).toNat) x).toNat) true)) J J J (hU2 _ OM) (jM (x:=true) (i:=((aA (aA b.nx ((aA L i).t).toNat) x).toNat)) (by (simp only [pX,yS,List.length_replicate,List.length_set]; omega)) J J J J)<|cE<|fO<|aI t10<|bB t14 ((bT _ _ OM).trans h14) J J<|aI t10<|aI t11 ?_
    refine dG (i:=i) (aM<|V.ms 42 v2 0<|(lG a b (aA L i) L x).length) (cS i) ((bT _ _ OM).trans h42) oB J OM<|cQ J ((bT _ _ OM).trans h42)<|cG (v:=(aD<|(aA (lG a b (aA L i) L x) i).w)) J ((bT _ _ OM).trans h42) (dU OM JR)<|aI t13<|aY J J<|aY J J<|aL (dD ([(aA (lG a b (aA L i) L x) i).w,[((x:Nat):Int)]]) (by simp only [r2,bH,List.append_nil,List.length_append,List.length_singleton]; omega)) J<|bZ J J<|aY J J<|gF (l:=(lG a b (aA L i) L x)) (f:=cPr) (x:=(⟨aA (aA a.nx ((aA L i).s).toNat) x,aA (aA b.nx ((aA L i).t).toNat) x,bH ([(aA (lG a b (aA L i) L x) i).w,[((x:Nat):Int)]])⟩:Pr)) (aM<|V.ms 42 v2 0<|(lG a b (aA L i) L x).length) ((bT _ _ OM).trans h42) JR (aM<|V.sl [[(iV<|aA (aA a.nx ((aA L i).s).toNat) x),(iV<|aA (aA b.nx ((aA L i).t).toNat) x),(aD<|bH<|[(aA (lG a b (aA L i) L x) i).w,[((x:Nat):Int)]])]])<|aE<|n12 _ _ ?_
    refine .freeze 14 (.done ?_);refine tR (λT H=>T 3=(cR 3)/\T 4=(cR 4)/\T 8=(V.ms 18 1 0 a.nx.length)/\T 10=(V.ms 42 (v2+1) 0<|((lG a b (aA L i) L x).length)+1)/\T 11=(iV ((i:Nat):Int))/\T 12=(V.mp 12 (v12+1) 0 0)/\T 55=(iV a.i)/\T 56=(iV ((x+1:Nat):Int))/\(∀ j,j < k->H (65536*(j+1)+29)=(bk 1 4 1<|List.map cB<|snR (lG a b (aA L i) L x++[⟨(kI a (aA L i).s x),(kI b (aA L i).t x),(aA L i).w++[(x:Int)]⟩]) b.nx.length j))/\H 3=(bk 1 24 4 [[(iV a.i),(iV a.s),(aC a.nx),(aC a.ot)]])/\H 4=(bk 1 24 4 [[(iV b.i),(iV b.s),(aC b.nx),(aC b.ot)]])/\H 5=(bk 1 125 2 [[(iV s),(iV t)]])/\H 12=(bk (v12+1) 125 2 [[(iV<|(aA L i).s),(iV<|(aA L i).t)]])/\((H 14).ver=v14+1/\(H 14).live=false)/\H 18=(bk 1 171 1<|List.map c1V (rwL a.nx.length b.nx.length k))/\H 42=(bk (v2+1) 173 3<|List.map cPr<|lG a b (aA L i) L x++[(⟨aA (aA a.nx ((aA L i).s).toNat) x,aA (aA b.nx ((aA L i).t).toNat) x,bH ([(aA (lG a b (aA L i) L x) i).w,[((x:Nat):Int)]])⟩:Pr)])/\True) ?_ ?_
    . 
     refine cD (aX t56 J)<|aP ?_
     exact gD ⟨(aX t3 J),(aX t4 J),(aX t8<|dV DE),J,(aX t11 J),(aX t12 J),(aX t55 J),J,(aGR (iF (aJh hU2 (congrArg (λl=>bk 1 4 1<|List.map cB l)<|aIB (p:=⟨(kI a (aA L i).s x),(kI b (aA L i).t x),(aA L i).w++[(x:Int)]⟩) n1.1 n2.1 n2.2.1) λj hj=>by rw [aDr (p:=⟨(kI a (aA L i).s x),(kI b (aA L i).t x),(aA L i).w++[(x:Int)]⟩) n1.1 hj]) (λj=>by omega)) (λj=>by omega)),(aQ (id:=14) ((bT _ _ OM).trans h3) DE),(aQ (id:=14) ((bT _ _ OM).trans h4) DE),(aQ (id:=14) ((bT _ _ OM).trans h5) DE),(aQ (id:=14) ((bT _ _ OM).trans h12) DE),(fW<|cM<|(bT _ _ OM).trans h14),(aQ (id:=14) ((bT _ _ OM).trans h18) DE),J,trivial⟩
    intro T H ⟨t3,t4,t8,t10,t11,t12,t55,t56,hU2,h3,h4,h5,h12,h14,h18,h42,_⟩;refine p110 _ _ _ ?_ ⟨(x+1),(v2+1),(v14+1),J,t3,t4,t8,(bG t10 (by (rw [aH7 d2,List.length_append]; rfl))),t11,t12,t55,(bG t56 JR),(λj hj=>(hU2 j OM).trans (by (rw [aH7 d2]; done))),h3,h4,h5,h12,h14,h18,(bG h42 (by (simp only [r2]; rw [aH7 d2]; rfl))),?_,?_⟩
    . omega
    . omega
    . intro j hj
      by_cases e:j=x
      . subst e; exact d1
      . exact hdx j OM
   have q0:=aMy (L:=lG a b (aA L i) L x) n1.1 n2.1 n2.2.1
   have d2:knK (lG a b (aA L i) L x) (kI a (aA L i).s x) (kI b (aA L i).t x) (lG a b (aA L i) L x).length=true:=by
     by_cases e:(aA (aA a.nx (aA L i).s.toNat) x)=(aA L i).s/\(aA (aA b.nx (aA L i).t.toNat) x)=(aA L i).t
     . exact oH.2 ⟨i,r1,by rw [r2]; exact ⟨e.1.symm,e.2.symm⟩⟩
     . cases h:aA (snR (lG a b (aA L i) L x) b.nx.length (aA (aA a.nx (aA L i).s.toNat) x).toNat) (aA (aA b.nx (aA L i).t.toNat) x).toNat with
       |true=>exact q0.symm.trans h
       |false=>exact absurd (c15.symm.trans (by rw [h]; simp only [Bool.not_false,Bool.and_true]; exact decide_eq_true e)) Bool.false_ne_true
   refine dH<|n12 _ _ ?_
   refine .freeze 14 (.done ?_);refine fO<|cD (aX t56 J)<|aE ?_
   refine p110 _ _ _ ?_ ⟨(x+1),v2,(v14+1),J,(aX t3 J),(aX t4 J),(aX t8<|dV DE),(bG (aX t10<|dV DE) (by (rw [aES d2]; done))),(aX t11 J),(aX t12 J),(aX t55 J),(bG (cS<|x+1) JR),(λj hj=>((aGR hU2 (λj=>by omega)) j OM).trans (by (rw [aES d2]; done))),(aQ (id:=14) h3 DE),(aQ (id:=14) h4 DE),(aQ (id:=14) h5 DE),(aQ (id:=14) h12 DE),(fW<|cM h14),(aQ (id:=14) h18 DE),(bG (aQ (id:=14) h42 DE) (by (rw [aES d2]; done))),?_,?_⟩
   . omega
   . omega
   . intro j hj
     by_cases e:j=x
     . subst e; exact d1
     . exact hdx j OM
  refine aS<|p310 _ _ _<|x9 _ _<|n8 _ _ (.done (fO<|aI t11<|cD J<|aE ?_))
  refine p16 _ _ _ ?_ ⟨(i+1),v2,(lG a b (aA L i) L a.i.toNat),(v12+1),v14,J,t3,t4,t8,(bG t10 (by (rw [show x=a.i.toNat by omega]; done))),(bG (cS<|i+1) JR),(λj hj=>(hU2 j OM).trans (by (rw [show x=a.i.toNat by omega]; done))),h3,h4,h5,(cM h12),h14,h18,(bG h42 (by (rw [show x=a.i.toNat by omega]; done))),?_,?_,?_⟩
  . omega
  . have:=aBp (a:=a) (b:=b) (p:=aA L i) (L:=L) (x:=a.i.toNat); omega
  . exact hbi.row hma hmb hi OM (Nat.le_refl _) λj hj=>hdx j OM
  . rw [hc,aRU OM OM λj hj=>hdx j OM]
 have hz:dst a b s t=none:=by rw [hc,aQM OM]
 refine aS<|p36 _ _ _<|x5 _ _ (.done (aU<|aP<|aE<|bE ?_))
 refine lE (aM V.nilsl) (aM<|V.bool false) (cC ?_)<|cK ?_
 . rw [hz]; rfl
 . rw [hz]; rfl
end
section
open Go Go.Proofs
theorem aG4 (a b:M):bJ Tryz.prog 26 [(V.agg [(iV a.i),(iV a.s),(aC a.nx),(aC a.ot)]),(V.agg [(iV b.i),(iV b.s),(aC b.nx),(aC b.ot)])] (V.tup [(aD (zB a b)),(V.bool (yC a b)),(iV (nA a b))]):=by
 refine' pK [] [] Tryz.func26 ?e λhB=>?_
 case e=>conv=>lhs; cbv
 dsimp only;refine aU<|cJ (i:=2) (n:=0) (m:=4) (cs:=[(iV a.i),(iV a.s),(aC a.nx),(aC a.ot)]) J (cM J) J J J<|cJ (i:=3) (n:=0) (m:=4) (cs:=[(iV b.i),(iV b.s),(aC b.nx),(aC b.ot)]) J (cM J) J J J<|aP<|aP<|aE<|aO<|bB J J J J<|bB J J J J<|aL (aF9 a b) J<|aE<|aO ?_
 refine aP<|cA J J<|cE ?_
 refine aG J (λc1=>?_) λc1=>?_
 . 
  have d1:=c1;refine aO<|aP<|aP<|aP<|aE<|aN ?_
  refine rU (aM V.nilsl) (aM<|V.bool false) (aM<|iV<|nA a b) (cC ?_) (cK ?_)<|eA SI J
  . unfold zB; rw [if_pos d1]
  . unfold yC; rw [if_pos d1]
 have d0:nA a b=0:=OM
 obtain ⟨hma,hmb,hi⟩:=aQV d0;refine aB<|aU<|bB J J J J<|bB J J J J<|aZ J J J J<|aZ J J J J<|bZ J J<|aL (aFD a b a.s b.s hma hmb hi (aNs hma)<|aNs hmb) J<|aP<|bR J J<|bR J J<|aP<|aE ?_
 refine aU<|aP<|aP<|aP<|aP<|aE<|bE ?_
 refine rU (aM<|aD<|(dst a b a.s b.s).getD []) (aM<|V.bool<|(dst a b a.s b.s).isSome) (aM<|iV 0) (dM ?_ (λ_=>by simp)) (cK ?_)<|aH ?_
 . unfold zB; rw [if_neg OM]
 . unfold yC; rw [if_neg OM]
 . omega
end
section
open Go
def xH (h:Hy) (o:Ob) (w:List Int):Int:=
  if gG h≠0 then gG h else if h.m.i≠o.i then 15 else if cP w o.i≠0 then cP w o.i else if (dP o w).isSome=false then 12 else if (dP o w).getD []=aV h.m h.m.s w then 8 else 0
def mU (h:Hy) (w:List Int) (i:Nat):Int:=eJ h.m h.m.s (w.take i)
def tT (h:Hy) (w:List Int) (i:Nat):List Int:=aA h.acc (mU h w i).toNat
def jL (h:Hy) (w:List Int) (i:Nat):List Int:=bH [tT h w i,w.drop i]
def baA (h:Hy) (o:Ob) (w:List Int) (i:Nat):Bool:=decide (((dP o (jL h w i)).getD []).drop (tT h w i).length≠aV h.m (mU h w i) (w.drop i))
def fnA (h:Hy) (o:Ob) (w:List Int):Nat->Nat->Nat->Option Nat×List Int×Int
  |0,_,_=>(none,[],0)
  | n + 1, lo, hi => if 1 < hi - lo then (if 1024 < (jL h w ((lo + hi) / 2)).length then (none, [], 3) else if (dP o (jL h w ((lo + hi) / 2))).isSome = false then (none, jL h w ((lo + hi) / 2), 0)
      else if baA h o w ((lo+hi) / 2)=true then fnA h o w n ((lo+hi) / 2) hi else fnA h o w n lo ((lo+hi) / 2)) else (some lo,[],0)
def snE (h:Hy) (o:Ob) (w:List Int) (i:Nat):Int:=if aA ((dP o (jL h w i)).getD []) (tT h w i).length≠aA (aA h.m.ot (mU h w i).toNat) (aA w i).toNat then 15 else 0
def snS (h:Hy) (o:Ob) (w:List Int) (i:Nat):Spl:=if snE h o w i≠0 then ⟨[],0,[]⟩ else ⟨tT h w i,aA w i,w.drop (i+1)⟩
def fdR (h:Hy) (o:Ob) (w:List Int):Option Nat×List Int×Int:=fnA h o w w.length 0 w.length
def lM (h:Hy) (o:Ob) (w:List Int):Spl:=if xH h o w≠0 then ⟨[],0,[]⟩ else match (fdR h o w).1 with|some i=>snS h o w i|none=>⟨[],0,[]⟩
def mO (h:Hy) (o:Ob) (w:List Int):List Int:=if xH h o w≠0 then [] else (fdR h o w).2.1
def fdE (h:Hy) (o:Ob) (w:List Int):Int:=if xH h o w≠0 then xH h o w else match (fdR h o w).1 with|some i=>snE h o w i|none=>(fdR h o w).2.2
theorem aLn {h:Hy} {o:Ob} {w:List Int} {n lo hi:Nat} (h1:1 < hi - lo) (h2:1024 < (jL h w ((lo+hi) / 2)).length):fnA h o w (n+1) lo hi=(none,[],3):=by grind [fnA]
theorem aJL {h:Hy} {o:Ob} {w:List Int} {n lo hi:Nat} (h1:1 < hi - lo) (h2:(jL h w ((lo+hi) / 2)).length<=1024) (h3:(dP o (jL h w ((lo+hi) / 2))).isSome=false):fnA h o w (n+1) lo hi=(none,jL h w ((lo+hi) / 2),0):=by grind [fnA]
theorem aEZ {h:Hy} {o:Ob} {w:List Int} {n lo hi:Nat} (h1:1 < hi - lo) (h2:(jL h w ((lo+hi) / 2)).length<=1024) (h3:(dP o (jL h w ((lo+hi) / 2))).isSome=true) (h4:baA h o w ((lo+hi) / 2)=true):fnA h o w (n+1) lo hi=fnA h o w n ((lo+hi) / 2) hi:=by grind [fnA]
theorem aCN {h:Hy} {o:Ob} {w:List Int} {n lo hi:Nat} (h1:1 < hi - lo) (h2:(jL h w ((lo+hi) / 2)).length<=1024) (h3:(dP o (jL h w ((lo+hi) / 2))).isSome=true) (h4:baA h o w ((lo+hi) / 2)=false):fnA h o w (n+1) lo hi=fnA h o w n lo ((lo+hi) / 2):=by grind [fnA]
theorem aJn {h:Hy} {o:Ob} {w:List Int} {n lo hi:Nat} (h1: ¬ 1 < hi - lo):fnA h o w (n+1) lo hi=(some lo,[],0):=by rw [fnA,if_neg h1]
theorem aKC {w:List Int} {n:Int} (hn:1<=n/\n<=1024) (h:cP w n=0) (i:Nat):cP (w.take i) n=0:=by
  have q:=dO h;refine iS hn (by simp; omega) λk hk=>?_;have hk2:k < w.length:=by simp at hk; omega
  rw [<- bL hk,List.getElem_take,bL hk2]; exact q.2 k hk2
theorem aJ5 {w:List Int} {n:Int} (hn:1<=n/\n<=1024) (h:cP w n=0) (i:Nat):cP (w.drop i) n=0:=by
  have q:=dO h;refine iS hn (by simp; omega) λk hk=>?_;have hk2:i+k < w.length:=by simp at hk; omega
  rw [<- bL hk,List.getElem_drop,bL hk2]; exact q.2 _ hk2
def ckA (h:Hy) (o:Ob):Int:=if gG h≠0 then gG h else if o.i≠h.m.i then 15 else 0
theorem aRo {m:M} (h:bK m=0):1<=m.i/\m.i<=1024:=by have:=cY h; omega
theorem aBB {h:Hy} {w:List Int} (hm:bK h.m=0) (hw:cP w h.m.i=0) (i:Nat):0<=mU h w i/\mU h w i < h.m.nx.length:=by
  have:=aMT (w:=w.take i) hm<|aKC (aRo hm) hw i
  exact this.2.2
theorem nL {h:Hy} (hv:gG h=0):bK h.m=0/\h.acc.length=h.m.nx.length/\ ∀ k,k < h.acc.length->(aA h.acc k).length<=1024:=by grind [aOa,dO]
theorem aB9 {h:Hy} {o:Ob} (e:ckA h o=0):gG h=0/\h.m.i=o.i:=by grind [ckA]
theorem aP9 {h:Hy} {o:Ob} {w:List Int} (e:ckA h o≠0):xH h o w=ckA h o:=by grind [ckA,xH]
theorem aSG {h:Hy} {o:Ob} {w:List Int} (e:ckA h o=0) (e2:cP w o.i≠0):xH h o w=cP w o.i:=by grind [aB9,xH]
theorem aSl {h:Hy} {o:Ob} {w:List Int} (e:ckA h o=0) (e2:cP w o.i=0) (e3:(dP o w).isSome=false):xH h o w=12:=by grind [aB9,xH]
theorem aR5 {h:Hy} {o:Ob} {w:List Int} (e:ckA h o=0) (e2:cP w o.i=0) (e3:(dP o w).isSome=true) (e4:(dP o w).getD []=aV h.m h.m.s w):xH h o w=8:=by grind [aB9,xH]
theorem aQb {h:Hy} {o:Ob} {w:List Int} (e:ckA h o=0) (e2:cP w o.i=0) (e3:(dP o w).isSome=true) (e4: ¬ (dP o w).getD []=aV h.m h.m.s w):xH h o w=0:=by grind [aB9,xH]
theorem aN5 {h:Hy} {o:Ob} {w:List Int} (e:xH h o w≠0):lM h o w=⟨[],0,[]⟩/\mO h o w=[]/\fdE h o w=xH h o w:=by grind [lM,mO,fdE]
theorem aBz {h:Hy} {o:Ob} {w q:List Int} {z:Int} (e:xH h o w=0) (e2:fdR h o w=(none,q,z)):lM h o w=⟨[],0,[]⟩/\mO h o w=q/\fdE h o w=z:=by grind [lM,mO,fdE]
theorem aGt {h:Hy} {o:Ob} {w q:List Int} {i:Nat} {z:Int} (e:xH h o w=0) (e2:fdR h o w=(some i,q,z)):lM h o w=snS h o w i/\mO h o w=q/\fdE h o w=snE h o w i:=by grind [lM,mO,fdE]
theorem aBX {h:Hy} {o:Ob} {w:List Int} (e:xH h o w=0):gG h=0/\h.m.i=o.i/\cP w o.i=0/\(dP o w).isSome=true/\ ¬ (dP o w).getD []=aV h.m h.m.s w/\0 < w.length:=by grind [xH,dP,aV]
theorem aBZ {h:Hy} (hv:gG h=0):(aA h.acc h.m.s.toNat).length=0:=by grind [gG]
theorem aF8 {h:Hy} {w:List Int} (hv:gG h=0):jL h w 0=w:=by grind [aBZ,jL,tT,mU,eJ,bH]
theorem sD (h:Hy) (w:List Int) (i:Nat):(jL h w i).length=(tT h w i).length+(w.length - i):=by simp [jL,bH]
end
section
open Go
theorem oD {o:Ob} {w:List Int}:(dP o w).isSome=true↔w=[]\/ ∃ u∈o.tr,hp u.ni w=true:=by
  unfold dP;split
  . rename_i h; simp [h]
  . rename_i h
    cases ha:aAf o.tr w with
    | none =>
      grind [aDT]
    | some x =>
      grind [rT]
theorem kX {o:Ob} {t:Tr} (h:(tJ o.i o.tr [t]).2=0):vR o [t]=⟨o.i,lH o.tr t⟩:=by grind [aJu,vR]
theorem aLg {o:Ob} {t:Tr} {w:List Int} (h:(tJ o.i o.tr [t]).2=0) (hk:(dP o w).isSome=true):(dP (vR o [t]) w).isSome=true:=by grind [oD,kX,lH,aFt,aLI,kp]
theorem oQ {m:M}: ∀ {ws:List (List Int)} {o:Ob},OK o->OK (eP m o ws).1/\(eP m o ws).1.i=o.i
  |[],o,h=>⟨h,rfl⟩
  | w :: ws, o, h => by
    unfold eP;split; · exact ⟨h,J⟩
    split; · exact ⟨h,J⟩
    have:=oQ (m:=m) (ws:=ws)<|aD3 (l:=[⟨w,gQ m m.s w⟩]) h
    grind [aIC]
theorem lW {m:M} {x:List Int}: ∀ {ws:List (List Int)} {o:Ob},(dP o x).isSome=true->(dP (eP m o ws).1 x).isSome=true
  |[],o,h=>h
  | w :: ws, o, h => by
    unfold eP;split; · exact h
    split; · exact h
    exact lW<|aLg OM h
theorem aPF {o:Ob} {t:Tr} (h:(tJ o.i o.tr [t]).2=0):(dP (vR o [t]) t.ni).isSome=true:=by grind [oD,kX,lH,aJd,List.length_pos_iff,aFt,aFm]
theorem zG {m:M} {x:List Int}: ∀ {ws:List (List Int)} {o:Ob},(eP m o ws).2=0->x∈ws->(dP (eP m o ws).1 x).isSome=true
  |[],_,_,h=>by cases h
  | w :: ws, o, h, hx => by
    unfold eP at h ⊢;split at h
    . exact absurd h (by assumption)
    rename_i g1;rw [if_neg g1];split at h
    . exact absurd h (by assumption)
    rename_i g2;rw [if_neg g2];rcases List.mem_cons.1 hx with e|e
    . subst e; exact lW<|aPF (t:=⟨x,_⟩) OM
    . exact zG h e
def lcA (h:Hy) (m:M) (w:List Int):Nat->Ob->Ob×Spl×Int
  |0,o=>(o,⟨[],0,[]⟩,0)
  | n + 1, o => if fdE h o w ≠ 0 \/ mO h o w = [] then (o, lM h o w, fdE h o w) else
      if (eP m o [mO h o w]).2≠0 then ((eP m o [mO h o w]).1,⟨[],0,[]⟩,(eP m o [mO h o w]).2) else lcA h m w n (eP m o [mO h o w]).1
def lcR (h:Hy) (m:M) (w:List Int) (o:Ob):Ob×Spl×Int:=
  if (eP m o [w]).2≠0 then ((eP m o [w]).1,⟨[],0,[]⟩,(eP m o [w]).2) else lcA h m w (w.length+1) (eP m o [w]).1
def unA (h:Hy) (o:Ob) (w:List Int):Nat->Nat
  |0=>0
  |n+1=>unA h o w n+(if (dP o (jL h w n)).isSome=true then 0 else 1)
theorem aHS {h:Hy} {o:Ob} {w:List Int}: ∀ {n:Nat},unA h o w n<=n
  |0=>Nat.le_refl _
  |n+1=>by have:=aHS (h:=h) (o:=o) (w:=w) (n:=n); unfold unA; split <;> omega
theorem aB5 {h:Hy} {o:Ob} {w:List Int}: ∀ {n lo hi:Nat},(fnA h o w n lo hi).2.1≠[]->hi<=w.length-> ∃ i,i < w.length/\(fnA h o w n lo hi).2.1=jL h w i/\(dP o (jL h w i)).isSome=false
  |0,_,_,e,_=>absurd rfl e
  | n + 1, lo, hi, e, hl => by
    unfold fnA at e ⊢;split at e
    . rename_i g1
      rw [if_pos g1];split at e
      . exact absurd J e
      rename_i g2;rw [if_neg g2];split at e
      . rename_i g3; rw [if_pos g3]; exact ⟨(lo+hi) / 2,OM,J,g3⟩
      rename_i g3;rw [if_neg g3];split at e
      . rename_i g4; rw [if_pos g4]; exact aB5 e hl
      . rename_i g4; rw [if_neg g4]; exact aB5 e OM
    . exact absurd J e
theorem aFZ {h:Hy} {o o':Ob} {w:List Int} (hk: ∀ x,(dP o x).isSome=true->(dP o' x).isSome=true): ∀ {n:Nat},unA h o' w n<=unA h o w n
  |0=>Nat.le_refl _
  | n + 1 => by
    have ih:=aFZ (h:=h) (w:=w) hk (n:=n)
    grind [unA]
theorem aCF {h:Hy} {o o':Ob} {w:List Int} (hk: ∀ x,(dP o x).isSome=true->(dP o' x).isSome=true) {i:Nat} (h1:(dP o (jL h w i)).isSome=false) (h2:(dP o' (jL h w i)).isSome=true): ∀ {n:Nat},i < n->unA h o' w n < unA h o w n
  |0,e=>by omega
  | n + 1, e => by
    unfold unA;by_cases q:i=n
    . subst q
      have:=aFZ (h:=h) (w:=w) hk (n:=i)
      grind
    . have ih:=aCF hk h1 h2 (n:=n) OM
      grind
theorem aFJ {h:Hy} {m:M} {w:List Int} {n:Nat} {o:Ob} (e: ¬ fdE h o w=0\/mO h o w=[]):lcA h m w (n+1) o=(o,lM h o w,fdE h o w):=if_pos e
theorem aOO {h:Hy} {m:M} {w:List Int} {n:Nat} {o:Ob} (e: ¬ (¬ fdE h o w=0\/mO h o w=[])) (e2:(eP m o [mO h o w]).2≠0):lcA h m w (n+1) o=((eP m o [mO h o w]).1,⟨[],0,[]⟩,(eP m o [mO h o w]).2):=by rw [lcA,if_neg e,if_pos e2]
theorem aLo {h:Hy} {m:M} {w:List Int} {n:Nat} {o:Ob} (e: ¬ (¬ fdE h o w=0\/mO h o w=[])) (e2:(eP m o [mO h o w]).2=0):lcA h m w (n+1) o=lcA h m w n (eP m o [mO h o w]).1:=by grind [lcA]
theorem aK4 {h:Hy} {o:Ob} {w:List Int} (_:fdE h o w=0) (e:mO h o w≠[]): ∃ i,i < w.length/\mO h o w=jL h w i/\(dP o (jL h w i)).isSome=false:=by
  unfold mO at e ⊢;split at e
  . exact absurd J e
  . rename_i g; rw [if_neg g]; exact aB5 e<|Nat.le_refl _
end
section
open Go
def nY (h:Hy) (w:List Int) (k:Nat):List Int:=eI (mU h w) k
theorem sR (h:Hy) (w:List Int) (k:Nat):(nY h w k).length=k:=bS _ _
theorem aLU (h:Hy) (w:List Int) (k:Nat):nY h w (k+1)=nY h w k++[mU h w k]:=fK _ _
theorem aEn {h:Hy} {w:List Int} {n k:Nat} (q:k < n):aA (nY h w n) k=mU h w k:=eG q
def oJ (h:Hy) (w:List Int):List Int:=aV h.m h.m.s w
theorem pR (h:Hy) (w:List Int):(oJ h w).length=w.length:=gI _ _ _
theorem aIo {h:Hy} {w:List Int} {k:Nat} (q:k < w.length):aA (oJ h w) k=aA (aA h.m.ot (mU h w k).toNat) (aA w k).toNat:=by
  have e:=aAG h.m h.m.s q;rw [oL,oL] at e;have l:=gI h.m w h.m.s;have e2:=cV (l:=aV h.m h.m.s w) (k:=k) OM;rw [e2] at e;have e3:=List.append_cancel_left e;injection e3
theorem aNc {h:Hy} {w:List Int} {i:Nat}:(oJ h w).drop i=aV h.m (mU h w i) (w.drop i):=by
  by_cases q:i<=w.length
  . have e:=gP h.m (w.take i) (w.drop i) h.m.s
    rw [List.take_append_drop] at e;unfold oJ;rw [e,List.drop_left' (by rw [gI,List.length_take]; omega)]
    rfl
  . rw [List.drop_of_length_le (by rw [pR]; omega),List.drop_of_length_le OM]; rfl
abbrev cSb (h:Hy) (o:Ob) (w:List Int):List V:=[iV h.m.i,iV h.m.s,aC h.m.nx,aC h.m.ot,aC h.acc,iV o.i,.sl (o.tr.map cT),aD w,aD (nY h w (w.length+1)),aD (oJ h w)]
def bgP (h:Hy) (o:Ob) (w:List Int):V:=if xH h o w≠0 then .nilp else .pp (cSb h o w)
theorem aNC {h:Hy} {o:Ob} {w:List Int} (e:xH h o w=0):bgP h o w=.pp (cSb h o w):=if_neg OM
@[simp] theorem aSD (h : Hy) (o : Ob) (w : List Int) : (bgP h o w).pure = true := by
  unfold bgP;split
  . rfl
  . simp
@[simp] theorem aPY (l:List Int) (k:Nat):hY ((l.map cI).take k)=true:=by rw [<- List.map_take]; exact iW _ _ λa=>by simp [cI]
theorem aMk {h:Hy} {w:List Int} {k:Nat} (q:k < w.length):mU h w (k+1)=aA (aA h.m.nx (mU h w k).toNat) (aA w k).toNat:=aAu _ _ q
theorem aQC {h:Hy} {w:List Int} {k:Nat} (q:k < w.length):(oJ h w).take (k+1)=(oJ h w).take k++[aA (aA h.m.ot (mU h w k).toNat) (aA w k).toNat]:=by
  rw [cV (by rw [pR]; omega),aIo q]
def reA (h:Hy) (o:Ob) (w:List Int) (i:Nat):List Int:=((dP o (jL h w i)).getD []).drop (tT h w i).length
theorem aRv {h:Hy} {o:Ob} {w:List Int} {i:Nat}:baA h o w i=decide (¬reA h o w i=(oJ h w).drop i):=by unfold baA reA; rw [aNc]
end
end Go.Proofs.YtinpihlhcmpkhaaGreat
