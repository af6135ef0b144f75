/- Contracts of the functions that the law R reaches, and the law itself, for every input; no condition. -/
import Derived.KernelRfl
import Derived.Test.YtinpihlhcmpkhaaGreatProg
import Derived.Test.YtinpihlhcmpkhaaGreatRows
import Derived.Test.YtinpihlhcmpkhaaGreatR4
set_option linter.unusedSimpArgs false
set_option linter.unusedVariables false
set_option maxRecDepth 20000
set_option maxHeartbeats 1000000
namespace Go.Proofs.YtinpihlhcmpkhaaGreat
section
open Go Go.Proofs
theorem aJd (o:Ob) (t:Tr) (ho:OK o):bK Tryz.prog 78 [(V.agg [(iV o.i),(V.sl (List.map cT o.tr))]),(V.agg [(aE t.ni),(aE t.no)])] (V.tup [(V.agg [(iV ((tF o [t]).i)),(V.sl (List.map cT ((tF o [t]).tr)))]),(iV ((rT o.i o.tr [t]).2))]):=by
 refine' pK [] [] Tryz.func78 ?e λhB=>?_
 case e=>conv=>lhs; cbv
 dsimp only;have hbd: ∀ k,k < o.tr.length->(aA o.tr k).ni.length<=1048576/\(aA o.tr k).no.length<=1048576:=λk hk=>by have:=(ho.pr k hk).1.len; have:=(ho.pr k hk).1.lel; omega
 have hol:=ho.len;have e1:=aL7 ho t;have e2:=aNQ ho t;refine aW<|bS (i:=2) (n:=0) (m:=2) (cs:=[(iV o.i),(V.sl<|List.map cT o.tr)]) J (cE J) J J J<|bS (i:=3) (n:=0) (m:=2) (cs:=[(aE t.ni),(aE t.no)]) J (cE J) J J J<|bM (i:=4) (n:=0) (m:=2) J (cE J) J<|aD<|aO<|aV J J J J<|aX J J J J<|aI (aDX t o.i) J<|aD<|aO ?_
 refine aP<|bP J J<|bR ?_
 refine aH J (λc1=>?_) λc1=>?_
 . 
  have d1:=c1;refine aO<|aV J J J J<|aP<|bQ J J J J J J J J J<|aD<|aK ?_
  refine dJ (bI (u:=(V.agg [(iV o.i),(V.sl<|List.map cT o.tr)])) J (@J Blk<|bk 1 31 2 [[(iV o.i),(V.sl<|List.map cT o.tr)]])<|lB oB J J) (aY<|aM<|iV<|vZ t o.i) (cK (aF ?_)<|cA ?_ (λ_=>by simp))<|aF ?_
  . rw [aA1]
  . rw [e2,if_pos (by rw [e1,if_pos d1]; first|exact d1|decide)]
  . rw [e1,if_pos d1]
 have d1:=c1;have hp1:=aBx (t:=t) (n:=o.i) OM;have hp2:=hp1.len;have hp3:=hp1.lel;refine aB<|aO<|aD (aG λQ2 n2 x2 y2 z2=>?_)
 refine cC (λmm T H=> ∃ (k:Nat),mm=o.tr.length - k/\T 2=(cG 2)/\T 3=(cG 3)/\T 4=(cG 4)/\T 7=(iV ((k:Nat):Int))/\H 2=(bk 1 31 2 [[(iV o.i),(V.sl<|List.map cT o.tr)]])/\H 3=(bk 1 56 2 [[(aE t.ni),(aE t.no)]])/\H 4=(bk 1 31 2 [[(iV 0),V.nilsl]])/\H 8=fL/\(k<=o.tr.length)/\(fi (ndP o.tr t) 0 o.tr.length=fi (ndP o.tr t) k (o.tr.length - k))) ?_ ?_
 . 
  refine ⟨_,0,J,J,J,J,(bL (aM<|iV 0) J),J,J,J,J,?_,?_⟩
  . omega
  . rfl
 intro mm T H ⟨k,hmm,t2,t3,t4,t7,h2,h3,h4,h8,hk,hc⟩ Q3 p13 p23 p33;refine aO<|aJ t7<|aX t2 h2 J J<|bA J<|bZ J J<|bR ?_
 refine aH J (λc4=>?_) λc4=>?_
 . 
  refine aB (aG λQ5 n5 x5 y5 z5=>(aW<|aX t2 h2 J J<|aJ t7<|dA (i:=k) (aM<|V.sl<|List.map cT o.tr) (cO k)<|aL J J<|aV t3 h3 J J<|aI (aDj (aA o.tr k) t ((ho.pr k OM).1.len) hp1.len) J<|iC J J<|bR ?_));refine fN J (λc6=>?_) λc6=>?_
  . 
   have d2:ndP o.tr t k=true:=decide_eq_true c6;refine aW<|aV t2 h2 J J<|bQ t4 J J h4 J J J J J<|aD<|bF<|y5 _ _<|p23 _ _<|y2 _ _ ?_
   refine dJ (bI (u:=(V.agg [(iV o.i),(V.sl<|List.map cT o.tr)])) t4 (@J Blk<|bk 1 31 2 [[(iV o.i),(V.sl<|List.map cT o.tr)]])<|lB oB J J) (aY<|aM<|iV 13) (cK (aF ?_)<|cA ?_ (λ_=>by simp))<|aF ?_
   . rw [aA1]
   . rw [e2,if_pos (by rw [e1,if_neg d1,if_pos (by rw [hc,mI d2 OM]; omega)]; first|exact d1|decide)]
   . rw [e1,if_neg d1,if_pos (by rw [hc,mI d2 OM]; omega)]
  have d2:ndP o.tr t k=false:=decide_eq_false c6;refine dH<|n5 _ _ (.done (eI<|aJ t7<|cF J<|aD ?_))
  refine p13 _ _ _ ?_ ⟨(k+1),J,t2,t3,t4,(bL (cO<|k+1) JR),h2,h3,h4,h8,?_,?_⟩
  . omega
  . omega
  . rw [hc,kL d2 OM]
 refine aT<|p33 _ _ _<|x2 _ _ (.done (aW<|aV t2 h2 J J<|aV t3 h3 J J<|aI (aJn o t OM OM hbd OM) J<|bM (i:=8) (n:=0) (m:=2) J (cE h8) J<|bQ J J J J J J J J J<|tA<|aW<|aX J J J J<|bA J ?_))
 refine eD J J<|bR ?_
 refine aH J (λc7=>?_) λc7=>?_
 . 
  have d3:=c7;refine aO<|aV t2 h2 J J<|bQ t4 J J h4 J J J J J<|aD<|aK ?_
  refine dJ (bI (u:=(V.agg [(iV o.i),(V.sl<|List.map cT o.tr)])) t4 (@J Blk<|bk 1 31 2 [[(iV o.i),(V.sl<|List.map cT o.tr)]])<|lB oB J J) (aY<|aM<|iV 11) (cK (aF ?_)<|cA ?_ (λ_=>by simp))<|aF ?_
  . rw [aA1]
  . rw [e2,if_pos (by rw [e1,if_neg d1,if_neg (by rw [hc,kD OM]; omega),if_pos OM]; first|exact d1|decide)]
  . rw [e1,if_neg d1,if_neg (by rw [hc,kD OM]; omega),if_pos OM]
 have d3:=c7;refine aB<|aW<|aV J J J J<|bQ t4 J J h4 J J J J J<|aD<|bF ?_
 refine dJ (bI (u:=(V.agg [(iV o.i),(V.sl<|List.map cT<|raL o.tr t)])) t4 (@J Blk<|bk 1 31 2 [[(iV o.i),(V.sl<|List.map cT<|raL o.tr t)]])<|lB oB J J) (aY<|aM<|iV 0) (cK (aF ?_)<|cA ?_ (λ_=>by simp))<|aF ?_
 . rw [aA1]
 . rw [e2,if_neg (by rw [e1,if_neg d1,if_neg (by rw [hc,kD OM]; omega),if_neg OM]; decide)]
 . rw [e1,if_neg d1,if_neg (by rw [hc,kD OM]; omega),if_neg OM]
theorem vL (o:Ob) (m:M) (ws:List (List Int)) (ho:OK o):bK Tryz.prog 30 [(V.agg [(iV o.i),(V.sl (List.map cT o.tr))]),(V.agg [(iV m.i),(iV m.s),(aC m.nx),(aC m.ot)]),(aC ws)] (V.tup [(V.agg [(iV ((dN m o ws).1.i)),(V.sl (List.map cT ((dN m o ws).1.tr)))]),(iV ((dN m o ws).2))]):=by
 refine' pK [] [⟨7,[0,1,2,3,4,5,6,7,8,9,10,11,12,13],[11],[]⟩] Tryz.func30 ?e λhB=>?_
 case e=>conv=>lhs; cbv
 dsimp only;refine aW<|bS (i:=3) (n:=0) (m:=2) (cs:=[(iV o.i),(V.sl<|List.map cT o.tr)]) J (cE J) J J J<|bS (i:=4) (n:=0) (m:=4) (cs:=[(iV m.i),(iV m.s),(aC m.nx),(aC m.ot)]) J (cE J) J J J<|bM (i:=6) (n:=0) (m:=2) J (cE J) J<|aD<|aO<|aD (aG λQ1 n1 x1 y1 z1=>?_)
 refine cC (λmm T H=> ∃ (k:Nat) (q:Ob) (v11:Nat),mm=ws.length - k/\T 2=(aC ws)/\T 3=(cG 3)/\T 4=(cG 4)/\T 6=(cG 6)/\T 8=(iV ((k:Nat):Int))/\H 3=(bk 1 31 2 [[(iV q.i),(V.sl<|List.map cT q.tr)]])/\H 4=(sA m)/\H 6=(bk 1 31 2 [[(iV 0),V.nilsl]])/\((H 11).ver=v11/\(H 11).live=false)/\(k<=ws.length)/\(OK q)/\(dN m o ws=dN m q (ws.drop k))) ?_ ?_
 . 
  refine ⟨_,0,o,0,J,J,J,J,J,(bL (aM<|iV 0) J),J,J,J,⟨(cE J),congrArg Blk.live (@J Blk fL)⟩,?_,?_,?_⟩
  . omega
  . exact ho
  . rfl
 intro mm T H ⟨k,q,v11,hmm,t2,t3,t4,t6,t8,h3,h4,h6,h11,hk,hok,hc⟩ Q2 p12 p22 p32;refine aO<|aJ t8<|aJ t2<|bA J<|bZ J J<|bR ?_
 refine aH J (λc3=>?_) λc3=>?_
 . 
  refine aB (aG λQ4 n4 x4 y4 z4=>(aW<|aV t4 h4 J J<|aJ t2<|aJ t8<|dA (i:=k) (aM<|aC ws) (cO k)<|aL J J<|aI (aJi m<|aA ws k) J<|aP<|bE J J<|bE J J<|aP<|aD<|cS ?_));refine aW<|aP<|bP J J<|bR ?_
  refine aH J (λc5=>?_) λc5=>?_
  . 
   have d0:=c5;refine aO<|aV t3 h3 J J<|aP<|bQ t6 J J h6 J J J J J<|aD<|aK<|y4 _ _<|p22 _ _<|y1 _ _ ?_
   refine dJ (bI (u:=(V.agg [(iV q.i),(V.sl<|List.map cT q.tr)])) t6 (@J Blk<|bk 1 31 2 [[(iV q.i),(V.sl<|List.map cT q.tr)]])<|lB oB J J) (aY<|aM<|iV<|rK m m.s<|aA ws k) (cK (aF ?_)<|cA ?_ (λ_=>by simp))<|aF ?_
   . rw [hc,vO OM d0]
   . rw [hc,vO OM d0]
   . rw [hc,vO OM d0]
  have d1:rK m m.s (aA ws k)=0:=OM
  refine aB<|W_d (by exact (oP h11.2 qQ))<|aV t3 h3 J J<|aJ t2<|aJ t8<|dA (i:=k) (aM<|aC ws) (cO k)<|aL J J<|aP<|bN J J<|aI (aJd q (⟨(aA ws k),(fG m m.s<|aA ws k)⟩:Tr) hok) J<|aP<|bE J J<|bE J J<|bM (i:=11) (n:=v11) (m:=2) J h11.1 J<|bQ J J J J J J J J J<|aP ?_
  refine tA<|aW<|aP<|bP J J<|bR ?_
  refine aH J (λc6=>?_) λc6=>?_
  . 
   have d2:=c6;refine aO<|aV t3 h3 J J<|aP<|bQ t6 J J h6 J J J J J<|aD<|aK<|y4 _ _<|p22 _ _<|y1 _ _ ?_
   refine dJ (bI (u:=(V.agg [(iV q.i),(V.sl<|List.map cT q.tr)])) t6 (@J Blk<|bk 1 31 2 [[(iV q.i),(V.sl<|List.map cT q.tr)]])<|lB oB J J) (aY<|aM<|iV<|(rT q.i q.tr [(⟨(aA ws k),(fG m m.s<|aA ws k)⟩:Tr)]).2) (cK (aF ?_)<|cA ?_ (λ_=>by simp))<|aF ?_
   . rw [hc,uZ OM d1 d2]
   . rw [hc,uZ OM d1 d2]
   . rw [hc,uZ OM d1 d2]
  have d2:(rT q.i q.tr [⟨aA ws k,fG m m.s (aA ws k)⟩]).2=0:=OM
  refine aB<|eI<|aV J J J J<|bQ t3 J J h3 J J J J J<|bR<|n4 _ _ ?_
  refine .freeze 11 (.done ?_);refine eI<|aJ (bB t8 J)<|cF J<|aD ?_
  refine p12 _ _ _ ?_ ⟨(k+1),(tF q [⟨aA ws k,fG m m.s (aA ws k)⟩]),(v11+1),J,(bB t2 J),(bB t3 J),(bB t4 J),(bB t6 J),(bL (cO<|k+1) JR),(bL (@J Blk<|bk 1 31 2 [[(iV<|(tF q [(⟨(aA ws k),(fG m m.s<|aA ws k)⟩:Tr)]).i),(V.sl<|List.map cT<|(tF q [(⟨(aA ws k),(fG m m.s<|aA ws k)⟩:Tr)]).tr)]]) JR),(aR (id:=11) h4 DE),(aR (id:=11) h6 DE),⟨J,J⟩,?_,?_,?_⟩
  . omega
  . omega
  . exact aDr hok
  . rw [hc,aLP OM d1 d2]
 refine aT<|p32 _ _ _<|x1 _ _ (.done (aW<|aV t3 h3 J J<|bQ t6 J J h6 J J J J J<|aD<|bF ?_))
 refine dJ (bI (u:=(V.agg [(iV q.i),(V.sl<|List.map cT q.tr)])) t6 (@J Blk<|bk 1 31 2 [[(iV q.i),(V.sl<|List.map cT q.tr)]])<|lB oB J J) (aY<|aM<|iV 0) (cK (aF ?_)<|cA ?_ (λ_=>by simp))<|aF ?_
 . rw [hc,vG OM]
 . rw [hc,vG OM]
 . rw [hc,vG OM]
theorem xW (h:Hy):bK Tryz.prog 13 [(V.agg [(iV h.m.i),(iV h.m.s),(aC h.m.nx),(aC h.m.ot),(aC h.acc)])] (iV (gY h)):=by
 refine' pK [] [] Tryz.func13 ?e λhB=>?_
 case e=>conv=>lhs; cbv
 dsimp only;refine aW<|bS (i:=1) (n:=0) (m:=5) (cs:=[(iV h.m.i),(iV h.m.s),(aC h.m.nx),(aC h.m.ot),(aC h.acc)]) J (cE J) J J J<|aD<|aO<|aX J J J J<|aI (nR h.m) J<|aD<|aO<|aP<|bP J J<|bR ?_
 refine aH J (λc1=>?_) λc1=>?_
 . 
  refine aO<|aP<|aD<|aK ?_
  refine aZ (aM<|iV<|eO h.m)<|aF ?_
  . rw [gY,if_pos OM]
 have hm:=gW (m:=h.m) OM;refine aB<|aO<|aX J J J J<|bA J<|cM J J<|aX J J J J<|bA J<|bP J J<|bR ?_
 refine aH J (λc2=>?_) λc2=>?_
 . 
  refine aO<|aD<|aK ?_
  refine aZ (aM<|iV 1)<|aF ?_
  . rw [gY,if_neg OM,if_pos OM]
 refine aB<|aO<|aD (aG λQ3 n3 x3 y3 z3=>?_)
 refine cC (λmm T H=> ∃ (k:Nat),mm=h.acc.length - k/\T 1=(cG 1)/\T 4=(iV ((k:Nat):Int))/\H 1=(bk 1 28 5 [[(iV h.m.i),(iV h.m.s),(aC h.m.nx),(aC h.m.ot),(aC h.acc)]])/\(k<=h.acc.length)/\(eO h.m=0)/\(h.acc.length=h.m.nx.length)/\(0<=h.m.s/\h.m.s < h.m.nx.length/\h.m.nx.length<=128)/\(fe (mY h) 0 h.acc.length=fe (mY h) k (h.acc.length - k))) ?_ ?_
 . 
  refine ⟨_,0,J,J,(bL (aM<|iV 0) J),J,?_,?_,?_,?_,?_⟩
  . omega
  . omega
  . omega
  . omega
  . rfl
 intro mm T H ⟨k,hmm,t1,t4,h1,hk,hv,hl,hs,hc⟩ Q4 p14 p24 p34;refine aO<|aJ t4<|aX t1 h1 J J<|bA J<|bZ J J<|bR ?_
 refine aH J (λc5=>?_) λc5=>?_
 . 
  refine aB (aG λQ6 n6 x6 y6 z6=>(aW<|aX t1 h1 J J<|aJ t4<|dA (i:=k) (aM<|aC h.acc) (cO k)<|aL J J<|aD<|aO<|aP<|cM t1 h1<|aX J h1 J J ?_));refine aI (fX (aA h.acc k) h.m.i) J<|aD<|aO<|aP<|bP J J<|bR ?_
  refine aH J (λc7=>?_) λc7=>?_
  . 
   refine aO<|aP<|aD<|aK<|y6 _ _<|p24 _ _<|y3 _ _ ?_
   refine aZ (aM<|iV<|dG (aA h.acc k) h.m.i)<|aF ?_
   . have e:mY h k=dG (aA h.acc k) h.m.i:=by rw [mY,if_pos OM]
     have e2:fe (mY h) 0 h.acc.length=mY h k:=by rw [hc]; exact fV OM OM
     rw [gY,if_neg OM,if_neg OM,if_pos OM]; omega
  have hw:=eL (w:=aA h.acc k) (n:=h.m.i) OM;refine aB<|aW<|aX t1 h1 J J<|cM t1 h1<|aX J h1 J J<|aP<|aI (rO h.m h.m.s (aA h.acc k) hv ⟨hs.1,hs.2.1⟩ hw.1 hw.2) J<|aP<|bE J J<|bE J J<|aP<|aD<|aW ?_
  refine aP<|aJ t4<|bP J J<|bR ?_
  refine fN J (λc8=>?_) λc8=>?_
  . 
   refine aW<|aD<|bF<|y6 _ _<|p24 _ _<|y3 _ _ ?_
   refine aZ (aM<|iV 15)<|aF ?_
   . have e:mY h k=15:=by rw [mY,if_neg OM,if_pos OM]
     have e2:fe (mY h) 0 h.acc.length=mY h k:=by rw [hc]; exact fV OM OM
     rw [gY,if_neg OM,if_neg OM,if_pos OM]; omega
  refine dH<|n6 _ _ (.done (eI<|aJ t4<|cF J<|aD ?_))
  refine p14 _ _ _ ?_ ⟨(k+1),J,t1,(bL (cO<|k+1) JR),h1,?_,?_,?_,?_,?_⟩
  . omega
  . omega
  . omega
  . omega
  . omega
  . have e:mY h k=0:=by rw [mY,if_neg OM,if_neg OM]
    rw [hc]; exact fW e OM
 refine aT<|p34 _ _ _<|x3 _ _ (.done (aO<|aX t1 h1 J J<|cM t1 h1<|aX J h1 J J<|dR (i:=h.m.s) (aM<|aC h.acc) (aM<|iV h.m.s) OM OM J<|aL J J<|bA J<|eD J J<|bR ?_))
 refine aH J (λc9=>?_) λc9=>?_
 . 
  refine aO<|aD<|aK ?_
  refine aZ (aM<|iV 10)<|aF ?_
  . have e2:fe (mY h) 0 h.acc.length=0:=by rw [hc,iM OM]
    rw [gY,if_neg OM,if_neg OM,if_neg OM,if_pos OM]
 refine aB<|aW<|aD<|bF ?_
 refine aZ (aM<|iV 0)<|aF ?_
 . have e2:fe (mY h) 0 h.acc.length=0:=by rw [hc,iM OM]
   rw [gY,if_neg OM,if_neg OM,if_neg OM,if_neg OM]
theorem aCx (l:List (List Int)) (w:List Int) (hw:w∈l):bK Tryz.prog 81 [(aC l),(aE w)] (iV (plI l w)):=by
 refine' pK [] [] Tryz.func81 ?e λhB=>?_
 case e=>conv=>lhs; cbv
 dsimp only;have q0:=aPw hw;refine aW<|aD<|aO<|aD (aG λQ1 n1 x1 y1 z1=>?_)
 refine cC (λmm T H=> ∃ (k:Nat),mm=l.length - k/\T 0=(aC l)/\T 1=(aE w)/\T 5=(iV ((k:Nat):Int))/\(k<=l.length)/\(plI l w=fi (λj=>decide (aA l j=w)) k (l.length - k))) ?_ ?_
 . 
  refine ⟨_,0,J,J,J,(bL (aM<|iV 0) J),?_,?_⟩
  . omega
  . rfl
 intro mm T H ⟨k,hmm,t0,t1,t5,hk,hc⟩ Q2 p12 p22 p32;refine aO<|aJ t5<|aJ t0<|bA J<|bZ J J<|bR ?_
 refine aH J (λc3=>?_) λc3=>?_
 . 
  refine aB (aG λQ4 n4 x4 y4 z4=>(aW<|aJ t0<|aJ t5<|dA (i:=k) (aM<|aC l) (cO k)<|aL J J<|aJ t1<|aI (lN (aA l k) w) J<|bR ?_));refine fN J (λc5=>?_) λc5=>?_
  . 
   have d1:=c5;refine aW<|aJ t5<|aD<|bF<|y4 _ _<|p22 _ _<|y1 _ _ ?_
   refine aZ (cO k)<|aF ?_
   . rw [hc,mI (p:=λj=>decide (aA l j=w)) (decide_eq_true d1) OM]
  have d1:=c5;refine dH<|n4 _ _ (.done (eI<|aJ t5<|cF J<|aD ?_))
  refine p12 _ _ _ ?_ ⟨(k+1),J,t0,t1,(bL (cO<|k+1) JR),?_,?_⟩
  . omega
  . omega
  . rw [hc,kL (p:=λj=>decide (aA l j=w)) (decide_eq_false d1) OM]
 refine aT<|p32 _ _ _<|x1 _ _ (.done (aW<|aD<|bF ?_))
 refine aZ (aM<|iV 0)<|aF ?_
 . exfalso; rw [hc,kD OM] at q0; omega
theorem aIF (l:Ts) (o:Ob) (hb:Bd l.t) (ho:kS o=0) (hx:(dD l).length<=5000):bK Tryz.prog 31 [(V.agg [(iV l.i),(V.sl (List.map cN l.t.nd))]),(V.agg [(iV o.i),(V.sl (List.map cT o.tr))])] (V.tup [(V.agg [(iV ((iH l o).m.i)),(iV ((iH l o).m.s)),(aC ((iH l o).m.nx)),(aC ((iH l o).m.ot)),(aC ((iH l o).acc))]),(iV (wQ l o))]):=by
 refine' pK [12,13] [] Tryz.func31 ?e λhB=>?_
 case e=>conv=>lhs; cbv
 dsimp only;have hal:=jS l.t.nd;have hxl:=vE l

 refine aW<|bS (i:=2) (n:=0) (m:=2) (cs:=[(iV l.i),(V.sl<|List.map cN l.t.nd)]) J (cE J) J J J<|bS (i:=3) (n:=0) (m:=2) (cs:=[(iV o.i),(V.sl<|List.map cT o.tr)]) J (cE J) J J J<|bM (i:=4) (n:=0) (m:=5) J (cE J) J<|aD<|aO<|aV J J J J<|aV J J J J<|aI (rI l o hb) J<|aD<|aO<|aP ?_
 refine bP J J<|bR ?_
 refine aH J (λc1=>?_) λc1=>?_
 . 
  have za:=c1;refine aO<|bN J J<|aP<|bQ J J J J J J J J J<|aD<|aK ?_
  refine dJ (bI (u:=(V.agg [(iV 0),(iV 0),V.nilsl,V.nilsl,V.nilsl])) J (@J Blk<|bk 1 28 5 [[(iV 0),(iV 0),V.nilsl,V.nilsl,V.nilsl]])<|lB oB J J) (aY<|aM<|iV<|jL l o) (fH (aF ?_) (aF ?_) (bH ?_) (bH ?_)<|bH ?_)<|aF ?_
  . try rw [jR za]
    try rw [dO (by rw [jR za]; exact za)]
    try rfl
  . try rw [jR za]
    try rw [dO (by rw [jR za]; exact za)]
    try rfl
  . try rw [jR za]
    try rw [dO (by rw [jR za]; exact za)]
    try rfl
  . try rw [jR za]
    try rw [dO (by rw [jR za]; exact za)]
    try rfl
  . try rw [jR za]
    try rw [dO (by rw [jR za]; exact za)]
    try rfl
  . try rw [jR za]
    try rw [dO (by rw [jR za]; exact za)]
    try rfl
 have za:=c1;have ht:=aBV (show jL l o=0 by omega);obtain ⟨hi1,hi2,hv,hw0,_,hl0⟩:=tL ht.1;have hbn:=hb.n;have hll:=oZ hv;have hlv:fU l.t=(if gU l.t=0 then fB (eP l.t.nd) else []):=J;refine aB<|aW<|aV J J J J<|aV J J J J<|aI (wD l o hb ht.1 ho hx) J<|aP<|bE J J<|bE J J<|aP<|aD<|aO<|aP<|bP J J<|bR ?_
 refine aH J (λc2=>?_) λc2=>?_
 . 
  have zb:=c2;refine aO<|bN J J<|aP<|bQ J J J J J J J J J<|aD<|aK ?_
  refine dJ (bI (u:=(V.agg [(iV 0),(iV 0),V.nilsl,V.nilsl,V.nilsl])) J (@J Blk<|bk 1 28 5 [[(iV 0),(iV 0),V.nilsl,V.nilsl,V.nilsl]])<|lB oB J J) (aY<|aM<|iV<|lE l o) (fH (aF ?_) (aF ?_) (bH ?_) (bH ?_)<|bH ?_)<|aF ?_
  . try rw [jQ za zb]
    try rw [dO (by rw [jQ za zb]; exact zb)]
    try rfl
  . try rw [jQ za zb]
    try rw [dO (by rw [jQ za zb]; exact zb)]
    try rfl
  . try rw [jQ za zb]
    try rw [dO (by rw [jQ za zb]; exact zb)]
    try rfl
  . try rw [jQ za zb]
    try rw [dO (by rw [jQ za zb]; exact zb)]
    try rfl
  . try rw [jQ za zb]
    try rw [dO (by rw [jQ za zb]; exact zb)]
    try rfl
  . try rw [jQ za zb]
    try rw [dO (by rw [jQ za zb]; exact zb)]
    try rfl
 have zb:=c2;refine aB<|aO<|aP<|bA J<|eD J J<|bR ?_
 refine aH J (λc3=>?_) λc3=>?_
 . 
  have zc:0 < (oD<|rD l o).length:=by have q:=c3; rw [if_pos (show lE l o=0 by omega)] at q; omega
  refine aO<|bN J J<|bQ J J J J J J J J J<|aD<|aK ?_
  refine dJ (bI (u:=(V.agg [(iV 0),(iV 0),V.nilsl,V.nilsl,V.nilsl])) J (@J Blk<|bk 1 28 5 [[(iV 0),(iV 0),V.nilsl,V.nilsl,V.nilsl]])<|lB oB J J) (aY<|aM<|iV 12) (fH (aF ?_) (aF ?_) (bH ?_) (bH ?_)<|bH ?_)<|aF ?_
  . try rw [jP za zb zc]
    try rw [dO (by rw [jP za zb zc]; decide)]
    try rfl
  . try rw [jP za zb zc]
    try rw [dO (by rw [jP za zb zc]; decide)]
    try rfl
  . try rw [jP za zb zc]
    try rw [dO (by rw [jP za zb zc]; decide)]
    try rfl
  . try rw [jP za zb zc]
    try rw [dO (by rw [jP za zb zc]; decide)]
    try rfl
  . try rw [jP za zb zc]
    try rw [dO (by rw [jP za zb zc]; decide)]
    try rfl
  . try rw [jP za zb zc]
    try rw [dO (by rw [jP za zb zc]; decide)]
    try rfl
 have zc: ¬0 < (oD<|rD l o).length:=by have q:=c3; rw [if_pos (show lE l o=0 by omega)] at q; omega
 refine aB<|aW<|aX J J J J<|aI (jC l.t hb) J<|aI (oW (eP l.t.nd) OM<|aBU hb) J<|aD<|aW<|aX J J J J<|bN J J<|bN J J<|bM (i:=10) (n:=0) (m:=5) J (cE J) J<|bQ J J J J J J J J J<|bR ?_
 refine cS<|W_g<|aD<|eJ (R:=λT H=>T 2=(cG 2)/\T 3=(cG 3)/\T 4=(cG 4)/\T 9=(aC<|fB<|eP l.t.nd)/\T 10=(cG 10)/\T 11=(iV 0)/\H 2=(bk 1 49 2 [[(iV l.i),(V.sl<|List.map cN l.t.nd)]])/\H 3=(bk 1 31 2 [[(iV o.i),(V.sl<|List.map cT o.tr)]])/\H 4=(bk 1 28 5 [[(iV 0),(iV 0),V.nilsl,V.nilsl,V.nilsl]])/\H 10=(bk 1 28 5 [[(iV l.i),(iV 0),V.nilsl,V.nilsl,V.nilsl]])/\H 12=fL/\H 13=fL/\H 812=fL/\H 813=fL/\H 814=fL/\True) ⟨(aM<|cG 2),(aM<|cG 3),(aM<|cG 4),(aM<|aC<|fB<|eP l.t.nd),(aM<|cG 10),(aM<|iV 0),J,J,J,J,J,J,J,J,J,trivial⟩ ?_
 intro T H ⟨t2,t3,t4,t9,t10,t11,h2,h3,h4,h10,h12,h13,h812,h813,h814,_⟩;refine .lazyCell 812 54 1 10 0 2 [(iV l.i),(iV 0),V.nilsl,V.nilsl,V.nilsl] DE (by rw [h10]; rfl) (by rw [h10]; rfl) J (eJ (R:=λT H=>T 2=(cG 2)/\T 3=(cG 3)/\T 4=(cG 4)/\T 9=(aC<|fB<|eP l.t.nd)/\T 10=(cG 10)/\T 11=(iV 0)/\H 2=(bk 1 49 2 [[(iV l.i),(V.sl<|List.map cN l.t.nd)]])/\H 3=(bk 1 31 2 [[(iV o.i),(V.sl<|List.map cT o.tr)]])/\H 4=(bk 1 28 5 [[(iV 0),(iV 0),V.nilsl,V.nilsl,V.nilsl]])/\H 10=(bk 1 28 5 [[(iV l.i),(iV 0),(V.ms 812 1 0 0),V.nilsl,V.nilsl]])/\H 12=fL/\H 13=fL/\H 812=(bz 1 54 1 [])/\H 813=fL/\H 814=fL/\True) ⟨t2,t3,t4,t9,t10,t11,(gB<|gB h2),(gB<|gB h3),(gB<|gB h4),(by rw [aU,h10,(cE h812)]; rfl),(gB<|gB h12),(gB<|gB h13),(by rw [cD _ _ DE,aU,(cE h812)]),(gB<|gB h813),(gB<|gB h814),trivial⟩ ?_);intro T H ⟨t2,t3,t4,t9,t10,t11,h2,h3,h4,h10,h12,h13,h812,h813,h814,_⟩;refine .lazyCell 813 54 1 10 0 3 [(iV l.i),(iV 0),(V.ms 812 1 0 0),V.nilsl,V.nilsl] DE (by rw [h10]; rfl) (by rw [h10]; rfl) J (eJ (R:=λT H=>T 2=(cG 2)/\T 3=(cG 3)/\T 4=(cG 4)/\T 9=(aC<|fB<|eP l.t.nd)/\T 10=(cG 10)/\T 11=(iV 0)/\H 2=(bk 1 49 2 [[(iV l.i),(V.sl<|List.map cN l.t.nd)]])/\H 3=(bk 1 31 2 [[(iV o.i),(V.sl<|List.map cT o.tr)]])/\H 4=(bk 1 28 5 [[(iV 0),(iV 0),V.nilsl,V.nilsl,V.nilsl]])/\H 10=(bk 1 28 5 [[(iV l.i),(iV 0),(V.ms 812 1 0 0),(V.ms 813 1 0 0),V.nilsl]])/\H 12=fL/\H 13=fL/\H 812=(bz 1 54 1 [])/\H 813=(bz 1 54 1 [])/\H 814=fL/\True) ⟨t2,t3,t4,t9,t10,t11,(gB<|gB h2),(gB<|gB h3),(gB<|gB h4),(by rw [aU,h10,(cE h813)]; rfl),(gB<|gB h12),(gB<|gB h13),(gB<|gB h812),(by rw [cD _ _ DE,aU,(cE h813)]),(gB<|gB h814),trivial⟩ ?_)
 intro T H ⟨t2,t3,t4,t9,t10,t11,h2,h3,h4,h10,h12,h13,h812,h813,h814,_⟩;refine .lazyCell 814 54 1 10 0 4 [(iV l.i),(iV 0),(V.ms 812 1 0 0),(V.ms 813 1 0 0),V.nilsl] DE (by rw [h10]; rfl) (by rw [h10]; rfl) J (.done ?_);refine eJ (R:=λT H=>T 2=(cG 2)/\T 3=(cG 3)/\T 4=(cG 4)/\T 9=(aC<|fB<|eP l.t.nd)/\T 10=(cG 10)/\T 11=(iV 0)/\H 2=(bk 1 49 2 [[(iV l.i),(V.sl<|List.map cN l.t.nd)]])/\H 3=(bk 1 31 2 [[(iV o.i),(V.sl<|List.map cT o.tr)]])/\H 4=(bk 1 28 5 [[(iV 0),(iV 0),V.nilsl,V.nilsl,V.nilsl]])/\H 10=(bk 1 28 5 [[(iV l.i),(iV 0),(V.ms 812 1 0 0),(V.ms 813 1 0 0),(V.ms 814 1 0 0)]])/\H 12=fL/\H 13=fL/\H 812=(bz 1 54 1 [])/\H 813=(bz 1 54 1 [])/\H 814=(bz 1 54 1 [])/\True) ⟨t2,t3,t4,t9,t10,t11,(gB<|gB h2),(gB<|gB h3),(gB<|gB h4),(by rw [aU,h10,(cE h814)]; rfl),(gB<|gB h12),(gB<|gB h13),(gB<|gB h812),(gB<|gB h813),(by rw [cD _ _ DE,aU,(cE h814)]),trivial⟩ ?_;intro T H ⟨t2,t3,t4,t9,t10,t11,h2,h3,h4,h10,h12,h13,h812,h813,h814,_⟩;refine aG λQ4 n4 x4 y4 z4=>?_;refine cC (λmm T H=> ∃ (k:Nat) (v:Nat) (w:Nat) (u:Nat) (v12:Nat) (v13:Nat),mm=(fU l.t).length - k/\T 2=(cG 2)/\T 3=(cG 3)/\T 4=(cG 4)/\T 9=(aC<|fU l.t)/\T 10=(cG 10)/\T 11=(iV ((k:Nat):Int))/\H 2=(bk 1 49 2 [[(iV l.i),(V.sl<|List.map cN l.t.nd)]])/\H 3=(bk 1 31 2 [[(iV o.i),(V.sl<|List.map cT o.tr)]])/\H 4=(bk 1 28 5 [[(iV 0),(iV 0),V.nilsl,V.nilsl,V.nilsl]])/\H 10=(bk 1 28 5 [[(iV l.i),(iV 0),(V.ms 812 v 0 k),(V.ms 813 w 0 k),(V.ms 814 u 0 k)]])/\((H 12).ver=v12/\(H 12).live=false)/\((H 13).ver=v13/\(H 13).live=false)/\H 812=(bz v 54 1<|List.map cL<|iO (gV (wH l o) l.i.toNat) k)/\H 813=(bz w 54 1<|List.map cL<|iO (gV (pY l o) l.i.toNat) k)/\H 814=(bz u 54 1<|List.map cL<|(fU l.t).take k)/\(k<=(fU l.t).length)/\(qF l o=fi (wC l o) (k*l.i.toNat) ((dD l).length - k*l.i.toNat))) ?_ ?_
 . 
  refine ⟨_,0,1,1,1,0,0,J,t2,t3,t4,(bL t9 (by (rw [xD hv]; done))),t10,(bL t11 J),h2,h3,h4,h10,⟨(cE h12),congrArg Blk.live h12⟩,⟨(cE h13),congrArg Blk.live h13⟩,(bL h812 JR),(bL h813 JR),(bL h814 JR),?_,?_⟩
  . omega
  . simp [qF]
 intro mm T H ⟨k,v,w,u,v12,v13,hmm,t2,t3,t4,t9,t10,t11,h2,h3,h4,h10,h12,h13,h812,h813,h814,hk,hc⟩ Q5 p15 p25 p35;refine aO<|aJ t11<|aJ t9<|bA J<|bZ J J<|bR ?_
 refine aH J (λc6=>?_) λc6=>?_
 . 
  have hM1:=aMP (show (0:Int)<=l.i by omega) k;have hM2:=aMP (show (0:Int)<=l.i by omega)<|k+1
  have hM3:(k+1)*l.i.toNat=k*l.i.toNat+l.i.toNat:=Nat.succ_mul _ _;have hM4:(k+1)*l.i.toNat<=(fU l.t).length*l.i.toNat:=Nat.mul_le_mul_right _ OM;have r2:=(zU ht.1<|cW (show k < (fU l.t).length by omega)).1;refine aB (aG λQ7 n7 x7 y7 z7=>(aW<|gG (i:=12) (n:=v12) J h12.1<|gG (i:=13) (n:=v13) J h13.1<|tA<|aW<|aD (aG λQ8 n8 x8 y8 z8=>?_)));refine cC (λmm T H=> ∃ (j:Nat) (v2:Nat) (w2:Nat),mm=l.i.toNat - j/\T 2=(cG 2)/\T 3=(cG 3)/\T 4=(cG 4)/\T 9=(aC<|fU l.t)/\T 10=(cG 10)/\T 11=(iV ((k:Nat):Int))/\T 12=(V.ms 12 v2 0 j)/\T 13=(V.ms 13 w2 0 j)/\T 14=(iV ((j:Nat):Int))/\H 2=(bk 1 49 2 [[(iV l.i),(V.sl<|List.map cN l.t.nd)]])/\H 3=(bk 1 31 2 [[(iV o.i),(V.sl<|List.map cT o.tr)]])/\H 4=(bk 1 28 5 [[(iV 0),(iV 0),V.nilsl,V.nilsl,V.nilsl]])/\H 10=(bk 1 28 5 [[(iV l.i),(iV 0),(V.ms 812 v 0 k),(V.ms 813 w 0 k),(V.ms 814 u 0 k)]])/\H 12=(bz v2 3 1<|List.map cI<|iO (λa=>wH l o<|k*l.i.toNat+a) j)/\H 13=(bz w2 3 1<|List.map cI<|iO (λa=>pY l o<|k*l.i.toNat+a) j)/\H 812=(bz v 54 1<|List.map cL<|iO (gV (wH l o) l.i.toNat) k)/\H 813=(bz w 54 1<|List.map cL<|iO (gV (pY l o) l.i.toNat) k)/\H 814=(bz u 54 1<|List.map cL<|(fU l.t).take k)/\(j<=l.i.toNat)/\(qF l o=fi (wC l o) (k*l.i.toNat+j) ((dD l).length - (k*l.i.toNat+j)))) ?_ ?_
  . 
   refine ⟨_,0,(v12+1),(v13+1),J,t2,t3,t4,t9,t10,t11,(bL (aM<|V.ms 12 (v12+1) 0 0) JR),(bL (aM<|V.ms 13 (v13+1) 0 0) JR),(bL (aM<|iV 0) J),h2,h3,h4,h10,(bL (@J Blk<|bz (v12+1) 3 1 []) JR),(bL (@J Blk<|bz (v13+1) 3 1 []) JR),h812,h813,h814,?_,?_⟩
   . omega
   . exact hc
  intro mm T H ⟨j,v2,w2,hmm,t2,t3,t4,t9,t10,t11,t12,t13,t14,h2,h3,h4,h10,h12,h13,h812,h813,h814,hj,hc2⟩ Q9 p19 p29 p39;refine aO<|aJ t14<|aX t2 h2 J J<|bZ J J<|bR ?_
  refine aH J (λc10=>?_) λc10=>?_
  . 
   have hnd:=aBd za zb zc (show k*l.i.toNat+j < (dD l).length by omega);have hkn:=aCE zc (show k*l.i.toNat+j < (dD l).length by omega);have r1:=pL ht.1<|cW (show k*l.i.toNat+j < (dD l).length by omega)
   have d10:=aIg ho r1.2.1 hkn;have d8:=aLi (l:=l) (show k < (fU l.t).length by omega) (show j < l.i.toNat by omega);have d7:=aGM l<|k*l.i.toNat+j
   rw [d8.1,d8.2] at d7 d10;refine aB (aG λQ11 n11 x11 y11 z11=>(aW<|aX t2 h2 J J<|aV t3 h3 J J<|aJ t9<|aJ t11<|dA (i:=k) (aM<|aC<|fU l.t) (cO k)<|aL J J<|aJ t14<|aS J J<|aS J J<|sM (bO J dQ) (by have q:=eB [aA (fU l.t) k,[(j:Int)]] (by simp only [bD,List.append_nil,List.length_append,List.length_cons,List.length_nil]; omega); rw [d7] at q; exact q)<|aI (tE l.t o (aA (dD l)<|k*l.i.toNat+j) hb ho OM) J<|aP ?_));refine bE J J<|bE J J<|bE J J<|aP<|aP<|aD<|aO<|cM t2 h2<|aX J h2 J J<|aP<|dR (i:=((bJ l.t o<|aA (dD l)<|k*l.i.toNat+j).1)) (aM<|V.sl<|List.map cN l.t.nd) (aM<|iV<|(bJ l.t o<|aA (dD l)<|k*l.i.toNat+j).1) OM OM J<|dB (cs':=(cN<|aA l.t.nd ((bJ l.t o<|aA (dD l)<|k*l.i.toNat+j).1).toNat)) J J<|aL J J ?_
   refine fF J<|bR ?_
   refine cU J (λc12=>?_) (λc12=>?_)
   . 
    have d0:(aA l.t.nd (bJ l.t o<|aA (dD l)<|k*l.i.toNat+j).1.toNat).lf=false:=by simpa using c12
    have d1:wC l o (k*l.i.toNat+j)=true:=by unfold wC; simpa using d0
    have zd:0<=qF l o:=by rw [hc2,mI (p:=wC l o) d1 OM]; omega
    refine aO<|bN J J<|bQ t4 J J h4 J J J J J<|aD<|aK<|y11 _ _<|p29 _ _<|y8 _ _<|y7 _ _<|p25 _ _<|y4 _ _ ?_
    refine dJ (bI (u:=(V.agg [(iV 0),(iV 0),V.nilsl,V.nilsl,V.nilsl])) t4 (@J Blk<|bk 1 28 5 [[(iV 0),(iV 0),V.nilsl,V.nilsl,V.nilsl]])<|lB oB J J) (aY<|aM<|iV 10) (fH (aF ?_) (aF ?_) (bH ?_) (bH ?_)<|bH ?_)<|aF ?_
    . try rw [jU za zb zc zd]
      try rw [dO (by rw [jU za zb zc zd]; decide)]
      try rfl
    . try rw [jU za zb zc zd]
      try rw [dO (by rw [jU za zb zc zd]; decide)]
      try rfl
    . try rw [jU za zb zc zd]
      try rw [dO (by rw [jU za zb zc zd]; decide)]
      try rfl
    . try rw [jU za zb zc zd]
      try rw [dO (by rw [jU za zb zc zd]; decide)]
      try rfl
    . try rw [jU za zb zc zd]
      try rw [dO (by rw [jU za zb zc zd]; decide)]
      try rfl
    . try rw [jU za zb zc zd]
      try rw [dO (by rw [jU za zb zc zd]; decide)]
      try rfl
   have d5:(aA l.t.nd (bJ l.t o<|aA (dD l)<|k*l.i.toNat+j).1.toNat).lf=true:=by simpa using c12
   have d1:wC l o (k*l.i.toNat+j)=false:=by unfold wC; simpa using d5
   have d4:=aMA (l:=l) (o:=o) (m:=k*l.i.toNat+j) hv OM d5;refine aB ?_;refine dE (λT H=>T 2=(cG 2)/\T 3=(cG 3)/\T 4=(cG 4)/\T 9=(aC<|fU l.t)/\T 10=(cG 10)/\T 11=(iV ((k:Nat):Int))/\T 12=(V.ms 12 v2 0 j)/\T 13=(V.ms 13 w2 0 j)/\T 14=(iV ((j:Nat):Int))/\T 15=(iV<|(bJ l.t o<|aA (dD l)<|k*l.i.toNat+j).1)/\T 18=(V.sl [[(iV<|pY l o<|k*l.i.toNat+j)]])/\H 2=(bk 1 49 2 [[(iV l.i),(V.sl<|List.map cN l.t.nd)]])/\H 3=(bk 1 31 2 [[(iV o.i),(V.sl<|List.map cT o.tr)]])/\H 4=(bk 1 28 5 [[(iV 0),(iV 0),V.nilsl,V.nilsl,V.nilsl]])/\H 10=(bk 1 28 5 [[(iV l.i),(iV 0),(V.ms 812 v 0 k),(V.ms 813 w 0 k),(V.ms 814 u 0 k)]])/\H 12=(bz v2 3 1<|List.map cI<|iO (λa=>wH l o<|k*l.i.toNat+a) j)/\H 13=(bz w2 3 1<|List.map cI<|iO (λa=>pY l o<|k*l.i.toNat+a) j)/\H 812=(bz v 54 1<|List.map cL<|iO (gV (wH l o) l.i.toNat) k)/\H 813=(bz w 54 1<|List.map cL<|iO (gV (pY l o) l.i.toNat) k)/\H 814=(bz u 54 1<|List.map cL<|(fU l.t).take k)/\True) ?_ ?_
   . 
    refine aV t3 h3 J J<|aJ t9<|aJ t11<|dA (i:=k) (aM<|aC<|fU l.t) (cO k)<|aL J J<|aJ t14<|aS J J<|sM (bO J<|bO J<|bO J dQ) (show bK Tryz.prog 75 [(V.agg [(iV o.i),(V.sl<|List.map cT o.tr)]),(aE<|aA (fU l.t) k),(V.sl [[(iV ((j:Nat):Int))]])] (V.tup [V.sl [[iV (pY l o<|k*l.i.toNat+j)]],V.bool true]) from by have q:=mK o (aA (fU l.t) k) [(j:Int)] ho OM SI; rw [d10,d7,hkn] at q; exact q)<|aP<|bE J J<|bE J J<|aP<|aP ?_
    exact eS ⟨t2,t3,t4,t9,t10,t11,t12,t13,t14,J,J,h2,h3,h4,h10,h12,h13,h812,h813,h814,trivial⟩
   intro T H ⟨t2,t3,t4,t9,t10,t11,t12,t13,t14,t15,t18,h2,h3,h4,h10,h12,h13,h812,h813,h814,_⟩;refine aW<|aJ t12<|aJ t9<|cM t2 h2<|aX J h2 J J<|aJ t15<|dR (i:=((bJ l.t o<|aA (dD l)<|k*l.i.toNat+j).1)) (aM<|V.sl<|List.map cN l.t.nd) (aM<|iV<|(bJ l.t o<|aA (dD l)<|k*l.i.toNat+j).1) OM OM J<|dB (cs':=(List.drop 1<|cN<|aA l.t.nd ((bJ l.t o<|aA (dD l)<|k*l.i.toNat+j).1).toNat)) J J<|aL J J<|aI (aCx (fU l.t) ((aA l.t.nd ((bJ l.t o<|aA (dD l)<|k*l.i.toNat+j).1).toNat).ac) d4) J<|aS J J<|eX (l:=(iO (λa=>wH l o<|k*l.i.toNat+a) j)) (f:=cI) (x:=(plI (fU l.t)<|(aA l.t.nd ((bJ l.t o<|aA (dD l)<|k*l.i.toNat+j).1).toNat).ac)) (aM<|V.ms 12 v2 0 j) h12 (by exact (fO _ _).symm) (aM<|V.sl [[(iV<|plI (fU l.t)<|(aA l.t.nd ((bJ l.t o<|aA (dD l)<|k*l.i.toNat+j).1).toNat).ac)]])<|aD<|eI ?_
   refine aJ t13<|aJ t18<|aJx (row:=[(iV<|pY l o<|k*l.i.toNat+j)]) (aM<|V.sl [[(iV<|pY l o<|k*l.i.toNat+j)]]) (aM<|iV 0) J J<|aL J J<|aS J J<|eX (l:=(iO (λa=>pY l o<|k*l.i.toNat+a) j)) (f:=cI) (x:=(pY l o<|k*l.i.toNat+j)) (aM<|V.ms 13 w2 0 j) h13 (by exact (fO _ _).symm) (aM<|V.sl [[(iV<|pY l o<|k*l.i.toNat+j)]])<|aD<|n11 _ _ (.done (eI<|aJ t14<|cF J<|aD ?_))
   refine p19 _ _ _ ?_ ⟨(j+1),(v2+1),(w2+1),J,t2,t3,t4,t9,t10,t11,(bL (aM<|V.ms 12 (v2+1) 0<|j+1) JR),(bL (aM<|V.ms 13 (w2+1) 0<|j+1) JR),(bL (cO<|j+1) JR),h2,h3,h4,h10,(bL (@J Blk<|bz (v2+1) 3 1<|List.map cI<|iO (λa=>wH l o<|k*l.i.toNat+a) j++[(plI (fU l.t)<|(aA l.t.nd ((bJ l.t o<|aA (dD l)<|k*l.i.toNat+j).1).toNat).ac)]) (by (rw [iS]; first|done|rfl))),(bL (@J Blk<|bz (w2+1) 3 1<|List.map cI<|iO (λa=>pY l o<|k*l.i.toNat+a) j++[(pY l o<|k*l.i.toNat+j)]) (by (rw [iS]; first|done|rfl))),h812,h813,h814,?_,?_⟩
   . omega
   . omega
   . rw [hc2,kL (p:=wC l o) d1 OM]; rfl
  refine aT<|p39 _ _ _<|x8 _ _ ?_
  refine .freeze 12 (.done ?_);refine W_g<|cM (bB t10 J) (aR (id:=12) h10 DE)<|cM J (aR (id:=12) h10 DE)<|aV J (aR (id:=12) h10 DE) J J<|aJ (bB t12<|mL h12 SI (l:=(iO (λa=>wH l o<|k*l.i.toNat+a) j)) J (by exact (fO _ _).symm))<|aS J J<|eX (l:=(iO (gV (wH l o) l.i.toNat) k)) (f:=cL) (x:=(iO (λa=>wH l o<|k*l.i.toNat+a) j)) (aM<|V.ms 812 v 0 k) (aR (id:=12) h812 DE) (by exact (fO _ _).symm) (aM<|V.sl [[(aE<|iO (λa=>wH l o<|k*l.i.toNat+a) j)]])<|cM (bB t10 J) (aR (id:=12) h10 DE)<|cM J (aR (id:=12) h10 DE)<|bQ J J J (aR (id:=12) h10 DE) J J J J J<|bR ?_
  refine .freeze 13 (.done ?_);refine aW<|cM (bB (bB t10 J) J) J<|aX J J J J<|aJ (bB (bB t13<|eE DE)<|mL (aR (id:=12) h13 DE) SI (l:=(iO (λa=>pY l o<|k*l.i.toNat+a) j)) J (by exact (fO _ _).symm))<|aS J J<|eX (l:=(iO (gV (pY l o) l.i.toNat) k)) (f:=cL) (x:=(iO (λa=>pY l o<|k*l.i.toNat+a) j)) (aM<|V.ms 813 w 0 k) (aR (id:=13) (aR (id:=12) h813 DE) DE) (by exact (fO _ _).symm) (aM<|V.sl [[(aE<|iO (λa=>pY l o<|k*l.i.toNat+a) j)]])<|cM (bB (bB t10 J) J) J<|cM J J<|bQ J J J J J J J J J<|bR<|eI<|cM (bB (bB t10 J) J) J<|aV J J J J<|aJ (bB (bB t9 J) J)<|aJ (bB (bB t11 J) J) ?_
  refine dA (i:=k) (aM<|aC<|fU l.t) (cO k)<|aL J J<|aS J J<|sM (bO J dQ) (by have q:=eB [aA (fU l.t) k] (by simp [bD]; omega); rw [aGN] at q; exact q)<|aS J J<|eX (l:=((fU l.t).take k)) (f:=cL) (x:=(aA (fU l.t) k)) (aM<|V.ms 814 u 0 k) (aR (id:=13) (aR (id:=12) h814 DE) DE) (by (rw [List.length_take]; omega)) (aM<|V.sl [[(aE<|aA (fU l.t) k)]])<|cM (bB (bB t10 J) J) J<|bQ J J J J J J J J J<|bR<|n7 _ _ (.done (eI<|aJ (bB (bB t11 J) J)<|cF J<|aD ?_))
  refine p15 _ _ _ ?_ ⟨(k+1),(v+1),(w+1),(u+1),v2,w2,J,(bB (bB t2 J) J),(bB (bB t3 J) J),(bB (bB t4 J) J),(bB (bB t9 J) J),(bB (bB t10 J) J),(bL (cO<|k+1) JR),(aR (id:=13) (aR (id:=12) h2 DE) DE),(aR (id:=13) (aR (id:=12) h3 DE) DE),(aR (id:=13) (aR (id:=12) h4 DE) DE),(bL (@J Blk<|bk 1 28 5 [[(iV l.i),(iV 0),(V.ms 812 (v+1) 0<|k+1),(V.ms 813 (w+1) 0<|k+1),(V.ms 814 (u+1) 0<|k+1)]]) JR),(gS (id:=13)<|gH<|cE h12),(gH<|cE<|aR (id:=12) h13 DE),(bL (@J Blk<|bz (v+1) 54 1<|List.map cL<|iO (gV (wH l o) l.i.toNat) k++[iO (λa=>wH l o<|k*l.i.toNat+a) j]) (by (rw [iS,show l.i.toNat=j by omega]; first|done|rfl))),(bL (@J Blk<|bz (w+1) 54 1<|List.map cL<|iO (gV (pY l o) l.i.toNat) k++[iO (λa=>pY l o<|k*l.i.toNat+a) j]) (by (rw [iS,show l.i.toNat=j by omega]; first|done|rfl))),(bL (@J Blk<|bz (u+1) 54 1<|List.map cL<|(fU l.t).take k++[aA (fU l.t) k]) (by (rw [cV OM]; done))),?_,?_⟩
  . omega
  . omega
  . have e:(k+1)*l.i.toNat=k*l.i.toNat+j:=OM
    rw [e]; exact hc2
 have zd: ¬0<=qF l o:=by rw [hc,kD (by rw [hxl,show k=(fU l.t).length by omega]; exact Nat.le_refl _)]; omega
 refine aT<|p35 _ _ _<|x4 _ _ (.done (aO<|aV t10 h10 J J<|jN (bO (aM<|V.agg [(iV l.i),(iV 0),(V.ms 812 v 0 k),(V.ms 813 w 0 k),(V.ms 814 u 0 k)]) dQ) (xW (⟨(⟨l.i,(0:Int),(iO (gV (wH l o) l.i.toNat) k),(iO (gV (pY l o) l.i.toNat) k)⟩:M),((fU l.t).take k)⟩:Hy)) (cZ (qU<|cZ (dM 5 _ (by simp [-List.map_take,-List.map_drop,-List.map_append,-List.map_reverse]))<|cZ (dM 5 _ (by simp [-List.map_take,-List.map_drop,-List.map_append,-List.map_reverse]))<|cZ (rH h812 SI (nS (l:=(iO (gV (wH l o) l.i.toNat) k)) (by exact (fO _ _).symm)) (λ_=>by simp))<|cZ (rH h813 SI (nS (l:=(iO (gV (pY l o) l.i.toNat) k)) (by exact (fO _ _).symm)) (λ_=>by simp))<|cZ (rH h814 SI (nS (l:=((fU l.t).take k)) (by (rw [List.length_take]; omega))) (λ_=>by simp)) J) J) (by simp [-List.map_take,-List.map_drop,-List.map_append,-List.map_reverse]) (Or.inr J)<|bP J J<|bR ?_))
 refine aH J (λc13=>?_) λc13=>?_
 . 
  have ze:gY (hyH l o)≠0:=by have q:=c13; rw [show k=(fU l.t).length by omega,List.take_length] at q; exact q
  refine aO<|bN J J<|bQ t4 J J h4 J J J J J<|aD<|aK ?_
  refine dJ (bI (u:=(V.agg [(iV 0),(iV 0),V.nilsl,V.nilsl,V.nilsl])) t4 (@J Blk<|bk 1 28 5 [[(iV 0),(iV 0),V.nilsl,V.nilsl,V.nilsl]])<|lB oB J J) (aY<|aM<|iV 15) (fH (aF ?_) (aF ?_) (bH ?_) (bH ?_)<|bH ?_)<|aF ?_
  . try rw [jG za zb zc zd ze]
    try rw [dO (by rw [jG za zb zc zd ze]; decide)]
    try rfl
  . try rw [jG za zb zc zd ze]
    try rw [dO (by rw [jG za zb zc zd ze]; decide)]
    try rfl
  . try rw [jG za zb zc zd ze]
    try rw [dO (by rw [jG za zb zc zd ze]; decide)]
    try rfl
  . try rw [jG za zb zc zd ze]
    try rw [dO (by rw [jG za zb zc zd ze]; decide)]
    try rfl
  . try rw [jG za zb zc zd ze]
    try rw [dO (by rw [jG za zb zc zd ze]; decide)]
    try rfl
  . try rw [jG za zb zc zd ze]
    try rw [dO (by rw [jG za zb zc zd ze]; decide)]
    try rfl
 have ze: ¬gY (hyH l o)≠0:=by have q:=c13; rw [show k=(fU l.t).length by omega,List.take_length] at q; exact q
 refine aB<|aW<|aV t10 h10 J J<|bQ t4 J J h4 J J J J J<|aD<|bF ?_
 refine dJ (bI (u:=(V.agg [(iV l.i),(iV 0),(V.ms 812 v 0 k),(V.ms 813 w 0 k),(V.ms 814 u 0 k)])) t4 (@J Blk<|bk 1 28 5 [[(iV l.i),(iV 0),(V.ms 812 v 0 k),(V.ms 813 w 0 k),(V.ms 814 u 0 k)]])<|lB oB J J) (aY<|aM<|iV 0) (fH (aF ?_) (aF ?_) (iK h812 SI (l:=(iO (gV (wH l o) l.i.toNat) k)) J (by exact (fO _ _).symm) (λ_=>by simp) ?_) (iK h813 SI (l:=(iO (gV (pY l o) l.i.toNat) k)) J (by exact (fO _ _).symm) (λ_=>by simp) ?_)<|iK h814 SI (l:=((fU l.t).take k)) J (by (rw [List.length_take]; omega)) (λ_=>by simp) ?_)<|aF ?_
 . try rw [jJ za zb zc zd ze]
   try rw [lG (by rw [jJ za zb zc zd ze])]
   try first|rfl|(rw [show k=(fU l.t).length by omega]; rfl)|(rw [show k=(fU l.t).length by omega,List.take_length]; rfl)
 . try rw [jJ za zb zc zd ze]
   try rw [lG (by rw [jJ za zb zc zd ze])]
   try first|rfl|(rw [show k=(fU l.t).length by omega]; rfl)|(rw [show k=(fU l.t).length by omega,List.take_length]; rfl)
 . try rw [jJ za zb zc zd ze]
   try rw [lG (by rw [jJ za zb zc zd ze])]
   try first|rfl|(rw [show k=(fU l.t).length by omega]; rfl)|(rw [show k=(fU l.t).length by omega,List.take_length]; rfl)
 . try rw [jJ za zb zc zd ze]
   try rw [lG (by rw [jJ za zb zc zd ze])]
   try first|rfl|(rw [show k=(fU l.t).length by omega]; rfl)|(rw [show k=(fU l.t).length by omega,List.take_length]; rfl)
 . try rw [jJ za zb zc zd ze]
   try rw [lG (by rw [jJ za zb zc zd ze])]
   try first|rfl|(rw [show k=(fU l.t).length by omega]; rfl)|(rw [show k=(fU l.t).length by omega,List.take_length]; rfl)
 . try rw [jJ za zb zc zd ze]
   try rw [lG (by rw [jJ za zb zc zd ze])]
   try first|rfl|(rw [show k=(fU l.t).length by omega]; rfl)|(rw [show k=(fU l.t).length by omega,List.take_length]; rfl)
theorem aEs (a b:M):bK Tryz.prog 82 [(V.agg [(iV a.i),(iV a.s),(aC a.nx),(aC a.ot)]),(V.agg [(iV b.i),(iV b.s),(aC b.nx),(aC b.ot)])] (iV (kA a b)):=by
 refine' pK [] [] Tryz.func82 ?e λhB=>?_
 case e=>conv=>lhs; cbv
 dsimp only;refine aW<|bS (i:=2) (n:=0) (m:=4) (cs:=[(iV a.i),(iV a.s),(aC a.nx),(aC a.ot)]) J (cE J) J J J<|bS (i:=3) (n:=0) (m:=4) (cs:=[(iV b.i),(iV b.s),(aC b.nx),(aC b.ot)]) J (cE J) J J J<|aD<|aO<|aV J J J J<|aI (nR a) J<|aD<|aO<|aP<|bP J J<|bR ?_
 refine aH J (λc1=>?_) λc1=>?_
 . 
  refine aO<|aP<|aD<|aK ?_
  refine aZ (aM<|iV<|eO a)<|aF ?_
  . rw [aKd OM]
 refine aB<|aO<|aV J J J J<|aI (nR b) J<|aD<|aO<|aP<|bP J J<|bR ?_
 refine aH J (λc2=>?_) λc2=>?_
 . 
  refine aO<|aP<|aD<|aK ?_
  refine aZ (aM<|iV<|eO b)<|aF ?_
  . rw [aK4 OM OM]
 refine aB<|aO<|aX J J J J<|aX J J J J<|bP J J<|bR ?_
 refine aH J (λc3=>?_) λc3=>?_
 . 
  refine aO<|aD<|aK ?_
  refine aZ (aM<|iV 15)<|aF ?_
  . rw [aKl OM OM OM]
 refine aB<|aW<|aD<|bF ?_
 refine aZ (aM<|iV 0)<|aF ?_
 . rw [aKD OM OM OM]
theorem aJz (w:List Int) (a:Int) (hl:w.length<=1048576):bK Tryz.prog 131 [(aE w),(iV a)] (aE (snW w a)):=by
 refine' pK [5] [] Tryz.func131 ?e λhB=>?_
 case e=>conv=>lhs; cbv
 dsimp only;refine aW<|aD<|aW<|gG (i:=5) (n:=0) J (cE J)<|qV<|aP<|aP<|lQ (l:=([])) (m:=w) (f:=cI) (aM<|V.ms 5 1 0 0) (show _=(bz 1 3 1<|List.map cI<|[]) from (@J Blk<|bz 1 3 1 [])) JR (aM<|aE w) (λ_=>J) (λ_=>J) OM OM<|aD<|aW<|aP<|aP<|aS J J ?_
 refine eX (l:=([]++w)) (f:=cI) (x:=a) (aM<|V.ms 5 2 0<|0+w.length) (@J Blk<|bz 2 3 1<|List.map cI<|[]++w) SI (aM<|V.sl [[(iV a)]])<|aD<|aW<|aP<|aD<|bF ?_
 refine aZ (aM<|V.ms 5 3 0<|(0+w.length)+1)<|iK (@J Blk<|bz 3 3 1<|List.map cI<|[]++w++[a]) JR (l:=([]++w++[a])) J SI (λ_=>by simp) ?_
 . first|rfl|(simp; rfl)
theorem aFr (a b:M) (s t:Int) (hma:eO a=0) (hmb:eO b=0) (hi:a.i=b.i) (hs:0<=s/\s < a.nx.length) (ht:0<=t/\t < b.nx.length):bK Tryz.prog 83 [(V.agg [(iV a.i),(iV a.s),(aC a.nx),(aC a.ot)]),(V.agg [(iV b.i),(iV b.s),(aC b.nx),(aC b.ot)]),(iV s),(iV t)] (V.tup [(aE ((dst a b s t).getD [])),(V.bool ((dst a b s t).isSome))]):=by
 refine' pK [21] [] Tryz.func83 ?e λhB=>?_
 case e=>conv=>lhs; cbv
 dsimp only;have hqa:=gW hma;have hqb:=gW hmb;have hab:a.nx.length*b.nx.length<=128*128:=Nat.mul_le_mul hqa.2.2.2.1 hqb.2.2.2.1;refine aW<|bS (i:=4) (n:=0) (m:=4) (cs:=[(iV a.i),(iV a.s),(aC a.nx),(aC a.ot)]) J (cE J) J J J<|bS (i:=5) (n:=0) (m:=4) (cs:=[(iV b.i),(iV b.s),(aC b.nx),(aC b.ot)]) J (cE J) J J J<|aP<|aD<|W_g<|aP<|aP<|bN J J<|gE (i:=21) (n:=0) (qs:=[(0,(V.agg [(iV s),(iV t),V.nilsl]))]) (rows:=[[(iV s),(iV t),V.nilsl]]) J (cE J) (cZ (congrArg (λv=>(0,v)) J) J) J<|aD ?_
 refine sP (id:=21) (l:=([])) (m:=([(⟨s,t,[]⟩:Pr)])) (f:=cPr) (@J Blk<|bk 1 191 3 [[(iV s),(iV t),V.nilsl]]) J (.done ?_);refine aO<|aD (aG λQ1 n1 x1 y1 z1=>?_)
 refine cC (λmm T H=> ∃ (i:Nat) (v:Nat) (L:List Pr),mm=a.nx.length*b.nx.length+1 - i/\T 4=(cG 4)/\T 5=(cG 5)/\T 10=(V.ms 21 v 0 L.length)/\T 11=(iV ((i:Nat):Int))/\H 4=(bk 1 24 4 [[(iV a.i),(iV a.s),(aC a.nx),(aC a.ot)]])/\H 5=(bk 1 24 4 [[(iV b.i),(iV b.s),(aC b.nx),(aC b.ot)]])/\H 21=(bk v 191 3<|List.map cPr L)/\(i<=L.length)/\(BI a b s t L)/\(dst a b s t=bq a b (a.nx.length*b.nx.length+1 - i) i L)) ?_ ?_
 . 
  refine ⟨_,0,1,[⟨s,t,[]⟩],J,J,J,(bL (aM<|V.ms 21 1 0 1) JR),(bL (aM<|iV 0) J),J,J,(bL (@J Blk<|bk 1 191 3<|List.map cPr<|[]++[(⟨s,t,[]⟩:Pr)]) JR),?_,?_,?_⟩
  . simp
  . exact BI.start hs.1 hs.2 ht.1 ht.2
  . rfl
 intro mm T H ⟨i,v,L,hmm,t4,t5,t10,t11,h4,h5,h21,hk,hbi,hc⟩ Q2 p12 p22 p32;have hln:=hbi.len;refine aO<|aJ t11<|aJ t10<|dW J h21 SI<|bZ J J<|bR ?_
 refine aH J (λc3=>?_) λc3=>?_
 . 
  have hil:i < L.length:=OM
  refine aB (aG λQ4 n4 x4 y4 z4=>(aW<|aD (fZ λQ5 n5 x5 y5 z5=>?_)));refine cC (λmm T H=> ∃ (x:Nat) (v2:Nat),mm=a.i.toNat - x/\T 4=(cG 4)/\T 5=(cG 5)/\T 10=(V.ms 21 v2 0<|(fP a b (aA L i) L x).length)/\T 11=(iV ((i:Nat):Int))/\T 12=(iV ((x:Nat):Int))/\H 4=(bk 1 24 4 [[(iV a.i),(iV a.s),(aC a.nx),(aC a.ot)]])/\H 5=(bk 1 24 4 [[(iV b.i),(iV b.s),(aC b.nx),(aC b.ot)]])/\H 21=(bk v2 191 3<|List.map cPr<|fP a b (aA L i) L x)/\(x<=a.i.toNat)/\(∀ j,j < x->bqD a b (aA L i) j=false)) ?_ ?_
  . 
   refine ⟨_,0,v,J,t4,t5,(bL t10 JR),t11,(bL (aM<|iV 0) J),h4,h5,(bL h21 JR),?_,?_⟩
   . omega
   . intro j hj; omega
  intro mm T H ⟨x,v2,hmm,t4,t5,t10,t11,t12,h4,h5,h21,hx,hdx⟩ Q6 p16 p26 p36;refine aO<|aJ t12<|aX t4 h4 J J<|bZ J J<|bR ?_
  refine aH J (λc7=>?_) λc7=>?_
  . 
   have r0:=hbi.row hma hmb hi hil (x:=x) OM hdx;have r9:=r0.len;have r1:i < (fP a b (aA L i) L x).length:=Nat.lt_of_lt_of_le hil yU;have r2:aA (fP a b (aA L i) L x) i=aA L i:=aDT hil;have r3:=hbi.rg _<|cW hil
   have r4:=hbi.ln i hil;have r5:=tJ hma r3.1 r3.2.1;have r6:=tJ hmb r3.2.2.1 r3.2.2.2;refine aB (aG λQ8 n8 x8 y8 z8=>(aW<|aJ t10<|aJ t11<|dC (i:=i) (aM<|V.ms 21 v2 0<|(fP a b (aA L i) L x).length) (cO i) h21 oB J OM<|cM J h21<|cQ (v:=(aE<|(aA (fP a b (aA L i) L x) i).w)) J h21 (dS OM JR)<|aJ t12<|aI (aJz ((aA (fP a b (aA L i) L x) i).w) ((x:Nat):Int) (by simp only [r2]; omega)) J<|aD<|aO<|aX t4 h4 J J ?_));refine aJ t10<|aJ t11<|dC (i:=i) (aM<|V.ms 21 v2 0<|(fP a b (aA L i) L x).length) (cO i) h21 oB J OM<|cM J h21<|cQ (v:=(iV<|(aA (fP a b (aA L i) L x) i).s)) J h21 (dS OM JR)<|dR (i:=((aA (fP a b (aA L i) L x) i).s)) (aM<|aC a.ot) (aM<|iV<|(aA (fP a b (aA L i) L x) i).s) (by (simp only [r2]; omega)) (by (simp only [r2]; omega)) J<|aL J J<|aJ t12<|aCX (i:=x) (aM<|aE<|aA a.ot ((aA (fP a b (aA L i) L x) i).s).toNat) (cO x) (by (simp only [r2]; omega)) J<|aL J J<|aX t5 h5 J J<|aJ t10<|aJ t11<|dC (i:=i) (aM<|V.ms 21 v2 0<|(fP a b (aA L i) L x).length) (cO i) h21 oB J OM<|cM J h21 ?_
   refine cQ (v:=(iV<|(aA (fP a b (aA L i) L x) i).t)) J h21 (dS OM JR)<|dR (i:=((aA (fP a b (aA L i) L x) i).t)) (aM<|aC b.ot) (aM<|iV<|(aA (fP a b (aA L i) L x) i).t) (by (simp only [r2]; omega)) (by (simp only [r2]; omega)) J<|aL J J<|aJ t12<|aCX (i:=x) (aM<|aE<|aA b.ot ((aA (fP a b (aA L i) L x) i).t).toNat) (cO x) (by (simp only [r2]; omega)) J<|aL J J<|bP J J<|bR ?_
   refine aH J (λc9=>?_) λc9=>?_
   . 
    have d1:bqD a b (aA L i) x=true:=by unfold bqD; have q:=c9; simp only [r2] at q; exact decide_eq_true q
    have hz:dst a b s t=some ((aA L i).w++[(x:Int)]):=by rw [hc,aKb hil OM OM d1 hdx]
    refine aO<|aP<|aP<|aD<|aK<|y8 _ _<|p26 _ _<|y5 _ _<|y4 _ _<|p22 _ _<|y1 _ _ ?_
    refine iW (aM<|aE<|snW ((aA (fP a b (aA L i) L x) i).w) ((x:Nat):Int)) (aM<|V.bool true) (cA ?_ (λ_=>by simp))<|cH ?_
    . rw [hz]; simp only [r2]; rfl
    . rw [hz]; rfl
   have d1:bqD a b (aA L i) x=false:=by unfold bqD; have q:=c9; simp only [r2] at q; exact decide_eq_false q
   refine aB ?_;refine dE (λT H=>T 4=(cG 4)/\T 5=(cG 5)/\T 10=(V.ms 21 v2 0<|(fP a b (aA L i) L x).length)/\T 11=(iV ((i:Nat):Int))/\T 12=(iV ((x:Nat):Int))/\T 13=(aE<|snW ((aA (fP a b (aA L i) L x) i).w) ((x:Nat):Int))/\T 14=(iV<|aA (aA a.nx ((aA (fP a b (aA L i) L x) i).s).toNat) x)/\T 15=(iV<|aA (aA b.nx ((aA (fP a b (aA L i) L x) i).t).toNat) x)/\H 4=(bk 1 24 4 [[(iV a.i),(iV a.s),(aC a.nx),(aC a.ot)]])/\H 5=(bk 1 24 4 [[(iV b.i),(iV b.s),(aC b.nx),(aC b.ot)]])/\H 21=(bk v2 191 3<|List.map cPr<|fP a b (aA L i) L x)/\True) ?_ ?_
   . 
    refine aX t4 h4 J J<|aJ t10<|aJ t11<|dC (i:=i) (aM<|V.ms 21 v2 0<|(fP a b (aA L i) L x).length) (cO i) h21 oB J OM<|cM J h21<|cQ (v:=(iV<|(aA (fP a b (aA L i) L x) i).s)) J h21 (dS OM JR)<|dR (i:=((aA (fP a b (aA L i) L x) i).s)) (aM<|aC a.nx) (aM<|iV<|(aA (fP a b (aA L i) L x) i).s) (by (simp only [r2]; omega)) (by (simp only [r2]; omega)) J<|aL J J<|aJ t12<|aCX (i:=x) (aM<|aE<|aA a.nx ((aA (fP a b (aA L i) L x) i).s).toNat) (cO x) (by (simp only [r2]; omega)) J<|aL J J<|aX t5 h5 J J<|aJ t10<|aJ t11 ?_
    refine dC (i:=i) (aM<|V.ms 21 v2 0<|(fP a b (aA L i) L x).length) (cO i) h21 oB J OM<|cM J h21<|cQ (v:=(iV<|(aA (fP a b (aA L i) L x) i).t)) J h21 (dS OM JR)<|dR (i:=((aA (fP a b (aA L i) L x) i).t)) (aM<|aC b.nx) (aM<|iV<|(aA (fP a b (aA L i) L x) i).t) (by (simp only [r2]; omega)) (by (simp only [r2]; omega)) J<|aL J J<|aJ t12<|aCX (i:=x) (aM<|aE<|aA b.nx ((aA (fP a b (aA L i) L x) i).t).toNat) (cO x) (by (simp only [r2]; omega)) J<|aL J J<|aP<|aP ?_
    exact eS ⟨t4,t5,t10,t11,t12,J,J,J,h4,h5,h21,trivial⟩
   intro T H ⟨t4,t5,t10,t11,t12,t13,t14,t15,h4,h5,h21,_⟩;refine aW<|aD<|aO<|aD (aG λQ10 n10 x10 y10 z10=>?_)
   refine cC (λmm T H=> ∃ (k:Nat),mm=(fP a b (aA L i) L x).length - k/\T 4=(cG 4)/\T 5=(cG 5)/\T 10=(V.ms 21 v2 0<|(fP a b (aA L i) L x).length)/\T 11=(iV ((i:Nat):Int))/\T 12=(iV ((x:Nat):Int))/\T 13=(aE<|snW ((aA (fP a b (aA L i) L x) i).w) ((x:Nat):Int))/\T 14=(iV<|lJ a (aA L i).s x)/\T 15=(iV<|lJ b (aA L i).t x)/\T 16=(V.bool<|knK (fP a b (aA L i) L x) (lJ a (aA L i).s x) (lJ b (aA L i).t x) k)/\T 17=(iV ((k:Nat):Int))/\H 4=(bk 1 24 4 [[(iV a.i),(iV a.s),(aC a.nx),(aC a.ot)]])/\H 5=(bk 1 24 4 [[(iV b.i),(iV b.s),(aC b.nx),(aC b.ot)]])/\H 21=(bk v2 191 3<|List.map cPr<|fP a b (aA L i) L x)/\(k<=(fP a b (aA L i) L x).length)) ?_ ?_
   . 
    refine ⟨_,0,J,t4,t5,t10,t11,t12,t13,(bL t14 (by (simp only [r2]; rfl))),(bL t15 (by (simp only [r2]; rfl))),(bL (aM<|V.bool false) JR),(bL (aM<|iV 0) J),h4,h5,h21,?_⟩
    . omega
   intro mm T H ⟨k,hmm,t4,t5,t10,t11,t12,t13,t14,t15,t16,t17,h4,h5,h21,hk3⟩ Q11 p111 p211 p311;refine aO<|aJ t17<|aJ t10<|dW J h21 SI<|bZ J J<|bR ?_
   refine aH J (λc12=>?_) λc12=>?_
   . 
    refine aB (aG λQ13 n13 x13 y13 z13=>(eI<|aJ t16<|aP ?_));refine bU 17 (λT H=>T 4=(cG 4)/\T 5=(cG 5)/\T 10=(V.ms 21 v2 0<|(fP a b (aA L i) L x).length)/\T 11=(iV ((i:Nat):Int))/\T 12=(iV ((x:Nat):Int))/\T 13=(aE<|snW ((aA (fP a b (aA L i) L x) i).w) ((x:Nat):Int))/\T 14=(iV<|lJ a (aA L i).s x)/\T 15=(iV<|lJ b (aA L i).t x)/\T 16=(V.bool<|knK (fP a b (aA L i) L x) (lJ a (aA L i).s x) (lJ b (aA L i).t x) k)/\T 17=(iV ((k:Nat):Int))/\T 115=(V.bool ((knK (fP a b (aA L i) L x) (lJ a (aA L i).s x) (lJ b (aA L i).t x) k)||decide ((((aA (fP a b (aA L i) L x) k).s)=(lJ a (aA L i).s x))/\(((aA (fP a b (aA L i) L x) k).t)=(lJ b (aA L i).t x)))))/\H 4=(bk 1 24 4 [[(iV a.i),(iV a.s),(aC a.nx),(aC a.ot)]])/\H 5=(bk 1 24 4 [[(iV b.i),(iV b.s),(aC b.nx),(aC b.ot)]])/\H 21=(bk v2 191 3<|List.map cPr<|fP a b (aA L i) L x)/\True) ?_ ?_
    . 
     by_cases g14:(knK (fP a b (aA L i) L x) (lJ a (aA L i).s x) (lJ b (aA L i).t x) k)=true
     . 
      refine bW (gQ g14 J)<|bW (gQ g14 J)<|bW (gQ g14 J)<|bW (gQ g14 J)<|bW (gQ g14 J)<|bW (gQ g14 J)<|bW (gQ g14 J)<|bW (gQ g14 J)<|nT (aM<|V.raw undef)<|nT (aM<|V.raw undef)<|nT (aM<|V.raw undef)<|nT (aM<|V.raw undef)<|nT (aM<|V.raw undef)<|nT (aM<|V.raw undef)<|nT (aM<|V.raw undef)<|bW (gQ g14 J) ?_
      refine bV (gQ g14 J) J ?_;exact ⟨t4,t5,t10,t11,t12,t13,t14,t15,t16,t17,(vX g14),h4,h5,h21,trivial⟩
     . 
      refine aN (gP g14 J)<|aJ t10<|aN (gP g14 J)<|aJ t17<|aN (gP g14 J)<|dC (i:=k) (aM<|V.ms 21 v2 0<|(fP a b (aA L i) L x).length) (cO k) h21 oB J OM<|aN (gP g14 J)<|cM J h21<|aN (gP g14 J)<|cQ (v:=(iV<|(aA (fP a b (aA L i) L x) k).s)) J h21 (dS OM JR)<|aN (gP g14 J)<|aJ t14<|aN (gP g14 J)<|eV J J<|aN (gP g14 J)<|aP ?_
      refine bU 8 (λT H=>T 4=(cG 4)/\T 5=(cG 5)/\T 10=(V.ms 21 v2 0<|(fP a b (aA L i) L x).length)/\T 11=(iV ((i:Nat):Int))/\T 12=(iV ((x:Nat):Int))/\T 13=(aE<|snW ((aA (fP a b (aA L i) L x) i).w) ((x:Nat):Int))/\T 14=(iV<|lJ a (aA L i).s x)/\T 15=(iV<|lJ b (aA L i).t x)/\T 16=(V.bool<|knK (fP a b (aA L i) L x) (lJ a (aA L i).s x) (lJ b (aA L i).t x) k)/\T 17=(iV ((k:Nat):Int))/\T 98=(V.bool false)/\T 99=(V.ms 21 v2 0<|(fP a b (aA L i) L x).length)/\T 100=(iV ((k:Nat):Int))/\T 101=(V.mp 21 v2 k 0)/\T 102=(V.mp 21 v2 k 0)/\T 103=(iV<|(aA (fP a b (aA L i) L x) k).s)/\T 104=(iV<|lJ a (aA L i).s x)/\T 105=(V.bool<|decide (((aA (fP a b (aA L i) L x) k).s)=(lJ a (aA L i).s x)))/\T 106=(V.bool<|decide (((aA (fP a b (aA L i) L x) k).s)=(lJ a (aA L i).s x)))/\T 114=(V.bool<|decide ((((aA (fP a b (aA L i) L x) k).s)=(lJ a (aA L i).s x))/\(((aA (fP a b (aA L i) L x) k).t)=(lJ b (aA L i).t x))))/\H 4=(bk 1 24 4 [[(iV a.i),(iV a.s),(aC a.nx),(aC a.ot)]])/\H 5=(bk 1 24 4 [[(iV b.i),(iV b.s),(aC b.nx),(aC b.ot)]])/\H 21=(bk v2 191 3<|List.map cPr<|fP a b (aA L i) L x)/\True) ?_ ?_
      . 
       by_cases g15:((aA (fP a b (aA L i) L x) k).s)=(lJ a (aA L i).s x)
       . 
        refine aN (bY g15 J)<|aJ t10<|aN (bY g15 J)<|aJ t17<|aN (bY g15 J)<|dC (i:=k) (aM<|V.ms 21 v2 0<|(fP a b (aA L i) L x).length) (cO k) h21 oB J OM<|aN (bY g15 J)<|cM J h21<|aN (bY g15 J)<|cQ (v:=(iV<|(aA (fP a b (aA L i) L x) k).t)) J h21 (dS OM JR)<|aN (bY g15 J)<|aJ t15<|aN (bY g15 J)<|eV J J<|aN (gP g14 J)<|bV (bY g15 J) J ?_
        exact ⟨t4,t5,t10,t11,t12,t13,t14,t15,t16,t17,(gP g14 J),J,J,J,J,J,J,J,J,(eT g15),h4,h5,h21,trivial⟩
       . 
        refine bW (bX g15 J)<|bW (bX g15 J)<|bW (bX g15 J)<|bW (bX g15 J)<|bW (bX g15 J)<|bW (bX g15 J)<|bW (bX g15 J)<|aN (gP g14 J)<|bT (bX g15 J) J ?_
        exact ⟨t4,t5,t10,t11,t12,t13,t14,t15,t16,t17,(gP g14 J),J,J,J,J,J,J,J,J,(eU g15),h4,h5,h21,trivial⟩
      intro T H ⟨t4,t5,t10,t11,t12,t13,t14,t15,t16,t17,t98,t99,t100,t101,t102,t103,t104,t105,t106,t114,h4,h5,h21,_⟩;refine bT t98 t114 ?_;exact ⟨t4,t5,t10,t11,t12,t13,t14,t15,t16,t17,(wA g14),h4,h5,h21,trivial⟩
    intro T H ⟨t4,t5,t10,t11,t12,t13,t14,t15,t16,t17,t115,h4,h5,h21,_⟩;refine aJ t115<|bR<|n13 _ _ (.done (eI<|aJ t17<|cF J<|aD ?_))
    refine p111 _ _ _ ?_ ⟨(k+1),J,t4,t5,t10,t11,t12,t13,t14,t15,(bL (aM<|V.bool ((knK (fP a b (aA L i) L x) (lJ a (aA L i).s x) (lJ b (aA L i).t x) k)||decide ((((aA (fP a b (aA L i) L x) k).s)=(lJ a (aA L i).s x))/\(((aA (fP a b (aA L i) L x) k).t)=(lJ b (aA L i).t x))))) JR),(bL (cO<|k+1) JR),h4,h5,h21,?_⟩
    . omega
    . omega
   refine aT<|p311 _ _ _<|x10 _ _ (.done (aW<|aJ t16<|fF J<|bR ?_))
   refine mJ J (λc16=>?_) (λc16=>?_)
   . 
    have d2:knK (fP a b (aA L i) L x) (lJ a (aA L i).s x) (lJ b (aA L i).t x) (fP a b (aA L i) L x).length=false:=by rw [show (fP a b (aA L i) L x).length=k by omega]; simpa using c16
    refine eI<|aJ t10<|aJ t14<|aJ t15<|aJ t13<|bN J J<|aS J J<|eX (l:=(fP a b (aA L i) L x)) (f:=cPr) (x:=(⟨lJ a (aA L i).s x,lJ b (aA L i).t x,snW ((aA (fP a b (aA L i) L x) i).w) ((x:Nat):Int)⟩:Pr)) (aM<|V.ms 21 v2 0<|(fP a b (aA L i) L x).length) h21 JR (aM<|V.sl [[(iV<|lJ a (aA L i).s x),(iV<|lJ b (aA L i).t x),(aE<|snW ((aA (fP a b (aA L i) L x) i).w) ((x:Nat):Int))]])<|aD<|n8 _ _ (.done (eI<|aJ t12<|cF J<|aP ?_))
    refine bR ?_;refine p16 _ _ _ ?_ ⟨(x+1),(v2+1),J,t4,t5,(bL (aM<|V.ms 21 (v2+1) 0<|((fP a b (aA L i) L x).length)+1) (by (rw [aBw d2,List.length_append]; rfl))),t11,(bL (cO<|x+1) JR),h4,h5,(bL (@J Blk<|bk (v2+1) 191 3<|List.map cPr<|fP a b (aA L i) L x++[(⟨lJ a (aA L i).s x,lJ b (aA L i).t x,snW ((aA (fP a b (aA L i) L x) i).w) ((x:Nat):Int)⟩:Pr)]) (by (simp only [r2]; rw [aBw d2]; rfl))),?_,?_⟩
    . omega
    . omega
    . intro j hj
      by_cases e:j=x
      . subst e; exact d1
      . exact hdx j OM
   have d2:knK (fP a b (aA L i) L x) (lJ a (aA L i).s x) (lJ b (aA L i).t x) (fP a b (aA L i) L x).length=true:=by rw [show (fP a b (aA L i) L x).length=k by omega]; simpa using c16
   refine dH<|n8 _ _ (.done (eI<|aJ t12<|cF J<|aD ?_))
   refine p16 _ _ _ ?_ ⟨(x+1),v2,J,t4,t5,(bL t10 (by (rw [zG d2]; done))),t11,(bL (cO<|x+1) JR),h4,h5,(bL h21 (by (rw [zG d2]; done))),?_,?_⟩
   . omega
   . omega
   . intro j hj
     by_cases e:j=x
     . subst e; exact d1
     . exact hdx j OM
  refine aT<|p36 _ _ _<|x5 _ _<|n4 _ _ (.done (eI<|aJ t11<|cF J<|aD ?_))
  refine p12 _ _ _ ?_ ⟨(i+1),v2,(fP a b (aA L i) L a.i.toNat),J,t4,t5,(bL t10 (by (rw [show x=a.i.toNat by omega]; done))),(bL (cO<|i+1) JR),h4,h5,(bL h21 (by (rw [show x=a.i.toNat by omega]; done))),?_,?_,?_⟩
  . omega
  . have:=yU (a:=a) (b:=b) (p:=aA L i) (L:=L) (x:=a.i.toNat); omega
  . exact hbi.row hma hmb hi OM (Nat.le_refl _) λj hj=>hdx j OM
  . rw [hc,aOh OM OM λj hj=>hdx j OM]
 have hz:dst a b s t=none:=by rw [hc,aLm OM]
 refine aT<|p32 _ _ _<|x1 _ _ (.done (aW<|aP<|aD<|bF ?_))
 refine iW (aM V.nilsl) (aM<|V.bool false) (bH ?_)<|cH ?_
 . rw [hz]; rfl
 . rw [hz]; rfl
theorem aG1 (a b:M):bK Tryz.prog 32 [(V.agg [(iV a.i),(iV a.s),(aC a.nx),(aC a.ot)]),(V.agg [(iV b.i),(iV b.s),(aC b.nx),(aC b.ot)])] (V.tup [(aE (qB a b)),(V.bool (uT a b)),(iV (kA a b))]):=by
 refine' pK [] [] Tryz.func32 ?e λhB=>?_
 case e=>conv=>lhs; cbv
 dsimp only;refine aW<|bS (i:=2) (n:=0) (m:=4) (cs:=[(iV a.i),(iV a.s),(aC a.nx),(aC a.ot)]) J (cE J) J J J<|bS (i:=3) (n:=0) (m:=4) (cs:=[(iV b.i),(iV b.s),(aC b.nx),(aC b.ot)]) J (cE J) J J J<|aP<|aP<|aD<|aO<|aV J J J J<|aV J J J J<|aI (aEs a b) J<|aD<|aO ?_
 refine aP<|bP J J<|bR ?_
 refine aH J (λc1=>?_) λc1=>?_
 . 
  have d1:=c1;refine aO<|aP<|aP<|aP<|aD<|aK ?_
  refine iN (aM V.nilsl) (aM<|V.bool false) (aM<|iV<|kA a b) (bH ?_) (cH ?_)<|eM SI J
  . unfold qB; rw [if_pos d1]
  . unfold uT; rw [if_pos d1]
 have d0:kA a b=0:=OM
 obtain ⟨hma,hmb,hi⟩:=aL8 d0;refine aB<|aW<|aV J J J J<|aV J J J J<|aX J J J J<|aX J J J J<|aI (aFr a b a.s b.s hma hmb hi (aAt hma)<|aAt hmb) J<|aP<|bE J J<|bE J J<|aP<|aD<|aW ?_
 refine aP<|aP<|aP<|aP<|aD<|bF ?_
 refine iN (aM<|aE<|(dst a b a.s b.s).getD []) (aM<|V.bool<|(dst a b a.s b.s).isSome) (aM<|iV 0) (cA ?_ (λ_=>by simp)) (cH ?_)<|aF ?_
 . unfold qB; rw [if_neg OM]
 . unfold uT; rw [if_neg OM]
 . omega
theorem rQ (a b:List Int):bK Tryz.prog 45 [(aE a),(aE b)] (V.bool (decide (a=b))):=by
 refine' pK [] [] Tryz.func45 ?e λhB=>?_
 case e=>conv=>lhs; cbv
 dsimp only;refine aW<|aD<|aO<|aP<|bA J<|aP<|bA J<|bP J J<|bR ?_
 refine aH J (λc1=>?_) λc1=>?_
 . 
  refine aO<|aD<|aK ?_
  refine aZ (aM<|V.bool false)<|cH ?_
  . exact (decide_eq_false (λe=>by subst e; omega)).symm
 refine aB<|aO<|aD (aG λQ2 n2 x2 y2 z2=>?_)
 refine cC (λmm T H=> ∃ (k:Nat),mm=a.length - k/\T 0=(aE a)/\T 1=(aE b)/\T 5=(iV ((k:Nat):Int))/\(k<=a.length)/\(a.length=b.length)/\(∀ j,j < k->aA a j=aA b j)) ?_ ?_
 . 
  refine ⟨_,0,J,J,J,(bL (aM<|iV 0) J),?_,?_,?_⟩
  . omega
  . omega
  . intro j hj; omega
 intro mm T H ⟨k,hmm,t0,t1,t5,hk,hl,hc⟩ Q3 p13 p23 p33;refine aO<|aJ t5<|aJ t0<|bA J<|bZ J J<|bR ?_
 refine aH J (λc4=>?_) λc4=>?_
 . 
  refine aB (aG λQ5 n5 x5 y5 z5=>(aW<|aJ t0<|aJ t5<|dA (i:=k) (aM<|aE a) (cO k)<|aL J J<|aJ t1<|aJ t5<|dA (i:=k) (aM<|aE b) (cO k)<|aL J J<|bP J J<|bR ?_));refine fN J (λc6=>?_) λc6=>?_
  . 
   refine aW<|aD<|bF<|y5 _ _<|p23 _ _<|y2 _ _ ?_
   refine aZ (aM<|V.bool false)<|cH ?_
   . exact (decide_eq_false (λe=>by subst e; omega)).symm
  refine dH<|n5 _ _ (.done (eI<|aJ t5<|cF J<|aD ?_))
  refine p13 _ _ _ ?_ ⟨(k+1),J,t0,t1,(bL (cO<|k+1) JR),?_,?_,?_⟩
  . omega
  . omega
  . omega
  . intro j hj
    by_cases e:j=k
    . subst e; omega
    . exact hc j OM
 refine aT<|p33 _ _ _<|x2 _ _ (.done (aW<|aD<|bF ?_))
 refine aZ (aM<|V.bool true)<|cH ?_
 . exact (decide_eq_true (jT hl λj hj=>hc j OM)).symm
theorem aGp (h:Hy) (o:Ob):bK Tryz.prog 198 [(V.agg [(iV h.m.i),(iV h.m.s),(aC h.m.nx),(aC h.m.ot),(aC h.acc)]),(V.agg [(iV o.i),(V.sl (List.map cT o.tr))])] (iV (ckA h o)):=by
 refine' pK [] [] Tryz.func198 ?e λhB=>?_
 case e=>conv=>lhs; cbv
 dsimp only;refine aW<|bS (i:=2) (n:=0) (m:=5) (cs:=[(iV h.m.i),(iV h.m.s),(aC h.m.nx),(aC h.m.ot),(aC h.acc)]) J (cE J) J J J<|bS (i:=3) (n:=0) (m:=2) (cs:=[(iV o.i),(V.sl<|List.map cT o.tr)]) J (cE J) J J J<|aD<|aO<|aV J J J J<|aI (xW h) J<|aD<|aO<|aP<|bP J J<|bR ?_
 refine aH J (λc1=>?_) λc1=>?_
 . 
  refine aO<|aP<|aD<|aK ?_
  refine aZ (aM<|iV<|gY h)<|aF ?_
  . unfold ckA; rw [if_pos OM]
 refine aB<|aO<|aX J J J J<|cM J J<|aX J J J J<|bP J J<|bR ?_
 refine aH J (λc2=>?_) λc2=>?_
 . 
  refine aO<|aD<|aK ?_
  refine aZ (aM<|iV 15)<|aF ?_
  . unfold ckA; rw [if_neg OM,if_pos OM]
 refine aB<|aW<|aD<|bF ?_
 refine aZ (aM<|iV 0)<|aF ?_
 . unfold ckA; rw [if_neg OM,if_neg OM]
theorem aEW (h:Hy) (o:Ob) (w:List Int) (ho:kS o=0):bK Tryz.prog 175 [(V.agg [(iV h.m.i),(iV h.m.s),(aC h.m.nx),(aC h.m.ot),(aC h.acc)]),(V.agg [(iV o.i),(V.sl (List.map cT o.tr))]),(aE w)] (iV (vU h o w)):=by
 refine' pK [] [] Tryz.func175 ?e λhB=>?_
 case e=>conv=>lhs; cbv
 dsimp only;refine aW<|bS (i:=3) (n:=0) (m:=5) (cs:=[(iV h.m.i),(iV h.m.s),(aC h.m.nx),(aC h.m.ot),(aC h.acc)]) J (cE J) J J J<|bS (i:=4) (n:=0) (m:=2) (cs:=[(iV o.i),(V.sl<|List.map cT o.tr)]) J (cE J) J J J<|aD<|aO<|aV J J J J<|aV J J J J<|aI (aGp h o) J<|aD<|aO<|aP<|bP J J ?_
 refine bR ?_;refine aH J (λc1=>?_) λc1=>?_
 . 
  have d0:=c1;refine aO<|aP<|aD<|aK ?_
  refine aZ (aM<|iV<|ckA h o)<|aF ?_
  . exact (aLZ d0).symm
 have d0:ckA h o=0:=OM
 have c0:=aAd d0;have hm:=(mS c0.1).1;refine aB<|aO<|aP<|cM J J<|aX J J J J<|aI (fX w h.m.i) J<|aD<|aO<|aP<|bP J J<|bR ?_
 refine aH J (λc2=>?_) λc2=>?_
 . 
  have d1:dG w o.i≠0:=by rw [<- c0.2]; exact c2
  refine aO<|aP<|aD<|aK ?_
  refine aZ (aM<|iV<|dG w h.m.i)<|aF ?_
  . rw [c0.2]; exact (aOc d0 d1).symm
 have hw:dG w h.m.i=0:=OM
 have d1:dG w o.i=0:=by rw [<- c0.2]; exact hw
 refine aB<|aW<|aV J J J J<|aP<|aI (kN o w ho) J<|aP<|bE J J<|bE J J<|aP<|aD<|aO<|aP<|fF J<|bR ?_
 refine cU J (λc3=>?_) (λc3=>?_)
 . 
  have d2:(eA o w).isSome=false:=by simpa using c3
  refine aO<|aD<|aK ?_
  refine aZ (aM<|iV 12)<|aF ?_
  . exact (aOa d0 d1 d2).symm
 have d2:(eA o w).isSome=true:=by simpa using c3
 refine aB<|aW<|aX J J J J<|cM J J<|aX J J J J<|aP<|aI (rO h.m h.m.s w hm (aAt hm) (eL hw).1 (eL hw).2) J<|aP<|bE J J<|bE J J<|aP<|aD<|cS ?_
 refine dE (λT H=>T 47=(V.bool<|decide (((eA o w).getD [])=(aQ h.m h.m.s w)))/\H 3=(bk 1 28 5 [[(iV h.m.i),(iV h.m.s),(aC h.m.nx),(aC h.m.ot),(aC h.acc)]])/\H 4=(bk 1 31 2 [[(iV o.i),(V.sl<|List.map cT o.tr)]])/\True) ?_ ?_
 . 
  refine aP<|aP<|aI (rQ ((eA o w).getD [])<|aQ h.m h.m.s w) J ?_
  exact eS ⟨J,J,J,trivial⟩
 intro T H ⟨t47,h3,h4,_⟩;refine aH t47 (λc4=>?_) λc4=>?_
 . 
  have d3:(eA o w).getD []=aQ h.m h.m.s w:=c4;refine aO<|aD<|aK ?_
  refine aZ (aM<|iV 8)<|aF ?_
  . exact (aN5 d0 d1 d2 d3).symm
 have d3: ¬ (eA o w).getD []=aQ h.m h.m.s w:=c4;refine aB<|aW<|aD<|bF ?_
 refine aZ (aM<|iV 0)<|aF ?_
 . exact (aOn d0 d1 d2 d3).symm
theorem aC4 (h:Hy) (w:List Int) (i:Nat) (hm:eO h.m=0) (hw:dG w h.m.i=0) (hi:i<=w.length):bK Tryz.prog 199 [(V.agg [(iV h.m.i),(iV h.m.s),(aC h.m.nx),(aC h.m.ot),(aC h.acc)]),(aE w),(iV ((i:Nat):Int))] (iV (iA h w i)):=by
 refine' pK [] [] Tryz.func199 ?e λhB=>?_
 case e=>conv=>lhs; cbv
 dsimp only;refine aW<|bS (i:=3) (n:=0) (m:=5) (cs:=[(iV h.m.i),(iV h.m.s),(aC h.m.nx),(aC h.m.ot),(aC h.acc)]) J (cE J) J J J<|aD<|aW<|aX J J J J<|cM J J<|aX J J J J<|aP<|aP<|nA (n:=i) (aM<|aE w) (cO i) OM (λ_=>J)<|aI (rO h.m h.m.s (List.take i w) hm (aAt hm) (eL<|aAr (aBu hm) hw i).1 (eL<|aAr (aBu hm) hw i).2) J<|aP<|bE J J ?_
 refine bE J J<|aP<|aD<|aW<|aP<|aD<|bF ?_
 refine aZ (aM<|iV<|gR h.m h.m.s<|List.take i w)<|aF ?_
 . rfl
theorem aEF (h:Hy) (o:Ob) (w:List Int) (i:Nat) (hv:gY h=0) (ho:kS o=0) (hw:dG w h.m.i=0) (hi:i < w.length):bK Tryz.prog 176 [(V.agg [(iV h.m.i),(iV h.m.s),(aC h.m.nx),(aC h.m.ot),(aC h.acc)]),(V.agg [(iV o.i),(V.sl (List.map cT o.tr))]),(aE w),(iV ((i:Nat):Int))] (V.tup [(V.bool (aFX h o w i)),(aE (aAq h o w i)),(iV (zP h w i))]):=by
 refine' pK [] [] Tryz.func176 ?e λhB=>?_
 case e=>conv=>lhs; cbv
 dsimp only;obtain ⟨hm,hal,hac⟩:=mS hv;have hsi:=xJ hm hw i;have hwl:=(eL hw).1;have hq:(bD [aA h.acc (iA h w i).toNat,w.drop i]).length=(aA h.acc (iA h w i).toNat).length+(w.length - i):=qR h w i;have hal2:(aA h.acc (iA h w i).toNat).length<=1024:=hac _ OM;refine aW<|bS (i:=4) (n:=0) (m:=5) (cs:=[(iV h.m.i),(iV h.m.s),(aC h.m.nx),(aC h.m.ot),(aC h.acc)]) J (cE J) J J J<|bS (i:=5) (n:=0) (m:=2) (cs:=[(iV o.i),(V.sl<|List.map cT o.tr)]) J (cE J) J J J<|aP<|aP<|aD<|aO<|aP<|aP<|bA J<|eV J J<|bR ?_
 refine aH J (λc1=>?_) λc1=>?_
 . exfalso; omega
 refine aB<|aW<|aV J J J J<|aP<|aP<|aI (aC4 h w i hm hw OM) J<|aD<|aW<|aX J J J J<|aP<|dR (i:=(iA h w i)) (aM<|aC h.acc) (aM<|iV<|iA h w i) OM OM J<|aL J J<|aP<|aP ?_
 refine gD (n:=i) (aM<|aE w) (cO i) OM (λ_=>J)<|aS J J<|aI (eB ([(aA h.acc (iA h w i).toNat),List.drop i w]) OM) J<|aD<|aO<|aP<|bA J<|eD J J<|bR ?_
 refine aH J (λc2=>?_) λc2=>?_
 . 
  have d1:1024 < (lY h w i).length:=show 1024 < (bD [aA h.acc (iA h w i).toNat,w.drop i]).length by omega
  refine aO<|aP<|aP<|aD<|aK ?_
  refine iN (aM<|V.bool false) (aM V.nilsl) (aM<|iV 3) (cH ?_) (bH ?_)<|aF ?_
  . unfold aFX; rw [if_pos d1]
  . unfold aAq; rw [if_pos d1]
  . unfold zP; rw [if_pos d1]
 have d1: ¬ 1024 < (lY h w i).length:=show ¬ 1024 < (bD [aA h.acc (iA h w i).toNat,w.drop i]).length by omega
 refine aB<|aW<|aV J J J J<|aP<|aI (kN o (bD<|[(aA h.acc (iA h w i).toNat),List.drop i w]) ho) J<|aP<|bE J J<|bE J J<|aP<|aD<|aO<|aP<|fF J<|bR ?_
 refine cU J (λc3=>?_) (λc3=>?_)
 . 
  have d2: ¬ (eA o<|lY h w i).isSome=true:=show ¬ (eA o<|bD [aA h.acc (iA h w i).toNat,w.drop i]).isSome=true by simpa using c3
  refine cS ?_;refine dE (λT H=>T 8=(V.bool false)/\T 9=(aE<|bD<|[(aA h.acc (iA h w i).toNat),List.drop i w])/\T 10=(iV 0)/\H 4=(bk 1 28 5 [[(iV h.m.i),(iV h.m.s),(aC h.m.nx),(aC h.m.ot),(aC h.acc)]])/\H 5=(bk 1 31 2 [[(iV o.i),(V.sl<|List.map cT o.tr)]])/\True) ?_ ?_
  . 
   refine aP<|aP<|aP<|aP ?_
   exact eS ⟨J,J,J,J,J,trivial⟩
  intro T H ⟨t8,t9,t10,h4,h5,_⟩;refine aK ?_;refine iN t8 t9 t10 (cH ?_) (cA ?_ (λ_=>by simp))<|aF ?_
  . unfold aFX; rw [if_neg d1,if_neg d2]
  . unfold aAq; rw [if_neg d1,if_neg d2]; rfl
  . unfold zP; rw [if_neg d1]
 have d2:(eA o<|lY h w i).isSome=true:=show (eA o<|bD [aA h.acc (iA h w i).toNat,w.drop i]).isSome=true by simpa using c3
 have hln:((eA o<|bD [aA h.acc (iA h w i).toNat,w.drop i]).getD []).length=(bD [aA h.acc (iA h w i).toNat,w.drop i]).length:=nH (lD ho) d2;refine aB ?_;refine dE (λT H=>T 4=(cG 4)/\T 11=(iV<|iA h w i)/\T 13=(aE<|(eA o<|bD<|[(aA h.acc (iA h w i).toNat),List.drop i w]).getD [])/\T 15=(aE<|aQ h.m (iA h w i)<|List.drop i w)/\H 4=(bk 1 28 5 [[(iV h.m.i),(iV h.m.s),(aC h.m.nx),(aC h.m.ot),(aC h.acc)]])/\H 5=(bk 1 31 2 [[(iV o.i),(V.sl<|List.map cT o.tr)]])/\True) ?_ ?_
 . 
  refine aX J J J J<|aP<|aP<|aP<|gD (n:=i) (aM<|aE w) (cO i) OM (λ_=>J)<|aI (rO h.m (iA h w i) (List.drop i w) hm (xJ hm hw i) (eL<|aCY (aBu hm) hw i).1 (eL<|aCY (aBu hm) hw i).2) J<|aP<|bE J J<|bE J J<|aP<|aP ?_
  exact eS ⟨J,J,J,J,J,J,trivial⟩
 intro T H ⟨t4,t11,t13,t15,h4,h5,_⟩;refine aW<|aJ t13<|aX t4 h4 J J<|aJ t11<|dR (i:=(iA h w i)) (aM<|aC h.acc) (aM<|iV<|iA h w i) OM OM J<|aL J J<|bA J<|gD (n:=((aA h.acc (iA h w i).toNat).length)) (aM<|aE<|(eA o<|bD<|[(aA h.acc (iA h w i).toNat),List.drop i w]).getD []) (cO<|(aA h.acc (iA h w i).toNat).length) OM (λ_=>J)<|aJ t15<|aI (rQ (List.drop ((aA h.acc (iA h w i).toNat).length)<|(eA o<|bD<|[(aA h.acc (iA h w i).toNat),List.drop i w]).getD [])<|aQ h.m (iA h w i)<|List.drop i w) J<|qT J<|aP<|aP<|aD ?_
 refine bF ?_;refine iN (aM<|V.bool<|decide (¬((List.drop ((aA h.acc (iA h w i).toNat).length)<|(eA o<|bD<|[(aA h.acc (iA h w i).toNat),List.drop i w]).getD [])=(aQ h.m (iA h w i)<|List.drop i w)))) (aM V.nilsl) (aM<|iV 0) (cH ?_) (bH ?_)<|aF ?_
 . unfold aFX; rw [if_neg d1,if_pos d2]; rfl
 . unfold aAq; rw [if_neg d1,if_pos d2]
 . unfold zP; rw [if_neg d1]
theorem aDB (h:Hy) (o:Ob) (w:List Int) (i:Nat) (hv:gY h=0) (ho:kS o=0) (hw:dG w h.m.i=0) (hi:i < w.length) (hk:(eA o (lY h w i)).isSome=true):bK Tryz.prog 177 [(V.agg [(iV h.m.i),(iV h.m.s),(aC h.m.nx),(aC h.m.ot),(aC h.acc)]),(V.agg [(iV o.i),(V.sl (List.map cT o.tr))]),(aE w),(iV ((i:Nat):Int))] (V.tup [(V.agg [(aE ((wW h o w i).p)),(iV ((wW h o w i).a)),(aE ((wW h o w i).x))]),(iV (snE h o w i))]):=by
 refine' pK [] [] Tryz.func177 ?e λhB=>?_
 case e=>conv=>lhs; cbv
 dsimp only;obtain ⟨hm,hal,hac⟩:=mS hv;have hsi:=xJ hm hw i;have hwl:=eL hw;have hwi:=hwl.2 i hi;have hrw:=tJ hm hsi.1 hsi.2;have hq:(bD [aA h.acc (iA h w i).toNat,w.drop i]).length=(aA h.acc (iA h w i).toNat).length+(w.length - i):=qR h w i;have hal2:(aA h.acc (iA h w i).toNat).length<=1024:=hac _ OM;have hln:((eA o<|bD [aA h.acc (iA h w i).toNat,w.drop i]).getD []).length=(bD [aA h.acc (iA h w i).toNat,w.drop i]).length:=nH (lD ho) hk;refine aW<|bS (i:=4) (n:=0) (m:=5) (cs:=[(iV h.m.i),(iV h.m.s),(aC h.m.nx),(aC h.m.ot),(aC h.acc)]) J (cE J) J J J<|bS (i:=5) (n:=0) (m:=2) (cs:=[(iV o.i),(V.sl<|List.map cT o.tr)]) J (cE J) J J J<|bM (i:=8) (n:=0) (m:=3) J (cE J) J<|aD<|aW<|aV J J J J<|aP<|aP<|aI (aC4 h w i hm hw OM) J<|aD<|aW<|aV J J J J<|cM J J ?_
 refine aV J J J J<|aP<|dR (i:=(iA h w i)) (aM<|aC h.acc) (aM<|iV<|iA h w i) OM OM J<|aL J J<|aP<|aP<|gD (n:=i) (aM<|aE w) (cO i) OM (λ_=>J)<|aS J J<|aI (eB ([(aA h.acc (iA h w i).toNat),List.drop i w]) (by simp [bD]; omega)) J<|aI (kN o (bD<|[(aA h.acc (iA h w i).toNat),List.drop i w]) ho) J<|aP<|bE J J<|bE J J<|aP<|aD ?_
 refine cS ?_;refine dE (λT H=>T 2=(aE w)/\T 3=(iV ((i:Nat):Int))/\T 4=(cG 4)/\T 8=(cG 8)/\T 10=(iV<|iA h w i)/\T 53=(V.bool<|decide ((aA ((eA o<|bD<|[(aA h.acc (iA h w i).toNat),List.drop i w]).getD [])<|(aA h.acc (iA h w i).toNat).length)≠(aA (aA h.m.ot (iA h w i).toNat) (aA w i).toNat)))/\H 4=(bk 1 28 5 [[(iV h.m.i),(iV h.m.s),(aC h.m.nx),(aC h.m.ot),(aC h.acc)]])/\H 5=(bk 1 31 2 [[(iV o.i),(V.sl<|List.map cT o.tr)]])/\H 8=(bk 1 62 3 [[V.nilsl,(iV 0),V.nilsl]])/\True) ?_ ?_
 . 
  refine aP<|aX J J J J<|aP<|dR (i:=(iA h w i)) (aM<|aC h.acc) (aM<|iV<|iA h w i) OM OM J<|aL J J<|bA J<|dA (i:=((aA h.acc (iA h w i).toNat).length)) (aM<|aE<|(eA o<|bD<|[(aA h.acc (iA h w i).toNat),List.drop i w]).getD []) (cO<|(aA h.acc (iA h w i).toNat).length)<|aL J J<|cM J J<|aX J J J J<|aP<|dR (i:=(iA h w i)) (aM<|aC h.m.ot) (aM<|iV<|iA h w i) OM OM J<|aL J J<|aP ?_
  refine aP<|dA (i:=i) (aM<|aE w) (cO i)<|aL J J<|dR (i:=(aA w i)) (aM<|aE<|aA h.m.ot (iA h w i).toNat) (aM<|iV<|aA w i) OM OM J<|aL J J<|bP J J ?_
  exact eS ⟨J,J,J,J,J,J,J,J,J,trivial⟩
 intro T H ⟨t2,t3,t4,t8,t10,t53,h4,h5,h8,_⟩;refine aH t53 (λc1=>?_) λc1=>?_
 . 
  have d1:snE h o w i=15:=if_pos c1;refine aO<|bN J J<|bQ t8 J J h8 J J J J J<|aD<|aK ?_
  refine dJ (bI (u:=(V.agg [V.nilsl,(iV 0),V.nilsl])) t8 (@J Blk<|bk 1 62 3 [[V.nilsl,(iV 0),V.nilsl]])<|lB oB J J) (aY<|aM<|iV 15) (kK (bH ?_) (aF ?_)<|bH ?_)<|aF ?_
  . unfold wW; rw [if_pos OM]
  . unfold wW; rw [if_pos OM]
  . unfold wW; rw [if_pos OM]
  . exact d1.symm
 have d1:snE h o w i=0:=if_neg c1;refine aB<|aW<|aX t4 h4 J J<|aJ t10<|dR (i:=(iA h w i)) (aM<|aC h.acc) (aM<|iV<|iA h w i) OM OM J<|aL J J<|aS J J<|aI (eB ([(aA h.acc (iA h w i).toNat)]) (by simp [bD]; omega)) J<|aJ t2<|aJ t3<|dA (i:=i) (aM<|aE w) (cO i)<|aL J J<|aJ t2<|aJ t3<|cF J ?_
 refine gD (n:=(i+1)) (aM<|aE w) (cO<|i+1) OM (λ_=>J)<|aS J J<|aI (eB ([List.drop (i+1) w]) (by simp [bD]; omega)) J<|bN J J<|bQ t8 J J h8 J J J J J<|aD<|bF ?_
 refine dJ (bI (u:=(V.agg [(aE<|bD<|[(aA h.acc (iA h w i).toNat)]),(iV<|aA w i),(aE<|bD<|[List.drop (i+1) w])])) t8 (@J Blk<|bk 1 62 3 [[(aE<|bD<|[(aA h.acc (iA h w i).toNat)]),(iV<|aA w i),(aE<|bD<|[List.drop (i+1) w])]])<|lB oB J J) (aY<|aM<|iV 0) (kK (cA ?_ (λ_=>by simp)) (aF ?_)<|cA ?_ (λ_=>by simp))<|aF ?_
 . unfold wW; first|(rw [if_neg OM]; done)|(rw [if_neg OM]; simp [bD,acA]; done)
 . unfold wW; first|(rw [if_neg OM]; done)|(rw [if_neg OM]; simp [bD,acA]; done)
 . unfold wW; first|(rw [if_neg OM]; done)|(rw [if_neg OM]; simp [bD,acA]; done)
 . exact d1.symm
theorem aFH (h:Hy) (o:Ob) (w:List Int) (ho:kS o=0):bK Tryz.prog 132 [(V.agg [(iV h.m.i),(iV h.m.s),(aC h.m.nx),(aC h.m.ot),(aC h.acc)]),(V.agg [(iV o.i),(V.sl (List.map cT o.tr))]),(aE w)] (V.tup [(V.agg [(aE ((jV h o w).p)),(iV ((jV h o w).a)),(aE ((jV h o w).x))]),(aE (kV h o w)),(iV (tS h o w))]):=by
 refine' pK [] [] Tryz.func132 ?e λhB=>?_
 case e=>conv=>lhs; cbv
 dsimp only;refine aW<|bS (i:=3) (n:=0) (m:=5) (cs:=[(iV h.m.i),(iV h.m.s),(aC h.m.nx),(aC h.m.ot),(aC h.acc)]) J (cE J) J J J<|bS (i:=4) (n:=0) (m:=2) (cs:=[(iV o.i),(V.sl<|List.map cT o.tr)]) J (cE J) J J J<|bM (i:=6) (n:=0) (m:=3) J (cE J) J<|aP<|aD<|aO<|aV J J J J<|aV J J J J<|aP<|aI (aEW h o w ho) J<|aD<|cS ?_
 refine aW<|aP<|bP J J<|bR ?_
 refine aH J (λc1=>?_) λc1=>?_
 . 
  obtain ⟨s1,s2,s3⟩:=aHX (h:=h) (o:=o) (w:=w) c1;refine aO<|bN J J<|aP<|bQ J J J J J J J J J<|aP<|aD<|aK ?_
  refine fI (bI (u:=(V.agg [V.nilsl,(iV 0),V.nilsl])) J (@J Blk<|bk 1 62 3 [[V.nilsl,(iV 0),V.nilsl]])<|lB oB J J) (aY<|aM V.nilsl) (aY<|aM<|iV<|vU h o w) (kK (bH ?_) (aF ?_)<|bH ?_) (bH ?_)<|aF ?_
  . rw [s1]
  . rw [s1]
  . rw [s1]
  . rw [s2]
  . rw [s3]
 have k0:vU h o w=0:=OM
 obtain ⟨k1,k2,k3,k4,k5,k6⟩:=aAx k0;refine aB<|aW<|aP<|bA J<|aP<|aD (aG λQ2 n2 x2 y2 z2=>?_)
 refine cC (λmm T H=> ∃ (lo:Nat) (hi:Nat) (n:Nat),mm=hi - lo/\T 2=(aE w)/\T 3=(cG 3)/\T 4=(cG 4)/\T 6=(cG 6)/\T 10=(iV ((lo:Nat):Int))/\T 11=(iV ((hi:Nat):Int))/\H 3=(bk 1 28 5 [[(iV h.m.i),(iV h.m.s),(aC h.m.nx),(aC h.m.ot),(aC h.acc)]])/\H 4=(bk 1 31 2 [[(iV o.i),(V.sl<|List.map cT o.tr)]])/\H 6=(bk 1 62 3 [[V.nilsl,(iV 0),V.nilsl]])/\H 16=fL/\(lo < hi)/\(hi<=w.length)/\(hi - lo<=n)/\((eA o<|lY h w lo).isSome=true)/\(fdR h o w=fnA h o w n lo hi)) ?_ ?_
 . 
  refine ⟨_,0,w.length,w.length,J,J,J,J,J,(bL (aM<|iV 0) J),J,J,J,J,J,?_,?_,?_,?_,?_⟩
  . omega
  . omega
  . omega
  . rw [aFJ k1]; exact k4
  . rfl
 intro mm T H ⟨lo,hi,n,hmm,t2,t3,t4,t6,t10,t11,h3,h4,h6,h16,u1,u2,u3,hk,hc⟩ Q3 p13 p23 p33;refine aO<|aJ t11<|aJ t10<|mP J J OM OM<|eD J J<|bR ?_
 refine aH J (λc4=>?_) λc4=>?_
 . 
  have d3:1 < hi - lo:=OM
  obtain ⟨n0,hn⟩: ∃ n0,n=n0+1:=⟨n - 1,OM⟩;have hw:dG w h.m.i=0:=by rw [k2]; exact k3
  have hwl:=(eL hw).1;refine aB (fZ λQ5 n5 x5 y5 z5=>(aW<|aJ t10<|aJ t11<|oC J J OM<|aGG (n:=(lo+hi)) J J OM<|aD<|aW<|aV t3 h3 J J<|aV t4 h4 J J<|aJ t2<|aP<|aI (aEF h o w ((lo+hi) / 2) k1 ho hw OM) J<|aP ?_));refine bE J J<|bE J J<|bE J J<|aP<|aP<|aD<|aO<|aP<|bP J J<|aP ?_
  refine bU 4 (λT H=>T 2=(aE w)/\T 3=(cG 3)/\T 4=(cG 4)/\T 6=(cG 6)/\T 10=(iV ((lo:Nat):Int))/\T 11=(iV ((hi:Nat):Int))/\T 12=(iV (((lo+hi) / 2:Nat):Int))/\T 13=(V.bool<|aFX h o w<|(lo+hi) / 2)/\T 14=(aE<|aAq h o w<|(lo+hi) / 2)/\T 15=(iV<|zP h w<|(lo+hi) / 2)/\T 51=(V.bool<|decide (((zP h w<|(lo+hi) / 2)≠(0:Int))\/((0:Int) < (((aAq h o w<|(lo+hi) / 2).length:Nat):Int))))/\H 3=(bk 1 28 5 [[(iV h.m.i),(iV h.m.s),(aC h.m.nx),(aC h.m.ot),(aC h.acc)]])/\H 4=(bk 1 31 2 [[(iV o.i),(V.sl<|List.map cT o.tr)]])/\H 6=(bk 1 62 3 [[V.nilsl,(iV 0),V.nilsl]])/\H 16=fL/\True) ?_ ?_
  . 
   by_cases g6:(zP h w<|(lo+hi) / 2)≠(0:Int)
   . 
    refine bW (bY g6 J)<|bW (bY g6 J)<|bW (bY g6 J)<|bV (bY g6 J) J ?_
    exact ⟨t2,t3,t4,t6,t10,t11,J,J,J,J,(dZ g6),h3,h4,h6,h16,trivial⟩
   . 
    refine aN (bX g6 J)<|aP<|aN (bX g6 J)<|bA J<|aN (bX g6 J)<|eD J J<|bT (bX g6 J) J ?_
    exact ⟨t2,t3,t4,t6,t10,t11,J,J,J,J,(dX g6),h3,h4,h6,h16,trivial⟩
  intro T H ⟨t2,t3,t4,t6,t10,t11,t12,t13,t14,t15,t51,h3,h4,h6,h16,_⟩;refine bR ?_;refine aH t51 (λc7=>?_) λc7=>?_
  . 
   obtain ⟨s1,s2,s3⟩:=aB4 k0 (show fdR h o w=(none,aAq h o w ((lo+hi) / 2),zP h w ((lo+hi) / 2)) by rw [hc,hn]; exact aNK d3 (by simpa using c7));refine aO<|bN J J<|aJ t14<|aJ t15<|bQ t6 J J h6 J J J J J<|aP<|aD<|aK<|y5 _ _<|p23 _ _<|y2 _ _ ?_
   refine fI (bI (u:=(V.agg [V.nilsl,(iV 0),V.nilsl])) t6 (@J Blk<|bk 1 62 3 [[V.nilsl,(iV 0),V.nilsl]])<|lB oB J J) (aY<|aM<|aE<|aAq h o w<|(lo+hi) / 2) (aY<|aM<|iV<|zP h w<|(lo+hi) / 2) (kK (bH ?_) (aF ?_)<|bH ?_) (cA ?_ (λ_=>by simp))<|aF ?_
   . rw [s1]
   . rw [s1]
   . rw [s1]
   . rw [s2]
   . rw [s3]
  obtain ⟨d4,d5,d7⟩:=aPX (h:=h) (o:=o) (w:=w) (i:=(lo+hi) / 2) (by simpa using c7);refine aB<|aW<|aJ t13<|bR ?_
  refine mJ J (λc8=>?_) (λc8=>?_)
  . 
   have d6:baA h o w ((lo+hi) / 2)=true:=by rw [<- d7]; exact c8
   refine eI<|aJ t12<|aD<|n5 _ _ ?_
   refine p13 _ _ _ ?_ ⟨((lo+hi) / 2),hi,(n - 1),J,t2,t3,t4,t6,(bL (cO<|(lo+hi) / 2) JR),t11,h3,h4,h6,h16,?_,?_,?_,?_,?_⟩
   . omega
   . omega
   . omega
   . omega
   . first|exact hk|exact d5
   . rw [hc,hn]; first|exact aA9 d3 d4 d5 d6|exact xU d3 d4 d5 d6
  have d6:baA h o w ((lo+hi) / 2)=false:=by rw [<- d7]; simpa using c8
  refine eI<|aJ t12<|aD<|n5 _ _ ?_
  refine p13 _ _ _ ?_ ⟨lo,((lo+hi) / 2),(n - 1),J,t2,t3,t4,t6,t10,(bL (cO<|(lo+hi) / 2) JR),h3,h4,h6,h16,?_,?_,?_,?_,?_⟩
  . omega
  . omega
  . omega
  . omega
  . first|exact hk|exact d5
  . rw [hc,hn]; first|exact aA9 d3 d4 d5 d6|exact xU d3 d4 d5 d6
 have d3: ¬ 1 < hi - lo:=OM
 obtain ⟨n0,hn⟩: ∃ n0,n=n0+1:=⟨n - 1,OM⟩;have hw:dG w h.m.i=0:=by rw [k2]; exact k3
 obtain ⟨s1,s2,s3⟩:=aEN (q:=[]) (z:=0) k0 (by rw [hc,hn]; exact aH9 d3);refine aT<|p33 _ _ _<|x2 _ _ (.done (aW<|aV t3 h3 J J<|aV t4 h4 J J<|aJ t2<|aJ t10<|aI (aDB h o w lo k1 ho hw OM hk) J<|aP<|bE J J<|bE J J<|bM (i:=16) (n:=0) (m:=3) J (cE h16) J<|bQ J J J J J J J J J<|aP ?_))
 refine qV<|aV J J J J<|aP<|bQ t6 J J h6 J J J J J<|aP<|aD<|bF ?_
 refine fI (bI (u:=(V.agg [(aE<|(wW h o w lo).p),(iV<|(wW h o w lo).a),(aE<|(wW h o w lo).x)])) t6 (@J Blk<|bk 1 62 3 [[(aE<|(wW h o w lo).p),(iV<|(wW h o w lo).a),(aE<|(wW h o w lo).x)]])<|lB oB J J) (aY<|aM V.nilsl) (aY<|aM<|iV<|snE h o w lo) (kK (cA ?_ (λ_=>by simp)) (aF ?_)<|cA ?_ (λ_=>by simp)) (bH ?_)<|aF ?_
 . rw [s1]
 . rw [s1]
 . rw [s1]
 . rw [s2]
 . rw [s3]
theorem aDu (h:Hy) (o:Ob) (m:M) (w:List Int) (ho:OK o):bK Tryz.prog 84 [(V.agg [(iV h.m.i),(iV h.m.s),(aC h.m.nx),(aC h.m.ot),(aC h.acc)]),(V.agg [(iV o.i),(V.sl (List.map cT o.tr))]),(V.agg [(iV m.i),(iV m.s),(aC m.nx),(aC m.ot)]),(aE w)] (V.tup [(V.agg [(iV ((kT h m w o).1.i)),(V.sl (List.map cT ((kT h m w o).1.tr)))]),(V.agg [(aE ((kT h m w o).2.1.p)),(iV ((kT h m w o).2.1.a)),(aE ((kT h m w o).2.1.x))]),(iV ((kT h m w o).2.2))]):=by
 refine' pK [] [⟨5,[0,1,2,3,4,5],[],[(12,3,8,2)]⟩] Tryz.func84 ?e λhB=>?_
 case e=>conv=>lhs; cbv
 dsimp only;refine aW<|bS (i:=4) (n:=0) (m:=5) (cs:=[(iV h.m.i),(iV h.m.s),(aC h.m.nx),(aC h.m.ot),(aC h.acc)]) J (cE J) J J J<|bS (i:=5) (n:=0) (m:=2) (cs:=[(iV o.i),(V.sl<|List.map cT o.tr)]) J (cE J) J J J<|bS (i:=6) (n:=0) (m:=4) (cs:=[(iV m.i),(iV m.s),(aC m.nx),(aC m.ot)]) J (cE J) J J J<|bM (i:=8) (n:=0) (m:=2) J (cE J) J<|bM (i:=9) (n:=0) (m:=3) J (cE J) J<|aD<|aW<|aV J J J J<|aV J J J J<|aP<|aS J J<|aI (vL o m ([w]) ho) J<|aP<|bE J J ?_
 refine bE J J<|bQ J J J J J J J J J<|aD (aG λQ1 n1 x1 y1 z1=>?_)
 refine cC (λmm T H=> ∃ (q:Ob) (n:Nat) (e:Int) (v12:Nat),mm=n/\T 3=(aE w)/\T 4=(cG 4)/\T 5=(cG 5)/\T 6=(cG 6)/\T 8=(cG 8)/\T 9=(cG 9)/\T 11=(iV e)/\H 4=(bk 1 28 5 [[(iV h.m.i),(iV h.m.s),(aC h.m.nx),(aC h.m.ot),(aC h.acc)]])/\H 5=(bk 1 31 2 [[(iV q.i),(V.sl<|List.map cT q.tr)]])/\H 6=(sA m)/\H 8=(bk 1 31 2 [[(iV 0),V.nilsl]])/\H 9=(bk 1 62 3 [[V.nilsl,(iV 0),V.nilsl]])/\(H 12).ver=v12/\(OK q)/\(e=0->unA h q w w.length < n)/\(kT h m w o=if e≠0 then (q,⟨[],0,[]⟩,e) else lcA h m w n q)) ?_ ?_
 . 
  refine ⟨_,(dN m o [w]).1,(w.length+1),(dN m o [w]).2,0,J,J,J,J,J,J,J,(bL (aM<|iV<|(dN m o<|[w]).2) JR),J,(bL (@J Blk<|bk 1 31 2 [[(iV<|(dN m o<|[w]).1.i),(V.sl<|List.map cT<|(dN m o<|[w]).1.tr)]]) JR),J,J,J,(cE J),?_,?_,?_⟩
  . exact (mH ho).1
  . intro _; exact Nat.lt_succ_of_le aGB
  . rfl
 intro mm T H ⟨q,n,e,v12,hmm,t3,t4,t5,t6,t8,t9,t11,h4,h5,h6,h8,h9,h12,hok,hn,hc⟩ Q2 p12 p22 p32;refine aO<|aJ t11<|eV J J<|bR ?_
 refine aH J (λc3=>?_) λc3=>?_
 . 
  have d0:e=0:=c3;have d1:=hn d0;obtain ⟨n0,hn2⟩: ∃ n0,n=n0+1:=⟨n - 1,OM⟩;refine aB (fZ λQ4 n4 x4 y4 z4=>(aW<|aV t4 h4 J J<|aV t5 h5 J J<|aJ t3<|aI (aFH h q w<|vF hok) J<|aP<|bE J J<|bE J J<|bE J J<|bM (i:=12) (n:=v12) (m:=3) J h12 J<|bQ J J J J J J J J J<|aP<|aD ?_));refine aO<|aP<|bP J J<|aP ?_
  refine bU 4 (λT H=>T 3=(aE w)/\T 4=(cG 4)/\T 5=(cG 5)/\T 6=(cG 6)/\T 8=(cG 8)/\T 9=(cG 9)/\T 12=(V.mp 12 (v12+1) 0 0)/\T 13=(aE<|kV h q w)/\T 14=(iV<|tS h q w)/\T 39=(V.bool<|decide (((tS h q w)≠(0:Int))\/((((kV h q w).length:Nat):Int)=(0:Int))))/\H 4=(bk 1 28 5 [[(iV h.m.i),(iV h.m.s),(aC h.m.nx),(aC h.m.ot),(aC h.acc)]])/\H 5=(bk 1 31 2 [[(iV q.i),(V.sl<|List.map cT q.tr)]])/\H 6=(sA m)/\H 8=(bk 1 31 2 [[(iV 0),V.nilsl]])/\H 9=(bk 1 62 3 [[V.nilsl,(iV 0),V.nilsl]])/\H 12=(bk (v12+1) 62 3 [[(aE<|(jV h q w).p),(iV<|(jV h q w).a),(aE<|(jV h q w).x)]])/\True) ?_ ?_
  . 
   by_cases g5:(tS h q w)≠(0:Int)
   . 
    refine bW (bY g5 J)<|bW (bY g5 J)<|bW (bY g5 J)<|bV (bY g5 J) J ?_
    exact ⟨t3,t4,t5,t6,t8,t9,J,J,J,(dZ g5),h4,h5,h6,h8,h9,J,trivial⟩
   . 
    refine aN (bX g5 J)<|aP<|aN (bX g5 J)<|bA J<|aN (bX g5 J)<|eV J J<|bT (bX g5 J) J ?_
    exact ⟨t3,t4,t5,t6,t8,t9,J,J,J,(dX g5),h4,h5,h6,h8,h9,J,trivial⟩
  intro T H ⟨t3,t4,t5,t6,t8,t9,t12,t13,t14,t39,h4,h5,h6,h8,h9,h12,_⟩;refine bR ?_;refine aH t39 (λc6=>?_) λc6=>?_
  . 
   have hz:kT h m w o=(q,jV h q w,tS h q w):=by rw [hc,if_neg OM,hn2]; exact aE5 (by simpa using c6)
   refine cS<|W_x<|aV t5 h5 J J<|aV t12 h12 J J<|aJ t14<|bQ t8 J J h8 J J J J J<|bQ t9 J J h9 J J J J J<|aD ?_
   refine ⟨by simp [ddB,apV,nO,t12,t13,t14,t3,t39,t4,t5,t6,t8,t9],?_⟩;refine aK<|y4 _ _<|p22 _ _<|y1 _ _ ?_
   refine fI (bI (u:=(V.agg [(iV q.i),(V.sl<|List.map cT q.tr)])) t8 (@J Blk<|bk 1 31 2 [[(iV q.i),(V.sl<|List.map cT q.tr)]])<|lB oB J J) (bI (u:=(V.agg [(aE<|(jV h q w).p),(iV<|(jV h q w).a),(aE<|(jV h q w).x)])) t9 (@J Blk<|bk 1 62 3 [[(aE<|(jV h q w).p),(iV<|(jV h q w).a),(aE<|(jV h q w).x)]])<|lB oB J J) (aY<|aM<|iV<|tS h q w) (cK (aF ?_)<|cA ?_ (λ_=>by simp)) (kK (cA ?_ (λ_=>by simp)) (aF ?_)<|cA ?_ (λ_=>by simp))<|aF ?_
   . rw [hz]
   . rw [hz]
   . rw [hz]
   . rw [hz]
   . rw [hz]
   . rw [hz]
  have d3: ¬ (¬ tS h q w=0\/kV h q w=[]):=by simpa using c6
  have d4:tS h q w=0:=by simp only [not_or,Decidable.not_not] at d3; exact d3.1
  have d5:kV h q w≠[]:=by simp only [not_or,Decidable.not_not] at d3; exact d3.2
  refine aB<|eI<|aV t5 h5 J J<|aV t6 h6 J J<|aJ t13<|aS J J<|aI (vL q m ([kV h q w]) hok) J<|aP<|bE J J<|bE J J<|bQ t5 J J h5 J J J J J<|aD<|n4 _ _ ?_
  refine p12 _ _ _ ?_ ⟨(dN m q [kV h q w]).1,(n - 1),(dN m q [kV h q w]).2,(v12+1),J,t3,t4,t5,t6,t8,t9,(bL (aM<|iV<|(dN m q<|[kV h q w]).2) JR),h4,(bL (@J Blk<|bk 1 31 2 [[(iV<|(dN m q<|[kV h q w]).1.i),(V.sl<|List.map cT<|(dN m q<|[kV h q w]).1.tr)]]) JR),h6,h8,h9,(cE h12),?_,?_,?_⟩
  . omega
  . exact (mH hok).1
  . intro g; obtain ⟨i,i1,i2,i3⟩:=aJT d4 d5; have:=aBY (h:=h) (w:=w) (λx hx=>yA (m:=m) (ws:=[kV h q w]) hx) i3 (by rw [<- i2]; exact aEe g SI) i1; omega
  . rw [hc,if_neg OM,hn2]; exact aOI d3
 have d0: ¬ e=0:=c3;have hz:kT h m w o=(q,⟨[],0,[]⟩,e):=by rw [hc,if_pos d0]
 refine aT<|p32 _ _ _<|x1 _ _ (.done (aW<|aV t5 h5 J J<|bN J J<|aJ t11<|bQ t8 J J h8 J J J J J<|bQ t9 J J h9 J J J J J<|aD<|bF ?_))
 refine fI (bI (u:=(V.agg [(iV q.i),(V.sl<|List.map cT q.tr)])) t8 (@J Blk<|bk 1 31 2 [[(iV q.i),(V.sl<|List.map cT q.tr)]])<|lB oB J J) (bI (u:=(V.agg [V.nilsl,(iV 0),V.nilsl])) t9 (@J Blk<|bk 1 62 3 [[V.nilsl,(iV 0),V.nilsl]])<|lB oB J J) (aY<|aM<|iV e) (cK (aF ?_)<|cA ?_ (λ_=>by simp)) (kK (bH ?_) (aF ?_)<|bH ?_)<|aF ?_
 . rw [hz]
 . rw [hz]
 . rw [hz]
 . rw [hz]
 . rw [hz]
 . rw [hz]
theorem aBE (s:Spl) (i:Int):bK Tryz.prog 133 [(V.agg [(aE s.p),(iV s.a),(aE s.x)]),(iV i)] (iV (wN s i)):=by
 refine' pK [] [] Tryz.func133 ?e λhB=>?_
 case e=>conv=>lhs; cbv
 dsimp only;refine aW<|bS (i:=2) (n:=0) (m:=3) (cs:=[(aE s.p),(iV s.a),(aE s.x)]) J (cE J) J J J<|aD<|aO<|aX J J J J<|aP<|aI (fX s.p i) J<|aD<|aO<|aP<|bP J J ?_
 refine bR ?_;refine aH J (λc1=>?_) λc1=>?_
 . 
  refine aO<|aP<|aD<|aK ?_
  refine aZ (aM<|iV<|dG s.p i)<|aF ?_
  . unfold wN; rw [if_pos (by assumption)]
 refine aB<|aO<|aX J J J J<|bZ J J<|aP ?_
 refine bU 5 (λT H=>T 1=(iV i)/\T 2=(cG 2)/\T 21=(V.bool<|decide ((s.a < (0:Int))\/(i<=s.a)))/\H 2=(bk 1 62 3 [[(aE s.p),(iV s.a),(aE s.x)]])/\True) ?_ ?_
 . 
  by_cases g2:s.a < (0:Int)
  . 
   refine bW (bY g2 J)<|bW (bY g2 J)<|bW (bY g2 J)<|bW (bY g2 J)<|bV (bY g2 J) J ?_
   exact ⟨J,J,(dZ g2),J,trivial⟩
  . 
   refine aN (bX g2 J)<|cM J J<|aN (bX g2 J)<|aV J J J J<|aN (bX g2 J)<|aP<|aN (bX g2 J)<|iC J J<|bT (bX g2 J) J ?_
   exact ⟨J,J,(dX g2),J,trivial⟩
 intro T H ⟨t1,t2,t21,h2,_⟩;refine bR ?_;refine aH t21 (λc3=>?_) λc3=>?_
 . 
  refine aO<|aD<|aK ?_
  refine aZ (aM<|iV 2)<|aF ?_
  . unfold wN; rw [if_neg OM,if_pos OM]
 refine aB<|aO<|aX t2 h2 J J<|bA J<|eV J J<|bR ?_
 refine aH J (λc4=>?_) λc4=>?_
 . 
  refine aO<|aD<|aK ?_
  refine aZ (aM<|iV 19)<|aF ?_
  . unfold wN; rw [if_neg OM,if_neg OM,if_pos OM]
 refine aB<|aW<|aX t2 h2 J J<|aJ t1<|aI (fX s.x i) J<|aD<|bF ?_
 refine aZ (aM<|iV<|dG s.x i)<|aF ?_
 . unfold wN; rw [if_neg OM,if_neg OM,if_neg OM]
theorem aFO (t:Dt) (n:Int) (sf aQ w other:List Int) (hb:Bd t) (hsf:sf.length<=1048576) (ho:aQ.length<=1048576) (hw:w.length<=1048576) (hot:other.length<=1048576):bK Tryz.prog 134 [(V.agg [(V.sl (List.map cN t.nd))]),(iV n),(aE sf),(aE aQ),(aE w),(aE other)] (V.tup [(V.agg [(V.sl (List.map cN ((spT t n sf aQ w other).nd)))]),(iV (nJ t n sf aQ w other))]):=by
 refine' pK [] [] Tryz.func134 ?e λhB=>?_
 case e=>conv=>lhs; cbv
 dsimp only;have hbn:=hb.n;refine aW<|bS (i:=6) (n:=0) (m:=1) (cs:=[(V.sl<|List.map cN t.nd)]) J (cE J) J J J<|bM (i:=12) (n:=0) (m:=1) J (cE J) J<|aD<|aO<|aV J J J J<|aI (oX t hb) J<|aD<|aO<|aP<|bP J J<|bR ?_
 refine aH J (λc1=>?_) λc1=>?_
 . 
  refine aO<|aV J J J J<|aP<|bQ J J J J J J J J J<|aD<|aK ?_
  refine dJ (bI (u:=(V.agg [(V.sl<|List.map cN t.nd)])) J (@J Blk<|bk 1 47 1 [[(V.sl<|List.map cN t.nd)]])<|lB oB J J) (aY<|aM<|iV<|gU t) (fE<|cA ?_ (λ_=>by simp))<|aF ?_
  . have z9:nJ t n sf aQ w other=gU t:=by
      unfold nJ; rw [if_pos OM]
    rw [rJ (by rw [z9]; first|exact DE|omega)]
  . have z9:nJ t n sf aQ w other=gU t:=by
      unfold nJ; rw [if_pos OM]
    exact z9.symm
 have hv:gU t=0:=OM
 refine aB<|aO<|aV J J J J<|aP<|aI (aBR t n true) J<|aD<|aO<|aP<|bP J J<|bR ?_
 refine aH J (λc2=>?_) λc2=>?_
 . 
  refine aO<|aV J J J J<|aP<|bQ J J J J J J J J J<|aD<|aK ?_
  refine dJ (bI (u:=(V.agg [(V.sl<|List.map cN t.nd)])) J (@J Blk<|bk 1 47 1 [[(V.sl<|List.map cN t.nd)]])<|lB oB J J) (aY<|aM<|iV<|noE t n true) (fE<|cA ?_ (λ_=>by simp))<|aF ?_
  . have z9:nJ t n sf aQ w other=noE t n true:=by
      unfold nJ; rw [if_neg OM]; unfold mE; rw [if_pos OM]
    rw [rJ (by rw [z9]; first|exact DE|omega)]
  . have z9:nJ t n sf aQ w other=noE t n true:=by
      unfold nJ; rw [if_neg OM]; unfold mE; rw [if_pos OM]
    exact z9.symm
 obtain ⟨n0,n1,n2⟩:=aCR (t:=t) (n:=n) (b:=true) OM;have nb:n.toNat < t.nd.length:=OM
 refine aB<|aO<|aP<|aI (aAS sf) J<|aD<|aO<|aP<|bP J J<|bR ?_
 refine aH J (λc3=>?_) λc3=>?_
 . 
  have d2:(if sf.length=0 then 19 else dG sf 64)≠0:=c3;refine aO<|aV J J J J<|aP<|bQ J J J J J J J J J<|aD<|aK ?_
  refine dJ (bI (u:=(V.agg [(V.sl<|List.map cN t.nd)])) J (@J Blk<|bk 1 47 1 [[(V.sl<|List.map cN t.nd)]])<|lB oB J J) (aY<|aM<|iV (if sf.length=0 then 19 else dG sf 64)) (fE<|cA ?_ (λ_=>by simp))<|aF ?_
  . have z9:nJ t n sf aQ w other=if sf.length=0 then 19 else dG sf 64:=by
      unfold nJ; rw [if_neg OM]; unfold mE; rw [if_neg OM];by_cases e:sf.length=0
      . rw [if_pos e,if_pos e]
      . rw [if_neg e,if_neg e,if_pos (by rw [if_neg e] at d2; exact d2)]
    rw [rJ (by rw [z9]; first|exact DE|omega)]
  . have z9:nJ t n sf aQ w other=if sf.length=0 then 19 else dG sf 64:=by
      unfold nJ; rw [if_neg OM]; unfold mE; rw [if_neg OM];by_cases e:sf.length=0
      . rw [if_pos e,if_pos e]
      . rw [if_neg e,if_neg e,if_pos (by rw [if_neg e] at d2; exact d2)]
    exact z9.symm
 have d2:sf.length≠0/\dG sf 64=0:=by by_cases e:sf.length=0; (rw [if_pos e] at c3; exact (c3 DE).elim); (rw [if_neg e] at c3; exact ⟨e,OM⟩)
 refine aB<|aO<|aP<|aP<|aI (oU aQ sf) J<|aD<|aO<|aP<|bP J J<|bR ?_
 refine aH J (λc4=>?_) λc4=>?_
 . 
  refine aO<|aV J J J J<|aP<|bQ J J J J J J J J J<|aD<|aK ?_
  refine dJ (bI (u:=(V.agg [(V.sl<|List.map cN t.nd)])) J (@J Blk<|bk 1 47 1 [[(V.sl<|List.map cN t.nd)]])<|lB oB J J) (aY<|aM<|iV<|sJ aQ sf) (fE<|cA ?_ (λ_=>by simp))<|aF ?_
  . have z9:nJ t n sf aQ w other=sJ aQ sf:=by
      unfold nJ; rw [if_neg OM]; unfold mE; rw [if_neg OM,if_neg OM,if_neg OM,if_pos OM]
    rw [rJ (by rw [z9]; first|exact DE|omega)]
  . have z9:nJ t n sf aQ w other=sJ aQ sf:=by
      unfold nJ; rw [if_neg OM]; unfold mE; rw [if_neg OM,if_neg OM,if_neg OM,if_pos OM]
    exact z9.symm
 refine aB<|aO<|aV J J J J<|aP<|aI (aAI t w hb) J<|aD<|aO<|aP<|bP J J<|bR ?_
 refine aH J (λc5=>?_) λc5=>?_
 . 
  refine aO<|aV J J J J<|aP<|bQ J J J J J J J J J<|aD<|aK ?_
  refine dJ (bI (u:=(V.agg [(V.sl<|List.map cN t.nd)])) J (@J Blk<|bk 1 47 1 [[(V.sl<|List.map cN t.nd)]])<|lB oB J J) (aY<|aM<|iV<|fsE t w) (fE<|cA ?_ (λ_=>by simp))<|aF ?_
  . have z9:nJ t n sf aQ w other=fsE t w:=by
      unfold nJ; rw [if_neg OM]; unfold mE; rw [if_neg OM,if_neg OM,if_neg OM,if_neg OM,if_pos OM]
    rw [rJ (by rw [z9]; first|exact DE|omega)]
  . have z9:nJ t n sf aQ w other=fsE t w:=by
      unfold nJ; rw [if_neg OM]; unfold mE; rw [if_neg OM,if_neg OM,if_neg OM,if_neg OM,if_pos OM]
    exact z9.symm
 refine aB<|aO<|aP<|aP<|aI (oU other sf) J<|aD<|aO<|aP<|bP J J<|bR ?_
 refine aH J (λc6=>?_) λc6=>?_
 . 
  refine cS ?_;refine dE (λT H=>T 12=(cG 12)/\T 13=(iV<|sJ other sf)/\H 6=(bk 1 47 1 [[(V.sl<|List.map cN t.nd)]])/\H 12=(bk 1 47 1 [[(V.sl<|List.map cN t.nd)]])/\H 21=fL/\H 23=fL/\H 301=fL/\H 302=fL/\H 303=fL/\H 305=fL/\H 306=fL/\H 353=fL/\H 363=fL/\True) ?_ ?_
  . 
   refine aV J J J J<|aP<|bQ J J J J J J J J J<|aP ?_
   exact eS ⟨J,J,J,J,J,J,J,J,J,J,J,J,J,trivial⟩
  intro T H ⟨t12,t13,h6,h12,h21,h23,h301,h302,h303,h305,h306,h353,h363,_⟩;refine aK ?_;refine dJ (bI (u:=(V.agg [(V.sl<|List.map cN t.nd)])) t12 h12<|lB oB J J) (aY t13) (fE<|cA ?_ (λ_=>by simp))<|aF ?_
  . have z9:nJ t n sf aQ w other=sJ other sf:=by
      unfold nJ; rw [if_neg OM]; unfold mE; rw [if_neg OM,if_neg OM,if_neg OM,if_neg OM,if_neg OM,if_pos OM]
    rw [rJ (by rw [z9]; first|exact DE|omega)]
  . have z9:nJ t n sf aQ w other=sJ other sf:=by
      unfold nJ; rw [if_neg OM]; unfold mE; rw [if_neg OM,if_neg OM,if_neg OM,if_neg OM,if_neg OM,if_pos OM]
    exact z9.symm
 refine aB<|aO<|aP<|aP<|aI (lN aQ other) J<|bR ?_
 refine aH J (λc7=>?_) λc7=>?_
 . 
  have d6:aQ=other:=by simpa using c7
  refine cS ?_;refine dE (λT H=>T 12=(cG 12)/\T 13=(iV 15)/\H 6=(bk 1 47 1 [[(V.sl<|List.map cN t.nd)]])/\H 12=(bk 1 47 1 [[(V.sl<|List.map cN t.nd)]])/\H 21=fL/\H 23=fL/\H 301=fL/\H 302=fL/\H 303=fL/\H 305=fL/\H 306=fL/\H 353=fL/\H 363=fL/\True) ?_ ?_
  . 
   refine aV J J J J<|bQ J J J J J J J J J<|aP ?_
   exact eS ⟨J,J,J,J,J,J,J,J,J,J,J,J,J,trivial⟩
  intro T H ⟨t12,t13,h6,h12,h21,h23,h301,h302,h303,h305,h306,h353,h363,_⟩;refine aK ?_;refine dJ (bI (u:=(V.agg [(V.sl<|List.map cN t.nd)])) t12 h12<|lB oB J J) (aY t13) (fE<|cA ?_ (λ_=>by simp))<|aF ?_
  . have z9:nJ t n sf aQ w other=15:=by
      unfold nJ; rw [if_neg OM]; unfold mE; rw [if_neg OM,if_neg OM,if_neg OM,if_neg OM,if_neg OM,if_neg OM,if_pos d6]
    rw [rJ (by rw [z9]; first|exact DE|omega)]
  . have z9:nJ t n sf aQ w other=15:=by
      unfold nJ; rw [if_neg OM]; unfold mE; rw [if_neg OM,if_neg OM,if_neg OM,if_neg OM,if_neg OM,if_neg OM,if_pos d6]
    exact z9.symm
 have d6: ¬(aQ=other):=by simpa using c7
 refine aB<|cS ?_
 refine dE (λT H=>T 1=(iV n)/\T 2=(aE sf)/\T 3=(aE aQ)/\T 4=(aE w)/\T 5=(aE other)/\T 6=(cG 6)/\T 12=(cG 12)/\T 72=(V.bool<|decide ((4096:Int) < ((t.nd.length+2:Nat):Int)))/\H 6=(bk 1 47 1 [[(V.sl<|List.map cN t.nd)]])/\H 12=(bk 1 47 1 [[V.nilsl]])/\H 21=fL/\H 23=fL/\H 301=fL/\H 302=fL/\H 303=fL/\H 305=fL/\H 306=fL/\H 353=fL/\H 363=fL/\True) ?_ ?_
 . 
  refine aX J J J J<|bA J<|oC J (cO 2) OM<|eD J J ?_
  exact eS ⟨J,J,J,J,J,J,J,J,J,J,J,J,J,J,J,J,J,J,J,trivial⟩
 intro T H ⟨t1,t2,t3,t4,t5,t6,t12,t72,h6,h12,h21,h23,h301,h302,h303,h305,h306,h353,h363,_⟩;refine aH t72 (λc8=>?_) λc8=>?_
 . 
  refine aO<|aV t6 h6 J J<|bQ t12 J J h12 J J J J J<|aD<|aK ?_
  refine dJ (bI (u:=(V.agg [(V.sl<|List.map cN t.nd)])) t12 (@J Blk<|bk 1 47 1 [[(V.sl<|List.map cN t.nd)]])<|lB oB J J) (aY<|aM<|iV 11) (fE<|cA ?_ (λ_=>by simp))<|aF ?_
  . have z9:nJ t n sf aQ w other=11:=by
      unfold nJ; rw [if_neg OM]; unfold mE; rw [if_neg OM,if_neg OM,if_neg OM,if_neg OM,if_neg OM,if_neg OM,if_neg d6,if_pos OM]
    rw [rJ (by rw [z9]; first|exact DE|omega)]
  . have z9:nJ t n sf aQ w other=11:=by
      unfold nJ; rw [if_neg OM]; unfold mE; rw [if_neg OM,if_neg OM,if_neg OM,if_neg OM,if_neg OM,if_neg OM,if_neg d6,if_pos OM]
    exact z9.symm
 refine aB<|aW<|aX t6 h6 J J<|bA J<|aD<|aW<|aV t6 h6 J J<|gA (bO J dQ) (aC9 t 0 0 0 0 0 0 0 _ hb (cE h301) (cE h302) (cE h303) (cE h305) ⟨cE h306,congrArg Blk.live h306⟩ (cE h353)<|cE h363)<|bM (i:=21) (n:=0) (m:=1) J (cE h21) J<|bQ J J J J J J J J J<|qV<|aX J J J J ?_
 refine aJ t1<|dV (i:=n) (aM<|V.ms 353 (0+1+t.nd.length) 0 t.nd.length) (aM<|iV n) (@J Blk<|bz (0+1+t.nd.length) 108 5<|List.map cN t.nd) (eC OM) J OM OM<|aEK (o':=1) J (@J Blk<|bz (0+1+t.nd.length) 108 5<|List.map cN t.nd) (eC OM) J<|cQ (v:=(aE<|(aA t.nd n.toNat).ac)) J (@J Blk<|bz (0+1+t.nd.length) 108 5<|List.map cN t.nd) (dS OM JR)<|aD<|aW<|aJ t2<|aS J J<|aI (eB ([sf]) (by simp only [bD,List.append_nil]; omega)) J<|bN J J<|aJ t3<|aS J J<|aI (eB ([aQ]) (by simp only [bD,List.append_nil]; omega)) J<|aP<|jN (bO (aM<|V.agg [(V.bool false),V.nilsl,(aE<|bD<|[sf]),V.nilsl,V.nilsl])<|bO (aM<|aE<|bD<|[aQ])<|bO (cO t.nd.length) dQ) (aB0 (⟨false,([]),(bD<|[sf]),([]),([])⟩:Nd) (bD<|[aQ]) ((t.nd.length:Nat):Int) (by simp [oM,qZ]) (by simp [oM,qZ])) (cZ (by simp [fQ,Blk.own,h6,h12,h23])<|cZ (dM 6 _ (by simp [-List.map_take,-List.map_drop,-List.map_append,-List.map_reverse]))<|cZ (dM 6 _ (by simp [-List.map_take,-List.map_drop,-List.map_append,-List.map_reverse])) J) (by simp [-List.map_take,-List.map_drop,-List.map_append,-List.map_reverse]) (Or.inl (by simp [-List.map_take,-List.map_drop,-List.map_append,-List.map_reverse])) ?_
 refine bM (i:=23) (n:=0) (m:=5) J (cE h23) J<|bQ J J J J J J J J J<|qV<|aX J J J J<|aJ t1<|aV J J J J<|aJ t5<|aS J J<|aI (eB ([other]) (by simp only [bD,List.append_nil]; omega)) J<|aP<|cF J<|aI (aB0 (oM (⟨false,([]),(bD<|[sf]),([]),([])⟩:Nd) (bD<|[aQ]) ((t.nd.length:Nat):Int)) (bD<|[other]) ((t.nd.length+1:Nat):Int) (by simp [oM,qZ]) (by simp [oM,qZ])) J<|dV (i:=n) (aM<|V.ms 353 (0+1+t.nd.length) 0 t.nd.length) (aM<|iV n) (@J Blk<|bz (0+1+t.nd.length) 108 5<|List.map cN t.nd) (eC OM) J OM OM<|dU (vs:=[(V.bool<|(oM (oM (⟨false,([]),(bD<|[sf]),([]),([])⟩:Nd) (bD<|[aQ]) ((t.nd.length:Nat):Int)) (bD<|[other]) ((t.nd.length+1:Nat):Int)).lf),(aE<|(oM (oM (⟨false,([]),(bD<|[sf]),([]),([])⟩:Nd) (bD<|[aQ]) ((t.nd.length:Nat):Int)) (bD<|[other]) ((t.nd.length+1:Nat):Int)).ac),(aE<|(oM (oM (⟨false,([]),(bD<|[sf]),([]),([])⟩:Nd) (bD<|[aQ]) ((t.nd.length:Nat):Int)) (bD<|[other]) ((t.nd.length+1:Nat):Int)).sf),(aC<|(oM (oM (⟨false,([]),(bD<|[sf]),([]),([])⟩:Nd) (bD<|[aQ]) ((t.nd.length:Nat):Int)) (bD<|[other]) ((t.nd.length+1:Nat):Int)).ou),(aE<|(oM (oM (⟨false,([]),(bD<|[sf]),([]),([])⟩:Nd) (bD<|[aQ]) ((t.nd.length:Nat):Int)) (bD<|[other]) ((t.nd.length+1:Nat):Int)).kd)]) (B':=(bz (0+1+t.nd.length) 108 5<|List.map cN<|t.nd.set n.toNat<|oM (oM (⟨false,([]),(bD<|[sf]),([]),([])⟩:Nd) (bD<|[aQ]) ((t.nd.length:Nat):Int)) (bD<|[other]) ((t.nd.length+1:Nat):Int))) J J J (@J Blk<|bz (0+1+t.nd.length) 108 5<|List.map cN t.nd) (iQ (x:=(oM (oM (⟨false,([]),(bD<|[sf]),([]),([])⟩:Nd) (bD<|[aQ]) ((t.nd.length:Nat):Int)) (bD<|[other]) ((t.nd.length+1:Nat):Int))) (i:=n.toNat) OM J J J J) ?_
 refine bR ?_;refine aH4 (λT H=>T 12=(cG 12)/\T 21=(cG 21)/\H 6=(bk 1 47 1 [[(V.sl<|List.map cN t.nd)]])/\H 12=(bk 1 47 1 [[V.nilsl]])/\H 21=(bk 1 47 1 [[(V.ms 353 (0+1+t.nd.length+1) 0<|t.nd.length+2)]])/\H 23=(bk 1 108 5 [(cN<|oM (⟨false,([]),(bD<|[sf]),([]),([])⟩:Nd) (bD<|[aQ]) ((t.nd.length:Nat):Int))])/\H 301=(⟨1,false,false,0,0,[]⟩:Blk)/\H 302=(⟨1,false,false,0,0,[]⟩:Blk)/\H 303=(⟨1,false,false,0,0,[]⟩:Blk)/\H 305=(⟨0+t.nd.length,false,false,0,0,[]⟩:Blk)/\H 306=(⟨0+t.nd.length,false,false,0,0,[]⟩:Blk)/\H 353=(bz (0+1+t.nd.length+1) 108 5<|List.map cN (t.nd.set n.toNat<|oM (oM (⟨false,([]),(bD<|[sf]),([]),([])⟩:Nd) (bD<|[aQ]) ((t.nd.length:Nat):Int)) (bD<|[other]) ((t.nd.length+1:Nat):Int))++[[(V.bool true),(aE<|(aA t.nd n.toNat).ac),V.nilsl,V.nilsl,V.nilsl],[(V.bool true),(aE<|bD<|[w]),V.nilsl,V.nilsl,V.nilsl]])/\H 363=(⟨0+t.nd.length*1048579,false,false,0,0,[]⟩:Blk)/\True) ?_ ?_
 . 
  refine aX J J J J<|aP<|bN J J<|aJ t4<|aS J J<|aI (eB ([w]) (by simp only [bD,List.append_nil]; omega)) J<|bN J J<|aS J J<|rW (l:=(t.nd.set n.toNat<|oM (oM (⟨false,([]),(bD<|[sf]),([]),([])⟩:Nd) (bD<|[aQ]) ((t.nd.length:Nat):Int)) (bD<|[other]) ((t.nd.length+1:Nat):Int))) (f:=cN) (aM<|V.ms 353 (0+1+t.nd.length) 0 t.nd.length) (@J Blk<|bz (0+1+t.nd.length) 108 5<|List.map cN<|t.nd.set n.toNat<|oM (oM (⟨false,([]),(bD<|[sf]),([]),([])⟩:Nd) (bD<|[aQ]) ((t.nd.length:Nat):Int)) (bD<|[other]) ((t.nd.length+1:Nat):Int)) SI (aM<|V.sl [[(V.bool true),(aE<|(aA t.nd n.toNat).ac),V.nilsl,V.nilsl,V.nilsl],[(V.bool true),(aE<|bD<|[w]),V.nilsl,V.nilsl,V.nilsl]]) (by simp [eH,V.one]) (by (simp; omega)) (by (simp; omega))<|cM J J<|bQ J J J J J J J J J ?_
  exact eS ⟨t12,J,h6,h12,J,J,J,J,J,J,J,J,J,trivial⟩
 intro T H ⟨t12,t21,h6,h12,h21,h23,h301,h302,h303,h305,h306,h353,h363,_⟩;refine sP (id:=353) (l:=(t.nd.set n.toNat<|oM (oM (⟨false,([]),(bD<|[sf]),([]),([])⟩:Nd) (bD<|[aQ]) ((t.nd.length:Nat):Int)) (bD<|[other]) ((t.nd.length+1:Nat):Int))) (m:=([(⟨true,(aA t.nd n.toNat).ac,[],[],[]⟩:Nd),(⟨true,bD ([w]),[],[],[]⟩:Nd)])) (f:=cN) h353 J (.done ?_);refine aW<|aV t21 h21 J J<|bQ t12 J J h12 J J J J J<|aD<|bF ?_
 refine dJ (bI (u:=(V.agg [(V.ms 353 (0+1+t.nd.length+1) 0<|t.nd.length+2)])) t12 (@J Blk<|bk 1 47 1 [[(V.ms 353 (0+1+t.nd.length+1) 0<|t.nd.length+2)]])<|lB oB J J) (aY<|aM<|iV 0) (fE<|iK (@J Blk<|bz (0+1+t.nd.length+1) 108 5<|List.map cN<|t.nd.set n.toNat (oM (oM (⟨false,([]),(bD<|[sf]),([]),([])⟩:Nd) (bD<|[aQ]) ((t.nd.length:Nat):Int)) (bD<|[other]) ((t.nd.length+1:Nat):Int))++[(⟨true,(aA t.nd n.toNat).ac,[],[],[]⟩:Nd),(⟨true,bD ([w]),[],[],[]⟩:Nd)]) SI (l:=(t.nd.set n.toNat (oM (oM (⟨false,([]),(bD<|[sf]),([]),([])⟩:Nd) (bD<|[aQ]) ((t.nd.length:Nat):Int)) (bD<|[other]) ((t.nd.length+1:Nat):Int))++[(⟨true,(aA t.nd n.toNat).ac,[],[],[]⟩:Nd),(⟨true,bD ([w]),[],[],[]⟩:Nd)])) J SI (λ_=>by simp) ?_)<|aF ?_
 . have z9:nJ t n sf aQ w other=0:=by
     unfold nJ; rw [if_neg OM]; unfold mE; rw [if_neg OM,if_neg OM,if_neg OM,if_neg OM,if_neg OM,if_neg OM,if_neg d6,if_neg OM]
   rw [aDp z9,<- aOS (sf:=sf) (n:=t.nd.length) d6,<- aMB hv nb n2]; simp [aGN,vH]
 . have z9:nJ t n sf aQ w other=0:=by
     unfold nJ; rw [if_neg OM]; unfold mE; rw [if_neg OM,if_neg OM,if_neg OM,if_neg OM,if_neg OM,if_neg OM,if_neg d6,if_neg OM]
   exact z9.symm
theorem aD4 (l:Ts) (o:Ob) (s:Spl) (hb:Bd l.t) (ho:kS o=0):bK Tryz.prog 85 [(V.agg [(iV l.i),(V.sl (List.map cN l.t.nd))]),(V.agg [(iV o.i),(V.sl (List.map cT o.tr))]),(V.agg [(aE s.p),(iV s.a),(aE s.x)])] (V.tup [(V.agg [(iV ((fY l o s).1.i)),(V.sl (List.map cN ((fY l o s).1.t.nd)))]),(aC ((fY l o s).2.1)),(iV ((fY l o s).2.2))]):=by
 refine' pK [20] [] Tryz.func85 ?e λhB=>?_
 case e=>conv=>lhs; cbv
 dsimp only;have hal:=jS l.t.nd;refine aW<|bS (i:=3) (n:=0) (m:=2) (cs:=[(iV l.i),(V.sl<|List.map cN l.t.nd)]) J (cE J) J J J<|bS (i:=4) (n:=0) (m:=2) (cs:=[(iV o.i),(V.sl<|List.map cT o.tr)]) J (cE J) J J J<|bS (i:=5) (n:=0) (m:=3) (cs:=[(aE s.p),(iV s.a),(aE s.x)]) J (cE J) J J J<|bM (i:=6) (n:=0) (m:=2) J (cE J) J<|aP<|aD<|aO<|aV J J J J<|aV J J J J<|aI (rI l o hb) J<|aD<|cS ?_
 refine aW<|aP<|bP J J<|bR ?_
 refine aH J (λc1=>?_) λc1=>?_
 . 
  have zq1:jL l o≠0:=c1;refine aO<|aV J J J J<|aP<|bQ J J J J J J J J J<|aP<|aD<|aK ?_
  refine fI (bI (u:=(V.agg [(iV l.i),(V.sl<|List.map cN l.t.nd)])) J (@J Blk<|bk 1 49 2 [[(iV l.i),(V.sl<|List.map cN l.t.nd)]])<|lB oB J J) (aY<|aM V.nilsl) (aY<|aM<|iV<|jL l o) (cK (aF ?_)<|cA ?_ (λ_=>by simp)) (bH ?_)<|aF ?_
  . rw [wK zq1]
    try rfl
  . rw [wK zq1]
    try rfl
  . rw [wK zq1]
    try rfl
  . rw [wK zq1]
    try rfl
 have zq1: ¬jL l o≠0:=c1;refine aB<|aO<|aV J J J J<|aX J J J J<|aI (aBE s l.i) J<|aD<|aO<|aP<|bP J J<|bR ?_
 refine aH J (λc2=>?_) λc2=>?_
 . 
  have zq2:wN s l.i≠0:=c2;refine aO<|aV J J J J<|aP<|bQ J J J J J J J J J<|aP<|aD<|aK ?_
  refine fI (bI (u:=(V.agg [(iV l.i),(V.sl<|List.map cN l.t.nd)])) J (@J Blk<|bk 1 49 2 [[(iV l.i),(V.sl<|List.map cN l.t.nd)]])<|lB oB J J) (aY<|aM V.nilsl) (aY<|aM<|iV<|wN s l.i) (cK (aF ?_)<|cA ?_ (λ_=>by simp)) (bH ?_)<|aF ?_
  . rw [wM zq1 zq2]
    try rfl
  . rw [wM zq1 zq2]
    try rfl
  . rw [wM zq1 zq2]
    try rfl
  . rw [wM zq1 zq2]
    try rfl
 have zq2: ¬wN s l.i≠0:=c2;have ht:=aBV<|Decidable.not_not.1 zq1
 obtain ⟨hi1,hi2,hv,hw0,_,hl0⟩:=tL ht.1;have hbn:=hb.n;obtain ⟨p1,p2,p3,p4,p5⟩:=aLX zq2;have p6:=eL p1;have p7:=eL p5;have p8:(dY s).length=s.p.length+1:=by simp [dY,bD]
 have hll:=oZ hv;refine aB<|aW<|aX J J J J<|aX J J J J<|aS J J<|aS J J<|sM (bO J dQ) (show bK _ _ _ (aE<|dY s) from eB [s.p,[s.a]] (by simp only [bD,List.append_nil,List.length_append,List.length_cons,List.length_nil]; omega))<|aD<|aW<|aX J J J J<|aV J J J J<|aP ?_
 refine aI (tE l.t o (dY s) hb ho OM) J<|aP<|bE J J<|bE J J<|bE J J<|aP<|aP<|aD<|cS ?_
 refine dE (λT H=>T 3=(cG 3)/\T 4=(cG 4)/\T 5=(cG 5)/\T 6=(cG 6)/\T 11=(aE<|dY s)/\T 12=(iV<|(bJ l.t o<|dY s).1)/\T 13=(aE<|(bJ l.t o<|dY s).2.1)/\T 14=(iV<|(bJ l.t o<|dY s).2.2)/\T 54=(V.bool<|decide (((bJ l.t o<|dY s).2.2)≠(0:Int)))/\H 3=(bk 1 49 2 [[(iV l.i),(V.sl<|List.map cN l.t.nd)]])/\H 4=(bk 1 31 2 [[(iV o.i),(V.sl<|List.map cT o.tr)]])/\H 5=(bk 1 62 3 [[(aE s.p),(iV s.a),(aE s.x)]])/\H 6=(bk 1 49 2 [[(iV 0),V.nilsl]])/\H 20=fL/\H 21=fL/\True) ?_ ?_
 . 
  refine aP<|bP J J ?_
  exact eS ⟨J,J,J,J,J,J,J,J,J,J,J,J,J,J,J,trivial⟩
 intro T H ⟨t3,t4,t5,t6,t11,t12,t13,t14,t54,h3,h4,h5,h6,h20,h21,_⟩;refine aH t54 (λc3=>?_) λc3=>?_
 . 
  have zq3:(bJ l.t o<|dY s).2.2≠0:=c3;refine aO<|aV t3 h3 J J<|aJ t14<|bQ t6 J J h6 J J J J J<|aP<|aD<|aK ?_
  refine fI (bI (u:=(V.agg [(iV l.i),(V.sl<|List.map cN l.t.nd)])) t6 (@J Blk<|bk 1 49 2 [[(iV l.i),(V.sl<|List.map cN l.t.nd)]])<|lB oB J J) (aY<|aM V.nilsl) (aY<|aM<|iV<|(bJ l.t o<|dY s).2.2) (cK (aF ?_)<|cA ?_ (λ_=>by simp)) (bH ?_)<|aF ?_
  . rw [wL zq1 zq2 zq3]
    try rfl
  . rw [wL zq1 zq2 zq3]
    try rfl
  . rw [wL zq1 zq2 zq3]
    try rfl
  . rw [wL zq1 zq2 zq3]
    try rfl
 have zq3: ¬(bJ l.t o<|dY s).2.2≠0:=c3;refine aB<|aO<|aJ t13<|bA J<|eD J J<|bR ?_
 refine aH J (λc4=>?_) λc4=>?_
 . 
  have zq4:0 < (bJ l.t o<|dY s).2.1.length:=OM
  refine aO<|aV t3 h3 J J<|aJ t13<|aS J J<|bQ t6 J J h6 J J J J J<|aP<|aD<|aK ?_
  refine fI (bI (u:=(V.agg [(iV l.i),(V.sl<|List.map cN l.t.nd)])) t6 (@J Blk<|bk 1 49 2 [[(iV l.i),(V.sl<|List.map cN l.t.nd)]])<|lB oB J J) (aY<|aM<|V.sl [[(aE<|(bJ l.t o<|dY s).2.1)]]) (aY<|aM<|iV 0) (cK (aF ?_)<|cA ?_ (λ_=>by simp)) (eM SI ?_)<|aF ?_
  . rw [wO zq1 zq2 zq3 zq4]
    try rfl
  . rw [wO zq1 zq2 zq3 zq4]
    try rfl
  . rw [wO zq1 zq2 zq3 zq4]
    try rfl
  . rw [wO zq1 zq2 zq3 zq4]
    try rfl
 have zq4: ¬0 < (bJ l.t o<|dY s).2.1.length:=OM
 have q4:(bJ l.t o<|dY s).2.1=[]:=List.length_eq_zero_iff.1 OM;have hnd:=aCa (Decidable.not_not.1 zq3) q4 hv;refine aB<|aO<|cM t3 h3<|aX J h3 J J<|aJ t12<|dR (i:=((bJ l.t o<|dY s).1)) (aM<|V.sl<|List.map cN l.t.nd) (aM<|iV<|(bJ l.t o<|dY s).1) OM OM J<|dB (cs':=(cN<|aA l.t.nd ((bJ l.t o<|dY s).1).toNat)) J J<|aL J J<|fF J<|bR ?_
 refine cU J (λc5=>?_) (λc5=>?_)
 . 
  have zq5:(qJ l o s).lf=false:=by simpa [qJ] using c5
  refine aO<|aV t3 h3 J J<|bQ t6 J J h6 J J J J J<|aP<|aD<|aK ?_
  refine fI (bI (u:=(V.agg [(iV l.i),(V.sl<|List.map cN l.t.nd)])) t6 (@J Blk<|bk 1 49 2 [[(iV l.i),(V.sl<|List.map cN l.t.nd)]])<|lB oB J J) (aY<|aM V.nilsl) (aY<|aM<|iV 10) (cK (aF ?_)<|cA ?_ (λ_=>by simp)) (bH ?_)<|aF ?_
  . rw [wR zq1 zq2 zq3 zq4 zq5]
    try rfl
  . rw [wR zq1 zq2 zq3 zq4 zq5]
    try rfl
  . rw [wR zq1 zq2 zq3 zq4 zq5]
    try rfl
  . rw [wR zq1 zq2 zq3 zq4 zq5]
    try rfl
 have zq5: ¬(qJ l o s).lf=false:=by simpa [qJ] using c5
 have hac:=(eL (hw0 (bJ l.t o<|dY s).1.toNat OM).1).1;have hba:(qJ l o s).ac.length<=1024:=hac;have hlc:(qJ l o s).lf=true:=by simpa using zq5
 refine aB<|aW<|cM t3 h3<|aX J h3 J J<|aJ t12<|dR (i:=((bJ l.t o<|dY s).1)) (aM<|V.sl<|List.map cN l.t.nd) (aM<|iV<|(bJ l.t o<|dY s).1) OM OM J<|dB (cs':=(List.drop 1<|cN<|aA l.t.nd ((bJ l.t o<|dY s).1).toNat)) J J<|aL J J<|aD<|aO<|aP<|bA J<|cM t5 h5 ?_
 refine aV J h5 J J<|bA J<|oC J J OM<|eD J J<|aP ?_
 refine bU 8 (λT H=>T 3=(cG 3)/\T 4=(cG 4)/\T 5=(cG 5)/\T 6=(cG 6)/\T 11=(aE<|dY s)/\T 12=(iV<|(bJ l.t o<|dY s).1)/\T 15=(aE<|(aA l.t.nd ((bJ l.t o<|dY s).1).toNat).ac)/\T 94=(V.bool<|decide (((1024:Int) < (((((aA l.t.nd ((bJ l.t o<|dY s).1).toNat).ac).length)+s.x.length:Nat):Int))\/((1024:Int) < ((((dY s).length)+s.x.length:Nat):Int))))/\H 3=(bk 1 49 2 [[(iV l.i),(V.sl<|List.map cN l.t.nd)]])/\H 4=(bk 1 31 2 [[(iV o.i),(V.sl<|List.map cT o.tr)]])/\H 5=(bk 1 62 3 [[(aE s.p),(iV s.a),(aE s.x)]])/\H 6=(bk 1 49 2 [[(iV 0),V.nilsl]])/\H 20=fL/\H 21=fL/\True) ?_ ?_
 . 
  by_cases g6:(1024:Int) < (((((aA l.t.nd ((bJ l.t o<|dY s).1).toNat).ac).length)+s.x.length:Nat):Int)
  . 
   refine bW (bY g6 J)<|bW (bY g6 J)<|bW (bY g6 J)<|bW (bY g6 J)<|bW (bY g6 J)<|bW (bY g6 J)<|bW (bY g6 J)<|bV (bY g6 J) J ?_
   exact ⟨t3,t4,t5,t6,t11,t12,J,(dZ g6),h3,h4,h5,h6,h20,h21,trivial⟩
  . 
   refine aN (bX g6 J)<|aJ t11<|aN (bX g6 J)<|bA J<|aN (bX g6 J)<|cM t5 h5<|aN (bX g6 J)<|aV J h5 J J<|aN (bX g6 J)<|bA J<|aN (bX g6 J)<|oC J J OM<|aN (bX g6 J)<|eD J J<|bT (bX g6 J) J ?_
   exact ⟨t3,t4,t5,t6,t11,t12,J,(dX g6),h3,h4,h5,h6,h20,h21,trivial⟩
 intro T H ⟨t3,t4,t5,t6,t11,t12,t15,t94,h3,h4,h5,h6,h20,h21,_⟩;refine bR ?_;refine aH t94 (λc7=>?_) λc7=>?_
 . 
  have zq6:1024 < (qJ l o s).ac.length+s.x.length\/1024 < (dY s).length+s.x.length:=by unfold qJ; omega
  refine aO<|aV t3 h3 J J<|bQ t6 J J h6 J J J J J<|aP<|aD<|aK ?_
  refine fI (bI (u:=(V.agg [(iV l.i),(V.sl<|List.map cN l.t.nd)])) t6 (@J Blk<|bk 1 49 2 [[(iV l.i),(V.sl<|List.map cN l.t.nd)]])<|lB oB J J) (aY<|aM V.nilsl) (aY<|aM<|iV 3) (cK (aF ?_)<|cA ?_ (λ_=>by simp)) (bH ?_)<|aF ?_
  . rw [uE zq1 zq2 zq3 zq4 zq5 zq6]
    try rfl
  . rw [uE zq1 zq2 zq3 zq4 zq5 zq6]
    try rfl
  . rw [uE zq1 zq2 zq3 zq4 zq5 zq6]
    try rfl
  . rw [uE zq1 zq2 zq3 zq4 zq5 zq6]
    try rfl
 have zq6: ¬(1024 < (qJ l o s).ac.length+s.x.length\/1024 < (dY s).length+s.x.length):=by unfold qJ; omega
 have m0:msW o (tI l o s)=_:=aHZ;have bh1:=aAg ho (aA l.t.nd (bJ l.t o<|dY s).1.toNat).ac s.x;have bh2:=aAg ho (dY s) s.x;refine aB<|aW<|aV t4 h4 J J<|aJ t15<|aX t5 h5 J J<|aI (mK o ((aA l.t.nd ((bJ l.t o<|dY s).1).toNat).ac) s.x ho OM OM) J<|aP<|bE J J<|bE J J<|aP<|aD<|aW<|aV t4 h4 J J<|aJ t11 ?_
 refine aX t5 h5 J J<|aI (mK o (dY s) s.x ho OM OM) J<|aP<|bE J J<|bE J J<|aP<|aD<|aW<|gG (i:=20) (n:=0) J (cE h20)<|tA<|aW<|aP<|fF J ?_
 refine bR ?_;refine cU J (λc8=>?_) (λc8=>?_)
 . 
  have k1: ¬(eA o<|bD [(qJ l o s).ac,s.x]).isSome=true:=by have q:=c8; simpa [qJ] using q
  refine dE (λT H=>T 3=(cG 3)/\T 5=(cG 5)/\T 6=(cG 6)/\T 11=(aE<|dY s)/\T 12=(iV<|(bJ l.t o<|dY s).1)/\T 16=(aE<|lH o ((aA l.t.nd ((bJ l.t o<|dY s).1).toNat).ac) s.x)/\T 18=(aE<|lH o (dY s) s.x)/\T 19=(V.bool<|(eA o<|bD [(dY s),s.x]).isSome)/\T 20=(V.ms 20 2 0 1)/\H 3=(bk 1 49 2 [[(iV l.i),(V.sl<|List.map cN l.t.nd)]])/\H 4=(bk 1 31 2 [[(iV o.i),(V.sl<|List.map cT o.tr)]])/\H 5=(bk 1 62 3 [[(aE s.p),(iV s.a),(aE s.x)]])/\H 6=(bk 1 49 2 [[(iV 0),V.nilsl]])/\H 20=(bz 2 54 1<|List.map cL<|[]++[bD ([(aA l.t.nd ((bJ l.t o<|dY s).1).toNat).ac,s.x])])/\H 21=fL/\True) ?_ ?_
  . 
   refine aP<|aJ t15<|aX t5 h5 J J<|aS J J<|aI (eB ([(aA l.t.nd ((bJ l.t o<|dY s).1).toNat).ac,s.x]) (by simp only [bD,List.append_nil,List.length_append,List.length_cons,List.length_nil]; omega)) J<|aS J J<|eX (l:=([])) (f:=cL) (x:=(bD<|[(aA l.t.nd ((bJ l.t o<|dY s).1).toNat).ac,s.x])) (aM<|V.ms 20 1 0 0) (show _=(bz 1 54 1<|List.map cL<|[]) from (@J Blk<|bz 1 54 1 [])) JR (aM<|V.sl [[(aE<|bD<|[(aA l.t.nd ((bJ l.t o<|dY s).1).toNat).ac,s.x])]])<|aP ?_
   exact eS ⟨t3,t5,t6,t11,t12,J,J,J,J,h3,h4,h5,h6,J,h21,trivial⟩
  intro T H ⟨t3,t5,t6,t11,t12,t16,t18,t19,t20,h3,h4,h5,h6,h20,h21,_⟩;refine aO<|aJ t19<|fF J<|bR ?_
  refine cU J (λc9=>?_) (λc9=>?_)
  . 
   have k2: ¬(eA o<|bD [dY s,s.x]).isSome=true:=by have q:=c9; simpa using q
   refine aW<|aJ t20<|aJ t11<|aX t5 h5 J J<|aS J J<|aI (eB ([dY s,s.x]) (by simp only [bD,List.append_nil,List.length_append,List.length_cons,List.length_nil]; omega)) J<|aS J J<|eX (l:=([]++[bD ([(aA l.t.nd ((bJ l.t o<|dY s).1).toNat).ac,s.x])])) (f:=cL) (x:=(bD<|[dY s,s.x])) (aM<|V.ms 20 2 0 1) h20 JR (aM<|V.sl [[(aE<|bD<|[dY s,s.x])]])<|aD<|cS<|W_g<|aP<|dW J (@J Blk<|bz 3 54 1<|List.map cL<|[]++[bD ([(aA l.t.nd ((bJ l.t o<|dY s).1).toNat).ac,s.x])]++[bD ([dY s,s.x])]) JR<|eD J J ?_
   refine bR<|eJ (R:=λT H=>T 3=(cG 3)/\T 5=(cG 5)/\T 6=(cG 6)/\T 11=(aE<|dY s)/\T 12=(iV<|(bJ l.t o<|dY s).1)/\T 16=(aE<|lH o ((aA l.t.nd ((bJ l.t o<|dY s).1).toNat).ac) s.x)/\T 18=(aE<|lH o (dY s) s.x)/\T 20=(V.ms 20 3 0 2)/\T 134=(V.bool<|decide ((0:Int) < ((2:Nat):Int)))/\H 3=(bk 1 49 2 [[(iV l.i),(V.sl<|List.map cN l.t.nd)]])/\H 4=(bk 1 31 2 [[(iV o.i),(V.sl<|List.map cT o.tr)]])/\H 5=(bk 1 62 3 [[(aE s.p),(iV s.a),(aE s.x)]])/\H 6=(bk 1 49 2 [[(iV 0),V.nilsl]])/\H 20=(bz 3 54 1<|List.map cL<|[]++[bD ([(aA l.t.nd ((bJ l.t o<|dY s).1).toNat).ac,s.x])]++[bD ([dY s,s.x])])/\H 21=fL/\True) ⟨t3,t5,t6,t11,t12,t16,t18,(aM<|V.ms 20 3 0 2),(aM<|V.bool<|decide ((0:Int) < ((2:Nat):Int))),h3,h4,h5,h6,J,h21,trivial⟩ ?_
   intro T H ⟨t3,t5,t6,t11,t12,t16,t18,t20,t134,h3,h4,h5,h6,h20,h21,_⟩;refine .freeze 20 (.done ?_);refine aH (bB t134 J) (λc10=>?_) λc10=>?_
   . 
    have zq7:0 < (msW o<|tI l o s).length:=by rw [m0]; simp [k1,k2]
    refine aO<|aV (bB t3 rfl) (aR (id:=20) h3 DE) rfl rfl<|aJ (bB t20<|mL h20 JR (l:=([]++[bD ([(aA l.t.nd ((bJ l.t o<|dY s).1).toNat).ac,s.x])]++[bD ([dY s,s.x])])) rfl JR)<|aI (nF ([]++[bD ([(aA l.t.nd ((bJ l.t o<|dY s).1).toNat).ac,s.x])]++[bD ([dY s,s.x])]) SI (by intro w hw; simp only [List.nil_append,List.mem_append,List.mem_singleton] at hw; rcases hw with rfl|rfl <;> (simp only [bD,List.append_nil,List.length_append]; omega))) rfl<|bQ (bB t6 rfl) rfl rfl (aR (id:=20) h6 DE) rfl rfl rfl rfl rfl<|aP<|aD<|aK ?_
    refine fI (bI (u:=(V.agg [(iV l.i),(V.sl<|List.map cN l.t.nd)])) (bB t6 J) (@J Blk<|bk 1 49 2 [[(iV l.i),(V.sl<|List.map cN l.t.nd)]])<|lB oB J J) (aY<|aM<|aC<|oD<|[]++[bD ([(aA l.t.nd ((bJ l.t o<|dY s).1).toNat).ac,s.x])]++[bD ([dY s,s.x])]) (aY<|aM<|iV 0) (cK (aF ?_)<|cA ?_ (λ_=>by simp)) (cA ?_ (λ_=>by simp))<|aF ?_
    . rw [mW zq1 zq2 zq3 zq4 zq5 zq6 zq7]
    . rw [mW zq1 zq2 zq3 zq4 zq5 zq6 zq7]
    . rw [mW zq1 zq2 zq3 zq4 zq5 zq6 zq7,m0]; simp only [k1,k2,if_true,if_false]; rfl
    . rw [mW zq1 zq2 zq3 zq4 zq5 zq6 zq7]
   . exact absurd DE c10
  have k2:(eA o<|bD [dY s,s.x]).isSome=true:=by have q:=c9; simpa using q
  refine aB<|cS<|W_g<|aJ t20<|dW J h20 JR<|eD J J<|bR ?_
  refine .freeze 20 (.done ?_);refine aH J (λc11=>?_) λc11=>?_
  . 
   have zq7:0 < (msW o<|tI l o s).length:=by rw [m0]; simp [k1,k2]
   refine aO<|aV (bB t3 rfl) (aR (id:=20) h3 DE) rfl rfl<|aJ (bB t20<|mL h20 JR (l:=([]++[bD ([(aA l.t.nd ((bJ l.t o<|dY s).1).toNat).ac,s.x])])) rfl JR)<|aI (nF ([]++[bD ([(aA l.t.nd ((bJ l.t o<|dY s).1).toNat).ac,s.x])]) SI (by intro w hw; simp only [List.nil_append,List.mem_append,List.mem_singleton] at hw; rcases hw with rfl|rfl <;> (simp only [bD,List.append_nil,List.length_append]; omega))) rfl<|bQ (bB t6 rfl) rfl rfl (aR (id:=20) h6 DE) rfl rfl rfl rfl rfl<|aP<|aD<|aK ?_
   refine fI (bI (u:=(V.agg [(iV l.i),(V.sl<|List.map cN l.t.nd)])) (bB t6 J) (@J Blk<|bk 1 49 2 [[(iV l.i),(V.sl<|List.map cN l.t.nd)]])<|lB oB J J) (aY<|aM<|aC<|oD<|[]++[bD ([(aA l.t.nd ((bJ l.t o<|dY s).1).toNat).ac,s.x])]) (aY<|aM<|iV 0) (cK (aF ?_)<|cA ?_ (λ_=>by simp)) (cA ?_ (λ_=>by simp))<|aF ?_
   . rw [mW zq1 zq2 zq3 zq4 zq5 zq6 zq7]
   . rw [mW zq1 zq2 zq3 zq4 zq5 zq6 zq7]
   . rw [mW zq1 zq2 zq3 zq4 zq5 zq6 zq7,m0]; simp only [k1,k2,if_true,if_false]; rfl
   . rw [mW zq1 zq2 zq3 zq4 zq5 zq6 zq7]
  . exact absurd DE c11
 have k1:(eA o<|bD [(qJ l o s).ac,s.x]).isSome=true:=by have q:=c8; simpa [qJ] using q
 refine aB<|cS ?_
 refine dE (λT H=>T 3=(cG 3)/\T 5=(cG 5)/\T 6=(cG 6)/\T 11=(aE<|dY s)/\T 12=(iV<|(bJ l.t o<|dY s).1)/\T 16=(aE<|lH o ((aA l.t.nd ((bJ l.t o<|dY s).1).toNat).ac) s.x)/\T 18=(aE<|lH o (dY s) s.x)/\T 20=(V.ms 20 1 0 0)/\T 123=(V.bool<|!(eA o<|bD [(dY s),s.x]).isSome)/\H 3=(bk 1 49 2 [[(iV l.i),(V.sl<|List.map cN l.t.nd)]])/\H 4=(bk 1 31 2 [[(iV o.i),(V.sl<|List.map cT o.tr)]])/\H 5=(bk 1 62 3 [[(aE s.p),(iV s.a),(aE s.x)]])/\H 6=(bk 1 49 2 [[(iV 0),V.nilsl]])/\H 20=(bz 1 54 1 [])/\H 21=fL/\True) ?_ ?_
 . 
  refine aP<|fF J ?_
  exact eS ⟨t3,t5,t6,t11,t12,J,J,J,J,h3,h4,h5,h6,J,h21,trivial⟩
 intro T H ⟨t3,t5,t6,t11,t12,t16,t18,t20,t123,h3,h4,h5,h6,h20,h21,_⟩;refine cU t123 (λc12=>?_) (λc12=>?_)
 . 
  have k2: ¬(eA o<|bD [dY s,s.x]).isSome=true:=by have q:=c12; simpa using q
  refine aW<|aJ t20<|aJ t11<|aX t5 h5 J J<|aS J J<|aI (eB ([dY s,s.x]) (by simp only [bD,List.append_nil,List.length_append,List.length_cons,List.length_nil]; omega)) J<|aS J J<|eX (l:=([])) (f:=cL) (x:=(bD<|[dY s,s.x])) (aM<|V.ms 20 1 0 0) (show _=(bz 1 54 1<|List.map cL<|[]) from h20) JR (aM<|V.sl [[(aE<|bD<|[dY s,s.x])]])<|aD<|cS<|W_g<|aP<|dW J (@J Blk<|bz 2 54 1<|List.map cL<|[]++[bD ([dY s,s.x])]) JR<|eD J J ?_
  refine bR<|eJ (R:=λT H=>T 3=(cG 3)/\T 5=(cG 5)/\T 6=(cG 6)/\T 11=(aE<|dY s)/\T 12=(iV<|(bJ l.t o<|dY s).1)/\T 16=(aE<|lH o ((aA l.t.nd ((bJ l.t o<|dY s).1).toNat).ac) s.x)/\T 18=(aE<|lH o (dY s) s.x)/\T 20=(V.ms 20 2 0 1)/\T 134=(V.bool<|decide ((0:Int) < ((1:Nat):Int)))/\H 3=(bk 1 49 2 [[(iV l.i),(V.sl<|List.map cN l.t.nd)]])/\H 4=(bk 1 31 2 [[(iV o.i),(V.sl<|List.map cT o.tr)]])/\H 5=(bk 1 62 3 [[(aE s.p),(iV s.a),(aE s.x)]])/\H 6=(bk 1 49 2 [[(iV 0),V.nilsl]])/\H 20=(bz 2 54 1<|List.map cL<|[]++[bD ([dY s,s.x])])/\H 21=fL/\True) ⟨t3,t5,t6,t11,t12,t16,t18,(aM<|V.ms 20 2 0 1),(aM<|V.bool<|decide ((0:Int) < ((1:Nat):Int))),h3,h4,h5,h6,J,h21,trivial⟩ ?_
  intro T H ⟨t3,t5,t6,t11,t12,t16,t18,t20,t134,h3,h4,h5,h6,h20,h21,_⟩;refine .freeze 20 (.done ?_);refine aH (bB t134 J) (λc13=>?_) λc13=>?_
  . 
   have zq7:0 < (msW o<|tI l o s).length:=by rw [m0]; simp [k1,k2]
   refine aO<|aV (bB t3 rfl) (aR (id:=20) h3 DE) rfl rfl<|aJ (bB t20<|mL h20 JR (l:=([]++[bD ([dY s,s.x])])) rfl JR)<|aI (nF ([]++[bD ([dY s,s.x])]) SI (by intro w hw; simp only [List.nil_append,List.mem_append,List.mem_singleton] at hw; rcases hw with rfl|rfl <;> (simp only [bD,List.append_nil,List.length_append]; omega))) rfl<|bQ (bB t6 rfl) rfl rfl (aR (id:=20) h6 DE) rfl rfl rfl rfl rfl<|aP<|aD<|aK ?_
   refine fI (bI (u:=(V.agg [(iV l.i),(V.sl<|List.map cN l.t.nd)])) (bB t6 J) (@J Blk<|bk 1 49 2 [[(iV l.i),(V.sl<|List.map cN l.t.nd)]])<|lB oB J J) (aY<|aM<|aC<|oD<|[]++[bD ([dY s,s.x])]) (aY<|aM<|iV 0) (cK (aF ?_)<|cA ?_ (λ_=>by simp)) (cA ?_ (λ_=>by simp))<|aF ?_
   . rw [mW zq1 zq2 zq3 zq4 zq5 zq6 zq7]
   . rw [mW zq1 zq2 zq3 zq4 zq5 zq6 zq7]
   . rw [mW zq1 zq2 zq3 zq4 zq5 zq6 zq7,m0]; simp only [k1,k2,if_true,if_false]; rfl
   . rw [mW zq1 zq2 zq3 zq4 zq5 zq6 zq7]
  . exact absurd DE c13
 have k2:(eA o<|bD [dY s,s.x]).isSome=true:=by have q:=c12; simpa using q
 refine aB<|cS<|W_g<|aJ t20<|dW J h20 JR<|eD J J<|bR ?_
 refine .freeze 20 (.done ?_);refine aH J (λc14=>?_) λc14=>?_
 . exact absurd c14 DE
 have zq7: ¬0 < (msW o<|tI l o s).length:=by rw [m0]; simp [k1,k2]
 refine aB<|aO<|cM (bB t3 J) (aR (id:=20) h3 DE)<|aV J (aR (id:=20) h3 DE) J J<|aI (jC l.t hb) J<|bA J<|iC J J<|bR ?_
 refine aH J (λc15=>?_) λc15=>?_
 . 
  have zq8:128<=(eP l.t.nd).length:=OM
  refine aO<|aV (bB t3 J) (aR (id:=20) h3 DE) J J<|bQ (bB t6 J) J J (aR (id:=20) h6 DE) J J J J J<|aP<|aD<|aK ?_
  refine fI (bI (u:=(V.agg [(iV l.i),(V.sl<|List.map cN l.t.nd)])) (bB t6 J) (@J Blk<|bk 1 49 2 [[(iV l.i),(V.sl<|List.map cN l.t.nd)]])<|lB oB J J) (aY<|aM V.nilsl) (aY<|aM<|iV 11) (cK (aF ?_)<|cA ?_ (λ_=>by simp)) (bH ?_)<|aF ?_
  . rw [uS zq1 zq2 zq3 zq4 zq5 zq6 zq7 zq8]
    try rfl
  . rw [uS zq1 zq2 zq3 zq4 zq5 zq6 zq7 zq8]
    try rfl
  . rw [uS zq1 zq2 zq3 zq4 zq5 zq6 zq7 zq8]
    try rfl
  . rw [uS zq1 zq2 zq3 zq4 zq5 zq6 zq7 zq8]
    try rfl
 have zq8: ¬128<=(eP l.t.nd).length:=OM
 refine aB<|aW<|cM (bB t3 J) (aR (id:=20) h3 DE)<|aV J (aR (id:=20) h3 DE) J J<|aJ (bB t12 J)<|cM (bB t5 J) (aR (id:=20) h5 DE)<|aV J (aR (id:=20) h5 DE) J J<|aJ (bB t16 J)<|aJ (bB t11 J)<|aJ (bB t18 J)<|aI (aFO l.t ((bJ l.t o<|dY s).1) s.x (lH o ((aA l.t.nd ((bJ l.t o<|dY s).1).toNat).ac) s.x) (dY s) (lH o (dY s) s.x) hb OM OM OM OM) J<|aP<|bE J J<|bE J J<|bM (i:=21) (n:=0) (m:=1) J (cE<|aR (id:=20) h21 DE) J<|bQ J J J J J J J J J ?_
 refine aD<|aO<|aP<|bP J J<|bR ?_
 refine aH J (λc16=>?_) λc16=>?_
 . 
  have zq9:rfG l o s≠0:=c16;refine aO<|aV (bB t3 J) (aR (id:=20) h3 DE) J J<|aP<|bQ (bB t6 J) J J (aR (id:=20) h6 DE) J J J J J<|aP<|aD<|aK ?_
  refine fI (bI (u:=(V.agg [(iV l.i),(V.sl<|List.map cN l.t.nd)])) (bB t6 J) (@J Blk<|bk 1 49 2 [[(iV l.i),(V.sl<|List.map cN l.t.nd)]])<|lB oB J J) (aY<|aM V.nilsl) (aY<|aM<|iV<|nJ l.t ((bJ l.t o<|dY s).1) s.x (lH o ((aA l.t.nd ((bJ l.t o<|dY s).1).toNat).ac) s.x) (dY s)<|lH o (dY s) s.x) (cK (aF ?_)<|cA ?_ (λ_=>by simp)) (bH ?_)<|aF ?_
  . rw [wU zq1 zq2 zq3 zq4 zq5 zq6 zq7 zq8 zq9]
    try rfl
  . rw [wU zq1 zq2 zq3 zq4 zq5 zq6 zq7 zq8 zq9]
    try rfl
  . rw [wU zq1 zq2 zq3 zq4 zq5 zq6 zq7 zq8 zq9]
    try rfl
  . rw [wU zq1 zq2 zq3 zq4 zq5 zq6 zq7 zq8 zq9]
    try rfl
 have zq9: ¬rfG l o s≠0:=c16;refine aB<|aW<|cM (bB t3 J) (aR (id:=20) h3 DE)<|aV J (aR (id:=20) h3 DE) J J<|aV J J J J<|bN J J<|bQ (bB t6 J) J J (aR (id:=20) h6 DE) J J J J J<|aP<|aD<|bF ?_
 refine fI (bI (u:=(V.agg [(iV l.i),(V.sl<|List.map cN<|(spT l.t ((bJ l.t o<|dY s).1) s.x (lH o ((aA l.t.nd ((bJ l.t o<|dY s).1).toNat).ac) s.x) (dY s)<|lH o (dY s) s.x).nd)])) (bB t6 J) (@J Blk<|bk 1 49 2 [[(iV l.i),(V.sl<|List.map cN<|(spT l.t ((bJ l.t o<|dY s).1) s.x (lH o ((aA l.t.nd ((bJ l.t o<|dY s).1).toNat).ac) s.x) (dY s)<|lH o (dY s) s.x).nd)]])<|lB oB J J) (aY<|aM V.nilsl) (aY<|aM<|iV 0) (cK (aF ?_)<|cA ?_ (λ_=>by simp)) (bH ?_)<|aF ?_
 . rw [rC zq1 zq2 zq3 zq4 zq5 zq6 zq7 zq8 zq9]
   try rfl
 . rw [rC zq1 zq2 zq3 zq4 zq5 zq6 zq7 zq8 zq9]
   try rfl
 . rw [rC zq1 zq2 zq3 zq4 zq5 zq6 zq7 zq8 zq9]
   try rfl
 . rw [rC zq1 zq2 zq3 zq4 zq5 zq6 zq7 zq8 zq9]
   try rfl
theorem aDz (l:Ts) (h:Hy) (o:Ob) (m:M) (w:List Int) (hb:Bd l.t) (ho:OK o):bK Tryz.prog 33 [(V.agg [(iV l.i),(V.sl (List.map cN l.t.nd))]),(V.agg [(iV h.m.i),(iV h.m.s),(aC h.m.nx),(aC h.m.ot),(aC h.acc)]),(V.agg [(iV o.i),(V.sl (List.map cT o.tr))]),(V.agg [(iV m.i),(iV m.s),(aC m.nx),(aC m.ot)]),(aE w)] (V.tup [(V.agg [(iV ((oK m l o h w).1.i)),(V.sl (List.map cN ((oK m l o h w).1.t.nd)))]),(V.agg [(iV ((oK m l o h w).2.1.i)),(V.sl (List.map cT ((oK m l o h w).2.1.tr)))]),(iV ((oK m l o h w).2.2))]):=by
 refine' pK [] [⟨5,[0,1,2,3,4,5],[],[(7,2,10,2)]⟩,⟨7,[0,1,2,3,4,5],[],[(7,2,10,2)]⟩] Tryz.func33 ?e λhB=>?_
 case e=>conv=>lhs; cbv
 dsimp only;refine aW<|bS (i:=5) (n:=0) (m:=2) (cs:=[(iV l.i),(V.sl<|List.map cN l.t.nd)]) J (cE J) J J J<|bS (i:=6) (n:=0) (m:=5) (cs:=[(iV h.m.i),(iV h.m.s),(aC h.m.nx),(aC h.m.ot),(aC h.acc)]) J (cE J) J J J<|bS (i:=7) (n:=0) (m:=2) (cs:=[(iV o.i),(V.sl<|List.map cT o.tr)]) J (cE J) J J J<|bS (i:=8) (n:=0) (m:=4) (cs:=[(iV m.i),(iV m.s),(aC m.nx),(aC m.ot)]) J (cE J) J J J<|bM (i:=10) (n:=0) (m:=2) J (cE J) J<|bM (i:=11) (n:=0) (m:=2) J (cE J) J<|aD<|aW<|aV J J J J<|aV J J J J<|aV J J J J<|aP<|aI (aDu h o m w ho) J<|aP ?_
 refine bE J J<|bE J J<|bE J J<|bM (i:=13) (n:=0) (m:=3) J (cE J) J<|bQ J J J J J J J J J<|bQ J J J J J J J J J<|aD (aG λQ1 n1 x1 y1 z1=>?_)
 refine cC (λmm T H=> ∃ (q:Ob) (n:Nat) (e:Int) (v15:Nat),mm=n/\T 5=(cG 5)/\T 7=(cG 7)/\T 8=(cG 8)/\T 10=(cG 10)/\T 11=(cG 11)/\T 13=(cG 13)/\T 14=(iV e)/\H 5=(bk 1 49 2 [[(iV l.i),(V.sl<|List.map cN l.t.nd)]])/\H 6=(bk 1 28 5 [[(iV h.m.i),(iV h.m.s),(aC h.m.nx),(aC h.m.ot),(aC h.acc)]])/\H 7=(bk 1 31 2 [[(iV q.i),(V.sl<|List.map cT q.tr)]])/\H 8=(sA m)/\H 10=(bk 1 49 2 [[(iV 0),V.nilsl]])/\H 11=(bk 1 31 2 [[(iV 0),V.nilsl]])/\H 13=(bk 1 62 3 [[(aE<|(kT h m w o).2.1.p),(iV<|(kT h m w o).2.1.a),(aE<|(kT h m w o).2.1.x)]])/\(H 15).ver=v15/\(OK q)/\(e=0->lft q < n)/\(oK m l o h w=if e≠0 then (l,q,e) else rfA (kT h m w o).2.1 m l n q)) ?_ ?_
 . 
  refine ⟨_,(kT h m w o).1,aBO,(kT h m w o).2.2,0,J,J,J,J,J,J,J,(bL (aM<|iV<|(kT h m w o).2.2) JR),J,J,(bL (@J Blk<|bk 1 31 2 [[(iV<|(kT h m w o).1.i),(V.sl<|List.map cT<|(kT h m w o).1.tr)]]) JR),J,J,J,J,(cE J),?_,?_,?_⟩
  . exact (aHs ho).1
  . exact λ_=>aBe _
  . rfl
 intro mm T H ⟨q,n,e,v15,hmm,t5,t7,t8,t10,t11,t13,t14,h5,h6,h7,h8,h10,h11,h13,h15,hok,hn,hc⟩ Q2 p12 p22 p32;refine aO<|aJ t14<|eV J J<|bR ?_
 refine aH J (λc3=>?_) λc3=>?_
 . 
  have d0:e=0:=c3;have d1:=hn d0;obtain ⟨n0,hn2⟩: ∃ n0,n=n0+1:=⟨n - 1,OM⟩;refine aB (fZ λQ4 n4 x4 y4 z4=>(aW<|aV t5 h5 J J<|aV t7 h7 J J<|aV t13 h13 J J<|aI (aD4 l q ((kT h m w o).2.1) hb<|vF hok) J<|aP<|bE J J<|bE J J<|bE J J<|bM (i:=15) (n:=v15) (m:=2) J h15 J<|bQ J J J J J J J J J<|aP<|aD ?_));refine aO<|aP<|bP J J<|aP ?_
  refine bU 4 (λT H=>T 5=(cG 5)/\T 7=(cG 7)/\T 8=(cG 8)/\T 10=(cG 10)/\T 11=(cG 11)/\T 13=(cG 13)/\T 15=(V.mp 15 (v15+1) 0 0)/\T 16=(aC<|(fY l q<|(kT h m w o).2.1).2.1)/\T 17=(iV<|(fY l q<|(kT h m w o).2.1).2.2)/\T 43=(V.bool<|decide ((((fY l q<|(kT h m w o).2.1).2.2)≠(0:Int))\/(((((fY l q<|(kT h m w o).2.1).2.1).length:Nat):Int)=(0:Int))))/\H 5=(bk 1 49 2 [[(iV l.i),(V.sl<|List.map cN l.t.nd)]])/\H 6=(bk 1 28 5 [[(iV h.m.i),(iV h.m.s),(aC h.m.nx),(aC h.m.ot),(aC h.acc)]])/\H 7=(bk 1 31 2 [[(iV q.i),(V.sl<|List.map cT q.tr)]])/\H 8=(sA m)/\H 10=(bk 1 49 2 [[(iV 0),V.nilsl]])/\H 11=(bk 1 31 2 [[(iV 0),V.nilsl]])/\H 13=(bk 1 62 3 [[(aE<|(kT h m w o).2.1.p),(iV<|(kT h m w o).2.1.a),(aE<|(kT h m w o).2.1.x)]])/\H 15=(bk (v15+1) 49 2 [[(iV<|(fY l q<|(kT h m w o).2.1).1.i),(V.sl<|List.map cN<|(fY l q<|(kT h m w o).2.1).1.t.nd)]])/\True) ?_ ?_
  . 
   by_cases g5:((fY l q<|(kT h m w o).2.1).2.2)≠(0:Int)
   . 
    refine bW (bY g5 J)<|bW (bY g5 J)<|bW (bY g5 J)<|bV (bY g5 J) J ?_
    exact ⟨t5,t7,t8,t10,t11,t13,J,J,J,(dZ g5),h5,h6,h7,h8,h10,h11,h13,J,trivial⟩
   . 
    refine aN (bX g5 J)<|aP<|aN (bX g5 J)<|bA J<|aN (bX g5 J)<|eV J J<|bT (bX g5 J) J ?_
    exact ⟨t5,t7,t8,t10,t11,t13,J,J,J,(dX g5),h5,h6,h7,h8,h10,h11,h13,J,trivial⟩
  intro T H ⟨t5,t7,t8,t10,t11,t13,t15,t16,t17,t43,h5,h6,h7,h8,h10,h11,h13,h15,_⟩;refine bR ?_;refine aH t43 (λc6=>?_) λc6=>?_
  . 
   have q0:=c6
   have hz:oK m l o h w=((fY l q (kT h m w o).2.1).1,q,(fY l q (kT h m w o).2.1).2.2):=by
     rw [hc,if_neg OM,hn2]; exact yL (q0.imp id λg=>List.length_eq_zero_iff.1 OM)
   refine cS<|W_x<|aV t15 h15 J J<|aV t7 h7 J J<|aJ t17<|bQ t10 J J h10 J J J J J<|bQ t11 J J h11 J J J J J<|aD ?_
   refine ⟨by simp [ddB,apV,nO,t10,t11,t13,t15,t16,t17,t43,t5,t7,t8],?_⟩;refine aK<|y4 _ _<|p22 _ _<|y1 _ _ ?_
   refine fI (bI (u:=(V.agg [(iV<|(fY l q<|(kT h m w o).2.1).1.i),(V.sl<|List.map cN<|(fY l q<|(kT h m w o).2.1).1.t.nd)])) t10 (@J Blk<|bk 1 49 2 [[(iV<|(fY l q<|(kT h m w o).2.1).1.i),(V.sl<|List.map cN<|(fY l q<|(kT h m w o).2.1).1.t.nd)]])<|lB oB J J) (bI (u:=(V.agg [(iV q.i),(V.sl<|List.map cT q.tr)])) t11 (@J Blk<|bk 1 31 2 [[(iV q.i),(V.sl<|List.map cT q.tr)]])<|lB oB J J) (aY<|aM<|iV<|(fY l q<|(kT h m w o).2.1).2.2) (cK (aF ?_)<|cA ?_ (λ_=>by simp)) (cK (aF ?_)<|cA ?_ (λ_=>by simp))<|aF ?_
   . rw [hz]
   . rw [hz]
   . rw [hz]
   . rw [hz]
   . rw [hz]
  have q0:=c6
  have e3: ¬((fY l q (kT h m w o).2.1).2.2≠0\/(fY l q (kT h m w o).2.1).2.1=[]):=by
    rintro (g|g)
    . exact q0 (.inl g)
    . exact q0 (.inr (by rw [g]; rfl))
  refine aB<|eI<|aV t7 h7 J J<|aV t8 h8 J J<|aJ t16<|aI (vL q m ((fY l q<|(kT h m w o).2.1).2.1) hok) J<|aP<|bE J J<|bE J J<|bQ t7 J J h7 J J J J J<|aD<|n4 _ _ ?_
  refine p12 _ _ _ ?_ ⟨(dN m q (fY l q (kT h m w o).2.1).2.1).1,(n - 1),(dN m q (fY l q (kT h m w o).2.1).2.1).2,(v15+1),J,t5,t7,t8,t10,t11,t13,(bL (aM<|iV<|(dN m q<|(fY l q<|(kT h m w o).2.1).2.1).2) JR),h5,h6,(bL (@J Blk<|bk 1 31 2 [[(iV<|(dN m q<|(fY l q<|(kT h m w o).2.1).2.1).1.i),(V.sl<|List.map cT<|(dN m q<|(fY l q<|(kT h m w o).2.1).2.1).1.tr)]]) JR),h8,h10,h11,h13,(cE h15),?_,?_,?_⟩
  . omega
  . exact (mH hok).1
  . intro g; have:=aCh (m:=m) hok e3 g; omega
  . rw [hc,if_neg OM,hn2]; exact aPb e3
 have hz:oK m l o h w=(l,q,e):=by rw [hc,if_pos c3]
 refine aT<|p32 _ _ _<|x1 _ _ (.done (W_x<|aV t5 h5 J J<|aV t7 h7 J J<|aJ t14<|bQ t10 J J h10 J J J J J<|bQ t11 J J h11 J J J J J<|aD ?_))
 refine ⟨by simp [ddB,apV,nO,t10,t11,t13,t14,t5,t7,t8],?_⟩;refine bF ?_;refine fI (bI (u:=(V.agg [(iV l.i),(V.sl<|List.map cN l.t.nd)])) t10 (@J Blk<|bk 1 49 2 [[(iV l.i),(V.sl<|List.map cN l.t.nd)]])<|lB oB J J) (bI (u:=(V.agg [(iV q.i),(V.sl<|List.map cT q.tr)])) t11 (@J Blk<|bk 1 31 2 [[(iV q.i),(V.sl<|List.map cT q.tr)]])<|lB oB J J) (aY<|aM<|iV e) (cK (aF ?_)<|cA ?_ (λ_=>by simp)) (cK (aF ?_)<|cA ?_ (λ_=>by simp))<|aF ?_
 . rw [hz]
 . rw [hz]
 . rw [hz]
 . rw [hz]
 . rw [hz]
theorem aFy (m:M) (hi:m.i<=39):bK Tryz.prog 8 [(V.agg [(iV m.i),(iV m.s),(aC m.nx),(aC m.ot)])] (V.tup [(V.agg [(iV ((eR m).1.m.i)),(iV ((eR m).1.m.s)),(aC ((eR m).1.m.nx)),(aC ((eR m).1.m.ot)),(aC ((eR m).1.acc))]),(V.agg [(iV ((eR m).2.1.i)),(V.sl (List.map cT ((eR m).2.1.tr)))]),(iV ((eR m).2.2.1)),(iV ((eR m).2.2.2))]):=by
 refine' pK [] [⟨19,[0,1,2,3,4,5,6],[],[(9,2,2,5)]⟩] Tryz.func8 ?e λhB=>?_
 case e=>conv=>lhs; cbv
 dsimp only;refine aW<|bS (i:=1) (n:=0) (m:=4) (cs:=[(iV m.i),(iV m.s),(aC m.nx),(aC m.ot)]) J (cE J) J J J<|bM (i:=2) (n:=0) (m:=5) J (cE J) J<|bM (i:=3) (n:=0) (m:=2) J (cE J) J<|aP<|aD<|aO<|aV J J J J<|aI (nR m) J<|aD<|aO<|aP ?_
 refine bP J J<|bR ?_
 refine aH J (λc1=>?_) λc1=>?_
 . 
  have d1:=aOi c1;refine aO<|bN J J<|bN J J<|aP<|bQ J J J J J J J J J<|bQ J J J J J J J J J<|aP<|aD<|aK ?_
  refine gO (bI (u:=(V.agg [(iV 0),(iV 0),V.nilsl,V.nilsl,V.nilsl])) J (@J Blk<|bk 1 28 5 [[(iV 0),(iV 0),V.nilsl,V.nilsl,V.nilsl]])<|lB oB J J) (bI (u:=(V.agg [(iV 0),V.nilsl])) J (@J Blk<|bk 1 31 2 [[(iV 0),V.nilsl]])<|lB oB J J) (aY<|aM<|iV 0) (aY<|aM<|iV<|eO m) (fH (aF ?_) (aF ?_) (bH ?_) (bH ?_)<|bH ?_) (cK (aF ?_)<|bH ?_) (aF ?_)<|aF ?_
  . rw [d1]; try rfl
  . rw [d1]; try rfl
  . rw [d1]; try rfl
  . rw [d1]; try rfl
  . rw [d1]; try rfl
  . rw [d1]; try rfl
  . rw [d1]; try rfl
  . rw [d1]; try rfl
  . rw [d1]; try rfl
 have a1:=c1;have mo:=gW<|Decidable.of_not_not c1
 refine aB<|aW<|aX J J J J<|aI (aGE m.i) J<|aP<|bE J J<|bE J J<|bM (i:=7) (n:=0) (m:=2) J (cE J) J<|bQ J J J J J J J J J<|aD<|W_g<|aX J J J J<|bN J J ?_
 refine bM (i:=9) (n:=0) (m:=2) J (cE J) J<|bQ J J J J J J J J J<|bR ?_
 refine aKi (id:=9) (r':=[(iV m.i),(V.sl<|List.map cT<|[])]) (@J Blk<|bk 1 31 2 [[(iV m.i),V.nilsl]]) J (.done ?_);refine aW<|aD (fZ λQ2 n2 x2 y2 z2=>?_)
 refine cC (λmm T H=> ∃ (l:Ts) (o:Ob) (r:Int) (n:Nat) (v11:Nat) (v15:Nat),mm=n/\T 1=(cG 1)/\T 2=(cG 2)/\T 3=(cG 3)/\T 7=(cG 7)/\T 9=(cG 9)/\T 10=(iV r)/\H 1=(sA m)/\H 2=(bk 1 28 5 [[(iV 0),(iV 0),V.nilsl,V.nilsl,V.nilsl]])/\H 3=(bk 1 31 2 [[(iV 0),V.nilsl]])/\H 7=(bk 1 49 2 [[(iV l.i),(V.sl<|List.map cN l.t.nd)]])/\H 9=(bk 1 31 2 [[(iV o.i),(V.sl<|List.map cT o.tr)]])/\(H 11).ver=v11/\(H 15).ver=v15/\(LnI m l o)/\(0<=r/\r<=zZ l)/\(lms l o < n)/\(lnA m aAK (nE m.i) ⟨m.i,[]⟩ 0=lnA m n l o r)) ?_ ?_
 . 
  refine ⟨_,(nE m.i),⟨m.i,[]⟩,0,aAK,0,0,J,J,J,J,J,J,J,J,J,J,(bL (@J Blk<|bk 1 49 2 [[(iV<|(nE m.i).i),(V.sl<|List.map cN<|(nE m.i).t.nd)]]) JR),(bL (@J Blk<|bk 1 31 2 [[(iV m.i),(V.sl<|List.map cT<|[])]]) JR),(cE J),(cE J),?_,?_,?_,?_⟩
  . exact LnI.start a1
  . exact ⟨OM,OM⟩
  . exact aEy _ _
  . rfl
 intro mm T H ⟨l,o,r,n,v11,v15,hmm,t1,t2,t3,t7,t9,t10,h1,h2,h3,h7,h9,h11,h15,hI,hr,hn,hc⟩ Q3 p13 p23 p33;obtain ⟨n0,hn2⟩: ∃ n0,n=n0+1:=⟨n - 1,OM⟩;have hra:=hI.a;refine fZ λQ4 n4 x4 y4 z4=>(aW<|aV t7 h7 J J<|aV t9 h9 J J<|aI (aG0 l o hI.bd hI.ho<|hI.hx hi) J<|aP<|bE J J<|bE J J<|bE J J<|bE J J<|bM (i:=11) (n:=v11) (m:=2) J h11 J<|bQ J J J J J J J J J<|aP<|aP<|aD ?_);refine aO<|aP<|bP J J<|bR ?_
 refine aH J (λc5=>?_) λc5=>?_
 . 
  have d1:eR m=lnE (cR l o).2.2.2:=tK a1<|hc.trans (by rw [hn2]; exact aOu c5)
  refine aO<|bN J J<|bN J J<|aP<|bQ t2 J J h2 J J J J J<|bQ t3 J J h3 J J J J J<|aP<|aD<|aK<|y4 _ _<|p23 _ _<|y2 _ _ ?_
  refine gO (bI (u:=(V.agg [(iV 0),(iV 0),V.nilsl,V.nilsl,V.nilsl])) t2 (@J Blk<|bk 1 28 5 [[(iV 0),(iV 0),V.nilsl,V.nilsl,V.nilsl]])<|lB oB J J) (bI (u:=(V.agg [(iV 0),V.nilsl])) t3 (@J Blk<|bk 1 31 2 [[(iV 0),V.nilsl]])<|lB oB J J) (aY<|aM<|iV 0) (aY<|aM<|iV<|(cR l o).2.2.2) (fH (aF ?_) (aF ?_) (bH ?_) (bH ?_)<|bH ?_) (cK (aF ?_)<|bH ?_) (aF ?_)<|aF ?_
  . rw [d1]; try rfl
  . rw [d1]; try rfl
  . rw [d1]; try rfl
  . rw [d1]; try rfl
  . rw [d1]; try rfl
  . rw [d1]; try rfl
  . rw [d1]; try rfl
  . rw [d1]; try rfl
  . rw [d1]; try rfl
 have z1:=c5;refine aB<|aW<|aV J J J J<|bQ t7 J J h7 J J J J J<|qV<|aV t9 h9 J J<|aV t1 h1 J J<|aP<|aI (vL o m ((cR l o).2.1) hI.ok) J<|aP<|bE J J<|bE J J<|bQ t9 J J h9 J J J J J<|aD ?_
 refine aO<|aP<|eV J J<|aP ?_
 refine bU 2 (λT H=>T 1=(cG 1)/\T 2=(cG 2)/\T 3=(cG 3)/\T 7=(cG 7)/\T 9=(cG 9)/\T 10=(iV r)/\T 14=(iV<|(dN m o<|(cR l o).2.1).2)/\T 60=(V.bool<|decide (((dN m o<|(cR l o).2.1).2)=(0:Int))&&((cR l o).2.2.1))/\H 1=(sA m)/\H 2=(bk 1 28 5 [[(iV 0),(iV 0),V.nilsl,V.nilsl,V.nilsl]])/\H 3=(bk 1 31 2 [[(iV 0),V.nilsl]])/\H 7=(bk 1 49 2 [[(iV<|(cR l o).1.i),(V.sl<|List.map cN<|(cR l o).1.t.nd)]])/\H 9=(bk 1 31 2 [[(iV<|(dN m o<|(cR l o).2.1).1.i),(V.sl<|List.map cT<|(dN m o<|(cR l o).2.1).1.tr)]])/\H 11=(bk (v11+1) 49 2 [[(iV<|(cR l o).1.i),(V.sl<|List.map cN<|(cR l o).1.t.nd)]])/\(H 15).ver=v15/\True) ?_ ?_
 . 
  by_cases g6:((dN m o<|(cR l o).2.1).2)=(0:Int)
  . 
   refine aN (bY g6 J)<|aP<|bV (bY g6 J) J ?_
   exact ⟨t1,t2,t3,t7,t9,t10,J,(aGi g6),h1,h2,h3,J,J,J,h15,trivial⟩
  . 
   refine bW (bX g6 J)<|bT (bX g6 J) J ?_
   exact ⟨t1,t2,t3,t7,t9,t10,J,(aGm g6),h1,h2,h3,J,J,J,h15,trivial⟩
 intro T H ⟨t1,t2,t3,t7,t9,t10,t14,t60,h1,h2,h3,h7,h9,h11,h15,_⟩;refine bR ?_;refine cU t60 (λc7=>?_) (λc7=>?_)
 . 
  have q0:=c7;simp only [Bool.and_eq_true,decide_eq_true_eq] at q0;have z2: ¬(dN m o (cR l o).2.1).2≠0:=λe=>e q0.1
  have z3: ¬(cR l o).2.2.1=false:=by rw [q0.2]; decide
  refine aO<|aJ t10<|aHU J J OM OM<|aD<|aO<|aV t7 h7 J J<|aV t9 h9 J J<|aI (aIF ((cR l o).1) ((dN m o<|(cR l o).2.1).1) hI.mid.bd hI.mid.ho<|hI.mid.hx hi) J<|aP<|bE J J<|bE J J<|bM (i:=15) (n:=v15) (m:=5) J h15 J<|bQ J J J J J J J J J ?_
  refine aD<|cS<|aO<|aP<|bP J J<|bR ?_
  refine aH J (λc8=>?_) λc8=>?_
  . 
   have d1:eR m=lnE (wQ (lnT l o)<|lnO m l o):=tK a1<|hc.trans (by rw [hn2]; exact aOq z1 z2 z3 c8)
   refine aO<|bN J J<|bN J J<|aP<|bQ t2 J J h2 J J J J J<|bQ t3 J J h3 J J J J J<|aP<|aD<|aK<|y4 _ _<|p23 _ _<|y2 _ _ ?_
   refine gO (bI (u:=(V.agg [(iV 0),(iV 0),V.nilsl,V.nilsl,V.nilsl])) t2 (@J Blk<|bk 1 28 5 [[(iV 0),(iV 0),V.nilsl,V.nilsl,V.nilsl]])<|lB oB J J) (bI (u:=(V.agg [(iV 0),V.nilsl])) t3 (@J Blk<|bk 1 31 2 [[(iV 0),V.nilsl]])<|lB oB J J) (aY<|aM<|iV 0) (aY<|aM<|iV<|wQ ((cR l o).1)<|(dN m o<|(cR l o).2.1).1) (fH (aF ?_) (aF ?_) (bH ?_) (bH ?_)<|bH ?_) (cK (aF ?_)<|bH ?_) (aF ?_)<|aF ?_
   . rw [d1]; try rfl
   . rw [d1]; try rfl
   . rw [d1]; try rfl
   . rw [d1]; try rfl
   . rw [d1]; try rfl
   . rw [d1]; try rfl
   . rw [d1]; try rfl
   . rw [d1]; try rfl
   . rw [d1]; try rfl
  have z4:=c8;refine aB<|aO<|aX J J J J<|aV t1 h1 J J<|aI (aG1 ((iH ((cR l o).1)<|(dN m o<|(cR l o).2.1).1).m) m) J<|aP<|bE J J<|bE J J<|bE J J<|aP<|aP<|aD<|cS ?_
  refine aO<|aP<|eV J J<|aP ?_
  refine bU 3 (λT H=>T 1=(cG 1)/\T 2=(cG 2)/\T 3=(cG 3)/\T 7=(cG 7)/\T 9=(cG 9)/\T 10=(iV<|r+(1:Int))/\T 15=(V.mp 15 (v15+1) 0 0)/\T 16=(iV<|kA ((iH ((cR l o).1)<|(dN m o<|(cR l o).2.1).1).m) m)/\T 17=(aE<|qB ((iH ((cR l o).1)<|(dN m o<|(cR l o).2.1).1).m) m)/\T 87=(V.bool<|decide ((kA ((iH ((cR l o).1)<|(dN m o<|(cR l o).2.1).1).m) m)=(0:Int))&&(!uT ((iH ((cR l o).1)<|(dN m o<|(cR l o).2.1).1).m) m))/\H 1=(sA m)/\H 2=(bk 1 28 5 [[(iV 0),(iV 0),V.nilsl,V.nilsl,V.nilsl]])/\H 3=(bk 1 31 2 [[(iV 0),V.nilsl]])/\H 7=(bk 1 49 2 [[(iV<|(cR l o).1.i),(V.sl<|List.map cN<|(cR l o).1.t.nd)]])/\H 9=(bk 1 31 2 [[(iV<|(dN m o<|(cR l o).2.1).1.i),(V.sl<|List.map cT<|(dN m o<|(cR l o).2.1).1.tr)]])/\H 11=(bk (v11+1) 49 2 [[(iV<|(cR l o).1.i),(V.sl<|List.map cN<|(cR l o).1.t.nd)]])/\H 15=(bk (v15+1) 28 5 [[(iV<|(iH ((cR l o).1)<|(dN m o<|(cR l o).2.1).1).m.i),(iV<|(iH ((cR l o).1)<|(dN m o<|(cR l o).2.1).1).m.s),(aC<|(iH ((cR l o).1)<|(dN m o<|(cR l o).2.1).1).m.nx),(aC<|(iH ((cR l o).1)<|(dN m o<|(cR l o).2.1).1).m.ot),(aC<|(iH ((cR l o).1)<|(dN m o<|(cR l o).2.1).1).acc)]])/\True) ?_ ?_
  . 
   by_cases g9:(kA ((iH ((cR l o).1)<|(dN m o<|(cR l o).2.1).1).m) m)=(0:Int)
   . 
    refine aN (bY g9 J)<|aP<|aN (bY g9 J)<|fF J<|bV (bY g9 J) J ?_
    exact ⟨t1,t2,t3,t7,t9,J,J,J,J,(aGi g9),h1,h2,h3,h7,h9,h11,J,trivial⟩
   . 
    refine bW (bX g9 J)<|bW (bX g9 J)<|bT (bX g9 J) J ?_
    exact ⟨t1,t2,t3,t7,t9,J,J,J,J,(aGm g9),h1,h2,h3,h7,h9,h11,J,trivial⟩
  intro T H ⟨t1,t2,t3,t7,t9,t10,t15,t16,t17,t87,h1,h2,h3,h7,h9,h11,h15,_⟩;refine bR ?_;refine cU t87 (λc10=>?_) (λc10=>?_)
  . 
   have q1:=c10;simp only [Bool.and_eq_true,Bool.not_eq_true',decide_eq_true_eq] at q1;have z5: ¬kA (lnH m l o).m m≠0:=λe=>e q1.1
   have d1:eR m=(lnH m l o,lnO m l o,r+1,0):=tK a1<|hc.trans (by rw [hn2]; exact aOw z1 z2 z3 z4 z5 q1.2)
   refine cS<|W_x<|aV t15 h15 J J<|aV t9 h9 J J<|aJ t10<|bQ t2 J J h2 J J J J J<|bQ t3 J J h3 J J J J J<|aP<|aD ?_
   refine ⟨by simp [ddB,apV,nO,t1,t10,t15,t16,t17,t2,t3,t7,t87,t9],?_⟩;refine aK<|y4 _ _<|p23 _ _<|y2 _ _ ?_
   refine gO (bI (u:=(V.agg [(iV<|(iH ((cR l o).1)<|(dN m o<|(cR l o).2.1).1).m.i),(iV<|(iH ((cR l o).1)<|(dN m o<|(cR l o).2.1).1).m.s),(aC<|(iH ((cR l o).1)<|(dN m o<|(cR l o).2.1).1).m.nx),(aC<|(iH ((cR l o).1)<|(dN m o<|(cR l o).2.1).1).m.ot),(aC<|(iH ((cR l o).1)<|(dN m o<|(cR l o).2.1).1).acc)])) t2 (@J Blk<|bk 1 28 5 [[(iV<|(iH ((cR l o).1)<|(dN m o<|(cR l o).2.1).1).m.i),(iV<|(iH ((cR l o).1)<|(dN m o<|(cR l o).2.1).1).m.s),(aC<|(iH ((cR l o).1)<|(dN m o<|(cR l o).2.1).1).m.nx),(aC<|(iH ((cR l o).1)<|(dN m o<|(cR l o).2.1).1).m.ot),(aC<|(iH ((cR l o).1)<|(dN m o<|(cR l o).2.1).1).acc)]])<|lB oB J J) (bI (u:=(V.agg [(iV<|(dN m o<|(cR l o).2.1).1.i),(V.sl<|List.map cT<|(dN m o<|(cR l o).2.1).1.tr)])) t3 (@J Blk<|bk 1 31 2 [[(iV<|(dN m o<|(cR l o).2.1).1.i),(V.sl<|List.map cT<|(dN m o<|(cR l o).2.1).1.tr)]])<|lB oB J J) (aY<|aM<|iV<|r+(1:Int)) (aY<|aM<|iV 0) (fH (aF ?_) (aF ?_) (cA ?_ (λ_=>by simp)) (cA ?_ (λ_=>by simp))<|cA ?_ (λ_=>by simp)) (cK (aF ?_)<|cA ?_ (λ_=>by simp)) (aF ?_)<|aF ?_
   . rw [d1]; try rfl
   . rw [d1]; try rfl
   . rw [d1]; try rfl
   . rw [d1]; try rfl
   . rw [d1]; try rfl
   . rw [d1]; try rfl
   . rw [d1]; try rfl
   . rw [d1]; try rfl
   . rw [d1]; try rfl
  have zq:=c10;refine aB<|aO<|aJ t16<|aD<|aO<|aJ t16<|eV J J<|bR ?_
  refine aH J (λc11=>?_) λc11=>?_
  . 
   have z5: ¬kA (lnH m l o).m m≠0:=λe=>e c11
   have z6: ¬uT (lnH m l o).m m=false:=λe=>by
     have e1:kA (iH (cR l o).1 (dN m o (cR l o).2.1).1).m m=0:=c11;have e2:uT (iH (cR l o).1 (dN m o (cR l o).2.1).1).m m=false:=e;rw [e1,e2] at zq; cases zq
   refine aW<|aV t7 h7 J J<|aV t15 h15 J J<|aV t9 h9 J J<|aV t1 h1 J J<|aJ t17<|aI (aDz ((cR l o).1) (iH ((cR l o).1)<|(dN m o<|(cR l o).2.1).1) ((dN m o<|(cR l o).2.1).1) m (qB ((iH ((cR l o).1)<|(dN m o<|(cR l o).2.1).1).m) m) hI.mid.bd hI.mid.ok) J<|aP<|bE J J<|bE J J<|bE J J<|bQ t7 J J h7 J J J J J<|bQ t9 J J h9 J J J J J<|aD<|aW ?_
   refine aP<|bP J J<|bR ?_
   refine fN J (λc12=>?_) λc12=>?_
   . 
    have d1:eR m=lnE _:=tK a1<|hc.trans (by rw [hn2]; first|exact aG9 z1 z2 z3 z4 z5 z6 c12|exact aHO z1 z2 z3 z4 c12|exact aH2 z1 c12)
    refine aW<|bN J J<|bN J J<|aP<|bQ t2 J J h2 J J J J J<|bQ t3 J J h3 J J J J J<|aP<|aD<|bF<|y4 _ _<|p23 _ _<|y2 _ _ ?_
    refine gO (bI (u:=(V.agg [(iV 0),(iV 0),V.nilsl,V.nilsl,V.nilsl])) t2 (@J Blk<|bk 1 28 5 [[(iV 0),(iV 0),V.nilsl,V.nilsl,V.nilsl]])<|lB oB J J) (bI (u:=(V.agg [(iV 0),V.nilsl])) t3 (@J Blk<|bk 1 31 2 [[(iV 0),V.nilsl]])<|lB oB J J) (aY<|aM<|iV 0) (aY<|aM<|iV<|(oK m ((cR l o).1) ((dN m o<|(cR l o).2.1).1) (iH ((cR l o).1)<|(dN m o<|(cR l o).2.1).1)<|qB ((iH ((cR l o).1)<|(dN m o<|(cR l o).2.1).1).m) m).2.2) (fH (aF ?_) (aF ?_) (bH ?_) (bH ?_)<|bH ?_) (cK (aF ?_)<|bH ?_) (aF ?_)<|aF ?_
    . rw [d1]; try rfl
    . rw [d1]; try rfl
    . rw [d1]; try rfl
    . rw [d1]; try rfl
    . rw [d1]; try rfl
    . rw [d1]; try rfl
    . rw [d1]; try rfl
    . rw [d1]; try rfl
    . rw [d1]; try rfl
   have z8:=c12;have z7: ¬(zL m l o).2.2≠0\/True:=.inr trivial
   try have z7: ¬(zL m l o).2.2≠0:=z8
   try have z2: ¬(dN m o (cR l o).2.1).2≠0:=z8
   try have z3:(cR l o).2.2.1=false:=by rw [decide_eq_true (Decidable.of_not_not z2)] at zz; simpa using zz
   refine dH<|n4 _ _ ?_
   refine p13 _ _ _ ?_ ⟨(zL m l o).1,(zL m l o).2.1,(r+1),(n - 1),(v11+1),(v15+1),J,t1,t2,t3,t7,t9,(bL t10 JR),h1,h2,h3,(bL (@J Blk<|bk 1 49 2 [[(iV<|(oK m ((cR l o).1) ((dN m o<|(cR l o).2.1).1) (iH ((cR l o).1)<|(dN m o<|(cR l o).2.1).1)<|qB ((iH ((cR l o).1)<|(dN m o<|(cR l o).2.1).1).m) m).1.i),(V.sl<|List.map cN<|(oK m ((cR l o).1) ((dN m o<|(cR l o).2.1).1) (iH ((cR l o).1)<|(dN m o<|(cR l o).2.1).1)<|qB ((iH ((cR l o).1)<|(dN m o<|(cR l o).2.1).1).m) m).1.t.nd)]]) JR),(bL (@J Blk<|bk 1 31 2 [[(iV<|(oK m ((cR l o).1) ((dN m o<|(cR l o).2.1).1) (iH ((cR l o).1)<|(dN m o<|(cR l o).2.1).1)<|qB ((iH ((cR l o).1)<|(dN m o<|(cR l o).2.1).1).m) m).2.1.i),(V.sl<|List.map cT<|(oK m ((cR l o).1) ((dN m o<|(cR l o).2.1).1) (iH ((cR l o).1)<|(dN m o<|(cR l o).2.1).1)<|qB ((iH ((cR l o).1)<|(dN m o<|(cR l o).2.1).1).m) m).2.1.tr)]]) JR),(cE h11),(cE h15),?_,?_,?_,?_⟩
   . omega
   . first|exact (tN hI z3 z7).1|exact hI.mid
   . first|(have:=(tN hI z3 z7).2.1; omega)|(have:=hI.up; omega)
   . first|(have:=(tN hI z3 z7).2.2; omega)|(have:=aBf hI z1 z2 z3; omega)
   . rw [hc,hn2]; first|exact aHI z1 z2 z3 z4 z5 z6 z7|exact aDk z1 z2 z3
  have z5n:=c11;refine aB<|aW<|aP<|bP J J<|bR ?_
  refine fN J (λc13=>?_) λc13=>?_
  . 
   have d1:eR m=lnE _:=tK a1<|hc.trans (by rw [hn2]; first|exact aG9 z1 z2 z3 z4 z5 z6 c13|exact aHO z1 z2 z3 z4 c13|exact aH2 z1 c13)
   refine aW<|bN J J<|bN J J<|aP<|bQ t2 J J h2 J J J J J<|bQ t3 J J h3 J J J J J<|aP<|aD<|bF<|y4 _ _<|p23 _ _<|y2 _ _ ?_
   refine gO (bI (u:=(V.agg [(iV 0),(iV 0),V.nilsl,V.nilsl,V.nilsl])) t2 (@J Blk<|bk 1 28 5 [[(iV 0),(iV 0),V.nilsl,V.nilsl,V.nilsl]])<|lB oB J J) (bI (u:=(V.agg [(iV 0),V.nilsl])) t3 (@J Blk<|bk 1 31 2 [[(iV 0),V.nilsl]])<|lB oB J J) (aY<|aM<|iV 0) (aY<|aM<|iV<|kA ((iH ((cR l o).1)<|(dN m o<|(cR l o).2.1).1).m) m) (fH (aF ?_) (aF ?_) (bH ?_) (bH ?_)<|bH ?_) (cK (aF ?_)<|bH ?_) (aF ?_)<|aF ?_
   . rw [d1]; try rfl
   . rw [d1]; try rfl
   . rw [d1]; try rfl
   . rw [d1]; try rfl
   . rw [d1]; try rfl
   . rw [d1]; try rfl
   . rw [d1]; try rfl
   . rw [d1]; try rfl
   . rw [d1]; try rfl
  . exact False.elim<|c13 z5n
 have zz:=c7;refine aB<|aW<|aJ t14<|bP J J<|bR ?_
 refine fN J (λc14=>?_) λc14=>?_
 . 
  have d1:eR m=lnE _:=tK a1<|hc.trans (by rw [hn2]; first|exact aG9 z1 z2 z3 z4 z5 z6 c14|exact aHO z1 z2 z3 z4 c14|exact aH2 z1 c14)
  refine aW<|bN J J<|bN J J<|aJ t14<|bQ t2 J J h2 J J J J J<|bQ t3 J J h3 J J J J J<|aP<|aD<|bF<|y4 _ _<|p23 _ _<|y2 _ _ ?_
  refine gO (bI (u:=(V.agg [(iV 0),(iV 0),V.nilsl,V.nilsl,V.nilsl])) t2 (@J Blk<|bk 1 28 5 [[(iV 0),(iV 0),V.nilsl,V.nilsl,V.nilsl]])<|lB oB J J) (bI (u:=(V.agg [(iV 0),V.nilsl])) t3 (@J Blk<|bk 1 31 2 [[(iV 0),V.nilsl]])<|lB oB J J) (aY<|aM<|iV 0) (aY<|aM<|iV<|(dN m o<|(cR l o).2.1).2) (fH (aF ?_) (aF ?_) (bH ?_) (bH ?_)<|bH ?_) (cK (aF ?_)<|bH ?_) (aF ?_)<|aF ?_
  . rw [d1]; try rfl
  . rw [d1]; try rfl
  . rw [d1]; try rfl
  . rw [d1]; try rfl
  . rw [d1]; try rfl
  . rw [d1]; try rfl
  . rw [d1]; try rfl
  . rw [d1]; try rfl
  . rw [d1]; try rfl
 have z8:=c14;have z7: ¬(zL m l o).2.2≠0\/True:=.inr trivial
 try have z7: ¬(zL m l o).2.2≠0:=z8
 try have z2: ¬(dN m o (cR l o).2.1).2≠0:=z8
 try have z3:(cR l o).2.2.1=false:=by rw [decide_eq_true (Decidable.of_not_not z2)] at zz; simpa using zz
 refine dH<|n4 _ _ ?_
 refine p13 _ _ _ ?_ ⟨(lnT l o),(lnO m l o),r,(n - 1),(v11+1),v15,J,t1,t2,t3,t7,t9,t10,h1,h2,h3,(bL h7 JR),(bL h9 JR),(cE h11),h15,?_,?_,?_,?_⟩
 . omega
 . first|exact (tN hI z3 z7).1|exact hI.mid
 . first|(have:=(tN hI z3 z7).2.1; omega)|(have:=hI.up; omega)
 . first|(have:=(tN hI z3 z7).2.2; omega)|(have:=aBf hI z1 z2 z3; omega)
 . rw [hc,hn2]; first|exact aHI z1 z2 z3 z4 z5 z6 z7|exact aDk z1 z2 z3
theorem xA (a b:List (List Int)):bK Tryz.prog 35 [(aC a),(aC b)] (V.bool (decide (a=b))):=by
 refine' pK [] [] Tryz.func35 ?e λhB=>?_
 case e=>conv=>lhs; cbv
 dsimp only;refine aW<|aD<|aO<|aP<|bA J<|aP<|bA J<|bP J J<|bR ?_
 refine aH J (λc1=>?_) λc1=>?_
 . 
  refine aO<|aD<|aK ?_
  refine aZ (aM<|V.bool false)<|cH ?_
  . exact (decide_eq_false (λe=>by subst e; omega)).symm
 refine aB<|aO<|aD (aG λQ2 n2 x2 y2 z2=>?_)
 refine cC (λmm T H=> ∃ (k:Nat),mm=a.length - k/\T 0=(aC a)/\T 1=(aC b)/\T 5=(iV ((k:Nat):Int))/\(k<=a.length)/\(a.length=b.length)/\(∀ j,j < k->aA a j=aA b j)) ?_ ?_
 . 
  refine ⟨_,0,J,J,J,(bL (aM<|iV 0) J),?_,?_,?_⟩
  . omega
  . omega
  . intro j hj; omega
 intro mm T H ⟨k,hmm,t0,t1,t5,hk,hl,hc⟩ Q3 p13 p23 p33;refine aO<|aJ t5<|aJ t0<|bA J<|bZ J J<|bR ?_
 refine aH J (λc4=>?_) λc4=>?_
 . 
  refine aB (aG λQ5 n5 x5 y5 z5=>(aW<|aJ t0<|aJ t5<|dA (i:=k) (aM<|aC a) (cO k)<|aL J J<|aJ t1<|aJ t5<|dA (i:=k) (aM<|aC b) (cO k)<|aL J J<|aI (rQ (aA a k)<|aA b k) J<|qT J<|bR ?_));refine fN J (λc6=>?_) λc6=>?_
  . 
   have d1:=c6;refine aW<|aD<|bF<|y5 _ _<|p23 _ _<|y2 _ _ ?_
   refine aZ (aM<|V.bool false)<|cH ?_
   . exact (decide_eq_false (λe=>d1 (by subst e; rfl))).symm
  have d1:=Decidable.not_not.1 c6;refine dH<|n5 _ _ (.done (eI<|aJ t5<|cF J<|aD ?_))
  refine p13 _ _ _ ?_ ⟨(k+1),J,t0,t1,(bL (cO<|k+1) JR),?_,?_,?_⟩
  . omega
  . omega
  . omega
  . intro j hj
    by_cases e:j=k
    . subst e; exact d1
    . exact hc j OM
 refine aT<|p33 _ _ _<|x2 _ _ (.done (aW<|aD<|bF ?_))
 refine aZ (aM<|V.bool true)<|cH ?_
 . exact (decide_eq_true (jT hl λj hj=>hc j OM)).symm
theorem aGy (a b:M):bK Tryz.prog 34 [(V.agg [(iV a.i),(iV a.s),(aC a.nx),(aC a.ot)]),(V.agg [(iV b.i),(iV b.s),(aC b.nx),(aC b.ot)])] (V.bool (decide (a=b))):=by
 refine' pK [] [] Tryz.func34 ?e λhB=>?_
 case e=>conv=>lhs; cbv
 dsimp only;refine aW<|bS (i:=2) (n:=0) (m:=4) (cs:=[(iV a.i),(iV a.s),(aC a.nx),(aC a.ot)]) J (cE J) J J J<|bS (i:=3) (n:=0) (m:=4) (cs:=[(iV b.i),(iV b.s),(aC b.nx),(aC b.ot)]) J (cE J) J J J<|aD<|aW<|aX J J J J<|aX J J J J<|eV J J<|aP ?_
 refine bU 6 (λT H=>T 2=(cG 2)/\T 3=(cG 3)/\T 16=(V.bool<|decide ((a.i=b.i)/\(a.s=b.s)))/\H 2=(bk 1 24 4 [[(iV a.i),(iV a.s),(aC a.nx),(aC a.ot)]])/\H 3=(bk 1 24 4 [[(iV b.i),(iV b.s),(aC b.nx),(aC b.ot)]])/\True) ?_ ?_
 . 
  by_cases g1:a.i=b.i
  . 
   refine aN (bY g1 J)<|cM J J<|aN (bY g1 J)<|aV J J J J<|aN (bY g1 J)<|cM J J<|aN (bY g1 J)<|aV J J J J<|aN (bY g1 J)<|eV J J<|bV (bY g1 J) J ?_
   exact ⟨J,J,(eT g1),J,J,trivial⟩
  . 
   refine bW (bX g1 J)<|bW (bX g1 J)<|bW (bX g1 J)<|bW (bX g1 J)<|bW (bX g1 J)<|bT (bX g1 J) J ?_
   exact ⟨J,J,(eU g1),J,J,trivial⟩
 intro T H ⟨t2,t3,t16,h2,h3,_⟩;refine aJ t16 ?_;refine bU 6 (λT H=>T 2=(cG 2)/\T 3=(cG 3)/\T 23=(V.bool<|decide (((a.i=b.i)/\(a.s=b.s))/\(a.nx=b.nx)))/\H 2=(bk 1 24 4 [[(iV a.i),(iV a.s),(aC a.nx),(aC a.ot)]])/\H 3=(bk 1 24 4 [[(iV b.i),(iV b.s),(aC b.nx),(aC b.ot)]])/\True) ?_ ?_
 . 
  by_cases g2:(a.i=b.i)/\(a.s=b.s)
  . 
   refine aN (bY g2 J)<|cM t2 h2<|aN (bY g2 J)<|aV J h2 J J<|aN (bY g2 J)<|cM t3 h3<|aN (bY g2 J)<|aV J h3 J J<|aN (bY g2 J)<|aI (xA a.nx b.nx) J<|bV (bY g2 J) J ?_
   exact ⟨t2,t3,(eT g2),h2,h3,trivial⟩
  . 
   refine bW (bX g2 J)<|bW (bX g2 J)<|bW (bX g2 J)<|bW (bX g2 J)<|bW (bX g2 J)<|bT (bX g2 J) J ?_
   exact ⟨t2,t3,(eU g2),h2,h3,trivial⟩
 intro T H ⟨t2,t3,t23,h2,h3,_⟩;refine aJ t23 ?_;refine bU 6 (λT H=>T 30=(V.bool<|decide ((((a.i=b.i)/\(a.s=b.s))/\(a.nx=b.nx))/\(a.ot=b.ot)))/\H 2=(bk 1 24 4 [[(iV a.i),(iV a.s),(aC a.nx),(aC a.ot)]])/\H 3=(bk 1 24 4 [[(iV b.i),(iV b.s),(aC b.nx),(aC b.ot)]])/\True) ?_ ?_
 . 
  by_cases g3:((a.i=b.i)/\(a.s=b.s))/\(a.nx=b.nx)
  . 
   refine aN (bY g3 J)<|cM t2 h2<|aN (bY g3 J)<|aV J h2 J J<|aN (bY g3 J)<|cM t3 h3<|aN (bY g3 J)<|aV J h3 J J<|aN (bY g3 J)<|aI (xA a.ot b.ot) J<|bV (bY g3 J) J ?_
   exact ⟨(eT g3),h2,h3,trivial⟩
  . 
   refine bW (bX g3 J)<|bW (bX g3 J)<|bW (bX g3 J)<|bW (bX g3 J)<|bW (bX g3 J)<|bT (bX g3 J) J ?_
   exact ⟨(eU g3),h2,h3,trivial⟩
 intro T H ⟨t30,h2,h3,_⟩;refine aJ t30<|R_q ?_
 refine aZ (aM<|V.bool<|decide ((((a.i=b.i)/\(a.s=b.s))/\(a.nx=b.nx))/\(a.ot=b.ot)))<|cH ?_
 . first|rfl|(rw [decide_eq_decide]; rw [M.eq_iff]; simp [and_assoc])|(simp [M.eq_iff,and_assoc])
theorem aFG (a b:Hy):bK Tryz.prog 9 [(V.agg [(iV a.m.i),(iV a.m.s),(aC a.m.nx),(aC a.m.ot),(aC a.acc)]),(V.agg [(iV b.m.i),(iV b.m.s),(aC b.m.nx),(aC b.m.ot),(aC b.acc)])] (V.bool (decide (a=b))):=by
 refine' pK [] [] Tryz.func9 ?e λhB=>?_
 case e=>conv=>lhs; cbv
 dsimp only;refine aW<|bS (i:=2) (n:=0) (m:=5) (cs:=[(iV a.m.i),(iV a.m.s),(aC a.m.nx),(aC a.m.ot),(aC a.acc)]) J (cE J) J J J<|bS (i:=3) (n:=0) (m:=5) (cs:=[(iV b.m.i),(iV b.m.s),(aC b.m.nx),(aC b.m.ot),(aC b.acc)]) J (cE J) J J J<|aD<|aW<|aX J J J J<|aX J J J J<|aI (aGy a.m b.m) J<|aP ?_
 refine bU 6 (λT H=>T 16=(V.bool<|decide ((a.m=b.m)/\(a.acc=b.acc)))/\H 2=(bk 1 28 5 [[(iV a.m.i),(iV a.m.s),(aC a.m.nx),(aC a.m.ot),(aC a.acc)]])/\H 3=(bk 1 28 5 [[(iV b.m.i),(iV b.m.s),(aC b.m.nx),(aC b.m.ot),(aC b.acc)]])/\True) ?_ ?_
 . 
  by_cases g1:a.m=b.m
  . 
   refine aN (bY g1 J)<|cM J J<|aN (bY g1 J)<|aV J J J J<|aN (bY g1 J)<|cM J J<|aN (bY g1 J)<|aV J J J J<|aN (bY g1 J)<|aI (xA a.acc b.acc) J<|bV (bY g1 J) J ?_
   exact ⟨(eT g1),J,J,trivial⟩
  . 
   refine bW (bX g1 J)<|bW (bX g1 J)<|bW (bX g1 J)<|bW (bX g1 J)<|bW (bX g1 J)<|bT (bX g1 J) J ?_
   exact ⟨(eU g1),J,J,trivial⟩
 intro T H ⟨t16,h2,h3,_⟩;refine aJ t16<|R_q ?_
 refine aZ (aM<|V.bool<|decide ((a.m=b.m)/\(a.acc=b.acc)))<|cH ?_
 . first|rfl|(simp only [Hy.eq_iff,M.eq_iff]; first|rfl|(simp [and_assoc]))
theorem aJL (a b:List Tr):bK Tryz.prog 36 [(V.sl (List.map cT a)),(V.sl (List.map cT b))] (V.bool (decide (a=b))):=by
 refine' pK [] [] Tryz.func36 ?e λhB=>?_
 case e=>conv=>lhs; cbv
 dsimp only;refine aW<|aD<|aO<|aP<|bA J<|aP<|bA J<|bP J J<|bR ?_
 refine aH J (λc1=>?_) λc1=>?_
 . 
  refine aO<|aD<|aK ?_
  refine aZ (aM<|V.bool false)<|cH ?_
  . exact (decide_eq_false (λe=>by subst e; omega)).symm
 refine aB<|aO<|aD (aG λQ2 n2 x2 y2 z2=>?_)
 refine cC (λmm T H=> ∃ (k:Nat),mm=a.length - k/\T 0=(V.sl<|List.map cT a)/\T 1=(V.sl<|List.map cT b)/\T 5=(iV ((k:Nat):Int))/\(k<=a.length)/\(a.length=b.length)/\(∀ j,j < k->aA a j=aA b j)) ?_ ?_
 . 
  refine ⟨_,0,J,J,J,(bL (aM<|iV 0) J),?_,?_,?_⟩
  . omega
  . omega
  . intro j hj; omega
 intro mm T H ⟨k,hmm,t0,t1,t5,hk,hl,hc⟩ Q3 p13 p23 p33;refine aO<|aJ t5<|aJ t0<|bA J<|bZ J J<|bR ?_
 refine aH J (λc4=>?_) λc4=>?_
 . 
  refine aB (aG λQ5 n5 x5 y5 z5=>(aW<|aJ t0<|aJ t5<|dA (i:=k) (aM<|V.sl<|List.map cT a) (cO k)<|dB (cs':=[(aE<|(aA a k).ni),(aE<|(aA a k).no)]) J J<|aL J J<|aJ t1<|aJ t5<|dA (i:=k) (aM<|V.sl<|List.map cT b) (cO k)<|dB (cs':=[(aE<|(aA b k).ni),(aE<|(aA b k).no)]) J J<|aL J J<|aI (rQ ((aA a k).ni)<|(aA b k).ni) J<|qT J<|aP ?_));refine bU 13 (λT H=>T 0=(V.sl<|List.map cT a)/\T 1=(V.sl<|List.map cT b)/\T 5=(iV ((k:Nat):Int))/\T 42=(V.bool<|decide ((¬(((aA a k).ni)=((aA b k).ni)))\/(¬(((aA a k).no)=((aA b k).no)))))/\True) ?_ ?_
  . 
   by_cases g6: ¬(((aA a k).ni)=((aA b k).ni))
   . 
    refine bW (bY g6 J)<|bW (bY g6 J)<|bW (bY g6 J)<|bW (bY g6 J)<|bW (bY g6 J)<|bW (bY g6 J)<|bW (bY g6 J)<|bW (bY g6 J)<|bW (bY g6 J)<|bW (bY g6 J)<|bW (bY g6 J)<|bW (bY g6 J)<|bV (bY g6 J) J ?_
    exact ⟨t0,t1,t5,(dZ g6),trivial⟩
   . 
    refine aN (bX g6 J)<|aJ t0<|aN (bX g6 J)<|aJ t5<|aN (bX g6 J)<|dA (i:=k) (aM<|V.sl<|List.map cT a) (cO k)<|aN (bX g6 J)<|dB (cs':=[(aE<|(aA a k).no)]) J J<|aN (bX g6 J)<|aL J J<|aN (bX g6 J)<|aJ t1<|aN (bX g6 J)<|aJ t5<|aN (bX g6 J)<|dA (i:=k) (aM<|V.sl<|List.map cT b) (cO k) ?_
    refine aN (bX g6 J)<|dB (cs':=[(aE<|(aA b k).no)]) J J<|aN (bX g6 J)<|aL J J<|aN (bX g6 J)<|aI (rQ ((aA a k).no)<|(aA b k).no) J<|aN (bX g6 J)<|qT J<|bT (bX g6 J) J ?_
    exact ⟨t0,t1,t5,(dX g6),trivial⟩
  intro T H ⟨t0,t1,t5,t42,_⟩;refine bR ?_;refine fN t42 (λc7=>?_) λc7=>?_
  . 
   have d1:aA a k≠aA b k:=λe=>by rw [e] at c7; simp at c7
   refine aW<|aD<|bF<|y5 _ _<|p23 _ _<|y2 _ _ ?_
   refine aZ (aM<|V.bool false)<|cH ?_
   . exact (decide_eq_false (λe=>d1 (by subst e; rfl))).symm
  have d1:aA a k=aA b k:=Tr.eq_iff.2 (by simpa using c7);refine dH<|n5 _ _ (.done (eI<|aJ t5<|cF J<|aD ?_))
  refine p13 _ _ _ ?_ ⟨(k+1),J,t0,t1,(bL (cO<|k+1) JR),?_,?_,?_⟩
  . omega
  . omega
  . omega
  . intro j hj
    by_cases e:j=k
    . subst e; exact d1
    . exact hc j OM
 refine aT<|p33 _ _ _<|x2 _ _ (.done (aW<|aD<|bF ?_))
 refine aZ (aM<|V.bool true)<|cH ?_
 . exact (decide_eq_true (jT hl λj hj=>hc j OM)).symm
theorem aGW (a b:Ob):bK Tryz.prog 10 [(V.agg [(iV a.i),(V.sl (List.map cT a.tr))]),(V.agg [(iV b.i),(V.sl (List.map cT b.tr))])] (V.bool (decide (a=b))):=by
 refine' pK [] [] Tryz.func10 ?e λhB=>?_
 case e=>conv=>lhs; cbv
 dsimp only;refine aW<|bS (i:=2) (n:=0) (m:=2) (cs:=[(iV a.i),(V.sl<|List.map cT a.tr)]) J (cE J) J J J<|bS (i:=3) (n:=0) (m:=2) (cs:=[(iV b.i),(V.sl<|List.map cT b.tr)]) J (cE J) J J J<|aD<|aW<|aX J J J J<|aX J J J J<|eV J J<|aP ?_
 refine bU 6 (λT H=>T 16=(V.bool<|decide ((a.i=b.i)/\(a.tr=b.tr)))/\H 2=(bk 1 31 2 [[(iV a.i),(V.sl<|List.map cT a.tr)]])/\H 3=(bk 1 31 2 [[(iV b.i),(V.sl<|List.map cT b.tr)]])/\True) ?_ ?_
 . 
  by_cases g1:a.i=b.i
  . 
   refine aN (bY g1 J)<|cM J J<|aN (bY g1 J)<|aV J J J J<|aN (bY g1 J)<|cM J J<|aN (bY g1 J)<|aV J J J J<|aN (bY g1 J)<|aI (aJL a.tr b.tr) J<|bV (bY g1 J) J ?_
   exact ⟨(eT g1),J,J,trivial⟩
  . 
   refine bW (bX g1 J)<|bW (bX g1 J)<|bW (bX g1 J)<|bW (bX g1 J)<|bW (bX g1 J)<|bT (bX g1 J) J ?_
   exact ⟨(eU g1),J,J,trivial⟩
 intro T H ⟨t16,h2,h3,_⟩;refine aJ t16<|R_q ?_
 refine aZ (aM<|V.bool<|decide ((a.i=b.i)/\(a.tr=b.tr)))<|cH ?_
 . exact decide_eq_decide.2 Ob.eq_iff.symm
theorem aGe (m:M):bK Tryz.prog 3 [(V.agg [(iV m.i),(iV m.s),(aC m.nx),(aC m.ot)])] (V.bool true):=by
 refine' pK [] [] Tryz.func3 ?e λhB=>?_
 case e=>conv=>lhs; cbv
 dsimp only;refine aW<|bS (i:=1) (n:=0) (m:=4) (cs:=[(iV m.i),(iV m.s),(aC m.nx),(aC m.ot)]) J (cE J) J J J<|aD<|aO<|aV J J J J<|aI (aDm m) J<|fF J<|bR ?_
 refine cU J (λc1=>?_) (λc1=>?_)
 . 
  refine aO<|aI jZ J<|aD<|aK ?_
  refine aZ (aM<|V.bool true)<|eM SI J
 have q0:=c1;have hs:m.i<=39:=Int.le_trans (of_decide_eq_true (show smB m=true by simpa using q0)).2 DE;refine aB<|aW<|aV J J J J<|aI (aF5 m hs) J<|aP<|bE J J<|bE J J<|bE J J<|bE J J<|bM (i:=3) (n:=0) (m:=5) J (cE J) J<|bM (i:=4) (n:=0) (m:=2) J (cE J) J<|bQ J J J J J J J J J<|bQ J J J J J J J J J<|aP<|aD ?_
 refine aW<|aV J J J J<|aI (aFy m hs) J<|aP<|bE J J<|bE J J<|bE J J<|bE J J<|bM (i:=7) (n:=0) (m:=5) J (cE J) J<|bM (i:=8) (n:=0) (m:=2) J (cE J) J<|bQ J J J J J J J J J<|bQ J J J J J J J J J<|aP<|aD ?_
 refine dE (λT H=>T 2=(V.bool<|decide ((((((eR m).1)=((eR m).1))/\(((eR m).2.1)=((eR m).2.1)))/\(((eR m).2.2.1)=((eR m).2.2.1)))/\(((eR m).2.2.2)=((eR m).2.2.2))))/\H 1=(sA m)/\H 3=(bk 1 28 5 [[(iV<|(eR m).1.m.i),(iV<|(eR m).1.m.s),(aC<|(eR m).1.m.nx),(aC<|(eR m).1.m.ot),(aC<|(eR m).1.acc)]])/\H 4=(bk 1 31 2 [[(iV<|(eR m).2.1.i),(V.sl<|List.map cT<|(eR m).2.1.tr)]])/\H 7=(bk 1 28 5 [[(iV<|(eR m).1.m.i),(iV<|(eR m).1.m.s),(aC<|(eR m).1.m.nx),(aC<|(eR m).1.m.ot),(aC<|(eR m).1.acc)]])/\H 8=(bk 1 31 2 [[(iV<|(eR m).2.1.i),(V.sl<|List.map cT<|(eR m).2.1.tr)]])/\True) ?_ ?_
 . 
  refine aV J J J J<|aV J J J J<|aI (aFG ((eR m).1)<|(eR m).1) J<|aP ?_
  refine bU 4 (λT H=>T 5=(iV<|(eR m).2.2.1)/\T 6=(iV<|(eR m).2.2.2)/\T 9=(iV<|(eR m).2.2.1)/\T 10=(iV<|(eR m).2.2.2)/\T 36=(V.bool<|decide ((((eR m).1)=((eR m).1))/\(((eR m).2.1)=((eR m).2.1))))/\H 1=(sA m)/\H 3=(bk 1 28 5 [[(iV<|(eR m).1.m.i),(iV<|(eR m).1.m.s),(aC<|(eR m).1.m.nx),(aC<|(eR m).1.m.ot),(aC<|(eR m).1.acc)]])/\H 4=(bk 1 31 2 [[(iV<|(eR m).2.1.i),(V.sl<|List.map cT<|(eR m).2.1.tr)]])/\H 7=(bk 1 28 5 [[(iV<|(eR m).1.m.i),(iV<|(eR m).1.m.s),(aC<|(eR m).1.m.nx),(aC<|(eR m).1.m.ot),(aC<|(eR m).1.acc)]])/\H 8=(bk 1 31 2 [[(iV<|(eR m).2.1.i),(V.sl<|List.map cT<|(eR m).2.1.tr)]])/\True) ?_ ?_
  . 
   by_cases g2:((eR m).1)=((eR m).1)
   . 
    refine aN (bY g2 J)<|aV J J J J<|aN (bY g2 J)<|aV J J J J<|aN (bY g2 J)<|aI (aGW ((eR m).2.1)<|(eR m).2.1) J<|bV (bY g2 J) J ?_
    exact ⟨J,J,J,J,(eT g2),J,J,J,J,J,trivial⟩
   . 
    refine bW (bX g2 J)<|bW (bX g2 J)<|bW (bX g2 J)<|bT (bX g2 J) J ?_
    exact ⟨J,J,J,J,(eU g2),J,J,J,J,J,trivial⟩
  intro T H ⟨t5,t6,t9,t10,t36,h1,h3,h4,h7,h8,_⟩;refine aJ t36 ?_;refine bU 4 (λT H=>T 6=(iV<|(eR m).2.2.2)/\T 10=(iV<|(eR m).2.2.2)/\T 41=(V.bool<|decide (((((eR m).1)=((eR m).1))/\(((eR m).2.1)=((eR m).2.1)))/\(((eR m).2.2.1)=((eR m).2.2.1))))/\H 1=(sA m)/\H 3=(bk 1 28 5 [[(iV<|(eR m).1.m.i),(iV<|(eR m).1.m.s),(aC<|(eR m).1.m.nx),(aC<|(eR m).1.m.ot),(aC<|(eR m).1.acc)]])/\H 4=(bk 1 31 2 [[(iV<|(eR m).2.1.i),(V.sl<|List.map cT<|(eR m).2.1.tr)]])/\H 7=(bk 1 28 5 [[(iV<|(eR m).1.m.i),(iV<|(eR m).1.m.s),(aC<|(eR m).1.m.nx),(aC<|(eR m).1.m.ot),(aC<|(eR m).1.acc)]])/\H 8=(bk 1 31 2 [[(iV<|(eR m).2.1.i),(V.sl<|List.map cT<|(eR m).2.1.tr)]])/\True) ?_ ?_
  . 
   by_cases g3:(((eR m).1)=((eR m).1))/\(((eR m).2.1)=((eR m).2.1))
   . 
    refine aN (bY g3 J)<|aJ t5<|aN (bY g3 J)<|aJ t9<|aN (bY g3 J)<|eV J J<|bV (bY g3 J) J ?_
    exact ⟨t6,t10,(eT g3),h1,h3,h4,h7,h8,trivial⟩
   . 
    refine bW (bX g3 J)<|bW (bX g3 J)<|bW (bX g3 J)<|bT (bX g3 J) J ?_
    exact ⟨t6,t10,(eU g3),h1,h3,h4,h7,h8,trivial⟩
  intro T H ⟨t6,t10,t41,h1,h3,h4,h7,h8,_⟩;refine aJ t41 ?_;refine bU 4 (λT H=>T 46=(V.bool<|decide ((((((eR m).1)=((eR m).1))/\(((eR m).2.1)=((eR m).2.1)))/\(((eR m).2.2.1)=((eR m).2.2.1)))/\(((eR m).2.2.2)=((eR m).2.2.2))))/\H 1=(sA m)/\H 3=(bk 1 28 5 [[(iV<|(eR m).1.m.i),(iV<|(eR m).1.m.s),(aC<|(eR m).1.m.nx),(aC<|(eR m).1.m.ot),(aC<|(eR m).1.acc)]])/\H 4=(bk 1 31 2 [[(iV<|(eR m).2.1.i),(V.sl<|List.map cT<|(eR m).2.1.tr)]])/\H 7=(bk 1 28 5 [[(iV<|(eR m).1.m.i),(iV<|(eR m).1.m.s),(aC<|(eR m).1.m.nx),(aC<|(eR m).1.m.ot),(aC<|(eR m).1.acc)]])/\H 8=(bk 1 31 2 [[(iV<|(eR m).2.1.i),(V.sl<|List.map cT<|(eR m).2.1.tr)]])/\True) ?_ ?_
  . 
   by_cases g4:((((eR m).1)=((eR m).1))/\(((eR m).2.1)=((eR m).2.1)))/\(((eR m).2.2.1)=((eR m).2.2.1))
   . 
    refine aN (bY g4 J)<|aJ t6<|aN (bY g4 J)<|aJ t10<|aN (bY g4 J)<|eV J J<|bV (bY g4 J) J ?_
    exact ⟨(eT g4),h1,h3,h4,h7,h8,trivial⟩
   . 
    refine bW (bX g4 J)<|bW (bX g4 J)<|bW (bX g4 J)<|bT (bX g4 J) J ?_
    exact ⟨(eU g4),h1,h3,h4,h7,h8,trivial⟩
  intro T H ⟨t46,h1,h3,h4,h7,h8,_⟩;refine aJ t46 ?_;refine bU 2 (λT H=>T 49=(V.bool<|decide ((((((eR m).1)=((eR m).1))/\(((eR m).2.1)=((eR m).2.1)))/\(((eR m).2.2.1)=((eR m).2.2.1)))/\(((eR m).2.2.2)=((eR m).2.2.2))))/\H 1=(sA m)/\H 3=(bk 1 28 5 [[(iV<|(eR m).1.m.i),(iV<|(eR m).1.m.s),(aC<|(eR m).1.m.nx),(aC<|(eR m).1.m.ot),(aC<|(eR m).1.acc)]])/\H 4=(bk 1 31 2 [[(iV<|(eR m).2.1.i),(V.sl<|List.map cT<|(eR m).2.1.tr)]])/\H 7=(bk 1 28 5 [[(iV<|(eR m).1.m.i),(iV<|(eR m).1.m.s),(aC<|(eR m).1.m.nx),(aC<|(eR m).1.m.ot),(aC<|(eR m).1.acc)]])/\H 8=(bk 1 31 2 [[(iV<|(eR m).2.1.i),(V.sl<|List.map cT<|(eR m).2.1.tr)]])/\True) ?_ ?_
  . 
   by_cases g5:(((((eR m).1)=((eR m).1))/\(((eR m).2.1)=((eR m).2.1)))/\(((eR m).2.2.1)=((eR m).2.2.1)))/\(((eR m).2.2.2)=((eR m).2.2.2))
   . 
    refine aN (bY g5 J)<|aI jZ J<|bV (bY g5 J) J ?_
    exact ⟨(aQw g5),h1,h3,h4,h7,h8,trivial⟩
   . 
    refine bW (bX g5 J)<|bT (bX g5 J) J ?_
    exact ⟨(aPR g5),h1,h3,h4,h7,h8,trivial⟩
  intro T H ⟨t49,h1,h3,h4,h7,h8,_⟩;refine aJ t49 ?_;exact eS ⟨J,h1,h3,h4,h7,h8,trivial⟩
 intro T H ⟨t2,h1,h3,h4,h7,h8,_⟩;refine bF ?_;refine aZ t2<|cH ?_
 . first|rfl|simp
end
section
open Go Go.Proofs Go.Proofs.YtinpihlhcmpkhaaGreat Go.ChangeShapes Go.WideShapes Go.ChangeAt Go.RowKit
structure UT (P:Program):Prop where
  u3:P.underlying 3=some (.int .i64)
  u22:P.underlying 22=some (.slice 54)
  u54:P.underlying 54=some (.slice 3)
  u24: ∃ f0 f1 f2 f3:Field,P.underlying 24=some (.struct #[f0,f1,f2,f3])/\f0.type=3/\f1.type=3/\f2.type=22/\f3.type=22
theorem sh3 {P:Program} (U:UT P) (n:Nat) (vs:List V) (h:Shp P (n+1) 3 vs): ∃ a:Int,vs=cI a:=aMn U.u3 h
theorem aQA {P:Program} (U:UT P) (n:Nat) (vs:List V) (h:Shp P (n+2) 54 vs): ∃ a:List Int,vs=cL a:=aCG (f:=cI) U.u54 (λvs h=>sh3 U n vs h) h
theorem aQg {P:Program} (U:UT P) (n:Nat) (vs:List V) (h:Shp P (n+3) 22 vs): ∃ a:List (List Int),vs=(λl=>[V.sl (List.map cL l)]) a:=aCG (f:=cL) U.u22 (λvs h=>aQA U n vs h) h
theorem aQH {P:Program} (U:UT P) (n:Nat) (vs:List V) (h:Shp P (n+4) 24 vs): ∃ a:M,vs=mC a:=by
  obtain ⟨f0,f1,f2,f3,hu,k0,k1,k2,k3⟩:=U.u24;have h0:=aKp hu h;obtain ⟨x0,u0,e0,h1⟩:=vJ (c:=cI) (λvs h=>sh3 U (n+2) vs (by rw [k0] at h; exact h)) h0;obtain ⟨x1,u1,e1,h2⟩:=vJ (c:=cI) (λvs h=>sh3 U (n+2) vs (by rw [k1] at h; exact h)) h1;obtain ⟨x2,u2,e2,h3⟩:=vJ (c:=(λl=>[V.sl (List.map cL l)])) (λvs h=>aQg U (n+0) vs (by rw [k2] at h; exact h)) h2;obtain ⟨x3,u3,e3,h4⟩:=vJ (c:=(λl=>[V.sl (List.map cL l)])) (λvs h=>aQg U (n+0) vs (by rw [k3] at h; exact h)) h3;have e4:=aLT h4;exact ⟨⟨x0,x1,x2,x3⟩,by rw [e0,e1,e2,e3,e4]; rfl⟩
theorem ut:UT Tryz.prog:=⟨by kernel_rfl,by kernel_rfl,by kernel_rfl,⟨_,_,_,_,Tryz.underlying24,J,J,J,J⟩⟩
theorem aPT {P:Program} (U:UT P) {us:List V} (h:aGO P 5 [24] us): ∃ (d0:M),us=[V.agg (mC d0)]:=by
  obtain ⟨a0,b0,e0,h0,h⟩:=aIY h;obtain ⟨d0,g0⟩:=aQH U 1 a0 h0;have q0:aAC P 24 a0=V.agg (mC d0):=by obtain ⟨_,_,_,_,hu,_⟩:=U.u24; rw [g0]; exact aFn hu _
  have e1:=aLe h;exact ⟨d0,by rw [e0,q0,e1]⟩
theorem aQy:ownKnob Tryz.prog.godebug=none:=by kernel_rfl
set_option maxRecDepth 100000 in
theorem aMT (os:Os) (started:os.Started) (H:Type) (enc:TypeId×Value->H):
    ReturnsInHanded {} Tryz.checked os 3 .any (Rows.treelearnRunsSpec.pre6 enc Tryz.prog Tryz.f3 Rows.treelearnRunsRow.domain false) (Rows.treelearnRunsSpec.post enc Tryz.prog Tryz.f3 false true false false):=by
  refine returnsInHanded_of_change (C:=Tryz.checked) aQy started (by kernel_rfl) Tryz.func3
    (ChangeSpec.witness6 (enc:=enc) (C:=Tryz.checked) false ⟨#[],#[.agg #[.int .i64 0,.int .i64 0,.slice none 0 0,.slice none 0 0]],[]⟩ 8 (by kernel_rfl) (by kernel_rfl) (by kernel_rfl) (by kernel_rfl)) ?_
  intro W base args ds gs before hval0 hW hcnd _;refine aJ6 (n:=5) (tb:=4) (by kernel_rfl) (by kernel_rfl) (by kernel_rfl) (λt ht=>?_) J ?_ (λus hu=>?_) hval0 hW
  . have h:t∈[24]:=ht
    simp only [List.mem_cons,List.not_mem_nil,or_false] at h;rcases h with rfl
    . exact ⟨by kernel_rfl,by kernel_rfl,of_decide_eq_true (by kernel_rfl)⟩
  . obtain ⟨p,q,hA,hV,rfl,hfz,hnd⟩:=hW
    obtain ⟨rfl,rfl⟩:=trodVars_none hV
    change DataW.TrodAll enc Tryz.prog W 0 (λ_=>true) true [24] args.toList ds p at hA
    obtain ⟨v0,vs0,y0,ds0,pa0,pb0,hv0,rfl,rfl,_,hA⟩:=trodAll_cons hA;obtain ⟨_,rfl,rfl⟩:=trodAll_nil hA
    rfl
  . obtain ⟨d0,rfl⟩:=aPT ut hu
    exact aGe d0
theorem proved3:Rows.TreelearnRunsSaid:=
  OpenClaim.holds_of_wide 3 Tryz.f3 J J J J J J J ⟨J,J,J,J,J⟩ J J J J J (by kernel_rfl) Tryz.func3 (by kernel_rfl)
    (of_decide_eq_true (by kernel_rfl)) (by unfold Func.isWrapper; first|(rw [if_pos (by decide+kernel)]; kernel_rfl)|(rw [if_neg (by decide+kernel)]; exact ⟨J,J⟩))
    (λos started H enc _=>aMT os started H enc)
end
end Go.Proofs.YtinpihlhcmpkhaaGreat
