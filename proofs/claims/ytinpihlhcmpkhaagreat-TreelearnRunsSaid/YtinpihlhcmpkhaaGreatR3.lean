/- Contracts of the functions that the law R reaches, and the law itself, for every input; no condition. -/
import Derived.KernelRfl
import Derived.Test.YtinpihlhcmpkhaaGreatProg
import Derived.Test.YtinpihlhcmpkhaaGreatR2
set_option linter.unusedSimpArgs false
set_option linter.unusedVariables false
set_option maxRecDepth 20000
set_option maxHeartbeats 1000000
namespace Go.Proofs.YtinpihlhcmpkhaaGreat
section
open Go Go.Proofs
theorem qH (m:M):bK Tryz.prog 24 [(V.agg [(iV m.i),(iV m.s),(aC m.nx),(aC m.ot)])] (iV (eO m)):=by
 refine' pK [] [] Tryz.func24 ?e λhB=>?_
 case e=>conv=>lhs; cbv
 dsimp only;refine aW<|bS (i:=1) (n:=0) (m:=4) (cs:=[(iV m.i),(iV m.s),(aC m.nx),(aC m.ot)]) J (cE J) J J J<|aD<|aW<|aX J J J J<|bA J<|aD (aG λQ1 n1 x1 y1 z1=>(aW<|aX J J J J<|bZ J J<|aP ?_))
 refine bU 4 (λT H=>T 1=(cG 1)/\T 3=(iV ((m.nx.length:Nat):Int))/\T 19=(V.bool<|decide ((m.i < (1:Int))\/((64:Int) < m.i)))/\H 1=(sA m)/\True) ?_ ?_
 . 
  by_cases g2:m.i < (1:Int)
  . 
   refine bW (bY g2 J)<|bW (bY g2 J)<|bW (bY g2 J)<|bV (bY g2 J) J ?_
   exact ⟨J,J,(dZ g2),J,trivial⟩
  . 
   refine aN (bX g2 J)<|cM J J<|aN (bX g2 J)<|aV J J J J<|aN (bX g2 J)<|eD J J<|bT (bX g2 J) J ?_
   exact ⟨J,J,(dX g2),J,trivial⟩
 intro T H ⟨t1,t3,t19,h1,_⟩;refine aJ t19<|bR ?_
 refine fN J (λc3=>?_) λc3=>?_
 . 
  refine aW<|aD<|bF<|y1 _ _ ?_
  refine aZ (aM<|iV 2)<|aF ?_
  . rw [eO,if_pos OM]
 refine aW<|aJ t3<|eV J J<|aD ?_
 refine fN J (λc4=>?_) λc4=>?_
 . 
  refine aW<|aD<|bF<|y1 _ _ ?_
  refine aZ (aM<|iV 19)<|aF ?_
  . rw [eO,if_neg OM,if_pos OM]
 refine aW<|aJ t3<|eD J J<|aD ?_
 refine fN J (λc5=>?_) λc5=>?_
 . 
  refine aW<|aD<|bF<|y1 _ _ ?_
  refine aZ (aM<|iV 11)<|aF ?_
  . rw [eO,if_neg OM,if_neg OM,if_pos OM]
 refine aW<|aX t1 h1 J J<|bZ J J<|aP ?_
 refine bU 5 (λT H=>T 1=(cG 1)/\T 3=(iV ((m.nx.length:Nat):Int))/\T 35=(V.bool<|decide ((m.s < (0:Int))\/(((m.nx.length:Nat):Int)<=m.s)))/\H 1=(sA m)/\True) ?_ ?_
 . 
  by_cases g6:m.s < (0:Int)
  . 
   refine bW (bY g6 J)<|bW (bY g6 J)<|bW (bY g6 J)<|bW (bY g6 J)<|bV (bY g6 J) J ?_
   exact ⟨t1,t3,(dZ g6),h1,trivial⟩
  . 
   refine aN (bX g6 J)<|cM t1 h1<|aN (bX g6 J)<|aV J h1 J J<|aN (bX g6 J)<|aJ t3<|aN (bX g6 J)<|iC J J<|bT (bX g6 J) J ?_
   exact ⟨t1,t3,(dX g6),h1,trivial⟩
 intro T H ⟨t1,t3,t35,h1,_⟩;refine aJ t35<|bR ?_
 refine fN J (λc7=>?_) λc7=>?_
 . 
  refine aW<|aD<|bF<|y1 _ _ ?_
  refine aZ (aM<|iV 2)<|aF ?_
  . rw [eO,if_neg OM,if_neg OM,if_neg OM,if_pos OM]
 refine aW<|aX t1 h1 J J<|bA J<|aJ t3<|bP J J<|aD ?_
 refine fN J (λc8=>?_) λc8=>?_
 . 
  refine aW<|aD<|bF<|y1 _ _ ?_
  refine aZ (aM<|iV 1)<|aF ?_
  . rw [eO,if_neg OM,if_neg OM,if_neg OM,if_neg OM,if_pos OM]
 refine dH<|n1 _ _ (.done (aO<|aJ t3<|aD (aG λQ9 n9 x9 y9 z9=>?_)))
 refine cC (λmm T H=> ∃ (k:Nat),mm=m.nx.length - k/\T 1=(cG 1)/\T 3=(iV ((m.nx.length:Nat):Int))/\T 42=(iV ((m.nx.length:Nat):Int))/\T 43=(iV ((k:Nat):Int))/\H 1=(sA m)/\(k<=m.nx.length)/\(1<=m.i/\m.i<=64/\0 < m.nx.length/\m.nx.length<=128/\m.ot.length=m.nx.length)/\(eO m=fe (xV m) k (m.nx.length - k))) ?_ ?_
 . 
  refine ⟨_,0,J,t1,t3,J,(bL (aM<|iV 0) J),h1,?_,?_,?_⟩
  . omega
  . omega
  . rw [eO,if_neg OM,if_neg OM,if_neg OM,if_neg OM,if_neg OM]; rfl
 intro mm T H ⟨k,hmm,t1,t3,t42,t43,h1,hk,hv,hc⟩ Q10 p110 p210 p310;refine aW<|bZ t43 t42<|bR ?_
 refine aH J (λc11=>?_) λc11=>?_
 . 
  refine aB (aG λQ12 n12 x12 y12 z12=>(aW<|aJ t43<|aD<|aO<|aX t1 h1 J J<|aP<|dA (i:=k) (aM<|aC m.nx) (cO k)<|aL J J<|bA J<|aX t1 h1 J J ?_));refine bP J J<|aP ?_
  refine bU 10 (λT H=>T 1=(cG 1)/\T 3=(iV ((m.nx.length:Nat):Int))/\T 4=(iV ((k:Nat):Int))/\T 42=(iV ((m.nx.length:Nat):Int))/\T 43=(iV ((k:Nat):Int))/\T 65=(V.bool<|decide (((((aA m.nx k).length:Nat):Int)≠m.i)\/((((aA m.ot k).length:Nat):Int)≠m.i)))/\H 1=(sA m)/\True) ?_ ?_
  . 
   by_cases g13:(((aA m.nx k).length:Nat):Int)≠m.i
   . 
    refine bW (bY g13 J)<|bW (bY g13 J)<|bW (bY g13 J)<|bW (bY g13 J)<|bW (bY g13 J)<|bW (bY g13 J)<|bW (bY g13 J)<|bW (bY g13 J)<|bW (bY g13 J)<|bV (bY g13 J) J ?_
    exact ⟨t1,t3,J,t42,t43,(dZ g13),h1,trivial⟩
   . 
    refine aN (bX g13 J)<|cM t1 h1<|aN (bX g13 J)<|aV J h1 J J<|aN (bX g13 J)<|aP<|aN (bX g13 J)<|dA (i:=k) (aM<|aC m.ot) (cO k)<|aN (bX g13 J)<|aL J J<|aN (bX g13 J)<|bA J<|aN (bX g13 J)<|cM t1 h1<|aN (bX g13 J)<|aV J h1 J J ?_
    refine aN (bX g13 J)<|bP J J<|bT (bX g13 J) J ?_
    exact ⟨t1,t3,J,t42,t43,(dX g13),h1,trivial⟩
  intro T H ⟨t1,t3,t4,t42,t43,t65,h1,_⟩;refine bR ?_;refine aH t65 (λc14=>?_) λc14=>?_
  . 
   refine aO<|aD<|aK<|y12 _ _<|p210 _ _<|y9 _ _ ?_
   refine aZ (aM<|iV 1)<|aF ?_
   . rw [hc,fV (by rw [xV,if_pos OM]; decide) OM,xV,if_pos OM]
  refine aB<|aW<|aX t1 h1 J J<|aD (fZ λQ15 n15 x15 y15 z15=>?_)
  refine cC (λmm T H=> ∃ (j:Nat),mm=m.i.toNat - j/\T 1=(cG 1)/\T 3=(iV ((m.nx.length:Nat):Int))/\T 4=(iV ((k:Nat):Int))/\T 42=(iV ((m.nx.length:Nat):Int))/\T 43=(iV ((k:Nat):Int))/\T 67=(iV m.i)/\T 68=(iV ((j:Nat):Int))/\H 1=(sA m)/\(j<=m.i.toNat)/\(((aA m.nx k).length:Int)=m.i/\((aA m.ot k).length:Int)=m.i)/\(xV m k=fe (aCw m k) j (m.i.toNat - j))) ?_ ?_
  . 
   refine ⟨_,0,J,t1,t3,t4,t42,t43,J,(bL (aM<|iV 0) J),h1,?_,?_,?_⟩
   . omega
   . omega
   . rw [xV,if_neg OM]; rfl
  intro mm T H ⟨j,hmm,t1,t3,t4,t42,t43,t67,t68,h1,hj,hl,hr⟩ Q16 p116 p216 p316;refine aW<|bZ t68 t67<|bR ?_
  refine aH J (λc17=>?_) λc17=>?_
  . 
   refine aB (aG λQ18 n18 x18 y18 z18=>(aW<|aJ t68<|aD<|aW<|aX t1 h1 J J<|aJ t4<|dA (i:=k) (aM<|aC m.nx) (cO k)<|aL J J<|aP<|dA (i:=j) (aM<|aE<|aA m.nx k) (cO j)<|aL J J<|cM t1 h1 ?_));refine aV J h1 J J<|aJ t4<|dA (i:=k) (aM<|aC m.ot) (cO k)<|aL J J<|aP<|dA (i:=j) (aM<|aE<|aA m.ot k) (cO j)<|aL J J<|aP<|aD<|aW<|aP<|bZ J J<|aP ?_
   refine bU 4 (λT H=>T 1=(cG 1)/\T 3=(iV ((m.nx.length:Nat):Int))/\T 4=(iV ((k:Nat):Int))/\T 7=(iV<|aA (aA m.ot k) j)/\T 42=(iV ((m.nx.length:Nat):Int))/\T 43=(iV ((k:Nat):Int))/\T 67=(iV m.i)/\T 68=(iV ((j:Nat):Int))/\T 93=(V.bool<|decide (((aA (aA m.nx k) j) < (0:Int))\/(((m.nx.length:Nat):Int)<=(aA (aA m.nx k) j))))/\H 1=(sA m)/\True) ?_ ?_
   . 
    by_cases g19:(aA (aA m.nx k) j) < (0:Int)
    . 
     refine bW (bY g19 J)<|bW (bY g19 J)<|bW (bY g19 J)<|bV (bY g19 J) J ?_
     exact ⟨t1,t3,t4,J,t42,t43,t67,t68,(dZ g19),h1,trivial⟩
    . 
     refine aN (bX g19 J)<|aP<|aN (bX g19 J)<|aJ t3<|aN (bX g19 J)<|iC J J<|bT (bX g19 J) J ?_
     exact ⟨t1,t3,t4,J,t42,t43,t67,t68,(dX g19),h1,trivial⟩
   intro T H ⟨t1,t3,t4,t7,t42,t43,t67,t68,t93,h1,_⟩;refine aJ t93 ?_;refine bU 3 (λT H=>T 1=(cG 1)/\T 3=(iV ((m.nx.length:Nat):Int))/\T 4=(iV ((k:Nat):Int))/\T 7=(iV<|aA (aA m.ot k) j)/\T 42=(iV ((m.nx.length:Nat):Int))/\T 43=(iV ((k:Nat):Int))/\T 67=(iV m.i)/\T 68=(iV ((j:Nat):Int))/\T 97=(V.bool<|decide ((((aA (aA m.nx k) j) < (0:Int))\/(((m.nx.length:Nat):Int)<=(aA (aA m.nx k) j)))\/((aA (aA m.ot k) j) < (0:Int))))/\H 1=(sA m)/\True) ?_ ?_
   . 
    by_cases g20:((aA (aA m.nx k) j) < (0:Int))\/(((m.nx.length:Nat):Int)<=(aA (aA m.nx k) j))
    . 
     refine bW (bY g20 J)<|bW (bY g20 J)<|bV (bY g20 J) J ?_
     exact ⟨t1,t3,t4,t7,t42,t43,t67,t68,(dZ g20),h1,trivial⟩
    . 
     refine aN (bX g20 J)<|aJ t7<|aN (bX g20 J)<|bZ J J<|bT (bX g20 J) J ?_
     exact ⟨t1,t3,t4,t7,t42,t43,t67,t68,(dX g20),h1,trivial⟩
   intro T H ⟨t1,t3,t4,t7,t42,t43,t67,t68,t97,h1,_⟩;refine aJ t97 ?_;refine bU 3 (λT H=>T 1=(cG 1)/\T 3=(iV ((m.nx.length:Nat):Int))/\T 4=(iV ((k:Nat):Int))/\T 42=(iV ((m.nx.length:Nat):Int))/\T 43=(iV ((k:Nat):Int))/\T 67=(iV m.i)/\T 68=(iV ((j:Nat):Int))/\T 101=(V.bool<|decide (((((aA (aA m.nx k) j) < (0:Int))\/(((m.nx.length:Nat):Int)<=(aA (aA m.nx k) j)))\/((aA (aA m.ot k) j) < (0:Int)))\/((1048576:Int) < (aA (aA m.ot k) j))))/\H 1=(sA m)/\True) ?_ ?_
   . 
    by_cases g21:(((aA (aA m.nx k) j) < (0:Int))\/(((m.nx.length:Nat):Int)<=(aA (aA m.nx k) j)))\/((aA (aA m.ot k) j) < (0:Int))
    . 
     refine bW (bY g21 J)<|bW (bY g21 J)<|bV (bY g21 J) J ?_
     exact ⟨t1,t3,t4,t42,t43,t67,t68,(dZ g21),h1,trivial⟩
    . 
     refine aN (bX g21 J)<|aJ t7<|aN (bX g21 J)<|eD J J<|bT (bX g21 J) J ?_
     exact ⟨t1,t3,t4,t42,t43,t67,t68,(dX g21),h1,trivial⟩
   intro T H ⟨t1,t3,t4,t42,t43,t67,t68,t101,h1,_⟩;refine bR ?_;refine fN t101 (λc22=>?_) λc22=>?_
   . 
    refine aW<|aD<|bF<|y18 _ _<|p216 _ _<|y15 _ _<|y12 _ _<|p210 _ _<|y9 _ _ ?_
    refine aZ (aM<|iV 2)<|aF ?_
    . have e:xV m k=2:=by
        rw [hr,fV (by unfold aCw; split <;> omega) OM]; unfold aCw; split <;> omega
      rw [hc,fV OM OM,e]
   refine dH<|n18 _ _ (.done (eI<|cF t68<|aD ?_))
   refine p116 _ _ _ ?_ ⟨(j+1),J,t1,t3,t4,t42,t43,t67,(bL (cO<|j+1) JR),h1,?_,?_,?_⟩
   . omega
   . omega
   . omega
   . rw [hr,fW (by unfold aCw; split <;> omega) OM]
  refine aT<|p316 _ _ _<|x15 _ _<|n12 _ _ (.done (eI<|cF t43<|aD ?_))
  refine p110 _ _ _ ?_ ⟨(k+1),J,t1,t3,t42,(bL (cO<|k+1) JR),h1,?_,?_,?_⟩
  . omega
  . omega
  . omega
  . rw [hc,fW (by rw [hr,iM OM]) OM]
 refine aT<|p310 _ _ _<|x9 _ _ (.done (aW<|aD<|bF ?_))
 refine aZ (aM<|iV 0)<|aF ?_
 . rw [hc,iM OM]
theorem aGb (m:M) (s:Int):bK Tryz.prog 154 [(V.agg [(iV m.i),(iV m.s),(aC m.nx),(aC m.ot)]),(iV s)] (iV (stE m s)):=by
 refine' pK [] [] Tryz.func154 ?e λhB=>?_
 case e=>conv=>lhs; cbv
 dsimp only;refine aW<|bS (i:=2) (n:=0) (m:=4) (cs:=[(iV m.i),(iV m.s),(aC m.nx),(aC m.ot)]) J (cE J) J J J<|aD<|aO<|aV J J J J<|aI (qH m) J<|aD<|aO<|aP<|bP J J<|bR ?_
 refine aH J (λc1=>?_) λc1=>?_
 . 
  refine aO<|aP<|aD<|aK ?_
  refine aZ (aM<|iV<|eO m)<|aF ?_
  . rw [stE,if_pos OM]
 refine aB<|aO<|aP<|bZ J J<|aP ?_
 refine bU 6 (λT H=>T 19=(V.bool<|decide ((s < (0:Int))\/(((m.nx.length:Nat):Int)<=s)))/\H 2=(sA m)/\True) ?_ ?_
 . 
  by_cases g2:s < (0:Int)
  . 
   refine bW (bY g2 J)<|bW (bY g2 J)<|bW (bY g2 J)<|bW (bY g2 J)<|bW (bY g2 J)<|bV (bY g2 J) J ?_
   exact ⟨(dZ g2),J,trivial⟩
  . 
   refine aN (bX g2 J)<|aP<|aN (bX g2 J)<|cM J J<|aN (bX g2 J)<|aV J J J J<|aN (bX g2 J)<|bA J<|aN (bX g2 J)<|iC J J<|bT (bX g2 J) J ?_
   exact ⟨(dX g2),J,trivial⟩
 intro T H ⟨t19,h2,_⟩;refine bR ?_;refine aH t19 (λc3=>?_) λc3=>?_
 . 
  refine aO<|aD<|aK ?_
  refine aZ (aM<|iV 2)<|aF ?_
  . rw [stE,if_neg OM,if_pos OM]
 refine aB<|aW<|aD<|bF ?_
 refine aZ (aM<|iV 0)<|aF ?_
 . rw [stE,if_neg OM,if_neg OM]
theorem aIR (m:M) (s a:Int) (hs:0<=s/\s < m.nx.length/\m.ot.length=m.nx.length) (ha:0<=a/\a < (aA m.nx s.toNat).length/\a < (aA m.ot s.toNat).length):bK Tryz.prog 187 [(V.agg [(iV m.i),(iV m.s),(aC m.nx),(aC m.ot)]),(iV s),(iV a)] (V.tup [(iV (cell m.nx s a)),(iV (cell m.ot s a))]):=by
 refine' pK [] [] Tryz.func187 ?e λhB=>?_
 case e=>conv=>lhs; cbv
 dsimp only;refine aW<|bS (i:=3) (n:=0) (m:=4) (cs:=[(iV m.i),(iV m.s),(aC m.nx),(aC m.ot)]) J (cE J) J J J<|aP<|aD<|aW<|cM J J<|aX J J J J<|aP<|dR (i:=s) (aM<|aC m.nx) (aM<|iV s) OM OM J<|aL J J<|aP<|dR (i:=a) (aM<|aE<|aA m.nx s.toNat) (aM<|iV a) OM OM J<|aL J J<|cM J J ?_
 refine aX J J J J<|aP<|dR (i:=s) (aM<|aC m.ot) (aM<|iV s) OM OM J<|aL J J<|aP<|dR (i:=a) (aM<|aE<|aA m.ot s.toNat) (aM<|iV a) OM OM J<|aL J J<|aP<|aD<|bF ?_
 refine iW (aM<|iV<|aA (aA m.nx s.toNat) a.toNat) (aM<|iV<|aA (aA m.ot s.toNat) a.toNat) (aF ?_)<|aF ?_
 . rfl
 . rfl
theorem aQf (m:M) (s:Int) (w:List Int) (v1 v5:Nat) (Hi:bC) (hb:Hi 30=(bk v1 216 5 [[(iV m.i),(iV m.s),(aC m.nx),(aC m.ot),(iV s)]])) (h105:(Hi 105).ver=v5) (hm:eO m=0) (hs:0<=s/\s < m.nx.length) (hl:w.length<=1024) (hw: ∀ k,k < w.length->0<=aA w k/\aA w k < m.i):fA Tryz.prog 155 [(V.mp 30 v1 0 0),(aE w)] Hi (aE (aQ m s w)) (cX (cX Hi 105 (⟨v5+1+w.length,false,false,0,0,[]⟩:Blk)) 30 (bk v1 216 5 [[(iV m.i),(iV m.s),(aC m.nx),(aC m.ot),(iV (gR m s w))]])):=by
 refine' eK [5] [] (k0:=100) Tryz.func155 ?e λhB=>?_
 case e=>conv=>lhs; cbv
 dsimp only;refine aW<|aD<|aW<|gG (i:=105) (n:=v5) J h105<|tA<|aW<|aP<|bA J<|aD (aG λQ1 n1 x1 y1 z1=>?_)
 refine cC (λmm T H=> ∃ (k:Nat),mm=w.length - k/\T 0=(V.mp 30 v1 0 0)/\T 5=(V.ms 105 (v5+1+k) 0 k)/\T 10=(aE w)/\T 11=(iV ((w.length:Nat):Int))/\T 12=(iV ((k:Nat):Int))/\(∀ j,j∉[105,30]->H j=Hi j)/\H 30=(bk v1 216 5 [[(iV m.i),(iV m.s),(aC m.nx),(aC m.ot),(iV<|gR m s<|w.take k)]])/\H 105=(bz (v5+1+k) 3 1<|List.map cI<|aQ m s<|w.take k)/\(k<=w.length)) ?_ ?_
 . 
  refine ⟨_,0,J,J,(bL (aM<|V.ms 105 (v5+1) 0 0) JR),J,J,(bL (aM<|iV 0) J),(bG (λ_ _=>J) DE),(bL hb JR),(bL (@J Blk<|bz (v5+1) 3 1 []) JR),?_⟩
  . omega
 intro mm T H ⟨k,hmm,t0,t5,t10,t11,t12,hF,h30,h105,hk⟩ Q2 p12 p22 p32;refine aW<|bZ t12 t11<|bR ?_
 refine aH J (λc3=>?_) λc3=>?_
 . 
  have h1:=aKr hm hs hw (k:=k) OM;refine aB (aG λQ4 n4 x4 y4 z4=>(aW<|dA (i:=k) t10 t12<|aL J J<|aD<|aW<|aJ t0<|gK J h30 oB<|aX J h30 J J<|aJ t0<|gK J h30 oB<|aX J h30 J J ?_));refine aP<|aI (aIR m (gR m s<|w.take k) (aA w k) h1.1 h1.2) J<|aP<|bE J J<|bE J J<|aP<|aD<|aW<|aJ t0<|aP<|gK J h30 oB<|cM J h30<|bQ J J J h30 J J J J J<|bR<|eI ?_
  refine aJ t5<|aP<|aS J J<|eX (l:=(aQ m s<|w.take k)) (f:=cI) (x:=(cell m.ot (gR m s<|w.take k)<|aA w k)) (aM<|V.ms 105 (v5+1+k) 0 k) h105 (by (simp only [nY,List.length_take]; omega)) (aM<|V.sl [[(iV<|cell m.ot (gR m s<|w.take k)<|aA w k)]])<|aD<|n4 _ _ (.done (eI<|cF t12<|aD ?_))
  refine p12 _ _ _ ?_ ⟨(k+1),J,t0,(bL (aM<|V.ms 105 (v5+1+k+1) 0<|k+1) JR),t10,t11,(bL (cO<|k+1) JR),(bG (bG hF DE) DE),(bL (@J Blk<|bk v1 216 5 [[(iV m.i),(iV m.s),(aC m.nx),(aC m.ot),(iV<|cell m.nx (gR m s<|w.take k)<|aA w k)]]) (by (rw [aAh m s OM]))),(bL (@J Blk<|bz (v5+1+k+1) 3 1<|List.map cI<|aQ m s (w.take k)++[(cell m.ot (gR m s<|w.take k)<|aA w k)]) (by (rw [aAo m s OM]; rfl))),?_⟩
  . omega
  . omega
 refine aT<|p32 _ _ _<|x1 _ _ (.done (aW<|aJ t5<|aD<|bF<|eJ (R:=λT H=>T 4=(V.ms 105 (v5+1+k) 0 k)/\(∀ j,j∉[105,30]->H j=Hi j)/\H 30=(bk v1 216 5 [[(iV m.i),(iV m.s),(aC m.nx),(aC m.ot),(iV<|gR m s<|w.take k)]])/\H 105=(bz (v5+1+k) 3 1<|List.map cI<|aQ m s<|w.take k)/\True) ⟨(aM<|V.ms 105 (v5+1+k) 0 k),hF,h30,h105,trivial⟩ ?_))
 intro T H ⟨t4,hF,h30,h105,_⟩;have fh:=dK.fin<|dK.put (B:=(bk v1 216 5 [[(iV m.i),(iV m.s),(aC m.nx),(aC m.ot),(iV<|gR m s w)]])) (dK.putv (n:=(v5+1+k)) (B:=(⟨v5+1+w.length,false,false,0,0,[]⟩:Blk)) (dK.start hF) (cE h105) (by show _<=v5+1+w.length; omega) J) h30<|iZ.eq (by (have e:k=w.length:=OM; subst e; rw [List.take_length]; done))
 exact kU t4 fh<|eY.trans_eq (eY.frz (rows:=(List.map cI<|aQ m s<|w.take k)) fh (by simp [h105]) (by simp [h105]) J (by rw [h105]; exact nS (l:=(aQ m s<|w.take k)) (by (simp only [nY,List.length_take]; omega)))) (by (have e:k=w.length:=OM; subst e; rw [List.take_length]; done))
theorem aCW (m:M) (s:Int) (w:List Int):bK Tryz.prog 105 [(V.agg [(iV m.i),(iV m.s),(aC m.nx),(aC m.ot)]),(iV s),(aE w)] (V.tup [(aE (fG m s w)),(iV (nX m s w)),(iV (rK m s w))]):=by
 refine' pK [] [] Tryz.func105 ?e λhB=>?_
 case e=>conv=>lhs; cbv
 dsimp only;refine aW<|bS (i:=3) (n:=0) (m:=4) (cs:=[(iV m.i),(iV m.s),(aC m.nx),(aC m.ot)]) J (cE J) J J J<|aP<|aP<|aD<|aO<|aV J J J J<|aP<|aI (aGb m s) J<|aD<|aO<|aP ?_
 refine bP J J<|bR ?_
 refine aH J (λc1=>?_) λc1=>?_
 . 
  refine aO<|aP<|aP<|aP<|aD<|aK ?_
  refine iN (aM V.nilsl) (aM<|iV 0) (aM<|iV<|stE m s) (bH ?_) (aF ?_)<|aF ?_
  . rw [fG,if_pos (by rw [rK,if_pos OM]; omega)]
  . rw [nX,if_pos (by rw [rK,if_pos OM]; omega)]
  . rw [rK,if_pos OM]
 have hs:=aKh (m:=m) (s:=s) OM;refine aB<|aO<|aP<|aX J J J J<|aI (gL w m.i) J<|aD<|aO<|aP<|bP J J<|bR ?_
 refine aH J (λc2=>?_) λc2=>?_
 . 
  refine aO<|aP<|aP<|aP<|aD<|aK ?_
  refine iN (aM V.nilsl) (aM<|iV 0) (aM<|iV<|dG w m.i) (bH ?_) (aF ?_)<|aF ?_
  . rw [fG,if_pos (by rw [rK,if_neg OM]; omega)]
  . rw [nX,if_pos (by rw [rK,if_neg OM]; omega)]
  . rw [rK,if_neg OM]
 have hw:=eL (w:=w) (n:=m.i) OM;refine aB<|aW<|aV J J J J<|bN J J<|aP<|bN J J<|bS (i:=30) (n:=0) (m:=5) (cs:=[(iV m.i),(iV m.s),(aC m.nx),(aC m.ot),(iV s)]) J (cE J) J J J<|aD<|aW<|aP<|aP<|gA (bO J<|bO J dQ) (aQf m s w 1 0 _ J (cE J) hs.1 hs.2 hw.1 hw.2)<|aD<|aW ?_
 refine aP<|aP<|gK J J oB<|aX J J J J<|aP<|aP<|aD<|bF ?_
 refine iN (aM<|aE<|aQ m s w) (aM<|iV<|gR m s w) (aM<|iV 0) (cA ?_ (λ_=>by simp)) (aF ?_)<|aF ?_
 . rw [fG,if_neg (by rw [rK,if_neg OM]; omega)]
 . rw [nX,if_neg (by rw [rK,if_neg OM]; omega)]
 . rw [rK,if_neg OM]; omega
theorem aAF (h:Hy):bK Tryz.prog 56 [(V.agg [(iV h.m.i),(iV h.m.s),(aC h.m.nx),(aC h.m.ot),(aC h.acc)])] (iV (gY h)):=by
 refine' pK [] [] Tryz.func56 ?e λhB=>?_
 case e=>conv=>lhs; cbv
 dsimp only;refine aW<|bS (i:=1) (n:=0) (m:=5) (cs:=[(iV h.m.i),(iV h.m.s),(aC h.m.nx),(aC h.m.ot),(aC h.acc)]) J (cE J) J J J<|aD<|aO<|aX J J J J<|aI (qH h.m) J<|aD<|aO<|aP<|bP J J<|bR ?_
 refine aH J (λc1=>?_) λc1=>?_
 . 
  refine aO<|aP<|aD<|aK ?_
  refine aZ (aM<|iV<|eO h.m)<|aF ?_
  . rw [gY,if_pos OM]
 have hm:=gW (m:=h.m) OM;refine aB<|aO<|aX J J J J<|bA J<|cM J J<|aX J J J J<|bA J<|bP J J<|bR ?_
 refine aH J (λc2=>?_) λc2=>?_
 . 
  refine aO<|aD<|aK ?_
  refine aZ (aM<|iV 1)<|aF ?_
  . rw [gY,if_neg OM,if_pos OM]
 refine aB<|aO<|aX J J J J<|bA J<|aD (aG λQ3 n3 x3 y3 z3=>?_)
 refine cC (λmm T H=> ∃ (k:Nat),mm=h.acc.length - k/\T 1=(cG 1)/\T 24=(aC h.acc)/\T 25=(iV ((h.acc.length:Nat):Int))/\T 26=(iV ((k:Nat):Int))/\H 1=(bk 1 28 5 [[(iV h.m.i),(iV h.m.s),(aC h.m.nx),(aC h.m.ot),(aC h.acc)]])/\(k<=h.acc.length)/\(eO h.m=0)/\(h.acc.length=h.m.nx.length)/\(0<=h.m.s/\h.m.s < h.m.nx.length/\h.m.nx.length<=128)/\(fe (mY h) 0 h.acc.length=fe (mY h) k (h.acc.length - k))) ?_ ?_
 . 
  refine ⟨_,0,J,J,J,J,(bL (aM<|iV 0) J),J,?_,?_,?_,?_,?_⟩
  . omega
  . omega
  . omega
  . omega
  . rfl
 intro mm T H ⟨k,hmm,t1,t24,t25,t26,h1,hk,hv,hl,hs,hc⟩ Q4 p14 p24 p34;refine aW<|bZ t26 t25<|bR ?_
 refine aH J (λc5=>?_) λc5=>?_
 . 
  refine aB (aG λQ6 n6 x6 y6 z6=>(aW<|aJ t26<|dA (i:=k) t24 t26<|aL J J<|aP<|aD<|aW<|aX t1 h1 J J<|cM t1 h1<|aX J h1 J J<|aP ?_));refine aI (aCW h.m h.m.s<|aA h.acc k) J<|aP<|bE J J<|bE J J<|bE J J<|aP<|aP<|aD<|aO<|aP<|bP J J<|bR ?_
  refine aH J (λc7=>?_) λc7=>?_
  . 
   refine aO<|aP<|aD<|aK<|y6 _ _<|p24 _ _<|y3 _ _ ?_
   refine aZ (aM<|iV<|rK h.m h.m.s<|aA h.acc k)<|aF ?_
   . have e:=aEh hv k
     rw [if_pos OM] at e;have e2:fe (mY h) 0 h.acc.length=mY h k:=by rw [hc]; exact fV OM OM
     rw [gY,if_neg OM,if_neg OM,if_pos OM]; omega
  refine aB<|aW<|aP<|aP<|bP J J<|bR ?_
  refine fN J (λc8=>?_) λc8=>?_
  . 
   refine aW<|aD<|bF<|y6 _ _<|p24 _ _<|y3 _ _ ?_
   refine aZ (aM<|iV 15)<|aF ?_
   . have e:=aEh hv k
     rw [if_neg OM,if_pos OM] at e;have e2:fe (mY h) 0 h.acc.length=mY h k:=by rw [hc]; exact fV OM OM
     rw [gY,if_neg OM,if_neg OM,if_pos OM]; omega
  refine dH<|n6 _ _ (.done (eI<|cF t26<|aD ?_))
  refine p14 _ _ _ ?_ ⟨(k+1),J,t1,t24,t25,(bL (cO<|k+1) JR),h1,?_,?_,?_,?_,?_⟩
  . omega
  . omega
  . omega
  . omega
  . omega
  . have e:=aEh hv k
    rw [if_neg OM,if_neg OM] at e;rw [hc]; exact fW e OM
 refine aT<|p34 _ _ _<|x3 _ _ (.done (aO<|aX t1 h1 J J<|cM t1 h1<|aX J h1 J J<|dR (i:=h.m.s) (aM<|aC h.acc) (aM<|iV h.m.s) OM OM J<|aL J J<|bA J<|bP J J<|bR ?_))
 refine aH J (λc9=>?_) λc9=>?_
 . 
  refine aO<|aD<|aK ?_
  refine aZ (aM<|iV 10)<|aF ?_
  . have e2:fe (mY h) 0 h.acc.length=0:=by rw [hc,iM OM]
    rw [gY,if_neg OM,if_neg OM,if_neg OM,if_pos OM]
 refine aB<|aW<|aD<|bF ?_
 refine aZ (aM<|iV 0)<|aF ?_
 . have e2:fe (mY h) 0 h.acc.length=0:=by rw [hc,iM OM]
   rw [gY,if_neg OM,if_neg OM,if_neg OM,if_neg OM]
theorem aCO (l:Ts) (o:Ob) (hb:Bd l.t) (ho:kS o=0) (hx:(dD l).length<=5000):bK Tryz.prog 21 [(V.agg [(iV l.i),(V.sl (List.map cN l.t.nd))]),(V.agg [(iV o.i),(V.sl (List.map cT o.tr))])] (V.tup [(V.agg [(iV ((iH l o).m.i)),(iV ((iH l o).m.s)),(aC ((iH l o).m.nx)),(aC ((iH l o).m.ot)),(aC ((iH l o).acc))]),(iV (wQ l o))]):=by
 refine' pK [14,15] [] Tryz.func21 ?e λhB=>?_
 case e=>conv=>lhs; cbv
 dsimp only;have hal:=jS l.t.nd;have hxn:=aHr l o;have hxl:=vE l

 refine aW<|bS (i:=2) (n:=0) (m:=2) (cs:=[(iV l.i),(V.sl<|List.map cN l.t.nd)]) J (cE J) J J J<|bS (i:=3) (n:=0) (m:=2) (cs:=[(iV o.i),(V.sl<|List.map cT o.tr)]) J (cE J) J J J<|bM (i:=4) (n:=0) (m:=5) J (cE J) J<|aD<|aW<|aV J J J J<|aV J J J J<|bN J J<|bM (i:=6) (n:=0) (m:=4) J (cE J) J<|dU (vs:=[(iV l.i),(V.sl<|List.map cN l.t.nd),(iV o.i),(V.sl<|List.map cT o.tr)]) (B':=(bk 1 66 4 [[(iV l.i),(V.sl<|List.map cN l.t.nd),(iV o.i),(V.sl<|List.map cT o.tr)]])) J J J J (sB oB J J J J J)<|tA<|aW<|aV J J J J ?_
 refine aI (uJ l o hb) J<|aD<|aO<|aP<|bP J J<|bR ?_
 refine aH J (λc1=>?_) λc1=>?_
 . 
  have za:=c1;refine aO<|bN J J<|aP<|dU (vs:=[(iV 0),(iV 0),V.nilsl,V.nilsl,V.nilsl]) (B':=(bk 1 28 5 [[(iV 0),(iV 0),V.nilsl,V.nilsl,V.nilsl]])) J J J J (sB oB J J J J J)<|aD<|aK ?_
  refine dJ (bI (u:=(V.agg [(iV 0),(iV 0),V.nilsl,V.nilsl,V.nilsl])) J (@J Blk<|bk 1 28 5 [[(iV 0),(iV 0),V.nilsl,V.nilsl,V.nilsl]])<|lB oB J J) (aY<|aM<|iV<|jL l o) (fH (aF ?_) (aF ?_) (bH ?_) (bH ?_)<|bH ?_)<|aF ?_
  . try rw [jR za]
    try rw [dO (by rw [jR za]; exact za)]
    try rfl
  . try rw [jR za]
    try rw [dO (by rw [jR za]; exact za)]
    try rfl
  . try rw [jR za]
    try rw [dO (by rw [jR za]; exact za)]
    try rfl
  . try rw [jR za]
    try rw [dO (by rw [jR za]; exact za)]
    try rfl
  . try rw [jR za]
    try rw [dO (by rw [jR za]; exact za)]
    try rfl
  . try rw [jR za]
    try rw [dO (by rw [jR za]; exact za)]
    try rfl
 have za:=c1;have ht:=aBV (show jL l o=0 by omega);obtain ⟨hi1,hi2,hv,hw0,_,hl0⟩:=tL ht.1;have hbn:=hb.n;have hll:=oZ hv;have hlv:fU l.t=(if gU l.t=0 then fB (eP l.t.nd) else []):=J;refine aB<|aW<|aV J J J J<|aI (aBr l o hb ht.1 ho hx) J<|aP<|bE J J<|bE J J<|bE J J<|aP<|aP<|aD<|aO<|aP<|bP J J ?_
 refine bR ?_;refine aH J (λc2=>?_) λc2=>?_
 . 
  have zb:=c2;refine aO<|bN J J<|aP<|dU (vs:=[(iV 0),(iV 0),V.nilsl,V.nilsl,V.nilsl]) (B':=(bk 1 28 5 [[(iV 0),(iV 0),V.nilsl,V.nilsl,V.nilsl]])) J J J J (sB oB J J J J J)<|aD<|aK ?_
  refine dJ (bI (u:=(V.agg [(iV 0),(iV 0),V.nilsl,V.nilsl,V.nilsl])) J (@J Blk<|bk 1 28 5 [[(iV 0),(iV 0),V.nilsl,V.nilsl,V.nilsl]])<|lB oB J J) (aY<|aM<|iV<|lE l o) (fH (aF ?_) (aF ?_) (bH ?_) (bH ?_)<|bH ?_)<|aF ?_
  . try rw [jQ za zb]
    try rw [dO (by rw [jQ za zb]; exact zb)]
    try rfl
  . try rw [jQ za zb]
    try rw [dO (by rw [jQ za zb]; exact zb)]
    try rfl
  . try rw [jQ za zb]
    try rw [dO (by rw [jQ za zb]; exact zb)]
    try rfl
  . try rw [jQ za zb]
    try rw [dO (by rw [jQ za zb]; exact zb)]
    try rfl
  . try rw [jQ za zb]
    try rw [dO (by rw [jQ za zb]; exact zb)]
    try rfl
  . try rw [jQ za zb]
    try rw [dO (by rw [jQ za zb]; exact zb)]
    try rfl
 have zb:=c2;refine aB<|aO<|aP<|bA J<|eD J J<|bR ?_
 refine aH J (λc3=>?_) λc3=>?_
 . 
  have zc:0 < (oD<|rD l o).length:=by have q:=c3; rw [if_pos (show lE l o=0 by omega)] at q; omega
  refine aO<|bN J J<|dU (vs:=[(iV 0),(iV 0),V.nilsl,V.nilsl,V.nilsl]) (B':=(bk 1 28 5 [[(iV 0),(iV 0),V.nilsl,V.nilsl,V.nilsl]])) J J J J (sB oB J J J J J)<|aD<|aK ?_
  refine dJ (bI (u:=(V.agg [(iV 0),(iV 0),V.nilsl,V.nilsl,V.nilsl])) J (@J Blk<|bk 1 28 5 [[(iV 0),(iV 0),V.nilsl,V.nilsl,V.nilsl]])<|lB oB J J) (aY<|aM<|iV 12) (fH (aF ?_) (aF ?_) (bH ?_) (bH ?_)<|bH ?_)<|aF ?_
  . try rw [jP za zb zc]
    try rw [dO (by rw [jP za zb zc]; decide)]
    try rfl
  . try rw [jP za zb zc]
    try rw [dO (by rw [jP za zb zc]; decide)]
    try rfl
  . try rw [jP za zb zc]
    try rw [dO (by rw [jP za zb zc]; decide)]
    try rfl
  . try rw [jP za zb zc]
    try rw [dO (by rw [jP za zb zc]; decide)]
    try rfl
  . try rw [jP za zb zc]
    try rw [dO (by rw [jP za zb zc]; decide)]
    try rfl
  . try rw [jP za zb zc]
    try rw [dO (by rw [jP za zb zc]; decide)]
    try rfl
 have zc: ¬0 < (oD<|rD l o).length:=by have q:=c3; rw [if_pos (show lE l o=0 by omega)] at q; omega
 refine aB<|aW<|aX J J J J<|aI (oV l.t hb) J<|aD<|aW<|aX J J J J<|bN J J<|aP<|bN J J<|bM (i:=12) (n:=0) (m:=5) J (cE J) J<|dU (vs:=[(iV l.i),(iV 0),V.nilsl,V.nilsl,(aC (if gU l.t=0 then fB (eP l.t.nd) else []))]) (B':=(bk 1 28 5 [[(iV l.i),(iV 0),V.nilsl,V.nilsl,(aC (if gU l.t=0 then fB (eP l.t.nd) else []))]])) J J J J (sB oB J J J J J)<|bR ?_
 refine cS ?_;refine aH4 (λT H=>T 2=(cG 2)/\T 4=(cG 4)/\T 6=(cG 6)/\T 8=(V.sl<|List.map cXt (if lE l o=0 then iX l o else []))/\T 11=(aC (if gU l.t=0 then fB (eP l.t.nd) else []))/\T 12=(cG 12)/\T 51=(iV (((if gU l.t=0 then fB (eP l.t.nd) else []).length:Nat):Int))/\T 52=(iV 0)/\H 2=(bk 1 49 2 [[(iV l.i),(V.sl<|List.map cN l.t.nd)]])/\H 3=(bk 1 31 2 [[(iV o.i),(V.sl<|List.map cT o.tr)]])/\H 4=(bk 1 28 5 [[(iV 0),(iV 0),V.nilsl,V.nilsl,V.nilsl]])/\H 6=(bk 1 66 4 [[(iV l.i),(V.sl<|List.map cN l.t.nd),(iV o.i),(V.sl<|List.map cT o.tr)]])/\H 12=(bk 1 28 5 [[(iV l.i),(iV 0),V.nilsl,V.nilsl,(aC (if gU l.t=0 then fB (eP l.t.nd) else []))]])/\H 14=fL/\H 15=fL/\H 17=fL/\H 18=fL/\H 812=fL/\H 813=fL/\True) ?_ ?_
 . 
  refine aP<|bA J<|aP ?_
  exact eS ⟨J,J,J,J,J,J,J,J,J,J,J,J,J,J,J,J,J,J,J,trivial⟩
 intro T H ⟨t2,t4,t6,t8,t11,t12,t51,t52,h2,h3,h4,h6,h12,h14,h15,h17,h18,h812,h813,_⟩;refine .lazyCell 812 54 1 12 0 2 [(iV l.i),(iV 0),V.nilsl,V.nilsl,(aC (if gU l.t=0 then fB (eP l.t.nd) else []))] DE (by rw [h12]; rfl) (by rw [h12]; rfl) J (eJ (R:=λT H=>T 2=(cG 2)/\T 4=(cG 4)/\T 6=(cG 6)/\T 8=(V.sl<|List.map cXt (if lE l o=0 then iX l o else []))/\T 11=(aC (if gU l.t=0 then fB (eP l.t.nd) else []))/\T 12=(cG 12)/\T 51=(iV (((if gU l.t=0 then fB (eP l.t.nd) else []).length:Nat):Int))/\T 52=(iV 0)/\H 2=(bk 1 49 2 [[(iV l.i),(V.sl<|List.map cN l.t.nd)]])/\H 3=(bk 1 31 2 [[(iV o.i),(V.sl<|List.map cT o.tr)]])/\H 4=(bk 1 28 5 [[(iV 0),(iV 0),V.nilsl,V.nilsl,V.nilsl]])/\H 6=(bk 1 66 4 [[(iV l.i),(V.sl<|List.map cN l.t.nd),(iV o.i),(V.sl<|List.map cT o.tr)]])/\H 12=(bk 1 28 5 [[(iV l.i),(iV 0),(V.ms 812 1 0 0),V.nilsl,(aC (if gU l.t=0 then fB (eP l.t.nd) else []))]])/\H 14=fL/\H 15=fL/\H 17=fL/\H 18=fL/\H 812=(bz 1 54 1 [])/\H 813=fL/\True) ⟨t2,t4,t6,t8,t11,t12,t51,t52,(gB<|gB h2),(gB<|gB h3),(gB<|gB h4),(gB<|gB h6),(by rw [aU,h12,(cE h812)]; rfl),(gB<|gB h14),(gB<|gB h15),(gB<|gB h17),(gB<|gB h18),(by rw [cD _ _ DE,aU,(cE h812)]),(gB<|gB h813),trivial⟩ ?_);intro T H ⟨t2,t4,t6,t8,t11,t12,t51,t52,h2,h3,h4,h6,h12,h14,h15,h17,h18,h812,h813,_⟩;refine .lazyCell 813 54 1 12 0 3 [(iV l.i),(iV 0),(V.ms 812 1 0 0),V.nilsl,(aC (if gU l.t=0 then fB (eP l.t.nd) else []))] DE (by rw [h12]; rfl) (by rw [h12]; rfl) J (.done ?_);refine eJ (R:=λT H=>T 2=(cG 2)/\T 4=(cG 4)/\T 6=(cG 6)/\T 8=(V.sl<|List.map cXt (if lE l o=0 then iX l o else []))/\T 11=(aC (if gU l.t=0 then fB (eP l.t.nd) else []))/\T 12=(cG 12)/\T 51=(iV (((if gU l.t=0 then fB (eP l.t.nd) else []).length:Nat):Int))/\T 52=(iV 0)/\H 2=(bk 1 49 2 [[(iV l.i),(V.sl<|List.map cN l.t.nd)]])/\H 3=(bk 1 31 2 [[(iV o.i),(V.sl<|List.map cT o.tr)]])/\H 4=(bk 1 28 5 [[(iV 0),(iV 0),V.nilsl,V.nilsl,V.nilsl]])/\H 6=(bk 1 66 4 [[(iV l.i),(V.sl<|List.map cN l.t.nd),(iV o.i),(V.sl<|List.map cT o.tr)]])/\H 12=(bk 1 28 5 [[(iV l.i),(iV 0),(V.ms 812 1 0 0),(V.ms 813 1 0 0),(aC (if gU l.t=0 then fB (eP l.t.nd) else []))]])/\H 14=fL/\H 15=fL/\H 17=fL/\H 18=fL/\H 812=(bz 1 54 1 [])/\H 813=(bz 1 54 1 [])/\True) ⟨t2,t4,t6,t8,t11,t12,t51,t52,(gB<|gB h2),(gB<|gB h3),(gB<|gB h4),(gB<|gB h6),(by rw [aU,h12,(cE h813)]; rfl),(gB<|gB h14),(gB<|gB h15),(gB<|gB h17),(gB<|gB h18),(gB<|gB h812),(by rw [cD _ _ DE,aU,(cE h813)]),trivial⟩ ?_
 intro T H ⟨t2,t4,t6,t8,t11,t12,t51,t52,h2,h3,h4,h6,h12,h14,h15,h17,h18,h812,h813,_⟩;refine aG λQ4 n4 x4 y4 z4=>?_;refine cC (λmm T H=> ∃ (k:Nat) (v:Nat) (w:Nat) (v14:Nat) (v15:Nat) (v17:Nat) (v18:Nat),mm=(fU l.t).length - k/\T 2=(cG 2)/\T 4=(cG 4)/\T 6=(cG 6)/\T 8=(V.sl<|List.map cXt<|iX l o)/\T 11=(aC<|fU l.t)/\T 12=(cG 12)/\T 51=(iV (((fU l.t).length:Nat):Int))/\T 52=(iV ((k:Nat):Int))/\H 2=(bk 1 49 2 [[(iV l.i),(V.sl<|List.map cN l.t.nd)]])/\H 3=(bk 1 31 2 [[(iV o.i),(V.sl<|List.map cT o.tr)]])/\H 4=(bk 1 28 5 [[(iV 0),(iV 0),V.nilsl,V.nilsl,V.nilsl]])/\H 6=(bk 1 66 4 [[(iV l.i),(V.sl<|List.map cN l.t.nd),(iV o.i),(V.sl<|List.map cT o.tr)]])/\H 12=(bk 1 28 5 [[(iV l.i),(iV 0),(V.ms 812 v 0 k),(V.ms 813 w 0 k),(aC<|fU l.t)]])/\((H 14).ver=v14/\(H 14).live=false)/\((H 15).ver=v15/\(H 15).live=false)/\(H 17).ver=v17/\(H 18).ver=v18/\H 812=(bz v 54 1<|List.map cL<|iO (gV (wH l o) l.i.toNat) k)/\H 813=(bz w 54 1<|List.map cL<|iO (gV (pY l o) l.i.toNat) k)/\(k<=(fU l.t).length)/\(qF l o=fi (wC l o) (k*l.i.toNat) ((dD l).length - k*l.i.toNat))) ?_ ?_
 . 
  refine ⟨_,0,1,1,0,0,0,0,J,t2,t4,t6,(bL t8 (by (rw [if_pos (show lE l o=0 by omega)]; done))),(bL t11 JR),t12,(bL t51 JR),(bL t52 J),h2,h3,h4,h6,(bL h12 JR),⟨(cE h14),congrArg Blk.live h14⟩,⟨(cE h15),congrArg Blk.live h15⟩,(cE h17),(cE h18),(bL h812 JR),(bL h813 JR),?_,?_⟩
  . omega
  . simp [qF]
 intro mm T H ⟨k,v,w,v14,v15,v17,v18,hmm,t2,t4,t6,t8,t11,t12,t51,t52,h2,h3,h4,h6,h12,h14,h15,h17,h18,h812,h813,hk,hc⟩ Q5 p15 p25 p35;refine aW<|bZ t52 t51<|bR ?_
 refine aH J (λc6=>?_) λc6=>?_
 . 
  have hM1:=aMP (show (0:Int)<=l.i by omega) k;have hM2:=aMP (show (0:Int)<=l.i by omega)<|k+1
  have hM3:(k+1)*l.i.toNat=k*l.i.toNat+l.i.toNat:=Nat.succ_mul _ _;have hM4:(k+1)*l.i.toNat<=(fU l.t).length*l.i.toNat:=Nat.mul_le_mul_right _ OM;refine aB (aG λQ7 n7 x7 y7 z7=>(aW<|aJ t52<|aD<|aW<|gG (i:=14) (n:=v14) J h14.1<|gG (i:=15) (n:=v15) J h15.1<|tA<|aW<|aJ t8<|aP<|aX t2 h2 J J ?_));refine aOr J J OM OM<|aP<|cF J<|aX t2 h2 J J<|aOr J J OM OM<|aF8 (m:=((((k:Nat):Int)*l.i).toNat)) (n:=((((k+1:Nat):Int)*l.i).toNat)) (aM<|V.sl<|List.map cXt<|iX l o) (bL (aM<|iV<|((k:Nat):Int)*l.i)<|sC OM) (bL (aM<|iV<|((k+1:Nat):Int)*l.i)<|sC OM) OM OM (λ_=>J)<|bA J<|aD (aG λQ8 n8 x8 y8 z8=>?_)
  refine cC (λmm T H=> ∃ (j:Nat) (v2:Nat) (w2:Nat) (v17:Nat) (v18:Nat),mm=l.i.toNat - j/\T 2=(cG 2)/\T 4=(cG 4)/\T 6=(cG 6)/\T 8=(V.sl<|List.map cXt<|iX l o)/\T 11=(aC<|fU l.t)/\T 12=(cG 12)/\T 14=(V.ms 14 v2 0 j)/\T 15=(V.ms 15 w2 0 j)/\T 51=(iV (((fU l.t).length:Nat):Int))/\T 52=(iV ((k:Nat):Int))/\T 65=(V.sl<|List.map cXt<|(List.take ((k+1)*l.i.toNat)<|iX l o).drop (k*l.i.toNat))/\T 66=(iV ((l.i.toNat:Nat):Int))/\T 67=(iV ((j:Nat):Int))/\H 2=(bk 1 49 2 [[(iV l.i),(V.sl<|List.map cN l.t.nd)]])/\H 3=(bk 1 31 2 [[(iV o.i),(V.sl<|List.map cT o.tr)]])/\H 4=(bk 1 28 5 [[(iV 0),(iV 0),V.nilsl,V.nilsl,V.nilsl]])/\H 6=(bk 1 66 4 [[(iV l.i),(V.sl<|List.map cN l.t.nd),(iV o.i),(V.sl<|List.map cT o.tr)]])/\H 12=(bk 1 28 5 [[(iV l.i),(iV 0),(V.ms 812 v 0 k),(V.ms 813 w 0 k),(aC<|fU l.t)]])/\H 14=(bz v2 3 1<|List.map cI<|iO (λa=>wH l o<|k*l.i.toNat+a) j)/\H 15=(bz w2 3 1<|List.map cI<|iO (λa=>pY l o<|k*l.i.toNat+a) j)/\(H 17).ver=v17/\(H 18).ver=v18/\H 812=(bz v 54 1<|List.map cL<|iO (gV (wH l o) l.i.toNat) k)/\H 813=(bz w 54 1<|List.map cL<|iO (gV (pY l o) l.i.toNat) k)/\(j<=l.i.toNat)/\(qF l o=fi (wC l o) (k*l.i.toNat+j) ((dD l).length - (k*l.i.toNat+j)))) ?_ ?_
  . 
   refine ⟨_,0,(v14+1),(v15+1),v17,v18,J,t2,t4,t6,t8,t11,t12,(bL (aM<|V.ms 14 (v14+1) 0 0) JR),(bL (aM<|V.ms 15 (v15+1) 0 0) JR),t51,t52,(bL (aM<|V.sl<|List.map cXt<|(List.take ((((k+1:Nat):Int)*l.i).toNat)<|iX l o).drop ((((k:Nat):Int)*l.i).toNat)) (by (rw [hM1,hM2,Int.toNat_natCast,Int.toNat_natCast]; done))),(bL (aM<|iV ((((List.take ((((k+1:Nat):Int)*l.i).toNat)<|iX l o).drop ((((k:Nat):Int)*l.i).toNat)).length:Nat):Int)) (by (rw [hM1,hM2,Int.toNat_natCast,Int.toNat_natCast,List.length_drop,List.length_take,hxn,hxl]; congr 1; omega))),(bL (aM<|iV 0) J),h2,h3,h4,h6,h12,(bL (@J Blk<|bz (v14+1) 3 1 []) JR),(bL (@J Blk<|bz (v15+1) 3 1 []) JR),h17,h18,h812,h813,?_,?_⟩
   . omega
   . exact hc
  intro mm T H ⟨j,v2,w2,v17,v18,hmm,t2,t4,t6,t8,t11,t12,t14,t15,t51,t52,t65,t66,t67,h2,h3,h4,h6,h12,h14,h15,h17,h18,h812,h813,hj,hc2⟩ Q9 p19 p29 p39;refine aW<|bZ t67 t66<|bR ?_
  refine aH J (λc10=>?_) λc10=>?_
  . 
   have hnd:=aBd za zb zc (show k*l.i.toNat+j < (dD l).length by omega);have hkn:=aCE zc (show k*l.i.toNat+j < (dD l).length by omega);have r1:=pL ht.1<|cW (show k*l.i.toNat+j < (dD l).length by omega)
   have d9:aA ((List.take ((k+1)*l.i.toNat)<|iX l o).drop (k*l.i.toNat)) j=⟨aA (dD l) (k*l.i.toNat+j),(bJ l.t o<|aA (dD l)<|k*l.i.toNat+j).1⟩:=by rw [rX,lA OM]; exact aHV OM
   have d10:=aIg ho r1.2.1 hkn;refine aB (aG λQ11 n11 x11 y11 z11=>(aW<|aCX (i:=j) t65 t67 (by (simp; omega)) J<|aL J J<|bM (i:=17) (n:=v17) (m:=2) J h17 J<|dU (vs:=[(aE<|(aA ((List.take ((k+1)*l.i.toNat)<|iX l o).drop (k*l.i.toNat)) j).w),(iV<|(aA ((List.take ((k+1)*l.i.toNat)<|iX l o).drop (k*l.i.toNat)) j).n)]) (B':=(bk (v17+1) 101 2 [[(aE<|(aA ((List.take ((k+1)*l.i.toNat)<|iX l o).drop (k*l.i.toNat)) j).w),(iV<|(aA ((List.take ((k+1)*l.i.toNat)<|iX l o).drop (k*l.i.toNat)) j).n)]])) J J J J (sB oB J J J J J)<|tA<|aW<|aV t6 h6 J J<|aX J J J J<|aI (xB l o ((aA ((List.take ((k+1)*l.i.toNat)<|iX l o).drop (k*l.i.toNat)) j).n) (by simp only [d9]; exact hnd.2.1) (by simp only [d9]; exact hnd.2.2.1)) J<|fF J<|bR ?_));refine cU J (λc12=>?_) (λc12=>?_)
   . 
    have d0:(aA l.t.nd (bJ l.t o<|aA (dD l)<|k*l.i.toNat+j).1.toNat).lf=false:=by have q:=c12; rw [d9] at q; simpa using q
    have d1:wC l o (k*l.i.toNat+j)=true:=by unfold wC; simpa using d0
    have zd:0<=qF l o:=by rw [hc2,mI (p:=wC l o) d1 OM]; omega
    refine aO<|bN J J<|dU (vs:=[(iV 0),(iV 0),V.nilsl,V.nilsl,V.nilsl]) (B':=(bk 1 28 5 [[(iV 0),(iV 0),V.nilsl,V.nilsl,V.nilsl]])) t4 J J h4 (sB oB J J J J J)<|aD<|aK<|y11 _ _<|p29 _ _<|y8 _ _<|y7 _ _<|p25 _ _<|y4 _ _ ?_
    refine dJ (bI (u:=(V.agg [(iV 0),(iV 0),V.nilsl,V.nilsl,V.nilsl])) t4 (@J Blk<|bk 1 28 5 [[(iV 0),(iV 0),V.nilsl,V.nilsl,V.nilsl]])<|lB oB J J) (aY<|aM<|iV 10) (fH (aF ?_) (aF ?_) (bH ?_) (bH ?_)<|bH ?_)<|aF ?_
    . try rw [jU za zb zc zd]
      try rw [dO (by rw [jU za zb zc zd]; decide)]
      try rfl
    . try rw [jU za zb zc zd]
      try rw [dO (by rw [jU za zb zc zd]; decide)]
      try rfl
    . try rw [jU za zb zc zd]
      try rw [dO (by rw [jU za zb zc zd]; decide)]
      try rfl
    . try rw [jU za zb zc zd]
      try rw [dO (by rw [jU za zb zc zd]; decide)]
      try rfl
    . try rw [jU za zb zc zd]
      try rw [dO (by rw [jU za zb zc zd]; decide)]
      try rfl
    . try rw [jU za zb zc zd]
      try rw [dO (by rw [jU za zb zc zd]; decide)]
      try rfl
   have d1:wC l o (k*l.i.toNat+j)=false:=by have q:=c12; rw [d9] at q; unfold wC; simpa using q
   refine aB<|aW<|cM t2 h2<|aX J h2 J J<|aX J J J J<|dR (i:=((aA ((List.take ((k+1)*l.i.toNat)<|iX l o).drop (k*l.i.toNat)) j).n)) (aM<|V.sl<|List.map cN l.t.nd) (aM<|iV<|(aA ((List.take ((k+1)*l.i.toNat)<|iX l o).drop (k*l.i.toNat)) j).n) (by (simp only [d9]; omega)) (by (simp only [d9]; omega)) J<|dB (cs':=(List.drop 1<|cN<|aA l.t.nd ((aA ((List.take ((k+1)*l.i.toNat)<|iX l o).drop (k*l.i.toNat)) j).n).toNat)) J J<|aL J J<|bM (i:=18) (n:=v18) (m:=1) J h18 J<|dU (vs:=[(aE<|(aA l.t.nd ((aA ((List.take ((k+1)*l.i.toNat)<|iX l o).drop (k*l.i.toNat)) j).n).toNat).ac)]) (B':=(bk (v18+1) 54 1 [[(aE<|(aA l.t.nd ((aA ((List.take ((k+1)*l.i.toNat)<|iX l o).drop (k*l.i.toNat)) j).n).toNat).ac)]])) J J J J (sB oB J J J J J)<|qV<|aJ t14<|aJ t11 ?_
   refine yG (bO J dQ)<|jN (bO (aM<|aC<|fU l.t)<|bO (aM<|V.fn 54 [] [(V.mp 18 (v18+1) 0 0)]) dQ) (aCC (λv=>decide (v=hyA l o (k*l.i.toNat+j))) (fU l.t) 54 ([(V.pp [(aE<|(aA l.t.nd ((aA ((List.take ((k+1)*l.i.toNat)<|iX l o).drop (k*l.i.toNat)) j).n).toNat).ac)])]) SI SI (λi _=>by have q:=aFV (aA (fU l.t) i)<|hyA l o<|k*l.i.toNat+j; unfold hyA at q ⊢; simpa only [d9] using q)) (cZ (dM 6 _ (by simp [-List.map_take,-List.map_drop,-List.map_append,-List.map_reverse]))<|cZ (aDK (@J Blk<|bk (v18+1) 54 1 [[(aE<|(aA l.t.nd ((aA ((List.take ((k+1)*l.i.toNat)<|iX l o).drop (k*l.i.toNat)) j).n).toNat).ac)]]) (by simp [-List.map_take,-List.map_drop,-List.map_append,-List.map_reverse])) J) (by simp [-List.map_take,-List.map_drop,-List.map_append,-List.map_reverse]) (Or.inr J)<|aS J J<|eX (l:=(iO (λa=>wH l o<|k*l.i.toNat+a) j)) (f:=cI) (x:=(fi (λjx=>(λv=>decide (v=hyA l o (k*l.i.toNat+j))) (aA (fU l.t) jx)) 0 (fU l.t).length)) (aM<|V.ms 14 v2 0 j) h14 (by exact (fO _ _).symm) (aM<|V.sl [[(iV<|fi (λjx=>(λv=>decide (v=hyA l o (k*l.i.toNat+j))) (aA (fU l.t) jx)) 0 (fU l.t).length)]])<|aD ?_
   refine tX (λT H=>T 2=(cG 2)/\T 4=(cG 4)/\T 6=(cG 6)/\T 8=(V.sl<|List.map cXt<|iX l o)/\T 11=(aC<|fU l.t)/\T 12=(cG 12)/\T 14=(V.ms 14 (v2+1) 0<|j+1)/\T 15=(V.ms 15 (w2+1) 0<|j+1)/\T 51=(iV (((fU l.t).length:Nat):Int))/\T 52=(iV ((k:Nat):Int))/\T 65=(V.sl<|List.map cXt<|(List.take ((k+1)*l.i.toNat)<|iX l o).drop (k*l.i.toNat))/\T 66=(iV ((l.i.toNat:Nat):Int))/\T 67=(iV ((j:Nat):Int))/\H 2=(bk 1 49 2 [[(iV l.i),(V.sl<|List.map cN l.t.nd)]])/\H 3=(bk 1 31 2 [[(iV o.i),(V.sl<|List.map cT o.tr)]])/\H 4=(bk 1 28 5 [[(iV 0),(iV 0),V.nilsl,V.nilsl,V.nilsl]])/\H 6=(bk 1 66 4 [[(iV l.i),(V.sl<|List.map cN l.t.nd),(iV o.i),(V.sl<|List.map cT o.tr)]])/\H 12=(bk 1 28 5 [[(iV l.i),(iV 0),(V.ms 812 v 0 k),(V.ms 813 w 0 k),(aC<|fU l.t)]])/\H 14=(bz (v2+1) 3 1<|List.map cI<|iO (λa=>wH l o<|k*l.i.toNat+a) j++[(fi (λjx=>(λv=>decide (v=hyA l o (k*l.i.toNat+j))) (aA (fU l.t) jx)) 0 (fU l.t).length)])/\H 15=(bz (w2+1) 3 1<|List.map cI<|iO (λa=>pY l o<|k*l.i.toNat+a) j++[(pY l o<|k*l.i.toNat+j)])/\H 17=(bk (v17+1) 101 2 [[(aE<|(aA ((List.take ((k+1)*l.i.toNat)<|iX l o).drop (k*l.i.toNat)) j).w),(iV<|(aA ((List.take ((k+1)*l.i.toNat)<|iX l o).drop (k*l.i.toNat)) j).n)]])/\H 18=(bk (v18+1) 54 1 [[(aE<|(aA l.t.nd ((aA ((List.take ((k+1)*l.i.toNat)<|iX l o).drop (k*l.i.toNat)) j).n).toNat).ac)]])/\H 812=(bz v 54 1<|List.map cL<|iO (gV (wH l o) l.i.toNat) k)/\H 813=(bz w 54 1<|List.map cL<|iO (gV (pY l o) l.i.toNat) k)/\True) ?_ ?_
   . 
    refine aJ t15<|aV t6 h6 J J<|aX J J J J<|aX J J J J<|bA J<|mP J J OM (by (simp only [d9]; omega))<|nA (n:=((((((aA ((List.take ((k+1)*l.i.toNat)<|iX l o).drop (k*l.i.toNat)) j).w).length:Nat):Int) - (1:Int)).toNat)) (aM<|aE<|(aA ((List.take ((k+1)*l.i.toNat)<|iX l o).drop (k*l.i.toNat)) j).w) (bL (aM<|iV<|((((aA ((List.take ((k+1)*l.i.toNat)<|iX l o).drop (k*l.i.toNat)) j).w).length:Nat):Int) - (1:Int))<|sC (by (simp only [d9]; omega))) OM (λ_=>J)<|aX J J J J<|aX J J J J<|bA J<|mP J J OM (by (simp only [d9]; omega))<|gD (n:=((((((aA ((List.take ((k+1)*l.i.toNat)<|iX l o).drop (k*l.i.toNat)) j).w).length:Nat):Int) - (1:Int)).toNat)) (aM<|aE<|(aA ((List.take ((k+1)*l.i.toNat)<|iX l o).drop (k*l.i.toNat)) j).w) (bL (aM<|iV<|((((aA ((List.take ((k+1)*l.i.toNat)<|iX l o).drop (k*l.i.toNat)) j).w).length:Nat):Int) - (1:Int))<|sC (by (simp only [d9]; omega))) OM (λ_=>J) ?_
    refine sM (bO J<|bO J<|bO J dQ) (show bK Tryz.prog 52 [(V.agg [(iV l.i),(V.sl<|List.map cN l.t.nd),(iV o.i),(V.sl<|List.map cT o.tr)]),(aE<|List.take ((((((aA ((List.take ((k+1)*l.i.toNat)<|iX l o).drop (k*l.i.toNat)) j).w).length:Nat):Int) - (1:Int)).toNat)<|(aA ((List.take ((k+1)*l.i.toNat)<|iX l o).drop (k*l.i.toNat)) j).w),(aE<|List.drop ((((((aA ((List.take ((k+1)*l.i.toNat)<|iX l o).drop (k*l.i.toNat)) j).w).length:Nat):Int) - (1:Int)).toNat)<|(aA ((List.take ((k+1)*l.i.toNat)<|iX l o).drop (k*l.i.toNat)) j).w)] (V.sl [[iV (pY l o<|k*l.i.toNat+j)]]) from by simp only [d9]; rw [show (((aA (dD l)<|k*l.i.toNat+j).length:Int) - 1).toNat=(aA (dD l)<|k*l.i.toNat+j).length - 1 by omega]; have q:=sN l o (exI l<|k*l.i.toNat+j) (exL l<|k*l.i.toNat+j) ho (by unfold exI; rw [List.length_take]; omega) (by unfold exL; rw [List.length_drop]; omega) (by rw [aGM]; exact hkn); rw [d10] at q; exact q)<|eX (l:=(iO (λa=>pY l o<|k*l.i.toNat+a) j)) (f:=cI) (x:=(pY l o<|k*l.i.toNat+j)) (aM<|V.ms 15 w2 0 j) h15 (by exact (fO _ _).symm) (aM<|V.sl [[(iV<|pY l o<|k*l.i.toNat+j)]])<|aP ?_
    exact eS ⟨t2,t4,t6,t8,t11,t12,J,J,t51,t52,t65,t66,t67,h2,h3,h4,h6,h12,J,J,J,J,h812,h813,trivial⟩
   intro T H ⟨t2,t4,t6,t8,t11,t12,t14,t15,t51,t52,t65,t66,t67,h2,h3,h4,h6,h12,h14,h15,h17,h18,h812,h813,_⟩;refine n11 _ _ (.done (eI<|cF t67<|aD ?_));refine p19 _ _ _ ?_ ⟨(j+1),(v2+1),(w2+1),(v17+1),(v18+1),J,t2,t4,t6,t8,t11,t12,(bL t14 JR),(bL t15 JR),t51,t52,t65,t66,(bL (cO<|j+1) JR),h2,h3,h4,h6,h12,(bL h14 (by (rw [iS]; first|done|rfl))),(bL h15 (by (rw [iS]; first|done|rfl))),(cE h17),(cE h18),h812,h813,?_,?_⟩
   . omega
   . omega
   . rw [hc2,kL (p:=wC l o) d1 OM]; rfl
  refine aT<|p39 _ _ _<|x8 _ _ ?_
  refine .freeze 14 (.done ?_);refine W_g<|cM (bB t12 J) (aR (id:=14) h12 DE)<|cM J (aR (id:=14) h12 DE)<|aV J (aR (id:=14) h12 DE) J J<|aJ (bB t14<|mL h14 SI (l:=(iO (λa=>wH l o<|k*l.i.toNat+a) j)) J (by exact (fO _ _).symm))<|aS J J<|eX (l:=(iO (gV (wH l o) l.i.toNat) k)) (f:=cL) (x:=(iO (λa=>wH l o<|k*l.i.toNat+a) j)) (aM<|V.ms 812 v 0 k) (aR (id:=14) h812 DE) (by exact (fO _ _).symm) (aM<|V.sl [[(aE<|iO (λa=>wH l o<|k*l.i.toNat+a) j)]])<|cM (bB t12 J) (aR (id:=14) h12 DE)<|cM J (aR (id:=14) h12 DE)<|dU (vs:=[(V.ms 812 (v+1) 0<|k+1)]) (B':=(bk 1 28 5 [[(iV l.i),(iV 0),(V.ms 812 (v+1) 0<|k+1),(V.ms 813 w 0 k),(aC<|fU l.t)]])) J J J (aR (id:=14) h12 DE) (sB oB J J J J J)<|bR ?_
  refine .freeze 15 (.done ?_);refine eI<|cM (bB (bB t12 J) J) J<|aX J J J J<|aJ (bB (bB t15<|eE DE)<|mL (aR (id:=14) h15 DE) SI (l:=(iO (λa=>pY l o<|k*l.i.toNat+a) j)) J (by exact (fO _ _).symm))<|aS J J<|eX (l:=(iO (gV (pY l o) l.i.toNat) k)) (f:=cL) (x:=(iO (λa=>pY l o<|k*l.i.toNat+a) j)) (aM<|V.ms 813 w 0 k) (aR (id:=15) (aR (id:=14) h813 DE) DE) (by exact (fO _ _).symm) (aM<|V.sl [[(aE<|iO (λa=>pY l o<|k*l.i.toNat+a) j)]])<|cM (bB (bB t12 J) J) J<|cM J J<|dU (vs:=[(V.ms 813 (w+1) 0<|k+1)]) (B':=(bk 1 28 5 [[(iV l.i),(iV 0),(V.ms 812 (v+1) 0<|k+1),(V.ms 813 (w+1) 0<|k+1),(aC<|fU l.t)]])) J J J J (sB oB J J J J J)<|bR<|n7 _ _ (.done (eI<|cF (bB (bB t52 J) J)<|aP ?_))
  refine bR ?_;refine p15 _ _ _ ?_ ⟨(k+1),(v+1),(w+1),v2,w2,v17,v18,J,(bB (bB t2 J) J),(bB (bB t4 J) J),(bB (bB t6 J) J),(bB (bB t8 J) J),(bB (bB t11 J) J),(bB (bB t12 J) J),(bB (bB t51 J) J),(bL (cO<|k+1) JR),(aR (id:=15) (aR (id:=14) h2 DE) DE),(aR (id:=15) (aR (id:=14) h3 DE) DE),(aR (id:=15) (aR (id:=14) h4 DE) DE),(aR (id:=15) (aR (id:=14) h6 DE) DE),(bL (@J Blk<|bk 1 28 5 [[(iV l.i),(iV 0),(V.ms 812 (v+1) 0<|k+1),(V.ms 813 (w+1) 0<|k+1),(aC<|fU l.t)]]) JR),(gS (id:=15)<|gH<|cE h14),(gH<|cE<|aR (id:=14) h15 DE),(nN (id:=15)<|nN (id:=14) h17),(nN (id:=15)<|nN (id:=14) h18),(bL (@J Blk<|bz (v+1) 54 1<|List.map cL<|iO (gV (wH l o) l.i.toNat) k++[iO (λa=>wH l o<|k*l.i.toNat+a) j]) (by (rw [iS,show l.i.toNat=j by omega]; first|done|rfl))),(bL (@J Blk<|bz (w+1) 54 1<|List.map cL<|iO (gV (pY l o) l.i.toNat) k++[iO (λa=>pY l o<|k*l.i.toNat+a) j]) (by (rw [iS,show l.i.toNat=j by omega]; first|done|rfl))),?_,?_⟩
  . omega
  . omega
  . have e:(k+1)*l.i.toNat=k*l.i.toNat+j:=OM
    rw [e]; exact hc2
 have zd: ¬0<=qF l o:=by rw [hc,kD (by rw [hxl,show k=(fU l.t).length by omega]; exact Nat.le_refl _)]; omega
 refine aT<|p35 _ _ _<|x4 _ _ (.done (aO<|aV t12 h12 J J<|jN (bO (aM<|V.agg [(iV l.i),(iV 0),(V.ms 812 v 0 k),(V.ms 813 w 0 k),(aC<|fU l.t)]) dQ) (aAF (⟨(⟨l.i,(0:Int),(iO (gV (wH l o) l.i.toNat) k),(iO (gV (pY l o) l.i.toNat) k)⟩:M),(fU l.t)⟩:Hy)) (cZ (qU<|cZ (dM 5 _ (by simp [-List.map_take,-List.map_drop,-List.map_append,-List.map_reverse]))<|cZ (dM 5 _ (by simp [-List.map_take,-List.map_drop,-List.map_append,-List.map_reverse]))<|cZ (rH h812 SI (nS (l:=(iO (gV (wH l o) l.i.toNat) k)) (by exact (fO _ _).symm)) (λ_=>by simp))<|cZ (rH h813 SI (nS (l:=(iO (gV (pY l o) l.i.toNat) k)) (by exact (fO _ _).symm)) (λ_=>by simp))<|cZ (dM 5 _ (by simp [-List.map_take,-List.map_drop,-List.map_append,-List.map_reverse])) J) J) (by simp [-List.map_take,-List.map_drop,-List.map_append,-List.map_reverse]) (Or.inr J)<|bP J J<|bR ?_))
 refine aH J (λc13=>?_) λc13=>?_
 . 
  have ze:gY (hyH l o)≠0:=by have q:=c13; rw [show k=(fU l.t).length by omega] at q; exact q
  refine aO<|bN J J<|dU (vs:=[(iV 0),(iV 0),V.nilsl,V.nilsl,V.nilsl]) (B':=(bk 1 28 5 [[(iV 0),(iV 0),V.nilsl,V.nilsl,V.nilsl]])) t4 J J h4 (sB oB J J J J J)<|aD<|aK ?_
  refine dJ (bI (u:=(V.agg [(iV 0),(iV 0),V.nilsl,V.nilsl,V.nilsl])) t4 (@J Blk<|bk 1 28 5 [[(iV 0),(iV 0),V.nilsl,V.nilsl,V.nilsl]])<|lB oB J J) (aY<|aM<|iV 15) (fH (aF ?_) (aF ?_) (bH ?_) (bH ?_)<|bH ?_)<|aF ?_
  . try rw [jG za zb zc zd ze]
    try rw [dO (by rw [jG za zb zc zd ze]; decide)]
    try rfl
  . try rw [jG za zb zc zd ze]
    try rw [dO (by rw [jG za zb zc zd ze]; decide)]
    try rfl
  . try rw [jG za zb zc zd ze]
    try rw [dO (by rw [jG za zb zc zd ze]; decide)]
    try rfl
  . try rw [jG za zb zc zd ze]
    try rw [dO (by rw [jG za zb zc zd ze]; decide)]
    try rfl
  . try rw [jG za zb zc zd ze]
    try rw [dO (by rw [jG za zb zc zd ze]; decide)]
    try rfl
  . try rw [jG za zb zc zd ze]
    try rw [dO (by rw [jG za zb zc zd ze]; decide)]
    try rfl
 have ze: ¬gY (hyH l o)≠0:=by have q:=c13; rw [show k=(fU l.t).length by omega] at q; exact q
 refine aB<|aW<|aV t12 h12 J J<|dU (vs:=[(iV l.i),(iV 0),(V.ms 812 v 0 k),(V.ms 813 w 0 k),(aC<|fU l.t)]) (B':=(bk 1 28 5 [[(iV l.i),(iV 0),(V.ms 812 v 0 k),(V.ms 813 w 0 k),(aC<|fU l.t)]])) t4 J J h4 (sB oB J J J J J)<|aD<|bF ?_
 refine dJ (bI (u:=(V.agg [(iV l.i),(iV 0),(V.ms 812 v 0 k),(V.ms 813 w 0 k),(aC<|fU l.t)])) t4 (@J Blk<|bk 1 28 5 [[(iV l.i),(iV 0),(V.ms 812 v 0 k),(V.ms 813 w 0 k),(aC<|fU l.t)]])<|lB oB J J) (aY<|aM<|iV 0) (fH (aF ?_) (aF ?_) (iK h812 SI (l:=(iO (gV (wH l o) l.i.toNat) k)) J (by exact (fO _ _).symm) (λ_=>by simp) ?_) (iK h813 SI (l:=(iO (gV (pY l o) l.i.toNat) k)) J (by exact (fO _ _).symm) (λ_=>by simp) ?_)<|cA ?_ (λ_=>by simp))<|aF ?_
 . try rw [jJ za zb zc zd ze]
   try rw [lG (by rw [jJ za zb zc zd ze])]
   try first|rfl|(rw [show k=(fU l.t).length by omega]; rfl)
 . try rw [jJ za zb zc zd ze]
   try rw [lG (by rw [jJ za zb zc zd ze])]
   try first|rfl|(rw [show k=(fU l.t).length by omega]; rfl)
 . try rw [jJ za zb zc zd ze]
   try rw [lG (by rw [jJ za zb zc zd ze])]
   try first|rfl|(rw [show k=(fU l.t).length by omega]; rfl)
 . try rw [jJ za zb zc zd ze]
   try rw [lG (by rw [jJ za zb zc zd ze])]
   try first|rfl|(rw [show k=(fU l.t).length by omega]; rfl)
 . try rw [jJ za zb zc zd ze]
   try rw [lG (by rw [jJ za zb zc zd ze])]
   try first|rfl|(rw [show k=(fU l.t).length by omega]; rfl)
 . try rw [jJ za zb zc zd ze]
   try rw [lG (by rw [jJ za zb zc zd ze])]
   try first|rfl|(rw [show k=(fU l.t).length by omega]; rfl)
theorem aE7 (l:Ts) (o:Ob) (s:Spl) (hb:Bd l.t):bK Tryz.prog 57 [(V.agg [(iV l.i),(V.sl (List.map cN l.t.nd)),(iV o.i),(V.sl (List.map cT o.tr))]),(V.agg [(aE s.p),(iV s.a),(aE s.x)])] (iV (if jL l o≠0 then jL l o else wN s l.i)):=by
 refine' pK [] [] Tryz.func57 ?e λhB=>?_
 case e=>conv=>lhs; cbv
 dsimp only;refine aW<|bS (i:=2) (n:=0) (m:=4) (cs:=[(iV l.i),(V.sl<|List.map cN l.t.nd),(iV o.i),(V.sl<|List.map cT o.tr)]) J (cE J) J J J<|bS (i:=3) (n:=0) (m:=3) (cs:=[(aE s.p),(iV s.a),(aE s.x)]) J (cE J) J J J<|aD<|aO<|aV J J J J<|aI (uJ l o hb) J<|aD<|aO<|aP<|bP J J<|bR ?_
 refine aH J (λc1=>?_) λc1=>?_
 . 
  refine aO<|aP<|aD<|aK ?_
  refine aZ (aM<|iV<|jL l o)<|aF ?_
  . rw [if_pos (by assumption)]
 refine aB<|aO<|aX J J J J<|cM J J<|aX J J J J<|aI (gL s.p l.i) J<|aD<|aO<|aP<|bP J J<|bR ?_
 refine aH J (λc2=>?_) λc2=>?_
 . 
  refine aO<|aP<|aD<|aK ?_
  refine aZ (aM<|iV<|dG s.p l.i)<|aF ?_
  . rw [if_neg OM]; unfold wN; rw [if_pos (by assumption)]
 refine aB<|aO<|aX J J J J<|bZ J J<|aP ?_
 refine bU 7 (λT H=>T 2=(cG 2)/\T 3=(cG 3)/\T 31=(V.bool<|decide ((s.a < (0:Int))\/(l.i<=s.a)))/\H 2=(bk 1 66 4 [[(iV l.i),(V.sl<|List.map cN l.t.nd),(iV o.i),(V.sl<|List.map cT o.tr)]])/\H 3=(bk 1 62 3 [[(aE s.p),(iV s.a),(aE s.x)]])/\True) ?_ ?_
 . 
  by_cases g3:s.a < (0:Int)
  . 
   refine bW (bY g3 J)<|bW (bY g3 J)<|bW (bY g3 J)<|bW (bY g3 J)<|bW (bY g3 J)<|bW (bY g3 J)<|bV (bY g3 J) J ?_
   exact ⟨J,J,(dZ g3),J,J,trivial⟩
  . 
   refine aN (bX g3 J)<|cM J J<|aN (bX g3 J)<|aV J J J J<|aN (bX g3 J)<|cM J J<|aN (bX g3 J)<|cM J J<|aN (bX g3 J)<|aV J J J J<|aN (bX g3 J)<|iC J J<|bT (bX g3 J) J ?_
   exact ⟨J,J,(dX g3),J,J,trivial⟩
 intro T H ⟨t2,t3,t31,h2,h3,_⟩;refine bR ?_;refine aH t31 (λc4=>?_) λc4=>?_
 . 
  refine aO<|aD<|aK ?_
  refine aZ (aM<|iV 2)<|aF ?_
  . rw [if_neg OM]; unfold wN; rw [if_neg OM,if_pos OM]
 refine aB<|aO<|aX t3 h3 J J<|bA J<|eV J J<|bR ?_
 refine aH J (λc5=>?_) λc5=>?_
 . 
  refine aO<|aD<|aK ?_
  refine aZ (aM<|iV 19)<|aF ?_
  . rw [if_neg OM]; unfold wN; rw [if_neg OM,if_neg OM,if_pos OM]
 refine aB<|aW<|aX t3 h3 J J<|cM t2 h2<|aX J h2 J J<|aI (gL s.x l.i) J<|aD<|bF ?_
 refine aZ (aM<|iV<|dG s.x l.i)<|aF ?_
 . rw [if_neg OM]; unfold wN; rw [if_neg OM,if_neg OM,if_neg OM]
theorem aDo (t:Dt) (n:Int) (sf aQ w other:List Int) (hb:Bd t):bK Tryz.prog 110 [(V.agg [(V.sl (List.map cN t.nd))]),(iV n),(aE sf),(aE aQ),(aE w),(aE other)] (iV (mE t n sf aQ w other)):=by
 refine' pK [] [] Tryz.func110 ?e λhB=>?_
 case e=>conv=>lhs; cbv
 dsimp only;refine aW<|bS (i:=6) (n:=0) (m:=1) (cs:=[(V.sl<|List.map cN t.nd)]) J (cE J) J J J<|aD<|aO<|aV J J J J<|aP<|aI (aBN t n true) J<|aD<|aO<|aP<|bP J J<|bR ?_
 refine aH J (λc1=>?_) λc1=>?_
 . 
  refine aO<|aP<|aD<|aK ?_
  refine aZ (aM<|iV<|noE t n true)<|aF ?_
  . rw [mE,if_pos OM]
 refine aB<|aO<|aP<|bA J<|eV J J<|bR ?_
 refine aH J (λc2=>?_) λc2=>?_
 . 
  refine aO<|aD<|aK ?_
  refine aZ (aM<|iV 19)<|aF ?_
  . rw [mE,if_neg OM,if_pos OM]
 refine aB<|aO<|aP<|aI (gL sf (64:Int)) J<|aD<|aO<|aP<|bP J J<|bR ?_
 refine aH J (λc3=>?_) λc3=>?_
 . 
  refine aO<|aP<|aD<|aK ?_
  refine aZ (aM<|iV<|dG sf (64:Int))<|aF ?_
  . rw [mE,if_neg OM,if_neg OM,if_pos OM]
 refine aB<|aO<|aP<|aP<|aI (qW aQ sf) J<|aD<|aO<|aP<|bP J J<|bR ?_
 refine aH J (λc4=>?_) λc4=>?_
 . 
  refine aO<|aP<|aD<|aK ?_
  refine aZ (aM<|iV<|sJ aQ sf)<|aF ?_
  . rw [mE,if_neg OM,if_neg OM,if_neg OM,if_pos OM]
 refine aB<|aO<|aV J J J J<|aP<|aI (aAM t w hb) J<|aD<|aO<|aP<|bP J J<|bR ?_
 refine aH J (λc5=>?_) λc5=>?_
 . 
  refine aO<|aP<|aD<|aK ?_
  refine aZ (aM<|iV<|fsE t w)<|aF ?_
  . rw [mE,if_neg OM,if_neg OM,if_neg OM,if_neg OM,if_pos OM]
 refine aB<|aO<|aP<|aP<|aI (qW other sf) J<|aD<|aO<|aP<|bP J J<|bR ?_
 refine aH J (λc6=>?_) λc6=>?_
 . 
  refine aO<|aP<|aD<|aK ?_
  refine aZ (aM<|iV<|sJ other sf)<|aF ?_
  . rw [mE,if_neg OM,if_neg OM,if_neg OM,if_neg OM,if_neg OM,if_pos OM]
 refine aB (aG λQ7 n7 x7 y7 z7=>(aW<|aP<|aP<|aI (nQ aQ other) J<|aD ?_));refine fN J (λc8=>?_) λc8=>?_
 . 
  have d6:aQ=other:=by simpa using c8
  refine aW<|aD<|bF<|y7 _ _ ?_
  refine aZ (aM<|iV 15)<|aF ?_
  . rw [mE,if_neg OM,if_neg OM,if_neg OM,if_neg OM,if_neg OM,if_neg OM,if_pos d6]
 have d6: ¬(aQ=other):=by simpa using c8
 refine dE (λT H=>T 54=(V.bool<|decide ((4094:Int) < ((t.nd.length:Nat):Int)))/\H 6=(bk 1 47 1 [[(V.sl<|List.map cN t.nd)]])/\True) ?_ ?_
 . 
  refine aX J J J J<|bA J<|eD J J<|aP ?_
  exact eS ⟨J,J,trivial⟩
 intro T H ⟨t54,h6,_⟩;refine fN t54 (λc9=>?_) λc9=>?_
 . 
  refine aW<|aD<|bF<|y7 _ _ ?_
  refine aZ (aM<|iV 11)<|aF ?_
  . rw [mE,if_neg OM,if_neg OM,if_neg OM,if_neg OM,if_neg OM,if_neg OM,if_neg d6,if_pos OM]
 refine dH<|n7 _ _ (.done (aW<|aD<|bF ?_))
 refine aZ (aM<|iV 0)<|aF ?_
 . rw [mE,if_neg OM,if_neg OM,if_neg OM,if_neg OM,if_neg OM,if_neg OM,if_neg d6,if_neg OM]
theorem aIH (l:List (List Int)) (v:Nat) (z:Bool) (Hi:bC) (hq:Hi 52=(⟨v,true,z,54,1,(List.map cL l)⟩:Blk)) (hl:l.length<=1073741824):fA Tryz.prog 111 [(V.ms 52 v 0 l.length)] Hi (V.tup []) (cX Hi 52 (⟨v,true,z,54,1,(List.map cL l.reverse)⟩:Blk)):=by
 refine' eK [] [] (k0:=600) Tryz.func111 ?e λhB=>?_
 case e=>conv=>lhs; cbv
 dsimp only;refine aW<|aP<|dW J hq SI<|mP J J OM OM<|aP<|aD (fZ λQ1 n1 x1 y1 z1=>?_)
 refine cC (λmm T H=> ∃ (k:Nat),mm=l.length - k/\T 0=(V.ms 52 v 0 l.length)/\T 2=(iV ((k:Nat):Int))/\T 3=(iV<|((l.length:Nat):Int) - 1 - k)/\(∀ j,j∉[52]->H j=Hi j)/\H 52=(⟨v,true,z,54,1,(List.map cL<|oS l k)⟩:Blk)/\(2*k<=l.length+1)) ?_ ?_
 . 
  refine ⟨_,0,J,J,(bL (aM<|iV 0) J),(bL (aM<|iV<|((l.length:Nat):Int) - (1:Int)) (by (exact congrArg (V.int .i64) OM))),(λ_ _=>J),(bL hq (by (rw [aHB]; done))),?_⟩
  . omega
 intro mm T H ⟨k,hmm,t0,t2,t3,hF,h52,hk⟩ Q2 p12 p22 p32;have q1:=xL l k;refine aO<|aJ t2<|aJ t3<|bZ J J<|bR ?_
 refine aH J (λc3=>?_) λc3=>?_
 . 
  refine aB (aG λQ4 n4 x4 y4 z4=>(eI<|aJ t0<|aJ t2<|aJ t0<|aJ t3<|aJ t0<|aJ t3<|dV (i:=(((l.length:Nat):Int) - 1 - k)) (aM<|V.ms 52 v 0 l.length) (aM<|iV<|((l.length:Nat):Int) - 1 - k) h52 (eC OM) J OM OM<|cQ (v:=(aE<|aA (oS l k)<|(((l.length:Nat):Int) - 1 - k).toNat)) J h52 (dS OM JR)<|aJ t0<|aJ t2<|dC (i:=k) (aM<|V.ms 52 v 0 l.length) (cO k) h52 (eC OM) J OM<|cQ (v:=(aE<|aA (oS l k) k)) J h52 (dS OM JR)<|dC (i:=k) (aM<|V.ms 52 v 0 l.length) (cO k) h52 (eC OM) J OM ?_));refine dU (vs:=[(aE<|aA (oS l k)<|(((l.length:Nat):Int) - 1 - k).toNat)]) (B':=(⟨v,true,z,54,1,(List.map cL<|(oS l k).set k (aA (oS l k)<|(((l.length:Nat):Int) - 1 - k).toNat))⟩:Blk)) J J J h52 (iQ (x:=(aA (oS l k)<|(((l.length:Nat):Int) - 1 - k).toNat)) (i:=k) OM J J J J)<|dV (i:=(((l.length:Nat):Int) - 1 - k)) (aM<|V.ms 52 v 0 l.length) (aM<|iV<|((l.length:Nat):Int) - 1 - k) (@J Blk (⟨v,true,z,54,1,(List.map cL<|(oS l k).set k (aA (oS l k)<|(((l.length:Nat):Int) - 1 - k).toNat))⟩:Blk)) (eC (by (simp only [List.length_set]; omega))) J OM OM<|dU (vs:=[(aE<|aA (oS l k) k)]) (B':=(⟨v,true,z,54,1,(List.map cL<|((oS l k).set k (aA (oS l k)<|(((l.length:Nat):Int) - 1 - k).toNat)).set ((((l.length:Nat):Int) - 1 - k).toNat) (aA (oS l k) k))⟩:Blk)) J J J (@J Blk (⟨v,true,z,54,1,(List.map cL<|(oS l k).set k (aA (oS l k)<|(((l.length:Nat):Int) - 1 - k).toNat))⟩:Blk)) (iQ (x:=(aA (oS l k) k)) (i:=((((l.length:Nat):Int) - 1 - k).toNat)) (by (simp only [List.length_set]; omega)) J J J J)<|bR<|n4 _ _ (.done (eI<|aJ t2<|cF J<|aJ t3<|mP J J OM OM<|aP<|aD ?_))
  refine p12 _ _ _ ?_ ⟨(k+1),J,t0,(bL (cO<|k+1) JR),(bL (aM<|iV<|(((l.length:Nat):Int) - 1 - k) - (1:Int)) (by (exact congrArg (V.int .i64) OM))),(bG (bG hF DE) DE),(bL (@J Blk (⟨v,true,z,54,1,(List.map cL<|((oS l k).set k (aA (oS l k)<|(((l.length:Nat):Int) - 1 - k).toNat)).set ((((l.length:Nat):Int) - 1 - k).toNat) (aA (oS l k) k))⟩:Blk)) (by (rw [show (((l.length:Nat):Int) - 1 - (k:Int)).toNat=l.length - 1 - k by omega,aHy OM OM]; done))),?_⟩
  . omega
  . omega
 refine aT<|p32 _ _ _<|x1 _ _<|eJ (R:=λT H=>T 0=(V.ms 52 v 0 l.length)/\T 2=(iV ((k:Nat):Int))/\T 3=(iV<|((l.length:Nat):Int) - 1 - k)/\T 9=(V.bool<|decide (((k:Nat):Int) < (((l.length:Nat):Int) - 1 - k)))/\(∀ j,j∉[52]->H j=Hi j)/\H 52=(⟨v,true,z,54,1,(List.map cL<|oS l k)⟩:Blk)/\True) ⟨t0,t2,t3,(aM<|V.bool<|decide (((k:Nat):Int) < (((l.length:Nat):Int) - 1 - k))),hF,h52,trivial⟩ ?_
 intro T H ⟨t0,t2,t3,t9,hF,h52,_⟩;skip;have fh:=dK.fin<|dK.put (B:=(⟨v,true,z,54,1,(List.map cL l.reverse)⟩:Blk)) (dK.start hF) h52<|iZ.eq (by (rw [aKj OM OM]; done))
 exact aKM fh
theorem aJa (l:List Int) (v:Nat) (z:Bool) (Hi:bC) (hq:Hi 60=(⟨v,true,z,3,1,(List.map cI l)⟩:Blk)) (hl:l.length<=1073741824):fA Tryz.prog 112 [(V.ms 60 v 0 l.length)] Hi (V.tup []) (cX Hi 60 (⟨v,true,z,3,1,(List.map cI l.reverse)⟩:Blk)):=by
 refine' eK [] [] (k0:=600) Tryz.func112 ?e λhB=>?_
 case e=>conv=>lhs; cbv
 dsimp only;refine aW<|aP<|dW J hq SI<|mP J J OM OM<|aP<|aD (fZ λQ1 n1 x1 y1 z1=>?_)
 refine cC (λmm T H=> ∃ (k:Nat),mm=l.length - k/\T 0=(V.ms 60 v 0 l.length)/\T 2=(iV ((k:Nat):Int))/\T 3=(iV<|((l.length:Nat):Int) - 1 - k)/\(∀ j,j∉[60]->H j=Hi j)/\H 60=(⟨v,true,z,3,1,(List.map cI<|oS l k)⟩:Blk)/\(2*k<=l.length+1)) ?_ ?_
 . 
  refine ⟨_,0,J,J,(bL (aM<|iV 0) J),(bL (aM<|iV<|((l.length:Nat):Int) - (1:Int)) (by (exact congrArg (V.int .i64) OM))),(λ_ _=>J),(bL hq (by (rw [aHB]; done))),?_⟩
  . omega
 intro mm T H ⟨k,hmm,t0,t2,t3,hF,h60,hk⟩ Q2 p12 p22 p32;have q1:=xL l k;refine aO<|aJ t2<|aJ t3<|bZ J J<|bR ?_
 refine aH J (λc3=>?_) λc3=>?_
 . 
  refine aB (aG λQ4 n4 x4 y4 z4=>(eI<|aJ t0<|aJ t2<|aJ t0<|aJ t3<|aJ t0<|aJ t3<|dV (i:=(((l.length:Nat):Int) - 1 - k)) (aM<|V.ms 60 v 0 l.length) (aM<|iV<|((l.length:Nat):Int) - 1 - k) h60 (eC OM) J OM OM<|cQ (v:=(iV<|aA (oS l k)<|(((l.length:Nat):Int) - 1 - k).toNat)) J h60 (dS OM JR)<|aJ t0<|aJ t2<|dC (i:=k) (aM<|V.ms 60 v 0 l.length) (cO k) h60 (eC OM) J OM<|cQ (v:=(iV<|aA (oS l k) k)) J h60 (dS OM JR)<|dC (i:=k) (aM<|V.ms 60 v 0 l.length) (cO k) h60 (eC OM) J OM ?_));refine dU (vs:=[(iV<|aA (oS l k)<|(((l.length:Nat):Int) - 1 - k).toNat)]) (B':=(⟨v,true,z,3,1,(List.map cI<|(oS l k).set k (aA (oS l k)<|(((l.length:Nat):Int) - 1 - k).toNat))⟩:Blk)) J J J h60 (iQ (x:=(aA (oS l k)<|(((l.length:Nat):Int) - 1 - k).toNat)) (i:=k) OM J J J J)<|dV (i:=(((l.length:Nat):Int) - 1 - k)) (aM<|V.ms 60 v 0 l.length) (aM<|iV<|((l.length:Nat):Int) - 1 - k) (@J Blk (⟨v,true,z,3,1,(List.map cI<|(oS l k).set k (aA (oS l k)<|(((l.length:Nat):Int) - 1 - k).toNat))⟩:Blk)) (eC (by (simp only [List.length_set]; omega))) J OM OM<|dU (vs:=[(iV<|aA (oS l k) k)]) (B':=(⟨v,true,z,3,1,(List.map cI<|((oS l k).set k (aA (oS l k)<|(((l.length:Nat):Int) - 1 - k).toNat)).set ((((l.length:Nat):Int) - 1 - k).toNat) (aA (oS l k) k))⟩:Blk)) J J J (@J Blk (⟨v,true,z,3,1,(List.map cI<|(oS l k).set k (aA (oS l k)<|(((l.length:Nat):Int) - 1 - k).toNat))⟩:Blk)) (iQ (x:=(aA (oS l k) k)) (i:=((((l.length:Nat):Int) - 1 - k).toNat)) (by (simp only [List.length_set]; omega)) J J J J)<|bR<|n4 _ _ (.done (eI<|aJ t2<|cF J<|aJ t3<|mP J J OM OM<|aP<|aD ?_))
  refine p12 _ _ _ ?_ ⟨(k+1),J,t0,(bL (cO<|k+1) JR),(bL (aM<|iV<|(((l.length:Nat):Int) - 1 - k) - (1:Int)) (by (exact congrArg (V.int .i64) OM))),(bG (bG hF DE) DE),(bL (@J Blk (⟨v,true,z,3,1,(List.map cI<|((oS l k).set k (aA (oS l k)<|(((l.length:Nat):Int) - 1 - k).toNat)).set ((((l.length:Nat):Int) - 1 - k).toNat) (aA (oS l k) k))⟩:Blk)) (by (rw [show (((l.length:Nat):Int) - 1 - (k:Int)).toNat=l.length - 1 - k by omega,aHy OM OM]; done))),?_⟩
  . omega
  . omega
 refine aT<|p32 _ _ _<|x1 _ _<|eJ (R:=λT H=>T 0=(V.ms 60 v 0 l.length)/\T 2=(iV ((k:Nat):Int))/\T 3=(iV<|((l.length:Nat):Int) - 1 - k)/\T 9=(V.bool<|decide (((k:Nat):Int) < (((l.length:Nat):Int) - 1 - k)))/\(∀ j,j∉[60]->H j=Hi j)/\H 60=(⟨v,true,z,3,1,(List.map cI<|oS l k)⟩:Blk)/\True) ⟨t0,t2,t3,(aM<|V.bool<|decide (((k:Nat):Int) < (((l.length:Nat):Int) - 1 - k))),hF,h60,trivial⟩ ?_
 intro T H ⟨t0,t2,t3,t9,hF,h60,_⟩;skip;have fh:=dK.fin<|dK.put (B:=(⟨v,true,z,3,1,(List.map cI l.reverse)⟩:Blk)) (dK.start hF) h60<|iZ.eq (by (rw [aKj OM OM]; done))
 exact aKM fh
theorem aEU (t:Dt) (n:Int) (sf aQ w other:List Int) (hb:Bd t) (hsf:sf.length<=1048576) (ho:aQ.length<=1048576) (hw:w.length<=1048576) (hot:other.length<=1048576):bK Tryz.prog 62 [(V.agg [(V.sl (List.map cN t.nd))]),(iV n),(aE sf),(aE aQ),(aE w),(aE other)] (V.tup [(V.agg [(V.sl (List.map cN ((spT t n sf aQ w other).nd)))]),(iV (nJ t n sf aQ w other))]):=by
 refine' pK [52,60] [⟨9,[0,1,2,3,4,5,6,7,8,10,11,12,13,14,15,16,9,17,18,19,20],[52,60,18],[]⟩] Tryz.func62 ?e λhB=>?_
 case e=>conv=>lhs; cbv
 dsimp only;have hbn:=hb.n;refine aW<|bS (i:=6) (n:=0) (m:=1) (cs:=[(V.sl<|List.map cN t.nd)]) J (cE J) J J J<|bM (i:=12) (n:=0) (m:=1) J (cE J) J<|aD<|aO<|aV J J J J<|aI (nU t hb) J<|aD<|aO<|aP<|bP J J<|bR ?_
 refine aH J (λc1=>?_) λc1=>?_
 . 
  refine aO<|aV J J J J<|aP<|bQ J J J J J J J J J<|aD<|aK ?_
  refine dJ (bI (u:=(V.agg [(V.sl<|List.map cN t.nd)])) J (@J Blk<|bk 1 47 1 [[(V.sl<|List.map cN t.nd)]])<|lB oB J J) (aY<|aM<|iV<|gU t) (fE<|cA ?_ (λ_=>by simp))<|aF ?_
  . rw [rJ (by unfold nJ; rw [if_pos OM]; omega)]
  . unfold nJ; rw [if_pos OM]
 refine aB<|aO<|aV J J J J<|aP<|aP<|aP<|aP<|aP<|aI (aDo t n sf aQ w other hb) J<|aD<|aO<|aP<|bP J J ?_
 refine bR ?_;refine aH J (λc2=>?_) λc2=>?_
 . 
  refine aO<|aV J J J J<|aP<|bQ J J J J J J J J J<|aD<|aK ?_
  refine dJ (bI (u:=(V.agg [(V.sl<|List.map cN t.nd)])) J (@J Blk<|bk 1 47 1 [[(V.sl<|List.map cN t.nd)]])<|lB oB J J) (aY<|aM<|iV<|mE t n sf aQ w other) (fE<|cA ?_ (λ_=>by simp))<|aF ?_
  . rw [rJ (by unfold nJ; rw [if_neg OM]; omega)]
  . unfold nJ; rw [if_neg OM]
 have hE:nJ t n sf aQ w other=0:=by unfold nJ; rw [if_neg OM]; omega
 obtain ⟨y1,y2,y3,y4,y5,y6,y7,y8,y9⟩:=aKQ hE;obtain ⟨n0,n1,n2⟩:=aCR y2;have nb:n.toNat < t.nd.length:=OM
 refine aB<|aW<|aV J J J J<|gA (bO J dQ) (aKU t 0 0 0 0 0 0 _ hb (cE J) (cE J) (cE J) (cE J) (cE J) ⟨cE J,congrArg Blk.live J⟩)<|bM (i:=16) (n:=0) (m:=1) J (cE J) J<|bQ J J J J J J J J J<|qV<|aX J J J J<|aP<|dV (i:=n) (aM<|V.ms 212 1 0 t.nd.length) (aM<|iV n) (@J Blk<|bk 1 108 5<|List.map cN t.nd) oB J OM OM<|cQ (v:=(V.agg<|cN<|aA t.nd n.toNat)) J (@J Blk<|bk 1 108 5<|List.map cN t.nd) (dS OM JR)<|bM (i:=17) (n:=0) (m:=5) J (cE J) J<|bQ J J J J J J J J J<|bR ?_
 refine aAV (λT H=>T 1=(iV n)/\T 3=(aE aQ)/\T 4=(aE w)/\T 5=(aE other)/\T 12=(cG 12)/\T 16=(cG 16)/\T 17=(cG 17)/\T 18=(cG 18)/\H 6=(bk 1 47 1 [[(V.sl<|List.map cN t.nd)]])/\H 12=(bk 1 47 1 [[V.nilsl]])/\H 16=(bk 1 47 1 [[(V.ms 212 1 0 t.nd.length)]])/\H 17=(bk 1 108 5 [(cN<|aA t.nd n.toNat)])/\H 18=(bk 1 108 5 [[(V.bool false),V.nilsl,(aE<|bD<|[sf]),(V.ms 52 1 0 2),(V.ms 60 1 0 2)]])/\H 52=(bk 1 54 1 [[(aE<|bD<|[aQ])],[(aE<|bD<|[other])]])/\H 60=(bk 1 3 1 [[(iV ((t.nd.length:Nat):Int))],[(iV ((t.nd.length+1:Nat):Int))]])/\H 201=(⟨1,false,false,0,0,[]⟩:Blk)/\H 202=(⟨1,false,false,0,0,[]⟩:Blk)/\H 205=(⟨0+t.nd.length,false,false,0,0,[]⟩:Blk)/\H 212=(bk 1 108 5<|List.map cN t.nd)/\H 228=(⟨0+t.nd.length*1048578,false,false,0,0,[]⟩:Blk)/\H 258=(⟨0+3*t.nd.length,false,false,0,0,[]⟩:Blk)/\True) (by exact (oP J<|oP J<|oP J qQ)) ?_ ?_
 . 
  refine aP<|aS J J<|aI (dP ([sf]) (by simp only [bD,List.append_nil]; omega)) J<|aP<|aS J J<|aI (dP ([aQ]) (by simp only [bD,List.append_nil]; omega)) J<|aP<|aS J J<|aI (dP ([other]) (by simp only [bD,List.append_nil]; omega)) J<|aX J J J J<|bA J<|aX J J J J<|bA J<|cF J ?_
  refine gE (i:=52) (n:=0) (qs:=[(0,(aE<|bD<|[aQ])),(1,(aE<|bD<|[other]))]) (rows:=[[(aE<|bD<|[aQ])],[(aE<|bD<|[other])]]) J (cE J) (cZ (congrArg (λv=>(0,v)) J)<|cZ (congrArg (λv=>(1,v)) J) J) J<|gE (i:=60) (n:=0) (qs:=[(0,(iV ((t.nd.length:Nat):Int))),(1,(iV ((t.nd.length+1:Nat):Int)))]) (rows:=[[(iV ((t.nd.length:Nat):Int))],[(iV ((t.nd.length+1:Nat):Int))]]) J (cE J) (cZ (congrArg (λv=>(0,v)) J)<|cZ (congrArg (λv=>(1,v)) J) J) J<|bN J J<|bM (i:=18) (n:=0) (m:=5) J (cE J) J<|bQ J J J J J J J J J ?_
  exact eS ⟨J,J,J,J,J,J,J,J,J,J,J,J,J,J,J,J,J,J,J,J,J,trivial⟩
 intro T H ⟨t1,t3,t4,t5,t12,t16,t17,t18,h6,h12,h16,h17,h18,h52,h60,h201,h202,h205,h212,h228,h258,_⟩;refine aO<|aJ t3<|aJ t5<|aI (rN aQ other) J<|eD J J<|bR ?_
 refine aH J (λc3=>?_) λc3=>?_
 . 
  have d7:=c3;refine aO<|aX t18 h18 J J<|gA (bO J dQ) (aIH ([bD ([aQ]),bD ([other])]) 1 false _ (show _=(bk 1 54 1<|List.map cL<|[bD ([aQ]),bD ([other])]) from h52) SI)<|qV<|aX t18 h18 J J<|gA (bO J dQ) (aJa ([((t.nd.length:Nat):Int),((t.nd.length+1:Nat):Int)]) 1 false _ (show _=(bk 1 3 1<|List.map cI<|[((t.nd.length:Nat):Int),((t.nd.length+1:Nat):Int)]) from h60) SI)<|bR<|W_g<|aX t16 h16 J J<|aJ t1<|aV t18 h18 J J ?_
  refine dV (i:=n) (aM<|V.ms 212 1 0 t.nd.length) (aM<|iV n) h212 oB J OM OM<|dU (vs:=[(V.bool false),V.nilsl,(aE<|bD<|[sf]),(V.ms 52 1 0 2),(V.ms 60 1 0 2)]) (B':=(bk 1 108 5<|(List.map cN t.nd).set n.toNat [(V.bool false),V.nilsl,(aE<|bD<|[sf]),(V.ms 52 1 0 2),(V.ms 60 1 0 2)])) J J J h212 (rV (i:=n.toNat) OM J J J)<|bR<|aDx (id:=212) (rows:=List.map cN t.nd) (i:=n.toNat) (r':=[(V.bool false),(aE<|[]),(aE<|bD<|[sf]),(V.ms 52 1 0 2),(V.ms 60 1 0 2)]) (@J Blk<|bk 1 108 5<|(List.map cN t.nd).set n.toNat [(V.bool false),V.nilsl,(aE<|bD<|[sf]),(V.ms 52 1 0 2),(V.ms 60 1 0 2)]) (by (simp; omega)) J<|gI (id:=52) (id2:=212) (rows:=(List.map cN t.nd)) (i:=n.toNat) (off:=3) (r:=[(V.bool false),(aE<|[]),(aE<|bD<|[sf]),(V.ms 52 1 0 2),(V.ms 60 1 0 2)]) (m:=(([bD ([aQ]),bD ([other])]).reverse)) (g:=cL) DE (@J Blk<|bk 1 54 1<|List.map cL<|([bD ([aQ]),bD ([other])]).reverse) (@J Blk<|bk 1 108 5<|(List.map cN t.nd).set n.toNat [(V.bool false),(aE<|[]),(aE<|bD<|[sf]),(V.ms 52 1 0 2),(V.ms 60 1 0 2)]) (by (simp; omega)) JR J ?_
  refine gI (id:=60) (id2:=212) (rows:=(List.map cN t.nd)) (i:=n.toNat) (off:=4) (r:=[(V.bool false),(aE<|[]),(aE<|bD<|[sf]),(aC<|([bD ([aQ]),bD ([other])]).reverse),(V.ms 60 1 0 2)]) (m:=(([((t.nd.length:Nat):Int),((t.nd.length+1:Nat):Int)]).reverse)) (g:=cI) DE (@J Blk<|bk 1 3 1<|List.map cI<|([((t.nd.length:Nat):Int),((t.nd.length+1:Nat):Int)]).reverse) (@J Blk<|bk 1 108 5<|(List.map cN t.nd).set n.toNat [(V.bool false),(aE<|[]),(aE<|bD<|[sf]),(aC<|([bD ([aQ]),bD ([other])]).reverse),(V.ms 60 1 0 2)]) (by (simp; omega)) JR J (.done ?_);refine W_g<|cM (bB (id:=60) (bB (id:=52) t16 J) J) (aR (id:=60) (aR (id:=52) h16 DE) DE)<|aV J (aR (id:=60) (aR (id:=52) h16 DE) DE) J J<|aV (bB (id:=60) (bB (id:=52) t17 J) J) (aR (id:=60) (aR (id:=52) h17 DE) DE) J J<|aJ (bB (id:=60) (bB (id:=52) t4 J) J)<|aS J J<|aI (dP ([w]) (by simp only [bD,List.append_nil]; omega)) J<|bN J J<|aS J J<|rW (l:=(t.nd.set n.toNat (⟨false,[],bD ([sf]),([bD ([aQ]),bD ([other])]).reverse,([((t.nd.length:Nat):Int),((t.nd.length+1:Nat):Int)]).reverse⟩:Nd))) (f:=cN) (aM<|V.ms 212 1 0 t.nd.length) ((by (rw [aU,List.map_set]; rfl)):_=(bk 1 108 5<|List.map cN<|t.nd.set n.toNat (⟨false,[],bD ([sf]),([bD ([aQ]),bD ([other])]).reverse,([((t.nd.length:Nat):Int),((t.nd.length+1:Nat):Int)]).reverse⟩:Nd))) SI (aM<|V.sl [(cN<|aA t.nd n.toNat),[(V.bool true),(aE<|bD<|[w]),V.nilsl,V.nilsl,V.nilsl]]) (by simp [eH,V.one]) (by (simp; omega)) (by (simp; omega))<|cM (bB (id:=60) (bB (id:=52) t16 J) J) (aR (id:=60) (aR (id:=52) h16 DE) DE)<|bQ J J J (aR (id:=60) (aR (id:=52) h16 DE) DE) J J J J J<|bR ?_
  refine sP (id:=212) (l:=(t.nd.set n.toNat (⟨false,[],bD ([sf]),([bD ([aQ]),bD ([other])]).reverse,([((t.nd.length:Nat):Int),((t.nd.length+1:Nat):Int)]).reverse⟩:Nd))) (m:=([(aA t.nd n.toNat),(⟨true,bD ([w]),[],[],[]⟩:Nd)])) (f:=cN) (@J Blk<|bk 2 108 5<|List.map cN (t.nd.set n.toNat (⟨false,[],bD ([sf]),([bD ([aQ]),bD ([other])]).reverse,([((t.nd.length:Nat):Int),((t.nd.length+1:Nat):Int)]).reverse⟩:Nd))++[(cN<|aA t.nd n.toNat),[(V.bool true),(aE<|bD<|[w]),V.nilsl,V.nilsl,V.nilsl]]) J (.done ?_);refine aW<|aV (bB (id:=60) (bB (id:=52) t16 J) J) J J J<|bQ (bB (id:=60) (bB (id:=52) t12 J) J) J J (aR (id:=60) (aR (id:=52) h12 DE) DE) J J J J J<|aD<|bF ?_
  refine dJ (bI (u:=(V.agg [(V.ms 212 2 0<|t.nd.length+2)])) (bB (id:=60) (bB (id:=52) t12 J) J) (@J Blk<|bk 1 47 1 [[(V.ms 212 2 0<|t.nd.length+2)]])<|lB oB J J) (aY<|aM<|iV 0) (fE<|iK (@J Blk<|bk 2 108 5<|List.map cN<|t.nd.set n.toNat (⟨false,[],bD ([sf]),([bD ([aQ]),bD ([other])]).reverse,([((t.nd.length:Nat):Int),((t.nd.length+1:Nat):Int)]).reverse⟩:Nd)++[(aA t.nd n.toNat),(⟨true,bD ([w]),[],[],[]⟩:Nd)]) JR (l:=(t.nd.set n.toNat (⟨false,[],bD ([sf]),([bD ([aQ]),bD ([other])]).reverse,([((t.nd.length:Nat):Int),((t.nd.length+1:Nat):Int)]).reverse⟩:Nd)++[(aA t.nd n.toNat),(⟨true,bD ([w]),[],[],[]⟩:Nd)])) J SI (λ_=>by simp) ?_)<|aF ?_
  . rw [aDp hE]; unfold spN spO spK; rw [if_pos d7,if_pos d7]; simp [aGN,vH]
  . exact hE.symm
 have d7:=c3;refine aB<|W_g<|aX t16 h16 J J<|aJ t1<|aV t18 h18 J J<|dV (i:=n) (aM<|V.ms 212 1 0 t.nd.length) (aM<|iV n) h212 oB J OM OM<|dU (vs:=[(V.bool false),V.nilsl,(aE<|bD<|[sf]),(V.ms 52 1 0 2),(V.ms 60 1 0 2)]) (B':=(bk 1 108 5<|(List.map cN t.nd).set n.toNat [(V.bool false),V.nilsl,(aE<|bD<|[sf]),(V.ms 52 1 0 2),(V.ms 60 1 0 2)])) J J J h212 (rV (i:=n.toNat) OM J J J)<|bR<|aDx (id:=212) (rows:=List.map cN t.nd) (i:=n.toNat) (r':=[(V.bool false),(aE<|[]),(aE<|bD<|[sf]),(V.ms 52 1 0 2),(V.ms 60 1 0 2)]) (@J Blk<|bk 1 108 5<|(List.map cN t.nd).set n.toNat [(V.bool false),V.nilsl,(aE<|bD<|[sf]),(V.ms 52 1 0 2),(V.ms 60 1 0 2)]) (by (simp; omega)) J<|gI (id:=52) (id2:=212) (rows:=(List.map cN t.nd)) (i:=n.toNat) (off:=3) (r:=[(V.bool false),(aE<|[]),(aE<|bD<|[sf]),(V.ms 52 1 0 2),(V.ms 60 1 0 2)]) (m:=([bD ([aQ]),bD ([other])])) (g:=cL) DE (show _=(bk 1 54 1<|List.map cL<|[bD ([aQ]),bD ([other])]) from h52) (@J Blk<|bk 1 108 5<|(List.map cN t.nd).set n.toNat [(V.bool false),(aE<|[]),(aE<|bD<|[sf]),(V.ms 52 1 0 2),(V.ms 60 1 0 2)]) (by (simp; omega)) JR J ?_
 refine gI (id:=60) (id2:=212) (rows:=(List.map cN t.nd)) (i:=n.toNat) (off:=4) (r:=[(V.bool false),(aE<|[]),(aE<|bD<|[sf]),(aC<|[bD ([aQ]),bD ([other])]),(V.ms 60 1 0 2)]) (m:=([((t.nd.length:Nat):Int),((t.nd.length+1:Nat):Int)])) (g:=cI) DE (show _=(bk 1 3 1<|List.map cI<|[((t.nd.length:Nat):Int),((t.nd.length+1:Nat):Int)]) from (aR (id:=52) h60 DE)) (@J Blk<|bk 1 108 5<|(List.map cN t.nd).set n.toNat [(V.bool false),(aE<|[]),(aE<|bD<|[sf]),(aC<|[bD ([aQ]),bD ([other])]),(V.ms 60 1 0 2)]) (by (simp; omega)) JR J (.done ?_);refine W_g<|cM (bB (id:=60) (bB (id:=52) t16 J) J) (aR (id:=60) (aR (id:=52) h16 DE) DE)<|aV J (aR (id:=60) (aR (id:=52) h16 DE) DE) J J<|aV (bB (id:=60) (bB (id:=52) t17 J) J) (aR (id:=60) (aR (id:=52) h17 DE) DE) J J<|aJ (bB (id:=60) (bB (id:=52) t4 J) J)<|aS J J<|aI (dP ([w]) (by simp only [bD,List.append_nil]; omega)) J<|bN J J<|aS J J<|rW (l:=(t.nd.set n.toNat (⟨false,[],bD ([sf]),[bD ([aQ]),bD ([other])],[((t.nd.length:Nat):Int),((t.nd.length+1:Nat):Int)]⟩:Nd))) (f:=cN) (aM<|V.ms 212 1 0 t.nd.length) ((by (rw [aU,List.map_set]; rfl)):_=(bk 1 108 5<|List.map cN<|t.nd.set n.toNat (⟨false,[],bD ([sf]),[bD ([aQ]),bD ([other])],[((t.nd.length:Nat):Int),((t.nd.length+1:Nat):Int)]⟩:Nd))) SI (aM<|V.sl [(cN<|aA t.nd n.toNat),[(V.bool true),(aE<|bD<|[w]),V.nilsl,V.nilsl,V.nilsl]]) (by simp [eH,V.one]) (by (simp; omega)) (by (simp; omega))<|cM (bB (id:=60) (bB (id:=52) t16 J) J) (aR (id:=60) (aR (id:=52) h16 DE) DE)<|bQ J J J (aR (id:=60) (aR (id:=52) h16 DE) DE) J J J J J<|bR ?_
 refine sP (id:=212) (l:=(t.nd.set n.toNat (⟨false,[],bD ([sf]),[bD ([aQ]),bD ([other])],[((t.nd.length:Nat):Int),((t.nd.length+1:Nat):Int)]⟩:Nd))) (m:=([(aA t.nd n.toNat),(⟨true,bD ([w]),[],[],[]⟩:Nd)])) (f:=cN) (@J Blk<|bk 2 108 5<|List.map cN (t.nd.set n.toNat (⟨false,[],bD ([sf]),[bD ([aQ]),bD ([other])],[((t.nd.length:Nat):Int),((t.nd.length+1:Nat):Int)]⟩:Nd))++[(cN<|aA t.nd n.toNat),[(V.bool true),(aE<|bD<|[w]),V.nilsl,V.nilsl,V.nilsl]]) J (.done ?_);refine aW<|aV (bB (id:=60) (bB (id:=52) t16 J) J) J J J<|bQ (bB (id:=60) (bB (id:=52) t12 J) J) J J (aR (id:=60) (aR (id:=52) h12 DE) DE) J J J J J<|aD<|bF ?_
 refine dJ (bI (u:=(V.agg [(V.ms 212 2 0<|t.nd.length+2)])) (bB (id:=60) (bB (id:=52) t12 J) J) (@J Blk<|bk 1 47 1 [[(V.ms 212 2 0<|t.nd.length+2)]])<|lB oB J J) (aY<|aM<|iV 0) (fE<|iK (@J Blk<|bk 2 108 5<|List.map cN<|t.nd.set n.toNat (⟨false,[],bD ([sf]),[bD ([aQ]),bD ([other])],[((t.nd.length:Nat):Int),((t.nd.length+1:Nat):Int)]⟩:Nd)++[(aA t.nd n.toNat),(⟨true,bD ([w]),[],[],[]⟩:Nd)]) JR (l:=(t.nd.set n.toNat (⟨false,[],bD ([sf]),[bD ([aQ]),bD ([other])],[((t.nd.length:Nat):Int),((t.nd.length+1:Nat):Int)]⟩:Nd)++[(aA t.nd n.toNat),(⟨true,bD ([w]),[],[],[]⟩:Nd)])) J SI (λ_=>by simp) ?_)<|aF ?_
 . rw [aDp hE]; unfold spN spO spK; rw [if_neg d7,if_neg d7]; simp [aGN,vH]
 . exact hE.symm
theorem zV (l:Ts) (o:Ob) (s:Spl) (hb:Bd l.t) (ho:kS o=0):bK Tryz.prog 22 [(V.agg [(iV l.i),(V.sl (List.map cN l.t.nd))]),(V.agg [(iV o.i),(V.sl (List.map cT o.tr))]),(V.agg [(aE s.p),(iV s.a),(aE s.x)])] (V.tup [(V.agg [(iV ((fY l o s).1.i)),(V.sl (List.map cN ((fY l o s).1.t.nd)))]),(aC ((fY l o s).2.1)),(iV ((fY l o s).2.2))]):=by
 refine' pK [17] [⟨28,[0,1,2,3,4,5,6,7,8,9,10,11,12,13,14,15,16,17,18,19,20,21,22],[20],[]⟩] Tryz.func22 ?e λhB=>?_
 case e=>conv=>lhs; cbv
 dsimp only;have hal:=jS l.t.nd;refine aW<|bS (i:=3) (n:=0) (m:=2) (cs:=[(iV l.i),(V.sl<|List.map cN l.t.nd)]) J (cE J) J J J<|bS (i:=4) (n:=0) (m:=2) (cs:=[(iV o.i),(V.sl<|List.map cT o.tr)]) J (cE J) J J J<|bS (i:=5) (n:=0) (m:=3) (cs:=[(aE s.p),(iV s.a),(aE s.x)]) J (cE J) J J J<|bM (i:=6) (n:=0) (m:=2) J (cE J) J<|aP<|aD<|aW<|aV J J J J<|aV J J J J<|bN J J<|bM (i:=9) (n:=0) (m:=4) J (cE J) J<|bQ J J J J J J J J J<|tA ?_
 refine aW<|aV J J J J<|aV J J J J<|aI (aE7 l o s hb) J<|aD<|aO<|aP<|bP J J<|bR ?_
 refine aH J (λc1=>?_) λc1=>?_
 . 
  have c0:=c1;refine aO<|aV J J J J<|aP<|bQ J J J J J J J J J<|aP<|aD<|aK ?_
  refine fI (bI (u:=(V.agg [(iV l.i),(V.sl<|List.map cN l.t.nd)])) J (@J Blk<|bk 1 49 2 [[(iV l.i),(V.sl<|List.map cN l.t.nd)]])<|lB oB J J) (aY<|aM V.nilsl) (aY<|aM<|iV (if jL l o≠0 then jL l o else wN s l.i)) (cK (aF ?_)<|cA ?_ (λ_=>by simp)) (bH ?_)<|aF ?_
  . by_cases zq1:jL l o≠0
    . rw [wK zq1]
    . rw [if_neg zq1] at c0; rw [wM zq1 c0]
  . by_cases zq1:jL l o≠0
    . rw [wK zq1]
    . rw [if_neg zq1] at c0; rw [wM zq1 c0]
  . by_cases zq1:jL l o≠0
    . rw [wK zq1]
    . rw [if_neg zq1] at c0; rw [wM zq1 c0]
  . by_cases zq1:jL l o≠0
    . rw [wK zq1]; exact if_pos zq1
    . rw [if_neg zq1] at c0; rw [wM zq1 c0]; exact if_neg zq1
 have c0:=c1;have zq1: ¬jL l o≠0:=λe=>c0 (by rw [if_pos e]; exact e)
 have zq2: ¬wN s l.i≠0:=λe=>c0 (by rw [if_neg zq1]; exact e)
 have ht:=aBV<|Decidable.not_not.1 zq1
 obtain ⟨hi1,hi2,hv,hw0,_,hl0⟩:=tL ht.1;have hbn:=hb.n;obtain ⟨p1,p2,p3,p4,p5⟩:=aLX zq2;have p6:=eL p1;have p7:=eL p5;have p8:(dY s).length=s.p.length+1:=by simp [dY,bD]
 have hll:=oZ hv;refine aB<|aW<|aX J J J J<|aX J J J J<|aS J J<|aS J J<|sM (bO J dQ) (show bK _ _ _ (aE<|dY s) from dP [s.p,[s.a]] (by simp only [bD,List.append_nil,List.length_append,List.length_cons,List.length_nil]; omega))<|aD<|aW<|aX J J J J<|aV J J J J<|aP ?_
 refine aI (aCF l.t o (dY s) hb ho OM) J<|aP<|bE J J<|bE J J<|bE J J<|aP<|aP<|aD<|aO<|aP<|bP J J<|bR ?_
 refine aH J (λc2=>?_) λc2=>?_
 . 
  have zq3:(bJ l.t o<|dY s).2.2≠0:=c2;refine cS ?_;refine dE (λT H=>T 6=(cG 6)/\T 7=V.nilsl/\T 8=(iV<|(bJ l.t o<|dY s).2.2)/\H 3=(bk 1 49 2 [[(iV l.i),(V.sl<|List.map cN l.t.nd)]])/\H 4=(bk 1 31 2 [[(iV o.i),(V.sl<|List.map cT o.tr)]])/\H 5=(bk 1 62 3 [[(aE s.p),(iV s.a),(aE s.x)]])/\H 6=(bk 1 49 2 [[(iV l.i),(V.sl<|List.map cN l.t.nd)]])/\H 9=(bk 1 66 4 [[(iV l.i),(V.sl<|List.map cN l.t.nd),(iV o.i),(V.sl<|List.map cT o.tr)]])/\H 17=fL/\H 20=fL/\True) ?_ ?_
  . 
   refine aV J J J J<|aP<|bQ J J J J J J J J J<|aP<|aP ?_
   exact eS ⟨J,J,J,J,J,J,J,J,J,J,trivial⟩
  intro T H ⟨t6,t7,t8,h3,h4,h5,h6,h9,h17,h20,_⟩;refine aK ?_;refine fI (bI (u:=(V.agg [(iV l.i),(V.sl<|List.map cN l.t.nd)])) t6 h6<|lB oB J J) (aY t7) (aY t8) (cK (aF ?_)<|cA ?_ (λ_=>by simp)) (bH ?_)<|aF ?_
  . rw [wL zq1 zq2 zq3]
    try rfl
  . rw [wL zq1 zq2 zq3]
    try rfl
  . rw [wL zq1 zq2 zq3]
    try rfl
  . rw [wL zq1 zq2 zq3]
    try rfl
 have zq3: ¬(bJ l.t o<|dY s).2.2≠0:=c2;refine aB<|cS ?_
 refine dE (λT H=>T 3=(cG 3)/\T 5=(cG 5)/\T 6=(cG 6)/\T 9=(cG 9)/\T 11=(aE<|dY s)/\T 12=(iV<|(bJ l.t o<|dY s).1)/\T 13=(aE<|(bJ l.t o<|dY s).2.1)/\T 53=(V.bool<|decide ((0:Int) < ((((bJ l.t o<|dY s).2.1).length:Nat):Int)))/\H 3=(bk 1 49 2 [[(iV l.i),(V.sl<|List.map cN l.t.nd)]])/\H 4=(bk 1 31 2 [[(iV o.i),(V.sl<|List.map cT o.tr)]])/\H 5=(bk 1 62 3 [[(aE s.p),(iV s.a),(aE s.x)]])/\H 6=(bk 1 49 2 [[(iV 0),V.nilsl]])/\H 9=(bk 1 66 4 [[(iV l.i),(V.sl<|List.map cN l.t.nd),(iV o.i),(V.sl<|List.map cT o.tr)]])/\H 17=fL/\H 20=fL/\True) ?_ ?_
 . 
  refine aP<|bA J<|eD J J ?_
  exact eS ⟨J,J,J,J,J,J,J,J,J,J,J,J,J,J,J,trivial⟩
 intro T H ⟨t3,t5,t6,t9,t11,t12,t13,t53,h3,h4,h5,h6,h9,h17,h20,_⟩;refine aH t53 (λc3=>?_) λc3=>?_
 . 
  have zq4:0 < (bJ l.t o<|dY s).2.1.length:=OM
  refine aO<|aV t3 h3 J J<|aJ t13<|aS J J<|bQ t6 J J h6 J J J J J<|aP<|aD<|aK ?_
  refine fI (bI (u:=(V.agg [(iV l.i),(V.sl<|List.map cN l.t.nd)])) t6 (@J Blk<|bk 1 49 2 [[(iV l.i),(V.sl<|List.map cN l.t.nd)]])<|lB oB J J) (aY<|aM<|V.sl [[(aE<|(bJ l.t o<|dY s).2.1)]]) (aY<|aM<|iV 0) (cK (aF ?_)<|cA ?_ (λ_=>by simp)) (eM SI ?_)<|aF ?_
  . rw [wO zq1 zq2 zq3 zq4]
    try rfl
  . rw [wO zq1 zq2 zq3 zq4]
    try rfl
  . rw [wO zq1 zq2 zq3 zq4]
    try rfl
  . rw [wO zq1 zq2 zq3 zq4]
    try rfl
 have zq4: ¬0 < (bJ l.t o<|dY s).2.1.length:=OM
 have q4:(bJ l.t o<|dY s).2.1=[]:=List.length_eq_zero_iff.1 OM;have hnd:=aCa (Decidable.not_not.1 zq3) q4 hv;refine aB<|aO<|aV t9 h9 J J<|aJ t12<|aI (xB l o ((bJ l.t o<|dY s).1) hnd.1 hnd.2.1) J<|fF J<|bR ?_
 refine cU J (λc4=>?_) (λc4=>?_)
 . 
  have zq5:(qJ l o s).lf=false:=by simpa [qJ] using c4
  refine aO<|aV t3 h3 J J<|bQ t6 J J h6 J J J J J<|aP<|aD<|aK ?_
  refine fI (bI (u:=(V.agg [(iV l.i),(V.sl<|List.map cN l.t.nd)])) t6 (@J Blk<|bk 1 49 2 [[(iV l.i),(V.sl<|List.map cN l.t.nd)]])<|lB oB J J) (aY<|aM V.nilsl) (aY<|aM<|iV 10) (cK (aF ?_)<|cA ?_ (λ_=>by simp)) (bH ?_)<|aF ?_
  . rw [wR zq1 zq2 zq3 zq4 zq5]
    try rfl
  . rw [wR zq1 zq2 zq3 zq4 zq5]
    try rfl
  . rw [wR zq1 zq2 zq3 zq4 zq5]
    try rfl
  . rw [wR zq1 zq2 zq3 zq4 zq5]
    try rfl
 have zq5: ¬(qJ l o s).lf=false:=by simpa [qJ] using c4
 have hac:=(eL (hw0 (bJ l.t o<|dY s).1.toNat OM).1).1;have hba:(qJ l o s).ac.length<=1024:=hac;have hlc:(qJ l o s).lf=true:=by simpa using zq5
 have bh1:=aAg ho (aA l.t.nd (bJ l.t o<|dY s).1.toNat).ac s.x;have bh2:=aAg ho (dY s) s.x;have b0:(aA (tI l o s) 0).length=(qJ l o s).ac.length+s.x.length:=by show (bD [_,_]).length=_; simp [bD]
 have b1:(aA (tI l o s) 1).length=(dY s).length+s.x.length:=by show (bD [_,_]).length=_; simp [bD]
 have hbl:(tI l o s).length=2:=J;refine aB<|aW<|cM t3 h3<|aX J h3 J J<|aJ t12<|dR (i:=((bJ l.t o<|dY s).1)) (aM<|V.sl<|List.map cN l.t.nd) (aM<|iV<|(bJ l.t o<|dY s).1) OM OM J<|dB (cs':=(List.drop 1<|cN<|aA l.t.nd ((bJ l.t o<|dY s).1).toNat)) J J<|aL J J<|aD<|aW<|aP<|aX t5 h5 J J<|aS J J ?_
 refine aI (dP ([(aA l.t.nd ((bJ l.t o<|dY s).1).toNat).ac,s.x]) (by simp only [bD,List.append_nil,List.length_append,List.length_cons,List.length_nil]; omega)) J<|aJ t11<|aX t5 h5 J J<|aS J J<|aI (dP ([dY s,s.x]) (by simp only [bD,List.append_nil,List.length_append,List.length_cons,List.length_nil]; omega)) J<|aS J J<|aD<|aW<|gG (i:=17) (n:=0) J (cE h17)<|tA<|aW<|aP<|aI4 (n:=2) J J ?_
 refine aD (aG λQ5 n5 x5 y5 z5=>?_);refine cC (λmm T H=> ∃ (k:Nat) (v:Nat),mm=2 - k/\T 3=(cG 3)/\T 5=(cG 5)/\T 6=(cG 6)/\T 9=(cG 9)/\T 11=(aE<|dY s)/\T 12=(iV<|(bJ l.t o<|dY s).1)/\T 15=(aE<|(aA l.t.nd ((bJ l.t o<|dY s).1).toNat).ac)/\T 17=(V.ms 17 v 0<|(msK o (tI l o s) k).length)/\T 80=(aC<|tI l o s)/\T 81=(iV ((2:Nat):Int))/\T 82=(iV ((k:Nat):Int))/\H 3=(bk 1 49 2 [[(iV l.i),(V.sl<|List.map cN l.t.nd)]])/\H 4=(bk 1 31 2 [[(iV o.i),(V.sl<|List.map cT o.tr)]])/\H 5=(bk 1 62 3 [[(aE s.p),(iV s.a),(aE s.x)]])/\H 6=(bk 1 49 2 [[(iV 0),V.nilsl]])/\H 9=(bk 1 66 4 [[(iV l.i),(V.sl<|List.map cN l.t.nd),(iV o.i),(V.sl<|List.map cT o.tr)]])/\H 17=(bz v 54 1<|List.map cL<|msK o (tI l o s) k)/\H 20=fL/\(k<=2)/\(∀ j,j < k->(aA (tI l o s) j).length<=1024)) ?_ ?_
 . 
  refine ⟨_,0,1,J,t3,t5,t6,t9,t11,t12,J,(bL (aM<|V.ms 17 1 0 0) JR),(bL (aM<|V.sl [[(aE<|bD<|[(aA l.t.nd ((bJ l.t o<|dY s).1).toNat).ac,s.x])],[(aE<|bD<|[dY s,s.x])]]) JR),J,(bL (aM<|iV 0) J),h3,h4,h5,h6,h9,(bL (@J Blk<|bz 1 54 1 []) JR),h20,?_,?_⟩
  . omega
  . intro j hj; omega
 intro mm T H ⟨k,v,hmm,t3,t5,t6,t9,t11,t12,t15,t17,t80,t81,t82,h3,h4,h5,h6,h9,h17,h20,hk,hc⟩ Q6 p16 p26 p36;have q1:=aNj o (tI l o s) k;refine aW<|bZ t82 t81<|bR ?_
 refine aH J (λc7=>?_) λc7=>?_
 . 
  have hk2:k=0\/k=1:=OM
  refine aB (aG λQ8 n8 x8 y8 z8=>(aW<|dA (i:=k) t80 t82<|aL J J<|aD<|aO<|aP<|bA J<|eD J J<|bR ?_));refine aH J (λc9=>?_) λc9=>?_
  . 
   have zq6:1024 < (qJ l o s).ac.length+s.x.length\/1024 < (dY s).length+s.x.length:=by rcases hk2 with e|e <;> subst e <;> omega
   refine aO<|aV t3 h3 J J<|bQ t6 J J h6 J J J J J<|aP<|aD<|aK<|y8 _ _<|p26 _ _<|y5 _ _ ?_
   refine fI (bI (u:=(V.agg [(iV l.i),(V.sl<|List.map cN l.t.nd)])) t6 (@J Blk<|bk 1 49 2 [[(iV l.i),(V.sl<|List.map cN l.t.nd)]])<|lB oB J J) (aY<|aM V.nilsl) (aY<|aM<|iV 3) (cK (aF ?_)<|cA ?_ (λ_=>by simp)) (bH ?_)<|aF ?_
   . rw [uE zq1 zq2 zq3 zq4 zq5 zq6]
     try rfl
   . rw [uE zq1 zq2 zq3 zq4 zq5 zq6]
     try rfl
   . rw [uE zq1 zq2 zq3 zq4 zq5 zq6]
     try rfl
   . rw [uE zq1 zq2 zq3 zq4 zq5 zq6]
     try rfl
  refine aB<|aW<|aV t9 h9 J J<|aP<|aI (aAH l o (aA (tI l o s) k) ho) J<|fF J<|bR ?_
  refine mJ J (λc10=>?_) (λc10=>?_)
  . 
   have d1:(eA o<|aA (tI l o s) k).isSome=false:=by simpa using c10
   refine eI<|aJ t17<|aP<|aS J J<|eX (l:=(msK o (tI l o s) k)) (f:=cL) (x:=(aA (tI l o s) k)) (aM<|V.ms 17 v 0<|(msK o (tI l o s) k).length) h17 JR (aM<|V.sl [[(aE<|aA (tI l o s) k)]])<|aD<|n8 _ _ (.done (eI<|cF t82<|aD ?_))
   refine p16 _ _ _ ?_ ⟨(k+1),(v+1),J,t3,t5,t6,t9,t11,t12,t15,(bL (aM<|V.ms 17 (v+1) 0<|((msK o (tI l o s) k).length)+1) (by (rw [aId OM d1,List.length_append]; rfl))),t80,t81,(bL (cO<|k+1) JR),h3,h4,h5,h6,h9,(bL (@J Blk<|bz (v+1) 54 1<|List.map cL<|msK o (tI l o s) k++[(aA (tI l o s) k)]) (by (rw [aId OM d1]; done))),h20,?_,?_⟩
   . omega
   . omega
   . intro j hj
     by_cases e:j=k
     . subst e; omega
     . exact hc j OM
  have d1:(eA o<|aA (tI l o s) k).isSome=true:=by simpa using c10
  refine dH<|n8 _ _ (.done (eI<|cF t82<|aD ?_))
  refine p16 _ _ _ ?_ ⟨(k+1),v,J,t3,t5,t6,t9,t11,t12,t15,(bL t17 (by (rw [aLp OM d1]; done))),t80,t81,(bL (cO<|k+1) JR),h3,h4,h5,h6,h9,(bL h17 (by (rw [aLp OM d1]; done))),h20,?_,?_⟩
  . omega
  . omega
  . intro j hj
    by_cases e:j=k
    . subst e; omega
    . exact hc j OM
 have zq6: ¬(1024 < (qJ l o s).ac.length+s.x.length\/1024 < (dY s).length+s.x.length):=by have:=hc 0 OM; have:=hc 1 OM; omega
 have hme:=aMa (o:=o) (l:=tI l o s) (k:=k) OM;refine aT<|p36 _ _ _<|x5 _ _ (.done (cS<|W_g<|aJ t17<|dW J h17 SI<|eD J J<|bR ?_))
 refine .freeze 17 (.done ?_);refine aH J (λc11=>?_) λc11=>?_
 . 
  have zq7:0 < (msW o<|tI l o s).length:=by rw [<- hme]; omega
  refine aO<|aV (bB t3 rfl) (aR (id:=17) h3 DE) rfl rfl<|aJ (bB t17<|mL h17 SI (l:=(msK o (tI l o s) k)) rfl JR)<|aI (zO (msK o (tI l o s) k) OM (by rw [hme]; intro w hw; have hm:=(List.mem_filter.1 hw).1; obtain ⟨j,j1,rfl⟩:=gC hm; have:=hc j OM; omega)) rfl<|bQ (bB t6 rfl) rfl rfl (aR (id:=17) h6 DE) rfl rfl rfl rfl rfl<|aP<|aD<|aK ?_
  refine fI (bI (u:=(V.agg [(iV l.i),(V.sl<|List.map cN l.t.nd)])) (bB t6 J) (@J Blk<|bk 1 49 2 [[(iV l.i),(V.sl<|List.map cN l.t.nd)]])<|lB oB J J) (aY<|aM<|aC<|oD<|msK o (tI l o s) k) (aY<|aM<|iV 0) (cK (aF ?_)<|cA ?_ (λ_=>by simp)) (cA ?_ (λ_=>by simp))<|aF ?_
  . rw [mW zq1 zq2 zq3 zq4 zq5 zq6 zq7]
  . rw [mW zq1 zq2 zq3 zq4 zq5 zq6 zq7]
  . rw [mW zq1 zq2 zq3 zq4 zq5 zq6 zq7,hme]
  . rw [mW zq1 zq2 zq3 zq4 zq5 zq6 zq7]
 have zq7: ¬0 < (msW o<|tI l o s).length:=by rw [<- hme]; omega
 have m0:=List.length_eq_zero_iff.1 (show (msW o<|tI l o s).length=0 by omega);unfold tI at m0;rw [aHZ] at m0;have k1:(eA o<|bD [(qJ l o s).ac,s.x]).isSome=true:=by by_cases e:(eA o<|bD [(qJ l o s).ac,s.x]).isSome=true; exact e; (rw [if_neg e] at m0; simp at m0)
 have k2:(eA o<|bD [dY s,s.x]).isSome=true:=by by_cases e:(eA o<|bD [dY s,s.x]).isSome=true; exact e; (rw [if_neg e] at m0; simp at m0)
 refine aB<|aO<|cM (bB t3 J) (aR (id:=17) h3 DE)<|aV J (aR (id:=17) h3 DE) J J<|aI (oV l.t hb) J<|bA J<|iC J J<|bR ?_
 refine aH J (λc12=>?_) λc12=>?_
 . 
  have zq8:128<=(eP l.t.nd).length:=by rw [<- hll]; have q:=c12; unfold fU; omega
  refine aO<|aV (bB t3 J) (aR (id:=17) h3 DE) J J<|bQ (bB t6 J) J J (aR (id:=17) h6 DE) J J J J J<|aP<|aD<|aK ?_
  refine fI (bI (u:=(V.agg [(iV l.i),(V.sl<|List.map cN l.t.nd)])) (bB t6 J) (@J Blk<|bk 1 49 2 [[(iV l.i),(V.sl<|List.map cN l.t.nd)]])<|lB oB J J) (aY<|aM V.nilsl) (aY<|aM<|iV 11) (cK (aF ?_)<|cA ?_ (λ_=>by simp)) (bH ?_)<|aF ?_
  . rw [uS zq1 zq2 zq3 zq4 zq5 zq6 zq7 zq8]
    try rfl
  . rw [uS zq1 zq2 zq3 zq4 zq5 zq6 zq7 zq8]
    try rfl
  . rw [uS zq1 zq2 zq3 zq4 zq5 zq6 zq7 zq8]
    try rfl
  . rw [uS zq1 zq2 zq3 zq4 zq5 zq6 zq7 zq8]
    try rfl
 have zq8: ¬128<=(eP l.t.nd).length:=by rw [<- hll]; have q:=c12; unfold fU; omega
 refine aB<|W_d (by exact (oP (congrArg Blk.live<|aR (id:=17) h20 DE) qQ))<|cM (bB t3 J) (aR (id:=17) h3 DE)<|aV J (aR (id:=17) h3 DE) J J<|aJ (bB t12 J)<|cM (bB t5 J) (aR (id:=17) h5 DE)<|aV J (aR (id:=17) h5 DE) J J<|aV (bB t9 J) (aR (id:=17) h9 DE) J J<|aJ (bB t15 J)<|cM (bB t5 J) (aR (id:=17) h5 DE)<|aV J (aR (id:=17) h5 DE) J J<|aI (sN l o ((aA l.t.nd ((bJ l.t o<|dY s).1).toNat).ac) s.x ho OM OM (by exact k1)) J<|aJ (bB t11 J)<|aV (bB t9 J) (aR (id:=17) h9 DE) J J<|aJ (bB t11 J)<|cM (bB t5 J) (aR (id:=17) h5 DE) ?_
 refine aV J (aR (id:=17) h5 DE) J J<|aI (sN l o (dY s) s.x ho OM OM (by exact k2)) J<|aI (aEU l.t ((bJ l.t o<|dY s).1) s.x (lH o ((aA l.t.nd ((bJ l.t o<|dY s).1).toNat).ac) s.x) (dY s) (lH o (dY s) s.x) hb OM OM OM OM) J<|aP<|bE J J<|bE J J<|bM (i:=20) (n:=0) (m:=1) J (cE<|aR (id:=17) h20 DE) J<|bQ J J J J J J J J J<|aD<|aO<|aP<|bP J J<|bR ?_
 refine aH J (λc13=>?_) λc13=>?_
 . 
  have zq9:rfG l o s≠0:=c13;refine aO<|aV (bB t3 J) (aR (id:=17) h3 DE) J J<|aP<|bQ (bB t6 J) J J (aR (id:=17) h6 DE) J J J J J<|aP<|aD<|aK ?_
  refine fI (bI (u:=(V.agg [(iV l.i),(V.sl<|List.map cN l.t.nd)])) (bB t6 J) (@J Blk<|bk 1 49 2 [[(iV l.i),(V.sl<|List.map cN l.t.nd)]])<|lB oB J J) (aY<|aM V.nilsl) (aY<|aM<|iV<|nJ l.t ((bJ l.t o<|dY s).1) s.x (lH o ((aA l.t.nd ((bJ l.t o<|dY s).1).toNat).ac) s.x) (dY s)<|lH o (dY s) s.x) (cK (aF ?_)<|cA ?_ (λ_=>by simp)) (bH ?_)<|aF ?_
  . rw [wU zq1 zq2 zq3 zq4 zq5 zq6 zq7 zq8 zq9]
    try rfl
  . rw [wU zq1 zq2 zq3 zq4 zq5 zq6 zq7 zq8 zq9]
    try rfl
  . rw [wU zq1 zq2 zq3 zq4 zq5 zq6 zq7 zq8 zq9]
    try rfl
  . rw [wU zq1 zq2 zq3 zq4 zq5 zq6 zq7 zq8 zq9]
    try rfl
 have zq9: ¬rfG l o s≠0:=c13;refine aB ?_;refine dE (λT H=>T 6=(cG 6)/\T 7=V.nilsl/\T 8=(iV 0)/\H 3=(bk 1 49 2 [[(iV l.i),(V.sl<|List.map cN l.t.nd)]])/\H 4=(bk 1 31 2 [[(iV o.i),(V.sl<|List.map cT o.tr)]])/\H 5=(bk 1 62 3 [[(aE s.p),(iV s.a),(aE s.x)]])/\H 6=(bk 1 49 2 [[(iV l.i),(V.sl<|List.map cN<|(spT l.t ((bJ l.t o<|dY s).1) s.x (lH o ((aA l.t.nd ((bJ l.t o<|dY s).1).toNat).ac) s.x) (dY s)<|lH o (dY s) s.x).nd)]])/\H 9=(bk 1 66 4 [[(iV l.i),(V.sl<|List.map cN l.t.nd),(iV o.i),(V.sl<|List.map cT o.tr)]])/\((H 17).ver=v/\(H 17).live=false)/\H 20=(bk 1 47 1 [[(V.sl<|List.map cN<|(spT l.t ((bJ l.t o<|dY s).1) s.x (lH o ((aA l.t.nd ((bJ l.t o<|dY s).1).toNat).ac) s.x) (dY s)<|lH o (dY s) s.x).nd)]])/\True) ?_ ?_
 . 
  refine cM (bB t3 J) (aR (id:=17) h3 DE)<|aV J (aR (id:=17) h3 DE) J J<|aV J J J J<|bN J J<|bQ (bB t6 J) J J (aR (id:=17) h6 DE) J J J J J<|aP<|aP ?_
  exact eS ⟨(bB t6 J),J,J,(aR (id:=17) h3 DE),(aR (id:=17) h4 DE),(aR (id:=17) h5 DE),J,(aR (id:=17) h9 DE),(gH<|cE h17),J,trivial⟩
 intro T H ⟨t6,t7,t8,h3,h4,h5,h6,h9,h17,h20,_⟩;refine bF ?_;refine fI (bI (u:=(V.agg [(iV l.i),(V.sl<|List.map cN<|(spT l.t ((bJ l.t o<|dY s).1) s.x (lH o ((aA l.t.nd ((bJ l.t o<|dY s).1).toNat).ac) s.x) (dY s)<|lH o (dY s) s.x).nd)])) t6 h6<|lB oB J J) (aY t7) (aY t8) (cK (aF ?_)<|cA ?_ (λ_=>by simp)) (bH ?_)<|aF ?_
 . rw [rC zq1 zq2 zq3 zq4 zq5 zq6 zq7 zq8 zq9]
   try rfl
 . rw [rC zq1 zq2 zq3 zq4 zq5 zq6 zq7 zq8 zq9]
   try rfl
 . rw [rC zq1 zq2 zq3 zq4 zq5 zq6 zq7 zq8 zq9]
   try rfl
 . rw [rC zq1 zq2 zq3 zq4 zq5 zq6 zq7 zq8 zq9]
   try rfl
theorem oY (a b:List Int):bK Tryz.prog 113 [(aE a),(aE b)] (iV ((gJ a b:Nat):Int)):=by
 refine' pK [] [] Tryz.func113 ?e λhB=>?_
 case e=>conv=>lhs; cbv
 dsimp only;refine aW<|aD<|aW<|aD (aG λQ1 n1 x1 y1 z1=>?_)
 refine cC (λmm T H=> ∃ (k:Nat),mm=a.length - k/\T 0=(aE a)/\T 1=(aE b)/\T 5=(iV ((k:Nat):Int))/\(k<=a.length)/\(k<=gJ a b)) ?_ ?_
 . 
  refine ⟨_,0,J,J,J,(bL (aM<|iV 0) J),?_,?_⟩
  . omega
  . exact Nat.zero_le _
 intro mm T H ⟨k,hmm,t0,t1,t5,hk,hc⟩ Q2 p12 p22 p32;refine aO<|aJ t5<|aJ t0<|bA J<|bZ J J<|aP ?_
 refine bU 5 (λT H=>T 0=(aE a)/\T 1=(aE b)/\T 5=(iV ((k:Nat):Int))/\T 15=(V.bool<|decide ((((k:Nat):Int) < ((a.length:Nat):Int))/\(((k:Nat):Int) < ((b.length:Nat):Int))))/\True) ?_ ?_
 . 
  by_cases g3:((k:Nat):Int) < ((a.length:Nat):Int)
  . 
   refine aN (bY g3 J)<|aJ t5<|aN (bY g3 J)<|aJ t1<|aN (bY g3 J)<|bA J<|aN (bY g3 J)<|bZ J J<|bV (bY g3 J) J ?_
   exact ⟨t0,t1,t5,(eT g3),trivial⟩
  . 
   refine bW (bX g3 J)<|bW (bX g3 J)<|bW (bX g3 J)<|bW (bX g3 J)<|bT (bX g3 J) J ?_
   exact ⟨t0,t1,t5,(eU g3),trivial⟩
 intro T H ⟨t0,t1,t5,t15,_⟩;refine aJ t15 ?_;refine bU 10 (λT H=>T 0=(aE a)/\T 1=(aE b)/\T 5=(iV ((k:Nat):Int))/\T 26=(V.bool<|decide (((((k:Nat):Int) < ((a.length:Nat):Int))/\(((k:Nat):Int) < ((b.length:Nat):Int)))/\((aA a k)=(aA b k))))/\True) ?_ ?_
 . 
  by_cases g4:(((k:Nat):Int) < ((a.length:Nat):Int))/\(((k:Nat):Int) < ((b.length:Nat):Int))
  . 
   refine aN (bY g4 J)<|aJ t0<|aN (bY g4 J)<|aJ t5<|aN (bY g4 J)<|dA (i:=k) (aM<|aE a) (cO k)<|aN (bY g4 J)<|aL J J<|aN (bY g4 J)<|aJ t1<|aN (bY g4 J)<|aJ t5<|aN (bY g4 J)<|dA (i:=k) (aM<|aE b) (cO k)<|aN (bY g4 J)<|aL J J ?_
   refine aN (bY g4 J)<|eV J J<|bV (bY g4 J) J ?_
   exact ⟨t0,t1,t5,(eT g4),trivial⟩
  . 
   refine bW (bX g4 J)<|bW (bX g4 J)<|bW (bX g4 J)<|bW (bX g4 J)<|bW (bX g4 J)<|bW (bX g4 J)<|bW (bX g4 J)<|bW (bX g4 J)<|bW (bX g4 J)<|bT (bX g4 J) J ?_
   exact ⟨t0,t1,t5,(eU g4),trivial⟩
 intro T H ⟨t0,t1,t5,t26,_⟩;refine bR ?_;refine aH t26 (λc5=>?_) λc5=>?_
 . 
  refine aB (fZ λQ6 n6 x6 y6 z6=>(eI<|aJ t5<|cF J<|aD<|n6 _ _ ?_));refine p12 _ _ _ ?_ ⟨(k+1),J,t0,t1,(bL (cO<|k+1) JR),?_,?_⟩
  . omega
  . omega
  . exact xX hc OM OM OM
 refine aT<|p32 _ _ _<|x1 _ _ (.done (aW<|aJ t5<|aD<|bF ?_))
 refine aZ (cO k)<|aF ?_
 . rw [tY hc OM]
theorem lN (a b:List Int):bK Tryz.prog 63 [(aE a),(aE b)] (V.bool (decide (a=b))):=by
 refine' pK [] [] Tryz.func63 ?e λhB=>?_
 case e=>conv=>lhs; cbv
 dsimp only;refine aW<|aD<|aW<|aP<|bA J<|aP<|bA J<|eV J J<|aP ?_
 refine bU 7 (λT H=>T 17=(V.bool<|decide ((((a.length:Nat):Int)=((b.length:Nat):Int))/\(((gJ a b:Nat):Int)=((a.length:Nat):Int))))/\True) ?_ ?_
 . 
  by_cases g1:((a.length:Nat):Int)=((b.length:Nat):Int)
  . 
   refine aN (bY g1 J)<|aP<|aN (bY g1 J)<|aP<|aN (bY g1 J) ?_
   have q2:=kX a b;have q3:=mV a b;refine aI (oY a b) J<|aN (bY g1 J)<|aP<|aN (bY g1 J)<|bA J<|aN (bY g1 J)<|eV J J<|bV (bY g1 J) J ?_
   exact ⟨(eT g1),trivial⟩
  . 
   refine bW (bX g1 J)<|bW (bX g1 J)<|bW (bX g1 J)<|bW (bX g1 J)<|bW (bX g1 J)<|bW (bX g1 J)<|bT (bX g1 J) J ?_
   exact ⟨(eU g1),trivial⟩
 intro T H ⟨t17,_⟩;refine aJ t17<|R_q ?_
 refine aZ (aM<|V.bool<|decide ((((a.length:Nat):Int)=((b.length:Nat):Int))/\(((gJ a b:Nat):Int)=((a.length:Nat):Int))))<|cH ?_
 . exact aKq a b
theorem aAD (a b:List (List Int)):bK Tryz.prog 23 [(aC a),(aC b)] (V.bool (decide (a=b))):=by
 refine' pK [] [] Tryz.func23 ?e λhB=>?_
 case e=>conv=>lhs; cbv
 dsimp only;refine aW<|aD<|aO<|aP<|bA J<|aP<|bA J<|bP J J<|bR ?_
 refine aH J (λc1=>?_) λc1=>?_
 . 
  refine aO<|aD<|aK ?_
  refine aZ (aM<|V.bool false)<|cH ?_
  . exact (decide_eq_false (λe=>by subst e; omega)).symm
 refine aB<|aO<|aD (aG λQ2 n2 x2 y2 z2=>?_)
 refine cC (λmm T H=> ∃ (k:Nat),mm=a.length - k/\T 0=(aC a)/\T 1=(aC b)/\T 5=(iV ((k:Nat):Int))/\(k<=a.length)/\(a.length=b.length)/\(∀ j,j < k->aA a j=aA b j)) ?_ ?_
 . 
  refine ⟨_,0,J,J,J,(bL (aM<|iV 0) J),?_,?_,?_⟩
  . omega
  . omega
  . intro j hj; omega
 intro mm T H ⟨k,hmm,t0,t1,t5,hk,hl,hc⟩ Q3 p13 p23 p33;refine aO<|aJ t5<|aJ t0<|bA J<|bZ J J<|bR ?_
 refine aH J (λc4=>?_) λc4=>?_
 . 
  refine aB (aG λQ5 n5 x5 y5 z5=>(aW<|aJ t0<|aJ t5<|dA (i:=k) (aM<|aC a) (cO k)<|aL J J<|aJ t1<|aJ t5<|dA (i:=k) (aM<|aC b) (cO k)<|aL J J<|aI (lN (aA a k)<|aA b k) J<|qT J<|bR ?_));refine fN J (λc6=>?_) λc6=>?_
  . 
   have d1:=c6;refine aW<|aD<|bF<|y5 _ _<|p23 _ _<|y2 _ _ ?_
   refine aZ (aM<|V.bool false)<|cH ?_
   . exact (decide_eq_false (λe=>d1 (by subst e; rfl))).symm
  have d1:=Decidable.not_not.1 c6;refine dH<|n5 _ _ (.done (eI<|aJ t5<|cF J<|aD ?_))
  refine p13 _ _ _ ?_ ⟨(k+1),J,t0,t1,(bL (cO<|k+1) JR),?_,?_,?_⟩
  . omega
  . omega
  . omega
  . intro j hj
    by_cases e:j=k
    . subst e; exact d1
    . exact hc j OM
 refine aT<|p33 _ _ _<|x2 _ _ (.done (aW<|aD<|bF ?_))
 refine aZ (aM<|V.bool true)<|cH ?_
 . exact (decide_eq_true (jT hl λj hj=>hc j OM)).symm
abbrev pM:=(⟨((2:Int)),([(⟨[1],[0]⟩:Tr),(⟨[0,1],[1,2]⟩:Tr)])⟩:Ob)
abbrev kQ:=(fY ((nE ((2:Int)))) pM (⟨([]),((0:Int)),([1])⟩:Spl))
abbrev mU:=(cR ((nE ((2:Int)))) (⟨((2:Int)),([])⟩:Ob))
abbrev aAm:=(bk 1 28 5 [[(iV ((iH ((nE ((2:Int)))) pM).m.i)),(iV ((iH ((nE ((2:Int)))) pM).m.s)),(aC ((iH ((nE ((2:Int)))) pM).m.nx)),(aC ((iH ((nE ((2:Int)))) pM).m.ot)),(aC ((iH ((nE ((2:Int)))) pM).acc))]])
abbrev mA:=(cR ((nE ((2:Int)))) pM)
abbrev aEX:=((((decide (((nwE ((2:Int)))≠(0:Int))\/((mU.2.2.2)≠(0:Int)))||(mU.2.2.1)))||decide ((mA.2.2.2)≠(0:Int))))
abbrev aKN:=((((aEX||((!mA.2.2.1))))||decide ((((mA.2.1).length:Nat):Int)≠(0:Int))))
abbrev zC:=(bk 1 31 2 [[(iV (2:Int)),(V.sl [[(V.sl [[(iV (1:Int))]]),(V.sl [[(iV (0:Int))]])],[(V.sl [[(iV (0:Int))],[(iV (1:Int))]]),(V.sl [[(iV (1:Int))],[(iV (2:Int))]])]])]])
abbrev yT:=(bk 1 49 2 [[(iV (mA.1.i)),(V.sl (List.map cN (mA.1.t.nd)))]])
abbrev aAj:=(bk 1 49 2 [[(iV ((cR (kQ.1) pM).1.i)),(V.sl (List.map cN ((cR (kQ.1) pM).1.t.nd)))]])
abbrev zY:=(bk 1 49 2 [[(iV ((nE ((2:Int))).i)),(V.sl (List.map cN ((nE ((2:Int))).t.nd)))]])
abbrev zA:=(bk 1 49 2 [[(iV (mU.1.i)),(V.sl (List.map cN (mU.1.t.nd)))]])
abbrev rM:=(bk 1 49 2 [[(iV (kQ.1.i)),(V.sl (List.map cN (kQ.1.t.nd)))]])
abbrev aAW:=(wQ ((nE ((2:Int)))) pM)
abbrev aCL:=((((aKN||decide (aAW≠(0:Int))))||decide ((((kQ.2.1).length:Nat):Int)≠(0:Int))))
abbrev aEL:=(((mU.2.1)=([[0],[1]]))/\(((((iH ((nE ((2:Int)))) pM).m.nx).length:Nat):Int)=(1:Int)))
abbrev tM:=(aC ((cR (kQ.1) pM).2.1))
abbrev aA2:=(iV ((cR (kQ.1) pM).2.2.2))
theorem jZ:bK Tryz.prog 6 [] (V.bool true):=by
 refine' pK [] [] Tryz.func6 ?e λhB=>?_
 case e=>conv=>lhs; cbv
 dsimp only;refine aW<|aD<|aW<|aI (aCN (2:Int)) J<|aP<|bE J J<|bE J J<|bM (i:=1) (n:=0) (m:=2) J (cE J) J<|bQ J J J J J J J J J<|aD<|aW<|aV J J J J<|bN J J<|jN (bO (aM<|V.agg [(iV<|(nE (2:Int)).i),(V.sl<|List.map cN<|(nE (2:Int)).t.nd)])<|bO (aM<|V.agg [(iV 2),V.nilsl]) dQ) (sW (nE (2:Int)) (⟨(2:Int),([])⟩:Ob) (aE0 (by decide+kernel)) (by decide+kernel) (by decide+kernel)) (cZ (dM 6 _ (by simp [-List.map_take,-List.map_drop,-List.map_append,-List.map_reverse]))<|cZ JR J) (by simp [-List.map_take,-List.map_drop,-List.map_append,-List.map_reverse]) (Or.inl (by simp [-List.map_take,-List.map_drop,-List.map_append,-List.map_reverse])) ?_
 refine aP<|bE J J<|bE J J<|bE J J<|bE J J<|bM (i:=3) (n:=0) (m:=2) J (cE J) J<|bQ J J J J J J J J J<|aP<|aP<|aD<|aW<|aS J J<|aS J J<|bN J J<|aS J J ?_
 refine aS J J<|bN J J<|aS J J<|bN J J<|bM (i:=7) (n:=0) (m:=2) J (cE J) J<|bQ J J J J J J J J J<|bR ?_
 refine dE (λT H=>T 1=(cG 1)/\T 2=(iV<|nwE (2:Int))/\T 4=(aC mU.2.1)/\T 5=(V.bool mU.2.2.1)/\T 6=(iV mU.2.2.2)/\T 7=(cG 7)/\T 9=(aC mA.2.1)/\T 10=(V.bool mA.2.2.1)/\T 11=(iV mA.2.2.2)/\H 1=zY/\H 3=zA/\H 7=zC/\H 8=yT/\H 12=fL/\H 14=fL/\H 17=fL/\True) ?_ ?_
 . 
  refine aV J J J J<|aV J J J J<|aI (sW (nE (2:Int)) pM (aE0 (by decide+kernel)) (by decide+kernel) (by decide+kernel)) J<|aP<|bE J J<|bE J J<|bE J J<|bE J J<|bM (i:=8) (n:=0) (m:=2) J (cE J) J<|bQ J J J J J J J J J<|aP<|aP<|aP ?_
  exact eS ⟨J,J,J,J,J,J,J,J,J,J,J,J,J,J,J,J,trivial⟩
 intro T H ⟨t1,t2,t4,t5,t6,t7,t9,t10,t11,h1,h3,h7,h8,h12,h14,h17,_⟩;refine aW<|aV t1 h1 J J<|aV t7 h7 J J<|aI (aCO (nE (2:Int)) pM (aE0 (by decide+kernel)) (by decide+kernel) (by decide+kernel)) J<|aP<|bE J J<|bE J J<|bM (i:=12) (n:=0) (m:=5) J (cE h12) J<|bQ J J J J J J J J J<|aD<|aW<|aV t1 h1 J J<|aV t7 h7 J J<|aS J J<|bN J J ?_
 refine jN (bO (aM<|V.agg [(iV<|(nE (2:Int)).i),(V.sl<|List.map cN<|(nE (2:Int)).t.nd)])<|bO (aM<|V.agg [(iV 2),(V.sl [[(V.sl [[(iV 1)]]),(V.sl [[(iV 0)]])],[(V.sl [[(iV 0)],[(iV 1)]]),(V.sl [[(iV 1)],[(iV 2)]])]])])<|bO (aM<|V.agg [V.nilsl,(iV 0),(V.sl [[(iV 1)]])]) dQ) (zV (nE (2:Int)) pM (⟨([]),(0:Int),([1])⟩:Spl) (aE0 (by decide+kernel)) (by decide+kernel)) (cZ (dM 6 _ (by simp [-List.map_take,-List.map_drop,-List.map_append,-List.map_reverse]))<|cZ (dM 6 _ (by simp [-List.map_take,-List.map_drop,-List.map_append,-List.map_reverse]))<|cZ JR J) (by simp [-List.map_take,-List.map_drop,-List.map_append,-List.map_reverse]) (Or.inl (by simp [-List.map_take,-List.map_drop,-List.map_append,-List.map_reverse]))<|aP<|bE J J<|bE J J<|bE J J<|bM (i:=14) (n:=0) (m:=2) J (cE h14) J<|bQ J J J J J J J J J<|aP<|aD<|aW<|aV J J J J<|aV t7 h7 J J<|aI (sW kQ.1 pM (aE0 (by decide+kernel)) (by decide+kernel) (by decide+kernel)) J<|aP<|bE J J ?_
 refine bE J J<|bE J J<|bE J J<|bM (i:=17) (n:=0) (m:=2) J (cE h17) J<|bQ J J J J J J J J J<|aP<|aP<|aD<|cS ?_
 refine dE (λT H=>T 4=(aC mU.2.1)/\T 12=(cG 12)/\T 14=(cG 14)/\T 18=tM/\T 110=(V.bool ((aCL||decide (kQ.2.2≠(0:Int)))||decide (((cR kQ.1 pM).2.2.2)≠(0:Int))))/\H 1=zY/\H 3=zA/\H 7=zC/\H 8=yT/\H 12=aAm/\H 14=rM/\H 17=aAj/\True) ?_ ?_
 . 
  refine aJ t2<|bP J J<|aP ?_
  refine bU 3 (λT H=>T 4=(aC mU.2.1)/\T 5=(V.bool mU.2.2.1)/\T 9=(aC mA.2.1)/\T 10=(V.bool mA.2.2.1)/\T 11=(iV mA.2.2.2)/\T 12=(cG 12)/\T 13=(iV aAW)/\T 14=(cG 14)/\T 15=(aC kQ.2.1)/\T 16=(iV kQ.2.2)/\T 18=tM/\T 20=aA2/\T 77=(V.bool<|decide (((nwE (2:Int))≠(0:Int))\/(mU.2.2.2≠(0:Int))))/\H 1=zY/\H 3=zA/\H 7=zC/\H 8=yT/\H 12=aAm/\H 14=rM/\H 17=aAj/\True) ?_ ?_
  . 
   by_cases g1:(nwE (2:Int))≠(0:Int)
   . 
    refine bW (bY g1 J)<|bW (bY g1 J)<|bV (bY g1 J) J ?_
    exact ⟨t4,t5,t9,t10,t11,J,J,J,J,J,J,J,(dZ g1),h1,h3,h7,h8,J,J,J,trivial⟩
   . 
    refine aN (bX g1 J)<|aJ t6<|aN (bX g1 J)<|bP J J<|bT (bX g1 J) J ?_
    exact ⟨t4,t5,t9,t10,t11,J,J,J,J,J,J,J,(dX g1),h1,h3,h7,h8,J,J,J,trivial⟩
  intro T H ⟨t4,t5,t9,t10,t11,t12,t13,t14,t15,t16,t18,t20,t77,h1,h3,h7,h8,h12,h14,h17,_⟩;refine aJ t77 ?_;refine bU 2 (λT H=>T 4=(aC mU.2.1)/\T 9=(aC mA.2.1)/\T 10=(V.bool mA.2.2.1)/\T 11=(iV mA.2.2.2)/\T 12=(cG 12)/\T 13=(iV aAW)/\T 14=(cG 14)/\T 15=(aC kQ.2.1)/\T 16=(iV kQ.2.2)/\T 18=tM/\T 20=aA2/\T 80=(V.bool (decide (((nwE (2:Int))≠(0:Int))\/(mU.2.2.2≠(0:Int)))||mU.2.2.1))/\H 1=zY/\H 3=zA/\H 7=zC/\H 8=yT/\H 12=aAm/\H 14=rM/\H 17=aAj/\True) ?_ ?_
  . 
   by_cases g2:((nwE (2:Int))≠(0:Int))\/(mU.2.2.2≠(0:Int))
   . 
    refine bW (bY g2 J)<|bV (bY g2 J) J ?_
    exact ⟨t4,t9,t10,t11,t12,t13,t14,t15,t16,t18,t20,(aLE g2),h1,h3,h7,h8,h12,h14,h17,trivial⟩
   . 
    refine aN (bX g2 J)<|aJ t5<|bT (bX g2 J) J ?_
    exact ⟨t4,t9,t10,t11,t12,t13,t14,t15,t16,t18,t20,(aJB g2),h1,h3,h7,h8,h12,h14,h17,trivial⟩
  intro T H ⟨t4,t9,t10,t11,t12,t13,t14,t15,t16,t18,t20,t80,h1,h3,h7,h8,h12,h14,h17,_⟩;refine aJ t80 ?_;refine bU 3 (λT H=>T 4=(aC mU.2.1)/\T 9=(aC mA.2.1)/\T 10=(V.bool mA.2.2.1)/\T 12=(cG 12)/\T 13=(iV aAW)/\T 14=(cG 14)/\T 15=(aC kQ.2.1)/\T 16=(iV kQ.2.2)/\T 18=tM/\T 20=aA2/\T 84=(V.bool aEX)/\H 1=zY/\H 3=zA/\H 7=zC/\H 8=yT/\H 12=aAm/\H 14=rM/\H 17=aAj/\True) ?_ ?_
  . 
   by_cases g3:(decide (((nwE (2:Int))≠(0:Int))\/(mU.2.2.2≠(0:Int)))||mU.2.2.1)=true
   . 
    have g3x:=g3
    try simp only [Bool.and_eq_true,Bool.or_eq_true,Bool.not_eq_true',decide_eq_true_eq] at g3x
    refine bW (gQ g3 J)<|bW (gQ g3 J)<|bV (gQ g3 J) J ?_
    exact ⟨t4,t9,t10,t12,t13,t14,t15,t16,t18,t20,(vX g3),h1,h3,h7,h8,h12,h14,h17,trivial⟩
   . 
    have g3x:=g3
    try simp only [Bool.and_eq_true,Bool.or_eq_true,Bool.not_eq_true',decide_eq_true_eq] at g3x
    refine aN (gP g3 J)<|aJ t11<|aN (gP g3 J)<|bP J J<|bT (gP g3 J) J ?_
    exact ⟨t4,t9,t10,t12,t13,t14,t15,t16,t18,t20,(wA g3),h1,h3,h7,h8,h12,h14,h17,trivial⟩
  intro T H ⟨t4,t9,t10,t12,t13,t14,t15,t16,t18,t20,t84,h1,h3,h7,h8,h12,h14,h17,_⟩;refine aJ t84 ?_;refine bU 3 (λT H=>T 4=(aC mU.2.1)/\T 9=(aC mA.2.1)/\T 12=(cG 12)/\T 13=(iV aAW)/\T 14=(cG 14)/\T 15=(aC kQ.2.1)/\T 16=(iV kQ.2.2)/\T 18=tM/\T 20=aA2/\T 88=(V.bool (aEX||(!mA.2.2.1)))/\H 1=zY/\H 3=zA/\H 7=zC/\H 8=yT/\H 12=aAm/\H 14=rM/\H 17=aAj/\True) ?_ ?_
  . 
   by_cases g4:aEX=true
   . 
    have g4x:=g4
    try simp only [Bool.and_eq_true,Bool.or_eq_true,Bool.not_eq_true',decide_eq_true_eq] at g4x
    refine bW (gQ g4 J)<|bW (gQ g4 J)<|bV (gQ g4 J) J ?_
    exact ⟨t4,t9,t12,t13,t14,t15,t16,t18,t20,(vX g4),h1,h3,h7,h8,h12,h14,h17,trivial⟩
   . 
    have g4x:=g4
    try simp only [Bool.and_eq_true,Bool.or_eq_true,Bool.not_eq_true',decide_eq_true_eq] at g4x
    refine aN (gP g4 J)<|aJ t10<|aN (gP g4 J)<|fF J<|bT (gP g4 J) J ?_
    exact ⟨t4,t9,t12,t13,t14,t15,t16,t18,t20,(wA g4),h1,h3,h7,h8,h12,h14,h17,trivial⟩
  intro T H ⟨t4,t9,t12,t13,t14,t15,t16,t18,t20,t88,h1,h3,h7,h8,h12,h14,h17,_⟩;refine aJ t88 ?_;refine bU 4 (λT H=>T 4=(aC mU.2.1)/\T 12=(cG 12)/\T 13=(iV aAW)/\T 14=(cG 14)/\T 15=(aC kQ.2.1)/\T 16=(iV kQ.2.2)/\T 18=tM/\T 20=aA2/\T 93=(V.bool aKN)/\H 1=zY/\H 3=zA/\H 7=zC/\H 8=yT/\H 12=aAm/\H 14=rM/\H 17=aAj/\True) ?_ ?_
  . 
   by_cases g5:(aEX||(!mA.2.2.1))=true
   . 
    have g5x:=g5
    try simp only [Bool.and_eq_true,Bool.or_eq_true,Bool.not_eq_true',decide_eq_true_eq] at g5x
    refine bW (gQ g5 J)<|bW (gQ g5 J)<|bW (gQ g5 J)<|bV (gQ g5 J) J ?_
    exact ⟨t4,t12,t13,t14,t15,t16,t18,t20,(vX g5),h1,h3,h7,h8,h12,h14,h17,trivial⟩
   . 
    have g5x:=g5
    try simp only [Bool.and_eq_true,Bool.or_eq_true,Bool.not_eq_true',decide_eq_true_eq] at g5x
    refine aN (gP g5 J)<|aJ t9<|aN (gP g5 J)<|bA J<|aN (gP g5 J)<|bP J J<|bT (gP g5 J) J ?_
    exact ⟨t4,t12,t13,t14,t15,t16,t18,t20,(wA g5),h1,h3,h7,h8,h12,h14,h17,trivial⟩
  intro T H ⟨t4,t12,t13,t14,t15,t16,t18,t20,t93,h1,h3,h7,h8,h12,h14,h17,_⟩;refine aJ t93 ?_;refine bU 3 (λT H=>T 4=(aC mU.2.1)/\T 12=(cG 12)/\T 14=(cG 14)/\T 15=(aC kQ.2.1)/\T 16=(iV kQ.2.2)/\T 18=tM/\T 20=aA2/\T 97=(V.bool (aKN||decide (aAW≠(0:Int))))/\H 1=zY/\H 3=zA/\H 7=zC/\H 8=yT/\H 12=aAm/\H 14=rM/\H 17=aAj/\True) ?_ ?_
  . 
   by_cases g6:aKN=true
   . 
    have g6x:=g6
    try simp only [Bool.and_eq_true,Bool.or_eq_true,Bool.not_eq_true',decide_eq_true_eq] at g6x
    refine bW (gQ g6 J)<|bW (gQ g6 J)<|bV (gQ g6 J) J ?_
    exact ⟨t4,t12,t14,t15,t16,t18,t20,(vX g6),h1,h3,h7,h8,h12,h14,h17,trivial⟩
   . 
    have g6x:=g6
    try simp only [Bool.and_eq_true,Bool.or_eq_true,Bool.not_eq_true',decide_eq_true_eq] at g6x
    refine aN (gP g6 J)<|aJ t13<|aN (gP g6 J)<|bP J J<|bT (gP g6 J) J ?_
    exact ⟨t4,t12,t14,t15,t16,t18,t20,(wA g6),h1,h3,h7,h8,h12,h14,h17,trivial⟩
  intro T H ⟨t4,t12,t14,t15,t16,t18,t20,t97,h1,h3,h7,h8,h12,h14,h17,_⟩;refine aJ t97 ?_;refine bU 4 (λT H=>T 4=(aC mU.2.1)/\T 12=(cG 12)/\T 14=(cG 14)/\T 16=(iV kQ.2.2)/\T 18=tM/\T 20=aA2/\T 102=(V.bool aCL)/\H 1=zY/\H 3=zA/\H 7=zC/\H 8=yT/\H 12=aAm/\H 14=rM/\H 17=aAj/\True) ?_ ?_
  . 
   by_cases g7:(aKN||decide (aAW≠(0:Int)))=true
   . 
    have g7x:=g7
    try simp only [Bool.and_eq_true,Bool.or_eq_true,Bool.not_eq_true',decide_eq_true_eq] at g7x
    refine bW (gQ g7 J)<|bW (gQ g7 J)<|bW (gQ g7 J)<|bV (gQ g7 J) J ?_
    exact ⟨t4,t12,t14,t16,t18,t20,(vX g7),h1,h3,h7,h8,h12,h14,h17,trivial⟩
   . 
    have g7x:=g7
    try simp only [Bool.and_eq_true,Bool.or_eq_true,Bool.not_eq_true',decide_eq_true_eq] at g7x
    refine aN (gP g7 J)<|aJ t15<|aN (gP g7 J)<|bA J<|aN (gP g7 J)<|bP J J<|bT (gP g7 J) J ?_
    exact ⟨t4,t12,t14,t16,t18,t20,(wA g7),h1,h3,h7,h8,h12,h14,h17,trivial⟩
  intro T H ⟨t4,t12,t14,t16,t18,t20,t102,h1,h3,h7,h8,h12,h14,h17,_⟩;refine aJ t102 ?_;refine bU 3 (λT H=>T 4=(aC mU.2.1)/\T 12=(cG 12)/\T 14=(cG 14)/\T 18=tM/\T 20=aA2/\T 106=(V.bool (aCL||decide (kQ.2.2≠(0:Int))))/\H 1=zY/\H 3=zA/\H 7=zC/\H 8=yT/\H 12=aAm/\H 14=rM/\H 17=aAj/\True) ?_ ?_
  . 
   by_cases g8:aCL=true
   . 
    have g8x:=g8
    try simp only [Bool.and_eq_true,Bool.or_eq_true,Bool.not_eq_true',decide_eq_true_eq] at g8x
    refine bW (gQ g8 J)<|bW (gQ g8 J)<|bV (gQ g8 J) J ?_
    exact ⟨t4,t12,t14,t18,t20,(vX g8),h1,h3,h7,h8,h12,h14,h17,trivial⟩
   . 
    have g8x:=g8
    try simp only [Bool.and_eq_true,Bool.or_eq_true,Bool.not_eq_true',decide_eq_true_eq] at g8x
    refine aN (gP g8 J)<|aJ t16<|aN (gP g8 J)<|bP J J<|bT (gP g8 J) J ?_
    exact ⟨t4,t12,t14,t18,t20,(wA g8),h1,h3,h7,h8,h12,h14,h17,trivial⟩
  intro T H ⟨t4,t12,t14,t18,t20,t106,h1,h3,h7,h8,h12,h14,h17,_⟩;refine aJ t106 ?_;refine bU 3 (λT H=>T 4=(aC mU.2.1)/\T 12=(cG 12)/\T 14=(cG 14)/\T 18=tM/\T 110=(V.bool ((aCL||decide (kQ.2.2≠(0:Int)))||decide (((cR kQ.1 pM).2.2.2)≠(0:Int))))/\H 1=zY/\H 3=zA/\H 7=zC/\H 8=yT/\H 12=aAm/\H 14=rM/\H 17=aAj/\True) ?_ ?_
  . 
   by_cases g9:(aCL||decide (kQ.2.2≠(0:Int)))=true
   . 
    have g9x:=g9
    try simp only [Bool.and_eq_true,Bool.or_eq_true,Bool.not_eq_true',decide_eq_true_eq] at g9x
    refine bW (gQ g9 J)<|bW (gQ g9 J)<|bV (gQ g9 J) J ?_
    exact ⟨t4,t12,t14,t18,(vX g9),h1,h3,h7,h8,h12,h14,h17,trivial⟩
   . 
    have g9x:=g9
    try simp only [Bool.and_eq_true,Bool.or_eq_true,Bool.not_eq_true',decide_eq_true_eq] at g9x
    refine aN (gP g9 J)<|aJ t20<|aN (gP g9 J)<|bP J J<|bT (gP g9 J) J ?_
    exact ⟨t4,t12,t14,t18,(wA g9),h1,h3,h7,h8,h12,h14,h17,trivial⟩
  intro T H ⟨t4,t12,t14,t18,t110,h1,h3,h7,h8,h12,h14,h17,_⟩;exact eS ⟨t4,t12,t14,t18,t110,h1,h3,h7,h8,h12,h14,h17,trivial⟩
 intro T H ⟨t4,t12,t14,t18,t110,h1,h3,h7,h8,h12,h14,h17,_⟩;refine cU t110 (λc10=>?_) (λc10=>?_)
 . exfalso; revert c10; decide+kernel
 refine aB<|aW<|aJ t4<|aS J J<|aS J J<|aS J J<|aI (aAD mU.2.1<|[[0],[1]]) J<|aP ?_
 refine bU 6 (λT H=>T 14=(cG 14)/\T 18=tM/\T 122=(V.bool<|decide aEL)/\H 1=zY/\H 3=zA/\H 7=zC/\H 8=yT/\H 12=aAm/\H 14=rM/\H 17=aAj/\True) ?_ ?_
 . 
  by_cases g11:mU.2.1=([[0],[1]])
  . 
   refine aN (bY g11 J)<|cM t12 h12<|aN (bY g11 J)<|cM J h12<|aN (bY g11 J)<|aV J h12 J J<|aN (bY g11 J)<|bA J<|aN (bY g11 J)<|eV J J<|bV (bY g11 J) J ?_
   exact ⟨t14,t18,(eT g11),h1,h3,h7,h8,h12,h14,h17,trivial⟩
  . 
   refine bW (bX g11 J)<|bW (bX g11 J)<|bW (bX g11 J)<|bW (bX g11 J)<|bW (bX g11 J)<|bT (bX g11 J) J ?_
   exact ⟨t14,t18,(eU g11),h1,h3,h7,h8,h12,h14,h17,trivial⟩
 intro T H ⟨t14,t18,t122,h1,h3,h7,h8,h12,h14,h17,_⟩;refine aJ t122 ?_;refine bU 6 (λT H=>T 18=tM/\T 129=(V.bool<|decide (aEL/\(((kQ.1.t.nd.length:Nat):Int)=(3:Int))))/\H 1=zY/\H 3=zA/\H 7=zC/\H 8=yT/\H 12=aAm/\H 14=rM/\H 17=aAj/\True) ?_ ?_
 . 
  by_cases g12:(mU.2.1=([[0],[1]]))/\(((((iH (nE (2:Int)) pM).m.nx).length:Nat):Int)=(1:Int))
  . 
   refine aN (bY g12 J)<|cM t14 h14<|aN (bY g12 J)<|cM J h14<|aN (bY g12 J)<|aV J h14 J J<|aN (bY g12 J)<|bA J<|aN (bY g12 J)<|eV J J<|bV (bY g12 J) J ?_
   exact ⟨t18,(eT g12),h1,h3,h7,h8,h12,h14,h17,trivial⟩
  . 
   refine bW (bX g12 J)<|bW (bX g12 J)<|bW (bX g12 J)<|bW (bX g12 J)<|bW (bX g12 J)<|bT (bX g12 J) J ?_
   exact ⟨t18,(eU g12),h1,h3,h7,h8,h12,h14,h17,trivial⟩
 intro T H ⟨t18,t129,h1,h3,h7,h8,h12,h14,h17,_⟩;refine aJ t129 ?_;refine bU 7 (λT H=>T 137=(V.bool<|decide ((aEL/\(((kQ.1.t.nd.length:Nat):Int)=(3:Int)))/\(((cR kQ.1 pM).2.1)=([[1,1],[0,0,1],[0,1,1]]))))/\H 1=zY/\H 3=zA/\H 7=zC/\H 8=yT/\H 12=aAm/\H 14=rM/\H 17=aAj/\True) ?_ ?_
 . 
  by_cases g13:aEL/\(((kQ.1.t.nd.length:Nat):Int)=(3:Int))
  . 
   refine aN (bY g13 J)<|aJ t18<|aN (bY g13 J)<|aS J J<|aN (bY g13 J)<|aS J J<|aN (bY g13 J)<|aS J J<|aN (bY g13 J)<|aS J J<|aN (bY g13 J)<|aI (aAD ((cR kQ.1 pM).2.1)<|[[1,1],[0,0,1],[0,1,1]]) J<|bV (bY g13 J) J ?_
   exact ⟨(eT g13),h1,h3,h7,h8,h12,h14,h17,trivial⟩
  . 
   refine bW (bX g13 J)<|bW (bX g13 J)<|bW (bX g13 J)<|bW (bX g13 J)<|bW (bX g13 J)<|bW (bX g13 J)<|bT (bX g13 J) J ?_
   exact ⟨(eU g13),h1,h3,h7,h8,h12,h14,h17,trivial⟩
 intro T H ⟨t137,h1,h3,h7,h8,h12,h14,h17,_⟩;refine aJ t137<|R_q ?_
 refine aZ (aM<|V.bool<|decide ((aEL/\(((kQ.1.t.nd.length:Nat):Int)=(3:Int)))/\(((cR kQ.1 pM).2.1)=([[1,1],[0,0,1],[0,1,1]]))))<|cH ?_
 . decide+kernel
theorem aJA (m:M) (w:List Int):bK Tryz.prog 64 [(V.agg [(iV m.i),(iV m.s),(aC m.nx),(aC m.ot)]),(aE w)] (V.tup [(aE (fG m m.s w)),(iV (rK m m.s w))]):=by
 refine' pK [] [] Tryz.func64 ?e λhB=>?_
 case e=>conv=>lhs; cbv
 dsimp only;refine aW<|bS (i:=2) (n:=0) (m:=4) (cs:=[(iV m.i),(iV m.s),(aC m.nx),(aC m.ot)]) J (cE J) J J J<|aP<|aD<|aW<|aV J J J J<|aX J J J J<|aP<|aI (aCW m m.s w) J<|aP<|bE J J<|bE J J<|bE J J<|aP ?_
 refine aP<|aD<|aW<|aP<|aP<|aP<|aD<|bF ?_
 refine iW (aM<|aE<|fG m m.s w) (aM<|iV<|rK m m.s w) (cA ?_ (λ_=>by simp))<|aF ?_
 . rfl
 . rfl
theorem tZ (t:Tr) (h1:t.ni.length<=1048576) (h2:t.no.length<=1048576):bK Tryz.prog 190 [(V.agg [(aE t.ni),(aE t.no)])] (V.agg [(aE t.ni),(aE t.no)]):=by
 refine' pK [] [] Tryz.func190 ?e λhB=>?_
 case e=>conv=>lhs; cbv
 dsimp only;refine aW<|bS (i:=1) (n:=0) (m:=2) (cs:=[(aE t.ni),(aE t.no)]) J (cE J) J J J<|bM (i:=2) (n:=0) (m:=2) J (cE J) J<|qV<|aX J J J J<|aI (lI t.ni OM) J<|aX J J J J<|aI (lI t.no OM) J<|bN J J<|bQ J J J J J J J J J<|R_q ?_
 refine uI (bI (u:=(V.agg [(aE t.ni),(aE t.no)])) J (@J Blk<|bk 1 56 2 [[(aE t.ni),(aE t.no)]])<|lB oB J J)<|eM SI J
end
section
open Go Go.Proofs
attribute [local irreducible] aBJ
theorem aND (l:List Tr) (v5 v9:Nat) (hb: ∀ k,k < l.length->(aA l k).ni.length<=1048576/\(aA l k).no.length<=1048576) (Hi:bC) (h205:(Hi 205).ver=v5) (h209:(Hi 209).ver=v9) (hl:l.length<=1000000):fA Tryz.prog 163 [(V.sl (List.map cT l))] Hi (V.ms 209 (v9+1+l.length) 0 l.length) (cX (cX Hi 205 (⟨v5+l.length,false,false,0,0,[]⟩:Blk)) 209 (bk (v9+1+l.length) 56 2 (List.map cT l))):=by
 refine' eK [] [] (k0:=200) Tryz.func163 ?e λhB=>?_
 case e=>conv=>lhs; cbv
 dsimp only;refine aW<|aD<|aW<|aP<|bA J<|cF J ?_
 refine (aAO (i:=209) (n:=v9) (m:=0) (q:=(l.length+1)) JR h209 (aM<|iV 0) (cO<|l.length+1) OM OM OM ?_);refine aD<|aO<|aP<|bA J<|aD (aG λQ1 n1 x1 y1 z1=>?_)
 refine cC (λmm T H=> ∃ (k:Nat),mm=l.length - k/\T 3=(V.ms 209 (v9+1+k) 0 k)/\T 10=(V.sl<|List.map cT l)/\T 11=(iV ((l.length:Nat):Int))/\T 12=(iV ((k:Nat):Int))/\(∀ j,j∉[205,209]->H j=Hi j)/\(H 205).ver=v5+k/\H 209=(bk (v9+1+k) 56 2<|List.map cT<|l.take k)/\(k<=l.length)) ?_ ?_
 . 
  refine ⟨_,0,J,(bL (aM<|V.ms 209 (v9+1) 0 0) JR),J,J,(bL (aM<|iV 0) J),(bG (λ_ _=>J) DE),h205,(bL (@J Blk<|bk (v9+1) 56 2<|List.replicate 0 [V.nilsl,V.nilsl]) JR),?_⟩
  . omega
 intro mm T H ⟨k,hmm,t3,t10,t11,t12,hF,h205,h209,hk⟩ Q2 p12 p22 p32;refine aW<|bZ t12 t11<|bR ?_
 refine aH J (λc3=>?_) λc3=>?_
 . 
  refine aB (aG λQ4 n4 x4 y4 z4=>(aW<|dA (i:=k) t10 t12<|aL J J<|bM (i:=205) (n:=(v5+k)) (m:=2) JR h205 J<|bQ J J J J J J J J J<|bR<|eI<|aJ t3<|aV J J J J<|aI (tZ (aA l k) (hb k OM).1 (hb k OM).2) J<|aS J J<|eX (l:=(l.take k)) (f:=cT) (x:=(aA l k)) (aM<|V.ms 209 (v9+1+k) 0 k) h209 (by (rw [List.length_take]; omega)) (aM<|V.sl [[(aE<|(aA l k).ni),(aE<|(aA l k).no)]])<|aD ?_));refine n4 _ _ (.done (eI<|cF t12<|aD ?_));refine p12 _ _ _ ?_ ⟨(k+1),J,(bL (aM<|V.ms 209 (v9+1+k+1) 0<|k+1) JR),t10,t11,(bL (cO<|k+1) JR),(bG (bG (bG hF DE) DE) DE),(cE J),(bL (@J Blk<|bk (v9+1+k+1) 56 2<|List.map cT<|(l.take k)++[(aA l k)]) (by (rw [cV OM]; rfl))),?_⟩
  . omega
  . omega
 refine aT<|p32 _ _ _<|x1 _ _ (.done (aW<|aJ t3<|aD<|bF<|eJ (R:=λT H=>T 2=(V.ms 209 (v9+1+k) 0 k)/\(∀ j,j∉[205,209]->H j=Hi j)/\(H 205).ver=v5+k/\H 209=(bk (v9+1+k) 56 2<|List.map cT<|l.take k)/\True) ⟨(aM<|V.ms 209 (v9+1+k) 0 k),hF,h205,h209,trivial⟩ ?_))
 intro T H ⟨t2,hF,h205,h209,_⟩;have fh:=dK.fin<|dK.put (B:=(bk (v9+1+l.length) 56 2<|List.map cT l)) (dK.putv (n:=(v5+k)) (B:=(⟨v5+l.length,false,false,0,0,[]⟩:Blk)) (dK.start hF) h205 (by show _<=v5+l.length; omega) J) h209<|iZ.up OM (by (have e:k=l.length:=OM; subst e; rw [List.take_length]; done))
 exact kU t2 fh<|eY.trans_eq (eY.ms (n:=(v9+1+l.length)) fh (by simp [h209]) (by simp [h209]) J J) (by (have e:k=l.length:=OM; subst e; rfl))
end
section
open Go Go.Proofs
theorem aDP (a:Int):bK Tryz.prog 191 [(iV a)] (V.bool (decide (a < 0\/1048576 < a))):=by
 refine' pK [] [] Tryz.func191 ?e λhB=>?_
 case e=>conv=>lhs; cbv
 dsimp only;refine aW<|aD<|aW<|aP<|bZ J J<|aP ?_
 refine bU 3 (λT H=>T 8=(V.bool<|decide ((a < (0:Int))\/((1048576:Int) < a)))/\True) ?_ ?_
 . 
  by_cases g1:a < (0:Int)
  . 
   refine bW (bY g1 J)<|bW (bY g1 J)<|bV (bY g1 J) J ?_
   exact ⟨(dZ g1),trivial⟩
  . 
   refine aN (bX g1 J)<|aP<|aN (bX g1 J)<|eD J J<|bT (bX g1 J) J ?_
   exact ⟨(dX g1),trivial⟩
 intro T H ⟨t8,_⟩;refine aJ t8<|R_q ?_
 refine aZ (aM<|V.bool<|decide ((a < (0:Int))\/((1048576:Int) < a)))<|cH ?_
 . first|rfl|omega|simp_all
theorem aEC (t:Tr) (n:Int):bK Tryz.prog 164 [(V.agg [(aE t.ni),(aE t.no)]),(iV n)] (iV (vZ t n)):=by
 refine' pK [] [] Tryz.func164 ?e λhB=>?_
 case e=>conv=>lhs; cbv
 dsimp only;refine aW<|bS (i:=2) (n:=0) (m:=2) (cs:=[(aE t.ni),(aE t.no)]) J (cE J) J J J<|aD<|aO<|aX J J J J<|aP<|aI (gL t.ni n) J<|aD<|aO<|aP<|bP J J ?_
 refine bR ?_;refine aH J (λc1=>?_) λc1=>?_
 . 
  refine aO<|aP<|aD<|aK ?_
  refine aZ (aM<|iV<|dG t.ni n)<|aF ?_
  . rw [vZ,if_pos OM]
 refine aB (aG λQ2 n2 x2 y2 z2=>(aW<|aX J J J J<|bA J<|aX J J J J<|bA J<|bP J J<|aD ?_));refine fN J (λc3=>?_) λc3=>?_
 . 
  refine aW<|aD<|bF<|y2 _ _ ?_
  refine aZ (aM<|iV 1)<|aF ?_
  . rw [vZ,if_neg OM,if_pos OM]
 refine aW<|aX J J J J<|aI (aAk (λa=>decide (a < 0\/1048576 < a)) t.no 191 ([]) SI SI (λk _=>aDP<|aA t.no k)) J<|aD ?_
 refine fN (p:=0<=fi (λjx=>(λa=>decide (a < 0\/1048576 < a)) (aA t.no jx)) 0 t.no.length) J (λc4=>?_) (λc4=>?_)
 . 
  refine aW<|aD<|bF<|y2 _ _ ?_
  refine aZ (aM<|iV 2)<|aF ?_
  . have e:(0<=fi (λj=>(λa=>decide (a < 0\/1048576 < a)) (aA t.no j)) 0 t.no.length↔fe (tT t) 0 t.no.length=2)/\(fe (tT t) 0 t.no.length=0\/fe (tT t) 0 t.no.length=2):=aGY t t.no.length 0
    rw [vZ,if_neg OM,if_neg OM]; omega
 refine dH<|n2 _ _ (.done (aW<|aD<|bF ?_))
 refine aZ (aM<|iV 0)<|aF ?_
 . have e:(0<=fi (λj=>(λa=>decide (a < 0\/1048576 < a)) (aA t.no j)) 0 t.no.length↔fe (tT t) 0 t.no.length=2)/\(fe (tT t) 0 t.no.length=0\/fe (tT t) 0 t.no.length=2):=aGY t t.no.length 0
   rw [vZ,if_neg OM,if_neg OM]; omega
theorem aAa (a b:Tr) (ha:a.no.length=a.ni.length) (hb:b.no.length=b.ni.length):bK Tryz.prog 192 [(V.agg [(aE a.ni),(aE a.no)]),(V.agg [(aE b.ni),(aE b.no)])] (iV (df a b)):=by
 refine' pK [] [] Tryz.func192 ?e λhB=>?_
 case e=>conv=>lhs; cbv
 dsimp only;refine aW<|bS (i:=2) (n:=0) (m:=2) (cs:=[(aE a.ni),(aE a.no)]) J (cE J) J J J<|bS (i:=3) (n:=0) (m:=2) (cs:=[(aE b.ni),(aE b.no)]) J (cE J) J J J<|aD<|aW<|aX J J J J<|aX J J J J ?_
 have q1:=kX a.ni b.ni;have q2:=mV a.ni b.ni;refine aI (uH a.ni b.ni) J<|aX J J J J<|bA J<|aX J J J J<|bA J<|aPc (m:=(gJ a.ni b.ni)) (n:=a.no.length) (q:=b.no.length) J J J<|aD ?_
 have q3:=kX a.ni b.ni;have q4:=mV a.ni b.ni;refine aO<|aX J J J J<|aP<|nA (n:=(min (min (gJ a.ni b.ni) a.no.length) b.no.length)) (aM<|aE a.no) (cO<|min (min (gJ a.ni b.ni) a.no.length) b.no.length) OM (λ_=>J)<|aX J J J J<|aP<|nA (n:=(min (min (gJ a.ni b.ni) a.no.length) b.no.length)) (aM<|aE b.no) (cO<|min (min (gJ a.ni b.ni) a.no.length) b.no.length) OM (λ_=>J) ?_
 have q5:=kX (List.take (min (min (gJ a.ni b.ni) a.no.length) b.no.length) a.no)<|List.take (min (min (gJ a.ni b.ni) a.no.length) b.no.length) b.no
 have q6:=mV (List.take (min (min (gJ a.ni b.ni) a.no.length) b.no.length) a.no)<|List.take (min (min (gJ a.ni b.ni) a.no.length) b.no.length) b.no
 refine aI (uH (List.take (min (min (gJ a.ni b.ni) a.no.length) b.no.length) a.no)<|List.take (min (min (gJ a.ni b.ni) a.no.length) b.no.length) b.no) J<|aD ?_
 have q7:=kX (List.take (min (min (gJ a.ni b.ni) a.no.length) b.no.length) a.no)<|List.take (min (min (gJ a.ni b.ni) a.no.length) b.no.length) b.no
 have q8:=mV (List.take (min (min (gJ a.ni b.ni) a.no.length) b.no.length) a.no)<|List.take (min (min (gJ a.ni b.ni) a.no.length) b.no.length) b.no
 refine aO<|aP<|aP<|bZ J J<|bR ?_
 refine aH J (λc9=>?_) λc9=>?_
 . 
  have d1:=c9;refine aO<|aP<|aD<|aK ?_
  refine aZ (cO<|gJ (List.take (min (min (gJ a.ni b.ni) a.no.length) b.no.length) a.no)<|List.take (min (min (gJ a.ni b.ni) a.no.length) b.no.length) b.no)<|aF ?_
  . have e:min (min (gJ a.ni b.ni) a.no.length) b.no.length=gJ a.ni b.ni:=OM
    rw [e] at d1 ⊢;rw [<- aIj ha hb,if_pos OM]
 have d1:=c9;refine aB<|aW<|aD<|bF ?_
 refine aZ (aM<|iV (-1))<|aF ?_
 . have e:min (min (gJ a.ni b.ni) a.no.length) b.no.length=gJ a.ni b.ni:=OM
   rw [e] at d1;rw [<- aIj ha hb,if_neg OM]
theorem aDc (u t:Tr):bK Tryz.prog 194 [(V.agg [(aE u.ni),(aE u.no)]),(V.pp [(aE t.ni),(aE t.no)])] (V.bool (hp t.ni u.ni)):=by
 refine' pK [] [] Tryz.func194 ?e λhB=>?_
 case e=>conv=>lhs; cbv
 dsimp only;refine aW<|bS (i:=2) (n:=0) (m:=2) (cs:=[(aE u.ni),(aE u.no)]) J (cE J) J J J<|aD<|aW<|dB (cs':=[(aE t.ni),(aE t.no)]) J J<|aL J J<|aX J J J J<|aI (yK t.ni u.ni) J<|aD<|bF ?_
 refine aZ (aM<|V.bool<|hp t.ni u.ni)<|eM SI J
theorem aN4 (l:List Tr) (t:Tr) (v9 v3 v7:Nat) (Hi:bC) (h209:Hi 209=(bk v9 56 2 (List.map cT l))) (h303:Hi 303=(bk v3 56 2 [[(aE t.ni),(aE t.no)]])) (h407:(Hi 407).ver=v7) (hl:l.length<=1000000):fA Tryz.prog 193 [(V.ms 209 v9 0 l.length),(V.fn 194 [] [(V.mp 303 v3 0 0)])] Hi (V.ms 209 v9 0 ((l.filter (kp t)).length)) (cX (cX Hi 407 (⟨v7+l.length,false,false,0,0,[]⟩:Blk)) 209 (bk v9 56 2 (List.map cT (l.filter (kp t))++List.replicate (l.length - (l.filter (kp t)).length) [V.nilsl,V.nilsl]))):=by
 refine' eK [] [] (k0:=400) Tryz.func193 ?e λhB=>?_
 case e=>conv=>lhs; cbv
 dsimp only;refine aW<|aD<|aW<|aP<|aP<|jN (bO (aM<|V.ms 209 v9 0 l.length)<|bO (aM<|V.fn 194 [] [(V.mp 303 v3 0 0)]) dQ) (aCI (λu:Tr=>hp t.ni u.ni) l 194 ([(V.pp [(aE t.ni),(aE t.no)])]) SI SI (λj _=>aDc (aA l j) t)) (cZ (rH h209 SI (nS (l:=l) JR) (λ_=>by simp))<|cZ (aDK h303 (by simp [-List.map_take,-List.map_drop,-List.map_append,-List.map_reverse])) J) (by simp [-List.map_take,-List.map_drop,-List.map_append,-List.map_reverse]) (Or.inr J)<|aD<|aO<|aP<|eV J J<|bR ?_
 refine aH (p:=(fi (λjx=>(λu:Tr=>hp t.ni u.ni) (aA l jx)) 0 l.length)=(-1:Int)) J (λc1=>?_) (λc1=>?_)
 . 
  have d0:fi (λj=>(λu:Tr=>hp t.ni u.ni) (aA l j)) 0 l.length < 0:=OM
  refine aO<|aP<|aD<|aK<|eJ (R:=λT H=>T 4=(V.ms 209 v9 0 l.length)/\(∀ j,j∉[407,209]->H j=Hi j)/\H 209=(bk v9 56 2<|List.map cT l)/\H 303=(bk v3 56 2 [[(aE t.ni),(aE t.no)]])/\(H 407).ver=v7/\True) ⟨(aM<|V.ms 209 v9 0 l.length),(λ_ _=>J),h209,h303,h407,trivial⟩ ?_
  intro T H ⟨t4,hF,h209,h303,h407,_⟩;have fh:=dK.fin<|dK.put (B:=(bk v9 56 2<|List.map cT (l.filter<|kp t)++List.replicate (l.length - (l.filter<|kp t).length) [V.nilsl,V.nilsl])) (dK.putv (n:=v7) (B:=(⟨v7+l.length,false,false,0,0,[]⟩:Blk)) (dK.start hF) h407 (by show _<=v7+l.length; omega) J) h209<|iZ.eq (by (rw [aHk d0]; simp; done))
  exact kU t4 fh<|eY.trans_eq (eY.same fh _) (by (rw [aHk d0]; done))
 obtain ⟨i0,d1,d2,d3,d4⟩:=aLb (t:=t) (l:=l) (by have:=aGv (p:=λj=>(λu:Tr=>hp t.ni u.ni) (aA l j)) l.length 0; omega);have d6:fi (λjx=>hp t.ni (aA l jx).ni) 0 l.length=i0:=d1;refine aB<|aO<|aP<|aHU J J OM OM<|aD (aG λQ2 n2 x2 y2 z2=>?_)
 refine cC (λmm T H=> ∃ (k:Nat) (v407:Nat),mm=l.length - k/\T 0=(V.ms 209 v9 0 l.length)/\T 1=(V.fn 194 [] [(V.mp 303 v3 0 0)])/\T 5=(iV (((rL t l k).length:Nat):Int))/\T 6=(iV ((k:Nat):Int))/\(∀ j,j∉[407,209]->H j=Hi j)/\H 209=(bk v9 56 2<|List.map cT<|xT t l k)/\H 303=(bk v3 56 2 [[(aE t.ni),(aE t.no)]])/\(H 407).ver=v407/\(k<=l.length)/\((rL t l k).length < k)/\(v407<=v7+k)) ?_ ?_
 . 
  refine ⟨_,i0+1,v7,J,J,J,(bL (aM<|iV<|fi (λjx=>(λu:Tr=>hp t.ni u.ni) (aA l jx)) 0 l.length) (by (rw [d3]; exact congrArg (V.int .i64) (by first|rfl|omega)))),(bL (aM<|iV<|(fi (λjx=>(λu:Tr=>hp t.ni u.ni) (aA l jx)) 0 l.length)+(1:Int)) (by (exact congrArg (V.int .i64) OM))),(λ_ _=>J),(bL h209 (by (rw [d4]; done))),h303,h407,?_,?_,?_⟩
  . omega
  . omega
  . omega
 intro mm T H ⟨k,v407,hmm,t0,t1,t5,t6,hF,h209,h303,h407,hk,hlt,hv⟩ Q3 p13 p23 p33;have q1:=aMU t l k;refine aO<|aJ t6<|aJ t0<|dW J h209 SI<|bZ J J<|bR ?_
 refine aH J (λc4=>?_) λc4=>?_
 . 
  refine aB (aG λQ5 n5 x5 y5 z5=>(aW<|aJ t0<|aJ t6<|pR (i:=k) (aM<|V.ms 209 v9 0 l.length) (cO k) h209 oB J OM<|cQ (v:=(V.agg [(aE<|(aA (xT t l k)<|0+k).ni),(aE<|(aA (xT t l k)<|0+k).no)])) J h209 (dS OM JR)<|bM (i:=407) (n:=v407) (m:=2) JR h407 J<|bQ J J J J J J J J J<|qV<|aJ t1<|aV J J J J<|iP (aM<|V.fn 194 [] [(V.mp 303 v3 0 0)]) (bO (aM<|V.agg [(aE<|(aA (xT t l k)<|0+k).ni),(aE<|(aA (xT t l k)<|0+k).no)]) dQ) (aDc (aA (xT t l k)<|0+k) t) (cZ (dM 6 _ (by simp [-List.map_take,-List.map_drop,-List.map_append,-List.map_reverse]))<|cZ (by simp [fQ,Blk.own,h209,h303]) J) (by simp [-List.map_take,-List.map_drop,-List.map_append,-List.map_reverse]) (Or.inr J)<|fF J<|bR ?_));refine mJ J (λc6=>?_) (λc6=>?_)
  . 
   have d5:kp t (aA l k)=true:=by unfold kp; rw [Nat.zero_add,aDN] at c6; simpa using c6
   refine aW<|aJ t0<|aJ t5<|aV J J J J<|pR (i:=((rL t l k).length)) (aM<|V.ms 209 v9 0 l.length) (cO<|(rL t l k).length) h209 oB J OM<|dU (vs:=[(aE<|(aA (xT t l k)<|0+k).ni),(aE<|(aA (xT t l k)<|0+k).no)]) (B':=(bk v9 56 2<|List.map cT<|(xT t l k).set ((rL t l k).length) (aA (xT t l k)<|0+k))) (bL J<|congrArg (λn=>V.mp 209 v9 n 0)<|Nat.zero_add _) J J h209 (iQ (x:=(aA (xT t l k)<|0+k)) (i:=((rL t l k).length)) OM J J J J)<|bR<|eI<|aJ t5<|cF J<|aD<|n5 _ _ (.done (eI<|aJ t6 ?_))
   refine cF J<|aD ?_
   refine p13 _ _ _ ?_ ⟨k+1,(v407+1),J,t0,t1,(bL (cO<|((rL t l k).length)+1) (by (rw [yQ OM d5,List.length_append]; rfl))),(bL (cO<|k+1) JR),(bG (bG (bG hF DE) DE) DE),(bL (@J Blk<|bk v9 56 2<|List.map cT<|(xT t l k).set ((rL t l k).length) (aA (xT t l k)<|0+k)) (by (rw [Nat.zero_add,aDN,aLC OM d5]; done))),h303,(cE J),?_,?_,?_⟩
   . omega
   . omega
   . first|(rw [yQ OM d5,List.length_append]; simp; omega)|(rw [uO OM d5]; omega)
   . omega
  have d5: ¬kp t (aA l k)=true:=by unfold kp; rw [Nat.zero_add,aDN] at c6; simpa using c6
  refine dH<|n5 _ _ (.done (eI<|aJ t6<|cF J<|aD ?_))
  refine p13 _ _ _ ?_ ⟨k+1,(v407+1),J,t0,t1,(bL t5 (by (rw [uO OM d5]; done))),(bL (cO<|k+1) JR),(bG (bG hF DE) DE),(bL h209 (by (rw [aKf OM d5]; done))),h303,(cE J),?_,?_,?_⟩
  . omega
  . omega
  . first|(rw [yQ OM d5,List.length_append]; simp; omega)|(rw [uO OM d5]; omega)
  . omega
 refine aT<|p33 _ _ _<|x2 _ _ (.done (aW<|aJ t0<|aJ t5<|kY (n:=((rL t l k).length)) (aM<|V.ms 209 v9 0 l.length) (cO<|(rL t l k).length) h209 oB J OM<|aJV (m:=((rL t l k).length)) (n:=(l.length - ((rL t l k).length))) (f:=cT) (l:=(xT t l k)) (bL (aM<|V.ms 209 v9 (0+((rL t l k).length))<|l.length - ((rL t l k).length))<|congrArg (λn=>V.ms 209 v9 n<|l.length - ((rL t l k).length))<|Nat.zero_add _) h209 J DE J OM OM<|qV<|aJ t0<|aJ t5<|rG (n:=((rL t l k).length)) (aM<|V.ms 209 v9 0 l.length) (cO<|(rL t l k).length) (@J Blk<|bk v9 56 2<|List.map cT (List.take ((rL t l k).length)<|xT t l k)++List.replicate (l.length - ((rL t l k).length)) [V.nilsl,V.nilsl]) oB J OM<|aD ?_))
 refine bF<|eJ (R:=λT H=>T 4=(V.ms 209 v9 0<|(rL t l k).length)/\(∀ j,j∉[407,209]->H j=Hi j)/\H 209=(bk v9 56 2<|List.map cT (List.take ((rL t l k).length)<|xT t l k)++List.replicate (l.length - ((rL t l k).length)) [V.nilsl,V.nilsl])/\H 303=(bk v3 56 2 [[(aE t.ni),(aE t.no)]])/\(H 407).ver=v407/\True) ⟨(aM<|V.ms 209 v9 0<|(rL t l k).length),(bG hF DE),J,h303,h407,trivial⟩ ?_
 intro T H ⟨t4,hF,h209,h303,h407,_⟩;have fh:=dK.fin<|dK.put (B:=(bk v9 56 2<|List.map cT (l.filter<|kp t)++List.replicate (l.length - (l.filter<|kp t).length) [V.nilsl,V.nilsl])) (dK.putv (n:=v407) (B:=(⟨v7+l.length,false,false,0,0,[]⟩:Blk)) (dK.start hF) h407 (by show _<=v7+l.length; omega) J) h209<|iZ.eq (by (have e:k=l.length:=OM; subst e; unfold xT rL; rw [List.take_length,List.take_left]; done))
 exact kU t4 fh<|eY.trans_eq (eY.same fh _) (by (have e:k=l.length:=OM; subst e; unfold rL; rw [List.take_length]; done))
theorem aCf (a b:Tr):bK Tryz.prog 196 [(V.agg [(aE a.ni),(aE a.no)]),(V.agg [(aE b.ni),(aE b.no)])] (iV (fS a.ni b.ni)):=by
 refine' pK [] [] Tryz.func196 ?e λhB=>?_
 case e=>conv=>lhs; cbv
 dsimp only;refine aW<|bS (i:=2) (n:=0) (m:=2) (cs:=[(aE a.ni),(aE a.no)]) J (cE J) J J J<|bS (i:=3) (n:=0) (m:=2) (cs:=[(aE b.ni),(aE b.no)]) J (cE J) J J J<|aD<|aW<|aX J J J J<|aX J J J J<|aI (sX a.ni b.ni) J<|aD<|bF ?_
 refine aZ (aM<|iV<|fS a.ni b.ni)<|eM SI J
theorem aHH (l:List Tr) (t:Tr) (hs:Srt l) (hl:l.length<=1000000):bK Tryz.prog 195 [(V.sl (List.map cT l)),(V.agg [(aE t.ni),(aE t.no)]),(V.fn 196 [] [])] (V.tup [(iV ((lbN l t:Nat):Int)),(V.bool (decide (lbN l t < l.length/\fS (aA l (lbN l t)).ni t.ni=0)))]):=by
 refine' pK [] [] Tryz.func195 ?e λhB=>?_
 case e=>conv=>lhs; cbv
 dsimp only;have q0:=aL3 (t:=t) l;refine aW<|bS (i:=4) (n:=0) (m:=2) (cs:=[(aE t.ni),(aE t.no)]) J (cE J) J J J<|aP<|aD<|aW<|aP<|bA J<|aD<|aW<|aP<|aP<|aD (aG λQ1 n1 x1 y1 z1=>?_)
 refine cC (λmm T H=> ∃ (i:Nat) (j:Nat),mm=j - i/\T 0=(V.sl<|List.map cT l)/\T 2=(V.fn 196 [] [])/\T 4=(cG 4)/\T 8=(iV ((l.length:Nat):Int))/\T 9=(iV ((i:Nat):Int))/\T 10=(iV ((j:Nat):Int))/\H 4=(bk 1 56 2 [[(aE t.ni),(aE t.no)]])/\(i<=lbN l t)/\(lbN l t<=j)/\(j<=l.length)) ?_ ?_
 . 
  refine ⟨_,0,l.length,J,J,J,J,J,(bL (aM<|iV 0) J),J,J,?_,?_,?_⟩
  . omega
  . omega
  . omega
 intro mm T H ⟨i,j,hmm,t0,t2,t4,t8,t9,t10,h4,h1,h2,h3⟩ Q2 p12 p22 p32;refine aO<|aJ t9<|aJ t10<|bZ J J<|bR ?_
 refine aH J (λc3=>?_) λc3=>?_
 . 
  refine aB (fZ λQ4 n4 x4 y4 z4=>(aW<|aJ t9<|aJ t10<|oC J J OM<|aIu (n:=(i+j)) (cO<|i+j) OM<|aLz (n:=(i+j)) J J<|aHK (n:=((i+j) / 2)) (aM<|V.int .u64 (((i+j) / 2:Nat):Int)) OM<|aD<|aW<|aJ t2<|aJ t0<|aP<|dA (i:=((i+j) / 2)) (aM<|V.sl<|List.map cT l) (cO<|(i+j) / 2) ?_));refine aL J J<|aV t4 h4 J J<|iP (aM<|V.fn 196 [] []) (bO (aM<|V.agg [(aE<|(aA l<|(i+j) / 2).ni),(aE<|(aA l<|(i+j) / 2).no)])<|bO (aM<|V.agg [(aE t.ni),(aE t.no)]) dQ) (aCf (aA l<|(i+j) / 2) t) (eF _ _ (by simp [-List.map_take,-List.map_drop,-List.map_append,-List.map_reverse])) (by simp [-List.map_take,-List.map_drop,-List.map_append,-List.map_reverse]) (Or.inl (by simp [-List.map_take,-List.map_drop,-List.map_append,-List.map_reverse]))<|bZ J J<|bR ?_
  refine fN J (λc5=>?_) λc5=>?_
  . 
   have d1:=(aF7 hs OM).1 c5;refine eI<|aP<|cF J<|aD<|n4 _ _ ?_
   refine p12 _ _ _ ?_ ⟨(((i+j) / 2)+1),j,J,t0,t2,t4,t8,(bL (cO<|((i+j) / 2)+1) JR),t10,h4,?_,?_,?_⟩
   . omega
   . omega
   . omega
   . omega
  have d1: ¬((i+j) / 2 < lbN l t):=λe=>c5<|(aF7 hs OM).2 e
  refine eI<|aP<|aD<|n4 _ _ ?_
  refine p12 _ _ _ ?_ ⟨i,((i+j) / 2),J,t0,t2,t4,t8,t9,(bL (cO<|(i+j) / 2) JR),h4,?_,?_,?_⟩
  . omega
  . omega
  . omega
  . omega
 refine aT<|p32 _ _ _<|x1 _ _ (.done (aW<|aJ t9<|aJ t9<|aJ t8<|bZ J J<|aP ?_))
 refine bU 9 (λT H=>T 35=(iV ((i:Nat):Int))/\T 48=(V.bool<|decide ((((i:Nat):Int) < ((l.length:Nat):Int))/\((fS (aA l i).ni t.ni)=(0:Int))))/\H 4=(bk 1 56 2 [[(aE t.ni),(aE t.no)]])/\True) ?_ ?_
 . 
  by_cases g6:((i:Nat):Int) < ((l.length:Nat):Int)
  . 
   refine aN (bY g6 J)<|aJ t2<|aN (bY g6 J)<|aJ t0<|aN (bY g6 J)<|aJ t9<|aN (bY g6 J)<|dA (i:=i) (aM<|V.sl<|List.map cT l) (cO i)<|aN (bY g6 J)<|aL J J<|aN (bY g6 J)<|aV t4 h4 J J<|aN (bY g6 J)<|iP (aM<|V.fn 196 [] []) (bO (aM<|V.agg [(aE<|(aA l i).ni),(aE<|(aA l i).no)])<|bO (aM<|V.agg [(aE t.ni),(aE t.no)]) dQ) (aCf (aA l i) t) (eF _ _ (by simp [-List.map_take,-List.map_drop,-List.map_append,-List.map_reverse])) (by simp [-List.map_take,-List.map_drop,-List.map_append,-List.map_reverse]) (Or.inl (by simp [-List.map_take,-List.map_drop,-List.map_append,-List.map_reverse]))<|aN (bY g6 J)<|eV J J ?_
   refine bV (bY g6 J) J ?_;exact ⟨J,(eT g6),h4,trivial⟩
  . 
   refine bW (bX g6 J)<|bW (bX g6 J)<|bW (bX g6 J)<|bW (bX g6 J)<|bW (bX g6 J)<|bW (bX g6 J)<|bW (bX g6 J)<|bW (bX g6 J)<|bT (bX g6 J) J ?_
   exact ⟨J,(eU g6),h4,trivial⟩
 intro T H ⟨t35,t48,h4,_⟩;refine aJ t35<|aJ t48<|R_q ?_
 refine iW (cO i) (aM<|V.bool<|decide ((((i:Nat):Int) < ((l.length:Nat):Int))/\((fS (aA l i).ni t.ni)=(0:Int)))) (aF ?_)<|cH ?_
 . have e:i=lbN l t:=OM
   rw [e]
 . have e:i=lbN l t:=OM
   rw [e]; exact decide_eq_decide.2 OM
end
section
open Go Go.Proofs Go.Shelf
def aJl:Go.Shelf.Ren:=⟨fun|22=>197|29=>211|30=>212|n=>n,fun|24=>29|9=>56|n=>n,λn=>n⟩
theorem aI5:InsLay Tryz.prog aJl Tryz.f197.name 2 48 (.agg #[.slice none 0 0,.slice none 0 0]):={
  mixed:=by kernel_rfl
  f22:=Tryz.func197.trans<|congrArg some (by kernel_rfl)
  ov:=λargs w=>run_callFunc_extern Tryz.func211 (by kernel_rfl) (by kernel_rfl) (by kernel_rfl) (by kernel_rfl) args w
  t0:=Tryz.underlying0,a0:=Tryz.isAgg0,z0:=Tryz.sizeOf0,v0:=Tryz.zeroValue0
  t3:=Tryz.underlying3,a3:=Tryz.isAgg3,z3:=Tryz.sizeOf3,v3:=Tryz.zeroValue3
  t4:=Tryz.underlying4,a4:=Tryz.isAgg4,z4:=Tryz.sizeOf4,v4:=Tryz.zeroValue4
  z9:=Tryz.sizeOf56
  t24:=Tryz.underlying29,a24:=Tryz.isAgg29,z24:=Tryz.sizeOf29,v24:=Tryz.zeroValue29
  i9:=by kernel_rfl
  hk:=DE
  hz:=by kernel_rfl}
theorem aF2:fT Tryz.prog 197:=⟨_,Tryz.func197,by kernel_rfl,by kernel_rfl⟩
end
section
open Go Go.Proofs
theorem aDf {F:List Tr} {t:Tr} {v9 v54 ty2:Nat} {H:bC} (r:List (List V)) (h209:H 209=⟨v9,true,false,56,2,List.map cT F++r⟩) (h354:H 354=⟨v54,true,false,ty2,2,[cT t]⟩) (hl:F.length<=100000) (hs:Srt F):
    fA Tryz.prog 197 [.ms 209 v9 0 F.length,iV ((lbN F t:Nat):Int),.ms 354 v54 0 1] H (.ms 209 (v9+2) 0 (F.length+1)) (cX H 209 ⟨v9+2,true,false,56,2,List.map cT (ins F t)⟩):=by
  have hf: ∀ l:List Tr,eH 2 (List.map cT l)=true:=λl=>by
    simp only [eH,List.all_eq_true];intro r hr;obtain ⟨x,_,rfl⟩:=List.mem_map.1 hr
    rfl
  have e:(List.map cT F++r).take F.length=List.map cT F:=uK J;have:=wV (zz:=[.nilsl,.nilsl]) (row:=cT t) (i:=lbN F t) (n:=F.length) aI5 aF2 (by kernel_rfl) J (lz:=false) J h209 h354 DE SI (aL3 F) (by rw [e]; exact hf F) (hf [t]) OM OM;rw [e] at this;rw [<- aPf hs,List.map_append,List.map_cons,List.map_take,List.map_drop];exact this
theorem aJX (l:List Tr) (t:Tr) (i:Int) (v9 v3 v8 v54 v7:Nat) (ho:OK ⟨i,l⟩) (hpt:vZ t i=0) (he:oJ l t=0) (Hi:bC) (h209:Hi 209=(bk v9 56 2 (List.map cT l))) (h303:(Hi 303).ver=v3) (h308:(Hi 308).ver=v8) (h354:(Hi 354).ver=v54) (h407:(Hi 407).ver=v7):fA Tryz.prog 165 [(V.ms 209 v9 0 l.length),(V.agg [(aE t.ni),(aE t.no)])] Hi (V.tup [(V.ms 209 (v9+2) 0 ((lV l t).length)),(iV (oJ l t))]) (cX (cX (cX (cX (cX Hi 303 (⟨v3+1,false,false,0,0,[]⟩:Blk)) 308 (⟨v8+l.length,false,false,0,0,[]⟩:Blk)) 354 (⟨v54+1,false,false,0,0,[]⟩:Blk)) 407 (⟨v7+l.length,false,false,0,0,[]⟩:Blk)) 209 (bk (v9+2) 56 2 (List.map cT (lV l t)))):=by
 refine' eK [54] [] (k0:=300) Tryz.func165 ?e λhB=>?_
 case e=>conv=>lhs; cbv
 have hl:l.length<=10000:=ho.len;have hp1:=aBx hpt;have hp2:=hp1.len;have hp3:=hp1.lel;have hpl: ∀ k,k < l.length->(aA l k).no.length=(aA l k).ni.length:=λk hk=>((ho.pr k hk).1.len)
 have hfl:=List.length_filter_le (kp t) l;have hsr:Srt (l.filter<|kp t):=aCq ho.srt _;dsimp only;refine aW<|bS (i:=303) (n:=v3) (m:=2) (cs:=[(aE t.ni),(aE t.no)]) JR h303 J J J<|aP<|aD<|aW<|aD<|aO<|aP<|dW J h209 SI<|aD (aG λQ1 n1 x1 y1 z1=>?_)
 refine cC (λmm T H=> ∃ (k:Nat) (v308:Nat),mm=l.length - k/\T 0=(V.ms 209 v9 0 l.length)/\T 3=(V.mp 303 (v3+1) 0 0)/\T 6=(V.bool<|exB (inP l t) 0 k)/\T 11=(V.ms 209 v9 0 l.length)/\T 12=(iV ((l.length:Nat):Int))/\T 13=(iV ((k:Nat):Int))/\(∀ j,j∉[303,308,354,407,209]->H j=Hi j)/\H 209=(bk v9 56 2<|List.map cT l)/\H 303=(bk (v3+1) 56 2 [[(aE t.ni),(aE t.no)]])/\(H 308).ver=v308/\(H 354).ver=v54/\(H 407).ver=v7/\(k<=l.length)/\(v308<=v8+k)/\(fi (ndP l t) 0 l.length=fi (ndP l t) k (l.length - k))) ?_ ?_
 . 
  refine ⟨_,0,v8,J,J,J,(bL (aM<|V.bool false) JR),J,J,(bL (aM<|iV 0) J),(bG (λ_ _=>J) DE),h209,J,h308,h354,h407,?_,?_,?_⟩
  . omega
  . omega
  . rfl
 intro mm T H ⟨k,v308,hmm,t0,t3,t6,t11,t12,t13,hF,h209,h303,h308,h354,h407,hk,hv8,hc⟩ Q2 p12 p22 p32;refine aW<|bZ t13 t12<|bR ?_
 refine aH J (λc3=>?_) λc3=>?_
 . 
  refine aB (aG λQ4 n4 x4 y4 z4=>(aW<|dC (i:=k) t11 t13 h209 oB J OM<|cQ (v:=(V.agg [(aE<|(aA l k).ni),(aE<|(aA l k).no)])) J h209 (dS OM JR)<|bM (i:=308) (n:=v308) (m:=2) JR h308 J<|bQ J J J J J J J J J<|tA<|aW<|aV J J J J<|aV t3 h303 J J<|aI (aAa (aA l k) t (hpl k OM) hp1.len) J<|iC J J<|bR ?_));refine aH J (λc5=>?_) λc5=>?_
  . 
   have d1:ndP l t k=true:=decide_eq_true c5;refine aO<|aP<|aD<|aK<|y4 _ _<|p22 _ _<|y1 _ _<|eJ (R:=λT H=>T 4=V.nilsl/\T 5=(iV 13)/\(∀ j,j∉[303,308,354,407,209]->H j=Hi j)/\H 209=(bk v9 56 2<|List.map cT l)/\H 303=(bk (v3+1) 56 2 [[(aE t.ni),(aE t.no)]])/\H 308=(bk (v308+1) 56 2 [[(aE<|(aA l k).ni),(aE<|(aA l k).no)]])/\(H 354).ver=v54/\(H 407).ver=v7/\True) ⟨(aM V.nilsl),(aM<|iV 13),(bG (bG hF DE) DE),h209,h303,J,h354,h407,trivial⟩ ?_
   intro T H ⟨t4,t5,hF,h209,h303,h308,h354,h407,_⟩;exfalso; unfold oJ at he; rw [if_pos (by rw [hc,mI d1 OM]; omega)] at he; cases he
  have d1:ndP l t k=false:=decide_eq_false c5;refine aB<|eI<|aJ t6<|aP ?_
  refine bU 6 (λT H=>T 0=(V.ms 209 v9 0 l.length)/\T 3=(V.mp 303 (v3+1) 0 0)/\T 6=(V.bool<|exB (inP l t) 0 k)/\T 11=(V.ms 209 v9 0 l.length)/\T 12=(iV ((l.length:Nat):Int))/\T 13=(iV ((k:Nat):Int))/\T 28=(V.bool ((exB (inP l t) 0 k)||(hp ((aA l k).ni) t.ni)))/\(∀ j,j∉[303,308,354,407,209]->H j=Hi j)/\H 209=(bk v9 56 2<|List.map cT l)/\H 303=(bk (v3+1) 56 2 [[(aE t.ni),(aE t.no)]])/\H 308=(bk (v308+1) 56 2 [[(aE<|(aA l k).ni),(aE<|(aA l k).no)]])/\(H 354).ver=v54/\(H 407).ver=v7/\True) ?_ ?_
  . 
   by_cases g6:(exB (inP l t) 0 k)=true
   . 
    refine bW (gQ g6 J)<|bW (gQ g6 J)<|bW (gQ g6 J)<|bW (gQ g6 J)<|bW (gQ g6 J)<|bV (gQ g6 J) J ?_
    exact ⟨t0,t3,t6,t11,t12,t13,(vX g6),(bG (bG hF DE) DE),h209,h303,J,h354,h407,trivial⟩
   . 
    refine aN (gP g6 J)<|cM J J<|aN (gP g6 J)<|aV J J J J<|aN (gP g6 J)<|cM t3 h303<|aN (gP g6 J)<|aV J h303 J J<|aN (gP g6 J)<|aI (yK ((aA l k).ni) t.ni) J<|bT (gP g6 J) J ?_
    exact ⟨t0,t3,t6,t11,t12,t13,(wA g6),(bG (bG hF DE) DE),h209,h303,J,h354,h407,trivial⟩
  intro T H ⟨t0,t3,t6,t11,t12,t13,t28,hF,h209,h303,h308,h354,h407,_⟩;refine aJ t28<|bR<|n4 _ _ (.done (eI<|cF t13<|aD ?_))
  refine p12 _ _ _ ?_ ⟨(k+1),(v308+1),J,t0,t3,(bL (aM<|V.bool ((exB (inP l t) 0 k)||(hp ((aA l k).ni) t.ni))) (by (simp only [exB,inP,Nat.zero_add]; done))),t11,t12,(bL (cO<|k+1) JR),hF,h209,h303,(cE h308),h354,h407,?_,?_,?_⟩
  . omega
  . omega
  . omega
  . rw [hc,kL d1 OM]
 refine aT<|p32 _ _ _<|x1 _ _ (.done (aO<|aJ t6<|aP ?_))
 refine bU 5 (λT H=>T 0=(V.ms 209 v9 0 l.length)/\T 3=(V.mp 303 (v3+1) 0 0)/\T 36=(V.bool ((exB (inP l t) 0 k)||decide (((t.ni.length:Nat):Int)=(0:Int))))/\(∀ j,j∉[303,308,354,407,209]->H j=Hi j)/\H 209=(bk v9 56 2<|List.map cT l)/\H 303=(bk (v3+1) 56 2 [[(aE t.ni),(aE t.no)]])/\(H 308).ver=v308/\(H 354).ver=v54/\(H 407).ver=v7/\True) ?_ ?_
 . 
  by_cases g7:(exB (inP l t) 0 k)=true
  . 
   refine bW (gQ g7 J)<|bW (gQ g7 J)<|bW (gQ g7 J)<|bW (gQ g7 J)<|bV (gQ g7 J) J ?_
   exact ⟨t0,t3,(vX g7),hF,h209,h303,h308,h354,h407,trivial⟩
  . 
   refine aN (gP g7 J)<|cM t3 h303<|aN (gP g7 J)<|aV J h303 J J<|aN (gP g7 J)<|bA J<|aN (gP g7 J)<|eV J J<|bT (gP g7 J) J ?_
   exact ⟨t0,t3,(wA g7),hF,h209,h303,h308,h354,h407,trivial⟩
 intro T H ⟨t0,t3,t36,hF,h209,h303,h308,h354,h407,_⟩;refine bR ?_;refine cU t36 (λc8=>?_) (λc8=>?_)
 . 
  have d2:inL l t:=by have q:=c8; rw [show k=l.length by omega] at q; simpa [inL] using q
  refine aO<|aJ t0<|aP<|aD<|aK<|eJ (R:=λT H=>T 4=(V.ms 209 v9 0 l.length)/\T 5=(iV 0)/\(∀ j,j∉[303,308,354,407,209]->H j=Hi j)/\H 209=(bk v9 56 2<|List.map cT l)/\H 303=(bk (v3+1) 56 2 [[(aE t.ni),(aE t.no)]])/\(H 308).ver=v308/\(H 354).ver=v54/\(H 407).ver=v7/\True) ⟨(aM<|V.ms 209 v9 0 l.length),(aM<|iV 0),hF,h209,h303,h308,h354,h407,trivial⟩ ?_
  intro T H ⟨t4,t5,hF,h209,h303,h308,h354,h407,_⟩;skip;have fh:=dK.fin<|dK.put (B:=(bk (v9+2) 56 2<|List.map cT<|lV l t)) (dK.putv (n:=v7) (B:=(⟨v7+l.length,false,false,0,0,[]⟩:Blk)) (dK.putv (n:=v54) (B:=(⟨v54+1,false,false,0,0,[]⟩:Blk)) (dK.putv (n:=v308) (B:=(⟨v8+l.length,false,false,0,0,[]⟩:Blk)) (dK.putv (n:=(v3+1)) (B:=(⟨v3+1,false,false,0,0,[]⟩:Blk)) (dK.start hF) (cE h303) (by show _<=v3+1; omega) J) h308 (by show _<=v8+l.length; omega) J) h354 (by show _<=v54+1; omega) J) h407 (by show _<=v7+l.length; omega) J) h209<|iZ.up OM (by (rw [lV,if_pos d2]; done))
  exact aDl t4 t5 fh (eY.trans_eq (eY.ms (n:=(v9+2)) fh (by simp [h209]) (by simp [h209]) J J) (by (rw [lV,if_pos d2]; done)))<|eY.trans_eq (eY.same fh _) (by (rw [he]; done))
 have d2: ¬inL l t:=by have q:=c8; rw [show k=l.length by omega] at q; simpa [inL] using q
 refine aB<|aW<|aJ t0<|yG (bO t3 dQ)<|gA (bO J<|bO J dQ) (aN4 l t v9 (v3+1) v7 _ h209 h303 h407 OM)<|aD<|aO<|aP<|dW J (@J Blk<|bk v9 56 2<|List.map cT (l.filter<|kp t)++List.replicate (l.length - (l.filter<|kp t).length) [V.nilsl,V.nilsl]) SI<|eV J J<|bR ?_
 refine aH J (λc9=>?_) λc9=>?_
 . 
  have d3:=c9;refine aO<|aP<|aD<|aK<|eJ (R:=λT H=>T 4=V.nilsl/\T 5=(iV 11)/\(∀ j,j∉[303,308,354,407,209]->H j=Hi j)/\H 209=(bk v9 56 2<|List.map cT (l.filter<|kp t)++List.replicate (l.length - (l.filter<|kp t).length) [V.nilsl,V.nilsl])/\H 303=(bk (v3+1) 56 2 [[(aE t.ni),(aE t.no)]])/\(H 308).ver=v308/\(H 354).ver=v54/\H 407=(⟨v7+l.length,false,false,0,0,[]⟩:Blk)/\True) ⟨(aM V.nilsl),(aM<|iV 11),(bG (bG hF DE) DE),J,h303,h308,h354,J,trivial⟩ ?_
  intro T H ⟨t4,t5,hF,h209,h303,h308,h354,h407,_⟩;exfalso;have d4: ¬0<=fi (ndP l t) 0 l.length:=by rw [hc,kD OM]; omega
  unfold oJ at he;rw [if_neg d4,if_neg d2,if_pos OM] at he; cases he
 have d3:=c9;refine aB<|aW<|aP<|aV t3 h303 J J<|jN (bO (aM<|V.ms 209 v9 0<|(l.filter<|kp t).length)<|bO (aM<|V.agg [(aE t.ni),(aE t.no)])<|bO (aM<|V.fn 196 [] []) dQ) (aHH (l.filter<|kp t) t hsr OM) (cZ (rH (@J Blk<|bk v9 56 2<|List.map cT (l.filter<|kp t)++List.replicate (l.length - (l.filter<|kp t).length) [V.nilsl,V.nilsl]) SI (uK (l:=(l.filter<|kp t)) JR) (λ_=>by simp))<|cZ (dM 6 _ (by simp [-List.map_take,-List.map_drop,-List.map_append,-List.map_reverse]))<|cZ (dM 6 _ (by simp [-List.map_take,-List.map_drop,-List.map_append,-List.map_reverse])) J) (by simp [-List.map_take,-List.map_drop,-List.map_append,-List.map_reverse]) (Or.inr J)<|aP<|bE J J<|bE J J<|aP<|aD<|aW<|aP<|aP<|aV t3 h303 J J<|aI (tZ t OM OM) J ?_
 refine gE (i:=354) (n:=v54) (qs:=[(0,(V.agg [(aE t.ni),(aE t.no)]))]) (rows:=[[(aE t.ni),(aE t.no)]]) JR h354 (cZ (congrArg (λv=>(0,v)) J) J) J<|gA (bO J<|bO J<|bO J dQ) (aDf (F:=(l.filter<|kp t)) (t:=t) _ J J OM hsr)<|aP<|aD<|bF<|eJ (R:=λT H=>T 4=(V.ms 209 (v9+2) 0<|(l.filter<|kp t).length+1)/\T 5=(iV 0)/\(∀ j,j∉[303,308,354,407,209]->H j=Hi j)/\H 209=(bk (v9+2) 56 2<|List.map cT<|ins (l.filter<|kp t) t)/\H 303=(bk (v3+1) 56 2 [[(aE t.ni),(aE t.no)]])/\(H 308).ver=v308/\H 354=(bk (v54+1) 56 2 [[(aE t.ni),(aE t.no)]])/\H 407=(⟨v7+l.length,false,false,0,0,[]⟩:Blk)/\True) ⟨(aM<|V.ms 209 (v9+2) 0<|(l.filter<|kp t).length+1),(aM<|iV 0),(bG (bG (bG (bG hF DE) DE) DE) DE),J,h303,h308,J,J,trivial⟩ ?_
 intro T H ⟨t4,t5,hF,h209,h303,h308,h354,h407,_⟩;skip;have fh:=dK.fin<|dK.put (B:=(bk (v9+2) 56 2<|List.map cT<|lV l t)) (dK.put (dK.putv (n:=(v54+1)) (B:=(⟨v54+1,false,false,0,0,[]⟩:Blk)) (dK.putv (n:=v308) (B:=(⟨v8+l.length,false,false,0,0,[]⟩:Blk)) (dK.putv (n:=(v3+1)) (B:=(⟨v3+1,false,false,0,0,[]⟩:Blk)) (dK.start hF) (cE h303) (by show _<=v3+1; omega) J) h308 (by show _<=v8+l.length; omega) J) (cE h354) (by show _<=v54+1; omega) J) h407<|iZ.eq J) h209<|iZ.eq (by (rw [lV,if_neg d2]; done))
 exact aDl t4 t5 fh (eY.trans_eq (eY.same fh _) (by (rw [lV,if_neg d2,aDM]; done)))<|eY.trans_eq (eY.same fh _) (by (rw [he]; done))
theorem aIV (l:List Tr) (t:Tr) (i:Int) (v9 v3 v8 v54 v7:Nat) (ho:OK ⟨i,l⟩) (hpt:vZ t i=0) (he:oJ l t≠0) (Hi:bC) (h209:Hi 209=(bk v9 56 2 (List.map cT l))) (h303:(Hi 303).ver=v3) (h308:(Hi 308).ver=v8) (h354:(Hi 354).ver=v54) (h407:(Hi 407).ver=v7):fA Tryz.prog 165 [(V.ms 209 v9 0 l.length),(V.agg [(aE t.ni),(aE t.no)])] Hi (V.tup [(V.sl []),(iV (oJ l t))]) (cX (cX (cX (cX (cX Hi 303 (⟨v3+1,false,false,0,0,[]⟩:Blk)) 308 (⟨v8+l.length,false,false,0,0,[]⟩:Blk)) 354 (⟨v54+1,false,false,0,0,[]⟩:Blk)) 407 (⟨v7+l.length,false,false,0,0,[]⟩:Blk)) 209 (⟨v9+2,false,false,0,0,[]⟩:Blk)):=by
 refine' eK [54] [] (k0:=300) Tryz.func165 ?e λhB=>?_
 case e=>conv=>lhs; cbv
 have hl:l.length<=10000:=ho.len;have hp1:=aBx hpt;have hp2:=hp1.len;have hp3:=hp1.lel;have hpl: ∀ k,k < l.length->(aA l k).no.length=(aA l k).ni.length:=λk hk=>((ho.pr k hk).1.len)
 have hfl:=List.length_filter_le (kp t) l;have hsr:Srt (l.filter<|kp t):=aCq ho.srt _;dsimp only;refine aW<|bS (i:=303) (n:=v3) (m:=2) (cs:=[(aE t.ni),(aE t.no)]) JR h303 J J J<|aP<|aD<|aW<|aD<|aO<|aP<|dW J h209 SI<|aD (aG λQ1 n1 x1 y1 z1=>?_)
 refine cC (λmm T H=> ∃ (k:Nat) (v308:Nat),mm=l.length - k/\T 0=(V.ms 209 v9 0 l.length)/\T 3=(V.mp 303 (v3+1) 0 0)/\T 6=(V.bool<|exB (inP l t) 0 k)/\T 11=(V.ms 209 v9 0 l.length)/\T 12=(iV ((l.length:Nat):Int))/\T 13=(iV ((k:Nat):Int))/\(∀ j,j∉[303,308,354,407,209]->H j=Hi j)/\H 209=(bk v9 56 2<|List.map cT l)/\H 303=(bk (v3+1) 56 2 [[(aE t.ni),(aE t.no)]])/\(H 308).ver=v308/\(H 354).ver=v54/\(H 407).ver=v7/\(k<=l.length)/\(v308<=v8+k)/\(fi (ndP l t) 0 l.length=fi (ndP l t) k (l.length - k))) ?_ ?_
 . 
  refine ⟨_,0,v8,J,J,J,(bL (aM<|V.bool false) JR),J,J,(bL (aM<|iV 0) J),(bG (λ_ _=>J) DE),h209,J,h308,h354,h407,?_,?_,?_⟩
  . omega
  . omega
  . rfl
 intro mm T H ⟨k,v308,hmm,t0,t3,t6,t11,t12,t13,hF,h209,h303,h308,h354,h407,hk,hv8,hc⟩ Q2 p12 p22 p32;refine aW<|bZ t13 t12<|bR ?_
 refine aH J (λc3=>?_) λc3=>?_
 . 
  refine aB (aG λQ4 n4 x4 y4 z4=>(aW<|dC (i:=k) t11 t13 h209 oB J OM<|cQ (v:=(V.agg [(aE<|(aA l k).ni),(aE<|(aA l k).no)])) J h209 (dS OM JR)<|bM (i:=308) (n:=v308) (m:=2) JR h308 J<|bQ J J J J J J J J J<|tA<|aW<|aV J J J J<|aV t3 h303 J J<|aI (aAa (aA l k) t (hpl k OM) hp1.len) J<|iC J J<|bR ?_));refine aH J (λc5=>?_) λc5=>?_
  . 
   have d1:ndP l t k=true:=decide_eq_true c5;refine aO<|aP<|aD<|aK<|y4 _ _<|p22 _ _<|y1 _ _<|eJ (R:=λT H=>T 4=V.nilsl/\T 5=(iV 13)/\(∀ j,j∉[303,308,354,407,209]->H j=Hi j)/\H 209=(bk v9 56 2<|List.map cT l)/\H 303=(bk (v3+1) 56 2 [[(aE t.ni),(aE t.no)]])/\H 308=(bk (v308+1) 56 2 [[(aE<|(aA l k).ni),(aE<|(aA l k).no)]])/\(H 354).ver=v54/\(H 407).ver=v7/\True) ⟨(aM V.nilsl),(aM<|iV 13),(bG (bG hF DE) DE),h209,h303,J,h354,h407,trivial⟩ ?_
   intro T H ⟨t4,t5,hF,h209,h303,h308,h354,h407,_⟩;skip;have fh:=dK.fin<|dK.putv (n:=v9) (B:=(⟨v9+2,false,false,0,0,[]⟩:Blk)) (dK.putv (n:=v7) (B:=(⟨v7+l.length,false,false,0,0,[]⟩:Blk)) (dK.putv (n:=v54) (B:=(⟨v54+1,false,false,0,0,[]⟩:Blk)) (dK.putv (n:=(v308+1)) (B:=(⟨v8+l.length,false,false,0,0,[]⟩:Blk)) (dK.putv (n:=(v3+1)) (B:=(⟨v3+1,false,false,0,0,[]⟩:Blk)) (dK.start hF) (cE h303) (by show _<=v3+1; omega) J) (cE h308) (by show _<=v8+l.length; omega) J) h354 (by show _<=v54+1; omega) J) h407 (by show _<=v7+l.length; omega) J) (cE h209) (by show _<=v9+2; omega) J
   exact aDl t4 t5 fh .nil<|eY.trans_eq (eY.same fh _) (by (rw [oJ,if_pos (by rw [hc,mI d1 OM]; omega)]; done))
  have d1:ndP l t k=false:=decide_eq_false c5;refine aB<|eI<|aJ t6<|aP ?_
  refine bU 6 (λT H=>T 0=(V.ms 209 v9 0 l.length)/\T 3=(V.mp 303 (v3+1) 0 0)/\T 6=(V.bool<|exB (inP l t) 0 k)/\T 11=(V.ms 209 v9 0 l.length)/\T 12=(iV ((l.length:Nat):Int))/\T 13=(iV ((k:Nat):Int))/\T 28=(V.bool ((exB (inP l t) 0 k)||(hp ((aA l k).ni) t.ni)))/\(∀ j,j∉[303,308,354,407,209]->H j=Hi j)/\H 209=(bk v9 56 2<|List.map cT l)/\H 303=(bk (v3+1) 56 2 [[(aE t.ni),(aE t.no)]])/\H 308=(bk (v308+1) 56 2 [[(aE<|(aA l k).ni),(aE<|(aA l k).no)]])/\(H 354).ver=v54/\(H 407).ver=v7/\True) ?_ ?_
  . 
   by_cases g6:(exB (inP l t) 0 k)=true
   . 
    refine bW (gQ g6 J)<|bW (gQ g6 J)<|bW (gQ g6 J)<|bW (gQ g6 J)<|bW (gQ g6 J)<|bV (gQ g6 J) J ?_
    exact ⟨t0,t3,t6,t11,t12,t13,(vX g6),(bG (bG hF DE) DE),h209,h303,J,h354,h407,trivial⟩
   . 
    refine aN (gP g6 J)<|cM J J<|aN (gP g6 J)<|aV J J J J<|aN (gP g6 J)<|cM t3 h303<|aN (gP g6 J)<|aV J h303 J J<|aN (gP g6 J)<|aI (yK ((aA l k).ni) t.ni) J<|bT (gP g6 J) J ?_
    exact ⟨t0,t3,t6,t11,t12,t13,(wA g6),(bG (bG hF DE) DE),h209,h303,J,h354,h407,trivial⟩
  intro T H ⟨t0,t3,t6,t11,t12,t13,t28,hF,h209,h303,h308,h354,h407,_⟩;refine aJ t28<|bR<|n4 _ _ (.done (eI<|cF t13<|aD ?_))
  refine p12 _ _ _ ?_ ⟨(k+1),(v308+1),J,t0,t3,(bL (aM<|V.bool ((exB (inP l t) 0 k)||(hp ((aA l k).ni) t.ni))) (by (simp only [exB,inP,Nat.zero_add]; done))),t11,t12,(bL (cO<|k+1) JR),hF,h209,h303,(cE h308),h354,h407,?_,?_,?_⟩
  . omega
  . omega
  . omega
  . rw [hc,kL d1 OM]
 refine aT<|p32 _ _ _<|x1 _ _ (.done (aO<|aJ t6<|aP ?_))
 refine bU 5 (λT H=>T 0=(V.ms 209 v9 0 l.length)/\T 3=(V.mp 303 (v3+1) 0 0)/\T 36=(V.bool ((exB (inP l t) 0 k)||decide (((t.ni.length:Nat):Int)=(0:Int))))/\(∀ j,j∉[303,308,354,407,209]->H j=Hi j)/\H 209=(bk v9 56 2<|List.map cT l)/\H 303=(bk (v3+1) 56 2 [[(aE t.ni),(aE t.no)]])/\(H 308).ver=v308/\(H 354).ver=v54/\(H 407).ver=v7/\True) ?_ ?_
 . 
  by_cases g7:(exB (inP l t) 0 k)=true
  . 
   refine bW (gQ g7 J)<|bW (gQ g7 J)<|bW (gQ g7 J)<|bW (gQ g7 J)<|bV (gQ g7 J) J ?_
   exact ⟨t0,t3,(vX g7),hF,h209,h303,h308,h354,h407,trivial⟩
  . 
   refine aN (gP g7 J)<|cM t3 h303<|aN (gP g7 J)<|aV J h303 J J<|aN (gP g7 J)<|bA J<|aN (gP g7 J)<|eV J J<|bT (gP g7 J) J ?_
   exact ⟨t0,t3,(wA g7),hF,h209,h303,h308,h354,h407,trivial⟩
 intro T H ⟨t0,t3,t36,hF,h209,h303,h308,h354,h407,_⟩;refine bR ?_;refine cU t36 (λc8=>?_) (λc8=>?_)
 . 
  have d2:inL l t:=by have q:=c8; rw [show k=l.length by omega] at q; simpa [inL] using q
  refine aO<|aJ t0<|aP<|aD<|aK<|eJ (R:=λT H=>T 4=(V.ms 209 v9 0 l.length)/\T 5=(iV 0)/\(∀ j,j∉[303,308,354,407,209]->H j=Hi j)/\H 209=(bk v9 56 2<|List.map cT l)/\H 303=(bk (v3+1) 56 2 [[(aE t.ni),(aE t.no)]])/\(H 308).ver=v308/\(H 354).ver=v54/\(H 407).ver=v7/\True) ⟨(aM<|V.ms 209 v9 0 l.length),(aM<|iV 0),hF,h209,h303,h308,h354,h407,trivial⟩ ?_
  intro T H ⟨t4,t5,hF,h209,h303,h308,h354,h407,_⟩;exfalso;have d4: ¬0<=fi (ndP l t) 0 l.length:=by rw [hc,kD OM]; omega
  apply he; rw [oJ,if_neg d4,if_pos d2]
 have d2: ¬inL l t:=by have q:=c8; rw [show k=l.length by omega] at q; simpa [inL] using q
 refine aB<|aW<|aJ t0<|yG (bO t3 dQ)<|gA (bO J<|bO J dQ) (aN4 l t v9 (v3+1) v7 _ h209 h303 h407 OM)<|aD<|aO<|aP<|dW J (@J Blk<|bk v9 56 2<|List.map cT (l.filter<|kp t)++List.replicate (l.length - (l.filter<|kp t).length) [V.nilsl,V.nilsl]) SI<|eV J J<|bR ?_
 refine aH J (λc9=>?_) λc9=>?_
 . 
  have d3:=c9;refine aO<|aP<|aD<|aK<|eJ (R:=λT H=>T 4=V.nilsl/\T 5=(iV 11)/\(∀ j,j∉[303,308,354,407,209]->H j=Hi j)/\H 209=(bk v9 56 2<|List.map cT (l.filter<|kp t)++List.replicate (l.length - (l.filter<|kp t).length) [V.nilsl,V.nilsl])/\H 303=(bk (v3+1) 56 2 [[(aE t.ni),(aE t.no)]])/\(H 308).ver=v308/\(H 354).ver=v54/\H 407=(⟨v7+l.length,false,false,0,0,[]⟩:Blk)/\True) ⟨(aM V.nilsl),(aM<|iV 11),(bG (bG hF DE) DE),J,h303,h308,h354,J,trivial⟩ ?_
  intro T H ⟨t4,t5,hF,h209,h303,h308,h354,h407,_⟩;have d4: ¬0<=fi (ndP l t) 0 l.length:=by rw [hc,kD OM]; omega

  have fh:=dK.fin<|dK.putv (n:=v9) (B:=(⟨v9+2,false,false,0,0,[]⟩:Blk)) (dK.put (dK.putv (n:=v54) (B:=(⟨v54+1,false,false,0,0,[]⟩:Blk)) (dK.putv (n:=v308) (B:=(⟨v8+l.length,false,false,0,0,[]⟩:Blk)) (dK.putv (n:=(v3+1)) (B:=(⟨v3+1,false,false,0,0,[]⟩:Blk)) (dK.start hF) (cE h303) (by show _<=v3+1; omega) J) h308 (by show _<=v8+l.length; omega) J) h354 (by show _<=v54+1; omega) J) h407<|iZ.eq J) (cE h209) (by show _<=v9+2; omega) J
  exact aDl t4 t5 fh .nil<|eY.trans_eq (eY.same fh _) (by (rw [oJ,if_neg d4,if_neg d2,if_pos OM]; done))
 have d3:=c9;refine aB<|aW<|aP<|aV t3 h303 J J<|jN (bO (aM<|V.ms 209 v9 0<|(l.filter<|kp t).length)<|bO (aM<|V.agg [(aE t.ni),(aE t.no)])<|bO (aM<|V.fn 196 [] []) dQ) (aHH (l.filter<|kp t) t hsr OM) (cZ (rH (@J Blk<|bk v9 56 2<|List.map cT (l.filter<|kp t)++List.replicate (l.length - (l.filter<|kp t).length) [V.nilsl,V.nilsl]) SI (uK (l:=(l.filter<|kp t)) JR) (λ_=>by simp))<|cZ (dM 6 _ (by simp [-List.map_take,-List.map_drop,-List.map_append,-List.map_reverse]))<|cZ (dM 6 _ (by simp [-List.map_take,-List.map_drop,-List.map_append,-List.map_reverse])) J) (by simp [-List.map_take,-List.map_drop,-List.map_append,-List.map_reverse]) (Or.inr J)<|aP<|bE J J<|bE J J<|aP<|aD<|aW<|aP<|aP<|aV t3 h303 J J<|aI (tZ t OM OM) J ?_
 refine gE (i:=354) (n:=v54) (qs:=[(0,(V.agg [(aE t.ni),(aE t.no)]))]) (rows:=[[(aE t.ni),(aE t.no)]]) JR h354 (cZ (congrArg (λv=>(0,v)) J) J) J<|gA (bO J<|bO J<|bO J dQ) (aDf (F:=(l.filter<|kp t)) (t:=t) _ J J OM hsr)<|aP<|aD<|bF<|eJ (R:=λT H=>T 4=(V.ms 209 (v9+2) 0<|(l.filter<|kp t).length+1)/\T 5=(iV 0)/\(∀ j,j∉[303,308,354,407,209]->H j=Hi j)/\H 209=(bk (v9+2) 56 2<|List.map cT<|ins (l.filter<|kp t) t)/\H 303=(bk (v3+1) 56 2 [[(aE t.ni),(aE t.no)]])/\(H 308).ver=v308/\H 354=(bk (v54+1) 56 2 [[(aE t.ni),(aE t.no)]])/\H 407=(⟨v7+l.length,false,false,0,0,[]⟩:Blk)/\True) ⟨(aM<|V.ms 209 (v9+2) 0<|(l.filter<|kp t).length+1),(aM<|iV 0),(bG (bG (bG (bG hF DE) DE) DE) DE),J,h303,h308,J,J,trivial⟩ ?_
 intro T H ⟨t4,t5,hF,h209,h303,h308,h354,h407,_⟩;exfalso;have d4: ¬0<=fi (ndP l t) 0 l.length:=by rw [hc,kD OM]; omega
 apply he; rw [oJ,if_neg d4,if_neg d2,if_neg OM]
theorem aLS (o:Ob) (l:List Tr) (ho:OK o):bK Tryz.prog 114 [(V.agg [(iV o.i),(V.sl (List.map cT o.tr))]),(V.sl (List.map cT l))] (V.tup [(V.agg [(iV ((tF o l).i)),(V.sl (List.map cT ((tF o l).tr)))]),(iV ((rT o.i o.tr l).2))]):=by
 refine' pK [] [] Tryz.func114 ?e λhB=>?_
 case e=>conv=>lhs; cbv
 dsimp only;have hbd: ∀ k,k < o.tr.length->(aA o.tr k).ni.length<=1048576/\(aA o.tr k).no.length<=1048576:=λk hk=>by have:=(ho.pr k hk).1.len; have:=(ho.pr k hk).1.lel; omega
 have hol:=ho.len;refine aW<|bS (i:=2) (n:=0) (m:=2) (cs:=[(iV o.i),(V.sl<|List.map cT o.tr)]) J (cE J) J J J<|bM (i:=4) (n:=0) (m:=2) J (cE J) J<|aD<|aW<|aX J J J J<|gA (bO J dQ) (aND o.tr 0 0 hbd _ (cE J) (cE J) OM)<|aD<|aO<|aP<|bA J<|aP ?_
 refine bR (aG λQ1 n1 x1 y1 z1=>?_);refine cC (λmm T H=> ∃ (k:Nat) (w:Nat) (acc:List Tr) (v8:Nat) (v303:Nat) (v308:Nat) (v354:Nat) (v407:Nat),mm=l.length - k/\T 2=(cG 2)/\T 4=(cG 4)/\T 6=(V.ms 209 w 0 acc.length)/\T 15=(V.sl<|List.map cT l)/\T 16=(iV ((l.length:Nat):Int))/\T 17=(iV ((k:Nat):Int))/\H 2=(bk 1 31 2 [[(iV o.i),(V.sl<|List.map cT o.tr)]])/\H 4=(bk 1 31 2 [[(iV 0),V.nilsl]])/\(H 8).ver=v8/\H 205=(⟨0+o.tr.length,false,false,0,0,[]⟩:Blk)/\H 209=(bk w 56 2<|List.map cT acc)/\(H 303).ver=v303/\(H 308).ver=v308/\(H 354).ver=v354/\(H 407).ver=v407/\(k<=l.length)/\(rT o.i o.tr l=rT o.i acc (l.drop k))/\(OK ⟨o.i,acc⟩)) ?_ ?_
 . 
  refine ⟨_,0,(0+1+o.tr.length),o.tr,0,0,0,0,0,J,J,J,(bL (aM<|V.ms 209 (0+1+o.tr.length) 0 o.tr.length) JR),J,J,(bL (aM<|iV 0) J),J,J,(cE J),J,(bL (@J Blk<|bk (0+1+o.tr.length) 56 2<|List.map cT o.tr) JR),(cE J),(cE J),(cE J),(cE J),?_,?_,?_⟩
  . omega
  . rfl
  . exact ho
 intro mm T H ⟨k,w,acc,v8,v303,v308,v354,v407,hmm,t2,t4,t6,t15,t16,t17,h2,h4,h8,h205,h209,h303,h308,h354,h407,hk,hc,hok⟩ Q2 p12 p22 p32;refine aW<|bZ t17 t16<|bR ?_
 refine aH J (λc3=>?_) λc3=>?_
 . 
  refine aB (aG λQ4 n4 x4 y4 z4=>(aW<|dA (i:=k) t15 t17<|aL J J<|bM (i:=8) (n:=v8) (m:=2) J h8 J<|bQ J J J J J J J J J<|tA<|aW<|aV J J J J<|aX t2 h2 J J<|aI (aEC (aA l k) o.i) J<|aD ?_));refine aO<|aP<|bP J J<|bR ?_
  refine aH J (λc5=>?_) λc5=>?_
  . 
   have d1:=c5;refine aO<|aV t2 h2 J J<|aP<|bQ t4 J J h4 J J J J J<|aD<|aK<|y4 _ _<|p22 _ _<|y1 _ _ ?_
   refine dJ (bI (u:=(V.agg [(iV o.i),(V.sl<|List.map cT o.tr)])) t4 (@J Blk<|bk 1 31 2 [[(iV o.i),(V.sl<|List.map cT o.tr)]])<|lB oB J J) (aY<|aM<|iV<|vZ (aA l k) o.i) (cK (aF ?_)<|cA ?_ (λ_=>by simp))<|aF ?_
   . rw [aA1]
   . unfold tF; rw [if_pos (by rw [hc,aJS OM d1]; exact d1)]
   . rw [hc,aJS OM d1]
  have d1:vZ (aA l k) o.i=0:=OM
  refine aB (rU λK hK=>(aJ t6<|aV J J J J ?_));by_cases heF:oJ acc (aA l k)=0
  . 
   refine gA (bO J<|bO J dQ) (aJX acc (aA l k) _ w v303 v308 v354 v407 hok d1 heF _ h209 h303 h308 h354 h407)<|aP<|bE J J<|bE J J<|aP<|aP ?_
   refine eS<|hK _ _ ?_; clear hK K
   refine eJ (R:=λT H=>T 2=(cG 2)/\T 4=(cG 4)/\T 10=(V.ms 209 (w+2) 0<|(lV acc<|aA l k).length)/\T 11=(iV<|oJ acc<|aA l k)/\T 15=(V.sl<|List.map cT l)/\T 16=(iV ((l.length:Nat):Int))/\T 17=(iV ((k:Nat):Int))/\H 2=(bk 1 31 2 [[(iV o.i),(V.sl<|List.map cT o.tr)]])/\H 4=(bk 1 31 2 [[(iV 0),V.nilsl]])/\H 8=(bk (v8+1) 56 2 [[(aE<|(aA l k).ni),(aE<|(aA l k).no)]])/\H 205=(⟨0+o.tr.length,false,false,0,0,[]⟩:Blk)/\H 209=(bk (w+2) 56 2<|List.map cT<|lV acc<|aA l k)/\H 303=(⟨v303+1,false,false,0,0,[]⟩:Blk)/\H 308=(⟨v308+acc.length,false,false,0,0,[]⟩:Blk)/\H 354=(⟨v354+1,false,false,0,0,[]⟩:Blk)/\H 407=(⟨v407+acc.length,false,false,0,0,[]⟩:Blk)/\True) ⟨t2,t4,J,J,t15,t16,t17,h2,h4,J,h205,J,J,J,J,J,trivial⟩ ?_;intro T H ⟨t2,t4,t10,t11,t15,t16,t17,h2,h4,h8,h205,h209,h303,h308,h354,h407,_⟩;refine aO<|aJ t11<|bP J J<|bR ?_
   refine aH J (λc8=>?_) λc8=>?_
   . exact ((λ(e:(oJ acc<|aA l k)≠(0:Int))=>e heF) c8).elim
   refine aB<|eI<|aJ t10<|aD<|n4 _ _ (.done (eI<|cF t17<|aD ?_))
   refine p12 _ _ _ ?_ ⟨(k+1),(w+2),(lV acc<|aA l k),(v8+1),(v303+1),(v308+acc.length),(v354+1),(v407+acc.length),J,t2,t4,(bL (aM<|V.ms 209 (w+2) 0<|(lV acc<|aA l k).length) JR),t15,t16,(bL (cO<|k+1) JR),h2,h4,(cE h8),h205,(bL h209 JR),(cE h303),(cE h308),(cE h354),(cE h407),?_,?_,?_⟩
   . omega
   . omega
   . rw [hc,aPz OM d1 heF]
   . exact aJN hok d1 heF
  . 
   refine gA (bO J<|bO J dQ) (aIV acc (aA l k) _ w v303 v308 v354 v407 hok d1 heF _ h209 h303 h308 h354 h407)<|aP<|bE J J<|bE J J<|aP<|aP ?_
   refine eS<|hK _ _ ?_; clear hK K
   refine eJ (R:=λT H=>T 2=(cG 2)/\T 4=(cG 4)/\T 10=(V.sl [])/\T 11=(iV<|oJ acc<|aA l k)/\T 15=(V.sl<|List.map cT l)/\T 16=(iV ((l.length:Nat):Int))/\T 17=(iV ((k:Nat):Int))/\H 2=(bk 1 31 2 [[(iV o.i),(V.sl<|List.map cT o.tr)]])/\H 4=(bk 1 31 2 [[(iV 0),V.nilsl]])/\H 8=(bk (v8+1) 56 2 [[(aE<|(aA l k).ni),(aE<|(aA l k).no)]])/\H 205=(⟨0+o.tr.length,false,false,0,0,[]⟩:Blk)/\H 209=(⟨w+2,false,false,0,0,[]⟩:Blk)/\H 303=(⟨v303+1,false,false,0,0,[]⟩:Blk)/\H 308=(⟨v308+acc.length,false,false,0,0,[]⟩:Blk)/\H 354=(⟨v354+1,false,false,0,0,[]⟩:Blk)/\H 407=(⟨v407+acc.length,false,false,0,0,[]⟩:Blk)/\True) ⟨t2,t4,J,J,t15,t16,t17,h2,h4,J,h205,J,J,J,J,J,trivial⟩ ?_;intro T H ⟨t2,t4,t10,t11,t15,t16,t17,h2,h4,h8,h205,h209,h303,h308,h354,h407,_⟩;refine aO<|aJ t11<|bP J J<|bR ?_
   refine aH J (λc11=>?_) λc11=>?_
   . 
    refine aO<|aV t2 h2 J J<|aJ t11<|bQ t4 J J h4 J J J J J<|aD<|aK<|y4 _ _<|p22 _ _<|y1 _ _ ?_
    refine dJ (bI (u:=(V.agg [(iV o.i),(V.sl<|List.map cT o.tr)])) t4 (@J Blk<|bk 1 31 2 [[(iV o.i),(V.sl<|List.map cT o.tr)]])<|lB oB J J) (aY<|aM<|iV<|oJ acc<|aA l k) (cK (aF ?_)<|cA ?_ (λ_=>by simp))<|aF ?_
    . rw [aA1]
    . unfold tF; rw [if_pos (by rw [hc,aKA OM d1 heF]; exact heF)]
    . rw [hc,aKA OM d1 heF]
   . exact (c11 heF).elim
 refine aT<|p32 _ _ _<|x1 _ _ (.done (aW<|aX t2 h2 J J<|aJ t6<|bN J J<|bQ t4 J J h4 J J J J J<|aD<|bF ?_))
 refine dJ (bI (u:=(V.agg [(iV o.i),(V.ms 209 w 0 acc.length)])) t4 (@J Blk<|bk 1 31 2 [[(iV o.i),(V.ms 209 w 0 acc.length)]])<|lB oB J J) (aY<|aM<|iV 0) (cK (aF ?_)<|iK h209 SI (l:=acc) J JR (λ_=>by simp) ?_)<|aF ?_
 . rw [aA1]
 . unfold tF; rw [if_neg (by rw [hc,aDC OM]; simp),hc,aDC OM]
 . rw [hc,aDC OM]
theorem aJw (o:Ob) (t:Tr) (ho:OK o):bK Tryz.prog 65 [(V.agg [(iV o.i),(V.sl (List.map cT o.tr))]),(V.agg [(aE t.ni),(aE t.no)])] (V.tup [(V.agg [(iV ((tF o [t]).i)),(V.sl (List.map cT ((tF o [t]).tr)))]),(iV ((rT o.i o.tr [t]).2))]):=by
 refine' pK [] [] Tryz.func65 ?e λhB=>?_
 case e=>conv=>lhs; cbv
 dsimp only;refine aW<|bS (i:=2) (n:=0) (m:=2) (cs:=[(iV o.i),(V.sl<|List.map cT o.tr)]) J (cE J) J J J<|bS (i:=3) (n:=0) (m:=2) (cs:=[(aE t.ni),(aE t.no)]) J (cE J) J J J<|bM (i:=4) (n:=0) (m:=2) J (cE J) J<|aD<|aW<|aV J J J J<|aV J J J J<|aS J J<|aI (aLS o ([t]) OM) J<|bE J J<|bE J J<|bQ J J J J J J J J J<|aD ?_
 refine bF ?_;refine dJ (bI (u:=(V.agg [(iV<|(tF o<|[t]).i),(V.sl<|List.map cT<|(tF o<|[t]).tr)])) J (@J Blk<|bk 1 31 2 [[(iV<|(tF o<|[t]).i),(V.sl<|List.map cT<|(tF o<|[t]).tr)]])<|lB oB J J) (aY<|aM<|iV<|(rT o.i o.tr<|[t]).2) (cK (aF ?_)<|cA ?_ (λ_=>by simp))<|aF ?_
 . first|rfl|omega|simp_all
 . first|rfl|omega|simp_all
 . first|rfl|omega|simp_all
end
section
open Go
def dN (m:M):Ob->List (List Int)->Ob×Int
  |o,[]=>(o,0)
  |o,w::ws=>if rK m m.s w≠0 then (o,rK m m.s w) else if (rT o.i o.tr [⟨w,fG m m.s w⟩]).2≠0 then (o,(rT o.i o.tr [⟨w,fG m m.s w⟩]).2) else dN m (tF o [⟨w,fG m m.s w⟩]) ws
theorem vG {m:M} {q:Ob} {ws:List (List Int)} {k:Nat} (h:ws.length<=k):dN m q (ws.drop k)=(q,0):=by
  rw [List.drop_of_length_le h]; rfl
theorem aCm {α:Type} [Inhabited α] {l:List α} {k:Nat} (h:k < l.length):l.drop k=aA l k::l.drop (k+1):=by
  rw [List.drop_eq_getElem_cons h,cP h]
theorem vO {m:M} {q:Ob} {ws:List (List Int)} {k:Nat} (h:k < ws.length) (e:rK m m.s (aA ws k)≠0):dN m q (ws.drop k)=(q,rK m m.s (aA ws k)):=by
  rw [aCm h,dN,if_pos e]
theorem uZ {m:M} {q:Ob} {ws:List (List Int)} {k:Nat} (h:k < ws.length) (e:rK m m.s (aA ws k)=0) (e2:(rT q.i q.tr [⟨aA ws k,fG m m.s (aA ws k)⟩]).2≠0):
    dN m q (ws.drop k)=(q,(rT q.i q.tr [⟨aA ws k,fG m m.s (aA ws k)⟩]).2):=by
  rw [aCm h,dN,if_neg OM,if_pos e2]
theorem aLP {m:M} {q:Ob} {ws:List (List Int)} {k:Nat} (h:k < ws.length) (e:rK m m.s (aA ws k)=0) (e2:(rT q.i q.tr [⟨aA ws k,fG m m.s (aA ws k)⟩]).2=0):
    dN m q (ws.drop k)=dN m (tF q [⟨aA ws k,fG m m.s (aA ws k)⟩]) (ws.drop<|k+1):=by
  rw [aCm h,dN,if_neg OM,if_neg OM]
theorem aLY {o:Ob} {l:List Tr} (h:(rT o.i o.tr l).2≠0):tF o l=o:=if_pos h
instance:Inhabited M:=⟨⟨0,0,[],[]⟩⟩
def kA (a b:M):Int:=if eO a≠0 then eO a else if eO b≠0 then eO b else if a.i≠b.i then 15 else 0
theorem aKd {a b:M} (h:eO a≠0):kA a b=eO a:=if_pos h
theorem aK4 {a b:M} (h:eO a=0) (h2:eO b≠0):kA a b=eO b:=by rw [kA,if_neg OM,if_pos h2]
theorem aKl {a b:M} (h:eO a=0) (h2:eO b=0) (h3:a.i≠b.i):kA a b=15:=by rw [kA,if_neg OM,if_neg OM,if_pos h3]
theorem aKD {a b:M} (h:eO a=0) (h2:eO b=0) (h3:a.i=b.i):kA a b=0:=by rw [kA,if_neg OM,if_neg OM,if_neg OM]
end
section
open Go Go.Proofs
theorem tB (m:M) (o:Ob) (ws:List (List Int)) (ho:OK o):bK Tryz.prog 25 [(V.agg [(iV m.i),(iV m.s),(aC m.nx),(aC m.ot)]),(V.agg [(iV o.i),(V.sl (List.map cT o.tr))]),(aC ws)] (V.tup [(V.agg [(iV ((dN m o ws).1.i)),(V.sl (List.map cT ((dN m o ws).1.tr)))]),(iV ((dN m o ws).2))]):=by
 refine' pK [] [] Tryz.func25 ?e λhB=>?_
 case e=>conv=>lhs; cbv
 dsimp only;refine aW<|bS (i:=3) (n:=0) (m:=4) (cs:=[(iV m.i),(iV m.s),(aC m.nx),(aC m.ot)]) J (cE J) J J J<|bS (i:=4) (n:=0) (m:=2) (cs:=[(iV o.i),(V.sl<|List.map cT o.tr)]) J (cE J) J J J<|bM (i:=6) (n:=0) (m:=2) J (cE J) J<|aD<|aO<|aP<|bA J<|aD (aG λQ1 n1 x1 y1 z1=>?_)
 refine cC (λmm T H=> ∃ (k:Nat) (q:Ob),mm=ws.length - k/\T 3=(cG 3)/\T 4=(cG 4)/\T 6=(cG 6)/\T 12=(aC ws)/\T 13=(iV ((ws.length:Nat):Int))/\T 14=(iV ((k:Nat):Int))/\H 3=(sA m)/\H 4=(bk 1 31 2 [[(iV q.i),(V.sl<|List.map cT q.tr)]])/\H 6=(bk 1 31 2 [[(iV 0),V.nilsl]])/\(k<=ws.length)/\(OK q)/\(dN m o ws=dN m q (ws.drop k))) ?_ ?_
 . 
  refine ⟨_,0,o,J,J,J,J,J,J,(bL (aM<|iV 0) J),J,J,J,?_,?_,?_⟩
  . omega
  . exact ho
  . rfl
 intro mm T H ⟨k,q,hmm,t3,t4,t6,t12,t13,t14,h3,h4,h6,hk,hok,hc⟩ Q2 p12 p22 p32;refine aW<|bZ t14 t13<|bR ?_
 refine aH J (λc3=>?_) λc3=>?_
 . 
  refine aB (aG λQ4 n4 x4 y4 z4=>(aW<|dA (i:=k) t12 t14<|aL J J<|aD<|aW<|aV t3 h3 J J<|aP<|aI (aJA m<|aA ws k) J<|aP<|bE J J<|bE J J<|aP<|aP ?_));refine tA<|aW<|aP<|bP J J<|bR ?_
  refine aH J (λc5=>?_) λc5=>?_
  . 
   have d0:=c5;refine aO<|aV t4 h4 J J<|aP<|bQ t6 J J h6 J J J J J<|aD<|aK<|y4 _ _<|p22 _ _<|y1 _ _ ?_
   refine dJ (bI (u:=(V.agg [(iV q.i),(V.sl<|List.map cT q.tr)])) t6 (@J Blk<|bk 1 31 2 [[(iV q.i),(V.sl<|List.map cT q.tr)]])<|lB oB J J) (aY<|aM<|iV<|rK m m.s<|aA ws k) (cK (aF ?_)<|cA ?_ (λ_=>by simp))<|aF ?_
   . rw [hc,vO OM d0]
   . rw [hc,vO OM d0]
   . rw [hc,vO OM d0]
  have d1:rK m m.s (aA ws k)=0:=OM
  refine aB<|aW<|aV t4 h4 J J<|aP<|aP<|bN J J<|aI (aJw q (⟨(aA ws k),(fG m m.s<|aA ws k)⟩:Tr) hok) J<|aP<|bE J J<|bE J J<|bQ t4 J J h4 J J J J J<|aD<|aW<|aP<|bP J J ?_
  refine bR ?_;refine fN J (λc6=>?_) λc6=>?_
  . 
   have d2:=c6;refine aW<|aV t4 J J J<|aP<|bQ t6 J J h6 J J J J J<|aD<|bF<|y4 _ _<|p22 _ _<|y1 _ _ ?_
   refine dJ (bI (u:=(V.agg [(iV<|(tF q [(⟨(aA ws k),(fG m m.s<|aA ws k)⟩:Tr)]).i),(V.sl<|List.map cT<|(tF q [(⟨(aA ws k),(fG m m.s<|aA ws k)⟩:Tr)]).tr)])) t6 (@J Blk<|bk 1 31 2 [[(iV<|(tF q [(⟨(aA ws k),(fG m m.s<|aA ws k)⟩:Tr)]).i),(V.sl<|List.map cT<|(tF q [(⟨(aA ws k),(fG m m.s<|aA ws k)⟩:Tr)]).tr)]])<|lB oB J J) (aY<|aM<|iV<|(rT q.i q.tr [(⟨(aA ws k),(fG m m.s<|aA ws k)⟩:Tr)]).2) (cK (aF ?_)<|cA ?_ (λ_=>by simp))<|aF ?_
   . rw [hc,uZ OM d1 d2,aLY d2]
   . rw [hc,uZ OM d1 d2,aLY d2]
   . rw [hc,uZ OM d1 d2]
  have d2:(rT q.i q.tr [⟨aA ws k,fG m m.s (aA ws k)⟩]).2=0:=OM
  refine dH<|n4 _ _ (.done (eI<|cF t14<|aD ?_))
  refine p12 _ _ _ ?_ ⟨(k+1),(tF q [⟨aA ws k,fG m m.s (aA ws k)⟩]),J,t3,t4,t6,t12,t13,(bL (cO<|k+1) JR),h3,(bL (@J Blk<|bk 1 31 2 [[(iV<|(tF q [(⟨(aA ws k),(fG m m.s<|aA ws k)⟩:Tr)]).i),(V.sl<|List.map cT<|(tF q [(⟨(aA ws k),(fG m m.s<|aA ws k)⟩:Tr)]).tr)]]) JR),h6,?_,?_,?_⟩
  . omega
  . omega
  . exact aDr hok
  . rw [hc,aLP OM d1 d2]
 refine aT<|p32 _ _ _<|x1 _ _ (.done (aW<|aV t4 h4 J J<|bQ t6 J J h6 J J J J J<|aD<|bF ?_))
 refine dJ (bI (u:=(V.agg [(iV q.i),(V.sl<|List.map cT q.tr)])) t6 (@J Blk<|bk 1 31 2 [[(iV q.i),(V.sl<|List.map cT q.tr)]])<|lB oB J J) (aY<|aM<|iV 0) (cK (aF ?_)<|cA ?_ (λ_=>by simp))<|aF ?_
 . rw [hc,vG OM]
 . rw [hc,vG OM]
 . rw [hc,vG OM]
theorem aEq (a b:M):bK Tryz.prog 66 [(V.agg [(iV a.i),(iV a.s),(aC a.nx),(aC a.ot)]),(V.agg [(iV b.i),(iV b.s),(aC b.nx),(aC b.ot)])] (iV (kA a b)):=by
 refine' pK [] [] Tryz.func66 ?e λhB=>?_
 case e=>conv=>lhs; cbv
 dsimp only;refine aW<|bS (i:=2) (n:=0) (m:=4) (cs:=[(iV a.i),(iV a.s),(aC a.nx),(aC a.ot)]) J (cE J) J J J<|bS (i:=3) (n:=0) (m:=4) (cs:=[(iV b.i),(iV b.s),(aC b.nx),(aC b.ot)]) J (cE J) J J J<|aD<|aO<|aV J J J J<|aV J J J J<|bN J J<|aD (aG λQ1 n1 x1 y1 z1=>?_)
 refine cC (λmm T H=> ∃ (k:Nat) (v6:Nat),mm=2 - k/\T 2=(cG 2)/\T 3=(cG 3)/\T 10=(V.agg [(iV a.i),(iV a.s),(aC a.nx),(aC a.ot),(iV b.i),(iV b.s),(aC b.nx),(aC b.ot)])/\T 11=(iV ((k:Nat):Int))/\H 2=(bk 1 24 4 [[(iV a.i),(iV a.s),(aC a.nx),(aC a.ot)]])/\H 3=(bk 1 24 4 [[(iV b.i),(iV b.s),(aC b.nx),(aC b.ot)]])/\(H 6).ver=v6/\(k<=2)/\(1<=k->eO a=0)/\(2<=k->eO b=0)) ?_ ?_
 . 
  refine ⟨_,0,0,J,J,J,J,(bL (aM<|iV 0) J),J,J,(cE J),?_,?_,?_⟩
  . omega
  . intro; omega
  . intro; omega
 intro mm T H ⟨k,v6,hmm,t2,t3,t10,t11,h2,h3,h6,hk,ha,hb⟩ Q2 p12 p22 p32;refine aW<|bZ t11 J<|bR ?_
 refine aH J (λc3=>?_) λc3=>?_
 . 
  refine aB (aG λQ4 n4 x4 y4 z4=>(aW<|aNu (v:=(V.agg [(iV<|(aA [a,b] k).i),(iV<|(aA [a,b] k).s),(aC<|(aA [a,b] k).nx),(aC<|(aA [a,b] k).ot)])) t10 t11 (by rcases (show k=0\/k=1 by omega) with e|e <;> subst e <;> rfl)<|bM (i:=6) (n:=v6) (m:=4) rfl h6 rfl<|bQ rfl rfl rfl rfl rfl rfl rfl rfl rfl<|qV<|aV rfl rfl rfl rfl<|aI (qH<|aA [a,b] k) rfl<|aD<|aW<|aP<|bP rfl rfl<|bR ?_));refine fN J (λc5=>?_) λc5=>?_
  . 
   have d0:=c5;refine aW<|aP<|aD<|bF<|y4 _ _<|p22 _ _<|y1 _ _ ?_
   refine aZ (aM<|iV<|eO<|aA [a,b] k)<|aF ?_
   . rcases (show k=0\/k=1 by omega) with e|e
     . subst e; rw [jY]; exact (aKd d0).symm
     . subst e; exact (aK4 (ha OM) d0).symm
  have d0:eO (aA [a,b] k)=0:=OM
  refine dH<|n4 _ _ (.done (eI<|cF t11<|aD ?_))
  refine p12 _ _ _ ?_ ⟨(k+1),(v6+1),J,t2,t3,t10,(bL (cO<|k+1) JR),h2,h3,(cE J),?_,?_,?_⟩
  . omega
  . omega
  . intro _; rcases (show k=0\/k=1 by omega) with e|e
    . subst e; have d1:=d0; rw [jY] at d1; exact d1
    . exact ha OM
  . intro _; have e:k=1:=OM
    subst e; exact d0
 refine aT<|p32 _ _ _<|x1 _ _ (.done (aO<|aX t2 h2 J J<|aX t3 h3 J J<|bP J J<|bR ?_))
 refine aH J (λc6=>?_) λc6=>?_
 . 
  refine aO<|aD<|aK ?_
  refine aZ (aM<|iV 15)<|aF ?_
  . rw [aKl (ha OM) (hb OM) OM]
 refine aB<|aW<|aD<|bF ?_
 refine aZ (aM<|iV 0)<|aF ?_
 . rw [aKD (ha OM) (hb OM) OM]
end
section
open Go
theorem iF {H:bC} {i:Nat} {B:Blk} {p:Nat->Prop} {f:Nat->Nat} {g:Nat->Blk} (h: ∀ j,p j->H (f j)=g j) (hi: ∀ j,f j≠i): ∀ j,p j->cX H i B (f j)=g j:=
  λj hj=>(cD _ _<|hi j).trans (h j hj)
theorem aNN {H:bC} {n c:Nat} {B:Blk} {g:Nat->Blk} (h: ∀ j,j < n->H (65536*(j+1)+c)=g j) (hB:B=g n): ∀ j,j < n+1->cX H (65536*(n+1)+c) B (65536*(j+1)+c)=g j:=by
  intro j hj;by_cases e:j=n
  . simp_all
  . exact (cD _ _ OM).trans (h j OM)
theorem aJC {H:bC} {n c:Nat} {B C:Blk} (h: ∀ j,n<=j->H (65536*(j+1)+c)=C): ∀ j,n+1<=j->cX H (65536*(n+1)+c) B (65536*(j+1)+c)=C:=
  λj hj=>(cD _ _ OM).trans (h j OM)
theorem aHQ {H:bC} {n c s:Nat} {B:Blk} {g g':Nat->Blk} (h: ∀ j,j < n->H (65536*(j+1)+c)=g j) (hB:B=g' s) (hg: ∀ j,j≠s->g j=g' j): ∀ j,j < n->cX H (65536*(s+1)+c) B (65536*(j+1)+c)=g' j:=by
  intro j hj;by_cases e:j=s
  . grind [aU]
  . exact (cD _ _ OM).trans ((h j hj).trans (hg j e))
def snR (L:List Pr) (n j:Nat):List Bool:=(List.range n).map λ(t:Nat)=>knK L (j:Int) (t:Int) L.length
theorem yC (L:List Pr) (n j:Nat):(snR L n j).length=n:=by simp [snR]
theorem aNI {L:List Pr} {n j t:Nat} (h:t < n):aA (snR L n j) t=knK L j t L.length:=by rw [<- cP (by rw [yC]; exact h)]; simp [snR]
theorem aNb (n j:Nat):snR [] n j=List.replicate n false:=by apply List.ext_getElem <;> simp [snR,knK]
theorem aFL {L:List Pr} {p:Pr} {u v:Int}:knK (L++[p]) u v (L++[p]).length=(knK L u v L.length||decide (p.s=u/\p.t=v)):=by
  rw [Bool.eq_iff_iff,Bool.or_eq_true,yN,yN,decide_eq_true_eq];constructor
  . grind [fK,aA]
  . rintro (⟨j,h1,h2⟩|h)
    . exact ⟨j,by rw [List.length_append]; omega,by rw [fK h1]; exact h2⟩
    . refine ⟨L.length,SI,?_⟩
      grind [aA]
theorem aHY {L:List Pr} {p:Pr} {n:Nat} (h0:0<=p.s) (h1:0<=p.t) (h2:p.t < n):(snR L n p.s.toNat).set p.t.toNat true=snR (L++[p]) n p.s.toNat:=by
  apply List.ext_getElem
  all_goals (grind [snR,aFL])
theorem aC0 {L:List Pr} {p:Pr} {n j:Nat} (h0:0<=p.s) (h:j≠p.s.toNat):snR L n j=snR (L++[p]) n j:=by grind [snR,aFL]
def rwL (n m k:Nat):List V:=(List.range n).map λj=>if j < k then V.ms (65536*(j+1)+29) 1 0 m else V.nilsl
abbrev c1V (v:V):List V:=[v]
theorem qY (n m k:Nat):(rwL n m k).length=n:=by simp [rwL]
theorem aDi {n m k i:Nat} (h:i < n) (h2:i < k):aA (rwL n m k) i=V.ms (65536*(i+1)+29) 1 0 m:=by rw [<- cP (by rw [qY]; exact h)]; simp [rwL,h2]
theorem aLt (n m:Nat):rwL n m 0=List.replicate n V.nilsl:=by apply List.ext_getElem <;> simp [rwL]
theorem aM2 {n m k:Nat}:(rwL n m k).set k (V.ms (65536*(k+1)+29) 1 0 m)=rwL n m (k+1):=by
  apply List.ext_getElem
  . simp [rwL]
  . intro i g1 g2
    simp only [rwL,List.getElem_set,List.getElem_map,List.getElem_range]
    grind
theorem aJJ {L:List Pr} {n:Nat} {u v:Int} (h0:0<=u) (h1:0<=v) (h2:v < n):aA (snR L n u.toNat) v.toNat=knK L u v L.length:=by grind [aNI]
theorem aFC {H:bC} {i:Nat} {p:Nat->Prop} {f:Nat->Nat} {g:Nat->Blk} (h: ∀ j,p j->H (f j)=g j) (hi: ∀ j,f j≠i): ∀ j,p j->mT i H (f j)=g j:=iF h hi
def qB (a b:M):List Int:=if kA a b≠0 then [] else (dst a b a.s b.s).getD []
def uT (a b:M):Bool:=if kA a b≠0 then false else (dst a b a.s b.s).isSome
theorem aL8 {a b:M} (h:kA a b=0):eO a=0/\eO b=0/\a.i=b.i:=by grind [kA]
theorem aAt {m:M} (h:eO m=0):0<=m.s/\m.s < m.nx.length:=⟨(gW h).2.2.2.2.1,(gW h).2.2.2.2.2.1⟩
end
section
open Go Go.Proofs
attribute [local irreducible] aBJ
theorem aEx (a b:M) (s t:Int) (hma:eO a=0) (hmb:eO b=0) (hi:a.i=b.i) (hs:0<=s/\s < a.nx.length) (ht:0<=t/\t < b.nx.length):bK Tryz.prog 67 [(V.agg [(iV a.i),(iV a.s),(aC a.nx),(aC a.ot)]),(V.agg [(iV b.i),(iV b.s),(aC b.nx),(aC b.ot)]),(V.agg [(iV s),(iV t)])] (V.tup [(aE ((dst a b s t).getD [])),(V.bool ((dst a b s t).isSome))]):=by
 refine' pK [42] [⟨18,[0,1,2,3,4,5,6,7,8,9,10,11,12,13,14,15,16,17,18,19,20],[14],[]⟩] Tryz.func67 ?e λhB=>?_
 case e=>conv=>lhs; cbv
 dsimp only;have hqa:=gW hma;have hqb:=gW hmb;have hab:a.nx.length*b.nx.length<=128*128:=Nat.mul_le_mul hqa.2.2.2.1 hqb.2.2.2.1;refine aW<|bS (i:=3) (n:=0) (m:=4) (cs:=[(iV a.i),(iV a.s),(aC a.nx),(aC a.ot)]) J (cE J) J J J<|bS (i:=4) (n:=0) (m:=4) (cs:=[(iV b.i),(iV b.s),(aC b.nx),(aC b.ot)]) J (cE J) J J J<|bS (i:=5) (n:=0) (m:=2) (cs:=[(iV s),(iV t)]) J (cE J) J J J<|aP<|aD<|aW<|aX J J J J<|bA J<|aD6 (i:=18) (n:=0) (m:=a.nx.length) (q:=a.nx.length) (f:=c1V) (x:=V.nilsl) J (cE J) (cO a.nx.length) (cO a.nx.length) J OM OM OM<|aD<|aO ?_
 refine aP<|dW J (@J Blk<|bk 1 171 1<|List.map c1V<|List.replicate a.nx.length V.nilsl) JR<|aD (aG λQ1 n1 x1 y1 z1=>?_)
 refine cC (λmm T H=> ∃ (k:Nat),mm=a.nx.length - k/\T 3=(cG 3)/\T 4=(cG 4)/\T 5=(cG 5)/\T 8=(V.ms 18 1 0 a.nx.length)/\T 20=(iV ((a.nx.length:Nat):Int))/\T 21=(iV ((k:Nat):Int))/\(∀ j,k<=j->H (65536*(j+1)+29)=fL)/\(∀ j,j < k->H (65536*(j+1)+29)=(bk 1 4 1<|List.map cB<|snR ([]) b.nx.length j))/\H 3=(bk 1 24 4 [[(iV a.i),(iV a.s),(aC a.nx),(aC a.ot)]])/\H 4=(bk 1 24 4 [[(iV b.i),(iV b.s),(aC b.nx),(aC b.ot)]])/\H 5=(bk 1 125 2 [[(iV s),(iV t)]])/\H 12=fL/\H 14=fL/\H 18=(bk 1 171 1<|List.map c1V (rwL a.nx.length b.nx.length k))/\H 42=fL/\(k<=a.nx.length)) ?_ ?_
 . 
  refine ⟨_,0,J,J,J,J,J,J,(bL (aM<|iV 0) J),(iF (iF (iF (iF (λ_ _=>J) (λj=>by omega)) (λj=>by omega)) (λj=>by omega)) (λj=>by omega)),(iF (iF (iF (iF (λj hj=>absurd hj<|Nat.not_lt_zero j) (λj=>by omega)) (λj=>by omega)) (λj=>by omega)) (λj=>by omega)),J,J,J,J,J,(bL (@J Blk<|bk 1 171 1<|List.map c1V<|List.replicate a.nx.length V.nilsl) (by (rw [aLt]; done))),J,?_⟩
  . omega
 intro mm T H ⟨k,hmm,t3,t4,t5,t8,t20,t21,hU3,hU2,h3,h4,h5,h12,h14,h18,h42,hk⟩ Q2 p12 p22 p32;refine aW<|bZ t21 t20<|bR ?_
 refine aH J (λc3=>?_) λc3=>?_
 . 
  refine aB (aG λQ4 n4 x4 y4 z4=>(aW<|aJ t21<|aD<|aQC (65536*(k+1))<|aJ t8<|aP<|aX t4 h4 J J<|bA J<|aD6 (i:=65536*(k+1)+29) (n:=0) (m:=b.nx.length) (q:=b.nx.length) (f:=cB) (x:=false) J (cE<|hU3 _ OM) (cO b.nx.length) (cO b.nx.length) J OM OM OM<|dC (i:=k) (aM<|V.ms 18 1 0 a.nx.length) (cO k) ((cD _ _ OM).trans h18) oB J OM<|dU (vs:=[(V.ms (65536*(k+1)+29) 1 0 b.nx.length)]) (B':=(bk 1 171 1<|List.map c1V<|(rwL a.nx.length b.nx.length k).set k (V.ms (65536*(k+1)+29) 1 0 b.nx.length))) J J J ((cD _ _ OM).trans h18) (iQ (x:=(V.ms (65536*(k+1)+29) 1 0 b.nx.length)) (i:=k) (by (simp only [qY,yC,List.length_replicate,List.length_set]; omega)) J J J J)<|bR ?_));refine n4 _ _ (.done (eI<|cF t21<|aD ?_));refine p12 _ _ _ ?_ ⟨(k+1),J,t3,t4,t5,t8,t20,(bL (cO<|k+1) JR),(λj hj=>(iF (aJC hU3) (λj=>by omega)) j OM),(λj hj=>(iF (aNN hU2 (by rw [aNb])) (λj=>by omega)) j OM),((cD _ _ OM).trans h3),((cD _ _ OM).trans h4),((cD _ _ OM).trans h5),((cD _ _ OM).trans h12),((cD _ _ OM).trans h14),(bL (@J Blk<|bk 1 171 1<|List.map c1V<|(rwL a.nx.length b.nx.length k).set k (V.ms (65536*(k+1)+29) 1 0 b.nx.length)) (by (rw [aM2]; done))),((cD _ _ OM).trans h42),?_⟩
  . omega
  . omega
 refine aT<|p32 _ _ _<|x1 _ _ (.done (aW<|aJ t8<|aX t5 h5 J J<|dV (i:=s) (aM<|V.ms 18 1 0 a.nx.length) (aM<|iV s) h18 oB J OM OM<|cQ (v:=(V.ms (65536*(s.toNat+1)+29) 1 0 b.nx.length)) J h18 (dS (by simp only [qY]; omega) (by simp only [c1V,aDi (show s.toNat < a.nx.length by omega) (show s.toNat < k by omega)]; rfl))<|aX t5 h5 J J<|dV (i:=t) (aM<|V.ms (65536*(s.toNat+1)+29) 1 0 b.nx.length) (aM<|iV t) (hU2 _ OM) oB J OM OM<|dU (vs:=[(V.bool true)]) (B':=(bk 1 4 1<|List.map cB<|(snR ([]) b.nx.length s.toNat).set t.toNat true)) J J J (hU2 _ OM) (iQ (x:=true) (i:=t.toNat) (by (simp only [qY,yC,List.length_replicate,List.length_set]; omega)) J J J J)<|bR<|W_g ?_))
 refine aV t5 ((cD _ _ OM).trans h5) J J<|bN J J<|gE (i:=42) (n:=0) (qs:=[(0,(V.agg [(iV s),(iV t),V.nilsl]))]) (rows:=[[(iV s),(iV t),V.nilsl]]) J (cE<|(cD _ _ OM).trans h42) (cZ (congrArg (λv=>(0,v)) J) J) J<|aD ?_
 refine sP (id:=42) (l:=([])) (m:=([(⟨s,t,[]⟩:Pr)])) (f:=cPr) (@J Blk<|bk 1 173 3 [[(iV s),(iV t),V.nilsl]]) J (.done ?_);refine aO<|aD (aG λQ5 n5 x5 y5 z5=>?_)
 refine cC (λmm T H=> ∃ (i:Nat) (v:Nat) (L:List Pr) (v12:Nat) (v14:Nat),mm=a.nx.length*b.nx.length+1 - i/\T 3=(cG 3)/\T 4=(cG 4)/\T 8=(V.ms 18 1 0 a.nx.length)/\T 10=(V.ms 42 v 0 L.length)/\T 11=(iV ((i:Nat):Int))/\(∀ j,j < k->H (65536*(j+1)+29)=(bk 1 4 1<|List.map cB<|snR L b.nx.length j))/\H 3=(bk 1 24 4 [[(iV a.i),(iV a.s),(aC a.nx),(aC a.ot)]])/\H 4=(bk 1 24 4 [[(iV b.i),(iV b.s),(aC b.nx),(aC b.ot)]])/\H 5=(bk 1 125 2 [[(iV s),(iV t)]])/\(H 12).ver=v12/\((H 14).ver=v14/\(H 14).live=false)/\H 18=(bk 1 171 1<|List.map c1V (rwL a.nx.length b.nx.length k))/\H 42=(bk v 173 3<|List.map cPr L)/\(i<=L.length)/\(BI a b s t L)/\(dst a b s t=bq a b (a.nx.length*b.nx.length+1 - i) i L)) ?_ ?_
 . 
  refine ⟨_,0,1,[⟨s,t,[]⟩],0,0,J,t3,t4,t8,(bL (aM<|V.ms 42 1 0 1) JR),(bL (aM<|iV 0) J),(λj hj=>((iF (iF (aHQ hU2 (congrArg (λl=>bk 1 4 1<|List.map cB l)<|aHY (L:=[]) (p:=⟨s,t,[]⟩) hs.1 ht.1 ht.2) λj hj=>by rw [aC0 (p:=⟨s,t,[]⟩) hs.1 hj] <;> rfl) (λj=>by omega)) (λj=>by omega)) j OM).trans JR),((cD _ _ OM).trans h3),((cD _ _ OM).trans h4),((cD _ _ OM).trans h5),(cE<|(cD _ _ OM).trans h12),⟨(cE<|(cD _ _ OM).trans h14),congrArg Blk.live ((cD _ _ OM).trans h14)⟩,((cD _ _ OM).trans h18),(bL (@J Blk<|bk 1 173 3<|List.map cPr<|[]++[(⟨s,t,[]⟩:Pr)]) JR),?_,?_,?_⟩
  . simp
  . exact BI.start hs.1 hs.2 ht.1 ht.2
  . rfl
 intro mm T H ⟨i,v,L,v12,v14,hmm,t3,t4,t8,t10,t11,hU2,h3,h4,h5,h12,h14,h18,h42,hil,hbi,hc⟩ Q6 p16 p26 p36;have hln:=hbi.len;refine aO<|aJ t11<|aJ t10<|dW J h42 SI<|bZ J J<|bR ?_
 refine aH J (λc7=>?_) λc7=>?_
 . 
  have hil2:i < L.length:=OM
  refine aB (aG λQ8 n8 x8 y8 z8=>(aW<|aJ t10<|aJ t11<|dC (i:=i) (aM<|V.ms 42 v 0 L.length) (cO i) h42 oB J OM<|cM J h42<|cQ (v:=(V.agg [(iV<|(aA L i).s),(iV<|(aA L i).t)])) J h42 (dS OM JR)<|bM (i:=12) (n:=v12) (m:=2) J h12 J<|bQ J J J J J J J J J<|qV<|aX t3 h3 J J<|aD ?_));refine fZ λQ9 n9 x9 y9 z9=>?_;refine cC (λmm T H=> ∃ (x:Nat) (v2:Nat) (v14:Nat),mm=a.i.toNat - x/\T 3=(cG 3)/\T 4=(cG 4)/\T 8=(V.ms 18 1 0 a.nx.length)/\T 10=(V.ms 42 v2 0<|(fP a b (aA L i) L x).length)/\T 11=(iV ((i:Nat):Int))/\T 12=(V.mp 12 (v12+1) 0 0)/\T 55=(iV a.i)/\T 56=(iV ((x:Nat):Int))/\(∀ j,j < k->H (65536*(j+1)+29)=(bk 1 4 1<|List.map cB<|snR (fP a b (aA L i) L x) b.nx.length j))/\H 3=(bk 1 24 4 [[(iV a.i),(iV a.s),(aC a.nx),(aC a.ot)]])/\H 4=(bk 1 24 4 [[(iV b.i),(iV b.s),(aC b.nx),(aC b.ot)]])/\H 5=(bk 1 125 2 [[(iV s),(iV t)]])/\H 12=(bk (v12+1) 125 2 [[(iV<|(aA L i).s),(iV<|(aA L i).t)]])/\((H 14).ver=v14/\(H 14).live=false)/\H 18=(bk 1 171 1<|List.map c1V (rwL a.nx.length b.nx.length k))/\H 42=(bk v2 173 3<|List.map cPr<|fP a b (aA L i) L x)/\(x<=a.i.toNat)/\(∀ j,j < x->bqD a b (aA L i) j=false)) ?_ ?_
  . 
   refine ⟨_,0,v,v14,J,t3,t4,t8,(bL t10 JR),t11,J,J,(bL (aM<|iV 0) J),(λj hj=>((iF (iF hU2 (λj=>by omega)) (λj=>by omega)) j OM).trans JR),h3,h4,h5,J,h14,h18,(bL h42 JR),?_,?_⟩
   . omega
   . intro j hj; omega
  intro mm T H ⟨x,v2,v14,hmm,t3,t4,t8,t10,t11,t12,t55,t56,hU2,h3,h4,h5,h12,h14,h18,h42,hx,hdx⟩ Q10 p110 p210 p310;refine aW<|bZ t56 t55<|bR ?_
  refine aH J (λc11=>?_) λc11=>?_
  . 
   have r0:=hbi.row hma hmb hi hil2 (x:=x) OM hdx;have r9:=r0.len;have r1:i < (fP a b (aA L i) L x).length:=Nat.lt_of_lt_of_le hil2 yU;have r2:aA (fP a b (aA L i) L x) i=aA L i:=aDT hil2;have r3:=hbi.rg _<|cW hil2
   have r4:=hbi.ln i hil2;have r5:=tJ hma r3.1 r3.2.1;have r6:=tJ hmb r3.2.2.1 r3.2.2.2;have n1:=aHf hma r3.1 r3.2.1 (x:=x) OM;have n2:=aHf hmb r3.2.2.1 r3.2.2.2 (x:=x) OM;have n3:=n1;have n4:=n2;unfold lJ otS at n3 n4;refine aB (aG λQ12 n12 x12 y12 z12=>(aW<|aJ t56<|aD<|aO<|aX t3 h3 J J<|aX t12 h12 J J<|dR (i:=((aA L i).s)) (aM<|aC a.ot) (aM<|iV<|(aA L i).s) OM OM J<|aL J J<|aP<|dA (i:=x) (aM<|aE<|aA a.ot ((aA L i).s).toNat) (cO x) ?_));refine aL J J<|aX t4 h4 J J<|aX t12 h12 J J<|dR (i:=((aA L i).t)) (aM<|aC b.ot) (aM<|iV<|(aA L i).t) OM OM J<|aL J J<|aP<|dA (i:=x) (aM<|aE<|aA b.ot ((aA L i).t).toNat) (cO x)<|aL J J<|bP J J<|bR ?_
   refine aH J (λc13=>?_) λc13=>?_
   . 
    have d1:bqD a b (aA L i) x=true:=decide_eq_true c13;have hz:dst a b s t=some ((aA L i).w++[(x:Int)]):=by rw [hc,aKb hil2 OM OM d1 hdx]
    refine aO<|aJ t10<|aJ t11<|dC (i:=i) (aM<|V.ms 42 v2 0<|(fP a b (aA L i) L x).length) (cO i) h42 oB J OM<|cM J h42<|cQ (v:=(aE<|(aA (fP a b (aA L i) L x) i).w)) J h42 (dS OM JR)<|aP<|aS J J<|aS J J<|aI (dP ([(aA (fP a b (aA L i) L x) i).w,[((x:Nat):Int)]]) (by simp only [r2,bD,List.append_nil,List.length_append,List.length_singleton]; omega)) J<|aP<|aD<|aK<|y12 _ _ ?_
    refine p210 _ _<|y9 _ _<|y8 _ _<|p26 _ _<|y5 _ _ ?_
    refine iW (aM<|aE<|bD<|[(aA (fP a b (aA L i) L x) i).w,[((x:Nat):Int)]]) (aM<|V.bool true) (cA ?_ (λ_=>by simp))<|cH ?_
    . rw [hz]; simp only [r2]; rfl
    . rw [hz]; rfl
   have d1:bqD a b (aA L i) x=false:=decide_eq_false c13;refine aB ?_;refine aAV (λT H=>T 3=(cG 3)/\T 4=(cG 4)/\T 8=(V.ms 18 1 0 a.nx.length)/\T 10=(V.ms 42 v2 0<|(fP a b (aA L i) L x).length)/\T 11=(iV ((i:Nat):Int))/\T 12=(V.mp 12 (v12+1) 0 0)/\T 13=(iV ((x:Nat):Int))/\T 14=(V.mp 14 (v14+1) 0 0)/\T 55=(iV a.i)/\T 56=(iV ((x:Nat):Int))/\(∀ j,j < k->H (65536*(j+1)+29)=(bk 1 4 1<|List.map cB<|snR (fP a b (aA L i) L x) b.nx.length j))/\H 3=(bk 1 24 4 [[(iV a.i),(iV a.s),(aC a.nx),(aC a.ot)]])/\H 4=(bk 1 24 4 [[(iV b.i),(iV b.s),(aC b.nx),(aC b.ot)]])/\H 5=(bk 1 125 2 [[(iV s),(iV t)]])/\H 12=(bk (v12+1) 125 2 [[(iV<|(aA L i).s),(iV<|(aA L i).t)]])/\H 14=(bk (v14+1) 125 2 [[(iV<|aA (aA a.nx ((aA L i).s).toNat) x),(iV<|aA (aA b.nx ((aA L i).t).toNat) x)]])/\H 18=(bk 1 171 1<|List.map c1V (rwL a.nx.length b.nx.length k))/\H 42=(bk v2 173 3<|List.map cPr<|fP a b (aA L i) L x)/\True) (by exact (oP h14.2 qQ)) ?_ ?_
   . 
    refine aX t3 h3 J J<|aX t12 h12 J J<|dR (i:=((aA L i).s)) (aM<|aC a.nx) (aM<|iV<|(aA L i).s) OM OM J<|aL J J<|aP<|dA (i:=x) (aM<|aE<|aA a.nx ((aA L i).s).toNat) (cO x)<|aL J J<|aX t4 h4 J J<|aX t12 h12 J J<|dR (i:=((aA L i).t)) (aM<|aC b.nx) (aM<|iV<|(aA L i).t) OM OM J<|aL J J<|aP ?_
    refine dA (i:=x) (aM<|aE<|aA b.nx ((aA L i).t).toNat) (cO x)<|aL J J<|bN J J<|bM (i:=14) (n:=v14) (m:=2) J h14.1 J<|bQ J J J J J J J J J ?_
    exact eS ⟨t3,t4,t8,t10,t11,t12,J,J,t55,t56,(iF (iF hU2 (λj=>by omega)) (λj=>by omega)),h3,h4,h5,h12,J,h18,h42,trivial⟩
   intro T H ⟨t3,t4,t8,t10,t11,t12,t13,t14,t55,t56,hU2,h3,h4,h5,h12,h14,h18,h42,_⟩;refine aW<|aV t14 h14 J J<|aV t12 h12 J J<|aO0 J J<|aP ?_
   refine bU 11 (λT H=>T 3=(cG 3)/\T 4=(cG 4)/\T 8=(V.ms 18 1 0 a.nx.length)/\T 10=(V.ms 42 v2 0<|(fP a b (aA L i) L x).length)/\T 11=(iV ((i:Nat):Int))/\T 12=(V.mp 12 (v12+1) 0 0)/\T 13=(iV ((x:Nat):Int))/\T 14=(V.mp 14 (v14+1) 0 0)/\T 55=(iV a.i)/\T 56=(iV ((x:Nat):Int))/\T 120=(V.bool<|decide (¬((aA (aA a.nx ((aA L i).s).toNat) x)=((aA L i).s)/\(aA (aA b.nx ((aA L i).t).toNat) x)=((aA L i).t)))&&(!(aA (snR (fP a b (aA L i) L x) b.nx.length<|(aA (aA a.nx (aA L i).s.toNat) x).toNat)<|(aA (aA b.nx ((aA L i).t).toNat) x).toNat)))/\(∀ j,j < k->H (65536*(j+1)+29)=(bk 1 4 1<|List.map cB<|snR (fP a b (aA L i) L x) b.nx.length j))/\H 3=(bk 1 24 4 [[(iV a.i),(iV a.s),(aC a.nx),(aC a.ot)]])/\H 4=(bk 1 24 4 [[(iV b.i),(iV b.s),(aC b.nx),(aC b.ot)]])/\H 5=(bk 1 125 2 [[(iV s),(iV t)]])/\H 12=(bk (v12+1) 125 2 [[(iV<|(aA L i).s),(iV<|(aA L i).t)]])/\H 14=(bk (v14+1) 125 2 [[(iV<|aA (aA a.nx ((aA L i).s).toNat) x),(iV<|aA (aA b.nx ((aA L i).t).toNat) x)]])/\H 18=(bk 1 171 1<|List.map c1V (rwL a.nx.length b.nx.length k))/\H 42=(bk v2 173 3<|List.map cPr<|fP a b (aA L i) L x)/\True) ?_ ?_
   . 
    by_cases g14: ¬((aA (aA a.nx ((aA L i).s).toNat) x)=((aA L i).s)/\(aA (aA b.nx ((aA L i).t).toNat) x)=((aA L i).t))
    . 
     refine aN (bY g14 J)<|aJ t8<|aN (bY g14 J)<|cM t14 h14<|aN (bY g14 J)<|aV J h14 J J<|aN (bY g14 J)<|dV (i:=(aA (aA a.nx ((aA L i).s).toNat) x)) (aM<|V.ms 18 1 0 a.nx.length) (aM<|iV<|aA (aA a.nx ((aA L i).s).toNat) x) h18 oB J OM OM<|aN (bY g14 J)<|cQ (v:=(V.ms (65536*((aA (aA a.nx (aA L i).s.toNat) x).toNat+1)+29) 1 0 b.nx.length)) J h18 (dS (by simp only [qY]; omega) (by simp only [c1V,aDi (show (aA (aA a.nx (aA L i).s.toNat) x).toNat < a.nx.length by omega) (show (aA (aA a.nx (aA L i).s.toNat) x).toNat < k by omega)]; rfl))<|aN (bY g14 J)<|cM t14 h14<|aN (bY g14 J)<|aV J h14 J J<|aN (bY g14 J)<|dV (i:=(aA (aA b.nx ((aA L i).t).toNat) x)) (aM<|V.ms (65536*((aA (aA a.nx (aA L i).s.toNat) x).toNat+1)+29) 1 0 b.nx.length) (aM<|iV<|aA (aA b.nx ((aA L i).t).toNat) x) (hU2 _ OM) oB J OM OM ?_
     refine aN (bY g14 J)<|cQ (v:=(V.bool<|aA (snR (fP a b (aA L i) L x) b.nx.length<|(aA (aA a.nx (aA L i).s.toNat) x).toNat)<|(aA (aA b.nx ((aA L i).t).toNat) x).toNat)) J (hU2 _ OM) (dS (by (simp only [qY,yC,List.length_replicate,List.length_set]; omega)) JR)<|aN (bY g14 J)<|fF J<|bV (bY g14 J) J ?_
     exact ⟨t3,t4,t8,t10,t11,t12,t13,t14,t55,t56,(aGi g14),hU2,h3,h4,h5,h12,h14,h18,h42,trivial⟩
    . 
     refine bW (bX g14 J)<|bW (bX g14 J)<|bW (bX g14 J)<|bW (bX g14 J)<|bW (bX g14 J)<|bW (bX g14 J)<|bW (bX g14 J)<|bW (bX g14 J)<|bW (bX g14 J)<|bW (bX g14 J)<|bT (bX g14 J) J ?_
     exact ⟨t3,t4,t8,t10,t11,t12,t13,t14,t55,t56,(aGm g14),hU2,h3,h4,h5,h12,h14,h18,h42,trivial⟩
   intro T H ⟨t3,t4,t8,t10,t11,t12,t13,t14,t55,t56,t120,hU2,h3,h4,h5,h12,h14,h18,h42,_⟩;refine bR ?_;refine mJ t120 (λc15=>?_) (λc15=>?_)
   . 
    have q0:=aJJ (L:=fP a b (aA L i) L x) n1.1 n2.1 n2.2.1;have d2:knK (fP a b (aA L i) L x) (lJ a (aA L i).s x) (lJ b (aA L i).t x) (fP a b (aA L i) L x).length=false:=q0.symm.trans (by have q:=c15; rw [Bool.and_eq_true] at q; have q1:=q.2; rw [Bool.not_eq_true'] at q1; exact q1);refine aW<|aJ t8<|aX t14 h14 J J<|dV (i:=(aA (aA a.nx ((aA L i).s).toNat) x)) (aM<|V.ms 18 1 0 a.nx.length) (aM<|iV<|aA (aA a.nx ((aA L i).s).toNat) x) h18 oB J OM OM<|cQ (v:=(V.ms (65536*((aA (aA a.nx (aA L i).s.toNat) x).toNat+1)+29) 1 0 b.nx.length)) J h18 (dS (by simp only [qY]; omega) (by simp only [c1V,aDi (show (aA (aA a.nx (aA L i).s.toNat) x).toNat < a.nx.length by omega) (show (aA (aA a.nx (aA L i).s.toNat) x).toNat < k by omega)]; rfl))<|aX t14 h14 J J<|dV (i:=(aA (aA b.nx ((aA L i).t).toNat) x)) (aM<|V.ms (65536*((aA (aA a.nx (aA L i).s.toNat) x).toNat+1)+29) 1 0 b.nx.length) (aM<|iV<|aA (aA b.nx ((aA L i).t).toNat) x) (hU2 _ OM) oB J OM OM<|dU (vs:=[(V.bool true)]) (B':=(bk 1 4 1<|List.map cB<|(snR (fP a b (aA L i) L x) b.nx.length<|(aA (aA a.nx (aA L i).s.toNat) x).toNat).set ((aA (aA b.nx ((aA L i).t).toNat) x).toNat) true)) J J J (hU2 _ OM) (iQ (x:=true) (i:=((aA (aA b.nx ((aA L i).t).toNat) x).toNat)) (by (simp only [qY,yC,List.length_replicate,List.length_set]; omega)) J J J J)<|bR<|eI<|aJ t10<|aV t14 ((cD _ _ OM).trans h14) J J<|aJ t10<|aJ t11 ?_
    refine dC (i:=i) (aM<|V.ms 42 v2 0<|(fP a b (aA L i) L x).length) (cO i) ((cD _ _ OM).trans h42) oB J OM<|cM J ((cD _ _ OM).trans h42)<|cQ (v:=(aE<|(aA (fP a b (aA L i) L x) i).w)) J ((cD _ _ OM).trans h42) (dS OM JR)<|aJ t13<|aS J J<|aS J J<|aI (dP ([(aA (fP a b (aA L i) L x) i).w,[((x:Nat):Int)]]) (by simp only [r2,bD,List.append_nil,List.length_append,List.length_singleton]; omega)) J<|bN J J<|aS J J<|eX (l:=(fP a b (aA L i) L x)) (f:=cPr) (x:=(⟨aA (aA a.nx ((aA L i).s).toNat) x,aA (aA b.nx ((aA L i).t).toNat) x,bD ([(aA (fP a b (aA L i) L x) i).w,[((x:Nat):Int)]])⟩:Pr)) (aM<|V.ms 42 v2 0<|(fP a b (aA L i) L x).length) ((cD _ _ OM).trans h42) JR (aM<|V.sl [[(iV<|aA (aA a.nx ((aA L i).s).toNat) x),(iV<|aA (aA b.nx ((aA L i).t).toNat) x),(aE<|bD<|[(aA (fP a b (aA L i) L x) i).w,[((x:Nat):Int)]])]])<|aD<|n12 _ _ ?_
    refine .freeze 14 (.done ?_);refine tX (λT H=>T 3=(cG 3)/\T 4=(cG 4)/\T 8=(V.ms 18 1 0 a.nx.length)/\T 10=(V.ms 42 (v2+1) 0<|((fP a b (aA L i) L x).length)+1)/\T 11=(iV ((i:Nat):Int))/\T 12=(V.mp 12 (v12+1) 0 0)/\T 55=(iV a.i)/\T 56=(iV ((x+1:Nat):Int))/\(∀ j,j < k->H (65536*(j+1)+29)=(bk 1 4 1<|List.map cB<|snR (fP a b (aA L i) L x++[⟨(lJ a (aA L i).s x),(lJ b (aA L i).t x),(aA L i).w++[(x:Int)]⟩]) b.nx.length j))/\H 3=(bk 1 24 4 [[(iV a.i),(iV a.s),(aC a.nx),(aC a.ot)]])/\H 4=(bk 1 24 4 [[(iV b.i),(iV b.s),(aC b.nx),(aC b.ot)]])/\H 5=(bk 1 125 2 [[(iV s),(iV t)]])/\H 12=(bk (v12+1) 125 2 [[(iV<|(aA L i).s),(iV<|(aA L i).t)]])/\((H 14).ver=v14+1/\(H 14).live=false)/\H 18=(bk 1 171 1<|List.map c1V (rwL a.nx.length b.nx.length k))/\H 42=(bk (v2+1) 173 3<|List.map cPr<|fP a b (aA L i) L x++[(⟨aA (aA a.nx ((aA L i).s).toNat) x,aA (aA b.nx ((aA L i).t).toNat) x,bD ([(aA (fP a b (aA L i) L x) i).w,[((x:Nat):Int)]])⟩:Pr)])/\True) ?_ ?_
    . 
     refine cF (bB t56 J)<|aP ?_
     exact eS ⟨(bB t3 J),(bB t4 J),(bB t8<|eE DE),J,(bB t11 J),(bB t12 J),(bB t55 J),J,(aFC (iF (aHQ hU2 (congrArg (λl=>bk 1 4 1<|List.map cB l)<|aHY (p:=⟨(lJ a (aA L i).s x),(lJ b (aA L i).t x),(aA L i).w++[(x:Int)]⟩) n1.1 n2.1 n2.2.1) λj hj=>by rw [aC0 (p:=⟨(lJ a (aA L i).s x),(lJ b (aA L i).t x),(aA L i).w++[(x:Int)]⟩) n1.1 hj]) (λj=>by omega)) (λj=>by omega)),(aR (id:=14) ((cD _ _ OM).trans h3) DE),(aR (id:=14) ((cD _ _ OM).trans h4) DE),(aR (id:=14) ((cD _ _ OM).trans h5) DE),(aR (id:=14) ((cD _ _ OM).trans h12) DE),(gH<|cE<|(cD _ _ OM).trans h14),(aR (id:=14) ((cD _ _ OM).trans h18) DE),J,trivial⟩
    intro T H ⟨t3,t4,t8,t10,t11,t12,t55,t56,hU2,h3,h4,h5,h12,h14,h18,h42,_⟩;refine p110 _ _ _ ?_ ⟨(x+1),(v2+1),(v14+1),J,t3,t4,t8,(bL t10 (by (rw [aBw d2,List.length_append]; rfl))),t11,t12,t55,(bL t56 JR),(λj hj=>(hU2 j OM).trans (by (rw [aBw d2]; done))),h3,h4,h5,h12,h14,h18,(bL h42 (by (simp only [r2]; rw [aBw d2]; rfl))),?_,?_⟩
    . omega
    . omega
    . intro j hj
      by_cases e:j=x
      . subst e; exact d1
      . exact hdx j OM
   have q0:=aJJ (L:=fP a b (aA L i) L x) n1.1 n2.1 n2.2.1
   have d2:knK (fP a b (aA L i) L x) (lJ a (aA L i).s x) (lJ b (aA L i).t x) (fP a b (aA L i) L x).length=true:=by
     by_cases e:(aA (aA a.nx (aA L i).s.toNat) x)=(aA L i).s/\(aA (aA b.nx (aA L i).t.toNat) x)=(aA L i).t
     . exact yN.2 ⟨i,r1,by rw [r2]; exact ⟨e.1.symm,e.2.symm⟩⟩
     . cases h:aA (snR (fP a b (aA L i) L x) b.nx.length (aA (aA a.nx (aA L i).s.toNat) x).toNat) (aA (aA b.nx (aA L i).t.toNat) x).toNat with
       |true=>exact q0.symm.trans h
       |false=>exact absurd (c15.symm.trans (by rw [h]; simp only [Bool.not_false,Bool.and_true]; exact decide_eq_true e)) Bool.false_ne_true
   refine dH<|n12 _ _ ?_
   refine .freeze 14 (.done ?_);refine eI<|cF (bB t56 J)<|aD ?_
   refine p110 _ _ _ ?_ ⟨(x+1),v2,(v14+1),J,(bB t3 J),(bB t4 J),(bB t8<|eE DE),(bL (bB t10<|eE DE) (by (rw [zG d2]; done))),(bB t11 J),(bB t12 J),(bB t55 J),(bL (cO<|x+1) JR),(λj hj=>((aFC hU2 (λj=>by omega)) j OM).trans (by (rw [zG d2]; done))),(aR (id:=14) h3 DE),(aR (id:=14) h4 DE),(aR (id:=14) h5 DE),(aR (id:=14) h12 DE),(gH<|cE h14),(aR (id:=14) h18 DE),(bL (aR (id:=14) h42 DE) (by (rw [zG d2]; done))),?_,?_⟩
   . omega
   . omega
   . intro j hj
     by_cases e:j=x
     . subst e; exact d1
     . exact hdx j OM
  refine aT<|p310 _ _ _<|x9 _ _<|n8 _ _ (.done (eI<|aJ t11<|cF J<|aD ?_))
  refine p16 _ _ _ ?_ ⟨(i+1),v2,(fP a b (aA L i) L a.i.toNat),(v12+1),v14,J,t3,t4,t8,(bL t10 (by (rw [show x=a.i.toNat by omega]; done))),(bL (cO<|i+1) JR),(λj hj=>(hU2 j OM).trans (by (rw [show x=a.i.toNat by omega]; done))),h3,h4,h5,(cE h12),h14,h18,(bL h42 (by (rw [show x=a.i.toNat by omega]; done))),?_,?_,?_⟩
  . omega
  . have:=yU (a:=a) (b:=b) (p:=aA L i) (L:=L) (x:=a.i.toNat); omega
  . exact hbi.row hma hmb hi OM (Nat.le_refl _) λj hj=>hdx j OM
  . rw [hc,aOh OM OM λj hj=>hdx j OM]
 have hz:dst a b s t=none:=by rw [hc,aLm OM]
 refine aT<|p36 _ _ _<|x5 _ _ (.done (aW<|aP<|aD<|bF ?_))
 refine iW (aM V.nilsl) (aM<|V.bool false) (bH ?_)<|cH ?_
 . rw [hz]; rfl
 . rw [hz]; rfl
end
section
open Go Go.Proofs
theorem aGT (a b:M):bK Tryz.prog 26 [(V.agg [(iV a.i),(iV a.s),(aC a.nx),(aC a.ot)]),(V.agg [(iV b.i),(iV b.s),(aC b.nx),(aC b.ot)])] (V.tup [(aE (qB a b)),(V.bool (uT a b)),(iV (kA a b))]):=by
 refine' pK [] [] Tryz.func26 ?e λhB=>?_
 case e=>conv=>lhs; cbv
 dsimp only;refine aW<|bS (i:=2) (n:=0) (m:=4) (cs:=[(iV a.i),(iV a.s),(aC a.nx),(aC a.ot)]) J (cE J) J J J<|bS (i:=3) (n:=0) (m:=4) (cs:=[(iV b.i),(iV b.s),(aC b.nx),(aC b.ot)]) J (cE J) J J J<|aP<|aP<|aD<|aO<|aV J J J J<|aV J J J J<|aI (aEq a b) J<|aD<|aO ?_
 refine aP<|bP J J<|bR ?_
 refine aH J (λc1=>?_) λc1=>?_
 . 
  have d1:=c1;refine aO<|aP<|aP<|aP<|aD<|aK ?_
  refine iN (aM V.nilsl) (aM<|V.bool false) (aM<|iV<|kA a b) (bH ?_) (cH ?_)<|eM SI J
  . unfold qB; rw [if_pos d1]
  . unfold uT; rw [if_pos d1]
 have d0:kA a b=0:=OM
 obtain ⟨hma,hmb,hi⟩:=aL8 d0;refine aB<|aW<|aV J J J J<|aV J J J J<|aX J J J J<|aX J J J J<|bN J J<|aI (aEx a b a.s b.s hma hmb hi (aAt hma)<|aAt hmb) J<|aP<|bE J J<|bE J J<|aP<|aD ?_
 refine aW<|aP<|aP<|aP<|aP<|aD<|bF ?_
 refine iN (aM<|aE<|(dst a b a.s b.s).getD []) (aM<|V.bool<|(dst a b a.s b.s).isSome) (aM<|iV 0) (cA ?_ (λ_=>by simp)) (cH ?_)<|aF ?_
 . unfold qB; rw [if_neg OM]
 . unfold uT; rw [if_neg OM]
 . omega
end
section
open Go
def vU (h:Hy) (o:Ob) (w:List Int):Int:=
  if gY h≠0 then gY h else if h.m.i≠o.i then 15 else if dG w o.i≠0 then dG w o.i else if (eA o w).isSome=false then 12 else if (eA o w).getD []=aQ h.m h.m.s w then 8 else 0
def iA (h:Hy) (w:List Int) (i:Nat):Int:=gR h.m h.m.s (w.take i)
def acA (h:Hy) (w:List Int) (i:Nat):List Int:=aA h.acc (iA h w i).toNat
def lY (h:Hy) (w:List Int) (i:Nat):List Int:=bD [acA h w i,w.drop i]
def baA (h:Hy) (o:Ob) (w:List Int) (i:Nat):Bool:=decide (((eA o (lY h w i)).getD []).drop (acA h w i).length≠aQ h.m (iA h w i) (w.drop i))
def fnA (h:Hy) (o:Ob) (w:List Int):Nat->Nat->Nat->Option Nat×List Int×Int
  |0,_,_=>(none,[],0)
  | n + 1, lo, hi => if 1 < hi - lo then (if 1024 < (lY h w ((lo + hi) / 2)).length then (none, [], 3) else if (eA o (lY h w ((lo + hi) / 2))).isSome = false then (none, lY h w ((lo + hi) / 2), 0)
      else if baA h o w ((lo+hi) / 2)=true then fnA h o w n ((lo+hi) / 2) hi else fnA h o w n lo ((lo+hi) / 2)) else (some lo,[],0)
def snE (h:Hy) (o:Ob) (w:List Int) (i:Nat):Int:=if aA ((eA o (lY h w i)).getD []) (acA h w i).length≠aA (aA h.m.ot (iA h w i).toNat) (aA w i).toNat then 15 else 0
def wW (h:Hy) (o:Ob) (w:List Int) (i:Nat):Spl:=if snE h o w i≠0 then ⟨[],0,[]⟩ else ⟨acA h w i,aA w i,w.drop (i+1)⟩
def fdR (h:Hy) (o:Ob) (w:List Int):Option Nat×List Int×Int:=fnA h o w w.length 0 w.length
def jV (h:Hy) (o:Ob) (w:List Int):Spl:=if vU h o w≠0 then ⟨[],0,[]⟩ else match (fdR h o w).1 with|some i=>wW h o w i|none=>⟨[],0,[]⟩
def kV (h:Hy) (o:Ob) (w:List Int):List Int:=if vU h o w≠0 then [] else (fdR h o w).2.1
def tS (h:Hy) (o:Ob) (w:List Int):Int:=if vU h o w≠0 then vU h o w else match (fdR h o w).1 with|some i=>snE h o w i|none=>(fdR h o w).2.2
theorem aEM {h:Hy} {o:Ob} {w:List Int} {n lo hi:Nat} (h1:1 < hi - lo) (h2:1024 < (lY h w ((lo+hi) / 2)).length):fnA h o w (n+1) lo hi=(none,[],3):=by grind [fnA]
theorem aHN {h:Hy} {o:Ob} {w:List Int} {n lo hi:Nat} (h1:1 < hi - lo) (h2:(lY h w ((lo+hi) / 2)).length<=1024) (h3:(eA o (lY h w ((lo+hi) / 2))).isSome=false):fnA h o w (n+1) lo hi=(none,lY h w ((lo+hi) / 2),0):=by grind [fnA]
theorem aA9 {h:Hy} {o:Ob} {w:List Int} {n lo hi:Nat} (h1:1 < hi - lo) (h2:(lY h w ((lo+hi) / 2)).length<=1024) (h3:(eA o (lY h w ((lo+hi) / 2))).isSome=true) (h4:baA h o w ((lo+hi) / 2)=true):fnA h o w (n+1) lo hi=fnA h o w n ((lo+hi) / 2) hi:=by grind [fnA]
theorem xU {h:Hy} {o:Ob} {w:List Int} {n lo hi:Nat} (h1:1 < hi - lo) (h2:(lY h w ((lo+hi) / 2)).length<=1024) (h3:(eA o (lY h w ((lo+hi) / 2))).isSome=true) (h4:baA h o w ((lo+hi) / 2)=false):fnA h o w (n+1) lo hi=fnA h o w n lo ((lo+hi) / 2):=by grind [fnA]
theorem aH9 {h:Hy} {o:Ob} {w:List Int} {n lo hi:Nat} (h1: ¬ 1 < hi - lo):fnA h o w (n+1) lo hi=(some lo,[],0):=by rw [fnA,if_neg h1]
theorem aAr {w:List Int} {n:Int} (hn:1<=n/\n<=1024) (h:dG w n=0) (i:Nat):dG (w.take i) n=0:=by
  have q:=eL h;refine aAy hn (by simp; omega) λk hk=>?_;have hk2:k < w.length:=by simp at hk; omega
  rw [<- cP hk,List.getElem_take,cP hk2]; exact q.2 k hk2
theorem aCY {w:List Int} {n:Int} (hn:1<=n/\n<=1024) (h:dG w n=0) (i:Nat):dG (w.drop i) n=0:=by
  have q:=eL h;refine aAy hn (by simp; omega) λk hk=>?_;have hk2:i+k < w.length:=by simp at hk; omega
  rw [<- cP hk,List.getElem_drop,cP hk2]; exact q.2 _ hk2
def ckA (h:Hy) (o:Ob):Int:=if gY h≠0 then gY h else if o.i≠h.m.i then 15 else 0
theorem aBu {m:M} (h:eO m=0):1<=m.i/\m.i<=1024:=by have:=gW h; omega
theorem xJ {h:Hy} {w:List Int} (hm:eO h.m=0) (hw:dG w h.m.i=0) (i:Nat):0<=iA h w i/\iA h w i < h.m.nx.length:=by
  have:=aPm (w:=w.take i) hm<|aAr (aBu hm) hw i
  exact this.2.2
def zP (h:Hy) (w:List Int) (i:Nat):Int:=if 1024 < (lY h w i).length then 3 else 0
def aAq (h:Hy) (o:Ob) (w:List Int) (i:Nat):List Int:=if 1024 < (lY h w i).length then [] else if (eA o (lY h w i)).isSome=true then [] else lY h w i
def aFX (h:Hy) (o:Ob) (w:List Int) (i:Nat):Bool:=if 1024 < (lY h w i).length then false else if (eA o (lY h w i)).isSome=true then baA h o w i else false
theorem mS {h:Hy} (hv:gY h=0):eO h.m=0/\h.acc.length=h.m.nx.length/\ ∀ k,k < h.acc.length->(aA h.acc k).length<=1024:=by grind [aMm,eL]
theorem aAd {h:Hy} {o:Ob} (e:ckA h o=0):gY h=0/\h.m.i=o.i:=by grind [ckA]
theorem aLZ {h:Hy} {o:Ob} {w:List Int} (e:ckA h o≠0):vU h o w=ckA h o:=by grind [ckA,vU]
theorem aOc {h:Hy} {o:Ob} {w:List Int} (e:ckA h o=0) (e2:dG w o.i≠0):vU h o w=dG w o.i:=by grind [aAd,vU]
theorem aOa {h:Hy} {o:Ob} {w:List Int} (e:ckA h o=0) (e2:dG w o.i=0) (e3:(eA o w).isSome=false):vU h o w=12:=by grind [aAd,vU]
theorem aN5 {h:Hy} {o:Ob} {w:List Int} (e:ckA h o=0) (e2:dG w o.i=0) (e3:(eA o w).isSome=true) (e4:(eA o w).getD []=aQ h.m h.m.s w):vU h o w=8:=by grind [aAd,vU]
theorem aOn {h:Hy} {o:Ob} {w:List Int} (e:ckA h o=0) (e2:dG w o.i=0) (e3:(eA o w).isSome=true) (e4: ¬ (eA o w).getD []=aQ h.m h.m.s w):vU h o w=0:=by grind [aAd,vU]
theorem aHX {h:Hy} {o:Ob} {w:List Int} (e:vU h o w≠0):jV h o w=⟨[],0,[]⟩/\kV h o w=[]/\tS h o w=vU h o w:=by grind [jV,kV,tS]
theorem aB4 {h:Hy} {o:Ob} {w q:List Int} {z:Int} (e:vU h o w=0) (e2:fdR h o w=(none,q,z)):jV h o w=⟨[],0,[]⟩/\kV h o w=q/\tS h o w=z:=by grind [jV,kV,tS]
theorem aEN {h:Hy} {o:Ob} {w q:List Int} {i:Nat} {z:Int} (e:vU h o w=0) (e2:fdR h o w=(some i,q,z)):jV h o w=wW h o w i/\kV h o w=q/\tS h o w=snE h o w i:=by grind [jV,kV,tS]
theorem aAx {h:Hy} {o:Ob} {w:List Int} (e:vU h o w=0):gY h=0/\h.m.i=o.i/\dG w o.i=0/\(eA o w).isSome=true/\ ¬ (eA o w).getD []=aQ h.m h.m.s w/\0 < w.length:=by grind [vU,eA,aQ]
theorem aGH {h:Hy} (hv:gY h=0):(aA h.acc h.m.s.toNat).length=0:=by grind [gY]
theorem aFJ {h:Hy} {w:List Int} (hv:gY h=0):lY h w 0=w:=by grind [aGH,lY,acA,iA,gR,bD]
theorem qR (h:Hy) (w:List Int) (i:Nat):(lY h w i).length=(acA h w i).length+(w.length - i):=by simp [lY,bD]
theorem aNK {h:Hy} {o:Ob} {w:List Int} {n lo hi:Nat} (h1:1 < hi - lo) (e: ¬ zP h w ((lo+hi) / 2)=0\/0 < (aAq h o w ((lo+hi) / 2)).length):
    fnA h o w (n+1) lo hi=(none,aAq h o w ((lo+hi) / 2),zP h w ((lo+hi) / 2)):=by grind [aEM,aAq,zP,aHN]
theorem aPX {h:Hy} {o:Ob} {w:List Int} {i:Nat} (e: ¬(¬ zP h w i=0\/0 < (aAq h o w i).length)):(lY h w i).length<=1024/\(eA o (lY h w i)).isSome=true/\aFX h o w i=baA h o w i:=by grind [zP,eA,aFX,aAq]
end
section
open Go
theorem yI {o:Ob} {w:List Int}:(eA o w).isSome=true↔w=[]\/ ∃ u∈o.tr,hp u.ni w=true:=by
  unfold eA;split
  . rename_i h; simp [h]
  . rename_i h
    cases ha:tO o.tr w with
    | none =>
      grind [aCZ]
    | some x =>
      grind [vR]
theorem nP {o:Ob} {t:Tr} (h:(rT o.i o.tr [t]).2=0):tF o [t]=⟨o.i,lV o.tr t⟩:=by grind [aEf,tF]
theorem aJY {o:Ob} {t:Tr} {w:List Int} (h:(rT o.i o.tr [t]).2=0) (hk:(eA o w).isSome=true):(eA (tF o [t]) w).isSome=true:=by grind [yI,nP,lV,aH7,aET,kp]
theorem mH {m:M}: ∀ {ws:List (List Int)} {o:Ob},OK o->OK (dN m o ws).1/\(dN m o ws).1.i=o.i
  |[],o,h=>⟨h,rfl⟩
  | w :: ws, o, h => by
    unfold dN;split; · exact ⟨h,J⟩
    split; · exact ⟨h,J⟩
    have:=mH (m:=m) (ws:=ws)<|aDr (l:=[⟨w,fG m m.s w⟩]) h
    grind [aA1]
theorem yA {m:M} {x:List Int}: ∀ {ws:List (List Int)} {o:Ob},(eA o x).isSome=true->(eA (dN m o ws).1 x).isSome=true
  |[],o,h=>h
  | w :: ws, o, h => by
    unfold dN;split; · exact h
    split; · exact h
    exact yA<|aJY OM h
theorem aMI {o:Ob} {t:Tr} (h:(rT o.i o.tr [t]).2=0):(eA (tF o [t]) t.ni).isSome=true:=by grind [yI,nP,lV,aHc,List.length_pos_iff,aH7,aDF]
theorem aEe {m:M} {x:List Int}: ∀ {ws:List (List Int)} {o:Ob},(dN m o ws).2=0->x∈ws->(eA (dN m o ws).1 x).isSome=true
  |[],_,_,h=>by cases h
  | w :: ws, o, h, hx => by
    unfold dN at h ⊢;split at h
    . exact absurd h (by assumption)
    rename_i g1;rw [if_neg g1];split at h
    . exact absurd h (by assumption)
    rename_i g2;rw [if_neg g2];rcases List.mem_cons.1 hx with e|e
    . subst e; exact yA<|aMI (t:=⟨x,_⟩) OM
    . exact aEe h e
def lcA (h:Hy) (m:M) (w:List Int):Nat->Ob->Ob×Spl×Int
  |0,o=>(o,⟨[],0,[]⟩,0)
  | n + 1, o => if tS h o w ≠ 0 \/ kV h o w = [] then (o, jV h o w, tS h o w) else
      if (dN m o [kV h o w]).2≠0 then ((dN m o [kV h o w]).1,⟨[],0,[]⟩,(dN m o [kV h o w]).2) else lcA h m w n (dN m o [kV h o w]).1
def kT (h:Hy) (m:M) (w:List Int) (o:Ob):Ob×Spl×Int:=
  if (dN m o [w]).2≠0 then ((dN m o [w]).1,⟨[],0,[]⟩,(dN m o [w]).2) else lcA h m w (w.length+1) (dN m o [w]).1
def unA (h:Hy) (o:Ob) (w:List Int):Nat->Nat
  |0=>0
  |n+1=>unA h o w n+(if (eA o (lY h w n)).isSome=true then 0 else 1)
theorem aGB {h:Hy} {o:Ob} {w:List Int}: ∀ {n:Nat},unA h o w n<=n
  |0=>Nat.le_refl _
  |n+1=>by have:=aGB (h:=h) (o:=o) (w:=w) (n:=n); unfold unA; split <;> omega
theorem aBy {h:Hy} {o:Ob} {w:List Int}: ∀ {n lo hi:Nat},(fnA h o w n lo hi).2.1≠[]->hi<=w.length-> ∃ i,i < w.length/\(fnA h o w n lo hi).2.1=lY h w i/\(eA o (lY h w i)).isSome=false
  |0,_,_,e,_=>absurd rfl e
  | n + 1, lo, hi, e, hl => by
    unfold fnA at e ⊢;split at e
    . rename_i g1
      rw [if_pos g1];split at e
      . exact absurd J e
      rename_i g2;rw [if_neg g2];split at e
      . rename_i g3; rw [if_pos g3]; exact ⟨(lo+hi) / 2,OM,J,g3⟩
      rename_i g3;rw [if_neg g3];split at e
      . rename_i g4; rw [if_pos g4]; exact aBy e hl
      . rename_i g4; rw [if_neg g4]; exact aBy e OM
    . exact absurd J e
theorem aEw {h:Hy} {o o':Ob} {w:List Int} (hk: ∀ x,(eA o x).isSome=true->(eA o' x).isSome=true): ∀ {n:Nat},unA h o' w n<=unA h o w n
  |0=>Nat.le_refl _
  | n + 1 => by
    have ih:=aEw (h:=h) (w:=w) hk (n:=n)
    grind [unA]
theorem aBY {h:Hy} {o o':Ob} {w:List Int} (hk: ∀ x,(eA o x).isSome=true->(eA o' x).isSome=true) {i:Nat} (h1:(eA o (lY h w i)).isSome=false) (h2:(eA o' (lY h w i)).isSome=true): ∀ {n:Nat},i < n->unA h o' w n < unA h o w n
  |0,e=>by omega
  | n + 1, e => by
    unfold unA;by_cases q:i=n
    . subst q
      have:=aEw (h:=h) (w:=w) hk (n:=i)
      grind
    . have ih:=aBY hk h1 h2 (n:=n) OM
      grind
theorem aE5 {h:Hy} {m:M} {w:List Int} {n:Nat} {o:Ob} (e: ¬ tS h o w=0\/kV h o w=[]):lcA h m w (n+1) o=(o,jV h o w,tS h o w):=if_pos e
theorem aM4 {h:Hy} {m:M} {w:List Int} {n:Nat} {o:Ob} (e: ¬ (¬ tS h o w=0\/kV h o w=[])) (e2:(dN m o [kV h o w]).2≠0):lcA h m w (n+1) o=((dN m o [kV h o w]).1,⟨[],0,[]⟩,(dN m o [kV h o w]).2):=by rw [lcA,if_neg e,if_pos e2]
theorem aO9 {h:Hy} {m:M} {w:List Int} {n:Nat} {o:Ob} (e: ¬ (¬ tS h o w=0\/kV h o w=[])) (e2:(dN m o [kV h o w]).2=0):lcA h m w (n+1) o=lcA h m w n (dN m o [kV h o w]).1:=by grind [lcA]
theorem aOI {h:Hy} {m:M} {w:List Int} {n:Nat} {o:Ob} (e: ¬ (¬ tS h o w=0\/kV h o w=[])):
    lcA h m w (n+1) o=if (dN m o [kV h o w]).2≠0 then ((dN m o [kV h o w]).1,⟨[],0,[]⟩,(dN m o [kV h o w]).2) else lcA h m w n (dN m o [kV h o w]).1:=by rw [lcA,if_neg e]
theorem aJT {h:Hy} {o:Ob} {w:List Int} (_:tS h o w=0) (e:kV h o w≠[]): ∃ i,i < w.length/\kV h o w=lY h w i/\(eA o (lY h w i)).isSome=false:=by
  unfold kV at e ⊢;split at e
  . exact absurd J e
  . rename_i g; rw [if_neg g]; exact aBy e<|Nat.le_refl _
end
section
open Go
def oR (h:Hy) (w:List Int) (k:Nat):List Int:=iO (iA h w) k
theorem sQ (h:Hy) (w:List Int) (k:Nat):(oR h w k).length=k:=fO _ _
theorem aL1 (h:Hy) (w:List Int) (k:Nat):oR h w (k+1)=oR h w k++[iA h w k]:=iS _ _
theorem aDw {h:Hy} {w:List Int} {n k:Nat} (q:k < n):aA (oR h w n) k=iA h w k:=aHu q
def pH (h:Hy) (w:List Int):List Int:=aQ h.m h.m.s w
theorem qO (h:Hy) (w:List Int):(pH h w).length=w.length:=nY _ _ _
theorem aHw {h:Hy} {w:List Int} {k:Nat} (q:k < w.length):aA (pH h w) k=aA (aA h.m.ot (iA h w k).toNat) (aA w k).toNat:=by
  have e:=aAo h.m h.m.s q;rw [aAn,aAn] at e;have l:=nY h.m w h.m.s;have e2:=cV (l:=aQ h.m h.m.s w) (k:=k) OM;rw [e2] at e;have e3:=List.append_cancel_left e;injection e3
theorem aK5 {h:Hy} {w:List Int} {i:Nat}:(pH h w).drop i=aQ h.m (iA h w i) (w.drop i):=by
  by_cases q:i<=w.length
  . have e:=nW h.m (w.take i) (w.drop i) h.m.s
    rw [List.take_append_drop] at e;unfold pH;rw [e,List.drop_left' (by rw [nY,List.length_take]; omega)]
    rfl
  . rw [List.drop_of_length_le (by rw [qO]; omega),List.drop_of_length_le OM]; rfl
abbrev cSb (h:Hy) (o:Ob) (w:List Int):List V:=[iV h.m.i,iV h.m.s,aC h.m.nx,aC h.m.ot,aC h.acc,iV o.i,.sl (o.tr.map cT),aE w,aE (oR h w (w.length+1)),aE (pH h w)]
def bgP (h:Hy) (o:Ob) (w:List Int):V:=if vU h o w≠0 then .nilp else .pp (cSb h o w)
theorem aKW {h:Hy} {o:Ob} {w:List Int} (e:vU h o w=0):bgP h o w=.pp (cSb h o w):=if_neg OM
@[simp] theorem aP1 (h : Hy) (o : Ob) (w : List Int) : (bgP h o w).pure = true := by
  unfold bgP;split
  . rfl
  . simp
@[simp] theorem aOg (l:List Int) (k:Nat):hY ((l.map cI).take k)=true:=by rw [<- List.map_take]; exact kB _ _ λa=>by simp [cI]
theorem aPl {h:Hy} {w:List Int} {k:Nat} (q:k < w.length):iA h w (k+1)=aA (aA h.m.nx (iA h w k).toNat) (aA w k).toNat:=aAh _ _ q
theorem aOQ {h:Hy} {w:List Int} {k:Nat} (q:k < w.length):(pH h w).take (k+1)=(pH h w).take k++[aA (aA h.m.ot (iA h w k).toNat) (aA w k).toNat]:=by
  rw [cV (by rw [qO]; omega),aHw q]
def reA (h:Hy) (o:Ob) (w:List Int) (i:Nat):List Int:=((eA o (lY h w i)).getD []).drop (acA h w i).length
theorem aPi {h:Hy} {o:Ob} {w:List Int} {i:Nat}:baA h o w i=decide (¬reA h o w i=(pH h w).drop i):=by unfold baA reA; rw [aK5]
end
section
open Go Go.Proofs
theorem aDO (h:Hy) (o:Ob) (w:List Int) (ho:kS o=0):bK Tryz.prog 115 [(V.agg [(iV h.m.i),(iV h.m.s),(aC h.m.nx),(aC h.m.ot),(aC h.acc)]),(V.agg [(iV o.i),(V.sl (List.map cT o.tr))]),(aE w)] (V.tup [(bgP h o w),(iV (vU h o w))]):=by
 refine' pK [48] [] Tryz.func115 ?e λhB=>?_
 case e=>conv=>lhs; cbv
 dsimp only;refine aW<|bS (i:=3) (n:=0) (m:=5) (cs:=[(iV h.m.i),(iV h.m.s),(aC h.m.nx),(aC h.m.ot),(aC h.acc)]) J (cE J) J J J<|bS (i:=4) (n:=0) (m:=2) (cs:=[(iV o.i),(V.sl<|List.map cT o.tr)]) J (cE J) J J J<|aP<|aD<|aO<|aV J J J J<|aI (aAF h) J<|aD<|aO<|aP<|bP J J ?_
 refine bR ?_;refine aH J (λc1=>?_) λc1=>?_
 . 
  have d0:=c1;have ag:=aLZ (h:=h) (o:=o) (w:=w) (by unfold ckA; rw [if_pos d0]; exact d0);rw [show ckA h o=gY h from by unfold ckA; rw [if_pos d0]] at ag;refine aO<|aP<|aP<|aD<|aK ?_
  refine iW (aM V.nilp) (aM<|iV<|gY h) (eM SI ?_)<|aF ?_
  . unfold bgP; rw [ag,if_pos OM]
  . omega
 have hv:gY h=0:=OM
 obtain ⟨hm,hal,hac⟩:=mS hv;refine aB<|aO<|cM J J<|aX J J J J<|aX J J J J<|bP J J<|bR ?_
 refine aH J (λc2=>?_) λc2=>?_
 . 
  have ck:ckA h o=15:=by unfold ckA; rw [if_neg OM,if_pos OM]
  have ag:=aLZ (h:=h) (o:=o) (w:=w) OM;rw [ck] at ag;refine aO<|aP<|aD<|aK ?_
  refine iW (aM V.nilp) (aM<|iV 15) (eM SI ?_)<|aF ?_
  . unfold bgP; rw [ag,if_pos OM]
  . omega
 have ck:ckA h o=0:=by unfold ckA; rw [if_neg OM,if_neg OM]
 refine aB<|aO<|aP<|aX J J J J<|aI (gL w o.i) J<|aD<|aO<|aP<|bP J J<|bR ?_
 refine aH J (λc3=>?_) λc3=>?_
 . 
  have ag:=aOc (h:=h) (o:=o) (w:=w) ck c3;refine aO<|aP<|aP<|aD<|aK ?_
  refine iW (aM V.nilp) (aM<|iV<|dG w o.i) (eM SI ?_)<|aF ?_
  . unfold bgP; rw [ag,if_pos OM]
  . omega
 have hwo:dG w o.i=0:=OM
 have hw:dG w h.m.i=0:=by rw [(aAd ck).2]; exact hwo
 obtain ⟨hwl1,hwl2⟩:=eL hw;have hl2:=qO h w;refine aB<|aW<|aV J J J J<|aP<|aI (lO o w ho) J<|aP<|bE J J<|bE J J<|aP<|aD<|aO<|aP<|fF J<|bR ?_
 refine cU J (λc4=>?_) (λc4=>?_)
 . 
  have ag:=aOa (h:=h) (o:=o) (w:=w) ck hwo (by simpa using c4);refine aO<|aP<|aD<|aK ?_
  refine iW (aM V.nilp) (aM<|iV 12) (eM SI ?_)<|aF ?_
  . unfold bgP; rw [ag,if_pos OM]
  . omega
 have hka:(eA o w).isSome=true:=by simpa using c4
 refine aB ?_;refine dE (λT H=>T 2=(aE w)/\T 3=(cG 3)/\T 10=(aE<|(eA o w).getD [])/\T 12=(cG 50)/\H 3=(bk 1 28 5 [[(iV h.m.i),(iV h.m.s),(aC h.m.nx),(aC h.m.ot),(aC h.acc)]])/\H 4=(bk 1 31 2 [[(iV o.i),(V.sl<|List.map cT o.tr)]])/\H 48=(bk 1 3 1 [[(iV h.m.s)]])/\H 50=(bk 1 224 10 [[(iV h.m.i),(iV h.m.s),(aC h.m.nx),(aC h.m.ot),(aC h.acc),(iV o.i),(V.sl<|List.map cT o.tr),(aE w),(V.ms 48 1 0 1),V.nilsl]])/\H 812=fL/\True) ?_ ?_
 . 
  refine aV J J J J<|aV J J J J<|aP<|cM J J<|aX J J J J<|gE (i:=48) (n:=0) (qs:=[(0,(iV h.m.s))]) (rows:=[[(iV h.m.s)]]) J (cE J) (cZ (congrArg (λv=>(0,v)) J) J) J<|bN J J<|bS (i:=50) (n:=0) (m:=10) (cs:=[(iV h.m.i),(iV h.m.s),(aC h.m.nx),(aC h.m.ot),(aC h.acc),(iV o.i),(V.sl<|List.map cT o.tr),(aE w),(V.ms 48 1 0 1),V.nilsl]) J (cE J) J J J<|aP ?_
  exact eS ⟨J,J,J,J,J,J,J,J,J,trivial⟩
 intro T H ⟨t2,t3,t10,t12,h3,h4,h48,h50,h812,_⟩;refine aW<|cM t3 h3<|aX J h3 J J<|aD<|cS<|W_g<|aJ t2<|bA J<|aD<|eJ (R:=λT H=>T 3=(cG 3)/\T 10=(aE<|(eA o w).getD [])/\T 12=(cG 50)/\T 13=(iV h.m.s)/\T 54=(aE w)/\T 55=(iV ((w.length:Nat):Int))/\T 56=(iV 0)/\H 3=(bk 1 28 5 [[(iV h.m.i),(iV h.m.s),(aC h.m.nx),(aC h.m.ot),(aC h.acc)]])/\H 4=(bk 1 31 2 [[(iV o.i),(V.sl<|List.map cT o.tr)]])/\H 48=(bk 1 3 1 [[(iV h.m.s)]])/\H 50=(bk 1 224 10 [[(iV h.m.i),(iV h.m.s),(aC h.m.nx),(aC h.m.ot),(aC h.acc),(iV o.i),(V.sl<|List.map cT o.tr),(aE w),(V.ms 48 1 0 1),V.nilsl]])/\H 812=fL/\True) ⟨t3,t10,t12,(aM<|iV h.m.s),(aM<|aE w),(cO w.length),(aM<|iV 0),h3,h4,h48,h50,h812,trivial⟩ ?_
 intro T H ⟨t3,t10,t12,t13,t54,t55,t56,h3,h4,h48,h50,h812,_⟩;refine .lazyCell 812 3 1 50 0 9 [(iV h.m.i),(iV h.m.s),(aC h.m.nx),(aC h.m.ot),(aC h.acc),(iV o.i),(V.sl<|List.map cT o.tr),(aE w),(V.ms 48 1 0 1),V.nilsl] DE (by rw [h50]; rfl) (by rw [h50]; rfl) J (.done ?_);refine eJ (R:=λT H=>T 3=(cG 3)/\T 10=(aE<|(eA o w).getD [])/\T 12=(cG 50)/\T 13=(iV h.m.s)/\T 54=(aE w)/\T 55=(iV ((w.length:Nat):Int))/\T 56=(iV 0)/\H 3=(bk 1 28 5 [[(iV h.m.i),(iV h.m.s),(aC h.m.nx),(aC h.m.ot),(aC h.acc)]])/\H 4=(bk 1 31 2 [[(iV o.i),(V.sl<|List.map cT o.tr)]])/\H 48=(bk 1 3 1 [[(iV h.m.s)]])/\H 50=(bk 1 224 10 [[(iV h.m.i),(iV h.m.s),(aC h.m.nx),(aC h.m.ot),(aC h.acc),(iV o.i),(V.sl<|List.map cT o.tr),(aE w),(V.ms 48 1 0 1),(V.ms 812 1 0 0)]])/\H 812=(bz 1 3 1 [])/\True) ⟨t3,t10,t12,t13,t54,t55,t56,(gB<|gB h3),(gB<|gB h4),(gB<|gB h48),(by rw [aU,h50,(cE h812)]; rfl),(by rw [cD _ _ DE,aU,(cE h812)]),trivial⟩ ?_;intro T H ⟨t3,t10,t12,t13,t54,t55,t56,h3,h4,h48,h50,h812,_⟩;refine aG λQ5 n5 x5 y5 z5=>?_;refine cC (λmm T H=> ∃ (k:Nat) (v1:Nat) (v2:Nat),mm=w.length - k/\T 3=(cG 3)/\T 10=(aE<|(eA o w).getD [])/\T 12=(cG 50)/\T 13=(iV<|iA h w k)/\T 54=(aE w)/\T 55=(iV ((w.length:Nat):Int))/\T 56=(iV ((k:Nat):Int))/\H 3=(bk 1 28 5 [[(iV h.m.i),(iV h.m.s),(aC h.m.nx),(aC h.m.ot),(aC h.acc)]])/\H 4=(bk 1 31 2 [[(iV o.i),(V.sl<|List.map cT o.tr)]])/\H 48=(bk v1 3 1<|List.map cI<|oR h w<|k+1)/\H 50=(bk 1 224 10 [[(iV h.m.i),(iV h.m.s),(aC h.m.nx),(aC h.m.ot),(aC h.acc),(iV o.i),(V.sl<|List.map cT o.tr),(aE w),(V.ms 48 v1 0<|k+1),(V.ms 812 v2 0 k)]])/\H 812=(bz v2 3 1<|List.map cI<|(pH h w).take k)/\(k<=w.length)) ?_ ?_
 . 
  refine ⟨_,0,1,1,J,t3,t10,t12,(bL t13 JR),t54,t55,(bL t56 J),h3,h4,(bL h48 JR),(bL h50 JR),(bL h812 JR),?_⟩
  . omega
 intro mm T H ⟨k,v1,v2,hmm,t3,t10,t12,t13,t54,t55,t56,h3,h4,h48,h50,h812,hk⟩ Q6 p16 p26 p36;refine aW<|bZ t56 t55<|bR ?_
 refine aH J (λc7=>?_) λc7=>?_
 . 
  have hsi:=xJ hm hw k;have hrw:=tJ hm hsi.1 hsi.2;have hwi:=hwl2 k OM;have hg1:=aPl (h:=h) (w:=w) (k:=k) OM;have hg2:=aOQ (h:=h) (w:=w) (k:=k) OM;refine aB (aG λQ8 n8 x8 y8 z8=>(aW<|dA (i:=k) t54 t56<|aL J J<|aD<|aW<|aJ t12<|aJ t12<|gK J h50 oB<|aX J h50 J J<|cM t3 h3<|aX J h3 J J ?_));refine aJ t13<|dR (i:=(iA h w k)) (aM<|aC h.m.ot) (aM<|iV<|iA h w k) OM OM J<|aL J J<|aP<|dR (i:=(aA w k)) (aM<|aE<|aA h.m.ot (iA h w k).toNat) (aM<|iV<|aA w k) OM OM J<|aL J J<|aS J J<|eX (l:=((pH h w).take k)) (f:=cI) (x:=(aA (aA h.m.ot (iA h w k).toNat) (aA w k).toNat)) (aM<|V.ms 812 v2 0 k) h812 (by (rw [List.length_take]; omega)) (aM<|V.sl [[(iV<|aA (aA h.m.ot (iA h w k).toNat) (aA w k).toNat)]])<|gK J h50 oB<|cM J h50<|dU (vs:=[(V.ms 812 (v2+1) 0<|k+1)]) (B':=(bk 1 224 10 [[(iV h.m.i),(iV h.m.s),(aC h.m.nx),(aC h.m.ot),(aC h.acc),(iV o.i),(V.sl<|List.map cT o.tr),(aE w),(V.ms 48 v1 0<|k+1),(V.ms 812 (v2+1) 0<|k+1)]])) J J J h50 (sB oB J J J J J)<|qV<|cM t3 h3<|aX J h3 J J ?_
  refine aJ t13<|dR (i:=(iA h w k)) (aM<|aC h.m.nx) (aM<|iV<|iA h w k) OM OM J<|aL J J<|aP<|dR (i:=(aA w k)) (aM<|aE<|aA h.m.nx (iA h w k).toNat) (aM<|iV<|aA w k) OM OM J<|aL J J<|aD ?_
  refine tX (λT H=>T 3=(cG 3)/\T 10=(aE<|(eA o w).getD [])/\T 12=(cG 50)/\T 13=(iV<|aA (aA h.m.nx (iA h w k).toNat) (aA w k).toNat)/\T 54=(aE w)/\T 55=(iV ((w.length:Nat):Int))/\T 56=(iV ((k:Nat):Int))/\H 3=(bk 1 28 5 [[(iV h.m.i),(iV h.m.s),(aC h.m.nx),(aC h.m.ot),(aC h.acc)]])/\H 4=(bk 1 31 2 [[(iV o.i),(V.sl<|List.map cT o.tr)]])/\H 48=(bk (v1+1) 3 1<|List.map cI<|oR h w (k+1)++[(aA (aA h.m.nx (iA h w k).toNat) (aA w k).toNat)])/\H 50=(bk 1 224 10 [[(iV h.m.i),(iV h.m.s),(aC h.m.nx),(aC h.m.ot),(aC h.acc),(iV o.i),(V.sl<|List.map cT o.tr),(aE w),(V.ms 48 (v1+1) 0<|(k+1)+1),(V.ms 812 (v2+1) 0<|k+1)]])/\H 812=(bz (v2+1) 3 1<|List.map cI<|(pH h w).take k++[(aA (aA h.m.ot (iA h w k).toNat) (aA w k).toNat)])/\True) ?_ ?_
  . 
   refine aJ t12<|aJ t12<|gK J J oB<|aX J J J J<|aP<|aS J J<|eX (l:=(oR h w<|k+1)) (f:=cI) (x:=(aA (aA h.m.nx (iA h w k).toNat) (aA w k).toNat)) (aM<|V.ms 48 v1 0<|k+1) h48 (by (rw [sQ]; done)) (aM<|V.sl [[(iV<|aA (aA h.m.nx (iA h w k).toNat) (aA w k).toNat)]])<|gK J J oB<|cM J J<|dU (vs:=[(V.ms 48 (v1+1) 0<|(k+1)+1)]) (B':=(bk 1 224 10 [[(iV h.m.i),(iV h.m.s),(aC h.m.nx),(aC h.m.ot),(aC h.acc),(iV o.i),(V.sl<|List.map cT o.tr),(aE w),(V.ms 48 (v1+1) 0<|(k+1)+1),(V.ms 812 (v2+1) 0<|k+1)]])) J J J J (sB oB J J J J J) ?_
   exact eS ⟨t3,t10,t12,J,t54,t55,t56,h3,h4,J,J,J,trivial⟩
  intro T H ⟨t3,t10,t12,t13,t54,t55,t56,h3,h4,h48,h50,h812,_⟩;refine n8 _ _ (.done (eI<|cF t56<|aD ?_));refine p16 _ _ _ ?_ ⟨(k+1),(v1+1),(v2+1),J,t3,t10,t12,(bL t13 (by (rw [hg1]; done))),t54,t55,(bL (cO<|k+1) JR),h3,h4,(bL h48 (by (rw [aL1 (k:=k+1),hg1]; first|done|rfl))),(bL h50 JR),(bL h812 (by (rw [hg2]; first|done|rfl))),?_⟩
  . omega
  . omega
 have hke:k=w.length:=OM
 have hte:(pH h w).take k=pH h w:=List.take_of_length_le OM;refine aT<|p36 _ _ _<|x5 _ _ ?_
 refine gI (id:=48) (id2:=50) (rows:=[[(iV h.m.i),(iV h.m.s),(aC h.m.nx),(aC h.m.ot),(aC h.acc),(iV o.i),(V.sl<|List.map cT o.tr),(aE w),(V.ms 48 v1 0<|k+1),(V.ms 812 v2 0 k)]]) (i:=0) (off:=8) (r:=[(iV h.m.i),(iV h.m.s),(aC h.m.nx),(aC h.m.ot),(aC h.acc),(iV o.i),(V.sl<|List.map cT o.tr),(aE w),(V.ms 48 v1 0<|k+1),(V.ms 812 v2 0 k)]) (m:=(oR h w<|k+1)) (g:=cI) DE h48 h50 (by (simp; done)) (by (rw [sQ]; done)) J ?_;refine gI (id:=812) (id2:=50) (rows:=[[(iV h.m.i),(iV h.m.s),(aC h.m.nx),(aC h.m.ot),(aC h.acc),(iV o.i),(V.sl<|List.map cT o.tr),(aE w),(aE<|oR h w<|k+1),(V.ms 812 v2 0 k)]]) (i:=0) (off:=9) (r:=[(iV h.m.i),(iV h.m.s),(aC h.m.nx),(aC h.m.ot),(aC h.acc),(iV o.i),(V.sl<|List.map cT o.tr),(aE w),(aE<|oR h w<|k+1),(V.ms 812 v2 0 k)]) (m:=((pH h w).take k)) (g:=cI) DE (aR (id:=48) h812 DE) (@J Blk<|bk 1 224 10 [[(iV h.m.i),(iV h.m.s),(aC h.m.nx),(aC h.m.ot),(aC h.acc),(iV o.i),(V.sl<|List.map cT o.tr),(aE w),(aE<|oR h w<|k+1),(V.ms 812 v2 0 k)]]) (by (simp; done)) (by (rw [List.length_take]; omega)) J (.done ?_);refine cS<|W_g<|aJ (bB (id:=812) (bB (id:=48) t10 J) J)<|aJ (bB (id:=812) (bB (id:=48) t12 J) J)<|gK J J oB<|aX J J J J<|aI (nQ ((eA o w).getD [])<|(pH h w).take k) J<|bR<|eJ (R:=λT H=>T 12=(cG 50)/\T 103=(V.bool<|decide (((eA o w).getD [])=((pH h w).take k)))/\H 3=(bk 1 28 5 [[(iV h.m.i),(iV h.m.s),(aC h.m.nx),(aC h.m.ot),(aC h.acc)]])/\H 4=(bk 1 31 2 [[(iV o.i),(V.sl<|List.map cT o.tr)]])/\((H 48).ver=v1/\(H 48).live=false)/\H 50=(bk 1 224 10 [[(iV h.m.i),(iV h.m.s),(aC h.m.nx),(aC h.m.ot),(aC h.acc),(iV o.i),(V.sl<|List.map cT o.tr),(aE w),(aE<|oR h w<|k+1),(aE<|(pH h w).take k)]])/\((H 812).ver=v2/\(H 812).live=false)/\True) ⟨(bB (id:=812) (bB (id:=48) t12 J) J),(aM<|V.bool<|decide (((eA o w).getD [])=((pH h w).take k))),(aR (id:=812) (aR (id:=48) h3 DE) DE),(aR (id:=812) (aR (id:=48) h4 DE) DE),(gS (id:=812)<|gH (id:=48)<|cE h48),J,(gH (id:=812)<|cE<|aR (id:=48) h812 DE),trivial⟩ ?_
 intro T H ⟨t12,t103,h3,h4,h48,h50,h812,_⟩;refine .freezeP 50 12 1 0 0 [(iV h.m.i),(iV h.m.s),(aC h.m.nx),(aC h.m.ot),(aC h.acc),(iV o.i),(V.sl<|List.map cT o.tr),(aE w),(aE<|oR h w<|k+1),(aE<|(pH h w).take k)] t12 (by rw [h50]) (by rw [h50]; rfl) (by rw [h50]; rfl) (.done ?_);refine eJ (R:=λT H=>T 12=(V.pp [(iV h.m.i),(iV h.m.s),(aC h.m.nx),(aC h.m.ot),(aC h.acc),(iV o.i),(V.sl<|List.map cT o.tr),(aE w),(aE<|oR h w<|k+1),(aE<|(pH h w).take k)])/\T 103=(V.bool<|decide (((eA o w).getD [])=((pH h w).take k)))/\H 3=(bk 1 28 5 [[(iV h.m.i),(iV h.m.s),(aC h.m.nx),(aC h.m.ot),(aC h.acc)]])/\H 4=(bk 1 31 2 [[(iV o.i),(V.sl<|List.map cT o.tr)]])/\((H 48).ver=v1/\(H 48).live=false)/\((H 50).ver=1/\(H 50).live=false)/\((H 812).ver=v2/\(H 812).live=false)/\True) ⟨(aU _ _ _),(gB t103),(aR h3 DE),(aR h4 DE),(gS h48),(gH<|cE h50),(gS h812),trivial⟩ ?_;intro T H ⟨t12,t103,h3,h4,h48,h50,h812,_⟩;refine aH t103 (λc9=>?_) λc9=>?_
 . 
  have ag:=aN5 (h:=h) (o:=o) (w:=w) ck hwo hka (by have q:=c9; rw [hte] at q; exact q);refine aO<|aP<|aD<|aK ?_
  refine iW (aM V.nilp) (aM<|iV 8) (eM SI ?_)<|aF ?_
  . unfold bgP; rw [ag,if_pos DE]
  . omega
 have ag:=aOn (h:=h) (o:=o) (w:=w) ck hwo hka (by have q:=c9; rw [hte] at q; exact q);refine aB<|aW<|aJ t12<|aP<|aD<|bF ?_
 refine iW (aM<|V.pp [(iV h.m.i),(iV h.m.s),(aC h.m.nx),(aC h.m.ot),(aC h.acc),(iV o.i),(V.sl<|List.map cT o.tr),(aE w),(aE<|oR h w<|k+1),(aE<|(pH h w).take k)]) (aM<|iV 0) (eM SI ?_)<|aF ?_
 . rw [aKW ag,hke]; first|done|rfl|(rw [List.take_of_length_le OM]; first|done|rfl)
 . omega
theorem aGw (lo hi:Nat) (h1:lo<=1048576) (h2:hi<=1048576):bK Tryz.prog 117 [(iV ((lo:Nat):Int)),(iV ((hi:Nat):Int))] (iV (((lo+hi) / 2:Nat):Int)):=by
 refine' pK [] [] Tryz.func117 ?e λhB=>?_
 case e=>conv=>lhs; cbv
 dsimp only;refine aW<|aD<|aW<|aP<|aP<|oC J J OM<|aGG (n:=(lo+hi)) J J OM<|aD<|bF ?_
 refine aZ (cO<|(lo+hi) / 2)<|eM SI J
theorem zS (h:Hy) (o:Ob) (w:List Int) (e:vU h o w=0) (ho:kS o=0) (i:Nat) (hi:i<=w.length):bK Tryz.prog 168 [(V.pp [(iV h.m.i),(iV h.m.s),(aC h.m.nx),(aC h.m.ot),(aC h.acc),(iV o.i),(V.sl (List.map cT o.tr)),(aE w),(aE (oR h w (w.length+1))),(aE (pH h w))]),(iV ((i:Nat):Int))] (aE (lY h w i)):=by
 refine' pK [] [] Tryz.func168 ?e λhB=>?_
 case e=>conv=>lhs; cbv
 dsimp only;obtain ⟨hv,hio,hwo,hka,hdf,hwp⟩:=aAx e;obtain ⟨hm,hal,hac⟩:=mS hv;have hw:dG w h.m.i=0:=by rw [hio]; exact hwo
 obtain ⟨hwl1,hwl2⟩:=eL hw;have hl1:=sQ h w<|w.length+1
 have hl2:=qO h w;have hsi:=xJ hm hw i;have hst:aA (oR h w<|w.length+1) i=iA h w i:=aDw OM;have hql:(bD [aA h.acc (iA h w i).toNat,w.drop i]).length=(aA h.acc (iA h w i).toNat).length+(w.length - i):=qR h w i;have hal2:(aA h.acc (iA h w i).toNat).length<=1024:=hac _ OM

 refine aW<|aD<|aW<|aP<|gN J<|dB (cs':=[(iV h.m.i),(iV h.m.s),(aC h.m.nx),(aC h.m.ot),(aC h.acc),(iV o.i),(V.sl<|List.map cT o.tr),(aE w),(aE<|oR h w<|w.length+1),(aE<|pH h w)]) J J<|dB (cs':=[(aC h.acc),(iV o.i),(V.sl<|List.map cT o.tr),(aE w),(aE<|oR h w<|w.length+1),(aE<|pH h w)]) J J<|aL J J<|aP<|gN J<|dB (cs':=[(aE<|oR h w<|w.length+1),(aE<|pH h w)]) J J<|aL J J<|aP<|dA (i:=i) (aM<|aE<|oR h w<|w.length+1) (cO i)<|aL J J ?_
 refine dR (i:=(aA (oR h w<|w.length+1) i)) (aM<|aC h.acc) (aM<|iV<|aA (oR h w<|w.length+1) i) OM OM J<|aL J J<|aP<|gN J<|dB (cs':=[(aE w),(aE<|oR h w<|w.length+1),(aE<|pH h w)]) J J<|aL J J<|aP<|gD (n:=i) (aM<|aE w) (cO i) OM (λ_=>J)<|aS J J<|aI (dP ([(aA h.acc (aA (oR h w<|w.length+1) i).toNat),List.drop i w]) (by rw [hst]; omega)) J<|aD<|bF ?_
 refine aZ (aM<|aE<|bD<|[(aA h.acc (aA (oR h w<|w.length+1) i).toNat),List.drop i w])<|cA ?_ (λ_=>by simp)
 . first|(rw [hst]; done)|(rw [hst]; rfl)|skip
end
end Go.Proofs.YtinpihlhcmpkhaaGreat
