/- Contracts of the functions that the law N reaches, and the law itself, for every input; no condition. -/
import Derived.KernelRfl
import Derived.Test.YtinpihlhcmpkhaaGreatProg
import Derived.Shelf.SlSortCmp.KitK
import Derived.Shelf.SlSortCmp.Kit1
import Derived.Shelf.SlSortCmp.NoneTotal
import Derived.Shelf.Spec.SlicesGrow
import Derived.Shelf.Spec.SlicesInsertGrow
import Derived.Test.YtinpihlhcmpkhaaGreatN1
set_option linter.unusedSimpArgs false
set_option linter.unusedVariables false
set_option maxRecDepth 20000
set_option maxHeartbeats 1000000
namespace Go.Proofs.YtinpihlhcmpkhaaGreat
section
open Go Go.Proofs
theorem aO1 (l:List (List Int)) (v2 v3 len:Nat) (Hi:aT) (h202:Hi 202=(bz v2 54 1 (List.map cL l))) (h3:Hi 3=(bk v3 91 1 [[(V.fn 143 [] [])]])) (hn:len=l.length) (hl:l.length<=1073741824):fH Tryz.prog 159 [(V.ms 202 v2 0 len),(V.fn 160 [] [(V.mp 3 v3 0 0)])] Hi (V.ms 202 v2 0 ((fA l l.length).length)) (cU Hi 202 (bz v2 54 1 (List.map cL (fA l l.length)++List.replicate (l.length - (fA l l.length).length) [V.nilsl]))):=by
 refine' eK [] [] (k0:=400) Tryz.func159 ?e λhB=>?_
 case e=>conv=>lhs; cbv
 dsimp only;refine aU<|aE<|aO<|aP<|eS J h202 SI<|bY J J<|cE ?_
 refine aG J (λc1=>?_) λc1=>?_
 . 
  refine aO<|aP<|aE<|aN<|fL (R:=λT H=>T 4=(V.ms 202 v2 0 len)/\(∀ j,j∉[202]->H j=Hi j)/\H 3=(bk v3 91 1 [[(V.fn 143 [] [])]])/\H 202=(bz v2 54 1<|List.map cL l)/\True) ⟨(aM<|V.ms 202 v2 0 len),(λ_ _=>J),h3,h202,trivial⟩ ?_
  intro T H ⟨t4,hF,h3,h202,_⟩;have hall:=aEh (l:=l) (λi i1 i2=>by omega);have fh:=dK.fin<|dK.put (B:=(bz v2 54 1<|List.map cL (fA l l.length)++List.replicate (l.length - (fA l l.length).length) [V.nilsl])) (dK.start hF) h202<|jN.eq (by (rw [hall]; simp; done))
  exact lU t4 fh<|fD.trans_eq (fD.same fh _) (by (rw [hall,hn]; done))
 refine aB<|aO<|aE (aF λQ2 n2 x2 y2 z2=>?_)
 refine cF (λmm T H=> ∃ (k:Nat),mm=l.length - k/\T 0=(V.ms 202 v2 0 len)/\T 1=(V.fn 160 [] [(V.mp 3 v3 0 0)])/\T 5=(iV ((k:Nat):Int))/\(∀ j,j∉[202]->H j=Hi j)/\H 3=(bk v3 91 1 [[(V.fn 143 [] [])]])/\H 202=(bz v2 54 1<|List.map cL l)/\(1<=k)/\(k<=l.length)/\(∀ i,1<=i->i < k->aA l i≠aA l (i - 1))) ?_ ?_
 . 
  refine ⟨_,1,J,J,J,(bG (aM<|iV 1) J),(λ_ _=>J),h3,h202,?_,?_,?_⟩
  . omega
  . omega
  . intro i h1 h2; omega
 intro mm T H ⟨k,hmm,t0,t1,t5,hF,h3,h202,h1,hk,hc⟩ Q3 p13 p23 p33;refine aO<|aI t5<|aI t0<|eS J h202 SI<|bY J J<|cE ?_
 refine aG J (λc4=>?_) λc4=>?_
 . 
  refine aB (aF λQ5 n5 x5 y5 z5=>(aU<|aI t1<|aI t0<|aI t5<|dG (i:=k) (aM<|V.ms 202 v2 0 len) (cS k) h202 (fJ OM) J OM<|cG (v:=(aD<|aA l k)) J h202 (dU OM JR)<|aI t0<|aI t5<|lS J J OM OM<|dS (i:=(((k:Nat):Int) - (1:Int))) (aM<|V.ms 202 v2 0 len) (aM<|iV<|((k:Nat):Int) - (1:Int)) h202 (fJ OM) J OM OM<|cG (v:=(aD<|aA l<|(((k:Nat):Int) - (1:Int)).toNat)) J h202 (dU OM JR)<|iP (aM<|V.fn 160 [] [(V.mp 3 v3 0 0)]) (bI (aM<|aD<|aA l k)<|bI (aM<|aD<|aA l<|(((k:Nat):Int) - (1:Int)).toNat) dR) (aDD (aA l k)<|aA l<|(((k:Nat):Int) - (1:Int)).toNat) (cO (dN 6 _ (by simp [-List.map_take,-List.map_drop,-List.map_append,-List.map_reverse]))<|cO (dN 6 _ (by simp [-List.map_take,-List.map_drop,-List.map_append,-List.map_reverse]))<|cO (by simp [fR,Blk.own,h3,h202]) J) (by simp [-List.map_take,-List.map_drop,-List.map_append,-List.map_reverse]) (Or.inr J)<|cE ?_));refine gE J (λc6=>?_) λc6=>?_
  . 
   have d1:aA l k=aA l (k - 1):=by have q:=iT.1 c6; rwa [show (((k:Nat):Int) - (1:Int)).toNat=k - 1 by omega] at q
   have hd:=aG2 h1 OM hc d1;refine aU<|aI t0<|aI t5<|kL (n:=k) (aM<|V.ms 202 v2 0 len) (cS k) h202 (fJ OM) J OM<|aE<|aO<|aE (aF λQ7 n7 x7 y7 z7=>?_)
   refine cF (λmm T H=> ∃ (j:Nat),mm=l.length - (k+j)/\T 0=(V.ms 202 v2 0 len)/\T 1=(V.fn 160 [] [(V.mp 3 v3 0 0)])/\T 5=(iV (((fA l<|k+j).length:Nat):Int))/\T 6=(V.ms 202 v2 (0+k)<|len - k)/\T 7=(iV ((j:Nat):Int))/\(∀ j,j∉[202]->H j=Hi j)/\H 3=(bk v3 91 1 [[(V.fn 143 [] [])]])/\H 202=(bz v2 54 1<|List.map cL<|nQ l<|k+j)/\(k+j<=l.length)/\(1<=j)/\((fA l<|k+j).length < k+j)) ?_ ?_
   . 
    refine ⟨_,1,J,t0,t1,(bG t5 (by (rw [hd.1]; done))),(bG (aM<|V.ms 202 v2 (0+k)<|len - k) JR),(bG (aM<|iV 1) J),hF,h3,(bG h202 (by (rw [hd.2]; done))),?_,?_,?_⟩
    . omega
    . omega
    . rw [hd.1]; omega
   intro mm T H ⟨j,hmm,t0,t1,t5,t6,t7,hF,h3,h202,hj,hj1,hlt⟩ Q8 p18 p28 p38;have q1:=aJt (L:=l) (j:=k+j) hj;have q5:=aP2 hlt hj1;have q6:=aG5 (l:=l) (j:=k+j) OM;refine aO<|aI t7<|aI t6<|eS J h202 SI<|bY J J<|cE ?_
   refine aG J (λc9=>?_) λc9=>?_
   . 
    refine aB (aF λQ10 n10 x10 y10 z10=>(aU<|aI t1<|aI t6<|aI t7<|pE (i:=j) (aM<|V.ms 202 v2 (0+k)<|len - k) (cS j) h202 (fJ OM) J OM<|cG (v:=(aD<|aA (nQ l<|k+j)<|(0+k)+j)) J h202 (dU OM JR)<|aI t6<|aI t7<|lS J J OM OM<|aAr (i:=(((j:Nat):Int) - (1:Int))) (aM<|V.ms 202 v2 (0+k)<|len - k) (aM<|iV<|((j:Nat):Int) - (1:Int)) h202 (fJ OM) J OM OM<|cG (v:=(aD<|aA (nQ l<|k+j)<|(0+k)+(((j:Nat):Int) - (1:Int)).toNat)) J h202 (dU OM JR)<|iP (aM<|V.fn 160 [] [(V.mp 3 v3 0 0)]) (bI (aM<|aD<|aA (nQ l<|k+j)<|(0+k)+j)<|bI (aM<|aD<|aA (nQ l<|k+j)<|(0+k)+(((j:Nat):Int) - (1:Int)).toNat) dR) (aDD (aA (nQ l<|k+j)<|(0+k)+j)<|aA (nQ l<|k+j)<|(0+k)+(((j:Nat):Int) - (1:Int)).toNat) (cO (dN 6 _ (by simp [-List.map_take,-List.map_drop,-List.map_append,-List.map_reverse]))<|cO (dN 6 _ (by simp [-List.map_take,-List.map_drop,-List.map_append,-List.map_reverse]))<|cO (by simp [fR,Blk.own,h3,h202]) J) (by simp [-List.map_take,-List.map_drop,-List.map_append,-List.map_reverse]) (Or.inr J)<|uQ J<|cE ?_));refine gE J (λc11=>?_) λc11=>?_
    . 
     have d5:aA l (k+j)≠aA l (k+j - 1):=λq=>c11<|iT.2 (by rw [q5.1,q5.2]; exact q)
     refine aU<|aI t0<|aI t5<|aI t6<|aI t7<|pE (i:=j) (aM<|V.ms 202 v2 (0+k)<|len - k) (cS j) h202 (fJ OM) J OM<|cG (v:=(aD<|aA (nQ l<|k+j)<|(0+k)+j)) J h202 (dU OM JR)<|dG (i:=((fA l<|k+j).length)) (aM<|V.ms 202 v2 0 len) (cS<|(fA l<|k+j).length) h202 (fJ OM) J OM<|cZ (vs:=[(aD<|aA (nQ l<|k+j)<|(0+k)+j)]) (B':=(bz v2 54 1<|List.map cL<|(nQ l<|k+j).set ((fA l<|k+j).length) (aA (nQ l<|k+j)<|(0+k)+j))) J J J h202 (jM (x:=(aA (nQ l<|k+j)<|(0+k)+j)) (i:=((fA l<|k+j).length)) OM J J J J)<|cE<|fO<|aI t5<|cD J<|aE<|n10 _ _ ?_
     refine .done (fO<|aI t7<|cD J<|aE ?_);refine p18 _ _ _ ?_ ⟨(j+1),J,t0,t1,(bG (cS<|((fA l<|k+j).length)+1) (by (show _=iV (((fA l<|(k+j)+1).length:Nat):Int); rw [jC (.inr d5),List.length_append]; rfl))),(bG t6 JR),(bG (cS<|j+1) JR),(bD hF DE),h3,(bG (@J Blk<|bz v2 54 1<|List.map cL<|(nQ l<|k+j).set ((fA l<|k+j).length) (aA (nQ l<|k+j)<|(0+k)+j)) (by (rw [q5.1,aGH (show k+j < l.length by omega) (.inr d5)]; rfl))),?_,?_,?_⟩
     . omega
     . omega
     . omega
     . first|(show (fA l<|(k+j)+1).length < (k+j)+1; rw [jC (.inr d5),List.length_append]; simp; omega)|(show (fA l<|(k+j)+1).length < (k+j)+1; rw [jT (by rintro (q|q); omega; exact q d5)]; omega)
    have d5:aA l (k+j)=aA l (k+j - 1):=by have q:=iT.1<|Decidable.not_not.1 c11; rwa [q5.1,q5.2] at q
    refine dH<|n10 _ _ (.done (fO<|aI t7<|cD J<|aE ?_))
    refine p18 _ _ _ ?_ ⟨(j+1),rfl,t0,t1,(bG t5 (by (show _=iV (((fA l<|(k+j)+1).length:Nat):Int); rw [jT (by rintro (q|q); omega; exact q d5)]; done))),(bG t6 JR),(bG (cS<|j+1) JR),hF,h3,(bG h202 (by (show _=(⟨_,_,_,_,_,List.map cL (nQ l<|(k+j)+1)⟩:Blk); rw [aGG (by rintro (q|q); omega; exact q d5)]; done))),?_,?_,?_⟩
    . omega
    . omega
    . omega
    . first|(show (fA l<|(k+j)+1).length < (k+j)+1; rw [jC (.inr d5),List.length_append]; simp; omega)|(show (fA l<|(k+j)+1).length < (k+j)+1; rw [jT (by rintro (q|q); omega; exact q d5)]; omega)
   refine aS<|p38 _ _ _<|x7 _ _ (.done (aU<|aI t0<|aI t5<|kL (n:=((fA l<|k+j).length)) (aM<|V.ms 202 v2 0 len) (cS<|(fA l<|k+j).length) h202 (fJ OM) J OM<|aMA (m:=((fA l<|k+j).length)) (n:=(len - ((fA l<|k+j).length))) (f:=cL) (l:=(nQ l<|k+j)) (bG (aM<|V.ms 202 v2 (0+((fA l<|k+j).length))<|len - ((fA l<|k+j).length))<|congrArg (λn=>V.ms 202 v2 n<|len - ((fA l<|k+j).length))<|Nat.zero_add _) h202 J DE J OM OM<|R_r<|aI t0<|aI t5<|qU (n:=((fA l<|k+j).length)) (aM<|V.ms 202 v2 0 len) (cS<|(fA l<|k+j).length) (@J Blk<|bz v2 54 1<|List.map cL (List.take ((fA l<|k+j).length)<|nQ l<|k+j)++List.replicate (len - ((fA l<|k+j).length)) [V.nilsl]) (pU (by (simp only [List.length_take]; omega))) J OM<|aE ?_))
   refine bE<|y5 _ _<|p23 _ _<|y2 _ _<|fL (R:=λT H=>T 4=(V.ms 202 v2 0<|(fA l<|k+j).length)/\(∀ j,j∉[202]->H j=Hi j)/\H 3=(bk v3 91 1 [[(V.fn 143 [] [])]])/\H 202=(bz v2 54 1<|List.map cL (List.take ((fA l<|k+j).length)<|nQ l<|k+j)++List.replicate (len - ((fA l<|k+j).length)) [V.nilsl])/\True) ⟨(aM<|V.ms 202 v2 0<|(fA l<|k+j).length),(bD hF DE),h3,J,trivial⟩ ?_
   intro T H ⟨t4,hF,h3,h202,_⟩;skip;have fh:=dK.fin<|dK.put (B:=(bz v2 54 1<|List.map cL (fA l l.length)++List.replicate (l.length - (fA l l.length).length) [V.nilsl])) (dK.start hF) h202<|jN.eq (by (rw [aIm (show l.length<=k+j by omega) hj,show k+j=l.length by omega,hn]; done))
   exact lU t4 fh<|fD.trans_eq (fD.same fh _) (by (rw [show k+j=l.length by omega]; done))
  have d1:aA l k≠aA l (k - 1):=λq=>c6<|iT.2 (by rw [show (((k:Nat):Int) - (1:Int)).toNat=k - 1 by omega]; exact q)
  refine dH<|n5 _ _ (.done (fO<|aI t5<|cD J<|aE ?_))
  refine p13 _ _ _ ?_ ⟨(k+1),J,t0,t1,(bG (cS<|k+1) JR),hF,h3,h202,?_,?_,?_⟩
  . omega
  . omega
  . omega
  . intro i i1 i2
    by_cases e:i=k
    . subst e; exact d1
    . exact hc i i1 OM
 refine aS<|p33 _ _ _<|x2 _ _ (.done (aU<|aI t0<|aE<|bE<|fL (R:=λT H=>T 4=(V.ms 202 v2 0 len)/\(∀ j,j∉[202]->H j=Hi j)/\H 3=(bk v3 91 1 [[(V.fn 143 [] [])]])/\H 202=(bz v2 54 1<|List.map cL l)/\True) ⟨(aM<|V.ms 202 v2 0 len),hF,h3,h202,trivial⟩ ?_))
 intro T H ⟨t4,hF,h3,h202,_⟩;have hall:=aEh (l:=l) (λi i1 i2=>hc i i1 OM);have fh:=dK.fin<|dK.put (B:=(bz v2 54 1<|List.map cL (fA l l.length)++List.replicate (l.length - (fA l l.length).length) [V.nilsl])) (dK.start hF) h202<|jN.eq (by (rw [hall]; simp; done))
 exact lU t4 fh<|fD.trans_eq (fD.same fh _) (by (rw [hall,hn]; done))
theorem aLQ (l:List (List Int)) (v2 v3 len:Nat) (Hi:aT) (h202:Hi 202=(bz v2 54 1 (List.map cL l))) (h3:Hi 3=(bk v3 91 1 [[(V.fn 108 [] [])]])) (hn:len=l.length) (hl:l.length<=1073741824):fH Tryz.prog 159 [(V.ms 202 v2 0 len),(V.fn 160 [] [(V.mp 3 v3 0 0)])] Hi (V.ms 202 v2 0 ((fA l l.length).length)) (cU Hi 202 (bz v2 54 1 (List.map cL (fA l l.length)++List.replicate (l.length - (fA l l.length).length) [V.nilsl]))):=by
 refine' eK [] [] (k0:=400) Tryz.func159 ?e λhB=>?_
 case e=>conv=>lhs; cbv
 dsimp only;refine aU<|aE<|aO<|aP<|eS J h202 SI<|bY J J<|cE ?_
 refine aG J (λc1=>?_) λc1=>?_
 . 
  refine aO<|aP<|aE<|aN<|fL (R:=λT H=>T 4=(V.ms 202 v2 0 len)/\(∀ j,j∉[202]->H j=Hi j)/\H 3=(bk v3 91 1 [[(V.fn 108 [] [])]])/\H 202=(bz v2 54 1<|List.map cL l)/\True) ⟨(aM<|V.ms 202 v2 0 len),(λ_ _=>J),h3,h202,trivial⟩ ?_
  intro T H ⟨t4,hF,h3,h202,_⟩;have hall:=aEh (l:=l) (λi i1 i2=>by omega);have fh:=dK.fin<|dK.put (B:=(bz v2 54 1<|List.map cL (fA l l.length)++List.replicate (l.length - (fA l l.length).length) [V.nilsl])) (dK.start hF) h202<|jN.eq (by (rw [hall]; simp; done))
  exact lU t4 fh<|fD.trans_eq (fD.same fh _) (by (rw [hall,hn]; done))
 refine aB<|aO<|aE (aF λQ2 n2 x2 y2 z2=>?_)
 refine cF (λmm T H=> ∃ (k:Nat),mm=l.length - k/\T 0=(V.ms 202 v2 0 len)/\T 1=(V.fn 160 [] [(V.mp 3 v3 0 0)])/\T 5=(iV ((k:Nat):Int))/\(∀ j,j∉[202]->H j=Hi j)/\H 3=(bk v3 91 1 [[(V.fn 108 [] [])]])/\H 202=(bz v2 54 1<|List.map cL l)/\(1<=k)/\(k<=l.length)/\(∀ i,1<=i->i < k->aA l i≠aA l (i - 1))) ?_ ?_
 . 
  refine ⟨_,1,J,J,J,(bG (aM<|iV 1) J),(λ_ _=>J),h3,h202,?_,?_,?_⟩
  . omega
  . omega
  . intro i h1 h2; omega
 intro mm T H ⟨k,hmm,t0,t1,t5,hF,h3,h202,h1,hk,hc⟩ Q3 p13 p23 p33;refine aO<|aI t5<|aI t0<|eS J h202 SI<|bY J J<|cE ?_
 refine aG J (λc4=>?_) λc4=>?_
 . 
  refine aB (aF λQ5 n5 x5 y5 z5=>(aU<|aI t1<|aI t0<|aI t5<|dG (i:=k) (aM<|V.ms 202 v2 0 len) (cS k) h202 (fJ OM) J OM<|cG (v:=(aD<|aA l k)) J h202 (dU OM JR)<|aI t0<|aI t5<|lS J J OM OM<|dS (i:=(((k:Nat):Int) - (1:Int))) (aM<|V.ms 202 v2 0 len) (aM<|iV<|((k:Nat):Int) - (1:Int)) h202 (fJ OM) J OM OM<|cG (v:=(aD<|aA l<|(((k:Nat):Int) - (1:Int)).toNat)) J h202 (dU OM JR)<|iP (aM<|V.fn 160 [] [(V.mp 3 v3 0 0)]) (bI (aM<|aD<|aA l k)<|bI (aM<|aD<|aA l<|(((k:Nat):Int) - (1:Int)).toNat) dR) (aCP (aA l k)<|aA l<|(((k:Nat):Int) - (1:Int)).toNat) (cO (dN 6 _ (by simp [-List.map_take,-List.map_drop,-List.map_append,-List.map_reverse]))<|cO (dN 6 _ (by simp [-List.map_take,-List.map_drop,-List.map_append,-List.map_reverse]))<|cO (by simp [fR,Blk.own,h3,h202]) J) (by simp [-List.map_take,-List.map_drop,-List.map_append,-List.map_reverse]) (Or.inr J)<|cE ?_));refine gE J (λc6=>?_) λc6=>?_
  . 
   have d1:aA l k=aA l (k - 1):=by have q:=fI.1 c6; rwa [show (((k:Nat):Int) - (1:Int)).toNat=k - 1 by omega] at q
   have hd:=aG2 h1 OM hc d1;refine aU<|aI t0<|aI t5<|kL (n:=k) (aM<|V.ms 202 v2 0 len) (cS k) h202 (fJ OM) J OM<|aE<|aO<|aE (aF λQ7 n7 x7 y7 z7=>?_)
   refine cF (λmm T H=> ∃ (j:Nat),mm=l.length - (k+j)/\T 0=(V.ms 202 v2 0 len)/\T 1=(V.fn 160 [] [(V.mp 3 v3 0 0)])/\T 5=(iV (((fA l<|k+j).length:Nat):Int))/\T 6=(V.ms 202 v2 (0+k)<|len - k)/\T 7=(iV ((j:Nat):Int))/\(∀ j,j∉[202]->H j=Hi j)/\H 3=(bk v3 91 1 [[(V.fn 108 [] [])]])/\H 202=(bz v2 54 1<|List.map cL<|nQ l<|k+j)/\(k+j<=l.length)/\(1<=j)/\((fA l<|k+j).length < k+j)) ?_ ?_
   . 
    refine ⟨_,1,J,t0,t1,(bG t5 (by (rw [hd.1]; done))),(bG (aM<|V.ms 202 v2 (0+k)<|len - k) JR),(bG (aM<|iV 1) J),hF,h3,(bG h202 (by (rw [hd.2]; done))),?_,?_,?_⟩
    . omega
    . omega
    . rw [hd.1]; omega
   intro mm T H ⟨j,hmm,t0,t1,t5,t6,t7,hF,h3,h202,hj,hj1,hlt⟩ Q8 p18 p28 p38;have q1:=aJt (L:=l) (j:=k+j) hj;have q5:=aP2 hlt hj1;have q6:=aG5 (l:=l) (j:=k+j) OM;refine aO<|aI t7<|aI t6<|eS J h202 SI<|bY J J<|cE ?_
   refine aG J (λc9=>?_) λc9=>?_
   . 
    refine aB (aF λQ10 n10 x10 y10 z10=>(aU<|aI t1<|aI t6<|aI t7<|pE (i:=j) (aM<|V.ms 202 v2 (0+k)<|len - k) (cS j) h202 (fJ OM) J OM<|cG (v:=(aD<|aA (nQ l<|k+j)<|(0+k)+j)) J h202 (dU OM JR)<|aI t6<|aI t7<|lS J J OM OM<|aAr (i:=(((j:Nat):Int) - (1:Int))) (aM<|V.ms 202 v2 (0+k)<|len - k) (aM<|iV<|((j:Nat):Int) - (1:Int)) h202 (fJ OM) J OM OM<|cG (v:=(aD<|aA (nQ l<|k+j)<|(0+k)+(((j:Nat):Int) - (1:Int)).toNat)) J h202 (dU OM JR)<|iP (aM<|V.fn 160 [] [(V.mp 3 v3 0 0)]) (bI (aM<|aD<|aA (nQ l<|k+j)<|(0+k)+j)<|bI (aM<|aD<|aA (nQ l<|k+j)<|(0+k)+(((j:Nat):Int) - (1:Int)).toNat) dR) (aCP (aA (nQ l<|k+j)<|(0+k)+j)<|aA (nQ l<|k+j)<|(0+k)+(((j:Nat):Int) - (1:Int)).toNat) (cO (dN 6 _ (by simp [-List.map_take,-List.map_drop,-List.map_append,-List.map_reverse]))<|cO (dN 6 _ (by simp [-List.map_take,-List.map_drop,-List.map_append,-List.map_reverse]))<|cO (by simp [fR,Blk.own,h3,h202]) J) (by simp [-List.map_take,-List.map_drop,-List.map_append,-List.map_reverse]) (Or.inr J)<|uQ J<|cE ?_));refine gE J (λc11=>?_) λc11=>?_
    . 
     have d5:aA l (k+j)≠aA l (k+j - 1):=λq=>c11<|fI.2 (by rw [q5.1,q5.2]; exact q)
     refine aU<|aI t0<|aI t5<|aI t6<|aI t7<|pE (i:=j) (aM<|V.ms 202 v2 (0+k)<|len - k) (cS j) h202 (fJ OM) J OM<|cG (v:=(aD<|aA (nQ l<|k+j)<|(0+k)+j)) J h202 (dU OM JR)<|dG (i:=((fA l<|k+j).length)) (aM<|V.ms 202 v2 0 len) (cS<|(fA l<|k+j).length) h202 (fJ OM) J OM<|cZ (vs:=[(aD<|aA (nQ l<|k+j)<|(0+k)+j)]) (B':=(bz v2 54 1<|List.map cL<|(nQ l<|k+j).set ((fA l<|k+j).length) (aA (nQ l<|k+j)<|(0+k)+j))) J J J h202 (jM (x:=(aA (nQ l<|k+j)<|(0+k)+j)) (i:=((fA l<|k+j).length)) OM J J J J)<|cE<|fO<|aI t5<|cD J<|aE<|n10 _ _ ?_
     refine .done (fO<|aI t7<|cD J<|aE ?_);refine p18 _ _ _ ?_ ⟨(j+1),J,t0,t1,(bG (cS<|((fA l<|k+j).length)+1) (by (show _=iV (((fA l<|(k+j)+1).length:Nat):Int); rw [jC (.inr d5),List.length_append]; rfl))),(bG t6 JR),(bG (cS<|j+1) JR),(bD hF DE),h3,(bG (@J Blk<|bz v2 54 1<|List.map cL<|(nQ l<|k+j).set ((fA l<|k+j).length) (aA (nQ l<|k+j)<|(0+k)+j)) (by (rw [q5.1,aGH (show k+j < l.length by omega) (.inr d5)]; rfl))),?_,?_,?_⟩
     . omega
     . omega
     . omega
     . first|(show (fA l<|(k+j)+1).length < (k+j)+1; rw [jC (.inr d5),List.length_append]; simp; omega)|(show (fA l<|(k+j)+1).length < (k+j)+1; rw [jT (by rintro (q|q); omega; exact q d5)]; omega)
    have d5:aA l (k+j)=aA l (k+j - 1):=by have q:=fI.1<|Decidable.not_not.1 c11; rwa [q5.1,q5.2] at q
    refine dH<|n10 _ _ (.done (fO<|aI t7<|cD J<|aE ?_))
    refine p18 _ _ _ ?_ ⟨(j+1),rfl,t0,t1,(bG t5 (by (show _=iV (((fA l<|(k+j)+1).length:Nat):Int); rw [jT (by rintro (q|q); omega; exact q d5)]; done))),(bG t6 JR),(bG (cS<|j+1) JR),hF,h3,(bG h202 (by (show _=(⟨_,_,_,_,_,List.map cL (nQ l<|(k+j)+1)⟩:Blk); rw [aGG (by rintro (q|q); omega; exact q d5)]; done))),?_,?_,?_⟩
    . omega
    . omega
    . omega
    . first|(show (fA l<|(k+j)+1).length < (k+j)+1; rw [jC (.inr d5),List.length_append]; simp; omega)|(show (fA l<|(k+j)+1).length < (k+j)+1; rw [jT (by rintro (q|q); omega; exact q d5)]; omega)
   refine aS<|p38 _ _ _<|x7 _ _ (.done (aU<|aI t0<|aI t5<|kL (n:=((fA l<|k+j).length)) (aM<|V.ms 202 v2 0 len) (cS<|(fA l<|k+j).length) h202 (fJ OM) J OM<|aMA (m:=((fA l<|k+j).length)) (n:=(len - ((fA l<|k+j).length))) (f:=cL) (l:=(nQ l<|k+j)) (bG (aM<|V.ms 202 v2 (0+((fA l<|k+j).length))<|len - ((fA l<|k+j).length))<|congrArg (λn=>V.ms 202 v2 n<|len - ((fA l<|k+j).length))<|Nat.zero_add _) h202 J DE J OM OM<|R_r<|aI t0<|aI t5<|qU (n:=((fA l<|k+j).length)) (aM<|V.ms 202 v2 0 len) (cS<|(fA l<|k+j).length) (@J Blk<|bz v2 54 1<|List.map cL (List.take ((fA l<|k+j).length)<|nQ l<|k+j)++List.replicate (len - ((fA l<|k+j).length)) [V.nilsl]) (pU (by (simp only [List.length_take]; omega))) J OM<|aE ?_))
   refine bE<|y5 _ _<|p23 _ _<|y2 _ _<|fL (R:=λT H=>T 4=(V.ms 202 v2 0<|(fA l<|k+j).length)/\(∀ j,j∉[202]->H j=Hi j)/\H 3=(bk v3 91 1 [[(V.fn 108 [] [])]])/\H 202=(bz v2 54 1<|List.map cL (List.take ((fA l<|k+j).length)<|nQ l<|k+j)++List.replicate (len - ((fA l<|k+j).length)) [V.nilsl])/\True) ⟨(aM<|V.ms 202 v2 0<|(fA l<|k+j).length),(bD hF DE),h3,J,trivial⟩ ?_
   intro T H ⟨t4,hF,h3,h202,_⟩;skip;have fh:=dK.fin<|dK.put (B:=(bz v2 54 1<|List.map cL (fA l l.length)++List.replicate (l.length - (fA l l.length).length) [V.nilsl])) (dK.start hF) h202<|jN.eq (by (rw [aIm (show l.length<=k+j by omega) hj,show k+j=l.length by omega,hn]; done))
   exact lU t4 fh<|fD.trans_eq (fD.same fh _) (by (rw [show k+j=l.length by omega]; done))
  have d1:aA l k≠aA l (k - 1):=λq=>c6<|fI.2 (by rw [show (((k:Nat):Int) - (1:Int)).toNat=k - 1 by omega]; exact q)
  refine dH<|n5 _ _ (.done (fO<|aI t5<|cD J<|aE ?_))
  refine p13 _ _ _ ?_ ⟨(k+1),J,t0,t1,(bG (cS<|k+1) JR),hF,h3,h202,?_,?_,?_⟩
  . omega
  . omega
  . omega
  . intro i i1 i2
    by_cases e:i=k
    . subst e; exact d1
    . exact hc i i1 OM
 refine aS<|p33 _ _ _<|x2 _ _ (.done (aU<|aI t0<|aE<|bE<|fL (R:=λT H=>T 4=(V.ms 202 v2 0 len)/\(∀ j,j∉[202]->H j=Hi j)/\H 3=(bk v3 91 1 [[(V.fn 108 [] [])]])/\H 202=(bz v2 54 1<|List.map cL l)/\True) ⟨(aM<|V.ms 202 v2 0 len),hF,h3,h202,trivial⟩ ?_))
 intro T H ⟨t4,hF,h3,h202,_⟩;have hall:=aEh (l:=l) (λi i1 i2=>hc i i1 OM);have fh:=dK.fin<|dK.put (B:=(bz v2 54 1<|List.map cL (fA l l.length)++List.replicate (l.length - (fA l l.length).length) [V.nilsl])) (dK.start hF) h202<|jN.eq (by (rw [hall]; simp; done))
 exact lU t4 fh<|fD.trans_eq (fD.same fh _) (by (rw [hall,hn]; done))
end
section
open Go Go.Sort Go.Proofs Go.Shelf
theorem R.pure_same {x y:Cx} {v:V} {c:Value} (h:R x v c) (hp:v.pure=true) (hw: ∀ b,x.Z b->y.w.heap[b]?=x.w.heap[b]?) (hz: ∀ b,x.Z b->y.Z b):R y v c:=by
  have keep: ∀ a:Addr,x.Z a.block-> ∀ n,y.w.cell? (a.add n)=x.w.cell? (a.add n):=λa ha n=>by
    refine yA ?_;rw [iQ]; exact hw _ ha
  induction h with
  |int k n=>exact .int k n
  |bool b=>exact .bool b
  |str s=>exact .str s
  |nilsl=>exact .nilsl
  |slnil=>exact .slnil
  | sl rows a cap sz cs hc hm hzz hsz hcell _ ih =>
    simp only [V.pure] at hp;refine .sl rows a cap sz cs hc hm (λhne=>hz _<|hzz hne) hsz (λr row j v hr hj=>by rw [keep a (hzz (by intro e; subst e; simp at hr))]; exact hcell r row j v hr hj) λr row j v hr hj=>ih r row j v hr hj ?_;exact fN.1 (kP.1 hp row<|List.mem_of_getElem? hr) v<|List.mem_of_getElem? hj
  |ms=>simp [V.pure] at hp
  | pp cells a cs hzz hcell _ ih =>
    simp only [V.pure] at hp;exact .pp cells a cs (λhne=>hz _<|hzz hne) (λj v hj=>by rw [keep a (hzz (by intro e; subst e; simp at hj))]; exact hcell j v hj) λj v hj=>ih j v hj<|fN.1 hp v<|List.mem_of_getElem? hj
  |nilp=>exact .nilp
  |mp=>simp [V.pure] at hp
  | agg cells cs hs _ ih =>
    simp only [V.pure] at hp;exact .agg cells cs hs λj v hj=>ih j v hj<|fN.1 hp v<|List.mem_of_getElem? hj
  | tup vs cs hs _ ih =>
    simp only [V.pure] at hp;exact .tup vs cs hs λj v hj=>ih j v hj<|fN.1 hp v<|List.mem_of_getElem? hj
  | fn f first caps fs cs hfs hcs _ _ ih1 ih2 =>
    simp only [V.pure,Bool.and_eq_true] at hp;exact .fn f first caps fs cs hfs hcs (λj v hj=>ih1 j v hj<|fN.1 hp.1 v<|List.mem_of_getElem? hj) λj v hj=>ih2 j v hj<|fN.1 hp.2 v<|List.mem_of_getElem? hj
  |raw c hh=>exact .raw c hh
  |mm=>simp [V.pure] at hp
theorem aJ0 {x:Cx} (hx:Inv x) (os:Array Obj):let y:Cx:={x with w:=Go.Sort.grow x.w os}; Inv y/\Frame x y:=by
  intro y
  have hp: ∀ b,b < x.w.heap.size->y.w.heap[b]?=x.w.heap[b]?:=λb hb=>by
    show (x.w.heap++os)[b]?=_;rw [Array.getElem?_append,if_pos hb]
  have hs:x.w.heap.size<=y.w.heap.size:=by show _<=(x.w.heap++os).size; simp
  have hf:Frame x y:=by
    refine ⟨J,J,J,hs,λb hb _=>hp b hb,λ_ h=>h,λb h=>.inl h,λid=>⟨Nat.le_refl _,λh _=>⟨h,J,J,λ_=>J,λh=>⟨J,?_⟩⟩⟩,λ_ h=>.inl ⟨h,J⟩,Nat.le_refl _,λ_ _ _=>J⟩;unfold fE; rw [hp _ (hx.lt h)]
  refine ⟨⟨λb h=>Nat.lt_of_lt_of_le (hx.zlt b h) hs,hx.zown,λid hl=>?_,hx.inj,hx.tab_of hf⟩,hf⟩;obtain ⟨cc,h1,h2,h3,h4⟩:=hx.blk id hl;exact ⟨cc,by rw [hp _ (hx.lt hl)]; exact h1,h2,h3,λr row j v hr hj=>(h4 r row j v hr hj).frame hx hf⟩
def aGa (P:Program) (f:Nat):Prop:= ∀ (p:Option Addr) (cap:Nat) (fv:Value) (w:World),Calls P f #[.slice p 0 cap,fv] w λe w'=>e=.returned (.tuple #[])/\w'=w
theorem aA9 {P:Program} {g:Nat} (h:fS P g): ∀ args w,(callFunc g args).run P w=.ok (.enter g args) w:=by
  obtain ⟨fn,h1,h2,h3⟩:=h;obtain ⟨c,hc⟩:=Option.isSome_iff_exists.1 h2;exact enters_of h1 h3 hc
theorem aCy {z y:Cx} (hf:Frame z y) (hno: ∀ id,(z.H id).own=false): ∃ q os,y.w=grow (z.w.drewN q) os:=by
  refine ⟨y.w.drawn - z.w.drawn,y.w.heap.extract z.w.heap.size y.w.heap.size,?_⟩;have e1:=hf.os; have e2:=hf.tape; have e3:=hf.output; have e4:=hf.drawn; have e5:=hf.size
  have e6:y.w.heap=z.w.heap++y.w.heap.extract z.w.heap.size y.w.heap.size:=by
    refine Array.ext_getElem? λb=>?_;rw [Array.getElem?_append];split
    . rename_i hb
      exact hf.keep b hb λid h=>by rw [hno id] at h; cases h
    . rename_i hb
      rw [Array.getElem?_extract];by_cases h:b < y.w.heap.size
      . rw [if_pos OM]; congr 1; omega
      . rw [if_neg OM,Array.getElem?_eq_none OM]
  have e7:y.w.drawn=z.w.drawn+(y.w.drawn - z.w.drawn):=OM
  unfold grow World.drewN;cases hy:y.w with
  | mk heap tape drawn os output =>
    rw [hy] at e1 e2 e3 e6 e7;simp only at e1 e2 e3 e6 e7 ⊢;rw [<- e6,<- e7,e1,e2,e3]
theorem aG9 {α:Type} [Inhabited α] (d:Array α) (i:Nat) (h:i < d.size):d[i]! =aA d.toList i:=by
  rw [getElem!_pos d i h,<- bL (by simpa using h)]; rfl
end
section
open Go Go.Proofs Go.Shelf Go.Sort Go.Lib
def aDj (P : Program) (f : Nat) : Prop := ∀ {α : Type} [Inhabited α] (enc : α -> Value) (_ : OneCell enc) (cf : α -> α -> Int) (_ : SWO (ltOf cf)) (g : Nat) (cb : Array Value) (blk off cap : Nat) (d : Array α) (w : World)
    (_: ∀ args w,(callFunc g args).run P w=.ok (.enter g args) w) (_:CmpLays1 P g cb enc cf blk off d.size w) (_:Holds enc w blk off d) (_:blk < w.heap.size) (_:d.size < 4611686018427387904),
    Calls P f #[.slice (some ⟨blk,off,none⟩) d.size cap,.func (.func g) #[] cb] w λe w'=>
      e=.returned (.tuple #[])/\ ∃ d' n os,PermIn 0 d.size d d'/\SortedIn (ltOf cf) 0 d.size d'/\w'=sortWorld enc w blk off n d' os
section
variable {P:Program} {α:Type} [Inhabited α] {enc:α->Value} {w:World} {blk off m:Nat} {dk:Array α} {os:Array Obj}
theorem rJ {b:Nat} (hb:b < w.heap.size) (hne:b≠blk):(sortWorld enc w blk off m dk os).heap[b]?=w.heap[b]?:=by
  unfold sortWorld grow putRow mapBlock Sort.ahead
  grind
theorem aBb:w.heap.size<=(sortWorld enc w blk off m dk os).heap.size:=by
  unfold sortWorld grow putRow mapBlock Sort.ahead;simp
theorem aC0 {cc:Array Value} {ty:TypeId} (h:w.heap[blk]?=some (.cells cc ty (0,0))):
    sortWorld enc w blk off m dk os=grow {w.setRow blk (putCells enc off dk cc) with drawn:=w.drawn+m} os:=by
  unfold sortWorld putRow mapBlock Sort.ahead World.setRow;congr 2
  grind [onCells]
end
theorem zZ {P:Program} {f g:Nat} (hS:aDj P f) (hN:aGa P f) (hcf:fS P f) (hcg:fS P g) {T:Type} [Inhabited T] {f0:T->V} {l:List T} {cmp:T->T->Int}
    (hO:SWO λa b=>decide (cmp a b < 0)) (hT: ∀ a∈l,∀ b∈l,¬cmp a b < 0-> ¬cmp b a < 0->a=b)
    (hc: ∀ a∈l,∀ b∈l,bJ P g [f0 a,f0 b] (iV<|cmp a b)) (hp: ∀ a∈l,(f0 a).pure=true) (h1: ∀ a∈l,(f0 a).one=true)
    (hl:l.length < 4611686018427387904) {id ver ty:Nat} {lz:Bool} {H:aT} (hH:H id=⟨ver,true,lz,ty,1,l.map λa=>[f0 a]⟩):
    fH P f [.ms id ver 0 l.length,.fn g [] []] H (.tup []) (cU H id ⟨ver,true,lz,ty,1,(srt cmp l).map λa=>[f0 a]⟩):=by
  refine ⟨hcf,λx cs hxH hx hr=>?_⟩;subst hxH
  obtain ⟨c0,c1,rfl⟩: ∃ c0 c1,cs=[c0,c1]:=by
    have:=hr.1
    match cs with
    |[a,b]=>exact ⟨a,b,rfl⟩
    |[]=>simp at this
    |[_]=>simp at this
    |_::_::_::_=>simp at this
  have r0:R x (.ms id ver 0 l.length) c0:=hr.2 0 _ J;have r1:R x (.fn g [] []) c1:=hr.2 1 _ J;cases r1 with
  |fn _ _ _ fs cb hfs hcs _ _=>
  have hfs':fs=#[]:=Array.eq_empty_of_size_eq_zero (by simpa using hfs);have hcs':cb=#[]:=Array.eq_empty_of_size_eq_zero (by simpa using hcs);subst hfs'; subst hcs';cases r0 with
  |ms _ _ _ _ b n cap hv hh hm=>
  obtain ⟨e1,e2,e3,e4,e5,e6⟩:=hh (by rw [hH]) (by rw [hH]);subst e1;by_cases hne:l=[]
  . subst hne
    refine (hN b cap (.func (.func g) #[] #[]) x.w).mono λe w' h=>?_;obtain ⟨rfl,rfl⟩:=h;refine ⟨_,x,J,J,?_,hx,.tup [] #[] J (λj v hj=>by simp at hj),Frame.refl x⟩;funext j;by_cases e:j=id
    . subst e; rw [aR,hH]; rfl
    . rw [bT _ _ e]
  have hpos:0 < l.length:=List.length_pos_iff.2 hne
  have ho:(x.H id).own=true:=by
    grind
  obtain ⟨e7,_⟩:=e5 ho;rw [hH] at e7;simp only [Nat.zero_mul] at e7;subst e7;obtain ⟨cc,b1,b2,b3,b4⟩:=hx.cel id ho<|hm (by rw [hH]) (by rw [hH])
  simp only [hH] at b1 b2 b3 b4;rw [List.length_map,Nat.mul_one] at b3
  let A:Type:={i:Nat // i < l.length}
  haveI:Inhabited A:=⟨⟨0,hpos⟩⟩
  let enc:A->Value:=λi=>cc.getD i.1 undef
  let cf:A->A->Int:=λa b=>cmp (aA l a.1)<|aA l b.1
  let d:Array A:=Array.ofFn λi:Fin l.length=>(⟨i.1,i.2⟩:A)
  have hdn:d.size=l.length:=by simp [d]
  have hdi: ∀ i (h:i < l.length),d[i]! =⟨i,h⟩:=λi h=>by
    rw [getElem!_pos d i (by rw [hdn]; exact h)]; simp [d]
  have hrow: ∀ i,i < l.length->(l.map λa=>[f0 a])[i]?=some [f0 (aA l i)]:=λi hi=>by rw [List.getElem?_map,xA hi]; rfl
  have hRx: ∀ a:A,R x (f0<|aA l a.1) (cc.getD a.1 undef):=λa=>by
    have:=b4 a.1 _ 0 _ (hrow a.1 a.2) J
    grind
  have hO':SWO (ltOf cf):=⟨λa=>hO.irrefl _,λa b c=>hO.trans _ _ _,λa b c=>hO.ntrans _ _ _⟩
  have hcmp:CmpLays1 P g #[] enc cf (x.σ id) 0 d.size x.w:=by
    intro m os dk hdk a b
    let W:=sortWorld enc x.w (x.σ id) 0 m dk os
    let z:Cx:=start {x with w:=W} x.Z
    have hz:Inv z:=uB (λb hb=>Nat.lt_of_lt_of_le (hx.zlt b hb) aBb) λp hp=>⟨(hx.tab p hp).1,by
      obtain ⟨q1,q2⟩:=hx.tab p hp;show ∃ ty m,W.heap[p.1]?=_;rw [show W.heap[p.1]?=x.w.heap[p.1]? from rJ (hx.zlt _ q1) λe=>hx.zown _ id q1 ho e.symm]; exact q2⟩
    have hag: ∀ a:A,R z (f0<|aA l a.1) (enc a):=λa=>by
      refine (hRx a).pure_same (y:=z) (hp _<|bC a.2) (λb hb=>?_) λ_ h=>h;exact rJ (hx.zlt b hb) λe=>hx.zown b id hb ho e.symm
    have hrl:RL z [f0 (aA l a.1),f0 (aA l b.1)] [enc a,enc b]:=by
      refine ⟨J,λj v hj=>?_⟩
      match j,hj with
      |0,hj=>grind
      |1,hj=>grind
    refine ((hc _ (bC a.2) _ (bC b.2) H0).2 z _ J hz hrl).mono λe w' h=>?_;obtain ⟨c,y,rfl,rfl,_,_,h5,h6⟩:=h;cases h5;obtain ⟨q,os',hq⟩:=aCy h6 λid=>J
    exact ⟨J,q,os',hq⟩
  have hsz:d.size < 4611686018427387904:=by rw [hdn]; exact hl
  have hH':Holds enc x.w (x.σ id) 0 d:=by
    intro j hj
    grind [lL,World.frozen?]
  have hcall:=hS enc (λa=>(hRx a).one (h1 _<|bC a.2)) cf hO' g #[] (x.σ id) 0 cap d x.w (aA9 hcg) hcmp hH' (hx.lt ho) hsz;rw [hdn] at hcall;refine hcall.mono λe w' h=>?_;obtain ⟨rfl,d',n',os',hP,hSo,rfl⟩:=h;obtain ⟨p1,_,p3⟩:=hP;rw [hdn] at p1;have x1:d'.extract 0 l.length=d':=by rw [<- p1]; simp
  have x2:d.extract 0 l.length=d:=by rw [<- hdn]; simp
  rw [x1,x2] at p3
  have hmap:d.toList.map (λa:A=>aA l a.1)=l:=by
    refine fU (by simp [hdn]) λj hj=>?_;have hj':j < l.length:=by simpa [hdn] using hj
    rw [lO (by simpa using hj),<- aG9 d j (by rw [hdn]; exact hj'),hdi j hj']
  have hl':d'.toList.map (λa:A=>aA l a.1)=srt cmp l:=by
    have hperm:(d'.toList.map (λa:A=>aA l a.1)).Perm l:=by
      grind
    refine aA2 (le:=λa b=> ¬cmp b a < 0) (λa ha b hb h1 h2=>hT a (hperm.mem_iff.1 ha) b (hperm.mem_iff.1 hb) h2 h1) (hperm.trans (uS cmp l).symm) ?_<|sG hO l
    rw [List.pairwise_map,List.pairwise_iff_getElem];intro i j hi hj hij;have h:=hSo i j (Nat.zero_le _) hij (by rw [<- p1]; simpa using hj)
    grind [ltOf]
  let cc':=putCells enc 0 d' cc
  have hcs:cc'.size=cc.size:=by simp [cc',putCells]
  have hg: ∀ r,r < l.length-> ∀ (hr:r < d'.size),cc'.getD r undef=cc.getD (d'[r]'hr).1 undef:=by
    intro r hr hr'
    have e:cc'[r]?=some (enc d'[r]!):=by
      grind [putCells]
    rw [Array.getD_eq_getD_getElem?,e,getElem!_pos d' r hr']
    rfl
  have hrows: ∀ (r:Nat) (row:List V) (j:Nat) (v:V),((srt cmp l).map λa=>[f0 a])[r]?=some row->row[j]?=some v->R x v (cc'.getD (r*1+j) undef):=by
    intro r row j v hr hj;rw [<- hl',List.map_map,List.getElem?_map] at hr;obtain ⟨a,ha,rfl⟩:=map_some hr;have har:=List.getElem?_eq_some_iff.1 ha;obtain ⟨hlt,hae⟩:=har;have hlt':r < d'.size:=by simpa using hlt
    have hj0:j=0:=by
      grind
    subst hj0
    grind
  have st:=lN hx id ho cc cc' (by rw [hH]; exact b1) hcs (x.H id).ver ((srt cmp l).map λa=>[f0 a]) (Nat.le_refl _) (λ_=>by rw [hH]; simp [oF]) (by
      rw [hH];have:(srt cmp l).length=l.length:=by simp [oF]
      cases hq:srt cmp l with
      |nil=>rw [hq] at this; simp at this; omega
      |cons a q=>simp) (λr hr=>by
      rw [hH];obtain ⟨a,_,rfl⟩:=List.mem_map.1 hr
      rfl) (by simp_all [oF]) (by simp_all)
  simp only [hH] at st;obtain ⟨i1,f1⟩:=st;obtain ⟨i2,f2⟩:=jH i1 (x.w.drawn+n')<|Nat.le_add_right _ _
  obtain ⟨i3,f3⟩:=aJ0 i2 os';refine ⟨.tuple #[],_,J,?_,?_,i3,.tup [] #[] J (λj v hj=>by simp at hj),(f1.trans f2).trans f3⟩
  . rw [aC0 b1]
  . rfl
end
section
open Go Go.Proofs Go.Shelf Go.Sort
def aG7:Go.Shelf.Ren:=⟨fun|6=>158|15=>189|14=>188|28=>209|29=>210|20=>201|21=>202|22=>203|23=>204|24=>205|25=>206|26=>207|27=>208|46=>213|47=>214|48=>215|49=>216|50=>217|57=>219|n=>n,fun|22=>22|24=>54|25=>91|3=>3|39=>238|0=>0|53=>257|55=>259|4=>4|46=>251|45=>250|50=>154|5=>5|9=>9|66=>261|70=>265|76=>267|77=>240|n=>n,λn=>n⟩
theorem aBA:SlLaysF.n6 Tryz.prog aG7:={
  mixed:=(by kernel_rfl),
  f6:=⟨Tryz.f158.name,DE,Tryz.func158.trans (congrArg some (by kernel_rfl))⟩,
  f14:=⟨Tryz.f188.name,DE,Tryz.func188.trans (congrArg some (by kernel_rfl))⟩,
  f15:=Tryz.func189.trans (congrArg some (by kernel_rfl)),
  f20:=⟨Tryz.f201.name,DE,Tryz.func201.trans (congrArg some (by kernel_rfl))⟩,
  f21:=⟨Tryz.f202.name,DE,Tryz.func202.trans (congrArg some (by kernel_rfl))⟩,
  f22:=⟨Tryz.f203.name,DE,Tryz.func203.trans (congrArg some (by kernel_rfl))⟩,
  f23:=⟨Tryz.f204.name,DE,Tryz.func204.trans (congrArg some (by kernel_rfl))⟩,
  f24:=⟨Tryz.f205.name,DE,Tryz.func205.trans (congrArg some (by kernel_rfl))⟩,
  f25:=⟨Tryz.f206.name,DE,Tryz.func206.trans (congrArg some (by kernel_rfl))⟩,
  f26:=⟨Tryz.f207.name,DE,Tryz.func207.trans (congrArg some (by kernel_rfl))⟩,
  f27:=⟨Tryz.f208.name,DE,Tryz.func208.trans (congrArg some (by kernel_rfl))⟩,
  f28:=Tryz.func209.trans (congrArg some (by kernel_rfl)),
  f29:=Tryz.func210.trans (congrArg some (by kernel_rfl)),
  f46:=⟨Tryz.f213.name,DE,Tryz.func213.trans (congrArg some (by kernel_rfl))⟩,
  f47:=Tryz.func214.trans (congrArg some (by kernel_rfl)),
  f48:=Tryz.func215.trans (congrArg some (by kernel_rfl)),
  f49:=⟨Tryz.f216.name,DE,Tryz.func216.trans (congrArg some (by kernel_rfl))⟩,
  f50:=⟨Tryz.f217.name,DE,Tryz.func217.trans (congrArg some (by kernel_rfl))⟩,
  f57:=⟨Tryz.f219.name,DE,Tryz.func219.trans (congrArg some (by kernel_rfl))⟩,
  t0:=Tryz.underlying0,
  a0:=Tryz.isAgg0,
  z0:=Tryz.sizeOf0,
  v0:=Tryz.zeroValue0,
  t3:=Tryz.underlying3,
  a3:=Tryz.isAgg3,
  z3:=Tryz.sizeOf3,
  v3:=Tryz.zeroValue3,
  t4:=Tryz.underlying4,
  a4:=Tryz.isAgg4,
  z4:=Tryz.sizeOf4,
  v4:=Tryz.zeroValue4,
  t5:=Tryz.underlying5,
  a5:=Tryz.isAgg5,
  z5:=Tryz.sizeOf5,
  v5:=Tryz.zeroValue5,
  t9:=Tryz.underlying9,
  a9:=Tryz.isAgg9,
  z9:=Tryz.sizeOf9,
  v9:=Tryz.zeroValue9,
  t22:=Tryz.underlying22,
  a22:=Tryz.isAgg22,
  z22:=Tryz.sizeOf22,
  v22:=Tryz.zeroValue22,
  a24:=Tryz.isAgg54,
  z24:=Tryz.sizeOf54,
  t25:=Tryz.underlying91,
  a25:=Tryz.isAgg91,
  z25:=Tryz.sizeOf91,
  v25:=Tryz.zeroValue91,
  t39:=Tryz.underlying238,
  a39:=Tryz.isAgg238,
  z39:=Tryz.sizeOf238,
  v39:=Tryz.zeroValue238,
  t45:=Tryz.underlying250,
  a45:=Tryz.isAgg250,
  z45:=Tryz.sizeOf250,
  v45:=Tryz.zeroValue250,
  t46:=Tryz.underlying251,
  a46:=Tryz.isAgg251,
  z46:=Tryz.sizeOf251,
  v46:=Tryz.zeroValue251,
  t50:=Tryz.underlying154,
  a50:=Tryz.isAgg154,
  z50:=Tryz.sizeOf154,
  v50:=Tryz.zeroValue154,
  t53:=Tryz.underlying257,
  a53:=Tryz.isAgg257,
  z53:=Tryz.sizeOf257,
  v53:=Tryz.zeroValue257,
  t55:=Tryz.underlying259,
  a55:=Tryz.isAgg259,
  z55:=Tryz.sizeOf259,
  v55:=Tryz.zeroValue259,
  t66:=Tryz.underlying261,
  a66:=Tryz.isAgg261,
  z66:=Tryz.sizeOf261,
  v66:=Tryz.zeroValue261,
  t70:=Tryz.underlying265,
  a70:=Tryz.isAgg265,
  z70:=Tryz.sizeOf265,
  v70:=Tryz.zeroValue265,
  t76:=Tryz.underlying267,
  a76:=Tryz.isAgg267,
  z76:=Tryz.sizeOf267,
  v76:=Tryz.zeroValue267,
  t77:=Tryz.underlying240,
  a77:=Tryz.isAgg240,
  z77:=Tryz.sizeOf240,
  v77:=Tryz.zeroValue240}
theorem aAZ:aDj Tryz.prog 158:=λenc h1 cf hO g cb blk off cap d w eg hcmp hH hblk hsz=>
  Any.slices_SortFunc aBA enc h1 cf hO g cb blk off cap d w eg hcmp hH hblk hsz
theorem aAJ:fS Tryz.prog 158:=⟨_,Tryz.func158,by kernel_rfl,by kernel_rfl⟩
theorem aAM:aGa Tryz.prog 158:=λp cap fv w=>AnyF.slices_SortFunc_none {aBA with} p cap fv w
end
section
open Go Go.Proofs
theorem aEd (l:List (List Int)) (hl:l.length<=1073741824) (hw: ∀ w∈l,w.length<=1048576):bJ Tryz.prog 107 [(aC l),(V.fn 143 [] [])] (aC (sdP l)):=by
 refine' pK [] [] Tryz.func107 ?e λhB=>?_
 case e=>conv=>lhs; cbv
 dsimp only;have q9:(fA (srt fV l) (srt fV l).length).length<=l.length:=aOQ l;refine aU<|cJ (i:=3) (n:=0) (m:=1) (cs:=[(V.fn 143 [] [])]) J (cM J) J J J<|aE<|aU<|aP<|gO (bI J dR) (aFv l 0 _ (cM J) OM)<|aE<|aU<|aP<|bB J J J J<|gO (bI J<|bI J dR) (zZ (f0:=aD) (l:=l) (cmp:=fV) aAZ aAM aAJ ⟨_,Tryz.func143,by kernel_rfl,by kernel_rfl⟩ aI3 (λa _ b _ h1 h2=>aGL h1 h2) (λa _ b _=>sN a b) (λa _=>by simp) (λa _=>J) OM J)<|R_r<|aP ?_
 refine zX (bI J dR)<|gO (bI J<|bI J dR) (aO1 (srt fV l) 3 1 l.length _ (@J Blk<|bz 3 54 1<|List.map cL<|srt fV l) (@J Blk<|bk 1 91 1 [[(V.fn 143 [] [])]]) (by simp [oF]) (by simp only [oF]; omega))<|aE<|aO<|aP<|eS J (@J Blk<|bz 3 54 1<|List.map cL (fA (srt fV l) (srt fV l).length)++List.replicate ((srt fV l).length - (fA (srt fV l) (srt fV l).length).length) [V.nilsl]) JR<|aE (aF λQ1 n1 x1 y1 z1=>?_)
 refine cF (λmm T H=> ∃ (k:Nat),mm=((fA (srt fV l) (srt fV l).length).length) - k/\T 5=(V.ms 202 3 0<|(fA (srt fV l) (srt fV l).length).length)/\T 16=(V.ms 202 3 0<|(fA (srt fV l) (srt fV l).length).length)/\T 17=(iV (((fA (srt fV l) (srt fV l).length).length:Nat):Int))/\T 18=(iV ((k:Nat):Int))/\H 3=(bk 1 91 1 [[(V.fn 143 [] [])]])/\H 202=(bz 3 54 1<|List.map cL (fA (srt fV l) (srt fV l).length)++List.replicate ((srt fV l).length - (fA (srt fV l) (srt fV l).length).length) [V.nilsl])/\(k<=(fA (srt fV l) (srt fV l).length).length)) ?_ ?_
 . 
  refine ⟨_,0,J,J,J,J,(bG (aM<|iV 0) J),J,J,?_⟩
  . omega
 intro mm T H ⟨k,hmm,t5,t16,t17,t18,h3,h202,hk⟩ Q2 p12 p22 p32;refine aU<|bY t18 t17<|cE ?_
 refine aG J (λc3=>?_) λc3=>?_
 . 
  refine aB (aF λQ4 n4 x4 y4 z4=>(aU<|aI t18<|dG (i:=k) t16 t18 h202 (pU OM) J OM<|cG (v:=(aD<|aA (fA (srt fV l) (srt fV l).length) k)) J h202 (aIU OM JR)<|aP<|aE<|fO<|aI t5<|aP<|aP<|aL (kQ (aA (fA (srt fV l) (srt fV l).length) k) (by have q:=hw (aA (fA (srt fV l) (srt fV l).length) k)<|aNS.1 (show aA (fA (srt fV l) (srt fV l).length) k∈sdP l from bC (show k < (fA (srt fV l) (srt fV l).length).length by omega)); omega)) J<|dG (i:=k) (aM<|V.ms 202 3 0<|(fA (srt fV l) (srt fV l).length).length) (cS k) h202 (pU OM) J OM<|cZ (vs:=[(aD<|aA (fA (srt fV l) (srt fV l).length) k)]) (B':=(bz 3 54 1<|List.map cL ((fA (srt fV l) (srt fV l).length).set k (aA (fA (srt fV l) (srt fV l).length) k))++List.replicate ((srt fV l).length - (fA (srt fV l) (srt fV l).length).length) [V.nilsl])) J J J h202 (aIh (x:=(aA (fA (srt fV l) (srt fV l).length) k)) (i:=k) OM J J J J) ?_));refine cE<|n4 _ _ (.done (fO<|cD t18<|aE ?_))
  refine p12 _ _ _ ?_ ⟨(k+1),J,t5,t16,t17,(bG (cS<|k+1) JR),h3,(bG (@J Blk<|bz 3 54 1<|List.map cL ((fA (srt fV l) (srt fV l).length).set k (aA (fA (srt fV l) (srt fV l).length) k))++List.replicate ((srt fV l).length - (fA (srt fV l) (srt fV l).length).length) [V.nilsl]) (by (rw [aEW OM]; done))),?_⟩
  . omega
  . omega
 refine aS<|p32 _ _ _<|x1 _ _ (.done (aU<|aI t5<|aE<|bE ?_))
 refine aW (aM<|V.ms 202 3 0<|(fA (srt fV l) (srt fV l).length).length)<|aIw h202 JR (uW (l:=(fA (srt fV l) (srt fV l).length)) JR) (λ_=>by simp) ?_
 . rfl
theorem aCU (l:List (List Int)) (hl:l.length<=1073741824) (hw: ∀ w∈l,w.length<=1048576):bJ Tryz.prog 107 [(aC l),(V.fn 108 [] [])] (aC (nV l)):=by
 refine' pK [] [] Tryz.func107 ?e λhB=>?_
 case e=>conv=>lhs; cbv
 dsimp only;have q9:(fA (srt cX l) (srt cX l).length).length<=l.length:=aJq l;refine aU<|cJ (i:=3) (n:=0) (m:=1) (cs:=[(V.fn 108 [] [])]) J (cM J) J J J<|aE<|aU<|aP<|gO (bI J dR) (aFv l 0 _ (cM J) OM)<|aE<|aU<|aP<|bB J J J J<|gO (bI J<|bI J dR) (zZ (f0:=aD) (l:=l) (cmp:=cX) aAZ aAM aAJ ⟨_,Tryz.func108,by kernel_rfl,by kernel_rfl⟩ aGn (λa _ b _ h1 h2=>aDm h1 h2) (λa _ b _=>rP a b) (λa _=>by simp) (λa _=>J) OM J)<|R_r<|aP ?_
 refine zX (bI J dR)<|gO (bI J<|bI J dR) (aLQ (srt cX l) 3 1 l.length _ (@J Blk<|bz 3 54 1<|List.map cL<|srt cX l) (@J Blk<|bk 1 91 1 [[(V.fn 108 [] [])]]) (by simp [oF]) (by simp only [oF]; omega))<|aE<|aO<|aP<|eS J (@J Blk<|bz 3 54 1<|List.map cL (fA (srt cX l) (srt cX l).length)++List.replicate ((srt cX l).length - (fA (srt cX l) (srt cX l).length).length) [V.nilsl]) JR<|aE (aF λQ1 n1 x1 y1 z1=>?_)
 refine cF (λmm T H=> ∃ (k:Nat),mm=((fA (srt cX l) (srt cX l).length).length) - k/\T 5=(V.ms 202 3 0<|(fA (srt cX l) (srt cX l).length).length)/\T 16=(V.ms 202 3 0<|(fA (srt cX l) (srt cX l).length).length)/\T 17=(iV (((fA (srt cX l) (srt cX l).length).length:Nat):Int))/\T 18=(iV ((k:Nat):Int))/\H 3=(bk 1 91 1 [[(V.fn 108 [] [])]])/\H 202=(bz 3 54 1<|List.map cL (fA (srt cX l) (srt cX l).length)++List.replicate ((srt cX l).length - (fA (srt cX l) (srt cX l).length).length) [V.nilsl])/\(k<=(fA (srt cX l) (srt cX l).length).length)) ?_ ?_
 . 
  refine ⟨_,0,J,J,J,J,(bG (aM<|iV 0) J),J,J,?_⟩
  . omega
 intro mm T H ⟨k,hmm,t5,t16,t17,t18,h3,h202,hk⟩ Q2 p12 p22 p32;refine aU<|bY t18 t17<|cE ?_
 refine aG J (λc3=>?_) λc3=>?_
 . 
  refine aB (aF λQ4 n4 x4 y4 z4=>(aU<|aI t18<|dG (i:=k) t16 t18 h202 (pU OM) J OM<|cG (v:=(aD<|aA (fA (srt cX l) (srt cX l).length) k)) J h202 (aIU OM JR)<|aP<|aE<|fO<|aI t5<|aP<|aP<|aL (kQ (aA (fA (srt cX l) (srt cX l).length) k) (by have q:=hw (aA (fA (srt cX l) (srt cX l).length) k)<|uZ.1 (show aA (fA (srt cX l) (srt cX l).length) k∈nV l from bC (show k < (fA (srt cX l) (srt cX l).length).length by omega)); omega)) J<|dG (i:=k) (aM<|V.ms 202 3 0<|(fA (srt cX l) (srt cX l).length).length) (cS k) h202 (pU OM) J OM<|cZ (vs:=[(aD<|aA (fA (srt cX l) (srt cX l).length) k)]) (B':=(bz 3 54 1<|List.map cL ((fA (srt cX l) (srt cX l).length).set k (aA (fA (srt cX l) (srt cX l).length) k))++List.replicate ((srt cX l).length - (fA (srt cX l) (srt cX l).length).length) [V.nilsl])) J J J h202 (aIh (x:=(aA (fA (srt cX l) (srt cX l).length) k)) (i:=k) OM J J J J) ?_));refine cE<|n4 _ _ (.done (fO<|cD t18<|aE ?_))
  refine p12 _ _ _ ?_ ⟨(k+1),J,t5,t16,t17,(bG (cS<|k+1) JR),h3,(bG (@J Blk<|bz 3 54 1<|List.map cL ((fA (srt cX l) (srt cX l).length).set k (aA (fA (srt cX l) (srt cX l).length) k))++List.replicate ((srt cX l).length - (fA (srt cX l) (srt cX l).length).length) [V.nilsl]) (by (rw [aEW OM]; done))),?_⟩
  . omega
  . omega
 refine aS<|p32 _ _ _<|x1 _ _ (.done (aU<|aI t5<|aE<|bE ?_))
 refine aW (aM<|V.ms 202 3 0<|(fA (srt cX l) (srt cX l).length).length)<|aIw h202 JR (uW (l:=(fA (srt cX l) (srt cX l).length)) JR) (λ_=>by simp) ?_
 . rfl
theorem uV (l:List (List Int)) (hl:l.length<=1073741824) (hw: ∀ w∈l,w.length<=1048576):bJ Tryz.prog 95 [(aC l)] (aC (mH l)):=by
 refine' pK [] [] Tryz.func95 ?e λhB=>?_
 case e=>conv=>lhs; cbv
 dsimp only;refine aU<|aE<|aU<|aP<|aL (aEd l hl hw) J<|aE<|bE ?_
 refine aW (aM<|aC<|sdP l)<|dM ?_ (λ_=>by simp)
 . exact aFc l
def aMC:SC:=.seq (.reg [qP 12 .lss 11 10]) (.seq (.cond (.t 12) (.skip) (.exit 0)) (.seq (.block 1 (.seq (.reg [qA 13 1 9 11,ql 14 13,qM 5 14]) (.seq (.reg [qM 15 3,qM 16 5,qN 17 16,qP 18 .add 15 17,qM 3 18]) (.seq (.reg [qM 19 3,qC 20 .lss 19 0]) (.cond (.t 20) (.seq (.reg [sO 21 (.bad)]) (.seq (.pop none (.raise (.t 21))) (.reg []))) (.skip)))))) (.reg [qC 22 .add 11 1,qM 11 22])))
def aLO:SC:=.seq (.reg [qP 28 .lss 27 26]) (.seq (.cond (.t 28) (.skip) (.exit 2)) (.seq (.block 3 (.seq (.reg [qA 29 1 25 27,ql 30 29,qM 8 30]) (.reg [qM 31 6,qM 32 8,sO 33 (.append 3 1 8 (.t 31) (.t 32)),qM 6 33]))) (.reg [qC 34 .add 27 1,qM 27 34])))
def aSF:SF:=⟨36,[.tmp 2],.seq (.reg [sO 2 (.mv (.c (.nilsl)))]) (.seq (.reg [qI 3 0]) (.seq (.seq (.reg [qM 9 0,qN 10 9,qI 11 0]) (.block 0 (.loop aMC))) (.seq (.reg [qM 23 3,sO 24 (.call true 156 [.c (.nilsl),.t 23]),qM 6 24]) (.seq (.seq (.reg [qM 25 0,qN 26 25,qI 27 0]) (.block 2 (.loop aLO))) (.seq (.reg [qM 35 6,qM 2 35]) (.ret))))))⟩
theorem aN9:lX Tryz.prog ⟨[101,102,103,111,112,126,130,155,156,157,158,159,163,165,188,193,197,201],[],[],[]⟩ Tryz.f106=some aSF:=by kernel_rfl
end
section
open Go Go.Proofs Go.Shelf Go.Lib
section
variable {P:Program} {ρ:Go.Shelf.Ren}
theorem aGA (L : Lays8.n4 P ρ) (hcf : fS P (ρ.f 4)) (i0 : TypeInfo) (z : Value) (hi0 : P.info? (ρ.t 25) = some i0) (hz0 : i0.zero = some z) (hs0 : 0 < i0.size) (hzs : z.cells.size = i0.size)
    {n:Nat} (hb:n*i0.bytes<=140737488355328) (h63:n<=4611686018427387904) (id:Nat) (H:aT) (hty:ρ.t 25 < 4294967296:=by decide):
    fH P (ρ.f 4) [.nilsl,iV (n:Nat)] H (.ms id ((H id).ver+1) 0 0) (cU H id ⟨(H id).ver+1,true,decide (n=0),ρ.t 25,i0.size,[]⟩):=by
  refine ⟨hcf,λx cs hxH hx hr=>?_⟩;subst hxH
  obtain ⟨c0,c1,rfl⟩: ∃ c0 c1,cs=[c0,c1]:=by
    have:=hr.1
    match cs with
    |[a,b]=>exact ⟨a,b,rfl⟩
    |[]=>simp at this
    |[_]=>simp at this
    |_::_::_::_=>simp at this
  have r0:R x .nilsl c0:=hr.2 0 _ J;have r1:R x (iV (n:Nat)) c1:=hr.2 1 _ J;have hc0:c0=.slice none 0 0:=by cases r0; rfl
  have hc1:c1=.int .i64 (n:Nat):=by unfold iV at r1; cases r1; rfl
  subst hc0; subst hc1;by_cases hn:n=0
  . subst hn
    refine (Any8.slices_Grow_room L none 0 0 0 x.w (Nat.le_refl _) DE DE DE).mono λe w' h=>?_;obtain ⟨rfl,rfl⟩:=h;obtain ⟨h1,h2,h3⟩:=mN hx id (ρ.t 25) i0.size hty;exact ⟨_,{x with H:=cU x.H id ⟨(x.H id).ver+1,true,true,ρ.t 25,i0.size,[]⟩},rfl,rfl,SI,h1,h3 _,h2⟩
  . refine (Any8.slices_Grow_grow L i0 z hi0 hz0 hs0 none 0 0 n [] x.w (Nat.le_refl _) OM (by simpa using hb) (by simpa using h63) SI (λ_=>rfl) (λa h=>by cases h)).mono λe w' h=>?_
    obtain ⟨rfl,rfl⟩:=h;obtain ⟨dI,dF⟩:=jH hx (x.w.drawn+1)<|Nat.le_succ _
    have hge:0+n<=grownCap x.w (0+n) 0 (ρ.t 25):=grownCap_ge x.w _ _ _;have hle:=grownCap_le_maxLen x.w (0+n) 0 (ρ.t 25) (by unfold maxLen; omega);generalize hG:grownCap x.w (0+n) 0 (ρ.t 25)=G at hge hle
    have hsz:((#[]:Array Value)++Builtin.zeroCells z.cells (0+n - 0)++Builtin.zeroCells z.cells (G - (0+n))).size=G*i0.size:=by
      have zc: ∀ m,(Builtin.zeroCells z.cells m).size=m*i0.size:=λm=>by
        rw [size_zeroCells,hzs]
      rw [Array.size_append,Array.size_append,zc,zc];simp only [Array.size_empty,Nat.zero_add,Nat.sub_zero];rw [<- Nat.add_mul]; congr 1; omega
    have hrf:([].toArray:Array Value)=#[]:=J;rw [hrf];generalize ((#[]:Array Value)++Builtin.zeroCells z.cells (0+n - 0)++Builtin.zeroCells z.cells (G - (0+n)))=cc at hsz;obtain ⟨h1,h2⟩:=nH dI id cc false (ρ.t 25) i0.size [] SI SI (λr row j v h=>by simp at h);refine ⟨_,_,J,J,by simp [hn],h1,?_,dF.trans h2⟩;refine .ms _ _ _ _ _ _ _ (by simp [aR]) (λ_ _=>?_) λ_ _=>by simp only [aR]; rfl
    simp only [aR];refine ⟨trivial,Nat.zero_le _,hle,SI,λ_=>⟨by simp [World.drew],?_⟩,λh=>by simp [Blk.own] at h⟩;simp only [Nat.zero_add];unfold fE;have:(({x.w with drawn:=x.w.drawn+1}:World).alloc (.cells cc (ρ.t 25))).heap[({x.w with drawn:=x.w.drawn+1}:World).heap.size]?=some (.cells cc (ρ.t 25)):=kA _ _;rw [this];exact hsz.symm
theorem aEw (L:Lays8.n4 P ρ) (hcf:fS P (ρ.f 4)) {k b:Nat} {z:Value} (hi:(P.info? (ρ.t 25)).map (λi=>(i.zero,i.size,i.bytes))=some (some z,k,b)) (hs0:0 < k) (hzs:z.cells.size=k)
    {n:Nat} (hb:n*b<=140737488355328) (h63:n<=4611686018427387904) (id:Nat) (H:aT) (hty:ρ.t 25 < 4294967296:=by decide):
    fH P (ρ.f 4) [.nilsl,iV (n:Nat)] H (.ms id ((H id).ver+1) 0 0) (cU H id ⟨(H id).ver+1,true,decide (n=0),ρ.t 25,k,[]⟩):=by
  obtain ⟨i0,h1,h2⟩:=Option.map_eq_some_iff.1 hi;simp only [Prod.mk.injEq] at h2;obtain ⟨h3,h4,h5⟩:=h2;subst h4; subst h5;exact aGA L hcf i0 z h1 h3 hs0 hzs hb h63 id H hty
theorem aEE (L:Lays8.n4 P ρ) (hcf:fS P (ρ.f 4)) {k b:Nat} {z:Value} (hi:(P.info? (ρ.t 25)).map (λi=>(i.zero,i.size,i.bytes))=some (some z,k,b)) (hs0:0 < k) (hzs:z.cells.size=k)
    {n:Nat} (hb:n*b<=140737488355328) (h63:n<=4611686018427387904) (id:Nat) {H:aT} {w:Nat} (hv:(H id).ver=w) (hty:ρ.t 25 < 4294967296:=by decide):
    fH P (ρ.f 4) [.nilsl,iV (n:Nat)] H (.ms id (w+1) 0 0) (cU H id ⟨w+1,true,decide (n=0),ρ.t 25,k,[]⟩):=by
  subst hv; exact aEw L hcf hi hs0 hzs hb h63 id H hty
end
end
section
open Go Go.Proofs Go.Shelf
def aHD:Go.Shelf.Ren:=⟨fun|4=>156|n=>n,fun|22=>54|25=>3|3=>3|4=>4|9=>9|20=>20|0=>0|n=>n,λn=>n⟩
theorem aH3:Lays8.n4 Tryz.prog aHD:={
  mixed:=(by kernel_rfl),
  f4:=⟨Tryz.f156.name,DE,Tryz.func156.trans (congrArg some (by kernel_rfl))⟩,
  t0:=Tryz.underlying0,
  a0:=Tryz.isAgg0,
  z0:=Tryz.sizeOf0,
  v0:=Tryz.zeroValue0,
  t3:=Tryz.underlying3,
  a3:=Tryz.isAgg3,
  z3:=Tryz.sizeOf3,
  v3:=Tryz.zeroValue3,
  t4:=Tryz.underlying4,
  a4:=Tryz.isAgg4,
  z4:=Tryz.sizeOf4,
  v4:=Tryz.zeroValue4,
  t9:=Tryz.underlying9,
  a9:=Tryz.isAgg9,
  z9:=Tryz.sizeOf9,
  v9:=Tryz.zeroValue9,
  t20:=Tryz.underlying20,
  a20:=Tryz.isAgg20,
  z20:=Tryz.sizeOf20,
  v20:=Tryz.zeroValue20,
  t22:=Tryz.underlying54,
  a22:=Tryz.isAgg54,
  z22:=Tryz.sizeOf54,
  v22:=Tryz.zeroValue54}
theorem aGT:fS Tryz.prog 156:=⟨_,Tryz.func156,by kernel_rfl,by kernel_rfl⟩
theorem aGz:(Tryz.prog.info? 3).map (λi=>(i.zero,i.size,i.bytes))=some (some (.int .i64 0),1,8):=by kernel_rfl
end
section
open Go Go.Proofs
theorem aGF (l:List (List Int)) (hs:(bH l).length<=4294967296):bJ Tryz.prog 106 [(aC l)] (aD (bH l)):=by
 refine pW Tryz.func106 aN9 λhB=>?_;unfold aSF;dsimp only;refine aU<|aE<|aU<|aE<|aO<|aP<|bA J<|aE (mV λQ1 n1 x1 y1 z1 w1=>?_)
 refine aJr (λmm T H=> ∃ (k:Nat) (v0:Nat),mm=l.length - k/\T 0=(aC l)/\T 3=(iV (((bH<|l.take k).length:Nat):Int))/\T 9=(aC l)/\T 10=(iV ((l.length:Nat):Int))/\T 11=(iV ((k:Nat):Int))/\(H 0).ver=v0/\H 900=iN/\(k<=l.length)) ?_ ?_
 . 
  refine ⟨_,0,0,J,J,(bG (aM<|iV 0) JR),J,J,(bG (aM<|iV 0) J),(cM J),J,?_⟩
  . omega
 intro mm T H ⟨k,v0,hmm,t0,t3,t9,t10,t11,h0,h900,hk⟩ Q2 p12 p22 p32 p42;unfold aMC;refine aU<|bY t11 t10<|cE ?_
 refine aG J (λc3=>?_) λc3=>?_
 . 
  have hq:=aA3 (l:=l) (k:=k) OM;refine aB (mV λQ4 n4 x4 y4 z4 w4=>(aU<|dL (i:=k) t9 t11<|aJ J J<|aE<|aU<|aI t3<|aP<|bA J<|wU J J OM<|aE<|aU<|aP ?_));refine bY J J<|cE ?_
  refine gE J (λc5=>?_) λc5=>?_
  . exfalso; omega
  refine dH<|n4 _ _ (.done (fO<|cD t11<|aE ?_))
  refine p12 _ _ _ ?_ ⟨(k+1),v0,J,t0,(bG (cS<|((bH<|l.take k).length)+(aA l k).length) (by (rw [zQ OM,List.length_append]; done))),t9,t10,(bG (cS<|k+1) JR),h0,h900,?_⟩
  . omega
  . omega
 have hk2:(bH<|l.take k).length=(bH l).length:=by rw [show k=l.length by omega,List.take_length]
 refine aS<|p32 _ _ _<|x1 _ _ (.done (aU<|aI t3<|gO (bI J<|bI J dR) (aEE aH3 aGT aGz DE J (n:=((bH<|l.take k).length)) OM OM 900<|cM h900)<|aE<|aO<|aI t0<|bA J<|aE (mV λQ6 n6 x6 y6 z6 w6=>?_)))
 refine aJr (λmm T H=> ∃ (j:Nat) (w:Nat),mm=l.length - j/\T 6=(V.ms 900 w 0<|(bH<|l.take j).length)/\T 25=(aC l)/\T 26=(iV ((l.length:Nat):Int))/\T 27=(iV ((j:Nat):Int))/\(H 0).ver=v0/\H 900=(⟨w,true,decide ((bH<|l.take k).length=0),3,1,(List.map cI<|bH<|l.take j)⟩:Blk)/\(j<=l.length)) ?_ ?_
 . 
  refine ⟨_,0,(0+1),J,(bG (aM<|V.ms 900 (0+1) 0 0) JR),J,J,(bG (aM<|iV 0) J),h0,(bG (@J Blk (⟨0+1,true,decide ((bH<|l.take k).length=0),3,1,[]⟩:Blk)) JR),?_⟩
  . omega
 intro mm T H ⟨j,w,hmm,t6,t25,t26,t27,h0,h900,hj⟩ Q7 p17 p27 p37 p47;unfold aLO;refine aU<|bY t27 t26<|cE ?_
 refine aG J (λc8=>?_) λc8=>?_
 . 
  have hq:=aA3 (l:=l) (k:=j) OM;refine aB (mV λQ9 n9 x9 y9 z9 w9=>(aU<|dL (i:=j) t25 t27<|aJ J J<|aE<|fO<|aI t6<|aP<|sA (l:=(bH<|l.take j)) (m:=(aA l j)) (f:=cI) (aM<|V.ms 900 w 0<|(bH<|l.take j).length) h900 JR (aM<|aD<|aA l j) (λ_=>J) (λ_=>J) OM OM<|aE<|n9 _ _ (.done (fO ?_))));refine cD t27<|aE ?_
  refine p17 _ _ _ ?_ ⟨(j+1),(w+1),J,(bG (aM<|V.ms 900 (w+1) 0<|((bH<|l.take j).length)+(aA l j).length) (by (rw [zQ OM,List.length_append]; done))),t25,t26,(bG (cS<|j+1) JR),h0,(bG (@J Blk (⟨w+1,true,decide ((bH<|l.take k).length=0),3,1,(List.map cI<|bH (l.take j)++(aA l j))⟩:Blk)) (by (rw [zQ OM]; done))),?_⟩
  . omega
  . omega
 refine aS<|p37 _ _ _<|x6 _ _ (.done (aU<|aI t6<|aE<|bE ?_))
 refine aW (aM<|V.ms 900 w 0<|(bH<|l.take j).length)<|mI h900 SI (l:=(bH<|l.take j)) J JR (λ_=>by simp) ?_
 . rw [show j=l.length by omega,List.take_length]
theorem dD (l:List (List Int)) (hs:(bH l).length<=4294967296):bJ Tryz.prog 58 [(aC l)] (aD (bH l)):=by
 refine' pK [] [] Tryz.func58 ?e λhB=>?_
 case e=>conv=>lhs; cbv
 dsimp only;refine aU<|aE<|aU<|aP<|aL (aGF l hs) J<|aE<|bE ?_
 refine aW (aM<|aD<|bH l)<|eA SI J
theorem uC (t:Dt) (hb:Bd t):bJ Tryz.prog 96 [(V.agg [(V.sl (List.map cN t.nd))])] (aC (fT t.nd)):=by
 refine' pK [3] [] Tryz.func96 ?e λhB=>?_
 case e=>conv=>lhs; cbv
 dsimp only;have hbn:=hb.n;refine aU<|cJ (i:=1) (n:=0) (m:=1) (cs:=[(V.sl<|List.map cN t.nd)]) J (cM J) J J J<|aE<|aU<|iD (i:=3) (n:=0) J (cM J)<|zL<|aU<|aZ J J J J<|bA J<|aE (aF λQ1 n1 x1 y1 z1=>?_)
 refine cF (λmm T H=> ∃ (k:Nat) (v:Nat) (v5:Nat),mm=t.nd.length - k/\T 3=(V.ms 3 v 0<|(fT<|t.nd.take k).length)/\T 7=(V.sl<|List.map cN t.nd)/\T 8=(iV ((t.nd.length:Nat):Int))/\T 9=(iV ((k:Nat):Int))/\H 1=(bk 1 47 1 [[(V.sl<|List.map cN t.nd)]])/\H 3=(bz v 54 1<|List.map cL<|fT<|t.nd.take k)/\(H 5).ver=v5/\(k<=t.nd.length)) ?_ ?_
 . 
  refine ⟨_,0,1,0,J,(bG (aM<|V.ms 3 1 0 0) JR),J,J,(bG (aM<|iV 0) J),J,(bG (@J Blk<|bz 1 54 1 []) JR),(cM J),?_⟩
  . omega
 intro mm T H ⟨k,v,v5,hmm,t3,t7,t8,t9,h1,h3,h5,hk⟩ Q2 p12 p22 p32;have q1:=pP<|t.nd.take k
 have q2:(t.nd.take k).length<=k:=by simp; omega
 refine aU<|bY t9 t8<|cE ?_
 refine aG J (λc3=>?_) λc3=>?_
 . 
  have r1:=hb.ac k OM;refine aB (aF λQ4 n4 x4 y4 z4=>(aU<|dL (i:=k) t7 t9<|aJ J J<|bX (i:=5) (n:=v5) (m:=5) J h5 J<|dA J J J J J J J J J<|R_r<|aZ J J J J<|cE ?_));refine pS J (λc5=>?_) (λc5=>?_)
  . 
   have d1:(aA t.nd k).lf=true:=c5;refine fO<|aI t3<|aZ J J J J<|aY J J<|aL (dD ([(aA t.nd k).ac]) (by simp [bH]; omega)) J<|aY J J<|gF (l:=(fT<|t.nd.take k)) (f:=cL) (x:=(bH<|[(aA t.nd k).ac])) (aM<|V.ms 3 v 0<|(fT<|t.nd.take k).length) h3 JR (aM<|V.sl [[(aD<|bH<|[(aA t.nd k).ac])]])<|aE<|n4 _ _ (.done (fO<|cD t9<|aE ?_))
   refine p12 _ _ _ ?_ ⟨(k+1),(v+1),(v5+1),J,(bG (aM<|V.ms 3 (v+1) 0<|((fT<|t.nd.take k).length)+1) (by (rw [nN OM,if_pos (by assumption),List.length_append]; rfl))),t7,t8,(bG (cS<|k+1) JR),h1,(bG (@J Blk<|bz (v+1) 54 1<|List.map cL<|fT (t.nd.take k)++[bH ([(aA t.nd k).ac])]) (by (rw [nN OM,if_pos (by assumption)]; simp [bH]; done))),(cM J),?_⟩
   . omega
   . omega
  have d1: ¬(aA t.nd k).lf=true:=by simpa using c5
  refine dH<|n4 _ _ (.done (fO<|cD t9<|aE ?_))
  refine p12 _ _ _ ?_ ⟨(k+1),v,(v5+1),J,(bG t3 (by (rw [nN OM,if_neg (by assumption),List.append_nil]; done))),t7,t8,(bG (cS<|k+1) JR),h1,(bG h3 (by (rw [nN OM,if_neg (by assumption),List.append_nil]; done))),(cM J),?_⟩
  . omega
  . omega
 refine aS<|p32 _ _ _<|x1 _ _ (.done (aU<|aI t3<|aE<|bE ?_))
 refine aW (aM<|V.ms 3 v 0<|(fT<|t.nd.take k).length)<|mI h3 SI (l:=(fT<|t.nd.take k)) J JR (λ_=>by simp) ?_
 . rw [show k=t.nd.length by omega,List.take_length]
theorem aBL (n:Int):bJ Tryz.prog 140 [(iV n)] (V.bool (decide (1<=n/\n<=1024))):=by
 refine' pK [] [] Tryz.func140 ?e λhB=>?_
 case e=>conv=>lhs; cbv
 dsimp only;refine aU<|aE<|aU<|aP<|jB J J<|aP ?_
 refine bN 3 (λT H=>T 8=(V.bool<|decide (((1:Int)<=n)/\(n<=(1024:Int))))/\True) ?_ ?_
 . 
  by_cases g1:(1:Int)<=n
  . 
   refine aK (bU g1 J)<|aP<|aK (bU g1 J)<|aC4 J J<|bP (bU g1 J) J ?_
   exact ⟨(eY g1),trivial⟩
  . 
   refine bQ (bV g1 J)<|bQ (bV g1 J)<|bO (bV g1 J) J ?_
   exact ⟨(eX g1),trivial⟩
 intro T H ⟨t8,_⟩;refine aI t8<|R_q ?_
 refine aW (aM<|V.bool<|decide (((1:Int)<=n)/\(n<=(1024:Int))))<|cK ?_
 . first|rfl|omega|simp_all
def aRf:SF:=⟨9,[.tmp 4],.seq (.reg [sO 4 (.mv (.c (.bool false)))]) (.seq (.reg [qM 5 0,qM 6 1,sO 7 (.call false 180 [.t 5,.t 6]),qC 8 .geq 7 0,qM 4 8]) (.ret))⟩
theorem aPn:lX Tryz.prog ⟨[101,102,103,111,112,126,130,155,156,157,158,159,163,165,188,193,197,201],[],[],[]⟩ Tryz.f141=some aRf:=by kernel_rfl
def aMD:SC:=.seq (.reg [qP 9 .lss 8 7]) (.seq (.cond (.t 9) (.skip) (.exit 0)) (.seq (.block 1 (.seq (.reg [qM 10 8,qM 5 10]) (.seq (.reg [qM 11 1,qM 12 0,qM 13 5,qA 14 1 12 13,ql 15 14,sO 16 (.callv false (.t 11) [.t 15])]) (.cond (.t 16) (.seq (.reg [qM 17 5,qM 4 17]) (.ret)) (.skip))))) (.reg [qC 18 .add 8 1,qM 8 18])))
def aQP:SF:=⟨19,[.tmp 4],.seq (.reg [qI 4 0]) (.seq (.seq (.reg [qM 6 0,qN 7 6,qI 8 0]) (.block 0 (.loop aMD))) (.seq (.reg [sO 4 (.mv (.c (.int .i64 (-1))))]) (.ret)))⟩
theorem aPB:lX Tryz.prog ⟨[101,102,103,111,112,126,130,155,156,157,158,159,163,165,188,193,197,201],[],[],[]⟩ Tryz.f180=some aQP:=by kernel_rfl
theorem aKN (p:Int->Bool) (w:List Int) (g:Nat) (caps:List V) (hca:fG caps=true) (hpu:gB caps=true) (hq: ∀ k,k < w.length->bJ Tryz.prog g (iV (aA w k)::caps) (.bool (p (aA w k)))):bJ Tryz.prog 180 [(aD w),(V.fn g [] caps)] (iV (fi (λjx=>p (aA w jx)) 0 w.length)):=by
 refine mL true 6 Tryz.func180 aPB (by kernel_rfl) (by simp [aQP]) (by simp [hpu]) SI λhB=>?_;simp only [mD,lP,jO,lV,mB,pC,lT,jR,implies_true,and_true,true_and] at hB;unfold aQP;dsimp only;refine aU<|aE<|aO<|aP<|bA J<|aE (aF λQ1 n1 x1 y1 z1=>?_)
 refine cF (λmm T H=> ∃ (k:Nat),mm=w.length - k/\T 0=(aD w)/\T 1=(V.fn g [] caps)/\T 7=(iV ((w.length:Nat):Int))/\T 8=(iV ((k:Nat):Int))/\(k<=w.length)/\(fi (λj=>p<|aA w j) 0 w.length=fi (λj=>p<|aA w j) k (w.length - k))) ?_ ?_
 . 
  refine ⟨_,0,J,J,J,J,(bG (aM<|iV 0) J),?_,?_⟩
  . omega
  . rfl
 intro mm T H ⟨k,hmm,t0,t1,t7,t8,hk,hc⟩ Q2 p12 p22 p32;unfold aMD;refine aU<|bY t8 t7<|cE ?_
 refine aG J (λc3=>?_) λc3=>?_
 . 
  refine aB (aF λQ4 n4 x4 y4 z4=>(aU<|aI t8<|aE<|aU<|aI t1<|aI t0<|aP<|dL (i:=k) (aM<|aD w) (cS k)<|aJ J J<|iP (aM<|V.fn g [] caps) (bI (aM<|iV<|aA w k) dR) (hq k OM) (eD _ _ (by simp [hca])) (by simp [hpu]) (Or.inl (by simp [hpu]))<|cE ?_));refine pS J (λc5=>?_) (λc5=>?_)
  . 
   have d1:=c5;refine aU<|aP<|aE<|bE<|y4 _ _<|p22 _ _<|y1 _ _ ?_
   refine aW (cS k)<|aH ?_
   . rw [hc,qZ (by exact d1) OM]
  have d1:=c5;refine dH<|n4 _ _ (.done (fO<|cD t8<|aE ?_))
  refine p12 _ _ _ ?_ ⟨(k+1),J,t0,t1,t7,(bG (cS<|k+1) JR),?_,?_⟩
  . omega
  . omega
  . rw [hc,mX (by exact d1) OM]
 refine aS<|p32 _ _ _<|x1 _ _ (.done (aU<|aE<|bE ?_))
 refine aW (aM<|iV (-1))<|aH ?_
 . rw [hc,pF OM]
theorem aAx (p:Int->Bool) (w:List Int) (g:Nat) (caps:List V) (hca:fG caps=true) (hpu:gB caps=true) (hq: ∀ k,k < w.length->bJ Tryz.prog g (iV (aA w k)::caps) (.bool (p (aA w k)))):bJ Tryz.prog 141 [(aD w),(V.fn g [] caps)] (V.bool (decide (0<=fi (λjx=>p (aA w jx)) 0 w.length))):=by
 refine mL true 6 Tryz.func141 aPn (by kernel_rfl) (by simp [aRf]) (by simp [hpu]) SI λhB=>?_;simp only [mD,lP,jO,lV,mB,pC,lT,jR,implies_true,and_true,true_and] at hB;unfold aRf;dsimp only;refine aU<|aE<|aU<|aP<|aP<|kS (bI (aM<|aD w)<|bI (aM<|V.fn g [] caps) dR) (aKN p w g caps hca hpu hq) (eD _ _ (by simp [hca,hpu,-List.map_take,-List.map_drop,-List.map_append,-List.map_reverse])) (by simp [hca,hpu,-List.map_take,-List.map_drop,-List.map_append,-List.map_reverse]) (Or.inl (by simp [hca,hpu,-List.map_take,-List.map_drop,-List.map_append,-List.map_reverse]))<|jB J J<|aE<|bE ?_
 refine aW (aM<|V.bool<|decide ((0:Int)<=(fi (λjx=>p<|aA w jx) 0 w.length)))<|cK ?_
 . first|rfl|omega|simp_all
theorem aFu (a n:Int):bJ Tryz.prog 142 [(iV a),(V.pp [(iV n)])] (V.bool (decide (a < 0\/n<=a))):=by
 refine' pK [] [] Tryz.func142 ?e λhB=>?_
 case e=>conv=>lhs; cbv
 dsimp only;refine aU<|aE<|aU<|aP<|bY J J<|aP ?_
 refine bN 4 (λT H=>T 10=(V.bool<|decide ((a < (0:Int))\/(n<=a)))/\True) ?_ ?_
 . 
  by_cases g1:a < (0:Int)
  . 
   refine bQ (bU g1 J)<|bQ (bU g1 J)<|bQ (bU g1 J)<|bP (bU g1 J) J ?_
   exact ⟨(fB g1),trivial⟩
  . 
   refine aK (bV g1 J)<|aP<|aK (bV g1 J)<|aJ J J<|aK (bV g1 J)<|jB J J<|bO (bV g1 J) J ?_
   exact ⟨(fC g1),trivial⟩
 intro T H ⟨t10,_⟩;refine aI t10<|R_q ?_
 refine aW (aM<|V.bool<|decide ((a < (0:Int))\/(n<=a)))<|cK ?_
 . first|rfl|omega|simp_all
theorem gM (w:List Int) (n:Int):bJ Tryz.prog 94 [(aD w),(iV n)] (iV (cP w n)):=by
 refine' pK [] [] Tryz.func94 ?e λhB=>?_
 case e=>conv=>lhs; cbv
 dsimp only;refine aU<|cJ (i:=3) (n:=0) (m:=1) (cs:=[(iV n)]) J (cM J) J J J<|aE (aF λQ1 n1 x1 y1 z1=>(aU<|bB J J J J<|aL (aBL n) J<|uQ J<|aE ?_))
 refine gE J (λc2=>?_) λc2=>?_
 . 
  refine aU<|aE<|bE<|y1 _ _ ?_
  refine aW (aM<|iV 2)<|aH ?_
  . rw [cP,if_pos OM]
 refine aU<|aP<|bA J<|fZ J J<|aE ?_
 refine gE J (λc3=>?_) λc3=>?_
 . 
  refine aU<|aE<|bE<|y1 _ _ ?_
  refine aW (aM<|iV 3)<|aH ?_
  . rw [cP,if_neg OM,if_pos OM]
 refine aU<|aP<|zX (bI J dR)<|kS (bI (aM<|aD w)<|bI (aM<|V.fn 142 [] [(cR 3)]) dR) (aAx (λa=>decide (a < 0\/n<=a)) w 142 ([(V.pp [(iV n)])]) SI SI (λk _=>aFu (aA w k) n)) (cO (dN 6 _ (by simp [-List.map_take,-List.map_drop,-List.map_append,-List.map_reverse]))<|cO JR J) (by simp [-List.map_take,-List.map_drop,-List.map_append,-List.map_reverse]) (Or.inr J)<|aE ?_
 refine gE (p:=0<=fi (λjx=>(λa=>decide (a < 0\/n<=a)) (aA w jx)) 0 w.length) J (λc4=>?_) (λc4=>?_)
 . 
  refine aU<|aE<|bE<|y1 _ _ ?_
  refine aW (aM<|iV 1)<|aH ?_
  . have e:(0<=fi (λj=>(λa=>decide (a < 0\/n<=a)) (aA w j)) 0 w.length↔fe (wE w n) 0 w.length=1)/\(fe (wE w n) 0 w.length=0\/fe (wE w n) 0 w.length=1):=aP5 w n w.length 0
    rw [cP,if_neg OM,if_neg OM]; omega
 refine dH<|n1 _ _ (.done (aU<|aE<|bE ?_))
 refine aW (aM<|iV 0)<|aH ?_
 . have e:(0<=fi (λj=>(λa=>decide (a < 0\/n<=a)) (aA w j)) 0 w.length↔fe (wE w n) 0 w.length=1)/\(fe (wE w n) 0 w.length=0\/fe (wE w n) 0 w.length=1):=aP5 w n w.length 0
   rw [cP,if_neg OM,if_neg OM]; omega
theorem aKz (x:Nd) (hs:x.sf.length<=1048576) (ho:x.ou.length<=1048576) (hk:x.kd.length<=1048576):bJ Tryz.prog 137 [(V.agg (cN x))] (iV (lfE x)):=by
 refine' pK [] [] Tryz.func137 ?e λhB=>?_
 case e=>conv=>lhs; cbv
 dsimp only;refine aU<|cJ (i:=1) (n:=0) (m:=5) (cs:=[(V.bool x.lf),(aD x.ac),(aD x.sf),(aC x.ou),(aD x.kd)]) J (cM J) J J J<|aE<|aO<|aZ J J J J<|bA J<|aZ J J J J<|bA J<|wU J J OM<|aZ J J J J<|bA J ?_
 refine wU J J OM<|fZ J J<|cE ?_
 refine aG J (λc1=>?_) λc1=>?_
 . 
  refine aO<|aE<|aN ?_
  refine aW (aM<|iV 1)<|aH ?_
  . rw [lfE,if_pos OM]
 refine aB<|aU<|aZ J J J J<|aL (gM x.ac (64:Int)) J<|aE<|bE ?_
 refine aW (aM<|iV<|cP x.ac (64:Int))<|aH ?_
 . rw [lfE,if_neg OM]
theorem aEV (o:Int):bJ Tryz.prog 144 [(iV o)] (V.bool (decide (o < 0\/1048576 < o))):=by
 refine' pK [] [] Tryz.func144 ?e λhB=>?_
 case e=>conv=>lhs; cbv
 dsimp only;refine aU<|aE<|aU<|aP<|bY J J<|aP ?_
 refine bN 3 (λT H=>T 8=(V.bool<|decide ((o < (0:Int))\/((1048576:Int) < o)))/\True) ?_ ?_
 . 
  by_cases g1:o < (0:Int)
  . 
   refine bQ (bU g1 J)<|bQ (bU g1 J)<|bP (bU g1 J) J ?_
   exact ⟨(fB g1),trivial⟩
  . 
   refine aK (bV g1 J)<|aP<|aK (bV g1 J)<|fZ J J<|bO (bV g1 J) J ?_
   exact ⟨(fC g1),trivial⟩
 intro T H ⟨t8,_⟩;refine aI t8<|R_q ?_
 refine aW (aM<|V.bool<|decide ((o < (0:Int))\/((1048576:Int) < o)))<|cK ?_
 . first|rfl|exact decide_eq_decide.2 OM
theorem qB (aV suffix:List Int):bJ Tryz.prog 98 [(aD aV),(aD suffix)] (iV (vlE aV suffix)):=by
 refine' pK [] [] Tryz.func98 ?e λhB=>?_
 case e=>conv=>lhs; cbv
 dsimp only;refine aU<|aE<|aO<|aP<|bA J<|aP<|bA J<|cA J J<|cE ?_
 refine aG J (λc1=>?_) λc1=>?_
 . 
  refine aO<|aE<|aN ?_
  refine aW (aM<|iV 1)<|aH ?_
  . rw [vlE,if_pos OM]
 refine aB<|aO<|aP<|aL (aAx (λa=>decide (a < 0\/1048576 < a)) aV 144 ([]) SI SI (λk _=>aEV<|aA aV k)) J<|cE ?_
 refine aG (p:=0<=fi (λjx=>(λa=>decide (a < 0\/1048576 < a)) (aA aV jx)) 0 aV.length) J (λc2=>?_) (λc2=>?_)
 . 
  refine aO<|aE<|aN ?_
  refine aW (aM<|iV 2)<|aH ?_
  . have e:=aQs aV
    rw [vlE,if_neg OM]; omega
 refine aB<|aU<|aE<|bE ?_
 refine aW (aM<|iV 0)<|aH ?_
 . have e:=aQs aV
   rw [vlE,if_neg OM]; omega
theorem aHN (x:Nd) (n:Nat) (ho:x.ou.length<=1048576):bJ Tryz.prog 138 [(V.agg (cN x)),(iV ((n:Nat):Int))] (iV (wA x n)):=by
 refine' pK [] [] Tryz.func138 ?e λhB=>?_
 case e=>conv=>lhs; cbv
 dsimp only;refine aU<|cJ (i:=2) (n:=0) (m:=5) (cs:=[(V.bool x.lf),(aD x.ac),(aD x.sf),(aC x.ou),(aD x.kd)]) J (cM J) J J J<|aE (aF λQ1 n1 x1 y1 z1=>(aU<|aZ J J J J<|bA J<|fZ J J<|aE ?_))
 refine gE J (λc2=>?_) λc2=>?_
 . 
  refine aU<|aE<|bE<|y1 _ _ ?_
  refine aW (aM<|iV 1)<|aH ?_
  . rw [wA,if_pos OM]
 refine aU<|aZ J J J J<|bA J<|fP J J<|aE ?_
 refine gE J (λc3=>?_) λc3=>?_
 . 
  refine aU<|aE<|bE<|y1 _ _ ?_
  refine aW (aM<|iV 19)<|aH ?_
  . rw [wA,if_neg OM,if_pos OM]
 refine dH<|n1 _ _ (.done (aO<|aZ J J J J<|aL (gM x.sf (64:Int)) J<|aE<|aO<|aP<|cA J J<|cE ?_))
 refine aG J (λc4=>?_) λc4=>?_
 . 
  refine aO<|aP<|aE<|aN ?_
  refine aW (aM<|iV<|cP x.sf (64:Int))<|aH ?_
  . rw [wA,if_neg OM,if_neg OM,if_pos OM]
 refine aB<|aO<|aZ J J J J<|bA J<|aZ J J J J<|bA J<|cA J J<|cE ?_
 refine aG J (λc5=>?_) λc5=>?_
 . 
  refine aO<|aE<|aN ?_
  refine aW (aM<|iV 1)<|aH ?_
  . rw [wA,if_neg OM,if_neg OM,if_neg OM,if_pos OM]
 refine aB<|aO<|aZ J J J J<|bA J<|aE (aF λQ6 n6 x6 y6 z6=>?_)
 refine cF (λmm T H=> ∃ (k:Nat),mm=x.ou.length - k/\T 1=(iV ((n:Nat):Int))/\T 2=(cR 2)/\T 33=(aC x.ou)/\T 34=(iV ((x.ou.length:Nat):Int))/\T 35=(iV ((k:Nat):Int))/\H 2=(bk 1 108 5 [(cN x)])/\(k<=x.ou.length)/\(x.ou.length=x.kd.length)/\(x.ac.length=0)/\(x.sf.length≠0)/\(cP x.sf 64=0)/\(fe (chE x n) 0 x.ou.length=fe (chE x n) k (x.ou.length - k))) ?_ ?_
 . 
  refine ⟨_,0,J,J,J,J,J,(bG (aM<|iV 0) J),J,?_,?_,?_,?_,?_,?_⟩
  . omega
  . omega
  . omega
  . omega
  . omega
  . rfl
 intro mm T H ⟨k,hmm,t1,t2,t33,t34,t35,h2,hk,hl,ga,gs,gw,hc⟩ Q7 p17 p27 p37;refine aU<|bY t35 t34<|cE ?_
 refine aG J (λc8=>?_) λc8=>?_
 . 
  refine aB (aF λQ9 n9 x9 y9 z9=>(aU<|aI t35<|dL (i:=k) t33 t35<|aJ J J<|aP<|aE<|aO<|aP<|aZ t2 h2 J J<|aL (qB (aA x.ou k) x.sf) J<|aP ?_));refine zL<|aU<|aP<|cA J J<|cE ?_
  refine aG J (λc10=>?_) λc10=>?_
  . 
   refine aO<|aP<|aE<|aN<|y9 _ _<|p27 _ _<|y6 _ _ ?_
   refine aW (aM<|iV<|vlE (aA x.ou k) x.sf)<|aH ?_
   . rw [wA,if_neg OM,if_neg OM,if_neg OM,if_neg OM,hc,gH (by rw [chE,if_pos OM]; omega) OM,chE,if_pos OM]
  refine aB<|aO<|aP<|fZ J J<|aP ?_
  refine bN 10 (λT H=>T 1=(iV ((n:Nat):Int))/\T 2=(cR 2)/\T 6=(iV ((k:Nat):Int))/\T 33=(aC x.ou)/\T 34=(iV ((x.ou.length:Nat):Int))/\T 35=(iV ((k:Nat):Int))/\T 59=(V.bool<|decide (((0:Int) < ((k:Nat):Int))/\((0:Int)<=(cX (aA x.ou (((k:Nat):Int) - (1:Int)).toNat)<|aA x.ou k))))/\H 2=(bk 1 108 5 [(cN x)])/\True) ?_ ?_
  . 
   by_cases g11:(0:Int) < ((k:Nat):Int)
   . 
    refine aK (bU g11 J)<|cQ t2 h2<|aK (bU g11 J)<|bB J h2 J J<|aK (bU g11 J)<|aP<|aK (bU g11 J)<|lS J J OM OM<|aK (bU g11 J)<|dQ (i:=(((k:Nat):Int) - (1:Int))) (aM<|aC x.ou) (aM<|iV<|((k:Nat):Int) - (1:Int)) OM OM J<|aK (bU g11 J)<|aJ J J<|aK (bU g11 J)<|aP<|aK (bU g11 J)<|aL (rP (aA x.ou (((k:Nat):Int) - (1:Int)).toNat)<|aA x.ou k) J ?_
    refine aK (bU g11 J)<|jB J J<|bP (bU g11 J) J ?_
    exact ⟨t1,t2,J,t33,t34,t35,(eY g11),h2,trivial⟩
   . 
    refine bQ (bV g11 J)<|bQ (bV g11 J)<|bQ (bV g11 J)<|bQ (bV g11 J)<|bQ (bV g11 J)<|bQ (bV g11 J)<|bQ (bV g11 J)<|bQ (bV g11 J)<|bQ (bV g11 J)<|bO (bV g11 J) J ?_
    exact ⟨t1,t2,J,t33,t34,t35,(eX g11),h2,trivial⟩
  intro T H ⟨t1,t2,t6,t33,t34,t35,t59,h2,_⟩;refine cE ?_;refine aG t59 (λc12=>?_) λc12=>?_
  . 
   have d2:0 < k/\0<=cX (aA x.ou<|k - 1) (aA x.ou k):=by have q:=c12; rw [show (((k:Nat):Int) - (1:Int)).toNat=k - 1 by omega] at q; omega
   refine aO<|aE<|aN<|y9 _ _<|p27 _ _<|y6 _ _ ?_
   refine aW (aM<|iV 10)<|aH ?_
   . rw [wA,if_neg OM,if_neg OM,if_neg OM,if_neg OM,hc,gH (by rw [chE,if_neg OM,if_pos d2]; omega) OM,chE,if_neg OM,if_pos d2]
  have d2: ¬(0 < k/\0<=cX (aA x.ou<|k - 1) (aA x.ou k)):=by have q:=c12; rw [show (((k:Nat):Int) - (1:Int)).toNat=k - 1 by omega] at q; omega
  refine aB<|aU<|aZ t2 h2 J J<|aI t6<|dL (i:=k) (aM<|aD x.kd) (cS k)<|aJ J J<|bY J J<|aP ?_
  refine bN 8 (λT H=>T 1=(iV ((n:Nat):Int))/\T 2=(cR 2)/\T 33=(aC x.ou)/\T 34=(iV ((x.ou.length:Nat):Int))/\T 35=(iV ((k:Nat):Int))/\T 74=(V.bool<|decide (((aA x.kd k) < (0:Int))\/(((n:Nat):Int)<=(aA x.kd k))))/\H 2=(bk 1 108 5 [(cN x)])/\True) ?_ ?_
  . 
   by_cases g13:(aA x.kd k) < (0:Int)
   . 
    refine bQ (bU g13 J)<|bQ (bU g13 J)<|bQ (bU g13 J)<|bQ (bU g13 J)<|bQ (bU g13 J)<|bQ (bU g13 J)<|bQ (bU g13 J)<|bP (bU g13 J) J ?_
    exact ⟨t1,t2,t33,t34,t35,(fB g13),h2,trivial⟩
   . 
    refine aK (bV g13 J)<|cQ t2 h2<|aK (bV g13 J)<|bB J h2 J J<|aK (bV g13 J)<|aI t6<|aK (bV g13 J)<|dL (i:=k) (aM<|aD x.kd) (cS k)<|aK (bV g13 J)<|aJ J J<|aK (bV g13 J)<|aI t1<|aK (bV g13 J)<|jB J J<|bO (bV g13 J) J ?_
    exact ⟨t1,t2,t33,t34,t35,(fC g13),h2,trivial⟩
  intro T H ⟨t1,t2,t33,t34,t35,t74,h2,_⟩;refine cE ?_;refine gE t74 (λc14=>?_) λc14=>?_
  . 
   refine aU<|aE<|bE<|y9 _ _<|p27 _ _<|y6 _ _ ?_
   refine aW (aM<|iV 2)<|aH ?_
   . rw [wA,if_neg OM,if_neg OM,if_neg OM,if_neg OM,hc,gH (by rw [chE,if_neg OM,if_neg d2,if_pos OM]; omega) OM,chE,if_neg OM,if_neg d2,if_pos OM]
  refine dH<|n9 _ _ (.done (fO<|cD t35<|aE ?_))
  refine p17 _ _ _ ?_ ⟨(k+1),J,t1,t2,t33,t34,(bG (cS<|k+1) JR),h2,?_,?_,?_,?_,?_,?_⟩
  . omega
  . omega
  . omega
  . omega
  . omega
  . omega
  . rw [hc,gW (by rw [chE,if_neg OM,if_neg d2,if_neg OM]) OM]
 refine aS<|p37 _ _ _<|x6 _ _ (.done (aU<|aE<|bE ?_))
 refine aW (aM<|iV 0)<|aH ?_
 . rw [wA,if_neg OM,if_neg OM,if_neg OM,if_neg OM,hc,jK OM]
end
section
open Go Go.Proofs
attribute [local irreducible] aBa
theorem aCh (t:Dt) (hk:KI t) (hb:Bd t):bJ Tryz.prog 139 [(V.agg [(V.sl (List.map cN t.nd))])] (V.bool (coB t)):=by
 refine' pK [11] [] Tryz.func139 ?e λhB=>?_
 case e=>conv=>lhs; cbv
 dsimp only;have hp:=hk.pos;have hbn:=hb.n;refine aU<|cJ (i:=1) (n:=0) (m:=1) (cs:=[(V.sl<|List.map cN t.nd)]) J (cM J) J J J<|aE<|aU<|aZ J J J J<|bA J<|aCk (i:=10) (n:=0) (m:=t.nd.length) (q:=t.nd.length) (f:=cB) (x:=false) J (cM J) (cS t.nd.length) (cS t.nd.length) J OM OM OM<|aE<|aU<|gA (i:=11) (n:=0) (qs:=[(0,(iV 0))]) (rows:=[[(iV 0)]]) J (cM J) (cO (congrArg (λv=>(0,v)) J) J) J<|aE<|fM ?_
 refine aU<|aE (aF λQ1 n1 x1 y1 z1=>?_)
 refine cF (λmm T H=> ∃ (k:Nat) (w:Nat) (P:RS),mm=t.nd.length+1 - k/\T 1=(cR 1)/\T 3=(V.ms 10 1 0 t.nd.length)/\T 4=(V.ms 11 w 0 P.1.length)/\T 5=(iV ((k:Nat):Int))/\H 1=(bk 1 47 1 [[(V.sl<|List.map cN t.nd)]])/\H 10=(bk 1 4 1<|List.map cB P.2)/\H 11=(bk w 3 1<|List.map cI P.1)/\(k<=P.1.length)/\(CI t P)/\(coN t (t.nd.length+1) 0 (co0 t)=coN t (t.nd.length+1 - k) k P)) ?_ ?_
 . 
  refine ⟨_,0,1,(co0 t),J,J,J,(bG (aM<|V.ms 11 1 0 1) JR),(bG (aM<|iV 0) J),J,(bG (@J Blk<|bk 1 4 1<|List.map cB<|List.replicate t.nd.length false) JR),(bG (@J Blk<|bk 1 3 1 [[(iV 0)]]) JR),?_,?_,?_⟩
  . exact Nat.zero_le _
  . exact ci0 hk
  . rfl
 intro mm T H ⟨k,w,P,hmm,t1,t3,t4,t5,h1,h10,h11,hk2,hi,hc⟩ Q2 p12 p22 p32;have hi1:=hi.l1;have hi2:=hi.l2;refine aO<|aI t5<|aI t4<|eS J h11 SI<|bY J J<|cE ?_
 refine aG J (λc3=>?_) λc3=>?_
 . 
  have r1:=hi.rg _<|bC (show k < P.1.length by omega)
  have r2:=hb.kd _ (show (aA P.1 k).toNat < t.nd.length by omega);have r3:(qS t P.1 k).length=P.1.length+(aA t.nd (aA P.1 k).toNat).kd.length:=by unfold qS; rw [List.length_append]
  refine aB (aF λQ4 n4 x4 y4 z4=>(aU<|aI t4<|aI t5<|dG (i:=k) (aM<|V.ms 11 w 0 P.1.length) (cS k) h11 oB J OM<|cG (v:=(iV<|aA P.1 k)) J h11 (dU OM JR)<|aE<|aO<|aI t3<|aP<|dS (i:=(aA P.1 k)) (aM<|V.ms 10 1 0 t.nd.length) (aM<|iV<|aA P.1 k) h10 oB J OM OM<|cG (v:=(V.bool<|aA P.2<|(aA P.1 k).toNat)) J h10 (dU OM JR)<|cE ?_));refine dW J (λc5=>?_) (λc5=>?_)
  . 
   have d2:aA P.2 (aA P.1 k).toNat=true:=c5;refine aO<|aE<|aN<|y4 _ _<|p22 _ _<|y1 _ _ ?_
   refine aW (aM<|V.bool false)<|cK ?_
   . rw [aF5 (by rw [hc]; exact aRF OM OM d2)]
  have d2:aA P.2 (aA P.1 k).toNat=false:=by simpa using c5
  refine aB<|aU<|aI t3<|aP<|dS (i:=(aA P.1 k)) (aM<|V.ms 10 1 0 t.nd.length) (aM<|iV<|aA P.1 k) h10 oB J OM OM<|cZ (vs:=[(V.bool true)]) (B':=(bk 1 4 1<|List.map cB<|P.2.set ((aA P.1 k).toNat) true)) J J J h10 (jM (x:=true) (i:=((aA P.1 k).toNat)) OM J J J J)<|R_r<|aI t4<|aZ t1 h1 J J<|aP<|dQ (i:=(aA P.1 k)) (aM<|V.sl<|List.map cN t.nd) (aM<|iV<|aA P.1 k) OM OM J<|dY (cs':=[(aD<|(aA t.nd (aA P.1 k).toNat).kd)]) J J<|aJ J J<|sA (l:=P.1) (m:=((aA t.nd (aA P.1 k).toNat).kd)) (f:=cI) (aM<|V.ms 11 w 0 P.1.length) h11 JR (aM<|aD<|(aA t.nd (aA P.1 k).toNat).kd) (λ_=>J) (λ_=>J) OM OM ?_
  refine aE<|aU<|aP<|eS J (@J Blk<|bk (w+1) 3 1<|List.map cI<|P.1++((aA t.nd (aA P.1 k).toNat).kd)) SI<|aZ t1 h1 J J<|bA J<|fZ J J<|cE ?_
  refine gE J (λc6=>?_) λc6=>?_
  . 
   have d3:=c6;refine aU<|aE<|bE<|y4 _ _<|p22 _ _<|y1 _ _ ?_
   refine aW (aM<|V.bool false)<|cK ?_
   . rw [aF5 (by rw [hc]; exact aQQ OM OM d2 OM)]
  have d3:=c6;refine dH<|n4 _ _ (.done (fO<|aI t5<|cD J<|aE ?_))
  refine p12 _ _ _ ?_ ⟨(k+1),(w+1),(cSt t P k),J,t1,t3,(bG (aM<|V.ms 11 (w+1) 0<|P.1.length+((aA t.nd (aA P.1 k).toNat).kd).length) (by (rw [show (cSt t P k).1.length=(qS t P.1 k).length from J,r3]; done))),(bG (cS<|k+1) JR),h1,(bG (@J Blk<|bk 1 4 1<|List.map cB<|P.2.set ((aA P.1 k).toNat) true) JR),(bG (@J Blk<|bk (w+1) 3 1<|List.map cI<|P.1++((aA t.nd (aA P.1 k).toNat).kd)) JR),?_,?_,?_⟩
  . omega
  . show k+1<=(P.1++_).length; rw [List.length_append]; omega
  . exact hi.step hk OM OM
  . rw [hc,aSL OM OM d2 OM]
 refine aS<|p32 _ _ _<|x1 _ _ (.done (aU<|aI t4<|eS J h11 SI<|aZ t1 h1 J J<|bA J<|fP J J<|aE<|bE ?_))
 refine aW (aM<|V.bool<|decide (((P.1.length:Nat):Int)=((t.nd.length:Nat):Int)))<|cK ?_
 . rw [aMY (by rw [hc]; exact aRC OM OM)]; exact decide_eq_decide.2 OM
end
section
open Go Go.Proofs
theorem nF (t:Dt) (hb:Bd t):bJ Tryz.prog 93 [(V.agg [(V.sl (List.map cN t.nd))])] (iV (iB t)):=by
 refine' pK [] [] Tryz.func93 ?e λhB=>?_
 case e=>conv=>lhs; cbv
 dsimp only;refine aU<|cJ (i:=1) (n:=0) (m:=1) (cs:=[(V.sl<|List.map cN t.nd)]) J (cM J) J J J<|aE (aF λQ1 n1 x1 y1 z1=>(aU<|aZ J J J J<|bA J<|fP J J<|aE ?_))
 refine gE J (λc2=>?_) λc2=>?_
 . 
  refine aU<|aE<|bE<|y1 _ _ ?_
  refine aW (aM<|iV 19)<|aH ?_
  . rw [iB,if_pos OM]
 refine aU<|aZ J J J J<|bA J<|fZ J J<|aE ?_
 refine gE J (λc3=>?_) λc3=>?_
 . 
  refine aU<|aE<|bE<|y1 _ _ ?_
  refine aW (aM<|iV 11)<|aH ?_
  . rw [iB,if_neg OM,if_pos OM]
 refine dH<|n1 _ _ (.done (aO<|aZ J J J J<|bA J<|aE (aF λQ4 n4 x4 y4 z4=>?_)))
 refine cF (λmm T H=> ∃ (k:Nat) (v4:Nat),mm=t.nd.length - k/\T 1=(cR 1)/\T 18=(V.sl<|List.map cN t.nd)/\T 19=(iV ((t.nd.length:Nat):Int))/\T 20=(iV ((k:Nat):Int))/\H 1=(bk 1 47 1 [[(V.sl<|List.map cN t.nd)]])/\(H 4).ver=v4/\(k<=t.nd.length)/\(0 < t.nd.length)/\(t.nd.length<=4096)/\(∀ j,j < k->tM (aA t.nd j) t.nd.length=0)/\(fe (λk=>tM (aA t.nd k) t.nd.length) 0 t.nd.length=fe (λk=>tM (aA t.nd k) t.nd.length) k (t.nd.length - k))) ?_ ?_
 . 
  refine ⟨_,0,0,J,J,J,J,(bG (aM<|iV 0) J),J,(cM J),?_,?_,?_,?_,?_⟩
  . omega
  . omega
  . omega
  . intro j hj; omega
  . rfl
 intro mm T H ⟨k,v4,hmm,t1,t18,t19,t20,h1,h4,hk,g0,g1,hp,hc⟩ Q5 p15 p25 p35;refine aU<|bY t20 t19<|cE ?_
 refine aG J (λc6=>?_) λc6=>?_
 . 
  have r1:=hb.sf k OM;have r2:=hb.ou k OM;have r3:=hb.kd k OM;refine aB (aF λQ7 n7 x7 y7 z7=>(aU<|dL (i:=k) t18 t20<|aJ J J<|bX (i:=4) (n:=v4) (m:=5) J h4 J<|dA J J J J J J J J J<|R_r<|aE<|aO<|aZ J J J J<|cE ?_));refine dW J (λc8=>?_) (λc8=>?_)
  . 
   have d0:(aA t.nd k).lf=true:=c8;have e0:tM (aA t.nd k) t.nd.length=lfE (aA t.nd k):=by rw [tM,if_pos d0]
   refine aU<|bB J J J J<|aL (aKz (aA t.nd k) OM OM OM) J<|aE<|aU<|aP<|cA J J<|cE ?_
   refine gE J (λc9=>?_) λc9=>?_
   . 
    have d1:tM (aA t.nd k) t.nd.length≠0:=by rw [e0]; exact c9
    refine aU<|aP<|aE<|bE<|y7 _ _<|p25 _ _<|y4 _ _ ?_
    refine aW (aM<|iV<|lfE<|aA t.nd k)<|aH ?_
    . have e:fe (λk=>tM (aA t.nd k) t.nd.length) 0 t.nd.length=tM (aA t.nd k) t.nd.length:=by rw [hc]; exact gH (e:=λk=>tM (aA t.nd k) t.nd.length) d1 OM
      rw [iB,if_neg OM,if_neg OM,if_pos (by rw [e]; exact d1),e,e0]
   have d1:tM (aA t.nd k) t.nd.length=0:=by rw [e0]; omega
   refine dH<|n7 _ _ (.done (fO<|cD t20<|aE ?_))
   refine p15 _ _ _ ?_ ⟨(k+1),(v4+1),J,t1,t18,t19,(bG (cS<|k+1) JR),h1,(cM J),?_,?_,?_,?_,?_⟩
   . omega
   . omega
   . omega
   . omega
   . intro i hi
     by_cases e:i=k
     . subst e; exact d1
     . exact hp i OM
   . rw [hc,gW (e:=λk=>tM (aA t.nd k) t.nd.length) (by exact d1) OM]
  have d0:(aA t.nd k).lf=false:=by simpa using c8
  have e0:tM (aA t.nd k) t.nd.length=wA (aA t.nd k) t.nd.length:=by rw [tM,if_neg (by simp [d0])]
  refine aU<|bB J J J J<|aZ t1 h1 J J<|bA J<|aL (aHN (aA t.nd k) t.nd.length OM) J<|aE<|aU<|aP<|cA J J<|cE ?_
  refine gE J (λc10=>?_) λc10=>?_
  . 
   have d1:tM (aA t.nd k) t.nd.length≠0:=by rw [e0]; exact c10
   refine aU<|aP<|aE<|bE<|y7 _ _<|p25 _ _<|y4 _ _ ?_
   refine aW (aM<|iV<|wA (aA t.nd k) t.nd.length)<|aH ?_
   . have e:fe (λk=>tM (aA t.nd k) t.nd.length) 0 t.nd.length=tM (aA t.nd k) t.nd.length:=by rw [hc]; exact gH (e:=λk=>tM (aA t.nd k) t.nd.length) d1 OM
     rw [iB,if_neg OM,if_neg OM,if_pos (by rw [e]; exact d1),e,e0]
  have d1:tM (aA t.nd k) t.nd.length=0:=by rw [e0]; omega
  refine dH<|n7 _ _ (.done (fO<|cD t20<|aE ?_))
  refine p15 _ _ _ ?_ ⟨(k+1),(v4+1),J,t1,t18,t19,(bG (cS<|k+1) JR),h1,(cM J),?_,?_,?_,?_,?_⟩
  . omega
  . omega
  . omega
  . omega
  . intro i hi
    by_cases e:i=k
    . subst e; exact d1
    . exact hp i OM
  . rw [hc,gW (e:=λk=>tM (aA t.nd k) t.nd.length) (by exact d1) OM]
 have hall: ∀ j,j < t.nd.length->tM (aA t.nd j) t.nd.length=0:=λj hj=>hp j OM
 have hki:KI t:=aIf g0 hall;have hz:fe (λk=>tM (aA t.nd k) t.nd.length) 0 t.nd.length=0:=by rw [hc,jK OM]
 have haw: ∀ w∈fT t.nd,w.length<=1048576:=aNH hb;have hal:=pP t.nd;refine aS<|p35 _ _ _<|x4 _ _ (.done (aO<|bB t1 h1 J J<|aL (aCh t hki hb) J<|jS J<|cE ?_))
 refine dW J (λc11=>?_) (λc11=>?_)
 . 
  have d3:whB t=false:=by rw [<- aQm hki]; simpa using c11
  refine aO<|aE<|aN ?_
  refine aW (aM<|iV 1)<|aH ?_
  . rw [iB,if_neg OM,if_neg OM,if_neg (by rw [hz]; simp),if_pos d3]
 have d3:whB t=true:=by rw [<- aQm hki]; simpa using c11
 refine aB<|aO<|bB t1 h1 J J<|aL (uC t hb) J<|aE<|aO<|aP<|aL (uV (fT t.nd) OM haw) J<|bA J<|aP<|bA J<|cA J J<|cE ?_
 refine aG J (λc12=>?_) λc12=>?_
 . 
  refine aO<|aE<|aN ?_
  refine aW (aM<|iV 7)<|aH ?_
  . rw [iB,if_neg OM,if_neg OM,if_neg (by rw [hz]; simp),if_neg (by simp [d3]),if_pos OM]
 refine aB<|aU<|aE<|bE ?_
 refine aW (aM<|iV 0)<|aH ?_
 . rw [iB,if_neg OM,if_neg OM,if_neg (by rw [hz]; simp),if_neg (by simp [d3]),if_neg OM]
theorem tZ (l:Ts) (o:Ob) (hb:Bd l.t):bJ Tryz.prog 47 [(V.agg [(iV l.i),(V.sl (List.map cN l.t.nd)),(iV o.i),(V.sl (List.map cT o.tr))])] (iV (kH l o)):=by
 refine' pK [] [] Tryz.func47 ?e λhB=>?_
 case e=>conv=>lhs; cbv
 dsimp only;refine aU<|cJ (i:=1) (n:=0) (m:=4) (cs:=[(iV l.i),(V.sl<|List.map cN l.t.nd),(iV o.i),(V.sl<|List.map cT o.tr)]) J (cM J) J J J<|aE<|aO<|cQ J J<|aZ J J J J<|bY J J<|aP ?_
 refine bN 5 (λT H=>T 1=(cR 1)/\T 19=(V.bool<|decide ((l.i < (1:Int))\/((64:Int) < l.i)))/\H 1=(bk 1 66 4 [[(iV l.i),(V.sl<|List.map cN l.t.nd),(iV o.i),(V.sl<|List.map cT o.tr)]])/\H 7=iN/\True) ?_ ?_
 . 
  by_cases g1:l.i < (1:Int)
  . 
   refine bQ (bU g1 J)<|bQ (bU g1 J)<|bQ (bU g1 J)<|bQ (bU g1 J)<|bP (bU g1 J) J ?_
   exact ⟨J,(fB g1),J,J,trivial⟩
  . 
   refine aK (bV g1 J)<|cQ J J<|aK (bV g1 J)<|cQ J J<|aK (bV g1 J)<|bB J J J J<|aK (bV g1 J)<|fZ J J<|bO (bV g1 J) J ?_
   exact ⟨J,(fC g1),J,J,trivial⟩
 intro T H ⟨t1,t19,h1,h7,_⟩;refine cE ?_;refine aG t19 (λc2=>?_) λc2=>?_
 . 
  refine aO<|aE<|aN ?_
  refine aW (aM<|iV 2)<|aH ?_
  . have e:=aSp (l:=l) OM
    unfold kH; rw [if_pos (by rw [e]; first|assumption|decide),e]
 refine aB<|aO<|cQ t1 h1<|aZ J h1 J J<|aL (nF l.t hb) J<|aE<|aO<|aP<|cA J J<|cE ?_
 refine aG J (λc3=>?_) λc3=>?_
 . 
  refine aO<|aP<|aE<|aN ?_
  refine aW (aM<|iV<|iB l.t)<|aH ?_
  . have e:=aRZ (l:=l) OM (by assumption)
    unfold kH; rw [if_pos (by rw [e]; first|assumption|decide),e]
 have hv:iB l.t=0:=OM
 have hbn:=hb.n;refine aB<|aU<|aP<|aE<|aO<|cQ t1 h1<|cQ J h1<|aZ J h1 J J<|bA J<|aE (aF λQ4 n4 x4 y4 z4=>?_)
 refine cF (λmm T H=> ∃ (k:Nat) (v7:Nat),mm=l.t.nd.length - k/\T 1=(cR 1)/\T 4=(iV (((fT<|l.t.nd.take k).length:Nat):Int))/\T 5=(V.bool<|emB l.t k)/\T 30=(V.sl<|List.map cN l.t.nd)/\T 31=(iV ((l.t.nd.length:Nat):Int))/\T 32=(iV ((k:Nat):Int))/\H 1=(bk 1 66 4 [[(iV l.i),(V.sl<|List.map cN l.t.nd),(iV o.i),(V.sl<|List.map cT o.tr)]])/\(H 7).ver=v7/\(iB l.t=0)/\(1<=l.i/\l.i<=64)/\(fe (wdE l) 0 l.t.nd.length=fe (wdE l) k (l.t.nd.length - k))) ?_ ?_
 . 
  refine ⟨_,0,0,J,t1,(bG (aM<|iV 0) JR),(bG (aM<|V.bool false) JR),J,J,(bG (aM<|iV 0) J),h1,(cM h7),?_,?_,?_⟩
  . omega
  . omega
  . rfl
 intro mm T H ⟨k,v7,hmm,t1,t4,t5,t30,t31,t32,h1,h7,hv,hr,hc⟩ Q5 p15 p25 p35;have q1:=pP<|l.t.nd.take k
 have q2:(l.t.nd.take k).length<=k:=by simp; omega
 refine aU<|bY t32 t31<|cE ?_
 refine aG J (λc6=>?_) λc6=>?_
 . 
  refine aB (aF λQ7 n7 x7 y7 z7=>(aU<|dL (i:=k) t30 t32<|aJ J J<|bX (i:=7) (n:=v7) (m:=5) J h7 J<|dA J J J J J J J J J<|zL<|aU<|aZ J J J J<|cQ t1 h1<|aZ J h1 J J<|aL (gM ((aA l.t.nd k).ac) l.i) J ?_));refine aE<|aO<|aP<|cA J J<|cE ?_
  refine aG J (λc8=>?_) λc8=>?_
  . 
   have d1:wdE l k=cP (aA l.t.nd k).ac l.i:=by unfold wdE; rw [if_pos c8]
   refine aO<|aP<|aE<|aN<|y7 _ _<|p25 _ _<|y4 _ _ ?_
   refine aW (aM<|iV<|cP ((aA l.t.nd k).ac) l.i)<|aH ?_
   . have z3:=(hc.trans<|gH (e:=wdE l) (by rw [d1]; assumption) OM).trans d1
     have e:=aQt (l:=l) OM OM (by rw [z3]; assumption);rw [z3] at e;unfold kH; rw [if_pos (by rw [e]; first|assumption|decide),e]
  have d0:=c8;refine aB<|aO<|aZ J J J J<|cQ t1 h1<|aZ J h1 J J<|aL (gM ((aA l.t.nd k).sf) l.i) J<|aE<|aO<|aP<|cA J J<|cE ?_
  refine aG J (λc9=>?_) λc9=>?_
  . 
   have d1:wdE l k=cP (aA l.t.nd k).sf l.i:=by unfold wdE; rw [if_neg d0]
   refine aO<|aP<|aE<|aN<|y7 _ _<|p25 _ _<|y4 _ _ ?_
   refine aW (aM<|iV<|cP ((aA l.t.nd k).sf) l.i)<|aH ?_
   . have z3:=(hc.trans<|gH (e:=wdE l) (by rw [d1]; assumption) OM).trans d1
     have e:=aQt (l:=l) OM OM (by rw [z3]; assumption);rw [z3] at e;unfold kH; rw [if_pos (by rw [e]; first|assumption|decide),e]
  have d2:wdE l k=0:=by unfold wdE; rw [if_neg d0]; omega
  refine aB<|aU<|aZ J J J J<|cE ?_
  refine pS J (λc10=>?_) (λc10=>?_)
  . 
   have d5:(aA l.t.nd k).lf=true:=c10;refine aU<|aI t4<|cD J<|aE<|fO<|aI t5<|aP ?_
   refine bN 5 (λT H=>T 1=(cR 1)/\T 4=(iV ((((fT<|l.t.nd.take k).length)+1:Nat):Int))/\T 5=(V.bool<|emB l.t k)/\T 30=(V.sl<|List.map cN l.t.nd)/\T 31=(iV ((l.t.nd.length:Nat):Int))/\T 32=(iV ((k:Nat):Int))/\T 64=(V.bool ((emB l.t k)||decide (((((aA l.t.nd k).ac).length:Nat):Int)=(0:Int))))/\H 1=(bk 1 66 4 [[(iV l.i),(V.sl<|List.map cN l.t.nd),(iV o.i),(V.sl<|List.map cT o.tr)]])/\H 7=(bk (v7+1) 108 5 [(cN<|aA l.t.nd k)])/\True) ?_ ?_
   . 
    by_cases g11:(emB l.t k)=true
    . 
     refine bQ (gZ g11 J)<|bQ (gZ g11 J)<|bQ (gZ g11 J)<|bQ (gZ g11 J)<|bP (gZ g11 J) J ?_
     exact ⟨t1,J,t5,t30,t31,t32,(uK g11),h1,J,trivial⟩
    . 
     refine aK (hC g11 J)<|cQ J J<|aK (hC g11 J)<|bB J J J J<|aK (hC g11 J)<|bA J<|aK (hC g11 J)<|fP J J<|bO (hC g11 J) J ?_
     exact ⟨t1,J,t5,t30,t31,t32,(uG g11),h1,J,trivial⟩
   intro T H ⟨t1,t4,t5,t30,t31,t32,t64,h1,h7,_⟩;refine aI t64<|cE<|n7 _ _ (.done (fO<|cD t32<|aE ?_))
   refine p15 _ _ _ ?_ ⟨(k+1),(v7+1),J,t1,(bG t4 (by (rw [nN OM,if_pos d5,List.length_append]; rfl))),(bG (aM<|V.bool ((emB l.t k)||decide (((((aA l.t.nd k).ac).length:Nat):Int)=(0:Int)))) (by (rw [aNW OM d5]; done))),t30,t31,(bG (cS<|k+1) JR),h1,(cM h7),?_,?_,?_⟩
   . omega
   . omega
   . omega
   . rw [hc,gW (e:=wdE l) d2 OM]
  have d5:(aA l.t.nd k).lf=false:=by simpa using c10
  refine dH<|n7 _ _ (.done (fO<|cD t32<|aE ?_))
  refine p15 _ _ _ ?_ ⟨(k+1),(v7+1),J,t1,(bG t4 (by (rw [nN OM,if_neg (by simp [d5]),List.append_nil]; done))),(bG t5 (by (rw [aRD OM d5]; done))),t30,t31,(bG (cS<|k+1) JR),h1,(cM J),?_,?_,?_⟩
  . omega
  . omega
  . omega
  . rw [hc,gW (e:=wdE l) d2 OM]
 refine aS<|p35 _ _ _<|x4 _ _ (.done (aF λQ12 n12 x12 y12 z12=>(aU<|aI t5<|jS J<|aE ?_)))
 refine pS J (λc13=>?_) (λc13=>?_)
 . 
  have hz:fe (wdE l) 0 l.t.nd.length=0:=by rw [hc,jK OM]
  have q8:=aJN (t:=l.t) (k:=k) OM;have d3:[]∉fT l.t.nd:=by rw [q8] at c13; simpa using c13
  refine aU<|aE<|bE<|y12 _ _ ?_
  refine aW (aM<|iV 1)<|aH ?_
  . have e:=aSu (l:=l) OM OM OM d3
    unfold kH; rw [if_pos (by rw [e]; first|assumption|decide),e]
 have hz:fe (wdE l) 0 l.t.nd.length=0:=by rw [hc,jK OM]
 have q8:=aJN (t:=l.t) (k:=k) OM;have q9:l.t.nd.take k=l.t.nd:=List.take_of_length_le OM;have q10:(fT<|l.t.nd.take k).length=(fT l.t.nd).length:=by rw [q9]
 have d3: ¬([]∉fT l.t.nd):=by rw [q8] at c13; simpa using c13
 refine aU<|aI t4<|fZ J J<|aE ?_
 refine gE J (λc14=>?_) λc14=>?_
 . 
  refine aU<|aE<|bE<|y12 _ _ ?_
  refine aW (aM<|iV 11)<|aH ?_
  . have e:=aSO (l:=l) OM OM OM d3 OM
    unfold kH; rw [if_pos (by rw [e]; first|assumption|decide),e]
 refine aU<|cQ t1 h1<|aZ J h1 J J<|cQ t1 h1<|aZ J h1 J J<|cA J J<|aE ?_
 refine gE J (λc15=>?_) λc15=>?_
 . 
  refine aU<|aE<|bE<|y12 _ _ ?_
  refine aW (aM<|iV 15)<|aH ?_
  . have e:=aNf (l:=l) OM OM OM d3 OM
    unfold kH; rw [if_neg OM,if_pos (by assumption)]
 refine dH<|n12 _ _ (.done (aU<|aE<|bE ?_))
 refine aW (aM<|iV 0)<|aH ?_
 . have e:=aNf (l:=l) OM OM OM d3 OM
   unfold kH; rw [if_neg OM,if_neg OM]
theorem oE (t:Dt) (hb:Bd t):bJ Tryz.prog 50 [(V.agg [(V.sl (List.map cN t.nd))])] (aC (if iB t=0 then mH (fT t.nd) else [])):=by
 refine' pK [] [] Tryz.func50 ?e λhB=>?_
 case e=>conv=>lhs; cbv
 dsimp only;have hal:=pP t.nd;have hbn:=hb.n;refine aU<|cJ (i:=1) (n:=0) (m:=1) (cs:=[(V.sl<|List.map cN t.nd)]) J (cM J) J J J<|aE<|aO<|bB J J J J<|aL (nF t hb) J<|cA J J<|cE ?_
 refine aG J (λc1=>?_) λc1=>?_
 . 
  refine aO<|aE<|aN ?_
  refine aW (aM V.nilsl)<|cC ?_
  . rw [if_neg OM]
 refine aB<|aU<|bB J J J J<|aL (uC t hb) J<|aL (uV (fT t.nd) OM<|aNH hb) J<|aE<|bE ?_
 refine aW (aM<|aC<|mH<|fT t.nd)<|dM ?_ (λ_=>by simp)
 . rw [if_pos OM]
theorem aLV (l:List (List Int)) (t:List Int) (hs:xU l) (hl:l.length<=1048576):bJ Tryz.prog 145 [(aC l),(aD t),(V.fn 108 [] [])] (V.tup [(iV ((kD l t:Nat):Int)),(V.bool (decide (lxH l t)))]):=by
 refine' pK [] [] Tryz.func145 ?e λhB=>?_
 case e=>conv=>lhs; cbv
 dsimp only;have q0:=aGJ (w:=t) l;refine aU<|aP<|aE<|aU<|aP<|bA J<|aE<|aU<|aP<|aP<|aE (aF λQ1 n1 x1 y1 z1=>?_)
 refine cF (λmm T H=> ∃ (i:Nat) (j:Nat),mm=j - i/\T 0=(aC l)/\T 1=(aD t)/\T 2=(V.fn 108 [] [])/\T 8=(iV ((l.length:Nat):Int))/\T 9=(iV ((i:Nat):Int))/\T 10=(iV ((j:Nat):Int))/\(i<=kD l t)/\(kD l t<=j)/\(j<=l.length)) ?_ ?_
 . 
  refine ⟨_,0,l.length,J,J,J,J,J,(bG (aM<|iV 0) J),J,?_,?_,?_⟩
  . omega
  . omega
  . omega
 intro mm T H ⟨i,j,hmm,t0,t1,t2,t8,t9,t10,h1,h2,h3⟩ Q2 p12 p22 p32;refine aO<|aI t9<|aI t10<|bY J J<|cE ?_
 refine aG J (λc3=>?_) λc3=>?_
 . 
  refine aB (iZ λQ4 n4 x4 y4 z4=>(aU<|aI t9<|aI t10<|wU J J OM<|aJv (n:=(i+j)) (cS<|i+j) OM<|aNb (n:=(i+j)) J J<|aI5 (n:=((i+j) / 2)) (aM<|V.int .u64 (((i+j) / 2:Nat):Int)) OM<|aE<|aU<|aI t2<|aI t0<|aP<|dL (i:=((i+j) / 2)) (aM<|aC l) (cS<|(i+j) / 2) ?_));refine aJ J J<|aI t1<|iP (aM<|V.fn 108 [] []) (bI (aM<|aD<|aA l<|(i+j) / 2)<|bI (aM<|aD t) dR) (rP (aA l<|(i+j) / 2) t) (eD _ _ (by simp [-List.map_take,-List.map_drop,-List.map_append,-List.map_reverse])) (by simp [-List.map_take,-List.map_drop,-List.map_append,-List.map_reverse]) (Or.inl (by simp [-List.map_take,-List.map_drop,-List.map_append,-List.map_reverse]))<|bY J J<|cE ?_
  refine gE J (λc5=>?_) λc5=>?_
  . 
   have d1:=(xK hs OM).1 c5;refine fO<|aP<|cD J<|aE<|n4 _ _ ?_
   refine p12 _ _ _ ?_ ⟨(((i+j) / 2)+1),j,J,t0,t1,t2,t8,(bG (cS<|((i+j) / 2)+1) JR),t10,?_,?_,?_⟩
   . omega
   . omega
   . omega
   . omega
  have d1: ¬((i+j) / 2 < kD l t):=λe=>c5<|(xK hs OM).2 e
  refine fO<|aP<|aE<|n4 _ _ ?_
  refine p12 _ _ _ ?_ ⟨i,((i+j) / 2),J,t0,t1,t2,t8,t9,(bG (cS<|(i+j) / 2) JR),?_,?_,?_⟩
  . omega
  . omega
  . omega
  . omega
 refine aS<|p32 _ _ _<|x1 _ _ (.done (aU<|aI t9<|aI t9<|aI t8<|bY J J<|aP ?_))
 refine bN 9 (λT H=>T 35=(iV ((i:Nat):Int))/\T 48=(V.bool<|decide ((((i:Nat):Int) < ((l.length:Nat):Int))/\((cX (aA l i) t)=(0:Int))))/\True) ?_ ?_
 . 
  by_cases g6:((i:Nat):Int) < ((l.length:Nat):Int)
  . 
   refine aK (bU g6 J)<|aI t2<|aK (bU g6 J)<|aI t0<|aK (bU g6 J)<|aI t9<|aK (bU g6 J)<|dL (i:=i) (aM<|aC l) (cS i)<|aK (bU g6 J)<|aJ J J<|aK (bU g6 J)<|aI t1<|aK (bU g6 J)<|iP (aM<|V.fn 108 [] []) (bI (aM<|aD<|aA l i)<|bI (aM<|aD t) dR) (rP (aA l i) t) (eD _ _ (by simp [-List.map_take,-List.map_drop,-List.map_append,-List.map_reverse])) (by simp [-List.map_take,-List.map_drop,-List.map_append,-List.map_reverse]) (Or.inl (by simp [-List.map_take,-List.map_drop,-List.map_append,-List.map_reverse]))<|aK (bU g6 J)<|fP J J ?_
   refine bP (bU g6 J) J ?_;exact ⟨J,(eY g6),trivial⟩
  . 
   refine bQ (bV g6 J)<|bQ (bV g6 J)<|bQ (bV g6 J)<|bQ (bV g6 J)<|bQ (bV g6 J)<|bQ (bV g6 J)<|bQ (bV g6 J)<|bQ (bV g6 J)<|bO (bV g6 J) J ?_
   exact ⟨J,(eX g6),trivial⟩
 intro T H ⟨t35,t48,_⟩;refine aI t35<|aI t48<|R_q ?_
 refine lE (cS i) (aM<|V.bool<|decide ((((i:Nat):Int) < ((l.length:Nat):Int))/\((cX (aA l i) t)=(0:Int)))) (aH ?_)<|cK ?_
 . have e:i=kD l t:=OM
   rw [e]
 . have e:i=kD l t:=OM
   rw [e]; exact decide_eq_decide.2 (by unfold lxH; omega)
theorem aAY (x:Nd) (aV:List Int) (hs:xU x.ou) (hl:x.ou.length<=1048576):bJ Tryz.prog 99 [(V.agg (cN x)),(aD aV)] (V.tup [(iV ((kD x.ou aV:Nat):Int)),(V.bool (decide (lxH x.ou aV)))]):=by
 refine' pK [] [] Tryz.func99 ?e λhB=>?_
 case e=>conv=>lhs; cbv
 dsimp only;refine aU<|cJ (i:=2) (n:=0) (m:=5) (cs:=[(V.bool x.lf),(aD x.ac),(aD x.sf),(aC x.ou),(aD x.kd)]) J (cM J) J J J<|aP<|aE<|aU<|aZ J J J J<|aP<|aL (aLV x.ou aV hs hl) J<|bR J J<|bR J J<|aP<|aE<|bE ?_
 refine lE (cS<|kD x.ou aV) (aM<|V.bool<|decide (lxH x.ou aV)) (eA SI J)<|eA SI J
def aLP:SC:=.seq (.reg [qP 9 .lss 8 7]) (.seq (.cond (.t 9) (.skip) (.exit 0)) (.seq (.block 1 (.seq (.reg [qM 10 8,qM 5 10]) (.seq (.reg [qM 11 1,qM 12 0,qM 13 5,qA 14 2 12 13,qL 15 2 14,sO 16 (.callv false (.t 11) [.t 15])]) (.cond (.t 16) (.seq (.reg [qM 17 5,qM 4 17]) (.ret)) (.skip))))) (.reg [qC 18 .add 8 1,qM 8 18])))
def aRl:SF:=⟨19,[.tmp 4],.seq (.reg [qI 4 0]) (.seq (.seq (.reg [qM 6 0,qN 7 6,qI 8 0]) (.block 0 (.loop aLP))) (.seq (.reg [sO 4 (.mv (.c (.int .i64 (-1))))]) (.ret)))⟩
theorem aOK:lX Tryz.prog ⟨[101,102,103,111,112,126,130,155,156,157,158,159,163,165,188,193,197,201],[],[],[]⟩ Tryz.f152=some aRl:=by kernel_rfl
theorem aDE (p:Tr->Bool) (w:List Tr) (g:Nat) (caps:List V) (hca:fG caps=true) (hpu:gB caps=true) (hq: ∀ k,k < w.length->bJ Tryz.prog g (tV (aA w k)::caps) (.bool (p (aA w k)))):bJ Tryz.prog 152 [(V.sl (List.map cT w)),(V.fn g [] caps)] (iV (fi (λjx=>p (aA w jx)) 0 w.length)):=by
 refine mL true 6 Tryz.func152 aOK (by kernel_rfl) (by simp [aRl]) (by simp [hpu]) SI λhB=>?_;simp only [mD,lP,jO,lV,mB,pC,lT,jR,implies_true,and_true,true_and] at hB;unfold aRl;dsimp only;refine aU<|aE<|aO<|aP<|bA J<|aE (aF λQ1 n1 x1 y1 z1=>?_)
 refine cF (λmm T H=> ∃ (k:Nat),mm=w.length - k/\T 0=(V.sl<|List.map cT w)/\T 1=(V.fn g [] caps)/\T 7=(iV ((w.length:Nat):Int))/\T 8=(iV ((k:Nat):Int))/\(k<=w.length)/\(fi (λj=>p<|aA w j) 0 w.length=fi (λj=>p<|aA w j) k (w.length - k))) ?_ ?_
 . 
  refine ⟨_,0,J,J,J,J,(bG (aM<|iV 0) J),?_,?_⟩
  . omega
  . rfl
 intro mm T H ⟨k,hmm,t0,t1,t7,t8,hk,hc⟩ Q2 p12 p22 p32;unfold aLP;refine aU<|bY t8 t7<|cE ?_
 refine aG J (λc3=>?_) λc3=>?_
 . 
  refine aB (aF λQ4 n4 x4 y4 z4=>(aU<|aI t8<|aE<|aU<|aI t1<|aI t0<|aP<|dL (i:=k) (aM<|V.sl<|List.map cT w) (cS k)<|aJ J J<|iP (aM<|V.fn g [] caps) (bI (aM<|V.agg [(aD<|(aA w k).ni),(aD<|(aA w k).no)]) dR) (hq k OM) (eD _ _ (by simp [hca])) (by simp [hpu]) (Or.inl (by simp [hpu]))<|cE ?_));refine pS J (λc5=>?_) (λc5=>?_)
  . 
   have d1:=c5;refine aU<|aP<|aE<|bE<|y4 _ _<|p22 _ _<|y1 _ _ ?_
   refine aW (cS k)<|aH ?_
   . rw [hc,qZ (by exact d1) OM]
  have d1:=c5;refine dH<|n4 _ _ (.done (fO<|cD t8<|aE ?_))
  refine p12 _ _ _ ?_ ⟨(k+1),J,t0,t1,t7,(bG (cS<|k+1) JR),?_,?_⟩
  . omega
  . omega
  . rw [hc,mX (by exact d1) OM]
 refine aS<|p32 _ _ _<|x1 _ _ (.done (aU<|aE<|bE ?_))
 refine aW (aM<|iV (-1))<|aH ?_
 . rw [hc,pF OM]
theorem uD (a b:List Int):bJ Tryz.prog 162 [(aD a),(aD b)] (iV ((gC a b:Nat):Int)):=by
 refine' pK [] [] Tryz.func162 ?e λhB=>?_
 case e=>conv=>lhs; cbv
 dsimp only;refine aU<|aE<|aO<|aP<|bA J<|aP<|bA J<|aM2 (m:=a.length) (n:=b.length) J J<|aE (aF λQ1 n1 x1 y1 z1=>?_)
 refine cF (λmm T H=> ∃ (k:Nat),mm=(min a.length b.length) - k/\T 0=(aD a)/\T 1=(aD b)/\T 10=(iV ((min a.length b.length:Nat):Int))/\T 11=(iV ((k:Nat):Int))/\(k<=min a.length b.length)/\(k<=gC a b)) ?_ ?_
 . 
  refine ⟨_,0,J,J,J,J,(bG (aM<|iV 0) J),?_,?_⟩
  . omega
  . exact Nat.zero_le _
 intro mm T H ⟨k,hmm,t0,t1,t10,t11,hk,hc⟩ Q2 p12 p22 p32;refine aU<|bY t11 t10<|cE ?_
 refine aG J (λc3=>?_) λc3=>?_
 . 
  refine aB (aF λQ4 n4 x4 y4 z4=>(aU<|aI t11<|aE<|aU<|aI t0<|aP<|dL (i:=k) (aM<|aD a) (cS k)<|aJ J J<|aI t1<|aP<|dL (i:=k) (aM<|aD b) (cS k)<|aJ J J<|cA J J ?_));refine cE ?_;refine gE J (λc5=>?_) λc5=>?_
  . 
   refine aU<|aP<|aE<|bE<|y4 _ _<|p22 _ _<|y1 _ _ ?_
   refine aW (cS k)<|aH ?_
   . rw [tO hc OM]
  refine dH<|n4 _ _ (.done (fO<|cD t11<|aE ?_))
  refine p12 _ _ _ ?_ ⟨(k+1),J,t0,t1,t10,(bG (cS<|k+1) JR),?_,?_⟩
  . omega
  . omega
  . exact yE hc OM OM OM
 refine aS<|p32 _ _ _<|x1 _ _ (.done (aU<|aI t0<|bA J<|aI t1<|bA J<|aM2 (m:=a.length) (n:=b.length) J J<|aE<|bE ?_))
 refine aW (cS<|min a.length b.length)<|aH ?_
 . rw [tO hc OM]; omega
theorem zU (w p:List Int):bJ Tryz.prog 109 [(aD w),(aD p)] (V.bool (hp w p)):=by
 refine' pK [] [] Tryz.func109 ?e λhB=>?_
 case e=>conv=>lhs; cbv
 dsimp only;refine aU<|aE<|aU<|aP<|aP ?_
 have q1:=kJ w p;have q2:=mJ w p;refine aL (uD w p) J<|aP<|bA J<|fP J J<|aE ?_
 have q3:=kJ w p;have q4:=mJ w p;refine bE ?_;refine aW (aM<|V.bool<|decide (((gC w p:Nat):Int)=((p.length:Nat):Int)))<|cK ?_
 . unfold hp; exact decide_eq_decide.2 OM
theorem aD7 (t:Tr) (w:List Int):bJ Tryz.prog 153 [(V.agg [(aD t.ni),(aD t.no)]),(V.pp [(aD w)])] (V.bool (hp t.ni w)):=by
 refine' pK [] [] Tryz.func153 ?e λhB=>?_
 case e=>conv=>lhs; cbv
 dsimp only;refine aU<|cJ (i:=2) (n:=0) (m:=2) (cs:=[(aD t.ni),(aD t.no)]) J (cM J) J J J<|aE<|aU<|aZ J J J J<|aJ J J<|aL (zU t.ni w) J<|aE<|bE ?_
 refine aW (aM<|V.bool<|hp t.ni w)<|eA SI J
theorem lD (o:Ob) (w:List Int) (ho:jE o=0):bJ Tryz.prog 104 [(V.agg [(iV o.i),(V.sl (List.map cT o.tr))]),(aD w)] (V.tup [(aD ((dP o w).getD [])),(V.bool ((dP o w).isSome))]):=by
 refine' pK [] [] Tryz.func104 ?e λhB=>?_
 case e=>conv=>lhs; cbv
 dsimp only;have u2:=lR ho;refine aU<|cJ (i:=2) (n:=0) (m:=2) (cs:=[(iV o.i),(V.sl<|List.map cT o.tr)]) J (cM J) J J J<|cJ (i:=3) (n:=0) (m:=1) (cs:=[(aD w)]) J (cM J) J J J<|aP<|aE<|aO<|bB J J J J<|bA J<|fP J J<|cE ?_
 refine aG J (λc1=>?_) λc1=>?_
 . 
  refine aO<|aP<|aE<|aN ?_
  refine lE (aM V.nilsl) (aM<|V.bool true) (cC ?_)<|cK ?_
  . rw [List.length_eq_zero_iff.1 (show w.length=0 by omega)]; rfl
  . rw [List.length_eq_zero_iff.1 (show w.length=0 by omega)]; rfl
 have hw:w≠[]:=by intro e; subst e; simp at*
 refine aB<|aU<|aZ J J J J<|zX (bI J dR)<|kS (bI (aM<|V.sl<|List.map cT o.tr)<|bI (aM<|V.fn 153 [] [(cR 3)]) dR) (aDE (λt:Tr=>hp t.ni w) o.tr 153 ([(V.pp [(aD w)])]) SI SI (λj _=>aD7 (aA o.tr j) w)) (cO (dN 6 _ (by simp [-List.map_take,-List.map_drop,-List.map_append,-List.map_reverse]))<|cO (aEz (@J Blk<|bk 1 54 1 [[(aD w)]]) (by simp [-List.map_take,-List.map_drop,-List.map_append,-List.map_reverse])) J) (by simp [-List.map_take,-List.map_drop,-List.map_append,-List.map_reverse]) (Or.inr J)<|aE<|aO<|aP<|bY J J<|cE ?_
 refine aG (p:=(fi (λjx=>(λt:Tr=>hp t.ni w) (aA o.tr jx)) 0 o.tr.length) < (0:Int)) J (λc2=>?_) (λc2=>?_)
 . 
  have d1:aAf o.tr w=none:=aKG (l:=o.tr) (w:=w) c2;refine aO<|aP<|aE<|aN ?_
  refine lE (aM V.nilsl) (aM<|V.bool false) (cC ?_)<|cK ?_
  . rw [dP,if_neg hw,d1]; rfl
  . rw [dP,if_neg hw,d1]; rfl
 have d1:=aMV (l:=o.tr) (w:=w) OM;have d2:=(u2.pr _ d1.1).1.len;have d3:=(u2.pr _ d1.1).1.lel;have d4:=aEJ d1.2.1;refine aB<|aU<|aZ J J J J<|aP<|dQ (i:=(fi (λjx=>(λt:Tr=>hp t.ni w) (aA o.tr jx)) 0 o.tr.length)) (aM<|V.sl<|List.map cT o.tr) (aM<|iV<|fi (λjx=>(λt:Tr=>hp t.ni w) (aA o.tr jx)) 0 o.tr.length) OM OM J<|dY (cs':=[(aD<|(aA o.tr (fi (λjx=>(λt:Tr=>hp t.ni w) (aA o.tr jx)) 0 o.tr.length).toNat).no)]) J J<|aJ J J<|aE<|aU<|aP<|bB J J J J<|bA J<|aP<|bA J ?_
 refine aM2 (m:=w.length) (n:=(((aA o.tr (fi (λjx=>(λt:Tr=>hp t.ni w) (aA o.tr jx)) 0 o.tr.length).toNat).no).length)) J J<|sE (n:=(min w.length<|((aA o.tr (fi (λjx=>(λt:Tr=>hp t.ni w) (aA o.tr jx)) 0 o.tr.length).toNat).no).length)) (aM<|aD<|(aA o.tr (fi (λjx=>(λt:Tr=>hp t.ni w) (aA o.tr jx)) 0 o.tr.length).toNat).no) (aM<|iV ((min w.length (((aA o.tr (fi (λjx=>(λt:Tr=>hp t.ni w) (aA o.tr jx)) 0 o.tr.length).toNat).no).length):Nat):Int)) OM (λ_=>J)<|aL (kQ (List.take (min w.length<|((aA o.tr (fi (λjx=>(λt:Tr=>hp t.ni w) (aA o.tr jx)) 0 o.tr.length).toNat).no).length)<|(aA o.tr (fi (λjx=>(λt:Tr=>hp t.ni w) (aA o.tr jx)) 0 o.tr.length).toNat).no) (by simp; omega)) J<|aP<|aE<|bE ?_
 refine lE (aM<|aD<|List.take (min w.length<|((aA o.tr (fi (λjx=>(λt:Tr=>hp t.ni w) (aA o.tr jx)) 0 o.tr.length).toNat).no).length)<|(aA o.tr (fi (λjx=>(λt:Tr=>hp t.ni w) (aA o.tr jx)) 0 o.tr.length).toNat).no) (aM<|V.bool true) (dM ?_ (λ_=>by simp))<|cK ?_
 . rw [dP,if_neg hw,d1.2.2,Nat.min_eq_left OM]; rfl
 . rw [dP,if_neg hw,d1.2.2]; rfl
theorem aC8 (t:Dt) (o:Ob) (w:List Int) (hb:Bd t) (ho:jE o=0) (hw:w.length<=1048576):bJ Tryz.prog 59 [(V.agg [(V.sl (List.map cN t.nd))]),(V.agg [(iV o.i),(V.sl (List.map cT o.tr))]),(aD w)] (V.tup [(iV ((bF t o w).1)),(aD ((bF t o w).2.1)),(iV ((bF t o w).2.2))]):=by
 refine' pK [] [] Tryz.func59 ?e λhB=>?_
 case e=>conv=>lhs; cbv
 dsimp only;refine aU<|cJ (i:=3) (n:=0) (m:=1) (cs:=[(V.sl<|List.map cN t.nd)]) J (cM J) J J J<|cJ (i:=4) (n:=0) (m:=2) (cs:=[(iV o.i),(V.sl<|List.map cT o.tr)]) J (cM J) J J J<|aP<|aP<|aE<|aO<|bB J J J J<|aL (nF t hb) J<|aE<|aO<|aP ?_
 refine cA J J<|cE ?_
 refine aG J (λc1=>?_) λc1=>?_
 . 
  refine aO<|aP<|aP<|aP<|aE<|aN ?_
  refine rU (aM<|iV 0) (aM V.nilsl) (aM<|iV<|iB t) (aH ?_) (cC ?_)<|aH ?_
  . unfold bF; rw [if_pos OM]
  . unfold bF; rw [if_pos OM]
  . unfold bF; rw [if_pos OM]
 have hv:iB t=0:=OM
 refine aB<|aO<|aP<|aZ J J J J<|aL (gM w o.i) J<|aE<|aO<|aP<|cA J J<|cE ?_
 refine aG J (λc2=>?_) λc2=>?_
 . 
  refine aO<|aP<|aP<|aP<|aE<|aN ?_
  refine rU (aM<|iV 0) (aM V.nilsl) (aM<|iV<|cP w o.i) (aH ?_) (cC ?_)<|aH ?_
  . unfold bF; rw [if_neg OM,if_pos OM]
  . unfold bF; rw [if_neg OM,if_pos OM]
  . unfold bF; rw [if_neg OM,if_pos OM]
 refine aB<|aU<|aE (aF λQ3 n3 x3 y3 z3=>?_)
 refine cF (λmm T H=> ∃ (a:Int) (f:Nat) (v12:Nat),mm=f/\T 2=(aD w)/\T 3=(cR 3)/\T 4=(cR 4)/\T 11=(iV a)/\H 3=(bk 1 47 1 [[(V.sl<|List.map cN t.nd)]])/\H 4=(bk 1 31 2 [[(iV o.i),(V.sl<|List.map cT o.tr)]])/\(H 12).ver=v12/\(0<=a)/\(Rk t f a.toNat)/\(gS t o w t.nd.length 0=gS t o w f a.toNat)) ?_ ?_
 . 
  refine ⟨_,0,t.nd.length,0,J,J,J,J,J,J,J,(cM J),?_,?_,?_⟩
  . omega
  . exact rk0 hv
  . rfl
 intro mm T H ⟨a,f,v12,hmm,t2,t3,t4,t11,h3,h4,h12,ha,hr,hc⟩ Q4 p14 p24 p34;have hlt:=hr.lt hv;have hsf:=hb.sf _ hlt;have hbn:=hb.n;refine aO<|aZ t3 h3 J J<|aI t11<|dQ (i:=a) (aM<|V.sl<|List.map cN t.nd) (aM<|iV a) OM OM J<|dY (cs':=(cN<|aA t.nd a.toNat)) J J<|aJ J J<|jS J<|cE ?_
 refine dW J (λc5=>?_) (λc5=>?_)
 . 
  have d1:(aA t.nd a.toNat).lf=false:=by simpa using c5
  have hin:=qK hv hlt d1;have hou:=hb.ou _ hlt;refine aB (iZ λQ6 n6 x6 y6 z6=>(aU<|aZ t3 h3 J J<|aI t11<|dQ (i:=a) (aM<|V.sl<|List.map cN t.nd) (aM<|iV a) OM OM J<|aJ J J<|bX (i:=12) (n:=v12) (m:=5) J h12 J<|dA J J J J J J J J J<|R_r<|aI t2<|aZ J J J J<|aY J J ?_));refine aL (dD ([w,(aA t.nd a.toNat).sf]) (by simp only [bH,List.append_nil,List.length_append]; omega)) J<|aE<|aO<|aP<|aZ t4 h4 J J<|aL (gM (bH<|[w,(aA t.nd a.toNat).sf]) o.i) J<|aE<|aO<|aP<|cA J J<|cE ?_
  refine aG J (λc7=>?_) λc7=>?_
  . 
   have d2:cP (bH [w,(aA t.nd a.toNat).sf]) o.i≠0:=c7;refine aO<|aP<|aP<|aP<|aE<|aN<|y6 _ _<|p24 _ _<|y3 _ _ ?_
   refine rU (aM<|iV 0) (aM V.nilsl) (aM<|iV<|cP (bH<|[w,(aA t.nd a.toNat).sf]) o.i) (aH ?_) (cC ?_)<|aH ?_
   . have e0:bF t o w=gS t o w f a.toNat:=by unfold bF; rw [if_neg OM,if_neg OM,hc]
     rw [e0,sP hr.pos d1 d2]
   . have e0:bF t o w=gS t o w f a.toNat:=by unfold bF; rw [if_neg OM,if_neg OM,hc]
     rw [e0,sP hr.pos d1 d2]
   . have e0:bF t o w=gS t o w f a.toNat:=by unfold bF; rw [if_neg OM,if_neg OM,hc]
     rw [e0,sP hr.pos d1 d2]
  have d2: ¬cP (bH [w,(aA t.nd a.toNat).sf]) o.i≠0:=c7;refine aB<|aU<|bB t4 h4 J J<|aP<|aL (lD o (bH<|[w,(aA t.nd a.toNat).sf]) ho) J<|aP<|bR J J<|bR J J<|aP<|aE<|aO<|aP<|jS J<|cE ?_
  refine dW J (λc8=>?_) (λc8=>?_)
  . 
   have d3:(dP o<|bH [w,(aA t.nd a.toNat).sf]).isSome=false:=by simpa using c8
   refine fM ?_;refine eZ (λT H=>T 6=(iV 0)/\T 7=(aD<|bH<|[w,(aA t.nd a.toNat).sf])/\T 8=(iV 0)/\H 3=(bk 1 47 1 [[(V.sl<|List.map cN t.nd)]])/\H 4=(bk 1 31 2 [[(iV o.i),(V.sl<|List.map cT o.tr)]])/\H 12=(bk (v12+1) 108 5 [(cN<|aA t.nd a.toNat)])/\True) ?_ ?_
   . 
    refine aP<|aP<|aP<|aP ?_
    exact gD ⟨J,J,J,h3,h4,J,trivial⟩
   intro T H ⟨t6,t7,t8,h3,h4,h12,_⟩;refine aN<|y6 _ _<|p24 _ _<|y3 _ _ ?_
   refine rU t6 t7 t8 (aH ?_) (dM ?_ (λ_=>by simp))<|aH ?_
   . have e0:bF t o w=gS t o w f a.toNat:=by unfold bF; rw [if_neg OM,if_neg OM,hc]
     rw [e0,sK hr.pos d1 d2 d3]
   . have e0:bF t o w=gS t o w f a.toNat:=by unfold bF; rw [if_neg OM,if_neg OM,hc]
     rw [e0,sK hr.pos d1 d2 d3]
   . have e0:bF t o w=gS t o w f a.toNat:=by unfold bF; rw [if_neg OM,if_neg OM,hc]
     rw [e0,sK hr.pos d1 d2 d3]
  have d3:(dP o<|bH [w,(aA t.nd a.toNat).sf]).isSome=true:=by simpa using c8
  have d4:=vO (lR ho) d3;have d5:(bH [w,(aA t.nd a.toNat).sf]).length=w.length+(aA t.nd a.toNat).sf.length:=by simp [bH]
  refine aB ?_;refine eZ (λT H=>T 2=(aD w)/\T 3=(cR 3)/\T 4=(cR 4)/\T 11=(iV a)/\T 12=(V.mp 12 (v12+1) 0 0)/\T 17=(iV ((kD (aA t.nd a.toNat).ou (List.drop w.length<|(dP o<|bH<|[w,(aA t.nd a.toNat).sf]).getD []):Nat):Int))/\T 18=(V.bool<|decide (lxH (aA t.nd a.toNat).ou (List.drop w.length<|(dP o<|bH<|[w,(aA t.nd a.toNat).sf]).getD [])))/\H 3=(bk 1 47 1 [[(V.sl<|List.map cN t.nd)]])/\H 4=(bk 1 31 2 [[(iV o.i),(V.sl<|List.map cT o.tr)]])/\H 12=(bk (v12+1) 108 5 [(cN<|aA t.nd a.toNat)])/\True) ?_ ?_
  . 
   refine bB J J J J<|aP<|aI t2<|bA J<|kT (n:=w.length) (aM<|aD<|(dP o<|bH<|[w,(aA t.nd a.toNat).sf]).getD []) (cS w.length) OM (λ_=>J)<|aL (aAY (aA t.nd a.toNat) (List.drop w.length<|(dP o<|bH<|[w,(aA t.nd a.toNat).sf]).getD []) hin.srt hou) J<|aP<|bR J J<|bR J J<|aP<|aP ?_
   exact gD ⟨t2,t3,t4,t11,J,J,J,h3,h4,J,trivial⟩
  intro T H ⟨t2,t3,t4,t11,t12,t17,t18,h3,h4,h12,_⟩;refine aO<|aI t18<|uQ J<|cE ?_
  refine aG J (λc9=>?_) λc9=>?_
  . 
   have d6: ¬lxH (aA t.nd a.toNat).ou (((dP o<|bH [w,(aA t.nd a.toNat).sf]).getD []).drop w.length):=c9;refine aS<|z6 _ _ _ DE<|p34 _ _ _<|x3 _ _ (.done (aU<|aI t11<|aP<|aP<|aE<|bE ?_))
   refine rU (aM<|iV a) (aM V.nilsl) (aM<|iV 0) (aH ?_) (cC ?_)<|aH ?_
   . have e0:bF t o w=gS t o w f a.toNat:=by unfold bF; rw [if_neg OM,if_neg OM,hc]
     rw [e0,wO hr.pos d1 d2 d3 d6]; exact (Int.toNat_of_nonneg ha).symm
   . have e0:bF t o w=gS t o w f a.toNat:=by unfold bF; rw [if_neg OM,if_neg OM,hc]
     rw [e0,wO hr.pos d1 d2 d3 d6]
   . have e0:bF t o w=gS t o w f a.toNat:=by unfold bF; rw [if_neg OM,if_neg OM,hc]
     rw [e0,wO hr.pos d1 d2 d3 d6]
  have d6:lxH (aA t.nd a.toNat).ou (((dP o<|bH [w,(aA t.nd a.toNat).sf]).getD []).drop w.length):=Decidable.not_not.1 c9;have d7:(aA (aA t.nd a.toNat).kd (kD (aA t.nd a.toNat).ou (((dP o<|bH [w,(aA t.nd a.toNat).sf]).getD []).drop w.length)))∈(aA t.nd a.toNat).kd:=bC (by have:=d6.1; have:=hin.len; omega);have d8:=hin.kr _ d7;have d9:kD (aA t.nd a.toNat).ou (((dP o<|bH [w,(aA t.nd a.toNat).sf]).getD []).drop w.length) < (aA t.nd a.toNat).kd.length:=by have:=d6.1; have:=hin.len; omega
  refine aB<|fO<|aZ t12 h12 J J<|aI t17<|dL (i:=(kD (aA t.nd a.toNat).ou (List.drop w.length<|(dP o<|bH<|[w,(aA t.nd a.toNat).sf]).getD []))) (aM<|aD<|(aA t.nd a.toNat).kd) (cS<|kD (aA t.nd a.toNat).ou (List.drop w.length<|(dP o<|bH<|[w,(aA t.nd a.toNat).sf]).getD []))<|aJ J J<|aE<|n6 _ _ ?_
  refine p14 _ _ _ ?_ ⟨(aA (aA t.nd a.toNat).kd (kD (aA t.nd a.toNat).ou (((dP o<|bH [w,(aA t.nd a.toNat).sf]).getD []).drop w.length))),(f - 1),(v12+1),J,t2,t3,t4,(bG (aM<|iV<|aA ((aA t.nd a.toNat).kd)<|kD (aA t.nd a.toNat).ou (List.drop w.length<|(dP o<|bH<|[w,(aA t.nd a.toNat).sf]).getD [])) JR),h3,h4,(cM h12),?_,?_,?_⟩
  . have:=hr.pos; omega
  . exact d8.1
  . exact hr.step d7 d8.1
  . rw [hc,aCE hr.pos d1 d2 d3 d6]
 have d1:(aA t.nd a.toNat).lf=true:=by simpa using c5
 refine aS<|p34 _ _ _<|x3 _ _ (.done (aU<|aI t11<|aP<|aP<|aE<|bE ?_))
 refine rU (aM<|iV a) (aM V.nilsl) (aM<|iV 0) (aH ?_) (cC ?_)<|aH ?_
 . have e0:bF t o w=gS t o w f a.toNat:=by unfold bF; rw [if_neg OM,if_neg OM,hc]
   rw [e0,oW hr.pos d1]; exact (Int.toNat_of_nonneg ha).symm
 . have e0:bF t o w=gS t o w f a.toNat:=by unfold bF; rw [if_neg OM,if_neg OM,hc]
   rw [e0,oW hr.pos d1]
 . have e0:bF t o w=gS t o w f a.toNat:=by unfold bF; rw [if_neg OM,if_neg OM,hc]
   rw [e0,oW hr.pos d1]
theorem aA5 (l:Ts) (o:Ob) (w:List Int) (ho:jE o=0):bJ Tryz.prog 60 [(V.agg [(iV l.i),(V.sl (List.map cN l.t.nd)),(iV o.i),(V.sl (List.map cT o.tr))]),(aD w)] (V.bool ((dP o w).isSome)):=by
 refine' pK [] [] Tryz.func60 ?e λhB=>?_
 case e=>conv=>lhs; cbv
 dsimp only;refine aU<|cJ (i:=2) (n:=0) (m:=4) (cs:=[(iV l.i),(V.sl<|List.map cN l.t.nd),(iV o.i),(V.sl<|List.map cT o.tr)]) J (cM J) J J J<|aE<|aU<|aZ J J J J<|aP<|aL (lD o w ho) J<|aP<|bR J J<|bR J J<|aP<|aE<|aU ?_
 refine aP<|aE<|bE ?_
 refine aW (aM<|V.bool<|(dP o w).isSome)<|eA SI J
theorem yK (l:List (List Int)) (hl:l.length<=1073741824) (hw: ∀ w∈l,w.length<=1048576):bJ Tryz.prog 61 [(aC l)] (aC (mK l)):=by
 refine' pK [4] [] Tryz.func61 ?e λhB=>?_
 case e=>conv=>lhs; cbv
 dsimp only;refine aU<|aE<|aU<|aP<|aL (aCU l OM OM) J<|aE<|aU<|iD (i:=4) (n:=0) J (cM J)<|zL<|aU<|aP<|bA J<|aP ?_
 refine cE (aF λQ1 n1 x1 y1 z1=>?_);refine cF (λmm T H=> ∃ (k:Nat) (v:Nat),mm=(nV l).length - k/\T 3=(aC<|nV l)/\T 4=(V.ms 4 v 0<|(mxO (nV l) k).length)/\T 9=(aC<|nV l)/\T 10=(iV (((nV l).length:Nat):Int))/\T 11=(iV ((k:Nat):Int))/\H 4=(bz v 54 1<|List.map cL<|mxO (nV l) k)/\(k<=(nV l).length)) ?_ ?_
 . 
  refine ⟨_,0,1,J,J,(bG (aM<|V.ms 4 1 0 0) JR),J,J,(bG (aM<|iV 0) J),(bG (@J Blk<|bz 1 54 1 []) JR),?_⟩
  . omega
 intro mm T H ⟨k,v,hmm,t3,t4,t9,t10,t11,h4,hk⟩ Q2 p12 p22 p32;have q1:=aII (nV l) k;have q2:=aJq l;refine aU<|bY t11 t10<|cE ?_
 refine aG J (λc3=>?_) λc3=>?_
 . 
  refine aB (aF λQ4 n4 x4 y4 z4=>(aU<|aI t11<|dL (i:=k) t9 t11<|aJ J J<|aP<|aE<|aU<|aP<|cD J<|aI t3<|bA J<|fP J J<|aP ?_));refine bN 9 (λT H=>T 3=(aC<|nV l)/\T 4=(V.ms 4 v 0<|(mxO (nV l) k).length)/\T 6=(aD<|aA (nV l) k)/\T 9=(aC<|nV l)/\T 10=(iV (((nV l).length:Nat):Int))/\T 11=(iV ((k:Nat):Int))/\T 30=(V.bool (decide (((k+1:Nat):Int)=(((nV l).length:Nat):Int))||(!hp (aA (nV l)<|k+1) (aA (nV l) k))))/\H 4=(bz v 54 1<|List.map cL<|mxO (nV l) k)/\True) ?_ ?_
  . 
   by_cases g5:((k+1:Nat):Int)=(((nV l).length:Nat):Int)
   . 
    refine bQ (bU g5 J)<|bQ (bU g5 J)<|bQ (bU g5 J)<|bQ (bU g5 J)<|bQ (bU g5 J)<|bQ (bU g5 J)<|bQ (bU g5 J)<|bQ (bU g5 J)<|bP (bU g5 J) J ?_
    exact ⟨t3,t4,J,t9,t10,t11,(aP8 g5),h4,trivial⟩
   . 
    refine aK (bV g5 J)<|aI t3<|aK (bV g5 J)<|aP<|aK (bV g5 J)<|cD J<|aK (bV g5 J)<|dL (i:=(k+1)) (aM<|aC<|nV l) (cS<|k+1)<|aK (bV g5 J)<|aJ J J<|aK (bV g5 J)<|aP<|aK (bV g5 J)<|aL (zU (aA (nV l)<|k+1)<|aA (nV l) k) J<|aK (bV g5 J)<|jS J ?_
    refine bO (bV g5 J) J ?_;exact ⟨t3,t4,J,t9,t10,t11,(aQo g5),h4,trivial⟩
  intro T H ⟨t3,t4,t6,t9,t10,t11,t30,h4,_⟩;refine cE ?_;refine pS t30 (λc6=>?_) (λc6=>?_)
  . 
   have d1:mxC (nV l) k=true:=c6;refine fO<|aI t4<|aI t6<|aY J J<|gF (l:=(mxO (nV l) k)) (f:=cL) (x:=(aA (nV l) k)) (aM<|V.ms 4 v 0<|(mxO (nV l) k).length) h4 JR (aM<|V.sl [[(aD<|aA (nV l) k)]])<|aE<|n4 _ _ (.done (fO<|cD t11<|aE ?_))
   refine p12 _ _ _ ?_ ⟨(k+1),(v+1),J,t3,(bG (aM<|V.ms 4 (v+1) 0<|((mxO (nV l) k).length)+1) (by (rw [aDX d1,List.length_append]; rfl))),t9,t10,(bG (cS<|k+1) JR),(bG (@J Blk<|bz (v+1) 54 1<|List.map cL<|mxO (nV l) k++[(aA (nV l) k)]) (by (rw [aDX d1]; done))),?_⟩
   . omega
   . omega
  have d1:mxC (nV l) k=false:=by unfold mxC; simpa using c6
  refine dH<|n4 _ _ (.done (fO<|cD t11<|aE ?_))
  refine p12 _ _ _ ?_ ⟨(k+1),v,J,t3,(bG t4 (by (rw [aHp d1]; done))),t9,t10,(bG (cS<|k+1) JR),(bG h4 (by (rw [aHp d1]; done))),?_⟩
  . omega
  . omega
 refine aS<|p32 _ _ _<|x1 _ _ ?_
 refine .freeze 4 (.done ?_);refine aU<|aI (aX t4<|mW h4 SI (l:=(mxO (nV l) k)) rfl JR)<|aL (uV (mxO (nV l) k) OM (λw h=>by obtain ⟨i,i1,_,i3⟩:=aE2.1 h; rw [<- i3]; exact hw _<|uZ.1<|bC OM)) rfl<|aE<|bE ?_
 refine aW (aM<|aC<|mH<|mxO (nV l) k)<|dM ?_ (λ_=>by simp)
 . rw [show k=(nV l).length by omega,aSH]
theorem aB6 (l:Ts) (o:Ob) (hb:Bd l.t) (h:tvE l=0) (ho:jE o=0) (hx:(dC l).length<=5000):bJ Tryz.prog 48 [(V.agg [(iV l.i),(V.sl (List.map cN l.t.nd)),(iV o.i),(V.sl (List.map cT o.tr))])] (V.tup [(V.sl (List.map cXt (if pL l o=0 then iU l o else []))),(aC (if pL l o=0 then mK (qra l o) else [])),(iV (pL l o))]):=by
 refine' pK [5,6] [] Tryz.func48 ?e λhB=>?_
 case e=>conv=>lhs; cbv
 dsimp only;obtain ⟨hi1,hi2,hv,hw0,_,hl0⟩:=nG h;have hbn:=hb.n;have hal:=pP l.t.nd;have hxl:=aAe l;have hll:=mP hv

 refine aU<|cJ (i:=1) (n:=0) (m:=4) (cs:=[(iV l.i),(V.sl<|List.map cN l.t.nd),(iV o.i),(V.sl<|List.map cT o.tr)]) J (cM J) J J J<|aP<|aP<|aE<|aU<|iD (i:=5) (n:=0) J (cM J)<|R_r<|iD (i:=6) (n:=0) J (cM J)<|zL<|aU<|cQ J J<|cQ J J ?_
 refine bB J J J J<|aL (oE l.t hb) J<|bA J<|aE (aF λQ1 n1 x1 y1 z1=>?_)
 refine cF (λmm T H=> ∃ (k:Nat) (v:Nat) (w:Nat) (n:Nat),mm=(eM l.t).length - k/\T 1=(cR 1)/\T 5=(V.ms 5 v 0 n)/\T 6=(V.ms 6 w 0<|(qrs l o n).length)/\T 17=(aC<|eM l.t)/\T 18=(iV (((eM l.t).length:Nat):Int))/\T 19=(iV ((k:Nat):Int))/\H 1=(bk 1 66 4 [[(iV l.i),(V.sl<|List.map cN l.t.nd),(iV o.i),(V.sl<|List.map cT o.tr)]])/\H 5=(bz v 101 2<|List.map cXt<|eI (xtK l o) n)/\H 6=(bz w 54 1<|List.map cL<|qrs l o n)/\(k<=(eM l.t).length)/\(n=k*l.i.toNat)/\(n<=(dC l).length)/\(pL l o=fe (sqE l o) n ((dC l).length - n))) ?_ ?_
 . 
  refine ⟨_,0,1,1,0,J,J,J,(bG (aM<|V.ms 6 1 0 0) JR),(bG (aM<|aC (if iB l.t=0 then mH (fT l.t.nd) else [])) JR),(bG (cS<|(if iB l.t=0 then mH (fT l.t.nd) else []).length) JR),(bG (aM<|iV 0) J),J,(bG (@J Blk<|bz 1 101 2 []) JR),(bG (@J Blk<|bz 1 54 1 []) JR),?_,?_,?_,?_⟩
  . omega
  . omega
  . omega
  . rfl
 intro mm T H ⟨k,v,w,n,hmm,t1,t5,t6,t17,t18,t19,h1,h5,h6,hk,hn,hn2,hc⟩ Q2 p12 p22 p32;refine aU<|bY t19 t18<|cE ?_
 refine aG J (λc3=>?_) λc3=>?_
 . 
  refine aB (aF λQ4 n4 x4 y4 z4=>(aU<|dL (i:=k) t17 t19<|aJ J J<|aE<|aU<|cQ t1 h1<|aZ J h1 J J<|aE (iZ λQ5 n5 x5 y5 z5=>?_)));refine cF (λmm T H=> ∃ (j:Nat) (v2:Nat) (w2:Nat) (m:Nat),mm=l.i.toNat - j/\T 1=(cR 1)/\T 5=(V.ms 5 v2 0 m)/\T 6=(V.ms 6 w2 0<|(qrs l o m).length)/\T 8=(aD<|aA (eM l.t) k)/\T 17=(aC<|eM l.t)/\T 18=(iV (((eM l.t).length:Nat):Int))/\T 19=(iV ((k:Nat):Int))/\T 25=(iV l.i)/\T 26=(iV ((j:Nat):Int))/\H 1=(bk 1 66 4 [[(iV l.i),(V.sl<|List.map cN l.t.nd),(iV o.i),(V.sl<|List.map cT o.tr)]])/\H 5=(bz v2 101 2<|List.map cXt<|eI (xtK l o) m)/\H 6=(bz w2 54 1<|List.map cL<|qrs l o m)/\(j<=l.i.toNat)/\(m=k*l.i.toNat+j)/\(m<=(dC l).length)/\(pL l o=fe (sqE l o) m ((dC l).length - m))) ?_ ?_
  . 
   refine ⟨_,0,v,w,n,J,t1,t5,t6,(bG (aM<|aD<|aA (eM l.t) k) JR),t17,t18,t19,J,(bG (aM<|iV 0) J),h1,h5,h6,?_,?_,?_,?_⟩
   . omega
   . omega
   . omega
   . exact hc
  intro mm T H ⟨j,v2,w2,m,hmm,t1,t5,t6,t8,t17,t18,t19,t25,t26,h1,h5,h6,hj,hm,hm2,hc2⟩ Q6 p16 p26 p36;have q2:(k+1)*l.i.toNat<=(eM l.t).length*l.i.toNat:=Nat.mul_le_mul_right _ OM;rw [Nat.succ_mul] at q2;have q1:=aRm l o m;refine aU<|bY t26 t25<|cE ?_
  refine aG J (λc7=>?_) λc7=>?_
  . 
   have d0:aA (dC l) m=bH [aA (eM l.t) k,[(j:Int)]]:=by rw [hm]; exact aEv OM OM
   have r1:=uE h<|bC (show m < (dC l).length by omega)
   have r2:=(aBV h<|bC (show k < (eM l.t).length by omega)).1;refine aB (aF λQ8 n8 x8 y8 z8=>(aU<|aI t26<|aE<|aU<|aI t8<|aP<|aY J J<|aY J J<|aEu (bI J dR) (by have q:=dD [aA (eM l.t) k,[(j:Int)]] (by simp only [bH,List.append_nil,List.length_append,List.length_cons,List.length_nil]; omega); rw [<- d0] at q; exact q)<|aE<|aU<|cQ t1 h1 ?_));refine aZ J h1 J J<|aZ t1 h1 J J<|aP<|aL (aC8 l.t o (aA (dC l) m) hb ho OM) J<|aP<|bR J J<|bR J J<|bR J J<|aP<|aP<|aE<|aO ?_
   refine aP<|cA J J<|cE ?_
   refine aG J (λc9=>?_) λc9=>?_
   . 
    have d1:sqE l o m≠0:=c9;refine aO<|aP<|aP<|aP<|aE<|aN<|y8 _ _<|p26 _ _<|y5 _ _<|y4 _ _<|p22 _ _<|y1 _ _ ?_
    refine rU (aM V.nilsl) (aM V.nilsl) (aM<|iV<|(bF l.t o<|aA (dC l) m).2.2) (cC ?_) (cC ?_)<|aH ?_
    . rw [if_neg (by rw [hc2,gH (e:=sqE l o) d1 OM]; exact d1)]
    . rw [if_neg (by rw [hc2,gH (e:=sqE l o) d1 OM]; exact d1)]
    . rw [hc2,gH (e:=sqE l o) d1 OM]; rfl
   have d1:sqE l o m=0:=Decidable.not_not.1 c9;refine aB<|aO<|bB t1 h1 J J<|aP<|aL (aA5 l o (aA (dC l) m) ho) J<|jS J<|cE ?_
   refine dW J (λc10=>?_) (λc10=>?_)
   . 
    have d2: ¬(dP o<|aA (dC l) m).isSome=true:=by simpa using c10
    refine aU<|aI t6<|aP<|aY J J<|gF (l:=(qrs l o m)) (f:=cL) (x:=(aA (dC l) m)) (aM<|V.ms 6 w2 0<|(qrs l o m).length) h6 JR (aM<|V.sl [[(aD<|aA (dC l) m)]])<|aE<|aO<|aP<|bA J<|fZ J J<|cE ?_
    refine aG J (λc11=>?_) λc11=>?_
    . 
     have d3:0 < (bF l.t o<|aA (dC l) m).2.1.length:=OM
     refine eZ (λT H=>T 1=(cR 1)/\T 5=(V.ms 5 v2 0 m)/\T 6=(V.ms 6 (w2+2) 0<|((qrs l o m).length)+2)/\T 8=(aD<|aA (eM l.t) k)/\T 10=(aD<|aA (dC l) m)/\T 11=(iV<|(bF l.t o<|aA (dC l) m).1)/\T 17=(aC<|eM l.t)/\T 18=(iV (((eM l.t).length:Nat):Int))/\T 19=(iV ((k:Nat):Int))/\T 25=(iV l.i)/\T 26=(iV ((j:Nat):Int))/\H 1=(bk 1 66 4 [[(iV l.i),(V.sl<|List.map cN l.t.nd),(iV o.i),(V.sl<|List.map cT o.tr)]])/\H 5=(bz v2 101 2<|List.map cXt<|eI (xtK l o) m)/\H 6=(bz (w2+2) 54 1<|List.map cL<|qrs l o m++[aA (dC l) m]++[(bF l.t o<|aA (dC l) m).2.1])/\True) ?_ ?_
     . 
      refine aP<|aP<|aY J J<|gF (l:=(qrs l o m++[aA (dC l) m])) (f:=cL) (x:=((bF l.t o<|aA (dC l) m).2.1)) (aM<|V.ms 6 (w2+1) 0<|((qrs l o m).length)+1) (@J Blk<|bz (w2+1) 54 1<|List.map cL<|qrs l o m++[aA (dC l) m]) SI (aM<|V.sl [[(aD<|(bF l.t o<|aA (dC l) m).2.1)]])<|aP ?_
      exact gD ⟨t1,t5,J,t8,J,J,t17,t18,t19,t25,t26,h1,h5,J,trivial⟩
     intro T H ⟨t1,t5,t6,t8,t10,t11,t17,t18,t19,t25,t26,h1,h5,h6,_⟩;refine fO<|aI t5<|aI t10<|aI t11<|bZ J J<|aY J J<|gF (l:=(eI (xtK l o) m)) (f:=cXt) (x:=(⟨aA (dC l) m,(bF l.t o<|aA (dC l) m).1⟩:Xt)) (aM<|V.ms 5 v2 0 m) h5 (by exact (bS _ _).symm) (aM<|V.sl [[(aD<|aA (dC l) m),(iV<|(bF l.t o<|aA (dC l) m).1)]])<|aE<|n8 _ _ (.done (fO<|cD t26<|aE ?_))
     refine p16 _ _ _ ?_ ⟨(j+1),(v2+1),(w2+2),(m+1),J,t1,(bG (aM<|V.ms 5 (v2+1) 0<|m+1) JR),(bG t6 (by (rw [nD OM]; unfold qr1; simp only [d2,d3,if_true,if_false,List.length_append]; rfl))),t8,t17,t18,t19,t25,(bG (cS<|j+1) JR),h1,(bG (@J Blk<|bz (v2+1) 101 2<|List.map cXt<|eI (xtK l o) m++[(⟨aA (dC l) m,(bF l.t o<|aA (dC l) m).1⟩:Xt)]) (by (rw [fK]; rfl))),(bG h6 (by (rw [nD OM]; unfold qr1; simp [d2,d3]; done))),?_,?_,?_,?_⟩
     . omega
     . omega
     . omega
     . omega
     . rw [hc2,gW (e:=sqE l o) (by exact d1) OM]
    have d3: ¬0 < (bF l.t o<|aA (dC l) m).2.1.length:=OM
    refine aB ?_;refine tR (λT H=>T 1=(cR 1)/\T 5=(V.ms 5 (v2+1) 0<|m+1)/\T 6=(V.ms 6 (w2+1) 0<|((qrs l o m).length)+1)/\T 8=(aD<|aA (eM l.t) k)/\T 17=(aC<|eM l.t)/\T 18=(iV (((eM l.t).length:Nat):Int))/\T 19=(iV ((k:Nat):Int))/\T 25=(iV l.i)/\T 26=(iV ((j:Nat):Int))/\H 1=(bk 1 66 4 [[(iV l.i),(V.sl<|List.map cN l.t.nd),(iV o.i),(V.sl<|List.map cT o.tr)]])/\H 5=(bz (v2+1) 101 2<|List.map cXt<|eI (xtK l o) m++[(⟨aA (dC l) m,(bF l.t o<|aA (dC l) m).1⟩:Xt)])/\H 6=(bz (w2+1) 54 1<|List.map cL<|qrs l o m++[aA (dC l) m])/\True) ?_ ?_
    . 
     refine aI t5<|aP<|aP<|bZ J J<|aY J J<|gF (l:=(eI (xtK l o) m)) (f:=cXt) (x:=(⟨aA (dC l) m,(bF l.t o<|aA (dC l) m).1⟩:Xt)) (aM<|V.ms 5 v2 0 m) h5 (by exact (bS _ _).symm) (aM<|V.sl [[(aD<|aA (dC l) m),(iV<|(bF l.t o<|aA (dC l) m).1)]])<|aP ?_
     exact gD ⟨t1,J,J,t8,t17,t18,t19,t25,t26,h1,J,J,trivial⟩
    intro T H ⟨t1,t5,t6,t8,t17,t18,t19,t25,t26,h1,h5,h6,_⟩;refine n8 _ _ (.done (fO<|cD t26<|aE ?_));refine p16 _ _ _ ?_ ⟨(j+1),(v2+1),(w2+1),(m+1),J,t1,(bG t5 JR),(bG t6 (by (rw [nD OM]; unfold qr1; simp only [d2,d3,if_true,if_false,List.length_append]; rfl))),t8,t17,t18,t19,t25,(bG (cS<|j+1) JR),h1,(bG h5 (by (rw [fK]; rfl))),(bG h6 (by (rw [nD OM]; unfold qr1; simp [d2,d3]; done))),?_,?_,?_,?_⟩
    . omega
    . omega
    . omega
    . omega
    . rw [hc2,gW (e:=sqE l o) (by exact d1) OM]
   have d2:(dP o<|aA (dC l) m).isSome=true:=by simpa using c10
   refine aB<|aO<|aP<|bA J<|fZ J J<|cE ?_
   refine aG J (λc12=>?_) λc12=>?_
   . 
    have d3:0 < (bF l.t o<|aA (dC l) m).2.1.length:=OM
    refine aU<|aI t6<|aP<|aY J J<|gF (l:=(qrs l o m)) (f:=cL) (x:=((bF l.t o<|aA (dC l) m).2.1)) (aM<|V.ms 6 w2 0<|(qrs l o m).length) h6 JR (aM<|V.sl [[(aD<|(bF l.t o<|aA (dC l) m).2.1)]])<|aE ?_
    refine tR (λT H=>T 1=(cR 1)/\T 5=(V.ms 5 (v2+1) 0<|m+1)/\T 6=(V.ms 6 (w2+1) 0<|((qrs l o m).length)+1)/\T 8=(aD<|aA (eM l.t) k)/\T 17=(aC<|eM l.t)/\T 18=(iV (((eM l.t).length:Nat):Int))/\T 19=(iV ((k:Nat):Int))/\T 25=(iV l.i)/\T 26=(iV ((j:Nat):Int))/\H 1=(bk 1 66 4 [[(iV l.i),(V.sl<|List.map cN l.t.nd),(iV o.i),(V.sl<|List.map cT o.tr)]])/\H 5=(bz (v2+1) 101 2<|List.map cXt<|eI (xtK l o) m++[(⟨aA (dC l) m,(bF l.t o<|aA (dC l) m).1⟩:Xt)])/\H 6=(bz (w2+1) 54 1<|List.map cL<|qrs l o m++[(bF l.t o<|aA (dC l) m).2.1])/\True) ?_ ?_
    . 
     refine aI t5<|aP<|aP<|bZ J J<|aY J J<|gF (l:=(eI (xtK l o) m)) (f:=cXt) (x:=(⟨aA (dC l) m,(bF l.t o<|aA (dC l) m).1⟩:Xt)) (aM<|V.ms 5 v2 0 m) h5 (by exact (bS _ _).symm) (aM<|V.sl [[(aD<|aA (dC l) m),(iV<|(bF l.t o<|aA (dC l) m).1)]])<|aP ?_
     exact gD ⟨t1,J,J,t8,t17,t18,t19,t25,t26,h1,J,J,trivial⟩
    intro T H ⟨t1,t5,t6,t8,t17,t18,t19,t25,t26,h1,h5,h6,_⟩;refine n8 _ _ (.done (fO<|cD t26<|aE ?_));refine p16 _ _ _ ?_ ⟨(j+1),(v2+1),(w2+1),(m+1),J,t1,(bG t5 JR),(bG t6 (by (rw [nD OM]; unfold qr1; simp only [d2,d3,if_true,if_false,List.length_append]; rfl))),t8,t17,t18,t19,t25,(bG (cS<|j+1) JR),h1,(bG h5 (by (rw [fK]; rfl))),(bG h6 (by (rw [nD OM]; unfold qr1; simp [d2,d3]; done))),?_,?_,?_,?_⟩
    . omega
    . omega
    . omega
    . omega
    . rw [hc2,gW (e:=sqE l o) (by exact d1) OM]
   have d3: ¬0 < (bF l.t o<|aA (dC l) m).2.1.length:=OM
   refine aB<|fO<|aI t5<|aP<|aP<|bZ J J<|aY J J<|gF (l:=(eI (xtK l o) m)) (f:=cXt) (x:=(⟨aA (dC l) m,(bF l.t o<|aA (dC l) m).1⟩:Xt)) (aM<|V.ms 5 v2 0 m) h5 (by exact (bS _ _).symm) (aM<|V.sl [[(aD<|aA (dC l) m),(iV<|(bF l.t o<|aA (dC l) m).1)]])<|aE<|n8 _ _ (.done ?_)
   refine tR (λT H=>T 1=(cR 1)/\T 5=(V.ms 5 (v2+1) 0<|m+1)/\T 6=(V.ms 6 w2 0<|(qrs l o m).length)/\T 8=(aD<|aA (eM l.t) k)/\T 17=(aC<|eM l.t)/\T 18=(iV (((eM l.t).length:Nat):Int))/\T 19=(iV ((k:Nat):Int))/\T 25=(iV l.i)/\T 26=(iV ((j+1:Nat):Int))/\H 1=(bk 1 66 4 [[(iV l.i),(V.sl<|List.map cN l.t.nd),(iV o.i),(V.sl<|List.map cT o.tr)]])/\H 5=(bz (v2+1) 101 2<|List.map cXt<|eI (xtK l o) m++[(⟨aA (dC l) m,(bF l.t o<|aA (dC l) m).1⟩:Xt)])/\H 6=(bz w2 54 1<|List.map cL<|qrs l o m)/\True) ?_ ?_
   . 
    refine cD t26<|aP ?_
    exact gD ⟨t1,J,t6,t8,t17,t18,t19,t25,J,h1,J,h6,trivial⟩
   intro T H ⟨t1,t5,t6,t8,t17,t18,t19,t25,t26,h1,h5,h6,_⟩;refine p16 _ _ _ ?_ ⟨(j+1),(v2+1),w2,(m+1),J,t1,(bG t5 JR),(bG t6 (by (rw [nD OM]; unfold qr1; simp only [d2,d3,if_true,if_false,List.length_append]; rfl))),t8,t17,t18,t19,t25,(bG t26 JR),h1,(bG h5 (by (rw [fK]; rfl))),(bG h6 (by (rw [nD OM]; unfold qr1; simp [d2,d3]; done))),?_,?_,?_,?_⟩
   . omega
   . omega
   . omega
   . omega
   . rw [hc2,gW (e:=sqE l o) (by exact d1) OM]
  refine aS<|p36 _ _ _<|x5 _ _<|n4 _ _ (.done (fO<|cD t19<|aE ?_))
  refine p12 _ _ _ ?_ ⟨(k+1),v2,w2,m,J,t1,t5,t6,t17,t18,(bG (cS<|k+1) JR),h1,h5,h6,?_,?_,?_,?_⟩
  . omega
  . omega
  . rw [Nat.succ_mul]; omega
  . omega
  . exact hc2
 have hz:pL l o=0:=by rw [hc,jK (by rw [hxl,hn,show k=(eM l.t).length by omega]; exact Nat.le_refl _)]
 have hnx:n=(dC l).length:=by rw [hxl,hn,show k=(eM l.t).length by omega]
 have hq:=aNX (l:=l) (o:=o) (k:=n) OM;have hql:=aJW o h;refine aS<|p32 _ _ _<|x1 _ _ ?_
 refine .freeze 6 (.done ?_);refine aU<|aI (aX t5<|dV DE)<|aI (aX t6<|mW h6 SI (l:=(qrs l o n)) J JR)<|aL (yK (qrs l o n) (by rw [hq]; omega) (by rw [hq]; exact λw hw=>aNt h hw)) J<|aP<|aP<|aE<|bE ?_
 refine rU (aM<|V.ms 5 v 0 n) (aM<|aC<|mK<|qrs l o n) (aM<|iV 0) (mI (aQ (id:=6) h5 DE) SI (l:=(eI (xtK l o) n)) J (by exact (bS _ _).symm) (λ_=>by simp) ?_) (dM ?_ (λ_=>by simp))<|aH ?_
 . rw [if_pos hz,hnx]; rfl
 . rw [if_pos hz,hq]
 . exact hz.symm
theorem xP (l:Ts) (o:Ob) (n:Int) (h0:0<=n) (h1:n < l.t.nd.length):bJ Tryz.prog 49 [(V.agg [(iV l.i),(V.sl (List.map cN l.t.nd)),(iV o.i),(V.sl (List.map cT o.tr))]),(iV n)] (V.bool ((aA l.t.nd n.toNat).lf)):=by
 refine' pK [] [] Tryz.func49 ?e λhB=>?_
 case e=>conv=>lhs; cbv
 dsimp only;refine aU<|cJ (i:=2) (n:=0) (m:=4) (cs:=[(iV l.i),(V.sl<|List.map cN l.t.nd),(iV o.i),(V.sl<|List.map cT o.tr)]) J (cM J) J J J<|aE<|aU<|cQ J J<|cQ J J<|aZ J J J J<|aP<|dQ (i:=n) (aM<|V.sl<|List.map cN l.t.nd) (aM<|iV n) OM OM J<|dY (cs':=(cN<|aA l.t.nd n.toNat)) J J<|aJ J J<|aE<|bE ?_
 refine aW (aM<|V.bool<|(aA l.t.nd n.toNat).lf)<|cK ?_
 . rfl
theorem aCI (t:Dt) (n:Int) (b:Bool):bJ Tryz.prog 97 [(V.agg [(V.sl (List.map cN t.nd))]),(iV n),(V.bool b)] (iV (noE t n b)):=by
 refine' pK [] [] Tryz.func97 ?e λhB=>?_
 case e=>conv=>lhs; cbv
 dsimp only;refine aU<|cJ (i:=3) (n:=0) (m:=1) (cs:=[(V.sl<|List.map cN t.nd)]) J (cM J) J J J<|aE (aF λQ1 n1 x1 y1 z1=>(aU<|aP<|bY J J<|aP ?_))
 refine bN 6 (λT H=>T 1=(iV n)/\T 2=(V.bool b)/\T 3=(cR 3)/\T 16=(V.bool<|decide ((n < (0:Int))\/(((t.nd.length:Nat):Int)<=n)))/\H 3=(bk 1 47 1 [[(V.sl<|List.map cN t.nd)]])/\True) ?_ ?_
 . 
  by_cases g2:n < (0:Int)
  . 
   refine bQ (bU g2 J)<|bQ (bU g2 J)<|bQ (bU g2 J)<|bQ (bU g2 J)<|bQ (bU g2 J)<|bP (bU g2 J) J ?_
   exact ⟨J,J,J,(fB g2),J,trivial⟩
  . 
   refine aK (bV g2 J)<|aP<|aK (bV g2 J)<|cQ J J<|aK (bV g2 J)<|bB J J J J<|aK (bV g2 J)<|bA J<|aK (bV g2 J)<|jB J J<|bO (bV g2 J) J ?_
   exact ⟨J,J,J,(fC g2),J,trivial⟩
 intro T H ⟨t1,t2,t3,t16,h3,_⟩;refine aI t16<|cE ?_
 refine gE J (λc3=>?_) λc3=>?_
 . 
  refine aU<|aE<|bE<|y1 _ _ ?_
  refine aW (aM<|iV 2)<|aH ?_
  . rw [noE,if_pos OM]
 refine aU<|aZ t3 h3 J J<|aI t1<|dQ (i:=n) (aM<|V.sl<|List.map cN t.nd) (aM<|iV n) OM OM J<|dY (cs':=(cN<|aA t.nd n.toNat)) J J<|aJ J J<|aI t2<|aQx (x:=((aA t.nd n.toNat).lf)) (y:=b) J J<|aE ?_
 refine pS J (λc4=>?_) (λc4=>?_)
 . 
  have d1:(aA t.nd n.toNat).lf≠b:=by simpa using c4
  refine aU<|aE<|bE<|y1 _ _ ?_
  refine aW (aM<|iV 10)<|aH ?_
  . rw [noE,if_neg OM,if_pos d1]
 have d1: ¬((aA t.nd n.toNat).lf≠b):=by simpa using c4
 refine dH<|n1 _ _ (.done (aU<|aE<|bE ?_))
 refine aW (aM<|iV 0)<|aH ?_
 . rw [noE,if_neg OM,if_neg d1]
def aRw:SF:=⟨9,[.tmp 4],.seq (.reg [sO 4 (.mv (.c (.bool false)))]) (.seq (.reg [qM 5 0,qM 6 1,sO 7 (.call false 53 [.t 5,.t 6]),qC 8 .geq 7 0,qM 4 8]) (.ret))⟩
theorem aO7:lX Tryz.prog ⟨[101,102,103,111,112,126,130,155,156,157,158,159,163,165,188,193,197,201],[],[],[]⟩ Tryz.f183=some aRw:=by kernel_rfl
def aQu:SC:=.seq (.reg [qP 9 .lss 8 7]) (.seq (.cond (.t 9) (.skip) (.exit 0)) (.seq (.block 1 (.seq (.reg [qM 10 8,qM 5 10]) (.seq (.reg [qM 11 1,qM 12 0,qM 13 5,qA 14 1 12 13,ql 15 14,sO 16 (.callv false (.t 11) [.t 15])]) (.cond (.t 16) (.seq (.reg [qM 17 5,qM 4 17]) (.ret)) (.skip))))) (.reg [qC 18 .add 8 1,qM 8 18])))
def s53:SF:=⟨19,[.tmp 4],.seq (.reg [qI 4 0]) (.seq (.seq (.reg [qM 6 0,qN 7 6,qI 8 0]) (.block 0 (.loop aQu))) (.seq (.reg [sO 4 (.mv (.c (.int .i64 (-1))))]) (.ret)))⟩
theorem aQ5:lX Tryz.prog ⟨[101,102,103,111,112,126,130,155,156,157,158,159,163,165,188,193,197,201],[],[],[]⟩ Tryz.f53=some s53:=by kernel_rfl
theorem aDb (p:(List Int)->Bool) (w:List (List Int)) (g:Nat) (caps:List V) (hca:fG caps=true) (hpu:gB caps=true) (hq: ∀ k,k < w.length->bJ Tryz.prog g (aD (aA w k)::caps) (.bool (p (aA w k)))):bJ Tryz.prog 53 [(aC w),(V.fn g [] caps)] (iV (fi (λjx=>p (aA w jx)) 0 w.length)):=by
 refine mL true 6 Tryz.func53 aQ5 (by kernel_rfl) (by simp [s53]) (by simp [hpu]) SI λhB=>?_;simp only [mD,lP,jO,lV,mB,pC,lT,jR,implies_true,and_true,true_and] at hB;unfold s53;dsimp only;refine aU<|aE<|aO<|aP<|bA J<|aE (aF λQ1 n1 x1 y1 z1=>?_)
 refine cF (λmm T H=> ∃ (k:Nat),mm=w.length - k/\T 0=(aC w)/\T 1=(V.fn g [] caps)/\T 7=(iV ((w.length:Nat):Int))/\T 8=(iV ((k:Nat):Int))/\(k<=w.length)/\(fi (λj=>p<|aA w j) 0 w.length=fi (λj=>p<|aA w j) k (w.length - k))) ?_ ?_
 . 
  refine ⟨_,0,J,J,J,J,(bG (aM<|iV 0) J),?_,?_⟩
  . omega
  . rfl
 intro mm T H ⟨k,hmm,t0,t1,t7,t8,hk,hc⟩ Q2 p12 p22 p32;unfold aQu;refine aU<|bY t8 t7<|cE ?_
 refine aG J (λc3=>?_) λc3=>?_
 . 
  refine aB (aF λQ4 n4 x4 y4 z4=>(aU<|aI t8<|aE<|aU<|aI t1<|aI t0<|aP<|dL (i:=k) (aM<|aC w) (cS k)<|aJ J J<|iP (aM<|V.fn g [] caps) (bI (aM<|aD<|aA w k) dR) (hq k OM) (eD _ _ (by simp [hca])) (by simp [hpu]) (Or.inl (by simp [hpu]))<|cE ?_));refine pS J (λc5=>?_) (λc5=>?_)
  . 
   have d1:=c5;refine aU<|aP<|aE<|bE<|y4 _ _<|p22 _ _<|y1 _ _ ?_
   refine aW (cS k)<|aH ?_
   . rw [hc,qZ (by exact d1) OM]
  have d1:=c5;refine dH<|n4 _ _ (.done (fO<|cD t8<|aE ?_))
  refine p12 _ _ _ ?_ ⟨(k+1),J,t0,t1,t7,(bG (cS<|k+1) JR),?_,?_⟩
  . omega
  . omega
  . rw [hc,mX (by exact d1) OM]
 refine aS<|p32 _ _ _<|x1 _ _ (.done (aU<|aE<|bE ?_))
 refine aW (aM<|iV (-1))<|aH ?_
 . rw [hc,pF OM]
theorem aKi (p:(List Int)->Bool) (w:List (List Int)) (g:Nat) (caps:List V) (hca:fG caps=true) (hpu:gB caps=true) (hq: ∀ k,k < w.length->bJ Tryz.prog g (aD (aA w k)::caps) (.bool (p (aA w k)))):bJ Tryz.prog 183 [(aC w),(V.fn g [] caps)] (V.bool (decide (0<=fi (λjx=>p (aA w jx)) 0 w.length))):=by
 refine mL true 6 Tryz.func183 aO7 (by kernel_rfl) (by simp [aRw]) (by simp [hpu]) SI λhB=>?_;simp only [mD,lP,jO,lV,mB,pC,lT,jR,implies_true,and_true,true_and] at hB;unfold aRw;dsimp only;refine aU<|aE<|aU<|aP<|aP<|kS (bI (aM<|aC w)<|bI (aM<|V.fn g [] caps) dR) (aDb p w g caps hca hpu hq) (eD _ _ (by simp [hca,hpu,-List.map_take,-List.map_drop,-List.map_append,-List.map_reverse])) (by simp [hca,hpu,-List.map_take,-List.map_drop,-List.map_append,-List.map_reverse]) (Or.inl (by simp [hca,hpu,-List.map_take,-List.map_drop,-List.map_append,-List.map_reverse]))<|jB J J<|aE<|bE ?_
 refine aW (aM<|V.bool<|decide ((0:Int)<=(fi (λjx=>p<|aA w jx) 0 w.length)))<|cK ?_
 . first|rfl|omega|simp_all
theorem nC (a b:List Int):bJ Tryz.prog 55 [(aD a),(aD b)] (V.bool (decide (a=b))):=by
 refine' pK [] [] Tryz.func55 ?e λhB=>?_
 case e=>conv=>lhs; cbv
 dsimp only;refine aU<|aE<|aO<|aP<|bA J<|aP<|bA J<|cA J J<|cE ?_
 refine aG J (λc1=>?_) λc1=>?_
 . 
  refine aO<|aE<|aN ?_
  refine aW (aM<|V.bool false)<|cK ?_
  . exact (decide_eq_false (λe=>by subst e; omega)).symm
 refine aB<|aO<|aP<|bA J<|aE (aF λQ2 n2 x2 y2 z2=>?_)
 refine cF (λmm T H=> ∃ (k:Nat),mm=a.length - k/\T 0=(aD a)/\T 1=(aD b)/\T 12=(iV ((a.length:Nat):Int))/\T 13=(iV ((k:Nat):Int))/\(k<=a.length)/\(a.length=b.length)/\(∀ j,j < k->aA a j=aA b j)) ?_ ?_
 . 
  refine ⟨_,0,J,J,J,J,(bG (aM<|iV 0) J),?_,?_,?_⟩
  . omega
  . omega
  . intro j hj; omega
 intro mm T H ⟨k,hmm,t0,t1,t12,t13,hk,hl,hc⟩ Q3 p13 p23 p33;refine aU<|bY t13 t12<|cE ?_
 refine aG J (λc4=>?_) λc4=>?_
 . 
  refine aB (aF λQ5 n5 x5 y5 z5=>(aU<|aI t13<|aE<|aU<|aI t0<|aP<|dL (i:=k) (aM<|aD a) (cS k)<|aJ J J<|aI t1<|aP<|dL (i:=k) (aM<|aD b) (cS k)<|aJ J J<|cA J J ?_));refine cE ?_;refine gE J (λc6=>?_) λc6=>?_
  . 
   refine aU<|aE<|bE<|y5 _ _<|p23 _ _<|y2 _ _ ?_
   refine aW (aM<|V.bool false)<|cK ?_
   . exact (decide_eq_false (λe=>by subst e; omega)).symm
  refine dH<|n5 _ _ (.done (fO<|cD t13<|aE ?_))
  refine p13 _ _ _ ?_ ⟨(k+1),J,t0,t1,t12,(bG (cS<|k+1) JR),?_,?_,?_⟩
  . omega
  . omega
  . omega
  . intro j hj
    by_cases e:j=k
    . subst e; omega
    . exact hc j OM
 refine aS<|p33 _ _ _<|x2 _ _ (.done (aU<|aE<|bE ?_))
 refine aW (aM<|V.bool true)<|cK ?_
 . exact (decide_eq_true (fU hl λj hj=>hc j OM)).symm
theorem aKY (v w:List Int):bJ Tryz.prog 184 [(aD v),(V.pp [(aD w)])] (V.bool (decide (v=w))):=by
 refine' pK [] [] Tryz.func184 ?e λhB=>?_
 case e=>conv=>lhs; cbv
 dsimp only;refine aU<|aE<|aU<|aP<|aJ J J<|aL (nC v w) J<|aE<|bE ?_
 refine aW (aM<|V.bool<|decide (v=w))<|eA SI J
theorem aMM (l:List (List Int)) (w:List Int):bJ Tryz.prog 146 [(aC l),(aD w)] (V.bool (decide (w∈l))):=by
 refine' pK [] [] Tryz.func146 ?e λhB=>?_
 case e=>conv=>lhs; cbv
 dsimp only;refine aU<|cJ (i:=3) (n:=0) (m:=1) (cs:=[(aD w)]) J (cM J) J J J<|aE<|aU<|aP<|zX (bI J dR)<|kS (bI (aM<|aC l)<|bI (aM<|V.fn 184 [] [(cR 3)]) dR) (aKi (λv=>decide (v=w)) l 184 ([(V.pp [(aD w)])]) SI SI (λk _=>aKY (aA l k) w)) (cO (dN 6 _ (by simp [-List.map_take,-List.map_drop,-List.map_append,-List.map_reverse]))<|cO (aEz (@J Blk<|bk 1 54 1 [[(aD w)]]) (by simp [-List.map_take,-List.map_drop,-List.map_append,-List.map_reverse])) J) (by simp [-List.map_take,-List.map_drop,-List.map_append,-List.map_reverse]) (Or.inr J)<|aE<|bE ?_
 refine aW (aM<|V.bool<|decide (0<=fi (λjx=>(λv=>decide (v=w)) (aA l jx)) 0 l.length))<|cK ?_
 . exact decide_eq_decide.2 aRh
theorem aAR (t:Dt) (w:List Int) (hb:Bd t):bJ Tryz.prog 100 [(V.agg [(V.sl (List.map cN t.nd))]),(aD w)] (iV (fsE t w)):=by
 refine' pK [] [] Tryz.func100 ?e λhB=>?_
 case e=>conv=>lhs; cbv
 dsimp only;refine aU<|cJ (i:=2) (n:=0) (m:=1) (cs:=[(V.sl<|List.map cN t.nd)]) J (cM J) J J J<|aE<|aO<|aP<|aL (gM w (64:Int)) J<|aE<|aO<|aP<|cA J J<|cE ?_
 refine aG J (λc1=>?_) λc1=>?_
 . 
  refine aO<|aP<|aE<|aN ?_
  refine aW (aM<|iV<|cP w (64:Int))<|aH ?_
  . rw [fsE,if_pos OM]
 refine aB<|aO<|bB J J J J<|aL (uC t hb) J<|aP<|aL (aMM (fT t.nd) w) J<|cE ?_
 refine aG J (λc2=>?_) λc2=>?_
 . 
  have d1:w∈fT t.nd:=by simpa using c2
  refine aO<|aE<|aN ?_
  refine aW (aM<|iV 7)<|aH ?_
  . rw [fsE,if_neg OM,if_pos d1]
 have d1: ¬(w∈fT t.nd):=by simpa using c2
 refine aB<|aU<|aE<|bE ?_
 refine aW (aM<|iV 0)<|aH ?_
 . rw [fsE,if_neg OM,if_neg d1]
end
section
open Go Go.Proofs
attribute [local irreducible] aBa
theorem aMs (t:Dt) (u1 u2 u5 u12 u28 u58:Nat) (Hi:aT) (hb:Bd t) (h201:(Hi 201).ver=u1) (h202:(Hi 202).ver=u2) (h205:(Hi 205).ver=u5) (h212:(Hi 212).ver=u12) (h228:(Hi 228).ver=u28) (h258:(Hi 258).ver=u58/\(Hi 258).live=false):fH Tryz.prog 101 [(V.agg [(V.sl (List.map cN t.nd))])] Hi (V.agg [(V.ms 212 (u12+1) 0 t.nd.length)]) (cU (cU (cU (cU (cU (cU Hi 201 (⟨u1+1,false,false,0,0,[]⟩:Blk)) 202 (⟨u2+1,false,false,0,0,[]⟩:Blk)) 205 (⟨u5+t.nd.length,false,false,0,0,[]⟩:Blk)) 228 (⟨u28+t.nd.length*1048578,false,false,0,0,[]⟩:Blk)) 258 (⟨u58+3*t.nd.length,false,false,0,0,[]⟩:Blk)) 212 (bk (u12+1) 108 5 (List.map cN t.nd))):=by
 refine' eK [58] [⟨12,[0,1,2,3,4,5,6,7,8,9,10,11,12,13,14,15,16,17,18],[58],[]⟩] (k0:=200) Tryz.func101 ?e λhB=>?_
 case e=>conv=>lhs; cbv
 have hbn:=hb.n;dsimp only;refine aU<|cJ (i:=201) (n:=u1) (m:=1) (cs:=[(V.sl<|List.map cN t.nd)]) JR h201 J J J<|bX (i:=202) (n:=u2) (m:=1) JR h202 J<|R_r<|aZ J J J J<|bA J ?_
 refine (aAS (i:=212) (n:=u12) (m:=t.nd.length) (q:=t.nd.length) JR h212 (cS t.nd.length) (cS t.nd.length) OM OM OM ?_);refine aE<|aU<|aP<|aZ J J J J<|aMm (l:=t.nd) (f:=cN) (n:=5) (aM<|V.ms 212 (u12+1) 0 t.nd.length) (aM<|V.sl<|List.map cN t.nd) (@J Blk<|bk (u12+1) 108 5<|List.replicate t.nd.length [(V.bool false),V.nilsl,V.nilsl,V.nilsl,V.nilsl]) SI (λ_=>⟨J,J⟩)<|zL<|aU<|aP<|eS J (@J Blk<|bk (u12+1) 108 5<|List.map cN t.nd) SI<|aE (aF λQ1 n1 x1 y1 z1=>?_)
 refine cF (λmm T H=> ∃ (k:Nat) (v205:Nat) (v228:Nat) (v258:Nat),mm=t.nd.length - k/\T 2=(V.mp 202 (u2+1) 0 0)/\T 3=(V.ms 212 (u12+1) 0 t.nd.length)/\T 17=(V.ms 212 (u12+1) 0 t.nd.length)/\T 18=(iV ((t.nd.length:Nat):Int))/\T 19=(iV ((k:Nat):Int))/\(∀ j,j∉[201,202,205,228,258,212]->H j=Hi j)/\H 201=(bk (u1+1) 47 1 [[(V.sl<|List.map cN t.nd)]])/\H 202=(bk (u2+1) 47 1 [[V.nilsl]])/\(H 205).ver=v205/\H 212=(bk (u12+1) 108 5<|List.map cN t.nd)/\(H 228).ver=v228/\((H 258).ver=v258/\(H 258).live=false)/\(k<=t.nd.length)/\(v205=u5+k)/\(v228<=u28+k*1048578)/\(v258=u58+3*k)) ?_ ?_
 . 
  refine ⟨_,0,u5,u28,u58,J,J,J,J,J,(bG (aM<|iV 0) J),(bD (bD (bD (bD (λ_ _=>J) DE) DE) DE) DE),J,J,h205,J,h228,h258,?_,?_,?_,?_⟩
  . omega
  . omega
  . omega
  . omega
 intro mm T H ⟨k,v205,v228,v258,hmm,t2,t3,t17,t18,t19,hF,h201,h202,h205,h212,h228,h258,hk,hv5,hv28,hv7⟩ Q2 p12 p22 p32

 refine aU<|bY t19 t18<|cE ?_
 refine aG J (λc3=>?_) λc3=>?_
 . 
  have r1:=hb.ac k OM;have r2:=hb.sf k OM;have r3:=hb.ou k OM;have r4:=hb.kd k OM;have r5:=hb.ol k OM;refine aB (aF λQ4 n4 x4 y4 z4=>(aU<|aI t19<|dG (i:=k) t17 t19 h212 oB J OM<|cG (v:=(V.agg<|cN<|aA t.nd k)) J h212 (dU OM JR)<|bX (i:=205) (n:=v205) (m:=5) JR h205 J<|aP<|dA J J J J J J J J J<|R_r<|aZ J J J J<|bA J<|cD J ?_));refine (aAS (i:=228) (n:=v228) (m:=0) (q:=((((aA t.nd k).ou).length)+1)) JR h228 (aM<|iV 0) (cS<|(((aA t.nd k).ou).length)+1) OM OM OM ?_);refine aE<|aO<|aZ J J J J<|bA J<|aE (aF λQ5 n5 x5 y5 z5=>?_)
  refine cF (λmm T H=> ∃ (j:Nat) (w:Nat),mm=(aA t.nd k).ou.length - j/\T 2=(V.mp 202 (u2+1) 0 0)/\T 3=(V.ms 212 (u12+1) 0 t.nd.length)/\T 4=(iV ((k:Nat):Int))/\T 5=(V.mp 205 (v205+1) 0 0)/\T 6=(V.ms 228 w 0 j)/\T 17=(V.ms 212 (u12+1) 0 t.nd.length)/\T 18=(iV ((t.nd.length:Nat):Int))/\T 19=(iV ((k:Nat):Int))/\T 30=(aC<|(aA t.nd k).ou)/\T 31=(iV ((((aA t.nd k).ou).length:Nat):Int))/\T 32=(iV ((j:Nat):Int))/\(∀ j,j∉[201,202,205,228,258,212]->H j=Hi j)/\H 201=(bk (u1+1) 47 1 [[(V.sl<|List.map cN t.nd)]])/\H 202=(bk (u2+1) 47 1 [[V.nilsl]])/\H 205=(bk (v205+1) 108 5 [(cN<|aA t.nd k)])/\H 212=(bk (u12+1) 108 5<|List.map cN t.nd)/\H 228=(bk w 54 1<|List.map cL<|(aA t.nd k).ou.take j)/\((H 258).ver=v258/\(H 258).live=false)/\(j<=(aA t.nd k).ou.length)/\(w<=v228+1+j)) ?_ ?_
  . 
   refine ⟨_,0,(v228+1),J,t2,t3,J,J,(bG (aM<|V.ms 228 (v228+1) 0 0) JR),t17,t18,t19,J,J,(bG (aM<|iV 0) J),(bD (bD (bD hF DE) DE) DE),h201,h202,J,h212,(bG (@J Blk<|bk (v228+1) 54 1<|List.replicate 0 [V.nilsl]) JR),h258,?_,?_⟩
   . omega
   . omega
  intro mm T H ⟨j,w,hmm,t2,t3,t4,t5,t6,t17,t18,t19,t30,t31,t32,hF,h201,h202,h205,h212,h228,h258,hj,hw⟩ Q6 p16 p26 p36;refine aU<|bY t32 t31<|cE ?_
  refine aG J (λc7=>?_) λc7=>?_
  . 
   have r6:=r5 j OM;refine aB (aF λQ8 n8 x8 y8 z8=>(aU<|dL (i:=j) t30 t32<|aJ J J<|aE<|fO<|aI t6<|aP<|aY J J<|aL (dD ([(aA ((aA t.nd k).ou) j)]) (by simp only [bH,List.append_nil]; omega)) J<|aY J J<|gF (l:=((aA t.nd k).ou.take j)) (f:=cL) (x:=(bH<|[(aA ((aA t.nd k).ou) j)])) (aM<|V.ms 228 w 0 j) h228 (by (rw [List.length_take]; omega)) (aM<|V.sl [[(aD<|bH<|[(aA ((aA t.nd k).ou) j)])]])<|aE ?_));refine n8 _ _ (.done (fO<|cD t32<|aE ?_));refine p16 _ _ _ ?_ ⟨(j+1),(w+1),J,t2,t3,t4,t5,(bG (aM<|V.ms 228 (w+1) 0<|j+1) JR),t17,t18,t19,t30,t31,(bG (cS<|j+1) JR),(bD hF DE),h201,h202,h205,h212,(bG (@J Blk<|bk (w+1) 54 1<|List.map cL<|(aA t.nd k).ou.take j++[bH ([(aA ((aA t.nd k).ou) j)])]) (by (rw [yX (show j < (aA t.nd k).ou.length by omega)]; done))),h258,?_,?_⟩
   . omega
   . omega
   . omega
  refine aS<|p36 _ _ _<|x5 _ _ (.done (aRI (by exact (tD h258.2 wD))<|aI t3<|aI t4<|aZ t5 h205 J J<|aZ t5 h205 J J<|aY J J<|aL (dD ([(aA t.nd k).ac]) (by simp only [bH,List.append_nil]; omega)) J<|aZ t5 h205 J J<|aY J J ?_))
  refine aL (dD ([(aA t.nd k).sf]) (by simp only [bH,List.append_nil]; omega)) J<|aI t6<|aZ t5 h205 J J<|aBg (i:=258) (n:=v258) (B:=(bz (v258+3) 3 1<|List.map cI<|(aA t.nd k).kd)) JR h258.1 (bI J dR) J (λH2 h2=>aFk 258 DE ((aA t.nd k).kd) v258 H2 h2 OM)<|bZ J J<|dG (i:=k) (aM<|V.ms 212 (u12+1) 0 t.nd.length) (cS k) h212 oB J OM<|cZ (vs:=[(V.bool<|(aA t.nd k).lf),(aD<|bH<|[(aA t.nd k).ac]),(aD<|bH<|[(aA t.nd k).sf]),(V.ms 228 w 0 j),(V.ms 258 (v258+3) 0<|((aA t.nd k).kd).length)]) (B':=(bk (u12+1) 108 5<|(List.map cN t.nd).set k [(V.bool<|(aA t.nd k).lf),(aD<|bH<|[(aA t.nd k).ac]),(aD<|bH<|[(aA t.nd k).sf]),(V.ms 228 w 0 j),(V.ms 258 (v258+3) 0<|((aA t.nd k).kd).length)])) J J J h212 (tN (i:=k) OM J J J)<|cE<|n4 _ _ ?_
  refine gU (id:=228) (id2:=212) (rows:=(List.map cN t.nd)) (i:=k) (off:=3) (r:=[(V.bool<|(aA t.nd k).lf),(aD<|bH<|[(aA t.nd k).ac]),(aD<|bH<|[(aA t.nd k).sf]),(V.ms 228 w 0 j),(V.ms 258 (v258+3) 0<|((aA t.nd k).kd).length)]) (m:=((aA t.nd k).ou.take j)) (g:=cL) DE h228 (@J Blk<|bk (u12+1) 108 5<|(List.map cN t.nd).set k [(V.bool<|(aA t.nd k).lf),(aD<|bH<|[(aA t.nd k).ac]),(aD<|bH<|[(aA t.nd k).sf]),(V.ms 228 w 0 j),(V.ms 258 (v258+3) 0<|((aA t.nd k).kd).length)]) (by (simp; omega)) (by (rw [List.length_take]; omega)) J ?_;refine gU (id:=258) (id2:=212) (rows:=(List.map cN t.nd)) (i:=k) (off:=4) (r:=[(V.bool<|(aA t.nd k).lf),(aD<|bH<|[(aA t.nd k).ac]),(aD<|bH<|[(aA t.nd k).sf]),(aC<|(aA t.nd k).ou.take j),(V.ms 258 (v258+3) 0<|((aA t.nd k).kd).length)]) (m:=((aA t.nd k).kd)) (g:=cI) DE (@J Blk<|bz (v258+3) 3 1<|List.map cI<|(aA t.nd k).kd) (@J Blk<|bk (u12+1) 108 5<|(List.map cN t.nd).set k [(V.bool<|(aA t.nd k).lf),(aD<|bH<|[(aA t.nd k).ac]),(aD<|bH<|[(aA t.nd k).sf]),(aC<|(aA t.nd k).ou.take j),(V.ms 258 (v258+3) 0<|((aA t.nd k).kd).length)]) (by (simp; omega)) JR J (.done ?_);refine fO<|cD (aX (id:=258) (aX (id:=228) t19 J) J)<|aE ?_
  refine p12 _ _ _ ?_ ⟨(k+1),(v205+1),w,(v258+3),J,(aX (id:=258) (aX (id:=228) t2 J) J),(aX (aX t3<|dV DE)<|dV DE),(aX (aX t17<|dV DE)<|dV DE),(aX (id:=258) (aX (id:=228) t18 J) J),(bG (cS<|k+1) JR),(bD (mY (bD (mY (bD (bD hF DE) DE) DE) DE) DE) DE),(aQ (id:=258) (aQ (id:=228) h201 DE) DE),(aQ (id:=258) (aQ (id:=228) h202 DE) DE),(cM<|aQ (id:=258) (aQ (id:=228) h205 DE) DE),(bG ((by (rw [aR,List.map_set]; rfl)):_=(bk (u12+1) 108 5<|List.map cN<|t.nd.set k (⟨(aA t.nd k).lf,bH ([(aA t.nd k).ac]),bH ([(aA t.nd k).sf]),(aA t.nd k).ou.take j,(aA t.nd k).kd⟩:Nd))) (by (rw [aHH (show k < t.nd.length by omega) (show (aA t.nd k).ou.length<=j by omega)]; done))),(gV (id:=258)<|fW (id:=228)<|cM h228).1,⟨J,J⟩,?_,?_,?_,?_⟩
  . omega
  . omega
  . omega
  . omega
  . omega
 refine aS<|p32 _ _ _<|x1 _ _ (.done (aU<|aI t3<|bZ J J<|dA t2 J J h202 J J J J J<|R_q<|fL (R:=λT H=>T 2=(V.mp 202 (u2+1) 0 0)/\(∀ j,j∉[201,202,205,228,258,212]->H j=Hi j)/\H 201=(bk (u1+1) 47 1 [[(V.sl<|List.map cN t.nd)]])/\H 202=(bk (u2+1) 47 1 [[(V.ms 212 (u12+1) 0 t.nd.length)]])/\(H 205).ver=v205/\H 212=(bk (u12+1) 108 5<|List.map cN t.nd)/\(H 228).ver=v228/\((H 258).ver=v258/\(H 258).live=false)/\True) ⟨t2,(bD hF DE),h201,J,h205,h212,h228,h258,trivial⟩ ?_))
 intro T H ⟨t2,hF,h201,h202,h205,h212,h228,h258,_⟩;have hkn:k=t.nd.length:=OM
 subst hkn;have fh:=dK.fin<|dK.put (dK.putv (n:=v258) (B:=(⟨u58+3*t.nd.length,false,false,0,0,[]⟩:Blk)) (dK.putv (n:=v228) (B:=(⟨u28+t.nd.length*1048578,false,false,0,0,[]⟩:Blk)) (dK.putv (n:=v205) (B:=(⟨u5+t.nd.length,false,false,0,0,[]⟩:Blk)) (dK.putv (n:=(u2+1)) (B:=(⟨u2+1,false,false,0,0,[]⟩:Blk)) (dK.putv (n:=(u1+1)) (B:=(⟨u1+1,false,false,0,0,[]⟩:Blk)) (dK.start hF) (cM h201) (by show _<=u1+1; omega) J) (cM h202) (by show _<=u2+1; omega) J) h205 (by show _<=u5+t.nd.length; omega) J) h228 (by show _<=u28+t.nd.length*1048578; omega) J) h258.1 (by show _<=u58+3*t.nd.length; omega) J) h212<|jN.eq J
 exact aI2 (cH (u:=(V.agg [(V.ms 212 (u12+1) 0 t.nd.length)])) t2 h202<|lB oB J J) fh<|fD.agg1<|fD.same fh _
theorem aKw (t:Dt) (n:Nat) (w28 w58:Nat) (u1 u2 u5 u12 u28 u58:Nat) (Hi:aT) (hn:n < t.nd.length) (hb:Bd t) (h201:(Hi 201).ver=u1) (h202:(Hi 202).ver=u2) (h205:(Hi 205).ver=u5) (h212:(Hi 212).ver=u12) (h228:(Hi 228).ver=u28) (h258:(Hi 258).ver=u58/\(Hi 258).live=false) (h7028:(Hi 7028).ver=w28) (h7058:(Hi 7058).ver=w58/\(Hi 7058).live=false):fH Tryz.prog 101 [(V.agg [(V.sl (List.map cN t.nd))])] Hi (V.agg [(V.ms 212 (u12+1) 0 t.nd.length)]) (cU (cU (cU (cU (cU (cU (cU (cU Hi 201 (⟨u1+1,false,false,0,0,[]⟩:Blk)) 202 (⟨u2+1,false,false,0,0,[]⟩:Blk)) 205 (⟨u5+t.nd.length,false,false,0,0,[]⟩:Blk)) 228 (⟨u28+t.nd.length*1048578,false,false,0,0,[]⟩:Blk)) 258 (⟨u58+3*t.nd.length,false,false,0,0,[]⟩:Blk)) 7028 (bk (w28+1+(aA t.nd n).ou.length) 54 1 (List.map cL ((aA t.nd n).ou)))) 7058 (bz (w58+3) 3 1 (List.map cI ((aA t.nd n).kd)))) 212 (bk (u12+1) 108 5 ((List.map cN t.nd).set n [(V.bool ((aA t.nd n).lf)),(aD (bH [(aA t.nd n).ac])),(aD (bH [(aA t.nd n).sf])),(V.ms 7028 (w28+1+(aA t.nd n).ou.length) 0 ((aA t.nd n).ou.length)),(V.ms 7058 (w58+3) 0 ((aA t.nd n).kd.length))]))):=by
 refine' eK [58] [⟨12,[0,1,2,3,4,5,6,7,8,9,10,11,12,13,14,15,16,17,18],[58],[]⟩] (k0:=200) Tryz.func101 ?e λhB=>?_
 case e=>conv=>lhs; cbv
 have hbn:=hb.n;dsimp only;refine aU<|cJ (i:=201) (n:=u1) (m:=1) (cs:=[(V.sl<|List.map cN t.nd)]) JR h201 J J J<|bX (i:=202) (n:=u2) (m:=1) JR h202 J<|R_r<|aZ J J J J<|bA J ?_
 refine (aAS (i:=212) (n:=u12) (m:=t.nd.length) (q:=t.nd.length) JR h212 (cS t.nd.length) (cS t.nd.length) OM OM OM ?_);refine aE<|aU<|aP<|aZ J J J J<|aMm (l:=t.nd) (f:=cN) (n:=5) (aM<|V.ms 212 (u12+1) 0 t.nd.length) (aM<|V.sl<|List.map cN t.nd) (@J Blk<|bk (u12+1) 108 5<|List.replicate t.nd.length [(V.bool false),V.nilsl,V.nilsl,V.nilsl,V.nilsl]) SI (λ_=>⟨J,J⟩)<|zL<|aU<|aP<|eS J (@J Blk<|bk (u12+1) 108 5<|List.map cN t.nd) SI<|aE (aF λQ1 n1 x1 y1 z1=>?_)
 refine cF (λmm T H=>(∃ (k:Nat) (v205:Nat) (v228:Nat) (v258:Nat),mm=t.nd.length - k/\T 2=(V.mp 202 (u2+1) 0 0)/\T 3=(V.ms 212 (u12+1) 0 t.nd.length)/\T 17=(V.ms 212 (u12+1) 0 t.nd.length)/\T 18=(iV ((t.nd.length:Nat):Int))/\T 19=(iV ((k:Nat):Int))/\(∀ j,j∉[201,202,205,228,258,7028,7058,212]->H j=Hi j)/\H 201=(bk (u1+1) 47 1 [[(V.sl<|List.map cN t.nd)]])/\H 202=(bk (u2+1) 47 1 [[V.nilsl]])/\(H 205).ver=v205/\H 212=(bk (u12+1) 108 5<|List.map cN t.nd)/\(H 228).ver=v228/\((H 258).ver=v258/\(H 258).live=false)/\(H 7028).ver=w28/\((H 7058).ver=w58/\(H 7058).live=false)/\(k < n)/\(v205=u5+k)/\(v228<=u28+k*1048578)/\(v258=u58+3*k))\/(∃ (v228:Nat) (v258:Nat) (v205:Nat),mm=t.nd.length - n/\T 2=(V.mp 202 (u2+1) 0 0)/\T 3=(V.ms 212 (u12+1) 0 t.nd.length)/\T 17=(V.ms 212 (u12+1) 0 t.nd.length)/\T 18=(iV ((t.nd.length:Nat):Int))/\T 19=(iV ((n:Nat):Int))/\(∀ j,j∉[201,202,205,228,258,7028,7058,212]->H j=Hi j)/\H 201=(bk (u1+1) 47 1 [[(V.sl<|List.map cN t.nd)]])/\H 202=(bk (u2+1) 47 1 [[V.nilsl]])/\(H 205).ver=v205/\H 212=(bk (u12+1) 108 5<|List.map cN t.nd)/\(H 228).ver=v228/\((H 258).ver=v258/\(H 258).live=false)/\(H 7028).ver=w28/\((H 7058).ver=w58/\(H 7058).live=false)/\(v205=u5+n)/\(v228<=u28+n*1048578)/\(v258=u58+3*n))\/(∃ (k:Nat) (v205:Nat) (v228:Nat) (v258:Nat),mm=t.nd.length - k/\T 2=(V.mp 202 (u2+1) 0 0)/\T 3=(V.ms 212 (u12+1) 0 t.nd.length)/\T 17=(V.ms 212 (u12+1) 0 t.nd.length)/\T 18=(iV ((t.nd.length:Nat):Int))/\T 19=(iV ((k:Nat):Int))/\(∀ j,j∉[201,202,205,228,258,7028,7058,212]->H j=Hi j)/\H 201=(bk (u1+1) 47 1 [[(V.sl<|List.map cN t.nd)]])/\H 202=(bk (u2+1) 47 1 [[V.nilsl]])/\(H 205).ver=v205/\H 212=(bk (u12+1) 108 5<|(List.map cN t.nd).set n [(V.bool<|(aA t.nd n).lf),(aD<|bH [(aA t.nd n).ac]),(aD<|bH [(aA t.nd n).sf]),(V.ms 7028 (w28+1+(aA t.nd n).ou.length) 0<|(aA t.nd n).ou.length),(V.ms 7058 (w58+3) 0<|(aA t.nd n).kd.length)])/\(H 228).ver=v228/\((H 258).ver=v258/\(H 258).live=false)/\H 7028=(bk (w28+1+(aA t.nd n).ou.length) 54 1<|List.map cL<|(aA t.nd n).ou)/\H 7058=(bz (w58+3) 3 1<|List.map cI<|(aA t.nd n).kd)/\(n < k)/\(k<=t.nd.length)/\(v205=u5+k)/\(v228<=u28+k*1048578)/\(v258<=u58+3*k))) ?_ ?_
 . 
  by_cases hent:n=0
  . 
   refine ⟨_,Or.inr (Or.inl ⟨u28,u58,u5,J,J,J,J,J,(bG (aM<|iV 0) (by (rw [hent]; rfl))),(bD (bD (bD (bD (λ_ _=>J) DE) DE) DE) DE),J,J,h205,J,h228,h258,h7028,h7058,?_,?_,?_⟩)⟩
   . omega
   . omega
   . omega
  . 
   refine ⟨_,Or.inl ⟨0,u5,u28,u58,J,J,J,J,J,(bG (aM<|iV 0) J),(bD (bD (bD (bD (λ_ _=>J) DE) DE) DE) DE),J,J,h205,J,h228,h258,h7028,h7058,?_,?_,?_,?_⟩⟩
   . omega
   . omega
   . omega
   . omega
 intro mm T H hI Q2 p12 p22 p32;rcases hI with ⟨k,v205,v228,v258,hmm,t2,t3,t17,t18,t19,hF,h201,h202,h205,h212,h228,h258,h7028,h7058,hk,hv5,hv28,hv7⟩|⟨v228,v258,v205,hmm,t2,t3,t17,t18,t19,hF,h201,h202,h205,h212,h228,h258,h7028,h7058,hv5,hv28,hv7⟩|⟨k,v205,v228,v258,hmm,t2,t3,t17,t18,t19,hF,h201,h202,h205,h212,h228,h258,h7028,h7058,hk,hk2,hv5,hv28,hv7⟩
 . 
  refine aU<|bY t19 t18<|cE ?_
  refine aG J (λc3=>?_) λc3=>?_
  . 
   have r1:=hb.ac k OM;have r2:=hb.sf k OM;have r3:=hb.ou k OM;have r4:=hb.kd k OM;have r5:=hb.ol k OM;refine aB (aF λQ4 n4 x4 y4 z4=>(aU<|aI t19<|dG (i:=k) t17 t19 h212 oB J OM<|cG (v:=(V.agg<|cN<|aA t.nd k)) J h212 (dU OM JR)<|bX (i:=205) (n:=v205) (m:=5) JR h205 J<|aP<|dA J J J J J J J J J<|R_r<|aZ J J J J<|bA J<|cD J ?_));refine (aAS (i:=228) (n:=v228) (m:=0) (q:=((((aA t.nd k).ou).length)+1)) JR h228 (aM<|iV 0) (cS<|(((aA t.nd k).ou).length)+1) OM OM OM ?_);refine aE<|aO<|aZ J J J J<|bA J<|aE (aF λQ5 n5 x5 y5 z5=>?_)
   refine cF (λmm T H=> ∃ (j:Nat) (w:Nat),mm=(aA t.nd k).ou.length - j/\T 2=(V.mp 202 (u2+1) 0 0)/\T 3=(V.ms 212 (u12+1) 0 t.nd.length)/\T 4=(iV ((k:Nat):Int))/\T 5=(V.mp 205 (v205+1) 0 0)/\T 6=(V.ms 228 w 0 j)/\T 17=(V.ms 212 (u12+1) 0 t.nd.length)/\T 18=(iV ((t.nd.length:Nat):Int))/\T 19=(iV ((k:Nat):Int))/\T 30=(aC<|(aA t.nd k).ou)/\T 31=(iV ((((aA t.nd k).ou).length:Nat):Int))/\T 32=(iV ((j:Nat):Int))/\(∀ j,j∉[201,202,205,228,258,7028,7058,212]->H j=Hi j)/\H 201=(bk (u1+1) 47 1 [[(V.sl<|List.map cN t.nd)]])/\H 202=(bk (u2+1) 47 1 [[V.nilsl]])/\H 205=(bk (v205+1) 108 5 [(cN<|aA t.nd k)])/\H 212=(bk (u12+1) 108 5<|List.map cN t.nd)/\H 228=(bk w 54 1<|List.map cL<|(aA t.nd k).ou.take j)/\((H 258).ver=v258/\(H 258).live=false)/\(H 7028).ver=w28/\((H 7058).ver=w58/\(H 7058).live=false)/\(j<=(aA t.nd k).ou.length)/\(w<=v228+1+j)) ?_ ?_
   . 
    refine ⟨_,0,(v228+1),J,t2,t3,J,J,(bG (aM<|V.ms 228 (v228+1) 0 0) JR),t17,t18,t19,J,J,(bG (aM<|iV 0) J),(bD (bD (bD hF DE) DE) DE),h201,h202,J,h212,(bG (@J Blk<|bk (v228+1) 54 1<|List.replicate 0 [V.nilsl]) JR),h258,h7028,h7058,?_,?_⟩
    . omega
    . omega
   intro mm T H ⟨j,w,hmm,t2,t3,t4,t5,t6,t17,t18,t19,t30,t31,t32,hF,h201,h202,h205,h212,h228,h258,h7028,h7058,hj,hw⟩ Q6 p16 p26 p36;refine aU<|bY t32 t31<|cE ?_
   refine aG J (λc7=>?_) λc7=>?_
   . 
    have r6:=r5 j OM;refine aB (aF λQ8 n8 x8 y8 z8=>(aU<|dL (i:=j) t30 t32<|aJ J J<|aE<|fO<|aI t6<|aP<|aY J J<|aL (dD ([(aA ((aA t.nd k).ou) j)]) (by simp only [bH,List.append_nil]; omega)) J<|aY J J<|gF (l:=((aA t.nd k).ou.take j)) (f:=cL) (x:=(bH<|[(aA ((aA t.nd k).ou) j)])) (aM<|V.ms 228 w 0 j) h228 (by (rw [List.length_take]; omega)) (aM<|V.sl [[(aD<|bH<|[(aA ((aA t.nd k).ou) j)])]])<|aE ?_));refine n8 _ _ (.done (fO<|cD t32<|aE ?_));refine p16 _ _ _ ?_ ⟨(j+1),(w+1),J,t2,t3,t4,t5,(bG (aM<|V.ms 228 (w+1) 0<|j+1) JR),t17,t18,t19,t30,t31,(bG (cS<|j+1) JR),(bD hF DE),h201,h202,h205,h212,(bG (@J Blk<|bk (w+1) 54 1<|List.map cL<|(aA t.nd k).ou.take j++[bH ([(aA ((aA t.nd k).ou) j)])]) (by (rw [yX (show j < (aA t.nd k).ou.length by omega)]; done))),h258,h7028,h7058,?_,?_⟩
    . omega
    . omega
    . omega
   refine aS<|p36 _ _ _<|x5 _ _ (.done (aRI (by exact (tD h258.2 wD))<|aI t3<|aI t4<|aZ t5 h205 J J<|aZ t5 h205 J J<|aY J J<|aL (dD ([(aA t.nd k).ac]) (by simp only [bH,List.append_nil]; omega)) J<|aZ t5 h205 J J<|aY J J ?_))
   refine aL (dD ([(aA t.nd k).sf]) (by simp only [bH,List.append_nil]; omega)) J<|aI t6<|aZ t5 h205 J J<|aBg (i:=258) (n:=v258) (B:=(bz (v258+3) 3 1<|List.map cI<|(aA t.nd k).kd)) JR h258.1 (bI J dR) J (λH2 h2=>aFk 258 DE ((aA t.nd k).kd) v258 H2 h2 OM)<|bZ J J<|dG (i:=k) (aM<|V.ms 212 (u12+1) 0 t.nd.length) (cS k) h212 oB J OM<|cZ (vs:=[(V.bool<|(aA t.nd k).lf),(aD<|bH<|[(aA t.nd k).ac]),(aD<|bH<|[(aA t.nd k).sf]),(V.ms 228 w 0 j),(V.ms 258 (v258+3) 0<|((aA t.nd k).kd).length)]) (B':=(bk (u12+1) 108 5<|(List.map cN t.nd).set k [(V.bool<|(aA t.nd k).lf),(aD<|bH<|[(aA t.nd k).ac]),(aD<|bH<|[(aA t.nd k).sf]),(V.ms 228 w 0 j),(V.ms 258 (v258+3) 0<|((aA t.nd k).kd).length)])) J J J h212 (tN (i:=k) OM J J J)<|cE<|n4 _ _ ?_
   refine gU (id:=228) (id2:=212) (rows:=(List.map cN t.nd)) (i:=k) (off:=3) (r:=[(V.bool<|(aA t.nd k).lf),(aD<|bH<|[(aA t.nd k).ac]),(aD<|bH<|[(aA t.nd k).sf]),(V.ms 228 w 0 j),(V.ms 258 (v258+3) 0<|((aA t.nd k).kd).length)]) (m:=((aA t.nd k).ou.take j)) (g:=cL) DE h228 (@J Blk<|bk (u12+1) 108 5<|(List.map cN t.nd).set k [(V.bool<|(aA t.nd k).lf),(aD<|bH<|[(aA t.nd k).ac]),(aD<|bH<|[(aA t.nd k).sf]),(V.ms 228 w 0 j),(V.ms 258 (v258+3) 0<|((aA t.nd k).kd).length)]) (by (simp; omega)) (by (rw [List.length_take]; omega)) J ?_;refine gU (id:=258) (id2:=212) (rows:=(List.map cN t.nd)) (i:=k) (off:=4) (r:=[(V.bool<|(aA t.nd k).lf),(aD<|bH<|[(aA t.nd k).ac]),(aD<|bH<|[(aA t.nd k).sf]),(aC<|(aA t.nd k).ou.take j),(V.ms 258 (v258+3) 0<|((aA t.nd k).kd).length)]) (m:=((aA t.nd k).kd)) (g:=cI) DE (@J Blk<|bz (v258+3) 3 1<|List.map cI<|(aA t.nd k).kd) (@J Blk<|bk (u12+1) 108 5<|(List.map cN t.nd).set k [(V.bool<|(aA t.nd k).lf),(aD<|bH<|[(aA t.nd k).ac]),(aD<|bH<|[(aA t.nd k).sf]),(aC<|(aA t.nd k).ou.take j),(V.ms 258 (v258+3) 0<|((aA t.nd k).kd).length)]) (by (simp; omega)) JR J (.done ?_);refine fO<|cD (aX (id:=258) (aX (id:=228) t19 J) J)<|aE ?_
   by_cases hto:k+1=n
   . 
    refine p12 _ _ _ ?_<|Or.inr<|Or.inl ⟨w,(v258+3),(v205+1),J,(aX (id:=258) (aX (id:=228) t2 J) J),(aX (aX t3<|dV DE)<|dV DE),(aX (aX t17<|dV DE)<|dV DE),(aX (id:=258) (aX (id:=228) t18 J) J),(bG (cS<|k+1) (by (rw [hto]; done))),(bD (mY (bD (mY (bD (bD hF DE) DE) DE) DE) DE) DE),(aQ (id:=258) (aQ (id:=228) h201 DE) DE),(aQ (id:=258) (aQ (id:=228) h202 DE) DE),(cM<|aQ (id:=258) (aQ (id:=228) h205 DE) DE),(bG ((by (rw [aR,List.map_set]; rfl)):_=(bk (u12+1) 108 5<|List.map cN<|t.nd.set k (⟨(aA t.nd k).lf,bH ([(aA t.nd k).ac]),bH ([(aA t.nd k).sf]),(aA t.nd k).ou.take j,(aA t.nd k).kd⟩:Nd))) (by (rw [aHH (show k < t.nd.length by omega) (show (aA t.nd k).ou.length<=j by omega)]; done))),(gV (id:=258)<|fW (id:=228)<|cM h228).1,⟨J,J⟩,(nK (id:=258)<|nK (id:=228) h7028),(gV (id:=258)<|gV (id:=228) h7058),?_,?_,?_⟩
    . omega
    . omega
    . omega
    . omega
   . 
    refine p12 _ _ _ ?_<|Or.inl ⟨(k+1),(v205+1),w,(v258+3),J,(aX (id:=258) (aX (id:=228) t2 J) J),(aX (aX t3<|dV DE)<|dV DE),(aX (aX t17<|dV DE)<|dV DE),(aX (id:=258) (aX (id:=228) t18 J) J),(bG (cS<|k+1) JR),(bD (mY (bD (mY (bD (bD hF DE) DE) DE) DE) DE) DE),(aQ (id:=258) (aQ (id:=228) h201 DE) DE),(aQ (id:=258) (aQ (id:=228) h202 DE) DE),(cM<|aQ (id:=258) (aQ (id:=228) h205 DE) DE),(bG ((by (rw [aR,List.map_set]; rfl)):_=(bk (u12+1) 108 5<|List.map cN<|t.nd.set k (⟨(aA t.nd k).lf,bH ([(aA t.nd k).ac]),bH ([(aA t.nd k).sf]),(aA t.nd k).ou.take j,(aA t.nd k).kd⟩:Nd))) (by (rw [aHH (show k < t.nd.length by omega) (show (aA t.nd k).ou.length<=j by omega)]; done))),(gV (id:=258)<|fW (id:=228)<|cM h228).1,⟨J,J⟩,(nK (id:=258)<|nK (id:=228) h7028),(gV (id:=258)<|gV (id:=228) h7058),?_,?_,?_,?_⟩
    . omega
    . omega
    . omega
    . omega
    . omega
  . exfalso; omega
 . 
  refine aU<|bY t19 t18<|cE ?_
  refine aG J (λc9=>?_) λc9=>?_
  . 
   have r1:=hb.ac n OM;have r2:=hb.sf n OM;have r3:=hb.ou n OM;have r4:=hb.kd n OM;have r5:=hb.ol n OM;refine aB (aF λQ10 n10 x10 y10 z10=>(aU<|aI t19<|dG (i:=n) t17 t19 h212 oB J OM<|cG (v:=(V.agg<|cN<|aA t.nd n)) J h212 (dU OM JR)<|bX (i:=205) (n:=v205) (m:=5) JR h205 J<|aP<|dA J J J J J J J J J<|cE<|aQ8 7000<|aZ J J J J<|bA J<|cD J ?_));refine (aAS (i:=7028) (n:=w28) (m:=0) (q:=((((aA t.nd n).ou).length)+1)) JR h7028 (aM<|iV 0) (cS<|(((aA t.nd n).ou).length)+1) OM OM OM ?_);refine aE<|aO<|aZ J J J J<|bA J<|aE (aF λQ11 n11 x11 y11 z11=>?_)
   refine cF (λmm T H=> ∃ (j:Nat),mm=(aA t.nd n).ou.length - j/\T 2=(V.mp 202 (u2+1) 0 0)/\T 3=(V.ms 212 (u12+1) 0 t.nd.length)/\T 4=(iV ((n:Nat):Int))/\T 5=(V.mp 205 (v205+1) 0 0)/\T 6=(V.ms 7028 (w28+1+j) 0 j)/\T 17=(V.ms 212 (u12+1) 0 t.nd.length)/\T 18=(iV ((t.nd.length:Nat):Int))/\T 19=(iV ((n:Nat):Int))/\T 30=(aC<|(aA t.nd n).ou)/\T 31=(iV ((((aA t.nd n).ou).length:Nat):Int))/\T 32=(iV ((j:Nat):Int))/\(∀ j,j∉[201,202,205,228,258,7028,7058,212]->H j=Hi j)/\H 201=(bk (u1+1) 47 1 [[(V.sl<|List.map cN t.nd)]])/\H 202=(bk (u2+1) 47 1 [[V.nilsl]])/\H 205=(bk (v205+1) 108 5 [(cN<|aA t.nd n)])/\H 212=(bk (u12+1) 108 5<|List.map cN t.nd)/\(H 228).ver=v228/\((H 258).ver=v258/\(H 258).live=false)/\H 7028=(bk (w28+1+j) 54 1<|List.map cL<|(aA t.nd n).ou.take j)/\((H 7058).ver=w58/\(H 7058).live=false)/\(j<=(aA t.nd n).ou.length)) ?_ ?_
   . 
    refine ⟨_,0,J,t2,t3,J,J,(bG (aM<|V.ms 7028 (w28+1) 0 0) JR),t17,t18,t19,J,J,(bG (aM<|iV 0) J),(bD (bD (bD hF DE) DE) DE),h201,h202,J,h212,h228,h258,(bG (@J Blk<|bk (w28+1) 54 1<|List.replicate 0 [V.nilsl]) JR),h7058,?_⟩
    . omega
   intro mm T H ⟨j,hmm,t2,t3,t4,t5,t6,t17,t18,t19,t30,t31,t32,hF,h201,h202,h205,h212,h228,h258,h7028,h7058,hj⟩ Q12 p112 p212 p312;refine aU<|bY t32 t31<|cE ?_
   refine aG J (λc13=>?_) λc13=>?_
   . 
    have r6:=r5 j OM;refine aB (aF λQ14 n14 x14 y14 z14=>(aU<|dL (i:=j) t30 t32<|aJ J J<|aE<|fO<|aI t6<|aP<|aY J J<|aL (dD ([(aA ((aA t.nd n).ou) j)]) (by simp only [bH,List.append_nil]; omega)) J<|aY J J<|gF (l:=((aA t.nd n).ou.take j)) (f:=cL) (x:=(bH<|[(aA ((aA t.nd n).ou) j)])) (aM<|V.ms 7028 (w28+1+j) 0 j) h7028 (by (rw [List.length_take]; omega)) (aM<|V.sl [[(aD<|bH<|[(aA ((aA t.nd n).ou) j)])]])<|aE ?_));refine n14 _ _ (.done (fO<|cD t32<|aE ?_));refine p112 _ _ _ ?_ ⟨(j+1),J,t2,t3,t4,t5,(bG (aM<|V.ms 7028 (w28+1+j+1) 0<|j+1) JR),t17,t18,t19,t30,t31,(bG (cS<|j+1) JR),(bD hF DE),h201,h202,h205,h212,h228,h258,(bG (@J Blk<|bk (w28+1+j+1) 54 1<|List.map cL<|(aA t.nd n).ou.take j++[bH ([(aA ((aA t.nd n).ou) j)])]) (by (rw [yX (show j < (aA t.nd n).ou.length by omega)]; rfl))),h7058,?_⟩
    . omega
    . omega
   have hje:j=(aA t.nd n).ou.length:=OM
   refine aS<|p312 _ _ _<|x11 _ _ (.done (aSN 7000 (by exact (tD h7058.2 wD))<|aI t3<|aI t4<|aZ t5 h205 J J<|aZ t5 h205 J J<|aY J J<|aL (dD ([(aA t.nd n).ac]) (by simp only [bH,List.append_nil]; omega)) J<|aZ t5 h205 J J<|aY J J ?_))
   refine aL (dD ([(aA t.nd n).sf]) (by simp only [bH,List.append_nil]; omega)) J<|aI t6<|aZ t5 h205 J J<|aBg (i:=7058) (n:=w58) (B:=(bz (w58+3) 3 1<|List.map cI<|(aA t.nd n).kd)) JR h7058.1 (bI J dR) J (λH2 h2=>aFk 7058 DE ((aA t.nd n).kd) w58 H2 h2 OM)<|bZ J J<|dG (i:=n) (aM<|V.ms 212 (u12+1) 0 t.nd.length) (cS n) h212 oB J OM<|cZ (vs:=[(V.bool<|(aA t.nd n).lf),(aD<|bH<|[(aA t.nd n).ac]),(aD<|bH<|[(aA t.nd n).sf]),(V.ms 7028 (w28+1+j) 0 j),(V.ms 7058 (w58+3) 0<|((aA t.nd n).kd).length)]) (B':=(bk (u12+1) 108 5<|(List.map cN t.nd).set n [(V.bool<|(aA t.nd n).lf),(aD<|bH<|[(aA t.nd n).ac]),(aD<|bH<|[(aA t.nd n).sf]),(V.ms 7028 (w28+1+j) 0 j),(V.ms 7058 (w58+3) 0<|((aA t.nd n).kd).length)])) J J J h212 (tN (i:=n) OM J J J)<|cE<|n10 _ _ (.done (fO<|cD t19<|aE ?_))
   refine p12 _ _ _ ?_<|Or.inr<|Or.inr<|⟨(n+1),(v205+1),v228,v258,J,t2,t3,t17,t18,(bG (cS<|n+1) JR),(bD (bD hF DE) DE),h201,h202,(cM h205),(bG (@J Blk<|bk (u12+1) 108 5<|(List.map cN t.nd).set n [(V.bool<|(aA t.nd n).lf),(aD<|bH<|[(aA t.nd n).ac]),(aD<|bH<|[(aA t.nd n).sf]),(V.ms 7028 (w28+1+j) 0 j),(V.ms 7058 (w58+3) 0<|((aA t.nd n).kd).length)]) (by (rw [hje]; done))),h228,h258,(bG h7028 (by (rw [hje,List.take_length]; done))),(bG (@J Blk<|bz (w58+3) 3 1<|List.map cI<|(aA t.nd n).kd) JR),?_,?_,?_,?_,?_⟩
   . omega
   . omega
   . omega
   . omega
   . rw [Nat.succ_mul]; exact Nat.le_trans hv28<|Nat.add_le_add_left (Nat.le_add_right _ _) _
   . omega
  . exfalso; omega
 . 
  refine aU<|bY t19 t18<|cE ?_
  refine aG J (λc15=>?_) λc15=>?_
  . 
   have r1:=hb.ac k OM;have r2:=hb.sf k OM;have r3:=hb.ou k OM;have r4:=hb.kd k OM;have r5:=hb.ol k OM;refine aB (aF λQ16 n16 x16 y16 z16=>(aU<|aI t19<|dG (i:=k) t17 t19 h212 oB J OM<|cG (v:=(V.agg<|cN<|aA t.nd k)) J h212 (aK8 OM OM JR)<|bX (i:=205) (n:=v205) (m:=5) JR h205 J<|aP<|dA J J J J J J J J J<|R_r<|aZ J J J J<|bA J<|cD J ?_));refine (aAS (i:=228) (n:=v228) (m:=0) (q:=((((aA t.nd k).ou).length)+1)) JR h228 (aM<|iV 0) (cS<|(((aA t.nd k).ou).length)+1) OM OM OM ?_);refine aE<|aO<|aZ J J J J<|bA J<|aE (aF λQ17 n17 x17 y17 z17=>?_)
   refine cF (λmm T H=> ∃ (j:Nat) (w:Nat),mm=(aA t.nd k).ou.length - j/\T 2=(V.mp 202 (u2+1) 0 0)/\T 3=(V.ms 212 (u12+1) 0 t.nd.length)/\T 4=(iV ((k:Nat):Int))/\T 5=(V.mp 205 (v205+1) 0 0)/\T 6=(V.ms 228 w 0 j)/\T 17=(V.ms 212 (u12+1) 0 t.nd.length)/\T 18=(iV ((t.nd.length:Nat):Int))/\T 19=(iV ((k:Nat):Int))/\T 30=(aC<|(aA t.nd k).ou)/\T 31=(iV ((((aA t.nd k).ou).length:Nat):Int))/\T 32=(iV ((j:Nat):Int))/\(∀ j,j∉[201,202,205,228,258,7028,7058,212]->H j=Hi j)/\H 201=(bk (u1+1) 47 1 [[(V.sl<|List.map cN t.nd)]])/\H 202=(bk (u2+1) 47 1 [[V.nilsl]])/\H 205=(bk (v205+1) 108 5 [(cN<|aA t.nd k)])/\H 212=(bk (u12+1) 108 5<|(List.map cN t.nd).set n [(V.bool<|(aA t.nd n).lf),(aD<|bH [(aA t.nd n).ac]),(aD<|bH [(aA t.nd n).sf]),(V.ms 7028 (w28+1+(aA t.nd n).ou.length) 0<|(aA t.nd n).ou.length),(V.ms 7058 (w58+3) 0<|(aA t.nd n).kd.length)])/\H 228=(bk w 54 1<|List.map cL<|(aA t.nd k).ou.take j)/\((H 258).ver=v258/\(H 258).live=false)/\H 7028=(bk (w28+1+(aA t.nd n).ou.length) 54 1<|List.map cL<|(aA t.nd n).ou)/\H 7058=(bz (w58+3) 3 1<|List.map cI<|(aA t.nd n).kd)/\(j<=(aA t.nd k).ou.length)/\(w<=v228+1+j)) ?_ ?_
   . 
    refine ⟨_,0,(v228+1),J,t2,t3,J,J,(bG (aM<|V.ms 228 (v228+1) 0 0) JR),t17,t18,t19,J,J,(bG (aM<|iV 0) J),(bD (bD (bD hF DE) DE) DE),h201,h202,J,h212,(bG (@J Blk<|bk (v228+1) 54 1<|List.replicate 0 [V.nilsl]) JR),h258,h7028,h7058,?_,?_⟩
    . omega
    . omega
   intro mm T H ⟨j,w,hmm,t2,t3,t4,t5,t6,t17,t18,t19,t30,t31,t32,hF,h201,h202,h205,h212,h228,h258,h7028,h7058,hj,hw⟩ Q18 p118 p218 p318;refine aU<|bY t32 t31<|cE ?_
   refine aG J (λc19=>?_) λc19=>?_
   . 
    have r6:=r5 j OM;refine aB (aF λQ20 n20 x20 y20 z20=>(aU<|dL (i:=j) t30 t32<|aJ J J<|aE<|fO<|aI t6<|aP<|aY J J<|aL (dD ([(aA ((aA t.nd k).ou) j)]) (by simp only [bH,List.append_nil]; omega)) J<|aY J J<|gF (l:=((aA t.nd k).ou.take j)) (f:=cL) (x:=(bH<|[(aA ((aA t.nd k).ou) j)])) (aM<|V.ms 228 w 0 j) h228 (by (rw [List.length_take]; omega)) (aM<|V.sl [[(aD<|bH<|[(aA ((aA t.nd k).ou) j)])]])<|aE ?_));refine n20 _ _ (.done (fO<|cD t32<|aE ?_));refine p118 _ _ _ ?_ ⟨(j+1),(w+1),J,t2,t3,t4,t5,(bG (aM<|V.ms 228 (w+1) 0<|j+1) JR),t17,t18,t19,t30,t31,(bG (cS<|j+1) JR),(bD hF DE),h201,h202,h205,h212,(bG (@J Blk<|bk (w+1) 54 1<|List.map cL<|(aA t.nd k).ou.take j++[bH ([(aA ((aA t.nd k).ou) j)])]) (by (rw [yX (show j < (aA t.nd k).ou.length by omega)]; done))),h258,h7028,h7058,?_,?_⟩
    . omega
    . omega
    . omega
   refine aS<|p318 _ _ _<|x17 _ _ (.done (aRI (by exact (tD h258.2 wD))<|aI t3<|aI t4<|aZ t5 h205 J J<|aZ t5 h205 J J<|aY J J<|aL (dD ([(aA t.nd k).ac]) (by simp only [bH,List.append_nil]; omega)) J<|aZ t5 h205 J J<|aY J J ?_))
   refine aL (dD ([(aA t.nd k).sf]) (by simp only [bH,List.append_nil]; omega)) J<|aI t6<|aZ t5 h205 J J<|aBg (i:=258) (n:=v258) (B:=(bz (v258+3) 3 1<|List.map cI<|(aA t.nd k).kd)) JR h258.1 (bI J dR) J (λH2 h2=>aFk 258 DE ((aA t.nd k).kd) v258 H2 h2 OM)<|bZ J J<|dG (i:=k) (aM<|V.ms 212 (u12+1) 0 t.nd.length) (cS k) h212 oB J OM<|cZ (vs:=[(V.bool<|(aA t.nd k).lf),(aD<|bH<|[(aA t.nd k).ac]),(aD<|bH<|[(aA t.nd k).sf]),(V.ms 228 w 0 j),(V.ms 258 (v258+3) 0<|((aA t.nd k).kd).length)]) (B':=(bk (u12+1) 108 5<|((List.map cN t.nd).set n [(V.bool<|(aA t.nd n).lf),(aD<|bH [(aA t.nd n).ac]),(aD<|bH [(aA t.nd n).sf]),(V.ms 7028 (w28+1+(aA t.nd n).ou.length) 0<|(aA t.nd n).ou.length),(V.ms 7058 (w58+3) 0<|(aA t.nd n).kd.length)]).set k [(V.bool<|(aA t.nd k).lf),(aD<|bH<|[(aA t.nd k).ac]),(aD<|bH<|[(aA t.nd k).sf]),(V.ms 228 w 0 j),(V.ms 258 (v258+3) 0<|((aA t.nd k).kd).length)])) J J J h212 (aLG (i:=k) (aBW OM OM) J J J)<|cE<|n16 _ _ ?_
   refine gU (id:=228) (id2:=212) (rows:=((List.map cN t.nd).set n [(V.bool<|(aA t.nd n).lf),(aD<|bH [(aA t.nd n).ac]),(aD<|bH [(aA t.nd n).sf]),(V.ms 7028 (w28+1+(aA t.nd n).ou.length) 0<|(aA t.nd n).ou.length),(V.ms 7058 (w58+3) 0<|(aA t.nd n).kd.length)])) (i:=k) (off:=3) (r:=[(V.bool<|(aA t.nd k).lf),(aD<|bH<|[(aA t.nd k).ac]),(aD<|bH<|[(aA t.nd k).sf]),(V.ms 228 w 0 j),(V.ms 258 (v258+3) 0<|((aA t.nd k).kd).length)]) (m:=((aA t.nd k).ou.take j)) (g:=cL) DE h228 (@J Blk<|bk (u12+1) 108 5<|((List.map cN t.nd).set n [(V.bool<|(aA t.nd n).lf),(aD<|bH [(aA t.nd n).ac]),(aD<|bH [(aA t.nd n).sf]),(V.ms 7028 (w28+1+(aA t.nd n).ou.length) 0<|(aA t.nd n).ou.length),(V.ms 7058 (w58+3) 0<|(aA t.nd n).kd.length)]).set k [(V.bool<|(aA t.nd k).lf),(aD<|bH<|[(aA t.nd k).ac]),(aD<|bH<|[(aA t.nd k).sf]),(V.ms 228 w 0 j),(V.ms 258 (v258+3) 0<|((aA t.nd k).kd).length)]) (by (simp; omega)) (by (rw [List.length_take]; omega)) J ?_;refine gU (id:=258) (id2:=212) (rows:=((List.map cN t.nd).set n [(V.bool<|(aA t.nd n).lf),(aD<|bH [(aA t.nd n).ac]),(aD<|bH [(aA t.nd n).sf]),(V.ms 7028 (w28+1+(aA t.nd n).ou.length) 0<|(aA t.nd n).ou.length),(V.ms 7058 (w58+3) 0<|(aA t.nd n).kd.length)])) (i:=k) (off:=4) (r:=[(V.bool<|(aA t.nd k).lf),(aD<|bH<|[(aA t.nd k).ac]),(aD<|bH<|[(aA t.nd k).sf]),(aC<|(aA t.nd k).ou.take j),(V.ms 258 (v258+3) 0<|((aA t.nd k).kd).length)]) (m:=((aA t.nd k).kd)) (g:=cI) DE (@J Blk<|bz (v258+3) 3 1<|List.map cI<|(aA t.nd k).kd) (@J Blk<|bk (u12+1) 108 5<|((List.map cN t.nd).set n [(V.bool<|(aA t.nd n).lf),(aD<|bH [(aA t.nd n).ac]),(aD<|bH [(aA t.nd n).sf]),(V.ms 7028 (w28+1+(aA t.nd n).ou.length) 0<|(aA t.nd n).ou.length),(V.ms 7058 (w58+3) 0<|(aA t.nd n).kd.length)]).set k [(V.bool<|(aA t.nd k).lf),(aD<|bH<|[(aA t.nd k).ac]),(aD<|bH<|[(aA t.nd k).sf]),(aC<|(aA t.nd k).ou.take j),(V.ms 258 (v258+3) 0<|((aA t.nd k).kd).length)]) (by (simp; omega)) JR J (.done ?_)
   refine fO<|cD (aX (id:=258) (aX (id:=228) t19 J) J)<|aE ?_
   refine p12 _ _ _ ?_<|Or.inr<|Or.inr<|⟨(k+1),(v205+1),w,(v258+3),J,(aX (id:=258) (aX (id:=228) t2 J) J),(aX (aX t3<|dV DE)<|dV DE),(aX (aX t17<|dV DE)<|dV DE),(aX (id:=258) (aX (id:=228) t18 J) J),(bG (cS<|k+1) JR),(bD (mY (bD (mY (bD (bD hF DE) DE) DE) DE) DE) DE),(aQ (id:=258) (aQ (id:=228) h201 DE) DE),(aQ (id:=258) (aQ (id:=228) h202 DE) DE),(cM<|aQ (id:=258) (aQ (id:=228) h205 DE) DE),(bG (@J Blk<|bk (u12+1) 108 5<|((List.map cN t.nd).set n [(V.bool<|(aA t.nd n).lf),(aD<|bH [(aA t.nd n).ac]),(aD<|bH [(aA t.nd n).sf]),(V.ms 7028 (w28+1+(aA t.nd n).ou.length) 0<|(aA t.nd n).ou.length),(V.ms 7058 (w58+3) 0<|(aA t.nd n).kd.length)]).set k [(V.bool<|(aA t.nd k).lf),(aD<|bH<|[(aA t.nd k).ac]),(aD<|bH<|[(aA t.nd k).sf]),(aC<|(aA t.nd k).ou.take j),(aD<|(aA t.nd k).kd)]) (by (rw [aKW (f:=cN) (l:=t.nd) (i:=k) (j:=n) OM OM (aR0 (show (aA t.nd k).ou.length<=j by omega))]; done))),(gV (id:=258)<|fW (id:=228)<|cM h228).1,⟨J,J⟩,(aQ (id:=258) (aQ (id:=228) h7028 DE) DE),(aQ (id:=258) (aQ (id:=228) h7058 DE) DE),?_,?_,?_,?_,?_⟩
   . omega
   . omega
   . omega
   . omega
   . omega
   . omega
  refine aS<|p32 _ _ _<|x1 _ _ (.done (aU<|aI t3<|bZ J J<|dA t2 J J h202 J J J J J<|R_q<|fL (R:=λT H=>T 2=(V.mp 202 (u2+1) 0 0)/\(∀ j,j∉[201,202,205,228,258,7028,7058,212]->H j=Hi j)/\H 201=(bk (u1+1) 47 1 [[(V.sl<|List.map cN t.nd)]])/\H 202=(bk (u2+1) 47 1 [[(V.ms 212 (u12+1) 0 t.nd.length)]])/\(H 205).ver=v205/\H 212=(bk (u12+1) 108 5<|(List.map cN t.nd).set n [(V.bool<|(aA t.nd n).lf),(aD<|bH [(aA t.nd n).ac]),(aD<|bH [(aA t.nd n).sf]),(V.ms 7028 (w28+1+(aA t.nd n).ou.length) 0<|(aA t.nd n).ou.length),(V.ms 7058 (w58+3) 0<|(aA t.nd n).kd.length)])/\(H 228).ver=v228/\((H 258).ver=v258/\(H 258).live=false)/\H 7028=(bk (w28+1+(aA t.nd n).ou.length) 54 1<|List.map cL<|(aA t.nd n).ou)/\H 7058=(bz (w58+3) 3 1<|List.map cI<|(aA t.nd n).kd)/\True) ⟨t2,(bD hF DE),h201,J,h205,h212,h228,h258,h7028,h7058,trivial⟩ ?_))
  intro T H ⟨t2,hF,h201,h202,h205,h212,h228,h258,h7028,h7058,_⟩;have hkn:k=t.nd.length:=OM
  subst hkn;have fh:=dK.fin<|dK.put (dK.put (dK.put (dK.putv (n:=v258) (B:=(⟨u58+3*t.nd.length,false,false,0,0,[]⟩:Blk)) (dK.putv (n:=v228) (B:=(⟨u28+t.nd.length*1048578,false,false,0,0,[]⟩:Blk)) (dK.putv (n:=v205) (B:=(⟨u5+t.nd.length,false,false,0,0,[]⟩:Blk)) (dK.putv (n:=(u2+1)) (B:=(⟨u2+1,false,false,0,0,[]⟩:Blk)) (dK.putv (n:=(u1+1)) (B:=(⟨u1+1,false,false,0,0,[]⟩:Blk)) (dK.start hF) (cM h201) (by show _<=u1+1; omega) J) (cM h202) (by show _<=u2+1; omega) J) h205 (by show _<=u5+t.nd.length; omega) J) h228 (by show _<=u28+t.nd.length*1048578; omega) J) h258.1 (by show _<=u58+3*t.nd.length; omega) J) h7028<|jN.eq J) h7058<|jN.eq J) h212<|jN.eq J
  exact aI2 (cH (u:=(V.agg [(V.ms 212 (u12+1) 0 t.nd.length)])) t2 h202<|lB oB J J) fh<|fD.agg1<|fD.same fh _
end
section
open Go Go.Proofs Go.Shelf Go.RowKit Go.Lib
structure InsLay (P:Program) (ρ:Ren) (n1:String) (k bytes:Nat) (z:Value):Prop where
  mixed:P.follows .mixedOrders=true
  f22:P.funcs[ρ.f 22]?=some {Body2.n22 ρ with name:=n1}
  ov: ∀ args w,(callFunc (ρ.f 29) args).run P w=((Extern.SlicesOverlaps.overlaps #[(ρ.t 24),(ρ.t 24)] #[(ρ.t 4)] args).run P w).andThen λv w'=>.ok (.value v) w'
  t0:P.underlying (ρ.t 0)=some (TypeDesc.tuple #[])
  a0: ∀ w,(isAgg<|ρ.t 0).run P w=.ok false w
  z0: ∀ w,(Go.sizeOf<|ρ.t 0).run P w=.ok 1 w
  v0: ∀ w,(zeroValue<|ρ.t 0).run P w=.ok (Value.tuple #[]) w
  t3:P.underlying (ρ.t 3)=some (TypeDesc.int IntKind.i64)
  a3: ∀ w,(isAgg<|ρ.t 3).run P w=.ok false w
  z3: ∀ w,(Go.sizeOf<|ρ.t 3).run P w=.ok 1 w
  v3: ∀ w,(zeroValue<|ρ.t 3).run P w=.ok (Value.int IntKind.i64 0) w
  t4:P.underlying (ρ.t 4)=some (TypeDesc.bool)
  a4: ∀ w,(isAgg<|ρ.t 4).run P w=.ok false w
  z4: ∀ w,(Go.sizeOf<|ρ.t 4).run P w=.ok 1 w
  v4: ∀ w,(zeroValue<|ρ.t 4).run P w=.ok (Value.bool false) w
  z9: ∀ w,(Go.sizeOf<|ρ.t 9).run P w=.ok k w
  t24:P.underlying (ρ.t 24)=some (TypeDesc.slice<|ρ.t 9)
  a24: ∀ w,(isAgg<|ρ.t 24).run P w=.ok false w
  z24: ∀ w,(Go.sizeOf<|ρ.t 24).run P w=.ok 1 w
  v24: ∀ w,(zeroValue<|ρ.t 24).run P w=.ok (Value.slice none 0 0) w
  i9:(P.info?<|ρ.t 9).map (λi=>(i.zero,i.size,i.bytes))=some (some z,k,bytes)
  hk:0 < k
  hz:z.cells.size=k
variable {P:Program} {ρ:Ren} {n1:String} {k bytes:Nat} {z:Value}
theorem mR (w:World) (dT sT ty elem:TypeId) (g o dLen dCap:Nat) (a:Addr) (sLen sCap:Nat) (cur:Array Value) (t:TypeId) (cs:List Value) (k:Nat)
    (hu:P.underlying dT=some (.slice elem)) (hs:(P.info? elem).map (·.size)=some k)
    (hg:w.heap[g]?=some (.cells cur t (0,0))) (hn:cs.length=Nat.min sLen dLen*k)
    (hsrc: ∀ j v,cs[j]?=some v->w.cell? (a.add j)=some v) (hfit:o+cs.length<=cur.size) (h1: ∀ v∈cs,v.oneCell'=true):
    (Builtin.copy_ #[dT,sT] ty #[.slice (some ⟨g,o,none⟩) dLen dCap,.slice (some a) sLen sCap]).run P w=
      .ok (goInt<|Nat.min sLen dLen) (w.setRow g (cur.toList.take o++cs++cur.toList.drop (o+cs.length)).toArray):=by
  have hl:=run_loadCells_list (P:=P) w a cs hsrc;have hst:=run_storeCells_at P g o t cs 0 cur w hg (by simpa using hfit) h1;cases hq:P.info? elem with
  |none=>simp [hq] at hs
  | some i =>
    simp_all [Builtin.copy_,run_underlying,Builtin.lenOf,Builtin.firstCells,sizeOf,typeInfo]
def put (cc:Array Value) (o:Nat) (cs:List Value):Array Value:=(cc.toList.take o++cs++cc.toList.drop (o+cs.length)).toArray
set_option maxHeartbeats 4000000 in
set_option maxRecDepth 100000 in
theorem aKg (L : InsLay P ρ n1 k bytes z) (b n c i vb vc : Nat) (cc cv : Array Value) (tb tv : TypeId) (w : World) (hi : i < n) (hroom : n + 1 <= c) (hc63 : c <= 9223372036854775807) (hvb : vb ≠ b)
    (hb:w.heap[b]?=some (.cells cc tb (0,0))) (hv:w.heap[vb]?=some (.cells cv tv (0,0))) (hcc:c*k=cc.size) (hcv:k<=cv.size) (vs:List Value) (hvs:vs=cv.toList.take k)
    (h1c: ∀ v∈cc.toList.take (n*k),v.oneCell'=true) (h1v: ∀ v∈vs,v.oneCell'=true):
    Calls P (ρ.f 22) #[.slice (some ⟨b,0,none⟩) n c,.int .i64 i,.slice (some ⟨vb,0,none⟩) 1 vc] w λe w'=>
      e=.returned (.slice (some ⟨b,0,none⟩) (n+1) c)/\w'=w.drew.setRow b (put (put cc ((i+1)*k)<|(cc.toList.take<|n*k).drop (i*k)) (i*k) vs):=by
  have hk:=L.hk;have hvl:vs.length=k:=by grind
  have t0:=L.t0; have a0:=L.a0; have z0:=L.z0; have v0:=L.v0; have t3:=L.t3; have a3:=L.a3; have z3:=L.z3; have v3:=L.v3; have t4:=L.t4; have a4:=L.a4; have z4:=L.z4; have v4:=L.v4; have z9:=L.z9; have t24:=L.t24; have a24:=L.a24; have z24:=L.z24; have v24:=L.v24;have u0:=run_underlying L.t0; have u3:=run_underlying L.t3; have u4:=run_underlying L.t4; have u24:=run_underlying L.t24;have hz2: ¬ ((i:Int)=(n:Int)):=OM
  have hsz:(P.info?<|ρ.t 9).map (·.size)=some k:=by
    obtain ⟨i0,hi0,h0,h1,h2⟩:=info_parts L.i9;rw [hi0]; simp [h1]
  have hov: ∀ lb cb,(callFunc (ρ.f 29) #[.slice (some ⟨vb,0,none⟩) 1 vc,.slice (some ⟨b,(i+1)*k,none⟩) lb cb]).run P w=.ok (.value (.bool false)) w:=λlb cb=>by
    rw [L.ov,
      Lib.run_overlaps_apart w (ρ.t 24) (ρ.t 4) (ρ.t 9) L.t24 k L.z9 ⟨vb,0,none⟩ ⟨b,(i+1)*k,none⟩ 1 vc lb cb hvb tv tb cv.size cc.size (by simp [World.shape?,hv]) (by simp [World.shape?,hb]) (by rw [<- hcc]; have:0 < c*k:=Nat.mul_pos OM hk; omega) (by simp [World.frozen?,hv]) (by simp [World.frozen?,hv])]
    rfl
  have mixed:=L.mixed;have hw1:IntKind.i64.wrap ((i:Int)+1)=(i:Int)+1:=by grind [IntKind.wrap_i64]
  have hb1:(0:Int)<=(i:Int)+1:=OM
  have hin:i<=n:=OM
  have htn:((i:Int)+1).toNat=i+1:=OM
  have hb2: ¬ (c=i+1):=OM
  have hb3:(i:Int)<=(n:Int)+1:=OM
  have hb4: ¬ (c=i):=OM
  have hnk:n*k<=cc.size:=by rw [<- hcc]; exact Nat.mul_le_mul_right k OM
  have hn1k:(n+1)*k<=cc.size:=by rw [<- hcc]; exact Nat.mul_le_mul_right k OM
  have hik:i*k<=n*k:=Nat.mul_le_mul_right k hin;obtain ⟨ds,hds⟩: ∃ ds,ds=(cc.toList.take<|n*k).drop (i*k):=⟨_,J⟩;have hdl:ds.length=(n - i)*k:=by grind [Nat.sub_mul]
  rw [<- hds];have e1:Nat.min (n+1 - i) (n - i)=n - i:=by grind
  have e2:(i+1)*k+(n - i)*k=(n+1)*k:=by grind
  have hcp1: ∀ ty dc sc,(Builtin.copy_ #[(ρ.t 24),(ρ.t 24)] ty #[.slice (some ⟨b,(i+1)*k,none⟩) (n - i) dc,.slice (some ⟨b,i*k,none⟩) (n+1 - i) sc]).run P w.drew=.ok (goInt (n - i:Nat)) (w.drew.setRow b<|put cc ((i+1)*k) ds):=λty dc sc=>by
    have h:=mR (P:=P) w.drew (ρ.t 24) (ρ.t 24) ty (ρ.t 9) b ((i+1)*k) (n - i) dc ⟨b,i*k,none⟩ (n+1 - i) sc cc tb ds k L.t24 hsz hb (by rw [hdl,e1])
      (λj v hj=>by
        rw [Addr.add_lit];have hj':=hj;rw [hds,List.getElem?_drop,List.getElem?_take] at hj;split at hj
        . rw [Array.getElem?_toList] at hj
          simp [World.cell?,show w.drew.heap[b]?=_ from hb,hj]
        . cases hj) (by rw [hdl,e2]; exact hn1k) (λv hv=>h1c v<|List.mem_of_mem_drop<|hds ▸ hv)
    rw [e1] at h;exact h
  have hps:(put cc ((i+1)*k) ds).size=cc.size:=by
    grind [put]
  obtain ⟨W1,hW1⟩: ∃ W1,W1=w.drew.setRow b (put cc ((i+1)*k) ds):=⟨_,J⟩;have hB1:W1.heap[b]?=some (.cells (put cc ((i+1)*k) ds) tb (0,0)):=by rw [hW1]; exact setRow_heap w.drew b cc _ tb _ hb
  have hV1:W1.heap[vb]?=some (.cells cv tv (0,0)):=by rw [hW1,setRow_other w.drew b vb _ hvb]; exact hv
  have hcp2: ∀ ty dc,(Builtin.copy_ #[(ρ.t 24),(ρ.t 24)] ty #[.slice (some ⟨b,i*k,none⟩) (n+1 - i) dc,.slice (some ⟨vb,0,none⟩) 1 vc]).run P W1=.ok (goInt (1:Nat)) (W1.setRow b<|put (put cc ((i+1)*k) ds) (i*k) vs):=λty dc=>by
    have e3:Nat.min 1 (n+1 - i)=1:=by grind
    have h:=mR (P:=P) W1 (ρ.t 24) (ρ.t 24) ty (ρ.t 9) b (i*k) (n+1 - i) dc ⟨vb,0,none⟩ 1 vc _ tb vs k L.t24 hsz hB1 (by rw [e3,hvl,Nat.one_mul])
      (λj v hj=>by
        rw [Addr.add_lit];rw [hvs,List.getElem?_take] at hj;split at hj
        . rw [Array.getElem?_toList] at hj
          simp [World.cell?,hV1,hj]
        . cases hj) (by grind) h1v
    rw [e3] at h;exact h
  have hfin:W1.setRow b (put (put cc ((i+1)*k) ds) (i*k) vs)=w.drew.setRow b (put (put cc ((i+1)*k) ds) (i*k) vs):=by rw [hW1,setRow_setRow]
  rw [<- hW1] at hcp1;clear hW1 hds e1 e2 hvs
  go_enter L.f22,Body2.n22_ntmps ρ
  go_wp2_with (simp only [hov])
  go_region_law_o (refine step_copy_runI J _ _ (ρ.t 24) (ρ.t 24) J _ _ (by simp [Act.eval,Act.put]) (by simp [Act.eval,Act.put]) (hcp1 _ _ _) ?_)
  go_wp2_with (at_builtin; refine wpList_copy_runI _ J _ _ (ρ.t 24) (ρ.t 24) J _ _ J J (hcp2 _ _) ?_)
  go_ret
  simp_all
theorem zE (w:World) (a b:Array Value) (e:TypeId):(w.alloc (.cells a e)).setRow w.heap.size b=w.alloc (.cells b e):=by
  have h:(w.alloc (.cells a e)).heap[w.heap.size]?=some (.cells a e (0,0)):=kA _ _;unfold World.setRow World.alloc;congr 1
  grind
set_option maxHeartbeats 4000000 in
set_option maxRecDepth 100000 in
theorem aMj (L : InsLay P ρ n1 k bytes z) (b n c i vb vc : Nat) (cc cv : Array Value) (tb tv : TypeId) (w : World) (hi : i < n) (hnc : n <= c) (hroom : c < n + 1) (hc63 : c < 9223372036854775807) (hbig : (n + 1) * bytes <= 140737488355328)
    (hb:w.heap[b]?=some (.cells cc tb (0,0))) (hv:w.heap[vb]?=some (.cells cv tv (0,0))) (hcc:c*k=cc.size) (hcv:k<=cv.size) (vs:List Value) (hvs:vs=cv.toList.take k)
    (h1c: ∀ v∈cc.toList.take (n*k),v.oneCell'=true) (h1v: ∀ v∈vs,v.oneCell'=true):
    Calls P (ρ.f 22) #[.slice (some ⟨b,0,none⟩) n c,.int .i64 i,.slice (some ⟨vb,0,none⟩) 1 vc] w λe w'=>
      ∃ G R,R.size=G*k/\n+1<=G/\G<=maxLen/\e=.returned (.slice (some ⟨w.heap.size,0,none⟩) (n+1) G)/\w'=w.drew.drew.alloc (.cells (put (put R (i*k) vs) ((i+1)*k)<|(cc.toList.take<|n*k).drop (i*k)) (ρ.t 9))/\R.toList.take (i*k)=cc.toList.take (i*k):=by
  have hk:=L.hk; have hzl:=L.hz;have hvl:vs.length=k:=by grind
  have t0:=L.t0; have a0:=L.a0; have z0:=L.z0; have v0:=L.v0; have t3:=L.t3; have a3:=L.a3; have z3:=L.z3; have v3:=L.v3; have t4:=L.t4; have a4:=L.a4; have z4:=L.z4; have v4:=L.v4; have z9:=L.z9; have t24:=L.t24; have a24:=L.a24; have z24:=L.z24; have v24:=L.v24;have u0:=run_underlying L.t0; have u3:=run_underlying L.t3; have u4:=run_underlying L.t4; have u24:=run_underlying L.t24;have mixed:=L.mixed;obtain ⟨i0,hi0,hz0,hzs,hzb⟩:=info_parts L.i9;have hz2: ¬ ((i:Int)=(n:Int)):=OM
  have hz3:(c:Int) < (n:Int)+1:=OM
  have hsz:(P.info?<|ρ.t 9).map (·.size)=some k:=by rw [hi0]; simp [hzs]
  have hbw:b < w.heap.size:=(Array.getElem?_eq_some_iff.1 hb).1;have hvw:vb < w.heap.size:=(Array.getElem?_eq_some_iff.1 hv).1;have hkk:(n:Int)+1 - (i:Int)=((n+1 - i:Nat):Int):=OM
  have hik:i+(n+1 - i)=n+1:=OM
  have hnk:n*k<=cc.size:=by grind
  have hikn:i*k<=n*k:=Nat.mul_le_mul_right k OM
  have hold:(Builtin.firstCells i0.size i (.slice (some ⟨b,0,none⟩) i c)).run P w.drew=.ok (cc.toList.take<|i*k).toArray w.drew:=by
    rw [hzs]
    exact run_firstCells_some w.drew k i ⟨b,0,none⟩ i c (cc.toList.take<|i*k) (by rw [List.length_take,Array.length_toList]; omega) (λj v hj=>by
      rw [Addr.add_lit];rw [List.getElem?_take] at hj;split at hj
      . rw [Array.getElem?_toList] at hj
        simp [World.cell?,show w.drew.heap[b]?=_ from hb,hj]
      . cases hj)
  have hrz: ∀ ty,(Builtin.append_ #[(ρ.t 24),(ρ.t 3)] ty #[.slice (some ⟨b,0,none⟩) i c,.int .i64 ((n:Int)+1 - (i:Int))]).run P w=
      .ok (.slice (some ⟨w.heap.size,0,none⟩) (n+1) (grownCap w (n+1) c<|ρ.t 9)) (w.drew.alloc (.cells ((cc.toList.take<|i*k).toArray++Builtin.zeroCells z.cells (n+1 - i)++Builtin.zeroCells z.cells (grownCap w (n+1) c (ρ.t 9) - (n+1))) (ρ.t 9))):=λty=>by
    have h:=Lib.run_append_grow_zeros w (ρ.t 24) (ρ.t 3) ty (ρ.t 9) i0 _ .i64 .i64 L.t24 L.t3 hi0 hz0 (some ⟨b,0,none⟩) i c _ hold (n+1 - i) OM OM OM OM (by rw [hzb]; have:(n+1 - i)*bytes<=(n+1)*bytes:=Nat.mul_le_mul_right _ OM; omega) (by simp_all [growslice_fits]);rw [hik] at h;rw [hkk];exact h
  have hGn:n+1<=grownCap w (n+1) c (ρ.t 9):=grownCap_ge w _ _ _;have hGm:grownCap w (n+1) c (ρ.t 9)<=maxLen:=grownCap_le_maxLen w (n+1) c (ρ.t 9) (by unfold maxLen; omega);obtain ⟨G,hG⟩: ∃ G,G=grownCap w (n+1) c (ρ.t 9):=⟨_,J⟩;rw [<- hG] at hGn hGm;obtain ⟨ROW,hROW⟩: ∃ ROW:Array Value,ROW=(cc.toList.take<|i*k).toArray++Builtin.zeroCells z.cells (n+1 - i)++Builtin.zeroCells z.cells (G - (n+1)):=⟨_,J⟩;rw [<- hG] at hrz;rw [<- hROW] at hrz
  have hRl:ROW.size=G*k:=by
    rw [hROW];simp only [Array.size_append,List.size_toArray,List.length_take,Array.length_toList,size_zeroCells,hzl,Nat.min_eq_left (show i*k<=cc.size by omega),<- Nat.add_mul];congr 1; omega
  have hRt:ROW.toList.take (i*k)=cc.toList.take (i*k):=by
    grind
  have hG63:G<=9223372036854775807:=by unfold maxLen at hGm; omega
  have hGi: ¬ (G=i):=OM
  have hGim: ¬ (G=i+1):=OM
  have hci: ¬ (c=i):=OM
  have hn1G:(n+1)*k<=G*k:=Nat.mul_le_mul_right k hGn;obtain ⟨ds,hds⟩: ∃ ds,ds=(cc.toList.take<|n*k).drop (i*k):=⟨_,J⟩;have hdl:ds.length=(n - i)*k:=by grind [Nat.sub_mul]
  rw [<- hds];have e1:Nat.min (n - i) (n - i)=n - i:=Nat.min_self _;have e2:(i+1)*k+(n - i)*k=(n+1)*k:=by grind
  have e4:i*k+k<=(n+1)*k:=by grind
  obtain ⟨W1,hW1⟩: ∃ W1,W1=w.drew.alloc (.cells ROW (ρ.t 9)):=⟨_,J⟩
  have hcpA: ∀ (W:World),W.heap=W1.heap-> ∀ ty dc,(Builtin.copy_ #[(ρ.t 24),(ρ.t 24)] ty #[.slice (some ⟨w.heap.size,i*k,none⟩) (n+1 - i) dc,.slice (some ⟨vb,0,none⟩) 1 vc]).run P W=.ok (goInt (1:Nat)) (W.setRow w.heap.size<|put ROW (i*k) vs):=λW hW ty dc=>by
    have e3:Nat.min 1 (n+1 - i)=1:=by grind
    have hN:W.heap[w.heap.size]?=some (.cells ROW (ρ.t 9) (0,0)):=by rw [hW,hW1]; exact kA w.drew _
    have hV:W.heap[vb]?=some (.cells cv tv (0,0)):=by rw [hW,hW1,iY w.drew _ hvw]; exact hv
    have h:=mR (P:=P) W (ρ.t 24) (ρ.t 24) ty (ρ.t 9) w.heap.size (i*k) (n+1 - i) dc ⟨vb,0,none⟩ 1 vc ROW (ρ.t 9) vs k L.t24 hsz hN (by rw [e3,hvl,Nat.one_mul])
      (λj v hj=>by
        rw [Addr.add_lit];rw [hvs,List.getElem?_take] at hj;split at hj
        . rw [Array.getElem?_toList] at hj
          simp [World.cell?,hV,hj]
        . cases hj) (by rw [hRl,hvl]; omega) h1v
    rw [e3] at h;exact h
  have hps:(put ROW (i*k) vs).size=ROW.size:=by
    grind [put]
  have hcpB: ∀ (W:World),W.heap=(W1.setRow w.heap.size<|put ROW (i*k) vs).heap-> ∀ ty dc sc,(Builtin.copy_ #[(ρ.t 24),(ρ.t 24)] ty #[.slice (some ⟨w.heap.size,(i+1)*k,none⟩) (n - i) dc,.slice (some ⟨b,i*k,none⟩) (n - i) sc]).run P W=.ok (goInt (n - i:Nat)) (W.setRow w.heap.size<|put (put ROW (i*k) vs) ((i+1)*k) ds):=λW hW ty dc sc=>by
    have hN:W.heap[w.heap.size]?=some (.cells (put ROW (i*k) vs) (ρ.t 9) (0,0)):=by
      rw [hW,hW1]; exact setRow_heap _ _ ROW _ (ρ.t 9) _<|kA w.drew _
    have hB:W.heap[b]?=some (.cells cc tb (0,0)):=by
      rw [hW,hW1,setRow_other _ _ b _ OM,iY w.drew _ hbw]; exact hb
    have h:=mR (P:=P) W (ρ.t 24) (ρ.t 24) ty (ρ.t 9) w.heap.size ((i+1)*k) (n - i) dc ⟨b,i*k,none⟩ (n - i) sc _ (ρ.t 9) ds k L.t24 hsz hN (by rw [hdl,e1])
      (λj v hj=>by
        rw [Addr.add_lit];rw [hds,List.getElem?_drop,List.getElem?_take] at hj;split at hj
        . rw [Array.getElem?_toList] at hj
          simp [World.cell?,hB,hj]
        . cases hj) (by grind) (λv hv=>h1c v<|List.mem_of_mem_drop<|hds ▸ hv)
    rw [e1] at h;exact h
  subst hW1;have hw1:IntKind.i64.wrap ((i:Int)+1)=(i:Int)+1:=by grind [IntKind.wrap_i64]
  have hb1:(0:Int)<=(i:Int)+1:=OM
  have hin:i<=n:=OM
  have htn:((i:Int)+1).toNat=i+1:=OM
  have hb3:(i:Int)<=(n:Int):=OM
  have hE1:((w.alloc (.cells ROW (ρ.t 9))).drew).heap=(w.drew.alloc (.cells ROW (ρ.t 9))).heap:=J;have hF1:(((w.alloc (.cells ROW (ρ.t 9))).drew.setRow w.heap.size (put ROW (i*k) vs)).drew).heap=((w.drew.alloc (.cells ROW (ρ.t 9))).setRow w.heap.size (put ROW (i*k) vs)).heap:=J
  have hcall:Calls P (ρ.f 22) #[.slice (some ⟨b,0,none⟩) n c,.int .i64 i,.slice (some ⟨vb,0,none⟩) 1 vc] w λe w'=>e=.returned (.slice (some ⟨w.heap.size,0,none⟩) (n+1) G)/\w'=(((w.alloc (.cells ROW (ρ.t 9))).drew.setRow w.heap.size (put ROW (i*k) vs)).drew).setRow w.heap.size (put (put ROW (i*k) vs) ((i+1)*k) ds):=by
    clear hkk hik hold hROW hG hRl hds e1 e2 e4 hRt hvs
    go_enter L.f22,Body2.n22_ntmps ρ
    go_wp2_with (first
      |(at_builtin; refine Lib.wpList_append_run _ rfl _ _ _ _ rfl _ _ rfl rfl _ _ (hrz _) ?_)
      |(at_builtin; refine wpList_copy_runI _ rfl _ _ (ρ.t 24) (ρ.t 24) rfl _ _ rfl rfl (hcpA _ hE1 _ _) ?_)
      |(at_builtin; refine wpList_copy_runI _ rfl _ _ (ρ.t 24) (ρ.t 24) rfl _ _ rfl rfl (hcpB _ hF1 _ _ _) ?_))
    go_region_law_o (refine step_copy_runI J _ _ (ρ.t 24) (ρ.t 24) J (.slice (some ⟨w.heap.size,(i+1)*k,none⟩) (n - i) (G - (i+1))) (.slice (some ⟨b,i*k,none⟩) (n - i) (c - i)) (by simp [Act.eval,Act.put]) (by simp [Act.eval,Act.put]) (hcpB _ hF1 (ρ.t 3) (G - (i+1))<|c - i) ?_)
    go_wp2
    go_ret
    exact ⟨J,J⟩
  refine hcall.mono λe w' h=>?_;obtain ⟨rfl,rfl⟩:=h;refine ⟨G,ROW,hRl,hGn,hGm,J,?_,hRt⟩;have q:=zE w ROW (put ROW (i*k) vs)<|ρ.t 9
  have q2:=zE w (put ROW (i*k) vs) (put (put ROW (i*k) vs) ((i+1)*k) ds)<|ρ.t 9
  have q3:(((w.alloc (.cells ROW (ρ.t 9))).drew.setRow w.heap.size (put ROW (i*k) vs)).drew).setRow w.heap.size (put (put ROW (i*k) vs) ((i+1)*k) ds)=((((w.alloc (.cells ROW (ρ.t 9))).setRow w.heap.size (put ROW (i*k) vs))).setRow w.heap.size (put (put ROW (i*k) vs) ((i+1)*k) ds)).drew.drew:=J;rw [q3,q,q2]
  rfl
set_option maxHeartbeats 4000000 in
set_option maxRecDepth 100000 in
theorem aOR (L:InsLay P ρ n1 k bytes z) (b n c vb vc:Nat) (w w':World) (v:Value) (hnc:n<=c)
    (hr: ∀ ty,(Builtin.append_ #[(ρ.t 24),(ρ.t 24)] ty #[.slice (some ⟨b,0,none⟩) n c,.slice (some ⟨vb,0,none⟩) 1 vc]).run P w=.ok v w'):
    Calls P (ρ.f 22) #[.slice (some ⟨b,0,none⟩) n c,.int .i64 n,.slice (some ⟨vb,0,none⟩) 1 vc] w λe u=>e=.returned v/\u=w':=by
  have hk:=L.hk;have t0:=L.t0; have a0:=L.a0; have z0:=L.z0; have v0:=L.v0; have t3:=L.t3; have a3:=L.a3; have z3:=L.z3; have v3:=L.v3; have t4:=L.t4; have a4:=L.a4; have z4:=L.z4; have v4:=L.v4; have z9:=L.z9; have t24:=L.t24; have a24:=L.a24; have z24:=L.z24; have v24:=L.v24;have u0:=run_underlying L.t0; have u3:=run_underlying L.t3; have u4:=run_underlying L.t4; have u24:=run_underlying L.t24;have mixed:=L.mixed
  go_enter L.f22,Body2.n22_ntmps ρ
  go_wp2_with (at_builtin; refine Lib.wpList_append_run _ J _ _ _ _ J _ _ J J _ _ (hr _) ?_)
  all_goals (go_ret; exact ⟨J,J⟩)
set_option maxHeartbeats 4000000 in
set_option maxRecDepth 100000 in
theorem aL5 (L:InsLay P ρ n1 k bytes z) (vb vc:Nat) (w w':World) (v:Value)
    (hr: ∀ ty,(Builtin.append_ #[(ρ.t 24),(ρ.t 24)] ty #[.slice none 0 0,.slice (some ⟨vb,0,none⟩) 1 vc]).run P w=.ok v w'):
    Calls P (ρ.f 22) #[.slice none 0 0,.int .i64 0,.slice (some ⟨vb,0,none⟩) 1 vc] w λe u=>e=.returned v/\u=w':=by
  have hk:=L.hk;have t0:=L.t0; have a0:=L.a0; have z0:=L.z0; have v0:=L.v0; have t3:=L.t3; have a3:=L.a3; have z3:=L.z3; have v3:=L.v3; have t4:=L.t4; have a4:=L.a4; have z4:=L.z4; have v4:=L.v4; have z9:=L.z9; have t24:=L.t24; have a24:=L.a24; have z24:=L.z24; have v24:=L.v24;have u0:=run_underlying L.t0; have u3:=run_underlying L.t3; have u4:=run_underlying L.t4; have u24:=run_underlying L.t24;have mixed:=L.mixed
  go_enter L.f22,Body2.n22_ntmps ρ
  go_wp2_with (at_builtin; refine Lib.wpList_append_run _ J _ _ _ _ J _ _ J J _ _ (hr _) ?_)
  all_goals (go_ret; exact ⟨J,J⟩)
set_option maxHeartbeats 4000000 in
set_option maxRecDepth 100000 in
theorem aMi (L:InsLay P ρ n1 k bytes z) (a:Addr) (vb vc:Nat) (w w':World) (v:Value)
    (hr: ∀ ty,(Builtin.append_ #[(ρ.t 24),(ρ.t 24)] ty #[.slice (some a) 0 0,.slice (some ⟨vb,0,none⟩) 1 vc]).run P w=.ok v w'):
    Calls P (ρ.f 22) #[.slice (some a) 0 0,.int .i64 0,.slice (some ⟨vb,0,none⟩) 1 vc] w λe u=>e=.returned v/\u=w':=by
  have hk:=L.hk;have t0:=L.t0; have a0:=L.a0; have z0:=L.z0; have v0:=L.v0; have t3:=L.t3; have a3:=L.a3; have z3:=L.z3; have v3:=L.v3; have t4:=L.t4; have a4:=L.a4; have z4:=L.z4; have v4:=L.v4; have z9:=L.z9; have t24:=L.t24; have a24:=L.a24; have z24:=L.z24; have v24:=L.v24;have u0:=run_underlying L.t0; have u3:=run_underlying L.t3; have u4:=run_underlying L.t4; have u24:=run_underlying L.t24;have mixed:=L.mixed
  go_enter L.f22,Body2.n22_ntmps ρ
  go_wp2_with (at_builtin; refine Lib.wpList_append_run _ J _ _ _ _ J _ _ J J _ _ (hr _) ?_)
  all_goals (go_ret; exact ⟨J,J⟩)
end
section
open Go Go.Proofs Go.Shelf Go.Lib
theorem pY {cc:Array Value} {o:Nat} {cs:List Value} (h:o+cs.length<=cc.size) (q:Nat):(put cc o cs)[q]?=if o<=q/\q < o+cs.length then cs[q - o]? else cc[q]?:=by
  unfold put;rw [vE h]
theorem rS {cc:Array Value} {o:Nat} {cs:List Value} (h:o+cs.length<=cc.size):(put cc o cs).size=cc.size:=by grind [put]
theorem aGe {x : Cx} {rows : List (List V)} {row : List V} {k i : Nat} {cc cv F : Array Value} (hsz : ∀ r ∈ rows, r.length = k) (hsz1 : row.length = k) (hi : i <= rows.length)
    (hr: ∀ (r:Nat) (row:List V) (j:Nat) (v:V),rows[r]?=some row->row[j]?=some v->R x v (cc.getD (r*k+j) undef))
    (hv: ∀ (j:Nat) (v:V),row[j]?=some v->R x v (cv.getD j undef))
    (ha: ∀ q,q < i*k->F[q]?=cc[q]?) (hb: ∀ q,q < k->F[i*k+q]?=cv[q]?) (hc: ∀ q,q < (rows.length - i)*k->F[(i+1)*k+q]?=cc[i*k+q]?):
    ∀ (r:Nat) (row':List V) (j:Nat) (v:V),(rows.take i++row::rows.drop i)[r]?=some row'->row'[j]?=some v->R x v (F.getD (r*k+j) undef):=by
  intro r row' j v h1 h2;have hlt:(rows.take i).length=i:=by grind
  rw [List.getElem?_append] at h1;split at h1
  . rename_i hlt'
    rw [hlt] at hlt';rw [List.getElem?_take,if_pos hlt'] at h1;have hjk:j < k:=by grind
    have:r*k+j < i*k:=by
      have:(r+1)*k<=i*k:=Nat.mul_le_mul_right k hlt'
      grind
    simp_all
  . rename_i hge
    rw [hlt] at h1 hge;by_cases he:r=i
    . subst he
      rw [Nat.sub_self] at h1;simp only [List.getElem?_cons_zero,Option.some.injEq] at h1;subst h1;have hjk:j < k:=by grind
      simp_all
    . obtain ⟨q,hq⟩: ∃ q,r - i=q+1:=⟨r - i - 1,OM⟩
      rw [hq,List.getElem?_cons_succ,List.getElem?_drop] at h1;have hjk:j < k:=by grind
      have hql:=(List.getElem?_eq_some_iff.1 h1).1
      have hlt2:q*k+j < (rows.length - i)*k:=by
        have:(q+1)*k<=(rows.length - i)*k:=Nat.mul_le_mul_right k OM
        grind
      have e1:r*k+j=(i+1)*k+(q*k+j):=by rw [<- Nat.add_assoc,<- Nat.add_mul]; congr 2; omega
      have e2:i*k+(q*k+j)=(i+q)*k+j:=by rw [Nat.add_mul]; omega
      simp_all
section
variable {P:Program} {ρ:Ren} {n1:String} {k bytes:Nat} {z:Value}
theorem aMg (L:InsLay P ρ n1 k bytes z) {zz:List V} (hzz:iG P (ρ.t 9)=some zz) (hzl:zz.length=k) {x:Cx} (hx:Inv x) {id id2 ver ver2 ty2 i:Nat} {rows:List (List V)} {row:List V} {c0 c2:Value}
    {lz:Bool} (hlz:(lz&&rows.isEmpty)=false) (hH:x.H id=⟨ver,true,lz,ρ.t 9,k,rows⟩) (hH2:x.H id2=⟨ver2,true,false,ty2,k,[row]⟩) (hne:id≠id2) (hi:i<=rows.length)
    (hf:eV k rows=true) (hf1:eV k [row]=true) (hb:(rows.length+1)*bytes<=140737488355328) (hm:rows.length+1<=9223372036854775807)
    (r0:R x (.ms id ver 0 rows.length) c0) (r2:R x (.ms id2 ver2 0 1) c2):
    Calls P (ρ.f 22) #[c0,.int .i64 i,c2] x.w λe w'=> ∃ c y,e=.returned c/\y.w=w'/\y.H=cU x.H id ⟨ver+1,true,lz,ρ.t 9,k,rows.take i++row::rows.drop i⟩/\Inv y/\R y (.ms id (ver+1) 0 (rows.length+1)) c/\Frame x y:=by
  have hk:=L.hk;have ho:(x.H id).own=true:=by grind [Blk.own]
  have ho2:(x.H id2).own=true:=by rw [hH2]; rfl
  obtain ⟨hsz,hone⟩:=iL hf;obtain ⟨hsz1,hone1⟩:=iL hf1;have r0':=r0; have r2':=r2;cases r0 with
  |ms _ _ _ _ b n cap hv hh hm0=>
  cases r2 with
  |ms _ _ _ _ b2 m2 cap2 hv2 hh2 hm2=>
  obtain ⟨e1,e2,e3,e4,e5,e6⟩:=hh (by rw [hH]) (by rw [hH]);obtain ⟨d1,d2,d3,d4,d5,d6⟩:=hh2 (by rw [hH2]) (by rw [hH2]);obtain ⟨e7,e8⟩:=e5 ho;obtain ⟨d7,d8⟩:=d5 ho2
  have hmI:(lz&&decide (4294967296<=ρ.t 9))=false:=by
    have:=hm0 (by rw [hH]) (by rw [hH]);rw [hH] at this; exact this
  obtain ⟨cc,b1,bb2,bb3,bb4⟩:=hx.cel id ho<|hm0 (by rw [hH]) (by rw [hH])
  obtain ⟨cv,v1,vv2,vv3,vv4⟩:=hx.cel id2 ho2<|hm2 (by rw [hH2]) (by rw [hH2])
  have hrs:fE x.w (x.σ id)=cc.size:=by unfold fE; rw [b1]
  have hrs2:fE x.w (x.σ id2)=cv.size:=by unfold fE; rw [v1]
  rw [hrs,hH] at e8;rw [hrs2,hH2] at d8;rw [hH] at e7 b1 bb3 bb4;rw [hH2] at d7 v1 vv3 vv4;simp only [Nat.zero_mul,Nat.zero_add] at e7 d7 e8 d8;simp only at b1 bb3 bb4 v1 vv3 vv4;subst e1; subst d1; subst e7; subst d7;have hvb:x.σ id2≠x.σ id:=λe=>hne<|hx.inj id id2 ho ho2 e.symm
  have hcv:k<=cv.size:=by simpa using vv3
  have hsz1':row.length=k:=hsz1 row SI
  have hrow: ∀ (j:Nat) (v:V),row[j]?=some v->R x v (cv.getD j undef):=λj v hj=>by
    have:=vv4 0 row j v J hj;simpa using this
  have h1c: ∀ v∈cc.toList.take (rows.length*k),v.oneCell'=true:=λv hv=>by
    obtain ⟨q,hq⟩:=List.getElem?_of_mem hv;rw [List.getElem?_take] at hq;split at hq
    . rename_i hlt
      obtain ⟨rw',u,h5,h6,h7⟩:=yF hsz hlt;have h8:=bb4 _ _ _ _ h5 h6;rw [h7,Array.getD_eq_getD_getElem?,<- Array.getElem?_toList,hq] at h8;exact h8.one<|hone _ (List.mem_of_getElem? h5) _<|List.mem_of_getElem? h6
    . cases hq
  obtain ⟨vs,hvs⟩: ∃ vs,vs=cv.toList.take k:=⟨_,J⟩;have hvl:vs.length=k:=by grind
  have hvg: ∀ q,q < k->vs[q]?=cv[q]?:=λq hq=>by rw [hvs,List.getElem?_take,if_pos hq,Array.getElem?_toList]
  have h1v: ∀ v∈vs,v.oneCell'=true:=λv hv=>by
    obtain ⟨q,hq⟩:=List.getElem?_of_mem hv;have hlt:q < k:=by grind
    have hu: ∃ u,row[q]?=some u:=⟨_,List.getElem?_eq_getElem (by rw [hsz1']; exact hlt)⟩
    obtain ⟨u,hu⟩:=hu;have h8:=hrow q u hu;rw [Array.getD_eq_getD_getElem?,<- hvg q hlt,hq] at h8;exact h8.one<|hone1 row SI u<|List.mem_of_getElem? hu
  obtain ⟨n,hn⟩: ∃ n,n=rows.length:=⟨_,J⟩
  have hnew: ∀ r∈rows.take i++row::rows.drop i,r.length=k:=λr hr=>by
    grind
  have hnewl:(rows.take i++row::rows.drop i).length=rows.length+1:=by simp; omega
  by_cases hend:i=rows.length
  . obtain ⟨i0,hi0,hz0,hzs,hzb⟩:=info_parts L.i9
    obtain ⟨y,c,hr,y1,y2,y3,y4⟩:=aBC (P:=P) (esz:=k) (bytes:=bytes) (new:=[row]) hx L.t24 hi0 hzz hzs hzb hzl OM (i:=id) (ver:=ver) (len:=rows.length) (u:=.ms id2 ver2 0 1) (by rw [hH]) (by rw [hH]) (by rw [hH]) (by rw [hH]) (by rw [hH])
      (by simp [nS,hH2]) hf1 hb hm r0' r2' 0
    rw [hend];refine (aOR L (x.σ id) rows.length cap (x.σ id2) cap2 x.w y.w c e2 λty=>hr).mono λe w' h=>?_
    grind
  have hlt:i < rows.length:=OM
  have hnk:rows.length*k<=cc.size:=by grind
  have hik:i*k<=rows.length*k:=Nat.mul_le_mul_right k hi;obtain ⟨ds,hds⟩: ∃ ds,ds=(cc.toList.take<|rows.length*k).drop (i*k):=⟨_,J⟩;have hdl:ds.length=(rows.length - i)*k:=by grind [Nat.sub_mul]
  have hdg: ∀ q,q < (rows.length - i)*k->ds[q]?=cc[i*k+q]?:=λq hq=>by
    grind
  have e9:(i+1)*k+(rows.length - i)*k=(rows.length+1)*k:=by grind
  have e10:(i+1)*k=i*k+k:=by grind
  by_cases hroom:rows.length+1<=cap
  . have hn1k:(rows.length+1)*k<=cc.size:=by rw [<- e8]; exact Nat.mul_le_mul_right k hroom
    refine (aKg L (x.σ id) rows.length cap i (x.σ id2) cap2 cc cv _ _ x.w hlt hroom (by unfold maxLen at e3; omega) hvb b1 v1 e8 hcv vs hvs h1c h1v).mono λe w' h=>?_;obtain ⟨rfl,rfl⟩:=h;rw [<- hds];have hs1:(put cc ((i+1)*k) ds).size=cc.size:=rS (by rw [hdl,e9]; exact hn1k);have hfit2:i*k+vs.length<=(put cc ((i+1)*k) ds).size:=by rw [hs1,hvl]; omega
    obtain ⟨dI,dF⟩:=jH hx (x.w.drawn+1)<|Nat.le_succ _
    obtain ⟨hI,hF⟩:=lN dI id ho cc (put (put cc ((i+1)*k) ds) (i*k) vs) (by rw [hH]; exact b1) (by rw [rS hfit2,hs1]) (ver+1) (rows.take i++row::rows.drop i) (by simp only [hH]; omega) (by simp only [hH]; omega) (by simp only [hH]; simp)
      (by simp only [hH]; exact hnew) (by simp only [hH]; rw [hnewl]; exact hn1k) (by
        simp only [hH];refine aGe hsz hsz1' hi (λr row j v h5 h6=>(bb4 r row j v h5 h6).frame hx dF) (λj v h5=>(hrow j v h5).frame hx dF) (λq hq=>?_) (λq hq=>?_) (λq hq=>?_)
        . grind [pY]
        . simp_all [pY]
        grind [pY])
    refine ⟨_,_,J,?_,?_,hI,?_,dF.trans hF⟩
    . rfl
    . simp only [hH]
    . refine .ms _ _ _ _ _ _ _ (by simp [aR]) (λ_ _=>?_) λ_ _=>by simp only [aR,hH]; exact hmI
      simp only [aR,hH];refine ⟨trivial,hroom,e3,by rw [hnewl]; omega,λ_=>⟨SI,?_⟩,λh=>by simp [Blk.own] at h⟩
      have:fE (({x.w with drawn:=x.w.drawn+1}:World).setRow (x.σ id) (put (put cc ((i+1)*k) ds) (i*k) vs)) (x.σ id)=cc.size:=by
        have q:=setRow_heap ({x.w with drawn:=x.w.drawn+1}:World) (x.σ id) cc (put (put cc ((i+1)*k) ds) (i*k) vs) _ _ b1
        grind [fE,rS]
      rw [this,Nat.zero_add]; exact e8
  . refine (aMj L (x.σ id) rows.length cap i (x.σ id2) cap2 cc cv _ _ x.w hlt e2 OM OM hb b1 v1 e8 hcv vs hvs h1c h1v).mono λe w' h=>?_
    obtain ⟨G,Rw,g1,g2,g3,rfl,rfl,g4⟩:=h;rw [<- hds];have hGk:(rows.length+1)*k<=Rw.size:=by simp_all [Nat.mul_le_mul_right]
    have hfit1:i*k+vs.length<=Rw.size:=by rw [hvl]; omega
    have hs1:(put Rw (i*k) vs).size=Rw.size:=rS hfit1;have hfit2:(i+1)*k+ds.length<=(put Rw (i*k) vs).size:=by grind
    obtain ⟨dI,dF⟩:=jH hx (x.w.drawn+2) OM
    obtain ⟨hI,hF⟩:=nH dI id (put (put Rw (i*k) vs) ((i+1)*k) ds) lz (ρ.t 9) k (rows.take i++row::rows.drop i) hnew (by grind [rS]) (by
        refine aGe hsz hsz1' hi (λr row j v h5 h6=>(bb4 r row j v h5 h6).frame hx dF) (λj v h5=>(hrow j v h5).frame hx dF) (λq hq=>?_) (λq hq=>?_) (λq hq=>?_)
        . rw [pY hfit2,if_neg OM,pY hfit1,if_neg OM]
          have:=congrArg (λl=>l[q]?) g4;simp only [List.getElem?_take,if_pos hq,Array.getElem?_toList] at this;exact this
        . rw [pY hfit2,if_neg OM,pY hfit1,if_pos OM,Nat.add_sub_cancel_left]; exact hvg q hq
        . rw [pY hfit2,if_pos (by rw [hdl]; omega),Nat.add_sub_cancel_left]; exact hdg q hq) hmI
    refine ⟨_,_,J,?_,?_,hI,?_,dF.trans hF⟩
    . rfl
    . simp only [hH]
    . refine .ms _ _ _ _ _ _ _ (by simp [aR,hH]) (λ_ _=>?_) λ_ _=>by simp only [aR]; exact hmI
      grind [aR,Blk.own,kZ,rS]
theorem wK (L:InsLay P ρ n1 k bytes z) (hcf:fS P (ρ.f 22)) {zz:List V} (hzz:iG P (ρ.t 9)=some zz) (hzl:zz.length=k) {id id2 ver ver2 ty2 i n:Nat} {rows:List (List V)} {row:List V} {H:aT}
    {lz:Bool} (hlz:(lz&&(rows.take n).isEmpty)=false) (hH:H id=⟨ver,true,lz,ρ.t 9,k,rows⟩) (hH2:H id2=⟨ver2,true,false,ty2,k,[row]⟩) (hne:id≠id2) (hn:n<=rows.length) (hi:i<=n)
    (hf:eV k (rows.take n)=true) (hf1:eV k [row]=true) (hb:(n+1)*bytes<=140737488355328) (hm:n+1<=9223372036854775807):
    fH P (ρ.f 22) [.ms id ver 0 n,iV i,.ms id2 ver2 0 1] H (.ms id (ver+2) 0 (n+1)) (cU H id ⟨ver+2,true,lz,ρ.t 9,k,(rows.take n).take i++row::(rows.take n).drop i⟩):=by
  refine ⟨hcf,λx cs hxH hx hr=>?_⟩;subst hxH
  obtain ⟨c0,c1,c2,rfl⟩: ∃ c0 c1 c2,cs=[c0,c1,c2]:=by
    have:=hr.1
    match cs with
    |[a,b,c]=>exact ⟨a,b,c,rfl⟩
    |[]=>simp at this
    |[_]=>simp at this
    |[_,_]=>simp at this
    |_::_::_::_::_=>simp at this
  have r0:R x (.ms id ver 0 n) c0:=hr.2 0 _ J;have r1:R x (iV i) c1:=hr.2 1 _ J;have r2:R x (.ms id2 ver2 0 1) c2:=hr.2 2 _ J
  have hc1:c1=.int .i64 i:=by
    unfold iV at r1;cases r1; rfl
  subst hc1
  have hlz2:(lz&&rows.isEmpty)=false:=by
    grind
  have ho:(x.H id).own=true:=by grind [Blk.own]
  have hM:(x.H id).isM=false:=by
    cases r0 <;> grind
  obtain ⟨cc,b1,bb2,bb3,bb4⟩:=hx.cel id ho hM;have hlen:(rows.take n).length=n:=by grind
  obtain ⟨hI,hF⟩:=lN hx id ho cc cc b1 J (ver+1) (rows.take n) (by grind) (by rw [hH]; simp) (by rw [hH]; exact hlz) (λr h=>bb2 r (by grind))
    (by rw [hlen]; refine Nat.le_trans (Nat.mul_le_mul_right _ ?_) bb3; rw [hH]; exact hn) (λr row j v h1 h2=>by
      grind)
  have hw:x.w.setRow (x.σ id) cc=x.w:=setRow_self x.w _ cc _ _ b1;rw [hw] at hI hF
  have q0:R {x with H:=cU x.H id ⟨ver+1,true,(x.H id).lz,(x.H id).ty,(x.H id).sz,rows.take n⟩} (.ms id (ver+1) 0 (rows.take n).length) c0:=by
    cases r0 with
    |ms _ _ _ _ b m cap hv hh hm=>
    obtain ⟨e1,e2,e3,e4,e5,e6⟩:=hh (by rw [hH]) (by rw [hH]);obtain ⟨e7,e8⟩:=e5 ho;refine .ms _ _ _ _ _ _ _ (by simp [aR]) (λ_ _=>?_) λ_ _=>by simp only [aR]; exact hM
    grind [aR,Blk.own]
  have h:=aMg L hzz hzl hI (id:=id) (id2:=id2) (ver:=ver+1) (ver2:=ver2) (ty2:=ty2) (i:=i) (rows:=rows.take n) (row:=row) hlz (by simp [aR,hH]) (by grind [bT]) hne (by rw [hlen]; exact hi) hf hf1 (by rw [hlen]; exact hb) (by rw [hlen]; exact hm) q0<|r2.frame hx hF
  refine h.mono λe w' h=>?_;obtain ⟨c,y,rfl,h1,h2,h3,h4,h5⟩:=h;refine ⟨c,y,J,h1,?_,h3,?_,hF.trans h5⟩
  . rw [h2]
    grind [aR,bT]
  . rw [hlen] at h4; exact h4
theorem aBP (L:InsLay P ρ n1 k bytes z) (hcf:fS P (ρ.f 22)) {zz:List V} (hzz:iG P (ρ.t 9)=some zz) (hzl:zz.length=k) {id id2 ver ver2 ty2:Nat} {row:List V} {H:aT}
    (hH:H id=⟨ver,true,true,ρ.t 9,k,[]⟩) (hH2:H id2=⟨ver2,true,false,ty2,k,[row]⟩) (hf1:eV k [row]=true) (hb:bytes<=140737488355328):
    fH P (ρ.f 22) [.ms id ver 0 0,iV 0,.ms id2 ver2 0 1] H (.ms id (ver+2) 0 1) (cU H id ⟨ver+2,true,true,ρ.t 9,k,[row]⟩):=by
  refine ⟨hcf,λx cs hxH hx hr=>?_⟩;subst hxH
  obtain ⟨c0,c1,c2,rfl⟩: ∃ c0 c1 c2,cs=[c0,c1,c2]:=by
    have:=hr.1
    match cs with
    |[a,b,c]=>exact ⟨a,b,c,rfl⟩
    |[]=>simp at this
    |[_]=>simp at this
    |[_,_]=>simp at this
    |_::_::_::_::_=>simp at this
  have r0:R x (.ms id ver 0 0) c0:=hr.2 0 _ J;have r1:R x (iV 0) c1:=hr.2 1 _ J;have r2:R x (.ms id2 ver2 0 1) c2:=hr.2 2 _ J
  have hc1:c1=.int .i64 0:=by
    unfold iV at r1;cases r1; rfl
  subst hc1;have hk:=L.hk;have ho2:(x.H id2).own=true:=by rw [hH2]; rfl
  obtain ⟨i0,hi0,hz0,hzs,hzb⟩:=info_parts L.i9
  obtain ⟨y,c,hrun,y1,y2,y3,y4⟩:=aBC (P:=P) (esz:=k) (bytes:=bytes) (new:=[row]) hx L.t24 hi0 hzz hzs hzb hzl OM (i:=id) (ver:=ver) (len:=0) (u:=.ms id2 ver2 0 1) (by rw [hH]) (by rw [hH]) (by rw [hH]; rfl) (by rw [hH]) (by rw [hH])
      (by simp [nS,hH2]) hf1 (by simpa using hb) SI r0 r2 0
  have hcall:Calls P (ρ.f 22) #[c0,.int .i64 0,c2] x.w λe w'=>e=.returned c/\w'=y.w:=by
    cases r2 with
    |ms _ _ _ _ b2 m2 cap2 hv2 hh2 hm2=>
    obtain ⟨d1,d2,d3,d4,d5,d6⟩:=hh2 (by rw [hH2]) (by rw [hH2]);obtain ⟨d7,d8⟩:=d5 ho2;subst d1; subst d7;simp only [Nat.zero_mul] at hrun ⊢;cases r0 with
    | ms _ _ _ _ b n cap hv hh hm =>
      obtain ⟨e1,e2,e3,e4,e5,e6⟩:=hh (by rw [hH]) (by rw [hH]);have hcap:=e6 (by rw [hH]; rfl);subst e1; subst hcap;cases b with
      |none=>exact aL5 L (x.σ id2) cap2 x.w y.w c (λ_=>hrun)
      |some a=>exact aMi L a (x.σ id2) cap2 x.w y.w c (λ_=>hrun)
  refine hcall.mono λe w' h=>?_;obtain ⟨rfl,rfl⟩:=h;have hyi:y.H id=⟨ver+1,true,true,ρ.t 9,k,[row]⟩:=by simp_all
  have hfin:tK y.H (cU y.H id ⟨ver+2,true,true,ρ.t 9,k,[row]⟩):=λj=>by
    by_cases e:j=id
    . grind [aR,jN.up]
    . rw [bT _ _ e]; exact .refl _
  obtain ⟨f1,f2⟩:=yI y2 hfin;have f3:=fD.ms hfin (id:=id) (ver:=ver+1) (n:=ver+2) (off:=0) (len:=0+[row].length) (by rw [hyi]) (by rw [hyi]) SI SI;refine ⟨c,aC3 y _,J,J,?_,f1,f3 y c J y2 y4,y3.trans f2⟩;show cU y.H id _=_;rw [y1]
  grind [aR,bT]
theorem tW (L:InsLay P ρ n1 k bytes z) (hcf:fS P (ρ.f 22)) {zz:List V} (hzz:iG P (ρ.t 9)=some zz) (hzl:zz.length=k) {id id2 ver ver2 ty2 i n:Nat} {rows:List (List V)} {row:List V} {H:aT}
    {lz:Bool} (hn:n=rows.length) (hH:H id=⟨ver,true,lz,ρ.t 9,k,rows⟩) (hH2:H id2=⟨ver2,true,false,ty2,k,[row]⟩) (hne:id≠id2) (hi:i<=n)
    (hf:eV k rows=true) (hf1:eV k [row]=true) (hb:(n+1)*bytes<=140737488355328) (hm:n+1<=9223372036854775807):
    fH P (ρ.f 22) [.ms id ver 0 n,iV i,.ms id2 ver2 0 1] H (.ms id (ver+2) 0 (n+1)) (cU H id ⟨ver+2,true,lz,ρ.t 9,k,rows.take i++row::rows.drop i⟩):=by grind [wK,List.take_length,aBP]
end
end
section
open Go Go.Proofs Go.Shelf
def aKu:Go.Shelf.Ren:=⟨fun|22=>102|29=>148|30=>149|n=>n,fun|24=>22|9=>54|n=>n,λn=>n⟩
theorem aKp:InsLay Tryz.prog aKu Tryz.f102.name 1 24 (.slice none 0 0):={
  mixed:=by kernel_rfl
  f22:=Tryz.func102.trans<|congrArg some (by kernel_rfl)
  ov:=λargs w=>run_callFunc_extern Tryz.func148 (by kernel_rfl) (by kernel_rfl) (by kernel_rfl) (by kernel_rfl) args w
  t0:=Tryz.underlying0,a0:=Tryz.isAgg0,z0:=Tryz.sizeOf0,v0:=Tryz.zeroValue0
  t3:=Tryz.underlying3,a3:=Tryz.isAgg3,z3:=Tryz.sizeOf3,v3:=Tryz.zeroValue3
  t4:=Tryz.underlying4,a4:=Tryz.isAgg4,z4:=Tryz.sizeOf4,v4:=Tryz.zeroValue4
  z9:=Tryz.sizeOf54
  t24:=Tryz.underlying22,a24:=Tryz.isAgg22,z24:=Tryz.sizeOf22,v24:=Tryz.zeroValue22
  i9:=by kernel_rfl
  hk:=DE
  hz:=by kernel_rfl}
theorem aHP:fS Tryz.prog 102:=⟨_,Tryz.func102,by kernel_rfl,by kernel_rfl⟩
end
section
open Go Go.Proofs Go.Shelf
def aKf:Go.Shelf.Ren:=⟨fun|22=>103|29=>150|30=>151|n=>n,fun|24=>54|9=>3|n=>n,λn=>n⟩
theorem aKT:InsLay Tryz.prog aKf Tryz.f103.name 1 8 (.int .i64 0):={
  mixed:=by kernel_rfl
  f22:=Tryz.func103.trans<|congrArg some (by kernel_rfl)
  ov:=λargs w=>run_callFunc_extern Tryz.func150 (by kernel_rfl) (by kernel_rfl) (by kernel_rfl) (by kernel_rfl) args w
  t0:=Tryz.underlying0,a0:=Tryz.isAgg0,z0:=Tryz.sizeOf0,v0:=Tryz.zeroValue0
  t3:=Tryz.underlying3,a3:=Tryz.isAgg3,z3:=Tryz.sizeOf3,v3:=Tryz.zeroValue3
  t4:=Tryz.underlying4,a4:=Tryz.isAgg4,z4:=Tryz.sizeOf4,v4:=Tryz.zeroValue4
  z9:=Tryz.sizeOf3
  t24:=Tryz.underlying54,a24:=Tryz.isAgg54,z24:=Tryz.sizeOf54,v24:=Tryz.zeroValue54
  i9:=by kernel_rfl
  hk:=DE
  hz:=by kernel_rfl}
theorem aH6:fS Tryz.prog 103:=⟨_,Tryz.func103,by kernel_rfl,by kernel_rfl⟩
end
section
open Go Go.Proofs
theorem aNI {H:aT} {id id2 ver ver2 i n:Nat} {lz:Bool} {l:List (List Int)} {w:(List Int)} (hn:n=l.length) (hH:H id=⟨ver,true,lz,54,1,List.map cL l⟩) (hH2:H id2=⟨ver2,true,false,54,1,[cL w]⟩) (hne:id≠id2) (hi:i<=n) (hb:n<=1048576):
    fH Tryz.prog 102 [.ms id ver 0 n,iV i,.ms id2 ver2 0 1] H (.ms id (ver+2) 0 (n+1)) (cU H id ⟨ver+2,true,lz,54,1,List.map cL (tL i w l)⟩):=by
  have hf: ∀ l:List (List Int),eV 1 (List.map cL l)=true:=λl=>by
    simp only [eV,List.all_eq_true];intro r hr;obtain ⟨x,_,rfl⟩:=List.mem_map.1 hr
    rfl
  have h:=tW aKp aHP (zz:=[.nilsl]) (by kernel_rfl) J (by rw [List.length_map]; exact hn) hH hH2 hne hi (hf l) (hf [w]) OM OM;unfold tL;rw [List.map_append,List.map_cons,List.map_take,List.map_drop];exact h
theorem aNu {H:aT} {id id2 ver ver2 i n:Nat} {lz:Bool} {l:List Int} {w:Int} (hn:n=l.length) (hH:H id=⟨ver,true,lz,3,1,List.map cI l⟩) (hH2:H id2=⟨ver2,true,false,3,1,[cI w]⟩) (hne:id≠id2) (hi:i<=n) (hb:n<=1048576):
    fH Tryz.prog 103 [.ms id ver 0 n,iV i,.ms id2 ver2 0 1] H (.ms id (ver+2) 0 (n+1)) (cU H id ⟨ver+2,true,lz,3,1,List.map cI (tL i w l)⟩):=by
  have hf: ∀ l:List Int,eV 1 (List.map cI l)=true:=λl=>by
    simp only [eV,List.all_eq_true];intro r hr;obtain ⟨x,_,rfl⟩:=List.mem_map.1 hr
    rfl
  have h:=tW aKT aH6 (zz:=[.int .i64 0]) (by kernel_rfl) J (by rw [List.length_map]; exact hn) hH hH2 hne hi (hf l) (hf [w]) OM OM;unfold tL;rw [List.map_append,List.map_cons,List.map_take,List.map_drop];exact h
theorem aHh (t:Dt) (n:Int) (aV w:List Int) (hb:Bd t) (ho:aV.length<=1048576) (hw:w.length<=1048576):bJ Tryz.prog 51 [(V.agg [(V.sl (List.map cN t.nd))]),(iV n),(aD aV),(aD w)] (V.tup [(V.agg [(V.sl (List.map cN ((wN t n aV w).nd)))]),(iV (nP t n aV w))]):=by
 refine' pK [82,95] [⟨20,[0,1,2,3,4,5,6,7,8,9,10,11,12,13],[82],[]⟩,⟨21,[0,1,2,3,4,5,6,7,8,9,10,11,12,13],[95],[]⟩] Tryz.func51 ?e λhB=>?_
 case e=>conv=>lhs; cbv
 dsimp only;have hbn:=hb.n;refine aU<|cJ (i:=4) (n:=0) (m:=1) (cs:=[(V.sl<|List.map cN t.nd)]) J (cM J) J J J<|bX (i:=8) (n:=0) (m:=1) J (cM J) J<|aE<|aO<|bB J J J J<|aL (nF t hb) J<|aE<|aO<|aP<|cA J J<|cE ?_
 refine aG J (λc1=>?_) λc1=>?_
 . 
  refine aO<|bB J J J J<|aP<|dA J J J J J J J J J<|aE<|aN ?_
  refine fF (cH (u:=(V.agg [(V.sl<|List.map cN t.nd)])) J (@J Blk<|bk 1 47 1 [[(V.sl<|List.map cN t.nd)]])<|lB oB J J) (bM<|aM<|iV<|iB t) (kM<|dM ?_ (λ_=>by simp))<|aH ?_
  . have z9:nP t n aV w=iB t:=by
      unfold nP; rw [if_pos OM]
    rw [aAn (by rw [z9]; first|exact DE|omega)]
  . have z9:nP t n aV w=iB t:=by
      unfold nP; rw [if_pos OM]
    exact z9.symm
 have hv:iB t=0:=OM
 refine aB<|aO<|bB J J J J<|aP<|aL (aCI t n false) J<|aE<|aO<|aP<|cA J J<|cE ?_
 refine aG J (λc2=>?_) λc2=>?_
 . 
  refine aO<|bB J J J J<|aP<|dA J J J J J J J J J<|aE<|aN ?_
  refine fF (cH (u:=(V.agg [(V.sl<|List.map cN t.nd)])) J (@J Blk<|bk 1 47 1 [[(V.sl<|List.map cN t.nd)]])<|lB oB J J) (bM<|aM<|iV<|noE t n false) (kM<|dM ?_ (λ_=>by simp))<|aH ?_
  . have z9:nP t n aV w=noE t n false:=by
      unfold nP; rw [if_neg OM,if_pos OM]
    rw [aAn (by rw [z9]; first|exact DE|omega)]
  . have z9:nP t n aV w=noE t n false:=by
      unfold nP; rw [if_neg OM,if_pos OM]
    exact z9.symm
 obtain ⟨n0,n1,n2⟩:=rH (t:=t) (n:=n) (b:=false) OM;have nb:n.toNat < t.nd.length:=OM
 have hin:=qK hv nb n2;have hkd:=hb.kd _ nb;have hou:=hb.ou _ nb;refine aB<|aO<|aP<|aZ J J J J<|aP<|dQ (i:=n) (aM<|V.sl<|List.map cN t.nd) (aM<|iV n) OM OM J<|dY (cs':=(List.drop 2<|cN<|aA t.nd n.toNat)) J J<|aJ J J<|aL (qB aV<|(aA t.nd n.toNat).sf) J<|aE<|aO<|aP ?_
 refine cA J J<|cE ?_
 refine aG J (λc3=>?_) λc3=>?_
 . 
  refine aO<|bB J J J J<|aP<|dA J J J J J J J J J<|aE<|aN ?_
  refine fF (cH (u:=(V.agg [(V.sl<|List.map cN t.nd)])) J (@J Blk<|bk 1 47 1 [[(V.sl<|List.map cN t.nd)]])<|lB oB J J) (bM<|aM<|iV<|vlE aV<|(aA t.nd n.toNat).sf) (kM<|dM ?_ (λ_=>by simp))<|aH ?_
  . have z9:nP t n aV w=vlE aV (aA t.nd n.toNat).sf:=by
      unfold nP; rw [if_neg OM,if_neg OM,if_pos OM]
    rw [aAn (by rw [z9]; first|exact DE|omega)]
  . have z9:nP t n aV w=vlE aV (aA t.nd n.toNat).sf:=by
      unfold nP; rw [if_neg OM,if_neg OM,if_pos OM]
    exact z9.symm
 refine aB<|aU<|aZ J J J J<|aP<|dQ (i:=n) (aM<|V.sl<|List.map cN t.nd) (aM<|iV n) OM OM J<|aJ J J<|aP<|aL (aAY (aA t.nd n.toNat) aV hin.srt hou) J<|aP<|bR J J<|bR J J<|aP<|aE<|fM ?_
 refine aU<|aE ?_
 refine aG J (λc4=>?_) λc4=>?_
 . 
  have d5:lxH (aA t.nd n.toNat).ou aV:=c4;refine fM ?_;refine eZ (λT H=>T 8=(cR 8)/\T 9=(iV 7)/\H 4=(bk 1 47 1 [[(V.sl<|List.map cN t.nd)]])/\H 8=(bk 1 47 1 [[(V.sl<|List.map cN t.nd)]])/\H 16=iN/\H 82=iN/\H 95=iN/\H 201=iN/\H 202=iN/\H 205=iN/\H 212=iN/\H 228=iN/\H 258=iN/\H 7028=iN/\H 7058=iN/\True) ?_ ?_
  . 
   refine bB J J J J<|dA J J J J J J J J J<|aP ?_
   exact gD ⟨J,J,J,J,J,J,J,J,J,J,J,J,J,J,J,trivial⟩
  intro T H ⟨t8,t9,h4,h8,h16,h82,h95,h201,h202,h205,h212,h228,h258,h7028,h7058,_⟩;refine aN ?_;refine fF (cH (u:=(V.agg [(V.sl<|List.map cN t.nd)])) t8 h8<|lB oB J J) (bM t9) (kM<|dM ?_ (λ_=>by simp))<|aH ?_
  . have z9:nP t n aV w=7:=by
      unfold nP; rw [if_neg OM,if_neg OM,if_neg OM,if_pos d5]
    rw [aAn (by rw [z9]; first|exact DE|omega)]
  . have z9:nP t n aV w=7:=by
      unfold nP; rw [if_neg OM,if_neg OM,if_neg OM,if_pos d5]
    exact z9.symm
 have d5: ¬lxH (aA t.nd n.toNat).ou aV:=c4;have d6:=aGJ (w:=aV) (aA t.nd n.toNat).ou;refine aB<|fM ?_
 refine eZ (λT H=>T 1=(iV n)/\T 2=(aD aV)/\T 3=(aD w)/\T 4=(cR 4)/\T 8=(cR 8)/\T 13=(iV ((kD (aA t.nd n.toNat).ou aV:Nat):Int))/\T 15=(iV<|fsE t w)/\H 4=(bk 1 47 1 [[(V.sl<|List.map cN t.nd)]])/\H 8=(bk 1 47 1 [[V.nilsl]])/\H 16=iN/\H 82=iN/\H 95=iN/\H 201=iN/\H 202=iN/\H 205=iN/\H 212=iN/\H 228=iN/\H 258=iN/\H 7028=iN/\H 7058=iN/\True) ?_ ?_
 . 
  refine bB J J J J<|aP<|aL (aAR t w hb) J<|aP ?_
  exact gD ⟨J,J,J,J,J,J,J,J,J,J,J,J,J,J,J,J,J,J,J,J,trivial⟩
 intro T H ⟨t1,t2,t3,t4,t8,t13,t15,h4,h8,h16,h82,h95,h201,h202,h205,h212,h228,h258,h7028,h7058,_⟩;refine aO<|aI t15<|cA J J<|cE ?_
 refine aG J (λc5=>?_) λc5=>?_
 . 
  refine aO<|bB t4 h4 J J<|aI t15<|dA t8 J J h8 J J J J J<|aE<|aN ?_
  refine fF (cH (u:=(V.agg [(V.sl<|List.map cN t.nd)])) t8 (@J Blk<|bk 1 47 1 [[(V.sl<|List.map cN t.nd)]])<|lB oB J J) (bM<|aM<|iV<|fsE t w) (kM<|dM ?_ (λ_=>by simp))<|aH ?_
  . have z9:nP t n aV w=fsE t w:=by
      unfold nP; rw [if_neg OM,if_neg OM,if_neg OM,if_neg d5,if_pos OM]
    rw [aAn (by rw [z9]; first|exact DE|omega)]
  . have z9:nP t n aV w=fsE t w:=by
      unfold nP; rw [if_neg OM,if_neg OM,if_neg OM,if_neg d5,if_pos OM]
    exact z9.symm
 refine aB<|aO<|aZ t4 h4 J J<|bA J<|jB J J<|cE ?_
 refine aG J (λc6=>?_) λc6=>?_
 . 
  refine aO<|bB t4 h4 J J<|dA t8 J J h8 J J J J J<|aE<|aN ?_
  refine fF (cH (u:=(V.agg [(V.sl<|List.map cN t.nd)])) t8 (@J Blk<|bk 1 47 1 [[(V.sl<|List.map cN t.nd)]])<|lB oB J J) (bM<|aM<|iV 11) (kM<|dM ?_ (λ_=>by simp))<|aH ?_
  . have z9:nP t n aV w=11:=by
      unfold nP; rw [if_neg OM,if_neg OM,if_neg OM,if_neg d5,if_neg OM,if_pos OM]
    rw [aAn (by rw [z9]; first|exact DE|omega)]
  . have z9:nP t n aV w=11:=by
      unfold nP; rw [if_neg OM,if_neg OM,if_neg OM,if_neg d5,if_neg OM,if_pos OM]
    exact z9.symm
 refine aB<|aU<|bB t4 h4 J J<|gO (bI J dR) (aKw t n.toNat 0 0 0 0 0 0 0 0 _ nb hb (cM h201) (cM h202) (cM h205) (cM h212) (cM h228) ⟨cM h258,congrArg Blk.live h258⟩ (cM h7028) ⟨cM h7058,congrArg Blk.live h7058⟩)<|bX (i:=16) (n:=0) (m:=1) J (cM h16) J<|dA J J J J J J J J J<|R_r<|aZ J J J J<|aI t1<|dS (i:=n) (aM<|V.ms 212 1 0 t.nd.length) (aM<|iV n) (@J Blk<|bk 1 108 5<|(List.map cN t.nd).set n.toNat [(V.bool<|(aA t.nd n.toNat).lf),(aD<|bH [(aA t.nd n.toNat).ac]),(aD<|bH [(aA t.nd n.toNat).sf]),(V.ms 7028 (0+1+(aA t.nd n.toNat).ou.length) 0<|(aA t.nd n.toNat).ou.length),(V.ms 7058 3 0<|(aA t.nd n.toNat).kd.length)]) oB J OM OM<|aE<|W_d (by exact (tD (congrArg Blk.live h82) wD))<|aP ?_
 refine aP<|gK J (@J Blk<|bk 1 108 5<|(List.map cN t.nd).set n.toNat [(V.bool<|(aA t.nd n.toNat).lf),(aD<|bH [(aA t.nd n.toNat).ac]),(aD<|bH [(aA t.nd n.toNat).sf]),(V.ms 7028 (0+1+(aA t.nd n.toNat).ou.length) 0<|(aA t.nd n.toNat).ou.length),(V.ms 7058 3 0<|(aA t.nd n.toNat).kd.length)]) oB<|cQ J (@J Blk<|bk 1 108 5<|(List.map cN t.nd).set n.toNat [(V.bool<|(aA t.nd n.toNat).lf),(aD<|bH [(aA t.nd n.toNat).ac]),(aD<|bH [(aA t.nd n.toNat).sf]),(V.ms 7028 (0+1+(aA t.nd n.toNat).ou.length) 0<|(aA t.nd n.toNat).ou.length),(V.ms 7058 3 0<|(aA t.nd n.toNat).kd.length)])<|cG (v:=(V.ms 7028 (0+1+(aA t.nd n.toNat).ou.length) 0<|(aA t.nd n.toNat).ou.length)) J (@J Blk<|bk 1 108 5<|(List.map cN t.nd).set n.toNat [(V.bool<|(aA t.nd n.toNat).lf),(aD<|bH [(aA t.nd n.toNat).ac]),(aD<|bH [(aA t.nd n.toNat).sf]),(V.ms 7028 (0+1+(aA t.nd n.toNat).ou.length) 0<|(aA t.nd n.toNat).ou.length),(V.ms 7058 3 0<|(aA t.nd n.toNat).kd.length)]) (aGP (by (simp; omega)) JR)<|aI t13<|aI t2<|aY J J<|aL (dD ([aV]) (by simp only [bH,List.append_nil]; omega)) J<|gA (i:=82) (n:=0) (qs:=[(0,(aD<|bH<|[aV]))]) (rows:=[[(aD<|bH<|[aV])]]) J (cM h82) (cO (congrArg (λv=>(0,v)) J) J) J<|gO (bI J<|bI J<|bI J dR) (aNI (l:=((aA t.nd n.toNat).ou)) (w:=(bH<|[aV])) OM (@J Blk<|bk (0+1+(aA t.nd n.toNat).ou.length) 54 1<|List.map cL<|(aA t.nd n.toNat).ou) (show _=(bk 1 54 1<|List.map cL<|[bH ([aV])]) from J) DE d6 hou)<|gK J (@J Blk<|bk 1 108 5<|(List.map cN t.nd).set n.toNat [(V.bool<|(aA t.nd n.toNat).lf),(aD<|bH [(aA t.nd n.toNat).ac]),(aD<|bH [(aA t.nd n.toNat).sf]),(V.ms 7028 (0+1+(aA t.nd n.toNat).ou.length) 0<|(aA t.nd n.toNat).ou.length),(V.ms 7058 3 0<|(aA t.nd n.toNat).kd.length)]) oB<|cQ J (@J Blk<|bk 1 108 5<|(List.map cN t.nd).set n.toNat [(V.bool<|(aA t.nd n.toNat).lf),(aD<|bH [(aA t.nd n.toNat).ac]),(aD<|bH [(aA t.nd n.toNat).sf]),(V.ms 7028 (0+1+(aA t.nd n.toNat).ou.length) 0<|(aA t.nd n.toNat).ou.length),(V.ms 7058 3 0<|(aA t.nd n.toNat).kd.length)])<|cZ (vs:=[(V.ms 7028 ((0+1+(aA t.nd n.toNat).ou.length)+2) 0<|((aA t.nd n.toNat).ou.length)+1)]) (B':=(bk 1 108 5<|(List.map cN t.nd).set n.toNat [(V.bool<|(aA t.nd n.toNat).lf),(aD<|bH [(aA t.nd n.toNat).ac]),(aD<|bH [(aA t.nd n.toNat).sf]),(V.ms 7028 ((0+1+(aA t.nd n.toNat).ou.length)+2) 0<|((aA t.nd n.toNat).ou.length)+1),(V.ms 7058 3 0<|(aA t.nd n.toNat).kd.length)])) J J J (@J Blk<|bk 1 108 5<|(List.map cN t.nd).set n.toNat [(V.bool<|(aA t.nd n.toNat).lf),(aD<|bH [(aA t.nd n.toNat).ac]),(aD<|bH [(aA t.nd n.toNat).sf]),(V.ms 7028 (0+1+(aA t.nd n.toNat).ou.length) 0<|(aA t.nd n.toNat).ou.length),(V.ms 7058 3 0<|(aA t.nd n.toNat).kd.length)]) (aGg (by (simp; omega)) J J SI)<|cE ?_
 refine aNn (λT H=>T 3=(aD w)/\T 8=(cR 8)/\T 16=(cR 16)/\H 4=(bk 1 47 1 [[(V.sl<|List.map cN t.nd)]])/\H 8=(bk 1 47 1 [[V.nilsl]])/\H 16=(bk 1 47 1 [[(V.ms 212 1 0 t.nd.length)]])/\H 82=(bk 1 54 1 [[(aD<|bH<|[aV])]])/\H 95=(bk 1 3 1 [[(iV ((t.nd.length:Nat):Int))]])/\H 201=(⟨1,false,false,0,0,[]⟩:Blk)/\H 202=(⟨1,false,false,0,0,[]⟩:Blk)/\H 205=(⟨0+t.nd.length,false,false,0,0,[]⟩:Blk)/\H 212=(bk 1 108 5<|(List.map cN t.nd).set n.toNat [(V.bool<|(aA t.nd n.toNat).lf),(aD<|bH [(aA t.nd n.toNat).ac]),(aD<|bH [(aA t.nd n.toNat).sf]),(V.ms 7028 ((0+1+(aA t.nd n.toNat).ou.length)+2) 0<|((aA t.nd n.toNat).ou.length)+1),(V.ms 7058 5 0<|((aA t.nd n.toNat).kd.length)+1)])/\H 228=(⟨0+t.nd.length*1048578,false,false,0,0,[]⟩:Blk)/\H 258=(⟨0+3*t.nd.length,false,false,0,0,[]⟩:Blk)/\H 7028=(bk ((0+1+(aA t.nd n.toNat).ou.length)+2) 54 1<|List.map cL<|tL (kD (aA t.nd n.toNat).ou aV) (bH<|[aV])<|(aA t.nd n.toNat).ou)/\H 7058=(bz 5 3 1<|List.map cI<|tL (kD (aA t.nd n.toNat).ou aV) ((t.nd.length:Nat):Int)<|(aA t.nd n.toNat).kd)/\True) (by exact (tD (congrArg Blk.live h95) wD)) ?_ ?_
 . 
  refine aP<|aP<|gK J (@J Blk<|bk 1 108 5<|(List.map cN t.nd).set n.toNat [(V.bool<|(aA t.nd n.toNat).lf),(aD<|bH [(aA t.nd n.toNat).ac]),(aD<|bH [(aA t.nd n.toNat).sf]),(V.ms 7028 ((0+1+(aA t.nd n.toNat).ou.length)+2) 0<|((aA t.nd n.toNat).ou.length)+1),(V.ms 7058 3 0<|(aA t.nd n.toNat).kd.length)]) oB<|cQ J (@J Blk<|bk 1 108 5<|(List.map cN t.nd).set n.toNat [(V.bool<|(aA t.nd n.toNat).lf),(aD<|bH [(aA t.nd n.toNat).ac]),(aD<|bH [(aA t.nd n.toNat).sf]),(V.ms 7028 ((0+1+(aA t.nd n.toNat).ou.length)+2) 0<|((aA t.nd n.toNat).ou.length)+1),(V.ms 7058 3 0<|(aA t.nd n.toNat).kd.length)])<|cG (v:=(V.ms 7058 3 0<|(aA t.nd n.toNat).kd.length)) J (@J Blk<|bk 1 108 5<|(List.map cN t.nd).set n.toNat [(V.bool<|(aA t.nd n.toNat).lf),(aD<|bH [(aA t.nd n.toNat).ac]),(aD<|bH [(aA t.nd n.toNat).sf]),(V.ms 7028 ((0+1+(aA t.nd n.toNat).ou.length)+2) 0<|((aA t.nd n.toNat).ou.length)+1),(V.ms 7058 3 0<|(aA t.nd n.toNat).kd.length)]) (aGP (by (simp; omega)) JR)<|aI t13<|aZ t4 h4 J J<|bA J<|gA (i:=95) (n:=0) (qs:=[(0,(iV ((t.nd.length:Nat):Int)))]) (rows:=[[(iV ((t.nd.length:Nat):Int))]]) J (cM h95) (cO (congrArg (λv=>(0,v)) J) J) J<|gO (bI J<|bI J<|bI J dR) (aNu (l:=((aA t.nd n.toNat).kd)) (w:=((t.nd.length:Nat):Int)) OM (@J Blk<|bz 3 3 1<|List.map cI<|(aA t.nd n.toNat).kd) (show _=(bk 1 3 1<|List.map cI<|[((t.nd.length:Nat):Int)]) from J) DE (by have:=hin.len; omega) hkd)<|gK J (@J Blk<|bk 1 108 5<|(List.map cN t.nd).set n.toNat [(V.bool<|(aA t.nd n.toNat).lf),(aD<|bH [(aA t.nd n.toNat).ac]),(aD<|bH [(aA t.nd n.toNat).sf]),(V.ms 7028 ((0+1+(aA t.nd n.toNat).ou.length)+2) 0<|((aA t.nd n.toNat).ou.length)+1),(V.ms 7058 3 0<|(aA t.nd n.toNat).kd.length)]) oB<|cQ J (@J Blk<|bk 1 108 5<|(List.map cN t.nd).set n.toNat [(V.bool<|(aA t.nd n.toNat).lf),(aD<|bH [(aA t.nd n.toNat).ac]),(aD<|bH [(aA t.nd n.toNat).sf]),(V.ms 7028 ((0+1+(aA t.nd n.toNat).ou.length)+2) 0<|((aA t.nd n.toNat).ou.length)+1),(V.ms 7058 3 0<|(aA t.nd n.toNat).kd.length)])<|cZ (vs:=[(V.ms 7058 5 0<|((aA t.nd n.toNat).kd.length)+1)]) (B':=(bk 1 108 5<|(List.map cN t.nd).set n.toNat [(V.bool<|(aA t.nd n.toNat).lf),(aD<|bH [(aA t.nd n.toNat).ac]),(aD<|bH [(aA t.nd n.toNat).sf]),(V.ms 7028 ((0+1+(aA t.nd n.toNat).ou.length)+2) 0<|((aA t.nd n.toNat).ou.length)+1),(V.ms 7058 5 0<|((aA t.nd n.toNat).kd.length)+1)])) J J J (@J Blk<|bk 1 108 5<|(List.map cN t.nd).set n.toNat [(V.bool<|(aA t.nd n.toNat).lf),(aD<|bH [(aA t.nd n.toNat).ac]),(aD<|bH [(aA t.nd n.toNat).sf]),(V.ms 7028 ((0+1+(aA t.nd n.toNat).ou.length)+2) 0<|((aA t.nd n.toNat).ou.length)+1),(V.ms 7058 3 0<|(aA t.nd n.toNat).kd.length)]) (aGg (by (simp; omega)) J J SI) ?_
  exact gD ⟨t3,t8,J,h4,h8,J,J,J,J,J,J,J,J,J,J,J,trivial⟩
 intro T H ⟨t3,t8,t16,h4,h8,h16,h82,h95,h201,h202,h205,h212,h228,h258,h7028,h7058,_⟩;refine gU (id:=7028) (id2:=212) (rows:=(List.map cN t.nd)) (i:=n.toNat) (off:=3) (r:=[(V.bool<|(aA t.nd n.toNat).lf),(aD<|bH [(aA t.nd n.toNat).ac]),(aD<|bH [(aA t.nd n.toNat).sf]),(V.ms 7028 ((0+1+(aA t.nd n.toNat).ou.length)+2) 0<|((aA t.nd n.toNat).ou.length)+1),(V.ms 7058 5 0<|((aA t.nd n.toNat).kd.length)+1)]) (m:=(tL (kD (aA t.nd n.toNat).ou aV) (bH<|[aV])<|(aA t.nd n.toNat).ou)) (g:=cL) DE h7028 h212 (by (simp; omega)) (by exact (aAh _ _ _).symm) J ?_;refine gU (id:=7058) (id2:=212) (rows:=(List.map cN t.nd)) (i:=n.toNat) (off:=4) (r:=[(V.bool<|(aA t.nd n.toNat).lf),(aD<|bH [(aA t.nd n.toNat).ac]),(aD<|bH [(aA t.nd n.toNat).sf]),(aC<|tL (kD (aA t.nd n.toNat).ou aV) (bH<|[aV])<|(aA t.nd n.toNat).ou),(V.ms 7058 5 0<|((aA t.nd n.toNat).kd.length)+1)]) (m:=(tL (kD (aA t.nd n.toNat).ou aV) ((t.nd.length:Nat):Int)<|(aA t.nd n.toNat).kd)) (g:=cI) DE (aQ (id:=7028) h7058 DE) (@J Blk<|bk 1 108 5<|(List.map cN t.nd).set n.toNat [(V.bool<|(aA t.nd n.toNat).lf),(aD<|bH [(aA t.nd n.toNat).ac]),(aD<|bH [(aA t.nd n.toNat).sf]),(aC<|tL (kD (aA t.nd n.toNat).ou aV) (bH<|[aV])<|(aA t.nd n.toNat).ou),(V.ms 7058 5 0<|((aA t.nd n.toNat).kd.length)+1)]) (by (simp; omega)) (by exact (aAh _ _ _).symm) J (.done ?_);refine W_g<|cQ (aX (id:=7058) (aX (id:=7028) t16 J) J) (aQ (id:=7058) (aQ (id:=7028) h16 DE) DE)<|bB J (aQ (id:=7058) (aQ (id:=7028) h16 DE) DE) J J<|aI (aX (id:=7058) (aX (id:=7028) t3 J) J)<|aY J J<|aL (dD ([w]) (by simp only [bH,List.append_nil]; omega)) J<|bZ J J<|aY J J<|aAC (l:=(t.nd.set n.toNat (⟨(aA t.nd n.toNat).lf,bH [(aA t.nd n.toNat).ac],bH [(aA t.nd n.toNat).sf],tL (kD (aA t.nd n.toNat).ou aV) (bH<|[aV]) ((aA t.nd n.toNat).ou),tL (kD (aA t.nd n.toNat).ou aV) ((t.nd.length:Nat):Int) ((aA t.nd n.toNat).kd)⟩:Nd))) (f:=cN) (aM<|V.ms 212 1 0 t.nd.length) ((by (rw [aR,List.map_set]; rfl)):_=(bk 1 108 5<|List.map cN<|t.nd.set n.toNat (⟨(aA t.nd n.toNat).lf,bH [(aA t.nd n.toNat).ac],bH [(aA t.nd n.toNat).sf],tL (kD (aA t.nd n.toNat).ou aV) (bH<|[aV]) ((aA t.nd n.toNat).ou),tL (kD (aA t.nd n.toNat).ou aV) ((t.nd.length:Nat):Int) ((aA t.nd n.toNat).kd)⟩:Nd))) SI (aM<|V.sl [[(V.bool true),(aD<|bH<|[w]),V.nilsl,V.nilsl,V.nilsl]]) (by simp [eV,V.one]) (by (simp; omega)) (by (simp; omega))<|cQ (aX (id:=7058) (aX (id:=7028) t16 J) J) (aQ (id:=7058) (aQ (id:=7028) h16 DE) DE)<|dA J J J (aQ (id:=7058) (aQ (id:=7028) h16 DE) DE) J J J J J<|cE ?_
 refine aBu (id:=212) (l:=(t.nd.set n.toNat (⟨(aA t.nd n.toNat).lf,bH [(aA t.nd n.toNat).ac],bH [(aA t.nd n.toNat).sf],tL (kD (aA t.nd n.toNat).ou aV) (bH<|[aV]) ((aA t.nd n.toNat).ou),tL (kD (aA t.nd n.toNat).ou aV) ((t.nd.length:Nat):Int) ((aA t.nd n.toNat).kd)⟩:Nd))) (m:=([(⟨true,bH ([w]),[],[],[]⟩:Nd)])) (f:=cN) (@J Blk<|bk 2 108 5<|List.map cN (t.nd.set n.toNat (⟨(aA t.nd n.toNat).lf,bH [(aA t.nd n.toNat).ac],bH [(aA t.nd n.toNat).sf],tL (kD (aA t.nd n.toNat).ou aV) (bH<|[aV]) ((aA t.nd n.toNat).ou),tL (kD (aA t.nd n.toNat).ou aV) ((t.nd.length:Nat):Int) ((aA t.nd n.toNat).kd)⟩:Nd))++[[(V.bool true),(aD<|bH<|[w]),V.nilsl,V.nilsl,V.nilsl]]) J (.done ?_);refine aU<|bB (aX (id:=7058) (aX (id:=7028) t16 J) J) J J J<|dA (aX (id:=7058) (aX (id:=7028) t8 J) J) J J (aQ (id:=7058) (aQ (id:=7028) h8 DE) DE) J J J J J<|aE<|bE ?_
 refine fF (cH (u:=(V.agg [(V.ms 212 2 0<|t.nd.length+1)])) (aX (id:=7058) (aX (id:=7028) t8 J) J) (@J Blk<|bk 1 47 1 [[(V.ms 212 2 0<|t.nd.length+1)]])<|lB oB J J) (bM<|aM<|iV 0) (kM<|mI (@J Blk<|bk 2 108 5<|List.map cN<|t.nd.set n.toNat (⟨(aA t.nd n.toNat).lf,bH [(aA t.nd n.toNat).ac],bH [(aA t.nd n.toNat).sf],tL (kD (aA t.nd n.toNat).ou aV) (bH<|[aV]) ((aA t.nd n.toNat).ou),tL (kD (aA t.nd n.toNat).ou aV) ((t.nd.length:Nat):Int) ((aA t.nd n.toNat).kd)⟩:Nd)++[(⟨true,bH ([w]),[],[],[]⟩:Nd)]) JR (l:=(t.nd.set n.toNat (⟨(aA t.nd n.toNat).lf,bH [(aA t.nd n.toNat).ac],bH [(aA t.nd n.toNat).sf],tL (kD (aA t.nd n.toNat).ou aV) (bH<|[aV]) ((aA t.nd n.toNat).ou),tL (kD (aA t.nd n.toNat).ou aV) ((t.nd.length:Nat):Int) ((aA t.nd n.toNat).kd)⟩:Nd)++[(⟨true,bH ([w]),[],[],[]⟩:Nd)])) J SI (λ_=>by simp) ?_)<|aH ?_
 . have z9:nP t n aV w=0:=by
     unfold nP; rw [if_neg OM,if_neg OM,if_neg OM,if_neg d5,if_neg OM,if_neg OM]
   rw [aOu z9]; simp [aOq,rY,gNd]
 . have z9:nP t n aV w=0:=by
     unfold nP; rw [if_neg OM,if_neg OM,if_neg OM,if_neg d5,if_neg OM,if_neg OM]
   exact z9.symm
theorem sM (l:Ts) (o:Ob) (w x:List Int) (ho:jE o=0) (hw:w.length<=1048576) (hx:x.length<=1048576) (hs:(dP o (bH [w,x])).isSome=true):bJ Tryz.prog 52 [(V.agg [(iV l.i),(V.sl (List.map cN l.t.nd)),(iV o.i),(V.sl (List.map cT o.tr))]),(aD w),(aD x)] (aD (lJ o w x)):=by
 refine' pK [] [] Tryz.func52 ?e λhB=>?_
 case e=>conv=>lhs; cbv
 dsimp only;have d4:=vO (lR ho) hs;have d5:(bH [w,x]).length=w.length+x.length:=by simp [bH]
 refine aU<|cJ (i:=3) (n:=0) (m:=4) (cs:=[(iV l.i),(V.sl<|List.map cN l.t.nd),(iV o.i),(V.sl<|List.map cT o.tr)]) J (cM J) J J J<|aE<|aU<|aZ J J J J<|aP<|aP<|aY J J<|aL (dD ([w,x]) (by simp only [bH,List.append_nil,List.length_append,List.length_cons,List.length_nil]; omega)) J<|aL (lD o (bH<|[w,x]) ho) J<|aP<|bR J J<|bR J J<|aP ?_
 refine aE<|aU<|aP<|aP<|bA J<|aP<|bA J<|lS J J OM OM<|kT (n:=((((((dP o<|bH<|[w,x]).getD []).length:Nat):Int) - ((x.length:Nat):Int)).toNat)) (aM<|aD<|(dP o<|bH<|[w,x]).getD []) (bG (aM<|iV<|((((dP o<|bH<|[w,x]).getD []).length:Nat):Int) - ((x.length:Nat):Int))<|rD OM) OM (λ_=>J)<|aE<|bE ?_
 refine aW (aM<|aD<|List.drop ((((((dP o<|bH<|[w,x]).getD []).length:Nat):Int) - ((x.length:Nat):Int)).toNat)<|(dP o<|bH<|[w,x]).getD [])<|dM ?_ (λ_=>by simp)
 . unfold lJ; rw [show ((((dP o<|bH [w,x]).getD []).length:Int) - (x.length:Int)).toNat=w.length by omega]
end
end Go.Proofs.YtinpihlhcmpkhaaGreat
