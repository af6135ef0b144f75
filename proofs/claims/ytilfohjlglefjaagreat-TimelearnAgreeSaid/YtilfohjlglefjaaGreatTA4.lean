/- Contracts of the functions that the law TA reaches, and the law itself, for every input; no condition. -/
import Derived.KernelRfl
import Derived.Test.YtilfohjlglefjaaGreatProg
import Derived.Test.YtilfohjlglefjaaGreatRows
import Derived.Test.YtilfohjlglefjaaGreatTA3
set_option linter.unusedSimpArgs false
set_option linter.unusedVariables false
namespace Go.Proofs.YtilfohjlglefjaaGreat
open Go Go.Proofs
attribute [local irreducible] tN
theorem aBT (a b:M) (s t:Int) (hma:dU a=0) (hmb:dU b=0) (hi:a.i=b.i) (hs:0≤s∧s < a.nx.length) (ht:0≤t∧t < b.nx.length):bB Tryz.prog 66 [(V.agg [(iV (a.i)),(iV (a.s)),(aB a.nx),(aB a.ot)]),(V.agg [(iV (b.i)),(iV (b.s)),(aB b.nx),(aB b.ot)]),(V.agg [(iV (s)),(iV (t))])] (V.tup [(aS ((dst a b s t).getD [])),(V.bool ((dst a b s t).isSome))]):=by
 refine pW Tryz.func66 aHV fun hB=>?_
 unfold s66
 dsimp only
 have hqa:=iW hma
 have hqb:=iW hmb
 have hab:a.nx.length*b.nx.length≤128*128:=Nat.mul_le_mul hqa.2.2.2.1 hqb.2.2.2.1
 refine W_r (eT (i:=3) (n:=0) (m:=4) (cs:=[(iV (a.i)),(iV (a.s)),(aB a.nx),(aB a.ot)]) rfl (congrArg Blk.ver rfl) rfl rfl rfl (eT (i:=4) (n:=0) (m:=4) (cs:=[(iV (b.i)),(iV (b.s)),(aB b.nx),(aB b.ot)]) rfl (congrArg Blk.ver rfl) rfl rfl rfl (eT (i:=5) (n:=0) (m:=2) (cs:=[(iV (s)),(iV (t))]) rfl (congrArg Blk.ver rfl) rfl rfl rfl (aA rfl (aA rfl (R_e (W_r ?_)))))))
 refine aP rfl rfl (aK rfl rfl rfl rfl (bN rfl (oY (i:=18) (n:=0) (m:=a.nx.length) (q:=a.nx.length) (f:=c1V) (x:=V.nilsl) rfl (congrArg Blk.ver rfl) (@rfl V (iV ((a.nx.length:Nat):Int))) (@rfl V (iV ((a.nx.length:Nat):Int))) rfl (by first|omega|(simp only [bC,bE,List.length_replicate,List.length_set]; omega)|(simp only [r2]; omega)) (by first|omega|(simp only [bC,bE,List.length_replicate,List.length_set]; omega)|(simp only [r2]; omega)) (by first|omega|(simp only [bC,bE,List.length_replicate,List.length_set]; omega)|(simp only [r2]; omega)) (aA rfl (R_e (aC (W_r ?_)))))))
 refine aA rfl (eP rfl (@rfl Blk (bk 1 93 1 (List.map c1V (List.replicate a.nx.length V.nilsl)))) (by first|rfl|simp) (aA rfl (R_e (aI fun Q1 n1 x1 y1 z1=>?_))))
 refine cW (fun mm T H=> ∃ (k:Nat),mm=a.nx.length - k∧T 3=(V.mp 3 1 0 0)∧T 4=(V.mp 4 1 0 0)∧T 5=(V.mp 5 1 0 0)∧T 8=(V.ms 18 1 0 (a.nx.length))∧T 20=(iV ((a.nx.length:Nat):Int))∧T 21=(iV ((k:Nat):Int))∧(∀ j,k≤j→H (65536*(j+1)+29)=(⟨0,false,false,0,0,[]⟩:Blk))∧(∀ j,j < k→H (65536*(j+1)+29)=(bk 1 4 1 (List.map cB (snR ([]) b.nx.length j))))∧H 3=(bk 1 24 4 [[(iV (a.i)),(iV (a.s)),(aB a.nx),(aB a.ot)]])∧H 4=(bk 1 24 4 [[(iV (b.i)),(iV (b.s)),(aB b.nx),(aB b.ot)]])∧H 5=(bk 1 137 2 [[(iV (s)),(iV (t))]])∧H 12=(⟨0,false,false,0,0,[]⟩:Blk)∧H 14=(⟨0,false,false,0,0,[]⟩:Blk)∧H 18=(bk 1 93 1 (List.map c1V (rwL a.nx.length b.nx.length k)))∧H 42=(⟨0,false,false,0,0,[]⟩:Blk)∧(k≤a.nx.length)) ?_ ?_
 ·
  refine ⟨_,0,rfl,rfl,rfl,rfl,rfl,rfl,(Eq.trans (@rfl V (iV (0:Int))) rfl),(eI (eI (eI (eI (fun _ _=>rfl) (fun j=>by omega)) (fun j=>by omega)) (fun j=>by omega)) (fun j=>by omega)),(eI (eI (eI (eI (fun j hj=>absurd hj (Nat.not_lt_zero j)) (fun j=>by omega)) (fun j=>by omega)) (fun j=>by omega)) (fun j=>by omega)),rfl,rfl,rfl,rfl,rfl,(Eq.trans (@rfl Blk (bk 1 93 1 (List.map c1V (List.replicate a.nx.length V.nilsl)))) (by first|rfl|(rw [jX]; done)|(rw [lJ]; done)|(rw [show x=a.i.toNat by omega]; done)|(simp only [r2]; rw [cF d2]; done)|(simp only [r2]; rw [cF d2]; rfl)|(rw [dO d2]; done)|simp)),rfl,?_⟩
  · omega
 intro mm T H ⟨k,hmm,t3,t4,t5,t8,t20,t21,hU3,hU2,h3,h4,h5,h12,h14,h18,h42,hk⟩ Q2 p12 p22 p32
 unfold aLH
 refine W_r (bR t21 t20 (R_e ?_))
 refine aO rfl (fun c3=>?_) fun c3=>?_
 ·
  refine aH (aI fun Q4 n4 x4 y4 z4=>(W_r (aA t21 (aA rfl (R_e (aUf (65536*(k+1)) (aA t8 ?_)))))))
  refine aA rfl (aP t4 h4 (aK rfl h4 rfl rfl (bN rfl (oY (i:=65536*(k+1)+29) (n:=0) (m:=b.nx.length) (q:=b.nx.length) (f:=cB) (x:=false) rfl (congrArg Blk.ver (hU3 _ (by omega))) (@rfl V (iV ((b.nx.length:Nat):Int))) (@rfl V (iV ((b.nx.length:Nat):Int))) rfl (by first|omega|(simp only [bC,bE,List.length_replicate,List.length_set]; omega)|(simp only [r2]; omega)) (by first|omega|(simp only [bC,bE,List.length_replicate,List.length_set]; omega)|(simp only [r2]; omega)) (by first|omega|(simp only [bC,bE,List.length_replicate,List.length_set]; omega)|(simp only [r2]; omega)) (dB (i:=k) (@rfl V (V.ms 18 1 0 (a.nx.length))) (@rfl V (iV ((k:Nat):Int))) ((aG _ _ (by omega)).trans h18) oB rfl (by first|omega|(simp only [bC,bE,List.length_replicate,List.length_set]; omega)|(simp only [r2]; omega)) (bQ (vs:=[(V.ms (65536*(k+1)+29) 1 0 (b.nx.length))]) (B':=(bk 1 93 1 (List.map c1V ((rwL a.nx.length b.nx.length k).set k ((V.ms (65536*(k+1)+29) 1 0 (b.nx.length))))))) rfl rfl rfl ((aG _ _ (by omega)).trans h18) (iE (x:=((V.ms (65536*(k+1)+29) 1 0 (b.nx.length)))) (i:=k) (by first|omega|(simp only [bC,bE,List.length_replicate,List.length_set]; omega)|(simp only [r2]; omega)) rfl rfl rfl rfl) (R_e ?_)))))))
  refine n4 _ _ (.done (W_t (bV t21 (@rfl V (iV ((1:Nat):Int))) (by first|omega|(simp only [bC,bE,List.length_replicate,List.length_set]; omega)|(simp only [r2]; omega)) (aA rfl (R_e ?_)))))
  refine p12 _ _ _ ?_ ⟨(k+1),rfl,t3,t4,t5,t8,t20,(Eq.trans (@rfl V (iV ((k+1:Nat):Int))) (by first|rfl|(simp only [r2]; rfl)|(rw [show x=a.i.toNat by omega]; done)|(rw [cF d2,List.length_append]; done)|(rw [cF d2,List.length_append]; rfl)|(rw [dO d2]; done)|simp)),(fun j hj=>(eI (aGt hU3) (fun j=>by omega)) j (by omega)),(fun j hj=>(eI (aIo hU2 (by rw [aKa])) (fun j=>by omega)) j (by omega)),((aG _ _ (by omega)).trans h3),((aG _ _ (by omega)).trans h4),((aG _ _ (by omega)).trans h5),((aG _ _ (by omega)).trans h12),((aG _ _ (by omega)).trans h14),(Eq.trans (@rfl Blk (bk 1 93 1 (List.map c1V ((rwL a.nx.length b.nx.length k).set k ((V.ms (65536*(k+1)+29) 1 0 (b.nx.length))))))) (by first|rfl|(rw [jX]; done)|(rw [lJ]; done)|(rw [show x=a.i.toNat by omega]; done)|(simp only [r2]; rw [cF d2]; done)|(simp only [r2]; rw [cF d2]; rfl)|(rw [dO d2]; done)|simp)),((aG _ _ (by omega)).trans h42),?_⟩
  · omega
  · omega
 refine bA (p32 _ _ _ (x1 _ _ (.done (W_r (aA t8 (aP t5 h5 (aK rfl h5 rfl rfl ?_)))))))
 refine dY (i:=(s)) (@rfl V (V.ms 18 1 0 (a.nx.length))) (@rfl V (iV (s))) h18 oB rfl (by first|omega|(simp only [bC,bE,List.length_replicate,List.length_set]; omega)|(simp only [r2]; omega)) (by first|omega|(simp only [bC,bE,List.length_replicate,List.length_set]; omega)|(simp only [r2]; omega)) (bT (v:=(V.ms (65536*((s).toNat+1)+29) 1 0 (b.nx.length))) rfl h18 (dW (by simp only [bC]; omega) (by simp only [c1V,aAA (show (s).toNat < a.nx.length by omega) (show (s).toNat < k by omega)]; rfl)) (aP t5 h5 (aK rfl h5 rfl rfl (dY (i:=(t)) (@rfl V (V.ms (65536*((s).toNat+1)+29) 1 0 (b.nx.length))) (@rfl V (iV (t))) (hU2 _ (by omega)) oB rfl (by first|omega|(simp only [bC,bE,List.length_replicate,List.length_set]; omega)|(simp only [r2]; omega)) (by first|omega|(simp only [bC,bE,List.length_replicate,List.length_set]; omega)|(simp only [r2]; omega)) (bQ (vs:=[(V.bool true)]) (B':=(bk 1 4 1 (List.map cB ((snR ([]) b.nx.length ((s).toNat)).set (((t)).toNat) true)))) rfl rfl rfl (hU2 _ (by omega)) (iE (x:=true) (i:=(((t)).toNat)) (by first|omega|(simp only [bC,bE,List.length_replicate,List.length_set]; omega)|(simp only [r2]; omega)) rfl rfl rfl rfl) (R_e ?_))))))
 refine aAb (fun T H=>T 3=(V.mp 3 1 0 0)∧T 4=(V.mp 4 1 0 0)∧T 8=(V.ms 18 1 0 (a.nx.length))∧T 10=(V.ms 42 1 0 (1))∧(∀ j,j < k→H (65536*(j+1)+29)=(bk 1 4 1 (List.map cB (snR ([⟨s,t,[]⟩]) b.nx.length j))))∧H 3=(bk 1 24 4 [[(iV (a.i)),(iV (a.s)),(aB a.nx),(aB a.ot)]])∧H 4=(bk 1 24 4 [[(iV (b.i)),(iV (b.s)),(aB b.nx),(aB b.ot)]])∧H 5=(bk 1 137 2 [[(iV (s)),(iV (t))]])∧H 12=(⟨0,false,false,0,0,[]⟩:Blk)∧H 14=(⟨0,false,false,0,0,[]⟩:Blk)∧H 18=(bk 1 93 1 (List.map c1V (rwL a.nx.length b.nx.length k)))∧H 42=(bk 1 174 3 [[(iV (s)),(iV (t)),V.nilsl]])∧True) ?_ ?_
 ·
  refine aK t5 ((aG _ _ (by omega)).trans h5) rfl rfl (eM rfl rfl (pC (i:=42) (n:=0) (qs:=[(0,(V.agg [(iV (s)),(iV (t)),V.nilsl]))]) (rows:=[[(iV (s)),(iV (t)),V.nilsl]]) rfl (congrArg Blk.ver ((aG _ _ (by omega)).trans h42)) (dS (congrArg (fun v=>(0,v)) rfl) rfl) rfl (aA rfl ?_)))
  exact iK ⟨t3,t4,t8,rfl,(eI (aDJ hU2 (congrArg (fun l=>bk 1 4 1 (List.map cB l)) (aEb (L:=[]) (p:=⟨s,t,[]⟩) hs.1 ht.1 ht.2)) fun j hj=>by rw [yS (p:=⟨s,t,[]⟩) hs.1 hj]; rfl) (fun j=>by omega)),((aG _ _ (by omega)).trans h3),((aG _ _ (by omega)).trans h4),((aG _ _ (by omega)).trans h5),((aG _ _ (by omega)).trans h12),((aG _ _ (by omega)).trans h14),((aG _ _ (by omega)).trans h18),rfl,trivial⟩
 intro T H ⟨t3,t4,t8,t10,hU2,h3,h4,h5,h12,h14,h18,h42,_⟩
 refine aJw (l:=([])) (m:=([(⟨s,t,[]⟩:Pr)])) (f:=cPr) h42 rfl (.done ?_)
 refine dE (R:=fun T H=>T 3=(V.mp 3 1 0 0)∧T 4=(V.mp 4 1 0 0)∧T 8=(V.ms 18 1 0 (a.nx.length))∧T 10=(V.ms 42 1 0 (1))∧(∀ j,j < k→H (65536*(j+1)+29)=(bk 1 4 1 (List.map cB (snR ([⟨s,t,[]⟩]) b.nx.length j))))∧H 3=(bk 1 24 4 [[(iV (a.i)),(iV (a.s)),(aB a.nx),(aB a.ot)]])∧H 4=(bk 1 24 4 [[(iV (b.i)),(iV (b.s)),(aB b.nx),(aB b.ot)]])∧H 5=(bk 1 137 2 [[(iV (s)),(iV (t))]])∧H 12=(⟨0,false,false,0,0,[]⟩:Blk)∧H 14=(⟨0,false,false,0,0,[]⟩:Blk)∧H 18=(bk 1 93 1 (List.map c1V (rwL a.nx.length b.nx.length k)))∧H 42=(bk 1 174 3 (List.map cPr ([]++[(⟨s,t,[]⟩:Pr)])))∧True) ⟨t3,t4,t8,t10,(eI hU2 (fun j=>by omega)),((aG _ _ (by decide)).trans h3),((aG _ _ (by decide)).trans h4),((aG _ _ (by decide)).trans h5),((aG _ _ (by decide)).trans h12),((aG _ _ (by decide)).trans h14),((aG _ _ (by decide)).trans h18),(aE _ _ _),trivial⟩ ?_
 intro T H ⟨t3,t4,t8,t10,hU2,h3,h4,h5,h12,h14,h18,h42,_⟩
 refine aC (W_r (aA rfl (R_e (aI fun Q5 n5 x5 y5 z5=>?_))))
 refine cW (fun mm T H=> ∃ (i:Nat) (v:Nat) (L:List Pr) (v12:Nat) (v14:Nat),mm=a.nx.length*b.nx.length+1 - i∧T 3=(V.mp 3 1 0 0)∧T 4=(V.mp 4 1 0 0)∧T 8=(V.ms 18 1 0 (a.nx.length))∧T 10=(V.ms 42 v 0 (L.length))∧T 11=(iV ((i:Nat):Int))∧(∀ j,j < k→H (65536*(j+1)+29)=(bk 1 4 1 (List.map cB (snR L b.nx.length j))))∧H 3=(bk 1 24 4 [[(iV (a.i)),(iV (a.s)),(aB a.nx),(aB a.ot)]])∧H 4=(bk 1 24 4 [[(iV (b.i)),(iV (b.s)),(aB b.nx),(aB b.ot)]])∧H 5=(bk 1 137 2 [[(iV (s)),(iV (t))]])∧(H 12).ver=v12∧((H 14).ver=v14∧(H 14).live=false)∧H 18=(bk 1 93 1 (List.map c1V (rwL a.nx.length b.nx.length k)))∧H 42=(bk v 174 3 (List.map cPr (L)))∧(i≤L.length)∧(BI a b s t L)∧(dst a b s t=bq a b (a.nx.length*b.nx.length+1 - i) i L)) ?_ ?_
 ·
  refine ⟨_,0,1,[⟨s,t,[]⟩],0,0,rfl,t3,t4,t8,(Eq.trans t10 (by first|rfl|(simp only [r2]; rfl)|(rw [show x=a.i.toNat by omega]; done)|(rw [cF d2,List.length_append]; done)|(rw [cF d2,List.length_append]; rfl)|(rw [dO d2]; done)|simp)),(Eq.trans (@rfl V (iV (0:Int))) rfl),(fun j hj=>(hU2 j (by omega)).trans (by first|rfl|(rw [cF d2]; done)|(rw [dO d2]; done)|(rw [show x=a.i.toNat by omega]; done))),h3,h4,h5,(congrArg Blk.ver h12),⟨(congrArg Blk.ver h14),congrArg Blk.live h14⟩,h18,(Eq.trans h42 (by first|rfl|(rw [jX]; done)|(rw [lJ]; done)|(rw [show x=a.i.toNat by omega]; done)|(simp only [r2]; rw [cF d2]; done)|(simp only [r2]; rw [cF d2]; rfl)|(rw [dO d2]; done)|simp)),?_,?_,?_⟩
  · simp
  · exact BI.start hs.1 hs.2 ht.1 ht.2
  · rfl
 intro mm T H ⟨i,v,L,v12,v14,hmm,t3,t4,t8,t10,t11,hU2,h3,h4,h5,h12,h14,h18,h42,hil,hbi,hc⟩ Q6 p16 p26 p36
 unfold aLo
 have hln:=hbi.len
 refine aC (W_r (aA t11 (aA t10 (eP rfl h42 (by first|rfl|simp) (bR rfl rfl (R_e ?_))))))
 refine aO rfl (fun c7=>?_) fun c7=>?_
 ·
  have hil2:i < L.length:=by omega
  refine aH (aI fun Q8 n8 x8 y8 z8=>(W_r (aA t10 (aA t11 (dB (i:=i) (@rfl V (V.ms 42 v 0 (L.length))) (@rfl V (iV ((i:Nat):Int))) h42 oB rfl (by first|omega|(simp only [bC,bE,List.length_replicate,List.length_set]; omega)|(simp only [r2]; omega)) (aP rfl h42 (bT (v:=(V.agg [(iV (((nth (L) (i))).s)),(iV (((nth (L) (i))).t))])) rfl h42 (dW (by first|omega|(simp only [bC,bE,List.length_replicate,List.length_set]; omega)|(simp only [r2]; omega)) (by first|rfl|(rw [cF_eq]; rfl)|simp [ldV,V.one])) ?_)))))))
  refine cK (i:=12) (n:=v12) (m:=2) rfl h12 rfl (mM rfl rfl rfl rfl rfl rfl rfl rfl rfl (R_e (W_r (aP t3 h3 (aK rfl h3 rfl rfl (aA rfl (R_e ?_)))))))
  refine tS fun Q9 n9 x9 y9 z9=>?_
  refine cW (fun mm T H=> ∃ (x:Nat) (v2:Nat) (v14:Nat),mm=a.i.toNat - x∧T 3=(V.mp 3 1 0 0)∧T 4=(V.mp 4 1 0 0)∧T 8=(V.ms 18 1 0 (a.nx.length))∧T 10=(V.ms 42 v2 0 ((bqR a b (nth L i) L x).length))∧T 11=(iV ((i:Nat):Int))∧T 12=(V.mp 12 (v12+1) 0 0)∧T 55=(iV (a.i))∧T 56=(iV ((x:Nat):Int))∧(∀ j,j < k→H (65536*(j+1)+29)=(bk 1 4 1 (List.map cB (snR (bqR a b (nth L i) L x) b.nx.length j))))∧H 3=(bk 1 24 4 [[(iV (a.i)),(iV (a.s)),(aB a.nx),(aB a.ot)]])∧H 4=(bk 1 24 4 [[(iV (b.i)),(iV (b.s)),(aB b.nx),(aB b.ot)]])∧H 5=(bk 1 137 2 [[(iV (s)),(iV (t))]])∧H 12=(bk (v12+1) 137 2 [[(iV (((nth (L) (i))).s)),(iV (((nth (L) (i))).t))]])∧((H 14).ver=v14∧(H 14).live=false)∧H 18=(bk 1 93 1 (List.map c1V (rwL a.nx.length b.nx.length k)))∧H 42=(bk v2 174 3 (List.map cPr (bqR a b (nth L i) L x)))∧(x≤a.i.toNat)∧(∀ j,j < x→bqD a b (nth L i) j=false)) ?_ ?_
  ·
   refine ⟨_,0,v,v14,rfl,t3,t4,t8,(Eq.trans t10 (by first|rfl|(simp only [r2]; rfl)|(rw [show x=a.i.toNat by omega]; done)|(rw [cF d2,List.length_append]; done)|(rw [cF d2,List.length_append]; rfl)|(rw [dO d2]; done)|simp)),t11,rfl,rfl,(Eq.trans (@rfl V (iV (0:Int))) rfl),(fun j hj=>((eI (eI hU2 (fun j=>by omega)) (fun j=>by omega)) j (by omega)).trans (by first|rfl|(rw [cF d2]; done)|(rw [dO d2]; done)|(rw [show x=a.i.toNat by omega]; done))),h3,h4,h5,rfl,h14,h18,(Eq.trans h42 (by first|rfl|(rw [jX]; done)|(rw [lJ]; done)|(rw [show x=a.i.toNat by omega]; done)|(simp only [r2]; rw [cF d2]; done)|(simp only [r2]; rw [cF d2]; rfl)|(rw [dO d2]; done)|simp)),?_,?_⟩
   · omega
   · intro j hj; omega
  intro mm T H ⟨x,v2,v14,hmm,t3,t4,t8,t10,t11,t12,t55,t56,hU2,h3,h4,h5,h12,h14,h18,h42,hx,hdx⟩ Q10 p110 p210 p310
  unfold aLL
  refine W_r (bR t56 t55 (R_e ?_))
  refine aO rfl (fun c11=>?_) fun c11=>?_
  ·
   have r0:=hbi.row hma hmb hi hil2 (x:=x) (by omega) hdx
   have r9:=r0.len
   have r1:i < (bqR a b (nth L i) L x).length:=Nat.lt_of_lt_of_le hil2 tT
   have r2:nth (bqR a b (nth L i) L x) i=nth L i:=uA hil2
   have r3:=hbi.rg _ (bF hil2)
   have r4:=hbi.ln i hil2
   have r5:=aEo hma r3.1 r3.2.1
   have r6:=aEo hmb r3.2.2.1 r3.2.2.2
   have n1:=aDt hma r3.1 r3.2.1 (x:=x) (by omega)
   have n2:=aDt hmb r3.2.2.1 r3.2.2.2 (x:=x) (by omega)
   have n3:=n1
   have n4:=n2
   unfold nxS otS at n3 n4
   refine aH (aI fun Q12 n12 x12 y12 z12=>(W_r (aA t56 (aA rfl (R_e (aC (W_r ?_)))))))
   refine aP t3 h3 (aK rfl h3 rfl rfl (aP t12 h12 (aK rfl h12 rfl rfl (gU (i:=(((nth (L) (i))).s)) (@rfl V (aB a.ot)) (@rfl V (iV (((nth (L) (i))).s))) (by first|omega|(simp only [bC,bE,List.length_replicate,List.length_set]; omega)|(simp only [r2]; omega)) (by first|omega|(simp only [bC,bE,List.length_replicate,List.length_set]; omega)|(simp only [r2]; omega)) rfl (aJ rfl rfl (aA rfl (bL (i:=x) (@rfl V (aS ((nth (a.ot) (((nth (L) (i))).s).toNat)))) (@rfl V (iV ((x:Nat):Int))) (by first|omega|(simp only [bC,bE,List.length_replicate,List.length_set]; omega)|(simp only [r2]; omega)) rfl ?_)))))))
   refine aJ rfl rfl (aP t4 h4 (aK rfl h4 rfl rfl (aP t12 h12 (aK rfl h12 rfl rfl (gU (i:=(((nth (L) (i))).t)) (@rfl V (aB b.ot)) (@rfl V (iV (((nth (L) (i))).t))) (by first|omega|(simp only [bC,bE,List.length_replicate,List.length_set]; omega)|(simp only [r2]; omega)) (by first|omega|(simp only [bC,bE,List.length_replicate,List.length_set]; omega)|(simp only [r2]; omega)) rfl (aJ rfl rfl (aA rfl ?_)))))))
   refine bL (i:=x) (@rfl V (aS ((nth (b.ot) (((nth (L) (i))).t).toNat)))) (@rfl V (iV ((x:Nat):Int))) (by first|omega|(simp only [bC,bE,List.length_replicate,List.length_set]; omega)|(simp only [r2]; omega)) rfl (aJ rfl rfl (dQ rfl rfl (R_e ?_)))
   refine aO rfl (fun c13=>?_) fun c13=>?_
   ·
    have d1:bqD a b (nth L i) x=true:=decide_eq_true c13
    have hz:dst a b s t=some ((nth L i).w++[(x:Int)]):=by rw [hc,aQR hil2 (by omega) (by omega) d1 hdx]
    refine aC (W_r (aA t10 (aA t11 (dB (i:=i) (@rfl V (V.ms 42 v2 0 ((bqR a b (nth L i) L x).length))) (@rfl V (iV ((i:Nat):Int))) h42 oB rfl (by first|omega|(simp only [bC,bE,List.length_replicate,List.length_set]; omega)|(simp only [r2]; omega)) (aP rfl h42 (bT (v:=(aS (((nth (bqR a b (nth L i) L x) (i))).w))) rfl h42 (dW (by first|omega|(simp only [bC,bE,List.length_replicate,List.length_set]; omega)|(simp only [r2]; omega)) (by first|rfl|(rw [cF_eq]; rfl)|simp [ldV,V.one])) (aA rfl ?_)))))))
    refine eF rfl rfl (eF rfl rfl (bG (vD ([((nth (bqR a b (nth L i) L x) (i))).w,[((x:Nat):Int)]]) (by simp only [r2,cat,List.append_nil,List.length_append,List.length_singleton]; omega)) rfl (aA rfl (aA rfl (R_e (aU (y12 _ _ ?_)))))))
    refine p210 _ _ (y9 _ _ (y8 _ _ (p26 _ _ (y5 _ _ ?_))))
    refine lT (@rfl V (aS (cat ([((nth (bqR a b (nth L i) L x) (i))).w,[((x:Nat):Int)]])))) (@rfl V (V.bool true)) (aBz ?_ (fun _=>by simp)) (bU ?_)
    · rw [hz]; simp only [r2]; rfl
    · rw [hz]; rfl
   have d1:bqD a b (nth L i) x=false:=decide_eq_false c13
   refine aH ?_
   refine aBD (fun T H=>T 3=(V.mp 3 1 0 0)∧T 4=(V.mp 4 1 0 0)∧T 8=(V.ms 18 1 0 (a.nx.length))∧T 10=(V.ms 42 v2 0 ((bqR a b (nth L i) L x).length))∧T 11=(iV ((i:Nat):Int))∧T 12=(V.mp 12 (v12+1) 0 0)∧T 13=(iV ((x:Nat):Int))∧T 14=(V.mp 14 (v14+1) 0 0)∧T 55=(iV (a.i))∧T 56=(iV ((x:Nat):Int))∧(∀ j,j < k→H (65536*(j+1)+29)=(bk 1 4 1 (List.map cB (snR (bqR a b (nth L i) L x) b.nx.length j))))∧H 3=(bk 1 24 4 [[(iV (a.i)),(iV (a.s)),(aB a.nx),(aB a.ot)]])∧H 4=(bk 1 24 4 [[(iV (b.i)),(iV (b.s)),(aB b.nx),(aB b.ot)]])∧H 5=(bk 1 137 2 [[(iV (s)),(iV (t))]])∧H 12=(bk (v12+1) 137 2 [[(iV (((nth (L) (i))).s)),(iV (((nth (L) (i))).t))]])∧H 14=(bk (v14+1) 137 2 [[(iV ((nth ((nth (a.nx) (((nth (L) (i))).s).toNat)) (x)))),(iV ((nth ((nth (b.nx) (((nth (L) (i))).t).toNat)) (x))))]])∧H 18=(bk 1 93 1 (List.map c1V (rwL a.nx.length b.nx.length k)))∧H 42=(bk v2 174 3 (List.map cPr (bqR a b (nth L i) L x)))∧True) (by exact (lV (h14).2 wM)) ?_ ?_
   ·
    refine aP t3 h3 (aK rfl h3 rfl rfl (aP t12 h12 (aK rfl h12 rfl rfl (gU (i:=(((nth (L) (i))).s)) (@rfl V (aB a.nx)) (@rfl V (iV (((nth (L) (i))).s))) (by first|omega|(simp only [bC,bE,List.length_replicate,List.length_set]; omega)|(simp only [r2]; omega)) (by first|omega|(simp only [bC,bE,List.length_replicate,List.length_set]; omega)|(simp only [r2]; omega)) rfl (aJ rfl rfl (aA rfl (bL (i:=x) (@rfl V (aS ((nth (a.nx) (((nth (L) (i))).s).toNat)))) (@rfl V (iV ((x:Nat):Int))) (by first|omega|(simp only [bC,bE,List.length_replicate,List.length_set]; omega)|(simp only [r2]; omega)) rfl ?_)))))))
    refine aJ rfl rfl (aP t4 h4 (aK rfl h4 rfl rfl (aP t12 h12 (aK rfl h12 rfl rfl (gU (i:=(((nth (L) (i))).t)) (@rfl V (aB b.nx)) (@rfl V (iV (((nth (L) (i))).t))) (by first|omega|(simp only [bC,bE,List.length_replicate,List.length_set]; omega)|(simp only [r2]; omega)) (by first|omega|(simp only [bC,bE,List.length_replicate,List.length_set]; omega)|(simp only [r2]; omega)) rfl (aJ rfl rfl (aA rfl ?_)))))))
    refine bL (i:=x) (@rfl V (aS ((nth (b.nx) (((nth (L) (i))).t).toNat)))) (@rfl V (iV ((x:Nat):Int))) (by first|omega|(simp only [bC,bE,List.length_replicate,List.length_set]; omega)|(simp only [r2]; omega)) rfl (aJ rfl rfl (eM rfl rfl (cK (i:=14) (n:=v14) (m:=2) rfl (h14).1 rfl (mM rfl rfl rfl rfl rfl rfl rfl rfl rfl ?_))))
    exact iK ⟨t3,t4,t8,t10,t11,t12,rfl,rfl,t55,t56,(eI (eI hU2 (fun j=>by omega)) (fun j=>by omega)),h3,h4,h5,h12,rfl,h18,h42,trivial⟩
   intro T H ⟨t3,t4,t8,t10,t11,t12,t13,t14,t55,t56,hU2,h3,h4,h5,h12,h14,h18,h42,_⟩
   refine W_r (aK t14 h14 rfl rfl (aK t12 h12 rfl rfl (aOz rfl rfl (aA rfl ?_))))
   refine aV 11 (fun T H=>T 3=(V.mp 3 1 0 0)∧T 4=(V.mp 4 1 0 0)∧T 8=(V.ms 18 1 0 (a.nx.length))∧T 10=(V.ms 42 v2 0 ((bqR a b (nth L i) L x).length))∧T 11=(iV ((i:Nat):Int))∧T 12=(V.mp 12 (v12+1) 0 0)∧T 13=(iV ((x:Nat):Int))∧T 14=(V.mp 14 (v14+1) 0 0)∧T 55=(iV (a.i))∧T 56=(iV ((x:Nat):Int))∧T 120=(V.bool ((decide (¬(((nth ((nth (a.nx) (((nth (L) (i))).s).toNat)) (x)))=(((nth (L) (i))).s)∧((nth ((nth (b.nx) (((nth (L) (i))).t).toNat)) (x)))=(((nth (L) (i))).t)))&&((!(nth (snR (bqR a b (nth L i) L x) b.nx.length ((nth (nth a.nx (nth L i).s.toNat) x).toNat)) ((((nth ((nth (b.nx) (((nth (L) (i))).t).toNat)) (x)))).toNat)))))))∧(∀ j,j < k→H (65536*(j+1)+29)=(bk 1 4 1 (List.map cB (snR (bqR a b (nth L i) L x) b.nx.length j))))∧H 3=(bk 1 24 4 [[(iV (a.i)),(iV (a.s)),(aB a.nx),(aB a.ot)]])∧H 4=(bk 1 24 4 [[(iV (b.i)),(iV (b.s)),(aB b.nx),(aB b.ot)]])∧H 5=(bk 1 137 2 [[(iV (s)),(iV (t))]])∧H 12=(bk (v12+1) 137 2 [[(iV (((nth (L) (i))).s)),(iV (((nth (L) (i))).t))]])∧H 14=(bk (v14+1) 137 2 [[(iV ((nth ((nth (a.nx) (((nth (L) (i))).s).toNat)) (x)))),(iV ((nth ((nth (b.nx) (((nth (L) (i))).t).toNat)) (x))))]])∧H 18=(bk 1 93 1 (List.map c1V (rwL a.nx.length b.nx.length k)))∧H 42=(bk v2 174 3 (List.map cPr (bqR a b (nth L i) L x)))∧True) ?_ ?_
   ·
    by_cases g14: ¬(((nth ((nth (a.nx) (((nth (L) (i))).s).toNat)) (x)))=(((nth (L) (i))).s)∧((nth ((nth (b.nx) (((nth (L) (i))).t).toNat)) (x)))=(((nth (L) (i))).t))
    ·
     refine aD (edT g14 rfl) (aA t8 (aD (edT g14 rfl) (aP t14 h14 (aD (edT g14 rfl) (aK rfl h14 rfl rfl (aD (edT g14 rfl) (dY (i:=((nth ((nth (a.nx) (((nth (L) (i))).s).toNat)) (x)))) (@rfl V (V.ms 18 1 0 (a.nx.length))) (@rfl V (iV ((nth ((nth (a.nx) (((nth (L) (i))).s).toNat)) (x))))) h18 oB rfl (by first|omega|(simp only [bC,bE,List.length_replicate,List.length_set]; omega)|(simp only [r2]; omega)) (by first|omega|(simp only [bC,bE,List.length_replicate,List.length_set]; omega)|(simp only [r2]; omega)) ?_)))))))
     refine aD (edT g14 rfl) (bT (v:=(V.ms (65536*((nth (nth a.nx (nth L i).s.toNat) x).toNat+1)+29) 1 0 (b.nx.length))) rfl h18 (dW (by simp only [bC]; omega) (by simp only [c1V,aAA (show (nth (nth a.nx (nth L i).s.toNat) x).toNat < a.nx.length by omega) (show (nth (nth a.nx (nth L i).s.toNat) x).toNat < k by omega)]; rfl)) (aD (edT g14 rfl) (aP t14 h14 (aD (edT g14 rfl) (aK rfl h14 rfl rfl (aD (edT g14 rfl) (dY (i:=((nth ((nth (b.nx) (((nth (L) (i))).t).toNat)) (x)))) (@rfl V (V.ms (65536*((nth (nth a.nx (nth L i).s.toNat) x).toNat+1)+29) 1 0 (b.nx.length))) (@rfl V (iV ((nth ((nth (b.nx) (((nth (L) (i))).t).toNat)) (x))))) (hU2 _ (by omega)) oB rfl (by first|omega|(simp only [bC,bE,List.length_replicate,List.length_set]; omega)|(simp only [r2]; omega)) (by first|omega|(simp only [bC,bE,List.length_replicate,List.length_set]; omega)|(simp only [r2]; omega)) ?_)))))))
     refine aD (edT g14 rfl) (bT (v:=(V.bool ((nth (snR (bqR a b (nth L i) L x) b.nx.length ((nth (nth a.nx (nth L i).s.toNat) x).toNat)) ((((nth ((nth (b.nx) (((nth (L) (i))).t).toNat)) (x)))).toNat))))) rfl (hU2 _ (by omega)) (dW (by first|omega|(simp only [bC,bE,List.length_replicate,List.length_set]; omega)|(simp only [r2]; omega)) (by first|rfl|(rw [cF_eq]; rfl)|simp [ldV,V.one])) (aD (edT g14 rfl) (oK rfl (aX (edT g14 rfl) rfl ?_))))
     exact ⟨t3,t4,t8,t10,t11,t12,t13,t14,t55,t56,(aCM g14),hU2,h3,h4,h5,h12,h14,h18,h42,trivial⟩
    ·
     refine G_n (edF g14 rfl) (G_n (edF g14 rfl) (G_n (edF g14 rfl) (G_n (edF g14 rfl) (G_n (edF g14 rfl) (G_n (edF g14 rfl) (G_n (edF g14 rfl) (G_n (edF g14 rfl) ?_)))))))
     refine G_n (edF g14 rfl) (G_n (edF g14 rfl) (aW (edF g14 rfl) rfl ?_))
     exact ⟨t3,t4,t8,t10,t11,t12,t13,t14,t55,t56,(aC8 g14),hU2,h3,h4,h5,h12,h14,h18,h42,trivial⟩
   intro T H ⟨t3,t4,t8,t10,t11,t12,t13,t14,t55,t56,t120,hU2,h3,h4,h5,h12,h14,h18,h42,_⟩
   refine R_e ?_
   refine aDv t120 (fun c15=>?_) (fun c15=>?_)
   ·
    have q0:=aGI (L:=bqR a b (nth L i) L x) n1.1 n2.1 n2.2.1
    have d2:knK (bqR a b (nth L i) L x) (nxS a (nth L i).s x) (nxS b (nth L i).t x) (bqR a b (nth L i) L x).length=false:=q0.symm.trans (by have q:=c15; rw [Bool.and_eq_true] at q; have q1:=q.2; rw [Bool.not_eq_true'] at q1; exact q1)
    refine W_r (aA t8 (aP t14 h14 (aK rfl h14 rfl rfl (dY (i:=((nth ((nth (a.nx) (((nth (L) (i))).s).toNat)) (x)))) (@rfl V (V.ms 18 1 0 (a.nx.length))) (@rfl V (iV ((nth ((nth (a.nx) (((nth (L) (i))).s).toNat)) (x))))) h18 oB rfl (by first|omega|(simp only [bC,bE,List.length_replicate,List.length_set]; omega)|(simp only [r2]; omega)) (by first|omega|(simp only [bC,bE,List.length_replicate,List.length_set]; omega)|(simp only [r2]; omega)) (bT (v:=(V.ms (65536*((nth (nth a.nx (nth L i).s.toNat) x).toNat+1)+29) 1 0 (b.nx.length))) rfl h18 (dW (by simp only [bC]; omega) (by simp only [c1V,aAA (show (nth (nth a.nx (nth L i).s.toNat) x).toNat < a.nx.length by omega) (show (nth (nth a.nx (nth L i).s.toNat) x).toNat < k by omega)]; rfl)) (aP t14 h14 (aK rfl h14 rfl rfl ?_)))))))
    refine dY (i:=((nth ((nth (b.nx) (((nth (L) (i))).t).toNat)) (x)))) (@rfl V (V.ms (65536*((nth (nth a.nx (nth L i).s.toNat) x).toNat+1)+29) 1 0 (b.nx.length))) (@rfl V (iV ((nth ((nth (b.nx) (((nth (L) (i))).t).toNat)) (x))))) (hU2 _ (by omega)) oB rfl (by first|omega|(simp only [bC,bE,List.length_replicate,List.length_set]; omega)|(simp only [r2]; omega)) (by first|omega|(simp only [bC,bE,List.length_replicate,List.length_set]; omega)|(simp only [r2]; omega)) (bQ (vs:=[(V.bool true)]) (B':=(bk 1 4 1 (List.map cB ((snR (bqR a b (nth L i) L x) b.nx.length ((nth (nth a.nx (nth L i).s.toNat) x).toNat)).set ((((nth ((nth (b.nx) (((nth (L) (i))).t).toNat)) (x)))).toNat) true)))) rfl rfl rfl (hU2 _ (by omega)) (iE (x:=true) (i:=((((nth ((nth (b.nx) (((nth (L) (i))).t).toNat)) (x)))).toNat)) (by first|omega|(simp only [bC,bE,List.length_replicate,List.length_set]; omega)|(simp only [r2]; omega)) rfl rfl rfl rfl) (R_e (W_t (aA t10 (aK t14 ((aG _ _ (by omega)).trans h14) rfl rfl (aA t10 (aA t11 ?_)))))))
    refine dB (i:=i) (@rfl V (V.ms 42 v2 0 ((bqR a b (nth L i) L x).length))) (@rfl V (iV ((i:Nat):Int))) ((aG _ _ (by omega)).trans h42) oB rfl (by first|omega|(simp only [bC,bE,List.length_replicate,List.length_set]; omega)|(simp only [r2]; omega)) (aP rfl ((aG _ _ (by omega)).trans h42) (bT (v:=(aS (((nth (bqR a b (nth L i) L x) (i))).w))) rfl ((aG _ _ (by omega)).trans h42) (dW (by first|omega|(simp only [bC,bE,List.length_replicate,List.length_set]; omega)|(simp only [r2]; omega)) (by first|rfl|(rw [cF_eq]; rfl)|simp [ldV,V.one])) (aA t13 (eF rfl rfl (eF rfl rfl (bG (vD ([((nth (bqR a b (nth L i) L x) (i))).w,[((x:Nat):Int)]]) (by simp only [r2,cat,List.append_nil,List.length_append,List.length_singleton]; omega)) rfl (eM rfl rfl ?_)))))))
    refine eF rfl rfl (fL (l:=(bqR a b (nth L i) L x)) (f:=cPr) (x:=((⟨nth ((nth (a.nx) (((nth (L) (i))).s).toNat)) (x),nth ((nth (b.nx) (((nth (L) (i))).t).toNat)) (x),cat ([((nth (bqR a b (nth L i) L x) (i))).w,[((x:Nat):Int)]])⟩:Pr))) (@rfl V (V.ms 42 v2 0 ((bqR a b (nth L i) L x).length))) ((aG _ _ (by omega)).trans h42) (by first|rfl|simp|omega) (@rfl V (V.sl [[(iV ((nth ((nth (a.nx) (((nth (L) (i))).s).toNat)) (x)))),(iV ((nth ((nth (b.nx) (((nth (L) (i))).t).toNat)) (x)))),(aS (cat ([((nth (bqR a b (nth L i) L x) (i))).w,[((x:Nat):Int)]])))]])) rfl rfl (by first|omega|(simp only [bC,bE,List.length_replicate,List.length_set]; omega)|(simp only [r2]; omega)) (by first|omega|(simp only [bC,bE,List.length_replicate,List.length_set]; omega)|(simp only [r2]; omega)) (aA rfl (R_e (n12 _ _ (dE (R:=fun T H=>T 3=(V.mp 3 1 0 0)∧T 4=(V.mp 4 1 0 0)∧T 8=(V.ms 18 1 0 (a.nx.length))∧T 10=(V.ms 42 (v2+1) 0 (((bqR a b (nth L i) L x).length)+1))∧T 11=(iV ((i:Nat):Int))∧T 12=(V.mp 12 (v12+1) 0 0)∧T 55=(iV (a.i))∧T 56=(iV ((x:Nat):Int))∧(∀ j,j < k→H (65536*(j+1)+29)=(bk 1 4 1 (List.map cB (snR ((bqR a b (nth L i) L x++[⟨(nxS a (nth L i).s x),(nxS b (nth L i).t x),(nth L i).w++[(x:Int)]⟩])) b.nx.length j))))∧H 3=(bk 1 24 4 [[(iV (a.i)),(iV (a.s)),(aB a.nx),(aB a.ot)]])∧H 4=(bk 1 24 4 [[(iV (b.i)),(iV (b.s)),(aB b.nx),(aB b.ot)]])∧H 5=(bk 1 137 2 [[(iV (s)),(iV (t))]])∧H 12=(bk (v12+1) 137 2 [[(iV (((nth (L) (i))).s)),(iV (((nth (L) (i))).t))]])∧H 14=(bk (v14+1) 137 2 [[(iV ((nth ((nth (a.nx) (((nth (L) (i))).s).toNat)) (x)))),(iV ((nth ((nth (b.nx) (((nth (L) (i))).t).toNat)) (x))))]])∧H 18=(bk 1 93 1 (List.map c1V (rwL a.nx.length b.nx.length k)))∧H 42=(bk (v2+1) 174 3 (List.map cPr (bqR a b (nth L i) L x++[(⟨nth ((nth (a.nx) (((nth (L) (i))).s).toNat)) (x),nth ((nth (b.nx) (((nth (L) (i))).t).toNat)) (x),cat ([((nth (bqR a b (nth L i) L x) (i))).w,[((x:Nat):Int)]])⟩:Pr)])))∧True) ⟨t3,t4,t8,(@rfl V (V.ms 42 (v2+1) 0 (((bqR a b (nth L i) L x).length)+1))),t11,t12,t55,t56,(eI (aDJ hU2 (congrArg (fun l=>bk 1 4 1 (List.map cB l)) (aEb (p:=⟨(nxS a (nth L i).s x),(nxS b (nth L i).t x),(nth L i).w++[(x:Int)]⟩) n1.1 n2.1 n2.2.1)) fun j hj=>by rw [yS (p:=⟨(nxS a (nth L i).s x),(nxS b (nth L i).t x),(nth L i).w++[(x:Int)]⟩) n1.1 hj]) (fun j=>by omega)),((aG _ _ (by omega)).trans h3),((aG _ _ (by omega)).trans h4),((aG _ _ (by omega)).trans h5),((aG _ _ (by omega)).trans h12),((aG _ _ (by omega)).trans h14),((aG _ _ (by omega)).trans h18),rfl,trivial⟩ ?_)))))
    intro T H ⟨t3,t4,t8,t10,t11,t12,t55,t56,hU2,h3,h4,h5,h12,h14,h18,h42,_⟩
    refine .freeze 14 (.done ?_)
    refine dE (R:=fun T H=>T 3=(V.mp 3 1 0 0)∧T 4=(V.mp 4 1 0 0)∧T 8=(V.ms 18 1 0 (a.nx.length))∧T 10=(V.ms 42 (v2+1) 0 (((bqR a b (nth L i) L x).length)+1))∧T 11=(iV ((i:Nat):Int))∧T 12=(V.mp 12 (v12+1) 0 0)∧T 55=(iV (a.i))∧T 56=(iV ((x:Nat):Int))∧(∀ j,j < k→H (65536*(j+1)+29)=(bk 1 4 1 (List.map cB (snR ((bqR a b (nth L i) L x++[⟨(nxS a (nth L i).s x),(nxS b (nth L i).t x),(nth L i).w++[(x:Int)]⟩])) b.nx.length j))))∧H 3=(bk 1 24 4 [[(iV (a.i)),(iV (a.s)),(aB a.nx),(aB a.ot)]])∧H 4=(bk 1 24 4 [[(iV (b.i)),(iV (b.s)),(aB b.nx),(aB b.ot)]])∧H 5=(bk 1 137 2 [[(iV (s)),(iV (t))]])∧H 12=(bk (v12+1) 137 2 [[(iV (((nth (L) (i))).s)),(iV (((nth (L) (i))).t))]])∧((H 14).ver=v14+1∧(H 14).live=false)∧H 18=(bk 1 93 1 (List.map c1V (rwL a.nx.length b.nx.length k)))∧H 42=(bk (v2+1) 174 3 (List.map cPr (bqR a b (nth L i) L x++[(⟨nth ((nth (a.nx) (((nth (L) (i))).s).toNat)) (x),nth ((nth (b.nx) (((nth (L) (i))).t).toNat)) (x),cat ([((nth (bqR a b (nth L i) L x) (i))).w,[((x:Nat):Int)]])⟩:Pr)])))∧True) ⟨(aT t3 rfl),(aT t4 rfl),(aT t8 (dD (by decide))),(aT t10 (dD (by decide))),(aT t11 rfl),(aT t12 rfl),(aT t55 rfl),(aT t56 rfl),(aBO hU2 (fun j=>by omega)),(aR h3 (by decide)),(aR h4 (by decide)),(aR h5 (by decide)),(aR h12 (by decide)),(dM (congrArg Blk.ver h14)),(aR h18 (by decide)),(aR h42 (by decide)),trivial⟩ ?_
    intro T H ⟨t3,t4,t8,t10,t11,t12,t55,t56,hU2,h3,h4,h5,h12,h14,h18,h42,_⟩
    refine W_t (bV t56 (@rfl V (iV ((1:Nat):Int))) (by first|omega|(simp only [bC,bE,List.length_replicate,List.length_set]; omega)|(simp only [r2]; omega)) (aA rfl (R_e ?_)))
    refine p110 _ _ _ ?_ ⟨(x+1),(v2+1),(v14+1),rfl,t3,t4,t8,(Eq.trans t10 (by first|rfl|(simp only [r2]; rfl)|(rw [show x=a.i.toNat by omega]; done)|(rw [cF d2,List.length_append]; done)|(rw [cF d2,List.length_append]; rfl)|(rw [dO d2]; done)|simp)),t11,t12,t55,(Eq.trans (@rfl V (iV ((x+1:Nat):Int))) (by first|rfl|(simp only [r2]; rfl)|(rw [show x=a.i.toNat by omega]; done)|(rw [cF d2,List.length_append]; done)|(rw [cF d2,List.length_append]; rfl)|(rw [dO d2]; done)|simp)),(fun j hj=>(hU2 j (by omega)).trans (by first|rfl|(rw [cF d2]; done)|(rw [dO d2]; done)|(rw [show x=a.i.toNat by omega]; done))),h3,h4,h5,h12,h14,h18,(Eq.trans h42 (by first|rfl|(rw [jX]; done)|(rw [lJ]; done)|(rw [show x=a.i.toNat by omega]; done)|(simp only [r2]; rw [cF d2]; done)|(simp only [r2]; rw [cF d2]; rfl)|(rw [dO d2]; done)|simp)),?_,?_⟩
    · omega
    · omega
    · intro j hj
      by_cases e:j=x
      · subst e; exact d1
      · exact hdx j (by omega)
   have q0:=aGI (L:=bqR a b (nth L i) L x) n1.1 n2.1 n2.2.1
   have d2:knK (bqR a b (nth L i) L x) (nxS a (nth L i).s x) (nxS b (nth L i).t x) (bqR a b (nth L i) L x).length=true:=by
     by_cases e:(nth (nth a.nx (nth L i).s.toNat) x)=(nth L i).s∧(nth (nth b.nx (nth L i).t.toNat) x)=(nth L i).t
     · exact jA.2 ⟨i,r1,by rw [r2]; exact ⟨e.1.symm,e.2.symm⟩⟩
     · cases h:nth (snR (bqR a b (nth L i) L x) b.nx.length (nth (nth a.nx (nth L i).s.toNat) x).toNat) (nth (nth b.nx (nth L i).t.toNat) x).toNat with
       |true=>exact q0.symm.trans h
       |false=>exact absurd (c15.symm.trans (by rw [h]; simp only [Bool.not_false,Bool.and_true]; exact decide_eq_true e)) Bool.false_ne_true
   refine cX (n12 _ _ (dE (R:=fun T H=>T 3=(V.mp 3 1 0 0)∧T 4=(V.mp 4 1 0 0)∧T 8=(V.ms 18 1 0 (a.nx.length))∧T 10=(V.ms 42 v2 0 ((bqR a b (nth L i) L x).length))∧T 11=(iV ((i:Nat):Int))∧T 12=(V.mp 12 (v12+1) 0 0)∧T 13=(iV ((x:Nat):Int))∧T 14=(V.mp 14 (v14+1) 0 0)∧T 55=(iV (a.i))∧T 56=(iV ((x:Nat):Int))∧T 120=(V.bool ((decide (¬(((nth ((nth (a.nx) (((nth (L) (i))).s).toNat)) (x)))=(((nth (L) (i))).s)∧((nth ((nth (b.nx) (((nth (L) (i))).t).toNat)) (x)))=(((nth (L) (i))).t)))&&((!(nth (snR (bqR a b (nth L i) L x) b.nx.length ((nth (nth a.nx (nth L i).s.toNat) x).toNat)) ((((nth ((nth (b.nx) (((nth (L) (i))).t).toNat)) (x)))).toNat)))))))∧(∀ j,j < k→H (65536*(j+1)+29)=(bk 1 4 1 (List.map cB (snR (bqR a b (nth L i) L x) b.nx.length j))))∧H 3=(bk 1 24 4 [[(iV (a.i)),(iV (a.s)),(aB a.nx),(aB a.ot)]])∧H 4=(bk 1 24 4 [[(iV (b.i)),(iV (b.s)),(aB b.nx),(aB b.ot)]])∧H 5=(bk 1 137 2 [[(iV (s)),(iV (t))]])∧H 12=(bk (v12+1) 137 2 [[(iV (((nth (L) (i))).s)),(iV (((nth (L) (i))).t))]])∧H 14=(bk (v14+1) 137 2 [[(iV ((nth ((nth (a.nx) (((nth (L) (i))).s).toNat)) (x)))),(iV ((nth ((nth (b.nx) (((nth (L) (i))).t).toNat)) (x))))]])∧H 18=(bk 1 93 1 (List.map c1V (rwL a.nx.length b.nx.length k)))∧H 42=(bk v2 174 3 (List.map cPr (bqR a b (nth L i) L x)))∧True) ⟨t3,t4,t8,t10,t11,t12,t13,t14,t55,t56,t120,hU2,h3,h4,h5,h12,h14,h18,h42,trivial⟩ ?_))
   intro T H ⟨t3,t4,t8,t10,t11,t12,t13,t14,t55,t56,t120,hU2,h3,h4,h5,h12,h14,h18,h42,_⟩
   refine .freeze 14 (.done ?_)
   refine dE (R:=fun T H=>T 3=(V.mp 3 1 0 0)∧T 4=(V.mp 4 1 0 0)∧T 8=(V.ms 18 1 0 (a.nx.length))∧T 10=(V.ms 42 v2 0 ((bqR a b (nth L i) L x).length))∧T 11=(iV ((i:Nat):Int))∧T 12=(V.mp 12 (v12+1) 0 0)∧T 13=(iV ((x:Nat):Int))∧T 14=(V.mp 14 (v14+1) 0 0)∧T 55=(iV (a.i))∧T 56=(iV ((x:Nat):Int))∧T 120=(V.bool ((decide (¬(((nth ((nth (a.nx) (((nth (L) (i))).s).toNat)) (x)))=(((nth (L) (i))).s)∧((nth ((nth (b.nx) (((nth (L) (i))).t).toNat)) (x)))=(((nth (L) (i))).t)))&&((!(nth (snR (bqR a b (nth L i) L x) b.nx.length ((nth (nth a.nx (nth L i).s.toNat) x).toNat)) ((((nth ((nth (b.nx) (((nth (L) (i))).t).toNat)) (x)))).toNat)))))))∧(∀ j,j < k→H (65536*(j+1)+29)=(bk 1 4 1 (List.map cB (snR (bqR a b (nth L i) L x) b.nx.length j))))∧H 3=(bk 1 24 4 [[(iV (a.i)),(iV (a.s)),(aB a.nx),(aB a.ot)]])∧H 4=(bk 1 24 4 [[(iV (b.i)),(iV (b.s)),(aB b.nx),(aB b.ot)]])∧H 5=(bk 1 137 2 [[(iV (s)),(iV (t))]])∧H 12=(bk (v12+1) 137 2 [[(iV (((nth (L) (i))).s)),(iV (((nth (L) (i))).t))]])∧((H 14).ver=v14+1∧(H 14).live=false)∧H 18=(bk 1 93 1 (List.map c1V (rwL a.nx.length b.nx.length k)))∧H 42=(bk v2 174 3 (List.map cPr (bqR a b (nth L i) L x)))∧True) ⟨(aT t3 rfl),(aT t4 rfl),(aT t8 (dD (by decide))),(aT t10 (dD (by decide))),(aT t11 rfl),(aT t12 rfl),(aT t13 rfl),(aT t14 rfl),(aT t55 rfl),(aT t56 rfl),(aT t120 rfl),(aBO hU2 (fun j=>by omega)),(aR h3 (by decide)),(aR h4 (by decide)),(aR h5 (by decide)),(aR h12 (by decide)),(dM (congrArg Blk.ver h14)),(aR h18 (by decide)),(aR h42 (by decide)),trivial⟩ ?_
   intro T H ⟨t3,t4,t8,t10,t11,t12,t13,t14,t55,t56,t120,hU2,h3,h4,h5,h12,h14,h18,h42,_⟩
   refine W_t (bV t56 (@rfl V (iV ((1:Nat):Int))) (by first|omega|(simp only [bC,bE,List.length_replicate,List.length_set]; omega)|(simp only [r2]; omega)) (aA rfl (R_e ?_)))
   refine p110 _ _ _ ?_ ⟨(x+1),v2,(v14+1),rfl,t3,t4,t8,(Eq.trans t10 (by first|rfl|(simp only [r2]; rfl)|(rw [show x=a.i.toNat by omega]; done)|(rw [cF d2,List.length_append]; done)|(rw [cF d2,List.length_append]; rfl)|(rw [dO d2]; done)|simp)),t11,t12,t55,(Eq.trans (@rfl V (iV ((x+1:Nat):Int))) (by first|rfl|(simp only [r2]; rfl)|(rw [show x=a.i.toNat by omega]; done)|(rw [cF d2,List.length_append]; done)|(rw [cF d2,List.length_append]; rfl)|(rw [dO d2]; done)|simp)),(fun j hj=>(hU2 j (by omega)).trans (by first|rfl|(rw [cF d2]; done)|(rw [dO d2]; done)|(rw [show x=a.i.toNat by omega]; done))),h3,h4,h5,h12,h14,h18,(Eq.trans h42 (by first|rfl|(rw [jX]; done)|(rw [lJ]; done)|(rw [show x=a.i.toNat by omega]; done)|(simp only [r2]; rw [cF d2]; done)|(simp only [r2]; rw [cF d2]; rfl)|(rw [dO d2]; done)|simp)),?_,?_⟩
   · omega
   · omega
   · intro j hj
     by_cases e:j=x
     · subst e; exact d1
     · exact hdx j (by omega)
  refine bA (p310 _ _ _ (x9 _ _ (n8 _ _ (.done (W_t (aA t11 (bV rfl (@rfl V (iV ((1:Nat):Int))) (by first|omega|(simp only [bC,bE,List.length_replicate,List.length_set]; omega)|(simp only [r2]; omega)) ?_)))))))
  refine aA rfl (R_e ?_)
  refine p16 _ _ _ ?_ ⟨(i+1),v2,(bqR a b (nth L i) L a.i.toNat),(v12+1),v14,rfl,t3,t4,t8,(Eq.trans t10 (by first|rfl|(simp only [r2]; rfl)|(rw [show x=a.i.toNat by omega]; done)|(rw [cF d2,List.length_append]; done)|(rw [cF d2,List.length_append]; rfl)|(rw [dO d2]; done)|simp)),(Eq.trans (@rfl V (iV ((i+1:Nat):Int))) (by first|rfl|(simp only [r2]; rfl)|(rw [show x=a.i.toNat by omega]; done)|(rw [cF d2,List.length_append]; done)|(rw [cF d2,List.length_append]; rfl)|(rw [dO d2]; done)|simp)),(fun j hj=>(hU2 j (by omega)).trans (by first|rfl|(rw [cF d2]; done)|(rw [dO d2]; done)|(rw [show x=a.i.toNat by omega]; done))),h3,h4,h5,(congrArg Blk.ver h12),h14,h18,(Eq.trans h42 (by first|rfl|(rw [jX]; done)|(rw [lJ]; done)|(rw [show x=a.i.toNat by omega]; done)|(simp only [r2]; rw [cF d2]; done)|(simp only [r2]; rw [cF d2]; rfl)|(rw [dO d2]; done)|simp)),?_,?_,?_⟩
  · omega
  · have:=tT (a:=a) (b:=b) (p:=nth L i) (L:=L) (x:=a.i.toNat); omega
  · exact hbi.row hma hmb hi (by omega) (Nat.le_refl _) fun j hj=>hdx j (by omega)
  · rw [hc,aTD (by omega) (by omega) fun j hj=>hdx j (by omega)]
 have hz:dst a b s t=none:=by rw [hc,aM9 (by omega)]
 refine bA (p36 _ _ _ (x5 _ _ (.done (W_r (aA rfl (aA rfl (R_e ?_)))))))
 refine bK ?_
 refine lT (@rfl V V.nilsl) (@rfl V (V.bool false)) (eY ?_) (bU ?_)
 · rw [hz]; rfl
 · rw [hz]; rfl
end Go.Proofs.YtilfohjlglefjaaGreat
namespace Go.Proofs.YtilfohjlglefjaaGreat
open Go Go.Proofs
theorem aDf (a b:M):bB Tryz.prog 41 [(V.agg [(iV (a.i)),(iV (a.s)),(aB a.nx),(aB a.ot)]),(V.agg [(iV (b.i)),(iV (b.s)),(aB b.nx),(aB b.ot)])] (V.tup [(aS (aAV a b)),(V.bool (aAY a b)),(iV (lK a b))]):=by
 refine pW Tryz.func41 aF3 fun hB=>?_
 unfold s41
 dsimp only
 refine W_r (eT (i:=2) (n:=0) (m:=4) (cs:=[(iV (a.i)),(iV (a.s)),(aB a.nx),(aB a.ot)]) rfl (congrArg Blk.ver rfl) rfl rfl rfl (eT (i:=3) (n:=0) (m:=4) (cs:=[(iV (b.i)),(iV (b.s)),(aB b.nx),(aB b.ot)]) rfl (congrArg Blk.ver rfl) rfl rfl rfl (aA rfl (aA rfl (aA rfl (R_e (aC ?_)))))))
 refine W_r (aK rfl rfl rfl rfl (aK rfl rfl rfl rfl (bG (aCn a b) rfl (aA rfl (R_e (aC (W_r ?_)))))))
 refine aA rfl (dQ rfl rfl (R_e ?_))
 refine aO rfl (fun c1=>?_) fun c1=>?_
 ·
  have d1:=c1
  refine aC (W_r (aA rfl (aA rfl (aA rfl (aA rfl (R_e (aU ?_)))))))
  refine uL (@rfl V V.nilsl) (@rfl V (V.bool false)) (@rfl V (iV (lK a b))) (eY ?_) (bU ?_) (iO (by simp) rfl)
  · unfold aAV; rw [if_pos d1]
  · unfold aAY; rw [if_pos d1]
 have d0:lK a b=0:=by omega
 obtain ⟨hma,hmb,hi⟩:=aCK d0
 refine aH (W_r (aK rfl rfl rfl rfl (aK rfl rfl rfl rfl (aP rfl rfl (aK rfl rfl rfl rfl (aP rfl rfl (aK rfl rfl rfl rfl ?_)))))))
 refine eM rfl rfl (bG (aBT a b ((a.s)) ((b.s)) hma hmb hi (kL hma) (kL hmb)) rfl (aA rfl (eR rfl rfl (eR rfl rfl (aA rfl (aA rfl (R_e ?_)))))))
 refine W_r (aA rfl (aA rfl (aA rfl (aA rfl (aA rfl (R_e (bK ?_)))))))
 refine uL (@rfl V (aS ((dst a b ((a.s)) ((b.s))).getD []))) (@rfl V (V.bool ((dst a b ((a.s)) ((b.s))).isSome))) (@rfl V (iV (0:Int))) (aBz ?_ (fun _=>by simp)) (bU ?_) (aQ ?_)
 · unfold aAV; rw [if_neg (by omega)]
 · unfold aAY; rw [if_neg (by omega)]
 · omega
theorem aBe (a b:TM):bB Tryz.prog 15 [(V.agg [(iV (a.i)),(iV (a.tm)),(iV (a.s)),(aB a.nx),(aB a.ot),(V.sl (List.map cSr (a.st)))]),(V.agg [(iV (b.i)),(iV (b.tm)),(iV (b.s)),(aB b.nx),(aB b.ot),(V.sl (List.map cSr (b.st)))])] (V.tup [(aS (tqW a b)),(V.bool (tqF a b)),(iV (tqE a b))]):=by
 refine pW Tryz.func15 aG1 fun hB=>?_
 unfold s15
 dsimp only
 refine W_r (eT (i:=2) (n:=0) (m:=6) (cs:=[(iV (a.i)),(iV (a.tm)),(iV (a.s)),(aB a.nx),(aB a.ot),(V.sl (List.map cSr (a.st)))]) rfl (congrArg Blk.ver rfl) rfl rfl rfl (eT (i:=3) (n:=0) (m:=6) (cs:=[(iV (b.i)),(iV (b.tm)),(iV (b.s)),(aB b.nx),(aB b.ot),(V.sl (List.map cSr (b.st)))]) rfl (congrArg Blk.ver rfl) rfl rfl rfl (aA rfl (aA rfl (aA rfl (R_e (aC ?_)))))))
 refine W_r (aK rfl rfl rfl rfl (aK rfl rfl rfl rfl (eM rfl rfl (aA rfl (R_e (aI fun Q1 n1 x1 y1 z1=>?_))))))
 refine cW (fun mm T H=> ∃ (k:Nat) (v8:Nat),mm=2 - k∧T 2=(V.mp 2 1 0 0)∧T 3=(V.mp 3 1 0 0)∧T 15=(V.agg [(iV (a.i)),(iV (a.tm)),(iV (a.s)),(aB a.nx),(aB a.ot),(V.sl (List.map cSr (a.st))),(iV (b.i)),(iV (b.tm)),(iV (b.s)),(aB b.nx),(aB b.ot),(V.sl (List.map cSr (b.st)))])∧T 16=(iV ((k:Nat):Int))∧H 2=(bk 1 29 6 [[(iV (a.i)),(iV (a.tm)),(iV (a.s)),(aB a.nx),(aB a.ot),(V.sl (List.map cSr (a.st)))]])∧H 3=(bk 1 29 6 [[(iV (b.i)),(iV (b.tm)),(iV (b.s)),(aB b.nx),(aB b.ot),(V.sl (List.map cSr (b.st)))]])∧(H 8).ver=v8∧H 10=(⟨0,false,false,0,0,[]⟩:Blk)∧H 12=(⟨0,false,false,0,0,[]⟩:Blk)∧(k≤2)∧(1≤k→cR a=0)∧(2≤k→cR b=0)) ?_ ?_
 ·
  refine ⟨_,0,0,rfl,rfl,rfl,rfl,(Eq.trans (@rfl V (iV (0:Int))) rfl),rfl,rfl,(congrArg Blk.ver rfl),rfl,rfl,?_,?_,?_⟩
  · omega
  · intro; omega
  · intro; omega
 intro mm T H ⟨k,v8,hmm,t2,t3,t15,t16,h2,h3,h8,h10,h12,hk,ha,hb⟩ Q2 p12 p22 p32
 unfold aKY
 refine W_r (bR t16 rfl (R_e ?_))
 refine aO rfl (fun c3=>?_) fun c3=>?_
 ·
  refine aH (aI fun Q4 n4 x4 y4 z4=>(W_r (aDh (v:=(V.agg [(iV (((nth [a,b] k)).i)),(iV (((nth [a,b] k)).tm)),(iV (((nth [a,b] k)).s)),(aB (((nth [a,b] k)).nx)),(aB (((nth [a,b] k)).ot)),(V.sl (List.map cSr (((nth [a,b] k)).st)))])) t15 t16 (by rcases (show k=0∨k=1 by omega) with e|e <;> subst e <;> rfl) (cK (i:=8) (n:=v8) (m:=6) rfl h8 rfl (mM rfl rfl rfl rfl rfl rfl rfl rfl rfl (R_e (W_r ?_)))))))
  refine aK rfl rfl rfl rfl (bG (sY (((nth [a,b] k)))) rfl (aA rfl (R_e (W_r (aA rfl (dQ rfl rfl (R_e ?_)))))))
  refine fR rfl (fun c5=>?_) fun c5=>?_
  ·
   have d0:=c5
   refine W_r (aA rfl (aA rfl (aA rfl (aA rfl (R_e (bK (y4 _ _ ?_)))))))
   refine p22 _ _ (y1 _ _ ?_)
   refine uL (@rfl V V.nilsl) (@rfl V (V.bool false)) (@rfl V (iV (cR (((nth [a,b] k)))))) (eY ?_) (bU ?_) (aQ ?_)
   · have hz:tmQ a b=cR (nth [a,b] k):=by
       rcases (show k=0∨k=1 by omega) with e|e
       · subst e; rw [eA] at d0 ⊢; exact aEJ d0
       · subst e; exact aD3 (ha (by omega)) d0
     have q:=kE (a:=a) (b:=b) hz d0
     rw [q.1]
   · have hz:tmQ a b=cR (nth [a,b] k):=by
       rcases (show k=0∨k=1 by omega) with e|e
       · subst e; rw [eA] at d0 ⊢; exact aEJ d0
       · subst e; exact aD3 (ha (by omega)) d0
     have q:=kE (a:=a) (b:=b) hz d0
     exact q.2.1.symm
   · have hz:tmQ a b=cR (nth [a,b] k):=by
       rcases (show k=0∨k=1 by omega) with e|e
       · subst e; rw [eA] at d0 ⊢; exact aEJ d0
       · subst e; exact aD3 (ha (by omega)) d0
     have q:=kE (a:=a) (b:=b) hz d0
     exact q.2.2.symm
  have d0:cR (nth [a,b] k)=0:=by omega
  refine cX (n4 _ _ (.done (W_t (bV t16 (@rfl V (iV ((1:Nat):Int))) (by omega) (aA rfl (R_e ?_))))))
  refine p12 _ _ _ ?_ ⟨(k+1),(v8+1),rfl,t2,t3,t15,(Eq.trans (@rfl V (iV ((k+1:Nat):Int))) (by first|rfl|simp)),h2,h3,(congrArg Blk.ver rfl),h10,h12,?_,?_,?_⟩
  · omega
  · omega
  · intro _; rcases (show k=0∨k=1 by omega) with e|e
    · subst e; have d9:=d0; rw [eA] at d9; exact d9
    · exact ha (by omega)
  · intro _; have e:k=1:=by omega
    subst e; exact d0
 have d1:cR a=0:=ha (by omega)
 have d2:cR b=0:=hb (by omega)
 refine bA (p32 _ _ _ (x1 _ _ (.done (aC (W_r (aP t2 h2 (aK rfl h2 rfl rfl ?_)))))))
 refine aP t3 h3 (aK rfl h3 rfl rfl (dQ rfl rfl (aA rfl ?_)))
 refine aV 6 (fun T H=>T 2=(V.mp 2 1 0 0)∧T 3=(V.mp 3 1 0 0)∧T 36=(V.bool (decide (((a.i)≠(b.i))∨((a.tm)≠(b.tm)))))∧H 2=(bk 1 29 6 [[(iV (a.i)),(iV (a.tm)),(iV (a.s)),(aB a.nx),(aB a.ot),(V.sl (List.map cSr (a.st)))]])∧H 3=(bk 1 29 6 [[(iV (b.i)),(iV (b.tm)),(iV (b.s)),(aB b.nx),(aB b.ot),(V.sl (List.map cSr (b.st)))]])∧(H 8).ver=v8∧H 10=(⟨0,false,false,0,0,[]⟩:Blk)∧H 12=(⟨0,false,false,0,0,[]⟩:Blk)∧True) ?_ ?_
 ·
  by_cases g6:(a.i)≠(b.i)
  ·
   refine G_n (edT g6 rfl) (G_n (edT g6 rfl) (G_n (edT g6 rfl) (G_n (edT g6 rfl) (G_n (edT g6 rfl) (aX (edT g6 rfl) rfl ?_)))))
   exact ⟨t2,t3,(bO g6),h2,h3,h8,h10,h12,trivial⟩
  ·
   refine aD (edF g6 rfl) (aP t2 h2 (aD (edF g6 rfl) (aK rfl h2 rfl rfl (aD (edF g6 rfl) (aP t3 h3 (aD (edF g6 rfl) (aK rfl h3 rfl rfl ?_)))))))
   refine aD (edF g6 rfl) (dQ rfl rfl (aW (edF g6 rfl) rfl ?_))
   exact ⟨t2,t3,(bP g6),h2,h3,h8,h10,h12,trivial⟩
 intro T H ⟨t2,t3,t36,h2,h3,h8,h10,h12,_⟩
 refine R_e ?_
 refine aO t36 (fun c7=>?_) fun c7=>?_
 ·
  have d3:a.i≠b.i∨a.tm≠b.tm:=c7
  refine aC (W_r (aA rfl (aA rfl (aA rfl (R_e (aU ?_))))))
  refine uL (@rfl V V.nilsl) (@rfl V (V.bool false)) (@rfl V (iV (15:Int))) (eY ?_) (bU ?_) (aQ ?_)
  · have q:=kE (a:=a) (b:=b) (aDi d1 d2 d3) (by decide)
    rw [q.1]
  · have q:=kE (a:=a) (b:=b) (aDi d1 d2 d3) (by decide)
    exact q.2.1.symm
  · have q:=kE (a:=a) (b:=b) (aDi d1 d2 d3) (by decide)
    exact q.2.2.symm
 have d3: ¬(a.i≠b.i∨a.tm≠b.tm):=c7
 refine aH (W_r (aK t2 h2 rfl rfl (bG (nV a) rfl (aA rfl (eR rfl rfl (eR rfl rfl (cK (i:=10) (n:=0) (m:=4) rfl (congrArg Blk.ver h10) rfl ?_)))))))
 refine mM rfl rfl rfl rfl rfl rfl rfl rfl rfl (aA rfl (R_e (aC (W_r (aA rfl (dQ rfl rfl (R_e ?_)))))))
 refine aO rfl (fun c8=>?_) fun c8=>?_
 ·
  have d4:unE a≠0:=c8
  refine aC (W_r (aA rfl (aA rfl (aA rfl (aA rfl (R_e (aU ?_)))))))
  refine uL (@rfl V V.nilsl) (@rfl V (V.bool false)) (@rfl V (iV (unE a))) (eY ?_) (bU ?_) (aQ ?_)
  · have q:=kE (a:=a) (b:=b) (aEm d1 d2 d3 d4) d4
    rw [q.1]
  · have q:=kE (a:=a) (b:=b) (aEm d1 d2 d3 d4) d4
    exact q.2.1.symm
  · have q:=kE (a:=a) (b:=b) (aEm d1 d2 d3 d4) d4
    exact q.2.2.symm
 have d4:unE a=0:=Decidable.not_not.1 c8
 refine aH (W_r (aK t3 h3 rfl rfl (bG (nV b) rfl (aA rfl (eR rfl rfl (eR rfl rfl (cK (i:=12) (n:=0) (m:=4) rfl (congrArg Blk.ver h12) rfl ?_)))))))
 refine mM rfl rfl rfl rfl rfl rfl rfl rfl rfl (aA rfl (R_e (aC (W_r (aA rfl (dQ rfl rfl (R_e ?_)))))))
 refine aO rfl (fun c9=>?_) fun c9=>?_
 ·
  have d5:unE b≠0:=c9
  refine aC (W_r (aA rfl (aA rfl (aA rfl (aA rfl (R_e (aU ?_)))))))
  refine uL (@rfl V V.nilsl) (@rfl V (V.bool false)) (@rfl V (iV (unE b))) (eY ?_) (bU ?_) (aQ ?_)
  · have q:=kE (a:=a) (b:=b) (aBm d1 d2 d3 d4) d5
    rw [q.1]
  · have q:=kE (a:=a) (b:=b) (aBm d1 d2 d3 d4) d5
    exact q.2.1.symm
  · have q:=kE (a:=a) (b:=b) (aBm d1 d2 d3 d4) d5
    exact q.2.2.symm
 have d5:unE b=0:=Decidable.not_not.1 c9
 have hq:tmQ a b=0:=(aBm d1 d2 d3 d4).trans d5
 refine aH ?_
 refine hY (fun T H=>T 4=(aS (aAV ((unM a)) ((unM b))))∧T 5=(V.bool (aAY ((unM a)) ((unM b))))∧T 6=(iV (lK ((unM a)) ((unM b))))∧H 2=(bk 1 29 6 [[(iV (a.i)),(iV (a.tm)),(iV (a.s)),(aB a.nx),(aB a.ot),(V.sl (List.map cSr (a.st)))]])∧H 3=(bk 1 29 6 [[(iV (b.i)),(iV (b.tm)),(iV (b.s)),(aB b.nx),(aB b.ot),(V.sl (List.map cSr (b.st)))]])∧(H 8).ver=v8∧H 10=(bk 1 24 4 [[(iV ((unM a).i)),(iV ((unM a).s)),(aB ((unM a).nx)),(aB ((unM a).ot))]])∧H 12=(bk 1 24 4 [[(iV ((unM b).i)),(iV ((unM b).s)),(aB ((unM b).nx)),(aB ((unM b).ot))]])∧True) ?_ ?_
 ·
  refine aK rfl rfl rfl rfl (aK rfl rfl rfl rfl (bG (aDf ((unM a)) ((unM b))) rfl (eR rfl rfl (eR rfl rfl (eR rfl rfl (aA rfl (aA rfl ?_)))))))
  refine aA rfl ?_
  exact iK ⟨rfl,rfl,rfl,h2,h3,h8,rfl,rfl,trivial⟩
 intro T H ⟨t4,t5,t6,h2,h3,h8,h10,h12,_⟩
 refine bK ?_
 refine uL t4 t5 t6 (aBz ?_ (fun _=>by simp)) (bU ?_) (aQ ?_)
 · rw [(vX hq).1]
 · exact (vX hq).2.1.symm
 · exact (vX hq).2.2.symm
def aSM:List SO:=[
 qL 26 6 3,
 qM 27 1,
 qM 28 2,
 sO 29 (.call false 51 [.t 26,.t 27,.t 28]),
 qM 25 29,
 qE 30 25 0,
 qE 31 25 1,
 qM 9 30,
 qM 10 31]
def aSP:List SO:=[
 qF 35 2 3,
 ql 36 35,
 qF 37 1 3,
 ql 38 37,
 qF 41 1 3,
 ql 42 41,
 sO 39 (.mks 4 1 1 [.bool false] (.t 38) (.t 38)),
 sO 40 (.build [.int .i64 0,.nilsl] [(0,1,.t 36),(1,1,.t 39)]),
 sO 43 (.mks 3 1 8 [.int .i64 0] (.t 42) (.t 42)),
 sO 44 (.build [.int .i64 0,.nilsl,.nilsl] [(0,2,.t 40),(2,1,.t 43)]),
 sO 12 (.alloc 107 [.int .i64 0,.nilsl,.nilsl]),
 sN (.store 3 (.t 12) (.t 44))]
def aOr:List SO:=[
 qL 69 6 3,
 qL 70 3 12,
 qF 71 0 3,
 ql 72 71,
 qM 73 15,
 qP 74 .add 72 73,
 qF 75 2 12,
 ql 76 75,
 qM 77 15,
 qA 78 1 76 77,
 ql 79 78,
 sO 80 (.call false 53 [.t 69,.t 70,.t 74,.t 79]),
 qM 68 80,
 qE 81 68 0,
 qE 82 68 1,
 sO 16 (.alloc 107 [.int .i64 0,.nilsl,.nilsl]),
 sO 17 (.alloc 110 [.int .i64 0,.int .i64 0,.int .i64 0]),
 sN (.store 3 (.t 16) (.t 81)),
 sN (.store 3 (.t 17) (.t 82))]
def aLJ:SC:=.seq (.seq (.reg [qM 63 15,qC 64 .geq 63 0]) (.cond (.t 64) (.skip) (.exit 2))) (.seq (.block 3 (.seq (.dreg [16,17] aOr) (.seq (.reg [qL 83 3 16,sN (.store 3 (.t 12) (.t 83))]) (.seq (.reg [qM 84 11,qL 85 3 17,sO 86 (.bslice 110 3 false [.int .i64 0,.int .i64 0,.int .i64 0] 1 [(0,.t 85)]),sO 87 (.append 110 3 24 (.t 84) (.t 86)),qM 11 87]) (.seq (.reg [qM 88 11,qN 89 88,qC 90 .gtr 89 10000]) (.cond (.t 90) (.seq (.reg [sO 6 (.mv (.c (.nilsl))),qI 7 11]) (.ret)) (.skip))))))) (.reg [qL 65 3 12,qM 66 14,sO 67 (.call false 52 [.t 65,.t 66]),qM 15 67]))
def aM2:List SO:=[
 qL 96 6 3,
 qL 97 3 12,
 qM 98 1,
 qM 99 13,
 qA 100 2 98 99,
 qF 101 1 100,
 ql 102 101,
 qM 103 14,
 sO 104 (.call false 53 [.t 96,.t 97,.t 102,.t 103]),
 qM 95 104,
 qE 105 95 0,
 qE 106 95 1,
 sO 18 (.alloc 107 [.int .i64 0,.nilsl,.nilsl]),
 sO 19 (.alloc 110 [.int .i64 0,.int .i64 0,.int .i64 0]),
 sN (.store 3 (.t 18) (.t 105)),
 sN (.store 3 (.t 19) (.t 106))]
def aLf:SC:=.seq (.seq (.reg [qM 45 13,qM 46 1,qN 47 46,qP 48 .leq 45 47]) (.cond (.t 48) (.skip) (.exit 0))) (.seq (.block 1 (.seq (.reg [qM 51 2,qM 14 51]) (.seq (.seq (.reg [qM 52 13,qM 53 1,qN 54 53,qP 55 .lss 52 54]) (.cond (.t 55) (.reg [qM 56 9,qM 57 13,qA 58 1 56 57,ql 59 58,qM 14 59]) (.skip))) (.seq (.seq (.reg [qL 60 3 12,qM 61 14,sO 62 (.call false 52 [.t 60,.t 61]),qM 15 62]) (.block 2 (.loop aLJ))) (.seq (.reg [qM 91 13,qM 92 1,qN 93 92,qP 94 .lss 91 93]) (.cond (.t 94) (.seq (.dreg [18,19] aM2) (.seq (.reg [qL 107 3 18,sN (.store 3 (.t 12) (.t 107))]) (.seq (.reg [qM 108 11,qL 109 3 19,sO 110 (.bslice 110 3 false [.int .i64 0,.int .i64 0,.int .i64 0] 1 [(0,.t 109)]),sO 111 (.append 110 3 24 (.t 108) (.t 110)),qM 11 111]) (.seq (.reg [qM 112 11,qN 113 112,qC 114 .gtr 113 10000]) (.cond (.t 114) (.seq (.reg [sO 6 (.mv (.c (.nilsl))),qI 7 11]) (.ret)) (.skip)))))) (.skip))))))) (.reg [qM 49 13,qC 50 .add 49 1,qM 13 50]))
def s24:SF:=⟨116,[.tmp 6,.tmp 7],.seq (.reg [sO 3 (.box 29 6 (.t 0)),sO 6 (.mv (.c (.nilsl))),qI 7 0]) (.seq (.seq (.reg [qL 20 6 3,sO 21 (.call false 26 [.t 20]),qM 8 21]) (.seq (.reg [qM 22 8,qC 23 .neq 22 0]) (.cond (.t 23) (.seq (.reg [qM 24 8,sO 6 (.mv (.c (.nilsl))),qM 7 24]) (.ret)) (.skip)))) (.seq (.reg aSM) (.seq (.seq (.reg [qM 32 10,qC 33 .neq 32 0]) (.cond (.t 33) (.seq (.reg [qM 34 10,sO 6 (.mv (.c (.nilsl))),qM 7 34]) (.ret)) (.skip))) (.seq (.reg [sO 11 (.lazy 110 3)]) (.seq (.dreg [39,43,12] aSP) (.seq (.seq (.reg [qI 13 0]) (.block 0 (.loop aLf))) (.seq (.reg [qM 115 11,qM 6 115,qI 7 0]) (.ret))))))))⟩
theorem aOh:aL Tryz.prog ⟨[58,129,130,131,149,155,161,182,183,185,191,192,208,209,210,224,228,231,236],[11],[],[]⟩ Tryz.f24=some s24:=by kernel_rfl
def aSZ:List SO:=[
 qF 7 0 1,
 ql 8 7,
 qC 9 .lss 8 1,
 qM 10 9,
 ⟨some (10,false),some 11,.fld 0 (.t 1)⟩,
 ⟨some (10,false),some 12,.load false 1 (.t 11)⟩,
 ⟨some (10,false),some 13,.bin .gtr (.t 12) (.c (.int .i64 64))⟩,
 sO 14 (.pick (.t 10) (.c (.bool true)) (.t 13)),
 qM 15 14,
 ⟨some (15,false),some 16,.fld 1 (.t 1)⟩,
 ⟨some (15,false),some 17,.load false 1 (.t 16)⟩,
 ⟨some (15,false),some 18,.bin .lss (.t 17) (.c (.int .i64 0))⟩,
 sO 19 (.pick (.t 15) (.c (.bool true)) (.t 18)),
 qM 20 19,
 ⟨some (20,false),some 21,.fld 1 (.t 1)⟩,
 ⟨some (20,false),some 22,.load false 1 (.t 21)⟩,
 ⟨some (20,false),some 23,.bin .gtr (.t 22) (.c (.int .i64 4))⟩,
 sO 24 (.pick (.t 20) (.c (.bool true)) (.t 23))]
def aOE:List SO:=[
 qF 40 2 1,
 ql 41 40,
 qC 42 .lss 41 0,
 qM 43 42,
 ⟨some (43,false),some 44,.fld 2 (.t 1)⟩,
 ⟨some (43,false),some 45,.load false 1 (.t 44)⟩,
 ⟨some (43,false),some 46,.fld 3 (.t 1)⟩,
 ⟨some (43,false),some 47,.load false 1 (.t 46)⟩,
 ⟨some (43,false),some 48,.len (.t 47)⟩,
 ⟨some (43,false),some 49,.bin .geq (.t 45) (.t 48)⟩,
 sO 50 (.pick (.t 43) (.c (.bool true)) (.t 49))]
def aNv:List SO:=[
 qF 51 4 1,
 ql 52 51,
 qN 53 52,
 qF 54 3 1,
 ql 55 54,
 qN 56 55,
 qP 57 .neq 53 56,
 qM 58 57,
 ⟨some (58,false),some 59,.fld 5 (.t 1)⟩,
 ⟨some (58,false),some 60,.load false 1 (.t 59)⟩,
 ⟨some (58,false),some 61,.len (.t 60)⟩,
 ⟨some (58,false),some 62,.fld 3 (.t 1)⟩,
 ⟨some (58,false),some 63,.load false 1 (.t 62)⟩,
 ⟨some (58,false),some 64,.len (.t 63)⟩,
 ⟨some (58,false),some 65,.bin .neq (.t 61) (.t 64)⟩,
 sO 66 (.pick (.t 58) (.c (.bool true)) (.t 65))]
def aN8:List SO:=[
 qF 74 3 1,
 ql 75 74,
 qM 76 4,
 qA 77 1 75 76,
 ql 78 77,
 qN 79 78,
 qM 80 3,
 qP 81 .neq 79 80,
 qM 82 81,
 ⟨some (82,false),some 83,.fld 4 (.t 1)⟩,
 ⟨some (82,false),some 84,.load false 1 (.t 83)⟩,
 ⟨some (82,false),some 85,.mv (.t 4)⟩,
 ⟨some (82,false),some 86,.idx 1 (.t 84) (.t 85)⟩,
 ⟨some (82,false),some 87,.load false 1 (.t 86)⟩,
 ⟨some (82,false),some 88,.len (.t 87)⟩,
 ⟨some (82,false),some 89,.mv (.t 3)⟩,
 ⟨some (82,false),some 90,.bin .neq (.t 88) (.t 89)⟩,
 sO 91 (.pick (.t 82) (.c (.bool true)) (.t 90)),
 qM 92 91,
 ⟨some (92,false),some 93,.fld 5 (.t 1)⟩,
 ⟨some (92,false),some 94,.load false 1 (.t 93)⟩,
 ⟨some (92,false),some 95,.mv (.t 4)⟩,
 ⟨some (92,false),some 96,.idx 1 (.t 94) (.t 95)⟩,
 ⟨some (92,false),some 97,.load false 1 (.t 96)⟩,
 ⟨some (92,false),some 98,.len (.t 97)⟩,
 ⟨some (92,false),some 99,.mv (.t 3)⟩,
 ⟨some (92,false),some 100,.bin .neq (.t 98) (.t 99)⟩,
 sO 101 (.pick (.t 92) (.c (.bool true)) (.t 100))]
def aK2:SC:=.seq (.seq (.reg [qM 102 5,qM 103 3,qP 104 .lss 102 103]) (.cond (.t 104) (.skip) (.exit 2))) (.seq (.block 3 (.seq (.reg [qL 107 6 1,qM 108 4,qM 109 5,sO 110 (.call false 54 [.t 107,.t 108,.t 109]),qM 6 110]) (.seq (.reg [qM 111 6,qC 112 .neq 111 0]) (.cond (.t 112) (.seq (.reg [qM 113 6,qM 2 113]) (.ret)) (.skip))))) (.reg [qM 105 5,qC 106 .add 105 1,qM 5 106]))
def aLO:SC:=.seq (.seq (.reg [qM 67 4,qF 68 3 1,ql 69 68,qN 70 69,qP 71 .lss 67 70]) (.cond (.t 71) (.skip) (.exit 0))) (.seq (.block 1 (.seq (.seq (.reg aN8) (.cond (.t 101) (.seq (.reg [qI 2 1]) (.ret)) (.skip))) (.seq (.reg [qI 5 0]) (.block 2 (.loop aK2))))) (.reg [qM 72 4,qC 73 .add 72 1,qM 4 73]))
def s26:SF:=⟨114,[.tmp 2],.seq (.reg [sO 1 (.box 29 6 (.t 0)),qI 2 0]) (.seq (.seq (.reg aSZ) (.cond (.t 24) (.seq (.reg [qI 2 2]) (.ret)) (.skip))) (.seq (.reg [qF 25 0 1,ql 26 25,qF 27 1 1,ql 28 27,qP 29 .add 26 28,qM 3 29]) (.seq (.seq (.reg [qM 30 3,qC 31 .gtr 30 64]) (.cond (.t 31) (.seq (.reg [qI 2 11]) (.ret)) (.skip))) (.seq (.seq (.reg [qF 32 3 1,ql 33 32,qN 34 33,qC 35 .eql 34 0]) (.cond (.t 35) (.seq (.reg [qI 2 19]) (.ret)) (.skip))) (.seq (.seq (.reg [qF 36 3 1,ql 37 36,qN 38 37,qC 39 .gtr 38 128]) (.cond (.t 39) (.seq (.reg [qI 2 11]) (.ret)) (.skip))) (.seq (.seq (.reg aOE) (.cond (.t 50) (.seq (.reg [qI 2 2]) (.ret)) (.skip))) (.seq (.seq (.reg aNv) (.cond (.t 66) (.seq (.reg [qI 2 1]) (.ret)) (.skip))) (.seq (.seq (.reg [qI 4 0]) (.block 0 (.loop aLO))) (.seq (.reg [qI 2 0]) (.ret))))))))))⟩
theorem aM3:aL Tryz.prog ⟨[58,129,130,131,149,155,161,182,183,185,191,192,208,209,210,224,228,231,236],[],[],[]⟩ Tryz.f26=some s26:=by kernel_rfl
def aRP:List SO:=[
 qF 8 5 3,
 ql 9 8,
 qM 10 1,
 qA 11 1 9 10,
 ql 12 11,
 qM 13 2,
 qA 14 2 12 13,
 qL 15 2 14,
 sO 7 (.alloc 73 [.int .i64 0,.int .i64 0]),
 sN (.store 2 (.t 7) (.t 15))]
def aSB:List SO:=[
 qF 16 3 3,
 ql 17 16,
 qM 18 1,
 qA 19 1 17 18,
 ql 20 19,
 qM 21 2,
 qA 22 1 20 21,
 ql 23 22,
 qC 24 .lss 23 0,
 qM 25 24,
 ⟨some (25,false),some 26,.fld 3 (.t 3)⟩,
 ⟨some (25,false),some 27,.load false 1 (.t 26)⟩,
 ⟨some (25,false),some 28,.mv (.t 1)⟩,
 ⟨some (25,false),some 29,.idx 1 (.t 27) (.t 28)⟩,
 ⟨some (25,false),some 30,.load false 1 (.t 29)⟩,
 ⟨some (25,false),some 31,.mv (.t 2)⟩,
 ⟨some (25,false),some 32,.idx 1 (.t 30) (.t 31)⟩,
 ⟨some (25,false),some 33,.load false 1 (.t 32)⟩,
 ⟨some (25,false),some 34,.fld 3 (.t 3)⟩,
 ⟨some (25,false),some 35,.load false 1 (.t 34)⟩,
 ⟨some (25,false),some 36,.len (.t 35)⟩,
 ⟨some (25,false),some 37,.bin .geq (.t 33) (.t 36)⟩,
 sO 38 (.pick (.t 25) (.c (.bool true)) (.t 37)),
 qM 39 38,
 ⟨some (39,false),some 40,.fld 4 (.t 3)⟩,
 ⟨some (39,false),some 41,.load false 1 (.t 40)⟩,
 ⟨some (39,false),some 42,.mv (.t 1)⟩,
 ⟨some (39,false),some 43,.idx 1 (.t 41) (.t 42)⟩,
 ⟨some (39,false),some 44,.load false 1 (.t 43)⟩,
 ⟨some (39,false),some 45,.mv (.t 2)⟩,
 ⟨some (39,false),some 46,.idx 1 (.t 44) (.t 45)⟩,
 ⟨some (39,false),some 47,.load false 1 (.t 46)⟩,
 ⟨some (39,false),some 48,.bin .lss (.t 47) (.c (.int .i64 0))⟩,
 sO 49 (.pick (.t 39) (.c (.bool true)) (.t 48)),
 qM 50 49,
 ⟨some (50,false),some 51,.fld 4 (.t 3)⟩,
 ⟨some (50,false),some 52,.load false 1 (.t 51)⟩,
 ⟨some (50,false),some 53,.mv (.t 1)⟩,
 ⟨some (50,false),some 54,.idx 1 (.t 52) (.t 53)⟩,
 ⟨some (50,false),some 55,.load false 1 (.t 54)⟩,
 ⟨some (50,false),some 56,.mv (.t 2)⟩,
 ⟨some (50,false),some 57,.idx 1 (.t 55) (.t 56)⟩,
 ⟨some (50,false),some 58,.load false 1 (.t 57)⟩,
 ⟨some (50,false),some 59,.bin .gtr (.t 58) (.c (.int .i64 1048576))⟩,
 sO 60 (.pick (.t 50) (.c (.bool true)) (.t 59))]
def aRZ:List SO:=[
 qF 61 0 7,
 ql 62 61,
 sO 63 (.bin .lss (.t 62) (.c (.int .i64 (-1)))),
 qM 64 63,
 ⟨some (64,false),some 65,.fld 0 (.t 7)⟩,
 ⟨some (64,false),some 66,.load false 1 (.t 65)⟩,
 ⟨some (64,false),some 67,.fld 1 (.t 3)⟩,
 ⟨some (64,false),some 68,.load false 1 (.t 67)⟩,
 ⟨some (64,false),some 69,.bin .geq (.t 66) (.t 68)⟩,
 sO 70 (.pick (.t 64) (.c (.bool true)) (.t 69)),
 qM 71 70,
 ⟨some (71,false),some 72,.fld 1 (.t 7)⟩,
 ⟨some (71,false),some 73,.load false 1 (.t 72)⟩,
 ⟨some (71,false),some 74,.bin .lss (.t 73) (.c (.int .i64 0))⟩,
 sO 75 (.pick (.t 71) (.c (.bool true)) (.t 74)),
 qM 76 75,
 ⟨some (76,false),some 77,.fld 1 (.t 7)⟩,
 ⟨some (76,false),some 78,.load false 1 (.t 77)⟩,
 ⟨some (76,false),some 79,.bin .gtr (.t 78) (.c (.int .i64 1000))⟩,
 sO 80 (.pick (.t 76) (.c (.bool true)) (.t 79))]
def aSI:List SO:=[
 qF 81 0 7,
 ql 82 81,
 sO 83 (.bin .eql (.t 82) (.c (.int .i64 (-1)))),
 qM 84 83,
 ⟨some (84,true),some 85,.fld 1 (.t 7)⟩,
 ⟨some (84,true),some 86,.load false 1 (.t 85)⟩,
 ⟨some (84,true),some 87,.bin .neq (.t 86) (.c (.int .i64 0))⟩,
 sO 88 (.pick (.t 84) (.t 87) (.c (.bool false)))]
def s54:SF:=⟨89,[.tmp 6],.seq (.reg [sO 3 (.box 29 6 (.t 0)),qI 6 0]) (.seq (.reg aRP) (.seq (.seq (.reg aSB) (.cond (.t 60) (.seq (.reg [qI 6 2]) (.ret)) (.skip))) (.seq (.seq (.reg aRZ) (.cond (.t 80) (.seq (.reg [qI 6 2]) (.ret)) (.skip))) (.seq (.seq (.reg aSI) (.cond (.t 88) (.seq (.reg [qI 6 1]) (.ret)) (.skip))) (.seq (.reg [qI 6 0]) (.ret))))))⟩
theorem aQU:aL Tryz.prog ⟨[58,129,130,131,149,155,161,182,183,185,191,192,208,209,210,224,228,231,236],[],[],[]⟩ Tryz.f54=some s54:=by kernel_rfl
theorem aFE (t:TM) (s i:Nat) (hs:s < t.nx.length∧s < t.ot.length∧s < t.st.length) (hi:i < (nth t.nx s).length∧i < (nth t.ot s).length∧i < (nth t.st s).length):bB Tryz.prog 54 [(V.agg [(iV (t.i)),(iV (t.tm)),(iV (t.s)),(aB t.nx),(aB t.ot),(V.sl (List.map cSr (t.st)))]),(iV ((s:Nat):Int)),(iV ((i:Nat):Int))] (iV (mA t s i)):=by
 refine pW Tryz.func54 aQU fun hB=>?_
 unfold s54
 dsimp only
 refine W_r (eT (i:=3) (n:=0) (m:=6) (cs:=[(iV (t.i)),(iV (t.tm)),(iV (t.s)),(aB t.nx),(aB t.ot),(V.sl (List.map cSr (t.st)))]) rfl (congrArg Blk.ver rfl) rfl rfl rfl (aA rfl (R_e (W_r (aP rfl rfl (aK rfl rfl rfl rfl (aA rfl ?_)))))))
 refine bL (i:=s) (@rfl V (V.sl (List.map cSr (t.st)))) (@rfl V (iV ((s:Nat):Int))) (by omega) rfl (aJ rfl rfl (aA rfl (bL (i:=i) (@rfl V (V.sl (List.map cSg ((nth (t.st) (s)))))) (@rfl V (iV ((i:Nat):Int))) (by omega) rfl (aJ rfl rfl (cK (i:=7) (n:=0) (m:=2) rfl (congrArg Blk.ver rfl) rfl (mM rfl rfl rfl rfl rfl rfl rfl rfl rfl (R_e ?_)))))))
 refine aC ?_
 refine hY (fun T H=>T 3=(V.mp 3 1 0 0)∧T 7=(V.mp 7 1 0 0)∧T 60=(V.bool (decide ((((((nth ((nth (t.nx) (s))) (i))) < (0:Int))∨(((t.nx.length:Nat):Int)≤((nth ((nth (t.nx) (s))) (i)))))∨(((nth ((nth (t.ot) (s))) (i))) < (0:Int)))∨((1048576:Int) < ((nth ((nth (t.ot) (s))) (i)))))))∧H 3=(bk 1 29 6 [[(iV (t.i)),(iV (t.tm)),(iV (t.s)),(aB t.nx),(aB t.ot),(V.sl (List.map cSr (t.st)))]])∧H 7=(bk 1 73 2 [[(iV (((nth ((nth (t.st) (s))) (i))).1)),(iV (((nth ((nth (t.st) (s))) (i))).2))]])∧True) ?_ ?_
 ·
  refine aP rfl rfl (aK rfl rfl rfl rfl (aA rfl (bL (i:=s) (@rfl V (aB t.nx)) (@rfl V (iV ((s:Nat):Int))) (by omega) rfl (aJ rfl rfl (aA rfl (bL (i:=i) (@rfl V (aS ((nth (t.nx) (s))))) (@rfl V (iV ((i:Nat):Int))) (by omega) rfl (aJ rfl rfl ?_)))))))
  refine bR rfl rfl (aA rfl ?_)
  refine aV 13 (fun T H=>T 1=(iV ((s:Nat):Int))∧T 2=(iV ((i:Nat):Int))∧T 3=(V.mp 3 1 0 0)∧T 7=(V.mp 7 1 0 0)∧T 38=(V.bool (decide ((((nth ((nth (t.nx) (s))) (i))) < (0:Int))∨(((t.nx.length:Nat):Int)≤((nth ((nth (t.nx) (s))) (i)))))))∧H 3=(bk 1 29 6 [[(iV (t.i)),(iV (t.tm)),(iV (t.s)),(aB t.nx),(aB t.ot),(V.sl (List.map cSr (t.st)))]])∧H 7=(bk 1 73 2 [[(iV (((nth ((nth (t.st) (s))) (i))).1)),(iV (((nth ((nth (t.st) (s))) (i))).2))]])∧True) ?_ ?_
  ·
   by_cases g1:((nth ((nth (t.nx) (s))) (i))) < (0:Int)
   ·
    refine G_n (edT g1 rfl) (G_n (edT g1 rfl) (G_n (edT g1 rfl) (G_n (edT g1 rfl) (G_n (edT g1 rfl) (G_n (edT g1 rfl) (G_n (edT g1 rfl) (G_n (edT g1 rfl) ?_)))))))
    refine G_n (edT g1 rfl) (G_n (edT g1 rfl) (G_n (edT g1 rfl) (G_n (edT g1 rfl) (aX (edT g1 rfl) rfl ?_))))
    exact ⟨rfl,rfl,rfl,rfl,(bO g1),rfl,rfl,trivial⟩
   ·
    refine aD (edF g1 rfl) (aP rfl rfl (aD (edF g1 rfl) (aK rfl rfl rfl rfl (aD (edF g1 rfl) (aA rfl (aD (edF g1 rfl) (bL (i:=s) (@rfl V (aB t.nx)) (@rfl V (iV ((s:Nat):Int))) (by omega) rfl ?_)))))))
    refine aD (edF g1 rfl) (aJ rfl rfl (aD (edF g1 rfl) (aA rfl (aD (edF g1 rfl) (bL (i:=i) (@rfl V (aS ((nth (t.nx) (s))))) (@rfl V (iV ((i:Nat):Int))) (by omega) rfl (aD (edF g1 rfl) (aJ rfl rfl ?_)))))))
    refine aD (edF g1 rfl) (aP rfl rfl (aD (edF g1 rfl) (aK rfl rfl rfl rfl (aD (edF g1 rfl) (bN rfl (aD (edF g1 rfl) (jL rfl rfl ?_)))))))
    refine aW (edF g1 rfl) rfl ?_
    exact ⟨rfl,rfl,rfl,rfl,(bP g1),rfl,rfl,trivial⟩
  intro T H ⟨t1,t2,t3,t7,t38,h3,h7,_⟩
  refine aA t38 ?_
  refine aV 10 (fun T H=>T 1=(iV ((s:Nat):Int))∧T 2=(iV ((i:Nat):Int))∧T 3=(V.mp 3 1 0 0)∧T 7=(V.mp 7 1 0 0)∧T 49=(V.bool (decide (((((nth ((nth (t.nx) (s))) (i))) < (0:Int))∨(((t.nx.length:Nat):Int)≤((nth ((nth (t.nx) (s))) (i)))))∨(((nth ((nth (t.ot) (s))) (i))) < (0:Int)))))∧H 3=(bk 1 29 6 [[(iV (t.i)),(iV (t.tm)),(iV (t.s)),(aB t.nx),(aB t.ot),(V.sl (List.map cSr (t.st)))]])∧H 7=(bk 1 73 2 [[(iV (((nth ((nth (t.st) (s))) (i))).1)),(iV (((nth ((nth (t.st) (s))) (i))).2))]])∧True) ?_ ?_
  ·
   by_cases g2:(((nth ((nth (t.nx) (s))) (i))) < (0:Int))∨(((t.nx.length:Nat):Int)≤((nth ((nth (t.nx) (s))) (i))))
   ·
    refine G_n (edT g2 rfl) (G_n (edT g2 rfl) (G_n (edT g2 rfl) (G_n (edT g2 rfl) (G_n (edT g2 rfl) (G_n (edT g2 rfl) (G_n (edT g2 rfl) (G_n (edT g2 rfl) ?_)))))))
    refine G_n (edT g2 rfl) (aX (edT g2 rfl) rfl ?_)
    exact ⟨t1,t2,t3,t7,(bO g2),h3,h7,trivial⟩
   ·
    refine aD (edF g2 rfl) (aP t3 h3 (aD (edF g2 rfl) (aK rfl h3 rfl rfl (aD (edF g2 rfl) (aA t1 (aD (edF g2 rfl) (bL (i:=s) (@rfl V (aB t.ot)) (@rfl V (iV ((s:Nat):Int))) (by omega) rfl ?_)))))))
    refine aD (edF g2 rfl) (aJ rfl rfl (aD (edF g2 rfl) (aA t2 (aD (edF g2 rfl) (bL (i:=i) (@rfl V (aS ((nth (t.ot) (s))))) (@rfl V (iV ((i:Nat):Int))) (by omega) rfl (aD (edF g2 rfl) (aJ rfl rfl ?_)))))))
    refine aD (edF g2 rfl) (bR rfl rfl (aW (edF g2 rfl) rfl ?_))
    exact ⟨t1,t2,t3,t7,(bP g2),h3,h7,trivial⟩
  intro T H ⟨t1,t2,t3,t7,t49,h3,h7,_⟩
  refine aA t49 ?_
  refine aV 10 (fun T H=>T 3=(V.mp 3 1 0 0)∧T 7=(V.mp 7 1 0 0)∧T 60=(V.bool (decide ((((((nth ((nth (t.nx) (s))) (i))) < (0:Int))∨(((t.nx.length:Nat):Int)≤((nth ((nth (t.nx) (s))) (i)))))∨(((nth ((nth (t.ot) (s))) (i))) < (0:Int)))∨((1048576:Int) < ((nth ((nth (t.ot) (s))) (i)))))))∧H 3=(bk 1 29 6 [[(iV (t.i)),(iV (t.tm)),(iV (t.s)),(aB t.nx),(aB t.ot),(V.sl (List.map cSr (t.st)))]])∧H 7=(bk 1 73 2 [[(iV (((nth ((nth (t.st) (s))) (i))).1)),(iV (((nth ((nth (t.st) (s))) (i))).2))]])∧True) ?_ ?_
  ·
   by_cases g3:((((nth ((nth (t.nx) (s))) (i))) < (0:Int))∨(((t.nx.length:Nat):Int)≤((nth ((nth (t.nx) (s))) (i)))))∨(((nth ((nth (t.ot) (s))) (i))) < (0:Int))
   ·
    refine G_n (edT g3 rfl) (G_n (edT g3 rfl) (G_n (edT g3 rfl) (G_n (edT g3 rfl) (G_n (edT g3 rfl) (G_n (edT g3 rfl) (G_n (edT g3 rfl) (G_n (edT g3 rfl) ?_)))))))
    refine G_n (edT g3 rfl) (aX (edT g3 rfl) rfl ?_)
    exact ⟨t3,t7,(bO g3),h3,h7,trivial⟩
   ·
    refine aD (edF g3 rfl) (aP t3 h3 (aD (edF g3 rfl) (aK rfl h3 rfl rfl (aD (edF g3 rfl) (aA t1 (aD (edF g3 rfl) (bL (i:=s) (@rfl V (aB t.ot)) (@rfl V (iV ((s:Nat):Int))) (by omega) rfl ?_)))))))
    refine aD (edF g3 rfl) (aJ rfl rfl (aD (edF g3 rfl) (aA t2 (aD (edF g3 rfl) (bL (i:=i) (@rfl V (aS ((nth (t.ot) (s))))) (@rfl V (iV ((i:Nat):Int))) (by omega) rfl (aD (edF g3 rfl) (aJ rfl rfl ?_)))))))
    refine aD (edF g3 rfl) (eU rfl rfl (aW (edF g3 rfl) rfl ?_))
    exact ⟨t3,t7,(bP g3),h3,h7,trivial⟩
  intro T H ⟨t3,t7,t60,h3,h7,_⟩
  exact iK ⟨t3,t7,t60,h3,h7,trivial⟩
 intro T H ⟨t3,t7,t60,h3,h7,_⟩
 refine aO t60 (fun c4=>?_) fun c4=>?_
 ·
  refine aC (W_r (aA rfl (R_e (aU ?_))))
  refine bH (@rfl V (iV (2:Int))) (aQ ?_)
  · unfold mA tSt; rw [if_pos (by omega)]
 refine aH (aC (W_r (aP t7 h7 (aK rfl h7 rfl rfl (bR rfl rfl (aA rfl ?_))))))
 refine aV 6 (fun T H=>T 7=(V.mp 7 1 0 0)∧T 70=(V.bool (decide (((((nth ((nth (t.st) (s))) (i))).1) < (-1:Int))∨((t.tm)≤(((nth ((nth (t.st) (s))) (i))).1)))))∧H 3=(bk 1 29 6 [[(iV (t.i)),(iV (t.tm)),(iV (t.s)),(aB t.nx),(aB t.ot),(V.sl (List.map cSr (t.st)))]])∧H 7=(bk 1 73 2 [[(iV (((nth ((nth (t.st) (s))) (i))).1)),(iV (((nth ((nth (t.st) (s))) (i))).2))]])∧True) ?_ ?_
 ·
  by_cases g5:(((nth ((nth (t.st) (s))) (i))).1) < (-1:Int)
  ·
   refine G_n (edT g5 rfl) (G_n (edT g5 rfl) (G_n (edT g5 rfl) (G_n (edT g5 rfl) (G_n (edT g5 rfl) (aX (edT g5 rfl) rfl ?_)))))
   exact ⟨t7,(bO g5),h3,h7,trivial⟩
  ·
   refine aD (edF g5 rfl) (aP t7 h7 (aD (edF g5 rfl) (aK rfl h7 rfl rfl (aD (edF g5 rfl) (aP t3 h3 (aD (edF g5 rfl) (aK rfl h3 rfl rfl ?_)))))))
   refine aD (edF g5 rfl) (jL rfl rfl (aW (edF g5 rfl) rfl ?_))
   exact ⟨t7,(bP g5),h3,h7,trivial⟩
 intro T H ⟨t7,t70,h3,h7,_⟩
 refine aA t70 ?_
 refine aV 4 (fun T H=>T 7=(V.mp 7 1 0 0)∧T 75=(V.bool (decide ((((((nth ((nth (t.st) (s))) (i))).1) < (-1:Int))∨((t.tm)≤(((nth ((nth (t.st) (s))) (i))).1)))∨((((nth ((nth (t.st) (s))) (i))).2) < (0:Int)))))∧H 3=(bk 1 29 6 [[(iV (t.i)),(iV (t.tm)),(iV (t.s)),(aB t.nx),(aB t.ot),(V.sl (List.map cSr (t.st)))]])∧H 7=(bk 1 73 2 [[(iV (((nth ((nth (t.st) (s))) (i))).1)),(iV (((nth ((nth (t.st) (s))) (i))).2))]])∧True) ?_ ?_
 ·
  by_cases g6:((((nth ((nth (t.st) (s))) (i))).1) < (-1:Int))∨((t.tm)≤(((nth ((nth (t.st) (s))) (i))).1))
  ·
   refine G_n (edT g6 rfl) (G_n (edT g6 rfl) (G_n (edT g6 rfl) (aX (edT g6 rfl) rfl ?_)))
   exact ⟨t7,(bO g6),h3,h7,trivial⟩
  ·
   refine aD (edF g6 rfl) (aP t7 h7 (aD (edF g6 rfl) (aK rfl h7 rfl rfl (aD (edF g6 rfl) (bR rfl rfl (aW (edF g6 rfl) rfl ?_))))))
   exact ⟨t7,(bP g6),h3,h7,trivial⟩
 intro T H ⟨t7,t75,h3,h7,_⟩
 refine aA t75 ?_
 refine aV 4 (fun T H=>T 7=(V.mp 7 1 0 0)∧T 80=(V.bool (decide (((((((nth ((nth (t.st) (s))) (i))).1) < (-1:Int))∨((t.tm)≤(((nth ((nth (t.st) (s))) (i))).1)))∨((((nth ((nth (t.st) (s))) (i))).2) < (0:Int)))∨((1000:Int) < (((nth ((nth (t.st) (s))) (i))).2)))))∧H 3=(bk 1 29 6 [[(iV (t.i)),(iV (t.tm)),(iV (t.s)),(aB t.nx),(aB t.ot),(V.sl (List.map cSr (t.st)))]])∧H 7=(bk 1 73 2 [[(iV (((nth ((nth (t.st) (s))) (i))).1)),(iV (((nth ((nth (t.st) (s))) (i))).2))]])∧True) ?_ ?_
 ·
  by_cases g7:(((((nth ((nth (t.st) (s))) (i))).1) < (-1:Int))∨((t.tm)≤(((nth ((nth (t.st) (s))) (i))).1)))∨((((nth ((nth (t.st) (s))) (i))).2) < (0:Int))
  ·
   refine G_n (edT g7 rfl) (G_n (edT g7 rfl) (G_n (edT g7 rfl) (aX (edT g7 rfl) rfl ?_)))
   exact ⟨t7,(bO g7),h3,h7,trivial⟩
  ·
   refine aD (edF g7 rfl) (aP t7 h7 (aD (edF g7 rfl) (aK rfl h7 rfl rfl (aD (edF g7 rfl) (eU rfl rfl (aW (edF g7 rfl) rfl ?_))))))
   exact ⟨t7,(bP g7),h3,h7,trivial⟩
 intro T H ⟨t7,t80,h3,h7,_⟩
 refine R_e ?_
 refine aO t80 (fun c8=>?_) fun c8=>?_
 ·
  refine aC (W_r (aA rfl (R_e (aU ?_))))
  refine bH (@rfl V (iV (2:Int))) (aQ ?_)
  · unfold mA tSt; rw [if_neg (by omega),if_pos (by omega)]
 refine aH (aC (W_r (aP t7 h7 (aK rfl h7 rfl rfl (kD rfl rfl (aA rfl ?_))))))
 refine aV 4 (fun T H=>T 88=(V.bool (decide (((((nth ((nth (t.st) (s))) (i))).1)=(-1:Int))∧((((nth ((nth (t.st) (s))) (i))).2)≠(0:Int)))))∧H 3=(bk 1 29 6 [[(iV (t.i)),(iV (t.tm)),(iV (t.s)),(aB t.nx),(aB t.ot),(V.sl (List.map cSr (t.st)))]])∧H 7=(bk 1 73 2 [[(iV (((nth ((nth (t.st) (s))) (i))).1)),(iV (((nth ((nth (t.st) (s))) (i))).2))]])∧True) ?_ ?_
 ·
  by_cases g9:(((nth ((nth (t.st) (s))) (i))).1)=(-1:Int)
  ·
   refine aD (edT g9 rfl) (aP t7 h7 (aD (edT g9 rfl) (aK rfl h7 rfl rfl (aD (edT g9 rfl) (dQ rfl rfl (aX (edT g9 rfl) rfl ?_))))))
   exact ⟨(iN g9),h3,h7,trivial⟩
  ·
   refine G_n (edF g9 rfl) (G_n (edF g9 rfl) (G_n (edF g9 rfl) (aW (edF g9 rfl) rfl ?_)))
   exact ⟨(iM g9),h3,h7,trivial⟩
 intro T H ⟨t88,h3,h7,_⟩
 refine R_e ?_
 refine aO t88 (fun c10=>?_) fun c10=>?_
 ·
  refine aC (W_r (aA rfl (R_e (aU ?_))))
  refine bH (@rfl V (iV (1:Int))) (aQ ?_)
  · unfold mA tSt; rw [if_neg (by omega),if_neg (by omega),if_pos (by assumption)]
 refine aH (W_r (aA rfl (R_e (bK ?_))))
 refine bH (@rfl V (iV (0:Int))) (aQ ?_)
 · unfold mA tSt; rw [if_neg (by omega),if_neg (by omega),if_neg (by assumption)]
theorem aAJ (t:TM):bB Tryz.prog 26 [(V.agg [(iV (t.i)),(iV (t.tm)),(iV (t.s)),(aB t.nx),(aB t.ot),(V.sl (List.map cSr (t.st)))])] (iV (cR t)):=by
 refine pW Tryz.func26 aM3 fun hB=>?_
 unfold s26
 dsimp only
 refine W_r (eT (i:=1) (n:=0) (m:=6) (cs:=[(iV (t.i)),(iV (t.tm)),(iV (t.s)),(aB t.nx),(aB t.ot),(V.sl (List.map cSr (t.st)))]) rfl (congrArg Blk.ver rfl) rfl rfl rfl (aA rfl (R_e (aC (W_r (aP rfl rfl (aK rfl rfl rfl rfl ?_)))))))
 refine bR rfl rfl (aA rfl ?_)
 refine aV 4 (fun T H=>T 1=(V.mp 1 1 0 0)∧T 14=(V.bool (decide (((t.i) < (1:Int))∨((64:Int) < (t.i)))))∧H 1=(bk 1 29 6 [[(iV (t.i)),(iV (t.tm)),(iV (t.s)),(aB t.nx),(aB t.ot),(V.sl (List.map cSr (t.st)))]])∧True) ?_ ?_
 ·
  by_cases g1:(t.i) < (1:Int)
  ·
   refine G_n (edT g1 rfl) (G_n (edT g1 rfl) (G_n (edT g1 rfl) (aX (edT g1 rfl) rfl ?_)))
   exact ⟨rfl,(bO g1),rfl,trivial⟩
  ·
   refine aD (edF g1 rfl) (aP rfl rfl (aD (edF g1 rfl) (aK rfl rfl rfl rfl (aD (edF g1 rfl) (eU rfl rfl (aW (edF g1 rfl) rfl ?_))))))
   exact ⟨rfl,(bP g1),rfl,trivial⟩
 intro T H ⟨t1,t14,h1,_⟩
 refine aA t14 ?_
 refine aV 4 (fun T H=>T 1=(V.mp 1 1 0 0)∧T 19=(V.bool (decide ((((t.i) < (1:Int))∨((64:Int) < (t.i)))∨((t.tm) < (0:Int)))))∧H 1=(bk 1 29 6 [[(iV (t.i)),(iV (t.tm)),(iV (t.s)),(aB t.nx),(aB t.ot),(V.sl (List.map cSr (t.st)))]])∧True) ?_ ?_
 ·
  by_cases g2:((t.i) < (1:Int))∨((64:Int) < (t.i))
  ·
   refine G_n (edT g2 rfl) (G_n (edT g2 rfl) (G_n (edT g2 rfl) (aX (edT g2 rfl) rfl ?_)))
   exact ⟨t1,(bO g2),h1,trivial⟩
  ·
   refine aD (edF g2 rfl) (aP t1 h1 (aD (edF g2 rfl) (aK rfl h1 rfl rfl (aD (edF g2 rfl) (bR rfl rfl (aW (edF g2 rfl) rfl ?_))))))
   exact ⟨t1,(bP g2),h1,trivial⟩
 intro T H ⟨t1,t19,h1,_⟩
 refine aA t19 ?_
 refine aV 4 (fun T H=>T 1=(V.mp 1 1 0 0)∧T 24=(V.bool (decide (((((t.i) < (1:Int))∨((64:Int) < (t.i)))∨((t.tm) < (0:Int)))∨((4:Int) < (t.tm)))))∧H 1=(bk 1 29 6 [[(iV (t.i)),(iV (t.tm)),(iV (t.s)),(aB t.nx),(aB t.ot),(V.sl (List.map cSr (t.st)))]])∧True) ?_ ?_
 ·
  by_cases g3:(((t.i) < (1:Int))∨((64:Int) < (t.i)))∨((t.tm) < (0:Int))
  ·
   refine G_n (edT g3 rfl) (G_n (edT g3 rfl) (G_n (edT g3 rfl) (aX (edT g3 rfl) rfl ?_)))
   exact ⟨t1,(bO g3),h1,trivial⟩
  ·
   refine aD (edF g3 rfl) (aP t1 h1 (aD (edF g3 rfl) (aK rfl h1 rfl rfl (aD (edF g3 rfl) (eU rfl rfl (aW (edF g3 rfl) rfl ?_))))))
   exact ⟨t1,(bP g3),h1,trivial⟩
 intro T H ⟨t1,t24,h1,_⟩
 refine R_e ?_
 refine aO t24 (fun c4=>?_) fun c4=>?_
 ·
  refine aC (W_r (aA rfl (R_e (aU ?_))))
  refine bH (@rfl V (iV (2:Int))) (aQ ?_)
  · rw [cR,if_pos (by omega)]
 refine aH (W_r (aP t1 h1 (aK rfl h1 rfl rfl (aP t1 h1 (aK rfl h1 rfl rfl (jT rfl rfl (by omega) (by omega) (aA rfl ?_)))))))
 refine R_e (aC (W_r (aA rfl (eU rfl rfl (R_e ?_)))))
 refine aO rfl (fun c5=>?_) fun c5=>?_
 ·
  refine aC (W_r (aA rfl (R_e (aU ?_))))
  refine bH (@rfl V (iV (11:Int))) (aQ ?_)
  · rw [cR,if_neg (by omega),if_pos (by omega)]
 refine aH (aC (W_r (aP t1 h1 (aK rfl h1 rfl rfl (bN rfl (kD rfl rfl (R_e ?_)))))))
 refine aO rfl (fun c6=>?_) fun c6=>?_
 ·
  refine aC (W_r (aA rfl (R_e (aU ?_))))
  refine bH (@rfl V (iV (19:Int))) (aQ ?_)
  · rw [cR,if_neg (by omega),if_neg (by omega),if_pos (by omega)]
 refine aH (aC (W_r (aP t1 h1 (aK rfl h1 rfl rfl (bN rfl (eU rfl rfl (R_e ?_)))))))
 refine aO rfl (fun c7=>?_) fun c7=>?_
 ·
  refine aC (W_r (aA rfl (R_e (aU ?_))))
  refine bH (@rfl V (iV (11:Int))) (aQ ?_)
  · rw [cR,if_neg (by omega),if_neg (by omega),if_neg (by omega),if_pos (by omega)]
 refine aH (aC ?_)
 refine hY (fun T H=>T 1=(V.mp 1 1 0 0)∧T 3=(iV ((t.i)+(t.tm)))∧T 50=(V.bool (decide (((t.s) < (0:Int))∨(((t.nx.length:Nat):Int)≤(t.s)))))∧H 1=(bk 1 29 6 [[(iV (t.i)),(iV (t.tm)),(iV (t.s)),(aB t.nx),(aB t.ot),(V.sl (List.map cSr (t.st)))]])∧True) ?_ ?_
 ·
  refine aP t1 h1 (aK rfl h1 rfl rfl (bR rfl rfl (aA rfl ?_)))
  refine aV 7 (fun T H=>T 1=(V.mp 1 1 0 0)∧T 3=(iV ((t.i)+(t.tm)))∧T 50=(V.bool (decide (((t.s) < (0:Int))∨(((t.nx.length:Nat):Int)≤(t.s)))))∧H 1=(bk 1 29 6 [[(iV (t.i)),(iV (t.tm)),(iV (t.s)),(aB t.nx),(aB t.ot),(V.sl (List.map cSr (t.st)))]])∧True) ?_ ?_
  ·
   by_cases g8:(t.s) < (0:Int)
   ·
    refine G_n (edT g8 rfl) (G_n (edT g8 rfl) (G_n (edT g8 rfl) (G_n (edT g8 rfl) (G_n (edT g8 rfl) (G_n (edT g8 rfl) (aX (edT g8 rfl) rfl ?_))))))
    exact ⟨t1,rfl,(bO g8),h1,trivial⟩
   ·
    refine aD (edF g8 rfl) (aP t1 h1 (aD (edF g8 rfl) (aK rfl h1 rfl rfl (aD (edF g8 rfl) (aP t1 h1 (aD (edF g8 rfl) (aK rfl h1 rfl rfl ?_)))))))
    refine aD (edF g8 rfl) (bN rfl (aD (edF g8 rfl) (jL rfl rfl (aW (edF g8 rfl) rfl ?_))))
    exact ⟨t1,rfl,(bP g8),h1,trivial⟩
  intro T H ⟨t1,t3,t50,h1,_⟩
  exact iK ⟨t1,t3,t50,h1,trivial⟩
 intro T H ⟨t1,t3,t50,h1,_⟩
 refine aO t50 (fun c9=>?_) fun c9=>?_
 ·
  refine aC (W_r (aA rfl (R_e (aU ?_))))
  refine bH (@rfl V (iV (2:Int))) (aQ ?_)
  · rw [cR,if_neg (by omega),if_neg (by omega),if_neg (by omega),if_neg (by omega),if_pos (by omega)]
 refine aH (aC (W_r (aP t1 h1 (aK rfl h1 rfl rfl (bN rfl (aP t1 h1 (aK rfl h1 rfl rfl ?_)))))))
 refine bN rfl (dQ rfl rfl (aA rfl ?_))
 refine aV 8 (fun T H=>T 1=(V.mp 1 1 0 0)∧T 3=(iV ((t.i)+(t.tm)))∧T 66=(V.bool (decide ((((t.ot.length:Nat):Int)≠((t.nx.length:Nat):Int))∨(((t.st.length:Nat):Int)≠((t.nx.length:Nat):Int)))))∧H 1=(bk 1 29 6 [[(iV (t.i)),(iV (t.tm)),(iV (t.s)),(aB t.nx),(aB t.ot),(V.sl (List.map cSr (t.st)))]])∧True) ?_ ?_
 ·
  by_cases g10:((t.ot.length:Nat):Int)≠((t.nx.length:Nat):Int)
  ·
   refine G_n (edT g10 rfl) (G_n (edT g10 rfl) (G_n (edT g10 rfl) (G_n (edT g10 rfl) (G_n (edT g10 rfl) (G_n (edT g10 rfl) (G_n (edT g10 rfl) (aX (edT g10 rfl) rfl ?_)))))))
   exact ⟨t1,t3,(bO g10),h1,trivial⟩
  ·
   refine aD (edF g10 rfl) (aP t1 h1 (aD (edF g10 rfl) (aK rfl h1 rfl rfl (aD (edF g10 rfl) (bN rfl (aD (edF g10 rfl) (aP t1 h1 ?_)))))))
   refine aD (edF g10 rfl) (aK rfl h1 rfl rfl (aD (edF g10 rfl) (bN rfl (aD (edF g10 rfl) (dQ rfl rfl (aW (edF g10 rfl) rfl ?_))))))
   exact ⟨t1,t3,(bP g10),h1,trivial⟩
 intro T H ⟨t1,t3,t66,h1,_⟩
 refine R_e ?_
 refine aO t66 (fun c11=>?_) fun c11=>?_
 ·
  refine aC (W_r (aA rfl (R_e (aU ?_))))
  refine bH (@rfl V (iV (1:Int))) (aQ ?_)
  · rw [cR,if_neg (by omega),if_neg (by omega),if_neg (by omega),if_neg (by omega),if_neg (by omega),if_pos (by omega)]
 refine aH (aC (W_r (aA rfl (R_e (aI fun Q12 n12 x12 y12 z12=>?_)))))
 refine cW (fun mm T H=> ∃ (k:Nat),mm=t.nx.length - k∧T 1=(V.mp 1 1 0 0)∧T 3=(iV ((t.i)+(t.tm)))∧T 4=(iV ((k:Nat):Int))∧H 1=(bk 1 29 6 [[(iV (t.i)),(iV (t.tm)),(iV (t.s)),(aB t.nx),(aB t.ot),(V.sl (List.map cSr (t.st)))]])∧(k≤t.nx.length)∧(1≤t.i∧t.i≤64∧0≤t.tm∧t.tm≤4∧t.i+t.tm≤64∧0 < t.nx.length∧t.nx.length≤128∧t.ot.length=t.nx.length∧t.st.length=t.nx.length)∧(cR t=fe (rR t) k (t.nx.length - k))) ?_ ?_
 ·
  refine ⟨_,0,rfl,t1,t3,(Eq.trans (@rfl V (iV (0:Int))) rfl),h1,?_,?_,?_⟩
  · exact Nat.zero_le _
  · omega
  · rw [cR,if_neg (by omega),if_neg (by omega),if_neg (by omega),if_neg (by omega),if_neg (by omega),if_neg (by omega)]; rfl
 intro mm T H ⟨k,hmm,t1,t3,t4,h1,hk,hv,hc⟩ Q13 p113 p213 p313
 unfold aLO
 refine aC (W_r (aA t4 (aP t1 h1 (aK rfl h1 rfl rfl (bN rfl (bR rfl rfl (R_e ?_)))))))
 refine aO rfl (fun c14=>?_) fun c14=>?_
 ·
  refine aH (aI fun Q15 n15 x15 y15 z15=>(aC (W_r (aP t1 h1 (aK rfl h1 rfl rfl (aA t4 (bL (i:=k) (@rfl V (aB t.nx)) (@rfl V (iV ((k:Nat):Int))) (by omega) rfl ?_)))))))
  refine aJ rfl rfl (bN rfl (aA t3 (dQ rfl rfl (aA rfl ?_))))
  refine aV 9 (fun T H=>T 1=(V.mp 1 1 0 0)∧T 3=(iV ((t.i)+(t.tm)))∧T 4=(iV ((k:Nat):Int))∧T 91=(V.bool (decide ((((((nth (t.nx) (k))).length:Nat):Int)≠((t.i)+(t.tm)))∨(((((nth (t.ot) (k))).length:Nat):Int)≠((t.i)+(t.tm))))))∧H 1=(bk 1 29 6 [[(iV (t.i)),(iV (t.tm)),(iV (t.s)),(aB t.nx),(aB t.ot),(V.sl (List.map cSr (t.st)))]])∧True) ?_ ?_
  ·
   by_cases g16:((((nth (t.nx) (k))).length:Nat):Int)≠((t.i)+(t.tm))
   ·
    refine G_n (edT g16 rfl) (G_n (edT g16 rfl) (G_n (edT g16 rfl) (G_n (edT g16 rfl) (G_n (edT g16 rfl) (G_n (edT g16 rfl) (G_n (edT g16 rfl) (G_n (edT g16 rfl) ?_)))))))
    refine aX (edT g16 rfl) rfl ?_
    exact ⟨t1,t3,t4,(bO g16),h1,trivial⟩
   ·
    refine aD (edF g16 rfl) (aP t1 h1 (aD (edF g16 rfl) (aK rfl h1 rfl rfl (aD (edF g16 rfl) (aA t4 (aD (edF g16 rfl) (bL (i:=k) (@rfl V (aB t.ot)) (@rfl V (iV ((k:Nat):Int))) (by omega) rfl ?_)))))))
    refine aD (edF g16 rfl) (aJ rfl rfl (aD (edF g16 rfl) (bN rfl (aD (edF g16 rfl) (aA t3 (aD (edF g16 rfl) (dQ rfl rfl ?_)))))))
    refine aW (edF g16 rfl) rfl ?_
    exact ⟨t1,t3,t4,(bP g16),h1,trivial⟩
  intro T H ⟨t1,t3,t4,t91,h1,_⟩
  refine aA t91 ?_
  refine aV 9 (fun T H=>T 1=(V.mp 1 1 0 0)∧T 3=(iV ((t.i)+(t.tm)))∧T 4=(iV ((k:Nat):Int))∧T 101=(V.bool (decide (((((((nth (t.nx) (k))).length:Nat):Int)≠((t.i)+(t.tm)))∨(((((nth (t.ot) (k))).length:Nat):Int)≠((t.i)+(t.tm))))∨(((((nth (t.st) (k))).length:Nat):Int)≠((t.i)+(t.tm))))))∧H 1=(bk 1 29 6 [[(iV (t.i)),(iV (t.tm)),(iV (t.s)),(aB t.nx),(aB t.ot),(V.sl (List.map cSr (t.st)))]])∧True) ?_ ?_
  ·
   by_cases g17:(((((nth (t.nx) (k))).length:Nat):Int)≠((t.i)+(t.tm)))∨(((((nth (t.ot) (k))).length:Nat):Int)≠((t.i)+(t.tm)))
   ·
    refine G_n (edT g17 rfl) (G_n (edT g17 rfl) (G_n (edT g17 rfl) (G_n (edT g17 rfl) (G_n (edT g17 rfl) (G_n (edT g17 rfl) (G_n (edT g17 rfl) (G_n (edT g17 rfl) ?_)))))))
    refine aX (edT g17 rfl) rfl ?_
    exact ⟨t1,t3,t4,(bO g17),h1,trivial⟩
   ·
    refine aD (edF g17 rfl) (aP t1 h1 (aD (edF g17 rfl) (aK rfl h1 rfl rfl (aD (edF g17 rfl) (aA t4 (aD (edF g17 rfl) (bL (i:=k) (@rfl V (V.sl (List.map cSr (t.st)))) (@rfl V (iV ((k:Nat):Int))) (by omega) rfl ?_)))))))
    refine aD (edF g17 rfl) (aJ rfl rfl (aD (edF g17 rfl) (bN rfl (aD (edF g17 rfl) (aA t3 (aD (edF g17 rfl) (dQ rfl rfl ?_)))))))
    refine aW (edF g17 rfl) rfl ?_
    exact ⟨t1,t3,t4,(bP g17),h1,trivial⟩
  intro T H ⟨t1,t3,t4,t101,h1,_⟩
  refine R_e ?_
  refine aO t101 (fun c18=>?_) fun c18=>?_
  ·
   refine aC (W_r (aA rfl (R_e (aU (y15 _ _ (p213 _ _ (y12 _ _ ?_)))))))
   refine bH (@rfl V (iV (1:Int))) (aQ ?_)
   · rw [hc,gW (by rw [rR,if_pos (by omega)]; decide) (by omega),rR,if_pos (by omega)]
  refine aH (W_r (aA rfl (R_e (tS fun Q19 n19 x19 y19 z19=>?_))))
  refine cW (fun mm T H=> ∃ (i:Nat),mm=(t.i+t.tm).toNat - i∧T 1=(V.mp 1 1 0 0)∧T 3=(iV ((t.i)+(t.tm)))∧T 4=(iV ((k:Nat):Int))∧T 5=(iV ((i:Nat):Int))∧H 1=(bk 1 29 6 [[(iV (t.i)),(iV (t.tm)),(iV (t.s)),(aB t.nx),(aB t.ot),(V.sl (List.map cSr (t.st)))]])∧(i≤(t.i+t.tm).toNat)∧(((nth t.nx k).length:Int)=t.i+t.tm∧((nth t.ot k).length:Int)=t.i+t.tm∧((nth t.st k).length:Int)=t.i+t.tm)∧(rR t k=fe (mA t k) i ((t.i+t.tm).toNat - i))) ?_ ?_
  ·
   refine ⟨_,0,rfl,t1,t3,t4,(Eq.trans (@rfl V (iV (0:Int))) rfl),h1,?_,?_,?_⟩
   · exact Nat.zero_le _
   · omega
   · rw [rR,if_neg (by omega)]; rfl
  intro mm T H ⟨i,hmm,t1,t3,t4,t5,h1,hi,hl,hr⟩ Q20 p120 p220 p320
  unfold aK2
  refine aC (W_r (aA t5 (aA t3 (bR rfl rfl (R_e ?_)))))
  refine aO rfl (fun c21=>?_) fun c21=>?_
  ·
   refine aH (aI fun Q22 n22 x22 y22 z22=>(W_r (aK t1 h1 rfl rfl (aA t4 (aA t5 (bG (aFE t k i (by omega) (by omega)) rfl (aA rfl ?_)))))))
   refine R_e (W_r (aA rfl (dQ rfl rfl (R_e ?_))))
   refine fR rfl (fun c23=>?_) fun c23=>?_
   ·
    refine W_r (aA rfl (aA rfl (R_e (bK (y22 _ _ (p220 _ _ (y19 _ _ ?_)))))))
    refine y15 _ _ (p213 _ _ (y12 _ _ ?_))
    refine bH (@rfl V (iV (mA t k i))) (aQ ?_)
    · rw [hc,gW (by rw [hr,gW (by omega) (by omega)]; omega) (by omega),hr,gW (by omega) (by omega)]
   refine cX (n22 _ _ (.done (W_t (aA t5 (bV rfl (@rfl V (iV ((1:Nat):Int))) (by omega) (aA rfl (R_e ?_)))))))
   refine p120 _ _ _ ?_ ⟨(i+1),rfl,t1,t3,t4,(Eq.trans (@rfl V (iV ((i+1:Nat):Int))) (by first|rfl|simp)),h1,?_,?_,?_⟩
   · omega
   · omega
   · exact hl
   · rw [hr,lS (by omega) (by omega)]
  refine bA (p320 _ _ _ (x19 _ _ (n15 _ _ (.done (W_t (aA t4 (bV rfl (@rfl V (iV ((1:Nat):Int))) (by omega) ?_)))))))
  refine aA rfl (R_e ?_)
  refine p113 _ _ _ ?_ ⟨(k+1),rfl,t1,t3,(Eq.trans (@rfl V (iV ((k+1:Nat):Int))) (by first|rfl|simp)),h1,?_,?_,?_⟩
  · omega
  · omega
  · exact hv
  · rw [hc,lS (by rw [hr,oW (by omega)]) (by omega)]
 refine bA (p313 _ _ _ (x12 _ _ (.done (W_r (aA rfl (R_e (bK ?_)))))))
 refine bH (@rfl V (iV (0:Int))) (aQ ?_)
 · rw [hc,oW (by omega)]
def aR0:List SO:=[
 qM 20 1,
 qM 21 10,
 qA 22 2 20 21,
 qF 23 0 22,
 ql 24 23,
 qC 25 .lss 24 0,
 qM 26 25,
 ⟨some (26,false),some 27,.mv (.t 1)⟩,
 ⟨some (26,false),some 28,.mv (.t 10)⟩,
 ⟨some (26,false),some 29,.idx 2 (.t 27) (.t 28)⟩,
 ⟨some (26,false),some 30,.fld 0 (.t 29)⟩,
 ⟨some (26,false),some 31,.load false 1 (.t 30)⟩,
 ⟨some (26,false),some 32,.bin .gtr (.t 31) (.c (.int .i64 1125899906842624))⟩,
 sO 33 (.pick (.t 26) (.c (.bool true)) (.t 32)),
 qM 34 33,
 ⟨some (34,false),some 35,.mv (.t 8)⟩,
 ⟨some (34,false),some 36,.mv (.t 1)⟩,
 ⟨some (34,false),some 37,.mv (.t 10)⟩,
 ⟨some (34,false),some 38,.idx 2 (.t 36) (.t 37)⟩,
 ⟨some (34,false),some 39,.fld 0 (.t 38)⟩,
 ⟨some (34,false),some 40,.load false 1 (.t 39)⟩,
 ⟨some (34,false),some 41,.bin .add (.t 35) (.t 40)⟩,
 ⟨some (34,false),some 42,.bin .gtr (.t 41) (.c (.int .i64 1125899906842624))⟩,
 sO 43 (.pick (.t 34) (.c (.bool true)) (.t 42))]
def aMh:List SO:=[
 qM 44 1,
 qM 45 10,
 qA 46 2 44 45,
 qF 47 1 46,
 ql 48 47,
 qC 49 .lss 48 0,
 qM 50 49,
 ⟨some (50,false),some 51,.mv (.t 1)⟩,
 ⟨some (50,false),some 52,.mv (.t 10)⟩,
 ⟨some (50,false),some 53,.idx 2 (.t 51) (.t 52)⟩,
 ⟨some (50,false),some 54,.fld 1 (.t 53)⟩,
 ⟨some (50,false),some 55,.load false 1 (.t 54)⟩,
 ⟨some (50,false),some 56,.fld 0 (.t 3)⟩,
 ⟨some (50,false),some 57,.load false 1 (.t 56)⟩,
 ⟨some (50,false),some 58,.bin .geq (.t 55) (.t 57)⟩,
 sO 59 (.pick (.t 50) (.c (.bool true)) (.t 58))]
def aOg:List SO:=[
 qM 60 8,
 qM 61 1,
 qM 62 10,
 qA 63 2 61 62,
 qF 64 0 63,
 ql 65 64,
 qP 66 .add 60 65,
 qM 8 66]
def aLj:SC:=.seq (.seq (.reg [qM 14 10,qM 15 1,qN 16 15,qP 17 .lss 14 16]) (.cond (.t 17) (.skip) (.exit 0))) (.seq (.block 1 (.seq (.seq (.reg aR0) (.cond (.t 43) (.seq (.reg [sO 6 (.mv (.c (.nilsl))),qI 7 2]) (.ret)) (.skip))) (.seq (.seq (.reg aMh) (.cond (.t 59) (.seq (.reg [sO 6 (.mv (.c (.nilsl))),qI 7 1]) (.ret)) (.skip))) (.seq (.reg aOg) (.reg [qM 67 9,qM 68 8,sO 69 (.bslice 3 1 false [.int .i64 0] 1 [(0,.t 68)]),sO 70 (.append 3 1 8 (.t 67) (.t 69)),qM 9 70]))))) (.reg [qM 18 10,qC 19 .add 18 1,qM 10 19]))
def aPo:List SO:=[
 qM 71 2,
 qM 72 8,
 qP 73 .lss 71 72,
 qM 74 73,
 ⟨some (74,false),some 75,.mv (.t 2)⟩,
 ⟨some (74,false),some 76,.bin .gtr (.t 75) (.c (.int .i64 1125899906842624))⟩,
 sO 77 (.pick (.t 74) (.c (.bool true)) (.t 76))]
def s51:SF:=⟨79,[.tmp 6,.tmp 7],.seq (.reg [sO 3 (.box 29 6 (.t 0)),sO 6 (.mv (.c (.nilsl))),qI 7 0]) (.seq (.seq (.reg [qM 11 1,qN 12 11,qC 13 .gtr 12 1024]) (.cond (.t 13) (.seq (.reg [sO 6 (.mv (.c (.nilsl))),qI 7 3]) (.ret)) (.skip))) (.seq (.reg [qI 8 0]) (.seq (.reg [sO 9 (.lazy 3 1)]) (.seq (.seq (.reg [qI 10 0]) (.block 0 (.loop aLj))) (.seq (.seq (.reg aPo) (.cond (.t 77) (.seq (.reg [sO 6 (.mv (.c (.nilsl))),qI 7 2]) (.ret)) (.skip))) (.seq (.reg [qM 78 9,qM 6 78,qI 7 0]) (.ret)))))))⟩
theorem aOV:aL Tryz.prog ⟨[58,129,130,131,149,155,161,182,183,185,191,192,208,209,210,224,228,231,236],[9],[],[]⟩ Tryz.f51=some s51:=by kernel_rfl
end Go.Proofs.YtilfohjlglefjaaGreat
namespace Go.Proofs.YtilfohjlglefjaaGreat
open Go
abbrev Ev:=Int×Int×Int
abbrev cEv (e:Ev):List V:=[iV e.1,iV e.2.1,iV e.2.2]
@[simp] theorem aPJ {l:List Ev}:eZ (l.map cEv)=true:=fS _ _ fun a=>by simp [cEv]
@[simp] theorem aLC {l:List Ev}:cP (l.map cEv)=true:=cS _ _ fun a=>by simp [cEv]
def nwK (w:List Sg):Nat→Int
  |0=>0
  |k+1=>nwK w k+(nth w k).1
def tkE (inp:Int) (w:List Sg) (k:Nat):Int:=
  if (nth w k).1 < 0∨1125899906842624 < (nth w k).1∨1125899906842624 < nwK w k+(nth w k).1 then 2 else if (nth w k).2 < 0∨inp≤(nth w k).2 then 1 else 0
def tcE (inp:Int) (w:List Sg) (e:Int):Int:=
  if 1024 < w.length then 3 else if fe (tkE inp w) 0 w.length≠0 then fe (tkE inp w) 0 w.length else if e < nwK w w.length∨1125899906842624 < e then 2 else 0
def tms (w:List Sg) (k:Nat):Int:=nwK w (k+1)
def tcT (inp:Int) (w:List Sg) (e:Int):List Int:=if tcE inp w e=0 then tbl (tms w) w.length else []
theorem aAO {inp e:Int} {w:List Sg} (h:tcE inp w e≠0):tcT inp w e=[]:=if_neg h
theorem aD9 {inp e:Int} {w:List Sg} (h:tcE inp w e=0):tcT inp w e=tbl (tms w) w.length:=if_pos h
theorem aCZ {inp e:Int} {w:List Sg} (h:tcE inp w e=0):w.length≤1024∧(∀ k,k < w.length→0≤(nth w k).1∧nwK w k+(nth w k).1≤1125899906842624∧0≤(nth w k).2∧(nth w k).2 < inp)∧nwK w w.length≤e∧e≤1125899906842624:=by
  unfold tcE at h
  split at h; · cases h
  split at h
  · rename_i q; exact absurd h q
  rename_i h1 h2
  split at h; · cases h
  rename_i h3
  refine ⟨by omega,fun k hk=>?_,by omega,by omega⟩
  have:=cE.1 (Decidable.not_not.1 h2) k (Nat.zero_le _) (by omega)
  unfold tkE at this
  split at this; · cases this
  rename_i h4
  split at this; · cases this
  omega
theorem aEz {w:List Sg} (h: ∀ k,k < w.length→0≤(nth w k).1): ∀ k,k≤w.length→0≤nwK w k
  |0,_=>Int.le_refl 0
  | k + 1, hk => by
    have:=aEz h k (by omega)
    have:=h k (by omega)
    rw [nwK]; omega
def aY (w:List Sg) (e:Int) (i:Nat):Int:=if i < w.length then nwK w (i+1) else e
theorem aGS {inp e:Int} {w:List Sg} (h:tcE inp w e=0) (i:Nat):0≤aY w e i∧aY w e i≤1125899906842624:=by
  obtain ⟨h1,h2,h3,h4⟩:=aCZ h
  have hp:=aEz (fun k hk=>(h2 k hk).1)
  unfold aY
  split
  · rename_i hi
    have:=hp (i+1) hi
    have:=h2 i hi
    refine ⟨by omega,?_⟩
    rw [nwK]; exact this.2.1
  · have:=hp w.length (Nat.le_refl _)
    omega
def duS (r:List Bool) (a:List Int) (lim:Int):Nat→Int
  |0=> -1
  |k+1=>if nth r k=true∧nth a k≤lim∧(duS r a lim k < 0∨nth a k < nth a (duS r a lim k).toNat) then (k:Int) else duS r a lim k
theorem vT {r:List Bool} {a:List Int} {lim:Int}: ∀ k:Nat,duS r a lim k= -1∨(0≤duS r a lim k∧duS r a lim k < k∧nth r (duS r a lim k).toNat=true∧nth a (duS r a lim k).toNat≤lim)
  |0=>.inl rfl
  | k + 1 => by
    rw [duS]
    split
    · rename_i h
      exact .inr ⟨by omega,by omega,h.1,h.2.1⟩
    · rcases vT (r:=r) (a:=a) (lim:=lim) k with h|h
      · exact .inl h
      · exact .inr ⟨h.1,by omega,h.2.2⟩
structure KS where
  c:Cf
  a:List Int
  e:List Ev
def KS.d (S:KS) (lim:Int):Int:=duS S.c.2 S.a lim S.a.length
def tkA (t:TM) (c:Cf) (a:List Int) (i:Nat) (now:Int):List Int:=
  if 0≤(tSt t c.1.toNat i).1∧0 < (tSt t c.1.toNat i).2 then a.set (tSt t c.1.toNat i).1.toNat (now+(tSt t c.1.toNat i).2) else a
def evt (t:TM) (c:Cf) (i:Nat) (now:Int):Ev:=(now,(i:Int),nth (nth t.ot c.1.toNat) i)
def iZ (t:TM) (S:KS) (i:Nat) (now:Int):KS:=⟨afT t S.c i,tkA t S.c S.a i now,S.e++[evt t S.c i now]⟩
def dI (t:TM) (S:KS) (lim:Int):Nat:=(t.i+S.d lim).toNat
def wN (t:TM) (lim:Int):Nat→KS→Bool×KS
  |0,S=>(true,S)
  |n+1,S=>if S.d lim < 0 then (true,S) else if 10000 < (iZ t S (dI t S lim) (nth S.a (S.d lim).toNat)).e.length then (false,iZ t S (dI t S lim) (nth S.a (S.d lim).toNat)) else wN t lim n (iZ t S (dI t S lim) (nth S.a (S.d lim).toNat))
def wR (t:TM) (lim:Int) (S:KS):Bool×KS:=wN t lim (10001 - S.e.length) S
def oN (t:TM) (w:List Sg) (e:Int):Nat→Nat→KS→Bool×KS
  |0,_,S=>(true,S)
  | n + 1, i, S => if (wR t (aY w e i) S).1 = false then wR t (aY w e i) S else
      if i < w.length then (if 10000 < (iZ t (wR t (aY w e i) S).2 (nth w i).2.toNat (aY w e i)).e.length then (false,iZ t (wR t (aY w e i) S).2 (nth w i).2.toNat (aY w e i)) else oN t w e n (i+1) (iZ t (wR t (aY w e i) S).2 (nth w i).2.toNat (aY w e i)))
      else oN t w e n (i+1) (wR t (aY w e i) S).2
def tQ (t:TM):KS:=⟨(t.s,List.replicate t.tm.toNat false),List.replicate t.tm.toNat 0,[]⟩
def qT (t:TM) (w:List Sg) (e:Int):Bool×KS:=oN t w e (w.length+1) 0 (tQ t)
def gN (t:TM) (w:List Sg) (e:Int):Int:=if cR t≠0 then cR t else if tcE t.i w e≠0 then tcE t.i w e else if (qT t w e).1=false then 11 else 0
def lI (t:TM) (w:List Sg) (e:Int):List Ev:=if gN t w e=0 then (qT t w e).2.e else []
section
variable {t:TM} {w:List Sg} {e:Int} {lim:Int} {S S':KS}
theorem aF5 (h:cR t≠0):gN t w e=cR t:=if_pos h
theorem aAt (h:cR t=0) (h2:tcE t.i w e≠0):gN t w e=tcE t.i w e:=by unfold gN; rw [if_neg (by omega),if_pos h2]
theorem rV (h:cR t=0) (h2:tcE t.i w e=0) (h3:qT t w e=(false,S)):gN t w e=11:=by unfold gN; rw [if_neg (by omega),if_neg (by omega),h3,if_pos rfl]
theorem aAS (h:cR t=0) (h2:tcE t.i w e=0) (h3:qT t w e=(true,S)):gN t w e=0:=by unfold gN; rw [if_neg (by omega),if_neg (by omega),h3,if_neg (by simp)]
theorem mY (h:gN t w e≠0):lI t w e=[]:=if_neg h
theorem aGd (h:gN t w e=0) (h3:qT t w e=(true,S)):lI t w e=S.e:=by unfold lI; rw [if_pos h,h3]
theorem dK {i:Nat} {now:Int}:(iZ t S i now).e.length=S.e.length+1:=by simp [iZ]
theorem aNV (h:S.d lim < 0):wR t lim S=(true,S):=by
  unfold wR
  cases 10001 - S.e.length with
  |zero=>rfl
  |succ n=>rw [wN,if_pos h]
theorem aJ4 (h: ¬S.d lim < 0) (hl:S.e.length≤10000) (h2:10000 < S.e.length+1):wR t lim S=(false,iZ t S (dI t S lim) (nth S.a (S.d lim).toNat)):=by
  unfold wR
  rw [show 10001 - S.e.length=(10001 - (S.e.length+1))+1 by omega,wN,if_neg h,if_pos (by rw [dK]; exact h2)]
theorem aSw (h: ¬S.d lim < 0) (h2: ¬10000 < S.e.length+1):wR t lim S=wR t lim (iZ t S (dI t S lim) (nth S.a (S.d lim).toNat)):=by
  unfold wR
  rw [dK,show 10001 - S.e.length=(10001 - (S.e.length+1))+1 by omega,wN,if_neg h,if_neg (by rw [dK]; exact h2)]
variable {n i:Nat}
theorem aO4 (h:n≤i):oN t w e (n - i) i S=(true,S):=by rw [show n - i=0 by omega,oN]
theorem aUe (h:i < n) (h1:wR t (aY w e i) S=(false,S')):oN t w e (n - i) i S=(false,S'):=by rw [show n - i=(n - (i+1))+1 by omega,oN,h1,if_pos rfl]
theorem aUo (h:i < n) (h1:wR t (aY w e i) S=(true,S')) (h2:i < w.length) (h3:10000 < S'.e.length+1):oN t w e (n - i) i S=(false,iZ t S' (nth w i).2.toNat (aY w e i)):=by
  rw [show n - i=(n - (i+1))+1 by omega,oN,h1,if_neg (by simp),if_pos h2,if_pos (by rw [dK]; exact h3)]
theorem aRE (h:i < n) (h1:wR t (aY w e i) S=(true,S')) (h2:i < w.length) (h3: ¬10000 < S'.e.length+1):oN t w e (n - i) i S=oN t w e (n - (i+1)) (i+1) (iZ t S' (nth w i).2.toNat (aY w e i)):=by
  rw [show n - i=(n - (i+1))+1 by omega,oN,h1,if_neg (by simp),if_pos h2,if_neg (by rw [dK]; exact h3)]
theorem aTY (h:i < n) (h1:wR t (aY w e i) S=(true,S')) (h2: ¬i < w.length):oN t w e (n - i) i S=oN t w e (n - (i+1)) (i+1) S':=by
  rw [show n - i=(n - (i+1))+1 by omega,oN,h1,if_neg (by simp),if_neg h2]
structure KOK (t:TM) (S:KS):Prop where
  c:mU t S.c
  al:S.a.length=t.tm.toNat
  ab: ∀ x,x < S.a.length→0≤nth S.a x∧nth S.a x≤1125899906843624
  el:S.e.length≤10000
theorem aAH (ht:TOK t):KOK t (tQ t):=by
  refine ⟨(oX ht).all _ (List.mem_singleton.2 rfl),List.length_replicate ..,fun x hx=>?_,Nat.zero_le _⟩
  have hx:x < (List.replicate t.tm.toNat (0:Int)).length:=hx
  have:nth (List.replicate t.tm.toNat (0:Int)) x=0:=by rw [← aM hx,List.getElem_replicate]
  show 0≤nth (List.replicate t.tm.toNat (0:Int)) x∧nth (List.replicate t.tm.toNat (0:Int)) x≤1125899906843624
  rw [this]; omega
theorem KOK.due (ht:TOK t) (h:KOK t S) (hd: ¬S.d lim < 0):0≤S.d lim∧S.d lim < S.a.length∧S.d lim < t.tm∧psB t S.c (dI t S lim)=true∧(dI t S lim:Int)=t.i+S.d lim∧nth S.a (S.d lim).toNat≤lim∧0≤nth S.a (S.d lim).toNat:=by
  have h1:=ht.1
  rcases vT (r:=S.c.2) (a:=S.a) (lim:=lim) S.a.length with q|⟨q1,q2,q3,q4⟩
  · exact absurd (show S.d lim < 0 by unfold KS.d; omega) hd
  · have q1:0≤S.d lim:=q1
    have q2:S.d lim < S.a.length:=q2
    have q3:nth S.c.2 (S.d lim).toNat=true:=q3
    have hal:=h.al
    have ht3:=ht.2.2.1
    have hab:=h.ab (S.d lim).toNat (by omega)
    refine ⟨q1,q2,by omega,?_,by unfold dI; omega,q4,hab.1⟩
    unfold psB dI
    rw [show ((((t.i+S.d lim).toNat:Nat):Int) - t.i).toNat=(S.d lim).toNat by omega,q3,Bool.or_true]
theorem KOK.step (ht:TOK t) (h:KOK t S) {i:Nat} (hi:(i:Int) < t.i+t.tm) {now:Int} (hn:0≤now∧now≤1125899906842624) (hl: ¬10000 < S.e.length+1):KOK t (iZ t S i now):=by
  obtain ⟨h1,h2,h3,h4,h5,h6,h7,h8,h9,h10,h11,h12⟩:=id ht
  have c1:=h.c.1
  have c2:=h.c.2.1
  have gx:=(h12 S.c.1.toNat (by omega)).2.2.2 i hi
  have hal:=h.al
  refine ⟨aC9 ht h.c hi,?_,fun x hx=>?_,by rw [dK]; omega⟩
  · show (tkA t S.c S.a i now).length=_
    unfold tkA; split
    · rw [List.length_set]; exact hal
    · exact hal
  · have e:(iZ t S i now).a=tkA t S.c S.a i now:=rfl
    rw [e] at hx ⊢
    unfold tkA at hx ⊢
    split
    · rename_i q
      rw [if_pos q,List.length_set] at hx
      rw [nH (by omega)]
      split
      · omega
      · exact h.ab x hx
    · rename_i q
      rw [if_neg q] at hx
      exact h.ab x hx
end
end Go.Proofs.YtilfohjlglefjaaGreat
namespace Go.Proofs.YtilfohjlglefjaaGreat
open Go
section
variable {P:Program} {k0 d:Nat} {r:List SO} {T:Nat→V} {H:aF} {K:(Nat→V)→aF→Prop} {a b:SX} {x y z x' y' z':Int}
theorem aPz (ha:ev T a=.agg [iV x,iV y,iV z]) (hb:ev T b=.agg [iV x',iV y',iV z']) (h:Ops P k0 r (upd T d (.bool (decide (¬(x=x'∧y=y'∧z=z'))))) H K):Ops P k0 (⟨none,some d,.abin true [0,0,0] a b⟩::r) T H K:=by
  refine stp (v:=.bool (decide (¬(x=x'∧y=y'∧z=z')))) (fun _=>rfl) ?_ h
  rw [ha,hb]; simp only [oQ,bY,if_true,Option.map_some]
  by_cases e:x=x' <;> by_cases e2:y=y' <;> by_cases e3:z=z' <;> simp [e,e2,e3]
end
end Go.Proofs.YtilfohjlglefjaaGreat
namespace Go.Proofs.YtilfohjlglefjaaGreat
open Go
theorem aE1 {l:List Int} {k:Nat} (h:l.length≤k):jE (nth l) 0 l.length k=l:=by
  rw [aB1 h]
  refine jC (lC _ _) fun j hj=>?_
  rw [lC] at hj
  exact aAv hj
theorem aEl {t:TM} {c:Cf} {a:List Int} {i:Nat} {now:Int}:(tkA t c a i now).length=a.length:=by
  unfold tkA; split <;> simp
end Go.Proofs.YtilfohjlglefjaaGreat
namespace Go.Proofs.YtilfohjlglefjaaGreat
open Go Go.Proofs
theorem aCT (t:TM) (w:List Sg) (e:Int) (hi:t.i≤64):bB Tryz.prog 51 [(V.agg [(iV (t.i)),(iV (t.tm)),(iV (t.s)),(aB t.nx),(aB t.ot),(V.sl (List.map cSr (t.st)))]),(V.sl (List.map cSg (w))),(iV (e))] (V.tup [(aS (tcT t.i w e)),(iV (tcE t.i w e))]):=by
 refine pW Tryz.func51 aOV fun hB=>?_
 unfold s51
 dsimp only
 refine W_r (eT (i:=3) (n:=0) (m:=6) (cs:=[(iV (t.i)),(iV (t.tm)),(iV (t.s)),(aB t.nx),(aB t.ot),(V.sl (List.map cSr (t.st)))]) rfl (congrArg Blk.ver rfl) rfl rfl rfl (aA rfl (aA rfl (R_e (aC (W_r (aA rfl ?_)))))))
 refine bN rfl (eU rfl rfl (R_e ?_))
 refine aO rfl (fun c1=>?_) fun c1=>?_
 ·
  have hz:tcE t.i w e=3:=if_pos (by omega)
  refine aC (W_r (aA rfl (aA rfl (R_e (aU ?_)))))
  refine lT (@rfl V V.nilsl) (@rfl V (iV (3:Int))) (eY ?_) (aQ ?_)
  · rw [aAO (by rw [hz]; decide)]
  · exact hz.symm
 refine aH (W_r (aA rfl (R_e (W_r (iP (i:=9) (n:=0) rfl (congrArg Blk.ver rfl) (R_e (aC ?_)))))))
 refine W_r (aA rfl (R_e (aI fun Q2 n2 x2 y2 z2=>?_)))
 refine cW (fun mm T H=> ∃ (k:Nat) (v:Nat),mm=w.length - k∧T 1=(V.sl (List.map cSg (w)))∧T 2=(iV (e))∧T 3=(V.mp 3 1 0 0)∧T 8=(iV (nwK w k))∧T 9=(V.ms 9 v 0 (k))∧T 10=(iV ((k:Nat):Int))∧H 3=(bk 1 29 6 [[(iV (t.i)),(iV (t.tm)),(iV (t.s)),(aB t.nx),(aB t.ot),(V.sl (List.map cSr (t.st)))]])∧H 9=(bz v 3 1 (List.map cI (tbl (tms w) k)))∧(k≤w.length)∧(w.length≤1024)∧(0≤nwK w k∧nwK w k≤1125899906842624)∧(fe (tkE t.i w) 0 w.length=fe (tkE t.i w) k (w.length - k))) ?_ ?_
 ·
  refine ⟨_,0,1,rfl,rfl,rfl,rfl,(Eq.trans (@rfl V (iV (0:Int))) (by first|rfl|simp)),rfl,(Eq.trans (@rfl V (iV (0:Int))) rfl),rfl,(Eq.trans (@rfl Blk (bz 1 3 1 [])) (by first|rfl|(rw [pY,List.map_append]; first|done|rfl)|(rw [pY]; first|done|rfl)|simp)),?_,?_,?_,?_⟩
  · exact Nat.zero_le _
  · omega
  · exact ⟨Int.le_refl 0,by rw [nwK]; decide⟩
  · rfl
 intro mm T H ⟨k,v,hmm,t1,t2,t3,t8,t9,t10,h3,h9,hk,hw,hn,hc⟩ Q3 p13 p23 p33
 unfold aLj
 refine aC (W_r (aA t10 (aA t1 (bN rfl (bR rfl rfl (R_e ?_))))))
 refine aO rfl (fun c4=>?_) fun c4=>?_
 ·
  refine aH (aI fun Q5 n5 x5 y5 z5=>(aC (W_r (aA t1 (aA t10 (bL (i:=k) (@rfl V (V.sl (List.map cSg (w)))) (@rfl V (iV ((k:Nat):Int))) (by omega) rfl (jV (cs':=[(iV (((nth (w) (k))).1)),(iV (((nth (w) (k))).2))]) rfl rfl ?_)))))))
  refine aJ rfl rfl (bR rfl rfl (aA rfl ?_))
  refine aV 7 (fun T H=>T 1=(V.sl (List.map cSg (w)))∧T 2=(iV (e))∧T 3=(V.mp 3 1 0 0)∧T 8=(iV (nwK w k))∧T 9=(V.ms 9 v 0 (k))∧T 10=(iV ((k:Nat):Int))∧T 33=(V.bool (decide (((((nth (w) (k))).1) < (0:Int))∨((1125899906842624:Int) < (((nth (w) (k))).1)))))∧H 3=(bk 1 29 6 [[(iV (t.i)),(iV (t.tm)),(iV (t.s)),(aB t.nx),(aB t.ot),(V.sl (List.map cSr (t.st)))]])∧H 9=(bz v 3 1 (List.map cI (tbl (tms w) k)))∧True) ?_ ?_
  ·
   by_cases g6:(((nth (w) (k))).1) < (0:Int)
   ·
    refine G_n (edT g6 rfl) (G_n (edT g6 rfl) (G_n (edT g6 rfl) (G_n (edT g6 rfl) (G_n (edT g6 rfl) (G_n (edT g6 rfl) (aX (edT g6 rfl) rfl ?_))))))
    exact ⟨t1,t2,t3,t8,t9,t10,(bO g6),h3,h9,trivial⟩
   ·
    refine aD (edF g6 rfl) (aA t1 (aD (edF g6 rfl) (aA t10 (aD (edF g6 rfl) (bL (i:=k) (@rfl V (V.sl (List.map cSg (w)))) (@rfl V (iV ((k:Nat):Int))) (by omega) rfl (aD (edF g6 rfl) (jV (cs':=[(iV (((nth (w) (k))).1)),(iV (((nth (w) (k))).2))]) rfl rfl ?_)))))))
    refine aD (edF g6 rfl) (aJ rfl rfl (aD (edF g6 rfl) (eU rfl rfl (aW (edF g6 rfl) rfl ?_))))
    exact ⟨t1,t2,t3,t8,t9,t10,(bP g6),h3,h9,trivial⟩
  intro T H ⟨t1,t2,t3,t8,t9,t10,t33,h3,h9,_⟩
  refine aA t33 ?_
  refine aV 9 (fun T H=>T 1=(V.sl (List.map cSg (w)))∧T 2=(iV (e))∧T 3=(V.mp 3 1 0 0)∧T 8=(iV (nwK w k))∧T 9=(V.ms 9 v 0 (k))∧T 10=(iV ((k:Nat):Int))∧T 43=(V.bool (decide ((((((nth (w) (k))).1) < (0:Int))∨((1125899906842624:Int) < (((nth (w) (k))).1)))∨((1125899906842624:Int) < ((nwK w k)+(((nth (w) (k))).1))))))∧H 3=(bk 1 29 6 [[(iV (t.i)),(iV (t.tm)),(iV (t.s)),(aB t.nx),(aB t.ot),(V.sl (List.map cSr (t.st)))]])∧H 9=(bz v 3 1 (List.map cI (tbl (tms w) k)))∧True) ?_ ?_
  ·
   by_cases g7:((((nth (w) (k))).1) < (0:Int))∨((1125899906842624:Int) < (((nth (w) (k))).1))
   ·
    refine G_n (edT g7 rfl) (G_n (edT g7 rfl) (G_n (edT g7 rfl) (G_n (edT g7 rfl) (G_n (edT g7 rfl) (G_n (edT g7 rfl) (G_n (edT g7 rfl) (G_n (edT g7 rfl) ?_)))))))
    refine aX (edT g7 rfl) rfl ?_
    exact ⟨t1,t2,t3,t8,t9,t10,(bO g7),h3,h9,trivial⟩
   ·
    refine aD (edF g7 rfl) (aA t8 (aD (edF g7 rfl) (aA t1 (aD (edF g7 rfl) (aA t10 (aD (edF g7 rfl) (bL (i:=k) (@rfl V (V.sl (List.map cSg (w)))) (@rfl V (iV ((k:Nat):Int))) (by omega) rfl ?_)))))))
    refine aD (edF g7 rfl) (jV (cs':=[(iV (((nth (w) (k))).1)),(iV (((nth (w) (k))).2))]) rfl rfl (aD (edF g7 rfl) (aJ rfl rfl (aD (edF g7 rfl) (jT rfl rfl (by omega) (by omega) (aD (edF g7 rfl) (eU rfl rfl ?_)))))))
    refine aW (edF g7 rfl) rfl ?_
    exact ⟨t1,t2,t3,t8,t9,t10,(bP g7),h3,h9,trivial⟩
  intro T H ⟨t1,t2,t3,t8,t9,t10,t43,h3,h9,_⟩
  refine R_e ?_
  refine aO t43 (fun c8=>?_) fun c8=>?_
  ·
   have d1:tkE t.i w k=2:=by unfold tkE; rw [if_pos (by omega)]
   have hz:tcE t.i w e=2:=by unfold tcE; rw [if_neg (by omega),hc,gW (by rw [d1]; decide) (by omega),d1]; rfl
   refine aC (W_r (aA rfl (aA rfl (R_e (aU (y5 _ _ (p23 _ _ ?_)))))))
   refine y2 _ _ ?_
   refine lT (@rfl V V.nilsl) (@rfl V (iV (2:Int))) (eY ?_) (aQ ?_)
   · rw [aAO (by rw [hz]; decide)]
   · exact hz.symm
  have d0:=c8
  refine aH (aC (W_r (aA t1 (aA t10 (bL (i:=k) (@rfl V (V.sl (List.map cSg (w)))) (@rfl V (iV ((k:Nat):Int))) (by omega) rfl (jV (cs':=[(iV (((nth (w) (k))).2))]) rfl rfl (aJ rfl rfl ?_)))))))
  refine bR rfl rfl (aA rfl ?_)
  refine aV 9 (fun T H=>T 1=(V.sl (List.map cSg (w)))∧T 2=(iV (e))∧T 3=(V.mp 3 1 0 0)∧T 8=(iV (nwK w k))∧T 9=(V.ms 9 v 0 (k))∧T 10=(iV ((k:Nat):Int))∧T 59=(V.bool (decide (((((nth (w) (k))).2) < (0:Int))∨((t.i)≤(((nth (w) (k))).2)))))∧H 3=(bk 1 29 6 [[(iV (t.i)),(iV (t.tm)),(iV (t.s)),(aB t.nx),(aB t.ot),(V.sl (List.map cSr (t.st)))]])∧H 9=(bz v 3 1 (List.map cI (tbl (tms w) k)))∧True) ?_ ?_
  ·
   by_cases g9:(((nth (w) (k))).2) < (0:Int)
   ·
    refine G_n (edT g9 rfl) (G_n (edT g9 rfl) (G_n (edT g9 rfl) (G_n (edT g9 rfl) (G_n (edT g9 rfl) (G_n (edT g9 rfl) (G_n (edT g9 rfl) (G_n (edT g9 rfl) ?_)))))))
    refine aX (edT g9 rfl) rfl ?_
    exact ⟨t1,t2,t3,t8,t9,t10,(bO g9),h3,h9,trivial⟩
   ·
    refine aD (edF g9 rfl) (aA t1 (aD (edF g9 rfl) (aA t10 (aD (edF g9 rfl) (bL (i:=k) (@rfl V (V.sl (List.map cSg (w)))) (@rfl V (iV ((k:Nat):Int))) (by omega) rfl (aD (edF g9 rfl) (jV (cs':=[(iV (((nth (w) (k))).2))]) rfl rfl ?_)))))))
    refine aD (edF g9 rfl) (aJ rfl rfl (aD (edF g9 rfl) (aP t3 h3 (aD (edF g9 rfl) (aK rfl h3 rfl rfl (aD (edF g9 rfl) (jL rfl rfl ?_)))))))
    refine aW (edF g9 rfl) rfl ?_
    exact ⟨t1,t2,t3,t8,t9,t10,(bP g9),h3,h9,trivial⟩
  intro T H ⟨t1,t2,t3,t8,t9,t10,t59,h3,h9,_⟩
  refine R_e ?_
  refine aO t59 (fun c10=>?_) fun c10=>?_
  ·
   have d1:tkE t.i w k=1:=by unfold tkE; rw [if_neg (by omega),if_pos (by omega)]
   have hz:tcE t.i w e=1:=by unfold tcE; rw [if_neg (by omega),hc,gW (by rw [d1]; decide) (by omega),d1]; rfl
   refine aC (W_r (aA rfl (aA rfl (R_e (aU (y5 _ _ (p23 _ _ ?_)))))))
   refine y2 _ _ ?_
   refine lT (@rfl V V.nilsl) (@rfl V (iV (1:Int))) (eY ?_) (aQ ?_)
   · rw [aAO (by rw [hz]; decide)]
   · exact hz.symm
  have d2:tkE t.i w k=0:=by unfold tkE; rw [if_neg (by omega),if_neg (by omega)]
  refine aH (W_r (aA t8 (aA t1 (aA t10 (bL (i:=k) (@rfl V (V.sl (List.map cSg (w)))) (@rfl V (iV ((k:Nat):Int))) (by omega) rfl (jV (cs':=[(iV (((nth (w) (k))).1)),(iV (((nth (w) (k))).2))]) rfl rfl (aJ rfl rfl ?_)))))))
  refine jT rfl rfl (by omega) (by omega) (aA rfl (R_e (W_t (aA t9 (aA rfl (eF rfl rfl (fL (l:=(tbl (tms w) k)) (f:=cI) (x:=(((nwK w k)+(((nth (w) (k))).1)))) (@rfl V (V.ms 9 v 0 (k))) h9 (by first|rfl|exact (lC _ _).symm|simp|omega) (@rfl V (V.sl [[(iV ((nwK w k)+(((nth (w) (k))).1)))]])) rfl rfl (by omega) (by omega) ?_)))))))
  refine aA rfl (R_e (n5 _ _ (.done (W_t (aA t10 (bV rfl (@rfl V (iV ((1:Nat):Int))) (by omega) (aA rfl ?_)))))))
  refine R_e ?_
  refine p13 _ _ _ ?_ ⟨(k+1),(v+1),rfl,t1,t2,t3,(Eq.trans (@rfl V (iV ((nwK w k)+(((nth (w) (k))).1)))) (by first|rfl|simp)),(Eq.trans (@rfl V (V.ms 9 (v+1) 0 (k+1))) (by first|rfl|simp)),(Eq.trans (@rfl V (iV ((k+1:Nat):Int))) (by first|rfl|simp)),h3,(Eq.trans (@rfl Blk (bz (v+1) 3 1 (List.map cI (tbl (tms w) k++[((nwK w k)+(((nth (w) (k))).1))])))) (by first|rfl|(rw [pY,List.map_append]; first|done|rfl)|(rw [pY]; first|done|rfl)|simp)),?_,?_,?_,?_⟩
  · omega
  · omega
  · exact hw
  · rw [nwK]; omega
  · rw [hc,lS d2 (by omega)]
 have hf:fe (tkE t.i w) 0 w.length=0:=by rw [hc,oW (by omega)]
 have hkl:k=w.length:=by omega
 have hnn:nwK w w.length=nwK w k:=by rw [hkl]
 refine bA (p33 _ _ _ (x2 _ _ (.done (aC (W_r (aA t2 (aA t8 ?_)))))))
 refine bR rfl rfl (aA rfl ?_)
 refine aV 3 (fun T H=>T 9=(V.ms 9 v 0 (k))∧T 77=(V.bool (decide (((e) < (nwK w k))∨((1125899906842624:Int) < (e)))))∧H 3=(bk 1 29 6 [[(iV (t.i)),(iV (t.tm)),(iV (t.s)),(aB t.nx),(aB t.ot),(V.sl (List.map cSr (t.st)))]])∧H 9=(bz v 3 1 (List.map cI (tbl (tms w) k)))∧True) ?_ ?_
 ·
  by_cases g11:(e) < (nwK w k)
  ·
   refine G_n (edT g11 rfl) (G_n (edT g11 rfl) (aX (edT g11 rfl) rfl ?_))
   exact ⟨t9,(bO g11),h3,h9,trivial⟩
  ·
   refine aD (edF g11 rfl) (aA t2 (aD (edF g11 rfl) (eU rfl rfl (aW (edF g11 rfl) rfl ?_))))
   exact ⟨t9,(bP g11),h3,h9,trivial⟩
 intro T H ⟨t9,t77,h3,h9,_⟩
 refine R_e ?_
 refine aO t77 (fun c12=>?_) fun c12=>?_
 ·
  have hz:tcE t.i w e=2:=by unfold tcE; rw [if_neg (by omega),hf,if_neg (by decide),if_pos (by omega)]
  refine aC (W_r (aA rfl (aA rfl (R_e (aU ?_)))))
  refine lT (@rfl V V.nilsl) (@rfl V (iV (2:Int))) (eY ?_) (aQ ?_)
  · rw [aAO (by rw [hz]; decide)]
  · exact hz.symm
 have hz:tcE t.i w e=0:=by unfold tcE; rw [if_neg (by omega),hf,if_neg (by decide),if_neg (by omega)]
 refine aH (W_r (aA t9 (aA rfl (aA rfl (R_e (bK ?_))))))
 refine lT (@rfl V (V.ms 9 v 0 (k))) (@rfl V (iV (0:Int))) (nS h9 (by first|rfl|simp) (l:=(tbl (tms w) k)) rfl (by first|rfl|exact (lC _ _).symm|simp|omega) (fun _=>by simp) ?_) (aQ ?_)
 · rw [aD9 hz,hkl]
 · exact hz.symm
def aRl:List SO:=[
 qF 14 0 2,
 qF 15 1 14,
 ql 16 15,
 qM 17 6,
 qA 18 1 16 17,
 ql 19 18,
 qM 20 19,
 ⟨some (20,true),some 21,.fld 2 (.t 2)⟩,
 ⟨some (20,true),some 22,.load false 1 (.t 21)⟩,
 ⟨some (20,true),some 23,.mv (.t 6)⟩,
 ⟨some (20,true),some 24,.idx 1 (.t 22) (.t 23)⟩,
 ⟨some (20,true),some 25,.load false 1 (.t 24)⟩,
 ⟨some (20,true),some 26,.mv (.t 1)⟩,
 ⟨some (20,true),some 27,.bin .leq (.t 25) (.t 26)⟩,
 sO 28 (.pick (.t 20) (.t 27) (.c (.bool false))),
 qM 29 28,
 ⟨some (29,true),some 30,.mv (.t 5)⟩,
 ⟨some (29,true),some 31,.bin .lss (.t 30) (.c (.int .i64 0))⟩,
 ⟨some (29,true),some 32,.mv (.t 31)⟩,
 ⟨some (32,false),some 33,.fld 2 (.t 2)⟩,
 ⟨some (32,false),some 34,.load false 1 (.t 33)⟩,
 ⟨some (32,false),some 35,.mv (.t 6)⟩,
 ⟨some (32,false),some 36,.idx 1 (.t 34) (.t 35)⟩,
 ⟨some (32,false),some 37,.load false 1 (.t 36)⟩,
 ⟨some (32,false),some 38,.fld 2 (.t 2)⟩,
 ⟨some (32,false),some 39,.load false 1 (.t 38)⟩,
 ⟨some (32,false),some 40,.mv (.t 5)⟩,
 ⟨some (32,false),some 41,.idx 1 (.t 39) (.t 40)⟩,
 ⟨some (32,false),some 42,.load false 1 (.t 41)⟩,
 ⟨some (32,false),some 43,.bin .lss (.t 37) (.t 42)⟩,
 ⟨some (29,true),some 44,.pick (.t 32) (.c (.bool true)) (.t 43)⟩,
 sO 45 (.pick (.t 29) (.t 44) (.c (.bool false)))]
def aLb:SC:=.seq (.seq (.reg [qM 7 6,qF 8 2 2,ql 9 8,qN 10 9,qP 11 .lss 7 10]) (.cond (.t 11) (.skip) (.exit 0))) (.seq (.block 1 (.seq (.reg aRl) (.cond (.t 45) (.reg [qM 46 6,qM 5 46]) (.skip)))) (.reg [qM 12 6,qC 13 .add 12 1,qM 6 13]))
def s52:SF:=⟨48,[.tmp 4],.seq (.reg [sO 2 (.box 107 3 (.t 0)),qI 4 0]) (.seq (.reg [sO 5 (.mv (.c (.int .i64 (-1))))]) (.seq (.seq (.reg [qI 6 0]) (.block 0 (.loop aLb))) (.seq (.reg [qM 47 5,qM 4 47]) (.ret))))⟩
theorem aOj:aL Tryz.prog ⟨[58,129,130,131,149,155,161,182,183,185,191,192,208,209,210,224,228,231,236],[],[],[]⟩ Tryz.f52=some s52:=by kernel_rfl
theorem aCt (c:Cf) (a:List Int) (lim:Int) (hl:c.2.length=a.length):bB Tryz.prog 52 [(V.agg [(iV (c.1)),(V.sl (List.map cB (c.2))),(aS a)]),(iV (lim))] (iV (duS c.2 a lim a.length)):=by
 refine pW Tryz.func52 aOj fun hB=>?_
 unfold s52
 dsimp only
 refine W_r (eT (i:=2) (n:=0) (m:=3) (cs:=[(iV (c.1)),(V.sl (List.map cB (c.2))),(aS a)]) rfl (congrArg Blk.ver rfl) rfl rfl rfl (aA rfl (R_e (W_r (aA rfl (R_e (aC ?_)))))))
 refine W_r (aA rfl (R_e (aI fun Q1 n1 x1 y1 z1=>?_)))
 refine cW (fun mm T H=> ∃ (k:Nat),mm=a.length - k∧T 1=(iV (lim))∧T 2=(V.mp 2 1 0 0)∧T 5=(iV (duS c.2 a lim k))∧T 6=(iV ((k:Nat):Int))∧H 2=(bk 1 107 3 [[(iV (c.1)),(V.sl (List.map cB (c.2))),(aS a)]])∧(k≤a.length)) ?_ ?_
 ·
  refine ⟨_,0,rfl,rfl,rfl,(Eq.trans (@rfl V (iV (-1:Int))) (by first|rfl|(rw [d1]; done)|(rw [e9]; done)|simp)),(Eq.trans (@rfl V (iV (0:Int))) rfl),rfl,?_⟩
  · exact Nat.zero_le _
 intro mm T H ⟨k,hmm,t1,t2,t5,t6,h2,hk⟩ Q2 p12 p22 p32
 unfold aLb
 have hs:=vT (r:=c.2) (a:=a) (lim:=lim) k
 refine aC (W_r (aA t6 (aP t2 h2 (aK rfl h2 rfl rfl (bN rfl (bR rfl rfl (R_e ?_)))))))
 refine aO rfl (fun c3=>?_) fun c3=>?_
 ·
  refine aH (aI fun Q4 n4 x4 y4 z4=>(W_r (aP t2 h2 (aP rfl h2 (aK rfl h2 rfl rfl (aA t6 (bL (i:=k) (@rfl V (V.sl (List.map cB (c.2)))) (@rfl V (iV ((k:Nat):Int))) (by omega) rfl ?_)))))))
  refine aJ rfl rfl (aA rfl ?_)
  refine aV 8 (fun T H=>T 1=(iV (lim))∧T 2=(V.mp 2 1 0 0)∧T 5=(iV (duS c.2 a lim k))∧T 6=(iV ((k:Nat):Int))∧T 28=(V.bool ((((nth (c.2) (k)))&&decide (((nth (a) (k)))≤(lim)))))∧H 2=(bk 1 107 3 [[(iV (c.1)),(V.sl (List.map cB (c.2))),(aS a)]])∧True) ?_ ?_
  ·
   by_cases g5:((nth (c.2) (k)))=true
   ·
    refine aD (ebT g5 rfl) (aP t2 h2 (aD (ebT g5 rfl) (aK rfl h2 rfl rfl (aD (ebT g5 rfl) (aA t6 (aD (ebT g5 rfl) (bL (i:=k) (@rfl V (aS a)) (@rfl V (iV ((k:Nat):Int))) (by omega) rfl ?_)))))))
    refine aD (ebT g5 rfl) (aJ rfl rfl (aD (ebT g5 rfl) (aA t1 (aD (ebT g5 rfl) (xO rfl rfl (aX (ebT g5 rfl) rfl ?_))))))
    exact ⟨t1,t2,t5,t6,(aK3 g5),h2,trivial⟩
   ·
    refine G_n (ebF g5 rfl) (G_n (ebF g5 rfl) (G_n (ebF g5 rfl) (G_n (ebF g5 rfl) (G_n (ebF g5 rfl) (G_n (ebF g5 rfl) (G_n (ebF g5 rfl) (aW (ebF g5 rfl) rfl ?_)))))))
    exact ⟨t1,t2,t5,t6,(aLM g5),h2,trivial⟩
  intro T H ⟨t1,t2,t5,t6,t28,h2,_⟩
  refine aA t28 ?_
  refine aV 16 (fun T H=>T 1=(iV (lim))∧T 2=(V.mp 2 1 0 0)∧T 5=(iV (duS c.2 a lim k))∧T 6=(iV ((k:Nat):Int))∧T 45=(V.bool ((((((nth (c.2) (k)))&&decide (((nth (a) (k)))≤(lim))))&&decide (((duS c.2 a lim k) < (0:Int))∨(((nth (a) (k))) < ((nth (a) (duS c.2 a lim k).toNat)))))))∧H 2=(bk 1 107 3 [[(iV (c.1)),(V.sl (List.map cB (c.2))),(aS a)]])∧True) ?_ ?_
  ·
   by_cases g6:((((nth (c.2) (k)))&&decide (((nth (a) (k)))≤(lim))))=true
   ·
    have g6x:=g6
    try simp only [Bool.and_eq_true,Bool.or_eq_true,Bool.not_eq_true',decide_eq_true_eq] at g6x
    refine aD (ebT g6 rfl) (aA t5 (aD (ebT g6 rfl) (bR rfl rfl (aD (ebT g6 rfl) (aA rfl ?_)))))
    refine aV 12 (fun T H=>T 1=(iV (lim))∧T 2=(V.mp 2 1 0 0)∧T 5=(iV (duS c.2 a lim k))∧T 6=(iV ((k:Nat):Int))∧T 29=(V.bool true)∧T 30=(iV (duS c.2 a lim k))∧T 31=(V.bool (decide ((duS c.2 a lim k) < (0:Int))))∧T 32=(V.bool (decide ((duS c.2 a lim k) < (0:Int))))∧T 44=(V.bool (decide (((duS c.2 a lim k) < (0:Int))∨(((nth (a) (k))) < ((nth (a) (duS c.2 a lim k).toNat))))))∧H 2=(bk 1 107 3 [[(iV (c.1)),(V.sl (List.map cB (c.2))),(aS a)]])∧True) ?_ ?_
    ·
     by_cases g7:(duS c.2 a lim k) < (0:Int)
     ·
      refine G_n (edT g7 rfl) (G_n (edT g7 rfl) (G_n (edT g7 rfl) (G_n (edT g7 rfl) (G_n (edT g7 rfl) (G_n (edT g7 rfl) (G_n (edT g7 rfl) (G_n (edT g7 rfl) ?_)))))))
      refine G_n (edT g7 rfl) (G_n (edT g7 rfl) (G_n (edT g7 rfl) (aD (ebT g6 rfl) (aX (edT g7 rfl) rfl ?_))))
      exact ⟨t1,t2,t5,t6,(ebT g6 rfl),rfl,rfl,rfl,(bO g7),h2,trivial⟩
     ·
      refine aD (edF g7 rfl) (aP t2 h2 (aD (edF g7 rfl) (aK rfl h2 rfl rfl (aD (edF g7 rfl) (aA t6 (aD (edF g7 rfl) (bL (i:=k) (@rfl V (aS a)) (@rfl V (iV ((k:Nat):Int))) (by omega) rfl ?_)))))))
      refine aD (edF g7 rfl) (aJ rfl rfl (aD (edF g7 rfl) (aP t2 h2 (aD (edF g7 rfl) (aK rfl h2 rfl rfl (aD (edF g7 rfl) (aA t5 ?_)))))))
      refine aD (edF g7 rfl) (gU (i:=(duS c.2 a lim k)) (@rfl V (aS a)) (@rfl V (iV (duS c.2 a lim k))) (by omega) (by omega) rfl (aD (edF g7 rfl) (aJ rfl rfl (aD (edF g7 rfl) (bR rfl rfl (aD (ebT g6 rfl) (aW (edF g7 rfl) rfl ?_)))))))
      exact ⟨t1,t2,t5,t6,(ebT g6 rfl),rfl,rfl,rfl,(bP g7),h2,trivial⟩
    intro T H ⟨t1,t2,t5,t6,t29,t30,t31,t32,t44,h2,_⟩
    refine aX t29 t44 ?_
    exact ⟨t1,t2,t5,t6,(aK3 g6),h2,trivial⟩
   ·
    have g6x:=g6
    try simp only [Bool.and_eq_true,Bool.or_eq_true,Bool.not_eq_true',decide_eq_true_eq] at g6x
    refine G_n (ebF g6 rfl) (G_n (ebF g6 rfl) (G_n (ebF g6 rfl) (fO (@rfl V (V.raw undef)) (fO (@rfl V (V.raw undef)) (fO (@rfl V (V.raw undef)) (fO (@rfl V (V.raw undef)) (fO (@rfl V (V.raw undef)) ?_)))))))
    refine fO (@rfl V (V.raw undef)) (fO (@rfl V (V.raw undef)) (fO (@rfl V (V.raw undef)) (fO (@rfl V (V.raw undef)) (fO (@rfl V (V.raw undef)) (fO (@rfl V (V.raw undef)) (G_n (ebF g6 rfl) (aW (ebF g6 rfl) rfl ?_)))))))
    exact ⟨t1,t2,t5,t6,(aLM g6),h2,trivial⟩
  intro T H ⟨t1,t2,t5,t6,t45,h2,_⟩
  refine R_e ?_
  refine aDv t45 (fun c8=>?_) (fun c8=>?_)
  ·
   have d1:duS c.2 a lim (k+1)=((k:Nat):Int):=by
     have q:=c8
     simp only [Bool.and_eq_true,Bool.or_eq_true,decide_eq_true_eq] at q
     rw [duS,if_pos ⟨q.1.1,q.1.2,q.2⟩]
   refine W_t (aA t6 (aA rfl (R_e (n4 _ _ (.done (W_t (aA t6 ?_)))))))
   refine bV rfl (@rfl V (iV ((1:Nat):Int))) (by omega) (aA rfl (R_e ?_))
   refine p12 _ _ _ ?_ ⟨(k+1),rfl,t1,t2,(Eq.trans (@rfl V (iV ((k:Nat):Int))) (by first|rfl|(rw [d1]; done)|(rw [e9]; done)|simp)),(Eq.trans (@rfl V (iV ((k+1:Nat):Int))) (by first|rfl|(rw [d1]; done)|(rw [e9]; done)|simp)),h2,?_⟩
   · omega
   · omega
  have d1:duS c.2 a lim (k+1)=duS c.2 a lim k:=by
    have q:=c8
    rw [duS,if_neg fun z=>?_]
    obtain ⟨z1,z2,z3⟩:=z
    have:(nth c.2 k&&decide (nth a k≤lim)&&decide (duS c.2 a lim k < 0∨nth a k < nth a (duS c.2 a lim k).toNat))=true:=by
      simp only [Bool.and_eq_true,decide_eq_true_eq]; exact ⟨⟨z1,z2⟩,z3⟩
    rw [this] at q; cases q
  refine cX (n4 _ _ (.done (W_t (aA t6 (bV rfl (@rfl V (iV ((1:Nat):Int))) (by omega) (aA rfl (R_e ?_)))))))
  refine p12 _ _ _ ?_ ⟨(k+1),rfl,t1,t2,(Eq.trans t5 (by first|rfl|(rw [d1]; done)|(rw [e9]; done)|simp)),(Eq.trans (@rfl V (iV ((k+1:Nat):Int))) (by first|rfl|(rw [d1]; done)|(rw [e9]; done)|simp)),h2,?_⟩
  · omega
  · omega
 have e9:k=a.length:=by omega
 refine bA (p32 _ _ _ (x1 _ _ (.done (W_r (aA t5 (aA rfl (R_e ?_)))))))
 refine bK ?_
 refine bH (@rfl V (iV (duS c.2 a lim k))) (aQ ?_)
 · rw [e9]
def aSK:List SO:=[
 qM 14 3,
 qM 15 2,
 qF 16 4 4,
 ql 17 16,
 qF 18 0 5,
 qF 19 0 18,
 ql 20 19,
 qA 21 1 17 20,
 ql 22 21,
 qM 23 2,
 qA 24 1 22 23,
 ql 25 24,
 sO 26 (.build [.int .i64 0,.int .i64 0,.int .i64 0] [(0,1,.t 14),(1,1,.t 15),(2,1,.t 25)]),
 sO 10 (.alloc 110 [.int .i64 0,.int .i64 0,.int .i64 0]),
 sN (.store 3 (.t 10) (.t 26))]
def aRu:List SO:=[
 qF 27 5 4,
 ql 28 27,
 qF 29 0 5,
 qF 30 0 29,
 ql 31 30,
 qA 32 1 28 31,
 ql 33 32,
 qM 34 2,
 qA 35 2 33 34,
 qL 36 2 35,
 sO 11 (.alloc 73 [.int .i64 0,.int .i64 0]),
 sN (.store 2 (.t 11) (.t 36))]
def aSs:List SO:=[
 qF 37 2 5,
 ql 38 37,
 qN 39 38,
 sO 40 (.mks 3 1 8 [.int .i64 0] (.t 39) (.t 39)),
 sO 41 (.build [.int .i64 0,.nilsl,.nilsl] [(2,1,.t 40)]),
 sO 12 (.alloc 107 [.int .i64 0,.nilsl,.nilsl]),
 sN (.store 3 (.t 12) (.t 41))]
def aRH:List SO:=[
 qF 49 2 12,
 ql 50 49,
 qM 51 13,
 qF 52 2 5,
 ql 53 52,
 qM 54 13,
 qA 55 1 53 54,
 ql 56 55,
 qA 57 1 50 51,
 sN (.store 1 (.t 57) (.t 56))]
def aLd:SC:=.seq (.seq (.reg [qM 42 13,qF 43 2 5,ql 44 43,qN 45 44,qP 46 .lss 42 45]) (.cond (.t 46) (.skip) (.exit 0))) (.seq (.block 1 (.reg aRH)) (.reg [qM 47 13,qC 48 .add 47 1,qM 13 48]))
def aTf:List SO:=[
 qL 59 6 4,
 qF 60 0 5,
 qL 61 2 60,
 qM 62 2,
 sO 63 (.call false 46 [.t 59,.t 61,.t 62]),
 qM 58 63,
 qE 64 58 0,
 qE 65 58 1,
 qF 66 0 12,
 sN (.store 2 (.t 66) (.t 64))]
def aRz:List SO:=[
 qF 67 0 11,
 ql 68 67,
 qC 69 .geq 68 0,
 qM 70 69,
 ⟨some (70,true),some 71,.fld 1 (.t 11)⟩,
 ⟨some (70,true),some 72,.load false 1 (.t 71)⟩,
 ⟨some (70,true),some 73,.bin .gtr (.t 72) (.c (.int .i64 0))⟩,
 sO 74 (.pick (.t 70) (.t 73) (.c (.bool false)))]
def aMt:List SO:=[
 qF 75 2 12,
 ql 76 75,
 qF 77 0 11,
 ql 78 77,
 qM 79 3,
 qF 80 1 11,
 ql 81 80,
 qP 82 .add 79 81,
 qA 83 1 76 78,
 sN (.store 1 (.t 83) (.t 82))]
def s53:SF:=⟨86,[.cell 8 true 3,.cell 9 true 3],.seq (.reg [sO 4 (.box 29 6 (.t 0)),sO 5 (.box 107 3 (.t 1)),sO 8 (.alloc 107 [.int .i64 0,.nilsl,.nilsl]),sO 9 (.alloc 110 [.int .i64 0,.int .i64 0,.int .i64 0])]) (.seq (.reg aSK) (.seq (.reg aRu) (.seq (.reg aSs) (.seq (.seq (.reg [qI 13 0]) (.block 0 (.loop aLd))) (.seq (.reg aTf) (.seq (.seq (.reg aRz) (.cond (.t 74) (.reg aMt) (.skip))) (.seq (.xreg [(10,3,8,3)] [qL 84 3 12,qL 85 3 10,sN (.store 3 (.t 8) (.t 84)),sN (.store 3 (.t 9) (.t 85))]) (.ret))))))))⟩
theorem aM0:aL Tryz.prog ⟨[58,129,130,131,149,155,161,182,183,185,191,192,208,209,210,224,228,231,236],[],[],[]⟩ Tryz.f53=some s53:=by kernel_rfl
def aTU:List SO:=[
 qF 10 3 3,
 ql 11 10,
 qF 12 0 4,
 ql 13 12,
 qA 14 1 11 13,
 ql 15 14,
 qM 16 2,
 qA 17 1 15 16,
 ql 18 17,
 qF 19 1 4,
 ql 20 19,
 sO 21 (.callA 79 [.t 20]),
 sO 22 (.build [.int .i64 0,.nilsl] [(0,1,.t 18),(1,1,.t 21)]),
 sO 8 (.alloc 95 [.int .i64 0,.nilsl]),
 sN (.store 2 (.t 8) (.t 22))]
def aRe:List SO:=[
 qF 27 1 8,
 ql 28 27,
 qM 29 2,
 qF 30 0 3,
 ql 31 30,
 qP 32 .sub 29 31,
 qA 33 1 28 32,
 sN (.store 1 (.t 33) (.c (.bool false)))]
def aRR:List SO:=[
 qF 34 5 3,
 ql 35 34,
 qF 36 0 4,
 ql 37 36,
 qA 38 1 35 37,
 ql 39 38,
 qM 40 2,
 qA 41 2 39 40,
 qL 42 2 41,
 sO 9 (.alloc 73 [.int .i64 0,.int .i64 0]),
 sN (.store 2 (.t 9) (.t 42))]
def aTI:List SO:=[
 qF 43 0 9,
 ql 44 43,
 qC 45 .lss 44 0,
 qM 46 45,
 ⟨some (46,false),some 47,.fld 1 (.t 9)⟩,
 ⟨some (46,false),some 48,.load false 1 (.t 47)⟩,
 ⟨some (46,false),some 49,.bin .eql (.t 48) (.c (.int .i64 0))⟩,
 ⟨some (46,false),some 50,.mv (.t 49)⟩,
 ⟨some (50,true),some 51,.fld 1 (.t 8)⟩,
 ⟨some (50,true),some 52,.load false 1 (.t 51)⟩,
 ⟨some (50,true),some 53,.fld 0 (.t 9)⟩,
 ⟨some (50,true),some 54,.load false 1 (.t 53)⟩,
 ⟨some (50,true),some 55,.idx 1 (.t 52) (.t 54)⟩,
 ⟨some (50,true),some 56,.load false 1 (.t 55)⟩,
 ⟨some (50,true),some 57,.un .not (.t 56)⟩,
 ⟨some (46,false),some 58,.pick (.t 50) (.t 57) (.c (.bool false))⟩,
 sO 59 (.pick (.t 46) (.c (.bool true)) (.t 58))]
def aRJ:List SO:=[
 qF 61 1 8,
 ql 62 61,
 qF 63 0 9,
 ql 64 63,
 qF 65 1 9,
 ql 66 65,
 qC 67 .gtr 66 0,
 qA 68 1 62 64,
 sN (.store 1 (.t 68) (.t 67))]
def aK0:List SO:=[
 qL 69 2 8,
 qF 70 0 9,
 ql 71 70,
 qC 72 .mul 71 1001,
 sO 73 (.bin .add (.c (.int .i64 1)) (.t 72)),
 qF 74 1 9,
 ql 75 74,
 qP 76 .add 73 75,
 sN (.store 2 (.t 6) (.t 69)),
 qM 7 76]
def s46:SF:=⟨77,[.cell 6 true 2,.tmp 7],.seq (.reg [sO 3 (.box 29 6 (.t 0)),sO 4 (.box 95 2 (.t 1)),sO 6 (.alloc 95 [.int .i64 0,.nilsl]),qI 7 0]) (.seq (.dreg [21,8] aTU) (.seq (.seq (.reg [qM 23 2,qF 24 0 3,ql 25 24,qP 26 .geq 23 25]) (.cond (.t 26) (.reg aRe) (.skip))) (.seq (.reg aRR) (.seq (.seq (.reg aTI) (.cond (.t 59) (.seq (.reg [qL 60 2 8,sN (.store 2 (.t 6) (.t 60)),qI 7 0]) (.ret)) (.skip))) (.seq (.reg aRJ) (.seq (.xreg [(70,1,6,2),(74,1,6,2)] aK0) (.ret)))))))⟩
theorem aOt:aL Tryz.prog ⟨[58,129,130,131,149,155,161,182,183,185,191,192,208,209,210,224,228,231,236],[21],[],[]⟩ Tryz.f46=some s46:=by kernel_rfl
def aTA:List SO:=[
 qM 14 3,
 qM 15 4,
 qM 16 0,
 qM 17 4,
 qA 18 1 16 17,
 ql 19 18,
 qA 20 1 14 15,
 sN (.store 1 (.t 20) (.t 19))]
def aLg:SC:=.seq (.seq (.reg [qM 8 4,qM 9 0,qN 10 9,qP 11 .lss 8 10]) (.cond (.t 11) (.skip) (.exit 0))) (.seq (.block 1 (.reg aTA)) (.reg [qM 12 4,qC 13 .add 12 1,qM 4 13]))
def s79:SF:=⟨22,[.tmp 2],.seq (.reg [sO 2 (.mv (.c (.nilsl)))]) (.seq (.reg [qM 5 0,qN 6 5,sO 7 (.mks 4 1 1 [.bool false] (.t 6) (.t 6)),qM 3 7]) (.seq (.seq (.reg [qI 4 0]) (.block 0 (.loop aLg))) (.seq (.reg [qM 21 3,qM 2 21]) (.ret))))⟩
theorem aQJ:aL Tryz.prog ⟨[58,129,130,131,149,155,161,182,183,185,191,192,208,209,210,224,228,231,236],[],[],[]⟩ Tryz.f79=some s79:=by kernel_rfl
end Go.Proofs.YtilfohjlglefjaaGreat
namespace Go.Proofs.YtilfohjlglefjaaGreat
open Go Go.Proofs
attribute [local irreducible] tN
theorem aUl (i:Nat) (h7:7≤i) (l:List Bool) (u:Nat) (Hi:aF) (hq:(Hi i).ver=u) (hl:l.length≤1073741824):dG Tryz.prog 79 [(V.sl (List.map cB (l)))] Hi (V.ms i (u+1) 0 (l.length)) (upd Hi i (bk (u+1) 4 1 (List.map cB (l)))):=by
 refine eW (k0:=i - 7) Tryz.func79 aQJ fun hB=>?_
 unfold s79
 dsimp only
 refine W_r (aA rfl (R_e (W_r (aA rfl (bN rfl ?_)))))
 refine (aLD (i:=i) (n:=u) (m:=l.length) (q:=l.length) (by omega) hq (@rfl V (iV ((l.length:Nat):Int))) (@rfl V (iV ((l.length:Nat):Int))) (by first|omega|(rw [cC]; omega)) (by first|omega|(rw [cC]; omega)) (by first|omega|(rw [cC]; omega)) ?_)
 refine aA rfl (R_e (aC (W_r (aA rfl (R_e (aI fun Q1 n1 x1 y1 z1=>?_))))))
 refine cW (fun mm T H=> ∃ (k:Nat),mm=l.length - k∧T 0=(V.sl (List.map cB (l)))∧T 3=(V.ms i (u+1) 0 (l.length))∧T 4=(iV ((k:Nat):Int))∧(∀ j,j∉[i]→H j=Hi j)∧H i=(bk (u+1) 4 1 (List.map cB (jE (nth l) false l.length k)))∧(k≤l.length)) ?_ ?_
 ·
  refine ⟨_,0,rfl,rfl,rfl,(Eq.trans (@rfl V (iV (0:Int))) rfl),(eX (fun _ _=>rfl) (by simp)),(Eq.trans (aE _ _ _) (by first|rfl|(rw [← jS,List.map_replicate]; rfl)|(rw [← lR (f:=nth l) (z:=false) (n:=l.length) (j:=k) (by omega)]; first|done|rfl|(rw [List.map_set]; rfl))|(rw [e9]; done)|(rw [e9]; rfl)|simp)),?_⟩
  · exact Nat.zero_le _
 intro mm T H ⟨k,hmm,t0,t3,t4,hF,hi,hk⟩ Q2 p12 p22 p32
 unfold aLg
 refine aC (W_r (aA t4 (aA t0 (bN rfl (bR rfl rfl (R_e ?_))))))
 refine aO rfl (fun c3=>?_) fun c3=>?_
 ·
  refine aH (aI fun Q4 n4 x4 y4 z4=>(W_t (aA t3 (aA t4 (aA t0 (aA t4 (bL (i:=k) (@rfl V (V.sl (List.map cB (l)))) (@rfl V (iV ((k:Nat):Int))) (by first|omega|(rw [cC]; omega)) rfl ?_)))))))
  refine aJ rfl rfl (dB (i:=k) (@rfl V (V.ms i (u+1) 0 (l.length))) (@rfl V (iV ((k:Nat):Int))) hi oB rfl (by first|omega|(rw [cC]; omega)) (bQ (vs:=[(V.bool ((nth (l) (k))))]) (B':=(bk (u+1) 4 1 (List.map cB ((jE (nth l) false l.length k).set k ((nth (l) (k))))))) rfl rfl rfl hi (iE (x:=((nth (l) (k)))) (i:=k) (by first|omega|(rw [cC]; omega)) rfl rfl rfl rfl) (R_e (n4 _ _ (.done (W_t (aA t4 ?_)))))))
  refine bV rfl (@rfl V (iV ((1:Nat):Int))) (by first|omega|(rw [cC]; omega)) (aA rfl (R_e ?_))
  refine p12 _ _ _ ?_ ⟨(k+1),rfl,t0,t3,(Eq.trans (@rfl V (iV ((k+1:Nat):Int))) (by first|rfl|simp)),(eX hF (by simp)),(Eq.trans (aE _ _ _) (by first|rfl|(rw [← jS,List.map_replicate]; rfl)|(rw [← lR (f:=nth l) (z:=false) (n:=l.length) (j:=k) (by omega)]; first|done|rfl|(rw [List.map_set]; rfl))|(rw [e9]; done)|(rw [e9]; rfl)|simp)),?_⟩
  · omega
  · omega
 have e9:jE (nth l) false l.length k=l:=aGN (by omega)
 refine bA (p32 _ _ _ (x1 _ _ (.done (W_r (aA t3 (aA rfl (R_e ?_)))))))
 refine bK (dE (R:=fun T H=>T 2=(V.ms i (u+1) 0 (l.length))∧(∀ j,j∉[i]→H j=Hi j)∧H i=(bk (u+1) 4 1 (List.map cB (jE (nth l) false l.length k)))∧True) ⟨(@rfl V (V.ms i (u+1) 0 (l.length))),hF,hi,trivial⟩ ?_)
 intro T H ⟨t2,hF,hi,_⟩
 have fh:=fE.fin (fE.put (B:=(bk (u+1) 4 1 (List.map cB (l)))) (fE.start hF) hi (jQ.eq (by first|rfl|(rw [← jS,List.map_replicate]; rfl)|(rw [← lR (f:=nth l) (z:=false) (n:=l.length) (j:=k) (by omega)]; first|done|rfl|(rw [List.map_set]; rfl))|(rw [e9]; done)|(rw [e9]; rfl)|simp)))
 exact jP t2 fh (fK.trans_eq (fK.same fh _) rfl)
end Go.Proofs.YtilfohjlglefjaaGreat
namespace Go.Proofs.YtilfohjlglefjaaGreat
open Go Go.Proofs
theorem aC4 (t:TM) (c:Cf) (i:Nat) (ht:TOK t) (hc:mU t c) (hj:(i:Int) < t.i+t.tm) (hp:psB t c i=true):bB Tryz.prog 46 [(V.agg [(iV (t.i)),(iV (t.tm)),(iV (t.s)),(aB t.nx),(aB t.ot),(V.sl (List.map cSr (t.st)))]),(V.agg [(iV (c.1)),(V.sl (List.map cB (c.2)))]),(iV ((i:Nat):Int))] (V.tup [(V.agg [(iV ((afT t c i).1)),(V.sl (List.map cB ((afT t c i).2)))]),(iV (afC t c i))]):=by
 refine pW Tryz.func46 aOt fun hB=>?_
 unfold s46
 dsimp only
 obtain ⟨h1,h2,h3,h4,h5,h6,h7,h8,h9,h10,h11,h12⟩:=ht
 have hc1:=hc.1
 have hc2:=hc.2.1
 have hc3:=hc.2.2
 have hr:=h12 c.1.toNat (by omega)
 have hx:=hr.2.2.2 i hj
 unfold tSt at hx
 have l0:=cD (t:=t) (c:=c) (i:=i)
 refine W_r (eT (i:=3) (n:=0) (m:=6) (cs:=[(iV (t.i)),(iV (t.tm)),(iV (t.s)),(aB t.nx),(aB t.ot),(V.sl (List.map cSr (t.st)))]) rfl (congrArg Blk.ver rfl) rfl rfl rfl (eT (i:=4) (n:=0) (m:=2) (cs:=[(iV (c.1)),(V.sl (List.map cB (c.2)))]) rfl (congrArg Blk.ver rfl) rfl rfl rfl (cK (i:=6) (n:=0) (m:=2) rfl (congrArg Blk.ver rfl) rfl (aA rfl (R_e (W_d (by exact (lV rfl (lV rfl wM))) (aP rfl rfl ?_)))))))
 refine aK rfl rfl rfl rfl (aP rfl rfl (aK rfl rfl rfl rfl (gU (i:=(c.1)) (@rfl V (aB t.nx)) (@rfl V (iV (c.1))) (by first|omega|(rw [cD]; omega)) (by first|omega|(rw [cD]; omega)) rfl (aJ rfl rfl (aA rfl (bL (i:=i) (@rfl V (aS ((nth (t.nx) (c.1).toNat)))) (@rfl V (iV ((i:Nat):Int))) (by first|omega|(rw [cD]; omega)) rfl (aJ rfl rfl ?_)))))))
 refine aP rfl rfl (aK rfl rfl rfl rfl (aKI (i:=21) (n:=0) (B:=(bk 1 4 1 (List.map cB (c.2)))) rfl (congrArg Blk.ver rfl) (dH rfl iH) rfl (fun H2 h2=>aUl 21 (by decide) c.2 0 H2 h2 (by omega)) (eM rfl rfl (cK (i:=8) (n:=0) (m:=2) rfl (congrArg Blk.ver rfl) rfl (mM rfl rfl rfl rfl rfl rfl rfl rfl rfl (R_e (aC ?_)))))))
 refine W_r (aA rfl (aP rfl rfl (aK rfl rfl rfl rfl (jL rfl rfl (R_e ?_)))))
 refine nA (fun T H=>T 2=(iV ((i:Nat):Int))∧T 3=(V.mp 3 1 0 0)∧T 4=(V.mp 4 1 0 0)∧T 6=(V.mp 6 1 0 0)∧T 8=(V.mp 8 1 0 0)∧H 3=(bk 1 29 6 [[(iV (t.i)),(iV (t.tm)),(iV (t.s)),(aB t.nx),(aB t.ot),(V.sl (List.map cSr (t.st)))]])∧H 4=(bk 1 95 2 [[(iV (c.1)),(V.sl (List.map cB (c.2)))]])∧H 6=(bk 1 95 2 [[(iV (0:Int)),V.nilsl]])∧H 8=(bk 1 95 2 [[(iV ((nth ((nth (t.nx) (c.1).toNat)) (i)))),(V.ms 21 1 0 (c.2.length))]])∧H 9=(⟨0,false,false,0,0,[]⟩:Blk)∧H 21=(bk 1 4 1 (List.map cB (af0 t c i)))∧True) (fun Q1 n1 y1 z1=>?_) ?_
 ·
  refine fR rfl (fun c2=>?_) fun c2=>?_
  ·
   have e2:c.2.set (((i:Nat):Int) - t.i).toNat false=af0 t c i:=(if_pos (by omega)).symm
   refine W_t (aP rfl rfl (aK rfl rfl rfl rfl (aA rfl (aP rfl rfl (aK rfl rfl rfl rfl (yQ rfl rfl (by first|omega|(rw [cD]; omega)) (by first|omega|(rw [cD]; omega)) (dY (i:=(((i:Nat):Int) - (t.i))) (@rfl V (V.ms 21 1 0 (c.2.length))) (@rfl V (iV (((i:Nat):Int) - (t.i)))) (@rfl Blk (bk 1 4 1 (List.map cB (c.2)))) oB rfl (by first|omega|(rw [cD]; omega)) (by first|omega|(rw [cD]; omega)) ?_)))))))
   refine bQ (vs:=[(V.bool false)]) (B':=(bk 1 4 1 (List.map cB ((c.2).set (((((i:Nat):Int) - (t.i))).toNat) false)))) rfl rfl rfl (@rfl Blk (bk 1 4 1 (List.map cB (c.2)))) (iE (x:=false) (i:=(((((i:Nat):Int) - (t.i))).toNat)) (by first|omega|(rw [cD]; omega)) rfl rfl rfl rfl) (R_e ?_)
   exact n1 _ _ ⟨rfl,rfl,rfl,rfl,rfl,rfl,rfl,rfl,rfl,rfl,(Eq.trans (@rfl Blk (bk 1 4 1 (List.map cB ((c.2).set (((((i:Nat):Int) - (t.i))).toNat) false)))) (by first|rfl|(rw [e2]; rfl)|(rw [e2]; done)|simp)),trivial⟩
  have e2:c.2=af0 t c i:=(if_neg (by omega)).symm
  refine cX ?_
  exact n1 _ _ ⟨rfl,rfl,rfl,rfl,rfl,rfl,rfl,rfl,rfl,rfl,(Eq.trans (@rfl Blk (bk 1 4 1 (List.map cB (c.2)))) (by first|rfl|(rw [e2]; rfl)|(rw [e2]; done)|simp)),trivial⟩
 intro T H ⟨t2,t3,t4,t6,t8,h3,h4,h6,h8,h9,h21,_⟩
 refine W_r (aP t3 h3 (aK rfl h3 rfl rfl (aP t4 h4 (aK rfl h4 rfl rfl (gU (i:=(c.1)) (@rfl V (V.sl (List.map cSr (t.st)))) (@rfl V (iV (c.1))) (by first|omega|(rw [cD]; omega)) (by first|omega|(rw [cD]; omega)) rfl (aJ rfl rfl (aA t2 ?_)))))))
 refine bL (i:=i) (@rfl V (V.sl (List.map cSg ((nth (t.st) (c.1).toNat))))) (@rfl V (iV ((i:Nat):Int))) (by first|omega|(rw [cD]; omega)) rfl (aJ rfl rfl (cK (i:=9) (n:=0) (m:=2) rfl (congrArg Blk.ver h9) rfl (mM rfl rfl rfl rfl rfl rfl rfl rfl rfl (R_e (aC (W_r (aP rfl rfl ?_)))))))
 refine aK rfl rfl rfl rfl (bR rfl rfl (aA rfl ?_))
 refine aV 13 (fun T H=>T 6=(V.mp 6 1 0 0)∧T 8=(V.mp 8 1 0 0)∧T 9=(V.mp 9 1 0 0)∧T 59=(V.bool ((decide ((((nth ((nth (t.st) (c.1).toNat)) (i))).1) < (0:Int))||((decide ((((nth ((nth (t.st) (c.1).toNat)) (i))).2)=(0:Int))&&((!(nth (af0 t c i) (((((nth ((nth (t.st) (c.1).toNat)) (i))).1)).toNat)))))))))∧H 3=(bk 1 29 6 [[(iV (t.i)),(iV (t.tm)),(iV (t.s)),(aB t.nx),(aB t.ot),(V.sl (List.map cSr (t.st)))]])∧H 4=(bk 1 95 2 [[(iV (c.1)),(V.sl (List.map cB (c.2)))]])∧H 6=(bk 1 95 2 [[(iV (0:Int)),V.nilsl]])∧H 8=(bk 1 95 2 [[(iV ((nth ((nth (t.nx) (c.1).toNat)) (i)))),(V.ms 21 1 0 (c.2.length))]])∧H 9=(bk 1 73 2 [[(iV (((nth ((nth (t.st) (c.1).toNat)) (i))).1)),(iV (((nth ((nth (t.st) (c.1).toNat)) (i))).2))]])∧H 21=(bk 1 4 1 (List.map cB (af0 t c i)))∧True) ?_ ?_
 ·
  by_cases g3:(((nth ((nth (t.st) (c.1).toNat)) (i))).1) < (0:Int)
  ·
   refine G_n (edT g3 rfl) (G_n (edT g3 rfl) (G_n (edT g3 rfl) (G_n (edT g3 rfl) (fO (@rfl V (V.raw undef)) (fO (@rfl V (V.raw undef)) (fO (@rfl V (V.raw undef)) (fO (@rfl V (V.raw undef)) ?_)))))))
   refine fO (@rfl V (V.raw undef)) (fO (@rfl V (V.raw undef)) (fO (@rfl V (V.raw undef)) (G_n (edT g3 rfl) (aX (edT g3 rfl) rfl ?_))))
   exact ⟨t6,t8,rfl,(aEN g3),h3,h4,h6,h8,rfl,h21,trivial⟩
  ·
   refine aD (edF g3 rfl) (aP rfl rfl (aD (edF g3 rfl) (aK rfl rfl rfl rfl (aD (edF g3 rfl) (kD rfl rfl (aD (edF g3 rfl) (aA rfl ?_)))))))
   refine aV 8 (fun T H=>T 6=(V.mp 6 1 0 0)∧T 8=(V.mp 8 1 0 0)∧T 9=(V.mp 9 1 0 0)∧T 46=(V.bool false)∧T 58=(V.bool ((decide ((((nth ((nth (t.st) (c.1).toNat)) (i))).2)=(0:Int))&&((!(nth (af0 t c i) (((((nth ((nth (t.st) (c.1).toNat)) (i))).1)).toNat)))))))∧H 3=(bk 1 29 6 [[(iV (t.i)),(iV (t.tm)),(iV (t.s)),(aB t.nx),(aB t.ot),(V.sl (List.map cSr (t.st)))]])∧H 4=(bk 1 95 2 [[(iV (c.1)),(V.sl (List.map cB (c.2)))]])∧H 6=(bk 1 95 2 [[(iV (0:Int)),V.nilsl]])∧H 8=(bk 1 95 2 [[(iV ((nth ((nth (t.nx) (c.1).toNat)) (i)))),(V.ms 21 1 0 (c.2.length))]])∧H 9=(bk 1 73 2 [[(iV (((nth ((nth (t.st) (c.1).toNat)) (i))).1)),(iV (((nth ((nth (t.st) (c.1).toNat)) (i))).2))]])∧H 21=(bk 1 4 1 (List.map cB (af0 t c i)))∧True) ?_ ?_
   ·
    by_cases g4:(((nth ((nth (t.st) (c.1).toNat)) (i))).2)=(0:Int)
    ·
     refine aD (edT g4 rfl) (aP t8 h8 (aD (edT g4 rfl) (aK rfl h8 rfl rfl (aD (edT g4 rfl) (aP rfl rfl (aD (edT g4 rfl) (aK rfl rfl rfl rfl ?_)))))))
     refine aD (edT g4 rfl) (dY (i:=(((nth ((nth (t.st) (c.1).toNat)) (i))).1)) (@rfl V (V.ms 21 1 0 (c.2.length))) (@rfl V (iV (((nth ((nth (t.st) (c.1).toNat)) (i))).1))) h21 oB rfl (by first|omega|(rw [cD]; omega)) (by first|omega|(rw [cD]; omega)) (aD (edT g4 rfl) (bT (v:=(V.bool ((nth (af0 t c i) (((((nth ((nth (t.st) (c.1).toNat)) (i))).1)).toNat))))) rfl h21 (dW (by first|omega|(rw [cD]; omega)) (by first|rfl|(rw [cF_eq]; rfl)|simp [ldV,V.one])) (aD (edT g4 rfl) (oK rfl (aD (edF g3 rfl) (aX (edT g4 rfl) rfl ?_)))))))
     exact ⟨t6,t8,rfl,(edF g3 rfl),(aCM g4),h3,h4,h6,h8,rfl,h21,trivial⟩
    ·
     refine G_n (edF g4 rfl) (G_n (edF g4 rfl) (G_n (edF g4 rfl) (G_n (edF g4 rfl) (G_n (edF g4 rfl) (G_n (edF g4 rfl) (G_n (edF g4 rfl) (aD (edF g3 rfl) ?_)))))))
     refine aW (edF g4 rfl) rfl ?_
     exact ⟨t6,t8,rfl,(edF g3 rfl),(aC8 g4),h3,h4,h6,h8,rfl,h21,trivial⟩
   intro T H ⟨t6,t8,t9,t46,t58,h3,h4,h6,h8,h9,h21,_⟩
   refine aW t46 t58 ?_
   exact ⟨t6,t8,t9,(aDZ g3),h3,h4,h6,h8,h9,h21,trivial⟩
 intro T H ⟨t6,t8,t9,t59,h3,h4,h6,h8,h9,h21,_⟩
 refine R_e ?_
 refine eC t59 (fun c5=>?_) (fun c5=>?_)
 ·
  obtain ⟨d1,d2,d3⟩:=aEd c5
  refine aC (W_r (aK t8 h8 rfl rfl (mM t6 rfl rfl h6 rfl rfl rfl rfl rfl (aA rfl (R_e (aU ?_))))))
  refine oJ (jO (u:=(V.agg [(iV ((nth ((nth (t.nx) (c.1).toNat)) (i)))),(V.ms 21 1 0 (c.2.length))])) t6 (@rfl Blk (bk 1 95 2 [[(iV ((nth ((nth (t.nx) (c.1).toNat)) (i)))),(V.ms 21 1 0 (c.2.length))]])) (lB oB rfl rfl)) (iQ (@rfl V (iV (0:Int)))) (aDz (aQ ?_) (nS h21 (by first|rfl|simp) (l:=(af0 t c i)) rfl (by first|rfl|(rw [cD])|(rw [List.length_set,cD])|simp) (fun _=>by simp) ?_)) (aQ ?_)
  · rfl
  · exact d2.symm
  · exact d3.symm
 obtain ⟨d1,d2,d3⟩:=aHk c5
 refine aH (W_r (aP t8 h8 (aK rfl h8 rfl rfl (aP t9 h9 (aK rfl h9 rfl rfl (aP t9 h9 (aK rfl h9 rfl rfl ?_)))))))
 refine eU rfl rfl (dY (i:=(((nth ((nth (t.st) (c.1).toNat)) (i))).1)) (@rfl V (V.ms 21 1 0 (c.2.length))) (@rfl V (iV (((nth ((nth (t.st) (c.1).toNat)) (i))).1))) h21 oB rfl (by first|omega|(rw [cD]; omega)) (by first|omega|(rw [cD]; omega)) (bQ (vs:=[(V.bool (decide ((0:Int) < (((nth ((nth (t.st) (c.1).toNat)) (i))).2))))]) (B':=(bk 1 4 1 (List.map cB ((af0 t c i).set (((((nth ((nth (t.st) (c.1).toNat)) (i))).1)).toNat) (decide ((0:Int) < (((nth ((nth (t.st) (c.1).toNat)) (i))).2))))))) rfl rfl rfl h21 (iE (x:=(decide ((0:Int) < (((nth ((nth (t.st) (c.1).toNat)) (i))).2)))) (i:=(((((nth ((nth (t.st) (c.1).toNat)) (i))).1)).toNat)) (by first|omega|(rw [cD]; omega)) rfl rfl rfl rfl) (R_e (W_x (aK t8 h8 rfl rfl (aP t9 h9 (aK rfl h9 rfl rfl ?_)))))))
 refine aDF rfl rfl (by first|omega|(rw [cD]; omega)) (by first|omega|(rw [cD]; omega)) (jT rfl rfl (by first|omega|(rw [cD]; omega)) (by first|omega|(rw [cD]; omega)) (aP t9 h9 (aK rfl h9 rfl rfl (jT rfl rfl (by first|omega|(rw [cD]; omega)) (by first|omega|(rw [cD]; omega)) (mM t6 rfl rfl h6 rfl rfl rfl rfl rfl (aA rfl (R_e ?_)))))))
 refine ⟨by simp [ddB,apV,mI,aK0,t6,t8,t9],?_⟩
 refine bK ?_
 refine oJ (jO (u:=(V.agg [(iV ((nth ((nth (t.nx) (c.1).toNat)) (i)))),(V.ms 21 1 0 (c.2.length))])) t6 (@rfl Blk (bk 1 95 2 [[(iV ((nth ((nth (t.nx) (c.1).toNat)) (i)))),(V.ms 21 1 0 (c.2.length))]])) (lB oB rfl rfl)) (iQ (@rfl V (iV (((1:Int)+((((nth ((nth (t.st) (c.1).toNat)) (i))).1)*(1001:Int)))+(((nth ((nth (t.st) (c.1).toNat)) (i))).2))))) (aDz (aQ ?_) (nS (@rfl Blk (bk 1 4 1 (List.map cB ((af0 t c i).set (((((nth ((nth (t.st) (c.1).toNat)) (i))).1)).toNat) (decide ((0:Int) < (((nth ((nth (t.st) (c.1).toNat)) (i))).2))))))) (by first|rfl|simp) (l:=((af0 t c i).set (((((nth ((nth (t.st) (c.1).toNat)) (i))).1)).toNat) (decide ((0:Int) < (((nth ((nth (t.st) (c.1).toNat)) (i))).2))))) rfl (by first|rfl|(rw [cD])|(rw [List.length_set,cD])|simp) (fun _=>by simp) ?_)) (aQ ?_)
 · rfl
 · exact d2.symm
 · exact d3.symm
end Go.Proofs.YtilfohjlglefjaaGreat
namespace Go.Proofs.YtilfohjlglefjaaGreat
open Go Go.Proofs
attribute [local irreducible] tN
theorem aCW (t:TM) (c:Cf) (a:List Int) (i:Nat) (now:Int) (ht:TOK t) (hc:mU t c) (hj:(i:Int) < t.i+t.tm) (hp:psB t c i=true) (ha:a.length=t.tm.toNat) (hn:0≤now∧now≤1125899906842624):bB Tryz.prog 53 [(V.agg [(iV (t.i)),(iV (t.tm)),(iV (t.s)),(aB t.nx),(aB t.ot),(V.sl (List.map cSr (t.st)))]),(V.agg [(iV (c.1)),(V.sl (List.map cB (c.2))),(aS a)]),(iV ((i:Nat):Int)),(iV (now))] (V.tup [(V.agg [(iV ((afT t c i).1)),(V.sl (List.map cB ((afT t c i).2))),(aS (tkA t c a i now))]),(V.agg [(iV (now)),(iV ((i:Nat):Int)),(iV (nth (nth t.ot c.1.toNat) i))])]):=by
 refine pW Tryz.func53 aM0 fun hB=>?_
 unfold s53
 dsimp only
 obtain ⟨h1,h2,h3,h4,h5,h6,h7,h8,h9,h10,h11,h12⟩:=id ht
 have hc1:=hc.1
 have hc2:=hc.2.1
 have hc3:=hc.2.2
 have hr:=h12 c.1.toNat (by omega)
 have hx:=hr.2.2.2 i hj
 unfold tSt at hx
 refine W_r (eT (i:=4) (n:=0) (m:=6) (cs:=[(iV (t.i)),(iV (t.tm)),(iV (t.s)),(aB t.nx),(aB t.ot),(V.sl (List.map cSr (t.st)))]) rfl (congrArg Blk.ver rfl) rfl rfl rfl (eT (i:=5) (n:=0) (m:=3) (cs:=[(iV (c.1)),(V.sl (List.map cB (c.2))),(aS a)]) rfl (congrArg Blk.ver rfl) rfl rfl rfl (cK (i:=8) (n:=0) (m:=3) rfl (congrArg Blk.ver rfl) rfl (cK (i:=9) (n:=0) (m:=3) rfl (congrArg Blk.ver rfl) rfl (R_e (W_r (aA rfl ?_)))))))
 refine aA rfl (aP rfl rfl (aK rfl rfl rfl rfl (aP rfl rfl (aP rfl rfl (aK rfl rfl rfl rfl (gU (i:=(c.1)) (@rfl V (aB t.ot)) (@rfl V (iV (c.1))) (by first|omega|(rw [cC]; omega)) (by first|omega|(rw [cC]; omega)) rfl (aJ rfl rfl ?_)))))))
 refine aA rfl (bL (i:=i) (@rfl V (aS ((nth (t.ot) (c.1).toNat)))) (@rfl V (iV ((i:Nat):Int))) (by first|omega|(rw [cC]; omega)) rfl (aJ rfl rfl (eM rfl rfl (cK (i:=10) (n:=0) (m:=3) rfl (congrArg Blk.ver rfl) rfl (bQ (vs:=[(iV (now)),(iV ((i:Nat):Int)),(iV ((nth ((nth (t.ot) (c.1).toNat)) (i))))]) (B':=(bk 1 110 3 [[(iV (now)),(iV ((i:Nat):Int)),(iV ((nth ((nth (t.ot) (c.1).toNat)) (i))))]])) rfl rfl rfl rfl (sB oB rfl rfl rfl rfl rfl) (R_e (W_r ?_)))))))
 refine aP rfl rfl (aK rfl rfl rfl rfl (aP rfl rfl (aP rfl rfl (aK rfl rfl rfl rfl (gU (i:=(c.1)) (@rfl V (V.sl (List.map cSr (t.st)))) (@rfl V (iV (c.1))) (by first|omega|(rw [cC]; omega)) (by first|omega|(rw [cC]; omega)) rfl (aJ rfl rfl (aA rfl ?_)))))))
 refine bL (i:=i) (@rfl V (V.sl (List.map cSg ((nth (t.st) (c.1).toNat))))) (@rfl V (iV ((i:Nat):Int))) (by first|omega|(rw [cC]; omega)) rfl (aJ rfl rfl (cK (i:=11) (n:=0) (m:=2) rfl (congrArg Blk.ver rfl) rfl (bQ (vs:=[(iV (((nth ((nth (t.st) (c.1).toNat)) (i))).1)),(iV (((nth ((nth (t.st) (c.1).toNat)) (i))).2))]) (B':=(bk 1 73 2 [[(iV (((nth ((nth (t.st) (c.1).toNat)) (i))).1)),(iV (((nth ((nth (t.st) (c.1).toNat)) (i))).2))]])) rfl rfl rfl rfl (sB oB rfl rfl rfl rfl rfl) (R_e (W_r (aP rfl rfl (aK rfl rfl rfl rfl ?_)))))))
 refine bN rfl (oY (i:=40) (n:=0) (m:=a.length) (q:=a.length) (f:=cI) (x:=0) rfl (congrArg Blk.ver rfl) (@rfl V (iV ((a.length:Nat):Int))) (@rfl V (iV ((a.length:Nat):Int))) rfl (by first|omega|(rw [cC]; omega)) (by first|omega|(rw [cC]; omega)) (by first|omega|(rw [cC]; omega)) (eM rfl rfl (cK (i:=12) (n:=0) (m:=3) rfl (congrArg Blk.ver rfl) rfl (bQ (vs:=[(iV (0:Int)),V.nilsl,(V.ms 40 1 0 (a.length))]) (B':=(bk 1 107 3 [[(iV (0:Int)),V.nilsl,(V.ms 40 1 0 (a.length))]])) rfl rfl rfl rfl (sB oB rfl rfl rfl rfl rfl) (R_e (aC (W_r ?_)))))))
 refine aA rfl (R_e (aI fun Q1 n1 x1 y1 z1=>?_))
 refine cW (fun mm T H=> ∃ (k:Nat),mm=a.length - k∧T 2=(iV ((i:Nat):Int))∧T 3=(iV (now))∧T 4=(V.mp 4 1 0 0)∧T 5=(V.mp 5 1 0 0)∧T 8=(V.mp 8 1 0 0)∧T 9=(V.mp 9 1 0 0)∧T 10=(V.mp 10 1 0 0)∧T 11=(V.mp 11 1 0 0)∧T 12=(V.mp 12 1 0 0)∧T 13=(iV ((k:Nat):Int))∧H 4=(bk 1 29 6 [[(iV (t.i)),(iV (t.tm)),(iV (t.s)),(aB t.nx),(aB t.ot),(V.sl (List.map cSr (t.st)))]])∧H 5=(bk 1 107 3 [[(iV (c.1)),(V.sl (List.map cB (c.2))),(aS a)]])∧H 8=(bk 1 107 3 [[(iV (0:Int)),V.nilsl,V.nilsl]])∧H 9=(bk 1 110 3 [[(iV (0:Int)),(iV (0:Int)),(iV (0:Int))]])∧H 10=(bk 1 110 3 [[(iV (now)),(iV ((i:Nat):Int)),(iV ((nth ((nth (t.ot) (c.1).toNat)) (i))))]])∧H 11=(bk 1 73 2 [[(iV (((nth ((nth (t.st) (c.1).toNat)) (i))).1)),(iV (((nth ((nth (t.st) (c.1).toNat)) (i))).2))]])∧H 12=(bk 1 107 3 [[(iV (0:Int)),V.nilsl,(V.ms 40 1 0 (a.length))]])∧H 40=(bk 1 3 1 (List.map cI (jE (nth a) 0 a.length k)))∧(k≤a.length)) ?_ ?_
 ·
  refine ⟨_,0,rfl,rfl,rfl,rfl,rfl,rfl,rfl,rfl,rfl,rfl,(Eq.trans (@rfl V (iV (0:Int))) rfl),rfl,rfl,rfl,rfl,rfl,rfl,rfl,(Eq.trans (@rfl Blk (bk 1 3 1 (List.map cI (List.replicate a.length 0)))) (by first|rfl|(rw [← jS,List.map_replicate]; done)|(rw [← jS,List.map_replicate]; rfl)|(rw [← lR (f:=nth a) (z:=0) (n:=a.length) (j:=k) (by omega)]; first|done|rfl|(rw [List.map_set]; rfl))|(rw [e9,← e3]; done)|(rw [e9,← e3,List.map_set]; done)|(rw [e9,← e3,List.map_set]; rfl)|simp)),?_⟩
  · exact Nat.zero_le _
 intro mm T H ⟨k,hmm,t2,t3,t4,t5,t8,t9,t10,t11,t12,t13,h4,h5,h8,h9,h10,h11,h12,h40,hk⟩ Q2 p12 p22 p32
 unfold aLd
 refine aC (W_r (aA t13 (aP t5 h5 (aK rfl h5 rfl rfl (bN rfl (bR rfl rfl (R_e ?_)))))))
 refine aO rfl (fun c3=>?_) fun c3=>?_
 ·
  refine aH (aI fun Q4 n4 x4 y4 z4=>(W_t (aP t12 h12 (aK rfl h12 rfl rfl (aA t13 (aP t5 h5 (aK rfl h5 rfl rfl ?_)))))))
  refine aA t13 (bL (i:=k) (@rfl V (aS a)) (@rfl V (iV ((k:Nat):Int))) (by first|omega|(rw [cC]; omega)) rfl (aJ rfl rfl (dB (i:=k) (@rfl V (V.ms 40 1 0 (a.length))) (@rfl V (iV ((k:Nat):Int))) h40 oB rfl (by first|omega|(rw [cC]; omega)) (bQ (vs:=[(iV ((nth (a) (k))))]) (B':=(bk 1 3 1 (List.map cI ((jE (nth a) 0 a.length k).set k (((nth (a) (k)))))))) rfl rfl rfl h40 (iE (x:=(((nth (a) (k))))) (i:=k) (by first|omega|(rw [cC]; omega)) rfl rfl rfl rfl) (R_e (n4 _ _ (.done ?_)))))))
  refine W_t (aA t13 (bV rfl (@rfl V (iV ((1:Nat):Int))) (by first|omega|(rw [cC]; omega)) (aA rfl (R_e ?_))))
  refine p12 _ _ _ ?_ ⟨(k+1),rfl,t2,t3,t4,t5,t8,t9,t10,t11,t12,(Eq.trans (@rfl V (iV ((k+1:Nat):Int))) (by first|rfl|simp)),h4,h5,h8,h9,h10,h11,h12,(Eq.trans (@rfl Blk (bk 1 3 1 (List.map cI ((jE (nth a) 0 a.length k).set k (((nth (a) (k)))))))) (by first|rfl|(rw [← jS,List.map_replicate]; done)|(rw [← jS,List.map_replicate]; rfl)|(rw [← lR (f:=nth a) (z:=0) (n:=a.length) (j:=k) (by omega)]; first|done|rfl|(rw [List.map_set]; rfl))|(rw [e9,← e3]; done)|(rw [e9,← e3,List.map_set]; done)|(rw [e9,← e3,List.map_set]; rfl)|simp)),?_⟩
  · omega
  · omega
 have e9:jE (nth a) 0 a.length k=a:=aE1 (by omega)
 refine bA (p32 _ _ _ (x1 _ _ (.done (W_r (aK t4 h4 rfl rfl (aP t5 h5 (aK rfl h5 rfl rfl ?_)))))))
 refine aA t2 (bG (aC4 t c i ht hc hj hp) rfl (aA rfl (eR rfl rfl (eR rfl rfl (aP t12 h12 (bQ (vs:=[(iV ((afT t c i).1)),(V.sl (List.map cB ((afT t c i).2)))]) (B':=(bk 1 107 3 [[(iV ((afT t c i).1)),(V.sl (List.map cB ((afT t c i).2))),(V.ms 40 1 0 (a.length))]])) rfl rfl rfl h12 (sB oB rfl rfl rfl rfl rfl) (R_e ?_)))))))
 refine aC (W_r (aP t11 h11 (aK rfl h11 rfl rfl (jL rfl rfl (aA rfl ?_)))))
 refine aV 4 (fun T H=>T 3=(iV (now))∧T 8=(V.mp 8 1 0 0)∧T 9=(V.mp 9 1 0 0)∧T 10=(V.mp 10 1 0 0)∧T 11=(V.mp 11 1 0 0)∧T 12=(V.mp 12 1 0 0)∧T 74=(V.bool (decide (((0:Int)≤(((nth ((nth (t.st) (c.1).toNat)) (i))).1))∧((0:Int) < (((nth ((nth (t.st) (c.1).toNat)) (i))).2)))))∧H 4=(bk 1 29 6 [[(iV (t.i)),(iV (t.tm)),(iV (t.s)),(aB t.nx),(aB t.ot),(V.sl (List.map cSr (t.st)))]])∧H 5=(bk 1 107 3 [[(iV (c.1)),(V.sl (List.map cB (c.2))),(aS a)]])∧H 8=(bk 1 107 3 [[(iV (0:Int)),V.nilsl,V.nilsl]])∧H 9=(bk 1 110 3 [[(iV (0:Int)),(iV (0:Int)),(iV (0:Int))]])∧H 10=(bk 1 110 3 [[(iV (now)),(iV ((i:Nat):Int)),(iV ((nth ((nth (t.ot) (c.1).toNat)) (i))))]])∧H 11=(bk 1 73 2 [[(iV (((nth ((nth (t.st) (c.1).toNat)) (i))).1)),(iV (((nth ((nth (t.st) (c.1).toNat)) (i))).2))]])∧H 12=(bk 1 107 3 [[(iV ((afT t c i).1)),(V.sl (List.map cB ((afT t c i).2))),(V.ms 40 1 0 (a.length))]])∧H 40=(bk 1 3 1 (List.map cI (jE (nth a) 0 a.length k)))∧True) ?_ ?_
 ·
  by_cases g5:(0:Int)≤(((nth ((nth (t.st) (c.1).toNat)) (i))).1)
  ·
   refine aD (edT g5 rfl) (aP t11 h11 (aD (edT g5 rfl) (aK rfl h11 rfl rfl (aD (edT g5 rfl) (eU rfl rfl (aX (edT g5 rfl) rfl ?_))))))
   exact ⟨t3,t8,t9,t10,t11,t12,(iN g5),h4,h5,h8,h9,h10,h11,rfl,h40,trivial⟩
  ·
   refine G_n (edF g5 rfl) (G_n (edF g5 rfl) (G_n (edF g5 rfl) (aW (edF g5 rfl) rfl ?_)))
   exact ⟨t3,t8,t9,t10,t11,t12,(iM g5),h4,h5,h8,h9,h10,h11,rfl,h40,trivial⟩
 intro T H ⟨t3,t8,t9,t10,t11,t12,t74,h4,h5,h8,h9,h10,h11,h12,h40,_⟩
 refine R_e ?_
 refine nA (fun T H=>T 8=(V.mp 8 1 0 0)∧T 9=(V.mp 9 1 0 0)∧T 10=(V.mp 10 1 0 0)∧T 12=(V.mp 12 1 0 0)∧H 4=(bk 1 29 6 [[(iV (t.i)),(iV (t.tm)),(iV (t.s)),(aB t.nx),(aB t.ot),(V.sl (List.map cSr (t.st)))]])∧H 5=(bk 1 107 3 [[(iV (c.1)),(V.sl (List.map cB (c.2))),(aS a)]])∧H 8=(bk 1 107 3 [[(iV (0:Int)),V.nilsl,V.nilsl]])∧H 9=(bk 1 110 3 [[(iV (0:Int)),(iV (0:Int)),(iV (0:Int))]])∧H 10=(bk 1 110 3 [[(iV (now)),(iV ((i:Nat):Int)),(iV ((nth ((nth (t.ot) (c.1).toNat)) (i))))]])∧H 11=(bk 1 73 2 [[(iV (((nth ((nth (t.st) (c.1).toNat)) (i))).1)),(iV (((nth ((nth (t.st) (c.1).toNat)) (i))).2))]])∧H 12=(bk 1 107 3 [[(iV ((afT t c i).1)),(V.sl (List.map cB ((afT t c i).2))),(V.ms 40 1 0 (a.length))]])∧H 40=(bk 1 3 1 (List.map cI (tkA t c a i now)))∧True) (fun Q6 n6 y6 z6=>?_) ?_
 ·
  refine fR t74 (fun c7=>?_) fun c7=>?_
  ·
   have d1:0≤(nth (nth t.st c.1.toNat) i).1∧0 < (nth (nth t.st c.1.toNat) i).2:=by simpa using c7
   have e3:a.set (nth (nth t.st c.1.toNat) i).1.toNat (now+(nth (nth t.st c.1.toNat) i).2)=tkA t c a i now:=(if_pos d1).symm
   refine W_t (aP t12 h12 (aK rfl h12 rfl rfl (aP t11 h11 (aK rfl h11 rfl rfl (aA t3 (aP t11 h11 (aK rfl h11 rfl rfl ?_)))))))
   refine jT rfl rfl (by first|omega|(rw [cC]; omega)) (by first|omega|(rw [cC]; omega)) (dY (i:=(((nth ((nth (t.st) (c.1).toNat)) (i))).1)) (@rfl V (V.ms 40 1 0 (a.length))) (@rfl V (iV (((nth ((nth (t.st) (c.1).toNat)) (i))).1))) h40 oB rfl (by first|omega|(rw [cC]; omega)) (by first|omega|(rw [cC]; omega)) (bQ (vs:=[(iV ((now)+(((nth ((nth (t.st) (c.1).toNat)) (i))).2)))]) (B':=(bk 1 3 1 (List.map cI ((jE (nth a) 0 a.length k).set (((((nth ((nth (t.st) (c.1).toNat)) (i))).1)).toNat) (((now)+(((nth ((nth (t.st) (c.1).toNat)) (i))).2))))))) rfl rfl rfl h40 (iE (x:=(((now)+(((nth ((nth (t.st) (c.1).toNat)) (i))).2)))) (i:=(((((nth ((nth (t.st) (c.1).toNat)) (i))).1)).toNat)) (by first|omega|(rw [cC]; omega)) rfl rfl rfl rfl) (R_e ?_)))
   exact n6 _ _ ⟨t8,t9,t10,t12,h4,h5,h8,h9,h10,h11,h12,(Eq.trans (@rfl Blk (bk 1 3 1 (List.map cI ((jE (nth a) 0 a.length k).set (((((nth ((nth (t.st) (c.1).toNat)) (i))).1)).toNat) (((now)+(((nth ((nth (t.st) (c.1).toNat)) (i))).2))))))) (by first|rfl|(rw [← jS,List.map_replicate]; done)|(rw [← jS,List.map_replicate]; rfl)|(rw [← lR (f:=nth a) (z:=0) (n:=a.length) (j:=k) (by omega)]; first|done|rfl|(rw [List.map_set]; rfl))|(rw [e9,← e3]; done)|(rw [e9,← e3,List.map_set]; done)|(rw [e9,← e3,List.map_set]; rfl)|simp)),trivial⟩
  have d1: ¬(0≤(nth (nth t.st c.1.toNat) i).1∧0 < (nth (nth t.st c.1.toNat) i).2):=fun z=>c7 (by simpa using z)
  have e3:a=tkA t c a i now:=(if_neg d1).symm
  refine cX ?_
  exact n6 _ _ ⟨t8,t9,t10,t12,h4,h5,h8,h9,h10,h11,h12,(Eq.trans h40 (by first|rfl|(rw [← jS,List.map_replicate]; done)|(rw [← jS,List.map_replicate]; rfl)|(rw [← lR (f:=nth a) (z:=0) (n:=a.length) (j:=k) (by omega)]; first|done|rfl|(rw [List.map_set]; rfl))|(rw [e9,← e3]; done)|(rw [e9,← e3,List.map_set]; done)|(rw [e9,← e3,List.map_set]; rfl)|simp)),trivial⟩
 intro T H ⟨t8,t9,t10,t12,h4,h5,h8,h9,h10,h11,h12,h40,_⟩
 refine W_x (aK t12 h12 rfl rfl (aK t10 h10 rfl rfl (bQ (vs:=[(iV ((afT t c i).1)),(V.sl (List.map cB ((afT t c i).2))),(V.ms 40 1 0 (a.length))]) (B':=(bk 1 107 3 [[(iV ((afT t c i).1)),(V.sl (List.map cB ((afT t c i).2))),(V.ms 40 1 0 (a.length))]])) t8 rfl rfl h8 (sB oB rfl rfl rfl rfl rfl) (bQ (vs:=[(iV (now)),(iV ((i:Nat):Int)),(iV ((nth ((nth (t.ot) (c.1).toNat)) (i))))]) (B':=(bk 1 110 3 [[(iV (now)),(iV ((i:Nat):Int)),(iV ((nth ((nth (t.ot) (c.1).toNat)) (i))))]])) t9 rfl rfl h9 (sB oB rfl rfl rfl rfl rfl) (R_e ?_)))))
 refine ⟨by simp [ddB,apV,mI,t10,t12,t8,t9],?_⟩
 refine bK ?_
 refine oJ (jO (u:=(V.agg [(iV ((afT t c i).1)),(V.sl (List.map cB ((afT t c i).2))),(V.ms 40 1 0 (a.length))])) t8 (@rfl Blk (bk 1 107 3 [[(iV ((afT t c i).1)),(V.sl (List.map cB ((afT t c i).2))),(V.ms 40 1 0 (a.length))]])) (lB oB rfl rfl)) (jO (u:=(V.agg [(iV (now)),(iV ((i:Nat):Int)),(iV ((nth ((nth (t.ot) (c.1).toNat)) (i))))])) t9 (@rfl Blk (bk 1 110 3 [[(iV (now)),(iV ((i:Nat):Int)),(iV ((nth ((nth (t.ot) (c.1).toNat)) (i))))]])) (lB oB rfl rfl)) (aEI (iO (by simp) rfl) (iO (by simp) rfl) (nS h40 (by first|rfl|simp) (l:=(tkA t c a i now)) rfl (by first|rfl|exact aEl.symm|exact aEl|(rw [cC])|simp) (fun _=>by simp) ?_)) (aEI (iO (by simp) rfl) (iO (by simp) rfl) (aQ ?_))
 · first|rfl|omega|simp_all
 · first|rfl|omega|simp_all
theorem sR (t:TM) (c:Cf) (a:List Int) (z:Int) (now:Int) (ht:TOK t) (hc:mU t c) (h0:0≤z) (hj:((z.toNat:Nat):Int) < t.i+t.tm) (hp:psB t c z.toNat=true) (ha:a.length=t.tm.toNat) (hn:0≤now∧now≤1125899906842624):bB Tryz.prog 53 [(V.agg (tmC t)),(V.agg [(iV (c.1)),(V.sl (List.map cB (c.2))),(aS a)]),(iV z),(iV (now))] (V.tup [(V.agg [(iV ((afT t c z.toNat).1)),(V.sl (List.map cB ((afT t c z.toNat).2))),(aS (tkA t c a z.toNat now))]),(V.agg [(iV (now)),(iV ((z.toNat:Nat):Int)),(iV (nth (nth t.ot c.1.toNat) z.toNat))])]):=by
  obtain ⟨i,rfl⟩: ∃ i:Nat,z=(i:Int):=⟨z.toNat,by omega⟩
  exact aCW t c a i now ht hc hj hp ha hn
end Go.Proofs.YtilfohjlglefjaaGreat
namespace Go.Proofs.YtilfohjlglefjaaGreat
open Go Go.Proofs
attribute [local irreducible] tN
theorem uI (t:TM) (w:List Sg) (e:Int):bB Tryz.prog 24 [(V.agg [(iV (t.i)),(iV (t.tm)),(iV (t.s)),(aB t.nx),(aB t.ot),(V.sl (List.map cSr (t.st)))]),(V.sl (List.map cSg (w))),(iV (e))] (V.tup [(V.sl (List.map cEv (lI t w e))),(iV (gN t w e))]):=by
 refine pW Tryz.func24 aOh fun hB=>?_
 unfold s24
 dsimp only
 refine W_r (eT (i:=3) (n:=0) (m:=6) (cs:=[(iV (t.i)),(iV (t.tm)),(iV (t.s)),(aB t.nx),(aB t.ot),(V.sl (List.map cSr (t.st)))]) rfl (congrArg Blk.ver rfl) rfl rfl rfl (aA rfl (aA rfl (R_e (aC (W_r (aK rfl rfl rfl rfl ?_)))))))
 refine bG (aAJ t) rfl (aA rfl (R_e (aC (W_r (aA rfl (dQ rfl rfl (R_e ?_)))))))
 refine aO rfl (fun c1=>?_) fun c1=>?_
 ·
  have d1:=c1
  refine aC (W_r (aA rfl (aA rfl (aA rfl (R_e (aU ?_))))))
  refine lT (@rfl V V.nilsl) (@rfl V (iV (cR t))) (eY ?_) (aQ ?_)
  · rw [mY (by rw [aF5 d1]; first|decide|assumption)]
  · exact (aF5 d1).symm
 have d1:cR t=0:=Decidable.not_not.1 c1
 have ht:=uB d1
 obtain ⟨g1,g2,g3,g4,g5,g6,g7,g8,g9,g10,g11,g12⟩:=id ht
 refine aH (W_r (aK rfl rfl rfl rfl (aA rfl (aA rfl (bG (aCT t w ((e)) (by omega)) rfl (aA rfl (eR rfl rfl ?_)))))))
 refine eR rfl rfl (aA rfl (aA rfl (R_e (aC (W_r (aA rfl (dQ rfl rfl ?_)))))))
 refine R_e ?_
 refine aO rfl (fun c2=>?_) fun c2=>?_
 ·
  have d2:=c2
  refine aC (W_r (aA rfl (aA rfl (aA rfl (R_e (aU ?_))))))
  refine lT (@rfl V V.nilsl) (@rfl V (iV (tcE t.i w ((e))))) (eY ?_) (aQ ?_)
  · rw [mY (by rw [aAt d1 d2]; first|decide|assumption)]
  · exact (aAt d1 d2).symm
 have d2:tcE t.i w e=0:=Decidable.not_not.1 c2
 obtain ⟨y1,y2,y3,y4⟩:=aCZ d2
 have y5:tcT t.i w e=tbl (tms w) w.length:=aD9 d2
 have y6:(tcT t.i w e).length=w.length:=by rw [y5,lC]
 refine aH (W_r (iP (i:=11) (n:=0) rfl (congrArg Blk.ver rfl) (R_e ?_)))
 refine aFU (fun T H=>T 1=(V.sl (List.map cSg (w)))∧T 2=(iV (e))∧T 3=(V.mp 3 1 0 0)∧T 9=(aS (tcT t.i w ((e))))∧T 11=(V.ms 11 1 0 (0))∧T 12=(V.mp 12 1 0 0)∧H 3=(bk 1 29 6 [[(iV (t.i)),(iV (t.tm)),(iV (t.s)),(aB t.nx),(aB t.ot),(V.sl (List.map cSr (t.st)))]])∧H 11=(bz 1 110 3 [])∧H 12=(bk 1 107 3 [[(iV (t.s)),(V.ms 39 1 0 ((t.tm).toNat)),(V.ms 43 1 0 ((t.tm).toNat))]])∧H 16=(⟨0,false,false,0,0,[]⟩:Blk)∧H 17=(⟨0,false,false,0,0,[]⟩:Blk)∧H 18=(⟨0,false,false,0,0,[]⟩:Blk)∧H 19=(⟨0,false,false,0,0,[]⟩:Blk)∧H 39=(bk 1 4 1 (List.map cB (List.replicate ((t.tm).toNat) false)))∧H 43=(bk 1 3 1 (List.map cI (List.replicate ((t.tm).toNat) 0)))∧True) (by exact (lV rfl (lV rfl (lV rfl wM)))) ?_ ?_
 ·
  refine aP rfl rfl (aK rfl rfl rfl rfl (aP rfl rfl (aK rfl rfl rfl rfl (aP rfl rfl (aK rfl rfl rfl rfl (oY (i:=39) (n:=0) (m:=((t.tm).toNat)) (q:=((t.tm).toNat)) (f:=cB) (x:=false) rfl (congrArg Blk.ver rfl) (Eq.trans (@rfl V (iV (t.tm))) (congrArg (V.int .i64) (by omega))) (Eq.trans (@rfl V (iV (t.tm))) (congrArg (V.int .i64) (by omega))) rfl (by omega) (by omega) (by omega) (eM rfl rfl ?_)))))))
  refine oY (i:=43) (n:=0) (m:=((t.tm).toNat)) (q:=((t.tm).toNat)) (f:=cI) (x:=0) rfl (congrArg Blk.ver rfl) (Eq.trans (@rfl V (iV (t.tm))) (congrArg (V.int .i64) (by omega))) (Eq.trans (@rfl V (iV (t.tm))) (congrArg (V.int .i64) (by omega))) rfl (by omega) (by omega) (by omega) (eM rfl rfl (cK (i:=12) (n:=0) (m:=3) rfl (congrArg Blk.ver rfl) rfl (bQ (vs:=[(iV (t.s)),(V.ms 39 1 0 ((t.tm).toNat)),(V.ms 43 1 0 ((t.tm).toNat))]) (B':=(bk 1 107 3 [[(iV (t.s)),(V.ms 39 1 0 ((t.tm).toNat)),(V.ms 43 1 0 ((t.tm).toNat))]])) rfl rfl rfl rfl (sB oB rfl rfl rfl rfl rfl) ?_)))
  exact iK ⟨rfl,rfl,rfl,rfl,rfl,rfl,rfl,rfl,rfl,rfl,rfl,rfl,rfl,rfl,rfl,trivial⟩
 intro T H ⟨t1,t2,t3,t9,t11,t12,h3,h11,h12,h16,h17,h18,h19,h39,h43,_⟩
 refine yG (id:=39) (id2:=12) (rows:=[[(iV (t.s)),(V.ms 39 1 0 ((t.tm).toNat)),(V.ms 43 1 0 ((t.tm).toNat))]]) (i:=0) (off:=1) (r:=[(iV (t.s)),(V.ms 39 1 0 ((t.tm).toNat)),(V.ms 43 1 0 ((t.tm).toNat))]) (m:=(List.replicate ((t.tm).toNat) false)) (g:=cB) (by decide) h39 h12 (by first|omega|(simp; omega)|(simp; done)) (by first|rfl|simp|omega) rfl (dE (R:=fun T H=>T 1=(V.sl (List.map cSg (w)))∧T 2=(iV (e))∧T 3=(V.mp 3 1 0 0)∧T 9=(aS (tcT t.i w ((e))))∧T 11=(V.ms 11 1 0 (0))∧T 12=(V.mp 12 1 0 0)∧H 3=(bk 1 29 6 [[(iV (t.i)),(iV (t.tm)),(iV (t.s)),(aB t.nx),(aB t.ot),(V.sl (List.map cSr (t.st)))]])∧H 11=(bz 1 110 3 [])∧H 12=(bk 1 107 3 [[(iV (t.s)),(V.sl (List.map cB (List.replicate ((t.tm).toNat) false))),(V.ms 43 1 0 ((t.tm).toNat))]])∧H 16=(⟨0,false,false,0,0,[]⟩:Blk)∧H 17=(⟨0,false,false,0,0,[]⟩:Blk)∧H 18=(⟨0,false,false,0,0,[]⟩:Blk)∧H 19=(⟨0,false,false,0,0,[]⟩:Blk)∧((H 39).ver=1∧(H 39).live=false)∧H 43=(bk 1 3 1 (List.map cI (List.replicate ((t.tm).toNat) 0)))∧True) ⟨(aT t1 rfl),(aT t2 rfl),(aT t3 rfl),(aT t9 rfl),(aT t11 (dD (by decide))),(aT t12 rfl),((aG _ _ (by decide)).trans (aR h3 (by decide))),((aG _ _ (by decide)).trans (aR h11 (by decide))),(aE _ _ _),((aG _ _ (by decide)).trans (aR h16 (by decide))),((aG _ _ (by decide)).trans (aR h17 (by decide))),((aG _ _ (by decide)).trans (aR h18 (by decide))),((aG _ _ (by decide)).trans (aR h19 (by decide))),⟨(congrArg Blk.ver (aG _ _ (by decide))).trans (dM (congrArg Blk.ver h39)).1,(congrArg Blk.live (aG _ _ (by decide))).trans (dM (congrArg Blk.ver h39)).2⟩,((aG _ _ (by decide)).trans (aR h43 (by decide))),trivial⟩ ?_)
 intro T H ⟨t1,t2,t3,t9,t11,t12,h3,h11,h12,h16,h17,h18,h19,h39,h43,_⟩
 refine yG (id:=43) (id2:=12) (rows:=[[(iV (t.s)),(V.sl (List.map cB (List.replicate ((t.tm).toNat) false))),(V.ms 43 1 0 ((t.tm).toNat))]]) (i:=0) (off:=2) (r:=[(iV (t.s)),(V.sl (List.map cB (List.replicate ((t.tm).toNat) false))),(V.ms 43 1 0 ((t.tm).toNat))]) (m:=(List.replicate ((t.tm).toNat) 0)) (g:=cI) (by decide) h43 h12 (by first|omega|(simp; omega)|(simp; done)) (by first|rfl|simp|omega) rfl (.done ?_)
 refine dE (R:=fun T H=>T 1=(V.sl (List.map cSg (w)))∧T 2=(iV (e))∧T 3=(V.mp 3 1 0 0)∧T 9=(aS (tcT t.i w ((e))))∧T 11=(V.ms 11 1 0 (0))∧T 12=(V.mp 12 1 0 0)∧H 3=(bk 1 29 6 [[(iV (t.i)),(iV (t.tm)),(iV (t.s)),(aB t.nx),(aB t.ot),(V.sl (List.map cSr (t.st)))]])∧H 11=(bz 1 110 3 [])∧H 12=(bk 1 107 3 [[(iV (t.s)),(V.sl (List.map cB (List.replicate ((t.tm).toNat) false))),(aS (List.replicate ((t.tm).toNat) 0))]])∧H 16=(⟨0,false,false,0,0,[]⟩:Blk)∧H 17=(⟨0,false,false,0,0,[]⟩:Blk)∧H 18=(⟨0,false,false,0,0,[]⟩:Blk)∧H 19=(⟨0,false,false,0,0,[]⟩:Blk)∧((H 39).ver=1∧(H 39).live=false)∧((H 43).ver=1∧(H 43).live=false)∧True) ⟨(aT t1 rfl),(aT t2 rfl),(aT t3 rfl),(aT t9 rfl),(aT t11 (dD (by decide))),(aT t12 rfl),((aG _ _ (by decide)).trans (aR h3 (by decide))),((aG _ _ (by decide)).trans (aR h11 (by decide))),(aE _ _ _),((aG _ _ (by decide)).trans (aR h16 (by decide))),((aG _ _ (by decide)).trans (aR h17 (by decide))),((aG _ _ (by decide)).trans (aR h18 (by decide))),((aG _ _ (by decide)).trans (aR h19 (by decide))),⟨(congrArg Blk.ver (aG _ _ (by decide))).trans (cA h39).1,(congrArg Blk.live (aG _ _ (by decide))).trans (cA h39).2⟩,⟨(congrArg Blk.ver (aG _ _ (by decide))).trans (dM (congrArg Blk.ver h43)).1,(congrArg Blk.live (aG _ _ (by decide))).trans (dM (congrArg Blk.ver h43)).2⟩,trivial⟩ ?_
 intro T H ⟨t1,t2,t3,t9,t11,t12,h3,h11,h12,h16,h17,h18,h19,h39,h43,_⟩
 refine aC (W_r (aA rfl (R_e (aI fun Q3 n3 x3 y3 z3=>?_))))
 refine cW (fun mm T H=> ∃ (i:Nat) (S:KS) (v:Nat) (v16:Nat) (v17:Nat) (v18:Nat) (v19:Nat),mm=w.length+1 - i∧T 1=(V.sl (List.map cSg (w)))∧T 2=(iV (e))∧T 3=(V.mp 3 1 0 0)∧T 9=(aS (tcT t.i w ((e))))∧T 11=(V.ms 11 v 0 (S.e.length))∧T 12=(V.mp 12 1 0 0)∧T 13=(iV ((i:Nat):Int))∧H 3=(bk 1 29 6 [[(iV (t.i)),(iV (t.tm)),(iV (t.s)),(aB t.nx),(aB t.ot),(V.sl (List.map cSr (t.st)))]])∧H 11=(bz v 110 3 (List.map cEv (S.e)))∧H 12=(bk 1 107 3 [[(iV (S.c.1)),(V.sl (List.map cB (S.c.2))),(aS S.a)]])∧((H 16).ver=v16∧(H 16).live=false)∧((H 17).ver=v17∧(H 17).live=false)∧((H 18).ver=v18∧(H 18).live=false)∧((H 19).ver=v19∧(H 19).live=false)∧((H 39).ver=1∧(H 39).live=false)∧((H 43).ver=1∧(H 43).live=false)∧(i≤w.length+1)∧(KOK t S)∧(qT t w e=oN t w e (w.length+1 - i) i S)) ?_ ?_
 ·
  refine ⟨_,0,(tQ t),1,0,0,0,0,rfl,t1,t2,t3,t9,(Eq.trans t11 (by first|rfl|exact congrArg iV e14|(rw [e14]; done)|(rw [dK]; done)|simp)),t12,(Eq.trans (@rfl V (iV (0:Int))) rfl),h3,(Eq.trans h11 (by first|rfl|(simp; done))),(Eq.trans h12 (by first|rfl|(simp; done))),⟨(congrArg Blk.ver h16),congrArg Blk.live h16⟩,⟨(congrArg Blk.ver h17),congrArg Blk.live h17⟩,⟨(congrArg Blk.ver h18),congrArg Blk.live h18⟩,⟨(congrArg Blk.ver h19),congrArg Blk.live h19⟩,h39,h43,?_,?_,?_⟩
  · exact Nat.zero_le _
  · exact aAH ht
  · rfl
 intro mm T H ⟨i,S,v,v16,v17,v18,v19,hmm,t1,t2,t3,t9,t11,t12,t13,h3,h11,h12,h16,h17,h18,h19,h39,h43,hi,hk,hc⟩ Q4 p14 p24 p34
 unfold aLf
 refine aC (W_r (aA t13 (aA t1 (bN rfl (xO rfl rfl (R_e ?_))))))
 refine aO rfl (fun c5=>?_) fun c5=>?_
 ·
  have hl0:=aGS d2 i
  have hel:=hk.el
  refine aH (aI fun Q6 n6 x6 y6 z6=>(W_r (aA t2 (aA rfl (R_e (aC (W_r ?_)))))))
  refine aA t13 (aA t1 (bN rfl (bR rfl rfl (R_e ?_))))
  refine nA (fun T H=>T 1=(V.sl (List.map cSg (w)))∧T 2=(iV (e))∧T 3=(V.mp 3 1 0 0)∧T 9=(aS (tcT t.i w ((e))))∧T 11=(V.ms 11 v 0 (S.e.length))∧T 12=(V.mp 12 1 0 0)∧T 13=(iV ((i:Nat):Int))∧T 14=(iV ((aY w e i)))∧H 3=(bk 1 29 6 [[(iV (t.i)),(iV (t.tm)),(iV (t.s)),(aB t.nx),(aB t.ot),(V.sl (List.map cSr (t.st)))]])∧H 11=(bz v 110 3 (List.map cEv (S.e)))∧H 12=(bk 1 107 3 [[(iV (S.c.1)),(V.sl (List.map cB (S.c.2))),(aS S.a)]])∧((H 16).ver=v16∧(H 16).live=false)∧((H 17).ver=v17∧(H 17).live=false)∧((H 18).ver=v18∧(H 18).live=false)∧((H 19).ver=v19∧(H 19).live=false)∧((H 39).ver=1∧(H 39).live=false)∧((H 43).ver=1∧(H 43).live=false)∧True) (fun Q7 n7 y7 z7=>?_) ?_
  ·
   refine fR rfl (fun c8=>?_) fun c8=>?_
   ·
    have e14:nth (tcT t.i w e) i=(aY w e i):=by rw [y5,aAv (by omega)]; exact (if_pos (by omega)).symm
    refine W_t (aA t9 (aA t13 (bL (i:=i) (@rfl V (aS (tcT t.i w ((e))))) (@rfl V (iV ((i:Nat):Int))) (by omega) rfl (aJ rfl rfl (aA rfl (R_e ?_))))))
    exact n7 _ _ ⟨t1,t2,t3,t9,t11,t12,t13,(Eq.trans (@rfl V (iV ((nth (tcT t.i w ((e))) (i))))) (by first|rfl|exact congrArg iV e14|(rw [e14]; done)|(rw [dK]; done)|simp)),h3,h11,h12,h16,h17,h18,h19,h39,h43,trivial⟩
   have e14:e=(aY w e i):=(if_neg (by omega)).symm
   refine cX ?_
   exact n7 _ _ ⟨t1,t2,t3,t9,t11,t12,t13,(Eq.trans (@rfl V (iV (e))) (by first|rfl|exact congrArg iV e14|(rw [e14]; done)|(rw [dK]; done)|simp)),h3,h11,h12,h16,h17,h18,h19,h39,h43,trivial⟩
  intro T H ⟨t1,t2,t3,t9,t11,t12,t13,t14,h3,h11,h12,h16,h17,h18,h19,h39,h43,_⟩
  refine aC (W_r (aK t12 h12 rfl rfl (aA t14 (bG (aCt S.c S.a (((aY w e i))) (by first|exact hk3.c.2.2.trans hk3.al.symm|exact hk.c.2.2.trans hk.al.symm)) rfl (aA rfl (R_e (aI fun Q9 n9 x9 y9 z9=>?_)))))))
  refine cW (fun mm T H=> ∃ (S2:KS) (v2:Nat) (v16:Nat) (v17:Nat),mm=10001 - S2.e.length∧T 1=(V.sl (List.map cSg (w)))∧T 2=(iV (e))∧T 3=(V.mp 3 1 0 0)∧T 9=(aS (tcT t.i w ((e))))∧T 11=(V.ms 11 v2 0 (S2.e.length))∧T 12=(V.mp 12 1 0 0)∧T 13=(iV ((i:Nat):Int))∧T 14=(iV ((aY w e i)))∧T 15=(iV ((S2.d (aY w e i))))∧H 3=(bk 1 29 6 [[(iV (t.i)),(iV (t.tm)),(iV (t.s)),(aB t.nx),(aB t.ot),(V.sl (List.map cSr (t.st)))]])∧H 11=(bz v2 110 3 (List.map cEv (S2.e)))∧H 12=(bk 1 107 3 [[(iV (S2.c.1)),(V.sl (List.map cB (S2.c.2))),(aS S2.a)]])∧((H 16).ver=v16∧(H 16).live=false)∧((H 17).ver=v17∧(H 17).live=false)∧((H 18).ver=v18∧(H 18).live=false)∧((H 19).ver=v19∧(H 19).live=false)∧((H 39).ver=1∧(H 39).live=false)∧((H 43).ver=1∧(H 43).live=false)∧(KOK t S2)∧(wR t (aY w e i) S=wR t (aY w e i) S2)) ?_ ?_
  ·
   refine ⟨_,S,v,v16,v17,rfl,t1,t2,t3,t9,t11,t12,t13,t14,(Eq.trans (@rfl V (iV (duS S.c.2 S.a (((aY w e i))) S.a.length))) (by first|rfl|exact congrArg iV e14|(rw [e14]; done)|(rw [dK]; done)|simp)),h3,h11,h12,h16,h17,h18,h19,h39,h43,?_,?_⟩
   · exact hk
   · rfl
  intro mm T H ⟨S2,v2,v16,v17,hmm,t1,t2,t3,t9,t11,t12,t13,t14,t15,h3,h11,h12,h16,h17,h18,h19,h39,h43,hk2,hw⟩ Q10 p110 p210 p310
  unfold aLJ
  refine aC (W_r (aA t15 (jL rfl rfl (R_e ?_))))
  refine aO rfl (fun c11=>?_) fun c11=>?_
  ·
   have hd: ¬(S2.d (aY w e i)) < 0:=by omega
   obtain ⟨du1,du2,du3,du4,du5,du6,du7⟩:=hk2.due ht hd
   have du8:0≤(nth S2.a (S2.d (aY w e i)).toNat)∧(nth S2.a (S2.d (aY w e i)).toNat)≤1125899906842624:=by omega
   have hel2:=hk2.el
   have c1:=hk2.c.1
   have c2:=hk2.c.2.1
   refine aH (aI fun Q12 n12 x12 y12 z12=>(W_d (by exact (lV (h16).2 (lV (h17).2 wM))) (aK t3 h3 rfl rfl (aK t12 h12 rfl rfl (aP t3 h3 (aK rfl h3 rfl rfl (aA t15 ?_)))))))
   refine jT rfl rfl (by omega) (by omega) (aP t12 h12 (aK rfl h12 rfl rfl (aA t15 (gU (i:=((S2.d (aY w e i)))) (@rfl V (aS S2.a)) (@rfl V (iV ((S2.d (aY w e i))))) (by omega) (by omega) rfl (aJ rfl rfl (bG (sR t S2.c S2.a (((t.i)+((S2.d (aY w e i))))) (((nth (S2.a) ((S2.d (aY w e i))).toNat))) ht hk2.c (by omega) (by first|omega|(rw [du5]; omega)) (by first|exact du4|exact ip) hk2.al (by first|exact du8|exact il)) rfl (aA rfl ?_)))))))
   refine eR rfl rfl (eR rfl rfl (cK (i:=16) (n:=v16) (m:=3) rfl (h16).1 rfl (cK (i:=17) (n:=v17) (m:=3) rfl (h17).1 rfl (bQ (vs:=[(iV ((afT t S2.c (((t.i)+((S2.d (aY w e i))))).toNat).1)),(V.sl (List.map cB ((afT t S2.c (((t.i)+((S2.d (aY w e i))))).toNat).2))),(aS (tkA t S2.c S2.a (((t.i)+((S2.d (aY w e i))))).toNat (((nth (S2.a) ((S2.d (aY w e i))).toNat)))))]) (B':=(bk (v16+1) 107 3 [[(iV ((afT t S2.c (((t.i)+((S2.d (aY w e i))))).toNat).1)),(V.sl (List.map cB ((afT t S2.c (((t.i)+((S2.d (aY w e i))))).toNat).2))),(aS (tkA t S2.c S2.a (((t.i)+((S2.d (aY w e i))))).toNat (((nth (S2.a) ((S2.d (aY w e i))).toNat)))))]])) rfl rfl rfl rfl (sB oB rfl rfl rfl rfl rfl) (bQ (vs:=[(iV ((((nth (S2.a) ((S2.d (aY w e i))).toNat))))),(iV (((((t.i)+((S2.d (aY w e i))))).toNat:Nat):Int)),(iV (nth (nth t.ot S2.c.1.toNat) (((t.i)+((S2.d (aY w e i))))).toNat))]) (B':=(bk (v17+1) 110 3 [[(iV ((((nth (S2.a) ((S2.d (aY w e i))).toNat))))),(iV (((((t.i)+((S2.d (aY w e i))))).toNat:Nat):Int)),(iV (nth (nth t.ot S2.c.1.toNat) (((t.i)+((S2.d (aY w e i))))).toNat))]])) rfl rfl rfl rfl (sB oB rfl rfl rfl rfl rfl) (R_e (W_r ?_)))))))
   refine aK rfl rfl rfl rfl (bQ (vs:=[(iV ((afT t S2.c (((t.i)+((S2.d (aY w e i))))).toNat).1)),(V.sl (List.map cB ((afT t S2.c (((t.i)+((S2.d (aY w e i))))).toNat).2))),(aS (tkA t S2.c S2.a (((t.i)+((S2.d (aY w e i))))).toNat (((nth (S2.a) ((S2.d (aY w e i))).toNat)))))]) (B':=(bk 1 107 3 [[(iV ((afT t S2.c (((t.i)+((S2.d (aY w e i))))).toNat).1)),(V.sl (List.map cB ((afT t S2.c (((t.i)+((S2.d (aY w e i))))).toNat).2))),(aS (tkA t S2.c S2.a (((t.i)+((S2.d (aY w e i))))).toNat (((nth (S2.a) ((S2.d (aY w e i))).toNat)))))]])) t12 rfl rfl h12 (sB oB rfl rfl rfl rfl rfl) (R_e (W_r (aA t11 (aK rfl rfl rfl rfl (eF rfl rfl (fL (l:=S2.e) (f:=cEv) (x:=(((((((nth (S2.a) ((S2.d (aY w e i))).toNat)))),(((((t.i)+((S2.d (aY w e i))))).toNat:Nat):Int),(nth (nth t.ot S2.c.1.toNat) (((t.i)+((S2.d (aY w e i))))).toNat)):Ev))) (@rfl V (V.ms 11 v2 0 (S2.e.length))) h11 (by first|rfl|simp|omega) (@rfl V (V.sl [[(iV ((((nth (S2.a) ((S2.d (aY w e i))).toNat))))),(iV (((((t.i)+((S2.d (aY w e i))))).toNat:Nat):Int)),(iV (nth (nth t.ot S2.c.1.toNat) (((t.i)+((S2.d (aY w e i))))).toNat))]])) rfl rfl (by omega) (by omega) ?_)))))))
   refine aA rfl (R_e (W_r (aA rfl (eP rfl (@rfl Blk (bz (v2+1) 110 3 (List.map cEv (S2.e++[((((((nth (S2.a) ((S2.d (aY w e i))).toNat)))),(((((t.i)+((S2.d (aY w e i))))).toNat:Nat):Int),(nth (nth t.ot S2.c.1.toNat) (((t.i)+((S2.d (aY w e i))))).toNat)):Ev)])))) (by first|rfl|simp) (eU rfl rfl (R_e ?_))))))
   refine fR rfl (fun c13=>?_) fun c13=>?_
   ·
    have hx:=hc.trans (aUe (by omega) (hw.trans (aJ4 hd hk2.el (by omega))))
    refine W_r (aA rfl (aA rfl (R_e (bK (y12 _ _ (p210 _ _ (y9 _ _ ?_)))))))
    refine y6 _ _ (p24 _ _ (y3 _ _ ?_))
    refine lT (@rfl V V.nilsl) (@rfl V (iV (11:Int))) (eY ?_) (aQ ?_)
    · rw [mY (by rw [rV d1 d2 hx]; first|decide|assumption)]
    · exact (rV d1 d2 hx).symm
   have d8: ¬10000 < S2.e.length+1:=by omega
   have hk3:=hk2.step ht (show ((dI t S2 (aY w e i)):Int) < t.i+t.tm by omega) du8 d8
   refine cX (n12 _ _ (dE (R:=fun T H=>T 1=(V.sl (List.map cSg (w)))∧T 2=(iV (e))∧T 3=(V.mp 3 1 0 0)∧T 9=(aS (tcT t.i w ((e))))∧T 11=(V.ms 11 (v2+1) 0 (S2.e.length+1))∧T 12=(V.mp 12 1 0 0)∧T 13=(iV ((i:Nat):Int))∧T 14=(iV ((aY w e i)))∧T 90=(V.bool (decide ((10000:Int) < ((S2.e.length+1:Nat):Int))))∧H 3=(bk 1 29 6 [[(iV (t.i)),(iV (t.tm)),(iV (t.s)),(aB t.nx),(aB t.ot),(V.sl (List.map cSr (t.st)))]])∧H 11=(bz (v2+1) 110 3 (List.map cEv (S2.e++[((((((nth (S2.a) ((S2.d (aY w e i))).toNat)))),(((((t.i)+((S2.d (aY w e i))))).toNat:Nat):Int),(nth (nth t.ot S2.c.1.toNat) (((t.i)+((S2.d (aY w e i))))).toNat)):Ev)])))∧H 12=(bk 1 107 3 [[(iV ((afT t S2.c (((t.i)+((S2.d (aY w e i))))).toNat).1)),(V.sl (List.map cB ((afT t S2.c (((t.i)+((S2.d (aY w e i))))).toNat).2))),(aS (tkA t S2.c S2.a (((t.i)+((S2.d (aY w e i))))).toNat (((nth (S2.a) ((S2.d (aY w e i))).toNat)))))]])∧H 16=(bk (v16+1) 107 3 [[(iV ((afT t S2.c (((t.i)+((S2.d (aY w e i))))).toNat).1)),(V.sl (List.map cB ((afT t S2.c (((t.i)+((S2.d (aY w e i))))).toNat).2))),(aS (tkA t S2.c S2.a (((t.i)+((S2.d (aY w e i))))).toNat (((nth (S2.a) ((S2.d (aY w e i))).toNat)))))]])∧H 17=(bk (v17+1) 110 3 [[(iV ((((nth (S2.a) ((S2.d (aY w e i))).toNat))))),(iV (((((t.i)+((S2.d (aY w e i))))).toNat:Nat):Int)),(iV (nth (nth t.ot S2.c.1.toNat) (((t.i)+((S2.d (aY w e i))))).toNat))]])∧((H 18).ver=v18∧(H 18).live=false)∧((H 19).ver=v19∧(H 19).live=false)∧((H 39).ver=1∧(H 39).live=false)∧((H 43).ver=1∧(H 43).live=false)∧True) ⟨t1,t2,t3,t9,(@rfl V (V.ms 11 (v2+1) 0 (S2.e.length+1))),t12,t13,t14,(@rfl V (V.bool (decide ((10000:Int) < ((S2.e.length+1:Nat):Int))))),h3,rfl,rfl,rfl,rfl,h18,h19,h39,h43,trivial⟩ ?_))
   intro T H ⟨t1,t2,t3,t9,t11,t12,t13,t14,t90,h3,h11,h12,h16,h17,h18,h19,h39,h43,_⟩
   refine .freeze 16 (dE (R:=fun T H=>T 1=(V.sl (List.map cSg (w)))∧T 2=(iV (e))∧T 3=(V.mp 3 1 0 0)∧T 9=(aS (tcT t.i w ((e))))∧T 11=(V.ms 11 (v2+1) 0 (S2.e.length+1))∧T 12=(V.mp 12 1 0 0)∧T 13=(iV ((i:Nat):Int))∧T 14=(iV ((aY w e i)))∧T 90=(V.bool (decide ((10000:Int) < ((S2.e.length+1:Nat):Int))))∧H 3=(bk 1 29 6 [[(iV (t.i)),(iV (t.tm)),(iV (t.s)),(aB t.nx),(aB t.ot),(V.sl (List.map cSr (t.st)))]])∧H 11=(bz (v2+1) 110 3 (List.map cEv (S2.e++[((((((nth (S2.a) ((S2.d (aY w e i))).toNat)))),(((((t.i)+((S2.d (aY w e i))))).toNat:Nat):Int),(nth (nth t.ot S2.c.1.toNat) (((t.i)+((S2.d (aY w e i))))).toNat)):Ev)])))∧H 12=(bk 1 107 3 [[(iV ((afT t S2.c (((t.i)+((S2.d (aY w e i))))).toNat).1)),(V.sl (List.map cB ((afT t S2.c (((t.i)+((S2.d (aY w e i))))).toNat).2))),(aS (tkA t S2.c S2.a (((t.i)+((S2.d (aY w e i))))).toNat (((nth (S2.a) ((S2.d (aY w e i))).toNat)))))]])∧((H 16).ver=v16+1∧(H 16).live=false)∧H 17=(bk (v17+1) 110 3 [[(iV ((((nth (S2.a) ((S2.d (aY w e i))).toNat))))),(iV (((((t.i)+((S2.d (aY w e i))))).toNat:Nat):Int)),(iV (nth (nth t.ot S2.c.1.toNat) (((t.i)+((S2.d (aY w e i))))).toNat))]])∧((H 18).ver=v18∧(H 18).live=false)∧((H 19).ver=v19∧(H 19).live=false)∧((H 39).ver=1∧(H 39).live=false)∧((H 43).ver=1∧(H 43).live=false)∧True) ⟨(aT t1 rfl),(aT t2 rfl),(aT t3 rfl),(aT t9 rfl),(aT t11 (dD (by decide))),(aT t12 rfl),(aT t13 rfl),(aT t14 rfl),(aT t90 rfl),(aR h3 (by decide)),(aR h11 (by decide)),(aR h12 (by decide)),(dM (congrArg Blk.ver h16)),(aR h17 (by decide)),(cA h18),(cA h19),(cA h39),(cA h43),trivial⟩ ?_)
   intro T H ⟨t1,t2,t3,t9,t11,t12,t13,t14,t90,h3,h11,h12,h16,h17,h18,h19,h39,h43,_⟩
   refine .freeze 17 (.done ?_)
   refine dE (R:=fun T H=>T 1=(V.sl (List.map cSg (w)))∧T 2=(iV (e))∧T 3=(V.mp 3 1 0 0)∧T 9=(aS (tcT t.i w ((e))))∧T 11=(V.ms 11 (v2+1) 0 (S2.e.length+1))∧T 12=(V.mp 12 1 0 0)∧T 13=(iV ((i:Nat):Int))∧T 14=(iV ((aY w e i)))∧T 90=(V.bool (decide ((10000:Int) < ((S2.e.length+1:Nat):Int))))∧H 3=(bk 1 29 6 [[(iV (t.i)),(iV (t.tm)),(iV (t.s)),(aB t.nx),(aB t.ot),(V.sl (List.map cSr (t.st)))]])∧H 11=(bz (v2+1) 110 3 (List.map cEv (S2.e++[((((((nth (S2.a) ((S2.d (aY w e i))).toNat)))),(((((t.i)+((S2.d (aY w e i))))).toNat:Nat):Int),(nth (nth t.ot S2.c.1.toNat) (((t.i)+((S2.d (aY w e i))))).toNat)):Ev)])))∧H 12=(bk 1 107 3 [[(iV ((afT t S2.c (((t.i)+((S2.d (aY w e i))))).toNat).1)),(V.sl (List.map cB ((afT t S2.c (((t.i)+((S2.d (aY w e i))))).toNat).2))),(aS (tkA t S2.c S2.a (((t.i)+((S2.d (aY w e i))))).toNat (((nth (S2.a) ((S2.d (aY w e i))).toNat)))))]])∧((H 16).ver=v16+1∧(H 16).live=false)∧((H 17).ver=v17+1∧(H 17).live=false)∧((H 18).ver=v18∧(H 18).live=false)∧((H 19).ver=v19∧(H 19).live=false)∧((H 39).ver=1∧(H 39).live=false)∧((H 43).ver=1∧(H 43).live=false)∧True) ⟨(aT t1 rfl),(aT t2 rfl),(aT t3 rfl),(aT t9 rfl),(aT t11 (dD (by decide))),(aT t12 rfl),(aT t13 rfl),(aT t14 rfl),(aT t90 rfl),(aR h3 (by decide)),(aR h11 (by decide)),(aR h12 (by decide)),(cA h16),(dM (congrArg Blk.ver h17)),(cA h18),(cA h19),(cA h39),(cA h43),trivial⟩ ?_
   intro T H ⟨t1,t2,t3,t9,t11,t12,t13,t14,t90,h3,h11,h12,h16,h17,h18,h19,h39,h43,_⟩
   refine W_t (aK t12 h12 rfl rfl (aA t14 (bG (aCt ((afT t S2.c (((t.i)+((S2.d (aY w e i))))).toNat)) (tkA t S2.c S2.a (((t.i)+((S2.d (aY w e i))))).toNat (((nth (S2.a) ((S2.d (aY w e i))).toNat)))) (((aY w e i))) (by first|exact hk3.c.2.2.trans hk3.al.symm|exact hk.c.2.2.trans hk.al.symm)) rfl (aA rfl (R_e ?_)))))
   refine p110 _ _ _ ?_ ⟨(iZ t S2 (dI t S2 (aY w e i)) (nth S2.a (S2.d (aY w e i)).toNat)),(v2+1),(v16+1),(v17+1),rfl,t1,t2,t3,t9,(Eq.trans t11 (by first|rfl|exact congrArg iV e14|(rw [e14]; done)|(rw [dK]; done)|simp)),t12,t13,t14,(Eq.trans (@rfl V (iV (duS ((afT t S2.c (((t.i)+((S2.d (aY w e i))))).toNat)).2 (tkA t S2.c S2.a (((t.i)+((S2.d (aY w e i))))).toNat (((nth (S2.a) ((S2.d (aY w e i))).toNat)))) (((aY w e i))) (tkA t S2.c S2.a (((t.i)+((S2.d (aY w e i))))).toNat (((nth (S2.a) ((S2.d (aY w e i))).toNat)))).length))) (by first|rfl|exact congrArg iV e14|(rw [e14]; done)|(rw [dK]; done)|simp)),h3,(Eq.trans h11 (by first|rfl|(simp; done))),(Eq.trans h12 (by first|rfl|(simp; done))),h16,h17,h18,h19,h39,h43,?_,?_⟩
   · rw [dK]; omega
   · exact hk3
   · exact hw.trans (aSw hd d8)
  have hd:(S2.d (aY w e i)) < 0:=by omega
  have hR:=hw.trans (aNV hd)
  refine bA (p310 _ _ _ (x9 _ _ (.done (W_r (aA t13 (aA t1 (bN rfl ?_)))))))
  refine bR rfl rfl (R_e ?_)
  refine fR rfl (fun c14=>?_) fun c14=>?_
  ·
   have RUNIN:i < w.length:=by omega
   have iy:=y2 i RUNIN
   have ip:psB t S2.c (nth w i).2.toNat=true:=by unfold psB; rw [decide_eq_true (by omega)]; rfl
   have il:0≤(aY w e i)∧(aY w e i)≤1125899906842624:=hl0
   have hel2:=hk2.el
   refine W_d (by exact (lV (h18).2 (lV (h19).2 wM))) (aK t3 h3 rfl rfl (aK t12 h12 rfl rfl (aA t1 (aA t13 (bL (i:=i) (@rfl V (V.sl (List.map cSg (w)))) (@rfl V (iV ((i:Nat):Int))) (by omega) rfl (jV (cs':=[(iV (((nth (w) (i))).2))]) rfl rfl (aJ rfl rfl ?_)))))))
   refine aA t14 (bG (sR t S2.c S2.a ((((nth (w) (i))).2)) (((aY w e i))) ht hk2.c (by omega) (by first|omega|(rw [du5]; omega)) (by first|exact du4|exact ip) hk2.al (by first|exact du8|exact il)) rfl (aA rfl (eR rfl rfl (eR rfl rfl (cK (i:=18) (n:=v18) (m:=3) rfl (h18).1 rfl (cK (i:=19) (n:=v19) (m:=3) rfl (h19).1 rfl (bQ (vs:=[(iV ((afT t S2.c ((((nth (w) (i))).2)).toNat).1)),(V.sl (List.map cB ((afT t S2.c ((((nth (w) (i))).2)).toNat).2))),(aS (tkA t S2.c S2.a ((((nth (w) (i))).2)).toNat (((aY w e i)))))]) (B':=(bk (v18+1) 107 3 [[(iV ((afT t S2.c ((((nth (w) (i))).2)).toNat).1)),(V.sl (List.map cB ((afT t S2.c ((((nth (w) (i))).2)).toNat).2))),(aS (tkA t S2.c S2.a ((((nth (w) (i))).2)).toNat (((aY w e i)))))]])) rfl rfl rfl rfl (sB oB rfl rfl rfl rfl rfl) ?_)))))))
   refine bQ (vs:=[(iV ((((aY w e i))))),(iV ((((((nth (w) (i))).2)).toNat:Nat):Int)),(iV (nth (nth t.ot S2.c.1.toNat) ((((nth (w) (i))).2)).toNat))]) (B':=(bk (v19+1) 110 3 [[(iV ((((aY w e i))))),(iV ((((((nth (w) (i))).2)).toNat:Nat):Int)),(iV (nth (nth t.ot S2.c.1.toNat) ((((nth (w) (i))).2)).toNat))]])) rfl rfl rfl rfl (sB oB rfl rfl rfl rfl rfl) (R_e (W_r (aK rfl rfl rfl rfl (bQ (vs:=[(iV ((afT t S2.c ((((nth (w) (i))).2)).toNat).1)),(V.sl (List.map cB ((afT t S2.c ((((nth (w) (i))).2)).toNat).2))),(aS (tkA t S2.c S2.a ((((nth (w) (i))).2)).toNat (((aY w e i)))))]) (B':=(bk 1 107 3 [[(iV ((afT t S2.c ((((nth (w) (i))).2)).toNat).1)),(V.sl (List.map cB ((afT t S2.c ((((nth (w) (i))).2)).toNat).2))),(aS (tkA t S2.c S2.a ((((nth (w) (i))).2)).toNat (((aY w e i)))))]])) t12 rfl rfl h12 (sB oB rfl rfl rfl rfl rfl) (R_e ?_)))))
   refine aAb (fun T H=>T 1=(V.sl (List.map cSg (w)))∧T 2=(iV (e))∧T 3=(V.mp 3 1 0 0)∧T 9=(aS (tcT t.i w ((e))))∧T 11=(V.ms 11 (v2+1) 0 (S2.e.length+1))∧T 12=(V.mp 12 1 0 0)∧T 13=(iV ((i:Nat):Int))∧H 3=(bk 1 29 6 [[(iV (t.i)),(iV (t.tm)),(iV (t.s)),(aB t.nx),(aB t.ot),(V.sl (List.map cSr (t.st)))]])∧H 11=(bz (v2+1) 110 3 (List.map cEv (S2.e++[((((((aY w e i)))),((((((nth (w) (i))).2)).toNat:Nat):Int),(nth (nth t.ot S2.c.1.toNat) ((((nth (w) (i))).2)).toNat)):Ev)])))∧H 12=(bk 1 107 3 [[(iV ((afT t S2.c ((((nth (w) (i))).2)).toNat).1)),(V.sl (List.map cB ((afT t S2.c ((((nth (w) (i))).2)).toNat).2))),(aS (tkA t S2.c S2.a ((((nth (w) (i))).2)).toNat (((aY w e i)))))]])∧((H 16).ver=v16∧(H 16).live=false)∧((H 17).ver=v17∧(H 17).live=false)∧H 18=(bk (v18+1) 107 3 [[(iV ((afT t S2.c ((((nth (w) (i))).2)).toNat).1)),(V.sl (List.map cB ((afT t S2.c ((((nth (w) (i))).2)).toNat).2))),(aS (tkA t S2.c S2.a ((((nth (w) (i))).2)).toNat (((aY w e i)))))]])∧H 19=(bk (v19+1) 110 3 [[(iV ((((aY w e i))))),(iV ((((((nth (w) (i))).2)).toNat:Nat):Int)),(iV (nth (nth t.ot S2.c.1.toNat) ((((nth (w) (i))).2)).toNat))]])∧((H 39).ver=1∧(H 39).live=false)∧((H 43).ver=1∧(H 43).live=false)∧True) ?_ ?_
   ·
    refine aA t11 (aK rfl rfl rfl rfl (eF rfl rfl (fL (l:=S2.e) (f:=cEv) (x:=(((((((aY w e i)))),((((((nth (w) (i))).2)).toNat:Nat):Int),(nth (nth t.ot S2.c.1.toNat) ((((nth (w) (i))).2)).toNat)):Ev))) (@rfl V (V.ms 11 v2 0 (S2.e.length))) h11 (by first|rfl|simp|omega) (@rfl V (V.sl [[(iV ((((aY w e i))))),(iV ((((((nth (w) (i))).2)).toNat:Nat):Int)),(iV (nth (nth t.ot S2.c.1.toNat) ((((nth (w) (i))).2)).toNat))]])) rfl rfl (by omega) (by omega) (aA rfl ?_))))
    exact iK ⟨t1,t2,t3,t9,rfl,t12,t13,h3,rfl,rfl,h16,h17,rfl,rfl,h39,h43,trivial⟩
   intro T H ⟨t1,t2,t3,t9,t11,t12,t13,h3,h11,h12,h16,h17,h18,h19,h39,h43,_⟩
   refine .freeze 18 (dE (R:=fun T H=>T 1=(V.sl (List.map cSg (w)))∧T 2=(iV (e))∧T 3=(V.mp 3 1 0 0)∧T 9=(aS (tcT t.i w ((e))))∧T 11=(V.ms 11 (v2+1) 0 (S2.e.length+1))∧T 12=(V.mp 12 1 0 0)∧T 13=(iV ((i:Nat):Int))∧H 3=(bk 1 29 6 [[(iV (t.i)),(iV (t.tm)),(iV (t.s)),(aB t.nx),(aB t.ot),(V.sl (List.map cSr (t.st)))]])∧H 11=(bz (v2+1) 110 3 (List.map cEv (S2.e++[((((((aY w e i)))),((((((nth (w) (i))).2)).toNat:Nat):Int),(nth (nth t.ot S2.c.1.toNat) ((((nth (w) (i))).2)).toNat)):Ev)])))∧H 12=(bk 1 107 3 [[(iV ((afT t S2.c ((((nth (w) (i))).2)).toNat).1)),(V.sl (List.map cB ((afT t S2.c ((((nth (w) (i))).2)).toNat).2))),(aS (tkA t S2.c S2.a ((((nth (w) (i))).2)).toNat (((aY w e i)))))]])∧((H 16).ver=v16∧(H 16).live=false)∧((H 17).ver=v17∧(H 17).live=false)∧((H 18).ver=v18+1∧(H 18).live=false)∧H 19=(bk (v19+1) 110 3 [[(iV ((((aY w e i))))),(iV ((((((nth (w) (i))).2)).toNat:Nat):Int)),(iV (nth (nth t.ot S2.c.1.toNat) ((((nth (w) (i))).2)).toNat))]])∧((H 39).ver=1∧(H 39).live=false)∧((H 43).ver=1∧(H 43).live=false)∧True) ⟨(aT t1 rfl),(aT t2 rfl),(aT t3 rfl),(aT t9 rfl),(aT t11 (dD (by decide))),(aT t12 rfl),(aT t13 rfl),(aR h3 (by decide)),(aR h11 (by decide)),(aR h12 (by decide)),(cA h16),(cA h17),(dM (congrArg Blk.ver h18)),(aR h19 (by decide)),(cA h39),(cA h43),trivial⟩ ?_)
   intro T H ⟨t1,t2,t3,t9,t11,t12,t13,h3,h11,h12,h16,h17,h18,h19,h39,h43,_⟩
   refine .freeze 19 (.done ?_)
   refine dE (R:=fun T H=>T 1=(V.sl (List.map cSg (w)))∧T 2=(iV (e))∧T 3=(V.mp 3 1 0 0)∧T 9=(aS (tcT t.i w ((e))))∧T 11=(V.ms 11 (v2+1) 0 (S2.e.length+1))∧T 12=(V.mp 12 1 0 0)∧T 13=(iV ((i:Nat):Int))∧H 3=(bk 1 29 6 [[(iV (t.i)),(iV (t.tm)),(iV (t.s)),(aB t.nx),(aB t.ot),(V.sl (List.map cSr (t.st)))]])∧H 11=(bz (v2+1) 110 3 (List.map cEv (S2.e++[((((((aY w e i)))),((((((nth (w) (i))).2)).toNat:Nat):Int),(nth (nth t.ot S2.c.1.toNat) ((((nth (w) (i))).2)).toNat)):Ev)])))∧H 12=(bk 1 107 3 [[(iV ((afT t S2.c ((((nth (w) (i))).2)).toNat).1)),(V.sl (List.map cB ((afT t S2.c ((((nth (w) (i))).2)).toNat).2))),(aS (tkA t S2.c S2.a ((((nth (w) (i))).2)).toNat (((aY w e i)))))]])∧((H 16).ver=v16∧(H 16).live=false)∧((H 17).ver=v17∧(H 17).live=false)∧((H 18).ver=v18+1∧(H 18).live=false)∧((H 19).ver=v19+1∧(H 19).live=false)∧((H 39).ver=1∧(H 39).live=false)∧((H 43).ver=1∧(H 43).live=false)∧True) ⟨(aT t1 rfl),(aT t2 rfl),(aT t3 rfl),(aT t9 rfl),(aT t11 (dD (by decide))),(aT t12 rfl),(aT t13 rfl),(aR h3 (by decide)),(aR h11 (by decide)),(aR h12 (by decide)),(cA h16),(cA h17),(cA h18),(dM (congrArg Blk.ver h19)),(cA h39),(cA h43),trivial⟩ ?_
   intro T H ⟨t1,t2,t3,t9,t11,t12,t13,h3,h11,h12,h16,h17,h18,h19,h39,h43,_⟩
   refine W_r (aA t11 (eP rfl h11 (by first|rfl|simp) (eU rfl rfl (R_e ?_))))
   refine fR rfl (fun c15=>?_) fun c15=>?_
   ·
    have hx:=hc.trans (aUo (by omega) hR RUNIN (by omega))
    refine W_r (aA rfl (aA rfl (R_e (bK (y6 _ _ (p24 _ _ (y3 _ _ ?_)))))))
    refine lT (@rfl V V.nilsl) (@rfl V (iV (11:Int))) (eY ?_) (aQ ?_)
    · rw [mY (by rw [rV d1 d2 hx]; first|decide|assumption)]
    · exact (rV d1 d2 hx).symm
   have d9: ¬10000 < S2.e.length+1:=by omega
   have hk4:=hk2.step ht (show (((nth w i).2.toNat:Nat):Int) < t.i+t.tm by omega) il d9
   refine cX (n6 _ _ (.done (W_t (aA t13 (bV rfl (@rfl V (iV ((1:Nat):Int))) (by omega) (aA rfl (R_e ?_)))))))
   refine p14 _ _ _ ?_ ⟨(i+1),(iZ t S2 (nth w i).2.toNat (aY w e i)),(v2+1),v16,v17,(v18+1),(v19+1),rfl,t1,t2,t3,t9,(Eq.trans t11 (by first|rfl|exact congrArg iV e14|(rw [e14]; done)|(rw [dK]; done)|simp)),t12,(Eq.trans (@rfl V (iV ((i+1:Nat):Int))) (by first|rfl|exact congrArg iV e14|(rw [e14]; done)|(rw [dK]; done)|simp)),h3,(Eq.trans h11 (by first|rfl|(simp; done))),(Eq.trans h12 (by first|rfl|(simp; done))),h16,h17,h18,h19,h39,h43,?_,?_,?_⟩
   · omega
   · omega
   · first|exact hk4|exact hk2
   · first|exact hc.trans (aRE (by omega) hR (by omega) d9)|exact hc.trans (aTY (by omega) hR (by omega))
  refine cX (n6 _ _ (.done (W_t (aA t13 (bV rfl (@rfl V (iV ((1:Nat):Int))) (by omega) (aA rfl (R_e ?_)))))))
  refine p14 _ _ _ ?_ ⟨(i+1),S2,v2,v16,v17,v18,v19,rfl,t1,t2,t3,t9,t11,t12,(Eq.trans (@rfl V (iV ((i+1:Nat):Int))) (by first|rfl|exact congrArg iV e14|(rw [e14]; done)|(rw [dK]; done)|simp)),h3,h11,h12,h16,h17,h18,h19,h39,h43,?_,?_,?_⟩
  · omega
  · omega
  · first|exact hk4|exact hk2
  · first|exact hc.trans (aRE (by omega) hR (by omega) d9)|exact hc.trans (aTY (by omega) hR (by omega))
 have hx:=hc.trans (aO4 (by omega))
 refine bA (p34 _ _ _ (x3 _ _ (.done (W_r (aA t11 (aA rfl (aA rfl ?_)))))))
 refine R_e (bK ?_)
 refine lT (@rfl V (V.ms 11 v 0 (S.e.length))) (@rfl V (iV (0:Int))) (nS h11 (by first|rfl|simp) (l:=S.e) rfl (by first|rfl|simp|omega) (fun _=>by simp) ?_) (aQ ?_)
 · rw [aGd (aAS d1 d2 hx) hx]
 · exact (aAS d1 d2 hx).symm
end Go.Proofs.YtilfohjlglefjaaGreat
namespace Go.Proofs.YtilfohjlglefjaaGreat
open Go Go.Proofs
def aRG:List SO:=[
 qM 17 0,
 qM 18 5,
 qA 19 3 17 18,
 qL 20 3 19,
 qM 21 1,
 qM 22 5,
 qA 23 3 21 22,
 qL 24 3 23,
 sO 25 (.abin true [0,0,0] (.t 20) (.t 24))]
def aLp:SC:=.seq (.seq (.reg [qM 11 5,qM 12 0,qN 13 12,qP 14 .lss 11 13]) (.cond (.t 14) (.skip) (.exit 0))) (.seq (.block 1 (.seq (.reg aRG) (.cond (.t 25) (.seq (.reg [sO 4 (.mv (.c (.bool false)))]) (.ret)) (.skip)))) (.reg [qM 15 5,qC 16 .add 15 1,qM 5 16]))
def s25:SF:=⟨26,[.tmp 4],.seq (.reg [sO 4 (.mv (.c (.bool false)))]) (.seq (.seq (.reg [qM 6 0,qN 7 6,qM 8 1,qN 9 8,qP 10 .neq 7 9]) (.cond (.t 10) (.seq (.reg [sO 4 (.mv (.c (.bool false)))]) (.ret)) (.skip))) (.seq (.seq (.reg [qI 5 0]) (.block 0 (.loop aLp))) (.seq (.reg [sO 4 (.mv (.c (.bool true)))]) (.ret))))⟩
theorem aOD:aL Tryz.prog ⟨[58,129,130,131,149,155,161,182,183,185,191,192,208,209,210,224,228,231,236],[],[],[]⟩ Tryz.f25=some s25:=by kernel_rfl
theorem aBN (a b:List Ev):bB Tryz.prog 25 [(V.sl (List.map cEv (a))),(V.sl (List.map cEv (b)))] (V.bool (decide (a=b))):=by
 refine pW Tryz.func25 aOD fun hB=>?_
 unfold s25
 dsimp only
 refine W_r (aA rfl (R_e (aC (W_r (aA rfl (bN rfl (aA rfl ?_)))))))
 refine bN rfl (dQ rfl rfl (R_e ?_))
 refine aO rfl (fun c1=>?_) fun c1=>?_
 ·
  have d0:=c1
  refine aC (W_r (aA rfl (R_e (aU ?_))))
  refine bH (@rfl V (V.bool false)) (bU ?_)
  · exact (decide_eq_false (fun e=>by subst e; exact d0 rfl)).symm
 refine aH (aC (W_r (aA rfl (R_e (aI fun Q2 n2 x2 y2 z2=>?_)))))
 refine cW (fun mm T H=> ∃ (k:Nat),mm=a.length - k∧T 0=(V.sl (List.map cEv (a)))∧T 1=(V.sl (List.map cEv (b)))∧T 5=(iV ((k:Nat):Int))∧(k≤a.length)∧(a.length=b.length)∧(∀ j,j < k→nth a j=nth b j)) ?_ ?_
 ·
  refine ⟨_,0,rfl,rfl,rfl,(Eq.trans (@rfl V (iV (0:Int))) rfl),?_,?_,?_⟩
  · exact Nat.zero_le _
  · omega
  · intro j hj; omega
 intro mm T H ⟨k,hmm,t0,t1,t5,hk,hl,hc⟩ Q3 p13 p23 p33
 unfold aLp
 refine aC (W_r (aA t5 (aA t0 (bN rfl (bR rfl rfl (R_e ?_))))))
 refine aO rfl (fun c4=>?_) fun c4=>?_
 ·
  refine aH (aI fun Q5 n5 x5 y5 z5=>(W_r (aA t0 (aA t5 (bL (i:=k) (@rfl V (V.sl (List.map cEv (a)))) (@rfl V (iV ((k:Nat):Int))) (by omega) rfl (aJ rfl rfl (aA t1 ?_)))))))
  refine aA t5 (bL (i:=k) (@rfl V (V.sl (List.map cEv (b)))) (@rfl V (iV ((k:Nat):Int))) (by omega) rfl (aJ rfl rfl (aPz rfl rfl (R_e ?_))))
  refine fR rfl (fun c6=>?_) fun c6=>?_
  ·
   have d1:=c6
   refine W_r (aA rfl (R_e (bK (y5 _ _ (p23 _ _ (y2 _ _ ?_))))))
   refine bH (@rfl V (V.bool false)) (bU ?_)
   · exact (decide_eq_false (fun e=>by subst e; exact d1 ⟨rfl,rfl,rfl⟩)).symm
  have d1:nth a k=nth b k:=by
    have q:=Decidable.not_not.1 c6
    exact Prod.ext q.1 (Prod.ext q.2.1 q.2.2)
  refine cX (n5 _ _ (.done (W_t (aA t5 (bV rfl (@rfl V (iV ((1:Nat):Int))) (by omega) (aA rfl (R_e ?_)))))))
  refine p13 _ _ _ ?_ ⟨(k+1),rfl,t0,t1,(Eq.trans (@rfl V (iV ((k+1:Nat):Int))) (by first|rfl|simp)),?_,?_,?_⟩
  · omega
  · omega
  · exact hl
  · intro j hj
    by_cases e:j=k
    · subst e; exact d1
    · exact hc j (by omega)
 refine bA (p33 _ _ _ (x2 _ _ (.done (W_r (aA rfl (R_e (bK ?_)))))))
 refine bH (@rfl V (V.bool true)) (bU ?_)
 · exact (decide_eq_true (jC hl fun j hj=>hc j (by omega))).symm
end Go.Proofs.YtilfohjlglefjaaGreat
namespace Go.Proofs.YtilfohjlglefjaaGreat
open Go
def RX (t:TM) (l:List Cf) (k x:Nat) (a b:Int):Prop:=
  (psB t (nth l k) x=false→a=k∧b=0)∧(psB t (nth l k) x=true→0≤a∧a < l.length∧nth l a.toNat=afT t (nth l k) x∧b=unO t (nth l k) x)
theorem RX.mono {t:TM} {l y:List Cf} {k x:Nat} {a b:Int} (h:RX t l k x a b) (hk:k < l.length):RX t (l++y) k x a b:=by
  unfold RX
  rw [bD hk]
  refine ⟨h.1,fun q=>?_⟩
  obtain ⟨h1,h2,h3,h4⟩:=h.2 q
  rw [bD (by omega),List.length_append]
  exact ⟨h1,by omega,h3,h4⟩
theorem aE8 (l:List Cf) (c:Cf): ∃ y,cQ l c=l++y:=by
  unfold cQ; split
  · exact ⟨_,rfl⟩
  · exact ⟨[],by simp⟩
theorem aHJ (l:List Cf) (c:Cf):plc l c < (cQ l c).length∧nth (cQ l c) (plc l c)=c:=by
  rcases pF l c with ⟨h1,h2⟩|⟨h1,h2⟩
  · unfold cQ; rw [if_neg (by omega)]; exact ⟨h1,h2⟩
  · unfold cQ; rw [if_pos h1,h1,List.length_append]
    refine ⟨by simp,?_⟩
    have:=cO (l:=l) (m:=[c]) (j:=0)
    rw [Nat.add_zero] at this
    rw [this]; rfl
theorem rT {α:Type} [Inhabited α] {l:List α} {a:α} {i:Nat} (h:l.length=i):nth (l++[a]) i=a:=by
  have:=cO (l:=l) (m:=[a]) (j:=0)
  rw [Nat.add_zero,h] at this
  rw [this]; rfl
section
variable {t:TM}
theorem lQ {k : Nat} : ∀ (n i : Nat) (S : US), k < S.l.length → S.a.length = i → S.b.length = i → (∀ x, x < i → RX t S.l k x (nth S.a x) (nth S.b x)) →
    ∀ S',dN t k n i S=(0,S')→(∃ y,S'.l=S.l++y)∧ ∀ x,x < i+n→RX t S'.l k x (nth S'.a x) (nth S'.b x)
  | 0, i, S, hk, ha, hb, hx, S', h => by
    rw [dN] at h
    cases h
    exact ⟨⟨[],by simp⟩,fun x q=>hx x (by omega)⟩
  | n + 1, i, S, hk, ha, hb, hx, S', h => by
    rw [dN] at h
    split at h
    · rename_i h0
      have:=lQ n (i+1) ⟨S.l,S.a++[(k:Int)],S.b++[0]⟩ hk (by simp; exact ha) (by simp; exact hb) (fun x hxx=>?_) S' h
      · exact ⟨this.1,fun x q=>this.2 x (by omega)⟩
      show RX t S.l k x (nth (S.a++_) x) (nth (S.b++_) x)
      by_cases e:x < i
      · rw [bD (by omega),bD (by omega)]; exact hx x e
      · have e:x=i:=by omega
        subst e
        rw [rT ha,rT hb]
        exact ⟨fun _=>⟨rfl,rfl⟩,fun q=>by rw [h0] at q; cases q⟩
    · split at h
      · cases h
      split at h
      · cases h
      rename_i h1 h2 h3
      obtain ⟨y,hy⟩:=aE8 S.l (afT t (nth S.l k) i)
      have hat:=aHJ S.l (afT t (nth S.l k) i)
      have:=lQ n (i+1) ⟨cQ S.l (afT t (nth S.l k) i),S.a++[((plc S.l (afT t (nth S.l k) i):Nat):Int)],S.b++[unO t (nth S.l k) i]⟩ (by show k < (cQ _ _).length; rw [hy,List.length_append]; omega) (by simp; exact ha) (by simp; exact hb) (fun x hxx=>?_) S' h
      · obtain ⟨⟨z,hz⟩,g⟩:=this
        refine ⟨⟨y++z,by rw [hz]; show cQ _ _++z=_; rw [hy,List.append_assoc]⟩,fun x q=>g x (by omega)⟩
      show RX t (cQ S.l (afT t (nth S.l k) i)) k x (nth (S.a++_) x) (nth (S.b++_) x)
      by_cases e:x < i
      · rw [bD (by omega),bD (by omega),hy]; exact (hx x e).mono hk
      · have e:x=i:=by omega
        subst e
        rw [rT ha,rT hb]
        have hn:nth (cQ S.l (afT t (nth S.l k) x)) k=nth S.l k:=by rw [hy,bD hk]
        refine ⟨fun q=>by rw [hn] at q; exact absurd q h1,fun _=>?_⟩
        rw [hn]
        exact ⟨by omega,by omega,by rw [Int.toNat_natCast]; exact hat.2,rfl⟩
def aLv (t:TM) (U:UM):Prop:= ∀ s,s < U.nx.length→ ∀ x:Nat,x < (t.i+t.tm).toNat→RX t U.l s x (nth (nth U.nx s) x) (nth (nth U.ot s) x)
theorem oU : ∀ (n k : Nat) (U : UM), k ≤ U.l.length → U.nx.length = k → U.ot.length = k → aLv t U → ∀ U', gQ t n k U = (0, U') → aLv t U'
  |0,k,U,hl,ha,hb,hr,U',h=>by rw [gQ] at h; cases h; exact hr
  | n + 1, k, U, hl, ha, hb, hr, U', h => by
    rw [gQ] at h
    split at h
    · rename_i hkl
      generalize hS:dN t k (t.i+t.tm).toNat 0 ⟨U.l,[],[]⟩=R at h
      obtain ⟨e,S⟩:=R
      simp only at h
      split at h
      · rename_i q; cases h; exact absurd rfl q
      · rename_i q
        have he:e=0:=by simpa using q
        subst he
        obtain ⟨⟨y,hy⟩,g⟩:=lQ (t.i+t.tm).toNat 0 ⟨U.l,[],[]⟩ hkl rfl rfl (fun x hx=>by omega) S hS
        have hy:S.l=U.l++y:=hy
        refine oU n (k+1) ⟨S.l,U.nx++[S.a],U.ot++[S.b]⟩ (by show k+1≤S.l.length; rw [hy,List.length_append]; omega) (by simp; exact ha) (by simp; exact hb) (fun s hs x hx=>?_) U' h
        have hs:s < (U.nx++[S.a]).length:=hs
        rw [List.length_append,List.length_singleton] at hs
        show RX t S.l s x (nth (nth (U.nx++[S.a]) s) x) (nth (nth (U.ot++[S.b]) s) x)
        by_cases e:s < k
        · rw [bD (by omega),bD (by omega),hy]
          exact (hr s (by omega) x hx).mono (by omega)
        · have e:s=k:=by omega
          subst e
          rw [rT ha,rT hb]
          exact g x (by omega)
    · cases h; exact hr
theorem aEh (h:unE t=0) (hv:cR t=0): ∃ U,unX t=(0,U)∧unM t=⟨t.i+t.tm,0,U.nx,U.ot⟩:=by
  have h1:(unX t).1=0:=by unfold unE at h; rw [if_neg (by omega)] at h; exact h
  refine ⟨(unX t).2,Prod.ext h1 rfl,?_⟩
  exact rA (by omega) (Prod.ext h1 rfl)
theorem pB : ∀ (n k : Nat) (U : UM) (U' : UM) (e : Int), 0 < U.l.length → gQ t n k U = (e, U') → e = 0 → 0 < U'.l.length ∧ nth U'.l 0 = nth U.l 0
  |0,k,U,U',e,hp,h,he=>by rw [gQ] at h; cases h; exact ⟨hp,rfl⟩
  | n + 1, k, U, U', e, hp, h, he => by
    rw [gQ] at h
    split at h
    · rename_i hkl
      generalize hS:dN t k (t.i+t.tm).toNat 0 ⟨U.l,[],[]⟩=R at h
      obtain ⟨e2,S⟩:=R
      simp only at h
      split at h
      · rename_i q; cases h; exact absurd he q
      · rename_i q
        have he2:e2=0:=by simpa using q
        subst he2
        obtain ⟨⟨y,hy⟩,_⟩:=lQ (t.i+t.tm).toNat 0 ⟨U.l,[],[]⟩ hkl rfl rfl (fun x hx=>by omega) S hS
        have hy:S.l=U.l++y:=hy
        have:=pB n (k+1) ⟨S.l,U.nx++[S.a],U.ot++[S.b]⟩ U' e (by show 0 < S.l.length; rw [hy,List.length_append]; omega) h he
        refine ⟨this.1,this.2.trans ?_⟩
        show nth S.l 0=_
        rw [hy,bD hp]
    · cases h; exact ⟨hp,rfl⟩
end
def Eqv (a b:TM) (UA UB:UM) (c d:Cf):Prop:= ∃ k l,k < UA.l.length∧l < UB.l.length∧nth UA.l k=c∧nth UB.l l=d∧
  ∀ w,InW (a.i+a.tm) w→bI ⟨a.i+a.tm,0,UA.nx,UA.ot⟩ k w=bI ⟨b.i+b.tm,0,UB.nx,UB.ot⟩ l w
theorem aKA {o o' c c' K:Int} (hK:0 < K) (hc:0≤c∧c < K) (hc':0≤c'∧c' < K) (h:1+o*K+c=1+o'*K+c'):o=o'∧c=c':=by
  have e:o=o':=by
    rcases Int.lt_trichotomy o o' with q|q|q
    · have:=Int.mul_le_mul_of_nonneg_right (show o+1≤o' by omega) (Int.le_of_lt hK)
      rw [Int.add_mul] at this; omega
    · exact q
    · have:=Int.mul_le_mul_of_nonneg_right (show o'+1≤o by omega) (Int.le_of_lt hK)
      rw [Int.add_mul] at this; omega
  subst e
  exact ⟨rfl,by omega⟩
theorem zT {t:TM} (ht:TOK t) {c:Cf} (hc:mU t c) {i:Nat} (hi:(i:Int) < t.i+t.tm):0≤afC t c i∧afC t c i < sgK t.tm:=by
  obtain ⟨_,_,h3,h4,_,_,_,_,_,_,_,h⟩:=ht
  have:=(h c.1.toNat (by have:=hc.1; have:=hc.2.1; omega)).2.2.2 i hi
  unfold afC sgK
  split
  · omega
  · rename_i q
    unfold afN at q
    omega
section
variable {a b:TM} {UA UB:UM}
theorem Eqv.step (ha:TOK a) (hb:TOK b) (hi:a.i=b.i) (ht:a.tm=b.tm) (xa:unX a=(0,UA)) (xb:unX b=(0,UB)) {c d:Cf} (h:Eqv a b UA UB c d) {i:Nat} (hlt:(i:Int) < a.i+a.tm):
    psB a c i=psB b d i∧(psB a c i=true→nth (nth a.ot c.1.toNat) i=nth (nth b.ot d.1.toNat) i∧afC a c i=afC b d i∧Eqv a b UA UB (afT a c i) (afT b d i)):=by
  obtain ⟨k,l,hk,hl,e1,e2,hw⟩:=h
  obtain ⟨ga1,ga2,ga3,ga4⟩:=gZ ha 129 0 (ini a) (by omega) (oX ha) (Nat.zero_le _) rfl rfl (fun s hs=>absurd hs (Nat.not_lt_zero _)) UA xa
  obtain ⟨gb1,gb2,gb3,gb4⟩:=gZ hb 129 0 (ini b) (by omega) (oX hb) (Nat.zero_le _) rfl rfl (fun s hs=>absurd hs (Nat.not_lt_zero _)) UB xb
  have ra:=oU 129 0 (ini a) (Nat.zero_le _) rfl rfl (fun s hs=>absurd hs (Nat.not_lt_zero _)) UA xa k (by omega) i (by omega)
  have rb:=oU 129 0 (ini b) (Nat.zero_le _) rfl rfl (fun s hs=>absurd hs (Nat.not_lt_zero _)) UB xb l (by omega) i (by omega)
  have hca:=ga1.at hk
  have hcb:=gb1.at hl
  rw [e1] at hca
  rw [e2] at hcb
  have hin: ∀ w,InW (a.i+a.tm) w→InW (a.i+a.tm) ((i:Int)::w):=fun w q x hx=>by
    cases x with
    |zero=>exact ⟨Int.natCast_nonneg i,hlt⟩
    |succ x=>exact q x (by simpa using hx)
  have h1:=hw _ (hin [] (fun x hx=>absurd hx (Nat.not_lt_zero _)))
  have key:nth (nth UA.ot k) i=nth (nth UB.ot l) i:=(List.cons.inj h1).1
  have oa: ∀ q:psB a c i=true,1≤unO a c i∧0≤nth (nth a.ot c.1.toNat) i:=fun q=>by
    obtain ⟨_,_,g3,g4,_,_,_,_,_,_,_,g12⟩:=id ha
    have gx:=(g12 c.1.toNat (by have:=hca.1; have:=hca.2.1; omega)).2.2.2 i hlt
    have:=aAU ⟨gx.2.2.1,gx.2.2.2.1⟩ ⟨g3,g4⟩
    have hA:=zT ha hca hlt
    unfold unO
    exact ⟨by omega,gx.2.2.1⟩
  have hlt2:(i:Int) < b.i+b.tm:=by omega
  have ob: ∀ q:psB b d i=true,1≤unO b d i∧0≤nth (nth b.ot d.1.toNat) i:=fun q=>by
    obtain ⟨_,_,g3,g4,_,_,_,_,_,_,_,g12⟩:=id hb
    have gx:=(g12 d.1.toNat (by have:=hcb.1; have:=hcb.2.1; omega)).2.2.2 i hlt2
    have:=aAU ⟨gx.2.2.1,gx.2.2.2.1⟩ ⟨g3,g4⟩
    have hA:=zT hb hcb hlt2
    unfold unO
    exact ⟨by omega,gx.2.2.1⟩
  cases qa:psB a c i with
  | false =>
    refine ⟨?_,fun q=>by cases q⟩
    cases qb:psB b d i with
    |false=>rfl
    | true =>
      have:=(ra.1 (by rw [e1]; exact qa)).2
      have h2:=(rb.2 (by rw [e2]; exact qb)).2.2.2
      rw [e2] at h2
      have:=ob qb
      omega
  | true =>
    have r1:=ra.2 (by rw [e1]; exact qa)
    rw [e1] at r1
    obtain ⟨r1,r2,r3,r4⟩:=r1
    cases qb:psB b d i with
    | false =>
      have:=(rb.1 (by rw [e2]; exact qb)).2
      have:=oa qa
      omega
    | true =>
      have s1:=rb.2 (by rw [e2]; exact qb)
      rw [e2] at s1
      obtain ⟨s1,s2,s3,s4⟩:=s1
      have hA:=zT ha hca hlt
      have hB:=zT hb hcb hlt2
      have hq:unO a c i=unO b d i:=by rw [← r4,← s4]; exact key
      unfold unO at hq
      rw [ht] at hq hA
      obtain ⟨q1,q2⟩:=aKA (by unfold sgK; have:=hb.2.2.1; omega) hA hB hq
      refine ⟨rfl,fun _=>⟨q1,q2,(nth (nth UA.nx k) i).toNat,(nth (nth UB.nx l) i).toNat,by omega,by omega,r3,s3,fun w hwi=>?_⟩⟩
      have h3:=(List.cons.inj (hw _ (hin w hwi))).2
      have c1:cell UA.nx (k:Int) (i:Int)=((nth (nth UA.nx k) i).toNat:Int):=by show nth (nth UA.nx k) i=_; omega
      have c2:cell UB.nx (l:Int) (i:Int)=((nth (nth UB.nx l) i).toNat:Int):=by show nth (nth UB.nx l) i=_; omega
      have h3:bI ⟨a.i+a.tm,0,UA.nx,UA.ot⟩ (cell UA.nx (k:Int) (i:Int)) w=bI ⟨b.i+b.tm,0,UB.nx,UB.ot⟩ (cell UB.nx (l:Int) (i:Int)) w:=h3
      rw [c1,c2] at h3
      exact h3
theorem Eqv.ok (ha:TOK a) (hb:TOK b) (xa:unX a=(0,UA)) (xb:unX b=(0,UB)) {c d:Cf} (h:Eqv a b UA UB c d):mU a c∧mU b d:=by
  obtain ⟨k,l,hk,hl,e1,e2,_⟩:=h
  have ga:=(gZ ha 129 0 (ini a) (by omega) (oX ha) (Nat.zero_le _) rfl rfl (fun s hs=>absurd hs (Nat.not_lt_zero _)) UA xa).1.at hk
  have gb:=(gZ hb 129 0 (ini b) (by omega) (oX hb) (Nat.zero_le _) rfl rfl (fun s hs=>absurd hs (Nat.not_lt_zero _)) UB xb).1.at hl
  rw [e1] at ga; rw [e2] at gb
  exact ⟨ga,gb⟩
theorem Eqv.run (ha:TOK a) (hb:TOK b) (hi:a.i=b.i) (ht:a.tm=b.tm) (xa:unX a=(0,UA)) (xb:unX b=(0,UB)) {c d:Cf} (h:Eqv a b UA UB c d):c.2=d.2:=by
  obtain ⟨o1,o2⟩:=h.ok ha hb xa xb
  refine jC (by rw [o1.2.2,o2.2.2,ht]) fun x hx=>?_
  have h1:=ha.1
  have h3:=ha.2.2.1
  have hxl:=o1.2.2
  have hs:=(h.step ha hb hi ht xa xb (i:=(a.i+x).toNat) (by omega)).1
  unfold psB at hs
  rw [decide_eq_false (by omega),decide_eq_false (by omega),show ((((a.i+x).toNat:Nat):Int) - a.i).toNat=x by omega,show ((((a.i+x).toNat:Nat):Int) - b.i).toNat=x by omega] at hs
  simpa using hs
theorem Eqv.set (ha : TOK a) (hb : TOK b) (hi : a.i = b.i) (ht : a.tm = b.tm) (xa : unX a = (0, UA)) (xb : unX b = (0, UB)) {c d : Cf} (h : Eqv a b UA UB c d) {i : Nat} (hlt : (i : Int) < a.i + a.tm) (hp : psB a c i = true) (l : List Int) (now : Int) : tkA a c l i now = tkA b d l i now := by
  obtain ⟨o1,o2⟩:=h.ok ha hb xa xb
  have hs:=((h.step ha hb hi ht xa xb hlt).2 hp).2.1
  have g12:=ha.2.2.2.2.2.2.2.2.2.2.2
  have g12':=hb.2.2.2.2.2.2.2.2.2.2.2
  have gx:=(g12 c.1.toNat (by have:=o1.1; have:=o1.2.1; omega)).2.2.2 i hlt
  have gy:=(g12' d.1.toNat (by have:=o2.1; have:=o2.2.1; omega)).2.2.2 i (by omega)
  unfold afC at hs
  unfold tkA
  by_cases na:afN a c i
  · rw [if_pos na] at hs
    have ca: ¬(0≤(tSt a c.1.toNat i).1∧0 < (tSt a c.1.toNat i).2):=by
      intro z; unfold afN at na; omega
    by_cases nb:afN b d i
    · have cb: ¬(0≤(tSt b d.1.toNat i).1∧0 < (tSt b d.1.toNat i).2):=by
        intro z; unfold afN at nb; omega
      rw [if_neg ca,if_neg cb]
    · rw [if_neg nb] at hs
      unfold afN at nb
      omega
  · rw [if_neg na] at hs
    by_cases nb:afN b d i
    · rw [if_pos nb] at hs
      unfold afN at na
      omega
    · rw [if_neg nb] at hs
      have e1:(tSt a c.1.toNat i).1=(tSt b d.1.toNat i).1:=by unfold afN at na nb; omega
      have e2:(tSt a c.1.toNat i).2=(tSt b d.1.toNat i).2:=by omega
      rw [e1,e2]
structure Eqk (a b:TM) (UA UB:UM) (S R:KS):Prop where
  c:Eqv a b UA UB S.c R.c
  ar:S.a=R.a
  e:S.e=R.e
  ka:KOK a S
  kb:KOK b R
theorem Eqk.d (ha:TOK a) (hb:TOK b) (hi:a.i=b.i) (ht:a.tm=b.tm) (xa:unX a=(0,UA)) (xb:unX b=(0,UB)) {S R:KS} (h:Eqk a b UA UB S R) (lim:Int):S.d lim=R.d lim:=by
  unfold KS.d
  rw [h.ar,h.c.run ha hb hi ht xa xb]
theorem Eqk.stp (ha:TOK a) (hb:TOK b) (hi:a.i=b.i) (ht:a.tm=b.tm) (xa:unX a=(0,UA)) (xb:unX b=(0,UB)) {S R:KS} (h:Eqk a b UA UB S R) {i:Nat} (hlt:(i:Int) < a.i+a.tm) (hp:psB a S.c i=true) (now:Int):
    (iZ a S i now).e=(iZ b R i now).e∧(iZ a S i now).a=(iZ b R i now).a∧Eqv a b UA UB (iZ a S i now).c (iZ b R i now).c:=by
  obtain ⟨s1,s2⟩:=h.c.step ha hb hi ht xa xb hlt
  obtain ⟨q1,q2,q3⟩:=s2 hp
  refine ⟨?_,?_,q3⟩
  · show S.e++[evt a S.c i now]=R.e++[evt b R.c i now]
    unfold evt; rw [h.e,q1]
  · show tkA a S.c S.a i now=tkA b R.c R.a i now
    rw [h.ar]; exact h.c.set ha hb hi ht xa xb hlt hp R.a now
theorem aKV (ha : TOK a) (hb : TOK b) (hi : a.i = b.i) (ht : a.tm = b.tm) (xa : unX a = (0, UA)) (xb : unX b = (0, UB)) {lim : Int} (hlim : 0 ≤ lim ∧ lim ≤ 1125899906842624) : ∀ (n : Nat) (S R : KS), Eqk a b UA UB S R →
    (wN a lim n S).1=(wN b lim n R).1∧((wN a lim n S).1=true→Eqk a b UA UB (wN a lim n S).2 (wN b lim n R).2)
  |0,S,R,h=>⟨rfl,fun _=>h⟩
  | n + 1, S, R, h => by
    have hd:=h.d ha hb hi ht xa xb lim
    rw [wN,wN,← hd]
    by_cases q:S.d lim < 0
    · rw [if_pos q,if_pos q]; exact ⟨rfl,fun _=>h⟩
    · rw [if_neg q,if_neg q]
      have hD:dI b R lim=dI a S lim:=by unfold dI; rw [← hd,hi]
      rw [hD,← h.ar]
      obtain ⟨du1,du2,du3,du4,du5,du6,du7⟩:=h.ka.due ha q
      obtain ⟨p1,p2,p3⟩:=h.stp ha hb hi ht xa xb (i:=dI a S lim) (by omega) du4 (nth S.a (S.d lim).toNat)
      rw [← p1]
      by_cases z:10000 < (iZ a S (dI a S lim) (nth S.a (S.d lim).toNat)).e.length
      · rw [if_pos z,if_pos z]; exact ⟨rfl,fun q=>by cases q⟩
      · rw [if_neg z,if_neg z]
        rw [dK] at z
        have zb: ¬10000 < R.e.length+1:=by rw [← h.e]; exact z
        exact aKV ha hb hi ht xa xb hlim n _ _ ⟨p3,p2,p1,h.ka.step ha (by omega) ⟨du7,by omega⟩ z,h.kb.step hb (by omega) ⟨du7,by omega⟩ zb⟩
theorem aD1 (ha : TOK a) (hb : TOK b) (hi : a.i = b.i) (ht : a.tm = b.tm) (xa : unX a = (0, UA)) (xb : unX b = (0, UB)) {w : List Sg} {e : Int} (hw : tcE a.i w e = 0) : ∀ (n i : Nat) (S R : KS), Eqk a b UA UB S R →
    (oN a w e n i S).1=(oN b w e n i R).1∧((oN a w e n i S).1=true→(oN a w e n i S).2.e=(oN b w e n i R).2.e)
  |0,i,S,R,h=>⟨rfl,fun _=>h.e⟩
  | n + 1, i, S, R, h => by
    have hl:=aGS hw i
    have g:=aKV ha hb hi ht xa xb hl (10001 - S.e.length) S R h
    have gR:wR b (aY w e i) R=wN b (aY w e i) (10001 - S.e.length) R:=by unfold wR; rw [← h.e]
    have gS:wR a (aY w e i) S=wN a (aY w e i) (10001 - S.e.length) S:=rfl
    rw [oN,oN,gR,gS]
    generalize wN a (aY w e i) (10001 - S.e.length) S=A at g
    generalize wN b (aY w e i) (10001 - S.e.length) R=B at g
    obtain ⟨fa,S2⟩:=A
    obtain ⟨fb,R2⟩:=B
    obtain ⟨g1,g2⟩:=g
    simp only at g1 g2 ⊢
    subst g1
    cases fa with
    |false=>exact ⟨rfl,fun q=>by simp at q⟩
    | true =>
      have h2:=g2 rfl
      simp only [Bool.true_eq_false,if_false]
      by_cases q:i < w.length
      · rw [if_pos q,if_pos q]
        have iy:=(aCZ hw).2.1 i q
        have ip:psB a S2.c (nth w i).2.toNat=true:=by unfold psB; rw [decide_eq_true (by omega)]; rfl
        have h3:=ha.2.2.1
        obtain ⟨p1,p2,p3⟩:=h2.stp ha hb hi ht xa xb (i:=(nth w i).2.toNat) (by omega) ip (aY w e i)
        rw [← p1]
        by_cases z:10000 < (iZ a S2 (nth w i).2.toNat (aY w e i)).e.length
        · rw [if_pos z,if_pos z]; exact ⟨rfl,fun q=>by cases q⟩
        · rw [if_neg z,if_neg z]
          rw [dK] at z
          have zb: ¬10000 < R2.e.length+1:=by rw [← h2.e]; exact z
          exact aD1 ha hb hi ht xa xb hw n (i+1) _ _ ⟨p3,p2,p1,h2.ka.step ha (by omega) hl z,h2.kb.step hb (by omega) hl zb⟩
      · rw [if_neg q,if_neg q]
        exact aD1 ha hb hi ht xa xb hw n (i+1) _ _ h2
end
theorem aF0 {a b : TM} (h : tqE a b = 0) (hF : tqF a b = false) : tqW a b = [] ∧ ∀ w e, gN a w e = gN b w e ∧ lI a w e = lI b w e := by
  have hq:tmQ a b=0:=Decidable.byContradiction fun q=>by
    have:=(kE (a:=a) (b:=b) rfl q).2.2; omega
  obtain ⟨h1,h2,h3⟩:=vX hq
  rw [h2] at hF
  rw [h3] at h
  have va:cR a=0:=Decidable.byContradiction fun q=>by rw [aEJ q] at hq; exact q hq
  have vb:cR b=0:=Decidable.byContradiction fun q=>by rw [aD3 va q] at hq; exact q hq
  have hit: ¬(a.i≠b.i∨a.tm≠b.tm):=fun q=>by rw [aDi va vb q] at hq; cases hq
  have ua:unE a=0:=Decidable.byContradiction fun q=>by rw [aEm va vb hit q] at hq; exact q hq
  have ub:unE b=0:=by rw [aBm va vb hit ua] at hq; exact hq
  have hi:a.i=b.i:=by omega
  have ht:a.tm=b.tm:=by omega
  obtain ⟨UA,xa,ma⟩:=aEh ua va
  obtain ⟨UB,xb,mb⟩:=aEh ub vb
  have ta:=uB va
  have tb:=uB vb
  obtain ⟨k1,k2,k3⟩:=aCK h
  have hn:dst (unM a) (unM b) (unM a).s (unM b).s=none:=by
    unfold aAY at hF
    rw [if_neg (by omega)] at hF
    cases q:dst (unM a) (unM b) (unM a).s (unM b).s with
    |none=>rfl
    |some x=>rw [q] at hF; cases hF
  have ht2:=yC k1 k2 k3 (kL k1).1 (kL k1).2 (kL k2).1 (kL k2).2
  rw [hn] at ht2
  have ht2: ∀ w,InW (unM a).i w→bI (unM a) (unM a).s w=bI (unM b) (unM b).s w:=ht2
  refine ⟨by rw [h1]; unfold aAV; rw [if_neg (by omega),hn]; rfl,fun w e=>?_⟩
  have hA:=pB 129 0 (ini a) UA 0 (by simp [ini]) xa rfl
  have hB:=pB 129 0 (ini b) UB 0 (by simp [ini]) xb rfl
  have hc:Eqv a b UA UB (tQ a).c (tQ b).c:=⟨0,0,hA.1,hB.1,hA.2,hB.2,fun w hw=>by
    have:=ht2 w (by rw [ma]; exact hw)
    rw [ma,mb] at this
    exact this⟩
  have hk:Eqk a b UA UB (tQ a) (tQ b):=⟨hc,by unfold tQ; rw [ht],rfl,aAH ta,aAH tb⟩
  have he:gN a w e=gN b w e:=by
    by_cases q:tcE a.i w e≠0
    · rw [aAt va q,aAt vb (hi ▸ q),hi]
    · have q1:=Decidable.not_not.1 q
      have q2:tcE b.i w e=0:=hi ▸ q1
      have h5:=(aD1 ta tb hi ht xa xb q1 (w.length+1) 0 (tQ a) (tQ b) hk).1
      have h5:(qT a w e).1=(qT b w e).1:=h5
      cases f:(qT a w e).1 with
      |false=>rw [rV va q1 (S:=(qT a w e).2) (Prod.ext f rfl),rV vb q2 (S:=(qT b w e).2) (Prod.ext (h5 ▸ f) rfl)]
      |true=>rw [aAS va q1 (S:=(qT a w e).2) (Prod.ext f rfl),aAS vb q2 (S:=(qT b w e).2) (Prod.ext (h5 ▸ f) rfl)]
  refine ⟨he,?_⟩
  by_cases q:gN a w e=0
  · have q2:=q
    unfold gN at q2
    rw [if_neg (by omega)] at q2
    split at q2
    · rename_i z; exact absurd q2 z
    · rename_i z
      split at q2
      · cases q2
      · rename_i z2
        have:=(aD1 ta tb hi ht xa xb (Decidable.not_not.1 z) (w.length+1) 0 (tQ a) (tQ b) hk).2 (by simpa [qT] using z2)
        unfold lI
        rw [if_pos q,if_pos (he ▸ q)]
        exact this
  · rw [mY q,mY (he ▸ q)]
theorem aOS {a b : TM} (h : tqE a b ≠ 0 ∨ tqF a b = true) : (decide (tqE a b = 0) == decide (0 < (tqW a b).length)) = true := by
  by_cases hq:tmQ a b=0
  · obtain ⟨h1,h2,h3⟩:=vX hq
    rw [h1,h3]
    rw [h2,h3] at h
    by_cases z:lK (unM a) (unM b)=0
    · obtain ⟨k1,k2,k3⟩:=aCK z
      have hf:aAY (unM a) (unM b)=true:=by rcases h with h|h; exact absurd z h; exact h
      have ht2:=yC k1 k2 k3 (kL k1).1 (kL k1).2 (kL k2).1 (kL k2).2
      unfold aAY at hf
      rw [if_neg (by omega)] at hf
      unfold aAV
      rw [if_neg (by omega)]
      cases q:dst (unM a) (unM b) (unM a).s (unM b).s with
      |none=>rw [q] at hf; cases hf
      | some x =>
        rw [q] at ht2
        have h4:0 < x.length:=ht2.2.2.2
        show (decide _==decide (0 < x.length))=true
        rw [decide_eq_true z,decide_eq_true h4]; rfl
    · have:aAV (unM a) (unM b)=[]:=if_pos z
      rw [this,decide_eq_false z]; rfl
  · obtain ⟨h1,h2,h3⟩:=kE (a:=a) (b:=b) rfl hq
    rw [h1,h3,decide_eq_false hq]; rfl
end Go.Proofs.YtilfohjlglefjaaGreat
namespace Go.Proofs.YtilfohjlglefjaaGreat
open Go
structure TmC where
  a:TM
  b:TM
  w:List Sg
  e:Int
abbrev aN3 (x:TmC):List V:=[iV x.a.i,iV x.a.tm,iV x.a.s,aB x.a.nx,aB x.a.ot,.sl (x.a.st.map cSr),iV x.b.i,iV x.b.tm,iV x.b.s,aB x.b.nx,aB x.b.ot,.sl (x.b.st.map cSr),.sl (x.w.map cSg),iV x.e]
end Go.Proofs.YtilfohjlglefjaaGreat
namespace Go.Proofs.YtilfohjlglefjaaGreat
open Go Go.Proofs
theorem aFv (x:TmC):bB Tryz.prog 7 [(V.agg [(iV (x.a.i)),(iV (x.a.tm)),(iV (x.a.s)),(aB x.a.nx),(aB x.a.ot),(V.sl (List.map cSr (x.a.st))),(iV (x.b.i)),(iV (x.b.tm)),(iV (x.b.s)),(aB x.b.nx),(aB x.b.ot),(V.sl (List.map cSr (x.b.st))),(V.sl (List.map cSg (x.w))),(iV (x.e))])] (V.bool true):=by
 refine pW Tryz.func7 aTZ fun hB=>?_
 unfold s7
 dsimp only
 refine W_r (eT (i:=1) (n:=0) (m:=14) (cs:=[(iV (x.a.i)),(iV (x.a.tm)),(iV (x.a.s)),(aB x.a.nx),(aB x.a.ot),(V.sl (List.map cSr (x.a.st))),(iV (x.b.i)),(iV (x.b.tm)),(iV (x.b.s)),(aB x.b.nx),(aB x.b.ot),(V.sl (List.map cSr (x.b.st))),(V.sl (List.map cSg (x.w))),(iV (x.e))]) rfl (congrArg Blk.ver rfl) rfl rfl rfl (aA rfl (R_e (aC (W_r (aP rfl rfl (aK rfl rfl rfl rfl ?_)))))))
 refine bG (pP x.a) rfl (oK rfl (aA rfl ?_))
 refine aV 5 (fun T H=>T 1=(V.mp 1 1 0 0)∧T 19=(V.bool ((((!tsm x.a))||((!tsm x.b)))))∧H 1=(bk 1 52 14 [[(iV (x.a.i)),(iV (x.a.tm)),(iV (x.a.s)),(aB x.a.nx),(aB x.a.ot),(V.sl (List.map cSr (x.a.st))),(iV (x.b.i)),(iV (x.b.tm)),(iV (x.b.s)),(aB x.b.nx),(aB x.b.ot),(V.sl (List.map cSr (x.b.st))),(V.sl (List.map cSg (x.w))),(iV (x.e))]])∧True) ?_ ?_
 ·
  by_cases g1:((!tsm x.a))=true
  ·
   refine G_n (ebT g1 rfl) (G_n (ebT g1 rfl) (G_n (ebT g1 rfl) (G_n (ebT g1 rfl) (aX (ebT g1 rfl) rfl ?_))))
   exact ⟨rfl,(aQL g1),rfl,trivial⟩
  ·
   refine aD (ebF g1 rfl) (aP rfl rfl (aD (ebF g1 rfl) (aK rfl rfl rfl rfl (aD (ebF g1 rfl) (bG (pP x.b) rfl (aD (ebF g1 rfl) (oK rfl ?_)))))))
   refine aW (ebF g1 rfl) rfl ?_
   exact ⟨rfl,(aPs g1),rfl,trivial⟩
 intro T H ⟨t1,t19,h1,_⟩
 refine aA t19 ?_
 refine aV 5 (fun T H=>T 1=(V.mp 1 1 0 0)∧T 25=(V.bool ((((((!tsm x.a))||((!tsm x.b))))||decide ((60:Int) < ((x.w.length:Nat):Int)))))∧H 1=(bk 1 52 14 [[(iV (x.a.i)),(iV (x.a.tm)),(iV (x.a.s)),(aB x.a.nx),(aB x.a.ot),(V.sl (List.map cSr (x.a.st))),(iV (x.b.i)),(iV (x.b.tm)),(iV (x.b.s)),(aB x.b.nx),(aB x.b.ot),(V.sl (List.map cSr (x.b.st))),(V.sl (List.map cSg (x.w))),(iV (x.e))]])∧True) ?_ ?_
 ·
  by_cases g2:((((!tsm x.a))||((!tsm x.b))))=true
  ·
   have g2x:=g2
   try simp only [Bool.and_eq_true,Bool.or_eq_true,Bool.not_eq_true',decide_eq_true_eq] at g2x
   refine G_n (ebT g2 rfl) (G_n (ebT g2 rfl) (G_n (ebT g2 rfl) (G_n (ebT g2 rfl) (aX (ebT g2 rfl) rfl ?_))))
   exact ⟨t1,(aQL g2),h1,trivial⟩
  ·
   have g2x:=g2
   try simp only [Bool.and_eq_true,Bool.or_eq_true,Bool.not_eq_true',decide_eq_true_eq] at g2x
   refine aD (ebF g2 rfl) (aP t1 h1 (aD (ebF g2 rfl) (aK rfl h1 rfl rfl (aD (ebF g2 rfl) (bN rfl (aD (ebF g2 rfl) (eU rfl rfl ?_)))))))
   refine aW (ebF g2 rfl) rfl ?_
   exact ⟨t1,(aPs g2),h1,trivial⟩
 intro T H ⟨t1,t25,h1,_⟩
 refine R_e ?_
 refine eC t25 (fun c3=>?_) (fun c3=>?_)
 ·
  refine aC (W_r (bG (eE) rfl (aA rfl (R_e (aU ?_)))))
  refine bH (@rfl V (V.bool true)) (iO (by simp) rfl)
 refine aH (W_r (aP t1 h1 (aK rfl h1 rfl rfl (aP t1 h1 (aK rfl h1 rfl rfl (bG (aBe x.a x.b) rfl (aA rfl ?_)))))))
 refine eR rfl rfl (eR rfl rfl (eR rfl rfl (aA rfl (aA rfl (aA rfl (R_e (aC ?_)))))))
 refine W_r (aA rfl (dQ rfl rfl (aA rfl ?_)))
 refine aV 2 (fun T H=>T 1=(V.mp 1 1 0 0)∧T 3=(aS (tqW x.a x.b))∧T 5=(iV (tqE x.a x.b))∧T 40=(V.bool ((decide ((tqE x.a x.b)≠(0:Int))||(tqF x.a x.b))))∧H 1=(bk 1 52 14 [[(iV (x.a.i)),(iV (x.a.tm)),(iV (x.a.s)),(aB x.a.nx),(aB x.a.ot),(V.sl (List.map cSr (x.a.st))),(iV (x.b.i)),(iV (x.b.tm)),(iV (x.b.s)),(aB x.b.nx),(aB x.b.ot),(V.sl (List.map cSr (x.b.st))),(V.sl (List.map cSg (x.w))),(iV (x.e))]])∧True) ?_ ?_
 ·
  by_cases g4:(tqE x.a x.b)≠(0:Int)
  ·
   refine G_n (edT g4 rfl) (aX (edT g4 rfl) rfl ?_)
   exact ⟨t1,rfl,rfl,(aEN g4),h1,trivial⟩
  ·
   refine aD (edF g4 rfl) (aA rfl (aW (edF g4 rfl) rfl ?_))
   exact ⟨t1,rfl,rfl,(aDZ g4),h1,trivial⟩
 intro T H ⟨t1,t3,t5,t40,h1,_⟩
 refine R_e ?_
 refine eC t40 (fun c5=>?_) (fun c5=>?_)
 ·
  have d1:=c5
  have d2:tqE x.a x.b≠0∨tqF x.a x.b=true:=by simpa using d1
  have d3:=aOS d2
  refine aC (W_r (aA t5 (kD rfl rfl (aA t3 (bN rfl (eU rfl rfl (aQF (x:=decide ((tqE x.a x.b)=(0:Int))) (y:=decide ((0:Int) < (((tqW x.a x.b).length:Nat):Int))) rfl rfl ?_)))))))
  refine aA rfl ?_
  refine aV 2 (fun T H=>T 49=(V.bool ((((decide ((tqE x.a x.b)=(0:Int))==decide ((0:Int) < (((tqW x.a x.b).length:Nat):Int))))||false)))∧H 1=(bk 1 52 14 [[(iV (x.a.i)),(iV (x.a.tm)),(iV (x.a.s)),(aB x.a.nx),(aB x.a.ot),(V.sl (List.map cSr (x.a.st))),(iV (x.b.i)),(iV (x.b.tm)),(iV (x.b.s)),(aB x.b.nx),(aB x.b.ot),(V.sl (List.map cSr (x.b.st))),(V.sl (List.map cSg (x.w))),(iV (x.e))]])∧True) ?_ ?_
  ·
   by_cases g6:((decide ((tqE x.a x.b)=(0:Int))==decide ((0:Int) < (((tqW x.a x.b).length:Nat):Int))))=true
   ·
    refine aD (ebT g6 rfl) (bG (eE) rfl (aX (ebT g6 rfl) rfl ?_))
    exact ⟨(aQL g6),h1,trivial⟩
   ·
    refine G_n (ebF g6 rfl) (aW (ebF g6 rfl) rfl ?_)
    exact ⟨(aPs g6),h1,trivial⟩
  intro T H ⟨t49,h1,_⟩
  refine aA t49 (R_e (aU ?_))
  refine bH (@rfl V (V.bool ((((decide ((tqE x.a x.b)=(0:Int))==decide ((0:Int) < (((tqW x.a x.b).length:Nat):Int))))||false)))) (bU ?_)
  · first|rfl|(simp only [d3]; done)|(rw [f1,f3,f4]; simp)|(simp [f1,f3,f4]; done)|simp [d3]
 have d1:=c5
 have d2:tqE x.a x.b=0∧tqF x.a x.b=false:=by simpa using d1
 obtain ⟨f1,f2⟩:=aF0 d2.1 d2.2
 obtain ⟨f3,f4⟩:=f2 x.w x.e
 refine aH (W_r (aP t1 h1 (aK rfl h1 rfl rfl (aP t1 h1 (aK rfl h1 rfl rfl (aP t1 h1 (aK rfl h1 rfl rfl ?_)))))))
 refine bG (uI x.a x.w ((x.e))) rfl (aA rfl (eR rfl rfl (eR rfl rfl (aA rfl (aA rfl (R_e (W_r ?_)))))))
 refine aP t1 h1 (aK rfl h1 rfl rfl (aP t1 h1 (aK rfl h1 rfl rfl (aP t1 h1 (aK rfl h1 rfl rfl (bG (uI x.b x.w ((x.e))) rfl (aA rfl ?_)))))))
 refine eR rfl rfl (eR rfl rfl (aA rfl (aA rfl (R_e ?_))))
 refine hY (fun T H=>T 2=(V.bool (decide ((((((tqW x.a x.b).length:Nat):Int)=(0:Int))∧((gN x.a x.w ((x.e)))=(gN x.b x.w ((x.e)))))∧((lI x.a x.w ((x.e)))=(lI x.b x.w ((x.e)))))))∧H 1=(bk 1 52 14 [[(iV (x.a.i)),(iV (x.a.tm)),(iV (x.a.s)),(aB x.a.nx),(aB x.a.ot),(V.sl (List.map cSr (x.a.st))),(iV (x.b.i)),(iV (x.b.tm)),(iV (x.b.s)),(aB x.b.nx),(aB x.b.ot),(V.sl (List.map cSr (x.b.st))),(V.sl (List.map cSg (x.w))),(iV (x.e))]])∧True) ?_ ?_
 ·
  refine aA t3 (bN rfl (kD rfl rfl (aA rfl ?_)))
  refine aV 4 (fun T H=>T 6=(V.sl (List.map cEv (lI x.a x.w ((x.e)))))∧T 8=(V.sl (List.map cEv (lI x.b x.w ((x.e)))))∧T 77=(V.bool (decide (((((tqW x.a x.b).length:Nat):Int)=(0:Int))∧((gN x.a x.w ((x.e)))=(gN x.b x.w ((x.e)))))))∧H 1=(bk 1 52 14 [[(iV (x.a.i)),(iV (x.a.tm)),(iV (x.a.s)),(aB x.a.nx),(aB x.a.ot),(V.sl (List.map cSr (x.a.st))),(iV (x.b.i)),(iV (x.b.tm)),(iV (x.b.s)),(aB x.b.nx),(aB x.b.ot),(V.sl (List.map cSr (x.b.st))),(V.sl (List.map cSg (x.w))),(iV (x.e))]])∧True) ?_ ?_
  ·
   by_cases g7:(((tqW x.a x.b).length:Nat):Int)=(0:Int)
   ·
    refine aD (edT g7 rfl) (aA rfl (aD (edT g7 rfl) (aA rfl (aD (edT g7 rfl) (kD rfl rfl (aX (edT g7 rfl) rfl ?_))))))
    exact ⟨rfl,rfl,(iN g7),h1,trivial⟩
   ·
    refine G_n (edF g7 rfl) (G_n (edF g7 rfl) (G_n (edF g7 rfl) (aW (edF g7 rfl) rfl ?_)))
    exact ⟨rfl,rfl,(iM g7),h1,trivial⟩
  intro T H ⟨t6,t8,t77,h1,_⟩
  refine aA t77 ?_
  refine aV 4 (fun T H=>T 82=(V.bool (decide ((((((tqW x.a x.b).length:Nat):Int)=(0:Int))∧((gN x.a x.w ((x.e)))=(gN x.b x.w ((x.e)))))∧((lI x.a x.w ((x.e)))=(lI x.b x.w ((x.e)))))))∧H 1=(bk 1 52 14 [[(iV (x.a.i)),(iV (x.a.tm)),(iV (x.a.s)),(aB x.a.nx),(aB x.a.ot),(V.sl (List.map cSr (x.a.st))),(iV (x.b.i)),(iV (x.b.tm)),(iV (x.b.s)),(aB x.b.nx),(aB x.b.ot),(V.sl (List.map cSr (x.b.st))),(V.sl (List.map cSg (x.w))),(iV (x.e))]])∧True) ?_ ?_
  ·
   by_cases g8:((((tqW x.a x.b).length:Nat):Int)=(0:Int))∧((gN x.a x.w ((x.e)))=(gN x.b x.w ((x.e))))
   ·
    refine aD (edT g8 rfl) (aA t6 (aD (edT g8 rfl) (aA t8 (aD (edT g8 rfl) (bG (aBN (lI x.a x.w ((x.e))) (lI x.b x.w ((x.e)))) rfl (aX (edT g8 rfl) rfl ?_))))))
    exact ⟨(iN g8),h1,trivial⟩
   ·
    refine G_n (edF g8 rfl) (G_n (edF g8 rfl) (G_n (edF g8 rfl) (aW (edF g8 rfl) rfl ?_)))
    exact ⟨(iM g8),h1,trivial⟩
  intro T H ⟨t82,h1,_⟩
  refine aA t82 ?_
  refine aV 2 (fun T H=>T 85=(V.bool (decide ((((((tqW x.a x.b).length:Nat):Int)=(0:Int))∧((gN x.a x.w ((x.e)))=(gN x.b x.w ((x.e)))))∧((lI x.a x.w ((x.e)))=(lI x.b x.w ((x.e)))))))∧H 1=(bk 1 52 14 [[(iV (x.a.i)),(iV (x.a.tm)),(iV (x.a.s)),(aB x.a.nx),(aB x.a.ot),(V.sl (List.map cSr (x.a.st))),(iV (x.b.i)),(iV (x.b.tm)),(iV (x.b.s)),(aB x.b.nx),(aB x.b.ot),(V.sl (List.map cSr (x.b.st))),(V.sl (List.map cSg (x.w))),(iV (x.e))]])∧True) ?_ ?_
  ·
   by_cases g9:(((((tqW x.a x.b).length:Nat):Int)=(0:Int))∧((gN x.a x.w ((x.e)))=(gN x.b x.w ((x.e)))))∧((lI x.a x.w ((x.e)))=(lI x.b x.w ((x.e))))
   ·
    refine aD (edT g9 rfl) (bG (eE) rfl (aX (edT g9 rfl) rfl ?_))
    exact ⟨(aSW g9),h1,trivial⟩
   ·
    refine G_n (edF g9 rfl) (aW (edF g9 rfl) rfl ?_)
    exact ⟨(aTB g9),h1,trivial⟩
  intro T H ⟨t85,h1,_⟩
  refine aA t85 ?_
  exact iK ⟨rfl,h1,trivial⟩
 intro T H ⟨t2,h1,_⟩
 refine bK ?_
 refine bH t2 (bU ?_)
 · first|rfl|(simp only [d3]; done)|(rw [f1,f3,f4]; simp)|(simp [f1,f3,f4]; done)|simp [d3]
end Go.Proofs.YtilfohjlglefjaaGreat
namespace Go.Proofs.YtilfohjlglefjaaGreat
open Go Go.Proofs Go.Proofs.YtilfohjlglefjaaGreat Go.ChangeShapes Go.WideShapes Go.ChangeAt Go.RowKit
structure UT (P:Program):Prop where
  u3:P.underlying 3=some (.int .i64)
  u22:P.underlying 22=some (.slice 38)
  u38:P.underlying 38=some (.slice 3)
  u27:P.underlying 27=some (.slice 70)
  u70:P.underlying 70=some (.slice 73)
  u73: ∃ f0 f1:Field,P.underlying 73=some (.struct #[f0,f1])∧f0.type=3∧f1.type=3
  u29: ∃ f0 f1 f2 f3 f4 f5:Field,P.underlying 29=some (.struct #[f0,f1,f2,f3,f4,f5])∧f0.type=3∧f1.type=3∧f2.type=3∧f3.type=22∧f4.type=22∧f5.type=27
  u50:P.underlying 50=some (.slice 114)
  u114: ∃ f0 f1:Field,P.underlying 114=some (.struct #[f0,f1])∧f0.type=3∧f1.type=3
  u52: ∃ f0 f1 f2 f3:Field,P.underlying 52=some (.struct #[f0,f1,f2,f3])∧f0.type=29∧f1.type=29∧f2.type=50∧f3.type=3
theorem sh3 {P:Program} (U:UT P) (n:Nat) (vs:List V) (h:Shp P (n+1) 3 vs): ∃ a:Int,vs=cI a:=aKu U.u3 h
theorem aT5 {P:Program} (U:UT P) (n:Nat) (vs:List V) (h:Shp P (n+2) 38 vs): ∃ a:List Int,vs=cL a:=kS (f:=cI) U.u38 (fun vs h=>sh3 U n vs h) h
theorem aR1 {P:Program} (U:UT P) (n:Nat) (vs:List V) (h:Shp P (n+3) 22 vs): ∃ a:List (List Int),vs=(fun l=>[V.sl (List.map cL l)]) a:=kS (f:=cL) U.u22 (fun vs h=>aT5 U n vs h) h
theorem aT8 {P:Program} (U:UT P) (n:Nat) (vs:List V) (h:Shp P (n+2) 73 vs): ∃ a:Sg,vs=cSg a:=by
  obtain ⟨f0,f1,hu,k0,k1⟩:=U.u73
  have h0:=pG hu h
  obtain ⟨x0,u0,e0,h1⟩:=dV (c:=cI) (fun vs h=>sh3 U (n+0) vs (by rw [k0] at h; exact h)) h0
  obtain ⟨x1,u1,e1,h2⟩:=dV (c:=cI) (fun vs h=>sh3 U (n+0) vs (by rw [k1] at h; exact h)) h1
  have e2:=pQ h2
  exact ⟨⟨x0,x1⟩,by rw [e0,e1,e2]; rfl⟩
theorem aUn {P:Program} (U:UT P) (n:Nat) (vs:List V) (h:Shp P (n+3) 70 vs): ∃ a:List Sg,vs=(fun l=>[V.sl (List.map cSg l)]) a:=kS (f:=cSg) U.u70 (fun vs h=>aT8 U n vs h) h
theorem aUa {P:Program} (U:UT P) (n:Nat) (vs:List V) (h:Shp P (n+4) 27 vs): ∃ a:List (List Sg),vs=(fun l=>[V.sl (List.map (fun l=>[V.sl (List.map cSg l)]) l)]) a:=kS (f:=(fun l=>[V.sl (List.map cSg l)])) U.u27 (fun vs h=>aUn U n vs h) h
theorem aSV {P:Program} (U:UT P) (n:Nat) (vs:List V) (h:Shp P (n+5) 29 vs): ∃ a:TM,vs=tmC a:=by
  obtain ⟨f0,f1,f2,f3,f4,f5,hu,k0,k1,k2,k3,k4,k5⟩:=U.u29
  have h0:=pG hu h
  obtain ⟨x0,u0,e0,h1⟩:=dV (c:=cI) (fun vs h=>sh3 U (n+3) vs (by rw [k0] at h; exact h)) h0
  obtain ⟨x1,u1,e1,h2⟩:=dV (c:=cI) (fun vs h=>sh3 U (n+3) vs (by rw [k1] at h; exact h)) h1
  obtain ⟨x2,u2,e2,h3⟩:=dV (c:=cI) (fun vs h=>sh3 U (n+3) vs (by rw [k2] at h; exact h)) h2
  obtain ⟨x3,u3,e3,h4⟩:=dV (c:=(fun l=>[V.sl (List.map cL l)])) (fun vs h=>aR1 U (n+1) vs (by rw [k3] at h; exact h)) h3
  obtain ⟨x4,u4,e4,h5⟩:=dV (c:=(fun l=>[V.sl (List.map cL l)])) (fun vs h=>aR1 U (n+1) vs (by rw [k4] at h; exact h)) h4
  obtain ⟨x5,u5,e5,h6⟩:=dV (c:=(fun l=>[V.sl (List.map (fun l=>[V.sl (List.map cSg l)]) l)])) (fun vs h=>aUa U (n+0) vs (by rw [k5] at h; exact h)) h5
  have e6:=pQ h6
  exact ⟨⟨x0,x1,x2,x3,x4,x5⟩,by rw [e0,e1,e2,e3,e4,e5,e6]; rfl⟩
theorem aTR {P:Program} (U:UT P) (n:Nat) (vs:List V) (h:Shp P (n+2) 114 vs): ∃ a:Sg,vs=cSg a:=by
  obtain ⟨f0,f1,hu,k0,k1⟩:=U.u114
  have h0:=pG hu h
  obtain ⟨x0,u0,e0,h1⟩:=dV (c:=cI) (fun vs h=>sh3 U (n+0) vs (by rw [k0] at h; exact h)) h0
  obtain ⟨x1,u1,e1,h2⟩:=dV (c:=cI) (fun vs h=>sh3 U (n+0) vs (by rw [k1] at h; exact h)) h1
  have e2:=pQ h2
  exact ⟨⟨x0,x1⟩,by rw [e0,e1,e2]; rfl⟩
theorem aT6 {P:Program} (U:UT P) (n:Nat) (vs:List V) (h:Shp P (n+3) 50 vs): ∃ a:List Sg,vs=(fun l=>[V.sl (List.map cSg l)]) a:=kS (f:=cSg) U.u50 (fun vs h=>aTR U n vs h) h
theorem aUi {P:Program} (U:UT P) (n:Nat) (vs:List V) (h:Shp P (n+6) 52 vs): ∃ a:TmC,vs=aN3 a:=by
  obtain ⟨f0,f1,f2,f3,hu,k0,k1,k2,k3⟩:=U.u52
  have h0:=pG hu h
  obtain ⟨x0,u0,e0,h1⟩:=dV (c:=tmC) (fun vs h=>aSV U (n+0) vs (by rw [k0] at h; exact h)) h0
  obtain ⟨x1,u1,e1,h2⟩:=dV (c:=tmC) (fun vs h=>aSV U (n+0) vs (by rw [k1] at h; exact h)) h1
  obtain ⟨x2,u2,e2,h3⟩:=dV (c:=(fun l=>[V.sl (List.map cSg l)])) (fun vs h=>aT6 U (n+2) vs (by rw [k2] at h; exact h)) h2
  obtain ⟨x3,u3,e3,h4⟩:=dV (c:=cI) (fun vs h=>sh3 U (n+4) vs (by rw [k3] at h; exact h)) h3
  have e4:=pQ h4
  exact ⟨⟨x0,x1,x2,x3⟩,by rw [e0,e1,e2,e3,e4]; rfl⟩
theorem ut:UT Tryz.prog:=⟨by kernel_rfl,by kernel_rfl,by kernel_rfl,by kernel_rfl,by kernel_rfl,⟨_,_,Tryz.underlying73,rfl,rfl⟩,⟨_,_,_,_,_,_,Tryz.underlying29,rfl,rfl,rfl,rfl,rfl,rfl⟩,by kernel_rfl,⟨_,_,Tryz.underlying114,rfl,rfl⟩,⟨_,_,_,_,Tryz.underlying52,rfl,rfl,rfl,rfl⟩⟩
theorem aS6 {P:Program} (U:UT P) {us:List V} (h:aC7 P 7 [52] us): ∃ (d0:TmC),us=[V.agg (aN3 d0)]:=by
  obtain ⟨a0,b0,e0,h0,h⟩:=aFd h
  obtain ⟨d0,g0⟩:=aUi U 1 a0 h0
  have q0:tC P 52 a0=V.agg (aN3 d0):=by obtain ⟨_,_,_,_,hu,_⟩:=U.u52; rw [g0]; exact aCl hu _
  have e1:=aGB h
  exact ⟨d0,by rw [e0,q0,e1]⟩
theorem aUb:ownKnob Tryz.prog.godebug=none:=by kernel_rfl
set_option maxRecDepth 100000 in
theorem aI1 (os:Os) (started:os.Started) (H:Type) (enc:TypeId×Value→H):
    ReturnsInHanded {} Tryz.checked os 7 .any (Rows.timelearnAgreeSpec.pre6 enc Tryz.prog Tryz.f7 Rows.timelearnAgreeRow.domain false) (Rows.timelearnAgreeSpec.post enc Tryz.prog Tryz.f7 false true false false):=by
  refine returnsInHanded_of_change (C:=Tryz.checked) aUb started (by kernel_rfl) Tryz.func7
    (ChangeSpec.witness6 (enc:=enc) (C:=Tryz.checked) false ⟨#[],#[.agg #[.int .i64 0,.int .i64 0,.int .i64 0,.slice none 0 0,.slice none 0 0,.slice none 0 0,.int .i64 0,.int .i64 0,.int .i64 0,.slice none 0 0,.slice none 0 0,.slice none 0 0,.slice none 0 0,.int .i64 0]],[]⟩ 8 (by kernel_rfl) (by kernel_rfl) (by kernel_rfl) (by kernel_rfl)) ?_
  intro W base args ds gs before hval0 hW hcnd _
  refine aGC (n:=7) (tb:=4) (by kernel_rfl) (by kernel_rfl) (by kernel_rfl) (fun t ht=>?_) rfl ?_ (fun us hu=>?_) hval0 hW
  · have h:t∈[52]:=ht
    simp only [List.mem_cons,List.not_mem_nil,or_false] at h
    rcases h with rfl
    · exact ⟨by kernel_rfl,by kernel_rfl,of_decide_eq_true (by kernel_rfl)⟩
  · obtain ⟨p,q,hA,hV,rfl,hfz,hnd⟩:=hW
    obtain ⟨rfl,rfl⟩:=trodVars_none hV
    change DataW.TrodAll enc Tryz.prog W 0 (fun _=>true) true [52] args.toList ds p at hA
    obtain ⟨v0,vs0,y0,ds0,pa0,pb0,hv0,rfl,rfl,_,hA⟩:=trodAll_cons hA
    obtain ⟨_,rfl,rfl⟩:=trodAll_nil hA
    rfl
  · obtain ⟨d0,rfl⟩:=aS6 ut hu
    exact aFv d0
theorem proved7:Rows.TimelearnAgreeSaid:=
  OpenClaim.holds_of_wide 7 Tryz.f7 rfl rfl rfl rfl rfl rfl rfl ⟨rfl,rfl,rfl,rfl,rfl⟩ rfl rfl rfl rfl rfl (by kernel_rfl) Tryz.func7 (by kernel_rfl)
    (of_decide_eq_true (by kernel_rfl)) (by unfold Func.isWrapper; first|(rw [if_pos (by decide+kernel)]; kernel_rfl)|(rw [if_neg (by decide+kernel)]; exact ⟨rfl,rfl⟩))
    (fun os started H enc _=>aI1 os started H enc)
end Go.Proofs.YtilfohjlglefjaaGreat
