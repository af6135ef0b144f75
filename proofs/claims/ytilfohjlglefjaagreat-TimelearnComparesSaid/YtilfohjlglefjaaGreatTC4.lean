/- Contracts of the functions that the law TC reaches, and the law itself, for every input; no condition. -/
import Derived.KernelRfl
import Derived.Test.YtilfohjlglefjaaGreatProg
import Derived.Test.YtilfohjlglefjaaGreatRows
import Derived.Test.YtilfohjlglefjaaGreatTC3
set_option linter.unusedSimpArgs false
set_option linter.unusedVariables false
namespace Go.Proofs.YtilfohjlglefjaaGreat
open Go Go.Proofs
attribute [local irreducible] tY
theorem aBO (a b:M) (s t:Int) (hma:dA a=0) (hmb:dA b=0) (hi:a.i=b.i) (hs:0≤s∧s < a.nx.length) (ht:0≤t∧t < b.nx.length):aZ Tryz.prog 66 [(V.agg [(iV (a.i)),(iV (a.s)),(aB a.nx),(aB a.ot)]),(V.agg [(iV (b.i)),(iV (b.s)),(aB b.nx),(aB b.ot)]),(V.agg [(iV (s)),(iV (t))])] (V.tup [(aY ((dst a b s t).getD [])),(V.bool ((dst a b s t).isSome))]):=by
 refine pW Tryz.func66 aGF fun hB=>?_
 unfold s66
 dsimp only
 have hqa:=gR hma
 have hqb:=gR hmb
 have hab:a.nx.length*b.nx.length≤128*128:=Nat.mul_le_mul hqa.2.2.2.1 hqb.2.2.2.1
 refine W_r (dK (i:=3) (n:=0) (m:=4) (cs:=[(iV (a.i)),(iV (a.s)),(aB a.nx),(aB a.ot)]) rfl (congrArg Blk.ver rfl) rfl rfl rfl (dK (i:=4) (n:=0) (m:=4) (cs:=[(iV (b.i)),(iV (b.s)),(aB b.nx),(aB b.ot)]) rfl (congrArg Blk.ver rfl) rfl rfl rfl (dK (i:=5) (n:=0) (m:=2) (cs:=[(iV (s)),(iV (t))]) rfl (congrArg Blk.ver rfl) rfl rfl rfl (aA rfl (aA rfl (R_e (W_r ?_)))))))
 refine aO rfl rfl (aK rfl rfl rfl rfl (bO rfl (uC (i:=18) (n:=0) (m:=a.nx.length) (q:=a.nx.length) (f:=c1V) (x:=V.nilsl) rfl (congrArg Blk.ver rfl) (@rfl V (iV ((a.nx.length:Nat):Int))) (@rfl V (iV ((a.nx.length:Nat):Int))) rfl (by first|omega|(simp only [bD,bG,List.length_replicate,List.length_set]; omega)|(simp only [r2]; omega)) (by first|omega|(simp only [bD,bG,List.length_replicate,List.length_set]; omega)|(simp only [r2]; omega)) (by first|omega|(simp only [bD,bG,List.length_replicate,List.length_set]; omega)|(simp only [r2]; omega)) (aA rfl (R_e (aC (W_r ?_)))))))
 refine aA rfl (dX rfl (@rfl Blk (bk 1 93 1 (List.map c1V (List.replicate a.nx.length V.nilsl)))) (by first|rfl|simp) (aA rfl (R_e (aI fun Q1 n1 x1 y1 z1=>?_))))
 refine cP (fun mm T H=> ∃ (k:Nat),mm=a.nx.length - k∧T 3=(V.mp 3 1 0 0)∧T 4=(V.mp 4 1 0 0)∧T 5=(V.mp 5 1 0 0)∧T 8=(V.ms 18 1 0 (a.nx.length))∧T 20=(iV ((a.nx.length:Nat):Int))∧T 21=(iV ((k:Nat):Int))∧(∀ j,k≤j→H (65536*(j+1)+29)=(⟨0,false,false,0,0,[]⟩:Blk))∧(∀ j,j < k→H (65536*(j+1)+29)=(bk 1 4 1 (List.map cB (snR ([]) b.nx.length j))))∧H 3=(bk 1 24 4 [[(iV (a.i)),(iV (a.s)),(aB a.nx),(aB a.ot)]])∧H 4=(bk 1 24 4 [[(iV (b.i)),(iV (b.s)),(aB b.nx),(aB b.ot)]])∧H 5=(bk 1 137 2 [[(iV (s)),(iV (t))]])∧H 12=(⟨0,false,false,0,0,[]⟩:Blk)∧H 14=(⟨0,false,false,0,0,[]⟩:Blk)∧H 18=(bk 1 93 1 (List.map c1V (rwL a.nx.length b.nx.length k)))∧H 42=(⟨0,false,false,0,0,[]⟩:Blk)∧(k≤a.nx.length)) ?_ ?_
 ·
  refine ⟨_,0,rfl,rfl,rfl,rfl,rfl,rfl,(Eq.trans (@rfl V (iV (0:Int))) rfl),(eI (eI (eI (eI (fun _ _=>rfl) (fun j=>by omega)) (fun j=>by omega)) (fun j=>by omega)) (fun j=>by omega)),(eI (eI (eI (eI (fun j hj=>absurd hj (Nat.not_lt_zero j)) (fun j=>by omega)) (fun j=>by omega)) (fun j=>by omega)) (fun j=>by omega)),rfl,rfl,rfl,rfl,rfl,(Eq.trans (@rfl Blk (bk 1 93 1 (List.map c1V (List.replicate a.nx.length V.nilsl)))) (by first|rfl|(rw [jF]; done)|(rw [kZ]; done)|(rw [show x=a.i.toNat by omega]; done)|(simp only [r2]; rw [aX d2]; done)|(simp only [r2]; rw [aX d2]; rfl)|(rw [bR d2]; done)|simp)),rfl,?_⟩
  · omega
 intro mm T H ⟨k,hmm,t3,t4,t5,t8,t20,t21,hU3,hU2,h3,h4,h5,h12,h14,h18,h42,hk⟩ Q2 p12 p22 p32
 unfold aLl
 refine W_r (bQ t21 t20 (R_e ?_))
 refine aL rfl (fun c3=>?_) fun c3=>?_
 ·
  refine aG (aI fun Q4 n4 x4 y4 z4=>(W_r (aA t21 (aA rfl (R_e (aTI (65536*(k+1)) (aA t8 ?_)))))))
  refine aA rfl (aO t4 h4 (aK rfl h4 rfl rfl (bO rfl (uC (i:=65536*(k+1)+29) (n:=0) (m:=b.nx.length) (q:=b.nx.length) (f:=cB) (x:=false) rfl (congrArg Blk.ver (hU3 _ (by omega))) (@rfl V (iV ((b.nx.length:Nat):Int))) (@rfl V (iV ((b.nx.length:Nat):Int))) rfl (by first|omega|(simp only [bD,bG,List.length_replicate,List.length_set]; omega)|(simp only [r2]; omega)) (by first|omega|(simp only [bD,bG,List.length_replicate,List.length_set]; omega)|(simp only [r2]; omega)) (by first|omega|(simp only [bD,bG,List.length_replicate,List.length_set]; omega)|(simp only [r2]; omega)) (bW (i:=k) (@rfl V (V.ms 18 1 0 (a.nx.length))) (@rfl V (iV ((k:Nat):Int))) ((aF _ _ (by omega)).trans h18) oB rfl (by first|omega|(simp only [bD,bG,List.length_replicate,List.length_set]; omega)|(simp only [r2]; omega)) (cF (vs:=[(V.ms (65536*(k+1)+29) 1 0 (b.nx.length))]) (B':=(bk 1 93 1 (List.map c1V ((rwL a.nx.length b.nx.length k).set k ((V.ms (65536*(k+1)+29) 1 0 (b.nx.length))))))) rfl rfl rfl ((aF _ _ (by omega)).trans h18) (jS (x:=((V.ms (65536*(k+1)+29) 1 0 (b.nx.length)))) (i:=k) (by first|omega|(simp only [bD,bG,List.length_replicate,List.length_set]; omega)|(simp only [r2]; omega)) rfl rfl rfl rfl) (R_e ?_)))))))
  refine n4 _ _ (.done (W_t (bS t21 (@rfl V (iV ((1:Nat):Int))) (by first|omega|(simp only [bD,bG,List.length_replicate,List.length_set]; omega)|(simp only [r2]; omega)) (aA rfl (R_e ?_)))))
  refine p12 _ _ _ ?_ ⟨(k+1),rfl,t3,t4,t5,t8,t20,(Eq.trans (@rfl V (iV ((k+1:Nat):Int))) (by first|rfl|(simp only [r2]; rfl)|(rw [show x=a.i.toNat by omega]; done)|(rw [aX d2,List.length_append]; done)|(rw [aX d2,List.length_append]; rfl)|(rw [bR d2]; done)|simp)),(fun j hj=>(eI (aF8 hU3) (fun j=>by omega)) j (by omega)),(fun j hj=>(eI (aH1 hU2 (by rw [aHS])) (fun j=>by omega)) j (by omega)),((aF _ _ (by omega)).trans h3),((aF _ _ (by omega)).trans h4),((aF _ _ (by omega)).trans h5),((aF _ _ (by omega)).trans h12),((aF _ _ (by omega)).trans h14),(Eq.trans (@rfl Blk (bk 1 93 1 (List.map c1V ((rwL a.nx.length b.nx.length k).set k ((V.ms (65536*(k+1)+29) 1 0 (b.nx.length))))))) (by first|rfl|(rw [jF]; done)|(rw [kZ]; done)|(rw [show x=a.i.toNat by omega]; done)|(simp only [r2]; rw [aX d2]; done)|(simp only [r2]; rw [aX d2]; rfl)|(rw [bR d2]; done)|simp)),((aF _ _ (by omega)).trans h42),?_⟩
  · omega
  · omega
 refine aT (p32 _ _ _ (x1 _ _ (.done (W_r (aA t8 (aO t5 h5 (aK rfl h5 rfl rfl ?_)))))))
 refine eC (i:=(s)) (@rfl V (V.ms 18 1 0 (a.nx.length))) (@rfl V (iV (s))) h18 oB rfl (by first|omega|(simp only [bD,bG,List.length_replicate,List.length_set]; omega)|(simp only [r2]; omega)) (by first|omega|(simp only [bD,bG,List.length_replicate,List.length_set]; omega)|(simp only [r2]; omega)) (bF (v:=(V.ms (65536*((s).toNat+1)+29) 1 0 (b.nx.length))) rfl h18 (cD (by simp only [bD]; omega) (by simp only [c1V,zU (show (s).toNat < a.nx.length by omega) (show (s).toNat < k by omega)]; rfl)) (aO t5 h5 (aK rfl h5 rfl rfl (eC (i:=(t)) (@rfl V (V.ms (65536*((s).toNat+1)+29) 1 0 (b.nx.length))) (@rfl V (iV (t))) (hU2 _ (by omega)) oB rfl (by first|omega|(simp only [bD,bG,List.length_replicate,List.length_set]; omega)|(simp only [r2]; omega)) (by first|omega|(simp only [bD,bG,List.length_replicate,List.length_set]; omega)|(simp only [r2]; omega)) (cF (vs:=[(V.bool true)]) (B':=(bk 1 4 1 (List.map cB ((snR ([]) b.nx.length ((s).toNat)).set (((t)).toNat) true)))) rfl rfl rfl (hU2 _ (by omega)) (jS (x:=true) (i:=(((t)).toNat)) (by first|omega|(simp only [bD,bG,List.length_replicate,List.length_set]; omega)|(simp only [r2]; omega)) rfl rfl rfl rfl) (R_e ?_))))))
 refine pX (fun T H=>T 3=(V.mp 3 1 0 0)∧T 4=(V.mp 4 1 0 0)∧T 8=(V.ms 18 1 0 (a.nx.length))∧T 10=(V.ms 42 1 0 (1))∧(∀ j,j < k→H (65536*(j+1)+29)=(bk 1 4 1 (List.map cB (snR ([⟨s,t,[]⟩]) b.nx.length j))))∧H 3=(bk 1 24 4 [[(iV (a.i)),(iV (a.s)),(aB a.nx),(aB a.ot)]])∧H 4=(bk 1 24 4 [[(iV (b.i)),(iV (b.s)),(aB b.nx),(aB b.ot)]])∧H 5=(bk 1 137 2 [[(iV (s)),(iV (t))]])∧H 12=(⟨0,false,false,0,0,[]⟩:Blk)∧H 14=(⟨0,false,false,0,0,[]⟩:Blk)∧H 18=(bk 1 93 1 (List.map c1V (rwL a.nx.length b.nx.length k)))∧H 42=(bk 1 174 3 [[(iV (s)),(iV (t)),V.nilsl]])∧True) ?_ ?_
 ·
  refine aK t5 ((aF _ _ (by omega)).trans h5) rfl rfl (dS rfl rfl (iM (i:=42) (n:=0) (qs:=[(0,(V.agg [(iV (s)),(iV (t)),V.nilsl]))]) (rows:=[[(iV (s)),(iV (t)),V.nilsl]]) rfl (congrArg Blk.ver ((aF _ _ (by omega)).trans h42)) (bZ (congrArg (fun v=>(0,v)) rfl) rfl) rfl (aA rfl ?_)))
  exact fQ ⟨t3,t4,t8,rfl,(eI (aDl hU2 (congrArg (fun l=>bk 1 4 1 (List.map cB l)) (aDu (L:=[]) (p:=⟨s,t,[]⟩) hs.1 ht.1 ht.2)) fun j hj=>by rw [xI (p:=⟨s,t,[]⟩) hs.1 hj]; rfl) (fun j=>by omega)),((aF _ _ (by omega)).trans h3),((aF _ _ (by omega)).trans h4),((aF _ _ (by omega)).trans h5),((aF _ _ (by omega)).trans h12),((aF _ _ (by omega)).trans h14),((aF _ _ (by omega)).trans h18),rfl,trivial⟩
 intro T H ⟨t3,t4,t8,t10,hU2,h3,h4,h5,h12,h14,h18,h42,_⟩
 refine aEa (l:=([])) (m:=([(⟨s,t,[]⟩:Pr)])) (f:=cPr) h42 rfl (.done ?_)
 refine cZ (R:=fun T H=>T 3=(V.mp 3 1 0 0)∧T 4=(V.mp 4 1 0 0)∧T 8=(V.ms 18 1 0 (a.nx.length))∧T 10=(V.ms 42 1 0 (1))∧(∀ j,j < k→H (65536*(j+1)+29)=(bk 1 4 1 (List.map cB (snR ([⟨s,t,[]⟩]) b.nx.length j))))∧H 3=(bk 1 24 4 [[(iV (a.i)),(iV (a.s)),(aB a.nx),(aB a.ot)]])∧H 4=(bk 1 24 4 [[(iV (b.i)),(iV (b.s)),(aB b.nx),(aB b.ot)]])∧H 5=(bk 1 137 2 [[(iV (s)),(iV (t))]])∧H 12=(⟨0,false,false,0,0,[]⟩:Blk)∧H 14=(⟨0,false,false,0,0,[]⟩:Blk)∧H 18=(bk 1 93 1 (List.map c1V (rwL a.nx.length b.nx.length k)))∧H 42=(bk 1 174 3 (List.map cPr ([]++[(⟨s,t,[]⟩:Pr)])))∧True) ⟨t3,t4,t8,t10,(eI hU2 (fun j=>by omega)),((aF _ _ (by decide)).trans h3),((aF _ _ (by decide)).trans h4),((aF _ _ (by decide)).trans h5),((aF _ _ (by decide)).trans h12),((aF _ _ (by decide)).trans h14),((aF _ _ (by decide)).trans h18),(aE _ _ _),trivial⟩ ?_
 intro T H ⟨t3,t4,t8,t10,hU2,h3,h4,h5,h12,h14,h18,h42,_⟩
 refine aC (W_r (aA rfl (R_e (aI fun Q5 n5 x5 y5 z5=>?_))))
 refine cP (fun mm T H=> ∃ (i:Nat) (v:Nat) (L:List Pr) (v12:Nat) (v14:Nat),mm=a.nx.length*b.nx.length+1 - i∧T 3=(V.mp 3 1 0 0)∧T 4=(V.mp 4 1 0 0)∧T 8=(V.ms 18 1 0 (a.nx.length))∧T 10=(V.ms 42 v 0 (L.length))∧T 11=(iV ((i:Nat):Int))∧(∀ j,j < k→H (65536*(j+1)+29)=(bk 1 4 1 (List.map cB (snR L b.nx.length j))))∧H 3=(bk 1 24 4 [[(iV (a.i)),(iV (a.s)),(aB a.nx),(aB a.ot)]])∧H 4=(bk 1 24 4 [[(iV (b.i)),(iV (b.s)),(aB b.nx),(aB b.ot)]])∧H 5=(bk 1 137 2 [[(iV (s)),(iV (t))]])∧(H 12).ver=v12∧((H 14).ver=v14∧(H 14).live=false)∧H 18=(bk 1 93 1 (List.map c1V (rwL a.nx.length b.nx.length k)))∧H 42=(bk v 174 3 (List.map cPr (L)))∧(i≤L.length)∧(BI a b s t L)∧(dst a b s t=bq a b (a.nx.length*b.nx.length+1 - i) i L)) ?_ ?_
 ·
  refine ⟨_,0,1,[⟨s,t,[]⟩],0,0,rfl,t3,t4,t8,(Eq.trans t10 (by first|rfl|(simp only [r2]; rfl)|(rw [show x=a.i.toNat by omega]; done)|(rw [aX d2,List.length_append]; done)|(rw [aX d2,List.length_append]; rfl)|(rw [bR d2]; done)|simp)),(Eq.trans (@rfl V (iV (0:Int))) rfl),(fun j hj=>(hU2 j (by omega)).trans (by first|rfl|(rw [aX d2]; done)|(rw [bR d2]; done)|(rw [show x=a.i.toNat by omega]; done))),h3,h4,h5,(congrArg Blk.ver h12),⟨(congrArg Blk.ver h14),congrArg Blk.live h14⟩,h18,(Eq.trans h42 (by first|rfl|(rw [jF]; done)|(rw [kZ]; done)|(rw [show x=a.i.toNat by omega]; done)|(simp only [r2]; rw [aX d2]; done)|(simp only [r2]; rw [aX d2]; rfl)|(rw [bR d2]; done)|simp)),?_,?_,?_⟩
  · simp
  · exact BI.start hs.1 hs.2 ht.1 ht.2
  · rfl
 intro mm T H ⟨i,v,L,v12,v14,hmm,t3,t4,t8,t10,t11,hU2,h3,h4,h5,h12,h14,h18,h42,hil,hbi,hc⟩ Q6 p16 p26 p36
 unfold aKK
 have hln:=hbi.len
 refine aC (W_r (aA t11 (aA t10 (dX rfl h42 (by first|rfl|simp) (bQ rfl rfl (R_e ?_))))))
 refine aL rfl (fun c7=>?_) fun c7=>?_
 ·
  have hil2:i < L.length:=by omega
  refine aG (aI fun Q8 n8 x8 y8 z8=>(W_r (aA t10 (aA t11 (bW (i:=i) (@rfl V (V.ms 42 v 0 (L.length))) (@rfl V (iV ((i:Nat):Int))) h42 oB rfl (by first|omega|(simp only [bD,bG,List.length_replicate,List.length_set]; omega)|(simp only [r2]; omega)) (aO rfl h42 (bF (v:=(V.agg [(iV (((nth (L) (i))).s)),(iV (((nth (L) (i))).t))])) rfl h42 (cD (by first|omega|(simp only [bD,bG,List.length_replicate,List.length_set]; omega)|(simp only [r2]; omega)) (by first|rfl|(rw [cF_eq]; rfl)|simp [ldV,V.one])) ?_)))))))
  refine dG (i:=12) (n:=v12) (m:=2) rfl h12 rfl (lL rfl rfl rfl rfl rfl rfl rfl rfl rfl (R_e (W_r (aO t3 h3 (aK rfl h3 rfl rfl (aA rfl (R_e ?_)))))))
  refine pE fun Q9 n9 x9 y9 z9=>?_
  refine cP (fun mm T H=> ∃ (x:Nat) (v2:Nat) (v14:Nat),mm=a.i.toNat - x∧T 3=(V.mp 3 1 0 0)∧T 4=(V.mp 4 1 0 0)∧T 8=(V.ms 18 1 0 (a.nx.length))∧T 10=(V.ms 42 v2 0 ((bqR a b (nth L i) L x).length))∧T 11=(iV ((i:Nat):Int))∧T 12=(V.mp 12 (v12+1) 0 0)∧T 55=(iV (a.i))∧T 56=(iV ((x:Nat):Int))∧(∀ j,j < k→H (65536*(j+1)+29)=(bk 1 4 1 (List.map cB (snR (bqR a b (nth L i) L x) b.nx.length j))))∧H 3=(bk 1 24 4 [[(iV (a.i)),(iV (a.s)),(aB a.nx),(aB a.ot)]])∧H 4=(bk 1 24 4 [[(iV (b.i)),(iV (b.s)),(aB b.nx),(aB b.ot)]])∧H 5=(bk 1 137 2 [[(iV (s)),(iV (t))]])∧H 12=(bk (v12+1) 137 2 [[(iV (((nth (L) (i))).s)),(iV (((nth (L) (i))).t))]])∧((H 14).ver=v14∧(H 14).live=false)∧H 18=(bk 1 93 1 (List.map c1V (rwL a.nx.length b.nx.length k)))∧H 42=(bk v2 174 3 (List.map cPr (bqR a b (nth L i) L x)))∧(x≤a.i.toNat)∧(∀ j,j < x→bqD a b (nth L i) j=false)) ?_ ?_
  ·
   refine ⟨_,0,v,v14,rfl,t3,t4,t8,(Eq.trans t10 (by first|rfl|(simp only [r2]; rfl)|(rw [show x=a.i.toNat by omega]; done)|(rw [aX d2,List.length_append]; done)|(rw [aX d2,List.length_append]; rfl)|(rw [bR d2]; done)|simp)),t11,rfl,rfl,(Eq.trans (@rfl V (iV (0:Int))) rfl),(fun j hj=>((eI (eI hU2 (fun j=>by omega)) (fun j=>by omega)) j (by omega)).trans (by first|rfl|(rw [aX d2]; done)|(rw [bR d2]; done)|(rw [show x=a.i.toNat by omega]; done))),h3,h4,h5,rfl,h14,h18,(Eq.trans h42 (by first|rfl|(rw [jF]; done)|(rw [kZ]; done)|(rw [show x=a.i.toNat by omega]; done)|(simp only [r2]; rw [aX d2]; done)|(simp only [r2]; rw [aX d2]; rfl)|(rw [bR d2]; done)|simp)),?_,?_⟩
   · omega
   · intro j hj; omega
  intro mm T H ⟨x,v2,v14,hmm,t3,t4,t8,t10,t11,t12,t55,t56,hU2,h3,h4,h5,h12,h14,h18,h42,hx,hdx⟩ Q10 p110 p210 p310
  unfold aKS
  refine W_r (bQ t56 t55 (R_e ?_))
  refine aL rfl (fun c11=>?_) fun c11=>?_
  ·
   have r0:=hbi.row hma hmb hi hil2 (x:=x) (by omega) hdx
   have r9:=r0.len
   have r1:i < (bqR a b (nth L i) L x).length:=Nat.lt_of_lt_of_le hil2 pD
   have r2:nth (bqR a b (nth L i) L x) i=nth L i:=oT hil2
   have r3:=hbi.rg _ (bH hil2)
   have r4:=hbi.ln i hil2
   have r5:=tM hma r3.1 r3.2.1
   have r6:=tM hmb r3.2.2.1 r3.2.2.2
   have n1:=aDp hma r3.1 r3.2.1 (x:=x) (by omega)
   have n2:=aDp hmb r3.2.2.1 r3.2.2.2 (x:=x) (by omega)
   have n3:=n1
   have n4:=n2
   unfold nxS otS at n3 n4
   refine aG (aI fun Q12 n12 x12 y12 z12=>(W_r (aA t56 (aA rfl (R_e (aC (W_r ?_)))))))
   refine aO t3 h3 (aK rfl h3 rfl rfl (aO t12 h12 (aK rfl h12 rfl rfl (fY (i:=(((nth (L) (i))).s)) (@rfl V (aB a.ot)) (@rfl V (iV (((nth (L) (i))).s))) (by first|omega|(simp only [bD,bG,List.length_replicate,List.length_set]; omega)|(simp only [r2]; omega)) (by first|omega|(simp only [bD,bG,List.length_replicate,List.length_set]; omega)|(simp only [r2]; omega)) rfl (aJ rfl rfl (aA rfl (bK (i:=x) (@rfl V (aY ((nth (a.ot) (((nth (L) (i))).s).toNat)))) (@rfl V (iV ((x:Nat):Int))) (by first|omega|(simp only [bD,bG,List.length_replicate,List.length_set]; omega)|(simp only [r2]; omega)) rfl ?_)))))))
   refine aJ rfl rfl (aO t4 h4 (aK rfl h4 rfl rfl (aO t12 h12 (aK rfl h12 rfl rfl (fY (i:=(((nth (L) (i))).t)) (@rfl V (aB b.ot)) (@rfl V (iV (((nth (L) (i))).t))) (by first|omega|(simp only [bD,bG,List.length_replicate,List.length_set]; omega)|(simp only [r2]; omega)) (by first|omega|(simp only [bD,bG,List.length_replicate,List.length_set]; omega)|(simp only [r2]; omega)) rfl (aJ rfl rfl (aA rfl ?_)))))))
   refine bK (i:=x) (@rfl V (aY ((nth (b.ot) (((nth (L) (i))).t).toNat)))) (@rfl V (iV ((x:Nat):Int))) (by first|omega|(simp only [bD,bG,List.length_replicate,List.length_set]; omega)|(simp only [r2]; omega)) rfl (aJ rfl rfl (cG rfl rfl (R_e ?_)))
   refine aL rfl (fun c13=>?_) fun c13=>?_
   ·
    have d1:bqD a b (nth L i) x=true:=decide_eq_true c13
    have hz:dst a b s t=some ((nth L i).w++[(x:Int)]):=by rw [hc,aGE hil2 (by omega) (by omega) d1 hdx]
    refine aC (W_r (aA t10 (aA t11 (bW (i:=i) (@rfl V (V.ms 42 v2 0 ((bqR a b (nth L i) L x).length))) (@rfl V (iV ((i:Nat):Int))) h42 oB rfl (by first|omega|(simp only [bD,bG,List.length_replicate,List.length_set]; omega)|(simp only [r2]; omega)) (aO rfl h42 (bF (v:=(aY (((nth (bqR a b (nth L i) L x) (i))).w))) rfl h42 (cD (by first|omega|(simp only [bD,bG,List.length_replicate,List.length_set]; omega)|(simp only [r2]; omega)) (by first|rfl|(rw [cF_eq]; rfl)|simp [ldV,V.one])) (aA rfl ?_)))))))
    refine cQ rfl rfl (cQ rfl rfl (bE (uZ ([((nth (bqR a b (nth L i) L x) (i))).w,[((x:Nat):Int)]]) (by simp only [r2,cat,List.append_nil,List.length_append,List.length_singleton]; omega)) rfl (aA rfl (aA rfl (R_e (aR (y12 _ _ ?_)))))))
    refine p210 _ _ (y9 _ _ (y8 _ _ (p26 _ _ (y5 _ _ ?_))))
    refine aC1 (@rfl V (aY (cat ([((nth (bqR a b (nth L i) L x) (i))).w,[((x:Nat):Int)]])))) (@rfl V (V.bool true)) (rV ?_ (fun _=>by simp)) (bJ ?_)
    · rw [hz]; simp only [r2]; rfl
    · rw [hz]; rfl
   have d1:bqD a b (nth L i) x=false:=decide_eq_false c13
   refine aG ?_
   refine aA4 (fun T H=>T 3=(V.mp 3 1 0 0)∧T 4=(V.mp 4 1 0 0)∧T 8=(V.ms 18 1 0 (a.nx.length))∧T 10=(V.ms 42 v2 0 ((bqR a b (nth L i) L x).length))∧T 11=(iV ((i:Nat):Int))∧T 12=(V.mp 12 (v12+1) 0 0)∧T 13=(iV ((x:Nat):Int))∧T 14=(V.mp 14 (v14+1) 0 0)∧T 55=(iV (a.i))∧T 56=(iV ((x:Nat):Int))∧(∀ j,j < k→H (65536*(j+1)+29)=(bk 1 4 1 (List.map cB (snR (bqR a b (nth L i) L x) b.nx.length j))))∧H 3=(bk 1 24 4 [[(iV (a.i)),(iV (a.s)),(aB a.nx),(aB a.ot)]])∧H 4=(bk 1 24 4 [[(iV (b.i)),(iV (b.s)),(aB b.nx),(aB b.ot)]])∧H 5=(bk 1 137 2 [[(iV (s)),(iV (t))]])∧H 12=(bk (v12+1) 137 2 [[(iV (((nth (L) (i))).s)),(iV (((nth (L) (i))).t))]])∧H 14=(bk (v14+1) 137 2 [[(iV ((nth ((nth (a.nx) (((nth (L) (i))).s).toNat)) (x)))),(iV ((nth ((nth (b.nx) (((nth (L) (i))).t).toNat)) (x))))]])∧H 18=(bk 1 93 1 (List.map c1V (rwL a.nx.length b.nx.length k)))∧H 42=(bk v2 174 3 (List.map cPr (bqR a b (nth L i) L x)))∧True) (by exact (uD (h14).2 yQ)) ?_ ?_
   ·
    refine aO t3 h3 (aK rfl h3 rfl rfl (aO t12 h12 (aK rfl h12 rfl rfl (fY (i:=(((nth (L) (i))).s)) (@rfl V (aB a.nx)) (@rfl V (iV (((nth (L) (i))).s))) (by first|omega|(simp only [bD,bG,List.length_replicate,List.length_set]; omega)|(simp only [r2]; omega)) (by first|omega|(simp only [bD,bG,List.length_replicate,List.length_set]; omega)|(simp only [r2]; omega)) rfl (aJ rfl rfl (aA rfl (bK (i:=x) (@rfl V (aY ((nth (a.nx) (((nth (L) (i))).s).toNat)))) (@rfl V (iV ((x:Nat):Int))) (by first|omega|(simp only [bD,bG,List.length_replicate,List.length_set]; omega)|(simp only [r2]; omega)) rfl ?_)))))))
    refine aJ rfl rfl (aO t4 h4 (aK rfl h4 rfl rfl (aO t12 h12 (aK rfl h12 rfl rfl (fY (i:=(((nth (L) (i))).t)) (@rfl V (aB b.nx)) (@rfl V (iV (((nth (L) (i))).t))) (by first|omega|(simp only [bD,bG,List.length_replicate,List.length_set]; omega)|(simp only [r2]; omega)) (by first|omega|(simp only [bD,bG,List.length_replicate,List.length_set]; omega)|(simp only [r2]; omega)) rfl (aJ rfl rfl (aA rfl ?_)))))))
    refine bK (i:=x) (@rfl V (aY ((nth (b.nx) (((nth (L) (i))).t).toNat)))) (@rfl V (iV ((x:Nat):Int))) (by first|omega|(simp only [bD,bG,List.length_replicate,List.length_set]; omega)|(simp only [r2]; omega)) rfl (aJ rfl rfl (dS rfl rfl (dG (i:=14) (n:=v14) (m:=2) rfl (h14).1 rfl (lL rfl rfl rfl rfl rfl rfl rfl rfl rfl ?_))))
    exact fQ ⟨t3,t4,t8,t10,t11,t12,rfl,rfl,t55,t56,(eI (eI hU2 (fun j=>by omega)) (fun j=>by omega)),h3,h4,h5,h12,rfl,h18,h42,trivial⟩
   intro T H ⟨t3,t4,t8,t10,t11,t12,t13,t14,t55,t56,hU2,h3,h4,h5,h12,h14,h18,h42,_⟩
   refine W_r (aK t14 h14 rfl rfl (aK t12 h12 rfl rfl (aPh rfl rfl (aA rfl ?_))))
   refine aV 11 (fun T H=>T 3=(V.mp 3 1 0 0)∧T 4=(V.mp 4 1 0 0)∧T 8=(V.ms 18 1 0 (a.nx.length))∧T 10=(V.ms 42 v2 0 ((bqR a b (nth L i) L x).length))∧T 11=(iV ((i:Nat):Int))∧T 12=(V.mp 12 (v12+1) 0 0)∧T 13=(iV ((x:Nat):Int))∧T 14=(V.mp 14 (v14+1) 0 0)∧T 55=(iV (a.i))∧T 56=(iV ((x:Nat):Int))∧T 120=(V.bool ((decide (¬(((nth ((nth (a.nx) (((nth (L) (i))).s).toNat)) (x)))=(((nth (L) (i))).s)∧((nth ((nth (b.nx) (((nth (L) (i))).t).toNat)) (x)))=(((nth (L) (i))).t)))&&((!(nth (snR (bqR a b (nth L i) L x) b.nx.length ((nth (nth a.nx (nth L i).s.toNat) x).toNat)) ((((nth ((nth (b.nx) (((nth (L) (i))).t).toNat)) (x)))).toNat)))))))∧(∀ j,j < k→H (65536*(j+1)+29)=(bk 1 4 1 (List.map cB (snR (bqR a b (nth L i) L x) b.nx.length j))))∧H 3=(bk 1 24 4 [[(iV (a.i)),(iV (a.s)),(aB a.nx),(aB a.ot)]])∧H 4=(bk 1 24 4 [[(iV (b.i)),(iV (b.s)),(aB b.nx),(aB b.ot)]])∧H 5=(bk 1 137 2 [[(iV (s)),(iV (t))]])∧H 12=(bk (v12+1) 137 2 [[(iV (((nth (L) (i))).s)),(iV (((nth (L) (i))).t))]])∧H 14=(bk (v14+1) 137 2 [[(iV ((nth ((nth (a.nx) (((nth (L) (i))).s).toNat)) (x)))),(iV ((nth ((nth (b.nx) (((nth (L) (i))).t).toNat)) (x))))]])∧H 18=(bk 1 93 1 (List.map c1V (rwL a.nx.length b.nx.length k)))∧H 42=(bk v2 174 3 (List.map cPr (bqR a b (nth L i) L x)))∧True) ?_ ?_
   ·
    by_cases g14: ¬(((nth ((nth (a.nx) (((nth (L) (i))).s).toNat)) (x)))=(((nth (L) (i))).s)∧((nth ((nth (b.nx) (((nth (L) (i))).t).toNat)) (x)))=(((nth (L) (i))).t))
    ·
     refine aD (edT g14 rfl) (aA t8 (aD (edT g14 rfl) (aO t14 h14 (aD (edT g14 rfl) (aK rfl h14 rfl rfl (aD (edT g14 rfl) (eC (i:=((nth ((nth (a.nx) (((nth (L) (i))).s).toNat)) (x)))) (@rfl V (V.ms 18 1 0 (a.nx.length))) (@rfl V (iV ((nth ((nth (a.nx) (((nth (L) (i))).s).toNat)) (x))))) h18 oB rfl (by first|omega|(simp only [bD,bG,List.length_replicate,List.length_set]; omega)|(simp only [r2]; omega)) (by first|omega|(simp only [bD,bG,List.length_replicate,List.length_set]; omega)|(simp only [r2]; omega)) ?_)))))))
     refine aD (edT g14 rfl) (bF (v:=(V.ms (65536*((nth (nth a.nx (nth L i).s.toNat) x).toNat+1)+29) 1 0 (b.nx.length))) rfl h18 (cD (by simp only [bD]; omega) (by simp only [c1V,zU (show (nth (nth a.nx (nth L i).s.toNat) x).toNat < a.nx.length by omega) (show (nth (nth a.nx (nth L i).s.toNat) x).toNat < k by omega)]; rfl)) (aD (edT g14 rfl) (aO t14 h14 (aD (edT g14 rfl) (aK rfl h14 rfl rfl (aD (edT g14 rfl) (eC (i:=((nth ((nth (b.nx) (((nth (L) (i))).t).toNat)) (x)))) (@rfl V (V.ms (65536*((nth (nth a.nx (nth L i).s.toNat) x).toNat+1)+29) 1 0 (b.nx.length))) (@rfl V (iV ((nth ((nth (b.nx) (((nth (L) (i))).t).toNat)) (x))))) (hU2 _ (by omega)) oB rfl (by first|omega|(simp only [bD,bG,List.length_replicate,List.length_set]; omega)|(simp only [r2]; omega)) (by first|omega|(simp only [bD,bG,List.length_replicate,List.length_set]; omega)|(simp only [r2]; omega)) ?_)))))))
     refine aD (edT g14 rfl) (bF (v:=(V.bool ((nth (snR (bqR a b (nth L i) L x) b.nx.length ((nth (nth a.nx (nth L i).s.toNat) x).toNat)) ((((nth ((nth (b.nx) (((nth (L) (i))).t).toNat)) (x)))).toNat))))) rfl (hU2 _ (by omega)) (cD (by first|omega|(simp only [bD,bG,List.length_replicate,List.length_set]; omega)|(simp only [r2]; omega)) (by first|rfl|(rw [cF_eq]; rfl)|simp [ldV,V.one])) (aD (edT g14 rfl) (lJ rfl (aW (edT g14 rfl) rfl ?_))))
     exact ⟨t3,t4,t8,t10,t11,t12,t13,t14,t55,t56,(aAt g14),hU2,h3,h4,h5,h12,h14,h18,h42,trivial⟩
    ·
     refine G_n (edF g14 rfl) (G_n (edF g14 rfl) (G_n (edF g14 rfl) (G_n (edF g14 rfl) (G_n (edF g14 rfl) (G_n (edF g14 rfl) (G_n (edF g14 rfl) (G_n (edF g14 rfl) ?_)))))))
     refine G_n (edF g14 rfl) (G_n (edF g14 rfl) (aU (edF g14 rfl) rfl ?_))
     exact ⟨t3,t4,t8,t10,t11,t12,t13,t14,t55,t56,(zO g14),hU2,h3,h4,h5,h12,h14,h18,h42,trivial⟩
   intro T H ⟨t3,t4,t8,t10,t11,t12,t13,t14,t55,t56,t120,hU2,h3,h4,h5,h12,h14,h18,h42,_⟩
   refine R_e ?_
   refine aAQ t120 (fun c15=>?_) (fun c15=>?_)
   ·
    have q0:=aGK (L:=bqR a b (nth L i) L x) n1.1 n2.1 n2.2.1
    have d2:knK (bqR a b (nth L i) L x) (nxS a (nth L i).s x) (nxS b (nth L i).t x) (bqR a b (nth L i) L x).length=false:=q0.symm.trans (by have q:=c15; rw [Bool.and_eq_true] at q; have q1:=q.2; rw [Bool.not_eq_true'] at q1; exact q1)
    refine W_r (aA t8 (aO t14 h14 (aK rfl h14 rfl rfl (eC (i:=((nth ((nth (a.nx) (((nth (L) (i))).s).toNat)) (x)))) (@rfl V (V.ms 18 1 0 (a.nx.length))) (@rfl V (iV ((nth ((nth (a.nx) (((nth (L) (i))).s).toNat)) (x))))) h18 oB rfl (by first|omega|(simp only [bD,bG,List.length_replicate,List.length_set]; omega)|(simp only [r2]; omega)) (by first|omega|(simp only [bD,bG,List.length_replicate,List.length_set]; omega)|(simp only [r2]; omega)) (bF (v:=(V.ms (65536*((nth (nth a.nx (nth L i).s.toNat) x).toNat+1)+29) 1 0 (b.nx.length))) rfl h18 (cD (by simp only [bD]; omega) (by simp only [c1V,zU (show (nth (nth a.nx (nth L i).s.toNat) x).toNat < a.nx.length by omega) (show (nth (nth a.nx (nth L i).s.toNat) x).toNat < k by omega)]; rfl)) (aO t14 h14 (aK rfl h14 rfl rfl ?_)))))))
    refine eC (i:=((nth ((nth (b.nx) (((nth (L) (i))).t).toNat)) (x)))) (@rfl V (V.ms (65536*((nth (nth a.nx (nth L i).s.toNat) x).toNat+1)+29) 1 0 (b.nx.length))) (@rfl V (iV ((nth ((nth (b.nx) (((nth (L) (i))).t).toNat)) (x))))) (hU2 _ (by omega)) oB rfl (by first|omega|(simp only [bD,bG,List.length_replicate,List.length_set]; omega)|(simp only [r2]; omega)) (by first|omega|(simp only [bD,bG,List.length_replicate,List.length_set]; omega)|(simp only [r2]; omega)) (cF (vs:=[(V.bool true)]) (B':=(bk 1 4 1 (List.map cB ((snR (bqR a b (nth L i) L x) b.nx.length ((nth (nth a.nx (nth L i).s.toNat) x).toNat)).set ((((nth ((nth (b.nx) (((nth (L) (i))).t).toNat)) (x)))).toNat) true)))) rfl rfl rfl (hU2 _ (by omega)) (jS (x:=true) (i:=((((nth ((nth (b.nx) (((nth (L) (i))).t).toNat)) (x)))).toNat)) (by first|omega|(simp only [bD,bG,List.length_replicate,List.length_set]; omega)|(simp only [r2]; omega)) rfl rfl rfl rfl) (R_e (W_t (aA t10 (aK t14 ((aF _ _ (by omega)).trans h14) rfl rfl (aA t10 (aA t11 ?_)))))))
    refine bW (i:=i) (@rfl V (V.ms 42 v2 0 ((bqR a b (nth L i) L x).length))) (@rfl V (iV ((i:Nat):Int))) ((aF _ _ (by omega)).trans h42) oB rfl (by first|omega|(simp only [bD,bG,List.length_replicate,List.length_set]; omega)|(simp only [r2]; omega)) (aO rfl ((aF _ _ (by omega)).trans h42) (bF (v:=(aY (((nth (bqR a b (nth L i) L x) (i))).w))) rfl ((aF _ _ (by omega)).trans h42) (cD (by first|omega|(simp only [bD,bG,List.length_replicate,List.length_set]; omega)|(simp only [r2]; omega)) (by first|rfl|(rw [cF_eq]; rfl)|simp [ldV,V.one])) (aA t13 (cQ rfl rfl (cQ rfl rfl (bE (uZ ([((nth (bqR a b (nth L i) L x) (i))).w,[((x:Nat):Int)]]) (by simp only [r2,cat,List.append_nil,List.length_append,List.length_singleton]; omega)) rfl (dS rfl rfl ?_)))))))
    refine cQ rfl rfl (dH (l:=(bqR a b (nth L i) L x)) (f:=cPr) (x:=((⟨nth ((nth (a.nx) (((nth (L) (i))).s).toNat)) (x),nth ((nth (b.nx) (((nth (L) (i))).t).toNat)) (x),cat ([((nth (bqR a b (nth L i) L x) (i))).w,[((x:Nat):Int)]])⟩:Pr))) (@rfl V (V.ms 42 v2 0 ((bqR a b (nth L i) L x).length))) ((aF _ _ (by omega)).trans h42) (by first|rfl|simp|omega) (@rfl V (V.sl [[(iV ((nth ((nth (a.nx) (((nth (L) (i))).s).toNat)) (x)))),(iV ((nth ((nth (b.nx) (((nth (L) (i))).t).toNat)) (x)))),(aY (cat ([((nth (bqR a b (nth L i) L x) (i))).w,[((x:Nat):Int)]])))]])) rfl rfl (by first|omega|(simp only [bD,bG,List.length_replicate,List.length_set]; omega)|(simp only [r2]; omega)) (by first|omega|(simp only [bD,bG,List.length_replicate,List.length_set]; omega)|(simp only [r2]; omega)) (aA rfl (R_e (n12 _ _ (cZ (R:=fun T H=>T 3=(V.mp 3 1 0 0)∧T 4=(V.mp 4 1 0 0)∧T 8=(V.ms 18 1 0 (a.nx.length))∧T 10=(V.ms 42 (v2+1) 0 (((bqR a b (nth L i) L x).length)+1))∧T 11=(iV ((i:Nat):Int))∧T 12=(V.mp 12 (v12+1) 0 0)∧T 55=(iV (a.i))∧T 56=(iV ((x:Nat):Int))∧(∀ j,j < k→H (65536*(j+1)+29)=(bk 1 4 1 (List.map cB (snR ((bqR a b (nth L i) L x++[⟨(nxS a (nth L i).s x),(nxS b (nth L i).t x),(nth L i).w++[(x:Int)]⟩])) b.nx.length j))))∧H 3=(bk 1 24 4 [[(iV (a.i)),(iV (a.s)),(aB a.nx),(aB a.ot)]])∧H 4=(bk 1 24 4 [[(iV (b.i)),(iV (b.s)),(aB b.nx),(aB b.ot)]])∧H 5=(bk 1 137 2 [[(iV (s)),(iV (t))]])∧H 12=(bk (v12+1) 137 2 [[(iV (((nth (L) (i))).s)),(iV (((nth (L) (i))).t))]])∧H 14=(bk (v14+1) 137 2 [[(iV ((nth ((nth (a.nx) (((nth (L) (i))).s).toNat)) (x)))),(iV ((nth ((nth (b.nx) (((nth (L) (i))).t).toNat)) (x))))]])∧H 18=(bk 1 93 1 (List.map c1V (rwL a.nx.length b.nx.length k)))∧H 42=(bk (v2+1) 174 3 (List.map cPr (bqR a b (nth L i) L x++[(⟨nth ((nth (a.nx) (((nth (L) (i))).s).toNat)) (x),nth ((nth (b.nx) (((nth (L) (i))).t).toNat)) (x),cat ([((nth (bqR a b (nth L i) L x) (i))).w,[((x:Nat):Int)]])⟩:Pr)])))∧True) ⟨t3,t4,t8,(@rfl V (V.ms 42 (v2+1) 0 (((bqR a b (nth L i) L x).length)+1))),t11,t12,t55,t56,(eI (aDl hU2 (congrArg (fun l=>bk 1 4 1 (List.map cB l)) (aDu (p:=⟨(nxS a (nth L i).s x),(nxS b (nth L i).t x),(nth L i).w++[(x:Int)]⟩) n1.1 n2.1 n2.2.1)) fun j hj=>by rw [xI (p:=⟨(nxS a (nth L i).s x),(nxS b (nth L i).t x),(nth L i).w++[(x:Int)]⟩) n1.1 hj]) (fun j=>by omega)),((aF _ _ (by omega)).trans h3),((aF _ _ (by omega)).trans h4),((aF _ _ (by omega)).trans h5),((aF _ _ (by omega)).trans h12),((aF _ _ (by omega)).trans h14),((aF _ _ (by omega)).trans h18),rfl,trivial⟩ ?_)))))
    intro T H ⟨t3,t4,t8,t10,t11,t12,t55,t56,hU2,h3,h4,h5,h12,h14,h18,h42,_⟩
    refine .freeze 14 (.done ?_)
    refine cZ (R:=fun T H=>T 3=(V.mp 3 1 0 0)∧T 4=(V.mp 4 1 0 0)∧T 8=(V.ms 18 1 0 (a.nx.length))∧T 10=(V.ms 42 (v2+1) 0 (((bqR a b (nth L i) L x).length)+1))∧T 11=(iV ((i:Nat):Int))∧T 12=(V.mp 12 (v12+1) 0 0)∧T 55=(iV (a.i))∧T 56=(iV ((x:Nat):Int))∧(∀ j,j < k→H (65536*(j+1)+29)=(bk 1 4 1 (List.map cB (snR ((bqR a b (nth L i) L x++[⟨(nxS a (nth L i).s x),(nxS b (nth L i).t x),(nth L i).w++[(x:Int)]⟩])) b.nx.length j))))∧H 3=(bk 1 24 4 [[(iV (a.i)),(iV (a.s)),(aB a.nx),(aB a.ot)]])∧H 4=(bk 1 24 4 [[(iV (b.i)),(iV (b.s)),(aB b.nx),(aB b.ot)]])∧H 5=(bk 1 137 2 [[(iV (s)),(iV (t))]])∧H 12=(bk (v12+1) 137 2 [[(iV (((nth (L) (i))).s)),(iV (((nth (L) (i))).t))]])∧((H 14).ver=v14+1∧(H 14).live=false)∧H 18=(bk 1 93 1 (List.map c1V (rwL a.nx.length b.nx.length k)))∧H 42=(bk (v2+1) 174 3 (List.map cPr (bqR a b (nth L i) L x++[(⟨nth ((nth (a.nx) (((nth (L) (i))).s).toNat)) (x),nth ((nth (b.nx) (((nth (L) (i))).t).toNat)) (x),cat ([((nth (bqR a b (nth L i) L x) (i))).w,[((x:Nat):Int)]])⟩:Pr)])))∧True) ⟨(bA t3 rfl),(bA t4 rfl),(bA t8 (cR (by decide))),(bA t10 (cR (by decide))),(bA t11 rfl),(bA t12 rfl),(bA t55 rfl),(bA t56 rfl),(aBs hU2 (fun j=>by omega)),(aS h3 (by decide)),(aS h4 (by decide)),(aS h5 (by decide)),(aS h12 (by decide)),(eL (congrArg Blk.ver h14)),(aS h18 (by decide)),(aS h42 (by decide)),trivial⟩ ?_
    intro T H ⟨t3,t4,t8,t10,t11,t12,t55,t56,hU2,h3,h4,h5,h12,h14,h18,h42,_⟩
    refine W_t (bS t56 (@rfl V (iV ((1:Nat):Int))) (by first|omega|(simp only [bD,bG,List.length_replicate,List.length_set]; omega)|(simp only [r2]; omega)) (aA rfl (R_e ?_)))
    refine p110 _ _ _ ?_ ⟨(x+1),(v2+1),(v14+1),rfl,t3,t4,t8,(Eq.trans t10 (by first|rfl|(simp only [r2]; rfl)|(rw [show x=a.i.toNat by omega]; done)|(rw [aX d2,List.length_append]; done)|(rw [aX d2,List.length_append]; rfl)|(rw [bR d2]; done)|simp)),t11,t12,t55,(Eq.trans (@rfl V (iV ((x+1:Nat):Int))) (by first|rfl|(simp only [r2]; rfl)|(rw [show x=a.i.toNat by omega]; done)|(rw [aX d2,List.length_append]; done)|(rw [aX d2,List.length_append]; rfl)|(rw [bR d2]; done)|simp)),(fun j hj=>(hU2 j (by omega)).trans (by first|rfl|(rw [aX d2]; done)|(rw [bR d2]; done)|(rw [show x=a.i.toNat by omega]; done))),h3,h4,h5,h12,h14,h18,(Eq.trans h42 (by first|rfl|(rw [jF]; done)|(rw [kZ]; done)|(rw [show x=a.i.toNat by omega]; done)|(simp only [r2]; rw [aX d2]; done)|(simp only [r2]; rw [aX d2]; rfl)|(rw [bR d2]; done)|simp)),?_,?_⟩
    · omega
    · omega
    · intro j hj
      by_cases e:j=x
      · subst e; exact d1
      · exact hdx j (by omega)
   have q0:=aGK (L:=bqR a b (nth L i) L x) n1.1 n2.1 n2.2.1
   have d2:knK (bqR a b (nth L i) L x) (nxS a (nth L i).s x) (nxS b (nth L i).t x) (bqR a b (nth L i) L x).length=true:=by
     by_cases e:(nth (nth a.nx (nth L i).s.toNat) x)=(nth L i).s∧(nth (nth b.nx (nth L i).t.toNat) x)=(nth L i).t
     · exact kC.2 ⟨i,r1,by rw [r2]; exact ⟨e.1.symm,e.2.symm⟩⟩
     · cases h:nth (snR (bqR a b (nth L i) L x) b.nx.length (nth (nth a.nx (nth L i).s.toNat) x).toNat) (nth (nth b.nx (nth L i).t.toNat) x).toNat with
       |true=>exact q0.symm.trans h
       |false=>exact absurd (c15.symm.trans (by rw [h]; simp only [Bool.not_false,Bool.and_true]; exact decide_eq_true e)) Bool.false_ne_true
   refine dC (n12 _ _ (cZ (R:=fun T H=>T 3=(V.mp 3 1 0 0)∧T 4=(V.mp 4 1 0 0)∧T 8=(V.ms 18 1 0 (a.nx.length))∧T 10=(V.ms 42 v2 0 ((bqR a b (nth L i) L x).length))∧T 11=(iV ((i:Nat):Int))∧T 12=(V.mp 12 (v12+1) 0 0)∧T 13=(iV ((x:Nat):Int))∧T 14=(V.mp 14 (v14+1) 0 0)∧T 55=(iV (a.i))∧T 56=(iV ((x:Nat):Int))∧T 120=(V.bool ((decide (¬(((nth ((nth (a.nx) (((nth (L) (i))).s).toNat)) (x)))=(((nth (L) (i))).s)∧((nth ((nth (b.nx) (((nth (L) (i))).t).toNat)) (x)))=(((nth (L) (i))).t)))&&((!(nth (snR (bqR a b (nth L i) L x) b.nx.length ((nth (nth a.nx (nth L i).s.toNat) x).toNat)) ((((nth ((nth (b.nx) (((nth (L) (i))).t).toNat)) (x)))).toNat)))))))∧(∀ j,j < k→H (65536*(j+1)+29)=(bk 1 4 1 (List.map cB (snR (bqR a b (nth L i) L x) b.nx.length j))))∧H 3=(bk 1 24 4 [[(iV (a.i)),(iV (a.s)),(aB a.nx),(aB a.ot)]])∧H 4=(bk 1 24 4 [[(iV (b.i)),(iV (b.s)),(aB b.nx),(aB b.ot)]])∧H 5=(bk 1 137 2 [[(iV (s)),(iV (t))]])∧H 12=(bk (v12+1) 137 2 [[(iV (((nth (L) (i))).s)),(iV (((nth (L) (i))).t))]])∧H 14=(bk (v14+1) 137 2 [[(iV ((nth ((nth (a.nx) (((nth (L) (i))).s).toNat)) (x)))),(iV ((nth ((nth (b.nx) (((nth (L) (i))).t).toNat)) (x))))]])∧H 18=(bk 1 93 1 (List.map c1V (rwL a.nx.length b.nx.length k)))∧H 42=(bk v2 174 3 (List.map cPr (bqR a b (nth L i) L x)))∧True) ⟨t3,t4,t8,t10,t11,t12,t13,t14,t55,t56,t120,hU2,h3,h4,h5,h12,h14,h18,h42,trivial⟩ ?_))
   intro T H ⟨t3,t4,t8,t10,t11,t12,t13,t14,t55,t56,t120,hU2,h3,h4,h5,h12,h14,h18,h42,_⟩
   refine .freeze 14 (.done ?_)
   refine cZ (R:=fun T H=>T 3=(V.mp 3 1 0 0)∧T 4=(V.mp 4 1 0 0)∧T 8=(V.ms 18 1 0 (a.nx.length))∧T 10=(V.ms 42 v2 0 ((bqR a b (nth L i) L x).length))∧T 11=(iV ((i:Nat):Int))∧T 12=(V.mp 12 (v12+1) 0 0)∧T 13=(iV ((x:Nat):Int))∧T 14=(V.mp 14 (v14+1) 0 0)∧T 55=(iV (a.i))∧T 56=(iV ((x:Nat):Int))∧T 120=(V.bool ((decide (¬(((nth ((nth (a.nx) (((nth (L) (i))).s).toNat)) (x)))=(((nth (L) (i))).s)∧((nth ((nth (b.nx) (((nth (L) (i))).t).toNat)) (x)))=(((nth (L) (i))).t)))&&((!(nth (snR (bqR a b (nth L i) L x) b.nx.length ((nth (nth a.nx (nth L i).s.toNat) x).toNat)) ((((nth ((nth (b.nx) (((nth (L) (i))).t).toNat)) (x)))).toNat)))))))∧(∀ j,j < k→H (65536*(j+1)+29)=(bk 1 4 1 (List.map cB (snR (bqR a b (nth L i) L x) b.nx.length j))))∧H 3=(bk 1 24 4 [[(iV (a.i)),(iV (a.s)),(aB a.nx),(aB a.ot)]])∧H 4=(bk 1 24 4 [[(iV (b.i)),(iV (b.s)),(aB b.nx),(aB b.ot)]])∧H 5=(bk 1 137 2 [[(iV (s)),(iV (t))]])∧H 12=(bk (v12+1) 137 2 [[(iV (((nth (L) (i))).s)),(iV (((nth (L) (i))).t))]])∧((H 14).ver=v14+1∧(H 14).live=false)∧H 18=(bk 1 93 1 (List.map c1V (rwL a.nx.length b.nx.length k)))∧H 42=(bk v2 174 3 (List.map cPr (bqR a b (nth L i) L x)))∧True) ⟨(bA t3 rfl),(bA t4 rfl),(bA t8 (cR (by decide))),(bA t10 (cR (by decide))),(bA t11 rfl),(bA t12 rfl),(bA t13 rfl),(bA t14 rfl),(bA t55 rfl),(bA t56 rfl),(bA t120 rfl),(aBs hU2 (fun j=>by omega)),(aS h3 (by decide)),(aS h4 (by decide)),(aS h5 (by decide)),(aS h12 (by decide)),(eL (congrArg Blk.ver h14)),(aS h18 (by decide)),(aS h42 (by decide)),trivial⟩ ?_
   intro T H ⟨t3,t4,t8,t10,t11,t12,t13,t14,t55,t56,t120,hU2,h3,h4,h5,h12,h14,h18,h42,_⟩
   refine W_t (bS t56 (@rfl V (iV ((1:Nat):Int))) (by first|omega|(simp only [bD,bG,List.length_replicate,List.length_set]; omega)|(simp only [r2]; omega)) (aA rfl (R_e ?_)))
   refine p110 _ _ _ ?_ ⟨(x+1),v2,(v14+1),rfl,t3,t4,t8,(Eq.trans t10 (by first|rfl|(simp only [r2]; rfl)|(rw [show x=a.i.toNat by omega]; done)|(rw [aX d2,List.length_append]; done)|(rw [aX d2,List.length_append]; rfl)|(rw [bR d2]; done)|simp)),t11,t12,t55,(Eq.trans (@rfl V (iV ((x+1:Nat):Int))) (by first|rfl|(simp only [r2]; rfl)|(rw [show x=a.i.toNat by omega]; done)|(rw [aX d2,List.length_append]; done)|(rw [aX d2,List.length_append]; rfl)|(rw [bR d2]; done)|simp)),(fun j hj=>(hU2 j (by omega)).trans (by first|rfl|(rw [aX d2]; done)|(rw [bR d2]; done)|(rw [show x=a.i.toNat by omega]; done))),h3,h4,h5,h12,h14,h18,(Eq.trans h42 (by first|rfl|(rw [jF]; done)|(rw [kZ]; done)|(rw [show x=a.i.toNat by omega]; done)|(simp only [r2]; rw [aX d2]; done)|(simp only [r2]; rw [aX d2]; rfl)|(rw [bR d2]; done)|simp)),?_,?_⟩
   · omega
   · omega
   · intro j hj
     by_cases e:j=x
     · subst e; exact d1
     · exact hdx j (by omega)
  refine aT (p310 _ _ _ (x9 _ _ (n8 _ _ (.done (W_t (aA t11 (bS rfl (@rfl V (iV ((1:Nat):Int))) (by first|omega|(simp only [bD,bG,List.length_replicate,List.length_set]; omega)|(simp only [r2]; omega)) ?_)))))))
  refine aA rfl (R_e ?_)
  refine p16 _ _ _ ?_ ⟨(i+1),v2,(bqR a b (nth L i) L a.i.toNat),(v12+1),v14,rfl,t3,t4,t8,(Eq.trans t10 (by first|rfl|(simp only [r2]; rfl)|(rw [show x=a.i.toNat by omega]; done)|(rw [aX d2,List.length_append]; done)|(rw [aX d2,List.length_append]; rfl)|(rw [bR d2]; done)|simp)),(Eq.trans (@rfl V (iV ((i+1:Nat):Int))) (by first|rfl|(simp only [r2]; rfl)|(rw [show x=a.i.toNat by omega]; done)|(rw [aX d2,List.length_append]; done)|(rw [aX d2,List.length_append]; rfl)|(rw [bR d2]; done)|simp)),(fun j hj=>(hU2 j (by omega)).trans (by first|rfl|(rw [aX d2]; done)|(rw [bR d2]; done)|(rw [show x=a.i.toNat by omega]; done))),h3,h4,h5,(congrArg Blk.ver h12),h14,h18,(Eq.trans h42 (by first|rfl|(rw [jF]; done)|(rw [kZ]; done)|(rw [show x=a.i.toNat by omega]; done)|(simp only [r2]; rw [aX d2]; done)|(simp only [r2]; rw [aX d2]; rfl)|(rw [bR d2]; done)|simp)),?_,?_,?_⟩
  · omega
  · have:=pD (a:=a) (b:=b) (p:=nth L i) (L:=L) (x:=a.i.toNat); omega
  · exact hbi.row hma hmb hi (by omega) (Nat.le_refl _) fun j hj=>hdx j (by omega)
  · rw [hc,aKA (by omega) (by omega) fun j hj=>hdx j (by omega)]
 have hz:dst a b s t=none:=by rw [hc,aGp (by omega)]
 refine aT (p36 _ _ _ (x5 _ _ (.done (W_r (aA rfl (aA rfl (R_e ?_)))))))
 refine bI ?_
 refine aC1 (@rfl V V.nilsl) (@rfl V (V.bool false)) (dV ?_) (bJ ?_)
 · rw [hz]; rfl
 · rw [hz]; rfl
end Go.Proofs.YtilfohjlglefjaaGreat
namespace Go.Proofs.YtilfohjlglefjaaGreat
open Go Go.Proofs
theorem aCV (a b:M):aZ Tryz.prog 41 [(V.agg [(iV (a.i)),(iV (a.s)),(aB a.nx),(aB a.ot)]),(V.agg [(iV (b.i)),(iV (b.s)),(aB b.nx),(aB b.ot)])] (V.tup [(aY (wM a b)),(V.bool (wN a b)),(iV (jJ a b))]):=by
 refine pW Tryz.func41 aGk fun hB=>?_
 unfold s41
 dsimp only
 refine W_r (dK (i:=2) (n:=0) (m:=4) (cs:=[(iV (a.i)),(iV (a.s)),(aB a.nx),(aB a.ot)]) rfl (congrArg Blk.ver rfl) rfl rfl rfl (dK (i:=3) (n:=0) (m:=4) (cs:=[(iV (b.i)),(iV (b.s)),(aB b.nx),(aB b.ot)]) rfl (congrArg Blk.ver rfl) rfl rfl rfl (aA rfl (aA rfl (aA rfl (R_e (aC ?_)))))))
 refine W_r (aK rfl rfl rfl rfl (aK rfl rfl rfl rfl (bE (aAR a b) rfl (aA rfl (R_e (aC (W_r ?_)))))))
 refine aA rfl (cG rfl rfl (R_e ?_))
 refine aL rfl (fun c1=>?_) fun c1=>?_
 ·
  have d1:=c1
  refine aC (W_r (aA rfl (aA rfl (aA rfl (aA rfl (R_e (aR ?_)))))))
  refine jI (@rfl V V.nilsl) (@rfl V (V.bool false)) (@rfl V (iV (jJ a b))) (dV ?_) (bJ ?_) (mD (by simp) rfl)
  · unfold wM; rw [if_pos d1]
  · unfold wN; rw [if_pos d1]
 have d0:jJ a b=0:=by omega
 obtain ⟨hma,hmb,hi⟩:=aFY d0
 refine aG (W_r (aK rfl rfl rfl rfl (aK rfl rfl rfl rfl (aO rfl rfl (aK rfl rfl rfl rfl (aO rfl rfl (aK rfl rfl rfl rfl ?_)))))))
 refine dS rfl rfl (bE (aBO a b ((a.s)) ((b.s)) hma hmb hi (aAf hma) (aAf hmb)) rfl (aA rfl (eD rfl rfl (eD rfl rfl (aA rfl (aA rfl (R_e ?_)))))))
 refine W_r (aA rfl (aA rfl (aA rfl (aA rfl (aA rfl (R_e (bI ?_)))))))
 refine jI (@rfl V (aY ((dst a b ((a.s)) ((b.s))).getD []))) (@rfl V (V.bool ((dst a b ((a.s)) ((b.s))).isSome))) (@rfl V (iV (0:Int))) (rV ?_ (fun _=>by simp)) (bJ ?_) (aM ?_)
 · unfold wM; rw [if_neg (by omega)]
 · unfold wN; rw [if_neg (by omega)]
 · omega
theorem aAV (a b:TM):aZ Tryz.prog 15 [(V.agg [(iV (a.i)),(iV (a.tm)),(iV (a.s)),(aB a.nx),(aB a.ot),(V.sl (List.map cSr (a.st)))]),(V.agg [(iV (b.i)),(iV (b.tm)),(iV (b.s)),(aB b.nx),(aB b.ot),(V.sl (List.map cSr (b.st)))])] (V.tup [(aY (tqW a b)),(V.bool (tqF a b)),(iV (tqE a b))]):=by
 refine pW Tryz.func15 aGw fun hB=>?_
 unfold s15
 dsimp only
 refine W_r (dK (i:=2) (n:=0) (m:=6) (cs:=[(iV (a.i)),(iV (a.tm)),(iV (a.s)),(aB a.nx),(aB a.ot),(V.sl (List.map cSr (a.st)))]) rfl (congrArg Blk.ver rfl) rfl rfl rfl (dK (i:=3) (n:=0) (m:=6) (cs:=[(iV (b.i)),(iV (b.tm)),(iV (b.s)),(aB b.nx),(aB b.ot),(V.sl (List.map cSr (b.st)))]) rfl (congrArg Blk.ver rfl) rfl rfl rfl (aA rfl (aA rfl (aA rfl (R_e (aC ?_)))))))
 refine W_r (aK rfl rfl rfl rfl (aK rfl rfl rfl rfl (dS rfl rfl (aA rfl (R_e (aI fun Q1 n1 x1 y1 z1=>?_))))))
 refine cP (fun mm T H=> ∃ (k:Nat) (v8:Nat),mm=2 - k∧T 2=(V.mp 2 1 0 0)∧T 3=(V.mp 3 1 0 0)∧T 15=(V.agg [(iV (a.i)),(iV (a.tm)),(iV (a.s)),(aB a.nx),(aB a.ot),(V.sl (List.map cSr (a.st))),(iV (b.i)),(iV (b.tm)),(iV (b.s)),(aB b.nx),(aB b.ot),(V.sl (List.map cSr (b.st)))])∧T 16=(iV ((k:Nat):Int))∧H 2=(bk 1 29 6 [[(iV (a.i)),(iV (a.tm)),(iV (a.s)),(aB a.nx),(aB a.ot),(V.sl (List.map cSr (a.st)))]])∧H 3=(bk 1 29 6 [[(iV (b.i)),(iV (b.tm)),(iV (b.s)),(aB b.nx),(aB b.ot),(V.sl (List.map cSr (b.st)))]])∧(H 8).ver=v8∧H 10=(⟨0,false,false,0,0,[]⟩:Blk)∧H 12=(⟨0,false,false,0,0,[]⟩:Blk)∧(k≤2)∧(1≤k→dP a=0)∧(2≤k→dP b=0)) ?_ ?_
 ·
  refine ⟨_,0,0,rfl,rfl,rfl,rfl,(Eq.trans (@rfl V (iV (0:Int))) rfl),rfl,rfl,(congrArg Blk.ver rfl),rfl,rfl,?_,?_,?_⟩
  · omega
  · intro; omega
  · intro; omega
 intro mm T H ⟨k,v8,hmm,t2,t3,t15,t16,h2,h3,h8,h10,h12,hk,ha,hb⟩ Q2 p12 p22 p32
 unfold aKU
 refine W_r (bQ t16 rfl (R_e ?_))
 refine aL rfl (fun c3=>?_) fun c3=>?_
 ·
  refine aG (aI fun Q4 n4 x4 y4 z4=>(W_r (aDr (v:=(V.agg [(iV (((nth [a,b] k)).i)),(iV (((nth [a,b] k)).tm)),(iV (((nth [a,b] k)).s)),(aB (((nth [a,b] k)).nx)),(aB (((nth [a,b] k)).ot)),(V.sl (List.map cSr (((nth [a,b] k)).st)))])) t15 t16 (by rcases (show k=0∨k=1 by omega) with e|e <;> subst e <;> rfl) (dG (i:=8) (n:=v8) (m:=6) rfl h8 rfl (lL rfl rfl rfl rfl rfl rfl rfl rfl rfl (R_e (W_r ?_)))))))
  refine aK rfl rfl rfl rfl (bE (sC (((nth [a,b] k)))) rfl (aA rfl (R_e (W_r (aA rfl (cG rfl rfl (R_e ?_)))))))
  refine fO rfl (fun c5=>?_) fun c5=>?_
  ·
   have d0:=c5
   refine W_r (aA rfl (aA rfl (aA rfl (aA rfl (R_e (bI (y4 _ _ ?_)))))))
   refine p22 _ _ (y1 _ _ ?_)
   refine jI (@rfl V V.nilsl) (@rfl V (V.bool false)) (@rfl V (iV (dP (((nth [a,b] k)))))) (dV ?_) (bJ ?_) (aM ?_)
   · have hz:tmQ a b=dP (nth [a,b] k):=by
       rcases (show k=0∨k=1 by omega) with e|e
       · subst e; rw [eE] at d0 ⊢; exact yR d0
       · subst e; exact yK (ha (by omega)) d0
     have q:=eX (a:=a) (b:=b) hz d0
     rw [q.1]
   · have hz:tmQ a b=dP (nth [a,b] k):=by
       rcases (show k=0∨k=1 by omega) with e|e
       · subst e; rw [eE] at d0 ⊢; exact yR d0
       · subst e; exact yK (ha (by omega)) d0
     have q:=eX (a:=a) (b:=b) hz d0
     exact q.2.1.symm
   · have hz:tmQ a b=dP (nth [a,b] k):=by
       rcases (show k=0∨k=1 by omega) with e|e
       · subst e; rw [eE] at d0 ⊢; exact yR d0
       · subst e; exact yK (ha (by omega)) d0
     have q:=eX (a:=a) (b:=b) hz d0
     exact q.2.2.symm
  have d0:dP (nth [a,b] k)=0:=by omega
  refine dC (n4 _ _ (.done (W_t (bS t16 (@rfl V (iV ((1:Nat):Int))) (by omega) (aA rfl (R_e ?_))))))
  refine p12 _ _ _ ?_ ⟨(k+1),(v8+1),rfl,t2,t3,t15,(Eq.trans (@rfl V (iV ((k+1:Nat):Int))) (by first|rfl|simp)),h2,h3,(congrArg Blk.ver rfl),h10,h12,?_,?_,?_⟩
  · omega
  · omega
  · intro _; rcases (show k=0∨k=1 by omega) with e|e
    · subst e; have d9:=d0; rw [eE] at d9; exact d9
    · exact ha (by omega)
  · intro _; have e:k=1:=by omega
    subst e; exact d0
 have d1:dP a=0:=ha (by omega)
 have d2:dP b=0:=hb (by omega)
 refine aT (p32 _ _ _ (x1 _ _ (.done (aC (W_r (aO t2 h2 (aK rfl h2 rfl rfl ?_)))))))
 refine aO t3 h3 (aK rfl h3 rfl rfl (cG rfl rfl (aA rfl ?_)))
 refine aV 6 (fun T H=>T 2=(V.mp 2 1 0 0)∧T 3=(V.mp 3 1 0 0)∧T 36=(V.bool (decide (((a.i)≠(b.i))∨((a.tm)≠(b.tm)))))∧H 2=(bk 1 29 6 [[(iV (a.i)),(iV (a.tm)),(iV (a.s)),(aB a.nx),(aB a.ot),(V.sl (List.map cSr (a.st)))]])∧H 3=(bk 1 29 6 [[(iV (b.i)),(iV (b.tm)),(iV (b.s)),(aB b.nx),(aB b.ot),(V.sl (List.map cSr (b.st)))]])∧(H 8).ver=v8∧H 10=(⟨0,false,false,0,0,[]⟩:Blk)∧H 12=(⟨0,false,false,0,0,[]⟩:Blk)∧True) ?_ ?_
 ·
  by_cases g6:(a.i)≠(b.i)
  ·
   refine G_n (edT g6 rfl) (G_n (edT g6 rfl) (G_n (edT g6 rfl) (G_n (edT g6 rfl) (G_n (edT g6 rfl) (aW (edT g6 rfl) rfl ?_)))))
   exact ⟨t2,t3,(bN g6),h2,h3,h8,h10,h12,trivial⟩
  ·
   refine aD (edF g6 rfl) (aO t2 h2 (aD (edF g6 rfl) (aK rfl h2 rfl rfl (aD (edF g6 rfl) (aO t3 h3 (aD (edF g6 rfl) (aK rfl h3 rfl rfl ?_)))))))
   refine aD (edF g6 rfl) (cG rfl rfl (aU (edF g6 rfl) rfl ?_))
   exact ⟨t2,t3,(bM g6),h2,h3,h8,h10,h12,trivial⟩
 intro T H ⟨t2,t3,t36,h2,h3,h8,h10,h12,_⟩
 refine R_e ?_
 refine aL t36 (fun c7=>?_) fun c7=>?_
 ·
  have d3:a.i≠b.i∨a.tm≠b.tm:=c7
  refine aC (W_r (aA rfl (aA rfl (aA rfl (R_e (aR ?_))))))
  refine jI (@rfl V V.nilsl) (@rfl V (V.bool false)) (@rfl V (iV (15:Int))) (dV ?_) (bJ ?_) (aM ?_)
  · have q:=eX (a:=a) (b:=b) (xT d1 d2 d3) (by decide)
    rw [q.1]
  · have q:=eX (a:=a) (b:=b) (xT d1 d2 d3) (by decide)
    exact q.2.1.symm
  · have q:=eX (a:=a) (b:=b) (xT d1 d2 d3) (by decide)
    exact q.2.2.symm
 have d3: ¬(a.i≠b.i∨a.tm≠b.tm):=c7
 refine aG (W_r (aK t2 h2 rfl rfl (bE (nJ a) rfl (aA rfl (eD rfl rfl (eD rfl rfl (dG (i:=10) (n:=0) (m:=4) rfl (congrArg Blk.ver h10) rfl ?_)))))))
 refine lL rfl rfl rfl rfl rfl rfl rfl rfl rfl (aA rfl (R_e (aC (W_r (aA rfl (cG rfl rfl (R_e ?_)))))))
 refine aL rfl (fun c8=>?_) fun c8=>?_
 ·
  have d4:unE a≠0:=c8
  refine aC (W_r (aA rfl (aA rfl (aA rfl (aA rfl (R_e (aR ?_)))))))
  refine jI (@rfl V V.nilsl) (@rfl V (V.bool false)) (@rfl V (iV (unE a))) (dV ?_) (bJ ?_) (aM ?_)
  · have q:=eX (a:=a) (b:=b) (xF d1 d2 d3 d4) d4
    rw [q.1]
  · have q:=eX (a:=a) (b:=b) (xF d1 d2 d3 d4) d4
    exact q.2.1.symm
  · have q:=eX (a:=a) (b:=b) (xF d1 d2 d3 d4) d4
    exact q.2.2.symm
 have d4:unE a=0:=Decidable.not_not.1 c8
 refine aG (W_r (aK t3 h3 rfl rfl (bE (nJ b) rfl (aA rfl (eD rfl rfl (eD rfl rfl (dG (i:=12) (n:=0) (m:=4) rfl (congrArg Blk.ver h12) rfl ?_)))))))
 refine lL rfl rfl rfl rfl rfl rfl rfl rfl rfl (aA rfl (R_e (aC (W_r (aA rfl (cG rfl rfl (R_e ?_)))))))
 refine aL rfl (fun c9=>?_) fun c9=>?_
 ·
  have d5:unE b≠0:=c9
  refine aC (W_r (aA rfl (aA rfl (aA rfl (aA rfl (R_e (aR ?_)))))))
  refine jI (@rfl V V.nilsl) (@rfl V (V.bool false)) (@rfl V (iV (unE b))) (dV ?_) (bJ ?_) (aM ?_)
  · have q:=eX (a:=a) (b:=b) (rW d1 d2 d3 d4) d5
    rw [q.1]
  · have q:=eX (a:=a) (b:=b) (rW d1 d2 d3 d4) d5
    exact q.2.1.symm
  · have q:=eX (a:=a) (b:=b) (rW d1 d2 d3 d4) d5
    exact q.2.2.symm
 have d5:unE b=0:=Decidable.not_not.1 c9
 have hq:tmQ a b=0:=(rW d1 d2 d3 d4).trans d5
 refine aG ?_
 refine eQ (fun T H=>T 4=(aY (wM ((unM a)) ((unM b))))∧T 5=(V.bool (wN ((unM a)) ((unM b))))∧T 6=(iV (jJ ((unM a)) ((unM b))))∧H 2=(bk 1 29 6 [[(iV (a.i)),(iV (a.tm)),(iV (a.s)),(aB a.nx),(aB a.ot),(V.sl (List.map cSr (a.st)))]])∧H 3=(bk 1 29 6 [[(iV (b.i)),(iV (b.tm)),(iV (b.s)),(aB b.nx),(aB b.ot),(V.sl (List.map cSr (b.st)))]])∧(H 8).ver=v8∧H 10=(bk 1 24 4 [[(iV ((unM a).i)),(iV ((unM a).s)),(aB ((unM a).nx)),(aB ((unM a).ot))]])∧H 12=(bk 1 24 4 [[(iV ((unM b).i)),(iV ((unM b).s)),(aB ((unM b).nx)),(aB ((unM b).ot))]])∧True) ?_ ?_
 ·
  refine aK rfl rfl rfl rfl (aK rfl rfl rfl rfl (bE (aCV ((unM a)) ((unM b))) rfl (eD rfl rfl (eD rfl rfl (eD rfl rfl (aA rfl (aA rfl ?_)))))))
  refine aA rfl ?_
  exact fQ ⟨rfl,rfl,rfl,h2,h3,h8,rfl,rfl,trivial⟩
 intro T H ⟨t4,t5,t6,h2,h3,h8,h10,h12,_⟩
 refine bI ?_
 refine jI t4 t5 t6 (rV ?_ (fun _=>by simp)) (bJ ?_) (aM ?_)
 · rw [(rD hq).1]
 · exact (rD hq).2.1.symm
 · exact (rD hq).2.2.symm
def aSl:List SO:=[
 qF 22 0 2,
 ql 23 22,
 qF 24 0 3,
 ql 25 24,
 qP 26 .neq 23 25,
 qM 27 26,
 ⟨some (27,false),some 28,.fld 1 (.t 2)⟩,
 ⟨some (27,false),some 29,.load false 1 (.t 28)⟩,
 ⟨some (27,false),some 30,.fld 1 (.t 3)⟩,
 ⟨some (27,false),some 31,.load false 1 (.t 30)⟩,
 ⟨some (27,false),some 32,.bin .neq (.t 29) (.t 31)⟩,
 sO 33 (.pick (.t 27) (.c (.bool true)) (.t 32))]
def aQR:List SO:=[
 qL 35 6 2,
 sO 36 (.call false 21 [.t 35]),
 qM 34 36,
 qE 37 34 0,
 qE 38 34 1,
 sO 9 (.alloc 24 [.int .i64 0,.int .i64 0,.nilsl,.nilsl]),
 sN (.store 4 (.t 9) (.t 37)),
 qM 10 38]
def aNy:List SO:=[
 qL 43 6 3,
 sO 44 (.call false 21 [.t 43]),
 qM 42 44,
 qE 45 42 0,
 qE 46 42 1,
 sO 11 (.alloc 24 [.int .i64 0,.int .i64 0,.nilsl,.nilsl]),
 sN (.store 4 (.t 11) (.t 45)),
 qM 10 46]
def aPZ:List SO:=[
 qL 50 4 9,
 qL 51 4 11,
 sO 52 (.call false 42 [.t 50,.t 51]),
 qE 53 52 0,
 qE 54 52 1,
 qE 55 52 2,
 qM 4 53,
 qM 5 54,
 qM 6 55]
def s16:SF:=⟨56,[.tmp 4,.tmp 5,.tmp 6],.seq (.reg [sO 2 (.box 29 6 (.t 0)),sO 3 (.box 29 6 (.t 1)),sO 4 (.mv (.c (.nilsl))),sO 5 (.mv (.c (.bool false))),qI 6 0]) (.seq (.seq (.reg [qL 12 6 2,sO 13 (.call false 26 [.t 12]),qM 7 13]) (.seq (.reg [qM 14 7,qC 15 .neq 14 0]) (.cond (.t 15) (.seq (.reg [qM 16 7,sO 4 (.mv (.c (.nilsl))),sO 5 (.mv (.c (.bool false))),qM 6 16]) (.ret)) (.skip)))) (.seq (.seq (.reg [qL 17 6 3,sO 18 (.call false 26 [.t 17]),qM 8 18]) (.seq (.reg [qM 19 8,qC 20 .neq 19 0]) (.cond (.t 20) (.seq (.reg [qM 21 8,sO 4 (.mv (.c (.nilsl))),sO 5 (.mv (.c (.bool false))),qM 6 21]) (.ret)) (.skip)))) (.seq (.seq (.reg aSl) (.cond (.t 33) (.seq (.reg [sO 4 (.mv (.c (.nilsl))),sO 5 (.mv (.c (.bool false))),qI 6 15]) (.ret)) (.skip))) (.seq (.reg aQR) (.seq (.seq (.reg [qM 39 10,qC 40 .neq 39 0]) (.cond (.t 40) (.seq (.reg [qM 41 10,sO 4 (.mv (.c (.nilsl))),sO 5 (.mv (.c (.bool false))),qM 6 41]) (.ret)) (.skip))) (.seq (.reg aNy) (.seq (.seq (.reg [qM 47 10,qC 48 .neq 47 0]) (.cond (.t 48) (.seq (.reg [qM 49 10,sO 4 (.mv (.c (.nilsl))),sO 5 (.mv (.c (.bool false))),qM 6 49]) (.ret)) (.skip))) (.seq (.reg aPZ) (.ret)))))))))⟩
theorem aOD:aN Tryz.prog ⟨[58,129,130,131,149,155,161,182,183,185,191,192,208,209,210,224,228,231,236],[],[],[]⟩ Tryz.f16=some s16:=by kernel_rfl
def aQ8:List SO:=[
 qF 21 2 1,
 ql 22 21,
 qF 23 1 1,
 ql 24 23,
 sO 25 (.mks 4 1 1 [.bool false] (.t 24) (.t 24)),
 sO 26 (.build [.int .i64 0,.nilsl] [(0,1,.t 22),(1,1,.t 25)]),
 sO 27 (.bslice 95 2 true [.int .i64 0,.nilsl] 1 [(0,.t 26)]),
 qM 5 27]
def aS3:List SO:=[
 qF 28 0 1,
 ql 29 28,
 qF 30 1 1,
 ql 31 30,
 qP 32 .add 29 31,
 sO 33 (.build [.int .i64 0,.int .i64 0,.nilsl,.nilsl] [(0,1,.t 32)]),
 sO 6 (.alloc 24 [.int .i64 0,.int .i64 0,.nilsl,.nilsl]),
 sN (.store 4 (.t 6) (.t 33))]
def aMK:List SO:=[
 qL 46 6 1,
 qM 47 5,
 qM 48 7,
 qA 49 2 47 48,
 qL 50 2 49,
 qM 51 10,
 sO 52 (.call false 45 [.t 46,.t 50,.t 51]),
 sO 53 (.un .not (.t 52))]
def aMM:List SO:=[
 qL 62 6 1,
 qM 63 5,
 qM 64 7,
 qA 65 2 63 64,
 qL 66 2 65,
 qM 67 10,
 sO 68 (.call false 46 [.t 62,.t 66,.t 67]),
 qM 61 68,
 qE 69 61 0,
 qE 70 61 1,
 sO 11 (.alloc 95 [.int .i64 0,.nilsl]),
 sN (.store 2 (.t 11) (.t 69)),
 qM 12 70]
def aNa:List SO:=[
 qF 71 4 1,
 ql 72 71,
 qM 73 5,
 qM 74 7,
 qA 75 2 73 74,
 qF 76 0 75,
 ql 77 76,
 qA 78 1 72 77,
 ql 79 78,
 qM 80 10,
 qA 81 1 79 80,
 ql 82 81,
 qF 83 1 1,
 ql 84 83,
 sO 85 (.call false 47 [.t 84]),
 qP 86 .mul 82 85,
 sO 87 (.bin .add (.c (.int .i64 1)) (.t 86)),
 qM 88 12,
 qP 89 .add 87 88,
 qM 13 89]
def aKL:SC:=.seq (.seq (.reg [qM 40 10,qF 41 0 6,ql 42 41,qP 43 .lss 40 42]) (.cond (.t 43) (.skip) (.exit 2))) (.seq (.block 3 (.seq (.seq (.reg aMK) (.cond (.t 53) (.seq (.reg [qM 54 8,qM 55 7,sO 56 (.bslice 3 1 false [.int .i64 0] 1 [(0,.t 55)]),sO 57 (.append 3 1 8 (.t 54) (.t 56)),qM 8 57]) (.seq (.reg [qM 58 9,sO 59 (.bslice 3 1 false [.int .i64 0] 1 [(0,.c (.int .i64 0))]),sO 60 (.append 3 1 8 (.t 58) (.t 59)),qM 9 60]) (.exit 3))) (.skip))) (.seq (.dreg [11] aMM) (.seq (.reg aNa) (.seq (.seq (.reg [qM 90 13,qC 91 .gtr 90 1048576]) (.cond (.t 91) (.seq (.reg [sO 92 (.build [.int .i64 0,.int .i64 0,.nilsl,.nilsl] []),sN (.store 4 (.t 2) (.t 92)),qI 3 2]) (.ret)) (.skip))) (.seq (.reg [qM 93 5,qL 94 2 11,sO 95 (.call false 48 [.t 93,.t 94]),qM 14 95]) (.seq (.seq (.reg [qM 96 14,qM 97 5,qN 98 97,qP 99 .eql 96 98]) (.cond (.t 99) (.seq (.seq (.reg [qM 100 14,qC 101 .eql 100 128]) (.cond (.t 101) (.seq (.reg [sO 102 (.build [.int .i64 0,.int .i64 0,.nilsl,.nilsl] []),sN (.store 4 (.t 2) (.t 102)),qI 3 11]) (.ret)) (.skip))) (.reg [qM 103 5,qL 104 2 11,sO 105 (.bslice 95 2 false [.int .i64 0,.nilsl] 1 [(0,.t 104)]),sO 106 (.append 95 2 32 (.t 103) (.t 105)),qM 5 106])) (.skip))) (.seq (.reg [qM 107 8,qM 108 14,sO 109 (.bslice 3 1 false [.int .i64 0] 1 [(0,.t 108)]),sO 110 (.append 3 1 8 (.t 107) (.t 109)),qM 8 110]) (.reg [qM 111 9,qM 112 13,sO 113 (.bslice 3 1 false [.int .i64 0] 1 [(0,.t 112)]),sO 114 (.append 3 1 8 (.t 111) (.t 113)),qM 9 114]))))))))) (.reg [qM 44 10,qC 45 .add 44 1,qM 10 45]))
def aMi:List SO:=[
 qF 115 2 6,
 ql 116 115,
 qM 117 8,
 sO 118 (.bslice 38 1 false [.nilsl] 1 [(0,.t 117)]),
 sO 119 (.append 38 1 24 (.t 116) (.t 118)),
 qF 120 2 6,
 sN (.store 1 (.t 120) (.t 119))]
def aNk:List SO:=[
 qF 121 3 6,
 ql 122 121,
 qM 123 9,
 sO 124 (.bslice 38 1 false [.nilsl] 1 [(0,.t 123)]),
 sO 125 (.append 38 1 24 (.t 122) (.t 124)),
 qF 126 3 6,
 sN (.store 1 (.t 126) (.t 125))]
def aKI:SC:=.seq (.seq (.reg [qM 34 7,qM 35 5,qN 36 35,qP 37 .lss 34 36]) (.cond (.t 37) (.skip) (.exit 0))) (.seq (.block 1 (.seq (.reg [sO 8 (.lazy 3 1),sO 9 (.lazy 3 1)]) (.seq (.seq (.reg [qI 10 0]) (.block 2 (.loop aKL))) (.seq (.reg aMi) (.reg aNk))))) (.reg [qM 38 7,qC 39 .add 38 1,qM 7 39]))
def s21:SF:=⟨128,[.cell 2 true 4,.tmp 3],.seq (.reg [sO 1 (.box 29 6 (.t 0)),sO 2 (.alloc 24 [.int .i64 0,.int .i64 0,.nilsl,.nilsl]),qI 3 0]) (.seq (.seq (.reg [qL 15 6 1,sO 16 (.call false 26 [.t 15]),qM 4 16]) (.seq (.reg [qM 17 4,qC 18 .neq 17 0]) (.cond (.t 18) (.seq (.reg [sO 19 (.build [.int .i64 0,.int .i64 0,.nilsl,.nilsl] []),qM 20 4,sN (.store 4 (.t 2) (.t 19)),qM 3 20]) (.ret)) (.skip)))) (.seq (.dreg [25] aQ8) (.seq (.reg aS3) (.seq (.seq (.reg [qI 7 0]) (.block 0 (.loop aKI))) (.seq (.reg [qL 127 4 6,sN (.store 4 (.t 2) (.t 127)),qI 3 0]) (.ret))))))⟩
theorem aN3:aN Tryz.prog ⟨[58,129,130,131,149,155,161,182,183,185,191,192,208,209,210,224,228,231,236],[8,9,27],[],[]⟩ Tryz.f21=some s21:=by kernel_rfl
def aTu:List SO:=[
 qF 7 0 1,
 ql 8 7,
 qC 9 .lss 8 1,
 qM 10 9,
 ⟨some (10,false),some 11,.fld 0 (.t 1)⟩,
 ⟨some (10,false),some 12,.load false 1 (.t 11)⟩,
 ⟨some (10,false),some 13,.bin .gtr (.t 12) (.c (.int .i64 64))⟩,
 sO 14 (.pick (.t 10) (.c (.bool true)) (.t 13)),
 qM 15 14,
 ⟨some (15,false),some 16,.fld 1 (.t 1)⟩,
 ⟨some (15,false),some 17,.load false 1 (.t 16)⟩,
 ⟨some (15,false),some 18,.bin .lss (.t 17) (.c (.int .i64 0))⟩,
 sO 19 (.pick (.t 15) (.c (.bool true)) (.t 18)),
 qM 20 19,
 ⟨some (20,false),some 21,.fld 1 (.t 1)⟩,
 ⟨some (20,false),some 22,.load false 1 (.t 21)⟩,
 ⟨some (20,false),some 23,.bin .gtr (.t 22) (.c (.int .i64 4))⟩,
 sO 24 (.pick (.t 20) (.c (.bool true)) (.t 23))]
def aL0:List SO:=[
 qF 40 2 1,
 ql 41 40,
 qC 42 .lss 41 0,
 qM 43 42,
 ⟨some (43,false),some 44,.fld 2 (.t 1)⟩,
 ⟨some (43,false),some 45,.load false 1 (.t 44)⟩,
 ⟨some (43,false),some 46,.fld 3 (.t 1)⟩,
 ⟨some (43,false),some 47,.load false 1 (.t 46)⟩,
 ⟨some (43,false),some 48,.len (.t 47)⟩,
 ⟨some (43,false),some 49,.bin .geq (.t 45) (.t 48)⟩,
 sO 50 (.pick (.t 43) (.c (.bool true)) (.t 49))]
def aMv:List SO:=[
 qF 51 4 1,
 ql 52 51,
 qN 53 52,
 qF 54 3 1,
 ql 55 54,
 qN 56 55,
 qP 57 .neq 53 56,
 qM 58 57,
 ⟨some (58,false),some 59,.fld 5 (.t 1)⟩,
 ⟨some (58,false),some 60,.load false 1 (.t 59)⟩,
 ⟨some (58,false),some 61,.len (.t 60)⟩,
 ⟨some (58,false),some 62,.fld 3 (.t 1)⟩,
 ⟨some (58,false),some 63,.load false 1 (.t 62)⟩,
 ⟨some (58,false),some 64,.len (.t 63)⟩,
 ⟨some (58,false),some 65,.bin .neq (.t 61) (.t 64)⟩,
 sO 66 (.pick (.t 58) (.c (.bool true)) (.t 65))]
def aM4:List SO:=[
 qF 74 3 1,
 ql 75 74,
 qM 76 4,
 qA 77 1 75 76,
 ql 78 77,
 qN 79 78,
 qM 80 3,
 qP 81 .neq 79 80,
 qM 82 81,
 ⟨some (82,false),some 83,.fld 4 (.t 1)⟩,
 ⟨some (82,false),some 84,.load false 1 (.t 83)⟩,
 ⟨some (82,false),some 85,.mv (.t 4)⟩,
 ⟨some (82,false),some 86,.idx 1 (.t 84) (.t 85)⟩,
 ⟨some (82,false),some 87,.load false 1 (.t 86)⟩,
 ⟨some (82,false),some 88,.len (.t 87)⟩,
 ⟨some (82,false),some 89,.mv (.t 3)⟩,
 ⟨some (82,false),some 90,.bin .neq (.t 88) (.t 89)⟩,
 sO 91 (.pick (.t 82) (.c (.bool true)) (.t 90)),
 qM 92 91,
 ⟨some (92,false),some 93,.fld 5 (.t 1)⟩,
 ⟨some (92,false),some 94,.load false 1 (.t 93)⟩,
 ⟨some (92,false),some 95,.mv (.t 4)⟩,
 ⟨some (92,false),some 96,.idx 1 (.t 94) (.t 95)⟩,
 ⟨some (92,false),some 97,.load false 1 (.t 96)⟩,
 ⟨some (92,false),some 98,.len (.t 97)⟩,
 ⟨some (92,false),some 99,.mv (.t 3)⟩,
 ⟨some (92,false),some 100,.bin .neq (.t 98) (.t 99)⟩,
 sO 101 (.pick (.t 92) (.c (.bool true)) (.t 100))]
def aK9:SC:=.seq (.seq (.reg [qM 102 5,qM 103 3,qP 104 .lss 102 103]) (.cond (.t 104) (.skip) (.exit 2))) (.seq (.block 3 (.seq (.reg [qL 107 6 1,qM 108 4,qM 109 5,sO 110 (.call false 54 [.t 107,.t 108,.t 109]),qM 6 110]) (.seq (.reg [qM 111 6,qC 112 .neq 111 0]) (.cond (.t 112) (.seq (.reg [qM 113 6,qM 2 113]) (.ret)) (.skip))))) (.reg [qM 105 5,qC 106 .add 105 1,qM 5 106]))
def aLb:SC:=.seq (.seq (.reg [qM 67 4,qF 68 3 1,ql 69 68,qN 70 69,qP 71 .lss 67 70]) (.cond (.t 71) (.skip) (.exit 0))) (.seq (.block 1 (.seq (.seq (.reg aM4) (.cond (.t 101) (.seq (.reg [qI 2 1]) (.ret)) (.skip))) (.seq (.reg [qI 5 0]) (.block 2 (.loop aK9))))) (.reg [qM 72 4,qC 73 .add 72 1,qM 4 73]))
def s26:SF:=⟨114,[.tmp 2],.seq (.reg [sO 1 (.box 29 6 (.t 0)),qI 2 0]) (.seq (.seq (.reg aTu) (.cond (.t 24) (.seq (.reg [qI 2 2]) (.ret)) (.skip))) (.seq (.reg [qF 25 0 1,ql 26 25,qF 27 1 1,ql 28 27,qP 29 .add 26 28,qM 3 29]) (.seq (.seq (.reg [qM 30 3,qC 31 .gtr 30 64]) (.cond (.t 31) (.seq (.reg [qI 2 11]) (.ret)) (.skip))) (.seq (.seq (.reg [qF 32 3 1,ql 33 32,qN 34 33,qC 35 .eql 34 0]) (.cond (.t 35) (.seq (.reg [qI 2 19]) (.ret)) (.skip))) (.seq (.seq (.reg [qF 36 3 1,ql 37 36,qN 38 37,qC 39 .gtr 38 128]) (.cond (.t 39) (.seq (.reg [qI 2 11]) (.ret)) (.skip))) (.seq (.seq (.reg aL0) (.cond (.t 50) (.seq (.reg [qI 2 2]) (.ret)) (.skip))) (.seq (.seq (.reg aMv) (.cond (.t 66) (.seq (.reg [qI 2 1]) (.ret)) (.skip))) (.seq (.seq (.reg [qI 4 0]) (.block 0 (.loop aLb))) (.seq (.reg [qI 2 0]) (.ret))))))))))⟩
theorem aMf:aN Tryz.prog ⟨[58,129,130,131,149,155,161,182,183,185,191,192,208,209,210,224,228,231,236],[],[],[]⟩ Tryz.f26=some s26:=by kernel_rfl
def aS8:List SO:=[
 qF 8 5 3,
 ql 9 8,
 qM 10 1,
 qA 11 1 9 10,
 ql 12 11,
 qM 13 2,
 qA 14 2 12 13,
 qL 15 2 14,
 sO 7 (.alloc 73 [.int .i64 0,.int .i64 0]),
 sN (.store 2 (.t 7) (.t 15))]
def aSp:List SO:=[
 qF 16 3 3,
 ql 17 16,
 qM 18 1,
 qA 19 1 17 18,
 ql 20 19,
 qM 21 2,
 qA 22 1 20 21,
 ql 23 22,
 qC 24 .lss 23 0,
 qM 25 24,
 ⟨some (25,false),some 26,.fld 3 (.t 3)⟩,
 ⟨some (25,false),some 27,.load false 1 (.t 26)⟩,
 ⟨some (25,false),some 28,.mv (.t 1)⟩,
 ⟨some (25,false),some 29,.idx 1 (.t 27) (.t 28)⟩,
 ⟨some (25,false),some 30,.load false 1 (.t 29)⟩,
 ⟨some (25,false),some 31,.mv (.t 2)⟩,
 ⟨some (25,false),some 32,.idx 1 (.t 30) (.t 31)⟩,
 ⟨some (25,false),some 33,.load false 1 (.t 32)⟩,
 ⟨some (25,false),some 34,.fld 3 (.t 3)⟩,
 ⟨some (25,false),some 35,.load false 1 (.t 34)⟩,
 ⟨some (25,false),some 36,.len (.t 35)⟩,
 ⟨some (25,false),some 37,.bin .geq (.t 33) (.t 36)⟩,
 sO 38 (.pick (.t 25) (.c (.bool true)) (.t 37)),
 qM 39 38,
 ⟨some (39,false),some 40,.fld 4 (.t 3)⟩,
 ⟨some (39,false),some 41,.load false 1 (.t 40)⟩,
 ⟨some (39,false),some 42,.mv (.t 1)⟩,
 ⟨some (39,false),some 43,.idx 1 (.t 41) (.t 42)⟩,
 ⟨some (39,false),some 44,.load false 1 (.t 43)⟩,
 ⟨some (39,false),some 45,.mv (.t 2)⟩,
 ⟨some (39,false),some 46,.idx 1 (.t 44) (.t 45)⟩,
 ⟨some (39,false),some 47,.load false 1 (.t 46)⟩,
 ⟨some (39,false),some 48,.bin .lss (.t 47) (.c (.int .i64 0))⟩,
 sO 49 (.pick (.t 39) (.c (.bool true)) (.t 48)),
 qM 50 49,
 ⟨some (50,false),some 51,.fld 4 (.t 3)⟩,
 ⟨some (50,false),some 52,.load false 1 (.t 51)⟩,
 ⟨some (50,false),some 53,.mv (.t 1)⟩,
 ⟨some (50,false),some 54,.idx 1 (.t 52) (.t 53)⟩,
 ⟨some (50,false),some 55,.load false 1 (.t 54)⟩,
 ⟨some (50,false),some 56,.mv (.t 2)⟩,
 ⟨some (50,false),some 57,.idx 1 (.t 55) (.t 56)⟩,
 ⟨some (50,false),some 58,.load false 1 (.t 57)⟩,
 ⟨some (50,false),some 59,.bin .gtr (.t 58) (.c (.int .i64 1048576))⟩,
 sO 60 (.pick (.t 50) (.c (.bool true)) (.t 59))]
def aTj:List SO:=[
 qF 61 0 7,
 ql 62 61,
 sO 63 (.bin .lss (.t 62) (.c (.int .i64 (-1)))),
 qM 64 63,
 ⟨some (64,false),some 65,.fld 0 (.t 7)⟩,
 ⟨some (64,false),some 66,.load false 1 (.t 65)⟩,
 ⟨some (64,false),some 67,.fld 1 (.t 3)⟩,
 ⟨some (64,false),some 68,.load false 1 (.t 67)⟩,
 ⟨some (64,false),some 69,.bin .geq (.t 66) (.t 68)⟩,
 sO 70 (.pick (.t 64) (.c (.bool true)) (.t 69)),
 qM 71 70,
 ⟨some (71,false),some 72,.fld 1 (.t 7)⟩,
 ⟨some (71,false),some 73,.load false 1 (.t 72)⟩,
 ⟨some (71,false),some 74,.bin .lss (.t 73) (.c (.int .i64 0))⟩,
 sO 75 (.pick (.t 71) (.c (.bool true)) (.t 74)),
 qM 76 75,
 ⟨some (76,false),some 77,.fld 1 (.t 7)⟩,
 ⟨some (76,false),some 78,.load false 1 (.t 77)⟩,
 ⟨some (76,false),some 79,.bin .gtr (.t 78) (.c (.int .i64 1000))⟩,
 sO 80 (.pick (.t 76) (.c (.bool true)) (.t 79))]
def aSX:List SO:=[
 qF 81 0 7,
 ql 82 81,
 sO 83 (.bin .eql (.t 82) (.c (.int .i64 (-1)))),
 qM 84 83,
 ⟨some (84,true),some 85,.fld 1 (.t 7)⟩,
 ⟨some (84,true),some 86,.load false 1 (.t 85)⟩,
 ⟨some (84,true),some 87,.bin .neq (.t 86) (.c (.int .i64 0))⟩,
 sO 88 (.pick (.t 84) (.t 87) (.c (.bool false)))]
def s54:SF:=⟨89,[.tmp 6],.seq (.reg [sO 3 (.box 29 6 (.t 0)),qI 6 0]) (.seq (.reg aS8) (.seq (.seq (.reg aSp) (.cond (.t 60) (.seq (.reg [qI 6 2]) (.ret)) (.skip))) (.seq (.seq (.reg aTj) (.cond (.t 80) (.seq (.reg [qI 6 2]) (.ret)) (.skip))) (.seq (.seq (.reg aSX) (.cond (.t 88) (.seq (.reg [qI 6 1]) (.ret)) (.skip))) (.seq (.reg [qI 6 0]) (.ret))))))⟩
theorem aMh:aN Tryz.prog ⟨[58,129,130,131,149,155,161,182,183,185,191,192,208,209,210,224,228,231,236],[],[],[]⟩ Tryz.f54=some s54:=by kernel_rfl
theorem aEH (t:TM) (s i:Nat) (hs:s < t.nx.length∧s < t.ot.length∧s < t.st.length) (hi:i < (nth t.nx s).length∧i < (nth t.ot s).length∧i < (nth t.st s).length):aZ Tryz.prog 54 [(V.agg [(iV (t.i)),(iV (t.tm)),(iV (t.s)),(aB t.nx),(aB t.ot),(V.sl (List.map cSr (t.st)))]),(iV ((s:Nat):Int)),(iV ((i:Nat):Int))] (iV (lR t s i)):=by
 refine pW Tryz.func54 aMh fun hB=>?_
 unfold s54
 dsimp only
 refine W_r (dK (i:=3) (n:=0) (m:=6) (cs:=[(iV (t.i)),(iV (t.tm)),(iV (t.s)),(aB t.nx),(aB t.ot),(V.sl (List.map cSr (t.st)))]) rfl (congrArg Blk.ver rfl) rfl rfl rfl (aA rfl (R_e (W_r (aO rfl rfl (aK rfl rfl rfl rfl (aA rfl ?_)))))))
 refine bK (i:=s) (@rfl V (V.sl (List.map cSr (t.st)))) (@rfl V (iV ((s:Nat):Int))) (by omega) rfl (aJ rfl rfl (aA rfl (bK (i:=i) (@rfl V (V.sl (List.map cSg ((nth (t.st) (s)))))) (@rfl V (iV ((i:Nat):Int))) (by omega) rfl (aJ rfl rfl (dG (i:=7) (n:=0) (m:=2) rfl (congrArg Blk.ver rfl) rfl (lL rfl rfl rfl rfl rfl rfl rfl rfl rfl (R_e ?_)))))))
 refine aC ?_
 refine eQ (fun T H=>T 3=(V.mp 3 1 0 0)∧T 7=(V.mp 7 1 0 0)∧T 60=(V.bool (decide ((((((nth ((nth (t.nx) (s))) (i))) < (0:Int))∨(((t.nx.length:Nat):Int)≤((nth ((nth (t.nx) (s))) (i)))))∨(((nth ((nth (t.ot) (s))) (i))) < (0:Int)))∨((1048576:Int) < ((nth ((nth (t.ot) (s))) (i)))))))∧H 3=(bk 1 29 6 [[(iV (t.i)),(iV (t.tm)),(iV (t.s)),(aB t.nx),(aB t.ot),(V.sl (List.map cSr (t.st)))]])∧H 7=(bk 1 73 2 [[(iV (((nth ((nth (t.st) (s))) (i))).1)),(iV (((nth ((nth (t.st) (s))) (i))).2))]])∧True) ?_ ?_
 ·
  refine aO rfl rfl (aK rfl rfl rfl rfl (aA rfl (bK (i:=s) (@rfl V (aB t.nx)) (@rfl V (iV ((s:Nat):Int))) (by omega) rfl (aJ rfl rfl (aA rfl (bK (i:=i) (@rfl V (aY ((nth (t.nx) (s))))) (@rfl V (iV ((i:Nat):Int))) (by omega) rfl (aJ rfl rfl ?_)))))))
  refine bQ rfl rfl (aA rfl ?_)
  refine aV 13 (fun T H=>T 1=(iV ((s:Nat):Int))∧T 2=(iV ((i:Nat):Int))∧T 3=(V.mp 3 1 0 0)∧T 7=(V.mp 7 1 0 0)∧T 38=(V.bool (decide ((((nth ((nth (t.nx) (s))) (i))) < (0:Int))∨(((t.nx.length:Nat):Int)≤((nth ((nth (t.nx) (s))) (i)))))))∧H 3=(bk 1 29 6 [[(iV (t.i)),(iV (t.tm)),(iV (t.s)),(aB t.nx),(aB t.ot),(V.sl (List.map cSr (t.st)))]])∧H 7=(bk 1 73 2 [[(iV (((nth ((nth (t.st) (s))) (i))).1)),(iV (((nth ((nth (t.st) (s))) (i))).2))]])∧True) ?_ ?_
  ·
   by_cases g1:((nth ((nth (t.nx) (s))) (i))) < (0:Int)
   ·
    refine G_n (edT g1 rfl) (G_n (edT g1 rfl) (G_n (edT g1 rfl) (G_n (edT g1 rfl) (G_n (edT g1 rfl) (G_n (edT g1 rfl) (G_n (edT g1 rfl) (G_n (edT g1 rfl) ?_)))))))
    refine G_n (edT g1 rfl) (G_n (edT g1 rfl) (G_n (edT g1 rfl) (G_n (edT g1 rfl) (aW (edT g1 rfl) rfl ?_))))
    exact ⟨rfl,rfl,rfl,rfl,(bN g1),rfl,rfl,trivial⟩
   ·
    refine aD (edF g1 rfl) (aO rfl rfl (aD (edF g1 rfl) (aK rfl rfl rfl rfl (aD (edF g1 rfl) (aA rfl (aD (edF g1 rfl) (bK (i:=s) (@rfl V (aB t.nx)) (@rfl V (iV ((s:Nat):Int))) (by omega) rfl ?_)))))))
    refine aD (edF g1 rfl) (aJ rfl rfl (aD (edF g1 rfl) (aA rfl (aD (edF g1 rfl) (bK (i:=i) (@rfl V (aY ((nth (t.nx) (s))))) (@rfl V (iV ((i:Nat):Int))) (by omega) rfl (aD (edF g1 rfl) (aJ rfl rfl ?_)))))))
    refine aD (edF g1 rfl) (aO rfl rfl (aD (edF g1 rfl) (aK rfl rfl rfl rfl (aD (edF g1 rfl) (bO rfl (aD (edF g1 rfl) (jV rfl rfl ?_)))))))
    refine aU (edF g1 rfl) rfl ?_
    exact ⟨rfl,rfl,rfl,rfl,(bM g1),rfl,rfl,trivial⟩
  intro T H ⟨t1,t2,t3,t7,t38,h3,h7,_⟩
  refine aA t38 ?_
  refine aV 10 (fun T H=>T 1=(iV ((s:Nat):Int))∧T 2=(iV ((i:Nat):Int))∧T 3=(V.mp 3 1 0 0)∧T 7=(V.mp 7 1 0 0)∧T 49=(V.bool (decide (((((nth ((nth (t.nx) (s))) (i))) < (0:Int))∨(((t.nx.length:Nat):Int)≤((nth ((nth (t.nx) (s))) (i)))))∨(((nth ((nth (t.ot) (s))) (i))) < (0:Int)))))∧H 3=(bk 1 29 6 [[(iV (t.i)),(iV (t.tm)),(iV (t.s)),(aB t.nx),(aB t.ot),(V.sl (List.map cSr (t.st)))]])∧H 7=(bk 1 73 2 [[(iV (((nth ((nth (t.st) (s))) (i))).1)),(iV (((nth ((nth (t.st) (s))) (i))).2))]])∧True) ?_ ?_
  ·
   by_cases g2:(((nth ((nth (t.nx) (s))) (i))) < (0:Int))∨(((t.nx.length:Nat):Int)≤((nth ((nth (t.nx) (s))) (i))))
   ·
    refine G_n (edT g2 rfl) (G_n (edT g2 rfl) (G_n (edT g2 rfl) (G_n (edT g2 rfl) (G_n (edT g2 rfl) (G_n (edT g2 rfl) (G_n (edT g2 rfl) (G_n (edT g2 rfl) ?_)))))))
    refine G_n (edT g2 rfl) (aW (edT g2 rfl) rfl ?_)
    exact ⟨t1,t2,t3,t7,(bN g2),h3,h7,trivial⟩
   ·
    refine aD (edF g2 rfl) (aO t3 h3 (aD (edF g2 rfl) (aK rfl h3 rfl rfl (aD (edF g2 rfl) (aA t1 (aD (edF g2 rfl) (bK (i:=s) (@rfl V (aB t.ot)) (@rfl V (iV ((s:Nat):Int))) (by omega) rfl ?_)))))))
    refine aD (edF g2 rfl) (aJ rfl rfl (aD (edF g2 rfl) (aA t2 (aD (edF g2 rfl) (bK (i:=i) (@rfl V (aY ((nth (t.ot) (s))))) (@rfl V (iV ((i:Nat):Int))) (by omega) rfl (aD (edF g2 rfl) (aJ rfl rfl ?_)))))))
    refine aD (edF g2 rfl) (bQ rfl rfl (aU (edF g2 rfl) rfl ?_))
    exact ⟨t1,t2,t3,t7,(bM g2),h3,h7,trivial⟩
  intro T H ⟨t1,t2,t3,t7,t49,h3,h7,_⟩
  refine aA t49 ?_
  refine aV 10 (fun T H=>T 3=(V.mp 3 1 0 0)∧T 7=(V.mp 7 1 0 0)∧T 60=(V.bool (decide ((((((nth ((nth (t.nx) (s))) (i))) < (0:Int))∨(((t.nx.length:Nat):Int)≤((nth ((nth (t.nx) (s))) (i)))))∨(((nth ((nth (t.ot) (s))) (i))) < (0:Int)))∨((1048576:Int) < ((nth ((nth (t.ot) (s))) (i)))))))∧H 3=(bk 1 29 6 [[(iV (t.i)),(iV (t.tm)),(iV (t.s)),(aB t.nx),(aB t.ot),(V.sl (List.map cSr (t.st)))]])∧H 7=(bk 1 73 2 [[(iV (((nth ((nth (t.st) (s))) (i))).1)),(iV (((nth ((nth (t.st) (s))) (i))).2))]])∧True) ?_ ?_
  ·
   by_cases g3:((((nth ((nth (t.nx) (s))) (i))) < (0:Int))∨(((t.nx.length:Nat):Int)≤((nth ((nth (t.nx) (s))) (i)))))∨(((nth ((nth (t.ot) (s))) (i))) < (0:Int))
   ·
    refine G_n (edT g3 rfl) (G_n (edT g3 rfl) (G_n (edT g3 rfl) (G_n (edT g3 rfl) (G_n (edT g3 rfl) (G_n (edT g3 rfl) (G_n (edT g3 rfl) (G_n (edT g3 rfl) ?_)))))))
    refine G_n (edT g3 rfl) (aW (edT g3 rfl) rfl ?_)
    exact ⟨t3,t7,(bN g3),h3,h7,trivial⟩
   ·
    refine aD (edF g3 rfl) (aO t3 h3 (aD (edF g3 rfl) (aK rfl h3 rfl rfl (aD (edF g3 rfl) (aA t1 (aD (edF g3 rfl) (bK (i:=s) (@rfl V (aB t.ot)) (@rfl V (iV ((s:Nat):Int))) (by omega) rfl ?_)))))))
    refine aD (edF g3 rfl) (aJ rfl rfl (aD (edF g3 rfl) (aA t2 (aD (edF g3 rfl) (bK (i:=i) (@rfl V (aY ((nth (t.ot) (s))))) (@rfl V (iV ((i:Nat):Int))) (by omega) rfl (aD (edF g3 rfl) (aJ rfl rfl ?_)))))))
    refine aD (edF g3 rfl) (fP rfl rfl (aU (edF g3 rfl) rfl ?_))
    exact ⟨t3,t7,(bM g3),h3,h7,trivial⟩
  intro T H ⟨t3,t7,t60,h3,h7,_⟩
  exact fQ ⟨t3,t7,t60,h3,h7,trivial⟩
 intro T H ⟨t3,t7,t60,h3,h7,_⟩
 refine aL t60 (fun c4=>?_) fun c4=>?_
 ·
  refine aC (W_r (aA rfl (R_e (aR ?_))))
  refine bB (@rfl V (iV (2:Int))) (aM ?_)
  · unfold lR tSt; rw [if_pos (by omega)]
 refine aG (aC (W_r (aO t7 h7 (aK rfl h7 rfl rfl (bQ rfl rfl (aA rfl ?_))))))
 refine aV 6 (fun T H=>T 7=(V.mp 7 1 0 0)∧T 70=(V.bool (decide (((((nth ((nth (t.st) (s))) (i))).1) < (-1:Int))∨((t.tm)≤(((nth ((nth (t.st) (s))) (i))).1)))))∧H 3=(bk 1 29 6 [[(iV (t.i)),(iV (t.tm)),(iV (t.s)),(aB t.nx),(aB t.ot),(V.sl (List.map cSr (t.st)))]])∧H 7=(bk 1 73 2 [[(iV (((nth ((nth (t.st) (s))) (i))).1)),(iV (((nth ((nth (t.st) (s))) (i))).2))]])∧True) ?_ ?_
 ·
  by_cases g5:(((nth ((nth (t.st) (s))) (i))).1) < (-1:Int)
  ·
   refine G_n (edT g5 rfl) (G_n (edT g5 rfl) (G_n (edT g5 rfl) (G_n (edT g5 rfl) (G_n (edT g5 rfl) (aW (edT g5 rfl) rfl ?_)))))
   exact ⟨t7,(bN g5),h3,h7,trivial⟩
  ·
   refine aD (edF g5 rfl) (aO t7 h7 (aD (edF g5 rfl) (aK rfl h7 rfl rfl (aD (edF g5 rfl) (aO t3 h3 (aD (edF g5 rfl) (aK rfl h3 rfl rfl ?_)))))))
   refine aD (edF g5 rfl) (jV rfl rfl (aU (edF g5 rfl) rfl ?_))
   exact ⟨t7,(bM g5),h3,h7,trivial⟩
 intro T H ⟨t7,t70,h3,h7,_⟩
 refine aA t70 ?_
 refine aV 4 (fun T H=>T 7=(V.mp 7 1 0 0)∧T 75=(V.bool (decide ((((((nth ((nth (t.st) (s))) (i))).1) < (-1:Int))∨((t.tm)≤(((nth ((nth (t.st) (s))) (i))).1)))∨((((nth ((nth (t.st) (s))) (i))).2) < (0:Int)))))∧H 3=(bk 1 29 6 [[(iV (t.i)),(iV (t.tm)),(iV (t.s)),(aB t.nx),(aB t.ot),(V.sl (List.map cSr (t.st)))]])∧H 7=(bk 1 73 2 [[(iV (((nth ((nth (t.st) (s))) (i))).1)),(iV (((nth ((nth (t.st) (s))) (i))).2))]])∧True) ?_ ?_
 ·
  by_cases g6:((((nth ((nth (t.st) (s))) (i))).1) < (-1:Int))∨((t.tm)≤(((nth ((nth (t.st) (s))) (i))).1))
  ·
   refine G_n (edT g6 rfl) (G_n (edT g6 rfl) (G_n (edT g6 rfl) (aW (edT g6 rfl) rfl ?_)))
   exact ⟨t7,(bN g6),h3,h7,trivial⟩
  ·
   refine aD (edF g6 rfl) (aO t7 h7 (aD (edF g6 rfl) (aK rfl h7 rfl rfl (aD (edF g6 rfl) (bQ rfl rfl (aU (edF g6 rfl) rfl ?_))))))
   exact ⟨t7,(bM g6),h3,h7,trivial⟩
 intro T H ⟨t7,t75,h3,h7,_⟩
 refine aA t75 ?_
 refine aV 4 (fun T H=>T 7=(V.mp 7 1 0 0)∧T 80=(V.bool (decide (((((((nth ((nth (t.st) (s))) (i))).1) < (-1:Int))∨((t.tm)≤(((nth ((nth (t.st) (s))) (i))).1)))∨((((nth ((nth (t.st) (s))) (i))).2) < (0:Int)))∨((1000:Int) < (((nth ((nth (t.st) (s))) (i))).2)))))∧H 3=(bk 1 29 6 [[(iV (t.i)),(iV (t.tm)),(iV (t.s)),(aB t.nx),(aB t.ot),(V.sl (List.map cSr (t.st)))]])∧H 7=(bk 1 73 2 [[(iV (((nth ((nth (t.st) (s))) (i))).1)),(iV (((nth ((nth (t.st) (s))) (i))).2))]])∧True) ?_ ?_
 ·
  by_cases g7:(((((nth ((nth (t.st) (s))) (i))).1) < (-1:Int))∨((t.tm)≤(((nth ((nth (t.st) (s))) (i))).1)))∨((((nth ((nth (t.st) (s))) (i))).2) < (0:Int))
  ·
   refine G_n (edT g7 rfl) (G_n (edT g7 rfl) (G_n (edT g7 rfl) (aW (edT g7 rfl) rfl ?_)))
   exact ⟨t7,(bN g7),h3,h7,trivial⟩
  ·
   refine aD (edF g7 rfl) (aO t7 h7 (aD (edF g7 rfl) (aK rfl h7 rfl rfl (aD (edF g7 rfl) (fP rfl rfl (aU (edF g7 rfl) rfl ?_))))))
   exact ⟨t7,(bM g7),h3,h7,trivial⟩
 intro T H ⟨t7,t80,h3,h7,_⟩
 refine R_e ?_
 refine aL t80 (fun c8=>?_) fun c8=>?_
 ·
  refine aC (W_r (aA rfl (R_e (aR ?_))))
  refine bB (@rfl V (iV (2:Int))) (aM ?_)
  · unfold lR tSt; rw [if_neg (by omega),if_pos (by omega)]
 refine aG (aC (W_r (aO t7 h7 (aK rfl h7 rfl rfl (gU rfl rfl (aA rfl ?_))))))
 refine aV 4 (fun T H=>T 88=(V.bool (decide (((((nth ((nth (t.st) (s))) (i))).1)=(-1:Int))∧((((nth ((nth (t.st) (s))) (i))).2)≠(0:Int)))))∧H 3=(bk 1 29 6 [[(iV (t.i)),(iV (t.tm)),(iV (t.s)),(aB t.nx),(aB t.ot),(V.sl (List.map cSr (t.st)))]])∧H 7=(bk 1 73 2 [[(iV (((nth ((nth (t.st) (s))) (i))).1)),(iV (((nth ((nth (t.st) (s))) (i))).2))]])∧True) ?_ ?_
 ·
  by_cases g9:(((nth ((nth (t.st) (s))) (i))).1)=(-1:Int)
  ·
   refine aD (edT g9 rfl) (aO t7 h7 (aD (edT g9 rfl) (aK rfl h7 rfl rfl (aD (edT g9 rfl) (cG rfl rfl (aW (edT g9 rfl) rfl ?_))))))
   exact ⟨(jC g9),h3,h7,trivial⟩
  ·
   refine G_n (edF g9 rfl) (G_n (edF g9 rfl) (G_n (edF g9 rfl) (aU (edF g9 rfl) rfl ?_)))
   exact ⟨(iZ g9),h3,h7,trivial⟩
 intro T H ⟨t88,h3,h7,_⟩
 refine R_e ?_
 refine aL t88 (fun c10=>?_) fun c10=>?_
 ·
  refine aC (W_r (aA rfl (R_e (aR ?_))))
  refine bB (@rfl V (iV (1:Int))) (aM ?_)
  · unfold lR tSt; rw [if_neg (by omega),if_neg (by omega),if_pos (by assumption)]
 refine aG (W_r (aA rfl (R_e (bI ?_))))
 refine bB (@rfl V (iV (0:Int))) (aM ?_)
 · unfold lR tSt; rw [if_neg (by omega),if_neg (by omega),if_neg (by assumption)]
theorem lK (t:TM):aZ Tryz.prog 26 [(V.agg [(iV (t.i)),(iV (t.tm)),(iV (t.s)),(aB t.nx),(aB t.ot),(V.sl (List.map cSr (t.st)))])] (iV (dP t)):=by
 refine pW Tryz.func26 aMf fun hB=>?_
 unfold s26
 dsimp only
 refine W_r (dK (i:=1) (n:=0) (m:=6) (cs:=[(iV (t.i)),(iV (t.tm)),(iV (t.s)),(aB t.nx),(aB t.ot),(V.sl (List.map cSr (t.st)))]) rfl (congrArg Blk.ver rfl) rfl rfl rfl (aA rfl (R_e (aC (W_r (aO rfl rfl (aK rfl rfl rfl rfl ?_)))))))
 refine bQ rfl rfl (aA rfl ?_)
 refine aV 4 (fun T H=>T 1=(V.mp 1 1 0 0)∧T 14=(V.bool (decide (((t.i) < (1:Int))∨((64:Int) < (t.i)))))∧H 1=(bk 1 29 6 [[(iV (t.i)),(iV (t.tm)),(iV (t.s)),(aB t.nx),(aB t.ot),(V.sl (List.map cSr (t.st)))]])∧True) ?_ ?_
 ·
  by_cases g1:(t.i) < (1:Int)
  ·
   refine G_n (edT g1 rfl) (G_n (edT g1 rfl) (G_n (edT g1 rfl) (aW (edT g1 rfl) rfl ?_)))
   exact ⟨rfl,(bN g1),rfl,trivial⟩
  ·
   refine aD (edF g1 rfl) (aO rfl rfl (aD (edF g1 rfl) (aK rfl rfl rfl rfl (aD (edF g1 rfl) (fP rfl rfl (aU (edF g1 rfl) rfl ?_))))))
   exact ⟨rfl,(bM g1),rfl,trivial⟩
 intro T H ⟨t1,t14,h1,_⟩
 refine aA t14 ?_
 refine aV 4 (fun T H=>T 1=(V.mp 1 1 0 0)∧T 19=(V.bool (decide ((((t.i) < (1:Int))∨((64:Int) < (t.i)))∨((t.tm) < (0:Int)))))∧H 1=(bk 1 29 6 [[(iV (t.i)),(iV (t.tm)),(iV (t.s)),(aB t.nx),(aB t.ot),(V.sl (List.map cSr (t.st)))]])∧True) ?_ ?_
 ·
  by_cases g2:((t.i) < (1:Int))∨((64:Int) < (t.i))
  ·
   refine G_n (edT g2 rfl) (G_n (edT g2 rfl) (G_n (edT g2 rfl) (aW (edT g2 rfl) rfl ?_)))
   exact ⟨t1,(bN g2),h1,trivial⟩
  ·
   refine aD (edF g2 rfl) (aO t1 h1 (aD (edF g2 rfl) (aK rfl h1 rfl rfl (aD (edF g2 rfl) (bQ rfl rfl (aU (edF g2 rfl) rfl ?_))))))
   exact ⟨t1,(bM g2),h1,trivial⟩
 intro T H ⟨t1,t19,h1,_⟩
 refine aA t19 ?_
 refine aV 4 (fun T H=>T 1=(V.mp 1 1 0 0)∧T 24=(V.bool (decide (((((t.i) < (1:Int))∨((64:Int) < (t.i)))∨((t.tm) < (0:Int)))∨((4:Int) < (t.tm)))))∧H 1=(bk 1 29 6 [[(iV (t.i)),(iV (t.tm)),(iV (t.s)),(aB t.nx),(aB t.ot),(V.sl (List.map cSr (t.st)))]])∧True) ?_ ?_
 ·
  by_cases g3:(((t.i) < (1:Int))∨((64:Int) < (t.i)))∨((t.tm) < (0:Int))
  ·
   refine G_n (edT g3 rfl) (G_n (edT g3 rfl) (G_n (edT g3 rfl) (aW (edT g3 rfl) rfl ?_)))
   exact ⟨t1,(bN g3),h1,trivial⟩
  ·
   refine aD (edF g3 rfl) (aO t1 h1 (aD (edF g3 rfl) (aK rfl h1 rfl rfl (aD (edF g3 rfl) (fP rfl rfl (aU (edF g3 rfl) rfl ?_))))))
   exact ⟨t1,(bM g3),h1,trivial⟩
 intro T H ⟨t1,t24,h1,_⟩
 refine R_e ?_
 refine aL t24 (fun c4=>?_) fun c4=>?_
 ·
  refine aC (W_r (aA rfl (R_e (aR ?_))))
  refine bB (@rfl V (iV (2:Int))) (aM ?_)
  · rw [dP,if_pos (by omega)]
 refine aG (W_r (aO t1 h1 (aK rfl h1 rfl rfl (aO t1 h1 (aK rfl h1 rfl rfl (jB rfl rfl (by omega) (by omega) (aA rfl ?_)))))))
 refine R_e (aC (W_r (aA rfl (fP rfl rfl (R_e ?_)))))
 refine aL rfl (fun c5=>?_) fun c5=>?_
 ·
  refine aC (W_r (aA rfl (R_e (aR ?_))))
  refine bB (@rfl V (iV (11:Int))) (aM ?_)
  · rw [dP,if_neg (by omega),if_pos (by omega)]
 refine aG (aC (W_r (aO t1 h1 (aK rfl h1 rfl rfl (bO rfl (gU rfl rfl (R_e ?_)))))))
 refine aL rfl (fun c6=>?_) fun c6=>?_
 ·
  refine aC (W_r (aA rfl (R_e (aR ?_))))
  refine bB (@rfl V (iV (19:Int))) (aM ?_)
  · rw [dP,if_neg (by omega),if_neg (by omega),if_pos (by omega)]
 refine aG (aC (W_r (aO t1 h1 (aK rfl h1 rfl rfl (bO rfl (fP rfl rfl (R_e ?_)))))))
 refine aL rfl (fun c7=>?_) fun c7=>?_
 ·
  refine aC (W_r (aA rfl (R_e (aR ?_))))
  refine bB (@rfl V (iV (11:Int))) (aM ?_)
  · rw [dP,if_neg (by omega),if_neg (by omega),if_neg (by omega),if_pos (by omega)]
 refine aG (aC ?_)
 refine eQ (fun T H=>T 1=(V.mp 1 1 0 0)∧T 3=(iV ((t.i)+(t.tm)))∧T 50=(V.bool (decide (((t.s) < (0:Int))∨(((t.nx.length:Nat):Int)≤(t.s)))))∧H 1=(bk 1 29 6 [[(iV (t.i)),(iV (t.tm)),(iV (t.s)),(aB t.nx),(aB t.ot),(V.sl (List.map cSr (t.st)))]])∧True) ?_ ?_
 ·
  refine aO t1 h1 (aK rfl h1 rfl rfl (bQ rfl rfl (aA rfl ?_)))
  refine aV 7 (fun T H=>T 1=(V.mp 1 1 0 0)∧T 3=(iV ((t.i)+(t.tm)))∧T 50=(V.bool (decide (((t.s) < (0:Int))∨(((t.nx.length:Nat):Int)≤(t.s)))))∧H 1=(bk 1 29 6 [[(iV (t.i)),(iV (t.tm)),(iV (t.s)),(aB t.nx),(aB t.ot),(V.sl (List.map cSr (t.st)))]])∧True) ?_ ?_
  ·
   by_cases g8:(t.s) < (0:Int)
   ·
    refine G_n (edT g8 rfl) (G_n (edT g8 rfl) (G_n (edT g8 rfl) (G_n (edT g8 rfl) (G_n (edT g8 rfl) (G_n (edT g8 rfl) (aW (edT g8 rfl) rfl ?_))))))
    exact ⟨t1,rfl,(bN g8),h1,trivial⟩
   ·
    refine aD (edF g8 rfl) (aO t1 h1 (aD (edF g8 rfl) (aK rfl h1 rfl rfl (aD (edF g8 rfl) (aO t1 h1 (aD (edF g8 rfl) (aK rfl h1 rfl rfl ?_)))))))
    refine aD (edF g8 rfl) (bO rfl (aD (edF g8 rfl) (jV rfl rfl (aU (edF g8 rfl) rfl ?_))))
    exact ⟨t1,rfl,(bM g8),h1,trivial⟩
  intro T H ⟨t1,t3,t50,h1,_⟩
  exact fQ ⟨t1,t3,t50,h1,trivial⟩
 intro T H ⟨t1,t3,t50,h1,_⟩
 refine aL t50 (fun c9=>?_) fun c9=>?_
 ·
  refine aC (W_r (aA rfl (R_e (aR ?_))))
  refine bB (@rfl V (iV (2:Int))) (aM ?_)
  · rw [dP,if_neg (by omega),if_neg (by omega),if_neg (by omega),if_neg (by omega),if_pos (by omega)]
 refine aG (aC (W_r (aO t1 h1 (aK rfl h1 rfl rfl (bO rfl (aO t1 h1 (aK rfl h1 rfl rfl ?_)))))))
 refine bO rfl (cG rfl rfl (aA rfl ?_))
 refine aV 8 (fun T H=>T 1=(V.mp 1 1 0 0)∧T 3=(iV ((t.i)+(t.tm)))∧T 66=(V.bool (decide ((((t.ot.length:Nat):Int)≠((t.nx.length:Nat):Int))∨(((t.st.length:Nat):Int)≠((t.nx.length:Nat):Int)))))∧H 1=(bk 1 29 6 [[(iV (t.i)),(iV (t.tm)),(iV (t.s)),(aB t.nx),(aB t.ot),(V.sl (List.map cSr (t.st)))]])∧True) ?_ ?_
 ·
  by_cases g10:((t.ot.length:Nat):Int)≠((t.nx.length:Nat):Int)
  ·
   refine G_n (edT g10 rfl) (G_n (edT g10 rfl) (G_n (edT g10 rfl) (G_n (edT g10 rfl) (G_n (edT g10 rfl) (G_n (edT g10 rfl) (G_n (edT g10 rfl) (aW (edT g10 rfl) rfl ?_)))))))
   exact ⟨t1,t3,(bN g10),h1,trivial⟩
  ·
   refine aD (edF g10 rfl) (aO t1 h1 (aD (edF g10 rfl) (aK rfl h1 rfl rfl (aD (edF g10 rfl) (bO rfl (aD (edF g10 rfl) (aO t1 h1 ?_)))))))
   refine aD (edF g10 rfl) (aK rfl h1 rfl rfl (aD (edF g10 rfl) (bO rfl (aD (edF g10 rfl) (cG rfl rfl (aU (edF g10 rfl) rfl ?_))))))
   exact ⟨t1,t3,(bM g10),h1,trivial⟩
 intro T H ⟨t1,t3,t66,h1,_⟩
 refine R_e ?_
 refine aL t66 (fun c11=>?_) fun c11=>?_
 ·
  refine aC (W_r (aA rfl (R_e (aR ?_))))
  refine bB (@rfl V (iV (1:Int))) (aM ?_)
  · rw [dP,if_neg (by omega),if_neg (by omega),if_neg (by omega),if_neg (by omega),if_neg (by omega),if_pos (by omega)]
 refine aG (aC (W_r (aA rfl (R_e (aI fun Q12 n12 x12 y12 z12=>?_)))))
 refine cP (fun mm T H=> ∃ (k:Nat),mm=t.nx.length - k∧T 1=(V.mp 1 1 0 0)∧T 3=(iV ((t.i)+(t.tm)))∧T 4=(iV ((k:Nat):Int))∧H 1=(bk 1 29 6 [[(iV (t.i)),(iV (t.tm)),(iV (t.s)),(aB t.nx),(aB t.ot),(V.sl (List.map cSr (t.st)))]])∧(k≤t.nx.length)∧(1≤t.i∧t.i≤64∧0≤t.tm∧t.tm≤4∧t.i+t.tm≤64∧0 < t.nx.length∧t.nx.length≤128∧t.ot.length=t.nx.length∧t.st.length=t.nx.length)∧(dP t=fe (qU t) k (t.nx.length - k))) ?_ ?_
 ·
  refine ⟨_,0,rfl,t1,t3,(Eq.trans (@rfl V (iV (0:Int))) rfl),h1,?_,?_,?_⟩
  · exact Nat.zero_le _
  · omega
  · rw [dP,if_neg (by omega),if_neg (by omega),if_neg (by omega),if_neg (by omega),if_neg (by omega),if_neg (by omega)]; rfl
 intro mm T H ⟨k,hmm,t1,t3,t4,h1,hk,hv,hc⟩ Q13 p113 p213 p313
 unfold aLb
 refine aC (W_r (aA t4 (aO t1 h1 (aK rfl h1 rfl rfl (bO rfl (bQ rfl rfl (R_e ?_)))))))
 refine aL rfl (fun c14=>?_) fun c14=>?_
 ·
  refine aG (aI fun Q15 n15 x15 y15 z15=>(aC (W_r (aO t1 h1 (aK rfl h1 rfl rfl (aA t4 (bK (i:=k) (@rfl V (aB t.nx)) (@rfl V (iV ((k:Nat):Int))) (by omega) rfl ?_)))))))
  refine aJ rfl rfl (bO rfl (aA t3 (cG rfl rfl (aA rfl ?_))))
  refine aV 9 (fun T H=>T 1=(V.mp 1 1 0 0)∧T 3=(iV ((t.i)+(t.tm)))∧T 4=(iV ((k:Nat):Int))∧T 91=(V.bool (decide ((((((nth (t.nx) (k))).length:Nat):Int)≠((t.i)+(t.tm)))∨(((((nth (t.ot) (k))).length:Nat):Int)≠((t.i)+(t.tm))))))∧H 1=(bk 1 29 6 [[(iV (t.i)),(iV (t.tm)),(iV (t.s)),(aB t.nx),(aB t.ot),(V.sl (List.map cSr (t.st)))]])∧True) ?_ ?_
  ·
   by_cases g16:((((nth (t.nx) (k))).length:Nat):Int)≠((t.i)+(t.tm))
   ·
    refine G_n (edT g16 rfl) (G_n (edT g16 rfl) (G_n (edT g16 rfl) (G_n (edT g16 rfl) (G_n (edT g16 rfl) (G_n (edT g16 rfl) (G_n (edT g16 rfl) (G_n (edT g16 rfl) ?_)))))))
    refine aW (edT g16 rfl) rfl ?_
    exact ⟨t1,t3,t4,(bN g16),h1,trivial⟩
   ·
    refine aD (edF g16 rfl) (aO t1 h1 (aD (edF g16 rfl) (aK rfl h1 rfl rfl (aD (edF g16 rfl) (aA t4 (aD (edF g16 rfl) (bK (i:=k) (@rfl V (aB t.ot)) (@rfl V (iV ((k:Nat):Int))) (by omega) rfl ?_)))))))
    refine aD (edF g16 rfl) (aJ rfl rfl (aD (edF g16 rfl) (bO rfl (aD (edF g16 rfl) (aA t3 (aD (edF g16 rfl) (cG rfl rfl ?_)))))))
    refine aU (edF g16 rfl) rfl ?_
    exact ⟨t1,t3,t4,(bM g16),h1,trivial⟩
  intro T H ⟨t1,t3,t4,t91,h1,_⟩
  refine aA t91 ?_
  refine aV 9 (fun T H=>T 1=(V.mp 1 1 0 0)∧T 3=(iV ((t.i)+(t.tm)))∧T 4=(iV ((k:Nat):Int))∧T 101=(V.bool (decide (((((((nth (t.nx) (k))).length:Nat):Int)≠((t.i)+(t.tm)))∨(((((nth (t.ot) (k))).length:Nat):Int)≠((t.i)+(t.tm))))∨(((((nth (t.st) (k))).length:Nat):Int)≠((t.i)+(t.tm))))))∧H 1=(bk 1 29 6 [[(iV (t.i)),(iV (t.tm)),(iV (t.s)),(aB t.nx),(aB t.ot),(V.sl (List.map cSr (t.st)))]])∧True) ?_ ?_
  ·
   by_cases g17:(((((nth (t.nx) (k))).length:Nat):Int)≠((t.i)+(t.tm)))∨(((((nth (t.ot) (k))).length:Nat):Int)≠((t.i)+(t.tm)))
   ·
    refine G_n (edT g17 rfl) (G_n (edT g17 rfl) (G_n (edT g17 rfl) (G_n (edT g17 rfl) (G_n (edT g17 rfl) (G_n (edT g17 rfl) (G_n (edT g17 rfl) (G_n (edT g17 rfl) ?_)))))))
    refine aW (edT g17 rfl) rfl ?_
    exact ⟨t1,t3,t4,(bN g17),h1,trivial⟩
   ·
    refine aD (edF g17 rfl) (aO t1 h1 (aD (edF g17 rfl) (aK rfl h1 rfl rfl (aD (edF g17 rfl) (aA t4 (aD (edF g17 rfl) (bK (i:=k) (@rfl V (V.sl (List.map cSr (t.st)))) (@rfl V (iV ((k:Nat):Int))) (by omega) rfl ?_)))))))
    refine aD (edF g17 rfl) (aJ rfl rfl (aD (edF g17 rfl) (bO rfl (aD (edF g17 rfl) (aA t3 (aD (edF g17 rfl) (cG rfl rfl ?_)))))))
    refine aU (edF g17 rfl) rfl ?_
    exact ⟨t1,t3,t4,(bM g17),h1,trivial⟩
  intro T H ⟨t1,t3,t4,t101,h1,_⟩
  refine R_e ?_
  refine aL t101 (fun c18=>?_) fun c18=>?_
  ·
   refine aC (W_r (aA rfl (R_e (aR (y15 _ _ (p213 _ _ (y12 _ _ ?_)))))))
   refine bB (@rfl V (iV (1:Int))) (aM ?_)
   · rw [hc,iA (by rw [qU,if_pos (by omega)]; decide) (by omega),qU,if_pos (by omega)]
  refine aG (W_r (aA rfl (R_e (pE fun Q19 n19 x19 y19 z19=>?_))))
  refine cP (fun mm T H=> ∃ (i:Nat),mm=(t.i+t.tm).toNat - i∧T 1=(V.mp 1 1 0 0)∧T 3=(iV ((t.i)+(t.tm)))∧T 4=(iV ((k:Nat):Int))∧T 5=(iV ((i:Nat):Int))∧H 1=(bk 1 29 6 [[(iV (t.i)),(iV (t.tm)),(iV (t.s)),(aB t.nx),(aB t.ot),(V.sl (List.map cSr (t.st)))]])∧(i≤(t.i+t.tm).toNat)∧(((nth t.nx k).length:Int)=t.i+t.tm∧((nth t.ot k).length:Int)=t.i+t.tm∧((nth t.st k).length:Int)=t.i+t.tm)∧(qU t k=fe (lR t k) i ((t.i+t.tm).toNat - i))) ?_ ?_
  ·
   refine ⟨_,0,rfl,t1,t3,t4,(Eq.trans (@rfl V (iV (0:Int))) rfl),h1,?_,?_,?_⟩
   · exact Nat.zero_le _
   · omega
   · rw [qU,if_neg (by omega)]; rfl
  intro mm T H ⟨i,hmm,t1,t3,t4,t5,h1,hi,hl,hr⟩ Q20 p120 p220 p320
  unfold aK9
  refine aC (W_r (aA t5 (aA t3 (bQ rfl rfl (R_e ?_)))))
  refine aL rfl (fun c21=>?_) fun c21=>?_
  ·
   refine aG (aI fun Q22 n22 x22 y22 z22=>(W_r (aK t1 h1 rfl rfl (aA t4 (aA t5 (bE (aEH t k i (by omega) (by omega)) rfl (aA rfl ?_)))))))
   refine R_e (W_r (aA rfl (cG rfl rfl (R_e ?_))))
   refine fO rfl (fun c23=>?_) fun c23=>?_
   ·
    refine W_r (aA rfl (aA rfl (R_e (bI (y22 _ _ (p220 _ _ (y19 _ _ ?_)))))))
    refine y15 _ _ (p213 _ _ (y12 _ _ ?_))
    refine bB (@rfl V (iV (lR t k i))) (aM ?_)
    · rw [hc,iA (by rw [hr,iA (by omega) (by omega)]; omega) (by omega),hr,iA (by omega) (by omega)]
   refine dC (n22 _ _ (.done (W_t (aA t5 (bS rfl (@rfl V (iV ((1:Nat):Int))) (by omega) (aA rfl (R_e ?_)))))))
   refine p120 _ _ _ ?_ ⟨(i+1),rfl,t1,t3,t4,(Eq.trans (@rfl V (iV ((i+1:Nat):Int))) (by first|rfl|simp)),h1,?_,?_,?_⟩
   · omega
   · omega
   · exact hl
   · rw [hr,jQ (by omega) (by omega)]
  refine aT (p320 _ _ _ (x19 _ _ (n15 _ _ (.done (W_t (aA t4 (bS rfl (@rfl V (iV ((1:Nat):Int))) (by omega) ?_)))))))
  refine aA rfl (R_e ?_)
  refine p113 _ _ _ ?_ ⟨(k+1),rfl,t1,t3,(Eq.trans (@rfl V (iV ((k+1:Nat):Int))) (by first|rfl|simp)),h1,?_,?_,?_⟩
  · omega
  · omega
  · exact hv
  · rw [hc,jQ (by rw [hr,lT (by omega)]) (by omega)]
 refine aT (p313 _ _ _ (x12 _ _ (.done (W_r (aA rfl (R_e (bI ?_)))))))
 refine bB (@rfl V (iV (0:Int))) (aM ?_)
 · rw [hc,lT (by omega)]
def aRm:List SO:=[
 qM 7 2,
 qF 8 0 3,
 ql 9 8,
 qP 10 .lss 7 9,
 qM 11 10,
 ⟨some (11,false),some 12,.fld 1 (.t 4)⟩,
 ⟨some (11,false),some 13,.load false 1 (.t 12)⟩,
 ⟨some (11,false),some 14,.mv (.t 2)⟩,
 ⟨some (11,false),some 15,.fld 0 (.t 3)⟩,
 ⟨some (11,false),some 16,.load false 1 (.t 15)⟩,
 ⟨some (11,false),some 17,.bin .sub (.t 14) (.t 16)⟩,
 ⟨some (11,false),some 18,.idx 1 (.t 13) (.t 17)⟩,
 ⟨some (11,false),some 19,.load false 1 (.t 18)⟩,
 sO 20 (.pick (.t 11) (.c (.bool true)) (.t 19)),
 qM 6 20]
def s45:SF:=⟨21,[.tmp 6],.seq (.reg [sO 3 (.box 29 6 (.t 0)),sO 4 (.box 95 2 (.t 1)),sO 6 (.mv (.c (.bool false)))]) (.seq (.reg aRm) (.ret))⟩
theorem aM5:aN Tryz.prog ⟨[58,129,130,131,149,155,161,182,183,185,191,192,208,209,210,224,228,231,236],[],[],[]⟩ Tryz.f45=some s45:=by kernel_rfl
theorem aE2 (t:TM) (c:Cf) (i:Nat) (ht:TOK t) (hc:tA t c) (hj:(i:Int) < t.i+t.tm):aZ Tryz.prog 45 [(V.agg [(iV (t.i)),(iV (t.tm)),(iV (t.s)),(aB t.nx),(aB t.ot),(V.sl (List.map cSr (t.st)))]),(V.agg [(iV (c.1)),(V.sl (List.map cB (c.2)))]),(iV ((i:Nat):Int))] (V.bool (psB t c i)):=by
 refine pW Tryz.func45 aM5 fun hB=>?_
 unfold s45
 dsimp only
 obtain ⟨h1,h2,h3,h4,h5,_⟩:=ht
 have h6:=hc.2.2
 refine W_r (dK (i:=3) (n:=0) (m:=6) (cs:=[(iV (t.i)),(iV (t.tm)),(iV (t.s)),(aB t.nx),(aB t.ot),(V.sl (List.map cSr (t.st)))]) rfl (congrArg Blk.ver rfl) rfl rfl rfl (dK (i:=4) (n:=0) (m:=2) (cs:=[(iV (c.1)),(V.sl (List.map cB (c.2)))]) rfl (congrArg Blk.ver rfl) rfl rfl rfl (aA rfl (R_e (W_r (aA rfl (aO rfl rfl ?_)))))))
 refine aK rfl rfl rfl rfl (bQ rfl rfl (aA rfl ?_))
 refine aV 9 (fun T H=>T 20=(V.bool ((decide (((i:Nat):Int) < (t.i))||((nth (c.2) (((i:Nat):Int) - (t.i)).toNat)))))∧H 3=(bk 1 29 6 [[(iV (t.i)),(iV (t.tm)),(iV (t.s)),(aB t.nx),(aB t.ot),(V.sl (List.map cSr (t.st)))]])∧H 4=(bk 1 95 2 [[(iV (c.1)),(V.sl (List.map cB (c.2)))]])∧True) ?_ ?_
 ·
  by_cases g1:((i:Nat):Int) < (t.i)
  ·
   refine G_n (edT g1 rfl) (G_n (edT g1 rfl) (G_n (edT g1 rfl) (G_n (edT g1 rfl) (G_n (edT g1 rfl) (G_n (edT g1 rfl) (G_n (edT g1 rfl) (G_n (edT g1 rfl) ?_)))))))
   refine aW (edT g1 rfl) rfl ?_
   exact ⟨(aDh g1),rfl,rfl,trivial⟩
  ·
   refine aD (edF g1 rfl) (aO rfl rfl (aD (edF g1 rfl) (aK rfl rfl rfl rfl (aD (edF g1 rfl) (aA rfl (aD (edF g1 rfl) (aO rfl rfl ?_)))))))
   refine aD (edF g1 rfl) (aK rfl rfl rfl rfl (aD (edF g1 rfl) (vI rfl rfl (by omega) (by omega) (aD (edF g1 rfl) (fY (i:=(((i:Nat):Int) - (t.i))) (@rfl V (V.sl (List.map cB (c.2)))) (@rfl V (iV (((i:Nat):Int) - (t.i)))) (by omega) (by omega) rfl (aD (edF g1 rfl) (aJ rfl rfl ?_)))))))
   refine aU (edF g1 rfl) rfl ?_
   exact ⟨(aC5 g1),rfl,rfl,trivial⟩
 intro T H ⟨t20,h3,h4,_⟩
 refine aA t20 (R_e (bI ?_))
 refine bB (@rfl V (V.bool ((decide (((i:Nat):Int) < (t.i))||((nth (c.2) (((i:Nat):Int) - (t.i)).toNat)))))) (bJ ?_)
 · first|rfl|simp [psB]
def aSF:List SO:=[
 qF 10 3 3,
 ql 11 10,
 qF 12 0 4,
 ql 13 12,
 qA 14 1 11 13,
 ql 15 14,
 qM 16 2,
 qA 17 1 15 16,
 ql 18 17,
 qF 19 1 4,
 ql 20 19,
 sO 21 (.callA 79 [.t 20]),
 sO 22 (.build [.int .i64 0,.nilsl] [(0,1,.t 18),(1,1,.t 21)]),
 sO 8 (.alloc 95 [.int .i64 0,.nilsl]),
 sN (.store 2 (.t 8) (.t 22))]
def aTb:List SO:=[
 qF 27 1 8,
 ql 28 27,
 qM 29 2,
 qF 30 0 3,
 ql 31 30,
 qP 32 .sub 29 31,
 qA 33 1 28 32,
 sN (.store 1 (.t 33) (.c (.bool false)))]
def aQP:List SO:=[
 qF 34 5 3,
 ql 35 34,
 qF 36 0 4,
 ql 37 36,
 qA 38 1 35 37,
 ql 39 38,
 qM 40 2,
 qA 41 2 39 40,
 qL 42 2 41,
 sO 9 (.alloc 73 [.int .i64 0,.int .i64 0]),
 sN (.store 2 (.t 9) (.t 42))]
def aRr:List SO:=[
 qF 43 0 9,
 ql 44 43,
 qC 45 .lss 44 0,
 qM 46 45,
 ⟨some (46,false),some 47,.fld 1 (.t 9)⟩,
 ⟨some (46,false),some 48,.load false 1 (.t 47)⟩,
 ⟨some (46,false),some 49,.bin .eql (.t 48) (.c (.int .i64 0))⟩,
 ⟨some (46,false),some 50,.mv (.t 49)⟩,
 ⟨some (50,true),some 51,.fld 1 (.t 8)⟩,
 ⟨some (50,true),some 52,.load false 1 (.t 51)⟩,
 ⟨some (50,true),some 53,.fld 0 (.t 9)⟩,
 ⟨some (50,true),some 54,.load false 1 (.t 53)⟩,
 ⟨some (50,true),some 55,.idx 1 (.t 52) (.t 54)⟩,
 ⟨some (50,true),some 56,.load false 1 (.t 55)⟩,
 ⟨some (50,true),some 57,.un .not (.t 56)⟩,
 ⟨some (46,false),some 58,.pick (.t 50) (.t 57) (.c (.bool false))⟩,
 sO 59 (.pick (.t 46) (.c (.bool true)) (.t 58))]
def aRW:List SO:=[
 qF 61 1 8,
 ql 62 61,
 qF 63 0 9,
 ql 64 63,
 qF 65 1 9,
 ql 66 65,
 qC 67 .gtr 66 0,
 qA 68 1 62 64,
 sN (.store 1 (.t 68) (.t 67))]
def aKV:List SO:=[
 qL 69 2 8,
 qF 70 0 9,
 ql 71 70,
 qC 72 .mul 71 1001,
 sO 73 (.bin .add (.c (.int .i64 1)) (.t 72)),
 qF 74 1 9,
 ql 75 74,
 qP 76 .add 73 75,
 sN (.store 2 (.t 6) (.t 69)),
 qM 7 76]
def s46:SF:=⟨77,[.cell 6 true 2,.tmp 7],.seq (.reg [sO 3 (.box 29 6 (.t 0)),sO 4 (.box 95 2 (.t 1)),sO 6 (.alloc 95 [.int .i64 0,.nilsl]),qI 7 0]) (.seq (.dreg [21,8] aSF) (.seq (.seq (.reg [qM 23 2,qF 24 0 3,ql 25 24,qP 26 .geq 23 25]) (.cond (.t 26) (.reg aTb) (.skip))) (.seq (.reg aQP) (.seq (.seq (.reg aRr) (.cond (.t 59) (.seq (.reg [qL 60 2 8,sN (.store 2 (.t 6) (.t 60)),qI 7 0]) (.ret)) (.skip))) (.seq (.reg aRW) (.seq (.xreg [(70,1,6,2),(74,1,6,2)] aKV) (.ret)))))))⟩
theorem aOp:aN Tryz.prog ⟨[58,129,130,131,149,155,161,182,183,185,191,192,208,209,210,224,228,231,236],[21],[],[]⟩ Tryz.f46=some s46:=by kernel_rfl
def aSc:List SO:=[
 qM 14 3,
 qM 15 4,
 qM 16 0,
 qM 17 4,
 qA 18 1 16 17,
 ql 19 18,
 qA 20 1 14 15,
 sN (.store 1 (.t 20) (.t 19))]
def aLf:SC:=.seq (.seq (.reg [qM 8 4,qM 9 0,qN 10 9,qP 11 .lss 8 10]) (.cond (.t 11) (.skip) (.exit 0))) (.seq (.block 1 (.reg aSc)) (.reg [qM 12 4,qC 13 .add 12 1,qM 4 13]))
def s79:SF:=⟨22,[.tmp 2],.seq (.reg [sO 2 (.mv (.c (.nilsl)))]) (.seq (.reg [qM 5 0,qN 6 5,sO 7 (.mks 4 1 1 [.bool false] (.t 6) (.t 6)),qM 3 7]) (.seq (.seq (.reg [qI 4 0]) (.block 0 (.loop aLf))) (.seq (.reg [qM 21 3,qM 2 21]) (.ret))))⟩
theorem aQr:aN Tryz.prog ⟨[58,129,130,131,149,155,161,182,183,185,191,192,208,209,210,224,228,231,236],[],[],[]⟩ Tryz.f79=some s79:=by kernel_rfl
end Go.Proofs.YtilfohjlglefjaaGreat
namespace Go.Proofs.YtilfohjlglefjaaGreat
open Go Go.Proofs
attribute [local irreducible] tY
theorem aTP (i:Nat) (h7:7≤i) (l:List Bool) (u:Nat) (Hi:aH) (hq:(Hi i).ver=u) (hl:l.length≤1073741824):dM Tryz.prog 79 [(V.sl (List.map cB (l)))] Hi (V.ms i (u+1) 0 (l.length)) (upd Hi i (bk (u+1) 4 1 (List.map cB (l)))):=by
 refine eW (k0:=i - 7) Tryz.func79 aQr fun hB=>?_
 unfold s79
 dsimp only
 refine W_r (aA rfl (R_e (W_r (aA rfl (bO rfl ?_)))))
 refine (aKW (i:=i) (n:=u) (m:=l.length) (q:=l.length) (by omega) hq (@rfl V (iV ((l.length:Nat):Int))) (@rfl V (iV ((l.length:Nat):Int))) (by first|omega|(rw [jG]; omega)) (by first|omega|(rw [jG]; omega)) (by first|omega|(rw [jG]; omega)) ?_)
 refine aA rfl (R_e (aC (W_r (aA rfl (R_e (aI fun Q1 n1 x1 y1 z1=>?_))))))
 refine cP (fun mm T H=> ∃ (k:Nat),mm=l.length - k∧T 0=(V.sl (List.map cB (l)))∧T 3=(V.ms i (u+1) 0 (l.length))∧T 4=(iV ((k:Nat):Int))∧(∀ j,j∉[i]→H j=Hi j)∧H i=(bk (u+1) 4 1 (List.map cB (nG (nth l) false l.length k)))∧(k≤l.length)) ?_ ?_
 ·
  refine ⟨_,0,rfl,rfl,rfl,(Eq.trans (@rfl V (iV (0:Int))) rfl),(eT (fun _ _=>rfl) (by simp)),(Eq.trans (aE _ _ _) (by first|rfl|(rw [← aCJ,List.map_replicate]; rfl)|(rw [← yX (f:=nth l) (z:=false) (n:=l.length) (j:=k) (by omega)]; first|done|rfl|(rw [List.map_set]; rfl))|(rw [e9]; done)|(rw [e9]; rfl)|simp)),?_⟩
  · exact Nat.zero_le _
 intro mm T H ⟨k,hmm,t0,t3,t4,hF,hi,hk⟩ Q2 p12 p22 p32
 unfold aLf
 refine aC (W_r (aA t4 (aA t0 (bO rfl (bQ rfl rfl (R_e ?_))))))
 refine aL rfl (fun c3=>?_) fun c3=>?_
 ·
  refine aG (aI fun Q4 n4 x4 y4 z4=>(W_t (aA t3 (aA t4 (aA t0 (aA t4 (bK (i:=k) (@rfl V (V.sl (List.map cB (l)))) (@rfl V (iV ((k:Nat):Int))) (by first|omega|(rw [jG]; omega)) rfl ?_)))))))
  refine aJ rfl rfl (bW (i:=k) (@rfl V (V.ms i (u+1) 0 (l.length))) (@rfl V (iV ((k:Nat):Int))) hi oB rfl (by first|omega|(rw [jG]; omega)) (cF (vs:=[(V.bool ((nth (l) (k))))]) (B':=(bk (u+1) 4 1 (List.map cB ((nG (nth l) false l.length k).set k ((nth (l) (k))))))) rfl rfl rfl hi (jS (x:=((nth (l) (k)))) (i:=k) (by first|omega|(rw [jG]; omega)) rfl rfl rfl rfl) (R_e (n4 _ _ (.done (W_t (aA t4 ?_)))))))
  refine bS rfl (@rfl V (iV ((1:Nat):Int))) (by first|omega|(rw [jG]; omega)) (aA rfl (R_e ?_))
  refine p12 _ _ _ ?_ ⟨(k+1),rfl,t0,t3,(Eq.trans (@rfl V (iV ((k+1:Nat):Int))) (by first|rfl|simp)),(eT hF (by simp)),(Eq.trans (aE _ _ _) (by first|rfl|(rw [← aCJ,List.map_replicate]; rfl)|(rw [← yX (f:=nth l) (z:=false) (n:=l.length) (j:=k) (by omega)]; first|done|rfl|(rw [List.map_set]; rfl))|(rw [e9]; done)|(rw [e9]; rfl)|simp)),?_⟩
  · omega
  · omega
 have e9:nG (nth l) false l.length k=l:=aF5 (by omega)
 refine aT (p32 _ _ _ (x1 _ _ (.done (W_r (aA t3 (aA rfl (R_e ?_)))))))
 refine bI (cZ (R:=fun T H=>T 2=(V.ms i (u+1) 0 (l.length))∧(∀ j,j∉[i]→H j=Hi j)∧H i=(bk (u+1) 4 1 (List.map cB (nG (nth l) false l.length k)))∧True) ⟨(@rfl V (V.ms i (u+1) 0 (l.length))),hF,hi,trivial⟩ ?_)
 intro T H ⟨t2,hF,hi,_⟩
 have fh:=fA.fin (fA.put (B:=(bk (u+1) 4 1 (List.map cB (l)))) (fA.start hF) hi (jL.eq (by first|rfl|(rw [← aCJ,List.map_replicate]; rfl)|(rw [← yX (f:=nth l) (z:=false) (n:=l.length) (j:=k) (by omega)]; first|done|rfl|(rw [List.map_set]; rfl))|(rw [e9]; done)|(rw [e9]; rfl)|simp)))
 exact jN t2 fh (fG.trans_eq (fG.same fh _) rfl)
end Go.Proofs.YtilfohjlglefjaaGreat
namespace Go.Proofs.YtilfohjlglefjaaGreat
open Go Go.Proofs
theorem aCs (t:TM) (c:Cf) (i:Nat) (ht:TOK t) (hc:tA t c) (hj:(i:Int) < t.i+t.tm) (hp:psB t c i=true):aZ Tryz.prog 46 [(V.agg [(iV (t.i)),(iV (t.tm)),(iV (t.s)),(aB t.nx),(aB t.ot),(V.sl (List.map cSr (t.st)))]),(V.agg [(iV (c.1)),(V.sl (List.map cB (c.2)))]),(iV ((i:Nat):Int))] (V.tup [(V.agg [(iV ((afT t c i).1)),(V.sl (List.map cB ((afT t c i).2)))]),(iV (afC t c i))]):=by
 refine pW Tryz.func46 aOp fun hB=>?_
 unfold s46
 dsimp only
 obtain ⟨h1,h2,h3,h4,h5,h6,h7,h8,h9,h10,h11,h12⟩:=ht
 have hc1:=hc.1
 have hc2:=hc.2.1
 have hc3:=hc.2.2
 have hr:=h12 c.1.toNat (by omega)
 have hx:=hr.2.2.2 i hj
 unfold tSt at hx
 have l0:=cE (t:=t) (c:=c) (i:=i)
 refine W_r (dK (i:=3) (n:=0) (m:=6) (cs:=[(iV (t.i)),(iV (t.tm)),(iV (t.s)),(aB t.nx),(aB t.ot),(V.sl (List.map cSr (t.st)))]) rfl (congrArg Blk.ver rfl) rfl rfl rfl (dK (i:=4) (n:=0) (m:=2) (cs:=[(iV (c.1)),(V.sl (List.map cB (c.2)))]) rfl (congrArg Blk.ver rfl) rfl rfl rfl (dG (i:=6) (n:=0) (m:=2) rfl (congrArg Blk.ver rfl) rfl (aA rfl (R_e (W_d (by exact (uD rfl (uD rfl yQ))) (aO rfl rfl ?_)))))))
 refine aK rfl rfl rfl rfl (aO rfl rfl (aK rfl rfl rfl rfl (fY (i:=(c.1)) (@rfl V (aB t.nx)) (@rfl V (iV (c.1))) (by first|omega|(rw [cE]; omega)) (by first|omega|(rw [cE]; omega)) rfl (aJ rfl rfl (aA rfl (bK (i:=i) (@rfl V (aY ((nth (t.nx) (c.1).toNat)))) (@rfl V (iV ((i:Nat):Int))) (by first|omega|(rw [cE]; omega)) rfl (aJ rfl rfl ?_)))))))
 refine aO rfl rfl (aK rfl rfl rfl rfl (aJH (i:=21) (n:=0) (B:=(bk 1 4 1 (List.map cB (c.2)))) rfl (congrArg Blk.ver rfl) (cW rfl gT) rfl (fun H2 h2=>aTP 21 (by decide) c.2 0 H2 h2 (by omega)) (dS rfl rfl (dG (i:=8) (n:=0) (m:=2) rfl (congrArg Blk.ver rfl) rfl (lL rfl rfl rfl rfl rfl rfl rfl rfl rfl (R_e (aC ?_)))))))
 refine W_r (aA rfl (aO rfl rfl (aK rfl rfl rfl rfl (jV rfl rfl (R_e ?_)))))
 refine pL (fun T H=>T 2=(iV ((i:Nat):Int))∧T 3=(V.mp 3 1 0 0)∧T 4=(V.mp 4 1 0 0)∧T 6=(V.mp 6 1 0 0)∧T 8=(V.mp 8 1 0 0)∧H 3=(bk 1 29 6 [[(iV (t.i)),(iV (t.tm)),(iV (t.s)),(aB t.nx),(aB t.ot),(V.sl (List.map cSr (t.st)))]])∧H 4=(bk 1 95 2 [[(iV (c.1)),(V.sl (List.map cB (c.2)))]])∧H 6=(bk 1 95 2 [[(iV (0:Int)),V.nilsl]])∧H 8=(bk 1 95 2 [[(iV ((nth ((nth (t.nx) (c.1).toNat)) (i)))),(V.ms 21 1 0 (c.2.length))]])∧H 9=(⟨0,false,false,0,0,[]⟩:Blk)∧H 21=(bk 1 4 1 (List.map cB (af0 t c i)))∧True) (fun Q1 n1 y1 z1=>?_) ?_
 ·
  refine fO rfl (fun c2=>?_) fun c2=>?_
  ·
   have e2:c.2.set (((i:Nat):Int) - t.i).toNat false=af0 t c i:=(if_pos (by omega)).symm
   refine W_t (aO rfl rfl (aK rfl rfl rfl rfl (aA rfl (aO rfl rfl (aK rfl rfl rfl rfl (vI rfl rfl (by first|omega|(rw [cE]; omega)) (by first|omega|(rw [cE]; omega)) (eC (i:=(((i:Nat):Int) - (t.i))) (@rfl V (V.ms 21 1 0 (c.2.length))) (@rfl V (iV (((i:Nat):Int) - (t.i)))) (@rfl Blk (bk 1 4 1 (List.map cB (c.2)))) oB rfl (by first|omega|(rw [cE]; omega)) (by first|omega|(rw [cE]; omega)) ?_)))))))
   refine cF (vs:=[(V.bool false)]) (B':=(bk 1 4 1 (List.map cB ((c.2).set (((((i:Nat):Int) - (t.i))).toNat) false)))) rfl rfl rfl (@rfl Blk (bk 1 4 1 (List.map cB (c.2)))) (jS (x:=false) (i:=(((((i:Nat):Int) - (t.i))).toNat)) (by first|omega|(rw [cE]; omega)) rfl rfl rfl rfl) (R_e ?_)
   exact n1 _ _ ⟨rfl,rfl,rfl,rfl,rfl,rfl,rfl,rfl,rfl,rfl,(Eq.trans (@rfl Blk (bk 1 4 1 (List.map cB ((c.2).set (((((i:Nat):Int) - (t.i))).toNat) false)))) (by first|rfl|(rw [e2]; rfl)|(rw [e2]; done)|simp)),trivial⟩
  have e2:c.2=af0 t c i:=(if_neg (by omega)).symm
  refine dC ?_
  exact n1 _ _ ⟨rfl,rfl,rfl,rfl,rfl,rfl,rfl,rfl,rfl,rfl,(Eq.trans (@rfl Blk (bk 1 4 1 (List.map cB (c.2)))) (by first|rfl|(rw [e2]; rfl)|(rw [e2]; done)|simp)),trivial⟩
 intro T H ⟨t2,t3,t4,t6,t8,h3,h4,h6,h8,h9,h21,_⟩
 refine W_r (aO t3 h3 (aK rfl h3 rfl rfl (aO t4 h4 (aK rfl h4 rfl rfl (fY (i:=(c.1)) (@rfl V (V.sl (List.map cSr (t.st)))) (@rfl V (iV (c.1))) (by first|omega|(rw [cE]; omega)) (by first|omega|(rw [cE]; omega)) rfl (aJ rfl rfl (aA t2 ?_)))))))
 refine bK (i:=i) (@rfl V (V.sl (List.map cSg ((nth (t.st) (c.1).toNat))))) (@rfl V (iV ((i:Nat):Int))) (by first|omega|(rw [cE]; omega)) rfl (aJ rfl rfl (dG (i:=9) (n:=0) (m:=2) rfl (congrArg Blk.ver h9) rfl (lL rfl rfl rfl rfl rfl rfl rfl rfl rfl (R_e (aC (W_r (aO rfl rfl ?_)))))))
 refine aK rfl rfl rfl rfl (bQ rfl rfl (aA rfl ?_))
 refine aV 13 (fun T H=>T 6=(V.mp 6 1 0 0)∧T 8=(V.mp 8 1 0 0)∧T 9=(V.mp 9 1 0 0)∧T 59=(V.bool ((decide ((((nth ((nth (t.st) (c.1).toNat)) (i))).1) < (0:Int))||((decide ((((nth ((nth (t.st) (c.1).toNat)) (i))).2)=(0:Int))&&((!(nth (af0 t c i) (((((nth ((nth (t.st) (c.1).toNat)) (i))).1)).toNat)))))))))∧H 3=(bk 1 29 6 [[(iV (t.i)),(iV (t.tm)),(iV (t.s)),(aB t.nx),(aB t.ot),(V.sl (List.map cSr (t.st)))]])∧H 4=(bk 1 95 2 [[(iV (c.1)),(V.sl (List.map cB (c.2)))]])∧H 6=(bk 1 95 2 [[(iV (0:Int)),V.nilsl]])∧H 8=(bk 1 95 2 [[(iV ((nth ((nth (t.nx) (c.1).toNat)) (i)))),(V.ms 21 1 0 (c.2.length))]])∧H 9=(bk 1 73 2 [[(iV (((nth ((nth (t.st) (c.1).toNat)) (i))).1)),(iV (((nth ((nth (t.st) (c.1).toNat)) (i))).2))]])∧H 21=(bk 1 4 1 (List.map cB (af0 t c i)))∧True) ?_ ?_
 ·
  by_cases g3:(((nth ((nth (t.st) (c.1).toNat)) (i))).1) < (0:Int)
  ·
   refine G_n (edT g3 rfl) (G_n (edT g3 rfl) (G_n (edT g3 rfl) (G_n (edT g3 rfl) (gK (@rfl V (V.raw undef)) (gK (@rfl V (V.raw undef)) (gK (@rfl V (V.raw undef)) (gK (@rfl V (V.raw undef)) ?_)))))))
   refine gK (@rfl V (V.raw undef)) (gK (@rfl V (V.raw undef)) (gK (@rfl V (V.raw undef)) (G_n (edT g3 rfl) (aW (edT g3 rfl) rfl ?_))))
   exact ⟨t6,t8,rfl,(aDh g3),h3,h4,h6,h8,rfl,h21,trivial⟩
  ·
   refine aD (edF g3 rfl) (aO rfl rfl (aD (edF g3 rfl) (aK rfl rfl rfl rfl (aD (edF g3 rfl) (gU rfl rfl (aD (edF g3 rfl) (aA rfl ?_)))))))
   refine aV 8 (fun T H=>T 6=(V.mp 6 1 0 0)∧T 8=(V.mp 8 1 0 0)∧T 9=(V.mp 9 1 0 0)∧T 46=(V.bool false)∧T 58=(V.bool ((decide ((((nth ((nth (t.st) (c.1).toNat)) (i))).2)=(0:Int))&&((!(nth (af0 t c i) (((((nth ((nth (t.st) (c.1).toNat)) (i))).1)).toNat)))))))∧H 3=(bk 1 29 6 [[(iV (t.i)),(iV (t.tm)),(iV (t.s)),(aB t.nx),(aB t.ot),(V.sl (List.map cSr (t.st)))]])∧H 4=(bk 1 95 2 [[(iV (c.1)),(V.sl (List.map cB (c.2)))]])∧H 6=(bk 1 95 2 [[(iV (0:Int)),V.nilsl]])∧H 8=(bk 1 95 2 [[(iV ((nth ((nth (t.nx) (c.1).toNat)) (i)))),(V.ms 21 1 0 (c.2.length))]])∧H 9=(bk 1 73 2 [[(iV (((nth ((nth (t.st) (c.1).toNat)) (i))).1)),(iV (((nth ((nth (t.st) (c.1).toNat)) (i))).2))]])∧H 21=(bk 1 4 1 (List.map cB (af0 t c i)))∧True) ?_ ?_
   ·
    by_cases g4:(((nth ((nth (t.st) (c.1).toNat)) (i))).2)=(0:Int)
    ·
     refine aD (edT g4 rfl) (aO t8 h8 (aD (edT g4 rfl) (aK rfl h8 rfl rfl (aD (edT g4 rfl) (aO rfl rfl (aD (edT g4 rfl) (aK rfl rfl rfl rfl ?_)))))))
     refine aD (edT g4 rfl) (eC (i:=(((nth ((nth (t.st) (c.1).toNat)) (i))).1)) (@rfl V (V.ms 21 1 0 (c.2.length))) (@rfl V (iV (((nth ((nth (t.st) (c.1).toNat)) (i))).1))) h21 oB rfl (by first|omega|(rw [cE]; omega)) (by first|omega|(rw [cE]; omega)) (aD (edT g4 rfl) (bF (v:=(V.bool ((nth (af0 t c i) (((((nth ((nth (t.st) (c.1).toNat)) (i))).1)).toNat))))) rfl h21 (cD (by first|omega|(rw [cE]; omega)) (by first|rfl|(rw [cF_eq]; rfl)|simp [ldV,V.one])) (aD (edT g4 rfl) (lJ rfl (aD (edF g3 rfl) (aW (edT g4 rfl) rfl ?_)))))))
     exact ⟨t6,t8,rfl,(edF g3 rfl),(aAt g4),h3,h4,h6,h8,rfl,h21,trivial⟩
    ·
     refine G_n (edF g4 rfl) (G_n (edF g4 rfl) (G_n (edF g4 rfl) (G_n (edF g4 rfl) (G_n (edF g4 rfl) (G_n (edF g4 rfl) (G_n (edF g4 rfl) (aD (edF g3 rfl) ?_)))))))
     refine aU (edF g4 rfl) rfl ?_
     exact ⟨t6,t8,rfl,(edF g3 rfl),(zO g4),h3,h4,h6,h8,rfl,h21,trivial⟩
   intro T H ⟨t6,t8,t9,t46,t58,h3,h4,h6,h8,h9,h21,_⟩
   refine aU t46 t58 ?_
   exact ⟨t6,t8,t9,(aC5 g3),h3,h4,h6,h8,h9,h21,trivial⟩
 intro T H ⟨t6,t8,t9,t59,h3,h4,h6,h8,h9,h21,_⟩
 refine R_e ?_
 refine eB t59 (fun c5=>?_) (fun c5=>?_)
 ·
  obtain ⟨d1,d2,d3⟩:=aDz c5
  refine aC (W_r (aK t8 h8 rfl rfl (lL t6 rfl rfl h6 rfl rfl rfl rfl rfl (aA rfl (R_e (aR ?_))))))
  refine kG (hY (u:=(V.agg [(iV ((nth ((nth (t.nx) (c.1).toNat)) (i)))),(V.ms 21 1 0 (c.2.length))])) t6 (@rfl Blk (bk 1 95 2 [[(iV ((nth ((nth (t.nx) (c.1).toNat)) (i)))),(V.ms 21 1 0 (c.2.length))]])) (lB oB rfl rfl)) (fT (@rfl V (iV (0:Int)))) (aDb (aM ?_) (nI h21 (by first|rfl|simp) (l:=(af0 t c i)) rfl (by first|rfl|(rw [cE])|(rw [List.length_set,cE])|simp) (fun _=>by simp) ?_)) (aM ?_)
  · rfl
  · exact d2.symm
  · exact d3.symm
 obtain ⟨d1,d2,d3⟩:=aFu c5
 refine aG (W_r (aO t8 h8 (aK rfl h8 rfl rfl (aO t9 h9 (aK rfl h9 rfl rfl (aO t9 h9 (aK rfl h9 rfl rfl ?_)))))))
 refine fP rfl rfl (eC (i:=(((nth ((nth (t.st) (c.1).toNat)) (i))).1)) (@rfl V (V.ms 21 1 0 (c.2.length))) (@rfl V (iV (((nth ((nth (t.st) (c.1).toNat)) (i))).1))) h21 oB rfl (by first|omega|(rw [cE]; omega)) (by first|omega|(rw [cE]; omega)) (cF (vs:=[(V.bool (decide ((0:Int) < (((nth ((nth (t.st) (c.1).toNat)) (i))).2))))]) (B':=(bk 1 4 1 (List.map cB ((af0 t c i).set (((((nth ((nth (t.st) (c.1).toNat)) (i))).1)).toNat) (decide ((0:Int) < (((nth ((nth (t.st) (c.1).toNat)) (i))).2))))))) rfl rfl rfl h21 (jS (x:=(decide ((0:Int) < (((nth ((nth (t.st) (c.1).toNat)) (i))).2)))) (i:=(((((nth ((nth (t.st) (c.1).toNat)) (i))).1)).toNat)) (by first|omega|(rw [cE]; omega)) rfl rfl rfl rfl) (R_e (W_x (aK t8 h8 rfl rfl (aO t9 h9 (aK rfl h9 rfl rfl ?_)))))))
 refine yD rfl rfl (by first|omega|(rw [cE]; omega)) (by first|omega|(rw [cE]; omega)) (jB rfl rfl (by first|omega|(rw [cE]; omega)) (by first|omega|(rw [cE]; omega)) (aO t9 h9 (aK rfl h9 rfl rfl (jB rfl rfl (by first|omega|(rw [cE]; omega)) (by first|omega|(rw [cE]; omega)) (lL t6 rfl rfl h6 rfl rfl rfl rfl rfl (aA rfl (R_e ?_)))))))
 refine ⟨by simp [ddB,apV,nE,aKV,t6,t8,t9],?_⟩
 refine bI ?_
 refine kG (hY (u:=(V.agg [(iV ((nth ((nth (t.nx) (c.1).toNat)) (i)))),(V.ms 21 1 0 (c.2.length))])) t6 (@rfl Blk (bk 1 95 2 [[(iV ((nth ((nth (t.nx) (c.1).toNat)) (i)))),(V.ms 21 1 0 (c.2.length))]])) (lB oB rfl rfl)) (fT (@rfl V (iV (((1:Int)+((((nth ((nth (t.st) (c.1).toNat)) (i))).1)*(1001:Int)))+(((nth ((nth (t.st) (c.1).toNat)) (i))).2))))) (aDb (aM ?_) (nI (@rfl Blk (bk 1 4 1 (List.map cB ((af0 t c i).set (((((nth ((nth (t.st) (c.1).toNat)) (i))).1)).toNat) (decide ((0:Int) < (((nth ((nth (t.st) (c.1).toNat)) (i))).2))))))) (by first|rfl|simp) (l:=((af0 t c i).set (((((nth ((nth (t.st) (c.1).toNat)) (i))).1)).toNat) (decide ((0:Int) < (((nth ((nth (t.st) (c.1).toNat)) (i))).2))))) rfl (by first|rfl|(rw [cE])|(rw [List.length_set,cE])|simp) (fun _=>by simp) ?_)) (aM ?_)
 · rfl
 · exact d2.symm
 · exact d3.symm
def s47:SF:=⟨6,[.tmp 2],.seq (.reg [qI 2 0]) (.seq (.reg [qM 3 0,qC 4 .mul 3 1001,sO 5 (.bin .add (.c (.int .i64 1)) (.t 4)),qM 2 5]) (.ret))⟩
theorem aNv:aN Tryz.prog ⟨[58,129,130,131,149,155,161,182,183,185,191,192,208,209,210,224,228,231,236],[],[],[]⟩ Tryz.f47=some s47:=by kernel_rfl
theorem aCk (tm:Int) (ht:0≤tm∧tm≤4):aZ Tryz.prog 47 [(iV (tm))] (iV (sgK tm)):=by
 refine pW Tryz.func47 aNv fun hB=>?_
 unfold s47
 dsimp only
 refine W_r (aA rfl (R_e (W_r (aA rfl (yD rfl rfl (by omega) (by omega) (jB rfl rfl (by omega) (by omega) (aA rfl ?_)))))))
 refine R_e (bI ?_)
 refine bB (@rfl V (iV ((1:Int)+((tm)*(1001:Int))))) (aM ?_)
 · rfl
def aSB:List SO:=[
 qM 12 0,
 qM 13 5,
 qA 14 2 12 13,
 qF 15 0 14,
 ql 16 15,
 qF 17 0 3,
 ql 18 17,
 qP 19 .eql 16 18,
 qM 20 19,
 ⟨some (20,true),some 21,.mv (.t 0)⟩,
 ⟨some (20,true),some 22,.mv (.t 5)⟩,
 ⟨some (20,true),some 23,.idx 2 (.t 21) (.t 22)⟩,
 ⟨some (20,true),some 24,.fld 1 (.t 23)⟩,
 ⟨some (20,true),some 25,.load false 1 (.t 24)⟩,
 ⟨some (20,true),some 26,.fld 1 (.t 3)⟩,
 ⟨some (20,true),some 27,.load false 1 (.t 26)⟩,
 ⟨some (20,true),some 28,.call false 80 [.t 25,.t 27]⟩,
 sO 29 (.pick (.t 20) (.t 28) (.c (.bool false)))]
def aKQ:SC:=.seq (.seq (.reg [qM 6 5,qM 7 0,qN 8 7,qP 9 .lss 6 8]) (.cond (.t 9) (.skip) (.exit 0))) (.seq (.block 1 (.seq (.reg aSB) (.cond (.t 29) (.seq (.reg [qM 30 5,qM 4 30]) (.ret)) (.skip)))) (.reg [qM 10 5,qC 11 .add 10 1,qM 5 11]))
def s48:SF:=⟨33,[.tmp 4],.seq (.reg [sO 3 (.box 95 2 (.t 1)),qI 4 0]) (.seq (.seq (.reg [qI 5 0]) (.block 0 (.loop aKQ))) (.seq (.reg [qM 31 0,qN 32 31,qM 4 32]) (.ret)))⟩
theorem aM6:aN Tryz.prog ⟨[58,129,130,131,149,155,161,182,183,185,191,192,208,209,210,224,228,231,236],[],[],[]⟩ Tryz.f48=some s48:=by kernel_rfl
def aRE:List SO:=[
 qM 12 0,
 qM 13 5,
 qA 14 1 12 13,
 ql 15 14,
 qM 16 1,
 qM 17 5,
 qA 18 1 16 17,
 ql 19 18,
 sO 20 (.bbin .neq (.t 15) (.t 19))]
def aKx:SC:=.seq (.seq (.reg [qM 6 5,qM 7 0,qN 8 7,qP 9 .lss 6 8]) (.cond (.t 9) (.skip) (.exit 0))) (.seq (.block 1 (.seq (.reg aRE) (.cond (.t 20) (.seq (.reg [sO 4 (.mv (.c (.bool false)))]) (.ret)) (.skip)))) (.reg [qM 10 5,qC 11 .add 10 1,qM 5 11]))
def s80:SF:=⟨21,[.tmp 4],.seq (.reg [sO 4 (.mv (.c (.bool false)))]) (.seq (.seq (.reg [qI 5 0]) (.block 0 (.loop aKx))) (.seq (.reg [sO 4 (.mv (.c (.bool true)))]) (.ret)))⟩
theorem aP8:aN Tryz.prog ⟨[58,129,130,131,149,155,161,182,183,185,191,192,208,209,210,224,228,231,236],[],[],[]⟩ Tryz.f80=some s80:=by kernel_rfl
theorem aCg (a b:List Bool) (hl:a.length=b.length):aZ Tryz.prog 80 [(V.sl (List.map cB (a))),(V.sl (List.map cB (b)))] (V.bool (decide (a=b))):=by
 refine pW Tryz.func80 aP8 fun hB=>?_
 unfold s80
 dsimp only
 refine W_r (aA rfl (R_e (aC (W_r (aA rfl (R_e (aI fun Q1 n1 x1 y1 z1=>?_)))))))
 refine cP (fun mm T H=> ∃ (k:Nat),mm=a.length - k∧T 0=(V.sl (List.map cB (a)))∧T 1=(V.sl (List.map cB (b)))∧T 5=(iV ((k:Nat):Int))∧(k≤a.length)∧(∀ j,j < k→nth a j=nth b j)) ?_ ?_
 ·
  refine ⟨_,0,rfl,rfl,rfl,(Eq.trans (@rfl V (iV (0:Int))) rfl),?_,?_⟩
  · omega
  · intro j hj; omega
 intro mm T H ⟨k,hmm,t0,t1,t5,hk,hc⟩ Q2 p12 p22 p32
 unfold aKx
 refine aC (W_r (aA t5 (aA t0 (bO rfl (bQ rfl rfl (R_e ?_))))))
 refine aL rfl (fun c3=>?_) fun c3=>?_
 ·
  refine aG (aI fun Q4 n4 x4 y4 z4=>(W_r (aA t0 (aA t5 (bK (i:=k) (@rfl V (V.sl (List.map cB (a)))) (@rfl V (iV ((k:Nat):Int))) (by omega) rfl (aJ rfl rfl (aA t1 ?_)))))))
  refine aA t5 (bK (i:=k) (@rfl V (V.sl (List.map cB (b)))) (@rfl V (iV ((k:Nat):Int))) (by omega) rfl (aJ rfl rfl (aPV (x:=((nth (a) (k)))) (y:=((nth (b) (k)))) rfl rfl (R_e ?_))))
  refine aAQ rfl (fun c5=>?_) (fun c5=>?_)
  ·
   have d1:=c5
   refine W_r (aA rfl (R_e (bI (y4 _ _ (p22 _ _ (y1 _ _ ?_))))))
   refine bB (@rfl V (V.bool false)) (bJ ?_)
   · exact (decide_eq_false (fun e=>by subst e; exact aTn d1 rfl)).symm
  have d1:=c5
  refine dC (n4 _ _ (.done (W_t (aA t5 (bS rfl (@rfl V (iV ((1:Nat):Int))) (by omega) (aA rfl (R_e ?_)))))))
  refine p12 _ _ _ ?_ ⟨(k+1),rfl,t0,t1,(Eq.trans (@rfl V (iV ((k+1:Nat):Int))) (by first|rfl|simp)),?_,?_⟩
  · omega
  · omega
  · intro j hj
    by_cases e:j=k
    · subst e; exact aQ7 d1
    · exact hc j (by omega)
 refine aT (p32 _ _ _ (x1 _ _ (.done (W_r (aA rfl (R_e (bI ?_)))))))
 refine bB (@rfl V (V.bool true)) (bJ ?_)
 · exact (decide_eq_true (kD hl fun j hj=>hc j (by omega))).symm
theorem aAK (l:List Cf) (c:Cf) (hl: ∀ d∈l,d.2.length=c.2.length):aZ Tryz.prog 48 [(V.sl (List.map cCf (l))),(V.agg [(iV (c.1)),(V.sl (List.map cB (c.2)))])] (iV ((plc l c:Nat):Int)):=by
 refine pW Tryz.func48 aM6 fun hB=>?_
 unfold s48
 dsimp only
 refine W_r (dK (i:=3) (n:=0) (m:=2) (cs:=[(iV (c.1)),(V.sl (List.map cB (c.2)))]) rfl (congrArg Blk.ver rfl) rfl rfl rfl (aA rfl (R_e (aC (W_r (aA rfl (R_e ?_)))))))
 refine aI fun Q1 n1 x1 y1 z1=>?_
 refine cP (fun mm T H=> ∃ (k:Nat),mm=l.length - k∧T 0=(V.sl (List.map cCf (l)))∧T 3=(V.mp 3 1 0 0)∧T 5=(iV ((k:Nat):Int))∧H 3=(bk 1 95 2 [[(iV (c.1)),(V.sl (List.map cB (c.2)))]])∧(k≤l.length)∧(plc l c=mK l c k (l.length - k))) ?_ ?_
 ·
  refine ⟨_,0,rfl,rfl,rfl,(Eq.trans (@rfl V (iV (0:Int))) rfl),rfl,?_,?_⟩
  · exact Nat.zero_le _
  · rfl
 intro mm T H ⟨k,hmm,t0,t3,t5,h3,hk,hc⟩ Q2 p12 p22 p32
 unfold aKQ
 refine aC (W_r (aA t5 (aA t0 (bO rfl (bQ rfl rfl (R_e ?_))))))
 refine aL rfl (fun c3=>?_) fun c3=>?_
 ·
  refine aG (aI fun Q4 n4 x4 y4 z4=>(W_r (aA t0 (aA t5 (bK (i:=k) (@rfl V (V.sl (List.map cCf (l)))) (@rfl V (iV ((k:Nat):Int))) (by omega) rfl (aAS (cs':=[(iV (((nth (l) (k))).1)),(V.sl (List.map cB (((nth (l) (k))).2)))]) rfl rfl (aJ rfl rfl ?_)))))))
  refine aO t3 h3 (aK rfl h3 rfl rfl (gU rfl rfl (aA rfl ?_)))
  refine aV 9 (fun T H=>T 0=(V.sl (List.map cCf (l)))∧T 3=(V.mp 3 1 0 0)∧T 5=(iV ((k:Nat):Int))∧T 29=(V.bool (decide (((((nth (l) (k))).1)=(c.1))∧((((nth (l) (k))).2)=c.2))))∧H 3=(bk 1 95 2 [[(iV (c.1)),(V.sl (List.map cB (c.2)))]])∧True) ?_ ?_
  ·
   by_cases g5:(((nth (l) (k))).1)=(c.1)
   ·
    refine aD (edT g5 rfl) (aA t0 (aD (edT g5 rfl) (aA t5 (aD (edT g5 rfl) (bK (i:=k) (@rfl V (V.sl (List.map cCf (l)))) (@rfl V (iV ((k:Nat):Int))) (by omega) rfl (aD (edT g5 rfl) (aAS (cs':=[(V.sl (List.map cB (((nth (l) (k))).2)))]) rfl rfl ?_)))))))
    refine aD (edT g5 rfl) (aJ rfl rfl (aD (edT g5 rfl) (aO t3 h3 (aD (edT g5 rfl) (aK rfl h3 rfl rfl (aD (edT g5 rfl) (bE (aCg (((nth (l) (k))).2) c.2 (hl _ (bH (by omega)))) rfl ?_)))))))
    refine aW (edT g5 rfl) rfl ?_
    exact ⟨t0,t3,t5,(jC g5),h3,trivial⟩
   ·
    refine G_n (edF g5 rfl) (G_n (edF g5 rfl) (G_n (edF g5 rfl) (G_n (edF g5 rfl) (G_n (edF g5 rfl) (G_n (edF g5 rfl) (G_n (edF g5 rfl) (G_n (edF g5 rfl) ?_)))))))
    refine aU (edF g5 rfl) rfl ?_
    exact ⟨t0,t3,t5,(iZ g5),h3,trivial⟩
  intro T H ⟨t0,t3,t5,t29,h3,_⟩
  refine R_e ?_
  refine fO t29 (fun c6=>?_) fun c6=>?_
  ·
   have d1:nth l k=c:=Prod.ext c6.1 c6.2
   refine W_r (aA t5 (aA rfl (R_e (bI (y4 _ _ (p22 _ _ (y1 _ _ ?_)))))))
   refine bB (@rfl V (iV ((k:Nat):Int))) (aM ?_)
   · rw [hc,aFJ d1 (by omega)]
  have d1:nth l k≠c:=fun e=>c6 ⟨congrArg Prod.fst e,congrArg Prod.snd e⟩
  refine dC (n4 _ _ (.done (W_t (aA t5 (bS rfl (@rfl V (iV ((1:Nat):Int))) (by omega) (aA rfl (R_e ?_)))))))
  refine p12 _ _ _ ?_ ⟨(k+1),rfl,t0,t3,(Eq.trans (@rfl V (iV ((k+1:Nat):Int))) (by first|rfl|simp)),h3,?_,?_⟩
  · omega
  · omega
  · rw [hc,aFe d1 (by omega)]
 refine aT (p32 _ _ _ (x1 _ _ (.done (W_r (aA t0 (bO rfl (aA rfl ?_)))))))
 refine R_e (bI ?_)
 refine bB (@rfl V (iV ((l.length:Nat):Int))) (aM ?_)
 · rw [hc,aFE (by omega)]
end Go.Proofs.YtilfohjlglefjaaGreat
namespace Go.Proofs.YtilfohjlglefjaaGreat
open Go Go.Proofs
attribute [local irreducible] tY
theorem nK (t:TM):aZ Tryz.prog 21 [(V.agg [(iV (t.i)),(iV (t.tm)),(iV (t.s)),(aB t.nx),(aB t.ot),(V.sl (List.map cSr (t.st)))])] (V.tup [(V.agg [(iV ((unM t).i)),(iV ((unM t).s)),(aB ((unM t).nx)),(aB ((unM t).ot))]),(iV (unE t))]):=by
 refine pW Tryz.func21 aN3 fun hB=>?_
 unfold s21
 dsimp only
 refine W_r (dK (i:=1) (n:=0) (m:=6) (cs:=[(iV (t.i)),(iV (t.tm)),(iV (t.s)),(aB t.nx),(aB t.ot),(V.sl (List.map cSr (t.st)))]) rfl (congrArg Blk.ver rfl) rfl rfl rfl (dG (i:=2) (n:=0) (m:=4) rfl (congrArg Blk.ver rfl) rfl (aA rfl (R_e (aC (W_r (aK rfl rfl rfl rfl ?_)))))))
 refine bE (lK t) rfl (aA rfl (R_e (aC (W_r (aA rfl (cG rfl rfl (R_e ?_)))))))
 refine aL rfl (fun c1=>?_) fun c1=>?_
 ·
  have d1:=c1
  refine aC (W_r (dS rfl rfl (aA rfl (cF (vs:=[(iV (0:Int)),(iV (0:Int)),V.nilsl,V.nilsl]) (B':=(bk 1 24 4 [[(iV (0:Int)),(iV (0:Int)),V.nilsl,V.nilsl]])) rfl rfl rfl rfl (sB oB rfl rfl rfl rfl rfl) (aA rfl (R_e (aR ?_)))))))
  refine kG (hY (u:=(V.agg [(iV (0:Int)),(iV (0:Int)),V.nilsl,V.nilsl])) rfl (@rfl Blk (bk 1 24 4 [[(iV (0:Int)),(iV (0:Int)),V.nilsl,V.nilsl]])) (lB oB rfl rfl)) (fT (@rfl V (iV (dP t)))) (iO (bZ (aM ?_) (bZ (aM ?_) (bZ (dV ?_) (bZ (dV ?_) rfl))))) (aM ?_)
  · rw [dZ (by rw [nL d1]; first|decide|exact d1)]; try rfl
  · rw [dZ (by rw [nL d1]; first|decide|exact d1)]; try rfl
  · rw [dZ (by rw [nL d1]; first|decide|exact d1)]; try rfl
  · rw [dZ (by rw [nL d1]; first|decide|exact d1)]; try rfl
  · rw [nL d1]
 have d1:=c1
 have ht:=aEi (Decidable.not_not.1 c1)
 obtain ⟨g1,g2,g3,g4,g5,g6,g7,g8,g9,g10,g11,g12⟩:=id ht
 refine aG ?_
 refine aFl (fun T H=>T 1=(V.mp 1 1 0 0)∧T 2=(V.mp 2 1 0 0)∧T 5=(V.ms 27 1 0 (1))∧H 1=(bk 1 29 6 [[(iV (t.i)),(iV (t.tm)),(iV (t.s)),(aB t.nx),(aB t.ot),(V.sl (List.map cSr (t.st)))]])∧H 2=(bk 1 24 4 [[(iV (0:Int)),(iV (0:Int)),V.nilsl,V.nilsl]])∧H 6=(⟨0,false,false,0,0,[]⟩:Blk)∧H 8=(⟨0,false,false,0,0,[]⟩:Blk)∧H 9=(⟨0,false,false,0,0,[]⟩:Blk)∧H 11=(⟨0,false,false,0,0,[]⟩:Blk)∧H 25=(bk 1 4 1 (List.map cB (List.replicate ((t.tm).toNat) false)))∧H 27=(bk 1 95 2 [[(iV (t.s)),(V.ms 25 1 0 ((t.tm).toNat))]])∧H 812=(⟨0,false,false,0,0,[]⟩:Blk)∧H 813=(⟨0,false,false,0,0,[]⟩:Blk)∧True) (by exact (uD rfl yQ)) ?_ ?_
 ·
  refine aO rfl rfl (aK rfl rfl rfl rfl (aO rfl rfl (aK rfl rfl rfl rfl (uC (i:=25) (n:=0) (m:=((t.tm).toNat)) (q:=((t.tm).toNat)) (f:=cB) (x:=false) rfl (congrArg Blk.ver rfl) (Eq.trans (@rfl V (iV (t.tm))) (congrArg (V.int .i64) (by omega))) (Eq.trans (@rfl V (iV (t.tm))) (congrArg (V.int .i64) (by omega))) rfl (by omega) (by omega) (by omega) (dS rfl rfl (iM (i:=27) (n:=0) (qs:=[(0,(V.agg [(iV (t.s)),(V.ms 25 1 0 ((t.tm).toNat))]))]) (rows:=[[(iV (t.s)),(V.ms 25 1 0 ((t.tm).toNat))]]) rfl (congrArg Blk.ver rfl) (bZ (congrArg (fun v=>(0,v)) rfl) rfl) rfl (aA rfl ?_)))))))
  exact fQ ⟨rfl,rfl,rfl,rfl,rfl,rfl,rfl,rfl,rfl,rfl,rfl,rfl,rfl,trivial⟩
 intro T H ⟨t1,t2,t5,h1,h2,h6,h8,h9,h11,h25,h27,h812,h813,_⟩
 refine aE4 (id:=25) (id2:=27) (rows:=[[(iV (t.s)),(V.ms 25 1 0 ((t.tm).toNat))]]) (i:=0) (off:=1) (r:=[(iV (t.s)),(V.ms 25 1 0 ((t.tm).toNat))]) (m:=(List.replicate ((t.tm).toNat) false)) (g:=cB) (by decide) h25 h27 (by first|omega|(simp; omega)|(simp; done)) (by first|rfl|simp|omega) rfl (.done ?_)
 refine cZ (R:=fun T H=>T 1=(V.mp 1 1 0 0)∧T 2=(V.mp 2 1 0 0)∧T 5=(V.ms 27 1 0 (1))∧H 1=(bk 1 29 6 [[(iV (t.i)),(iV (t.tm)),(iV (t.s)),(aB t.nx),(aB t.ot),(V.sl (List.map cSr (t.st)))]])∧H 2=(bk 1 24 4 [[(iV (0:Int)),(iV (0:Int)),V.nilsl,V.nilsl]])∧H 6=(⟨0,false,false,0,0,[]⟩:Blk)∧H 8=(⟨0,false,false,0,0,[]⟩:Blk)∧H 9=(⟨0,false,false,0,0,[]⟩:Blk)∧H 11=(⟨0,false,false,0,0,[]⟩:Blk)∧((H 25).ver=1∧(H 25).live=false)∧H 27=(bk 1 95 2 [[(iV (t.s)),(V.sl (List.map cB (List.replicate ((t.tm).toNat) false)))]])∧H 812=(⟨0,false,false,0,0,[]⟩:Blk)∧H 813=(⟨0,false,false,0,0,[]⟩:Blk)∧True) ⟨(bA t1 rfl),(bA t2 rfl),(bA t5 (cR (by decide))),((aF _ _ (by decide)).trans (aS h1 (by decide))),((aF _ _ (by decide)).trans (aS h2 (by decide))),((aF _ _ (by decide)).trans (aS h6 (by decide))),((aF _ _ (by decide)).trans (aS h8 (by decide))),((aF _ _ (by decide)).trans (aS h9 (by decide))),((aF _ _ (by decide)).trans (aS h11 (by decide))),⟨(congrArg Blk.ver (aF _ _ (by decide))).trans (eL (congrArg Blk.ver h25)).1,(congrArg Blk.live (aF _ _ (by decide))).trans (eL (congrArg Blk.ver h25)).2⟩,(aE _ _ _),((aF _ _ (by decide)).trans (aS h812 (by decide))),((aF _ _ (by decide)).trans (aS h813 (by decide))),trivial⟩ ?_
 intro T H ⟨t1,t2,t5,h1,h2,h6,h8,h9,h11,h25,h27,h812,h813,_⟩
 refine W_r (aO t1 h1 (aK rfl h1 rfl rfl (aO t1 h1 (aK rfl h1 rfl rfl (jB rfl rfl (by omega) (by omega) (dS rfl rfl (dG (i:=6) (n:=0) (m:=4) rfl (congrArg Blk.ver h6) rfl ?_)))))))
 refine cF (vs:=[(iV ((t.i)+(t.tm))),(iV (0:Int)),V.nilsl,V.nilsl]) (B':=(bk 1 24 4 [[(iV ((t.i)+(t.tm))),(iV (0:Int)),V.nilsl,V.nilsl]])) rfl rfl rfl rfl (sB oB rfl rfl rfl rfl rfl) (R_e (aC ?_))
 refine pX (fun T H=>T 1=(V.mp 1 1 0 0)∧T 2=(V.mp 2 1 0 0)∧T 5=(V.ms 27 1 0 (1))∧T 6=(V.mp 6 1 0 0)∧T 7=(iV (0:Int))∧H 1=(bk 1 29 6 [[(iV (t.i)),(iV (t.tm)),(iV (t.s)),(aB t.nx),(aB t.ot),(V.sl (List.map cSr (t.st)))]])∧H 2=(bk 1 24 4 [[(iV (0:Int)),(iV (0:Int)),V.nilsl,V.nilsl]])∧H 6=(bk 1 24 4 [[(iV ((t.i)+(t.tm))),(iV (0:Int)),V.nilsl,V.nilsl]])∧H 8=(⟨0,false,false,0,0,[]⟩:Blk)∧H 9=(⟨0,false,false,0,0,[]⟩:Blk)∧H 11=(⟨0,false,false,0,0,[]⟩:Blk)∧((H 25).ver=1∧(H 25).live=false)∧H 27=(bk 1 95 2 [[(iV (t.s)),(V.sl (List.map cB (List.replicate ((t.tm).toNat) false)))]])∧H 812=(⟨0,false,false,0,0,[]⟩:Blk)∧H 813=(⟨0,false,false,0,0,[]⟩:Blk)∧True) ?_ ?_
 ·
  refine aA rfl ?_
  exact fQ ⟨t1,t2,t5,rfl,rfl,h1,h2,rfl,h8,h9,h11,h25,h27,h812,h813,trivial⟩
 intro T H ⟨t1,t2,t5,t6,t7,h1,h2,h6,h8,h9,h11,h25,h27,h812,h813,_⟩
 refine .lazyCell 812 38 1 6 0 2 [(iV ((t.i)+(t.tm))),(iV (0:Int)),V.nilsl,V.nilsl] (by decide) (by rw [h6]; rfl) (by rw [h6]; rfl) rfl (cZ (R:=fun T H=>T 1=(V.mp 1 1 0 0)∧T 2=(V.mp 2 1 0 0)∧T 5=(V.ms 27 1 0 (1))∧T 6=(V.mp 6 1 0 0)∧T 7=(iV (0:Int))∧H 1=(bk 1 29 6 [[(iV (t.i)),(iV (t.tm)),(iV (t.s)),(aB t.nx),(aB t.ot),(V.sl (List.map cSr (t.st)))]])∧H 2=(bk 1 24 4 [[(iV (0:Int)),(iV (0:Int)),V.nilsl,V.nilsl]])∧H 6=(bk 1 24 4 [[(iV ((t.i)+(t.tm))),(iV (0:Int)),(V.ms 812 1 0 (0)),V.nilsl]])∧H 8=(⟨0,false,false,0,0,[]⟩:Blk)∧H 9=(⟨0,false,false,0,0,[]⟩:Blk)∧H 11=(⟨0,false,false,0,0,[]⟩:Blk)∧((H 25).ver=1∧(H 25).live=false)∧H 27=(bk 1 95 2 [[(iV (t.s)),(V.sl (List.map cB (List.replicate ((t.tm).toNat) false)))]])∧H 812=(bz 1 38 1 [])∧H 813=(⟨0,false,false,0,0,[]⟩:Blk)∧True) ⟨t1,t2,t5,t6,t7,((aF _ _ (by decide)).trans ((aF _ _ (by decide)).trans h1)),((aF _ _ (by decide)).trans ((aF _ _ (by decide)).trans h2)),(by rw [aE,h6,(congrArg Blk.ver h812)]; rfl),((aF _ _ (by decide)).trans ((aF _ _ (by decide)).trans h8)),((aF _ _ (by decide)).trans ((aF _ _ (by decide)).trans h9)),((aF _ _ (by decide)).trans ((aF _ _ (by decide)).trans h11)),⟨(congrArg Blk.ver ((aF _ _ (by decide)).trans (aF _ _ (by decide)))).trans (h25).1,(congrArg Blk.live ((aF _ _ (by decide)).trans (aF _ _ (by decide)))).trans (h25).2⟩,((aF _ _ (by decide)).trans ((aF _ _ (by decide)).trans h27)),(by rw [aF _ _ (by decide),aE,(congrArg Blk.ver h812)]),((aF _ _ (by decide)).trans ((aF _ _ (by decide)).trans h813)),trivial⟩ ?_)
 intro T H ⟨t1,t2,t5,t6,t7,h1,h2,h6,h8,h9,h11,h25,h27,h812,h813,_⟩
 refine .lazyCell 813 38 1 6 0 3 [(iV ((t.i)+(t.tm))),(iV (0:Int)),(V.ms 812 1 0 (0)),V.nilsl] (by decide) (by rw [h6]; rfl) (by rw [h6]; rfl) rfl (.done ?_)
 refine cZ (R:=fun T H=>T 1=(V.mp 1 1 0 0)∧T 2=(V.mp 2 1 0 0)∧T 5=(V.ms 27 1 0 (1))∧T 6=(V.mp 6 1 0 0)∧T 7=(iV (0:Int))∧H 1=(bk 1 29 6 [[(iV (t.i)),(iV (t.tm)),(iV (t.s)),(aB t.nx),(aB t.ot),(V.sl (List.map cSr (t.st)))]])∧H 2=(bk 1 24 4 [[(iV (0:Int)),(iV (0:Int)),V.nilsl,V.nilsl]])∧H 6=(bk 1 24 4 [[(iV ((t.i)+(t.tm))),(iV (0:Int)),(V.ms 812 1 0 (0)),(V.ms 813 1 0 (0))]])∧H 8=(⟨0,false,false,0,0,[]⟩:Blk)∧H 9=(⟨0,false,false,0,0,[]⟩:Blk)∧H 11=(⟨0,false,false,0,0,[]⟩:Blk)∧((H 25).ver=1∧(H 25).live=false)∧H 27=(bk 1 95 2 [[(iV (t.s)),(V.sl (List.map cB (List.replicate ((t.tm).toNat) false)))]])∧H 812=(bz 1 38 1 [])∧H 813=(bz 1 38 1 [])∧True) ⟨t1,t2,t5,t6,t7,((aF _ _ (by decide)).trans ((aF _ _ (by decide)).trans h1)),((aF _ _ (by decide)).trans ((aF _ _ (by decide)).trans h2)),(by rw [aE,h6,(congrArg Blk.ver h813)]; rfl),((aF _ _ (by decide)).trans ((aF _ _ (by decide)).trans h8)),((aF _ _ (by decide)).trans ((aF _ _ (by decide)).trans h9)),((aF _ _ (by decide)).trans ((aF _ _ (by decide)).trans h11)),⟨(congrArg Blk.ver ((aF _ _ (by decide)).trans (aF _ _ (by decide)))).trans (h25).1,(congrArg Blk.live ((aF _ _ (by decide)).trans (aF _ _ (by decide)))).trans (h25).2⟩,((aF _ _ (by decide)).trans ((aF _ _ (by decide)).trans h27)),((aF _ _ (by decide)).trans ((aF _ _ (by decide)).trans h812)),(by rw [aF _ _ (by decide),aE,(congrArg Blk.ver h813)]),trivial⟩ ?_
 intro T H ⟨t1,t2,t5,t6,t7,h1,h2,h6,h8,h9,h11,h25,h27,h812,h813,_⟩
 refine aI fun Q2 n2 x2 y2 z2=>?_
 refine cP (fun mm T H=> ∃ (k:Nat) (U:UM) (v0:Nat) (v1:Nat) (v2:Nat) (v8:Nat) (v9:Nat) (v11:Nat),mm=129 - k∧T 1=(V.mp 1 1 0 0)∧T 2=(V.mp 2 1 0 0)∧T 5=(V.ms 27 v0 0 (U.l.length))∧T 6=(V.mp 6 1 0 0)∧T 7=(iV ((k:Nat):Int))∧H 1=(bk 1 29 6 [[(iV (t.i)),(iV (t.tm)),(iV (t.s)),(aB t.nx),(aB t.ot),(V.sl (List.map cSr (t.st)))]])∧H 2=(bk 1 24 4 [[(iV (0:Int)),(iV (0:Int)),V.nilsl,V.nilsl]])∧H 6=(bk 1 24 4 [[(iV (t.i+t.tm)),(iV (0:Int)),(V.ms 812 v1 0 (U.nx.length)),(V.ms 813 v2 0 (U.ot.length))]])∧((H 8).ver=v8∧(H 8).live=false)∧((H 9).ver=v9∧(H 9).live=false)∧((H 11).ver=v11∧(H 11).live=false)∧((H 25).ver=1∧(H 25).live=false)∧H 27=(bk v0 95 2 (List.map cCf (U.l)))∧H 812=(bz v1 38 1 (List.map cL (U.nx)))∧H 813=(bz v2 38 1 (List.map cL (U.ot)))∧(k≤U.l.length)∧(UOK t U.l)∧(U.nx.length=k∧U.ot.length=k)∧(unX t=kI t (129 - k) k U)) ?_ ?_
 ·
  refine ⟨_,0,(ini t),1,1,1,0,0,0,rfl,t1,t2,(Eq.trans t5 (by first|rfl|(rw [e7,List.length_append]; rfl)|(rw [e7]; done)|simp)),t6,(Eq.trans t7 rfl),h1,h2,(Eq.trans h6 (by first|rfl|(rw [e7,List.map_append]; rfl)|(rw [e7]; done)|(rw [e7]; rfl)|simp)),⟨(congrArg Blk.ver h8),congrArg Blk.live h8⟩,⟨(congrArg Blk.ver h9),congrArg Blk.live h9⟩,⟨(congrArg Blk.ver h11),congrArg Blk.live h11⟩,h25,(Eq.trans h27 (by first|rfl|(rw [e7,List.map_append]; rfl)|(rw [e7]; done)|(rw [e7]; rfl)|simp)),(Eq.trans h812 (by first|rfl|(rw [e7,List.map_append]; rfl)|(rw [e7]; done)|(rw [e7]; rfl)|simp)),(Eq.trans h813 (by first|rfl|(rw [e7,List.map_append]; rfl)|(rw [e7]; done)|(rw [e7]; rfl)|simp)),?_,?_,?_,?_⟩
  · exact Nat.zero_le _
  · exact aCR ht
  · exact ⟨rfl,rfl⟩
  · rfl
 intro mm T H ⟨k,U,v0,v1,v2,v8,v9,v11,hmm,t1,t2,t5,t6,t7,h1,h2,h6,h8,h9,h11,h25,h27,h812,h813,hk,hu,hl,hc⟩ Q3 p13 p23 p33
 unfold aKI
 refine aC (W_r (aA t7 (aA t5 (dX rfl h27 (by first|rfl|simp) (bQ rfl rfl (R_e ?_))))))
 refine aL rfl (fun c4=>?_) fun c4=>?_
 ·
  have gl:=hu.len
  refine aG (aI fun Q5 n5 x5 y5 z5=>(W_r (hU (i:=8) (n:=v8) rfl (h8).1 (hU (i:=9) (n:=v9) rfl (h9).1 (R_e (aC (W_r ?_)))))))
  refine aA rfl (R_e (aI fun Q6 n6 x6 y6 z6=>?_))
  refine cP (fun mm T H=> ∃ (i:Nat) (S:US) (w0:Nat) (w1:Nat) (w2:Nat) (v11:Nat),mm=(t.i+t.tm).toNat - i∧T 1=(V.mp 1 1 0 0)∧T 2=(V.mp 2 1 0 0)∧T 5=(V.ms 27 w0 0 (S.l.length))∧T 6=(V.mp 6 1 0 0)∧T 7=(iV ((k:Nat):Int))∧T 8=(V.ms 8 w1 0 (S.a.length))∧T 9=(V.ms 9 w2 0 (S.b.length))∧T 10=(iV ((i:Nat):Int))∧H 1=(bk 1 29 6 [[(iV (t.i)),(iV (t.tm)),(iV (t.s)),(aB t.nx),(aB t.ot),(V.sl (List.map cSr (t.st)))]])∧H 2=(bk 1 24 4 [[(iV (0:Int)),(iV (0:Int)),V.nilsl,V.nilsl]])∧H 6=(bk 1 24 4 [[(iV (t.i+t.tm)),(iV (0:Int)),(V.ms 812 v1 0 (U.nx.length)),(V.ms 813 v2 0 (U.ot.length))]])∧H 8=(bz w1 3 1 (List.map cI (S.a)))∧H 9=(bz w2 3 1 (List.map cI (S.b)))∧((H 11).ver=v11∧(H 11).live=false)∧((H 25).ver=1∧(H 25).live=false)∧H 27=(bk w0 95 2 (List.map cCf (S.l)))∧H 812=(bz v1 38 1 (List.map cL (U.nx)))∧H 813=(bz v2 38 1 (List.map cL (U.ot)))∧(i≤(t.i+t.tm).toNat)∧(UOK t S.l)∧(nth S.l k=nth U.l k∧U.l.length≤S.l.length)∧(S.a.length=i∧S.b.length=i)∧(dY t k (t.i+t.tm).toNat 0 ⟨U.l,[],[]⟩=dY t k ((t.i+t.tm).toNat - i) i S)) ?_ ?_
  ·
   refine ⟨_,0,⟨U.l,[],[]⟩,v0,(v8+1),(v9+1),v11,rfl,t1,t2,(Eq.trans t5 (by first|rfl|(rw [e7,List.length_append]; rfl)|(rw [e7]; done)|simp)),t6,t7,(Eq.trans (@rfl V (V.ms 8 (v8+1) 0 (0))) (by first|rfl|(rw [e7,List.length_append]; rfl)|(rw [e7]; done)|simp)),(Eq.trans (@rfl V (V.ms 9 (v9+1) 0 (0))) (by first|rfl|(rw [e7,List.length_append]; rfl)|(rw [e7]; done)|simp)),(Eq.trans (@rfl V (iV (0:Int))) rfl),h1,h2,h6,(Eq.trans (@rfl Blk (bz (v8+1) 3 1 [])) (by first|rfl|(rw [e7,List.map_append]; rfl)|(rw [e7]; done)|(rw [e7]; rfl)|simp)),(Eq.trans (@rfl Blk (bz (v9+1) 3 1 [])) (by first|rfl|(rw [e7,List.map_append]; rfl)|(rw [e7]; done)|(rw [e7]; rfl)|simp)),h11,h25,(Eq.trans h27 (by first|rfl|(rw [e7,List.map_append]; rfl)|(rw [e7]; done)|(rw [e7]; rfl)|simp)),h812,h813,?_,?_,?_,?_,?_⟩
   · exact Nat.zero_le _
   · exact hu
   · exact ⟨rfl,Nat.le_refl _⟩
   · exact ⟨rfl,rfl⟩
   · rfl
  intro mm T H ⟨i,S,w0,w1,w2,v11,hmm,t1,t2,t5,t6,t7,t8,t9,t10,h1,h2,h6,h8,h9,h11,h25,h27,h812,h813,hi,hs,hsl,hab,hr⟩ Q7 p17 p27 p37
  unfold aKL
  refine aC (W_r (aA t10 (aO t6 h6 (aK rfl h6 rfl rfl (bQ rfl rfl (R_e ?_))))))
  refine aL rfl (fun c8=>?_) fun c8=>?_
  ·
   have cok:=hs.at (k:=k) (by omega)
   have hsn:=hs.len
   have gr:=(g12 (nth S.l k).1.toNat (by have:=cok.1; have:=cok.2.1; omega))
   have gx:=gr.2.2.2 i (by omega)
   have ca:=cok.1
   have cb:=cok.2.1
   have hM:=aCt (o:=nth (nth t.ot (nth S.l k).1.toNat) i) (tm:=t.tm) ⟨gx.2.2.1,gx.2.2.2.1⟩ ⟨g3,g4⟩
   have hA:=zJ ht cok (show (i:Int) < t.i+t.tm by omega)
   have aok:=aCf ht cok (show (i:Int) < t.i+t.tm by omega)
   have hpl:=aCo S.l (afT t (nth S.l k) i)
   refine aG (aI fun Q9 n9 x9 y9 z9=>(aC (W_r (aK t1 h1 rfl rfl (aA t5 (aA t7 (bW (i:=k) (@rfl V (V.ms 27 w0 0 (S.l.length))) (@rfl V (iV ((k:Nat):Int))) h27 oB rfl (by omega) ?_)))))))
   refine bF (v:=(V.agg [(iV (((nth (S.l) (k))).1)),(V.sl (List.map cB (((nth (S.l) (k))).2)))])) rfl h27 (cD (by omega) (by first|rfl|(rw [cF_eq]; rfl)|simp [ldV,V.one])) (aA t10 (bE (aE2 t (((nth (S.l) (k)))) i ht cok (by omega)) rfl (lJ rfl (R_e ?_))))
   refine eB rfl (fun c10=>?_) (fun c10=>?_)
   ·
    have d3:psB t (nth S.l k) i=false:=by simpa using c10
    refine aC (W_r (aA t8 (aA t7 (cQ rfl rfl (dH (l:=S.a) (f:=cI) (x:=(((k:Nat):Int))) (@rfl V (V.ms 8 w1 0 (S.a.length))) h8 (by first|rfl|simp|omega) (@rfl V (V.sl [[(iV ((k:Nat):Int))]])) rfl rfl (by omega) (by omega) (aA rfl (R_e ?_)))))))
    refine aC (W_r (aA t9 (cQ rfl rfl (dH (l:=S.b) (f:=cI) (x:=0) (@rfl V (V.ms 9 w2 0 (S.b.length))) h9 (by first|rfl|simp|omega) (@rfl V (V.sl [[(iV (0:Int))]])) rfl rfl (by omega) (by omega) (aA rfl (R_e (aT ?_)))))))
    refine x9 _ _ (.done (W_t (aA t10 (bS rfl (@rfl V (iV ((1:Nat):Int))) (by omega) (aA rfl (R_e ?_))))))
    refine p17 _ _ _ ?_ ⟨(i+1),⟨S.l,S.a++[((k:Nat):Int)],S.b++[0]⟩,w0,(w1+1),(w2+1),v11,rfl,t1,t2,(Eq.trans t5 (by first|rfl|(rw [e7,List.length_append]; rfl)|(rw [e7]; done)|simp)),t6,t7,(Eq.trans (@rfl V (V.ms 8 (w1+1) 0 (S.a.length+1))) (by first|rfl|(rw [e7,List.length_append]; rfl)|(rw [e7]; done)|simp)),(Eq.trans (@rfl V (V.ms 9 (w2+1) 0 (S.b.length+1))) (by first|rfl|(rw [e7,List.length_append]; rfl)|(rw [e7]; done)|simp)),(Eq.trans (@rfl V (iV ((i+1:Nat):Int))) (by first|rfl|(rw [e7,List.length_append]; rfl)|(rw [e7]; done)|simp)),h1,h2,h6,(Eq.trans (@rfl Blk (bz (w1+1) 3 1 (List.map cI (S.a++[((k:Nat):Int)])))) (by first|rfl|(rw [e7,List.map_append]; rfl)|(rw [e7]; done)|(rw [e7]; rfl)|simp)),(Eq.trans (@rfl Blk (bz (w2+1) 3 1 (List.map cI (S.b++[0])))) (by first|rfl|(rw [e7,List.map_append]; rfl)|(rw [e7]; done)|(rw [e7]; rfl)|simp)),h11,h25,(Eq.trans h27 (by first|rfl|(rw [e7,List.map_append]; rfl)|(rw [e7]; done)|(rw [e7]; rfl)|simp)),h812,h813,?_,?_,?_,?_,?_⟩
    · omega
    · omega
    · first|exact hs|exact hs.add aok d6
    · first|exact hsl|exact ⟨(iY (by omega)).1.trans hsl.1,Nat.le_trans hsl.2 (iY (k:=k) (by omega)).2⟩
    · simp only [List.length_append,List.length_singleton]; omega
    · first|exact hr.trans (tO (by omega) d3)|exact hr.trans (vC (by omega) d3b d5 d6)
   have d3:psB t (nth S.l k) i=true:=by simpa using c10
   have d3b: ¬psB t (nth S.l k) i=false:=by rw [d3]; decide
   refine aG (W_d (by exact (uD (h11).2 yQ)) (aK t1 h1 rfl rfl (aA t5 (aA t7 (bW (i:=k) (@rfl V (V.ms 27 w0 0 (S.l.length))) (@rfl V (iV ((k:Nat):Int))) h27 oB rfl (by omega) (bF (v:=(V.agg [(iV (((nth (S.l) (k))).1)),(V.sl (List.map cB (((nth (S.l) (k))).2)))])) rfl h27 (cD (by omega) (by first|rfl|(rw [cF_eq]; rfl)|simp [ldV,V.one])) (aA t10 ?_)))))))
   refine bE (aCs t (((nth (S.l) (k)))) i ht cok (by omega) d3) rfl (aA rfl (eD rfl rfl (eD rfl rfl (dG (i:=11) (n:=v11) (m:=2) rfl (h11).1 rfl (cF (vs:=[(iV ((afT t (((nth (S.l) (k)))) i).1)),(V.sl (List.map cB ((afT t (((nth (S.l) (k)))) i).2)))]) (B':=(bk (v11+1) 95 2 [[(iV ((afT t (((nth (S.l) (k)))) i).1)),(V.sl (List.map cB ((afT t (((nth (S.l) (k)))) i).2)))]])) rfl rfl rfl rfl (sB oB rfl rfl rfl rfl rfl) (aA rfl (R_e ?_)))))))
   refine eQ (fun T H=>T 1=(V.mp 1 1 0 0)∧T 2=(V.mp 2 1 0 0)∧T 5=(V.ms 27 w0 0 (S.l.length))∧T 6=(V.mp 6 1 0 0)∧T 7=(iV ((k:Nat):Int))∧T 8=(V.ms 8 w1 0 (S.a.length))∧T 9=(V.ms 9 w2 0 (S.b.length))∧T 10=(iV ((i:Nat):Int))∧T 11=(V.mp 11 (v11+1) 0 0)∧T 13=(iV (((1:Int)+(((nth ((nth (t.ot) (((nth (S.l) (k))).1).toNat)) (i)))*(sgK ((t.tm)))))+(afC t (((nth (S.l) (k)))) i)))∧H 1=(bk 1 29 6 [[(iV (t.i)),(iV (t.tm)),(iV (t.s)),(aB t.nx),(aB t.ot),(V.sl (List.map cSr (t.st)))]])∧H 2=(bk 1 24 4 [[(iV (0:Int)),(iV (0:Int)),V.nilsl,V.nilsl]])∧H 6=(bk 1 24 4 [[(iV (t.i+t.tm)),(iV (0:Int)),(V.ms 812 v1 0 (U.nx.length)),(V.ms 813 v2 0 (U.ot.length))]])∧H 8=(bz w1 3 1 (List.map cI (S.a)))∧H 9=(bz w2 3 1 (List.map cI (S.b)))∧H 11=(bk (v11+1) 95 2 [[(iV ((afT t (((nth (S.l) (k)))) i).1)),(V.sl (List.map cB ((afT t (((nth (S.l) (k)))) i).2)))]])∧((H 25).ver=1∧(H 25).live=false)∧H 27=(bk w0 95 2 (List.map cCf (S.l)))∧H 812=(bz v1 38 1 (List.map cL (U.nx)))∧H 813=(bz v2 38 1 (List.map cL (U.ot)))∧True) ?_ ?_
   ·
    refine aO t1 h1 (aK rfl h1 rfl rfl (aA t5 (aA t7 (bW (i:=k) (@rfl V (V.ms 27 w0 0 (S.l.length))) (@rfl V (iV ((k:Nat):Int))) h27 oB rfl (by omega) (aO rfl h27 (bF (v:=(iV (((nth (S.l) (k))).1))) rfl h27 (cD (by omega) (by first|rfl|(rw [cF_eq]; rfl)|simp [ldV,V.one])) (fY (i:=(((nth (S.l) (k))).1)) (@rfl V (aB t.ot)) (@rfl V (iV (((nth (S.l) (k))).1))) (by omega) (by omega) rfl ?_)))))))
    refine aJ rfl rfl (aA t10 (bK (i:=i) (@rfl V (aY ((nth (t.ot) (((nth (S.l) (k))).1).toNat)))) (@rfl V (iV ((i:Nat):Int))) (by omega) rfl (aJ rfl rfl (aO t1 h1 (aK rfl h1 rfl rfl (bE (aCk ((t.tm)) ⟨by omega,by omega⟩) rfl (yD rfl rfl (by omega) (by omega) ?_)))))))
    refine jB rfl rfl (by omega) (by omega) (aA rfl (jB rfl rfl (by omega) (by omega) (aA rfl ?_)))
    exact fQ ⟨t1,t2,t5,t6,t7,t8,t9,t10,rfl,rfl,h1,h2,h6,h8,h9,rfl,h25,h27,h812,h813,trivial⟩
   intro T H ⟨t1,t2,t5,t6,t7,t8,t9,t10,t11,t13,h1,h2,h6,h8,h9,h11,h25,h27,h812,h813,_⟩
   refine aC (W_r (aA t13 (fP rfl rfl (R_e ?_))))
   refine aL rfl (fun c11=>?_) fun c11=>?_
   ·
    have hx:=hc.trans (lG (by omega) (by omega) (hr.trans (aDO (by omega) d3b c11)) (by decide))
    refine aC (W_r (dS rfl rfl (cF (vs:=[(iV (0:Int)),(iV (0:Int)),V.nilsl,V.nilsl]) (B':=(bk 1 24 4 [[(iV (0:Int)),(iV (0:Int)),V.nilsl,V.nilsl]])) t2 rfl rfl h2 (sB oB rfl rfl rfl rfl rfl) (aA rfl (R_e (aR (y9 _ _ ?_)))))))
    refine p27 _ _ (y6 _ _ (y5 _ _ (p23 _ _ (y2 _ _ ?_))))
    refine kG (hY (u:=(V.agg [(iV (0:Int)),(iV (0:Int)),V.nilsl,V.nilsl])) t2 (@rfl Blk (bk 1 24 4 [[(iV (0:Int)),(iV (0:Int)),V.nilsl,V.nilsl]])) (lB oB rfl rfl)) (fT (@rfl V (iV (2:Int)))) (iO (bZ (aM ?_) (bZ (aM ?_) (bZ (dV ?_) (bZ (dV ?_) rfl))))) (aM ?_)
    · rw [dZ (by rw [fN d1 hx]; first|decide|exact d1)]; try rfl
    · rw [dZ (by rw [fN d1 hx]; first|decide|exact d1)]; try rfl
    · rw [dZ (by rw [fN d1 hx]; first|decide|exact d1)]; try rfl
    · rw [dZ (by rw [fN d1 hx]; first|decide|exact d1)]; try rfl
    · rw [fN d1 hx]
   have d5: ¬1048576 < unO t (nth S.l k) i:=c11
   refine aG (W_r (aA t5 (aK t11 h11 rfl rfl (aCd (cW (@rfl V (V.ms 27 w0 0 (S.l.length))) (cW (@rfl V (V.agg [(iV ((afT t (((nth (S.l) (k)))) i).1)),(V.sl (List.map cB ((afT t (((nth (S.l) (k)))) i).2)))])) gT)) (aAK S.l ((afT t (((nth (S.l) (k)))) i)) (fun d hd=>by rw [(hs.all d hd).2.2]; exact (aok.2.2).symm)) (bZ (aAc h27 (by first|rfl|simp) (uF (l:=S.l) (by first|rfl|simp|omega)) (fun _=>by simp)) (bZ (cS 6 _ (by simp [-List.map_take,-List.map_drop,-List.map_append,-List.map_reverse])) rfl)) (by simp [-List.map_take,-List.map_drop,-List.map_append,-List.map_reverse]) (Or.inr rfl) (aA rfl (R_e (aC ?_)))))))
   refine W_r (aA rfl (aA t5 (dX rfl h27 (by first|rfl|simp) (gU rfl rfl (R_e ?_)))))
   refine pL (fun T H=> ∃ (w4:Nat),T 1=(V.mp 1 1 0 0)∧T 2=(V.mp 2 1 0 0)∧T 6=(V.mp 6 1 0 0)∧T 7=(iV ((k:Nat):Int))∧T 8=(V.ms 8 w1 0 (S.a.length))∧T 9=(V.ms 9 w2 0 (S.b.length))∧T 10=(iV ((i:Nat):Int))∧T 13=(iV (((1:Int)+(((nth ((nth (t.ot) (((nth (S.l) (k))).1).toNat)) (i)))*(sgK ((t.tm)))))+(afC t (((nth (S.l) (k)))) i)))∧T 14=(iV ((plc S.l ((afT t (((nth (S.l) (k)))) i)):Nat):Int))∧T 5=(V.ms 27 w4 0 ((cY S.l (afT t (nth S.l k) i)).length))∧H 1=(bk 1 29 6 [[(iV (t.i)),(iV (t.tm)),(iV (t.s)),(aB t.nx),(aB t.ot),(V.sl (List.map cSr (t.st)))]])∧H 2=(bk 1 24 4 [[(iV (0:Int)),(iV (0:Int)),V.nilsl,V.nilsl]])∧H 6=(bk 1 24 4 [[(iV (t.i+t.tm)),(iV (0:Int)),(V.ms 812 v1 0 (U.nx.length)),(V.ms 813 v2 0 (U.ot.length))]])∧H 8=(bz w1 3 1 (List.map cI (S.a)))∧H 9=(bz w2 3 1 (List.map cI (S.b)))∧H 11=(bk (v11+1) 95 2 [[(iV ((afT t (((nth (S.l) (k)))) i).1)),(V.sl (List.map cB ((afT t (((nth (S.l) (k)))) i).2)))]])∧((H 25).ver=1∧(H 25).live=false)∧H 27=(bk w4 95 2 (List.map cCf (cY S.l (afT t (nth S.l k) i))))∧H 812=(bz v1 38 1 (List.map cL (U.nx)))∧H 813=(bz v2 38 1 (List.map cL (U.ot)))∧(¬(plc S.l (afT t (nth S.l k) i)=S.l.length∧plc S.l (afT t (nth S.l k) i)=128))∧True) (fun Q12 n12 y12 z12=>?_) ?_
   ·
    refine fO rfl (fun c13=>?_) fun c13=>?_
    ·
     have d7:plc S.l (afT t (nth S.l k) i)=S.l.length:=by omega
     have e7:cY S.l (afT t (nth S.l k) i)=S.l++[(afT t (nth S.l k) i)]:=if_pos d7
     refine aC (W_r (aA rfl (gU rfl rfl (R_e ?_))))
     refine aL rfl (fun c14=>?_) fun c14=>?_
     ·
      have hx:=hc.trans (lG (by omega) (by omega) (hr.trans (aD8 (by omega) d3b d5 ⟨d7,by omega⟩)) (by decide))
      refine aC (W_r (dS rfl rfl (cF (vs:=[(iV (0:Int)),(iV (0:Int)),V.nilsl,V.nilsl]) (B':=(bk 1 24 4 [[(iV (0:Int)),(iV (0:Int)),V.nilsl,V.nilsl]])) t2 rfl rfl h2 (sB oB rfl rfl rfl rfl rfl) (aA rfl (R_e (aR (y12 _ _ ?_)))))))
      refine y9 _ _ (p27 _ _ (y6 _ _ (y5 _ _ (p23 _ _ (y2 _ _ ?_)))))
      refine kG (hY (u:=(V.agg [(iV (0:Int)),(iV (0:Int)),V.nilsl,V.nilsl])) t2 (@rfl Blk (bk 1 24 4 [[(iV (0:Int)),(iV (0:Int)),V.nilsl,V.nilsl]])) (lB oB rfl rfl)) (fT (@rfl V (iV (11:Int)))) (iO (bZ (aM ?_) (bZ (aM ?_) (bZ (dV ?_) (bZ (dV ?_) rfl))))) (aM ?_)
      · rw [dZ (by rw [fN d1 hx]; first|decide|exact d1)]; try rfl
      · rw [dZ (by rw [fN d1 hx]; first|decide|exact d1)]; try rfl
      · rw [dZ (by rw [fN d1 hx]; first|decide|exact d1)]; try rfl
      · rw [dZ (by rw [fN d1 hx]; first|decide|exact d1)]; try rfl
      · rw [fN d1 hx]
     have d6: ¬(plc S.l (afT t (nth S.l k) i)=S.l.length∧plc S.l (afT t (nth S.l k) i)=128):=fun z=>c14 (by omega)
     refine aG (W_t (aA t5 (aK t11 h11 rfl rfl (cQ rfl rfl (dH (l:=S.l) (f:=cCf) (x:=((afT t (((nth (S.l) (k)))) i))) (@rfl V (V.ms 27 w0 0 (S.l.length))) h27 (by first|rfl|simp|omega) (@rfl V (V.sl [[(iV ((afT t (((nth (S.l) (k)))) i).1)),(V.sl (List.map cB ((afT t (((nth (S.l) (k)))) i).2)))]])) rfl rfl (by omega) (by omega) (aA rfl (R_e ?_)))))))
     refine n12 _ _ ⟨(w0+1),t1,t2,t6,t7,t8,t9,t10,t13,rfl,(Eq.trans (@rfl V (V.ms 27 (w0+1) 0 (S.l.length+1))) (by first|rfl|(rw [e7,List.length_append]; rfl)|(rw [e7]; done)|simp)),h1,h2,h6,h8,h9,h11,h25,(Eq.trans (@rfl Blk (bk (w0+1) 95 2 (List.map cCf (S.l++[(afT t (((nth (S.l) (k)))) i)])))) (by first|rfl|(rw [e7,List.map_append]; rfl)|(rw [e7]; done)|(rw [e7]; rfl)|simp)),h812,h813,?_,trivial⟩
     · exact d6
    have d7: ¬plc S.l (afT t (nth S.l k) i)=S.l.length:=by omega
    have e7:cY S.l (afT t (nth S.l k) i)=S.l:=if_neg d7
    have d6: ¬(plc S.l (afT t (nth S.l k) i)=S.l.length∧plc S.l (afT t (nth S.l k) i)=128):=fun z=>d7 z.1
    refine dC ?_
    refine n12 _ _ ⟨w0,t1,t2,t6,t7,t8,t9,t10,t13,rfl,(Eq.trans t5 (by first|rfl|(rw [e7,List.length_append]; rfl)|(rw [e7]; done)|simp)),h1,h2,h6,h8,h9,h11,h25,(Eq.trans h27 (by first|rfl|(rw [e7,List.map_append]; rfl)|(rw [e7]; done)|(rw [e7]; rfl)|simp)),h812,h813,?_,trivial⟩
    · exact d6
   intro T H ⟨w4,t1,t2,t6,t7,t8,t9,t10,t13,t14,t5,h1,h2,h6,h8,h9,h11,h25,h27,h812,h813,d6,_⟩
   refine W_r (aA t8 (aA t14 (cQ rfl rfl (dH (l:=S.a) (f:=cI) (x:=(((plc S.l ((afT t (((nth (S.l) (k)))) i)):Nat):Int))) (@rfl V (V.ms 8 w1 0 (S.a.length))) h8 (by first|rfl|simp|omega) (@rfl V (V.sl [[(iV ((plc S.l ((afT t (((nth (S.l) (k)))) i)):Nat):Int))]])) rfl rfl (by omega) (by omega) (aA rfl (R_e (W_t ?_)))))))
   refine aA t9 (aA t13 (cQ rfl rfl (dH (l:=S.b) (f:=cI) (x:=((((1:Int)+(((nth ((nth (t.ot) (((nth (S.l) (k))).1).toNat)) (i)))*(sgK ((t.tm)))))+(afC t (((nth (S.l) (k)))) i)))) (@rfl V (V.ms 9 w2 0 (S.b.length))) h9 (by first|rfl|simp|omega) (@rfl V (V.sl [[(iV (((1:Int)+(((nth ((nth (t.ot) (((nth (S.l) (k))).1).toNat)) (i)))*(sgK ((t.tm)))))+(afC t (((nth (S.l) (k)))) i)))]])) rfl rfl (by omega) (by omega) (aA rfl (R_e (n9 _ _ (cZ (R:=fun T H=>T 1=(V.mp 1 1 0 0)∧T 2=(V.mp 2 1 0 0)∧T 5=(V.ms 27 w4 0 ((cY S.l (afT t (nth S.l k) i)).length))∧T 6=(V.mp 6 1 0 0)∧T 7=(iV ((k:Nat):Int))∧T 8=(V.ms 8 (w1+1) 0 (S.a.length+1))∧T 9=(V.ms 9 (w2+1) 0 (S.b.length+1))∧T 10=(iV ((i:Nat):Int))∧H 1=(bk 1 29 6 [[(iV (t.i)),(iV (t.tm)),(iV (t.s)),(aB t.nx),(aB t.ot),(V.sl (List.map cSr (t.st)))]])∧H 2=(bk 1 24 4 [[(iV (0:Int)),(iV (0:Int)),V.nilsl,V.nilsl]])∧H 6=(bk 1 24 4 [[(iV (t.i+t.tm)),(iV (0:Int)),(V.ms 812 v1 0 (U.nx.length)),(V.ms 813 v2 0 (U.ot.length))]])∧H 8=(bz (w1+1) 3 1 (List.map cI (S.a++[((plc S.l ((afT t (((nth (S.l) (k)))) i)):Nat):Int)])))∧H 9=(bz (w2+1) 3 1 (List.map cI (S.b++[(((1:Int)+(((nth ((nth (t.ot) (((nth (S.l) (k))).1).toNat)) (i)))*(sgK ((t.tm)))))+(afC t (((nth (S.l) (k)))) i))])))∧H 11=(bk (v11+1) 95 2 [[(iV ((afT t (((nth (S.l) (k)))) i).1)),(V.sl (List.map cB ((afT t (((nth (S.l) (k)))) i).2)))]])∧((H 25).ver=1∧(H 25).live=false)∧H 27=(bk w4 95 2 (List.map cCf (cY S.l (afT t (nth S.l k) i))))∧H 812=(bz v1 38 1 (List.map cL (U.nx)))∧H 813=(bz v2 38 1 (List.map cL (U.ot)))∧True) ⟨t1,t2,t5,t6,t7,(@rfl V (V.ms 8 (w1+1) 0 (S.a.length+1))),(@rfl V (V.ms 9 (w2+1) 0 (S.b.length+1))),t10,h1,h2,h6,rfl,rfl,h11,h25,h27,h812,h813,trivial⟩ ?_)))))))
   intro T H ⟨t1,t2,t5,t6,t7,t8,t9,t10,h1,h2,h6,h8,h9,h11,h25,h27,h812,h813,_⟩
   refine .freeze 11 (.done ?_)
   refine cZ (R:=fun T H=>T 1=(V.mp 1 1 0 0)∧T 2=(V.mp 2 1 0 0)∧T 5=(V.ms 27 w4 0 ((cY S.l (afT t (nth S.l k) i)).length))∧T 6=(V.mp 6 1 0 0)∧T 7=(iV ((k:Nat):Int))∧T 8=(V.ms 8 (w1+1) 0 (S.a.length+1))∧T 9=(V.ms 9 (w2+1) 0 (S.b.length+1))∧T 10=(iV ((i:Nat):Int))∧H 1=(bk 1 29 6 [[(iV (t.i)),(iV (t.tm)),(iV (t.s)),(aB t.nx),(aB t.ot),(V.sl (List.map cSr (t.st)))]])∧H 2=(bk 1 24 4 [[(iV (0:Int)),(iV (0:Int)),V.nilsl,V.nilsl]])∧H 6=(bk 1 24 4 [[(iV (t.i+t.tm)),(iV (0:Int)),(V.ms 812 v1 0 (U.nx.length)),(V.ms 813 v2 0 (U.ot.length))]])∧H 8=(bz (w1+1) 3 1 (List.map cI (S.a++[((plc S.l ((afT t (((nth (S.l) (k)))) i)):Nat):Int)])))∧H 9=(bz (w2+1) 3 1 (List.map cI (S.b++[(((1:Int)+(((nth ((nth (t.ot) (((nth (S.l) (k))).1).toNat)) (i)))*(sgK ((t.tm)))))+(afC t (((nth (S.l) (k)))) i))])))∧((H 11).ver=v11+1∧(H 11).live=false)∧((H 25).ver=1∧(H 25).live=false)∧H 27=(bk w4 95 2 (List.map cCf (cY S.l (afT t (nth S.l k) i))))∧H 812=(bz v1 38 1 (List.map cL (U.nx)))∧H 813=(bz v2 38 1 (List.map cL (U.ot)))∧True) ⟨(bA t1 rfl),(bA t2 rfl),(bA t5 (cR (by decide))),(bA t6 rfl),(bA t7 rfl),(bA t8 (cR (by decide))),(bA t9 (cR (by decide))),(bA t10 rfl),(aS h1 (by decide)),(aS h2 (by decide)),(aS h6 (by decide)),(aS h8 (by decide)),(aS h9 (by decide)),(eL (congrArg Blk.ver h11)),(fS h25),(aS h27 (by decide)),(aS h812 (by decide)),(aS h813 (by decide)),trivial⟩ ?_
   intro T H ⟨t1,t2,t5,t6,t7,t8,t9,t10,h1,h2,h6,h8,h9,h11,h25,h27,h812,h813,_⟩
   refine W_t (aA t10 (bS rfl (@rfl V (iV ((1:Nat):Int))) (by omega) (aA rfl (R_e ?_))))
   refine p17 _ _ _ ?_ ⟨(i+1),⟨cY S.l (afT t (nth S.l k) i),S.a++[((plc S.l (afT t (nth S.l k) i):Nat):Int)],S.b++[unO t (nth S.l k) i]⟩,w4,(w1+1),(w2+1),(v11+1),rfl,t1,t2,(Eq.trans t5 (by first|rfl|(rw [e7,List.length_append]; rfl)|(rw [e7]; done)|simp)),t6,t7,(Eq.trans t8 (by first|rfl|(rw [e7,List.length_append]; rfl)|(rw [e7]; done)|simp)),(Eq.trans t9 (by first|rfl|(rw [e7,List.length_append]; rfl)|(rw [e7]; done)|simp)),(Eq.trans (@rfl V (iV ((i+1:Nat):Int))) (by first|rfl|(rw [e7,List.length_append]; rfl)|(rw [e7]; done)|simp)),h1,h2,h6,(Eq.trans h8 (by first|rfl|(rw [e7,List.map_append]; rfl)|(rw [e7]; done)|(rw [e7]; rfl)|simp)),(Eq.trans h9 (by first|rfl|(rw [e7,List.map_append]; rfl)|(rw [e7]; done)|(rw [e7]; rfl)|simp)),h11,h25,(Eq.trans h27 (by first|rfl|(rw [e7,List.map_append]; rfl)|(rw [e7]; done)|(rw [e7]; rfl)|simp)),h812,h813,?_,?_,?_,?_,?_⟩
   · omega
   · omega
   · first|exact hs|exact hs.add aok d6
   · first|exact hsl|exact ⟨(iY (by omega)).1.trans hsl.1,Nat.le_trans hsl.2 (iY (k:=k) (by omega)).2⟩
   · simp only [List.length_append,List.length_singleton]; omega
   · first|exact hr.trans (tO (by omega) d3)|exact hr.trans (vC (by omega) d3b d5 d6)
  have hrow:=hr.trans (xE (by omega))
  refine aT (p37 _ _ _ (x6 _ _ (cZ (R:=fun T H=>T 1=(V.mp 1 1 0 0)∧T 2=(V.mp 2 1 0 0)∧T 5=(V.ms 27 w0 0 (S.l.length))∧T 6=(V.mp 6 1 0 0)∧T 7=(iV ((k:Nat):Int))∧T 8=(V.ms 8 w1 0 (S.a.length))∧T 9=(V.ms 9 w2 0 (S.b.length))∧T 10=(iV ((i:Nat):Int))∧T 43=(V.bool (decide (((i:Nat):Int) < (t.i+t.tm))))∧H 1=(bk 1 29 6 [[(iV (t.i)),(iV (t.tm)),(iV (t.s)),(aB t.nx),(aB t.ot),(V.sl (List.map cSr (t.st)))]])∧H 2=(bk 1 24 4 [[(iV (0:Int)),(iV (0:Int)),V.nilsl,V.nilsl]])∧H 6=(bk 1 24 4 [[(iV (t.i+t.tm)),(iV (0:Int)),(V.ms 812 v1 0 (U.nx.length)),(V.ms 813 v2 0 (U.ot.length))]])∧H 8=(bz w1 3 1 (List.map cI (S.a)))∧H 9=(bz w2 3 1 (List.map cI (S.b)))∧((H 11).ver=v11∧(H 11).live=false)∧((H 25).ver=1∧(H 25).live=false)∧H 27=(bk w0 95 2 (List.map cCf (S.l)))∧H 812=(bz v1 38 1 (List.map cL (U.nx)))∧H 813=(bz v2 38 1 (List.map cL (U.ot)))∧True) ⟨t1,t2,t5,t6,t7,t8,t9,t10,(@rfl V (V.bool (decide (((i:Nat):Int) < (t.i+t.tm))))),h1,h2,h6,h8,h9,h11,h25,h27,h812,h813,trivial⟩ ?_)))
  intro T H ⟨t1,t2,t5,t6,t7,t8,t9,t10,t43,h1,h2,h6,h8,h9,h11,h25,h27,h812,h813,_⟩
  refine .freeze 8 (.done ?_)
  refine cZ (R:=fun T H=>T 1=(V.mp 1 1 0 0)∧T 2=(V.mp 2 1 0 0)∧T 5=(V.ms 27 w0 0 (S.l.length))∧T 6=(V.mp 6 1 0 0)∧T 7=(iV ((k:Nat):Int))∧T 8=(aY S.a)∧T 9=(V.ms 9 w2 0 (S.b.length))∧T 10=(iV ((i:Nat):Int))∧T 43=(V.bool (decide (((i:Nat):Int) < (t.i+t.tm))))∧H 1=(bk 1 29 6 [[(iV (t.i)),(iV (t.tm)),(iV (t.s)),(aB t.nx),(aB t.ot),(V.sl (List.map cSr (t.st)))]])∧H 2=(bk 1 24 4 [[(iV (0:Int)),(iV (0:Int)),V.nilsl,V.nilsl]])∧H 6=(bk 1 24 4 [[(iV (t.i+t.tm)),(iV (0:Int)),(V.ms 812 v1 0 (U.nx.length)),(V.ms 813 v2 0 (U.ot.length))]])∧((H 8).ver=w1∧(H 8).live=false)∧H 9=(bz w2 3 1 (List.map cI (S.b)))∧((H 11).ver=v11∧(H 11).live=false)∧((H 25).ver=1∧(H 25).live=false)∧H 27=(bk w0 95 2 (List.map cCf (S.l)))∧H 812=(bz v1 38 1 (List.map cL (U.nx)))∧H 813=(bz v2 38 1 (List.map cL (U.ot)))∧True) ⟨(bA t1 rfl),(bA t2 rfl),(bA t5 (cR (by decide))),(bA t6 rfl),(bA t7 rfl),(bA t8 (pO h8 (by first|rfl|simp) (l:=S.a) rfl (by first|rfl|simp|omega))),(bA t9 (cR (by decide))),(bA t10 rfl),(bA t43 rfl),(aS h1 (by decide)),(aS h2 (by decide)),(aS h6 (by decide)),(eL (congrArg Blk.ver h8)),(aS h9 (by decide)),(fS h11),(fS h25),(aS h27 (by decide)),(aS h812 (by decide)),(aS h813 (by decide)),trivial⟩ ?_
  intro T H ⟨t1,t2,t5,t6,t7,t8,t9,t10,t43,h1,h2,h6,h8,h9,h11,h25,h27,h812,h813,_⟩
  refine pX (fun T H=>T 1=(V.mp 1 1 0 0)∧T 2=(V.mp 2 1 0 0)∧T 5=(V.ms 27 w0 0 (S.l.length))∧T 6=(V.mp 6 1 0 0)∧T 7=(iV ((k:Nat):Int))∧T 9=(V.ms 9 w2 0 (S.b.length))∧H 1=(bk 1 29 6 [[(iV (t.i)),(iV (t.tm)),(iV (t.s)),(aB t.nx),(aB t.ot),(V.sl (List.map cSr (t.st)))]])∧H 2=(bk 1 24 4 [[(iV (0:Int)),(iV (0:Int)),V.nilsl,V.nilsl]])∧H 6=(bk 1 24 4 [[(iV (t.i+t.tm)),(iV (0:Int)),(V.ms 812 (v1+1) 0 (U.nx.length+1)),(V.ms 813 v2 0 (U.ot.length))]])∧((H 8).ver=w1∧(H 8).live=false)∧H 9=(bz w2 3 1 (List.map cI (S.b)))∧((H 11).ver=v11∧(H 11).live=false)∧((H 25).ver=1∧(H 25).live=false)∧H 27=(bk w0 95 2 (List.map cCf (S.l)))∧H 812=(bz (v1+1) 38 1 (List.map cL (U.nx++[S.a])))∧H 813=(bz v2 38 1 (List.map cL (U.ot)))∧True) ?_ ?_
  ·
   refine aO t6 h6 (aK rfl h6 rfl rfl (aA t8 (cQ rfl rfl (dH (l:=U.nx) (f:=cL) (x:=S.a) (@rfl V (V.ms 812 v1 0 (U.nx.length))) h812 (by first|rfl|simp|omega) (@rfl V (V.sl [[(aY S.a)]])) rfl rfl (by omega) (by omega) (aO t6 h6 (cF (vs:=[(V.ms 812 (v1+1) 0 (U.nx.length+1))]) (B':=(bk 1 24 4 [[(iV (t.i+t.tm)),(iV (0:Int)),(V.ms 812 (v1+1) 0 (U.nx.length+1)),(V.ms 813 v2 0 (U.ot.length))]])) rfl rfl rfl h6 (sB oB rfl rfl rfl rfl rfl) ?_))))))
   exact fQ ⟨t1,t2,t5,t6,t7,t9,h1,h2,rfl,h8,h9,h11,h25,h27,rfl,h813,trivial⟩
  intro T H ⟨t1,t2,t5,t6,t7,t9,h1,h2,h6,h8,h9,h11,h25,h27,h812,h813,_⟩
  refine .freeze 9 (.done ?_)
  refine cZ (R:=fun T H=>T 1=(V.mp 1 1 0 0)∧T 2=(V.mp 2 1 0 0)∧T 5=(V.ms 27 w0 0 (S.l.length))∧T 6=(V.mp 6 1 0 0)∧T 7=(iV ((k:Nat):Int))∧T 9=(aY S.b)∧H 1=(bk 1 29 6 [[(iV (t.i)),(iV (t.tm)),(iV (t.s)),(aB t.nx),(aB t.ot),(V.sl (List.map cSr (t.st)))]])∧H 2=(bk 1 24 4 [[(iV (0:Int)),(iV (0:Int)),V.nilsl,V.nilsl]])∧H 6=(bk 1 24 4 [[(iV (t.i+t.tm)),(iV (0:Int)),(V.ms 812 (v1+1) 0 (U.nx.length+1)),(V.ms 813 v2 0 (U.ot.length))]])∧((H 8).ver=w1∧(H 8).live=false)∧((H 9).ver=w2∧(H 9).live=false)∧((H 11).ver=v11∧(H 11).live=false)∧((H 25).ver=1∧(H 25).live=false)∧H 27=(bk w0 95 2 (List.map cCf (S.l)))∧H 812=(bz (v1+1) 38 1 (List.map cL (U.nx++[S.a])))∧H 813=(bz v2 38 1 (List.map cL (U.ot)))∧True) ⟨(bA t1 rfl),(bA t2 rfl),(bA t5 (cR (by decide))),(bA t6 rfl),(bA t7 rfl),(bA t9 (pO h9 (by first|rfl|simp) (l:=S.b) rfl (by first|rfl|simp|omega))),(aS h1 (by decide)),(aS h2 (by decide)),(aS h6 (by decide)),(fS h8),(eL (congrArg Blk.ver h9)),(fS h11),(fS h25),(aS h27 (by decide)),(aS h812 (by decide)),(aS h813 (by decide)),trivial⟩ ?_
  intro T H ⟨t1,t2,t5,t6,t7,t9,h1,h2,h6,h8,h9,h11,h25,h27,h812,h813,_⟩
  refine W_t (aO t6 h6 (aK rfl h6 rfl rfl (aA t9 (cQ rfl rfl (dH (l:=U.ot) (f:=cL) (x:=S.b) (@rfl V (V.ms 813 v2 0 (U.ot.length))) h813 (by first|rfl|simp|omega) (@rfl V (V.sl [[(aY S.b)]])) rfl rfl (by omega) (by omega) (aO t6 h6 (cF (vs:=[(V.ms 813 (v2+1) 0 (U.ot.length+1))]) (B':=(bk 1 24 4 [[(iV (t.i+t.tm)),(iV (0:Int)),(V.ms 812 (v1+1) 0 (U.nx.length+1)),(V.ms 813 (v2+1) 0 (U.ot.length+1))]])) rfl rfl rfl h6 (sB oB rfl rfl rfl rfl rfl) ?_)))))))
  refine R_e (n5 _ _ (.done (W_t (aA t7 (bS rfl (@rfl V (iV ((1:Nat):Int))) (by omega) (aA rfl (R_e ?_)))))))
  refine p13 _ _ _ ?_ ⟨(k+1),⟨S.l,U.nx++[S.a],U.ot++[S.b]⟩,w0,(v1+1),(v2+1),w1,w2,v11,rfl,t1,t2,(Eq.trans t5 (by first|rfl|(rw [e7,List.length_append]; rfl)|(rw [e7]; done)|simp)),t6,(Eq.trans (@rfl V (iV ((k+1:Nat):Int))) (by first|rfl|(rw [e7,List.length_append]; rfl)|(rw [e7]; done)|simp)),h1,h2,(Eq.trans (@rfl Blk (bk 1 24 4 [[(iV (t.i+t.tm)),(iV (0:Int)),(V.ms 812 (v1+1) 0 (U.nx.length+1)),(V.ms 813 (v2+1) 0 (U.ot.length+1))]])) (by first|rfl|(rw [e7,List.map_append]; rfl)|(rw [e7]; done)|(rw [e7]; rfl)|simp)),h8,h9,h11,h25,(Eq.trans h27 (by first|rfl|(rw [e7,List.map_append]; rfl)|(rw [e7]; done)|(rw [e7]; rfl)|simp)),(Eq.trans h812 (by first|rfl|(rw [e7,List.map_append]; rfl)|(rw [e7]; done)|(rw [e7]; rfl)|simp)),(Eq.trans (@rfl Blk (bz (v2+1) 38 1 (List.map cL (U.ot++[S.b])))) (by first|rfl|(rw [e7,List.map_append]; rfl)|(rw [e7]; done)|(rw [e7]; rfl)|simp)),?_,?_,?_,?_⟩
  · have:=hu.len; omega
  · show k+1≤S.l.length; have:=hsl.2; omega
  · exact hs
  · simp only [List.length_append,List.length_singleton]; omega
  · exact hc.trans (aAX (by omega) (by omega) hrow)
 have hx:=hc.trans (yE (by omega))
 refine aT (p33 _ _ _ (x2 _ _ (.done (W_r (aK t6 h6 rfl rfl (cF (vs:=[(iV (t.i+t.tm)),(iV (0:Int)),(V.ms 812 v1 0 (U.nx.length)),(V.ms 813 v2 0 (U.ot.length))]) (B':=(bk 1 24 4 [[(iV (t.i+t.tm)),(iV (0:Int)),(V.ms 812 v1 0 (U.nx.length)),(V.ms 813 v2 0 (U.ot.length))]])) t2 rfl rfl h2 (sB oB rfl rfl rfl rfl rfl) (aA rfl ?_)))))))
 refine R_e (bI ?_)
 refine kG (hY (u:=(V.agg [(iV (t.i+t.tm)),(iV (0:Int)),(V.ms 812 v1 0 (U.nx.length)),(V.ms 813 v2 0 (U.ot.length))])) t2 (@rfl Blk (bk 1 24 4 [[(iV (t.i+t.tm)),(iV (0:Int)),(V.ms 812 v1 0 (U.nx.length)),(V.ms 813 v2 0 (U.ot.length))]])) (lB oB rfl rfl)) (fT (@rfl V (iV (0:Int)))) (iO (bZ (aM ?_) (bZ (aM ?_) (bZ (nI h812 (by first|rfl|simp) (l:=U.nx) rfl (by first|rfl|simp|omega) (fun _=>by simp) ?_) (bZ (nI h813 (by first|rfl|simp) (l:=U.ot) rfl (by first|rfl|simp|omega) (fun _=>by simp) ?_) rfl))))) (aM ?_)
 · rw [jY d1 hx]
 · rw [jY d1 hx]
 · rw [jY d1 hx]
 · rw [jY d1 hx]
 · exact (fN d1 hx).symm
end Go.Proofs.YtilfohjlglefjaaGreat
namespace Go.Proofs.YtilfohjlglefjaaGreat
open Go Go.Proofs
def aRN:List SO:=[
 qL 17 4 2,
 qL 18 4 3,
 qF 19 1 2,
 ql 20 19,
 qF 21 1 3,
 ql 22 21,
 sO 23 (.call false 68 [.t 17,.t 18,.t 20,.t 22]),
 qM 16 23,
 qE 24 16 0,
 qE 25 16 1,
 qM 8 24,
 qM 9 25]
def s42:SF:=⟨28,[.tmp 4,.tmp 5,.tmp 6],.seq (.reg [sO 2 (.box 24 4 (.t 0)),sO 3 (.box 24 4 (.t 1)),sO 4 (.mv (.c (.nilsl))),sO 5 (.mv (.c (.bool false))),qI 6 0]) (.seq (.seq (.reg [qL 10 4 2,qL 11 4 3,sO 12 (.call false 67 [.t 10,.t 11]),qM 7 12]) (.seq (.reg [qM 13 7,qC 14 .neq 13 0]) (.cond (.t 14) (.seq (.reg [qM 15 7,sO 4 (.mv (.c (.nilsl))),sO 5 (.mv (.c (.bool false))),qM 6 15]) (.ret)) (.skip)))) (.seq (.reg aRN) (.seq (.reg [qM 26 8,qM 27 9,qM 4 26,qM 5 27,qI 6 0]) (.ret))))⟩
theorem aNd:aN Tryz.prog ⟨[58,129,130,131,149,155,161,182,183,185,191,192,208,209,210,224,228,231,236],[],[],[]⟩ Tryz.f42=some s42:=by kernel_rfl
def s67:SF:=⟨22,[.tmp 4],.seq (.reg [sO 2 (.box 24 4 (.t 0)),sO 3 (.box 24 4 (.t 1)),qI 4 0]) (.seq (.seq (.reg [qL 7 4 2,sO 8 (.call false 35 [.t 7]),qM 5 8]) (.seq (.reg [qM 9 5,qC 10 .neq 9 0]) (.cond (.t 10) (.seq (.reg [qM 11 5,qM 4 11]) (.ret)) (.skip)))) (.seq (.seq (.reg [qL 12 4 3,sO 13 (.call false 35 [.t 12]),qM 6 13]) (.seq (.reg [qM 14 6,qC 15 .neq 14 0]) (.cond (.t 15) (.seq (.reg [qM 16 6,qM 4 16]) (.ret)) (.skip)))) (.seq (.seq (.reg [qF 17 0 2,ql 18 17,qF 19 0 3,ql 20 19,qP 21 .neq 18 20]) (.cond (.t 21) (.seq (.reg [qI 4 15]) (.ret)) (.skip))) (.seq (.reg [qI 4 0]) (.ret)))))⟩
theorem aPE:aN Tryz.prog ⟨[58,129,130,131,149,155,161,182,183,185,191,192,208,209,210,224,228,231,236],[],[],[]⟩ Tryz.f67=some s67:=by kernel_rfl
def aRX:List SO:=[
 qF 5 0 1,
 ql 6 5,
 qC 7 .lss 6 1,
 qM 8 7,
 ⟨some (8,false),some 9,.fld 0 (.t 1)⟩,
 ⟨some (8,false),some 10,.load false 1 (.t 9)⟩,
 ⟨some (8,false),some 11,.bin .gtr (.t 10) (.c (.int .i64 64))⟩,
 sO 12 (.pick (.t 8) (.c (.bool true)) (.t 11))]
def aQZ:List SO:=[
 qF 21 1 1,
 ql 22 21,
 qC 23 .lss 22 0,
 qM 24 23,
 ⟨some (24,false),some 25,.fld 1 (.t 1)⟩,
 ⟨some (24,false),some 26,.load false 1 (.t 25)⟩,
 ⟨some (24,false),some 27,.fld 2 (.t 1)⟩,
 ⟨some (24,false),some 28,.load false 1 (.t 27)⟩,
 ⟨some (24,false),some 29,.len (.t 28)⟩,
 ⟨some (24,false),some 30,.bin .geq (.t 26) (.t 29)⟩,
 sO 31 (.pick (.t 24) (.c (.bool true)) (.t 30))]
def aRF:List SO:=[
 qF 32 3 1,
 ql 33 32,
 qN 34 33,
 qF 35 2 1,
 ql 36 35,
 qN 37 36,
 qP 38 .neq 34 37]
def aK4:SC:=.seq (.seq (.reg [qM 39 3,qF 40 2 1,ql 41 40,qN 42 41,qP 43 .lss 39 42]) (.cond (.t 43) (.skip) (.exit 0))) (.seq (.block 1 (.seq (.reg [qL 46 4 1,qM 47 3,sO 48 (.call false 60 [.t 46,.t 47]),qM 4 48]) (.seq (.reg [qM 49 4,qC 50 .neq 49 0]) (.cond (.t 50) (.seq (.reg [qM 51 4,qM 2 51]) (.ret)) (.skip))))) (.reg [qM 44 3,qC 45 .add 44 1,qM 3 45]))
def s35:SF:=⟨52,[.tmp 2],.seq (.reg [sO 1 (.box 24 4 (.t 0)),qI 2 0]) (.seq (.seq (.reg aRX) (.cond (.t 12) (.seq (.reg [qI 2 2]) (.ret)) (.skip))) (.seq (.seq (.reg [qF 13 2 1,ql 14 13,qN 15 14,qC 16 .eql 15 0]) (.cond (.t 16) (.seq (.reg [qI 2 19]) (.ret)) (.skip))) (.seq (.seq (.reg [qF 17 2 1,ql 18 17,qN 19 18,qC 20 .gtr 19 128]) (.cond (.t 20) (.seq (.reg [qI 2 11]) (.ret)) (.skip))) (.seq (.seq (.reg aQZ) (.cond (.t 31) (.seq (.reg [qI 2 2]) (.ret)) (.skip))) (.seq (.seq (.reg aRF) (.cond (.t 38) (.seq (.reg [qI 2 1]) (.ret)) (.skip))) (.seq (.seq (.reg [qI 3 0]) (.block 0 (.loop aK4))) (.seq (.reg [qI 2 0]) (.ret))))))))⟩
theorem aMI:aN Tryz.prog ⟨[58,129,130,131,149,155,161,182,183,185,191,192,208,209,210,224,228,231,236],[],[],[]⟩ Tryz.f35=some s35:=by kernel_rfl
def aSO:List SO:=[
 qF 6 2 2,
 ql 7 6,
 qM 8 1,
 qA 9 1 7 8,
 ql 10 9,
 qN 11 10,
 qF 12 0 2,
 ql 13 12,
 qP 14 .neq 11 13,
 qM 15 14,
 ⟨some (15,false),some 16,.fld 3 (.t 2)⟩,
 ⟨some (15,false),some 17,.load false 1 (.t 16)⟩,
 ⟨some (15,false),some 18,.mv (.t 1)⟩,
 ⟨some (15,false),some 19,.idx 1 (.t 17) (.t 18)⟩,
 ⟨some (15,false),some 20,.load false 1 (.t 19)⟩,
 ⟨some (15,false),some 21,.len (.t 20)⟩,
 ⟨some (15,false),some 22,.fld 0 (.t 2)⟩,
 ⟨some (15,false),some 23,.load false 1 (.t 22)⟩,
 ⟨some (15,false),some 24,.bin .neq (.t 21) (.t 23)⟩,
 sO 25 (.pick (.t 15) (.c (.bool true)) (.t 24))]
def aQT:List SO:=[
 qF 32 2 2,
 ql 33 32,
 qM 34 1,
 qA 35 1 33 34,
 ql 36 35,
 qM 37 5,
 qA 38 1 36 37,
 ql 39 38,
 qC 40 .lss 39 0,
 qM 41 40,
 ⟨some (41,false),some 42,.fld 2 (.t 2)⟩,
 ⟨some (41,false),some 43,.load false 1 (.t 42)⟩,
 ⟨some (41,false),some 44,.mv (.t 1)⟩,
 ⟨some (41,false),some 45,.idx 1 (.t 43) (.t 44)⟩,
 ⟨some (41,false),some 46,.load false 1 (.t 45)⟩,
 ⟨some (41,false),some 47,.mv (.t 5)⟩,
 ⟨some (41,false),some 48,.idx 1 (.t 46) (.t 47)⟩,
 ⟨some (41,false),some 49,.load false 1 (.t 48)⟩,
 ⟨some (41,false),some 50,.fld 2 (.t 2)⟩,
 ⟨some (41,false),some 51,.load false 1 (.t 50)⟩,
 ⟨some (41,false),some 52,.len (.t 51)⟩,
 ⟨some (41,false),some 53,.bin .geq (.t 49) (.t 52)⟩,
 sO 54 (.pick (.t 41) (.c (.bool true)) (.t 53)),
 qM 55 54,
 ⟨some (55,false),some 56,.fld 3 (.t 2)⟩,
 ⟨some (55,false),some 57,.load false 1 (.t 56)⟩,
 ⟨some (55,false),some 58,.mv (.t 1)⟩,
 ⟨some (55,false),some 59,.idx 1 (.t 57) (.t 58)⟩,
 ⟨some (55,false),some 60,.load false 1 (.t 59)⟩,
 ⟨some (55,false),some 61,.mv (.t 5)⟩,
 ⟨some (55,false),some 62,.idx 1 (.t 60) (.t 61)⟩,
 ⟨some (55,false),some 63,.load false 1 (.t 62)⟩,
 ⟨some (55,false),some 64,.bin .lss (.t 63) (.c (.int .i64 0))⟩,
 sO 65 (.pick (.t 55) (.c (.bool true)) (.t 64)),
 qM 66 65,
 ⟨some (66,false),some 67,.fld 3 (.t 2)⟩,
 ⟨some (66,false),some 68,.load false 1 (.t 67)⟩,
 ⟨some (66,false),some 69,.mv (.t 1)⟩,
 ⟨some (66,false),some 70,.idx 1 (.t 68) (.t 69)⟩,
 ⟨some (66,false),some 71,.load false 1 (.t 70)⟩,
 ⟨some (66,false),some 72,.mv (.t 5)⟩,
 ⟨some (66,false),some 73,.idx 1 (.t 71) (.t 72)⟩,
 ⟨some (66,false),some 74,.load false 1 (.t 73)⟩,
 ⟨some (66,false),some 75,.bin .gtr (.t 74) (.c (.int .i64 1048576))⟩,
 sO 76 (.pick (.t 66) (.c (.bool true)) (.t 75))]
def aKu:SC:=.seq (.seq (.reg [qM 26 5,qF 27 0 2,ql 28 27,qP 29 .lss 26 28]) (.cond (.t 29) (.skip) (.exit 0))) (.seq (.block 1 (.seq (.reg aQT) (.cond (.t 76) (.seq (.reg [qI 4 2]) (.ret)) (.skip)))) (.reg [qM 30 5,qC 31 .add 30 1,qM 5 31]))
def s60:SF:=⟨77,[.tmp 4],.seq (.reg [sO 2 (.box 24 4 (.t 0)),qI 4 0]) (.seq (.seq (.reg aSO) (.cond (.t 25) (.seq (.reg [qI 4 1]) (.ret)) (.skip))) (.seq (.seq (.reg [qI 5 0]) (.block 0 (.loop aKu))) (.seq (.reg [qI 4 0]) (.ret))))⟩
theorem aMq:aN Tryz.prog ⟨[58,129,130,131,149,155,161,182,183,185,191,192,208,209,210,224,228,231,236],[],[],[]⟩ Tryz.f60=some s60:=by kernel_rfl
theorem aFL (m:M) (s:Nat) (h1:s < m.nx.length) (h2:s < m.ot.length) (hi:1≤m.i∧m.i≤64):aZ Tryz.prog 60 [(V.agg [(iV (m.i)),(iV (m.s)),(aB m.nx),(aB m.ot)]),(iV ((s:Nat):Int))] (iV (oG m s)):=by
 refine pW Tryz.func60 aMq fun hB=>?_
 unfold s60
 dsimp only
 refine W_r (dK (i:=2) (n:=0) (m:=4) (cs:=[(iV (m.i)),(iV (m.s)),(aB m.nx),(aB m.ot)]) rfl (congrArg Blk.ver rfl) rfl rfl rfl (aA rfl (R_e (aC (W_r (aO rfl rfl (aK rfl rfl rfl rfl ?_)))))))
 refine aA rfl (bK (i:=s) (@rfl V (aB m.nx)) (@rfl V (iV ((s:Nat):Int))) (by omega) rfl (aJ rfl rfl (bO rfl (aO rfl rfl (aK rfl rfl rfl rfl (cG rfl rfl (aA rfl ?_)))))))
 refine aV 10 (fun T H=>T 1=(iV ((s:Nat):Int))∧T 2=(V.mp 2 1 0 0)∧T 25=(V.bool (decide ((((((nth (m.nx) (s))).length:Nat):Int)≠(m.i))∨(((((nth (m.ot) (s))).length:Nat):Int)≠(m.i)))))∧H 2=(bk 1 24 4 [[(iV (m.i)),(iV (m.s)),(aB m.nx),(aB m.ot)]])∧True) ?_ ?_
 ·
  by_cases g1:((((nth (m.nx) (s))).length:Nat):Int)≠(m.i)
  ·
   refine G_n (edT g1 rfl) (G_n (edT g1 rfl) (G_n (edT g1 rfl) (G_n (edT g1 rfl) (G_n (edT g1 rfl) (G_n (edT g1 rfl) (G_n (edT g1 rfl) (G_n (edT g1 rfl) ?_)))))))
   refine G_n (edT g1 rfl) (aW (edT g1 rfl) rfl ?_)
   exact ⟨rfl,rfl,(bN g1),rfl,trivial⟩
  ·
   refine aD (edF g1 rfl) (aO rfl rfl (aD (edF g1 rfl) (aK rfl rfl rfl rfl (aD (edF g1 rfl) (aA rfl (aD (edF g1 rfl) (bK (i:=s) (@rfl V (aB m.ot)) (@rfl V (iV ((s:Nat):Int))) (by omega) rfl ?_)))))))
   refine aD (edF g1 rfl) (aJ rfl rfl (aD (edF g1 rfl) (bO rfl (aD (edF g1 rfl) (aO rfl rfl (aD (edF g1 rfl) (aK rfl rfl rfl rfl ?_)))))))
   refine aD (edF g1 rfl) (cG rfl rfl (aU (edF g1 rfl) rfl ?_))
   exact ⟨rfl,rfl,(bM g1),rfl,trivial⟩
 intro T H ⟨t1,t2,t25,h2,_⟩
 refine R_e ?_
 refine aL t25 (fun c2=>?_) fun c2=>?_
 ·
  refine aC (W_r (aA rfl (R_e (aR ?_))))
  refine bB (@rfl V (iV (1:Int))) (aM ?_)
  · rw [oG,if_pos (by omega)]
 refine aG (aC (W_r (aA rfl (R_e (aI fun Q3 n3 x3 y3 z3=>?_)))))
 refine cP (fun mm T H=> ∃ (k:Nat),mm=((m.i).toNat) - k∧T 1=(iV ((s:Nat):Int))∧T 2=(V.mp 2 1 0 0)∧T 5=(iV ((k:Nat):Int))∧H 2=(bk 1 24 4 [[(iV (m.i)),(iV (m.s)),(aB m.nx),(aB m.ot)]])∧(k≤(m.i).toNat)∧(((nth m.nx s).length:Int)=m.i∧((nth m.ot s).length:Int)=m.i)∧(oG m s=fe (uW m s) k (m.i.toNat - k))) ?_ ?_
 ·
  refine ⟨_,0,rfl,t1,t2,(Eq.trans (@rfl V (iV (0:Int))) rfl),h2,?_,?_,?_⟩
  · omega
  · omega
  · rw [oG,if_neg (by omega)]; rfl
 intro mm T H ⟨k,hmm,t1,t2,t5,h2,hk,hl,hc⟩ Q4 p14 p24 p34
 unfold aKu
 refine aC (W_r (aA t5 (aO t2 h2 (aK rfl h2 rfl rfl (bQ rfl rfl (R_e ?_))))))
 refine aL rfl (fun c5=>?_) fun c5=>?_
 ·
  refine aG (aI fun Q6 n6 x6 y6 z6=>?_)
  refine eQ (fun T H=>T 1=(iV ((s:Nat):Int))∧T 2=(V.mp 2 1 0 0)∧T 5=(iV ((k:Nat):Int))∧T 76=(V.bool (decide ((((((nth ((nth (m.nx) (s))) (k))) < (0:Int))∨(((m.nx.length:Nat):Int)≤((nth ((nth (m.nx) (s))) (k)))))∨(((nth ((nth (m.ot) (s))) (k))) < (0:Int)))∨((1048576:Int) < ((nth ((nth (m.ot) (s))) (k)))))))∧H 2=(bk 1 24 4 [[(iV (m.i)),(iV (m.s)),(aB m.nx),(aB m.ot)]])∧True) ?_ ?_
  ·
   refine aO t2 h2 (aK rfl h2 rfl rfl (aA t1 (bK (i:=s) (@rfl V (aB m.nx)) (@rfl V (iV ((s:Nat):Int))) (by omega) rfl (aJ rfl rfl (aA t5 (bK (i:=k) (@rfl V (aY ((nth (m.nx) (s))))) (@rfl V (iV ((k:Nat):Int))) (by omega) rfl (aJ rfl rfl ?_)))))))
   refine bQ rfl rfl (aA rfl ?_)
   refine aV 13 (fun T H=>T 1=(iV ((s:Nat):Int))∧T 2=(V.mp 2 1 0 0)∧T 5=(iV ((k:Nat):Int))∧T 54=(V.bool (decide ((((nth ((nth (m.nx) (s))) (k))) < (0:Int))∨(((m.nx.length:Nat):Int)≤((nth ((nth (m.nx) (s))) (k)))))))∧H 2=(bk 1 24 4 [[(iV (m.i)),(iV (m.s)),(aB m.nx),(aB m.ot)]])∧True) ?_ ?_
   ·
    by_cases g7:((nth ((nth (m.nx) (s))) (k))) < (0:Int)
    ·
     refine G_n (edT g7 rfl) (G_n (edT g7 rfl) (G_n (edT g7 rfl) (G_n (edT g7 rfl) (G_n (edT g7 rfl) (G_n (edT g7 rfl) (G_n (edT g7 rfl) (G_n (edT g7 rfl) ?_)))))))
     refine G_n (edT g7 rfl) (G_n (edT g7 rfl) (G_n (edT g7 rfl) (G_n (edT g7 rfl) (aW (edT g7 rfl) rfl ?_))))
     exact ⟨t1,t2,t5,(bN g7),h2,trivial⟩
    ·
     refine aD (edF g7 rfl) (aO t2 h2 (aD (edF g7 rfl) (aK rfl h2 rfl rfl (aD (edF g7 rfl) (aA t1 (aD (edF g7 rfl) (bK (i:=s) (@rfl V (aB m.nx)) (@rfl V (iV ((s:Nat):Int))) (by omega) rfl ?_)))))))
     refine aD (edF g7 rfl) (aJ rfl rfl (aD (edF g7 rfl) (aA t5 (aD (edF g7 rfl) (bK (i:=k) (@rfl V (aY ((nth (m.nx) (s))))) (@rfl V (iV ((k:Nat):Int))) (by omega) rfl (aD (edF g7 rfl) (aJ rfl rfl ?_)))))))
     refine aD (edF g7 rfl) (aO t2 h2 (aD (edF g7 rfl) (aK rfl h2 rfl rfl (aD (edF g7 rfl) (bO rfl (aD (edF g7 rfl) (jV rfl rfl ?_)))))))
     refine aU (edF g7 rfl) rfl ?_
     exact ⟨t1,t2,t5,(bM g7),h2,trivial⟩
   intro T H ⟨t1,t2,t5,t54,h2,_⟩
   refine aA t54 ?_
   refine aV 10 (fun T H=>T 1=(iV ((s:Nat):Int))∧T 2=(V.mp 2 1 0 0)∧T 5=(iV ((k:Nat):Int))∧T 65=(V.bool (decide (((((nth ((nth (m.nx) (s))) (k))) < (0:Int))∨(((m.nx.length:Nat):Int)≤((nth ((nth (m.nx) (s))) (k)))))∨(((nth ((nth (m.ot) (s))) (k))) < (0:Int)))))∧H 2=(bk 1 24 4 [[(iV (m.i)),(iV (m.s)),(aB m.nx),(aB m.ot)]])∧True) ?_ ?_
   ·
    by_cases g8:(((nth ((nth (m.nx) (s))) (k))) < (0:Int))∨(((m.nx.length:Nat):Int)≤((nth ((nth (m.nx) (s))) (k))))
    ·
     refine G_n (edT g8 rfl) (G_n (edT g8 rfl) (G_n (edT g8 rfl) (G_n (edT g8 rfl) (G_n (edT g8 rfl) (G_n (edT g8 rfl) (G_n (edT g8 rfl) (G_n (edT g8 rfl) ?_)))))))
     refine G_n (edT g8 rfl) (aW (edT g8 rfl) rfl ?_)
     exact ⟨t1,t2,t5,(bN g8),h2,trivial⟩
    ·
     refine aD (edF g8 rfl) (aO t2 h2 (aD (edF g8 rfl) (aK rfl h2 rfl rfl (aD (edF g8 rfl) (aA t1 (aD (edF g8 rfl) (bK (i:=s) (@rfl V (aB m.ot)) (@rfl V (iV ((s:Nat):Int))) (by omega) rfl ?_)))))))
     refine aD (edF g8 rfl) (aJ rfl rfl (aD (edF g8 rfl) (aA t5 (aD (edF g8 rfl) (bK (i:=k) (@rfl V (aY ((nth (m.ot) (s))))) (@rfl V (iV ((k:Nat):Int))) (by omega) rfl (aD (edF g8 rfl) (aJ rfl rfl ?_)))))))
     refine aD (edF g8 rfl) (bQ rfl rfl (aU (edF g8 rfl) rfl ?_))
     exact ⟨t1,t2,t5,(bM g8),h2,trivial⟩
   intro T H ⟨t1,t2,t5,t65,h2,_⟩
   refine aA t65 ?_
   refine aV 10 (fun T H=>T 1=(iV ((s:Nat):Int))∧T 2=(V.mp 2 1 0 0)∧T 5=(iV ((k:Nat):Int))∧T 76=(V.bool (decide ((((((nth ((nth (m.nx) (s))) (k))) < (0:Int))∨(((m.nx.length:Nat):Int)≤((nth ((nth (m.nx) (s))) (k)))))∨(((nth ((nth (m.ot) (s))) (k))) < (0:Int)))∨((1048576:Int) < ((nth ((nth (m.ot) (s))) (k)))))))∧H 2=(bk 1 24 4 [[(iV (m.i)),(iV (m.s)),(aB m.nx),(aB m.ot)]])∧True) ?_ ?_
   ·
    by_cases g9:((((nth ((nth (m.nx) (s))) (k))) < (0:Int))∨(((m.nx.length:Nat):Int)≤((nth ((nth (m.nx) (s))) (k)))))∨(((nth ((nth (m.ot) (s))) (k))) < (0:Int))
    ·
     refine G_n (edT g9 rfl) (G_n (edT g9 rfl) (G_n (edT g9 rfl) (G_n (edT g9 rfl) (G_n (edT g9 rfl) (G_n (edT g9 rfl) (G_n (edT g9 rfl) (G_n (edT g9 rfl) ?_)))))))
     refine G_n (edT g9 rfl) (aW (edT g9 rfl) rfl ?_)
     exact ⟨t1,t2,t5,(bN g9),h2,trivial⟩
    ·
     refine aD (edF g9 rfl) (aO t2 h2 (aD (edF g9 rfl) (aK rfl h2 rfl rfl (aD (edF g9 rfl) (aA t1 (aD (edF g9 rfl) (bK (i:=s) (@rfl V (aB m.ot)) (@rfl V (iV ((s:Nat):Int))) (by omega) rfl ?_)))))))
     refine aD (edF g9 rfl) (aJ rfl rfl (aD (edF g9 rfl) (aA t5 (aD (edF g9 rfl) (bK (i:=k) (@rfl V (aY ((nth (m.ot) (s))))) (@rfl V (iV ((k:Nat):Int))) (by omega) rfl (aD (edF g9 rfl) (aJ rfl rfl ?_)))))))
     refine aD (edF g9 rfl) (fP rfl rfl (aU (edF g9 rfl) rfl ?_))
     exact ⟨t1,t2,t5,(bM g9),h2,trivial⟩
   intro T H ⟨t1,t2,t5,t76,h2,_⟩
   exact fQ ⟨t1,t2,t5,t76,h2,trivial⟩
  intro T H ⟨t1,t2,t5,t76,h2,_⟩
  refine fO t76 (fun c10=>?_) fun c10=>?_
  ·
   refine W_r (aA rfl (R_e (bI (y6 _ _ (p24 _ _ (y3 _ _ ?_))))))
   refine bB (@rfl V (iV (2:Int))) (aM ?_)
   · rw [hc,iA (by unfold uW; split <;> omega) (by omega)]; unfold uW; split <;> omega
  refine dC (n6 _ _ (.done (W_t (aA t5 (bS rfl (@rfl V (iV ((1:Nat):Int))) (by omega) (aA rfl (R_e ?_)))))))
  refine p14 _ _ _ ?_ ⟨(k+1),rfl,t1,t2,(Eq.trans (@rfl V (iV ((k+1:Nat):Int))) (by first|rfl|simp)),h2,?_,?_,?_⟩
  · omega
  · omega
  · omega
  · rw [hc,jQ (by unfold uW; split <;> omega) (by omega)]
 refine aT (p34 _ _ _ (x3 _ _ (.done (W_r (aA rfl (R_e (bI ?_)))))))
 refine bB (@rfl V (iV (0:Int))) (aM ?_)
 · rw [hc,lT (by omega)]
theorem rT (m:M):aZ Tryz.prog 35 [(V.agg [(iV (m.i)),(iV (m.s)),(aB m.nx),(aB m.ot)])] (iV (dA m)):=by
 refine pW Tryz.func35 aMI fun hB=>?_
 unfold s35
 dsimp only
 refine W_r (dK (i:=1) (n:=0) (m:=4) (cs:=[(iV (m.i)),(iV (m.s)),(aB m.nx),(aB m.ot)]) rfl (congrArg Blk.ver rfl) rfl rfl rfl (aA rfl (R_e (aC (W_r (aO rfl rfl (aK rfl rfl rfl rfl ?_)))))))
 refine bQ rfl rfl (aA rfl ?_)
 refine aV 4 (fun T H=>T 1=(V.mp 1 1 0 0)∧T 12=(V.bool (decide (((m.i) < (1:Int))∨((64:Int) < (m.i)))))∧H 1=(bk 1 24 4 [[(iV (m.i)),(iV (m.s)),(aB m.nx),(aB m.ot)]])∧True) ?_ ?_
 ·
  by_cases g1:(m.i) < (1:Int)
  ·
   refine G_n (edT g1 rfl) (G_n (edT g1 rfl) (G_n (edT g1 rfl) (aW (edT g1 rfl) rfl ?_)))
   exact ⟨rfl,(bN g1),rfl,trivial⟩
  ·
   refine aD (edF g1 rfl) (aO rfl rfl (aD (edF g1 rfl) (aK rfl rfl rfl rfl (aD (edF g1 rfl) (fP rfl rfl (aU (edF g1 rfl) rfl ?_))))))
   exact ⟨rfl,(bM g1),rfl,trivial⟩
 intro T H ⟨t1,t12,h1,_⟩
 refine R_e ?_
 refine aL t12 (fun c2=>?_) fun c2=>?_
 ·
  refine aC (W_r (aA rfl (R_e (aR ?_))))
  refine bB (@rfl V (iV (2:Int))) (aM ?_)
  · rw [dA,if_pos (by omega)]
 refine aG (aC (W_r (aO t1 h1 (aK rfl h1 rfl rfl (bO rfl (gU rfl rfl (R_e ?_)))))))
 refine aL rfl (fun c3=>?_) fun c3=>?_
 ·
  refine aC (W_r (aA rfl (R_e (aR ?_))))
  refine bB (@rfl V (iV (19:Int))) (aM ?_)
  · rw [dA,if_neg (by omega),if_pos (by omega)]
 refine aG (aC (W_r (aO t1 h1 (aK rfl h1 rfl rfl (bO rfl (fP rfl rfl (R_e ?_)))))))
 refine aL rfl (fun c4=>?_) fun c4=>?_
 ·
  refine aC (W_r (aA rfl (R_e (aR ?_))))
  refine bB (@rfl V (iV (11:Int))) (aM ?_)
  · rw [dA,if_neg (by omega),if_neg (by omega),if_pos (by omega)]
 refine aG (aC (W_r (aO t1 h1 (aK rfl h1 rfl rfl (bQ rfl rfl (aA rfl ?_))))))
 refine aV 7 (fun T H=>T 1=(V.mp 1 1 0 0)∧T 31=(V.bool (decide (((m.s) < (0:Int))∨(((m.nx.length:Nat):Int)≤(m.s)))))∧H 1=(bk 1 24 4 [[(iV (m.i)),(iV (m.s)),(aB m.nx),(aB m.ot)]])∧True) ?_ ?_
 ·
  by_cases g5:(m.s) < (0:Int)
  ·
   refine G_n (edT g5 rfl) (G_n (edT g5 rfl) (G_n (edT g5 rfl) (G_n (edT g5 rfl) (G_n (edT g5 rfl) (G_n (edT g5 rfl) (aW (edT g5 rfl) rfl ?_))))))
   exact ⟨t1,(bN g5),h1,trivial⟩
  ·
   refine aD (edF g5 rfl) (aO t1 h1 (aD (edF g5 rfl) (aK rfl h1 rfl rfl (aD (edF g5 rfl) (aO t1 h1 (aD (edF g5 rfl) (aK rfl h1 rfl rfl ?_)))))))
   refine aD (edF g5 rfl) (bO rfl (aD (edF g5 rfl) (jV rfl rfl (aU (edF g5 rfl) rfl ?_))))
   exact ⟨t1,(bM g5),h1,trivial⟩
 intro T H ⟨t1,t31,h1,_⟩
 refine R_e ?_
 refine aL t31 (fun c6=>?_) fun c6=>?_
 ·
  refine aC (W_r (aA rfl (R_e (aR ?_))))
  refine bB (@rfl V (iV (2:Int))) (aM ?_)
  · rw [dA,if_neg (by omega),if_neg (by omega),if_neg (by omega),if_pos (by omega)]
 refine aG (aC (W_r (aO t1 h1 (aK rfl h1 rfl rfl (bO rfl (aO t1 h1 (aK rfl h1 rfl rfl ?_)))))))
 refine bO rfl (cG rfl rfl (R_e ?_))
 refine aL rfl (fun c7=>?_) fun c7=>?_
 ·
  refine aC (W_r (aA rfl (R_e (aR ?_))))
  refine bB (@rfl V (iV (1:Int))) (aM ?_)
  · rw [dA,if_neg (by omega),if_neg (by omega),if_neg (by omega),if_neg (by omega),if_pos (by omega)]
 refine aG (aC (W_r (aA rfl (R_e (aI fun Q8 n8 x8 y8 z8=>?_)))))
 refine cP (fun mm T H=> ∃ (k:Nat),mm=m.nx.length - k∧T 1=(V.mp 1 1 0 0)∧T 3=(iV ((k:Nat):Int))∧H 1=(bk 1 24 4 [[(iV (m.i)),(iV (m.s)),(aB m.nx),(aB m.ot)]])∧(k≤m.nx.length)∧(1≤m.i∧m.i≤64∧0 < m.nx.length∧m.nx.length≤128∧m.ot.length=m.nx.length)∧(dA m=fe (oG m) k (m.nx.length - k))) ?_ ?_
 ·
  refine ⟨_,0,rfl,t1,(Eq.trans (@rfl V (iV (0:Int))) rfl),h1,?_,?_,?_⟩
  · omega
  · omega
  · rw [dA,if_neg (by omega),if_neg (by omega),if_neg (by omega),if_neg (by omega),if_neg (by omega)]; rfl
 intro mm T H ⟨k,hmm,t1,t3,h1,hk,hv,hc⟩ Q9 p19 p29 p39
 unfold aK4
 refine aC (W_r (aA t3 (aO t1 h1 (aK rfl h1 rfl rfl (bO rfl (bQ rfl rfl (R_e ?_)))))))
 refine aL rfl (fun c10=>?_) fun c10=>?_
 ·
  refine aG (aI fun Q11 n11 x11 y11 z11=>(W_r (aK t1 h1 rfl rfl (aA t3 (bE (aFL m k (by first|omega|assumption) (by first|omega|assumption) (by first|omega|assumption)) rfl (aA rfl (R_e ?_)))))))
  refine W_r (aA rfl (cG rfl rfl (R_e ?_)))
  refine fO rfl (fun c12=>?_) fun c12=>?_
  ·
   refine W_r (aA rfl (aA rfl (R_e (bI (y11 _ _ (p29 _ _ (y8 _ _ ?_)))))))
   refine bB (@rfl V (iV (oG m k))) (aM ?_)
   · rw [hc,iA (by omega) (by omega)]
  refine dC (n11 _ _ (.done (W_t (aA t3 (bS rfl (@rfl V (iV ((1:Nat):Int))) (by omega) (aA rfl (R_e ?_)))))))
  refine p19 _ _ _ ?_ ⟨(k+1),rfl,t1,(Eq.trans (@rfl V (iV ((k+1:Nat):Int))) (by first|rfl|simp)),h1,?_,?_,?_⟩
  · omega
  · omega
  · omega
  · rw [hc,jQ (by omega) (by omega)]
 refine aT (p39 _ _ _ (x8 _ _ (.done (W_r (aA rfl (R_e (bI ?_)))))))
 refine bB (@rfl V (iV (0:Int))) (aM ?_)
 · rw [hc,lT (by omega)]
theorem aB3 (a b:M):aZ Tryz.prog 67 [(V.agg [(iV (a.i)),(iV (a.s)),(aB a.nx),(aB a.ot)]),(V.agg [(iV (b.i)),(iV (b.s)),(aB b.nx),(aB b.ot)])] (iV (jJ a b)):=by
 refine pW Tryz.func67 aPE fun hB=>?_
 unfold s67
 dsimp only
 refine W_r (dK (i:=2) (n:=0) (m:=4) (cs:=[(iV (a.i)),(iV (a.s)),(aB a.nx),(aB a.ot)]) rfl (congrArg Blk.ver rfl) rfl rfl rfl (dK (i:=3) (n:=0) (m:=4) (cs:=[(iV (b.i)),(iV (b.s)),(aB b.nx),(aB b.ot)]) rfl (congrArg Blk.ver rfl) rfl rfl rfl (aA rfl (R_e (aC (W_r (aK rfl rfl rfl rfl ?_)))))))
 refine bE (rT a) rfl (aA rfl (R_e (aC (W_r (aA rfl (cG rfl rfl (R_e ?_)))))))
 refine aL rfl (fun c1=>?_) fun c1=>?_
 ·
  refine aC (W_r (aA rfl (aA rfl (R_e (aR ?_)))))
  refine bB (@rfl V (iV (dA a))) (aM ?_)
  · rw [aGc (by omega)]
 refine aG (aC (W_r (aK rfl rfl rfl rfl (bE (rT b) rfl (aA rfl (R_e (aC ?_)))))))
 refine W_r (aA rfl (cG rfl rfl (R_e ?_)))
 refine aL rfl (fun c2=>?_) fun c2=>?_
 ·
  refine aC (W_r (aA rfl (aA rfl (R_e (aR ?_)))))
  refine bB (@rfl V (iV (dA b))) (aM ?_)
  · rw [aG8 (by omega) (by omega)]
 refine aG (aC (W_r (aO rfl rfl (aK rfl rfl rfl rfl (aO rfl rfl (aK rfl rfl rfl rfl (cG rfl rfl ?_)))))))
 refine R_e ?_
 refine aL rfl (fun c3=>?_) fun c3=>?_
 ·
  refine aC (W_r (aA rfl (R_e (aR ?_))))
  refine bB (@rfl V (iV (15:Int))) (aM ?_)
  · rw [aFy (by omega) (by omega) (by omega)]
 refine aG (W_r (aA rfl (R_e (bI ?_))))
 refine bB (@rfl V (iV (0:Int))) (aM ?_)
 · rw [aGb (by omega) (by omega) (by omega)]
def aRt:List SO:=[
 qM 34 10,
 qM 35 11,
 qA 36 3 34 35,
 qF 37 2 36,
 ql 38 37,
 qM 39 12,
 sO 40 (.call false 85 [.t 38,.t 39]),
 qM 13 40]
def aQX:List SO:=[
 qF 41 3 4,
 ql 42 41,
 qM 43 10,
 qM 44 11,
 qA 45 3 43 44,
 qF 46 0 45,
 ql 47 46,
 qA 48 1 42 47,
 ql 49 48,
 qM 50 12,
 qA 51 1 49 50,
 ql 52 51,
 qF 53 3 5,
 ql 54 53,
 qM 55 10,
 qM 56 11,
 qA 57 3 55 56,
 qF 58 1 57,
 ql 59 58,
 qA 60 1 54 59,
 ql 61 60,
 qM 62 12,
 qA 63 1 61 62,
 ql 64 63,
 qP 65 .neq 52 64]
def aLQ:List SO:=[
 qF 67 2 4,
 ql 68 67,
 qM 69 10,
 qM 70 11,
 qA 71 3 69 70,
 qF 72 0 71,
 ql 73 72,
 qA 74 1 68 73,
 ql 75 74,
 qM 76 12,
 qA 77 1 75 76,
 ql 78 77,
 qF 79 2 5,
 ql 80 79,
 qM 81 10,
 qM 82 11,
 qA 83 3 81 82,
 qF 84 1 83,
 ql 85 84,
 qA 86 1 80 85,
 ql 87 86,
 qM 88 12,
 qA 89 1 87 88,
 ql 90 89,
 qM 14 78,
 qM 15 90]
def aNt:List SO:=[
 qM 97 16,
 qM 98 97,
 ⟨some (98,false),some 99,.mv (.t 10)⟩,
 ⟨some (98,false),some 100,.mv (.t 17)⟩,
 ⟨some (98,false),some 101,.idx 3 (.t 99) (.t 100)⟩,
 ⟨some (98,false),some 102,.fld 0 (.t 101)⟩,
 ⟨some (98,false),some 103,.load false 1 (.t 102)⟩,
 ⟨some (98,false),some 104,.mv (.t 14)⟩,
 ⟨some (98,false),some 105,.bin .eql (.t 103) (.t 104)⟩,
 ⟨some (98,false),some 106,.mv (.t 105)⟩,
 ⟨some (106,true),some 107,.mv (.t 10)⟩,
 ⟨some (106,true),some 108,.mv (.t 17)⟩,
 ⟨some (106,true),some 109,.idx 3 (.t 107) (.t 108)⟩,
 ⟨some (106,true),some 110,.fld 1 (.t 109)⟩,
 ⟨some (106,true),some 111,.load false 1 (.t 110)⟩,
 ⟨some (106,true),some 112,.mv (.t 15)⟩,
 ⟨some (106,true),some 113,.bin .eql (.t 111) (.t 112)⟩,
 ⟨some (98,false),some 114,.pick (.t 106) (.t 113) (.c (.bool false))⟩,
 sO 115 (.pick (.t 98) (.c (.bool true)) (.t 114)),
 qM 16 115]
def aK3:SC:=.seq (.seq (.reg [qM 91 17,qM 92 10,qN 93 92,qP 94 .lss 91 93]) (.cond (.t 94) (.skip) (.exit 4))) (.seq (.block 5 (.reg aNt)) (.reg [qM 95 17,qC 96 .add 95 1,qM 17 96]))
def aQs:List SO:=[
 qM 118 10,
 qM 119 14,
 qM 120 15,
 qM 121 13,
 sO 122 (.build [.int .i64 0,.int .i64 0,.nilsl] [(0,1,.t 119),(1,1,.t 120),(2,1,.t 121)]),
 sO 123 (.bslice 178 3 false [.int .i64 0,.int .i64 0,.nilsl] 1 [(0,.t 122)]),
 sO 124 (.append 178 3 40 (.t 118) (.t 123)),
 qM 10 124]
def aKJ:SC:=.seq (.seq (.reg [qM 28 12,qF 29 0 4,ql 30 29,qP 31 .lss 28 30]) (.cond (.t 31) (.skip) (.exit 2))) (.seq (.block 3 (.seq (.reg aRt) (.seq (.seq (.reg aQX) (.cond (.t 65) (.seq (.reg [qM 66 13,qM 8 66,sO 9 (.mv (.c (.bool true)))]) (.ret)) (.skip))) (.seq (.reg aLQ) (.seq (.reg [sO 16 (.mv (.c (.bool false)))]) (.seq (.seq (.reg [qI 17 0]) (.block 4 (.loop aK3))) (.seq (.reg [qM 116 16,sO 117 (.un .not (.t 116))]) (.cond (.t 117) (.reg aQs) (.skip))))))))) (.reg [qM 32 12,qC 33 .add 32 1,qM 12 33]))
def aKv:SC:=.seq (.seq (.reg [qM 22 11,qM 23 10,qN 24 23,qP 25 .lss 22 24]) (.cond (.t 25) (.skip) (.exit 0))) (.seq (.block 1 (.seq (.reg [qI 12 0]) (.block 2 (.loop aKJ)))) (.reg [qM 26 11,qC 27 .add 26 1,qM 11 27]))
def s68:SF:=⟨125,[.tmp 8,.tmp 9],.seq (.reg [sO 4 (.box 24 4 (.t 0)),sO 5 (.box 24 4 (.t 1)),sO 8 (.mv (.c (.nilsl))),sO 9 (.mv (.c (.bool false)))]) (.seq (.reg [qM 18 2,qM 19 3,sO 20 (.build [.int .i64 0,.int .i64 0,.nilsl] [(0,1,.t 18),(1,1,.t 19)]),sO 21 (.bslice 178 3 true [.int .i64 0,.int .i64 0,.nilsl] 1 [(0,.t 20)]),qM 10 21]) (.seq (.seq (.reg [qI 11 0]) (.block 0 (.loop aKv))) (.seq (.reg [sO 8 (.mv (.c (.nilsl))),sO 9 (.mv (.c (.bool false)))]) (.ret))))⟩
theorem aNR:aN Tryz.prog ⟨[58,129,130,131,149,155,161,182,183,185,191,192,208,209,210,224,228,231,236],[21],[],[]⟩ Tryz.f68=some s68:=by kernel_rfl
def s85:SF:=⟨14,[.tmp 4],.seq (.reg [sO 4 (.mv (.c (.nilsl)))]) (.seq (.reg [sO 5 (.lazy 3 1)]) (.seq (.reg [qM 6 5,qM 7 0,sO 8 (.append 3 1 8 (.t 6) (.t 7)),qM 5 8]) (.seq (.reg [qM 9 5,qM 10 1,sO 11 (.bslice 3 1 false [.int .i64 0] 1 [(0,.t 10)]),sO 12 (.append 3 1 8 (.t 9) (.t 11)),qM 5 12]) (.seq (.reg [qM 13 5,qM 4 13]) (.ret)))))⟩
theorem aOg:aN Tryz.prog ⟨[58,129,130,131,149,155,161,182,183,185,191,192,208,209,210,224,228,231,236],[5],[],[]⟩ Tryz.f85=some s85:=by kernel_rfl
theorem aEN (w:List Int) (a:Int) (hl:w.length≤1048576):aZ Tryz.prog 85 [(aY w),(iV (a))] (aY (snW w a)):=by
 refine pW Tryz.func85 aOg fun hB=>?_
 unfold s85
 dsimp only
 refine W_r (aA rfl (R_e (W_r (hU (i:=5) (n:=0) rfl (congrArg Blk.ver rfl) (R_e (W_r (aA rfl ?_)))))))
 refine aA rfl (kM (l:=([])) (m:=w) (f:=cI) (@rfl V (V.ms 5 1 0 (0))) (show _=(bz 1 3 1 (List.map cI ([]))) from (@rfl Blk (bz 1 3 1 []))) (by first|rfl|simp|omega) (@rfl V (aY w)) (fun _=>rfl) (fun _=>rfl) (by omega) (by omega) (aA rfl (R_e (W_r (aA rfl (aA rfl (cQ rfl rfl ?_)))))))
 refine dH (l:=([]++w)) (f:=cI) (x:=a) (@rfl V (V.ms 5 2 0 (0+(w).length))) (@rfl Blk (bz 2 3 1 (List.map cI ([]++w)))) (by first|rfl|simp|omega) (@rfl V (V.sl [[(iV (a))]])) rfl rfl (by omega) (by omega) (aA rfl (R_e (W_r (aA rfl (aA rfl (R_e (bI ?_)))))))
 refine bB (@rfl V (V.ms 5 3 0 ((0+(w).length)+1))) (nI (@rfl Blk (bz 3 3 1 (List.map cI ([]++w++[a])))) (by first|rfl|simp) (l:=([]++w++[a])) rfl (by first|rfl|simp|omega) (fun _=>by simp) ?_)
 · first|rfl|(simp; rfl)
theorem aB9 (a b:M) (s t:Int) (hma:dA a=0) (hmb:dA b=0) (hi:a.i=b.i) (hs:0≤s∧s < a.nx.length) (ht:0≤t∧t < b.nx.length):aZ Tryz.prog 68 [(V.agg [(iV (a.i)),(iV (a.s)),(aB a.nx),(aB a.ot)]),(V.agg [(iV (b.i)),(iV (b.s)),(aB b.nx),(aB b.ot)]),(iV (s)),(iV (t))] (V.tup [(aY ((dst a b s t).getD [])),(V.bool ((dst a b s t).isSome))]):=by
 refine pW Tryz.func68 aNR fun hB=>?_
 unfold s68
 dsimp only
 have hqa:=gR hma
 have hqb:=gR hmb
 have hab:a.nx.length*b.nx.length≤128*128:=Nat.mul_le_mul hqa.2.2.2.1 hqb.2.2.2.1
 refine W_r (dK (i:=4) (n:=0) (m:=4) (cs:=[(iV (a.i)),(iV (a.s)),(aB a.nx),(aB a.ot)]) rfl (congrArg Blk.ver rfl) rfl rfl rfl (dK (i:=5) (n:=0) (m:=4) (cs:=[(iV (b.i)),(iV (b.s)),(aB b.nx),(aB b.ot)]) rfl (congrArg Blk.ver rfl) rfl rfl rfl (aA rfl (aA rfl (R_e ?_)))))
 refine pX (fun T H=>T 4=(V.mp 4 1 0 0)∧T 5=(V.mp 5 1 0 0)∧T 10=(V.ms 21 1 0 (1))∧H 4=(bk 1 24 4 [[(iV (a.i)),(iV (a.s)),(aB a.nx),(aB a.ot)]])∧H 5=(bk 1 24 4 [[(iV (b.i)),(iV (b.s)),(aB b.nx),(aB b.ot)]])∧H 21=(bk 1 178 3 [[(iV (s)),(iV (t)),V.nilsl]])∧True) ?_ ?_
 ·
  refine aA rfl (aA rfl (dS rfl rfl (iM (i:=21) (n:=0) (qs:=[(0,(V.agg [(iV (s)),(iV (t)),V.nilsl]))]) (rows:=[[(iV (s)),(iV (t)),V.nilsl]]) rfl (congrArg Blk.ver rfl) (bZ (congrArg (fun v=>(0,v)) rfl) rfl) rfl (aA rfl ?_))))
  exact fQ ⟨rfl,rfl,rfl,rfl,rfl,rfl,trivial⟩
 intro T H ⟨t4,t5,t10,h4,h5,h21,_⟩
 refine aEa (l:=([])) (m:=([(⟨s,t,[]⟩:Pr)])) (f:=cPr) h21 rfl (.done ?_)
 refine cZ (R:=fun T H=>T 4=(V.mp 4 1 0 0)∧T 5=(V.mp 5 1 0 0)∧T 10=(V.ms 21 1 0 (1))∧H 4=(bk 1 24 4 [[(iV (a.i)),(iV (a.s)),(aB a.nx),(aB a.ot)]])∧H 5=(bk 1 24 4 [[(iV (b.i)),(iV (b.s)),(aB b.nx),(aB b.ot)]])∧H 21=(bk 1 178 3 (List.map cPr ([]++[(⟨s,t,[]⟩:Pr)])))∧True) ⟨t4,t5,t10,((aF _ _ (by decide)).trans h4),((aF _ _ (by decide)).trans h5),(aE _ _ _),trivial⟩ ?_
 intro T H ⟨t4,t5,t10,h4,h5,h21,_⟩
 refine aC (W_r (aA rfl (R_e (aI fun Q1 n1 x1 y1 z1=>?_))))
 refine cP (fun mm T H=> ∃ (i:Nat) (v:Nat) (L:List Pr),mm=a.nx.length*b.nx.length+1 - i∧T 4=(V.mp 4 1 0 0)∧T 5=(V.mp 5 1 0 0)∧T 10=(V.ms 21 v 0 (L.length))∧T 11=(iV ((i:Nat):Int))∧H 4=(bk 1 24 4 [[(iV (a.i)),(iV (a.s)),(aB a.nx),(aB a.ot)]])∧H 5=(bk 1 24 4 [[(iV (b.i)),(iV (b.s)),(aB b.nx),(aB b.ot)]])∧H 21=(bk v 178 3 (List.map cPr (L)))∧(i≤L.length)∧(BI a b s t L)∧(dst a b s t=bq a b (a.nx.length*b.nx.length+1 - i) i L)) ?_ ?_
 ·
  refine ⟨_,0,1,[⟨s,t,[]⟩],rfl,t4,t5,(Eq.trans t10 (by first|rfl|(simp only [r2]; rfl)|(simp only [knK]; rfl)|(rw [show x=a.i.toNat by omega]; done)|(rw [aX d2,List.length_append]; done)|(rw [aX d2,List.length_append]; rfl)|(rw [bR d2]; done)|simp)),(Eq.trans (@rfl V (iV (0:Int))) rfl),h4,h5,(Eq.trans h21 (by first|rfl|(rw [show x=a.i.toNat by omega]; done)|(simp only [r2]; rw [aX d2]; done)|(simp only [r2]; rw [aX d2]; rfl)|(rw [bR d2]; done)|simp)),?_,?_,?_⟩
  · simp
  · exact BI.start hs.1 hs.2 ht.1 ht.2
  · rfl
 intro mm T H ⟨i,v,L,hmm,t4,t5,t10,t11,h4,h5,h21,hk,hbi,hc⟩ Q2 p12 p22 p32
 unfold aKv
 have hln:=hbi.len
 refine aC (W_r (aA t11 (aA t10 (dX rfl h21 (by first|rfl|simp) (bQ rfl rfl (R_e ?_))))))
 refine aL rfl (fun c3=>?_) fun c3=>?_
 ·
  have hil:i < L.length:=by omega
  refine aG (aI fun Q4 n4 x4 y4 z4=>(W_r (aA rfl (R_e (pE fun Q5 n5 x5 y5 z5=>?_)))))
  refine cP (fun mm T H=> ∃ (x:Nat) (v2:Nat),mm=a.i.toNat - x∧T 4=(V.mp 4 1 0 0)∧T 5=(V.mp 5 1 0 0)∧T 10=(V.ms 21 v2 0 ((bqR a b (nth L i) L x).length))∧T 11=(iV ((i:Nat):Int))∧T 12=(iV ((x:Nat):Int))∧H 4=(bk 1 24 4 [[(iV (a.i)),(iV (a.s)),(aB a.nx),(aB a.ot)]])∧H 5=(bk 1 24 4 [[(iV (b.i)),(iV (b.s)),(aB b.nx),(aB b.ot)]])∧H 21=(bk v2 178 3 (List.map cPr (bqR a b (nth L i) L x)))∧(x≤a.i.toNat)∧(∀ j,j < x→bqD a b (nth L i) j=false)) ?_ ?_
  ·
   refine ⟨_,0,v,rfl,t4,t5,(Eq.trans t10 (by first|rfl|(simp only [r2]; rfl)|(simp only [knK]; rfl)|(rw [show x=a.i.toNat by omega]; done)|(rw [aX d2,List.length_append]; done)|(rw [aX d2,List.length_append]; rfl)|(rw [bR d2]; done)|simp)),t11,(Eq.trans (@rfl V (iV (0:Int))) rfl),h4,h5,(Eq.trans h21 (by first|rfl|(rw [show x=a.i.toNat by omega]; done)|(simp only [r2]; rw [aX d2]; done)|(simp only [r2]; rw [aX d2]; rfl)|(rw [bR d2]; done)|simp)),?_,?_⟩
   · omega
   · intro j hj; omega
  intro mm T H ⟨x,v2,hmm,t4,t5,t10,t11,t12,h4,h5,h21,hx,hdx⟩ Q6 p16 p26 p36
  unfold aKJ
  refine aC (W_r (aA t12 (aO t4 h4 (aK rfl h4 rfl rfl (bQ rfl rfl (R_e ?_))))))
  refine aL rfl (fun c7=>?_) fun c7=>?_
  ·
   have r0:=hbi.row hma hmb hi hil (x:=x) (by omega) hdx
   have r9:=r0.len
   have r1:i < (bqR a b (nth L i) L x).length:=Nat.lt_of_lt_of_le hil pD
   have r2:nth (bqR a b (nth L i) L x) i=nth L i:=oT hil
   have r3:=hbi.rg _ (bH hil)
   have r4:=hbi.ln i hil
   have r5:=tM hma r3.1 r3.2.1
   have r6:=tM hmb r3.2.2.1 r3.2.2.2
   refine aG (aI fun Q8 n8 x8 y8 z8=>(W_r (aA t10 (aA t11 (bW (i:=i) (@rfl V (V.ms 21 v2 0 ((bqR a b (nth L i) L x).length))) (@rfl V (iV ((i:Nat):Int))) h21 oB rfl (by first|omega|(simp only [r2]; omega)) (aO rfl h21 (bF (v:=(aY (((nth (bqR a b (nth L i) L x) (i))).w))) rfl h21 (cD (by first|omega|(simp only [r2]; omega)) (by first|rfl|(rw [cF_eq]; rfl)|simp [ldV,V.one])) ?_)))))))
   refine aA t12 (bE (aEN (((nth (bqR a b (nth L i) L x) (i))).w) (((x:Nat):Int)) (by simp only [r2]; omega)) rfl (aA rfl (R_e (aC (W_r (aO t4 h4 (aK rfl h4 rfl rfl ?_)))))))
   refine aA t10 (aA t11 (bW (i:=i) (@rfl V (V.ms 21 v2 0 ((bqR a b (nth L i) L x).length))) (@rfl V (iV ((i:Nat):Int))) h21 oB rfl (by first|omega|(simp only [r2]; omega)) (aO rfl h21 (bF (v:=(iV (((nth (bqR a b (nth L i) L x) (i))).s))) rfl h21 (cD (by first|omega|(simp only [r2]; omega)) (by first|rfl|(rw [cF_eq]; rfl)|simp [ldV,V.one])) (fY (i:=(((nth (bqR a b (nth L i) L x) (i))).s)) (@rfl V (aB a.ot)) (@rfl V (iV (((nth (bqR a b (nth L i) L x) (i))).s))) (by first|omega|(simp only [r2]; omega)) (by first|omega|(simp only [r2]; omega)) rfl (aJ rfl rfl (aA t12 ?_)))))))
   refine bK (i:=x) (@rfl V (aY ((nth (a.ot) (((nth (bqR a b (nth L i) L x) (i))).s).toNat)))) (@rfl V (iV ((x:Nat):Int))) (by first|omega|(simp only [r2]; omega)) rfl (aJ rfl rfl (aO t5 h5 (aK rfl h5 rfl rfl (aA t10 (aA t11 (bW (i:=i) (@rfl V (V.ms 21 v2 0 ((bqR a b (nth L i) L x).length))) (@rfl V (iV ((i:Nat):Int))) h21 oB rfl (by first|omega|(simp only [r2]; omega)) (aO rfl h21 ?_)))))))
   refine bF (v:=(iV (((nth (bqR a b (nth L i) L x) (i))).t))) rfl h21 (cD (by first|omega|(simp only [r2]; omega)) (by first|rfl|(rw [cF_eq]; rfl)|simp [ldV,V.one])) (fY (i:=(((nth (bqR a b (nth L i) L x) (i))).t)) (@rfl V (aB b.ot)) (@rfl V (iV (((nth (bqR a b (nth L i) L x) (i))).t))) (by first|omega|(simp only [r2]; omega)) (by first|omega|(simp only [r2]; omega)) rfl (aJ rfl rfl (aA t12 (bK (i:=x) (@rfl V (aY ((nth (b.ot) (((nth (bqR a b (nth L i) L x) (i))).t).toNat)))) (@rfl V (iV ((x:Nat):Int))) (by first|omega|(simp only [r2]; omega)) rfl (aJ rfl rfl (cG rfl rfl (R_e ?_)))))))
   refine aL rfl (fun c9=>?_) fun c9=>?_
   ·
    have d1:bqD a b (nth L i) x=true:=by unfold bqD; have q:=c9; simp only [r2] at q; exact decide_eq_true q
    have hz:dst a b s t=some ((nth L i).w++[(x:Int)]):=by rw [hc,aGE hil (by omega) (by omega) d1 hdx]
    refine aC (W_r (aA rfl (aA rfl (aA rfl (R_e (aR (y8 _ _ ?_)))))))
    refine p26 _ _ (y5 _ _ (y4 _ _ (p22 _ _ (y1 _ _ ?_))))
    refine aC1 (@rfl V (aY (snW (((nth (bqR a b (nth L i) L x) (i))).w) (((x:Nat):Int))))) (@rfl V (V.bool true)) (rV ?_ (fun _=>by simp)) (bJ ?_)
    · rw [hz]; simp only [r2]; rfl
    · rw [hz]; rfl
   have d1:bqD a b (nth L i) x=false:=by unfold bqD; have q:=c9; simp only [r2] at q; exact decide_eq_false q
   refine aG ?_
   refine eQ (fun T H=>T 4=(V.mp 4 1 0 0)∧T 5=(V.mp 5 1 0 0)∧T 10=(V.ms 21 v2 0 ((bqR a b (nth L i) L x).length))∧T 11=(iV ((i:Nat):Int))∧T 12=(iV ((x:Nat):Int))∧T 13=(aY (snW (((nth (bqR a b (nth L i) L x) (i))).w) (((x:Nat):Int))))∧T 14=(iV ((nth ((nth (a.nx) (((nth (bqR a b (nth L i) L x) (i))).s).toNat)) (x))))∧T 15=(iV ((nth ((nth (b.nx) (((nth (bqR a b (nth L i) L x) (i))).t).toNat)) (x))))∧H 4=(bk 1 24 4 [[(iV (a.i)),(iV (a.s)),(aB a.nx),(aB a.ot)]])∧H 5=(bk 1 24 4 [[(iV (b.i)),(iV (b.s)),(aB b.nx),(aB b.ot)]])∧H 21=(bk v2 178 3 (List.map cPr (bqR a b (nth L i) L x)))∧True) ?_ ?_
   ·
    refine aO t4 h4 (aK rfl h4 rfl rfl (aA t10 (aA t11 (bW (i:=i) (@rfl V (V.ms 21 v2 0 ((bqR a b (nth L i) L x).length))) (@rfl V (iV ((i:Nat):Int))) h21 oB rfl (by first|omega|(simp only [r2]; omega)) (aO rfl h21 (bF (v:=(iV (((nth (bqR a b (nth L i) L x) (i))).s))) rfl h21 (cD (by first|omega|(simp only [r2]; omega)) (by first|rfl|(rw [cF_eq]; rfl)|simp [ldV,V.one])) (fY (i:=(((nth (bqR a b (nth L i) L x) (i))).s)) (@rfl V (aB a.nx)) (@rfl V (iV (((nth (bqR a b (nth L i) L x) (i))).s))) (by first|omega|(simp only [r2]; omega)) (by first|omega|(simp only [r2]; omega)) rfl ?_)))))))
    refine aJ rfl rfl (aA t12 (bK (i:=x) (@rfl V (aY ((nth (a.nx) (((nth (bqR a b (nth L i) L x) (i))).s).toNat)))) (@rfl V (iV ((x:Nat):Int))) (by first|omega|(simp only [r2]; omega)) rfl (aJ rfl rfl (aO t5 h5 (aK rfl h5 rfl rfl (aA t10 (aA t11 ?_)))))))
    refine bW (i:=i) (@rfl V (V.ms 21 v2 0 ((bqR a b (nth L i) L x).length))) (@rfl V (iV ((i:Nat):Int))) h21 oB rfl (by first|omega|(simp only [r2]; omega)) (aO rfl h21 (bF (v:=(iV (((nth (bqR a b (nth L i) L x) (i))).t))) rfl h21 (cD (by first|omega|(simp only [r2]; omega)) (by first|rfl|(rw [cF_eq]; rfl)|simp [ldV,V.one])) (fY (i:=(((nth (bqR a b (nth L i) L x) (i))).t)) (@rfl V (aB b.nx)) (@rfl V (iV (((nth (bqR a b (nth L i) L x) (i))).t))) (by first|omega|(simp only [r2]; omega)) (by first|omega|(simp only [r2]; omega)) rfl (aJ rfl rfl (aA t12 (bK (i:=x) (@rfl V (aY ((nth (b.nx) (((nth (bqR a b (nth L i) L x) (i))).t).toNat)))) (@rfl V (iV ((x:Nat):Int))) (by first|omega|(simp only [r2]; omega)) rfl (aJ rfl rfl ?_)))))))
    refine aA rfl (aA rfl ?_)
    exact fQ ⟨t4,t5,t10,t11,t12,rfl,rfl,rfl,h4,h5,h21,trivial⟩
   intro T H ⟨t4,t5,t10,t11,t12,t13,t14,t15,h4,h5,h21,_⟩
   refine W_r (aA rfl (R_e (aC (W_r (aA rfl (R_e (aI fun Q10 n10 x10 y10 z10=>?_)))))))
   refine cP (fun mm T H=> ∃ (k:Nat),mm=(bqR a b (nth L i) L x).length - k∧T 4=(V.mp 4 1 0 0)∧T 5=(V.mp 5 1 0 0)∧T 10=(V.ms 21 v2 0 ((bqR a b (nth L i) L x).length))∧T 11=(iV ((i:Nat):Int))∧T 12=(iV ((x:Nat):Int))∧T 13=(aY (snW (((nth (bqR a b (nth L i) L x) (i))).w) (((x:Nat):Int))))∧T 14=(iV (nxS a (nth L i).s x))∧T 15=(iV (nxS b (nth L i).t x))∧T 16=(V.bool (knK (bqR a b (nth L i) L x) (nxS a (nth L i).s x) (nxS b (nth L i).t x) k))∧T 17=(iV ((k:Nat):Int))∧H 4=(bk 1 24 4 [[(iV (a.i)),(iV (a.s)),(aB a.nx),(aB a.ot)]])∧H 5=(bk 1 24 4 [[(iV (b.i)),(iV (b.s)),(aB b.nx),(aB b.ot)]])∧H 21=(bk v2 178 3 (List.map cPr (bqR a b (nth L i) L x)))∧(k≤(bqR a b (nth L i) L x).length)) ?_ ?_
   ·
    refine ⟨_,0,rfl,t4,t5,t10,t11,t12,t13,(Eq.trans t14 (by first|rfl|(simp only [r2]; rfl)|(simp only [knK]; rfl)|(rw [show x=a.i.toNat by omega]; done)|(rw [aX d2,List.length_append]; done)|(rw [aX d2,List.length_append]; rfl)|(rw [bR d2]; done)|simp)),(Eq.trans t15 (by first|rfl|(simp only [r2]; rfl)|(simp only [knK]; rfl)|(rw [show x=a.i.toNat by omega]; done)|(rw [aX d2,List.length_append]; done)|(rw [aX d2,List.length_append]; rfl)|(rw [bR d2]; done)|simp)),(Eq.trans (@rfl V (V.bool false)) (by first|rfl|(simp only [r2]; rfl)|(simp only [knK]; rfl)|(rw [show x=a.i.toNat by omega]; done)|(rw [aX d2,List.length_append]; done)|(rw [aX d2,List.length_append]; rfl)|(rw [bR d2]; done)|simp)),(Eq.trans (@rfl V (iV (0:Int))) rfl),h4,h5,h21,?_⟩
    · omega
   intro mm T H ⟨k,hmm,t4,t5,t10,t11,t12,t13,t14,t15,t16,t17,h4,h5,h21,hk3⟩ Q11 p111 p211 p311
   unfold aK3
   refine aC (W_r (aA t17 (aA t10 (dX rfl h21 (by first|rfl|simp) (bQ rfl rfl (R_e ?_))))))
   refine aL rfl (fun c12=>?_) fun c12=>?_
   ·
    refine aG (aI fun Q13 n13 x13 y13 z13=>(W_t (aA t16 (aA rfl ?_))))
    refine aV 17 (fun T H=>T 4=(V.mp 4 1 0 0)∧T 5=(V.mp 5 1 0 0)∧T 10=(V.ms 21 v2 0 ((bqR a b (nth L i) L x).length))∧T 11=(iV ((i:Nat):Int))∧T 12=(iV ((x:Nat):Int))∧T 13=(aY (snW (((nth (bqR a b (nth L i) L x) (i))).w) (((x:Nat):Int))))∧T 14=(iV (nxS a (nth L i).s x))∧T 15=(iV (nxS b (nth L i).t x))∧T 16=(V.bool (knK (bqR a b (nth L i) L x) (nxS a (nth L i).s x) (nxS b (nth L i).t x) k))∧T 17=(iV ((k:Nat):Int))∧T 115=(V.bool (((knK (bqR a b (nth L i) L x) (nxS a (nth L i).s x) (nxS b (nth L i).t x) k)||decide (((((nth (bqR a b (nth L i) L x) (k))).s)=(nxS a (nth L i).s x))∧((((nth (bqR a b (nth L i) L x) (k))).t)=(nxS b (nth L i).t x))))))∧H 4=(bk 1 24 4 [[(iV (a.i)),(iV (a.s)),(aB a.nx),(aB a.ot)]])∧H 5=(bk 1 24 4 [[(iV (b.i)),(iV (b.s)),(aB b.nx),(aB b.ot)]])∧H 21=(bk v2 178 3 (List.map cPr (bqR a b (nth L i) L x)))∧True) ?_ ?_
    ·
     by_cases g14:(knK (bqR a b (nth L i) L x) (nxS a (nth L i).s x) (nxS b (nth L i).t x) k)=true
     ·
      refine G_n (ebT g14 rfl) (G_n (ebT g14 rfl) (G_n (ebT g14 rfl) (G_n (ebT g14 rfl) (G_n (ebT g14 rfl) (G_n (ebT g14 rfl) (G_n (ebT g14 rfl) (G_n (ebT g14 rfl) ?_)))))))
      refine gK (@rfl V (V.raw undef)) (gK (@rfl V (V.raw undef)) (gK (@rfl V (V.raw undef)) (gK (@rfl V (V.raw undef)) (gK (@rfl V (V.raw undef)) (gK (@rfl V (V.raw undef)) (gK (@rfl V (V.raw undef)) (G_n (ebT g14 rfl) ?_)))))))
      refine aW (ebT g14 rfl) rfl ?_
      exact ⟨t4,t5,t10,t11,t12,t13,t14,t15,t16,t17,(aNw g14),h4,h5,h21,trivial⟩
     ·
      refine aD (ebF g14 rfl) (aA t10 (aD (ebF g14 rfl) (aA t17 (aD (ebF g14 rfl) (bW (i:=k) (@rfl V (V.ms 21 v2 0 ((bqR a b (nth L i) L x).length))) (@rfl V (iV ((k:Nat):Int))) h21 oB rfl (by first|omega|(simp only [r2]; omega)) (aD (ebF g14 rfl) (aO rfl h21 ?_)))))))
      refine aD (ebF g14 rfl) (bF (v:=(iV (((nth (bqR a b (nth L i) L x) (k))).s))) rfl h21 (cD (by first|omega|(simp only [r2]; omega)) (by first|rfl|(rw [cF_eq]; rfl)|simp [ldV,V.one])) (aD (ebF g14 rfl) (aA t14 (aD (ebF g14 rfl) (gU rfl rfl (aD (ebF g14 rfl) (aA rfl ?_)))))))
      refine aV 8 (fun T H=>T 4=(V.mp 4 1 0 0)∧T 5=(V.mp 5 1 0 0)∧T 10=(V.ms 21 v2 0 ((bqR a b (nth L i) L x).length))∧T 11=(iV ((i:Nat):Int))∧T 12=(iV ((x:Nat):Int))∧T 13=(aY (snW (((nth (bqR a b (nth L i) L x) (i))).w) (((x:Nat):Int))))∧T 14=(iV (nxS a (nth L i).s x))∧T 15=(iV (nxS b (nth L i).t x))∧T 16=(V.bool (knK (bqR a b (nth L i) L x) (nxS a (nth L i).s x) (nxS b (nth L i).t x) k))∧T 17=(iV ((k:Nat):Int))∧T 98=(V.bool false)∧T 99=(V.ms 21 v2 0 ((bqR a b (nth L i) L x).length))∧T 100=(iV ((k:Nat):Int))∧T 101=(V.mp 21 v2 k 0)∧T 102=(V.mp 21 v2 k 0)∧T 103=(iV (((nth (bqR a b (nth L i) L x) (k))).s))∧T 104=(iV (nxS a (nth L i).s x))∧T 105=(V.bool (decide ((((nth (bqR a b (nth L i) L x) (k))).s)=(nxS a (nth L i).s x))))∧T 106=(V.bool (decide ((((nth (bqR a b (nth L i) L x) (k))).s)=(nxS a (nth L i).s x))))∧T 114=(V.bool (decide (((((nth (bqR a b (nth L i) L x) (k))).s)=(nxS a (nth L i).s x))∧((((nth (bqR a b (nth L i) L x) (k))).t)=(nxS b (nth L i).t x)))))∧H 4=(bk 1 24 4 [[(iV (a.i)),(iV (a.s)),(aB a.nx),(aB a.ot)]])∧H 5=(bk 1 24 4 [[(iV (b.i)),(iV (b.s)),(aB b.nx),(aB b.ot)]])∧H 21=(bk v2 178 3 (List.map cPr (bqR a b (nth L i) L x)))∧True) ?_ ?_
      ·
       by_cases g15:(((nth (bqR a b (nth L i) L x) (k))).s)=(nxS a (nth L i).s x)
       ·
        refine aD (edT g15 rfl) (aA t10 (aD (edT g15 rfl) (aA t17 (aD (edT g15 rfl) (bW (i:=k) (@rfl V (V.ms 21 v2 0 ((bqR a b (nth L i) L x).length))) (@rfl V (iV ((k:Nat):Int))) h21 oB rfl (by first|omega|(simp only [r2]; omega)) (aD (edT g15 rfl) (aO rfl h21 ?_)))))))
        refine aD (edT g15 rfl) (bF (v:=(iV (((nth (bqR a b (nth L i) L x) (k))).t))) rfl h21 (cD (by first|omega|(simp only [r2]; omega)) (by first|rfl|(rw [cF_eq]; rfl)|simp [ldV,V.one])) (aD (edT g15 rfl) (aA t15 (aD (edT g15 rfl) (gU rfl rfl (aD (ebF g14 rfl) (aW (edT g15 rfl) rfl ?_)))))))
        exact ⟨t4,t5,t10,t11,t12,t13,t14,t15,t16,t17,(ebF g14 rfl),rfl,rfl,rfl,rfl,rfl,rfl,rfl,rfl,(jC g15),h4,h5,h21,trivial⟩
       ·
        refine G_n (edF g15 rfl) (G_n (edF g15 rfl) (G_n (edF g15 rfl) (G_n (edF g15 rfl) (G_n (edF g15 rfl) (G_n (edF g15 rfl) (G_n (edF g15 rfl) (aD (ebF g14 rfl) ?_)))))))
        refine aU (edF g15 rfl) rfl ?_
        exact ⟨t4,t5,t10,t11,t12,t13,t14,t15,t16,t17,(ebF g14 rfl),rfl,rfl,rfl,rfl,rfl,rfl,rfl,rfl,(iZ g15),h4,h5,h21,trivial⟩
      intro T H ⟨t4,t5,t10,t11,t12,t13,t14,t15,t16,t17,t98,t99,t100,t101,t102,t103,t104,t105,t106,t114,h4,h5,h21,_⟩
      refine aU t98 t114 ?_
      exact ⟨t4,t5,t10,t11,t12,t13,t14,t15,t16,t17,(aLu g14),h4,h5,h21,trivial⟩
    intro T H ⟨t4,t5,t10,t11,t12,t13,t14,t15,t16,t17,t115,h4,h5,h21,_⟩
    refine aA t115 (R_e (n13 _ _ (.done (W_t (aA t17 (bS rfl (@rfl V (iV ((1:Nat):Int))) (by first|omega|(simp only [r2]; omega)) (aA rfl ?_)))))))
    refine R_e ?_
    refine p111 _ _ _ ?_ ⟨(k+1),rfl,t4,t5,t10,t11,t12,t13,t14,t15,(Eq.trans (@rfl V (V.bool (((knK (bqR a b (nth L i) L x) (nxS a (nth L i).s x) (nxS b (nth L i).t x) k)||decide (((((nth (bqR a b (nth L i) L x) (k))).s)=(nxS a (nth L i).s x))∧((((nth (bqR a b (nth L i) L x) (k))).t)=(nxS b (nth L i).t x))))))) (by first|rfl|(simp only [r2]; rfl)|(simp only [knK]; rfl)|(rw [show x=a.i.toNat by omega]; done)|(rw [aX d2,List.length_append]; done)|(rw [aX d2,List.length_append]; rfl)|(rw [bR d2]; done)|simp)),(Eq.trans (@rfl V (iV ((k+1:Nat):Int))) (by first|rfl|(simp only [r2]; rfl)|(simp only [knK]; rfl)|(rw [show x=a.i.toNat by omega]; done)|(rw [aX d2,List.length_append]; done)|(rw [aX d2,List.length_append]; rfl)|(rw [bR d2]; done)|simp)),h4,h5,h21,?_⟩
    · omega
    · omega
   refine aT (p311 _ _ _ (x10 _ _ (.done (W_r (aA t16 (lJ rfl (R_e ?_)))))))
   refine aAQ rfl (fun c16=>?_) (fun c16=>?_)
   ·
    have d2:knK (bqR a b (nth L i) L x) (nxS a (nth L i).s x) (nxS b (nth L i).t x) (bqR a b (nth L i) L x).length=false:=by rw [show (bqR a b (nth L i) L x).length=k by omega]; simpa using c16
    refine W_t (aA t10 (aA t14 (aA t15 (aA t13 (dS rfl rfl (cQ rfl rfl (dH (l:=(bqR a b (nth L i) L x)) (f:=cPr) (x:=((⟨nxS a (nth L i).s x,nxS b (nth L i).t x,snW (((nth (bqR a b (nth L i) L x) (i))).w) (((x:Nat):Int))⟩:Pr))) (@rfl V (V.ms 21 v2 0 ((bqR a b (nth L i) L x).length))) h21 (by first|rfl|simp|omega) (@rfl V (V.sl [[(iV (nxS a (nth L i).s x)),(iV (nxS b (nth L i).t x)),(aY (snW (((nth (bqR a b (nth L i) L x) (i))).w) (((x:Nat):Int))))]])) rfl rfl (by first|omega|(simp only [r2]; omega)) (by first|omega|(simp only [r2]; omega)) ?_)))))))
    refine aA rfl (R_e (n8 _ _ (.done (W_t (aA t12 (bS rfl (@rfl V (iV ((1:Nat):Int))) (by first|omega|(simp only [r2]; omega)) (aA rfl ?_)))))))
    refine R_e ?_
    refine p16 _ _ _ ?_ ⟨(x+1),(v2+1),rfl,t4,t5,(Eq.trans (@rfl V (V.ms 21 (v2+1) 0 (((bqR a b (nth L i) L x).length)+1))) (by first|rfl|(simp only [r2]; rfl)|(simp only [knK]; rfl)|(rw [show x=a.i.toNat by omega]; done)|(rw [aX d2,List.length_append]; done)|(rw [aX d2,List.length_append]; rfl)|(rw [bR d2]; done)|simp)),t11,(Eq.trans (@rfl V (iV ((x+1:Nat):Int))) (by first|rfl|(simp only [r2]; rfl)|(simp only [knK]; rfl)|(rw [show x=a.i.toNat by omega]; done)|(rw [aX d2,List.length_append]; done)|(rw [aX d2,List.length_append]; rfl)|(rw [bR d2]; done)|simp)),h4,h5,(Eq.trans (@rfl Blk (bk (v2+1) 178 3 (List.map cPr (bqR a b (nth L i) L x++[(⟨nxS a (nth L i).s x,nxS b (nth L i).t x,snW (((nth (bqR a b (nth L i) L x) (i))).w) (((x:Nat):Int))⟩:Pr)])))) (by first|rfl|(rw [show x=a.i.toNat by omega]; done)|(simp only [r2]; rw [aX d2]; done)|(simp only [r2]; rw [aX d2]; rfl)|(rw [bR d2]; done)|simp)),?_,?_⟩
    · omega
    · omega
    · intro j hj
      by_cases e:j=x
      · subst e; exact d1
      · exact hdx j (by omega)
   have d2:knK (bqR a b (nth L i) L x) (nxS a (nth L i).s x) (nxS b (nth L i).t x) (bqR a b (nth L i) L x).length=true:=by rw [show (bqR a b (nth L i) L x).length=k by omega]; simpa using c16
   refine dC (n8 _ _ (.done (W_t (aA t12 (bS rfl (@rfl V (iV ((1:Nat):Int))) (by first|omega|(simp only [r2]; omega)) (aA rfl (R_e ?_)))))))
   refine p16 _ _ _ ?_ ⟨(x+1),v2,rfl,t4,t5,(Eq.trans t10 (by first|rfl|(simp only [r2]; rfl)|(simp only [knK]; rfl)|(rw [show x=a.i.toNat by omega]; done)|(rw [aX d2,List.length_append]; done)|(rw [aX d2,List.length_append]; rfl)|(rw [bR d2]; done)|simp)),t11,(Eq.trans (@rfl V (iV ((x+1:Nat):Int))) (by first|rfl|(simp only [r2]; rfl)|(simp only [knK]; rfl)|(rw [show x=a.i.toNat by omega]; done)|(rw [aX d2,List.length_append]; done)|(rw [aX d2,List.length_append]; rfl)|(rw [bR d2]; done)|simp)),h4,h5,(Eq.trans h21 (by first|rfl|(rw [show x=a.i.toNat by omega]; done)|(simp only [r2]; rw [aX d2]; done)|(simp only [r2]; rw [aX d2]; rfl)|(rw [bR d2]; done)|simp)),?_,?_⟩
   · omega
   · omega
   · intro j hj
     by_cases e:j=x
     · subst e; exact d1
     · exact hdx j (by omega)
  refine aT (p36 _ _ _ (x5 _ _ (n4 _ _ (.done (W_t (aA t11 (bS rfl (@rfl V (iV ((1:Nat):Int))) (by first|omega|(simp only [r2]; omega)) ?_)))))))
  refine aA rfl (R_e ?_)
  refine p12 _ _ _ ?_ ⟨(i+1),v2,(bqR a b (nth L i) L a.i.toNat),rfl,t4,t5,(Eq.trans t10 (by first|rfl|(simp only [r2]; rfl)|(simp only [knK]; rfl)|(rw [show x=a.i.toNat by omega]; done)|(rw [aX d2,List.length_append]; done)|(rw [aX d2,List.length_append]; rfl)|(rw [bR d2]; done)|simp)),(Eq.trans (@rfl V (iV ((i+1:Nat):Int))) (by first|rfl|(simp only [r2]; rfl)|(simp only [knK]; rfl)|(rw [show x=a.i.toNat by omega]; done)|(rw [aX d2,List.length_append]; done)|(rw [aX d2,List.length_append]; rfl)|(rw [bR d2]; done)|simp)),h4,h5,(Eq.trans h21 (by first|rfl|(rw [show x=a.i.toNat by omega]; done)|(simp only [r2]; rw [aX d2]; done)|(simp only [r2]; rw [aX d2]; rfl)|(rw [bR d2]; done)|simp)),?_,?_,?_⟩
  · omega
  · have:=pD (a:=a) (b:=b) (p:=nth L i) (L:=L) (x:=a.i.toNat); omega
  · exact hbi.row hma hmb hi (by omega) (Nat.le_refl _) fun j hj=>hdx j (by omega)
  · rw [hc,aKA (by omega) (by omega) fun j hj=>hdx j (by omega)]
 have hz:dst a b s t=none:=by rw [hc,aGp (by omega)]
 refine aT (p32 _ _ _ (x1 _ _ (.done (W_r (aA rfl (aA rfl (R_e ?_)))))))
 refine bI ?_
 refine aC1 (@rfl V V.nilsl) (@rfl V (V.bool false)) (dV ?_) (bJ ?_)
 · rw [hz]; rfl
 · rw [hz]; rfl
theorem aCj (a b:M):aZ Tryz.prog 42 [(V.agg [(iV (a.i)),(iV (a.s)),(aB a.nx),(aB a.ot)]),(V.agg [(iV (b.i)),(iV (b.s)),(aB b.nx),(aB b.ot)])] (V.tup [(aY (wM a b)),(V.bool (wN a b)),(iV (jJ a b))]):=by
 refine pW Tryz.func42 aNd fun hB=>?_
 unfold s42
 dsimp only
 refine W_r (dK (i:=2) (n:=0) (m:=4) (cs:=[(iV (a.i)),(iV (a.s)),(aB a.nx),(aB a.ot)]) rfl (congrArg Blk.ver rfl) rfl rfl rfl (dK (i:=3) (n:=0) (m:=4) (cs:=[(iV (b.i)),(iV (b.s)),(aB b.nx),(aB b.ot)]) rfl (congrArg Blk.ver rfl) rfl rfl rfl (aA rfl (aA rfl (aA rfl (R_e (aC ?_)))))))
 refine W_r (aK rfl rfl rfl rfl (aK rfl rfl rfl rfl (bE (aB3 a b) rfl (aA rfl (R_e (aC (W_r ?_)))))))
 refine aA rfl (cG rfl rfl (R_e ?_))
 refine aL rfl (fun c1=>?_) fun c1=>?_
 ·
  have d1:=c1
  refine aC (W_r (aA rfl (aA rfl (aA rfl (aA rfl (R_e (aR ?_)))))))
  refine jI (@rfl V V.nilsl) (@rfl V (V.bool false)) (@rfl V (iV (jJ a b))) (dV ?_) (bJ ?_) (mD (by simp) rfl)
  · unfold wM; rw [if_pos d1]
  · unfold wN; rw [if_pos d1]
 have d0:jJ a b=0:=by omega
 obtain ⟨hma,hmb,hi⟩:=aFY d0
 refine aG (W_r (aK rfl rfl rfl rfl (aK rfl rfl rfl rfl (aO rfl rfl (aK rfl rfl rfl rfl (aO rfl rfl (aK rfl rfl rfl rfl ?_)))))))
 refine bE (aB9 a b ((a.s)) ((b.s)) hma hmb hi (aAf hma) (aAf hmb)) rfl (aA rfl (eD rfl rfl (eD rfl rfl (aA rfl (aA rfl (R_e (W_r ?_)))))))
 refine aA rfl (aA rfl (aA rfl (aA rfl (aA rfl (R_e (bI ?_))))))
 refine jI (@rfl V (aY ((dst a b ((a.s)) ((b.s))).getD []))) (@rfl V (V.bool ((dst a b ((a.s)) ((b.s))).isSome))) (@rfl V (iV (0:Int))) (rV ?_ (fun _=>by simp)) (bJ ?_) (aM ?_)
 · unfold wM; rw [if_neg (by omega)]
 · unfold wN; rw [if_neg (by omega)]
 · omega
theorem yW (a b:TM):aZ Tryz.prog 16 [(V.agg [(iV (a.i)),(iV (a.tm)),(iV (a.s)),(aB a.nx),(aB a.ot),(V.sl (List.map cSr (a.st)))]),(V.agg [(iV (b.i)),(iV (b.tm)),(iV (b.s)),(aB b.nx),(aB b.ot),(V.sl (List.map cSr (b.st)))])] (V.tup [(aY (tqW a b)),(V.bool (tqF a b)),(iV (tqE a b))]):=by
 refine pW Tryz.func16 aOD fun hB=>?_
 unfold s16
 dsimp only
 refine W_r (dK (i:=2) (n:=0) (m:=6) (cs:=[(iV (a.i)),(iV (a.tm)),(iV (a.s)),(aB a.nx),(aB a.ot),(V.sl (List.map cSr (a.st)))]) rfl (congrArg Blk.ver rfl) rfl rfl rfl (dK (i:=3) (n:=0) (m:=6) (cs:=[(iV (b.i)),(iV (b.tm)),(iV (b.s)),(aB b.nx),(aB b.ot),(V.sl (List.map cSr (b.st)))]) rfl (congrArg Blk.ver rfl) rfl rfl rfl (aA rfl (aA rfl (aA rfl (R_e (aC ?_)))))))
 refine W_r (aK rfl rfl rfl rfl (bE (lK a) rfl (aA rfl (R_e (aC (W_r (aA rfl ?_)))))))
 refine cG rfl rfl (R_e ?_)
 refine aL rfl (fun c1=>?_) fun c1=>?_
 ·
  have d1:=c1
  refine aC (W_r (aA rfl (aA rfl (aA rfl (aA rfl (R_e (aR ?_)))))))
  refine jI (@rfl V V.nilsl) (@rfl V (V.bool false)) (@rfl V (iV (dP a))) (dV ?_) (bJ ?_) (aM ?_)
  · have q:=eX (a:=a) (b:=b) (yR d1) d1
    rw [q.1]
  · have q:=eX (a:=a) (b:=b) (yR d1) d1
    exact q.2.1.symm
  · have q:=eX (a:=a) (b:=b) (yR d1) d1
    exact q.2.2.symm
 have d1:dP a=0:=Decidable.not_not.1 c1
 refine aG (aC (W_r (aK rfl rfl rfl rfl (bE (lK b) rfl (aA rfl (R_e (aC ?_)))))))
 refine W_r (aA rfl (cG rfl rfl (R_e ?_)))
 refine aL rfl (fun c2=>?_) fun c2=>?_
 ·
  have d2:=c2
  refine aC (W_r (aA rfl (aA rfl (aA rfl (aA rfl (R_e (aR ?_)))))))
  refine jI (@rfl V V.nilsl) (@rfl V (V.bool false)) (@rfl V (iV (dP b))) (dV ?_) (bJ ?_) (aM ?_)
  · have q:=eX (a:=a) (b:=b) (yK d1 d2) d2
    rw [q.1]
  · have q:=eX (a:=a) (b:=b) (yK d1 d2) d2
    exact q.2.1.symm
  · have q:=eX (a:=a) (b:=b) (yK d1 d2) d2
    exact q.2.2.symm
 have d2:dP b=0:=Decidable.not_not.1 c2
 refine aG (aC (W_r (aO rfl rfl (aK rfl rfl rfl rfl (aO rfl rfl (aK rfl rfl rfl rfl (cG rfl rfl ?_)))))))
 refine aA rfl ?_
 refine aV 6 (fun T H=>T 2=(V.mp 2 1 0 0)∧T 3=(V.mp 3 1 0 0)∧T 33=(V.bool (decide (((a.i)≠(b.i))∨((a.tm)≠(b.tm)))))∧H 2=(bk 1 29 6 [[(iV (a.i)),(iV (a.tm)),(iV (a.s)),(aB a.nx),(aB a.ot),(V.sl (List.map cSr (a.st)))]])∧H 3=(bk 1 29 6 [[(iV (b.i)),(iV (b.tm)),(iV (b.s)),(aB b.nx),(aB b.ot),(V.sl (List.map cSr (b.st)))]])∧H 9=(⟨0,false,false,0,0,[]⟩:Blk)∧H 11=(⟨0,false,false,0,0,[]⟩:Blk)∧True) ?_ ?_
 ·
  by_cases g3:(a.i)≠(b.i)
  ·
   refine G_n (edT g3 rfl) (G_n (edT g3 rfl) (G_n (edT g3 rfl) (G_n (edT g3 rfl) (G_n (edT g3 rfl) (aW (edT g3 rfl) rfl ?_)))))
   exact ⟨rfl,rfl,(bN g3),rfl,rfl,rfl,rfl,trivial⟩
  ·
   refine aD (edF g3 rfl) (aO rfl rfl (aD (edF g3 rfl) (aK rfl rfl rfl rfl (aD (edF g3 rfl) (aO rfl rfl (aD (edF g3 rfl) (aK rfl rfl rfl rfl ?_)))))))
   refine aD (edF g3 rfl) (cG rfl rfl (aU (edF g3 rfl) rfl ?_))
   exact ⟨rfl,rfl,(bM g3),rfl,rfl,rfl,rfl,trivial⟩
 intro T H ⟨t2,t3,t33,h2,h3,h9,h11,_⟩
 refine R_e ?_
 refine aL t33 (fun c4=>?_) fun c4=>?_
 ·
  have d3:a.i≠b.i∨a.tm≠b.tm:=c4
  refine aC (W_r (aA rfl (aA rfl (aA rfl (R_e (aR ?_))))))
  refine jI (@rfl V V.nilsl) (@rfl V (V.bool false)) (@rfl V (iV (15:Int))) (dV ?_) (bJ ?_) (aM ?_)
  · have q:=eX (a:=a) (b:=b) (xT d1 d2 d3) (by decide)
    rw [q.1]
  · have q:=eX (a:=a) (b:=b) (xT d1 d2 d3) (by decide)
    exact q.2.1.symm
  · have q:=eX (a:=a) (b:=b) (xT d1 d2 d3) (by decide)
    exact q.2.2.symm
 have d3: ¬(a.i≠b.i∨a.tm≠b.tm):=c4
 refine aG (W_r (aK t2 h2 rfl rfl (bE (nK a) rfl (aA rfl (eD rfl rfl (eD rfl rfl (dG (i:=9) (n:=0) (m:=4) rfl (congrArg Blk.ver h9) rfl ?_)))))))
 refine lL rfl rfl rfl rfl rfl rfl rfl rfl rfl (aA rfl (R_e (aC (W_r (aA rfl (cG rfl rfl (R_e ?_)))))))
 refine aL rfl (fun c5=>?_) fun c5=>?_
 ·
  have d4:unE a≠0:=c5
  refine aC (W_r (aA rfl (aA rfl (aA rfl (aA rfl (R_e (aR ?_)))))))
  refine jI (@rfl V V.nilsl) (@rfl V (V.bool false)) (@rfl V (iV (unE a))) (dV ?_) (bJ ?_) (aM ?_)
  · have q:=eX (a:=a) (b:=b) (xF d1 d2 d3 d4) d4
    rw [q.1]
  · have q:=eX (a:=a) (b:=b) (xF d1 d2 d3 d4) d4
    exact q.2.1.symm
  · have q:=eX (a:=a) (b:=b) (xF d1 d2 d3 d4) d4
    exact q.2.2.symm
 have d4:unE a=0:=Decidable.not_not.1 c5
 refine aG (W_r (aK t3 h3 rfl rfl (bE (nK b) rfl (aA rfl (eD rfl rfl (eD rfl rfl (dG (i:=11) (n:=0) (m:=4) rfl (congrArg Blk.ver h11) rfl ?_)))))))
 refine lL rfl rfl rfl rfl rfl rfl rfl rfl rfl (aA rfl (R_e (aC (W_r (aA rfl (cG rfl rfl (R_e ?_)))))))
 refine aL rfl (fun c6=>?_) fun c6=>?_
 ·
  have d5:unE b≠0:=c6
  refine aC (W_r (aA rfl (aA rfl (aA rfl (aA rfl (R_e (aR ?_)))))))
  refine jI (@rfl V V.nilsl) (@rfl V (V.bool false)) (@rfl V (iV (unE b))) (dV ?_) (bJ ?_) (aM ?_)
  · have q:=eX (a:=a) (b:=b) (rW d1 d2 d3 d4) d5
    rw [q.1]
  · have q:=eX (a:=a) (b:=b) (rW d1 d2 d3 d4) d5
    exact q.2.1.symm
  · have q:=eX (a:=a) (b:=b) (rW d1 d2 d3 d4) d5
    exact q.2.2.symm
 have d5:unE b=0:=Decidable.not_not.1 c6
 have hq:tmQ a b=0:=(rW d1 d2 d3 d4).trans d5
 refine aG ?_
 refine eQ (fun T H=>T 4=(aY (wM ((unM a)) ((unM b))))∧T 5=(V.bool (wN ((unM a)) ((unM b))))∧T 6=(iV (jJ ((unM a)) ((unM b))))∧H 2=(bk 1 29 6 [[(iV (a.i)),(iV (a.tm)),(iV (a.s)),(aB a.nx),(aB a.ot),(V.sl (List.map cSr (a.st)))]])∧H 3=(bk 1 29 6 [[(iV (b.i)),(iV (b.tm)),(iV (b.s)),(aB b.nx),(aB b.ot),(V.sl (List.map cSr (b.st)))]])∧H 9=(bk 1 24 4 [[(iV ((unM a).i)),(iV ((unM a).s)),(aB ((unM a).nx)),(aB ((unM a).ot))]])∧H 11=(bk 1 24 4 [[(iV ((unM b).i)),(iV ((unM b).s)),(aB ((unM b).nx)),(aB ((unM b).ot))]])∧True) ?_ ?_
 ·
  refine aK rfl rfl rfl rfl (aK rfl rfl rfl rfl (bE (aCj ((unM a)) ((unM b))) rfl (eD rfl rfl (eD rfl rfl (eD rfl rfl (aA rfl (aA rfl ?_)))))))
  refine aA rfl ?_
  exact fQ ⟨rfl,rfl,rfl,h2,h3,rfl,rfl,trivial⟩
 intro T H ⟨t4,t5,t6,h2,h3,h9,h11,_⟩
 refine bI ?_
 refine jI t4 t5 t6 (rV ?_ (fun _=>by simp)) (bJ ?_) (aM ?_)
 · rw [(rD hq).1]
 · exact (rD hq).2.1.symm
 · exact (rD hq).2.2.symm
theorem aEX (a b:List Int):aZ Tryz.prog 17 [(aY a),(aY b)] (V.bool (decide (a=b))):=by
 refine pW Tryz.func17 aGH fun hB=>?_
 unfold s17
 dsimp only
 refine W_r (aA rfl (R_e (aC (W_r (aA rfl (bO rfl (aA rfl ?_)))))))
 refine bO rfl (cG rfl rfl (R_e ?_))
 refine aL rfl (fun c1=>?_) fun c1=>?_
 ·
  refine aC (W_r (aA rfl (R_e (aR ?_))))
  refine bB (@rfl V (V.bool false)) (bJ ?_)
  · exact (decide_eq_false (fun e=>by subst e; omega)).symm
 refine aG (aC (W_r (aA rfl (R_e (aI fun Q2 n2 x2 y2 z2=>?_)))))
 refine cP (fun mm T H=> ∃ (k:Nat),mm=a.length - k∧T 0=(aY a)∧T 1=(aY b)∧T 5=(iV ((k:Nat):Int))∧(k≤a.length)∧(a.length=b.length)∧(∀ j,j < k→nth a j=nth b j)) ?_ ?_
 ·
  refine ⟨_,0,rfl,rfl,rfl,(Eq.trans (@rfl V (iV (0:Int))) rfl),?_,?_,?_⟩
  · omega
  · omega
  · intro j hj; omega
 intro mm T H ⟨k,hmm,t0,t1,t5,hk,hl,hc⟩ Q3 p13 p23 p33
 unfold aKC
 refine aC (W_r (aA t5 (aA t0 (bO rfl (bQ rfl rfl (R_e ?_))))))
 refine aL rfl (fun c4=>?_) fun c4=>?_
 ·
  refine aG (aI fun Q5 n5 x5 y5 z5=>(W_r (aA t0 (aA t5 (bK (i:=k) (@rfl V (aY a)) (@rfl V (iV ((k:Nat):Int))) (by omega) rfl (aJ rfl rfl (aA t1 ?_)))))))
  refine aA t5 (bK (i:=k) (@rfl V (aY b)) (@rfl V (iV ((k:Nat):Int))) (by omega) rfl (aJ rfl rfl (cG rfl rfl (R_e ?_))))
  refine fO rfl (fun c6=>?_) fun c6=>?_
  ·
   refine W_r (aA rfl (R_e (bI (y5 _ _ (p23 _ _ (y2 _ _ ?_))))))
   refine bB (@rfl V (V.bool false)) (bJ ?_)
   · exact (decide_eq_false (fun e=>by subst e; omega)).symm
  refine dC (n5 _ _ (.done (W_t (aA t5 (bS rfl (@rfl V (iV ((1:Nat):Int))) (by omega) (aA rfl (R_e ?_)))))))
  refine p13 _ _ _ ?_ ⟨(k+1),rfl,t0,t1,(Eq.trans (@rfl V (iV ((k+1:Nat):Int))) (by first|rfl|simp)),?_,?_,?_⟩
  · omega
  · omega
  · omega
  · intro j hj
    by_cases e:j=k
    · subst e; omega
    · exact hc j (by omega)
 refine aT (p33 _ _ _ (x2 _ _ (.done (W_r (aA rfl (R_e (bI ?_)))))))
 refine bB (@rfl V (V.bool true)) (bJ ?_)
 · exact (decide_eq_true (kD hl fun j hj=>hc j (by omega))).symm
theorem aEI (a b:TM):aZ Tryz.prog 4 [(V.agg [(iV (a.i)),(iV (a.tm)),(iV (a.s)),(aB a.nx),(aB a.ot),(V.sl (List.map cSr (a.st)))]),(V.agg [(iV (b.i)),(iV (b.tm)),(iV (b.s)),(aB b.nx),(aB b.ot),(V.sl (List.map cSr (b.st)))])] (V.bool true):=by
 refine pW Tryz.func4 aRy fun hB=>?_
 unfold s4
 dsimp only
 refine W_r (dK (i:=2) (n:=0) (m:=6) (cs:=[(iV (a.i)),(iV (a.tm)),(iV (a.s)),(aB a.nx),(aB a.ot),(V.sl (List.map cSr (a.st)))]) rfl (congrArg Blk.ver rfl) rfl rfl rfl (dK (i:=3) (n:=0) (m:=6) (cs:=[(iV (b.i)),(iV (b.tm)),(iV (b.s)),(aB b.nx),(aB b.ot),(V.sl (List.map cSr (b.st)))]) rfl (congrArg Blk.ver rfl) rfl rfl rfl (aA rfl (R_e (aC (W_r (aK rfl rfl rfl rfl ?_)))))))
 refine bE (pU a) rfl (lJ rfl (aA rfl ?_))
 refine aV 4 (fun T H=>T 2=(V.mp 2 1 0 0)∧T 3=(V.mp 3 1 0 0)∧T 18=(V.bool ((((!tsm a))||((!tsm b)))))∧H 2=(bk 1 29 6 [[(iV (a.i)),(iV (a.tm)),(iV (a.s)),(aB a.nx),(aB a.ot),(V.sl (List.map cSr (a.st)))]])∧H 3=(bk 1 29 6 [[(iV (b.i)),(iV (b.tm)),(iV (b.s)),(aB b.nx),(aB b.ot),(V.sl (List.map cSr (b.st)))]])∧True) ?_ ?_
 ·
  by_cases g1:((!tsm a))=true
  ·
   refine G_n (ebT g1 rfl) (G_n (ebT g1 rfl) (G_n (ebT g1 rfl) (aW (ebT g1 rfl) rfl ?_)))
   exact ⟨rfl,rfl,(aNw g1),rfl,rfl,trivial⟩
  ·
   refine aD (ebF g1 rfl) (aK rfl rfl rfl rfl (aD (ebF g1 rfl) (bE (pU b) rfl (aD (ebF g1 rfl) (lJ rfl (aU (ebF g1 rfl) rfl ?_))))))
   exact ⟨rfl,rfl,(aLu g1),rfl,rfl,trivial⟩
 intro T H ⟨t2,t3,t18,h2,h3,_⟩
 refine R_e ?_
 refine eB t18 (fun c2=>?_) (fun c2=>?_)
 ·
  refine aC (W_r (bE (fM) rfl (aA rfl (R_e (aR ?_)))))
  refine bB (@rfl V (V.bool true)) (mD (by simp) rfl)
 refine aG (W_r (aK t2 h2 rfl rfl (aK t3 h3 rfl rfl (bE (aAV a b) rfl (aA rfl (eD rfl rfl (eD rfl rfl ?_)))))))
 refine eD rfl rfl (aA rfl (aA rfl (aA rfl (R_e (W_r (aK t2 h2 rfl rfl (aK t3 h3 rfl rfl ?_)))))))
 refine bE (yW a b) rfl (aA rfl (eD rfl rfl (eD rfl rfl (eD rfl rfl (aA rfl (aA rfl (aA rfl ?_)))))))
 refine R_e ?_
 refine eQ (fun T H=>T 4=(V.bool ((((((decide ((tqW a b)=(tqW a b))&&(((tqF a b)==(tqF a b)))))&&decide ((tqE a b)=(tqE a b))))||false)))∧H 2=(bk 1 29 6 [[(iV (a.i)),(iV (a.tm)),(iV (a.s)),(aB a.nx),(aB a.ot),(V.sl (List.map cSr (a.st)))]])∧H 3=(bk 1 29 6 [[(iV (b.i)),(iV (b.tm)),(iV (b.s)),(aB b.nx),(aB b.ot),(V.sl (List.map cSr (b.st)))]])∧True) ?_ ?_
 ·
  refine aA rfl (aA rfl (bE (aEX (tqW a b) (tqW a b)) rfl (aA rfl ?_)))
  refine aV 4 (fun T H=>T 7=(iV (tqE a b))∧T 10=(iV (tqE a b))∧T 41=(V.bool ((decide ((tqW a b)=(tqW a b))&&(((tqF a b)==(tqF a b))))))∧H 2=(bk 1 29 6 [[(iV (a.i)),(iV (a.tm)),(iV (a.s)),(aB a.nx),(aB a.ot),(V.sl (List.map cSr (a.st)))]])∧H 3=(bk 1 29 6 [[(iV (b.i)),(iV (b.tm)),(iV (b.s)),(aB b.nx),(aB b.ot),(V.sl (List.map cSr (b.st)))]])∧True) ?_ ?_
  ·
   by_cases g3:(tqW a b)=(tqW a b)
   ·
    refine aD (edT g3 rfl) (aA rfl (aD (edT g3 rfl) (aA rfl (aD (edT g3 rfl) (aPq (x:=(tqF a b)) (y:=(tqF a b)) rfl rfl (aW (edT g3 rfl) rfl ?_))))))
    exact ⟨rfl,rfl,(aAt g3),h2,h3,trivial⟩
   ·
    refine G_n (edF g3 rfl) (G_n (edF g3 rfl) (G_n (edF g3 rfl) (aU (edF g3 rfl) rfl ?_)))
    exact ⟨rfl,rfl,(zO g3),h2,h3,trivial⟩
  intro T H ⟨t7,t10,t41,h2,h3,_⟩
  refine aA t41 ?_
  refine aV 4 (fun T H=>T 46=(V.bool ((((decide ((tqW a b)=(tqW a b))&&(((tqF a b)==(tqF a b)))))&&decide ((tqE a b)=(tqE a b)))))∧H 2=(bk 1 29 6 [[(iV (a.i)),(iV (a.tm)),(iV (a.s)),(aB a.nx),(aB a.ot),(V.sl (List.map cSr (a.st)))]])∧H 3=(bk 1 29 6 [[(iV (b.i)),(iV (b.tm)),(iV (b.s)),(aB b.nx),(aB b.ot),(V.sl (List.map cSr (b.st)))]])∧True) ?_ ?_
  ·
   by_cases g4:((decide ((tqW a b)=(tqW a b))&&(((tqF a b)==(tqF a b)))))=true
   ·
    have g4x:=g4
    try simp only [Bool.and_eq_true,Bool.or_eq_true,Bool.not_eq_true',decide_eq_true_eq] at g4x
    refine aD (ebT g4 rfl) (aA t7 (aD (ebT g4 rfl) (aA t10 (aD (ebT g4 rfl) (gU rfl rfl (aW (ebT g4 rfl) rfl ?_))))))
    exact ⟨(aRd g4),h2,h3,trivial⟩
   ·
    have g4x:=g4
    try simp only [Bool.and_eq_true,Bool.or_eq_true,Bool.not_eq_true',decide_eq_true_eq] at g4x
    refine G_n (ebF g4 rfl) (G_n (ebF g4 rfl) (G_n (ebF g4 rfl) (aU (ebF g4 rfl) rfl ?_)))
    exact ⟨(aR5 g4),h2,h3,trivial⟩
  intro T H ⟨t46,h2,h3,_⟩
  refine aA t46 ?_
  refine aV 2 (fun T H=>T 49=(V.bool ((((((decide ((tqW a b)=(tqW a b))&&(((tqF a b)==(tqF a b)))))&&decide ((tqE a b)=(tqE a b))))||false)))∧H 2=(bk 1 29 6 [[(iV (a.i)),(iV (a.tm)),(iV (a.s)),(aB a.nx),(aB a.ot),(V.sl (List.map cSr (a.st)))]])∧H 3=(bk 1 29 6 [[(iV (b.i)),(iV (b.tm)),(iV (b.s)),(aB b.nx),(aB b.ot),(V.sl (List.map cSr (b.st)))]])∧True) ?_ ?_
  ·
   by_cases g5:((((decide ((tqW a b)=(tqW a b))&&(((tqF a b)==(tqF a b)))))&&decide ((tqE a b)=(tqE a b))))=true
   ·
    have g5x:=g5
    try simp only [Bool.and_eq_true,Bool.or_eq_true,Bool.not_eq_true',decide_eq_true_eq] at g5x
    refine aD (ebT g5 rfl) (bE (fM) rfl (aW (ebT g5 rfl) rfl ?_))
    exact ⟨(aNw g5),h2,h3,trivial⟩
   ·
    have g5x:=g5
    try simp only [Bool.and_eq_true,Bool.or_eq_true,Bool.not_eq_true',decide_eq_true_eq] at g5x
    refine G_n (ebF g5 rfl) (aU (ebF g5 rfl) rfl ?_)
    exact ⟨(aLu g5),h2,h3,trivial⟩
  intro T H ⟨t49,h2,h3,_⟩
  refine aA t49 ?_
  exact fQ ⟨rfl,h2,h3,trivial⟩
 intro T H ⟨t4,h2,h3,_⟩
 refine bI ?_
 refine bB t4 (bJ ?_)
 · first|rfl|simp
end Go.Proofs.YtilfohjlglefjaaGreat
namespace Go.Proofs.YtilfohjlglefjaaGreat
open Go Go.Proofs Go.Proofs.YtilfohjlglefjaaGreat Go.ChangeShapes Go.WideShapes Go.ChangeAt Go.RowKit
structure UT (P:Program):Prop where
  u3:P.underlying 3=some (.int .i64)
  u22:P.underlying 22=some (.slice 38)
  u38:P.underlying 38=some (.slice 3)
  u27:P.underlying 27=some (.slice 70)
  u70:P.underlying 70=some (.slice 73)
  u73: ∃ f0 f1:Field,P.underlying 73=some (.struct #[f0,f1])∧f0.type=3∧f1.type=3
  u29: ∃ f0 f1 f2 f3 f4 f5:Field,P.underlying 29=some (.struct #[f0,f1,f2,f3,f4,f5])∧f0.type=3∧f1.type=3∧f2.type=3∧f3.type=22∧f4.type=22∧f5.type=27
theorem sh3 {P:Program} (U:UT P) (n:Nat) (vs:List V) (h:Shp P (n+1) 3 vs): ∃ a:Int,vs=cI a:=aJb U.u3 h
theorem aTK {P:Program} (U:UT P) (n:Nat) (vs:List V) (h:Shp P (n+2) 38 vs): ∃ a:List Int,vs=cL a:=nA (f:=cI) U.u38 (fun vs h=>sh3 U n vs h) h
theorem aSq {P:Program} (U:UT P) (n:Nat) (vs:List V) (h:Shp P (n+3) 22 vs): ∃ a:List (List Int),vs=(fun l=>[V.sl (List.map cL l)]) a:=nA (f:=cL) U.u22 (fun vs h=>aTK U n vs h) h
theorem aTJ {P:Program} (U:UT P) (n:Nat) (vs:List V) (h:Shp P (n+2) 73 vs): ∃ a:Sg,vs=cSg a:=by
  obtain ⟨f0,f1,hu,k0,k1⟩:=U.u73
  have h0:=aBd hu h
  obtain ⟨x0,u0,e0,h1⟩:=gH (c:=cI) (fun vs h=>sh3 U (n+0) vs (by rw [k0] at h; exact h)) h0
  obtain ⟨x1,u1,e1,h2⟩:=gH (c:=cI) (fun vs h=>sh3 U (n+0) vs (by rw [k1] at h; exact h)) h1
  have e2:=aA6 h2
  exact ⟨⟨x0,x1⟩,by rw [e0,e1,e2]; rfl⟩
theorem aTz {P:Program} (U:UT P) (n:Nat) (vs:List V) (h:Shp P (n+3) 70 vs): ∃ a:List Sg,vs=(fun l=>[V.sl (List.map cSg l)]) a:=nA (f:=cSg) U.u70 (fun vs h=>aTJ U n vs h) h
theorem aTD {P:Program} (U:UT P) (n:Nat) (vs:List V) (h:Shp P (n+4) 27 vs): ∃ a:List (List Sg),vs=(fun l=>[V.sl (List.map (fun l=>[V.sl (List.map cSg l)]) l)]) a:=nA (f:=(fun l=>[V.sl (List.map cSg l)])) U.u27 (fun vs h=>aTz U n vs h) h
theorem aTk {P:Program} (U:UT P) (n:Nat) (vs:List V) (h:Shp P (n+5) 29 vs): ∃ a:TM,vs=tmC a:=by
  obtain ⟨f0,f1,f2,f3,f4,f5,hu,k0,k1,k2,k3,k4,k5⟩:=U.u29
  have h0:=aBd hu h
  obtain ⟨x0,u0,e0,h1⟩:=gH (c:=cI) (fun vs h=>sh3 U (n+3) vs (by rw [k0] at h; exact h)) h0
  obtain ⟨x1,u1,e1,h2⟩:=gH (c:=cI) (fun vs h=>sh3 U (n+3) vs (by rw [k1] at h; exact h)) h1
  obtain ⟨x2,u2,e2,h3⟩:=gH (c:=cI) (fun vs h=>sh3 U (n+3) vs (by rw [k2] at h; exact h)) h2
  obtain ⟨x3,u3,e3,h4⟩:=gH (c:=(fun l=>[V.sl (List.map cL l)])) (fun vs h=>aSq U (n+1) vs (by rw [k3] at h; exact h)) h3
  obtain ⟨x4,u4,e4,h5⟩:=gH (c:=(fun l=>[V.sl (List.map cL l)])) (fun vs h=>aSq U (n+1) vs (by rw [k4] at h; exact h)) h4
  obtain ⟨x5,u5,e5,h6⟩:=gH (c:=(fun l=>[V.sl (List.map (fun l=>[V.sl (List.map cSg l)]) l)])) (fun vs h=>aTD U (n+0) vs (by rw [k5] at h; exact h)) h5
  have e6:=aA6 h6
  exact ⟨⟨x0,x1,x2,x3,x4,x5⟩,by rw [e0,e1,e2,e3,e4,e5,e6]; rfl⟩
theorem ut:UT Tryz.prog:=⟨by kernel_rfl,by kernel_rfl,by kernel_rfl,by kernel_rfl,by kernel_rfl,⟨_,_,Tryz.underlying73,rfl,rfl⟩,⟨_,_,_,_,_,_,Tryz.underlying29,rfl,rfl,rfl,rfl,rfl,rfl⟩⟩
theorem aQM {P:Program} (U:UT P) {us:List V} (h:aCx P 6 [29,29] us): ∃ (d0:TM) (d1:TM),us=[V.agg (tmC d0),V.agg (tmC d1)]:=by
  obtain ⟨a0,b0,e0,h0,h⟩:=xG h
  obtain ⟨d0,g0⟩:=aTk U 1 a0 h0
  have q0:pC P 29 a0=V.agg (tmC d0):=by obtain ⟨_,_,_,_,_,_,hu,_⟩:=U.u29; rw [g0]; exact rX hu _
  obtain ⟨a1,b1,e1,h1,h⟩:=xG h
  obtain ⟨d1,g1⟩:=aTk U 1 a1 h1
  have q1:pC P 29 a1=V.agg (tmC d1):=by obtain ⟨_,_,_,_,_,_,hu,_⟩:=U.u29; rw [g1]; exact rX hu _
  have e2:=aHn h
  exact ⟨d0,d1,by rw [e0,q0,e1,q1,e2]⟩
theorem aTF:ownKnob Tryz.prog.godebug=none:=by kernel_rfl
set_option maxRecDepth 100000 in
theorem aI1 (os:Os) (started:os.Started) (H:Type) (enc:TypeId×Value→H):
    ReturnsInHanded {} Tryz.checked os 4 .any (Rows.timelearnComparesSpec.pre6 enc Tryz.prog Tryz.f4 Rows.timelearnComparesRow.domain false) (Rows.timelearnComparesSpec.post enc Tryz.prog Tryz.f4 false true false false):=by
  refine returnsInHanded_of_change (C:=Tryz.checked) aTF started (by kernel_rfl) Tryz.func4
    (ChangeSpec.witness6 (enc:=enc) (C:=Tryz.checked) false ⟨#[],#[.agg #[.int .i64 0,.int .i64 0,.int .i64 0,.slice none 0 0,.slice none 0 0,.slice none 0 0],.agg #[.int .i64 0,.int .i64 0,.int .i64 0,.slice none 0 0,.slice none 0 0,.slice none 0 0]],[]⟩ 8 (by kernel_rfl) (by kernel_rfl) (by kernel_rfl) (by kernel_rfl)) ?_
  intro W base args ds gs before hval0 hW hcnd _
  refine aFN (n:=6) (tb:=4) (by kernel_rfl) (by kernel_rfl) (by kernel_rfl) (fun t ht=>?_) rfl ?_ (fun us hu=>?_) hval0 hW
  · have h:t∈[29,29]:=ht
    simp only [List.mem_cons,List.not_mem_nil,or_false] at h
    rcases h with rfl|rfl
    · exact ⟨by kernel_rfl,by kernel_rfl,of_decide_eq_true (by kernel_rfl)⟩
    · exact ⟨by kernel_rfl,by kernel_rfl,of_decide_eq_true (by kernel_rfl)⟩
  · obtain ⟨p,q,hA,hV,rfl,hfz,hnd⟩:=hW
    obtain ⟨rfl,rfl⟩:=trodVars_none hV
    change DataW.TrodAll enc Tryz.prog W 0 (fun _=>true) true [29,29] args.toList ds p at hA
    obtain ⟨v0,vs0,y0,ds0,pa0,pb0,hv0,rfl,rfl,_,hA⟩:=trodAll_cons hA
    obtain ⟨v1,vs1,y1,ds1,pa1,pb1,hv1,rfl,rfl,_,hA⟩:=trodAll_cons hA
    obtain ⟨_,rfl,rfl⟩:=trodAll_nil hA
    rfl
  · obtain ⟨d0,d1,rfl⟩:=aQM ut hu
    exact aEI d0 d1
theorem proved4:Rows.TimelearnComparesSaid:=
  OpenClaim.holds_of_wide 4 Tryz.f4 rfl rfl rfl rfl rfl rfl rfl ⟨rfl,rfl,rfl,rfl,rfl⟩ rfl rfl rfl rfl rfl (by kernel_rfl) Tryz.func4 (by kernel_rfl)
    (of_decide_eq_true (by kernel_rfl)) (by unfold Func.isWrapper; first|(rw [if_pos (by decide+kernel)]; kernel_rfl)|(rw [if_neg (by decide+kernel)]; exact ⟨rfl,rfl⟩))
    (fun os started H enc _=>aI1 os started H enc)
end Go.Proofs.YtilfohjlglefjaaGreat
