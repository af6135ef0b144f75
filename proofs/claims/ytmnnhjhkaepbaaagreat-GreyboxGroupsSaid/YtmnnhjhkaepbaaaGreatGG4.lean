/- Contracts of the functions that the law GG reaches, and the law itself, for every input; no condition. -/
import Derived.KernelRfl
import Derived.Test.YtmnnhjhkaepbaaaGreatProg
import Derived.Test.YtmnnhjhkaepbaaaGreatRows
import Derived.Test.YtmnnhjhkaepbaaaGreatGG3
set_option linter.unusedSimpArgs false
set_option linter.unusedVariables false
namespace Go.Proofs.YtmnnhjhkaepbaaaGreat
open Go Go.Proofs
attribute [local irreducible] oP
theorem aDK (m:M):bA Tryz.prog 48 [(V.agg [(iV m.i),(iV m.s),(aD m.nx),(aD m.ot)])] (V.tup [(V.agg [(iV ((trR m).i)),(iV ((trR m).s)),(aD ((trR m).nx)),(aD ((trR m).ot))]),(iV (bD m))]):=by
 refine pW Tryz.func48 aH4 fun hB=>?_
 unfold s48
 dsimp only
 refine W_r (dN (i:=1) (n:=0) (m:=4) (cs:=[(iV m.i),(iV m.s),(aD m.nx),(aD m.ot)]) rfl (cVq rfl) rfl rfl rfl (cQ (i:=2) (n:=0) (m:=4) rfl (cVq rfl) rfl (aA rfl (R_e (aB (W_r (aS rfl rfl rfl rfl ?_)))))))
 refine aV (iR m) rfl (aA rfl (R_e (aB (W_r (aA rfl (dD rfl rfl (R_e ?_)))))))
 refine aJ rfl (fun c1=>?_) fun c1=>?_
 ·
  have d0:=c1
  refine aB (W_r (eL rfl rfl (aA rfl (bC (vs:=[(iV 0),(iV 0),V.nilsl,V.nilsl]) (B':=bNq) rfl rfl rfl rfl (sB oB rfl rfl rfl rfl rfl) (aA rfl (R_e (aX ?_)))))))
  refine jS (gT (u:=(V.agg [(iV 0),(iV 0),V.nilsl,V.nilsl])) rfl (@rfl Blk bNq) (lB oB rfl rfl)) (jM (rVq (iV (bD m)))) (iM (bZ (aW ?_) (bZ (aW ?_) (bZ (eB ?_) (bZ (eB ?_) rfl))))) (dE (by simp) rfl)
  · rw [trR,if_neg d0]; try rfl
  · rw [trR,if_neg d0]; try rfl
  · rw [trR,if_neg d0]; try rfl
  · rw [trR,if_neg d0]; try rfl
 have d0:=c1
 have hm:bD m=0:=by omega
 have mo:=bT hm
 have rc:=iZ hm
 have rl:=rc.len
 have me:=mo.2.2.2.2.2.2.1
 refine aE (W_r (aS rfl rfl rfl rfl (aV (aDH m) rfl (aA rfl (R_e (W_r (aZ rfl rfl ?_)))))))
 refine aS rfl rfl rfl rfl (bI rfl (lA (i:=26) (n:=0) (m:=m.nx.length) (q:=m.nx.length) (f:=cI) (x:=0) rfl (cVq rfl) (rNq m.nx.length) (rNq m.nx.length) rfl (by omega) (by omega) (by omega) (aA rfl (R_e (aB (W_r (aA rfl ?_)))))))
 refine bI rfl (aA rfl (R_e (aC fun Q2 n2 x2 y2 z2=>?_)))
 refine bH (fun mm T H=> ∃ (k:Nat) (N:List Int),mm=(rch m).length - k∧T 1=(mPq 1)∧T 2=(mPq 2)∧T 5=(aG (rch m))∧T 6=(V.ms 26 1 0 m.nx.length)∧T 27=(aG (rch m))∧T 28=(iV (((rch m).length:Nat):Int))∧T 29=(iV ((k:Nat):Int))∧H 1=(bMq m)∧H 2=bNq∧H 9=bZq∧H 26=(bk 1 3 1 (List.map cI N))∧H 50=bZq∧H 812=bZq∧H 813=bZq∧(k≤(rch m).length)∧(N.length=m.nx.length)∧(∀ j,j < k→nth N (nth (rch m) j).toNat=(j:Int))) ?_ ?_
 ·
  refine ⟨_,0,(List.replicate m.nx.length 0),rfl,rfl,rfl,rfl,rfl,rfl,rfl,(eTq (rVq (iV 0)) rfl),rfl,rfl,rfl,(eTq (@rfl Blk (bk 1 3 1 (List.map cI (List.replicate m.nx.length 0)))) (by rfl)),rfl,rfl,rfl,?_,?_,?_⟩
  · exact Nat.zero_le _
  · exact List.length_replicate ..
  · intro j hj; omega
 intro mm T H ⟨k,N,hmm,t1,t2,t5,t6,t27,t28,t29,h1,h2,h9,h26,h50,h812,h813,hk,hN,hP⟩ Q3 p13 p23 p33
 unfold aMI
 refine W_r (bJ t29 t28 (R_e ?_))
 refine aJ rfl (fun c4=>?_) fun c4=>?_
 ·
  have rk:=rc.rng k (by omega)
  refine aE (aC fun Q5 n5 x5 y5 z5=>(W_r (aA t29 (bE (i:=k) t27 t29 (by omega) rfl (aF rfl rfl (aA rfl (aA rfl ?_)))))))
  refine R_e (W_t (aA t6 (aA rfl (aA rfl (dR (i:=(nth (rch m) k)) (rVq (V.ms 26 1 0 m.nx.length)) (rVq (iV (nth (rch m) k))) h26 oB rfl (by omega) (by omega) (bC (vs:=[(iV ((k:Nat):Int))]) (B':=(bk 1 3 1 (List.map cI (N.set ((nth (rch m) k).toNat) ((k:Nat):Int))))) rfl rfl rfl h26 (eX (x:=((k:Nat):Int)) (i:=((nth (rch m) k).toNat)) (by omega) rfl rfl rfl rfl) (R_e ?_)))))))
  refine n5 _ _ (.done (W_t (aU t29 (rNq 1) (by omega) (aA rfl (R_e ?_)))))
  refine p13 _ _ _ ?_ ⟨(k+1),(N.set (nth (rch m) k).toNat ((k:Nat):Int)),rfl,t1,t2,t5,t6,t27,t28,(eTq (rNq (k+1)) (by rfl)),h1,h2,h9,(eTq (@rfl Blk (bk 1 3 1 (List.map cI (N.set ((nth (rch m) k).toNat) ((k:Nat):Int))))) (by rfl)),h50,h812,h813,?_,?_,?_⟩
  · omega
  · omega
  · rw [List.length_set]; exact hN
  · exact aHu rc (by omega) hN hP
 have hnum:=aIZ rc (fun j hj=>hP j (by omega))
 refine aN (p33 _ _ _ (x2 _ _ (.done (W_r (aZ t1 h1 (aS rfl h1 rfl rfl (eL rfl rfl ?_)))))))
 refine cQ (i:=9) (n:=0) (m:=4) rfl (cVq h9) rfl (bC (vs:=[(iV m.i),(iV 0),V.nilsl,V.nilsl]) (B':=(bk 1 24 4 [[(iV m.i),(iV 0),V.nilsl,V.nilsl]])) rfl rfl rfl rfl (sB oB rfl rfl rfl rfl rfl) (R_e (aB ?_)))
 refine fQ (fun T H=>T 1=(mPq 1)∧T 2=(mPq 2)∧T 6=(V.ms 26 1 0 m.nx.length)∧T 9=(mPq 9)∧T 42=(aG (rch m))∧T 43=(iV (((rch m).length:Nat):Int))∧T 44=(iV 0)∧H 1=(bMq m)∧H 2=bNq∧H 9=(bk 1 24 4 [[(iV m.i),(iV 0),V.nilsl,V.nilsl]])∧H 26=(bk 1 3 1 (List.map cI N))∧H 50=bZq∧H 812=bZq∧H 813=bZq∧True) ?_ ?_
 ·
  refine aA t5 (bI rfl (aA rfl ?_))
  exact eE ⟨t1,t2,t6,rfl,rfl,rfl,rfl,h1,h2,rfl,h26,h50,h812,h813,trivial⟩
 intro T H ⟨t1,t2,t6,t9,t42,t43,t44,h1,h2,h9,h26,h50,h812,h813,_⟩
 refine .lazyCell 812 25 1 9 0 2 [(iV m.i),(iV 0),V.nilsl,V.nilsl] (by decide) (by rw [h9]; rfl) (by rw [h9]; rfl) rfl (bF (R:=fun T H=>T 1=(mPq 1)∧T 2=(mPq 2)∧T 6=(V.ms 26 1 0 m.nx.length)∧T 9=(mPq 9)∧T 42=(aG (rch m))∧T 43=(iV (((rch m).length:Nat):Int))∧T 44=(iV 0)∧H 1=(bMq m)∧H 2=bNq∧H 9=(bk 1 24 4 [[(iV m.i),(iV 0),(V.ms 812 1 0 0),V.nilsl]])∧H 26=(bk 1 3 1 (List.map cI N))∧H 50=bZq∧H 812=(bz 1 25 1 [])∧H 813=bZq∧True) ⟨t1,t2,t6,t9,t42,t43,t44,(uTq (uTq h1)),(uTq (uTq h2)),(by rw [aH,h9,(cVq h812)]; rfl),(uTq (uTq h26)),(uTq (uTq h50)),(by rw [aQ _ _ (by decide),aH,(cVq h812)]),(uTq (uTq h813)),trivial⟩ ?_)
 intro T H ⟨t1,t2,t6,t9,t42,t43,t44,h1,h2,h9,h26,h50,h812,h813,_⟩
 refine .lazyCell 813 25 1 9 0 3 [(iV m.i),(iV 0),(V.ms 812 1 0 0),V.nilsl] (by decide) (by rw [h9]; rfl) (by rw [h9]; rfl) rfl (.done ?_)
 refine bF (R:=fun T H=>T 1=(mPq 1)∧T 2=(mPq 2)∧T 6=(V.ms 26 1 0 m.nx.length)∧T 9=(mPq 9)∧T 42=(aG (rch m))∧T 43=(iV (((rch m).length:Nat):Int))∧T 44=(iV 0)∧H 1=(bMq m)∧H 2=bNq∧H 9=(bk 1 24 4 [[(iV m.i),(iV 0),(V.ms 812 1 0 0),(V.ms 813 1 0 0)]])∧H 26=(bk 1 3 1 (List.map cI N))∧H 50=bZq∧H 812=(bz 1 25 1 [])∧H 813=(bz 1 25 1 [])∧True) ⟨t1,t2,t6,t9,t42,t43,t44,(uTq (uTq h1)),(uTq (uTq h2)),(by rw [aH,h9,(cVq h813)]; rfl),(uTq (uTq h26)),(uTq (uTq h50)),(uTq (uTq h812)),(by rw [aQ _ _ (by decide),aH,(cVq h813)]),trivial⟩ ?_
 intro T H ⟨t1,t2,t6,t9,t42,t43,t44,h1,h2,h9,h26,h50,h812,h813,_⟩
 refine aC fun Q6 n6 x6 y6 z6=>?_
 refine bH (fun mm T H=> ∃ (k:Nat) (v:Nat) (w:Nat) (v50:Nat),mm=(rch m).length - k∧T 1=(mPq 1)∧T 2=(mPq 2)∧T 6=(V.ms 26 1 0 m.nx.length)∧T 9=(mPq 9)∧T 42=(aG (rch m))∧T 43=(iV (((rch m).length:Nat):Int))∧T 44=(iV ((k:Nat):Int))∧H 1=(bMq m)∧H 2=bNq∧H 9=(bk 1 24 4 [[(iV m.i),(iV 0),(V.ms 812 v 0 k),(V.ms 813 w 0 k)]])∧H 26=(bk 1 3 1 (List.map cI N))∧((H 50).ver=v50∧(H 50).live=false)∧H 812=(bz v 25 1 (List.map cL (tbl (tNx m) k)))∧H 813=(bz w 25 1 (List.map cL (tbl (tOt m) k)))∧(k≤(rch m).length)) ?_ ?_
 ·
  refine ⟨_,0,1,1,0,rfl,t1,t2,t6,t9,t42,t43,(eTq t44 rfl),h1,h2,h9,h26,⟨(cVq h50),congrArg Blk.live h50⟩,(eTq h812 (by rfl)),(eTq h813 (by rfl)),?_⟩
  · exact Nat.zero_le _
 intro mm T H ⟨k,v,w,v50,hmm,t1,t2,t6,t9,t42,t43,t44,h1,h2,h9,h26,h50,h812,h813,hk⟩ Q7 p17 p27 p37
 unfold aMB
 refine W_r (bJ t44 t43 (R_e ?_))
 refine aJ rfl (fun c8=>?_) fun c8=>?_
 ·
  have rk:=rc.rng k (by omega)
  have rr:=mo.2.2.2.2.2.2.2 (nth (rch m) k).toNat (by omega)
  have eo:tOt m k=nth m.ot (nth (rch m) k).toNat:=aLD hm (by omega)
  refine aE (aC fun Q9 n9 x9 y9 z9=>(W_r (bE (i:=k) t42 t44 (by omega) rfl (aF rfl rfl (aA rfl (R_e (W_r ?_)))))))
  refine aZ t1 h1 (aS rfl h1 rfl rfl (lA (i:=50) (n:=v50) (m:=m.i.toNat) (q:=m.i.toNat) (f:=cI) (x:=0) rfl h50.1 (eTq (rVq (iV m.i)) (congrArg (V.int .i64) (by omega))) (eTq (rVq (iV m.i)) (congrArg (V.int .i64) (by omega))) rfl (by omega) (by omega) (by omega) (aA rfl (R_e (aB (W_r (aZ t1 h1 ?_)))))))
  refine aS rfl h1 rfl rfl (aA rfl (cP (i:=(nth (rch m) k)) (rVq (aD m.nx)) (rVq (iV (nth (rch m) k))) (by omega) (by omega) rfl (aF rfl rfl (bI rfl (aA rfl (R_e (aC fun Q10 n10 x10 y10 z10=>?_)))))))
  refine bH (fun mm T H=> ∃ (j:Nat) (u:Nat),mm=m.i.toNat - j∧T 1=(mPq 1)∧T 2=(mPq 2)∧T 6=(V.ms 26 1 0 m.nx.length)∧T 9=(mPq 9)∧T 11=(iV (nth (rch m) k))∧T 12=(V.ms 50 u 0 m.i.toNat)∧T 42=(aG (rch m))∧T 43=(iV (((rch m).length:Nat):Int))∧T 44=(iV ((k:Nat):Int))∧T 55=(aG (nth m.nx (nth (rch m) k).toNat))∧T 56=(iV (((nth m.nx (nth (rch m) k).toNat).length:Nat):Int))∧T 57=(iV ((j:Nat):Int))∧H 1=(bMq m)∧H 2=bNq∧H 9=(bk 1 24 4 [[(iV m.i),(iV 0),(V.ms 812 v 0 k),(V.ms 813 w 0 k)]])∧H 26=(bk 1 3 1 (List.map cI N))∧H 50=(bk u 3 1 (List.map cI (dA (dJ m k) 0 m.i.toNat j)))∧H 812=(bz v 25 1 (List.map cL (tbl (tNx m) k)))∧H 813=(bz w 25 1 (List.map cL (tbl (tOt m) k)))∧(j≤m.i.toNat)) ?_ ?_
  ·
   refine ⟨_,0,(v50+1),rfl,t1,t2,t6,t9,rfl,(eTq (rVq (V.ms 50 (v50+1) 0 m.i.toNat)) (by rfl)),t42,t43,t44,(eTq (rVq (aG (nth m.nx (nth (rch m) k).toNat))) (by rfl)),(eTq (rNq ((nth m.nx (nth (rch m) k).toNat).length)) (by rfl)),(eTq (rVq (iV 0)) rfl),h1,h2,h9,h26,(eTq (@rfl Blk (bk (v50+1) 3 1 (List.map cI (List.replicate m.i.toNat 0)))) (by (rw [← wU,List.map_replicate]; done))),h812,h813,?_⟩
   · exact Nat.zero_le _
  intro mm T H ⟨j,u,hmm,t1,t2,t6,t9,t11,t12,t42,t43,t44,t55,t56,t57,h1,h2,h9,h26,h50,h812,h813,hj⟩ Q11 p111 p211 p311
  unfold aLU
  refine W_r (bJ t57 t56 (R_e ?_))
  refine aJ rfl (fun c12=>?_) fun c12=>?_
  ·
   have rj:=rr.2.2 j (by omega)
   have rin:=rc.clo k (by omega) _ (aY (show j < (nth m.nx (nth (rch m) k).toNat).length by omega))
   have rn:=hnum _ rin
   refine aE (aC fun Q13 n13 x13 y13 z13=>(W_r (aA t57 (bE (i:=j) t55 t57 (by omega) rfl (aF rfl rfl (aA rfl (aA rfl ?_)))))))
   refine R_e (W_t (aA t12 (aA rfl (aA t6 (aA rfl (dR (i:=(nth (nth m.nx (nth (rch m) k).toNat) j)) (rVq (V.ms 26 1 0 m.nx.length)) (rVq (iV (nth (nth m.nx (nth (rch m) k).toNat) j))) h26 oB rfl (by omega) (by omega) (bL (v:=(iV (nth N ((nth (nth m.nx (nth (rch m) k).toNat) j).toNat)))) rfl h26 (cJ (by omega) (by rfl)) ?_)))))))
   refine bR (i:=j) (rVq (V.ms 50 u 0 m.i.toNat)) (rNq j) h50 oB rfl (by omega) (bC (vs:=[(iV (nth N ((nth (nth m.nx (nth (rch m) k).toNat) j).toNat)))]) (B':=(bk u 3 1 (List.map cI ((dA (dJ m k) 0 m.i.toNat j).set j (nth N ((nth (nth m.nx (nth (rch m) k).toNat) j).toNat)))))) rfl rfl rfl h50 (eX (x:=(nth N ((nth (nth m.nx (nth (rch m) k).toNat) j).toNat))) (i:=j) (by (rw [fT]; omega)) rfl rfl rfl rfl) (R_e (n13 _ _ (.done (W_t (aU t57 (rNq 1) (by omega) (aA rfl ?_)))))))
   refine R_e ?_
   refine p111 _ _ _ ?_ ⟨(j+1),u,rfl,t1,t2,t6,t9,t11,t12,t42,t43,t44,t55,t56,(eTq (rNq (j+1)) (by rfl)),h1,h2,h9,h26,(eTq (@rfl Blk (bk u 3 1 (List.map cI ((dA (dJ m k) 0 m.i.toNat j).set j (nth N ((nth (nth m.nx (nth (rch m) k).toNat) j).toNat)))))) (by (rw [rn,← nS (f:=dJ m k) (z:=0) (n:=m.i.toNat) (j:=j) (by omega)]; rfl))),h812,h813,?_⟩
   · omega
   · omega
  have ej:dA (dJ m k) 0 m.i.toNat j=tNx m k:=kM (by omega)
  refine aN (p311 _ _ _ (x10 _ _ (bF (R:=fun T H=>T 1=(mPq 1)∧T 2=(mPq 2)∧T 6=(V.ms 26 1 0 m.nx.length)∧T 9=(mPq 9)∧T 11=(iV (nth (rch m) k))∧T 12=(V.ms 50 u 0 m.i.toNat)∧T 42=(aG (rch m))∧T 43=(iV (((rch m).length:Nat):Int))∧T 44=(iV ((k:Nat):Int))∧T 55=(aG (nth m.nx (nth (rch m) k).toNat))∧T 56=(iV (((nth m.nx (nth (rch m) k).toNat).length:Nat):Int))∧T 57=(iV ((j:Nat):Int))∧T 58=(V.bool (decide (((j:Nat):Int) < (((nth m.nx (nth (rch m) k).toNat).length:Nat):Int))))∧H 1=(bMq m)∧H 2=bNq∧H 9=(bk 1 24 4 [[(iV m.i),(iV 0),(V.ms 812 v 0 k),(V.ms 813 w 0 k)]])∧H 26=(bk 1 3 1 (List.map cI N))∧H 50=(bk u 3 1 (List.map cI (dA (dJ m k) 0 m.i.toNat j)))∧H 812=(bz v 25 1 (List.map cL (tbl (tNx m) k)))∧H 813=(bz w 25 1 (List.map cL (tbl (tOt m) k)))∧True) ⟨t1,t2,t6,t9,t11,t12,t42,t43,t44,t55,t56,t57,(rVq (V.bool (decide (((j:Nat):Int) < (((nth m.nx (nth (rch m) k).toNat).length:Nat):Int))))),h1,h2,h9,h26,h50,h812,h813,trivial⟩ ?_)))
  intro T H ⟨t1,t2,t6,t9,t11,t12,t42,t43,t44,t55,t56,t57,t58,h1,h2,h9,h26,h50,h812,h813,_⟩
  refine .freeze 50 (.done ?_)
  refine bF (R:=fun T H=>T 1=(mPq 1)∧T 2=(mPq 2)∧T 6=(V.ms 26 1 0 m.nx.length)∧T 9=(mPq 9)∧T 11=(iV (nth (rch m) k))∧T 12=(aG (dA (dJ m k) 0 m.i.toNat j))∧T 42=(aG (rch m))∧T 43=(iV (((rch m).length:Nat):Int))∧T 44=(iV ((k:Nat):Int))∧T 55=(aG (nth m.nx (nth (rch m) k).toNat))∧T 56=(iV (((nth m.nx (nth (rch m) k).toNat).length:Nat):Int))∧T 57=(iV ((j:Nat):Int))∧T 58=(V.bool (decide (((j:Nat):Int) < (((nth m.nx (nth (rch m) k).toNat).length:Nat):Int))))∧H 1=(bMq m)∧H 2=bNq∧H 9=(bk 1 24 4 [[(iV m.i),(iV 0),(V.ms 812 v 0 k),(V.ms 813 w 0 k)]])∧H 26=(bk 1 3 1 (List.map cI N))∧((H 50).ver=u∧(H 50).live=false)∧H 812=(bz v 25 1 (List.map cL (tbl (tNx m) k)))∧H 813=(bz w 25 1 (List.map cL (tbl (tOt m) k)))∧True) ⟨(aL t1 rfl),(aL t2 rfl),(aL t6 (bV (by decide))),(aL t9 rfl),(aL t11 rfl),(aL t12 (fR h50 (by simp) (l:=(dA (dJ m k) 0 m.i.toNat j)) rfl (by exact (aP _ _).symm))),(aL t42 rfl),(aL t43 rfl),(aL t44 rfl),(aL t55 rfl),(aL t56 rfl),(aL t57 rfl),(aL t58 rfl),(aK h1 (by decide)),(aK h2 (by decide)),(aK h9 (by decide)),(aK h26 (by decide)),(bG (cVq h50)),(aK h812 (by decide)),(aK h813 (by decide)),trivial⟩ ?_
  intro T H ⟨t1,t2,t6,t9,t11,t12,t42,t43,t44,t55,t56,t57,t58,h1,h2,h9,h26,h50,h812,h813,_⟩
  refine W_r (aZ t9 h9 (aS rfl h9 rfl rfl (aA t12 (bM rfl rfl (bK (l:=(tbl (tNx m) k)) (f:=cL) (x:=(dA (dJ m k) 0 m.i.toNat j)) (rVq (V.ms 812 v 0 k)) h812 (by exact (aP _ _).symm) (rVq (V.sl [[(aG (dA (dJ m k) 0 m.i.toNat j))]])) rfl rfl (by omega) (by omega) (aZ t9 h9 (bC (vs:=[(V.ms 812 (v+1) 0 (k+1))]) (B':=(bk 1 24 4 [[(iV m.i),(iV 0),(V.ms 812 (v+1) 0 (k+1)),(V.ms 813 w 0 k)]])) rfl rfl rfl h9 (sB oB rfl rfl rfl rfl rfl) ?_)))))))
  refine R_e (W_t (aZ t9 rfl (aS rfl rfl rfl rfl (aZ t1 h1 (aS rfl h1 rfl rfl (aA t11 (cP (i:=(nth (rch m) k)) (rVq (aD m.ot)) (rVq (iV (nth (rch m) k))) (by omega) (by omega) rfl ?_)))))))
  refine aF rfl rfl (aV (lQ (nth m.ot (nth (rch m) k).toNat) (by omega)) rfl (bM rfl rfl (bK (l:=(tbl (tOt m) k)) (f:=cL) (x:=(nth m.ot (nth (rch m) k).toNat)) (rVq (V.ms 813 w 0 k)) h813 (by exact (aP _ _).symm) (rVq (V.sl [[(aG (nth m.ot (nth (rch m) k).toNat))]])) rfl rfl (by omega) (by omega) (aZ t9 rfl (bC (vs:=[(V.ms 813 (w+1) 0 (k+1))]) (B':=(bk 1 24 4 [[(iV m.i),(iV 0),(V.ms 812 (v+1) 0 (k+1)),(V.ms 813 (w+1) 0 (k+1))]])) rfl rfl rfl rfl (sB oB rfl rfl rfl rfl rfl) (R_e (n9 _ _ ?_)))))))
  refine .done (W_t (aU t44 (rNq 1) (by omega) (aA rfl (R_e ?_))))
  refine p17 _ _ _ ?_ ⟨(k+1),(v+1),(w+1),u,rfl,t1,t2,t6,t9,t42,t43,(eTq (rNq (k+1)) (by rfl)),h1,h2,(eTq (@rfl Blk (bk 1 24 4 [[(iV m.i),(iV 0),(V.ms 812 (v+1) 0 (k+1)),(V.ms 813 (w+1) 0 (k+1))]])) (by rfl)),h26,h50,(eTq (@rfl Blk (bz (v+1) 25 1 (List.map cL (tbl (tNx m) k++[dA (dJ m k) 0 m.i.toNat j])))) (by (rw [cE,ej]; first|done|rfl))),(eTq (@rfl Blk (bz (w+1) 25 1 (List.map cL (tbl (tOt m) k++[(nth m.ot (nth (rch m) k).toNat)])))) (by (rw [cE,eo]; first|done|rfl))),?_⟩
  · omega
  · omega
 refine aN (p37 _ _ _ (x6 _ _ (.done (W_r (aS t9 h9 rfl rfl (bC (vs:=[(iV m.i),(iV 0),(V.ms 812 v 0 k),(V.ms 813 w 0 k)]) (B':=(bk 1 24 4 [[(iV m.i),(iV 0),(V.ms 812 v 0 k),(V.ms 813 w 0 k)]])) t2 rfl rfl h2 (sB oB rfl rfl rfl rfl rfl) (aA rfl ?_)))))))
 refine R_e (bN ?_)
 refine jS (gT (u:=(V.agg [(iV m.i),(iV 0),(V.ms 812 v 0 k),(V.ms 813 w 0 k)])) t2 (@rfl Blk (bk 1 24 4 [[(iV m.i),(iV 0),(V.ms 812 v 0 k),(V.ms 813 w 0 k)]])) (lB oB rfl rfl)) (jM (rVq (iV 0))) (iM (bZ (aW ?_) (bZ (aW ?_) (bZ (gD h812 (by simp) (l:=(tbl (tNx m) k)) rfl (by exact (aP _ _).symm) (fun _=>by simp) ?_) (bZ (gD h813 (by simp) (l:=(tbl (tOt m) k)) rfl (by exact (aP _ _).symm) (fun _=>by simp) ?_) rfl))))) (aW ?_)
 · rw [trR,if_pos hm,eJ hm]; try first|rfl|(rw [show k=(rch m).length by omega]; done)|(rw [show k=(rch m).length by omega]; rfl)
 · rw [trR,if_pos hm,eJ hm]; try first|rfl|(rw [show k=(rch m).length by omega]; done)|(rw [show k=(rch m).length by omega]; rfl)
 · rw [trR,if_pos hm,eJ hm]; try first|rfl|(rw [show k=(rch m).length by omega]; done)|(rw [show k=(rch m).length by omega]; rfl)
 · rw [trR,if_pos hm,eJ hm]; try first|rfl|(rw [show k=(rch m).length by omega]; done)|(rw [show k=(rch m).length by omega]; rfl)
 · exact hm.symm
end Go.Proofs.YtmnnhjhkaepbaaaGreat
namespace Go.Proofs.YtmnnhjhkaepbaaaGreat
open Go Go.Proofs
attribute [local irreducible] oP xN
theorem aFq (m:M) (c:List Int) (hm:bD m=0) (hc:c.length=m.nx.length):bA Tryz.prog 169 [(V.agg [(iV m.i),(iV m.s),(aD m.nx),(aD m.ot)]),(aG c)] (V.tup [(aG (tbl (nmf (sgF m c)) m.nx.length)),(iV (((cnf (sgF m c) m.nx.length):Nat):Int))]):=by
 refine pW Tryz.func169 aEq fun hB=>?_
 unfold aLc
 dsimp only
 have mo:=bT hm
 refine W_r (dN (i:=2) (n:=0) (m:=4) (cs:=[(iV m.i),(iV m.s),(aD m.nx),(aD m.ot)]) rfl (cVq rfl) rfl rfl rfl (aA rfl (aA rfl (R_e (W_r (tP (i:=13) (n:=0) (rows:=jX (fE (sgF m c) 0)) rfl (cVq rfl) rfl (aA rfl ?_)))))))
 refine R_e (W_r (aA rfl (bI rfl (lA (i:=16) (n:=0) (m:=c.length) (q:=c.length) (f:=cI) (x:=0) rfl (cVq rfl) (rNq c.length) (rNq c.length) rfl (by omega) (by omega) (by omega) (aA rfl (R_e (aB ?_)))))))
 refine W_r (aA rfl (bI rfl (aA rfl (R_e (aC fun Q1 n1 x1 y1 z1=>?_)))))
 refine bH (fun mm T H=> ∃ (k:Nat) (v9:Nat),mm=c.length - k∧T 1=(aG c)∧T 2=(mPq 2)∧T 6=(V.mm 13 1)∧T 7=(V.ms 16 1 0 c.length)∧T 18=(iV ((c.length:Nat):Int))∧T 19=(iV ((k:Nat):Int))∧H 2=(bMq m)∧((H 9).ver=v9∧(H 9).live=false)∧H 13=(bz 1 cA 2 (jX (fE (sgF m c) k)))∧H 16=(bk 1 3 1 (List.map cI (dA (nmf (sgF m c)) 0 c.length k)))∧(k≤c.length)) ?_ ?_
 ·
  refine ⟨_,0,0,rfl,rfl,rfl,rfl,rfl,rfl,(eTq (rVq (iV 0)) rfl),rfl,⟨(cVq rfl),congrArg Blk.live (@rfl Blk bZq)⟩,rfl,(eTq (@rfl Blk (bk 1 3 1 (List.map cI (List.replicate c.length 0)))) (by (rw [← wU,List.map_replicate]; done))),?_⟩
  · exact Nat.zero_le _
 intro mm T H ⟨k,v9,hmm,t1,t2,t6,t7,t18,t19,h2,h9,h13,h16,hk⟩ Q2 p12 p22 p32
 unfold aH9
 refine W_r (bJ t19 t18 (R_e ?_))
 refine aJ rfl (fun c3=>?_) fun c3=>?_
 ·
  have rr:=mo.2.2.2.2.2.2.2 k (by omega)
  refine aE (aC fun Q4 n4 x4 y4 z4=>(W_r (aA t19 (aA rfl (R_e (W_r (aGW (i:=9) (n:=v9) (m:=128) (rows:=(List.map kU ([sgP m c k 0]))) rfl h9.1 rfl (by rw [aTM]; rfl) ?_)))))))
  refine R_e (aB (W_r (aZ t2 h2 (aS rfl h2 rfl rfl (aA rfl (R_e (aC fun Q5 n5 x5 y5 z5=>?_)))))))
  refine bH (fun mm T H=> ∃ (j:Nat) (u:Nat),mm=m.i.toNat - j∧T 1=(aG c)∧T 2=(mPq 2)∧T 6=(V.mm 13 1)∧T 7=(V.ms 16 1 0 c.length)∧T 8=(iV ((k:Nat):Int))∧T 9=(V.mp 9 u 0 0)∧T 18=(iV ((c.length:Nat):Int))∧T 19=(iV ((k:Nat):Int))∧T 23=(iV m.i)∧T 24=(iV ((j:Nat):Int))∧H 2=(bMq m)∧H 9=(bk u 289 128 (List.map kU ([sgP m c k j])))∧H 13=(bz 1 cA 2 (jX (fE (sgF m c) k)))∧H 16=(bk 1 3 1 (List.map cI (dA (nmf (sgF m c)) 0 c.length k)))∧(j≤m.i.toNat)) ?_ ?_
  ·
   refine ⟨_,0,(v9+1),rfl,t1,t2,t6,t7,rfl,(eTq (rVq (V.mp 9 (v9+1) 0 0)) (by rfl)),t18,t19,rfl,(eTq (rVq (iV 0)) rfl),h2,(eTq (@rfl Blk (bk (v9+1) 289 128 (List.map kU ([sgP m c k 0])))) (by rfl)),h13,h16,?_⟩
   · exact Nat.zero_le _
  intro mm T H ⟨j,u,hmm,t1,t2,t6,t7,t8,t9,t18,t19,t23,t24,h2,h9,h13,h16,hj⟩ Q6 p16 p26 p36
  unfold aH0
  refine W_r (bJ t24 t23 (R_e ?_))
  refine aJ rfl (fun c7=>?_) fun c7=>?_
  ·
   have rj:=rr.2.2 j (by omega)
   refine aE (aC fun Q8 n8 x8 y8 z8=>(W_r (aA t24 (aA rfl (R_e (W_r (aA rfl ?_)))))))
   refine aZ t2 h2 (aS rfl h2 rfl rfl (aA t8 (bE (i:=k) (rVq (aD m.ot)) (rNq k) (by omega) rfl (aF rfl rfl (aA rfl (bE (i:=j) (rVq (aG (nth m.ot k))) (rNq j) (by omega) rfl (aF rfl rfl ?_)))))))
   refine yX (i:=j) (o':=j) t9 (rNq j) h9 oB (by omega) (by omega) (bC (vs:=[(iV (nth (nth m.ot k) j))]) (B':=(bk u 289 128 (List.map kU ([(sgP m c k j).set j (nth (nth m.ot k) j)])))) rfl rfl rfl h9 (stR (by rw [tX]; omega)) (R_e (W_t (aA rfl (aL6 rfl rfl (by omega) (by omega) (aA t1 (aZ t2 h2 ?_)))))))
   refine aS rfl h2 rfl rfl (aA t8 (bE (i:=k) (rVq (aD m.nx)) (rNq k) (by omega) rfl (aF rfl rfl (aA rfl (bE (i:=j) (rVq (aG (nth m.nx k))) (rNq j) (by omega) rfl (aF rfl rfl (cP (i:=(nth (nth m.nx k) j)) (rVq (aG c)) (rVq (iV (nth (nth m.nx k) j))) (by omega) (by omega) rfl ?_)))))))
   refine aF rfl rfl (yX (i:=(((64:Int)+((j:Nat):Int)).toNat)) (o':=(((64:Int)+((j:Nat):Int)).toNat)) t9 (eTq (rVq (iV ((64:Int)+((j:Nat):Int)))) (aGj (by omega))) (@rfl Blk (bk u 289 128 (List.map kU ([(sgP m c k j).set j (nth (nth m.ot k) j)])))) oB (by omega) (by omega) (bC (vs:=[(iV (nth c (nth (nth m.nx k) j).toNat))]) (B':=(bk u 289 128 (List.map kU ([sgP m c k (j+1)])))) rfl rfl rfl (@rfl Blk (bk u 289 128 (List.map kU ([(sgP m c k j).set j (nth (nth m.ot k) j)])))) (aVv (m:=m) (c:=c) (k:=k) (j:=j) (by omega)) (R_e (n8 _ _ (.done (W_t (aU t24 (rNq 1) (by omega) ?_)))))))
   refine aA rfl (R_e ?_)
   refine p16 _ _ _ ?_ ⟨(j+1),u,rfl,t1,t2,t6,t7,t8,t9,t18,t19,t23,(eTq (rNq (j+1)) (by rfl)),h2,(eTq (@rfl Blk (bk u 289 128 (List.map kU ([sgP m c k (j+1)])))) (by rfl)),h13,h16,?_⟩
   · omega
   · omega
  have ej:sgP m c k j=sgF m c k:=by unfold sgF; rw [show m.i.toNat=j by omega]
  refine aN (p36 _ _ _ (x5 _ _ (.done (W_r (aA t6 (bL (v:=(oO (sgF m c k))) t9 h9 (by rw [ej]; exact ldR (tQ k)) (aA8 (z:=(iV 0)) (u:=(iV (if lsf (sgF m c) k=k then 0 else nmf (sgF m c) k))) (f:=decide (lsf (sgF m c) k≠k)) (rVq (V.mm 13 1)) (rVq (oO (sgF m c k))) h13 (aST tQ) ?_)))))))
  refine aA rfl (cK rfl rfl (cK rfl rfl (aA rfl (aA rfl (R_e (aB (W_r ?_)))))))
  refine aA rfl (sX rfl (R_e ?_))
  refine aJ rfl (fun c9=>?_) fun c9=>?_
  ·
   have d1:lsf (sgF m c) k=k:=by have z:=c9; simpa using z
   have d2:=rT d1
   refine aB (W_r (aA t6 (aAq (n:=(cnf (sgF m c) k)) (rVq (V.mm 13 1)) h13 aUg (aA rfl (R_e (W_r (aA t6 ?_)))))))
   refine bL (v:=(oO (sgF m c k))) t9 h9 (by rw [ej]; exact ldR (tQ k)) (aA rfl (wO (B':=(bz 1 cA 2 (jX (fE (sgF m c) (k+1))))) (rVq (V.mm 13 1)) (rVq (oO (sgF m c k))) (rNq (cnf (sgF m c) k)) h13 (aVH tQ d1) (R_e (W_t (aA t7 (aA t8 (aA rfl ?_)))))))
   refine bR (i:=k) (rVq (V.ms 16 1 0 c.length)) (rNq k) h16 oB rfl (by omega) (bC (vs:=[(iV ((cnf (sgF m c) k:Nat):Int))]) (B':=(bk 1 3 1 (List.map cI ((dA (nmf (sgF m c)) 0 c.length k).set k ((cnf (sgF m c) k:Nat):Int))))) rfl rfl rfl h16 (eX (x:=((cnf (sgF m c) k:Nat):Int)) (i:=k) (by (rw [fT]; omega)) rfl rfl rfl rfl) (R_e (n4 _ _ (bF (R:=fun T H=>T 1=(aG c)∧T 2=(mPq 2)∧T 6=(V.mm 13 1)∧T 7=(V.ms 16 1 0 c.length)∧T 18=(iV ((c.length:Nat):Int))∧T 19=(iV ((k:Nat):Int))∧H 2=(bMq m)∧H 9=(bk u 289 128 (List.map kU ([sgP m c k j])))∧H 13=(bz 1 cA 2 (jX (fE (sgF m c) (k+1))))∧H 16=(bk 1 3 1 (List.map cI ((dA (nmf (sgF m c)) 0 c.length k).set k ((cnf (sgF m c) k:Nat):Int))))∧True) ⟨t1,t2,t6,t7,t18,t19,h2,h9,rfl,rfl,trivial⟩ ?_))))
   intro T H ⟨t1,t2,t6,t7,t18,t19,h2,h9,h13,h16,_⟩
   refine .freeze 9 (.done ?_)
   refine bF (R:=fun T H=>T 1=(aG c)∧T 2=(mPq 2)∧T 6=(V.mm 13 1)∧T 7=(V.ms 16 1 0 c.length)∧T 18=(iV ((c.length:Nat):Int))∧T 19=(iV ((k:Nat):Int))∧H 2=(bMq m)∧((H 9).ver=u∧(H 9).live=false)∧H 13=(bz 1 cA 2 (jX (fE (sgF m c) (k+1))))∧H 16=(bk 1 3 1 (List.map cI ((dA (nmf (sgF m c)) 0 c.length k).set k ((cnf (sgF m c) k:Nat):Int))))∧True) ⟨(aL t1 rfl),(aL t2 rfl),(aL t6 rfl),(aL t7 (bV (by decide))),(aL t18 rfl),(aL t19 rfl),(aK h2 (by decide)),(bG (cVq h9)),(aK h13 (by decide)),(aK h16 (by decide)),trivial⟩ ?_
   intro T H ⟨t1,t2,t6,t7,t18,t19,h2,h9,h13,h16,_⟩
   refine W_t (aU t19 (rNq 1) (by omega) (aA rfl (R_e ?_)))
   refine p12 _ _ _ ?_ ⟨(k+1),u,rfl,t1,t2,t6,t7,t18,(eTq (rNq (k+1)) (by rfl)),h2,h9,(eTq h13 (by rfl)),(eTq h16 (by (rw [← d2,← nS (f:=nmf (sgF m c)) (z:=0) (n:=c.length) (j:=k) (by omega)]; first|done|rfl))),?_⟩
   · omega
   · omega
  have d1: ¬lsf (sgF m c) k=k:=by have z:=c9; simpa using z
  refine aE (W_t (aA t7 (aA t8 (aA rfl (bR (i:=k) (rVq (V.ms 16 1 0 c.length)) (rNq k) h16 oB rfl (by omega) (bC (vs:=[(iV (if lsf (sgF m c) k=k then 0 else nmf (sgF m c) k))]) (B':=(bk 1 3 1 (List.map cI ((dA (nmf (sgF m c)) 0 c.length k).set k (if lsf (sgF m c) k=k then 0 else nmf (sgF m c) k))))) rfl rfl rfl h16 (eX (x:=(if lsf (sgF m c) k=k then 0 else nmf (sgF m c) k)) (i:=k) (by (rw [fT]; omega)) rfl rfl rfl rfl) (R_e ?_)))))))
  refine n4 _ _ (bF (R:=fun T H=>T 1=(aG c)∧T 2=(mPq 2)∧T 6=(V.mm 13 1)∧T 7=(V.ms 16 1 0 c.length)∧T 18=(iV ((c.length:Nat):Int))∧T 19=(iV ((k:Nat):Int))∧H 2=(bMq m)∧H 9=(bk u 289 128 (List.map kU ([sgP m c k j])))∧H 13=(bz 1 cA 2 (jX (fE (sgF m c) k)))∧H 16=(bk 1 3 1 (List.map cI ((dA (nmf (sgF m c)) 0 c.length k).set k (if lsf (sgF m c) k=k then 0 else nmf (sgF m c) k))))∧True) ⟨t1,t2,t6,t7,t18,t19,h2,h9,h13,rfl,trivial⟩ ?_)
  intro T H ⟨t1,t2,t6,t7,t18,t19,h2,h9,h13,h16,_⟩
  refine .freeze 9 (.done ?_)
  refine bF (R:=fun T H=>T 1=(aG c)∧T 2=(mPq 2)∧T 6=(V.mm 13 1)∧T 7=(V.ms 16 1 0 c.length)∧T 18=(iV ((c.length:Nat):Int))∧T 19=(iV ((k:Nat):Int))∧H 2=(bMq m)∧((H 9).ver=u∧(H 9).live=false)∧H 13=(bz 1 cA 2 (jX (fE (sgF m c) k)))∧H 16=(bk 1 3 1 (List.map cI ((dA (nmf (sgF m c)) 0 c.length k).set k (if lsf (sgF m c) k=k then 0 else nmf (sgF m c) k))))∧True) ⟨(aL t1 rfl),(aL t2 rfl),(aL t6 rfl),(aL t7 (bV (by decide))),(aL t18 rfl),(aL t19 rfl),(aK h2 (by decide)),(bG (cVq h9)),(aK h13 (by decide)),(aK h16 (by decide)),trivial⟩ ?_
  intro T H ⟨t1,t2,t6,t7,t18,t19,h2,h9,h13,h16,_⟩
  refine W_t (aU t19 (rNq 1) (by omega) (aA rfl (R_e ?_)))
  refine p12 _ _ _ ?_ ⟨(k+1),u,rfl,t1,t2,t6,t7,t18,(eTq (rNq (k+1)) (by rfl)),h2,h9,(eTq h13 (by (rw [aNq d1]; done))),(eTq h16 (by (rw [if_neg d1,← nS (f:=nmf (sgF m c)) (z:=0) (n:=c.length) (j:=k) (by omega)]; first|done|rfl))),?_⟩
  · omega
  · omega
 have ek:k=m.nx.length:=by omega
 refine aN (p32 _ _ _ (x1 _ _ (.done (W_r (aA t7 (aA t6 (aAq (n:=(cnf (sgF m c) m.nx.length)) (rVq (V.mm 13 1)) h13 (by rw [ek]; exact aUg) ?_)))))))
 refine aA rfl (aA rfl (R_e (bN ?_)))
 refine jN (rVq (V.ms 16 1 0 c.length)) (rNq (cnf (sgF m c) m.nx.length)) (gD h16 (by rfl) (l:=(dA (nmf (sgF m c)) 0 c.length k)) rfl (by (rw [fT])) (fun _=>by simp) ?_) (dE (by simp) rfl)
 · first|rfl|(rw [kM (by omega),hc]; done)|(rw [kM (by omega),hc]; rfl)
end Go.Proofs.YtmnnhjhkaepbaaaGreat
namespace Go.Proofs.YtmnnhjhkaepbaaaGreat
open Go Go.Proofs
attribute [local irreducible] oP
theorem aBJ (m:M) (hm:bD m=0):bA Tryz.prog 123 [(V.agg [(iV m.i),(iV m.s),(aD m.nx),(aD m.ot)]),(iV 128)] (V.tup [(aG (clK m (tN m))),(iV (((tN m):Nat):Int))]):=by
 refine pW Tryz.func123 aEJ fun hB=>?_
 unfold aI6
 dsimp only
 have mo:=bT hm
 obtain ⟨s1,s2,s3⟩:=aG0 hm
 have k0:=aS5 hm
 refine W_r (dN (i:=2) (n:=0) (m:=4) (cs:=[(iV m.i),(iV m.s),(aD m.nx),(aD m.ot)]) rfl (cVq rfl) rfl rfl rfl (aA rfl (aA rfl (R_e ?_))))
 refine fQ (fun T H=>T 1=(iV 128)∧T 2=(mPq 2)∧T 6=(V.ms 14 1 0 m.nx.length)∧T 7=(iV 1)∧H 2=(bMq m)∧H 14=(bk 1 3 1 (List.map cI (List.replicate m.nx.length 0)))∧True) ?_ ?_
 ·
  refine aZ rfl rfl (aS rfl rfl rfl rfl (bI rfl (lA (i:=14) (n:=0) (m:=m.nx.length) (q:=m.nx.length) (f:=cI) (x:=0) rfl (cVq rfl) (rNq m.nx.length) (rNq m.nx.length) rfl (by omega) (by omega) (by omega) (aA rfl (aA rfl ?_)))))
  exact eE ⟨rfl,rfl,rfl,rfl,rfl,rfl,trivial⟩
 intro T H ⟨t1,t2,t6,t7,h2,h14,_⟩
 refine .freeze 14 (.done ?_)
 refine bF (R:=fun T H=>T 1=(iV 128)∧T 2=(mPq 2)∧T 6=(aG (List.replicate m.nx.length 0))∧T 7=(iV 1)∧H 2=(bMq m)∧((H 14).ver=1∧(H 14).live=false)∧True) ⟨(aL t1 rfl),(aL t2 rfl),(aL t6 (fR h14 (by rfl) (l:=(List.replicate m.nx.length 0)) rfl (by simp))),(aL t7 rfl),(aK h2 (by decide)),(bG (cVq h14)),trivial⟩ ?_
 intro T H ⟨t1,t2,t6,t7,h2,h14,_⟩
 refine aB (W_r (aA t1 (aLQ (m:=128) (n:=0) (rNq 128) (rNq 0) (aZ t2 h2 (aS rfl h2 rfl rfl (bI rfl (aDS (m:=(max 128 0)) (n:=m.nx.length) rfl rfl ?_)))))))
 refine aA rfl (R_e (aC fun Q1 n1 x1 y1 z1=>?_))
 refine bH (fun mm T H=> ∃ (k:Nat),mm=m.nx.length - k∧T 1=(iV 128)∧T 2=(mPq 2)∧T 6=(aG (clK m k))∧T 7=(iV (((ctK m k):Nat):Int))∧T 20=(iV ((m.nx.length:Nat):Int))∧T 21=(iV ((k:Nat):Int))∧H 2=(bMq m)∧((H 14).ver=1∧(H 14).live=false)∧(k≤tN m)) ?_ ?_
 ·
  refine ⟨_,0,rfl,t1,t2,(eTq t6 (by exact congrArg aG aMw.symm)),(eTq t7 (by exact congrArg iV (by omega))),(eTq (rNq (min (max 128 0) m.nx.length)) (by exact congrArg iV (by omega))),(eTq (rVq (iV 0)) rfl),h2,h14,?_⟩
  · exact Nat.zero_le _
 intro mm T H ⟨k,hmm,t1,t2,t6,t7,t20,t21,h2,h14,hk⟩ Q2 p12 p22 p32
 unfold aGn
 refine W_r (bJ t21 t20 (R_e ?_))
 refine aJ rfl (fun c3=>?_) fun c3=>?_
 ·
  obtain ⟨e1,e2⟩:=aJo hm (by omega) k
  refine aE (aC fun Q4 n4 x4 y4 z4=>(W_r (aA t21 (aA rfl (R_e (W_r (aS t2 h2 rfl rfl ?_)))))))
  refine aA t6 (aV (aFq m (clK m k) hm (oX k)) rfl (aA rfl (cK rfl rfl (cK rfl rfl (aA rfl (aA rfl (R_e ?_)))))))
  refine aB (W_r (aA rfl (aA t7 (fC rfl rfl (R_e ?_)))))
  refine aJ rfl (fun c5=>?_) fun c5=>?_
  ·
   have d1:=c5
   have d2:k=tN m:=Nat.le_antisymm hk (Nat.le_of_not_lt fun z=>s3 k z (by omega))
   refine aB (W_r (aA t6 (aA rfl (aA rfl (aA rfl (R_e (aX ?_)))))))
   refine y4 _ _ (p22 _ _ (y1 _ _ ?_))
   refine jN (rVq (aG (clK m k))) (rNq k) (mJ ?_ (fun _=>by simp)) (aW ?_)
   · first|rfl|omega|(rw [d2]; done)
   · first|rfl|omega|(rw [d2]; done)
  have d1:=c5
  refine aE (W_t (aA rfl (aA rfl (aA rfl (aA rfl (R_e (n4 _ _ ?_)))))))
  refine .done (W_t (aU t21 (rNq 1) (by omega) (aA rfl (R_e ?_))))
  refine p12 _ _ _ ?_ ⟨(k+1),rfl,t1,t2,(eTq (rVq (aG (tbl (nmf (sgF m (clK m k))) m.nx.length))) (by exact congrArg aG e1)),(eTq (rNq (cnf (sgF m (clK m k)) m.nx.length)) (by exact congrArg iV (by omega))),t20,(eTq (rNq (k+1)) (by rfl)),h2,h14,?_⟩
  · omega
  · have z:k≠tN m:=fun e=>by subst e; omega
    omega
 refine aN (p32 _ _ _ (x1 _ _ (.done (W_r (aA t6 (aA t1 (aLQ (m:=128) (n:=0) (rNq 128) (rNq 0) ?_)))))))
 refine aZ t2 h2 (aS rfl h2 rfl rfl (bI rfl (aDS (m:=(max 128 0)) (n:=m.nx.length) rfl rfl (aA rfl (aA rfl (R_e (bN ?_)))))))
 refine jN (rVq (aG (clK m k))) (rNq (min (max 128 0) m.nx.length)) (mJ ?_ (fun _=>by simp)) (aW ?_)
 · first|rfl|omega|(rw [d2]; done)
 · first|rfl|omega|(rw [d2]; done)
end Go.Proofs.YtmnnhjhkaepbaaaGreat
namespace Go.Proofs.YtmnnhjhkaepbaaaGreat
open Go Go.Proofs
theorem aDi (m:M):bA Tryz.prog 78 [(V.agg [(iV m.i),(iV m.s),(aD m.nx),(aD m.ot)]),(iV 128)] (V.tup [(aG (clP m)),(iV (bD m))]):=by
 refine pW Tryz.func78 aGD fun hB=>?_
 unfold s78
 dsimp only
 refine W_r (dN (i:=2) (n:=0) (m:=4) (cs:=[(iV m.i),(iV m.s),(aD m.nx),(aD m.ot)]) rfl (cVq rfl) rfl rfl rfl (aA rfl (aA rfl (R_e (aB (W_r (aS rfl rfl rfl rfl ?_)))))))
 refine aV (iR m) rfl (aA rfl (R_e (aB (W_r (aA rfl (dD rfl rfl (R_e ?_)))))))
 refine aJ rfl (fun c1=>?_) fun c1=>?_
 ·
  have d0:=c1
  refine aB (W_r (aA rfl (aA rfl (aA rfl (R_e (aX ?_))))))
  refine jN (rVq V.nilsl) (rVq (iV (bD m))) (eB ?_) (dE (by simp) rfl)
  · rw [clP,if_neg d0]; try rfl
 have hm:bD m=0:=by omega
 refine aE (W_r (aS rfl rfl rfl rfl (aA rfl (aV (aBJ m (by omega)) rfl (aA rfl (cK rfl rfl (cK rfl rfl ?_)))))))
 refine aA rfl (aA rfl (R_e (W_r (aA rfl (aA rfl (aA rfl (R_e ?_)))))))
 refine bN ?_
 refine jN (rVq (aG (clK m (tN m)))) (rVq (iV 0)) (mJ ?_ (fun _=>by simp)) (aW ?_)
 · rw [clP,if_pos hm]
 · exact hm.symm
theorem yD (m:M):bA Tryz.prog 49 [(V.agg [(iV m.i),(iV m.s),(aD m.nx),(aD m.ot)])] (V.tup [(aG (clP m)),(iV (bD m))]):=by
 refine pW Tryz.func49 aIC fun hB=>?_
 unfold s49
 dsimp only
 refine W_r (dN (i:=1) (n:=0) (m:=4) (cs:=[(iV m.i),(iV m.s),(aD m.nx),(aD m.ot)]) rfl (cVq rfl) rfl rfl rfl (aA rfl (aA rfl (R_e (W_r (aS rfl rfl rfl rfl (aV (aDi m) rfl ?_)))))))
 refine cK rfl rfl (cK rfl rfl (aA rfl (aA rfl (R_e (bN ?_)))))
 refine jN (rVq (aG (clP m))) (rVq (iV (bD m))) (dE (by simp) rfl) (dE (by simp) rfl)
theorem aFD (m:M):bA Tryz.prog 25 [(V.agg [(iV m.i),(iV m.s),(aD m.nx),(aD m.ot)])] (V.tup [(V.agg [(iV ((mnR m).i)),(iV ((mnR m).s)),(aD ((mnR m).nx)),(aD ((mnR m).ot))]),(iV (bD m))]):=by
 refine pW Tryz.func25 aHY fun hB=>?_
 unfold s25
 dsimp only
 refine W_r (dN (i:=1) (n:=0) (m:=4) (cs:=[(iV m.i),(iV m.s),(aD m.nx),(aD m.ot)]) rfl (cVq rfl) rfl rfl rfl (cQ (i:=2) (n:=0) (m:=4) rfl (cVq rfl) rfl (aA rfl (R_e (W_r (aS rfl rfl rfl rfl (aV (aDK m) rfl ?_)))))))
 refine aA rfl (cK rfl rfl (cK rfl rfl (cQ (i:=4) (n:=0) (m:=4) rfl (cVq rfl) rfl (bC (vs:=[(iV ((trR m).i)),(iV ((trR m).s)),(aD ((trR m).nx)),(aD ((trR m).ot))]) (B':=(bk 1 24 4 [[(iV ((trR m).i)),(iV ((trR m).s)),(aD ((trR m).nx)),(aD ((trR m).ot))]])) rfl rfl rfl rfl (sB oB rfl rfl rfl rfl rfl) (aA rfl (R_e (aB ?_)))))))
 refine W_r (aA rfl (dD rfl rfl (R_e ?_)))
 refine aJ rfl (fun c1=>?_) fun c1=>?_
 ·
  have d0:=c1
  refine aB (W_r (eL rfl rfl (aA rfl (bC (vs:=[(iV 0),(iV 0),V.nilsl,V.nilsl]) (B':=bNq) rfl rfl rfl rfl (sB oB rfl rfl rfl rfl rfl) (aA rfl (R_e (aX ?_)))))))
  refine jS (gT (u:=(V.agg [(iV 0),(iV 0),V.nilsl,V.nilsl])) rfl (@rfl Blk bNq) (lB oB rfl rfl)) (jM (rVq (iV (bD m)))) (iM (bZ (aW ?_) (bZ (aW ?_) (bZ (eB ?_) (bZ (eB ?_) rfl))))) (dE (by simp) rfl)
  · rw [mnR,if_neg d0]; try rfl
  · rw [mnR,if_neg d0]; try rfl
  · rw [mnR,if_neg d0]; try rfl
  · rw [mnR,if_neg d0]; try rfl
 have hm:bD m=0:=by omega
 have mo:=bT hm
 have rc:=iZ hm
 have rl:=rc.len
 have me:=mo.2.2.2.2.2.2.1
 obtain ⟨p1,p2,p3,p4,p5,p6⟩:=aF7 hm
 refine aE (W_r (aS rfl rfl rfl rfl (aV (yD (trR m)) rfl (aA rfl (cK rfl rfl (cK rfl rfl (aA rfl ?_)))))))
 refine aA rfl (R_e (aB (W_r (aA rfl (dD rfl rfl (R_e ?_))))))
 refine aJ rfl (fun c2=>?_) fun c2=>?_
 · exfalso; omega
 refine aE (W_r (aZ rfl rfl (aS rfl rfl rfl rfl (eL rfl rfl (cQ (i:=7) (n:=0) (m:=4) rfl (cVq rfl) rfl (bC (vs:=[(iV ((trR m).i)),(iV 0),V.nilsl,V.nilsl]) (B':=(bk 1 24 4 [[(iV ((trR m).i)),(iV 0),V.nilsl,V.nilsl]])) rfl rfl rfl rfl (sB oB rfl rfl rfl rfl rfl) (R_e ?_)))))))
 refine aB ?_
 refine fQ (fun T H=>T 2=(mPq 2)∧T 4=(mPq 4)∧T 6=(aG (clP (trR m)))∧T 7=(mPq 7)∧T 34=(aG (clP (trR m)))∧T 35=(iV (((clP (trR m)).length:Nat):Int))∧T 36=(iV 0)∧H 1=(bMq m)∧H 2=bNq∧H 4=(bk 1 24 4 [[(iV ((trR m).i)),(iV ((trR m).s)),(aD ((trR m).nx)),(aD ((trR m).ot))]])∧H 7=(bk 1 24 4 [[(iV ((trR m).i)),(iV 0),V.nilsl,V.nilsl]])∧H 10=bZq∧H 72=bZq∧H 812=bZq∧H 813=bZq∧True) ?_ ?_
 ·
  refine aA rfl (bI rfl (aA rfl ?_))
  exact eE ⟨rfl,rfl,rfl,rfl,rfl,rfl,rfl,rfl,rfl,rfl,rfl,rfl,rfl,rfl,rfl,trivial⟩
 intro T H ⟨t2,t4,t6,t7,t34,t35,t36,h1,h2,h4,h7,h10,h72,h812,h813,_⟩
 refine .lazyCell 812 25 1 7 0 2 [(iV ((trR m).i)),(iV 0),V.nilsl,V.nilsl] (by decide) (by rw [h7]; rfl) (by rw [h7]; rfl) rfl (bF (R:=fun T H=>T 2=(mPq 2)∧T 4=(mPq 4)∧T 6=(aG (clP (trR m)))∧T 7=(mPq 7)∧T 34=(aG (clP (trR m)))∧T 35=(iV (((clP (trR m)).length:Nat):Int))∧T 36=(iV 0)∧H 1=(bMq m)∧H 2=bNq∧H 4=(bk 1 24 4 [[(iV ((trR m).i)),(iV ((trR m).s)),(aD ((trR m).nx)),(aD ((trR m).ot))]])∧H 7=(bk 1 24 4 [[(iV ((trR m).i)),(iV 0),(V.ms 812 1 0 0),V.nilsl]])∧H 10=bZq∧H 72=bZq∧H 812=(bz 1 25 1 [])∧H 813=bZq∧True) ⟨t2,t4,t6,t7,t34,t35,t36,(uTq (uTq h1)),(uTq (uTq h2)),(uTq (uTq h4)),(by rw [aH,h7,(cVq h812)]; rfl),(uTq (uTq h10)),(uTq (uTq h72)),(by rw [aQ _ _ (by decide),aH,(cVq h812)]),(uTq (uTq h813)),trivial⟩ ?_)
 intro T H ⟨t2,t4,t6,t7,t34,t35,t36,h1,h2,h4,h7,h10,h72,h812,h813,_⟩
 refine .lazyCell 813 25 1 7 0 3 [(iV ((trR m).i)),(iV 0),(V.ms 812 1 0 0),V.nilsl] (by decide) (by rw [h7]; rfl) (by rw [h7]; rfl) rfl (.done ?_)
 refine bF (R:=fun T H=>T 2=(mPq 2)∧T 4=(mPq 4)∧T 6=(aG (clP (trR m)))∧T 7=(mPq 7)∧T 34=(aG (clP (trR m)))∧T 35=(iV (((clP (trR m)).length:Nat):Int))∧T 36=(iV 0)∧H 1=(bMq m)∧H 2=bNq∧H 4=(bk 1 24 4 [[(iV ((trR m).i)),(iV ((trR m).s)),(aD ((trR m).nx)),(aD ((trR m).ot))]])∧H 7=(bk 1 24 4 [[(iV ((trR m).i)),(iV 0),(V.ms 812 1 0 0),(V.ms 813 1 0 0)]])∧H 10=bZq∧H 72=bZq∧H 812=(bz 1 25 1 [])∧H 813=(bz 1 25 1 [])∧True) ⟨t2,t4,t6,t7,t34,t35,t36,(uTq (uTq h1)),(uTq (uTq h2)),(uTq (uTq h4)),(by rw [aH,h7,(cVq h813)]; rfl),(uTq (uTq h10)),(uTq (uTq h72)),(uTq (uTq h812)),(by rw [aQ _ _ (by decide),aH,(cVq h813)]),trivial⟩ ?_
 intro T H ⟨t2,t4,t6,t7,t34,t35,t36,h1,h2,h4,h7,h10,h72,h812,h813,_⟩
 refine aC fun Q3 n3 x3 y3 z3=>?_
 refine bH (fun mm T H=> ∃ (k:Nat) (v:Nat) (w:Nat) (v10:Nat) (v72:Nat),mm=(rch m).length - k∧T 2=(mPq 2)∧T 4=(mPq 4)∧T 6=(aG (clP (trR m)))∧T 7=(mPq 7)∧T 34=(aG (clP (trR m)))∧T 35=(iV (((clP (trR m)).length:Nat):Int))∧T 36=(iV ((k:Nat):Int))∧H 1=(bMq m)∧H 2=bNq∧H 4=(bk 1 24 4 [[(iV ((trR m).i)),(iV ((trR m).s)),(aD ((trR m).nx)),(aD ((trR m).ot))]])∧H 7=(bk 1 24 4 [[(iV m.i),(iV 0),(V.ms 812 v 0 ((FK m k).length)),(V.ms 813 w 0 ((FK m k).length))]])∧((H 10).ver=v10∧(H 10).live=false)∧((H 72).ver=v72∧(H 72).live=false)∧H 812=(bz v 25 1 (List.map cL ((FK m k).map (pY m))))∧H 813=(bz w 25 1 (List.map cL ((FK m k).map (tOt m))))∧(k≤(rch m).length)) ?_ ?_
 ·
  refine ⟨_,0,1,1,0,0,rfl,t2,t4,(eTq t6 (by rfl)),t7,(eTq t34 (by rfl)),(eTq t35 (by rfl)),(eTq t36 rfl),h1,h2,h4,(eTq h7 (by (rw [p2]; rfl))),⟨(cVq h10),congrArg Blk.live h10⟩,⟨(cVq h72),congrArg Blk.live h72⟩,(eTq h812 (by rfl)),(eTq h813 (by rfl)),?_⟩
  · exact Nat.zero_le _
 intro mm T H ⟨k,v,w,v10,v72,hmm,t2,t4,t6,t7,t34,t35,t36,h1,h2,h4,h7,h10,h72,h812,h813,hk⟩ Q4 p14 p24 p34
 unfold aMY
 refine W_r (bJ t36 t35 (R_e ?_))
 refine aJ rfl (fun c5=>?_) fun c5=>?_
 ·
  obtain ⟨g1,g2,g3,g4,g5,g6⟩:=p6 k (by omega)
  have fl:=vH (m:=m) k
  have cl:=rV (f:=cRc m) k
  have n2:(nth (trR m).nx k).length=m.i.toNat:=by rw [g2,g4]
  have n3:(nth (trR m).ot k).length=m.i.toNat:=by rw [g3,g5]
  refine aE (aC fun Q6 n6 x6 y6 z6=>(W_r (aA t36 (bE (i:=k) t34 t36 (by omega) rfl (aF rfl rfl (aA rfl (aA rfl ?_)))))))
  refine R_e (aB (W_r (aA rfl (aZ t7 h7 (aS rfl h7 rfl rfl (cS rfl h812 (by simp) (bJ rfl rfl ?_)))))))
  refine R_e ?_
  refine aJ rfl (fun c7=>?_) fun c7=>?_
  ·
   have fs:FK m (k+1)=FK m k:=aON (by rw [← g1,← fl]; exact c7)
   refine aN (x6 _ _ (.done (W_t (aU t36 (rNq 1) (by omega) (aA rfl (R_e ?_))))))
   refine p14 _ _ _ ?_ ⟨(k+1),v,w,v10,v72,rfl,t2,t4,t6,t7,t34,t35,(eTq (rNq (k+1)) (by rfl)),h1,h2,h4,(eTq h7 (by (rw [fs]; done))),h10,h72,(eTq h812 (by (rw [fs]; done))),(eTq h813 (by (rw [fs]; done))),?_⟩
   · omega
   · omega
  have fs:FK m (k+1)=FK m k++[k]:=aOe (by rw [← g1,← fl]; exact c7)
  refine aE (W_r (dQ (i:=10) (n:=v10) rfl h10.1 (R_e (aB (W_r (aZ t4 h4 (aS rfl h4 rfl rfl ?_)))))))
  refine aA rfl (bE (i:=k) (rVq (aD ((trR m).nx))) (rNq k) (by omega) rfl (aF rfl rfl (bI rfl (aA rfl (R_e (aC fun Q8 n8 x8 y8 z8=>?_))))))
  refine bH (fun mm T H=> ∃ (j:Nat) (u:Nat),mm=m.i.toNat - j∧T 2=(mPq 2)∧T 4=(mPq 4)∧T 6=(aG (clP (trR m)))∧T 7=(mPq 7)∧T 8=(iV ((k:Nat):Int))∧T 10=(V.ms 10 u 0 j)∧T 34=(aG (clP (trR m)))∧T 35=(iV (((clP (trR m)).length:Nat):Int))∧T 36=(iV ((k:Nat):Int))∧T 50=(aG (nth (trR m).nx k))∧T 51=(iV (((nth (trR m).nx k).length:Nat):Int))∧T 52=(iV ((j:Nat):Int))∧H 1=(bMq m)∧H 2=bNq∧H 4=(bk 1 24 4 [[(iV ((trR m).i)),(iV ((trR m).s)),(aD ((trR m).nx)),(aD ((trR m).ot))]])∧H 7=(bk 1 24 4 [[(iV m.i),(iV 0),(V.ms 812 v 0 ((FK m k).length)),(V.ms 813 w 0 ((FK m k).length))]])∧H 10=(bz u 3 1 (List.map cI (tbl (kT m k) j)))∧((H 72).ver=v72∧(H 72).live=false)∧H 812=(bz v 25 1 (List.map cL ((FK m k).map (pY m))))∧H 813=(bz w 25 1 (List.map cL ((FK m k).map (tOt m))))∧(j≤m.i.toNat)) ?_ ?_
  ·
   refine ⟨_,0,(v10+1),rfl,t2,t4,t6,t7,rfl,(eTq (rVq (V.ms 10 (v10+1) 0 0)) (by rfl)),t34,t35,t36,(eTq (rVq (aG (nth ((trR m).nx) k))) (by rfl)),(eTq (rNq ((nth ((trR m).nx) k).length)) (by rfl)),(eTq (rVq (iV 0)) rfl),h1,h2,h4,h7,(eTq (@rfl Blk (bz (v10+1) 3 1 [])) (by rfl)),h72,h812,h813,?_⟩
   · exact Nat.zero_le _
  intro mm T H ⟨j,u,hmm,t2,t4,t6,t7,t8,t10,t34,t35,t36,t50,t51,t52,h1,h2,h4,h7,h10,h72,h812,h813,hj⟩ Q9 p19 p29 p39
  unfold aMZ
  refine W_r (bJ t52 t51 (R_e ?_))
  refine aJ rfl (fun c10=>?_) fun c10=>?_
  ·
   obtain ⟨y1,y2,y3⟩:=g6 j (by omega)
   rw [← g2] at y1
   have e5:nth (clP (trR m)) (nth (nth (trR m).nx k) j).toNat=kT m k j:=by rw [y1]; exact (p6 _ y3).1
   rw [← y1] at y2 y3
   refine aE (aC fun Q11 n11 x11 y11 z11=>(W_r (bE (i:=j) t50 t52 (by omega) rfl (aF rfl rfl (aA rfl (R_e (W_t ?_)))))))
   refine aA t10 (aA t6 (aA rfl (cP (i:=(nth (nth (trR m).nx k) j)) (rVq (aG (clP (trR m)))) (rVq (iV (nth (nth (trR m).nx k) j))) (by omega) (by omega) rfl (aF rfl rfl (bM rfl rfl (bK (l:=(tbl (kT m k) j)) (f:=cI) (x:=(nth (clP (trR m)) (nth (nth (trR m).nx k) j).toNat)) (rVq (V.ms 10 u 0 j)) h10 (by exact (aP _ _).symm) (rVq (V.sl [[(iV (nth (clP (trR m)) (nth (nth (trR m).nx k) j).toNat))]])) rfl rfl (by omega) (by omega) (aA rfl ?_)))))))
   refine R_e (n11 _ _ (.done (W_t (aU t52 (rNq 1) (by omega) (aA rfl (R_e ?_))))))
   refine p19 _ _ _ ?_ ⟨(j+1),(u+1),rfl,t2,t4,t6,t7,t8,(eTq (rVq (V.ms 10 (u+1) 0 (j+1))) (by rfl)),t34,t35,t36,t50,t51,(eTq (rNq (j+1)) (by rfl)),h1,h2,h4,h7,(eTq (@rfl Blk (bz (u+1) 3 1 (List.map cI (tbl (kT m k) j++[(nth (clP (trR m)) (nth (nth (trR m).nx k) j).toNat)])))) (by (rw [cE,e5]; first|done|rfl))),h72,h812,h813,?_⟩
   · omega
   · omega
  have ej:pY m k=tbl (kT m k) j:=by unfold pY kT; rw [show m.i.toNat=j by omega]
  refine aN (p39 _ _ _ (x8 _ _ (bF (R:=fun T H=>T 2=(mPq 2)∧T 4=(mPq 4)∧T 6=(aG (clP (trR m)))∧T 7=(mPq 7)∧T 8=(iV ((k:Nat):Int))∧T 10=(V.ms 10 u 0 j)∧T 34=(aG (clP (trR m)))∧T 35=(iV (((clP (trR m)).length:Nat):Int))∧T 36=(iV ((k:Nat):Int))∧T 50=(aG (nth (trR m).nx k))∧T 51=(iV (((nth (trR m).nx k).length:Nat):Int))∧T 52=(iV ((j:Nat):Int))∧T 53=(V.bool (decide (((j:Nat):Int) < (((nth (trR m).nx k).length:Nat):Int))))∧H 1=(bMq m)∧H 2=bNq∧H 4=(bk 1 24 4 [[(iV ((trR m).i)),(iV ((trR m).s)),(aD ((trR m).nx)),(aD ((trR m).ot))]])∧H 7=(bk 1 24 4 [[(iV m.i),(iV 0),(V.ms 812 v 0 ((FK m k).length)),(V.ms 813 w 0 ((FK m k).length))]])∧H 10=(bz u 3 1 (List.map cI (tbl (kT m k) j)))∧((H 72).ver=v72∧(H 72).live=false)∧H 812=(bz v 25 1 (List.map cL ((FK m k).map (pY m))))∧H 813=(bz w 25 1 (List.map cL ((FK m k).map (tOt m))))∧True) ⟨t2,t4,t6,t7,t8,t10,t34,t35,t36,t50,t51,t52,(rVq (V.bool (decide (((j:Nat):Int) < (((nth (trR m).nx k).length:Nat):Int))))),h1,h2,h4,h7,h10,h72,h812,h813,trivial⟩ ?_)))
  intro T H ⟨t2,t4,t6,t7,t8,t10,t34,t35,t36,t50,t51,t52,t53,h1,h2,h4,h7,h10,h72,h812,h813,_⟩
  refine .freeze 10 (.done ?_)
  refine bF (R:=fun T H=>T 2=(mPq 2)∧T 4=(mPq 4)∧T 6=(aG (clP (trR m)))∧T 7=(mPq 7)∧T 8=(iV ((k:Nat):Int))∧T 10=(aG (tbl (kT m k) j))∧T 34=(aG (clP (trR m)))∧T 35=(iV (((clP (trR m)).length:Nat):Int))∧T 36=(iV ((k:Nat):Int))∧T 50=(aG (nth (trR m).nx k))∧T 51=(iV (((nth (trR m).nx k).length:Nat):Int))∧T 52=(iV ((j:Nat):Int))∧T 53=(V.bool (decide (((j:Nat):Int) < (((nth (trR m).nx k).length:Nat):Int))))∧H 1=(bMq m)∧H 2=bNq∧H 4=(bk 1 24 4 [[(iV ((trR m).i)),(iV ((trR m).s)),(aD ((trR m).nx)),(aD ((trR m).ot))]])∧H 7=(bk 1 24 4 [[(iV m.i),(iV 0),(V.ms 812 v 0 ((FK m k).length)),(V.ms 813 w 0 ((FK m k).length))]])∧((H 10).ver=u∧(H 10).live=false)∧((H 72).ver=v72∧(H 72).live=false)∧H 812=(bz v 25 1 (List.map cL ((FK m k).map (pY m))))∧H 813=(bz w 25 1 (List.map cL ((FK m k).map (tOt m))))∧True) ⟨(aL t2 rfl),(aL t4 rfl),(aL t6 rfl),(aL t7 rfl),(aL t8 rfl),(aL t10 (fR h10 (by simp) (l:=(tbl (kT m k) j)) rfl (by exact (aP _ _).symm))),(aL t34 rfl),(aL t35 rfl),(aL t36 rfl),(aL t50 rfl),(aL t51 rfl),(aL t52 rfl),(aL t53 rfl),(aK h1 (by decide)),(aK h2 (by decide)),(aK h4 (by decide)),(aK h7 (by decide)),(bG (cVq h10)),(bU h72),(aK h812 (by decide)),(aK h813 (by decide)),trivial⟩ ?_
  intro T H ⟨t2,t4,t6,t7,t8,t10,t34,t35,t36,t50,t51,t52,t53,h1,h2,h4,h7,h10,h72,h812,h813,_⟩
  refine W_r (aZ t7 h7 (aS rfl h7 rfl rfl (aA t10 (bM rfl rfl (bK (l:=((FK m k).map (pY m))) (f:=cL) (x:=(tbl (kT m k) j)) (rVq (V.ms 812 v 0 ((FK m k).length))) h812 (by simp) (rVq (V.sl [[(aG (tbl (kT m k) j))]])) rfl rfl (by omega) (by omega) (aZ t7 h7 (bC (vs:=[(V.ms 812 (v+1) 0 (((FK m k).length)+1))]) (B':=(bk 1 24 4 [[(iV m.i),(iV 0),(V.ms 812 (v+1) 0 (((FK m k).length)+1)),(V.ms 813 w 0 ((FK m k).length))]])) rfl rfl rfl h7 (sB oB rfl rfl rfl rfl rfl) ?_)))))))
  refine R_e (aVM (aZ t7 rfl (aS rfl rfl rfl rfl (dQ (i:=72) (n:=v72) rfl h72.1 (aZ t4 h4 (aS rfl h4 rfl rfl (aA t8 ?_)))))))
  refine bE (i:=k) (rVq (aD ((trR m).ot))) (rNq k) (by omega) rfl (aF rfl rfl (gQ (l:=([])) (m:=(nth ((trR m).ot) k)) (f:=cI) (rVq (V.ms 72 (v72+1) 0 0)) (show _=(bz (v72+1) 3 1 (List.map cI ([]))) from (@rfl Blk (bz (v72+1) 3 1 []))) (by rfl) (rVq (aG (nth ((trR m).ot) k))) (fun _=>rfl) (fun _=>rfl) (by omega) (by omega) (bM rfl rfl (aF9 (l:=((FK m k).map (tOt m))) (f:=cL) (rVq (V.ms 813 w 0 ((FK m k).length))) h813 (by simp) (rVq (V.sl [[(V.ms 72 (v72+2) 0 (0+(nth ((trR m).ot) k).length))]])) (by simp [cY,V.one]) (by (simp; omega)) (by (simp; omega)) (aZ t7 rfl (bC (vs:=[(V.ms 813 (w+1) 0 (((FK m k).length)+1))]) (B':=(bk 1 24 4 [[(iV m.i),(iV 0),(V.ms 812 (v+1) 0 (((FK m k).length)+1)),(V.ms 813 (w+1) 0 (((FK m k).length)+1))]])) rfl rfl rfl rfl (sB oB rfl rfl rfl rfl rfl) (R_e ?_)))))))
  refine ⟨by simp [ddB,apV,jZ,aGN,t2,t34,t35,t36,t4,t6,t7,t8],?_⟩
  refine n6 _ _ (bF (R:=fun T H=>T 2=(mPq 2)∧T 4=(mPq 4)∧T 6=(aG (clP (trR m)))∧T 7=(mPq 7)∧T 34=(aG (clP (trR m)))∧T 35=(iV (((clP (trR m)).length:Nat):Int))∧T 36=(iV ((k:Nat):Int))∧H 1=(bMq m)∧H 2=bNq∧H 4=(bk 1 24 4 [[(iV ((trR m).i)),(iV ((trR m).s)),(aD ((trR m).nx)),(aD ((trR m).ot))]])∧H 7=(bk 1 24 4 [[(iV m.i),(iV 0),(V.ms 812 (v+1) 0 (((FK m k).length)+1)),(V.ms 813 (w+1) 0 (((FK m k).length)+1))]])∧((H 10).ver=u∧(H 10).live=false)∧H 72=(bz (v72+2) 3 1 (List.map cI ([]++(nth ((trR m).ot) k))))∧H 812=(bz (v+1) 25 1 (List.map cL ((FK m k).map (pY m)++[tbl (kT m k) j])))∧H 813=(bz (w+1) 25 1 (List.map cL ((FK m k).map (tOt m))++[[(V.ms 72 (v72+2) 0 (0+(nth ((trR m).ot) k).length))]]))∧True) ⟨t2,t4,t6,t7,t34,t35,t36,h1,h2,h4,rfl,h10,rfl,rfl,rfl,trivial⟩ ?_)
  intro T H ⟨t2,t4,t6,t7,t34,t35,t36,h1,h2,h4,h7,h10,h72,h812,h813,_⟩
  refine aK4 (id:=72) (id2:=813) (rows0:=List.map cL ((FK m k).map (tOt m))) (off:=0) (r:=[(V.ms 72 (v72+2) 0 (0+(nth ((trR m).ot) k).length))]) (m:=([]++(nth ((trR m).ot) k))) (g:=cI) (by decide) h72 h813 (by simp) rfl (.done ?_)
  refine bF (R:=fun T H=>T 2=(mPq 2)∧T 4=(mPq 4)∧T 6=(aG (clP (trR m)))∧T 7=(mPq 7)∧T 34=(aG (clP (trR m)))∧T 35=(iV (((clP (trR m)).length:Nat):Int))∧T 36=(iV ((k:Nat):Int))∧H 1=(bMq m)∧H 2=bNq∧H 4=(bk 1 24 4 [[(iV ((trR m).i)),(iV ((trR m).s)),(aD ((trR m).nx)),(aD ((trR m).ot))]])∧H 7=(bk 1 24 4 [[(iV m.i),(iV 0),(V.ms 812 (v+1) 0 (((FK m k).length)+1)),(V.ms 813 (w+1) 0 (((FK m k).length)+1))]])∧((H 10).ver=u∧(H 10).live=false)∧((H 72).ver=v72+2∧(H 72).live=false)∧H 812=(bz (v+1) 25 1 (List.map cL ((FK m k).map (pY m)++[tbl (kT m k) j])))∧H 813=(bz (w+1) 25 1 (List.map cL ((FK m k).map (tOt m)++[[]++(nth ((trR m).ot) k)])))∧True) ⟨(aL t2 rfl),(aL t4 rfl),(aL t6 rfl),(aL t7 rfl),(aL t34 rfl),(aL t35 rfl),(aL t36 rfl),(uTq (aK h1 (by decide))),(uTq (aK h2 (by decide))),(uTq (aK h4 (by decide))),(uTq (aK h7 (by decide))),⟨(cVq (aQ _ _ (by decide))).trans (bU h10).1,(congrArg Blk.live (aQ _ _ (by decide))).trans (bU h10).2⟩,⟨(cVq (aQ _ _ (by decide))).trans (bG (cVq h72)).1,(congrArg Blk.live (aQ _ _ (by decide))).trans (bG (cVq h72)).2⟩,(uTq (aK h812 (by decide))),(eTq (aH _ _ _) (aK0 rfl)),trivial⟩ ?_
  intro T H ⟨t2,t4,t6,t7,t34,t35,t36,h1,h2,h4,h7,h10,h72,h812,h813,_⟩
  refine W_t (aU t36 (rNq 1) (by omega) (aA rfl (R_e ?_)))
  refine p14 _ _ _ ?_ ⟨(k+1),(v+1),(w+1),u,(v72+2),rfl,t2,t4,t6,t7,t34,t35,(eTq (rNq (k+1)) (by rfl)),h1,h2,h4,(eTq h7 (by (rw [fs,List.length_append]; first|done|rfl))),h10,h72,(eTq h812 (by (rw [fs,List.map_append (f:=pY m),← ej]; first|done|rfl))),(eTq h813 (by (rw [fs,List.map_append (f:=tOt m),g3]; first|done|rfl))),?_⟩
  · omega
  · omega
 have ek:(rch m).length=k:=by omega
 refine aN (p34 _ _ _ (x3 _ _ (.done (W_r (aS t7 h7 rfl rfl (bC (vs:=[(iV m.i),(iV 0),(V.ms 812 v 0 ((FK m k).length)),(V.ms 813 w 0 ((FK m k).length))]) (B':=(bk 1 24 4 [[(iV m.i),(iV 0),(V.ms 812 v 0 ((FK m k).length)),(V.ms 813 w 0 ((FK m k).length))]])) t2 rfl rfl h2 (sB oB rfl rfl rfl rfl rfl) (aA rfl ?_)))))))
 refine R_e (bN ?_)
 refine jS (gT (u:=(V.agg [(iV m.i),(iV 0),(V.ms 812 v 0 ((FK m k).length)),(V.ms 813 w 0 ((FK m k).length))])) t2 (@rfl Blk (bk 1 24 4 [[(iV m.i),(iV 0),(V.ms 812 v 0 ((FK m k).length)),(V.ms 813 w 0 ((FK m k).length))]])) (lB oB rfl rfl)) (jM (rVq (iV 0))) (iM (bZ (aW ?_) (bZ (aW ?_) (bZ (gD h812 (by simp) (l:=((FK m k).map (pY m))) rfl (by simp) (fun _=>by simp) ?_) (bZ (gD h813 (by simp) (l:=((FK m k).map (tOt m))) rfl (by simp) (fun _=>by simp) ?_) rfl))))) (aW ?_)
 · rw [mnR,if_pos hm]; unfold mnM; try first|rfl|(rw [ek]; done)|(rw [ek]; rfl)
 · rw [mnR,if_pos hm]; unfold mnM; try first|rfl|(rw [ek]; done)|(rw [ek]; rfl)
 · rw [mnR,if_pos hm]; unfold mnM; try first|rfl|(rw [ek]; done)|(rw [ek]; rfl)
 · rw [mnR,if_pos hm]; unfold mnM; try first|rfl|(rw [ek]; done)|(rw [ek]; rfl)
 · exact hm.symm
theorem aBr (l:List Int) (n:Int):bA Tryz.prog 116 [(aG l),(iV n)] (iV (fi (fun j=>decide (n=nth l j)) 0 l.length)):=by
 refine pW Tryz.func116 aEs fun hB=>?_
 unfold aIR
 dsimp only
 refine W_r (aA rfl (R_e (aB (W_r (aA rfl (bI rfl (aA rfl ?_)))))))
 refine R_e (aC fun Q1 n1 x1 y1 z1=>?_)
 refine bH (fun mm T H=> ∃ (k:Nat),mm=l.length - k∧T 0=(aG l)∧T 1=(iV n)∧T 7=(iV ((l.length:Nat):Int))∧T 8=(iV ((k:Nat):Int))∧(k≤l.length)∧(fi (fun j=>decide (n=nth l j)) 0 l.length=fi (fun j=>decide (n=nth l j)) k (l.length - k))) ?_ ?_
 ·
  refine ⟨_,0,rfl,rfl,rfl,rfl,(eTq (rVq (iV 0)) rfl),?_,?_⟩
  · omega
  · rfl
 intro mm T H ⟨k,hmm,t0,t1,t7,t8,hk,hc⟩ Q2 p12 p22 p32
 unfold aGO
 refine W_r (bJ t8 t7 (R_e ?_))
 refine aJ rfl (fun c3=>?_) fun c3=>?_
 ·
  refine aE (aC fun Q4 n4 x4 y4 z4=>(W_r (aA t8 (aA rfl (R_e (W_r (aA t1 ?_)))))))
  refine aA t0 (aA rfl (bE (i:=k) (rVq (aG l)) (rNq k) (by omega) rfl (aF rfl rfl (fC rfl rfl (R_e ?_)))))
  refine iE rfl (fun c5=>?_) fun c5=>?_
  ·
   have d1:=c5
   refine W_r (aA rfl (aA rfl (R_e (bN (y4 _ _ (p22 _ _ (y1 _ _ ?_)))))))
   refine bS (rNq k) (aW ?_)
   · rw [hc,aCZ (p:=fun j=>decide (n=nth l j)) (decide_eq_true d1) (by omega)]
  have d1:=c5
  refine dS (n4 _ _ (.done (W_t (aU t8 (rNq 1) (by omega) (aA rfl (R_e ?_))))))
  refine p12 _ _ _ ?_ ⟨(k+1),rfl,t0,t1,t7,(eTq (rNq (k+1)) (by rfl)),?_,?_⟩
  · omega
  · omega
  · rw [hc,aAT (p:=fun j=>decide (n=nth l j)) (decide_eq_false d1) (by omega)]
 refine aN (p32 _ _ _ (x1 _ _ (.done (W_r (aA rfl (R_e (bN ?_)))))))
 refine bS (rVq (iV (-1))) (aW ?_)
 · rw [hc,aC5 (by omega)]
theorem uQ (l:List Int) (n:Int):bA Tryz.prog 69 [(aG l),(iV n)] (V.bool (decide (n∈l))):=by
 refine pW Tryz.func69 aHi fun hB=>?_
 unfold s69
 dsimp only
 refine W_r (aA rfl (R_e (W_r (aA rfl (aA rfl (aV (aBr l n) rfl (lZ rfl rfl ?_)))))))
 refine aA rfl (R_e (bN ?_))
 refine bS (rVq (V.bool (decide ((0:Int)≤(fi (fun j=>decide (n=nth l j)) 0 l.length))))) (cH ?_)
 · exact decide_eq_decide.2 aI1
theorem aCN (m:M) (ins:List Int) (s:Int) (j:Nat) (hm:bD m=0) (hv:rsV m ins) (hs:0≤s∧s < m.nx.length) (hj:j < ins.length):bA Tryz.prog 71 [(V.agg [(iV s),(iV 0)]),(iV ((j:Nat):Int)),(V.pp [(iV m.i),(iV m.s),(aD m.nx),(aD m.ot)]),(V.pp [(aG ins)])] (V.agg [(iV (rsN m ins s.toNat j)),(iV 0),(iV (rsO m ins s.toNat j))]):=by
 refine pW Tryz.func71 aHX fun hB=>?_
 unfold s71
 dsimp only
 have mo:=bT hm
 have rr:=mo.2.2.2.2.2.2.2 s.toNat (by omega)
 have rj:=hv.2.2 j hj
 have rc:=rr.2.2 (nth ins j).toNat (by omega)
 refine W_r (dN (i:=4) (n:=0) (m:=2) (cs:=[(iV s),(iV 0)]) rfl (cVq rfl) rfl rfl rfl (cQ (i:=6) (n:=0) (m:=3) rfl (cVq rfl) rfl (R_e (W_r (mD (cs':=[(aD m.nx),(aD m.ot)]) rfl rfl (aF rfl rfl (aZ rfl rfl ?_)))))))
 refine aS rfl rfl rfl rfl (cP (i:=s) (rVq (aD m.nx)) (rVq (iV s)) (by omega) (by omega) rfl (aF rfl rfl (aF rfl rfl (aA rfl (bE (i:=j) (rVq (aG ins)) (rNq j) (by omega) rfl (aF rfl rfl (cP (i:=(nth ins j)) (rVq (aG (nth m.nx s.toNat))) (rVq (iV (nth ins j))) (by omega) (by omega) rfl ?_)))))))
 refine aF rfl rfl (eL rfl rfl (mD (cs':=[(aD m.ot)]) rfl rfl (aF rfl rfl (aZ rfl rfl (aS rfl rfl rfl rfl (cP (i:=s) (rVq (aD m.ot)) (rVq (iV s)) (by omega) (by omega) rfl (aF rfl rfl ?_)))))))
 refine aF rfl rfl (aA rfl (bE (i:=j) (rVq (aG ins)) (rNq j) (by omega) rfl (aF rfl rfl (cP (i:=(nth ins j)) (rVq (aG (nth m.ot s.toNat))) (rVq (iV (nth ins j))) (by omega) (by omega) rfl (aF rfl rfl (eL rfl rfl (aPa rfl rfl rfl rfl rfl rfl rfl rfl rfl ?_)))))))
 refine R_e (bN ?_)
 refine aDD (gT (u:=(V.agg [(iV (nth (nth m.nx s.toNat) (nth ins j).toNat)),(iV 0),(iV (nth (nth m.ot s.toNat) (nth ins j).toNat))])) rfl (@rfl Blk (bk 1 139 3 [[(iV (nth (nth m.nx s.toNat) (nth ins j).toNat)),(iV 0),(iV (nth (nth m.ot s.toNat) (nth ins j).toNat))]])) (lB oB rfl rfl)) (aEo (aW ?_) (dE (by simp) rfl) (aW ?_))
 · first|rfl|skip
 · first|rfl|skip
theorem aIa (m:M) (ins:List Int) (hm:bD m=0) (hv:rsV m ins):bA Tryz.prog 70 [(iV ((ins.length:Nat):Int)),(V.agg [(iV m.s),(iV 0)]),(V.fn 71 [] [(V.pp [(iV m.i),(iV m.s),(aD m.nx),(aD m.ot)]),(V.pp [(aG ins)])])] (V.tup [(V.agg [(iV ((trR (rsM m ins)).i)),(iV ((trR (rsM m ins)).s)),(aD ((trR (rsM m ins)).nx)),(aD ((trR (rsM m ins)).ot))]),(iV 0)]):=by
 refine pW Tryz.func70 aIh fun hB=>?_
 unfold s70
 dsimp only
 have mo:=bT hm
 have hR:=aAR hm hv
 have hl:=aAn hm hv
 have e2:=aNv (m:=m) (ins:=ins)
 refine W_r (dN (i:=4) (n:=0) (m:=2) (cs:=[(iV m.s),(iV 0)]) rfl (cVq rfl) rfl rfl rfl (cQ (i:=6) (n:=0) (m:=4) rfl (cVq rfl) rfl (aA rfl (R_e (W_r (aA rfl (eL rfl rfl ?_)))))))
 refine cQ (i:=8) (n:=0) (m:=4) rfl (cVq rfl) rfl (bC (vs:=[(iV ((ins.length:Nat):Int)),(iV 0),V.nilsl,V.nilsl]) (B':=(bk 1 24 4 [[(iV ((ins.length:Nat):Int)),(iV 0),V.nilsl,V.nilsl]])) rfl rfl rfl rfl (sB oB rfl rfl rfl rfl rfl) (R_e (W_r (aS rfl rfl rfl rfl (gA (i:=19) (n:=0) (qs:=[(0,(V.agg [(iV m.s),(iV 0)]))]) (rows:=[[(iV m.s),(iV 0)]]) rfl (cVq rfl) (bZ (congrArg (fun v=>(0,v)) rfl) rfl) rfl (aA rfl (R_e ?_)))))))
 refine aB ?_
 refine fQ (fun T H=>T 0=(iV ((ins.length:Nat):Int))∧T 2=(V.fn 71 [] [(V.pp [(iV m.i),(iV m.s),(aD m.nx),(aD m.ot)]),(V.pp [(aG ins)])])∧T 6=(mPq 6)∧T 8=(mPq 8)∧T 9=(V.ms 19 1 0 1)∧T 10=(iV 0)∧H 4=(bk 1 137 2 [[(iV m.s),(iV 0)]])∧H 6=bNq∧H 8=(bk 1 24 4 [[(iV ((ins.length:Nat):Int)),(iV 0),V.nilsl,V.nilsl]])∧H 11=bZq∧H 12=bZq∧H 14=bZq∧H 19=(bk 1 137 2 [[(iV m.s),(iV 0)]])∧H 812=bZq∧H 813=bZq∧True) ?_ ?_
 ·
  refine aA rfl ?_
  exact eE ⟨rfl,rfl,rfl,rfl,rfl,rfl,rfl,rfl,rfl,rfl,rfl,rfl,rfl,rfl,rfl,trivial⟩
 intro T H ⟨t0,t2,t6,t8,t9,t10,h4,h6,h8,h11,h12,h14,h19,h812,h813,_⟩
 refine .lazyCell 812 25 1 8 0 2 [(iV ((ins.length:Nat):Int)),(iV 0),V.nilsl,V.nilsl] (by decide) (by rw [h8]; rfl) (by rw [h8]; rfl) rfl (bF (R:=fun T H=>T 0=(iV ((ins.length:Nat):Int))∧T 2=(V.fn 71 [] [(V.pp [(iV m.i),(iV m.s),(aD m.nx),(aD m.ot)]),(V.pp [(aG ins)])])∧T 6=(mPq 6)∧T 8=(mPq 8)∧T 9=(V.ms 19 1 0 1)∧T 10=(iV 0)∧H 4=(bk 1 137 2 [[(iV m.s),(iV 0)]])∧H 6=bNq∧H 8=(bk 1 24 4 [[(iV ((ins.length:Nat):Int)),(iV 0),(V.ms 812 1 0 0),V.nilsl]])∧H 11=bZq∧H 12=bZq∧H 14=bZq∧H 19=(bk 1 137 2 [[(iV m.s),(iV 0)]])∧H 812=(bz 1 25 1 [])∧H 813=bZq∧True) ⟨t0,t2,t6,t8,t9,t10,(uTq (uTq h4)),(uTq (uTq h6)),(by rw [aH,h8,(cVq h812)]; rfl),(uTq (uTq h11)),(uTq (uTq h12)),(uTq (uTq h14)),(uTq (uTq h19)),(by rw [aQ _ _ (by decide),aH,(cVq h812)]),(uTq (uTq h813)),trivial⟩ ?_)
 intro T H ⟨t0,t2,t6,t8,t9,t10,h4,h6,h8,h11,h12,h14,h19,h812,h813,_⟩
 refine .lazyCell 813 25 1 8 0 3 [(iV ((ins.length:Nat):Int)),(iV 0),(V.ms 812 1 0 0),V.nilsl] (by decide) (by rw [h8]; rfl) (by rw [h8]; rfl) rfl (.done ?_)
 refine bF (R:=fun T H=>T 0=(iV ((ins.length:Nat):Int))∧T 2=(V.fn 71 [] [(V.pp [(iV m.i),(iV m.s),(aD m.nx),(aD m.ot)]),(V.pp [(aG ins)])])∧T 6=(mPq 6)∧T 8=(mPq 8)∧T 9=(V.ms 19 1 0 1)∧T 10=(iV 0)∧H 4=(bk 1 137 2 [[(iV m.s),(iV 0)]])∧H 6=bNq∧H 8=(bk 1 24 4 [[(iV ((ins.length:Nat):Int)),(iV 0),(V.ms 812 1 0 0),(V.ms 813 1 0 0)]])∧H 11=bZq∧H 12=bZq∧H 14=bZq∧H 19=(bk 1 137 2 [[(iV m.s),(iV 0)]])∧H 812=(bz 1 25 1 [])∧H 813=(bz 1 25 1 [])∧True) ⟨t0,t2,t6,t8,t9,t10,(uTq (uTq h4)),(uTq (uTq h6)),(by rw [aH,h8,(cVq h813)]; rfl),(uTq (uTq h11)),(uTq (uTq h12)),(uTq (uTq h14)),(uTq (uTq h19)),(uTq (uTq h812)),(by rw [aQ _ _ (by decide),aH,(cVq h813)]),trivial⟩ ?_
 intro T H ⟨t0,t2,t6,t8,t9,t10,h4,h6,h8,h11,h12,h14,h19,h812,h813,_⟩
 refine aC fun Q1 n1 x1 y1 z1=>?_
 refine bH (fun mm T H=> ∃ (i:Nat) (v:Nat) (w:Nat) (u:Nat) (P:RS) (v11:Nat) (v12:Nat) (v14:Nat),mm=m.nx.length - i∧T 0=(iV ((ins.length:Nat):Int))∧T 2=(V.fn 71 [] [(V.pp [(iV m.i),(iV m.s),(aD m.nx),(aD m.ot)]),(V.pp [(aG ins)])])∧T 6=(mPq 6)∧T 8=(mPq 8)∧T 9=(V.ms 19 u 0 P.1.length)∧T 10=(iV ((i:Nat):Int))∧H 4=(bk 1 137 2 [[(iV m.s),(iV 0)]])∧H 6=bNq∧H 8=(bk 1 24 4 [[(iV ((ins.length:Nat):Int)),(iV 0),(V.ms 812 v 0 i),(V.ms 813 w 0 i)]])∧((H 11).ver=v11∧(H 11).live=false)∧((H 12).ver=v12∧(H 12).live=false)∧((H 14).ver=v14∧(H 14).live=false)∧H 19=(bk u 137 2 (List.map nZ P.1))∧H 812=(bz v 25 1 (List.map cL (tbl (tNx (rsM m ins)) i)))∧H 813=(bz w 25 1 (List.map cL (tbl (tOt (rsM m ins)) i)))∧(BLI (rsM m ins) i P)) ?_ ?_
 ·
  refine ⟨_,0,1,1,1,(kI (rsM m ins)),0,0,0,rfl,t0,t2,t6,t8,(eTq t9 (by rfl)),(eTq t10 rfl),h4,h6,h8,⟨(cVq h11),congrArg Blk.live h11⟩,⟨(cVq h12),congrArg Blk.live h12⟩,⟨(cVq h14),congrArg Blk.live h14⟩,(eTq h19 (by rfl)),(eTq h812 (by rfl)),(eTq h813 (by rfl)),?_⟩
  · exact aUf hR
 intro mm T H ⟨i,v,w,u,P,v11,v12,v14,hmm,t0,t2,t6,t8,t9,t10,h4,h6,h8,h11,h12,h14,h19,h812,h813,hP⟩ Q2 p12 p22 p32
 unfold aMk
 refine aB (W_r (aA t10 (aA t9 (cS rfl h19 (by simp) (bJ rfl rfl (R_e ?_))))))
 refine aJ rfl (fun c3=>?_) fun c3=>?_
 ·
  have pl:=hP.2.1.len
  have pr:=hP.2.1.rng _ (aY (show i < P.1.length by omega))
  refine aE (aC fun Q4 n4 x4 y4 z4=>(W_r (dQ (i:=11) (n:=v11) rfl h11.1 (dQ (i:=12) (n:=v12) rfl h12.1 (R_e (aB (W_r ?_)))))))
  refine aA t0 (aA rfl (R_e (aC fun Q5 n5 x5 y5 z5=>?_)))
  refine bH (fun mm T H=> ∃ (j:Nat) (v2:Nat) (w2:Nat) (u2:Nat) (Q:RS) (v14:Nat),mm=ins.length - j∧T 0=(iV ((ins.length:Nat):Int))∧T 2=(V.fn 71 [] [(V.pp [(iV m.i),(iV m.s),(aD m.nx),(aD m.ot)]),(V.pp [(aG ins)])])∧T 6=(mPq 6)∧T 8=(mPq 8)∧T 9=(V.ms 19 u2 0 Q.1.length)∧T 10=(iV ((i:Nat):Int))∧T 11=(V.ms 11 v2 0 j)∧T 12=(V.ms 12 w2 0 j)∧T 26=(iV ((ins.length:Nat):Int))∧T 27=(iV ((j:Nat):Int))∧H 4=(bk 1 137 2 [[(iV m.s),(iV 0)]])∧H 6=bNq∧H 8=(bk 1 24 4 [[(iV ((ins.length:Nat):Int)),(iV 0),(V.ms 812 v 0 i),(V.ms 813 w 0 i)]])∧H 11=(bz v2 3 1 (List.map cI (tbl (dJ (rsM m ins) i) j)))∧H 12=(bz w2 3 1 (List.map cI (tbl (fS (rsM m ins) i) j)))∧((H 14).ver=v14∧(H 14).live=false)∧H 19=(bk u2 137 2 (List.map nZ Q.1))∧H 812=(bz v 25 1 (List.map cL (tbl (tNx (rsM m ins)) i)))∧H 813=(bz w 25 1 (List.map cL (tbl (tOt (rsM m ins)) i)))∧(j≤ins.length)∧(BQI (rsM m ins) i j P Q)) ?_ ?_
  ·
   refine ⟨_,0,(v11+1),(v12+1),u,P,v14,rfl,t0,t2,t6,t8,t9,t10,(eTq (rVq (V.ms 11 (v11+1) 0 0)) (by rfl)),(eTq (rVq (V.ms 12 (v12+1) 0 0)) (by rfl)),rfl,(eTq (rVq (iV 0)) rfl),h4,h6,h8,(eTq (@rfl Blk (bz (v11+1) 3 1 [])) (by rfl)),(eTq (@rfl Blk (bz (v12+1) 3 1 [])) (by rfl)),h14,h19,h812,h813,?_,?_⟩
   · exact Nat.zero_le _
   · exact aUu hP
  intro mm T H ⟨j,v2,w2,u2,Q,v14,hmm,t0,t2,t6,t8,t9,t10,t11,t12,t26,t27,h4,h6,h8,h11,h12,h14,h19,h812,h813,hj,hQ⟩ Q6 p16 p26 p36
  unfold aMV
  refine W_r (bJ t27 t26 (R_e ?_))
  refine aJ rfl (fun c7=>?_) fun c7=>?_
  ·
   have q3:=hQ.2.2.1
   have q4:=hQ.2.2.2
   have qr:=hQ.2.1.rng _ (aY (show i < Q.1.length by omega))
   obtain ⟨b1,b2,b3,b4,b5⟩:=hQ.step hR hP (by omega) (show ((j:Nat):Int) < ((ins.length:Nat):Int) by omega)
   have y1:=aTD (m:=m) (ins:=ins) (s:=(nth Q.1 i).toNat) (j:=j) (by omega) (by omega)
   have y2:=aUF (m:=m) (ins:=ins) (s:=(nth Q.1 i).toNat) (j:=j) (by omega) (by omega)
   rw [y1] at b1 b4 b5
   rw [y2] at b3
   have mr:=mo.2.2.2.2.2.2.2 (nth Q.1 i).toNat (by omega)
   have ij:=hv.2.2 j (by omega)
   have mc:=mr.2.2 (nth ins j).toNat (by omega)
   have oo:rsO m ins (nth Q.1 i).toNat j≤1048576:=mc.2.2.2
   refine aE (aC fun Q8 n8 x8 y8 z8=>(W_r (aA t27 (aA rfl (R_e (W_r (aA t2 ?_)))))))
   refine aA t9 (aA t10 (bR (i:=i) (rVq (V.ms 19 u2 0 Q.1.length)) (rNq i) h19 oB rfl (by omega) (bL (v:=(V.agg [(iV (nth Q.1 i)),(iV 0)])) rfl h19 (cJ (by omega) (by rfl)) (aA rfl (lS (rVq (V.fn 71 [] [(V.pp [(iV m.i),(iV m.s),(aD m.nx),(aD m.ot)]),(V.pp [(aG ins)])])) (cO (rVq (V.agg [(iV (nth Q.1 i)),(iV 0)])) (cO (rNq j) gG)) (aCN m ins (nth Q.1 i) j hm hv ⟨by omega,by omega⟩ (by omega)) (gC _ _ (by simp [-List.map_take,-List.map_drop,-List.map_append,-List.map_reverse])) (by simp [-List.map_take,-List.map_drop,-List.map_append,-List.map_reverse]) (Or.inl (by simp [-List.map_take,-List.map_drop,-List.map_append,-List.map_reverse])) (cQ (i:=14) (n:=v14) (m:=3) rfl h14.1 rfl (bC (vs:=[(iV (rsN m ins (nth Q.1 i).toNat j)),(iV 0),(iV (rsO m ins (nth Q.1 i).toNat j))]) (B':=(bk (v14+1) 139 3 [[(iV (rsN m ins (nth Q.1 i).toNat j)),(iV 0),(iV (rsO m ins (nth Q.1 i).toNat j))]])) rfl rfl rfl rfl (sB oB rfl rfl rfl rfl rfl) ?_)))))))
   refine R_e (W_r (aA rfl (R_e (aC fun Q9 n9 x9 y9 z9=>?_))))
   refine bH (fun mm T H=> ∃ (k:Nat),mm=Q.1.length - k∧T 0=(iV ((ins.length:Nat):Int))∧T 2=(V.fn 71 [] [(V.pp [(iV m.i),(iV m.s),(aD m.nx),(aD m.ot)]),(V.pp [(aG ins)])])∧T 6=(mPq 6)∧T 8=(mPq 8)∧T 9=(V.ms 19 u2 0 Q.1.length)∧T 10=(iV ((i:Nat):Int))∧T 11=(V.ms 11 v2 0 j)∧T 12=(V.ms 12 w2 0 j)∧T 14=(V.mp 14 (v14+1) 0 0)∧T 15=(iV ((k:Nat):Int))∧T 26=(iV ((ins.length:Nat):Int))∧T 27=(iV ((j:Nat):Int))∧H 4=(bk 1 137 2 [[(iV m.s),(iV 0)]])∧H 6=bNq∧H 8=(bk 1 24 4 [[(iV ((ins.length:Nat):Int)),(iV 0),(V.ms 812 v 0 i),(V.ms 813 w 0 i)]])∧H 11=(bz v2 3 1 (List.map cI (tbl (dJ (rsM m ins) i) j)))∧H 12=(bz w2 3 1 (List.map cI (tbl (fS (rsM m ins) i) j)))∧H 14=(bk (v14+1) 139 3 [[(iV (rsN m ins (nth Q.1 i).toNat j)),(iV 0),(iV (rsO m ins (nth Q.1 i).toNat j))]])∧H 19=(bk u2 137 2 (List.map nZ Q.1))∧H 812=(bz v 25 1 (List.map cL (tbl (tNx (rsM m ins)) i)))∧H 813=(bz w 25 1 (List.map cL (tbl (tOt (rsM m ins)) i)))∧(k≤Q.1.length)∧(∀ q,q < k→nth Q.1 q≠(rsN m ins (nth Q.1 i).toNat j))) ?_ ?_
   ·
    refine ⟨_,0,rfl,t0,t2,t6,t8,t9,t10,t11,t12,rfl,(eTq (rVq (iV 0)) rfl),t26,t27,h4,h6,h8,h11,h12,rfl,h19,h812,h813,?_,?_⟩
    · exact Nat.zero_le _
    · intro q hq; omega
   intro mm T H ⟨k,hmm,t0,t2,t6,t8,t9,t10,t11,t12,t14,t15,t26,t27,h4,h6,h8,h11,h12,h14,h19,h812,h813,hk,hc⟩ Q10 p110 p210 p310
   unfold aNe
   refine aB (W_r (aA t15 (aA t9 (cS rfl h19 (by simp) (bJ rfl rfl (aA rfl ?_))))))
   refine bW 8 (fun T H=>T 0=(iV ((ins.length:Nat):Int))∧T 2=(V.fn 71 [] [(V.pp [(iV m.i),(iV m.s),(aD m.nx),(aD m.ot)]),(V.pp [(aG ins)])])∧T 6=(mPq 6)∧T 8=(mPq 8)∧T 9=(V.ms 19 u2 0 Q.1.length)∧T 10=(iV ((i:Nat):Int))∧T 11=(V.ms 11 v2 0 j)∧T 12=(V.ms 12 w2 0 j)∧T 14=(V.mp 14 (v14+1) 0 0)∧T 15=(iV ((k:Nat):Int))∧T 26=(iV ((ins.length:Nat):Int))∧T 27=(iV ((j:Nat):Int))∧T 49=(V.bool (decide ((((k:Nat):Int) < ((Q.1.length:Nat):Int))∧(¬((nth Q.1 k)=(rsN m ins (nth Q.1 i).toNat j)∧(0:Int)=(0:Int))))))∧H 4=(bk 1 137 2 [[(iV m.s),(iV 0)]])∧H 6=bNq∧H 8=(bk 1 24 4 [[(iV ((ins.length:Nat):Int)),(iV 0),(V.ms 812 v 0 i),(V.ms 813 w 0 i)]])∧H 11=(bz v2 3 1 (List.map cI (tbl (dJ (rsM m ins) i) j)))∧H 12=(bz w2 3 1 (List.map cI (tbl (fS (rsM m ins) i) j)))∧H 14=(bk (v14+1) 139 3 [[(iV (rsN m ins (nth Q.1 i).toNat j)),(iV 0),(iV (rsO m ins (nth Q.1 i).toNat j))]])∧H 19=(bk u2 137 2 (List.map nZ Q.1))∧H 812=(bz v 25 1 (List.map cL (tbl (tNx (rsM m ins)) i)))∧H 813=(bz w 25 1 (List.map cL (tbl (tOt (rsM m ins)) i)))∧True) ?_ ?_
   ·
    by_cases g11:((k:Nat):Int) < ((Q.1.length:Nat):Int)
    ·
     refine aM (edT g11 rfl) (aA t9 (aM (edT g11 rfl) (aA t15 (aM (edT g11 rfl) (bR (i:=k) (rVq (V.ms 19 u2 0 Q.1.length)) (rNq k) h19 oB rfl (by omega) (aM (edT g11 rfl) (bL (v:=(V.agg [(iV (nth Q.1 k)),(iV 0)])) rfl h19 (cJ (by omega) (by rfl)) ?_)))))))
     refine aM (edT g11 rfl) (aZ t14 h14 (aM (edT g11 rfl) (aS rfl h14 rfl rfl (aM (edT g11 rfl) (aPT rfl rfl (bY (edT g11 rfl) rfl ?_))))))
     exact ⟨t0,t2,t6,t8,t9,t10,t11,t12,t14,t15,t26,t27,(jW g11),h4,h6,h8,h11,h12,h14,h19,h812,h813,trivial⟩
    ·
     refine G_n (edF g11 rfl) (G_n (edF g11 rfl) (G_n (edF g11 rfl) (G_n (edF g11 rfl) (G_n (edF g11 rfl) (G_n (edF g11 rfl) (G_n (edF g11 rfl) (bX (edF g11 rfl) rfl ?_)))))))
     exact ⟨t0,t2,t6,t8,t9,t10,t11,t12,t14,t15,t26,t27,(jT g11),h4,h6,h8,h11,h12,h14,h19,h812,h813,trivial⟩
   intro T H ⟨t0,t2,t6,t8,t9,t10,t11,t12,t14,t15,t26,t27,t49,h4,h6,h8,h11,h12,h14,h19,h812,h813,_⟩
   refine R_e ?_
   refine aJ t49 (fun c12=>?_) fun c12=>?_
   ·
    have k1:k < Q.1.length∧nth Q.1 k≠(rsN m ins (nth Q.1 i).toNat j):=by have z:=c12; simpa using z
    refine aE (iK fun Q13 n13 x13 y13 z13=>(W_t (aA t15 (aU rfl (rNq 1) (by omega) (aA rfl (R_e (n13 _ _ ?_)))))))
    refine p110 _ _ _ ?_ ⟨(k+1),rfl,t0,t2,t6,t8,t9,t10,t11,t12,t14,(eTq (rNq (k+1)) (by rfl)),t26,t27,h4,h6,h8,h11,h12,h14,h19,h812,h813,?_,?_⟩
    · omega
    · omega
    · intro q hq
      by_cases e:q=k
      · subst e; exact k1.2
      · exact hc q (by omega)
   have k1:Q.1.length≤k∨nth Q.1 k=(rsN m ins (nth Q.1 i).toNat j):=by
     by_cases e:k < Q.1.length
     · right; have z:=c12; simpa [e] using z
     · left; omega
   refine aN (p310 _ _ _ (x9 _ _ (.done (aB (W_r (aA t15 (aA t9 ?_)))))))
   refine cS rfl h19 (by simp) (fC rfl rfl (R_e ?_))
   refine aJ rfl (fun c14=>?_) fun c14=>?_
   ·
    have n1:(rsN m ins (nth Q.1 i).toNat j)∉Q.1:=sZ fun q hq=>hc q (by omega)
    obtain ⟨g1,g2,g3,g4⟩:=b5 n1
    have kx:((k:Nat):Int)=dJ (rsM m ins) i j:=by rw [← g3]; omega
    refine W_r (aA t9 (aZ t14 h14 (aS rfl h14 rfl rfl (bM rfl rfl (bK (l:=Q.1) (f:=nZ) (x:=(rsN m ins (nth Q.1 i).toNat j)) (rVq (V.ms 19 u2 0 Q.1.length)) h19 (by rfl) (rVq (V.sl [[(iV (rsN m ins (nth Q.1 i).toNat j)),(iV 0)]])) rfl rfl (by omega) (by omega) (aA rfl (R_e ?_)))))))
    refine aB (W_r (aA rfl (cS rfl (@rfl Blk (bk (u2+1) 137 2 (List.map nZ (Q.1++[(rsN m ins (nth Q.1 i).toNat j)])))) (by simp) (iQ rfl rfl (aA rfl ?_)))))
    refine bW 4 (fun T H=>T 0=(iV ((ins.length:Nat):Int))∧T 2=(V.fn 71 [] [(V.pp [(iV m.i),(iV m.s),(aD m.nx),(aD m.ot)]),(V.pp [(aG ins)])])∧T 6=(mPq 6)∧T 8=(mPq 8)∧T 9=(V.ms 19 (u2+1) 0 (Q.1.length+1))∧T 10=(iV ((i:Nat):Int))∧T 11=(V.ms 11 v2 0 j)∧T 12=(V.ms 12 w2 0 j)∧T 14=(V.mp 14 (v14+1) 0 0)∧T 15=(iV ((k:Nat):Int))∧T 26=(iV ((ins.length:Nat):Int))∧T 27=(iV ((j:Nat):Int))∧T 68=(V.bool (decide (((128:Int) < ((Q.1.length+1:Nat):Int))∨((1048576:Int) < (rsO m ins (nth Q.1 i).toNat j)))))∧H 4=(bk 1 137 2 [[(iV m.s),(iV 0)]])∧H 6=bNq∧H 8=(bk 1 24 4 [[(iV ((ins.length:Nat):Int)),(iV 0),(V.ms 812 v 0 i),(V.ms 813 w 0 i)]])∧H 11=(bz v2 3 1 (List.map cI (tbl (dJ (rsM m ins) i) j)))∧H 12=(bz w2 3 1 (List.map cI (tbl (fS (rsM m ins) i) j)))∧H 14=(bk (v14+1) 139 3 [[(iV (rsN m ins (nth Q.1 i).toNat j)),(iV 0),(iV (rsO m ins (nth Q.1 i).toNat j))]])∧H 19=(bk (u2+1) 137 2 (List.map nZ (Q.1++[(rsN m ins (nth Q.1 i).toNat j)])))∧H 812=(bz v 25 1 (List.map cL (tbl (tNx (rsM m ins)) i)))∧H 813=(bz w 25 1 (List.map cL (tbl (tOt (rsM m ins)) i)))∧True) ?_ ?_
    ·
     by_cases g15:(128:Int) < ((Q.1.length+1:Nat):Int)
     ·
      refine G_n (edT g15 rfl) (G_n (edT g15 rfl) (G_n (edT g15 rfl) (bY (edT g15 rfl) rfl ?_)))
      exact ⟨t0,t2,t6,t8,rfl,t10,t11,t12,t14,t15,t26,t27,(dY g15),h4,h6,h8,h11,h12,h14,rfl,h812,h813,trivial⟩
     ·
      refine aM (edF g15 rfl) (aZ t14 h14 (aM (edF g15 rfl) (aS rfl h14 rfl rfl (aM (edF g15 rfl) (iQ rfl rfl (bX (edF g15 rfl) rfl ?_))))))
      exact ⟨t0,t2,t6,t8,rfl,t10,t11,t12,t14,t15,t26,t27,(dX g15),h4,h6,h8,h11,h12,h14,rfl,h812,h813,trivial⟩
    intro T H ⟨t0,t2,t6,t8,t9,t10,t11,t12,t14,t15,t26,t27,t68,h4,h6,h8,h11,h12,h14,h19,h812,h813,_⟩
    refine R_e ?_
    refine aJ t68 (fun c16=>?_) fun c16=>?_
    · exfalso; have z:=c16; first|omega|(simp at z; omega)|(rw [List.length_append] at z; simp at z; omega)
    refine aE (W_r (aA t11 (aA t15 (bM rfl rfl (bK (l:=(tbl (dJ (rsM m ins) i) j)) (f:=cI) (x:=((k:Nat):Int)) (rVq (V.ms 11 v2 0 j)) h11 (by exact (aP _ _).symm) (rVq (V.sl [[(iV ((k:Nat):Int))]])) rfl rfl (by omega) (by omega) (aA rfl (R_e ?_)))))))
    refine W_t (aA t12 (aZ t14 h14 (aS rfl h14 rfl rfl (bM rfl rfl (bK (l:=(tbl (fS (rsM m ins) i) j)) (f:=cI) (x:=(rsO m ins (nth Q.1 i).toNat j)) (rVq (V.ms 12 w2 0 j)) h12 (by exact (aP _ _).symm) (rVq (V.sl [[(iV (rsO m ins (nth Q.1 i).toNat j))]])) rfl rfl (by omega) (by omega) (aA rfl (R_e ?_)))))))
    refine n8 _ _ (bF (R:=fun T H=>T 0=(iV ((ins.length:Nat):Int))∧T 2=(V.fn 71 [] [(V.pp [(iV m.i),(iV m.s),(aD m.nx),(aD m.ot)]),(V.pp [(aG ins)])])∧T 6=(mPq 6)∧T 8=(mPq 8)∧T 9=(V.ms 19 (u2+1) 0 (Q.1.length+1))∧T 10=(iV ((i:Nat):Int))∧T 11=(V.ms 11 (v2+1) 0 (j+1))∧T 12=(V.ms 12 (w2+1) 0 (j+1))∧T 26=(iV ((ins.length:Nat):Int))∧T 27=(iV ((j:Nat):Int))∧H 4=(bk 1 137 2 [[(iV m.s),(iV 0)]])∧H 6=bNq∧H 8=(bk 1 24 4 [[(iV ((ins.length:Nat):Int)),(iV 0),(V.ms 812 v 0 i),(V.ms 813 w 0 i)]])∧H 11=(bz (v2+1) 3 1 (List.map cI (tbl (dJ (rsM m ins) i) j++[((k:Nat):Int)])))∧H 12=(bz (w2+1) 3 1 (List.map cI (tbl (fS (rsM m ins) i) j++[(rsO m ins (nth Q.1 i).toNat j)])))∧H 14=(bk (v14+1) 139 3 [[(iV (rsN m ins (nth Q.1 i).toNat j)),(iV 0),(iV (rsO m ins (nth Q.1 i).toNat j))]])∧H 19=(bk (u2+1) 137 2 (List.map nZ (Q.1++[(rsN m ins (nth Q.1 i).toNat j)])))∧H 812=(bz v 25 1 (List.map cL (tbl (tNx (rsM m ins)) i)))∧H 813=(bz w 25 1 (List.map cL (tbl (tOt (rsM m ins)) i)))∧True) ⟨t0,t2,t6,t8,t9,t10,(rVq (V.ms 11 (v2+1) 0 (j+1))),(rVq (V.ms 12 (w2+1) 0 (j+1))),t26,t27,h4,h6,h8,rfl,rfl,h14,h19,h812,h813,trivial⟩ ?_)
    intro T H ⟨t0,t2,t6,t8,t9,t10,t11,t12,t26,t27,h4,h6,h8,h11,h12,h14,h19,h812,h813,_⟩
    refine .freeze 14 (.done ?_)
    refine bF (R:=fun T H=>T 0=(iV ((ins.length:Nat):Int))∧T 2=(V.fn 71 [] [(V.pp [(iV m.i),(iV m.s),(aD m.nx),(aD m.ot)]),(V.pp [(aG ins)])])∧T 6=(mPq 6)∧T 8=(mPq 8)∧T 9=(V.ms 19 (u2+1) 0 (Q.1.length+1))∧T 10=(iV ((i:Nat):Int))∧T 11=(V.ms 11 (v2+1) 0 (j+1))∧T 12=(V.ms 12 (w2+1) 0 (j+1))∧T 26=(iV ((ins.length:Nat):Int))∧T 27=(iV ((j:Nat):Int))∧H 4=(bk 1 137 2 [[(iV m.s),(iV 0)]])∧H 6=bNq∧H 8=(bk 1 24 4 [[(iV ((ins.length:Nat):Int)),(iV 0),(V.ms 812 v 0 i),(V.ms 813 w 0 i)]])∧H 11=(bz (v2+1) 3 1 (List.map cI (tbl (dJ (rsM m ins) i) j++[((k:Nat):Int)])))∧H 12=(bz (w2+1) 3 1 (List.map cI (tbl (fS (rsM m ins) i) j++[(rsO m ins (nth Q.1 i).toNat j)])))∧((H 14).ver=v14+1∧(H 14).live=false)∧H 19=(bk (u2+1) 137 2 (List.map nZ (Q.1++[(rsN m ins (nth Q.1 i).toNat j)])))∧H 812=(bz v 25 1 (List.map cL (tbl (tNx (rsM m ins)) i)))∧H 813=(bz w 25 1 (List.map cL (tbl (tOt (rsM m ins)) i)))∧True) ⟨(aL t0 rfl),(aL t2 rfl),(aL t6 rfl),(aL t8 rfl),(aL t9 (bV (by decide))),(aL t10 rfl),(aL t11 (bV (by decide))),(aL t12 (bV (by decide))),(aL t26 rfl),(aL t27 rfl),(aK h4 (by decide)),(aK h6 (by decide)),(aK h8 (by decide)),(aK h11 (by decide)),(aK h12 (by decide)),(bG (cVq h14)),(aK h19 (by decide)),(aK h812 (by decide)),(aK h813 (by decide)),trivial⟩ ?_
    intro T H ⟨t0,t2,t6,t8,t9,t10,t11,t12,t26,t27,h4,h6,h8,h11,h12,h14,h19,h812,h813,_⟩
    refine W_t (aU t27 (rNq 1) (by omega) (aA rfl (R_e ?_)))
    refine p16 _ _ _ ?_ ⟨(j+1),(v2+1),(w2+1),(u2+1),(fH Q (rsN m ins (nth Q.1 i).toNat j)),(v14+1),rfl,t0,t2,t6,t8,(eTq t9 (by (rw [g2,List.length_append]; first|done|rfl))),t10,(eTq t11 (by rfl)),(eTq t12 (by rfl)),t26,(eTq (rNq (j+1)) (by rfl)),h4,h6,h8,(eTq h11 (by (rw [cE,← kx]; first|done|rfl))),(eTq h12 (by (rw [cE,← b3]; first|done|rfl))),h14,(eTq h19 (by (rw [g2]; first|done|rfl))),h812,h813,?_,?_⟩
    · omega
    · omega
    · exact g1
   have n2:nth Q.1 k=(rsN m ins (nth Q.1 i).toNat j):=k1.resolve_left (by omega)
   obtain ⟨g1,g3⟩:=b4 (n2 ▸ aY (show k < Q.1.length by omega))
   have kx:((k:Nat):Int)=dJ (rsM m ins) i j:=by rw [← g3,aDP (show k < Q.1.length by omega) n2 hc]
   refine aE (aB (W_r (aA t9 (cS rfl h19 (by simp) (iQ rfl rfl (aA rfl ?_))))))
   refine bW 4 (fun T H=>T 0=(iV ((ins.length:Nat):Int))∧T 2=(V.fn 71 [] [(V.pp [(iV m.i),(iV m.s),(aD m.nx),(aD m.ot)]),(V.pp [(aG ins)])])∧T 6=(mPq 6)∧T 8=(mPq 8)∧T 9=(V.ms 19 u2 0 Q.1.length)∧T 10=(iV ((i:Nat):Int))∧T 11=(V.ms 11 v2 0 j)∧T 12=(V.ms 12 w2 0 j)∧T 14=(V.mp 14 (v14+1) 0 0)∧T 15=(iV ((k:Nat):Int))∧T 26=(iV ((ins.length:Nat):Int))∧T 27=(iV ((j:Nat):Int))∧T 68=(V.bool (decide (((128:Int) < ((Q.1.length:Nat):Int))∨((1048576:Int) < (rsO m ins (nth Q.1 i).toNat j)))))∧H 4=(bk 1 137 2 [[(iV m.s),(iV 0)]])∧H 6=bNq∧H 8=(bk 1 24 4 [[(iV ((ins.length:Nat):Int)),(iV 0),(V.ms 812 v 0 i),(V.ms 813 w 0 i)]])∧H 11=(bz v2 3 1 (List.map cI (tbl (dJ (rsM m ins) i) j)))∧H 12=(bz w2 3 1 (List.map cI (tbl (fS (rsM m ins) i) j)))∧H 14=(bk (v14+1) 139 3 [[(iV (rsN m ins (nth Q.1 i).toNat j)),(iV 0),(iV (rsO m ins (nth Q.1 i).toNat j))]])∧H 19=(bk u2 137 2 (List.map nZ Q.1))∧H 812=(bz v 25 1 (List.map cL (tbl (tNx (rsM m ins)) i)))∧H 813=(bz w 25 1 (List.map cL (tbl (tOt (rsM m ins)) i)))∧True) ?_ ?_
   ·
    by_cases g17:(128:Int) < ((Q.1.length:Nat):Int)
    ·
     refine G_n (edT g17 rfl) (G_n (edT g17 rfl) (G_n (edT g17 rfl) (bY (edT g17 rfl) rfl ?_)))
     exact ⟨t0,t2,t6,t8,t9,t10,t11,t12,t14,t15,t26,t27,(dY g17),h4,h6,h8,h11,h12,h14,h19,h812,h813,trivial⟩
    ·
     refine aM (edF g17 rfl) (aZ t14 h14 (aM (edF g17 rfl) (aS rfl h14 rfl rfl (aM (edF g17 rfl) (iQ rfl rfl (bX (edF g17 rfl) rfl ?_))))))
     exact ⟨t0,t2,t6,t8,t9,t10,t11,t12,t14,t15,t26,t27,(dX g17),h4,h6,h8,h11,h12,h14,h19,h812,h813,trivial⟩
   intro T H ⟨t0,t2,t6,t8,t9,t10,t11,t12,t14,t15,t26,t27,t68,h4,h6,h8,h11,h12,h14,h19,h812,h813,_⟩
   refine R_e ?_
   refine aJ t68 (fun c18=>?_) fun c18=>?_
   · exfalso; have z:=c18; first|omega|(simp at z; omega)|(rw [List.length_append] at z; simp at z; omega)
   refine aE (W_r (aA t11 (aA t15 (bM rfl rfl (bK (l:=(tbl (dJ (rsM m ins) i) j)) (f:=cI) (x:=((k:Nat):Int)) (rVq (V.ms 11 v2 0 j)) h11 (by exact (aP _ _).symm) (rVq (V.sl [[(iV ((k:Nat):Int))]])) rfl rfl (by omega) (by omega) (aA rfl (R_e ?_)))))))
   refine W_t (aA t12 (aZ t14 h14 (aS rfl h14 rfl rfl (bM rfl rfl (bK (l:=(tbl (fS (rsM m ins) i) j)) (f:=cI) (x:=(rsO m ins (nth Q.1 i).toNat j)) (rVq (V.ms 12 w2 0 j)) h12 (by exact (aP _ _).symm) (rVq (V.sl [[(iV (rsO m ins (nth Q.1 i).toNat j))]])) rfl rfl (by omega) (by omega) (aA rfl (R_e ?_)))))))
   refine n8 _ _ (bF (R:=fun T H=>T 0=(iV ((ins.length:Nat):Int))∧T 2=(V.fn 71 [] [(V.pp [(iV m.i),(iV m.s),(aD m.nx),(aD m.ot)]),(V.pp [(aG ins)])])∧T 6=(mPq 6)∧T 8=(mPq 8)∧T 9=(V.ms 19 u2 0 Q.1.length)∧T 10=(iV ((i:Nat):Int))∧T 11=(V.ms 11 (v2+1) 0 (j+1))∧T 12=(V.ms 12 (w2+1) 0 (j+1))∧T 26=(iV ((ins.length:Nat):Int))∧T 27=(iV ((j:Nat):Int))∧H 4=(bk 1 137 2 [[(iV m.s),(iV 0)]])∧H 6=bNq∧H 8=(bk 1 24 4 [[(iV ((ins.length:Nat):Int)),(iV 0),(V.ms 812 v 0 i),(V.ms 813 w 0 i)]])∧H 11=(bz (v2+1) 3 1 (List.map cI (tbl (dJ (rsM m ins) i) j++[((k:Nat):Int)])))∧H 12=(bz (w2+1) 3 1 (List.map cI (tbl (fS (rsM m ins) i) j++[(rsO m ins (nth Q.1 i).toNat j)])))∧H 14=(bk (v14+1) 139 3 [[(iV (rsN m ins (nth Q.1 i).toNat j)),(iV 0),(iV (rsO m ins (nth Q.1 i).toNat j))]])∧H 19=(bk u2 137 2 (List.map nZ Q.1))∧H 812=(bz v 25 1 (List.map cL (tbl (tNx (rsM m ins)) i)))∧H 813=(bz w 25 1 (List.map cL (tbl (tOt (rsM m ins)) i)))∧True) ⟨t0,t2,t6,t8,t9,t10,(rVq (V.ms 11 (v2+1) 0 (j+1))),(rVq (V.ms 12 (w2+1) 0 (j+1))),t26,t27,h4,h6,h8,rfl,rfl,h14,h19,h812,h813,trivial⟩ ?_)
   intro T H ⟨t0,t2,t6,t8,t9,t10,t11,t12,t26,t27,h4,h6,h8,h11,h12,h14,h19,h812,h813,_⟩
   refine .freeze 14 (.done ?_)
   refine bF (R:=fun T H=>T 0=(iV ((ins.length:Nat):Int))∧T 2=(V.fn 71 [] [(V.pp [(iV m.i),(iV m.s),(aD m.nx),(aD m.ot)]),(V.pp [(aG ins)])])∧T 6=(mPq 6)∧T 8=(mPq 8)∧T 9=(V.ms 19 u2 0 Q.1.length)∧T 10=(iV ((i:Nat):Int))∧T 11=(V.ms 11 (v2+1) 0 (j+1))∧T 12=(V.ms 12 (w2+1) 0 (j+1))∧T 26=(iV ((ins.length:Nat):Int))∧T 27=(iV ((j:Nat):Int))∧H 4=(bk 1 137 2 [[(iV m.s),(iV 0)]])∧H 6=bNq∧H 8=(bk 1 24 4 [[(iV ((ins.length:Nat):Int)),(iV 0),(V.ms 812 v 0 i),(V.ms 813 w 0 i)]])∧H 11=(bz (v2+1) 3 1 (List.map cI (tbl (dJ (rsM m ins) i) j++[((k:Nat):Int)])))∧H 12=(bz (w2+1) 3 1 (List.map cI (tbl (fS (rsM m ins) i) j++[(rsO m ins (nth Q.1 i).toNat j)])))∧((H 14).ver=v14+1∧(H 14).live=false)∧H 19=(bk u2 137 2 (List.map nZ Q.1))∧H 812=(bz v 25 1 (List.map cL (tbl (tNx (rsM m ins)) i)))∧H 813=(bz w 25 1 (List.map cL (tbl (tOt (rsM m ins)) i)))∧True) ⟨(aL t0 rfl),(aL t2 rfl),(aL t6 rfl),(aL t8 rfl),(aL t9 (bV (by decide))),(aL t10 rfl),(aL t11 (bV (by decide))),(aL t12 (bV (by decide))),(aL t26 rfl),(aL t27 rfl),(aK h4 (by decide)),(aK h6 (by decide)),(aK h8 (by decide)),(aK h11 (by decide)),(aK h12 (by decide)),(bG (cVq h14)),(aK h19 (by decide)),(aK h812 (by decide)),(aK h813 (by decide)),trivial⟩ ?_
   intro T H ⟨t0,t2,t6,t8,t9,t10,t11,t12,t26,t27,h4,h6,h8,h11,h12,h14,h19,h812,h813,_⟩
   refine W_t (aU t27 (rNq 1) (by omega) (aA rfl (R_e ?_)))
   refine p16 _ _ _ ?_ ⟨(j+1),(v2+1),(w2+1),u2,Q,(v14+1),rfl,t0,t2,t6,t8,t9,t10,(eTq t11 (by rfl)),(eTq t12 (by rfl)),t26,(eTq (rNq (j+1)) (by rfl)),h4,h6,h8,(eTq h11 (by (rw [cE,← kx]; first|done|rfl))),(eTq h12 (by (rw [cE,← b3]; first|done|rfl))),h14,h19,h812,h813,?_,?_⟩
   · omega
   · omega
   · exact g1
  have f1:=hQ.fin hR hP (by omega) (show ¬((j:Nat):Int) < ((ins.length:Nat):Int) by omega)
  have ej:tNx (rsM m ins) i=tbl (dJ (rsM m ins) i) j:=by unfold tNx; rw [show (rsM m ins).i.toNat=j from by show ((ins.length:Nat):Int).toNat=j; omega]
  have eo:tOt (rsM m ins) i=tbl (fS (rsM m ins) i) j:=by unfold tOt; rw [show (rsM m ins).i.toNat=j from by show ((ins.length:Nat):Int).toNat=j; omega]
  refine aN (p36 _ _ _ (x5 _ _ (bF (R:=fun T H=>T 0=(iV ((ins.length:Nat):Int))∧T 2=(V.fn 71 [] [(V.pp [(iV m.i),(iV m.s),(aD m.nx),(aD m.ot)]),(V.pp [(aG ins)])])∧T 6=(mPq 6)∧T 8=(mPq 8)∧T 9=(V.ms 19 u2 0 Q.1.length)∧T 10=(iV ((i:Nat):Int))∧T 11=(V.ms 11 v2 0 j)∧T 12=(V.ms 12 w2 0 j)∧T 26=(iV ((ins.length:Nat):Int))∧T 27=(iV ((j:Nat):Int))∧T 28=(V.bool (decide (((j:Nat):Int) < ((ins.length:Nat):Int))))∧H 4=(bk 1 137 2 [[(iV m.s),(iV 0)]])∧H 6=bNq∧H 8=(bk 1 24 4 [[(iV ((ins.length:Nat):Int)),(iV 0),(V.ms 812 v 0 i),(V.ms 813 w 0 i)]])∧H 11=(bz v2 3 1 (List.map cI (tbl (dJ (rsM m ins) i) j)))∧H 12=(bz w2 3 1 (List.map cI (tbl (fS (rsM m ins) i) j)))∧((H 14).ver=v14∧(H 14).live=false)∧H 19=(bk u2 137 2 (List.map nZ Q.1))∧H 812=(bz v 25 1 (List.map cL (tbl (tNx (rsM m ins)) i)))∧H 813=(bz w 25 1 (List.map cL (tbl (tOt (rsM m ins)) i)))∧True) ⟨t0,t2,t6,t8,t9,t10,t11,t12,t26,t27,(rVq (V.bool (decide (((j:Nat):Int) < ((ins.length:Nat):Int))))),h4,h6,h8,h11,h12,h14,h19,h812,h813,trivial⟩ ?_)))
  intro T H ⟨t0,t2,t6,t8,t9,t10,t11,t12,t26,t27,t28,h4,h6,h8,h11,h12,h14,h19,h812,h813,_⟩
  refine .freeze 11 (.done ?_)
  refine bF (R:=fun T H=>T 0=(iV ((ins.length:Nat):Int))∧T 2=(V.fn 71 [] [(V.pp [(iV m.i),(iV m.s),(aD m.nx),(aD m.ot)]),(V.pp [(aG ins)])])∧T 6=(mPq 6)∧T 8=(mPq 8)∧T 9=(V.ms 19 u2 0 Q.1.length)∧T 10=(iV ((i:Nat):Int))∧T 11=(aG (tbl (dJ (rsM m ins) i) j))∧T 12=(V.ms 12 w2 0 j)∧T 26=(iV ((ins.length:Nat):Int))∧T 27=(iV ((j:Nat):Int))∧T 28=(V.bool (decide (((j:Nat):Int) < ((ins.length:Nat):Int))))∧H 4=(bk 1 137 2 [[(iV m.s),(iV 0)]])∧H 6=bNq∧H 8=(bk 1 24 4 [[(iV ((ins.length:Nat):Int)),(iV 0),(V.ms 812 v 0 i),(V.ms 813 w 0 i)]])∧((H 11).ver=v2∧(H 11).live=false)∧H 12=(bz w2 3 1 (List.map cI (tbl (fS (rsM m ins) i) j)))∧((H 14).ver=v14∧(H 14).live=false)∧H 19=(bk u2 137 2 (List.map nZ Q.1))∧H 812=(bz v 25 1 (List.map cL (tbl (tNx (rsM m ins)) i)))∧H 813=(bz w 25 1 (List.map cL (tbl (tOt (rsM m ins)) i)))∧True) ⟨(aL t0 rfl),(aL t2 rfl),(aL t6 rfl),(aL t8 rfl),(aL t9 (bV (by decide))),(aL t10 rfl),(aL t11 (fR h11 (by simp) (l:=(tbl (dJ (rsM m ins) i) j)) rfl (by exact (aP _ _).symm))),(aL t12 (bV (by decide))),(aL t26 rfl),(aL t27 rfl),(aL t28 rfl),(aK h4 (by decide)),(aK h6 (by decide)),(aK h8 (by decide)),(bG (cVq h11)),(aK h12 (by decide)),(bU h14),(aK h19 (by decide)),(aK h812 (by decide)),(aK h813 (by decide)),trivial⟩ ?_
  intro T H ⟨t0,t2,t6,t8,t9,t10,t11,t12,t26,t27,t28,h4,h6,h8,h11,h12,h14,h19,h812,h813,_⟩
  refine fQ (fun T H=>T 0=(iV ((ins.length:Nat):Int))∧T 2=(V.fn 71 [] [(V.pp [(iV m.i),(iV m.s),(aD m.nx),(aD m.ot)]),(V.pp [(aG ins)])])∧T 6=(mPq 6)∧T 8=(mPq 8)∧T 9=(V.ms 19 u2 0 Q.1.length)∧T 10=(iV ((i:Nat):Int))∧T 12=(V.ms 12 w2 0 j)∧H 4=(bk 1 137 2 [[(iV m.s),(iV 0)]])∧H 6=bNq∧H 8=(bk 1 24 4 [[(iV ((ins.length:Nat):Int)),(iV 0),(V.ms 812 (v+1) 0 (i+1)),(V.ms 813 w 0 i)]])∧((H 11).ver=v2∧(H 11).live=false)∧H 12=(bz w2 3 1 (List.map cI (tbl (fS (rsM m ins) i) j)))∧((H 14).ver=v14∧(H 14).live=false)∧H 19=(bk u2 137 2 (List.map nZ Q.1))∧H 812=(bz (v+1) 25 1 (List.map cL (tbl (tNx (rsM m ins)) i++[tbl (dJ (rsM m ins) i) j])))∧H 813=(bz w 25 1 (List.map cL (tbl (tOt (rsM m ins)) i)))∧True) ?_ ?_
  ·
   refine aZ t8 h8 (aS rfl h8 rfl rfl (aA t11 (bM rfl rfl (bK (l:=(tbl (tNx (rsM m ins)) i)) (f:=cL) (x:=(tbl (dJ (rsM m ins) i) j)) (rVq (V.ms 812 v 0 i)) h812 (by exact (aP _ _).symm) (rVq (V.sl [[(aG (tbl (dJ (rsM m ins) i) j))]])) rfl rfl (by omega) (by omega) (aZ t8 h8 (bC (vs:=[(V.ms 812 (v+1) 0 (i+1))]) (B':=(bk 1 24 4 [[(iV ((ins.length:Nat):Int)),(iV 0),(V.ms 812 (v+1) 0 (i+1)),(V.ms 813 w 0 i)]])) rfl rfl rfl h8 (sB oB rfl rfl rfl rfl rfl) ?_))))))
   exact eE ⟨t0,t2,t6,t8,t9,t10,t12,h4,h6,rfl,h11,h12,h14,h19,rfl,h813,trivial⟩
  intro T H ⟨t0,t2,t6,t8,t9,t10,t12,h4,h6,h8,h11,h12,h14,h19,h812,h813,_⟩
  refine .freeze 12 (.done ?_)
  refine bF (R:=fun T H=>T 0=(iV ((ins.length:Nat):Int))∧T 2=(V.fn 71 [] [(V.pp [(iV m.i),(iV m.s),(aD m.nx),(aD m.ot)]),(V.pp [(aG ins)])])∧T 6=(mPq 6)∧T 8=(mPq 8)∧T 9=(V.ms 19 u2 0 Q.1.length)∧T 10=(iV ((i:Nat):Int))∧T 12=(aG (tbl (fS (rsM m ins) i) j))∧H 4=(bk 1 137 2 [[(iV m.s),(iV 0)]])∧H 6=bNq∧H 8=(bk 1 24 4 [[(iV ((ins.length:Nat):Int)),(iV 0),(V.ms 812 (v+1) 0 (i+1)),(V.ms 813 w 0 i)]])∧((H 11).ver=v2∧(H 11).live=false)∧((H 12).ver=w2∧(H 12).live=false)∧((H 14).ver=v14∧(H 14).live=false)∧H 19=(bk u2 137 2 (List.map nZ Q.1))∧H 812=(bz (v+1) 25 1 (List.map cL (tbl (tNx (rsM m ins)) i++[tbl (dJ (rsM m ins) i) j])))∧H 813=(bz w 25 1 (List.map cL (tbl (tOt (rsM m ins)) i)))∧True) ⟨(aL t0 rfl),(aL t2 rfl),(aL t6 rfl),(aL t8 rfl),(aL t9 (bV (by decide))),(aL t10 rfl),(aL t12 (fR h12 (by simp) (l:=(tbl (fS (rsM m ins) i) j)) rfl (by exact (aP _ _).symm))),(aK h4 (by decide)),(aK h6 (by decide)),(aK h8 (by decide)),(bU h11),(bG (cVq h12)),(bU h14),(aK h19 (by decide)),(aK h812 (by decide)),(aK h813 (by decide)),trivial⟩ ?_
  intro T H ⟨t0,t2,t6,t8,t9,t10,t12,h4,h6,h8,h11,h12,h14,h19,h812,h813,_⟩
  refine W_t (aZ t8 h8 (aS rfl h8 rfl rfl (aA t12 (bM rfl rfl (bK (l:=(tbl (tOt (rsM m ins)) i)) (f:=cL) (x:=(tbl (fS (rsM m ins) i) j)) (rVq (V.ms 813 w 0 i)) h813 (by exact (aP _ _).symm) (rVq (V.sl [[(aG (tbl (fS (rsM m ins) i) j))]])) rfl rfl (by omega) (by omega) (aZ t8 h8 (bC (vs:=[(V.ms 813 (w+1) 0 (i+1))]) (B':=(bk 1 24 4 [[(iV ((ins.length:Nat):Int)),(iV 0),(V.ms 812 (v+1) 0 (i+1)),(V.ms 813 (w+1) 0 (i+1))]])) rfl rfl rfl h8 (sB oB rfl rfl rfl rfl rfl) ?_)))))))
  refine R_e (n4 _ _ (.done (W_t (aA t10 (aU rfl (rNq 1) (by omega) (aA rfl (R_e ?_)))))))
  refine p12 _ _ _ ?_ ⟨(i+1),(v+1),(w+1),u2,Q,v2,w2,v14,rfl,t0,t2,t6,t8,t9,(eTq (rNq (i+1)) (by rfl)),h4,h6,(eTq (@rfl Blk (bk 1 24 4 [[(iV ((ins.length:Nat):Int)),(iV 0),(V.ms 812 (v+1) 0 (i+1)),(V.ms 813 (w+1) 0 (i+1))]])) (by rfl)),h11,h12,h14,h19,(eTq h812 (by (rw [cE,ej]; first|done|rfl))),(eTq (@rfl Blk (bz (w+1) 25 1 (List.map cL (tbl (tOt (rsM m ins)) i++[tbl (fS (rsM m ins) i) j])))) (by (rw [cE,eo]; first|done|rfl))),?_⟩
  · omega
  · exact f1
 have e8:=hP.end hR (by omega)
 refine aN (p32 _ _ _ (x1 _ _ (.done (W_r (aS t8 h8 rfl rfl (bC (vs:=[(iV ((ins.length:Nat):Int)),(iV 0),(V.ms 812 v 0 i),(V.ms 813 w 0 i)]) (B':=(bk 1 24 4 [[(iV ((ins.length:Nat):Int)),(iV 0),(V.ms 812 v 0 i),(V.ms 813 w 0 i)]])) t6 rfl rfl h6 (sB oB rfl rfl rfl rfl rfl) (aA rfl ?_)))))))
 refine R_e (bN ?_)
 refine jS (gT (u:=(V.agg [(iV ((ins.length:Nat):Int)),(iV 0),(V.ms 812 v 0 i),(V.ms 813 w 0 i)])) t6 (@rfl Blk (bk 1 24 4 [[(iV ((ins.length:Nat):Int)),(iV 0),(V.ms 812 v 0 i),(V.ms 813 w 0 i)]])) (lB oB rfl rfl)) (jM (rVq (iV 0))) (iM (bZ (aW ?_) (bZ (aW ?_) (bZ (gD h812 (by simp) (l:=(tbl (tNx (rsM m ins)) i)) rfl (by exact (aP _ _).symm) (fun _=>by simp) ?_) (bZ (gD h813 (by simp) (l:=(tbl (tOt (rsM m ins)) i)) rfl (by exact (aP _ _).symm) (fun _=>by simp) ?_) rfl))))) (dE (by simp) rfl)
 · rw [wW hR,eJ hR]; try first|rfl|(rw [← e8]; done)|(rw [← e8]; rfl)
 · rw [wW hR,eJ hR]; try first|rfl|(rw [← e8]; done)|(rw [← e8]; rfl)
 · rw [wW hR,eJ hR]; try first|rfl|(rw [← e8]; done)|(rw [← e8]; rfl)
 · rw [wW hR,eJ hR]; try first|rfl|(rw [← e8]; done)|(rw [← e8]; rfl)
theorem aDy (m:M) (ins:List Int) (hm:bD m=0) (hv:rsV m ins):bA Tryz.prog 45 [(V.agg [(iV m.i),(iV m.s),(aD m.nx),(aD m.ot)]),(aG ins)] (V.tup [(V.agg [(iV ((trR (rsM m ins)).i)),(iV ((trR (rsM m ins)).s)),(aD ((trR (rsM m ins)).nx)),(aD ((trR (rsM m ins)).ot))]),(iV 0)]):=by
 refine pW Tryz.func45 aG7 fun hB=>?_
 unfold s45
 dsimp only
 have hl:=aAn hm hv
 refine W_r (dN (i:=2) (n:=0) (m:=4) (cs:=[(iV m.i),(iV m.s),(aD m.nx),(aD m.ot)]) rfl (cVq rfl) rfl rfl rfl (dN (i:=3) (n:=0) (m:=1) (cs:=[(aG ins)]) rfl (cVq rfl) rfl rfl rfl (cQ (i:=4) (n:=0) (m:=4) rfl (cVq rfl) rfl (aA rfl (R_e (aB (W_r ?_)))))))
 refine aS rfl rfl rfl rfl (aV (iR m) rfl (aA rfl (R_e (aB (W_r (aA rfl (dD rfl rfl ?_)))))))
 refine R_e ?_
 refine aJ rfl (fun c1=>?_) fun c1=>?_
 · exfalso; omega
 refine aE (aB (W_r (aS rfl rfl rfl rfl (bI rfl (fC rfl rfl (R_e ?_))))))
 refine aJ rfl (fun c2=>?_) fun c2=>?_
 · exfalso; have z:=c2; omega
 refine aE (aB (W_r (aS rfl rfl rfl rfl (bI rfl (aA rfl (R_e (aC fun Q3 n3 x3 y3 z3=>?_)))))))
 refine bH (fun mm T H=> ∃ (k:Nat),mm=ins.length - k∧T 2=(mPq 2)∧T 3=(mPq 3)∧T 4=(mPq 4)∧T 19=(aG ins)∧T 20=(iV ((ins.length:Nat):Int))∧T 21=(iV ((k:Nat):Int))∧H 2=(bMq m)∧H 3=(bk 1 25 1 [[(aG ins)]])∧H 4=bNq∧(k≤ins.length)) ?_ ?_
 ·
  refine ⟨_,0,rfl,rfl,rfl,rfl,rfl,rfl,(eTq (rVq (iV 0)) rfl),rfl,rfl,rfl,?_⟩
  · exact Nat.zero_le _
 intro mm T H ⟨k,hmm,t2,t3,t4,t19,t20,t21,h2,h3,h4,hk⟩ Q4 p14 p24 p34
 unfold aM0
 refine W_r (bJ t21 t20 (R_e ?_))
 refine aJ rfl (fun c5=>?_) fun c5=>?_
 ·
  have rk:=hv.2.2 k (by omega)
  refine aE (aC fun Q6 n6 x6 y6 z6=>(W_r (aA t21 (bE (i:=k) t19 t21 (by omega) rfl (aF rfl rfl (aA rfl (aA rfl ?_)))))))
  refine R_e (aB (W_r (aA rfl (bJ rfl rfl (aA rfl ?_)))))
  refine bW 5 (fun T H=>T 2=(mPq 2)∧T 3=(mPq 3)∧T 4=(mPq 4)∧T 7=(iV ((k:Nat):Int))∧T 8=(iV (nth ins k))∧T 19=(aG ins)∧T 20=(iV ((ins.length:Nat):Int))∧T 21=(iV ((k:Nat):Int))∧T 33=(V.bool (decide (((nth ins k) < (0:Int))∨(m.i≤(nth ins k)))))∧H 2=(bMq m)∧H 3=(bk 1 25 1 [[(aG ins)]])∧H 4=bNq∧True) ?_ ?_
  ·
   by_cases g7:(nth ins k) < (0:Int)
   ·
    refine G_n (edT g7 rfl) (G_n (edT g7 rfl) (G_n (edT g7 rfl) (G_n (edT g7 rfl) (bY (edT g7 rfl) rfl ?_))))
    exact ⟨t2,t3,t4,rfl,rfl,t19,t20,t21,(dY g7),h2,h3,h4,trivial⟩
   ·
    refine aM (edF g7 rfl) (aA rfl (aM (edF g7 rfl) (aZ t2 h2 (aM (edF g7 rfl) (aS rfl h2 rfl rfl (aM (edF g7 rfl) (lZ rfl rfl ?_)))))))
    refine bX (edF g7 rfl) rfl ?_
    exact ⟨t2,t3,t4,rfl,rfl,t19,t20,t21,(dX g7),h2,h3,h4,trivial⟩
  intro T H ⟨t2,t3,t4,t7,t8,t19,t20,t21,t33,h2,h3,h4,_⟩
  refine R_e ?_
  refine aJ t33 (fun c8=>?_) fun c8=>?_
  · exfalso; have z:=c8; first|omega|(simp at z; omega)
  refine aE (W_r (aS t3 h3 rfl rfl (aA t7 (aDc (n:=k) (rVq (aG ins)) (rNq k) (by omega) (fun _=>rfl) (aA t8 (aV (uQ (List.take k ins) (nth ins k)) rfl (R_e ?_)))))))
  refine iE rfl (fun c9=>?_) fun c9=>?_
  · exfalso; exact aJn (by omega) hv.2.1 c9
  refine dS (n6 _ _ (.done (W_t (aU t21 (rNq 1) (by omega) (aA rfl (R_e ?_))))))
  refine p14 _ _ _ ?_ ⟨(k+1),rfl,t2,t3,t4,t19,t20,(eTq (rNq (k+1)) (by rfl)),h2,h3,h4,?_⟩
  · omega
  · omega
 refine aN (p34 _ _ _ (x3 _ _ (bF (R:=fun T H=>T 2=(mPq 2)∧T 3=(mPq 3)∧T 4=(mPq 4)∧T 19=(aG ins)∧T 20=(iV ((ins.length:Nat):Int))∧T 21=(iV ((k:Nat):Int))∧T 22=(V.bool (decide (((k:Nat):Int) < ((ins.length:Nat):Int))))∧H 2=(bMq m)∧H 3=(bk 1 25 1 [[(aG ins)]])∧H 4=bNq∧True) ⟨t2,t3,t4,t19,t20,t21,(rVq (V.bool (decide (((k:Nat):Int) < ((ins.length:Nat):Int))))),h2,h3,h4,trivial⟩ ?_)))
 intro T H ⟨t2,t3,t4,t19,t20,t21,t22,h2,h3,h4,_⟩
 refine .freezeP 2 2 1 0 0 [(iV m.i),(iV m.s),(aD m.nx),(aD m.ot)] t2 (by rw [h2]) (by rw [h2]; rfl) (by rw [h2]; rfl) (bF (R:=fun T H=>T 2=(V.pp [(iV m.i),(iV m.s),(aD m.nx),(aD m.ot)])∧T 3=(mPq 3)∧T 4=(mPq 4)∧T 19=(aG ins)∧T 20=(iV ((ins.length:Nat):Int))∧T 21=(iV ((k:Nat):Int))∧T 22=(V.bool (decide (((k:Nat):Int) < ((ins.length:Nat):Int))))∧((H 2).ver=1∧(H 2).live=false)∧H 3=(bk 1 25 1 [[(aG ins)]])∧H 4=bNq∧True) ⟨(aH _ _ _),(uTq t3),(uTq t4),(uTq t19),(uTq t20),(uTq t21),(uTq t22),(bG (cVq h2)),(aK h3 (by decide)),(aK h4 (by decide)),trivial⟩ ?_)
 intro T H ⟨t2,t3,t4,t19,t20,t21,t22,h2,h3,h4,_⟩
 refine .freezeP 3 3 1 0 0 [(aG ins)] t3 (by rw [h3]) (by rw [h3]; rfl) (by rw [h3]; rfl) (.done ?_)
 refine bF (R:=fun T H=>T 2=(V.pp [(iV m.i),(iV m.s),(aD m.nx),(aD m.ot)])∧T 3=(V.pp [(aG ins)])∧T 4=(mPq 4)∧T 19=(aG ins)∧T 20=(iV ((ins.length:Nat):Int))∧T 21=(iV ((k:Nat):Int))∧T 22=(V.bool (decide (((k:Nat):Int) < ((ins.length:Nat):Int))))∧((H 2).ver=1∧(H 2).live=false)∧((H 3).ver=1∧(H 3).live=false)∧H 4=bNq∧True) ⟨(uTq t2),(aH _ _ _),(uTq t4),(uTq t19),(uTq t20),(uTq t21),(uTq t22),(bU h2),(bG (cVq h3)),(aK h4 (by decide)),trivial⟩ ?_
 intro T H ⟨t2,t3,t4,t19,t20,t21,t22,h2,h3,h4,_⟩
 refine W_r (aF t3 rfl (bI rfl (mD (cs':=[(iV m.s),(aD m.nx),(aD m.ot)]) t2 rfl (aF rfl rfl (eL rfl rfl (aIH (cO t2 (cO t3 gG)) (aV (aIa m ins hm hv) rfl ?_)))))))
 refine cK rfl rfl (cK rfl rfl (bC (vs:=[(iV ((trR (rsM m ins)).i)),(iV ((trR (rsM m ins)).s)),(aD ((trR (rsM m ins)).nx)),(aD ((trR (rsM m ins)).ot))]) (B':=(bk 1 24 4 [[(iV ((trR (rsM m ins)).i)),(iV ((trR (rsM m ins)).s)),(aD ((trR (rsM m ins)).nx)),(aD ((trR (rsM m ins)).ot))]])) t4 rfl rfl h4 (sB oB rfl rfl rfl rfl rfl) (aA rfl (R_e (bN ?_)))))
 refine jS (gT (u:=(V.agg [(iV ((trR (rsM m ins)).i)),(iV ((trR (rsM m ins)).s)),(aD ((trR (rsM m ins)).nx)),(aD ((trR (rsM m ins)).ot))])) t4 (@rfl Blk (bk 1 24 4 [[(iV ((trR (rsM m ins)).i)),(iV ((trR (rsM m ins)).s)),(aD ((trR (rsM m ins)).nx)),(aD ((trR (rsM m ins)).ot))]])) (lB oB rfl rfl)) (jM (rVq (iV 0))) (dE (by simp) rfl) (dE (by simp) rfl)
theorem aFS (m:M) (gs:List (List Int)) (hg:gs.length≤4):bA Tryz.prog 20 [(V.agg [(iV m.i),(iV m.s),(aD m.nx),(aD m.ot)]),(aD gs)] (V.tup [(V.sl (List.map mC (fcL m gs))),(iV (fcE m gs))]):=by
 refine pW Tryz.func20 aHD fun hB=>?_
 unfold s20
 dsimp only
 refine W_r (dN (i:=2) (n:=0) (m:=4) (cs:=[(iV m.i),(iV m.s),(aD m.nx),(aD m.ot)]) rfl (cVq rfl) rfl rfl rfl (aA rfl (aA rfl (R_e (W_r (aS rfl rfl rfl rfl (aA rfl ?_)))))))
 refine aV (zJ m gs hg) rfl (aA rfl (cK rfl rfl (cK rfl rfl (cK rfl rfl (aA rfl (aA rfl (aA rfl ?_)))))))
 refine R_e (aB (W_r (aA rfl (dD rfl rfl (R_e ?_)))))
 refine aJ rfl (fun c1=>?_) fun c1=>?_
 ·
  have d0:=c1
  have e1:fcE m gs=(isD m gs).2.2:=by unfold fcE; rw [if_pos d0]
  have e2: ¬fcE m gs=0:=by rw [e1]; exact d0
  refine aB (W_r (aA rfl (aA rfl (aA rfl (R_e (aX ?_))))))
  refine jN (rVq V.nilsl) (rVq (iV ((isD m gs).2.2))) (eB ?_) (aW ?_)
  · rw [fcL,if_neg e2]; try rfl
  · exact e1.symm
 have d0:(isD m gs).2.2=0:=by have z:=c1; omega
 obtain ⟨hm,hp⟩:=aMr d0
 refine aE (aB (W_r (aA rfl (R_e ?_))))
 refine cW rfl (fun c2=>?_) (fun c2=>?_)
 ·
  have d1:(isD m gs).2.1=true:=c2
  have e1:fcE m gs=15:=by unfold fcE; rw [if_neg (by omega),if_pos d1]
  have e2: ¬fcE m gs=0:=by rw [e1]; decide
  refine aB (W_r (aA rfl (aA rfl (R_e (aX ?_)))))
  refine jN (rVq V.nilsl) (rVq (iV 15)) (eB ?_) (aW ?_)
  · rw [fcL,if_neg e2]; try rfl
  · exact e1.symm
 have d1:(isD m gs).2.1=false:=c2
 have e3:fcE m gs=0:=by unfold fcE; rw [if_neg (by omega),if_neg (by rw [d1]; decide)]
 refine aE (W_r (dQ (i:=9) (n:=0) rfl (cVq rfl) (R_e (aB (W_r (aA rfl (bI rfl ?_)))))))
 refine aA rfl (R_e (aC fun Q3 n3 x3 y3 z3=>?_))
 refine bH (fun mm T H=> ∃ (k:Nat) (u:Nat) (v12:Nat) (v14:Nat),mm=gs.length - k∧T 2=(mPq 2)∧T 9=(V.ms 9 u 0 k)∧T 26=(aD gs)∧T 27=(iV ((gs.length:Nat):Int))∧T 28=(iV ((k:Nat):Int))∧H 2=(bMq m)∧H 9=(bz u 24 4 (List.map mC (tbl (fcM m gs) k)))∧((H 12).ver=v12∧(H 12).live=false)∧((H 14).ver=v14∧(H 14).live=false)∧(k≤gs.length)) ?_ ?_
 ·
  refine ⟨_,0,1,0,0,rfl,rfl,rfl,rfl,rfl,(eTq (rVq (iV 0)) rfl),rfl,(eTq (@rfl Blk (bz 1 24 4 [])) (by rfl)),⟨(cVq rfl),congrArg Blk.live (@rfl Blk bZq)⟩,⟨(cVq rfl),congrArg Blk.live (@rfl Blk bZq)⟩,?_⟩
  · exact Nat.zero_le _
 intro mm T H ⟨k,u,v12,v14,hmm,t2,t9,t26,t27,t28,h2,h9,h12,h14,hk⟩ Q4 p14 p24 p34
 unfold aM5
 refine W_r (bJ t28 t27 (R_e ?_))
 refine aJ rfl (fun c5=>?_) fun c5=>?_
 ·
  refine aE (aC fun Q6 n6 x6 y6 z6=>(W_r (bE (i:=k) t26 t28 (by omega) rfl (aF rfl rfl (aA rfl (R_e (W_r ?_)))))))
  refine aS t2 h2 rfl rfl (aA rfl (aV (aDy m (nth gs k) hm (aD8 hm hp (by omega))) rfl (aA rfl (cK rfl rfl (cK rfl rfl (cQ (i:=12) (n:=v12) (m:=4) rfl h12.1 rfl (bC (vs:=[(iV ((trR (rsM m (nth gs k))).i)),(iV ((trR (rsM m (nth gs k))).s)),(aD ((trR (rsM m (nth gs k))).nx)),(aD ((trR (rsM m (nth gs k))).ot))]) (B':=(bk (v12+1) 24 4 [[(iV ((trR (rsM m (nth gs k))).i)),(iV ((trR (rsM m (nth gs k))).s)),(aD ((trR (rsM m (nth gs k))).nx)),(aD ((trR (rsM m (nth gs k))).ot))]])) rfl rfl rfl rfl (sB oB rfl rfl rfl rfl rfl) ?_)))))))
  refine aA rfl (R_e (aB (W_r (aA rfl (dD rfl rfl (R_e ?_))))))
  refine aJ rfl (fun c7=>?_) fun c7=>?_
  · exact absurd c7 (by decide)
  refine aE (W_r (aS rfl rfl rfl rfl (aV (aFD (trR (rsM m (nth gs k)))) rfl (aA rfl (cK rfl rfl (cK rfl rfl (cQ (i:=14) (n:=v14) (m:=4) rfl h14.1 rfl ?_)))))))
  refine bC (vs:=[(iV ((mnR (trR (rsM m (nth gs k)))).i)),(iV ((mnR (trR (rsM m (nth gs k)))).s)),(aD ((mnR (trR (rsM m (nth gs k)))).nx)),(aD ((mnR (trR (rsM m (nth gs k)))).ot))]) (B':=(bk (v14+1) 24 4 [[(iV ((mnR (trR (rsM m (nth gs k)))).i)),(iV ((mnR (trR (rsM m (nth gs k)))).s)),(aD ((mnR (trR (rsM m (nth gs k)))).nx)),(aD ((mnR (trR (rsM m (nth gs k)))).ot))]])) rfl rfl rfl rfl (sB oB rfl rfl rfl rfl rfl) (aA rfl (R_e (aB (W_r (aA rfl (dD rfl rfl (R_e ?_)))))))
  refine aJ rfl (fun c8=>?_) fun c8=>?_
  · exfalso; exact c8 (aFf (aAR hm (aD8 hm hp (by omega))))
  refine aE (W_t (aA t9 (aS rfl rfl rfl rfl (bM rfl rfl (bK (l:=(tbl (fcM m gs) k)) (f:=mC) (x:=(mnR (trR (rsM m (nth gs k))))) (rVq (V.ms 9 u 0 k)) h9 (by exact (aP _ _).symm) (rVq (V.sl [[(iV ((mnR (trR (rsM m (nth gs k)))).i)),(iV ((mnR (trR (rsM m (nth gs k)))).s)),(aD ((mnR (trR (rsM m (nth gs k)))).nx)),(aD ((mnR (trR (rsM m (nth gs k)))).ot))]])) rfl rfl (by omega) (by omega) (aA rfl (R_e ?_)))))))
  refine n6 _ _ (bF (R:=fun T H=>T 2=(mPq 2)∧T 9=(V.ms 9 (u+1) 0 (k+1))∧T 26=(aD gs)∧T 27=(iV ((gs.length:Nat):Int))∧T 28=(iV ((k:Nat):Int))∧H 2=(bMq m)∧H 9=(bz (u+1) 24 4 (List.map mC (tbl (fcM m gs) k++[(mnR (trR (rsM m (nth gs k))))])))∧H 12=(bk (v12+1) 24 4 [[(iV ((trR (rsM m (nth gs k))).i)),(iV ((trR (rsM m (nth gs k))).s)),(aD ((trR (rsM m (nth gs k))).nx)),(aD ((trR (rsM m (nth gs k))).ot))]])∧H 14=(bk (v14+1) 24 4 [[(iV ((mnR (trR (rsM m (nth gs k)))).i)),(iV ((mnR (trR (rsM m (nth gs k)))).s)),(aD ((mnR (trR (rsM m (nth gs k)))).nx)),(aD ((mnR (trR (rsM m (nth gs k)))).ot))]])∧True) ⟨t2,(rVq (V.ms 9 (u+1) 0 (k+1))),t26,t27,t28,h2,rfl,rfl,rfl,trivial⟩ ?_)
  intro T H ⟨t2,t9,t26,t27,t28,h2,h9,h12,h14,_⟩
  refine .freeze 12 (bF (R:=fun T H=>T 2=(mPq 2)∧T 9=(V.ms 9 (u+1) 0 (k+1))∧T 26=(aD gs)∧T 27=(iV ((gs.length:Nat):Int))∧T 28=(iV ((k:Nat):Int))∧H 2=(bMq m)∧H 9=(bz (u+1) 24 4 (List.map mC (tbl (fcM m gs) k++[(mnR (trR (rsM m (nth gs k))))])))∧((H 12).ver=v12+1∧(H 12).live=false)∧H 14=(bk (v14+1) 24 4 [[(iV ((mnR (trR (rsM m (nth gs k)))).i)),(iV ((mnR (trR (rsM m (nth gs k)))).s)),(aD ((mnR (trR (rsM m (nth gs k)))).nx)),(aD ((mnR (trR (rsM m (nth gs k)))).ot))]])∧True) ⟨(aL t2 rfl),(aL t9 (bV (by decide))),(aL t26 rfl),(aL t27 rfl),(aL t28 rfl),(aK h2 (by decide)),(aK h9 (by decide)),(bG (cVq h12)),(aK h14 (by decide)),trivial⟩ ?_)
  intro T H ⟨t2,t9,t26,t27,t28,h2,h9,h12,h14,_⟩
  refine .freeze 14 (.done ?_)
  refine bF (R:=fun T H=>T 2=(mPq 2)∧T 9=(V.ms 9 (u+1) 0 (k+1))∧T 26=(aD gs)∧T 27=(iV ((gs.length:Nat):Int))∧T 28=(iV ((k:Nat):Int))∧H 2=(bMq m)∧H 9=(bz (u+1) 24 4 (List.map mC (tbl (fcM m gs) k++[(mnR (trR (rsM m (nth gs k))))])))∧((H 12).ver=v12+1∧(H 12).live=false)∧((H 14).ver=v14+1∧(H 14).live=false)∧True) ⟨(aL t2 rfl),(aL t9 (bV (by decide))),(aL t26 rfl),(aL t27 rfl),(aL t28 rfl),(aK h2 (by decide)),(aK h9 (by decide)),(bU h12),(bG (cVq h14)),trivial⟩ ?_
  intro T H ⟨t2,t9,t26,t27,t28,h2,h9,h12,h14,_⟩
  refine W_t (aU t28 (rNq 1) (by omega) (aA rfl (R_e ?_)))
  refine p14 _ _ _ ?_ ⟨(k+1),(u+1),(v12+1),(v14+1),rfl,t2,(eTq t9 (by rfl)),t26,t27,(eTq (rNq (k+1)) (by rfl)),h2,(eTq h9 (by (rw [cE]; first|done|rfl))),h12,h14,?_⟩
  · omega
  · omega
 have ek:gs.length=k:=by omega
 refine aN (p34 _ _ _ (x3 _ _ (.done (W_r (aA t9 (aA rfl (aA rfl ?_)))))))
 refine R_e (bN ?_)
 refine jN (rVq (V.ms 9 u 0 k)) (rVq (iV 0)) (gD h9 (by simp) (l:=(tbl (fcM m gs) k)) rfl (by exact (aP _ _).symm) (fun _=>by simp) ?_) (aW ?_)
 · rw [fcL,if_pos e3,ek]; try rfl
 · exact e3.symm
def aU1:List SO:=[
 qL 15 4 2,
 qM 16 1,
 sO 17 (.call false 19 [.t 15,.t 16]),
 qM 14 17,
 qE 18 14 0,
 qE 19 14 1,
 qE 20 14 2,
 qM 6 18,
 qM 7 19,
 qM 8 20]
def aOv:List SO:=[
 qL 32 4 2,
 qM 33 1,
 qM 34 10,
 qA 35 1 33 34,
 ql 36 35,
 sO 37 (.call false 46 [.t 32,.t 36]),
 qM 31 37,
 qE 38 31 0,
 qE 39 31 1,
 sO 11 (.alloc 24 [.int .i64 0,.int .i64 0,.nilsl,.nilsl]),
 sN (.store 4 (.t 11) (.t 38)),
 qM 12 39]
def aNj:List SO:=[
 qL 44 4 11,
 sO 45 (.call false 34 [.t 44]),
 qM 43 45,
 qE 46 43 0,
 qE 47 43 1,
 sO 13 (.alloc 24 [.int .i64 0,.int .i64 0,.nilsl,.nilsl]),
 sN (.store 4 (.t 13) (.t 46)),
 qM 12 47]
def aMn:SC:=.seq (.seq (.reg [qM 25 10,qM 26 1,qN 27 26,qP 28 .lss 25 27]) (.cond (.t 28) (.skip) (.exit 0))) (.seq (.block 1 (.seq (.dreg [11] aOv) (.seq (.seq (.reg [qM 40 12,qC 41 .neq 40 0]) (.cond (.t 41) (.seq (.reg [qM 42 12,sO 4 (.mv (.c (.nilsl))),qM 5 42]) (.ret)) (.skip))) (.seq (.reg aNj) (.seq (.seq (.reg [qM 48 12,qC 49 .neq 48 0]) (.cond (.t 49) (.seq (.reg [qM 50 12,sO 4 (.mv (.c (.nilsl))),qM 5 50]) (.ret)) (.skip))) (.reg [qM 51 9,qL 52 4 13,sO 53 (.bslice 24 4 false [.int .i64 0,.int .i64 0,.nilsl,.nilsl] 1 [(0,.t 52)]),sO 54 (.append 24 4 64 (.t 51) (.t 53)),qM 9 54])))))) (.reg [qM 29 10,qC 30 .add 29 1,qM 10 30]))
def s21:SF:=⟨56,[.tmp 4,.tmp 5],.seq (.reg [sO 2 (.box 24 4 (.t 0)),sO 4 (.mv (.c (.nilsl))),qI 5 0]) (.seq (.reg aU1) (.seq (.seq (.reg [qM 21 8,qC 22 .neq 21 0]) (.cond (.t 22) (.seq (.reg [qM 23 8,sO 4 (.mv (.c (.nilsl))),qM 5 23]) (.ret)) (.skip))) (.seq (.seq (.reg [qM 24 7]) (.cond (.t 24) (.seq (.reg [sO 4 (.mv (.c (.nilsl))),qI 5 15]) (.ret)) (.skip))) (.seq (.reg [sO 9 (.lazy 24 4)]) (.seq (.seq (.reg [qI 10 0]) (.block 0 (.loop aMn))) (.seq (.reg [qM 55 9,qM 4 55,qI 5 0]) (.ret)))))))⟩
theorem aOH:aO Tryz.prog ⟨[39,75,135,136,137,155,161,186,188,194,195,196,211,212,213,226,230,233,238],[9],[],[]⟩ Tryz.f21=some s21:=by kernel_rfl
def aUY:List SO:=[
 qL 16 4 1,
 sO 17 (.call false 52 [.t 16]),
 qM 15 17,
 qE 18 15 0,
 qE 19 15 1,
 qM 4 18,
 qM 5 19]
def aM9:SC:=.seq (.seq (.reg [qM 31 8,qM 32 7,qN 33 32,qP 34 .lss 31 33]) (.cond (.t 34) (.skip) (.exit 0))) (.seq (.block 1 (.reg [qM 37 7,qM 38 8,qA 39 1 37 38,sN (.store 1 (.t 39) (.c (.int .i64 (-1))))])) (.reg [qM 35 8,qC 36 .add 35 1,qM 8 36]))
def aO9:List SO:=[
 qM 40 7,
 qM 41 4,
 qF 42 1 1,
 ql 43 42,
 qA 44 1 41 43,
 ql 45 44,
 qA 46 1 40 45,
 sN (.store 1 (.t 46) (.c (.int .i64 0)))]
def aOX:List SO:=[
 qF 62 2 1,
 ql 63 62,
 qM 64 6,
 qM 65 10,
 qA 66 1 64 65,
 ql 67 66,
 qA 68 1 63 67,
 ql 69 68,
 qM 70 13,
 qA 71 1 69 70,
 ql 72 71,
 qM 14 72]
def aPO:List SO:=[
 qM 73 7,
 qM 74 4,
 qM 75 14,
 qA 76 1 74 75,
 ql 77 76,
 qA 78 1 73 77,
 ql 79 78,
 qC 80 .lss 79 0]
def aRz:List SO:=[
 qM 81 7,
 qM 82 4,
 qM 83 14,
 qA 84 1 82 83,
 ql 85 84,
 qM 86 6,
 qN 87 86,
 qA 88 1 81 85,
 sN (.store 1 (.t 88) (.t 87))]
def aQN:List SO:=[
 qM 93 11,
 qM 94 7,
 qM 95 4,
 qM 96 14,
 qA 97 1 95 96,
 ql 98 97,
 qA 99 1 94 98,
 ql 100 99,
 sO 101 (.bslice 3 1 false [.int .i64 0] 1 [(0,.t 100)]),
 sO 102 (.append 3 1 8 (.t 93) (.t 101)),
 qM 11 102]
def aO4:List SO:=[
 qM 103 12,
 qF 104 3 1,
 ql 105 104,
 qM 106 6,
 qM 107 10,
 qA 108 1 106 107,
 ql 109 108,
 qA 110 1 105 109,
 ql 111 110,
 qM 112 13,
 qA 113 1 111 112,
 ql 114 113,
 sO 115 (.bslice 3 1 false [.int .i64 0] 1 [(0,.t 114)]),
 sO 116 (.append 3 1 8 (.t 103) (.t 115)),
 qM 12 116]
def aLT:SC:=.seq (.seq (.reg [qM 56 13,qF 57 0 1,ql 58 57,qP 59 .lss 56 58]) (.cond (.t 59) (.skip) (.exit 4))) (.seq (.block 5 (.seq (.reg aOX) (.seq (.seq (.reg aPO) (.cond (.t 80) (.seq (.reg aRz) (.reg [qM 89 6,qM 90 14,sO 91 (.bslice 3 1 false [.int .i64 0] 1 [(0,.t 90)]),sO 92 (.append 3 1 8 (.t 89) (.t 91)),qM 6 92])) (.skip))) (.seq (.reg aQN) (.reg aO4))))) (.reg [qM 60 13,qC 61 .add 60 1,qM 13 61]))
def aSl:List SO:=[
 qF 117 2 9,
 ql 118 117,
 qM 119 11,
 sO 120 (.bslice 25 1 false [.nilsl] 1 [(0,.t 119)]),
 sO 121 (.append 25 1 24 (.t 118) (.t 120)),
 qF 122 2 9,
 sN (.store 1 (.t 122) (.t 121))]
def aQ1:List SO:=[
 qF 123 3 9,
 ql 124 123,
 qM 125 12,
 sO 126 (.bslice 25 1 false [.nilsl] 1 [(0,.t 125)]),
 sO 127 (.append 25 1 24 (.t 124) (.t 126)),
 qF 128 3 9,
 sN (.store 1 (.t 128) (.t 127))]
def aMC:SC:=.seq (.seq (.reg [qM 50 10,qM 51 6,qN 52 51,qP 53 .lss 50 52]) (.cond (.t 53) (.skip) (.exit 2))) (.seq (.block 3 (.seq (.reg [sO 11 (.lazy 3 1),sO 12 (.lazy 3 1)]) (.seq (.seq (.reg [qI 13 0]) (.block 4 (.loop aLT))) (.seq (.reg aSl) (.reg aQ1))))) (.reg [qM 54 10,qC 55 .add 54 1,qM 10 55]))
def s34:SF:=⟨130,[.cell 2 true 4,.tmp 3],.seq (.reg [sO 1 (.box 24 4 (.t 0)),sO 2 (.alloc 24 [.int .i64 0,.int .i64 0,.nilsl,.nilsl]),qI 3 0]) (.seq (.reg aUY) (.seq (.seq (.reg [qM 20 5,qC 21 .neq 20 0]) (.cond (.t 21) (.seq (.reg [sO 22 (.build [.int .i64 0,.int .i64 0,.nilsl,.nilsl] []),qM 23 5,sN (.store 4 (.t 2) (.t 22)),qM 3 23]) (.ret)) (.skip))) (.seq (.reg [qF 24 1 1,ql 25 24,sO 26 (.bslice 3 1 true [.int .i64 0] 1 [(0,.t 25)]),qM 6 26]) (.seq (.reg [qF 27 2 1,ql 28 27,qN 29 28,sO 30 (.mks 3 1 8 [.int .i64 0] (.t 29) (.t 29)),qM 7 30]) (.seq (.seq (.reg [qI 8 0]) (.block 0 (.loop aM9))) (.seq (.reg aO9) (.seq (.reg [qF 47 0 1,ql 48 47,sO 49 (.build [.int .i64 0,.int .i64 0,.nilsl,.nilsl] [(0,1,.t 48)]),sO 9 (.alloc 24 [.int .i64 0,.int .i64 0,.nilsl,.nilsl]),sN (.store 4 (.t 9) (.t 49))]) (.seq (.seq (.reg [qI 10 0]) (.block 2 (.loop aMC))) (.seq (.reg [qL 129 4 9,sN (.store 4 (.t 2) (.t 129)),qI 3 0]) (.ret))))))))))⟩
theorem aSh:aO Tryz.prog ⟨[39,75,135,136,137,155,161,186,188,194,195,196,211,212,213,226,230,233,238],[11,12,26],[],[]⟩ Tryz.f34=some s34:=by kernel_rfl
def aTc:List SO:=[
 qL 4 4 1,
 qF 5 2 1,
 ql 6 5,
 qN 7 6,
 sO 8 (.call false 82 [.t 4,.t 7]),
 qE 9 8 0,
 qE 10 8 1,
 qM 2 9,
 qM 3 10]
def s52:SF:=⟨11,[.tmp 2,.tmp 3],.seq (.reg [sO 1 (.box 24 4 (.t 0)),sO 2 (.mv (.c (.nilsl))),qI 3 0]) (.seq (.reg aTc) (.ret))⟩
theorem aQb:aO Tryz.prog ⟨[39,75,135,136,137,155,161,186,188,194,195,196,211,212,213,226,230,233,238],[],[],[]⟩ Tryz.f52=some s52:=by kernel_rfl
def aUB:List SO:=[
 qM 18 8,
 qM 19 1,
 qP 20 .lss 18 19,
 qM 21 20,
 ⟨some (21,true),some 22,.mv (.t 8)⟩,
 ⟨some (21,true),some 23,.fld 2 (.t 2)⟩,
 ⟨some (21,true),some 24,.load false 1 (.t 23)⟩,
 ⟨some (21,true),some 25,.len (.t 24)⟩,
 ⟨some (21,true),some 26,.bin .lss (.t 22) (.t 25)⟩,
 sO 27 (.pick (.t 21) (.t 26) (.c (.bool false)))]
def aMm:SC:=.seq (.seq (.reg aUB) (.cond (.t 27) (.skip) (.exit 0))) (.seq (.block 1 (.reg [qL 30 4 2,qM 31 7,sO 32 (.call false 124 [.t 30,.t 31]),qM 7 32])) (.reg [qM 28 8,qC 29 .add 28 1,qM 8 29]))
def s82:SF:=⟨34,[.tmp 4,.tmp 5],.seq (.reg [sO 2 (.box 24 4 (.t 0)),sO 4 (.mv (.c (.nilsl))),qI 5 0]) (.seq (.seq (.reg [qL 9 4 2,sO 10 (.call false 32 [.t 9]),qM 6 10]) (.seq (.reg [qM 11 6,qC 12 .neq 11 0]) (.cond (.t 12) (.seq (.reg [qM 13 6,sO 4 (.mv (.c (.nilsl))),qM 5 13]) (.ret)) (.skip)))) (.seq (.reg [qF 14 2 2,ql 15 14,qN 16 15,sO 17 (.mks 3 1 8 [.int .i64 0] (.t 16) (.t 16)),qM 7 17]) (.seq (.seq (.reg [qI 8 0]) (.block 0 (.loop aMm))) (.seq (.reg [qM 33 7,qM 4 33,qI 5 0]) (.ret)))))⟩
theorem aO2:aO Tryz.prog ⟨[39,75,135,136,137,155,161,186,188,194,195,196,211,212,213,226,230,233,238],[],[],[]⟩ Tryz.f82=some s82:=by kernel_rfl
def aJM:List SO:=[
 qM 24 1,
 qM 25 7,
 qA 26 1 24 25,
 ql 27 26,
 qM 28 1,
 qM 29 9,
 qA 30 1 28 29,
 ql 31 30,
 qP 32 .eql 27 31,
 qM 10 32]
def aKo:List SO:=[
 qM 33 11,
 qF 34 0 2,
 ql 35 34,
 qP 36 .lss 33 35,
 qM 37 36,
 ⟨some (37,true),some 38,.mv (.t 10)⟩,
 sO 39 (.pick (.t 37) (.t 38) (.c (.bool false)))]
def aLM:List SO:=[
 qF 42 3 2,
 ql 43 42,
 qM 44 7,
 qA 45 1 43 44,
 ql 46 45,
 qM 47 11,
 qA 48 1 46 47,
 ql 49 48,
 qF 50 3 2,
 ql 51 50,
 qM 52 9,
 qA 53 1 51 52,
 ql 54 53,
 qM 55 11,
 qA 56 1 54 55,
 ql 57 56,
 qP 58 .eql 49 57,
 qM 59 58,
 ⟨some (59,true),some 60,.mv (.t 1)⟩,
 ⟨some (59,true),some 61,.fld 2 (.t 2)⟩,
 ⟨some (59,true),some 62,.load false 1 (.t 61)⟩,
 ⟨some (59,true),some 63,.mv (.t 7)⟩,
 ⟨some (59,true),some 64,.idx 1 (.t 62) (.t 63)⟩,
 ⟨some (59,true),some 65,.load false 1 (.t 64)⟩,
 ⟨some (59,true),some 66,.mv (.t 11)⟩,
 ⟨some (59,true),some 67,.idx 1 (.t 65) (.t 66)⟩,
 ⟨some (59,true),some 68,.load false 1 (.t 67)⟩,
 ⟨some (59,true),some 69,.idx 1 (.t 60) (.t 68)⟩,
 ⟨some (59,true),some 70,.load false 1 (.t 69)⟩,
 ⟨some (59,true),some 71,.mv (.t 1)⟩,
 ⟨some (59,true),some 72,.fld 2 (.t 2)⟩,
 ⟨some (59,true),some 73,.load false 1 (.t 72)⟩,
 ⟨some (59,true),some 74,.mv (.t 9)⟩,
 ⟨some (59,true),some 75,.idx 1 (.t 73) (.t 74)⟩,
 ⟨some (59,true),some 76,.load false 1 (.t 75)⟩,
 ⟨some (59,true),some 77,.mv (.t 11)⟩,
 ⟨some (59,true),some 78,.idx 1 (.t 76) (.t 77)⟩,
 ⟨some (59,true),some 79,.load false 1 (.t 78)⟩,
 ⟨some (59,true),some 80,.idx 1 (.t 71) (.t 79)⟩,
 ⟨some (59,true),some 81,.load false 1 (.t 80)⟩,
 ⟨some (59,true),some 82,.bin .eql (.t 70) (.t 81)⟩,
 sO 83 (.pick (.t 59) (.t 82) (.c (.bool false))),
 qM 10 83]
def aHF:SC:=.seq (.seq (.reg aKo) (.cond (.t 39) (.skip) (.exit 4))) (.seq (.block 5 (.reg aLM)) (.reg [qM 40 11,qC 41 .add 40 1,qM 11 41]))
def aHJ:SC:=.seq (.seq (.reg [qM 20 9,qC 21 .geq 20 0]) (.cond (.t 21) (.skip) (.exit 2))) (.seq (.block 3 (.seq (.reg aJM) (.seq (.seq (.reg [qI 11 0]) (.block 4 (.loop aHF))) (.seq (.reg [qM 84 10]) (.cond (.t 84) (.reg [qM 85 5,qM 86 9,qA 87 1 85 86,ql 88 87,qM 8 88]) (.skip)))))) (.reg [qM 22 9,qC 23 .sub 22 1,qM 9 23]))
def aHO:SC:=.seq (.seq (.reg [qM 12 7,qM 13 1,qN 14 13,qP 15 .lss 12 14]) (.cond (.t 15) (.skip) (.exit 0))) (.seq (.block 1 (.seq (.reg [sO 8 (.mv (.c (.int .i64 (-1))))]) (.seq (.seq (.reg [qM 18 7,qC 19 .sub 18 1,qM 9 19]) (.block 2 (.loop aHJ))) (.seq (.seq (.reg [qM 89 8,qC 90 .lss 89 0]) (.cond (.t 90) (.seq (.reg [qM 91 6,qM 8 91]) (.reg [qM 92 6,qC 93 .add 92 1,qM 6 93])) (.skip))) (.reg [qM 94 5,qM 95 8,sO 96 (.bslice 3 1 false [.int .i64 0] 1 [(0,.t 95)]),sO 97 (.append 3 1 8 (.t 94) (.t 96)),qM 5 97]))))) (.reg [qM 16 7,qC 17 .add 16 1,qM 7 17]))
def aU3:SF:=⟨99,[.tmp 4],.seq (.reg [sO 2 (.box 24 4 (.t 0)),sO 4 (.mv (.c (.nilsl)))]) (.seq (.reg [sO 5 (.lazy 3 1)]) (.seq (.reg [qI 6 0]) (.seq (.seq (.reg [qI 7 0]) (.block 0 (.loop aHO))) (.seq (.reg [qM 98 5,qM 4 98]) (.ret)))))⟩
theorem aJ9:aO Tryz.prog ⟨[39,75,135,136,137,155,161,186,188,194,195,196,211,212,213,226,230,233,238],[5],[],[]⟩ Tryz.f124=some aU3:=by kernel_rfl
theorem aCK (m:M) (c:List Int) (hm:bD m=0) (hc:c.length=m.nx.length) (hr: ∀ s,s < c.length→0≤nth c s):bA Tryz.prog 124 [(V.agg [(iV m.i),(iV m.s),(aD m.nx),(aD m.ot)]),(aG c)] (aG (tbl (nmf (fgC m c)) c.length)):=by
 refine pW Tryz.func124 aJ9 fun hB=>?_
 unfold aU3
 dsimp only
 have mo:=bT hm
 refine W_r (dN (i:=2) (n:=0) (m:=4) (cs:=[(iV m.i),(iV m.s),(aD m.nx),(aD m.ot)]) rfl (cVq rfl) rfl rfl rfl (aA rfl (R_e (W_r (dQ (i:=5) (n:=0) rfl (cVq rfl) (R_e (W_r ?_)))))))
 refine aA rfl (R_e (aB (W_r (aA rfl (R_e (aC fun Q1 n1 x1 y1 z1=>?_))))))
 refine bH (fun mm T H=> ∃ (k:Nat) (v:Nat),mm=c.length - k∧T 1=(aG c)∧T 2=(mPq 2)∧T 5=(V.ms 5 v 0 k)∧T 6=(iV (((cnf (fgC m c) k):Nat):Int))∧T 7=(iV ((k:Nat):Int))∧H 2=(bMq m)∧H 5=(bz v 3 1 (List.map cI (tbl (nmf (fgC m c)) k)))∧(k≤c.length)) ?_ ?_
 ·
  refine ⟨_,0,1,rfl,rfl,rfl,rfl,(eTq (rVq (iV 0)) (by rfl)),(eTq (rVq (iV 0)) rfl),rfl,(eTq (@rfl Blk (bz 1 3 1 [])) (by rfl)),?_⟩
  · exact Nat.zero_le _
 intro mm T H ⟨k,v,hmm,t1,t2,t5,t6,t7,h2,h5,hk⟩ Q2 p12 p22 p32
 unfold aHO
 refine aB (W_r (aA t7 (aA t1 (bI rfl (bJ rfl rfl (R_e ?_))))))
 refine aJ rfl (fun c3=>?_) fun c3=>?_
 ·
  have rk:=mo.2.2.2.2.2.2.2 k (by omega)
  have cl:=rV (f:=(fgC m c)) k
  refine aE (aC fun Q4 n4 x4 y4 z4=>(W_r (aA rfl (R_e (aB (W_r (aA t7 ?_)))))))
  refine vT rfl rfl (by omega) (by omega) (aA rfl (R_e (aC fun Q5 n5 x5 y5 z5=>?_)))
  refine bH (fun mm T H=> ∃ (i:Nat) (q:Int),mm=i∧T 1=(aG c)∧T 2=(mPq 2)∧T 5=(V.ms 5 v 0 k)∧T 6=(iV (((cnf (fgC m c) k):Nat):Int))∧T 7=(iV ((k:Nat):Int))∧T 8=(iV q)∧T 9=(iV (((i:Nat):Int) - 1))∧H 2=(bMq m)∧H 5=(bz v 3 1 (List.map cI (tbl (nmf (fgC m c)) k)))∧(i≤k)∧(FnQ (fgC m c) k i q)) ?_ ?_
  ·
   refine ⟨_,k,(-1),rfl,t1,t2,t5,t6,t7,(eTq (rVq (iV (-1))) (by rfl)),(eTq (rVq (iV (((k:Nat):Int) - (1:Int)))) (by rfl)),h2,h5,?_,?_⟩
   · exact Nat.le_refl _
   · exact aU2
  intro mm T H ⟨i,q,hmm,t1,t2,t5,t6,t7,t8,t9,h2,h5,hi,hq⟩ Q6 p16 p26 p36
  unfold aHJ
  refine aB (W_r (aA t9 (lZ rfl rfl (R_e ?_))))
  refine aJ rfl (fun c7=>?_) fun c7=>?_
  ·
   have ei:(((i:Nat):Int) - 1).toNat=i - 1:=by omega
   have ri:=mo.2.2.2.2.2.2.2 (((i:Nat):Int) - 1).toNat (by omega)
   refine aE (aC fun Q8 n8 x8 y8 z8=>(W_r (aA t1 (aA t7 (bE (i:=k) (rVq (aG c)) (rNq k) (by omega) rfl (aF rfl rfl (aA t1 ?_)))))))
   refine aA t9 (cP (i:=(((i:Nat):Int) - 1)) (rVq (aG c)) (rVq (iV (((i:Nat):Int) - 1))) (by omega) (by omega) rfl (aF rfl rfl (fC rfl rfl (aA rfl (R_e (aB (W_r ?_)))))))
   refine aA rfl (R_e (aC fun Q9 n9 x9 y9 z9=>?_))
   refine bH (fun mm T H=> ∃ (j:Nat) (b:Bool),mm=m.i.toNat - j∧T 1=(aG c)∧T 2=(mPq 2)∧T 5=(V.ms 5 v 0 k)∧T 6=(iV (((cnf (fgC m c) k):Nat):Int))∧T 7=(iV ((k:Nat):Int))∧T 8=(iV q)∧T 9=(iV (((i:Nat):Int) - 1))∧T 10=(V.bool b)∧T 11=(iV ((j:Nat):Int))∧H 2=(bMq m)∧H 5=(bz v 3 1 (List.map cI (tbl (nmf (fgC m c)) k)))∧(j≤m.i.toNat)∧(FnB m c k (((i:Nat):Int) - 1).toNat j b)) ?_ ?_
   ·
    refine ⟨_,0,(decide ((nth c k)=(nth c (((i:Nat):Int) - 1).toNat))),rfl,t1,t2,t5,t6,t7,t8,t9,(eTq (rVq (V.bool (decide ((nth c k)=(nth c (((i:Nat):Int) - 1).toNat))))) (by rfl)),(eTq (rVq (iV 0)) rfl),h2,h5,?_,?_⟩
    · exact Nat.zero_le _
    · first|exact aME|exact aME
   intro mm T H ⟨j,b,hmm,t1,t2,t5,t6,t7,t8,t9,t10,t11,h2,h5,hj,hb⟩ Q10 p110 p210 p310
   unfold aHF
   refine aB (W_r (aA t11 (aZ t2 h2 (aS rfl h2 rfl rfl (bJ rfl rfl (aA rfl ?_))))))
   refine bW 2 (fun T H=>T 1=(aG c)∧T 2=(mPq 2)∧T 5=(V.ms 5 v 0 k)∧T 6=(iV (((cnf (fgC m c) k):Nat):Int))∧T 7=(iV ((k:Nat):Int))∧T 8=(iV q)∧T 9=(iV (((i:Nat):Int) - 1))∧T 10=(V.bool b)∧T 11=(iV ((j:Nat):Int))∧T 39=(V.bool (decide (((j:Nat):Int) < m.i)&&b))∧H 2=(bMq m)∧H 5=(bz v 3 1 (List.map cI (tbl (nmf (fgC m c)) k)))∧True) ?_ ?_
   ·
    by_cases g11:((j:Nat):Int) < m.i
    ·
     refine aM (edT g11 rfl) (aA t10 (bY (edT g11 rfl) rfl ?_))
     exact ⟨t1,t2,t5,t6,t7,t8,t9,t10,t11,(aPB g11),h2,h5,trivial⟩
    ·
     refine G_n (edF g11 rfl) (bX (edF g11 rfl) rfl ?_)
     exact ⟨t1,t2,t5,t6,t7,t8,t9,t10,t11,(aOn g11),h2,h5,trivial⟩
   intro T H ⟨t1,t2,t5,t6,t7,t8,t9,t10,t11,t39,h2,h5,_⟩
   refine R_e ?_
   refine cW t39 (fun c12=>?_) (fun c12=>?_)
   ·
    have c20:((j:Nat):Int) < m.i∧b=true:=by have z:=c12; simpa using z
    obtain ⟨c21,c22⟩:=c20
    have rj:=rk.2.2 j c21
    have rj2:=ri.2.2 j c21
    refine aE (aC fun Q13 n13 x13 y13 z13=>?_)
    refine aH1 (fun T H=>T 1=(aG c)∧T 2=(mPq 2)∧T 5=(V.ms 5 v 0 k)∧T 6=(iV (((cnf (fgC m c) k):Nat):Int))∧T 7=(iV ((k:Nat):Int))∧T 8=(iV q)∧T 9=(iV (((i:Nat):Int) - 1))∧T 10=(V.bool (decide (((nth (nth m.ot k) j)=(nth (nth m.ot (((i:Nat):Int) - 1).toNat) j))∧((nth c (nth (nth m.nx k) j).toNat)=(nth c (nth (nth m.nx (((i:Nat):Int) - 1).toNat) j).toNat)))))∧T 11=(iV ((j:Nat):Int))∧H 2=(bMq m)∧H 5=(bz v 3 1 (List.map cI (tbl (nmf (fgC m c)) k)))∧True) ?_ ?_
    ·
     refine aZ t2 h2 (aS rfl h2 rfl rfl (aA t7 (bE (i:=k) (rVq (aD m.ot)) (rNq k) (by omega) rfl (aF rfl rfl (aA t11 (bE (i:=j) (rVq (aG (nth m.ot k))) (rNq j) (by omega) rfl (aF rfl rfl ?_)))))))
     refine aZ t2 h2 (aS rfl h2 rfl rfl (aA t9 (cP (i:=(((i:Nat):Int) - 1)) (rVq (aD m.ot)) (rVq (iV (((i:Nat):Int) - 1))) (by omega) (by omega) rfl (aF rfl rfl (aA t11 (bE (i:=j) (rVq (aG (nth m.ot (((i:Nat):Int) - 1).toNat))) (rNq j) (by omega) rfl (aF rfl rfl ?_)))))))
     refine fC rfl rfl (aA rfl ?_)
     refine bW 24 (fun T H=>T 1=(aG c)∧T 2=(mPq 2)∧T 5=(V.ms 5 v 0 k)∧T 6=(iV (((cnf (fgC m c) k):Nat):Int))∧T 7=(iV ((k:Nat):Int))∧T 8=(iV q)∧T 9=(iV (((i:Nat):Int) - 1))∧T 10=(V.bool b)∧T 11=(iV ((j:Nat):Int))∧T 83=(V.bool (decide (((nth (nth m.ot k) j)=(nth (nth m.ot (((i:Nat):Int) - 1).toNat) j))∧((nth c (nth (nth m.nx k) j).toNat)=(nth c (nth (nth m.nx (((i:Nat):Int) - 1).toNat) j).toNat)))))∧H 2=(bMq m)∧H 5=(bz v 3 1 (List.map cI (tbl (nmf (fgC m c)) k)))∧True) ?_ ?_
     ·
      by_cases g14:(nth (nth m.ot k) j)=(nth (nth m.ot (((i:Nat):Int) - 1).toNat) j)
      ·
       refine aM (edT g14 rfl) (aA t1 (aM (edT g14 rfl) (aZ t2 h2 (aM (edT g14 rfl) (aS rfl h2 rfl rfl (aM (edT g14 rfl) (aA t7 ?_)))))))
       refine aM (edT g14 rfl) (bE (i:=k) (rVq (aD m.nx)) (rNq k) (by omega) rfl (aM (edT g14 rfl) (aF rfl rfl (aM (edT g14 rfl) (aA t11 (aM (edT g14 rfl) (bE (i:=j) (rVq (aG (nth m.nx k))) (rNq j) (by omega) rfl ?_)))))))
       refine aM (edT g14 rfl) (aF rfl rfl (aM (edT g14 rfl) (cP (i:=(nth (nth m.nx k) j)) (rVq (aG c)) (rVq (iV (nth (nth m.nx k) j))) (by omega) (by omega) rfl (aM (edT g14 rfl) (aF rfl rfl (aM (edT g14 rfl) (aA t1 ?_)))))))
       refine aM (edT g14 rfl) (aZ t2 h2 (aM (edT g14 rfl) (aS rfl h2 rfl rfl (aM (edT g14 rfl) (aA t9 (aM (edT g14 rfl) (cP (i:=(((i:Nat):Int) - 1)) (rVq (aD m.nx)) (rVq (iV (((i:Nat):Int) - 1))) (by omega) (by omega) rfl ?_)))))))
       refine aM (edT g14 rfl) (aF rfl rfl (aM (edT g14 rfl) (aA t11 (aM (edT g14 rfl) (bE (i:=j) (rVq (aG (nth m.nx (((i:Nat):Int) - 1).toNat))) (rNq j) (by omega) rfl (aM (edT g14 rfl) (aF rfl rfl ?_)))))))
       refine aM (edT g14 rfl) (cP (i:=(nth (nth m.nx (((i:Nat):Int) - 1).toNat) j)) (rVq (aG c)) (rVq (iV (nth (nth m.nx (((i:Nat):Int) - 1).toNat) j))) (by omega) (by omega) rfl (aM (edT g14 rfl) (aF rfl rfl (aM (edT g14 rfl) (fC rfl rfl (bY (edT g14 rfl) rfl ?_))))))
       exact ⟨t1,t2,t5,t6,t7,t8,t9,t10,t11,(jW g14),h2,h5,trivial⟩
      ·
       refine G_n (edF g14 rfl) (G_n (edF g14 rfl) (G_n (edF g14 rfl) (G_n (edF g14 rfl) (G_n (edF g14 rfl) (G_n (edF g14 rfl) (G_n (edF g14 rfl) (G_n (edF g14 rfl) ?_)))))))
       refine G_n (edF g14 rfl) (G_n (edF g14 rfl) (G_n (edF g14 rfl) (G_n (edF g14 rfl) (G_n (edF g14 rfl) (G_n (edF g14 rfl) (G_n (edF g14 rfl) (G_n (edF g14 rfl) ?_)))))))
       refine G_n (edF g14 rfl) (G_n (edF g14 rfl) (G_n (edF g14 rfl) (G_n (edF g14 rfl) (G_n (edF g14 rfl) (G_n (edF g14 rfl) (G_n (edF g14 rfl) (bX (edF g14 rfl) rfl ?_)))))))
       exact ⟨t1,t2,t5,t6,t7,t8,t9,t10,t11,(jT g14),h2,h5,trivial⟩
     intro T H ⟨t1,t2,t5,t6,t7,t8,t9,t10,t11,t83,h2,h5,_⟩
     refine aA t83 ?_
     exact eE ⟨t1,t2,t5,t6,t7,t8,t9,rfl,t11,h2,h5,trivial⟩
    intro T H ⟨t1,t2,t5,t6,t7,t8,t9,t10,t11,h2,h5,_⟩
    refine n13 _ _ (.done (W_t (aA t11 (aU rfl (rNq 1) (by omega) (aA rfl (R_e ?_))))))
    refine p110 _ _ _ ?_ ⟨(j+1),(decide (((nth (nth m.ot k) j)=(nth (nth m.ot (((i:Nat):Int) - 1).toNat) j))∧((nth c (nth (nth m.nx k) j).toNat)=(nth c (nth (nth m.nx (((i:Nat):Int) - 1).toNat) j).toNat)))),rfl,t1,t2,t5,t6,t7,t8,t9,(eTq t10 (by rfl)),(eTq (rNq (j+1)) (by rfl)),h2,h5,?_,?_⟩
    · omega
    · omega
    · exact hb.go c22 decide_eq_true_iff
   have c20:m.i.toNat≤j∨b=false:=by
     by_cases z:((j:Nat):Int) < m.i
     · right; have y:=c12; simpa [z] using y
     · left; omega
   have d7:=hb.fin c20 hj
   refine aN (p310 _ _ _ (x9 _ _ (.done (W_r (aA t10 (R_e ?_))))))
   refine aEm rfl (fun c15=>?_) (fun c15=>?_)
   ·
    have d5:=d7.1 c15
    refine W_t (aA t5 (aA t9 (dR (i:=(((i:Nat):Int) - 1)) (rVq (V.ms 5 v 0 k)) (rVq (iV (((i:Nat):Int) - 1))) h5 (cX (by (rw [aP]; omega))) rfl (by omega) (by omega) (bL (v:=(iV (nth (tbl (nmf (fgC m c)) k) ((((i:Nat):Int) - 1).toNat)))) rfl h5 (cJ (by (rw [aP]; omega)) (by rfl)) (aA rfl (R_e (n8 _ _ ?_)))))))
    refine .done (W_t (aA t9 (vT rfl rfl (by omega) (by omega) (aA rfl (R_e ?_)))))
    refine p16 _ _ _ ?_ ⟨(i - 1),(nth (tbl (nmf (fgC m c)) k) ((((i:Nat):Int) - 1).toNat)),rfl,t1,t2,t5,t6,t7,(eTq (rVq (iV (nth (tbl (nmf (fgC m c)) k) ((((i:Nat):Int) - 1).toNat)))) (by rfl)),(eTq (rVq (iV ((((i:Nat):Int) - 1) - (1:Int)))) (by exact congrArg iV (by omega))),h2,h5,?_,?_⟩
    · omega
    · omega
    · first|(rw [bO (by omega),ei]; exact hq.yes (ei ▸ d5) (by omega))|exact hq.no (ei ▸ d5) (by omega)
   have d5: ¬fgC m c (((i:Nat):Int) - 1).toNat=fgC m c k:=fun e=>by have z:=d7.2 e; rw [c15] at z; cases z
   refine dS (n8 _ _ (.done (W_t (aA t9 (vT rfl rfl (by omega) (by omega) (aA rfl (R_e ?_)))))))
   refine p16 _ _ _ ?_ ⟨(i - 1),q,rfl,t1,t2,t5,t6,t7,(eTq t8 (by rfl)),(eTq (rVq (iV ((((i:Nat):Int) - 1) - (1:Int)))) (by exact congrArg iV (by omega))),h2,h5,?_,?_⟩
   · omega
   · omega
   · first|(rw [bO (by omega),ei]; exact hq.yes (ei ▸ d5) (by omega))|exact hq.no (ei ▸ d5) (by omega)
  refine aN (p36 _ _ _ (x5 _ _ (.done (aB (W_r (aA t8 (bJ rfl rfl ?_)))))))
  refine R_e ?_
  refine aJ rfl (fun c16=>?_) fun c16=>?_
  ·
   obtain ⟨e1,e2⟩:lsf (fgC m c) k=k∧nmf (fgC m c) k=((cnf (fgC m c) k:Nat):Int):=by
     have z:i=0:=by omega
     subst z; exact hq.new c16
   refine aB (W_r (aA t6 (aA rfl (R_e (W_r (aA t6 (aU rfl (rNq 1) (by omega) ?_)))))))
   refine aA rfl (R_e (W_t (aA t5 (aA rfl (bM rfl rfl (bK (l:=(tbl (nmf (fgC m c)) k)) (f:=cI) (x:=(((cnf (fgC m c) k):Nat):Int)) (rVq (V.ms 5 v 0 k)) h5 (by exact (aP _ _).symm) (rVq (V.sl [[(iV (((cnf (fgC m c) k):Nat):Int))]])) rfl rfl (by omega) (by omega) (aA rfl ?_)))))))
   refine R_e (n4 _ _ (.done (W_t (aA t7 (aU rfl (rNq 1) (by omega) (aA rfl (R_e ?_)))))))
   refine p12 _ _ _ ?_ ⟨(k+1),(v+1),rfl,t1,t2,(eTq (rVq (V.ms 5 (v+1) 0 (k+1))) (by rfl)),(eTq (rNq ((cnf (fgC m c) k)+1)) (by exact aJG e1)),(eTq (rNq (k+1)) (by rfl)),h2,(eTq (@rfl Blk (bz (v+1) 3 1 (List.map cI (tbl (nmf (fgC m c)) k++[(((cnf (fgC m c) k):Nat):Int)])))) (by (rw [cE,e2]; done))),?_⟩
   · omega
   · omega
  obtain ⟨e1,e2⟩:lsf (fgC m c) k≠k∧nmf (fgC m c) k=q:=by
    have z:i=0:=by omega
    subst z; exact ⟨(hq.old c16).1,(hq.old c16).2.symm⟩
  refine aE (W_t (aA t5 (aA t8 (bM rfl rfl (bK (l:=(tbl (nmf (fgC m c)) k)) (f:=cI) (x:=q) (rVq (V.ms 5 v 0 k)) h5 (by exact (aP _ _).symm) (rVq (V.sl [[(iV q)]])) rfl rfl (by omega) (by omega) (aA rfl (R_e ?_)))))))
  refine n4 _ _ (.done (W_t (aA t7 (aU rfl (rNq 1) (by omega) (aA rfl (R_e ?_))))))
  refine p12 _ _ _ ?_ ⟨(k+1),(v+1),rfl,t1,t2,(eTq (rVq (V.ms 5 (v+1) 0 (k+1))) (by rfl)),(eTq t6 (by exact aJT e1)),(eTq (rNq (k+1)) (by rfl)),h2,(eTq (@rfl Blk (bz (v+1) 3 1 (List.map cI (tbl (nmf (fgC m c)) k++[q])))) (by (rw [cE,e2]; done))),?_⟩
  · omega
  · omega
 refine aN (p32 _ _ _ (x1 _ _ (.done (W_r (aA t5 (aA rfl (R_e ?_)))))))
 refine bN ?_
 refine bS (rVq (V.ms 5 v 0 k)) (gD h5 (by simp) (l:=(tbl (nmf (fgC m c)) k)) rfl (by exact (aP _ _).symm) (fun _=>by simp) ?_)
 · rw [show k=c.length by omega]
end Go.Proofs.YtmnnhjhkaepbaaaGreat
namespace Go.Proofs.YtmnnhjhkaepbaaaGreat
open Go Go.Proofs
attribute [local irreducible] oP
theorem aDx (m:M):bA Tryz.prog 82 [(V.agg [(iV m.i),(iV m.s),(aD m.nx),(aD m.ot)]),(iV ((m.nx.length:Nat):Int))] (V.tup [(aG (clR m)),(iV (bD m))]):=by
 refine pW Tryz.func82 aO2 fun hB=>?_
 unfold s82
 dsimp only
 refine W_r (dN (i:=2) (n:=0) (m:=4) (cs:=[(iV m.i),(iV m.s),(aD m.nx),(aD m.ot)]) rfl (cVq rfl) rfl rfl rfl (aA rfl (aA rfl (R_e (aB (W_r (aS rfl rfl rfl rfl ?_)))))))
 refine aV (iS m) rfl (aA rfl (R_e (aB (W_r (aA rfl (dD rfl rfl (R_e ?_)))))))
 refine aJ rfl (fun c1=>?_) fun c1=>?_
 ·
  have d0:=c1
  refine aB (W_r (aA rfl (aA rfl (aA rfl (R_e (aX ?_))))))
  refine jN (rVq V.nilsl) (rVq (iV (bD m))) (eB ?_) (dE (by simp) rfl)
  · rw [clR,if_neg d0]; try rfl
 have hm:bD m=0:=by omega
 have mo:=bT hm
 refine aE ?_
 refine fQ (fun T H=>T 1=(iV ((m.nx.length:Nat):Int))∧T 2=(mPq 2)∧T 7=(V.ms 17 1 0 m.nx.length)∧H 2=(bMq m)∧H 17=(bk 1 3 1 (List.map cI (List.replicate m.nx.length 0)))∧True) ?_ ?_
 ·
  refine aZ rfl rfl (aS rfl rfl rfl rfl (bI rfl (lA (i:=17) (n:=0) (m:=m.nx.length) (q:=m.nx.length) (f:=cI) (x:=0) rfl (cVq rfl) (rNq m.nx.length) (rNq m.nx.length) rfl (by omega) (by omega) (by omega) (aA rfl ?_))))
  exact eE ⟨rfl,rfl,rfl,rfl,rfl,trivial⟩
 intro T H ⟨t1,t2,t7,h2,h17,_⟩
 refine .freeze 17 (.done ?_)
 refine bF (R:=fun T H=>T 1=(iV ((m.nx.length:Nat):Int))∧T 2=(mPq 2)∧T 7=(aG (List.replicate m.nx.length 0))∧H 2=(bMq m)∧((H 17).ver=1∧(H 17).live=false)∧True) ⟨(aL t1 rfl),(aL t2 rfl),(aL t7 (fR h17 (by rfl) (l:=(List.replicate m.nx.length 0)) rfl (by simp))),(aK h2 (by decide)),(bG (cVq h17)),trivial⟩ ?_
 intro T H ⟨t1,t2,t7,h2,h17,_⟩
 refine aB (W_r (aA rfl (R_e (aC fun Q2 n2 x2 y2 z2=>?_))))
 refine bH (fun mm T H=> ∃ (k:Nat),mm=m.nx.length - k∧T 1=(iV ((m.nx.length:Nat):Int))∧T 2=(mPq 2)∧T 7=(aG (clK m k))∧T 8=(iV ((k:Nat):Int))∧H 2=(bMq m)∧((H 17).ver=1∧(H 17).live=false)∧(k≤m.nx.length)) ?_ ?_
 ·
  refine ⟨_,0,rfl,t1,t2,(eTq t7 (by exact congrArg aG aMw.symm)),(eTq (rVq (iV 0)) rfl),h2,h17,?_⟩
  · exact Nat.zero_le _
 intro mm T H ⟨k,hmm,t1,t2,t7,t8,h2,h17,hk⟩ Q3 p13 p23 p33
 unfold aMm
 refine aB (W_r (aA t8 (aA t1 (bJ rfl rfl (aA rfl ?_)))))
 refine bW 6 (fun T H=>T 1=(iV ((m.nx.length:Nat):Int))∧T 2=(mPq 2)∧T 7=(aG (clK m k))∧T 8=(iV ((k:Nat):Int))∧T 27=(V.bool (decide ((((k:Nat):Int) < ((m.nx.length:Nat):Int))∧(((k:Nat):Int) < ((m.nx.length:Nat):Int)))))∧H 2=(bMq m)∧((H 17).ver=1∧(H 17).live=false)∧True) ?_ ?_
 ·
  by_cases g4:((k:Nat):Int) < ((m.nx.length:Nat):Int)
  ·
   refine aM (edT g4 rfl) (aA t8 (aM (edT g4 rfl) (aZ t2 h2 (aM (edT g4 rfl) (aS rfl h2 rfl rfl (aM (edT g4 rfl) (bI rfl ?_)))))))
   refine aM (edT g4 rfl) (bJ rfl rfl (bY (edT g4 rfl) rfl ?_))
   exact ⟨t1,t2,t7,t8,(jW g4),h2,h17,trivial⟩
  ·
   refine G_n (edF g4 rfl) (G_n (edF g4 rfl) (G_n (edF g4 rfl) (G_n (edF g4 rfl) (G_n (edF g4 rfl) (bX (edF g4 rfl) rfl ?_)))))
   exact ⟨t1,t2,t7,t8,(jT g4),h2,h17,trivial⟩
 intro T H ⟨t1,t2,t7,t8,t27,h2,h17,_⟩
 refine R_e ?_
 refine aJ t27 (fun c5=>?_) fun c5=>?_
 ·
  have c9:k < m.nx.length:=by have z:=c5; simpa using z
  refine aE (aC fun Q6 n6 x6 y6 z6=>(W_t (aS t2 h2 rfl rfl (aA t7 (aV (aCK m (clK m k) hm (oX k) (fun s hs=>(aMg k (by rw [oX] at hs; exact hs)).1)) rfl (aA rfl (R_e ?_)))))))
  refine n6 _ _ (.done (W_t (aA t8 (aU rfl (rNq 1) (by omega) (aA rfl (R_e ?_))))))
  refine p13 _ _ _ ?_ ⟨(k+1),rfl,t1,t2,(eTq (rVq (aG (tbl (nmf (fgC m (clK m k))) (clK m k).length))) (by exact congrArg aG (aPb hm k))),(eTq (rNq (k+1)) (by rfl)),h2,h17,?_⟩
  · omega
  · omega
 have c9: ¬k < m.nx.length:=by have z:=c5; simpa using z
 refine aN (p33 _ _ _ (x2 _ _ (.done (W_r (aA t7 (aA rfl (aA rfl ?_)))))))
 refine R_e (bN ?_)
 refine jN (rVq (aG (clK m k))) (rVq (iV 0)) (mJ ?_ (fun _=>by simp)) (aW ?_)
 · rw [clR,if_pos hm,show k=m.nx.length by omega]
 · exact hm.symm
end Go.Proofs.YtmnnhjhkaepbaaaGreat
namespace Go.Proofs.YtmnnhjhkaepbaaaGreat
open Go Go.Proofs
theorem xY (m:M):bA Tryz.prog 52 [(V.agg [(iV m.i),(iV m.s),(aD m.nx),(aD m.ot)])] (V.tup [(aG (clR m)),(iV (bD m))]):=by
 refine pW Tryz.func52 aQb fun hB=>?_
 unfold s52
 dsimp only
 refine W_r (dN (i:=1) (n:=0) (m:=4) (cs:=[(iV m.i),(iV m.s),(aD m.nx),(aD m.ot)]) rfl (cVq rfl) rfl rfl rfl (aA rfl (aA rfl (R_e (W_r (aS rfl rfl rfl rfl (aZ rfl rfl ?_)))))))
 refine aS rfl rfl rfl rfl (bI rfl (aV (aDx m) rfl (cK rfl rfl (cK rfl rfl (aA rfl (aA rfl (R_e ?_)))))))
 refine bN ?_
 refine jN (rVq (aG (clR m))) (rVq (iV (bD m))) (dE (by simp) rfl) (dE (by simp) rfl)
end Go.Proofs.YtmnnhjhkaepbaaaGreat
namespace Go.Proofs.YtmnnhjhkaepbaaaGreat
open Go Go.Proofs
attribute [local irreducible] oP
theorem aFO (m:M):bA Tryz.prog 34 [(V.agg [(iV m.i),(iV m.s),(aD m.nx),(aD m.ot)])] (V.tup [(V.agg [(iV ((mnR m).i)),(iV ((mnR m).s)),(aD ((mnR m).nx)),(aD ((mnR m).ot))]),(iV (bD m))]):=by
 refine pW Tryz.func34 aSh fun hB=>?_
 unfold s34
 dsimp only
 refine W_r (dN (i:=1) (n:=0) (m:=4) (cs:=[(iV m.i),(iV m.s),(aD m.nx),(aD m.ot)]) rfl (cVq rfl) rfl rfl rfl (cQ (i:=2) (n:=0) (m:=4) rfl (cVq rfl) rfl (aA rfl (R_e (W_r (aS rfl rfl rfl rfl (aV (xY m) rfl ?_)))))))
 refine aA rfl (cK rfl rfl (cK rfl rfl (aA rfl (aA rfl (R_e (aB (W_r ?_)))))))
 refine aA rfl (dD rfl rfl (R_e ?_))
 refine aJ rfl (fun c1=>?_) fun c1=>?_
 ·
  have d0:=c1
  refine aB (W_r (eL rfl rfl (aA rfl (bC (vs:=[(iV 0),(iV 0),V.nilsl,V.nilsl]) (B':=bNq) rfl rfl rfl rfl (sB oB rfl rfl rfl rfl rfl) (aA rfl (R_e (aX ?_)))))))
  refine jS (gT (u:=(V.agg [(iV 0),(iV 0),V.nilsl,V.nilsl])) rfl (@rfl Blk bNq) (lB oB rfl rfl)) (jM (rVq (iV (bD m)))) (iM (bZ (aW ?_) (bZ (aW ?_) (bZ (eB ?_) (bZ (eB ?_) rfl))))) (dE (by simp) rfl)
  · rw [mnR,if_neg d0]; try rfl
  · rw [mnR,if_neg d0]; try rfl
  · rw [mnR,if_neg d0]; try rfl
  · rw [mnR,if_neg d0]; try rfl
 have hm:bD m=0:=by omega
 have mo:=bT hm
 have rc:=iZ hm
 have rl:=rc.len
 have me:=mo.2.2.2.2.2.2.1
 have cln:=aJ6 hm
 have ms:=nU hm (show 0≤m.s by omega) (show m.s < m.nx.length by omega)
 refine aE (W_r (aZ rfl rfl (aS rfl rfl rfl rfl (gA (i:=26) (n:=0) (qs:=[(0,(iV m.s))]) (rows:=[[(iV m.s)]]) rfl (cVq rfl) (bZ (congrArg (fun v=>(0,v)) rfl) rfl) rfl (aA rfl (R_e (W_r ?_)))))))
 refine aZ rfl rfl (aS rfl rfl rfl rfl (bI rfl (lA (i:=30) (n:=0) (m:=m.nx.length) (q:=m.nx.length) (f:=cI) (x:=0) rfl (cVq rfl) (rNq m.nx.length) (rNq m.nx.length) rfl (by omega) (by omega) (by omega) (aA rfl (R_e (aB (W_r ?_)))))))
 refine aA rfl (R_e (aC fun Q2 n2 x2 y2 z2=>?_))
 refine bH (fun mm T H=> ∃ (k:Nat),mm=m.nx.length - k∧T 1=(mPq 1)∧T 2=(mPq 2)∧T 4=(aG (clR m))∧T 6=(V.ms 26 1 0 1)∧T 7=(V.ms 30 1 0 m.nx.length)∧T 8=(iV ((k:Nat):Int))∧H 1=(bMq m)∧H 2=bNq∧H 9=bZq∧H 11=bZq∧H 12=bZq∧H 26=(bk 1 3 1 (List.map cI ([m.s])))∧H 30=(bk 1 3 1 (List.map cI (dA (fun _=>(-1:Int)) 0 m.nx.length k)))∧H 812=bZq∧H 813=bZq∧(k≤m.nx.length)) ?_ ?_
 ·
  refine ⟨_,0,rfl,rfl,rfl,(eTq (rVq (aG (clR m))) (by rfl)),rfl,rfl,(eTq (rVq (iV 0)) rfl),rfl,rfl,rfl,rfl,rfl,(eTq (@rfl Blk (bk 1 3 1 [[(iV m.s)]])) (by rfl)),(eTq (@rfl Blk (bk 1 3 1 (List.map cI (List.replicate m.nx.length 0)))) (by (rw [← wU,List.map_replicate]; done))),rfl,rfl,?_⟩
  · exact Nat.zero_le _
 intro mm T H ⟨k,hmm,t1,t2,t4,t6,t7,t8,h1,h2,h9,h11,h12,h26,h30,h812,h813,hk⟩ Q3 p13 p23 p33
 unfold aM9
 refine aB (W_r (aA t8 (aA t7 (cS rfl h30 (by rfl) (bJ rfl rfl (R_e ?_))))))
 refine aJ rfl (fun c4=>?_) fun c4=>?_
 ·
  refine aE (aC fun Q5 n5 x5 y5 z5=>(W_t (aA t7 (aA t8 (bR (i:=k) (rVq (V.ms 30 1 0 m.nx.length)) (rNq k) h30 oB rfl (by omega) (bC (vs:=[(iV (-1))]) (B':=(bk 1 3 1 (List.map cI ((dA (fun _=>(-1:Int)) 0 m.nx.length k).set k (-1))))) rfl rfl rfl h30 (eX (x:=(-1)) (i:=k) (by (rw [fT]; omega)) rfl rfl rfl rfl) (R_e ?_)))))))
  refine n5 _ _ (.done (W_t (aA t8 (aU rfl (rNq 1) (by omega) (aA rfl (R_e ?_))))))
  refine p13 _ _ _ ?_ ⟨(k+1),rfl,t1,t2,t4,t6,t7,(eTq (rNq (k+1)) (by rfl)),h1,h2,h9,h11,h12,h26,(eTq (@rfl Blk (bk 1 3 1 (List.map cI ((dA (fun _=>(-1:Int)) 0 m.nx.length k).set k (-1))))) (by (rw [← nS (f:=fun _=>(-1:Int)) (z:=0) (n:=m.nx.length) (j:=k) (by omega)]; first|done|rfl))),h812,h813,?_⟩
  · omega
  · omega
 have e7:dA (fun _=>(-1:Int)) 0 m.nx.length k=List.replicate m.nx.length (-1):=by rw [kM (by omega)]; unfold tbl; rw [List.map_const',List.length_range]
 refine aN (p33 _ _ _ (x2 _ _ (.done (W_r (aA t7 (aA t4 (aZ t1 h1 ?_)))))))
 refine aS rfl h1 rfl rfl (cP (i:=m.s) (rVq (aG (clR m))) (rVq (iV m.s)) (by omega) (by omega) rfl (aF rfl rfl (dR (i:=(nth (clR m) m.s.toNat)) (rVq (V.ms 30 1 0 m.nx.length)) (rVq (iV (nth (clR m) m.s.toNat))) h30 oB rfl (by omega) (by omega) (bC (vs:=[(iV 0)]) (B':=(bk 1 3 1 (List.map cI ((dA (fun _=>(-1:Int)) 0 m.nx.length k).set ((nth (clR m) m.s.toNat).toNat) 0)))) rfl rfl rfl h30 (eX (x:=0) (i:=((nth (clR m) m.s.toNat).toNat)) (by (rw [fT]; omega)) rfl rfl rfl rfl) (R_e (W_r (aZ t1 h1 ?_)))))))
 refine aS rfl h1 rfl rfl (eL rfl rfl (cQ (i:=9) (n:=0) (m:=4) rfl (cVq h9) rfl (bC (vs:=[(iV m.i),(iV 0),V.nilsl,V.nilsl]) (B':=(bk 1 24 4 [[(iV m.i),(iV 0),V.nilsl,V.nilsl]])) rfl rfl rfl rfl (sB oB rfl rfl rfl rfl rfl) (R_e (aB ?_)))))
 refine fQ (fun T H=>T 1=(mPq 1)∧T 2=(mPq 2)∧T 4=(aG (clR m))∧T 6=(V.ms 26 1 0 1)∧T 7=(V.ms 30 1 0 m.nx.length)∧T 9=(mPq 9)∧T 10=(iV 0)∧H 1=(bMq m)∧H 2=bNq∧H 9=(bk 1 24 4 [[(iV m.i),(iV 0),V.nilsl,V.nilsl]])∧H 11=bZq∧H 12=bZq∧H 26=(bk 1 3 1 (List.map cI ([m.s])))∧H 30=(bk 1 3 1 (List.map cI ((dA (fun _=>(-1:Int)) 0 m.nx.length k).set ((nth (clR m) m.s.toNat).toNat) 0)))∧H 812=bZq∧H 813=bZq∧True) ?_ ?_
 ·
  refine aA rfl ?_
  exact eE ⟨t1,t2,t4,t6,t7,rfl,rfl,h1,h2,rfl,h11,h12,h26,rfl,h812,h813,trivial⟩
 intro T H ⟨t1,t2,t4,t6,t7,t9,t10,h1,h2,h9,h11,h12,h26,h30,h812,h813,_⟩
 refine .lazyCell 812 25 1 9 0 2 [(iV m.i),(iV 0),V.nilsl,V.nilsl] (by decide) (by rw [h9]; rfl) (by rw [h9]; rfl) rfl (bF (R:=fun T H=>T 1=(mPq 1)∧T 2=(mPq 2)∧T 4=(aG (clR m))∧T 6=(V.ms 26 1 0 1)∧T 7=(V.ms 30 1 0 m.nx.length)∧T 9=(mPq 9)∧T 10=(iV 0)∧H 1=(bMq m)∧H 2=bNq∧H 9=(bk 1 24 4 [[(iV m.i),(iV 0),(V.ms 812 1 0 0),V.nilsl]])∧H 11=bZq∧H 12=bZq∧H 26=(bk 1 3 1 (List.map cI ([m.s])))∧H 30=(bk 1 3 1 (List.map cI ((dA (fun _=>(-1:Int)) 0 m.nx.length k).set ((nth (clR m) m.s.toNat).toNat) 0)))∧H 812=(bz 1 25 1 [])∧H 813=bZq∧True) ⟨t1,t2,t4,t6,t7,t9,t10,(uTq (uTq h1)),(uTq (uTq h2)),(by rw [aH,h9,(cVq h812)]; rfl),(uTq (uTq h11)),(uTq (uTq h12)),(uTq (uTq h26)),(uTq (uTq h30)),(by rw [aQ _ _ (by decide),aH,(cVq h812)]),(uTq (uTq h813)),trivial⟩ ?_)
 intro T H ⟨t1,t2,t4,t6,t7,t9,t10,h1,h2,h9,h11,h12,h26,h30,h812,h813,_⟩
 refine .lazyCell 813 25 1 9 0 3 [(iV m.i),(iV 0),(V.ms 812 1 0 0),V.nilsl] (by decide) (by rw [h9]; rfl) (by rw [h9]; rfl) rfl (.done ?_)
 refine bF (R:=fun T H=>T 1=(mPq 1)∧T 2=(mPq 2)∧T 4=(aG (clR m))∧T 6=(V.ms 26 1 0 1)∧T 7=(V.ms 30 1 0 m.nx.length)∧T 9=(mPq 9)∧T 10=(iV 0)∧H 1=(bMq m)∧H 2=bNq∧H 9=(bk 1 24 4 [[(iV m.i),(iV 0),(V.ms 812 1 0 0),(V.ms 813 1 0 0)]])∧H 11=bZq∧H 12=bZq∧H 26=(bk 1 3 1 (List.map cI ([m.s])))∧H 30=(bk 1 3 1 (List.map cI ((dA (fun _=>(-1:Int)) 0 m.nx.length k).set ((nth (clR m) m.s.toNat).toNat) 0)))∧H 812=(bz 1 25 1 [])∧H 813=(bz 1 25 1 [])∧True) ⟨t1,t2,t4,t6,t7,t9,t10,(uTq (uTq h1)),(uTq (uTq h2)),(by rw [aH,h9,(cVq h813)]; rfl),(uTq (uTq h11)),(uTq (uTq h12)),(uTq (uTq h26)),(uTq (uTq h30)),(uTq (uTq h812)),(by rw [aQ _ _ (by decide),aH,(cVq h813)]),trivial⟩ ?_
 intro T H ⟨t1,t2,t4,t6,t7,t9,t10,h1,h2,h9,h11,h12,h26,h30,h812,h813,_⟩
 refine aC fun Q6 n6 x6 y6 z6=>?_
 refine bH (fun mm T H=> ∃ (i:Nat) (v:Nat) (w:Nat) (u:Nat) (O:List Int) (N:List Int) (v11:Nat) (v12:Nat),mm=m.nx.length - i∧T 1=(mPq 1)∧T 2=(mPq 2)∧T 4=(aG (clR m))∧T 6=(V.ms 26 u 0 O.length)∧T 7=(V.ms 30 1 0 m.nx.length)∧T 9=(mPq 9)∧T 10=(iV ((i:Nat):Int))∧H 1=(bMq m)∧H 2=bNq∧H 9=(bk 1 24 4 [[(iV m.i),(iV 0),(V.ms 812 v 0 i),(V.ms 813 w 0 i)]])∧((H 11).ver=v11∧(H 11).live=false)∧((H 12).ver=v12∧(H 12).live=false)∧H 26=(bk u 3 1 (List.map cI O))∧H 30=(bk 1 3 1 (List.map cI N))∧H 812=(bz v 25 1 (List.map cL (tbl (rNx m) i)))∧H 813=(bz w 25 1 (List.map cL (tbl (rOt m) i)))∧(ROI m i O N)) ?_ ?_
 ·
  refine ⟨_,0,1,1,1,[m.s],((dA (fun _=>(-1:Int)) 0 m.nx.length k).set ((nth (clR m) m.s.toNat).toNat) 0),0,0,rfl,t1,t2,t4,(eTq t6 (by rfl)),t7,t9,(eTq t10 rfl),h1,h2,h9,⟨(cVq h11),congrArg Blk.live h11⟩,⟨(cVq h12),congrArg Blk.live h12⟩,(eTq h26 (by rfl)),(eTq h30 (by rfl)),(eTq h812 (by rfl)),(eTq h813 (by rfl)),?_⟩
  · first|exact aLZ hm|(rw [e7]; exact aLZ hm)
 intro mm T H ⟨i,v,w,u,O,N,v11,v12,hmm,t1,t2,t4,t6,t7,t9,t10,h1,h2,h9,h11,h12,h26,h30,h812,h813,hO⟩ Q7 p17 p27 p37
 unfold aMC
 refine aB (W_r (aA t10 (aA t6 (cS rfl h26 (by simp) (bJ rfl rfl (R_e ?_))))))
 refine aJ rfl (fun c8=>?_) fun c8=>?_
 ·
  have ol:=hO.len hm
  obtain ⟨a1,a2,a3⟩:=hO.at hm (by omega)
  have rr:=mo.2.2.2.2.2.2.2 (nth O i).toNat (by omega)
  refine aE (aC fun Q9 n9 x9 y9 z9=>(W_r (dQ (i:=11) (n:=v11) rfl h11.1 (dQ (i:=12) (n:=v12) rfl h12.1 (R_e (aB (W_r ?_)))))))
  refine aA rfl (R_e (aC fun Q10 n10 x10 y10 z10=>?_))
  refine bH (fun mm T H=> ∃ (j:Nat) (v2:Nat) (w2:Nat) (u2:Nat) (Q:List Int) (N2:List Int),mm=m.i.toNat - j∧T 1=(mPq 1)∧T 2=(mPq 2)∧T 4=(aG (clR m))∧T 6=(V.ms 26 u2 0 Q.length)∧T 7=(V.ms 30 1 0 m.nx.length)∧T 9=(mPq 9)∧T 10=(iV ((i:Nat):Int))∧T 11=(V.ms 11 v2 0 j)∧T 12=(V.ms 12 w2 0 j)∧T 13=(iV ((j:Nat):Int))∧H 1=(bMq m)∧H 2=bNq∧H 9=(bk 1 24 4 [[(iV m.i),(iV 0),(V.ms 812 v 0 i),(V.ms 813 w 0 i)]])∧H 11=(bz v2 3 1 (List.map cI (tbl (lH m i) j)))∧H 12=(bz w2 3 1 (List.map cI (tbl (lO m i) j)))∧H 26=(bk u2 3 1 (List.map cI Q))∧H 30=(bk 1 3 1 (List.map cI N2))∧H 812=(bz v 25 1 (List.map cL (tbl (rNx m) i)))∧H 813=(bz w 25 1 (List.map cL (tbl (rOt m) i)))∧(j≤m.i.toNat)∧(RQI m i j O Q N2)) ?_ ?_
  ·
   refine ⟨_,0,(v11+1),(v12+1),u,O,N,rfl,t1,t2,t4,t6,t7,t9,t10,(eTq (rVq (V.ms 11 (v11+1) 0 0)) (by rfl)),(eTq (rVq (V.ms 12 (v12+1) 0 0)) (by rfl)),(eTq (rVq (iV 0)) rfl),h1,h2,h9,(eTq (@rfl Blk (bz (v11+1) 3 1 [])) (by rfl)),(eTq (@rfl Blk (bz (v12+1) 3 1 [])) (by rfl)),h26,h30,h812,h813,?_,?_⟩
   · exact Nat.zero_le _
   · exact aUa hO
  intro mm T H ⟨j,v2,w2,u2,Q,N2,hmm,t1,t2,t4,t6,t7,t9,t10,t11,t12,t13,h1,h2,h9,h11,h12,h26,h30,h812,h813,hj,hQ⟩ Q11 p111 p211 p311
  unfold aLT
  refine aB (W_r (aA t13 (aZ t1 h1 (aS rfl h1 rfl rfl (bJ rfl rfl (R_e ?_))))))
  refine aJ rfl (fun c12=>?_) fun c12=>?_
  ·
   have q5:=hQ.2.2.2.2
   have ql:=hQ.2.2.2.1
   have qn:=hQ.2.2.1.1
   have rj:=rr.2.2 j (by omega)
   have rq:=mo.2.2.2.2.2.2.2 (nth Q i).toNat (by rw [q5]; omega)
   have rqj:=rq.2.2 j (by omega)
   have xr:=nU hm rqj.1 (by omega)
   obtain ⟨z1,z2,z3⟩:=hQ.step hm hO (by omega) (by omega)
   have eo:=hQ.out hm hO (j:=j) (by omega)
   refine aE (aC fun Q13 n13 x13 y13 z13=>(W_r (aZ t1 h1 (aS rfl h1 rfl rfl (aA t6 (aA t10 (bR (i:=i) (rVq (V.ms 26 u2 0 Q.length)) (rNq i) h26 oB rfl (by omega) ?_)))))))
   refine bL (v:=(iV (nth Q i))) rfl h26 (cJ (by omega) (by rfl)) (cP (i:=(nth Q i)) (rVq (aD m.nx)) (rVq (iV (nth Q i))) (by omega) (by omega) rfl (aF rfl rfl (aA t13 (bE (i:=j) (rVq (aG (nth m.nx (nth Q i).toNat))) (rNq j) (by omega) rfl (aF rfl rfl (aA rfl (R_e ?_)))))))
   refine aB (W_r (aA t7 (aA t4 (aA rfl (cP (i:=(nth (nth m.nx (nth Q i).toNat) j)) (rVq (aG (clR m))) (rVq (iV (nth (nth m.nx (nth Q i).toNat) j))) (by omega) (by omega) rfl (aF rfl rfl (dR (i:=(nth (clR m) (nth (nth m.nx (nth Q i).toNat) j).toNat)) (rVq (V.ms 30 1 0 m.nx.length)) (rVq (iV (nth (clR m) (nth (nth m.nx (nth Q i).toNat) j).toNat))) h30 oB rfl (by omega) (by omega) ?_)))))))
   refine bL (v:=(iV (nth N2 ((nth (clR m) (nth (nth m.nx (nth Q i).toNat) j).toNat).toNat)))) rfl h30 (cJ (by omega) (by rfl)) (bJ rfl rfl (R_e ?_))
   refine aJ rfl (fun c14=>?_) fun c14=>?_
   ·
    obtain ⟨g1,g2⟩:=z1 c14
    have e9:nth (Q++[nth (nth m.nx (nth Q i).toNat) j]) i=nth Q i:=bQ (by omega)
    refine aB (W_r (aA t7 (aA t4 (aA rfl (cP (i:=(nth (nth m.nx (nth Q i).toNat) j)) (rVq (aG (clR m))) (rVq (iV (nth (nth m.nx (nth Q i).toNat) j))) (by omega) (by omega) rfl (aF rfl rfl (aA t6 ?_)))))))
    refine cS rfl h26 (by simp) (dR (i:=(nth (clR m) (nth (nth m.nx (nth Q i).toNat) j).toNat)) (rVq (V.ms 30 1 0 m.nx.length)) (rVq (iV (nth (clR m) (nth (nth m.nx (nth Q i).toNat) j).toNat))) h30 oB rfl (by omega) (by omega) (bC (vs:=[(iV ((Q.length:Nat):Int))]) (B':=(bk 1 3 1 (List.map cI (N2.set ((nth (clR m) (nth (nth m.nx (nth Q i).toNat) j).toNat).toNat) ((Q.length:Nat):Int))))) rfl rfl rfl h30 (eX (x:=((Q.length:Nat):Int)) (i:=((nth (clR m) (nth (nth m.nx (nth Q i).toNat) j).toNat).toNat)) (by omega) rfl rfl rfl rfl) (R_e (W_r (aA t6 (aA rfl (bM rfl rfl ?_)))))))
    refine bK (l:=Q) (f:=cI) (x:=(nth (nth m.nx (nth Q i).toNat) j)) (rVq (V.ms 26 u2 0 Q.length)) h26 (by rfl) (rVq (V.sl [[(iV (nth (nth m.nx (nth Q i).toNat) j))]])) rfl rfl (by omega) (by omega) (aA rfl (R_e ?_))
    refine fV (fun T H=>T 1=(mPq 1)∧T 2=(mPq 2)∧T 4=(aG (clR m))∧T 6=(V.ms 26 (u2+1) 0 (Q.length+1))∧T 7=(V.ms 30 1 0 m.nx.length)∧T 9=(mPq 9)∧T 10=(iV ((i:Nat):Int))∧T 11=(V.ms 11 (v2+1) 0 (j+1))∧T 12=(V.ms 12 w2 0 j)∧T 13=(iV ((j:Nat):Int))∧H 1=(bMq m)∧H 2=bNq∧H 9=(bk 1 24 4 [[(iV m.i),(iV 0),(V.ms 812 v 0 i),(V.ms 813 w 0 i)]])∧H 11=(bz (v2+1) 3 1 (List.map cI (tbl (lH m i) j++[(nth (N2.set ((nth (clR m) (nth (nth m.nx (nth Q i).toNat) j).toNat).toNat) ((Q.length:Nat):Int)) ((nth (clR m) (nth (nth m.nx (nth Q i).toNat) j).toNat).toNat))])))∧H 12=(bz w2 3 1 (List.map cI (tbl (lO m i) j)))∧H 26=(bk (u2+1) 3 1 (List.map cI (Q++[(nth (nth m.nx (nth Q i).toNat) j)])))∧H 30=(bk 1 3 1 (List.map cI (N2.set ((nth (clR m) (nth (nth m.nx (nth Q i).toNat) j).toNat).toNat) ((Q.length:Nat):Int))))∧H 812=(bz v 25 1 (List.map cL (tbl (rNx m) i)))∧H 813=(bz w 25 1 (List.map cL (tbl (rOt m) i)))∧True) ?_ ?_
    ·
     refine aA t11 (aA t7 (aA t4 (aA rfl (cP (i:=(nth (nth m.nx (nth Q i).toNat) j)) (rVq (aG (clR m))) (rVq (iV (nth (nth m.nx (nth Q i).toNat) j))) (by omega) (by omega) rfl (aF rfl rfl (dR (i:=(nth (clR m) (nth (nth m.nx (nth Q i).toNat) j).toNat)) (rVq (V.ms 30 1 0 m.nx.length)) (rVq (iV (nth (clR m) (nth (nth m.nx (nth Q i).toNat) j).toNat))) (@rfl Blk (bk 1 3 1 (List.map cI (N2.set ((nth (clR m) (nth (nth m.nx (nth Q i).toNat) j).toNat).toNat) ((Q.length:Nat):Int))))) oB rfl (by omega) (by omega) (bL (v:=(iV (nth (N2.set ((nth (clR m) (nth (nth m.nx (nth Q i).toNat) j).toNat).toNat) ((Q.length:Nat):Int)) ((nth (clR m) (nth (nth m.nx (nth Q i).toNat) j).toNat).toNat)))) rfl (@rfl Blk (bk 1 3 1 (List.map cI (N2.set ((nth (clR m) (nth (nth m.nx (nth Q i).toNat) j).toNat).toNat) ((Q.length:Nat):Int))))) (cJ (by (rw [List.length_set]; omega)) (by rfl)) ?_)))))))
     refine bM rfl rfl (bK (l:=(tbl (lH m i) j)) (f:=cI) (x:=(nth (N2.set ((nth (clR m) (nth (nth m.nx (nth Q i).toNat) j).toNat).toNat) ((Q.length:Nat):Int)) ((nth (clR m) (nth (nth m.nx (nth Q i).toNat) j).toNat).toNat))) (rVq (V.ms 11 v2 0 j)) h11 (by exact (aP _ _).symm) (rVq (V.sl [[(iV (nth (N2.set ((nth (clR m) (nth (nth m.nx (nth Q i).toNat) j).toNat).toNat) ((Q.length:Nat):Int)) ((nth (clR m) (nth (nth m.nx (nth Q i).toNat) j).toNat).toNat)))]])) rfl rfl (by omega) (by omega) (aA rfl ?_))
     exact eE ⟨t1,t2,t4,rfl,t7,t9,t10,rfl,t12,t13,h1,h2,h9,rfl,h12,rfl,rfl,h812,h813,trivial⟩
    intro T H ⟨t1,t2,t4,t6,t7,t9,t10,t11,t12,t13,h1,h2,h9,h11,h12,h26,h30,h812,h813,_⟩
    refine W_t (aA t12 (aZ t1 h1 (aS rfl h1 rfl rfl (aA t6 (aA t10 (bR (i:=i) (rVq (V.ms 26 (u2+1) 0 (Q.length+1))) (rNq i) h26 oB rfl (by omega) (bL (v:=(iV (nth (Q++[(nth (nth m.nx (nth Q i).toNat) j)]) i))) rfl h26 (cJ (by (rw [List.length_append]; omega)) (by rfl)) ?_)))))))
    refine cP (i:=(nth (Q++[(nth (nth m.nx (nth Q i).toNat) j)]) i)) (rVq (aD m.ot)) (rVq (iV (nth (Q++[(nth (nth m.nx (nth Q i).toNat) j)]) i))) (by omega) (by omega) rfl (aF rfl rfl (aA t13 (bE (i:=j) (rVq (aG (nth m.ot (nth (Q++[(nth (nth m.nx (nth Q i).toNat) j)]) i).toNat))) (rNq j) (by (rw [e9]; omega)) rfl (aF rfl rfl (bM rfl rfl (bK (l:=(tbl (lO m i) j)) (f:=cI) (x:=(nth (nth m.ot (nth (Q++[(nth (nth m.nx (nth Q i).toNat) j)]) i).toNat) j)) (rVq (V.ms 12 w2 0 j)) h12 (by exact (aP _ _).symm) (rVq (V.sl [[(iV (nth (nth m.ot (nth (Q++[(nth (nth m.nx (nth Q i).toNat) j)]) i).toNat) j))]])) rfl rfl (by omega) (by omega) (aA rfl ?_)))))))
    refine R_e (n13 _ _ (.done (W_t (aA t13 (aU rfl (rNq 1) (by omega) (aA rfl (R_e ?_)))))))
    refine p111 _ _ _ ?_ ⟨(j+1),(v2+1),(w2+1),(u2+1),(Q++[(nth (nth m.nx (nth Q i).toNat) j)]),(N2.set ((nth (clR m) (nth (nth m.nx (nth Q i).toNat) j).toNat).toNat) ((Q.length:Nat):Int)),rfl,t1,t2,t4,(eTq t6 (by simp)),t7,t9,t10,(eTq t11 (by rfl)),(eTq (rVq (V.ms 12 (w2+1) 0 (j+1))) (by rfl)),(eTq (rNq (j+1)) (by rfl)),h1,h2,h9,(eTq h11 (by (rw [cE,g2]; first|done|rfl))),(eTq (@rfl Blk (bz (w2+1) 3 1 (List.map cI (tbl (lO m i) j++[(nth (nth m.ot (nth (Q++[(nth (nth m.nx (nth Q i).toNat) j)]) i).toNat) j)])))) (by (rw [cE,e9,eo]; first|done|rfl))),(eTq h26 (by rfl)),(eTq h30 (by rfl)),h812,h813,?_,?_⟩
    · omega
    · omega
    · exact g1
   obtain ⟨g1,g2⟩:=z2 c14
   refine aE (W_r (aA t11 (aA t7 (aA t4 (aA rfl (cP (i:=(nth (nth m.nx (nth Q i).toNat) j)) (rVq (aG (clR m))) (rVq (iV (nth (nth m.nx (nth Q i).toNat) j))) (by omega) (by omega) rfl (aF rfl rfl ?_)))))))
   refine dR (i:=(nth (clR m) (nth (nth m.nx (nth Q i).toNat) j).toNat)) (rVq (V.ms 30 1 0 m.nx.length)) (rVq (iV (nth (clR m) (nth (nth m.nx (nth Q i).toNat) j).toNat))) h30 oB rfl (by omega) (by omega) (bL (v:=(iV (nth N2 ((nth (clR m) (nth (nth m.nx (nth Q i).toNat) j).toNat).toNat)))) rfl h30 (cJ (by omega) (by rfl)) (bM rfl rfl (bK (l:=(tbl (lH m i) j)) (f:=cI) (x:=(nth N2 ((nth (clR m) (nth (nth m.nx (nth Q i).toNat) j).toNat).toNat))) (rVq (V.ms 11 v2 0 j)) h11 (by exact (aP _ _).symm) (rVq (V.sl [[(iV (nth N2 ((nth (clR m) (nth (nth m.nx (nth Q i).toNat) j).toNat).toNat)))]])) rfl rfl (by omega) (by omega) (aA rfl (R_e ?_)))))
   refine aH1 (fun T H=>T 1=(mPq 1)∧T 2=(mPq 2)∧T 4=(aG (clR m))∧T 6=(V.ms 26 u2 0 Q.length)∧T 7=(V.ms 30 1 0 m.nx.length)∧T 9=(mPq 9)∧T 10=(iV ((i:Nat):Int))∧T 11=(V.ms 11 (v2+1) 0 (j+1))∧T 12=(V.ms 12 (w2+1) 0 (j+1))∧T 13=(iV ((j:Nat):Int))∧H 1=(bMq m)∧H 2=bNq∧H 9=(bk 1 24 4 [[(iV m.i),(iV 0),(V.ms 812 v 0 i),(V.ms 813 w 0 i)]])∧H 11=(bz (v2+1) 3 1 (List.map cI (tbl (lH m i) j++[(nth N2 ((nth (clR m) (nth (nth m.nx (nth Q i).toNat) j).toNat).toNat))])))∧H 12=(bz (w2+1) 3 1 (List.map cI (tbl (lO m i) j++[(nth (nth m.ot (nth Q i).toNat) j)])))∧H 26=(bk u2 3 1 (List.map cI Q))∧H 30=(bk 1 3 1 (List.map cI N2))∧H 812=(bz v 25 1 (List.map cL (tbl (rNx m) i)))∧H 813=(bz w 25 1 (List.map cL (tbl (rOt m) i)))∧True) ?_ ?_
   ·
    refine aA t12 (aZ t1 h1 (aS rfl h1 rfl rfl (aA t6 (aA t10 (bR (i:=i) (rVq (V.ms 26 u2 0 Q.length)) (rNq i) h26 oB rfl (by omega) (bL (v:=(iV (nth Q i))) rfl h26 (cJ (by omega) (by rfl)) (cP (i:=(nth Q i)) (rVq (aD m.ot)) (rVq (iV (nth Q i))) (by omega) (by omega) rfl ?_)))))))
    refine aF rfl rfl (aA t13 (bE (i:=j) (rVq (aG (nth m.ot (nth Q i).toNat))) (rNq j) (by omega) rfl (aF rfl rfl (bM rfl rfl (bK (l:=(tbl (lO m i) j)) (f:=cI) (x:=(nth (nth m.ot (nth Q i).toNat) j)) (rVq (V.ms 12 w2 0 j)) h12 (by exact (aP _ _).symm) (rVq (V.sl [[(iV (nth (nth m.ot (nth Q i).toNat) j))]])) rfl rfl (by omega) (by omega) (aA rfl ?_))))))
    exact eE ⟨t1,t2,t4,t6,t7,t9,t10,rfl,rfl,t13,h1,h2,h9,rfl,rfl,h26,h30,h812,h813,trivial⟩
   intro T H ⟨t1,t2,t4,t6,t7,t9,t10,t11,t12,t13,h1,h2,h9,h11,h12,h26,h30,h812,h813,_⟩
   refine n13 _ _ (.done (W_t (aA t13 (aU rfl (rNq 1) (by omega) (aA rfl (R_e ?_))))))
   refine p111 _ _ _ ?_ ⟨(j+1),(v2+1),(w2+1),u2,Q,N2,rfl,t1,t2,t4,t6,t7,t9,t10,(eTq t11 (by rfl)),(eTq t12 (by rfl)),(eTq (rNq (j+1)) (by rfl)),h1,h2,h9,(eTq h11 (by (rw [cE,g2]; first|done|rfl))),(eTq h12 (by (rw [cE,eo]; first|done|rfl))),h26,h30,h812,h813,?_,?_⟩
   · omega
   · omega
   · exact g1
  have f1:=hQ.fin hm hO (by omega) (by omega)
  have ej:rNx m i=tbl (lH m i) j:=by unfold rNx; rw [show m.i.toNat=j by omega]
  have ek:rOt m i=tbl (lO m i) j:=by unfold rOt; rw [show m.i.toNat=j by omega]
  refine aN (p311 _ _ _ (x10 _ _ (bF (R:=fun T H=>T 1=(mPq 1)∧T 2=(mPq 2)∧T 4=(aG (clR m))∧T 6=(V.ms 26 u2 0 Q.length)∧T 7=(V.ms 30 1 0 m.nx.length)∧T 9=(mPq 9)∧T 10=(iV ((i:Nat):Int))∧T 11=(V.ms 11 v2 0 j)∧T 12=(V.ms 12 w2 0 j)∧T 13=(iV ((j:Nat):Int))∧T 59=(V.bool (decide (((j:Nat):Int) < m.i)))∧H 1=(bMq m)∧H 2=bNq∧H 9=(bk 1 24 4 [[(iV m.i),(iV 0),(V.ms 812 v 0 i),(V.ms 813 w 0 i)]])∧H 11=(bz v2 3 1 (List.map cI (tbl (lH m i) j)))∧H 12=(bz w2 3 1 (List.map cI (tbl (lO m i) j)))∧H 26=(bk u2 3 1 (List.map cI Q))∧H 30=(bk 1 3 1 (List.map cI N2))∧H 812=(bz v 25 1 (List.map cL (tbl (rNx m) i)))∧H 813=(bz w 25 1 (List.map cL (tbl (rOt m) i)))∧True) ⟨t1,t2,t4,t6,t7,t9,t10,t11,t12,t13,(rVq (V.bool (decide (((j:Nat):Int) < m.i)))),h1,h2,h9,h11,h12,h26,h30,h812,h813,trivial⟩ ?_)))
  intro T H ⟨t1,t2,t4,t6,t7,t9,t10,t11,t12,t13,t59,h1,h2,h9,h11,h12,h26,h30,h812,h813,_⟩
  refine .freeze 11 (.done ?_)
  refine bF (R:=fun T H=>T 1=(mPq 1)∧T 2=(mPq 2)∧T 4=(aG (clR m))∧T 6=(V.ms 26 u2 0 Q.length)∧T 7=(V.ms 30 1 0 m.nx.length)∧T 9=(mPq 9)∧T 10=(iV ((i:Nat):Int))∧T 11=(aG (tbl (lH m i) j))∧T 12=(V.ms 12 w2 0 j)∧T 13=(iV ((j:Nat):Int))∧T 59=(V.bool (decide (((j:Nat):Int) < m.i)))∧H 1=(bMq m)∧H 2=bNq∧H 9=(bk 1 24 4 [[(iV m.i),(iV 0),(V.ms 812 v 0 i),(V.ms 813 w 0 i)]])∧((H 11).ver=v2∧(H 11).live=false)∧H 12=(bz w2 3 1 (List.map cI (tbl (lO m i) j)))∧H 26=(bk u2 3 1 (List.map cI Q))∧H 30=(bk 1 3 1 (List.map cI N2))∧H 812=(bz v 25 1 (List.map cL (tbl (rNx m) i)))∧H 813=(bz w 25 1 (List.map cL (tbl (rOt m) i)))∧True) ⟨(aL t1 rfl),(aL t2 rfl),(aL t4 rfl),(aL t6 (bV (by decide))),(aL t7 (bV (by decide))),(aL t9 rfl),(aL t10 rfl),(aL t11 (fR h11 (by simp) (l:=(tbl (lH m i) j)) rfl (by exact (aP _ _).symm))),(aL t12 (bV (by decide))),(aL t13 rfl),(aL t59 rfl),(aK h1 (by decide)),(aK h2 (by decide)),(aK h9 (by decide)),(bG (cVq h11)),(aK h12 (by decide)),(aK h26 (by decide)),(aK h30 (by decide)),(aK h812 (by decide)),(aK h813 (by decide)),trivial⟩ ?_
  intro T H ⟨t1,t2,t4,t6,t7,t9,t10,t11,t12,t13,t59,h1,h2,h9,h11,h12,h26,h30,h812,h813,_⟩
  refine fQ (fun T H=>T 1=(mPq 1)∧T 2=(mPq 2)∧T 4=(aG (clR m))∧T 6=(V.ms 26 u2 0 Q.length)∧T 7=(V.ms 30 1 0 m.nx.length)∧T 9=(mPq 9)∧T 10=(iV ((i:Nat):Int))∧T 12=(V.ms 12 w2 0 j)∧H 1=(bMq m)∧H 2=bNq∧H 9=(bk 1 24 4 [[(iV m.i),(iV 0),(V.ms 812 (v+1) 0 (i+1)),(V.ms 813 w 0 i)]])∧((H 11).ver=v2∧(H 11).live=false)∧H 12=(bz w2 3 1 (List.map cI (tbl (lO m i) j)))∧H 26=(bk u2 3 1 (List.map cI Q))∧H 30=(bk 1 3 1 (List.map cI N2))∧H 812=(bz (v+1) 25 1 (List.map cL (tbl (rNx m) i++[tbl (lH m i) j])))∧H 813=(bz w 25 1 (List.map cL (tbl (rOt m) i)))∧True) ?_ ?_
  ·
   refine aZ t9 h9 (aS rfl h9 rfl rfl (aA t11 (bM rfl rfl (bK (l:=(tbl (rNx m) i)) (f:=cL) (x:=(tbl (lH m i) j)) (rVq (V.ms 812 v 0 i)) h812 (by exact (aP _ _).symm) (rVq (V.sl [[(aG (tbl (lH m i) j))]])) rfl rfl (by omega) (by omega) (aZ t9 h9 (bC (vs:=[(V.ms 812 (v+1) 0 (i+1))]) (B':=(bk 1 24 4 [[(iV m.i),(iV 0),(V.ms 812 (v+1) 0 (i+1)),(V.ms 813 w 0 i)]])) rfl rfl rfl h9 (sB oB rfl rfl rfl rfl rfl) ?_))))))
   exact eE ⟨t1,t2,t4,t6,t7,t9,t10,t12,h1,h2,rfl,h11,h12,h26,h30,rfl,h813,trivial⟩
  intro T H ⟨t1,t2,t4,t6,t7,t9,t10,t12,h1,h2,h9,h11,h12,h26,h30,h812,h813,_⟩
  refine .freeze 12 (.done ?_)
  refine bF (R:=fun T H=>T 1=(mPq 1)∧T 2=(mPq 2)∧T 4=(aG (clR m))∧T 6=(V.ms 26 u2 0 Q.length)∧T 7=(V.ms 30 1 0 m.nx.length)∧T 9=(mPq 9)∧T 10=(iV ((i:Nat):Int))∧T 12=(aG (tbl (lO m i) j))∧H 1=(bMq m)∧H 2=bNq∧H 9=(bk 1 24 4 [[(iV m.i),(iV 0),(V.ms 812 (v+1) 0 (i+1)),(V.ms 813 w 0 i)]])∧((H 11).ver=v2∧(H 11).live=false)∧((H 12).ver=w2∧(H 12).live=false)∧H 26=(bk u2 3 1 (List.map cI Q))∧H 30=(bk 1 3 1 (List.map cI N2))∧H 812=(bz (v+1) 25 1 (List.map cL (tbl (rNx m) i++[tbl (lH m i) j])))∧H 813=(bz w 25 1 (List.map cL (tbl (rOt m) i)))∧True) ⟨(aL t1 rfl),(aL t2 rfl),(aL t4 rfl),(aL t6 (bV (by decide))),(aL t7 (bV (by decide))),(aL t9 rfl),(aL t10 rfl),(aL t12 (fR h12 (by simp) (l:=(tbl (lO m i) j)) rfl (by exact (aP _ _).symm))),(aK h1 (by decide)),(aK h2 (by decide)),(aK h9 (by decide)),(bU h11),(bG (cVq h12)),(aK h26 (by decide)),(aK h30 (by decide)),(aK h812 (by decide)),(aK h813 (by decide)),trivial⟩ ?_
  intro T H ⟨t1,t2,t4,t6,t7,t9,t10,t12,h1,h2,h9,h11,h12,h26,h30,h812,h813,_⟩
  refine W_t (aZ t9 h9 (aS rfl h9 rfl rfl (aA t12 (bM rfl rfl (bK (l:=(tbl (rOt m) i)) (f:=cL) (x:=(tbl (lO m i) j)) (rVq (V.ms 813 w 0 i)) h813 (by exact (aP _ _).symm) (rVq (V.sl [[(aG (tbl (lO m i) j))]])) rfl rfl (by omega) (by omega) (aZ t9 h9 (bC (vs:=[(V.ms 813 (w+1) 0 (i+1))]) (B':=(bk 1 24 4 [[(iV m.i),(iV 0),(V.ms 812 (v+1) 0 (i+1)),(V.ms 813 (w+1) 0 (i+1))]])) rfl rfl rfl h9 (sB oB rfl rfl rfl rfl rfl) ?_)))))))
  refine R_e (n9 _ _ (.done (W_t (aA t10 (aU rfl (rNq 1) (by omega) (aA rfl (R_e ?_)))))))
  refine p17 _ _ _ ?_ ⟨(i+1),(v+1),(w+1),u2,Q,N2,v2,w2,rfl,t1,t2,t4,t6,t7,t9,(eTq (rNq (i+1)) (by rfl)),h1,h2,(eTq (@rfl Blk (bk 1 24 4 [[(iV m.i),(iV 0),(V.ms 812 (v+1) 0 (i+1)),(V.ms 813 (w+1) 0 (i+1))]])) (by rfl)),h11,h12,h26,h30,(eTq h812 (by (rw [cE,ej,List.map_append]; first|done|rfl))),(eTq (@rfl Blk (bz (w+1) 25 1 (List.map cL (tbl (rOt m) i++[tbl (lO m i) j])))) (by (rw [cE,ek,List.map_append]; first|done|rfl))),?_⟩
  · omega
  · exact f1
 have e8:=hO.end hm (by omega)
 refine aN (p37 _ _ _ (x6 _ _ (.done (W_r (aS t9 h9 rfl rfl (bC (vs:=[(iV m.i),(iV 0),(V.ms 812 v 0 i),(V.ms 813 w 0 i)]) (B':=(bk 1 24 4 [[(iV m.i),(iV 0),(V.ms 812 v 0 i),(V.ms 813 w 0 i)]])) t2 rfl rfl h2 (sB oB rfl rfl rfl rfl rfl) (aA rfl ?_)))))))
 refine R_e (bN ?_)
 refine jS (gT (u:=(V.agg [(iV m.i),(iV 0),(V.ms 812 v 0 i),(V.ms 813 w 0 i)])) t2 (@rfl Blk (bk 1 24 4 [[(iV m.i),(iV 0),(V.ms 812 v 0 i),(V.ms 813 w 0 i)]])) (lB oB rfl rfl)) (jM (rVq (iV 0))) (iM (bZ (aW ?_) (bZ (aW ?_) (bZ (gD h812 (by simp) (l:=(tbl (rNx m) i)) rfl (by exact (aP _ _).symm) (fun _=>by simp) ?_) (bZ (gD h813 (by simp) (l:=(tbl (rOt m) i)) rfl (by exact (aP _ _).symm) (fun _=>by simp) ?_) rfl))))) (aW ?_)
 · rw [mnR,if_pos hm,uC hm]; try first|rfl|(rw [← e8]; done)|(rw [← e8]; rfl)
 · rw [mnR,if_pos hm,uC hm]; try first|rfl|(rw [← e8]; done)|(rw [← e8]; rfl)
 · rw [mnR,if_pos hm,uC hm]; try first|rfl|(rw [← e8]; done)|(rw [← e8]; rfl)
 · rw [mnR,if_pos hm,uC hm]; try first|rfl|(rw [← e8]; done)|(rw [← e8]; rfl)
 · exact hm.symm
end Go.Proofs.YtmnnhjhkaepbaaaGreat
namespace Go.Proofs.YtmnnhjhkaepbaaaGreat
open Go Go.Proofs
def aVc:List SO:=[
 qM 30 1,
 qM 31 7,
 qA 32 1 30 31,
 ql 33 32,
 qC 34 .lss 33 0,
 qM 35 34,
 ⟨some (35,false),some 36,.mv (.t 1)⟩,
 ⟨some (35,false),some 37,.mv (.t 7)⟩,
 ⟨some (35,false),some 38,.idx 1 (.t 36) (.t 37)⟩,
 ⟨some (35,false),some 39,.load false 1 (.t 38)⟩,
 ⟨some (35,false),some 40,.fld 0 (.t 2)⟩,
 ⟨some (35,false),some 41,.load false 1 (.t 40)⟩,
 ⟨some (35,false),some 42,.bin .geq (.t 39) (.t 41)⟩,
 sO 43 (.pick (.t 35) (.c (.bool true)) (.t 42))]
def aNN:List SO:=[
 qM 50 1,
 qM 51 8,
 qA 52 1 50 51,
 ql 53 52,
 qM 54 1,
 qM 55 7,
 qA 56 1 54 55,
 ql 57 56,
 qP 58 .eql 53 57]
def aMu:SC:=.seq (.seq (.reg [qM 45 8,qM 46 7,qP 47 .lss 45 46]) (.cond (.t 47) (.skip) (.exit 2))) (.seq (.block 3 (.seq (.reg aNN) (.cond (.t 58) (.seq (.reg [sO 59 (.build [.int .i64 0,.int .i64 0,.nilsl,.nilsl] []),sN (.store 4 (.t 4) (.t 59)),qI 5 7]) (.ret)) (.skip)))) (.reg [qM 48 8,qC 49 .add 48 1,qM 8 49]))
def aM3:SC:=.seq (.seq (.reg [qM 24 7,qM 25 1,qN 26 25,qP 27 .lss 24 26]) (.cond (.t 27) (.skip) (.exit 0))) (.seq (.block 1 (.seq (.seq (.reg aVc) (.cond (.t 43) (.seq (.reg [sO 44 (.build [.int .i64 0,.int .i64 0,.nilsl,.nilsl] []),sN (.store 4 (.t 4) (.t 44)),qI 5 2]) (.ret)) (.skip))) (.seq (.reg [qI 8 0]) (.block 2 (.loop aMu))))) (.reg [qM 28 7,qC 29 .add 28 1,qM 7 29]))
def aPo:List SO:=[
 qM 60 1,
 qN 61 60,
 qF 62 1 2,
 ql 63 62,
 sO 64 (.build [.int .i64 0,.int .i64 0,.nilsl,.nilsl] [(0,1,.t 61),(1,1,.t 63)]),
 sO 9 (.alloc 24 [.int .i64 0,.int .i64 0,.nilsl,.nilsl]),
 sN (.store 4 (.t 9) (.t 64))]
def aRF:List SO:=[
 qM 78 11,
 qF 79 2 2,
 ql 80 79,
 qM 81 10,
 qA 82 1 80 81,
 ql 83 82,
 qM 84 1,
 qM 85 13,
 qA 86 1 84 85,
 ql 87 86,
 qA 88 1 83 87,
 ql 89 88,
 sO 90 (.bslice 3 1 false [.int .i64 0] 1 [(0,.t 89)]),
 sO 91 (.append 3 1 8 (.t 78) (.t 90)),
 qM 11 91]
def aOl:List SO:=[
 qM 92 12,
 qF 93 3 2,
 ql 94 93,
 qM 95 10,
 qA 96 1 94 95,
 ql 97 96,
 qM 98 1,
 qM 99 13,
 qA 100 1 98 99,
 ql 101 100,
 qA 102 1 97 101,
 ql 103 102,
 sO 104 (.bslice 3 1 false [.int .i64 0] 1 [(0,.t 103)]),
 sO 105 (.append 3 1 8 (.t 92) (.t 104)),
 qM 12 105]
def aMb:SC:=.seq (.seq (.reg [qM 72 13,qM 73 1,qN 74 73,qP 75 .lss 72 74]) (.cond (.t 75) (.skip) (.exit 6))) (.seq (.block 7 (.seq (.reg aRF) (.reg aOl))) (.reg [qM 76 13,qC 77 .add 76 1,qM 13 77]))
def aPQ:List SO:=[
 qF 106 2 9,
 ql 107 106,
 qM 108 11,
 sO 109 (.bslice 25 1 false [.nilsl] 1 [(0,.t 108)]),
 sO 110 (.append 25 1 24 (.t 107) (.t 109)),
 qF 111 2 9,
 sN (.store 1 (.t 111) (.t 110))]
def aNk:List SO:=[
 qF 112 3 9,
 ql 113 112,
 qM 114 12,
 sO 115 (.bslice 25 1 false [.nilsl] 1 [(0,.t 114)]),
 sO 116 (.append 25 1 24 (.t 113) (.t 115)),
 qF 117 3 9,
 sN (.store 1 (.t 117) (.t 116))]
def aL0:SC:=.seq (.seq (.reg [qM 65 10,qF 66 2 2,ql 67 66,qN 68 67,qP 69 .lss 65 68]) (.cond (.t 69) (.skip) (.exit 4))) (.seq (.block 5 (.seq (.reg [sO 11 (.lazy 3 1),sO 12 (.lazy 3 1)]) (.seq (.seq (.reg [qI 13 0]) (.block 6 (.loop aMb))) (.seq (.reg aPQ) (.reg aNk))))) (.reg [qM 70 10,qC 71 .add 70 1,qM 10 71]))
def s46:SF:=⟨122,[.cell 4 true 4,.tmp 5],.seq (.reg [sO 2 (.box 24 4 (.t 0)),sO 4 (.alloc 24 [.int .i64 0,.int .i64 0,.nilsl,.nilsl]),qI 5 0]) (.seq (.seq (.reg [qL 14 4 2,sO 15 (.call false 32 [.t 14]),qM 6 15]) (.seq (.reg [qM 16 6,qC 17 .neq 16 0]) (.cond (.t 17) (.seq (.reg [sO 18 (.build [.int .i64 0,.int .i64 0,.nilsl,.nilsl] []),qM 19 6,sN (.store 4 (.t 4) (.t 18)),qM 5 19]) (.ret)) (.skip)))) (.seq (.seq (.reg [qM 20 1,qN 21 20,qC 22 .eql 21 0]) (.cond (.t 22) (.seq (.reg [sO 23 (.build [.int .i64 0,.int .i64 0,.nilsl,.nilsl] []),sN (.store 4 (.t 4) (.t 23)),qI 5 19]) (.ret)) (.skip))) (.seq (.seq (.reg [qI 7 0]) (.block 0 (.loop aM3))) (.seq (.reg aPo) (.seq (.seq (.reg [qI 10 0]) (.block 4 (.loop aL0))) (.seq (.reg [qL 118 4 9,sO 119 (.call false 72 [.t 118]),qE 120 119 0,qE 121 119 1,sN (.store 4 (.t 4) (.t 120)),qM 5 121]) (.ret)))))))⟩
theorem aNB:aO Tryz.prog ⟨[39,75,135,136,137,155,161,186,188,194,195,196,211,212,213,226,230,233,238],[11,12],[],[]⟩ Tryz.f46=some s46:=by kernel_rfl
def aN2:List SO:=[
 qM 34 8,
 qM 35 5,
 qF 36 2 1,
 ql 37 36,
 qM 38 5,
 qM 39 7,
 qA 40 1 38 39,
 ql 41 40,
 qA 42 1 37 41,
 ql 43 42,
 qM 44 10,
 qA 45 1 43 44,
 ql 46 45,
 sO 47 (.call false 118 [.t 35,.t 46]),
 sO 48 (.bslice 3 1 false [.int .i64 0] 1 [(0,.t 47)]),
 sO 49 (.append 3 1 8 (.t 34) (.t 48)),
 qM 8 49]
def aRO:List SO:=[
 qM 50 9,
 qF 51 3 1,
 ql 52 51,
 qM 53 5,
 qM 54 7,
 qA 55 1 53 54,
 ql 56 55,
 qA 57 1 52 56,
 ql 58 57,
 qM 59 10,
 qA 60 1 58 59,
 ql 61 60,
 sO 62 (.bslice 3 1 false [.int .i64 0] 1 [(0,.t 61)]),
 sO 63 (.append 3 1 8 (.t 50) (.t 62)),
 qM 9 63]
def aL7:SC:=.seq (.seq (.reg [qM 28 10,qF 29 0 1,ql 30 29,qP 31 .lss 28 30]) (.cond (.t 31) (.skip) (.exit 2))) (.seq (.block 3 (.seq (.reg aN2) (.reg aRO))) (.reg [qM 32 10,qC 33 .add 32 1,qM 10 33]))
def aSa:List SO:=[
 qF 64 2 6,
 ql 65 64,
 qM 66 8,
 sO 67 (.bslice 25 1 false [.nilsl] 1 [(0,.t 66)]),
 sO 68 (.append 25 1 24 (.t 65) (.t 67)),
 qF 69 2 6,
 sN (.store 1 (.t 69) (.t 68))]
def aPG:List SO:=[
 qF 70 3 6,
 ql 71 70,
 qM 72 9,
 sO 73 (.bslice 25 1 false [.nilsl] 1 [(0,.t 72)]),
 sO 74 (.append 25 1 24 (.t 71) (.t 73)),
 qF 75 3 6,
 sN (.store 1 (.t 75) (.t 74))]
def aMt:SC:=.seq (.seq (.reg [qM 22 7,qM 23 5,qN 24 23,qP 25 .lss 22 24]) (.cond (.t 25) (.skip) (.exit 0))) (.seq (.block 1 (.seq (.reg [sO 8 (.lazy 3 1),sO 9 (.lazy 3 1)]) (.seq (.seq (.reg [qI 10 0]) (.block 2 (.loop aL7))) (.seq (.reg aSa) (.reg aPG))))) (.reg [qM 26 7,qC 27 .add 26 1,qM 7 27]))
def s72:SF:=⟨77,[.cell 2 true 4,.tmp 3],.seq (.reg [sO 1 (.box 24 4 (.t 0)),sO 2 (.alloc 24 [.int .i64 0,.int .i64 0,.nilsl,.nilsl]),qI 3 0]) (.seq (.seq (.reg [qL 11 4 1,sO 12 (.call false 32 [.t 11]),qM 4 12]) (.seq (.reg [qM 13 4,qC 14 .neq 13 0]) (.cond (.t 14) (.seq (.reg [sO 15 (.build [.int .i64 0,.int .i64 0,.nilsl,.nilsl] []),qM 16 4,sN (.store 4 (.t 2) (.t 15)),qM 3 16]) (.ret)) (.skip)))) (.seq (.reg [qL 17 4 1,sO 18 (.call false 117 [.t 17]),qM 5 18]) (.seq (.reg [qF 19 0 1,ql 20 19,sO 21 (.build [.int .i64 0,.int .i64 0,.nilsl,.nilsl] [(0,1,.t 20)]),sO 6 (.alloc 24 [.int .i64 0,.int .i64 0,.nilsl,.nilsl]),sN (.store 4 (.t 6) (.t 21))]) (.seq (.seq (.reg [qI 7 0]) (.block 0 (.loop aMt))) (.seq (.reg [qL 76 4 6,sN (.store 4 (.t 2) (.t 76)),qI 3 0]) (.ret))))))⟩
theorem aNu:aO Tryz.prog ⟨[39,75,135,136,137,155,161,186,188,194,195,196,211,212,213,226,230,233,238],[8,9],[],[]⟩ Tryz.f72=some s72:=by kernel_rfl
def aKe:List SO:=[
 qM 24 3,
 qF 25 2 1,
 ql 26 25,
 qM 27 3,
 qM 28 4,
 qA 29 1 27 28,
 ql 30 29,
 qA 31 1 26 30,
 ql 32 31,
 qM 33 5,
 qA 34 1 32 33,
 ql 35 34,
 sO 36 (.call false 167 [.t 24,.t 35]),
 sO 37 (.un .not (.t 36))]
def aJE:List SO:=[
 qM 38 3,
 qF 39 2 1,
 ql 40 39,
 qM 41 3,
 qM 42 4,
 qA 43 1 41 42,
 ql 44 43,
 qA 45 1 40 44,
 ql 46 45,
 qM 47 5,
 qA 48 1 46 47,
 ql 49 48,
 sO 50 (.bslice 3 1 false [.int .i64 0] 1 [(0,.t 49)]),
 sO 51 (.append 3 1 8 (.t 38) (.t 50)),
 qM 3 51]
def aGi:SC:=.seq (.seq (.reg [qM 18 5,qF 19 0 1,ql 20 19,qP 21 .lss 18 20]) (.cond (.t 21) (.skip) (.exit 2))) (.seq (.block 3 (.seq (.reg aKe) (.cond (.t 37) (.reg aJE) (.skip)))) (.reg [qM 22 5,qC 23 .add 22 1,qM 5 23]))
def aIc:SC:=.seq (.seq (.reg [qM 12 4,qM 13 3,qN 14 13,qP 15 .lss 12 14]) (.cond (.t 15) (.skip) (.exit 0))) (.seq (.block 1 (.seq (.reg [qI 5 0]) (.block 2 (.loop aGi)))) (.reg [qM 16 4,qC 17 .add 16 1,qM 4 17]))
def aUG:SF:=⟨53,[.tmp 2],.seq (.reg [sO 1 (.box 24 4 (.t 0)),sO 2 (.mv (.c (.nilsl)))]) (.seq (.seq (.reg [qL 6 4 1,sO 7 (.call false 32 [.t 6]),qC 8 .neq 7 0]) (.cond (.t 8) (.seq (.reg [sO 2 (.mv (.c (.nilsl)))]) (.ret)) (.skip))) (.seq (.reg [qF 9 1 1,ql 10 9,sO 11 (.bslice 3 1 true [.int .i64 0] 1 [(0,.t 10)]),qM 3 11]) (.seq (.seq (.reg [qI 4 0]) (.block 0 (.loop aIc))) (.seq (.reg [qM 52 3,qM 2 52]) (.ret)))))⟩
theorem aKr:aO Tryz.prog ⟨[39,75,135,136,137,155,161,186,188,194,195,196,211,212,213,226,230,233,238],[11],[],[]⟩ Tryz.f117=some aUG:=by kernel_rfl
def aGz:SC:=.seq (.seq (.reg [qM 6 5,qM 7 0,qN 8 7,qP 9 .lss 6 8]) (.cond (.t 9) (.skip) (.exit 0))) (.seq (.block 1 (.seq (.reg [qM 12 0,qM 13 5,qA 14 1 12 13,ql 15 14,qM 16 1,qP 17 .eql 15 16]) (.cond (.t 17) (.seq (.reg [sO 4 (.mv (.c (.bool true)))]) (.ret)) (.skip)))) (.reg [qM 10 5,qC 11 .add 10 1,qM 5 11]))
def aUA:SF:=⟨18,[.tmp 4],.seq (.reg [sO 4 (.mv (.c (.bool false)))]) (.seq (.seq (.reg [qI 5 0]) (.block 0 (.loop aGz))) (.seq (.reg [sO 4 (.mv (.c (.bool false)))]) (.ret)))⟩
theorem aLP:aO Tryz.prog ⟨[39,75,135,136,137,155,161,186,188,194,195,196,211,212,213,226,230,233,238],[],[],[]⟩ Tryz.f167=some aUA:=by kernel_rfl
theorem aDz (l:List Int) (n:Int):bA Tryz.prog 167 [(aG l),(iV n)] (V.bool (decide (n∈l))):=by
 refine pW Tryz.func167 aLP fun hB=>?_
 unfold aUA
 dsimp only
 refine W_r (aA rfl (R_e (aB (W_r (aA rfl (R_e (aC fun Q1 n1 x1 y1 z1=>?_)))))))
 refine bH (fun mm T H=> ∃ (k:Nat),mm=l.length - k∧T 0=(aG l)∧T 1=(iV n)∧T 5=(iV ((k:Nat):Int))∧(k≤l.length)∧(∀ j,j < k→nth l j≠n)) ?_ ?_
 ·
  refine ⟨_,0,rfl,rfl,rfl,(eTq (rVq (iV 0)) rfl),?_,?_⟩
  · omega
  · intro j hj; omega
 intro mm T H ⟨k,hmm,t0,t1,t5,hk,hc⟩ Q2 p12 p22 p32
 unfold aGz
 refine aB (W_r (aA t5 (aA t0 (bI rfl (bJ rfl rfl (R_e ?_))))))
 refine aJ rfl (fun c3=>?_) fun c3=>?_
 ·
  refine aE (aC fun Q4 n4 x4 y4 z4=>(W_r (aA t0 (aA t5 (bE (i:=k) (rVq (aG l)) (rNq k) (by omega) rfl (aF rfl rfl (aA t1 ?_)))))))
  refine fC rfl rfl (R_e ?_)
  refine iE rfl (fun c5=>?_) fun c5=>?_
  ·
   have d1:=c5
   refine W_r (aA rfl (R_e (bN (y4 _ _ (p22 _ _ (y1 _ _ ?_))))))
   refine bS (rVq (V.bool true)) (cH ?_)
   · exact (decide_eq_true (d1 ▸ aY (by omega))).symm
  have d1:=c5
  refine dS (n4 _ _ (.done (W_t (aA t5 (aU rfl (rNq 1) (by omega) (aA rfl (R_e ?_)))))))
  refine p12 _ _ _ ?_ ⟨(k+1),rfl,t0,t1,(eTq (rNq (k+1)) (by rfl)),?_,?_⟩
  · omega
  · omega
  · intro j hj
    by_cases e:j=k
    · subst e; exact d1
    · exact hc j (by omega)
 refine aN (p32 _ _ _ (x1 _ _ (.done (W_r (aA rfl (R_e (bN ?_)))))))
 refine bS (rVq (V.bool false)) (cH ?_)
 · exact (decide_eq_false (fun e=>by obtain ⟨j,hj,q⟩:=iY e; exact hc j (by omega) q)).symm
theorem aBC (m:M):bA Tryz.prog 117 [(V.agg [(iV m.i),(iV m.s),(aD m.nx),(aD m.ot)])] (aG (rch m)):=by
 refine pW Tryz.func117 aKr fun hB=>?_
 unfold aUG
 dsimp only
 refine W_r (dN (i:=1) (n:=0) (m:=4) (cs:=[(iV m.i),(iV m.s),(aD m.nx),(aD m.ot)]) rfl (cVq rfl) rfl rfl rfl (aA rfl (R_e (aB (W_r (aS rfl rfl rfl rfl (aV (iS m) rfl ?_)))))))
 refine dD rfl rfl (R_e ?_)
 refine aJ rfl (fun c1=>?_) fun c1=>?_
 ·
  have d0:=c1
  refine aB (W_r (aA rfl (R_e (aX ?_))))
  refine bS (rVq V.nilsl) (eB ?_)
  · rw [rch,if_pos d0]
 have hm:bD m=0:=by omega
 obtain ⟨v1,v2,v3,v4,v5,v6,v7,_⟩:=bT hm
 refine aE (W_r (aZ rfl rfl (aS rfl rfl rfl rfl (gA (i:=11) (n:=0) (qs:=[(0,(iV m.s))]) (rows:=[[(iV m.s)]]) rfl (cVq rfl) (bZ (congrArg (fun v=>(0,v)) rfl) rfl) rfl (aA rfl (R_e (aB ?_)))))))
 refine W_r (aA rfl (R_e (aC fun Q2 n2 x2 y2 z2=>?_)))
 refine bH (fun mm T H=> ∃ (k:Nat) (w:Nat) (P:RS),mm=m.nx.length - k∧T 1=(mPq 1)∧T 3=(V.ms 11 w 0 P.1.length)∧T 4=(iV ((k:Nat):Int))∧H 1=(bMq m)∧H 11=(bk w 3 1 (List.map cI P.1))∧(k≤P.1.length)∧(RI m.nx.length P)∧(gR m m.nx.length 0 (kI m)=gR m (m.nx.length - k) k P)) ?_ ?_
 ·
  refine ⟨_,0,1,(kI m),rfl,rfl,(eTq (rVq (V.ms 11 1 0 1)) (by rfl)),(eTq (rVq (iV 0)) rfl),rfl,(eTq (@rfl Blk (bk 1 3 1 [[(iV m.s)]])) (by rfl)),?_,?_,?_⟩
  · exact Nat.zero_le _
  · exact vI hm
  · rfl
 intro mm T H ⟨k,w,P,hmm,t1,t3,t4,h1,h11,hk,hr,hc⟩ Q3 p13 p23 p33
 unfold aIc
 refine aB (W_r (aA t4 (aA t3 (cS rfl h11 (by simp) (bJ rfl rfl (R_e ?_))))))
 refine aJ rfl (fun c4=>?_) fun c4=>?_
 ·
  have r1:=hr.rng _ (aY (show k < P.1.length by omega))
  have r0:=hr.len
  have r6:=((bT hm).2.2.2.2.2.2.2 (nth P.1 k).toNat (by omega)).1
  refine aE (aC fun Q5 n5 x5 y5 z5=>(W_r (aA rfl (R_e (iK fun Q6 n6 x6 y6 z6=>?_)))))
  refine bH (fun mm T H=> ∃ (j:Nat) (w2:Nat) (Q:RS),mm=m.i.toNat - j∧T 1=(mPq 1)∧T 3=(V.ms 11 w2 0 Q.1.length)∧T 4=(iV ((k:Nat):Int))∧T 5=(iV ((j:Nat):Int))∧H 1=(bMq m)∧H 11=(bk w2 3 1 (List.map cI Q.1))∧(j≤m.i.toNat)∧(Q=((nth m.nx (nth P.1 k).toNat).take j).foldl fH P)∧(RI m.nx.length Q)∧(nth Q.1 k=nth P.1 k∧P.1.length≤Q.1.length)) ?_ ?_
  ·
   refine ⟨_,0,w,P,rfl,t1,t3,t4,(eTq (rVq (iV 0)) rfl),h1,h11,?_,?_,?_,?_⟩
   · exact Nat.zero_le _
   · rfl
   · exact hr
   · exact ⟨rfl,Nat.le_refl _⟩
  intro mm T H ⟨j,w2,Q,hmm,t1,t3,t4,t5,h1,h11,hj,hq,hrq,hn⟩ Q7 p17 p27 p37
  unfold aGi
  refine aB (W_r (aA t5 (aZ t1 h1 (aS rfl h1 rfl rfl (bJ rfl rfl (R_e ?_))))))
  refine aJ rfl (fun c8=>?_) fun c8=>?_
  ·
   have r2:=vM hm r1.1 r1.2 _ (aY (show j < (nth m.nx (nth P.1 k).toNat).length by omega))
   have r4:=hrq.len
   have r5:=hn.1
   have r7:(nth m.nx (nth Q.1 k).toNat).length=(nth m.nx (nth P.1 k).toNat).length:=by rw [hn.1]
   refine aE (aC fun Q9 n9 x9 y9 z9=>(W_r (aA t3 (aZ t1 h1 (aS rfl h1 rfl rfl (aA t3 (aA t4 ?_)))))))
   refine bR (i:=k) (rVq (V.ms 11 w2 0 Q.1.length)) (rNq k) h11 oB rfl (by omega) (bL (v:=(iV (nth Q.1 k))) rfl h11 (cJ (by omega) (by rfl)) (cP (i:=(nth Q.1 k)) (rVq (aD m.nx)) (rVq (iV (nth Q.1 k))) (by omega) (by omega) rfl (aF rfl rfl (aA t5 (bE (i:=j) (rVq (aG (nth m.nx (nth Q.1 k).toNat))) (rNq j) (by omega) rfl (aF rfl rfl (aC6 (cO (rVq (V.ms 11 w2 0 Q.1.length)) (cO (rVq (iV (nth (nth m.nx (nth Q.1 k).toNat) j))) gG)) (aDz Q.1 (nth (nth m.nx (nth Q.1 k).toNat) j)) (bZ (aDm h11 (by simp) (aBB (l:=Q.1) (by rfl)) (fun _=>by simp)) (bZ (dG 6 _ (by simp [-List.map_take,-List.map_drop,-List.map_append,-List.map_reverse])) rfl)) (by simp [-List.map_take,-List.map_drop,-List.map_append,-List.map_reverse]) (Or.inr rfl) ?_)))))))
   refine sX rfl (R_e ?_)
   refine iE rfl (fun c10=>?_) fun c10=>?_
   ·
    have d2:nth Q.2 (nth (nth m.nx (nth P.1 k).toNat) j).toNat=false:=by
      have z:=mt (hrq.mem (nth (nth m.nx (nth P.1 k).toNat) j) r2.1 r2.2).1 (hn.1 ▸ c10)
      simpa using z
    refine W_t (aA t3 (aZ t1 h1 (aS rfl h1 rfl rfl (aA t3 (aA t4 (bR (i:=k) (rVq (V.ms 11 w2 0 Q.1.length)) (rNq k) h11 oB rfl (by omega) (bL (v:=(iV (nth Q.1 k))) rfl h11 (cJ (by omega) (by rfl)) ?_)))))))
    refine cP (i:=(nth Q.1 k)) (rVq (aD m.nx)) (rVq (iV (nth Q.1 k))) (by omega) (by omega) rfl (aF rfl rfl (aA t5 (bE (i:=j) (rVq (aG (nth m.nx (nth Q.1 k).toNat))) (rNq j) (by omega) rfl (aF rfl rfl (bM rfl rfl (bK (l:=Q.1) (f:=cI) (x:=(nth (nth m.nx (nth Q.1 k).toNat) j)) (rVq (V.ms 11 w2 0 Q.1.length)) h11 (by rfl) (rVq (V.sl [[(iV (nth (nth m.nx (nth Q.1 k).toNat) j))]])) rfl rfl (by omega) (by omega) (aA rfl ?_)))))))
    refine R_e (n9 _ _ (.done (W_t (aA t5 (aU rfl (rNq 1) (by omega) (aA rfl (R_e ?_)))))))
    refine p17 _ _ _ ?_ ⟨(j+1),(w2+1),(fH Q (nth (nth m.nx (nth P.1 k).toNat) j)),rfl,t1,(eTq (rVq (V.ms 11 (w2+1) 0 (Q.1.length+1))) (by (rw [rB d2,List.length_append]; rfl))),t4,(eTq (rNq (j+1)) (by rfl)),h1,(eTq (@rfl Blk (bk (w2+1) 3 1 (List.map cI (Q.1++[(nth (nth m.nx (nth Q.1 k).toNat) j)])))) (by (rw [rB d2,hn.1]; done))),?_,?_,?_,?_⟩
    · omega
    · omega
    · rw [kO (by omega),← hq]
    · exact hrq.step r2.1 r2.2
    · exact aBU hn (by omega)
   have d2:nth Q.2 (nth (nth m.nx (nth P.1 k).toNat) j).toNat=true:=(hrq.mem (nth (nth m.nx (nth P.1 k).toNat) j) r2.1 r2.2).2 (Decidable.not_not.1 (hn.1 ▸ c10))
   refine dS (n9 _ _ (.done (W_t (aA t5 (aU rfl (rNq 1) (by omega) (aA rfl (R_e ?_)))))))
   refine p17 _ _ _ ?_ ⟨(j+1),w2,(fH Q (nth (nth m.nx (nth P.1 k).toNat) j)),rfl,t1,(eTq t3 (by (rw [nN d2]; done))),t4,(eTq (rNq (j+1)) (by rfl)),h1,(eTq h11 (by (rw [nN d2]; done))),?_,?_,?_,?_⟩
   · omega
   · omega
   · rw [kO (by omega),← hq]
   · exact hrq.step r2.1 r2.2
   · exact aBU hn (by omega)
  have e9:Q=gS m P k:=by rw [hq]; unfold gS; rw [List.take_of_length_le (by omega)]
  refine aN (p37 _ _ _ (x6 _ _ (n5 _ _ (.done (W_t (aA t4 (aU rfl (rNq 1) (by omega) ?_)))))))
  refine aA rfl (R_e ?_)
  refine p13 _ _ _ ?_ ⟨(k+1),w2,(gS m P k),rfl,t1,(eTq t3 (by (rw [← e9]; done))),(eTq (rNq (k+1)) (by rfl)),h1,(eTq h11 (by (rw [← e9]; done))),?_,?_,?_⟩
  · omega
  · obtain ⟨x,hx⟩:=gN (nth m.nx (nth P.1 k).toNat) P
    have hg:(gS m P k).1=P.1++x:=hx
    rw [hg,List.length_append]; omega
  · exact hr.row hm (by omega)
  · rw [hc,aBa (by omega) (by omega)]
 refine aN (p33 _ _ _ (x2 _ _ (.done (W_r (aA t3 (aA rfl (R_e ?_)))))))
 refine bN ?_
 refine bS (rVq (V.ms 11 w 0 P.1.length)) (gD h11 (by simp) (l:=P.1) rfl (by rfl) (fun _=>by simp) ?_)
 · rw [rch,if_neg (by omega),hc,uK (by omega)]
def aHs:SC:=.seq (.seq (.reg [qM 6 5,qM 7 0,qN 8 7,qP 9 .lss 6 8]) (.cond (.t 9) (.skip) (.exit 0))) (.seq (.block 1 (.seq (.reg [qM 12 0,qM 13 5,qA 14 1 12 13,ql 15 14,qM 16 1,qP 17 .eql 15 16]) (.cond (.t 17) (.seq (.reg [qM 18 5,qM 4 18]) (.ret)) (.skip)))) (.reg [qM 10 5,qC 11 .add 10 1,qM 5 11]))
def aTV:SF:=⟨19,[.tmp 4],.seq (.reg [qI 4 0]) (.seq (.seq (.reg [qI 5 0]) (.block 0 (.loop aHs))) (.seq (.reg [qI 4 0]) (.ret)))⟩
theorem aKs:aO Tryz.prog ⟨[39,75,135,136,137,155,161,186,188,194,195,196,211,212,213,226,230,233,238],[],[],[]⟩ Tryz.f118=some aTV:=by kernel_rfl
theorem aBb (l:List Int) (n:Int) (hn:n∈l):bA Tryz.prog 118 [(aG l),(iV n)] (iV (idL l n)):=by
 refine pW Tryz.func118 aKs fun hB=>?_
 unfold aTV
 dsimp only
 have q0:=rW hn
 refine W_r (aA rfl (R_e (aB (W_r (aA rfl (R_e (aC fun Q1 n1 x1 y1 z1=>?_)))))))
 refine bH (fun mm T H=> ∃ (k:Nat),mm=l.length - k∧T 0=(aG l)∧T 1=(iV n)∧T 5=(iV ((k:Nat):Int))∧(k≤l.length)∧(idL l n=fi (fun j=>decide (nth l j=n)) k (l.length - k))) ?_ ?_
 ·
  refine ⟨_,0,rfl,rfl,rfl,(eTq (rVq (iV 0)) rfl),?_,?_⟩
  · omega
  · rfl
 intro mm T H ⟨k,hmm,t0,t1,t5,hk,hc⟩ Q2 p12 p22 p32
 unfold aHs
 refine aB (W_r (aA t5 (aA t0 (bI rfl (bJ rfl rfl (R_e ?_))))))
 refine aJ rfl (fun c3=>?_) fun c3=>?_
 ·
  refine aE (aC fun Q4 n4 x4 y4 z4=>(W_r (aA t0 (aA t5 (bE (i:=k) (rVq (aG l)) (rNq k) (by omega) rfl (aF rfl rfl (aA t1 ?_)))))))
  refine fC rfl rfl (R_e ?_)
  refine iE rfl (fun c5=>?_) fun c5=>?_
  ·
   have d1:=c5
   refine W_r (aA t5 (aA rfl (R_e (bN (y4 _ _ (p22 _ _ (y1 _ _ ?_)))))))
   refine bS (rNq k) (aW ?_)
   · rw [hc,aCZ (p:=fun j=>decide (nth l j=n)) (decide_eq_true d1) (by omega)]
  have d1:=c5
  refine dS (n4 _ _ (.done (W_t (aA t5 (aU rfl (rNq 1) (by omega) (aA rfl (R_e ?_)))))))
  refine p12 _ _ _ ?_ ⟨(k+1),rfl,t0,t1,(eTq (rNq (k+1)) (by rfl)),?_,?_⟩
  · omega
  · omega
  · rw [hc,aAT (p:=fun j=>decide (nth l j=n)) (decide_eq_false d1) (by omega)]
 refine aN (p32 _ _ _ (x1 _ _ (.done (W_r (aA rfl (R_e (bN ?_)))))))
 refine bS (rVq (iV 0)) (aW ?_)
 · exfalso; rw [hc,aC5 (by omega)] at q0; omega
theorem aCL (m:M):bA Tryz.prog 72 [(V.agg [(iV m.i),(iV m.s),(aD m.nx),(aD m.ot)])] (V.tup [(V.agg [(iV ((trR m).i)),(iV ((trR m).s)),(aD ((trR m).nx)),(aD ((trR m).ot))]),(iV (bD m))]):=by
 refine pW Tryz.func72 aNu fun hB=>?_
 unfold s72
 dsimp only
 refine W_r (dN (i:=1) (n:=0) (m:=4) (cs:=[(iV m.i),(iV m.s),(aD m.nx),(aD m.ot)]) rfl (cVq rfl) rfl rfl rfl (cQ (i:=2) (n:=0) (m:=4) rfl (cVq rfl) rfl (aA rfl (R_e (aB (W_r (aS rfl rfl rfl rfl ?_)))))))
 refine aV (iS m) rfl (aA rfl (R_e (aB (W_r (aA rfl (dD rfl rfl (R_e ?_)))))))
 refine aJ rfl (fun c1=>?_) fun c1=>?_
 ·
  have d0:=c1
  refine aB (W_r (eL rfl rfl (aA rfl (bC (vs:=[(iV 0),(iV 0),V.nilsl,V.nilsl]) (B':=bNq) rfl rfl rfl rfl (sB oB rfl rfl rfl rfl rfl) (aA rfl (R_e (aX ?_)))))))
  refine jS (gT (u:=(V.agg [(iV 0),(iV 0),V.nilsl,V.nilsl])) rfl (@rfl Blk bNq) (lB oB rfl rfl)) (jM (rVq (iV (bD m)))) (iM (bZ (aW ?_) (bZ (aW ?_) (bZ (eB ?_) (bZ (eB ?_) rfl))))) (dE (by simp) rfl)
  · rw [trR,if_neg d0]; try rfl
  · rw [trR,if_neg d0]; try rfl
  · rw [trR,if_neg d0]; try rfl
  · rw [trR,if_neg d0]; try rfl
 have d0:=c1
 have hm:bD m=0:=by omega
 have mo:=bT hm
 have rc:=iZ hm
 have rl:=rc.len
 have me:=mo.2.2.2.2.2.2.1
 refine aE (W_r (aS rfl rfl rfl rfl (aV (aBC m) rfl (aA rfl (R_e (W_r (aZ rfl rfl ?_)))))))
 refine aS rfl rfl rfl rfl (eL rfl rfl (cQ (i:=6) (n:=0) (m:=4) rfl (cVq rfl) rfl (bC (vs:=[(iV m.i),(iV 0),V.nilsl,V.nilsl]) (B':=(bk 1 24 4 [[(iV m.i),(iV 0),V.nilsl,V.nilsl]])) rfl rfl rfl rfl (sB oB rfl rfl rfl rfl rfl) (R_e (aB ?_)))))
 refine fQ (fun T H=>T 1=(mPq 1)∧T 2=(mPq 2)∧T 5=(aG (rch m))∧T 6=(mPq 6)∧T 7=(iV 0)∧H 1=(bMq m)∧H 2=bNq∧H 6=(bk 1 24 4 [[(iV m.i),(iV 0),V.nilsl,V.nilsl]])∧H 8=bZq∧H 9=bZq∧H 812=bZq∧H 813=bZq∧True) ?_ ?_
 ·
  refine aA rfl ?_
  exact eE ⟨rfl,rfl,rfl,rfl,rfl,rfl,rfl,rfl,rfl,rfl,rfl,rfl,trivial⟩
 intro T H ⟨t1,t2,t5,t6,t7,h1,h2,h6,h8,h9,h812,h813,_⟩
 refine .lazyCell 812 25 1 6 0 2 [(iV m.i),(iV 0),V.nilsl,V.nilsl] (by decide) (by rw [h6]; rfl) (by rw [h6]; rfl) rfl (bF (R:=fun T H=>T 1=(mPq 1)∧T 2=(mPq 2)∧T 5=(aG (rch m))∧T 6=(mPq 6)∧T 7=(iV 0)∧H 1=(bMq m)∧H 2=bNq∧H 6=(bk 1 24 4 [[(iV m.i),(iV 0),(V.ms 812 1 0 0),V.nilsl]])∧H 8=bZq∧H 9=bZq∧H 812=(bz 1 25 1 [])∧H 813=bZq∧True) ⟨t1,t2,t5,t6,t7,(uTq (uTq h1)),(uTq (uTq h2)),(by rw [aH,h6,(cVq h812)]; rfl),(uTq (uTq h8)),(uTq (uTq h9)),(by rw [aQ _ _ (by decide),aH,(cVq h812)]),(uTq (uTq h813)),trivial⟩ ?_)
 intro T H ⟨t1,t2,t5,t6,t7,h1,h2,h6,h8,h9,h812,h813,_⟩
 refine .lazyCell 813 25 1 6 0 3 [(iV m.i),(iV 0),(V.ms 812 1 0 0),V.nilsl] (by decide) (by rw [h6]; rfl) (by rw [h6]; rfl) rfl (.done ?_)
 refine bF (R:=fun T H=>T 1=(mPq 1)∧T 2=(mPq 2)∧T 5=(aG (rch m))∧T 6=(mPq 6)∧T 7=(iV 0)∧H 1=(bMq m)∧H 2=bNq∧H 6=(bk 1 24 4 [[(iV m.i),(iV 0),(V.ms 812 1 0 0),(V.ms 813 1 0 0)]])∧H 8=bZq∧H 9=bZq∧H 812=(bz 1 25 1 [])∧H 813=(bz 1 25 1 [])∧True) ⟨t1,t2,t5,t6,t7,(uTq (uTq h1)),(uTq (uTq h2)),(by rw [aH,h6,(cVq h813)]; rfl),(uTq (uTq h8)),(uTq (uTq h9)),(uTq (uTq h812)),(by rw [aQ _ _ (by decide),aH,(cVq h813)]),trivial⟩ ?_
 intro T H ⟨t1,t2,t5,t6,t7,h1,h2,h6,h8,h9,h812,h813,_⟩
 refine aC fun Q2 n2 x2 y2 z2=>?_
 refine bH (fun mm T H=> ∃ (k:Nat) (v:Nat) (w:Nat) (v8:Nat) (v9:Nat),mm=(rch m).length - k∧T 1=(mPq 1)∧T 2=(mPq 2)∧T 5=(aG (rch m))∧T 6=(mPq 6)∧T 7=(iV ((k:Nat):Int))∧H 1=(bMq m)∧H 2=bNq∧H 6=(bk 1 24 4 [[(iV m.i),(iV 0),(V.ms 812 v 0 k),(V.ms 813 w 0 k)]])∧((H 8).ver=v8∧(H 8).live=false)∧((H 9).ver=v9∧(H 9).live=false)∧H 812=(bz v 25 1 (List.map cL (tbl (tNx m) k)))∧H 813=(bz w 25 1 (List.map cL (tbl (tOt m) k)))∧(k≤(rch m).length)) ?_ ?_
 ·
  refine ⟨_,0,1,1,0,0,rfl,t1,t2,t5,t6,(eTq t7 rfl),h1,h2,h6,⟨(cVq h8),congrArg Blk.live h8⟩,⟨(cVq h9),congrArg Blk.live h9⟩,(eTq h812 (by rfl)),(eTq h813 (by rfl)),?_⟩
  · exact Nat.zero_le _
 intro mm T H ⟨k,v,w,v8,v9,hmm,t1,t2,t5,t6,t7,h1,h2,h6,h8,h9,h812,h813,hk⟩ Q3 p13 p23 p33
 unfold aMt
 refine aB (W_r (aA t7 (aA t5 (bI rfl (bJ rfl rfl (R_e ?_))))))
 refine aJ rfl (fun c4=>?_) fun c4=>?_
 ·
  have rk:=rc.rng k (by omega)
  have rr:=mo.2.2.2.2.2.2.2 (nth (rch m) k).toNat (by omega)
  refine aE (aC fun Q5 n5 x5 y5 z5=>(W_r (dQ (i:=8) (n:=v8) rfl h8.1 (dQ (i:=9) (n:=v9) rfl h9.1 (R_e (aB (W_r ?_)))))))
  refine aA rfl (R_e (aC fun Q6 n6 x6 y6 z6=>?_))
  refine bH (fun mm T H=> ∃ (j:Nat) (v2:Nat) (w2:Nat),mm=m.i.toNat - j∧T 1=(mPq 1)∧T 2=(mPq 2)∧T 5=(aG (rch m))∧T 6=(mPq 6)∧T 7=(iV ((k:Nat):Int))∧T 8=(V.ms 8 v2 0 j)∧T 9=(V.ms 9 w2 0 j)∧T 10=(iV ((j:Nat):Int))∧H 1=(bMq m)∧H 2=bNq∧H 6=(bk 1 24 4 [[(iV m.i),(iV 0),(V.ms 812 v 0 k),(V.ms 813 w 0 k)]])∧H 8=(bz v2 3 1 (List.map cI (tbl (dJ m k) j)))∧H 9=(bz w2 3 1 (List.map cI (tbl (fS m k) j)))∧H 812=(bz v 25 1 (List.map cL (tbl (tNx m) k)))∧H 813=(bz w 25 1 (List.map cL (tbl (tOt m) k)))∧(j≤m.i.toNat)) ?_ ?_
  ·
   refine ⟨_,0,(v8+1),(v9+1),rfl,t1,t2,t5,t6,t7,(eTq (rVq (V.ms 8 (v8+1) 0 0)) (by rfl)),(eTq (rVq (V.ms 9 (v9+1) 0 0)) (by rfl)),(eTq (rVq (iV 0)) rfl),h1,h2,h6,(eTq (@rfl Blk (bz (v8+1) 3 1 [])) (by rfl)),(eTq (@rfl Blk (bz (v9+1) 3 1 [])) (by rfl)),h812,h813,?_⟩
   · exact Nat.zero_le _
  intro mm T H ⟨j,v2,w2,hmm,t1,t2,t5,t6,t7,t8,t9,t10,h1,h2,h6,h8,h9,h812,h813,hj⟩ Q7 p17 p27 p37
  unfold aL7
  refine aB (W_r (aA t10 (aZ t1 h1 (aS rfl h1 rfl rfl (bJ rfl rfl (R_e ?_))))))
  refine aJ rfl (fun c8=>?_) fun c8=>?_
  ·
   have rj:=rr.2.2 j (by omega)
   have rin:=rc.clo k (by omega) _ (aY (show j < (nth m.nx (nth (rch m) k).toNat).length by omega))
   refine aE (aC fun Q9 n9 x9 y9 z9=>(W_r (aA t8 (aA t5 (aZ t1 h1 (aS rfl h1 rfl rfl (aA t5 ?_)))))))
   refine aA t7 (bE (i:=k) (rVq (aG (rch m))) (rNq k) (by omega) rfl (aF rfl rfl (cP (i:=(nth (rch m) k)) (rVq (aD m.nx)) (rVq (iV (nth (rch m) k))) (by omega) (by omega) rfl (aF rfl rfl (aA t10 (bE (i:=j) (rVq (aG (nth m.nx (nth (rch m) k).toNat))) (rNq j) (by omega) rfl (aF rfl rfl ?_)))))))
   refine aV (aBb (rch m) (nth (nth m.nx (nth (rch m) k).toNat) j) rin) rfl (bM rfl rfl (bK (l:=(tbl (dJ m k) j)) (f:=cI) (x:=(idL (rch m) (nth (nth m.nx (nth (rch m) k).toNat) j))) (rVq (V.ms 8 v2 0 j)) h8 (by exact (aP _ _).symm) (rVq (V.sl [[(iV (idL (rch m) (nth (nth m.nx (nth (rch m) k).toNat) j)))]])) rfl rfl (by omega) (by omega) (aA rfl (R_e (W_t (aA t9 (aZ t1 h1 ?_)))))))
   refine aS rfl h1 rfl rfl (aA t5 (aA t7 (bE (i:=k) (rVq (aG (rch m))) (rNq k) (by omega) rfl (aF rfl rfl (cP (i:=(nth (rch m) k)) (rVq (aD m.ot)) (rVq (iV (nth (rch m) k))) (by omega) (by omega) rfl (aF rfl rfl (aA t10 ?_)))))))
   refine bE (i:=j) (rVq (aG (nth m.ot (nth (rch m) k).toNat))) (rNq j) (by omega) rfl (aF rfl rfl (bM rfl rfl (bK (l:=(tbl (fS m k) j)) (f:=cI) (x:=(nth (nth m.ot (nth (rch m) k).toNat) j)) (rVq (V.ms 9 w2 0 j)) h9 (by exact (aP _ _).symm) (rVq (V.sl [[(iV (nth (nth m.ot (nth (rch m) k).toNat) j))]])) rfl rfl (by omega) (by omega) (aA rfl (R_e (n9 _ _ (.done ?_)))))))
   refine W_t (aA t10 (aU rfl (rNq 1) (by omega) (aA rfl (R_e ?_))))
   refine p17 _ _ _ ?_ ⟨(j+1),(v2+1),(w2+1),rfl,t1,t2,t5,t6,t7,(eTq (rVq (V.ms 8 (v2+1) 0 (j+1))) (by rfl)),(eTq (rVq (V.ms 9 (w2+1) 0 (j+1))) (by rfl)),(eTq (rNq (j+1)) (by rfl)),h1,h2,h6,(eTq (@rfl Blk (bz (v2+1) 3 1 (List.map cI (tbl (dJ m k) j++[(idL (rch m) (nth (nth m.nx (nth (rch m) k).toNat) j))])))) (by (rw [cE]; first|done|rfl))),(eTq (@rfl Blk (bz (w2+1) 3 1 (List.map cI (tbl (fS m k) j++[(nth (nth m.ot (nth (rch m) k).toNat) j)])))) (by (rw [cE]; first|done|rfl))),h812,h813,?_⟩
   · omega
   · omega
  have ej:tNx m k=tbl (dJ m k) j:=by unfold tNx; rw [show m.i.toNat=j by omega]
  have eo:tOt m k=tbl (fS m k) j:=by unfold tOt; rw [show m.i.toNat=j by omega]
  refine aN (p37 _ _ _ (x6 _ _ (bF (R:=fun T H=>T 1=(mPq 1)∧T 2=(mPq 2)∧T 5=(aG (rch m))∧T 6=(mPq 6)∧T 7=(iV ((k:Nat):Int))∧T 8=(V.ms 8 v2 0 j)∧T 9=(V.ms 9 w2 0 j)∧T 10=(iV ((j:Nat):Int))∧T 31=(V.bool (decide (((j:Nat):Int) < m.i)))∧H 1=(bMq m)∧H 2=bNq∧H 6=(bk 1 24 4 [[(iV m.i),(iV 0),(V.ms 812 v 0 k),(V.ms 813 w 0 k)]])∧H 8=(bz v2 3 1 (List.map cI (tbl (dJ m k) j)))∧H 9=(bz w2 3 1 (List.map cI (tbl (fS m k) j)))∧H 812=(bz v 25 1 (List.map cL (tbl (tNx m) k)))∧H 813=(bz w 25 1 (List.map cL (tbl (tOt m) k)))∧True) ⟨t1,t2,t5,t6,t7,t8,t9,t10,(rVq (V.bool (decide (((j:Nat):Int) < m.i)))),h1,h2,h6,h8,h9,h812,h813,trivial⟩ ?_)))
  intro T H ⟨t1,t2,t5,t6,t7,t8,t9,t10,t31,h1,h2,h6,h8,h9,h812,h813,_⟩
  refine .freeze 8 (.done ?_)
  refine bF (R:=fun T H=>T 1=(mPq 1)∧T 2=(mPq 2)∧T 5=(aG (rch m))∧T 6=(mPq 6)∧T 7=(iV ((k:Nat):Int))∧T 8=(aG (tbl (dJ m k) j))∧T 9=(V.ms 9 w2 0 j)∧T 10=(iV ((j:Nat):Int))∧T 31=(V.bool (decide (((j:Nat):Int) < m.i)))∧H 1=(bMq m)∧H 2=bNq∧H 6=(bk 1 24 4 [[(iV m.i),(iV 0),(V.ms 812 v 0 k),(V.ms 813 w 0 k)]])∧((H 8).ver=v2∧(H 8).live=false)∧H 9=(bz w2 3 1 (List.map cI (tbl (fS m k) j)))∧H 812=(bz v 25 1 (List.map cL (tbl (tNx m) k)))∧H 813=(bz w 25 1 (List.map cL (tbl (tOt m) k)))∧True) ⟨(aL t1 rfl),(aL t2 rfl),(aL t5 rfl),(aL t6 rfl),(aL t7 rfl),(aL t8 (fR h8 (by simp) (l:=(tbl (dJ m k) j)) rfl (by exact (aP _ _).symm))),(aL t9 (bV (by decide))),(aL t10 rfl),(aL t31 rfl),(aK h1 (by decide)),(aK h2 (by decide)),(aK h6 (by decide)),(bG (cVq h8)),(aK h9 (by decide)),(aK h812 (by decide)),(aK h813 (by decide)),trivial⟩ ?_
  intro T H ⟨t1,t2,t5,t6,t7,t8,t9,t10,t31,h1,h2,h6,h8,h9,h812,h813,_⟩
  refine fQ (fun T H=>T 1=(mPq 1)∧T 2=(mPq 2)∧T 5=(aG (rch m))∧T 6=(mPq 6)∧T 7=(iV ((k:Nat):Int))∧T 9=(V.ms 9 w2 0 j)∧H 1=(bMq m)∧H 2=bNq∧H 6=(bk 1 24 4 [[(iV m.i),(iV 0),(V.ms 812 (v+1) 0 (k+1)),(V.ms 813 w 0 k)]])∧((H 8).ver=v2∧(H 8).live=false)∧H 9=(bz w2 3 1 (List.map cI (tbl (fS m k) j)))∧H 812=(bz (v+1) 25 1 (List.map cL (tbl (tNx m) k++[tbl (dJ m k) j])))∧H 813=(bz w 25 1 (List.map cL (tbl (tOt m) k)))∧True) ?_ ?_
  ·
   refine aZ t6 h6 (aS rfl h6 rfl rfl (aA t8 (bM rfl rfl (bK (l:=(tbl (tNx m) k)) (f:=cL) (x:=(tbl (dJ m k) j)) (rVq (V.ms 812 v 0 k)) h812 (by exact (aP _ _).symm) (rVq (V.sl [[(aG (tbl (dJ m k) j))]])) rfl rfl (by omega) (by omega) (aZ t6 h6 (bC (vs:=[(V.ms 812 (v+1) 0 (k+1))]) (B':=(bk 1 24 4 [[(iV m.i),(iV 0),(V.ms 812 (v+1) 0 (k+1)),(V.ms 813 w 0 k)]])) rfl rfl rfl h6 (sB oB rfl rfl rfl rfl rfl) ?_))))))
   exact eE ⟨t1,t2,t5,t6,t7,t9,h1,h2,rfl,h8,h9,rfl,h813,trivial⟩
  intro T H ⟨t1,t2,t5,t6,t7,t9,h1,h2,h6,h8,h9,h812,h813,_⟩
  refine .freeze 9 (.done ?_)
  refine bF (R:=fun T H=>T 1=(mPq 1)∧T 2=(mPq 2)∧T 5=(aG (rch m))∧T 6=(mPq 6)∧T 7=(iV ((k:Nat):Int))∧T 9=(aG (tbl (fS m k) j))∧H 1=(bMq m)∧H 2=bNq∧H 6=(bk 1 24 4 [[(iV m.i),(iV 0),(V.ms 812 (v+1) 0 (k+1)),(V.ms 813 w 0 k)]])∧((H 8).ver=v2∧(H 8).live=false)∧((H 9).ver=w2∧(H 9).live=false)∧H 812=(bz (v+1) 25 1 (List.map cL (tbl (tNx m) k++[tbl (dJ m k) j])))∧H 813=(bz w 25 1 (List.map cL (tbl (tOt m) k)))∧True) ⟨(aL t1 rfl),(aL t2 rfl),(aL t5 rfl),(aL t6 rfl),(aL t7 rfl),(aL t9 (fR h9 (by simp) (l:=(tbl (fS m k) j)) rfl (by exact (aP _ _).symm))),(aK h1 (by decide)),(aK h2 (by decide)),(aK h6 (by decide)),(bU h8),(bG (cVq h9)),(aK h812 (by decide)),(aK h813 (by decide)),trivial⟩ ?_
  intro T H ⟨t1,t2,t5,t6,t7,t9,h1,h2,h6,h8,h9,h812,h813,_⟩
  refine W_t (aZ t6 h6 (aS rfl h6 rfl rfl (aA t9 (bM rfl rfl (bK (l:=(tbl (tOt m) k)) (f:=cL) (x:=(tbl (fS m k) j)) (rVq (V.ms 813 w 0 k)) h813 (by exact (aP _ _).symm) (rVq (V.sl [[(aG (tbl (fS m k) j))]])) rfl rfl (by omega) (by omega) (aZ t6 h6 (bC (vs:=[(V.ms 813 (w+1) 0 (k+1))]) (B':=(bk 1 24 4 [[(iV m.i),(iV 0),(V.ms 812 (v+1) 0 (k+1)),(V.ms 813 (w+1) 0 (k+1))]])) rfl rfl rfl h6 (sB oB rfl rfl rfl rfl rfl) ?_)))))))
  refine R_e (n5 _ _ (.done (W_t (aA t7 (aU rfl (rNq 1) (by omega) (aA rfl (R_e ?_)))))))
  refine p13 _ _ _ ?_ ⟨(k+1),(v+1),(w+1),v2,w2,rfl,t1,t2,t5,t6,(eTq (rNq (k+1)) (by rfl)),h1,h2,(eTq (@rfl Blk (bk 1 24 4 [[(iV m.i),(iV 0),(V.ms 812 (v+1) 0 (k+1)),(V.ms 813 (w+1) 0 (k+1))]])) (by rfl)),h8,h9,(eTq h812 (by (rw [cE,ej]; first|done|rfl))),(eTq (@rfl Blk (bz (w+1) 25 1 (List.map cL (tbl (tOt m) k++[tbl (fS m k) j])))) (by (rw [cE,eo]; first|done|rfl))),?_⟩
  · omega
  · omega
 refine aN (p33 _ _ _ (x2 _ _ (.done (W_r (aS t6 h6 rfl rfl (bC (vs:=[(iV m.i),(iV 0),(V.ms 812 v 0 k),(V.ms 813 w 0 k)]) (B':=(bk 1 24 4 [[(iV m.i),(iV 0),(V.ms 812 v 0 k),(V.ms 813 w 0 k)]])) t2 rfl rfl h2 (sB oB rfl rfl rfl rfl rfl) (aA rfl ?_)))))))
 refine R_e (bN ?_)
 refine jS (gT (u:=(V.agg [(iV m.i),(iV 0),(V.ms 812 v 0 k),(V.ms 813 w 0 k)])) t2 (@rfl Blk (bk 1 24 4 [[(iV m.i),(iV 0),(V.ms 812 v 0 k),(V.ms 813 w 0 k)]])) (lB oB rfl rfl)) (jM (rVq (iV 0))) (iM (bZ (aW ?_) (bZ (aW ?_) (bZ (gD h812 (by simp) (l:=(tbl (tNx m) k)) rfl (by exact (aP _ _).symm) (fun _=>by simp) ?_) (bZ (gD h813 (by simp) (l:=(tbl (tOt m) k)) rfl (by exact (aP _ _).symm) (fun _=>by simp) ?_) rfl))))) (aW ?_)
 · rw [trR,if_pos hm,eJ hm]; try first|rfl|(rw [show k=(rch m).length by omega]; done)|(rw [show k=(rch m).length by omega]; rfl)
 · rw [trR,if_pos hm,eJ hm]; try first|rfl|(rw [show k=(rch m).length by omega]; done)|(rw [show k=(rch m).length by omega]; rfl)
 · rw [trR,if_pos hm,eJ hm]; try first|rfl|(rw [show k=(rch m).length by omega]; done)|(rw [show k=(rch m).length by omega]; rfl)
 · rw [trR,if_pos hm,eJ hm]; try first|rfl|(rw [show k=(rch m).length by omega]; done)|(rw [show k=(rch m).length by omega]; rfl)
 · exact hm.symm
theorem aBQ (m:M) (ins:List Int) (hm:bD m=0) (hv:rsV m ins):bA Tryz.prog 46 [(V.agg [(iV m.i),(iV m.s),(aD m.nx),(aD m.ot)]),(aG ins)] (V.tup [(V.agg [(iV ((trR (rsM m ins)).i)),(iV ((trR (rsM m ins)).s)),(aD ((trR (rsM m ins)).nx)),(aD ((trR (rsM m ins)).ot))]),(iV 0)]):=by
 refine pW Tryz.func46 aNB fun hB=>?_
 unfold s46
 dsimp only
 have mo:=bT hm
 have hl:=aAn hm hv
 refine W_r (dN (i:=2) (n:=0) (m:=4) (cs:=[(iV m.i),(iV m.s),(aD m.nx),(aD m.ot)]) rfl (cVq rfl) rfl rfl rfl (cQ (i:=4) (n:=0) (m:=4) rfl (cVq rfl) rfl (aA rfl (R_e (aB (W_r (aS rfl rfl rfl rfl ?_)))))))
 refine aV (iS m) rfl (aA rfl (R_e (aB (W_r (aA rfl (dD rfl rfl (R_e ?_)))))))
 refine aJ rfl (fun c1=>?_) fun c1=>?_
 · exfalso; omega
 refine aE (aB (W_r (aA rfl (bI rfl (fC rfl rfl (R_e ?_))))))
 refine aJ rfl (fun c2=>?_) fun c2=>?_
 · exfalso; have z:=c2; omega
 refine aE (aB (W_r (aA rfl (R_e (aC fun Q3 n3 x3 y3 z3=>?_)))))
 refine bH (fun mm T H=> ∃ (i:Nat),mm=ins.length - i∧T 1=(aG ins)∧T 2=(mPq 2)∧T 4=(mPq 4)∧T 7=(iV ((i:Nat):Int))∧H 2=(bMq m)∧H 4=bNq∧H 9=bZq∧H 11=bZq∧H 12=bZq∧H 812=bZq∧H 813=bZq∧(i≤ins.length)) ?_ ?_
 ·
  refine ⟨_,0,rfl,rfl,rfl,rfl,(eTq (rVq (iV 0)) rfl),rfl,rfl,rfl,rfl,rfl,rfl,rfl,?_⟩
  · exact Nat.zero_le _
 intro mm T H ⟨i,hmm,t1,t2,t4,t7,h2,h4,h9,h11,h12,h812,h813,hi⟩ Q4 p14 p24 p34
 unfold aM3
 refine aB (W_r (aA t7 (aA t1 (bI rfl (bJ rfl rfl (R_e ?_))))))
 refine aJ rfl (fun c5=>?_) fun c5=>?_
 ·
  have ri:=hv.2.2 i (by omega)
  refine aE (aC fun Q6 n6 x6 y6 z6=>(aB (W_r (aA t1 (aA t7 (bE (i:=i) (rVq (aG ins)) (rNq i) (by omega) rfl (aF rfl rfl ?_)))))))
  refine bJ rfl rfl (aA rfl ?_)
  refine bW 8 (fun T H=>T 1=(aG ins)∧T 2=(mPq 2)∧T 4=(mPq 4)∧T 7=(iV ((i:Nat):Int))∧T 43=(V.bool (decide (((nth ins i) < (0:Int))∨(m.i≤(nth ins i)))))∧H 2=(bMq m)∧H 4=bNq∧H 9=bZq∧H 11=bZq∧H 12=bZq∧H 812=bZq∧H 813=bZq∧True) ?_ ?_
  ·
   by_cases g7:(nth ins i) < (0:Int)
   ·
    refine G_n (edT g7 rfl) (G_n (edT g7 rfl) (G_n (edT g7 rfl) (G_n (edT g7 rfl) (G_n (edT g7 rfl) (G_n (edT g7 rfl) (G_n (edT g7 rfl) (bY (edT g7 rfl) rfl ?_)))))))
    exact ⟨t1,t2,t4,t7,(dY g7),h2,h4,h9,h11,h12,h812,h813,trivial⟩
   ·
    refine aM (edF g7 rfl) (aA t1 (aM (edF g7 rfl) (aA t7 (aM (edF g7 rfl) (bE (i:=i) (rVq (aG ins)) (rNq i) (by omega) rfl (aM (edF g7 rfl) (aF rfl rfl ?_)))))))
    refine aM (edF g7 rfl) (aZ t2 h2 (aM (edF g7 rfl) (aS rfl h2 rfl rfl (aM (edF g7 rfl) (lZ rfl rfl (bX (edF g7 rfl) rfl ?_))))))
    exact ⟨t1,t2,t4,t7,(dX g7),h2,h4,h9,h11,h12,h812,h813,trivial⟩
  intro T H ⟨t1,t2,t4,t7,t43,h2,h4,h9,h11,h12,h812,h813,_⟩
  refine R_e ?_
  refine aJ t43 (fun c8=>?_) fun c8=>?_
  · exfalso; have z:=c8; first|omega|(simp at z; omega)
  refine aE (W_r (aA rfl (R_e (iK fun Q9 n9 x9 y9 z9=>?_))))
  refine bH (fun mm T H=> ∃ (q:Nat),mm=i - q∧T 1=(aG ins)∧T 2=(mPq 2)∧T 4=(mPq 4)∧T 7=(iV ((i:Nat):Int))∧T 8=(iV ((q:Nat):Int))∧H 2=(bMq m)∧H 4=bNq∧H 9=bZq∧H 11=bZq∧H 12=bZq∧H 812=bZq∧H 813=bZq∧(q≤i)) ?_ ?_
  ·
   refine ⟨_,0,rfl,t1,t2,t4,t7,(eTq (rVq (iV 0)) rfl),h2,h4,h9,h11,h12,h812,h813,?_⟩
   · exact Nat.zero_le _
  intro mm T H ⟨q,hmm,t1,t2,t4,t7,t8,h2,h4,h9,h11,h12,h812,h813,hq⟩ Q10 p110 p210 p310
  unfold aMu
  refine aB (W_r (aA t8 (aA t7 (bJ rfl rfl (R_e ?_)))))
  refine aJ rfl (fun c11=>?_) fun c11=>?_
  ·
   refine aE (aC fun Q12 n12 x12 y12 z12=>(W_r (aA t1 (aA t8 (bE (i:=q) (rVq (aG ins)) (rNq q) (by omega) rfl (aF rfl rfl (aA t1 ?_)))))))
   refine aA t7 (bE (i:=i) (rVq (aG ins)) (rNq i) (by omega) rfl (aF rfl rfl (fC rfl rfl (R_e ?_))))
   refine iE rfl (fun c13=>?_) fun c13=>?_
   · exfalso; have z1:=qX hv.2.1 (show q < ins.length by omega); have z2:=qX hv.2.1 (show i < ins.length by omega); rw [c13,z2] at z1; omega
   refine dS (n12 _ _ (.done (W_t (aA t8 (aU rfl (rNq 1) (by omega) (aA rfl (R_e ?_)))))))
   refine p110 _ _ _ ?_ ⟨(q+1),rfl,t1,t2,t4,t7,(eTq (rNq (q+1)) (by rfl)),h2,h4,h9,h11,h12,h812,h813,?_⟩
   · omega
   · omega
  refine aN (p310 _ _ _ (x9 _ _ (n6 _ _ (.done (W_t (aA t7 (aU rfl (rNq 1) (by omega) ?_)))))))
  refine aA rfl (R_e ?_)
  refine p14 _ _ _ ?_ ⟨(i+1),rfl,t1,t2,t4,(eTq (rNq (i+1)) (by rfl)),h2,h4,h9,h11,h12,h812,h813,?_⟩
  · omega
  · omega
 refine aN (p34 _ _ _ (x3 _ _ (.done (W_r (aA t1 (bI rfl (aZ t2 h2 ?_)))))))
 refine aS rfl h2 rfl rfl (eL rfl rfl (cQ (i:=9) (n:=0) (m:=4) rfl (cVq h9) rfl (bC (vs:=[(iV ((ins.length:Nat):Int)),(iV m.s),V.nilsl,V.nilsl]) (B':=(bk 1 24 4 [[(iV ((ins.length:Nat):Int)),(iV m.s),V.nilsl,V.nilsl]])) rfl rfl rfl rfl (sB oB rfl rfl rfl rfl rfl) (R_e (aB ?_)))))
 refine fQ (fun T H=>T 1=(aG ins)∧T 2=(mPq 2)∧T 4=(mPq 4)∧T 9=(mPq 9)∧T 10=(iV 0)∧H 2=(bMq m)∧H 4=bNq∧H 9=(bk 1 24 4 [[(iV ((ins.length:Nat):Int)),(iV m.s),V.nilsl,V.nilsl]])∧H 11=bZq∧H 12=bZq∧H 812=bZq∧H 813=bZq∧True) ?_ ?_
 ·
  refine aA rfl ?_
  exact eE ⟨t1,t2,t4,rfl,rfl,h2,h4,rfl,h11,h12,h812,h813,trivial⟩
 intro T H ⟨t1,t2,t4,t9,t10,h2,h4,h9,h11,h12,h812,h813,_⟩
 refine .lazyCell 812 25 1 9 0 2 [(iV ((ins.length:Nat):Int)),(iV m.s),V.nilsl,V.nilsl] (by decide) (by rw [h9]; rfl) (by rw [h9]; rfl) rfl (bF (R:=fun T H=>T 1=(aG ins)∧T 2=(mPq 2)∧T 4=(mPq 4)∧T 9=(mPq 9)∧T 10=(iV 0)∧H 2=(bMq m)∧H 4=bNq∧H 9=(bk 1 24 4 [[(iV ((ins.length:Nat):Int)),(iV m.s),(V.ms 812 1 0 0),V.nilsl]])∧H 11=bZq∧H 12=bZq∧H 812=(bz 1 25 1 [])∧H 813=bZq∧True) ⟨t1,t2,t4,t9,t10,(uTq (uTq h2)),(uTq (uTq h4)),(by rw [aH,h9,(cVq h812)]; rfl),(uTq (uTq h11)),(uTq (uTq h12)),(by rw [aQ _ _ (by decide),aH,(cVq h812)]),(uTq (uTq h813)),trivial⟩ ?_)
 intro T H ⟨t1,t2,t4,t9,t10,h2,h4,h9,h11,h12,h812,h813,_⟩
 refine .lazyCell 813 25 1 9 0 3 [(iV ((ins.length:Nat):Int)),(iV m.s),(V.ms 812 1 0 0),V.nilsl] (by decide) (by rw [h9]; rfl) (by rw [h9]; rfl) rfl (.done ?_)
 refine bF (R:=fun T H=>T 1=(aG ins)∧T 2=(mPq 2)∧T 4=(mPq 4)∧T 9=(mPq 9)∧T 10=(iV 0)∧H 2=(bMq m)∧H 4=bNq∧H 9=(bk 1 24 4 [[(iV ((ins.length:Nat):Int)),(iV m.s),(V.ms 812 1 0 0),(V.ms 813 1 0 0)]])∧H 11=bZq∧H 12=bZq∧H 812=(bz 1 25 1 [])∧H 813=(bz 1 25 1 [])∧True) ⟨t1,t2,t4,t9,t10,(uTq (uTq h2)),(uTq (uTq h4)),(by rw [aH,h9,(cVq h813)]; rfl),(uTq (uTq h11)),(uTq (uTq h12)),(uTq (uTq h812)),(by rw [aQ _ _ (by decide),aH,(cVq h813)]),trivial⟩ ?_
 intro T H ⟨t1,t2,t4,t9,t10,h2,h4,h9,h11,h12,h812,h813,_⟩
 refine aC fun Q14 n14 x14 y14 z14=>?_
 refine bH (fun mm T H=> ∃ (k:Nat) (v:Nat) (w:Nat) (v11:Nat) (v12:Nat),mm=m.nx.length - k∧T 1=(aG ins)∧T 2=(mPq 2)∧T 4=(mPq 4)∧T 9=(mPq 9)∧T 10=(iV ((k:Nat):Int))∧H 2=(bMq m)∧H 4=bNq∧H 9=(bk 1 24 4 [[(iV ((ins.length:Nat):Int)),(iV m.s),(V.ms 812 v 0 k),(V.ms 813 w 0 k)]])∧((H 11).ver=v11∧(H 11).live=false)∧((H 12).ver=v12∧(H 12).live=false)∧H 812=(bz v 25 1 (List.map cL (tbl (fun s=>tbl (rsN m ins s) ins.length) k)))∧H 813=(bz w 25 1 (List.map cL (tbl (fun s=>tbl (rsO m ins s) ins.length) k)))∧(k≤m.nx.length)) ?_ ?_
 ·
  refine ⟨_,0,1,1,0,0,rfl,t1,t2,t4,t9,(eTq t10 rfl),h2,h4,h9,⟨(cVq h11),congrArg Blk.live h11⟩,⟨(cVq h12),congrArg Blk.live h12⟩,(eTq h812 (by rfl)),(eTq h813 (by rfl)),?_⟩
  · exact Nat.zero_le _
 intro mm T H ⟨k,v,w,v11,v12,hmm,t1,t2,t4,t9,t10,h2,h4,h9,h11,h12,h812,h813,hk⟩ Q15 p115 p215 p315
 unfold aL0
 refine aB (W_r (aA t10 (aZ t2 h2 (aS rfl h2 rfl rfl (bI rfl (bJ rfl rfl (R_e ?_)))))))
 refine aJ rfl (fun c16=>?_) fun c16=>?_
 ·
  have rr:=mo.2.2.2.2.2.2.2 k (by omega)
  refine aE (aC fun Q17 n17 x17 y17 z17=>(W_r (dQ (i:=11) (n:=v11) rfl h11.1 (dQ (i:=12) (n:=v12) rfl h12.1 (R_e (aB (W_r ?_)))))))
  refine aA rfl (R_e (aC fun Q18 n18 x18 y18 z18=>?_))
  refine bH (fun mm T H=> ∃ (j:Nat) (v2:Nat) (w2:Nat),mm=ins.length - j∧T 1=(aG ins)∧T 2=(mPq 2)∧T 4=(mPq 4)∧T 9=(mPq 9)∧T 10=(iV ((k:Nat):Int))∧T 11=(V.ms 11 v2 0 j)∧T 12=(V.ms 12 w2 0 j)∧T 13=(iV ((j:Nat):Int))∧H 2=(bMq m)∧H 4=bNq∧H 9=(bk 1 24 4 [[(iV ((ins.length:Nat):Int)),(iV m.s),(V.ms 812 v 0 k),(V.ms 813 w 0 k)]])∧H 11=(bz v2 3 1 (List.map cI (tbl (rsN m ins k) j)))∧H 12=(bz w2 3 1 (List.map cI (tbl (rsO m ins k) j)))∧H 812=(bz v 25 1 (List.map cL (tbl (fun s=>tbl (rsN m ins s) ins.length) k)))∧H 813=(bz w 25 1 (List.map cL (tbl (fun s=>tbl (rsO m ins s) ins.length) k)))∧(j≤ins.length)) ?_ ?_
  ·
   refine ⟨_,0,(v11+1),(v12+1),rfl,t1,t2,t4,t9,t10,(eTq (rVq (V.ms 11 (v11+1) 0 0)) (by rfl)),(eTq (rVq (V.ms 12 (v12+1) 0 0)) (by rfl)),(eTq (rVq (iV 0)) rfl),h2,h4,h9,(eTq (@rfl Blk (bz (v11+1) 3 1 [])) (by rfl)),(eTq (@rfl Blk (bz (v12+1) 3 1 [])) (by rfl)),h812,h813,?_⟩
   · exact Nat.zero_le _
  intro mm T H ⟨j,v2,w2,hmm,t1,t2,t4,t9,t10,t11,t12,t13,h2,h4,h9,h11,h12,h812,h813,hj⟩ Q19 p119 p219 p319
  unfold aMb
  refine aB (W_r (aA t13 (aA t1 (bI rfl (bJ rfl rfl (R_e ?_))))))
  refine aJ rfl (fun c20=>?_) fun c20=>?_
  ·
   have ij:=hv.2.2 j (by omega)
   refine aE (aC fun Q21 n21 x21 y21 z21=>(W_r (aA t11 (aZ t2 h2 (aS rfl h2 rfl rfl (aA t10 (bE (i:=k) (rVq (aD m.nx)) (rNq k) (by omega) rfl ?_)))))))
   refine aF rfl rfl (aA t1 (aA t13 (bE (i:=j) (rVq (aG ins)) (rNq j) (by omega) rfl (aF rfl rfl (cP (i:=(nth ins j)) (rVq (aG (nth m.nx k))) (rVq (iV (nth ins j))) (by omega) (by omega) rfl (aF rfl rfl (bM rfl rfl ?_)))))))
   refine bK (l:=(tbl (rsN m ins k) j)) (f:=cI) (x:=(nth (nth m.nx k) (nth ins j).toNat)) (rVq (V.ms 11 v2 0 j)) h11 (by exact (aP _ _).symm) (rVq (V.sl [[(iV (nth (nth m.nx k) (nth ins j).toNat))]])) rfl rfl (by omega) (by omega) (aA rfl (R_e (W_t (aA t12 (aZ t2 h2 (aS rfl h2 rfl rfl (aA t10 ?_)))))))
   refine bE (i:=k) (rVq (aD m.ot)) (rNq k) (by omega) rfl (aF rfl rfl (aA t1 (aA t13 (bE (i:=j) (rVq (aG ins)) (rNq j) (by omega) rfl (aF rfl rfl (cP (i:=(nth ins j)) (rVq (aG (nth m.ot k))) (rVq (iV (nth ins j))) (by omega) (by omega) rfl (aF rfl rfl ?_)))))))
   refine bM rfl rfl (bK (l:=(tbl (rsO m ins k) j)) (f:=cI) (x:=(nth (nth m.ot k) (nth ins j).toNat)) (rVq (V.ms 12 w2 0 j)) h12 (by exact (aP _ _).symm) (rVq (V.sl [[(iV (nth (nth m.ot k) (nth ins j).toNat))]])) rfl rfl (by omega) (by omega) (aA rfl (R_e (n21 _ _ (.done (W_t (aA t13 ?_)))))))
   refine aU rfl (rNq 1) (by omega) (aA rfl (R_e ?_))
   refine p119 _ _ _ ?_ ⟨(j+1),(v2+1),(w2+1),rfl,t1,t2,t4,t9,t10,(eTq (rVq (V.ms 11 (v2+1) 0 (j+1))) (by rfl)),(eTq (rVq (V.ms 12 (w2+1) 0 (j+1))) (by rfl)),(eTq (rNq (j+1)) (by rfl)),h2,h4,h9,(eTq (@rfl Blk (bz (v2+1) 3 1 (List.map cI (tbl (rsN m ins k) j++[(nth (nth m.nx k) (nth ins j).toNat)])))) (by (rw [cE]; first|done|rfl))),(eTq (@rfl Blk (bz (w2+1) 3 1 (List.map cI (tbl (rsO m ins k) j++[(nth (nth m.ot k) (nth ins j).toNat)])))) (by (rw [cE]; first|done|rfl))),h812,h813,?_⟩
   · omega
   · omega
  have ej:j=ins.length:=by omega
  refine aN (p319 _ _ _ (x18 _ _ (bF (R:=fun T H=>T 1=(aG ins)∧T 2=(mPq 2)∧T 4=(mPq 4)∧T 9=(mPq 9)∧T 10=(iV ((k:Nat):Int))∧T 11=(V.ms 11 v2 0 j)∧T 12=(V.ms 12 w2 0 j)∧T 13=(iV ((j:Nat):Int))∧T 75=(V.bool (decide (((j:Nat):Int) < ((ins.length:Nat):Int))))∧H 2=(bMq m)∧H 4=bNq∧H 9=(bk 1 24 4 [[(iV ((ins.length:Nat):Int)),(iV m.s),(V.ms 812 v 0 k),(V.ms 813 w 0 k)]])∧H 11=(bz v2 3 1 (List.map cI (tbl (rsN m ins k) j)))∧H 12=(bz w2 3 1 (List.map cI (tbl (rsO m ins k) j)))∧H 812=(bz v 25 1 (List.map cL (tbl (fun s=>tbl (rsN m ins s) ins.length) k)))∧H 813=(bz w 25 1 (List.map cL (tbl (fun s=>tbl (rsO m ins s) ins.length) k)))∧True) ⟨t1,t2,t4,t9,t10,t11,t12,t13,(rVq (V.bool (decide (((j:Nat):Int) < ((ins.length:Nat):Int))))),h2,h4,h9,h11,h12,h812,h813,trivial⟩ ?_)))
  intro T H ⟨t1,t2,t4,t9,t10,t11,t12,t13,t75,h2,h4,h9,h11,h12,h812,h813,_⟩
  refine .freeze 11 (.done ?_)
  refine bF (R:=fun T H=>T 1=(aG ins)∧T 2=(mPq 2)∧T 4=(mPq 4)∧T 9=(mPq 9)∧T 10=(iV ((k:Nat):Int))∧T 11=(aG (tbl (rsN m ins k) j))∧T 12=(V.ms 12 w2 0 j)∧T 13=(iV ((j:Nat):Int))∧T 75=(V.bool (decide (((j:Nat):Int) < ((ins.length:Nat):Int))))∧H 2=(bMq m)∧H 4=bNq∧H 9=(bk 1 24 4 [[(iV ((ins.length:Nat):Int)),(iV m.s),(V.ms 812 v 0 k),(V.ms 813 w 0 k)]])∧((H 11).ver=v2∧(H 11).live=false)∧H 12=(bz w2 3 1 (List.map cI (tbl (rsO m ins k) j)))∧H 812=(bz v 25 1 (List.map cL (tbl (fun s=>tbl (rsN m ins s) ins.length) k)))∧H 813=(bz w 25 1 (List.map cL (tbl (fun s=>tbl (rsO m ins s) ins.length) k)))∧True) ⟨(aL t1 rfl),(aL t2 rfl),(aL t4 rfl),(aL t9 rfl),(aL t10 rfl),(aL t11 (fR h11 (by simp) (l:=(tbl (rsN m ins k) j)) rfl (by exact (aP _ _).symm))),(aL t12 (bV (by decide))),(aL t13 rfl),(aL t75 rfl),(aK h2 (by decide)),(aK h4 (by decide)),(aK h9 (by decide)),(bG (cVq h11)),(aK h12 (by decide)),(aK h812 (by decide)),(aK h813 (by decide)),trivial⟩ ?_
  intro T H ⟨t1,t2,t4,t9,t10,t11,t12,t13,t75,h2,h4,h9,h11,h12,h812,h813,_⟩
  refine fQ (fun T H=>T 1=(aG ins)∧T 2=(mPq 2)∧T 4=(mPq 4)∧T 9=(mPq 9)∧T 10=(iV ((k:Nat):Int))∧T 12=(V.ms 12 w2 0 j)∧H 2=(bMq m)∧H 4=bNq∧H 9=(bk 1 24 4 [[(iV ((ins.length:Nat):Int)),(iV m.s),(V.ms 812 (v+1) 0 (k+1)),(V.ms 813 w 0 k)]])∧((H 11).ver=v2∧(H 11).live=false)∧H 12=(bz w2 3 1 (List.map cI (tbl (rsO m ins k) j)))∧H 812=(bz (v+1) 25 1 (List.map cL (tbl (fun s=>tbl (rsN m ins s) ins.length) k++[tbl (rsN m ins k) j])))∧H 813=(bz w 25 1 (List.map cL (tbl (fun s=>tbl (rsO m ins s) ins.length) k)))∧True) ?_ ?_
  ·
   refine aZ t9 h9 (aS rfl h9 rfl rfl (aA t11 (bM rfl rfl (bK (l:=(tbl (fun s=>tbl (rsN m ins s) ins.length) k)) (f:=cL) (x:=(tbl (rsN m ins k) j)) (rVq (V.ms 812 v 0 k)) h812 (by exact (aP _ _).symm) (rVq (V.sl [[(aG (tbl (rsN m ins k) j))]])) rfl rfl (by omega) (by omega) (aZ t9 h9 (bC (vs:=[(V.ms 812 (v+1) 0 (k+1))]) (B':=(bk 1 24 4 [[(iV ((ins.length:Nat):Int)),(iV m.s),(V.ms 812 (v+1) 0 (k+1)),(V.ms 813 w 0 k)]])) rfl rfl rfl h9 (sB oB rfl rfl rfl rfl rfl) ?_))))))
   exact eE ⟨t1,t2,t4,t9,t10,t12,h2,h4,rfl,h11,h12,rfl,h813,trivial⟩
  intro T H ⟨t1,t2,t4,t9,t10,t12,h2,h4,h9,h11,h12,h812,h813,_⟩
  refine .freeze 12 (.done ?_)
  refine bF (R:=fun T H=>T 1=(aG ins)∧T 2=(mPq 2)∧T 4=(mPq 4)∧T 9=(mPq 9)∧T 10=(iV ((k:Nat):Int))∧T 12=(aG (tbl (rsO m ins k) j))∧H 2=(bMq m)∧H 4=bNq∧H 9=(bk 1 24 4 [[(iV ((ins.length:Nat):Int)),(iV m.s),(V.ms 812 (v+1) 0 (k+1)),(V.ms 813 w 0 k)]])∧((H 11).ver=v2∧(H 11).live=false)∧((H 12).ver=w2∧(H 12).live=false)∧H 812=(bz (v+1) 25 1 (List.map cL (tbl (fun s=>tbl (rsN m ins s) ins.length) k++[tbl (rsN m ins k) j])))∧H 813=(bz w 25 1 (List.map cL (tbl (fun s=>tbl (rsO m ins s) ins.length) k)))∧True) ⟨(aL t1 rfl),(aL t2 rfl),(aL t4 rfl),(aL t9 rfl),(aL t10 rfl),(aL t12 (fR h12 (by simp) (l:=(tbl (rsO m ins k) j)) rfl (by exact (aP _ _).symm))),(aK h2 (by decide)),(aK h4 (by decide)),(aK h9 (by decide)),(bU h11),(bG (cVq h12)),(aK h812 (by decide)),(aK h813 (by decide)),trivial⟩ ?_
  intro T H ⟨t1,t2,t4,t9,t10,t12,h2,h4,h9,h11,h12,h812,h813,_⟩
  refine W_t (aZ t9 h9 (aS rfl h9 rfl rfl (aA t12 (bM rfl rfl (bK (l:=(tbl (fun s=>tbl (rsO m ins s) ins.length) k)) (f:=cL) (x:=(tbl (rsO m ins k) j)) (rVq (V.ms 813 w 0 k)) h813 (by exact (aP _ _).symm) (rVq (V.sl [[(aG (tbl (rsO m ins k) j))]])) rfl rfl (by omega) (by omega) (aZ t9 h9 (bC (vs:=[(V.ms 813 (w+1) 0 (k+1))]) (B':=(bk 1 24 4 [[(iV ((ins.length:Nat):Int)),(iV m.s),(V.ms 812 (v+1) 0 (k+1)),(V.ms 813 (w+1) 0 (k+1))]])) rfl rfl rfl h9 (sB oB rfl rfl rfl rfl rfl) ?_)))))))
  refine R_e (n17 _ _ (.done (W_t (aA t10 (aU rfl (rNq 1) (by omega) (aA rfl (R_e ?_)))))))
  refine p115 _ _ _ ?_ ⟨(k+1),(v+1),(w+1),v2,w2,rfl,t1,t2,t4,t9,(eTq (rNq (k+1)) (by rfl)),h2,h4,(eTq (@rfl Blk (bk 1 24 4 [[(iV ((ins.length:Nat):Int)),(iV m.s),(V.ms 812 (v+1) 0 (k+1)),(V.ms 813 (w+1) 0 (k+1))]])) (by rfl)),h11,h12,(eTq h812 (by (rw [cE,ej]; first|done|rfl))),(eTq (@rfl Blk (bz (w+1) 25 1 (List.map cL (tbl (fun s=>tbl (rsO m ins s) ins.length) k++[tbl (rsO m ins k) j])))) (by (rw [cE,ej]; first|done|rfl))),?_⟩
  · omega
  · omega
 have ek:k=m.nx.length:=by omega
 have eR:(⟨((ins.length:Nat):Int),m.s,tbl (fun s=>tbl (rsN m ins s) ins.length) k,tbl (fun s=>tbl (rsO m ins s) ins.length) k⟩:M)=(rsM m ins):=by rw [ek]; rfl
 refine aN (p315 _ _ _ (x14 _ _ (bF (R:=fun T H=>T 1=(aG ins)∧T 2=(mPq 2)∧T 4=(mPq 4)∧T 9=(mPq 9)∧T 10=(iV ((k:Nat):Int))∧T 69=(V.bool (decide (((k:Nat):Int) < ((m.nx.length:Nat):Int))))∧H 2=(bMq m)∧H 4=bNq∧H 9=(bk 1 24 4 [[(iV ((ins.length:Nat):Int)),(iV m.s),(V.ms 812 v 0 k),(V.ms 813 w 0 k)]])∧((H 11).ver=v11∧(H 11).live=false)∧((H 12).ver=v12∧(H 12).live=false)∧H 812=(bz v 25 1 (List.map cL (tbl (fun s=>tbl (rsN m ins s) ins.length) k)))∧H 813=(bz w 25 1 (List.map cL (tbl (fun s=>tbl (rsO m ins s) ins.length) k)))∧True) ⟨t1,t2,t4,t9,t10,(rVq (V.bool (decide (((k:Nat):Int) < ((m.nx.length:Nat):Int))))),h2,h4,h9,h11,h12,h812,h813,trivial⟩ ?_)))
 intro T H ⟨t1,t2,t4,t9,t10,t69,h2,h4,h9,h11,h12,h812,h813,_⟩
 refine nL (id:=812) (id2:=9) (rows:=[[(iV ((ins.length:Nat):Int)),(iV m.s),(V.ms 812 v 0 k),(V.ms 813 w 0 k)]]) (i:=0) (off:=2) (r:=[(iV ((ins.length:Nat):Int)),(iV m.s),(V.ms 812 v 0 k),(V.ms 813 w 0 k)]) (m:=(tbl (fun s=>tbl (rsN m ins s) ins.length) k)) (g:=cL) (by decide) h812 h9 (by (simp; done)) (by exact (aP _ _).symm) rfl (bF (R:=fun T H=>T 1=(aG ins)∧T 2=(mPq 2)∧T 4=(mPq 4)∧T 9=(mPq 9)∧T 10=(iV ((k:Nat):Int))∧T 69=(V.bool (decide (((k:Nat):Int) < ((m.nx.length:Nat):Int))))∧H 2=(bMq m)∧H 4=bNq∧H 9=(bk 1 24 4 [[(iV ((ins.length:Nat):Int)),(iV m.s),(aD (tbl (fun s=>tbl (rsN m ins s) ins.length) k)),(V.ms 813 w 0 k)]])∧((H 11).ver=v11∧(H 11).live=false)∧((H 12).ver=v12∧(H 12).live=false)∧((H 812).ver=v∧(H 812).live=false)∧H 813=(bz w 25 1 (List.map cL (tbl (fun s=>tbl (rsO m ins s) ins.length) k)))∧True) ⟨(aL t1 rfl),(aL t2 rfl),(aL t4 rfl),(aL t9 rfl),(aL t10 rfl),(aL t69 rfl),(uTq (aK h2 (by decide))),(uTq (aK h4 (by decide))),(aH _ _ _),⟨(cVq (aQ _ _ (by decide))).trans (bU h11).1,(congrArg Blk.live (aQ _ _ (by decide))).trans (bU h11).2⟩,⟨(cVq (aQ _ _ (by decide))).trans (bU h12).1,(congrArg Blk.live (aQ _ _ (by decide))).trans (bU h12).2⟩,⟨(cVq (aQ _ _ (by decide))).trans (bG (cVq h812)).1,(congrArg Blk.live (aQ _ _ (by decide))).trans (bG (cVq h812)).2⟩,(uTq (aK h813 (by decide))),trivial⟩ ?_)
 intro T H ⟨t1,t2,t4,t9,t10,t69,h2,h4,h9,h11,h12,h812,h813,_⟩
 refine nL (id:=813) (id2:=9) (rows:=[[(iV ((ins.length:Nat):Int)),(iV m.s),(aD (tbl (fun s=>tbl (rsN m ins s) ins.length) k)),(V.ms 813 w 0 k)]]) (i:=0) (off:=3) (r:=[(iV ((ins.length:Nat):Int)),(iV m.s),(aD (tbl (fun s=>tbl (rsN m ins s) ins.length) k)),(V.ms 813 w 0 k)]) (m:=(tbl (fun s=>tbl (rsO m ins s) ins.length) k)) (g:=cL) (by decide) h813 h9 (by (simp; done)) (by exact (aP _ _).symm) rfl (.done ?_)
 refine bF (R:=fun T H=>T 1=(aG ins)∧T 2=(mPq 2)∧T 4=(mPq 4)∧T 9=(mPq 9)∧T 10=(iV ((k:Nat):Int))∧T 69=(V.bool (decide (((k:Nat):Int) < ((m.nx.length:Nat):Int))))∧H 2=(bMq m)∧H 4=bNq∧H 9=(bk 1 24 4 [[(iV ((ins.length:Nat):Int)),(iV m.s),(aD (tbl (fun s=>tbl (rsN m ins s) ins.length) k)),(aD (tbl (fun s=>tbl (rsO m ins s) ins.length) k))]])∧((H 11).ver=v11∧(H 11).live=false)∧((H 12).ver=v12∧(H 12).live=false)∧((H 812).ver=v∧(H 812).live=false)∧((H 813).ver=w∧(H 813).live=false)∧True) ⟨(aL t1 rfl),(aL t2 rfl),(aL t4 rfl),(aL t9 rfl),(aL t10 rfl),(aL t69 rfl),(uTq (aK h2 (by decide))),(uTq (aK h4 (by decide))),(aH _ _ _),⟨(cVq (aQ _ _ (by decide))).trans (bU h11).1,(congrArg Blk.live (aQ _ _ (by decide))).trans (bU h11).2⟩,⟨(cVq (aQ _ _ (by decide))).trans (bU h12).1,(congrArg Blk.live (aQ _ _ (by decide))).trans (bU h12).2⟩,⟨(cVq (aQ _ _ (by decide))).trans (bU h812).1,(congrArg Blk.live (aQ _ _ (by decide))).trans (bU h812).2⟩,⟨(cVq (aQ _ _ (by decide))).trans (bG (cVq h813)).1,(congrArg Blk.live (aQ _ _ (by decide))).trans (bG (cVq h813)).2⟩,trivial⟩ ?_
 intro T H ⟨t1,t2,t4,t9,t10,t69,h2,h4,h9,h11,h12,h812,h813,_⟩
 refine W_r (aS t9 h9 rfl rfl (aV (aCL (⟨((ins.length:Nat):Int),m.s,(tbl (fun s=>tbl (rsN m ins s) ins.length) k),(tbl (fun s=>tbl (rsO m ins s) ins.length) k)⟩:M)) rfl (cK rfl rfl (cK rfl rfl (bC (vs:=[(iV ((trR (⟨((ins.length:Nat):Int),m.s,(tbl (fun s=>tbl (rsN m ins s) ins.length) k),(tbl (fun s=>tbl (rsO m ins s) ins.length) k)⟩:M)).i)),(iV ((trR (⟨((ins.length:Nat):Int),m.s,(tbl (fun s=>tbl (rsN m ins s) ins.length) k),(tbl (fun s=>tbl (rsO m ins s) ins.length) k)⟩:M)).s)),(aD ((trR (⟨((ins.length:Nat):Int),m.s,(tbl (fun s=>tbl (rsN m ins s) ins.length) k),(tbl (fun s=>tbl (rsO m ins s) ins.length) k)⟩:M)).nx)),(aD ((trR (⟨((ins.length:Nat):Int),m.s,(tbl (fun s=>tbl (rsN m ins s) ins.length) k),(tbl (fun s=>tbl (rsO m ins s) ins.length) k)⟩:M)).ot))]) (B':=(bk 1 24 4 [[(iV ((trR (⟨((ins.length:Nat):Int),m.s,(tbl (fun s=>tbl (rsN m ins s) ins.length) k),(tbl (fun s=>tbl (rsO m ins s) ins.length) k)⟩:M)).i)),(iV ((trR (⟨((ins.length:Nat):Int),m.s,(tbl (fun s=>tbl (rsN m ins s) ins.length) k),(tbl (fun s=>tbl (rsO m ins s) ins.length) k)⟩:M)).s)),(aD ((trR (⟨((ins.length:Nat):Int),m.s,(tbl (fun s=>tbl (rsN m ins s) ins.length) k),(tbl (fun s=>tbl (rsO m ins s) ins.length) k)⟩:M)).nx)),(aD ((trR (⟨((ins.length:Nat):Int),m.s,(tbl (fun s=>tbl (rsN m ins s) ins.length) k),(tbl (fun s=>tbl (rsO m ins s) ins.length) k)⟩:M)).ot))]])) t4 rfl rfl h4 (sB oB rfl rfl rfl rfl rfl) (aA rfl (R_e ?_)))))))
 refine bN ?_
 refine jS (gT (u:=(V.agg [(iV ((trR (⟨((ins.length:Nat):Int),m.s,(tbl (fun s=>tbl (rsN m ins s) ins.length) k),(tbl (fun s=>tbl (rsO m ins s) ins.length) k)⟩:M)).i)),(iV ((trR (⟨((ins.length:Nat):Int),m.s,(tbl (fun s=>tbl (rsN m ins s) ins.length) k),(tbl (fun s=>tbl (rsO m ins s) ins.length) k)⟩:M)).s)),(aD ((trR (⟨((ins.length:Nat):Int),m.s,(tbl (fun s=>tbl (rsN m ins s) ins.length) k),(tbl (fun s=>tbl (rsO m ins s) ins.length) k)⟩:M)).nx)),(aD ((trR (⟨((ins.length:Nat):Int),m.s,(tbl (fun s=>tbl (rsN m ins s) ins.length) k),(tbl (fun s=>tbl (rsO m ins s) ins.length) k)⟩:M)).ot))])) t4 (@rfl Blk (bk 1 24 4 [[(iV ((trR (⟨((ins.length:Nat):Int),m.s,(tbl (fun s=>tbl (rsN m ins s) ins.length) k),(tbl (fun s=>tbl (rsO m ins s) ins.length) k)⟩:M)).i)),(iV ((trR (⟨((ins.length:Nat):Int),m.s,(tbl (fun s=>tbl (rsN m ins s) ins.length) k),(tbl (fun s=>tbl (rsO m ins s) ins.length) k)⟩:M)).s)),(aD ((trR (⟨((ins.length:Nat):Int),m.s,(tbl (fun s=>tbl (rsN m ins s) ins.length) k),(tbl (fun s=>tbl (rsO m ins s) ins.length) k)⟩:M)).nx)),(aD ((trR (⟨((ins.length:Nat):Int),m.s,(tbl (fun s=>tbl (rsN m ins s) ins.length) k),(tbl (fun s=>tbl (rsO m ins s) ins.length) k)⟩:M)).ot))]])) (lB oB rfl rfl)) (jM (rVq (iV (bD (⟨((ins.length:Nat):Int),m.s,(tbl (fun s=>tbl (rsN m ins s) ins.length) k),(tbl (fun s=>tbl (rsO m ins s) ins.length) k)⟩:M))))) (iM (bZ (aW ?_) (bZ (aW ?_) (bZ (mJ ?_ (fun _=>by simp)) (bZ (mJ ?_ (fun _=>by simp)) rfl))))) (aW ?_)
 · rw [eR]
 · rw [eR]
 · rw [eR]
 · rw [eR]
 · rw [eR,aAR hm hv]
theorem aGf (m:M) (gs:List (List Int)) (hg:gs.length≤4):bA Tryz.prog 21 [(V.agg [(iV m.i),(iV m.s),(aD m.nx),(aD m.ot)]),(aD gs)] (V.tup [(V.sl (List.map mC (fcL m gs))),(iV (fcE m gs))]):=by
 refine pW Tryz.func21 aOH fun hB=>?_
 unfold s21
 dsimp only
 refine W_r (dN (i:=2) (n:=0) (m:=4) (cs:=[(iV m.i),(iV m.s),(aD m.nx),(aD m.ot)]) rfl (cVq rfl) rfl rfl rfl (aA rfl (aA rfl (R_e (W_r (aS rfl rfl rfl rfl (aA rfl ?_)))))))
 refine aV (aAa m gs hg) rfl (aA rfl (cK rfl rfl (cK rfl rfl (cK rfl rfl (aA rfl (aA rfl (aA rfl ?_)))))))
 refine R_e (aB (W_r (aA rfl (dD rfl rfl (R_e ?_)))))
 refine aJ rfl (fun c1=>?_) fun c1=>?_
 ·
  have d0:=c1
  have e1:fcE m gs=(isD m gs).2.2:=by unfold fcE; rw [if_pos d0]
  have e2: ¬fcE m gs=0:=by rw [e1]; exact d0
  refine aB (W_r (aA rfl (aA rfl (aA rfl (R_e (aX ?_))))))
  refine jN (rVq V.nilsl) (rVq (iV ((isD m gs).2.2))) (eB ?_) (aW ?_)
  · rw [fcL,if_neg e2]; try rfl
  · exact e1.symm
 have d0:(isD m gs).2.2=0:=by have z:=c1; omega
 obtain ⟨hm,hp⟩:=aMr d0
 refine aE (aB (W_r (aA rfl (R_e ?_))))
 refine cW rfl (fun c2=>?_) (fun c2=>?_)
 ·
  have d1:(isD m gs).2.1=true:=c2
  have e1:fcE m gs=15:=by unfold fcE; rw [if_neg (by omega),if_pos d1]
  have e2: ¬fcE m gs=0:=by rw [e1]; decide
  refine aB (W_r (aA rfl (aA rfl (R_e (aX ?_)))))
  refine jN (rVq V.nilsl) (rVq (iV 15)) (eB ?_) (aW ?_)
  · rw [fcL,if_neg e2]; try rfl
  · exact e1.symm
 have d1:(isD m gs).2.1=false:=c2
 have e3:fcE m gs=0:=by unfold fcE; rw [if_neg (by omega),if_neg (by rw [d1]; decide)]
 refine aE (W_r (dQ (i:=9) (n:=0) rfl (cVq rfl) (R_e (aB (W_r (aA rfl (R_e ?_)))))))
 refine aC fun Q3 n3 x3 y3 z3=>?_
 refine bH (fun mm T H=> ∃ (k:Nat) (u:Nat) (v11:Nat) (v13:Nat),mm=gs.length - k∧T 1=(aD gs)∧T 2=(mPq 2)∧T 9=(V.ms 9 u 0 k)∧T 10=(iV ((k:Nat):Int))∧H 2=(bMq m)∧H 9=(bz u 24 4 (List.map mC (tbl (fcM m gs) k)))∧((H 11).ver=v11∧(H 11).live=false)∧((H 13).ver=v13∧(H 13).live=false)∧(k≤gs.length)) ?_ ?_
 ·
  refine ⟨_,0,1,0,0,rfl,rfl,rfl,rfl,(eTq (rVq (iV 0)) rfl),rfl,(eTq (@rfl Blk (bz 1 24 4 [])) (by rfl)),⟨(cVq rfl),congrArg Blk.live (@rfl Blk bZq)⟩,⟨(cVq rfl),congrArg Blk.live (@rfl Blk bZq)⟩,?_⟩
  · exact Nat.zero_le _
 intro mm T H ⟨k,u,v11,v13,hmm,t1,t2,t9,t10,h2,h9,h11,h13,hk⟩ Q4 p14 p24 p34
 unfold aMn
 refine aB (W_r (aA t10 (aA t1 (bI rfl (bJ rfl rfl (R_e ?_))))))
 refine aJ rfl (fun c5=>?_) fun c5=>?_
 ·
  refine aE (aC fun Q6 n6 x6 y6 z6=>(W_d (by exact (aNd h11.2 aL1)) (aS t2 h2 rfl rfl (aA t1 (aA t10 (bE (i:=k) (rVq (aD gs)) (rNq k) (by omega) rfl (aF rfl rfl ?_)))))))
  refine aV (aBQ m (nth gs k) hm (aD8 hm hp (by omega))) rfl (aA rfl (cK rfl rfl (cK rfl rfl (cQ (i:=11) (n:=v11) (m:=4) rfl h11.1 rfl (bC (vs:=[(iV ((trR (rsM m (nth gs k))).i)),(iV ((trR (rsM m (nth gs k))).s)),(aD ((trR (rsM m (nth gs k))).nx)),(aD ((trR (rsM m (nth gs k))).ot))]) (B':=(bk (v11+1) 24 4 [[(iV ((trR (rsM m (nth gs k))).i)),(iV ((trR (rsM m (nth gs k))).s)),(aD ((trR (rsM m (nth gs k))).nx)),(aD ((trR (rsM m (nth gs k))).ot))]])) rfl rfl rfl rfl (sB oB rfl rfl rfl rfl rfl) (aA rfl (R_e ?_)))))))
  refine aB (W_r (aA rfl (dD rfl rfl (R_e ?_))))
  refine aJ rfl (fun c7=>?_) fun c7=>?_
  · exact absurd c7 (by decide)
  refine aE (W_r (aS rfl rfl rfl rfl (aV (aFO (trR (rsM m (nth gs k)))) rfl (aA rfl (cK rfl rfl (cK rfl rfl (cQ (i:=13) (n:=v13) (m:=4) rfl h13.1 rfl ?_)))))))
  refine bC (vs:=[(iV ((mnR (trR (rsM m (nth gs k)))).i)),(iV ((mnR (trR (rsM m (nth gs k)))).s)),(aD ((mnR (trR (rsM m (nth gs k)))).nx)),(aD ((mnR (trR (rsM m (nth gs k)))).ot))]) (B':=(bk (v13+1) 24 4 [[(iV ((mnR (trR (rsM m (nth gs k)))).i)),(iV ((mnR (trR (rsM m (nth gs k)))).s)),(aD ((mnR (trR (rsM m (nth gs k)))).nx)),(aD ((mnR (trR (rsM m (nth gs k)))).ot))]])) rfl rfl rfl rfl (sB oB rfl rfl rfl rfl rfl) (aA rfl (R_e (aB (W_r (aA rfl (dD rfl rfl (R_e ?_)))))))
  refine aJ rfl (fun c8=>?_) fun c8=>?_
  · exfalso; exact c8 (aFf (aAR hm (aD8 hm hp (by omega))))
  refine aE (W_t (aA t9 (aS rfl rfl rfl rfl (bM rfl rfl (bK (l:=(tbl (fcM m gs) k)) (f:=mC) (x:=(mnR (trR (rsM m (nth gs k))))) (rVq (V.ms 9 u 0 k)) h9 (by exact (aP _ _).symm) (rVq (V.sl [[(iV ((mnR (trR (rsM m (nth gs k)))).i)),(iV ((mnR (trR (rsM m (nth gs k)))).s)),(aD ((mnR (trR (rsM m (nth gs k)))).nx)),(aD ((mnR (trR (rsM m (nth gs k)))).ot))]])) rfl rfl (by omega) (by omega) (aA rfl (R_e ?_)))))))
  refine n6 _ _ (bF (R:=fun T H=>T 1=(aD gs)∧T 2=(mPq 2)∧T 9=(V.ms 9 (u+1) 0 (k+1))∧T 10=(iV ((k:Nat):Int))∧H 2=(bMq m)∧H 9=(bz (u+1) 24 4 (List.map mC (tbl (fcM m gs) k++[(mnR (trR (rsM m (nth gs k))))])))∧H 11=(bk (v11+1) 24 4 [[(iV ((trR (rsM m (nth gs k))).i)),(iV ((trR (rsM m (nth gs k))).s)),(aD ((trR (rsM m (nth gs k))).nx)),(aD ((trR (rsM m (nth gs k))).ot))]])∧H 13=(bk (v13+1) 24 4 [[(iV ((mnR (trR (rsM m (nth gs k)))).i)),(iV ((mnR (trR (rsM m (nth gs k)))).s)),(aD ((mnR (trR (rsM m (nth gs k)))).nx)),(aD ((mnR (trR (rsM m (nth gs k)))).ot))]])∧True) ⟨t1,t2,(rVq (V.ms 9 (u+1) 0 (k+1))),t10,h2,rfl,rfl,rfl,trivial⟩ ?_)
  intro T H ⟨t1,t2,t9,t10,h2,h9,h11,h13,_⟩
  refine .freeze 11 (bF (R:=fun T H=>T 1=(aD gs)∧T 2=(mPq 2)∧T 9=(V.ms 9 (u+1) 0 (k+1))∧T 10=(iV ((k:Nat):Int))∧H 2=(bMq m)∧H 9=(bz (u+1) 24 4 (List.map mC (tbl (fcM m gs) k++[(mnR (trR (rsM m (nth gs k))))])))∧((H 11).ver=v11+1∧(H 11).live=false)∧H 13=(bk (v13+1) 24 4 [[(iV ((mnR (trR (rsM m (nth gs k)))).i)),(iV ((mnR (trR (rsM m (nth gs k)))).s)),(aD ((mnR (trR (rsM m (nth gs k)))).nx)),(aD ((mnR (trR (rsM m (nth gs k)))).ot))]])∧True) ⟨(aL t1 rfl),(aL t2 rfl),(aL t9 (bV (by decide))),(aL t10 rfl),(aK h2 (by decide)),(aK h9 (by decide)),(bG (cVq h11)),(aK h13 (by decide)),trivial⟩ ?_)
  intro T H ⟨t1,t2,t9,t10,h2,h9,h11,h13,_⟩
  refine .freeze 13 (.done ?_)
  refine bF (R:=fun T H=>T 1=(aD gs)∧T 2=(mPq 2)∧T 9=(V.ms 9 (u+1) 0 (k+1))∧T 10=(iV ((k:Nat):Int))∧H 2=(bMq m)∧H 9=(bz (u+1) 24 4 (List.map mC (tbl (fcM m gs) k++[(mnR (trR (rsM m (nth gs k))))])))∧((H 11).ver=v11+1∧(H 11).live=false)∧((H 13).ver=v13+1∧(H 13).live=false)∧True) ⟨(aL t1 rfl),(aL t2 rfl),(aL t9 (bV (by decide))),(aL t10 rfl),(aK h2 (by decide)),(aK h9 (by decide)),(bU h11),(bG (cVq h13)),trivial⟩ ?_
  intro T H ⟨t1,t2,t9,t10,h2,h9,h11,h13,_⟩
  refine W_t (aA t10 (aU rfl (rNq 1) (by omega) (aA rfl (R_e ?_))))
  refine p14 _ _ _ ?_ ⟨(k+1),(u+1),(v11+1),(v13+1),rfl,t1,t2,(eTq t9 (by rfl)),(eTq (rNq (k+1)) (by rfl)),h2,(eTq h9 (by (rw [cE]; first|done|rfl))),h11,h13,?_⟩
  · omega
  · omega
 have ek:gs.length=k:=by omega
 refine aN (p34 _ _ _ (x3 _ _ (.done (W_r (aA t9 (aA rfl (aA rfl ?_)))))))
 refine R_e (bN ?_)
 refine jN (rVq (V.ms 9 u 0 k)) (rVq (iV 0)) (gD h9 (by simp) (l:=(tbl (fcM m gs) k)) rfl (by exact (aP _ _).symm) (fun _=>by simp) ?_) (aW ?_)
 · rw [fcL,if_pos e3,ek]; try rfl
 · exact e3.symm
theorem aFP (m:M) (gs:List (List Int)):bA Tryz.prog 5 [(V.agg [(iV m.i),(iV m.s),(aD m.nx),(aD m.ot)]),(aD gs)] (V.bool true):=by
 refine pW Tryz.func5 aT4 fun hB=>?_
 unfold s5
 dsimp only
 refine W_r (dN (i:=2) (n:=0) (m:=4) (cs:=[(iV m.i),(iV m.s),(aD m.nx),(aD m.ot)]) rfl (cVq rfl) rfl rfl rfl (aA rfl (R_e (aB (W_r (aS rfl rfl rfl rfl (aV (aAL m) rfl ?_)))))))
 refine aA rfl ?_
 refine bW 4 (fun T H=>T 1=(aD gs)∧T 2=(mPq 2)∧T 22=(V.bool ((ggr m)||decide ((4:Int) < ((gs.length:Nat):Int))))∧H 2=(bMq m)∧True) ?_ ?_
 ·
  by_cases g1:(ggr m)=true
  ·
   refine G_n (ebT g1 rfl) (G_n (ebT g1 rfl) (G_n (ebT g1 rfl) (bY (ebT g1 rfl) rfl ?_)))
   exact ⟨rfl,rfl,(aBZ g1),rfl,trivial⟩
  ·
   refine aM (ebF g1 rfl) (aA rfl (aM (ebF g1 rfl) (bI rfl (aM (ebF g1 rfl) (iQ rfl rfl (bX (ebF g1 rfl) rfl ?_))))))
   exact ⟨rfl,rfl,(aBN g1),rfl,trivial⟩
 intro T H ⟨t1,t2,t22,h2,_⟩
 refine R_e ?_
 refine cW t22 (fun c2=>?_) (fun c2=>?_)
 ·
  refine aB (W_r (aV fU rfl (aA rfl (R_e (aX ?_)))))
  refine bS (rVq (V.bool true)) (dE (by simp) rfl)
 have hg:gs.length≤4:=by have z:=c2; simp at z; omega
 have fl:=aJy (m:=m) hg
 refine aE (W_r (aS t2 h2 rfl rfl (aA t1 (aV (zJ m gs hg) rfl (aA rfl (cK rfl rfl (cK rfl rfl ?_)))))))
 refine cK rfl rfl (aA rfl (aA rfl (aA rfl (R_e (W_r (aS t2 h2 rfl rfl (aA t1 ?_)))))))
 refine aV (aAa m gs hg) rfl (aA rfl (cK rfl rfl (cK rfl rfl (cK rfl rfl (aA rfl (aA rfl (aA rfl ?_)))))))
 refine R_e (W_r (aS t2 h2 rfl rfl (aA t1 (aV (aFS m gs hg) rfl (aA rfl (cK rfl rfl (cK rfl rfl ?_)))))))
 refine aA rfl (aA rfl (R_e ?_))
 refine fV (fun T H=>T 5=(aG ((isD m gs).1))∧T 6=(V.bool ((isD m gs).2.1))∧T 7=(iV ((isD m gs).2.2))∧T 8=(aG ((isD m gs).1))∧T 9=(V.bool ((isD m gs).2.1))∧T 10=(iV ((isD m gs).2.2))∧T 11=(V.sl (List.map mC (fcL m gs)))∧T 12=(iV (fcE m gs))∧T 13=(V.sl (List.map mC (fcL m gs)))∧T 14=(iV (fcE m gs))∧H 2=(bMq m)∧True) ?_ ?_
 ·
  refine aS t2 h2 rfl rfl (aA t1 (aV (aGf m gs hg) rfl (aA rfl (cK rfl rfl (cK rfl rfl (aA rfl (aA rfl ?_)))))))
  exact eE ⟨rfl,rfl,rfl,rfl,rfl,rfl,rfl,rfl,rfl,rfl,h2,trivial⟩
 intro T H ⟨t5,t6,t7,t8,t9,t10,t11,t12,t13,t14,h2,_⟩
 refine aB (W_r (aA t5 (aA t8 (aV (sA ((isD m gs).1) ((isD m gs).1)) rfl (sX rfl (aA rfl ?_))))))
 refine bW 4 (fun T H=>T 7=(iV ((isD m gs).2.2))∧T 10=(iV ((isD m gs).2.2))∧T 11=(V.sl (List.map mC (fcL m gs)))∧T 12=(iV (fcE m gs))∧T 13=(V.sl (List.map mC (fcL m gs)))∧T 14=(iV (fcE m gs))∧T 58=(V.bool (decide (¬(((isD m gs).1)=((isD m gs).1)))||(((isD m gs).2.1) != ((isD m gs).2.1))))∧H 2=(bMq m)∧True) ?_ ?_
 ·
  by_cases g3: ¬(((isD m gs).1)=((isD m gs).1))
  ·
   refine G_n (edT g3 rfl) (G_n (edT g3 rfl) (G_n (edT g3 rfl) (bY (edT g3 rfl) rfl ?_)))
   exact ⟨t7,t10,t11,t12,t13,t14,(aM6 g3),h2,trivial⟩
  ·
   refine aM (edF g3 rfl) (aA t6 (aM (edF g3 rfl) (aA t9 (aM (edF g3 rfl) (aRI (x:=((isD m gs).2.1)) (y:=((isD m gs).2.1)) rfl rfl (bX (edF g3 rfl) rfl ?_))))))
   exact ⟨t7,t10,t11,t12,t13,t14,(aLV g3),h2,trivial⟩
 intro T H ⟨t7,t10,t11,t12,t13,t14,t58,h2,_⟩
 refine aA t58 ?_
 refine bW 4 (fun T H=>T 11=(V.sl (List.map mC (fcL m gs)))∧T 12=(iV (fcE m gs))∧T 13=(V.sl (List.map mC (fcL m gs)))∧T 14=(iV (fcE m gs))∧T 63=(V.bool ((decide (¬(((isD m gs).1)=((isD m gs).1)))||(((isD m gs).2.1) != ((isD m gs).2.1)))||decide (((isD m gs).2.2)≠((isD m gs).2.2))))∧H 2=(bMq m)∧True) ?_ ?_
 ·
  by_cases g4:(decide (¬(((isD m gs).1)=((isD m gs).1)))||(((isD m gs).2.1) != ((isD m gs).2.1)))=true
  ·
   have g4x:=g4
   try simp only [Bool.and_eq_true,Bool.or_eq_true,Bool.not_eq_true',decide_eq_true_eq] at g4x
   refine G_n (ebT g4 rfl) (G_n (ebT g4 rfl) (G_n (ebT g4 rfl) (bY (ebT g4 rfl) rfl ?_)))
   exact ⟨t11,t12,t13,t14,(aBZ g4),h2,trivial⟩
  ·
   have g4x:=g4
   try simp only [Bool.and_eq_true,Bool.or_eq_true,Bool.not_eq_true',decide_eq_true_eq] at g4x
   refine aM (ebF g4 rfl) (aA t7 (aM (ebF g4 rfl) (aA t10 (aM (ebF g4 rfl) (dD rfl rfl (bX (ebF g4 rfl) rfl ?_))))))
   exact ⟨t11,t12,t13,t14,(aBN g4),h2,trivial⟩
 intro T H ⟨t11,t12,t13,t14,t63,h2,_⟩
 refine aA t63 ?_
 refine bW 6 (fun T H=>T 11=(V.sl (List.map mC (fcL m gs)))∧T 12=(iV (fcE m gs))∧T 13=(V.sl (List.map mC (fcL m gs)))∧T 14=(iV (fcE m gs))∧T 70=(V.bool (((decide (¬(((isD m gs).1)=((isD m gs).1)))||(((isD m gs).2.1) != ((isD m gs).2.1)))||decide (((isD m gs).2.2)≠((isD m gs).2.2)))||decide ((((fcL m gs).length:Nat):Int)≠(((fcL m gs).length:Nat):Int))))∧H 2=(bMq m)∧True) ?_ ?_
 ·
  by_cases g5:((decide (¬(((isD m gs).1)=((isD m gs).1)))||(((isD m gs).2.1) != ((isD m gs).2.1)))||decide (((isD m gs).2.2)≠((isD m gs).2.2)))=true
  ·
   have g5x:=g5
   try simp only [Bool.and_eq_true,Bool.or_eq_true,Bool.not_eq_true',decide_eq_true_eq] at g5x
   refine G_n (ebT g5 rfl) (G_n (ebT g5 rfl) (G_n (ebT g5 rfl) (G_n (ebT g5 rfl) (G_n (ebT g5 rfl) (bY (ebT g5 rfl) rfl ?_)))))
   exact ⟨t11,t12,t13,t14,(aBZ g5),h2,trivial⟩
  ·
   have g5x:=g5
   try simp only [Bool.and_eq_true,Bool.or_eq_true,Bool.not_eq_true',decide_eq_true_eq] at g5x
   refine aM (ebF g5 rfl) (aA t11 (aM (ebF g5 rfl) (bI rfl (aM (ebF g5 rfl) (aA t13 (aM (ebF g5 rfl) (bI rfl ?_)))))))
   refine aM (ebF g5 rfl) (dD rfl rfl (bX (ebF g5 rfl) rfl ?_))
   exact ⟨t11,t12,t13,t14,(aBN g5),h2,trivial⟩
 intro T H ⟨t11,t12,t13,t14,t70,h2,_⟩
 refine aA t70 ?_
 refine bW 4 (fun T H=>T 11=(V.sl (List.map mC (fcL m gs)))∧T 13=(V.sl (List.map mC (fcL m gs)))∧T 75=(V.bool ((((decide (¬(((isD m gs).1)=((isD m gs).1)))||(((isD m gs).2.1) != ((isD m gs).2.1)))||decide (((isD m gs).2.2)≠((isD m gs).2.2)))||decide ((((fcL m gs).length:Nat):Int)≠(((fcL m gs).length:Nat):Int)))||decide ((fcE m gs)≠(fcE m gs))))∧H 2=(bMq m)∧True) ?_ ?_
 ·
  by_cases g6:(((decide (¬(((isD m gs).1)=((isD m gs).1)))||(((isD m gs).2.1) != ((isD m gs).2.1)))||decide (((isD m gs).2.2)≠((isD m gs).2.2)))||decide ((((fcL m gs).length:Nat):Int)≠(((fcL m gs).length:Nat):Int)))=true
  ·
   have g6x:=g6
   try simp only [Bool.and_eq_true,Bool.or_eq_true,Bool.not_eq_true',decide_eq_true_eq] at g6x
   refine G_n (ebT g6 rfl) (G_n (ebT g6 rfl) (G_n (ebT g6 rfl) (bY (ebT g6 rfl) rfl ?_)))
   exact ⟨t11,t13,(aBZ g6),h2,trivial⟩
  ·
   have g6x:=g6
   try simp only [Bool.and_eq_true,Bool.or_eq_true,Bool.not_eq_true',decide_eq_true_eq] at g6x
   refine aM (ebF g6 rfl) (aA t12 (aM (ebF g6 rfl) (aA t14 (aM (ebF g6 rfl) (dD rfl rfl (bX (ebF g6 rfl) rfl ?_))))))
   exact ⟨t11,t13,(aBN g6),h2,trivial⟩
 intro T H ⟨t11,t13,t75,h2,_⟩
 refine R_e ?_
 refine cW t75 (fun c7=>?_) (fun c7=>?_)
 · exfalso; have z:=c7; simp at z
 refine aE (aB (W_r (aA rfl (R_e (aC fun Q8 n8 x8 y8 z8=>?_)))))
 refine bH (fun mm T H=> ∃ (k:Nat),mm=(fcL m gs).length - k∧T 11=(V.sl (List.map mC (fcL m gs)))∧T 13=(V.sl (List.map mC (fcL m gs)))∧T 15=(iV ((k:Nat):Int))∧H 2=(bMq m)∧(k≤(fcL m gs).length)) ?_ ?_
 ·
  refine ⟨_,0,rfl,t11,t13,(eTq (rVq (iV 0)) rfl),h2,?_⟩
  · exact Nat.zero_le _
 intro mm T H ⟨k,hmm,t11,t13,t15,h2,hk⟩ Q9 p19 p29 p39
 unfold aT8
 refine aB (W_r (aA t15 (aA t11 (bI rfl (bJ rfl rfl (R_e ?_))))))
 refine aJ rfl (fun c10=>?_) fun c10=>?_
 ·
  refine aE (aC fun Q11 n11 x11 y11 z11=>(W_r (aA t11 (aA t15 (bE (i:=k) (rVq (V.sl (List.map mC (fcL m gs)))) (rNq k) (by omega) rfl (aF rfl rfl (aA t13 ?_)))))))
  refine aA t15 (bE (i:=k) (rVq (V.sl (List.map mC (fcL m gs)))) (rNq k) (by omega) rfl (aF rfl rfl (aV (aCV (nth (fcL m gs) k) (nth (fcL m gs) k)) rfl (sX rfl (R_e ?_)))))
  refine iE rfl (fun c12=>?_) fun c12=>?_
  · exfalso; have z:=c12; simp at z
  refine dS (n11 _ _ (.done (W_t (aA t15 (aU rfl (rNq 1) (by omega) (aA rfl (R_e ?_)))))))
  refine p19 _ _ _ ?_ ⟨(k+1),rfl,t11,t13,(eTq (rNq (k+1)) (by rfl)),h2,?_⟩
  · omega
  · omega
 refine aN (p39 _ _ _ (x8 _ _ (.done (W_r (aV fU rfl (aA rfl (R_e ?_)))))))
 refine bN ?_
 refine bS (rVq (V.bool true)) (dE (by simp) rfl)
end Go.Proofs.YtmnnhjhkaepbaaaGreat
namespace Go.Proofs.YtmnnhjhkaepbaaaGreat
open Go Go.Proofs Go.Proofs.YtmnnhjhkaepbaaaGreat Go.ChangeShapes Go.WideShapes Go.ChangeAt Go.RowKit
structure UT (P:Program):Prop where
  u3:P.underlying 3=some (.int .i64)
  u22:P.underlying 22=some (.slice 25)
  u25:P.underlying 25=some (.slice 3)
  u24: ∃ f0 f1 f2 f3:Field,P.underlying 24=some (.struct #[f0,f1,f2,f3])∧f0.type=3∧f1.type=3∧f2.type=22∧f3.type=22
theorem sh3 {P:Program} (U:UT P) (n:Nat) (vs:List V) (h:Shp P (n+1) 3 vs): ∃ a:Int,vs=cI a:=aJf U.u3 h
theorem aVy {P:Program} (U:UT P) (n:Nat) (vs:List V) (h:Shp P (n+2) 25 vs): ∃ a:List Int,vs=cL a:=zY (f:=cI) U.u25 (fun vs h=>sh3 U n vs h) h
theorem aNL {P:Program} (U:UT P) (n:Nat) (vs:List V) (h:Shp P (n+3) 22 vs): ∃ a:List (List Int),vs=(fun l=>[V.sl (List.map cL l)]) a:=zY (f:=cL) U.u22 (fun vs h=>aVy U n vs h) h
theorem aVU {P:Program} (U:UT P) (n:Nat) (vs:List V) (h:Shp P (n+4) 24 vs): ∃ a:M,vs=mC a:=by
  obtain ⟨f0,f1,f2,f3,hu,k0,k1,k2,k3⟩:=U.u24
  have h0:=aHS hu h
  obtain ⟨x0,u0,e0,h1⟩:=nQ (c:=cI) (fun vs h=>sh3 U (n+2) vs (by rw [k0] at h; exact h)) h0
  obtain ⟨x1,u1,e1,h2⟩:=nQ (c:=cI) (fun vs h=>sh3 U (n+2) vs (by rw [k1] at h; exact h)) h1
  obtain ⟨x2,u2,e2,h3⟩:=nQ (c:=(fun l=>[V.sl (List.map cL l)])) (fun vs h=>aNL U (n+0) vs (by rw [k2] at h; exact h)) h2
  obtain ⟨x3,u3,e3,h4⟩:=nQ (c:=(fun l=>[V.sl (List.map cL l)])) (fun vs h=>aNL U (n+0) vs (by rw [k3] at h; exact h)) h3
  have e4:=aIA h4
  exact ⟨⟨x0,x1,x2,x3⟩,by rw [e0,e1,e2,e3,e4]; rfl⟩
theorem ut:UT Tryz.prog:=⟨by kernel_rfl,by kernel_rfl,by kernel_rfl,⟨_,_,_,_,Tryz.underlying24,rfl,rfl,rfl,rfl⟩⟩
theorem aSL {P:Program} (U:UT P) {us:List V} (h:aC8 P 5 [24,22] us): ∃ (d0:M) (d1:List (List Int)),us=[V.agg (mC d0),V.sl (List.map cL d1)]:=by
  obtain ⟨a0,b0,e0,h0,h⟩:=zA h
  obtain ⟨d0,g0⟩:=aVU U 1 a0 h0
  have q0:mN P 24 a0=V.agg (mC d0):=by obtain ⟨_,_,_,_,hu,_⟩:=U.u24; rw [g0]; exact aBT hu _
  obtain ⟨a1,b1,e1,h1,h⟩:=zA h
  obtain ⟨d1,g1⟩:=aNL U 2 a1 h1
  have q1:mN P 22 a1=V.sl (List.map cL d1):=by rw [g1]; exact aDQ (fun fs h=>by rw [U.u22] at h; cases h) (fun m e h=>by rw [U.u22] at h; cases h)
  have e2:=aIg h
  exact ⟨d0,d1,by rw [e0,q0,e1,q1,e2]⟩
theorem aVx:ownKnob Tryz.prog.godebug=none:=by kernel_rfl
set_option maxRecDepth 100000 in
theorem aKd (os:Os) (started:os.Started) (H:Type) (enc:TypeId×Value→H):
    ReturnsInHanded {} Tryz.checked os 5 .any (Rows.greyboxGroupsSpec.pre6 enc Tryz.prog Tryz.f5 Rows.greyboxGroupsRow.domain false) (Rows.greyboxGroupsSpec.post enc Tryz.prog Tryz.f5 false true false false):=by
  refine returnsInHanded_of_change (C:=Tryz.checked) aVx started (by kernel_rfl) Tryz.func5
    (ChangeSpec.witness6 (enc:=enc) (C:=Tryz.checked) false ⟨#[],#[.agg #[.int .i64 0,.int .i64 0,.slice none 0 0,.slice none 0 0],.slice none 0 0],[]⟩ 8 (by kernel_rfl) (by kernel_rfl) (by kernel_rfl) (by kernel_rfl)) ?_
  intro W base args ds gs before hval0 hW hcnd _
  refine aHG (n:=5) (tb:=4) (by kernel_rfl) (by kernel_rfl) (by kernel_rfl) (fun t ht=>?_) rfl ?_ (fun us hu=>?_) hval0 hW
  · have h:t∈[24,22]:=ht
    simp only [List.mem_cons,List.not_mem_nil,or_false] at h
    rcases h with rfl|rfl
    · exact ⟨by kernel_rfl,by kernel_rfl,of_decide_eq_true (by kernel_rfl)⟩
    · exact ⟨by kernel_rfl,by kernel_rfl,of_decide_eq_true (by kernel_rfl)⟩
  · obtain ⟨p,q,hA,hV,rfl,hfz,hnd⟩:=hW
    obtain ⟨rfl,rfl⟩:=trodVars_none hV
    change DataW.TrodAll enc Tryz.prog W 0 (fun _=>true) true [24,22] args.toList ds p at hA
    obtain ⟨v0,vs0,y0,ds0,pa0,pb0,hv0,rfl,rfl,_,hA⟩:=trodAll_cons hA
    obtain ⟨v1,vs1,y1,ds1,pa1,pb1,hv1,rfl,rfl,_,hA⟩:=trodAll_cons hA
    obtain ⟨_,rfl,rfl⟩:=trodAll_nil hA
    rfl
  · obtain ⟨d0,d1,rfl⟩:=aSL ut hu
    exact aFP d0 d1
theorem proved5:Rows.GreyboxGroupsSaid:=
  OpenClaim.holds_of_wide 5 Tryz.f5 rfl rfl rfl rfl rfl rfl rfl ⟨rfl,rfl,rfl,rfl,rfl⟩ rfl rfl rfl rfl rfl (by kernel_rfl) Tryz.func5 (by kernel_rfl)
    (of_decide_eq_true (by kernel_rfl)) (by unfold Func.isWrapper; first|(rw [if_pos (by decide+kernel)]; kernel_rfl)|(rw [if_neg (by decide+kernel)]; exact ⟨rfl,rfl⟩))
    (fun os started H enc _=>aKd os started H enc)
end Go.Proofs.YtmnnhjhkaepbaaaGreat
