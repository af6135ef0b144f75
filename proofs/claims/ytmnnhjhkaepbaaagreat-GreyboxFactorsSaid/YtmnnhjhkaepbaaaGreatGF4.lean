/- Contracts of the functions that the law GF reaches, and the law itself, for every input; no condition. -/
import Derived.KernelRfl
import Derived.Test.YtmnnhjhkaepbaaaGreatProg
import Derived.Test.YtmnnhjhkaepbaaaGreatRows
import Derived.Test.YtmnnhjhkaepbaaaGreatGF3
set_option linter.unusedSimpArgs false
set_option linter.unusedVariables false
namespace Go.Proofs.YtmnnhjhkaepbaaaGreat
open Go Go.Proofs
theorem aIv (m:M) (ins:List Int) (hm:aV m=0) (hv:rsV m ins):aS Tryz.prog 70 [(iV ((ins.length:Nat):Int)),(V.agg [(iV m.s),(iV 0)]),(V.fn 71 [] [(V.pp [(iV m.i),(iV m.s),(aD m.nx),(aD m.ot)]),(V.pp [(aH ins)])])] (V.tup [(V.agg [(iV ((trR (rsM m ins)).i)),(iV ((trR (rsM m ins)).s)),(aD ((trR (rsM m ins)).nx)),(aD ((trR (rsM m ins)).ot))]),(iV 0)]):=by
 refine pW Tryz.func70 aIg fun hB=>?_
 unfold s70
 dsimp only
 have mo:=bK hm
 have hR:=zT hm hv
 have hl:=wV hm hv
 have e2:=aM0 (m:=m) (ins:=ins)
 refine W_r (eU (i:=4) (n:=0) (m:=2) (cs:=[(iV m.s),(iV 0)]) rfl (cVq rfl) rfl rfl rfl (eR (i:=6) (n:=0) (m:=4) rfl (cVq rfl) rfl (aA rfl (R_e (W_r (aA rfl (fY rfl rfl ?_)))))))
 refine eR (i:=8) (n:=0) (m:=4) rfl (cVq rfl) rfl (bJ (vs:=[(iV ((ins.length:Nat):Int)),(iV 0),V.nilsl,V.nilsl]) (B':=(bk 1 24 4 [[(iV ((ins.length:Nat):Int)),(iV 0),V.nilsl,V.nilsl]])) rfl rfl rfl rfl (sB oB rfl rfl rfl rfl rfl) (R_e (W_r (bD rfl rfl rfl rfl (kZ (i:=19) (n:=0) (qs:=[(0,(V.agg [(iV m.s),(iV 0)]))]) (rows:=[[(iV m.s),(iV 0)]]) rfl (cVq rfl) (cY (congrArg (fun v=>(0,v)) rfl) rfl) rfl (aA rfl (R_e ?_)))))))
 refine aB ?_
 refine mY (fun T H=>T 0=(iV ((ins.length:Nat):Int))∧T 2=(V.fn 71 [] [(V.pp [(iV m.i),(iV m.s),(aD m.nx),(aD m.ot)]),(V.pp [(aH ins)])])∧T 6=(mPq 6)∧T 8=(mPq 8)∧T 9=(V.ms 19 1 0 1)∧T 10=(iV 0)∧H 4=(bk 1 137 2 [[(iV m.s),(iV 0)]])∧H 6=bNq∧H 8=(bk 1 24 4 [[(iV ((ins.length:Nat):Int)),(iV 0),V.nilsl,V.nilsl]])∧H 11=bZq∧H 12=bZq∧H 14=bZq∧H 19=(bk 1 137 2 [[(iV m.s),(iV 0)]])∧H 812=bZq∧H 813=bZq∧True) ?_ ?_
 ·
  refine aA rfl ?_
  exact iQ ⟨rfl,rfl,rfl,rfl,rfl,rfl,rfl,rfl,rfl,rfl,rfl,rfl,rfl,rfl,rfl,trivial⟩
 intro T H ⟨t0,t2,t6,t8,t9,t10,h4,h6,h8,h11,h12,h14,h19,h812,h813,_⟩
 refine .lazyCell 812 25 1 8 0 2 [(iV ((ins.length:Nat):Int)),(iV 0),V.nilsl,V.nilsl] (by decide) (by rw [h8]; rfl) (by rw [h8]; rfl) rfl (bF (R:=fun T H=>T 0=(iV ((ins.length:Nat):Int))∧T 2=(V.fn 71 [] [(V.pp [(iV m.i),(iV m.s),(aD m.nx),(aD m.ot)]),(V.pp [(aH ins)])])∧T 6=(mPq 6)∧T 8=(mPq 8)∧T 9=(V.ms 19 1 0 1)∧T 10=(iV 0)∧H 4=(bk 1 137 2 [[(iV m.s),(iV 0)]])∧H 6=bNq∧H 8=(bk 1 24 4 [[(iV ((ins.length:Nat):Int)),(iV 0),(V.ms 812 1 0 0),V.nilsl]])∧H 11=bZq∧H 12=bZq∧H 14=bZq∧H 19=(bk 1 137 2 [[(iV m.s),(iV 0)]])∧H 812=(bz 1 25 1 [])∧H 813=bZq∧True) ⟨t0,t2,t6,t8,t9,t10,(uTq (uTq h4)),(uTq (uTq h6)),(by rw [aC,h8,(cVq h812)]; rfl),(uTq (uTq h11)),(uTq (uTq h12)),(uTq (uTq h14)),(uTq (uTq h19)),(by rw [aQ _ _ (by decide),aC,(cVq h812)]),(uTq (uTq h813)),trivial⟩ ?_)
 intro T H ⟨t0,t2,t6,t8,t9,t10,h4,h6,h8,h11,h12,h14,h19,h812,h813,_⟩
 refine .lazyCell 813 25 1 8 0 3 [(iV ((ins.length:Nat):Int)),(iV 0),(V.ms 812 1 0 0),V.nilsl] (by decide) (by rw [h8]; rfl) (by rw [h8]; rfl) rfl (.done ?_)
 refine bF (R:=fun T H=>T 0=(iV ((ins.length:Nat):Int))∧T 2=(V.fn 71 [] [(V.pp [(iV m.i),(iV m.s),(aD m.nx),(aD m.ot)]),(V.pp [(aH ins)])])∧T 6=(mPq 6)∧T 8=(mPq 8)∧T 9=(V.ms 19 1 0 1)∧T 10=(iV 0)∧H 4=(bk 1 137 2 [[(iV m.s),(iV 0)]])∧H 6=bNq∧H 8=(bk 1 24 4 [[(iV ((ins.length:Nat):Int)),(iV 0),(V.ms 812 1 0 0),(V.ms 813 1 0 0)]])∧H 11=bZq∧H 12=bZq∧H 14=bZq∧H 19=(bk 1 137 2 [[(iV m.s),(iV 0)]])∧H 812=(bz 1 25 1 [])∧H 813=(bz 1 25 1 [])∧True) ⟨t0,t2,t6,t8,t9,t10,(uTq (uTq h4)),(uTq (uTq h6)),(by rw [aC,h8,(cVq h813)]; rfl),(uTq (uTq h11)),(uTq (uTq h12)),(uTq (uTq h14)),(uTq (uTq h19)),(uTq (uTq h812)),(by rw [aQ _ _ (by decide),aC,(cVq h813)]),trivial⟩ ?_
 intro T H ⟨t0,t2,t6,t8,t9,t10,h4,h6,h8,h11,h12,h14,h19,h812,h813,_⟩
 refine aE fun Q1 n1 x1 y1 z1=>?_
 refine bP (fun mm T H=> ∃ (i:Nat) (v:Nat) (w:Nat) (u:Nat) (P:RS) (v11:Nat) (v12:Nat) (v14:Nat),mm=m.nx.length - i∧T 0=(iV ((ins.length:Nat):Int))∧T 2=(V.fn 71 [] [(V.pp [(iV m.i),(iV m.s),(aD m.nx),(aD m.ot)]),(V.pp [(aH ins)])])∧T 6=(mPq 6)∧T 8=(mPq 8)∧T 9=(V.ms 19 u 0 P.1.length)∧T 10=(iV ((i:Nat):Int))∧H 4=(bk 1 137 2 [[(iV m.s),(iV 0)]])∧H 6=bNq∧H 8=(bk 1 24 4 [[(iV ((ins.length:Nat):Int)),(iV 0),(V.ms 812 v 0 i),(V.ms 813 w 0 i)]])∧((H 11).ver=v11∧(H 11).live=false)∧((H 12).ver=v12∧(H 12).live=false)∧((H 14).ver=v14∧(H 14).live=false)∧H 19=(bk u 137 2 (List.map nO P.1))∧H 812=(bz v 25 1 (List.map cL (tbl (tNx (rsM m ins)) i)))∧H 813=(bz w 25 1 (List.map cL (tbl (tOt (rsM m ins)) i)))∧(BLI (rsM m ins) i P)) ?_ ?_
 ·
  refine ⟨_,0,1,1,1,(kX (rsM m ins)),0,0,0,rfl,t0,t2,t6,t8,(eTq t9 (by rfl)),(eTq t10 rfl),h4,h6,h8,⟨(cVq h11),congrArg Blk.live h11⟩,⟨(cVq h12),congrArg Blk.live h12⟩,⟨(cVq h14),congrArg Blk.live h14⟩,(eTq h19 (by rfl)),(eTq h812 (by rfl)),(eTq h813 (by rfl)),?_⟩
  · exact aTg hR
 intro mm T H ⟨i,v,w,u,P,v11,v12,v14,hmm,t0,t2,t6,t8,t9,t10,h4,h6,h8,h11,h12,h14,h19,h812,h813,hP⟩ Q2 p12 p22 p32
 unfold aLY
 refine aB (W_r (aA t10 (aA t9 (dK rfl h19 (by simp) (bO rfl rfl (R_e ?_))))))
 refine aJ rfl (fun c3=>?_) fun c3=>?_
 ·
  have pl:=hP.2.1.len
  have pr:=hP.2.1.rng _ (aR (show i < P.1.length by omega))
  refine aG (aE fun Q4 n4 x4 y4 z4=>(W_r (fF (i:=11) (n:=v11) rfl h11.1 (fF (i:=12) (n:=v12) rfl h12.1 (R_e (aB (W_r ?_)))))))
  refine aA t0 (aA rfl (R_e (aE fun Q5 n5 x5 y5 z5=>?_)))
  refine bP (fun mm T H=> ∃ (j:Nat) (v2:Nat) (w2:Nat) (u2:Nat) (Q:RS) (v14:Nat),mm=ins.length - j∧T 0=(iV ((ins.length:Nat):Int))∧T 2=(V.fn 71 [] [(V.pp [(iV m.i),(iV m.s),(aD m.nx),(aD m.ot)]),(V.pp [(aH ins)])])∧T 6=(mPq 6)∧T 8=(mPq 8)∧T 9=(V.ms 19 u2 0 Q.1.length)∧T 10=(iV ((i:Nat):Int))∧T 11=(V.ms 11 v2 0 j)∧T 12=(V.ms 12 w2 0 j)∧T 26=(iV ((ins.length:Nat):Int))∧T 27=(iV ((j:Nat):Int))∧H 4=(bk 1 137 2 [[(iV m.s),(iV 0)]])∧H 6=bNq∧H 8=(bk 1 24 4 [[(iV ((ins.length:Nat):Int)),(iV 0),(V.ms 812 v 0 i),(V.ms 813 w 0 i)]])∧H 11=(bz v2 3 1 (List.map cI (tbl (dG (rsM m ins) i) j)))∧H 12=(bz w2 3 1 (List.map cI (tbl (jM (rsM m ins) i) j)))∧((H 14).ver=v14∧(H 14).live=false)∧H 19=(bk u2 137 2 (List.map nO Q.1))∧H 812=(bz v 25 1 (List.map cL (tbl (tNx (rsM m ins)) i)))∧H 813=(bz w 25 1 (List.map cL (tbl (tOt (rsM m ins)) i)))∧(j≤ins.length)∧(BQI (rsM m ins) i j P Q)) ?_ ?_
  ·
   refine ⟨_,0,(v11+1),(v12+1),u,P,v14,rfl,t0,t2,t6,t8,t9,t10,(eTq (rVq (V.ms 11 (v11+1) 0 0)) (by rfl)),(eTq (rVq (V.ms 12 (v12+1) 0 0)) (by rfl)),rfl,(eTq (rVq (iV 0)) rfl),h4,h6,h8,(eTq (@rfl Blk (bz (v11+1) 3 1 [])) (by rfl)),(eTq (@rfl Blk (bz (v12+1) 3 1 [])) (by rfl)),h14,h19,h812,h813,?_,?_⟩
   · exact Nat.zero_le _
   · exact aSZ hP
  intro mm T H ⟨j,v2,w2,u2,Q,v14,hmm,t0,t2,t6,t8,t9,t10,t11,t12,t26,t27,h4,h6,h8,h11,h12,h14,h19,h812,h813,hj,hQ⟩ Q6 p16 p26 p36
  unfold aMx
  refine W_r (bO t27 t26 (R_e ?_))
  refine aJ rfl (fun c7=>?_) fun c7=>?_
  ·
   have q3:=hQ.2.2.1
   have q4:=hQ.2.2.2
   have qr:=hQ.2.1.rng _ (aR (show i < Q.1.length by omega))
   obtain ⟨b1,b2,b3,b4,b5⟩:=hQ.step hR hP (by omega) (show ((j:Nat):Int) < ((ins.length:Nat):Int) by omega)
   have y1:=aMl (m:=m) (ins:=ins) (s:=(nth Q.1 i).toNat) (j:=j) (by omega) (by omega)
   have y2:=aLW (m:=m) (ins:=ins) (s:=(nth Q.1 i).toNat) (j:=j) (by omega) (by omega)
   rw [y1] at b1 b4 b5
   rw [y2] at b3
   have mr:=mo.2.2.2.2.2.2.2 (nth Q.1 i).toNat (by omega)
   have ij:=hv.2.2 j (by omega)
   have mc:=mr.2.2 (nth ins j).toNat (by omega)
   have oo:rsO m ins (nth Q.1 i).toNat j≤1048576:=mc.2.2.2
   refine aG (aE fun Q8 n8 x8 y8 z8=>(W_r (aA t27 (aA rfl (R_e (W_r (aA t2 ?_)))))))
   refine aA t9 (aA t10 (bW (i:=i) (rVq (V.ms 19 u2 0 Q.1.length)) (rNq i) h19 oB rfl (by omega) (bT (v:=(V.agg [(iV (nth Q.1 i)),(iV 0)])) rfl h19 (dY (by omega) (by rfl)) (aA rfl (jY (rVq (V.fn 71 [] [(V.pp [(iV m.i),(iV m.s),(aD m.nx),(aD m.ot)]),(V.pp [(aH ins)])])) (bV (rVq (V.agg [(iV (nth Q.1 i)),(iV 0)])) (bV (rNq j) fP)) (aDw m ins (nth Q.1 i) j hm hv ⟨by omega,by omega⟩ (by omega)) (eC _ _ (by simp [-List.map_take,-List.map_drop,-List.map_append,-List.map_reverse])) (by simp [-List.map_take,-List.map_drop,-List.map_append,-List.map_reverse]) (Or.inl (by simp [-List.map_take,-List.map_drop,-List.map_append,-List.map_reverse])) (eR (i:=14) (n:=v14) (m:=3) rfl h14.1 rfl (bJ (vs:=[(iV (rsN m ins (nth Q.1 i).toNat j)),(iV 0),(iV (rsO m ins (nth Q.1 i).toNat j))]) (B':=(bk (v14+1) 139 3 [[(iV (rsN m ins (nth Q.1 i).toNat j)),(iV 0),(iV (rsO m ins (nth Q.1 i).toNat j))]])) rfl rfl rfl rfl (sB oB rfl rfl rfl rfl rfl) ?_)))))))
   refine R_e (W_r (aA rfl (R_e (aE fun Q9 n9 x9 y9 z9=>?_))))
   refine bP (fun mm T H=> ∃ (k:Nat),mm=Q.1.length - k∧T 0=(iV ((ins.length:Nat):Int))∧T 2=(V.fn 71 [] [(V.pp [(iV m.i),(iV m.s),(aD m.nx),(aD m.ot)]),(V.pp [(aH ins)])])∧T 6=(mPq 6)∧T 8=(mPq 8)∧T 9=(V.ms 19 u2 0 Q.1.length)∧T 10=(iV ((i:Nat):Int))∧T 11=(V.ms 11 v2 0 j)∧T 12=(V.ms 12 w2 0 j)∧T 14=(V.mp 14 (v14+1) 0 0)∧T 15=(iV ((k:Nat):Int))∧T 26=(iV ((ins.length:Nat):Int))∧T 27=(iV ((j:Nat):Int))∧H 4=(bk 1 137 2 [[(iV m.s),(iV 0)]])∧H 6=bNq∧H 8=(bk 1 24 4 [[(iV ((ins.length:Nat):Int)),(iV 0),(V.ms 812 v 0 i),(V.ms 813 w 0 i)]])∧H 11=(bz v2 3 1 (List.map cI (tbl (dG (rsM m ins) i) j)))∧H 12=(bz w2 3 1 (List.map cI (tbl (jM (rsM m ins) i) j)))∧H 14=(bk (v14+1) 139 3 [[(iV (rsN m ins (nth Q.1 i).toNat j)),(iV 0),(iV (rsO m ins (nth Q.1 i).toNat j))]])∧H 19=(bk u2 137 2 (List.map nO Q.1))∧H 812=(bz v 25 1 (List.map cL (tbl (tNx (rsM m ins)) i)))∧H 813=(bz w 25 1 (List.map cL (tbl (tOt (rsM m ins)) i)))∧(k≤Q.1.length)∧(∀ q,q < k→nth Q.1 q≠(rsN m ins (nth Q.1 i).toNat j))) ?_ ?_
   ·
    refine ⟨_,0,rfl,t0,t2,t6,t8,t9,t10,t11,t12,rfl,(eTq (rVq (iV 0)) rfl),t26,t27,h4,h6,h8,h11,h12,rfl,h19,h812,h813,?_,?_⟩
    · exact Nat.zero_le _
    · intro q hq; omega
   intro mm T H ⟨k,hmm,t0,t2,t6,t8,t9,t10,t11,t12,t14,t15,t26,t27,h4,h6,h8,h11,h12,h14,h19,h812,h813,hk,hc⟩ Q10 p110 p210 p310
   unfold aMc
   refine aB (W_r (aA t15 (aA t9 (dK rfl h19 (by simp) (bO rfl rfl (aA rfl ?_))))))
   refine cC 8 (fun T H=>T 0=(iV ((ins.length:Nat):Int))∧T 2=(V.fn 71 [] [(V.pp [(iV m.i),(iV m.s),(aD m.nx),(aD m.ot)]),(V.pp [(aH ins)])])∧T 6=(mPq 6)∧T 8=(mPq 8)∧T 9=(V.ms 19 u2 0 Q.1.length)∧T 10=(iV ((i:Nat):Int))∧T 11=(V.ms 11 v2 0 j)∧T 12=(V.ms 12 w2 0 j)∧T 14=(V.mp 14 (v14+1) 0 0)∧T 15=(iV ((k:Nat):Int))∧T 26=(iV ((ins.length:Nat):Int))∧T 27=(iV ((j:Nat):Int))∧T 49=(V.bool (decide ((((k:Nat):Int) < ((Q.1.length:Nat):Int))∧(¬((nth Q.1 k)=(rsN m ins (nth Q.1 i).toNat j)∧(0:Int)=(0:Int))))))∧H 4=(bk 1 137 2 [[(iV m.s),(iV 0)]])∧H 6=bNq∧H 8=(bk 1 24 4 [[(iV ((ins.length:Nat):Int)),(iV 0),(V.ms 812 v 0 i),(V.ms 813 w 0 i)]])∧H 11=(bz v2 3 1 (List.map cI (tbl (dG (rsM m ins) i) j)))∧H 12=(bz w2 3 1 (List.map cI (tbl (jM (rsM m ins) i) j)))∧H 14=(bk (v14+1) 139 3 [[(iV (rsN m ins (nth Q.1 i).toNat j)),(iV 0),(iV (rsO m ins (nth Q.1 i).toNat j))]])∧H 19=(bk u2 137 2 (List.map nO Q.1))∧H 812=(bz v 25 1 (List.map cL (tbl (tNx (rsM m ins)) i)))∧H 813=(bz w 25 1 (List.map cL (tbl (tOt (rsM m ins)) i)))∧True) ?_ ?_
   ·
    by_cases g11:((k:Nat):Int) < ((Q.1.length:Nat):Int)
    ·
     refine aT (edT g11 rfl) (aA t9 (aT (edT g11 rfl) (aA t15 (aT (edT g11 rfl) (bW (i:=k) (rVq (V.ms 19 u2 0 Q.1.length)) (rNq k) h19 oB rfl (by omega) (aT (edT g11 rfl) (bT (v:=(V.agg [(iV (nth Q.1 k)),(iV 0)])) rfl h19 (dY (by omega) (by rfl)) ?_)))))))
     refine aT (edT g11 rfl) (bR t14 h14 (aT (edT g11 rfl) (bD rfl h14 rfl rfl (aT (edT g11 rfl) (aQy rfl rfl (bZ (edT g11 rfl) rfl ?_))))))
     exact ⟨t0,t2,t6,t8,t9,t10,t11,t12,t14,t15,t26,t27,(aCJ g11),h4,h6,h8,h11,h12,h14,h19,h812,h813,trivial⟩
    ·
     refine G_n (edF g11 rfl) (G_n (edF g11 rfl) (G_n (edF g11 rfl) (G_n (edF g11 rfl) (G_n (edF g11 rfl) (G_n (edF g11 rfl) (G_n (edF g11 rfl) (cD (edF g11 rfl) rfl ?_)))))))
     exact ⟨t0,t2,t6,t8,t9,t10,t11,t12,t14,t15,t26,t27,(aCL g11),h4,h6,h8,h11,h12,h14,h19,h812,h813,trivial⟩
   intro T H ⟨t0,t2,t6,t8,t9,t10,t11,t12,t14,t15,t26,t27,t49,h4,h6,h8,h11,h12,h14,h19,h812,h813,_⟩
   refine R_e ?_
   refine aJ t49 (fun c12=>?_) fun c12=>?_
   ·
    have k1:k < Q.1.length∧nth Q.1 k≠(rsN m ins (nth Q.1 i).toNat j):=by have z:=c12; simpa using z
    refine aG (kA fun Q13 n13 x13 y13 z13=>(W_t (aA t15 (bA rfl (rNq 1) (by omega) (aA rfl (R_e (n13 _ _ ?_)))))))
    refine p110 _ _ _ ?_ ⟨(k+1),rfl,t0,t2,t6,t8,t9,t10,t11,t12,t14,(eTq (rNq (k+1)) (by rfl)),t26,t27,h4,h6,h8,h11,h12,h14,h19,h812,h813,?_,?_⟩
    · omega
    · omega
    · intro q hq
      by_cases e:q=k
      · subst e; exact k1.2
      · exact hc q (by omega)
   have k1:Q.1.length≤k∨nth Q.1 k=(rsN m ins (nth Q.1 i).toNat j):=by
     by_cases e:k < Q.1.length
     · right; have z:=c12; simpa [e] using z
     · left; omega
   refine aP (p310 _ _ _ (x9 _ _ (.done (aB (W_r (aA t15 (aA t9 ?_)))))))
   refine dK rfl h19 (by simp) (gT rfl rfl (R_e ?_))
   refine aJ rfl (fun c14=>?_) fun c14=>?_
   ·
    have n1:(rsN m ins (nth Q.1 i).toNat j)∉Q.1:=sZ fun q hq=>hc q (by omega)
    obtain ⟨g1,g2,g3,g4⟩:=b5 n1
    have kx:((k:Nat):Int)=dG (rsM m ins) i j:=by rw [← g3]; omega
    refine W_r (aA t9 (bR t14 h14 (bD rfl h14 rfl rfl (cO rfl rfl (cH (l:=Q.1) (f:=nO) (x:=(rsN m ins (nth Q.1 i).toNat j)) (rVq (V.ms 19 u2 0 Q.1.length)) h19 (by rfl) (rVq (V.sl [[(iV (rsN m ins (nth Q.1 i).toNat j)),(iV 0)]])) rfl rfl (by omega) (by omega) (aA rfl (R_e ?_)))))))
    refine aB (W_r (aA rfl (dK rfl (@rfl Blk (bk (u2+1) 137 2 (List.map nO (Q.1++[(rsN m ins (nth Q.1 i).toNat j)])))) (by simp) (jV rfl rfl (aA rfl ?_)))))
    refine cC 4 (fun T H=>T 0=(iV ((ins.length:Nat):Int))∧T 2=(V.fn 71 [] [(V.pp [(iV m.i),(iV m.s),(aD m.nx),(aD m.ot)]),(V.pp [(aH ins)])])∧T 6=(mPq 6)∧T 8=(mPq 8)∧T 9=(V.ms 19 (u2+1) 0 (Q.1.length+1))∧T 10=(iV ((i:Nat):Int))∧T 11=(V.ms 11 v2 0 j)∧T 12=(V.ms 12 w2 0 j)∧T 14=(V.mp 14 (v14+1) 0 0)∧T 15=(iV ((k:Nat):Int))∧T 26=(iV ((ins.length:Nat):Int))∧T 27=(iV ((j:Nat):Int))∧T 68=(V.bool (decide (((128:Int) < ((Q.1.length+1:Nat):Int))∨((1048576:Int) < (rsO m ins (nth Q.1 i).toNat j)))))∧H 4=(bk 1 137 2 [[(iV m.s),(iV 0)]])∧H 6=bNq∧H 8=(bk 1 24 4 [[(iV ((ins.length:Nat):Int)),(iV 0),(V.ms 812 v 0 i),(V.ms 813 w 0 i)]])∧H 11=(bz v2 3 1 (List.map cI (tbl (dG (rsM m ins) i) j)))∧H 12=(bz w2 3 1 (List.map cI (tbl (jM (rsM m ins) i) j)))∧H 14=(bk (v14+1) 139 3 [[(iV (rsN m ins (nth Q.1 i).toNat j)),(iV 0),(iV (rsO m ins (nth Q.1 i).toNat j))]])∧H 19=(bk (u2+1) 137 2 (List.map nO (Q.1++[(rsN m ins (nth Q.1 i).toNat j)])))∧H 812=(bz v 25 1 (List.map cL (tbl (tNx (rsM m ins)) i)))∧H 813=(bz w 25 1 (List.map cL (tbl (tOt (rsM m ins)) i)))∧True) ?_ ?_
    ·
     by_cases g15:(128:Int) < ((Q.1.length+1:Nat):Int)
     ·
      refine G_n (edT g15 rfl) (G_n (edT g15 rfl) (G_n (edT g15 rfl) (bZ (edT g15 rfl) rfl ?_)))
      exact ⟨t0,t2,t6,t8,rfl,t10,t11,t12,t14,t15,t26,t27,(eQ g15),h4,h6,h8,h11,h12,h14,rfl,h812,h813,trivial⟩
     ·
      refine aT (edF g15 rfl) (bR t14 h14 (aT (edF g15 rfl) (bD rfl h14 rfl rfl (aT (edF g15 rfl) (jV rfl rfl (cD (edF g15 rfl) rfl ?_))))))
      exact ⟨t0,t2,t6,t8,rfl,t10,t11,t12,t14,t15,t26,t27,(eO g15),h4,h6,h8,h11,h12,h14,rfl,h812,h813,trivial⟩
    intro T H ⟨t0,t2,t6,t8,t9,t10,t11,t12,t14,t15,t26,t27,t68,h4,h6,h8,h11,h12,h14,h19,h812,h813,_⟩
    refine R_e ?_
    refine aJ t68 (fun c16=>?_) fun c16=>?_
    · exfalso; have z:=c16; first|omega|(simp at z; omega)|(rw [List.length_append] at z; simp at z; omega)
    refine aG (W_r (aA t11 (aA t15 (cO rfl rfl (cH (l:=(tbl (dG (rsM m ins) i) j)) (f:=cI) (x:=((k:Nat):Int)) (rVq (V.ms 11 v2 0 j)) h11 (by exact (aU _ _).symm) (rVq (V.sl [[(iV ((k:Nat):Int))]])) rfl rfl (by omega) (by omega) (aA rfl (R_e ?_)))))))
    refine W_t (aA t12 (bR t14 h14 (bD rfl h14 rfl rfl (cO rfl rfl (cH (l:=(tbl (jM (rsM m ins) i) j)) (f:=cI) (x:=(rsO m ins (nth Q.1 i).toNat j)) (rVq (V.ms 12 w2 0 j)) h12 (by exact (aU _ _).symm) (rVq (V.sl [[(iV (rsO m ins (nth Q.1 i).toNat j))]])) rfl rfl (by omega) (by omega) (aA rfl (R_e ?_)))))))
    refine n8 _ _ (bF (R:=fun T H=>T 0=(iV ((ins.length:Nat):Int))∧T 2=(V.fn 71 [] [(V.pp [(iV m.i),(iV m.s),(aD m.nx),(aD m.ot)]),(V.pp [(aH ins)])])∧T 6=(mPq 6)∧T 8=(mPq 8)∧T 9=(V.ms 19 (u2+1) 0 (Q.1.length+1))∧T 10=(iV ((i:Nat):Int))∧T 11=(V.ms 11 (v2+1) 0 (j+1))∧T 12=(V.ms 12 (w2+1) 0 (j+1))∧T 26=(iV ((ins.length:Nat):Int))∧T 27=(iV ((j:Nat):Int))∧H 4=(bk 1 137 2 [[(iV m.s),(iV 0)]])∧H 6=bNq∧H 8=(bk 1 24 4 [[(iV ((ins.length:Nat):Int)),(iV 0),(V.ms 812 v 0 i),(V.ms 813 w 0 i)]])∧H 11=(bz (v2+1) 3 1 (List.map cI (tbl (dG (rsM m ins) i) j++[((k:Nat):Int)])))∧H 12=(bz (w2+1) 3 1 (List.map cI (tbl (jM (rsM m ins) i) j++[(rsO m ins (nth Q.1 i).toNat j)])))∧H 14=(bk (v14+1) 139 3 [[(iV (rsN m ins (nth Q.1 i).toNat j)),(iV 0),(iV (rsO m ins (nth Q.1 i).toNat j))]])∧H 19=(bk (u2+1) 137 2 (List.map nO (Q.1++[(rsN m ins (nth Q.1 i).toNat j)])))∧H 812=(bz v 25 1 (List.map cL (tbl (tNx (rsM m ins)) i)))∧H 813=(bz w 25 1 (List.map cL (tbl (tOt (rsM m ins)) i)))∧True) ⟨t0,t2,t6,t8,t9,t10,(rVq (V.ms 11 (v2+1) 0 (j+1))),(rVq (V.ms 12 (w2+1) 0 (j+1))),t26,t27,h4,h6,h8,rfl,rfl,h14,h19,h812,h813,trivial⟩ ?_)
    intro T H ⟨t0,t2,t6,t8,t9,t10,t11,t12,t26,t27,h4,h6,h8,h11,h12,h14,h19,h812,h813,_⟩
    refine .freeze 14 (.done ?_)
    refine bF (R:=fun T H=>T 0=(iV ((ins.length:Nat):Int))∧T 2=(V.fn 71 [] [(V.pp [(iV m.i),(iV m.s),(aD m.nx),(aD m.ot)]),(V.pp [(aH ins)])])∧T 6=(mPq 6)∧T 8=(mPq 8)∧T 9=(V.ms 19 (u2+1) 0 (Q.1.length+1))∧T 10=(iV ((i:Nat):Int))∧T 11=(V.ms 11 (v2+1) 0 (j+1))∧T 12=(V.ms 12 (w2+1) 0 (j+1))∧T 26=(iV ((ins.length:Nat):Int))∧T 27=(iV ((j:Nat):Int))∧H 4=(bk 1 137 2 [[(iV m.s),(iV 0)]])∧H 6=bNq∧H 8=(bk 1 24 4 [[(iV ((ins.length:Nat):Int)),(iV 0),(V.ms 812 v 0 i),(V.ms 813 w 0 i)]])∧H 11=(bz (v2+1) 3 1 (List.map cI (tbl (dG (rsM m ins) i) j++[((k:Nat):Int)])))∧H 12=(bz (w2+1) 3 1 (List.map cI (tbl (jM (rsM m ins) i) j++[(rsO m ins (nth Q.1 i).toNat j)])))∧((H 14).ver=v14+1∧(H 14).live=false)∧H 19=(bk (u2+1) 137 2 (List.map nO (Q.1++[(rsN m ins (nth Q.1 i).toNat j)])))∧H 812=(bz v 25 1 (List.map cL (tbl (tNx (rsM m ins)) i)))∧H 813=(bz w 25 1 (List.map cL (tbl (tOt (rsM m ins)) i)))∧True) ⟨(aK t0 rfl),(aK t2 rfl),(aK t6 rfl),(aK t8 rfl),(aK t9 (cP (by decide))),(aK t10 rfl),(aK t11 (cP (by decide))),(aK t12 (cP (by decide))),(aK t26 rfl),(aK t27 rfl),(aL h4 (by decide)),(aL h6 (by decide)),(aL h8 (by decide)),(aL h11 (by decide)),(aL h12 (by decide)),(bN (cVq h14)),(aL h19 (by decide)),(aL h812 (by decide)),(aL h813 (by decide)),trivial⟩ ?_
    intro T H ⟨t0,t2,t6,t8,t9,t10,t11,t12,t26,t27,h4,h6,h8,h11,h12,h14,h19,h812,h813,_⟩
    refine W_t (bA t27 (rNq 1) (by omega) (aA rfl (R_e ?_)))
    refine p16 _ _ _ ?_ ⟨(j+1),(v2+1),(w2+1),(u2+1),(fT Q (rsN m ins (nth Q.1 i).toNat j)),(v14+1),rfl,t0,t2,t6,t8,(eTq t9 (by (rw [g2,List.length_append]; first|done|rfl))),t10,(eTq t11 (by rfl)),(eTq t12 (by rfl)),t26,(eTq (rNq (j+1)) (by rfl)),h4,h6,h8,(eTq h11 (by (rw [fW,← kx]; first|done|rfl))),(eTq h12 (by (rw [fW,← b3]; first|done|rfl))),h14,(eTq h19 (by (rw [g2]; first|done|rfl))),h812,h813,?_,?_⟩
    · omega
    · omega
    · exact g1
   have n2:nth Q.1 k=(rsN m ins (nth Q.1 i).toNat j):=k1.resolve_left (by omega)
   obtain ⟨g1,g3⟩:=b4 (n2 ▸ aR (show k < Q.1.length by omega))
   have kx:((k:Nat):Int)=dG (rsM m ins) i j:=by rw [← g3,aDn (show k < Q.1.length by omega) n2 hc]
   refine aG (aB (W_r (aA t9 (dK rfl h19 (by simp) (jV rfl rfl (aA rfl ?_))))))
   refine cC 4 (fun T H=>T 0=(iV ((ins.length:Nat):Int))∧T 2=(V.fn 71 [] [(V.pp [(iV m.i),(iV m.s),(aD m.nx),(aD m.ot)]),(V.pp [(aH ins)])])∧T 6=(mPq 6)∧T 8=(mPq 8)∧T 9=(V.ms 19 u2 0 Q.1.length)∧T 10=(iV ((i:Nat):Int))∧T 11=(V.ms 11 v2 0 j)∧T 12=(V.ms 12 w2 0 j)∧T 14=(V.mp 14 (v14+1) 0 0)∧T 15=(iV ((k:Nat):Int))∧T 26=(iV ((ins.length:Nat):Int))∧T 27=(iV ((j:Nat):Int))∧T 68=(V.bool (decide (((128:Int) < ((Q.1.length:Nat):Int))∨((1048576:Int) < (rsO m ins (nth Q.1 i).toNat j)))))∧H 4=(bk 1 137 2 [[(iV m.s),(iV 0)]])∧H 6=bNq∧H 8=(bk 1 24 4 [[(iV ((ins.length:Nat):Int)),(iV 0),(V.ms 812 v 0 i),(V.ms 813 w 0 i)]])∧H 11=(bz v2 3 1 (List.map cI (tbl (dG (rsM m ins) i) j)))∧H 12=(bz w2 3 1 (List.map cI (tbl (jM (rsM m ins) i) j)))∧H 14=(bk (v14+1) 139 3 [[(iV (rsN m ins (nth Q.1 i).toNat j)),(iV 0),(iV (rsO m ins (nth Q.1 i).toNat j))]])∧H 19=(bk u2 137 2 (List.map nO Q.1))∧H 812=(bz v 25 1 (List.map cL (tbl (tNx (rsM m ins)) i)))∧H 813=(bz w 25 1 (List.map cL (tbl (tOt (rsM m ins)) i)))∧True) ?_ ?_
   ·
    by_cases g17:(128:Int) < ((Q.1.length:Nat):Int)
    ·
     refine G_n (edT g17 rfl) (G_n (edT g17 rfl) (G_n (edT g17 rfl) (bZ (edT g17 rfl) rfl ?_)))
     exact ⟨t0,t2,t6,t8,t9,t10,t11,t12,t14,t15,t26,t27,(eQ g17),h4,h6,h8,h11,h12,h14,h19,h812,h813,trivial⟩
    ·
     refine aT (edF g17 rfl) (bR t14 h14 (aT (edF g17 rfl) (bD rfl h14 rfl rfl (aT (edF g17 rfl) (jV rfl rfl (cD (edF g17 rfl) rfl ?_))))))
     exact ⟨t0,t2,t6,t8,t9,t10,t11,t12,t14,t15,t26,t27,(eO g17),h4,h6,h8,h11,h12,h14,h19,h812,h813,trivial⟩
   intro T H ⟨t0,t2,t6,t8,t9,t10,t11,t12,t14,t15,t26,t27,t68,h4,h6,h8,h11,h12,h14,h19,h812,h813,_⟩
   refine R_e ?_
   refine aJ t68 (fun c18=>?_) fun c18=>?_
   · exfalso; have z:=c18; first|omega|(simp at z; omega)|(rw [List.length_append] at z; simp at z; omega)
   refine aG (W_r (aA t11 (aA t15 (cO rfl rfl (cH (l:=(tbl (dG (rsM m ins) i) j)) (f:=cI) (x:=((k:Nat):Int)) (rVq (V.ms 11 v2 0 j)) h11 (by exact (aU _ _).symm) (rVq (V.sl [[(iV ((k:Nat):Int))]])) rfl rfl (by omega) (by omega) (aA rfl (R_e ?_)))))))
   refine W_t (aA t12 (bR t14 h14 (bD rfl h14 rfl rfl (cO rfl rfl (cH (l:=(tbl (jM (rsM m ins) i) j)) (f:=cI) (x:=(rsO m ins (nth Q.1 i).toNat j)) (rVq (V.ms 12 w2 0 j)) h12 (by exact (aU _ _).symm) (rVq (V.sl [[(iV (rsO m ins (nth Q.1 i).toNat j))]])) rfl rfl (by omega) (by omega) (aA rfl (R_e ?_)))))))
   refine n8 _ _ (bF (R:=fun T H=>T 0=(iV ((ins.length:Nat):Int))∧T 2=(V.fn 71 [] [(V.pp [(iV m.i),(iV m.s),(aD m.nx),(aD m.ot)]),(V.pp [(aH ins)])])∧T 6=(mPq 6)∧T 8=(mPq 8)∧T 9=(V.ms 19 u2 0 Q.1.length)∧T 10=(iV ((i:Nat):Int))∧T 11=(V.ms 11 (v2+1) 0 (j+1))∧T 12=(V.ms 12 (w2+1) 0 (j+1))∧T 26=(iV ((ins.length:Nat):Int))∧T 27=(iV ((j:Nat):Int))∧H 4=(bk 1 137 2 [[(iV m.s),(iV 0)]])∧H 6=bNq∧H 8=(bk 1 24 4 [[(iV ((ins.length:Nat):Int)),(iV 0),(V.ms 812 v 0 i),(V.ms 813 w 0 i)]])∧H 11=(bz (v2+1) 3 1 (List.map cI (tbl (dG (rsM m ins) i) j++[((k:Nat):Int)])))∧H 12=(bz (w2+1) 3 1 (List.map cI (tbl (jM (rsM m ins) i) j++[(rsO m ins (nth Q.1 i).toNat j)])))∧H 14=(bk (v14+1) 139 3 [[(iV (rsN m ins (nth Q.1 i).toNat j)),(iV 0),(iV (rsO m ins (nth Q.1 i).toNat j))]])∧H 19=(bk u2 137 2 (List.map nO Q.1))∧H 812=(bz v 25 1 (List.map cL (tbl (tNx (rsM m ins)) i)))∧H 813=(bz w 25 1 (List.map cL (tbl (tOt (rsM m ins)) i)))∧True) ⟨t0,t2,t6,t8,t9,t10,(rVq (V.ms 11 (v2+1) 0 (j+1))),(rVq (V.ms 12 (w2+1) 0 (j+1))),t26,t27,h4,h6,h8,rfl,rfl,h14,h19,h812,h813,trivial⟩ ?_)
   intro T H ⟨t0,t2,t6,t8,t9,t10,t11,t12,t26,t27,h4,h6,h8,h11,h12,h14,h19,h812,h813,_⟩
   refine .freeze 14 (.done ?_)
   refine bF (R:=fun T H=>T 0=(iV ((ins.length:Nat):Int))∧T 2=(V.fn 71 [] [(V.pp [(iV m.i),(iV m.s),(aD m.nx),(aD m.ot)]),(V.pp [(aH ins)])])∧T 6=(mPq 6)∧T 8=(mPq 8)∧T 9=(V.ms 19 u2 0 Q.1.length)∧T 10=(iV ((i:Nat):Int))∧T 11=(V.ms 11 (v2+1) 0 (j+1))∧T 12=(V.ms 12 (w2+1) 0 (j+1))∧T 26=(iV ((ins.length:Nat):Int))∧T 27=(iV ((j:Nat):Int))∧H 4=(bk 1 137 2 [[(iV m.s),(iV 0)]])∧H 6=bNq∧H 8=(bk 1 24 4 [[(iV ((ins.length:Nat):Int)),(iV 0),(V.ms 812 v 0 i),(V.ms 813 w 0 i)]])∧H 11=(bz (v2+1) 3 1 (List.map cI (tbl (dG (rsM m ins) i) j++[((k:Nat):Int)])))∧H 12=(bz (w2+1) 3 1 (List.map cI (tbl (jM (rsM m ins) i) j++[(rsO m ins (nth Q.1 i).toNat j)])))∧((H 14).ver=v14+1∧(H 14).live=false)∧H 19=(bk u2 137 2 (List.map nO Q.1))∧H 812=(bz v 25 1 (List.map cL (tbl (tNx (rsM m ins)) i)))∧H 813=(bz w 25 1 (List.map cL (tbl (tOt (rsM m ins)) i)))∧True) ⟨(aK t0 rfl),(aK t2 rfl),(aK t6 rfl),(aK t8 rfl),(aK t9 (cP (by decide))),(aK t10 rfl),(aK t11 (cP (by decide))),(aK t12 (cP (by decide))),(aK t26 rfl),(aK t27 rfl),(aL h4 (by decide)),(aL h6 (by decide)),(aL h8 (by decide)),(aL h11 (by decide)),(aL h12 (by decide)),(bN (cVq h14)),(aL h19 (by decide)),(aL h812 (by decide)),(aL h813 (by decide)),trivial⟩ ?_
   intro T H ⟨t0,t2,t6,t8,t9,t10,t11,t12,t26,t27,h4,h6,h8,h11,h12,h14,h19,h812,h813,_⟩
   refine W_t (bA t27 (rNq 1) (by omega) (aA rfl (R_e ?_)))
   refine p16 _ _ _ ?_ ⟨(j+1),(v2+1),(w2+1),u2,Q,(v14+1),rfl,t0,t2,t6,t8,t9,t10,(eTq t11 (by rfl)),(eTq t12 (by rfl)),t26,(eTq (rNq (j+1)) (by rfl)),h4,h6,h8,(eTq h11 (by (rw [fW,← kx]; first|done|rfl))),(eTq h12 (by (rw [fW,← b3]; first|done|rfl))),h14,h19,h812,h813,?_,?_⟩
   · omega
   · omega
   · exact g1
  have f1:=hQ.fin hR hP (by omega) (show ¬((j:Nat):Int) < ((ins.length:Nat):Int) by omega)
  have ej:tNx (rsM m ins) i=tbl (dG (rsM m ins) i) j:=by unfold tNx; rw [show (rsM m ins).i.toNat=j from by show ((ins.length:Nat):Int).toNat=j; omega]
  have eo:tOt (rsM m ins) i=tbl (jM (rsM m ins) i) j:=by unfold tOt; rw [show (rsM m ins).i.toNat=j from by show ((ins.length:Nat):Int).toNat=j; omega]
  refine aP (p36 _ _ _ (x5 _ _ (bF (R:=fun T H=>T 0=(iV ((ins.length:Nat):Int))∧T 2=(V.fn 71 [] [(V.pp [(iV m.i),(iV m.s),(aD m.nx),(aD m.ot)]),(V.pp [(aH ins)])])∧T 6=(mPq 6)∧T 8=(mPq 8)∧T 9=(V.ms 19 u2 0 Q.1.length)∧T 10=(iV ((i:Nat):Int))∧T 11=(V.ms 11 v2 0 j)∧T 12=(V.ms 12 w2 0 j)∧T 26=(iV ((ins.length:Nat):Int))∧T 27=(iV ((j:Nat):Int))∧T 28=(V.bool (decide (((j:Nat):Int) < ((ins.length:Nat):Int))))∧H 4=(bk 1 137 2 [[(iV m.s),(iV 0)]])∧H 6=bNq∧H 8=(bk 1 24 4 [[(iV ((ins.length:Nat):Int)),(iV 0),(V.ms 812 v 0 i),(V.ms 813 w 0 i)]])∧H 11=(bz v2 3 1 (List.map cI (tbl (dG (rsM m ins) i) j)))∧H 12=(bz w2 3 1 (List.map cI (tbl (jM (rsM m ins) i) j)))∧((H 14).ver=v14∧(H 14).live=false)∧H 19=(bk u2 137 2 (List.map nO Q.1))∧H 812=(bz v 25 1 (List.map cL (tbl (tNx (rsM m ins)) i)))∧H 813=(bz w 25 1 (List.map cL (tbl (tOt (rsM m ins)) i)))∧True) ⟨t0,t2,t6,t8,t9,t10,t11,t12,t26,t27,(rVq (V.bool (decide (((j:Nat):Int) < ((ins.length:Nat):Int))))),h4,h6,h8,h11,h12,h14,h19,h812,h813,trivial⟩ ?_)))
  intro T H ⟨t0,t2,t6,t8,t9,t10,t11,t12,t26,t27,t28,h4,h6,h8,h11,h12,h14,h19,h812,h813,_⟩
  refine .freeze 11 (.done ?_)
  refine bF (R:=fun T H=>T 0=(iV ((ins.length:Nat):Int))∧T 2=(V.fn 71 [] [(V.pp [(iV m.i),(iV m.s),(aD m.nx),(aD m.ot)]),(V.pp [(aH ins)])])∧T 6=(mPq 6)∧T 8=(mPq 8)∧T 9=(V.ms 19 u2 0 Q.1.length)∧T 10=(iV ((i:Nat):Int))∧T 11=(aH (tbl (dG (rsM m ins) i) j))∧T 12=(V.ms 12 w2 0 j)∧T 26=(iV ((ins.length:Nat):Int))∧T 27=(iV ((j:Nat):Int))∧T 28=(V.bool (decide (((j:Nat):Int) < ((ins.length:Nat):Int))))∧H 4=(bk 1 137 2 [[(iV m.s),(iV 0)]])∧H 6=bNq∧H 8=(bk 1 24 4 [[(iV ((ins.length:Nat):Int)),(iV 0),(V.ms 812 v 0 i),(V.ms 813 w 0 i)]])∧((H 11).ver=v2∧(H 11).live=false)∧H 12=(bz w2 3 1 (List.map cI (tbl (jM (rsM m ins) i) j)))∧((H 14).ver=v14∧(H 14).live=false)∧H 19=(bk u2 137 2 (List.map nO Q.1))∧H 812=(bz v 25 1 (List.map cL (tbl (tNx (rsM m ins)) i)))∧H 813=(bz w 25 1 (List.map cL (tbl (tOt (rsM m ins)) i)))∧True) ⟨(aK t0 rfl),(aK t2 rfl),(aK t6 rfl),(aK t8 rfl),(aK t9 (cP (by decide))),(aK t10 rfl),(aK t11 (kC h11 (by simp) (l:=(tbl (dG (rsM m ins) i) j)) rfl (by exact (aU _ _).symm))),(aK t12 (cP (by decide))),(aK t26 rfl),(aK t27 rfl),(aK t28 rfl),(aL h4 (by decide)),(aL h6 (by decide)),(aL h8 (by decide)),(bN (cVq h11)),(aL h12 (by decide)),(eB h14),(aL h19 (by decide)),(aL h812 (by decide)),(aL h813 (by decide)),trivial⟩ ?_
  intro T H ⟨t0,t2,t6,t8,t9,t10,t11,t12,t26,t27,t28,h4,h6,h8,h11,h12,h14,h19,h812,h813,_⟩
  refine mY (fun T H=>T 0=(iV ((ins.length:Nat):Int))∧T 2=(V.fn 71 [] [(V.pp [(iV m.i),(iV m.s),(aD m.nx),(aD m.ot)]),(V.pp [(aH ins)])])∧T 6=(mPq 6)∧T 8=(mPq 8)∧T 9=(V.ms 19 u2 0 Q.1.length)∧T 10=(iV ((i:Nat):Int))∧T 12=(V.ms 12 w2 0 j)∧H 4=(bk 1 137 2 [[(iV m.s),(iV 0)]])∧H 6=bNq∧H 8=(bk 1 24 4 [[(iV ((ins.length:Nat):Int)),(iV 0),(V.ms 812 (v+1) 0 (i+1)),(V.ms 813 w 0 i)]])∧((H 11).ver=v2∧(H 11).live=false)∧H 12=(bz w2 3 1 (List.map cI (tbl (jM (rsM m ins) i) j)))∧((H 14).ver=v14∧(H 14).live=false)∧H 19=(bk u2 137 2 (List.map nO Q.1))∧H 812=(bz (v+1) 25 1 (List.map cL (tbl (tNx (rsM m ins)) i++[tbl (dG (rsM m ins) i) j])))∧H 813=(bz w 25 1 (List.map cL (tbl (tOt (rsM m ins)) i)))∧True) ?_ ?_
  ·
   refine bR t8 h8 (bD rfl h8 rfl rfl (aA t11 (cO rfl rfl (cH (l:=(tbl (tNx (rsM m ins)) i)) (f:=cL) (x:=(tbl (dG (rsM m ins) i) j)) (rVq (V.ms 812 v 0 i)) h812 (by exact (aU _ _).symm) (rVq (V.sl [[(aH (tbl (dG (rsM m ins) i) j))]])) rfl rfl (by omega) (by omega) (bR t8 h8 (bJ (vs:=[(V.ms 812 (v+1) 0 (i+1))]) (B':=(bk 1 24 4 [[(iV ((ins.length:Nat):Int)),(iV 0),(V.ms 812 (v+1) 0 (i+1)),(V.ms 813 w 0 i)]])) rfl rfl rfl h8 (sB oB rfl rfl rfl rfl rfl) ?_))))))
   exact iQ ⟨t0,t2,t6,t8,t9,t10,t12,h4,h6,rfl,h11,h12,h14,h19,rfl,h813,trivial⟩
  intro T H ⟨t0,t2,t6,t8,t9,t10,t12,h4,h6,h8,h11,h12,h14,h19,h812,h813,_⟩
  refine .freeze 12 (.done ?_)
  refine bF (R:=fun T H=>T 0=(iV ((ins.length:Nat):Int))∧T 2=(V.fn 71 [] [(V.pp [(iV m.i),(iV m.s),(aD m.nx),(aD m.ot)]),(V.pp [(aH ins)])])∧T 6=(mPq 6)∧T 8=(mPq 8)∧T 9=(V.ms 19 u2 0 Q.1.length)∧T 10=(iV ((i:Nat):Int))∧T 12=(aH (tbl (jM (rsM m ins) i) j))∧H 4=(bk 1 137 2 [[(iV m.s),(iV 0)]])∧H 6=bNq∧H 8=(bk 1 24 4 [[(iV ((ins.length:Nat):Int)),(iV 0),(V.ms 812 (v+1) 0 (i+1)),(V.ms 813 w 0 i)]])∧((H 11).ver=v2∧(H 11).live=false)∧((H 12).ver=w2∧(H 12).live=false)∧((H 14).ver=v14∧(H 14).live=false)∧H 19=(bk u2 137 2 (List.map nO Q.1))∧H 812=(bz (v+1) 25 1 (List.map cL (tbl (tNx (rsM m ins)) i++[tbl (dG (rsM m ins) i) j])))∧H 813=(bz w 25 1 (List.map cL (tbl (tOt (rsM m ins)) i)))∧True) ⟨(aK t0 rfl),(aK t2 rfl),(aK t6 rfl),(aK t8 rfl),(aK t9 (cP (by decide))),(aK t10 rfl),(aK t12 (kC h12 (by simp) (l:=(tbl (jM (rsM m ins) i) j)) rfl (by exact (aU _ _).symm))),(aL h4 (by decide)),(aL h6 (by decide)),(aL h8 (by decide)),(eB h11),(bN (cVq h12)),(eB h14),(aL h19 (by decide)),(aL h812 (by decide)),(aL h813 (by decide)),trivial⟩ ?_
  intro T H ⟨t0,t2,t6,t8,t9,t10,t12,h4,h6,h8,h11,h12,h14,h19,h812,h813,_⟩
  refine W_t (bR t8 h8 (bD rfl h8 rfl rfl (aA t12 (cO rfl rfl (cH (l:=(tbl (tOt (rsM m ins)) i)) (f:=cL) (x:=(tbl (jM (rsM m ins) i) j)) (rVq (V.ms 813 w 0 i)) h813 (by exact (aU _ _).symm) (rVq (V.sl [[(aH (tbl (jM (rsM m ins) i) j))]])) rfl rfl (by omega) (by omega) (bR t8 h8 (bJ (vs:=[(V.ms 813 (w+1) 0 (i+1))]) (B':=(bk 1 24 4 [[(iV ((ins.length:Nat):Int)),(iV 0),(V.ms 812 (v+1) 0 (i+1)),(V.ms 813 (w+1) 0 (i+1))]])) rfl rfl rfl h8 (sB oB rfl rfl rfl rfl rfl) ?_)))))))
  refine R_e (n4 _ _ (.done (W_t (aA t10 (bA rfl (rNq 1) (by omega) (aA rfl (R_e ?_)))))))
  refine p12 _ _ _ ?_ ⟨(i+1),(v+1),(w+1),u2,Q,v2,w2,v14,rfl,t0,t2,t6,t8,t9,(eTq (rNq (i+1)) (by rfl)),h4,h6,(eTq (@rfl Blk (bk 1 24 4 [[(iV ((ins.length:Nat):Int)),(iV 0),(V.ms 812 (v+1) 0 (i+1)),(V.ms 813 (w+1) 0 (i+1))]])) (by rfl)),h11,h12,h14,h19,(eTq h812 (by (rw [fW,ej]; first|done|rfl))),(eTq (@rfl Blk (bz (w+1) 25 1 (List.map cL (tbl (tOt (rsM m ins)) i++[tbl (jM (rsM m ins) i) j])))) (by (rw [fW,eo]; first|done|rfl))),?_⟩
  · omega
  · exact f1
 have e8:=hP.end hR (by omega)
 refine aP (p32 _ _ _ (x1 _ _ (.done (W_r (bD t8 h8 rfl rfl (bJ (vs:=[(iV ((ins.length:Nat):Int)),(iV 0),(V.ms 812 v 0 i),(V.ms 813 w 0 i)]) (B':=(bk 1 24 4 [[(iV ((ins.length:Nat):Int)),(iV 0),(V.ms 812 v 0 i),(V.ms 813 w 0 i)]])) t6 rfl rfl h6 (sB oB rfl rfl rfl rfl rfl) (aA rfl ?_)))))))
 refine R_e (bH ?_)
 refine rO (lW (u:=(V.agg [(iV ((ins.length:Nat):Int)),(iV 0),(V.ms 812 v 0 i),(V.ms 813 w 0 i)])) t6 (@rfl Blk (bk 1 24 4 [[(iV ((ins.length:Nat):Int)),(iV 0),(V.ms 812 v 0 i),(V.ms 813 w 0 i)]])) (lB oB rfl rfl)) (rB (rVq (iV 0))) (qV (cY (aW ?_) (cY (aW ?_) (cY (kN h812 (by simp) (l:=(tbl (tNx (rsM m ins)) i)) rfl (by exact (aU _ _).symm) (fun _=>by simp) ?_) (cY (kN h813 (by simp) (l:=(tbl (tOt (rsM m ins)) i)) rfl (by exact (aU _ _).symm) (fun _=>by simp) ?_) rfl))))) (eD (by simp) rfl)
 · rw [lZ hR,fM hR]; try first|rfl|(rw [← e8]; done)|(rw [← e8]; rfl)
 · rw [lZ hR,fM hR]; try first|rfl|(rw [← e8]; done)|(rw [← e8]; rfl)
 · rw [lZ hR,fM hR]; try first|rfl|(rw [← e8]; done)|(rw [← e8]; rfl)
 · rw [lZ hR,fM hR]; try first|rfl|(rw [← e8]; done)|(rw [← e8]; rfl)
theorem aDm (m:M) (ins:List Int) (hm:aV m=0) (hv:rsV m ins):aS Tryz.prog 45 [(V.agg [(iV m.i),(iV m.s),(aD m.nx),(aD m.ot)]),(aH ins)] (V.tup [(V.agg [(iV ((trR (rsM m ins)).i)),(iV ((trR (rsM m ins)).s)),(aD ((trR (rsM m ins)).nx)),(aD ((trR (rsM m ins)).ot))]),(iV 0)]):=by
 refine pW Tryz.func45 aGw fun hB=>?_
 unfold s45
 dsimp only
 have hl:=wV hm hv
 refine W_r (eU (i:=2) (n:=0) (m:=4) (cs:=[(iV m.i),(iV m.s),(aD m.nx),(aD m.ot)]) rfl (cVq rfl) rfl rfl rfl (eU (i:=3) (n:=0) (m:=1) (cs:=[(aH ins)]) rfl (cVq rfl) rfl rfl rfl (eR (i:=4) (n:=0) (m:=4) rfl (cVq rfl) rfl (aA rfl (R_e (aB (W_r ?_)))))))
 refine bD rfl rfl rfl rfl (aX (gI m) rfl (aA rfl (R_e (aB (W_r (aA rfl (fB rfl rfl ?_)))))))
 refine R_e ?_
 refine aJ rfl (fun c1=>?_) fun c1=>?_
 · exfalso; omega
 refine aG (aB (W_r (bD rfl rfl rfl rfl (bI rfl (gT rfl rfl (R_e ?_))))))
 refine aJ rfl (fun c2=>?_) fun c2=>?_
 · exfalso; have z:=c2; omega
 refine aG (aB (W_r (bD rfl rfl rfl rfl (bI rfl (aA rfl (R_e (aE fun Q3 n3 x3 y3 z3=>?_)))))))
 refine bP (fun mm T H=> ∃ (k:Nat),mm=ins.length - k∧T 2=(mPq 2)∧T 3=(mPq 3)∧T 4=(mPq 4)∧T 19=(aH ins)∧T 20=(iV ((ins.length:Nat):Int))∧T 21=(iV ((k:Nat):Int))∧H 2=(bMq m)∧H 3=(bk 1 25 1 [[(aH ins)]])∧H 4=bNq∧(k≤ins.length)) ?_ ?_
 ·
  refine ⟨_,0,rfl,rfl,rfl,rfl,rfl,rfl,(eTq (rVq (iV 0)) rfl),rfl,rfl,rfl,?_⟩
  · exact Nat.zero_le _
 intro mm T H ⟨k,hmm,t2,t3,t4,t19,t20,t21,h2,h3,h4,hk⟩ Q4 p14 p24 p34
 unfold aL0
 refine W_r (bO t21 t20 (R_e ?_))
 refine aJ rfl (fun c5=>?_) fun c5=>?_
 ·
  have rk:=hv.2.2 k (by omega)
  refine aG (aE fun Q6 n6 x6 y6 z6=>(W_r (aA t21 (bY (i:=k) t19 t21 (by omega) rfl (aI rfl rfl (aA rfl (aA rfl ?_)))))))
  refine R_e (aB (W_r (aA rfl (bO rfl rfl (aA rfl ?_)))))
  refine cC 5 (fun T H=>T 2=(mPq 2)∧T 3=(mPq 3)∧T 4=(mPq 4)∧T 7=(iV ((k:Nat):Int))∧T 8=(iV (nth ins k))∧T 19=(aH ins)∧T 20=(iV ((ins.length:Nat):Int))∧T 21=(iV ((k:Nat):Int))∧T 33=(V.bool (decide (((nth ins k) < (0:Int))∨(m.i≤(nth ins k)))))∧H 2=(bMq m)∧H 3=(bk 1 25 1 [[(aH ins)]])∧H 4=bNq∧True) ?_ ?_
  ·
   by_cases g7:(nth ins k) < (0:Int)
   ·
    refine G_n (edT g7 rfl) (G_n (edT g7 rfl) (G_n (edT g7 rfl) (G_n (edT g7 rfl) (bZ (edT g7 rfl) rfl ?_))))
    exact ⟨t2,t3,t4,rfl,rfl,t19,t20,t21,(eQ g7),h2,h3,h4,trivial⟩
   ·
    refine aT (edF g7 rfl) (aA rfl (aT (edF g7 rfl) (bR t2 h2 (aT (edF g7 rfl) (bD rfl h2 rfl rfl (aT (edF g7 rfl) (mM rfl rfl ?_)))))))
    refine cD (edF g7 rfl) rfl ?_
    exact ⟨t2,t3,t4,rfl,rfl,t19,t20,t21,(eO g7),h2,h3,h4,trivial⟩
  intro T H ⟨t2,t3,t4,t7,t8,t19,t20,t21,t33,h2,h3,h4,_⟩
  refine R_e ?_
  refine aJ t33 (fun c8=>?_) fun c8=>?_
  · exfalso; have z:=c8; first|omega|(simp at z; omega)
  refine aG (W_r (bD t3 h3 rfl rfl (aA t7 (aDN (n:=k) (rVq (aH ins)) (rNq k) (by omega) (fun _=>rfl) (aA t8 (aX (vI (List.take k ins) (nth ins k)) rfl (R_e ?_)))))))
  refine kI rfl (fun c9=>?_) fun c9=>?_
  · exfalso; exact aEe (by omega) hv.2.1 c9
  refine fK (n6 _ _ (.done (W_t (bA t21 (rNq 1) (by omega) (aA rfl (R_e ?_))))))
  refine p14 _ _ _ ?_ ⟨(k+1),rfl,t2,t3,t4,t19,t20,(eTq (rNq (k+1)) (by rfl)),h2,h3,h4,?_⟩
  · omega
  · omega
 refine aP (p34 _ _ _ (x3 _ _ (bF (R:=fun T H=>T 2=(mPq 2)∧T 3=(mPq 3)∧T 4=(mPq 4)∧T 19=(aH ins)∧T 20=(iV ((ins.length:Nat):Int))∧T 21=(iV ((k:Nat):Int))∧T 22=(V.bool (decide (((k:Nat):Int) < ((ins.length:Nat):Int))))∧H 2=(bMq m)∧H 3=(bk 1 25 1 [[(aH ins)]])∧H 4=bNq∧True) ⟨t2,t3,t4,t19,t20,t21,(rVq (V.bool (decide (((k:Nat):Int) < ((ins.length:Nat):Int))))),h2,h3,h4,trivial⟩ ?_)))
 intro T H ⟨t2,t3,t4,t19,t20,t21,t22,h2,h3,h4,_⟩
 refine .freezeP 2 2 1 0 0 [(iV m.i),(iV m.s),(aD m.nx),(aD m.ot)] t2 (by rw [h2]) (by rw [h2]; rfl) (by rw [h2]; rfl) (bF (R:=fun T H=>T 2=(V.pp [(iV m.i),(iV m.s),(aD m.nx),(aD m.ot)])∧T 3=(mPq 3)∧T 4=(mPq 4)∧T 19=(aH ins)∧T 20=(iV ((ins.length:Nat):Int))∧T 21=(iV ((k:Nat):Int))∧T 22=(V.bool (decide (((k:Nat):Int) < ((ins.length:Nat):Int))))∧((H 2).ver=1∧(H 2).live=false)∧H 3=(bk 1 25 1 [[(aH ins)]])∧H 4=bNq∧True) ⟨(aC _ _ _),(uTq t3),(uTq t4),(uTq t19),(uTq t20),(uTq t21),(uTq t22),(bN (cVq h2)),(aL h3 (by decide)),(aL h4 (by decide)),trivial⟩ ?_)
 intro T H ⟨t2,t3,t4,t19,t20,t21,t22,h2,h3,h4,_⟩
 refine .freezeP 3 3 1 0 0 [(aH ins)] t3 (by rw [h3]) (by rw [h3]; rfl) (by rw [h3]; rfl) (.done ?_)
 refine bF (R:=fun T H=>T 2=(V.pp [(iV m.i),(iV m.s),(aD m.nx),(aD m.ot)])∧T 3=(V.pp [(aH ins)])∧T 4=(mPq 4)∧T 19=(aH ins)∧T 20=(iV ((ins.length:Nat):Int))∧T 21=(iV ((k:Nat):Int))∧T 22=(V.bool (decide (((k:Nat):Int) < ((ins.length:Nat):Int))))∧((H 2).ver=1∧(H 2).live=false)∧((H 3).ver=1∧(H 3).live=false)∧H 4=bNq∧True) ⟨(uTq t2),(aC _ _ _),(uTq t4),(uTq t19),(uTq t20),(uTq t21),(uTq t22),(eB h2),(bN (cVq h3)),(aL h4 (by decide)),trivial⟩ ?_
 intro T H ⟨t2,t3,t4,t19,t20,t21,t22,h2,h3,h4,_⟩
 refine W_r (aI t3 rfl (bI rfl (vV (cs':=[(iV m.s),(aD m.nx),(aD m.ot)]) t2 rfl (aI rfl rfl (fY rfl rfl (aE5 (bV t2 (bV t3 fP)) (aX (aIv m ins hm hv) rfl ?_)))))))
 refine cR rfl rfl (cR rfl rfl (bJ (vs:=[(iV ((trR (rsM m ins)).i)),(iV ((trR (rsM m ins)).s)),(aD ((trR (rsM m ins)).nx)),(aD ((trR (rsM m ins)).ot))]) (B':=(bk 1 24 4 [[(iV ((trR (rsM m ins)).i)),(iV ((trR (rsM m ins)).s)),(aD ((trR (rsM m ins)).nx)),(aD ((trR (rsM m ins)).ot))]])) t4 rfl rfl h4 (sB oB rfl rfl rfl rfl rfl) (aA rfl (R_e (bH ?_)))))
 refine rO (lW (u:=(V.agg [(iV ((trR (rsM m ins)).i)),(iV ((trR (rsM m ins)).s)),(aD ((trR (rsM m ins)).nx)),(aD ((trR (rsM m ins)).ot))])) t4 (@rfl Blk (bk 1 24 4 [[(iV ((trR (rsM m ins)).i)),(iV ((trR (rsM m ins)).s)),(aD ((trR (rsM m ins)).nx)),(aD ((trR (rsM m ins)).ot))]])) (lB oB rfl rfl)) (rB (rVq (iV 0))) (eD (by simp) rfl) (eD (by simp) rfl)
theorem aFM (m:M) (gs:List (List Int)) (hg:gs.length≤4):aS Tryz.prog 20 [(V.agg [(iV m.i),(iV m.s),(aD m.nx),(aD m.ot)]),(aD gs)] (V.tup [(V.sl (List.map mC (fcL m gs))),(iV (fcE m gs))]):=by
 refine pW Tryz.func20 aIt fun hB=>?_
 unfold s20
 dsimp only
 refine W_r (eU (i:=2) (n:=0) (m:=4) (cs:=[(iV m.i),(iV m.s),(aD m.nx),(aD m.ot)]) rfl (cVq rfl) rfl rfl rfl (aA rfl (aA rfl (R_e (W_r (bD rfl rfl rfl rfl (aA rfl ?_)))))))
 refine aX (aFD m gs hg) rfl (aA rfl (cR rfl rfl (cR rfl rfl (cR rfl rfl (aA rfl (aA rfl (aA rfl ?_)))))))
 refine R_e (aB (W_r (aA rfl (fB rfl rfl (R_e ?_)))))
 refine aJ rfl (fun c1=>?_) fun c1=>?_
 ·
  have d0:=c1
  have e1:fcE m gs=(isD m gs).2.2:=by unfold fcE; rw [if_pos d0]
  have e2: ¬fcE m gs=0:=by rw [e1]; exact d0
  refine aB (W_r (aA rfl (aA rfl (aA rfl (R_e (bC ?_))))))
  refine lV (rVq V.nilsl) (rVq (iV ((isD m gs).2.2))) (gG ?_) (aW ?_)
  · rw [fcL,if_neg e2]; try rfl
  · exact e1.symm
 have d0:(isD m gs).2.2=0:=by have z:=c1; omega
 obtain ⟨hm,hp⟩:=aMu d0
 refine aG (aB (W_r (aA rfl (R_e ?_))))
 refine dR rfl (fun c2=>?_) (fun c2=>?_)
 ·
  have d1:(isD m gs).2.1=true:=c2
  have e1:fcE m gs=15:=by unfold fcE; rw [if_neg (by omega),if_pos d1]
  have e2: ¬fcE m gs=0:=by rw [e1]; decide
  refine aB (W_r (aA rfl (aA rfl (R_e (bC ?_)))))
  refine lV (rVq V.nilsl) (rVq (iV 15)) (gG ?_) (aW ?_)
  · rw [fcL,if_neg e2]; try rfl
  · exact e1.symm
 have d1:(isD m gs).2.1=false:=c2
 have e3:fcE m gs=0:=by unfold fcE; rw [if_neg (by omega),if_neg (by rw [d1]; decide)]
 refine aG (W_r (fF (i:=9) (n:=0) rfl (cVq rfl) (R_e (aB (W_r (aA rfl (bI rfl ?_)))))))
 refine aA rfl (R_e (aE fun Q3 n3 x3 y3 z3=>?_))
 refine bP (fun mm T H=> ∃ (k:Nat) (u:Nat) (v12:Nat) (v14:Nat),mm=gs.length - k∧T 2=(mPq 2)∧T 9=(V.ms 9 u 0 k)∧T 26=(aD gs)∧T 27=(iV ((gs.length:Nat):Int))∧T 28=(iV ((k:Nat):Int))∧H 2=(bMq m)∧H 9=(bz u 24 4 (List.map mC (tbl (fcM m gs) k)))∧((H 12).ver=v12∧(H 12).live=false)∧((H 14).ver=v14∧(H 14).live=false)∧(k≤gs.length)) ?_ ?_
 ·
  refine ⟨_,0,1,0,0,rfl,rfl,rfl,rfl,rfl,(eTq (rVq (iV 0)) rfl),rfl,(eTq (@rfl Blk (bz 1 24 4 [])) (by rfl)),⟨(cVq rfl),congrArg Blk.live (@rfl Blk bZq)⟩,⟨(cVq rfl),congrArg Blk.live (@rfl Blk bZq)⟩,?_⟩
  · exact Nat.zero_le _
 intro mm T H ⟨k,u,v12,v14,hmm,t2,t9,t26,t27,t28,h2,h9,h12,h14,hk⟩ Q4 p14 p24 p34
 unfold aMF
 refine W_r (bO t28 t27 (R_e ?_))
 refine aJ rfl (fun c5=>?_) fun c5=>?_
 ·
  refine aG (aE fun Q6 n6 x6 y6 z6=>(W_r (bY (i:=k) t26 t28 (by omega) rfl (aI rfl rfl (aA rfl (R_e (W_r ?_)))))))
  refine bD t2 h2 rfl rfl (aA rfl (aX (aDm m (nth gs k) hm (aIp hm hp (by omega))) rfl (aA rfl (cR rfl rfl (cR rfl rfl (eR (i:=12) (n:=v12) (m:=4) rfl h12.1 rfl (bJ (vs:=[(iV ((trR (rsM m (nth gs k))).i)),(iV ((trR (rsM m (nth gs k))).s)),(aD ((trR (rsM m (nth gs k))).nx)),(aD ((trR (rsM m (nth gs k))).ot))]) (B':=(bk (v12+1) 24 4 [[(iV ((trR (rsM m (nth gs k))).i)),(iV ((trR (rsM m (nth gs k))).s)),(aD ((trR (rsM m (nth gs k))).nx)),(aD ((trR (rsM m (nth gs k))).ot))]])) rfl rfl rfl rfl (sB oB rfl rfl rfl rfl rfl) ?_)))))))
  refine aA rfl (R_e (aB (W_r (aA rfl (fB rfl rfl (R_e ?_))))))
  refine aJ rfl (fun c7=>?_) fun c7=>?_
  · exact absurd c7 (by decide)
  refine aG (W_r (bD rfl rfl rfl rfl (aX (aFQ (trR (rsM m (nth gs k)))) rfl (aA rfl (cR rfl rfl (cR rfl rfl (eR (i:=14) (n:=v14) (m:=4) rfl h14.1 rfl ?_)))))))
  refine bJ (vs:=[(iV ((mnR (trR (rsM m (nth gs k)))).i)),(iV ((mnR (trR (rsM m (nth gs k)))).s)),(aD ((mnR (trR (rsM m (nth gs k)))).nx)),(aD ((mnR (trR (rsM m (nth gs k)))).ot))]) (B':=(bk (v14+1) 24 4 [[(iV ((mnR (trR (rsM m (nth gs k)))).i)),(iV ((mnR (trR (rsM m (nth gs k)))).s)),(aD ((mnR (trR (rsM m (nth gs k)))).nx)),(aD ((mnR (trR (rsM m (nth gs k)))).ot))]])) rfl rfl rfl rfl (sB oB rfl rfl rfl rfl rfl) (aA rfl (R_e (aB (W_r (aA rfl (fB rfl rfl (R_e ?_)))))))
  refine aJ rfl (fun c8=>?_) fun c8=>?_
  · exfalso; exact c8 (tP (zT hm (aIp hm hp (by omega))))
  refine aG (W_t (aA t9 (bD rfl rfl rfl rfl (cO rfl rfl (cH (l:=(tbl (fcM m gs) k)) (f:=mC) (x:=(mnR (trR (rsM m (nth gs k))))) (rVq (V.ms 9 u 0 k)) h9 (by exact (aU _ _).symm) (rVq (V.sl [[(iV ((mnR (trR (rsM m (nth gs k)))).i)),(iV ((mnR (trR (rsM m (nth gs k)))).s)),(aD ((mnR (trR (rsM m (nth gs k)))).nx)),(aD ((mnR (trR (rsM m (nth gs k)))).ot))]])) rfl rfl (by omega) (by omega) (aA rfl (R_e ?_)))))))
  refine n6 _ _ (bF (R:=fun T H=>T 2=(mPq 2)∧T 9=(V.ms 9 (u+1) 0 (k+1))∧T 26=(aD gs)∧T 27=(iV ((gs.length:Nat):Int))∧T 28=(iV ((k:Nat):Int))∧H 2=(bMq m)∧H 9=(bz (u+1) 24 4 (List.map mC (tbl (fcM m gs) k++[(mnR (trR (rsM m (nth gs k))))])))∧H 12=(bk (v12+1) 24 4 [[(iV ((trR (rsM m (nth gs k))).i)),(iV ((trR (rsM m (nth gs k))).s)),(aD ((trR (rsM m (nth gs k))).nx)),(aD ((trR (rsM m (nth gs k))).ot))]])∧H 14=(bk (v14+1) 24 4 [[(iV ((mnR (trR (rsM m (nth gs k)))).i)),(iV ((mnR (trR (rsM m (nth gs k)))).s)),(aD ((mnR (trR (rsM m (nth gs k)))).nx)),(aD ((mnR (trR (rsM m (nth gs k)))).ot))]])∧True) ⟨t2,(rVq (V.ms 9 (u+1) 0 (k+1))),t26,t27,t28,h2,rfl,rfl,rfl,trivial⟩ ?_)
  intro T H ⟨t2,t9,t26,t27,t28,h2,h9,h12,h14,_⟩
  refine .freeze 12 (bF (R:=fun T H=>T 2=(mPq 2)∧T 9=(V.ms 9 (u+1) 0 (k+1))∧T 26=(aD gs)∧T 27=(iV ((gs.length:Nat):Int))∧T 28=(iV ((k:Nat):Int))∧H 2=(bMq m)∧H 9=(bz (u+1) 24 4 (List.map mC (tbl (fcM m gs) k++[(mnR (trR (rsM m (nth gs k))))])))∧((H 12).ver=v12+1∧(H 12).live=false)∧H 14=(bk (v14+1) 24 4 [[(iV ((mnR (trR (rsM m (nth gs k)))).i)),(iV ((mnR (trR (rsM m (nth gs k)))).s)),(aD ((mnR (trR (rsM m (nth gs k)))).nx)),(aD ((mnR (trR (rsM m (nth gs k)))).ot))]])∧True) ⟨(aK t2 rfl),(aK t9 (cP (by decide))),(aK t26 rfl),(aK t27 rfl),(aK t28 rfl),(aL h2 (by decide)),(aL h9 (by decide)),(bN (cVq h12)),(aL h14 (by decide)),trivial⟩ ?_)
  intro T H ⟨t2,t9,t26,t27,t28,h2,h9,h12,h14,_⟩
  refine .freeze 14 (.done ?_)
  refine bF (R:=fun T H=>T 2=(mPq 2)∧T 9=(V.ms 9 (u+1) 0 (k+1))∧T 26=(aD gs)∧T 27=(iV ((gs.length:Nat):Int))∧T 28=(iV ((k:Nat):Int))∧H 2=(bMq m)∧H 9=(bz (u+1) 24 4 (List.map mC (tbl (fcM m gs) k++[(mnR (trR (rsM m (nth gs k))))])))∧((H 12).ver=v12+1∧(H 12).live=false)∧((H 14).ver=v14+1∧(H 14).live=false)∧True) ⟨(aK t2 rfl),(aK t9 (cP (by decide))),(aK t26 rfl),(aK t27 rfl),(aK t28 rfl),(aL h2 (by decide)),(aL h9 (by decide)),(eB h12),(bN (cVq h14)),trivial⟩ ?_
  intro T H ⟨t2,t9,t26,t27,t28,h2,h9,h12,h14,_⟩
  refine W_t (bA t28 (rNq 1) (by omega) (aA rfl (R_e ?_)))
  refine p14 _ _ _ ?_ ⟨(k+1),(u+1),(v12+1),(v14+1),rfl,t2,(eTq t9 (by rfl)),t26,t27,(eTq (rNq (k+1)) (by rfl)),h2,(eTq h9 (by (rw [fW]; first|done|rfl))),h12,h14,?_⟩
  · omega
  · omega
 have ek:gs.length=k:=by omega
 refine aP (p34 _ _ _ (x3 _ _ (.done (W_r (aA t9 (aA rfl (aA rfl ?_)))))))
 refine R_e (bH ?_)
 refine lV (rVq (V.ms 9 u 0 k)) (rVq (iV 0)) (kN h9 (by simp) (l:=(tbl (fcM m gs) k)) rfl (by exact (aU _ _).symm) (fun _=>by simp) ?_) (aW ?_)
 · rw [fcL,if_pos e3,ek]; try rfl
 · exact e3.symm
theorem aDM (m:M) (s:Int):aS Tryz.prog 73 [(V.agg [(iV m.i),(iV m.s),(aD m.nx),(aD m.ot)]),(iV s)] (iV (stE m s)):=by
 refine pW Tryz.func73 aHn fun hB=>?_
 unfold s73
 dsimp only
 refine W_r (eU (i:=2) (n:=0) (m:=4) (cs:=[(iV m.i),(iV m.s),(aD m.nx),(aD m.ot)]) rfl (cVq rfl) rfl rfl rfl (aA rfl (R_e (aB (W_r (bD rfl rfl rfl rfl (aX (gI m) rfl ?_)))))))
 refine aA rfl (R_e (aB (W_r (aA rfl (fB rfl rfl (R_e ?_))))))
 refine aJ rfl (fun c1=>?_) fun c1=>?_
 ·
  refine aB (W_r (aA rfl (aA rfl (R_e (bC ?_)))))
  refine bS (rVq (iV (aV m))) (aW ?_)
  · rw [stE,if_pos (by omega)]
 refine aG (aB (W_r (aA rfl (bO rfl rfl (aA rfl ?_)))))
 refine cC 6 (fun T H=>T 19=(V.bool (decide ((s < (0:Int))∨(((m.nx.length:Nat):Int)≤s))))∧H 2=(bMq m)∧True) ?_ ?_
 ·
  by_cases g2:s < (0:Int)
  ·
   refine G_n (edT g2 rfl) (G_n (edT g2 rfl) (G_n (edT g2 rfl) (G_n (edT g2 rfl) (G_n (edT g2 rfl) (bZ (edT g2 rfl) rfl ?_)))))
   exact ⟨(eQ g2),rfl,trivial⟩
  ·
   refine aT (edF g2 rfl) (aA rfl (aT (edF g2 rfl) (bR rfl rfl (aT (edF g2 rfl) (bD rfl rfl rfl rfl (aT (edF g2 rfl) (bI rfl ?_)))))))
   refine aT (edF g2 rfl) (mM rfl rfl (cD (edF g2 rfl) rfl ?_))
   exact ⟨(eO g2),rfl,trivial⟩
 intro T H ⟨t19,h2,_⟩
 refine R_e ?_
 refine aJ t19 (fun c3=>?_) fun c3=>?_
 ·
  refine aB (W_r (aA rfl (R_e (bC ?_))))
  refine bS (rVq (iV 2)) (aW ?_)
  · rw [stE,if_neg (by omega),if_pos (by omega)]
 refine aG (W_r (aA rfl (R_e (bH ?_))))
 refine bS (rVq (iV 0)) (aW ?_)
 · rw [stE,if_neg (by omega),if_neg (by omega)]
theorem wO (n:Int):aS Tryz.prog 119 [(iV n)] (V.bool (decide (1≤n∧n≤1024))):=by
 refine pW Tryz.func119 aFc fun hB=>?_
 unfold aKq
 dsimp only
 refine W_r (aA rfl (R_e (W_r (aA rfl (mM rfl rfl (aA rfl ?_))))))
 refine cC 3 (fun T H=>T 8=(V.bool (decide (((1:Int)≤n)∧(n≤(1024:Int)))))∧True) ?_ ?_
 ·
  by_cases g1:(1:Int)≤n
  ·
   refine aT (edT g1 rfl) (aA rfl (aT (edT g1 rfl) (aRM rfl rfl (bZ (edT g1 rfl) rfl ?_))))
   exact ⟨(aCJ g1),trivial⟩
  ·
   refine G_n (edF g1 rfl) (G_n (edF g1 rfl) (cD (edF g1 rfl) rfl ?_))
   exact ⟨(aCL g1),trivial⟩
 intro T H ⟨t8,_⟩
 refine aA t8 (R_e (bH ?_))
 refine bS (rVq (V.bool (decide (((1:Int)≤n)∧(n≤(1024:Int)))))) (eM ?_)
 · first|rfl|omega|simp_all
theorem aGj (p:Int→Bool) (w:List Int) (g:Nat) (caps:List V) (hca:cJ caps=true) (hpu:cM caps=true) (hq: ∀ k,k < w.length→aS Tryz.prog g (iV (nth w k)::caps) (.bool (p (nth w k)))):aS Tryz.prog 168 [(aH w),(V.fn g [] caps)] (iV (fi (fun jx=>p (nth w jx)) 0 w.length)):=by
 refine oM true 6 Tryz.func168 aEg (by kernel_rfl) (by simp [aG2]) (by simp [hpu]) (by simp) fun hB=>?_
 simp only [tV,tN,pF,tK,tX,aBb,tR,oU,implies_true,and_true,true_and] at hB
 unfold aG2
 dsimp only
 refine W_r (aA rfl (R_e (aB (W_r (aA rfl (bI rfl (aA rfl ?_)))))))
 refine R_e (aE fun Q1 n1 x1 y1 z1=>?_)
 refine bP (fun mm T H=> ∃ (k:Nat),mm=w.length - k∧T 0=(aH w)∧T 1=(V.fn g [] caps)∧T 7=(iV ((w.length:Nat):Int))∧T 8=(iV ((k:Nat):Int))∧(k≤w.length)∧(fi (fun j=>p (nth w j)) 0 w.length=fi (fun j=>p (nth w j)) k (w.length - k))) ?_ ?_
 ·
  refine ⟨_,0,rfl,rfl,rfl,rfl,(eTq (rVq (iV 0)) rfl),?_,?_⟩
  · omega
  · rfl
 intro mm T H ⟨k,hmm,t0,t1,t7,t8,hk,hc⟩ Q2 p12 p22 p32
 unfold aIw
 refine W_r (bO t8 t7 (R_e ?_))
 refine aJ rfl (fun c3=>?_) fun c3=>?_
 ·
  refine aG (aE fun Q4 n4 x4 y4 z4=>(W_r (aA t8 (aA rfl (R_e (W_r (aA t1 ?_)))))))
  refine aA t0 (aA rfl (bY (i:=k) (rVq (aH w)) (rNq k) (by omega) rfl (aI rfl rfl (jY (rVq (V.fn g [] caps)) (bV (rVq (iV (nth w k))) fP) (hq k (by omega)) (eC _ _ (by simp [hca])) (by simp [hpu]) (Or.inl (by simp [hpu])) (R_e ?_)))))
  refine aEy rfl (fun c5=>?_) (fun c5=>?_)
  ·
   have d1:=c5
   refine W_r (aA rfl (aA rfl (R_e (bH (y4 _ _ (p22 _ _ (y1 _ _ ?_)))))))
   refine bS (rNq k) (aW ?_)
   · rw [hc,aDg (by exact d1) (by omega)]
  have d1:=c5
  refine fK (n4 _ _ (.done (W_t (bA t8 (rNq 1) (by omega) (aA rfl (R_e ?_))))))
  refine p12 _ _ _ ?_ ⟨(k+1),rfl,t0,t1,t7,(eTq (rNq (k+1)) (by rfl)),?_,?_⟩
  · omega
  · omega
  · rw [hc,aAi (by exact d1) (by omega)]
 refine aP (p32 _ _ _ (x1 _ _ (.done (W_r (aA rfl (R_e (bH ?_)))))))
 refine bS (rVq (iV (-1))) (aW ?_)
 · rw [hc,aCP (by omega)]
theorem aGh (p:Int→Bool) (w:List Int) (g:Nat) (caps:List V) (hca:cJ caps=true) (hpu:cM caps=true) (hq: ∀ k,k < w.length→aS Tryz.prog g (iV (nth w k)::caps) (.bool (p (nth w k)))):aS Tryz.prog 120 [(aH w),(V.fn g [] caps)] (V.bool (decide (0≤fi (fun jx=>p (nth w jx)) 0 w.length))):=by
 refine oM true 6 Tryz.func120 aDS (by kernel_rfl) (by simp [aGK]) (by simp [hpu]) (by simp) fun hB=>?_
 simp only [tV,tN,pF,tK,tX,aBb,tR,oU,implies_true,and_true,true_and] at hB
 unfold aGK
 dsimp only
 refine W_r (aA rfl (R_e (W_r (aA rfl (aA rfl (aDI (bV (rVq (aH w)) (bV (rVq (V.fn g [] caps)) fP)) (aGj p w g caps hca hpu hq) (eC _ _ (by simp [hca,hpu,-List.map_take,-List.map_drop,-List.map_append,-List.map_reverse])) (by simp [hca,hpu,-List.map_take,-List.map_drop,-List.map_append,-List.map_reverse]) (Or.inl (by simp [hca,hpu,-List.map_take,-List.map_drop,-List.map_append,-List.map_reverse])) (mM rfl rfl ?_)))))))
 refine aA rfl (R_e (bH ?_))
 refine bS (rVq (V.bool (decide ((0:Int)≤(fi (fun jx=>p (nth w jx)) 0 w.length))))) (eM ?_)
 · first|rfl|omega|simp_all
theorem aBv (a n:Int):aS Tryz.prog 121 [(iV a),(V.pp [(iV n)])] (V.bool (decide (a < 0∨n≤a))):=by
 refine pW Tryz.func121 aEz fun hB=>?_
 unfold aLb
 dsimp only
 refine W_r (aA rfl (R_e (W_r (aA rfl (bO rfl rfl (aA rfl ?_))))))
 refine cC 4 (fun T H=>T 10=(V.bool (decide ((a < (0:Int))∨(n≤a))))∧True) ?_ ?_
 ·
  by_cases g1:a < (0:Int)
  ·
   refine G_n (edT g1 rfl) (G_n (edT g1 rfl) (G_n (edT g1 rfl) (bZ (edT g1 rfl) rfl ?_)))
   exact ⟨(eQ g1),trivial⟩
  ·
   refine aT (edF g1 rfl) (aA rfl (aT (edF g1 rfl) (aI rfl rfl (aT (edF g1 rfl) (mM rfl rfl (cD (edF g1 rfl) rfl ?_))))))
   exact ⟨(eO g1),trivial⟩
 intro T H ⟨t10,_⟩
 refine aA t10 (R_e (bH ?_))
 refine bS (rVq (V.bool (decide ((a < (0:Int))∨(n≤a))))) (eM ?_)
 · first|rfl|omega|simp_all
theorem aDD (w:List Int) (n:Int):aS Tryz.prog 74 [(aH w),(iV n)] (iV (gX w n)):=by
 refine pW Tryz.func74 aHx fun hB=>?_
 unfold s74
 dsimp only
 refine W_r (eU (i:=3) (n:=0) (m:=1) (cs:=[(iV n)]) rfl (cVq rfl) rfl rfl rfl (aA rfl (R_e (aE fun Q1 n1 x1 y1 z1=>(W_r (bD rfl rfl rfl rfl (aX (wO n) rfl ?_)))))))
 refine aBP rfl (aA rfl (R_e ?_))
 refine kI rfl (fun c2=>?_) fun c2=>?_
 ·
  refine W_r (aA rfl (R_e (bH (y1 _ _ ?_))))
  refine bS (rVq (iV 2)) (aW ?_)
  · rw [gX,if_pos (by omega)]
 refine W_r (aA rfl (bI rfl (jV rfl rfl (aA rfl (R_e ?_)))))
 refine kI rfl (fun c3=>?_) fun c3=>?_
 ·
  refine W_r (aA rfl (R_e (bH (y1 _ _ ?_))))
  refine bS (rVq (iV 3)) (aW ?_)
  · rw [gX,if_neg (by omega),if_pos (by omega)]
 refine W_r (aA rfl (aE5 (bV rfl fP) (aDI (bV (rVq (aH w)) (bV (rVq (V.fn 121 [] [(mPq 3)])) fP)) (aGh (fun a=>decide (a < 0∨n≤a)) w 121 ([(V.pp [(iV n)])]) (by simp) (by simp) (fun k _=>aBv (nth w k) n)) (cY (dC 6 _ (by simp [-List.map_take,-List.map_drop,-List.map_append,-List.map_reverse])) (cY (by rfl) rfl)) (by simp [-List.map_take,-List.map_drop,-List.map_append,-List.map_reverse]) (Or.inr rfl) (aA rfl (R_e ?_)))))
 refine kI (p:=0≤fi (fun jx=>(fun a=>decide (a < 0∨n≤a)) (nth w jx)) 0 w.length) rfl (fun c4=>?_) (fun c4=>?_)
 ·
  refine W_r (aA rfl (R_e (bH (y1 _ _ ?_))))
  refine bS (rVq (iV 1)) (aW ?_)
  · have e:(0≤fi (fun j=>(fun a=>decide (a < 0∨n≤a)) (nth w j)) 0 w.length↔fe (wE w n) 0 w.length=1)∧(fe (wE w n) 0 w.length=0∨fe (wE w n) 0 w.length=1):=aMD w n w.length 0
    rw [gX,if_neg (by omega),if_neg (by omega)]; omega
 refine fK (n1 _ _ (.done (W_r (aA rfl (R_e (bH ?_))))))
 refine bS (rVq (iV 0)) (aW ?_)
 · have e:(0≤fi (fun j=>(fun a=>decide (a < 0∨n≤a)) (nth w j)) 0 w.length↔fe (wE w n) 0 w.length=1)∧(fe (wE w n) 0 w.length=0∨fe (wE w n) 0 w.length=1):=aMD w n w.length 0
   rw [gX,if_neg (by omega),if_neg (by omega)]; omega
theorem aF2 (m:M) (s a:Int) (hs:0≤s∧s < m.nx.length∧m.ot.length=m.nx.length) (ha:0≤a∧a < (nth m.nx s.toNat).length∧a < (nth m.ot s.toNat).length):aS Tryz.prog 122 [(V.agg [(iV m.i),(iV m.s),(aD m.nx),(aD m.ot)]),(iV s),(iV a)] (V.tup [(iV (cell m.nx s a)),(iV (cell m.ot s a))]):=by
 refine pW Tryz.func122 aD8 fun hB=>?_
 unfold aJX
 dsimp only
 refine W_r (eU (i:=3) (n:=0) (m:=4) (cs:=[(iV m.i),(iV m.s),(aD m.nx),(aD m.ot)]) rfl (cVq rfl) rfl rfl rfl (aA rfl (aA rfl (R_e (W_r (bR rfl rfl (bR rfl rfl ?_)))))))
 refine bD rfl rfl rfl rfl (aA rfl (dX (i:=s) (rVq (aD m.nx)) (rVq (iV s)) (by omega) (by omega) rfl (aI rfl rfl (aA rfl (dX (i:=a) (rVq (aH (nth m.nx s.toNat))) (rVq (iV a)) (by omega) (by omega) rfl (aI rfl rfl (bR rfl rfl ?_)))))))
 refine bR rfl rfl (bD rfl rfl rfl rfl (aA rfl (dX (i:=s) (rVq (aD m.ot)) (rVq (iV s)) (by omega) (by omega) rfl (aI rfl rfl (aA rfl (dX (i:=a) (rVq (aH (nth m.ot s.toNat))) (rVq (iV a)) (by omega) (by omega) rfl (aI rfl rfl ?_)))))))
 refine aA rfl (aA rfl (R_e (bH ?_)))
 refine lV (rVq (iV (nth (nth m.nx s.toNat) a.toNat))) (rVq (iV (nth (nth m.ot s.toNat) a.toNat))) (aW ?_) (aW ?_)
 · rfl
 · rfl
theorem aSk (m:M) (s:Int) (w:List Int) (v1 v5:Nat) (Hi:aF) (hb:Hi 30=(bk v1 147 5 [[(iV m.i),(iV m.s),(aD m.nx),(aD m.ot),(iV s)]])) (h105:(Hi 105).ver=v5) (hm:aV m=0) (hs:0≤s∧s < m.nx.length) (hl:w.length≤1024) (hw: ∀ k,k < w.length→0≤nth w k∧nth w k < m.i):dB Tryz.prog 75 [(V.mp 30 v1 0 0),(aH w)] Hi (aH (eA m s w)) (upd (upd Hi 105 (⟨v5+1+w.length,false,false,0,0,[]⟩:Blk)) 30 (bk v1 147 5 [[(iV m.i),(iV m.s),(aD m.nx),(aD m.ot),(iV (eJ m s w))]])):=by
 refine eW (k0:=100) Tryz.func75 aHO fun hB=>?_
 unfold s75
 dsimp only
 refine W_r (aA rfl (R_e (W_r (fF (i:=105) (n:=v5) rfl h105 (R_e (aB (W_r ?_)))))))
 refine aA rfl (bI rfl (aA rfl (R_e (aE fun Q1 n1 x1 y1 z1=>?_))))
 refine bP (fun mm T H=> ∃ (k:Nat),mm=w.length - k∧T 0=(V.mp 30 v1 0 0)∧T 5=(V.ms 105 (v5+1+k) 0 k)∧T 10=(aH w)∧T 11=(iV ((w.length:Nat):Int))∧T 12=(iV ((k:Nat):Int))∧(∀ j,j∉[105,30]→H j=Hi j)∧H 30=(bk v1 147 5 [[(iV m.i),(iV m.s),(aD m.nx),(aD m.ot),(iV (eJ m s (w.take k)))]])∧H 105=(bz (v5+1+k) 3 1 (List.map cI (eA m s (w.take k))))∧(k≤w.length)) ?_ ?_
 ·
  refine ⟨_,0,rfl,rfl,(eTq (rVq (V.ms 105 (v5+1) 0 0)) (by rfl)),rfl,rfl,(eTq (rVq (iV 0)) rfl),(dE (fun _ _=>rfl) (by decide)),(eTq hb (by rfl)),(eTq (@rfl Blk (bz (v5+1) 3 1 [])) (by rfl)),?_⟩
  · omega
 intro mm T H ⟨k,hmm,t0,t5,t10,t11,t12,hF,h30,h105,hk⟩ Q2 p12 p22 p32
 unfold aMg
 refine W_r (bO t12 t11 (R_e ?_))
 refine aJ rfl (fun c3=>?_) fun c3=>?_
 ·
  have h1:=aOF hm hs hw (k:=k) (by omega)
  refine aG (aE fun Q4 n4 x4 y4 z4=>(W_r (bY (i:=k) t10 t12 (by omega) rfl (aI rfl rfl (aA rfl (R_e (W_r ?_)))))))
  refine aA t0 (kV rfl h30 oB (bR rfl h30 (bD rfl h30 rfl rfl (aA t0 (kV rfl h30 oB (bR rfl h30 (bD rfl h30 rfl rfl ?_)))))))
  refine aA rfl (aX (aF2 m (eJ m s (w.take k)) (nth w k) h1.1 h1.2) rfl (aA rfl (cR rfl rfl (cR rfl rfl (aA rfl (aA rfl (R_e ?_)))))))
  refine W_r (aA t0 (aA rfl (kV rfl h30 oB (bR rfl h30 (aOp rfl rfl rfl h30 rfl rfl rfl rfl rfl (R_e (W_t ?_)))))))
  refine aA t5 (aA rfl (cO rfl rfl (cH (l:=(eA m s (w.take k))) (f:=cI) (x:=(cell m.ot (eJ m s (w.take k)) (nth w k))) (rVq (V.ms 105 (v5+1+k) 0 k)) h105 (by (simp only [kO,List.length_take]; omega)) (rVq (V.sl [[(iV (cell m.ot (eJ m s (w.take k)) (nth w k)))]])) rfl rfl (by omega) (by omega) (aA rfl (R_e (n4 _ _ (.done ?_)))))))
  refine W_t (bA t12 (rNq 1) (by omega) (aA rfl (R_e ?_)))
  refine p12 _ _ _ ?_ ⟨(k+1),rfl,t0,(eTq (rVq (V.ms 105 (v5+1+k+1) 0 (k+1))) (by rfl)),t10,t11,(eTq (rNq (k+1)) (by rfl)),(dE (dE hF (by decide)) (by decide)),(eTq (@rfl Blk (bk v1 147 5 [[(iV m.i),(iV m.s),(aD m.nx),(aD m.ot),(iV (cell m.nx (eJ m s (w.take k)) (nth w k)))]])) (by (rw [aFn m s (by omega)]))),(eTq (@rfl Blk (bz (v5+1+k+1) 3 1 (List.map cI (eA m s (w.take k)++[(cell m.ot (eJ m s (w.take k)) (nth w k))])))) (by (rw [aFG m s (by omega)]; rfl))),?_⟩
  · omega
  · omega
 refine aP (p32 _ _ _ (x1 _ _ (.done (W_r (aA t5 (aA rfl (R_e ?_)))))))
 refine bH (bF (R:=fun T H=>T 4=(V.ms 105 (v5+1+k) 0 k)∧(∀ j,j∉[105,30]→H j=Hi j)∧H 30=(bk v1 147 5 [[(iV m.i),(iV m.s),(aD m.nx),(aD m.ot),(iV (eJ m s (w.take k)))]])∧H 105=(bz (v5+1+k) 3 1 (List.map cI (eA m s (w.take k))))∧True) ⟨(rVq (V.ms 105 (v5+1+k) 0 k)),hF,h30,h105,trivial⟩ ?_)
 intro T H ⟨t4,hF,h30,h105,_⟩
 have fh:=dJ.fin (dJ.put (B:=(bk v1 147 5 [[(iV m.i),(iV m.s),(aD m.nx),(aD m.ot),(iV (eJ m s w))]])) (dJ.putv (n:=(v5+1+k)) (B:=(⟨v5+1+w.length,false,false,0,0,[]⟩:Blk)) (dJ.start hF) (cVq h105) (by show _≤v5+1+w.length; omega) rfl) h30 (jB.eq (by (have e:k=w.length:=(by omega); subst e; rw [List.take_length]; done))))
 exact jL t4 fh (cV.trans_eq (cV.frz (rows:=(List.map cI (eA m s (w.take k)))) fh (by simp [h105]) (by simp [h105]) rfl (by rw [h105]; exact aHh (l:=(eA m s (w.take k))) (by (simp only [kO,List.length_take]; omega)))) (by (have e:k=w.length:=(by omega); subst e; rw [List.take_length]; done)))
theorem aFU (m:M) (s:Int) (w:List Int):aS Tryz.prog 47 [(V.agg [(iV m.i),(iV m.s),(aD m.nx),(aD m.ot)]),(iV s),(aH w)] (V.tup [(aH (cE m s w)),(iV (zK m s w)),(iV (frE m s w))]):=by
 refine pW Tryz.func47 aH2 fun hB=>?_
 unfold s47
 dsimp only
 refine W_r (eU (i:=3) (n:=0) (m:=4) (cs:=[(iV m.i),(iV m.s),(aD m.nx),(aD m.ot)]) rfl (cVq rfl) rfl rfl rfl (aA rfl (aA rfl (aA rfl (R_e (aB (W_r ?_)))))))
 refine bD rfl rfl rfl rfl (aA rfl (aX (aDM m s) rfl (aA rfl (R_e (aB (W_r (aA rfl ?_)))))))
 refine fB rfl rfl (R_e ?_)
 refine aJ rfl (fun c1=>?_) fun c1=>?_
 ·
  refine aB (W_r (aA rfl (aA rfl (aA rfl (aA rfl (R_e (bC ?_)))))))
  refine pP (rVq V.nilsl) (rVq (iV 0)) (rVq (iV (stE m s))) (gG ?_) (aW ?_) (aW ?_)
  · rw [cE,if_pos (by rw [frE,if_pos (by omega)]; omega)]
  · rw [zK,if_pos (by rw [frE,if_pos (by omega)]; omega)]
  · rw [frE,if_pos (by omega)]
 have hs:=aNA (m:=m) (s:=s) (by omega)
 refine aG (aB (W_r (aA rfl (bR rfl rfl (bD rfl rfl rfl rfl (aX (aDD w m.i) rfl (aA rfl ?_)))))))
 refine R_e (aB (W_r (aA rfl (fB rfl rfl (R_e ?_)))))
 refine aJ rfl (fun c2=>?_) fun c2=>?_
 ·
  refine aB (W_r (aA rfl (aA rfl (aA rfl (aA rfl (R_e (bC ?_)))))))
  refine pP (rVq V.nilsl) (rVq (iV 0)) (rVq (iV (gX w m.i))) (gG ?_) (aW ?_) (aW ?_)
  · rw [cE,if_pos (by rw [frE,if_neg (by omega)]; omega)]
  · rw [zK,if_pos (by rw [frE,if_neg (by omega)]; omega)]
  · rw [frE,if_neg (by omega)]
 have hw:=aAd (w:=w) (n:=m.i) (by omega)
 refine aG (W_r (bD rfl rfl rfl rfl (fY rfl rfl (aA rfl (fY rfl rfl (eU (i:=30) (n:=0) (m:=5) (cs:=[(iV m.i),(iV m.s),(aD m.nx),(aD m.ot),(iV s)]) rfl (cVq rfl) rfl rfl rfl (aA rfl ?_)))))))
 refine R_e (W_r (aA rfl (aA rfl (jA (bV rfl (bV rfl fP)) (aSk m s w 1 0 _ rfl (cVq rfl) hs.1 hs.2 hw.1 hw.2) (aA rfl (R_e (W_r ?_)))))))
 refine aA rfl (aA rfl (kV rfl rfl oB (bR rfl rfl (bD rfl rfl rfl rfl (aA rfl (aA rfl (aA rfl ?_)))))))
 refine R_e (bH ?_)
 refine pP (rVq (aH (eA m s w))) (rVq (iV (eJ m s w))) (rVq (iV 0)) (sA ?_ (fun _=>by simp)) (aW ?_) (aW ?_)
 · rw [cE,if_neg (by rw [frE,if_neg (by omega)]; omega)]
 · rw [zK,if_neg (by rw [frE,if_neg (by omega)]; omega)]
 · rw [frE,if_neg (by omega)]; omega
theorem zA (m:M) (w:List Int):aS Tryz.prog 23 [(V.agg [(iV m.i),(iV m.s),(aD m.nx),(aD m.ot)]),(aH w)] (V.tup [(aH (cE m m.s w)),(iV (frE m m.s w))]):=by
 refine pW Tryz.func23 aGp fun hB=>?_
 unfold s23
 dsimp only
 refine W_r (eU (i:=2) (n:=0) (m:=4) (cs:=[(iV m.i),(iV m.s),(aD m.nx),(aD m.ot)]) rfl (cVq rfl) rfl rfl rfl (aA rfl (aA rfl (R_e (W_r (bD rfl rfl rfl rfl (bR rfl rfl ?_)))))))
 refine bD rfl rfl rfl rfl (aA rfl (aX (aFU m m.s w) rfl (aA rfl (cR rfl rfl (cR rfl rfl (cR rfl rfl (aA rfl ?_)))))))
 refine aA rfl (aA rfl (R_e (W_r (aA rfl (aA rfl (aA rfl (aA rfl ?_)))))))
 refine R_e (bH ?_)
 refine lV (rVq (aH (cE m m.s w))) (rVq (iV (frE m m.s w))) (sA ?_ (fun _=>by simp)) (aW ?_)
 · rfl
 · rfl
def aTV:List SO:=[
 qM 13 6,
 qM 14 0,
 qM 15 5,
 qA 16 1 14 15,
 ql 17 16,
 qN 18 17,
 qP 19 .lss 13 18]
def aTh:List SO:=[
 qM 22 0,
 qM 23 5,
 qA 24 1 22 23,
 ql 25 24,
 qM 26 6,
 qA 27 1 25 26,
 ql 28 27,
 qM 29 1,
 qP 30 .eql 28 29]
def aMh:SC:=.seq (.seq (.reg aTV) (.cond (.t 19) (.skip) (.exit 2))) (.seq (.block 3 (.seq (.reg aTh) (.cond (.t 30) (.seq (.reg [qM 31 5,qM 4 31]) (.ret)) (.skip)))) (.reg [qM 20 6,qC 21 .add 20 1,qM 6 21]))
def aMG:SC:=.seq (.seq (.reg [qM 7 5,qM 8 0,qN 9 8,qP 10 .lss 7 9]) (.cond (.t 10) (.skip) (.exit 0))) (.seq (.block 1 (.seq (.reg [qI 6 0]) (.block 2 (.loop aMh)))) (.reg [qM 11 5,qC 12 .add 11 1,qM 5 12]))
def s24:SF:=⟨32,[.tmp 4],.seq (.reg [qI 4 0]) (.seq (.seq (.reg [qI 5 0]) (.block 0 (.loop aMG))) (.seq (.reg [sO 4 (.mv (.c (.int .i64 (-1))))]) (.ret)))⟩
theorem aRp:aM Tryz.prog ⟨[39,75,135,136,137,155,161,186,188,194,195,196,211,212,213,226,230,233,238],[],[],[]⟩ Tryz.f24=some s24:=by kernel_rfl
theorem aBt (gs:List (List Int)) (a:Int):aS Tryz.prog 24 [(aD gs),(iV a)] (iV (gpI gs a)):=by
 refine pW Tryz.func24 aRp fun hB=>?_
 unfold s24
 dsimp only
 refine W_r (aA rfl (R_e (aB (W_r (aA rfl (R_e (aE fun Q1 n1 x1 y1 z1=>?_)))))))
 refine bP (fun mm T H=> ∃ (k:Nat),mm=gs.length - k∧T 0=(aD gs)∧T 1=(iV a)∧T 5=(iV ((k:Nat):Int))∧(k≤gs.length)∧(gpI gs a=fi (fun i=>decide (a∈nth gs i)) k (gs.length - k))) ?_ ?_
 ·
  refine ⟨_,0,rfl,rfl,rfl,(eTq (rVq (iV 0)) rfl),?_,?_⟩
  · exact Nat.zero_le _
  · rfl
 intro mm T H ⟨k,hmm,t0,t1,t5,hk,hc⟩ Q2 p12 p22 p32
 unfold aMG
 refine aB (W_r (aA t5 (aA t0 (bI rfl (bO rfl rfl (R_e ?_))))))
 refine aJ rfl (fun c3=>?_) fun c3=>?_
 ·
  have hbk:=hB.2 k (by omega)
  refine aG (aE fun Q4 n4 x4 y4 z4=>(W_r (aA rfl (R_e (kA fun Q5 n5 x5 y5 z5=>?_)))))
  refine bP (fun mm T H=> ∃ (j:Nat),mm=(nth gs k).length - j∧T 0=(aD gs)∧T 1=(iV a)∧T 5=(iV ((k:Nat):Int))∧T 6=(iV ((j:Nat):Int))∧(j≤(nth gs k).length)∧(∀ q,q < j→nth (nth gs k) q≠a)) ?_ ?_
  ·
   refine ⟨_,0,rfl,t0,t1,t5,(eTq (rVq (iV 0)) rfl),?_,?_⟩
   · exact Nat.zero_le _
   · intro q hq; omega
  intro mm T H ⟨j,hmm,t0,t1,t5,t6,hj,hc2⟩ Q6 p16 p26 p36
  unfold aMh
  refine aB (W_r (aA t6 (aA t0 (aA t5 (bY (i:=k) (rVq (aD gs)) (rNq k) (by omega) rfl (aI rfl rfl (bI rfl ?_)))))))
  refine bO rfl rfl (R_e ?_)
  refine aJ rfl (fun c7=>?_) fun c7=>?_
  ·
   refine aG (aE fun Q8 n8 x8 y8 z8=>(W_r (aA t0 (aA t5 (bY (i:=k) (rVq (aD gs)) (rNq k) (by omega) rfl (aI rfl rfl (aA t6 ?_)))))))
   refine bY (i:=j) (rVq (aH (nth gs k))) (rNq j) (by omega) rfl (aI rfl rfl (aA t1 (gT rfl rfl (R_e ?_))))
   refine kI rfl (fun c9=>?_) fun c9=>?_
   ·
    have d1:=c9
    refine W_r (aA t5 (aA rfl (R_e (bH (y8 _ _ (p26 _ _ (y5 _ _ ?_)))))))
    refine y4 _ _ (p22 _ _ (y1 _ _ ?_))
    refine bS (rNq k) (aW ?_)
    · rw [hc,aDg (p:=fun i=>decide (a∈nth gs i)) (decide_eq_true (d1 ▸ aR (show j < (nth gs k).length by omega))) (by omega)]
   have d1:=c9
   refine fK (n8 _ _ (.done (W_t (aA t6 (bA rfl (rNq 1) (by omega) (aA rfl (R_e ?_)))))))
   refine p16 _ _ _ ?_ ⟨(j+1),rfl,t0,t1,t5,(eTq (rNq (j+1)) (by rfl)),?_,?_⟩
   · omega
   · omega
   · intro q hq
     by_cases e:q=j
     · subst e; exact d1
     · exact hc2 q (by omega)
  have d5:a∉nth gs k:=sZ fun q hq=>hc2 q (by omega)
  refine aP (p36 _ _ _ (x5 _ _ (n4 _ _ (.done (W_t (aA t5 (bA rfl (rNq 1) (by omega) ?_)))))))
  refine aA rfl (R_e ?_)
  refine p12 _ _ _ ?_ ⟨(k+1),rfl,t0,t1,(eTq (rNq (k+1)) (by rfl)),?_,?_⟩
  · omega
  · omega
  · rw [hc,aAi (p:=fun i=>decide (a∈nth gs i)) (decide_eq_false d5) (by omega)]
 refine aP (p32 _ _ _ (x1 _ _ (.done (W_r (aA rfl (R_e (bH ?_)))))))
 refine bS (rVq (iV (-1))) (aW ?_)
 · rw [hc,aCP (by omega)]
end Go.Proofs.YtmnnhjhkaepbaaaGreat
namespace Go.Proofs.YtmnnhjhkaepbaaaGreat
open Go
def ClS (m:M) (gs:List (List Int)) (l:List Sit) (i:Nat):Prop:= ∀ p,p < i→ ∀ a,a < m.i.toNat→aBw m gs (nth l p).1 a=false∧gN l (fN m (nth l p).1 a (gpN gs a))=true
section
variable {m:M} {gs:List (List Int)}
theorem aAm {l y:List Sit} {x:List Int} (h:gN l x=true):gN (l++y) x=true:=by
  unfold gN at h ⊢
  rw [List.any_append,h]; rfl
theorem aJ7 (l:List Sit) (y:Sit):(∃ z,adS l y=l++z)∧gN (adS l y) y.1=true:=by
  unfold adS
  split
  · rename_i h; exact ⟨⟨[],by simp⟩,h⟩
  · exact ⟨⟨[y],rfl⟩,by unfold gN; rw [List.any_append]; simp⟩
theorem aIm {x : Sit} : ∀ {n a : Nat} {l l' : List Sit}, isR m gs x n a l = .inr l' → (∃ y, l' = l ++ y) ∧ ∀ b, a ≤ b → b < a + n → aBw m gs x.1 b = false ∧ gN l' (fN m x.1 b (gpN gs b)) = true
  | 0, a, l, l', h => by
    rw [isR] at h
    cases h
    exact ⟨⟨[],by simp⟩,fun b h1 h2=>by omega⟩
  | n + 1, a, l, l', h => by
    rw [isR] at h
    split at h
    · cases h
    · rename_i hb
      obtain ⟨⟨y,hy⟩,h2⟩:=aIm h
      obtain ⟨⟨z,hz⟩,h3⟩:=aJ7 l (mN m gs x a)
      refine ⟨⟨z++y,by rw [hy,hz,List.append_assoc]⟩,fun b b1 b2=>?_⟩
      by_cases e:b=a
      · subst e
        exact ⟨by simpa using hb,by rw [hy]; exact aAm h3⟩
      · exact h2 b (by omega) (by omega)
theorem aG6 : ∀ {n i : Nat} {l : List Sit} {w : List Int}, isL m gs n i l = (w, false, 0) → i ≤ l.length → ClS m gs l i → ∃ L, (∃ y, L = l ++ y) ∧ ClS m gs L L.length
  |0,i,l,w,h,_,_=>by rw [isL] at h; cases h
  | n + 1, i, l, w, h, hi, hc => by
    rw [isL] at h
    split at h
    · rename_i hl
      split at h
      · cases h
      · split at h
        · cases h
        · rename_i l' hr
          obtain ⟨⟨y,hy⟩,h2⟩:=aIm hr
          have hc':ClS m gs l' (i+1):=fun p hp a ha=>by
            by_cases e:p=i
            · subst e
              rw [hy,bE hl]
              have:=h2 a (Nat.zero_le _) (by omega)
              rw [hy] at this
              exact this
            · obtain ⟨c1,c2⟩:=hc p (by omega) a ha
              rw [hy,bE (by omega)]
              exact ⟨c1,aAm c2⟩
          obtain ⟨L,⟨z,hz⟩,hL⟩:=aG6 h (by rw [hy,List.length_append]; omega) hc'
          exact ⟨L,⟨y++z,by rw [hz,hy,List.append_assoc]⟩,hL⟩
    · have e:i=l.length:=by omega
      subst e
      exact ⟨l,⟨[],by simp⟩,hc⟩
def aCO (m:M) (gs:List (List Int)):List Int→List Int→List Int
  |x,[]=>x
  |x,a::w=>aCO m gs (fN m x a.toNat (gpN gs a.toNat)) w
def prW (gs:List (List Int)) (g:Nat) (w:List Int):List Int:=w.filter fun a=>decide (gpN gs a.toNat=g)
theorem aIA {L:List Sit} (hL:ClS m gs L L.length): ∀ {w x:List Int},gN L x=true→(∀ a∈w,0≤a∧a < m.i)→gN L (aCO m gs x w)=true
  |[],_,h,_=>h
  | a :: w, x, h, hw => by
    have ha:=hw a (List.mem_cons_self ..)
    unfold gN at h
    rw [List.any_eq_true] at h
    obtain ⟨z,hz,e⟩:=h
    obtain ⟨p,hp,rfl⟩:=iD hz
    have e0:(nth L p).1=x:=of_decide_eq_true e
    refine aIA hL (x:=fN m x a.toNat (gpN gs a.toNat)) ?_ fun b hb=>hw b (List.mem_cons_of_mem _ hb)
    have:=(hL p hp a.toNat (by omega)).2
    rw [e0] at this
    exact this
theorem aGP {x:List Int} {a g k:Nat} (hg:g+1 < x.length):nth (fN m x a g) k=if k=0 then nth (nth m.nx (nth x 0).toNat) a else if k=g+1 then nth (nth m.nx (nth x (g+1)).toNat) a else nth x k:=by
  unfold fN
  have e1:nth (x.set 0 (nth (nth m.nx (nth x 0).toNat) a)) (g+1)=nth x (g+1):=by rw [fX (by omega),if_neg (by omega)]
  rw [e1,fX (by rw [List.length_set]; exact hg),fX (by omega)]
  by_cases h0:k=0
  · subst h0; rw [if_neg (by omega),if_pos rfl,if_pos rfl]
  · rw [if_neg h0]
    by_cases h1:k=g+1
    · subst h1; rw [if_pos rfl,if_pos rfl]
    · rw [if_neg (Ne.symm h1),if_neg (Ne.symm h0),if_neg h1]
theorem aLA {x:List Int} {a g:Nat}:(fN m x a g).length=x.length:=by unfold fN; rw [List.length_set,List.length_set]
theorem aHi (hi : 0 ≤ m.i) (hg : gsD gs m.i = true) : ∀ {w x : List Int}, x.length = gs.length + 1 → (∀ a ∈ w, 0 ≤ a ∧ a < m.i) → nth (aCO m gs x w) 0 = eJ m (nth x 0) w ∧ ∀ g, g < gs.length → nth (aCO m gs x w) (g + 1) = eJ m (nth x (g + 1)) (prW gs g w)
  |[],_,_,_=>⟨rfl,fun _ _=>rfl⟩
  | a :: w, x, hx, hw => by
    have ha:=hw a (List.mem_cons_self ..)
    obtain ⟨_,_,o3,_⟩:=qK (gs:=gs) hi hg (show a.toNat < m.i.toNat by omega)
    obtain ⟨h1,h2⟩:=aHi hi hg (w:=w) (x:=fN m x a.toNat (gpN gs a.toNat)) (by rw [aLA]; exact hx) fun b hb=>hw b (List.mem_cons_of_mem _ hb)
    refine ⟨?_,fun g hgl=>?_⟩
    · show nth (aCO m gs (fN m x a.toNat (gpN gs a.toNat)) w) 0=eJ m (cell m.nx (nth x 0) a) w
      rw [h1,aGP (by omega),if_pos rfl]; rfl
    · show nth (aCO m gs (fN m x a.toNat (gpN gs a.toNat)) w) (g+1)=_
      rw [h2 g hgl,aGP (by omega),if_neg (by omega)]
      unfold prW
      rw [List.filter_cons]
      by_cases e:gpN gs a.toNat=g
      · rw [if_pos (by rw [e]),decide_eq_true e,if_pos rfl]
        subst e; rfl
      · rw [if_neg (by omega),decide_eq_false e,if_neg (by decide)]
theorem aKZ (hm:aV m=0) (hg:gsD gs m.i=true) {u:List Int} (h:isD m gs=(u,false,0)) {w:List Int} (hw: ∀ a∈w,0≤a∧a < m.i) {a:Int} (ha:0≤a∧a < m.i):
    cell m.ot (eJ m m.s w) a=cell m.ot (eJ m m.s (prW gs (gpN gs a.toNat) w)) a:=by
  have mo:=bK hm
  unfold isD at h
  rw [if_neg (by omega),if_pos hg] at h
  obtain ⟨L,⟨y,hy⟩,hL⟩:=aG6 h (Nat.zero_le _) (fun p hp=>by omega)
  have h0:gN L (List.replicate (gs.length+1) m.s)=true:=by
    rw [hy]; exact aAm (by unfold gN is0; simp)
  have h1:=aIA hL h0 hw
  have hlen:(List.replicate (gs.length+1) m.s).length=gs.length+1:=List.length_replicate ..
  obtain ⟨_,_,o3,_⟩:=qK (gs:=gs) (by omega) hg (show a.toNat < m.i.toNat by omega)
  obtain ⟨s1,s2⟩:=aHi (by omega) hg hlen hw
  unfold gN at h1
  rw [List.any_eq_true] at h1
  obtain ⟨z,hz,e⟩:=h1
  obtain ⟨p,hp,rfl⟩:=iD hz
  have e0:(nth L p).1=aCO m gs (List.replicate (gs.length+1) m.s) w:=of_decide_eq_true e
  have hb:=(hL p hp a.toNat (by omega)).1
  unfold aBw at hb
  rw [e0,s1,s2 _ o3,aEp (by omega),aEp (by omega)] at hb
  exact Decidable.not_not.1 (of_decide_eq_false hb)
end
section
variable {m:M}
theorem aB0 (hm:aV m=0): ∀ {p:List Int} {k:Nat},k < (rch m).length→(∀ a∈p,0≤a∧a < m.i)→eA (trm m) (k:Int) p=eA m (nth (rch m) k) p
  |[],_,_,_=>rfl
  | a :: p, k, hk, hp => by
    have ha:=hp a (List.mem_cons_self ..)
    obtain ⟨q1,q2,q3,q4⟩:=jD hm hk (show a.toNat < m.i.toNat by omega)
    have o1:=pM (m:=m) (a:=a.toNat) hk
    have ih:=aB0 hm (p:=p) (k:=(dG m k a.toNat).toNat) q2 fun b hb=>hp b (List.mem_cons_of_mem _ hb)
    have e1:cell (trm m).nx (k:Int) a=(((dG m k a.toNat).toNat:Nat):Int):=by
      show nxS (trm m) (k:Int) a.toNat=_
      rw [q1]; omega
    show cell (trm m).ot (k:Int) a::eA (trm m) (cell (trm m).nx (k:Int) a) p=cell m.ot (nth (rch m) k) a::eA m (cell m.nx (nth (rch m) k) a) p
    rw [e1,ih]
    have e2:nth (rch m) (dG m k a.toNat).toNat=cell m.nx (nth (rch m) k) a:=q4
    have e3:cell (trm m).ot (k:Int) a=cell m.ot (nth (rch m) k) a:=o1
    rw [e2,e3]
theorem aEA (hm:aV m=0): ∀ {p:List Int} {k:Nat},k < (rch m).length→(∀ a∈p,0≤a∧a < m.i)→eA (mnM m) (nmf (cRc m) k) p=eA m (nth (rch m) k) p
  |[],_,_,_=>rfl
  | a :: p, k, hk, hp => by
    have ha:=hp a (List.mem_cons_self ..)
    have rc:=iA hm
    obtain ⟨l1,l2,_⟩:=cF (cRc m) k
    have hk':lsf (cRc m) k < (rch m).length:=by omega
    have r1:=rc.rng k hk
    have r2:=rc.rng (lsf (cRc m) k) hk'
    obtain ⟨f1,f2⟩:=aLR (m:=m) hk' (jU (f:=cRc m) (s:=k))
    have en:nmf (cRc m) k=((cnf (cRc m) (lsf (cRc m) k):Nat):Int):=rfl
    have ec:cCl m (nth (rch m) (lsf (cRc m) k))=cCl m (nth (rch m) k):=by
      exact (List.cons.inj (show [cCl m (nth (rch m) (lsf (cRc m) k))]=[cCl m (nth (rch m) k)] from l2)).1
    have ev:=(tM hm r2 r1).1 ec
    have es:=aBz hm r2 r1 ev (show a.toNat < m.i.toNat by omega)
    obtain ⟨q1,q2,q3,q4⟩:=jD hm hk (show a.toNat < m.i.toNat by omega)
    obtain ⟨t1,t2,t3,t4⟩:=jD hm hk' (show a.toNat < m.i.toNat by omega)
    have rowN:nth (mnM m).nx (cnf (cRc m) (lsf (cRc m) k))=lO m (lsf (cRc m) k):=by
      show nth ((FK m (rch m).length).map (lO m)) _=_
      rw [eP f1,f2]
    have rowO:nth (mnM m).ot (cnf (cRc m) (lsf (cRc m) k))=tOt m (lsf (cRc m) k):=by
      show nth ((FK m (rch m).length).map (tOt m)) _=_
      rw [eP f1,f2]
    have e1:cell (mnM m).nx (nmf (cRc m) k) a=nmf (cRc m) (dG m k a.toNat).toNat:=by
      unfold cell
      rw [en,Int.toNat_natCast,rowN]
      unfold lO
      rw [aY (by omega)]
      refine lM.2 ?_
      have n1:=rc.rng _ q2
      have n2:=rc.rng _ t2
      have:=aCp hm _ _ r2.1 r2.2 r1.1 r1.2 ec a.toNat (by omega)
      rw [← q4,← t4] at this
      show [cCl m (nth (rch m) (dG m (lsf (cRc m) k) a.toNat).toNat)]=[cCl m (nth (rch m) (dG m k a.toNat).toNat)]
      rw [this]
    have e2:cell (mnM m).ot (nmf (cRc m) k) a=cell m.ot (nth (rch m) k) a:=by
      unfold cell
      rw [en,Int.toNat_natCast,rowO]
      unfold tOt
      rw [aY (by omega)]
      exact es.1
    show cell (mnM m).ot (nmf (cRc m) k) a::eA (mnM m) (cell (mnM m).nx (nmf (cRc m) k) a) p=cell m.ot (nth (rch m) k) a::eA m (cell m.nx (nth (rch m) k) a) p
    have ih:=aEA hm (p:=p) q2 fun b hb=>hp b (List.mem_cons_of_mem _ hb)
    have e3:nth (rch m) (dG m k a.toNat).toNat=cell m.nx (nth (rch m) k) a:=q4
    rw [e1,e2,ih,e3]
theorem aGX (hm:aV m=0) {p:List Int} (hp: ∀ a∈p,0≤a∧a < m.i):eA (mnR m) 0 p=eA m m.s p:=by
  have rc:=iA hm
  have h:=aEA hm (p:=p) (k:=0) rc.pos hp
  have e:nmf (cRc m) 0=0:=by
    have l1:=(cF (cRc m) 0).1
    have:lsf (cRc m) 0=0:=by omega
    unfold nmf; rw [this]; rfl
  rw [e,rc.first] at h
  unfold mnR
  rw [if_pos hm]
  exact h
theorem aEG (hm:aV m=0) {ins:List Int} (hv:rsV m ins): ∀ {p:List Int} {s:Int},0≤s∧s < m.nx.length→(∀ a∈p,0≤a∧a < (ins.length:Nat))→eA (rsM m ins) s p=eA m s (p.map fun k=>nth ins k.toNat)
  |[],_,_,_=>rfl
  | a :: p, s, hs, hp => by
    have mo:=bK hm
    have ha:=hp a (List.mem_cons_self ..)
    have hi:=hv.2.2 a.toNat (by omega)
    have rr:=(mo.2.2.2.2.2.2.2 s.toNat (by omega)).2.2 (nth ins a.toNat).toNat (by omega)
    have e1:cell (rsM m ins).nx s a=cell m.nx s (nth ins a.toNat):=aMl (by omega) (by omega)
    have e2:cell (rsM m ins).ot s a=cell m.ot s (nth ins a.toNat):=aLW (by omega) (by omega)
    show cell (rsM m ins).ot s a::eA (rsM m ins) (cell (rsM m ins).nx s a) p=cell m.ot s (nth ins a.toNat)::eA m (cell m.nx s (nth ins a.toNat)) (p.map fun k=>nth ins k.toNat)
    rw [e1,e2,aEG hm hv (s:=cell m.nx s (nth ins a.toNat)) ⟨rr.1,rr.2.1⟩ fun b hb=>hp b (List.mem_cons_of_mem _ hb)]
end
theorem aJb {m:M} {gs:List (List Int)} {k:Nat} (hm:aV m=0) (hv:rsV m (nth gs k)) {p:List Int} (hp: ∀ a∈p,0≤a∧a < ((nth gs k).length:Nat)):eA (fcM m gs k) 0 p=eA m m.s (p.map fun j=>nth (nth gs k) j.toNat):=by
  have mo:=bK hm
  have hR:=zT hm hv
  have rc:=iA hR
  unfold fcM
  have hi:(trR (rsM m (nth gs k))).i=((nth gs k).length:Nat):=by rw [lZ hR]; rfl
  rw [aGX (tP hR) (by rw [hi]; exact hp),lZ hR]
  have:=aB0 hR (p:=p) (k:=0) rc.pos hp
  rw [rc.first] at this
  rw [show (trm (rsM m (nth gs k))).s=((0:Nat):Int) from rfl,this]
  exact aEG hm hv ⟨by show 0≤m.s; omega,by show m.s < m.nx.length; omega⟩ hp
def iS (ins:List Int) (a:Int) (j:Nat):List Int:=((List.range j).filter fun k=>decide (nth ins k=a)).map fun k:Nat=>(k:Int)
def dH (ins:List Int):List Int→List Int
  |[]=>[]
  |a::w=>iS ins a ins.length++dH ins w
theorem aBM (ins:List Int): ∀ (u v:List Int),dH ins (u++v)=dH ins u++dH ins v
  |[],_=>rfl
  |a::u,v=>by rw [List.cons_append,dH,dH,aBM ins u v,List.append_assoc]
theorem aAb {ins:List Int} {a:Int} {j:Nat}:iS ins a (j+1)=if nth ins j=a then iS ins a j++[(j:Int)] else iS ins a j:=by
  unfold iS
  rw [List.range_succ,List.filter_append,List.map_append]
  by_cases h:nth ins j=a
  · rw [if_pos h]; simp [h]
  · rw [if_neg h]; simp [h]
theorem aLC {ins w:List Int} {i:Nat} (hi:i < w.length):dH ins (w.take (i+1))=dH ins (w.take i)++iS ins (nth w i) ins.length:=by
  rw [bG hi,aBM]
  show _++(iS ins (nth w i) ins.length++[])=_
  rw [List.append_nil]
theorem aIj {ins:List Int} {a:Int} {j:Nat}: ∀ k∈iS ins a j,0≤k∧k < (j:Nat):=by
  intro k hk
  unfold iS at hk
  obtain ⟨q,hq,rfl⟩:=List.mem_map.1 hk
  have:=List.mem_range.1 (List.mem_filter.1 hq).1
  omega
theorem aBQ {ins:List Int}: ∀ {w:List Int},∀ k∈dH ins w,0≤k∧k < (ins.length:Nat)
  |[],k,h=>by cases h
  | a :: w, k, h => by
    rcases List.mem_append.1 h with h|h
    · exact aIj k h
    · exact aBQ k h
theorem aCh {ins:List Int} {a:Int} (hn:ins.Nodup): ∀ {j:Nat},j≤ins.length→(iS ins a j).map (fun k=>nth ins k.toNat)=if a∈ins.take j then [a] else []
  |0,_=>by simp [iS]
  | j + 1, hj => by
    have ih:=aCh hn (a:=a) (j:=j) (by omega)
    rw [aAb,bG (by omega)]
    by_cases h:nth ins j=a
    · rw [if_pos h,List.map_append,ih]
      have nt:=aEe (show j < ins.length by omega) hn
      rw [h] at nt
      rw [if_neg nt,if_pos (by rw [h]; simp)]
      show [nth ins ((j:Nat):Int).toNat]=[a]
      rw [Int.toNat_natCast,h]
    · rw [if_neg h, ih]
      by_cases q:a∈ins.take j
      · rw [if_pos q,if_pos (List.mem_append_left _ q)]
      · rw [if_neg q,if_neg fun z=>by
          rcases List.mem_append.1 z with z|z
          · exact q z
          · rw [List.mem_singleton] at z; exact h z.symm]
theorem aCs {ins:List Int} (hn:ins.Nodup): ∀ (w:List Int),(dH ins w).map (fun k=>nth ins k.toNat)=w.filter fun a=>decide (a∈ins)
  |[]=>rfl
  | a :: w => by
    rw [dH,List.map_append,aCh hn (Nat.le_refl _),List.take_length,aCs hn w,List.filter_cons]
    by_cases h:a∈ins
    · rw [if_pos h,decide_eq_true h,if_pos rfl]; rfl
    · rw [if_neg h,decide_eq_false h,if_neg (by decide)]; rfl
theorem aPk {m:M} {gs:List (List Int)} (hi:0≤m.i) (hp:gsP gs m.i) {a:Int} (ha:0≤a∧a < m.i) {g:Nat} (hg:g < gs.length):a∈nth gs g↔gpN gs a.toNat=g:=by
  have h0:=hp.2.2 a ha.1 ha.2
  obtain ⟨j,j1,_,j3,j4,j5⟩:=gQ (p:=fun i=>decide (a∈nth gs i)) (k:=0) (n:=gs.length) h0
  have e:gpN gs a.toNat=j:=by
    unfold gpN
    rw [Int.toNat_of_nonneg ha.1,show gpI gs a=((j:Nat):Int) from j1]; omega
  rw [e]
  constructor
  · intro hm
    obtain ⟨⟨_,h2,_⟩,_⟩:=(aEj hi).2 hp
    refine Classical.byContradiction fun hne=>?_
    have hlt:j < g:=by
      refine Nat.lt_of_le_of_ne (Nat.le_of_not_lt fun z=>?_) hne
      have:=j5 g (Nat.zero_le _) z
      simp [hm] at this
    have hd:=(List.pairwise_flatten.1 h2).2
    have:=List.pairwise_iff_getElem.1 hd j g (by omega) hg hlt
    have c1:gs[j]'(by omega)=nth gs j:=by unfold nth; rw [List.getD_eq_getElem?_getD,List.getElem?_eq_getElem (by omega)]; rfl
    have c2:gs[g]'hg=nth gs g:=by unfold nth; rw [List.getD_eq_getElem?_getD,List.getElem?_eq_getElem hg]; rfl
    rw [c1,c2] at this
    exact this _ (of_decide_eq_true j4) _ hm rfl
  · intro h; subst h; exact of_decide_eq_true j4
theorem aPY {m:M} {gs:List (List Int)} (hi:0≤m.i) (hp:gsP gs m.i) {g:Nat} (hg:g < gs.length) {w:List Int} (hw: ∀ a∈w,0≤a∧a < m.i):(dH (nth gs g) w).map (fun k=>nth (nth gs g) k.toNat)=prW gs g w:=by
  obtain ⟨⟨_,h2,_⟩,_⟩:=(aEj hi).2 hp
  have hn:(nth gs g).Nodup:=(List.sublist_flatten_of_mem (aR hg)).nodup h2
  rw [aCs hn]
  unfold prW
  refine List.filter_congr fun a ha=>?_
  exact decide_eq_decide.2 (aPk hi hp (hw a ha) hg)
end Go.Proofs.YtmnnhjhkaepbaaaGreat
namespace Go.Proofs.YtmnnhjhkaepbaaaGreat
open Go
theorem aNU {m:M} (hm:aV m=0):aV (mnM m)=0:=by
  have mo:=bK hm
  have rc:=iA hm
  obtain ⟨h1,h2,h3,h4,h5,h6,h7,h8⟩:=mo
  have n0:0 < cnf (cRc m) (rch m).length:=by
    have:=(aBf (f:=cRc m) rc.pos)
    omega
  have n1:=rU (f:=cRc m) (rch m).length
  have n2:=aHd hm
  have e1:(mnM m).i=m.i:=rfl
  have e2:(mnM m).nx.length=cnf (cRc m) (rch m).length:=by show ((FK m (rch m).length).map (lO m)).length=_; rw [List.length_map,mS]
  have e3:(mnM m).ot.length=cnf (cRc m) (rch m).length:=by show ((FK m (rch m).length).map (tOt m)).length=_; rw [List.length_map,mS]
  have e4:(mnM m).s=0:=rfl
  unfold aV
  rw [e1,e2,e3,e4]
  rw [if_neg (by omega),if_neg (by omega),if_neg (by omega),if_neg (by omega),if_neg (by omega)]
  refine cU.2 fun s _ hs=>?_
  have hs':s < (FK m (rch m).length).length:=by rw [mS]; omega
  obtain ⟨k1,k2⟩:=aQ8.1 (aR hs')
  have e5:nth (mnM m).nx s=lO m (nth (FK m (rch m).length) s):=eP hs'
  have e6:nth (mnM m).ot s=tOt m (nth (FK m (rch m).length) s):=eP hs'
  have e7:(lO m (nth (FK m (rch m).length) s)).length=m.i.toNat:=aU _ _
  have e8:(tOt m (nth (FK m (rch m).length) s)).length=m.i.toNat:=aU _ _
  unfold wT
  rw [e1,e5,e6,e7,e8]
  rw [if_neg (by omega)]
  refine cU.2 fun a _ ha=>?_
  obtain ⟨q1,q2,q3,q4⟩:=jD hm k1 (show a < m.i.toNat by omega)
  have rk:=rc.rng _ k1
  have cr:=(h8 (nth (rch m) (nth (FK m (rch m).length) s)).toNat (by omega)).2.2 a (by omega)
  have e9:nth (lO m (nth (FK m (rch m).length) s)) a=nmf (cRc m) (dG m (nth (FK m (rch m).length) s) a).toNat:=aY (by omega)
  have e10:nth (tOt m (nth (FK m (rch m).length) s)) a=nth (nth m.ot (nth (rch m) (nth (FK m (rch m).length) s)).toNat) a:=aY (by omega)
  have nl:=aBf (f:=cRc m) q2
  unfold aAT
  rw [e2,e5,e6,e9,e10]
  rw [if_neg (by omega)]
theorem aKn {m:M} (hm:aV m=0):aV (mnR m)=0:=by unfold mnR; rw [if_pos hm]; exact aNU hm
theorem aSj {m:M}:(mnR m).s=0:=by
  unfold mnR
  split <;> rfl
theorem aTT {m:M} (hm:aV m=0):(mnR m).i=m.i:=by unfold mnR; rw [if_pos hm]; rfl
theorem aCd {A:List Int} {x:Int}:nth (A++[x]) (((((A++[x]).length:Nat):Int) - 1).toNat)=x:=by
  have e:((((A++[x]).length:Nat):Int) - 1).toNat=A.length+0:=by rw [List.length_append]; simp
  rw [e,eX]; rfl
def LW (w:List Int):Int:=nth w ((((w.length:Nat):Int) - 1).toNat)
theorem aGk {m:M} {gs:List (List Int)} {w:List Int} (h1:fcE m gs=0) (h2:frE m m.s w=0) (hw:w.length≠0) (hw2:w.length≤60):
    aV m=0∧gsP gs m.i∧(cE m m.s w).length=w.length∧(fcL m gs).length=gs.length∧0≤gpI gs (LW w)∧(gpI gs (LW w)).toNat < gs.length∧rsV m (nth gs (gpI gs (LW w)).toNat)∧
    frE (nth (fcL m gs) (gpI gs (LW w)).toNat) (nth (fcL m gs) (gpI gs (LW w)).toNat).s (dH (nth gs (gpI gs (LW w)).toNat) w)=0∧
    0 < (cE (nth (fcL m gs) (gpI gs (LW w)).toNat) (nth (fcL m gs) (gpI gs (LW w)).toNat).s (dH (nth gs (gpI gs (LW w)).toNat) w)).length∧
    LW (cE (nth (fcL m gs) (gpI gs (LW w)).toNat) (nth (fcL m gs) (gpI gs (LW w)).toNat).s (dH (nth gs (gpI gs (LW w)).toNat) w))=LW (cE m m.s w)∧
    (dH (nth gs (gpI gs (LW w)).toNat) w).length≤60:=by
  have hF:fcL m gs=tbl (fcM m gs) gs.length:=by unfold fcL; rw [if_pos h1]
  have d0:(isD m gs).2.2=0:=by
    unfold fcE at h1
    by_cases q:(isD m gs).2.2≠0
    · rw [if_pos q] at h1; exact absurd h1 q
    · omega
  have d1:(isD m gs).2.1=false:=by
    unfold fcE at h1
    rw [if_neg (by omega)] at h1
    cases z:(isD m gs).2.1 with
    |false=>rfl
    |true=>rw [z] at h1; simp at h1
  have dD:isD m gs=((isD m gs).1,false,0):=Prod.ext rfl (Prod.ext d1 d0)
  obtain ⟨hm,hp⟩:=aMu d0
  have mo:=bK hm
  have hgD:gsD gs m.i=true:=(aLZ (by omega)).2 hp
  have hwc:gX w m.i=0:=by rw [← aA6 hm]; exact h2
  have wok:=aAd hwc
  obtain ⟨_,f2,_,_⟩:=aH1 hm hwc
  -- the last input
  have wm: ∀ a∈w,0≤a∧a < m.i:=fun a ha=>by obtain ⟨k,hk,rfl⟩:=iD ha; exact wok.2 k hk
  obtain ⟨u,hu⟩: ∃ u,w=u++[LW w]:=by
    refine ⟨w.take (w.length - 1),?_⟩
    have e:(((w.length:Nat):Int) - 1).toNat=w.length - 1:=by omega
    unfold LW
    rw [e,← bG (show w.length - 1 < w.length by omega),show w.length - 1+1=w.length by omega,List.take_length]
  have la:0≤LW w∧LW w < m.i:=wm _ (aR (show (((w.length:Nat):Int) - 1).toNat < w.length by omega))
  have g0:=hp.2.2 (LW w) la.1 la.2
  have eg:(gpI gs (LW w)).toNat=gpN gs (LW w).toNat:=by unfold gpN; rw [Int.toNat_of_nonneg la.1]
  obtain ⟨_,_,o3,_⟩:=qK (gs:=gs) (by omega) hgD (show (LW w).toNat < m.i.toNat by omega)
  rw [eg]
  have hv:=aIp hm hp o3
  have hR:=zT hm hv
  have hl:=wV hm hv
  have eF:nth (fcL m gs) (gpN gs (LW w).toNat)=fcM m gs (gpN gs (LW w).toNat):=by rw [hF]; exact aY o3
  have vF:aV (fcM m gs (gpN gs (LW w).toNat))=0:=aKn (tP hR)
  have iF:(fcM m gs (gpN gs (LW w).toNat)).i=((nth gs (gpN gs (LW w).toNat)).length:Nat):=by
    unfold fcM; rw [aTT (tP hR),lZ hR]; rfl
  have sF:(fcM m gs (gpN gs (LW w).toNat)).s=0:=aSj
  have pm:=aPY (by omega) hp o3 wm
  have pl:(dH (nth gs (gpN gs (LW w).toNat)) w).length≤w.length:=by
    have e:=congrArg List.length pm
    rw [List.length_map] at e
    rw [e]
    exact List.length_filter_le _ _
  have pr: ∀ a∈dH (nth gs (gpN gs (LW w).toNat)) w,0≤a∧a < ((nth gs (gpN gs (LW w).toNat)).length:Nat):=fun a ha=>aBQ a ha
  have pc:gX (dH (nth gs (gpN gs (LW w).toNat)) w) (fcM m gs (gpN gs (LW w).toNat)).i=0:=by
    rw [iF]
    exact aFF (by omega) (by omega) fun k hk=>pr _ (aR hk)
  obtain ⟨_,p2,_,_⟩:=aH1 vF pc
  have oF:cE (fcM m gs (gpN gs (LW w).toNat)) (fcM m gs (gpN gs (LW w).toNat)).s (dH (nth gs (gpN gs (LW w).toNat)) w)=eA m m.s (prW gs (gpN gs (LW w).toNat) w):=by
    rw [p2,sF,aJb hm hv pr,pm]
  have wu: ∀ a∈u,0≤a∧a < m.i:=fun a ha=>wm a (by rw [hu]; exact List.mem_append_left _ ha)
  have gen: ∀ (a:Int) (g:Nat),gpN gs a.toNat=g→prW gs g (u++[a])=prW gs g u++[a]:=fun a g e=>by
    unfold prW
    rw [List.filter_append,List.filter_cons,decide_eq_true e]; rfl
  have pu:prW gs (gpN gs (LW w).toNat) w=prW gs (gpN gs (LW w).toNat) u++[LW w]:=(congrArg (prW gs (gpN gs (LW w).toNat)) hu).trans (gen _ _ rfl)
  have last: ∀ (v:List Int) (a:Int),eA m m.s (v++[a])=eA m m.s v++[cell m.ot (eJ m m.s v) a]:=fun v a=>by rw [iO]; rfl
  have io:=aKZ hm hgD dD wu la
  rw [eF]
  refine ⟨hm,hp,by rw [f2,kO],by rw [hF,aU],g0,o3,hv,by rw [aA6 vF]; exact pc,?_,?_,by omega⟩
  · rw [oF,kO,pu,List.length_append]; simp
  · rw [oF,pu,last]
    have ew:cE m m.s w=eA m m.s u++[cell m.ot (eJ m m.s u) (LW w)]:=by
      rw [f2]; conv=>lhs; rw [hu]
      exact last u (LW w)
    rw [ew]
    unfold LW
    rw [aCd,aCd]
    exact io.symm
theorem aBY {ins:List Int} {a:Int} {j:Nat}:(iS ins a j).length≤j:=by
  unfold iS
  rw [List.length_map]
  exact Nat.le_trans (List.length_filter_le _ _) (by simp)
theorem aBj {ins:List Int} (h:ins.length≤64): ∀ {w:List Int},(dH ins w).length≤64*w.length
  |[]=>Nat.zero_le _
  | a :: w => by
    have h1:=aBY (ins:=ins) (a:=a) (j:=ins.length)
    have h2:=aBj h (w:=w)
    rw [dH,List.length_append,List.length_cons]
    omega
theorem aFZ {m:M} {s:Int} {w:List Int}:(cE m s w).length≤w.length:=by
  unfold cE
  split
  · exact Nat.zero_le _
  · rw [kO]; exact Nat.le_refl _
end Go.Proofs.YtmnnhjhkaepbaaaGreat
namespace Go.Proofs.YtmnnhjhkaepbaaaGreat
open Go Go.Proofs
theorem aFi (m:M) (gs:List (List Int)) (w:List Int):aS Tryz.prog 6 [(V.agg [(iV m.i),(iV m.s),(aD m.nx),(aD m.ot)]),(aD gs),(aH w)] (V.bool true):=by
 refine pW Tryz.func6 aSp fun hB=>?_
 unfold s6
 dsimp only
 refine W_r (eU (i:=3) (n:=0) (m:=4) (cs:=[(iV m.i),(iV m.s),(aD m.nx),(aD m.ot)]) rfl (cVq rfl) rfl rfl rfl (aA rfl (R_e (aB (W_r (bD rfl rfl rfl rfl (aX (zR m) rfl ?_)))))))
 refine aA rfl ?_
 refine cC 4 (fun T H=>T 1=(aD gs)∧T 2=(aH w)∧T 3=(mPq 3)∧T 23=(V.bool ((ggr m)||decide ((4:Int) < ((gs.length:Nat):Int))))∧H 3=(bMq m)∧H 12=bZq∧True) ?_ ?_
 ·
  by_cases g1:(ggr m)=true
  ·
   refine G_n (ebT g1 rfl) (G_n (ebT g1 rfl) (G_n (ebT g1 rfl) (bZ (ebT g1 rfl) rfl ?_)))
   exact ⟨rfl,rfl,rfl,(aC7 g1),rfl,rfl,trivial⟩
  ·
   refine aT (ebF g1 rfl) (aA rfl (aT (ebF g1 rfl) (bI rfl (aT (ebF g1 rfl) (jV rfl rfl (cD (ebF g1 rfl) rfl ?_))))))
   exact ⟨rfl,rfl,rfl,(aDx g1),rfl,rfl,trivial⟩
 intro T H ⟨t1,t2,t3,t23,h3,h12,_⟩
 refine aA t23 ?_
 refine cC 4 (fun T H=>T 1=(aD gs)∧T 2=(aH w)∧T 3=(mPq 3)∧T 28=(V.bool (((ggr m)||decide ((4:Int) < ((gs.length:Nat):Int)))||decide ((60:Int) < ((w.length:Nat):Int))))∧H 3=(bMq m)∧H 12=bZq∧True) ?_ ?_
 ·
  by_cases g2:((ggr m)||decide ((4:Int) < ((gs.length:Nat):Int)))=true
  ·
   have g2x:=g2
   try simp only [Bool.and_eq_true,Bool.or_eq_true,Bool.not_eq_true',decide_eq_true_eq] at g2x
   refine G_n (ebT g2 rfl) (G_n (ebT g2 rfl) (G_n (ebT g2 rfl) (bZ (ebT g2 rfl) rfl ?_)))
   exact ⟨t1,t2,t3,(aC7 g2),h3,h12,trivial⟩
  ·
   have g2x:=g2
   try simp only [Bool.and_eq_true,Bool.or_eq_true,Bool.not_eq_true',decide_eq_true_eq] at g2x
   refine aT (ebF g2 rfl) (aA t2 (aT (ebF g2 rfl) (bI rfl (aT (ebF g2 rfl) (jV rfl rfl (cD (ebF g2 rfl) rfl ?_))))))
   exact ⟨t1,t2,t3,(aDx g2),h3,h12,trivial⟩
 intro T H ⟨t1,t2,t3,t28,h3,h12,_⟩
 refine aA t28 ?_
 refine cC 4 (fun T H=>T 1=(aD gs)∧T 2=(aH w)∧T 3=(mPq 3)∧T 33=(V.bool ((((ggr m)||decide ((4:Int) < ((gs.length:Nat):Int)))||decide ((60:Int) < ((w.length:Nat):Int)))||decide (((w.length:Nat):Int)=(0:Int))))∧H 3=(bMq m)∧H 12=bZq∧True) ?_ ?_
 ·
  by_cases g3:(((ggr m)||decide ((4:Int) < ((gs.length:Nat):Int)))||decide ((60:Int) < ((w.length:Nat):Int)))=true
  ·
   have g3x:=g3
   try simp only [Bool.and_eq_true,Bool.or_eq_true,Bool.not_eq_true',decide_eq_true_eq] at g3x
   refine G_n (ebT g3 rfl) (G_n (ebT g3 rfl) (G_n (ebT g3 rfl) (bZ (ebT g3 rfl) rfl ?_)))
   exact ⟨t1,t2,t3,(aC7 g3),h3,h12,trivial⟩
  ·
   have g3x:=g3
   try simp only [Bool.and_eq_true,Bool.or_eq_true,Bool.not_eq_true',decide_eq_true_eq] at g3x
   refine aT (ebF g3 rfl) (aA t2 (aT (ebF g3 rfl) (bI rfl (aT (ebF g3 rfl) (gT rfl rfl (cD (ebF g3 rfl) rfl ?_))))))
   exact ⟨t1,t2,t3,(aDx g3),h3,h12,trivial⟩
 intro T H ⟨t1,t2,t3,t33,h3,h12,_⟩
 refine R_e ?_
 refine dR t33 (fun c4=>?_) (fun c4=>?_)
 ·
  refine aB (W_r (aX dV rfl (aA rfl (R_e (bC ?_)))))
  refine bS (rVq (V.bool true)) (eD (by simp) rfl)
 have hz:=c4
 have hg:gs.length≤4:=by have z:=hz; simp only [Bool.or_eq_false_iff,decide_eq_false_iff_not] at z; omega
 have hw1:w.length≤60:=by have z:=hz; simp only [Bool.or_eq_false_iff,decide_eq_false_iff_not] at z; omega
 have hw0:w.length≠0:=by have z:=hz; simp only [Bool.or_eq_false_iff,decide_eq_false_iff_not] at z; omega
 refine aG (W_r (bD t3 h3 rfl rfl (aA t1 (aX (aFM m gs hg) rfl (aA rfl (cR rfl rfl (cR rfl rfl ?_)))))))
 refine aA rfl (aA rfl (R_e (W_r (bD t3 h3 rfl rfl (aA t2 (aX (zA m w) rfl (aA rfl ?_)))))))
 refine cR rfl rfl (cR rfl rfl (aA rfl (aA rfl (R_e (aB (W_r (aA rfl ?_)))))))
 refine fB rfl rfl (aA rfl ?_)
 refine cC 3 (fun T H=>T 1=(aD gs)∧T 2=(aH w)∧T 7=(V.sl (List.map mC (fcL m gs)))∧T 9=(aH (cE m m.s w))∧T 52=(V.bool (decide (((fcE m gs)≠(0:Int))∨((frE m m.s w)≠(0:Int)))))∧H 3=(bMq m)∧H 12=bZq∧True) ?_ ?_
 ·
  by_cases g5:(fcE m gs)≠(0:Int)
  ·
   refine G_n (edT g5 rfl) (G_n (edT g5 rfl) (bZ (edT g5 rfl) rfl ?_))
   exact ⟨t1,t2,rfl,rfl,(eQ g5),h3,h12,trivial⟩
  ·
   refine aT (edF g5 rfl) (aA rfl (aT (edF g5 rfl) (fB rfl rfl (cD (edF g5 rfl) rfl ?_))))
   exact ⟨t1,t2,rfl,rfl,(eO g5),h3,h12,trivial⟩
 intro T H ⟨t1,t2,t7,t9,t52,h3,h12,_⟩
 refine R_e ?_
 refine aJ t52 (fun c6=>?_) fun c6=>?_
 ·
  refine aB (W_r (aX dV rfl (aA rfl (R_e (bC ?_)))))
  refine bS (rVq (V.bool true)) (eD (by simp) rfl)
 have hy:=c6
 have key:=aGk (m:=m) (gs:=gs) (w:=w) (by omega) (by omega) hw0 hw1
 simp only [LW] at key
 obtain ⟨k1,k2,k3,k4,k5,k6,k7,k8,k9,k10,k11⟩:=key
 have hl:=wV k1 k7
 refine aG (aB (W_r (aA t9 (bI rfl (aA t2 (bI rfl (fB rfl rfl ?_)))))))
 refine aA rfl ?_
 refine cC 6 (fun T H=>T 1=(aD gs)∧T 2=(aH w)∧T 7=(V.sl (List.map mC (fcL m gs)))∧T 9=(aH (cE m m.s w))∧T 65=(V.bool (decide (((((cE m m.s w).length:Nat):Int)≠((w.length:Nat):Int))∨((((fcL m gs).length:Nat):Int)≠((gs.length:Nat):Int)))))∧H 3=(bMq m)∧H 12=bZq∧True) ?_ ?_
 ·
  by_cases g7:(((cE m m.s w).length:Nat):Int)≠((w.length:Nat):Int)
  ·
   refine G_n (edT g7 rfl) (G_n (edT g7 rfl) (G_n (edT g7 rfl) (G_n (edT g7 rfl) (G_n (edT g7 rfl) (bZ (edT g7 rfl) rfl ?_)))))
   exact ⟨t1,t2,t7,t9,(eQ g7),h3,h12,trivial⟩
  ·
   refine aT (edF g7 rfl) (aA t7 (aT (edF g7 rfl) (bI rfl (aT (edF g7 rfl) (aA t1 (aT (edF g7 rfl) (bI rfl ?_)))))))
   refine aT (edF g7 rfl) (fB rfl rfl (cD (edF g7 rfl) rfl ?_))
   exact ⟨t1,t2,t7,t9,(eO g7),h3,h12,trivial⟩
 intro T H ⟨t1,t2,t7,t9,t65,h3,h12,_⟩
 refine R_e ?_
 refine aJ t65 (fun c8=>?_) fun c8=>?_
 · exfalso; have z:=c8; first|omega|(simp [k3,k4] at z)
 refine aG (W_r (aA t1 (aA t2 (aA t2 (bI rfl (uJ rfl rfl (by omega) (by omega) (dX (i:=(((w.length:Nat):Int) - (1:Int))) (rVq (aH w)) (rVq (iV (((w.length:Nat):Int) - (1:Int)))) (by omega) (by omega) rfl ?_)))))))
 refine aI rfl rfl (aX (aBt gs (nth w (((w.length:Nat):Int) - (1:Int)).toNat)) rfl (aA rfl (R_e (aB (W_r (aA rfl (bO rfl rfl ?_)))))))
 refine R_e ?_
 refine aJ rfl (fun c9=>?_) fun c9=>?_
 · exfalso; have z:=c9; omega
 refine aG (W_r (fF (i:=12) (n:=0) rfl (cVq h12) (R_e (aB (W_r (aA rfl (R_e ?_)))))))
 refine aE fun Q10 n10 x10 y10 z10=>?_
 refine bP (fun mm T H=> ∃ (i:Nat) (v:Nat),mm=w.length - i∧T 1=(aD gs)∧T 2=(aH w)∧T 7=(V.sl (List.map mC (fcL m gs)))∧T 9=(aH (cE m m.s w))∧T 11=(iV (gpI gs (nth w (((w.length:Nat):Int) - (1:Int)).toNat)))∧T 12=(V.ms 12 v 0 ((dH (nth gs (gpI gs (nth w ((((w.length:Nat):Int) - 1).toNat))).toNat) (w.take i)).length))∧T 13=(iV ((i:Nat):Int))∧H 3=(bMq m)∧H 12=(bz v 3 1 (List.map cI (dH (nth gs (gpI gs (nth w ((((w.length:Nat):Int) - 1).toNat))).toNat) (w.take i))))∧(i≤w.length)) ?_ ?_
 ·
  refine ⟨_,0,1,rfl,t1,t2,t7,t9,rfl,(eTq (rVq (V.ms 12 1 0 0)) (by rfl)),(eTq (rVq (iV 0)) rfl),h3,(eTq (@rfl Blk (bz 1 3 1 [])) (by rfl)),?_⟩
  · exact Nat.zero_le _
 intro mm T H ⟨i,v,hmm,t1,t2,t7,t9,t11,t12,t13,h3,h12,hi⟩ Q11 p111 p211 p311
 unfold aT5
 refine aB (W_r (aA t13 (aA t2 (bI rfl (bO rfl rfl (R_e ?_))))))
 refine aJ rfl (fun c12=>?_) fun c12=>?_
 ·
  have la1:=aBj hl.1 (w:=w.take i)
  have la3:(w.take i).length≤60:=by rw [List.length_take]; omega
  have pj0:dH (nth gs (gpI gs (nth w ((((w.length:Nat):Int) - 1).toNat))).toNat) (w.take i)++iS (nth gs (gpI gs (nth w ((((w.length:Nat):Int) - 1).toNat))).toNat) (nth w i) 0=dH (nth gs (gpI gs (nth w ((((w.length:Nat):Int) - 1).toNat))).toNat) (w.take i):=List.append_nil _
  refine aG (aE fun Q13 n13 x13 y13 z13=>(W_r (aA rfl (R_e (kA fun Q14 n14 x14 y14 z14=>?_)))))
  refine bP (fun mm T H=> ∃ (k:Nat) (v2:Nat),mm=(nth gs (gpI gs (nth w ((((w.length:Nat):Int) - 1).toNat))).toNat).length - k∧T 1=(aD gs)∧T 2=(aH w)∧T 7=(V.sl (List.map mC (fcL m gs)))∧T 9=(aH (cE m m.s w))∧T 11=(iV (gpI gs (nth w (((w.length:Nat):Int) - (1:Int)).toNat)))∧T 12=(V.ms 12 v2 0 ((dH (nth gs (gpI gs (nth w ((((w.length:Nat):Int) - 1).toNat))).toNat) (w.take i)++iS (nth gs (gpI gs (nth w ((((w.length:Nat):Int) - 1).toNat))).toNat) (nth w i) k).length))∧T 13=(iV ((i:Nat):Int))∧T 14=(iV ((k:Nat):Int))∧H 3=(bMq m)∧H 12=(bz v2 3 1 (List.map cI (dH (nth gs (gpI gs (nth w ((((w.length:Nat):Int) - 1).toNat))).toNat) (w.take i)++iS (nth gs (gpI gs (nth w ((((w.length:Nat):Int) - 1).toNat))).toNat) (nth w i) k)))∧(k≤(nth gs (gpI gs (nth w ((((w.length:Nat):Int) - 1).toNat))).toNat).length)) ?_ ?_
  ·
   refine ⟨_,0,v,rfl,t1,t2,t7,t9,t11,(eTq t12 (by (rw [pj0]; done))),t13,(eTq (rVq (iV 0)) rfl),h3,(eTq h12 (by (rw [pj0]; done))),?_⟩
   · exact Nat.zero_le _
  intro mm T H ⟨k,v2,hmm,t1,t2,t7,t9,t11,t12,t13,t14,h3,h12,hk⟩ Q15 p115 p215 p315
  unfold aSM
  refine aB (W_r (aA t14 (aA t1 (aA t11 (dX (i:=(gpI gs (nth w (((w.length:Nat):Int) - (1:Int)).toNat))) (rVq (aD gs)) (rVq (iV (gpI gs (nth w (((w.length:Nat):Int) - (1:Int)).toNat)))) (by omega) (by omega) rfl (aI rfl rfl (bI rfl ?_)))))))
  refine bO rfl rfl (R_e ?_)
  refine aJ rfl (fun c16=>?_) fun c16=>?_
  ·
   have la2:=aBY (ins:=(nth gs (gpI gs (nth w ((((w.length:Nat):Int) - 1).toNat))).toNat)) (a:=nth w i) (j:=k)
   refine aG (aE fun Q17 n17 x17 y17 z17=>(W_r (aA t1 (aA t11 (dX (i:=(gpI gs (nth w (((w.length:Nat):Int) - (1:Int)).toNat))) (rVq (aD gs)) (rVq (iV (gpI gs (nth w (((w.length:Nat):Int) - (1:Int)).toNat)))) (by omega) (by omega) rfl (aI rfl rfl (aA t14 ?_)))))))
   refine bY (i:=k) (rVq (aH (nth gs (gpI gs (nth w (((w.length:Nat):Int) - (1:Int)).toNat)).toNat))) (rNq k) (by omega) rfl (aI rfl rfl (aA t2 (aA t13 (bY (i:=i) (rVq (aH w)) (rNq i) (by omega) rfl (aI rfl rfl (gT rfl rfl (R_e ?_)))))))
   refine kI rfl (fun c18=>?_) fun c18=>?_
   ·
    have pr1:iS (nth gs (gpI gs (nth w ((((w.length:Nat):Int) - 1).toNat))).toNat) (nth w i) (k+1)=iS (nth gs (gpI gs (nth w ((((w.length:Nat):Int) - 1).toNat))).toNat) (nth w i) k++[((k:Nat):Int)]:=by rw [aAb,if_pos c18]
    refine W_t (aA t12 (aA t14 (cO rfl rfl (cH (l:=(dH (nth gs (gpI gs (nth w ((((w.length:Nat):Int) - 1).toNat))).toNat) (w.take i)++iS (nth gs (gpI gs (nth w ((((w.length:Nat):Int) - 1).toNat))).toNat) (nth w i) k)) (f:=cI) (x:=((k:Nat):Int)) (rVq (V.ms 12 v2 0 ((dH (nth gs (gpI gs (nth w ((((w.length:Nat):Int) - 1).toNat))).toNat) (w.take i)++iS (nth gs (gpI gs (nth w ((((w.length:Nat):Int) - 1).toNat))).toNat) (nth w i) k).length))) h12 (by rfl) (rVq (V.sl [[(iV ((k:Nat):Int))]])) rfl rfl (by (rw [List.length_append]; omega)) (by (rw [List.length_append]; omega)) (aA rfl (R_e (n17 _ _ ?_)))))))
    refine .done (W_t (aA t14 (bA rfl (rNq 1) (by omega) (aA rfl (R_e ?_)))))
    refine p115 _ _ _ ?_ ⟨(k+1),(v2+1),rfl,t1,t2,t7,t9,t11,(eTq (rVq (V.ms 12 (v2+1) 0 (((dH (nth gs (gpI gs (nth w ((((w.length:Nat):Int) - 1).toNat))).toNat) (w.take i)++iS (nth gs (gpI gs (nth w ((((w.length:Nat):Int) - 1).toNat))).toNat) (nth w i) k).length)+1))) (by exact congrArg (V.ms 12 _ 0) (by rw [pr1]; simp only [List.length_append,List.length_cons,List.length_nil]; omega))),t13,(eTq (rNq (k+1)) (by rfl)),h3,(eTq (@rfl Blk (bz (v2+1) 3 1 (List.map cI (dH (nth gs (gpI gs (nth w ((((w.length:Nat):Int) - 1).toNat))).toNat) (w.take i)++iS (nth gs (gpI gs (nth w ((((w.length:Nat):Int) - 1).toNat))).toNat) (nth w i) k++[((k:Nat):Int)])))) (by (rw [pr1,← List.append_assoc]; first|done|rfl))),?_⟩
    · omega
    · omega
   have pr2:iS (nth gs (gpI gs (nth w ((((w.length:Nat):Int) - 1).toNat))).toNat) (nth w i) (k+1)=iS (nth gs (gpI gs (nth w ((((w.length:Nat):Int) - 1).toNat))).toNat) (nth w i) k:=by rw [aAb,if_neg c18]
   refine fK (n17 _ _ (.done (W_t (aA t14 (bA rfl (rNq 1) (by omega) (aA rfl (R_e ?_)))))))
   refine p115 _ _ _ ?_ ⟨(k+1),v2,rfl,t1,t2,t7,t9,t11,(eTq t12 (by (rw [pr2]; done))),t13,(eTq (rNq (k+1)) (by rfl)),h3,(eTq h12 (by (rw [pr2]; done))),?_⟩
   · omega
   · omega
  have pe:dH (nth gs (gpI gs (nth w ((((w.length:Nat):Int) - 1).toNat))).toNat) (w.take i)++iS (nth gs (gpI gs (nth w ((((w.length:Nat):Int) - 1).toNat))).toNat) (nth w i) k=dH (nth gs (gpI gs (nth w ((((w.length:Nat):Int) - 1).toNat))).toNat) (w.take (i+1)):=by rw [aLC (show i < w.length by omega),show k=(nth gs (gpI gs (nth w ((((w.length:Nat):Int) - 1).toNat))).toNat).length by omega]
  refine aP (p315 _ _ _ (x14 _ _ (n13 _ _ (.done (W_t (aA t13 (bA rfl (rNq 1) (by omega) ?_)))))))
  refine aA rfl (R_e ?_)
  refine p111 _ _ _ ?_ ⟨(i+1),v2,rfl,t1,t2,t7,t9,t11,(eTq t12 (by (rw [pe]; done))),(eTq (rNq (i+1)) (by rfl)),h3,(eTq h12 (by (rw [pe]; done))),?_⟩
  · omega
  · omega
 have et:List.take i w=w:=List.take_of_length_le (by omega)
 refine aP (p311 _ _ _ (x10 _ _ (bF (R:=fun T H=>T 1=(aD gs)∧T 2=(aH w)∧T 7=(V.sl (List.map mC (fcL m gs)))∧T 9=(aH (cE m m.s w))∧T 11=(iV (gpI gs (nth w (((w.length:Nat):Int) - (1:Int)).toNat)))∧T 12=(V.ms 12 v 0 ((dH (nth gs (gpI gs (nth w ((((w.length:Nat):Int) - 1).toNat))).toNat) (w.take i)).length))∧T 13=(iV ((i:Nat):Int))∧T 79=(V.bool (decide (((i:Nat):Int) < ((w.length:Nat):Int))))∧H 3=(bMq m)∧H 12=(bz v 3 1 (List.map cI (dH (nth gs (gpI gs (nth w ((((w.length:Nat):Int) - 1).toNat))).toNat) (w.take i))))∧True) ⟨t1,t2,t7,t9,t11,t12,t13,(rVq (V.bool (decide (((i:Nat):Int) < ((w.length:Nat):Int))))),h3,h12,trivial⟩ ?_)))
 intro T H ⟨t1,t2,t7,t9,t11,t12,t13,t79,h3,h12,_⟩
 refine .freeze 12 (.done ?_)
 refine bF (R:=fun T H=>T 1=(aD gs)∧T 2=(aH w)∧T 7=(V.sl (List.map mC (fcL m gs)))∧T 9=(aH (cE m m.s w))∧T 11=(iV (gpI gs (nth w (((w.length:Nat):Int) - (1:Int)).toNat)))∧T 12=(aH (dH (nth gs (gpI gs (nth w ((((w.length:Nat):Int) - 1).toNat))).toNat) (w.take i)))∧T 13=(iV ((i:Nat):Int))∧T 79=(V.bool (decide (((i:Nat):Int) < ((w.length:Nat):Int))))∧H 3=(bMq m)∧((H 12).ver=v∧(H 12).live=false)∧True) ⟨(aK t1 rfl),(aK t2 rfl),(aK t7 rfl),(aK t9 rfl),(aK t11 rfl),(aK t12 (kC h12 (by simp) (l:=(dH (nth gs (gpI gs (nth w ((((w.length:Nat):Int) - 1).toNat))).toNat) (w.take i))) rfl (by rfl))),(aK t13 rfl),(aK t79 rfl),(aL h3 (by decide)),(bN (cVq h12)),trivial⟩ ?_
 intro T H ⟨t1,t2,t7,t9,t11,t12,t13,t79,h3,h12,_⟩
 refine W_r (aA t7 (aA t11 (dX (i:=(gpI gs (nth w (((w.length:Nat):Int) - (1:Int)).toNat))) (rVq (V.sl (List.map mC (fcL m gs)))) (rVq (iV (gpI gs (nth w (((w.length:Nat):Int) - (1:Int)).toNat)))) (by omega) (by omega) rfl (aI rfl rfl (aA t12 (aX (zA (nth (fcL m gs) (gpI gs (nth w (((w.length:Nat):Int) - (1:Int)).toNat)).toNat) (dH (nth gs (gpI gs (nth w ((((w.length:Nat):Int) - 1).toNat))).toNat) (w.take i))) rfl (aA rfl ?_)))))))
 refine cR rfl rfl (cR rfl rfl (aA rfl (aA rfl (R_e (aB (W_r (aA rfl ?_)))))))
 refine fB rfl rfl (aA rfl ?_)
 refine cC 4 (fun T H=>T 9=(aH (cE m m.s w))∧T 15=(aH (cE (nth (fcL m gs) (gpI gs (nth w (((w.length:Nat):Int) - (1:Int)).toNat)).toNat) (nth (fcL m gs) (gpI gs (nth w (((w.length:Nat):Int) - (1:Int)).toNat)).toNat).s (dH (nth gs (gpI gs (nth w ((((w.length:Nat):Int) - 1).toNat))).toNat) (w.take i))))∧T 122=(V.bool (decide (((frE (nth (fcL m gs) (gpI gs (nth w (((w.length:Nat):Int) - (1:Int)).toNat)).toNat) (nth (fcL m gs) (gpI gs (nth w (((w.length:Nat):Int) - (1:Int)).toNat)).toNat).s (dH (nth gs (gpI gs (nth w ((((w.length:Nat):Int) - 1).toNat))).toNat) (w.take i)))≠(0:Int))∨((((cE (nth (fcL m gs) (gpI gs (nth w (((w.length:Nat):Int) - (1:Int)).toNat)).toNat) (nth (fcL m gs) (gpI gs (nth w (((w.length:Nat):Int) - (1:Int)).toNat)).toNat).s (dH (nth gs (gpI gs (nth w ((((w.length:Nat):Int) - 1).toNat))).toNat) (w.take i))).length:Nat):Int)=(0:Int)))))∧H 3=(bMq m)∧((H 12).ver=v∧(H 12).live=false)∧True) ?_ ?_
 ·
  by_cases g19:(frE (nth (fcL m gs) (gpI gs (nth w (((w.length:Nat):Int) - (1:Int)).toNat)).toNat) (nth (fcL m gs) (gpI gs (nth w (((w.length:Nat):Int) - (1:Int)).toNat)).toNat).s (dH (nth gs (gpI gs (nth w ((((w.length:Nat):Int) - 1).toNat))).toNat) (w.take i)))≠(0:Int)
  ·
   refine G_n (edT g19 rfl) (G_n (edT g19 rfl) (G_n (edT g19 rfl) (bZ (edT g19 rfl) rfl ?_)))
   exact ⟨t9,rfl,(eQ g19),h3,h12,trivial⟩
  ·
   refine aT (edF g19 rfl) (aA rfl (aT (edF g19 rfl) (bI rfl (aT (edF g19 rfl) (gT rfl rfl (cD (edF g19 rfl) rfl ?_))))))
   exact ⟨t9,rfl,(eO g19),h3,h12,trivial⟩
 intro T H ⟨t9,t15,t122,h3,h12,_⟩
 refine R_e ?_
 refine aJ t122 (fun c20=>?_) fun c20=>?_
 · exfalso; have z:=c20; rw [et] at z; first|omega|(simp at z; omega)
 have hx:=c20
 have k12:=aFZ (m:=(nth (fcL m gs) (gpI gs (nth w ((((w.length:Nat):Int) - 1).toNat))).toNat)) (s:=(nth (fcL m gs) (gpI gs (nth w ((((w.length:Nat):Int) - 1).toNat))).toNat).s) (w:=dH (nth gs (gpI gs (nth w ((((w.length:Nat):Int) - 1).toNat))).toNat) (List.take i w))
 have k13:(dH (nth gs (gpI gs (nth w ((((w.length:Nat):Int) - 1).toNat))).toNat) (List.take i w)).length≤60:=by rw [et]; exact k11
 refine aG (W_r (aA t15 (aA t15 (bI rfl (uJ rfl rfl (by omega) (by omega) (dX (i:=((((cE (nth (fcL m gs) (gpI gs (nth w (((w.length:Nat):Int) - (1:Int)).toNat)).toNat) (nth (fcL m gs) (gpI gs (nth w (((w.length:Nat):Int) - (1:Int)).toNat)).toNat).s (dH (nth gs (gpI gs (nth w ((((w.length:Nat):Int) - 1).toNat))).toNat) (w.take i))).length:Nat):Int) - (1:Int))) (rVq (aH (cE (nth (fcL m gs) (gpI gs (nth w (((w.length:Nat):Int) - (1:Int)).toNat)).toNat) (nth (fcL m gs) (gpI gs (nth w (((w.length:Nat):Int) - (1:Int)).toNat)).toNat).s (dH (nth gs (gpI gs (nth w ((((w.length:Nat):Int) - 1).toNat))).toNat) (w.take i))))) (rVq (iV ((((cE (nth (fcL m gs) (gpI gs (nth w (((w.length:Nat):Int) - (1:Int)).toNat)).toNat) (nth (fcL m gs) (gpI gs (nth w (((w.length:Nat):Int) - (1:Int)).toNat)).toNat).s (dH (nth gs (gpI gs (nth w ((((w.length:Nat):Int) - 1).toNat))).toNat) (w.take i))).length:Nat):Int) - (1:Int)))) (by omega) (by omega) rfl (aI rfl rfl ?_)))))))
 refine aA t9 (aA t9 (bI rfl (uJ rfl rfl (by omega) (by omega) (dX (i:=((((cE m m.s w).length:Nat):Int) - (1:Int))) (rVq (aH (cE m m.s w))) (rVq (iV ((((cE m m.s w).length:Nat):Int) - (1:Int)))) (by omega) (by omega) rfl (aI rfl rfl (gT rfl rfl (aA rfl ?_)))))))
 refine cC 2 (fun T H=>T 138=(V.bool (decide ((nth (cE (nth (fcL m gs) (gpI gs (nth w (((w.length:Nat):Int) - (1:Int)).toNat)).toNat) (nth (fcL m gs) (gpI gs (nth w (((w.length:Nat):Int) - (1:Int)).toNat)).toNat).s (dH (nth gs (gpI gs (nth w ((((w.length:Nat):Int) - 1).toNat))).toNat) (w.take i))) ((((cE (nth (fcL m gs) (gpI gs (nth w (((w.length:Nat):Int) - (1:Int)).toNat)).toNat) (nth (fcL m gs) (gpI gs (nth w (((w.length:Nat):Int) - (1:Int)).toNat)).toNat).s (dH (nth gs (gpI gs (nth w ((((w.length:Nat):Int) - 1).toNat))).toNat) (w.take i))).length:Nat):Int) - (1:Int)).toNat)=(nth (cE m m.s w) ((((cE m m.s w).length:Nat):Int) - (1:Int)).toNat))))∧H 3=(bMq m)∧((H 12).ver=v∧(H 12).live=false)∧True) ?_ ?_
 ·
  by_cases g21:(nth (cE (nth (fcL m gs) (gpI gs (nth w (((w.length:Nat):Int) - (1:Int)).toNat)).toNat) (nth (fcL m gs) (gpI gs (nth w (((w.length:Nat):Int) - (1:Int)).toNat)).toNat).s (dH (nth gs (gpI gs (nth w ((((w.length:Nat):Int) - 1).toNat))).toNat) (w.take i))) ((((cE (nth (fcL m gs) (gpI gs (nth w (((w.length:Nat):Int) - (1:Int)).toNat)).toNat) (nth (fcL m gs) (gpI gs (nth w (((w.length:Nat):Int) - (1:Int)).toNat)).toNat).s (dH (nth gs (gpI gs (nth w ((((w.length:Nat):Int) - 1).toNat))).toNat) (w.take i))).length:Nat):Int) - (1:Int)).toNat)=(nth (cE m m.s w) ((((cE m m.s w).length:Nat):Int) - (1:Int)).toNat)
  ·
   refine aT (edT g21 rfl) (aX dV rfl (bZ (edT g21 rfl) rfl ?_))
   exact ⟨(aT3 g21),h3,h12,trivial⟩
  ·
   refine G_n (edF g21 rfl) (cD (edF g21 rfl) rfl ?_)
   exact ⟨(aSG g21),h3,h12,trivial⟩
 intro T H ⟨t138,h3,h12,_⟩
 refine aA t138 (R_e (bH ?_))
 refine bS (rVq (V.bool (decide ((nth (cE (nth (fcL m gs) (gpI gs (nth w (((w.length:Nat):Int) - (1:Int)).toNat)).toNat) (nth (fcL m gs) (gpI gs (nth w (((w.length:Nat):Int) - (1:Int)).toNat)).toNat).s (dH (nth gs (gpI gs (nth w ((((w.length:Nat):Int) - 1).toNat))).toNat) (w.take i))) ((((cE (nth (fcL m gs) (gpI gs (nth w (((w.length:Nat):Int) - (1:Int)).toNat)).toNat) (nth (fcL m gs) (gpI gs (nth w (((w.length:Nat):Int) - (1:Int)).toNat)).toNat).s (dH (nth gs (gpI gs (nth w ((((w.length:Nat):Int) - 1).toNat))).toNat) (w.take i))).length:Nat):Int) - (1:Int)).toNat)=(nth (cE m m.s w) ((((cE m m.s w).length:Nat):Int) - (1:Int)).toNat))))) (eM ?_)
 · first|rfl|exact absurd (by rw [et]; exact k10) (by assumption)|(rw [et]; exact k10)|(rw [et]; exact decide_eq_true k10)|simp|skip
end Go.Proofs.YtmnnhjhkaepbaaaGreat
namespace Go.Proofs.YtmnnhjhkaepbaaaGreat
open Go Go.Proofs Go.Proofs.YtmnnhjhkaepbaaaGreat Go.ChangeShapes Go.WideShapes Go.ChangeAt Go.RowKit
structure UT (P:Program):Prop where
  u3:P.underlying 3=some (.int .i64)
  u22:P.underlying 22=some (.slice 25)
  u25:P.underlying 25=some (.slice 3)
  u24: ∃ f0 f1 f2 f3:Field,P.underlying 24=some (.struct #[f0,f1,f2,f3])∧f0.type=3∧f1.type=3∧f2.type=22∧f3.type=22
theorem sh3 {P:Program} (U:UT P) (n:Nat) (vs:List V) (h:Shp P (n+1) 3 vs): ∃ a:Int,vs=cI a:=aKm U.u3 h
theorem aTm {P:Program} (U:UT P) (n:Nat) (vs:List V) (h:Shp P (n+2) 25 vs): ∃ a:List Int,vs=cL a:=zG (f:=cI) U.u25 (fun vs h=>sh3 U n vs h) h
theorem aQW {P:Program} (U:UT P) (n:Nat) (vs:List V) (h:Shp P (n+3) 22 vs): ∃ a:List (List Int),vs=(fun l=>[V.sl (List.map cL l)]) a:=zG (f:=cL) U.u22 (fun vs h=>aTm U n vs h) h
theorem aUj {P:Program} (U:UT P) (n:Nat) (vs:List V) (h:Shp P (n+4) 24 vs): ∃ a:M,vs=mC a:=by
  obtain ⟨f0,f1,f2,f3,hu,k0,k1,k2,k3⟩:=U.u24
  have h0:=aHb hu h
  obtain ⟨x0,u0,e0,h1⟩:=nG (c:=cI) (fun vs h=>sh3 U (n+2) vs (by rw [k0] at h; exact h)) h0
  obtain ⟨x1,u1,e1,h2⟩:=nG (c:=cI) (fun vs h=>sh3 U (n+2) vs (by rw [k1] at h; exact h)) h1
  obtain ⟨x2,u2,e2,h3⟩:=nG (c:=(fun l=>[V.sl (List.map cL l)])) (fun vs h=>aQW U (n+0) vs (by rw [k2] at h; exact h)) h2
  obtain ⟨x3,u3,e3,h4⟩:=nG (c:=(fun l=>[V.sl (List.map cL l)])) (fun vs h=>aQW U (n+0) vs (by rw [k3] at h; exact h)) h3
  have e4:=aHz h4
  exact ⟨⟨x0,x1,x2,x3⟩,by rw [e0,e1,e2,e3,e4]; rfl⟩
theorem ut:UT Tryz.prog:=⟨by kernel_rfl,by kernel_rfl,by kernel_rfl,⟨_,_,_,_,Tryz.underlying24,rfl,rfl,rfl,rfl⟩⟩
theorem aS6 {P:Program} (U:UT P) {us:List V} (h:aDr P 5 [24,22,25] us): ∃ (d0:M) (d1:List (List Int)) (d2:List Int),us=[V.agg (mC d0),V.sl (List.map cL d1),V.sl (List.map cI d2)]:=by
  obtain ⟨a0,b0,e0,h0,h⟩:=rA h
  obtain ⟨d0,g0⟩:=aUj U 1 a0 h0
  have q0:lS P 24 a0=V.agg (mC d0):=by obtain ⟨_,_,_,_,hu,_⟩:=U.u24; rw [g0]; exact aBF hu _
  obtain ⟨a1,b1,e1,h1,h⟩:=rA h
  obtain ⟨d1,g1⟩:=aQW U 2 a1 h1
  have q1:lS P 22 a1=V.sl (List.map cL d1):=by rw [g1]; exact vL (fun fs h=>by rw [U.u22] at h; cases h) (fun m e h=>by rw [U.u22] at h; cases h)
  obtain ⟨a2,b2,e2,h2,h⟩:=rA h
  obtain ⟨d2,g2⟩:=aTm U 3 a2 h2
  have q2:lS P 25 a2=V.sl (List.map cI d2):=by rw [g2]; exact vL (fun fs h=>by rw [U.u25] at h; cases h) (fun m e h=>by rw [U.u25] at h; cases h)
  have e3:=aH0 h
  exact ⟨d0,d1,d2,by rw [e0,q0,e1,q1,e2,q2,e3]⟩
theorem aUA:ownKnob Tryz.prog.godebug=none:=by kernel_rfl
set_option maxRecDepth 100000 in
theorem aLk (os:Os) (started:os.Started) (H:Type) (enc:TypeId×Value→H):
    ReturnsInHanded {} Tryz.checked os 6 .any (Rows.greyboxFactorsSpec.pre6 enc Tryz.prog Tryz.f6 Rows.greyboxFactorsRow.domain false) (Rows.greyboxFactorsSpec.post enc Tryz.prog Tryz.f6 false true false false):=by
  refine returnsInHanded_of_change (C:=Tryz.checked) aUA started (by kernel_rfl) Tryz.func6
    (ChangeSpec.witness6 (enc:=enc) (C:=Tryz.checked) false ⟨#[],#[.agg #[.int .i64 0,.int .i64 0,.slice none 0 0,.slice none 0 0],.slice none 0 0,.slice none 0 0],[]⟩ 8 (by kernel_rfl) (by kernel_rfl) (by kernel_rfl) (by kernel_rfl)) ?_
  intro W base args ds gs before hval0 hW hcnd _
  refine aIk (n:=5) (tb:=4) (by kernel_rfl) (by kernel_rfl) (by kernel_rfl) (fun t ht=>?_) rfl ?_ (fun us hu=>?_) hval0 hW
  · have h:t∈[24,22,25]:=ht
    simp only [List.mem_cons,List.not_mem_nil,or_false] at h
    rcases h with rfl|rfl|rfl
    · exact ⟨by kernel_rfl,by kernel_rfl,of_decide_eq_true (by kernel_rfl)⟩
    · exact ⟨by kernel_rfl,by kernel_rfl,of_decide_eq_true (by kernel_rfl)⟩
    · exact ⟨by kernel_rfl,by kernel_rfl,of_decide_eq_true (by kernel_rfl)⟩
  · obtain ⟨p,q,hA,hV,rfl,hfz,hnd⟩:=hW
    obtain ⟨rfl,rfl⟩:=trodVars_none hV
    change DataW.TrodAll enc Tryz.prog W 0 (fun _=>true) true [24,22,25] args.toList ds p at hA
    obtain ⟨v0,vs0,y0,ds0,pa0,pb0,hv0,rfl,rfl,_,hA⟩:=trodAll_cons hA
    obtain ⟨v1,vs1,y1,ds1,pa1,pb1,hv1,rfl,rfl,_,hA⟩:=trodAll_cons hA
    obtain ⟨v2,vs2,y2,ds2,pa2,pb2,hv2,rfl,rfl,_,hA⟩:=trodAll_cons hA
    obtain ⟨_,rfl,rfl⟩:=trodAll_nil hA
    rfl
  · obtain ⟨d0,d1,d2,rfl⟩:=aS6 ut hu
    exact aFi d0 d1 d2
theorem proved6:Rows.GreyboxFactorsSaid:=
  OpenClaim.holds_of_wide 6 Tryz.f6 rfl rfl rfl rfl rfl rfl rfl ⟨rfl,rfl,rfl,rfl,rfl⟩ rfl rfl rfl rfl rfl (by kernel_rfl) Tryz.func6 (by kernel_rfl)
    (of_decide_eq_true (by kernel_rfl)) (by unfold Func.isWrapper; first|(rw [if_pos (by decide+kernel)]; kernel_rfl)|(rw [if_neg (by decide+kernel)]; exact ⟨rfl,rfl⟩))
    (fun os started H enc _=>aLk os started H enc)
end Go.Proofs.YtmnnhjhkaepbaaaGreat
