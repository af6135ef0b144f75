/- Contracts of the functions that the law VC reaches, and the law itself, for every input; no condition. -/
import Derived.KernelRfl
import Derived.Test.YteehaobohaecmaaGreatDoorProg
import Derived.Test.YteehaobohaecmaaGreatDoorRows
import Derived.LaidSub
import Derived.LaidMore
import Derived.Lib.LaidTab
import Derived.Test.YteehaobohaecmaaGreatDoorTie
import Derived.Test.YteehaobohaecmaaGreatDoorCards
import Derived.OpenShut
import Derived.Stop.Joined
import Derived.SevenTiedAt
import Derived.Test.YteehaobohaecmaaGreatDoorVC4
set_option linter.unusedSimpArgs false
set_option linter.unusedVariables false
namespace Go.Proofs.YteehaobohaecmaaGreatDoor
open Go Go.Proofs
theorem aG4 (m:M) (s:Int) (w:List Int) (hm:dS m=0) (hs:0≤s∧s < m.nx.length) (hl:w.length≤4096) (hw: ∀ k,k < w.length→0≤nth w k∧nth w k < m.i):aQ Tryz.prog 98 [(V.agg [(iV m.i),(iV m.s),(bI m.nx),(bI m.ot)]),(iV s),(aY w)] (V.tup [(aY (eY m s w)),(iV (dW m s w))]):=by
 refine pW Tryz.func98 aQM fun hB=>?_
 unfold s98
 dsimp only
 refine W_r (cA (i:=3) (n:=0) (m:=4) (cs:=[(iV m.i),(iV m.s),(bI m.nx),(bI m.ot)]) rfl (cVq rfl) rfl rfl rfl (aA rfl (aA rfl (R_e (W_r (nQ (i:=8) (n:=0) rfl (cVq rfl) (R_e ?_)))))))
 refine aB (W_r (aA rfl (R_e (aD fun Q1 n1 x1 y1 z1=>?_))))
 refine bS (fun mm T H=> ∃ (k:Nat),mm=w.length - k∧T 1=(iV (dW m s (w.take k)))∧T 2=(aY w)∧T 3=(mPq 3)∧T 8=(V.ms 8 (1+k) 0 k)∧T 9=(iV ((k:Nat):Int))∧H 3=(bMq m)∧H 8=(bz (1+k) 3 1 (List.map cI (eY m s (w.take k))))∧(k≤w.length)) ?_ ?_
 ·
  refine ⟨_,0,rfl,(eTq (rVq (iV s)) (by rfl)),rfl,rfl,(eTq (rVq (V.ms 8 1 0 0)) (by rfl)),(eTq (rVq (iV 0)) rfl),rfl,(eTq (@rfl Blk (bz 1 3 1 [])) (by rfl)),?_⟩
  · omega
 intro mm T H ⟨k,hmm,t1,t2,t3,t8,t9,h3,h8,hk⟩ Q2 p12 p22 p32
 unfold aNr
 refine aB (W_r (aA t9 (aA t2 (bF rfl (bO rfl rfl (R_e ?_))))))
 refine aH rfl (fun c3=>?_) fun c3=>?_
 ·
  have h1:=aJS hm hs hw (k:=k) (by omega)
  refine aC (aD fun Q4 n4 x4 y4 z4=>(W_r (aA t8 (aL t3 h3 (aJ rfl h3 rfl rfl (aA t1 (fA (i:=(dW m s (w.take k))) (rVq (bI m.ot)) (rVq (iV (dW m s (w.take k)))) (by omega) (by omega) rfl ?_)))))))
  refine aG rfl rfl (aA t2 (aA t9 (dB (i:=k) (rVq (aY w)) (rNq k) (by omega) rfl (aG rfl rfl (fA (i:=(nth w k)) (rVq (aY (nth m.ot (dW m s (w.take k)).toNat))) (rVq (iV (nth w k))) (by omega) (by omega) rfl (aG rfl rfl (aR rfl rfl ?_)))))))
  refine cC (l:=(eY m s (w.take k))) (f:=cI) (x:=(nth (nth m.ot (dW m s (w.take k)).toNat) (nth w k).toNat)) (rVq (V.ms 8 (1+k) 0 k)) h8 (by (simp only [iB,List.length_take]; omega)) (rVq (V.sl [[(iV (nth (nth m.ot (dW m s (w.take k)).toNat) (nth w k).toNat))]])) rfl rfl (by omega) (by omega) (aA rfl (R_e (W_t (aL t3 h3 (aJ rfl h3 rfl rfl (aA t1 (fA (i:=(dW m s (w.take k))) (rVq (bI m.nx)) (rVq (iV (dW m s (w.take k)))) (by omega) (by omega) rfl ?_)))))))
  refine aG rfl rfl (aA t2 (aA t9 (dB (i:=k) (rVq (aY w)) (rNq k) (by omega) rfl (aG rfl rfl (fA (i:=(nth w k)) (rVq (aY (nth m.nx (dW m s (w.take k)).toNat))) (rVq (iV (nth w k))) (by omega) (by omega) rfl (aG rfl rfl (aA rfl ?_)))))))
  refine R_e (n4 _ _ (.done (W_t (aA t9 (bC rfl (rNq 1) (by omega) (aA rfl (R_e ?_)))))))
  refine p12 _ _ _ ?_ ⟨(k+1),rfl,(eTq (rVq (iV (nth (nth m.nx (dW m s (w.take k)).toNat) (nth w k).toNat))) (by (rw [aAM m s (by omega)]; rfl))),t2,t3,(eTq (rVq (V.ms 8 (1+k+1) 0 (k+1))) (by rfl)),(eTq (rNq (k+1)) (by rfl)),h3,(eTq (@rfl Blk (bz (1+k+1) 3 1 (List.map cI (eY m s (w.take k)++[(nth (nth m.ot (dW m s (w.take k)).toNat) (nth w k).toNat)])))) (by (rw [aA7 m s (by omega)]; rfl))),?_⟩
  · omega
  · omega
 refine aN (p32 _ _ _ (x1 _ _ (.done (W_r (aA t8 (aA t1 (aA rfl ?_)))))))
 refine aA rfl (R_e (aO ?_))
 refine dC (rVq (V.ms 8 (1+k) 0 k)) (rVq (iV (dW m s (w.take k)))) (iJ h8 (by simp) (l:=(eY m s (w.take k))) rfl (by (simp only [iB,List.length_take]; omega)) (fun _=>by simp) ?_) (aF ?_)
 · (have e:k=w.length:=(by omega); subst e; rw [List.take_length])
 · (have e:k=w.length:=(by omega); subst e; rw [List.take_length])
theorem aEs (m:M) (w:List Int) (hm:dS m=0) (hl:w.length≤4096) (hw:WdM m w):aQ Tryz.prog 78 [(V.agg [(iV m.i),(iV m.s),(bI m.nx),(bI m.ot)]),(aY w)] (V.agg [(aY w),(aY (eY m m.s w))]):=by
 refine pW Tryz.func78 aQL fun hB=>?_
 unfold s78
 dsimp only
 refine W_r (cA (i:=2) (n:=0) (m:=4) (cs:=[(iV m.i),(iV m.s),(bI m.nx),(bI m.ot)]) rfl (cVq rfl) rfl rfl rfl (aV (i:=4) (n:=0) (m:=2) rfl (cVq rfl) rfl (R_e (W_r (aJ rfl rfl rfl rfl (aL rfl rfl (aJ rfl rfl rfl rfl ?_)))))))
 refine aA rfl (aI (aG4 m m.s w hm ⟨(fK hm).2.2.2.2.1,(fK hm).2.2.2.2.2.1⟩ hl hw) rfl (aA rfl (bK rfl rfl (bK rfl rfl (aA rfl (aA rfl (R_e ?_)))))))
 refine W_r (aA rfl (aA rfl (aW rfl rfl (bE rfl rfl rfl rfl rfl rfl rfl rfl rfl (R_e (aO ?_))))))
 refine cM (bB (u:=(V.agg [(aY w),(aY (eY m m.s w))])) rfl (@rfl Blk (bk 1 54 2 [[(aY w),(aY (eY m m.s w))]])) (lB oB rfl rfl)) (fF (cH (by simp) rfl) (dA ?_ (fun _=>by simp)))
 · first|rfl|omega|simp_all
theorem aBm (m:M) (g:Fm) (hm:dS m=0) (hv:cW g=0):aQ Tryz.prog 54 [(V.agg [(iV m.i),(iV m.s),(bI m.nx),(bI m.ot)]),(V.agg (rFq g))] (V.tup [(V.agg [(aY ((srD m g).1.ni)),(aY ((srD m g).1.no))]),(V.bool ((srD m g).2.1)),(iV ((srD m g).2.2))]):=by
 refine pW Tryz.func54 aRe fun hB=>?_
 unfold s54
 dsimp only
 have a1: ¬dS m≠0:=by omega
 have mo:=fK hm
 refine W_r (cA (i:=2) (n:=0) (m:=4) (cs:=[(iV m.i),(iV m.s),(bI m.nx),(bI m.ot)]) rfl (cVq rfl) rfl rfl rfl (cA (i:=3) (n:=0) (m:=3) (cs:=(rFq g)) rfl (cVq rfl) rfl rfl rfl (aV (i:=4) (n:=0) (m:=2) rfl (cVq rfl) rfl (aA rfl (aA rfl (R_e (W_r ?_)))))))
 refine aJ rfl rfl rfl rfl (aI (zO g) rfl (aA rfl (bK rfl rfl (bK rfl rfl (aA rfl (aA rfl (R_e ?_)))))))
 refine aB (W_r (aA rfl (cD rfl rfl (aA rfl ?_))))
 refine aT 3 (fun T H=>T 2=(mPq 2)∧T 3=(mPq 3)∧T 4=(mPq 4)∧T 8=(iV (enE g))∧T 26=(V.bool (decide ((enE g)≠(0:Int))||(!enB g)))∧H 2=(bMq m)∧H 3=(bFq g)∧H 4=bTq∧H 13=bZq∧H 15=bZq∧H 35=bZq∧True) ?_ ?_
 ·
  by_cases g1:(enE g)≠(0:Int)
  ·
   refine G_n (edT g1 rfl) (G_n (edT g1 rfl) (aS (edT g1 rfl) rfl ?_))
   exact ⟨rfl,rfl,rfl,rfl,(nG g1),rfl,rfl,rfl,rfl,rfl,rfl,trivial⟩
  ·
   refine aE (edF g1 rfl) (aA rfl (aE (edF g1 rfl) (eL rfl (aU (edF g1 rfl) rfl ?_))))
   exact ⟨rfl,rfl,rfl,rfl,(nF g1),rfl,rfl,rfl,rfl,rfl,rfl,trivial⟩
 intro T H ⟨t2,t3,t4,t8,t26,h2,h3,h4,h13,h15,h35,_⟩
 refine R_e ?_
 refine bX t26 (fun c2=>?_) (fun c2=>?_)
 ·
  have d1:=aNy (m:=m) (g:=g) (by simpa using c2)
  refine aB (W_r (aW rfl rfl (aA t8 (aX rfl rfl (aA t8 (bE t4 rfl rfl h4 rfl rfl rfl rfl rfl (aA rfl ?_)))))))
  refine aA rfl (R_e (aM ?_))
  refine gG (bB (u:=(V.agg [V.nilsl,V.nilsl])) t4 (@rfl Blk bTq) (lB oB rfl rfl)) (bR (rVq (V.bool (decide ((enE g)=(0:Int)))))) (bR (rVq (iV (enE g)))) (fF (bU ?_) (bU ?_)) (aZ ?_) (aF ?_)
  · rw [d1]; try rfl
  · rw [d1]; try rfl
  · rw [d1]; try rfl
  · rw [d1]; try rfl
 have a4: ¬(enE g≠0∨enB g=false):=by have q:=c2; simpa using q
 refine aC ?_
 refine dN (fun T H=>T 2=(mPq 2)∧T 4=(mPq 4)∧T 9=(V.ms 35 1 0 1)∧H 2=(bMq m)∧H 3=(bFq g)∧H 4=bTq∧H 13=bZq∧H 15=bZq∧H 35=(bk 1 117 5 [[(iV m.s),(iV g.op),(iV g.arg),(V.sl (List.map cF g.kids)),V.nilsl]])∧True) ?_ ?_
 ·
  refine aL t2 h2 (aJ rfl h2 rfl rfl (aJ t3 h3 rfl rfl (aW rfl rfl (aA9 (i:=35) (n:=0) (qs:=[(0,(V.agg [(iV m.s),(iV g.op),(iV g.arg),(V.sl (List.map cF g.kids)),V.nilsl]))]) (rows:=[[(iV m.s),(iV g.op),(iV g.arg),(V.sl (List.map cF g.kids)),V.nilsl]]) rfl (cVq h35) (iK (congrArg (fun v=>(0,v)) rfl) rfl) rfl (aA rfl ?_)))))
  exact dZ ⟨t2,t4,rfl,h2,h3,h4,h13,h15,rfl,trivial⟩
 intro T H ⟨t2,t4,t9,h2,h3,h4,h13,h15,h35,_⟩
 refine aLw (l:=([])) (m:=([(⟨m.s,g,[]⟩:Pl)])) (f:=cPl) h35 rfl (.done ?_)
 refine cP (R:=fun T H=>T 2=(mPq 2)∧T 4=(mPq 4)∧T 9=(V.ms 35 1 0 1)∧H 2=(bMq m)∧H 3=(bFq g)∧H 4=bTq∧H 13=bZq∧H 15=bZq∧H 35=(bk 1 117 5 (List.map cPl ([]++[(⟨m.s,g,[]⟩:Pl)])))∧True) ⟨t2,t4,t9,(uTq h2),(uTq h3),(uTq h4),(uTq h13),(uTq h15),(aK _ _ _),trivial⟩ ?_
 intro T H ⟨t2,t4,t9,h2,h3,h4,h13,h15,h35,_⟩
 refine aB (W_r (aA rfl (R_e (aD fun Q3 n3 x3 y3 z3=>?_))))
 refine bS (fun mm T H=> ∃ (k:Nat) (l:List Pl) (v:Nat) (v13:Nat) (v15:Nat),mm=4097 - k∧T 2=(mPq 2)∧T 4=(mPq 4)∧T 9=(V.ms 35 v 0 l.length)∧T 10=(iV ((k:Nat):Int))∧H 2=(bMq m)∧H 3=(bFq g)∧H 4=bTq∧((H 13).ver=v13∧(H 13).live=false)∧((H 15).ver=v15∧(H 15).live=false)∧H 35=(bk v 117 5 (List.map cPl l))∧(k≤l.length)∧(PlD m l)∧(mI m (4097 - 0) 0 [⟨m.s,g,[]⟩]=mI m (4097 - k) k l)) ?_ ?_
 ·
  refine ⟨_,0,[(⟨m.s,g,[]⟩:Pl)],1,0,0,rfl,t2,t4,(eTq t9 (by rfl)),(eTq (rVq (iV 0)) rfl),h2,h3,h4,⟨(cVq h13),congrArg Blk.live h13⟩,⟨(cVq h15),congrArg Blk.live h15⟩,(eTq h35 (by rfl)),?_,?_,?_⟩
  · exact Nat.zero_le _
  · exact PlD.start hm hv
  · rfl
 intro mm T H ⟨k,l,v,v13,v15,hmm,t2,t4,t9,t10,h2,h3,h4,h13,h15,h35,hk,hp,hc⟩ Q4 p14 p24 p34
 unfold aNB
 refine aB (W_r (aA t10 (aA t9 (fQ rfl h35 (by simp) (bO rfl rfl (R_e ?_))))))
 refine aH rfl (fun c5=>?_) fun c5=>?_
 ·
  have hpl:=hp.ok.len
  refine aC (aD fun Q6 n6 x6 y6 z6=>(W_r (aA rfl (R_e (iC fun Q7 n7 x7 y7 z7=>?_)))))
  refine bS (fun mm T H=> ∃ (j:Nat) (l2:List Pl) (w:Nat) (v13:Nat) (v15:Nat),mm=m.i.toNat - j∧T 2=(mPq 2)∧T 4=(mPq 4)∧T 9=(V.ms 35 w 0 l2.length)∧T 10=(iV ((k:Nat):Int))∧T 11=(iV ((j:Nat):Int))∧H 2=(bMq m)∧H 3=(bFq g)∧H 4=bTq∧((H 13).ver=v13∧(H 13).live=false)∧((H 15).ver=v15∧(H 15).live=false)∧H 35=(bk w 117 5 (List.map cPl l2))∧(j≤m.i.toNat)∧(PlD m l2)∧(l.length≤l2.length)∧(nth l2 k=nth l k)∧(iQ m (nth l k) m.i.toNat 0 l=iQ m (nth l2 k) (m.i.toNat - j) j l2)) ?_ ?_
  ·
   refine ⟨_,0,l,v,v13,v15,rfl,t2,t4,t9,t10,(eTq (rVq (iV 0)) rfl),h2,h3,h4,h13,h15,h35,?_,?_,?_,?_,?_⟩
   · exact Nat.zero_le _
   · exact hp
   · exact Nat.le_refl _
   · rfl
   · rfl
  intro mm T H ⟨j,l2,w,v13,v15,hmm,t2,t4,t9,t10,t11,h2,h3,h4,h13,h15,h35,hj,hp2,hl2,he,hc2⟩ Q8 p18 p28 p38
  unfold aNb
  refine aB (W_r (aA t11 (aL t2 h2 (aJ rfl h2 rfl rfl (bO rfl rfl (R_e ?_))))))
  refine aH rfl (fun c9=>?_) fun c9=>?_
  ·
   have pk2:=hp2.ok.at_ k (by omega)
   have hr2:=aNo a1 pk2.1 pk2.2.1
   have hpl2:=hp2.ok.len
   refine aC (aD fun Q10 n10 x10 y10 z10=>(W_r (aA t9 (aA t10 (eI (i:=k) (rVq (V.ms 35 w 0 l2.length)) (rNq k) h35 oB rfl (by omega) (aL rfl h35 (cJ (v:=(iV ((nth l2 k).s))) rfl h35 (eG (by omega) (by rfl)) ?_)))))))
   refine aA rfl (R_e (W_d (by exact (kK h13.2 nK)) (aA t9 (aA t10 (eI (i:=k) (rVq (V.ms 35 w 0 l2.length)) (rNq k) h35 oB rfl (by omega) (aL rfl h35 (cJ (v:=(V.agg (rFq ((nth l2 k).f)))) rfl h35 (eG (by omega) (by rfl)) ?_)))))))
   refine aA t11 (aL t2 h2 (aJ rfl h2 rfl rfl (aA rfl (fA (i:=((nth l2 k).s)) (rVq (bI m.ot)) (rVq (iV ((nth l2 k).s))) (by omega) (by omega) rfl (aG rfl rfl (aA t11 (dB (i:=j) (rVq (aY (nth m.ot ((nth l2 k).s).toNat))) (rNq j) (by omega) rfl ?_)))))))
   refine aG rfl rfl (aI (aED ((nth l2 k).f) ((j:Nat):Int) (nth (nth m.ot ((nth l2 k).s).toNat) j)) rfl (aA rfl (bK rfl rfl (bK rfl rfl (aV (i:=13) (n:=v13) (m:=3) rfl h13.1 rfl (bE rfl rfl rfl rfl rfl rfl rfl rfl rfl (aA rfl ?_)))))))
   refine R_e (aB (W_r (aA rfl (cD rfl rfl (R_e ?_)))))
   refine aH rfl (fun c11=>?_) fun c11=>?_
   ·
    have d1:=aDG a4 (hc.trans (jF (by omega) hp.ok.len (hc2.trans (aJ4 (by omega) c11))))
    refine aB (W_r (aW rfl rfl (aA rfl (bE t4 rfl rfl h4 rfl rfl rfl rfl rfl (aA rfl (aA rfl (R_e ?_)))))))
    refine aM (y10 _ _ (p28 _ _ (y7 _ _ (y6 _ _ (p24 _ _ (y3 _ _ ?_))))))
    refine gG (bB (u:=(V.agg [V.nilsl,V.nilsl])) t4 (@rfl Blk bTq) (lB oB rfl rfl)) (bR (rVq (V.bool false))) (bR (rVq (iV ((sNq m (nth l2 k) j).2)))) (fF (bU ?_) (bU ?_)) (aZ ?_) (aF ?_)
    · rw [d1]; try rfl
    · rw [d1]; try rfl
    · rw [d1]; try rfl
    · rw [d1]; try rfl
   have e1:=c11
   have x1:=wC c11
   refine aC (aB ?_)
   refine jD (fun T H=>T 2=(mPq 2)∧T 4=(mPq 4)∧T 9=(V.ms 35 w 0 l2.length)∧T 10=(iV ((k:Nat):Int))∧T 11=(iV ((j:Nat):Int))∧T 12=(iV ((nth l2 k).s))∧T 13=(V.mp 13 (v13+1) 0 0)∧T 85=(V.bool (fM l2 (nth (nth m.nx ((nth l2 k).s).toNat) j) ((sNq m (nth l2 k) j).1)))∧H 2=(bMq m)∧H 3=(bFq g)∧H 4=bTq∧H 13=(bk (v13+1) 24 3 [(rFq ((sNq m (nth l2 k) j).1))])∧((H 15).ver=v15∧(H 15).live=false)∧H 35=(bk w 117 5 (List.map cPl l2))∧True) ?_ ?_
   ·
    refine aA t9 (aL t2 h2 (aJ rfl h2 rfl rfl (aA rfl (fA (i:=((nth l2 k).s)) (rVq (bI m.nx)) (rVq (iV ((nth l2 k).s))) (by omega) (by omega) rfl (aG rfl rfl (aA t11 (dB (i:=j) (rVq (aY (nth m.nx ((nth l2 k).s).toNat))) (rNq j) (by omega) rfl ?_)))))))
    refine aG rfl rfl (aJ rfl rfl rfl rfl (kU (bL (rVq (V.ms 35 w 0 l2.length)) (bL (rVq (iV (nth (nth m.nx ((nth l2 k).s).toNat) j))) (bL (rVq (V.agg (rFq ((sNq m (nth l2 k) j).1)))) eB))) (aCl l2 (nth (nth m.nx ((nth l2 k).s).toNat) j) ((sNq m (nth l2 k) j).1)) (iK (aIa h35 (by simp) (aCB (l:=l2) (by rfl)) (fun _=>by simp)) (iK (fH 6 _ (by simp)) (iK (fH 6 _ (by simp)) rfl))) (by simp) (Or.inr rfl) ?_))
    exact dZ ⟨t2,t4,t9,t10,t11,rfl,rfl,rfl,h2,h3,h4,rfl,h15,h35,trivial⟩
   intro T H ⟨t2,t4,t9,t10,t11,t12,t13,t85,h2,h3,h4,h13,h15,h35,_⟩
   refine bX t85 (fun c12=>?_) (fun c12=>?_)
   ·
    have e2:=c12
    refine aN (x10 _ _ ?_)
    refine .freeze 13 (.done ?_)
    refine cP (R:=fun T H=>T 2=(mPq 2)∧T 4=(mPq 4)∧T 9=(V.ms 35 w 0 l2.length)∧T 10=(iV ((k:Nat):Int))∧T 11=(iV ((j:Nat):Int))∧T 12=(iV ((nth l2 k).s))∧T 13=(V.mp 13 (v13+1) 0 0)∧T 85=(V.bool (fM l2 (nth (nth m.nx ((nth l2 k).s).toNat) j) ((sNq m (nth l2 k) j).1)))∧H 2=(bMq m)∧H 3=(bFq g)∧H 4=bTq∧((H 13).ver=v13+1∧(H 13).live=false)∧((H 15).ver=v15∧(H 15).live=false)∧H 35=(bk w 117 5 (List.map cPl l2))∧True) ⟨(cO t2 rfl),(cO t4 rfl),(cO t9 (tZ (by decide))),(cO t10 rfl),(cO t11 rfl),(cO t12 rfl),(cO t13 rfl),(cO t85 rfl),(bV h2 (by decide)),(bV h3 (by decide)),(bV h4 (by decide)),(eS (cVq h13)),(jC h15),(bV h35 (by decide)),trivial⟩ ?_
    intro T H ⟨t2,t4,t9,t10,t11,t12,t13,t85,h2,h3,h4,h13,h15,h35,_⟩
    refine W_t (aA t11 (bC rfl (rNq 1) (by omega) (aA rfl (R_e ?_))))
    refine p18 _ _ _ ?_ ⟨(j+1),l2,w,(v13+1),v15,rfl,t2,t4,t9,t10,(eTq (rNq (j+1)) (by rfl)),h2,h3,h4,h13,h15,h35,?_,?_,?_,?_,?_⟩
    · omega
    · omega
    · first|exact hp3|exact hp2
    · first|exact hl2|(rw [List.length_append]; omega)
    · first|exact he|(rw [lV (by omega)]; exact he)
    · first|exact hc2.trans (aHM (by omega) e1 e2)|(rw [lV (by omega)]; exact hc2.trans (aI4 (by omega) e1 e2 e3 e4 e5))
   have e2:=c12
   replace e2: ¬(_=true):=fun q=>absurd (q.symm.trans e2) (by decide)
   refine aC (W_d (by exact (kK h15.2 nK)) (aL t2 h2 (aJ rfl h2 rfl rfl (aA t12 (fA (i:=((nth l2 k).s)) (rVq (bI m.nx)) (rVq (iV ((nth l2 k).s))) (by omega) (by omega) rfl (aG rfl rfl (aA t11 ?_)))))))
   refine dB (i:=j) (rVq (aY (nth m.nx ((nth l2 k).s).toNat))) (rNq j) (by omega) rfl (aG rfl rfl (aJ t13 h13 rfl rfl (aA t9 (aA t10 (eI (i:=k) (rVq (V.ms 35 w 0 l2.length)) (rNq k) h35 oB rfl (by omega) (aL rfl h35 (cJ (v:=(aY ((nth l2 k).w))) rfl h35 (eG (by omega) (by rfl)) ?_)))))))
   refine aA t11 (aR rfl rfl (aR rfl rfl (aI (aHi ([(nth l2 k).w,[((j:Nat):Int)]]) (by have:=hp2.ok.len; simp only [cat,List.append_nil,List.length_append,List.length_singleton]; omega)) rfl (aW rfl rfl (aV (i:=15) (n:=v15) (m:=5) rfl h15.1 rfl (bE rfl rfl rfl rfl rfl rfl rfl rfl rfl (R_e ?_)))))))
   refine W_r (aJ t13 h13 rfl rfl (aI (zO (vNx m (nth l2 k) j).f) rfl (aA rfl (bK rfl rfl (bK rfl rfl (aA rfl (aA rfl ?_)))))))
   refine R_e (aB (W_r (aA rfl (cD rfl rfl (R_e ?_)))))
   refine aH rfl (fun c13=>?_) fun c13=>?_
   ·
    have d1:=aDG a4 (hc.trans (jF (by omega) hp.ok.len (hc2.trans (aR6 (by omega) e1 e2 c13))))
    refine aB (W_r (aW rfl rfl (aA rfl (bE t4 rfl rfl h4 rfl rfl rfl rfl rfl (aA rfl (aA rfl (R_e ?_)))))))
    refine aM (y10 _ _ (p28 _ _ (y7 _ _ (y6 _ _ (p24 _ _ (y3 _ _ ?_))))))
    refine gG (bB (u:=(V.agg [V.nilsl,V.nilsl])) t4 (@rfl Blk bTq) (lB oB rfl rfl)) (bR (rVq (V.bool false))) (bR (rVq (iV (enE (vNx m (nth l2 k) j).f)))) (fF (bU ?_) (bU ?_)) (aZ ?_) (aF ?_)
    · rw [d1]; try rfl
    · rw [d1]; try rfl
    · rw [d1]; try rfl
    · rw [d1]; try rfl
   have e3:=c13
   refine aC (aB (W_r (aA rfl (eL rfl (R_e ?_)))))
   refine bX rfl (fun c14=>?_) (fun c14=>?_)
   ·
    have e4:enB (vNx m (nth l2 k) j).f=false:=by have q:=c14; simpa [enB] using q
    have d1:=aDG a4 (hc.trans (jF (by omega) hp.ok.len (hc2.trans (aSM (by omega) e1 e2 e3 e4))))
    rw [aLk] at d1
    refine aB (W_r (aJ t2 h2 rfl rfl (aL rfl rfl (aJ rfl rfl rfl rfl (aI (aEs m (cat ([(nth l2 k).w,[((j:Nat):Int)]])) hm (by have:=hp2.ok.len; simp only [cat,List.append_nil,List.length_append,List.length_singleton]; omega) ((hp2.wd k (by omega)).cat1 (by omega) (by omega))) rfl (bE t4 rfl rfl h4 rfl rfl rfl rfl rfl (aA rfl ?_)))))))
    refine aA rfl (R_e (aM (y10 _ _ (p28 _ _ (y7 _ _ (y6 _ _ (p24 _ _ ?_)))))))
    refine y3 _ _ ?_
    refine gG (bB (u:=(V.agg [(aY (cat ([(nth l2 k).w,[((j:Nat):Int)]]))),(aY (eY m m.s (cat ([(nth l2 k).w,[((j:Nat):Int)]]))))])) t4 (@rfl Blk (bk 1 54 2 [[(aY (cat ([(nth l2 k).w,[((j:Nat):Int)]]))),(aY (eY m m.s (cat ([(nth l2 k).w,[((j:Nat):Int)]]))))]])) (lB oB rfl rfl)) (bR (rVq (V.bool true))) (bR (rVq (iV 0))) (fF (dA ?_ (fun _=>by simp)) (dA ?_ (fun _=>by simp))) (aZ ?_) (aF ?_)
    · rw [d1]; try rfl
    · rw [d1]; try rfl
    · rw [d1]; try rfl
    · rw [d1]; try rfl
   have e4: ¬enB (vNx m (nth l2 k) j).f=false:=by have q:=c14; simpa [enB] using q
   refine aC (aB (W_r (aA t9 (fQ rfl h35 (by simp) (jU rfl rfl (R_e ?_))))))
   refine aH rfl (fun c15=>?_) fun c15=>?_
   ·
    have d1:=aDG a4 (hc.trans (jF (by omega) hp.ok.len (hc2.trans (aTk (by omega) e1 e2 e3 e4 (by omega)))))
    refine aB (W_r (aW rfl rfl (bE t4 rfl rfl h4 rfl rfl rfl rfl rfl (aA rfl (aA rfl (R_e (aM ?_)))))))
    refine y10 _ _ (p28 _ _ (y7 _ _ (y6 _ _ (p24 _ _ (y3 _ _ ?_)))))
    refine gG (bB (u:=(V.agg [V.nilsl,V.nilsl])) t4 (@rfl Blk bTq) (lB oB rfl rfl)) (bR (rVq (V.bool false))) (bR (rVq (iV 11))) (fF (bU ?_) (bU ?_)) (aZ ?_) (aF ?_)
    · rw [d1]; try rfl
    · rw [d1]; try rfl
    · rw [d1]; try rfl
    · rw [d1]; try rfl
   have e5: ¬l2.length=4096:=by omega
   have hp3:=hp2.put (k:=k) (a:=j) hm (by omega) (by omega) e1 (by omega)
   refine aC (W_t (aA t9 (aJ rfl rfl rfl rfl (aR rfl rfl (cC (l:=l2) (f:=cPl) (x:=(⟨nth (nth m.nx ((nth l2 k).s).toNat) j,(sNq m (nth l2 k) j).1,cat ([(nth l2 k).w,[((j:Nat):Int)]])⟩:Pl)) (rVq (V.ms 35 w 0 l2.length)) h35 (by rfl) (rVq (V.sl [[(iV (nth (nth m.nx ((nth l2 k).s).toNat) j)),(iV ((sNq m (nth l2 k) j).1.op)),(iV ((sNq m (nth l2 k) j).1.arg)),(V.sl (List.map cF ((sNq m (nth l2 k) j).1.kids))),(aY (cat ([(nth l2 k).w,[((j:Nat):Int)]])))]])) rfl rfl (by omega) (by omega) (aA rfl (R_e ?_)))))))
   refine n10 _ _ (cP (R:=fun T H=>T 2=(mPq 2)∧T 4=(mPq 4)∧T 9=(V.ms 35 (w+1) 0 (l2.length+1))∧T 10=(iV ((k:Nat):Int))∧T 11=(iV ((j:Nat):Int))∧H 2=(bMq m)∧H 3=(bFq g)∧H 4=bTq∧H 13=(bk (v13+1) 24 3 [(rFq ((sNq m (nth l2 k) j).1))])∧H 15=(bk (v15+1) 117 5 [[(iV (nth (nth m.nx ((nth l2 k).s).toNat) j)),(iV ((sNq m (nth l2 k) j).1.op)),(iV ((sNq m (nth l2 k) j).1.arg)),(V.sl (List.map cF ((sNq m (nth l2 k) j).1.kids))),(aY (cat ([(nth l2 k).w,[((j:Nat):Int)]])))]])∧H 35=(bk (w+1) 117 5 (List.map cPl (l2++[(⟨nth (nth m.nx ((nth l2 k).s).toNat) j,(sNq m (nth l2 k) j).1,cat ([(nth l2 k).w,[((j:Nat):Int)]])⟩:Pl)])))∧True) ⟨t2,t4,(rVq (V.ms 35 (w+1) 0 (l2.length+1))),t10,t11,h2,h3,h4,h13,rfl,rfl,trivial⟩ ?_)
   intro T H ⟨t2,t4,t9,t10,t11,h2,h3,h4,h13,h15,h35,_⟩
   refine .freeze 15 (cP (R:=fun T H=>T 2=(mPq 2)∧T 4=(mPq 4)∧T 9=(V.ms 35 (w+1) 0 (l2.length+1))∧T 10=(iV ((k:Nat):Int))∧T 11=(iV ((j:Nat):Int))∧H 2=(bMq m)∧H 3=(bFq g)∧H 4=bTq∧H 13=(bk (v13+1) 24 3 [(rFq ((sNq m (nth l2 k) j).1))])∧((H 15).ver=v15+1∧(H 15).live=false)∧H 35=(bk (w+1) 117 5 (List.map cPl (l2++[(⟨nth (nth m.nx ((nth l2 k).s).toNat) j,(sNq m (nth l2 k) j).1,cat ([(nth l2 k).w,[((j:Nat):Int)]])⟩:Pl)])))∧True) ⟨(cO t2 rfl),(cO t4 rfl),(cO t9 (tZ (by decide))),(cO t10 rfl),(cO t11 rfl),(bV h2 (by decide)),(bV h3 (by decide)),(bV h4 (by decide)),(bV h13 (by decide)),(eS (cVq h15)),(bV h35 (by decide)),trivial⟩ ?_)
   intro T H ⟨t2,t4,t9,t10,t11,h2,h3,h4,h13,h15,h35,_⟩
   refine .freeze 13 (.done ?_)
   refine cP (R:=fun T H=>T 2=(mPq 2)∧T 4=(mPq 4)∧T 9=(V.ms 35 (w+1) 0 (l2.length+1))∧T 10=(iV ((k:Nat):Int))∧T 11=(iV ((j:Nat):Int))∧H 2=(bMq m)∧H 3=(bFq g)∧H 4=bTq∧((H 13).ver=v13+1∧(H 13).live=false)∧((H 15).ver=v15+1∧(H 15).live=false)∧H 35=(bk (w+1) 117 5 (List.map cPl (l2++[(⟨nth (nth m.nx ((nth l2 k).s).toNat) j,(sNq m (nth l2 k) j).1,cat ([(nth l2 k).w,[((j:Nat):Int)]])⟩:Pl)])))∧True) ⟨(cO t2 rfl),(cO t4 rfl),(cO t9 (tZ (by decide))),(cO t10 rfl),(cO t11 rfl),(bV h2 (by decide)),(bV h3 (by decide)),(bV h4 (by decide)),(eS (cVq h13)),(jC h15),(bV h35 (by decide)),trivial⟩ ?_
   intro T H ⟨t2,t4,t9,t10,t11,h2,h3,h4,h13,h15,h35,_⟩
   refine W_t (aA t11 (bC rfl (rNq 1) (by omega) (aA rfl (R_e ?_))))
   refine p18 _ _ _ ?_ ⟨(j+1),(l2++[(⟨nth (nth m.nx ((nth l2 k).s).toNat) j,(sNq m (nth l2 k) j).1,cat ([(nth l2 k).w,[((j:Nat):Int)]])⟩:Pl)]),(w+1),(v13+1),(v15+1),rfl,t2,t4,(eTq t9 (by simp)),t10,(eTq (rNq (j+1)) (by rfl)),h2,h3,h4,h13,h15,(eTq h35 (by rfl)),?_,?_,?_,?_,?_⟩
   · omega
   · omega
   · first|exact hp3|exact hp2
   · first|exact hl2|(rw [List.length_append]; omega)
   · first|exact he|(rw [lV (by omega)]; exact he)
   · first|exact hc2.trans (aHM (by omega) e1 e2)|(rw [lV (by omega)]; exact hc2.trans (aI4 (by omega) e1 e2 e3 e4 e5))
  have hr0:=hc2.trans (aDC (by omega))
  refine aN (p38 _ _ _ (x7 _ _ (n6 _ _ (.done (W_t (aA t10 (bC rfl (rNq 1) (by omega) ?_)))))))
  refine aA rfl (R_e ?_)
  refine p14 _ _ _ ?_ ⟨(k+1),l2,w,v13,v15,rfl,t2,t4,t9,(eTq (rNq (k+1)) (by rfl)),h2,h3,h4,h13,h15,h35,?_,?_,?_⟩
  · have:=hp.ok.len; omega
  · omega
  · exact hp2
  · exact hc.trans (aGB (by omega) hp.ok.len hr0)
 have d1:=aDG a4 (hc.trans (aCk (by omega)))
 refine aN (p34 _ _ _ (x3 _ _ (.done (W_r (aW rfl rfl (bE t4 rfl rfl h4 rfl rfl rfl rfl rfl (aA rfl ?_)))))))
 refine aA rfl (R_e (aO ?_))
 refine gG (bB (u:=(V.agg [V.nilsl,V.nilsl])) t4 (@rfl Blk bTq) (lB oB rfl rfl)) (bR (rVq (V.bool false))) (bR (rVq (iV 0))) (fF (bU ?_) (bU ?_)) (aZ ?_) (aF ?_)
 · rw [d1]; try rfl
 · rw [d1]; try rfl
 · rw [d1]; try rfl
 · rw [d1]; try rfl
theorem aHy (m:M) (f:Fm):aQ Tryz.prog 24 [(V.agg [(iV m.i),(iV m.s),(bI m.nx),(bI m.ot)]),(V.agg (rFq f))] (V.tup [(V.agg [(aY ((fN m f).1.ni)),(aY ((fN m f).1.no))]),(V.bool ((fN m f).2.1)),(iV ((fN m f).2.2))]):=by
 refine pW Tryz.func24 aQk fun hB=>?_
 unfold s24
 dsimp only
 refine W_r (cA (i:=2) (n:=0) (m:=4) (cs:=[(iV m.i),(iV m.s),(bI m.nx),(bI m.ot)]) rfl (cVq rfl) rfl rfl rfl (cA (i:=3) (n:=0) (m:=3) (cs:=(rFq f)) rfl (cVq rfl) rfl rfl rfl (aV (i:=4) (n:=0) (m:=2) rfl (cVq rfl) rfl (aA rfl (aA rfl (R_e (aB ?_)))))))
 refine W_r (aJ rfl rfl rfl rfl (aI (aDY m) rfl (aA rfl (R_e (aB (W_r (aA rfl ?_)))))))
 refine cD rfl rfl (R_e ?_)
 refine aH rfl (fun c1=>?_) fun c1=>?_
 ·
  have d1:=aQ1 (f:=f) c1
  refine aB (W_r (aW rfl rfl (aA rfl (bE rfl rfl rfl rfl rfl rfl rfl rfl rfl (aA rfl (aA rfl (R_e ?_)))))))
  refine aM ?_
  refine gG (bB (u:=(V.agg [V.nilsl,V.nilsl])) rfl (@rfl Blk bTq) (lB oB rfl rfl)) (bR (rVq (V.bool false))) (bR (rVq (iV (dS m)))) (fF (bU ?_) (bU ?_)) (aZ ?_) (aF ?_)
  · rw [d1]; try rfl
  · rw [d1]; try rfl
  · rw [d1]; try rfl
  · rw [d1]; try rfl
 have a1:=c1
 refine aC (aB (W_r (aJ rfl rfl rfl rfl (aI (eH f) rfl (aA rfl (R_e (aB ?_)))))))
 refine W_r (aA rfl (cD rfl rfl (R_e ?_)))
 refine aH rfl (fun c2=>?_) fun c2=>?_
 ·
  have d1:=aO5 a1 c2
  refine aB (W_r (aW rfl rfl (aA rfl (bE rfl rfl rfl rfl rfl rfl rfl rfl rfl (aA rfl (aA rfl (R_e ?_)))))))
  refine aM ?_
  refine gG (bB (u:=(V.agg [V.nilsl,V.nilsl])) rfl (@rfl Blk bTq) (lB oB rfl rfl)) (bR (rVq (V.bool false))) (bR (rVq (iV (cW f)))) (fF (bU ?_) (bU ?_)) (aZ ?_) (aF ?_)
  · rw [d1]; try rfl
  · rw [d1]; try rfl
  · rw [d1]; try rfl
  · rw [d1]; try rfl
 have a2:=c2
 refine aC (W_r (aJ rfl rfl rfl rfl (aI (oA f) rfl (aA rfl (bK rfl rfl (bK rfl rfl (aV (i:=9) (n:=0) (m:=3) rfl (cVq rfl) rfl ?_)))))))
 refine bE rfl rfl rfl rfl rfl rfl rfl rfl rfl (aA rfl (R_e (aB (W_r (aA rfl (cD rfl rfl (R_e ?_)))))))
 refine aH rfl (fun c3=>?_) fun c3=>?_
 ·
  have d1:=aOE a1 a2 c3
  refine aB (W_r (aW rfl rfl (aA rfl (bE rfl rfl rfl rfl rfl rfl rfl rfl rfl (aA rfl (aA rfl (R_e ?_)))))))
  refine aM ?_
  refine gG (bB (u:=(V.agg [V.nilsl,V.nilsl])) rfl (@rfl Blk bTq) (lB oB rfl rfl)) (bR (rVq (V.bool false))) (bR (rVq (iV ((bG f).2)))) (fF (bU ?_) (bU ?_)) (aZ ?_) (aF ?_)
  · rw [d1]; try rfl
  · rw [d1]; try rfl
  · rw [d1]; try rfl
  · rw [d1]; try rfl
 have d1:=aPy a1 a2 c3
 have v0:=sK c3
 refine aC (W_r (aJ rfl rfl rfl rfl (aJ rfl rfl rfl rfl (aI (aBm m ((bG f).1) (by omega) v0) rfl (bK rfl rfl (bK rfl rfl (bK rfl rfl ?_)))))))
 refine bE rfl rfl rfl rfl rfl rfl rfl rfl rfl (aA rfl (aA rfl (R_e (aO ?_))))
 refine gG (bB (u:=(V.agg [(aY ((srD m ((bG f).1)).1.ni)),(aY ((srD m ((bG f).1)).1.no))])) rfl (@rfl Blk (bk 1 54 2 [[(aY ((srD m ((bG f).1)).1.ni)),(aY ((srD m ((bG f).1)).1.no))]])) (lB oB rfl rfl)) (bR (rVq (V.bool ((srD m ((bG f).1)).2.1)))) (bR (rVq (iV ((srD m ((bG f).1)).2.2)))) (fF (dA ?_ (fun _=>by simp)) (dA ?_ (fun _=>by simp))) (aZ ?_) (aF ?_)
 · rw [d1]; try rfl
 · rw [d1]; try rfl
 · rw [d1]; try rfl
 · rw [d1]; try rfl
def aTL:List SO:=[
 qM 17 0,
 qM 18 5,
 qA 19 2 17 18,
 qF 20 0 19,
 ql 21 20,
 qM 22 1,
 qM 23 5,
 qA 24 2 22 23,
 qF 25 0 24,
 ql 26 25,
 sO 27 (.call false 32 [.t 21,.t 26]),
 sO 28 (.un .not (.t 27)),
 qM 29 28,
 ⟨some (29,false),some 30,.mv (.t 0)⟩,
 ⟨some (29,false),some 31,.mv (.t 5)⟩,
 ⟨some (29,false),some 32,.idx 2 (.t 30) (.t 31)⟩,
 ⟨some (29,false),some 33,.fld 1 (.t 32)⟩,
 ⟨some (29,false),some 34,.load false 1 (.t 33)⟩,
 ⟨some (29,false),some 35,.mv (.t 1)⟩,
 ⟨some (29,false),some 36,.mv (.t 5)⟩,
 ⟨some (29,false),some 37,.idx 2 (.t 35) (.t 36)⟩,
 ⟨some (29,false),some 38,.fld 1 (.t 37)⟩,
 ⟨some (29,false),some 39,.load false 1 (.t 38)⟩,
 ⟨some (29,false),some 40,.call false 32 [.t 34,.t 39]⟩,
 ⟨some (29,false),some 41,.un .not (.t 40)⟩,
 sO 42 (.pick (.t 29) (.c (.bool true)) (.t 41))]
def aNH:SC:=.seq (.seq (.reg [qM 11 5,qM 12 0,qN 13 12,qP 14 .lss 11 13]) (.cond (.t 14) (.skip) (.exit 0))) (.seq (.block 1 (.seq (.reg aTL) (.cond (.t 42) (.seq (.reg [sO 4 (.mv (.c (.bool false)))]) (.ret)) (.skip)))) (.reg [qM 15 5,qC 16 .add 15 1,qM 5 16]))
def s25:SF:=⟨43,[.tmp 4],.seq (.reg [sO 4 (.mv (.c (.bool false)))]) (.seq (.seq (.reg [qM 6 0,qN 7 6,qM 8 1,qN 9 8,qP 10 .neq 7 9]) (.cond (.t 10) (.seq (.reg [sO 4 (.mv (.c (.bool false)))]) (.ret)) (.skip))) (.seq (.seq (.reg [qI 5 0]) (.block 0 (.loop aNH))) (.seq (.reg [sO 4 (.mv (.c (.bool true)))]) (.ret))))⟩
theorem aQZ:bJ Tryz.prog ⟨oEq,[],[],[]⟩ Tryz.f25=some s25:=by kernel_rfl
theorem aKr (a b:List Tr):aQ Tryz.prog 25 [(V.sl (List.map cT a)),(V.sl (List.map cT b))] (V.bool (decide (a=b))):=by
 refine pW Tryz.func25 aQZ fun hB=>?_
 unfold s25
 dsimp only
 refine W_r (aA rfl (R_e (aB (W_r (aA rfl (bF rfl (aA rfl ?_)))))))
 refine bF rfl (cD rfl rfl (R_e ?_))
 refine aH rfl (fun c1=>?_) fun c1=>?_
 ·
  refine aB (W_r (aA rfl (R_e (aM ?_))))
  refine bH (rVq (V.bool false)) (aZ ?_)
  · exact (decide_eq_false (fun e=>by subst e; omega)).symm
 refine aC (aB (W_r (aA rfl (R_e (aD fun Q2 n2 x2 y2 z2=>?_)))))
 refine bS (fun mm T H=> ∃ (k:Nat),mm=a.length - k∧T 0=(V.sl (List.map cT a))∧T 1=(V.sl (List.map cT b))∧T 5=(iV ((k:Nat):Int))∧(k≤a.length)∧(a.length=b.length)∧(∀ j,j < k→nth a j=nth b j)) ?_ ?_
 ·
  refine ⟨_,0,rfl,rfl,rfl,(eTq (rVq (iV 0)) rfl),?_,?_,?_⟩
  · omega
  · omega
  · intro j hj; omega
 intro mm T H ⟨k,hmm,t0,t1,t5,hk,hl,hc⟩ Q3 p13 p23 p33
 unfold aNH
 refine aB (W_r (aA t5 (aA t0 (bF rfl (bO rfl rfl (R_e ?_))))))
 refine aH rfl (fun c4=>?_) fun c4=>?_
 ·
  refine aC (aD fun Q5 n5 x5 y5 z5=>(W_r (aA t0 (aA t5 (dB (i:=k) (rVq (V.sl (List.map cT a))) (rNq k) (by omega) rfl (iW (cs':=[(aY ((nth a k).ni)),(aY ((nth a k).no))]) rfl rfl (aG rfl rfl ?_)))))))
  refine aA t1 (aA t5 (dB (i:=k) (rVq (V.sl (List.map cT b))) (rNq k) (by omega) rfl (iW (cs':=[(aY ((nth b k).ni)),(aY ((nth b k).no))]) rfl rfl (aG rfl rfl (aI (mJ ((nth a k).ni) ((nth b k).ni)) rfl (yH rfl (aA rfl ?_)))))))
  refine aT 13 (fun T H=>T 0=(V.sl (List.map cT a))∧T 1=(V.sl (List.map cT b))∧T 5=(iV ((k:Nat):Int))∧T 42=(V.bool (decide ((¬(((nth a k).ni)=((nth b k).ni)))∨(¬(((nth a k).no)=((nth b k).no))))))∧True) ?_ ?_
  ·
   by_cases g6: ¬(((nth a k).ni)=((nth b k).ni))
   ·
    refine G_n (edT g6 rfl) (G_n (edT g6 rfl) (G_n (edT g6 rfl) (G_n (edT g6 rfl) (G_n (edT g6 rfl) (G_n (edT g6 rfl) (G_n (edT g6 rfl) (G_n (edT g6 rfl) ?_)))))))
    refine G_n (edT g6 rfl) (G_n (edT g6 rfl) (G_n (edT g6 rfl) (G_n (edT g6 rfl) (aS (edT g6 rfl) rfl ?_))))
    exact ⟨t0,t1,t5,(cV g6),trivial⟩
   ·
    refine aE (edF g6 rfl) (aA t0 (aE (edF g6 rfl) (aA t5 (aE (edF g6 rfl) (dB (i:=k) (rVq (V.sl (List.map cT a))) (rNq k) (by omega) rfl (aE (edF g6 rfl) (iW (cs':=[(aY ((nth a k).no))]) rfl rfl ?_)))))))
    refine aE (edF g6 rfl) (aG rfl rfl (aE (edF g6 rfl) (aA t1 (aE (edF g6 rfl) (aA t5 (aE (edF g6 rfl) (dB (i:=k) (rVq (V.sl (List.map cT b))) (rNq k) (by omega) rfl ?_)))))))
    refine aE (edF g6 rfl) (iW (cs':=[(aY ((nth b k).no))]) rfl rfl (aE (edF g6 rfl) (aG rfl rfl (aE (edF g6 rfl) (aI (mJ ((nth a k).no) ((nth b k).no)) rfl (aE (edF g6 rfl) (yH rfl ?_)))))))
    refine aU (edF g6 rfl) rfl ?_
    exact ⟨t0,t1,t5,(cU g6),trivial⟩
  intro T H ⟨t0,t1,t5,t42,_⟩
  refine R_e ?_
  refine bZ t42 (fun c7=>?_) fun c7=>?_
  ·
   have d1:nth a k≠nth b k:=fun e=>by rw [e] at c7; simp at c7
   refine W_r (aA rfl (R_e (aO (y5 _ _ (p23 _ _ (y2 _ _ ?_))))))
   refine bH (rVq (V.bool false)) (aZ ?_)
   · exact (decide_eq_false (fun e=>d1 (by subst e; rfl))).symm
  have d1:nth a k=nth b k:=Tr.eq_iff.2 (by simpa using c7)
  refine cN (n5 _ _ (.done (W_t (aA t5 (bC rfl (rNq 1) (by omega) (aA rfl (R_e ?_)))))))
  refine p13 _ _ _ ?_ ⟨(k+1),rfl,t0,t1,(eTq (rNq (k+1)) (by rfl)),?_,?_,?_⟩
  · omega
  · omega
  · omega
  · intro j hj
    by_cases e:j=k
    · subst e; exact d1
    · exact hc j (by omega)
 refine aN (p33 _ _ _ (x2 _ _ (.done (W_r (aA rfl (R_e (aO ?_)))))))
 refine bH (rVq (V.bool true)) (aZ ?_)
 · exact (decide_eq_true (wL hl fun j hj=>hc j (by omega))).symm
theorem aHe (m:M) (f:Fm):aQ Tryz.prog 5 [(V.agg [(iV m.i),(iV m.s),(bI m.nx),(bI m.ot)]),(V.agg (rFq f))] (V.bool true):=by
 refine pW Tryz.func5 aSu fun hB=>?_
 unfold s5
 dsimp only
 refine W_r (cA (i:=2) (n:=0) (m:=4) (cs:=[(iV m.i),(iV m.s),(bI m.nx),(bI m.ot)]) rfl (cVq rfl) rfl rfl rfl (cA (i:=3) (n:=0) (m:=3) (cs:=(rFq f)) rfl (cVq rfl) rfl rfl rfl (aA rfl (R_e (aB (W_r (aJ rfl rfl rfl rfl ?_)))))))
 refine aJ rfl rfl rfl rfl (aI (aBc m f) rfl (eL rfl (R_e ?_)))
 refine bX rfl (fun c1=>?_) (fun c1=>?_)
 ·
  refine aB (W_r (aI aAZ rfl (aA rfl (R_e (aM ?_)))))
  refine bH (rVq (V.bool true)) (cH (by simp) rfl)
 have hs:aIo m f=true:=by have q:=c1; simpa using q
 refine aC (W_r (aJ rfl rfl rfl rfl (aJ rfl rfl rfl rfl (aI (lD m f) rfl (aA rfl (bK rfl rfl (bK rfl rfl ?_)))))))
 refine bK rfl rfl (aV (i:=5) (n:=0) (m:=2) rfl (cVq rfl) rfl (bE rfl rfl rfl rfl rfl rfl rfl rfl rfl (aA rfl (aA rfl (R_e (W_r (aJ rfl rfl rfl rfl ?_)))))))
 refine aJ rfl rfl rfl rfl (aI (aHy m f) rfl (aA rfl (bK rfl rfl (bK rfl rfl (bK rfl rfl (aV (i:=8) (n:=0) (m:=2) rfl (cVq rfl) rfl (bE rfl rfl rfl rfl rfl rfl rfl rfl rfl ?_)))))))
 refine aA rfl (aA rfl (R_e ?_))
 refine jD (fun T H=>T 4=(V.bool (((decide (([(vck m f).1])=([(fN m f).1]))&&(((vck m f).2.1)==((fN m f).2.1)))&&decide (((vck m f).2.2)=((fN m f).2.2)))||false))∧H 2=(bMq m)∧H 3=(bFq f)∧H 5=(bk 1 54 2 [[(aY ((vck m f).1.ni)),(aY ((vck m f).1.no))]])∧H 8=(bk 1 54 2 [[(aY ((fN m f).1.ni)),(aY ((fN m f).1.no))]])∧True) ?_ ?_
 ·
  refine aJ rfl rfl rfl rfl (aR rfl rfl (aJ rfl rfl rfl rfl (aR rfl rfl (aI (aKr ([(vck m f).1]) ([(fN m f).1])) rfl (aA rfl ?_)))))
  refine aT 4 (fun T H=>T 7=(iV ((vck m f).2.2))∧T 10=(iV ((fN m f).2.2))∧T 39=(V.bool (decide (([(vck m f).1])=([(fN m f).1]))&&(((vck m f).2.1)==((fN m f).2.1))))∧H 2=(bMq m)∧H 3=(bFq f)∧H 5=(bk 1 54 2 [[(aY ((vck m f).1.ni)),(aY ((vck m f).1.no))]])∧H 8=(bk 1 54 2 [[(aY ((fN m f).1.ni)),(aY ((fN m f).1.no))]])∧True) ?_ ?_
  ·
   by_cases g2:([(vck m f).1])=([(fN m f).1])
   ·
    refine aE (edT g2 rfl) (aA rfl (aE (edT g2 rfl) (aA rfl (aE (edT g2 rfl) (aQo (x:=((vck m f).2.1)) (y:=((fN m f).2.1)) rfl rfl (aS (edT g2 rfl) rfl ?_))))))
    exact ⟨rfl,rfl,(rH g2),rfl,rfl,rfl,rfl,trivial⟩
   ·
    refine G_n (edF g2 rfl) (G_n (edF g2 rfl) (G_n (edF g2 rfl) (aU (edF g2 rfl) rfl ?_)))
    exact ⟨rfl,rfl,(rG g2),rfl,rfl,rfl,rfl,trivial⟩
  intro T H ⟨t7,t10,t39,h2,h3,h5,h8,_⟩
  refine aA t39 ?_
  refine aT 4 (fun T H=>T 44=(V.bool ((decide (([(vck m f).1])=([(fN m f).1]))&&(((vck m f).2.1)==((fN m f).2.1)))&&decide (((vck m f).2.2)=((fN m f).2.2))))∧H 2=(bMq m)∧H 3=(bFq f)∧H 5=(bk 1 54 2 [[(aY ((vck m f).1.ni)),(aY ((vck m f).1.no))]])∧H 8=(bk 1 54 2 [[(aY ((fN m f).1.ni)),(aY ((fN m f).1.no))]])∧True) ?_ ?_
  ·
   by_cases g3:(decide (([(vck m f).1])=([(fN m f).1]))&&(((vck m f).2.1)==((fN m f).2.1)))=true
   ·
    have g3x:=g3
    try simp only [Bool.and_eq_true,Bool.or_eq_true,Bool.not_eq_true',decide_eq_true_eq] at g3x
    refine aE (ebT g3 rfl) (aA t7 (aE (ebT g3 rfl) (aA t10 (aE (ebT g3 rfl) (aX rfl rfl (aS (ebT g3 rfl) rfl ?_))))))
    exact ⟨(aIn g3),h2,h3,h5,h8,trivial⟩
   ·
    have g3x:=g3
    try simp only [Bool.and_eq_true,Bool.or_eq_true,Bool.not_eq_true',decide_eq_true_eq] at g3x
    refine G_n (ebF g3 rfl) (G_n (ebF g3 rfl) (G_n (ebF g3 rfl) (aU (ebF g3 rfl) rfl ?_)))
    exact ⟨(aIe g3),h2,h3,h5,h8,trivial⟩
  intro T H ⟨t44,h2,h3,h5,h8,_⟩
  refine aA t44 ?_
  refine aT 2 (fun T H=>T 47=(V.bool (((decide (([(vck m f).1])=([(fN m f).1]))&&(((vck m f).2.1)==((fN m f).2.1)))&&decide (((vck m f).2.2)=((fN m f).2.2)))||false))∧H 2=(bMq m)∧H 3=(bFq f)∧H 5=(bk 1 54 2 [[(aY ((vck m f).1.ni)),(aY ((vck m f).1.no))]])∧H 8=(bk 1 54 2 [[(aY ((fN m f).1.ni)),(aY ((fN m f).1.no))]])∧True) ?_ ?_
  ·
   by_cases g4:((decide (([(vck m f).1])=([(fN m f).1]))&&(((vck m f).2.1)==((fN m f).2.1)))&&decide (((vck m f).2.2)=((fN m f).2.2)))=true
   ·
    have g4x:=g4
    try simp only [Bool.and_eq_true,Bool.or_eq_true,Bool.not_eq_true',decide_eq_true_eq] at g4x
    refine aE (ebT g4 rfl) (aI aAZ rfl (aS (ebT g4 rfl) rfl ?_))
    exact ⟨(aKm g4),h2,h3,h5,h8,trivial⟩
   ·
    have g4x:=g4
    try simp only [Bool.and_eq_true,Bool.or_eq_true,Bool.not_eq_true',decide_eq_true_eq] at g4x
    refine G_n (ebF g4 rfl) (aU (ebF g4 rfl) rfl ?_)
    exact ⟨(aKv g4),h2,h3,h5,h8,trivial⟩
  intro T H ⟨t47,h2,h3,h5,h8,_⟩
  refine aA t47 ?_
  exact dZ ⟨rfl,h2,h3,h5,h8,trivial⟩
 intro T H ⟨t4,h2,h3,h5,h8,_⟩
 refine aO ?_
 refine bH t4 (aZ ?_)
 · first|rfl|(rw [aMX hs]; simp)
end Go.Proofs.YteehaobohaecmaaGreatDoor
namespace Go.Proofs.YteehaobohaecmaaGreatDoor
open Go Go.ChangeShapes Go.WideShapes Go.ChangeAt Go.RowKit
def okS (P:Program) (S:List TypeId) (t:TypeId):Bool:=match P.underlying t with
  |some .bool=>true
  |some (.int _)=>true
  |some .string=>true
  |some (.slice e)=>decide (e∈S)&&decide (P.cellsOf e≠0)
  |some (.struct fs)=>fs.toList.all (fun f=>decide (f.type∈S))&&aCs P (P.cellsOf t) 0 fs.toList
  |some (.array m e)=>decide (e∈S)&&decide (m*P.cellsOf e=P.cellsOf t)
  |_=>false
section
variable {H:Type} {enc:TypeId×Value→H} {P:Program} {base:Nat} {spare:Nat→Bool} {held:Bool}
theorem aK5 {x : Cx} (hZ : ∀ b, b < x.w.heap.size → x.Z b) {S : List TypeId} (hS : ∀ t ∈ S, okS P S t = true) : ∀ (fuel : Nat) (t : TypeId), t ∈ S → ∀ (cs : List Value) (y : DataW H × List MemPlace), DataW.trod enc P x.w base spare held fuel t cs = some y →
    ∃ vs,Shp P fuel t vs∧RC x vs cs:=by
  intro n
  induction n with
  |zero=>intro t _ cs y hy; simp [DataW.trod] at hy
  | succ n ih =>
    intro t hm cs y hy
    have hok:=hS t hm
    have one: ∀ {v:V} {c:Value},R x v c→RC x [v] [c]:=fun {v c} h=>⟨rfl,fun j u hj=>by
      cases j with
      |zero=>simp at hj; subst hj; exact h
      |succ j=>simp at hj⟩
    simp only [okS] at hok
    split at hok
    · rename_i ht
      simp only [Shp,ht]
      obtain ⟨b,rfl,_⟩:=DataW.trod_bool ht hy
      exact ⟨[.bool b],⟨b,rfl⟩,one (.bool b)⟩
    · rename_i k ht
      simp only [Shp,ht]
      obtain ⟨m,rfl,_,hw⟩:=DataW.trod_int ht hy
      exact ⟨[.int k m],⟨m,rfl,hw⟩,one (.int k m)⟩
    · rename_i ht
      simp only [Shp,ht]
      obtain ⟨s,rfl,_⟩:=DataW.trod_string ht hy
      exact ⟨[.str s.data.toList],⟨_,rfl⟩,one (R.str s.data.toList)⟩
    · rename_i e ht
      simp only [Shp,ht]
      simp only [Bool.and_eq_true,decide_eq_true_eq] at hok
      obtain ⟨hok,hnz⟩:=hok
      rcases DataW.trod_slice ht hy with ⟨rfl,_⟩|⟨a,len,cap,elems,rest,m,em,rfl,_,hb,hl,hc,hlen,hel,_,_⟩
      · exact ⟨[.sl []],⟨[],rfl,fun r hr=>by cases hr⟩,one .slnil⟩
      · obtain rfl:n=m:=by omega
        have hall: ∀ i,i < len→ ∃ r:List V,Shp P n e r∧ ∃ ci:List Value,x.w.cells? base (a.add (i*P.cellsOf e)) (P.cellsOf e)=some ci∧RC x r ci:=by
          intro i hi
          have h1:=hel i hi
          rw [List.getElem?_eq_getElem (by omega)] at h1
          cases h2:x.w.cells? base (a.add (i*P.cellsOf e)) (P.cellsOf e) with
          |none=>rw [h2] at h1; cases h1
          | some ci =>
            rw [h2] at h1
            obtain ⟨vs,h3,h4⟩:=ih e hok ci _ h1
            exact ⟨vs,h3,ci,rfl,h4⟩
        obtain ⟨rows,hrl,hrows⟩:=aLZ hall
        have hcell: ∀ (r:Nat) (row:List V) (j:Nat) (v:V),rows[r]?=some row→row[j]?=some v→
            ∃ c,x.w.cell? (a.add (r*P.cellsOf e+j))=some c∧R x v c:=by
          intro r row j v hr hj
          obtain ⟨_,ci,g1,g2⟩:=hrows r row hr
          obtain ⟨_,g4,g5⟩:=World.cells?_some g1
          have hjlt:j < ci.length:=by have:=(List.getElem?_eq_some_iff.1 hj).1; rw [← g2.1]; exact this
          have g6:=g5 j (by omega)
          rw [List.getElem?_eq_getElem hjlt,Addr.add_add] at g6
          refine ⟨_,g6,?_⟩
          have:=g2.2 j v hj
          rw [List.getD_eq_getElem?_getD,List.getElem?_eq_getElem hjlt] at this
          exact this
        have key:=R.sl (x:=x) rows a cap (P.cellsOf e) (fun k=>(x.w.cell? (a.add k)).getD undef) (by omega) hc ?_ ?_ ?_ ?_
        · rw [hrl] at key
          exact ⟨[.sl rows],⟨rows,rfl,fun r hr=>by obtain ⟨i,hi⟩:=List.getElem?_of_mem hr; exact (hrows i r hi).1⟩,one key⟩
        · intro hne
          cases hrr:rows with
          |nil=>exact (hne hrr).elim
          | cons r0 rs =>
            obtain ⟨_,ci,g1,g2⟩:=hrows 0 r0 (by rw [hrr]; rfl)
            · obtain ⟨_,g4,g5⟩:=World.cells?_some g1
              have g6:=g5 0 (by omega)
              rw [List.getElem?_eq_getElem (by omega),Addr.add_add] at g6
              have hlt:(a.add (0*P.cellsOf e+0)).block < x.w.heap.size:=by
                unfold World.cell? at g6
                split at g6
                · rename_i hh
                  exact (Array.getElem?_eq_some_iff.1 hh).1
                · cases g6
              exact hZ _ (by simpa [Addr.add] using hlt)
        · intro r hr
          obtain ⟨i,hi⟩:=List.getElem?_of_mem hr
          obtain ⟨_,ci,g1,g2⟩:=hrows i r hi
          rw [g2.1]
          exact (World.cells?_some g1).2.1
        · intro r row j v hr hj
          obtain ⟨c,g1,_⟩:=hcell r row j v hr hj
          rw [g1]; rfl
        · intro r row j v hr hj
          obtain ⟨c,g1,g2⟩:=hcell r row j v hr hj
          simp only [g1,Option.getD_some]
          exact g2
    · rename_i fs ht
      simp only [Shp,ht]
      simp only [Bool.and_eq_true] at hok
      obtain ⟨xs,m,em,_,hl,hxl,hf⟩:=DataW.trod_struct ht hy
      obtain rfl:n=m:=by omega
      have hfs: ∀ f∈fs.toList,∃ z,DataW.trod enc P x.w base spare held n f.type ((cs.drop f.offset).take (P.cellsOf f.type))=some z:=by
        intro f hm
        obtain ⟨i,hi⟩:=List.getElem?_of_mem hm
        have hi':fs[i]?=some f:=by simpa using hi
        have hlt:i < xs.length:=by
          have:=(Array.getElem?_eq_some_iff.1 hi').1
          omega
        exact ⟨xs[i],by rw [hf i f hi',List.getElem?_eq_getElem hlt]⟩
      have hok':=List.all_eq_true.1 hok.1
      have main: ∀ (l:List Field) (off:Nat),(∀ f∈l,f∈fs.toList)→aCs P (P.cellsOf t) off l=true→off≤cs.length→ ∃ vs,aCw (Shp P n) l vs∧RC x vs (cs.drop off):=by
        intro l
        induction l with
        | nil =>
          intro off _ htl hle
          simp only [aCs,decide_eq_true_eq] at htl
          refine ⟨[],rfl,?_⟩
          rw [List.drop_of_length_le (by omega)]
          exact ⟨rfl,fun j v hj=>by simp at hj⟩
        | cons f r ihr =>
          intro off hsub htl hle
          simp only [aCs,Bool.and_eq_true,decide_eq_true_eq] at htl
          obtain ⟨z,hz⟩:=hfs f (hsub f (List.mem_cons_self ..))
          obtain ⟨va,g1,g2⟩:=ih f.type (of_decide_eq_true (hok' f (hsub f (List.mem_cons_self ..)))) _ _ hz
          have hoff:off+P.cellsOf f.type≤cs.length:=by
            rw [hl]
            have: ∀ (l:List Field) (o:Nat),aCs P (P.cellsOf t) o l=true→o≤P.cellsOf t:=by
              intro l
              induction l with
              |nil=>intro o h; simp only [aCs,decide_eq_true_eq] at h; omega
              |cons f r ih=>intro o h; simp only [aCs,Bool.and_eq_true,decide_eq_true_eq] at h; have:=ih _ h.2; omega
            exact this _ _ htl.2
          obtain ⟨vb,g3,g4⟩:=ihr (off+P.cellsOf f.type) (fun q hq=>hsub q (List.mem_cons_of_mem _ hq)) htl.2 hoff
          refine ⟨va++vb,⟨va,vb,rfl,g1,g3⟩,?_⟩
          have hsplit:cs.drop off=(cs.drop off).take (P.cellsOf f.type)++cs.drop (off+P.cellsOf f.type):=by
            rw [← List.drop_drop,List.take_append_drop]
          rw [hsplit]
          rw [htl.1] at g2
          exact aAm g2 g4
      obtain ⟨vs,g1,g2⟩:=main fs.toList 0 (fun _ h=>h) hok.2 (Nat.zero_le _)
      exact ⟨vs,g1,by simpa using g2⟩
    · rename_i m e ht
      simp only [Shp,ht]
      simp only [Bool.and_eq_true,decide_eq_true_eq] at hok
      obtain ⟨xs,f,em,_,hl,hxl,hf⟩:=DataW.trod_array ht hy
      obtain rfl:n=f:=by omega
      have main: ∀ (k i:Nat),i+k=m→ ∃ vs,aOC (Shp P n e) k vs∧RC x vs (cs.drop (i*P.cellsOf e)):=by
        intro k
        induction k with
        | zero =>
          intro i hi
          refine ⟨[],rfl,?_⟩
          rw [List.drop_of_length_le (by rw [hl,← hok.2,show i=m by omega]; exact Nat.le_refl _)]
          exact ⟨rfl,fun j v hj=>by simp at hj⟩
        | succ k ihk =>
          intro i hi
          have hlt:i < m:=by omega
          have hz:=hf i hlt
          rw [List.getElem?_eq_getElem (by omega)] at hz
          obtain ⟨va,g1,g2⟩:=ih e hok.1 _ _ hz
          obtain ⟨vb,g3,g4⟩:=ihk (i+1) (by omega)
          refine ⟨va++vb,⟨va,vb,rfl,g1,g3⟩,?_⟩
          have hsplit:cs.drop (i*P.cellsOf e)=(cs.drop (i*P.cellsOf e)).take (P.cellsOf e)++cs.drop ((i+1)*P.cellsOf e):=by
            rw [Nat.add_mul,Nat.one_mul,← List.drop_drop,List.take_append_drop]
          rw [hsplit]
          exact aAm g2 g4
      obtain ⟨vs,g1,g2⟩:=main m 0 (by omega)
      exact ⟨vs,g1,by simpa using g2⟩
    · cases hok
theorem aLA {x:Cx} (hZ: ∀ b,b < x.w.heap.size→x.Z b) {S:List TypeId} (hS: ∀ t∈S,okS P S t=true) {t:TypeId} (ht0:t∈S) {r:Reach} {b0 base:Nat} {spare:Nat→Bool} {held:Bool} {v:Value} {d:DataW H} {ps:List MemPlace}
    (vZ:Value.okWide P x.w r b0 t v) (hd:DataW.Trod enc P x.w base spare held t v d ps): ∃ n vs,Shp P n t vs∧R x (sX P t vs) v:=by
  obtain ⟨fuel,hf⟩:=hd
  obtain ⟨vs,h1,h2⟩:=aK5 hZ hS fuel t ht0 _ _ hf
  refine ⟨fuel,vs,h1,?_⟩
  have hok:=hS t ht0
  unfold sX
  simp only [okS] at hok
  split at hok
  · rename_i ht
    obtain ⟨b,rfl⟩:=okWide_bool ht vZ
    rw [ht]; exact aCd h2
  · rename_i k ht
    obtain ⟨m,rfl⟩:=okWide_int ht vZ
    rw [ht]; exact aCd h2
  · rename_i ht
    obtain ⟨s,rfl⟩:=okWide_string ht vZ
    rw [ht]; exact aCd h2
  · rename_i e ht
    obtain ⟨a,l,c,rfl⟩:=okWide_slice ht vZ
    rw [ht]; exact aCd h2
  · rename_i fs ht
    obtain ⟨cs,rfl,_⟩:=okWide_struct ht vZ
    rw [ht]
    refine .agg vs cs (by have:=h2.1; simp [Value.cells] at this; omega) fun j u hj=>?_
    have:=h2.2 j u hj
    rw [List.getD_eq_getElem?_getD] at this
    rw [Array.getD_eq_getD_getElem?,← Array.getElem?_toList]
    exact this
  · rename_i m e ht
    have hval2:=vZ
    simp only [Value.okWide,ht] at hval2
    obtain ⟨cs,rfl,_⟩:=hval2
    rw [ht]
    refine .agg vs cs (by have:=h2.1; simp [Value.cells] at this; omega) fun j u hj=>?_
    have:=h2.2 j u hj
    rw [List.getD_eq_getElem?_getD] at this
    rw [Array.getD_eq_getD_getElem?,← Array.getElem?_toList]
    exact this
  · cases hok
def aEq (P:Program):List TypeId→List V→Prop
  |[],vs=>vs=[]
  |t::ts,vs=> ∃ n a b,vs=sX P t a::b∧Shp P n t a∧aEq P ts b
theorem aAr {x:Cx} (hZ: ∀ b,b < x.w.heap.size→x.Z b) {S:List TypeId} (hS: ∀ t∈S,okS P S t=true) {r:Reach} {b0 base:Nat} {spare:Nat→Bool} {held:Bool}: ∀ (ts:List TypeId) (vs:List Value) (ds:List (DataW H)) (ps:List MemPlace),
    (∀ t∈ts,t∈S)→(∀ (j:Nat) t v,ts[j]?=some t→vs[j]?=some v→Value.okWide P x.w r b0 t v)→DataW.TrodAll enc P x.w base spare held ts vs ds ps→
    ∃ us,aEq P ts us∧RL x us vs
  | [], vs, ds, ps, _, _, h => by
    obtain ⟨rfl,rfl,rfl⟩:=trodAll_nil h
    exact ⟨[],rfl,rfl,fun j v hj=>by simp at hj⟩
  | t :: ts, vs, ds, ps, hok, vZ, h => by
    obtain ⟨v,vs1,d,ds1,a,b,rfl,rfl,rfl,h1,h2⟩:=trodAll_cons h
    obtain ⟨n,ws,g1,g2⟩:=aLA hZ hS (hok t (List.mem_cons_self ..)) (vZ 0 t v rfl rfl) h1
    obtain ⟨us,g3,g4⟩:=aAr hZ hS ts vs1 ds1 b (fun q hq=>hok q (List.mem_cons_of_mem _ hq)) (fun j q u hq hu=>vZ (j+1) q u (by simpa using hq) (by simpa using hu)) h2
    refine ⟨sX P t ws::us,⟨n,ws,us,rfl,g1,g3⟩,by simp [g4.1],fun j u hj=>?_⟩
    cases j with
    |zero=>simp at hj; subst hj; exact g2
    |succ j=>exact g4.2 j u (by simpa using hj)
theorem aGM {f:FuncId} {fn:Func} {s:ChangeSpec} {apart fresh handsOn again:Bool} {tb:Nat} {S:List TypeId} {W:World} {args:Array Value} {ds gs:List (DataW H)} {before:List MemPlace}
    (hl:laidOutB P=true) (hres:fn.resultTypes=#[tb]) (htb:P.underlying tb=some .bool) (hS: ∀ t∈S,okS P S t=true) (hts: ∀ t∈fn.params.toList,t∈S∧P.readableRec t=true∧t < P.types.size)
    (hvars:s.vars=[]) (hs:s.fn H (ds++gs)={results:=[.lit (.bool true)],args:=ds})
    (hlaw: ∀ us,aEq P fn.params.toList us→aQ P f us (.bool true))
    (vZ: ∀ (j:Nat) t v,fn.params[j]?=some t→args[j]?=some v→Value.okWide P W .any 0 t v)
    (hW:DataW.Whole enc P fn.params.toList s.vars apart W args.toList ds gs before) (htab:aKE W (fun b=>b < W.heap.size):=by intro p hp; simp [aLL] at hp):
    Calls P f args W fun e W'=> ∃ v,e=.returned v∧s.post enc P fn apart fresh handsOn again W args v W':=by
  have hW':=hW
  obtain ⟨p,q,hA,hV,rfl,hfz,hnd⟩:=hW
  rw [hvars] at hV
  obtain ⟨rfl,rfl⟩:=trodVars_none hV
  have hlt:=hW'.lt
  let x:Cx:=start {w:=W,Z:=fun b=>b < W.heap.size,σ:=fun _=>0,H:=H0} (fun b=>b < W.heap.size)
  have hx:Inv x:=mE (fun b hb=>hb) htab
  obtain ⟨us,g1,g2⟩:=aAr (x:=x) (fun b hb=>hb) hS fn.params.toList args.toList ds p (fun t ht=>(hts t ht).1) (fun j t v h1 h2=>vZ j t v (by simpa using h1) (by simpa using h2)) hA
  have hc:=(hlaw us g1 H0).2 x args.toList rfl hx g2
  rw [Array.toArray_toList] at hc
  refine Calls.mono (show Calls P f args W _ from hc) fun e W' h=>?_
  obtain ⟨c,y,rfl,rfl,h3,h4,h5,h6⟩:=h
  cases h5
  have hb:Below W.heap.size W y.w:=yJ h6 (fun _=>rfl) rfl
  refine ⟨_,rfl,aAh (pa:=p) (pv:=[]) hW' (fun b sp hd=>?_) (fun sp hsp=>?_) (fun sp _=>?_) (by simp) hb ?_⟩
  · rw [hs,hres]
    exact trodAll_mk1 (shut_bool htb true)
  · rw [hs]
    exact qQ hl hb _ _ _ _ (fun t ht=>(hts t ht).2) hA (fun z hz=>hlt z (by simpa using hz)) (fun z hz=>hsp z (by simpa using hz))
  · rw [hs,hvars]; rfl
  · exact ok_one hres rfl (okWide_bool_mk htb true)
end
section
variable {P:Program} {n t:Nat} {vs:List V}
theorem aMJ {k:IntKind} (ht:P.underlying t=some (.int k)) (h:Shp P n t vs): ∃ m:Int,vs=[.int k m]:=by
  cases n with
  |zero=>exact h.elim
  |succ n=>exact aLf ht h
theorem aAp {e:Nat} {α:Type} {f:α→List V} (ht:P.underlying t=some (.slice e)) (he: ∀ m vs,Shp P m e vs→ ∃ a,vs=f a) (h:Shp P n t vs): ∃ l:List α,vs=[.sl (l.map f)]:=by
  cases n with
  |zero=>exact h.elim
  |succ n=>exact aA6 ht (he n) h
theorem aCq {fs:Array Field} (ht:P.underlying t=some (.struct fs)) (h:Shp P n t vs): ∃ m,n=m+1∧aCw (Shp P m) fs.toList vs:=by
  cases n with
  |zero=>exact h.elim
  |succ n=>exact ⟨n,rfl,aIH ht h⟩
theorem aHN {e:Nat} {α:Type} {f:α→List V} {N:Nat} (ht:P.underlying t=some (.slice e)) (he: ∀ m,m < N→ ∀ vs,Shp P m e vs→ ∃ a,vs=f a) (hn:n < N) (h:Shp P n t vs): ∃ l:List α,vs=[.sl (l.map f)]:=by
  cases n with
  |zero=>exact h.elim
  |succ n=>exact aA6 ht (he n (by omega)) h
theorem aAn {ts:List TypeId} {us:List V} (h:aEq P (t::ts) us): ∃ n a b,us=sX P t a::b∧Shp P n t a∧aEq P ts b:=h
theorem aH0 {us:List V} (h:aEq P [] us):us=[]:=h
end
end Go.Proofs.YteehaobohaecmaaGreatDoor
namespace Go.Proofs.YteehaobohaecmaaGreatDoor
open Go
abbrev cFm (f:Fm):List V:=[iV f.op,iV f.arg,.sl (f.kids.map cF)]
end Go.Proofs.YteehaobohaecmaaGreatDoor
namespace Go.Proofs.YteehaobohaecmaaGreatDoor
open Go Go.Proofs Go.Proofs.YteehaobohaecmaaGreatDoor
theorem aSz : Tryz.prog.globalNamed "internal/strconv.uint64pow10" = some 0 := by kernel_rfl
theorem aKL (os:Os) (args:Array Value):laidMetH Tryz.prog Rows.monitorSimplifiesRow.laid ((World.doorLaid Tryz.prog 400 os).forCall (fun _ _=>0) ⟨#[],args,[]⟩).memory:=
  laidMetH_of_parts3 (fuel:=8) (laidMet_of_run' 8 (by kernel_rfl) (by kernel_rfl)) (by kernel_rfl) (by kernel_rfl)
theorem aBI {W:World} (h:laidMetH Tryz.prog Rows.monitorSimplifiesRow.laid W):aKE W (fun b=>b < W.heap.size):=by
  have h2 := laidMetH.filter (fun x => x.1 == "internal/strconv.uint64pow10") h
  rw [show Rows.monitorSimplifiesRow.laid.filter (fun x => x.1 == "internal/strconv.uint64pow10") = [("internal/strconv.uint64pow10", Lib.tabData .u64 Lib.pow10Tab)] from by kernel_rfl] at h2
  rw [MakeChecks.laidMetH_plain _ _ _ (by kernel_rfl)] at h2
  have h3 : Lib.TabIs Tryz.prog W "internal/strconv.uint64pow10" .u64 Lib.pow10Tab := Lib.tabIs_of_head (n := 20) aSz (show (Tryz.prog.globals[0]?).map (·.type) = some 195 from by kernel_rfl) Tryz.underlying195 Tryz.underlying177 (by kernel_rfl) (by kernel_rfl) h2
  unfold Lib.TabIs World.var? at h3
  rw [aSz] at h3
  simp only [Option.bind_some] at h3
  intro p hp
  rw [show p=(0,aOU) from by simpa [aLL] using hp]
  revert h3
  cases hq:W.heap[0]? with
  |none=>intro h3; cases h3
  | some o =>
    cases o with
    | cells cs ty m =>
      intro h3
      injection h3 with h3
      refine ⟨?_,ty,m,by rw [h3]; rfl⟩
      obtain ⟨hlt,_⟩:=Array.getElem?_eq_some_iff.1 hq
      exact hlt
    |_=>intro h3; cases h3
end Go.Proofs.YteehaobohaecmaaGreatDoor
namespace Go.Proofs.YteehaobohaecmaaGreatDoor
open Go Go.Proofs Go.Proofs.YteehaobohaecmaaGreatDoor Go.ChangeShapes Go.WideShapes Go.ChangeAt Go.RowKit
structure UT (P:Program):Prop where
  u3:P.underlying 3=some (.int .i64)
  u40:P.underlying 40=some (.slice 52)
  u52:P.underlying 52=some (.slice 3)
  u50: ∃ f0 f1 f2 f3:Field,P.underlying 50=some (.struct #[f0,f1,f2,f3])∧f0.type=3∧f1.type=3∧f2.type=40∧f3.type=40
  u22:P.underlying 22=some (.slice 24)
  u24: ∃ f0 f1 f2:Field,P.underlying 24=some (.struct #[f0,f1,f2])∧f0.type=3∧f1.type=3∧f2.type=22
theorem sh3 {P:Program} (U:UT P): ∀ (n:Nat) (vs:List V),Shp P n 3 vs→ ∃ a:Int,vs=cI a:=fun _ _ h=>aMJ U.u3 h
theorem aUu {P:Program} (U:UT P): ∀ (n:Nat) (vs:List V),Shp P n 52 vs→ ∃ a:(List Int),vs=cL a:=fun _ _ h=>aAp (f:=cI) U.u52 (sh3 U) h
theorem aTS {P:Program} (U:UT P): ∀ (n:Nat) (vs:List V),Shp P n 40 vs→ ∃ a:(List (List Int)),vs=(fun l=>[V.sl (List.map cL l)]) a:=fun _ _ h=>aAp (f:=cL) U.u40 (aUu U) h
theorem aUv {P:Program} (U:UT P): ∀ (n:Nat) (vs:List V),Shp P n 50 vs→ ∃ a:M,vs=mC a:=by
  intro n
  induction n using Nat.strongRecOn with
  | ind n ih =>
    intro vs h
    obtain ⟨f0,f1,f2,f3,hu,k0,k1,k2,k3⟩:=U.u50
    obtain ⟨m,hm,h0⟩:=aCq hu h
    obtain ⟨x0,u0,e0,h1⟩:=jK (c:=cI) (fun vs h=>sh3 U m vs (by rw [k0] at h; exact h)) h0
    obtain ⟨x1,u1,e1,h2⟩:=jK (c:=cI) (fun vs h=>sh3 U m vs (by rw [k1] at h; exact h)) h1
    obtain ⟨x2,u2,e2,h3⟩:=jK (c:=(fun l=>[V.sl (List.map cL l)])) (fun vs h=>aTS U m vs (by rw [k2] at h; exact h)) h2
    obtain ⟨x3,u3,e3,h4⟩:=jK (c:=(fun l=>[V.sl (List.map cL l)])) (fun vs h=>aTS U m vs (by rw [k3] at h; exact h)) h3
    have e4:=aDM h4
    exact ⟨⟨x0,x1,x2,x3⟩,by rw [e0,e1,e2,e3,e4]; rfl⟩
theorem aUh {P:Program} (U:UT P): ∀ (n:Nat) (vs:List V),Shp P n 24 vs→ ∃ a:Fm,vs=cF a:=by
  intro n
  induction n using Nat.strongRecOn with
  | ind n ih =>
    intro vs h
    obtain ⟨f0,f1,f2,hu,k0,k1,k2⟩:=U.u24
    obtain ⟨m,hm,h0⟩:=aCq hu h
    obtain ⟨x0,u0,e0,h1⟩:=jK (c:=cI) (fun vs h=>sh3 U m vs (by rw [k0] at h; exact h)) h0
    obtain ⟨x1,u1,e1,h2⟩:=jK (c:=cI) (fun vs h=>sh3 U m vs (by rw [k1] at h; exact h)) h1
    obtain ⟨x2,u2,e2,h3⟩:=jK (c:=fun l:List Fm=>[V.sl (List.map cF l)]) (fun vs h=>aHN (N:=n) (n:=m) U.u22 ih (by omega) (by rw [k2] at h; exact h)) h2
    have e3:=aDM h3
    exact ⟨(Fm.nd x0 x1 x2),by rw [e0,e1,e2,e3,bP]; rfl⟩
theorem ut:UT Tryz.prog:=⟨by kernel_rfl,by kernel_rfl,by kernel_rfl,⟨_,_,_,_,Tryz.underlying50,rfl,rfl,rfl,rfl⟩,by kernel_rfl,⟨_,_,_,Tryz.underlying24,rfl,rfl,rfl⟩⟩
theorem aTO {P:Program} (U:UT P) {us:List V} (h:aEq P [50,24] us): ∃ (d0:M) (d1:Fm),us=[V.agg (mC d0),V.agg (cFm d1)]:=by
  obtain ⟨n0,a0,b0,e0,h0,h⟩:=aAn h
  obtain ⟨d0,g0⟩:=aUv U n0 a0 h0
  have q0:sX P 50 a0=V.agg (mC d0):=by obtain ⟨_,_,_,_,hu,_⟩:=U.u50; rw [g0]; exact vE hu _
  obtain ⟨n1,a1,b1,e1,h1,h⟩:=aAn h
  obtain ⟨d1,g1⟩:=aUh U n1 a1 h1
  have q1:sX P 24 a1=V.agg (cFm d1):=by obtain ⟨_,_,_,hu,_⟩:=U.u24; rw [g1,bP]; exact vE hu _
  have e2:=aH0 h
  exact ⟨d0,d1,by rw [e0,q0,e1,q1,e2]⟩
theorem aUs:ownKnob Tryz.prog.godebug=none:=by kernel_rfl
theorem aUj: ∀ t∈[3,22,24,40,50,52],okS Tryz.prog [3,22,24,40,50,52] t=true:=by
  intro t ht
  simp only [List.mem_cons,List.not_mem_nil,or_false] at ht
  rcases ht with rfl|rfl|rfl|rfl|rfl|rfl
  · kernel_rfl
  · kernel_rfl
  · kernel_rfl
  · kernel_rfl
  · kernel_rfl
  · kernel_rfl
set_option maxRecDepth 100000 in
theorem aMG (os:Os) (started:os.Started) (H:Type) (enc:TypeId×Value→H):
    ReturnsInHanded {} Tryz.checked os 5 .any (fun w args=>(Rows.verifyChecksSpec.pre enc Tryz.prog Tryz.f5 [] false w args∧laidMetH Tryz.prog Rows.verifyChecksRow.laid w)∧sizedMet enc Tryz.prog Tryz.f5 (OpenSpec.ofChange Rows.verifyChecksSpec) false w args)
      (Rows.verifyChecksSpec.post enc Tryz.prog Tryz.f5 false true false false):=by
  refine returnsInHanded_of_change_and (C:=Tryz.checked) (X:=fun w _=>laidMetH Tryz.prog Rows.verifyChecksRow.laid w) (fun _ _ _ hh h=>h.of_heap hh) aUs started (by kernel_rfl) Tryz.func5
    (ChangeSpec.witness_shaped (enc:=enc) (C:=Tryz.checked) (os:=os) (X:=fun w _=>laidMetH Tryz.prog Rows.verifyChecksRow.laid w) false (World.doorLaid Tryz.prog 400 os) #[.agg #[.int .i64 0,.int .i64 0,.slice none 0 0,.slice none 0 0],.agg #[.int .i64 0,.int .i64 0,.slice none 0 0]] 8 rfl (World.shaped_of_RefB (by kernel_rfl) (by kernel_rfl)) (by kernel_rfl) (by kernel_rfl) (by kernel_rfl) (aKL os _)) ?_
  intro W base args ds gs before hval0 hW _ _ hL _
  refine aGM (S:=[3,22,24,40,50,52]) (tb:=4) (by kernel_rfl) (by kernel_rfl) (by kernel_rfl) aUj (fun t ht=>?_) rfl ?_ (fun us hu=>?_) hval0 hW (aBI hL)
  · have h:t∈[50,24]:=ht
    simp only [List.mem_cons,List.not_mem_nil,or_false] at h
    rcases h with rfl|rfl
    · exact ⟨of_decide_eq_true (by kernel_rfl),by kernel_rfl,of_decide_eq_true (by kernel_rfl)⟩
    · exact ⟨of_decide_eq_true (by kernel_rfl),by kernel_rfl,of_decide_eq_true (by kernel_rfl)⟩
  · obtain ⟨p,q,hA,hV,rfl,hfz,hnd⟩:=hW
    obtain ⟨rfl,rfl⟩:=trodVars_none hV
    change DataW.TrodAll enc Tryz.prog W 0 (fun _=>true) true [50,24] args.toList ds p at hA
    obtain ⟨v0,vs0,y0,ds0,pa0,pb0,hv0,rfl,rfl,_,hA⟩:=trodAll_cons hA
    obtain ⟨v1,vs1,y1,ds1,pa1,pb1,hv1,rfl,rfl,_,hA⟩:=trodAll_cons hA
    obtain ⟨_,rfl,rfl⟩:=trodAll_nil hA
    rfl
  · obtain ⟨d0,d1,rfl⟩:=aTO ut hu
    exact aHe d0 d1
theorem aUA:Rows.VerifyChecksSaid:=
  OpenClaim.holds_of_wide 5 Tryz.f5 rfl rfl rfl rfl rfl rfl rfl ⟨rfl,rfl,rfl,rfl,rfl⟩ rfl rfl rfl rfl rfl (by kernel_rfl) Tryz.func5 (by kernel_rfl)
    (of_decide_eq_true (by kernel_rfl)) (by unfold Func.isWrapper; first|(rw [if_pos (by decide+kernel)]; kernel_rfl)|(rw [if_neg (by decide+kernel)]; exact ⟨rfl,rfl⟩))
    (fun os started H enc _=>aMG os started H enc)
theorem proved5 : Rows.VerifyChecksCardSaid :=
  Claim7.holds_tied_plain_at .later [] [.data, .data, .data] true (true, "98a18010de341d32116933fdf51a3dd8a8f2b57aa54f69519e37bffcb02f6549") false
    aUA (fun _ h=>by cases h) (by kernel_rfl) (fun _ h=>by cases h) verifyChecks_row_tie rfl ⟨rfl,rfl⟩ (by kernel_rfl) rfl
    (fun f fn hf hfn=>by
      obtain rfl : f = 5 := Option.some.inj ((show Tryz.prog.funcNamed "learner/learnerlaw47.VerifyChecks" = some 5 by kernel_rfl).symm.trans hf) |>.symm
      obtain rfl:fn=Tryz.f5:=(Option.some.inj (Tryz.func5.symm.trans hfn)).symm
      exact ⟨by kernel_rfl,fun j t ht=>by
        rw [Tryz.params5] at ht
        have hm:t∈[50,24]:=by simpa using Array.mem_of_getElem? ht
        have hall:([50,24].all fun u=> !Tryz.prog.wantsStandIn u)=true:=by kernel_rfl
        exact (show Tryz.prog.wantsStandIn t=false by simpa using List.all_eq_true.1 hall t hm)⟩)
    (by kernel_rfl)
end Go.Proofs.YteehaobohaecmaaGreatDoor
