/- Contracts of the functions that the law VA reaches, and the law itself, for every input; no condition. -/
import Derived.KernelRfl
import Derived.Test.YteehaobohaecmaaGreatDoorProg
import Derived.Test.YteehaobohaecmaaGreatDoorRows
import Derived.LaidSub
import Derived.LaidMore
import Derived.Lib.LaidTab
import Derived.Test.YteehaobohaecmaaGreatDoorTie
import Derived.Test.YteehaobohaecmaaGreatDoorCards
import Derived.OpenShut
import Derived.Stop.Joined
import Derived.SevenTiedAt
import Derived.Test.YteehaobohaecmaaGreatDoorVA4
set_option linter.unusedSimpArgs false
set_option linter.unusedVariables false
namespace Go.Proofs.YteehaobohaecmaaGreatDoor
open Go Go.Proofs
theorem aHR (l:List (List Int)) (hs:(cat l).length≤17592186044416):aQ Tryz.prog 77 [(aX l)] (aZ (cat l)):=by
 refine pW Tryz.func77 aRe fun hB=>?_
 unfold s77
 dsimp only
 refine W_r (aA rfl (R_e (W_r (jV (i:=3) (n:=0) rfl (cVq rfl) (R_e (aB (W_r ?_)))))))
 refine aA rfl (R_e (aD fun Q1 n1 x1 y1 z1=>?_))
 refine bS (fun mm T H=> ∃ (k:Nat),mm=l.length - k∧T 0=(aX l)∧T 3=(V.ms 3 (1+k) 0 ((cat (l.take k)).length))∧T 4=(iV ((k:Nat):Int))∧H 3=(bz (1+k) 3 1 (List.map cI (cat (l.take k))))∧(k≤l.length)) ?_ ?_
 ·
  refine ⟨_,0,rfl,rfl,(eTq (rVq (V.ms 3 1 0 0)) (by rfl)),(eTq (rVq (iV 0)) rfl),(eTq (@rfl Blk (bz 1 3 1 [])) (by rfl)),?_⟩
  · omega
 intro mm T H ⟨k,hmm,t0,t3,t4,h3,hk⟩ Q2 p12 p22 p32
 unfold aOh
 refine aB (W_r (aA t4 (aA t0 (bG rfl (bM rfl rfl (R_e ?_))))))
 refine aH rfl (fun c3=>?_) fun c3=>?_
 ·
  have hq:=oR (l:=l) (k:=k) (by omega)
  refine aC (aD fun Q4 n4 x4 y4 z4=>(W_t (aA t3 (aA t0 (aA t4 (cY (i:=k) (rVq (aX l)) (rNq k) (by omega) rfl (aG rfl rfl ?_)))))))
  refine pO (l:=(cat (l.take k))) (m:=(nth l k)) (f:=cI) (rVq (V.ms 3 (1+k) 0 ((cat (l.take k)).length))) h3 (by rfl) (rVq (aZ (nth l k))) (fun _=>rfl) (fun _=>rfl) (by omega) (by omega) (aA rfl (R_e (n4 _ _ (.done (W_t (aA t4 (bB rfl (rNq 1) (by omega) ?_)))))))
  refine aA rfl (R_e ?_)
  refine p12 _ _ _ ?_ ⟨(k+1),rfl,t0,(eTq (rVq (V.ms 3 (1+k+1) 0 (((cat (l.take k)).length)+(nth l k).length))) (by (rw [mE (by omega),List.length_append]; rfl))),(eTq (rNq (k+1)) (by rfl)),(eTq (@rfl Blk (bz (1+k+1) 3 1 (List.map cI (cat (l.take k)++(nth l k))))) (by (rw [mE (by omega)]; rfl))),?_⟩
  · omega
  · omega
 refine aN (p32 _ _ _ (x1 _ _ (.done (W_r (aA t3 (aA rfl (R_e ?_)))))))
 refine aO ?_
 refine bI (rVq (V.ms 3 (1+k) 0 ((cat (l.take k)).length))) (gL h3 (by simp) (l:=(cat (l.take k))) rfl (by rfl) (fun _=>by simp) ?_)
 · (have e:k=l.length:=(by omega); subst e; rw [List.take_length])
def aS6:List SO:=[
 qL 8 4 2,
 qF 9 1 2,
 ql 10 9,
 qM 11 1,
 sO 12 (.call false 98 [.t 8,.t 10,.t 11]),
 qM 7 12,
 qE 13 7 0,
 qE 14 7 1,
 qM 5 13,
 qM 6 14]
def s78:SF:=⟨18,[.cell 4 true 2],.seq (.reg [sO 2 (.box 50 4 (.t 0)),sO 4 (.alloc 54 [.nilsl,.nilsl])]) (.seq (.reg aS6) (.seq (.reg [qM 15 1,qM 16 5,sO 17 (.build [.nilsl,.nilsl] [(0,1,.t 15),(1,1,.t 16)]),sN (.store 2 (.t 4) (.t 17))]) (.ret)))⟩
theorem aR5:bJ Tryz.prog ⟨oEq,[],[],[]⟩ Tryz.f78=some s78:=by kernel_rfl
def aTS:List SO:=[
 qM 16 8,
 qF 17 3 3,
 ql 18 17,
 qM 19 1,
 qA 20 1 18 19,
 ql 21 20,
 qM 22 2,
 qM 23 9,
 qA 24 1 22 23,
 ql 25 24,
 qA 26 1 21 25,
 ql 27 26,
 sO 28 (.bslice 3 1 false [.int .i64 0] 1 [(0,.t 27)]),
 sO 29 (.append 3 1 8 (.t 16) (.t 28)),
 qM 8 29]
def aTB:List SO:=[
 qF 30 2 3,
 ql 31 30,
 qM 32 1,
 qA 33 1 31 32,
 ql 34 33,
 qM 35 2,
 qM 36 9,
 qA 37 1 35 36,
 ql 38 37,
 qA 39 1 34 38,
 ql 40 39,
 qM 1 40]
def aNV:SC:=.seq (.seq (.reg [qM 10 9,qM 11 2,qN 12 11,qP 13 .lss 10 12]) (.cond (.t 13) (.skip) (.exit 0))) (.seq (.block 1 (.seq (.reg aTS) (.reg aTB))) (.reg [qM 14 9,qC 15 .add 14 1,qM 9 15]))
def s98:SF:=⟨43,[.tmp 6,.tmp 7],.seq (.reg [sO 3 (.box 50 4 (.t 0)),sO 6 (.mv (.c (.nilsl))),qI 7 0]) (.seq (.reg [sO 8 (.lazy 3 1)]) (.seq (.seq (.reg [qI 9 0]) (.block 0 (.loop aNV))) (.seq (.reg [qM 41 8,qM 42 1,qM 6 41,qM 7 42]) (.ret))))⟩
theorem aO5:bJ Tryz.prog ⟨oEq,[8],[],[]⟩ Tryz.f98=some s98:=by kernel_rfl
theorem aHS (m:M) (s:Int) (w:List Int) (hm:dM m=0) (hs:0≤s∧s < m.nx.length) (hl:w.length≤4096) (hw: ∀ k,k < w.length→0≤nth w k∧nth w k < m.i):aQ Tryz.prog 98 [(V.agg [(iV m.i),(iV m.s),(aX m.nx),(aX m.ot)]),(iV s),(aZ w)] (V.tup [(aZ (eY m s w)),(iV (dW m s w))]):=by
 refine pW Tryz.func98 aO5 fun hB=>?_
 unfold s98
 dsimp only
 refine W_r (cE (i:=3) (n:=0) (m:=4) (cs:=[(iV m.i),(iV m.s),(aX m.nx),(aX m.ot)]) rfl (cVq rfl) rfl rfl rfl (aA rfl (aA rfl (R_e (W_r (jV (i:=8) (n:=0) rfl (cVq rfl) (R_e ?_)))))))
 refine aB (W_r (aA rfl (R_e (aD fun Q1 n1 x1 y1 z1=>?_))))
 refine bS (fun mm T H=> ∃ (k:Nat),mm=w.length - k∧T 1=(iV (dW m s (w.take k)))∧T 2=(aZ w)∧T 3=(mPq 3)∧T 8=(V.ms 8 (1+k) 0 k)∧T 9=(iV ((k:Nat):Int))∧H 3=(bMq m)∧H 8=(bz (1+k) 3 1 (List.map cI (eY m s (w.take k))))∧(k≤w.length)) ?_ ?_
 ·
  refine ⟨_,0,rfl,(eTq (rVq (iV s)) (by rfl)),rfl,rfl,(eTq (rVq (V.ms 8 1 0 0)) (by rfl)),(eTq (rVq (iV 0)) rfl),rfl,(eTq (@rfl Blk (bz 1 3 1 [])) (by rfl)),?_⟩
  · omega
 intro mm T H ⟨k,hmm,t1,t2,t3,t8,t9,h3,h8,hk⟩ Q2 p12 p22 p32
 unfold aNV
 refine aB (W_r (aA t9 (aA t2 (bG rfl (bM rfl rfl (R_e ?_))))))
 refine aH rfl (fun c3=>?_) fun c3=>?_
 ·
  have h1:=aKr hm hs hw (k:=k) (by omega)
  refine aC (aD fun Q4 n4 x4 y4 z4=>(W_r (aA t8 (aM t3 h3 (aJ rfl h3 rfl rfl (aA t1 (fE (i:=(dW m s (w.take k))) (rVq (aX m.ot)) (rVq (iV (dW m s (w.take k)))) (by omega) (by omega) rfl ?_)))))))
  refine aG rfl rfl (aA t2 (aA t9 (cY (i:=k) (rVq (aZ w)) (rNq k) (by omega) rfl (aG rfl rfl (fE (i:=(nth w k)) (rVq (aZ (nth m.ot (dW m s (w.take k)).toNat))) (rVq (iV (nth w k))) (by omega) (by omega) rfl (aG rfl rfl (aR rfl rfl ?_)))))))
  refine bX (l:=(eY m s (w.take k))) (f:=cI) (x:=(nth (nth m.ot (dW m s (w.take k)).toNat) (nth w k).toNat)) (rVq (V.ms 8 (1+k) 0 k)) h8 (by (simp only [iC,List.length_take]; omega)) (rVq (V.sl [[(iV (nth (nth m.ot (dW m s (w.take k)).toNat) (nth w k).toNat))]])) rfl rfl (by omega) (by omega) (aA rfl (R_e (W_t (aM t3 h3 (aJ rfl h3 rfl rfl (aA t1 (fE (i:=(dW m s (w.take k))) (rVq (aX m.nx)) (rVq (iV (dW m s (w.take k)))) (by omega) (by omega) rfl ?_)))))))
  refine aG rfl rfl (aA t2 (aA t9 (cY (i:=k) (rVq (aZ w)) (rNq k) (by omega) rfl (aG rfl rfl (fE (i:=(nth w k)) (rVq (aZ (nth m.nx (dW m s (w.take k)).toNat))) (rVq (iV (nth w k))) (by omega) (by omega) rfl (aG rfl rfl (aA rfl ?_)))))))
  refine R_e (n4 _ _ (.done (W_t (aA t9 (bB rfl (rNq 1) (by omega) (aA rfl (R_e ?_)))))))
  refine p12 _ _ _ ?_ ⟨(k+1),rfl,(eTq (rVq (iV (nth (nth m.nx (dW m s (w.take k)).toNat) (nth w k).toNat))) (by (rw [aAt m s (by omega)]; rfl))),t2,t3,(eTq (rVq (V.ms 8 (1+k+1) 0 (k+1))) (by rfl)),(eTq (rNq (k+1)) (by rfl)),h3,(eTq (@rfl Blk (bz (1+k+1) 3 1 (List.map cI (eY m s (w.take k)++[(nth (nth m.ot (dW m s (w.take k)).toNat) (nth w k).toNat)])))) (by (rw [aAS m s (by omega)]; rfl))),?_⟩
  · omega
  · omega
 refine aN (p32 _ _ _ (x1 _ _ (.done (W_r (aA t8 (aA t1 (aA rfl ?_)))))))
 refine aA rfl (R_e (aO ?_))
 refine dC (rVq (V.ms 8 (1+k) 0 k)) (rVq (iV (dW m s (w.take k)))) (gL h8 (by simp) (l:=(eY m s (w.take k))) rfl (by (simp only [iC,List.length_take]; omega)) (fun _=>by simp) ?_) (aE ?_)
 · (have e:k=w.length:=(by omega); subst e; rw [List.take_length])
 · (have e:k=w.length:=(by omega); subst e; rw [List.take_length])
theorem aEd (m:M) (w:List Int) (hm:dM m=0) (hl:w.length≤4096) (hw:WdM m w):aQ Tryz.prog 78 [(V.agg [(iV m.i),(iV m.s),(aX m.nx),(aX m.ot)]),(aZ w)] (V.agg [(aZ w),(aZ (eY m m.s w))]):=by
 refine pW Tryz.func78 aR5 fun hB=>?_
 unfold s78
 dsimp only
 refine W_r (cE (i:=2) (n:=0) (m:=4) (cs:=[(iV m.i),(iV m.s),(aX m.nx),(aX m.ot)]) rfl (cVq rfl) rfl rfl rfl (aU (i:=4) (n:=0) (m:=2) rfl (cVq rfl) rfl (R_e (W_r (aJ rfl rfl rfl rfl (aM rfl rfl (aJ rfl rfl rfl rfl ?_)))))))
 refine aA rfl (aI (aHS m m.s w hm ⟨(fK hm).2.2.2.2.1,(fK hm).2.2.2.2.2.1⟩ hl hw) rfl (aA rfl (bH rfl rfl (bH rfl rfl (aA rfl (aA rfl (R_e ?_)))))))
 refine W_r (aA rfl (aA rfl (aW rfl rfl (bF rfl rfl rfl rfl rfl rfl rfl rfl rfl (R_e (aO ?_))))))
 refine cP (bC (u:=(V.agg [(aZ w),(aZ (eY m m.s w))])) rfl (@rfl Blk (bk 1 54 2 [[(aZ w),(aZ (eY m m.s w))]])) (lB oB rfl rfl)) (fD (cG (by simp) rfl) (dB ?_ (fun _=>by simp)))
 · first|rfl|omega|simp_all
theorem aBi (m:M) (g:Fm) (hm:dM m=0) (hv:cX g=0):aQ Tryz.prog 54 [(V.agg [(iV m.i),(iV m.s),(aX m.nx),(aX m.ot)]),(V.agg (rFq g))] (V.tup [(V.agg [(aZ ((srD m g).1.ni)),(aZ ((srD m g).1.no))]),(V.bool ((srD m g).2.1)),(iV ((srD m g).2.2))]):=by
 refine pW Tryz.func54 aQi fun hB=>?_
 unfold s54
 dsimp only
 have a1: ¬dM m≠0:=by omega
 have mo:=fK hm
 refine W_r (cE (i:=2) (n:=0) (m:=4) (cs:=[(iV m.i),(iV m.s),(aX m.nx),(aX m.ot)]) rfl (cVq rfl) rfl rfl rfl (cE (i:=3) (n:=0) (m:=3) (cs:=(rFq g)) rfl (cVq rfl) rfl rfl rfl (aU (i:=4) (n:=0) (m:=2) rfl (cVq rfl) rfl (aA rfl (aA rfl (R_e (W_r ?_)))))))
 refine aJ rfl rfl rfl rfl (aI (yK g) rfl (aA rfl (bH rfl rfl (bH rfl rfl (aA rfl (aA rfl (R_e ?_)))))))
 refine aB (W_r (aA rfl (bZ rfl rfl (aA rfl ?_))))
 refine aV 3 (fun T H=>T 2=(mPq 2)∧T 3=(mPq 3)∧T 4=(mPq 4)∧T 8=(iV (enE g))∧T 26=(V.bool (decide ((enE g)≠(0:Int))||(!enB g)))∧H 2=(bMq m)∧H 3=(bFq g)∧H 4=bTq∧H 13=bZq∧H 15=bZq∧H 35=bZq∧True) ?_ ?_
 ·
  by_cases g1:(enE g)≠(0:Int)
  ·
   refine G_n (edT g1 rfl) (G_n (edT g1 rfl) (aS (edT g1 rfl) rfl ?_))
   exact ⟨rfl,rfl,rfl,rfl,(nM g1),rfl,rfl,rfl,rfl,rfl,rfl,trivial⟩
  ·
   refine aF (edF g1 rfl) (aA rfl (aF (edF g1 rfl) (eN rfl (aT (edF g1 rfl) rfl ?_))))
   exact ⟨rfl,rfl,rfl,rfl,(nH g1),rfl,rfl,rfl,rfl,rfl,rfl,trivial⟩
 intro T H ⟨t2,t3,t4,t8,t26,h2,h3,h4,h13,h15,h35,_⟩
 refine R_e ?_
 refine cC t26 (fun c2=>?_) (fun c2=>?_)
 ·
  have d1:=aN2 (m:=m) (g:=g) (by simpa using c2)
  refine aB (W_r (aW rfl rfl (aA t8 (aY rfl rfl (aA t8 (bF t4 rfl rfl h4 rfl rfl rfl rfl rfl (aA rfl ?_)))))))
  refine aA rfl (R_e (aL ?_))
  refine gG (bC (u:=(V.agg [V.nilsl,V.nilsl])) t4 (@rfl Blk bTq) (lB oB rfl rfl)) (bV (rVq (V.bool (decide ((enE g)=(0:Int)))))) (bV (rVq (iV (enE g)))) (fD (bT ?_) (bT ?_)) (bA ?_) (aE ?_)
  · rw [d1]; try rfl
  · rw [d1]; try rfl
  · rw [d1]; try rfl
  · rw [d1]; try rfl
 have a4: ¬(enE g≠0∨enB g=false):=by have q:=c2; simpa using q
 refine aC ?_
 refine dO (fun T H=>T 2=(mPq 2)∧T 4=(mPq 4)∧T 9=(V.ms 35 1 0 1)∧H 2=(bMq m)∧H 3=(bFq g)∧H 4=bTq∧H 13=bZq∧H 15=bZq∧H 35=(bk 1 117 5 [[(iV m.s),(iV g.op),(iV g.arg),(V.sl (List.map cF g.kids)),V.nilsl]])∧True) ?_ ?_
 ·
  refine aM t2 h2 (aJ rfl h2 rfl rfl (aJ t3 h3 rfl rfl (aW rfl rfl (aBu (i:=35) (n:=0) (qs:=[(0,(V.agg [(iV m.s),(iV g.op),(iV g.arg),(V.sl (List.map cF g.kids)),V.nilsl]))]) (rows:=[[(iV m.s),(iV g.op),(iV g.arg),(V.sl (List.map cF g.kids)),V.nilsl]]) rfl (cVq h35) (iK (congrArg (fun v=>(0,v)) rfl) rfl) rfl (aA rfl ?_)))))
  exact eD ⟨t2,t4,rfl,h2,h3,h4,h13,h15,rfl,trivial⟩
 intro T H ⟨t2,t4,t9,h2,h3,h4,h13,h15,h35,_⟩
 refine aLu (l:=([])) (m:=([(⟨m.s,g,[]⟩:Pl)])) (f:=cPl) h35 rfl (.done ?_)
 refine cJ (R:=fun T H=>T 2=(mPq 2)∧T 4=(mPq 4)∧T 9=(V.ms 35 1 0 1)∧H 2=(bMq m)∧H 3=(bFq g)∧H 4=bTq∧H 13=bZq∧H 15=bZq∧H 35=(bk 1 117 5 (List.map cPl ([]++[(⟨m.s,g,[]⟩:Pl)])))∧True) ⟨t2,t4,t9,(uTq h2),(uTq h3),(uTq h4),(uTq h13),(uTq h15),(aK _ _ _),trivial⟩ ?_
 intro T H ⟨t2,t4,t9,h2,h3,h4,h13,h15,h35,_⟩
 refine aB (W_r (aA rfl (R_e (aD fun Q3 n3 x3 y3 z3=>?_))))
 refine bS (fun mm T H=> ∃ (k:Nat) (l:List Pl) (v:Nat) (v13:Nat) (v15:Nat),mm=4097 - k∧T 2=(mPq 2)∧T 4=(mPq 4)∧T 9=(V.ms 35 v 0 l.length)∧T 10=(iV ((k:Nat):Int))∧H 2=(bMq m)∧H 3=(bFq g)∧H 4=bTq∧((H 13).ver=v13∧(H 13).live=false)∧((H 15).ver=v15∧(H 15).live=false)∧H 35=(bk v 117 5 (List.map cPl l))∧(k≤l.length)∧(PlD m l)∧(mJ m (4097 - 0) 0 [⟨m.s,g,[]⟩]=mJ m (4097 - k) k l)) ?_ ?_
 ·
  refine ⟨_,0,[(⟨m.s,g,[]⟩:Pl)],1,0,0,rfl,t2,t4,(eTq t9 (by rfl)),(eTq (rVq (iV 0)) rfl),h2,h3,h4,⟨(cVq h13),congrArg Blk.live h13⟩,⟨(cVq h15),congrArg Blk.live h15⟩,(eTq h35 (by rfl)),?_,?_,?_⟩
  · exact Nat.zero_le _
  · exact PlD.start hm hv
  · rfl
 intro mm T H ⟨k,l,v,v13,v15,hmm,t2,t4,t9,t10,h2,h3,h4,h13,h15,h35,hk,hp,hc⟩ Q4 p14 p24 p34
 unfold aNS
 refine aB (W_r (aA t10 (aA t9 (fW rfl h35 (by simp) (bM rfl rfl (R_e ?_))))))
 refine aH rfl (fun c5=>?_) fun c5=>?_
 ·
  have hpl:=hp.ok.len
  refine aC (aD fun Q6 n6 x6 y6 z6=>(W_r (aA rfl (R_e (iH fun Q7 n7 x7 y7 z7=>?_)))))
  refine bS (fun mm T H=> ∃ (j:Nat) (l2:List Pl) (w:Nat) (v13:Nat) (v15:Nat),mm=m.i.toNat - j∧T 2=(mPq 2)∧T 4=(mPq 4)∧T 9=(V.ms 35 w 0 l2.length)∧T 10=(iV ((k:Nat):Int))∧T 11=(iV ((j:Nat):Int))∧H 2=(bMq m)∧H 3=(bFq g)∧H 4=bTq∧((H 13).ver=v13∧(H 13).live=false)∧((H 15).ver=v15∧(H 15).live=false)∧H 35=(bk w 117 5 (List.map cPl l2))∧(j≤m.i.toNat)∧(PlD m l2)∧(l.length≤l2.length)∧(nth l2 k=nth l k)∧(iS m (nth l k) m.i.toNat 0 l=iS m (nth l2 k) (m.i.toNat - j) j l2)) ?_ ?_
  ·
   refine ⟨_,0,l,v,v13,v15,rfl,t2,t4,t9,t10,(eTq (rVq (iV 0)) rfl),h2,h3,h4,h13,h15,h35,?_,?_,?_,?_,?_⟩
   · exact Nat.zero_le _
   · exact hp
   · exact Nat.le_refl _
   · rfl
   · rfl
  intro mm T H ⟨j,l2,w,v13,v15,hmm,t2,t4,t9,t10,t11,h2,h3,h4,h13,h15,h35,hj,hp2,hl2,he,hc2⟩ Q8 p18 p28 p38
  unfold aNl
  refine aB (W_r (aA t11 (aM t2 h2 (aJ rfl h2 rfl rfl (bM rfl rfl (R_e ?_))))))
  refine aH rfl (fun c9=>?_) fun c9=>?_
  ·
   have pk2:=hp2.ok.at_ k (by omega)
   have hr2:=aNR a1 pk2.1 pk2.2.1
   have hpl2:=hp2.ok.len
   refine aC (aD fun Q10 n10 x10 y10 z10=>(W_r (aA t9 (aA t10 (eJ (i:=k) (rVq (V.ms 35 w 0 l2.length)) (rNq k) h35 oB rfl (by omega) (aM rfl h35 (cN (v:=(iV ((nth l2 k).s))) rfl h35 (eG (by omega) (by rfl)) ?_)))))))
   refine aA rfl (R_e (W_d (by exact (jY h13.2 lV)) (aA t9 (aA t10 (eJ (i:=k) (rVq (V.ms 35 w 0 l2.length)) (rNq k) h35 oB rfl (by omega) (aM rfl h35 (cN (v:=(V.agg (rFq ((nth l2 k).f)))) rfl h35 (eG (by omega) (by rfl)) ?_)))))))
   refine aA t11 (aM t2 h2 (aJ rfl h2 rfl rfl (aA rfl (fE (i:=((nth l2 k).s)) (rVq (aX m.ot)) (rVq (iV ((nth l2 k).s))) (by omega) (by omega) rfl (aG rfl rfl (aA t11 (cY (i:=j) (rVq (aZ (nth m.ot ((nth l2 k).s).toNat))) (rNq j) (by omega) rfl ?_)))))))
   refine aG rfl rfl (aI (aEY ((nth l2 k).f) ((j:Nat):Int) (nth (nth m.ot ((nth l2 k).s).toNat) j)) rfl (aA rfl (bH rfl rfl (bH rfl rfl (aU (i:=13) (n:=v13) (m:=3) rfl h13.1 rfl (bF rfl rfl rfl rfl rfl rfl rfl rfl rfl (aA rfl ?_)))))))
   refine R_e (aB (W_r (aA rfl (bZ rfl rfl (R_e ?_)))))
   refine aH rfl (fun c11=>?_) fun c11=>?_
   ·
    have d1:=aDW a4 (hc.trans (jK (by omega) hp.ok.len (hc2.trans (aI2 (by omega) c11))))
    refine aB (W_r (aW rfl rfl (aA rfl (bF t4 rfl rfl h4 rfl rfl rfl rfl rfl (aA rfl (aA rfl (R_e ?_)))))))
    refine aL (y10 _ _ (p28 _ _ (y7 _ _ (y6 _ _ (p24 _ _ (y3 _ _ ?_))))))
    refine gG (bC (u:=(V.agg [V.nilsl,V.nilsl])) t4 (@rfl Blk bTq) (lB oB rfl rfl)) (bV (rVq (V.bool false))) (bV (rVq (iV ((sNq m (nth l2 k) j).2)))) (fD (bT ?_) (bT ?_)) (bA ?_) (aE ?_)
    · rw [d1]; try rfl
    · rw [d1]; try rfl
    · rw [d1]; try rfl
    · rw [d1]; try rfl
   have e1:=c11
   have x1:=wQ c11
   refine aC (aB ?_)
   refine kX (fun T H=>T 2=(mPq 2)∧T 4=(mPq 4)∧T 9=(V.ms 35 w 0 l2.length)∧T 10=(iV ((k:Nat):Int))∧T 11=(iV ((j:Nat):Int))∧T 12=(iV ((nth l2 k).s))∧T 13=(V.mp 13 (v13+1) 0 0)∧T 85=(V.bool (fM l2 (nth (nth m.nx ((nth l2 k).s).toNat) j) ((sNq m (nth l2 k) j).1)))∧H 2=(bMq m)∧H 3=(bFq g)∧H 4=bTq∧H 13=(bk (v13+1) 24 3 [(rFq ((sNq m (nth l2 k) j).1))])∧((H 15).ver=v15∧(H 15).live=false)∧H 35=(bk w 117 5 (List.map cPl l2))∧True) ?_ ?_
   ·
    refine aA t9 (aM t2 h2 (aJ rfl h2 rfl rfl (aA rfl (fE (i:=((nth l2 k).s)) (rVq (aX m.nx)) (rVq (iV ((nth l2 k).s))) (by omega) (by omega) rfl (aG rfl rfl (aA t11 (cY (i:=j) (rVq (aZ (nth m.nx ((nth l2 k).s).toNat))) (rNq j) (by omega) rfl ?_)))))))
    refine aG rfl rfl (aJ rfl rfl rfl rfl (kN (bL (rVq (V.ms 35 w 0 l2.length)) (bL (rVq (iV (nth (nth m.nx ((nth l2 k).s).toNat) j))) (bL (rVq (V.agg (rFq ((sNq m (nth l2 k) j).1)))) eB))) (aC0 l2 (nth (nth m.nx ((nth l2 k).s).toNat) j) ((sNq m (nth l2 k) j).1)) (iK (aKd h35 (by simp) (aCY (l:=l2) (by rfl)) (fun _=>by simp)) (iK (fI 6 _ (by simp)) (iK (fI 6 _ (by simp)) rfl))) (by simp) (Or.inr rfl) ?_))
    exact eD ⟨t2,t4,t9,t10,t11,rfl,rfl,rfl,h2,h3,h4,rfl,h15,h35,trivial⟩
   intro T H ⟨t2,t4,t9,t10,t11,t12,t13,t85,h2,h3,h4,h13,h15,h35,_⟩
   refine cC t85 (fun c12=>?_) (fun c12=>?_)
   ·
    have e2:=c12
    refine aN (x10 _ _ ?_)
    refine .freeze 13 (.done ?_)
    refine cJ (R:=fun T H=>T 2=(mPq 2)∧T 4=(mPq 4)∧T 9=(V.ms 35 w 0 l2.length)∧T 10=(iV ((k:Nat):Int))∧T 11=(iV ((j:Nat):Int))∧T 12=(iV ((nth l2 k).s))∧T 13=(V.mp 13 (v13+1) 0 0)∧T 85=(V.bool (fM l2 (nth (nth m.nx ((nth l2 k).s).toNat) j) ((sNq m (nth l2 k) j).1)))∧H 2=(bMq m)∧H 3=(bFq g)∧H 4=bTq∧((H 13).ver=v13+1∧(H 13).live=false)∧((H 15).ver=v15∧(H 15).live=false)∧H 35=(bk w 117 5 (List.map cPl l2))∧True) ⟨(bW t2 rfl),(bW t4 rfl),(bW t9 (gW (by decide))),(bW t10 rfl),(bW t11 rfl),(bW t12 rfl),(bW t13 rfl),(bW t85 rfl),(bQ h2 (by decide)),(bQ h3 (by decide)),(bQ h4 (by decide)),(dZ (cVq h13)),(iQ h15),(bQ h35 (by decide)),trivial⟩ ?_
    intro T H ⟨t2,t4,t9,t10,t11,t12,t13,t85,h2,h3,h4,h13,h15,h35,_⟩
    refine W_t (aA t11 (bB rfl (rNq 1) (by omega) (aA rfl (R_e ?_))))
    refine p18 _ _ _ ?_ ⟨(j+1),l2,w,(v13+1),v15,rfl,t2,t4,t9,t10,(eTq (rNq (j+1)) (by rfl)),h2,h3,h4,h13,h15,h35,?_,?_,?_,?_,?_⟩
    · omega
    · omega
    · first|exact hp3|exact hp2
    · first|exact hl2|(rw [List.length_append]; omega)
    · first|exact he|(rw [mG (by omega)]; exact he)
    · first|exact hc2.trans (aJ8 (by omega) e1 e2)|(rw [mG (by omega)]; exact hc2.trans (aKO (by omega) e1 e2 e3 e4 e5))
   have e2:=c12
   replace e2: ¬(_=true):=fun q=>absurd (q.symm.trans e2) (by decide)
   refine aC (W_d (by exact (jY h15.2 lV)) (aM t2 h2 (aJ rfl h2 rfl rfl (aA t12 (fE (i:=((nth l2 k).s)) (rVq (aX m.nx)) (rVq (iV ((nth l2 k).s))) (by omega) (by omega) rfl (aG rfl rfl (aA t11 ?_)))))))
   refine cY (i:=j) (rVq (aZ (nth m.nx ((nth l2 k).s).toNat))) (rNq j) (by omega) rfl (aG rfl rfl (aJ t13 h13 rfl rfl (aA t9 (aA t10 (eJ (i:=k) (rVq (V.ms 35 w 0 l2.length)) (rNq k) h35 oB rfl (by omega) (aM rfl h35 (cN (v:=(aZ ((nth l2 k).w))) rfl h35 (eG (by omega) (by rfl)) ?_)))))))
   refine aA t11 (aR rfl rfl (aR rfl rfl (aI (aHR ([(nth l2 k).w,[((j:Nat):Int)]]) (by have:=hp2.ok.len; simp only [cat,List.append_nil,List.length_append,List.length_singleton]; omega)) rfl (aW rfl rfl (aU (i:=15) (n:=v15) (m:=5) rfl h15.1 rfl (bF rfl rfl rfl rfl rfl rfl rfl rfl rfl (R_e ?_)))))))
   refine W_r (aJ t13 h13 rfl rfl (aI (yK (vNx m (nth l2 k) j).f) rfl (aA rfl (bH rfl rfl (bH rfl rfl (aA rfl (aA rfl ?_)))))))
   refine R_e (aB (W_r (aA rfl (bZ rfl rfl (R_e ?_)))))
   refine aH rfl (fun c13=>?_) fun c13=>?_
   ·
    have d1:=aDW a4 (hc.trans (jK (by omega) hp.ok.len (hc2.trans (aTn (by omega) e1 e2 c13))))
    refine aB (W_r (aW rfl rfl (aA rfl (bF t4 rfl rfl h4 rfl rfl rfl rfl rfl (aA rfl (aA rfl (R_e ?_)))))))
    refine aL (y10 _ _ (p28 _ _ (y7 _ _ (y6 _ _ (p24 _ _ (y3 _ _ ?_))))))
    refine gG (bC (u:=(V.agg [V.nilsl,V.nilsl])) t4 (@rfl Blk bTq) (lB oB rfl rfl)) (bV (rVq (V.bool false))) (bV (rVq (iV (enE (vNx m (nth l2 k) j).f)))) (fD (bT ?_) (bT ?_)) (bA ?_) (aE ?_)
    · rw [d1]; try rfl
    · rw [d1]; try rfl
    · rw [d1]; try rfl
    · rw [d1]; try rfl
   have e3:=c13
   refine aC (aB (W_r (aA rfl (eN rfl (R_e ?_)))))
   refine cC rfl (fun c14=>?_) (fun c14=>?_)
   ·
    have e4:enB (vNx m (nth l2 k) j).f=false:=by have q:=c14; simpa [enB] using q
    have d1:=aDW a4 (hc.trans (jK (by omega) hp.ok.len (hc2.trans (aUA (by omega) e1 e2 e3 e4))))
    rw [aMd] at d1
    refine aB (W_r (aJ t2 h2 rfl rfl (aM rfl rfl (aJ rfl rfl rfl rfl (aI (aEd m (cat ([(nth l2 k).w,[((j:Nat):Int)]])) hm (by have:=hp2.ok.len; simp only [cat,List.append_nil,List.length_append,List.length_singleton]; omega) ((hp2.wd k (by omega)).cat1 (by omega) (by omega))) rfl (bF t4 rfl rfl h4 rfl rfl rfl rfl rfl (aA rfl ?_)))))))
    refine aA rfl (R_e (aL (y10 _ _ (p28 _ _ (y7 _ _ (y6 _ _ (p24 _ _ ?_)))))))
    refine y3 _ _ ?_
    refine gG (bC (u:=(V.agg [(aZ (cat ([(nth l2 k).w,[((j:Nat):Int)]]))),(aZ (eY m m.s (cat ([(nth l2 k).w,[((j:Nat):Int)]]))))])) t4 (@rfl Blk (bk 1 54 2 [[(aZ (cat ([(nth l2 k).w,[((j:Nat):Int)]]))),(aZ (eY m m.s (cat ([(nth l2 k).w,[((j:Nat):Int)]]))))]])) (lB oB rfl rfl)) (bV (rVq (V.bool true))) (bV (rVq (iV 0))) (fD (dB ?_ (fun _=>by simp)) (dB ?_ (fun _=>by simp))) (bA ?_) (aE ?_)
    · rw [d1]; try rfl
    · rw [d1]; try rfl
    · rw [d1]; try rfl
    · rw [d1]; try rfl
   have e4: ¬enB (vNx m (nth l2 k) j).f=false:=by have q:=c14; simpa [enB] using q
   refine aC (aB (W_r (aA t9 (fW rfl h35 (by simp) (jN rfl rfl (R_e ?_))))))
   refine aH rfl (fun c15=>?_) fun c15=>?_
   ·
    have d1:=aDW a4 (hc.trans (jK (by omega) hp.ok.len (hc2.trans (aS5 (by omega) e1 e2 e3 e4 (by omega)))))
    refine aB (W_r (aW rfl rfl (bF t4 rfl rfl h4 rfl rfl rfl rfl rfl (aA rfl (aA rfl (R_e (aL ?_)))))))
    refine y10 _ _ (p28 _ _ (y7 _ _ (y6 _ _ (p24 _ _ (y3 _ _ ?_)))))
    refine gG (bC (u:=(V.agg [V.nilsl,V.nilsl])) t4 (@rfl Blk bTq) (lB oB rfl rfl)) (bV (rVq (V.bool false))) (bV (rVq (iV 11))) (fD (bT ?_) (bT ?_)) (bA ?_) (aE ?_)
    · rw [d1]; try rfl
    · rw [d1]; try rfl
    · rw [d1]; try rfl
    · rw [d1]; try rfl
   have e5: ¬l2.length=4096:=by omega
   have hp3:=hp2.put (k:=k) (a:=j) hm (by omega) (by omega) e1 (by omega)
   refine aC (W_t (aA t9 (aJ rfl rfl rfl rfl (aR rfl rfl (bX (l:=l2) (f:=cPl) (x:=(⟨nth (nth m.nx ((nth l2 k).s).toNat) j,(sNq m (nth l2 k) j).1,cat ([(nth l2 k).w,[((j:Nat):Int)]])⟩:Pl)) (rVq (V.ms 35 w 0 l2.length)) h35 (by rfl) (rVq (V.sl [[(iV (nth (nth m.nx ((nth l2 k).s).toNat) j)),(iV ((sNq m (nth l2 k) j).1.op)),(iV ((sNq m (nth l2 k) j).1.arg)),(V.sl (List.map cF ((sNq m (nth l2 k) j).1.kids))),(aZ (cat ([(nth l2 k).w,[((j:Nat):Int)]])))]])) rfl rfl (by omega) (by omega) (aA rfl (R_e ?_)))))))
   refine n10 _ _ (cJ (R:=fun T H=>T 2=(mPq 2)∧T 4=(mPq 4)∧T 9=(V.ms 35 (w+1) 0 (l2.length+1))∧T 10=(iV ((k:Nat):Int))∧T 11=(iV ((j:Nat):Int))∧H 2=(bMq m)∧H 3=(bFq g)∧H 4=bTq∧H 13=(bk (v13+1) 24 3 [(rFq ((sNq m (nth l2 k) j).1))])∧H 15=(bk (v15+1) 117 5 [[(iV (nth (nth m.nx ((nth l2 k).s).toNat) j)),(iV ((sNq m (nth l2 k) j).1.op)),(iV ((sNq m (nth l2 k) j).1.arg)),(V.sl (List.map cF ((sNq m (nth l2 k) j).1.kids))),(aZ (cat ([(nth l2 k).w,[((j:Nat):Int)]])))]])∧H 35=(bk (w+1) 117 5 (List.map cPl (l2++[(⟨nth (nth m.nx ((nth l2 k).s).toNat) j,(sNq m (nth l2 k) j).1,cat ([(nth l2 k).w,[((j:Nat):Int)]])⟩:Pl)])))∧True) ⟨t2,t4,(rVq (V.ms 35 (w+1) 0 (l2.length+1))),t10,t11,h2,h3,h4,h13,rfl,rfl,trivial⟩ ?_)
   intro T H ⟨t2,t4,t9,t10,t11,h2,h3,h4,h13,h15,h35,_⟩
   refine .freeze 15 (cJ (R:=fun T H=>T 2=(mPq 2)∧T 4=(mPq 4)∧T 9=(V.ms 35 (w+1) 0 (l2.length+1))∧T 10=(iV ((k:Nat):Int))∧T 11=(iV ((j:Nat):Int))∧H 2=(bMq m)∧H 3=(bFq g)∧H 4=bTq∧H 13=(bk (v13+1) 24 3 [(rFq ((sNq m (nth l2 k) j).1))])∧((H 15).ver=v15+1∧(H 15).live=false)∧H 35=(bk (w+1) 117 5 (List.map cPl (l2++[(⟨nth (nth m.nx ((nth l2 k).s).toNat) j,(sNq m (nth l2 k) j).1,cat ([(nth l2 k).w,[((j:Nat):Int)]])⟩:Pl)])))∧True) ⟨(bW t2 rfl),(bW t4 rfl),(bW t9 (gW (by decide))),(bW t10 rfl),(bW t11 rfl),(bQ h2 (by decide)),(bQ h3 (by decide)),(bQ h4 (by decide)),(bQ h13 (by decide)),(dZ (cVq h15)),(bQ h35 (by decide)),trivial⟩ ?_)
   intro T H ⟨t2,t4,t9,t10,t11,h2,h3,h4,h13,h15,h35,_⟩
   refine .freeze 13 (.done ?_)
   refine cJ (R:=fun T H=>T 2=(mPq 2)∧T 4=(mPq 4)∧T 9=(V.ms 35 (w+1) 0 (l2.length+1))∧T 10=(iV ((k:Nat):Int))∧T 11=(iV ((j:Nat):Int))∧H 2=(bMq m)∧H 3=(bFq g)∧H 4=bTq∧((H 13).ver=v13+1∧(H 13).live=false)∧((H 15).ver=v15+1∧(H 15).live=false)∧H 35=(bk (w+1) 117 5 (List.map cPl (l2++[(⟨nth (nth m.nx ((nth l2 k).s).toNat) j,(sNq m (nth l2 k) j).1,cat ([(nth l2 k).w,[((j:Nat):Int)]])⟩:Pl)])))∧True) ⟨(bW t2 rfl),(bW t4 rfl),(bW t9 (gW (by decide))),(bW t10 rfl),(bW t11 rfl),(bQ h2 (by decide)),(bQ h3 (by decide)),(bQ h4 (by decide)),(dZ (cVq h13)),(iQ h15),(bQ h35 (by decide)),trivial⟩ ?_
   intro T H ⟨t2,t4,t9,t10,t11,h2,h3,h4,h13,h15,h35,_⟩
   refine W_t (aA t11 (bB rfl (rNq 1) (by omega) (aA rfl (R_e ?_))))
   refine p18 _ _ _ ?_ ⟨(j+1),(l2++[(⟨nth (nth m.nx ((nth l2 k).s).toNat) j,(sNq m (nth l2 k) j).1,cat ([(nth l2 k).w,[((j:Nat):Int)]])⟩:Pl)]),(w+1),(v13+1),(v15+1),rfl,t2,t4,(eTq t9 (by simp)),t10,(eTq (rNq (j+1)) (by rfl)),h2,h3,h4,h13,h15,(eTq h35 (by rfl)),?_,?_,?_,?_,?_⟩
   · omega
   · omega
   · first|exact hp3|exact hp2
   · first|exact hl2|(rw [List.length_append]; omega)
   · first|exact he|(rw [mG (by omega)]; exact he)
   · first|exact hc2.trans (aJ8 (by omega) e1 e2)|(rw [mG (by omega)]; exact hc2.trans (aKO (by omega) e1 e2 e3 e4 e5))
  have hr0:=hc2.trans (aDh (by omega))
  refine aN (p38 _ _ _ (x7 _ _ (n6 _ _ (.done (W_t (aA t10 (bB rfl (rNq 1) (by omega) ?_)))))))
  refine aA rfl (R_e ?_)
  refine p14 _ _ _ ?_ ⟨(k+1),l2,w,v13,v15,rfl,t2,t4,t9,(eTq (rNq (k+1)) (by rfl)),h2,h3,h4,h13,h15,h35,?_,?_,?_⟩
  · have:=hp.ok.len; omega
  · omega
  · exact hp2
  · exact hc.trans (aGR (by omega) hp.ok.len hr0)
 have d1:=aDW a4 (hc.trans (aDu (by omega)))
 refine aN (p34 _ _ _ (x3 _ _ (.done (W_r (aW rfl rfl (bF t4 rfl rfl h4 rfl rfl rfl rfl rfl (aA rfl ?_)))))))
 refine aA rfl (R_e (aO ?_))
 refine gG (bC (u:=(V.agg [V.nilsl,V.nilsl])) t4 (@rfl Blk bTq) (lB oB rfl rfl)) (bV (rVq (V.bool false))) (bV (rVq (iV 0))) (fD (bT ?_) (bT ?_)) (bA ?_) (aE ?_)
 · rw [d1]; try rfl
 · rw [d1]; try rfl
 · rw [d1]; try rfl
 · rw [d1]; try rfl
theorem aHh (m:M) (f:Fm):aQ Tryz.prog 24 [(V.agg [(iV m.i),(iV m.s),(aX m.nx),(aX m.ot)]),(V.agg (rFq f))] (V.tup [(V.agg [(aZ ((eX m f).1.ni)),(aZ ((eX m f).1.no))]),(V.bool ((eX m f).2.1)),(iV ((eX m f).2.2))]):=by
 refine pW Tryz.func24 aQK fun hB=>?_
 unfold s24
 dsimp only
 refine W_r (cE (i:=2) (n:=0) (m:=4) (cs:=[(iV m.i),(iV m.s),(aX m.nx),(aX m.ot)]) rfl (cVq rfl) rfl rfl rfl (cE (i:=3) (n:=0) (m:=3) (cs:=(rFq f)) rfl (cVq rfl) rfl rfl rfl (aU (i:=4) (n:=0) (m:=2) rfl (cVq rfl) rfl (aA rfl (aA rfl (R_e (aB ?_)))))))
 refine W_r (aJ rfl rfl rfl rfl (aI (vC m) rfl (aA rfl (R_e (aB (W_r (aA rfl ?_)))))))
 refine bZ rfl rfl (R_e ?_)
 refine aH rfl (fun c1=>?_) fun c1=>?_
 ·
  have d1:=aOI (f:=f) c1
  refine aB (W_r (aW rfl rfl (aA rfl (bF rfl rfl rfl rfl rfl rfl rfl rfl rfl (aA rfl (aA rfl (R_e ?_)))))))
  refine aL ?_
  refine gG (bC (u:=(V.agg [V.nilsl,V.nilsl])) rfl (@rfl Blk bTq) (lB oB rfl rfl)) (bV (rVq (V.bool false))) (bV (rVq (iV (dM m)))) (fD (bT ?_) (bT ?_)) (bA ?_) (aE ?_)
  · rw [d1]; try rfl
  · rw [d1]; try rfl
  · rw [d1]; try rfl
  · rw [d1]; try rfl
 have a1:=c1
 refine aC (aB (W_r (aJ rfl rfl rfl rfl (aI (eF f) rfl (aA rfl (R_e (aB ?_)))))))
 refine W_r (aA rfl (bZ rfl rfl (R_e ?_)))
 refine aH rfl (fun c2=>?_) fun c2=>?_
 ·
  have d1:=aOD a1 c2
  refine aB (W_r (aW rfl rfl (aA rfl (bF rfl rfl rfl rfl rfl rfl rfl rfl rfl (aA rfl (aA rfl (R_e ?_)))))))
  refine aL ?_
  refine gG (bC (u:=(V.agg [V.nilsl,V.nilsl])) rfl (@rfl Blk bTq) (lB oB rfl rfl)) (bV (rVq (V.bool false))) (bV (rVq (iV (cX f)))) (fD (bT ?_) (bT ?_)) (bA ?_) (aE ?_)
  · rw [d1]; try rfl
  · rw [d1]; try rfl
  · rw [d1]; try rfl
  · rw [d1]; try rfl
 have a2:=c2
 refine aC (W_r (aJ rfl rfl rfl rfl (aI (oN f) rfl (aA rfl (bH rfl rfl (bH rfl rfl (aU (i:=9) (n:=0) (m:=3) rfl (cVq rfl) rfl ?_)))))))
 refine bF rfl rfl rfl rfl rfl rfl rfl rfl rfl (aA rfl (R_e (aB (W_r (aA rfl (bZ rfl rfl (R_e ?_)))))))
 refine aH rfl (fun c3=>?_) fun c3=>?_
 ·
  have d1:=aO7 a1 a2 c3
  refine aB (W_r (aW rfl rfl (aA rfl (bF rfl rfl rfl rfl rfl rfl rfl rfl rfl (aA rfl (aA rfl (R_e ?_)))))))
  refine aL ?_
  refine gG (bC (u:=(V.agg [V.nilsl,V.nilsl])) rfl (@rfl Blk bTq) (lB oB rfl rfl)) (bV (rVq (V.bool false))) (bV (rVq (iV ((bK f).2)))) (fD (bT ?_) (bT ?_)) (bA ?_) (aE ?_)
  · rw [d1]; try rfl
  · rw [d1]; try rfl
  · rw [d1]; try rfl
  · rw [d1]; try rfl
 have d1:=aOS a1 a2 c3
 have v0:=rV c3
 refine aC (W_r (aJ rfl rfl rfl rfl (aJ rfl rfl rfl rfl (aI (aBi m ((bK f).1) (by omega) v0) rfl (bH rfl rfl (bH rfl rfl (bH rfl rfl ?_)))))))
 refine bF rfl rfl rfl rfl rfl rfl rfl rfl rfl (aA rfl (aA rfl (R_e (aO ?_))))
 refine gG (bC (u:=(V.agg [(aZ ((srD m ((bK f).1)).1.ni)),(aZ ((srD m ((bK f).1)).1.no))])) rfl (@rfl Blk (bk 1 54 2 [[(aZ ((srD m ((bK f).1)).1.ni)),(aZ ((srD m ((bK f).1)).1.no))]])) (lB oB rfl rfl)) (bV (rVq (V.bool ((srD m ((bK f).1)).2.1)))) (bV (rVq (iV ((srD m ((bK f).1)).2.2)))) (fD (dB ?_ (fun _=>by simp)) (dB ?_ (fun _=>by simp))) (bA ?_) (aE ?_)
 · rw [d1]; try rfl
 · rw [d1]; try rfl
 · rw [d1]; try rfl
 · rw [d1]; try rfl
theorem aEw (m:M) (l:List Fm) (hl4:l.length≤4):aQ Tryz.prog 27 [(V.agg [(iV (m.i)),(iV (m.s)),(aX m.nx),(aX m.ot)]),(V.sl (List.map cF (l)))] (V.tup [(V.sl (List.map cT ((vaA m (eX m) l).1))),(V.sl (List.map cB ((vaA m (eX m) l).2.1))),(iV ((vaA m (eX m) l).2.2))]):=by
 refine pW Tryz.func27 aQ3 fun hB=>?_
 unfold s27
 dsimp only
 refine W_r (cE (i:=2) (n:=0) (m:=4) (cs:=[(iV (m.i)),(iV (m.s)),(aX m.nx),(aX m.ot)]) rfl (congrArg Blk.ver rfl) rfl rfl rfl (aA rfl (aA rfl (aA rfl (R_e (aB (W_r ?_)))))))
 refine aJ rfl rfl rfl rfl (aI (vC m) rfl (aA rfl (R_e (aB (W_r (aA rfl (bZ rfl rfl ?_)))))))
 refine R_e ?_
 refine aH rfl (fun c1=>?_) fun c1=>?_
 ·
  have d1:=aOe (ck:=eX m) (l:=l) c1
  refine aB (W_r (aA rfl (aA rfl (aA rfl (aA rfl (R_e (aL ?_)))))))
  refine tN (@rfl V V.nilsl) (@rfl V V.nilsl) (@rfl V (iV (dM m))) (bT ?_) (bT ?_) (aE ?_)
  · rw [d1]; try rfl
  · rw [d1]; try rfl
  · rw [d1]; try rfl
 have a1:=c1
 refine aC (W_r (jV (i:=8) (n:=0) rfl (congrArg Blk.ver rfl) (R_e (W_r (jV (i:=9) (n:=0) rfl (congrArg Blk.ver rfl) (R_e (aB ?_)))))))
 refine W_r (aA rfl (R_e (aD fun Q2 n2 x2 y2 z2=>?_)))
 refine bS (fun mm T H=> ∃ (k:Nat) (ts:List Tr) (bs:List Bool) (v1:Nat) (v2:Nat) (v11:Nat),mm=l.length - k∧T 1=(V.sl (List.map cF (l)))∧T 2=(V.mp 2 1 0 0)∧T 8=(V.ms 8 v1 0 (ts.length))∧T 9=(V.ms 9 v2 0 (bs.length))∧T 10=(iV ((k:Nat):Int))∧H 2=(bk 1 50 4 [[(iV (m.i)),(iV (m.s)),(aX m.nx),(aX m.ot)]])∧H 8=(bz v1 54 2 (List.map cT (ts)))∧H 9=(bz v2 4 1 (List.map cB (bs)))∧((H 11).ver=v11∧(H 11).live=false)∧(k≤l.length)∧(ts.length=k∧bs.length=k)∧(vaS (eX m) l [] []=vaS (eX m) (l.drop k) ts bs)) ?_ ?_
 ·
  refine ⟨_,0,[],[],1,1,0,rfl,rfl,rfl,(Eq.trans (@rfl V (V.ms 8 1 0 (0))) (by first|rfl|simp)),(Eq.trans (@rfl V (V.ms 9 1 0 (0))) (by first|rfl|simp)),(Eq.trans (@rfl V (iV (0:Int))) rfl),rfl,(Eq.trans (@rfl Blk (bz 1 54 2 [])) (by first|rfl|simp)),(Eq.trans (@rfl Blk (bz 1 4 1 [])) (by first|rfl|simp)),⟨(congrArg Blk.ver rfl),congrArg Blk.live (@rfl Blk (⟨0,false,false,0,0,[]⟩:Blk))⟩,?_,?_,?_⟩
  · exact Nat.zero_le _
  · exact ⟨rfl,rfl⟩
  · rfl
 intro mm T H ⟨k,ts,bs,v1,v2,v11,hmm,t1,t2,t8,t9,t10,h2,h8,h9,h11,hk,hts,hc⟩ Q3 p13 p23 p33
 unfold aOs
 refine aB (W_r (aA t10 (aA t1 (bG rfl (bM rfl rfl (R_e ?_))))))
 refine aH rfl (fun c4=>?_) fun c4=>?_
 ·
  refine aC (aD fun Q5 n5 x5 y5 z5=>(W_d (by exact (jY (h11).2 lV)) (aJ t2 h2 rfl rfl (aA t1 (aA t10 (bU (i:=k) (@rfl V (V.sl (List.map cF (l)))) (@rfl V (iV ((k:Nat):Int))) (by omega) (bN _) rfl (aG rfl rfl ?_)))))))
  refine aI (aHh m (((nth (l) (k))))) rfl (aA rfl (bH rfl rfl (bH rfl rfl (bH rfl rfl (aU (i:=11) (n:=v11) (m:=2) rfl (h11).1 rfl (bF rfl rfl rfl rfl rfl rfl rfl rfl rfl (aA rfl ?_)))))))
  refine aA rfl (R_e (aB (W_r (aA rfl (bZ rfl rfl (R_e ?_))))))
  refine aH rfl (fun c6=>?_) fun c6=>?_
  ·
   have d1:=aFR a1 (hc.trans (aN0 (by omega) c6))
   refine aB (W_r (aA rfl (aA rfl (aA rfl (aA rfl (R_e (aL ?_)))))))
   refine y5 _ _ (p23 _ _ (y2 _ _ ?_))
   refine tN (@rfl V V.nilsl) (@rfl V V.nilsl) (@rfl V (iV ((eX m (((nth (l) (k))))).2.2))) (bT ?_) (bT ?_) (aE ?_)
   · rw [d1]; try rfl
   · rw [d1]; try rfl
   · rw [d1]; try rfl
  have e1:=c6
  refine aC (W_r (aA t8 (aJ rfl rfl rfl rfl (aR rfl rfl (bX (l:=ts) (f:=cT) (x:=((eX m (((nth (l) (k))))).1)) (@rfl V (V.ms 8 v1 0 (ts.length))) h8 (by first|rfl|simp|omega) (@rfl V (V.sl [[(aZ ((eX m (((nth (l) (k))))).1.ni)),(aZ ((eX m (((nth (l) (k))))).1.no))]])) rfl rfl (by omega) (by omega) (aA rfl (R_e ?_)))))))
  refine W_t (aA t9 (aA rfl (aR rfl rfl (bX (l:=bs) (f:=cB) (x:=((eX m (((nth (l) (k))))).2.1)) (@rfl V (V.ms 9 v2 0 (bs.length))) h9 (by first|rfl|simp|omega) (@rfl V (V.sl [[(V.bool ((eX m (((nth (l) (k))))).2.1))]])) rfl rfl (by omega) (by omega) (aA rfl (R_e (n5 _ _ ?_)))))))
  refine cJ (R:=fun T H=>T 1=(V.sl (List.map cF (l)))∧T 2=(V.mp 2 1 0 0)∧T 8=(V.ms 8 (v1+1) 0 (ts.length+1))∧T 9=(V.ms 9 (v2+1) 0 (bs.length+1))∧T 10=(iV ((k:Nat):Int))∧H 2=(bk 1 50 4 [[(iV (m.i)),(iV (m.s)),(aX m.nx),(aX m.ot)]])∧H 8=(bz (v1+1) 54 2 (List.map cT (ts++[(eX m (((nth (l) (k))))).1])))∧H 9=(bz (v2+1) 4 1 (List.map cB (bs++[(eX m (((nth (l) (k))))).2.1])))∧H 11=(bk (v11+1) 54 2 [[(aZ ((eX m (((nth (l) (k))))).1.ni)),(aZ ((eX m (((nth (l) (k))))).1.no))]])∧True) ⟨t1,t2,(@rfl V (V.ms 8 (v1+1) 0 (ts.length+1))),(@rfl V (V.ms 9 (v2+1) 0 (bs.length+1))),t10,h2,rfl,rfl,rfl,trivial⟩ ?_
  intro T H ⟨t1,t2,t8,t9,t10,h2,h8,h9,h11,_⟩
  refine .freeze 11 (.done ?_)
  refine cJ (R:=fun T H=>T 1=(V.sl (List.map cF (l)))∧T 2=(V.mp 2 1 0 0)∧T 8=(V.ms 8 (v1+1) 0 (ts.length+1))∧T 9=(V.ms 9 (v2+1) 0 (bs.length+1))∧T 10=(iV ((k:Nat):Int))∧H 2=(bk 1 50 4 [[(iV (m.i)),(iV (m.s)),(aX m.nx),(aX m.ot)]])∧H 8=(bz (v1+1) 54 2 (List.map cT (ts++[(eX m (((nth (l) (k))))).1])))∧H 9=(bz (v2+1) 4 1 (List.map cB (bs++[(eX m (((nth (l) (k))))).2.1])))∧((H 11).ver=v11+1∧(H 11).live=false)∧True) ⟨(bW t1 rfl),(bW t2 rfl),(bW t8 (gW (by decide))),(bW t9 (gW (by decide))),(bW t10 rfl),(bQ h2 (by decide)),(bQ h8 (by decide)),(bQ h9 (by decide)),(dZ (congrArg Blk.ver h11)),trivial⟩ ?_
  intro T H ⟨t1,t2,t8,t9,t10,h2,h8,h9,h11,_⟩
  refine W_t (aA t10 (bB rfl (@rfl V (iV ((1:Nat):Int))) (by omega) (aA rfl (R_e ?_))))
  refine p13 _ _ _ ?_ ⟨(k+1),(ts++[(eX m (((nth (l) (k))))).1]),(bs++[(eX m (((nth (l) (k))))).2.1]),(v1+1),(v2+1),(v11+1),rfl,t1,t2,(Eq.trans t8 (by first|rfl|simp)),(Eq.trans t9 (by first|rfl|simp)),(Eq.trans (@rfl V (iV ((k+1:Nat):Int))) (by first|rfl|simp)),h2,(Eq.trans h8 (by first|rfl|simp)),(Eq.trans h9 (by first|rfl|simp)),h11,?_,?_,?_⟩
  · omega
  · omega
  · exact ⟨by rw [List.length_append,hts.1]; rfl,by rw [List.length_append,hts.2]; rfl⟩
  · exact hc.trans (aIW (by omega) e1)
 have d1:=aFR a1 (hc.trans (aFN (by omega)))
 refine aN (p33 _ _ _ (x2 _ _ (.done (W_r (aA t8 (aA t9 (aA rfl ?_)))))))
 refine aA rfl (aA rfl (R_e (aO ?_)))
 refine tN (@rfl V (V.ms 8 v1 0 (ts.length))) (@rfl V (V.ms 9 v2 0 (bs.length))) (@rfl V (iV (0:Int))) (gL h8 (by first|rfl|simp) (l:=ts) rfl (by first|rfl|simp|omega) (fun _=>by simp) ?_) (gL h9 (by first|rfl|simp) (l:=bs) rfl (by first|rfl|simp|omega) (fun _=>by simp) ?_) (aE ?_)
 · rw [d1]; try rfl
 · rw [d1]; try rfl
 · rw [d1]; try rfl
theorem aHt (m:M) (l:List Fm):aQ Tryz.prog 6 [(V.agg [(iV (m.i)),(iV (m.s)),(aX m.nx),(aX m.ot)]),(V.sl (List.map cF (l)))] (V.bool true):=by
 refine pW Tryz.func6 aTu fun hB=>?_
 unfold s6
 dsimp only
 refine W_r (cE (i:=2) (n:=0) (m:=4) (cs:=[(iV (m.i)),(iV (m.s)),(aX m.nx),(aX m.ot)]) rfl (congrArg Blk.ver rfl) rfl rfl rfl (aA rfl (R_e (aB (W_r (aA rfl (bG rfl ?_)))))))
 refine fJ rfl rfl (R_e ?_)
 refine aH rfl (fun c1=>?_) fun c1=>?_
 ·
  refine aB (W_r (aI (uV) rfl (aA rfl (R_e (aL ?_)))))
  refine bI (@rfl V (V.bool true)) (cG (by simp) rfl)
 refine aC (aB (W_r (aA rfl (R_e (aD fun Q2 n2 x2 y2 z2=>?_)))))
 refine bS (fun mm T H=> ∃ (k:Nat),mm=l.length - k∧T 1=(V.sl (List.map cF (l)))∧T 2=(V.mp 2 1 0 0)∧T 5=(iV ((k:Nat):Int))∧H 2=(bk 1 50 4 [[(iV (m.i)),(iV (m.s)),(aX m.nx),(aX m.ot)]])∧(k≤l.length)∧(∀ j,j < k→aEG m (nth l j)=true)) ?_ ?_
 ·
  refine ⟨_,0,rfl,rfl,rfl,(Eq.trans (@rfl V (iV (0:Int))) rfl),rfl,?_,?_⟩
  · omega
  · intro j hj; omega
 intro mm T H ⟨k,hmm,t1,t2,t5,h2,hk,hc⟩ Q3 p13 p23 p33
 unfold aUa
 refine aB (W_r (aA t5 (aA t1 (bG rfl (bM rfl rfl (R_e ?_))))))
 refine aH rfl (fun c4=>?_) fun c4=>?_
 ·
  refine aC (aD fun Q5 n5 x5 y5 z5=>(W_r (aJ t2 h2 rfl rfl (aA t1 (aA t5 (bU (i:=k) (@rfl V (V.sl (List.map cF (l)))) (@rfl V (iV ((k:Nat):Int))) (by omega) (bN _) rfl (aG rfl rfl ?_)))))))
  refine aI (aBY m (((nth (l) (k))))) rfl (eN rfl (R_e ?_))
  refine jW rfl (fun c6=>?_) (fun c6=>?_)
  ·
   refine W_r (aI (uV) rfl (aA rfl (R_e (aO (y5 _ _ (p23 _ _ (y2 _ _ ?_)))))))
   refine bI (@rfl V (V.bool true)) (cG (by simp) rfl)
  have d1:aEG m (nth l k)=true:=by have q:=c6; simpa using q
  refine cM (n5 _ _ (.done (W_t (aA t5 (bB rfl (@rfl V (iV ((1:Nat):Int))) (by omega) (aA rfl (R_e ?_)))))))
  refine p13 _ _ _ ?_ ⟨(k+1),rfl,t1,t2,(Eq.trans (@rfl V (iV ((k+1:Nat):Int))) (by first|rfl|simp)),h2,?_,?_⟩
  · omega
  · omega
  · intro j hj
    by_cases e:j=k
    · subst e; exact d1
    · exact hc j (by omega)
 have hd:=aRw (m:=m) (l:=l) fun j hj=>hc j (by omega)
 have hdl:(vaA m (eX m) l).2.1.length=(vaA m (vck m) l).2.1.length:=by rw [hd]
 have hln:=aLx (m:=m) (ck:=vck m) (l:=l)
 refine aN (p33 _ _ _ (x2 _ _ (.done (W_r (aJ t2 h2 rfl rfl (aA t1 (aI (aHf m l (by omega)) rfl ?_)))))))
 refine aA rfl (bH rfl rfl (bH rfl rfl (bH rfl rfl (aA rfl (aA rfl (aA rfl (R_e ?_)))))))
 refine W_r (aJ t2 h2 rfl rfl (aA t1 (aI (aEw m l (by omega)) rfl (aA rfl (bH rfl rfl (bH rfl rfl (bH rfl rfl ?_)))))))
 refine aA rfl (aA rfl (aA rfl (R_e (aB (W_r (aA rfl (aA rfl ?_)))))))
 refine aI (aJF ((vaA m (vck m) l).1) ((vaA m (eX m) l).1)) rfl (vP rfl (aA rfl ?_))
 refine aV 6 (fun T H=>T 7=(V.sl (List.map cB ((vaA m (vck m) l).2.1)))∧T 8=(iV ((vaA m (vck m) l).2.2))∧T 10=(V.sl (List.map cB ((vaA m (eX m) l).2.1)))∧T 11=(iV ((vaA m (eX m) l).2.2))∧T 55=(V.bool (decide ((¬(((vaA m (vck m) l).1)=((vaA m (eX m) l).1)))∨(((((vaA m (vck m) l).2.1).length:Nat):Int)≠((((vaA m (eX m) l).2.1).length:Nat):Int)))))∧H 2=(bk 1 50 4 [[(iV (m.i)),(iV (m.s)),(aX m.nx),(aX m.ot)]])∧True) ?_ ?_
 ·
  by_cases g7: ¬(((vaA m (vck m) l).1)=((vaA m (eX m) l).1))
  ·
   refine G_n (edT g7 rfl) (G_n (edT g7 rfl) (G_n (edT g7 rfl) (G_n (edT g7 rfl) (G_n (edT g7 rfl) (aS (edT g7 rfl) rfl ?_)))))
   exact ⟨rfl,rfl,rfl,rfl,(cQ g7),h2,trivial⟩
  ·
   refine aF (edF g7 rfl) (aA rfl (aF (edF g7 rfl) (bG rfl (aF (edF g7 rfl) (aA rfl (aF (edF g7 rfl) (bG rfl ?_)))))))
   refine aF (edF g7 rfl) (bZ rfl rfl (aT (edF g7 rfl) rfl ?_))
   exact ⟨rfl,rfl,rfl,rfl,(cR g7),h2,trivial⟩
 intro T H ⟨t7,t8,t10,t11,t55,h2,_⟩
 refine aA t55 ?_
 refine aV 4 (fun T H=>T 7=(V.sl (List.map cB ((vaA m (vck m) l).2.1)))∧T 10=(V.sl (List.map cB ((vaA m (eX m) l).2.1)))∧T 60=(V.bool (decide (((¬(((vaA m (vck m) l).1)=((vaA m (eX m) l).1)))∨(((((vaA m (vck m) l).2.1).length:Nat):Int)≠((((vaA m (eX m) l).2.1).length:Nat):Int)))∨(((vaA m (vck m) l).2.2)≠((vaA m (eX m) l).2.2)))))∧H 2=(bk 1 50 4 [[(iV (m.i)),(iV (m.s)),(aX m.nx),(aX m.ot)]])∧True) ?_ ?_
 ·
  by_cases g8:(¬(((vaA m (vck m) l).1)=((vaA m (eX m) l).1)))∨(((((vaA m (vck m) l).2.1).length:Nat):Int)≠((((vaA m (eX m) l).2.1).length:Nat):Int))
  ·
   refine G_n (edT g8 rfl) (G_n (edT g8 rfl) (G_n (edT g8 rfl) (aS (edT g8 rfl) rfl ?_)))
   exact ⟨t7,t10,(cQ g8),h2,trivial⟩
  ·
   refine aF (edF g8 rfl) (aA t8 (aF (edF g8 rfl) (aA t11 (aF (edF g8 rfl) (bZ rfl rfl (aT (edF g8 rfl) rfl ?_))))))
   exact ⟨t7,t10,(cR g8),h2,trivial⟩
 intro T H ⟨t7,t10,t60,h2,_⟩
 refine R_e ?_
 refine aH t60 (fun c9=>?_) fun c9=>?_
 · exfalso; have q:=c9; rw [hd] at q; simp at q
 refine aC (aB (W_r (aA rfl (R_e (aD fun Q10 n10 x10 y10 z10=>?_)))))
 refine bS (fun mm T H=> ∃ (j:Nat),mm=(vaA m (vck m) l).2.1.length - j∧T 7=(V.sl (List.map cB ((vaA m (vck m) l).2.1)))∧T 10=(V.sl (List.map cB ((vaA m (eX m) l).2.1)))∧T 12=(iV ((j:Nat):Int))∧H 2=(bk 1 50 4 [[(iV (m.i)),(iV (m.s)),(aX m.nx),(aX m.ot)]])∧(j≤(vaA m (vck m) l).2.1.length)) ?_ ?_
 ·
  refine ⟨_,0,rfl,t7,t10,(Eq.trans (@rfl V (iV (0:Int))) rfl),h2,?_⟩
  · omega
 intro mm T H ⟨j,hmm,t7,t10,t12,h2,hj⟩ Q11 p111 p211 p311
 unfold aUd
 refine aB (W_r (aA t12 (aA t7 (bG rfl (bM rfl rfl (R_e ?_))))))
 refine aH rfl (fun c12=>?_) fun c12=>?_
 ·
  refine aC (aD fun Q13 n13 x13 y13 z13=>(W_r (aA t7 (aA t12 (cY (i:=j) (@rfl V (V.sl (List.map cB ((vaA m (vck m) l).2.1)))) (@rfl V (iV ((j:Nat):Int))) (by omega) rfl (aG rfl rfl (aA t10 ?_)))))))
  refine aA t12 (cY (i:=j) (@rfl V (V.sl (List.map cB ((vaA m (eX m) l).2.1)))) (@rfl V (iV ((j:Nat):Int))) (by omega) rfl (aG rfl rfl (aR2 (x:=((nth ((vaA m (vck m) l).2.1) (j)))) (y:=((nth ((vaA m (eX m) l).2.1) (j)))) rfl rfl (R_e ?_))))
  refine jW rfl (fun c14=>?_) (fun c14=>?_)
  · exfalso; have q:=c14; rw [hd] at q; simp at q
  refine cM (n13 _ _ (.done (W_t (aA t12 (bB rfl (@rfl V (iV ((1:Nat):Int))) (by omega) (aA rfl (R_e ?_)))))))
  refine p111 _ _ _ ?_ ⟨(j+1),rfl,t7,t10,(Eq.trans (@rfl V (iV ((j+1:Nat):Int))) (by first|rfl|simp)),h2,?_⟩
  · omega
  · omega
 refine aN (p311 _ _ _ (x10 _ _ (.done (W_r (aI (uV) rfl (aA rfl (R_e ?_)))))))
 refine aO ?_
 refine bI (@rfl V (V.bool true)) (cG (by simp) rfl)
end Go.Proofs.YteehaobohaecmaaGreatDoor
namespace Go.Proofs.YteehaobohaecmaaGreatDoor
open Go Go.ChangeShapes Go.WideShapes Go.ChangeAt Go.RowKit
def okS (P:Program) (S:List TypeId) (t:TypeId):Bool:=match P.underlying t with
  |some .bool=>true
  |some (.int _)=>true
  |some .string=>true
  |some (.slice e)=>decide (e∈S)&&decide (P.cellsOf e≠0)
  |some (.struct fs)=>fs.toList.all (fun f=>decide (f.type∈S))&&aDs P (P.cellsOf t) 0 fs.toList
  |some (.array m e)=>decide (e∈S)&&decide (m*P.cellsOf e=P.cellsOf t)
  |_=>false
section
variable {H:Type} {enc:TypeId×Value→H} {P:Program} {base:Nat} {spare:Nat→Bool} {held:Bool}
theorem aMk {x : Cx} (hZ : ∀ b, b < x.w.heap.size → x.Z b) {S : List TypeId} (hS : ∀ t ∈ S, okS P S t = true) : ∀ (fuel : Nat) (t : TypeId), t ∈ S → ∀ (cs : List Value) (y : DataW H × List MemPlace), DataW.trod enc P x.w base spare held fuel t cs = some y →
    ∃ vs,Shp P fuel t vs∧RC x vs cs:=by
  intro n
  induction n with
  |zero=>intro t _ cs y hy; simp [DataW.trod] at hy
  | succ n ih =>
    intro t hm cs y hy
    have hok:=hS t hm
    have one: ∀ {v:V} {c:Value},R x v c→RC x [v] [c]:=fun {v c} h=>⟨rfl,fun j u hj=>by
      cases j with
      |zero=>simp at hj; subst hj; exact h
      |succ j=>simp at hj⟩
    simp only [okS] at hok
    split at hok
    · rename_i ht
      simp only [Shp,ht]
      obtain ⟨b,rfl,_⟩:=DataW.trod_bool ht hy
      exact ⟨[.bool b],⟨b,rfl⟩,one (.bool b)⟩
    · rename_i k ht
      simp only [Shp,ht]
      obtain ⟨m,rfl,_,hw⟩:=DataW.trod_int ht hy
      exact ⟨[.int k m],⟨m,rfl,hw⟩,one (.int k m)⟩
    · rename_i ht
      simp only [Shp,ht]
      obtain ⟨s,rfl,_⟩:=DataW.trod_string ht hy
      exact ⟨[.str s.data.toList],⟨_,rfl⟩,one (R.str s.data.toList)⟩
    · rename_i e ht
      simp only [Shp,ht]
      simp only [Bool.and_eq_true,decide_eq_true_eq] at hok
      obtain ⟨hok,hnz⟩:=hok
      rcases DataW.trod_slice ht hy with ⟨rfl,_⟩|⟨a,len,cap,elems,rest,m,em,rfl,_,hb,hl,hc,hlen,hel,_,_⟩
      · exact ⟨[.sl []],⟨[],rfl,fun r hr=>by cases hr⟩,one .slnil⟩
      · obtain rfl:n=m:=by omega
        have hall: ∀ i,i < len→ ∃ r:List V,Shp P n e r∧ ∃ ci:List Value,x.w.cells? base (a.add (i*P.cellsOf e)) (P.cellsOf e)=some ci∧RC x r ci:=by
          intro i hi
          have h1:=hel i hi
          rw [List.getElem?_eq_getElem (by omega)] at h1
          cases h2:x.w.cells? base (a.add (i*P.cellsOf e)) (P.cellsOf e) with
          |none=>rw [h2] at h1; cases h1
          | some ci =>
            rw [h2] at h1
            obtain ⟨vs,h3,h4⟩:=ih e hok ci _ h1
            exact ⟨vs,h3,ci,rfl,h4⟩
        obtain ⟨rows,hrl,hrows⟩:=aLX hall
        have hcell: ∀ (r:Nat) (row:List V) (j:Nat) (v:V),rows[r]?=some row→row[j]?=some v→
            ∃ c,x.w.cell? (a.add (r*P.cellsOf e+j))=some c∧R x v c:=by
          intro r row j v hr hj
          obtain ⟨_,ci,g1,g2⟩:=hrows r row hr
          obtain ⟨_,g4,g5⟩:=World.cells?_some g1
          have hjlt:j < ci.length:=by have:=(List.getElem?_eq_some_iff.1 hj).1; rw [← g2.1]; exact this
          have g6:=g5 j (by omega)
          rw [List.getElem?_eq_getElem hjlt,Addr.add_add] at g6
          refine ⟨_,g6,?_⟩
          have:=g2.2 j v hj
          rw [List.getD_eq_getElem?_getD,List.getElem?_eq_getElem hjlt] at this
          exact this
        have key:=R.sl (x:=x) rows a cap (P.cellsOf e) (fun k=>(x.w.cell? (a.add k)).getD undef) (by omega) hc ?_ ?_ ?_ ?_
        · rw [hrl] at key
          exact ⟨[.sl rows],⟨rows,rfl,fun r hr=>by obtain ⟨i,hi⟩:=List.getElem?_of_mem hr; exact (hrows i r hi).1⟩,one key⟩
        · intro hne
          cases hrr:rows with
          |nil=>exact (hne hrr).elim
          | cons r0 rs =>
            obtain ⟨_,ci,g1,g2⟩:=hrows 0 r0 (by rw [hrr]; rfl)
            · obtain ⟨_,g4,g5⟩:=World.cells?_some g1
              have g6:=g5 0 (by omega)
              rw [List.getElem?_eq_getElem (by omega),Addr.add_add] at g6
              have hlt:(a.add (0*P.cellsOf e+0)).block < x.w.heap.size:=by
                unfold World.cell? at g6
                split at g6
                · rename_i hh
                  exact (Array.getElem?_eq_some_iff.1 hh).1
                · cases g6
              exact hZ _ (by simpa [Addr.add] using hlt)
        · intro r hr
          obtain ⟨i,hi⟩:=List.getElem?_of_mem hr
          obtain ⟨_,ci,g1,g2⟩:=hrows i r hi
          rw [g2.1]
          exact (World.cells?_some g1).2.1
        · intro r row j v hr hj
          obtain ⟨c,g1,_⟩:=hcell r row j v hr hj
          rw [g1]; rfl
        · intro r row j v hr hj
          obtain ⟨c,g1,g2⟩:=hcell r row j v hr hj
          simp only [g1,Option.getD_some]
          exact g2
    · rename_i fs ht
      simp only [Shp,ht]
      simp only [Bool.and_eq_true] at hok
      obtain ⟨xs,m,em,_,hl,hxl,hf⟩:=DataW.trod_struct ht hy
      obtain rfl:n=m:=by omega
      have hfs: ∀ f∈fs.toList,∃ z,DataW.trod enc P x.w base spare held n f.type ((cs.drop f.offset).take (P.cellsOf f.type))=some z:=by
        intro f hm
        obtain ⟨i,hi⟩:=List.getElem?_of_mem hm
        have hi':fs[i]?=some f:=by simpa using hi
        have hlt:i < xs.length:=by
          have:=(Array.getElem?_eq_some_iff.1 hi').1
          omega
        exact ⟨xs[i],by rw [hf i f hi',List.getElem?_eq_getElem hlt]⟩
      have hok':=List.all_eq_true.1 hok.1
      have main: ∀ (l:List Field) (off:Nat),(∀ f∈l,f∈fs.toList)→aDs P (P.cellsOf t) off l=true→off≤cs.length→ ∃ vs,aDR (Shp P n) l vs∧RC x vs (cs.drop off):=by
        intro l
        induction l with
        | nil =>
          intro off _ htl hle
          simp only [aDs,decide_eq_true_eq] at htl
          refine ⟨[],rfl,?_⟩
          rw [List.drop_of_length_le (by omega)]
          exact ⟨rfl,fun j v hj=>by simp at hj⟩
        | cons f r ihr =>
          intro off hsub htl hle
          simp only [aDs,Bool.and_eq_true,decide_eq_true_eq] at htl
          obtain ⟨z,hz⟩:=hfs f (hsub f (List.mem_cons_self ..))
          obtain ⟨va,g1,g2⟩:=ih f.type (of_decide_eq_true (hok' f (hsub f (List.mem_cons_self ..)))) _ _ hz
          have hoff:off+P.cellsOf f.type≤cs.length:=by
            rw [hl]
            have: ∀ (l:List Field) (o:Nat),aDs P (P.cellsOf t) o l=true→o≤P.cellsOf t:=by
              intro l
              induction l with
              |nil=>intro o h; simp only [aDs,decide_eq_true_eq] at h; omega
              |cons f r ih=>intro o h; simp only [aDs,Bool.and_eq_true,decide_eq_true_eq] at h; have:=ih _ h.2; omega
            exact this _ _ htl.2
          obtain ⟨vb,g3,g4⟩:=ihr (off+P.cellsOf f.type) (fun q hq=>hsub q (List.mem_cons_of_mem _ hq)) htl.2 hoff
          refine ⟨va++vb,⟨va,vb,rfl,g1,g3⟩,?_⟩
          have hsplit:cs.drop off=(cs.drop off).take (P.cellsOf f.type)++cs.drop (off+P.cellsOf f.type):=by
            rw [← List.drop_drop,List.take_append_drop]
          rw [hsplit]
          rw [htl.1] at g2
          exact aA9 g2 g4
      obtain ⟨vs,g1,g2⟩:=main fs.toList 0 (fun _ h=>h) hok.2 (Nat.zero_le _)
      exact ⟨vs,g1,by simpa using g2⟩
    · rename_i m e ht
      simp only [Shp,ht]
      simp only [Bool.and_eq_true,decide_eq_true_eq] at hok
      obtain ⟨xs,f,em,_,hl,hxl,hf⟩:=DataW.trod_array ht hy
      obtain rfl:n=f:=by omega
      have main: ∀ (k i:Nat),i+k=m→ ∃ vs,aRE (Shp P n e) k vs∧RC x vs (cs.drop (i*P.cellsOf e)):=by
        intro k
        induction k with
        | zero =>
          intro i hi
          refine ⟨[],rfl,?_⟩
          rw [List.drop_of_length_le (by rw [hl,← hok.2,show i=m by omega]; exact Nat.le_refl _)]
          exact ⟨rfl,fun j v hj=>by simp at hj⟩
        | succ k ihk =>
          intro i hi
          have hlt:i < m:=by omega
          have hz:=hf i hlt
          rw [List.getElem?_eq_getElem (by omega)] at hz
          obtain ⟨va,g1,g2⟩:=ih e hok.1 _ _ hz
          obtain ⟨vb,g3,g4⟩:=ihk (i+1) (by omega)
          refine ⟨va++vb,⟨va,vb,rfl,g1,g3⟩,?_⟩
          have hsplit:cs.drop (i*P.cellsOf e)=(cs.drop (i*P.cellsOf e)).take (P.cellsOf e)++cs.drop ((i+1)*P.cellsOf e):=by
            rw [Nat.add_mul,Nat.one_mul,← List.drop_drop,List.take_append_drop]
          rw [hsplit]
          exact aA9 g2 g4
      obtain ⟨vs,g1,g2⟩:=main m 0 (by omega)
      exact ⟨vs,g1,by simpa using g2⟩
    · cases hok
theorem aLp {x:Cx} (hZ: ∀ b,b < x.w.heap.size→x.Z b) {S:List TypeId} (hS: ∀ t∈S,okS P S t=true) {t:TypeId} (ht0:t∈S) {r:Reach} {b0 base:Nat} {spare:Nat→Bool} {held:Bool} {v:Value} {d:DataW H} {ps:List MemPlace}
    (wA:Value.okWide P x.w r b0 t v) (hd:DataW.Trod enc P x.w base spare held t v d ps): ∃ n vs,Shp P n t vs∧R x (pC P t vs) v:=by
  obtain ⟨fuel,hf⟩:=hd
  obtain ⟨vs,h1,h2⟩:=aMk hZ hS fuel t ht0 _ _ hf
  refine ⟨fuel,vs,h1,?_⟩
  have hok:=hS t ht0
  unfold pC
  simp only [okS] at hok
  split at hok
  · rename_i ht
    obtain ⟨b,rfl⟩:=okWide_bool ht wA
    rw [ht]; exact aBD h2
  · rename_i k ht
    obtain ⟨m,rfl⟩:=okWide_int ht wA
    rw [ht]; exact aBD h2
  · rename_i ht
    obtain ⟨s,rfl⟩:=okWide_string ht wA
    rw [ht]; exact aBD h2
  · rename_i e ht
    obtain ⟨a,l,c,rfl⟩:=okWide_slice ht wA
    rw [ht]; exact aBD h2
  · rename_i fs ht
    obtain ⟨cs,rfl,_⟩:=okWide_struct ht wA
    rw [ht]
    refine .agg vs cs (by have:=h2.1; simp [Value.cells] at this; omega) fun j u hj=>?_
    have:=h2.2 j u hj
    rw [List.getD_eq_getElem?_getD] at this
    rw [Array.getD_eq_getD_getElem?,← Array.getElem?_toList]
    exact this
  · rename_i m e ht
    have hval2:=wA
    simp only [Value.okWide,ht] at hval2
    obtain ⟨cs,rfl,_⟩:=hval2
    rw [ht]
    refine .agg vs cs (by have:=h2.1; simp [Value.cells] at this; omega) fun j u hj=>?_
    have:=h2.2 j u hj
    rw [List.getD_eq_getElem?_getD] at this
    rw [Array.getD_eq_getD_getElem?,← Array.getElem?_toList]
    exact this
  · cases hok
def aEa (P:Program):List TypeId→List V→Prop
  |[],vs=>vs=[]
  |t::ts,vs=> ∃ n a b,vs=pC P t a::b∧Shp P n t a∧aEa P ts b
theorem aA6 {x:Cx} (hZ: ∀ b,b < x.w.heap.size→x.Z b) {S:List TypeId} (hS: ∀ t∈S,okS P S t=true) {r:Reach} {b0 base:Nat} {spare:Nat→Bool} {held:Bool}: ∀ (ts:List TypeId) (vs:List Value) (ds:List (DataW H)) (ps:List MemPlace),
    (∀ t∈ts,t∈S)→(∀ (j:Nat) t v,ts[j]?=some t→vs[j]?=some v→Value.okWide P x.w r b0 t v)→DataW.TrodAll enc P x.w base spare held ts vs ds ps→
    ∃ us,aEa P ts us∧RL x us vs
  | [], vs, ds, ps, _, _, h => by
    obtain ⟨rfl,rfl,rfl⟩:=trodAll_nil h
    exact ⟨[],rfl,rfl,fun j v hj=>by simp at hj⟩
  | t :: ts, vs, ds, ps, hok, wA, h => by
    obtain ⟨v,vs1,d,ds1,a,b,rfl,rfl,rfl,h1,h2⟩:=trodAll_cons h
    obtain ⟨n,ws,g1,g2⟩:=aLp hZ hS (hok t (List.mem_cons_self ..)) (wA 0 t v rfl rfl) h1
    obtain ⟨us,g3,g4⟩:=aA6 hZ hS ts vs1 ds1 b (fun q hq=>hok q (List.mem_cons_of_mem _ hq)) (fun j q u hq hu=>wA (j+1) q u (by simpa using hq) (by simpa using hu)) h2
    refine ⟨pC P t ws::us,⟨n,ws,us,rfl,g1,g3⟩,by simp [g4.1],fun j u hj=>?_⟩
    cases j with
    |zero=>simp at hj; subst hj; exact g2
    |succ j=>exact g4.2 j u (by simpa using hj)
theorem aHI {f:FuncId} {fn:Func} {s:ChangeSpec} {apart fresh handsOn again:Bool} {tb:Nat} {S:List TypeId} {W:World} {args:Array Value} {ds gs:List (DataW H)} {before:List MemPlace}
    (hl:laidOutB P=true) (hres:fn.resultTypes=#[tb]) (htb:P.underlying tb=some .bool) (hS: ∀ t∈S,okS P S t=true) (hts: ∀ t∈fn.params.toList,t∈S∧P.readableRec t=true∧t < P.types.size)
    (hvars:s.vars=[]) (hs:s.fn H (ds++gs)={results:=[.lit (.bool true)],args:=ds})
    (hlaw: ∀ us,aEa P fn.params.toList us→aQ P f us (.bool true))
    (wA: ∀ (j:Nat) t v,fn.params[j]?=some t→args[j]?=some v→Value.okWide P W .any 0 t v)
    (hW:DataW.Whole enc P fn.params.toList s.vars apart W args.toList ds gs before) (htab:aIR W (fun b=>b < W.heap.size):=by intro p hp; simp [aNa] at hp):
    Calls P f args W fun e W'=> ∃ v,e=.returned v∧s.post enc P fn apart fresh handsOn again W args v W':=by
  have hW':=hW
  obtain ⟨p,q,hA,hV,rfl,hfz,hnd⟩:=hW
  rw [hvars] at hV
  obtain ⟨rfl,rfl⟩:=trodVars_none hV
  have hlt:=hW'.lt
  let x:Cx:=start {w:=W,Z:=fun b=>b < W.heap.size,σ:=fun _=>0,H:=H0} (fun b=>b < W.heap.size)
  have hx:Inv x:=lR (fun b hb=>hb) htab
  obtain ⟨us,g1,g2⟩:=aA6 (x:=x) (fun b hb=>hb) hS fn.params.toList args.toList ds p (fun t ht=>(hts t ht).1) (fun j t v h1 h2=>wA j t v (by simpa using h1) (by simpa using h2)) hA
  have hc:=(hlaw us g1 H0).2 x args.toList rfl hx g2
  rw [Array.toArray_toList] at hc
  refine Calls.mono (show Calls P f args W _ from hc) fun e W' h=>?_
  obtain ⟨c,y,rfl,rfl,h3,h4,h5,h6⟩:=h
  cases h5
  have hb:Below W.heap.size W y.w:=yA h6 (fun _=>rfl) rfl
  refine ⟨_,rfl,aAj (pa:=p) (pv:=[]) hW' (fun b sp hd=>?_) (fun sp hsp=>?_) (fun sp _=>?_) (by simp) hb ?_⟩
  · rw [hs,hres]
    exact trodAll_mk1 (shut_bool htb true)
  · rw [hs]
    exact qU hl hb _ _ _ _ (fun t ht=>(hts t ht).2) hA (fun z hz=>hlt z (by simpa using hz)) (fun z hz=>hsp z (by simpa using hz))
  · rw [hs,hvars]; rfl
  · exact ok_one hres rfl (okWide_bool_mk htb true)
end
section
variable {P:Program} {n t:Nat} {vs:List V}
theorem aMW {k:IntKind} (ht:P.underlying t=some (.int k)) (h:Shp P n t vs): ∃ m:Int,vs=[.int k m]:=by
  cases n with
  |zero=>exact h.elim
  |succ n=>exact aNd ht h
theorem uE {e:Nat} {α:Type} {f:α→List V} (ht:P.underlying t=some (.slice e)) (he: ∀ m vs,Shp P m e vs→ ∃ a,vs=f a) (h:Shp P n t vs): ∃ l:List α,vs=[.sl (l.map f)]:=by
  cases n with
  |zero=>exact h.elim
  |succ n=>exact aAw ht (he n) h
theorem aCv {fs:Array Field} (ht:P.underlying t=some (.struct fs)) (h:Shp P n t vs): ∃ m,n=m+1∧aDR (Shp P m) fs.toList vs:=by
  cases n with
  |zero=>exact h.elim
  |succ n=>exact ⟨n,rfl,aJf ht h⟩
theorem aJq {e:Nat} {α:Type} {f:α→List V} {N:Nat} (ht:P.underlying t=some (.slice e)) (he: ∀ m,m < N→ ∀ vs,Shp P m e vs→ ∃ a,vs=f a) (hn:n < N) (h:Shp P n t vs): ∃ l:List α,vs=[.sl (l.map f)]:=by
  cases n with
  |zero=>exact h.elim
  |succ n=>exact aAw ht (he n (by omega)) h
theorem aAK {ts:List TypeId} {us:List V} (h:aEa P (t::ts) us): ∃ n a b,us=pC P t a::b∧Shp P n t a∧aEa P ts b:=h
theorem aKQ {us:List V} (h:aEa P [] us):us=[]:=h
end
end Go.Proofs.YteehaobohaecmaaGreatDoor
namespace Go.Proofs.YteehaobohaecmaaGreatDoor
open Go Go.Proofs Go.Proofs.YteehaobohaecmaaGreatDoor
theorem aTN : Tryz.prog.globalNamed "internal/strconv.uint64pow10" = some 0 := by kernel_rfl
theorem aH2 (os:Os) (args:Array Value):laidMetH Tryz.prog Rows.monitorSimplifiesRow.laid ((World.doorLaid Tryz.prog 400 os).forCall (fun _ _=>0) ⟨#[],args,[]⟩).memory:=
  laidMetH_of_parts3 (fuel:=8) (laidMet_of_run' 8 (by kernel_rfl) (by kernel_rfl)) (by kernel_rfl) (by kernel_rfl)
theorem aBQ {W:World} (h:laidMetH Tryz.prog Rows.monitorSimplifiesRow.laid W):aIR W (fun b=>b < W.heap.size):=by
  have h2 := laidMetH.filter (fun x => x.1 == "internal/strconv.uint64pow10") h
  rw [show Rows.monitorSimplifiesRow.laid.filter (fun x => x.1 == "internal/strconv.uint64pow10") = [("internal/strconv.uint64pow10", Lib.tabData .u64 Lib.pow10Tab)] from by kernel_rfl] at h2
  rw [MakeChecks.laidMetH_plain _ _ _ (by kernel_rfl)] at h2
  have h3 : Lib.TabIs Tryz.prog W "internal/strconv.uint64pow10" .u64 Lib.pow10Tab := Lib.tabIs_of_head (n := 20) aTN (show (Tryz.prog.globals[0]?).map (·.type) = some 195 from by kernel_rfl) Tryz.underlying195 Tryz.underlying177 (by kernel_rfl) (by kernel_rfl) h2
  unfold Lib.TabIs World.var? at h3
  rw [aTN] at h3
  simp only [Option.bind_some] at h3
  intro p hp
  rw [show p=(0,aPH) from by simpa [aNa] using hp]
  revert h3
  cases hq:W.heap[0]? with
  |none=>intro h3; cases h3
  | some o =>
    cases o with
    | cells cs ty m =>
      intro h3
      injection h3 with h3
      refine ⟨?_,ty,m,by rw [h3]; rfl⟩
      obtain ⟨hlt,_⟩:=Array.getElem?_eq_some_iff.1 hq
      exact hlt
    |_=>intro h3; cases h3
end Go.Proofs.YteehaobohaecmaaGreatDoor
namespace Go.Proofs.YteehaobohaecmaaGreatDoor
open Go Go.Proofs Go.Proofs.YteehaobohaecmaaGreatDoor Go.ChangeShapes Go.WideShapes Go.ChangeAt Go.RowKit
structure UT (P:Program):Prop where
  u3:P.underlying 3=some (.int .i64)
  u40:P.underlying 40=some (.slice 52)
  u52:P.underlying 52=some (.slice 3)
  u50: ∃ f0 f1 f2 f3:Field,P.underlying 50=some (.struct #[f0,f1,f2,f3])∧f0.type=3∧f1.type=3∧f2.type=40∧f3.type=40
  u22:P.underlying 22=some (.slice 24)
  u24: ∃ f0 f1 f2:Field,P.underlying 24=some (.struct #[f0,f1,f2])∧f0.type=3∧f1.type=3∧f2.type=22
theorem sh3 {P:Program} (U:UT P): ∀ (n:Nat) (vs:List V),Shp P n 3 vs→ ∃ a:Int,vs=cI a:=fun _ _ h=>aMW U.u3 h
theorem aUS {P:Program} (U:UT P): ∀ (n:Nat) (vs:List V),Shp P n 52 vs→ ∃ a:(List Int),vs=cL a:=fun _ _ h=>uE (f:=cI) U.u52 (sh3 U) h
theorem aSo {P:Program} (U:UT P): ∀ (n:Nat) (vs:List V),Shp P n 40 vs→ ∃ a:(List (List Int)),vs=(fun l=>[V.sl (List.map cL l)]) a:=fun _ _ h=>uE (f:=cL) U.u40 (aUS U) h
theorem aUT {P:Program} (U:UT P): ∀ (n:Nat) (vs:List V),Shp P n 50 vs→ ∃ a:M,vs=mC a:=by
  intro n
  induction n using Nat.strongRecOn with
  | ind n ih =>
    intro vs h
    obtain ⟨f0,f1,f2,f3,hu,k0,k1,k2,k3⟩:=U.u50
    obtain ⟨m,hm,h0⟩:=aCv hu h
    obtain ⟨x0,u0,e0,h1⟩:=jH (c:=cI) (fun vs h=>sh3 U m vs (by rw [k0] at h; exact h)) h0
    obtain ⟨x1,u1,e1,h2⟩:=jH (c:=cI) (fun vs h=>sh3 U m vs (by rw [k1] at h; exact h)) h1
    obtain ⟨x2,u2,e2,h3⟩:=jH (c:=(fun l=>[V.sl (List.map cL l)])) (fun vs h=>aSo U m vs (by rw [k2] at h; exact h)) h2
    obtain ⟨x3,u3,e3,h4⟩:=jH (c:=(fun l=>[V.sl (List.map cL l)])) (fun vs h=>aSo U m vs (by rw [k3] at h; exact h)) h3
    have e4:=aDF h4
    exact ⟨⟨x0,x1,x2,x3⟩,by rw [e0,e1,e2,e3,e4]; rfl⟩
theorem aUC {P:Program} (U:UT P): ∀ (n:Nat) (vs:List V),Shp P n 24 vs→ ∃ a:Fm,vs=cF a:=by
  intro n
  induction n using Nat.strongRecOn with
  | ind n ih =>
    intro vs h
    obtain ⟨f0,f1,f2,hu,k0,k1,k2⟩:=U.u24
    obtain ⟨m,hm,h0⟩:=aCv hu h
    obtain ⟨x0,u0,e0,h1⟩:=jH (c:=cI) (fun vs h=>sh3 U m vs (by rw [k0] at h; exact h)) h0
    obtain ⟨x1,u1,e1,h2⟩:=jH (c:=cI) (fun vs h=>sh3 U m vs (by rw [k1] at h; exact h)) h1
    obtain ⟨x2,u2,e2,h3⟩:=jH (c:=fun l:List Fm=>[V.sl (List.map cF l)]) (fun vs h=>aJq (N:=n) (n:=m) U.u22 ih (by omega) (by rw [k2] at h; exact h)) h2
    have e3:=aDF h3
    exact ⟨(Fm.nd x0 x1 x2),by rw [e0,e1,e2,e3,bN]; rfl⟩
theorem aUQ {P:Program} (U:UT P): ∀ (n:Nat) (vs:List V),Shp P n 22 vs→ ∃ a:(List Fm),vs=(fun l=>[V.sl (List.map cF l)]) a:=fun _ _ h=>uE (f:=cF) U.u22 (aUC U) h
theorem ut:UT Tryz.prog:=⟨by kernel_rfl,by kernel_rfl,by kernel_rfl,⟨_,_,_,_,Tryz.underlying50,rfl,rfl,rfl,rfl⟩,by kernel_rfl,⟨_,_,_,Tryz.underlying24,rfl,rfl,rfl⟩⟩
theorem aUw {P:Program} (U:UT P) {us:List V} (h:aEa P [50,22] us): ∃ (d0:M) (d1:(List Fm)),us=[V.agg (mC d0),V.sl (List.map cF d1)]:=by
  obtain ⟨n0,a0,b0,e0,h0,h⟩:=aAK h
  obtain ⟨d0,g0⟩:=aUT U n0 a0 h0
  have q0:pC P 50 a0=V.agg (mC d0):=by obtain ⟨_,_,_,_,hu,_⟩:=U.u50; rw [g0]; exact aCR hu _
  obtain ⟨n1,a1,b1,e1,h1,h⟩:=aAK h
  obtain ⟨d1,g1⟩:=aUQ U n1 a1 h1
  have q1:pC P 22 a1=V.sl (List.map cF d1):=by rw [g1]; exact aEM (fun fs h=>by rw [U.u22] at h; cases h) (fun m e h=>by rw [U.u22] at h; cases h)
  have e2:=aKQ h
  exact ⟨d0,d1,by rw [e0,q0,e1,q1,e2]⟩
theorem aUM:ownKnob Tryz.prog.godebug=none:=by kernel_rfl
theorem aUP: ∀ t∈[3,22,24,40,50,52],okS Tryz.prog [3,22,24,40,50,52] t=true:=by
  intro t ht
  simp only [List.mem_cons,List.not_mem_nil,or_false] at ht
  rcases ht with rfl|rfl|rfl|rfl|rfl|rfl
  · kernel_rfl
  · kernel_rfl
  · kernel_rfl
  · kernel_rfl
  · kernel_rfl
  · kernel_rfl
set_option maxRecDepth 100000 in
theorem aMA (os:Os) (started:os.Started) (H:Type) (enc:TypeId×Value→H):
    ReturnsInHanded {} Tryz.checked os 6 .any (fun w args=>(Rows.verifyAllSpec.pre enc Tryz.prog Tryz.f6 [] false w args∧laidMetH Tryz.prog Rows.verifyAllRow.laid w)∧sizedMet enc Tryz.prog Tryz.f6 (OpenSpec.ofChange Rows.verifyAllSpec) false w args)
      (Rows.verifyAllSpec.post enc Tryz.prog Tryz.f6 false true false false):=by
  refine returnsInHanded_of_change_and (C:=Tryz.checked) (X:=fun w _=>laidMetH Tryz.prog Rows.verifyAllRow.laid w) (fun _ _ _ hh h=>h.of_heap hh) aUM started (by kernel_rfl) Tryz.func6
    (ChangeSpec.witness_shaped (enc:=enc) (C:=Tryz.checked) (os:=os) (X:=fun w _=>laidMetH Tryz.prog Rows.verifyAllRow.laid w) false (World.doorLaid Tryz.prog 400 os) #[.agg #[.int .i64 0,.int .i64 0,.slice none 0 0,.slice none 0 0],.slice none 0 0] 8 rfl (World.shaped_of_RefB (by kernel_rfl) (by kernel_rfl)) (by kernel_rfl) (by kernel_rfl) (by kernel_rfl) (aH2 os _)) ?_
  intro W base args ds gs before hval0 hW _ _ hL _
  refine aHI (S:=[3,22,24,40,50,52]) (tb:=4) (by kernel_rfl) (by kernel_rfl) (by kernel_rfl) aUP (fun t ht=>?_) rfl ?_ (fun us hu=>?_) hval0 hW (aBQ hL)
  · have h:t∈[50,22]:=ht
    simp only [List.mem_cons,List.not_mem_nil,or_false] at h
    rcases h with rfl|rfl
    · exact ⟨of_decide_eq_true (by kernel_rfl),by kernel_rfl,of_decide_eq_true (by kernel_rfl)⟩
    · exact ⟨of_decide_eq_true (by kernel_rfl),by kernel_rfl,of_decide_eq_true (by kernel_rfl)⟩
  · obtain ⟨p,q,hA,hV,rfl,hfz,hnd⟩:=hW
    obtain ⟨rfl,rfl⟩:=trodVars_none hV
    change DataW.TrodAll enc Tryz.prog W 0 (fun _=>true) true [50,22] args.toList ds p at hA
    obtain ⟨v0,vs0,y0,ds0,pa0,pb0,hv0,rfl,rfl,_,hA⟩:=trodAll_cons hA
    obtain ⟨v1,vs1,y1,ds1,pa1,pb1,hv1,rfl,rfl,_,hA⟩:=trodAll_cons hA
    obtain ⟨_,rfl,rfl⟩:=trodAll_nil hA
    rfl
  · obtain ⟨d0,d1,rfl⟩:=aUw ut hu
    exact aHt d0 d1
theorem aUN:Rows.VerifyAllSaid:=
  OpenClaim.holds_of_wide 6 Tryz.f6 rfl rfl rfl rfl rfl rfl rfl ⟨rfl,rfl,rfl,rfl,rfl⟩ rfl rfl rfl rfl rfl (by kernel_rfl) Tryz.func6 (by kernel_rfl)
    (of_decide_eq_true (by kernel_rfl)) (by unfold Func.isWrapper; first|(rw [if_pos (by decide+kernel)]; kernel_rfl)|(rw [if_neg (by decide+kernel)]; exact ⟨rfl,rfl⟩))
    (fun os started H enc _=>aMA os started H enc)
theorem proved6 : Rows.VerifyAllCardSaid :=
  Claim7.holds_tied_plain_at .later [] [.data, .data, .data] true (true, "98a18010de341d32116933fdf51a3dd8a8f2b57aa54f69519e37bffcb02f6549") false
    aUN (fun _ h=>by cases h) (by kernel_rfl) (fun _ h=>by cases h) verifyAll_row_tie rfl ⟨rfl,rfl⟩ (by kernel_rfl) rfl
    (fun f fn hf hfn=>by
      obtain rfl : f = 6 := Option.some.inj ((show Tryz.prog.funcNamed "learner/learnerlaw47.VerifyAll" = some 6 by kernel_rfl).symm.trans hf) |>.symm
      obtain rfl:fn=Tryz.f6:=(Option.some.inj (Tryz.func6.symm.trans hfn)).symm
      exact ⟨by kernel_rfl,fun j t ht=>by
        rw [Tryz.params6] at ht
        have hm:t∈[50,22]:=by simpa using Array.mem_of_getElem? ht
        have hall:([50,22].all fun u=> !Tryz.prog.wantsStandIn u)=true:=by kernel_rfl
        exact (show Tryz.prog.wantsStandIn t=false by simpa using List.all_eq_true.1 hall t hm)⟩)
    (by kernel_rfl)
end Go.Proofs.YteehaobohaecmaaGreatDoor
