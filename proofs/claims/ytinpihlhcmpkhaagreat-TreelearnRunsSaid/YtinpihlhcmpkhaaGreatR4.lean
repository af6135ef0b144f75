/- Contracts of the functions that the law R reaches, and the law itself, for every input; no condition. -/
import Derived.KernelRfl
import Derived.Test.YtinpihlhcmpkhaaGreatProg
import Derived.Test.YtinpihlhcmpkhaaGreatR3
set_option linter.unusedSimpArgs false
set_option linter.unusedVariables false
set_option maxRecDepth 20000
set_option maxHeartbeats 1000000
namespace Go.Proofs.YtinpihlhcmpkhaaGreat
section
open Go Go.Proofs
theorem aAP (h:Hy) (o:Ob) (w:List Int) (e:vU h o w=0) (ho:kS o=0) (i:Nat) (hi:i<=w.length) (hk:(eA o (lY h w i)).isSome=true):bK Tryz.prog 167 [(V.pp [(iV h.m.i),(iV h.m.s),(aC h.m.nx),(aC h.m.ot),(aC h.acc),(iV o.i),(V.sl (List.map cT o.tr)),(aE w),(aE (oR h w (w.length+1))),(aE (pH h w))]),(iV ((i:Nat):Int))] (aE (reA h o w i)):=by
 refine' pK [] [] Tryz.func167 ?e λhB=>?_
 case e=>conv=>lhs; cbv
 dsimp only;obtain ⟨hv,hio,hwo,hka,hdf,hwp⟩:=aAx e;obtain ⟨hm,hal,hac⟩:=mS hv;have hw:dG w h.m.i=0:=by rw [hio]; exact hwo
 obtain ⟨hwl1,hwl2⟩:=eL hw;have hl1:=sQ h w<|w.length+1
 have hl2:=qO h w;have hsi:=xJ hm hw i;have hst:aA (oR h w<|w.length+1) i=iA h w i:=aDw OM;have hql:(bD [aA h.acc (iA h w i).toNat,w.drop i]).length=(aA h.acc (iA h w i).toNat).length+(w.length - i):=qR h w i;have hal2:(aA h.acc (iA h w i).toNat).length<=1024:=hac _ OM;have hln:=nH (lD ho) hk;have hqa:=qR h w i;have hal3:(acA h w i).length<=1024:=hal2;refine aW<|aD<|aW<|aP<|gN J<|dB (cs':=[(iV o.i),(V.sl<|List.map cT o.tr),(aE w),(aE<|oR h w<|w.length+1),(aE<|pH h w)]) J J<|aL J J<|aP<|aP<|aI (zS h o w e ho i hi) J<|aI (lO o (lY h w i) ho) J<|aP<|bE J J<|bE J J<|aP ?_
 refine aD<|aW<|aP<|aP<|bA J<|aP<|gN J<|dB (cs':=[(aE w),(aE<|oR h w<|w.length+1),(aE<|pH h w)]) J J<|aL J J<|bA J<|aP<|mP J J OM OM<|mP J J OM OM<|gD (n:=((((((eA o<|lY h w i).getD []).length:Nat):Int) - (((w.length:Nat):Int) - ((i:Nat):Int))).toNat)) (aM<|aE<|(eA o<|lY h w i).getD []) (bL (aM<|iV<|((((eA o<|lY h w i).getD []).length:Nat):Int) - (((w.length:Nat):Int) - ((i:Nat):Int)))<|sC OM) OM (λ_=>J)<|aP ?_
 refine R_q ?_;refine aZ (aM<|aE<|List.drop ((((((eA o<|lY h w i).getD []).length:Nat):Int) - (((w.length:Nat):Int) - ((i:Nat):Int))).toNat)<|(eA o<|lY h w i).getD [])<|cA ?_ (λ_=>by simp)
 . unfold reA; rw [show ((((eA o<|lY h w i).getD []).length:Int) - ((w.length:Int) - (i:Int))).toNat=(acA h w i).length by omega]
theorem aGZ (h:Hy) (o:Ob) (w:List Int) (e:vU h o w=0) (ho:kS o=0) (i:Nat) (hi:i<=w.length) (hk:(eA o (lY h w i)).isSome=true):bK Tryz.prog 166 [(iV ((i:Nat):Int)),(V.pp [(V.pp [(iV h.m.i),(iV h.m.s),(aC h.m.nx),(aC h.m.ot),(aC h.acc),(iV o.i),(V.sl (List.map cT o.tr)),(aE w),(aE (oR h w (w.length+1))),(aE (pH h w))])])] (V.bool (baA h o w i)):=by
 refine' pK [] [] Tryz.func166 ?e λhB=>?_
 case e=>conv=>lhs; cbv
 dsimp only;obtain ⟨hv,hio,hwo,hka,hdf,hwp⟩:=aAx e;obtain ⟨hm,hal,hac⟩:=mS hv;have hw:dG w h.m.i=0:=by rw [hio]; exact hwo
 obtain ⟨hwl1,hwl2⟩:=eL hw;have hl1:=sQ h w<|w.length+1
 have hl2:=qO h w

 refine aW<|aD<|aW<|aL J J<|aP<|aI (aAP h o w e ho i hi hk) J<|aL J J<|gN J<|dB (cs':=[(aE<|pH h w)]) J J<|aL J J<|aP<|gD (n:=i) (aM<|aE<|pH h w) (cO i) OM (λ_=>J)<|aI (nQ (reA h o w i)<|List.drop i<|pH h w) J<|qT J<|aP ?_
 refine R_q ?_;refine aZ (aM<|V.bool<|decide (¬((reA h o w i)=(List.drop i<|pH h w))))<|cH ?_
 . rw [aPi]
theorem aDQ (h:Hy) (o:Ob) (w:List Int) (e:vU h o w=0) (ho:kS o=0) (i:Nat) (hi:i < w.length) (hk:(eA o (lY h w i)).isSome=true):bK Tryz.prog 169 [(V.pp [(iV h.m.i),(iV h.m.s),(aC h.m.nx),(aC h.m.ot),(aC h.acc),(iV o.i),(V.sl (List.map cT o.tr)),(aE w),(aE (oR h w (w.length+1))),(aE (pH h w))]),(iV ((i:Nat):Int))] (V.tup [(V.agg [(aE ((wW h o w i).p)),(iV ((wW h o w i).a)),(aE ((wW h o w i).x))]),(aE ([]:List Int)),(iV (snE h o w i))]):=by
 refine' pK [] [] Tryz.func169 ?e λhB=>?_
 case e=>conv=>lhs; cbv
 dsimp only;obtain ⟨hv,hio,hwo,hka,hdf,hwp⟩:=aAx e;obtain ⟨hm,hal,hac⟩:=mS hv;have hw:dG w h.m.i=0:=by rw [hio]; exact hwo
 obtain ⟨hwl1,hwl2⟩:=eL hw;have hl1:=sQ h w<|w.length+1
 have hl2:=qO h w;have hsi:=xJ hm hw i;have hst:aA (oR h w<|w.length+1) i=iA h w i:=aDw OM;have hql:(bD [aA h.acc (iA h w i).toNat,w.drop i]).length=(aA h.acc (iA h w i).toNat).length+(w.length - i):=qR h w i;have hal2:(aA h.acc (iA h w i).toNat).length<=1024:=hac _ OM;have hrw:=tJ hm hsi.1 hsi.2;have hwi:=hwl2 i hi;have hal3:(acA h w i).length<=1024:=hal2;have hqa:=qR h w i;have hln:=nH (lD ho) hk;have hon:=aHw (h:=h) hi;have hdn:aA (reA h o w i) 0=aA ((eA o<|lY h w i).getD []) (acA h w i).length:=by unfold reA; rw [rX]; rfl
 have hrl:(reA h o w i).length=w.length - i:=by unfold reA; rw [List.length_drop]; omega
 refine aW<|bM (i:=4) (n:=0) (m:=3) J (cE J) J<|aP<|aD<|aO<|aP<|aP<|aI (aAP h o w e ho i OM hk) J<|dA (i:=0) (aM<|aE<|reA h o w i) (cO 0)<|aL J J<|aP<|gN J<|dB (cs':=[(aE<|pH h w)]) J J<|aL J J ?_
 refine aP<|dA (i:=i) (aM<|aE<|pH h w) (cO i)<|aL J J<|bP J J<|bR ?_
 refine aH J (λc1=>?_) λc1=>?_
 . 
  have d1:snE h o w i=15:=if_pos (by have q:=c1; rw [hdn,hon] at q; exact q);refine aO<|bN J J<|bQ J J J J J J J J J<|aP<|aD<|aK ?_
  refine fI (bI (u:=(V.agg [V.nilsl,(iV 0),V.nilsl])) J (@J Blk<|bk 1 62 3 [[V.nilsl,(iV 0),V.nilsl]])<|lB oB J J) (aY<|aM V.nilsl) (aY<|aM<|iV 15) (kK (bH ?_) (aF ?_)<|bH ?_) (bH ?_)<|aF ?_
  . unfold wW; rw [if_pos OM]
  . unfold wW; rw [if_pos OM]
  . unfold wW; rw [if_pos OM]
  . rfl
  . exact d1.symm
 have d1:snE h o w i=0:=if_neg (by have q:=c1; rw [hdn,hon] at q; exact q);refine aB ?_;refine dE (λT H=>T 4=(cG 4)/\T 5=V.nilsl/\T 6=(iV 0)/\H 4=(bk 1 62 3 [[(aE<|aA h.acc (aA (oR h w<|w.length+1) i).toNat),(iV<|aA w i),(aE<|List.drop (i+1) w)]])/\True) ?_ ?_
 . 
  refine aP<|gN J<|dB (cs':=[(iV h.m.i),(iV h.m.s),(aC h.m.nx),(aC h.m.ot),(aC h.acc),(iV o.i),(V.sl<|List.map cT o.tr),(aE w),(aE<|oR h w<|w.length+1),(aE<|pH h w)]) J J<|dB (cs':=[(aC h.acc),(iV o.i),(V.sl<|List.map cT o.tr),(aE w),(aE<|oR h w<|w.length+1),(aE<|pH h w)]) J J<|aL J J<|aP<|gN J<|dB (cs':=[(aE<|oR h w<|w.length+1),(aE<|pH h w)]) J J<|aL J J<|aP<|dA (i:=i) (aM<|aE<|oR h w<|w.length+1) (cO i)<|aL J J<|dR (i:=(aA (oR h w<|w.length+1) i)) (aM<|aC h.acc) (aM<|iV<|aA (oR h w<|w.length+1) i) OM OM J<|aL J J<|aI (lI (aA h.acc (aA (oR h w<|w.length+1) i).toNat) (by (rw [hst]; omega))) J<|aP ?_
  refine gN J<|dB (cs':=[(aE w),(aE<|oR h w<|w.length+1),(aE<|pH h w)]) J J<|aL J J<|aP<|dA (i:=i) (aM<|aE w) (cO i)<|aL J J<|aP<|gN J<|dB (cs':=[(aE w),(aE<|oR h w<|w.length+1),(aE<|pH h w)]) J J<|aL J J<|aP<|cF J<|gD (n:=(i+1)) (aM<|aE w) (cO<|i+1) OM (λ_=>J)<|aI (lI (List.drop (i+1) w) (by (rw [List.length_drop]; omega))) J<|bN J J<|bQ J J J J J J J J J ?_
  refine aP<|aP ?_
  exact eS ⟨J,J,J,J,trivial⟩
 intro T H ⟨t4,t5,t6,h4,_⟩;refine bF ?_;refine fI (bI (u:=(V.agg [(aE<|aA h.acc (aA (oR h w<|w.length+1) i).toNat),(iV<|aA w i),(aE<|List.drop (i+1) w)])) t4 h4<|lB oB J J) (aY t5) (aY t6) (kK (cA ?_ (λ_=>by simp)) (aF ?_)<|cA ?_ (λ_=>by simp)) (bH ?_)<|aF ?_
 . unfold wW; first|(rw [if_neg OM]; done)|(rw [if_neg OM,hst]; first|done|rfl)
 . unfold wW; first|(rw [if_neg OM]; done)|(rw [if_neg OM,hst]; first|done|rfl)
 . unfold wW; first|(rw [if_neg OM]; done)|(rw [if_neg OM,hst]; first|done|rfl)
 . rfl
 . exact d1.symm
theorem aCA (h:Hy) (o:Ob) (w:List Int) (e:vU h o w=0) (ho:kS o=0):bK Tryz.prog 116 [(V.pp [(iV h.m.i),(iV h.m.s),(aC h.m.nx),(aC h.m.ot),(aC h.acc),(iV o.i),(V.sl (List.map cT o.tr)),(aE w),(aE (oR h w (w.length+1))),(aE (pH h w))]),(V.fn 117 [] [])] (V.tup [(V.agg [(aE ((jV h o w).p)),(iV ((jV h o w).a)),(aE ((jV h o w).x))]),(aE (kV h o w)),(iV (tS h o w))]):=by
 refine' pK [] [] Tryz.func116 ?e λhB=>?_
 case e=>conv=>lhs; cbv
 dsimp only;obtain ⟨hv,hio,hwo,hka,hdf,hwp⟩:=aAx e;obtain ⟨hm,hal,hac⟩:=mS hv;have hw:dG w h.m.i=0:=by rw [hio]; exact hwo
 obtain ⟨hwl1,hwl2⟩:=eL hw;have hl1:=sQ h w<|w.length+1
 have hl2:=qO h w

 refine aW<|bS (i:=2) (n:=0) (m:=1) (cs:=[(V.pp [(iV h.m.i),(iV h.m.s),(aC h.m.nx),(aC h.m.ot),(aC h.acc),(iV o.i),(V.sl<|List.map cT o.tr),(aE w),(aE<|oR h w<|w.length+1),(aE<|pH h w)])]) J (cE J) J J J<|bM (i:=4) (n:=0) (m:=3) J (cE J) J<|aP<|aD<|aW<|yG (bO J dQ)<|aD<|aW<|aV J J J J<|gN J<|dB (cs':=[(aE w),(aE<|oR h w<|w.length+1),(aE<|pH h w)]) J J<|aL J J<|bA J ?_
 refine aP<|aD (aG λQ1 n1 x1 y1 z1=>?_)
 refine cC (λmm T H=> ∃ (lo:Nat) (hi:Nat) (n:Nat),mm=hi - lo/\T 1=(V.fn 117 [] [])/\T 2=(cG 2)/\T 4=(cG 4)/\T 7=(V.fn 166 [] [(cG 2)])/\T 8=(iV ((lo:Nat):Int))/\T 9=(iV ((hi:Nat):Int))/\H 2=(bk 1 175 1 [[(V.pp [(iV h.m.i),(iV h.m.s),(aC h.m.nx),(aC h.m.ot),(aC h.acc),(iV o.i),(V.sl<|List.map cT o.tr),(aE w),(aE<|oR h w<|w.length+1),(aE<|pH h w)])]])/\H 4=(bk 1 62 3 [[V.nilsl,(iV 0),V.nilsl]])/\(lo < hi)/\(hi<=w.length)/\(hi - lo<=n)/\((eA o<|lY h w lo).isSome=true)/\(fdR h o w=fnA h o w n lo hi)) ?_ ?_
 . 
  refine ⟨_,0,w.length,w.length,J,J,J,J,J,(bL (aM<|iV 0) J),J,J,J,?_,?_,?_,?_,?_⟩
  . omega
  . omega
  . omega
  . rw [aFJ hv]; exact hka
  . rfl
 intro mm T H ⟨lo,hi,n,hmm,t1,t2,t4,t7,t8,t9,h2,h4,u1,u2,u3,hk,hc⟩ Q2 p12 p22 p32;refine aO<|aJ t9<|aJ t8<|mP J J OM OM<|eD J J<|bR ?_
 refine aH J (λc3=>?_) λc3=>?_
 . 
  have d3:1 < hi - lo:=OM
  obtain ⟨n0,hn⟩: ∃ n0,n=n0+1:=⟨n - 1,OM⟩;have hqm:=qR h w<|(lo+hi) / 2
  refine aB (fZ λQ4 n4 x4 y4 z4=>(aW<|aJ t1<|aJ t8<|aJ t9<|iP (aM<|V.fn 117 [] []) (bO (cO lo)<|bO (cO hi) dQ) (aGw lo hi OM OM) (eF _ _ (by simp [-List.map_take,-List.map_drop,-List.map_append,-List.map_reverse])) (by simp [-List.map_take,-List.map_drop,-List.map_append,-List.map_reverse]) (Or.inl (by simp [-List.map_take,-List.map_drop,-List.map_append,-List.map_reverse]))<|aD<|aW<|aV t2 h2 J J<|aP<|aI (zS h o w e ho ((lo+hi) / 2) OM) J<|aD<|cS ?_));refine aW<|aP<|bA J<|eD J J<|bR ?_
  refine aH J (λc5=>?_) λc5=>?_
  . 
   have d4:1024 < (lY h w<|(lo+hi) / 2).length:=OM
   obtain ⟨s1,s2,s3⟩:=aB4 e (show fdR h o w=(none,[],3) by rw [hc,hn]; exact aEM d3 d4);refine aO<|bN J J<|bQ t4 J J h4 J J J J J<|aP<|aD<|aK<|y4 _ _<|p22 _ _<|y1 _ _ ?_
   refine fI (bI (u:=(V.agg [V.nilsl,(iV 0),V.nilsl])) t4 (@J Blk<|bk 1 62 3 [[V.nilsl,(iV 0),V.nilsl]])<|lB oB J J) (aY<|aM V.nilsl) (aY<|aM<|iV 3) (kK (bH ?_) (aF ?_)<|bH ?_) (bH ?_)<|aF ?_
   . rw [s1]
   . rw [s1]
   . rw [s1]
   . rw [s2]
   . rw [s3]
  have d4:(lY h w<|(lo+hi) / 2).length<=1024:=OM
  refine aB<|aO<|aV t2 h2 J J<|gN J<|dB (cs':=[(iV o.i),(V.sl<|List.map cT o.tr),(aE w),(aE<|oR h w<|w.length+1),(aE<|pH h w)]) J J<|aL J J<|aP<|aI (lO o (lY h w<|(lo+hi) / 2) ho) J<|aP<|bE J J<|bE J J<|aP<|aD<|cS ?_
  refine aW<|aP<|fF J<|bR ?_
  refine cU J (λc6=>?_) (λc6=>?_)
  . 
   have d5:(eA o<|lY h w<|(lo+hi) / 2).isSome=false:=by simpa using c6
   obtain ⟨s1,s2,s3⟩:=aB4 e (show fdR h o w=(none,lY h w ((lo+hi) / 2),0) by rw [hc,hn]; exact aHN d3 d4 d5);refine aO<|bN J J<|aP<|bQ t4 J J h4 J J J J J<|aP<|aD<|aK<|y4 _ _<|p22 _ _<|y1 _ _ ?_
   refine fI (bI (u:=(V.agg [V.nilsl,(iV 0),V.nilsl])) t4 (@J Blk<|bk 1 62 3 [[V.nilsl,(iV 0),V.nilsl]])<|lB oB J J) (aY<|aM<|aE<|lY h w<|(lo+hi) / 2) (aY<|aM<|iV 0) (kK (bH ?_) (aF ?_)<|bH ?_) (cA ?_ (λ_=>by simp))<|aF ?_
   . rw [s1]
   . rw [s1]
   . rw [s1]
   . rw [s2]
   . rw [s3]
  have d5:(eA o<|lY h w<|(lo+hi) / 2).isSome=true:=by simpa using c6
  refine aB<|aW<|aJ t7<|aP<|iP (aM<|V.fn 166 [] [(cG 2)]) (bO (cO<|(lo+hi) / 2) dQ) (aGZ h o w e ho ((lo+hi) / 2) OM d5) (cZ (dM 6 _ (by simp [-List.map_take,-List.map_drop,-List.map_append,-List.map_reverse]))<|cZ (by simp [fQ,Blk.own,h2,h4]) J) (by simp [-List.map_take,-List.map_drop,-List.map_append,-List.map_reverse]) (Or.inr J)<|bR ?_
  refine mJ J (λc7=>?_) (λc7=>?_)
  . 
   have d6:baA h o w ((lo+hi) / 2)=true:=c7;refine eI<|aP<|aD<|n4 _ _ ?_
   refine p12 _ _ _ ?_ ⟨((lo+hi) / 2),hi,(n - 1),J,t1,t2,t4,t7,(bL (cO<|(lo+hi) / 2) JR),t9,h2,h4,?_,?_,?_,?_,?_⟩
   . omega
   . omega
   . omega
   . omega
   . first|exact hk|exact d5
   . rw [hc,hn]; first|exact aA9 d3 d4 d5 d6|exact xU d3 d4 d5 d6
  have d6:baA h o w ((lo+hi) / 2)=false:=by simpa using c7
  refine eI<|aP<|aD<|n4 _ _ ?_
  refine p12 _ _ _ ?_ ⟨lo,((lo+hi) / 2),(n - 1),J,t1,t2,t4,t7,t8,(bL (cO<|(lo+hi) / 2) JR),h2,h4,?_,?_,?_,?_,?_⟩
  . omega
  . omega
  . omega
  . omega
  . first|exact hk|exact d5
  . rw [hc,hn]; first|exact aA9 d3 d4 d5 d6|exact xU d3 d4 d5 d6
 have d3: ¬ 1 < hi - lo:=OM
 obtain ⟨n0,hn⟩: ∃ n0,n=n0+1:=⟨n - 1,OM⟩;obtain ⟨s1,s2,s3⟩:=aEN (q:=[]) (z:=0) e (by rw [hc,hn]; exact aH9 d3);have s4:kV h o w=[]:=s2;refine aT<|p32 _ _ _<|x1 _ _ (.done (aW<|aV t2 h2 J J<|aJ t8<|aI (aDQ h o w e ho lo OM hk) J<|bE J J<|bE J J<|bE J J<|bQ t4 J J h4 J J J J J<|aP<|aD<|bF ?_))
 refine fI (bI (u:=(V.agg [(aE<|(wW h o w lo).p),(iV<|(wW h o w lo).a),(aE<|(wW h o w lo).x)])) t4 (@J Blk<|bk 1 62 3 [[(aE<|(wW h o w lo).p),(iV<|(wW h o w lo).a),(aE<|(wW h o w lo).x)]])<|lB oB J J) (aY<|aM<|aE ([]:List Int)) (aY<|aM<|iV<|snE h o w lo) (kK (cA ?_ (λ_=>by simp)) (aF ?_)<|cA ?_ (λ_=>by simp)) (cA ?_ (λ_=>by simp))<|aF ?_
 . rw [s1]
 . rw [s1]
 . rw [s1]
 . rw [s2]
 . rw [s3]
theorem aAG (h:Hy) (o:Ob) (w:List Int) (ho:kS o=0):bK Tryz.prog 68 [(V.agg [(iV h.m.i),(iV h.m.s),(aC h.m.nx),(aC h.m.ot),(aC h.acc)]),(V.agg [(iV o.i),(V.sl (List.map cT o.tr))]),(aE w)] (V.tup [(V.agg [(aE ((jV h o w).p)),(iV ((jV h o w).a)),(aE ((jV h o w).x))]),(aE (kV h o w)),(iV (tS h o w))]):=by
 refine' pK [] [] Tryz.func68 ?e λhB=>?_
 case e=>conv=>lhs; cbv
 dsimp only;refine aW<|bS (i:=3) (n:=0) (m:=5) (cs:=[(iV h.m.i),(iV h.m.s),(aC h.m.nx),(aC h.m.ot),(aC h.acc)]) J (cE J) J J J<|bS (i:=4) (n:=0) (m:=2) (cs:=[(iV o.i),(V.sl<|List.map cT o.tr)]) J (cE J) J J J<|bM (i:=6) (n:=0) (m:=3) J (cE J) J<|aP<|aD<|aW<|aV J J J J<|aV J J J J<|aP<|aI (aDO h o w ho) J<|aP<|bE J J<|bE J J<|aP ?_
 refine aD<|aO<|aP<|bP J J<|bR ?_
 refine aH J (λc1=>?_) λc1=>?_
 . 
  obtain ⟨s1,s2,s3⟩:=aHX (h:=h) (o:=o) (w:=w) c1;refine aO<|bN J J<|aP<|bQ J J J J J J J J J<|aP<|aD<|aK ?_
  refine fI (bI (u:=(V.agg [V.nilsl,(iV 0),V.nilsl])) J (@J Blk<|bk 1 62 3 [[V.nilsl,(iV 0),V.nilsl]])<|lB oB J J) (aY<|aM V.nilsl) (aY<|aM<|iV<|vU h o w) (kK (bH ?_) (aF ?_)<|bH ?_) (bH ?_)<|aF ?_
  . rw [s1]
  . rw [s1]
  . rw [s1]
  . rw [s2]
  . rw [s3]
 have d0:vU h o w=0:=OM
 have d1:=aKW d0;refine aB<|aW<|aJ ((aM<|bgP h o w).trans d1)<|aI (aCA h o w d0 ho) J<|bE J J<|bE J J<|bE J J<|bQ J J J J J J J J J<|aP<|aD<|bF ?_
 refine fI (bI (u:=(V.agg [(aE<|(jV h o w).p),(iV<|(jV h o w).a),(aE<|(jV h o w).x)])) J (@J Blk<|bk 1 62 3 [[(aE<|(jV h o w).p),(iV<|(jV h o w).a),(aE<|(jV h o w).x)]])<|lB oB J J) (aY<|aM<|aE<|kV h o w) (aY<|aM<|iV<|tS h o w) (eM SI J) (eM SI J)<|eM SI J
end
section
open Go
def wG (l:List Tr):Nat:=(l.map λt=>t.ni.length).sum
theorem yO (t:Tr) (l:List Tr):wG (t::l)=t.ni.length+wG l:=by simp [wG]
theorem aMf (l k:List Tr):wG (l++k)=wG l+wG k:=by simp [wG]
theorem xK (p:Tr->Bool): ∀ (l:List Tr),wG (l.filter p)+wG (l.filter λt=> !p t)=wG l
  |[]=>rfl
  | t :: l => by
    have ih:=xK p l
    grind [yO]
theorem aMc (l:List Tr) (t:Tr):wG (ins l t)=wG l+t.ni.length:=by grind [ins,aMf,yO,xK]
theorem aJ8 {n:Nat}: ∀ {l:List Tr},(∀ t∈l,t.ni.length<=n)->wG l<=l.length*n
  |[],_=>by simp [wG]
  | t :: l, h => by
    have h1:=h t<|List.mem_cons_self ..
    have h2:=aJ8 λu hu=>h u<|List.mem_cons_of_mem _ hu
    grind [yO,Nat.succ_mul]
theorem aIa {n : Nat} {p : Tr -> Bool} : ∀ {l : List Tr}, (∀ t ∈ l, p t = true -> t.ni.length < n) -> l.Pairwise (λu v => ¬(p u = true /\ p v = true)) -> wG (l.filter p) < n \/ wG (l.filter p) = 0
  |[],_,_=>.inr rfl
  | t :: l, h, hp => by
    obtain ⟨h1,h2⟩:=List.pairwise_cons.1 hp;rw [List.filter_cons];cases q:p t with
    | false =>
      simp only [Bool.false_eq_true,if_false];exact aIa (λu hu=>h u<|List.mem_cons_of_mem _ hu) h2
    | true =>
      simp only [if_true]
      have e:l.filter p=[]:=by
        grind [List.filter_eq_nil_iff]
      rw [e,yO];have:=h t (List.mem_cons_self ..) q;left;show t.ni.length+0 < n;omega
theorem aO5 {o:Ob} (ho:OK o) (t:Tr):o.tr.Pairwise (λu v=> ¬((!kp t u)=true/\(!kp t v)=true)):=by
  rw [List.pairwise_iff_getElem];intro i j hi hj hij;have c1:o.tr[i]=aA o.tr i:=by grind [aA]
  have c2:o.tr[j]=aA o.tr j:=by grind [aA]
  rw [c1,c2];rintro ⟨h1,h2⟩;have p1:hp t.ni (aA o.tr i).ni=true:=by simpa [kp] using h1
  have p2:hp t.ni (aA o.tr j).ni=true:=by simpa [kp] using h2
  obtain ⟨x,hx⟩:=sZ.1 p1;obtain ⟨y,hy⟩:=sZ.1 p2;have hpre:=ho.pre i j hij hj;have hlen:(aA o.tr i).ni.length<=(aA o.tr j).ni.length\/(aA o.tr j).ni.length<=(aA o.tr i).ni.length:=Nat.le_total ..;rcases hlen with q|q
  . have e:(aA o.tr j).ni=(aA o.tr i).ni++x.take ((aA o.tr j).ni.length - (aA o.tr i).ni.length):=by
      have:=congrArg (List.take (aA o.tr j).ni.length)<|hx.symm.trans hy
      grind [List.take_append,List.take_of_length_le]
    grind [sZ]
  . have e:(aA o.tr i).ni=(aA o.tr j).ni++y.take ((aA o.tr i).ni.length - (aA o.tr j).ni.length):=by
      have:=congrArg (List.take (aA o.tr i).ni.length)<|hy.symm.trans hx
      grind [List.take_append,List.take_of_length_le]
    have h1:=aFF<|sZ.2 ⟨_,e⟩
    have h2:=vK<|OK.lt_of ho.ord hij hj
    omega
theorem aNO {o:Ob} (ho:OK o) {t:Tr} (hu:(eA o t.ni).isSome=false):wG o.tr < wG (lV o.tr t):=by
  have hn: ¬(t.ni=[]\/ ∃ u∈o.tr,hp u.ni t.ni=true):=λz=>by rw [yI.2 z] at hu; cases hu
  have hl: ¬inL o.tr t:=λz=>by
    grind [aHc,List.length_pos_iff]
  unfold lV;rw [if_neg hl,aMc];have hw:=xK (kp t) o.tr;have hpos:0 < t.ni.length:=List.length_pos_iff.2 λe=>hn (.inl e)
  have h1:wG (o.tr.filter λu=> !kp t u) < t.ni.length\/wG (o.tr.filter λu=> !kp t u)=0:=aIa (λu hm hk=>by
    have p1:hp t.ni u.ni=true:=by simpa [kp] using hk
    obtain ⟨x,hx⟩:=sZ.1 p1;have hne:x≠[]:=λe=>hn (.inr ⟨u,hm,by rw [e,List.append_nil] at hx; rw [hx]; exact aDF _⟩)
    have:=congrArg List.length hx;rw [List.length_append] at this;have:=List.length_pos_iff.2 hne;omega) (aO5 ho t)
  omega
theorem aMe {o:Ob} (ho:OK o):wG o.tr<=10240000:=by
  have h:=aJ8 (l:=o.tr) (n:=1024) λt ht=>by
    obtain ⟨k,hk,rfl⟩:=lX ht;exact (ho.pr k hk).1.lel
  have:=ho.len;omega
theorem aIW {o:Ob} {t:Tr} (h:(rT o.i o.tr [t]).2=0) (hk:(eA o t.ni).isSome=true):wG (tF o [t]).tr=wG o.tr\/wG o.tr < wG (tF o [t]).tr:=by
  rw [nP h];show wG (lV o.tr t)=_\/_ < wG (lV o.tr t);unfold lV;split
  . exact .inl J
  . rename_i hl
    -- an unlisted word that is known:only the empty one
    refine absurd ?_ hl;rcases yI.1 hk with e|⟨u,hu,g⟩
    . right; rw [e]; rfl
    . left
      obtain ⟨k,hk2,rfl⟩:=lX hu;exact nI.2 ⟨k,hk2,by rw [Nat.zero_add]; exact g⟩
theorem aDV {m : M} : ∀ {ws : List (List Int)} {o : Ob}, OK o -> wG o.tr <= wG (dN m o ws).1.tr /\ ((dN m o ws).2 = 0 -> (∃ x ∈ ws, (eA o x).isSome = false) -> wG o.tr < wG (dN m o ws).1.tr)
  |[],o,_=>⟨Nat.le_refl _,λ_ h=>by obtain ⟨x,hx,_⟩:=h; cases hx⟩
  | w :: ws, o, ho => by
    unfold dN;by_cases e1:rK m m.s w≠0
    . grind
    rw [if_neg e1];by_cases e2:(rT o.i o.tr [⟨w,fG m m.s w⟩]).2≠0
    . grind
    rw [if_neg e2];have h0:(rT o.i o.tr [⟨w,fG m m.s w⟩]).2=0:=OM
    have ok':=aDr (l:=[⟨w,fG m m.s w⟩]) ho;obtain ⟨i1,i2⟩:=aDV (m:=m) (ws:=ws) ok';cases hk:(eA o w).isSome with
    | false =>
      grind [aNO,nP]
    | true =>
      have hw:=aIW h0 (t:=⟨w,fG m m.s w⟩) hk;refine ⟨OM,λhe hx=>?_⟩;rcases hw with hw|hw
      . obtain ⟨x, hx, hu⟩ := hx
        rcases List.mem_cons.1 hx with q|q
        . subst q; rw [hk] at hu; cases hu
        . have same:tF o [⟨w,fG m m.s w⟩]=o:=by
            rw [nP h0];unfold lV;split
            . rfl
            . rename_i hl
              refine absurd ?_ hl;rcases yI.1 hk with e|⟨u,hu',g⟩
              . right; rw [e]; rfl
              . left
                obtain ⟨k,hk2,rfl⟩:=lX hu';exact nI.2 ⟨k,hk2,by rw [Nat.zero_add]; exact g⟩
          grind
      . omega
end
section
open Go
theorem aQq {t:Dt} (h:gU t=0):Bd t:=by
  have tr:=tD (aB9 h)<|yF h
  have hn:=(pP h).2.1
  have key: ∀ k,k < t.nd.length->(aA t.nd k).ac.length<=1024/\(aA t.nd k).sf.length<=1024/\(aA t.nd k).kd.length<=4096/\(aA t.nd k).ou.length=(aA t.nd k).kd.length/\ ∀ j,j < (aA t.nd k).ou.length->(aA (aA t.nd k).ou j).length<=1024:=by
    intro k hk;cases hl:(aA t.nd k).lf with
    | true =>
      have q:=aKO h hk hl;have a:=(eL q.aw).1;rw [q.sf,q.ou,q.kd]
      grind
    | false =>
      have q:=aCg h hk hl;have a:=(eL q.sw).1;have b:=uW (P:=(aA t.nd k).kd) q.kr<|tr.d1 k hk
      rw [q.ac];exact ⟨SI,a,OM,q.len,λj hj=>by have:=(aP6<|q.ov j hj).1; omega⟩
  exact ⟨hn,λk hk=>by have:=(key k hk).1; omega,λk hk=>by have:=(key k hk).2.1; omega,λk hk=>by have:=key k hk; omega,λk hk=>by have:=(key k hk).2.2.1; omega,λk hk j hj=>by have:=(key k hk).2.2.2.2 j hj; omega⟩
theorem aFw {t:Dt} {o:Ob} {w:List Int}: ∀ (f n:Nat),(gM t o w f n).2.1≠[]->(eA o (gM t o w f n).2.1).isSome=false
  |0,_,h=>absurd rfl h
  | f + 1, n, h => by
    unfold gM at h ⊢;split at h
    . exact absurd J h
    rename_i g1; rw [if_neg g1];split at h
    . exact absurd J h
    rename_i g2; rw [if_neg g2];split at h
    . rename_i g3; rw [if_pos g3]; exact g3
    rename_i g3; rw [if_neg g3];split at h
    . rename_i g4; rw [if_pos g4]; exact aFw f _ h
    . exact absurd J h
theorem aHa {t:Dt} {o:Ob} {w:List Int} (h:(bJ t o w).2.1≠[]):(eA o (bJ t o w).2.1).isSome=false:=by grind [bJ,aFw]
theorem aMJ {l:Ts} {o:Ob} {x:List Int} (h:x∈rD l o):(eA o x).isSome=false:=by grind [rD,qr1,aHa]
theorem aL5 {l:List (List Int)} (h:oD l≠[]): ∃ x,x∈oD l/\x∈l:=by
  obtain ⟨x,hx⟩:=List.exists_mem_of_ne_nil _ h;exact ⟨x,hx,(aDv.1 hx).1⟩
theorem aM5 {l:Ts} {o:Ob} (h:(cR l o).2.1≠[]):(cR l o).1=l/\ ∃ x∈(cR l o).2.1,(eA o x).isSome=false:=by grind [aL5,aMJ,cR]
theorem aNG {l:Ts} {o:Ob} {s:Spl} (h:(fY l o s).2.1≠[]): ∃ x∈(fY l o s).2.1,(eA o x).isSome=false:=by
  by_cases h1:jL l o≠0
  . grind [wK]
  by_cases h2:wN s l.i≠0
  . grind [wM]
  by_cases h3:(bJ l.t o<|dY s).2.2≠0
  . grind [wL]
  by_cases h4:0 < (bJ l.t o<|dY s).2.1.length
  . grind [wO,aHa]
  by_cases h5:(qJ l o s).lf=false
  . grind [wR]
  grind [uE,msW,mW,aL5,uS,wU,rC]
def rfA (s:Spl) (m:M) (l:Ts):Nat->Ob->Ts×Ob×Int
  |0,o=>(l,o,0)
  | n + 1, o => if (fY l o s).2.2 ≠ 0 \/ (fY l o s).2.1 = [] then ((fY l o s).1, o, (fY l o s).2.2) else
      if (dN m o (fY l o s).2.1).2≠0 then (l,(dN m o (fY l o s).2.1).1,(dN m o (fY l o s).2.1).2) else rfA s m l n (dN m o (fY l o s).2.1).1
section
variable {s:Spl} {m:M} {l:Ts} {n:Nat} {o:Ob}
theorem yL (h:(fY l o s).2.2≠0\/(fY l o s).2.1=[]):rfA s m l (n+1) o=((fY l o s).1,o,(fY l o s).2.2):=if_pos h
theorem aH3 (h: ¬((fY l o s).2.2≠0\/(fY l o s).2.1=[])) (h2:(dN m o (fY l o s).2.1).2≠0):rfA s m l (n+1) o=(l,(dN m o (fY l o s).2.1).1,(dN m o (fY l o s).2.1).2):=by rw [rfA,if_neg h,if_pos h2]
theorem aJZ (h: ¬((fY l o s).2.2≠0\/(fY l o s).2.1=[])) (h2:(dN m o (fY l o s).2.1).2=0):rfA s m l (n+1) o=rfA s m l n (dN m o (fY l o s).2.1).1:=by grind [rfA]
def lft (o:Ob):Nat:=10240000 - wG o.tr
theorem aHh {ws:List (List Int)} (ho:OK o) (h:(dN m o ws).2=0) (hx: ∃ x∈ws,(eA o x).isSome=false):OK (dN m o ws).1/\lft (dN m o ws).1 < lft o:=by grind [mH,aDV,aMe,lft]
theorem aEi {ws:List (List Int)} (ho:OK o):lft (dN m o ws).1<=lft o:=by grind [aDV,lft]
theorem aCh (ho:OK o) (h: ¬((fY l o s).2.2≠0\/(fY l o s).2.1=[])) (h2:(dN m o (fY l o s).2.1).2=0):lft (dN m o (fY l o s).2.1).1 < lft o:=
  (aHh ho h2 (aNG λe=>h (.inr e))).2
end
theorem aLf {s : Spl} {m : M} {l : Ts} : ∀ {n : Nat} {o : Ob}, OK o -> lft o < n -> (rfA s m l n o).2.2 = 0 -> ∃ q, OK q /\ q.i = o.i /\ lft q <= lft o /\ (rfA s m l n o).1 = (fY l q s).1 /\ (rfA s m l n o).2.1 = q /\ (fY l q s).2.2 = 0 /\ (fY l q s).2.1 = []
  |0,o,_,h,_=>by omega
  | n + 1, o, ho, h, he => by
    by_cases g:(fY l o s).2.2≠0\/(fY l o s).2.1=[]
    . grind [yL]
    . by_cases g2:(dN m o (fY l o s).2.1).2≠0
      . grind [aH3]
      . have g2':(dN m o (fY l o s).2.1).2=0:=OM
        rw [aJZ g g2'] at he ⊢;have hl:=aCh ho g g2';have hk:=mH (m:=m) (ws:=(fY l o s).2.1) ho;obtain ⟨q,a,b,c,d⟩:=aLf hk.1 OM he
        grind
theorem aIt {h:Hy} {m:M} {w:List Int}: ∀ {n:Nat} {o:Ob},OK o->OK (lcA h m w n o).1/\(lcA h m w n o).1.i=o.i/\lft (lcA h m w n o).1<=lft o
  |0,o,ho=>⟨ho,rfl,Nat.le_refl _⟩
  | n + 1, o, ho => by
    have hk:=mH (m:=m) (ws:=[kV h o w]) ho;have hl:=aEi (m:=m) (ws:=[kV h o w]) ho;unfold lcA;split
    . exact ⟨ho,J,Nat.le_refl _⟩
    split
    . exact ⟨hk.1,hk.2,hl⟩
    . obtain ⟨a,b,c⟩:=aIt (h:=h) (m:=m) (w:=w) (n:=n) hk.1
      exact ⟨a,b.trans hk.2,OM⟩
theorem aHs {h:Hy} {m:M} {w:List Int} {o:Ob} (ho:OK o):OK (kT h m w o).1/\(kT h m w o).1.i=o.i/\lft (kT h m w o).1<=lft o:=by grind [mH,aEi,kT,aIt]
def aBO:Nat:=10240200
theorem aBe (o:Ob):lft o < aBO:=by unfold lft aBO; omega
def oK (m:M) (l:Ts) (o:Ob) (h:Hy) (w:List Int):Ts×Ob×Int:=
  if (kT h m w o).2.2≠0 then (l,(kT h m w o).1,(kT h m w o).2.2) else rfA (kT h m w o).2.1 m l aBO (kT h m w o).1
theorem aDs {m:M} {l:Ts} {o:Ob} {h:Hy} {w:List Int} (e:(kT h m w o).2.2≠0):oK m l o h w=(l,(kT h m w o).1,(kT h m w o).2.2):=if_pos e
theorem aLu {m:M} {l:Ts} {o:Ob} {h:Hy} {w:List Int} (e:(kT h m w o).2.2=0):oK m l o h w=rfA (kT h m w o).2.1 m l aBO (kT h m w o).1:=if_neg OM
def cpT (m:M) (l:Ts) (o:Ob) (h:Hy) (w:List Int):Ts:=if (oK m l o h w).2.2≠0 then l else (oK m l o h w).1
def cpO (m:M) (l:Ts) (o:Ob) (h:Hy) (w:List Int):Ob:=if (oK m l o h w).2.2≠0 then o else (oK m l o h w).2.1
end
section
open Go
def zZ (l:Ts):Nat:=(eP l.t.nd).length
structure LnI (m:M) (l:Ts) (o:Ob):Prop where
  d:gU l.t=0
  a:zZ l<=128
  i:l.i=m.i
  ok:OK o
  oi:o.i=m.i
theorem aKL {t:Dt} {n:Int} {aQ w:List Int} (h:jD t n aQ w=0):gU (grT t n aQ w)=0/\(eP (grT t n aQ w).nd).length=(eP t.nd).length+1:=by
  obtain ⟨a,b,c⟩:=aMh h;refine ⟨a,?_⟩;rw [(pP a).2.2.2.2,(pP (aNX h).1).2.2.2.2] at c;exact c
theorem aJt {t:Dt} {n:Int} {sf aQ w other:List Int} (h:nJ t n sf aQ w other=0):gU (spT t n sf aQ w other)=0/\(eP (spT t n sf aQ w other).nd).length=(eP t.nd).length+1:=by
  obtain ⟨a,b,c⟩:=aKt h;refine ⟨a,?_⟩;rw [(pP a).2.2.2.2,(pP (aKQ h).1).2.2.2.2] at c;exact c
theorem aDy {l:Ts} {o:Ob} (hd:gU l.t=0) (ha:zZ l<=128):gU (cR l o).1.t=0/\zZ (cR l o).1<=128/\(cR l o).1.i=l.i/\((cR l o).1=l\/zZ (cR l o).1=zZ l+1)/\
    ((cR l o).2.2.2=0->(cR l o).2.1=[]->(cR l o).2.2.1=false->zZ (cR l o).1=zZ l+1):=by grind [aIA,zZ,kM,aKL]
theorem aMd {l:Ts} {o:Ob} {s:Spl} (hd:gU l.t=0) (ha:zZ l<=128):gU (fY l o s).1.t=0/\zZ (fY l o s).1<=128/\(fY l o s).1.i=l.i/\((fY l o s).2.2=0->(fY l o s).2.1=[]->zZ (fY l o s).1=zZ l+1):=by
  rcases aI8 l o s with ⟨h1,h2⟩|⟨h1,h2,h3,h4,h5,h6,h7,h8,h9,h10⟩
  . grind
  . have hlt:zZ l < 128:=by
      grind [uE,uS,zZ]
    obtain ⟨g1,g2⟩:=aJt h9
    grind [zZ,rfT]
theorem aMQ {m:M} {l:Ts} {o:Ob} {h:Hy} {w:List Int} (hi:LnI m l o) (he:(oK m l o h w).2.2=0):LnI m (oK m l o h w).1 (oK m l o h w).2.1/\zZ (oK m l o h w).1=zZ l+1/\lft (oK m l o h w).2.1<=lft o:=by
  have hl:=aHs (h:=h) (m:=m) (w:=w) hi.ok;by_cases e:(kT h m w o).2.2=0
  . rw [aLu e] at he ⊢
    obtain ⟨q,q1,q2,q3,q4,q5,q6,q7⟩:=aLf hl.1 (aBe _) he;obtain ⟨r1,r2,r3,r4⟩:=aMd (o:=q) (s:=(kT h m w o).2.1) hi.d hi.a;rw [q4,q5];exact ⟨⟨r1,r2,r3.trans hi.i,q1,(q2.trans hl.2.1).trans hi.oi⟩,r4 q6 q7,OM⟩
  grind [aDs]
theorem aOo {m:M} {l:Ts} {o:Ob} {h:Hy} {w:List Int} (he:(oK m l o h w).2.2=0):cpT m l o h w=(oK m l o h w).1/\cpO m l o h w=(oK m l o h w).2.1:=
  ⟨if_neg OM,if_neg OM⟩
section
variable {m:M} {l:Ts} {o:Ob} {h:Hy} {w:List Int}
theorem wP (e:(oK m l o h w).2.2≠0):cpT m l o h w=l:=if_pos e
theorem wJ (e:(oK m l o h w).2.2≠0):cpO m l o h w=o:=if_pos e
theorem aKB (e:(oK m l o h w).2.2=0):cpT m l o h w=(oK m l o h w).1:=(aOo e).1
theorem aJF (e:(oK m l o h w).2.2=0):cpO m l o h w=(oK m l o h w).2.1:=(aOo e).2
theorem aPb {s:Spl} {n:Nat} (e: ¬((fY l o s).2.2≠0\/(fY l o s).2.1=[])):rfA s m l (n+1) o=if (dN m o (fY l o s).2.1).2≠0 then (l,(dN m o (fY l o s).2.1).1,(dN m o (fY l o s).2.1).2) else rfA s m l n (dN m o (fY l o s).2.1).1:=by rw [rfA,if_neg e]
theorem aQu (e:(dN m o [w]).2≠0):(oK m l o h w).2.2=(dN m o [w]).2:=by grind [kT,aDs]
theorem aN0 {q:Ob} {s:Spl} {z:Int} (hz:kT h m w o=(q,s,z)) (e:z≠0):(oK m l o h w).2.2=z:=by grind [aDs]
theorem aPO {q:Ob} {s:Spl} {z:Int} (hz:kT h m w o=(q,s,z)) (e:z=0):oK m l o h w=rfA s m l aBO q:=by grind [aLu]
end
abbrev LnR:=Hy×Ob×Int×Int
def zOb:Ob:=⟨0,[]⟩
def lnE (e:Int):LnR:=(zH,zOb,0,e)
def lnT (l:Ts) (o:Ob):Ts:=(cR l o).1
def lnO (m:M) (l:Ts) (o:Ob):Ob:=(dN m o (cR l o).2.1).1
def lnH (m:M) (l:Ts) (o:Ob):Hy:=iH (lnT l o) (lnO m l o)
def lnW (m:M) (l:Ts) (o:Ob):List Int:=qB (lnH m l o).m m
def zL (m:M) (l:Ts) (o:Ob):Ts×Ob×Int:=oK m (lnT l o) (lnO m l o) (lnH m l o) (lnW m l o)
def lnA (m : M) : Nat -> Ts -> Ob -> Int -> LnR
  |0,_,_,_=>lnE 0
  | n + 1, l, o, r => if (cR l o).2.2.2 ≠ 0 then lnE (cR l o).2.2.2 else if (dN m o (cR l o).2.1).2 ≠ 0 then lnE (dN m o (cR l o).2.1).2
    else if (cR l o).2.2.1=false then lnA m n (lnT l o) (lnO m l o) r
    else if wQ (lnT l o) (lnO m l o)≠0 then lnE (wQ (lnT l o)<|lnO m l o) else if kA (lnH m l o).m m≠0 then lnE (kA (lnH m l o).m m)
    else if uT (lnH m l o).m m=false then (lnH m l o,lnO m l o,r+1,0)
    else if (zL m l o).2.2≠0 then lnE (zL m l o).2.2 else lnA m n (zL m l o).1 (zL m l o).2.1 (r+1)
section
variable {m:M} {n:Nat} {l:Ts} {o:Ob} {r:Int}
theorem aOu (h1:(cR l o).2.2.2≠0):lnA m (n+1) l o r=lnE (cR l o).2.2.2:=if_pos h1
theorem aH2 (h1: ¬(cR l o).2.2.2≠0) (h2:(dN m o (cR l o).2.1).2≠0):lnA m (n+1) l o r=lnE (dN m o (cR l o).2.1).2:=by grind [lnA]
theorem aDk (h1: ¬(cR l o).2.2.2≠0) (h2: ¬(dN m o (cR l o).2.1).2≠0) (h3:(cR l o).2.2.1=false):lnA m (n+1) l o r=lnA m n (lnT l o) (lnO m l o) r:=by grind [lnA]
theorem aOq (h1: ¬(cR l o).2.2.2≠0) (h2: ¬(dN m o (cR l o).2.1).2≠0) (h3: ¬(cR l o).2.2.1=false) (h4:wQ (lnT l o) (lnO m l o)≠0):lnA m (n+1) l o r=lnE (wQ (lnT l o) (lnO m l o)):=by grind [lnA]
theorem aHO (h1: ¬(cR l o).2.2.2≠0) (h2: ¬(dN m o (cR l o).2.1).2≠0) (h3: ¬(cR l o).2.2.1=false) (h4: ¬wQ (lnT l o) (lnO m l o)≠0) (h5:kA (lnH m l o).m m≠0):lnA m (n+1) l o r=lnE (kA (lnH m l o).m m):=by grind [lnA]
theorem aOw (h1: ¬(cR l o).2.2.2≠0) (h2: ¬(dN m o (cR l o).2.1).2≠0) (h3: ¬(cR l o).2.2.1=false) (h4: ¬wQ (lnT l o) (lnO m l o)≠0) (h5: ¬kA (lnH m l o).m m≠0) (h6:uT (lnH m l o).m m=false):lnA m (n+1) l o r=(lnH m l o,lnO m l o,r+1,0):=by grind [lnA]
theorem aG9 (h1: ¬(cR l o).2.2.2≠0) (h2: ¬(dN m o (cR l o).2.1).2≠0) (h3: ¬(cR l o).2.2.1=false) (h4: ¬wQ (lnT l o) (lnO m l o)≠0) (h5: ¬kA (lnH m l o).m m≠0) (h6: ¬uT (lnH m l o).m m=false) (h7:(zL m l o).2.2≠0):lnA m (n+1) l o r=lnE (zL m l o).2.2:=by grind [lnA]
theorem aHI (h1: ¬(cR l o).2.2.2≠0) (h2: ¬(dN m o (cR l o).2.1).2≠0) (h3: ¬(cR l o).2.2.1=false) (h4: ¬wQ (lnT l o) (lnO m l o)≠0) (h5: ¬kA (lnH m l o).m m≠0) (h6: ¬uT (lnH m l o).m m=false) (h7: ¬(zL m l o).2.2≠0):lnA m (n+1) l o r=lnA m n (zL m l o).1 (zL m l o).2.1 (r+1):=by grind [lnA]
def lms (l:Ts) (o:Ob):Nat:=(128 - zZ l)*aBO+lft o
theorem aLw {l':Ts} {o':Ob} (h:zZ l'=zZ l+1) (h2:zZ l'<=128) (h3:lft o'<=lft o):lms l' o' < lms l o:=by
  unfold lms
  grind [aBO]
theorem LnI.mid (h:LnI m l o):LnI m (lnT l o) (lnO m l o):=by
  obtain ⟨a,b,c,_⟩:=aDy (o:=o) h.d h.a;have k:=mH (m:=m) (ws:=(cR l o).2.1) h.ok;exact ⟨a,b,c.trans h.i,k.1,k.2.trans h.oi⟩
theorem LnI.up (h:LnI m l o):zZ l<=zZ (lnT l o):=by
  obtain ⟨a,b,c,d,e⟩:=aDy (o:=o) h.d h.a
  grind [lnT]
theorem aBf (h:LnI m l o) (h1: ¬(cR l o).2.2.2≠0) (h2: ¬(dN m o (cR l o).2.1).2≠0) (h3:(cR l o).2.2.1=false):lms (lnT l o) (lnO m l o) < lms l o:=by
  obtain ⟨a,b,c,d,e⟩:=aDy (o:=o) h.d h.a;by_cases q:(cR l o).2.1=[]
  . exact aLw (e OM q h3) b<|aEi h.ok
  . obtain ⟨t1,t2⟩:=aM5 q
    have:=(aHh (m:=m) h.ok OM t2).2;unfold lms lnT;rw [t1];show _+lft (dN m o (cR l o).2.1).1 < _;omega
theorem aNH (h:LnI m l o) (h3: ¬(cR l o).2.2.1=false):lnT l o=l:=by
  have:=aFS (l:=l) (o:=o) (by cases q:(cR l o).2.2.1 with
    |true=>rfl
    |false=>exact absurd q h3)
  exact this.2.2.2.2.2.2.2
theorem tN (h:LnI m l o) (h3: ¬(cR l o).2.2.1=false) (h7: ¬(zL m l o).2.2≠0):LnI m (zL m l o).1 (zL m l o).2.1/\zZ (zL m l o).1=zZ l+1/\lms (zL m l o).1 (zL m l o).2.1 < lms l o:=by
  obtain ⟨a,b,c⟩:=aMQ h.mid<|Decidable.of_not_not h7
  have e:=aNH h h3;have b':zZ (zL m l o).1=zZ l+1:=by grind [zL]
  exact ⟨a,b',aLw b' a.a (Nat.le_trans c<|aEi h.ok)⟩
end
def aAK:Nat:=129*aBO
theorem aEy (l:Ts) (o:Ob):lms l o < aAK:=by
  unfold lms aAK;have h1:=aBe o
  grind [aBO]
def eR (m:M):LnR:=if eO m≠0 then lnE (eO m) else lnA m aAK (nE m.i) ⟨m.i,[]⟩ 0
theorem aOi {m:M} (h:eO m≠0):eR m=lnE (eO m):=if_pos h
theorem tK {m:M} {r:LnR} (h: ¬eO m≠0) (e:lnA m aAK (nE m.i) ⟨m.i,[]⟩ 0=r):eR m=r:=by grind [eR]
theorem aOM {m:M} (h: ¬eO m≠0):nE m.i=⟨m.i,⟨[vH []]⟩⟩:=by simp_all [gW,nE]
theorem LnI.start {m:M} (h: ¬eO m≠0):LnI m (nE m.i) ⟨m.i,[]⟩:=by
  have mo:=gW<|Decidable.of_not_not h
  rw [aOM h];exact ⟨by show gU ⟨[vH []]⟩=0; decide+kernel,by show (eP [vH []]).length<=128; decide,J,OK.of ⟨mo.1,mo.2.1⟩ SI (λt ht=>absurd ht SI) List.Pairwise.nil,J⟩
theorem LnI.bd {m:M} {l:Ts} {o:Ob} (h:LnI m l o):Bd l.t:=aQq h.d
theorem LnI.ho {m:M} {l:Ts} {o:Ob} (h:LnI m l o):kS o=0:=vF h.ok
theorem LnI.hx {m:M} {l:Ts} {o:Ob} (h:LnI m l o) (hi:m.i<=39):(dD l).length<=5000:=by
  rw [vE,oZ h.d,h.i];have h1:(eP l.t.nd).length<=128:=h.a;have h2:(eP l.t.nd).length*m.i.toNat<=128*39:=Nat.mul_le_mul h1 OM;omega
end
section
open Go Go.Proofs
theorem aD3 (m:M) (l:Ts) (o:Ob) (h:Hy) (w:List Int) (hb:Bd l.t) (ho:OK o):bK Tryz.prog 27 [(V.agg [(iV l.i),(V.sl (List.map cN l.t.nd)),(iV o.i),(V.sl (List.map cT o.tr))]),(V.agg [(iV m.i),(iV m.s),(aC m.nx),(aC m.ot)]),(V.agg [(iV h.m.i),(iV h.m.s),(aC h.m.nx),(aC h.m.ot),(aC h.acc)]),(aE w)] (V.tup [(V.agg [(iV ((cpT m l o h w).i)),(V.sl (List.map cN ((cpT m l o h w).t.nd))),(iV ((cpO m l o h w).i)),(V.sl (List.map cT ((cpO m l o h w).tr)))]),(iV ((oK m l o h w).2.2))]):=by
 refine' pK [] [] Tryz.func27 ?e λhB=>?_
 case e=>conv=>lhs; cbv
 dsimp only;refine aW<|bS (i:=4) (n:=0) (m:=4) (cs:=[(iV l.i),(V.sl<|List.map cN l.t.nd),(iV o.i),(V.sl<|List.map cT o.tr)]) J (cE J) J J J<|bS (i:=5) (n:=0) (m:=4) (cs:=[(iV m.i),(iV m.s),(aC m.nx),(aC m.ot)]) J (cE J) J J J<|bS (i:=6) (n:=0) (m:=5) (cs:=[(iV h.m.i),(iV h.m.s),(aC h.m.nx),(aC h.m.ot),(aC h.acc)]) J (cE J) J J J<|bM (i:=8) (n:=0) (m:=4) J (cE J) J<|aD<|aW<|aV J J J J<|aX J J J J<|aP<|aS J J<|aI (tB m o ([w]) ho) J<|aP<|bE J J ?_
 refine bE J J<|bM (i:=10) (n:=0) (m:=2) J (cE J) J<|bQ J J J J J J J J J<|aD<|aO<|aP<|bP J J<|bR ?_
 refine aH J (λc1=>?_) λc1=>?_
 . 
  have d9:=aQu (l:=l) (h:=h) c1;have z9:(oK m l o h w).2.2≠0:=by rw [d9]; exact c1
  refine aO<|aV J J J J<|aP<|bQ J J J J J J J J J<|aD<|aK ?_
  refine dJ (bI (u:=(V.agg [(iV l.i),(V.sl<|List.map cN l.t.nd),(iV o.i),(V.sl<|List.map cT o.tr)])) J (@J Blk<|bk 1 66 4 [[(iV l.i),(V.sl<|List.map cN l.t.nd),(iV o.i),(V.sl<|List.map cT o.tr)]])<|lB oB J J) (aY<|aM<|iV<|(dN m o<|[w]).2) (qU<|cZ (aF ?_)<|cZ (cA ?_ (λ_=>by simp))<|cZ (aF ?_)<|cZ (cA ?_ (λ_=>by simp)) J)<|aF ?_
  . rw [wP z9]
  . rw [wP z9]
  . rw [wJ z9]
  . rw [wJ z9]
  . exact d9.symm
 refine aB<|aW<|aV J J J J<|aV J J J J<|aP<|aI (aAG h ((dN m o<|[w]).1) w<|vF (mH ho).1) J<|aP<|bE J J<|bE J J<|bE J J<|bM (i:=12) (n:=0) (m:=3) J (cE J) J<|bQ J J J J J J J J J<|aP<|aD (aG λQ2 n2 x2 y2 z2=>?_)
 refine cC (λmm T H=> ∃ (q:Ob) (n:Nat),mm=n/\T 3=(aE w)/\T 4=(cG 4)/\T 5=(cG 5)/\T 6=(cG 6)/\T 8=(cG 8)/\T 10=(cG 10)/\T 11=(iV<|tS h q w)/\T 12=(cG 12)/\T 13=(aE<|kV h q w)/\H 4=(bk 1 66 4 [[(iV l.i),(V.sl<|List.map cN l.t.nd),(iV o.i),(V.sl<|List.map cT o.tr)]])/\H 5=(sA m)/\H 6=(bk 1 28 5 [[(iV h.m.i),(iV h.m.s),(aC h.m.nx),(aC h.m.ot),(aC h.acc)]])/\H 8=(bk 1 66 4 [[(iV 0),V.nilsl,(iV 0),V.nilsl]])/\H 10=(bk 1 31 2 [[(iV q.i),(V.sl<|List.map cT q.tr)]])/\H 12=(bk 1 62 3 [[(aE<|(jV h q w).p),(iV<|(jV h q w).a),(aE<|(jV h q w).x)]])/\H 14=fL/\(OK q)/\(unA h q w w.length < n)/\(kT h m w o=lcA h m w n q)) ?_ ?_
 . 
  refine ⟨_,(dN m o [w]).1,(w.length+1),J,J,J,J,J,J,J,(bL (aM<|iV<|tS h ((dN m o<|[w]).1) w) JR),J,(bL (aM<|aE<|kV h ((dN m o<|[w]).1) w) JR),J,J,J,J,(bL (@J Blk<|bk 1 31 2 [[(iV<|(dN m o<|[w]).1.i),(V.sl<|List.map cT<|(dN m o<|[w]).1.tr)]]) JR),(bL (@J Blk<|bk 1 62 3 [[(aE<|(jV h ((dN m o<|[w]).1) w).p),(iV<|(jV h ((dN m o<|[w]).1) w).a),(aE<|(jV h ((dN m o<|[w]).1) w).x)]]) JR),J,?_,?_,?_⟩
  . exact (mH ho).1
  . exact Nat.lt_succ_of_le aGB
  . exact if_neg OM
 intro mm T H ⟨q,n,hmm,t3,t4,t5,t6,t8,t10,t11,t12,t13,h4,h5,h6,h8,h10,h12,h14,hok,hn,hc⟩ Q3 p13 p23 p33;obtain ⟨n0,hn2⟩: ∃ n0,n=n0+1:=⟨n - 1,OM⟩;refine aO<|aJ t11<|eV J J<|aP ?_
 refine bU 4 (λT H=>T 3=(aE w)/\T 4=(cG 4)/\T 5=(cG 5)/\T 6=(cG 6)/\T 8=(cG 8)/\T 10=(cG 10)/\T 11=(iV<|tS h q w)/\T 12=(cG 12)/\T 13=(aE<|kV h q w)/\T 44=(V.bool<|decide (((tS h q w)=(0:Int))/\((0:Int) < (((kV h q w).length:Nat):Int))))/\H 4=(bk 1 66 4 [[(iV l.i),(V.sl<|List.map cN l.t.nd),(iV o.i),(V.sl<|List.map cT o.tr)]])/\H 5=(sA m)/\H 6=(bk 1 28 5 [[(iV h.m.i),(iV h.m.s),(aC h.m.nx),(aC h.m.ot),(aC h.acc)]])/\H 8=(bk 1 66 4 [[(iV 0),V.nilsl,(iV 0),V.nilsl]])/\H 10=(bk 1 31 2 [[(iV q.i),(V.sl<|List.map cT q.tr)]])/\H 12=(bk 1 62 3 [[(aE<|(jV h q w).p),(iV<|(jV h q w).a),(aE<|(jV h q w).x)]])/\H 14=fL/\True) ?_ ?_
 . 
  by_cases g4:(tS h q w)=(0:Int)
  . 
   refine aN (bY g4 J)<|aJ t13<|aN (bY g4 J)<|bA J<|aN (bY g4 J)<|eD J J<|bV (bY g4 J) J ?_
   exact ⟨t3,t4,t5,t6,t8,t10,t11,t12,t13,(eT g4),h4,h5,h6,h8,h10,h12,h14,trivial⟩
  . 
   refine bW (bX g4 J)<|bW (bX g4 J)<|bW (bX g4 J)<|bT (bX g4 J) J ?_
   exact ⟨t3,t4,t5,t6,t8,t10,t11,t12,t13,(eU g4),h4,h5,h6,h8,h10,h12,h14,trivial⟩
 intro T H ⟨t3,t4,t5,t6,t8,t10,t11,t12,t13,t44,h4,h5,h6,h8,h10,h12,h14,_⟩;refine bR ?_;refine aH t44 (λc5=>?_) λc5=>?_
 . 
  have q0:=c5;have d4:tS h q w=0:=q0.1;have d5:kV h q w≠[]:=λe=>by have q1:=q0.2; rw [e] at q1; exact absurd q1 DE
  have d3: ¬(¬tS h q w=0\/kV h q w=[]):=by rintro (e|e); exact e d4; exact d5 e
  refine aB (aG λQ6 n6 x6 y6 z6=>(aW<|aV t5 h5 J J<|aV t10 h10 J J<|aJ t13<|aS J J<|aI (tB m q ([(kV h q w)]) hok) J<|aP<|bE J J<|bE J J<|bQ t10 J J h10 J J J J J<|aD<|aW<|aP ?_));refine bP J J<|bR ?_
  refine fN J (λc7=>?_) λc7=>?_
  . 
   have hz:kT h m w o=((dN m q [kV h q w]).1,⟨[],0,[]⟩,(dN m q [kV h q w]).2):=by rw [hc,hn2]; exact aM4 d3 c7
   have d9:=aN0 (l:=l) hz c7;have z9:(oK m l o h w).2.2≠0:=by rw [d9]; exact c7
   refine aW<|aV t4 h4 J J<|aP<|bQ t8 J J h8 J J J J J<|aD<|bF<|y6 _ _<|p23 _ _<|y2 _ _ ?_
   refine dJ (bI (u:=(V.agg [(iV l.i),(V.sl<|List.map cN l.t.nd),(iV o.i),(V.sl<|List.map cT o.tr)])) t8 (@J Blk<|bk 1 66 4 [[(iV l.i),(V.sl<|List.map cN l.t.nd),(iV o.i),(V.sl<|List.map cT o.tr)]])<|lB oB J J) (aY<|aM<|iV<|(dN m q<|[(kV h q w)]).2) (qU<|cZ (aF ?_)<|cZ (cA ?_ (λ_=>by simp))<|cZ (aF ?_)<|cZ (cA ?_ (λ_=>by simp)) J)<|aF ?_
   . rw [wP z9]
   . rw [wP z9]
   . rw [wJ z9]
   . rw [wJ z9]
   . exact d9.symm
  refine dH<|n6 _ _ (.done (eI<|aV t6 h6 J J<|aV t10 J J J<|aJ t3<|aI (aAG h ((dN m q<|[(kV h q w)]).1) w<|vF (mH hok).1) J<|aP<|bE J J<|bE J J<|bE J J<|bQ t12 J J h12 J J J J J<|aP<|aD ?_))
  refine p13 _ _ _ ?_ ⟨(dN m q [kV h q w]).1,(n - 1),J,t3,t4,t5,t6,t8,t10,(bL (aM<|iV<|tS h ((dN m q<|[(kV h q w)]).1) w) JR),t12,(bL (aM<|aE<|kV h ((dN m q<|[(kV h q w)]).1) w) JR),h4,h5,h6,h8,(bL (@J Blk<|bk 1 31 2 [[(iV<|(dN m q<|[(kV h q w)]).1.i),(V.sl<|List.map cT<|(dN m q<|[(kV h q w)]).1.tr)]]) JR),(bL (@J Blk<|bk 1 62 3 [[(aE<|(jV h ((dN m q<|[(kV h q w)]).1) w).p),(iV<|(jV h ((dN m q<|[(kV h q w)]).1) w).a),(aE<|(jV h ((dN m q<|[(kV h q w)]).1) w).x)]]) JR),h14,?_,?_,?_⟩
  . omega
  . exact (mH hok).1
  . obtain ⟨i,i1,i2,i3⟩:=aJT d4 d5; have:=aBY (h:=h) (w:=w) (λx hx=>yA (m:=m) (ws:=[kV h q w]) hx) i3 (by rw [<- i2]; exact aEe OM SI) i1; omega
  . rw [hc,hn2]; exact aO9 d3 OM
 have q0:=c5
 have hz:kT h m w o=(q,jV h q w,tS h q w):=by
   rw [hc,hn2]; refine aE5 ?_;by_cases e:tS h q w=0
   . refine .inr (List.length_eq_zero_iff.1 ?_)
     by_cases g:(0:Int) < (((kV h q w).length:Nat):Int)
     . exact absurd ⟨e,g⟩ q0
     . omega
   . exact .inl e
 refine aT<|p33 _ _ _<|x2 _ _ (.done (aO<|aJ t11<|bP J J<|bR ?_))
 refine aH J (λc8=>?_) λc8=>?_
 . 
  have d9:=aN0 (l:=l) hz c8;have z9:(oK m l o h w).2.2≠0:=by rw [d9]; exact c8
  refine aO<|aV t4 h4 J J<|aJ t11<|bQ t8 J J h8 J J J J J<|aD<|aK ?_
  refine dJ (bI (u:=(V.agg [(iV l.i),(V.sl<|List.map cN l.t.nd),(iV o.i),(V.sl<|List.map cT o.tr)])) t8 (@J Blk<|bk 1 66 4 [[(iV l.i),(V.sl<|List.map cN l.t.nd),(iV o.i),(V.sl<|List.map cT o.tr)]])<|lB oB J J) (aY<|aM<|iV<|tS h q w) (qU<|cZ (aF ?_)<|cZ (cA ?_ (λ_=>by simp))<|cZ (aF ?_)<|cZ (cA ?_ (λ_=>by simp)) J)<|aF ?_
  . rw [wP z9]
  . rw [wP z9]
  . rw [wJ z9]
  . rw [wJ z9]
  . exact d9.symm
 refine aB (fZ λQ9 n9 x9 y9 z9=>?_);refine cC (λmm T H=> ∃ (q2:Ob) (k:Nat) (v14:Nat),mm=k/\T 4=(cG 4)/\T 5=(cG 5)/\T 8=(cG 8)/\T 10=(cG 10)/\T 12=(cG 12)/\H 4=(bk 1 66 4 [[(iV l.i),(V.sl<|List.map cN l.t.nd),(iV o.i),(V.sl<|List.map cT o.tr)]])/\H 5=(sA m)/\H 6=(bk 1 28 5 [[(iV h.m.i),(iV h.m.s),(aC h.m.nx),(aC h.m.ot),(aC h.acc)]])/\H 8=(bk 1 66 4 [[(iV 0),V.nilsl,(iV 0),V.nilsl]])/\H 10=(bk 1 31 2 [[(iV q2.i),(V.sl<|List.map cT q2.tr)]])/\H 12=(bk 1 62 3 [[(aE<|(jV h q w).p),(iV<|(jV h q w).a),(aE<|(jV h q w).x)]])/\(H 14).ver=v14/\(OK q2)/\(lft q2 < k)/\(oK m l o h w=rfA (jV h q w) m l k q2)) ?_ ?_
 . 
  refine ⟨_,q,aBO,0,J,t4,t5,t8,t10,t12,h4,h5,h6,h8,h10,h12,(cE h14),?_,?_,?_⟩
  . exact hok
  . exact aBe _
  . exact aPO hz OM
 intro mm T H ⟨q2,k,v14,hmm,t4,t5,t8,t10,t12,h4,h5,h6,h8,h10,h12,h14,hok2,hk3,hc2⟩ Q10 p110 p210 p310;obtain ⟨k0,hk2⟩: ∃ k0,k=k0+1:=⟨k - 1,OM⟩;refine fZ λQ11 n11 x11 y11 z11=>(aW<|aX t4 h4 J J<|aV t10 h10 J J<|aV t12 h12 J J<|aI (zV l q2 (jV h q w) hb<|vF hok2) J<|aP<|bE J J<|bE J J<|bE J J<|bM (i:=14) (n:=v14) (m:=2) J h14 J<|bQ J J J J J J J J J<|aP<|aD ?_);refine aO<|aP<|bP J J<|bR ?_
 refine aH J (λc12=>?_) λc12=>?_
 . 
  have d8:oK m l o h w=((fY l q2<|jV h q w).1,q2,(fY l q2<|jV h q w).2.2):=by rw [hc2,hk2]; exact yL (.inl c12)
  have d9:(oK m l o h w).2.2=(fY l q2<|jV h q w).2.2:=by rw [d8]
  have z9:(oK m l o h w).2.2≠0:=by rw [d9]; exact c12
  refine aO<|aV t4 h4 J J<|aP<|bQ t8 J J h8 J J J J J<|aD<|aK<|y11 _ _<|p210 _ _<|y9 _ _ ?_
  refine dJ (bI (u:=(V.agg [(iV l.i),(V.sl<|List.map cN l.t.nd),(iV o.i),(V.sl<|List.map cT o.tr)])) t8 (@J Blk<|bk 1 66 4 [[(iV l.i),(V.sl<|List.map cN l.t.nd),(iV o.i),(V.sl<|List.map cT o.tr)]])<|lB oB J J) (aY<|aM<|iV<|(fY l q2<|jV h q w).2.2) (qU<|cZ (aF ?_)<|cZ (cA ?_ (λ_=>by simp))<|cZ (aF ?_)<|cZ (cA ?_ (λ_=>by simp)) J)<|aF ?_
  . rw [wP z9]
  . rw [wP z9]
  . rw [wJ z9]
  . rw [wJ z9]
  . exact d9.symm
 refine aB<|aO<|aP<|bA J<|eV J J<|bR ?_
 refine aH J (λc13=>?_) λc13=>?_
 . 
  have d8:oK m l o h w=((fY l q2<|jV h q w).1,q2,(fY l q2<|jV h q w).2.2):=by rw [hc2,hk2]; exact yL (.inr (List.length_eq_zero_iff.1 OM))
  have z0:(oK m l o h w).2.2=0:=by rw [d8]; show (fY l q2<|jV h q w).2.2=0; omega
  refine aO<|aV J J J J<|aV t10 h10 J J<|bN J J<|bQ t8 J J h8 J J J J J<|aD<|aK<|y11 _ _<|p210 _ _<|y9 _ _ ?_
  refine dJ (bI (u:=(V.agg [(iV<|(fY l q2<|jV h q w).1.i),(V.sl<|List.map cN<|(fY l q2<|jV h q w).1.t.nd),(iV q2.i),(V.sl<|List.map cT q2.tr)])) t8 (@J Blk<|bk 1 66 4 [[(iV<|(fY l q2<|jV h q w).1.i),(V.sl<|List.map cN<|(fY l q2<|jV h q w).1.t.nd),(iV q2.i),(V.sl<|List.map cT q2.tr)]])<|lB oB J J) (aY<|aM<|iV 0) (qU<|cZ (aF ?_)<|cZ (cA ?_ (λ_=>by simp))<|cZ (aF ?_)<|cZ (cA ?_ (λ_=>by simp)) J)<|aF ?_
  . rw [aKB z0,d8]
  . rw [aKB z0,d8]
  . rw [aJF z0,d8]
  . rw [aJF z0,d8]
  . exact z0.symm
 have e3: ¬((fY l q2<|jV h q w).2.2≠0\/(fY l q2<|jV h q w).2.1=[]):=by
   rintro (e|e)
   . exact e OM
   . have q1:=c13; rw [e] at q1; exact q1 J
 refine aB<|aW<|aV t5 h5 J J<|aV t10 h10 J J<|aP<|aI (tB m q2 ((fY l q2<|jV h q w).2.1) hok2) J<|aP<|bE J J<|bE J J<|bQ t10 J J h10 J J J J J<|aD<|aW<|aP<|bP J J<|bR ?_
 refine fN J (λc14=>?_) λc14=>?_
 . 
  have d8:oK m l o h w=(l,(dN m q2 (fY l q2<|jV h q w).2.1).1,(dN m q2 (fY l q2<|jV h q w).2.1).2):=by rw [hc2,hk2]; exact aH3 e3 c14
  have d9:(oK m l o h w).2.2=(dN m q2 (fY l q2<|jV h q w).2.1).2:=by rw [d8]
  have z9:(oK m l o h w).2.2≠0:=by rw [d9]; exact c14
  refine aW<|aV t4 h4 J J<|aP<|bQ t8 J J h8 J J J J J<|aD<|bF<|y11 _ _<|p210 _ _<|y9 _ _ ?_
  refine dJ (bI (u:=(V.agg [(iV l.i),(V.sl<|List.map cN l.t.nd),(iV o.i),(V.sl<|List.map cT o.tr)])) t8 (@J Blk<|bk 1 66 4 [[(iV l.i),(V.sl<|List.map cN l.t.nd),(iV o.i),(V.sl<|List.map cT o.tr)]])<|lB oB J J) (aY<|aM<|iV<|(dN m q2<|(fY l q2<|jV h q w).2.1).2) (qU<|cZ (aF ?_)<|cZ (cA ?_ (λ_=>by simp))<|cZ (aF ?_)<|cZ (cA ?_ (λ_=>by simp)) J)<|aF ?_
  . rw [wP z9]
  . rw [wP z9]
  . rw [wJ z9]
  . rw [wJ z9]
  . exact d9.symm
 refine dH<|n11 _ _ ?_
 refine p110 _ _ _ ?_ ⟨(dN m q2 (fY l q2<|jV h q w).2.1).1,(k - 1),(v14+1),J,t4,t5,t8,t10,t12,h4,h5,h6,h8,(bL (@J Blk<|bk 1 31 2 [[(iV<|(dN m q2<|(fY l q2<|jV h q w).2.1).1.i),(V.sl<|List.map cT<|(dN m q2<|(fY l q2<|jV h q w).2.1).1.tr)]]) JR),h12,(cE J),?_,?_,?_⟩
 . omega
 . exact (mH hok2).1
 . have:=aCh (m:=m) hok2 e3 OM; omega
 . rw [hc2,hk2]; exact aJZ e3 OM
theorem aF5 (m:M) (hi:m.i<=39):bK Tryz.prog 7 [(V.agg [(iV m.i),(iV m.s),(aC m.nx),(aC m.ot)])] (V.tup [(V.agg [(iV ((eR m).1.m.i)),(iV ((eR m).1.m.s)),(aC ((eR m).1.m.nx)),(aC ((eR m).1.m.ot)),(aC ((eR m).1.acc))]),(V.agg [(iV ((eR m).2.1.i)),(V.sl (List.map cT ((eR m).2.1.tr)))]),(iV ((eR m).2.2.1)),(iV ((eR m).2.2.2))]):=by
 refine' pK [] [⟨25,[0,1,2,3,4,5,6,7],[],[(105,2,2,5)]⟩] Tryz.func7 ?e λhB=>?_
 case e=>conv=>lhs; cbv
 dsimp only;refine aW<|bS (i:=1) (n:=0) (m:=4) (cs:=[(iV m.i),(iV m.s),(aC m.nx),(aC m.ot)]) J (cE J) J J J<|bM (i:=2) (n:=0) (m:=5) J (cE J) J<|bM (i:=3) (n:=0) (m:=2) J (cE J) J<|aP<|aD<|aO<|aV J J J J<|aI (qH m) J<|aD<|aO<|aP ?_
 refine bP J J<|bR ?_
 refine aH J (λc1=>?_) λc1=>?_
 . 
  have d1:=aOi c1;refine aO<|bN J J<|bN J J<|aP<|bQ J J J J J J J J J<|bQ J J J J J J J J J<|aP<|aD<|aK ?_
  refine gO (bI (u:=(V.agg [(iV 0),(iV 0),V.nilsl,V.nilsl,V.nilsl])) J (@J Blk<|bk 1 28 5 [[(iV 0),(iV 0),V.nilsl,V.nilsl,V.nilsl]])<|lB oB J J) (bI (u:=(V.agg [(iV 0),V.nilsl])) J (@J Blk<|bk 1 31 2 [[(iV 0),V.nilsl]])<|lB oB J J) (aY<|aM<|iV 0) (aY<|aM<|iV<|eO m) (fH (aF ?_) (aF ?_) (bH ?_) (bH ?_)<|bH ?_) (cK (aF ?_)<|bH ?_) (aF ?_)<|aF ?_
  . rw [d1]; try rfl
  . rw [d1]; try rfl
  . rw [d1]; try rfl
  . rw [d1]; try rfl
  . rw [d1]; try rfl
  . rw [d1]; try rfl
  . rw [d1]; try rfl
  . rw [d1]; try rfl
  . rw [d1]; try rfl
 have a1:=c1;have mo:=gW<|Decidable.of_not_not c1
 refine aB<|aW<|aX J J J J<|aI (aCN m.i) J<|aP<|bE J J<|bE J J<|bM (i:=7) (n:=0) (m:=2) J (cE J) J<|bQ J J J J J J J J J<|aD<|aO<|aP<|bP J J ?_
 refine bR ?_;refine aH J (λc2=>?_) λc2=>?_
 . exfalso; exact c2 (if_neg OM)
 refine aB<|W_g<|aV J J J J<|aX J J J J<|bN J J<|bN J J<|bM (i:=9) (n:=0) (m:=4) J (cE J) J<|bQ J J J J J J J J J<|bR ?_
 refine aKi (id:=9) (r':=[(iV<|(nE m.i).i),(V.sl<|List.map cN<|(nE m.i).t.nd),(iV m.i),(V.sl<|List.map cT<|[])]) (@J Blk<|bk 1 66 4 [[(iV<|(nE m.i).i),(V.sl<|List.map cN<|(nE m.i).t.nd),(iV m.i),V.nilsl]]) J (.done ?_);refine aW<|aD (fZ λQ3 n3 x3 y3 z3=>?_)
 refine cC (λmm T H=> ∃ (l:Ts) (o:Ob) (r:Int) (n:Nat) (v11:Nat) (v15:Nat),mm=n/\T 1=(cG 1)/\T 2=(cG 2)/\T 3=(cG 3)/\T 9=(cG 9)/\T 10=(iV r)/\H 1=(sA m)/\H 2=(bk 1 28 5 [[(iV 0),(iV 0),V.nilsl,V.nilsl,V.nilsl]])/\H 3=(bk 1 31 2 [[(iV 0),V.nilsl]])/\H 7=(bk 1 49 2 [[(iV<|(nE m.i).i),(V.sl<|List.map cN<|(nE m.i).t.nd)]])/\H 9=(bk 1 66 4 [[(iV l.i),(V.sl<|List.map cN l.t.nd),(iV o.i),(V.sl<|List.map cT o.tr)]])/\(H 11).ver=v11/\(H 15).ver=v15/\(LnI m l o)/\(0<=r/\r<=zZ l)/\(lms l o < n)/\(lnA m aAK (nE m.i) ⟨m.i,[]⟩ 0=lnA m n l o r)) ?_ ?_
 . 
  refine ⟨_,(nE m.i),⟨m.i,[]⟩,0,aAK,0,0,J,J,J,J,J,J,J,J,J,J,(bL (@J Blk<|bk 1 66 4 [[(iV<|(nE m.i).i),(V.sl<|List.map cN<|(nE m.i).t.nd),(iV m.i),(V.sl<|List.map cT<|[])]]) JR),(cE J),(cE J),?_,?_,?_,?_⟩
  . exact LnI.start a1
  . exact ⟨OM,OM⟩
  . exact aEy _ _
  . rfl
 intro mm T H ⟨l,o,r,n,v11,v15,hmm,t1,t2,t3,t9,t10,h1,h2,h3,h7,h9,h11,h15,hI,hr,hn,hc⟩ Q4 p14 p24 p34;obtain ⟨n0,hn2⟩: ∃ n0,n=n0+1:=⟨n - 1,OM⟩;have hra:=hI.a;refine fZ λQ5 n5 x5 y5 z5=>(aW<|aX t9 h9 J J<|aX t9 h9 J J<|aI (sW l o hI.bd hI.ho<|hI.hx hi) J<|aP<|bE J J<|bE J J<|bE J J<|bE J J<|bM (i:=11) (n:=v11) (m:=2) J h11 J<|bQ J J J J J J J J J<|aP<|aP ?_);refine aD<|aO<|aP<|bP J J<|bR ?_
 refine aH J (λc6=>?_) λc6=>?_
 . 
  have d1:eR m=lnE (cR l o).2.2.2:=tK a1<|hc.trans (by rw [hn2]; exact aOu c6)
  refine aO<|bN J J<|bN J J<|aP<|bQ t2 J J h2 J J J J J<|bQ t3 J J h3 J J J J J<|aP<|aD<|aK<|y5 _ _<|p24 _ _<|y3 _ _ ?_
  refine gO (bI (u:=(V.agg [(iV 0),(iV 0),V.nilsl,V.nilsl,V.nilsl])) t2 (@J Blk<|bk 1 28 5 [[(iV 0),(iV 0),V.nilsl,V.nilsl,V.nilsl]])<|lB oB J J) (bI (u:=(V.agg [(iV 0),V.nilsl])) t3 (@J Blk<|bk 1 31 2 [[(iV 0),V.nilsl]])<|lB oB J J) (aY<|aM<|iV 0) (aY<|aM<|iV<|(cR l o).2.2.2) (fH (aF ?_) (aF ?_) (bH ?_) (bH ?_)<|bH ?_) (cK (aF ?_)<|bH ?_) (aF ?_)<|aF ?_
  . rw [d1]; try rfl
  . rw [d1]; try rfl
  . rw [d1]; try rfl
  . rw [d1]; try rfl
  . rw [d1]; try rfl
  . rw [d1]; try rfl
  . rw [d1]; try rfl
  . rw [d1]; try rfl
  . rw [d1]; try rfl
 have z1:=c6;refine aB<|aW<|aV J J J J<|cM t9 h9<|bQ J J J h9 J J J J J<|tA<|aW<|aV t1 h1 J J<|aX t9 J J J<|aP<|aI (tB m o ((cR l o).2.1) hI.ok) J<|aP<|bE J J<|bE J J ?_
 refine cM t9 J<|bQ J J J J J J J J J<|aD<|aO<|aP<|bP J J<|bR ?_
 refine aH J (λc7=>?_) λc7=>?_
 . 
  have d1:eR m=lnE (dN m o (cR l o).2.1).2:=tK a1<|hc.trans (by rw [hn2]; exact aH2 z1 c7)
  refine aO<|bN J J<|bN J J<|aP<|bQ t2 J J h2 J J J J J<|bQ t3 J J h3 J J J J J<|aP<|aD<|aK<|y5 _ _<|p24 _ _<|y3 _ _ ?_
  refine gO (bI (u:=(V.agg [(iV 0),(iV 0),V.nilsl,V.nilsl,V.nilsl])) t2 (@J Blk<|bk 1 28 5 [[(iV 0),(iV 0),V.nilsl,V.nilsl,V.nilsl]])<|lB oB J J) (bI (u:=(V.agg [(iV 0),V.nilsl])) t3 (@J Blk<|bk 1 31 2 [[(iV 0),V.nilsl]])<|lB oB J J) (aY<|aM<|iV 0) (aY<|aM<|iV<|(dN m o<|(cR l o).2.1).2) (fH (aF ?_) (aF ?_) (bH ?_) (bH ?_)<|bH ?_) (cK (aF ?_)<|bH ?_) (aF ?_)<|aF ?_
  . rw [d1]; try rfl
  . rw [d1]; try rfl
  . rw [d1]; try rfl
  . rw [d1]; try rfl
  . rw [d1]; try rfl
  . rw [d1]; try rfl
  . rw [d1]; try rfl
  . rw [d1]; try rfl
  . rw [d1]; try rfl
 have z2:=c7;refine aB<|aO<|aP<|fF J<|bR ?_
 refine cU J (λc8=>?_) (λc8=>?_)
 . 
  have z3:(cR l o).2.2.1=false:=by have q0:=c8; simpa using q0
  refine aT<|x5 _ _ ?_
  refine p14 _ _ _ ?_ ⟨(lnT l o),(lnO m l o),r,(n - 1),(v11+1),v15,J,t1,t2,t3,t9,t10,h1,h2,h3,h7,(bL (@J Blk<|bk 1 66 4 [[(iV<|(cR l o).1.i),(V.sl<|List.map cN<|(cR l o).1.t.nd),(iV<|(dN m o<|(cR l o).2.1).1.i),(V.sl<|List.map cT<|(dN m o<|(cR l o).2.1).1.tr)]]) JR),(cE J),h15,?_,?_,?_,?_⟩
  . omega
  . first|exact (tN hI z3 z7).1|exact hI.mid
  . first|(have:=(tN hI z3 z7).2.1; omega)|(have:=hI.up; omega)
  . first|(have:=(tN hI z3 z7).2.2; omega)|(have:=aBf hI z1 z2 z3; omega)
  . rw [hc,hn2]; first|exact aHI z1 z2 z3 z4 z5 z6 z7|exact aDk z1 z2 z3
 have z3: ¬(cR l o).2.2.1=false:=by have q0:=c8; simpa using q0
 refine aB ?_;refine dE (λT H=>T 1=(cG 1)/\T 2=(cG 2)/\T 3=(cG 3)/\T 9=(cG 9)/\T 10=(iV r)/\T 14=(iV<|wQ ((cR l o).1)<|(dN m o<|(cR l o).2.1).1)/\T 15=(V.mp 15 (v15+1) 0 0)/\H 1=(sA m)/\H 2=(bk 1 28 5 [[(iV 0),(iV 0),V.nilsl,V.nilsl,V.nilsl]])/\H 3=(bk 1 31 2 [[(iV 0),V.nilsl]])/\H 7=(bk 1 49 2 [[(iV<|(nE m.i).i),(V.sl<|List.map cN<|(nE m.i).t.nd)]])/\H 9=(bk 1 66 4 [[(iV<|(cR l o).1.i),(V.sl<|List.map cN<|(cR l o).1.t.nd),(iV<|(dN m o<|(cR l o).2.1).1.i),(V.sl<|List.map cT<|(dN m o<|(cR l o).2.1).1.tr)]])/\H 11=(bk (v11+1) 49 2 [[(iV<|(cR l o).1.i),(V.sl<|List.map cN<|(cR l o).1.t.nd)]])/\H 15=(bk (v15+1) 28 5 [[(iV<|(iH ((cR l o).1)<|(dN m o<|(cR l o).2.1).1).m.i),(iV<|(iH ((cR l o).1)<|(dN m o<|(cR l o).2.1).1).m.s),(aC<|(iH ((cR l o).1)<|(dN m o<|(cR l o).2.1).1).m.nx),(aC<|(iH ((cR l o).1)<|(dN m o<|(cR l o).2.1).1).m.ot),(aC<|(iH ((cR l o).1)<|(dN m o<|(cR l o).2.1).1).acc)]])/\True) ?_ ?_
 . 
  refine aX t9 J J J<|aX t9 J J J<|aI (aCO ((cR l o).1) ((dN m o<|(cR l o).2.1).1) hI.mid.bd hI.mid.ho<|hI.mid.hx hi) J<|aP<|bE J J<|bE J J<|bM (i:=15) (n:=v15) (m:=5) J h15 J<|bQ J J J J J J J J J<|aP ?_
  exact eS ⟨t1,t2,t3,t9,t10,J,J,h1,h2,h3,h7,J,J,J,trivial⟩
 intro T H ⟨t1,t2,t3,t9,t10,t14,t15,h1,h2,h3,h7,h9,h11,h15,_⟩;refine aO<|aJ t14<|bP J J<|bR ?_
 refine aH J (λc9=>?_) λc9=>?_
 . 
  have d1:eR m=lnE (wQ (lnT l o)<|lnO m l o):=tK a1<|hc.trans (by rw [hn2]; exact aOq z1 z2 z3 c9)
  refine aO<|bN J J<|bN J J<|aJ t14<|bQ t2 J J h2 J J J J J<|bQ t3 J J h3 J J J J J<|aP<|aD<|aK<|y5 _ _<|p24 _ _<|y3 _ _ ?_
  refine gO (bI (u:=(V.agg [(iV 0),(iV 0),V.nilsl,V.nilsl,V.nilsl])) t2 (@J Blk<|bk 1 28 5 [[(iV 0),(iV 0),V.nilsl,V.nilsl,V.nilsl]])<|lB oB J J) (bI (u:=(V.agg [(iV 0),V.nilsl])) t3 (@J Blk<|bk 1 31 2 [[(iV 0),V.nilsl]])<|lB oB J J) (aY<|aM<|iV 0) (aY<|aM<|iV<|wQ ((cR l o).1)<|(dN m o<|(cR l o).2.1).1) (fH (aF ?_) (aF ?_) (bH ?_) (bH ?_)<|bH ?_) (cK (aF ?_)<|bH ?_) (aF ?_)<|aF ?_
  . rw [d1]; try rfl
  . rw [d1]; try rfl
  . rw [d1]; try rfl
  . rw [d1]; try rfl
  . rw [d1]; try rfl
  . rw [d1]; try rfl
  . rw [d1]; try rfl
  . rw [d1]; try rfl
  . rw [d1]; try rfl
 have z4:=c9;refine aB<|aW<|aJ t10<|aHU J J OM OM<|aD<|aW<|aX t15 h15 J J<|aV t1 h1 J J<|aI (aGT ((iH ((cR l o).1)<|(dN m o<|(cR l o).2.1).1).m) m) J<|aP<|bE J J<|bE J J<|bE J J<|aP ?_
 refine aP<|aD<|aO<|aP<|bP J J<|bR ?_
 refine aH J (λc10=>?_) λc10=>?_
 . 
  have d1:eR m=lnE (kA (lnH m l o).m m):=tK a1<|hc.trans (by rw [hn2]; exact aHO z1 z2 z3 z4 c10)
  refine aO<|bN J J<|bN J J<|aP<|bQ t2 J J h2 J J J J J<|bQ t3 J J h3 J J J J J<|aP<|aD<|aK<|y5 _ _<|p24 _ _<|y3 _ _ ?_
  refine gO (bI (u:=(V.agg [(iV 0),(iV 0),V.nilsl,V.nilsl,V.nilsl])) t2 (@J Blk<|bk 1 28 5 [[(iV 0),(iV 0),V.nilsl,V.nilsl,V.nilsl]])<|lB oB J J) (bI (u:=(V.agg [(iV 0),V.nilsl])) t3 (@J Blk<|bk 1 31 2 [[(iV 0),V.nilsl]])<|lB oB J J) (aY<|aM<|iV 0) (aY<|aM<|iV<|kA ((iH ((cR l o).1)<|(dN m o<|(cR l o).2.1).1).m) m) (fH (aF ?_) (aF ?_) (bH ?_) (bH ?_)<|bH ?_) (cK (aF ?_)<|bH ?_) (aF ?_)<|aF ?_
  . rw [d1]; try rfl
  . rw [d1]; try rfl
  . rw [d1]; try rfl
  . rw [d1]; try rfl
  . rw [d1]; try rfl
  . rw [d1]; try rfl
  . rw [d1]; try rfl
  . rw [d1]; try rfl
  . rw [d1]; try rfl
 have z5:=c10;refine aB<|aO<|aP<|fF J<|bR ?_
 refine cU J (λc11=>?_) (λc11=>?_)
 . 
  have z6:uT (lnH m l o).m m=false:=by have q0:=c11; show uT (iH (cR l o).1 (dN m o (cR l o).2.1).1).m m=false; simpa using q0
  have d1:eR m=(lnH m l o,lnO m l o,r+1,0):=tK a1<|hc.trans (by rw [hn2]; exact aOw z1 z2 z3 z4 z5 z6)
  refine cS<|W_x<|aV t15 h15 J J<|aX t9 h9 J J<|aP<|bQ t2 J J h2 J J J J J<|bQ t3 J J h3 J J J J J<|aP<|aD ?_
  refine ⟨by simp [ddB,apV,nO,t1,t15,t2,t3,t9],?_⟩;refine aK<|y5 _ _<|p24 _ _<|y3 _ _ ?_
  refine gO (bI (u:=(V.agg [(iV<|(iH ((cR l o).1)<|(dN m o<|(cR l o).2.1).1).m.i),(iV<|(iH ((cR l o).1)<|(dN m o<|(cR l o).2.1).1).m.s),(aC<|(iH ((cR l o).1)<|(dN m o<|(cR l o).2.1).1).m.nx),(aC<|(iH ((cR l o).1)<|(dN m o<|(cR l o).2.1).1).m.ot),(aC<|(iH ((cR l o).1)<|(dN m o<|(cR l o).2.1).1).acc)])) t2 (@J Blk<|bk 1 28 5 [[(iV<|(iH ((cR l o).1)<|(dN m o<|(cR l o).2.1).1).m.i),(iV<|(iH ((cR l o).1)<|(dN m o<|(cR l o).2.1).1).m.s),(aC<|(iH ((cR l o).1)<|(dN m o<|(cR l o).2.1).1).m.nx),(aC<|(iH ((cR l o).1)<|(dN m o<|(cR l o).2.1).1).m.ot),(aC<|(iH ((cR l o).1)<|(dN m o<|(cR l o).2.1).1).acc)]])<|lB oB J J) (bI (u:=(V.agg [(iV<|(dN m o<|(cR l o).2.1).1.i),(V.sl<|List.map cT<|(dN m o<|(cR l o).2.1).1.tr)])) t3 (@J Blk<|bk 1 31 2 [[(iV<|(dN m o<|(cR l o).2.1).1.i),(V.sl<|List.map cT<|(dN m o<|(cR l o).2.1).1.tr)]])<|lB oB J J) (aY<|aM<|iV<|r+(1:Int)) (aY<|aM<|iV 0) (fH (aF ?_) (aF ?_) (cA ?_ (λ_=>by simp)) (cA ?_ (λ_=>by simp))<|cA ?_ (λ_=>by simp)) (cK (aF ?_)<|cA ?_ (λ_=>by simp)) (aF ?_)<|aF ?_
  . rw [d1]; try rfl
  . rw [d1]; try rfl
  . rw [d1]; try rfl
  . rw [d1]; try rfl
  . rw [d1]; try rfl
  . rw [d1]; try rfl
  . rw [d1]; try rfl
  . rw [d1]; try rfl
  . rw [d1]; try rfl
 have z6: ¬uT (lnH m l o).m m=false:=by have q0:=c11; show ¬uT (iH (cR l o).1 (dN m o (cR l o).2.1).1).m m=false; simpa using q0
 refine aB<|aW<|aV t9 h9 J J<|aV t1 h1 J J<|aV t15 h15 J J<|aP<|aI (aD3 m ((cR l o).1) ((dN m o<|(cR l o).2.1).1) (iH ((cR l o).1)<|(dN m o<|(cR l o).2.1).1) (qB ((iH ((cR l o).1)<|(dN m o<|(cR l o).2.1).1).m) m) hI.mid.bd hI.mid.ok) J<|aP<|bE J J<|bE J J<|bQ t9 J J h9 J J J J J<|aD<|aW<|aP<|bP J J ?_
 refine bR ?_;refine fN J (λc12=>?_) λc12=>?_
 . 
  have d1:eR m=lnE (zL m l o).2.2:=tK a1<|hc.trans (by rw [hn2]; exact aG9 z1 z2 z3 z4 z5 z6 c12)
  refine aW<|bN J J<|bN J J<|aP<|bQ t2 J J h2 J J J J J<|bQ t3 J J h3 J J J J J<|aP<|aD<|bF<|y5 _ _<|p24 _ _<|y3 _ _ ?_
  refine gO (bI (u:=(V.agg [(iV 0),(iV 0),V.nilsl,V.nilsl,V.nilsl])) t2 (@J Blk<|bk 1 28 5 [[(iV 0),(iV 0),V.nilsl,V.nilsl,V.nilsl]])<|lB oB J J) (bI (u:=(V.agg [(iV 0),V.nilsl])) t3 (@J Blk<|bk 1 31 2 [[(iV 0),V.nilsl]])<|lB oB J J) (aY<|aM<|iV 0) (aY<|aM<|iV<|(oK m ((cR l o).1) ((dN m o<|(cR l o).2.1).1) (iH ((cR l o).1)<|(dN m o<|(cR l o).2.1).1)<|qB ((iH ((cR l o).1)<|(dN m o<|(cR l o).2.1).1).m) m).2.2) (fH (aF ?_) (aF ?_) (bH ?_) (bH ?_)<|bH ?_) (cK (aF ?_)<|bH ?_) (aF ?_)<|aF ?_
  . rw [d1]; try rfl
  . rw [d1]; try rfl
  . rw [d1]; try rfl
  . rw [d1]; try rfl
  . rw [d1]; try rfl
  . rw [d1]; try rfl
  . rw [d1]; try rfl
  . rw [d1]; try rfl
  . rw [d1]; try rfl
 have z7: ¬(zL m l o).2.2≠0:=c12;have e7:cpT m (cR l o).1 (dN m o (cR l o).2.1).1 (iH (cR l o).1 (dN m o (cR l o).2.1).1) (qB (iH (cR l o).1 (dN m o (cR l o).2.1).1).m m)=(zL m l o).1:=aKB<|Decidable.of_not_not z7
 have e8:cpO m (cR l o).1 (dN m o (cR l o).2.1).1 (iH (cR l o).1 (dN m o (cR l o).2.1).1) (qB (iH (cR l o).1 (dN m o (cR l o).2.1).1).m m)=(zL m l o).2.1:=aJF<|Decidable.of_not_not z7
 refine dH<|n5 _ _ ?_
 refine p14 _ _ _ ?_ ⟨(zL m l o).1,(zL m l o).2.1,(r+1),(n - 1),(v11+1),(v15+1),J,t1,t2,t3,t9,(bL (aM<|iV<|r+(1:Int)) JR),h1,h2,h3,h7,(bL (@J Blk<|bk 1 66 4 [[(iV<|(cpT m ((cR l o).1) ((dN m o<|(cR l o).2.1).1) (iH ((cR l o).1)<|(dN m o<|(cR l o).2.1).1)<|qB ((iH ((cR l o).1)<|(dN m o<|(cR l o).2.1).1).m) m).i),(V.sl<|List.map cN<|(cpT m ((cR l o).1) ((dN m o<|(cR l o).2.1).1) (iH ((cR l o).1)<|(dN m o<|(cR l o).2.1).1)<|qB ((iH ((cR l o).1)<|(dN m o<|(cR l o).2.1).1).m) m).t.nd),(iV<|(cpO m ((cR l o).1) ((dN m o<|(cR l o).2.1).1) (iH ((cR l o).1)<|(dN m o<|(cR l o).2.1).1)<|qB ((iH ((cR l o).1)<|(dN m o<|(cR l o).2.1).1).m) m).i),(V.sl<|List.map cT<|(cpO m ((cR l o).1) ((dN m o<|(cR l o).2.1).1) (iH ((cR l o).1)<|(dN m o<|(cR l o).2.1).1)<|qB ((iH ((cR l o).1)<|(dN m o<|(cR l o).2.1).1).m) m).tr)]]) (by (rw [e7,e8]; done))),(cE h11),(cE h15),?_,?_,?_,?_⟩
 . omega
 . first|exact (tN hI z3 z7).1|exact hI.mid
 . first|(have:=(tN hI z3 z7).2.1; omega)|(have:=hI.up; omega)
 . first|(have:=(tN hI z3 z7).2.2; omega)|(have:=aBf hI z1 z2 z3; omega)
 . rw [hc,hn2]; first|exact aHI z1 z2 z3 z4 z5 z6 z7|exact aDk z1 z2 z3
theorem aLx (m:M) (s:Nat) (h1:s < m.nx.length) (h2:s < m.ot.length) (hi:1<=m.i/\m.i<=64):bK Tryz.prog 37 [(V.agg [(iV m.i),(iV m.s),(aC m.nx),(aC m.ot)]),(iV ((s:Nat):Int))] (iV (xV m s)):=by
 refine' pK [] [] Tryz.func37 ?e λhB=>?_
 case e=>conv=>lhs; cbv
 dsimp only;refine aW<|bS (i:=2) (n:=0) (m:=4) (cs:=[(iV m.i),(iV m.s),(aC m.nx),(aC m.ot)]) J (cE J) J J J<|aD<|aO<|aX J J J J<|aP<|dA (i:=s) (aM<|aC m.nx) (cO s)<|aL J J<|bA J<|aX J J J J<|bP J J<|aP ?_
 refine bU 10 (λT H=>T 1=(iV ((s:Nat):Int))/\T 2=(cG 2)/\T 25=(V.bool<|decide (((((aA m.nx s).length:Nat):Int)≠m.i)\/((((aA m.ot s).length:Nat):Int)≠m.i)))/\H 2=(sA m)/\True) ?_ ?_
 . 
  by_cases g1:(((aA m.nx s).length:Nat):Int)≠m.i
  . 
   refine bW (bY g1 J)<|bW (bY g1 J)<|bW (bY g1 J)<|bW (bY g1 J)<|bW (bY g1 J)<|bW (bY g1 J)<|bW (bY g1 J)<|bW (bY g1 J)<|bW (bY g1 J)<|bV (bY g1 J) J ?_
   exact ⟨J,J,(dZ g1),J,trivial⟩
  . 
   refine aN (bX g1 J)<|cM J J<|aN (bX g1 J)<|aV J J J J<|aN (bX g1 J)<|aP<|aN (bX g1 J)<|dA (i:=s) (aM<|aC m.ot) (cO s)<|aN (bX g1 J)<|aL J J<|aN (bX g1 J)<|bA J<|aN (bX g1 J)<|cM J J<|aN (bX g1 J)<|aV J J J J ?_
   refine aN (bX g1 J)<|bP J J<|bT (bX g1 J) J ?_
   exact ⟨J,J,(dX g1),J,trivial⟩
 intro T H ⟨t1,t2,t25,h2,_⟩;refine bR ?_;refine aH t25 (λc2=>?_) λc2=>?_
 . 
  refine aO<|aD<|aK ?_
  refine aZ (aM<|iV 1)<|aF ?_
  . rw [xV,if_pos OM]
 refine aB<|aO<|aD (aG λQ3 n3 x3 y3 z3=>?_)
 refine cC (λmm T H=> ∃ (k:Nat),mm=m.i.toNat - k/\T 1=(iV ((s:Nat):Int))/\T 2=(cG 2)/\T 5=(iV ((k:Nat):Int))/\H 2=(sA m)/\(k<=m.i.toNat)/\(((aA m.nx s).length:Int)=m.i/\((aA m.ot s).length:Int)=m.i)/\(xV m s=fe (aCw m s) k (m.i.toNat - k))) ?_ ?_
 . 
  refine ⟨_,0,J,t1,t2,(bL (aM<|iV 0) J),h2,?_,?_,?_⟩
  . omega
  . omega
  . rw [xV,if_neg OM]; rfl
 intro mm T H ⟨k,hmm,t1,t2,t5,h2,hk,hl,hc⟩ Q4 p14 p24 p34;refine aO<|aJ t5<|aX t2 h2 J J<|bZ J J<|bR ?_
 refine aH J (λc5=>?_) λc5=>?_
 . 
  refine aB (aG λQ6 n6 x6 y6 z6=>?_);refine dE (λT H=>T 1=(iV ((s:Nat):Int))/\T 2=(cG 2)/\T 5=(iV ((k:Nat):Int))/\T 76=(V.bool<|decide (((((aA (aA m.nx s) k) < (0:Int))\/(((m.nx.length:Nat):Int)<=(aA (aA m.nx s) k)))\/((aA (aA m.ot s) k) < (0:Int)))\/((1048576:Int) < (aA (aA m.ot s) k))))/\H 2=(sA m)/\True) ?_ ?_
  . 
   refine aX t2 h2 J J<|aJ t1<|dA (i:=s) (aM<|aC m.nx) (cO s)<|aL J J<|aJ t5<|dA (i:=k) (aM<|aE<|aA m.nx s) (cO k)<|aL J J<|bZ J J<|aP ?_
   refine bU 13 (λT H=>T 1=(iV ((s:Nat):Int))/\T 2=(cG 2)/\T 5=(iV ((k:Nat):Int))/\T 54=(V.bool<|decide (((aA (aA m.nx s) k) < (0:Int))\/(((m.nx.length:Nat):Int)<=(aA (aA m.nx s) k))))/\H 2=(sA m)/\True) ?_ ?_
   . 
    by_cases g7:(aA (aA m.nx s) k) < (0:Int)
    . 
     refine bW (bY g7 J)<|bW (bY g7 J)<|bW (bY g7 J)<|bW (bY g7 J)<|bW (bY g7 J)<|bW (bY g7 J)<|bW (bY g7 J)<|bW (bY g7 J)<|bW (bY g7 J)<|bW (bY g7 J)<|bW (bY g7 J)<|bW (bY g7 J)<|bV (bY g7 J) J ?_
     exact ⟨t1,t2,t5,(dZ g7),h2,trivial⟩
    . 
     refine aN (bX g7 J)<|cM t2 h2<|aN (bX g7 J)<|aV J h2 J J<|aN (bX g7 J)<|aJ t1<|aN (bX g7 J)<|dA (i:=s) (aM<|aC m.nx) (cO s)<|aN (bX g7 J)<|aL J J<|aN (bX g7 J)<|aJ t5<|aN (bX g7 J)<|dA (i:=k) (aM<|aE<|aA m.nx s) (cO k)<|aN (bX g7 J)<|aL J J ?_
     refine aN (bX g7 J)<|cM t2 h2<|aN (bX g7 J)<|aV J h2 J J<|aN (bX g7 J)<|bA J<|aN (bX g7 J)<|iC J J<|bT (bX g7 J) J ?_
     exact ⟨t1,t2,t5,(dX g7),h2,trivial⟩
   intro T H ⟨t1,t2,t5,t54,h2,_⟩;refine aJ t54 ?_;refine bU 10 (λT H=>T 1=(iV ((s:Nat):Int))/\T 2=(cG 2)/\T 5=(iV ((k:Nat):Int))/\T 65=(V.bool<|decide ((((aA (aA m.nx s) k) < (0:Int))\/(((m.nx.length:Nat):Int)<=(aA (aA m.nx s) k)))\/((aA (aA m.ot s) k) < (0:Int))))/\H 2=(sA m)/\True) ?_ ?_
   . 
    by_cases g8:((aA (aA m.nx s) k) < (0:Int))\/(((m.nx.length:Nat):Int)<=(aA (aA m.nx s) k))
    . 
     refine bW (bY g8 J)<|bW (bY g8 J)<|bW (bY g8 J)<|bW (bY g8 J)<|bW (bY g8 J)<|bW (bY g8 J)<|bW (bY g8 J)<|bW (bY g8 J)<|bW (bY g8 J)<|bV (bY g8 J) J ?_
     exact ⟨t1,t2,t5,(dZ g8),h2,trivial⟩
    . 
     refine aN (bX g8 J)<|cM t2 h2<|aN (bX g8 J)<|aV J h2 J J<|aN (bX g8 J)<|aJ t1<|aN (bX g8 J)<|dA (i:=s) (aM<|aC m.ot) (cO s)<|aN (bX g8 J)<|aL J J<|aN (bX g8 J)<|aJ t5<|aN (bX g8 J)<|dA (i:=k) (aM<|aE<|aA m.ot s) (cO k)<|aN (bX g8 J)<|aL J J ?_
     refine aN (bX g8 J)<|bZ J J<|bT (bX g8 J) J ?_
     exact ⟨t1,t2,t5,(dX g8),h2,trivial⟩
   intro T H ⟨t1,t2,t5,t65,h2,_⟩;refine aJ t65 ?_;refine bU 10 (λT H=>T 1=(iV ((s:Nat):Int))/\T 2=(cG 2)/\T 5=(iV ((k:Nat):Int))/\T 76=(V.bool<|decide (((((aA (aA m.nx s) k) < (0:Int))\/(((m.nx.length:Nat):Int)<=(aA (aA m.nx s) k)))\/((aA (aA m.ot s) k) < (0:Int)))\/((1048576:Int) < (aA (aA m.ot s) k))))/\H 2=(sA m)/\True) ?_ ?_
   . 
    by_cases g9:(((aA (aA m.nx s) k) < (0:Int))\/(((m.nx.length:Nat):Int)<=(aA (aA m.nx s) k)))\/((aA (aA m.ot s) k) < (0:Int))
    . 
     refine bW (bY g9 J)<|bW (bY g9 J)<|bW (bY g9 J)<|bW (bY g9 J)<|bW (bY g9 J)<|bW (bY g9 J)<|bW (bY g9 J)<|bW (bY g9 J)<|bW (bY g9 J)<|bV (bY g9 J) J ?_
     exact ⟨t1,t2,t5,(dZ g9),h2,trivial⟩
    . 
     refine aN (bX g9 J)<|cM t2 h2<|aN (bX g9 J)<|aV J h2 J J<|aN (bX g9 J)<|aJ t1<|aN (bX g9 J)<|dA (i:=s) (aM<|aC m.ot) (cO s)<|aN (bX g9 J)<|aL J J<|aN (bX g9 J)<|aJ t5<|aN (bX g9 J)<|dA (i:=k) (aM<|aE<|aA m.ot s) (cO k)<|aN (bX g9 J)<|aL J J ?_
     refine aN (bX g9 J)<|eD J J<|bT (bX g9 J) J ?_
     exact ⟨t1,t2,t5,(dX g9),h2,trivial⟩
   intro T H ⟨t1,t2,t5,t76,h2,_⟩;exact eS ⟨t1,t2,t5,t76,h2,trivial⟩
  intro T H ⟨t1,t2,t5,t76,h2,_⟩;refine fN t76 (λc10=>?_) λc10=>?_
  . 
   refine aW<|aD<|bF<|y6 _ _<|p24 _ _<|y3 _ _ ?_
   refine aZ (aM<|iV 2)<|aF ?_
   . rw [hc,fV (by unfold aCw; split <;> omega) OM]; unfold aCw; split <;> omega
  refine dH<|n6 _ _ (.done (eI<|aJ t5<|cF J<|aD ?_))
  refine p14 _ _ _ ?_ ⟨(k+1),J,t1,t2,(bL (cO<|k+1) JR),h2,?_,?_,?_⟩
  . omega
  . omega
  . omega
  . rw [hc,fW (by unfold aCw; split <;> omega) OM]
 refine aT<|p34 _ _ _<|x3 _ _ (.done (aW<|aD<|bF ?_))
 refine aZ (aM<|iV 0)<|aF ?_
 . rw [hc,iM OM]
theorem nR (m:M):bK Tryz.prog 12 [(V.agg [(iV m.i),(iV m.s),(aC m.nx),(aC m.ot)])] (iV (eO m)):=by
 refine' pK [] [] Tryz.func12 ?e λhB=>?_
 case e=>conv=>lhs; cbv
 dsimp only;refine aW<|bS (i:=1) (n:=0) (m:=4) (cs:=[(iV m.i),(iV m.s),(aC m.nx),(aC m.ot)]) J (cE J) J J J<|aD<|aO<|aX J J J J<|bZ J J<|aP ?_
 refine bU 4 (λT H=>T 1=(cG 1)/\T 12=(V.bool<|decide ((m.i < (1:Int))\/((64:Int) < m.i)))/\H 1=(sA m)/\True) ?_ ?_
 . 
  by_cases g1:m.i < (1:Int)
  . 
   refine bW (bY g1 J)<|bW (bY g1 J)<|bW (bY g1 J)<|bV (bY g1 J) J ?_
   exact ⟨J,(dZ g1),J,trivial⟩
  . 
   refine aN (bX g1 J)<|cM J J<|aN (bX g1 J)<|aV J J J J<|aN (bX g1 J)<|eD J J<|bT (bX g1 J) J ?_
   exact ⟨J,(dX g1),J,trivial⟩
 intro T H ⟨t1,t12,h1,_⟩;refine bR ?_;refine aH t12 (λc2=>?_) λc2=>?_
 . 
  refine aO<|aD<|aK ?_
  refine aZ (aM<|iV 2)<|aF ?_
  . rw [eO,if_pos OM]
 refine aB<|aO<|aX t1 h1 J J<|bA J<|eV J J<|bR ?_
 refine aH J (λc3=>?_) λc3=>?_
 . 
  refine aO<|aD<|aK ?_
  refine aZ (aM<|iV 19)<|aF ?_
  . rw [eO,if_neg OM,if_pos OM]
 refine aB<|aO<|aX t1 h1 J J<|bA J<|eD J J<|bR ?_
 refine aH J (λc4=>?_) λc4=>?_
 . 
  refine aO<|aD<|aK ?_
  refine aZ (aM<|iV 11)<|aF ?_
  . rw [eO,if_neg OM,if_neg OM,if_pos OM]
 refine aB<|aO<|aX t1 h1 J J<|bZ J J<|aP ?_
 refine bU 7 (λT H=>T 1=(cG 1)/\T 31=(V.bool<|decide ((m.s < (0:Int))\/(((m.nx.length:Nat):Int)<=m.s)))/\H 1=(sA m)/\True) ?_ ?_
 . 
  by_cases g5:m.s < (0:Int)
  . 
   refine bW (bY g5 J)<|bW (bY g5 J)<|bW (bY g5 J)<|bW (bY g5 J)<|bW (bY g5 J)<|bW (bY g5 J)<|bV (bY g5 J) J ?_
   exact ⟨t1,(dZ g5),h1,trivial⟩
  . 
   refine aN (bX g5 J)<|cM t1 h1<|aN (bX g5 J)<|aV J h1 J J<|aN (bX g5 J)<|cM t1 h1<|aN (bX g5 J)<|aV J h1 J J<|aN (bX g5 J)<|bA J<|aN (bX g5 J)<|iC J J<|bT (bX g5 J) J ?_
   exact ⟨t1,(dX g5),h1,trivial⟩
 intro T H ⟨t1,t31,h1,_⟩;refine bR ?_;refine aH t31 (λc6=>?_) λc6=>?_
 . 
  refine aO<|aD<|aK ?_
  refine aZ (aM<|iV 2)<|aF ?_
  . rw [eO,if_neg OM,if_neg OM,if_neg OM,if_pos OM]
 refine aB<|aO<|aX t1 h1 J J<|bA J<|aX t1 h1 J J<|bA J<|bP J J<|bR ?_
 refine aH J (λc7=>?_) λc7=>?_
 . 
  refine aO<|aD<|aK ?_
  refine aZ (aM<|iV 1)<|aF ?_
  . rw [eO,if_neg OM,if_neg OM,if_neg OM,if_neg OM,if_pos OM]
 refine aB<|aO<|aD (aG λQ8 n8 x8 y8 z8=>?_)
 refine cC (λmm T H=> ∃ (k:Nat),mm=m.nx.length - k/\T 1=(cG 1)/\T 3=(iV ((k:Nat):Int))/\H 1=(sA m)/\(k<=m.nx.length)/\(1<=m.i/\m.i<=64/\0 < m.nx.length/\m.nx.length<=128/\m.ot.length=m.nx.length)/\(eO m=fe (xV m) k (m.nx.length - k))) ?_ ?_
 . 
  refine ⟨_,0,J,t1,(bL (aM<|iV 0) J),h1,?_,?_,?_⟩
  . omega
  . omega
  . rw [eO,if_neg OM,if_neg OM,if_neg OM,if_neg OM,if_neg OM]; rfl
 intro mm T H ⟨k,hmm,t1,t3,h1,hk,hv,hc⟩ Q9 p19 p29 p39;refine aO<|aJ t3<|aX t1 h1 J J<|bA J<|bZ J J<|bR ?_
 refine aH J (λc10=>?_) λc10=>?_
 . 
  refine aB (aG λQ11 n11 x11 y11 z11=>(aW<|aV t1 h1 J J<|aJ t3<|aI (aLx m k OM OM OM) J<|aD<|aW<|aP<|bP J J<|bR ?_));refine fN J (λc12=>?_) λc12=>?_
  . 
   refine aW<|aP<|aD<|bF<|y11 _ _<|p29 _ _<|y8 _ _ ?_
   refine aZ (aM<|iV<|xV m k)<|aF ?_
   . rw [hc,fV OM OM]
  refine dH<|n11 _ _ (.done (eI<|aJ t3<|cF J<|aD ?_))
  refine p19 _ _ _ ?_ ⟨(k+1),J,t1,(bL (cO<|k+1) JR),h1,?_,?_,?_⟩
  . omega
  . omega
  . omega
  . rw [hc,fW OM OM]
 refine aT<|p39 _ _ _<|x8 _ _ (.done (aW<|aD<|bF ?_))
 refine aZ (aM<|iV 0)<|aF ?_
 . rw [hc,iM OM]
theorem aFY:bK Tryz.prog 69 [] (V.agg [(V.sl (List.map cN ([vH []])))]):=by
 refine' pK [] [] Tryz.func69 ?e λhB=>?_
 case e=>conv=>lhs; cbv
 dsimp only;refine aW<|bM (i:=0) (n:=0) (m:=1) J (cE J) J<|qV<|bN J J<|aS J J<|bN J J<|bQ J J J J J J J J J<|R_q ?_
 refine uI (bI (u:=(V.agg [(V.sl [[(V.bool true),V.nilsl,V.nilsl,V.nilsl,V.nilsl]])])) J (@J Blk<|bk 1 47 1 [[(V.sl [[(V.bool true),V.nilsl,V.nilsl,V.nilsl,V.nilsl]])]])<|lB oB J J)<|fE ?_
 . simp [fQ,vH]
theorem aGE (n:Int):bK Tryz.prog 28 [(iV n)] (V.tup [(V.agg [(iV ((nE n).i)),(V.sl (List.map cN ((nE n).t.nd)))]),(iV (nwE n))]):=by
 refine' pK [] [] Tryz.func28 ?e λhB=>?_
 case e=>conv=>lhs; cbv
 dsimp only;refine aW<|bM (i:=2) (n:=0) (m:=2) J (cE J) J<|aD<|aO<|aP<|bZ J J<|aP ?_
 refine bU 3 (λT H=>T 0=(iV n)/\T 2=(cG 2)/\T 9=(V.bool<|decide ((n < (1:Int))\/((64:Int) < n)))/\H 2=(bk 1 49 2 [[(iV 0),V.nilsl]])/\True) ?_ ?_
 . 
  by_cases g1:n < (1:Int)
  . 
   refine bW (bY g1 J)<|bW (bY g1 J)<|bV (bY g1 J) J ?_
   exact ⟨J,J,(dZ g1),J,trivial⟩
  . 
   refine aN (bX g1 J)<|aP<|aN (bX g1 J)<|eD J J<|bT (bX g1 J) J ?_
   exact ⟨J,J,(dX g1),J,trivial⟩
 intro T H ⟨t0,t2,t9,h2,_⟩;refine bR ?_;refine aH t9 (λc2=>?_) λc2=>?_
 . 
  refine aO<|bN J J<|bQ t2 J J h2 J J J J J<|aD<|aK ?_
  refine dJ (bI (u:=(V.agg [(iV 0),V.nilsl])) t2 (@J Blk<|bk 1 49 2 [[(iV 0),V.nilsl]])<|lB oB J J) (aY<|aM<|iV 2) (cK (aF ?_)<|bH ?_)<|aF ?_
  . unfold nE; rw [if_pos OM]
  . unfold nE; rw [if_pos OM]
  . unfold nwE; rw [if_pos OM]
 refine aB<|aW<|aJ t0<|aI aFY J<|bN J J<|bQ t2 J J h2 J J J J J<|aD<|bF ?_
 refine dJ (bI (u:=(V.agg [(iV n),(V.sl<|List.map cN<|[vH []])])) t2 (@J Blk<|bk 1 49 2 [[(iV n),(V.sl<|List.map cN<|[vH []])]])<|lB oB J J) (aY<|aM<|iV 0) (cK (aF ?_)<|cA ?_ (λ_=>by simp))<|aF ?_
 . unfold nE; rw [if_neg OM]
 . unfold nE; rw [if_neg OM]
 . unfold nwE; rw [if_neg OM]
theorem aIy (n:Int):bK Tryz.prog 86 [(iV n)] (V.bool (decide (1<=n/\n<=1024))):=by
 refine' pK [] [] Tryz.func86 ?e λhB=>?_
 case e=>conv=>lhs; cbv
 dsimp only;refine aW<|aD<|aW<|aP<|iC J J<|aP ?_
 refine bU 3 (λT H=>T 8=(V.bool<|decide (((1:Int)<=n)/\(n<=(1024:Int))))/\True) ?_ ?_
 . 
  by_cases g1:(1:Int)<=n
  . 
   refine aN (bY g1 J)<|aP<|aN (bY g1 J)<|aFj J J<|bV (bY g1 J) J ?_
   exact ⟨(eT g1),trivial⟩
  . 
   refine bW (bX g1 J)<|bW (bX g1 J)<|bT (bX g1 J) J ?_
   exact ⟨(eU g1),trivial⟩
 intro T H ⟨t8,_⟩;refine aJ t8<|R_q ?_
 refine aZ (aM<|V.bool<|decide (((1:Int)<=n)/\(n<=(1024:Int))))<|cH ?_
 . first|rfl|omega|simp_all
theorem fX (w:List Int) (n:Int):bK Tryz.prog 38 [(aE w),(iV n)] (iV (dG w n)):=by
 refine' pK [] [] Tryz.func38 ?e λhB=>?_
 case e=>conv=>lhs; cbv
 dsimp only;refine aW<|aD<|aO<|aP<|aI (aIy n) J<|qT J<|bR ?_
 refine aH J (λc1=>?_) λc1=>?_
 . 
  refine aO<|aD<|aK ?_
  refine aZ (aM<|iV 2)<|aF ?_
  . rw [dG,if_pos OM]
 refine aB<|aO<|aP<|bA J<|eD J J<|bR ?_
 refine aH J (λc2=>?_) λc2=>?_
 . 
  refine aO<|aD<|aK ?_
  refine aZ (aM<|iV 3)<|aF ?_
  . rw [dG,if_neg OM,if_pos OM]
 refine aB<|aO<|aD (aG λQ3 n3 x3 y3 z3=>?_)
 refine cC (λmm T H=> ∃ (k:Nat),mm=w.length - k/\T 0=(aE w)/\T 1=(iV n)/\T 5=(iV ((k:Nat):Int))/\(k<=w.length)/\(w.length<=1024)/\(1<=n/\n<=1024)/\(dG w n=fe (wE w n) k (w.length - k))) ?_ ?_
 . 
  refine ⟨_,0,J,J,J,(bL (aM<|iV 0) J),?_,?_,?_,?_⟩
  . omega
  . omega
  . omega
  . rw [dG,if_neg OM,if_neg OM]; rfl
 intro mm T H ⟨k,hmm,t0,t1,t5,hk,hl,hn,hc⟩ Q4 p14 p24 p34;refine aO<|aJ t5<|aJ t0<|bA J<|bZ J J<|bR ?_
 refine aH J (λc5=>?_) λc5=>?_
 . 
  refine aB (aG λQ6 n6 x6 y6 z6=>(aW<|aJ t0<|aJ t5<|dA (i:=k) (aM<|aE w) (cO k)<|aL J J<|bZ J J<|aP ?_));refine bU 7 (λT H=>T 0=(aE w)/\T 1=(iV n)/\T 5=(iV ((k:Nat):Int))/\T 30=(V.bool<|decide (((aA w k) < (0:Int))\/(n<=(aA w k))))/\True) ?_ ?_
  . 
   by_cases g7:(aA w k) < (0:Int)
   . 
    refine bW (bY g7 J)<|bW (bY g7 J)<|bW (bY g7 J)<|bW (bY g7 J)<|bW (bY g7 J)<|bW (bY g7 J)<|bV (bY g7 J) J ?_
    exact ⟨t0,t1,t5,(dZ g7),trivial⟩
   . 
    refine aN (bX g7 J)<|aJ t0<|aN (bX g7 J)<|aJ t5<|aN (bX g7 J)<|dA (i:=k) (aM<|aE w) (cO k)<|aN (bX g7 J)<|aL J J<|aN (bX g7 J)<|aJ t1<|aN (bX g7 J)<|iC J J<|bT (bX g7 J) J ?_
    exact ⟨t0,t1,t5,(dX g7),trivial⟩
  intro T H ⟨t0,t1,t5,t30,_⟩;refine bR ?_;refine fN t30 (λc8=>?_) λc8=>?_
  . 
   refine aW<|aD<|bF<|y6 _ _<|p24 _ _<|y3 _ _ ?_
   refine aZ (aM<|iV 1)<|aF ?_
   . rw [hc,fV (by unfold wE; split <;> omega) OM]; unfold wE; split <;> omega
  refine dH<|n6 _ _ (.done (eI<|aJ t5<|cF J<|aD ?_))
  refine p14 _ _ _ ?_ ⟨(k+1),J,t0,t1,(bL (cO<|k+1) JR),?_,?_,?_,?_⟩
  . omega
  . omega
  . omega
  . omega
  . rw [hc,fW (by unfold wE; split <;> omega) OM]
 refine aT<|p34 _ _ _<|x3 _ _ (.done (aW<|aD<|bF ?_))
 refine aZ (aM<|iV 0)<|aF ?_
 . rw [hc,iM OM]
theorem eB (l:List (List Int)) (hs:(bD l).length<=17592186044416):bK Tryz.prog 80 [(aC l)] (aE (bD l)):=by
 refine' pK [3] [] Tryz.func80 ?e λhB=>?_
 case e=>conv=>lhs; cbv
 dsimp only;refine aW<|aD<|aW<|gG (i:=3) (n:=0) J (cE J)<|tA<|aW<|aD (aG λQ1 n1 x1 y1 z1=>?_)
 refine cC (λmm T H=> ∃ (k:Nat),mm=l.length - k/\T 0=(aC l)/\T 3=(V.ms 3 (1+k) 0<|(bD<|l.take k).length)/\T 4=(iV ((k:Nat):Int))/\H 3=(bz (1+k) 3 1<|List.map cI<|bD<|l.take k)/\(k<=l.length)) ?_ ?_
 . 
  refine ⟨_,0,J,J,(bL (aM<|V.ms 3 1 0 0) JR),(bL (aM<|iV 0) J),(bL (@J Blk<|bz 1 3 1 []) JR),?_⟩
  . omega
 intro mm T H ⟨k,hmm,t0,t3,t4,h3,hk⟩ Q2 p12 p22 p32;refine aO<|aJ t4<|aJ t0<|bA J<|bZ J J<|bR ?_
 refine aH J (λc3=>?_) λc3=>?_
 . 
  have hq:=uC (l:=l) (k:=k) OM;refine aB (aG λQ4 n4 x4 y4 z4=>(eI<|aJ t3<|aJ t0<|aJ t4<|dA (i:=k) (aM<|aC l) (cO k)<|aL J J<|lQ (l:=(bD<|l.take k)) (m:=(aA l k)) (f:=cI) (aM<|V.ms 3 (1+k) 0<|(bD<|l.take k).length) h3 JR (aM<|aE<|aA l k) (λ_=>J) (λ_=>J) OM OM<|aD<|n4 _ _ (.done (eI<|aJ t4<|cF J ?_))));refine aD ?_;refine p12 _ _ _ ?_ ⟨(k+1),J,t0,(bL (aM<|V.ms 3 (1+k+1) 0<|((bD<|l.take k).length)+(aA l k).length) (by (rw [rP OM,List.length_append]; rfl))),(bL (cO<|k+1) JR),(bL (@J Blk<|bz (1+k+1) 3 1<|List.map cI<|bD (l.take k)++(aA l k)) (by (rw [rP OM]; rfl))),?_⟩
  . omega
  . omega
 refine aT<|p32 _ _ _<|x1 _ _ (.done (aW<|aJ t3<|aD<|bF ?_))
 refine aZ (aM<|V.ms 3 (1+k) 0<|(bD<|l.take k).length)<|iK h3 SI (l:=(bD<|l.take k)) J JR (λ_=>by simp) ?_
 . (have e:k=l.length:=OM; subst e; rw [List.take_length])
theorem jC (t:Dt) (hb:Bd t):bK Tryz.prog 74 [(V.agg [(V.sl (List.map cN t.nd))])] (aC (eP t.nd)):=by
 refine' pK [3] [] Tryz.func74 ?e λhB=>?_
 case e=>conv=>lhs; cbv
 dsimp only;have hbn:=hb.n;refine aW<|bS (i:=1) (n:=0) (m:=1) (cs:=[(V.sl<|List.map cN t.nd)]) J (cE J) J J J<|aD<|aW<|gG (i:=3) (n:=0) J (cE J)<|tA<|aW<|aD (aG λQ1 n1 x1 y1 z1=>?_)
 refine cC (λmm T H=> ∃ (k:Nat) (v:Nat),mm=t.nd.length - k/\T 1=(cG 1)/\T 3=(V.ms 3 v 0<|(eP<|t.nd.take k).length)/\T 4=(iV ((k:Nat):Int))/\H 1=(bk 1 47 1 [[(V.sl<|List.map cN t.nd)]])/\H 3=(bz v 54 1<|List.map cL<|eP<|t.nd.take k)/\(k<=t.nd.length)) ?_ ?_
 . 
  refine ⟨_,0,1,J,J,(bL (aM<|V.ms 3 1 0 0) JR),(bL (aM<|iV 0) J),J,(bL (@J Blk<|bz 1 54 1 []) JR),?_⟩
  . omega
 intro mm T H ⟨k,v,hmm,t1,t3,t4,h1,h3,hk⟩ Q2 p12 p22 p32;have q1:=jS<|t.nd.take k
 have q2:(t.nd.take k).length<=k:=by simp; omega
 refine aO<|aJ t4<|aX t1 h1 J J<|bA J<|bZ J J<|bR ?_
 refine aH J (λc3=>?_) λc3=>?_
 . 
  have r1:=hb.ac k OM;refine aB (aG λQ4 n4 x4 y4 z4=>(aW<|aX t1 h1 J J<|aJ t4<|dA (i:=k) (aM<|V.sl<|List.map cN t.nd) (cO k)<|dB (cs':=(cN<|aA t.nd k)) J J<|aL J J<|bR ?_));refine mJ J (λc5=>?_) (λc5=>?_)
  . 
   have d1:(aA t.nd k).lf=true:=c5;refine eI<|aJ t3<|aX t1 h1 J J<|aJ t4<|dA (i:=k) (aM<|V.sl<|List.map cN t.nd) (cO k)<|dB (cs':=(List.drop 1<|cN<|aA t.nd k)) J J<|aL J J<|aS J J<|aI (eB ([(aA t.nd k).ac]) (by simp [bD]; omega)) J<|aS J J<|eX (l:=(eP<|t.nd.take k)) (f:=cL) (x:=(bD<|[(aA t.nd k).ac])) (aM<|V.ms 3 v 0<|(eP<|t.nd.take k).length) h3 JR (aM<|V.sl [[(aE<|bD<|[(aA t.nd k).ac])]])<|aD<|n4 _ _ (.done ?_)
   refine eI<|aJ t4<|cF J<|aD ?_
   refine p12 _ _ _ ?_ ⟨(k+1),(v+1),J,t1,(bL (aM<|V.ms 3 (v+1) 0<|((eP<|t.nd.take k).length)+1) (by (rw [jF OM,if_pos (by assumption),List.length_append]; rfl))),(bL (cO<|k+1) JR),h1,(bL (@J Blk<|bz (v+1) 54 1<|List.map cL<|eP (t.nd.take k)++[bD ([(aA t.nd k).ac])]) (by (rw [jF OM,if_pos (by assumption)]; simp [bD]; done))),?_⟩
   . omega
   . omega
  have d1: ¬(aA t.nd k).lf=true:=by simpa using c5
  refine dH<|n4 _ _ (.done (eI<|aJ t4<|cF J<|aD ?_))
  refine p12 _ _ _ ?_ ⟨(k+1),v,J,t1,(bL t3 (by (rw [jF OM,if_neg (by assumption),List.append_nil]; done))),(bL (cO<|k+1) JR),h1,(bL h3 (by (rw [jF OM,if_neg (by assumption),List.append_nil]; done))),?_⟩
  . omega
  . omega
 refine aT<|p32 _ _ _<|x1 _ _ (.done (aW<|aJ t3<|aD<|bF ?_))
 refine aZ (aM<|V.ms 3 v 0<|(eP<|t.nd.take k).length)<|iK h3 SI (l:=(eP<|t.nd.take k)) J JR (λ_=>by simp) ?_
 . rw [show k=t.nd.length by omega,List.take_length]
theorem aAw (a b:List Int):bK Tryz.prog 87 [(aE a),(aE b)] (iV (cY a b)):=by
 refine' pK [] [] Tryz.func87 ?e λhB=>?_
 case e=>conv=>lhs; cbv
 dsimp only;refine aW<|aD<|aW<|aP<|aP ?_
 have q1:=kX a b;have q2:=mV a b;refine aI (oY a b) J<|aD ?_
 have q3:=kX a b;have q4:=mV a b;refine aG λQ5 n5 x5 y5 z5=>(aW<|aP<|aP<|bA J<|eV J J<|aP ?_);refine bU 5 (λT H=>T 0=(aE a)/\T 1=(aE b)/\T 5=(iV ((gJ a b:Nat):Int))/\T 19=(V.bool<|decide ((((gJ a b:Nat):Int)=((a.length:Nat):Int))/\(((gJ a b:Nat):Int)=((b.length:Nat):Int))))/\True) ?_ ?_
 . 
  by_cases g6:((gJ a b:Nat):Int)=((a.length:Nat):Int)
  . 
   refine aN (bY g6 J)<|aP<|aN (bY g6 J)<|aP<|aN (bY g6 J)<|bA J<|aN (bY g6 J)<|eV J J<|bV (bY g6 J) J ?_
   exact ⟨J,J,J,(eT g6),trivial⟩
  . 
   refine bW (bX g6 J)<|bW (bX g6 J)<|bW (bX g6 J)<|bW (bX g6 J)<|bT (bX g6 J) J ?_
   exact ⟨J,J,J,(eU g6),trivial⟩
 intro T H ⟨t0,t1,t5,t19,_⟩;refine aJ t19<|bR ?_
 refine fN J (λc7=>?_) λc7=>?_
 . 
  refine aW<|aD<|bF<|y5 _ _ ?_
  refine aZ (aM<|iV 0)<|aF ?_
  . unfold cY; rw [if_pos OM]
 refine aO<|aJ t5<|aJ t0<|bA J<|eV J J<|aD ?_
 refine aH J (λc8=>?_) λc8=>?_
 . 
  refine aB ?_;refine fN J (λc9=>?_) λc9=>?_
  . 
   refine aW<|aD<|bF<|y5 _ _ ?_
   refine aZ (aM<|iV (-1))<|aF ?_
   . unfold cY; rw [if_neg OM,if_pos OM]
  . exact (c9 c8).elim
 refine aW<|aJ t5<|aJ t1<|bA J<|bZ J J<|aP ?_
 refine bU 10 (λT H=>T 20=(V.bool<|decide (((gJ a b:Nat):Int)=((a.length:Nat):Int)))/\T 39=(V.bool<|decide ((((gJ a b:Nat):Int) < ((b.length:Nat):Int))/\((aA a<|gJ a b) < (aA b<|gJ a b))))/\True) ?_ ?_
 . 
  by_cases g10:((gJ a b:Nat):Int) < ((b.length:Nat):Int)
  . 
   refine aN (bY g10 J)<|aJ t0<|aN (bY g10 J)<|aJ t5<|aN (bY g10 J)<|dA (i:=(gJ a b)) (aM<|aE a) (cO<|gJ a b)<|aN (bY g10 J)<|aL J J<|aN (bY g10 J)<|aJ t1<|aN (bY g10 J)<|aJ t5<|aN (bY g10 J)<|dA (i:=(gJ a b)) (aM<|aE b) (cO<|gJ a b)<|aN (bY g10 J)<|aL J J ?_
   refine aN (bY g10 J)<|bZ J J<|bV (bY g10 J) J ?_
   exact ⟨J,(eT g10),trivial⟩
  . 
   refine bW (bX g10 J)<|bW (bX g10 J)<|bW (bX g10 J)<|bW (bX g10 J)<|bW (bX g10 J)<|bW (bX g10 J)<|bW (bX g10 J)<|bW (bX g10 J)<|bW (bX g10 J)<|bT (bX g10 J) J ?_
   exact ⟨J,(eU g10),trivial⟩
 intro T H ⟨t20,t39,_⟩;refine aJ t39<|bR ?_
 refine fN J (λc11=>?_) λc11=>?_
 . 
  refine aW<|aD<|bF<|y5 _ _ ?_
  refine aZ (aM<|iV (-1))<|aF ?_
  . unfold cY; rw [if_neg OM,if_pos OM]
 refine dH<|n5 _ _ (.done (aW<|aD<|bF ?_))
 refine aZ (aM<|iV 1)<|aF ?_
 . unfold cY; rw [if_neg OM,if_neg OM]
theorem wT (a b:List Int):bK Tryz.prog 41 [(aE a),(aE b)] (iV (fS a b)):=by
 refine' pK [] [] Tryz.func41 ?e λhB=>?_
 case e=>conv=>lhs; cbv
 dsimp only;refine aW<|aD<|aO<|aP<|bA J<|aP<|bA J<|bZ J J<|bR ?_
 refine aH J (λc1=>?_) λc1=>?_
 . 
  refine aO<|aD<|aK ?_
  refine aZ (aM<|iV (-1))<|aF ?_
  . rw [fS,if_pos OM]
 refine aB<|aO<|aP<|bA J<|aP<|bA J<|eD J J<|bR ?_
 refine aH J (λc2=>?_) λc2=>?_
 . 
  refine aO<|aD<|aK ?_
  refine aZ (aM<|iV 1)<|aF ?_
  . rw [fS,if_neg OM,if_pos OM]
 refine aB<|aW<|aP<|aP<|aI (aAw a b) J<|aD<|bF ?_
 refine aZ (aM<|iV<|cY a b)<|aF ?_
 . rw [fS,if_neg OM,if_neg OM]
theorem aF4 (l:List (List Int)) (w:List Int) (hs:vY l) (hl:l.length<=1073741824):bK Tryz.prog 174 [(aC l),(aE w)] (iV ((pO l w:Nat):Int)):=by
 refine' pK [] [] Tryz.func174 ?e λhB=>?_
 case e=>conv=>lhs; cbv
 dsimp only;have q0:=aIh (w:=w) l;refine aW<|aD<|aW<|aP<|bA J<|aP<|aD (aG λQ1 n1 x1 y1 z1=>?_)
 refine cC (λmm T H=> ∃ (i:Nat) (j:Nat),mm=j - i/\T 0=(aC l)/\T 1=(aE w)/\T 5=(iV ((i:Nat):Int))/\T 6=(iV ((j:Nat):Int))/\(i<=pO l w)/\(pO l w<=j)/\(j<=l.length)) ?_ ?_
 . 
  refine ⟨_,0,l.length,J,J,J,(bL (aM<|iV 0) J),J,?_,?_,?_⟩
  . omega
  . omega
  . omega
 intro mm T H ⟨i,j,hmm,t0,t1,t5,t6,h1,h2,h3⟩ Q2 p12 p22 p32;refine aO<|aJ t5<|aJ t6<|bZ J J<|bR ?_
 refine aH J (λc3=>?_) λc3=>?_
 . 
  refine aB (fZ λQ4 n4 x4 y4 z4=>(aW<|aJ t5<|aJ t6<|oC J J OM<|aGG (n:=(i+j)) J J OM<|aD<|aW<|aJ t0<|aP<|dA (i:=((i+j) / 2)) (aM<|aC l) (cO<|(i+j) / 2)<|aL J J<|aJ t1<|aI (wT (aA l<|(i+j) / 2) w) J ?_));refine bZ J J<|bR ?_
  refine fN J (λc5=>?_) λc5=>?_
  . 
   have d1:=(aAl hs OM).1 c5;refine eI<|aP<|cF J<|aD<|n4 _ _ ?_
   refine p12 _ _ _ ?_ ⟨(((i+j) / 2)+1),j,J,t0,t1,(bL (cO<|((i+j) / 2)+1) JR),t6,?_,?_,?_⟩
   . omega
   . omega
   . omega
   . omega
  have d1: ¬((i+j) / 2 < pO l w):=λe=>c5<|(aAl hs OM).2 e
  refine eI<|aP<|aD<|n4 _ _ ?_
  refine p12 _ _ _ ?_ ⟨i,((i+j) / 2),J,t0,t1,t5,(bL (cO<|(i+j) / 2) JR),?_,?_,?_⟩
  . omega
  . omega
  . omega
  . omega
 refine aT<|p32 _ _ _<|x1 _ _ (.done (aW<|aJ t5<|aD<|bF ?_))
 refine aZ (cO i)<|aF ?_
 . have e:i=pO l w:=OM
   rw [e]
theorem aPg (l:List (List Int)) (w:List Int) (v3 v44:Nat) (Hi:bC) (h3:Hi 3=(bz v3 54 1 (List.map cL l))) (h544:(Hi 544).ver=v44) (hs:vY l) (hl:l.length<=100000) (hw:w.length<=1048576):fA Tryz.prog 130 [(V.ms 3 v3 0 l.length),(aE w)] Hi (V.ms 3 (v3+1) 0 ((wiW l w).length)) (cX (cX Hi 544 (⟨v44+2,false,false,0,0,[]⟩:Blk)) 3 (bz (v3+1) 54 1 (List.map cL (wiW l w)))):=by
 refine' eK [44] [] (k0:=500) Tryz.func130 ?e λhB=>?_
 case e=>conv=>lhs; cbv
 have q0:=aIh (w:=w) l;dsimp only;refine aW<|aD<|aW<|aP<|aP<|jN (bO (aM<|V.ms 3 v3 0 l.length)<|bO (aM<|aE w) dQ) (aF4 l w hs OM) (cZ (rH h3 SI (nS (l:=l) JR) (λ_=>by simp))<|cZ (dM 6 _ (by simp [-List.map_take,-List.map_drop,-List.map_append,-List.map_reverse])) J) (by simp [-List.map_take,-List.map_drop,-List.map_append,-List.map_reverse]) (Or.inr J)<|aD<|aO<|aP<|aP<|dW J h3 SI<|bZ J J<|aP ?_
 refine bU 7 (λT H=>T 0=(V.ms 3 v3 0 l.length)/\T 1=(aE w)/\T 5=(iV ((pO l w:Nat):Int))/\T 21=(V.bool<|decide ((((pO l w:Nat):Int) < ((l.length:Nat):Int))/\((aA l<|pO l w)=w)))/\(∀ j,j∉[544,3]->H j=Hi j)/\H 3=(bz v3 54 1<|List.map cL l)/\(H 544).ver=v44/\True) ?_ ?_
 . 
  by_cases g1:((pO l w:Nat):Int) < ((l.length:Nat):Int)
  . 
   refine aN (bY g1 J)<|aP<|aN (bY g1 J)<|aP<|aN (bY g1 J)<|dC (i:=(pO l w)) (aM<|V.ms 3 v3 0 l.length) (cO<|pO l w) h3 (eC OM) J OM<|aN (bY g1 J)<|cQ (v:=(aE<|aA l<|pO l w)) J h3 (dS OM JR)<|aN (bY g1 J)<|aP<|aN (bY g1 J)<|aI (lN (aA l<|pO l w) w) J<|bV (bY g1 J) J ?_
   exact ⟨J,J,J,(eT g1),(λ_ _=>J),h3,h544,trivial⟩
  . 
   refine bW (bX g1 J)<|bW (bX g1 J)<|bW (bX g1 J)<|bW (bX g1 J)<|bW (bX g1 J)<|bW (bX g1 J)<|bT (bX g1 J) J ?_
   exact ⟨J,J,J,(eU g1),(λ_ _=>J),h3,h544,trivial⟩
 intro T H ⟨t0,t1,t5,t21,hF,h3,h544,_⟩;refine bR ?_;refine aH t21 (λc2=>?_) λc2=>?_
 . 
  have d1:wiH l w:=by simpa [wiH] using c2
  have hwi:=aPq d1;refine aO<|aJ t0<|aD<|aK<|eJ (R:=λT H=>T 4=(V.ms 3 v3 0 l.length)/\(∀ j,j∉[544,3]->H j=Hi j)/\H 3=(bz v3 54 1<|List.map cL l)/\(H 544).ver=v44/\True) ⟨(aM<|V.ms 3 v3 0 l.length),hF,h3,h544,trivial⟩ ?_
  intro T H ⟨t4,hF,h3,h544,_⟩;skip;have fh:=dK.fin<|dK.put (B:=(bz (v3+1) 54 1<|List.map cL<|wiW l w)) (dK.putv (n:=v44) (B:=(⟨v44+2,false,false,0,0,[]⟩:Blk)) (dK.start hF) h544 (by show _<=v44+2; omega) J) h3<|iZ.up OM (by (rw [hwi]; done))
  exact kU t4 fh<|eY.trans_eq (eY.ms (n:=(v3+1)) fh (by simp [h3]) (by simp [h3]) J J) (by (rw [hwi]; done))
 have d1: ¬wiH l w:=λq=>by have q:=aP9.1 q; simp [q] at c2
 have hwi:=aP3 d1;refine aB<|W_g<|aJ t0<|aS J J<|aJv (l:=l) (f:=cL) (z:=[.nilsl]) (aM<|V.ms 3 v3 0 l.length) h3 JR (aM<|V.sl [[V.nilsl]]) J J OM OM<|aD ?_
 refine aKw (id:=3) (x:=[]) (f:=cL) (l:=l) (@J Blk<|bz (v3+1) 54 1<|List.map cL l++List.replicate 1 [V.nilsl]) J (.done ?_);refine aO<|aP<|dW J (@J Blk<|bz (v3+1) 54 1<|List.map cL<|l++[[]]) SI<|mP J J OM OM<|aD (aG λQ3 n3 x3 y3 z3=>?_)
 refine cC (λmm T H=> ∃ (j:Nat),mm=j/\T 0=(V.ms 3 (v3+1) 0<|l.length+1)/\T 1=(aE w)/\T 5=(iV ((pO l w:Nat):Int))/\T 6=(iV ((j:Nat):Int))/\(∀ j,j∉[544,3]->H j=Hi j)/\H 3=(bz (v3+1) 54 1<|List.map cL<|mvL l j)/\(H 544).ver=v44/\(j<=l.length)/\(pO l w<=j)) ?_ ?_
 . 
  refine ⟨_,l.length,J,J,t1,t5,(bL (aM<|iV<|((l.length+1:Nat):Int) - (1:Int)) (by (congr 1; omega))),(bG (bG hF DE) DE),(bL (@J Blk<|bz (v3+1) 54 1<|List.map cL<|l++[[]]) (by (rw [aON]; done))),h544,?_,?_⟩
  . omega
  . omega
 intro mm T H ⟨j,hmm,t0,t1,t5,t6,hF,h3,h544,hj,hp⟩ Q4 p14 p24 p34;have q1:=aJK hj;refine aO<|aJ t6<|aJ t5<|eD J J<|bR ?_
 refine aH J (λc5=>?_) λc5=>?_
 . 
  refine aB (aG λQ6 n6 x6 y6 z6=>(eI<|aJ t0<|aJ t6<|aJ t0<|aJ t6<|mP J J OM OM<|dV (i:=(((j:Nat):Int) - (1:Int))) (aM<|V.ms 3 (v3+1) 0<|l.length+1) (aM<|iV<|((j:Nat):Int) - (1:Int)) h3 (eC OM) J OM OM<|cQ (v:=(aE<|aA (mvL l j)<|(((j:Nat):Int) - (1:Int)).toNat)) J h3 (dS OM JR)<|dC (i:=j) (aM<|V.ms 3 (v3+1) 0<|l.length+1) (cO j) h3 (eC OM) J OM<|dU (vs:=[(aE<|aA (mvL l j)<|(((j:Nat):Int) - (1:Int)).toNat)]) (B':=(bz (v3+1) 54 1<|List.map cL<|(mvL l j).set j (aA (mvL l j)<|(((j:Nat):Int) - (1:Int)).toNat))) J J J h3 (iQ (x:=(aA (mvL l j)<|(((j:Nat):Int) - (1:Int)).toNat)) (i:=j) OM J J J J)<|bR<|n6 _ _ (.done (eI ?_))));refine aJ t6<|mP J J OM OM<|aD ?_
  refine p14 _ _ _ ?_ ⟨(j - 1),J,t0,t1,t5,(bL (aM<|iV<|((j:Nat):Int) - (1:Int)) (by (congr 1; omega))),(bG hF DE),(bL (@J Blk<|bz (v3+1) 54 1<|List.map cL<|(mvL l j).set j (aA (mvL l j)<|(((j:Nat):Int) - (1:Int)).toNat)) (by (rw [show (((j:Nat):Int) - (1:Int)).toNat=j - 1 by omega,aNT OM hj]; done))),h544,?_,?_⟩
  . omega
  . omega
  . omega
 refine aT<|p34 _ _ _<|x3 _ _ (.done (W_g<|aJ t0<|aJ t5<|gG (i:=544) (n:=v44) JR h544<|aJ t1<|lQ (l:=([])) (m:=w) (f:=cI) (aM<|V.ms 544 (v44+1) 0 0) (show _=(bz (v44+1) 3 1<|List.map cI<|[]) from (@J Blk<|bz (v44+1) 3 1 [])) JR (aM<|aE w) (λ_=>J) (λ_=>J) OM OM<|dC (i:=(pO l w)) (aM<|V.ms 3 (v3+1) 0<|l.length+1) (cO<|pO l w) h3 (eC OM) J OM<|dU (vs:=[(V.ms 544 (v44+2) 0<|0+w.length)]) (B':=(bz (v3+1) 54 1<|(List.map cL<|mvL l j).set (pO l w) [(V.ms 544 (v44+2) 0<|0+w.length)])) J J J h3 (rV (i:=(pO l w)) OM J J J)<|bR ?_))
 refine gI (id:=544) (id2:=3) (rows:=(List.map cL<|mvL l j)) (i:=(pO l w)) (off:=0) (r:=[(V.ms 544 (v44+2) 0<|0+w.length)]) (m:=([]++w)) (g:=cI) DE (@J Blk<|bz (v44+2) 3 1<|List.map cI<|[]++w) (@J Blk<|bz (v3+1) 54 1<|(List.map cL<|mvL l j).set (pO l w) [(V.ms 544 (v44+2) 0<|0+w.length)]) (by (simp; omega)) SI J (.done ?_);refine aW<|aJ (bB t0<|eE DE)<|aD<|bF<|eJ (R:=λT H=>T 4=(V.ms 3 (v3+1) 0<|l.length+1)/\(∀ j,j∉[544,3]->H j=Hi j)/\H 3=(bz (v3+1) 54 1<|List.map cL<|(mvL l j).set (pO l w) ([]++w))/\((H 544).ver=v44+2/\(H 544).live=false)/\True) ⟨(aM<|V.ms 3 (v3+1) 0<|l.length+1),(bG (kF (bG (bG (bG hF DE) DE) DE) DE) DE),((by (rw [aU,List.map_set]; rfl)):_=(bz (v3+1) 54 1<|List.map cL<|(mvL l j).set (pO l w) ([]++w))),⟨J,J⟩,trivial⟩ ?_
 intro T H ⟨t4,hF,h3,h544,_⟩;skip;have fh:=dK.fin<|dK.put (B:=(bz (v3+1) 54 1<|List.map cL<|wiW l w)) (dK.putv (n:=(v44+2)) (B:=(⟨v44+2,false,false,0,0,[]⟩:Blk)) (dK.start hF) h544.1 (by show _<=v44+2; omega) J) h3<|iZ.eq (by (rw [show j=pO l w by omega,aOY q0,hwi]; rfl))
 exact kU t4 fh<|eY.trans_eq (eY.same fh _) (by (rw [hwi]; simp; omega))
theorem oW (l:List (List Int)) (hl:l.length<=10000) (hw: ∀ w∈l,w.length<=1048576):bK Tryz.prog 79 [(aC l)] (aC (fB l)):=by
 refine' pK [3] [] Tryz.func79 ?e λhB=>?_
 case e=>conv=>lhs; cbv
 dsimp only;refine aW<|aD<|aW<|gG (i:=3) (n:=0) J (cE J)<|tA<|aW<|aD (aG λQ1 n1 x1 y1 z1=>?_)
 refine cC (λmm T H=> ∃ (k:Nat) (v:Nat) (v544:Nat),mm=l.length - k/\T 0=(aC l)/\T 3=(V.ms 3 v 0<|(fB<|l.take k).length)/\T 4=(iV ((k:Nat):Int))/\H 3=(bz v 54 1<|List.map cL<|fB<|l.take k)/\(H 544).ver=v544/\(k<=l.length)) ?_ ?_
 . 
  refine ⟨_,0,1,0,J,J,(bL (aM<|V.ms 3 1 0 0) JR),(bL (aM<|iV 0) J),(bL (@J Blk<|bz 1 54 1 []) JR),(cE J),?_⟩
  . omega
 intro mm T H ⟨k,v,v544,hmm,t0,t3,t4,h3,h544,hk⟩ Q2 p12 p22 p32;have q1:=yV<|l.take k
 have q2:(l.take k).length<=k:=by simp; omega
 refine aO<|aJ t4<|aJ t0<|bA J<|bZ J J<|bR ?_
 refine aH J (λc3=>?_) λc3=>?_
 . 
  refine aB (aG λQ4 n4 x4 y4 z4=>(eI<|aJ t3<|aJ t0<|aJ t4<|dA (i:=k) (aM<|aC l) (cO k)<|aL J J<|gA (bO J<|bO J dQ) (aPg (fB<|l.take k) (aA l k) v v544 _ h3 h544 (sS _) OM<|hw _<|cW OM)<|aD<|n4 _ _ (.done (eI<|aJ t4<|cF J ?_))));refine aD ?_;refine p12 _ _ _ ?_ ⟨(k+1),(v+1),(v544+2),J,t0,(bL (aM<|V.ms 3 (v+1) 0<|(wiW (fB<|l.take k)<|aA l k).length) (by (rw [aFP OM]; done))),(bL (cO<|k+1) JR),(bL (@J Blk<|bz (v+1) 54 1<|List.map cL<|wiW (fB<|l.take k)<|aA l k) (by (rw [aFP OM]; done))),(cE J),?_⟩
  . omega
  . omega
 refine aT<|p32 _ _ _<|x1 _ _ (.done (aW<|aJ t3<|aD<|bF ?_))
 refine aZ (aM<|V.ms 3 v 0<|(fB<|l.take k).length)<|iK h3 SI (l:=(fB<|l.take k)) J JR (λ_=>by simp) ?_
 . rw [show k=l.length by omega,List.take_length]
theorem oU (aQ suffix:List Int):bK Tryz.prog 124 [(aE aQ),(aE suffix)] (iV (sJ aQ suffix)):=by
 refine' pK [] [] Tryz.func124 ?e λhB=>?_
 case e=>conv=>lhs; cbv
 dsimp only;refine aW<|aD<|aO<|aP<|bA J<|aP<|bA J<|bP J J<|bR ?_
 refine aH J (λc1=>?_) λc1=>?_
 . 
  refine aO<|aD<|aK ?_
  refine aZ (aM<|iV 1)<|aF ?_
  . rw [sJ,if_pos OM]
 refine aB<|aO<|aD (aG λQ2 n2 x2 y2 z2=>?_)
 refine cC (λmm T H=> ∃ (k:Nat),mm=aQ.length - k/\T 0=(aE aQ)/\T 5=(iV ((k:Nat):Int))/\(k<=aQ.length)/\(aQ.length=suffix.length)/\(fe (ouE aQ) 0 aQ.length=fe (ouE aQ) k (aQ.length - k))) ?_ ?_
 . 
  refine ⟨_,0,J,J,(bL (aM<|iV 0) J),?_,?_,?_⟩
  . omega
  . omega
  . rfl
 intro mm T H ⟨k,hmm,t0,t5,hk,hl,hc⟩ Q3 p13 p23 p33;refine aO<|aJ t5<|aJ t0<|bA J<|bZ J J<|bR ?_
 refine aH J (λc4=>?_) λc4=>?_
 . 
  refine aB (aG λQ5 n5 x5 y5 z5=>(aW<|aJ t0<|aJ t5<|dA (i:=k) (aM<|aE aQ) (cO k)<|aL J J<|bZ J J<|aP ?_));refine bU 6 (λT H=>T 0=(aE aQ)/\T 5=(iV ((k:Nat):Int))/\T 28=(V.bool<|decide (((aA aQ k) < (0:Int))\/((1048576:Int) < (aA aQ k))))/\True) ?_ ?_
  . 
   by_cases g6:(aA aQ k) < (0:Int)
   . 
    refine bW (bY g6 J)<|bW (bY g6 J)<|bW (bY g6 J)<|bW (bY g6 J)<|bW (bY g6 J)<|bV (bY g6 J) J ?_
    exact ⟨t0,t5,(dZ g6),trivial⟩
   . 
    refine aN (bX g6 J)<|aJ t0<|aN (bX g6 J)<|aJ t5<|aN (bX g6 J)<|dA (i:=k) (aM<|aE aQ) (cO k)<|aN (bX g6 J)<|aL J J<|aN (bX g6 J)<|eD J J<|bT (bX g6 J) J ?_
    exact ⟨t0,t5,(dX g6),trivial⟩
  intro T H ⟨t0,t5,t28,_⟩;refine bR ?_;refine fN t28 (λc7=>?_) λc7=>?_
  . 
   refine aW<|aD<|bF<|y5 _ _<|p23 _ _<|y2 _ _ ?_
   refine aZ (aM<|iV 2)<|aF ?_
   . rw [sJ,if_neg OM]; rw [hc,fV (by unfold ouE; split <;> omega) OM]; unfold ouE; split <;> omega
  refine dH<|n5 _ _ (.done (eI<|aJ t5<|cF J<|aD ?_))
  refine p13 _ _ _ ?_ ⟨(k+1),J,t0,(bL (cO<|k+1) JR),?_,?_,?_⟩
  . omega
  . omega
  . omega
  . rw [hc,fW (by unfold ouE; split <;> omega) OM]
 refine aT<|p33 _ _ _<|x2 _ _ (.done (aW<|aD<|bF ?_))
 refine aZ (aM<|iV 0)<|aF ?_
 . rw [sJ,if_neg OM]; rw [hc,iM OM]
theorem aAS (s:List Int):bK Tryz.prog 178 [(aE s)] (iV (if s.length=0 then 19 else dG s 64)):=by
 refine' pK [] [] Tryz.func178 ?e λhB=>?_
 case e=>conv=>lhs; cbv
 dsimp only;refine aW<|aD<|aO<|aP<|bA J<|eV J J<|bR ?_
 refine aH J (λc1=>?_) λc1=>?_
 . 
  refine aO<|aD<|aK ?_
  refine aZ (aM<|iV 19)<|aF ?_
  . rw [if_pos OM]
 refine aB<|aW<|aP<|aI (fX s (64:Int)) J<|aD<|bF ?_
 refine aZ (aM<|iV<|dG s (64:Int))<|aF ?_
 . rw [if_neg OM]
theorem aGc (t:Dt) (x:Nd) (ho:x.ou.length<=1048576) (hk0:x.kd.length<=1048576):bK Tryz.prog 171 [(V.agg [(V.sl (List.map cN t.nd))]),(V.agg (cN x))] (iV (lW x t.nd.length)):=by
 refine' pK [] [] Tryz.func171 ?e λhB=>?_
 case e=>conv=>lhs; cbv
 dsimp only;refine aW<|bS (i:=2) (n:=0) (m:=1) (cs:=[(V.sl<|List.map cN t.nd)]) J (cE J) J J J<|bS (i:=3) (n:=0) (m:=5) (cs:=[(V.bool x.lf),(aE x.ac),(aE x.sf),(aC x.ou),(aE x.kd)]) J (cE J) J J J<|aD<|aO<|aX J J J J<|bR ?_
 refine cU J (λc1=>?_) (λc1=>?_)
 . 
  have d0:x.lf=true:=c1;refine cS<|aO<|aX J J J J<|bA J<|eD J J<|aP ?_
  refine bU 5 (λT H=>T 3=(cG 3)/\T 20=(V.bool<|decide (((0:Int) < ((x.sf.length:Nat):Int))\/((0:Int) < ((x.ou.length:Nat):Int))))/\H 2=(bk 1 47 1 [[(V.sl<|List.map cN t.nd)]])/\H 3=(bk 1 108 5 [(cN x)])/\True) ?_ ?_
  . 
   by_cases g2:(0:Int) < ((x.sf.length:Nat):Int)
   . 
    refine bW (bY g2 J)<|bW (bY g2 J)<|bW (bY g2 J)<|bW (bY g2 J)<|bV (bY g2 J) J ?_
    exact ⟨J,(dZ g2),J,J,trivial⟩
   . 
    refine aN (bX g2 J)<|cM J J<|aN (bX g2 J)<|aV J J J J<|aN (bX g2 J)<|bA J<|aN (bX g2 J)<|eD J J<|bT (bX g2 J) J ?_
    exact ⟨J,(dX g2),J,J,trivial⟩
  intro T H ⟨t3,t20,h2,h3,_⟩;refine aJ t20 ?_;refine bU 5 (λT H=>T 3=(cG 3)/\T 26=(V.bool<|decide ((((0:Int) < ((x.sf.length:Nat):Int))\/((0:Int) < ((x.ou.length:Nat):Int)))\/((0:Int) < ((x.kd.length:Nat):Int))))/\H 2=(bk 1 47 1 [[(V.sl<|List.map cN t.nd)]])/\H 3=(bk 1 108 5 [(cN x)])/\True) ?_ ?_
  . 
   by_cases g3:((0:Int) < ((x.sf.length:Nat):Int))\/((0:Int) < ((x.ou.length:Nat):Int))
   . 
    refine bW (bY g3 J)<|bW (bY g3 J)<|bW (bY g3 J)<|bW (bY g3 J)<|bV (bY g3 J) J ?_
    exact ⟨t3,(dZ g3),h2,h3,trivial⟩
   . 
    refine aN (bX g3 J)<|cM t3 h3<|aN (bX g3 J)<|aV J h3 J J<|aN (bX g3 J)<|bA J<|aN (bX g3 J)<|eD J J<|bT (bX g3 J) J ?_
    exact ⟨t3,(dX g3),h2,h3,trivial⟩
  intro T H ⟨t3,t26,h2,h3,_⟩;refine bR ?_;refine aH t26 (λc4=>?_) λc4=>?_
  . 
   refine aO<|aD<|aK ?_
   refine aZ (aM<|iV 1)<|aF ?_
   . rw [lW,if_pos d0,lfE,if_pos OM]
  refine aB<|aO<|aX t3 h3 J J<|aI (fX x.ac (64:Int)) J<|aD<|aK ?_
  refine aZ (aM<|iV<|dG x.ac (64:Int))<|aF ?_
  . rw [lW,if_pos d0,lfE,if_neg OM]
 have d0:x.lf=false:=by simpa using c1
 refine aB<|aO<|aX J J J J<|bA J<|eD J J<|bR ?_
 refine aH J (λc5=>?_) λc5=>?_
 . 
  refine aO<|aD<|aK ?_
  refine aZ (aM<|iV 1)<|aF ?_
  . rw [lW,if_neg (by simp [d0]),oO,if_pos OM]
 refine aB<|aO<|aX J J J J<|aI (aAS x.sf) J<|aD<|aO<|aP<|bP J J<|bR ?_
 refine aH J (λc6=>?_) λc6=>?_
 . 
  have d4:x.sf.length=0\/dG x.sf 64≠0:=by by_cases e:x.sf.length=0; exact .inl e; (rw [if_neg e] at c6; exact .inr c6)
  refine aO<|aP<|aD<|aK ?_
  refine aZ (aM<|iV (if x.sf.length=0 then 19 else dG x.sf 64))<|aF ?_
  . rcases d4 with e|e
    . rw [if_pos e]; rw [lW,if_neg (by simp [d0]),oO,if_neg OM,if_pos e]
    . by_cases e2:x.sf.length=0
      . rw [if_pos e2]; rw [lW,if_neg (by simp [d0]),oO,if_neg OM,if_pos e2]
      . rw [if_neg e2]; rw [lW,if_neg (by simp [d0]),oO,if_neg OM,if_neg e2,if_pos e]
 have d4:x.sf.length≠0/\dG x.sf 64=0:=by by_cases e:x.sf.length=0; (rw [if_pos e] at c6; exact (c6 DE).elim); (rw [if_neg e] at c6; exact ⟨e,OM⟩)
 refine aB<|aO<|aX J J J J<|bA J<|aX J J J J<|bA J<|bP J J<|bR ?_
 refine aH J (λc7=>?_) λc7=>?_
 . 
  refine aO<|aD<|aK ?_
  refine aZ (aM<|iV 1)<|aF ?_
  . rw [lW,if_neg (by simp [d0]),oO,if_neg OM,if_neg OM,if_neg OM,if_pos OM]
 refine aB<|aO<|aD (aG λQ8 n8 x8 y8 z8=>?_)
 refine cC (λmm T H=> ∃ (k:Nat),mm=x.kd.length - k/\T 2=(cG 2)/\T 3=(cG 3)/\T 6=(iV ((k:Nat):Int))/\H 2=(bk 1 47 1 [[(V.sl<|List.map cN t.nd)]])/\H 3=(bk 1 108 5 [(cN x)])/\(k<=x.kd.length)/\(x.ou.length=x.kd.length)/\(x.ac.length=0)/\(x.sf.length≠0)/\(dG x.sf 64=0)/\(∀ j,j < k->chE x t.nd.length j=0)/\(fe (chE x t.nd.length) 0 x.ou.length=fe (chE x t.nd.length) k (x.ou.length - k))) ?_ ?_
 . 
  refine ⟨_,0,J,J,J,(bL (aM<|iV 0) J),J,J,?_,?_,?_,?_,?_,?_,?_⟩
  . omega
  . omega
  . omega
  . omega
  . omega
  . intro j hj; omega
  . rfl
 intro mm T H ⟨k,hmm,t2,t3,t6,h2,h3,hk,hl,ga,gs,gw,hp,hc⟩ Q9 p19 p29 p39;refine aO<|aJ t6<|aX t3 h3 J J<|bA J<|bZ J J<|bR ?_
 refine aH J (λc10=>?_) λc10=>?_
 . 
  refine aB (aG λQ11 n11 x11 y11 z11=>(aO<|aX t3 h3 J J<|aJ t6<|dA (i:=k) (aM<|aC x.ou) (cO k)<|aL J J<|aX t3 h3 J J<|aI (oU (aA x.ou k) x.sf) J<|aD<|aO ?_));refine aP<|bP J J<|bR ?_
  refine aH J (λc12=>?_) λc12=>?_
  . 
   refine aO<|aP<|aD<|aK<|y11 _ _<|p29 _ _<|y8 _ _ ?_
   refine aZ (aM<|iV<|sJ (aA x.ou k) x.sf)<|aF ?_
   . rw [lW,if_neg (by simp [d0]),oO,if_neg OM,if_neg OM,if_neg OM,if_neg OM,hc,fV (by rw [chE,if_pos OM]; omega) OM,chE,if_pos OM]
  refine aB<|aO<|aD (aG λQ13 n13 x13 y13 z13=>?_)
  refine cC (λmm T H=> ∃ (j:Nat),mm=k - j/\T 2=(cG 2)/\T 3=(cG 3)/\T 6=(iV ((k:Nat):Int))/\T 8=(iV ((j:Nat):Int))/\H 2=(bk 1 47 1 [[(V.sl<|List.map cN t.nd)]])/\H 3=(bk 1 108 5 [(cN x)])/\(j<=k)/\(∀ i,i < j->cY (aA x.ou i) (aA x.ou k) < 0)) ?_ ?_
  . 
   refine ⟨_,0,J,t2,t3,t6,(bL (aM<|iV 0) J),h2,h3,?_,?_⟩
   . omega
   . intro i hi; omega
  intro mm T H ⟨j,hmm,t2,t3,t6,t8,h2,h3,hj,hq⟩ Q14 p114 p214 p314;refine aO<|aJ t8<|aJ t6<|bZ J J<|bR ?_
  refine aH J (λc15=>?_) λc15=>?_
  . 
   refine aB (aG λQ16 n16 x16 y16 z16=>(aW<|aX t3 h3 J J<|aJ t8<|dA (i:=j) (aM<|aC x.ou) (cO j)<|aL J J<|aX t3 h3 J J<|aJ t6<|dA (i:=k) (aM<|aC x.ou) (cO k)<|aL J J<|aI (aAw (aA x.ou j)<|aA x.ou k) J<|iC J J<|bR ?_));refine fN J (λc17=>?_) λc17=>?_
   . 
    have d5:=aPn (x:=x) (n:=t.nd.length) (k:=k) (j:=j) OM OM OM hp;refine aW<|aD<|bF<|y16 _ _<|p214 _ _<|y13 _ _<|y11 _ _<|p29 _ _<|y8 _ _ ?_
    refine aZ (aM<|iV 10)<|aF ?_
    . rw [lW,if_neg (by simp [d0]),oO,if_neg OM,if_neg OM,if_neg OM,if_neg OM,hc,fV (by rw [d5]; decide) OM,d5]
   refine dH<|n16 _ _ (.done (eI<|aJ t8<|cF J<|aD ?_))
   refine p114 _ _ _ ?_ ⟨(j+1),J,t2,t3,t6,(bL (cO<|j+1) JR),h2,h3,?_,?_⟩
   . omega
   . omega
   . intro i hi
     by_cases e:i=j
     . subst e; omega
     . exact hq i OM
  refine aT<|p314 _ _ _<|x13 _ _ (.done (aW<|aX t3 h3 J J<|aJ t6<|dA (i:=k) (aM<|aE x.kd) (cO k)<|aL J J<|bZ J J<|aP ?_))
  refine bU 10 (λT H=>T 2=(cG 2)/\T 3=(cG 3)/\T 6=(iV ((k:Nat):Int))/\T 98=(V.bool<|decide (((aA x.kd k) < (0:Int))\/(((t.nd.length:Nat):Int)<=(aA x.kd k))))/\H 2=(bk 1 47 1 [[(V.sl<|List.map cN t.nd)]])/\H 3=(bk 1 108 5 [(cN x)])/\True) ?_ ?_
  . 
   by_cases g18:(aA x.kd k) < (0:Int)
   . 
    refine bW (bY g18 J)<|bW (bY g18 J)<|bW (bY g18 J)<|bW (bY g18 J)<|bW (bY g18 J)<|bW (bY g18 J)<|bW (bY g18 J)<|bW (bY g18 J)<|bW (bY g18 J)<|bV (bY g18 J) J ?_
    exact ⟨t2,t3,t6,(dZ g18),h2,h3,trivial⟩
   . 
    refine aN (bX g18 J)<|cM t3 h3<|aN (bX g18 J)<|aV J h3 J J<|aN (bX g18 J)<|aJ t6<|aN (bX g18 J)<|dA (i:=k) (aM<|aE x.kd) (cO k)<|aN (bX g18 J)<|aL J J<|aN (bX g18 J)<|cM t2 h2<|aN (bX g18 J)<|aV J h2 J J<|aN (bX g18 J)<|bA J ?_
    refine aN (bX g18 J)<|iC J J<|bT (bX g18 J) J ?_
    exact ⟨t2,t3,t6,(dX g18),h2,h3,trivial⟩
  intro T H ⟨t2,t3,t6,t98,h2,h3,_⟩;refine bR ?_;refine fN t98 (λc19=>?_) λc19=>?_
  . 
   skip;refine aW<|aD<|bF<|y11 _ _<|p29 _ _<|y8 _ _ ?_
   refine aZ (aM<|iV 2)<|aF ?_
   . have e:chE x t.nd.length k=2:=by rw [chE,if_neg OM,if_neg (by rintro ⟨q1,q2⟩; have:=hq (k - 1) OM; omega),if_pos OM]
     rw [lW,if_neg (by simp [d0]),oO,if_neg OM,if_neg OM,if_neg OM,if_neg OM,hc,fV (by rw [e]; decide) OM,e]
  have dz:chE x t.nd.length k=0:=by rw [chE,if_neg OM,if_neg (by rintro ⟨q1,q2⟩; have:=hq (k - 1) OM; omega),if_neg OM]
  refine dH<|n11 _ _ (.done (eI<|aJ t6<|cF J<|aD ?_))
  refine p19 _ _ _ ?_ ⟨(k+1),J,t2,t3,(bL (cO<|k+1) JR),h2,h3,?_,?_,?_,?_,?_,?_,?_⟩
  . omega
  . omega
  . omega
  . omega
  . omega
  . omega
  . intro i hi
    by_cases e:i=k
    . subst e; exact dz
    . exact hp i OM
  . rw [hc,fW dz OM]
 refine aT<|p39 _ _ _<|x8 _ _ (.done (aW<|aD<|bF ?_))
 refine aZ (aM<|iV 0)<|aF ?_
 . rw [lW,if_neg (by simp [d0]),oO,if_neg OM,if_neg OM,if_neg OM,if_neg OM,hc,iM OM]
end
section
open Go Go.Proofs
attribute [local irreducible] aBJ
theorem aGV (t:Dt) (hk:KI t) (hb:Bd t):bK Tryz.prog 172 [(V.agg [(V.sl (List.map cN t.nd))])] (V.bool (whB t)):=by
 refine' pK [14] [⟨7,[0,1,2,3,4,5,6,7,8,9],[6],[]⟩] Tryz.func172 ?e λhB=>?_
 case e=>conv=>lhs; cbv
 dsimp only;have hp:=hk.pos;have hbn:=hb.n;refine aW<|bS (i:=1) (n:=0) (m:=1) (cs:=[(V.sl<|List.map cN t.nd)]) J (cE J) J J J<|aD<|aW<|aX J J J J<|bA J<|aD6 (i:=11) (n:=0) (m:=t.nd.length) (q:=t.nd.length) (f:=cB) (x:=false) J (cE J) (cO t.nd.length) (cO t.nd.length) J OM OM OM<|aD<|aW<|aP<|dC (i:=0) (aM<|V.ms 11 1 0 t.nd.length) (cO 0) (@J Blk<|bk 1 4 1<|List.map cB<|List.replicate t.nd.length false) oB J OM<|dU (vs:=[(V.bool true)]) (B':=(bk 1 4 1<|List.map cB<|(List.replicate t.nd.length false).set 0 true)) J J J (@J Blk<|bk 1 4 1<|List.map cB<|List.replicate t.nd.length false) (iQ (x:=true) (i:=0) (by (simp only [List.length_replicate]; omega)) J J J J)<|bR ?_
 refine aW<|gE (i:=14) (n:=0) (qs:=[(0,(iV 0))]) (rows:=[[(iV 0)]]) J (cE J) (cZ (congrArg (λv=>(0,v)) J) J) J<|aD<|aO<|aD (aG λQ1 n1 x1 y1 z1=>?_)
 refine cC (λmm T H=> ∃ (k:Nat) (w:Nat) (P:RS) (v6:Nat),mm=t.nd.length - k/\T 1=(cG 1)/\T 3=(V.ms 11 1 0 t.nd.length)/\T 4=(V.ms 14 w 0 P.1.length)/\T 5=(iV ((k:Nat):Int))/\H 1=(bk 1 47 1 [[(V.sl<|List.map cN t.nd)]])/\((H 6).ver=v6/\(H 6).live=false)/\H 11=(bk 1 4 1<|List.map cB P.2)/\H 14=(bk w 3 1<|List.map cI P.1)/\(k<=P.1.length)/\(WI t P)/\(whN t t.nd.length 0 (wh0 t)=whN t (t.nd.length - k) k P)) ?_ ?_
 . 
  refine ⟨_,0,1,(wh0 t),0,J,J,J,(bL (aM<|V.ms 14 1 0 1) JR),(bL (aM<|iV 0) J),J,⟨(cE J),congrArg Blk.live (@J Blk fL)⟩,(bL (@J Blk<|bk 1 4 1<|List.map cB<|(List.replicate t.nd.length false).set 0 true) JR),(bL (@J Blk<|bk 1 3 1 [[(iV 0)]]) JR),?_,?_,?_⟩
  . exact Nat.zero_le _
  . exact wi0 hk
  . rfl
 intro mm T H ⟨k,w,P,v6,hmm,t1,t3,t4,t5,h1,h6,h11,h14,hk2,hi,hc⟩ Q2 p12 p22 p32;have hi1:=hi.len;refine aO<|aJ t5<|aJ t4<|dW J h14 SI<|bZ J J<|bR ?_
 refine aH J (λc3=>?_) λc3=>?_
 . 
  have r1:=hi.rg _<|cW (show k < P.1.length by omega)
  have r3:=hb.kd _ (show (aA P.1 k).toNat < t.nd.length by omega);refine aB (aG λQ4 n4 x4 y4 z4=>(W_d (by exact (oP h6.2 qQ))<|aX t1 h1 J J<|aJ t4<|aJ t5<|dC (i:=k) (aM<|V.ms 14 w 0 P.1.length) (cO k) h14 oB J OM<|cQ (v:=(iV<|aA P.1 k)) J h14 (dS OM JR)<|dR (i:=(aA P.1 k)) (aM<|V.sl<|List.map cN t.nd) (aM<|iV<|aA P.1 k) OM OM J<|aL J J<|bM (i:=6) (n:=v6) (m:=5) J h6.1 J<|bQ J J J J J J J J J<|qV<|aP ?_));refine bR (fZ λQ5 n5 x5 y5 z5=>?_);refine cC (λmm T H=> ∃ (j:Nat) (w2:Nat) (Q:RS),mm=(aA t.nd (aA P.1 k).toNat).kd.length - j/\T 1=(cG 1)/\T 3=(V.ms 11 1 0 t.nd.length)/\T 4=(V.ms 14 w2 0 Q.1.length)/\T 5=(iV ((k:Nat):Int))/\T 6=(V.mp 6 (v6+1) 0 0)/\T 7=(iV ((j:Nat):Int))/\H 1=(bk 1 47 1 [[(V.sl<|List.map cN t.nd)]])/\H 6=(bk (v6+1) 108 5 [(cN<|aA t.nd (aA P.1 k).toNat)])/\H 11=(bk 1 4 1<|List.map cB Q.2)/\H 14=(bk w2 3 1<|List.map cI Q.1)/\(j<=(aA t.nd (aA P.1 k).toNat).kd.length)/\(k < Q.1.length)/\(WI t Q)/\(whN t t.nd.length 0 (wh0 t)=(whI Q<|(aA t.nd (aA P.1 k).toNat).kd.drop j).bind (whN t (t.nd.length - (k+1))<|k+1))) ?_ ?_
  . 
   refine ⟨_,0,w,P,J,t1,t3,t4,t5,J,(bL (aM<|iV 0) J),h1,J,h11,h14,?_,?_,?_,?_⟩
   . omega
   . omega
   . exact hi
   . rw [hc,aP8 OM OM]; rfl
  intro mm T H ⟨j,w2,Q,hmm,t1,t3,t4,t5,t6,t7,h1,h6,h11,h14,hj,hk3,hiq,hc2⟩ Q6 p16 p26 p36;have hi2:=hiq.len;refine aO<|aJ t7<|aX t6 h6 J J<|bA J<|bZ J J<|bR ?_
  refine aH J (λc7=>?_) λc7=>?_
  . 
   have r2:=hk.rng _ (show (aA P.1 k).toNat < t.nd.length by omega) _<|cW (show j < (aA t.nd (aA P.1 k).toNat).kd.length by omega)
   refine aB (aG λQ8 n8 x8 y8 z8=>(aO<|aJ t3<|aX t6 h6 J J<|aJ t7<|dA (i:=j) (aM<|aE<|(aA t.nd (aA P.1 k).toNat).kd) (cO j)<|aL J J<|dV (i:=(aA ((aA t.nd (aA P.1 k).toNat).kd) j)) (aM<|V.ms 11 1 0 t.nd.length) (aM<|iV<|aA ((aA t.nd (aA P.1 k).toNat).kd) j) h11 oB J OM OM<|cQ (v:=(V.bool<|aA Q.2<|(aA ((aA t.nd (aA P.1 k).toNat).kd) j).toNat)) J h11 (dS OM JR)<|bR ?_));refine cU J (λc9=>?_) (λc9=>?_)
   . 
    have d2:aA Q.2 (aA (aA t.nd (aA P.1 k).toNat).kd j).toNat=true:=c9;refine aO<|aD<|aK<|y8 _ _<|p26 _ _<|y5 _ _<|y4 _ _<|p22 _ _<|y1 _ _ ?_
    refine aZ (aM<|V.bool false)<|cH ?_
    . rw [aK0 (by rw [hc2,aMq OM d2]; rfl)]
   have d2:aA Q.2 (aA (aA t.nd (aA P.1 k).toNat).kd j).toNat=false:=by simpa using c9
   refine aB<|aW<|aJ t3<|aX t6 h6 J J<|aJ t7<|dA (i:=j) (aM<|aE<|(aA t.nd (aA P.1 k).toNat).kd) (cO j)<|aL J J<|dV (i:=(aA ((aA t.nd (aA P.1 k).toNat).kd) j)) (aM<|V.ms 11 1 0 t.nd.length) (aM<|iV<|aA ((aA t.nd (aA P.1 k).toNat).kd) j) h11 oB J OM OM<|dU (vs:=[(V.bool true)]) (B':=(bk 1 4 1<|List.map cB<|Q.2.set ((aA ((aA t.nd (aA P.1 k).toNat).kd) j).toNat) true)) J J J h11 (iQ (x:=true) (i:=((aA ((aA t.nd (aA P.1 k).toNat).kd) j).toNat)) OM J J J J)<|bR<|eI<|aJ t4<|aX t6 h6 J J<|aJ t7 ?_
   refine dA (i:=j) (aM<|aE<|(aA t.nd (aA P.1 k).toNat).kd) (cO j)<|aL J J<|aS J J<|eX (l:=Q.1) (f:=cI) (x:=(aA ((aA t.nd (aA P.1 k).toNat).kd) j)) (aM<|V.ms 14 w2 0 Q.1.length) h14 JR (aM<|V.sl [[(iV<|aA ((aA t.nd (aA P.1 k).toNat).kd) j)]])<|aD<|n8 _ _ (.done (eI<|aJ t7<|cF J<|aD ?_))
   refine p16 _ _ _ ?_ ⟨(j+1),(w2+1),(wS Q<|aA (aA t.nd (aA P.1 k).toNat).kd j),J,t1,t3,(bL (aM<|V.ms 14 (w2+1) 0<|Q.1.length+1) (by (rw [show (wS Q<|aA (aA t.nd (aA P.1 k).toNat).kd j).1.length=Q.1.length+1 by simp [wS]]; done))),t5,t6,(bL (cO<|j+1) JR),h1,h6,(bL (@J Blk<|bk 1 4 1<|List.map cB<|Q.2.set ((aA ((aA t.nd (aA P.1 k).toNat).kd) j).toNat) true) JR),(bL (@J Blk<|bk (w2+1) 3 1<|List.map cI<|Q.1++[(aA ((aA t.nd (aA P.1 k).toNat).kd) j)]) JR),?_,?_,?_,?_⟩
   . omega
   . omega
   . show k < (Q.1++_).length; rw [List.length_append]; omega
   . exact hiq.step r2.1 r2.2 d2
   . rw [hc2,aOT OM d2]
  refine aT<|p36 _ _ _<|x5 _ _<|n4 _ _ ?_
  refine .freeze 6 (.done ?_);refine eI<|aJ (bB t5 J)<|cF J<|aD ?_
  refine p12 _ _ _ ?_ ⟨(k+1),w2,Q,(v6+1),J,(bB t1 J),(bB t3<|eE DE),(bB t4<|eE DE),(bL (cO<|k+1) JR),(aR (id:=6) h1 DE),(gH<|cE h6),(aR (id:=6) h11 DE),(aR (id:=6) h14 DE),?_,?_,?_⟩
  . omega
  . omega
  . exact hiq
  . rw [hc2,aNA OM]; rfl
 refine aT<|p32 _ _ _<|x1 _ _ (.done (aW<|aJ t4<|dW J h14 SI<|aX t1 h1 J J<|bA J<|eV J J<|aD<|bF ?_))
 refine aZ (aM<|V.bool<|decide (((P.1.length:Nat):Int)=((t.nd.length:Nat):Int)))<|cH ?_
 . rw [aJ3 (by rw [hc]; exact aO2 OM)]; exact decide_eq_decide.2 OM
end
section
open Go Go.Proofs
theorem oX (t:Dt) (hb:Bd t):bK Tryz.prog 121 [(V.agg [(V.sl (List.map cN t.nd))])] (iV (gU t)):=by
 refine' pK [] [] Tryz.func121 ?e λhB=>?_
 case e=>conv=>lhs; cbv
 dsimp only;refine aW<|bS (i:=1) (n:=0) (m:=1) (cs:=[(V.sl<|List.map cN t.nd)]) J (cE J) J J J<|aD<|aO<|aX J J J J<|bA J<|eV J J<|bR ?_
 refine aH J (λc1=>?_) λc1=>?_
 . 
  refine aO<|aD<|aK ?_
  refine aZ (aM<|iV 19)<|aF ?_
  . rw [gU,if_pos OM]
 refine aB<|aO<|aX J J J J<|bA J<|eD J J<|bR ?_
 refine aH J (λc2=>?_) λc2=>?_
 . 
  refine aO<|aD<|aK ?_
  refine aZ (aM<|iV 11)<|aF ?_
  . rw [gU,if_neg OM,if_pos OM]
 refine aB<|aO<|aD (aG λQ3 n3 x3 y3 z3=>?_)
 refine cC (λmm T H=> ∃ (k:Nat),mm=t.nd.length - k/\T 1=(cG 1)/\T 3=(iV ((k:Nat):Int))/\H 1=(bk 1 47 1 [[(V.sl<|List.map cN t.nd)]])/\(k<=t.nd.length)/\(0 < t.nd.length)/\(t.nd.length<=4096)/\(∀ j,j < k->lW (aA t.nd j) t.nd.length=0)/\(fe (λk=>lW (aA t.nd k) t.nd.length) 0 t.nd.length=fe (λk=>lW (aA t.nd k) t.nd.length) k (t.nd.length - k))) ?_ ?_
 . 
  refine ⟨_,0,J,J,(bL (aM<|iV 0) J),J,?_,?_,?_,?_,?_⟩
  . omega
  . omega
  . omega
  . intro j hj; omega
  . rfl
 intro mm T H ⟨k,hmm,t1,t3,h1,hk,g0,g1,hp,hc⟩ Q4 p14 p24 p34;refine aO<|aJ t3<|aX t1 h1 J J<|bA J<|bZ J J<|bR ?_
 refine aH J (λc5=>?_) λc5=>?_
 . 
  have r2:=hb.ou k OM;have r3:=hb.kd k OM;refine aB (aG λQ6 n6 x6 y6 z6=>(aW<|aV t1 h1 J J<|aX t1 h1 J J<|aJ t3<|dA (i:=k) (aM<|V.sl<|List.map cN t.nd) (cO k)<|aL J J<|aI (aGc t (aA t.nd k) OM OM) J<|aD<|aW<|aP<|bP J J<|bR ?_));refine fN J (λc7=>?_) λc7=>?_
  . 
   have d1:lW (aA t.nd k) t.nd.length≠0:=c7;refine aW<|aP<|aD<|bF<|y6 _ _<|p24 _ _<|y3 _ _ ?_
   refine aZ (aM<|iV<|lW (aA t.nd k) t.nd.length)<|aF ?_
   . have e:fe (λk=>lW (aA t.nd k) t.nd.length) 0 t.nd.length=lW (aA t.nd k) t.nd.length:=by rw [hc]; exact fV (e:=λk=>lW (aA t.nd k) t.nd.length) d1 OM
     rw [gU,if_neg OM,if_neg OM,if_pos (by rw [e]; exact d1),e]
  have d1:lW (aA t.nd k) t.nd.length=0:=OM
  refine dH<|n6 _ _ (.done (eI<|aJ t3<|cF J<|aD ?_))
  refine p14 _ _ _ ?_ ⟨(k+1),J,t1,(bL (cO<|k+1) JR),h1,?_,?_,?_,?_,?_⟩
  . omega
  . omega
  . omega
  . omega
  . intro i hi
    by_cases e:i=k
    . subst e; exact d1
    . exact hp i OM
  . rw [hc,fW (e:=λk=>lW (aA t.nd k) t.nd.length) (by exact d1) OM]
 have hall: ∀ j,j < t.nd.length->lW (aA t.nd j) t.nd.length=0:=λj hj=>hp j OM
 have hki:KI t:=aEa g0 hall;have hz:fe (λk=>lW (aA t.nd k) t.nd.length) 0 t.nd.length=0:=by rw [hc,iM OM]
 have haw: ∀ w∈eP t.nd,w.length<=1048576:=aBU hb;have hal:=jS t.nd;refine aT<|p34 _ _ _<|x3 _ _ (.done (aO<|aV t1 h1 J J<|aI (aGV t hki hb) J<|fF J<|bR ?_))
 refine cU J (λc8=>?_) (λc8=>?_)
 . 
  have d3:whB t=false:=by simpa using c8
  refine aO<|aD<|aK ?_
  refine aZ (aM<|iV 1)<|aF ?_
  . rw [gU,if_neg OM,if_neg OM,if_neg (by rw [hz]; simp),if_pos d3]
 have d3:whB t=true:=by simpa using c8
 refine aB<|aW<|aV t1 h1 J J<|aI (jC t hb) J<|aD<|aO<|aP<|aI (oW (eP t.nd) OM haw) J<|bA J<|aP<|bA J<|bP J J<|bR ?_
 refine aH J (λc9=>?_) λc9=>?_
 . 
  refine aO<|aD<|aK ?_
  refine aZ (aM<|iV 7)<|aF ?_
  . rw [gU,if_neg OM,if_neg OM,if_neg (by rw [hz]; simp),if_neg (by simp [d3]),if_pos OM]
 refine aB<|aW<|aD<|bF ?_
 refine aZ (aM<|iV 0)<|aF ?_
 . rw [gU,if_neg OM,if_neg OM,if_neg (by rw [hz]; simp),if_neg (by simp [d3]),if_neg OM]
theorem aDe (l:List (List Int)) (w:List Int):bK Tryz.prog 170 [(aC l),(aE w)] (V.bool (decide (w∈l))):=by
 refine' pK [] [] Tryz.func170 ?e λhB=>?_
 case e=>conv=>lhs; cbv
 dsimp only;refine aW<|aD<|aO<|aD (aG λQ1 n1 x1 y1 z1=>?_)
 refine cC (λmm T H=> ∃ (k:Nat),mm=l.length - k/\T 0=(aC l)/\T 1=(aE w)/\T 5=(iV ((k:Nat):Int))/\(k<=l.length)/\(∀ j,j < k->aA l j≠w)) ?_ ?_
 . 
  refine ⟨_,0,J,J,J,(bL (aM<|iV 0) J),?_,?_⟩
  . omega
  . intro j hj; omega
 intro mm T H ⟨k,hmm,t0,t1,t5,hk,hc⟩ Q2 p12 p22 p32;refine aO<|aJ t5<|aJ t0<|bA J<|bZ J J<|bR ?_
 refine aH J (λc3=>?_) λc3=>?_
 . 
  refine aB (aG λQ4 n4 x4 y4 z4=>(aW<|aJ t0<|aJ t5<|dA (i:=k) (aM<|aC l) (cO k)<|aL J J<|aJ t1<|aI (lN (aA l k) w) J<|bR ?_));refine fN J (λc5=>?_) λc5=>?_
  . 
   have d1:=c5;refine aW<|aD<|bF<|y4 _ _<|p22 _ _<|y1 _ _ ?_
   refine aZ (aM<|V.bool true)<|cH ?_
   . exact (decide_eq_true<|d1 ▸ cW OM).symm
  have d1:=c5;refine dH<|n4 _ _ (.done (eI<|aJ t5<|cF J<|aD ?_))
  refine p12 _ _ _ ?_ ⟨(k+1),J,t0,t1,(bL (cO<|k+1) JR),?_,?_⟩
  . omega
  . omega
  . intro j hj
    by_cases e:j=k
    . subst e; exact d1
    . exact hc j OM
 refine aT<|p32 _ _ _<|x1 _ _ (.done (aW<|aD<|bF ?_))
 refine aZ (aM<|V.bool false)<|cH ?_
 . exact (decide_eq_false (λe=>by obtain ⟨j,hj,q⟩:=lX e; exact hc j OM q)).symm
theorem aFo (l:Ts) (hb:Bd l.t):bK Tryz.prog 118 [(V.agg [(iV l.i),(V.sl (List.map cN l.t.nd))])] (iV (vC l)):=by
 refine' pK [] [] Tryz.func118 ?e λhB=>?_
 case e=>conv=>lhs; cbv
 dsimp only;refine aW<|bS (i:=1) (n:=0) (m:=2) (cs:=[(iV l.i),(V.sl<|List.map cN l.t.nd)]) J (cE J) J J J<|aD<|aO<|aX J J J J<|bZ J J<|aP ?_
 refine bU 4 (λT H=>T 1=(cG 1)/\T 15=(V.bool<|decide ((l.i < (1:Int))\/((64:Int) < l.i)))/\H 1=(bk 1 49 2 [[(iV l.i),(V.sl<|List.map cN l.t.nd)]])/\True) ?_ ?_
 . 
  by_cases g1:l.i < (1:Int)
  . 
   refine bW (bY g1 J)<|bW (bY g1 J)<|bW (bY g1 J)<|bV (bY g1 J) J ?_
   exact ⟨J,(dZ g1),J,trivial⟩
  . 
   refine aN (bX g1 J)<|cM J J<|aN (bX g1 J)<|aV J J J J<|aN (bX g1 J)<|eD J J<|bT (bX g1 J) J ?_
   exact ⟨J,(dX g1),J,trivial⟩
 intro T H ⟨t1,t15,h1,_⟩;refine bR ?_;refine aH t15 (λc2=>?_) λc2=>?_
 . 
  refine aO<|aD<|aK ?_
  refine aZ (aM<|iV 2)<|aF ?_
  . unfold vC; rw [if_pos OM]
 refine aB<|aO<|aX t1 h1 J J<|aI (oX l.t hb) J<|aD<|aO<|aP<|bP J J<|bR ?_
 refine aH J (λc3=>?_) λc3=>?_
 . 
  refine aO<|aP<|aD<|aK ?_
  refine aZ (aM<|iV<|gU l.t)<|aF ?_
  . unfold vC; rw [if_neg OM,if_pos (by assumption)]
 have hv:gU l.t=0:=OM
 have hbn:=hb.n;refine aB<|aO<|aD (aG λQ4 n4 x4 y4 z4=>?_)
 refine cC (λmm T H=> ∃ (k:Nat),mm=l.t.nd.length - k/\T 1=(cG 1)/\T 4=(iV ((k:Nat):Int))/\H 1=(bk 1 49 2 [[(iV l.i),(V.sl<|List.map cN l.t.nd)]])/\(k<=l.t.nd.length)/\(gU l.t=0)/\(1<=l.i/\l.i<=64)/\(fe (tR l) 0 l.t.nd.length=fe (tR l) k (l.t.nd.length - k))) ?_ ?_
 . 
  refine ⟨_,0,J,t1,(bL (aM<|iV 0) J),h1,?_,?_,?_,?_⟩
  . omega
  . omega
  . omega
  . rfl
 intro mm T H ⟨k,hmm,t1,t4,h1,hk,hv,hr,hc⟩ Q5 p15 p25 p35;refine aO<|aJ t4<|cM t1 h1<|aX J h1 J J<|bA J<|bZ J J<|bR ?_
 refine aH J (λc6=>?_) λc6=>?_
 . 
  refine aB (aG λQ7 n7 x7 y7 z7=>(aO<|cM t1 h1<|aX J h1 J J<|aJ t4<|dA (i:=k) (aM<|V.sl<|List.map cN l.t.nd) (cO k)<|dB (cs':=(List.drop 1<|cN<|aA l.t.nd k)) J J<|aL J J<|aX t1 h1 J J<|aI (fX ((aA l.t.nd k).ac) l.i) J<|aD ?_));refine aO<|aP<|bP J J<|bR ?_
  refine aH J (λc8=>?_) λc8=>?_
  . 
   have d1:tR l k=dG (aA l.t.nd k).ac l.i:=by unfold tR; rw [if_pos c8]
   refine aO<|aP<|aD<|aK<|y7 _ _<|p25 _ _<|y4 _ _ ?_
   refine aZ (aM<|iV<|dG ((aA l.t.nd k).ac) l.i)<|aF ?_
   . unfold vC; rw [if_neg OM,if_neg OM,if_pos (by rw [hc,fV (e:=tR l) (by rw [d1]; assumption) OM,d1]; assumption),hc,fV (e:=tR l) (by rw [d1]; assumption) OM,d1]
  have d0:=c8;refine aB<|aW<|cM t1 h1<|aX J h1 J J<|aJ t4<|dA (i:=k) (aM<|V.sl<|List.map cN l.t.nd) (cO k)<|dB (cs':=(List.drop 2<|cN<|aA l.t.nd k)) J J<|aL J J<|aX t1 h1 J J<|aI (fX ((aA l.t.nd k).sf) l.i) J<|aD<|aW<|aP ?_
  refine bP J J<|bR ?_
  refine fN J (λc9=>?_) λc9=>?_
  . 
   have d1:tR l k=dG (aA l.t.nd k).sf l.i:=by unfold tR; rw [if_neg d0]
   refine aW<|aP<|aD<|bF<|y7 _ _<|p25 _ _<|y4 _ _ ?_
   refine aZ (aM<|iV<|dG ((aA l.t.nd k).sf) l.i)<|aF ?_
   . unfold vC; rw [if_neg OM,if_neg OM,if_pos (by rw [hc,fV (e:=tR l) (by rw [d1]; assumption) OM,d1]; assumption),hc,fV (e:=tR l) (by rw [d1]; assumption) OM,d1]
  have d2:tR l k=0:=by unfold tR; rw [if_neg d0]; omega
  refine dH<|n7 _ _ (.done (eI<|aJ t4<|cF J<|aD ?_))
  refine p15 _ _ _ ?_ ⟨(k+1),J,t1,(bL (cO<|k+1) JR),h1,?_,?_,?_,?_⟩
  . omega
  . omega
  . omega
  . omega
  . rw [hc,fW (e:=tR l) d2 OM]
 refine aT<|p35 _ _ _<|x4 _ _ (.done (aW<|aX t1 h1 J J<|aI (jC l.t hb) J<|aD<|aO<|aP<|jN (bO (aM<|aC<|eP l.t.nd)<|bO (aM V.nilsl) dQ) (aDe (eP l.t.nd)<|[]) (cZ (dM 6 _ (by simp [-List.map_take,-List.map_drop,-List.map_append,-List.map_reverse]))<|cZ JR J) (by simp [-List.map_take,-List.map_drop,-List.map_append,-List.map_reverse]) (Or.inl (by simp [-List.map_take,-List.map_drop,-List.map_append,-List.map_reverse]))<|qT J<|bR ?_))
 refine aH J (λc10=>?_) λc10=>?_
 . 
  have hz:fe (tR l) 0 l.t.nd.length=0:=by rw [hc,iM OM]
  have d3:[]∉eP l.t.nd:=by simpa using c10
  refine aO<|aD<|aK ?_
  refine aZ (aM<|iV 1)<|aF ?_
  . unfold vC; rw [if_neg OM,if_neg OM,if_neg OM,if_pos d3]
 have hz:fe (tR l) 0 l.t.nd.length=0:=by rw [hc,iM OM]
 have d3: ¬([]∉eP l.t.nd):=by simpa using c10
 refine aB<|aO<|aP<|bA J<|eD J J<|bR ?_
 refine aH J (λc11=>?_) λc11=>?_
 . 
  refine aO<|aD<|aK ?_
  refine aZ (aM<|iV 11)<|aF ?_
  . unfold vC; rw [if_neg OM,if_neg OM,if_neg OM,if_neg d3,if_pos OM]
 refine aB<|aW<|aD<|bF ?_
 refine aZ (aM<|iV 0)<|aF ?_
 . unfold vC; rw [if_neg OM,if_neg OM,if_neg OM,if_neg d3,if_neg OM]
theorem rI (l:Ts) (o:Ob) (hb:Bd l.t):bK Tryz.prog 70 [(V.agg [(iV l.i),(V.sl (List.map cN l.t.nd))]),(V.agg [(iV o.i),(V.sl (List.map cT o.tr))])] (iV (jL l o)):=by
 refine' pK [] [] Tryz.func70 ?e λhB=>?_
 case e=>conv=>lhs; cbv
 dsimp only;refine aW<|bS (i:=2) (n:=0) (m:=2) (cs:=[(iV l.i),(V.sl<|List.map cN l.t.nd)]) J (cE J) J J J<|bS (i:=3) (n:=0) (m:=2) (cs:=[(iV o.i),(V.sl<|List.map cT o.tr)]) J (cE J) J J J<|aD<|aO<|aV J J J J<|aI (aFo l hb) J<|aD<|aO<|aP<|bP J J<|bR ?_
 refine aH J (λc1=>?_) λc1=>?_
 . 
  refine aO<|aP<|aD<|aK ?_
  refine aZ (aM<|iV<|vC l)<|aF ?_
  . unfold jL; rw [if_pos (by assumption)]
 refine aB<|aO<|aX J J J J<|aX J J J J<|bP J J<|bR ?_
 refine aH J (λc2=>?_) λc2=>?_
 . 
  refine aO<|aD<|aK ?_
  refine aZ (aM<|iV 15)<|aF ?_
  . unfold jL; rw [if_neg OM,if_pos (by assumption)]
 refine aB<|aW<|aD<|bF ?_
 refine aZ (aM<|iV 0)<|aF ?_
 . unfold jL; rw [if_neg OM,if_neg OM]
theorem aB8 (l:Ts) (hb:Bd l.t) (h:vC l=0):bK Tryz.prog 72 [(V.agg [(iV l.i),(V.sl (List.map cN l.t.nd))])] (aC (dD l)):=by
 refine' pK [4] [] Tryz.func72 ?e λhB=>?_
 case e=>conv=>lhs; cbv
 dsimp only;obtain ⟨hi1,hi2,hv,hw0,_,hl0⟩:=tL h;have hbn:=hb.n;have hal:=jS l.t.nd;have hsl:=yV<|eP l.t.nd
 have hxl:=aLW hv;have hfw:=aMC h;refine aW<|bS (i:=1) (n:=0) (m:=2) (cs:=[(iV l.i),(V.sl<|List.map cN l.t.nd)]) J (cE J) J J J<|aD<|aW<|aX J J J J<|aI (jC l.t hb) J<|aI (oW (eP l.t.nd) OM<|aBU hb) J<|aD<|aW<|gG (i:=4) (n:=0) J (cE J)<|tA<|aW ?_
 refine aD (aG λQ1 n1 x1 y1 z1=>?_);refine cC (λmm T H=> ∃ (k:Nat) (v:Nat) (n:Nat),mm=(fB<|eP l.t.nd).length - k/\T 1=(cG 1)/\T 3=(aC<|fB<|eP l.t.nd)/\T 4=(V.ms 4 v 0 n)/\T 5=(iV ((k:Nat):Int))/\H 1=(bk 1 49 2 [[(iV l.i),(V.sl<|List.map cN l.t.nd)]])/\H 4=(bz v 54 1<|List.map cL<|(dD l).take n)/\(k<=(fB<|eP l.t.nd).length)/\(n=k*l.i.toNat)/\(n<=(dD l).length)) ?_ ?_
 . 
  refine ⟨_,0,1,0,J,J,J,J,(bL (aM<|iV 0) J),J,(bL (@J Blk<|bz 1 54 1 []) JR),?_,?_,?_⟩
  . omega
  . omega
  . omega
 intro mm T H ⟨k,v,n,hmm,t1,t3,t4,t5,h1,h4,hk,hn,hn2⟩ Q2 p12 p22 p32;refine aO<|aJ t5<|aJ t3<|bA J<|bZ J J<|bR ?_
 refine aH J (λc3=>?_) λc3=>?_
 . 
  refine aB (aG λQ4 n4 x4 y4 z4=>(aW<|aD (fZ λQ5 n5 x5 y5 z5=>?_)));refine cC (λmm T H=> ∃ (j:Nat) (w:Nat) (m:Nat),mm=l.i.toNat - j/\T 1=(cG 1)/\T 3=(aC<|fB<|eP l.t.nd)/\T 4=(V.ms 4 w 0 m)/\T 5=(iV ((k:Nat):Int))/\T 6=(iV ((j:Nat):Int))/\H 1=(bk 1 49 2 [[(iV l.i),(V.sl<|List.map cN l.t.nd)]])/\H 4=(bz w 54 1<|List.map cL<|(dD l).take m)/\(j<=l.i.toNat)/\(m=k*l.i.toNat+j)/\(m<=(dD l).length)) ?_ ?_
  . 
   refine ⟨_,0,v,n,J,t1,t3,t4,t5,(bL (aM<|iV 0) J),h1,h4,?_,?_,?_⟩
   . omega
   . omega
   . omega
  intro mm T H ⟨j,w,m,hmm,t1,t3,t4,t5,t6,h1,h4,hj,hm,hm2⟩ Q6 p16 p26 p36;have q2:(k+1)*l.i.toNat<=(fB<|eP l.t.nd).length*l.i.toNat:=Nat.mul_le_mul_right _ OM;rw [Nat.succ_mul] at q2;refine aO<|aJ t6<|aX t1 h1 J J<|bZ J J<|bR ?_
  refine aH J (λc7=>?_) λc7=>?_
  . 
   have d1:aA (dD l) m=bD [aA (fB<|eP l.t.nd) k,[(j:Int)]]:=by rw [hm]; exact aJM hv OM OM
   have r1:(aA (fB<|eP l.t.nd) k).length<=1024:=(zU h (by rw [xD hv]; exact cW OM)).1;refine aB (aG λQ8 n8 x8 y8 z8=>(eI<|aJ t4<|aJ t3<|aJ t5<|dA (i:=k) (aM<|aC<|fB<|eP l.t.nd) (cO k)<|aL J J<|aJ t6<|aS J J<|aS J J<|aI (eB ([(aA (fB<|eP l.t.nd) k),[((j:Nat):Int)]]) (by simp only [bD,List.append_nil,List.length_append,List.length_cons,List.length_nil]; omega)) J<|aS J J<|eX (l:=((dD l).take m)) (f:=cL) (x:=(bD<|[(aA (fB<|eP l.t.nd) k),[((j:Nat):Int)]])) (aM<|V.ms 4 w 0 m) h4 (by (rw [List.length_take]; omega)) (aM<|V.sl [[(aE<|bD<|[(aA (fB<|eP l.t.nd) k),[((j:Nat):Int)]])]])<|aD ?_));refine n8 _ _ (.done (eI<|aJ t6<|cF J<|aD ?_));refine p16 _ _ _ ?_ ⟨(j+1),(w+1),(m+1),J,t1,t3,(bL (aM<|V.ms 4 (w+1) 0<|m+1) JR),t5,(bL (cO<|j+1) JR),h1,(bL (@J Blk<|bz (w+1) 54 1<|List.map cL<|(dD l).take m++[bD ([(aA (fB<|eP l.t.nd) k),[((j:Nat):Int)]])]) (by (rw [cV OM,d1]; done))),?_,?_,?_⟩
   . omega
   . omega
   . omega
   . omega
  refine aT<|p36 _ _ _<|x5 _ _<|n4 _ _ (.done (eI<|aJ t5<|cF J<|aD ?_))
  refine p12 _ _ _ ?_ ⟨(k+1),w,m,J,t1,t3,t4,(bL (cO<|k+1) JR),h1,h4,?_,?_,?_⟩
  . omega
  . omega
  . rw [Nat.succ_mul]; omega
  . omega
 refine aT<|p32 _ _ _<|x1 _ _ (.done (aW<|aJ t4<|aD<|bF ?_))
 refine aZ (aM<|V.ms 4 v 0 n)<|iK h4 SI (l:=((dD l).take n)) J (by (rw [List.length_take]; omega)) (λ_=>by simp) ?_
 . rw [List.take_of_length_le (by rw [hxl,hn,show k=(fB<|eP l.t.nd).length by omega]; exact Nat.le_refl _)]
theorem uR (w p:List Int):bK Tryz.prog 88 [(aE w),(aE p)] (V.bool (hp w p)):=by
 refine' pK [] [] Tryz.func88 ?e λhB=>?_
 case e=>conv=>lhs; cbv
 dsimp only;refine aW<|aD<|aW<|aP<|aP ?_
 have q1:=kX w p;have q2:=mV w p;refine aI (oY w p) J<|aP<|bA J<|eV J J<|aD ?_
 have q3:=kX w p;have q4:=mV w p;refine bF ?_;refine aZ (aM<|V.bool<|decide (((gJ w p:Nat):Int)=((p.length:Nat):Int)))<|cH ?_
 . unfold hp; exact decide_eq_decide.2 OM
theorem kN (o:Ob) (w:List Int) (ho:kS o=0):bK Tryz.prog 119 [(V.agg [(iV o.i),(V.sl (List.map cT o.tr))]),(aE w)] (V.tup [(aE ((eA o w).getD [])),(V.bool ((eA o w).isSome))]):=by
 refine' pK [] [] Tryz.func119 ?e λhB=>?_
 case e=>conv=>lhs; cbv
 dsimp only;have u2:=lD ho;refine aW<|bS (i:=2) (n:=0) (m:=2) (cs:=[(iV o.i),(V.sl<|List.map cT o.tr)]) J (cE J) J J J<|aP<|aD<|aO<|aP<|bA J<|eV J J<|bR ?_
 refine aH J (λc1=>?_) λc1=>?_
 . 
  refine aO<|aP<|aD<|aK ?_
  refine iW (aM V.nilsl) (aM<|V.bool true) (bH ?_)<|cH ?_
  . rw [List.length_eq_zero_iff.1 (show w.length=0 by omega)]; rfl
  . rw [List.length_eq_zero_iff.1 (show w.length=0 by omega)]; rfl
 refine aB<|aO<|aD (aG λQ2 n2 x2 y2 z2=>?_)
 refine cC (λmm T H=> ∃ (k:Nat),mm=o.tr.length - k/\T 1=(aE w)/\T 2=(cG 2)/\T 6=(iV ((k:Nat):Int))/\H 2=(bk 1 31 2 [[(iV o.i),(V.sl<|List.map cT o.tr)]])/\(k<=o.tr.length)/\(w≠[])/\(tO o.tr w=tO (o.tr.drop k) w)) ?_ ?_
 . 
  refine ⟨_,0,J,J,J,(bL (aM<|iV 0) J),J,?_,?_,?_⟩
  . omega
  . intro e; subst e; simp at*
  . rfl
 intro mm T H ⟨k,hmm,t1,t2,t6,h2,hk,hw,hc⟩ Q3 p13 p23 p33;refine aO<|aJ t6<|aX t2 h2 J J<|bA J<|bZ J J<|bR ?_
 refine aH J (λc4=>?_) λc4=>?_
 . 
  refine aB (aG λQ5 n5 x5 y5 z5=>(aW<|aX t2 h2 J J<|aJ t6<|dA (i:=k) (aM<|V.sl<|List.map cT o.tr) (cO k)<|dB (cs':=[(aE<|(aA o.tr k).ni),(aE<|(aA o.tr k).no)]) J J<|aL J J<|aJ t1<|aI (uR ((aA o.tr k).ni) w) J<|bR ?_));refine mJ J (λc6=>?_) (λc6=>?_)
  . 
   have d1:=c6;have d2:=wZ c6;have d3:=(u2.pr k OM).1.len;have d4:=(u2.pr k OM).1.lel;have d5:eA o w=some ((aA o.tr k).no.take w.length):=by rw [eA,if_neg hw,hc,mM OM,tO,if_pos d1]
   refine aW<|aX t2 h2 J J<|aJ t6<|dA (i:=k) (aM<|V.sl<|List.map cT o.tr) (cO k)<|dB (cs':=[(aE<|(aA o.tr k).no)]) J J<|aL J J<|aJ t1<|bA J<|nA (n:=w.length) (aM<|aE<|(aA o.tr k).no) (cO w.length) OM (λ_=>J)<|aS J J<|aI (eB ([List.take w.length ((aA o.tr k).no)]) (by simp [bD]; omega)) J<|aP<|aD<|bF ?_
   refine y5 _ _<|p23 _ _<|y2 _ _ ?_
   refine iW (aM<|aE<|bD<|[List.take w.length ((aA o.tr k).no)]) (aM<|V.bool true) (cA ?_ (λ_=>by simp))<|cH ?_
   . rw [d5]; simp [bD]
   . rw [d5]; rfl
  have d1:=c6;refine dH<|n5 _ _ (.done (eI<|aJ t6<|cF J<|aD ?_))
  refine p13 _ _ _ ?_ ⟨(k+1),J,t1,t2,(bL (cO<|k+1) JR),h2,?_,?_,?_⟩
  . omega
  . omega
  . omega
  . rw [hc,mM OM,tO,if_neg (by simp [d1])]
 refine aT<|p33 _ _ _<|x2 _ _ (.done (aW<|aP<|aD<|bF ?_))
 refine iW (aM V.nilsl) (aM<|V.bool false) (bH ?_)<|cH ?_
 . rw [eA,if_neg hw,hc,List.drop_of_length_le OM]; rfl
 . rw [eA,if_neg hw,hc,List.drop_of_length_le OM]; rfl
theorem aAY (x:Nd) (aQ:List Int) (hs:wB x.ou) (hl:x.ou.length=x.kd.length):bK Tryz.prog 122 [(V.agg (cN x)),(aE aQ)] (iV (if wX x.ou aQ then aA x.kd (kH x.ou aQ) else -1)):=by
 refine' pK [] [] Tryz.func122 ?e λhB=>?_
 case e=>conv=>lhs; cbv
 dsimp only;refine aW<|bS (i:=2) (n:=0) (m:=5) (cs:=[(V.bool x.lf),(aE x.ac),(aE x.sf),(aC x.ou),(aE x.kd)]) J (cE J) J J J<|aD<|aO<|aD (aG λQ1 n1 x1 y1 z1=>?_)
 refine cC (λmm T H=> ∃ (k:Nat),mm=x.ou.length - k/\T 1=(aE aQ)/\T 2=(cG 2)/\T 5=(iV ((k:Nat):Int))/\H 2=(bk 1 108 5 [(cN x)])/\(k<=x.ou.length)/\(∀ j,j < k->aA x.ou j≠aQ)) ?_ ?_
 . 
  refine ⟨_,0,J,J,J,(bL (aM<|iV 0) J),J,?_,?_⟩
  . omega
  . intro j hj; omega
 intro mm T H ⟨k,hmm,t1,t2,t5,h2,hk,hc⟩ Q2 p12 p22 p32;refine aO<|aJ t5<|aX t2 h2 J J<|bA J<|bZ J J<|bR ?_
 refine aH J (λc3=>?_) λc3=>?_
 . 
  refine aB (aG λQ4 n4 x4 y4 z4=>(aW<|aX t2 h2 J J<|aJ t5<|dA (i:=k) (aM<|aC x.ou) (cO k)<|aL J J<|aJ t1<|aI (lN (aA x.ou k) aQ) J<|bR ?_));refine fN J (λc5=>?_) λc5=>?_
  . 
   have d1:aA x.ou k=aQ:=c5;have d2:=aHg hs (show k < x.ou.length by omega) d1;refine aW<|aX t2 h2 J J<|aJ t5<|dA (i:=k) (aM<|aE x.kd) (cO k)<|aL J J<|aD<|bF<|y4 _ _<|p22 _ _<|y1 _ _ ?_
   refine aZ (aM<|iV<|aA x.kd k)<|aF ?_
   . rw [if_pos d2.2,d2.1]
  have d1:aA x.ou k≠aQ:=c5;refine dH<|n4 _ _ (.done (eI<|aJ t5<|cF J<|aD ?_))
  refine p12 _ _ _ ?_ ⟨(k+1),J,t1,t2,(bL (cO<|k+1) JR),h2,?_,?_⟩
  . omega
  . omega
  . intro j hj
    by_cases e:j=k
    . subst e; exact d1
    . exact hc j OM
 refine aT<|p32 _ _ _<|x1 _ _ (.done (aW<|aD<|bF ?_))
 refine aZ (aM<|iV (-1))<|aF ?_
 . rw [if_neg (λe=>hc _ (by have:=e.1; omega)<|aNm e)]
theorem tE (t:Dt) (o:Ob) (w:List Int) (hb:Bd t) (ho:kS o=0) (hw:w.length<=1048576):bK Tryz.prog 73 [(V.agg [(V.sl (List.map cN t.nd))]),(V.agg [(iV o.i),(V.sl (List.map cT o.tr))]),(aE w)] (V.tup [(iV ((bJ t o w).1)),(aE ((bJ t o w).2.1)),(iV ((bJ t o w).2.2))]):=by
 refine' pK [] [] Tryz.func73 ?e λhB=>?_
 case e=>conv=>lhs; cbv
 dsimp only;refine aW<|bS (i:=3) (n:=0) (m:=1) (cs:=[(V.sl<|List.map cN t.nd)]) J (cE J) J J J<|bS (i:=4) (n:=0) (m:=2) (cs:=[(iV o.i),(V.sl<|List.map cT o.tr)]) J (cE J) J J J<|aP<|aP<|aD<|aO<|aV J J J J<|aI (oX t hb) J<|aD<|aO<|aP ?_
 refine bP J J<|bR ?_
 refine aH J (λc1=>?_) λc1=>?_
 . 
  refine aO<|aP<|aP<|aP<|aD<|aK ?_
  refine iN (aM<|iV 0) (aM V.nilsl) (aM<|iV<|gU t) (aF ?_) (bH ?_)<|aF ?_
  . unfold bJ; rw [if_pos OM]
  . unfold bJ; rw [if_pos OM]
  . unfold bJ; rw [if_pos OM]
 have hv:gU t=0:=OM
 refine aB<|aO<|aP<|aX J J J J<|aI (fX w o.i) J<|aD<|aO<|aP<|bP J J<|bR ?_
 refine aH J (λc2=>?_) λc2=>?_
 . 
  refine aO<|aP<|aP<|aP<|aD<|aK ?_
  refine iN (aM<|iV 0) (aM V.nilsl) (aM<|iV<|dG w o.i) (aF ?_) (bH ?_)<|aF ?_
  . unfold bJ; rw [if_neg OM,if_pos OM]
  . unfold bJ; rw [if_neg OM,if_pos OM]
  . unfold bJ; rw [if_neg OM,if_pos OM]
 refine aB<|aW<|aD (aG λQ3 n3 x3 y3 z3=>?_)
 refine cC (λmm T H=> ∃ (a:Int) (f:Nat),mm=f/\T 2=(aE w)/\T 3=(cG 3)/\T 4=(cG 4)/\T 11=(iV a)/\H 3=(bk 1 47 1 [[(V.sl<|List.map cN t.nd)]])/\H 4=(bk 1 31 2 [[(iV o.i),(V.sl<|List.map cT o.tr)]])/\(0<=a)/\(Rk t f a.toNat)/\(gM t o w t.nd.length 0=gM t o w f a.toNat)) ?_ ?_
 . 
  refine ⟨_,0,t.nd.length,J,J,J,J,J,J,J,?_,?_,?_⟩
  . omega
  . exact rk0 hv
  . rfl
 intro mm T H ⟨a,f,hmm,t2,t3,t4,t11,h3,h4,ha,hr,hc⟩ Q4 p14 p24 p34;have hlt:=hr.lt hv;have hsf:=hb.sf _ hlt;have hbn:=hb.n;refine aO<|aX t3 h3 J J<|aJ t11<|dR (i:=a) (aM<|V.sl<|List.map cN t.nd) (aM<|iV a) OM OM J<|dB (cs':=(cN<|aA t.nd a.toNat)) J J<|aL J J<|fF J<|bR ?_
 refine cU J (λc5=>?_) (λc5=>?_)
 . 
  have d1:(aA t.nd a.toNat).lf=false:=by simpa using c5
  have hin:=aCg hv hlt d1;have hou:=hb.ou _ hlt;refine aB (fZ λQ6 n6 x6 y6 z6=>(aW<|aJ t2<|aX t3 h3 J J<|aJ t11<|dR (i:=a) (aM<|V.sl<|List.map cN t.nd) (aM<|iV a) OM OM J<|dB (cs':=(List.drop 2<|cN<|aA t.nd a.toNat)) J J<|aL J J<|aS J J<|aI (eB ([w,(aA t.nd a.toNat).sf]) (by simp only [bD,List.append_nil,List.length_append]; omega)) J<|aD<|aO ?_));refine aP<|aX t4 h4 J J<|aI (fX (bD<|[w,(aA t.nd a.toNat).sf]) o.i) J<|aD<|aO<|aP<|bP J J<|bR ?_
  refine aH J (λc7=>?_) λc7=>?_
  . 
   have d2:dG (bD [w,(aA t.nd a.toNat).sf]) o.i≠0:=c7;refine aO<|aP<|aP<|aP<|aD<|aK<|y6 _ _<|p24 _ _<|y3 _ _ ?_
   refine iN (aM<|iV 0) (aM V.nilsl) (aM<|iV<|dG (bD<|[w,(aA t.nd a.toNat).sf]) o.i) (aF ?_) (bH ?_)<|aF ?_
   . have e0:bJ t o w=gM t o w f a.toNat:=by unfold bJ; rw [if_neg OM,if_neg OM,hc]
     rw [e0,tH hr.pos d1 d2]
   . have e0:bJ t o w=gM t o w f a.toNat:=by unfold bJ; rw [if_neg OM,if_neg OM,hc]
     rw [e0,tH hr.pos d1 d2]
   . have e0:bJ t o w=gM t o w f a.toNat:=by unfold bJ; rw [if_neg OM,if_neg OM,hc]
     rw [e0,tH hr.pos d1 d2]
  have d2: ¬dG (bD [w,(aA t.nd a.toNat).sf]) o.i≠0:=c7;refine aB<|aW<|aV t4 h4 J J<|aP<|aI (kN o (bD<|[w,(aA t.nd a.toNat).sf]) OM) J<|aP<|bE J J<|bE J J<|aP<|aD<|aO<|aP<|fF J<|bR ?_
  refine cU J (λc8=>?_) (λc8=>?_)
  . 
   have d3:(eA o<|bD [w,(aA t.nd a.toNat).sf]).isSome=false:=by simpa using c8
   refine aO<|aP<|aP<|aP<|aD<|aK<|y6 _ _<|p24 _ _<|y3 _ _ ?_
   refine iN (aM<|iV 0) (aM<|aE<|bD<|[w,(aA t.nd a.toNat).sf]) (aM<|iV 0) (aF ?_) (cA ?_ (λ_=>by simp))<|aF ?_
   . have e0:bJ t o w=gM t o w f a.toNat:=by unfold bJ; rw [if_neg OM,if_neg OM,hc]
     rw [e0,tG hr.pos d1 d2 d3]
   . have e0:bJ t o w=gM t o w f a.toNat:=by unfold bJ; rw [if_neg OM,if_neg OM,hc]
     rw [e0,tG hr.pos d1 d2 d3]
   . have e0:bJ t o w=gM t o w f a.toNat:=by unfold bJ; rw [if_neg OM,if_neg OM,hc]
     rw [e0,tG hr.pos d1 d2 d3]
  have d3:(eA o<|bD [w,(aA t.nd a.toNat).sf]).isSome=true:=by simpa using c8
  have d4:=nH (lD ho) d3;have d5:(bD [w,(aA t.nd a.toNat).sf]).length=w.length+(aA t.nd a.toNat).sf.length:=by simp [bD]
  refine aB ?_;refine dE (λT H=>T 2=(aE w)/\T 3=(cG 3)/\T 4=(cG 4)/\T 11=(iV a)/\T 16=(iV (if wX (aA t.nd a.toNat).ou (List.drop w.length<|(eA o<|bD<|[w,(aA t.nd a.toNat).sf]).getD []) then aA (aA t.nd a.toNat).kd (kH (aA t.nd a.toNat).ou (List.drop w.length<|(eA o<|bD<|[w,(aA t.nd a.toNat).sf]).getD [])) else -1))/\H 3=(bk 1 47 1 [[(V.sl<|List.map cN t.nd)]])/\H 4=(bk 1 31 2 [[(iV o.i),(V.sl<|List.map cT o.tr)]])/\True) ?_ ?_
  . 
   refine aX t3 h3 J J<|aJ t11<|dR (i:=a) (aM<|V.sl<|List.map cN t.nd) (aM<|iV a) OM OM J<|aL J J<|aP<|aJ t2<|bA J<|gD (n:=w.length) (aM<|aE<|(eA o<|bD<|[w,(aA t.nd a.toNat).sf]).getD []) (cO w.length) OM (λ_=>J)<|aI (aAY (aA t.nd a.toNat) (List.drop w.length<|(eA o<|bD<|[w,(aA t.nd a.toNat).sf]).getD []) hin.srt hin.len) J<|aP ?_
   exact eS ⟨t2,t3,t4,t11,J,h3,h4,trivial⟩
  intro T H ⟨t2,t3,t4,t11,t16,h3,h4,_⟩;refine aO<|aJ t16<|bZ J J<|bR ?_
  refine aH J (λc9=>?_) λc9=>?_
  . 
   have d6: ¬wX (aA t.nd a.toNat).ou (((eA o<|bD [w,(aA t.nd a.toNat).sf]).getD []).drop w.length):=λe=>by (have d7:(aA (aA t.nd a.toNat).kd (kH (aA t.nd a.toNat).ou (((eA o<|bD [w,(aA t.nd a.toNat).sf]).getD []).drop w.length)))∈(aA t.nd a.toNat).kd:=cW (by have:=e.1; have:=hin.len; omega)); (have d8:=hin.kr _ d7); rw [if_pos e] at c9; omega
   refine aO<|aJ t11<|aP<|aP<|aD<|aK<|y6 _ _<|p24 _ _<|y3 _ _ ?_
   refine iN (aM<|iV a) (aM V.nilsl) (aM<|iV 0) (aF ?_) (bH ?_)<|aF ?_
   . have e0:bJ t o w=gM t o w f a.toNat:=by unfold bJ; rw [if_neg OM,if_neg OM,hc]
     rw [e0,xO hr.pos d1 d2 d3 d6]; exact (Int.toNat_of_nonneg ha).symm
   . have e0:bJ t o w=gM t o w f a.toNat:=by unfold bJ; rw [if_neg OM,if_neg OM,hc]
     rw [e0,xO hr.pos d1 d2 d3 d6]
   . have e0:bJ t o w=gM t o w f a.toNat:=by unfold bJ; rw [if_neg OM,if_neg OM,hc]
     rw [e0,xO hr.pos d1 d2 d3 d6]
  have d6:wX (aA t.nd a.toNat).ou (((eA o<|bD [w,(aA t.nd a.toNat).sf]).getD []).drop w.length):=Decidable.not_not.1 λe=>by rw [if_neg e] at c9; omega
  have d7:(aA (aA t.nd a.toNat).kd (kH (aA t.nd a.toNat).ou (((eA o<|bD [w,(aA t.nd a.toNat).sf]).getD []).drop w.length)))∈(aA t.nd a.toNat).kd:=cW (by have:=d6.1; have:=hin.len; omega);have d8:=hin.kr _ d7;refine aB<|eI<|aJ t16<|aD<|n6 _ _ ?_
  refine p14 _ _ _ ?_ ⟨(aA (aA t.nd a.toNat).kd (kH (aA t.nd a.toNat).ou (((eA o<|bD [w,(aA t.nd a.toNat).sf]).getD []).drop w.length))),(f - 1),J,t2,t3,t4,(bL (aM<|iV (if wX (aA t.nd a.toNat).ou (List.drop w.length<|(eA o<|bD<|[w,(aA t.nd a.toNat).sf]).getD []) then aA (aA t.nd a.toNat).kd (kH (aA t.nd a.toNat).ou (List.drop w.length<|(eA o<|bD<|[w,(aA t.nd a.toNat).sf]).getD [])) else -1)) (by (rw [if_pos d6]; done))),h3,h4,?_,?_,?_⟩
  . have:=hr.pos; omega
  . exact d8.1
  . exact hr.step d7 d8.1
  . rw [hc,aGn hr.pos d1 d2 d3 d6]
 have d1:(aA t.nd a.toNat).lf=true:=by simpa using c5
 refine aT<|p34 _ _ _<|x3 _ _ (.done (aW<|aJ t11<|aP<|aP<|aD<|bF ?_))
 refine iN (aM<|iV a) (aM V.nilsl) (aM<|iV 0) (aF ?_) (bH ?_)<|aF ?_
 . have e0:bJ t o w=gM t o w f a.toNat:=by unfold bJ; rw [if_neg OM,if_neg OM,hc]
   rw [e0,pS hr.pos d1]; exact (Int.toNat_of_nonneg ha).symm
 . have e0:bJ t o w=gM t o w f a.toNat:=by unfold bJ; rw [if_neg OM,if_neg OM,hc]
   rw [e0,pS hr.pos d1]
 . have e0:bJ t o w=gM t o w f a.toNat:=by unfold bJ; rw [if_neg OM,if_neg OM,hc]
   rw [e0,pS hr.pos d1]
theorem nF (l:List (List Int)) (hl:l.length<=10000) (hw: ∀ w∈l,w.length<=1048576):bK Tryz.prog 120 [(aC l)] (aC (oD l)):=by
 refine' pK [4] [] Tryz.func120 ?e λhB=>?_
 case e=>conv=>lhs; cbv
 dsimp only;refine aW<|aD<|aW<|aP<|aI (oW l OM OM) J<|aD<|aW<|gG (i:=4) (n:=0) J (cE J)<|tA<|aW<|aD (aG λQ1 n1 x1 y1 z1=>?_)
 refine cC (λmm T H=> ∃ (k:Nat) (v:Nat),mm=(fB l).length - k/\T 3=(aC<|fB l)/\T 4=(V.ms 4 v 0<|(zX l k).length)/\T 5=(iV ((k:Nat):Int))/\H 4=(bz v 54 1<|List.map cL<|zX l k)/\(k<=(fB l).length)) ?_ ?_
 . 
  refine ⟨_,0,1,J,J,(bL (aM<|V.ms 4 1 0 0) JR),(bL (aM<|iV 0) J),(bL (@J Blk<|bz 1 54 1 []) JR),?_⟩
  . omega
 intro mm T H ⟨k,v,hmm,t3,t4,t5,h4,hk⟩ Q2 p12 p22 p32;have q1:=aHm l k;have q2:=yV l;refine aO<|aJ t5<|aJ t3<|bA J<|bZ J J<|bR ?_
 refine aH J (λc3=>?_) λc3=>?_
 . 
  refine aB (aG λQ4 n4 x4 y4 z4=>(aW<|aD<|aO<|aJ t5<|cF J<|aD (aG λQ5 n5 x5 y5 z5=>?_)));refine cC (λmm T H=> ∃ (j:Nat),mm=(fB l).length - j/\T 3=(aC<|fB l)/\T 4=(V.ms 4 v 0<|(zX l k).length)/\T 5=(iV ((k:Nat):Int))/\T 6=(V.bool<|tpB (fB l) k j)/\T 7=(iV ((j:Nat):Int))/\H 4=(bz v 54 1<|List.map cL<|zX l k)/\(k < j)/\(j<=(fB l).length)) ?_ ?_
  . 
   refine ⟨_,(k+1),J,t3,t4,t5,(bL (aM<|V.bool true) (by (rw [aFz OM]; done))),(bL (cO<|k+1) JR),h4,?_,?_⟩
   . omega
   . omega
  intro mm T H ⟨j,hmm,t3,t4,t5,t6,t7,h4,hj,hj2⟩ Q6 p16 p26 p36;refine aO<|aJ t7<|aJ t3<|bA J<|bZ J J<|bR ?_
  refine aH J (λc7=>?_) λc7=>?_
  . 
   refine aB (aG λQ8 n8 x8 y8 z8=>(eI<|aJ t6<|aP ?_));refine bU 24 (λT H=>T 3=(aC<|fB l)/\T 4=(V.ms 4 v 0<|(zX l k).length)/\T 5=(iV ((k:Nat):Int))/\T 6=(V.bool<|tpB (fB l) k j)/\T 7=(iV ((j:Nat):Int))/\T 49=(V.bool<|(tpB (fB l) k j)&&(decide ((((aA (fB l) j).length:Nat):Int)=(((aA (fB l) k).length:Nat):Int))||(!hp (aA (fB l) j) (aA (fB l) k))))/\H 4=(bz v 54 1<|List.map cL<|zX l k)/\True) ?_ ?_
   . 
    by_cases g9:(tpB (fB l) k j)=true
    . 
     refine aN (gQ g9 J)<|aJ t3<|aN (gQ g9 J)<|aJ t7<|aN (gQ g9 J)<|dA (i:=j) (aM<|aC<|fB l) (cO j)<|aN (gQ g9 J)<|aL J J<|aN (gQ g9 J)<|bA J<|aN (gQ g9 J)<|aJ t3<|aN (gQ g9 J)<|aJ t5<|aN (gQ g9 J)<|dA (i:=k) (aM<|aC<|fB l) (cO k) ?_
     refine aN (gQ g9 J)<|aL J J<|aN (gQ g9 J)<|bA J<|aN (gQ g9 J)<|eV J J<|aN (gQ g9 J)<|aP ?_
     refine bU 11 (λT H=>T 3=(aC<|fB l)/\T 4=(V.ms 4 v 0<|(zX l k).length)/\T 5=(iV ((k:Nat):Int))/\T 6=(V.bool<|tpB (fB l) k j)/\T 7=(iV ((j:Nat):Int))/\T 25=(V.bool true)/\T 26=(aC<|fB l)/\T 27=(iV ((j:Nat):Int))/\T 28=(V.pp [(aE<|aA (fB l) j)])/\T 29=(aE<|aA (fB l) j)/\T 30=(iV (((aA (fB l) j).length:Nat):Int))/\T 31=(aC<|fB l)/\T 32=(iV ((k:Nat):Int))/\T 33=(V.pp [(aE<|aA (fB l) k)])/\T 34=(aE<|aA (fB l) k)/\T 35=(iV (((aA (fB l) k).length:Nat):Int))/\T 36=(V.bool<|decide ((((aA (fB l) j).length:Nat):Int)=(((aA (fB l) k).length:Nat):Int)))/\T 37=(V.bool<|decide ((((aA (fB l) j).length:Nat):Int)=(((aA (fB l) k).length:Nat):Int)))/\T 48=(V.bool (decide ((((aA (fB l) j).length:Nat):Int)=(((aA (fB l) k).length:Nat):Int))||(!hp (aA (fB l) j) (aA (fB l) k))))/\H 4=(bz v 54 1<|List.map cL<|zX l k)/\True) ?_ ?_
     . 
      by_cases g10:(((aA (fB l) j).length:Nat):Int)=(((aA (fB l) k).length:Nat):Int)
      . 
       refine bW (bY g10 J)<|bW (bY g10 J)<|bW (bY g10 J)<|bW (bY g10 J)<|bW (bY g10 J)<|bW (bY g10 J)<|bW (bY g10 J)<|bW (bY g10 J)<|bW (bY g10 J)<|bW (bY g10 J)<|aN (gQ g9 J)<|bV (bY g10 J) J ?_
       exact ⟨t3,t4,t5,t6,t7,(gQ g9 J),J,J,J,J,J,J,J,J,J,J,J,J,(aLE g10),h4,trivial⟩
      . 
       refine aN (bX g10 J)<|aJ t3<|aN (bX g10 J)<|aJ t7<|aN (bX g10 J)<|dA (i:=j) (aM<|aC<|fB l) (cO j)<|aN (bX g10 J)<|aL J J<|aN (bX g10 J)<|aJ t3<|aN (bX g10 J)<|aJ t5<|aN (bX g10 J)<|dA (i:=k) (aM<|aC<|fB l) (cO k)<|aN (bX g10 J)<|aL J J ?_
       refine aN (bX g10 J)<|aI (uR (aA (fB l) j)<|aA (fB l) k) J<|aN (bX g10 J)<|fF J<|aN (gQ g9 J)<|bT (bX g10 J) J ?_
       exact ⟨t3,t4,t5,t6,t7,(gQ g9 J),J,J,J,J,J,J,J,J,J,J,J,J,(aJB g10),h4,trivial⟩
     intro T H ⟨t3,t4,t5,t6,t7,t25,t26,t27,t28,t29,t30,t31,t32,t33,t34,t35,t36,t37,t48,h4,_⟩;refine bV t25 t48 ?_;exact ⟨t3,t4,t5,t6,t7,(aN1 g9),h4,trivial⟩
    . 
     refine bW (gP g9 J)<|bW (gP g9 J)<|bW (gP g9 J)<|bW (gP g9 J)<|bW (gP g9 J)<|bW (gP g9 J)<|bW (gP g9 J)<|bW (gP g9 J)<|bW (gP g9 J)<|bW (gP g9 J)<|bW (gP g9 J)<|bW (gP g9 J)<|nT (aM<|V.raw undef)<|nT (aM<|V.raw undef)<|nT (aM<|V.raw undef)<|nT (aM<|V.raw undef) ?_
     refine nT (aM<|V.raw undef)<|nT (aM<|V.raw undef)<|nT (aM<|V.raw undef)<|nT (aM<|V.raw undef)<|nT (aM<|V.raw undef)<|nT (aM<|V.raw undef)<|bW (gP g9 J)<|bT (gP g9 J) J ?_
     exact ⟨t3,t4,t5,t6,t7,(aOk g9),h4,trivial⟩
   intro T H ⟨t3,t4,t5,t6,t7,t49,h4,_⟩;refine aJ t49<|bR<|n8 _ _ (.done (eI<|aJ t7<|cF J<|aD ?_))
   refine p16 _ _ _ ?_ ⟨(j+1),J,t3,t4,t5,(bL (aM<|V.bool<|(tpB (fB l) k j)&&(decide ((((aA (fB l) j).length:Nat):Int)=(((aA (fB l) k).length:Nat):Int))||(!hp (aA (fB l) j) (aA (fB l) k)))) (by (rw [aHn OM]; done))),(bL (cO<|j+1) JR),h4,?_,?_⟩
   . omega
   . omega
   . omega
  refine aT<|p36 _ _ _<|x5 _ _ (.done (aW<|aJ t6<|bR ?_))
  refine mJ J (λc11=>?_) (λc11=>?_)
  . 
   have d1:tpB (fB l) k (fB l).length=true:=by rw [show (fB l).length=j by omega]; exact c11
   refine eI<|aJ t4<|aJ t3<|aJ t5<|dA (i:=k) (aM<|aC<|fB l) (cO k)<|aL J J<|aS J J<|eX (l:=(zX l k)) (f:=cL) (x:=(aA (fB l) k)) (aM<|V.ms 4 v 0<|(zX l k).length) h4 JR (aM<|V.sl [[(aE<|aA (fB l) k)]])<|aD<|n4 _ _ (.done (eI<|aJ t5<|cF J<|aP ?_))
   refine bR ?_;refine p12 _ _ _ ?_ ⟨(k+1),(v+1),J,t3,(bL (aM<|V.ms 4 (v+1) 0<|((zX l k).length)+1) (by (rw [aHP OM d1,List.length_append]; rfl))),(bL (cO<|k+1) JR),(bL (@J Blk<|bz (v+1) 54 1<|List.map cL<|zX l k++[(aA (fB l) k)]) (by (rw [aHP OM d1]; done))),?_⟩
   . omega
   . omega
  have d1:tpB (fB l) k (fB l).length=false:=by rw [show (fB l).length=j by omega]; simpa using c11
  refine dH<|n4 _ _ (.done (eI<|aJ t5<|cF J<|aD ?_))
  refine p12 _ _ _ ?_ ⟨(k+1),v,J,t3,(bL t4 (by (rw [aJ9 OM d1]; done))),(bL (cO<|k+1) JR),(bL h4 (by (rw [aJ9 OM d1]; done))),?_⟩
  . omega
  . omega
 refine aT<|p32 _ _ _<|x1 _ _ (.done (aW<|aJ t4<|aD<|bF ?_))
 refine aZ (aM<|V.ms 4 v 0<|(zX l k).length)<|iK h4 SI (l:=(zX l k)) J JR (λ_=>by simp) ?_
 . rw [aMv OM]
theorem wD (l:Ts) (o:Ob) (hb:Bd l.t) (h:vC l=0) (ho:kS o=0) (hx:(dD l).length<=5000):bK Tryz.prog 71 [(V.agg [(iV l.i),(V.sl (List.map cN l.t.nd))]),(V.agg [(iV o.i),(V.sl (List.map cT o.tr))])] (V.tup [(aC (if lE l o=0 then oD (rD l o) else [])),(iV (lE l o))]):=by
 refine' pK [7] [] Tryz.func71 ?e λhB=>?_
 case e=>conv=>lhs; cbv
 dsimp only;obtain ⟨hi1,hi2,hv,hw0,_,hl0⟩:=tL h;have hbn:=hb.n;have hal:=jS l.t.nd;have hsl:=yV<|eP l.t.nd

 refine aW<|bS (i:=2) (n:=0) (m:=2) (cs:=[(iV l.i),(V.sl<|List.map cN l.t.nd)]) J (cE J) J J J<|bS (i:=3) (n:=0) (m:=2) (cs:=[(iV o.i),(V.sl<|List.map cT o.tr)]) J (cE J) J J J<|aP<|aD<|aW<|aV J J J J<|aI (aB8 l hb h) J<|aD<|aW<|gG (i:=7) (n:=0) J (cE J)<|tA<|aW ?_
 refine aD (aG λQ1 n1 x1 y1 z1=>?_);refine cC (λmm T H=> ∃ (k:Nat) (v:Nat),mm=(dD l).length - k/\T 2=(cG 2)/\T 3=(cG 3)/\T 6=(aC<|dD l)/\T 7=(V.ms 7 v 0<|(pX l o k).length)/\T 8=(iV ((k:Nat):Int))/\H 2=(bk 1 49 2 [[(iV l.i),(V.sl<|List.map cN l.t.nd)]])/\H 3=(bk 1 31 2 [[(iV o.i),(V.sl<|List.map cT o.tr)]])/\H 7=(bz v 54 1<|List.map cL<|pX l o k)/\(k<=(dD l).length)/\(lE l o=fe (sqE l o) k ((dD l).length - k))) ?_ ?_
 . 
  refine ⟨_,0,1,J,J,J,J,(bL (aM<|V.ms 7 1 0 0) JR),(bL (aM<|iV 0) J),J,J,(bL (@J Blk<|bz 1 54 1 []) JR),?_,?_⟩
  . omega
  . rfl
 intro mm T H ⟨k,v,hmm,t2,t3,t6,t7,t8,h2,h3,h7,hk,hc⟩ Q2 p12 p22 p32;have q1:=aKc l o k;refine aO<|aJ t8<|aJ t6<|bA J<|bZ J J<|bR ?_
 refine aH J (λc3=>?_) λc3=>?_
 . 
  have r1:=pL h<|cW (show k < (dD l).length by omega)
  refine aB (aG λQ4 n4 x4 y4 z4=>(aW<|aX t2 h2 J J<|aV t3 h3 J J<|aJ t6<|aJ t8<|dA (i:=k) (aM<|aC<|dD l) (cO k)<|aL J J<|aI (tE l.t o (aA (dD l) k) hb ho OM) J<|aP<|bE J J<|bE J J<|bE J J<|aP ?_));refine aP<|aD<|aO<|aP<|bP J J<|bR ?_
  refine aH J (λc5=>?_) λc5=>?_
  . 
   have d1:sqE l o k≠0:=c5;refine aO<|aP<|aP<|aD<|aK<|y4 _ _<|p22 _ _<|y1 _ _ ?_
   refine iW (aM V.nilsl) (aM<|iV<|(bJ l.t o<|aA (dD l) k).2.2) (bH ?_)<|aF ?_
   . rw [if_neg (by rw [hc,fV (e:=sqE l o) d1 OM]; exact d1)]
   . rw [hc,fV (e:=sqE l o) d1 OM]; rfl
  have d1:sqE l o k=0:=Decidable.not_not.1 c5;refine aB<|aO<|aV t3 h3 J J<|aJ t6<|aJ t8<|dA (i:=k) (aM<|aC<|dD l) (cO k)<|aL J J<|aI (kN o (aA (dD l) k) ho) J<|aP<|bE J J<|bE J J<|aP<|aD<|cS ?_
  refine aW<|aP<|fF J<|bR ?_
  refine cU J (λc6=>?_) (λc6=>?_)
  . 
   have d2: ¬(eA o<|aA (dD l) k).isSome=true:=by simpa using c6
   refine dE (λT H=>T 2=(cG 2)/\T 3=(cG 3)/\T 6=(aC<|dD l)/\T 7=(V.ms 7 (v+1) 0<|((pX l o k).length)+1)/\T 8=(iV ((k:Nat):Int))/\T 10=(aE<|(bJ l.t o<|aA (dD l) k).2.1)/\H 2=(bk 1 49 2 [[(iV l.i),(V.sl<|List.map cN l.t.nd)]])/\H 3=(bk 1 31 2 [[(iV o.i),(V.sl<|List.map cT o.tr)]])/\H 7=(bz (v+1) 54 1<|List.map cL<|pX l o k++[(aA (dD l) k)])/\True) ?_ ?_
   . 
    refine aJ t7<|aJ t6<|aJ t8<|dA (i:=k) (aM<|aC<|dD l) (cO k)<|aL J J<|aS J J<|eX (l:=(pX l o k)) (f:=cL) (x:=(aA (dD l) k)) (aM<|V.ms 7 v 0<|(pX l o k).length) h7 JR (aM<|V.sl [[(aE<|aA (dD l) k)]])<|aP ?_
    exact eS ⟨t2,t3,t6,J,t8,J,h2,h3,J,trivial⟩
   intro T H ⟨t2,t3,t6,t7,t8,t10,h2,h3,h7,_⟩;refine aW<|aJ t10<|bA J<|eD J J<|bR ?_
   refine fN J (λc7=>?_) λc7=>?_
   . 
    have d3:0 < (bJ l.t o<|aA (dD l) k).2.1.length:=OM
    refine eI<|aJ t7<|aJ t10<|aS J J<|eX (l:=(pX l o k++[(aA (dD l) k)])) (f:=cL) (x:=((bJ l.t o<|aA (dD l) k).2.1)) (aM<|V.ms 7 (v+1) 0<|((pX l o k).length)+1) h7 SI (aM<|V.sl [[(aE<|(bJ l.t o<|aA (dD l) k).2.1)]])<|aD<|n4 _ _ (.done (eI<|aJ t8<|cF J<|aD ?_))
    refine p12 _ _ _ ?_ ⟨(k+1),(v+2),J,t2,t3,t6,(bL (aM<|V.ms 7 (v+2) 0<|((pX l o k).length)+2) (by (rw [gZ OM]; unfold qr1; simp only [d2,d3,if_true,if_false,List.length_append]; rfl))),(bL (cO<|k+1) JR),h2,h3,(bL (@J Blk<|bz (v+2) 54 1<|List.map cL<|pX l o k++[(aA (dD l) k)]++[(bJ l.t o<|aA (dD l) k).2.1]) (by (rw [gZ OM]; unfold qr1; simp [d2,d3]; done))),?_,?_⟩
    . omega
    . omega
    . rw [hc,fW (e:=sqE l o) (by exact d1) OM]
   have d3: ¬0 < (bJ l.t o<|aA (dD l) k).2.1.length:=OM
   refine dH<|n4 _ _ (.done (eI<|aJ t8<|cF J<|aD ?_))
   refine p12 _ _ _ ?_ ⟨(k+1),(v+1),J,t2,t3,t6,(bL t7 (by (rw [gZ OM]; unfold qr1; simp only [d2,d3,if_true,if_false,List.length_append]; rfl))),(bL (cO<|k+1) JR),h2,h3,(bL h7 (by (rw [gZ OM]; unfold qr1; simp [d2,d3]; done))),?_,?_⟩
   . omega
   . omega
   . rw [hc,fW (e:=sqE l o) (by exact d1) OM]
  have d2:(eA o<|aA (dD l) k).isSome=true:=by simpa using c6
  refine aB<|aW<|aP<|bA J<|eD J J<|bR ?_
  refine fN J (λc8=>?_) λc8=>?_
  . 
   have d3:0 < (bJ l.t o<|aA (dD l) k).2.1.length:=OM
   refine tX (λT H=>T 2=(cG 2)/\T 3=(cG 3)/\T 6=(aC<|dD l)/\T 7=(V.ms 7 (v+1) 0<|((pX l o k).length)+1)/\T 8=(iV ((k:Nat):Int))/\H 2=(bk 1 49 2 [[(iV l.i),(V.sl<|List.map cN l.t.nd)]])/\H 3=(bk 1 31 2 [[(iV o.i),(V.sl<|List.map cT o.tr)]])/\H 7=(bz (v+1) 54 1<|List.map cL<|pX l o k++[(bJ l.t o<|aA (dD l) k).2.1])/\True) ?_ ?_
   . 
    refine aJ t7<|aP<|aS J J<|eX (l:=(pX l o k)) (f:=cL) (x:=((bJ l.t o<|aA (dD l) k).2.1)) (aM<|V.ms 7 v 0<|(pX l o k).length) h7 JR (aM<|V.sl [[(aE<|(bJ l.t o<|aA (dD l) k).2.1)]])<|aP ?_
    exact eS ⟨t2,t3,t6,J,t8,h2,h3,J,trivial⟩
   intro T H ⟨t2,t3,t6,t7,t8,h2,h3,h7,_⟩;refine n4 _ _ (.done (eI<|aJ t8<|cF J<|aD ?_));refine p12 _ _ _ ?_ ⟨(k+1),(v+1),J,t2,t3,t6,(bL t7 (by (rw [gZ OM]; unfold qr1; simp only [d2,d3,if_true,if_false,List.length_append]; rfl))),(bL (cO<|k+1) JR),h2,h3,(bL h7 (by (rw [gZ OM]; unfold qr1; simp [d2,d3]; done))),?_,?_⟩
   . omega
   . omega
   . rw [hc,fW (e:=sqE l o) (by exact d1) OM]
  have d3: ¬0 < (bJ l.t o<|aA (dD l) k).2.1.length:=OM
  refine dH<|n4 _ _ (.done (eI<|aJ t8<|cF J<|aD ?_))
  refine p12 _ _ _ ?_ ⟨(k+1),v,J,t2,t3,t6,(bL t7 (by (rw [gZ OM]; unfold qr1; simp only [d2,d3,if_true,if_false,List.length_append]; rfl))),(bL (cO<|k+1) JR),h2,h3,(bL h7 (by (rw [gZ OM]; unfold qr1; simp [d2,d3]; done))),?_,?_⟩
  . omega
  . omega
  . rw [hc,fW (e:=sqE l o) (by exact d1) OM]
 have hz:lE l o=0:=by rw [hc,iM OM]
 have hq:=aIc (l:=l) (o:=o) (k:=k) OM;have hql:=aIq o h;refine aT<|p32 _ _ _<|x1 _ _ ?_
 refine .freeze 7 (.done ?_);refine aW<|aJ (bB t7<|mL h7 SI (l:=(pX l o k)) J JR)<|aI (nF (pX l o k) OM (by rw [hq]; exact λw hw=>aEt h hw)) J<|aP<|aD<|bF ?_
 refine iW (aM<|aC<|oD<|pX l o k) (aM<|iV 0) (cA ?_ (λ_=>by simp))<|aF ?_
 . rw [if_pos hz,hq]
 . exact hz.symm
theorem mK (o:Ob) (w x:List Int) (ho:kS o=0) (hw:w.length<=1048576) (hx:x.length<=1048576):bK Tryz.prog 75 [(V.agg [(iV o.i),(V.sl (List.map cT o.tr))]),(aE w),(aE x)] (V.tup [(aE (lH o w x)),(V.bool ((eA o (bD [w,x])).isSome))]):=by
 refine' pK [] [] Tryz.func75 ?e λhB=>?_
 case e=>conv=>lhs; cbv
 dsimp only;refine aW<|bS (i:=3) (n:=0) (m:=2) (cs:=[(iV o.i),(V.sl<|List.map cT o.tr)]) J (cE J) J J J<|aP<|aD<|aW<|aV J J J J<|aP<|aP<|aS J J<|aI (eB ([w,x]) (by simp only [bD,List.append_nil,List.length_append,List.length_cons,List.length_nil]; omega)) J<|aI (kN o (bD<|[w,x]) ho) J<|aP<|bE J J<|bE J J<|aP ?_
 refine aD<|aO<|aP<|fF J<|bR ?_
 refine cU J (λc1=>?_) (λc1=>?_)
 . 
  have d3:(eA o<|bD [w,x]).isSome=false:=by simpa using c1
  refine aO<|aP<|aD<|aK ?_
  refine iW (aM V.nilsl) (aM<|V.bool false) (bH ?_)<|cH ?_
  . rw [aFx d3]
  . exact d3.symm
 have d3:(eA o<|bD [w,x]).isSome=true:=by simpa using c1
 have d4:=nH (lD ho) d3;have d5:(bD [w,x]).length=w.length+x.length:=by simp [bD]
 refine aB<|aW<|aP<|aP<|bA J<|gD (n:=w.length) (aM<|aE<|(eA o<|bD<|[w,x]).getD []) (cO w.length) OM (λ_=>J)<|aP<|aD<|bF ?_
 refine iW (aM<|aE<|List.drop w.length<|(eA o<|bD<|[w,x]).getD []) (aM<|V.bool true) (cA ?_ (λ_=>by simp))<|cH ?_
 . rfl
 . exact d3.symm
theorem aBR (t:Dt) (n:Int) (b:Bool):bK Tryz.prog 123 [(V.agg [(V.sl (List.map cN t.nd))]),(iV n),(V.bool b)] (iV (noE t n b)):=by
 refine' pK [] [] Tryz.func123 ?e λhB=>?_
 case e=>conv=>lhs; cbv
 dsimp only;refine aW<|bS (i:=3) (n:=0) (m:=1) (cs:=[(V.sl<|List.map cN t.nd)]) J (cE J) J J J<|aD<|aO<|aP<|bZ J J<|aP ?_
 refine bU 6 (λT H=>T 1=(iV n)/\T 2=(V.bool b)/\T 3=(cG 3)/\T 15=(V.bool<|decide ((n < (0:Int))\/(((t.nd.length:Nat):Int)<=n)))/\H 3=(bk 1 47 1 [[(V.sl<|List.map cN t.nd)]])/\True) ?_ ?_
 . 
  by_cases g1:n < (0:Int)
  . 
   refine bW (bY g1 J)<|bW (bY g1 J)<|bW (bY g1 J)<|bW (bY g1 J)<|bW (bY g1 J)<|bV (bY g1 J) J ?_
   exact ⟨J,J,J,(dZ g1),J,trivial⟩
  . 
   refine aN (bX g1 J)<|aP<|aN (bX g1 J)<|cM J J<|aN (bX g1 J)<|aV J J J J<|aN (bX g1 J)<|bA J<|aN (bX g1 J)<|iC J J<|bT (bX g1 J) J ?_
   exact ⟨J,J,J,(dX g1),J,trivial⟩
 intro T H ⟨t1,t2,t3,t15,h3,_⟩;refine bR ?_;refine aH t15 (λc2=>?_) λc2=>?_
 . 
  refine aO<|aD<|aK ?_
  refine aZ (aM<|iV 2)<|aF ?_
  . rw [noE,if_pos OM]
 refine aB<|aO<|aX t3 h3 J J<|aJ t1<|dR (i:=n) (aM<|V.sl<|List.map cN t.nd) (aM<|iV n) OM OM J<|dB (cs':=(cN<|aA t.nd n.toNat)) J J<|aL J J<|aJ t2<|aKn (x:=((aA t.nd n.toNat).lf)) (y:=b) J J<|bR ?_
 refine cU J (λc3=>?_) (λc3=>?_)
 . 
  have d1:(aA t.nd n.toNat).lf≠b:=by simpa using c3
  refine aO<|aD<|aK ?_
  refine aZ (aM<|iV 10)<|aF ?_
  . rw [noE,if_neg OM,if_pos d1]
 have d1: ¬((aA t.nd n.toNat).lf≠b):=by simpa using c3
 refine aB<|aW<|aD<|bF ?_
 refine aZ (aM<|iV 0)<|aF ?_
 . rw [noE,if_neg OM,if_neg d1]
theorem aAI (t:Dt) (w:List Int) (hb:Bd t):bK Tryz.prog 125 [(V.agg [(V.sl (List.map cN t.nd))]),(aE w)] (iV (fsE t w)):=by
 refine' pK [] [] Tryz.func125 ?e λhB=>?_
 case e=>conv=>lhs; cbv
 dsimp only;refine aW<|bS (i:=2) (n:=0) (m:=1) (cs:=[(V.sl<|List.map cN t.nd)]) J (cE J) J J J<|aD<|aO<|aP<|aI (fX w (64:Int)) J<|aD<|aO<|aP<|bP J J<|bR ?_
 refine aH J (λc1=>?_) λc1=>?_
 . 
  refine aO<|aP<|aD<|aK ?_
  refine aZ (aM<|iV<|dG w (64:Int))<|aF ?_
  . rw [fsE,if_pos OM]
 refine aB<|aO<|aV J J J J<|aI (jC t hb) J<|aP<|aI (aDe (eP t.nd) w) J<|bR ?_
 refine aH J (λc2=>?_) λc2=>?_
 . 
  have d1:w∈eP t.nd:=by simpa using c2
  refine aO<|aD<|aK ?_
  refine aZ (aM<|iV 7)<|aF ?_
  . rw [fsE,if_neg OM,if_pos d1]
 have d1: ¬(w∈eP t.nd):=by simpa using c2
 refine aB<|aW<|aD<|bF ?_
 refine aZ (aM<|iV 0)<|aF ?_
 . rw [fsE,if_neg OM,if_neg d1]
theorem aC9 (t:Dt) (u1 u2 u3 u5 u6 u53 u63:Nat) (Hi:bC) (hb:Bd t) (h301:(Hi 301).ver=u1) (h302:(Hi 302).ver=u2) (h303:(Hi 303).ver=u3) (h305:(Hi 305).ver=u5) (h306:(Hi 306).ver=u6/\(Hi 306).live=false) (h353:(Hi 353).ver=u53) (h363:(Hi 363).ver=u63):fA Tryz.prog 126 [(V.agg [(V.sl (List.map cN t.nd))])] Hi (V.agg [(V.ms 353 (u53+1+t.nd.length) 0 t.nd.length)]) (cX (cX (cX (cX (cX (cX (cX Hi 301 (⟨u1+1,false,false,0,0,[]⟩:Blk)) 302 (⟨u2+1,false,false,0,0,[]⟩:Blk)) 303 (⟨u3+1,false,false,0,0,[]⟩:Blk)) 305 (⟨u5+t.nd.length,false,false,0,0,[]⟩:Blk)) 306 (⟨u6+t.nd.length,false,false,0,0,[]⟩:Blk)) 363 (⟨u63+t.nd.length*1048579,false,false,0,0,[]⟩:Blk)) 353 (bz (u53+1+t.nd.length) 108 5 (List.map cN t.nd))):=by
 refine' eK [] [⟨6,[0,1,2,3,4,5,6,7,8,9,10,11,12,13,14,15,16],[6],[]⟩] (k0:=300) Tryz.func126 ?e λhB=>?_
 case e=>conv=>lhs; cbv
 have hbn:=hb.n;dsimp only;refine aW<|bS (i:=301) (n:=u1) (m:=1) (cs:=[(V.sl<|List.map cN t.nd)]) JR h301 J J J<|bM (i:=302) (n:=u2) (m:=1) JR h302 J<|qV<|bM (i:=303) (n:=u3) (m:=1) JR h303 J<|tA<|W_g<|aD<|eJ (R:=λT H=>T 1=(V.mp 301 (u1+1) 0 0)/\T 2=(V.mp 302 (u2+1) 0 0)/\T 3=(V.mp 303 (u3+1) 0 0)/\T 4=(iV 0)/\(∀ j,j∉[301,302,303,305,306,363,353]->H j=Hi j)/\H 301=(bk (u1+1) 47 1 [[(V.sl<|List.map cN t.nd)]])/\H 302=(bk (u2+1) 47 1 [[V.nilsl]])/\H 303=(bk (u3+1) 47 1 [[V.nilsl]])/\(H 305).ver=u5/\((H 306).ver=u6/\(H 306).live=false)/\(H 353).ver=u53/\(H 363).ver=u63/\True) ⟨(aM<|V.mp 301 (u1+1) 0 0),(aM<|V.mp 302 (u2+1) 0 0),(aM<|V.mp 303 (u3+1) 0 0),(aM<|iV 0),(bG (bG (bG (λ_ _=>J) DE) DE) DE),J,J,J,h305,h306,h353,h363,trivial⟩ ?_
 intro T H ⟨t1,t2,t3,t4,hF,h301,h302,h303,h305,h306,h353,h363,_⟩;refine .lazyCell 353 108 5 303 0 0 [V.nilsl] DE (by rw [h303]; rfl) (by rw [h303]; rfl) J (.done ?_);refine eJ (R:=λT H=>T 1=(V.mp 301 (u1+1) 0 0)/\T 2=(V.mp 302 (u2+1) 0 0)/\T 3=(V.mp 303 (u3+1) 0 0)/\T 4=(iV 0)/\(∀ j,j∉[301,302,303,305,306,363,353]->H j=Hi j)/\H 301=(bk (u1+1) 47 1 [[(V.sl<|List.map cN t.nd)]])/\H 302=(bk (u2+1) 47 1 [[V.nilsl]])/\H 303=(bk (u3+1) 47 1 [[(V.ms 353 (u53+1) 0 0)]])/\(H 305).ver=u5/\((H 306).ver=u6/\(H 306).live=false)/\H 353=(bz (u53+1) 108 5 [])/\(H 363).ver=u63/\True) ⟨t1,t2,t3,t4,(bG (bG hF DE) DE),(gB<|gB h301),(gB<|gB h302),(by rw [aU,h303,h353]; rfl),((cE<|gB<|cD _ _ DE).trans h305),⟨(cE<|gB<|cD _ _ DE).trans h306.1,(congrArg Blk.live<|gB<|cD _ _ DE).trans h306.2⟩,(by rw [cD _ _ DE,aU,h353]),((cE<|gB<|cD _ _ DE).trans h363),trivial⟩ ?_;intro T H ⟨t1,t2,t3,t4,hF,h301,h302,h303,h305,h306,h353,h363,_⟩;refine aG λQ1 n1 x1 y1 z1=>?_;refine cC (λmm T H=> ∃ (k:Nat) (v363:Nat) (v305:Nat) (v306:Nat),mm=t.nd.length - k/\T 1=(V.mp 301 (u1+1) 0 0)/\T 2=(V.mp 302 (u2+1) 0 0)/\T 3=(V.mp 303 (u3+1) 0 0)/\T 4=(iV ((k:Nat):Int))/\(∀ j,j∉[301,302,303,305,306,363,353]->H j=Hi j)/\H 301=(bk (u1+1) 47 1 [[(V.sl<|List.map cN t.nd)]])/\H 302=(bk (u2+1) 47 1 [[V.nilsl]])/\H 303=(bk (u3+1) 47 1 [[(V.ms 353 (u53+1+k) 0 k)]])/\(H 305).ver=v305/\((H 306).ver=v306/\(H 306).live=false)/\H 353=(bz (u53+1+k) 108 5<|List.map cN<|t.nd.take k)/\(H 363).ver=v363/\(k<=t.nd.length)/\(v305=u5+k)/\(v306=u6+k)/\(v363<=u63+k*1048579)) ?_ ?_
 . 
  refine ⟨_,0,u63,u5,u6,J,t1,t2,t3,(bL t4 J),hF,h301,h302,(bL h303 JR),h305,h306,(bL h353 JR),h363,?_,?_,?_,?_⟩
  . omega
  . omega
  . omega
  . omega
 intro mm T H ⟨k,v363,v305,v306,hmm,t1,t2,t3,t4,hF,h301,h302,h303,h305,h306,h353,h363,hk,hv5,hv6,hv63⟩ Q2 p12 p22 p32;have q0:(t.nd.take k).length=k:=by rw [List.length_take]; omega
 refine aO<|aJ t4<|aX t1 h301 J J<|bA J<|bZ J J<|bR ?_
 refine aH J (λc3=>?_) λc3=>?_
 . 
  have r1:=hb.ac k OM;have r2:=hb.sf k OM;have r3:=hb.ou k OM;have r4:=hb.kd k OM;have r5:=hb.ol k OM;refine aB (aG λQ4 n4 x4 y4 z4=>(aW<|aX t1 h301 J J<|aJ t4<|dA (i:=k) (aM<|V.sl<|List.map cN t.nd) (cO k)<|aL J J<|bM (i:=305) (n:=v305) (m:=5) JR h305 J<|bQ J J J J J J J J J<|bR<|W_d (by exact (oP h306.2 qQ))<|aX J J J J<|aX J J J J ?_));refine aS J J<|aI (eB ([(aA t.nd k).ac]) (by simp only [bD,List.append_nil]; omega)) J<|aX J J J J<|aS J J<|aI (eB ([(aA t.nd k).sf]) (by simp only [bD,List.append_nil]; omega)) J<|aX J J J J<|aS J J<|aI (eB ([(aA t.nd k).kd]) (by simp only [bD,List.append_nil]; omega)) J<|bN J J<|bM (i:=306) (n:=v306) (m:=5) JR h306.1 J<|bQ J J J J J J J J J<|tA<|W_g ?_
  refine aD<|eJ (R:=λT H=>T 1=(V.mp 301 (u1+1) 0 0)/\T 2=(V.mp 302 (u2+1) 0 0)/\T 3=(V.mp 303 (u3+1) 0 0)/\T 4=(iV ((k:Nat):Int))/\T 5=(V.mp 305 (v305+1) 0 0)/\T 6=(V.mp 306 (v306+1) 0 0)/\T 7=(iV 0)/\(∀ j,j∉[301,302,303,305,306,363,353]->H j=Hi j)/\H 301=(bk (u1+1) 47 1 [[(V.sl<|List.map cN t.nd)]])/\H 302=(bk (u2+1) 47 1 [[V.nilsl]])/\H 303=(bk (u3+1) 47 1 [[(V.ms 353 (u53+1+k) 0 k)]])/\H 305=(bk (v305+1) 108 5 [(cN<|aA t.nd k)])/\H 306=(bk (v306+1) 108 5 [[(V.bool<|(aA t.nd k).lf),(aE<|bD<|[(aA t.nd k).ac]),(aE<|bD<|[(aA t.nd k).sf]),V.nilsl,(aE<|bD<|[(aA t.nd k).kd])]])/\H 353=(bz (u53+1+k) 108 5<|List.map cN<|t.nd.take k)/\(H 363).ver=v363/\True) ⟨t1,t2,t3,t4,(aM<|V.mp 305 (v305+1) 0 0),(aM<|V.mp 306 (v306+1) 0 0),(aM<|iV 0),(bG (bG (bG (bG hF DE) DE) DE) DE),h301,h302,h303,J,J,h353,h363,trivial⟩ ?_
  intro T H ⟨t1,t2,t3,t4,t5,t6,t7,hF,h301,h302,h303,h305,h306,h353,h363,_⟩;refine .lazyCell 363 54 1 306 0 3 [(V.bool<|(aA t.nd k).lf),(aE<|bD<|[(aA t.nd k).ac]),(aE<|bD<|[(aA t.nd k).sf]),V.nilsl,(aE<|bD<|[(aA t.nd k).kd])] DE (by rw [h306]; rfl) (by rw [h306]; rfl) J (.done ?_);refine eJ (R:=λT H=>T 1=(V.mp 301 (u1+1) 0 0)/\T 2=(V.mp 302 (u2+1) 0 0)/\T 3=(V.mp 303 (u3+1) 0 0)/\T 4=(iV ((k:Nat):Int))/\T 5=(V.mp 305 (v305+1) 0 0)/\T 6=(V.mp 306 (v306+1) 0 0)/\T 7=(iV 0)/\(∀ j,j∉[301,302,303,305,306,363,353]->H j=Hi j)/\H 301=(bk (u1+1) 47 1 [[(V.sl<|List.map cN t.nd)]])/\H 302=(bk (u2+1) 47 1 [[V.nilsl]])/\H 303=(bk (u3+1) 47 1 [[(V.ms 353 (u53+1+k) 0 k)]])/\H 305=(bk (v305+1) 108 5 [(cN<|aA t.nd k)])/\H 306=(bk (v306+1) 108 5 [[(V.bool<|(aA t.nd k).lf),(aE<|bD<|[(aA t.nd k).ac]),(aE<|bD<|[(aA t.nd k).sf]),(V.ms 363 (v363+1) 0 0),(aE<|bD<|[(aA t.nd k).kd])]])/\H 353=(bz (u53+1+k) 108 5<|List.map cN<|t.nd.take k)/\H 363=(bz (v363+1) 54 1 [])/\True) ⟨t1,t2,t3,t4,t5,t6,t7,(bG (bG hF DE) DE),(gB<|gB h301),(gB<|gB h302),(gB<|gB h303),(gB<|gB h305),(by rw [aU,h306,h363]; rfl),(gB<|gB h353),(by rw [cD _ _ DE,aU,h363]),trivial⟩ ?_;intro T H ⟨t1,t2,t3,t4,t5,t6,t7,hF,h301,h302,h303,h305,h306,h353,h363,_⟩;refine aG λQ5 n5 x5 y5 z5=>?_;refine cC (λmm T H=> ∃ (j:Nat) (w:Nat),mm=(aA t.nd k).ou.length - j/\T 1=(V.mp 301 (u1+1) 0 0)/\T 2=(V.mp 302 (u2+1) 0 0)/\T 3=(V.mp 303 (u3+1) 0 0)/\T 4=(iV ((k:Nat):Int))/\T 5=(V.mp 305 (v305+1) 0 0)/\T 6=(V.mp 306 (v306+1) 0 0)/\T 7=(iV ((j:Nat):Int))/\(∀ j,j∉[301,302,303,305,306,363,353]->H j=Hi j)/\H 301=(bk (u1+1) 47 1 [[(V.sl<|List.map cN t.nd)]])/\H 302=(bk (u2+1) 47 1 [[V.nilsl]])/\H 303=(bk (u3+1) 47 1 [[(V.ms 353 (u53+1+k) 0 k)]])/\H 305=(bk (v305+1) 108 5 [(cN<|aA t.nd k)])/\H 306=(bk (v306+1) 108 5 [[(V.bool<|(aA t.nd k).lf),(aE<|bD [(aA t.nd k).ac]),(aE<|bD [(aA t.nd k).sf]),(V.ms 363 w 0 j),(aE<|bD [(aA t.nd k).kd])]])/\H 353=(bz (u53+1+k) 108 5<|List.map cN<|t.nd.take k)/\H 363=(bz w 54 1<|List.map cL<|(aA t.nd k).ou.take j)/\(j<=(aA t.nd k).ou.length)/\(w<=v363+1+j)) ?_ ?_
  . 
   refine ⟨_,0,(v363+1),J,t1,t2,t3,t4,t5,t6,(bL t7 J),hF,h301,h302,h303,h305,(bL h306 JR),h353,(bL h363 JR),?_,?_⟩
   . omega
   . omega
  intro mm T H ⟨j,w,hmm,t1,t2,t3,t4,t5,t6,t7,hF,h301,h302,h303,h305,h306,h353,h363,hj,hw⟩ Q6 p16 p26 p36;have q1:((aA t.nd k).ou.take j).length=j:=by rw [List.length_take]; omega
  refine aO<|aJ t7<|aX t5 h305 J J<|bA J<|bZ J J<|bR ?_
  refine aH J (λc7=>?_) λc7=>?_
  . 
   have r6:=r5 j OM;refine aB (aG λQ8 n8 x8 y8 z8=>(eI<|aX t6 h306 J J<|aX t5 h305 J J<|aJ t7<|dA (i:=j) (aM<|aC<|(aA t.nd k).ou) (cO j)<|aL J J<|aS J J<|aI (eB ([(aA ((aA t.nd k).ou) j)]) (by simp only [bD,List.append_nil]; omega)) J<|aS J J<|eX (l:=((aA t.nd k).ou.take j)) (f:=cL) (x:=(bD<|[(aA ((aA t.nd k).ou) j)])) (aM<|V.ms 363 w 0 j) h363 (by (rw [List.length_take]; omega)) (aM<|V.sl [[(aE<|bD<|[(aA ((aA t.nd k).ou) j)])]])<|cM t6 h306<|bQ J J J h306 J J J J J ?_));refine bR<|n8 _ _ (.done (eI<|aJ t7<|cF J<|aD ?_))
   refine p16 _ _ _ ?_ ⟨(j+1),(w+1),J,t1,t2,t3,t4,t5,t6,(bL (cO<|j+1) JR),(bG (bG hF DE) DE),h301,h302,h303,h305,(bL (@J Blk<|bk (v306+1) 108 5 [[(V.bool<|(aA t.nd k).lf),(aE<|bD [(aA t.nd k).ac]),(aE<|bD [(aA t.nd k).sf]),(V.ms 363 (w+1) 0<|j+1),(aE<|bD [(aA t.nd k).kd])]]) JR),h353,(bL (@J Blk<|bz (w+1) 54 1<|List.map cL<|(aA t.nd k).ou.take j++[bD ([(aA ((aA t.nd k).ou) j)])]) (by (rw [uA (show j < (aA t.nd k).ou.length by omega)]; done))),?_,?_⟩
   . omega
   . omega
   . omega
  refine aT<|p36 _ _ _<|x5 _ _ ?_
  refine gI (id:=363) (id2:=306) (rows:=[[(V.bool<|(aA t.nd k).lf),(aE<|bD [(aA t.nd k).ac]),(aE<|bD [(aA t.nd k).sf]),(V.ms 363 w 0 j),(aE<|bD [(aA t.nd k).kd])]]) (i:=0) (off:=3) (r:=[(V.bool<|(aA t.nd k).lf),(aE<|bD [(aA t.nd k).ac]),(aE<|bD [(aA t.nd k).sf]),(V.ms 363 w 0 j),(aE<|bD [(aA t.nd k).kd])]) (m:=((aA t.nd k).ou.take j)) (g:=cL) DE h363 h306 (by (simp; done)) (by (rw [List.length_take]; omega)) J (.done ?_);refine eI<|cM (bB (id:=363) t3 J) (aR (id:=363) h303 DE)<|aV J (aR (id:=363) h303 DE) J J<|aV (bB (id:=363) t6 J) J J J<|aS J J<|eX (l:=(t.nd.take k)) (f:=cN) (x:=(⟨(aA t.nd k).lf,bD [(aA t.nd k).ac],bD [(aA t.nd k).sf],(aA t.nd k).ou.take j,bD [(aA t.nd k).kd]⟩:Nd)) (aM<|V.ms 353 (u53+1+k) 0 k) (aR (id:=363) h353 DE) (by (rw [List.length_take]; omega)) (aM<|V.sl [[(V.bool<|(aA t.nd k).lf),(aE<|bD [(aA t.nd k).ac]),(aE<|bD [(aA t.nd k).sf]),(aC<|(aA t.nd k).ou.take j),(aE<|bD [(aA t.nd k).kd])]])<|cM (bB (id:=363) t3 J) (aR (id:=363) h303 DE)<|bQ J J J (aR (id:=363) h303 DE) J J J J J<|bR<|n4 _ _ ?_
  refine .freeze 306 (.done ?_);refine eI<|aJ (bB (bB (id:=363) t4 J) J)<|cF J<|aD ?_
  refine p12 _ _ _ ?_ ⟨(k+1),w,(v305+1),(v306+1),J,(bB (bB (id:=363) t1 J) J),(bB (bB (id:=363) t2 J) J),(bB (bB (id:=363) t3 J) J),(bL (cO<|k+1) JR),(kF (bG (bG (bG (kF hF DE) DE) DE) DE) DE),(aR (id:=306) (aR (id:=363) h301 DE) DE),(aR (id:=306) (aR (id:=363) h302 DE) DE),(bL (@J Blk<|bk (u3+1) 47 1 [[(V.ms 353 (u53+1+k+1) 0<|k+1)]]) JR),(cE<|aR (id:=306) (aR (id:=363) h305 DE) DE),⟨J,J⟩,(bL (@J Blk<|bz (u53+1+k+1) 108 5<|List.map cN<|t.nd.take k++[(⟨(aA t.nd k).lf,bD [(aA t.nd k).ac],bD [(aA t.nd k).sf],(aA t.nd k).ou.take j,bD [(aA t.nd k).kd]⟩:Nd)]) (by (rw [aPu (show (aA t.nd k).ou.length<=j by omega),<- cV (show k < t.nd.length by omega)]; rfl))),(gS (id:=306)<|gH (id:=363)<|cE h363).1,?_,?_,?_,?_⟩
  . omega
  . omega
  . omega
  . omega
  . omega
 refine aT<|p32 _ _ _<|x1 _ _ (.done (aW<|aV t3 h303 J J<|bQ t2 J J h302 J J J J J<|R_q<|eJ (R:=λT H=>T 2=(V.mp 302 (u2+1) 0 0)/\(∀ j,j∉[301,302,303,305,306,363,353]->H j=Hi j)/\H 301=(bk (u1+1) 47 1 [[(V.sl<|List.map cN t.nd)]])/\H 302=(bk (u2+1) 47 1 [[(V.ms 353 (u53+1+k) 0 k)]])/\H 303=(bk (u3+1) 47 1 [[(V.ms 353 (u53+1+k) 0 k)]])/\(H 305).ver=v305/\((H 306).ver=v306/\(H 306).live=false)/\H 353=(bz (u53+1+k) 108 5<|List.map cN<|t.nd.take k)/\(H 363).ver=v363/\True) ⟨t2,(bG hF DE),h301,J,h303,h305,h306,h353,h363,trivial⟩ ?_))
 intro T H ⟨t2,hF,h301,h302,h303,h305,h306,h353,h363,_⟩;have hkn:k=t.nd.length:=OM
 rw [hkn] at hv5 hv6 hv63;have fh:=dK.fin<|dK.put (B:=(bz (u53+1+t.nd.length) 108 5<|List.map cN t.nd)) (dK.putv (n:=v363) (B:=(⟨u63+t.nd.length*1048579,false,false,0,0,[]⟩:Blk)) (dK.putv (n:=v306) (B:=(⟨u6+t.nd.length,false,false,0,0,[]⟩:Blk)) (dK.putv (n:=v305) (B:=(⟨u5+t.nd.length,false,false,0,0,[]⟩:Blk)) (dK.putv (n:=(u3+1)) (B:=(⟨u3+1,false,false,0,0,[]⟩:Blk)) (dK.putv (n:=(u2+1)) (B:=(⟨u2+1,false,false,0,0,[]⟩:Blk)) (dK.putv (n:=(u1+1)) (B:=(⟨u1+1,false,false,0,0,[]⟩:Blk)) (dK.start hF) (cE h301) (by show _<=u1+1; omega) J) (cE h302) (by show _<=u2+1; omega) J) (cE h303) (by show _<=u3+1; omega) J) h305 (by show _<=u5+t.nd.length; omega) J) h306.1 (by show _<=u6+t.nd.length; omega) J) h363 (by show _<=u63+t.nd.length*1048579; omega) J) h353<|iZ.up OM (by (rw [hkn,List.take_length]; done))
 exact aEd (bI (u:=(V.agg [(V.ms 353 (u53+1+k) 0 k)])) t2 h302<|lB oB J J) fh<|eY.agg1<|eY.trans_eq (eY.ms (n:=(u53+1+t.nd.length)) fh (by simp [h353]) (by simp [h353]) J J) (by (rw [hkn]; done))
theorem aB0 (x:Nd) (aQ:List Int) (kid:Int) (hl:x.ou.length=x.kd.length) (hb:x.kd.length<=1048576):bK Tryz.prog 127 [(V.agg (cN x)),(aE aQ),(iV kid)] (V.agg (cN (oM x aQ kid))):=by
 refine' pK [] [] Tryz.func127 ?e λhB=>?_
 case e=>conv=>lhs; cbv
 dsimp only;refine aW<|bS (i:=3) (n:=0) (m:=5) (cs:=[(V.bool x.lf),(aE x.ac),(aE x.sf),(aC x.ou),(aE x.kd)]) J (cE J) J J J<|bM (i:=6) (n:=0) (m:=5) J (cE J) J<|qV<|aX J J J J<|bN J J<|bM (i:=7) (n:=0) (m:=5) J (cE J) J<|bQ J J J J J J J J J<|qV<|aD<|cS<|W_g ?_
 refine aD<|eJ (R:=λT H=>T 1=(aE aQ)/\T 2=(iV kid)/\T 3=(cG 3)/\T 6=(cG 6)/\T 7=(cG 7)/\T 8=(V.bool false)/\T 9=(iV 0)/\H 3=(bk 1 108 5 [(cN x)])/\H 6=(bk 1 108 5 [[(V.bool false),V.nilsl,V.nilsl,V.nilsl,V.nilsl]])/\H 7=(bk 1 108 5 [[(V.bool false),V.nilsl,(aE x.sf),V.nilsl,V.nilsl]])/\H 703=fL/\H 704=fL/\True) ⟨(aM<|aE aQ),(aM<|iV kid),(aM<|cG 3),(aM<|cG 6),(aM<|cG 7),(aM<|V.bool false),(aM<|iV 0),J,J,J,J,J,trivial⟩ ?_
 intro T H ⟨t1,t2,t3,t6,t7,t8,t9,h3,h6,h7,h703,h704,_⟩;refine .lazyCell 703 54 1 7 0 3 [(V.bool false),V.nilsl,(aE x.sf),V.nilsl,V.nilsl] DE (by rw [h7]; rfl) (by rw [h7]; rfl) J (eJ (R:=λT H=>T 1=(aE aQ)/\T 2=(iV kid)/\T 3=(cG 3)/\T 6=(cG 6)/\T 7=(cG 7)/\T 8=(V.bool false)/\T 9=(iV 0)/\H 3=(bk 1 108 5 [(cN x)])/\H 6=(bk 1 108 5 [[(V.bool false),V.nilsl,V.nilsl,V.nilsl,V.nilsl]])/\H 7=(bk 1 108 5 [[(V.bool false),V.nilsl,(aE x.sf),(V.ms 703 1 0 0),V.nilsl]])/\H 703=(bz 1 54 1 [])/\H 704=fL/\True) ⟨t1,t2,t3,t6,t7,t8,t9,(gB<|gB h3),(gB<|gB h6),(by rw [aU,h7,(cE h703)]; rfl),(by rw [cD _ _ DE,aU,(cE h703)]),(gB<|gB h704),trivial⟩ ?_);intro T H ⟨t1,t2,t3,t6,t7,t8,t9,h3,h6,h7,h703,h704,_⟩;refine .lazyCell 704 3 1 7 0 4 [(V.bool false),V.nilsl,(aE x.sf),(V.ms 703 1 0 0),V.nilsl] DE (by rw [h7]; rfl) (by rw [h7]; rfl) J (.done ?_);refine eJ (R:=λT H=>T 1=(aE aQ)/\T 2=(iV kid)/\T 3=(cG 3)/\T 6=(cG 6)/\T 7=(cG 7)/\T 8=(V.bool false)/\T 9=(iV 0)/\H 3=(bk 1 108 5 [(cN x)])/\H 6=(bk 1 108 5 [[(V.bool false),V.nilsl,V.nilsl,V.nilsl,V.nilsl]])/\H 7=(bk 1 108 5 [[(V.bool false),V.nilsl,(aE x.sf),(V.ms 703 1 0 0),(V.ms 704 1 0 0)]])/\H 703=(bz 1 54 1 [])/\H 704=(bz 1 3 1 [])/\True) ⟨t1,t2,t3,t6,t7,t8,t9,(gB<|gB h3),(gB<|gB h6),(by rw [aU,h7,(cE h704)]; rfl),(gB<|gB h703),(by rw [cD _ _ DE,aU,(cE h704)]),trivial⟩ ?_;intro T H ⟨t1,t2,t3,t6,t7,t8,t9,h3,h6,h7,h703,h704,_⟩;refine aG λQ1 n1 x1 y1 z1=>?_;refine cC (λmm T H=> ∃ (k:Nat) (w:Nat) (w2:Nat),mm=x.kd.length - k/\T 1=(aE aQ)/\T 2=(iV kid)/\T 3=(cG 3)/\T 6=(cG 6)/\T 7=(cG 7)/\T 8=(V.bool<|decide (pN x.ou aQ < k))/\T 9=(iV ((k:Nat):Int))/\H 3=(bk 1 108 5 [(cN x)])/\H 6=(bk 1 108 5 [[(V.bool false),V.nilsl,V.nilsl,V.nilsl,V.nilsl]])/\H 7=(bk 1 108 5 [[(V.bool false),V.nilsl,(aE x.sf),(V.ms 703 w 0<|(lF (pN x.ou aQ) aQ x.ou k).length),(V.ms 704 w2 0<|(lF (pN x.ou aQ) kid x.kd k).length)]])/\H 703=(bz w 54 1<|List.map cL<|lF (pN x.ou aQ) aQ x.ou k)/\H 704=(bz w2 3 1<|List.map cI<|lF (pN x.ou aQ) kid x.kd k)/\(k<=x.kd.length)) ?_ ?_
 . 
  refine ⟨_,0,1,1,J,t1,t2,t3,t6,t7,(bL t8 JR),(bL t9 J),h3,h6,(bL h7 JR),(bL h703 JR),(bL h704 JR),?_⟩
  . omega
 intro mm T H ⟨k,w,w2,hmm,t1,t2,t3,t6,t7,t8,t9,h3,h6,h7,h703,h704,hk⟩ Q2 p12 p22 p32;have q1:=aHp (p:=pN x.ou aQ) (x:=aQ) (show k<=x.ou.length by omega);have q2:=aHp (p:=pN x.ou aQ) (x:=kid) hk;have q3:(lF (pN x.ou aQ) aQ x.ou k).length<=k+1:=by rw [q1]; split <;> omega
 have q4:(lF (pN x.ou aQ) kid x.kd k).length<=k+1:=by rw [q2]; split <;> omega
 refine aO<|aJ t9<|aX t3 h3 J J<|bA J<|bZ J J<|bR ?_
 refine aH J (λc3=>?_) λc3=>?_
 . 
  refine aB (aG λQ4 n4 x4 y4 z4=>(aO<|aJ t8<|qT J<|aP ?_));refine bU 9 (λT H=>T 1=(aE aQ)/\T 2=(iV kid)/\T 3=(cG 3)/\T 6=(cG 6)/\T 7=(cG 7)/\T 8=(V.bool<|decide (pN x.ou aQ < k))/\T 9=(iV ((k:Nat):Int))/\T 31=(V.bool<|decide ((¬(pN x.ou aQ < k))/\((cY aQ<|aA x.ou k) < (0:Int))))/\H 3=(bk 1 108 5 [(cN x)])/\H 6=(bk 1 108 5 [[(V.bool false),V.nilsl,V.nilsl,V.nilsl,V.nilsl]])/\H 7=(bk 1 108 5 [[(V.bool false),V.nilsl,(aE x.sf),(V.ms 703 w 0<|(lF (pN x.ou aQ) aQ x.ou k).length),(V.ms 704 w2 0<|(lF (pN x.ou aQ) kid x.kd k).length)]])/\H 703=(bz w 54 1<|List.map cL<|lF (pN x.ou aQ) aQ x.ou k)/\H 704=(bz w2 3 1<|List.map cI<|lF (pN x.ou aQ) kid x.kd k)/\True) ?_ ?_
  . 
   by_cases g5: ¬(pN x.ou aQ < k)
   . 
    refine aN (bY g5 J)<|aJ t1<|aN (bY g5 J)<|cM t3 h3<|aN (bY g5 J)<|aV J h3 J J<|aN (bY g5 J)<|aJ t9<|aN (bY g5 J)<|dA (i:=k) (aM<|aC x.ou) (cO k)<|aN (bY g5 J)<|aL J J<|aN (bY g5 J)<|aI (aAw aQ<|aA x.ou k) J<|aN (bY g5 J)<|bZ J J ?_
    refine bV (bY g5 J) J ?_;exact ⟨t1,t2,t3,t6,t7,t8,t9,(eT g5),h3,h6,h7,h703,h704,trivial⟩
   . 
    refine bW (bX g5 J)<|bW (bX g5 J)<|bW (bX g5 J)<|bW (bX g5 J)<|bW (bX g5 J)<|bW (bX g5 J)<|bW (bX g5 J)<|bW (bX g5 J)<|bT (bX g5 J) J ?_
    exact ⟨t1,t2,t3,t6,t7,t8,t9,(eU g5),h3,h6,h7,h703,h704,trivial⟩
  intro T H ⟨t1,t2,t3,t6,t7,t8,t9,t31,h3,h6,h7,h703,h704,_⟩;refine bR ?_;refine aH t31 (λc6=>?_) λc6=>?_
  . 
   have d1:=aPr c6;refine aO<|aX t7 h7 J J<|aJ t1<|aS J J<|eX (l:=(lF (pN x.ou aQ) aQ x.ou k)) (f:=cL) (x:=aQ) (aM<|V.ms 703 w 0<|(lF (pN x.ou aQ) aQ x.ou k).length) h703 JR (aM<|V.sl [[(aE aQ)]])<|cM t7 h7<|bQ J J J h7 J J J J J<|tA<|aW<|aX t7 J J J<|aJ t2<|aS J J ?_
   refine eX (l:=(lF (pN x.ou aQ) kid x.kd k)) (f:=cI) (x:=kid) (aM<|V.ms 704 w2 0<|(lF (pN x.ou aQ) kid x.kd k).length) h704 JR (aM<|V.sl [[(iV kid)]])<|cM t7 J<|bQ J J J J J J J J J<|qV<|aD<|aW<|aX t7 J J J<|aX t3 h3 J J<|aJ t9<|dA (i:=k) (aM<|aC x.ou) (cO k)<|aL J J<|aS J J ?_
   refine eX (l:=(lF (pN x.ou aQ) aQ x.ou k++[aQ])) (f:=cL) (x:=(aA x.ou k)) (aM<|V.ms 703 (w+1) 0<|((lF (pN x.ou aQ) aQ x.ou k).length)+1) (@J Blk<|bz (w+1) 54 1<|List.map cL<|lF (pN x.ou aQ) aQ x.ou k++[aQ]) SI (aM<|V.sl [[(aE<|aA x.ou k)]])<|cM t7 J<|bQ J J J J J J J J J<|bR ?_
   refine tX (λT H=>T 1=(aE aQ)/\T 2=(iV kid)/\T 3=(cG 3)/\T 6=(cG 6)/\T 7=(cG 7)/\T 8=(V.bool true)/\T 9=(iV ((k:Nat):Int))/\H 3=(bk 1 108 5 [(cN x)])/\H 6=(bk 1 108 5 [[(V.bool false),V.nilsl,V.nilsl,V.nilsl,V.nilsl]])/\H 7=(bk 1 108 5 [[(V.bool false),V.nilsl,(aE x.sf),(V.ms 703 (w+2) 0<|((lF (pN x.ou aQ) aQ x.ou k).length)+2),(V.ms 704 (w2+2) 0<|((lF (pN x.ou aQ) kid x.kd k).length)+2)]])/\H 703=(bz (w+2) 54 1<|List.map cL<|lF (pN x.ou aQ) aQ x.ou k++[aQ]++[(aA x.ou k)])/\H 704=(bz (w2+2) 3 1<|List.map cI<|lF (pN x.ou aQ) kid x.kd k++[kid]++[(aA x.kd k)])/\True) ?_ ?_
   . 
    refine aX t7 J J J<|aX t3 h3 J J<|aJ t9<|dA (i:=k) (aM<|aE x.kd) (cO k)<|aL J J<|aS J J<|eX (l:=(lF (pN x.ou aQ) kid x.kd k++[kid])) (f:=cI) (x:=(aA x.kd k)) (aM<|V.ms 704 (w2+1) 0<|((lF (pN x.ou aQ) kid x.kd k).length)+1) (@J Blk<|bz (w2+1) 3 1<|List.map cI<|lF (pN x.ou aQ) kid x.kd k++[kid]) SI (aM<|V.sl [[(iV<|aA x.kd k)]])<|cM t7 J<|bQ J J J J J J J J J ?_
    exact eS ⟨t1,t2,t3,t6,t7,J,t9,h3,h6,J,J,J,trivial⟩
   intro T H ⟨t1,t2,t3,t6,t7,t8,t9,h3,h6,h7,h703,h704,_⟩;refine n4 _ _ (.done (eI<|aJ t9<|cF J<|aD ?_));refine p12 _ _ _ ?_ ⟨(k+1),(w+2),(w2+2),J,t1,t2,t3,t6,t7,(bL t8 (by (exact congrArg V.bool (decide_eq_true OM).symm))),(bL (cO<|k+1) JR),h3,h6,(bL h7 (by (rw [aBa d1 OM,aBa d1 OM]; simp; done))),(bL h703 (by (rw [aBa d1 OM]; done))),(bL h704 (by (rw [aBa d1 OM]; done))),?_⟩
   . omega
   . omega
  have d1:=aMt OM c6;refine aB<|aW<|aX t7 h7 J J<|aX t3 h3 J J<|aJ t9<|dA (i:=k) (aM<|aC x.ou) (cO k)<|aL J J<|aS J J<|eX (l:=(lF (pN x.ou aQ) aQ x.ou k)) (f:=cL) (x:=(aA x.ou k)) (aM<|V.ms 703 w 0<|(lF (pN x.ou aQ) aQ x.ou k).length) h703 JR (aM<|V.sl [[(aE<|aA x.ou k)]])<|cM t7 h7<|bQ J J J h7 J J J J J<|bR<|eI<|cM t7 J ?_
  refine aV J J J J<|aX t3 h3 J J<|aJ t9<|dA (i:=k) (aM<|aE x.kd) (cO k)<|aL J J<|aS J J<|eX (l:=(lF (pN x.ou aQ) kid x.kd k)) (f:=cI) (x:=(aA x.kd k)) (aM<|V.ms 704 w2 0<|(lF (pN x.ou aQ) kid x.kd k).length) h704 JR (aM<|V.sl [[(iV<|aA x.kd k)]])<|cM t7 J<|bQ J J J J J J J J J<|bR<|n4 _ _ (.done (eI<|aJ t9<|cF J ?_))
  refine aD ?_;refine p12 _ _ _ ?_ ⟨(k+1),(w+1),(w2+1),J,t1,t2,t3,t6,t7,(bL t8 (by (exact congrArg V.bool<|decide_eq_decide.2 OM))),(bL (cO<|k+1) JR),h3,h6,(bL (@J Blk<|bk 1 108 5 [[(V.bool false),V.nilsl,(aE x.sf),(V.ms 703 (w+1) 0<|((lF (pN x.ou aQ) aQ x.ou k).length)+1),(V.ms 704 (w2+1) 0<|((lF (pN x.ou aQ) kid x.kd k).length)+1)]]) (by (rw [vS OM d1,vS OM d1]; simp; done))),(bL (@J Blk<|bz (w+1) 54 1<|List.map cL<|lF (pN x.ou aQ) aQ x.ou k++[(aA x.ou k)]) (by (rw [vS OM d1]; done))),(bL (@J Blk<|bz (w2+1) 3 1<|List.map cI<|lF (pN x.ou aQ) kid x.kd k++[(aA x.kd k)]) (by (rw [vS OM d1]; done))),?_⟩
  . omega
  . omega
 refine aT<|p32 _ _ _<|x1 _ _ (.done (aO<|aJ t8<|qT J<|bR ?_))
 refine aH J (λc7=>?_) λc7=>?_
 . 
  have d3: ¬(pN x.ou aQ < k):=by simpa using c7
  refine aO<|aX t7 h7 J J<|aJ t1<|aS J J<|eX (l:=(lF (pN x.ou aQ) aQ x.ou k)) (f:=cL) (x:=aQ) (aM<|V.ms 703 w 0<|(lF (pN x.ou aQ) aQ x.ou k).length) h703 JR (aM<|V.sl [[(aE aQ)]])<|cM t7 h7<|bQ J J J h7 J J J J J<|qV<|aX t7 J J J<|aJ t2<|aS J J<|eX (l:=(lF (pN x.ou aQ) kid x.kd k)) (f:=cI) (x:=kid) (aM<|V.ms 704 w2 0<|(lF (pN x.ou aQ) kid x.kd k).length) h704 JR (aM<|V.sl [[(iV kid)]]) ?_
  refine cM t7 J<|bQ J J J J J J J J J<|qV<|aV t7 J J J<|bQ t6 J J h6 J J J J J<|R_q ?_
  refine uI (bI (u:=(V.agg [(V.bool false),V.nilsl,(aE x.sf),(V.ms 703 (w+1) 0<|((lF (pN x.ou aQ) aQ x.ou k).length)+1),(V.ms 704 (w2+1) 0<|((lF (pN x.ou aQ) kid x.kd k).length)+1)])) t6 (@J Blk<|bk 1 108 5 [[(V.bool false),V.nilsl,(aE x.sf),(V.ms 703 (w+1) 0<|((lF (pN x.ou aQ) aQ x.ou k).length)+1),(V.ms 704 (w2+1) 0<|((lF (pN x.ou aQ) kid x.kd k).length)+1)]])<|lB oB J J)<|fH (cH ?_) (bH ?_) (cA ?_ (λ_=>by simp)) (iK (@J Blk<|bz (w+1) 54 1<|List.map cL<|lF (pN x.ou aQ) aQ x.ou k++[aQ]) SI (l:=(lF (pN x.ou aQ) aQ x.ou k++[aQ])) J SI (λ_=>by simp) ?_)<|iK (@J Blk<|bz (w2+1) 3 1<|List.map cI<|lF (pN x.ou aQ) kid x.kd k++[kid]) SI (l:=(lF (pN x.ou aQ) kid x.kd k++[kid])) J SI (λ_=>by simp) ?_
  . rfl
  . rfl
  . rfl
  . show _=qD (pN x.ou aQ) aQ x.ou; rw [show k=x.ou.length by omega,aER OM]
  . show _=qD (pN x.ou aQ) kid x.kd; rw [show k=x.kd.length by omega,aER OM]
 have d3:pN x.ou aQ < k:=by simpa using c7
 refine aB<|aW<|aV t7 h7 J J<|bQ t6 J J h6 J J J J J<|R_q ?_
 refine uI (bI (u:=(V.agg [(V.bool false),V.nilsl,(aE x.sf),(V.ms 703 w 0<|(lF (pN x.ou aQ) aQ x.ou k).length),(V.ms 704 w2 0<|(lF (pN x.ou aQ) kid x.kd k).length)])) t6 (@J Blk<|bk 1 108 5 [[(V.bool false),V.nilsl,(aE x.sf),(V.ms 703 w 0<|(lF (pN x.ou aQ) aQ x.ou k).length),(V.ms 704 w2 0<|(lF (pN x.ou aQ) kid x.kd k).length)]])<|lB oB J J)<|fH (cH ?_) (bH ?_) (cA ?_ (λ_=>by simp)) (iK h703 SI (l:=(lF (pN x.ou aQ) aQ x.ou k)) J JR (λ_=>by simp) ?_)<|iK h704 SI (l:=(lF (pN x.ou aQ) kid x.kd k)) J JR (λ_=>by simp) ?_
 . rfl
 . rfl
 . rfl
 . show _=qD (pN x.ou aQ) aQ x.ou; rw [show k=x.ou.length by omega,aIs OM]
 . show _=qD (pN x.ou aQ) kid x.kd; rw [show k=x.kd.length by omega,aIs OM]
theorem aG5 (t:Dt) (n:Int) (aQ w:List Int) (hb:Bd t) (ho:aQ.length<=1048576) (hw:w.length<=1048576):bK Tryz.prog 76 [(V.agg [(V.sl (List.map cN t.nd))]),(iV n),(aE aQ),(aE w)] (V.tup [(V.agg [(V.sl (List.map cN ((grT t n aQ w).nd)))]),(iV (jD t n aQ w))]):=by
 refine' pK [] [] Tryz.func76 ?e λhB=>?_
 case e=>conv=>lhs; cbv
 dsimp only;have hbn:=hb.n;refine aW<|bS (i:=4) (n:=0) (m:=1) (cs:=[(V.sl<|List.map cN t.nd)]) J (cE J) J J J<|bM (i:=8) (n:=0) (m:=1) J (cE J) J<|aD<|aO<|aV J J J J<|aI (oX t hb) J<|aD<|aO<|aP<|bP J J<|bR ?_
 refine aH J (λc1=>?_) λc1=>?_
 . 
  refine aO<|aV J J J J<|aP<|bQ J J J J J J J J J<|aD<|aK ?_
  refine dJ (bI (u:=(V.agg [(V.sl<|List.map cN t.nd)])) J (@J Blk<|bk 1 47 1 [[(V.sl<|List.map cN t.nd)]])<|lB oB J J) (aY<|aM<|iV<|gU t) (fE<|cA ?_ (λ_=>by simp))<|aF ?_
  . have z9:jD t n aQ w=gU t:=by
      unfold jD; rw [if_pos OM]
    rw [oH (by rw [z9]; first|exact DE|omega)]
  . have z9:jD t n aQ w=gU t:=by
      unfold jD; rw [if_pos OM]
    exact z9.symm
 have hv:gU t=0:=OM
 refine aB<|aO<|aV J J J J<|aP<|aI (aBR t n false) J<|aD<|aO<|aP<|bP J J<|bR ?_
 refine aH J (λc2=>?_) λc2=>?_
 . 
  refine aO<|aV J J J J<|aP<|bQ J J J J J J J J J<|aD<|aK ?_
  refine dJ (bI (u:=(V.agg [(V.sl<|List.map cN t.nd)])) J (@J Blk<|bk 1 47 1 [[(V.sl<|List.map cN t.nd)]])<|lB oB J J) (aY<|aM<|iV<|noE t n false) (fE<|cA ?_ (λ_=>by simp))<|aF ?_
  . have z9:jD t n aQ w=noE t n false:=by
      unfold jD; rw [if_neg OM,if_pos OM]
    rw [oH (by rw [z9]; first|exact DE|omega)]
  . have z9:jD t n aQ w=noE t n false:=by
      unfold jD; rw [if_neg OM,if_pos OM]
    exact z9.symm
 obtain ⟨n0,n1,n2⟩:=aCR (t:=t) (n:=n) (b:=false) OM;have nb:n.toNat < t.nd.length:=OM
 have hin:=aCg hv nb n2;have hkd:=hb.kd _ nb;have hou:=hb.ou _ nb;refine aB<|aO<|aP<|aX J J J J<|aP<|dR (i:=n) (aM<|V.sl<|List.map cN t.nd) (aM<|iV n) OM OM J<|dB (cs':=(List.drop 2<|cN<|aA t.nd n.toNat)) J J<|aL J J<|aI (oU aQ<|(aA t.nd n.toNat).sf) J<|aD<|aO<|aP ?_
 refine bP J J<|bR ?_
 refine aH J (λc3=>?_) λc3=>?_
 . 
  refine aO<|aV J J J J<|aP<|bQ J J J J J J J J J<|aD<|aK ?_
  refine dJ (bI (u:=(V.agg [(V.sl<|List.map cN t.nd)])) J (@J Blk<|bk 1 47 1 [[(V.sl<|List.map cN t.nd)]])<|lB oB J J) (aY<|aM<|iV<|sJ aQ<|(aA t.nd n.toNat).sf) (fE<|cA ?_ (λ_=>by simp))<|aF ?_
  . have z9:jD t n aQ w=sJ aQ (aA t.nd n.toNat).sf:=by
      unfold jD; rw [if_neg OM,if_neg OM,if_pos OM]
    rw [oH (by rw [z9]; first|exact DE|omega)]
  . have z9:jD t n aQ w=sJ aQ (aA t.nd n.toNat).sf:=by
      unfold jD; rw [if_neg OM,if_neg OM,if_pos OM]
    exact z9.symm
 refine aB<|aO<|aX J J J J<|aP<|dR (i:=n) (aM<|V.sl<|List.map cN t.nd) (aM<|iV n) OM OM J<|aL J J<|aP<|aI (aAY (aA t.nd n.toNat) aQ hin.srt hin.len) J<|iC J J<|bR ?_
 refine aH J (λc4=>?_) λc4=>?_
 . 
  have d5:wX (aA t.nd n.toNat).ou aQ:=Decidable.not_not.1 λe=>by (rw [if_neg e] at c4); omega
  refine aO<|aV J J J J<|bQ J J J J J J J J J<|aD<|aK ?_
  refine dJ (bI (u:=(V.agg [(V.sl<|List.map cN t.nd)])) J (@J Blk<|bk 1 47 1 [[(V.sl<|List.map cN t.nd)]])<|lB oB J J) (aY<|aM<|iV 7) (fE<|cA ?_ (λ_=>by simp))<|aF ?_
  . have z9:jD t n aQ w=7:=by
      unfold jD; rw [if_neg OM,if_neg OM,if_neg OM,if_pos d5]
    rw [oH (by rw [z9]; first|exact DE|omega)]
  . have z9:jD t n aQ w=7:=by
      unfold jD; rw [if_neg OM,if_neg OM,if_neg OM,if_pos d5]
    exact z9.symm
 have d5: ¬wX (aA t.nd n.toNat).ou aQ:=λe=>by (rw [if_pos e] at c4); (have:=hin.kr _<|cW (show kH (aA t.nd n.toNat).ou aQ < (aA t.nd n.toNat).kd.length by have:=e.1; have:=hin.len; omega)); omega
 refine aB<|aO<|aV J J J J<|aP<|aI (aAI t w hb) J<|aD<|aO<|aP<|bP J J<|bR ?_
 refine aH J (λc5=>?_) λc5=>?_
 . 
  refine cS ?_;refine dE (λT H=>T 8=(cG 8)/\T 9=(iV<|fsE t w)/\H 4=(bk 1 47 1 [[(V.sl<|List.map cN t.nd)]])/\H 8=(bk 1 47 1 [[(V.sl<|List.map cN t.nd)]])/\H 14=fL/\H 301=fL/\H 302=fL/\H 303=fL/\H 305=fL/\H 306=fL/\H 353=fL/\H 363=fL/\True) ?_ ?_
  . 
   refine aV J J J J<|aP<|bQ J J J J J J J J J<|aP ?_
   exact eS ⟨J,J,J,J,J,J,J,J,J,J,J,J,trivial⟩
  intro T H ⟨t8,t9,h4,h8,h14,h301,h302,h303,h305,h306,h353,h363,_⟩;refine aK ?_;refine dJ (bI (u:=(V.agg [(V.sl<|List.map cN t.nd)])) t8 h8<|lB oB J J) (aY t9) (fE<|cA ?_ (λ_=>by simp))<|aF ?_
  . have z9:jD t n aQ w=fsE t w:=by
      unfold jD; rw [if_neg OM,if_neg OM,if_neg OM,if_neg d5,if_pos OM]
    rw [oH (by rw [z9]; first|exact DE|omega)]
  . have z9:jD t n aQ w=fsE t w:=by
      unfold jD; rw [if_neg OM,if_neg OM,if_neg OM,if_neg d5,if_pos OM]
    exact z9.symm
 refine aB<|cS ?_
 refine dE (λT H=>T 1=(iV n)/\T 2=(aE aQ)/\T 3=(aE w)/\T 4=(cG 4)/\T 8=(cG 8)/\T 59=(V.bool<|decide ((4096:Int)<=((t.nd.length:Nat):Int)))/\H 4=(bk 1 47 1 [[(V.sl<|List.map cN t.nd)]])/\H 8=(bk 1 47 1 [[V.nilsl]])/\H 14=fL/\H 301=fL/\H 302=fL/\H 303=fL/\H 305=fL/\H 306=fL/\H 353=fL/\H 363=fL/\True) ?_ ?_
 . 
  refine aX J J J J<|bA J<|iC J J ?_
  exact eS ⟨J,J,J,J,J,J,J,J,J,J,J,J,J,J,J,J,trivial⟩
 intro T H ⟨t1,t2,t3,t4,t8,t59,h4,h8,h14,h301,h302,h303,h305,h306,h353,h363,_⟩;refine aH t59 (λc6=>?_) λc6=>?_
 . 
  refine aO<|aV t4 h4 J J<|bQ t8 J J h8 J J J J J<|aD<|aK ?_
  refine dJ (bI (u:=(V.agg [(V.sl<|List.map cN t.nd)])) t8 (@J Blk<|bk 1 47 1 [[(V.sl<|List.map cN t.nd)]])<|lB oB J J) (aY<|aM<|iV 11) (fE<|cA ?_ (λ_=>by simp))<|aF ?_
  . have z9:jD t n aQ w=11:=by
      unfold jD; rw [if_neg OM,if_neg OM,if_neg OM,if_neg d5,if_neg OM,if_pos OM]
    rw [oH (by rw [z9]; first|exact DE|omega)]
  . have z9:jD t n aQ w=11:=by
      unfold jD; rw [if_neg OM,if_neg OM,if_neg OM,if_neg d5,if_neg OM,if_pos OM]
    exact z9.symm
 refine aB<|aW<|aV t4 h4 J J<|gA (bO J dQ) (aC9 t 0 0 0 0 0 0 0 _ hb (cE h301) (cE h302) (cE h303) (cE h305) ⟨cE h306,congrArg Blk.live h306⟩ (cE h353)<|cE h363)<|bM (i:=14) (n:=0) (m:=1) J (cE h14) J<|bQ J J J J J J J J J<|qV<|aX J J J J<|aJ t1<|aX J J J J<|aJ t1<|dV (i:=n) (aM<|V.ms 353 (0+1+t.nd.length) 0 t.nd.length) (aM<|iV n) (@J Blk<|bz (0+1+t.nd.length) 108 5<|List.map cN t.nd) (eC OM) J OM OM<|cQ (v:=(V.agg<|cN<|aA t.nd n.toNat)) J (@J Blk<|bz (0+1+t.nd.length) 108 5<|List.map cN t.nd) (dS OM JR) ?_
 refine aJ t2<|aS J J<|aI (eB ([aQ]) (by simp only [bD,List.append_nil]; omega)) J<|aX t4 h4 J J<|bA J<|aI (aB0 (aA t.nd n.toNat) (bD<|[aQ]) ((t.nd.length:Nat):Int) hin.len hkd) J<|dV (i:=n) (aM<|V.ms 353 (0+1+t.nd.length) 0 t.nd.length) (aM<|iV n) (@J Blk<|bz (0+1+t.nd.length) 108 5<|List.map cN t.nd) (eC OM) J OM OM<|dU (vs:=[(V.bool<|(oM (aA t.nd n.toNat) (bD<|[aQ]) ((t.nd.length:Nat):Int)).lf),(aE<|(oM (aA t.nd n.toNat) (bD<|[aQ]) ((t.nd.length:Nat):Int)).ac),(aE<|(oM (aA t.nd n.toNat) (bD<|[aQ]) ((t.nd.length:Nat):Int)).sf),(aC<|(oM (aA t.nd n.toNat) (bD<|[aQ]) ((t.nd.length:Nat):Int)).ou),(aE<|(oM (aA t.nd n.toNat) (bD<|[aQ]) ((t.nd.length:Nat):Int)).kd)]) (B':=(bz (0+1+t.nd.length) 108 5<|List.map cN<|t.nd.set n.toNat<|oM (aA t.nd n.toNat) (bD<|[aQ]) ((t.nd.length:Nat):Int))) J J J (@J Blk<|bz (0+1+t.nd.length) 108 5<|List.map cN t.nd) (iQ (x:=(oM (aA t.nd n.toNat) (bD<|[aQ]) ((t.nd.length:Nat):Int))) (i:=n.toNat) OM J J J J)<|bR<|W_g<|aX J J J J<|aJ t3<|aS J J<|aI (eB ([w]) (by simp only [bD,List.append_nil]; omega)) J ?_
 refine bN J J<|aS J J<|rW (l:=(t.nd.set n.toNat<|oM (aA t.nd n.toNat) (bD<|[aQ]) ((t.nd.length:Nat):Int))) (f:=cN) (aM<|V.ms 353 (0+1+t.nd.length) 0 t.nd.length) (@J Blk<|bz (0+1+t.nd.length) 108 5<|List.map cN<|t.nd.set n.toNat<|oM (aA t.nd n.toNat) (bD<|[aQ]) ((t.nd.length:Nat):Int)) SI (aM<|V.sl [[(V.bool true),(aE<|bD<|[w]),V.nilsl,V.nilsl,V.nilsl]]) (by simp [eH,V.one]) (by (simp; omega)) (by (simp; omega))<|cM J J<|bQ J J J J J J J J J<|bR ?_
 refine sP (id:=353) (l:=(t.nd.set n.toNat<|oM (aA t.nd n.toNat) (bD<|[aQ]) ((t.nd.length:Nat):Int))) (m:=([(⟨true,bD ([w]),[],[],[]⟩:Nd)])) (f:=cN) (@J Blk<|bz (0+1+t.nd.length+1) 108 5<|List.map cN (t.nd.set n.toNat<|oM (aA t.nd n.toNat) (bD<|[aQ]) ((t.nd.length:Nat):Int))++[[(V.bool true),(aE<|bD<|[w]),V.nilsl,V.nilsl,V.nilsl]]) J (.done ?_);refine aW<|aV J J J J<|bQ t8 J J h8 J J J J J<|aD<|bF ?_
 refine dJ (bI (u:=(V.agg [(V.ms 353 (0+1+t.nd.length+1) 0<|t.nd.length+1)])) t8 (@J Blk<|bk 1 47 1 [[(V.ms 353 (0+1+t.nd.length+1) 0<|t.nd.length+1)]])<|lB oB J J) (aY<|aM<|iV 0) (fE<|iK (@J Blk<|bz (0+1+t.nd.length+1) 108 5<|List.map cN<|t.nd.set n.toNat (oM (aA t.nd n.toNat) (bD<|[aQ]) ((t.nd.length:Nat):Int))++[(⟨true,bD ([w]),[],[],[]⟩:Nd)]) SI (l:=(t.nd.set n.toNat (oM (aA t.nd n.toNat) (bD<|[aQ]) ((t.nd.length:Nat):Int))++[(⟨true,bD ([w]),[],[],[]⟩:Nd)])) J SI (λ_=>by simp) ?_)<|aF ?_
 . have z9:jD t n aQ w=0:=by
     unfold jD; rw [if_neg OM,if_neg OM,if_neg OM,if_neg d5,if_neg OM,if_neg OM]
   rw [aIf z9,<- aPE hin n2 d5]; simp [aGN,vH]
 . have z9:jD t n aQ w=0:=by
     unfold jD; rw [if_neg OM,if_neg OM,if_neg OM,if_neg d5,if_neg OM,if_neg OM]
   exact z9.symm
theorem aG0 (l:Ts) (o:Ob) (hb:Bd l.t) (ho:kS o=0) (hx:(dD l).length<=5000):bK Tryz.prog 29 [(V.agg [(iV l.i),(V.sl (List.map cN l.t.nd))]),(V.agg [(iV o.i),(V.sl (List.map cT o.tr))])] (V.tup [(V.agg [(iV ((cR l o).1.i)),(V.sl (List.map cN ((cR l o).1.t.nd)))]),(aC ((cR l o).2.1)),(V.bool ((cR l o).2.2.1)),(iV ((cR l o).2.2.2))]):=by
 refine' pK [] [⟨16,[0,1,2,3,4,5,6,7,8,9,10,11,12,13,14],[18],[]⟩] Tryz.func29 ?e λhB=>?_
 case e=>conv=>lhs; cbv
 dsimp only;refine aW<|bS (i:=2) (n:=0) (m:=2) (cs:=[(iV l.i),(V.sl<|List.map cN l.t.nd)]) J (cE J) J J J<|bS (i:=3) (n:=0) (m:=2) (cs:=[(iV o.i),(V.sl<|List.map cT o.tr)]) J (cE J) J J J<|bM (i:=4) (n:=0) (m:=2) J (cE J) J<|aP<|aP<|aD<|aO<|aV J J J J<|aV J J J J<|aI (rI l o hb) J<|aD<|cS ?_
 refine aW<|aP<|bP J J<|bR ?_
 refine aH J (λc1=>?_) λc1=>?_
 . 
  have za:=c1;refine aO<|aV J J J J<|aP<|bQ J J J J J J J J J<|aP<|aP<|aD<|aK ?_
  refine gO (bI (u:=(V.agg [(iV l.i),(V.sl<|List.map cN l.t.nd)])) J (@J Blk<|bk 1 49 2 [[(iV l.i),(V.sl<|List.map cN l.t.nd)]])<|lB oB J J) (aY<|aM V.nilsl) (aY<|aM<|V.bool false) (aY<|aM<|iV<|jL l o) (cK (aF ?_)<|cA ?_ (λ_=>by simp)) (bH ?_) (cH ?_)<|aF ?_
  . rw [oG za]
  . rw [oG za]
  . rw [oG za]
  . rw [oG za]
  . rw [oG za]
 have za:=c1;have ht:=aBV (show jL l o=0 by omega);obtain ⟨hi1,hi2,hv,hw0,_,hl0⟩:=tL ht.1;have hbn:=hb.n;refine aB<|aW<|aV J J J J<|aV J J J J<|aI (wD l o hb ht.1 ho hx) J<|aP<|bE J J<|bE J J<|aP<|aD<|aO<|aP<|bP J J<|aP ?_
 refine bU 4 (λT H=>T 2=(cG 2)/\T 3=(cG 3)/\T 4=(cG 4)/\T 9=(aC (if lE l o=0 then oD (rD l o) else []))/\T 10=(iV<|lE l o)/\T 39=(V.bool<|decide (((lE l o)≠(0:Int))\/((0:Int) < (((if lE l o=0 then oD (rD l o) else []).length:Nat):Int))))/\H 2=(bk 1 49 2 [[(iV l.i),(V.sl<|List.map cN l.t.nd)]])/\H 3=(bk 1 31 2 [[(iV o.i),(V.sl<|List.map cT o.tr)]])/\H 4=(bk 1 49 2 [[(iV 0),V.nilsl]])/\H 18=fL/\True) ?_ ?_
 . 
  by_cases g2:(lE l o)≠(0:Int)
  . 
   refine bW (bY g2 J)<|bW (bY g2 J)<|bW (bY g2 J)<|bV (bY g2 J) J ?_
   exact ⟨J,J,J,J,J,(dZ g2),J,J,J,J,trivial⟩
  . 
   refine aN (bX g2 J)<|aP<|aN (bX g2 J)<|bA J<|aN (bX g2 J)<|eD J J<|bT (bX g2 J) J ?_
   exact ⟨J,J,J,J,J,(dX g2),J,J,J,J,trivial⟩
 intro T H ⟨t2,t3,t4,t9,t10,t39,h2,h3,h4,h18,_⟩;refine bR ?_;refine aH t39 (λc3=>?_) λc3=>?_
 . 
  have h39:=c3;refine aO<|aV t2 h2 J J<|aJ t9<|aJ t10<|bQ t4 J J h4 J J J J J<|aP<|aP<|aD<|aK ?_
  refine gO (bI (u:=(V.agg [(iV l.i),(V.sl<|List.map cN l.t.nd)])) t4 (@J Blk<|bk 1 49 2 [[(iV l.i),(V.sl<|List.map cN l.t.nd)]])<|lB oB J J) (aY<|aM<|aC (if lE l o=0 then oD (rD l o) else [])) (aY<|aM<|V.bool false) (aY<|aM<|iV<|lE l o) (cK (aF ?_)<|cA ?_ (λ_=>by simp)) (cA ?_ (λ_=>by simp)) (cH ?_)<|aF ?_
  . by_cases zb:lE l o≠0
    . rw [oL za zb]
    . rw [lC za zb (by rw [if_pos OM] at h39; omega)]
  . by_cases zb:lE l o≠0
    . rw [oL za zb]
    . rw [lC za zb (by rw [if_pos OM] at h39; omega)]
  . by_cases zb:lE l o≠0
    . rw [oL za zb]; exact if_neg zb
    . rw [lC za zb (by rw [if_pos OM] at h39; omega)]; exact if_pos OM
  . by_cases zb:lE l o≠0
    . rw [oL za zb]
    . rw [lC za zb (by rw [if_pos OM] at h39; omega)]
  . by_cases zb:lE l o≠0
    . rw [oL za zb]
    . rw [lC za zb (by rw [if_pos OM] at h39; omega)]; exact Decidable.not_not.1 zb
 have zb: ¬lE l o≠0:=OM
 have zc: ¬0 < (oD<|rD l o).length:=by have q:=c3; rw [if_pos (show lE l o=0 by omega)] at q; omega
 refine aB<|aW<|aV t2 h2 J J<|aI (aB8 l hb ht.1) J<|aD<|aO<|aD (aG λQ4 n4 x4 y4 z4=>?_)
 refine cC (λmm T H=> ∃ (k:Nat) (v18:Nat),mm=((dD l).length) - k/\T 2=(cG 2)/\T 3=(cG 3)/\T 4=(cG 4)/\T 11=(aC<|dD l)/\T 12=(iV ((k:Nat):Int))/\H 2=(bk 1 49 2 [[(iV l.i),(V.sl<|List.map cN l.t.nd)]])/\H 3=(bk 1 31 2 [[(iV o.i),(V.sl<|List.map cT o.tr)]])/\H 4=(bk 1 49 2 [[(iV 0),V.nilsl]])/\((H 18).ver=v18/\(H 18).live=false)/\(k<=(dD l).length)/\(qF l o=fi (wC l o) k ((dD l).length - k))) ?_ ?_
 . 
  refine ⟨_,0,0,J,t2,t3,t4,J,(bL (aM<|iV 0) J),h2,h3,h4,⟨(cE h18),congrArg Blk.live h18⟩,?_,?_⟩
  . omega
  . rfl
 intro mm T H ⟨k,v18,hmm,t2,t3,t4,t11,t12,h2,h3,h4,h18,hk,hc⟩ Q5 p15 p25 p35;refine aO<|aJ t12<|aJ t11<|bA J<|bZ J J<|bR ?_
 refine aH J (λc6=>?_) λc6=>?_
 . 
  have hnd:=aBd za zb zc (show k < (dD l).length by omega);have r1:=pL ht.1<|cW (show k < (dD l).length by omega)
  refine aB (aG λQ7 n7 x7 y7 z7=>(aW<|aX t2 h2 J J<|aV t3 h3 J J<|aJ t11<|aJ t12<|dA (i:=k) (aM<|aC<|dD l) (cO k)<|aL J J<|aI (tE l.t o (aA (dD l) k) hb ho OM) J<|aP<|bE J J<|bE J J<|bE J J<|aP ?_));refine aP<|aD<|aO<|cM t2 h2<|aX J h2 J J<|aP<|dR (i:=((bJ l.t o<|aA (dD l) k).1)) (aM<|V.sl<|List.map cN l.t.nd) (aM<|iV<|(bJ l.t o<|aA (dD l) k).1) OM OM J<|dB (cs':=(cN<|aA l.t.nd ((bJ l.t o<|aA (dD l) k).1).toNat)) J J<|aL J J<|bR ?_
  refine cU J (λc8=>?_) (λc8=>?_)
  . 
   have d1:wC l o k=false:=by unfold wC; simpa using c8
   refine aT<|x7 _ _ (.done (eI<|aJ t12<|cF J<|aD ?_))
   refine p15 _ _ _ ?_ ⟨(k+1),v18,J,t2,t3,t4,t11,(bL (cO<|k+1) JR),h2,h3,h4,h18,?_,?_⟩
   . omega
   . omega
   . rw [hc,kL (p:=wC l o) d1 OM]
  have d1:wC l o k=true:=by unfold wC; simpa using c8
  have d2:qF l o=(k:Int):=by rw [hc,mI (p:=wC l o) d1 OM]
  have d3:=hnd.2.2.2 (by simpa using c8);have hsf:=hb.sf (bJ l.t o<|aA (dD l) k).1.toNat OM;have hll:=oZ hv;have hbh:=aAg ho (aA (dD l) k) (aA l.t.nd (bJ l.t o<|aA (dD l) k).1.toNat).sf;refine aB<|aO<|aX t2 h2 J J<|aI (jC l.t hb) J<|bA J<|iC J J<|bR ?_
  refine aH J (λc9=>?_) λc9=>?_
  . 
   refine aO<|aV t2 h2 J J<|bQ t4 J J h4 J J J J J<|aP<|aP<|aD<|aK<|y7 _ _<|p25 _ _<|y4 _ _ ?_
   refine gO (bI (u:=(V.agg [(iV l.i),(V.sl<|List.map cN l.t.nd)])) t4 (@J Blk<|bk 1 49 2 [[(iV l.i),(V.sl<|List.map cN l.t.nd)]])<|lB oB J J) (aY<|aM V.nilsl) (aY<|aM<|V.bool false) (aY<|aM<|iV 11) (cK (aF ?_)<|cA ?_ (λ_=>by simp)) (bH ?_) (cH ?_)<|aF ?_
   . rw [kM za zb zc OM OM]
   . rw [kM za zb zc OM OM]
   . rw [kM za zb zc OM OM]
   . rw [kM za zb zc OM OM]
   . rw [kM za zb zc OM OM]
  refine aB ?_;refine dE (λT H=>T 2=(cG 2)/\T 4=(cG 4)/\T 11=(aC<|dD l)/\T 12=(iV ((k:Nat):Int))/\T 13=(iV<|(bJ l.t o<|aA (dD l) k).1)/\T 16=(aE<|lH o (aA (dD l) k)<|(aA l.t.nd ((bJ l.t o<|aA (dD l) k).1).toNat).sf)/\H 2=(bk 1 49 2 [[(iV l.i),(V.sl<|List.map cN l.t.nd)]])/\H 3=(bk 1 31 2 [[(iV o.i),(V.sl<|List.map cT o.tr)]])/\H 4=(bk 1 49 2 [[(iV 0),V.nilsl]])/\((H 18).ver=v18/\(H 18).live=false)/\True) ?_ ?_
  . 
   refine aV t3 h3 J J<|aJ t11<|aJ t12<|dA (i:=k) (aM<|aC<|dD l) (cO k)<|aL J J<|cM t2 h2<|aX J h2 J J<|aP<|dR (i:=((bJ l.t o<|aA (dD l) k).1)) (aM<|V.sl<|List.map cN l.t.nd) (aM<|iV<|(bJ l.t o<|aA (dD l) k).1) OM OM J<|dB (cs':=(List.drop 2<|cN<|aA l.t.nd ((bJ l.t o<|aA (dD l) k).1).toNat)) J J<|aL J J<|aI (mK o (aA (dD l) k) ((aA l.t.nd ((bJ l.t o<|aA (dD l) k).1).toNat).sf) ho OM OM) J<|aP<|bE J J<|bE J J ?_
   refine aP<|aP ?_
   exact eS ⟨t2,t4,t11,t12,J,J,h2,h3,h4,h18,trivial⟩
  intro T H ⟨t2,t4,t11,t12,t13,t16,h2,h3,h4,h18,_⟩;refine W_d (by exact (oP h18.2 qQ))<|aX t2 h2 J J<|aJ t13<|aJ t16<|aJ t11<|aJ t12<|dA (i:=k) (aM<|aC<|dD l) (cO k)<|aL J J<|aI (aG5 l.t ((bJ l.t o<|aA (dD l) k).1) (lH o (aA (dD l) k)<|(aA l.t.nd ((bJ l.t o<|aA (dD l) k).1).toNat).sf) (aA (dD l) k) hb OM OM) J<|aP<|bE J J<|bE J J<|bM (i:=18) (n:=v18) (m:=1) J h18.1 J<|bQ J J J J J J J J J<|aP ?_
  refine tA<|aW<|aP<|bP J J<|bR ?_
  refine aH J (λc10=>?_) λc10=>?_
  . 
   have d6:=c10;refine aO<|aV t2 h2 J J<|aP<|bQ t4 J J h4 J J J J J<|aP<|aP<|aD<|aK<|y7 _ _<|p25 _ _<|y4 _ _ ?_
   refine gO (bI (u:=(V.agg [(iV l.i),(V.sl<|List.map cN l.t.nd)])) t4 (@J Blk<|bk 1 49 2 [[(iV l.i),(V.sl<|List.map cN l.t.nd)]])<|lB oB J J) (aY<|aM V.nilsl) (aY<|aM<|V.bool false) (aY<|aM<|iV<|jD l.t ((bJ l.t o<|aA (dD l) k).1) (lH o (aA (dD l) k)<|(aA l.t.nd ((bJ l.t o<|aA (dD l) k).1).toNat).sf)<|aA (dD l) k) (cK (aF ?_)<|cA ?_ (λ_=>by simp)) (bH ?_) (cH ?_)<|aF ?_
   . rw [oI za zb zc d2 OM d6]
   . rw [oI za zb zc d2 OM d6]
   . rw [oI za zb zc d2 OM d6]
   . rw [oI za zb zc d2 OM d6]
   . rw [oI za zb zc d2 OM d6]
  have d6:=c10;refine aB<|aW<|aX t2 h2 J J<|aV J J J J<|bN J J<|bQ t4 J J h4 J J J J J<|aP<|aP<|aD<|bF<|y7 _ _<|p25 _ _<|y4 _ _ ?_
  refine gO (bI (u:=(V.agg [(iV l.i),(V.sl<|List.map cN<|(grT l.t ((bJ l.t o<|aA (dD l) k).1) (lH o (aA (dD l) k)<|(aA l.t.nd ((bJ l.t o<|aA (dD l) k).1).toNat).sf)<|aA (dD l) k).nd)])) t4 (@J Blk<|bk 1 49 2 [[(iV l.i),(V.sl<|List.map cN<|(grT l.t ((bJ l.t o<|aA (dD l) k).1) (lH o (aA (dD l) k)<|(aA l.t.nd ((bJ l.t o<|aA (dD l) k).1).toNat).sf)<|aA (dD l) k).nd)]])<|lB oB J J) (aY<|aM V.nilsl) (aY<|aM<|V.bool false) (aY<|aM<|iV 0) (cK (aF ?_)<|cA ?_ (λ_=>by simp)) (bH ?_) (cH ?_)<|aF ?_
  . rw [oF za zb zc d2 OM d6]
  . rw [oF za zb zc d2 OM d6]
  . rw [oF za zb zc d2 OM d6]
  . rw [oF za zb zc d2 OM d6]
  . rw [oF za zb zc d2 OM d6]
 have zd:qF l o < 0:=by rw [hc,kD OM]; omega
 refine aT<|p35 _ _ _<|x4 _ _ (.done (aW<|aV t2 h2 J J<|bQ t4 J J h4 J J J J J<|aP<|aP<|aD<|bF ?_))
 refine gO (bI (u:=(V.agg [(iV l.i),(V.sl<|List.map cN l.t.nd)])) t4 (@J Blk<|bk 1 49 2 [[(iV l.i),(V.sl<|List.map cN l.t.nd)]])<|lB oB J J) (aY<|aM V.nilsl) (aY<|aM<|V.bool true) (aY<|aM<|iV 0) (cK (aF ?_)<|cA ?_ (λ_=>by simp)) (bH ?_) (cH ?_)<|aF ?_
 . rw [jH za zb zc zd]
 . rw [jH za zb zc zd]
 . rw [jH za zb zc zd]
 . rw [jH za zb zc zd]
 . rw [jH za zb zc zd]
theorem rO (m:M) (s:Int) (w:List Int) (hm:eO m=0) (hs:0<=s/\s < m.nx.length) (hl:w.length<=1024) (hw: ∀ k,k < w.length->0<=aA w k/\aA w k < m.i):bK Tryz.prog 39 [(V.agg [(iV m.i),(iV m.s),(aC m.nx),(aC m.ot)]),(iV s),(aE w)] (V.tup [(aE (aQ m s w)),(iV (gR m s w))]):=by
 refine' pK [8] [] Tryz.func39 ?e λhB=>?_
 case e=>conv=>lhs; cbv
 dsimp only;refine aW<|bS (i:=3) (n:=0) (m:=4) (cs:=[(iV m.i),(iV m.s),(aC m.nx),(aC m.ot)]) J (cE J) J J J<|aP<|aD<|aW<|gG (i:=8) (n:=0) J (cE J)<|tA<|aW<|aD (aG λQ1 n1 x1 y1 z1=>?_)
 refine cC (λmm T H=> ∃ (k:Nat),mm=w.length - k/\T 1=(iV<|gR m s<|w.take k)/\T 2=(aE w)/\T 3=(cG 3)/\T 8=(V.ms 8 (1+k) 0 k)/\T 9=(iV ((k:Nat):Int))/\H 3=(sA m)/\H 8=(bz (1+k) 3 1<|List.map cI<|aQ m s<|w.take k)/\(k<=w.length)) ?_ ?_
 . 
  refine ⟨_,0,J,(bL (aM<|iV s) JR),J,J,(bL (aM<|V.ms 8 1 0 0) JR),(bL (aM<|iV 0) J),J,(bL (@J Blk<|bz 1 3 1 []) JR),?_⟩
  . omega
 intro mm T H ⟨k,hmm,t1,t2,t3,t8,t9,h3,h8,hk⟩ Q2 p12 p22 p32;refine aO<|aJ t9<|aJ t2<|bA J<|bZ J J<|bR ?_
 refine aH J (λc3=>?_) λc3=>?_
 . 
  have h1:=aKr hm hs hw (k:=k) OM;refine aB (aG λQ4 n4 x4 y4 z4=>(aW<|aJ t8<|aX t3 h3 J J<|aJ t1<|dR (i:=(gR m s<|w.take k)) (aM<|aC m.ot) (aM<|iV<|gR m s<|w.take k) OM OM J<|aL J J<|aJ t2<|aJ t9<|dA (i:=k) (aM<|aE w) (cO k)<|aL J J<|dR (i:=(aA w k)) (aM<|aE<|aA m.ot (gR m s<|w.take k).toNat) (aM<|iV<|aA w k) OM OM J<|aL J J<|aS J J ?_));refine eX (l:=(aQ m s<|w.take k)) (f:=cI) (x:=(aA (aA m.ot (gR m s<|w.take k).toNat) (aA w k).toNat)) (aM<|V.ms 8 (1+k) 0 k) h8 (by (simp only [nY,List.length_take]; omega)) (aM<|V.sl [[(iV<|aA (aA m.ot (gR m s<|w.take k).toNat) (aA w k).toNat)]])<|aD<|eI<|aX t3 h3 J J<|aJ t1<|dR (i:=(gR m s<|w.take k)) (aM<|aC m.nx) (aM<|iV<|gR m s<|w.take k) OM OM J<|aL J J<|aJ t2<|aJ t9<|dA (i:=k) (aM<|aE w) (cO k)<|aL J J<|dR (i:=(aA w k)) (aM<|aE<|aA m.nx (gR m s<|w.take k).toNat) (aM<|iV<|aA w k) OM OM J<|aL J J<|aP ?_
  refine bR<|n4 _ _ (.done (eI<|aJ t9<|cF J<|aD ?_))
  refine p12 _ _ _ ?_ ⟨(k+1),J,(bL (aM<|iV<|aA (aA m.nx (gR m s<|w.take k).toNat) (aA w k).toNat) (by (rw [aAh m s OM]; rfl))),t2,t3,(bL (aM<|V.ms 8 (1+k+1) 0<|k+1) JR),(bL (cO<|k+1) JR),h3,(bL (@J Blk<|bz (1+k+1) 3 1<|List.map cI<|aQ m s (w.take k)++[(aA (aA m.ot (gR m s<|w.take k).toNat) (aA w k).toNat)]) (by (rw [aAo m s OM]; rfl))),?_⟩
  . omega
  . omega
 refine aT<|p32 _ _ _<|x1 _ _ (.done (aW<|aJ t8<|aJ t1<|aP<|aD<|bF ?_))
 refine iW (aM<|V.ms 8 (1+k) 0 k) (aM<|iV<|gR m s<|w.take k) (iK h8 SI (l:=(aQ m s<|w.take k)) J (by (simp only [nY,List.length_take]; omega)) (λ_=>by simp) ?_)<|aF ?_
 . (have e:k=w.length:=OM; subst e; rw [List.take_length])
 . (have e:k=w.length:=OM; subst e; rw [List.take_length])
theorem aGf (m:M) (s:Int) (w:List Int):bK Tryz.prog 128 [(V.agg [(iV m.i),(iV m.s),(aC m.nx),(aC m.ot)]),(iV s),(aE w)] (V.tup [(aE (fG m s w)),(iV (nX m s w)),(iV (rK m s w))]):=by
 refine' pK [] [] Tryz.func128 ?e λhB=>?_
 case e=>conv=>lhs; cbv
 dsimp only;refine aW<|bS (i:=3) (n:=0) (m:=4) (cs:=[(iV m.i),(iV m.s),(aC m.nx),(aC m.ot)]) J (cE J) J J J<|aP<|aP<|aD<|aO<|aV J J J J<|aI (nR m) J<|aD<|aO<|aP<|bP J J ?_
 refine bR ?_;refine aH J (λc1=>?_) λc1=>?_
 . 
  have e:rK m s w=eO m:=by unfold rK stE; simp [c1]
  refine aO<|aP<|aP<|aP<|aD<|aK ?_
  refine iN (aM V.nilsl) (aM<|iV 0) (aM<|iV<|eO m) (bH ?_) (aF ?_)<|aF ?_
  . first|(rw [fG,if_pos OM]; done)|(rw [fG,if_neg OM]; done)
  . first|(rw [nX,if_pos OM]; done)|(rw [nX,if_neg OM]; done)
  . omega
 have hm:eO m=0:=OM
 refine aB<|aO<|aP<|bZ J J<|aP ?_
 refine bU 6 (λT H=>T 1=(iV s)/\T 2=(aE w)/\T 3=(cG 3)/\T 26=(V.bool<|decide ((s < (0:Int))\/(((m.nx.length:Nat):Int)<=s)))/\H 3=(sA m)/\True) ?_ ?_
 . 
  by_cases g2:s < (0:Int)
  . 
   refine bW (bY g2 J)<|bW (bY g2 J)<|bW (bY g2 J)<|bW (bY g2 J)<|bW (bY g2 J)<|bV (bY g2 J) J ?_
   exact ⟨J,J,J,(dZ g2),J,trivial⟩
  . 
   refine aN (bX g2 J)<|aP<|aN (bX g2 J)<|cM J J<|aN (bX g2 J)<|aV J J J J<|aN (bX g2 J)<|bA J<|aN (bX g2 J)<|iC J J<|bT (bX g2 J) J ?_
   exact ⟨J,J,J,(dX g2),J,trivial⟩
 intro T H ⟨t1,t2,t3,t26,h3,_⟩;refine bR ?_;refine aH t26 (λc3=>?_) λc3=>?_
 . 
  have e:rK m s w=2:=by have q:stE m s=2:=by {unfold stE; rw [if_neg OM,if_pos c3]}; unfold rK; rw [if_pos OM]; exact q
  refine aO<|aP<|aP<|aD<|aK ?_
  refine iN (aM V.nilsl) (aM<|iV 0) (aM<|iV 2) (bH ?_) (aF ?_)<|aF ?_
  . first|(rw [fG,if_pos OM]; done)|(rw [fG,if_neg OM]; done)
  . first|(rw [nX,if_pos OM]; done)|(rw [nX,if_neg OM]; done)
  . omega
 have hs:stE m s=0:=by unfold stE; rw [if_neg OM,if_neg c3]
 refine aB<|aO<|aJ t2<|aX t3 h3 J J<|aI (fX w m.i) J<|aD<|aO<|aP<|bP J J<|bR ?_
 refine aH J (λc4=>?_) λc4=>?_
 . 
  have e:rK m s w=dG w m.i:=by unfold rK; rw [if_neg OM]
  refine aO<|aP<|aP<|aP<|aD<|aK ?_
  refine iN (aM V.nilsl) (aM<|iV 0) (aM<|iV<|dG w m.i) (bH ?_) (aF ?_)<|aF ?_
  . first|(rw [fG,if_pos OM]; done)|(rw [fG,if_neg OM]; done)
  . first|(rw [nX,if_pos OM]; done)|(rw [nX,if_neg OM]; done)
  . omega
 have e:rK m s w=0:=by unfold rK; rw [if_neg OM]; omega
 have hw:=eL (w:=w) (n:=m.i) OM;have hs2:=aKh (m:=m) (s:=s) OM;refine aB<|aW<|aV t3 h3 J J<|aJ t1<|aJ t2<|aI (rO m s w hm OM hw.1 hw.2) J<|aP<|bE J J<|bE J J<|aP<|aD<|aW<|aP<|aP<|aP ?_
 refine aP<|aD<|bF ?_
 refine iN (aM<|aE<|aQ m s w) (aM<|iV<|gR m s w) (aM<|iV 0) (cA ?_ (λ_=>by simp)) (aF ?_)<|aF ?_
 . first|(rw [fG,if_pos OM]; done)|(rw [fG,if_neg OM]; done)
 . first|(rw [nX,if_pos OM]; done)|(rw [nX,if_neg OM]; done)
 . omega
theorem aJi (m:M) (w:List Int):bK Tryz.prog 77 [(V.agg [(iV m.i),(iV m.s),(aC m.nx),(aC m.ot)]),(aE w)] (V.tup [(aE (fG m m.s w)),(iV (rK m m.s w))]):=by
 refine' pK [] [] Tryz.func77 ?e λhB=>?_
 case e=>conv=>lhs; cbv
 dsimp only;refine aW<|bS (i:=2) (n:=0) (m:=4) (cs:=[(iV m.i),(iV m.s),(aC m.nx),(aC m.ot)]) J (cE J) J J J<|aP<|aD<|aW<|aV J J J J<|aX J J J J<|aP<|aI (aGf m m.s w) J<|aP<|bE J J<|bE J J<|bE J J<|aP ?_
 refine aP<|aD<|aW<|aP<|aP<|aP<|aD<|bF ?_
 refine iW (aM<|aE<|fG m m.s w) (aM<|iV<|rK m m.s w) (cA ?_ (λ_=>by simp))<|aF ?_
 . rfl
 . rfl
theorem aDX (t:Tr) (n:Int):bK Tryz.prog 40 [(V.agg [(aE t.ni),(aE t.no)]),(iV n)] (iV (vZ t n)):=by
 refine' pK [] [] Tryz.func40 ?e λhB=>?_
 case e=>conv=>lhs; cbv
 dsimp only;refine aW<|bS (i:=2) (n:=0) (m:=2) (cs:=[(aE t.ni),(aE t.no)]) J (cE J) J J J<|aD<|aO<|aX J J J J<|aP<|aI (fX t.ni n) J<|aD<|aO<|aP<|bP J J ?_
 refine bR ?_;refine aH J (λc1=>?_) λc1=>?_
 . 
  refine aO<|aP<|aD<|aK ?_
  refine aZ (aM<|iV<|dG t.ni n)<|aF ?_
  . rw [vZ,if_pos OM]
 refine aB<|aO<|aX J J J J<|bA J<|aX J J J J<|bA J<|bP J J<|bR ?_
 refine aH J (λc2=>?_) λc2=>?_
 . 
  refine aO<|aD<|aK ?_
  refine aZ (aM<|iV 1)<|aF ?_
  . rw [vZ,if_neg OM,if_pos OM]
 refine aB<|aO<|aD (aG λQ3 n3 x3 y3 z3=>?_)
 refine cC (λmm T H=> ∃ (k:Nat),mm=t.no.length - k/\T 2=(cG 2)/\T 6=(iV ((k:Nat):Int))/\H 2=(bk 1 56 2 [[(aE t.ni),(aE t.no)]])/\(k<=t.no.length)/\(vZ t n=fe (tT t) k (t.no.length - k))) ?_ ?_
 . 
  refine ⟨_,0,J,J,(bL (aM<|iV 0) J),J,?_,?_⟩
  . omega
  . rw [vZ,if_neg OM,if_neg OM]; rfl
 intro mm T H ⟨k,hmm,t2,t6,h2,hk,hc⟩ Q4 p14 p24 p34;refine aO<|aJ t6<|aX t2 h2 J J<|bA J<|bZ J J<|bR ?_
 refine aH J (λc5=>?_) λc5=>?_
 . 
  refine aB (aG λQ6 n6 x6 y6 z6=>(aW<|aX t2 h2 J J<|aJ t6<|dA (i:=k) (aM<|aE t.no) (cO k)<|aL J J<|bZ J J<|aP ?_));refine bU 7 (λT H=>T 2=(cG 2)/\T 6=(iV ((k:Nat):Int))/\T 41=(V.bool<|decide (((aA t.no k) < (0:Int))\/((1048576:Int) < (aA t.no k))))/\H 2=(bk 1 56 2 [[(aE t.ni),(aE t.no)]])/\True) ?_ ?_
  . 
   by_cases g7:(aA t.no k) < (0:Int)
   . 
    refine bW (bY g7 J)<|bW (bY g7 J)<|bW (bY g7 J)<|bW (bY g7 J)<|bW (bY g7 J)<|bW (bY g7 J)<|bV (bY g7 J) J ?_
    exact ⟨t2,t6,(dZ g7),h2,trivial⟩
   . 
    refine aN (bX g7 J)<|cM t2 h2<|aN (bX g7 J)<|aV J h2 J J<|aN (bX g7 J)<|aJ t6<|aN (bX g7 J)<|dA (i:=k) (aM<|aE t.no) (cO k)<|aN (bX g7 J)<|aL J J<|aN (bX g7 J)<|eD J J<|bT (bX g7 J) J ?_
    exact ⟨t2,t6,(dX g7),h2,trivial⟩
  intro T H ⟨t2,t6,t41,h2,_⟩;refine bR ?_;refine fN t41 (λc8=>?_) λc8=>?_
  . 
   refine aW<|aD<|bF<|y6 _ _<|p24 _ _<|y3 _ _ ?_
   refine aZ (aM<|iV 2)<|aF ?_
   . rw [hc,fV (by unfold tT; split <;> omega) OM]; unfold tT; split <;> omega
  refine dH<|n6 _ _ (.done (eI<|aJ t6<|cF J<|aD ?_))
  refine p14 _ _ _ ?_ ⟨(k+1),J,t2,(bL (cO<|k+1) JR),h2,?_,?_⟩
  . omega
  . omega
  . rw [hc,fW (by unfold tT; split <;> omega) OM]
 refine aT<|p34 _ _ _<|x3 _ _ (.done (aW<|aD<|bF ?_))
 refine aZ (aM<|iV 0)<|aF ?_
 . rw [hc,iM OM]
theorem aDj (a b:Tr) (ha:a.no.length=a.ni.length) (hb:b.no.length=b.ni.length):bK Tryz.prog 89 [(V.agg [(aE a.ni),(aE a.no)]),(V.agg [(aE b.ni),(aE b.no)])] (iV (df a b)):=by
 refine' pK [] [] Tryz.func89 ?e λhB=>?_
 case e=>conv=>lhs; cbv
 dsimp only;refine aW<|bS (i:=2) (n:=0) (m:=2) (cs:=[(aE a.ni),(aE a.no)]) J (cE J) J J J<|bS (i:=3) (n:=0) (m:=2) (cs:=[(aE b.ni),(aE b.no)]) J (cE J) J J J<|aD<|aW<|aX J J J J<|aX J J J J ?_
 have q1:=kX a.ni b.ni;have q2:=mV a.ni b.ni;refine aI (oY a.ni b.ni) J<|aD ?_
 have q3:=kX a.ni b.ni;have q4:=mV a.ni b.ni;refine aO<|aD (aG λQ5 n5 x5 y5 z5=>?_)
 refine cC (λmm T H=> ∃ (k:Nat),mm=(gJ a.ni b.ni) - k/\T 2=(cG 2)/\T 3=(cG 3)/\T 5=(iV ((gJ a.ni b.ni:Nat):Int))/\T 6=(iV ((k:Nat):Int))/\H 2=(bk 1 56 2 [[(aE a.ni),(aE a.no)]])/\H 3=(bk 1 56 2 [[(aE b.ni),(aE b.no)]])/\(k<=gJ a.ni b.ni)/\(df a b=fi (dfE a b) k (gJ a.ni b.ni - k))) ?_ ?_
 . 
  refine ⟨_,0,J,J,J,J,(bL (aM<|iV 0) J),J,J,?_,?_⟩
  . omega
  . rfl
 intro mm T H ⟨k,hmm,t2,t3,t5,t6,h2,h3,hk,hc⟩ Q6 p16 p26 p36;refine aO<|aJ t6<|aJ t5<|bZ J J<|bR ?_
 refine aH J (λc7=>?_) λc7=>?_
 . 
  refine aB (aG λQ8 n8 x8 y8 z8=>(aW<|aX t2 h2 J J<|aJ t6<|dA (i:=k) (aM<|aE a.no) (cO k)<|aL J J<|aX t3 h3 J J<|aJ t6<|dA (i:=k) (aM<|aE b.no) (cO k)<|aL J J<|bP J J<|bR ?_));refine fN J (λc9=>?_) λc9=>?_
  . 
   refine aW<|aJ t6<|aD<|bF<|y8 _ _<|p26 _ _<|y5 _ _ ?_
   refine aZ (cO k)<|aF ?_
   . rw [hc,mI (by simp only [dfE,decide_eq_true_eq]; omega) OM]
  refine dH<|n8 _ _ (.done (eI<|aJ t6<|cF J<|aD ?_))
  refine p16 _ _ _ ?_ ⟨(k+1),J,t2,t3,t5,(bL (cO<|k+1) JR),h2,h3,?_,?_⟩
  . omega
  . omega
  . rw [hc,kL (by simp only [dfE,decide_eq_false_iff_not]; omega) OM]
 refine aT<|p36 _ _ _<|x5 _ _ (.done (aW<|aD<|bF ?_))
 refine aZ (aM<|iV (-1))<|aF ?_
 . rw [hc,kD OM]
theorem pC (t:Tr) (hn1:t.ni.length<=1048576) (hn2:t.no.length<=1048576):bK Tryz.prog 173 [(V.agg [(aE t.ni),(aE t.no)])] (V.agg [(aE t.ni),(aE t.no)]):=by
 refine' pK [] [] Tryz.func173 ?e λhB=>?_
 case e=>conv=>lhs; cbv
 dsimp only;refine aW<|bS (i:=1) (n:=0) (m:=2) (cs:=[(aE t.ni),(aE t.no)]) J (cE J) J J J<|bM (i:=2) (n:=0) (m:=2) J (cE J) J<|qV<|aX J J J J<|aS J J<|aI (eB ([t.ni]) (by simp [bD]; omega)) J<|aX J J J J<|aS J J<|aI (eB ([t.no]) (by simp [bD]; omega)) J<|bN J J<|bQ J J J J J J J J J<|bR ?_
 refine bF ?_;refine uI (bI (u:=(V.agg [(aE<|bD<|[t.ni]),(aE<|bD<|[t.no])])) J (@J Blk<|bk 1 56 2 [[(aE<|bD<|[t.ni]),(aE<|bD<|[t.no])]])<|lB oB J J)<|cK (cA ?_ (λ_=>by simp))<|cA ?_ (λ_=>by simp)
 . simp [bD]
 . simp [bD]
theorem aJn (o:Ob) (t:Tr) (hn1:t.ni.length<=1048576) (hn2:t.no.length<=1048576) (hbd: ∀ k,k < o.tr.length->(aA o.tr k).ni.length<=1048576/\(aA o.tr k).no.length<=1048576) (hl:o.tr.length<=1000000):bK Tryz.prog 129 [(V.agg [(iV o.i),(V.sl (List.map cT o.tr))]),(V.agg [(aE t.ni),(aE t.no)])] (V.agg [(iV o.i),(V.sl (List.map cT (raL o.tr t)))]):=by
 refine' pK [] [] Tryz.func129 ?e λhB=>?_
 case e=>conv=>lhs; cbv
 dsimp only;refine aW<|bS (i:=2) (n:=0) (m:=2) (cs:=[(iV o.i),(V.sl<|List.map cT o.tr)]) J (cE J) J J J<|bS (i:=3) (n:=0) (m:=2) (cs:=[(aE t.ni),(aE t.no)]) J (cE J) J J J<|bM (i:=4) (n:=0) (m:=2) J (cE J) J<|qV<|aX J J J J<|bN J J<|bM (i:=5) (n:=0) (m:=2) J (cE J) J<|bQ J J J J J J J J J<|qV<|aX J J J J<|bA J ?_
 refine eV J J<|aD<|aO<|aD (aG λQ1 n1 x1 y1 z1=>?_)
 refine cC (λmm T H=> ∃ (k:Nat),mm=o.tr.length - k/\T 2=(cG 2)/\T 3=(cG 3)/\T 4=(cG 4)/\T 5=(cG 5)/\T 6=(V.bool (doA o.tr t k))/\T 7=(iV ((k:Nat):Int))/\H 2=(bk 1 31 2 [[(iV o.i),(V.sl<|List.map cT o.tr)]])/\H 3=(bk 1 56 2 [[(aE t.ni),(aE t.no)]])/\H 4=(bk 1 31 2 [[(iV 0),V.nilsl]])/\H 5=(bk 1 31 2 [[(iV o.i),V.nilsl]])/\H 9=fL/\H 63=fL/\(k<=o.tr.length)) ?_ ?_
 . 
  refine ⟨_,0,J,J,J,J,J,(bL (aM<|V.bool<|decide (((t.ni.length:Nat):Int)=(0:Int))) (by (simp [doA]; done))),(bL (aM<|iV 0) J),J,J,J,J,J,J,?_⟩
  . omega
 intro mm T H ⟨k,hmm,t2,t3,t4,t5,t6,t7,h2,h3,h4,h5,h9,h63,hk⟩ Q2 p12 p22 p32;refine aO<|aJ t7<|aX t2 h2 J J<|bA J<|bZ J J<|bR ?_
 refine aH J (λc3=>?_) λc3=>?_
 . 
  refine aB (aG λQ4 n4 x4 y4 z4=>(eI<|aJ t6<|aP ?_));refine bU 10 (λT H=>T 2=(cG 2)/\T 3=(cG 3)/\T 4=(cG 4)/\T 5=(cG 5)/\T 6=(V.bool (doA o.tr t k))/\T 7=(iV ((k:Nat):Int))/\T 35=(V.bool ((doA o.tr t k)||(hp ((aA o.tr k).ni) t.ni)))/\H 2=(bk 1 31 2 [[(iV o.i),(V.sl<|List.map cT o.tr)]])/\H 3=(bk 1 56 2 [[(aE t.ni),(aE t.no)]])/\H 4=(bk 1 31 2 [[(iV 0),V.nilsl]])/\H 5=(bk 1 31 2 [[(iV o.i),V.nilsl]])/\H 9=fL/\H 63=fL/\True) ?_ ?_
  . 
   by_cases g5:(doA o.tr t k)=true
   . 
    refine bW (gQ g5 J)<|bW (gQ g5 J)<|bW (gQ g5 J)<|bW (gQ g5 J)<|bW (gQ g5 J)<|bW (gQ g5 J)<|bW (gQ g5 J)<|bW (gQ g5 J)<|bW (gQ g5 J)<|bV (gQ g5 J) J ?_
    exact ⟨t2,t3,t4,t5,t6,t7,(vX g5),h2,h3,h4,h5,h9,h63,trivial⟩
   . 
    refine aN (gP g5 J)<|cM t2 h2<|aN (gP g5 J)<|aV J h2 J J<|aN (gP g5 J)<|aJ t7<|aN (gP g5 J)<|dA (i:=k) (aM<|V.sl<|List.map cT o.tr) (cO k)<|aN (gP g5 J)<|dB (cs':=[(aE<|(aA o.tr k).ni),(aE<|(aA o.tr k).no)]) J J<|aN (gP g5 J)<|aL J J<|aN (gP g5 J)<|cM t3 h3<|aN (gP g5 J)<|aV J h3 J J ?_
    refine aN (gP g5 J)<|aI (uR ((aA o.tr k).ni) t.ni) J<|bT (gP g5 J) J ?_
    exact ⟨t2,t3,t4,t5,t6,t7,(wA g5),h2,h3,h4,h5,h9,h63,trivial⟩
  intro T H ⟨t2,t3,t4,t5,t6,t7,t35,h2,h3,h4,h5,h9,h63,_⟩;refine aJ t35<|bR<|n4 _ _ (.done (eI<|aJ t7<|cF J<|aD ?_))
  refine p12 _ _ _ ?_ ⟨(k+1),J,t2,t3,t4,t5,(bL (aM<|V.bool ((doA o.tr t k)||(hp ((aA o.tr k).ni) t.ni))) JR),(bL (cO<|k+1) JR),h2,h3,h4,h5,h9,h63,?_⟩
  . omega
  . omega
 refine aT<|p32 _ _ _<|x1 _ _ (.done (cS<|W_g<|aD<|eJ (R:=λT H=>T 2=(cG 2)/\T 3=(cG 3)/\T 4=(cG 4)/\T 5=(cG 5)/\T 6=(V.bool (doA o.tr t k))/\T 8=(iV 0)/\H 2=(bk 1 31 2 [[(iV o.i),(V.sl<|List.map cT o.tr)]])/\H 3=(bk 1 56 2 [[(aE t.ni),(aE t.no)]])/\H 4=(bk 1 31 2 [[(iV 0),V.nilsl]])/\H 5=(bk 1 31 2 [[(iV o.i),V.nilsl]])/\H 9=fL/\H 63=fL/\True) ⟨t2,t3,t4,t5,t6,(aM<|iV 0),h2,h3,h4,h5,h9,h63,trivial⟩ ?_))
 intro T H ⟨t2,t3,t4,t5,t6,t8,h2,h3,h4,h5,h9,h63,_⟩;refine .lazyCell 63 56 2 5 0 1 [(iV o.i),V.nilsl] DE (by rw [h5]; rfl) (by rw [h5]; rfl) J (.done ?_);refine eJ (R:=λT H=>T 2=(cG 2)/\T 3=(cG 3)/\T 4=(cG 4)/\T 5=(cG 5)/\T 6=(V.bool (doA o.tr t k))/\T 8=(iV 0)/\H 2=(bk 1 31 2 [[(iV o.i),(V.sl<|List.map cT o.tr)]])/\H 3=(bk 1 56 2 [[(aE t.ni),(aE t.no)]])/\H 4=(bk 1 31 2 [[(iV 0),V.nilsl]])/\H 5=(bk 1 31 2 [[(iV o.i),(V.ms 63 1 0 0)]])/\H 9=fL/\H 63=(bz 1 56 2 [])/\True) ⟨t2,t3,t4,t5,t6,t8,(gB<|gB h2),(gB<|gB h3),(gB<|gB h4),(by rw [aU,h5,(cE h63)]; rfl),(gB<|gB h9),(by rw [cD _ _ DE,aU,(cE h63)]),trivial⟩ ?_;intro T H ⟨t2,t3,t4,t5,t6,t8,h2,h3,h4,h5,h9,h63,_⟩;refine aG λQ6 n6 x6 y6 z6=>?_;refine cC (λmm T H=> ∃ (k:Nat) (w:Nat) (v9:Nat),mm=o.tr.length - k/\T 2=(cG 2)/\T 3=(cG 3)/\T 4=(cG 4)/\T 5=(cG 5)/\T 6=(V.bool<|(kG o.tr t k).2)/\T 8=(iV ((k:Nat):Int))/\H 2=(bk 1 31 2 [[(iV o.i),(V.sl<|List.map cT o.tr)]])/\H 3=(bk 1 56 2 [[(aE t.ni),(aE t.no)]])/\H 4=(bk 1 31 2 [[(iV 0),V.nilsl]])/\H 5=(bk 1 31 2 [[(iV o.i),(V.ms 63 w 0<|(kG o.tr t k).1.length)]])/\(H 9).ver=v9/\H 63=(bz w 56 2<|List.map cT<|(kG o.tr t k).1)/\(k<=o.tr.length)) ?_ ?_
 . 
  refine ⟨_,0,1,0,J,t2,t3,t4,t5,(bL t6 (by (have e:k=o.tr.length:=OM; subst e; rfl))),(bL t8 J),h2,h3,h4,(bL h5 JR),(cE h9),(bL h63 JR),?_⟩
  . omega
 intro mm T H ⟨k,w,v9,hmm,t2,t3,t4,t5,t6,t8,h2,h3,h4,h5,h9,h63,hk⟩ Q7 p17 p27 p37;have q1:=aHi (l:=o.tr) (t:=t) k;refine aO<|aJ t8<|aX t2 h2 J J<|bA J<|bZ J J<|bR ?_
 refine aH J (λc8=>?_) λc8=>?_
 . 
  refine aB (aG λQ9 n9 x9 y9 z9=>(aW<|aX t2 h2 J J<|aJ t8<|dA (i:=k) (aM<|V.sl<|List.map cT o.tr) (cO k)<|aL J J<|bM (i:=9) (n:=v9) (m:=2) J h9 J<|bQ J J J J J J J J J<|tA<|aW<|aJ t6<|fF J<|aP ?_));refine bU 7 (λT H=>T 2=(cG 2)/\T 3=(cG 3)/\T 4=(cG 4)/\T 5=(cG 5)/\T 6=(V.bool<|(kG o.tr t k).2)/\T 8=(iV ((k:Nat):Int))/\T 9=(V.mp 9 (v9+1) 0 0)/\T 57=(V.bool<|(!(kG o.tr t k).2)&&decide ((fS t.ni<|(aA o.tr k).ni) < (0:Int)))/\H 2=(bk 1 31 2 [[(iV o.i),(V.sl<|List.map cT o.tr)]])/\H 3=(bk 1 56 2 [[(aE t.ni),(aE t.no)]])/\H 4=(bk 1 31 2 [[(iV 0),V.nilsl]])/\H 5=(bk 1 31 2 [[(iV o.i),(V.ms 63 w 0<|(kG o.tr t k).1.length)]])/\H 9=(bk (v9+1) 56 2 [[(aE<|(aA o.tr k).ni),(aE<|(aA o.tr k).no)]])/\H 63=(bz w 56 2<|List.map cT<|(kG o.tr t k).1)/\True) ?_ ?_
  . 
   by_cases g10:(!(kG o.tr t k).2)=true
   . 
    refine aN (gQ g10 J)<|cM t3 h3<|aN (gQ g10 J)<|aV J h3 J J<|aN (gQ g10 J)<|cM J J<|aN (gQ g10 J)<|aV J J J J<|aN (gQ g10 J)<|aI (wT t.ni<|(aA o.tr k).ni) J<|aN (gQ g10 J)<|bZ J J<|bV (gQ g10 J) J ?_
    exact ⟨t2,t3,t4,t5,t6,t8,J,(aN1 g10),h2,h3,h4,h5,J,h63,trivial⟩
   . 
    refine bW (gP g10 J)<|bW (gP g10 J)<|bW (gP g10 J)<|bW (gP g10 J)<|bW (gP g10 J)<|bW (gP g10 J)<|bT (gP g10 J) J ?_
    exact ⟨t2,t3,t4,t5,t6,t8,J,(aOk g10),h2,h3,h4,h5,J,h63,trivial⟩
  intro T H ⟨t2,t3,t4,t5,t6,t8,t9,t57,h2,h3,h4,h5,h9,h63,_⟩;refine bR ?_;refine cU t57 (λc11=>?_) (λc11=>?_)
  . 
   have d1:=c11;refine aO<|aX t5 h5 J J<|aV t3 h3 J J<|aI (pC t hn1 hn2) J<|aS J J<|eX (l:=((kG o.tr t k).1)) (f:=cT) (x:=t) (aM<|V.ms 63 w 0<|(kG o.tr t k).1.length) h63 JR (aM<|V.sl [[(aE t.ni),(aE t.no)]])<|cM t5 h5<|bQ J J J h5 J J J J J<|qV<|aD<|aW<|cM t3 h3 ?_
   refine aV J h3 J J<|aX t9 h9 J J<|aI (uR t.ni<|(aA o.tr k).ni) J<|fF J<|aP ?_
   refine bU 8 (λT H=>T 2=(cG 2)/\T 3=(cG 3)/\T 4=(cG 4)/\T 5=(cG 5)/\T 6=(V.bool true)/\T 8=(iV ((k:Nat):Int))/\T 9=(V.mp 9 (v9+1) 0 0)/\T 79=(V.bool ((!hp t.ni ((aA o.tr k).ni))||decide (((t.ni.length:Nat):Int)=((((aA o.tr k).ni).length:Nat):Int))))/\H 2=(bk 1 31 2 [[(iV o.i),(V.sl<|List.map cT o.tr)]])/\H 3=(bk 1 56 2 [[(aE t.ni),(aE t.no)]])/\H 4=(bk 1 31 2 [[(iV 0),V.nilsl]])/\H 5=(bk 1 31 2 [[(iV o.i),(V.ms 63 (w+1) 0<|((kG o.tr t k).1.length)+1)]])/\H 9=(bk (v9+1) 56 2 [[(aE<|(aA o.tr k).ni),(aE<|(aA o.tr k).no)]])/\H 63=(bz (w+1) 56 2<|List.map cT<|(kG o.tr t k).1++[t])/\True) ?_ ?_
   . 
    by_cases g12:(!hp t.ni ((aA o.tr k).ni))=true
    . 
     refine bW (gQ g12 J)<|bW (gQ g12 J)<|bW (gQ g12 J)<|bW (gQ g12 J)<|bW (gQ g12 J)<|bW (gQ g12 J)<|bW (gQ g12 J)<|bV (gQ g12 J) J ?_
     exact ⟨t2,t3,t4,t5,J,t8,t9,(vX g12),h2,h3,h4,J,h9,J,trivial⟩
    . 
     refine aN (gP g12 J)<|cM t3 h3<|aN (gP g12 J)<|aV J h3 J J<|aN (gP g12 J)<|bA J<|aN (gP g12 J)<|cM t9 h9<|aN (gP g12 J)<|aV J h9 J J<|aN (gP g12 J)<|bA J<|aN (gP g12 J)<|eV J J<|bT (gP g12 J) J ?_
     exact ⟨t2,t3,t4,t5,J,t8,t9,(wA g12),h2,h3,h4,J,h9,J,trivial⟩
   intro T H ⟨t2,t3,t4,t5,t6,t8,t9,t79,h2,h3,h4,h5,h9,h63,_⟩;refine bR ?_;refine mJ t79 (λc13=>?_) (λc13=>?_)
   . 
    have d2:kpR t (aA o.tr k)=true:=by simpa [kpR,Int.natCast_inj] using c13
    refine eI<|aX t5 h5 J J<|aV t9 h9 J J<|aI (pC (aA o.tr k) (hbd k OM).1 (hbd k OM).2) J<|aS J J<|eX (l:=((kG o.tr t k).1++[t])) (f:=cT) (x:=(aA o.tr k)) (aM<|V.ms 63 (w+1) 0<|((kG o.tr t k).1.length)+1) h63 SI (aM<|V.sl [[(aE<|(aA o.tr k).ni),(aE<|(aA o.tr k).no)]])<|cM t5 h5<|bQ J J J h5 J J J J J<|bR<|n9 _ _ (.done (eI<|aJ t8<|cF J<|aP ?_))
    refine bR ?_;refine p17 _ _ _ ?_ ⟨(k+1),(w+2),(v9+1),J,t2,t3,t4,t5,(bL t6 (by (rw [aG7 d1 d2]; done))),(bL (cO<|k+1) JR),h2,h3,h4,(bL (@J Blk<|bk 1 31 2 [[(iV o.i),(V.ms 63 (w+2) 0<|((kG o.tr t k).1.length)+2)]]) (by (rw [aG7 d1 d2]; simp; done))),(cE h9),(bL (@J Blk<|bz (w+2) 56 2<|List.map cT<|(kG o.tr t k).1++[t]++[(aA o.tr k)]) (by (rw [aG7 d1 d2]; done))),?_⟩
    . omega
    . omega
   have d2:kpR t (aA o.tr k)=false:=by simpa [kpR,Int.natCast_inj] using c13
   refine dH<|n9 _ _ (.done (eI<|aJ t8<|cF J<|aD ?_))
   refine p17 _ _ _ ?_ ⟨(k+1),(w+1),(v9+1),J,t2,t3,t4,t5,(bL t6 (by (rw [aGt d1 d2]; done))),(bL (cO<|k+1) JR),h2,h3,h4,(bL h5 (by (rw [aGt d1 d2]; simp; done))),(cE h9),(bL h63 (by (rw [aGt d1 d2]; done))),?_⟩
   . omega
   . omega
  have d1:=c11;refine aB<|aW<|aX t3 h3 J J<|aX t9 h9 J J<|aI (uR t.ni<|(aA o.tr k).ni) J<|fF J<|aP ?_
  refine bU 8 (λT H=>T 2=(cG 2)/\T 3=(cG 3)/\T 4=(cG 4)/\T 5=(cG 5)/\T 6=(V.bool<|(kG o.tr t k).2)/\T 8=(iV ((k:Nat):Int))/\T 9=(V.mp 9 (v9+1) 0 0)/\T 79=(V.bool ((!hp t.ni ((aA o.tr k).ni))||decide (((t.ni.length:Nat):Int)=((((aA o.tr k).ni).length:Nat):Int))))/\H 2=(bk 1 31 2 [[(iV o.i),(V.sl<|List.map cT o.tr)]])/\H 3=(bk 1 56 2 [[(aE t.ni),(aE t.no)]])/\H 4=(bk 1 31 2 [[(iV 0),V.nilsl]])/\H 5=(bk 1 31 2 [[(iV o.i),(V.ms 63 w 0<|(kG o.tr t k).1.length)]])/\H 9=(bk (v9+1) 56 2 [[(aE<|(aA o.tr k).ni),(aE<|(aA o.tr k).no)]])/\H 63=(bz w 56 2<|List.map cT<|(kG o.tr t k).1)/\True) ?_ ?_
  . 
   by_cases g14:(!hp t.ni ((aA o.tr k).ni))=true
   . 
    refine bW (gQ g14 J)<|bW (gQ g14 J)<|bW (gQ g14 J)<|bW (gQ g14 J)<|bW (gQ g14 J)<|bW (gQ g14 J)<|bW (gQ g14 J)<|bV (gQ g14 J) J ?_
    exact ⟨t2,t3,t4,t5,t6,t8,t9,(vX g14),h2,h3,h4,h5,h9,h63,trivial⟩
   . 
    refine aN (gP g14 J)<|cM t3 h3<|aN (gP g14 J)<|aV J h3 J J<|aN (gP g14 J)<|bA J<|aN (gP g14 J)<|cM t9 h9<|aN (gP g14 J)<|aV J h9 J J<|aN (gP g14 J)<|bA J<|aN (gP g14 J)<|eV J J<|bT (gP g14 J) J ?_
    exact ⟨t2,t3,t4,t5,t6,t8,t9,(wA g14),h2,h3,h4,h5,h9,h63,trivial⟩
  intro T H ⟨t2,t3,t4,t5,t6,t8,t9,t79,h2,h3,h4,h5,h9,h63,_⟩;refine bR ?_;refine mJ t79 (λc15=>?_) (λc15=>?_)
  . 
   have d2:kpR t (aA o.tr k)=true:=by simpa [kpR,Int.natCast_inj] using c15
   refine eI<|aX t5 h5 J J<|aV t9 h9 J J<|aI (pC (aA o.tr k) (hbd k OM).1 (hbd k OM).2) J<|aS J J<|eX (l:=((kG o.tr t k).1)) (f:=cT) (x:=(aA o.tr k)) (aM<|V.ms 63 w 0<|(kG o.tr t k).1.length) h63 JR (aM<|V.sl [[(aE<|(aA o.tr k).ni),(aE<|(aA o.tr k).no)]])<|cM t5 h5<|bQ J J J h5 J J J J J<|bR<|n9 _ _ (.done (eI<|aJ t8<|cF J<|aP ?_))
   refine bR ?_;refine p17 _ _ _ ?_ ⟨(k+1),(w+1),(v9+1),J,t2,t3,t4,t5,(bL t6 (by (rw [aGI d1 d2]; done))),(bL (cO<|k+1) JR),h2,h3,h4,(bL (@J Blk<|bk 1 31 2 [[(iV o.i),(V.ms 63 (w+1) 0<|((kG o.tr t k).1.length)+1)]]) (by (rw [aGI d1 d2]; simp; done))),(cE h9),(bL (@J Blk<|bz (w+1) 56 2<|List.map cT<|(kG o.tr t k).1++[(aA o.tr k)]) (by (rw [aGI d1 d2]; done))),?_⟩
   . omega
   . omega
  have d2:kpR t (aA o.tr k)=false:=by simpa [kpR,Int.natCast_inj] using c15
  refine dH<|n9 _ _ (.done (eI<|aJ t8<|cF J<|aD ?_))
  refine p17 _ _ _ ?_ ⟨(k+1),w,(v9+1),J,t2,t3,t4,t5,(bL t6 (by (rw [aF9 d1 d2]; done))),(bL (cO<|k+1) JR),h2,h3,h4,(bL h5 (by (rw [aF9 d1 d2]; done))),(cE h9),(bL h63 (by (rw [aF9 d1 d2]; done))),?_⟩
  . omega
  . omega
 refine aT<|p37 _ _ _<|x6 _ _ (.done (aO<|aJ t6<|fF J<|bR ?_))
 refine cU J (λc16=>?_) (λc16=>?_)
 . 
  have d3:=c16;refine aW<|aX t5 h5 J J<|aV t3 h3 J J<|aI (pC t hn1 hn2) J<|aS J J<|eX (l:=((kG o.tr t k).1)) (f:=cT) (x:=t) (aM<|V.ms 63 w 0<|(kG o.tr t k).1.length) h63 JR (aM<|V.sl [[(aE t.ni),(aE t.no)]])<|cM t5 h5<|bQ J J J h5 J J J J J<|qV<|aV t5 J J J<|bQ t4 J J h4 J J J J J<|R_q ?_
  refine uI (bI (u:=(V.agg [(iV o.i),(V.ms 63 (w+1) 0<|((kG o.tr t k).1.length)+1)])) t4 (@J Blk<|bk 1 31 2 [[(iV o.i),(V.ms 63 (w+1) 0<|((kG o.tr t k).1.length)+1)]])<|lB oB J J)<|cK (eM SI J)<|iK (@J Blk<|bz (w+1) 56 2<|List.map cT<|(kG o.tr t k).1++[t]) SI (l:=((kG o.tr t k).1++[t])) J SI (λ_=>by simp) ?_
  . unfold raL; have e:k=o.tr.length:=OM
    rw [<- e,if_neg (by simpa using d3)]
 have d3:=c16;refine aB<|aW<|aV t5 h5 J J<|bQ t4 J J h4 J J J J J<|R_q ?_
 refine uI (bI (u:=(V.agg [(iV o.i),(V.ms 63 w 0<|(kG o.tr t k).1.length)])) t4 (@J Blk<|bk 1 31 2 [[(iV o.i),(V.ms 63 w 0<|(kG o.tr t k).1.length)]])<|lB oB J J)<|cK (eM SI J)<|iK h63 SI (l:=((kG o.tr t k).1)) J JR (λ_=>by simp) ?_
 . unfold raL; have e:k=o.tr.length:=OM
   rw [<- e,if_pos (by simpa using d3)]
end
end Go.Proofs.YtinpihlhcmpkhaaGreat
