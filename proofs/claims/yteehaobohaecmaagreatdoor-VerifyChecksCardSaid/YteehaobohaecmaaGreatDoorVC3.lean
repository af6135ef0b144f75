/- Contracts of the functions that the law VC reaches, and the law itself, for every input; no condition. -/
import Derived.KernelRfl
import Derived.Test.YteehaobohaecmaaGreatDoorProg
import Derived.Shelf.Strconv.Itoa3
import Derived.Test.YteehaobohaecmaaGreatDoorVC2
set_option linter.unusedSimpArgs false
set_option linter.unusedVariables false
namespace Go.Proofs.YteehaobohaecmaaGreatDoor
open Go Go.Proofs
theorem aEE (m:M) (s:Int):aQ Tryz.prog 82 [(V.agg [(iV m.i),(iV m.s),(bI m.nx),(bI m.ot)]),(iV s)] (iV (stE m s)):=by
 refine pW Tryz.func82 aOZ fun hB=>?_
 unfold s82
 dsimp only
 refine W_r (cA (i:=2) (n:=0) (m:=4) (cs:=[(iV m.i),(iV m.s),(bI m.nx),(bI m.ot)]) rfl (cVq rfl) rfl rfl rfl (aA rfl (R_e (aB (W_r (aJ rfl rfl rfl rfl (aI (uW m) rfl ?_)))))))
 refine aA rfl (R_e (aB (W_r (aA rfl (cD rfl rfl (R_e ?_))))))
 refine aH rfl (fun c1=>?_) fun c1=>?_
 ·
  refine aB (W_r (aA rfl (aA rfl (R_e (aM ?_)))))
  refine bH (rVq (iV (dS m))) (aF ?_)
  · rw [stE,if_pos (by omega)]
 refine aC (aB (W_r (aA rfl (bO rfl rfl (aA rfl ?_)))))
 refine aT 6 (fun T H=>T 19=(V.bool (decide ((s < (0:Int))∨(((m.nx.length:Nat):Int)≤s))))∧H 2=(bMq m)∧True) ?_ ?_
 ·
  by_cases g2:s < (0:Int)
  ·
   refine G_n (edT g2 rfl) (G_n (edT g2 rfl) (G_n (edT g2 rfl) (G_n (edT g2 rfl) (G_n (edT g2 rfl) (aS (edT g2 rfl) rfl ?_)))))
   exact ⟨(cV g2),rfl,trivial⟩
  ·
   refine aE (edF g2 rfl) (aA rfl (aE (edF g2 rfl) (aL rfl rfl (aE (edF g2 rfl) (aJ rfl rfl rfl rfl (aE (edF g2 rfl) (bF rfl ?_)))))))
   refine aE (edF g2 rfl) (jU rfl rfl (aU (edF g2 rfl) rfl ?_))
   exact ⟨(cU g2),rfl,trivial⟩
 intro T H ⟨t19,h2,_⟩
 refine R_e ?_
 refine aH t19 (fun c3=>?_) fun c3=>?_
 ·
  refine aB (W_r (aA rfl (R_e (aM ?_))))
  refine bH (rVq (iV 2)) (aF ?_)
  · rw [stE,if_neg (by omega),if_pos (by omega)]
 refine aC (W_r (aA rfl (R_e (aO ?_))))
 refine bH (rVq (iV 0)) (aF ?_)
 · rw [stE,if_neg (by omega),if_neg (by omega)]
def s83:SF:=⟨17,[.tmp 4],.seq (.reg [sO 3 (.box 3 1 (.t 1)),qI 4 0]) (.seq (.block 0 (.seq (.reg [ql 6 3,sO 7 (.call false 99 [.t 6]),sO 8 (.un .not (.t 7)),qM 5 8]) (.cond (.t 5) (.seq (.reg [qI 4 2]) (.ret)) (.seq (.reg [qM 10 0,qN 11 10,qC 12 .gtr 11 1024,qM 9 12]) (.cond (.t 9) (.seq (.reg [qI 4 3]) (.ret)) (.seq (.reg [qM 14 0,sO 15 (.mkf 101 [.t 3]),sO 16 (.call false 100 [.t 14,.t 15]),qM 13 16]) (.cond (.t 13) (.seq (.reg [qI 4 1]) (.ret)) (.skip)))))))) (.seq (.reg [qI 4 0]) (.ret)))⟩
theorem aPF:bJ Tryz.prog ⟨oEq,[],[],[]⟩ Tryz.f83=some s83:=by kernel_rfl
def aSc:List SO:=[
 qM 3 0,
 qC 4 .geq 3 1,
 qM 5 4,
 ⟨some (5,true),some 6,.mv (.t 0)⟩,
 ⟨some (5,true),some 7,.bin .leq (.t 6) (.c (.int .i64 1024))⟩,
 sO 8 (.pick (.t 5) (.t 7) (.c (.bool false))),
 qM 2 8]
def s99:SF:=⟨9,[.tmp 2],.seq (.reg [sO 2 (.mv (.c (.bool false)))]) (.seq (.reg aSc) (.ret))⟩
theorem aPA:bJ Tryz.prog ⟨oEq,[],[],[]⟩ Tryz.f99=some s99:=by kernel_rfl
theorem xD (n:Int):aQ Tryz.prog 99 [(iV n)] (V.bool (decide (1≤n∧n≤1024))):=by
 refine pW Tryz.func99 aPA fun hB=>?_
 unfold s99
 dsimp only
 refine W_r (aA rfl (R_e (W_r (aA rfl (jU rfl rfl (aA rfl ?_))))))
 refine aT 3 (fun T H=>T 8=(V.bool (decide (((1:Int)≤n)∧(n≤(1024:Int)))))∧True) ?_ ?_
 ·
  by_cases g1:(1:Int)≤n
  ·
   refine aE (edT g1 rfl) (aA rfl (aE (edT g1 rfl) (qG rfl rfl (aS (edT g1 rfl) rfl ?_))))
   exact ⟨(dH g1),trivial⟩
  ·
   refine G_n (edF g1 rfl) (G_n (edF g1 rfl) (aU (edF g1 rfl) rfl ?_))
   exact ⟨(dG g1),trivial⟩
 intro T H ⟨t8,_⟩
 refine aA t8 (R_e (aO ?_))
 refine bH (rVq (V.bool (decide (((1:Int)≤n)∧(n≤(1024:Int)))))) (aZ ?_)
 · first|rfl|omega|simp_all
def aOt:SF:=⟨9,[.tmp 4],.seq (.reg [sO 4 (.mv (.c (.bool false)))]) (.seq (.reg [qM 5 0,qM 6 1,sO 7 (.call false 117 [.t 5,.t 6]),qC 8 .geq 7 0,qM 4 8]) (.ret))⟩
theorem aLd:bJ Tryz.prog ⟨oEq,[],[],[]⟩ Tryz.f100=some aOt:=by kernel_rfl
def aJ7:SC:=.seq (.reg [qP 9 .lss 8 7]) (.seq (.cond (.t 9) (.skip) (.exit 0)) (.seq (.block 1 (.seq (.reg [qM 10 8,qM 5 10]) (.seq (.reg [qM 11 1,qM 12 0,qM 13 5,qA 14 1 12 13,ql 15 14,sO 16 (.callv false (.t 11) [.t 15])]) (.cond (.t 16) (.seq (.reg [qM 17 5,qM 4 17]) (.ret)) (.skip))))) (.reg [qC 18 .add 8 1,qM 8 18])))
def aRc:SF:=⟨19,[.tmp 4],.seq (.reg [qI 4 0]) (.seq (.seq (.reg [qM 6 0,qN 7 6,qI 8 0]) (.block 0 (.loop aJ7))) (.seq (.reg [sO 4 (.mv (.c (.int .i64 (-1))))]) (.ret)))⟩
theorem aLX:bJ Tryz.prog ⟨oEq,[],[],[]⟩ Tryz.f117=some aRc:=by kernel_rfl
theorem aGV (p:Int→Bool) (w:List Int) (g:Nat) (caps:List V) (hca:dM caps=true) (hpu:eD caps=true) (hq: ∀ k,k < w.length→aQ Tryz.prog g (iV (nth w k)::caps) (.bool (p (nth w k)))):aQ Tryz.prog 117 [(aY w),(V.fn g [] caps)] (iV (fi (fun jx=>p (nth w jx)) 0 w.length)):=by
 refine kP true 6 Tryz.func117 aLX (by kernel_rfl) (by simp [aRc]) (by simp [hpu]) (by simp) fun hB=>?_
 simp only [nA,mW,kQ,mY,mN,rC,mL,kH,implies_true,and_true,true_and] at hB
 unfold aRc
 dsimp only
 refine W_r (aA rfl (R_e (aB (W_r (aA rfl (bF rfl (aA rfl ?_)))))))
 refine R_e (aD fun Q1 n1 x1 y1 z1=>?_)
 refine bS (fun mm T H=> ∃ (k:Nat),mm=w.length - k∧T 0=(aY w)∧T 1=(V.fn g [] caps)∧T 7=(iV ((w.length:Nat):Int))∧T 8=(iV ((k:Nat):Int))∧(k≤w.length)∧(fi (fun j=>p (nth w j)) 0 w.length=fi (fun j=>p (nth w j)) k (w.length - k))) ?_ ?_
 ·
  refine ⟨_,0,rfl,rfl,rfl,rfl,(eTq (rVq (iV 0)) rfl),?_,?_⟩
  · omega
  · rfl
 intro mm T H ⟨k,hmm,t0,t1,t7,t8,hk,hc⟩ Q2 p12 p22 p32
 unfold aJ7
 refine W_r (bO t8 t7 (R_e ?_))
 refine aH rfl (fun c3=>?_) fun c3=>?_
 ·
  refine aC (aD fun Q4 n4 x4 y4 z4=>(W_r (aA t8 (aA rfl (R_e (W_r (aA t1 ?_)))))))
  refine aA t0 (aA rfl (dB (i:=k) (rVq (aY w)) (rNq k) (by omega) rfl (aG rfl rfl (lF (rVq (V.fn g [] caps)) (bL (rVq (iV (nth w k))) eB) (hq k (by omega)) (dQ _ _ (by simp [hca])) (by simp [hpu]) (Or.inl (by simp [hpu])) (R_e ?_)))))
  refine lI rfl (fun c5=>?_) (fun c5=>?_)
  ·
   have d1:=c5
   refine W_r (aA rfl (aA rfl (R_e (aO (y4 _ _ (p22 _ _ (y1 _ _ ?_)))))))
   refine bH (rNq k) (aF ?_)
   · rw [hc,aRG (by exact d1) (by omega)]
  have d1:=c5
  refine cN (n4 _ _ (.done (W_t (bC t8 (rNq 1) (by omega) (aA rfl (R_e ?_))))))
  refine p12 _ _ _ ?_ ⟨(k+1),rfl,t0,t1,t7,(eTq (rNq (k+1)) (by rfl)),?_,?_⟩
  · omega
  · omega
  · rw [hc,aL6 (by exact d1) (by omega)]
 refine aN (p32 _ _ _ (x1 _ _ (.done (W_r (aA rfl (R_e (aO ?_)))))))
 refine bH (rVq (iV (-1))) (aF ?_)
 · rw [hc,aOM (by omega)]
theorem aHa (p:Int→Bool) (w:List Int) (g:Nat) (caps:List V) (hca:dM caps=true) (hpu:eD caps=true) (hq: ∀ k,k < w.length→aQ Tryz.prog g (iV (nth w k)::caps) (.bool (p (nth w k)))):aQ Tryz.prog 100 [(aY w),(V.fn g [] caps)] (V.bool (decide (0≤fi (fun jx=>p (nth w jx)) 0 w.length))):=by
 refine kP true 6 Tryz.func100 aLd (by kernel_rfl) (by simp [aOt]) (by simp [hpu]) (by simp) fun hB=>?_
 simp only [nA,mW,kQ,mY,mN,rC,mL,kH,implies_true,and_true,true_and] at hB
 unfold aOt
 dsimp only
 refine W_r (aA rfl (R_e (W_r (aA rfl (aA rfl (kU (bL (rVq (aY w)) (bL (rVq (V.fn g [] caps)) eB)) (aGV p w g caps hca hpu hq) (dQ _ _ (by simp [hca,hpu,-List.map_take,-List.map_drop,-List.map_append,-List.map_reverse])) (by simp [hca,hpu,-List.map_take,-List.map_drop,-List.map_append,-List.map_reverse]) (Or.inl (by simp [hca,hpu,-List.map_take,-List.map_drop,-List.map_append,-List.map_reverse])) (jU rfl rfl ?_)))))))
 refine aA rfl (R_e (aO ?_))
 refine bH (rVq (V.bool (decide ((0:Int)≤(fi (fun jx=>p (nth w jx)) 0 w.length))))) (aZ ?_)
 · first|rfl|omega|simp_all
def aQC:List SO:=[
 qM 4 0,
 qC 5 .lss 4 0,
 qM 6 5,
 ⟨some (6,false),some 7,.mv (.t 0)⟩,
 ⟨some (6,false),some 8,.load false 1 (.t 1)⟩,
 ⟨some (6,false),some 9,.bin .geq (.t 7) (.t 8)⟩,
 sO 10 (.pick (.t 6) (.c (.bool true)) (.t 9)),
 qM 3 10]
def aSH:SF:=⟨11,[.tmp 3],.seq (.reg [sO 3 (.mv (.c (.bool false)))]) (.seq (.reg aQC) (.ret))⟩
theorem aL9:bJ Tryz.prog ⟨oEq,[],[],[]⟩ Tryz.f101=some aSH:=by kernel_rfl
theorem aDF (a n:Int):aQ Tryz.prog 101 [(iV a),(V.pp [(iV n)])] (V.bool (decide (a < 0∨n≤a))):=by
 refine pW Tryz.func101 aL9 fun hB=>?_
 unfold aSH
 dsimp only
 refine W_r (aA rfl (R_e (W_r (aA rfl (bO rfl rfl (aA rfl ?_))))))
 refine aT 4 (fun T H=>T 10=(V.bool (decide ((a < (0:Int))∨(n≤a))))∧True) ?_ ?_
 ·
  by_cases g1:a < (0:Int)
  ·
   refine G_n (edT g1 rfl) (G_n (edT g1 rfl) (G_n (edT g1 rfl) (aS (edT g1 rfl) rfl ?_)))
   exact ⟨(cV g1),trivial⟩
  ·
   refine aE (edF g1 rfl) (aA rfl (aE (edF g1 rfl) (aG rfl rfl (aE (edF g1 rfl) (jU rfl rfl (aU (edF g1 rfl) rfl ?_))))))
   exact ⟨(cU g1),trivial⟩
 intro T H ⟨t10,_⟩
 refine aA t10 (R_e (aO ?_))
 refine bH (rVq (V.bool (decide ((a < (0:Int))∨(n≤a))))) (aZ ?_)
 · first|rfl|omega|simp_all
theorem aD9 (w:List Int) (n:Int):aQ Tryz.prog 83 [(aY w),(iV n)] (iV (pY w n)):=by
 refine pW Tryz.func83 aPF fun hB=>?_
 unfold s83
 dsimp only
 refine W_r (cA (i:=3) (n:=0) (m:=1) (cs:=[(iV n)]) rfl (cVq rfl) rfl rfl rfl (aA rfl (R_e (aD fun Q1 n1 x1 y1 z1=>(W_r (aJ rfl rfl rfl rfl (aI (xD n) rfl ?_)))))))
 refine yH rfl (aA rfl (R_e ?_))
 refine bZ rfl (fun c2=>?_) fun c2=>?_
 ·
  refine W_r (aA rfl (R_e (aO (y1 _ _ ?_))))
  refine bH (rVq (iV 2)) (aF ?_)
  · rw [pY,if_pos (by omega)]
 refine W_r (aA rfl (bF rfl (fI rfl rfl (aA rfl (R_e ?_)))))
 refine bZ rfl (fun c3=>?_) fun c3=>?_
 ·
  refine W_r (aA rfl (R_e (aO (y1 _ _ ?_))))
  refine bH (rVq (iV 3)) (aF ?_)
  · rw [pY,if_neg (by omega),if_pos (by omega)]
 refine W_r (aA rfl (aJ0 (bL rfl eB) (kU (bL (rVq (aY w)) (bL (rVq (V.fn 101 [] [(mPq 3)])) eB)) (aHa (fun a=>decide (a < 0∨n≤a)) w 101 ([(V.pp [(iV n)])]) (by simp) (by simp) (fun k _=>aDF (nth w k) n)) (iK (fH 6 _ (by simp)) (iK (by rfl) rfl)) (by simp) (Or.inr rfl) (aA rfl (R_e ?_)))))
 refine bZ (p:=0≤fi (fun jx=>(fun a=>decide (a < 0∨n≤a)) (nth w jx)) 0 w.length) rfl (fun c4=>?_) (fun c4=>?_)
 ·
  refine W_r (aA rfl (R_e (aO (y1 _ _ ?_))))
  refine bH (rVq (iV 1)) (aF ?_)
  · have e:(0≤fi (fun j=>(fun a=>decide (a < 0∨n≤a)) (nth w j)) 0 w.length↔fe (wE w n) 0 w.length=1)∧(fe (wE w n) 0 w.length=0∨fe (wE w n) 0 w.length=1):=aNA w n w.length 0
    rw [pY,if_neg (by omega),if_neg (by omega)]; omega
 refine cN (n1 _ _ (.done (W_r (aA rfl (R_e (aO ?_))))))
 refine bH (rVq (iV 0)) (aF ?_)
 · have e:(0≤fi (fun j=>(fun a=>decide (a < 0∨n≤a)) (nth w j)) 0 w.length↔fe (wE w n) 0 w.length=1)∧(fe (wE w n) 0 w.length=0∨fe (wE w n) 0 w.length=1):=aNA w n w.length 0
   rw [pY,if_neg (by omega),if_neg (by omega)]; omega
def aR4:List SO:=[
 qM 17 0,
 sO 18 (.nilck (.t 17)),
 qF 19 0 18,
 qL 20 4 19,
 qM 21 0,
 sO 22 (.nilck (.t 21)),
 qF 23 4 22,
 ql 24 23,
 qM 25 7,
 sO 26 (.call false 102 [.t 20,.t 24,.t 25]),
 qM 16 26,
 qE 27 16 0,
 qE 28 16 1,
 qM 8 27,
 qM 9 28]
def aOh:SC:=.seq (.reg [qP 13 .lss 12 11]) (.seq (.cond (.t 13) (.skip) (.exit 0)) (.seq (.block 1 (.seq (.reg [qA 14 1 10 12,ql 15 14,qM 7 15]) (.seq (.reg aR4) (.seq (.reg [qM 29 0,qM 30 8,sO 31 (.nilck (.t 29)),qF 32 4 31,sN (.store 1 (.t 32) (.t 30))]) (.reg [qM 33 5,qM 34 9,sO 35 (.bslice 3 1 false [.int .i64 0] 1 [(0,.t 34)]),sO 36 (.append 3 1 8 (.t 33) (.t 35)),qM 5 36]))))) (.reg [qC 37 .add 12 1,qM 12 37])))
def s84:SF:=⟨39,[.tmp 4],.seq (.reg [sO 4 (.mv (.c (.nilsl)))]) (.seq (.reg [sO 5 (.lazy 3 1)]) (.seq (.seq (.reg [qM 10 1,qN 11 10,qI 12 0]) (.block 0 (.loop aOh))) (.seq (.reg [qM 38 5,qM 4 38]) (.ret))))⟩
theorem aQu:bJ Tryz.prog ⟨oEq,[5],[],[]⟩ Tryz.f84=some s84:=by kernel_rfl
def aQA:List SO:=[
 qF 8 0 3,
 qF 9 2 8,
 ql 10 9,
 qM 11 1,
 qA 12 1 10 11,
 ql 13 12,
 qM 14 2,
 qA 15 1 13 14,
 ql 16 15,
 qF 17 0 3,
 qF 18 3 17,
 ql 19 18,
 qM 20 1,
 qA 21 1 19 20,
 ql 22 21,
 qM 23 2,
 qA 24 1 22 23,
 ql 25 24,
 qM 6 16,
 qM 7 25]
def aTu:SF:=⟨26,[.tmp 6,.tmp 7],.seq (.reg [sO 3 (.box 126 4 (.t 0)),qI 6 0,qI 7 0]) (.seq (.reg aQA) (.ret))⟩
theorem aLg:bJ Tryz.prog ⟨oEq,[],[],[]⟩ Tryz.f102=some aTu:=by kernel_rfl
theorem aHw (m:M) (s a:Int) (hs:0≤s∧s < m.nx.length∧m.ot.length=m.nx.length) (ha:0≤a∧a < (nth m.nx s.toNat).length∧a < (nth m.ot s.toNat).length):aQ Tryz.prog 102 [(V.agg [(iV m.i),(iV m.s),(bI m.nx),(bI m.ot)]),(iV s),(iV a)] (V.tup [(iV (cell m.nx s a)),(iV (cell m.ot s a))]):=by
 refine pW Tryz.func102 aLg fun hB=>?_
 unfold aTu
 dsimp only
 refine W_r (cA (i:=3) (n:=0) (m:=4) (cs:=[(iV m.i),(iV m.s),(bI m.nx),(bI m.ot)]) rfl (cVq rfl) rfl rfl rfl (aA rfl (aA rfl (R_e (W_r (aL rfl rfl (aL rfl rfl ?_)))))))
 refine aJ rfl rfl rfl rfl (aA rfl (fA (i:=s) (rVq (bI m.nx)) (rVq (iV s)) (by omega) (by omega) rfl (aG rfl rfl (aA rfl (fA (i:=a) (rVq (aY (nth m.nx s.toNat))) (rVq (iV a)) (by omega) (by omega) rfl (aG rfl rfl (aL rfl rfl ?_)))))))
 refine aL rfl rfl (aJ rfl rfl rfl rfl (aA rfl (fA (i:=s) (rVq (bI m.ot)) (rVq (iV s)) (by omega) (by omega) rfl (aG rfl rfl (aA rfl (fA (i:=a) (rVq (aY (nth m.ot s.toNat))) (rVq (iV a)) (by omega) (by omega) rfl (aG rfl rfl ?_)))))))
 refine aA rfl (aA rfl (R_e (aO ?_)))
 refine dC (rVq (iV (nth (nth m.nx s.toNat) a.toNat))) (rVq (iV (nth (nth m.ot s.toNat) a.toNat))) (aF ?_) (aF ?_)
 · rfl
 · rfl
theorem aSb (m:M) (s:Int) (w:List Int) (v1 v5:Nat) (Hi:aP) (hb:Hi 30=(bk v1 128 5 [[(iV m.i),(iV m.s),(bI m.nx),(bI m.ot),(iV s)]])) (h105:(Hi 105).ver=v5) (hm:dS m=0) (hs:0≤s∧s < m.nx.length) (hl:w.length≤1024) (hw: ∀ k,k < w.length→0≤nth w k∧nth w k < m.i):eP Tryz.prog 84 [(V.mp 30 v1 0 0),(aY w)] Hi (aY (eY m s w)) (upd (upd Hi 105 (⟨v5+1+w.length,false,false,0,0,[]⟩:Blk)) 30 (bk v1 128 5 [[(iV m.i),(iV m.s),(bI m.nx),(bI m.ot),(iV (dW m s w))]])):=by
 refine eW (k0:=100) Tryz.func84 aQu fun hB=>?_
 unfold s84
 dsimp only
 refine W_r (aA rfl (R_e (W_r (nQ (i:=105) (n:=v5) rfl h105 (R_e (aB (W_r ?_)))))))
 refine aA rfl (bF rfl (aA rfl (R_e (aD fun Q1 n1 x1 y1 z1=>?_))))
 refine bS (fun mm T H=> ∃ (k:Nat),mm=w.length - k∧T 0=(V.mp 30 v1 0 0)∧T 5=(V.ms 105 (v5+1+k) 0 k)∧T 10=(aY w)∧T 11=(iV ((w.length:Nat):Int))∧T 12=(iV ((k:Nat):Int))∧(∀ j,j∉[105,30]→H j=Hi j)∧H 30=(bk v1 128 5 [[(iV m.i),(iV m.s),(bI m.nx),(bI m.ot),(iV (dW m s (w.take k)))]])∧H 105=(bz (v5+1+k) 3 1 (List.map cI (eY m s (w.take k))))∧(k≤w.length)) ?_ ?_
 ·
  refine ⟨_,0,rfl,rfl,(eTq (rVq (V.ms 105 (v5+1) 0 0)) (by rfl)),rfl,rfl,(eTq (rVq (iV 0)) rfl),(cG (fun _ _=>rfl) (by decide)),(eTq hb (by rfl)),(eTq (@rfl Blk (bz (v5+1) 3 1 [])) (by rfl)),?_⟩
  · omega
 intro mm T H ⟨k,hmm,t0,t5,t10,t11,t12,hF,h30,h105,hk⟩ Q2 p12 p22 p32
 unfold aOh
 refine W_r (bO t12 t11 (R_e ?_))
 refine aH rfl (fun c3=>?_) fun c3=>?_
 ·
  have h1:=aJS hm hs hw (k:=k) (by omega)
  refine aC (aD fun Q4 n4 x4 y4 z4=>(W_r (dB (i:=k) t10 t12 (by omega) rfl (aG rfl rfl (aA rfl (R_e (W_r ?_)))))))
  refine aA t0 (bY rfl h30 oB (aL rfl h30 (aJ rfl h30 rfl rfl (aA t0 (bY rfl h30 oB (aL rfl h30 (aJ rfl h30 rfl rfl ?_)))))))
  refine aA rfl (aI (aHw m (dW m s (w.take k)) (nth w k) h1.1 h1.2) rfl (aA rfl (bK rfl rfl (bK rfl rfl (aA rfl (aA rfl (R_e ?_)))))))
  refine W_r (aA t0 (aA rfl (bY rfl h30 oB (aL rfl h30 (bE rfl rfl rfl h30 rfl rfl rfl rfl rfl (R_e (W_t ?_)))))))
  refine aA t5 (aA rfl (aR rfl rfl (cC (l:=(eY m s (w.take k))) (f:=cI) (x:=(cell m.ot (dW m s (w.take k)) (nth w k))) (rVq (V.ms 105 (v5+1+k) 0 k)) h105 (by (simp only [iB,List.length_take]; omega)) (rVq (V.sl [[(iV (cell m.ot (dW m s (w.take k)) (nth w k)))]])) rfl rfl (by omega) (by omega) (aA rfl (R_e (n4 _ _ (.done ?_)))))))
  refine W_t (bC t12 (rNq 1) (by omega) (aA rfl (R_e ?_)))
  refine p12 _ _ _ ?_ ⟨(k+1),rfl,t0,(eTq (rVq (V.ms 105 (v5+1+k+1) 0 (k+1))) (by rfl)),t10,t11,(eTq (rNq (k+1)) (by rfl)),(cG (cG hF (by decide)) (by decide)),(eTq (@rfl Blk (bk v1 128 5 [[(iV m.i),(iV m.s),(bI m.nx),(bI m.ot),(iV (cell m.nx (dW m s (w.take k)) (nth w k)))]])) (by (rw [aAM m s (by omega)]))),(eTq (@rfl Blk (bz (v5+1+k+1) 3 1 (List.map cI (eY m s (w.take k)++[(cell m.ot (dW m s (w.take k)) (nth w k))])))) (by (rw [aA7 m s (by omega)]; rfl))),?_⟩
  · omega
  · omega
 refine aN (p32 _ _ _ (x1 _ _ (.done (W_r (aA t5 (aA rfl (R_e ?_)))))))
 refine aO (cP (R:=fun T H=>T 4=(V.ms 105 (v5+1+k) 0 k)∧(∀ j,j∉[105,30]→H j=Hi j)∧H 30=(bk v1 128 5 [[(iV m.i),(iV m.s),(bI m.nx),(bI m.ot),(iV (dW m s (w.take k)))]])∧H 105=(bz (v5+1+k) 3 1 (List.map cI (eY m s (w.take k))))∧True) ⟨(rVq (V.ms 105 (v5+1+k) 0 k)),hF,h30,h105,trivial⟩ ?_)
 intro T H ⟨t4,hF,h30,h105,_⟩
 have fh:=dU.fin (dU.put (B:=(bk v1 128 5 [[(iV m.i),(iV m.s),(bI m.nx),(bI m.ot),(iV (dW m s w))]])) (dU.putv (n:=(v5+1+k)) (B:=(⟨v5+1+w.length,false,false,0,0,[]⟩:Blk)) (dU.start hF) (cVq h105) (by show _≤v5+1+w.length; omega) rfl) h30 (kS.eq (by (have e:k=w.length:=(by omega); subst e; rw [List.take_length]; done))))
 exact yG t4 fh (dR.trans_eq (dR.frz (rows:=(List.map cI (eY m s (w.take k)))) fh (by simp [h105]) (by simp [h105]) rfl (by rw [h105]; exact aCB (l:=(eY m s (w.take k))) (by (simp only [iB,List.length_take]; omega)))) (by (have e:k=w.length:=(by omega); subst e; rw [List.take_length]; done)))
theorem aG9 (m:M) (s:Int) (w:List Int):aQ Tryz.prog 57 [(V.agg [(iV m.i),(iV m.s),(bI m.nx),(bI m.ot)]),(iV s),(aY w)] (V.tup [(aY (nH m s w)),(iV (aAt m s w)),(iV (frE m s w))]):=by
 refine pW Tryz.func57 aPm fun hB=>?_
 unfold s57
 dsimp only
 refine W_r (cA (i:=3) (n:=0) (m:=4) (cs:=[(iV m.i),(iV m.s),(bI m.nx),(bI m.ot)]) rfl (cVq rfl) rfl rfl rfl (aA rfl (aA rfl (aA rfl (R_e (aB (W_r ?_)))))))
 refine aJ rfl rfl rfl rfl (aA rfl (aI (aEE m s) rfl (aA rfl (R_e (aB (W_r (aA rfl ?_)))))))
 refine cD rfl rfl (R_e ?_)
 refine aH rfl (fun c1=>?_) fun c1=>?_
 ·
  refine aB (W_r (aA rfl (aA rfl (aA rfl (aA rfl (R_e (aM ?_)))))))
  refine aIB (rVq V.nilsl) (rVq (iV 0)) (rVq (iV (stE m s))) (bU ?_) (aF ?_) (aF ?_)
  · rw [nH,if_pos (by rw [frE,if_pos (by omega)]; omega)]
  · rw [aAt,if_pos (by rw [frE,if_pos (by omega)]; omega)]
  · rw [frE,if_pos (by omega)]
 have hs:=aPg (m:=m) (s:=s) (by omega)
 refine aC (aB (W_r (aA rfl (aL rfl rfl (aJ rfl rfl rfl rfl (aI (aD9 w m.i) rfl (aA rfl ?_)))))))
 refine R_e (aB (W_r (aA rfl (cD rfl rfl (R_e ?_)))))
 refine aH rfl (fun c2=>?_) fun c2=>?_
 ·
  refine aB (W_r (aA rfl (aA rfl (aA rfl (aA rfl (R_e (aM ?_)))))))
  refine aIB (rVq V.nilsl) (rVq (iV 0)) (rVq (iV (pY w m.i))) (bU ?_) (aF ?_) (aF ?_)
  · rw [nH,if_pos (by rw [frE,if_neg (by omega)]; omega)]
  · rw [aAt,if_pos (by rw [frE,if_neg (by omega)]; omega)]
  · rw [frE,if_neg (by omega)]
 have hw:=aGw (w:=w) (n:=m.i) (by omega)
 refine aC (W_r (aJ rfl rfl rfl rfl (aW rfl rfl (aA rfl (aW rfl rfl (cA (i:=30) (n:=0) (m:=5) (cs:=[(iV m.i),(iV m.s),(bI m.nx),(bI m.ot),(iV s)]) rfl (cVq rfl) rfl rfl rfl (aA rfl ?_)))))))
 refine R_e (W_r (aA rfl (aA rfl (gK (bL rfl (bL rfl eB)) (aSb m s w 1 0 _ rfl (cVq rfl) hs.1 hs.2 hw.1 hw.2) (aA rfl (R_e (W_r ?_)))))))
 refine aA rfl (aA rfl (bY rfl rfl oB (aL rfl rfl (aJ rfl rfl rfl rfl (aA rfl (aA rfl (aA rfl ?_)))))))
 refine R_e (aO ?_)
 refine aIB (rVq (aY (eY m s w))) (rVq (iV (dW m s w))) (rVq (iV 0)) (dA ?_ (fun _=>by simp)) (aF ?_) (aF ?_)
 · rw [nH,if_neg (by rw [frE,if_neg (by omega)]; omega)]
 · rw [aAt,if_neg (by rw [frE,if_neg (by omega)]; omega)]
 · rw [frE,if_neg (by omega)]; omega
theorem aHJ (m:M) (w:List Int):aQ Tryz.prog 30 [(V.agg [(iV m.i),(iV m.s),(bI m.nx),(bI m.ot)]),(aY w)] (V.tup [(aY (nH m m.s w)),(iV (frE m m.s w))]):=by
 refine pW Tryz.func30 aRr fun hB=>?_
 unfold s30
 dsimp only
 refine W_r (cA (i:=2) (n:=0) (m:=4) (cs:=[(iV m.i),(iV m.s),(bI m.nx),(bI m.ot)]) rfl (cVq rfl) rfl rfl rfl (aA rfl (aA rfl (R_e (W_r (aJ rfl rfl rfl rfl (aL rfl rfl ?_)))))))
 refine aJ rfl rfl rfl rfl (aA rfl (aI (aG9 m m.s w) rfl (aA rfl (bK rfl rfl (bK rfl rfl (bK rfl rfl (aA rfl ?_)))))))
 refine aA rfl (aA rfl (R_e (W_r (aA rfl (aA rfl (aA rfl (aA rfl ?_)))))))
 refine R_e (aO ?_)
 refine dC (rVq (aY (nH m m.s w))) (rVq (iV (frE m m.s w))) (dA ?_ (fun _=>by simp)) (aF ?_)
 · rfl
 · rfl
def aTG:List SO:=[
 qF 9 0 3,
 ql 10 9,
 qF 11 1 3,
 qL 12 3 11,
 sO 13 (.call false 73 [.t 12]),
 sO 14 (.build [.int .i64 0,.str []] [(0,1,.t 10),(1,1,.t 13)]),
 sO 6 (.alloc 90 [.int .i64 0,.str []]),
 sN (.store 2 (.t 6) (.t 14))]
def aSj:List SO:=[
 qL 15 2 6,
 qM 16 0,
 sO 17 (.nilck (.t 16)),
 qF 18 2 17,
 qL 19 2 18,
 sO 20 (.abin false [0,1] (.t 15) (.t 19)),
 qM 21 20,
 ⟨some (21,false),some 22,.mv (.t 0)⟩,
 ⟨some (21,false),some 23,.nilck (.t 22)⟩,
 ⟨some (21,false),some 24,.fld 0 (.t 23)⟩,
 ⟨some (21,false),some 25,.load false 1 (.t 24)⟩,
 ⟨some (21,false),some 26,.load true 2 (.t 6)⟩,
 ⟨some (21,false),some 27,.mlook 12 false (.bool false) (.t 25) (.t 26)⟩,
 sO 28 (.pick (.t 21) (.c (.bool true)) (.t 27))]
def aUb:List SO:=[
 qF 30 1 3,
 qL 31 3 30,
 sO 32 (.call false 15 [.t 31]),
 qM 29 32,
 qE 33 29 0,
 qE 34 29 1,
 qM 7 33,
 qM 8 34]
def aRH:List SO:=[
 qM 59 0,
 qM 60 0,
 sO 61 (.nilck (.t 60)),
 qF 62 1 61,
 ql 63 62,
 qL 64 5 3,
 sO 65 (.bslice 95 5 false [.int .i64 0,.int .i64 0,.int .i64 0,.nilsl,.nilsl] 1 [(0,.t 64)]),
 sO 66 (.append 95 5 72 (.t 63) (.t 65)),
 sO 67 (.nilck (.t 59)),
 qF 68 1 67,
 sN (.store 1 (.t 68) (.t 66))]
def s51:SF:=⟨69,[.tmp 4,.tmp 5],.seq (.reg [sO 3 (.box 95 5 (.t 1)),sO 4 (.mv (.c (.bool false))),qI 5 0]) (.seq (.dreg [6] aTG) (.seq (.seq (.reg aSj) (.cond (.t 28) (.seq (.reg [sO 4 (.mv (.c (.bool false))),qI 5 0]) (.ret)) (.skip))) (.seq (.reg aUb) (.seq (.seq (.reg [qM 35 8,qC 36 .neq 35 0,qM 37 36,⟨some (37,false),some 38,.mv (.t 7)⟩,⟨some (37,false),some 39,.un .not (.t 38)⟩,sO 40 (.pick (.t 37) (.c (.bool true)) (.t 39))]) (.cond (.t 40) (.seq (.reg [qM 41 8,qC 42 .eql 41 0,qM 43 8,qM 4 42,qM 5 43]) (.ret)) (.skip))) (.seq (.seq (.reg [qM 44 0,sO 45 (.nilck (.t 44)),qF 46 1 45,ql 47 46,qN 48 47,qC 49 .eql 48 4096]) (.cond (.t 49) (.seq (.reg [sO 4 (.mv (.c (.bool false))),qI 5 11]) (.ret)) (.skip))) (.seq (.reg [qM 50 0,sO 51 (.nilck (.t 50)),qF 52 0 51,ql 53 52,qL 54 2 6,sN (.mset 12 (.t 53) (.t 54) (.c (.bool true)))]) (.seq (.reg [qM 55 0,qL 56 2 6,sO 57 (.nilck (.t 55)),qF 58 2 57,sN (.store 2 (.t 58) (.t 56))]) (.seq (.reg aRH) (.seq (.reg [sO 4 (.mv (.c (.bool false))),qI 5 0]) (.ret))))))))))⟩
theorem aBN:bJ Tryz.prog ⟨oEq,[],[],[]⟩ Tryz.f51=some s51:=by kernel_rfl
def s15:SF:=⟨12,[.tmp 2,.tmp 3],.seq (.reg [sO 1 (.box 24 3 (.t 0)),sO 2 (.mv (.c (.bool false))),qI 3 0]) (.seq (.seq (.reg [qL 5 3 1,sO 6 (.call false 35 [.t 5]),qM 4 6]) (.seq (.reg [qM 7 4,qC 8 .neq 7 0]) (.cond (.t 8) (.seq (.reg [qM 9 4,sO 2 (.mv (.c (.bool false))),qM 3 9]) (.ret)) (.skip)))) (.seq (.reg [qL 10 3 1,sO 11 (.call false 42 [.t 10]),qM 2 11,qI 3 0]) (.ret)))⟩
theorem aO8:bJ Tryz.prog ⟨oEq,[],[],[]⟩ Tryz.f15=some s15:=by kernel_rfl
def aT6:List SO:=[
 qF 10 2 1,
 ql 11 10,
 sO 12 (.idx 3 (.t 11) (.c (.int .i64 0))),
 qL 13 3 12,
 sO 14 (.call false 42 [.t 13]),
 sO 15 (.un .not (.t 14)),
 qM 2 15]
def aSn:List SO:=[
 qF 18 2 1,
 ql 19 18,
 sO 20 (.call false 69 [.t 19,.c (.fn 42 [] [])]),
 qF 21 2 1,
 ql 22 21,
 qN 23 22,
 qP 24 .eql 20 23,
 qM 2 24]
def s42:SF:=⟨39,[.tmp 2],.seq (.reg [sO 1 (.box 24 3 (.t 0)),sO 2 (.mv (.c (.bool false)))]) (.seq (.seq (.reg [qF 3 0 1,ql 4 3]) (.block 0 (.seq (.seq (.reg [qC 6 .eql 4 1,qM 5 6]) (.cond (.t 5) (.skip) (.reg [qC 7 .eql 4 9,qM 5 7]))) (.cond (.t 5) (.seq (.reg [sO 2 (.mv (.c (.bool true)))]) (.ret)) (.seq (.reg [qC 9 .eql 4 4,qM 8 9]) (.cond (.t 8) (.seq (.reg aT6) (.ret)) (.seq (.reg [qC 17 .eql 4 5,qM 16 17]) (.cond (.t 16) (.seq (.reg aSn) (.ret)) (.seq (.reg [qC 26 .eql 4 6,qM 25 26]) (.cond (.t 25) (.seq (.reg [qF 27 2 1,ql 28 27,sO 29 (.call false 69 [.t 28,.c (.fn 42 [] [])]),qC 30 .gtr 29 0,qM 2 30]) (.ret)) (.seq (.seq (.reg [qC 32 .eql 4 8,qM 31 32]) (.cond (.t 31) (.skip) (.reg [qC 33 .eql 4 10,qM 31 33]))) (.cond (.t 31) (.seq (.reg [qF 34 2 1,ql 35 34,sO 36 (.idx 3 (.t 35) (.c (.int .i64 1))),qL 37 3 36,sO 38 (.call false 42 [.t 37]),qM 2 38]) (.ret)) (.skip))))))))))))) (.seq (.reg [sO 2 (.mv (.c (.bool false)))]) (.ret)))⟩
theorem aPH:bJ Tryz.prog ⟨oEq,[],[],[]⟩ Tryz.f42=some s42:=by kernel_rfl
theorem xK (f:Fm) (hf:okF f=true) (hz:f.sz≤4096) (ih: ∀ (g:Fm),g.sz < f.sz→okF g=true→g.sz≤4096→aQ Tryz.prog 42 [(V.agg (rFq g))] (V.bool (sat t0 g 0))):aQ Tryz.prog 42 [(V.agg (rFq f))] (V.bool (sat t0 f 0)):=by
 refine pW Tryz.func42 aPH fun hB=>?_
 unfold s42
 dsimp only
 have hp:=bN hf
 have hr:=dE hp.1
 have hln:=f.sz_len
 refine W_r (cA (i:=1) (n:=0) (m:=3) (cs:=(rFq f)) rfl (cVq rfl) rfl rfl rfl (aA rfl (R_e (aB (W_r (aL rfl rfl (aJ rfl rfl rfl rfl ?_)))))))
 refine R_e (aD fun Q1 n1 x1 y1 z1=>(aB (W_r (aX rfl rfl (aA rfl (R_e ?_))))))
 refine aH rfl (fun c2=>?_) fun c2=>?_
 ·
  refine aC ?_
  refine bZ rfl (fun c3=>?_) fun c3=>?_
  ·
   refine W_r (aA rfl (R_e (aO (y1 _ _ ?_))))
   refine bH (rVq (V.bool true)) (aZ ?_)
   · rw [aNv (by omega)]
  · exact (c3 c2).elim
 refine W_r (aX rfl rfl (aA rfl (R_e ?_)))
 refine bZ rfl (fun c4=>?_) fun c4=>?_
 ·
  refine W_r (aA rfl (R_e (aO (y1 _ _ ?_))))
  refine bH (rVq (V.bool true)) (aZ ?_)
  · rw [aNv (by omega)]
 refine W_r (aX rfl rfl (aA rfl (R_e ?_)))
 refine bZ rfl (fun c5=>?_) fun c5=>?_
 ·
  refine W_r (aL rfl rfl (aJ rfl rfl rfl rfl (bT (i:=0) (rVq (V.sl (List.map cF f.kids))) (rNq 0) (by omega) (bP _) rfl (aG rfl rfl (aI (ih (nth f.kids 0) skq (hp.2 _ (by omega)) (szq hz)) rfl (eL rfl (aA rfl ?_)))))))
  refine R_e (aO (y1 _ _ ?_))
  refine bH (rVq (V.bool (!sat t0 (nth f.kids 0) 0))) (aZ ?_)
  · rw [aSm hf (by omega)]
 refine W_r (aX rfl rfl (aA rfl (R_e ?_)))
 refine bZ rfl (fun c6=>?_) fun c6=>?_
 ·
  refine W_r (aL rfl rfl (aJ rfl rfl rfl rfl (aI (tW (fun g=>sat t0 g 0) f.kids 42 ([]) (by simp) (by simp) (fun k h=>ih (nth f.kids k) (Fm.sz_kid h) (hp.2 k h) (Nat.le_trans (Nat.le_of_lt (Fm.sz_kid h)) hz)) (by omega)) rfl (aL rfl rfl (aJ rfl rfl rfl rfl (bF rfl (aX rfl rfl ?_)))))))
  refine aA rfl (R_e (aO (y1 _ _ ?_)))
  refine bH (rVq (V.bool (decide (((iY (fun g=>sat t0 g 0) f.kids:Nat):Int)=((f.kids.length:Nat):Int))))) (aZ ?_)
  · rw [aTQ (by omega),← aJ2]
 refine W_r (aX rfl rfl (aA rfl (R_e ?_)))
 refine bZ rfl (fun c7=>?_) fun c7=>?_
 ·
  refine W_r (aL rfl rfl (aJ rfl rfl rfl rfl (aI (tW (fun g=>sat t0 g 0) f.kids 42 ([]) (by simp) (by simp) (fun k h=>ih (nth f.kids k) (Fm.sz_kid h) (hp.2 k h) (Nat.le_trans (Nat.le_of_lt (Fm.sz_kid h)) hz)) (by omega)) rfl (fI rfl rfl (aA rfl (R_e (aO ?_)))))))
  refine y1 _ _ ?_
  refine bH (rVq (V.bool (decide ((0:Int) < ((iY (fun g=>sat t0 g 0) f.kids:Nat):Int))))) (aZ ?_)
  · rw [aR2 (by omega),← xT]
 refine aB (W_r (aX rfl rfl (aA rfl (R_e ?_))))
 refine aH rfl (fun c8=>?_) fun c8=>?_
 ·
  refine aC ?_
  refine bZ rfl (fun c9=>?_) fun c9=>?_
  ·
   refine W_r (aL rfl rfl (aJ rfl rfl rfl rfl (bT (i:=1) (rVq (V.sl (List.map cF f.kids))) (rNq 1) (by omega) (bP _) rfl (aG rfl rfl (aI (ih (nth f.kids 1) skq (hp.2 _ (by omega)) (szq hz)) rfl (aA rfl (R_e ?_)))))))
   refine aO (y1 _ _ ?_)
   refine bH (rVq (V.bool (sat t0 (nth f.kids 1) 0))) (aZ ?_)
   · rw [aN3 hf (by omega)]
  · exact (c9 c8).elim
 refine W_r (aX rfl rfl (aA rfl (R_e ?_)))
 refine bZ rfl (fun c10=>?_) fun c10=>?_
 ·
  refine W_r (aL rfl rfl (aJ rfl rfl rfl rfl (bT (i:=1) (rVq (V.sl (List.map cF f.kids))) (rNq 1) (by omega) (bP _) rfl (aG rfl rfl (aI (ih (nth f.kids 1) skq (hp.2 _ (by omega)) (szq hz)) rfl (aA rfl (R_e ?_)))))))
  refine aO (y1 _ _ ?_)
  refine bH (rVq (V.bool (sat t0 (nth f.kids 1) 0))) (aZ ?_)
  · rw [aN3 hf (by omega)]
 refine cN (n1 _ _ (.done (W_r (aA rfl (R_e (aO ?_))))))
 refine bH (rVq (V.bool false)) (aZ ?_)
 · rw [aSv hf (by omega) (by omega) (by omega) (by omega) (by omega)]
theorem aHm (f:Fm) (hf:okF f=true) (hz:f.sz≤4096):aQ Tryz.prog 42 [(V.agg (rFq f))] (V.bool (sat t0 f 0)):=by
  have key: ∀ (mm:Nat) (f:Fm),f.sz < mm→okF f=true→f.sz≤4096→aQ Tryz.prog 42 [(V.agg (rFq f))] (V.bool (sat t0 f 0)):=by
    intro mm
    induction mm with
    |zero=>intro f hlt; exact absurd hlt (Nat.not_lt_zero _)
    | succ mm ih =>
      intro f hlt hf hz
      exact xK f hf hz fun f2 hlt2=>ih f2 (by omega)
  exact key (f.sz+1) f (Nat.lt_succ_self _) hf hz
theorem mM (f:Fm):aQ Tryz.prog 15 [(V.agg (rFq f))] (V.tup [(V.bool (hoB t0 f)),(iV (hoE t0 f))]):=by
 refine pW Tryz.func15 aO8 fun hB=>?_
 unfold s15
 dsimp only
 refine W_r (cA (i:=1) (n:=0) (m:=3) (cs:=(rFq f)) rfl (cVq rfl) rfl rfl rfl (aA rfl (aA rfl (R_e (aB (W_r (aJ rfl rfl rfl rfl ?_)))))))
 refine aI (jP f) rfl (aA rfl (R_e (aB (W_r (aA rfl (cD rfl rfl (R_e ?_)))))))
 refine aH rfl (fun c1=>?_) fun c1=>?_
 ·
  have h0:hoE t0 f=cW f:=if_pos c1
  have hb0:hoB t0 f=false:=by unfold hoB; rw [h0,decide_eq_false (by omega)]; rfl
  refine aB (W_r (aA rfl (aA rfl (aA rfl (R_e (aM ?_))))))
  refine dC (rVq (V.bool false)) (rVq (iV (cW f))) (aZ ?_) (aF ?_)
  · rw [hb0]
  · omega
 have h1:cW f=0:=by omega
 have h0:hoE t0 f=0:=by unfold hoE; rw [if_neg (by omega),if_neg (by decide),if_neg (by decide)]
 have hb0:hoB t0 f=sat t0 f 0:=by unfold hoB; rw [h0]; rfl
 refine aC (W_r (aJ rfl rfl rfl rfl (aI (aHm f (eZ h1) (gA h1)) rfl (aA rfl (aA rfl (R_e (aO ?_)))))))
 refine dC (rVq (V.bool (sat t0 f 0))) (rVq (iV 0)) (aZ ?_) (aF ?_)
 · rw [hb0]
 · omega
def aS4:List SO:=[
 qF 6 0 1,
 ql 7 6,
 sO 8 (.call false 71 [.t 7]),
 sO 9 (.sbin .add (.t 8) (.c (.str [46]))),
 qF 10 1 1,
 ql 11 10,
 sO 12 (.call false 71 [.t 11]),
 sO 13 (.sbin .add (.t 9) (.t 12)),
 sO 14 (.sbin .add (.t 13) (.c (.str [40]))),
 qM 3 14]
def aNM:SC:=.seq (.reg [qP 19 .lss 18 17]) (.seq (.cond (.t 19) (.skip) (.exit 0)) (.seq (.block 1 (.seq (.reg [qA 20 3 16 18,qL 21 3 20,sO 5 (.alloc 24 zFq),sN (.store 3 (.t 5) (.t 21))]) (.reg [qM 22 3,qL 23 3 5,sO 24 (.call false 73 [.t 23]),sO 25 (.sbin .add (.t 22) (.t 24)),qM 3 25]))) (.reg [qC 26 .add 18 1,qM 18 26])))
def s73:SF:=⟨29,[.tmp 2],.seq (.reg [sO 1 (.box 24 3 (.t 0)),sO 2 (.mv (.c (.str [])))]) (.seq (.reg aS4) (.seq (.seq (.reg [qF 15 2 1,ql 16 15,qN 17 16,qI 18 0]) (.block 0 (.loop aNM))) (.seq (.reg [qM 27 3,sO 28 (.sbin .add (.t 27) (.c (.str [41]))),qM 2 28]) (.ret))))⟩
theorem aOQ:bJ Tryz.prog ⟨oEq,[],[],[]⟩ Tryz.f73=some s73:=by kernel_rfl
end Go.Proofs.YteehaobohaecmaaGreatDoor
namespace Go.Proofs.YteehaobohaecmaaGreatDoor
open Go Go.Proofs Go.Shelf Go.Lib Go.Sort
theorem aEe {x:Cx} (hx:Inv x) (k:Nat) (os:Array Obj):let y:Cx:={x with w:=grow (x.w.drewN k) os}; Inv y∧Frame x y:=by
  intro y
  have hlt: ∀ b,b < x.w.heap.size→y.w.heap[b]?=x.w.heap[b]?:=fun b hb=>by
    show (x.w.heap++os)[b]?=_
    exact Array.getElem?_append_left hb
  have hsz:x.w.heap.size≤y.w.heap.size:=by
    show _≤(x.w.heap++os).size
    rw [Array.size_append]; omega
  have hf:Frame x y:=by
    refine ⟨rfl,rfl,rfl,hsz,fun b hb _=>hlt b hb,fun _ h=>h,fun _ h=>.inl h,fun id=>⟨Nat.le_refl _,fun h _=>⟨h,rfl,rfl,fun _=>rfl,fun ho=>⟨rfl,?_⟩⟩⟩,fun _ h=>.inl ⟨h,rfl⟩,Nat.le_add_right _ _,fun _ _ _=>rfl⟩
    unfold dY
    rw [hlt _ (hx.lt ho)]
  refine ⟨⟨fun b hb=>Nat.lt_of_lt_of_le (hx.zlt b hb) hsz,hx.zown,fun id ho=>?_,hx.inj,hx.tab_of hf⟩,hf⟩
  obtain ⟨cc,h1,h2,h3,h4⟩:=hx.blk id ho
  exact ⟨cc,by rw [hlt _ (hx.lt ho)]; exact h1,h2,h3,fun r row j v hr hj=>(h4 r row j v hr hj).frame hx hf⟩
theorem aHB {P:Program} {ρ:Go.Shelf.Ren} (L:LaysM.n171 P ρ) (hcf:dV P (ρ.f 171)) (hT:(ρ.g 17,aOU)∈aLL) (n:Int) (h0: -9223372036854775808≤n) (h1:n≤9223372036854775807):
    aQ P (ρ.f 171) [iV n] (.str (itoa n)):=by
  intro H
  refine ⟨hcf,fun x cs hxH hx hr=>?_⟩
  subst hxH
  obtain ⟨c0,rfl⟩: ∃ c0,cs=[c0]:=by
    have:=hr.1
    match cs with
    |[a]=>exact ⟨a,rfl⟩
    |[]=>simp at this
    |_::_::_=>simp at this
  have r0:R x (iV n) c0:=hr.2 0 _ rfl
  have hc0:c0=.int .i64 n:=by unfold iV at r0; cases r0; rfl
  subst hc0
  have htab : TabIs P x.w "internal/strconv.uint64pow10" .u64 pow10Tab := by
    obtain ⟨_,ty,m,h⟩:=hx.tab _ hT
    unfold TabIs World.var?
    rw [L.m17]
    simp only [Option.bind_some]
    rw [show x.w.heap[ρ.g 17]?=_ from h]
    rfl
  refine (Any.strconv_Itoa L n h0 h1 x.w htab).mono fun e w' h=>?_
  obtain ⟨rfl,k,os,rfl⟩:=h
  obtain ⟨g1,g2⟩:=aEe hx k os
  exact ⟨_,{x with w:=grow (x.w.drewN k) os},rfl,rfl,rfl,g1,.str _,g2⟩
end Go.Proofs.YteehaobohaecmaaGreatDoor
namespace Go.Proofs.YteehaobohaecmaaGreatDoor
open Go Go.Proofs Go.Shelf
def aJm:Go.Shelf.Ren:=⟨fun|129=>131|171=>71|243=>95|246=>116|283=>134|284=>135|285=>136|286=>137|317=>147|318=>148|319=>149|320=>150|337=>158|338=>159|n=>n,fun|0=>0|2=>2|3=>3|4=>4|5=>5|9=>9|20=>20|37=>182|46=>156|51=>175|53=>177|171=>180|173=>183|212=>195|213=>196|232=>205|233=>206|n=>n,fun|17=>0|18=>1|19=>2|n=>n⟩
set_option maxRecDepth 100000 in
theorem aI8:LaysM.n171 Tryz.prog aJm:={
  mixed:=(by kernel_rfl),
  f129:=Tryz.func131.trans (congrArg some (by kernel_rfl)),
  f171:=Tryz.func71.trans (congrArg some (by kernel_rfl)),
  f243:=Tryz.func95.trans (congrArg some (by kernel_rfl)),
  f246:=Tryz.func116.trans (congrArg some (by kernel_rfl)),
  f283:=Tryz.func134.trans (congrArg some (by kernel_rfl)),
  f284:=Tryz.func135.trans (congrArg some (by kernel_rfl)),
  f285:=Tryz.func136.trans (congrArg some (by kernel_rfl)),
  f286:=Tryz.func137.trans (congrArg some (by kernel_rfl)),
  f317:=Tryz.func147.trans (congrArg some (by kernel_rfl)),
  f318:=Tryz.func148.trans (congrArg some (by kernel_rfl)),
  f319:=Tryz.func149.trans (congrArg some (by kernel_rfl)),
  f320:=Tryz.func150.trans (congrArg some (by kernel_rfl)),
  f337:=Tryz.func158.trans (congrArg some (by kernel_rfl)),
  f338:=Tryz.func159.trans (congrArg some (by kernel_rfl)),
  t0:=Tryz.underlying0,
  a0:=Tryz.isAgg0,
  z0:=Tryz.sizeOf0,
  v0:=Tryz.zeroValue0,
  t2:=Tryz.underlying2,
  a2:=Tryz.isAgg2,
  z2:=Tryz.sizeOf2,
  v2:=Tryz.zeroValue2,
  t3:=Tryz.underlying3,
  a3:=Tryz.isAgg3,
  z3:=Tryz.sizeOf3,
  v3:=Tryz.zeroValue3,
  t4:=Tryz.underlying4,
  a4:=Tryz.isAgg4,
  z4:=Tryz.sizeOf4,
  v4:=Tryz.zeroValue4,
  t5:=Tryz.underlying5,
  a5:=Tryz.isAgg5,
  z5:=Tryz.sizeOf5,
  v5:=Tryz.zeroValue5,
  t9:=Tryz.underlying9,
  a9:=Tryz.isAgg9,
  z9:=Tryz.sizeOf9,
  v9:=Tryz.zeroValue9,
  t20:=Tryz.underlying20,
  a20:=Tryz.isAgg20,
  z20:=Tryz.sizeOf20,
  v20:=Tryz.zeroValue20,
  t37:=Tryz.underlying182,
  a37:=Tryz.isAgg182,
  z37:=Tryz.sizeOf182,
  v37:=Tryz.zeroValue182,
  t46:=Tryz.underlying156,
  a46:=Tryz.isAgg156,
  z46:=Tryz.sizeOf156,
  v46:=Tryz.zeroValue156,
  t51:=Tryz.underlying175,
  a51:=Tryz.isAgg175,
  z51:=Tryz.sizeOf175,
  v51:=Tryz.zeroValue175,
  t53:=Tryz.underlying177,
  a53:=Tryz.isAgg177,
  z53:=Tryz.sizeOf177,
  v53:=Tryz.zeroValue177,
  t171:=Tryz.underlying180,
  a171:=Tryz.isAgg180,
  z171:=Tryz.sizeOf180,
  v171:=Tryz.zeroValue180,
  t173:=Tryz.underlying183,
  a173:=Tryz.isAgg183,
  z173:=Tryz.sizeOf183,
  v173:=Tryz.zeroValue183,
  t212:=Tryz.underlying195,
  a212:=Tryz.isAgg195,
  z212:=Tryz.sizeOf195,
  v212:=Tryz.zeroValue195,
  t213:=Tryz.underlying196,
  a213:=Tryz.isAgg196,
  z213:=Tryz.sizeOf196,
  t232:=Tryz.underlying205,
  a232:=Tryz.isAgg205,
  z232:=Tryz.sizeOf205,
  v232:=Tryz.zeroValue205,
  t233:=Tryz.underlying206,
  a233:=Tryz.isAgg206,
  z233:=Tryz.sizeOf206,
  v233:=Tryz.zeroValue206,
  g17:=(by kernel_rfl),
  g18:=(by kernel_rfl),
  g19:=(by kernel_rfl),
  i0:=(by kernel_rfl),
  i2:=(by kernel_rfl),
  i3:=(by kernel_rfl),
  i4:=(by kernel_rfl),
  i5:=(by kernel_rfl),
  i9:=(by kernel_rfl),
  i20:=(by kernel_rfl),
  i37:=(by kernel_rfl),
  i46:=(by kernel_rfl),
  i51:=(by kernel_rfl),
  i53:=(by kernel_rfl),
  i171:=(by kernel_rfl),
  i173:=(by kernel_rfl),
  i212:=(by kernel_rfl),
  i232:=(by kernel_rfl),
  i233:=(by kernel_rfl),
  m17:=(by kernel_rfl),
  m18:=(by kernel_rfl),
  m19:=(by kernel_rfl)}
theorem aHn:dV Tryz.prog 71:=⟨_,Tryz.func71,by kernel_rfl,by kernel_rfl⟩
theorem vH (n:Int) (h0: -9223372036854775808≤n) (h1:n≤9223372036854775807):aQ Tryz.prog 71 [iV n] (.str (Lib.itoa n)):=aHB aI8 aHn (.head _) n h0 h1
end Go.Proofs.YteehaobohaecmaaGreatDoor
namespace Go.Proofs.YteehaobohaecmaaGreatDoor
open Go Go.Proofs
theorem vU (f:Fm) (hok:okF f=true) (hz:f.sz≤4096) (ih: ∀ (g:Fm),g.sz < f.sz→okF g=true→g.sz≤4096→aQ Tryz.prog 73 [(V.agg (rFq g))] (V.str (kyF g))):aQ Tryz.prog 73 [(V.agg (rFq f))] (V.str (kyF f)):=by
 refine pW Tryz.func73 aOQ fun hB=>?_
 unfold s73
 dsimp only
 have hp:=bN hok
 have hr:=dE hp.1
 have hln:=f.sz_len
 have hi1:=rV (n:=f.op) (by omega) (by omega)
 have hi2:=rV (n:=f.arg) (by omega) (by omega)
 refine W_r (cA (i:=1) (n:=0) (m:=3) (cs:=(rFq f)) rfl (cVq rfl) rfl rfl rfl (aA rfl (R_e (W_r (aL rfl rfl (aJ rfl rfl rfl rfl (aI (vH f.op (by omega) (by omega)) rfl ?_)))))))
 refine yT (s:=(Lib.itoa f.op)) (t:=([46])) rfl rfl (by (simp only [List.length_append,List.length_cons,List.length_nil]; omega)) (aL rfl rfl (aJ rfl rfl rfl rfl (aI (vH f.arg (by omega) (by omega)) rfl (yT (s:=((Lib.itoa f.op)++[46])) (t:=(Lib.itoa f.arg)) rfl rfl (by (simp only [List.length_append,List.length_cons,List.length_nil]; omega)) (yT (s:=((Lib.itoa f.op)++[46]++(Lib.itoa f.arg))) (t:=([40])) rfl rfl (by (simp only [List.length_append,List.length_cons,List.length_nil]; omega)) (aA rfl (R_e ?_)))))))
 refine aB (W_r (aL rfl rfl (aJ rfl rfl rfl rfl (bF rfl (aA rfl (R_e (aD fun Q1 n1 x1 y1 z1=>?_)))))))
 refine bS (fun mm T H=> ∃ (k:Nat) (v5:Nat),mm=f.kids.length - k∧T 3=(V.str (Lib.itoa f.op++[46]++Lib.itoa f.arg++[40]++kyL (f.kids.take k)))∧T 16=(V.sl (List.map cF f.kids))∧T 17=(iV ((f.kids.length:Nat):Int))∧T 18=(iV ((k:Nat):Int))∧H 1=(bFq f)∧(H 5).ver=v5∧(k≤f.kids.length)) ?_ ?_
 ·
  refine ⟨_,0,0,rfl,(eTq (rVq (V.str ((Lib.itoa f.op)++[46]++(Lib.itoa f.arg)++[40]))) (by simp [kyL])),rfl,rfl,(eTq (rVq (iV 0)) rfl),rfl,(cVq rfl),?_⟩
  · omega
 intro mm T H ⟨k,v5,hmm,t3,t16,t17,t18,h1,h5,hk⟩ Q2 p12 p22 p32
 unfold aNM
 have hq:=aRO hok hz k
 have hq2:k < f.kids.length→(kyF (nth f.kids k)).length≤131072:=fun h=>aFa (hp.2 k h) (Nat.le_trans (Nat.le_of_lt (Fm.sz_kid h)) hz)
 refine W_r (bO t18 t17 (R_e ?_))
 refine aH rfl (fun c3=>?_) fun c3=>?_
 ·
  refine aC (aD fun Q4 n4 x4 y4 z4=>(W_r (bT (i:=k) t16 t18 (by omega) (bP _) rfl (aG rfl rfl (aV (i:=5) (n:=v5) (m:=3) rfl h5 rfl (bE rfl rfl rfl rfl rfl rfl rfl rfl rfl (R_e ?_)))))))
  refine W_t (aA t3 (aJ rfl rfl rfl rfl (aI (ih (nth f.kids k) skq (hp.2 _ (by omega)) (szq hz)) rfl (yT (s:=(Lib.itoa f.op++[46]++Lib.itoa f.arg++[40]++kyL (f.kids.take k))) (t:=(kyF (nth f.kids k))) rfl rfl (by (simp only [List.length_append,List.length_cons,List.length_nil]; omega)) (aA rfl (R_e (n4 _ _ ?_)))))))
  refine .done (W_t (bC t18 (rNq 1) (by omega) (aA rfl (R_e ?_))))
  refine p12 _ _ _ ?_ ⟨(k+1),(v5+1),rfl,(eTq (rVq (V.str (Lib.itoa f.op++[46]++Lib.itoa f.arg++[40]++kyL (f.kids.take k)++(kyF (nth f.kids k))))) (by (rw [aKt (by omega),← List.append_assoc]; done))),t16,t17,(eTq (rNq (k+1)) (by rfl)),h1,(cVq rfl),?_⟩
  · omega
  · omega
 refine aN (p32 _ _ _ (x1 _ _ (.done (W_r (aA t3 (yT (s:=(Lib.itoa f.op++[46]++Lib.itoa f.arg++[40]++kyL (f.kids.take k))) (t:=([41])) rfl rfl (by (simp only [List.length_append,List.length_cons,List.length_nil]; omega)) (aA rfl ?_)))))))
 refine R_e (aO ?_)
 refine bH (rVq (V.str (Lib.itoa f.op++[46]++Lib.itoa f.arg++[40]++kyL (f.kids.take k)++[41]))) (cH (by simp) ?_)
 · rw [xN,show k=f.kids.length by omega,List.take_length]; simp [List.append_assoc]
theorem mT (f:Fm) (hok:okF f=true) (hz:f.sz≤4096):aQ Tryz.prog 73 [(V.agg (rFq f))] (V.str (kyF f)):=by
  have key: ∀ (mm:Nat) (f:Fm),f.sz < mm→okF f=true→f.sz≤4096→aQ Tryz.prog 73 [(V.agg (rFq f))] (V.str (kyF f)):=by
    intro mm
    induction mm with
    |zero=>intro f hlt; exact absurd hlt (Nat.not_lt_zero _)
    | succ mm ih =>
      intro f hlt hok hz
      exact vU f hok hz fun f2 hlt2=>ih f2 (by omega)
  exact key (f.sz+1) f (Nat.lt_succ_self _) hok hz
theorem aEf (l:List Pl) (q:Pl) (ls:Int) (lk:List UInt8) (v11 vm v8 u3 u6:Nat) (hn:mB l q) (Hi:aP) (h11:Hi 11=(bk v11 92 4 [[(V.mm 43 vm),(V.ms 815 v8 0 l.length),(iV ls),(V.str lk)]])) (hm:Hi 43=(bz vm eN 2 (eR (List.map plK l)))) (h8:Hi 815=(bz v8 95 5 (List.map cPl l))) (h3:(Hi 1003).ver=u3) (h6:(Hi 1006).ver=u6∧(Hi 1006).live=false) (hl:l.length≤4096) (hq:cW q.f=0) (hk:ls=q.s→lk=kyF q.f→fM l q.s q.f=true):eP Tryz.prog 51 [(V.mp 11 v11 0 0),(V.agg [(iV q.s),(iV q.f.op),(iV q.f.arg),(V.sl (List.map cF q.f.kids)),(aY q.w)])] Hi (V.tup [(V.bool ((fnd l q).1)),(iV ((fnd l q).2))]) (upd (upd (upd (upd (upd Hi 1003 (⟨u3+1,false,false,0,0,[]⟩:Blk)) 1006 (⟨u6+1,false,false,0,0,[]⟩:Blk)) 43 (bz vm eN 2 (eR (List.map plK (l++[q]))))) 815 (bz (v8+1) 95 5 (List.map cPl (l++[q])))) 11 (bk v11 92 4 [[(V.mm 43 vm),(V.ms 815 (v8+1) 0 ((l++[q]).length)),(iV q.s),(V.str (kyF q.f))]])):=by
 refine eW (k0:=1000) Tryz.func51 aBN fun hB=>?_
 unfold s51
 dsimp only
 refine W_r (cA (i:=1003) (n:=u3) (m:=5) (cs:=[(iV q.s),(iV q.f.op),(iV q.f.arg),(V.sl (List.map cF q.f.kids)),(aY q.w)]) (by rfl) h3 rfl rfl rfl (aA rfl (aA rfl (R_e (W_d (by exact (kK h6.2 nK)) (aL rfl rfl (aJ rfl rfl rfl rfl ?_)))))))
 refine aL rfl rfl (aJ rfl rfl rfl rfl (aI (mT q.f (eZ hq) (gA hq)) rfl (aW rfl rfl (aV (i:=1006) (n:=u6) (m:=2) (by rfl) h6.1 rfl (bE rfl rfl rfl rfl rfl rfl rfl rfl rfl (R_e (aB ?_)))))))
 refine W_r (aJ rfl rfl rfl rfl (aA rfl (bY rfl h11 oB (aL rfl h11 (aJ rfl h11 rfl rfl (aBg rfl rfl (aA rfl ?_)))))))
 refine aT 7 (fun T H=>T 0=(V.mp 11 v11 0 0)∧T 3=(V.mp 1003 (u3+1) 0 0)∧T 6=(V.mp 1006 (u6+1) 0 0)∧T 28=(V.bool (decide (q.s=ls∧(kyF q.f)=lk)||(decide ((q.s,kyF q.f)∈List.map plK l))))∧(∀ j,j∉[1003,1006,43,815,11]→H j=Hi j)∧H 11=(bk v11 92 4 [[(V.mm 43 vm),(V.ms 815 v8 0 l.length),(iV ls),(V.str lk)]])∧H 43=(bz vm eN 2 (eR (List.map plK l)))∧H 815=(bz v8 95 5 (List.map cPl l))∧H 1003=(bk (u3+1) 95 5 [[(iV q.s),(iV q.f.op),(iV q.f.arg),(V.sl (List.map cF q.f.kids)),(aY q.w)]])∧H 1006=(bk (u6+1) 90 2 [[(iV q.s),(V.str (kyF q.f))]])∧True) ?_ ?_
 ·
  by_cases g1:q.s=ls∧(kyF q.f)=lk
  ·
   refine G_n (edT g1 rfl) (G_n (edT g1 rfl) (G_n (edT g1 rfl) (G_n (edT g1 rfl) (G_n (edT g1 rfl) (G_n (edT g1 rfl) (aS (edT g1 rfl) rfl ?_))))))
   exact ⟨rfl,rfl,rfl,(nG g1),(cG (cG (cG (fun _ _=>rfl) (by decide)) (by decide)) (by decide)),h11,hm,h8,rfl,rfl,trivial⟩
  ·
   refine aE (edF g1 rfl) (aA rfl (aE (edF g1 rfl) (bY rfl h11 oB (aE (edF g1 rfl) (aL rfl h11 (aE (edF g1 rfl) (aJ rfl h11 rfl rfl ?_)))))))
   refine aE (edF g1 rfl) (aJ rfl rfl rfl rfl (aE (edF g1 rfl) (rS (z:=(V.bool false)) (u:=(V.bool (decide ((q.s,kyF q.f)∈List.map plK l)))) (f:=(decide ((q.s,kyF q.f)∈List.map plK l))) (rVq (V.mm 43 vm)) (rVq (V.agg [(iV q.s),(V.str (kyF q.f))])) hm (aFz (k:=(q.s,kyF q.f))) (aU (edF g1 rfl) rfl ?_))))
   exact ⟨rfl,rfl,rfl,(nF g1),(cG (cG (cG (fun _ _=>rfl) (by decide)) (by decide)) (by decide)),h11,hm,h8,rfl,rfl,trivial⟩
 intro T H ⟨t0,t3,t6,t28,hF,h11,h43,h815,h1003,h1006,_⟩
 refine R_e ?_
 refine bX t28 (fun c2=>?_) (fun c2=>?_)
 · exfalso; exact hn (.inl (aBr (q:=q) hk c2))
 obtain ⟨i0,hnew⟩:=aBz (q:=q) c2
 refine aC (W_r (aL t3 h1003 (aJ rfl h1003 rfl rfl (aI (mM q.f) rfl (aA rfl (bK rfl rfl (bK rfl rfl ?_)))))))
 refine aA rfl (aA rfl (R_e (aB (W_r (aA rfl (cD rfl rfl (aA rfl ?_)))))))
 refine aT 3 (fun T H=>T 0=(V.mp 11 v11 0 0)∧T 3=(V.mp 1003 (u3+1) 0 0)∧T 6=(V.mp 1006 (u6+1) 0 0)∧T 8=(iV (enE q.f))∧T 40=(V.bool (decide ((enE q.f)≠(0:Int))||(!enB q.f)))∧(∀ j,j∉[1003,1006,43,815,11]→H j=Hi j)∧H 11=(bk v11 92 4 [[(V.mm 43 vm),(V.ms 815 v8 0 l.length),(iV ls),(V.str lk)]])∧H 43=(bz vm eN 2 (eR (List.map plK l)))∧H 815=(bz v8 95 5 (List.map cPl l))∧H 1003=(bk (u3+1) 95 5 [[(iV q.s),(iV q.f.op),(iV q.f.arg),(V.sl (List.map cF q.f.kids)),(aY q.w)]])∧H 1006=(bk (u6+1) 90 2 [[(iV q.s),(V.str (kyF q.f))]])∧True) ?_ ?_
 ·
  by_cases g3:(enE q.f)≠(0:Int)
  ·
   refine G_n (edT g3 rfl) (G_n (edT g3 rfl) (aS (edT g3 rfl) rfl ?_))
   exact ⟨t0,t3,t6,rfl,(nG g3),hF,h11,h43,h815,h1003,h1006,trivial⟩
  ·
   refine aE (edF g3 rfl) (aA rfl (aE (edF g3 rfl) (eL rfl (aU (edF g3 rfl) rfl ?_))))
   exact ⟨t0,t3,t6,rfl,(nF g3),hF,h11,h43,h815,h1003,h1006,trivial⟩
 intro T H ⟨t0,t3,t6,t8,t40,hF,h11,h43,h815,h1003,h1006,_⟩
 refine R_e ?_
 refine bX t40 (fun c4=>?_) (fun c4=>?_)
 · exfalso; exact hn (.inr (by rcases (show enE q.f≠0∨enB q.f=false by simpa using c4) with e|e; exact .inl e; exact .inr (.inl e)))
 have i2: ¬(enE q.f≠0∨enB q.f=false):=by simpa using c4
 refine aC (aB (W_r (aA t0 (bY rfl h11 oB (aL rfl h11 (aJ rfl h11 rfl rfl (fQ rfl h815 (by simp) ?_)))))))
 refine aX rfl rfl (R_e ?_)
 refine aH rfl (fun c5=>?_) fun c5=>?_
 · exfalso; exact hn (.inr (.inr (.inr (by omega))))
 refine aC (W_r (aA t0 (bY rfl h11 oB (aL rfl h11 (aJ rfl h11 rfl rfl (aJ t6 h1006 rfl rfl (aKS (B':=(bz vm eN 2 (eR (List.map plK (l++[q]))))) (rVq (V.mm 43 vm)) (rVq (V.agg [(iV q.s),(V.str (kyF q.f))])) (rVq (V.bool true)) h43 ((aSF hnew).trans (by rw [List.map_append]; rfl)) ?_)))))))
 refine R_e (W_r (aA t0 (aJ t6 h1006 rfl rfl (bY rfl h11 oB (aL rfl h11 (bE rfl rfl rfl h11 rfl rfl rfl rfl rfl (R_e ?_)))))))
 refine W_r (aA t0 (aA t0 (bY rfl rfl oB (aL rfl rfl (aJ rfl rfl rfl rfl (aJ t3 h1003 rfl rfl (aR rfl rfl ?_)))))))
 refine cC (l:=l) (f:=cPl) (x:=q) (rVq (V.ms 815 v8 0 l.length)) h815 (by rfl) (rVq (V.sl [[(iV q.s),(iV q.f.op),(iV q.f.arg),(V.sl (List.map cF q.f.kids)),(aY q.w)]])) rfl rfl (by omega) (by omega) (bY rfl rfl oB (aL rfl rfl (bE rfl rfl rfl rfl rfl rfl rfl rfl rfl (R_e (W_r (aA rfl (aA rfl ?_)))))))
 refine R_e (aO (cP (R:=fun T H=>T 4=(V.bool false)∧T 5=(iV 0)∧(∀ j,j∉[1003,1006,43,815,11]→H j=Hi j)∧H 11=(bk v11 92 4 [[(V.mm 43 vm),(V.ms 815 (v8+1) 0 (l.length+1)),(iV q.s),(V.str (kyF q.f))]])∧H 43=(bz vm eN 2 (eR (List.map plK (l++[q]))))∧H 815=(bz (v8+1) 95 5 (List.map cPl (l++[q])))∧H 1003=(bk (u3+1) 95 5 [[(iV q.s),(iV q.f.op),(iV q.f.arg),(V.sl (List.map cF q.f.kids)),(aY q.w)]])∧H 1006=(bk (u6+1) 90 2 [[(iV q.s),(V.str (kyF q.f))]])∧True) ⟨(rVq (V.bool false)),(rVq (iV 0)),(cG (cG (cG (cG hF (by decide)) (by decide)) (by decide)) (by decide)),rfl,rfl,rfl,h1003,h1006,trivial⟩ ?_))
 intro T H ⟨t4,t5,hF,h11,h43,h815,h1003,h1006,_⟩
 have d:=(fE hn).1
 have fh:=dU.fin (dU.put (B:=(bk v11 92 4 [[(V.mm 43 vm),(V.ms 815 (v8+1) 0 ((l++[q]).length)),(iV q.s),(V.str (kyF q.f))]])) (dU.put (dU.put (dU.putv (n:=(u6+1)) (B:=(⟨u6+1,false,false,0,0,[]⟩:Blk)) (dU.putv (n:=(u3+1)) (B:=(⟨u3+1,false,false,0,0,[]⟩:Blk)) (dU.start hF) (cVq h1003) (by show _≤u3+1; omega) rfl) (cVq h1006) (by show _≤u6+1; omega) rfl) h43 (kS.eq rfl)) h815 (kS.eq rfl)) h11 (kS.eq (by simp)))
 exact oY t4 t5 fh (dR.trans_eq (dR.same fh _) (by (rw [d]; done))) (dR.trans_eq (dR.same fh _) (by (rw [d]; done)))
theorem aEa (l:List Pl) (q:Pl) (ls:Int) (lk:List UInt8) (v11 vm v8 u3 u6:Nat) (hn: ¬mB l q) (Hi:aP) (h11:Hi 11=(bk v11 92 4 [[(V.mm 43 vm),(V.ms 815 v8 0 l.length),(iV ls),(V.str lk)]])) (hm:Hi 43=(bz vm eN 2 (eR (List.map plK l)))) (h8:Hi 815=(bz v8 95 5 (List.map cPl l))) (h3:(Hi 1003).ver=u3) (h6:(Hi 1006).ver=u6∧(Hi 1006).live=false) (hl:l.length≤4096) (hq:cW q.f=0) (hk:ls=q.s→lk=kyF q.f→fM l q.s q.f=true):eP Tryz.prog 51 [(V.mp 11 v11 0 0),(V.agg [(iV q.s),(iV q.f.op),(iV q.f.arg),(V.sl (List.map cF q.f.kids)),(aY q.w)])] Hi (V.tup [(V.bool ((fnd l q).1)),(iV ((fnd l q).2))]) (upd (upd Hi 1003 (⟨u3+1,false,false,0,0,[]⟩:Blk)) 1006 (⟨u6+1,false,false,0,0,[]⟩:Blk)):=by
 refine eW (k0:=1000) Tryz.func51 aBN fun hB=>?_
 unfold s51
 dsimp only
 refine W_r (cA (i:=1003) (n:=u3) (m:=5) (cs:=[(iV q.s),(iV q.f.op),(iV q.f.arg),(V.sl (List.map cF q.f.kids)),(aY q.w)]) (by rfl) h3 rfl rfl rfl (aA rfl (aA rfl (R_e (W_d (by exact (kK h6.2 nK)) (aL rfl rfl (aJ rfl rfl rfl rfl ?_)))))))
 refine aL rfl rfl (aJ rfl rfl rfl rfl (aI (mT q.f (eZ hq) (gA hq)) rfl (aW rfl rfl (aV (i:=1006) (n:=u6) (m:=2) (by rfl) h6.1 rfl (bE rfl rfl rfl rfl rfl rfl rfl rfl rfl (R_e (aB ?_)))))))
 refine W_r (aJ rfl rfl rfl rfl (aA rfl (bY rfl h11 oB (aL rfl h11 (aJ rfl h11 rfl rfl (aBg rfl rfl (aA rfl ?_)))))))
 refine aT 7 (fun T H=>T 0=(V.mp 11 v11 0 0)∧T 3=(V.mp 1003 (u3+1) 0 0)∧T 6=(V.mp 1006 (u6+1) 0 0)∧T 28=(V.bool (decide (q.s=ls∧(kyF q.f)=lk)||(decide ((q.s,kyF q.f)∈List.map plK l))))∧(∀ j,j∉[1003,1006]→H j=Hi j)∧H 11=(bk v11 92 4 [[(V.mm 43 vm),(V.ms 815 v8 0 l.length),(iV ls),(V.str lk)]])∧H 43=(bz vm eN 2 (eR (List.map plK l)))∧H 815=(bz v8 95 5 (List.map cPl l))∧H 1003=(bk (u3+1) 95 5 [[(iV q.s),(iV q.f.op),(iV q.f.arg),(V.sl (List.map cF q.f.kids)),(aY q.w)]])∧H 1006=(bk (u6+1) 90 2 [[(iV q.s),(V.str (kyF q.f))]])∧True) ?_ ?_
 ·
  by_cases g1:q.s=ls∧(kyF q.f)=lk
  ·
   refine G_n (edT g1 rfl) (G_n (edT g1 rfl) (G_n (edT g1 rfl) (G_n (edT g1 rfl) (G_n (edT g1 rfl) (G_n (edT g1 rfl) (aS (edT g1 rfl) rfl ?_))))))
   exact ⟨rfl,rfl,rfl,(nG g1),(cG (cG (cG (fun _ _=>rfl) (by decide)) (by decide)) (by decide)),h11,hm,h8,rfl,rfl,trivial⟩
  ·
   refine aE (edF g1 rfl) (aA rfl (aE (edF g1 rfl) (bY rfl h11 oB (aE (edF g1 rfl) (aL rfl h11 (aE (edF g1 rfl) (aJ rfl h11 rfl rfl ?_)))))))
   refine aE (edF g1 rfl) (aJ rfl rfl rfl rfl (aE (edF g1 rfl) (rS (z:=(V.bool false)) (u:=(V.bool (decide ((q.s,kyF q.f)∈List.map plK l)))) (f:=(decide ((q.s,kyF q.f)∈List.map plK l))) (rVq (V.mm 43 vm)) (rVq (V.agg [(iV q.s),(V.str (kyF q.f))])) hm (aFz (k:=(q.s,kyF q.f))) (aU (edF g1 rfl) rfl ?_))))
   exact ⟨rfl,rfl,rfl,(nF g1),(cG (cG (cG (fun _ _=>rfl) (by decide)) (by decide)) (by decide)),h11,hm,h8,rfl,rfl,trivial⟩
 intro T H ⟨t0,t3,t6,t28,hF,h11,h43,h815,h1003,h1006,_⟩
 refine R_e ?_
 refine bX t28 (fun c2=>?_) (fun c2=>?_)
 ·
  have i1:=aBr (q:=q) hk c2
  refine aB (W_r (aA rfl (aA rfl (R_e (aM (cP (R:=fun T H=>T 4=(V.bool false)∧T 5=(iV 0)∧(∀ j,j∉[1003,1006]→H j=Hi j)∧H 11=(bk v11 92 4 [[(V.mm 43 vm),(V.ms 815 v8 0 l.length),(iV ls),(V.str lk)]])∧H 43=(bz vm eN 2 (eR (List.map plK l)))∧H 815=(bz v8 95 5 (List.map cPl l))∧H 1003=(bk (u3+1) 95 5 [[(iV q.s),(iV q.f.op),(iV q.f.arg),(V.sl (List.map cF q.f.kids)),(aY q.w)]])∧H 1006=(bk (u6+1) 90 2 [[(iV q.s),(V.str (kyF q.f))]])∧True) ⟨(rVq (V.bool false)),(rVq (iV 0)),hF,h11,h43,h815,h1003,h1006,trivial⟩ ?_))))))
  intro T H ⟨t4,t5,hF,h11,h43,h815,h1003,h1006,_⟩
  have d:=aFB (q:=q) i1
  have fh:=dU.fin (dU.putv (n:=(u6+1)) (B:=(⟨u6+1,false,false,0,0,[]⟩:Blk)) (dU.putv (n:=(u3+1)) (B:=(⟨u3+1,false,false,0,0,[]⟩:Blk)) (dU.start hF) (cVq h1003) (by show _≤u3+1; omega) rfl) (cVq h1006) (by show _≤u6+1; omega) rfl)
  exact oY t4 t5 fh (dR.trans_eq (dR.same fh _) (by (rw [d]; done))) (dR.trans_eq (dR.same fh _) (by (rw [d]; done)))
 obtain ⟨i0,hnew⟩:=aBz (q:=q) c2
 refine aC (W_r (aL t3 h1003 (aJ rfl h1003 rfl rfl (aI (mM q.f) rfl (aA rfl (bK rfl rfl (bK rfl rfl ?_)))))))
 refine aA rfl (aA rfl (R_e (aB (W_r (aA rfl (cD rfl rfl (aA rfl ?_)))))))
 refine aT 3 (fun T H=>T 0=(V.mp 11 v11 0 0)∧T 3=(V.mp 1003 (u3+1) 0 0)∧T 6=(V.mp 1006 (u6+1) 0 0)∧T 8=(iV (enE q.f))∧T 40=(V.bool (decide ((enE q.f)≠(0:Int))||(!enB q.f)))∧(∀ j,j∉[1003,1006]→H j=Hi j)∧H 11=(bk v11 92 4 [[(V.mm 43 vm),(V.ms 815 v8 0 l.length),(iV ls),(V.str lk)]])∧H 43=(bz vm eN 2 (eR (List.map plK l)))∧H 815=(bz v8 95 5 (List.map cPl l))∧H 1003=(bk (u3+1) 95 5 [[(iV q.s),(iV q.f.op),(iV q.f.arg),(V.sl (List.map cF q.f.kids)),(aY q.w)]])∧H 1006=(bk (u6+1) 90 2 [[(iV q.s),(V.str (kyF q.f))]])∧True) ?_ ?_
 ·
  by_cases g3:(enE q.f)≠(0:Int)
  ·
   refine G_n (edT g3 rfl) (G_n (edT g3 rfl) (aS (edT g3 rfl) rfl ?_))
   exact ⟨t0,t3,t6,rfl,(nG g3),hF,h11,h43,h815,h1003,h1006,trivial⟩
  ·
   refine aE (edF g3 rfl) (aA rfl (aE (edF g3 rfl) (eL rfl (aU (edF g3 rfl) rfl ?_))))
   exact ⟨t0,t3,t6,rfl,(nF g3),hF,h11,h43,h815,h1003,h1006,trivial⟩
 intro T H ⟨t0,t3,t6,t8,t40,hF,h11,h43,h815,h1003,h1006,_⟩
 refine R_e ?_
 refine bX t40 (fun c4=>?_) (fun c4=>?_)
 ·
  have i2:enE q.f≠0∨enB q.f=false:=by simpa using c4
  refine aB (W_r (aA t8 (aX rfl rfl (aA t8 (aA rfl (aA rfl (R_e ?_)))))))
  refine aM (cP (R:=fun T H=>T 4=(V.bool (decide ((enE q.f)=(0:Int))))∧T 5=(iV (enE q.f))∧(∀ j,j∉[1003,1006]→H j=Hi j)∧H 11=(bk v11 92 4 [[(V.mm 43 vm),(V.ms 815 v8 0 l.length),(iV ls),(V.str lk)]])∧H 43=(bz vm eN 2 (eR (List.map plK l)))∧H 815=(bz v8 95 5 (List.map cPl l))∧H 1003=(bk (u3+1) 95 5 [[(iV q.s),(iV q.f.op),(iV q.f.arg),(V.sl (List.map cF q.f.kids)),(aY q.w)]])∧H 1006=(bk (u6+1) 90 2 [[(iV q.s),(V.str (kyF q.f))]])∧True) ⟨(rVq (V.bool (decide ((enE q.f)=(0:Int))))),(rVq (iV (enE q.f))),hF,h11,h43,h815,h1003,h1006,trivial⟩ ?_)
  intro T H ⟨t4,t5,hF,h11,h43,h815,h1003,h1006,_⟩
  have d:=tJ (q:=q) i0 i2
  have fh:=dU.fin (dU.putv (n:=(u6+1)) (B:=(⟨u6+1,false,false,0,0,[]⟩:Blk)) (dU.putv (n:=(u3+1)) (B:=(⟨u3+1,false,false,0,0,[]⟩:Blk)) (dU.start hF) (cVq h1003) (by show _≤u3+1; omega) rfl) (cVq h1006) (by show _≤u6+1; omega) rfl)
  exact oY t4 t5 fh (dR.trans_eq (dR.same fh _) (by (rw [d]; done))) (dR.trans_eq (dR.same fh _) (by (rw [d]; done)))
 have i2: ¬(enE q.f≠0∨enB q.f=false):=by simpa using c4
 refine aC (aB (W_r (aA t0 (bY rfl h11 oB (aL rfl h11 (aJ rfl h11 rfl rfl (fQ rfl h815 (by simp) ?_)))))))
 refine aX rfl rfl (R_e ?_)
 refine aH rfl (fun c5=>?_) fun c5=>?_
 ·
  have i3:l.length=4096:=by omega
  refine aB (W_r (aA rfl (aA rfl (R_e (aM (cP (R:=fun T H=>T 4=(V.bool false)∧T 5=(iV 11)∧(∀ j,j∉[1003,1006]→H j=Hi j)∧H 11=(bk v11 92 4 [[(V.mm 43 vm),(V.ms 815 v8 0 l.length),(iV ls),(V.str lk)]])∧H 43=(bz vm eN 2 (eR (List.map plK l)))∧H 815=(bz v8 95 5 (List.map cPl l))∧H 1003=(bk (u3+1) 95 5 [[(iV q.s),(iV q.f.op),(iV q.f.arg),(V.sl (List.map cF q.f.kids)),(aY q.w)]])∧H 1006=(bk (u6+1) 90 2 [[(iV q.s),(V.str (kyF q.f))]])∧True) ⟨(rVq (V.bool false)),(rVq (iV 11)),hF,h11,h43,h815,h1003,h1006,trivial⟩ ?_))))))
  intro T H ⟨t4,t5,hF,h11,h43,h815,h1003,h1006,_⟩
  have d:=aDy (q:=q) i0 i2 i3
  have fh:=dU.fin (dU.putv (n:=(u6+1)) (B:=(⟨u6+1,false,false,0,0,[]⟩:Blk)) (dU.putv (n:=(u3+1)) (B:=(⟨u3+1,false,false,0,0,[]⟩:Blk)) (dU.start hF) (cVq h1003) (by show _≤u3+1; omega) rfl) (cVq h1006) (by show _≤u6+1; omega) rfl)
  exact oY t4 t5 fh (dR.trans_eq (dR.same fh _) (by (rw [d]; done))) (dR.trans_eq (dR.same fh _) (by (rw [d]; done)))
 · exfalso; exact hn (vL (q:=q) i0 i2 (by omega))
theorem aCj (l:List Pl) (qs:Int) (qf:Fm) (ls:Int) (lk:List UInt8) (v11 vm v8 u3 u6:Nat) (hn:mB l (⟨qs,qf,[]⟩:Pl)) (Hi:aP) (h11:Hi 11=(bk v11 92 4 [[(V.mm 43 vm),(V.ms 815 v8 0 l.length),(iV ls),(V.str lk)]])) (hm:Hi 43=(bz vm eN 2 (eR (List.map plK l)))) (h8:Hi 815=(bz v8 95 5 (List.map cPl l))) (h3:(Hi 1003).ver=u3) (h6:(Hi 1006).ver=u6∧(Hi 1006).live=false) (hl:l.length≤4096) (hq:cW qf=0) (hk:ls=qs→lk=kyF qf→fM l qs qf=true):eP Tryz.prog 51 [(V.mp 11 v11 0 0),(V.agg [(iV qs),(iV qf.op),(iV qf.arg),(V.sl (List.map cF qf.kids)),V.nilsl])] Hi (V.tup [(V.bool ((fnd l (⟨qs,qf,[]⟩:Pl)).1)),(iV ((fnd l (⟨qs,qf,[]⟩:Pl)).2))]) (upd (upd (upd (upd (upd Hi 1003 (⟨u3+1,false,false,0,0,[]⟩:Blk)) 1006 (⟨u6+1,false,false,0,0,[]⟩:Blk)) 43 (bz vm eN 2 (eR (List.map plK (l++[(⟨qs,qf,[]⟩:Pl)]))))) 815 (bz (v8+1) 95 5 (List.map cPl (l++[(⟨qs,qf,[]⟩:Pl)])))) 11 (bk v11 92 4 [[(V.mm 43 vm),(V.ms 815 (v8+1) 0 ((l++[(⟨qs,qf,[]⟩:Pl)]).length)),(iV qs),(V.str (kyF qf))]])):=by
 refine eW (k0:=1000) Tryz.func51 aBN fun hB=>?_
 unfold s51
 dsimp only
 refine dN (fun T H=>T 0=(V.mp 11 v11 0 0)∧T 3=(V.mp 1003 (u3+1) 0 0)∧(∀ j,j∉[1003,1006,43,815,11]→H j=Hi j)∧H 11=(bk v11 92 4 [[(V.mm 43 vm),(V.ms 815 v8 0 l.length),(iV ls),(V.str lk)]])∧H 43=(bz vm eN 2 (eR (List.map plK l)))∧H 815=(bz v8 95 5 (List.map cPl l))∧H 1003=(bk (u3+1) 95 5 [[(iV qs),(iV qf.op),(iV qf.arg),(V.sl (List.map cF qf.kids)),V.nilsl]])∧((H 1006).ver=u6∧(H 1006).live=false)∧True) ?_ ?_
 ·
  refine cA (i:=1003) (n:=u3) (m:=5) (cs:=[(iV qs),(iV qf.op),(iV qf.arg),(V.sl (List.map cF qf.kids)),V.nilsl]) (by rfl) h3 rfl rfl rfl (aA rfl (aA rfl ?_))
  exact dZ ⟨rfl,rfl,(cG (fun _ _=>rfl) (by decide)),h11,hm,h8,rfl,h6,trivial⟩
 intro T H ⟨t0,t3,hF,h11,h43,h815,h1003,h1006,_⟩
 refine aBQ (r':=[(iV qs),(iV qf.op),(iV qf.arg),(V.sl (List.map cF qf.kids)),(aY ([]))]) h1003 rfl (.done ?_)
 refine cP (R:=fun T H=>T 0=(V.mp 11 v11 0 0)∧T 3=(V.mp 1003 (u3+1) 0 0)∧(∀ j,j∉[1003,1006,43,815,11]→H j=Hi j)∧H 11=(bk v11 92 4 [[(V.mm 43 vm),(V.ms 815 v8 0 l.length),(iV ls),(V.str lk)]])∧H 43=(bz vm eN 2 (eR (List.map plK l)))∧H 815=(bz v8 95 5 (List.map cPl l))∧H 1003=(bk (u3+1) 95 5 [[(iV qs),(iV qf.op),(iV qf.arg),(V.sl (List.map cF qf.kids)),(aY ([]))]])∧((H 1006).ver=u6∧(H 1006).live=false)∧True) ⟨t0,t3,(cG hF (by decide)),(uTq h11),(uTq h43),(uTq h815),(aK _ _ _),⟨(cVq (bA _ _ (by decide))).trans h1006.1,(congrArg Blk.live (bA _ _ (by decide))).trans h1006.2⟩,trivial⟩ ?_
 intro T H ⟨t0,t3,hF,h11,h43,h815,h1003,h1006,_⟩
 refine W_d (by exact (kK h1006.2 nK)) (aL t3 h1003 (aJ rfl h1003 rfl rfl (aL t3 h1003 (aJ rfl h1003 rfl rfl (aI (mT qf (eZ hq) (gA hq)) rfl (aW rfl rfl (aV (i:=1006) (n:=u6) (m:=2) (by rfl) h1006.1 rfl ?_)))))))
 refine bE rfl rfl rfl rfl rfl rfl rfl rfl rfl (R_e (aB (W_r (aJ rfl rfl rfl rfl (aA t0 (bY rfl h11 oB (aL rfl h11 ?_)))))))
 refine aJ rfl h11 rfl rfl (aBg rfl rfl (aA rfl ?_))
 refine aT 7 (fun T H=>T 0=(V.mp 11 v11 0 0)∧T 3=(V.mp 1003 (u3+1) 0 0)∧T 6=(V.mp 1006 (u6+1) 0 0)∧T 28=(V.bool (decide (qs=ls∧(kyF qf)=lk)||(decide ((qs,kyF qf)∈List.map plK l))))∧(∀ j,j∉[1003,1006,43,815,11]→H j=Hi j)∧H 11=(bk v11 92 4 [[(V.mm 43 vm),(V.ms 815 v8 0 l.length),(iV ls),(V.str lk)]])∧H 43=(bz vm eN 2 (eR (List.map plK l)))∧H 815=(bz v8 95 5 (List.map cPl l))∧H 1003=(bk (u3+1) 95 5 [[(iV qs),(iV qf.op),(iV qf.arg),(V.sl (List.map cF qf.kids)),(aY ([]))]])∧H 1006=(bk (u6+1) 90 2 [[(iV qs),(V.str (kyF qf))]])∧True) ?_ ?_
 ·
  by_cases g1:qs=ls∧(kyF qf)=lk
  ·
   refine G_n (edT g1 rfl) (G_n (edT g1 rfl) (G_n (edT g1 rfl) (G_n (edT g1 rfl) (G_n (edT g1 rfl) (G_n (edT g1 rfl) (aS (edT g1 rfl) rfl ?_))))))
   exact ⟨t0,t3,rfl,(nG g1),(cG (cG hF (by decide)) (by decide)),h11,h43,h815,h1003,rfl,trivial⟩
  ·
   refine aE (edF g1 rfl) (aA t0 (aE (edF g1 rfl) (bY rfl h11 oB (aE (edF g1 rfl) (aL rfl h11 (aE (edF g1 rfl) (aJ rfl h11 rfl rfl ?_)))))))
   refine aE (edF g1 rfl) (aJ rfl rfl rfl rfl (aE (edF g1 rfl) (rS (z:=(V.bool false)) (u:=(V.bool (decide ((qs,kyF qf)∈List.map plK l)))) (f:=(decide ((qs,kyF qf)∈List.map plK l))) (rVq (V.mm 43 vm)) (rVq (V.agg [(iV qs),(V.str (kyF qf))])) h43 (aFz (k:=(qs,kyF qf))) (aU (edF g1 rfl) rfl ?_))))
   exact ⟨t0,t3,rfl,(nF g1),(cG (cG hF (by decide)) (by decide)),h11,h43,h815,h1003,rfl,trivial⟩
 intro T H ⟨t0,t3,t6,t28,hF,h11,h43,h815,h1003,h1006,_⟩
 refine R_e ?_
 refine bX t28 (fun c2=>?_) (fun c2=>?_)
 · exfalso; exact hn (.inl (aBr (q:=(⟨qs,qf,[]⟩:Pl)) hk c2))
 obtain ⟨i0,hnew⟩:=aBz (q:=(⟨qs,qf,[]⟩:Pl)) c2
 refine aC (W_r (aL t3 h1003 (aJ rfl h1003 rfl rfl (aI (mM qf) rfl (aA rfl (bK rfl rfl (bK rfl rfl ?_)))))))
 refine aA rfl (aA rfl (R_e (aB (W_r (aA rfl (cD rfl rfl (aA rfl ?_)))))))
 refine aT 3 (fun T H=>T 0=(V.mp 11 v11 0 0)∧T 3=(V.mp 1003 (u3+1) 0 0)∧T 6=(V.mp 1006 (u6+1) 0 0)∧T 8=(iV (enE qf))∧T 40=(V.bool (decide ((enE qf)≠(0:Int))||(!enB qf)))∧(∀ j,j∉[1003,1006,43,815,11]→H j=Hi j)∧H 11=(bk v11 92 4 [[(V.mm 43 vm),(V.ms 815 v8 0 l.length),(iV ls),(V.str lk)]])∧H 43=(bz vm eN 2 (eR (List.map plK l)))∧H 815=(bz v8 95 5 (List.map cPl l))∧H 1003=(bk (u3+1) 95 5 [[(iV qs),(iV qf.op),(iV qf.arg),(V.sl (List.map cF qf.kids)),(aY ([]))]])∧H 1006=(bk (u6+1) 90 2 [[(iV qs),(V.str (kyF qf))]])∧True) ?_ ?_
 ·
  by_cases g3:(enE qf)≠(0:Int)
  ·
   refine G_n (edT g3 rfl) (G_n (edT g3 rfl) (aS (edT g3 rfl) rfl ?_))
   exact ⟨t0,t3,t6,rfl,(nG g3),hF,h11,h43,h815,h1003,h1006,trivial⟩
  ·
   refine aE (edF g3 rfl) (aA rfl (aE (edF g3 rfl) (eL rfl (aU (edF g3 rfl) rfl ?_))))
   exact ⟨t0,t3,t6,rfl,(nF g3),hF,h11,h43,h815,h1003,h1006,trivial⟩
 intro T H ⟨t0,t3,t6,t8,t40,hF,h11,h43,h815,h1003,h1006,_⟩
 refine R_e ?_
 refine bX t40 (fun c4=>?_) (fun c4=>?_)
 · exfalso; exact hn (.inr (by rcases (show enE qf≠0∨enB qf=false by simpa using c4) with e|e; exact .inl e; exact .inr (.inl e)))
 have i2: ¬(enE qf≠0∨enB qf=false):=by simpa using c4
 refine aC (aB (W_r (aA t0 (bY rfl h11 oB (aL rfl h11 (aJ rfl h11 rfl rfl (fQ rfl h815 (by simp) ?_)))))))
 refine aX rfl rfl (R_e ?_)
 refine aH rfl (fun c5=>?_) fun c5=>?_
 · exfalso; exact hn (.inr (.inr (.inr (by omega))))
 refine aC (W_r (aA t0 (bY rfl h11 oB (aL rfl h11 (aJ rfl h11 rfl rfl (aJ t6 h1006 rfl rfl (aKS (B':=(bz vm eN 2 (eR (List.map plK (l++[(⟨qs,qf,[]⟩:Pl)]))))) (rVq (V.mm 43 vm)) (rVq (V.agg [(iV qs),(V.str (kyF qf))])) (rVq (V.bool true)) h43 ((aSF hnew).trans (by rw [List.map_append]; rfl)) ?_)))))))
 refine R_e (W_r (aA t0 (aJ t6 h1006 rfl rfl (bY rfl h11 oB (aL rfl h11 (bE rfl rfl rfl h11 rfl rfl rfl rfl rfl (R_e ?_)))))))
 refine W_r (aA t0 (aA t0 (bY rfl rfl oB (aL rfl rfl (aJ rfl rfl rfl rfl (aJ t3 h1003 rfl rfl (aR rfl rfl ?_)))))))
 refine cC (l:=l) (f:=cPl) (x:=(⟨qs,qf,[]⟩:Pl)) (rVq (V.ms 815 v8 0 l.length)) h815 (by rfl) (rVq (V.sl [[(iV qs),(iV qf.op),(iV qf.arg),(V.sl (List.map cF qf.kids)),(aY ([]))]])) rfl rfl (by omega) (by omega) (bY rfl rfl oB (aL rfl rfl (bE rfl rfl rfl rfl rfl rfl rfl rfl rfl (R_e (W_r (aA rfl (aA rfl ?_)))))))
 refine R_e (aO (cP (R:=fun T H=>T 4=(V.bool false)∧T 5=(iV 0)∧(∀ j,j∉[1003,1006,43,815,11]→H j=Hi j)∧H 11=(bk v11 92 4 [[(V.mm 43 vm),(V.ms 815 (v8+1) 0 (l.length+1)),(iV qs),(V.str (kyF qf))]])∧H 43=(bz vm eN 2 (eR (List.map plK (l++[(⟨qs,qf,[]⟩:Pl)]))))∧H 815=(bz (v8+1) 95 5 (List.map cPl (l++[(⟨qs,qf,[]⟩:Pl)])))∧H 1003=(bk (u3+1) 95 5 [[(iV qs),(iV qf.op),(iV qf.arg),(V.sl (List.map cF qf.kids)),(aY ([]))]])∧H 1006=(bk (u6+1) 90 2 [[(iV qs),(V.str (kyF qf))]])∧True) ⟨(rVq (V.bool false)),(rVq (iV 0)),(cG (cG (cG (cG hF (by decide)) (by decide)) (by decide)) (by decide)),rfl,rfl,rfl,h1003,h1006,trivial⟩ ?_))
 intro T H ⟨t4,t5,hF,h11,h43,h815,h1003,h1006,_⟩
 have d:=(fE hn).1
 have fh:=dU.fin (dU.put (B:=(bk v11 92 4 [[(V.mm 43 vm),(V.ms 815 (v8+1) 0 ((l++[(⟨qs,qf,[]⟩:Pl)]).length)),(iV qs),(V.str (kyF qf))]])) (dU.put (dU.put (dU.putv (n:=(u6+1)) (B:=(⟨u6+1,false,false,0,0,[]⟩:Blk)) (dU.putv (n:=(u3+1)) (B:=(⟨u3+1,false,false,0,0,[]⟩:Blk)) (dU.start hF) (cVq h1003) (by show _≤u3+1; omega) rfl) (cVq h1006) (by show _≤u6+1; omega) rfl) h43 (kS.eq rfl)) h815 (kS.eq rfl)) h11 (kS.eq (by simp)))
 exact oY t4 t5 fh (dR.trans_eq (dR.same fh _) (by (rw [d]; done))) (dR.trans_eq (dR.same fh _) (by (rw [d]; done)))
theorem aDi (l:List Pl) (qs:Int) (qf:Fm) (ls:Int) (lk:List UInt8) (v11 vm v8 u3 u6:Nat) (hn: ¬mB l (⟨qs,qf,[]⟩:Pl)) (Hi:aP) (h11:Hi 11=(bk v11 92 4 [[(V.mm 43 vm),(V.ms 815 v8 0 l.length),(iV ls),(V.str lk)]])) (hm:Hi 43=(bz vm eN 2 (eR (List.map plK l)))) (h8:Hi 815=(bz v8 95 5 (List.map cPl l))) (h3:(Hi 1003).ver=u3) (h6:(Hi 1006).ver=u6∧(Hi 1006).live=false) (hl:l.length≤4096) (hq:cW qf=0) (hk:ls=qs→lk=kyF qf→fM l qs qf=true):eP Tryz.prog 51 [(V.mp 11 v11 0 0),(V.agg [(iV qs),(iV qf.op),(iV qf.arg),(V.sl (List.map cF qf.kids)),V.nilsl])] Hi (V.tup [(V.bool ((fnd l (⟨qs,qf,[]⟩:Pl)).1)),(iV ((fnd l (⟨qs,qf,[]⟩:Pl)).2))]) (upd (upd Hi 1003 (⟨u3+1,false,false,0,0,[]⟩:Blk)) 1006 (⟨u6+1,false,false,0,0,[]⟩:Blk)):=by
 refine eW (k0:=1000) Tryz.func51 aBN fun hB=>?_
 unfold s51
 dsimp only
 refine dN (fun T H=>T 0=(V.mp 11 v11 0 0)∧T 3=(V.mp 1003 (u3+1) 0 0)∧(∀ j,j∉[1003,1006]→H j=Hi j)∧H 11=(bk v11 92 4 [[(V.mm 43 vm),(V.ms 815 v8 0 l.length),(iV ls),(V.str lk)]])∧H 43=(bz vm eN 2 (eR (List.map plK l)))∧H 815=(bz v8 95 5 (List.map cPl l))∧H 1003=(bk (u3+1) 95 5 [[(iV qs),(iV qf.op),(iV qf.arg),(V.sl (List.map cF qf.kids)),V.nilsl]])∧((H 1006).ver=u6∧(H 1006).live=false)∧True) ?_ ?_
 ·
  refine cA (i:=1003) (n:=u3) (m:=5) (cs:=[(iV qs),(iV qf.op),(iV qf.arg),(V.sl (List.map cF qf.kids)),V.nilsl]) (by rfl) h3 rfl rfl rfl (aA rfl (aA rfl ?_))
  exact dZ ⟨rfl,rfl,(cG (fun _ _=>rfl) (by decide)),h11,hm,h8,rfl,h6,trivial⟩
 intro T H ⟨t0,t3,hF,h11,h43,h815,h1003,h1006,_⟩
 refine aBQ (r':=[(iV qs),(iV qf.op),(iV qf.arg),(V.sl (List.map cF qf.kids)),(aY ([]))]) h1003 rfl (.done ?_)
 refine cP (R:=fun T H=>T 0=(V.mp 11 v11 0 0)∧T 3=(V.mp 1003 (u3+1) 0 0)∧(∀ j,j∉[1003,1006]→H j=Hi j)∧H 11=(bk v11 92 4 [[(V.mm 43 vm),(V.ms 815 v8 0 l.length),(iV ls),(V.str lk)]])∧H 43=(bz vm eN 2 (eR (List.map plK l)))∧H 815=(bz v8 95 5 (List.map cPl l))∧H 1003=(bk (u3+1) 95 5 [[(iV qs),(iV qf.op),(iV qf.arg),(V.sl (List.map cF qf.kids)),(aY ([]))]])∧((H 1006).ver=u6∧(H 1006).live=false)∧True) ⟨t0,t3,(cG hF (by decide)),(uTq h11),(uTq h43),(uTq h815),(aK _ _ _),⟨(cVq (bA _ _ (by decide))).trans h1006.1,(congrArg Blk.live (bA _ _ (by decide))).trans h1006.2⟩,trivial⟩ ?_
 intro T H ⟨t0,t3,hF,h11,h43,h815,h1003,h1006,_⟩
 refine W_d (by exact (kK h1006.2 nK)) (aL t3 h1003 (aJ rfl h1003 rfl rfl (aL t3 h1003 (aJ rfl h1003 rfl rfl (aI (mT qf (eZ hq) (gA hq)) rfl (aW rfl rfl (aV (i:=1006) (n:=u6) (m:=2) (by rfl) h1006.1 rfl ?_)))))))
 refine bE rfl rfl rfl rfl rfl rfl rfl rfl rfl (R_e (aB (W_r (aJ rfl rfl rfl rfl (aA t0 (bY rfl h11 oB (aL rfl h11 ?_)))))))
 refine aJ rfl h11 rfl rfl (aBg rfl rfl (aA rfl ?_))
 refine aT 7 (fun T H=>T 0=(V.mp 11 v11 0 0)∧T 3=(V.mp 1003 (u3+1) 0 0)∧T 6=(V.mp 1006 (u6+1) 0 0)∧T 28=(V.bool (decide (qs=ls∧(kyF qf)=lk)||(decide ((qs,kyF qf)∈List.map plK l))))∧(∀ j,j∉[1003,1006]→H j=Hi j)∧H 11=(bk v11 92 4 [[(V.mm 43 vm),(V.ms 815 v8 0 l.length),(iV ls),(V.str lk)]])∧H 43=(bz vm eN 2 (eR (List.map plK l)))∧H 815=(bz v8 95 5 (List.map cPl l))∧H 1003=(bk (u3+1) 95 5 [[(iV qs),(iV qf.op),(iV qf.arg),(V.sl (List.map cF qf.kids)),(aY ([]))]])∧H 1006=(bk (u6+1) 90 2 [[(iV qs),(V.str (kyF qf))]])∧True) ?_ ?_
 ·
  by_cases g1:qs=ls∧(kyF qf)=lk
  ·
   refine G_n (edT g1 rfl) (G_n (edT g1 rfl) (G_n (edT g1 rfl) (G_n (edT g1 rfl) (G_n (edT g1 rfl) (G_n (edT g1 rfl) (aS (edT g1 rfl) rfl ?_))))))
   exact ⟨t0,t3,rfl,(nG g1),(cG (cG hF (by decide)) (by decide)),h11,h43,h815,h1003,rfl,trivial⟩
  ·
   refine aE (edF g1 rfl) (aA t0 (aE (edF g1 rfl) (bY rfl h11 oB (aE (edF g1 rfl) (aL rfl h11 (aE (edF g1 rfl) (aJ rfl h11 rfl rfl ?_)))))))
   refine aE (edF g1 rfl) (aJ rfl rfl rfl rfl (aE (edF g1 rfl) (rS (z:=(V.bool false)) (u:=(V.bool (decide ((qs,kyF qf)∈List.map plK l)))) (f:=(decide ((qs,kyF qf)∈List.map plK l))) (rVq (V.mm 43 vm)) (rVq (V.agg [(iV qs),(V.str (kyF qf))])) h43 (aFz (k:=(qs,kyF qf))) (aU (edF g1 rfl) rfl ?_))))
   exact ⟨t0,t3,rfl,(nF g1),(cG (cG hF (by decide)) (by decide)),h11,h43,h815,h1003,rfl,trivial⟩
 intro T H ⟨t0,t3,t6,t28,hF,h11,h43,h815,h1003,h1006,_⟩
 refine R_e ?_
 refine bX t28 (fun c2=>?_) (fun c2=>?_)
 ·
  have i1:=aBr (q:=(⟨qs,qf,[]⟩:Pl)) hk c2
  refine aB (W_r (aA rfl (aA rfl (R_e (aM (cP (R:=fun T H=>T 4=(V.bool false)∧T 5=(iV 0)∧(∀ j,j∉[1003,1006]→H j=Hi j)∧H 11=(bk v11 92 4 [[(V.mm 43 vm),(V.ms 815 v8 0 l.length),(iV ls),(V.str lk)]])∧H 43=(bz vm eN 2 (eR (List.map plK l)))∧H 815=(bz v8 95 5 (List.map cPl l))∧H 1003=(bk (u3+1) 95 5 [[(iV qs),(iV qf.op),(iV qf.arg),(V.sl (List.map cF qf.kids)),(aY ([]))]])∧H 1006=(bk (u6+1) 90 2 [[(iV qs),(V.str (kyF qf))]])∧True) ⟨(rVq (V.bool false)),(rVq (iV 0)),hF,h11,h43,h815,h1003,h1006,trivial⟩ ?_))))))
  intro T H ⟨t4,t5,hF,h11,h43,h815,h1003,h1006,_⟩
  have d:=aFB (q:=(⟨qs,qf,[]⟩:Pl)) i1
  have fh:=dU.fin (dU.putv (n:=(u6+1)) (B:=(⟨u6+1,false,false,0,0,[]⟩:Blk)) (dU.putv (n:=(u3+1)) (B:=(⟨u3+1,false,false,0,0,[]⟩:Blk)) (dU.start hF) (cVq h1003) (by show _≤u3+1; omega) rfl) (cVq h1006) (by show _≤u6+1; omega) rfl)
  exact oY t4 t5 fh (dR.trans_eq (dR.same fh _) (by (rw [d]; done))) (dR.trans_eq (dR.same fh _) (by (rw [d]; done)))
 obtain ⟨i0,hnew⟩:=aBz (q:=(⟨qs,qf,[]⟩:Pl)) c2
 refine aC (W_r (aL t3 h1003 (aJ rfl h1003 rfl rfl (aI (mM qf) rfl (aA rfl (bK rfl rfl (bK rfl rfl ?_)))))))
 refine aA rfl (aA rfl (R_e (aB (W_r (aA rfl (cD rfl rfl (aA rfl ?_)))))))
 refine aT 3 (fun T H=>T 0=(V.mp 11 v11 0 0)∧T 3=(V.mp 1003 (u3+1) 0 0)∧T 6=(V.mp 1006 (u6+1) 0 0)∧T 8=(iV (enE qf))∧T 40=(V.bool (decide ((enE qf)≠(0:Int))||(!enB qf)))∧(∀ j,j∉[1003,1006]→H j=Hi j)∧H 11=(bk v11 92 4 [[(V.mm 43 vm),(V.ms 815 v8 0 l.length),(iV ls),(V.str lk)]])∧H 43=(bz vm eN 2 (eR (List.map plK l)))∧H 815=(bz v8 95 5 (List.map cPl l))∧H 1003=(bk (u3+1) 95 5 [[(iV qs),(iV qf.op),(iV qf.arg),(V.sl (List.map cF qf.kids)),(aY ([]))]])∧H 1006=(bk (u6+1) 90 2 [[(iV qs),(V.str (kyF qf))]])∧True) ?_ ?_
 ·
  by_cases g3:(enE qf)≠(0:Int)
  ·
   refine G_n (edT g3 rfl) (G_n (edT g3 rfl) (aS (edT g3 rfl) rfl ?_))
   exact ⟨t0,t3,t6,rfl,(nG g3),hF,h11,h43,h815,h1003,h1006,trivial⟩
  ·
   refine aE (edF g3 rfl) (aA rfl (aE (edF g3 rfl) (eL rfl (aU (edF g3 rfl) rfl ?_))))
   exact ⟨t0,t3,t6,rfl,(nF g3),hF,h11,h43,h815,h1003,h1006,trivial⟩
 intro T H ⟨t0,t3,t6,t8,t40,hF,h11,h43,h815,h1003,h1006,_⟩
 refine R_e ?_
 refine bX t40 (fun c4=>?_) (fun c4=>?_)
 ·
  have i2:enE qf≠0∨enB qf=false:=by simpa using c4
  refine aB (W_r (aA t8 (aX rfl rfl (aA t8 (aA rfl (aA rfl (R_e ?_)))))))
  refine aM (cP (R:=fun T H=>T 4=(V.bool (decide ((enE qf)=(0:Int))))∧T 5=(iV (enE qf))∧(∀ j,j∉[1003,1006]→H j=Hi j)∧H 11=(bk v11 92 4 [[(V.mm 43 vm),(V.ms 815 v8 0 l.length),(iV ls),(V.str lk)]])∧H 43=(bz vm eN 2 (eR (List.map plK l)))∧H 815=(bz v8 95 5 (List.map cPl l))∧H 1003=(bk (u3+1) 95 5 [[(iV qs),(iV qf.op),(iV qf.arg),(V.sl (List.map cF qf.kids)),(aY ([]))]])∧H 1006=(bk (u6+1) 90 2 [[(iV qs),(V.str (kyF qf))]])∧True) ⟨(rVq (V.bool (decide ((enE qf)=(0:Int))))),(rVq (iV (enE qf))),hF,h11,h43,h815,h1003,h1006,trivial⟩ ?_)
  intro T H ⟨t4,t5,hF,h11,h43,h815,h1003,h1006,_⟩
  have d:=tJ (q:=(⟨qs,qf,[]⟩:Pl)) i0 i2
  have fh:=dU.fin (dU.putv (n:=(u6+1)) (B:=(⟨u6+1,false,false,0,0,[]⟩:Blk)) (dU.putv (n:=(u3+1)) (B:=(⟨u3+1,false,false,0,0,[]⟩:Blk)) (dU.start hF) (cVq h1003) (by show _≤u3+1; omega) rfl) (cVq h1006) (by show _≤u6+1; omega) rfl)
  exact oY t4 t5 fh (dR.trans_eq (dR.same fh _) (by (rw [d]; done))) (dR.trans_eq (dR.same fh _) (by (rw [d]; done)))
 have i2: ¬(enE qf≠0∨enB qf=false):=by simpa using c4
 refine aC (aB (W_r (aA t0 (bY rfl h11 oB (aL rfl h11 (aJ rfl h11 rfl rfl (fQ rfl h815 (by simp) ?_)))))))
 refine aX rfl rfl (R_e ?_)
 refine aH rfl (fun c5=>?_) fun c5=>?_
 ·
  have i3:l.length=4096:=by omega
  refine aB (W_r (aA rfl (aA rfl (R_e (aM (cP (R:=fun T H=>T 4=(V.bool false)∧T 5=(iV 11)∧(∀ j,j∉[1003,1006]→H j=Hi j)∧H 11=(bk v11 92 4 [[(V.mm 43 vm),(V.ms 815 v8 0 l.length),(iV ls),(V.str lk)]])∧H 43=(bz vm eN 2 (eR (List.map plK l)))∧H 815=(bz v8 95 5 (List.map cPl l))∧H 1003=(bk (u3+1) 95 5 [[(iV qs),(iV qf.op),(iV qf.arg),(V.sl (List.map cF qf.kids)),(aY ([]))]])∧H 1006=(bk (u6+1) 90 2 [[(iV qs),(V.str (kyF qf))]])∧True) ⟨(rVq (V.bool false)),(rVq (iV 11)),hF,h11,h43,h815,h1003,h1006,trivial⟩ ?_))))))
  intro T H ⟨t4,t5,hF,h11,h43,h815,h1003,h1006,_⟩
  have d:=aDy (q:=(⟨qs,qf,[]⟩:Pl)) i0 i2 i3
  have fh:=dU.fin (dU.putv (n:=(u6+1)) (B:=(⟨u6+1,false,false,0,0,[]⟩:Blk)) (dU.putv (n:=(u3+1)) (B:=(⟨u3+1,false,false,0,0,[]⟩:Blk)) (dU.start hF) (cVq h1003) (by show _≤u3+1; omega) rfl) (cVq h1006) (by show _≤u6+1; omega) rfl)
  exact oY t4 t5 fh (dR.trans_eq (dR.same fh _) (by (rw [d]; done))) (dR.trans_eq (dR.same fh _) (by (rw [d]; done)))
 · exfalso; exact hn (vL (q:=(⟨qs,qf,[]⟩:Pl)) i0 i2 (by omega))
def s52:SF:=⟨5,[.tmp 2],.seq (.reg [sO 2 (.mv (.c (.nilsl)))]) (.seq (.reg [qM 3 0,sO 4 (.call false 74 [.t 3]),qM 2 4]) (.ret))⟩
theorem aQR:bJ Tryz.prog ⟨oEq,[],[],[]⟩ Tryz.f52=some s52:=by kernel_rfl
def aNY:SC:=.seq (.reg [qP 12 .lss 11 10]) (.seq (.cond (.t 12) (.skip) (.exit 0)) (.seq (.block 1 (.seq (.reg [qA 13 1 9 11,ql 14 13,qM 5 14]) (.seq (.reg [qM 15 3,qM 16 5,qN 17 16,qP 18 .add 15 17,qM 3 18]) (.seq (.reg [qM 19 3,qC 20 .lss 19 0]) (.cond (.t 20) (.seq (.reg [sO 21 (.bad)]) (.seq (.pop none (.raise (.t 21))) (.reg []))) (.skip)))))) (.reg [qC 22 .add 11 1,qM 11 22])))
def aNK:SC:=.seq (.reg [qP 28 .lss 27 26]) (.seq (.cond (.t 28) (.skip) (.exit 2)) (.seq (.block 3 (.seq (.reg [qA 29 1 25 27,ql 30 29,qM 8 30]) (.reg [qM 31 6,qM 32 8,sO 33 (.append 3 1 8 (.t 31) (.t 32)),qM 6 33]))) (.reg [qC 34 .add 27 1,qM 27 34])))
def s74:SF:=⟨36,[.tmp 2],.seq (.reg [sO 2 (.mv (.c (.nilsl)))]) (.seq (.reg [qI 3 0]) (.seq (.seq (.reg [qM 9 0,qN 10 9,qI 11 0]) (.block 0 (.loop aNY))) (.seq (.reg [qM 23 3,sO 24 (.call true 97 [.c (.nilsl),.t 23]),qM 6 24]) (.seq (.seq (.reg [qM 25 0,qN 26 25,qI 27 0]) (.block 2 (.loop aNK))) (.seq (.reg [qM 35 6,qM 2 35]) (.ret))))))⟩
theorem aPD:bJ Tryz.prog ⟨oEq,[],[],[]⟩ Tryz.f74=some s74:=by kernel_rfl
end Go.Proofs.YteehaobohaecmaaGreatDoor
namespace Go.Proofs.YteehaobohaecmaaGreatDoor
open Go Go.Proofs Go.Shelf
def aGS:Go.Shelf.Ren:=⟨fun|4=>97|n=>n,fun|22=>52|25=>3|3=>3|4=>4|9=>9|20=>20|0=>0|n=>n,fun n=>n⟩
theorem aHb:Lays8.n4 Tryz.prog aGS:={
  mixed:=(by kernel_rfl),
  f4:=⟨Tryz.f97.name,by decide,Tryz.func97.trans (congrArg some (by kernel_rfl))⟩,
  t0:=Tryz.underlying0,
  a0:=Tryz.isAgg0,
  z0:=Tryz.sizeOf0,
  v0:=Tryz.zeroValue0,
  t3:=Tryz.underlying3,
  a3:=Tryz.isAgg3,
  z3:=Tryz.sizeOf3,
  v3:=Tryz.zeroValue3,
  t4:=Tryz.underlying4,
  a4:=Tryz.isAgg4,
  z4:=Tryz.sizeOf4,
  v4:=Tryz.zeroValue4,
  t9:=Tryz.underlying9,
  a9:=Tryz.isAgg9,
  z9:=Tryz.sizeOf9,
  v9:=Tryz.zeroValue9,
  t20:=Tryz.underlying20,
  a20:=Tryz.isAgg20,
  z20:=Tryz.sizeOf20,
  v20:=Tryz.zeroValue20,
  t22:=Tryz.underlying52,
  a22:=Tryz.isAgg52,
  z22:=Tryz.sizeOf52,
  v22:=Tryz.zeroValue52}
theorem aE0:dV Tryz.prog 97:=⟨_,Tryz.func97,by kernel_rfl,by kernel_rfl⟩
theorem aEC:(Tryz.prog.info? 3).map (fun i=>(i.zero,i.size,i.bytes))=some (some (.int .i64 0),1,8):=by kernel_rfl
end Go.Proofs.YteehaobohaecmaaGreatDoor
namespace Go.Proofs.YteehaobohaecmaaGreatDoor
open Go Go.Proofs
theorem aDT (l:List (List Int)) (hs:(cat l).length≤4294967296):aQ Tryz.prog 74 [(bI l)] (aY (cat l)):=by
 refine pW Tryz.func74 aPD fun hB=>?_
 unfold s74
 dsimp only
 refine W_r (aA rfl (R_e (W_r (aA rfl (R_e (aB (W_r ?_)))))))
 refine aA rfl (bF rfl (aA rfl (R_e (fG fun Q1 n1 x1 y1 z1 w1=>?_))))
 refine wK (fun mm T H=> ∃ (k:Nat) (v0:Nat),mm=l.length - k∧T 0=(bI l)∧T 3=(iV (((cat (l.take k)).length:Nat):Int))∧T 9=(bI l)∧T 10=(iV ((l.length:Nat):Int))∧T 11=(iV ((k:Nat):Int))∧(H 0).ver=v0∧H 900=bZq∧(k≤l.length)) ?_ ?_
 ·
  refine ⟨_,0,0,rfl,rfl,(eTq (rVq (iV 0)) (by rfl)),rfl,rfl,(eTq (rVq (iV 0)) rfl),(cVq rfl),rfl,?_⟩
  · omega
 intro mm T H ⟨k,v0,hmm,t0,t3,t9,t10,t11,h0,h900,hk⟩ Q2 p12 p22 p32 p42
 unfold aNY
 refine W_r (bO t11 t10 (R_e ?_))
 refine aH rfl (fun c3=>?_) fun c3=>?_
 ·
  have hq:=nS (l:=l) (k:=k) (by omega)
  refine aC (fG fun Q4 n4 x4 y4 z4 w4=>(W_r (dB (i:=k) t9 t11 (by omega) rfl (aG rfl rfl (aA rfl (R_e (W_r ?_)))))))
  refine aA t3 (aA rfl (bF rfl (bC rfl rfl (by omega) (aA rfl (R_e (W_r (aA rfl ?_)))))))
  refine bO rfl rfl (R_e ?_)
  refine bZ rfl (fun c5=>?_) fun c5=>?_
  · exfalso; omega
  refine cN (n4 _ _ (.done (W_t (bC t11 (rNq 1) (by omega) (aA rfl (R_e ?_))))))
  refine p12 _ _ _ ?_ ⟨(k+1),v0,rfl,t0,(eTq (rNq (((cat (l.take k)).length)+(nth l k).length)) (by (rw [mG (by omega),List.length_append]; done))),t9,t10,(eTq (rNq (k+1)) (by rfl)),h0,h900,?_⟩
  · omega
  · omega
 have hk2:(cat (l.take k)).length=(cat l).length:=by rw [show k=l.length by omega,List.take_length]
 refine aN (p32 _ _ _ (x1 _ _ (.done (W_r (aA t3 (gK (bL rfl (bL rfl eB)) (rQ aHb aE0 aEC (by decide) rfl (n:=((cat (l.take k)).length)) (by omega) (by omega) 900 (cVq h900)) (aA rfl ?_)))))))
 refine R_e (aB (W_r (aA t0 (bF rfl (aA rfl (R_e (fG fun Q6 n6 x6 y6 z6 w6=>?_)))))))
 refine wK (fun mm T H=> ∃ (j:Nat) (w:Nat),mm=l.length - j∧T 6=(V.ms 900 w 0 ((cat (l.take j)).length))∧T 25=(bI l)∧T 26=(iV ((l.length:Nat):Int))∧T 27=(iV ((j:Nat):Int))∧(H 0).ver=v0∧H 900=(⟨w,true,decide ((cat (l.take k)).length=0),3,1,(List.map cI (cat (l.take j)))⟩:Blk)∧(j≤l.length)) ?_ ?_
 ·
  refine ⟨_,0,(0+1),rfl,(eTq (rVq (V.ms 900 (0+1) 0 0)) (by rfl)),rfl,rfl,(eTq (rVq (iV 0)) rfl),h0,(eTq (@rfl Blk (⟨0+1,true,decide ((cat (l.take k)).length=0),3,1,[]⟩:Blk)) (by rfl)),?_⟩
  · omega
 intro mm T H ⟨j,w,hmm,t6,t25,t26,t27,h0,h900,hj⟩ Q7 p17 p27 p37 p47
 unfold aNK
 refine W_r (bO t27 t26 (R_e ?_))
 refine aH rfl (fun c8=>?_) fun c8=>?_
 ·
  have hq:=nS (l:=l) (k:=j) (by omega)
  refine aC (fG fun Q9 n9 x9 y9 z9 w9=>(W_r (dB (i:=j) t25 t27 (by omega) rfl (aG rfl rfl (aA rfl (R_e (W_t ?_)))))))
  refine aA t6 (aA rfl (pI (l:=(cat (l.take j))) (m:=(nth l j)) (f:=cI) (rVq (V.ms 900 w 0 ((cat (l.take j)).length))) h900 (by rfl) (rVq (aY (nth l j))) (fun _=>rfl) (fun _=>rfl) (by omega) (by omega) (aA rfl (R_e (n9 _ _ (.done (W_t ?_)))))))
  refine bC t27 (rNq 1) (by omega) (aA rfl (R_e ?_))
  refine p17 _ _ _ ?_ ⟨(j+1),(w+1),rfl,(eTq (rVq (V.ms 900 (w+1) 0 (((cat (l.take j)).length)+(nth l j).length))) (by (rw [mG (by omega),List.length_append]; done))),t25,t26,(eTq (rNq (j+1)) (by rfl)),h0,(eTq (@rfl Blk (⟨w+1,true,decide ((cat (l.take k)).length=0),3,1,(List.map cI (cat (l.take j)++(nth l j)))⟩:Blk)) (by (rw [mG (by omega)]; done))),?_⟩
  · omega
  · omega
 refine aN (p37 _ _ _ (x6 _ _ (.done (W_r (aA t6 (aA rfl (R_e ?_)))))))
 refine aO ?_
 refine bH (rVq (V.ms 900 w 0 ((cat (l.take j)).length))) (iJ h900 (by simp) (l:=(cat (l.take j))) rfl (by rfl) (fun _=>by simp) ?_)
 · rw [show j=l.length by omega,List.take_length]
theorem aEW (l:List (List Int)) (hs:(cat l).length≤4294967296):aQ Tryz.prog 52 [(bI l)] (aY (cat l)):=by
 refine pW Tryz.func52 aQR fun hB=>?_
 unfold s52
 dsimp only
 refine W_r (aA rfl (R_e (W_r (aA rfl (aI (aDT l hs) rfl (aA rfl (R_e ?_)))))))
 refine aO ?_
 refine bH (rVq (aY (cat l))) (cH (by simp) rfl)
theorem lD (m:M) (f:Fm):aQ Tryz.prog 23 [(V.agg [(iV m.i),(iV m.s),(bI m.nx),(bI m.ot)]),(V.agg (rFq f))] (V.tup [(V.agg [(aY ((vck m f).1.ni)),(aY ((vck m f).1.no))]),(V.bool ((vck m f).2.1)),(iV ((vck m f).2.2))]):=by
 refine pW Tryz.func23 aOw fun hB=>?_
 unfold s23
 dsimp only
 refine W_r (cA (i:=2) (n:=0) (m:=4) (cs:=[(iV m.i),(iV m.s),(bI m.nx),(bI m.ot)]) rfl (cVq rfl) rfl rfl rfl (cA (i:=3) (n:=0) (m:=3) (cs:=(rFq f)) rfl (cVq rfl) rfl rfl rfl (aV (i:=4) (n:=0) (m:=2) rfl (cVq rfl) rfl (aA rfl (aA rfl (R_e (aB ?_)))))))
 refine W_r (aJ rfl rfl rfl rfl (aI (uW m) rfl (aA rfl (R_e (aB (W_r (aA rfl ?_)))))))
 refine cD rfl rfl (R_e ?_)
 refine aH rfl (fun c1=>?_) fun c1=>?_
 ·
  have d1:=aKJ (f:=f) c1
  refine aB (W_r (aW rfl rfl (aA rfl (bE rfl rfl rfl rfl rfl rfl rfl rfl rfl (aA rfl (aA rfl (R_e ?_)))))))
  refine aM ?_
  refine gG (bB (u:=(V.agg [V.nilsl,V.nilsl])) rfl (@rfl Blk bTq) (lB oB rfl rfl)) (bR (rVq (V.bool false))) (bR (rVq (iV (dS m)))) (fF (bU ?_) (bU ?_)) (aZ ?_) (aF ?_)
  · rw [d1]; try rfl
  · rw [d1]; try rfl
  · rw [d1]; try rfl
  · rw [d1]; try rfl
 have a1:=c1
 have mo:=fK (Decidable.of_not_not c1)
 refine aC (aB (W_r (aJ rfl rfl rfl rfl (aI (jP f) rfl (aA rfl (R_e (aB ?_)))))))
 refine W_r (aA rfl (cD rfl rfl (R_e ?_)))
 refine aH rfl (fun c2=>?_) fun c2=>?_
 ·
  have d1:=aKP a1 c2
  refine aB (W_r (aW rfl rfl (aA rfl (bE rfl rfl rfl rfl rfl rfl rfl rfl rfl (aA rfl (aA rfl (R_e ?_)))))))
  refine aM ?_
  refine gG (bB (u:=(V.agg [V.nilsl,V.nilsl])) rfl (@rfl Blk bTq) (lB oB rfl rfl)) (bR (rVq (V.bool false))) (bR (rVq (iV (cW f)))) (fF (bU ?_) (bU ?_)) (aZ ?_) (aF ?_)
  · rw [d1]; try rfl
  · rw [d1]; try rfl
  · rw [d1]; try rfl
  · rw [d1]; try rfl
 have a2:=c2
 refine aC (W_r (aJ rfl rfl rfl rfl (aI (qJ f) rfl (aA rfl (bK rfl rfl (bK rfl rfl (aV (i:=9) (n:=0) (m:=3) rfl (cVq rfl) rfl ?_)))))))
 refine bE rfl rfl rfl rfl rfl rfl rfl rfl rfl (aA rfl (R_e (aB (W_r (aA rfl (cD rfl rfl (R_e ?_)))))))
 refine aH rfl (fun c3=>?_) fun c3=>?_
 ·
  have d1:=aJQ a1 a2 c3
  refine aB (W_r (aW rfl rfl (aA rfl (bE rfl rfl rfl rfl rfl rfl rfl rfl rfl (aA rfl (aA rfl (R_e ?_)))))))
  refine aM ?_
  refine gG (bB (u:=(V.agg [V.nilsl,V.nilsl])) rfl (@rfl Blk bTq) (lB oB rfl rfl)) (bR (rVq (V.bool false))) (bR (rVq (iV ((bG f).2)))) (fF (bU ?_) (bU ?_)) (aZ ?_) (aF ?_)
  · rw [d1]; try rfl
  · rw [d1]; try rfl
  · rw [d1]; try rfl
  · rw [d1]; try rfl
 have a3:=c3
 have v0:=sK c3
 refine aC ?_
 refine dN (fun T H=>T 2=(mPq 2)∧T 4=(mPq 4)∧T 9=(mPq 9)∧T 11=(mPq 11)∧H 2=(bMq m)∧H 3=(bFq f)∧H 4=bTq∧H 9=(bFq ((bG f).1))∧H 11=(bk 1 92 4 [[(V.mm 43 1),V.nilsl,(iV 0),(V.str ([]))]])∧H 14=bZq∧H 16=bZq∧H 43=(bz 1 eN 2 (eR (List.map plK [])))∧H 815=bZq∧H 1003=bZq∧H 1006=bZq∧True) ?_ ?_
 ·
  refine aL2 (i:=43) (n:=0) (rows:=eR (List.map plK [])) rfl (cVq rfl) rfl (aW rfl rfl (aV (i:=11) (n:=0) (m:=4) rfl (cVq rfl) rfl (bE rfl rfl rfl rfl rfl rfl rfl rfl rfl ?_)))
  exact dZ ⟨rfl,rfl,rfl,rfl,rfl,rfl,rfl,rfl,rfl,rfl,rfl,rfl,rfl,rfl,rfl,trivial⟩
 intro T H ⟨t2,t4,t9,t11,h2,h3,h4,h9,h11,h14,h16,h43,h815,h1003,h1006,_⟩
 refine .lazyCell 815 95 5 11 0 1 [(V.mm 43 1),V.nilsl,(iV 0),(V.str ([]))] (by decide) (by rw [h11]; rfl) (by rw [h11]; rfl) rfl (.done ?_)
 refine cP (R:=fun T H=>T 2=(mPq 2)∧T 4=(mPq 4)∧T 9=(mPq 9)∧T 11=(mPq 11)∧H 2=(bMq m)∧H 3=(bFq f)∧H 4=bTq∧H 9=(bFq ((bG f).1))∧H 11=(bk 1 92 4 [[(V.mm 43 1),(V.ms 815 1 0 0),(iV 0),(V.str ([]))]])∧H 14=bZq∧H 16=bZq∧H 43=(bz 1 eN 2 (eR (List.map plK [])))∧H 815=(bz 1 95 5 [])∧H 1003=bZq∧H 1006=bZq∧True) ⟨t2,t4,t9,t11,(uTq (uTq h2)),(uTq (uTq h3)),(uTq (uTq h4)),(uTq (uTq h9)),(by rw [aK,h11,(cVq h815)]; rfl),(uTq (uTq h14)),(uTq (uTq h16)),(uTq (uTq h43)),(by rw [bA _ _ (by decide),aK,(cVq h815)]),(uTq (uTq h1003)),(uTq (uTq h1006)),trivial⟩ ?_
 intro T H ⟨t2,t4,t9,t11,h2,h3,h4,h9,h11,h14,h16,h43,h815,h1003,h1006,_⟩
 refine uT fun K hK=>(aL t2 h2 (aJ rfl h2 rfl rfl (aJ t9 h9 rfl rfl (aW rfl rfl ?_))))
 by_cases heF:mB ([]) (⟨m.s,(bG f).1,[]⟩:Pl)
 ·
  refine gK (bL t11 (bL rfl eB)) (aCj ([]) m.s ((bG f).1) (0:Int) ([]) 1 1 1 0 0 heF _ h11 h43 h815 (cVq h1003) ⟨cVq h1006,congrArg Blk.live h1006⟩ (Nat.zero_le _) v0 (fun _ e=>absurd e.symm (aNT _))) (aA rfl (bK rfl rfl (bK rfl rfl (aA rfl (aA rfl ?_)))))
  refine dZ (hK _ _ ?_); clear hK K
  refine cP (R:=fun T H=>T 2=(mPq 2)∧T 4=(mPq 4)∧T 10=(iV ((fnd ([]) (⟨m.s,(bG f).1,[]⟩:Pl)).2))∧T 11=(mPq 11)∧T 12=(V.bool ((fnd ([]) (⟨m.s,(bG f).1,[]⟩:Pl)).1))∧H 2=(bMq m)∧H 3=(bFq f)∧H 4=bTq∧H 9=(bFq ((bG f).1))∧H 11=(bk 1 92 4 [[(V.mm 43 1),(V.ms 815 2 0 (([]++[(⟨m.s,(bG f).1,[]⟩:Pl)]).length)),(iV m.s),(V.str (kyF ((bG f).1)))]])∧H 14=bZq∧H 16=bZq∧H 43=(bz 1 eN 2 (eR (List.map plK ([]++[(⟨m.s,(bG f).1,[]⟩:Pl)]))))∧H 815=(bz 2 95 5 (List.map cPl ([]++[(⟨m.s,(bG f).1,[]⟩:Pl)])))∧H 1003=(⟨1,false,false,0,0,[]⟩:Blk)∧H 1006=(⟨1,false,false,0,0,[]⟩:Blk)∧True) ⟨t2,t4,rfl,t11,rfl,h2,h3,h4,h9,rfl,h14,h16,rfl,rfl,rfl,rfl,trivial⟩ ?_
  intro T H ⟨t2,t4,t10,t11,t12,h2,h3,h4,h9,h11,h14,h16,h43,h815,h1003,h1006,_⟩
  refine aB (W_r (aA t10 (cD rfl rfl (aA rfl ?_))))
  refine aT 2 (fun T H=>T 2=(mPq 2)∧T 4=(mPq 4)∧T 10=(iV ((fnd ([]) (⟨m.s,(bG f).1,[]⟩:Pl)).2))∧T 11=(mPq 11)∧T 12=(V.bool ((fnd ([]) (⟨m.s,(bG f).1,[]⟩:Pl)).1))∧T 57=(V.bool (decide (((fnd ([]) (⟨m.s,(bG f).1,[]⟩:Pl)).2)≠(0:Int))||((fnd ([]) (⟨m.s,(bG f).1,[]⟩:Pl)).1)))∧H 2=(bMq m)∧H 3=(bFq f)∧H 4=bTq∧H 9=(bFq ((bG f).1))∧H 11=(bk 1 92 4 [[(V.mm 43 1),(V.ms 815 2 0 (([]++[(⟨m.s,(bG f).1,[]⟩:Pl)]).length)),(iV m.s),(V.str (kyF ((bG f).1)))]])∧H 14=bZq∧H 16=bZq∧H 43=(bz 1 eN 2 (eR (List.map plK ([]++[(⟨m.s,(bG f).1,[]⟩:Pl)]))))∧H 815=(bz 2 95 5 (List.map cPl ([]++[(⟨m.s,(bG f).1,[]⟩:Pl)])))∧H 1003=(⟨1,false,false,0,0,[]⟩:Blk)∧H 1006=(⟨1,false,false,0,0,[]⟩:Blk)∧True) ?_ ?_
  ·
   by_cases g6:((fnd ([]) (⟨m.s,(bG f).1,[]⟩:Pl)).2)≠(0:Int)
   ·
    refine G_n (edT g6 rfl) (aS (edT g6 rfl) rfl ?_)
    exact ⟨t2,t4,t10,t11,t12,(nG g6),h2,h3,h4,h9,h11,h14,h16,h43,h815,h1003,h1006,trivial⟩
   ·
    refine aE (edF g6 rfl) (aA t12 (aU (edF g6 rfl) rfl ?_))
    exact ⟨t2,t4,t10,t11,t12,(nF g6),h2,h3,h4,h9,h11,h14,h16,h43,h815,h1003,h1006,trivial⟩
  intro T H ⟨t2,t4,t10,t11,t12,t57,h2,h3,h4,h9,h11,h14,h16,h43,h815,h1003,h1006,_⟩
  refine R_e ?_
  refine bX t57 (fun c7=>?_) (fun c7=>?_)
  · exact False.elim ((aI6 heF) c7)
  have a4:=aRy (q:=vS m f) (fun e=>absurd (e.symm.trans c7) (by decide))
  refine aC (aB (W_r (aA rfl (R_e (aD fun Q8 n8 x8 y8 z8=>?_)))))
  refine bS (fun mm T H=> ∃ (k:Nat) (l:List Pl) (ls:Int) (lk:List UInt8) (v8:Nat) (v14:Nat) (v16:Nat) (v1003:Nat) (v1006:Nat),mm=4097 - k∧T 2=(mPq 2)∧T 4=(mPq 4)∧T 11=(mPq 11)∧T 13=(iV ((k:Nat):Int))∧H 2=(bMq m)∧H 3=(bFq f)∧H 4=bTq∧H 9=(bFq ((bG f).1))∧H 11=(bk 1 92 4 [[(V.mm 43 1),(V.ms 815 v8 0 l.length),(iV ls),(V.str lk)]])∧((H 14).ver=v14∧(H 14).live=false)∧((H 16).ver=v16∧(H 16).live=false)∧H 43=(bz 1 eN 2 (eR (List.map plK l)))∧H 815=(bz v8 95 5 (List.map cPl l))∧((H 1003).ver=v1003∧(H 1003).live=false)∧((H 1006).ver=v1006∧(H 1006).live=false)∧(k≤l.length)∧(PlOK m l)∧(aBj l ls lk)∧(vck m f=mI m (4097 - k) k l)) ?_ ?_
  ·
   refine ⟨_,0,([]++[(⟨m.s,(bG f).1,[]⟩:Pl)]),m.s,(kyF ((bG f).1)),2,0,0,1,1,rfl,t2,t4,t11,(eTq (rVq (iV 0)) rfl),h2,h3,h4,h9,(eTq h11 (by rfl)),⟨(cVq h14),congrArg Blk.live h14⟩,⟨(cVq h16),congrArg Blk.live h16⟩,(eTq h43 (by rfl)),(eTq h815 (by rfl)),⟨(cVq h1003),congrArg Blk.live h1003⟩,⟨(cVq h1006),congrArg Blk.live h1006⟩,?_,?_,?_,?_⟩
   · exact Nat.zero_le _
   · exact (fE heF).2 ▸ aRI a1 v0
   · exact yE
   · exact (aI7 a1 a2 a3 a4).trans (congrArg (mI m (4097 - 0) 0) (fE heF).2)
  intro mm T H ⟨k,l,ls,lk,v8,v14,v16,v1003,v1006,hmm,t2,t4,t11,t13,h2,h3,h4,h9,h11,h14,h16,h43,h815,h1003,h1006,hk,hp,hla,hc⟩ Q9 p19 p29 p39
  unfold aNj
  refine aB (W_r (aA t13 (aL t11 h11 (aJ rfl h11 rfl rfl (fQ rfl h815 (by simp) (bO rfl rfl (R_e ?_)))))))
  refine aH rfl (fun c10=>?_) fun c10=>?_
  ·
   have pk:=hp.at_ k (by omega)
   have hr:=aNo a1 pk.1 pk.2.1
   have hpl:=hp.len
   refine aC (aD fun Q11 n11 x11 y11 z11=>(W_r (aL t11 h11 (aJ rfl h11 rfl rfl (aA t13 (eI (i:=k) (rVq (V.ms 815 v8 0 l.length)) (rNq k) h815 (eO (by omega)) rfl (by omega) (cJ (v:=(V.agg [(iV ((nth l k).s)),(iV ((nth l k).f.op)),(iV ((nth l k).f.arg)),(V.sl (List.map cF ((nth l k).f.kids))),(aY ((nth l k).w))])) rfl h815 (eG (by omega) (by rfl)) ?_)))))))
   refine aV (i:=14) (n:=v14) (m:=5) rfl h14.1 rfl (bE rfl rfl rfl rfl rfl rfl rfl rfl rfl (R_e (W_r (aL t2 h2 (aJ rfl h2 rfl rfl (aA rfl (R_e ?_)))))))
   refine iC fun Q12 n12 x12 y12 z12=>?_
   refine bS (fun mm T H=> ∃ (j:Nat) (l2:List Pl) (ls2:Int) (lk2:List UInt8) (w8:Nat) (v16:Nat) (v1003:Nat) (v1006:Nat),mm=m.i.toNat - j∧T 2=(mPq 2)∧T 4=(mPq 4)∧T 11=(mPq 11)∧T 13=(iV ((k:Nat):Int))∧T 14=(V.mp 14 (v14+1) 0 0)∧T 74=(iV m.i)∧T 75=(iV ((j:Nat):Int))∧H 2=(bMq m)∧H 3=(bFq f)∧H 4=bTq∧H 9=(bFq ((bG f).1))∧H 11=(bk 1 92 4 [[(V.mm 43 1),(V.ms 815 w8 0 l2.length),(iV ls2),(V.str lk2)]])∧H 14=(bk (v14+1) 95 5 [[(iV ((nth l k).s)),(iV ((nth l k).f.op)),(iV ((nth l k).f.arg)),(V.sl (List.map cF ((nth l k).f.kids))),(aY ((nth l k).w))]])∧((H 16).ver=v16∧(H 16).live=false)∧H 43=(bz 1 eN 2 (eR (List.map plK l2)))∧H 815=(bz w8 95 5 (List.map cPl l2))∧((H 1003).ver=v1003∧(H 1003).live=false)∧((H 1006).ver=v1006∧(H 1006).live=false)∧(j≤m.i.toNat)∧(PlOK m l2)∧(aBj l2 ls2 lk2)∧(l.length≤l2.length)∧(iQ m (nth l k) m.i.toNat 0 l=iQ m (nth l k) (m.i.toNat - j) j l2)) ?_ ?_
   ·
    refine ⟨_,0,l,ls,lk,v8,v16,v1003,v1006,rfl,t2,t4,t11,t13,rfl,rfl,(eTq (rVq (iV 0)) rfl),h2,h3,h4,h9,h11,rfl,h16,h43,h815,h1003,h1006,?_,?_,?_,?_,?_⟩
    · exact Nat.zero_le _
    · exact hp
    · exact hla
    · exact Nat.le_refl _
    · rfl
   intro mm T H ⟨j,l2,ls2,lk2,w8,v16,v1003,v1006,hmm,t2,t4,t11,t13,t14,t74,t75,h2,h3,h4,h9,h11,h14,h16,h43,h815,h1003,h1006,hj,hp2,hla2,hl2,hc2⟩ Q13 p113 p213 p313
   unfold aNC
   refine W_r (bO t75 t74 (R_e ?_))
   refine aH rfl (fun c14=>?_) fun c14=>?_
   ·
    refine aC (aD fun Q15 n15 x15 y15 z15=>(W_r (aA t75 (aA rfl (R_e (W_d (by exact (kK h16.2 nK)) (aL t14 h14 ?_)))))))
    refine aJ rfl h14 rfl rfl (aA rfl (aL t2 h2 (aJ rfl h2 rfl rfl (aL t14 h14 (aJ rfl h14 rfl rfl (fA (i:=((nth l k).s)) (rVq (bI m.ot)) (rVq (iV ((nth l k).s))) (by omega) (by omega) rfl (aG rfl rfl ?_)))))))
    refine aA rfl (dB (i:=j) (rVq (aY (nth m.ot ((nth l k).s).toNat))) (rNq j) (by omega) rfl (aG rfl rfl (aI (aEH ((nth l k).f) ((j:Nat):Int) (nth (nth m.ot ((nth l k).s).toNat) j)) rfl (aA rfl (bK rfl rfl (bK rfl rfl (aV (i:=16) (n:=v16) (m:=3) rfl h16.1 rfl ?_)))))))
    refine bE rfl rfl rfl rfl rfl rfl rfl rfl rfl (aA rfl (R_e (aB (W_r (aA rfl (cD rfl rfl (R_e ?_)))))))
    refine aH rfl (fun c16=>?_) fun c16=>?_
    ·
     have d1:=hc.trans (jF (by omega) hp.len (hc2.trans (aJ4 (by omega) c16)))
     refine aB (W_r (aW rfl rfl (aA rfl (bE t4 rfl rfl h4 rfl rfl rfl rfl rfl (aA rfl (aA rfl (R_e ?_)))))))
     refine aM (y15 _ _ (p213 _ _ (y12 _ _ (y11 _ _ (p29 _ _ (y8 _ _ ?_))))))
     refine gG (bB (u:=(V.agg [V.nilsl,V.nilsl])) t4 (@rfl Blk bTq) (lB oB rfl rfl)) (bR (rVq (V.bool false))) (bR (rVq (iV ((sNq m (nth l k) j).2)))) (fF (bU ?_) (bU ?_)) (aZ ?_) (aF ?_)
     · rw [d1]; try rfl
     · rw [d1]; try rfl
     · rw [d1]; try rfl
     · rw [d1]; try rfl
    have e1:=c16
    have x1:=wC c16
    have p3:=aL7 (k:=k) a1 hp2 pk (by omega) (by omega) e1
    refine aC (W_r (aL t14 h14 (aJ rfl h14 rfl rfl (aA rfl (aR rfl rfl (aR rfl rfl (aI (aEW ([(nth l k).w,[((j:Nat):Int)]]) (by simp only [cat,List.append_nil,List.length_append,List.length_singleton]; omega)) rfl ?_)))))))
    refine aA rfl (R_e (uT fun K hK=>(aL t2 h2 (aJ rfl h2 rfl rfl (aL t14 h14 (aJ rfl h14 rfl rfl (fA (i:=((nth l k).s)) (rVq (bI m.nx)) (rVq (iV ((nth l k).s))) (by omega) (by omega) rfl ?_)))))))
    refine aG rfl rfl (aA rfl (dB (i:=j) (rVq (aY (nth m.nx ((nth l k).s).toNat))) (rNq j) (by omega) rfl (aG rfl rfl (aJ rfl rfl rfl rfl (aA rfl (aW rfl rfl ?_))))))
    by_cases heF:mB l2 (vNq m (nth l k) j)
    ·
     refine gK (bL t11 (bL rfl eB)) (aEf l2 (vNq m (nth l k) j) ls2 lk2 1 1 w8 v1003 v1006 heF _ h11 h43 h815 h1003.1 h1006 hp2.len x1 (aFl hla2)) (aA rfl (bK rfl rfl (bK rfl rfl (aA rfl (aA rfl ?_)))))
     refine dZ (hK _ _ ?_); clear hK K
     refine cP (R:=fun T H=>T 2=(mPq 2)∧T 4=(mPq 4)∧T 11=(mPq 11)∧T 13=(iV ((k:Nat):Int))∧T 14=(V.mp 14 (v14+1) 0 0)∧T 17=(iV ((fnd l2 (vNq m (nth l k) j)).2))∧T 18=(aY (cat ([(nth l k).w,[((j:Nat):Int)]])))∧T 19=(V.bool ((fnd l2 (vNq m (nth l k) j)).1))∧T 74=(iV m.i)∧T 75=(iV ((j:Nat):Int))∧H 2=(bMq m)∧H 3=(bFq f)∧H 4=bTq∧H 9=(bFq ((bG f).1))∧H 11=(bk 1 92 4 [[(V.mm 43 1),(V.ms 815 (w8+1) 0 ((l2++[(vNq m (nth l k) j)]).length)),(iV (nth (nth m.nx ((nth l k).s).toNat) j)),(V.str (kyF ((sNq m (nth l k) j).1)))]])∧H 14=(bk (v14+1) 95 5 [[(iV ((nth l k).s)),(iV ((nth l k).f.op)),(iV ((nth l k).f.arg)),(V.sl (List.map cF ((nth l k).f.kids))),(aY ((nth l k).w))]])∧H 16=(bk (v16+1) 24 3 [(rFq ((sNq m (nth l k) j).1))])∧H 43=(bz 1 eN 2 (eR (List.map plK (l2++[(vNq m (nth l k) j)]))))∧H 815=(bz (w8+1) 95 5 (List.map cPl (l2++[(vNq m (nth l k) j)])))∧H 1003=(⟨v1003+1,false,false,0,0,[]⟩:Blk)∧H 1006=(⟨v1006+1,false,false,0,0,[]⟩:Blk)∧True) ⟨t2,t4,t11,t13,t14,rfl,rfl,rfl,t74,t75,h2,h3,h4,h9,rfl,h14,rfl,rfl,rfl,rfl,rfl,trivial⟩ ?_
     intro T H ⟨t2,t4,t11,t13,t14,t17,t18,t19,t74,t75,h2,h3,h4,h9,h11,h14,h16,h43,h815,h1003,h1006,_⟩
     refine aB (W_r (aA t17 (cD rfl rfl (R_e ?_))))
     refine aH rfl (fun c19=>?_) fun c19=>?_
     · exact False.elim ((fun (e:(fnd l2 (vNq m (nth l k) j)).2≠0)=>e (congrArg Prod.snd (fE heF).1)) c19)
     have e2:=c19
     refine aC (W_r (aA t19 (R_e ?_)))
     refine lI rfl (fun c20=>?_) (fun c20=>?_)
     · exact False.elim ((fun (e:(fnd l2 (vNq m (nth l k) j)).1=true)=>absurd (e.symm.trans (congrArg Prod.fst (fE heF).1)) (by decide)) c20)
     have e3:=c20
     replace e3: ¬(_=true):=fun q=>absurd (q.symm.trans e3) (by decide)
     refine cN (n15 _ _ (cP (R:=fun T H=>T 2=(mPq 2)∧T 4=(mPq 4)∧T 11=(mPq 11)∧T 13=(iV ((k:Nat):Int))∧T 14=(V.mp 14 (v14+1) 0 0)∧T 18=(aY (cat ([(nth l k).w,[((j:Nat):Int)]])))∧T 74=(iV m.i)∧T 75=(iV ((j:Nat):Int))∧T 124=(V.bool ((fnd l2 (vNq m (nth l k) j)).1))∧H 2=(bMq m)∧H 3=(bFq f)∧H 4=bTq∧H 9=(bFq ((bG f).1))∧H 11=(bk 1 92 4 [[(V.mm 43 1),(V.ms 815 (w8+1) 0 ((l2++[(vNq m (nth l k) j)]).length)),(iV (nth (nth m.nx ((nth l k).s).toNat) j)),(V.str (kyF ((sNq m (nth l k) j).1)))]])∧H 14=(bk (v14+1) 95 5 [[(iV ((nth l k).s)),(iV ((nth l k).f.op)),(iV ((nth l k).f.arg)),(V.sl (List.map cF ((nth l k).f.kids))),(aY ((nth l k).w))]])∧H 16=(bk (v16+1) 24 3 [(rFq ((sNq m (nth l k) j).1))])∧H 43=(bz 1 eN 2 (eR (List.map plK (l2++[(vNq m (nth l k) j)]))))∧H 815=(bz (w8+1) 95 5 (List.map cPl (l2++[(vNq m (nth l k) j)])))∧H 1003=(⟨v1003+1,false,false,0,0,[]⟩:Blk)∧H 1006=(⟨v1006+1,false,false,0,0,[]⟩:Blk)∧True) ⟨t2,t4,t11,t13,t14,t18,t74,t75,(rVq (V.bool ((fnd l2 (vNq m (nth l k) j)).1))),h2,h3,h4,h9,h11,h14,h16,h43,h815,h1003,h1006,trivial⟩ ?_))
     intro T H ⟨t2,t4,t11,t13,t14,t18,t74,t75,t124,h2,h3,h4,h9,h11,h14,h16,h43,h815,h1003,h1006,_⟩
     refine .freeze 16 (.done ?_)
     refine cP (R:=fun T H=>T 2=(mPq 2)∧T 4=(mPq 4)∧T 11=(mPq 11)∧T 13=(iV ((k:Nat):Int))∧T 14=(V.mp 14 (v14+1) 0 0)∧T 18=(aY (cat ([(nth l k).w,[((j:Nat):Int)]])))∧T 74=(iV m.i)∧T 75=(iV ((j:Nat):Int))∧T 124=(V.bool ((fnd l2 (vNq m (nth l k) j)).1))∧H 2=(bMq m)∧H 3=(bFq f)∧H 4=bTq∧H 9=(bFq ((bG f).1))∧H 11=(bk 1 92 4 [[(V.mm 43 1),(V.ms 815 (w8+1) 0 ((l2++[(vNq m (nth l k) j)]).length)),(iV (nth (nth m.nx ((nth l k).s).toNat) j)),(V.str (kyF ((sNq m (nth l k) j).1)))]])∧H 14=(bk (v14+1) 95 5 [[(iV ((nth l k).s)),(iV ((nth l k).f.op)),(iV ((nth l k).f.arg)),(V.sl (List.map cF ((nth l k).f.kids))),(aY ((nth l k).w))]])∧((H 16).ver=v16+1∧(H 16).live=false)∧H 43=(bz 1 eN 2 (eR (List.map plK (l2++[(vNq m (nth l k) j)]))))∧H 815=(bz (w8+1) 95 5 (List.map cPl (l2++[(vNq m (nth l k) j)])))∧H 1003=(⟨v1003+1,false,false,0,0,[]⟩:Blk)∧H 1006=(⟨v1006+1,false,false,0,0,[]⟩:Blk)∧True) ⟨(cO t2 rfl),(cO t4 rfl),(cO t11 rfl),(cO t13 rfl),(cO t14 rfl),(cO t18 rfl),(cO t74 rfl),(cO t75 rfl),(cO t124 rfl),(bV h2 (by decide)),(bV h3 (by decide)),(bV h4 (by decide)),(bV h9 (by decide)),(bV h11 (by decide)),(bV h14 (by decide)),(eS (cVq h16)),(bV h43 (by decide)),(bV h815 (by decide)),(bV h1003 (by decide)),(bV h1006 (by decide)),trivial⟩ ?_
     intro T H ⟨t2,t4,t11,t13,t14,t18,t74,t75,t124,h2,h3,h4,h9,h11,h14,h16,h43,h815,h1003,h1006,_⟩
     refine W_t (bC t75 (rNq 1) (by omega) (aA rfl (R_e ?_)))
     refine p113 _ _ _ ?_ ⟨(j+1),(l2++[(vNq m (nth l k) j)]),(nth (nth m.nx ((nth l k).s).toNat) j),(kyF ((sNq m (nth l k) j).1)),(w8+1),(v16+1),(v1003+1),(v1006+1),rfl,t2,t4,t11,t13,t14,t74,(eTq (rNq (j+1)) (by rfl)),h2,h3,h4,h9,(eTq h11 (by rfl)),h14,h16,(eTq h43 (by rfl)),(eTq h815 (by rfl)),⟨(cVq h1003),congrArg Blk.live h1003⟩,⟨(cVq h1006),congrArg Blk.live h1006⟩,?_,?_,?_,?_,?_⟩
     · omega
     · omega
     · first|exact (fE heF).2 ▸ p3|exact (pT heF) ▸ p3
     · first|exact yE|exact hla2
     · first|exact hl2|(rw [List.length_append]; omega)
     · first|exact hc2.trans ((pO (by omega) e1 e2 e3).trans (by rw [show lN l2 (vNx m (nth l k) j)=_ from (fE heF).2]))|exact hc2.trans ((pO (by omega) e1 e2 e3).trans (by rw [show lN l2 (vNx m (nth l k) j)=_ from pT heF]))
    ·
     refine gK (bL t11 (bL rfl eB)) (aEa l2 (vNq m (nth l k) j) ls2 lk2 1 1 w8 v1003 v1006 heF _ h11 h43 h815 h1003.1 h1006 hp2.len x1 (aFl hla2)) (aA rfl (bK rfl rfl (bK rfl rfl (aA rfl (aA rfl ?_)))))
     refine dZ (hK _ _ ?_); clear hK K
     refine cP (R:=fun T H=>T 2=(mPq 2)∧T 4=(mPq 4)∧T 11=(mPq 11)∧T 13=(iV ((k:Nat):Int))∧T 14=(V.mp 14 (v14+1) 0 0)∧T 17=(iV ((fnd l2 (vNq m (nth l k) j)).2))∧T 18=(aY (cat ([(nth l k).w,[((j:Nat):Int)]])))∧T 19=(V.bool ((fnd l2 (vNq m (nth l k) j)).1))∧T 74=(iV m.i)∧T 75=(iV ((j:Nat):Int))∧H 2=(bMq m)∧H 3=(bFq f)∧H 4=bTq∧H 9=(bFq ((bG f).1))∧H 11=(bk 1 92 4 [[(V.mm 43 1),(V.ms 815 w8 0 l2.length),(iV ls2),(V.str lk2)]])∧H 14=(bk (v14+1) 95 5 [[(iV ((nth l k).s)),(iV ((nth l k).f.op)),(iV ((nth l k).f.arg)),(V.sl (List.map cF ((nth l k).f.kids))),(aY ((nth l k).w))]])∧H 16=(bk (v16+1) 24 3 [(rFq ((sNq m (nth l k) j).1))])∧H 43=(bz 1 eN 2 (eR (List.map plK l2)))∧H 815=(bz w8 95 5 (List.map cPl l2))∧H 1003=(⟨v1003+1,false,false,0,0,[]⟩:Blk)∧H 1006=(⟨v1006+1,false,false,0,0,[]⟩:Blk)∧True) ⟨t2,t4,t11,t13,t14,rfl,rfl,rfl,t74,t75,h2,h3,h4,h9,h11,h14,rfl,h43,h815,rfl,rfl,trivial⟩ ?_
     intro T H ⟨t2,t4,t11,t13,t14,t17,t18,t19,t74,t75,h2,h3,h4,h9,h11,h14,h16,h43,h815,h1003,h1006,_⟩
     refine aB (W_r (aA t17 (cD rfl rfl (R_e ?_))))
     refine aH rfl (fun c23=>?_) fun c23=>?_
     ·
      have d1:=hc.trans (jF (by omega) hp.len (hc2.trans (aEX (by omega) e1 c23)))
      refine aB (W_r (aW rfl rfl (aA t17 (bE t4 rfl rfl h4 rfl rfl rfl rfl rfl (aA rfl (aA rfl (R_e ?_)))))))
      refine aM (y15 _ _ (p213 _ _ (y12 _ _ (y11 _ _ (p29 _ _ (y8 _ _ ?_))))))
      refine gG (bB (u:=(V.agg [V.nilsl,V.nilsl])) t4 (@rfl Blk bTq) (lB oB rfl rfl)) (bR (rVq (V.bool false))) (bR (rVq (iV ((fnd l2 (vNq m (nth l k) j)).2)))) (fF (bU ?_) (bU ?_)) (aZ ?_) (aF ?_)
      · rw [d1]; try rfl
      · rw [d1]; try rfl
      · rw [d1]; try rfl
      · rw [d1]; try rfl
     have e2:=c23
     refine aC (W_r (aA t19 (R_e ?_)))
     refine lI rfl (fun c24=>?_) (fun c24=>?_)
     ·
      have d1:=hc.trans (jF (by omega) hp.len (hc2.trans (aKT (by omega) e1 e2 c24)))
      refine W_r (aJ t2 h2 rfl rfl (aA t18 (aI (aHJ m (cat ([(nth l k).w,[((j:Nat):Int)]]))) rfl (aA rfl (bK rfl rfl (bK rfl rfl (aA rfl ?_)))))))
      refine aA rfl (R_e (W_r (aA t18 (aA rfl (aW rfl rfl (aA rfl (aX rfl rfl ?_)))))))
      refine aA rfl (bE t4 rfl rfl h4 rfl rfl rfl rfl rfl (aA rfl (aA rfl (R_e (aO (y15 _ _ (p213 _ _ ?_)))))))
      refine y12 _ _ (y11 _ _ (p29 _ _ (y8 _ _ ?_)))
      refine gG (bB (u:=(V.agg [(aY (cat ([(nth l k).w,[((j:Nat):Int)]]))),(aY (nH m m.s (cat ([(nth l k).w,[((j:Nat):Int)]]))))])) t4 (@rfl Blk (bk 1 54 2 [[(aY (cat ([(nth l k).w,[((j:Nat):Int)]]))),(aY (nH m m.s (cat ([(nth l k).w,[((j:Nat):Int)]]))))]])) (lB oB rfl rfl)) (bR (rVq (V.bool (decide ((frE m m.s (cat ([(nth l k).w,[((j:Nat):Int)]])))=(0:Int)))))) (bR (rVq (iV (frE m m.s (cat ([(nth l k).w,[((j:Nat):Int)]])))))) (fF (dA ?_ (fun _=>by simp)) (dA ?_ (fun _=>by simp))) (aZ ?_) (aF ?_)
      · rw [d1]; try rfl
      · rw [d1]; try rfl
      · rw [d1]; try rfl
      · rw [d1]; try rfl
     have e3:=c24
     replace e3: ¬(_=true):=fun q=>absurd (q.symm.trans e3) (by decide)
     refine cN (n15 _ _ (cP (R:=fun T H=>T 2=(mPq 2)∧T 4=(mPq 4)∧T 11=(mPq 11)∧T 13=(iV ((k:Nat):Int))∧T 14=(V.mp 14 (v14+1) 0 0)∧T 18=(aY (cat ([(nth l k).w,[((j:Nat):Int)]])))∧T 74=(iV m.i)∧T 75=(iV ((j:Nat):Int))∧T 124=(V.bool ((fnd l2 (vNq m (nth l k) j)).1))∧H 2=(bMq m)∧H 3=(bFq f)∧H 4=bTq∧H 9=(bFq ((bG f).1))∧H 11=(bk 1 92 4 [[(V.mm 43 1),(V.ms 815 w8 0 l2.length),(iV ls2),(V.str lk2)]])∧H 14=(bk (v14+1) 95 5 [[(iV ((nth l k).s)),(iV ((nth l k).f.op)),(iV ((nth l k).f.arg)),(V.sl (List.map cF ((nth l k).f.kids))),(aY ((nth l k).w))]])∧H 16=(bk (v16+1) 24 3 [(rFq ((sNq m (nth l k) j).1))])∧H 43=(bz 1 eN 2 (eR (List.map plK l2)))∧H 815=(bz w8 95 5 (List.map cPl l2))∧H 1003=(⟨v1003+1,false,false,0,0,[]⟩:Blk)∧H 1006=(⟨v1006+1,false,false,0,0,[]⟩:Blk)∧True) ⟨t2,t4,t11,t13,t14,t18,t74,t75,(rVq (V.bool ((fnd l2 (vNq m (nth l k) j)).1))),h2,h3,h4,h9,h11,h14,h16,h43,h815,h1003,h1006,trivial⟩ ?_))
     intro T H ⟨t2,t4,t11,t13,t14,t18,t74,t75,t124,h2,h3,h4,h9,h11,h14,h16,h43,h815,h1003,h1006,_⟩
     refine .freeze 16 (.done ?_)
     refine cP (R:=fun T H=>T 2=(mPq 2)∧T 4=(mPq 4)∧T 11=(mPq 11)∧T 13=(iV ((k:Nat):Int))∧T 14=(V.mp 14 (v14+1) 0 0)∧T 18=(aY (cat ([(nth l k).w,[((j:Nat):Int)]])))∧T 74=(iV m.i)∧T 75=(iV ((j:Nat):Int))∧T 124=(V.bool ((fnd l2 (vNq m (nth l k) j)).1))∧H 2=(bMq m)∧H 3=(bFq f)∧H 4=bTq∧H 9=(bFq ((bG f).1))∧H 11=(bk 1 92 4 [[(V.mm 43 1),(V.ms 815 w8 0 l2.length),(iV ls2),(V.str lk2)]])∧H 14=(bk (v14+1) 95 5 [[(iV ((nth l k).s)),(iV ((nth l k).f.op)),(iV ((nth l k).f.arg)),(V.sl (List.map cF ((nth l k).f.kids))),(aY ((nth l k).w))]])∧((H 16).ver=v16+1∧(H 16).live=false)∧H 43=(bz 1 eN 2 (eR (List.map plK l2)))∧H 815=(bz w8 95 5 (List.map cPl l2))∧H 1003=(⟨v1003+1,false,false,0,0,[]⟩:Blk)∧H 1006=(⟨v1006+1,false,false,0,0,[]⟩:Blk)∧True) ⟨(cO t2 rfl),(cO t4 rfl),(cO t11 rfl),(cO t13 rfl),(cO t14 rfl),(cO t18 rfl),(cO t74 rfl),(cO t75 rfl),(cO t124 rfl),(bV h2 (by decide)),(bV h3 (by decide)),(bV h4 (by decide)),(bV h9 (by decide)),(bV h11 (by decide)),(bV h14 (by decide)),(eS (cVq h16)),(bV h43 (by decide)),(bV h815 (by decide)),(bV h1003 (by decide)),(bV h1006 (by decide)),trivial⟩ ?_
     intro T H ⟨t2,t4,t11,t13,t14,t18,t74,t75,t124,h2,h3,h4,h9,h11,h14,h16,h43,h815,h1003,h1006,_⟩
     refine W_t (bC t75 (rNq 1) (by omega) (aA rfl (R_e ?_)))
     refine p113 _ _ _ ?_ ⟨(j+1),l2,ls2,lk2,w8,(v16+1),(v1003+1),(v1006+1),rfl,t2,t4,t11,t13,t14,t74,(eTq (rNq (j+1)) (by rfl)),h2,h3,h4,h9,h11,h14,h16,h43,h815,⟨(cVq h1003),congrArg Blk.live h1003⟩,⟨(cVq h1006),congrArg Blk.live h1006⟩,?_,?_,?_,?_,?_⟩
     · omega
     · omega
     · first|exact (fE heF).2 ▸ p3|exact (pT heF) ▸ p3
     · first|exact yE|exact hla2
     · first|exact hl2|(rw [List.length_append]; omega)
     · first|exact hc2.trans ((pO (by omega) e1 e2 e3).trans (by rw [show lN l2 (vNx m (nth l k) j)=_ from (fE heF).2]))|exact hc2.trans ((pO (by omega) e1 e2 e3).trans (by rw [show lN l2 (vNx m (nth l k) j)=_ from pT heF]))
   have hr0:=hc2.trans (aDC (by omega))
   refine aN (p313 _ _ _ (x12 _ _ (n11 _ _ (cP (R:=fun T H=>T 2=(mPq 2)∧T 4=(mPq 4)∧T 11=(mPq 11)∧T 13=(iV ((k:Nat):Int))∧T 14=(V.mp 14 (v14+1) 0 0)∧T 74=(iV m.i)∧T 75=(iV ((j:Nat):Int))∧T 76=(V.bool (decide (((j:Nat):Int) < m.i)))∧H 2=(bMq m)∧H 3=(bFq f)∧H 4=bTq∧H 9=(bFq ((bG f).1))∧H 11=(bk 1 92 4 [[(V.mm 43 1),(V.ms 815 w8 0 l2.length),(iV ls2),(V.str lk2)]])∧H 14=(bk (v14+1) 95 5 [[(iV ((nth l k).s)),(iV ((nth l k).f.op)),(iV ((nth l k).f.arg)),(V.sl (List.map cF ((nth l k).f.kids))),(aY ((nth l k).w))]])∧((H 16).ver=v16∧(H 16).live=false)∧H 43=(bz 1 eN 2 (eR (List.map plK l2)))∧H 815=(bz w8 95 5 (List.map cPl l2))∧((H 1003).ver=v1003∧(H 1003).live=false)∧((H 1006).ver=v1006∧(H 1006).live=false)∧True) ⟨t2,t4,t11,t13,t14,t74,t75,(rVq (V.bool (decide (((j:Nat):Int) < m.i)))),h2,h3,h4,h9,h11,h14,h16,h43,h815,h1003,h1006,trivial⟩ ?_))))
   intro T H ⟨t2,t4,t11,t13,t14,t74,t75,t76,h2,h3,h4,h9,h11,h14,h16,h43,h815,h1003,h1006,_⟩
   refine .freeze 14 (.done ?_)
   refine cP (R:=fun T H=>T 2=(mPq 2)∧T 4=(mPq 4)∧T 11=(mPq 11)∧T 13=(iV ((k:Nat):Int))∧T 14=(V.mp 14 (v14+1) 0 0)∧T 74=(iV m.i)∧T 75=(iV ((j:Nat):Int))∧T 76=(V.bool (decide (((j:Nat):Int) < m.i)))∧H 2=(bMq m)∧H 3=(bFq f)∧H 4=bTq∧H 9=(bFq ((bG f).1))∧H 11=(bk 1 92 4 [[(V.mm 43 1),(V.ms 815 w8 0 l2.length),(iV ls2),(V.str lk2)]])∧((H 14).ver=v14+1∧(H 14).live=false)∧((H 16).ver=v16∧(H 16).live=false)∧H 43=(bz 1 eN 2 (eR (List.map plK l2)))∧H 815=(bz w8 95 5 (List.map cPl l2))∧((H 1003).ver=v1003∧(H 1003).live=false)∧((H 1006).ver=v1006∧(H 1006).live=false)∧True) ⟨(cO t2 rfl),(cO t4 rfl),(cO t11 rfl),(cO t13 rfl),(cO t14 rfl),(cO t74 rfl),(cO t75 rfl),(cO t76 rfl),(bV h2 (by decide)),(bV h3 (by decide)),(bV h4 (by decide)),(bV h9 (by decide)),(bV h11 (by decide)),(eS (cVq h14)),(jC h16),(bV h43 (by decide)),(bV h815 (by decide)),(jC h1003),(jC h1006),trivial⟩ ?_
   intro T H ⟨t2,t4,t11,t13,t14,t74,t75,t76,h2,h3,h4,h9,h11,h14,h16,h43,h815,h1003,h1006,_⟩
   refine W_t (aA t13 (bC rfl (rNq 1) (by omega) (aA rfl (R_e ?_))))
   refine p19 _ _ _ ?_ ⟨(k+1),l2,ls2,lk2,w8,(v14+1),v16,v1003,v1006,rfl,t2,t4,t11,(eTq (rNq (k+1)) (by rfl)),h2,h3,h4,h9,h11,h14,h16,h43,h815,h1003,h1006,?_,?_,?_,?_⟩
   · have:=hp.len; omega
   · omega
   · exact hp2
   · exact hla2
   · exact hc.trans (aGB (by omega) hp.len hr0)
  have d1:=hc.trans (aCk (by omega))
  refine aN (p39 _ _ _ (x8 _ _ (.done (W_r (aW rfl rfl (bE t4 rfl rfl h4 rfl rfl rfl rfl rfl (aA rfl ?_)))))))
  refine aA rfl (R_e (aO ?_))
  refine gG (bB (u:=(V.agg [V.nilsl,V.nilsl])) t4 (@rfl Blk bTq) (lB oB rfl rfl)) (bR (rVq (V.bool false))) (bR (rVq (iV 0))) (fF (bU ?_) (bU ?_)) (aZ ?_) (aF ?_)
  · rw [d1]; try rfl
  · rw [d1]; try rfl
  · rw [d1]; try rfl
  · rw [d1]; try rfl
 ·
  refine gK (bL t11 (bL rfl eB)) (aDi ([]) m.s ((bG f).1) (0:Int) ([]) 1 1 1 0 0 heF _ h11 h43 h815 (cVq h1003) ⟨cVq h1006,congrArg Blk.live h1006⟩ (Nat.zero_le _) v0 (fun _ e=>absurd e.symm (aNT _))) (aA rfl (bK rfl rfl (bK rfl rfl (aA rfl (aA rfl ?_)))))
  refine dZ (hK _ _ ?_); clear hK K
  refine cP (R:=fun T H=>T 2=(mPq 2)∧T 4=(mPq 4)∧T 10=(iV ((fnd ([]) (⟨m.s,(bG f).1,[]⟩:Pl)).2))∧T 11=(mPq 11)∧T 12=(V.bool ((fnd ([]) (⟨m.s,(bG f).1,[]⟩:Pl)).1))∧H 2=(bMq m)∧H 3=(bFq f)∧H 4=bTq∧H 9=(bFq ((bG f).1))∧H 11=(bk 1 92 4 [[(V.mm 43 1),(V.ms 815 1 0 0),(iV 0),(V.str ([]))]])∧H 14=bZq∧H 16=bZq∧H 43=(bz 1 eN 2 (eR (List.map plK [])))∧H 815=(bz 1 95 5 [])∧H 1003=(⟨1,false,false,0,0,[]⟩:Blk)∧H 1006=(⟨1,false,false,0,0,[]⟩:Blk)∧True) ⟨t2,t4,rfl,t11,rfl,h2,h3,h4,h9,h11,h14,h16,h43,h815,rfl,rfl,trivial⟩ ?_
  intro T H ⟨t2,t4,t10,t11,t12,h2,h3,h4,h9,h11,h14,h16,h43,h815,h1003,h1006,_⟩
  refine aB (W_r (aA t10 (cD rfl rfl (aA rfl ?_))))
  refine aT 2 (fun T H=>T 2=(mPq 2)∧T 4=(mPq 4)∧T 10=(iV ((fnd ([]) (⟨m.s,(bG f).1,[]⟩:Pl)).2))∧T 11=(mPq 11)∧T 12=(V.bool ((fnd ([]) (⟨m.s,(bG f).1,[]⟩:Pl)).1))∧T 57=(V.bool (decide (((fnd ([]) (⟨m.s,(bG f).1,[]⟩:Pl)).2)≠(0:Int))||((fnd ([]) (⟨m.s,(bG f).1,[]⟩:Pl)).1)))∧H 2=(bMq m)∧H 3=(bFq f)∧H 4=bTq∧H 9=(bFq ((bG f).1))∧H 11=(bk 1 92 4 [[(V.mm 43 1),(V.ms 815 1 0 0),(iV 0),(V.str ([]))]])∧H 14=bZq∧H 16=bZq∧H 43=(bz 1 eN 2 (eR (List.map plK [])))∧H 815=(bz 1 95 5 [])∧H 1003=(⟨1,false,false,0,0,[]⟩:Blk)∧H 1006=(⟨1,false,false,0,0,[]⟩:Blk)∧True) ?_ ?_
  ·
   by_cases g27:((fnd ([]) (⟨m.s,(bG f).1,[]⟩:Pl)).2)≠(0:Int)
   ·
    refine G_n (edT g27 rfl) (aS (edT g27 rfl) rfl ?_)
    exact ⟨t2,t4,t10,t11,t12,(nG g27),h2,h3,h4,h9,h11,h14,h16,h43,h815,h1003,h1006,trivial⟩
   ·
    refine aE (edF g27 rfl) (aA t12 (aU (edF g27 rfl) rfl ?_))
    exact ⟨t2,t4,t10,t11,t12,(nF g27),h2,h3,h4,h9,h11,h14,h16,h43,h815,h1003,h1006,trivial⟩
  intro T H ⟨t2,t4,t10,t11,t12,t57,h2,h3,h4,h9,h11,h14,h16,h43,h815,h1003,h1006,_⟩
  refine R_e ?_
  refine bX t57 (fun c28=>?_) (fun c28=>?_)
  ·
   have d1:=aKl a1 a2 a3 (aOB c28)
   refine aB (W_r (aW rfl rfl (aA t12 (aA t10 (bE t4 rfl rfl h4 rfl rfl rfl rfl rfl (aA rfl (aA rfl ?_)))))))
   refine R_e (aM ?_)
   refine gG (bB (u:=(V.agg [V.nilsl,V.nilsl])) t4 (@rfl Blk bTq) (lB oB rfl rfl)) (bR (rVq (V.bool ((fnd ([]) (⟨m.s,(bG f).1,[]⟩:Pl)).1)))) (bR (rVq (iV ((fnd ([]) (⟨m.s,(bG f).1,[]⟩:Pl)).2)))) (fF (bU ?_) (bU ?_)) (aZ ?_) (aF ?_)
   · rw [d1]; try rfl
   · rw [d1]; try rfl
   · rw [d1]; try rfl
   · rw [d1]; try rfl
  · exact absurd (eTq (Eq.symm c28) (aJZ heF)) (by decide)
def aTB:List SO:=[
 qM 17 0,
 qM 18 5,
 qA 19 1 17 18,
 ql 20 19,
 qM 21 1,
 qM 22 5,
 qA 23 1 21 22,
 ql 24 23,
 qP 25 .neq 20 24]
def aNl:SC:=.seq (.seq (.reg [qM 11 5,qM 12 0,qN 13 12,qP 14 .lss 11 13]) (.cond (.t 14) (.skip) (.exit 0))) (.seq (.block 1 (.seq (.reg aTB) (.cond (.t 25) (.seq (.reg [sO 4 (.mv (.c (.bool false)))]) (.ret)) (.skip)))) (.reg [qM 15 5,qC 16 .add 15 1,qM 5 16]))
def s32:SF:=⟨26,[.tmp 4],.seq (.reg [sO 4 (.mv (.c (.bool false)))]) (.seq (.seq (.reg [qM 6 0,qN 7 6,qM 8 1,qN 9 8,qP 10 .neq 7 9]) (.cond (.t 10) (.seq (.reg [sO 4 (.mv (.c (.bool false)))]) (.ret)) (.skip))) (.seq (.seq (.reg [qI 5 0]) (.block 0 (.loop aNl))) (.seq (.reg [sO 4 (.mv (.c (.bool true)))]) (.ret))))⟩
theorem aPd:bJ Tryz.prog ⟨oEq,[],[],[]⟩ Tryz.f32=some s32:=by kernel_rfl
theorem mJ (a b:List Int):aQ Tryz.prog 32 [(aY a),(aY b)] (V.bool (decide (a=b))):=by
 refine pW Tryz.func32 aPd fun hB=>?_
 unfold s32
 dsimp only
 refine W_r (aA rfl (R_e (aB (W_r (aA rfl (bF rfl (aA rfl ?_)))))))
 refine bF rfl (cD rfl rfl (R_e ?_))
 refine aH rfl (fun c1=>?_) fun c1=>?_
 ·
  refine aB (W_r (aA rfl (R_e (aM ?_))))
  refine bH (rVq (V.bool false)) (aZ ?_)
  · exact (decide_eq_false (fun e=>by subst e; omega)).symm
 refine aC (aB (W_r (aA rfl (R_e (aD fun Q2 n2 x2 y2 z2=>?_)))))
 refine bS (fun mm T H=> ∃ (k:Nat),mm=a.length - k∧T 0=(aY a)∧T 1=(aY b)∧T 5=(iV ((k:Nat):Int))∧(k≤a.length)∧(a.length=b.length)∧(∀ j,j < k→nth a j=nth b j)) ?_ ?_
 ·
  refine ⟨_,0,rfl,rfl,rfl,(eTq (rVq (iV 0)) rfl),?_,?_,?_⟩
  · omega
  · omega
  · intro j hj; omega
 intro mm T H ⟨k,hmm,t0,t1,t5,hk,hl,hc⟩ Q3 p13 p23 p33
 unfold aNl
 refine aB (W_r (aA t5 (aA t0 (bF rfl (bO rfl rfl (R_e ?_))))))
 refine aH rfl (fun c4=>?_) fun c4=>?_
 ·
  refine aC (aD fun Q5 n5 x5 y5 z5=>(W_r (aA t0 (aA t5 (dB (i:=k) (rVq (aY a)) (rNq k) (by omega) rfl (aG rfl rfl (aA t1 ?_)))))))
  refine aA t5 (dB (i:=k) (rVq (aY b)) (rNq k) (by omega) rfl (aG rfl rfl (cD rfl rfl (R_e ?_))))
  refine bZ rfl (fun c6=>?_) fun c6=>?_
  ·
   refine W_r (aA rfl (R_e (aO (y5 _ _ (p23 _ _ (y2 _ _ ?_))))))
   refine bH (rVq (V.bool false)) (aZ ?_)
   · exact (decide_eq_false (fun e=>by subst e; omega)).symm
  refine cN (n5 _ _ (.done (W_t (aA t5 (bC rfl (rNq 1) (by omega) (aA rfl (R_e ?_)))))))
  refine p13 _ _ _ ?_ ⟨(k+1),rfl,t0,t1,(eTq (rNq (k+1)) (by rfl)),?_,?_,?_⟩
  · omega
  · omega
  · omega
  · intro j hj
    by_cases e:j=k
    · subst e; omega
    · exact hc j (by omega)
 refine aN (p33 _ _ _ (x2 _ _ (.done (W_r (aA rfl (R_e (aO ?_)))))))
 refine bH (rVq (V.bool true)) (aZ ?_)
 · exact (decide_eq_true (wL hl fun j hj=>hc j (by omega))).symm
def aSR:List SO:=[
 sO 1 (.bslice 3 1 false [.int .i64 0] 2 [(0,.c (.int .i64 1)),(1,.c (.int .i64 0))]),
 sO 2 (.bslice 3 1 false [.int .i64 0] 2 [(0,.c (.int .i64 1)),(1,.c (.int .i64 0))]),
 sO 3 (.bslice 52 1 false [.nilsl] 2 [(0,.t 1),(1,.t 2)]),
 sO 4 (.bslice 3 1 false [.int .i64 0] 2 [(0,.c (.int .i64 1)),(1,.c (.int .i64 0))]),
 sO 5 (.bslice 3 1 false [.int .i64 0] 2 [(0,.c (.int .i64 1)),(1,.c (.int .i64 2))]),
 sO 6 (.bslice 52 1 false [.nilsl] 2 [(0,.t 4),(1,.t 5)]),
 sO 7 (.build [.int .i64 0,.int .i64 0,.nilsl,.nilsl] [(0,1,.c (.int .i64 2)),(2,1,.t 3),(3,1,.t 6)]),
 sN (.store 4 (.t 0) (.t 7))]
def s48:SF:=⟨8,[.cell 0 true 4],.seq (.reg [sO 0 (.alloc 50 [.int .i64 0,.int .i64 0,.nilsl,.nilsl])]) (.seq (.reg aSR) (.ret))⟩
theorem aQc:bJ Tryz.prog ⟨oEq,[],[],[]⟩ Tryz.f48=some s48:=by kernel_rfl
theorem uS:aQ Tryz.prog 48 [] (V.agg [(iV 2),(iV 0),(bI ([[1,0],[1,0]])),(bI ([[1,0],[1,2]]))]):=by
 refine pW Tryz.func48 aQc fun hB=>?_
 unfold s48
 dsimp only
 refine W_r (aV (i:=0) (n:=0) (m:=4) rfl (cVq rfl) rfl (R_e (W_r (aR rfl rfl (aR rfl rfl (aR rfl rfl (aR rfl rfl ?_)))))))
 refine aR rfl rfl (aR rfl rfl (aW rfl rfl (bE rfl rfl rfl rfl rfl rfl rfl rfl rfl (R_e (aO ?_)))))
 refine cM (bB (u:=(V.agg [(iV 2),(iV 0),(V.sl [[(V.sl [[(iV 1)],[(iV 0)]])],[(V.sl [[(iV 1)],[(iV 0)]])]]),(V.sl [[(V.sl [[(iV 1)],[(iV 0)]])],[(V.sl [[(iV 1)],[(iV 2)]])]])])) rfl (@rfl Blk (bk 1 50 4 [[(iV 2),(iV 0),(V.sl [[(V.sl [[(iV 1)],[(iV 0)]])],[(V.sl [[(iV 1)],[(iV 0)]])]]),(V.sl [[(V.sl [[(iV 1)],[(iV 0)]])],[(V.sl [[(iV 1)],[(iV 2)]])]])]])) (lB oB rfl rfl)) (aLU (iK (cH (by simp) rfl) (iK (cH (by simp) rfl) (iK (cH (by simp) ?_) (iK (cH (by simp) ?_) rfl)))))
 · first|rfl|omega|simp_all
 · first|rfl|omega|simp_all
def aSa:List SO:=[
 qL 7 3 3,
 qL 8 3 1,
 sO 9 (.bslice 24 3 false zFq 1 [(0,.t 8)]),
 sO 10 (.build zFq [(0,1,.c (.int .i64 4)),(2,1,.t 9)]),
 sO 11 (.bslice 24 3 false zFq 2 [(0,.t 7),(1,.t 10)]),
 sO 12 (.build zFq [(0,1,.c (.int .i64 10)),(2,1,.t 11)]),
 sN (.store 3 (.t 2) (.t 12))]
def s49:SF:=⟨13,[.cell 2 true 3],.seq (.reg [sO 1 (.box 24 3 (.t 0)),sO 2 (.alloc 24 zFq)]) (.seq (.reg [sO 4 (.build zFq [(0,1,.c (.int .i64 1))]),sO 5 (.bslice 24 3 false zFq 1 [(0,.t 4)]),sO 6 (.build zFq [(0,1,.c (.int .i64 4)),(2,1,.t 5)]),sO 3 (.alloc 24 zFq),sN (.store 3 (.t 3) (.t 6))]) (.seq (.reg aSa) (.ret)))⟩
theorem aQv:bJ Tryz.prog ⟨oEq,[],[],[]⟩ Tryz.f49=some s49:=by kernel_rfl
theorem qX (f:Fm):aQ Tryz.prog 49 [(V.agg (rFq f))] (V.agg [(iV 10),(iV 0),(V.sl (List.map cF ([Fm.nd 4 0 [Fm.nd 1 0 []],Fm.nd 4 0 [f]])))]):=by
 refine pW Tryz.func49 aQv fun hB=>?_
 unfold s49
 dsimp only
 refine W_r (cA (i:=1) (n:=0) (m:=3) (cs:=(rFq f)) rfl (cVq rfl) rfl rfl rfl (aV (i:=2) (n:=0) (m:=3) rfl (cVq rfl) rfl (R_e (W_r (aW rfl rfl (aR rfl rfl (aW rfl rfl ?_)))))))
 refine aV (i:=3) (n:=0) (m:=3) rfl (cVq rfl) rfl (bE rfl rfl rfl rfl rfl rfl rfl rfl rfl (R_e (W_r (aJ rfl rfl rfl rfl (aJ rfl rfl rfl rfl (aR rfl rfl (aW rfl rfl ?_)))))))
 refine aR rfl rfl (aW rfl rfl (bE rfl rfl rfl rfl rfl rfl rfl rfl rfl (R_e (aO ?_))))
 refine cM (bB (u:=(V.agg [(iV 10),(iV 0),(V.sl [[(iV 4),(iV 0),(V.sl [[(iV 1),(iV 0),V.nilsl]])],[(iV 4),(iV 0),(V.sl [(rFq f)])]])])) rfl (@rfl Blk (bk 1 24 3 [[(iV 10),(iV 0),(V.sl [[(iV 4),(iV 0),(V.sl [[(iV 1),(iV 0),V.nilsl]])],[(iV 4),(iV 0),(V.sl [(rFq f)])]])]])) (lB oB rfl rfl)) (bD (cH (by simp) rfl) (cH (by simp) rfl) aIf)
end Go.Proofs.YteehaobohaecmaaGreatDoor
namespace Go.Proofs.YteehaobohaecmaaGreatDoor
theorem Tr.eq_iff {a b:Tr}:a=b↔a.ni=b.ni∧a.no=b.no:=by cases a; cases b; simp
theorem Ob.eq_iff {a b:Ob}:a=b↔a.i=b.i∧a.tr=b.tr:=by cases a; cases b; simp
instance:DecidableEq Tr:=fun _ _=>decidable_of_iff _ Tr.eq_iff.symm
instance:DecidableEq Ob:=fun _ _=>decidable_of_iff _ Ob.eq_iff.symm
end Go.Proofs.YteehaobohaecmaaGreatDoor
namespace Go.Proofs.YteehaobohaecmaaGreatDoor
open Go
theorem aOJ {m:M} {f:Fm} (h:aIo m f=true):f.sz≤12:=by
  have:=of_decide_eq_true h
  have h2:=aAY f 0 this.2.2.2
  omega
end Go.Proofs.YteehaobohaecmaaGreatDoor
namespace Go.Proofs.YteehaobohaecmaaGreatDoor
open Go Go.Proofs
set_option maxRecDepth 20000
theorem aTy:aQ Tryz.prog 49 [(V.agg [(iV 3),(iV 2),(V.sl (List.map cF ([])))])] (V.agg [(iV 10),(iV 0),(V.sl (List.map cF ([Fm.nd 4 0 [Fm.nd 1 0 []],Fm.nd 4 0 [(Fm.nd 3 2 [])]])))]):=by
  have h:=qX (Fm.nd 3 2 [])
  exact h
theorem aR5:aQ Tryz.prog 23 [(V.agg [(iV 2),(iV 0),(bI ([[1,0],[1,0]])),(bI ([[1,0],[1,2]]))]),(V.agg [(iV 10),(iV 0),(V.sl (List.map cF ([Fm.nd 4 0 [Fm.nd 1 0 []],Fm.nd 4 0 [(Fm.nd 3 2 [])]])))])] (V.tup [(V.agg [(aY ([0,1])),(aY ([1,2]))]),(V.bool true),(iV 0)]):=by
  have h:=lD ⟨2,0,[[1,0],[1,0]],[[1,0],[1,2]]⟩ (Fm.nd 10 0 [Fm.nd 4 0 [Fm.nd 1 0 []],Fm.nd 4 0 [(Fm.nd 3 2 [])]])
  rw [show vck ⟨2,0,[[1,0],[1,0]],[[1,0],[1,2]]⟩ (Fm.nd 10 0 [Fm.nd 4 0 [Fm.nd 1 0 []],Fm.nd 4 0 [(Fm.nd 3 2 [])]])=(⟨[0,1],[1,2]⟩,true,0) from by decide+kernel] at h
  exact h
theorem aTW:aQ Tryz.prog 49 [(V.agg [(iV 5),(iV 0),(V.sl (List.map cF ([Fm.nd 2 1 [],Fm.nd 3 0 []])))])] (V.agg [(iV 10),(iV 0),(V.sl (List.map cF ([Fm.nd 4 0 [Fm.nd 1 0 []],Fm.nd 4 0 [(Fm.nd 5 0 [Fm.nd 2 1 [],Fm.nd 3 0 []])]])))]):=by
  have h:=qX (Fm.nd 5 0 [Fm.nd 2 1 [],Fm.nd 3 0 []])
  exact h
theorem aSY:aQ Tryz.prog 23 [(V.agg [(iV 2),(iV 0),(bI ([[1,0],[1,0]])),(bI ([[1,0],[1,2]]))]),(V.agg [(iV 10),(iV 0),(V.sl (List.map cF ([Fm.nd 4 0 [Fm.nd 1 0 []],Fm.nd 4 0 [(Fm.nd 5 0 [Fm.nd 2 1 [],Fm.nd 3 0 []])]])))])] (V.tup [(V.agg [(aY ([1])),(aY ([0]))]),(V.bool true),(iV 0)]):=by
  have h:=lD ⟨2,0,[[1,0],[1,0]],[[1,0],[1,2]]⟩ (Fm.nd 10 0 [Fm.nd 4 0 [Fm.nd 1 0 []],Fm.nd 4 0 [(Fm.nd 5 0 [Fm.nd 2 1 [],Fm.nd 3 0 []])]])
  rw [show vck ⟨2,0,[[1,0],[1,0]],[[1,0],[1,2]]⟩ (Fm.nd 10 0 [Fm.nd 4 0 [Fm.nd 1 0 []],Fm.nd 4 0 [(Fm.nd 5 0 [Fm.nd 2 1 [],Fm.nd 3 0 []])]])=(⟨[1],[0]⟩,true,0) from by decide+kernel] at h
  exact h
theorem aSg:aQ Tryz.prog 49 [(V.agg [(iV 3),(iV 3),(V.sl (List.map cF ([])))])] (V.agg [(iV 10),(iV 0),(V.sl (List.map cF ([Fm.nd 4 0 [Fm.nd 1 0 []],Fm.nd 4 0 [(Fm.nd 3 3 [])]])))]):=by
  have h:=qX (Fm.nd 3 3 [])
  exact h
theorem aSi:aQ Tryz.prog 23 [(V.agg [(iV 2),(iV 0),(bI ([[1,0],[1,0]])),(bI ([[1,0],[1,2]]))]),(V.agg [(iV 10),(iV 0),(V.sl (List.map cF ([Fm.nd 4 0 [Fm.nd 1 0 []],Fm.nd 4 0 [(Fm.nd 3 3 [])]])))])] (V.tup [(V.agg [(aY ([])),(aY ([]))]),(V.bool false),(iV 0)]):=by
  have h:=lD ⟨2,0,[[1,0],[1,0]],[[1,0],[1,2]]⟩ (Fm.nd 10 0 [Fm.nd 4 0 [Fm.nd 1 0 []],Fm.nd 4 0 [(Fm.nd 3 3 [])]])
  rw [show vck ⟨2,0,[[1,0],[1,0]],[[1,0],[1,2]]⟩ (Fm.nd 10 0 [Fm.nd 4 0 [Fm.nd 1 0 []],Fm.nd 4 0 [(Fm.nd 3 3 [])]])=(⟨[],[]⟩,false,0) from by decide+kernel] at h
  exact h
abbrev vI:=(bk 1 24 3 [[(iV 5),(iV 0),(V.sl [[(iV 2),(iV 1),V.nilsl],[(iV 3),(iV 0),V.nilsl]])]])
abbrev aF3:=((((0:Int)=(0:Int))∧(([0,1])=([0,1])))∧(([1,2])=([1,2])))
abbrev uZ:=(bk 1 24 3 [[(iV 3),(iV 2),V.nilsl]])
abbrev vQ:=(bk 1 54 2 [[(aY ([0,1])),(aY ([1,2]))]])
abbrev vF:=(bk 1 54 2 [[(aY ([1])),(aY ([0]))]])
abbrev vR:=(bk 1 54 2 [[(aY ([])),(aY ([]))]])
abbrev zC:=(aF3∧((0:Int)=(0:Int)))
theorem aAZ:aQ Tryz.prog 22 [] (V.bool true):=by
 refine pW Tryz.func22 aPh fun hB=>?_
 unfold s22
 dsimp only
 refine W_r (aA rfl (R_e (W_r (aW rfl rfl (aV (i:=1) (n:=0) (m:=3) rfl (cVq rfl) rfl (bE rfl rfl rfl rfl rfl rfl rfl rfl rfl (R_e ?_)))))))
 refine W_r (aW rfl rfl (aW rfl rfl (aR rfl rfl (aW rfl rfl (aV (i:=2) (n:=0) (m:=3) rfl (cVq rfl) rfl (bE rfl rfl rfl rfl rfl rfl rfl rfl rfl (R_e ?_)))))))
 refine W_d (by exact (kK rfl nK)) (aI uS rfl (aJ rfl rfl rfl rfl (kU (bL (rVq (V.agg [(iV 3),(iV 2),V.nilsl])) eB) aTy (iK (by rfl) rfl) (by simp) (Or.inl (by simp)) (aI aR5 rfl (aA rfl (bK rfl rfl (bK rfl rfl ?_)))))))
 refine bK rfl rfl (aV (i:=3) (n:=0) (m:=2) rfl (cVq rfl) rfl (bE rfl rfl rfl rfl rfl rfl rfl rfl rfl (aA rfl (aA rfl (R_e (W_d (by exact (kK rfl nK)) (aI uS rfl ?_)))))))
 refine aJ rfl rfl rfl rfl (kU (bL (rVq (V.agg [(iV 5),(iV 0),(V.sl [[(iV 2),(iV 1),V.nilsl],[(iV 3),(iV 0),V.nilsl]])])) eB) aTW (iK (by rfl) rfl) (by simp) (Or.inl (by simp)) (aI aSY rfl (aA rfl (bK rfl rfl (bK rfl rfl (bK rfl rfl (aV (i:=6) (n:=0) (m:=2) rfl (cVq rfl) rfl ?_)))))))
 refine bE rfl rfl rfl rfl rfl rfl rfl rfl rfl (aA rfl (aA rfl (R_e ?_)))
 refine jD (fun T H=>T 3=(mPq 3)∧T 4=(V.bool true)∧T 5=(iV 0)∧T 6=(mPq 6)∧T 7=(V.bool true)∧T 8=(iV 0)∧T 10=(V.bool false)∧T 11=(iV 0)∧H 1=uZ∧H 2=vI∧H 3=vQ∧H 6=vF∧H 9=vR∧True) ?_ ?_
 ·
  refine aI uS rfl (aW rfl rfl (kU (bL (rVq (V.agg [(iV 3),(iV 3),V.nilsl])) eB) aSg (iK (by rfl) rfl) (by simp) (Or.inl (by simp)) (aI aSi rfl (aA rfl (bK rfl rfl (bK rfl rfl (bK rfl rfl ?_)))))))
  refine aV (i:=9) (n:=0) (m:=2) rfl (cVq rfl) rfl (bE rfl rfl rfl rfl rfl rfl rfl rfl rfl (aA rfl (aA rfl ?_)))
  exact dZ ⟨rfl,rfl,rfl,rfl,rfl,rfl,rfl,rfl,rfl,rfl,rfl,rfl,rfl,trivial⟩
 intro T H ⟨t3,t4,t5,t6,t7,t8,t10,t11,h1,h2,h3,h6,h9,_⟩
 refine W_r (aA t4 (aA rfl (aE rfl (aA t5 (aE rfl (aX rfl rfl (aS rfl rfl ?_)))))))
 refine aA rfl ?_
 refine aT 5 (fun T H=>T 3=(mPq 3)∧T 6=(mPq 6)∧T 7=(V.bool true)∧T 8=(iV 0)∧T 10=(V.bool false)∧T 11=(iV 0)∧T 51=(V.bool (decide (((0:Int)=(0:Int))∧(([0,1])=([0,1])))))∧H 1=uZ∧H 2=vI∧H 3=vQ∧H 6=vF∧H 9=vR∧True) ?_ ?_
 ·
  by_cases g1:(0:Int)=(0:Int)
  ·
   refine aE (edT g1 rfl) (aL t3 h3 (aE (edT g1 rfl) (aJ rfl h3 rfl rfl (aE (edT g1 rfl) (aR rfl rfl (aE (edT g1 rfl) (aI (mJ ([0,1]) ([0,1])) rfl ?_)))))))
   refine aS (edT g1 rfl) rfl ?_
   exact ⟨t3,t6,t7,t8,t10,t11,(dH g1),h1,h2,h3,h6,h9,trivial⟩
  ·
   refine G_n (edF g1 rfl) (G_n (edF g1 rfl) (G_n (edF g1 rfl) (G_n (edF g1 rfl) (aU (edF g1 rfl) rfl ?_))))
   exact ⟨t3,t6,t7,t8,t10,t11,(dG g1),h1,h2,h3,h6,h9,trivial⟩
 intro T H ⟨t3,t6,t7,t8,t10,t11,t51,h1,h2,h3,h6,h9,_⟩
 refine aA t51 ?_
 refine aT 5 (fun T H=>T 6=(mPq 6)∧T 7=(V.bool true)∧T 8=(iV 0)∧T 10=(V.bool false)∧T 11=(iV 0)∧T 57=(V.bool (decide aF3))∧H 1=uZ∧H 2=vI∧H 3=vQ∧H 6=vF∧H 9=vR∧True) ?_ ?_
 ·
  by_cases g2:((0:Int)=(0:Int))∧(([0,1])=([0,1]))
  ·
   refine aE (edT g2 rfl) (aL t3 h3 (aE (edT g2 rfl) (aJ rfl h3 rfl rfl (aE (edT g2 rfl) (aR rfl rfl (aE (edT g2 rfl) (aI (mJ ([1,2]) ([1,2])) rfl ?_)))))))
   refine aS (edT g2 rfl) rfl ?_
   exact ⟨t6,t7,t8,t10,t11,(dH g2),h1,h2,h3,h6,h9,trivial⟩
  ·
   refine G_n (edF g2 rfl) (G_n (edF g2 rfl) (G_n (edF g2 rfl) (G_n (edF g2 rfl) (aU (edF g2 rfl) rfl ?_))))
   exact ⟨t6,t7,t8,t10,t11,(dG g2),h1,h2,h3,h6,h9,trivial⟩
 intro T H ⟨t6,t7,t8,t10,t11,t57,h1,h2,h3,h6,h9,_⟩
 refine aA t57 ?_
 refine aT 2 (fun T H=>T 6=(mPq 6)∧T 8=(iV 0)∧T 10=(V.bool false)∧T 11=(iV 0)∧T 60=(V.bool (decide aF3))∧H 1=uZ∧H 2=vI∧H 3=vQ∧H 6=vF∧H 9=vR∧True) ?_ ?_
 ·
  by_cases g3:(((0:Int)=(0:Int))∧(([0,1])=([0,1])))∧(([1,2])=([1,2]))
  ·
   refine aE (edT g3 rfl) (aA t7 (aS (edT g3 rfl) rfl ?_))
   exact ⟨t6,t8,t10,t11,(aNq g3),h1,h2,h3,h6,h9,trivial⟩
  ·
   refine G_n (edF g3 rfl) (aU (edF g3 rfl) rfl ?_)
   exact ⟨t6,t8,t10,t11,(aNz g3),h1,h2,h3,h6,h9,trivial⟩
 intro T H ⟨t6,t8,t10,t11,t60,h1,h2,h3,h6,h9,_⟩
 refine aA t60 ?_
 refine aT 3 (fun T H=>T 6=(mPq 6)∧T 10=(V.bool false)∧T 11=(iV 0)∧T 64=(V.bool (decide zC))∧H 1=uZ∧H 2=vI∧H 3=vQ∧H 6=vF∧H 9=vR∧True) ?_ ?_
 ·
  by_cases g4:(((0:Int)=(0:Int))∧(([0,1])=([0,1])))∧(([1,2])=([1,2]))
  ·
   refine aE (edT g4 rfl) (aA t8 (aE (edT g4 rfl) (aX rfl rfl (aS (edT g4 rfl) rfl ?_))))
   exact ⟨t6,t10,t11,(dH g4),h1,h2,h3,h6,h9,trivial⟩
  ·
   refine G_n (edF g4 rfl) (G_n (edF g4 rfl) (aU (edF g4 rfl) rfl ?_))
   exact ⟨t6,t10,t11,(dG g4),h1,h2,h3,h6,h9,trivial⟩
 intro T H ⟨t6,t10,t11,t64,h1,h2,h3,h6,h9,_⟩
 refine aA t64 ?_
 refine aT 5 (fun T H=>T 10=(V.bool false)∧T 11=(iV 0)∧T 70=(V.bool (decide (zC∧(([1])=([1])))))∧H 1=uZ∧H 2=vI∧H 3=vQ∧H 6=vF∧H 9=vR∧True) ?_ ?_
 ·
  by_cases g5:aF3∧((0:Int)=(0:Int))
  ·
   refine aE (edT g5 rfl) (aL t6 h6 (aE (edT g5 rfl) (aJ rfl h6 rfl rfl (aE (edT g5 rfl) (aR rfl rfl (aE (edT g5 rfl) (aI (mJ ([1]) ([1])) rfl ?_)))))))
   refine aS (edT g5 rfl) rfl ?_
   exact ⟨t10,t11,(dH g5),h1,h2,h3,h6,h9,trivial⟩
  ·
   refine G_n (edF g5 rfl) (G_n (edF g5 rfl) (G_n (edF g5 rfl) (G_n (edF g5 rfl) (aU (edF g5 rfl) rfl ?_))))
   exact ⟨t10,t11,(dG g5),h1,h2,h3,h6,h9,trivial⟩
 intro T H ⟨t10,t11,t70,h1,h2,h3,h6,h9,_⟩
 refine aA t70 ?_
 refine aT 3 (fun T H=>T 11=(iV 0)∧T 74=(V.bool (decide (zC∧(([1])=([1])))))∧H 1=uZ∧H 2=vI∧H 3=vQ∧H 6=vF∧H 9=vR∧True) ?_ ?_
 ·
  by_cases g6:zC∧(([1])=([1]))
  ·
   refine aE (edT g6 rfl) (aA t10 (aE (edT g6 rfl) (eL rfl (aS (edT g6 rfl) rfl ?_))))
   exact ⟨t11,(aNq g6),h1,h2,h3,h6,h9,trivial⟩
  ·
   refine G_n (edF g6 rfl) (G_n (edF g6 rfl) (aU (edF g6 rfl) rfl ?_))
   exact ⟨t11,(aNz g6),h1,h2,h3,h6,h9,trivial⟩
 intro T H ⟨t11,t74,h1,h2,h3,h6,h9,_⟩
 refine aA t74 ?_
 refine aT 3 (fun T H=>T 78=(V.bool (decide ((zC∧(([1])=([1])))∧((0:Int)=(0:Int)))))∧H 1=uZ∧H 2=vI∧H 3=vQ∧H 6=vF∧H 9=vR∧True) ?_ ?_
 ·
  by_cases g7:zC∧(([1])=([1]))
  ·
   refine aE (edT g7 rfl) (aA t11 (aE (edT g7 rfl) (aX rfl rfl (aS (edT g7 rfl) rfl ?_))))
   exact ⟨(dH g7),h1,h2,h3,h6,h9,trivial⟩
  ·
   refine G_n (edF g7 rfl) (G_n (edF g7 rfl) (aU (edF g7 rfl) rfl ?_))
   exact ⟨(dG g7),h1,h2,h3,h6,h9,trivial⟩
 intro T H ⟨t78,h1,h2,h3,h6,h9,_⟩
 refine aA t78 (R_e (aO ?_))
 refine bH (rVq (V.bool (decide ((zC∧(([1])=([1])))∧((0:Int)=(0:Int)))))) (aZ ?_)
 · decide+kernel
end Go.Proofs.YteehaobohaecmaaGreatDoor
namespace Go.Proofs.YteehaobohaecmaaGreatDoor
open Go Go.Proofs
def aT9:List SO:=[
 qL 24 3 3,
 sO 25 (.call false 12 [.t 24]),
 qM 23 25,
 qE 26 23 0,
 qE 27 23 1,
 sO 9 (.alloc 24 zFq),
 sN (.store 3 (.t 9) (.t 26)),
 qM 10 27]
def aP5:List SO:=[
 qL 32 4 2,
 qL 33 3 9,
 sO 34 (.call false 54 [.t 32,.t 33]),
 qE 35 34 0,
 qE 36 34 1,
 qE 37 34 2,
 sN (.store 2 (.t 4) (.t 35)),
 qM 5 36,
 qM 6 37]
def s24:SF:=⟨38,[.cell 4 true 2,.tmp 5,.tmp 6],.seq (.reg [sO 2 (.box 50 4 (.t 0)),sO 3 (.box 24 3 (.t 1)),sO 4 (.alloc 54 [.nilsl,.nilsl]),sO 5 (.mv (.c (.bool false))),qI 6 0]) (.seq (.seq (.reg [qL 11 4 2,sO 12 (.call false 53 [.t 11]),qM 7 12]) (.seq (.reg [qM 13 7,qC 14 .neq 13 0]) (.cond (.t 14) (.seq (.reg [sO 15 (.build [.nilsl,.nilsl] []),qM 16 7,sN (.store 2 (.t 4) (.t 15)),sO 5 (.mv (.c (.bool false))),qM 6 16]) (.ret)) (.skip)))) (.seq (.seq (.reg [qL 17 3 3,sO 18 (.call false 28 [.t 17]),qM 8 18]) (.seq (.reg [qM 19 8,qC 20 .neq 19 0]) (.cond (.t 20) (.seq (.reg [sO 21 (.build [.nilsl,.nilsl] []),qM 22 8,sN (.store 2 (.t 4) (.t 21)),sO 5 (.mv (.c (.bool false))),qM 6 22]) (.ret)) (.skip)))) (.seq (.reg aT9) (.seq (.seq (.reg [qM 28 10,qC 29 .neq 28 0]) (.cond (.t 29) (.seq (.reg [sO 30 (.build [.nilsl,.nilsl] []),qM 31 10,sN (.store 2 (.t 4) (.t 30)),sO 5 (.mv (.c (.bool false))),qM 6 31]) (.ret)) (.skip))) (.seq (.reg aP5) (.ret))))))⟩
theorem aQk:bJ Tryz.prog ⟨oEq,[],[],[]⟩ Tryz.f24=some s24:=by kernel_rfl
def aSS:List SO:=[
 qL 10 3 1,
 sO 11 (.call false 39 [.t 10,.c (.bool false)]),
 sO 12 (.call false 38 [.t 11]),
 qE 13 12 0,
 qE 14 12 1,
 sN (.store 3 (.t 2) (.t 13)),
 qM 3 14]
def s12:SF:=⟨15,[.cell 2 true 3,.tmp 3],.seq (.reg [sO 1 (.box 24 3 (.t 0)),sO 2 (.alloc 24 zFq),qI 3 0]) (.seq (.seq (.reg [qL 4 3 1,sO 5 (.call false 28 [.t 4]),qC 6 .neq 5 0]) (.cond (.t 6) (.seq (.reg [sO 7 (.build zFq []),qL 8 3 1,sO 9 (.call false 28 [.t 8]),sN (.store 3 (.t 2) (.t 7)),qM 3 9]) (.ret)) (.skip))) (.seq (.reg aSS) (.ret)))⟩
theorem aPL:bJ Tryz.prog ⟨oEq,[],[],[]⟩ Tryz.f12=some s12:=by kernel_rfl
def aR3:List SO:=[
 qL 6 3 1,
 sO 7 (.call false 55 [.t 6,.c (.int .i64 1),.c (.int .i64 0)]),
 qM 5 7,
 qE 8 5 0,
 qE 9 5 1,
 qM 3 8,
 qM 4 9]
def s28:SF:=⟨11,[.tmp 2],.seq (.reg [sO 1 (.box 24 3 (.t 0)),qI 2 0]) (.seq (.reg aR3) (.seq (.reg [qM 10 4,qM 2 10]) (.ret)))⟩
theorem aQb:bJ Tryz.prog ⟨oEq,[],[],[]⟩ Tryz.f28=some s28:=by kernel_rfl
def aRw:List SO:=[
 qF 37 2 3,
 ql 38 37,
 qM 39 9,
 qA 40 3 38 39,
 qL 41 3 40,
 qM 42 1,
 qC 43 .add 42 1,
 qM 44 8,
 sO 45 (.call false 55 [.t 41,.t 43,.t 44]),
 qM 36 45,
 qE 46 36 0,
 qE 47 36 1,
 qM 10 46,
 qM 11 47]
def aNs:SC:=.seq (.seq (.reg [qM 29 9,qF 30 2 3,ql 31 30,qN 32 31,qP 33 .lss 29 32]) (.cond (.t 33) (.skip) (.exit 1))) (.seq (.block 2 (.seq (.reg aRw) (.seq (.seq (.reg [qM 48 11,qC 49 .neq 48 0]) (.cond (.t 49) (.seq (.reg [qM 50 10,qM 51 11,qM 6 50,qM 7 51]) (.ret)) (.skip))) (.reg [qM 52 10,qM 8 52])))) (.reg [qM 34 9,qC 35 .add 34 1,qM 9 35]))
def s55:SF:=⟨54,[.tmp 6,.tmp 7],.seq (.reg [sO 3 (.box 24 3 (.t 0)),qI 6 0,qI 7 0]) (.seq (.reg [qM 12 2,qC 13 .add 12 1,qM 8 13]) (.seq (.block 0 (.seq (.reg [qM 15 8,qC 16 .gtr 15 4096,qM 14 16]) (.cond (.t 14) (.seq (.reg [qM 17 8,qM 6 17,qI 7 11]) (.ret)) (.seq (.reg [qM 19 1,qC 20 .gtr 19 64,qM 18 20]) (.cond (.t 18) (.seq (.reg [qM 21 8,qM 6 21,qI 7 16]) (.ret)) (.seq (.reg [qL 23 3 3,sO 24 (.call false 79 [.t 23]),qC 25 .neq 24 0,qM 22 25]) (.cond (.t 22) (.seq (.reg [qM 26 8,qL 27 3 3,sO 28 (.call false 79 [.t 27]),qM 6 26,qM 7 28]) (.ret)) (.skip)))))))) (.seq (.seq (.reg [qI 9 0]) (.block 1 (.loop aNs))) (.seq (.reg [qM 53 8,qM 6 53,qI 7 0]) (.ret)))))⟩
theorem aRh:bJ Tryz.prog ⟨oEq,[],[],[]⟩ Tryz.f55=some s55:=by kernel_rfl
def aO2:List SO:=[
 qF 33 0 1,
 ql 34 33,
 qC 35 .eql 34 2,
 qM 36 35,
 ⟨some (36,false),some 37,.fld 0 (.t 1)⟩,
 ⟨some (36,false),some 38,.load false 1 (.t 37)⟩,
 ⟨some (36,false),some 39,.bin .eql (.t 38) (.c (.int .i64 3))⟩,
 sO 40 (.pick (.t 36) (.c (.bool true)) (.t 39)),
 qM 5 40]
def aPl:List SO:=[
 qM 42 4,
 sO 43 (.un .not (.t 42)),
 qM 44 43,
 ⟨some (44,false),some 45,.mv (.t 5)⟩,
 ⟨some (44,false),some 46,.un .not (.t 45)⟩,
 ⟨some (44,false),some 47,.mv (.t 46)⟩,
 ⟨some (47,true),some 48,.fld 1 (.t 1)⟩,
 ⟨some (47,true),some 49,.load false 1 (.t 48)⟩,
 ⟨some (47,true),some 50,.bin .neq (.t 49) (.c (.int .i64 0))⟩,
 ⟨some (44,false),some 51,.pick (.t 47) (.t 50) (.c (.bool false))⟩,
 sO 52 (.pick (.t 44) (.c (.bool true)) (.t 51)),
 qM 41 52]
def aQH:List SO:=[
 qF 54 0 1,
 ql 55 54,
 qC 56 .eql 55 2,
 qM 57 56,
 ⟨some (57,true),some 58,.fld 1 (.t 1)⟩,
 ⟨some (57,true),some 59,.load false 1 (.t 58)⟩,
 ⟨some (57,true),some 60,.bin .lss (.t 59) (.c (.int .i64 0))⟩,
 ⟨some (57,true),some 61,.mv (.t 60)⟩,
 ⟨some (61,false),some 62,.fld 1 (.t 1)⟩,
 ⟨some (61,false),some 63,.load false 1 (.t 62)⟩,
 ⟨some (61,false),some 64,.bin .geq (.t 63) (.c (.int .i64 64))⟩,
 ⟨some (57,true),some 65,.pick (.t 61) (.c (.bool true)) (.t 64)⟩,
 sO 66 (.pick (.t 57) (.t 65) (.c (.bool false))),
 qM 53 66]
def aRq:List SO:=[
 qF 67 0 1,
 ql 68 67,
 qC 69 .eql 68 3,
 qM 70 69,
 ⟨some (70,true),some 71,.fld 1 (.t 1)⟩,
 ⟨some (70,true),some 72,.load false 1 (.t 71)⟩,
 ⟨some (70,true),some 73,.bin .lss (.t 72) (.c (.int .i64 0))⟩,
 ⟨some (70,true),some 74,.mv (.t 73)⟩,
 ⟨some (74,false),some 75,.fld 1 (.t 1)⟩,
 ⟨some (74,false),some 76,.load false 1 (.t 75)⟩,
 ⟨some (74,false),some 77,.bin .gtr (.t 76) (.c (.int .i64 1048576))⟩,
 ⟨some (70,true),some 78,.pick (.t 74) (.c (.bool true)) (.t 77)⟩,
 sO 79 (.pick (.t 70) (.t 78) (.c (.bool false))),
 qM 53 79]
def s79:SF:=⟨80,[.tmp 2],.seq (.reg [sO 1 (.box 24 3 (.t 0)),qI 2 0]) (.seq (.reg [qF 6 2 1,ql 7 6,qN 8 7,qM 3 8]) (.seq (.reg [sO 4 (.mv (.c (.bool false)))]) (.seq (.seq (.reg [qF 9 0 1,ql 10 9]) (.block 0 (.seq (.seq (.reg [qC 12 .eql 10 1,qM 11 12]) (.cond (.t 11) (.skip) (.seq (.reg [qC 13 .eql 10 2,qM 11 13]) (.cond (.t 11) (.skip) (.reg [qC 14 .eql 10 3,qM 11 14]))))) (.cond (.t 11) (.reg [qM 15 3,qC 16 .eql 15 0,qM 4 16]) (.seq (.seq (.reg [qC 18 .eql 10 4,qM 17 18]) (.cond (.t 17) (.skip) (.seq (.reg [qC 19 .eql 10 7,qM 17 19]) (.cond (.t 17) (.skip) (.reg [qC 20 .eql 10 9,qM 17 20]))))) (.cond (.t 17) (.reg [qM 21 3,qC 22 .eql 21 1,qM 4 22]) (.seq (.seq (.reg [qC 24 .eql 10 5,qM 23 24]) (.cond (.t 23) (.skip) (.reg [qC 25 .eql 10 6,qM 23 25]))) (.cond (.t 23) (.reg [qM 26 3,qC 27 .geq 26 2,qM 4 27]) (.seq (.seq (.reg [qC 29 .eql 10 8,qM 28 29]) (.cond (.t 28) (.skip) (.reg [qC 30 .eql 10 10,qM 28 30]))) (.cond (.t 28) (.reg [qM 31 3,qC 32 .eql 31 2,qM 4 32]) (.skip))))))))))) (.seq (.reg aO2) (.seq (.block 1 (.seq (.reg aPl) (.cond (.t 41) (.seq (.reg [qI 2 1]) (.ret)) (.seq (.seq (.reg aQH) (.cond (.t 53) (.skip) (.reg aRq))) (.cond (.t 53) (.seq (.reg [qI 2 2]) (.ret)) (.skip)))))) (.seq (.reg [qI 2 0]) (.ret)))))))⟩
theorem aQK:bJ Tryz.prog ⟨oEq,[],[],[]⟩ Tryz.f79=some s79:=by kernel_rfl
end Go.Proofs.YteehaobohaecmaaGreatDoor
namespace Go.Proofs.YteehaobohaecmaaGreatDoor
open Go
def mU (f:Fm):Bool:=if f.op=1∨f.op=2∨f.op=3 then decide ((f.kids.length:Int)=0) else if f.op=4∨f.op=7∨f.op=9 then decide ((f.kids.length:Int)=1) else if f.op=5∨f.op=6 then decide (2≤(f.kids.length:Int)) else if f.op=8∨f.op=10 then decide ((f.kids.length:Int)=2) else false
section
variable {f:Fm}
theorem aGo (h:f.op=1∨f.op=2∨f.op=3):mU f=decide ((f.kids.length:Int)=0):=if_pos h
theorem aGH (h:f.op=4∨f.op=7∨f.op=9):mU f=decide ((f.kids.length:Int)=1):=by unfold mU; rw [if_neg (by omega),if_pos h]
theorem aJg (h:f.op=5∨f.op=6):mU f=decide (2≤(f.kids.length:Int)):=by unfold mU; rw [if_neg (by omega),if_neg (by omega),if_pos h]
theorem aKu (h:f.op=8∨f.op=10):mU f=decide ((f.kids.length:Int)=2):=by unfold mU; rw [if_neg (by omega),if_neg (by omega),if_neg (by omega),if_pos h]
theorem aNS (h: ¬(1≤f.op∧f.op≤10)):mU f=false:=by unfold mU; rw [if_neg (by omega),if_neg (by omega),if_neg (by omega),if_neg (by omega)]
theorem aFX:mU f=true↔ ¬(f.op < 1∨10 < f.op∨(f.kids.length:Int) < kLo f.op∨(0≤kHi f.op∧kHi f.op < f.kids.length)):=by
  by_cases h:1≤f.op∧f.op≤10
  · have hc:(f.op=1∨f.op=2∨f.op=3)∨(f.op=4∨f.op=7∨f.op=9)∨(f.op=5∨f.op=6)∨(f.op=8∨f.op=10):=by omega
    rcases hc with q|q|q|q
    · rw [aGo q,decide_eq_true_eq]; simp only [kLo,kHi]; repeat (first|omega|split)
    · rw [aGH q,decide_eq_true_eq]; simp only [kLo,kHi]; repeat (first|omega|split)
    · rw [aJg q,decide_eq_true_eq]; simp only [kLo,kHi]; repeat (first|omega|split)
    · rw [aKu q,decide_eq_true_eq]; simp only [kLo,kHi]; repeat (first|omega|split)
  · rw [aNS h]
    constructor
    · intro e; cases e
    · intro e; exact absurd (by omega) e
theorem aQN (h:mU f=false∨(¬(f.op=2∨f.op=3)∧f.arg≠0)):rgt f=1:=by
  unfold rgt
  rw [if_pos]
  rcases h with h|h
  · have: ¬mU f=true:=by rw [h]; decide
    rw [aFX] at this
    have:=Decidable.of_not_not this
    omega
  · omega
theorem aOT (h: ¬(mU f=false∨(¬(f.op=2∨f.op=3)∧f.arg≠0))):rgt f=if (f.op=2∧(f.arg < 0∨64≤f.arg))∨(f.op=3∧(f.arg < 0∨1048576 < f.arg)) then 2 else 0:=by
  unfold rgt
  rw [if_neg]
  have h1:mU f=true:=by
    cases q:mU f with
    |true=>rfl
    |false=>exact absurd (.inl q) h
  have:=aFX.1 h1
  have h2: ¬(¬(f.op=2∨f.op=3)∧f.arg≠0):=fun e=>h (.inr e)
  omega
end
end Go.Proofs.YteehaobohaecmaaGreatDoor
namespace Go.Proofs.YteehaobohaecmaaGreatDoor
open Go Go.Proofs
theorem vD (f:Fm):aQ Tryz.prog 79 [(V.agg (rFq f))] (iV (rgt f)):=by
 refine pW Tryz.func79 aQK fun hB=>?_
 unfold s79
 dsimp only
 refine W_r (cA (i:=1) (n:=0) (m:=3) (cs:=(rFq f)) rfl (cVq rfl) rfl rfl rfl (aA rfl (R_e (W_r (aL rfl rfl (aJ rfl rfl rfl rfl (bF rfl ?_)))))))
 refine aA rfl (R_e (W_r (aA rfl (R_e (aB (W_r (aL rfl rfl ?_)))))))
 refine aJ rfl rfl rfl rfl (R_e ?_)
 refine aBT (fun T H=>T 1=(mPq 1)∧T 4=(V.bool (mU f))∧H 1=(bFq f)∧True) (fun Q1 n1 x1 y1 z1=>?_) ?_
 ·
  refine aB (W_r (aX rfl rfl (aA rfl (R_e ?_))))
  refine aH rfl (fun c2=>?_) fun c2=>?_
  ·
   refine aC ?_
   refine bZ rfl (fun c3=>?_) fun c3=>?_
   ·
    refine W_t (aA rfl (aX rfl rfl (aA rfl (R_e ?_))))
    exact n1 _ _ ⟨rfl,(eTq (rVq (V.bool (decide (((f.kids.length:Nat):Int)=(0:Int))))) (by (rw [aGo (by omega)]; done))),rfl,trivial⟩
   · exact (c3 c2).elim
  refine aB (W_r (aX rfl rfl (aA rfl (R_e ?_))))
  refine aH rfl (fun c4=>?_) fun c4=>?_
  ·
   refine aC ?_
   refine bZ rfl (fun c5=>?_) fun c5=>?_
   ·
    refine W_t (aA rfl (aX rfl rfl (aA rfl (R_e ?_))))
    exact n1 _ _ ⟨rfl,(eTq (rVq (V.bool (decide (((f.kids.length:Nat):Int)=(0:Int))))) (by (rw [aGo (by omega)]; done))),rfl,trivial⟩
   · exact (c5 c4).elim
  refine W_r (aX rfl rfl (aA rfl (R_e ?_)))
  refine bZ rfl (fun c6=>?_) fun c6=>?_
  ·
   refine W_t (aA rfl (aX rfl rfl (aA rfl (R_e ?_))))
   exact n1 _ _ ⟨rfl,(eTq (rVq (V.bool (decide (((f.kids.length:Nat):Int)=(0:Int))))) (by (rw [aGo (by omega)]; done))),rfl,trivial⟩
  refine aB (W_r (aX rfl rfl (aA rfl (R_e ?_))))
  refine aH rfl (fun c7=>?_) fun c7=>?_
  ·
   refine aC ?_
   refine bZ rfl (fun c8=>?_) fun c8=>?_
   ·
    refine W_t (aA rfl (aX rfl rfl (aA rfl (R_e ?_))))
    exact n1 _ _ ⟨rfl,(eTq (rVq (V.bool (decide (((f.kids.length:Nat):Int)=(1:Int))))) (by (rw [aGH (by omega)]; done))),rfl,trivial⟩
   · exact (c8 c7).elim
  refine aB (W_r (aX rfl rfl (aA rfl (R_e ?_))))
  refine aH rfl (fun c9=>?_) fun c9=>?_
  ·
   refine aC ?_
   refine bZ rfl (fun c10=>?_) fun c10=>?_
   ·
    refine W_t (aA rfl (aX rfl rfl (aA rfl (R_e ?_))))
    exact n1 _ _ ⟨rfl,(eTq (rVq (V.bool (decide (((f.kids.length:Nat):Int)=(1:Int))))) (by (rw [aGH (by omega)]; done))),rfl,trivial⟩
   · exact (c10 c9).elim
  refine W_r (aX rfl rfl (aA rfl (R_e ?_)))
  refine bZ rfl (fun c11=>?_) fun c11=>?_
  ·
   refine W_t (aA rfl (aX rfl rfl (aA rfl (R_e ?_))))
   exact n1 _ _ ⟨rfl,(eTq (rVq (V.bool (decide (((f.kids.length:Nat):Int)=(1:Int))))) (by (rw [aGH (by omega)]; done))),rfl,trivial⟩
  refine aB (W_r (aX rfl rfl (aA rfl (R_e ?_))))
  refine aH rfl (fun c12=>?_) fun c12=>?_
  ·
   refine aC ?_
   refine bZ rfl (fun c13=>?_) fun c13=>?_
   ·
    refine W_t (aA rfl (jU rfl rfl (aA rfl (R_e ?_))))
    exact n1 _ _ ⟨rfl,(eTq (rVq (V.bool (decide ((2:Int)≤((f.kids.length:Nat):Int))))) (by (rw [aJg (by omega)]; done))),rfl,trivial⟩
   · exact (c13 c12).elim
  refine W_r (aX rfl rfl (aA rfl (R_e ?_)))
  refine bZ rfl (fun c14=>?_) fun c14=>?_
  ·
   refine W_t (aA rfl (jU rfl rfl (aA rfl (R_e ?_))))
   exact n1 _ _ ⟨rfl,(eTq (rVq (V.bool (decide ((2:Int)≤((f.kids.length:Nat):Int))))) (by (rw [aJg (by omega)]; done))),rfl,trivial⟩
  refine aB (W_r (aX rfl rfl (aA rfl (R_e ?_))))
  refine aH rfl (fun c15=>?_) fun c15=>?_
  ·
   refine aC ?_
   refine bZ rfl (fun c16=>?_) fun c16=>?_
   ·
    refine W_t (aA rfl (aX rfl rfl (aA rfl (R_e ?_))))
    exact n1 _ _ ⟨rfl,(eTq (rVq (V.bool (decide (((f.kids.length:Nat):Int)=(2:Int))))) (by (rw [aKu (by omega)]; done))),rfl,trivial⟩
   · exact (c16 c15).elim
  refine W_r (aX rfl rfl (aA rfl (R_e ?_)))
  refine bZ rfl (fun c17=>?_) fun c17=>?_
  ·
   refine W_t (aA rfl (aX rfl rfl (aA rfl (R_e ?_))))
   exact n1 _ _ ⟨rfl,(eTq (rVq (V.bool (decide (((f.kids.length:Nat):Int)=(2:Int))))) (by (rw [aKu (by omega)]; done))),rfl,trivial⟩
  refine cN ?_
  exact n1 _ _ ⟨rfl,(eTq (rVq (V.bool false)) (by (rw [aNS (by omega)]; done))),rfl,trivial⟩
 intro T H ⟨t1,t4,h1,_⟩
 refine W_r (aL t1 h1 (aJ rfl h1 rfl rfl (aX rfl rfl (aA rfl ?_))))
 refine aT 4 (fun T H=>T 1=(mPq 1)∧T 4=(V.bool (mU f))∧T 40=(V.bool (decide ((f.op=(2:Int))∨(f.op=(3:Int)))))∧H 1=(bFq f)∧True) ?_ ?_
 ·
  by_cases g18:f.op=(2:Int)
  ·
   refine G_n (edT g18 rfl) (G_n (edT g18 rfl) (G_n (edT g18 rfl) (aS (edT g18 rfl) rfl ?_)))
   exact ⟨t1,t4,(cV g18),h1,trivial⟩
  ·
   refine aE (edF g18 rfl) (aL t1 h1 (aE (edF g18 rfl) (aJ rfl h1 rfl rfl (aE (edF g18 rfl) (aX rfl rfl (aU (edF g18 rfl) rfl ?_))))))
   exact ⟨t1,t4,(cU g18),h1,trivial⟩
 intro T H ⟨t1,t4,t40,h1,_⟩
 refine aA t40 (R_e (aD fun Q19 n19 x19 y19 z19=>(W_r (aA t4 (eL rfl (aA rfl ?_))))))
 refine aT 8 (fun T H=>T 1=(mPq 1)∧T 52=(V.bool ((!mU f)||decide ((¬((f.op=(2:Int))∨(f.op=(3:Int))))∧(f.arg≠(0:Int)))))∧H 1=(bFq f)∧True) ?_ ?_
 ·
  by_cases g20:(!mU f)=true
  ·
   refine G_n (ebT g20 rfl) (G_n (ebT g20 rfl) (G_n (ebT g20 rfl) (eX (rVq (V.raw undef)) (eX (rVq (V.raw undef)) (eX (rVq (V.raw undef)) (G_n (ebT g20 rfl) (aS (ebT g20 rfl) rfl ?_)))))))
   exact ⟨t1,(aKm g20),h1,trivial⟩
  ·
   refine aE (ebF g20 rfl) (aA rfl (aE (ebF g20 rfl) (yH rfl (aE (ebF g20 rfl) (aA rfl ?_)))))
   refine aT 4 (fun T H=>T 1=(mPq 1)∧T 44=(V.bool false)∧T 51=(V.bool (decide ((¬((f.op=(2:Int))∨(f.op=(3:Int))))∧(f.arg≠(0:Int)))))∧H 1=(bFq f)∧True) ?_ ?_
   ·
    by_cases g21: ¬((f.op=(2:Int))∨(f.op=(3:Int)))
    ·
     refine aE (edT g21 rfl) (aL t1 h1 (aE (edT g21 rfl) (aJ rfl h1 rfl rfl (aE (edT g21 rfl) (cD rfl rfl (aE (ebF g20 rfl) (aS (edT g21 rfl) rfl ?_)))))))
     exact ⟨t1,(ebF g20 rfl),(dH g21),h1,trivial⟩
    ·
     refine G_n (edF g21 rfl) (G_n (edF g21 rfl) (G_n (edF g21 rfl) (aE (ebF g20 rfl) (aU (edF g21 rfl) rfl ?_))))
     exact ⟨t1,(ebF g20 rfl),(dG g21),h1,trivial⟩
   intro T H ⟨t1,t44,t51,h1,_⟩
   refine aU t44 t51 ?_
   exact ⟨t1,(aKv g20),h1,trivial⟩
 intro T H ⟨t1,t52,h1,_⟩
 refine aA t52 (R_e ?_)
 refine lI rfl (fun c22=>?_) (fun c22=>?_)
 ·
  have d1:=aQN (f:=f) (by simpa using c22)
  refine W_r (aA rfl (R_e (aO (y19 _ _ ?_))))
  refine bH (rVq (iV 1)) (aF ?_)
  · exact d1.symm
 have d1:=aOT (f:=f) (by simpa using c22)
 refine aB (W_r (aL t1 h1 (aJ rfl h1 rfl rfl (aX rfl rfl (aA rfl ?_)))))
 refine aT 9 (fun T H=>T 1=(mPq 1)∧T 66=(V.bool (decide ((f.op=(2:Int))∧((f.arg < (0:Int))∨((64:Int)≤f.arg)))))∧H 1=(bFq f)∧True) ?_ ?_
 ·
  by_cases g23:f.op=(2:Int)
  ·
   refine aE (edT g23 rfl) (aL t1 h1 (aE (edT g23 rfl) (aJ rfl h1 rfl rfl (aE (edT g23 rfl) (bO rfl rfl (aE (edT g23 rfl) (aA rfl ?_)))))))
   refine aT 4 (fun T H=>T 1=(mPq 1)∧T 57=(V.bool true)∧T 65=(V.bool (decide ((f.arg < (0:Int))∨((64:Int)≤f.arg))))∧H 1=(bFq f)∧True) ?_ ?_
   ·
    by_cases g24:f.arg < (0:Int)
    ·
     refine G_n (edT g24 rfl) (G_n (edT g24 rfl) (G_n (edT g24 rfl) (aE (edT g23 rfl) (aS (edT g24 rfl) rfl ?_))))
     exact ⟨t1,(edT g23 rfl),(cV g24),h1,trivial⟩
    ·
     refine aE (edF g24 rfl) (aL t1 h1 (aE (edF g24 rfl) (aJ rfl h1 rfl rfl (aE (edF g24 rfl) (jU rfl rfl (aE (edT g23 rfl) (aU (edF g24 rfl) rfl ?_)))))))
     exact ⟨t1,(edT g23 rfl),(cU g24),h1,trivial⟩
   intro T H ⟨t1,t57,t65,h1,_⟩
   refine aS t57 t65 ?_
   exact ⟨t1,(dH g23),h1,trivial⟩
  ·
   refine G_n (edF g23 rfl) (G_n (edF g23 rfl) (G_n (edF g23 rfl) (G_n (edF g23 rfl) (eX (rVq (V.raw undef)) (eX (rVq (V.raw undef)) (eX (rVq (V.raw undef)) (G_n (edF g23 rfl) ?_)))))))
   refine aU (edF g23 rfl) rfl ?_
   exact ⟨t1,(dG g23),h1,trivial⟩
 intro T H ⟨t1,t66,h1,_⟩
 refine aA t66 (R_e ?_)
 refine aH rfl (fun c25=>?_) fun c25=>?_
 ·
  try rw [if_pos (by omega)] at d1
  refine aC ?_
  refine bZ rfl (fun c26=>?_) fun c26=>?_
  ·
   try rw [if_pos (by omega)] at d1
   refine W_r (aA rfl (R_e (aO (y19 _ _ ?_))))
   refine bH (rVq (iV 2)) (aF ?_)
   · exact d1.symm
  · exact (c26 c25).elim
 try rw [if_neg (by omega)] at d1
 refine W_r (aL t1 h1 (aJ rfl h1 rfl rfl (aX rfl rfl (aA rfl ?_))))
 refine aT 9 (fun T H=>T 53=(V.bool (decide ((f.op=(2:Int))∧((f.arg < (0:Int))∨((64:Int)≤f.arg)))))∧T 79=(V.bool (decide ((f.op=(3:Int))∧((f.arg < (0:Int))∨((1048576:Int) < f.arg)))))∧H 1=(bFq f)∧True) ?_ ?_
 ·
  by_cases g27:f.op=(3:Int)
  ·
   refine aE (edT g27 rfl) (aL t1 h1 (aE (edT g27 rfl) (aJ rfl h1 rfl rfl (aE (edT g27 rfl) (bO rfl rfl (aE (edT g27 rfl) (aA rfl ?_)))))))
   refine aT 4 (fun T H=>T 53=(V.bool (decide ((f.op=(2:Int))∧((f.arg < (0:Int))∨((64:Int)≤f.arg)))))∧T 70=(V.bool true)∧T 78=(V.bool (decide ((f.arg < (0:Int))∨((1048576:Int) < f.arg))))∧H 1=(bFq f)∧True) ?_ ?_
   ·
    by_cases g28:f.arg < (0:Int)
    ·
     refine G_n (edT g28 rfl) (G_n (edT g28 rfl) (G_n (edT g28 rfl) (aE (edT g27 rfl) (aS (edT g28 rfl) rfl ?_))))
     exact ⟨rfl,(edT g27 rfl),(cV g28),h1,trivial⟩
    ·
     refine aE (edF g28 rfl) (aL t1 h1 (aE (edF g28 rfl) (aJ rfl h1 rfl rfl (aE (edF g28 rfl) (fI rfl rfl (aE (edT g27 rfl) (aU (edF g28 rfl) rfl ?_)))))))
     exact ⟨rfl,(edT g27 rfl),(cU g28),h1,trivial⟩
   intro T H ⟨t53,t70,t78,h1,_⟩
   refine aS t70 t78 ?_
   exact ⟨t53,(dH g27),h1,trivial⟩
  ·
   refine G_n (edF g27 rfl) (G_n (edF g27 rfl) (G_n (edF g27 rfl) (G_n (edF g27 rfl) (eX (rVq (V.raw undef)) (eX (rVq (V.raw undef)) (eX (rVq (V.raw undef)) (G_n (edF g27 rfl) ?_)))))))
   refine aU (edF g27 rfl) rfl ?_
   exact ⟨rfl,(dG g27),h1,trivial⟩
 intro T H ⟨t53,t79,h1,_⟩
 refine aA t79 (R_e ?_)
 refine bZ rfl (fun c29=>?_) fun c29=>?_
 ·
  try rw [if_pos (by omega)] at d1
  refine W_r (aA rfl (R_e (aO (y19 _ _ ?_))))
  refine bH (rVq (iV 2)) (aF ?_)
  · exact d1.symm
 try rw [if_neg (by omega)] at d1
 refine cN (n19 _ _ (.done (W_r (aA rfl (R_e (aO ?_))))))
 refine bH (rVq (iV 0)) (aF ?_)
 · exact d1.symm
theorem wA (f:Fm) (lv b:Int) (hb:0≤b∧b≤4096) (hl:0≤lv∧lv≤65) (ih: ∀ (g:Fm) (lv b:Int),g.sz < f.sz→0≤b∧b≤4096→0≤lv∧lv≤65→aQ Tryz.prog 55 [(V.agg (rFq g)),(iV lv),(iV b)] (V.tup [(iV ((exm g lv b).1)),(iV ((exm g lv b).2))])):aQ Tryz.prog 55 [(V.agg (rFq f)),(iV lv),(iV b)] (V.tup [(iV ((exm f lv b).1)),(iV ((exm f lv b).2))]):=by
 refine pW Tryz.func55 aRh fun hB=>?_
 unfold s55
 dsimp only
 refine W_r (cA (i:=3) (n:=0) (m:=3) (cs:=(rFq f)) rfl (cVq rfl) rfl rfl rfl (aA rfl (aA rfl (R_e (W_r (aA rfl (nP rfl rfl (by omega) (by omega) ?_)))))))
 refine aA rfl (R_e (aD fun Q1 n1 x1 y1 z1=>(W_r (aA rfl (fI rfl rfl (aA rfl (R_e ?_)))))))
 refine bZ rfl (fun c2=>?_) fun c2=>?_
 ·
  refine W_r (aA rfl (aA rfl (aA rfl (R_e (aO (y1 _ _ ?_))))))
  refine dC (rVq (iV (b+(1:Int)))) (rVq (iV 11)) (aF ?_) (aF ?_)
  · rw [kT,if_pos (by omega)]
  · rw [kT,if_pos (by omega)]
 refine W_r (aA rfl (fI rfl rfl (aA rfl (R_e ?_))))
 refine bZ rfl (fun c3=>?_) fun c3=>?_
 ·
  refine W_r (aA rfl (aA rfl (aA rfl (R_e (aO (y1 _ _ ?_))))))
  refine dC (rVq (iV (b+(1:Int)))) (rVq (iV 16)) (aF ?_) (aF ?_)
  · rw [kT,if_neg (by omega),if_pos (by omega)]
  · rw [kT,if_neg (by omega),if_pos (by omega)]
 refine W_r (aJ rfl rfl rfl rfl (aI (vD f) rfl (cD rfl rfl (aA rfl (R_e ?_)))))
 refine bZ rfl (fun c4=>?_) fun c4=>?_
 ·
  refine W_r (aA rfl (aJ rfl rfl rfl rfl (aI (vD f) rfl (aA rfl (aA rfl (R_e (aO ?_)))))))
  refine y1 _ _ ?_
  refine dC (rVq (iV (b+(1:Int)))) (rVq (iV (rgt f))) (aF ?_) (aF ?_)
  · rw [kT,if_neg (by omega),if_neg (by omega),if_pos (by omega)]
  · rw [kT,if_neg (by omega),if_neg (by omega),if_pos (by omega)]
 refine cN (n1 _ _ (.done (aB (W_r (aA rfl (R_e (aD fun Q5 n5 x5 y5 z5=>?_)))))))
 refine bS (fun mm T H=> ∃ (k:Nat) (n:Int),mm=f.kids.length - k∧T 1=(iV lv)∧T 3=(mPq 3)∧T 8=(iV n)∧T 9=(iV ((k:Nat):Int))∧H 3=(bFq f)∧(k≤f.kids.length)∧(0≤n∧n≤4096)∧(exm f lv b=jO (f.kids.drop k) (lv+1) n)) ?_ ?_
 ·
  refine ⟨_,0,b+1,rfl,rfl,rfl,(eTq (rVq (iV (b+(1:Int)))) (by rfl)),(eTq (rVq (iV 0)) rfl),rfl,?_,?_,?_⟩
  · omega
  · omega
  · rw [kT,if_neg (by omega),if_neg (by omega),if_neg (by omega)]; rfl
 intro mm T H ⟨k,n,hmm,t1,t3,t8,t9,h3,hk,hn,hc⟩ Q6 p16 p26 p36
 unfold aNs
 refine aB (W_r (aA t9 (aL t3 h3 (aJ rfl h3 rfl rfl (bF rfl (bO rfl rfl (R_e ?_)))))))
 refine aH rfl (fun c7=>?_) fun c7=>?_
 ·
  refine aC (aD fun Q8 n8 x8 y8 z8=>(W_r (aL t3 h3 (aJ rfl h3 rfl rfl (aA t9 (bT (i:=k) (rVq (V.sl (List.map cF f.kids))) (rNq k) (by omega) (bP _) rfl (aG rfl rfl ?_)))))))
  refine aA t1 (nP rfl rfl (by omega) (by omega) (aA t8 (aI (ih (nth f.kids k) (lv+(1:Int)) n skq (by omega) (by omega)) rfl (aA rfl (bK rfl rfl (bK rfl rfl (aA rfl ?_)))))))
  refine aA rfl (R_e (aB (W_r (aA rfl (cD rfl rfl (R_e ?_))))))
  refine aH rfl (fun c9=>?_) fun c9=>?_
  ·
   have q0:=pJ (nth f.kids k) (lv+1) n
   refine aB (W_r (aA rfl (aA rfl (aA rfl (aA rfl (R_e (aM ?_)))))))
   refine y8 _ _ (p26 _ _ (y5 _ _ ?_))
   refine dC (rVq (iV ((exm (nth f.kids k) (lv+(1:Int)) n).1))) (rVq (iV ((exm (nth f.kids k) (lv+(1:Int)) n).2))) (aF ?_) (aF ?_)
   · rw [hc,yA (by omega) (by omega)]
   · rw [hc,yA (by omega) (by omega)]
  have q0:=pJ (nth f.kids k) (lv+1) n
  refine aC (W_t (aA rfl (aA rfl (R_e (n8 _ _ (.done (W_t ?_)))))))
  refine aA t9 (bC rfl (rNq 1) (by omega) (aA rfl (R_e ?_)))
  refine p16 _ _ _ ?_ ⟨(k+1),(exm (nth f.kids k) (lv+1) n).1,rfl,t1,t3,(eTq (rVq (iV ((exm (nth f.kids k) (lv+(1:Int)) n).1))) (by rfl)),(eTq (rNq (k+1)) (by rfl)),h3,?_,?_,?_⟩
  · omega
  · omega
  · exact ⟨by omega,q0.2 (by omega)⟩
  · rw [hc,aGF (by omega) (by omega)]
 refine aN (p36 _ _ _ (x5 _ _ (.done (W_r (aA t8 (aA rfl (aA rfl ?_)))))))
 refine R_e (aO ?_)
 refine dC (rVq (iV n)) (rVq (iV 0)) (aF ?_) (aF ?_)
 · rw [hc,yD (by omega)]
 · rw [hc,yD (by omega)]
theorem aEg (f:Fm) (lv b:Int) (hb:0≤b∧b≤4096) (hl:0≤lv∧lv≤65):aQ Tryz.prog 55 [(V.agg (rFq f)),(iV lv),(iV b)] (V.tup [(iV ((exm f lv b).1)),(iV ((exm f lv b).2))]):=by
  have key: ∀ (mm:Nat) (f:Fm) (lv b:Int),f.sz < mm→0≤b∧b≤4096→0≤lv∧lv≤65→aQ Tryz.prog 55 [(V.agg (rFq f)),(iV lv),(iV b)] (V.tup [(iV ((exm f lv b).1)),(iV ((exm f lv b).2))]):=by
    intro mm
    induction mm with
    |zero=>intro f lv b hlt; exact absurd hlt (Nat.not_lt_zero _)
    | succ mm ih =>
      intro f lv b hlt hb hl
      exact wA f lv b hb hl fun f2 lv2 b2 hlt2=>ih f2 lv2 b2 (by omega)
  exact key (f.sz+1) f lv b (Nat.lt_succ_self _) hb hl
theorem eH (f:Fm):aQ Tryz.prog 28 [(V.agg (rFq f))] (iV (cW f)):=by
 refine pW Tryz.func28 aQb fun hB=>?_
 unfold s28
 dsimp only
 refine W_r (cA (i:=1) (n:=0) (m:=3) (cs:=(rFq f)) rfl (cVq rfl) rfl rfl rfl (aA rfl (R_e (W_r (aJ rfl rfl rfl rfl (aI (aEg f (1:Int) (0:Int) (by omega) (by omega)) rfl (aA rfl ?_)))))))
 refine bK rfl rfl (bK rfl rfl (aA rfl (aA rfl (R_e (W_r (aA rfl (aA rfl ?_)))))))
 refine R_e (aO ?_)
 refine bH (rVq (iV ((exm f (1:Int) (0:Int)).2))) (aF ?_)
 · rfl
def aRW:List SO:=[
 qL 7 3 1,
 sO 8 (.call false 64 [.t 7]),
 qM 6 8,
 qE 9 6 0,
 qE 10 6 1,
 sO 4 (.alloc 24 zFq),
 sN (.store 3 (.t 4) (.t 9)),
 qM 5 10]
def s38:SF:=⟨21,[.cell 2 true 3,.tmp 3],.seq (.reg [sO 1 (.box 24 3 (.t 0)),sO 2 (.alloc 24 zFq),qI 3 0]) (.seq (.reg aRW) (.seq (.seq (.reg [qM 11 5,sO 12 (.un .not (.t 11))]) (.cond (.t 12) (.seq (.reg [sO 13 (.build zFq []),sN (.store 3 (.t 2) (.t 13)),qI 3 11]) (.ret)) (.skip))) (.seq (.seq (.reg [qL 14 3 4,sO 15 (.call false 28 [.t 14]),qC 16 .neq 15 0]) (.cond (.t 16) (.seq (.reg [sO 17 (.build zFq []),qL 18 3 4,sO 19 (.call false 28 [.t 18]),sN (.store 3 (.t 2) (.t 17)),qM 3 19]) (.ret)) (.skip))) (.seq (.reg [qL 20 3 4,sN (.store 3 (.t 2) (.t 20)),qI 3 0]) (.ret)))))⟩
theorem aQG:bJ Tryz.prog ⟨oEq,[],[],[]⟩ Tryz.f38=some s38:=by kernel_rfl
def aTe:List SO:=[
 qL 10 3 1,
 sO 11 (.call false 92 [.t 10]),
 qM 9 11,
 qE 12 9 0,
 qE 13 9 1,
 qM 4 12,
 qM 5 13]
def aQg:List SO:=[
 qM 37 7,
 qM 38 4,
 qM 39 8,
 qA 40 1 38 39,
 ql 41 40,
 sO 42 (.call false 94 [.c (.int .i64 5),.t 41]),
 sO 43 (.call false 93 [.t 37,.t 42]),
 qM 7 43]
def aNn:SC:=.seq (.seq (.reg [qM 24 8,qM 25 4,qN 26 25,qP 27 .lss 24 26]) (.cond (.t 27) (.skip) (.exit 0))) (.seq (.block 1 (.seq (.seq (.reg [qM 30 4,qM 31 8,qA 32 1 30 31,ql 33 32,qN 34 33,qC 35 .eql 34 0]) (.cond (.t 35) (.seq (.reg [qL 36 3 6,sN (.store 3 (.t 2) (.t 36)),sO 3 (.mv (.c (.bool true)))]) (.ret)) (.skip))) (.reg aQg))) (.reg [qM 28 8,qC 29 .add 28 1,qM 8 29]))
def s64:SF:=⟨46,[.cell 2 true 3,.tmp 3],.seq (.reg [sO 1 (.box 24 3 (.t 0)),sO 2 (.alloc 24 zFq),sO 3 (.mv (.c (.bool false)))]) (.seq (.reg aTe) (.seq (.seq (.reg [qM 14 5,sO 15 (.un .not (.t 14))]) (.cond (.t 15) (.seq (.reg [sO 16 (.build zFq []),sN (.store 3 (.t 2) (.t 16)),sO 3 (.mv (.c (.bool false)))]) (.ret)) (.skip))) (.seq (.reg [sO 17 (.build zFq [(0,1,.c (.int .i64 1))]),sO 6 (.alloc 24 zFq),sN (.store 3 (.t 6) (.t 17))]) (.seq (.seq (.reg [qM 18 4,qN 19 18,qC 20 .eql 19 0]) (.cond (.t 20) (.seq (.reg [qL 21 3 6,sO 22 (.bslice 24 3 false zFq 1 [(0,.t 21)]),sO 23 (.build zFq [(0,1,.c (.int .i64 4)),(2,1,.t 22)]),sN (.store 3 (.t 2) (.t 23)),sO 3 (.mv (.c (.bool true)))]) (.ret)) (.skip))) (.seq (.reg [sO 7 (.mv (.c (.nilsl)))]) (.seq (.seq (.reg [qI 8 0]) (.block 0 (.loop aNn))) (.seq (.reg [qM 44 7,sO 45 (.call false 94 [.c (.int .i64 6),.t 44]),sN (.store 3 (.t 2) (.t 45)),sO 3 (.mv (.c (.bool true)))]) (.ret))))))))⟩
theorem aQz:bJ Tryz.prog ⟨oEq,[],[],[]⟩ Tryz.f64=some s64:=by kernel_rfl
def aSB:List SO:=[
 qL 15 3 3,
 qM 16 0,
 qM 17 7,
 qA 18 3 16 17,
 qL 19 3 18,
 sO 20 (.call false 115 [.t 15,.t 19]),
 qM 8 20]
def aPw:List SO:=[
 qM 33 5,
 qM 34 0,
 qM 35 7,
 qA 36 3 34 35,
 qL 37 3 36,
 sO 38 (.bslice 24 3 false zFq 1 [(0,.t 37)]),
 sO 39 (.append 24 3 40 (.t 33) (.t 38)),
 qM 5 39]
def aND:SC:=.seq (.seq (.reg [qM 9 7,qM 10 0,qN 11 10,qP 12 .lss 9 11]) (.cond (.t 12) (.skip) (.exit 0))) (.seq (.block 1 (.seq (.reg aSB) (.seq (.seq (.reg [qM 21 8,qC 22 .leq 21 0,qM 23 22,⟨some (23,true),some 24,.mv (.t 6)⟩,⟨some (23,true),some 25,.un .not (.t 24)⟩,sO 26 (.pick (.t 23) (.t 25) (.c (.bool false)))]) (.cond (.t 26) (.seq (.reg [qM 27 5,qL 28 3 3,sO 29 (.bslice 24 3 false zFq 1 [(0,.t 28)]),sO 30 (.append 24 3 40 (.t 27) (.t 29)),qM 5 30]) (.reg [sO 6 (.mv (.c (.bool true)))])) (.skip))) (.seq (.reg [qM 31 8,qC 32 .neq 31 0]) (.cond (.t 32) (.reg aPw) (.skip)))))) (.reg [qM 13 7,qC 14 .add 13 1,qM 7 14]))
def s93:SF:=⟨47,[.tmp 4],.seq (.reg [sO 3 (.box 24 3 (.t 1)),sO 4 (.mv (.c (.nilsl)))]) (.seq (.reg [sO 5 (.lazy 24 3)]) (.seq (.reg [sO 6 (.mv (.c (.bool false)))]) (.seq (.seq (.reg [qI 7 0]) (.block 0 (.loop aND))) (.seq (.seq (.reg [qM 40 6,sO 41 (.un .not (.t 40))]) (.cond (.t 41) (.reg [qM 42 5,qL 43 3 3,sO 44 (.bslice 24 3 false zFq 1 [(0,.t 43)]),sO 45 (.append 24 3 40 (.t 42) (.t 44)),qM 5 45]) (.skip))) (.seq (.reg [qM 46 5,qM 4 46]) (.ret))))))⟩
theorem aOz:bJ Tryz.prog ⟨oEq,[5],[],[]⟩ Tryz.f93=some s93:=by kernel_rfl
def aO7:List SO:=[
 qF 10 0 2,
 ql 11 10,
 qF 12 1 2,
 ql 13 12,
 qF 14 2 2,
 ql 15 14,
 qN 16 15,
 sO 17 (.build [.int .i64 0,.int .i64 0,.int .i64 0] [(0,1,.t 11),(1,1,.t 13),(2,1,.t 16)]),
 sO 5 (.alloc 179 [.int .i64 0,.int .i64 0,.int .i64 0]),
 sN (.store 3 (.t 5) (.t 17))]
def aPK:List SO:=[
 qF 18 0 3,
 ql 19 18,
 qF 20 1 3,
 ql 21 20,
 qF 22 2 3,
 ql 23 22,
 qN 24 23,
 sO 25 (.build [.int .i64 0,.int .i64 0,.int .i64 0] [(0,1,.t 19),(1,1,.t 21),(2,1,.t 24)]),
 sO 6 (.alloc 179 [.int .i64 0,.int .i64 0,.int .i64 0]),
 sN (.store 3 (.t 6) (.t 25))]
def aO0:List SO:=[
 qM 30 7,
 sO 31 (.apos 1 3 (.t 5) (.t 30)),
 ql 32 31,
 qM 33 7,
 sO 34 (.apos 1 3 (.t 6) (.t 33)),
 ql 35 34,
 qP 36 .lss 32 35]
def aO4:List SO:=[
 qM 37 7,
 sO 38 (.apos 1 3 (.t 5) (.t 37)),
 ql 39 38,
 qM 40 7,
 sO 41 (.apos 1 3 (.t 6) (.t 40)),
 ql 42 41,
 qP 43 .gtr 39 42]
def aIx:SC:=.seq (.seq (.reg [qM 26 7,qC 27 .lss 26 3]) (.cond (.t 27) (.skip) (.exit 0))) (.seq (.block 1 (.seq (.seq (.reg aO0) (.cond (.t 36) (.seq (.reg [sO 4 (.mv (.c (.int .i64 (-1))))]) (.ret)) (.skip))) (.seq (.reg aO4) (.cond (.t 43) (.seq (.reg [qI 4 1]) (.ret)) (.skip))))) (.reg [qM 28 7,qC 29 .add 28 1,qM 7 29]))
def aLW:List SO:=[
 qF 51 2 2,
 ql 52 51,
 qM 53 8,
 qA 54 3 52 53,
 qL 55 3 54,
 qF 56 2 3,
 ql 57 56,
 qM 58 8,
 qA 59 3 57 58,
 qL 60 3 59,
 sO 61 (.call false 115 [.t 55,.t 60]),
 qM 9 61]
def aIk:SC:=.seq (.seq (.reg [qM 44 8,qF 45 2 2,ql 46 45,qN 47 46,qP 48 .lss 44 47]) (.cond (.t 48) (.skip) (.exit 2))) (.seq (.block 3 (.seq (.reg aLW) (.seq (.reg [qM 62 9,qC 63 .neq 62 0]) (.cond (.t 63) (.seq (.reg [qM 64 9,qM 4 64]) (.ret)) (.skip))))) (.reg [qM 49 8,qC 50 .add 49 1,qM 8 50]))
def aS1:SF:=⟨65,[.tmp 4],.seq (.reg [sO 2 (.box 24 3 (.t 0)),sO 3 (.box 24 3 (.t 1)),qI 4 0]) (.seq (.reg aO7) (.seq (.reg aPK) (.seq (.seq (.reg [qI 7 0]) (.block 0 (.loop aIx))) (.seq (.seq (.reg [qI 8 0]) (.block 2 (.loop aIk))) (.seq (.reg [qI 4 0]) (.ret))))))⟩
theorem aLY:bJ Tryz.prog ⟨oEq,[],[],[]⟩ Tryz.f115=some aS1:=by kernel_rfl
end Go.Proofs.YteehaobohaecmaaGreatDoor
namespace Go.Proofs.YteehaobohaecmaaGreatDoor
open Go
theorem aGh {f h:Fm} {k:Nat} (hk:k < 3) (he: ∀ j,j < k→nth [f.op,f.arg,(f.kids.length:Int)] j=nth [h.op,h.arg,(h.kids.length:Int)] j) (hl:nth [f.op,f.arg,(f.kids.length:Int)] k < nth [h.op,h.arg,(h.kids.length:Int)] k):bW f h= -1:=by
  have e0:0 < k→f.op=h.op:=fun q=>he 0 q
  have e1:1 < k→f.arg=h.arg:=fun q=>he 1 q
  rw [aB9]
  match k,hk with
  | 0, _ =>
    have hl':f.op < h.op:=hl
    simp [cp3,fB,hl']
  | 1, _ =>
    have hl':f.arg < h.arg:=hl
    rw [e0 (by omega)]
    simp [cp3,fB,hl']
  | 2, _ =>
    have hl':(f.kids.length:Int) < h.kids.length:=hl
    rw [e0 (by omega),e1 (by omega)]
    have:f.kids.length < h.kids.length:=by omega
    simp [cp3,fB,this]
theorem aLG {f h:Fm} {k:Nat} (hk:k < 3) (he: ∀ j,j < k→nth [f.op,f.arg,(f.kids.length:Int)] j=nth [h.op,h.arg,(h.kids.length:Int)] j) (hl:nth [h.op,h.arg,(h.kids.length:Int)] k < nth [f.op,f.arg,(f.kids.length:Int)] k):bW f h=1:=by
  have:=aGh hk (fun j hj=>(he j hj).symm) hl
  rw [jG,this]; rfl
theorem aFe {f h:Fm} {k:Nat} (hk:3≤k) (he: ∀ j,j < k→nth [f.op,f.arg,(f.kids.length:Int)] j=nth [h.op,h.arg,(h.kids.length:Int)] j):f.kids.length=h.kids.length∧bW f h=kI f.kids h.kids:=by
  have e0:f.op=h.op:=he 0 (by omega)
  have e1:f.arg=h.arg:=he 1 (by omega)
  have e2:(f.kids.length:Int)=h.kids.length:=he 2 (by omega)
  refine ⟨by omega,?_⟩
  rw [aB9,e0,e1,show f.kids.length=h.kids.length by omega]
  simp [cp3,fB]
  exact fun q=>q.symm
def rW (f:Fm):Bool→List Fm→List Fm
  |dn,[]=>if dn=true then [] else [f]
  |dn,g::l=>(if bW f g≤0∧dn=false then [f] else [])++((if bW f g≠0 then [g] else [])++rW f (dn||decide (bW f g≤0)) l)
section
variable {f:Fm} {l:List Fm} {k:Nat} {dn:Bool}
theorem wR (h:k < l.length):rW f dn (l.drop k)=(if bW f (nth l k)≤0∧dn=false then [f] else [])++((if bW f (nth l k)≠0 then [nth l k] else [])++rW f (dn||decide (bW f (nth l k)≤0)) (l.drop (k+1))):=by
  rw [cZ h,rW]
theorem aJk (h:l.length≤k):rW f dn (l.drop k)=if dn=true then [] else [f]:=by rw [List.drop_eq_nil_of_le h,rW]
end
theorem aBX {f:Fm}: ∀ {l:List Fm},(∀ g∈l,bW f g < 0)→rW f true l=l
  |[],_=>rfl
  | g :: l, h => by
    have hg:=h g (List.mem_cons_self ..)
    rw [rW,if_neg (by simp),if_pos (by omega),Bool.true_or,aBX fun x hx=>h x (List.mem_cons_of_mem _ hx)]; rfl
theorem aEF {f : Fm} : ∀ {l : List Fm}, gO l → rW f false l = kL f l
  |[],_=>rfl
  | g :: l, h => by
    obtain ⟨h1,h2⟩:=List.pairwise_cons.1 h
    rw [rW,kL]
    by_cases q:bW f g < 0
    · rw [if_pos ⟨by omega,rfl⟩,if_pos (by omega),if_pos q,Bool.false_or,decide_eq_true (by omega),aBX fun x hx=>kJ q (h1 x hx)]; rfl
    · by_cases q0:bW f g=0
      · have e:=jB f g q0
        subst e
        rw [if_pos ⟨by omega,rfl⟩,if_neg (by omega),if_neg q,if_pos q0,Bool.false_or,decide_eq_true (by omega),aBX fun x hx=>h1 x hx]; rfl
      · rw [if_neg (by omega),if_pos q0,if_neg q,if_neg q0,Bool.false_or,decide_eq_false (by omega),aEF h2]; rfl
section
variable {c d:Cl} {s:List Cl} {k:Nat}
theorem aQj (h:k < d.length) (e:(c.any fun y=>eA y (nth d k))=false):dP c (d.drop k)=false:=by
  rw [cZ h]; unfold dP; rw [List.all_cons,e,Bool.false_and]
theorem aPr (h:k < d.length) (e:(c.any fun y=>eA y (nth d k))=true):dP c (d.drop k)=dP c (d.drop (k+1)):=by
  rw [cZ h]; unfold dP; rw [List.all_cons,e,Bool.true_and]
theorem aLS (h:d.length≤k):dP c (d.drop k)=true:=by rw [List.drop_eq_nil_of_le h]; rfl
theorem aHc {p:Fm→Bool} (h:k < c.length):(c.take (k+1)).any p=((c.take k).any p||p (nth c k)):=by
  rw [cR h,List.any_append]; simp
theorem aLx (h:k < s.length) (e:dP c (nth s k)=true):s=wth s c:=by
  unfold wth
  rw [if_pos (List.any_eq_true.2 ⟨_,dJ h,e⟩)]
theorem aM0 (h: ∀ i,i < s.length→dP c (nth s i)=false):s.filter (fun d=> !dP d c)++[c]=wth s c:=by
  unfold wth
  rw [if_neg fun q=>by
    obtain ⟨d,hd,e⟩:=List.any_eq_true.1 q
    obtain ⟨i,hi,rfl⟩:=dX hd
    rw [h i hi] at e; cases e]
end
theorem aLE {c d:List Fm} {j:Nat} (h:j < d.length):unF c (d.take (j+1))=kL (nth d j) (unF c (d.take j)):=by
  unfold unF; rw [cR h,List.foldl_append]; rfl
def djO : List Fm → List Cl → Option (List Cl)
  |[],out=>some out
  | f :: l, out => match cls f with
    |none=>none
    |some s=>djO l (wths out s)
theorem aGm: ∀ (l:List Fm) (out:List Cl),djL l out=match djO l out with
    |none=>none
    |some o=>if 64 < o.length then none else some o
  |[],out=>by rw [djL,djO]
  | f :: l, out => by
    rw [djL,djO]
    cases cls f with
    |none=>rfl
    |some s=>exact aGm l _
def rsV (f:Fm):List Cl:=if f.op=6 then cX (djO f.kids []) else cX (cls f)
def clB (f:Fm):Bool:=(cls f).isSome
section
variable {f:Fm} {l:List Fm} {k:Nat} {out:List Cl}
theorem aKZ (h:l.length≤k):djO (l.drop k) out=some out:=by rw [List.drop_eq_nil_of_le h,djO]
theorem aQm (h:k < l.length) (e:cls (nth l k)=none):djO (l.drop k) out=none:=by rw [cZ h,djO,e]
theorem aJa {s:List Cl} (h:k < l.length) (e:cls (nth l k)=some s):djO (l.drop k) out=djO (l.drop (k+1)) (wths out s):=by rw [cZ h,djO,e]
theorem aOG (h:clB f=true):rsV f=cX (cls f):=by
  unfold rsV
  by_cases q:f.op=6
  · rw [if_pos q]
    unfold clB at h
    rw [nJ q,aGm] at h ⊢
    cases e:djO f.kids [] with
    |none=>rfl
    | some o =>
      rw [e] at h
      simp only at h ⊢
      by_cases q2:64 < o.length
      · rw [if_pos q2] at h; cases h
      · rw [if_neg q2]
  · rw [if_neg q]
theorem oZ (h:clB f=true):cls f=some (rsV f):=by
  rw [aOG h]
  unfold clB at h
  cases e:cls f with
  |none=>rw [e] at h; cases h
  |some s=>rfl
theorem tK (h:clB f=false):cls f=none:=by
  unfold clB at h
  cases e:cls f with
  |none=>rfl
  |some s=>rw [e] at h; cases h
end
theorem aIE: ∀ {l:List Fm},l.Nodup→unF [] l=sF l:=fun {l} h=>
  pL (lH List.Pairwise.nil) (aEx h) fun x=>by rw [mP,oS]; simp
theorem aAg {l:List Fm} (h:l.Nodup):(unF [] l).length=l.length:=by rw [aIE h,aEw]
def aEl (f:Fm):Bool:=(can f).isSome
theorem wS (f:Fm):aEl f=clB f:=by unfold aEl clB can; cases cls f <;> rfl
theorem aIz {s:List Cl} (h:GdS s):(s.map clF).Nodup:=nZ h.ant.nodup h.at_.ats
end Go.Proofs.YteehaobohaecmaaGreatDoor
namespace Go.Proofs.YteehaobohaecmaaGreatDoor
theorem ld3 {ver ty k:Nat} {x y z:Int} (hk:k < 3):ldB false 1 (bk ver ty 3 [[iV x,iV y,iV z]]) ver 0 k=some (iV (nth [x,y,z] k)):=by
  refine lB oB rfl ?_
  match k,hk with
  |0,_=>rfl
  |1,_=>rfl
  |2,_=>rfl
end Go.Proofs.YteehaobohaecmaaGreatDoor
namespace Go.Proofs.YteehaobohaecmaaGreatDoor
open Go
section
variable {f:Fm} {k:Nat} {out s X:List Cl}
structure Rs5 (f:Fm) (k:Nat) (X:List Cl):Prop where
  e:cjL f.kids [[]]=if 64 < X.length then none else cjL (f.kids.drop (k+1)) X
  g: ¬64 < X.length→GdS X∧fR (Fm.szs (f.kids.take (k+1))) X
theorem yU (hok:okF f=true) (hk:k < f.kids.length) (h:clB (nth f.kids k)=true):cls (nth f.kids k)=some (rsV (nth f.kids k))∧GdS (rsV (nth f.kids k))∧fR (nth f.kids k).sz (rsV (nth f.kids k)):=
  ⟨oZ h,jQ _ ((bN hok).2 k hk) _ (oZ h),nT _ _ (oZ h)⟩
theorem aAH (hok:okF f=true) (hk:k < f.kids.length) (h0:k=0) (h:clB (nth f.kids k)=true):Rs5 f k (rsV (nth f.kids k)):=by
  subst h0
  obtain ⟨h1,h2,h3⟩:=yU hok hk h
  have hn: ¬64 < (rsV (nth f.kids 0)).length:=Nat.not_lt.2 h2.len
  refine ⟨?_,fun _=>⟨h2,?_⟩⟩
  · rw [if_neg hn]
    have:=aD0 (out:=[[]]) hk h1 (by rw [aDP h2.ant]; exact hn)
    rw [aDP h2.ant] at this
    exact this
  · exact fR.mono h3 (by rw [aCE hk]; omega)
theorem aJu (hok:okF f=true) (hk:k < f.kids.length) (hG:GdS out) (hL:fR (Fm.szs (f.kids.take k)) out) (hc:cjL f.kids [[]]=cjL (f.kids.drop k) out) (h:clB (nth f.kids k)=true):Rs5 f k (prd out (rsV (nth f.kids k))):=by
  obtain ⟨h1,h2,h3⟩:=yU hok hk h
  refine ⟨?_,fun hn=>⟨aGp hG h2 hn,aFc hk hL h3⟩⟩
  by_cases q:64 < (prd out (rsV (nth f.kids k))).length
  · rw [if_pos q,hc,aB1 hk h1 q]
  · rw [if_neg q,hc,aD0 hk h1 q]
theorem sD (h:Rs5 f k X) (hn: ¬64 < X.length):GdS X∧fR (Fm.szs (f.kids.take (k+1))) X∧cjL f.kids [[]]=cjL (f.kids.drop (k+1)) X:=
  ⟨(h.g hn).1,(h.g hn).2,by rw [h.e,if_neg hn]⟩
theorem aAF (hok:okF f=true) (hk:k < f.kids.length) (h0:k=0) (h:clB (nth f.kids k)=true):djO f.kids []=djO (f.kids.drop (k+1)) (rsV (nth f.kids k)):=by
  subst h0
  obtain ⟨h1,h2,_⟩:=yU hok hk h
  have:=aJa (out:=[]) hk h1
  rw [uJ (s:=[]) (by exact h2.ant)] at this
  exact this
theorem aH2 (hk:k < f.kids.length) (hc:djO f.kids []=djO (f.kids.drop k) out) (h:clB (nth f.kids k)=true):djO f.kids []=djO (f.kids.drop (k+1)) (wths out (rsV (nth f.kids k))):=by
  rw [hc,aJa hk (oZ h)]
theorem rX (h5:f.op=5) (h:Rs5 f k X) (hl:64 < X.length):cls f=none:=by rw [nL h5,h.e,if_pos hl]
theorem aLz (h5:f.op=5) (hk:k < f.kids.length) (h0:k=0∨cjL f.kids [[]]=cjL (f.kids.drop k) out) (h:clB (nth f.kids k)=false):cls f=none:=by
  rw [nL h5]
  rcases h0 with q|q
  · subst q; exact aB0 hk (tK h)
  · rw [q]; exact aB0 hk (tK h)
theorem aMx (h6:f.op=6) (hk:k < f.kids.length) (hc:djO f.kids []=djO (f.kids.drop k) out) (h:clB (nth f.kids k)=false):cls f=none∧djO f.kids []=none:=by
  have e:djO f.kids []=none:=by rw [hc]; exact aQm hk (tK h)
  refine ⟨?_,e⟩
  rw [nJ h6,aGm,e]
theorem nB (h:cls f=none) (h2:f.op=6→djO f.kids []=none):rsV f=[]∧clB f=false:=by
  refine ⟨?_,by unfold clB; rw [h]; rfl⟩
  unfold rsV
  by_cases q:f.op=6
  · rw [if_pos q,h2 q]; rfl
  · rw [if_neg q,h]; rfl
theorem kA (h6:f.op≠6) (h:cls f=some s):rsV f=s∧clB f=true:=by
  refine ⟨?_,by unfold clB; rw [h]; rfl⟩
  unfold rsV; rw [if_neg h6,h]; rfl
theorem aKX (h5:f.op=5) (hc:cjL f.kids [[]]=cjL (f.kids.drop k) out) (hk:f.kids.length≤k) (hG:GdS out):rsV f=out∧clB f=decide (out.length≤64):=by
  have e:cls f=some out:=by rw [nL h5,hc,aBo hk]
  obtain ⟨e1,e2⟩:=kA (by omega) e
  exact ⟨e1,by rw [e2,decide_eq_true hG.len]⟩
theorem aMU (h6:f.op=6) (hc:djO f.kids []=djO (f.kids.drop k) out) (hk:f.kids.length≤k):rsV f=out∧clB f=decide (out.length≤64):=by
  have e:djO f.kids []=some out:=by rw [hc,aKZ hk]
  refine ⟨by unfold rsV; rw [if_pos h6,e]; rfl,?_⟩
  unfold clB
  rw [nJ h6,aGm,e]
  simp only
  by_cases q:64 < out.length
  · rw [if_pos q,decide_eq_false (by omega)]; rfl
  · rw [if_neg q,decide_eq_true (by omega)]; rfl
end
def jnd (o:Int) (l:List Fm):Fm:=if l.length=1 then nth l 0 else .nd o 0 l
theorem aGy {o:Int} {l:List Fm} (h:l.length=1):jnd o l=nth l 0:=if_pos h
theorem aFW {o:Int} {l:List Fm} (h:l.length≠1):jnd o l=.nd o 0 l:=if_neg h
theorem aT3 {s:List Cl} (h:GdS s) (hn: ∀ i,i < s.length→(nth s i).length≠0) (h0:s.length≠0):fin s=jnd 6 (unF [] (s.map clF)):=by
  have hd:=aIz h
  have hl:(unF [] (s.map clF)).length=s.length:=by rw [aAg hd,List.length_map]
  by_cases h1:s.length=1
  · rw [aGy (by omega),aNu hn h1]
    match s,h1 with
    |[c],_=>rfl
  · rw [aFW (by omega),aNW hn h0 h1,aIE hd]
theorem aHQ {s:List Cl} {k:Nat} (h:k < s.length):unF [] ((s.take (k+1)).map clF)=kL (clF (nth s k)) (unF [] ((s.take k).map clF)):=by
  rw [fZ h]; unfold unF; rw [List.foldl_append]; rfl
theorem aPk {f:Fm} (hok:okF f=true) (hn:nnf f=true) (h4:f.op=4) (h1:(nth f.kids 0).op=1) (a o:Int):f=mst f a o:=by
  have hr:=dE (bN hok).1
  have hk:okF (nth f.kids 0)=true:=(bN hok).2 0 (by omega)
  have hr2:=dE (bN hk).1
  rw [oU h4]
  have e:ntB (nth f.kids 0) a o=false:=by unfold ntB; exact decide_eq_false (by omega)
  rw [e]
  have a0:f.arg=0:=hr.2.2.2.2.2.2.1 (by omega)
  have kl:f.kids.length=1:=by omega
  have b0:(nth f.kids 0).arg=0:=hr2.2.2.2.2.2.2.1 (by omega)
  have bk:(nth f.kids 0).kids=[]:=List.length_eq_zero_iff.1 (hr2.2.2.1 (.inl h1))
  have eta: ∀ g:Fm,g=.nd g.op g.arg g.kids:=fun g=>by cases g; rfl
  have eg:nth f.kids 0=.nd 1 0 []:=by rw [eta (nth f.kids 0),h1,b0,bk]
  have one: ∀ l:List Fm,l.length=1→l=[nth l 0]:=fun l h=>by
    match l,h with
    |[g],_=>rfl
  have ek:f.kids=[.nd 1 0 []]:=(one _ kl).trans (congrArg (fun g=>[g]) eg)
  exact (eta f).trans (by rw [h4,a0,ek]; rfl)
end Go.Proofs.YteehaobohaecmaaGreatDoor
namespace Go.Proofs.YteehaobohaecmaaGreatDoor
section
variable {f:Fm} {k:Nat} {out s:List Cl}
theorem aIi (ho:f.op=5∨f.op=6) (hk:k < f.kids.length) (h5:f.op=5→0 < k→GdS out∧fR (Fm.szs (f.kids.take k)) out∧cjL f.kids [[]]=cjL (f.kids.drop k) out) (h6:f.op=6→djO f.kids []=djO (f.kids.drop k) out) (h:clB (nth f.kids k)=false):rsV f=[]∧clB f=false:=by
  rcases ho with q|q
  · refine nB (aLz (out:=out) q hk ?_ h) fun e=>absurd e (by omega)
    by_cases k0:k=0
    · exact .inl k0
    · exact .inr (h5 q (by omega)).2.2
  · obtain ⟨e1,e2⟩:=aMx q hk (h6 q) h
    exact nB e1 fun _=>e2
theorem aJx (hr:1≤f.op∧f.op≤10∧((f.op=1∨f.op=2∨f.op=3)→f.kids.length=0)∧((f.op=4∨f.op=7∨f.op=9)→f.kids.length=1)∧((f.op=5∨f.op=6)→2≤f.kids.length)∧
    ((f.op=8∨f.op=10)→f.kids.length=2)∧(¬(f.op=2∨f.op=3)→f.arg=0)∧(f.op=2→0≤f.arg∧f.arg < 64)∧(f.op=3→0≤f.arg∧f.arg≤1048576)) (ho:f.op=5∨f.op=6) (h5:f.op=5→0 < k→GdS out∧fR (Fm.szs (f.kids.take k)) out∧cjL f.kids [[]]=cjL (f.kids.drop k) out) (h6:f.op=6→djO f.kids []=djO (f.kids.drop k) out) (hk:f.kids.length≤k):rsV f=out∧clB f=decide (out.length≤64):=by
  rcases ho with q|q
  · obtain ⟨g1,_,g3⟩:=h5 q (by have:=hr.2.2.2.2.1 (.inl q); omega)
    exact aKX q g3 hk g1
  · exact aMU q (h6 q) hk
theorem aGL {a b:List Cl} (ha:a.length≤64) (hb:b.length≤64):(prd a b).length≤4096:=by
  have h:=sU b a []
  have h2:a.length*b.length≤64*64:=Nat.mul_le_mul ha hb
  show (xC [] a b).length≤4096
  simp only [List.length_nil,Nat.zero_add] at h
  omega
theorem aEo {g:Fm} (h:aEl g=false):gT (can g)≠0:=by
  unfold aEl at h
  cases q:can g with
  |none=>exact (show (11:Int)≠0 by decide)
  |some x=>rw [q] at h; cases h
theorem aFr {g:Fm} (h:aEl g=true): ¬gT (can g)≠0:=by
  unfold aEl at h
  cases q:can g with
  |none=>rw [q] at h; cases h
  |some x=>exact fun e=>e rfl
end
end Go.Proofs.YteehaobohaecmaaGreatDoor
namespace Go.Proofs.YteehaobohaecmaaGreatDoor
theorem aPG {f:Fm} {k:Nat} {g:List Fm} (hr:1≤f.op∧f.op≤10∧((f.op=1∨f.op=2∨f.op=3)→f.kids.length=0)∧((f.op=4∨f.op=7∨f.op=9)→f.kids.length=1)∧((f.op=5∨f.op=6)→2≤f.kids.length)∧
    ((f.op=8∨f.op=10)→f.kids.length=2)∧(¬(f.op=2∨f.op=3)→f.arg=0)∧(f.op=2→0≤f.arg∧f.arg < 64)∧(f.op=3→0≤f.arg∧f.arg≤1048576)) (hn: ¬(f.op=1∨f.op=4∨f.op=5∨f.op=6)) (hg:g.length=k) (hk:k≤f.kids.length)
    (hc:fD f.kids=(fD (f.kids.drop k)).map fun r=>g++r) (hk2:f.kids.length≤k):rsV f=[[.nd f.op f.arg g]]∧clB f=true:=by
  by_cases h2:f.op=2∨f.op=3
  · have k0:f.kids=[]:=List.length_eq_zero_iff.1 (hr.2.2.1 (.inr h2))
    have g0:g=[]:=List.length_eq_zero_iff.1 (by rw [k0] at hk; simp at hk; omega)
    obtain ⟨e1,e2⟩:=kA (f:=f) (by omega) (lL h2)
    refine ⟨?_,e2⟩
    rw [e1,g0]
    cases f
    simp only [Fm.kids] at k0
    subst k0; rfl
  · obtain ⟨e1,e2⟩:=kA (f:=f) (by omega) (yS (by omega) hc hk2)
    refine ⟨?_,e2⟩
    rw [e1,hr.2.2.2.2.2.2.1 h2]
end Go.Proofs.YteehaobohaecmaaGreatDoor
namespace Go.Proofs.YteehaobohaecmaaGreatDoor
theorem aJh {f:Fm} (hok:okF f=true) (hn:nnf f=true) (h4:f.op=4) (h1: ¬(nth f.kids 0).op=1) (a o:Int):decide ((mst (nth f.kids 0) a o).op≠1)=ntB (nth f.kids 0) a o:=by
  have hr:=dE (bN hok).1
  have hr2:=dE (bN ((bN hok).2 0 (by omega))).1
  have h3:=(eC hn (k:=0) (by omega)).2 h4
  have tr: ∀ b:Bool,decide ((trF b).op≠1)= !b:=fun b=>by cases b <;> rfl
  unfold ntB
  rcases (show (nth f.kids 0).op=2∨(nth f.kids 0).op=3 by omega) with q|q
  · rw [oW q,tr,← decide_not]
    exact decide_eq_decide.2 (by omega)
  · rw [oX q,tr,← decide_not]
    exact decide_eq_decide.2 (by omega)
end Go.Proofs.YteehaobohaecmaaGreatDoor
namespace Go.Proofs.YteehaobohaecmaaGreatDoor
theorem aM7 {x y z:Fm} {p:Int}:V.sl [[iV x.op,iV x.arg,.sl (x.kids.map cF)],[iV p,iV 0,.sl [[iV y.op,iV y.arg,.sl (y.kids.map cF)],[iV z.op,iV z.arg,.sl (z.kids.map cF)]]]]=.sl (List.map cF [x,.nd p 0 [y,z]]):=by
  show _=V.sl [cF x,cF (.nd p 0 [y,z])]
  rw [bP x,show cF (.nd p 0 [y,z])=[iV p,iV 0,.sl [cF y,cF z]] from bP _,bP y,bP z]
end Go.Proofs.YteehaobohaecmaaGreatDoor
namespace Go.Proofs.YteehaobohaecmaaGreatDoor
end Go.Proofs.YteehaobohaecmaaGreatDoor
namespace Go.Proofs.YteehaobohaecmaaGreatDoor
open Go Go.Proofs
theorem xZ (f h:Fm) (ih: ∀ (g h:Fm),g.sz < f.sz→aQ Tryz.prog 115 [(V.agg (rFq g)),(V.agg (rFq h))] (iV (bW g h))):aQ Tryz.prog 115 [(V.agg (rFq f)),(V.agg (rFq h))] (iV (bW f h)):=by
 refine pW Tryz.func115 aLY fun hB=>?_
 unfold aS1
 dsimp only
 refine W_r (cA (i:=2) (n:=0) (m:=3) (cs:=(rFq f)) rfl (cVq rfl) rfl rfl rfl (cA (i:=3) (n:=0) (m:=3) (cs:=(rFq h)) rfl (cVq rfl) rfl rfl rfl (aA rfl (R_e (W_r (aL rfl rfl (aJ rfl rfl rfl rfl ?_)))))))
 refine aL rfl rfl (aJ rfl rfl rfl rfl (aL rfl rfl (aJ rfl rfl rfl rfl (bF rfl (aW rfl rfl (aV (i:=5) (n:=0) (m:=3) rfl (cVq rfl) rfl (bE rfl rfl rfl rfl rfl rfl rfl rfl rfl ?_)))))))
 refine R_e (W_r (aL rfl rfl (aJ rfl rfl rfl rfl (aL rfl rfl (aJ rfl rfl rfl rfl (aL rfl rfl (aJ rfl rfl rfl rfl ?_)))))))
 refine bF rfl (aW rfl rfl (aV (i:=6) (n:=0) (m:=3) rfl (cVq rfl) rfl (bE rfl rfl rfl rfl rfl rfl rfl rfl rfl (R_e (aB (W_r (aA rfl ?_)))))))
 refine R_e (aD fun Q1 n1 x1 y1 z1=>?_)
 refine bS (fun mm T H=> ∃ (k:Nat),mm=3 - k∧T 2=(mPq 2)∧T 3=(mPq 3)∧T 5=(mPq 5)∧T 6=(mPq 6)∧T 7=(iV ((k:Nat):Int))∧H 2=(bFq f)∧H 3=(bFq h)∧H 5=(bk 1 179 3 [[(iV f.op),(iV f.arg),(iV ((f.kids.length:Nat):Int))]])∧H 6=(bk 1 179 3 [[(iV h.op),(iV h.arg),(iV ((h.kids.length:Nat):Int))]])∧(k≤3)∧(∀ j,j < k→nth [f.op,f.arg,(f.kids.length:Int)] j=nth [h.op,h.arg,(h.kids.length:Int)] j)) ?_ ?_
 ·
  refine ⟨_,0,rfl,rfl,rfl,rfl,rfl,(eTq (rVq (iV 0)) rfl),rfl,rfl,rfl,rfl,?_,?_⟩
  · omega
  · intro j hj; omega
 intro mm T H ⟨k,hmm,t2,t3,t5,t6,t7,h2,h3,h5,h6,hk,he⟩ Q2 p12 p22 p32
 unfold aIx
 refine aB (W_r (aA t7 (bO rfl rfl (R_e ?_))))
 refine aH rfl (fun c3=>?_) fun c3=>?_
 ·
  refine aC (aD fun Q4 n4 x4 y4 z4=>(aB (W_r (aA t7 (pR (i:=k) (o':=k) t5 (rNq k) h5 oB (by omega) (by omega) (cJ (v:=(iV (nth [f.op,f.arg,(f.kids.length:Int)] k))) rfl h5 (ld3 (by omega)) (aA t7 ?_)))))))
  refine pR (i:=k) (o':=k) t6 (rNq k) h6 oB (by omega) (by omega) (cJ (v:=(iV (nth [h.op,h.arg,(h.kids.length:Int)] k))) rfl h6 (ld3 (by omega)) (bO rfl rfl (R_e ?_)))
  refine aH rfl (fun c5=>?_) fun c5=>?_
  ·
   refine aB (W_r (aA rfl (R_e (aM (y4 _ _ (p22 _ _ (y1 _ _ ?_)))))))
   refine bH (rVq (iV (-1))) (aF ?_)
   · exact (aGh (by omega) he (by assumption)).symm
  refine aC (W_r (aA t7 (pR (i:=k) (o':=k) t5 (rNq k) h5 oB (by omega) (by omega) (cJ (v:=(iV (nth [f.op,f.arg,(f.kids.length:Int)] k))) rfl h5 (ld3 (by omega)) (aA t7 (pR (i:=k) (o':=k) t6 (rNq k) h6 oB (by omega) (by omega) (cJ (v:=(iV (nth [h.op,h.arg,(h.kids.length:Int)] k))) rfl h6 (ld3 (by omega)) ?_)))))))
  refine fI rfl rfl (R_e ?_)
  refine bZ rfl (fun c6=>?_) fun c6=>?_
  ·
   refine W_r (aA rfl (R_e (aO (y4 _ _ (p22 _ _ (y1 _ _ ?_))))))
   refine bH (rVq (iV 1)) (aF ?_)
   · exact (aLG (by omega) he (by assumption)).symm
  refine cN (n4 _ _ (.done (W_t (aA t7 (bC rfl (rNq 1) (by omega) (aA rfl (R_e ?_)))))))
  refine p12 _ _ _ ?_ ⟨(k+1),rfl,t2,t3,t5,t6,(eTq (rNq (k+1)) (by rfl)),h2,h3,h5,h6,?_,?_⟩
  · omega
  · omega
  · intro j hj
    by_cases e:j=k
    · subst e; omega
    · exact he j (by omega)
 refine aN (p32 _ _ _ (x1 _ _ (.done (aB (W_r (aA rfl (R_e ?_)))))))
 refine aD fun Q7 n7 x7 y7 z7=>?_
 refine bS (fun mm T H=> ∃ (k:Nat),mm=f.kids.length - k∧T 2=(mPq 2)∧T 3=(mPq 3)∧T 8=(iV ((k:Nat):Int))∧H 2=(bFq f)∧H 3=(bFq h)∧H 5=(bk 1 179 3 [[(iV f.op),(iV f.arg),(iV ((f.kids.length:Nat):Int))]])∧H 6=(bk 1 179 3 [[(iV h.op),(iV h.arg),(iV ((h.kids.length:Nat):Int))]])∧(f.kids.length=h.kids.length)∧(bW f h=kI (f.kids.drop k) (h.kids.drop k))) ?_ ?_
 ·
  refine ⟨_,0,rfl,t2,t3,(eTq (rVq (iV 0)) rfl),h2,h3,h5,h6,?_,?_⟩
  · exact (aFe (by omega) he).1
  · exact (aFe (by omega) he).2
 intro mm T H ⟨k,hmm,t2,t3,t8,h2,h3,h5,h6,hl,hc⟩ Q8 p18 p28 p38
 unfold aIk
 refine aB (W_r (aA t8 (aL t2 h2 (aJ rfl h2 rfl rfl (bF rfl (bO rfl rfl (R_e ?_)))))))
 refine aH rfl (fun c9=>?_) fun c9=>?_
 ·
  refine aC (aD fun Q10 n10 x10 y10 z10=>(W_r (aL t2 h2 (aJ rfl h2 rfl rfl (aA t8 (bT (i:=k) (rVq (V.sl (List.map cF f.kids))) (rNq k) (by omega) (bP _) rfl (aG rfl rfl ?_)))))))
  refine aL t3 h3 (aJ rfl h3 rfl rfl (aA t8 (bT (i:=k) (rVq (V.sl (List.map cF h.kids))) (rNq k) (by omega) (bP _) rfl (aG rfl rfl (aI (ih (nth f.kids k) (nth h.kids k) skq) rfl (aA rfl (R_e ?_)))))))
  refine W_r (aA rfl (cD rfl rfl (R_e ?_)))
  refine bZ rfl (fun c11=>?_) fun c11=>?_
  ·
   have d1:bW (nth f.kids k) (nth h.kids k)≠0:=c11
   refine W_r (aA rfl (aA rfl (R_e (aO (y10 _ _ (p28 _ _ (y7 _ _ ?_)))))))
   refine bH (rVq (iV (bW (nth f.kids k) (nth h.kids k)))) (aF ?_)
   · rw [hc,aCZ (by omega) (by omega) d1]
  have d1: ¬bW (nth f.kids k) (nth h.kids k)≠0:=c11
  refine cN (n10 _ _ (.done (W_t (aA t8 (bC rfl (rNq 1) (by omega) (aA rfl (R_e ?_)))))))
  refine p18 _ _ _ ?_ ⟨(k+1),rfl,t2,t3,(eTq (rNq (k+1)) (by rfl)),h2,h3,h5,h6,?_,?_⟩
  · omega
  · omega
  · rw [hc,aGj (by omega) (by omega) d1]
 refine aN (p38 _ _ _ (x7 _ _ (.done (W_r (aA rfl (R_e (aO ?_)))))))
 refine bH (rVq (iV 0)) (aF ?_)
 · rw [hc,aDq (by omega)]
theorem aHq (f h:Fm):aQ Tryz.prog 115 [(V.agg (rFq f)),(V.agg (rFq h))] (iV (bW f h)):=by
  have key: ∀ (mm:Nat) (f h:Fm),f.sz < mm→aQ Tryz.prog 115 [(V.agg (rFq f)),(V.agg (rFq h))] (iV (bW f h)):=by
    intro mm
    induction mm with
    |zero=>intro f h hlt; exact absurd hlt (Nat.not_lt_zero _)
    | succ mm ih =>
      intro f h hlt
      exact xZ f h fun f2 h2 hlt2=>ih f2 h2 (by omega)
  exact key (f.sz+1) f h (Nat.lt_succ_self _)
theorem yZ (l:List Fm) (f:Fm) (hs:gO l) (hl:l.length≤4294967296):aQ Tryz.prog 93 [(V.sl (List.map cF l)),(V.agg (rFq f))] (V.sl (List.map cF (kL f l))):=by
 refine pW Tryz.func93 aOz fun hB=>?_
 unfold s93
 dsimp only
 refine W_r (cA (i:=3) (n:=0) (m:=3) (cs:=(rFq f)) rfl (cVq rfl) rfl rfl rfl (aA rfl (R_e (W_r (nQ (i:=5) (n:=0) rfl (cVq rfl) (R_e (W_r ?_)))))))
 refine aA rfl (R_e (aB (W_r (aA rfl (R_e (aD fun Q1 n1 x1 y1 z1=>?_))))))
 refine bS (fun mm T H=> ∃ (k:Nat) (out:List Fm) (dn:Bool) (v:Nat),mm=l.length - k∧T 0=(V.sl (List.map cF l))∧T 3=(mPq 3)∧T 5=(V.ms 5 v 0 out.length)∧T 6=(V.bool dn)∧T 7=(iV ((k:Nat):Int))∧H 3=(bFq f)∧H 5=(bz v 24 3 (List.map cF out))∧(k≤l.length)∧(out.length≤2*k)∧(rW f false l=out++rW f dn (l.drop k))) ?_ ?_
 ·
  refine ⟨_,0,[],false,1,rfl,rfl,rfl,(eTq (rVq (V.ms 5 1 0 0)) (by rfl)),rfl,(eTq (rVq (iV 0)) rfl),rfl,(eTq (@rfl Blk (bz 1 24 3 [])) (by rfl)),?_,?_,?_⟩
  · omega
  · exact Nat.zero_le _
  · rfl
 intro mm T H ⟨k,out,dn,v,hmm,t0,t3,t5,t6,t7,h3,h5,hk,hn,hc⟩ Q2 p12 p22 p32
 unfold aND
 refine aB (W_r (aA t7 (aA t0 (bF rfl (bO rfl rfl (R_e ?_))))))
 refine aH rfl (fun c3=>?_) fun c3=>?_
 ·
  refine aC (aD fun Q4 n4 x4 y4 z4=>(W_r (aJ t3 h3 rfl rfl (aA t0 (aA t7 (bT (i:=k) (rVq (V.sl (List.map cF l))) (rNq k) (by omega) (bP _) rfl (aG rfl rfl ?_)))))))
  refine aI (aHq f (nth l k)) rfl (aA rfl (R_e (aB (W_r (aA rfl (qG rfl rfl (aA rfl ?_)))))))
  refine aT 3 (fun T H=>T 0=(V.sl (List.map cF l))∧T 3=(mPq 3)∧T 5=(V.ms 5 v 0 out.length)∧T 6=(V.bool dn)∧T 7=(iV ((k:Nat):Int))∧T 8=(iV (bW f (nth l k)))∧T 26=(V.bool (decide ((bW f (nth l k))≤(0:Int))&&(!dn)))∧H 3=(bFq f)∧H 5=(bz v 24 3 (List.map cF out))∧True) ?_ ?_
  ·
   by_cases g5:(bW f (nth l k))≤(0:Int)
   ·
    refine aE (edT g5 rfl) (aA t6 (aE (edT g5 rfl) (eL rfl (aS (edT g5 rfl) rfl ?_))))
    exact ⟨t0,t3,t5,t6,t7,rfl,(rH g5),h3,h5,trivial⟩
   ·
    refine G_n (edF g5 rfl) (G_n (edF g5 rfl) (aU (edF g5 rfl) rfl ?_))
    exact ⟨t0,t3,t5,t6,t7,rfl,(rG g5),h3,h5,trivial⟩
  intro T H ⟨t0,t3,t5,t6,t7,t8,t26,h3,h5,_⟩
  refine R_e ?_
  refine bX t26 (fun c6=>?_) (fun c6=>?_)
  ·
   have q:=c6
   rw [Bool.and_eq_true,decide_eq_true_eq] at q
   have d1:=q.1
   have d2:dn=false:=by simpa using q.2
   refine aB (W_r (aA t5 (aJ t3 h3 rfl rfl (aR rfl rfl (cC (l:=out) (f:=cF) (x:=f) (rVq (V.ms 5 v 0 out.length)) h5 (by rfl) (fV (x:=f) (rVq (V.sl [(rFq f)]))) (eU _) (fC _) (by omega) (by omega) (aA rfl (R_e ?_)))))))
   refine W_r (aA rfl (R_e (W_r (aA t8 (cD rfl rfl (R_e ?_))))))
   refine bZ rfl (fun c7=>?_) fun c7=>?_
   ·
    have d3:bW f (nth l k)≠0:=c7
    refine W_t (aA rfl (aA t0 (aA t7 (bT (i:=k) (rVq (V.sl (List.map cF l))) (rNq k) (by omega) (bP _) rfl (aG rfl rfl (aR rfl rfl (cC (l:=(out++[f])) (f:=cF) (x:=(nth l k)) (rVq (V.ms 5 (v+1) 0 (out.length+1))) (@rfl Blk (bz (v+1) 24 3 (List.map cF (out++[f])))) (by simp) (fV (x:=(nth l k)) (rVq (V.sl [(rFq (nth l k))]))) (eU _) (fC _) (by omega) (by omega) ?_)))))))
    refine aA rfl (R_e (n4 _ _ (.done (W_t (aA t7 (bC rfl (rNq 1) (by omega) (aA rfl ?_)))))))
    refine R_e ?_
    refine p12 _ _ _ ?_ ⟨(k+1),(out++[f]++[(nth l k)]),true,(v+2),rfl,t0,t3,(eTq (rVq (V.ms 5 (v+2) 0 (out.length+2))) (by simp)),rfl,(eTq (rNq (k+1)) (by rfl)),h3,(eTq (@rfl Blk (bz (v+2) 24 3 (List.map cF (out++[f]++[(nth l k)])))) (by rfl)),?_,?_,?_⟩
    · omega
    · omega
    · first|omega|(simp only [List.length_append,List.length_cons,List.length_nil]; omega)
    · rw [hc,wR (by omega)]; first|(rw [if_pos ⟨d1,d2⟩,if_pos d3]; simp [d1]; done)|(rw [if_pos ⟨d1,d2⟩,if_neg d3]; simp [d1]; done)|(rw [if_neg d1,if_pos d3]; simp [d4]; done)|(rw [if_neg d1,if_neg d3]; simp [d4]; done)
   have d3: ¬bW f (nth l k)≠0:=c7
   refine cN (n4 _ _ (.done (W_t (aA t7 (bC rfl (rNq 1) (by omega) (aA rfl (R_e ?_)))))))
   refine p12 _ _ _ ?_ ⟨(k+1),(out++[f]),true,(v+1),rfl,t0,t3,(eTq (rVq (V.ms 5 (v+1) 0 (out.length+1))) (by simp)),rfl,(eTq (rNq (k+1)) (by rfl)),h3,(eTq (@rfl Blk (bz (v+1) 24 3 (List.map cF (out++[f])))) (by rfl)),?_,?_,?_⟩
   · omega
   · omega
   · first|omega|(simp only [List.length_append,List.length_cons,List.length_nil]; omega)
   · rw [hc,wR (by omega)]; first|(rw [if_pos ⟨d1,d2⟩,if_pos d3]; simp [d1]; done)|(rw [if_pos ⟨d1,d2⟩,if_neg d3]; simp [d1]; done)|(rw [if_neg d1,if_pos d3]; simp [d4]; done)|(rw [if_neg d1,if_neg d3]; simp [d4]; done)
  have d1: ¬(bW f (nth l k)≤0∧dn=false):=fun q=>by have c:=c6; rw [decide_eq_true q.1,q.2] at c; cases c
  have d4:(dn||decide (bW f (nth l k)≤0))=dn:=by cases q:dn with
    |true=>rfl
    |false=>rw [decide_eq_false fun e=>d1 ⟨e,q⟩]; rfl
  refine aC (W_r (aA t8 (cD rfl rfl (R_e ?_))))
  refine bZ rfl (fun c8=>?_) fun c8=>?_
  ·
   have d3:bW f (nth l k)≠0:=c8
   refine W_t (aA t5 (aA t0 (aA t7 (bT (i:=k) (rVq (V.sl (List.map cF l))) (rNq k) (by omega) (bP _) rfl (aG rfl rfl (aR rfl rfl (cC (l:=out) (f:=cF) (x:=(nth l k)) (rVq (V.ms 5 v 0 out.length)) h5 (by rfl) (fV (x:=(nth l k)) (rVq (V.sl [(rFq (nth l k))]))) (eU _) (fC _) (by omega) (by omega) ?_)))))))
   refine aA rfl (R_e (n4 _ _ (.done (W_t (aA t7 (bC rfl (rNq 1) (by omega) (aA rfl ?_)))))))
   refine R_e ?_
   refine p12 _ _ _ ?_ ⟨(k+1),(out++[(nth l k)]),dn,(v+1),rfl,t0,t3,(eTq (rVq (V.ms 5 (v+1) 0 (out.length+1))) (by simp)),t6,(eTq (rNq (k+1)) (by rfl)),h3,(eTq (@rfl Blk (bz (v+1) 24 3 (List.map cF (out++[(nth l k)])))) (by rfl)),?_,?_,?_⟩
   · omega
   · omega
   · first|omega|(simp only [List.length_append,List.length_cons,List.length_nil]; omega)
   · rw [hc,wR (by omega)]; first|(rw [if_pos ⟨d1,d2⟩,if_pos d3]; simp [d1]; done)|(rw [if_pos ⟨d1,d2⟩,if_neg d3]; simp [d1]; done)|(rw [if_neg d1,if_pos d3]; simp [d4]; done)|(rw [if_neg d1,if_neg d3]; simp [d4]; done)
  have d3: ¬bW f (nth l k)≠0:=c8
  refine cN (n4 _ _ (.done (W_t (aA t7 (bC rfl (rNq 1) (by omega) (aA rfl (R_e ?_)))))))
  refine p12 _ _ _ ?_ ⟨(k+1),out,dn,v,rfl,t0,t3,t5,t6,(eTq (rNq (k+1)) (by rfl)),h3,h5,?_,?_,?_⟩
  · omega
  · omega
  · first|omega|(simp only [List.length_append,List.length_cons,List.length_nil]; omega)
  · rw [hc,wR (by omega)]; first|(rw [if_pos ⟨d1,d2⟩,if_pos d3]; simp [d1]; done)|(rw [if_pos ⟨d1,d2⟩,if_neg d3]; simp [d1]; done)|(rw [if_neg d1,if_pos d3]; simp [d4]; done)|(rw [if_neg d1,if_neg d3]; simp [d4]; done)
 refine aN (p32 _ _ _ (x1 _ _ (.done (aB (W_r (aA t6 (eL rfl ?_)))))))
 refine R_e ?_
 refine bX rfl (fun c9=>?_) (fun c9=>?_)
 ·
  refine W_r (aA t5 (aJ t3 h3 rfl rfl (aR rfl rfl (cC (l:=out) (f:=cF) (x:=f) (rVq (V.ms 5 v 0 out.length)) h5 (by rfl) (fV (x:=f) (rVq (V.sl [(rFq f)]))) (eU _) (fC _) (by omega) (by omega) (aA rfl (R_e (W_r ?_)))))))
  refine aA rfl (aA rfl (R_e (aO ?_)))
  refine bH (rVq (V.ms 5 (v+1) 0 (out.length+1))) (iJ (@rfl Blk (bz (v+1) 24 3 (List.map cF (out++[f])))) (by simp) (l:=(out++[f])) rfl (by simp) (fun _=>by simp) ?_)
  · rw [← aEF hs,hc,aJk (by omega)]; simp_all
 refine aC (W_r (aA t5 (aA rfl (R_e (aO ?_)))))
 refine bH (rVq (V.ms 5 v 0 out.length)) (iJ h5 (by simp) (l:=out) rfl (by rfl) (fun _=>by simp) ?_)
 · rw [← aEF hs,hc,aJk (by omega)]; simp_all
def s94:SF:=⟨14,[.cell 4 true 3],.seq (.reg [sO 4 (.alloc 24 zFq)]) (.seq (.seq (.reg [qM 5 1,qN 6 5,qC 7 .eql 6 1]) (.cond (.t 7) (.seq (.reg [qM 8 1,sO 9 (.idx 3 (.t 8) (.c (.int .i64 0))),qL 10 3 9,sN (.store 3 (.t 4) (.t 10))]) (.ret)) (.skip))) (.seq (.reg [qM 11 0,qM 12 1,sO 13 (.build zFq [(0,1,.t 11),(2,1,.t 12)]),sN (.store 3 (.t 4) (.t 13))]) (.ret)))⟩
theorem aPJ:bJ Tryz.prog ⟨oEq,[],[],[]⟩ Tryz.f94=some s94:=by kernel_rfl
theorem zS (o:Int) (l:List Fm):aQ Tryz.prog 94 [(iV o),(V.sl (List.map cF l))] (V.agg (rFq (jnd o l))):=by
 refine pW Tryz.func94 aPJ fun hB=>?_
 unfold s94
 dsimp only
 refine W_r (aV (i:=4) (n:=0) (m:=3) rfl (cVq rfl) rfl (R_e (aB (W_r (aA rfl (bF rfl (aX rfl rfl ?_)))))))
 refine R_e ?_
 refine aH rfl (fun c1=>?_) fun c1=>?_
 ·
  refine aB (W_r (aA rfl (bT (i:=0) (rVq (V.sl (List.map cF l))) (rNq 0) (by omega) (bP _) rfl (aG rfl rfl (bE rfl rfl rfl rfl rfl rfl rfl rfl rfl (R_e (aM ?_)))))))
  refine cM (bB (u:=(V.agg (rFq (nth l 0)))) rfl (@rfl Blk (bFq (nth l 0))) (lB oB rfl rfl)) (bD (aF ?_) (aF ?_) (dA ?_ (fun _=>by simp)))
  · rw [aGy (by omega)]
  · rw [aGy (by omega)]
  · rw [aGy (by omega)]
 refine aC (W_r (aA rfl (aA rfl (aW rfl rfl (bE rfl rfl rfl rfl rfl rfl rfl rfl rfl (R_e (aO ?_)))))))
 refine cM (bB (u:=(V.agg [(iV o),(iV 0),(V.sl (List.map cF l))])) rfl (@rfl Blk (bk 1 24 3 [[(iV o),(iV 0),(V.sl (List.map cF l))]])) (lB oB rfl rfl)) (bD (aF ?_) (aF ?_) (dA ?_ (fun _=>by simp)))
 · rw [aFW (by omega)]; try rfl
 · rw [aFW (by omega)]; try rfl
 · rw [aFW (by omega)]; try rfl
theorem aAA (f:Fm) (hok:okF f=true) (hz:f.sz≤268435456) (hq:aQ Tryz.prog 92 [(V.agg (rFq f))] (V.tup [(V.sl (List.map cCl (rsV f))),(V.bool (clB f))])):aQ Tryz.prog 64 [(V.agg (rFq f))] (V.tup [(V.agg (rFq (gW (can f)))),(V.bool (aEl f))]):=by
 refine pW Tryz.func64 aQz fun hB=>?_
 unfold s64
 dsimp only
 refine W_r (cA (i:=1) (n:=0) (m:=3) (cs:=(rFq f)) rfl (cVq rfl) rfl rfl rfl (aV (i:=2) (n:=0) (m:=3) rfl (cVq rfl) rfl (aA rfl (R_e (W_r (aJ rfl rfl rfl rfl (aI hq rfl ?_)))))))
 refine aA rfl (bK rfl rfl (bK rfl rfl (aA rfl (aA rfl (R_e (aB (W_r ?_)))))))
 refine aA rfl (eL rfl (R_e ?_))
 refine bX rfl (fun c1=>?_) (fun c1=>?_)
 ·
  have d0:clB f=false:=by simpa using c1
  have d1:can f=none:=by unfold can; rw [tK d0]; rfl
  refine aB (W_r (aW rfl rfl (bE rfl rfl rfl rfl rfl rfl rfl rfl rfl (aA rfl (R_e (aM ?_))))))
  refine eM (bB (u:=(V.agg [(iV 0),(iV 0),V.nilsl])) rfl (@rfl Blk bYq) (lB oB rfl rfl)) (bR (rVq (V.bool false))) (bD (aF ?_) (aF ?_) (bU ?_)) (aZ ?_)
  · rw [d1]; rfl
  · rw [d1]; rfl
  · rw [d1]; rfl
  · rw [wS,d0]
 have d0:=oZ (f:=f) (by simpa using c1)
 have db:clB f=true:=by simpa using c1
 have d1:can f=some (fin (rsV f)):=by unfold can; rw [d0]; rfl
 have g1:=jQ f hok _ d0
 have g2:=nT f _ d0
 have g3:=g1.len
 refine aC ?_
 refine dN (fun T H=>T 2=(mPq 2)∧T 4=(V.sl (List.map cCl (rsV f)))∧T 6=(mPq 6)∧H 1=(bFq f)∧H 2=bYq∧H 6=(bk 1 24 3 [[(iV 1),(iV 0),V.nilsl]])∧True) ?_ ?_
 ·
  refine aW rfl rfl (aV (i:=6) (n:=0) (m:=3) rfl (cVq rfl) rfl (bE rfl rfl rfl rfl rfl rfl rfl rfl rfl ?_))
  exact dZ ⟨rfl,rfl,rfl,rfl,rfl,rfl,trivial⟩
 intro T H ⟨t2,t4,t6,h1,h2,h6,_⟩
 refine aBQ (r':=[(iV 1),(iV 0),(V.sl (List.map cF ([])))]) h6 rfl (.done ?_)
 refine cP (R:=fun T H=>T 2=(mPq 2)∧T 4=(V.sl (List.map cCl (rsV f)))∧T 6=(mPq 6)∧H 1=(bFq f)∧H 2=bYq∧H 6=(bk 1 24 3 [[(iV 1),(iV 0),(V.sl (List.map cF ([])))]])∧True) ⟨t2,t4,t6,(uTq h1),(uTq h2),(aK _ _ _),trivial⟩ ?_
 intro T H ⟨t2,t4,t6,h1,h2,h6,_⟩
 refine aB (W_r (aA t4 (bF rfl (aX rfl rfl (R_e ?_)))))
 refine aH rfl (fun c2=>?_) fun c2=>?_
 ·
  rw [aNQ (by omega)] at d1
  refine aB (W_r (aJ t6 h6 rfl rfl (aR rfl rfl (aW rfl rfl (bE t2 rfl rfl h2 rfl rfl rfl rfl rfl (aA rfl (R_e ?_)))))))
  refine aM ?_
  refine eM (bB (u:=(V.agg [(iV 4),(iV 0),(V.sl [[(iV 1),(iV 0),(V.sl (List.map cF ([])))]])])) t2 (@rfl Blk (bk 1 24 3 [[(iV 4),(iV 0),(V.sl [[(iV 1),(iV 0),(V.sl (List.map cF ([])))]])]])) (lB oB rfl rfl)) (bR (rVq (V.bool true))) (bD (aF ?_) (aF ?_) (cH (by simp) (eTq (aFJ (x:=(Fm.nd (1:Int) (0:Int) [])) rfl) (congrArg (fun l=>V.sl (List.map cF l)) ?_)))) (aZ ?_)
  · rw [d1]; rfl
  · rw [d1]; rfl
  · rw [d1]; rfl
  · rw [wS,db]
 refine aC (W_r (aA rfl (R_e (aB ?_))))
 refine dN (fun T H=>T 2=(mPq 2)∧T 4=(V.sl (List.map cCl (rsV f)))∧T 6=(mPq 6)∧T 7=V.nilsl∧T 8=(iV 0)∧H 1=(bFq f)∧H 2=bYq∧H 6=(bk 1 24 3 [[(iV 1),(iV 0),(V.sl (List.map cF ([])))]])∧True) ?_ ?_
 ·
  refine aA rfl ?_
  exact dZ ⟨t2,t4,t6,rfl,rfl,h1,h2,h6,trivial⟩
 intro T H ⟨t2,t4,t6,t7,t8,h1,h2,h6,_⟩
 refine aA0 t7 (cP (R:=fun T H=>T 2=(mPq 2)∧T 4=(V.sl (List.map cCl (rsV f)))∧T 6=(mPq 6)∧T 7=(V.sl [])∧T 8=(iV 0)∧H 1=(bFq f)∧H 2=bYq∧H 6=(bk 1 24 3 [[(iV 1),(iV 0),(V.sl (List.map cF ([])))]])∧True) ⟨(uTq t2),(uTq t4),(uTq t6),(aK _ _ _),(uTq t8),h1,h2,h6,trivial⟩ ?_)
 intro T H ⟨t2,t4,t6,t7,t8,h1,h2,h6,_⟩
 refine aD fun Q3 n3 x3 y3 z3=>?_
 refine bS (fun mm T H=> ∃ (k:Nat),mm=(rsV f).length - k∧T 2=(mPq 2)∧T 4=(V.sl (List.map cCl (rsV f)))∧T 6=(mPq 6)∧T 7=(V.sl (List.map cF (unF [] (((rsV f).take k).map clF))))∧T 8=(iV ((k:Nat):Int))∧H 1=(bFq f)∧H 2=bYq∧H 6=(bk 1 24 3 [[(iV 1),(iV 0),(V.sl (List.map cF ([])))]])∧(k≤(rsV f).length)∧(∀ i,i < k→(nth (rsV f) i).length≠0)) ?_ ?_
 ·
  refine ⟨_,0,rfl,t2,t4,t6,(eTq t7 (by rfl)),(eTq t8 rfl),h1,h2,h6,?_,?_⟩
  · omega
  · intro i hi; omega
 intro mm T H ⟨k,hmm,t2,t4,t6,t7,t8,h1,h2,h6,hk,hn⟩ Q4 p14 p24 p34
 unfold aNn
 have hU:=pF (((rsV f).take k).map clF) []
 have hU2:(((rsV f).take k).map clF).length=k:=by rw [List.length_map,List.length_take]; omega
 have hU3:([]:List Fm).length=0:=rfl
 refine aB (W_r (aA t8 (aA t4 (bF rfl (bO rfl rfl (R_e ?_))))))
 refine aH rfl (fun c5=>?_) fun c5=>?_
 ·
  refine aC (aD fun Q6 n6 x6 y6 z6=>(aB (W_r (aA t4 (aA t8 (dB (i:=k) (rVq (V.sl (List.map cCl (rsV f)))) (rNq k) (by omega) rfl (aG rfl rfl ?_)))))))
  refine bF rfl (aX rfl rfl (R_e ?_))
  refine aH rfl (fun c7=>?_) fun c7=>?_
  ·
   rw [aM9 (k:=k) (by omega) (by omega)] at d1
   refine aB (W_r (aJ t6 h6 rfl rfl (bE t2 rfl rfl h2 rfl rfl rfl rfl rfl (aA rfl (R_e (aM (y6 _ _ ?_)))))))
   refine p24 _ _ (y3 _ _ ?_)
   refine eM (bB (u:=(V.agg [(iV 1),(iV 0),(V.sl (List.map cF ([])))])) t2 (@rfl Blk (bk 1 24 3 [[(iV 1),(iV 0),(V.sl (List.map cF ([])))]])) (lB oB rfl rfl)) (bR (rVq (V.bool true))) (bD (aF ?_) (aF ?_) (dA ?_ (fun _=>by simp))) (aZ ?_)
   · rw [d1]; rfl
   · rw [d1]; rfl
   · rw [d1]; rfl
   · rw [wS,db]
  have d2:(nth (rsV f) k).length≠0:=by omega
  refine aC (W_t (aA t7 (aA t4 (aA t8 (dB (i:=k) (rVq (V.sl (List.map cCl (rsV f)))) (rNq k) (by omega) rfl (aG rfl rfl (aI (zS (5:Int) (nth (rsV f) k)) rfl ?_)))))))
  refine aI (yZ (unF [] (((rsV f).take k).map clF)) (jnd (5:Int) (nth (rsV f) k)) (lH List.Pairwise.nil) (by omega)) rfl (aA rfl (R_e (n6 _ _ (.done (W_t (aA t8 (bC rfl (rNq 1) (by omega) ?_)))))))
  refine aA rfl (R_e ?_)
  refine p14 _ _ _ ?_ ⟨(k+1),rfl,t2,t4,t6,(eTq (rVq (V.sl (List.map cF (kL (jnd (5:Int) (nth (rsV f) k)) (unF [] (((rsV f).take k).map clF)))))) (by (rw [aHQ (by omega)]; rfl))),(eTq (rNq (k+1)) (by rfl)),h1,h2,h6,?_,?_⟩
  · omega
  · omega
  · intro i hi
    by_cases e:i=k
    · subst e; exact d2
    · exact hn i (by omega)
 rw [aT3 g1 (fun i hi=>hn i (by omega)) (by omega)] at d1
 have hk2:(rsV f).take k=(rsV f):=by rw [show k=(rsV f).length by omega,List.take_length]
 refine aN (p34 _ _ _ (x3 _ _ (.done (W_r (aA t7 (aI (zS (6:Int) (unF [] (((rsV f).take k).map clF))) rfl (bE t2 rfl rfl h2 rfl rfl rfl rfl rfl ?_)))))))
 refine aA rfl (R_e (aO ?_))
 refine eM (bB (u:=(V.agg (rFq (jnd (6:Int) (unF [] (((rsV f).take k).map clF)))))) t2 (@rfl Blk (bFq (jnd (6:Int) (unF [] (((rsV f).take k).map clF))))) (lB oB rfl rfl)) (bR (rVq (V.bool true))) (bD (aF ?_) (aF ?_) (dA ?_ (fun _=>by simp))) (aZ ?_)
 · rw [d1,hk2]; rfl
 · rw [d1,hk2]; rfl
 · rw [d1,hk2]; rfl
 · rw [wS,db]
def aPS:List SO:=[
 qF 40 2 1,
 ql 41 40,
 qM 42 5,
 qA 43 3 41 42,
 qL 44 3 43,
 sO 45 (.call false 92 [.t 44]),
 qM 39 45,
 qE 46 39 0,
 qE 47 39 1,
 qM 6 46,
 qM 7 47]
def aRC:List SO:=[
 qM 65 4,
 qM 66 6,
 qM 67 8,
 qA 68 1 66 67,
 ql 69 68,
 sO 70 (.call false 114 [.t 65,.t 69]),
 qM 4 70]
def aOa:SC:=.seq (.seq (.reg [qM 59 8,qM 60 6,qN 61 60,qP 62 .lss 59 61]) (.cond (.t 62) (.skip) (.exit 3))) (.seq (.block 4 (.reg aRC)) (.reg [qM 63 8,qC 64 .add 63 1,qM 8 64]))
def aPt:List SO:=[
 qF 71 0 1,
 ql 72 71,
 qC 73 .eql 72 5,
 qM 74 73,
 ⟨some (74,true),some 75,.mv (.t 4)⟩,
 ⟨some (74,true),some 76,.len (.t 75)⟩,
 ⟨some (74,true),some 77,.bin .gtr (.t 76) (.c (.int .i64 64))⟩,
 sO 78 (.pick (.t 74) (.t 77) (.c (.bool false)))]
def aKD:SC:=.seq (.seq (.reg [qM 32 5,qF 33 2 1,ql 34 33,qN 35 34,qP 36 .lss 32 35]) (.cond (.t 36) (.skip) (.exit 1))) (.seq (.block 2 (.seq (.reg aPS) (.seq (.seq (.reg [qM 48 7,sO 49 (.un .not (.t 48))]) (.cond (.t 49) (.seq (.reg [sO 2 (.mv (.c (.nilsl))),sO 3 (.mv (.c (.bool false)))]) (.ret)) (.skip))) (.seq (.seq (.reg [qM 50 5,qC 51 .eql 50 0]) (.cond (.t 51) (.reg [qM 52 6,qM 4 52]) (.seq (.reg [qF 53 0 1,ql 54 53,qC 55 .eql 54 5]) (.cond (.t 55) (.reg [qM 56 4,qM 57 6,sO 58 (.call false 113 [.t 56,.t 57]),qM 4 58]) (.seq (.reg [qI 8 0]) (.block 3 (.loop aOa))))))) (.seq (.reg aPt) (.cond (.t 78) (.seq (.reg [sO 2 (.mv (.c (.nilsl))),sO 3 (.mv (.c (.bool false)))]) (.ret)) (.skip))))))) (.reg [qM 37 5,qC 38 .add 37 1,qM 5 38]))
def aOX:List SO:=[
 qF 83 0 1,
 ql 84 83,
 qF 85 1 1,
 ql 86 85,
 sO 87 (.build zFq [(0,1,.t 84),(1,1,.t 86)]),
 sO 9 (.alloc 24 zFq),
 sN (.store 3 (.t 9) (.t 87))]
def aP4:List SO:=[
 qF 96 2 1,
 ql 97 96,
 qM 98 10,
 qA 99 3 97 98,
 qL 100 3 99,
 sO 101 (.call false 64 [.t 100]),
 qM 95 101,
 qE 102 95 0,
 qE 103 95 1,
 sO 11 (.alloc 24 zFq),
 sN (.store 3 (.t 11) (.t 102)),
 qM 12 103]
def aRi:List SO:=[
 qF 106 2 9,
 ql 107 106,
 qL 108 3 11,
 sO 109 (.bslice 24 3 false zFq 1 [(0,.t 108)]),
 sO 110 (.append 24 3 40 (.t 107) (.t 109)),
 qF 111 2 9,
 sN (.store 1 (.t 111) (.t 110))]
def aNw:SC:=.seq (.seq (.reg [qM 88 10,qF 89 2 1,ql 90 89,qN 91 90,qP 92 .lss 88 91]) (.cond (.t 92) (.skip) (.exit 5))) (.seq (.block 6 (.seq (.reg aP4) (.seq (.seq (.reg [qM 104 12,sO 105 (.un .not (.t 104))]) (.cond (.t 105) (.seq (.reg [sO 2 (.mv (.c (.nilsl))),sO 3 (.mv (.c (.bool false)))]) (.ret)) (.skip))) (.reg aRi)))) (.reg [qM 93 10,qC 94 .add 93 1,qM 10 94]))
def s92:SF:=⟨115,[.tmp 2,.tmp 3],.seq (.reg [sO 1 (.box 24 3 (.t 0)),sO 2 (.mv (.c (.nilsl))),sO 3 (.mv (.c (.bool false)))]) (.seq (.seq (.reg [qF 13 0 1,ql 14 13]) (.block 0 (.seq (.reg [qC 16 .eql 14 1,qM 15 16]) (.cond (.t 15) (.seq (.reg [sO 17 (.bslice 22 1 false [.nilsl] 1 [(0,.c (.nilsl))]),qM 2 17,sO 3 (.mv (.c (.bool true)))]) (.ret)) (.seq (.reg [qC 19 .eql 14 4,qM 18 19]) (.cond (.t 18) (.seq (.seq (.reg [qF 20 2 1,ql 21 20,sO 22 (.idx 3 (.t 21) (.c (.int .i64 0))),qF 23 0 22,ql 24 23,qC 25 .eql 24 1]) (.cond (.t 25) (.seq (.reg [sO 2 (.mv (.c (.nilsl))),sO 3 (.mv (.c (.bool true)))]) (.ret)) (.skip))) (.seq (.reg [qL 26 3 1,sO 27 (.bslice 24 3 false zFq 1 [(0,.t 26)]),sO 28 (.bslice 22 1 false [.nilsl] 1 [(0,.t 27)]),qM 2 28,sO 3 (.mv (.c (.bool true)))]) (.ret))) (.seq (.seq (.reg [qC 30 .eql 14 5,qM 29 30]) (.cond (.t 29) (.skip) (.reg [qC 31 .eql 14 6,qM 29 31]))) (.cond (.t 29) (.seq (.reg [sO 4 (.mv (.c (.nilsl)))]) (.seq (.seq (.reg [qI 5 0]) (.block 1 (.loop aKD))) (.seq (.reg [qM 79 4,qM 80 4,qN 81 80,qC 82 .leq 81 64,qM 2 79,qM 3 82]) (.ret)))) (.skip))))))))) (.seq (.reg aOX) (.seq (.seq (.reg [qI 10 0]) (.block 5 (.loop aNw))) (.seq (.reg [qL 112 3 9,sO 113 (.bslice 24 3 false zFq 1 [(0,.t 112)]),sO 114 (.bslice 22 1 false [.nilsl] 1 [(0,.t 113)]),qM 2 114,sO 3 (.mv (.c (.bool true)))]) (.ret)))))⟩
theorem aQU:bJ Tryz.prog ⟨oEq,[],[],[]⟩ Tryz.f92=some s92:=by kernel_rfl
def aOj:List SO:=[
 sO 22 (.lazy 24 3),
 qM 23 0,
 qM 24 6,
 qA 25 1 23 24,
 ql 26 25,
 sO 27 (.append 24 3 40 (.t 22) (.t 26)),
 qM 8 27]
def aMQ:List SO:=[
 qM 28 9,
 qM 29 1,
 qM 30 7,
 qA 31 1 29 30,
 ql 32 31,
 qN 33 32,
 qP 34 .lss 28 33]
def aM2:List SO:=[
 qM 37 8,
 qM 38 1,
 qM 39 7,
 qA 40 1 38 39,
 ql 41 40,
 qM 42 9,
 qA 43 3 41 42,
 qL 44 3 43,
 sO 45 (.call false 93 [.t 37,.t 44]),
 qM 8 45]
def aIp:SC:=.seq (.seq (.reg aMQ) (.cond (.t 34) (.skip) (.exit 4))) (.seq (.block 5 (.reg aM2)) (.reg [qM 35 9,qC 36 .add 35 1,qM 9 36]))
def aJp:SC:=.seq (.seq (.reg [qM 16 7,qM 17 1,qN 18 17,qP 19 .lss 16 18]) (.cond (.t 19) (.skip) (.exit 2))) (.seq (.block 3 (.seq (.reg aOj) (.seq (.seq (.reg [qI 9 0]) (.block 4 (.loop aIp))) (.reg [qM 46 5,qM 47 8,sO 48 (.call false 114 [.t 46,.t 47]),qM 5 48])))) (.reg [qM 20 7,qC 21 .add 20 1,qM 7 21]))
def aIY:SC:=.seq (.seq (.reg [qM 10 6,qM 11 0,qN 12 11,qP 13 .lss 10 12]) (.cond (.t 13) (.skip) (.exit 0))) (.seq (.block 1 (.seq (.reg [qI 7 0]) (.block 2 (.loop aJp)))) (.reg [qM 14 6,qC 15 .add 14 1,qM 6 15]))
def aST:SF:=⟨50,[.tmp 4],.seq (.reg [sO 4 (.mv (.c (.nilsl)))]) (.seq (.reg [sO 5 (.mv (.c (.nilsl)))]) (.seq (.seq (.reg [qI 6 0]) (.block 0 (.loop aIY))) (.seq (.reg [qM 49 5,qM 4 49]) (.ret))))⟩
theorem aMP:bJ Tryz.prog ⟨oEq,[22],[],[]⟩ Tryz.f113=some aST:=by kernel_rfl
def aQX:List SO:=[
 qM 20 0,
 qM 21 6,
 qA 22 1 20 21,
 ql 23 22,
 qM 24 1,
 sO 25 (.call false 133 [.t 23,.t 24]),
 sO 26 (.un .not (.t 25))]
def aP6:List SO:=[
 qM 27 5,
 qM 28 0,
 qM 29 6,
 qA 30 1 28 29,
 ql 31 30,
 sO 32 (.bslice 22 1 false [.nilsl] 1 [(0,.t 31)]),
 sO 33 (.append 22 1 24 (.t 27) (.t 32)),
 qM 5 33]
def aKO:SC:=.seq (.seq (.reg [qM 7 6,qM 8 0,qN 9 8,qP 10 .lss 7 9]) (.cond (.t 10) (.skip) (.exit 0))) (.seq (.block 1 (.seq (.seq (.reg [qM 13 1,qM 14 0,qM 15 6,qA 16 1 14 15,ql 17 16,sO 18 (.call false 133 [.t 13,.t 17])]) (.cond (.t 18) (.seq (.reg [qM 19 0,qM 4 19]) (.ret)) (.skip))) (.seq (.reg aQX) (.cond (.t 26) (.reg aP6) (.skip))))) (.reg [qM 11 6,qC 12 .add 11 1,qM 6 12]))
def aRZ:SF:=⟨38,[.tmp 4],.seq (.reg [sO 4 (.mv (.c (.nilsl)))]) (.seq (.reg [sO 5 (.lazy 22 1)]) (.seq (.seq (.reg [qI 6 0]) (.block 0 (.loop aKO))) (.seq (.reg [qM 34 5,qM 35 1,sO 36 (.bslice 22 1 false [.nilsl] 1 [(0,.t 35)]),sO 37 (.append 22 1 24 (.t 34) (.t 36)),qM 4 37]) (.ret))))⟩
theorem aLT:bJ Tryz.prog ⟨oEq,[5],[],[]⟩ Tryz.f114=some aRZ:=by kernel_rfl
def aPo:List SO:=[
 qM 20 6,
 qM 21 20,
 ⟨some (21,false),some 22,.mv (.t 0)⟩,
 ⟨some (21,false),some 23,.mv (.t 7)⟩,
 ⟨some (21,false),some 24,.idx 3 (.t 22) (.t 23)⟩,
 ⟨some (21,false),some 25,.load true 3 (.t 24)⟩,
 ⟨some (21,false),some 26,.mv (.t 1)⟩,
 ⟨some (21,false),some 27,.mv (.t 5)⟩,
 ⟨some (21,false),some 28,.idx 3 (.t 26) (.t 27)⟩,
 ⟨some (21,false),some 29,.load true 3 (.t 28)⟩,
 ⟨some (21,false),some 30,.call false 17 [.t 25,.t 29]⟩,
 sO 31 (.pick (.t 21) (.c (.bool true)) (.t 30)),
 qM 6 31]
def aI1:SC:=.seq (.seq (.reg [qM 14 7,qM 15 0,qN 16 15,qP 17 .lss 14 16]) (.cond (.t 17) (.skip) (.exit 2))) (.seq (.block 3 (.reg aPo)) (.reg [qM 18 7,qC 19 .add 18 1,qM 7 19]))
def aJ6:SC:=.seq (.seq (.reg [qM 8 5,qM 9 1,qN 10 9,qP 11 .lss 8 10]) (.cond (.t 11) (.skip) (.exit 0))) (.seq (.block 1 (.seq (.reg [sO 6 (.mv (.c (.bool false)))]) (.seq (.seq (.reg [qI 7 0]) (.block 2 (.loop aI1))) (.seq (.reg [qM 32 6,sO 33 (.un .not (.t 32))]) (.cond (.t 33) (.seq (.reg [sO 4 (.mv (.c (.bool false)))]) (.ret)) (.skip)))))) (.reg [qM 12 5,qC 13 .add 12 1,qM 5 13]))
def aSJ:SF:=⟨34,[.tmp 4],.seq (.reg [sO 4 (.mv (.c (.bool false)))]) (.seq (.seq (.reg [qI 5 0]) (.block 0 (.loop aJ6))) (.seq (.reg [sO 4 (.mv (.c (.bool true)))]) (.ret)))⟩
theorem aL5:bJ Tryz.prog ⟨oEq,[],[],[]⟩ Tryz.f133=some aSJ:=by kernel_rfl
def aS2:List SO:=[
 qF 6 0 2,
 ql 7 6,
 qF 8 0 3,
 ql 9 8,
 qP 10 .neq 7 9,
 qM 11 10,
 ⟨some (11,false),some 12,.fld 1 (.t 2)⟩,
 ⟨some (11,false),some 13,.load false 1 (.t 12)⟩,
 ⟨some (11,false),some 14,.fld 1 (.t 3)⟩,
 ⟨some (11,false),some 15,.load false 1 (.t 14)⟩,
 ⟨some (11,false),some 16,.bin .neq (.t 13) (.t 15)⟩,
 sO 17 (.pick (.t 11) (.c (.bool true)) (.t 16)),
 qM 18 17,
 ⟨some (18,false),some 19,.fld 2 (.t 2)⟩,
 ⟨some (18,false),some 20,.load false 1 (.t 19)⟩,
 ⟨some (18,false),some 21,.len (.t 20)⟩,
 ⟨some (18,false),some 22,.fld 2 (.t 3)⟩,
 ⟨some (18,false),some 23,.load false 1 (.t 22)⟩,
 ⟨some (18,false),some 24,.len (.t 23)⟩,
 ⟨some (18,false),some 25,.bin .neq (.t 21) (.t 24)⟩,
 sO 26 (.pick (.t 18) (.c (.bool true)) (.t 25))]
def aR8:List SO:=[
 qF 34 2 2,
 ql 35 34,
 qM 36 5,
 qA 37 3 35 36,
 qL 38 3 37,
 qF 39 2 3,
 ql 40 39,
 qM 41 5,
 qA 42 3 40 41,
 qL 43 3 42,
 sO 44 (.call false 17 [.t 38,.t 43]),
 sO 45 (.un .not (.t 44))]
def aNp:SC:=.seq (.seq (.reg [qM 27 5,qF 28 2 2,ql 29 28,qN 30 29,qP 31 .lss 27 30]) (.cond (.t 31) (.skip) (.exit 0))) (.seq (.block 1 (.seq (.reg aR8) (.cond (.t 45) (.seq (.reg [sO 4 (.mv (.c (.bool false)))]) (.ret)) (.skip)))) (.reg [qM 32 5,qC 33 .add 32 1,qM 5 33]))
def s17:SF:=⟨46,[.tmp 4],.seq (.reg [sO 2 (.box 24 3 (.t 0)),sO 3 (.box 24 3 (.t 1)),sO 4 (.mv (.c (.bool false)))]) (.seq (.seq (.reg aS2) (.cond (.t 26) (.seq (.reg [sO 4 (.mv (.c (.bool false)))]) (.ret)) (.skip))) (.seq (.seq (.reg [qI 5 0]) (.block 0 (.loop aNp))) (.seq (.reg [sO 4 (.mv (.c (.bool true)))]) (.ret))))⟩
theorem aQY:bJ Tryz.prog ⟨oEq,[],[],[]⟩ Tryz.f17=some s17:=by kernel_rfl
theorem vY (f h:Fm) (ih: ∀ (g h:Fm),g.sz < f.sz→aQ Tryz.prog 17 [(V.agg (rFq g)),(V.agg (rFq h))] (V.bool (eA g h))):aQ Tryz.prog 17 [(V.agg (rFq f)),(V.agg (rFq h))] (V.bool (eA f h)):=by
 refine pW Tryz.func17 aQY fun hB=>?_
 unfold s17
 dsimp only
 refine W_r (cA (i:=2) (n:=0) (m:=3) (cs:=(rFq f)) rfl (cVq rfl) rfl rfl rfl (cA (i:=3) (n:=0) (m:=3) (cs:=(rFq h)) rfl (cVq rfl) rfl rfl rfl (aA rfl (R_e (aB (W_r (aL rfl rfl ?_)))))))
 refine aJ rfl rfl rfl rfl (aL rfl rfl (aJ rfl rfl rfl rfl (cD rfl rfl (aA rfl ?_))))
 refine aT 6 (fun T H=>T 2=(mPq 2)∧T 3=(mPq 3)∧T 17=(V.bool (decide ((f.op≠h.op)∨(f.arg≠h.arg))))∧H 2=(bFq f)∧H 3=(bFq h)∧True) ?_ ?_
 ·
  by_cases g1:f.op≠h.op
  ·
   refine G_n (edT g1 rfl) (G_n (edT g1 rfl) (G_n (edT g1 rfl) (G_n (edT g1 rfl) (G_n (edT g1 rfl) (aS (edT g1 rfl) rfl ?_)))))
   exact ⟨rfl,rfl,(cV g1),rfl,rfl,trivial⟩
  ·
   refine aE (edF g1 rfl) (aL rfl rfl (aE (edF g1 rfl) (aJ rfl rfl rfl rfl (aE (edF g1 rfl) (aL rfl rfl (aE (edF g1 rfl) (aJ rfl rfl rfl rfl ?_)))))))
   refine aE (edF g1 rfl) (cD rfl rfl (aU (edF g1 rfl) rfl ?_))
   exact ⟨rfl,rfl,(cU g1),rfl,rfl,trivial⟩
 intro T H ⟨t2,t3,t17,h2,h3,_⟩
 refine aA t17 ?_
 refine aT 8 (fun T H=>T 2=(mPq 2)∧T 3=(mPq 3)∧T 26=(V.bool (decide (((f.op≠h.op)∨(f.arg≠h.arg))∨(((f.kids.length:Nat):Int)≠((h.kids.length:Nat):Int)))))∧H 2=(bFq f)∧H 3=(bFq h)∧True) ?_ ?_
 ·
  by_cases g2:(f.op≠h.op)∨(f.arg≠h.arg)
  ·
   refine G_n (edT g2 rfl) (G_n (edT g2 rfl) (G_n (edT g2 rfl) (G_n (edT g2 rfl) (G_n (edT g2 rfl) (G_n (edT g2 rfl) (G_n (edT g2 rfl) (aS (edT g2 rfl) rfl ?_)))))))
   exact ⟨t2,t3,(cV g2),h2,h3,trivial⟩
  ·
   refine aE (edF g2 rfl) (aL t2 h2 (aE (edF g2 rfl) (aJ rfl h2 rfl rfl (aE (edF g2 rfl) (bF rfl (aE (edF g2 rfl) (aL t3 h3 ?_)))))))
   refine aE (edF g2 rfl) (aJ rfl h3 rfl rfl (aE (edF g2 rfl) (bF rfl (aE (edF g2 rfl) (cD rfl rfl (aU (edF g2 rfl) rfl ?_))))))
   exact ⟨t2,t3,(cU g2),h2,h3,trivial⟩
 intro T H ⟨t2,t3,t26,h2,h3,_⟩
 refine R_e ?_
 refine aH t26 (fun c3=>?_) fun c3=>?_
 ·
  refine aB (W_r (aA rfl (R_e (aM ?_))))
  refine bH (rVq (V.bool false)) (aZ ?_)
  · rw [rN]; symm; simp only [Bool.and_eq_false_iff,decide_eq_false_iff_not]; omega
 refine aC (aB (W_r (aA rfl (R_e (aD fun Q4 n4 x4 y4 z4=>?_)))))
 refine bS (fun mm T H=> ∃ (k:Nat),mm=f.kids.length - k∧T 2=(mPq 2)∧T 3=(mPq 3)∧T 5=(iV ((k:Nat):Int))∧H 2=(bFq f)∧H 3=(bFq h)∧(k≤f.kids.length)∧(f.kids.length=h.kids.length)∧(iI f.kids h.kids=iI (f.kids.drop k) (h.kids.drop k))) ?_ ?_
 ·
  refine ⟨_,0,rfl,t2,t3,(eTq (rVq (iV 0)) rfl),h2,h3,?_,?_,?_⟩
  · omega
  · omega
  · rfl
 intro mm T H ⟨k,hmm,t2,t3,t5,h2,h3,hk,hl,hc⟩ Q5 p15 p25 p35
 unfold aNp
 refine aB (W_r (aA t5 (aL t2 h2 (aJ rfl h2 rfl rfl (bF rfl (bO rfl rfl (R_e ?_)))))))
 refine aH rfl (fun c6=>?_) fun c6=>?_
 ·
  refine aC (aD fun Q7 n7 x7 y7 z7=>(W_r (aL t2 h2 (aJ rfl h2 rfl rfl (aA t5 (bT (i:=k) (rVq (V.sl (List.map cF f.kids))) (rNq k) (by omega) (bP _) rfl (aG rfl rfl ?_)))))))
  refine aL t3 h3 (aJ rfl h3 rfl rfl (aA t5 (bT (i:=k) (rVq (V.sl (List.map cF h.kids))) (rNq k) (by omega) (bP _) rfl (aG rfl rfl (aI (ih (nth f.kids k) (nth h.kids k) skq) rfl (eL rfl (R_e ?_)))))))
  refine lI rfl (fun c8=>?_) (fun c8=>?_)
  ·
   have d1:eA (nth f.kids k) (nth h.kids k)=false:=by simpa using c8
   refine W_r (aA rfl (R_e (aO (y7 _ _ (p25 _ _ (y4 _ _ ?_))))))
   refine bH (rVq (V.bool false)) (aZ ?_)
   · rw [rN,hc,aDV (by omega) (by omega) d1,Bool.and_false]
  have d1:eA (nth f.kids k) (nth h.kids k)=true:=by simpa using c8
  refine cN (n7 _ _ (.done (W_t (aA t5 (bC rfl (rNq 1) (by omega) (aA rfl (R_e ?_)))))))
  refine p15 _ _ _ ?_ ⟨(k+1),rfl,t2,t3,(eTq (rNq (k+1)) (by rfl)),h2,h3,?_,?_,?_⟩
  · omega
  · omega
  · omega
  · rw [hc,aAj (by omega) (by omega) d1]
 refine aN (p35 _ _ _ (x4 _ _ (.done (W_r (aA rfl (R_e (aO ?_)))))))
 refine bH (rVq (V.bool true)) (aZ ?_)
 · rw [rN,hc,aAv (by omega),Bool.and_true]; symm; simp only [Bool.and_eq_true,decide_eq_true_eq]; omega
theorem yR (f h:Fm):aQ Tryz.prog 17 [(V.agg (rFq f)),(V.agg (rFq h))] (V.bool (eA f h)):=by
  have key: ∀ (mm:Nat) (f h:Fm),f.sz < mm→aQ Tryz.prog 17 [(V.agg (rFq f)),(V.agg (rFq h))] (V.bool (eA f h)):=by
    intro mm
    induction mm with
    |zero=>intro f h hlt; exact absurd hlt (Nat.not_lt_zero _)
    | succ mm ih =>
      intro f h hlt
      exact vY f h fun f2 h2 hlt2=>ih f2 h2 (by omega)
  exact key (f.sz+1) f h (Nat.lt_succ_self _)
theorem xL (c d:Cl):aQ Tryz.prog 133 [(V.sl (List.map cF c)),(V.sl (List.map cF d))] (V.bool (dP c d)):=by
 refine pW Tryz.func133 aL5 fun hB=>?_
 unfold aSJ
 dsimp only
 refine W_r (aA rfl (R_e (aB (W_r (aA rfl (R_e (aD fun Q1 n1 x1 y1 z1=>?_)))))))
 refine bS (fun mm T H=> ∃ (k:Nat),mm=d.length - k∧T 0=(V.sl (List.map cF c))∧T 1=(V.sl (List.map cF d))∧T 5=(iV ((k:Nat):Int))∧(k≤d.length)∧(dP c d=dP c (d.drop k))) ?_ ?_
 ·
  refine ⟨_,0,rfl,rfl,rfl,(eTq (rVq (iV 0)) rfl),?_,?_⟩
  · omega
  · rfl
 intro mm T H ⟨k,hmm,t0,t1,t5,hk,hc⟩ Q2 p12 p22 p32
 unfold aJ6
 refine aB (W_r (aA t5 (aA t1 (bF rfl (bO rfl rfl (R_e ?_))))))
 refine aH rfl (fun c3=>?_) fun c3=>?_
 ·
  refine aC (aD fun Q4 n4 x4 y4 z4=>(W_r (aA rfl (R_e (aB (W_r (aA rfl ?_)))))))
  refine R_e (aD fun Q5 n5 x5 y5 z5=>?_)
  refine bS (fun mm T H=> ∃ (j:Nat) (x:Bool),mm=c.length - j∧T 0=(V.sl (List.map cF c))∧T 1=(V.sl (List.map cF d))∧T 5=(iV ((k:Nat):Int))∧T 6=(V.bool x)∧T 7=(iV ((j:Nat):Int))∧(j≤c.length)∧(x=(c.take j).any fun y=>eA y (nth d k))) ?_ ?_
  ·
   refine ⟨_,0,false,rfl,t0,t1,t5,rfl,(eTq (rVq (iV 0)) rfl),?_,?_⟩
   · omega
   · simp
  intro mm T H ⟨j,x,hmm,t0,t1,t5,t6,t7,hj,hx⟩ Q6 p16 p26 p36
  unfold aI1
  refine aB (W_r (aA t7 (aA t0 (bF rfl (bO rfl rfl (R_e ?_))))))
  refine aH rfl (fun c7=>?_) fun c7=>?_
  ·
   refine aC (aD fun Q8 n8 x8 y8 z8=>(W_t (aA t6 (aA rfl ?_))))
   refine aT 10 (fun T H=>T 0=(V.sl (List.map cF c))∧T 1=(V.sl (List.map cF d))∧T 5=(iV ((k:Nat):Int))∧T 6=(V.bool x)∧T 7=(iV ((j:Nat):Int))∧T 31=(V.bool (x||(eA (nth c j) (nth d k))))∧True) ?_ ?_
   ·
    by_cases g9:x=true
    ·
     refine G_n (ebT g9 rfl) (G_n (ebT g9 rfl) (G_n (ebT g9 rfl) (G_n (ebT g9 rfl) (G_n (ebT g9 rfl) (G_n (ebT g9 rfl) (G_n (ebT g9 rfl) (G_n (ebT g9 rfl) ?_)))))))
     refine G_n (ebT g9 rfl) (aS (ebT g9 rfl) rfl ?_)
     exact ⟨t0,t1,t5,t6,t7,(aKm g9),trivial⟩
    ·
     refine aE (ebF g9 rfl) (aA t0 (aE (ebF g9 rfl) (aA t7 (aE (ebF g9 rfl) (bT (i:=j) (rVq (V.sl (List.map cF c))) (rNq j) (by omega) (bP _) rfl (aE (ebF g9 rfl) (aG rfl rfl ?_)))))))
     refine aE (ebF g9 rfl) (aA t1 (aE (ebF g9 rfl) (aA t5 (aE (ebF g9 rfl) (bT (i:=k) (rVq (V.sl (List.map cF d))) (rNq k) (by omega) (bP _) rfl (aE (ebF g9 rfl) (aG rfl rfl ?_)))))))
     refine aE (ebF g9 rfl) (aI (yR (nth c j) (nth d k)) rfl (aU (ebF g9 rfl) rfl ?_))
     exact ⟨t0,t1,t5,t6,t7,(aKv g9),trivial⟩
   intro T H ⟨t0,t1,t5,t6,t7,t31,_⟩
   refine aA t31 (R_e (n8 _ _ (.done (W_t (aA t7 (bC rfl (rNq 1) (by omega) (aA rfl ?_)))))))
   refine R_e ?_
   refine p16 _ _ _ ?_ ⟨(j+1),(x||eA (nth c j) (nth d k)),rfl,t0,t1,t5,(eTq (rVq (V.bool (x||(eA (nth c j) (nth d k))))) (by rfl)),(eTq (rNq (j+1)) (by rfl)),?_,?_⟩
   · omega
   · omega
   · rw [aHc (by omega),← hx]
  have hx2:x=c.any fun y=>eA y (nth d k):=by rw [hx,show j=c.length by omega,List.take_length]
  refine aN (p36 _ _ _ (x5 _ _ (.done (W_r (aA t6 (eL rfl (R_e ?_)))))))
  refine lI rfl (fun c10=>?_) (fun c10=>?_)
  ·
   have d1:(c.any fun y=>eA y (nth d k))=false:=by rw [← hx2]; simpa using c10
   refine W_r (aA rfl (R_e (aO (y4 _ _ (p22 _ _ (y1 _ _ ?_))))))
   refine bH (rVq (V.bool false)) (aZ ?_)
   · rw [hc,aQj (by omega) d1]
  have d1:(c.any fun y=>eA y (nth d k))=true:=by rw [← hx2]; simpa using c10
  refine cN (n4 _ _ (.done (W_t (aA t5 (bC rfl (rNq 1) (by omega) (aA rfl (R_e ?_)))))))
  refine p12 _ _ _ ?_ ⟨(k+1),rfl,t0,t1,(eTq (rNq (k+1)) (by rfl)),?_,?_⟩
  · omega
  · omega
  · rw [hc,aPr (by omega) d1]
 refine aN (p32 _ _ _ (x1 _ _ (.done (W_r (aA rfl (R_e (aO ?_)))))))
 refine bH (rVq (V.bool true)) (aZ ?_)
 · rw [hc,aLS (by omega)]
theorem aAs (s:List Cl) (c:Cl) (hz:s.length≤2199023255552):aQ Tryz.prog 114 [(V.sl (List.map cCl s)),(V.sl (List.map cF c))] (V.sl (List.map cCl (wth s c))):=by
 refine pW Tryz.func114 aLT fun hB=>?_
 unfold aRZ
 dsimp only
 refine W_r (aA rfl (R_e (W_r (nQ (i:=5) (n:=0) rfl (cVq rfl) (R_e (aB (W_r ?_)))))))
 refine aA rfl (R_e (aD fun Q1 n1 x1 y1 z1=>?_))
 refine bS (fun mm T H=> ∃ (k:Nat) (v:Nat),mm=s.length - k∧T 0=(V.sl (List.map cCl s))∧T 1=(V.sl (List.map cF c))∧T 5=(V.ms 5 v 0 (((s.take k).filter (fun d=> !dP d c)).length))∧T 6=(iV ((k:Nat):Int))∧H 5=(bz v 22 1 (List.map cCl ((s.take k).filter (fun d=> !dP d c))))∧(k≤s.length)∧(∀ i,i < k→dP c (nth s i)=false)) ?_ ?_
 ·
  refine ⟨_,0,1,rfl,rfl,rfl,(eTq (rVq (V.ms 5 1 0 0)) (by rfl)),(eTq (rVq (iV 0)) rfl),(eTq (@rfl Blk (bz 1 22 1 [])) (by rfl)),?_,?_⟩
  · omega
  · intro i hi; omega
 intro mm T H ⟨k,v,hmm,t0,t1,t5,t6,h5,hk,hn⟩ Q2 p12 p22 p32
 unfold aKO
 have hq1:=aGg (fun d=> !dP d c) s k
 refine aB (W_r (aA t6 (aA t0 (bF rfl (bO rfl rfl (R_e ?_))))))
 refine aH rfl (fun c3=>?_) fun c3=>?_
 ·
  refine aC (aD fun Q4 n4 x4 y4 z4=>(aB (W_r (aA t1 (aA t0 (aA t6 (dB (i:=k) (rVq (V.sl (List.map cCl s))) (rNq k) (by omega) rfl ?_)))))))
  refine aG rfl rfl (aI (xL c (nth s k)) rfl (R_e ?_))
  refine bX rfl (fun c5=>?_) (fun c5=>?_)
  ·
   have d1:=aLx (by omega) c5
   refine aB (W_r (aA t0 (aA rfl (R_e (aM (y4 _ _ (p22 _ _ ?_)))))))
   refine y1 _ _ ?_
   refine bH (rVq (V.sl (List.map cCl s))) (dA ?_ (fun _=>by simp))
   · exact d1
  have d1:=c5
  refine aC (W_r (aA t0 (aA t6 (dB (i:=k) (rVq (V.sl (List.map cCl s))) (rNq k) (by omega) rfl (aG rfl rfl (aA t1 (aI (xL (nth s k) c) rfl ?_)))))))
  refine eL rfl (R_e ?_)
  refine lI rfl (fun c6=>?_) (fun c6=>?_)
  ·
   have d2:(fun d=> !dP d c) (nth s k)=true:=c6
   refine W_t (aA t5 (aA t0 (aA t6 (dB (i:=k) (rVq (V.sl (List.map cCl s))) (rNq k) (by omega) rfl (aG rfl rfl (aR rfl rfl (cC (l:=((s.take k).filter (fun d=> !dP d c))) (f:=cCl) (x:=(nth s k)) (rVq (V.ms 5 v 0 (((s.take k).filter (fun d=> !dP d c)).length))) h5 (by rfl) (rVq (V.sl [[(V.sl (List.map cF (nth s k)))]])) rfl rfl (by omega) (by omega) ?_)))))))
   refine aA rfl (R_e (n4 _ _ (.done (W_t (aA t6 (bC rfl (rNq 1) (by omega) (aA rfl ?_)))))))
   refine R_e ?_
   refine p12 _ _ _ ?_ ⟨(k+1),(v+1),rfl,t0,t1,(eTq (rVq (V.ms 5 (v+1) 0 ((((s.take k).filter (fun d=> !dP d c)).length)+1))) (by (rw [wV (by omega) d2,List.length_append]; rfl))),(eTq (rNq (k+1)) (by rfl)),(eTq (@rfl Blk (bz (v+1) 22 1 (List.map cCl ((s.take k).filter (fun d=> !dP d c)++[(nth s k)])))) (by (rw [wV (by omega) d2]; done))),?_,?_⟩
   · omega
   · omega
   · intro i hi
     by_cases e:i=k
     · subst e; exact d1
     · exact hn i (by omega)
  have d2: ¬(fun d=> !dP d c) (nth s k)=true:=by simpa using c6
  refine cN (n4 _ _ (.done (W_t (aA t6 (bC rfl (rNq 1) (by omega) (aA rfl (R_e ?_)))))))
  refine p12 _ _ _ ?_ ⟨(k+1),v,rfl,t0,t1,(eTq t5 (by (rw [aBG (by omega) d2]; done))),(eTq (rNq (k+1)) (by rfl)),(eTq h5 (by (rw [aBG (by omega) d2]; done))),?_,?_⟩
  · omega
  · omega
  · intro i hi
    by_cases e:i=k
    · subst e; exact d1
    · exact hn i (by omega)
 refine aN (p32 _ _ _ (x1 _ _ (.done (W_r (aA t5 (aA t1 (aR rfl rfl ?_)))))))
 refine cC (l:=((s.take k).filter (fun d=> !dP d c))) (f:=cCl) (x:=c) (rVq (V.ms 5 v 0 (((s.take k).filter (fun d=> !dP d c)).length))) h5 (by rfl) (rVq (V.sl [[(V.sl (List.map cF c))]])) rfl rfl (by omega) (by omega) (aA rfl (R_e (aO ?_)))
 refine bH (rVq (V.ms 5 (v+1) 0 ((((s.take k).filter (fun d=> !dP d c)).length)+1))) (iJ (@rfl Blk (bz (v+1) 22 1 (List.map cCl ((s.take k).filter (fun d=> !dP d c)++[c])))) (by simp) (l:=((s.take k).filter (fun d=> !dP d c)++[c])) rfl (by simp) (fun _=>by simp) ?_)
 · rw [show k=s.length by omega,List.take_length]; exact aM0 (fun i hi=>hn i (by omega))
theorem aDJ (a b:List Cl) (ha: ∀ k,k < a.length→gO (nth a k)) (la: ∀ k,k < a.length→(nth a k).length≤536870912) (lb: ∀ k,k < b.length→(nth b k).length≤536870912) (na:a.length≤64) (nb:b.length≤65536):aQ Tryz.prog 113 [(V.sl (List.map cCl a)),(V.sl (List.map cCl b))] (V.sl (List.map cCl (prd a b))):=by
 refine pW Tryz.func113 aMP fun hB=>?_
 unfold aST
 dsimp only
 refine W_r (aA rfl (R_e (W_r (aA rfl (R_e (aB ?_))))))
 refine dN (fun T H=>T 0=(V.sl (List.map cCl a))∧T 1=(V.sl (List.map cCl b))∧T 5=V.nilsl∧T 6=(iV 0)∧H 22=bZq∧True) ?_ ?_
 ·
  refine aA rfl ?_
  exact dZ ⟨rfl,rfl,rfl,rfl,rfl,trivial⟩
 intro T H ⟨t0,t1,t5,t6,h22,_⟩
 refine aA0 t5 (cP (R:=fun T H=>T 0=(V.sl (List.map cCl a))∧T 1=(V.sl (List.map cCl b))∧T 5=(V.sl [])∧T 6=(iV 0)∧H 22=bZq∧True) ⟨(uTq t0),(uTq t1),(aK _ _ _),(uTq t6),h22,trivial⟩ ?_)
 intro T H ⟨t0,t1,t5,t6,h22,_⟩
 refine aD fun Q1 n1 x1 y1 z1=>?_
 refine bS (fun mm T H=> ∃ (k:Nat) (v22:Nat),mm=a.length - k∧T 0=(V.sl (List.map cCl a))∧T 1=(V.sl (List.map cCl b))∧T 5=(V.sl (List.map cCl (prd (a.take k) b)))∧T 6=(iV ((k:Nat):Int))∧(H 22).ver=v22∧(k≤a.length)) ?_ ?_
 ·
  refine ⟨_,0,0,rfl,t0,t1,(eTq t5 (by rfl)),(eTq t6 rfl),(cVq h22),?_⟩
  · omega
 intro mm T H ⟨k,v22,hmm,t0,t1,t5,t6,h22,hk⟩ Q2 p12 p22 p32
 unfold aIY
 have hN:=aDZ na nb hk
 refine aB (W_r (aA t6 (aA t0 (bF rfl (bO rfl rfl (R_e ?_))))))
 refine aH rfl (fun c3=>?_) fun c3=>?_
 ·
  refine aC (aD fun Q4 n4 x4 y4 z4=>(W_r (aA rfl (R_e (iC fun Q5 n5 x5 y5 z5=>?_)))))
  refine bS (fun mm T H=> ∃ (j:Nat) (v22:Nat),mm=b.length - j∧T 0=(V.sl (List.map cCl a))∧T 1=(V.sl (List.map cCl b))∧T 5=(V.sl (List.map cCl (prC (prd (a.take k) b) (nth a k) (b.take j))))∧T 6=(iV ((k:Nat):Int))∧T 7=(iV ((j:Nat):Int))∧(H 22).ver=v22∧(j≤b.length)) ?_ ?_
  ·
   refine ⟨_,0,v22,rfl,t0,t1,(eTq t5 (by rfl)),t6,(eTq (rVq (iV 0)) rfl),h22,?_⟩
   · omega
  intro mm T H ⟨j,v22,hmm,t0,t1,t5,t6,t7,h22,hj⟩ Q6 p16 p26 p36
  unfold aJp
  have hM:=aFo (prd (a.take k) b) (nth a k) (b.take j)
  have hM2:(b.take j).length=j:=by rw [List.length_take]; omega
  have hla:k < a.length→(nth a k).length≤536870912:=la k
  have hlb:j < b.length→(nth b j).length≤536870912:=lb j
  refine aB (W_r (aA t7 (aA t1 (bF rfl (bO rfl rfl (R_e ?_))))))
  refine aH rfl (fun c7=>?_) fun c7=>?_
  ·
   refine aC (aD fun Q8 n8 x8 y8 z8=>?_)
   refine dN (fun T H=>T 0=(V.sl (List.map cCl a))∧T 1=(V.sl (List.map cCl b))∧T 5=(V.sl (List.map cCl (prC (prd (a.take k) b) (nth a k) (b.take j))))∧T 6=(iV ((k:Nat):Int))∧T 7=(iV ((j:Nat):Int))∧T 8=(V.ms 22 (v22+2) 0 (0+(nth a k).length))∧H 22=(bz (v22+2) 24 3 (List.map cF ([]++(nth a k))))∧True) ?_ ?_
   ·
    refine nQ (i:=22) (n:=v22) rfl h22 (aA t0 (aA t6 (dB (i:=k) (rVq (V.sl (List.map cCl a))) (rNq k) (by omega) rfl (aG rfl rfl (pI (l:=([])) (m:=(nth a k)) (f:=cF) (rVq (V.ms 22 (v22+1) 0 0)) (show _=(bz (v22+1) 24 3 (List.map cF ([]))) from (@rfl Blk (bz (v22+1) 24 3 []))) (by rfl) (rVq (V.sl (List.map cF (nth a k)))) eU fC (by omega) (by omega) (aA rfl ?_))))))
    exact dZ ⟨t0,t1,t5,t6,t7,rfl,rfl,trivial⟩
   intro T H ⟨t0,t1,t5,t6,t7,t8,h22,_⟩
   refine .freeze 22 (.done ?_)
   refine cP (R:=fun T H=>T 0=(V.sl (List.map cCl a))∧T 1=(V.sl (List.map cCl b))∧T 5=(V.sl (List.map cCl (prC (prd (a.take k) b) (nth a k) (b.take j))))∧T 6=(iV ((k:Nat):Int))∧T 7=(iV ((j:Nat):Int))∧T 8=(V.sl (List.map cF ([]++(nth a k))))∧((H 22).ver=v22+2∧(H 22).live=false)∧True) ⟨(cO t0 rfl),(cO t1 rfl),(cO t5 rfl),(cO t6 rfl),(cO t7 rfl),(cO t8 (aFN h22 (by simp) (l:=([]++(nth a k))) rfl (by simp))),(eS (cVq h22)),trivial⟩ ?_
   intro T H ⟨t0,t1,t5,t6,t7,t8,h22,_⟩
   refine aB (W_r (aA rfl (R_e (aD fun Q9 n9 x9 y9 z9=>?_))))
   refine bS (fun mm T H=> ∃ (q:Nat),mm=(nth b j).length - q∧T 0=(V.sl (List.map cCl a))∧T 1=(V.sl (List.map cCl b))∧T 5=(V.sl (List.map cCl (prC (prd (a.take k) b) (nth a k) (b.take j))))∧T 6=(iV ((k:Nat):Int))∧T 7=(iV ((j:Nat):Int))∧T 8=(V.sl (List.map cF (unF (nth a k) ((nth b j).take q))))∧T 9=(iV ((q:Nat):Int))∧((H 22).ver=v22+2∧(H 22).live=false)∧(q≤(nth b j).length)) ?_ ?_
   ·
    refine ⟨_,0,rfl,t0,t1,t5,t6,t7,(eTq t8 (by rfl)),(eTq (rVq (iV 0)) rfl),h22,?_⟩
    · omega
   intro mm T H ⟨q,hmm,t0,t1,t5,t6,t7,t8,t9,h22,hq⟩ Q10 p110 p210 p310
   unfold aIp
   have hU:=pF ((nth b j).take q) (nth a k)
   have hU2:((nth b j).take q).length=q:=by rw [List.length_take]; omega
   refine aB (W_r (aA t9 (aA t1 (aA t7 (dB (i:=j) (rVq (V.sl (List.map cCl b))) (rNq j) (by omega) rfl (aG rfl rfl (bF rfl ?_)))))))
   refine bO rfl rfl (R_e ?_)
   refine aH rfl (fun c11=>?_) fun c11=>?_
   ·
    refine aC (aD fun Q12 n12 x12 y12 z12=>(W_t (aA t8 (aA t1 (aA t7 (dB (i:=j) (rVq (V.sl (List.map cCl b))) (rNq j) (by omega) rfl (aG rfl rfl ?_)))))))
    refine aA t9 (bT (i:=q) (rVq (V.sl (List.map cF (nth b j)))) (rNq q) (by omega) (bP _) rfl (aG rfl rfl (aI (yZ (unF (nth a k) ((nth b j).take q)) (nth (nth b j) q) (lH (ha k (by omega))) (by omega)) rfl (aA rfl (R_e (n12 _ _ (.done ?_)))))))
    refine W_t (aA t9 (bC rfl (rNq 1) (by omega) (aA rfl (R_e ?_))))
    refine p110 _ _ _ ?_ ⟨(q+1),rfl,t0,t1,t5,t6,t7,(eTq (rVq (V.sl (List.map cF (kL (nth (nth b j) q) (unF (nth a k) ((nth b j).take q)))))) (by (rw [aLE (by omega)]; done))),(eTq (rNq (q+1)) (by rfl)),h22,?_⟩
    · omega
    · omega
   refine aN (p310 _ _ _ (x9 _ _ (.done (W_t (aA t5 (aA t8 (aI (aAs (prC (prd (a.take k) b) (nth a k) (b.take j)) (unF (nth a k) ((nth b j).take q)) (by omega)) rfl ?_)))))))
   refine aA rfl (R_e (n8 _ _ (.done (W_t (aA t7 (bC rfl (rNq 1) (by omega) (aA rfl ?_)))))))
   refine R_e ?_
   refine p16 _ _ _ ?_ ⟨(j+1),(v22+2),rfl,t0,t1,(eTq (rVq (V.sl (List.map cCl (wth (prC (prd (a.take k) b) (nth a k) (b.take j)) (unF (nth a k) ((nth b j).take q)))))) (by (rw [show q=(nth b j).length by omega,List.take_length,aC6 (by omega)]; done))),t6,(eTq (rNq (j+1)) (by rfl)),h22.1,?_⟩
   · omega
   · omega
  refine aN (p36 _ _ _ (x5 _ _ (n4 _ _ (.done (W_t (aA t6 (bC rfl (rNq 1) (by omega) ?_)))))))
  refine aA rfl (R_e ?_)
  refine p12 _ _ _ ?_ ⟨(k+1),v22,rfl,t0,t1,(eTq t5 (by (rw [aC5 (by omega),show j=b.length by omega,List.take_length]; done))),(eTq (rNq (k+1)) (by rfl)),h22,?_⟩
  · omega
  · omega
 refine aN (p32 _ _ _ (x1 _ _ (.done (W_r (aA t5 (aA rfl (R_e ?_)))))))
 refine aO ?_
 refine bH (rVq (V.sl (List.map cCl (prd (a.take k) b)))) (dA ?_ (fun _=>by simp))
 · rw [show k=a.length by omega,List.take_length]
end Go.Proofs.YteehaobohaecmaaGreatDoor
