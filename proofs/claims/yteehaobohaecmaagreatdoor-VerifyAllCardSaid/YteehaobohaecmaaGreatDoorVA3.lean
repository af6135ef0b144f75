/- Contracts of the functions that the law VA reaches, and the law itself, for every input; no condition. -/
import Derived.KernelRfl
import Derived.Test.YteehaobohaecmaaGreatDoorProg
import Derived.Shelf.Strconv.Itoa3
import Derived.Test.YteehaobohaecmaaGreatDoorVA2
set_option linter.unusedSimpArgs false
set_option linter.unusedVariables false
namespace Go.Proofs.YteehaobohaecmaaGreatDoor
open Go Go.Proofs
theorem pF (m:M):aQ Tryz.prog 50 [(V.agg [(iV m.i),(iV m.s),(aX m.nx),(aX m.ot)])] (iV (dM m)):=by
 refine pW Tryz.func50 aP7 fun hB=>?_
 unfold s50
 dsimp only
 refine W_r (cE (i:=1) (n:=0) (m:=4) (cs:=[(iV m.i),(iV m.s),(aX m.nx),(aX m.ot)]) rfl (cVq rfl) rfl rfl rfl (aA rfl (R_e (W_r (aM rfl rfl (aJ rfl rfl rfl rfl (bG rfl ?_)))))))
 refine aA rfl (R_e (aD fun Q1 n1 x1 y1 z1=>(W_r (aM rfl rfl (aJ rfl rfl rfl rfl (bM rfl rfl (aA rfl ?_)))))))
 refine aV 4 (fun T H=>T 1=(mPq 1)∧T 3=(iV ((m.nx.length:Nat):Int))∧T 19=(V.bool (decide ((m.i < (1:Int))∨((64:Int) < m.i))))∧H 1=(bMq m)∧True) ?_ ?_
 ·
  by_cases g2:m.i < (1:Int)
  ·
   refine G_n (edT g2 rfl) (G_n (edT g2 rfl) (G_n (edT g2 rfl) (aS (edT g2 rfl) rfl ?_)))
   exact ⟨rfl,rfl,(cQ g2),rfl,trivial⟩
  ·
   refine aF (edF g2 rfl) (aM rfl rfl (aF (edF g2 rfl) (aJ rfl rfl rfl rfl (aF (edF g2 rfl) (fJ rfl rfl (aT (edF g2 rfl) rfl ?_))))))
   exact ⟨rfl,rfl,(cR g2),rfl,trivial⟩
 intro T H ⟨t1,t3,t19,h1,_⟩
 refine aA t19 (R_e ?_)
 refine cD rfl (fun c3=>?_) fun c3=>?_
 ·
  refine W_r (aA rfl (R_e (aO (y1 _ _ ?_))))
  refine bI (rVq (iV 2)) (aE ?_)
  · rw [dM,if_pos (by omega)]
 refine W_r (aA t3 (aY rfl rfl (aA rfl (R_e ?_))))
 refine cD rfl (fun c4=>?_) fun c4=>?_
 ·
  refine W_r (aA rfl (R_e (aO (y1 _ _ ?_))))
  refine bI (rVq (iV 19)) (aE ?_)
  · rw [dM,if_neg (by omega),if_pos (by omega)]
 refine W_r (aA t3 (fJ rfl rfl (aA rfl (R_e ?_))))
 refine cD rfl (fun c5=>?_) fun c5=>?_
 ·
  refine W_r (aA rfl (R_e (aO (y1 _ _ ?_))))
  refine bI (rVq (iV 11)) (aE ?_)
  · rw [dM,if_neg (by omega),if_neg (by omega),if_pos (by omega)]
 refine W_r (aM t1 h1 (aJ rfl h1 rfl rfl (bM rfl rfl (aA rfl ?_))))
 refine aV 5 (fun T H=>T 1=(mPq 1)∧T 3=(iV ((m.nx.length:Nat):Int))∧T 35=(V.bool (decide ((m.s < (0:Int))∨(((m.nx.length:Nat):Int)≤m.s))))∧H 1=(bMq m)∧True) ?_ ?_
 ·
  by_cases g6:m.s < (0:Int)
  ·
   refine G_n (edT g6 rfl) (G_n (edT g6 rfl) (G_n (edT g6 rfl) (G_n (edT g6 rfl) (aS (edT g6 rfl) rfl ?_))))
   exact ⟨t1,t3,(cQ g6),h1,trivial⟩
  ·
   refine aF (edF g6 rfl) (aM t1 h1 (aF (edF g6 rfl) (aJ rfl h1 rfl rfl (aF (edF g6 rfl) (aA t3 (aF (edF g6 rfl) (jN rfl rfl ?_)))))))
   refine aT (edF g6 rfl) rfl ?_
   exact ⟨t1,t3,(cR g6),h1,trivial⟩
 intro T H ⟨t1,t3,t35,h1,_⟩
 refine aA t35 (R_e ?_)
 refine cD rfl (fun c7=>?_) fun c7=>?_
 ·
  refine W_r (aA rfl (R_e (aO (y1 _ _ ?_))))
  refine bI (rVq (iV 2)) (aE ?_)
  · rw [dM,if_neg (by omega),if_neg (by omega),if_neg (by omega),if_pos (by omega)]
 refine W_r (aM t1 h1 (aJ rfl h1 rfl rfl (bG rfl (aA t3 (bZ rfl rfl (aA rfl (R_e ?_)))))))
 refine cD rfl (fun c8=>?_) fun c8=>?_
 ·
  refine W_r (aA rfl (R_e (aO (y1 _ _ ?_))))
  refine bI (rVq (iV 1)) (aE ?_)
  · rw [dM,if_neg (by omega),if_neg (by omega),if_neg (by omega),if_neg (by omega),if_pos (by omega)]
 refine cM (n1 _ _ (.done (aB (W_r (aA t3 (aA rfl (R_e ?_)))))))
 refine aD fun Q9 n9 x9 y9 z9=>?_
 refine bS (fun mm T H=> ∃ (k:Nat),mm=m.nx.length - k∧T 1=(mPq 1)∧T 3=(iV ((m.nx.length:Nat):Int))∧T 42=(iV ((m.nx.length:Nat):Int))∧T 43=(iV ((k:Nat):Int))∧H 1=(bMq m)∧(k≤m.nx.length)∧(1≤m.i∧m.i≤64∧0 < m.nx.length∧m.nx.length≤128∧m.ot.length=m.nx.length)∧(dM m=fe (sR m) k (m.nx.length - k))) ?_ ?_
 ·
  refine ⟨_,0,rfl,t1,t3,rfl,(eTq (rVq (iV 0)) rfl),h1,?_,?_,?_⟩
  · omega
  · omega
  · rw [dM,if_neg (by omega),if_neg (by omega),if_neg (by omega),if_neg (by omega),if_neg (by omega)]; rfl
 intro mm T H ⟨k,hmm,t1,t3,t42,t43,h1,hk,hv,hc⟩ Q10 p110 p210 p310
 unfold aOj
 refine W_r (bM t43 t42 (R_e ?_))
 refine aH rfl (fun c11=>?_) fun c11=>?_
 ·
  refine aC (aD fun Q12 n12 x12 y12 z12=>(W_r (aA t43 (aA rfl (R_e (aB (W_r ?_)))))))
  refine aM t1 h1 (aJ rfl h1 rfl rfl (aA rfl (cY (i:=k) (rVq (aX m.nx)) (rNq k) (by omega) rfl (aG rfl rfl (bG rfl (aM t1 h1 (aJ rfl h1 rfl rfl ?_)))))))
  refine bZ rfl rfl (aA rfl ?_)
  refine aV 10 (fun T H=>T 1=(mPq 1)∧T 3=(iV ((m.nx.length:Nat):Int))∧T 4=(iV ((k:Nat):Int))∧T 42=(iV ((m.nx.length:Nat):Int))∧T 43=(iV ((k:Nat):Int))∧T 65=(V.bool (decide (((((nth m.nx k).length:Nat):Int)≠m.i)∨((((nth m.ot k).length:Nat):Int)≠m.i))))∧H 1=(bMq m)∧True) ?_ ?_
  ·
   by_cases g13:(((nth m.nx k).length:Nat):Int)≠m.i
   ·
    refine G_n (edT g13 rfl) (G_n (edT g13 rfl) (G_n (edT g13 rfl) (G_n (edT g13 rfl) (G_n (edT g13 rfl) (G_n (edT g13 rfl) (G_n (edT g13 rfl) (G_n (edT g13 rfl) ?_)))))))
    refine G_n (edT g13 rfl) (aS (edT g13 rfl) rfl ?_)
    exact ⟨t1,t3,rfl,t42,t43,(cQ g13),h1,trivial⟩
   ·
    refine aF (edF g13 rfl) (aM t1 h1 (aF (edF g13 rfl) (aJ rfl h1 rfl rfl (aF (edF g13 rfl) (aA rfl (aF (edF g13 rfl) (cY (i:=k) (rVq (aX m.ot)) (rNq k) (by omega) rfl ?_)))))))
    refine aF (edF g13 rfl) (aG rfl rfl (aF (edF g13 rfl) (bG rfl (aF (edF g13 rfl) (aM t1 h1 (aF (edF g13 rfl) (aJ rfl h1 rfl rfl ?_)))))))
    refine aF (edF g13 rfl) (bZ rfl rfl (aT (edF g13 rfl) rfl ?_))
    exact ⟨t1,t3,rfl,t42,t43,(cR g13),h1,trivial⟩
  intro T H ⟨t1,t3,t4,t42,t43,t65,h1,_⟩
  refine R_e ?_
  refine aH t65 (fun c14=>?_) fun c14=>?_
  ·
   refine aB (W_r (aA rfl (R_e (aL (y12 _ _ (p210 _ _ (y9 _ _ ?_)))))))
   refine bI (rVq (iV 1)) (aE ?_)
   · rw [hc,xA (by rw [sR,if_pos (by omega)]; decide) (by omega),sR,if_pos (by omega)]
  refine aC (W_r (aM t1 h1 (aJ rfl h1 rfl rfl (aA rfl (R_e (iH fun Q15 n15 x15 y15 z15=>?_))))))
  refine bS (fun mm T H=> ∃ (j:Nat),mm=m.i.toNat - j∧T 1=(mPq 1)∧T 3=(iV ((m.nx.length:Nat):Int))∧T 4=(iV ((k:Nat):Int))∧T 42=(iV ((m.nx.length:Nat):Int))∧T 43=(iV ((k:Nat):Int))∧T 67=(iV m.i)∧T 68=(iV ((j:Nat):Int))∧H 1=(bMq m)∧(j≤m.i.toNat)∧(((nth m.nx k).length:Int)=m.i∧((nth m.ot k).length:Int)=m.i)∧(sR m k=fe (aAi m k) j (m.i.toNat - j))) ?_ ?_
  ·
   refine ⟨_,0,rfl,t1,t3,t4,t42,t43,rfl,(eTq (rVq (iV 0)) rfl),h1,?_,?_,?_⟩
   · omega
   · omega
   · rw [sR,if_neg (by omega)]; rfl
  intro mm T H ⟨j,hmm,t1,t3,t4,t42,t43,t67,t68,h1,hj,hl,hr⟩ Q16 p116 p216 p316
  unfold aNu
  refine W_r (bM t68 t67 (R_e ?_))
  refine aH rfl (fun c17=>?_) fun c17=>?_
  ·
   refine aC (aD fun Q18 n18 x18 y18 z18=>(W_r (aA t68 (aA rfl (R_e (W_r (aM t1 h1 ?_)))))))
   refine aJ rfl h1 rfl rfl (aA t4 (cY (i:=k) (rVq (aX m.nx)) (rNq k) (by omega) rfl (aG rfl rfl (aA rfl (cY (i:=j) (rVq (aZ (nth m.nx k))) (rNq j) (by omega) rfl (aG rfl rfl (aM t1 h1 ?_)))))))
   refine aJ rfl h1 rfl rfl (aA t4 (cY (i:=k) (rVq (aX m.ot)) (rNq k) (by omega) rfl (aG rfl rfl (aA rfl (cY (i:=j) (rVq (aZ (nth m.ot k))) (rNq j) (by omega) rfl (aG rfl rfl (aA rfl ?_)))))))
   refine aA rfl (R_e (W_r (aA rfl (bM rfl rfl (aA rfl ?_)))))
   refine aV 4 (fun T H=>T 1=(mPq 1)∧T 3=(iV ((m.nx.length:Nat):Int))∧T 4=(iV ((k:Nat):Int))∧T 7=(iV (nth (nth m.ot k) j))∧T 42=(iV ((m.nx.length:Nat):Int))∧T 43=(iV ((k:Nat):Int))∧T 67=(iV m.i)∧T 68=(iV ((j:Nat):Int))∧T 93=(V.bool (decide (((nth (nth m.nx k) j) < (0:Int))∨(((m.nx.length:Nat):Int)≤(nth (nth m.nx k) j)))))∧H 1=(bMq m)∧True) ?_ ?_
   ·
    by_cases g19:(nth (nth m.nx k) j) < (0:Int)
    ·
     refine G_n (edT g19 rfl) (G_n (edT g19 rfl) (G_n (edT g19 rfl) (aS (edT g19 rfl) rfl ?_)))
     exact ⟨t1,t3,t4,rfl,t42,t43,t67,t68,(cQ g19),h1,trivial⟩
    ·
     refine aF (edF g19 rfl) (aA rfl (aF (edF g19 rfl) (aA t3 (aF (edF g19 rfl) (jN rfl rfl (aT (edF g19 rfl) rfl ?_))))))
     exact ⟨t1,t3,t4,rfl,t42,t43,t67,t68,(cR g19),h1,trivial⟩
   intro T H ⟨t1,t3,t4,t7,t42,t43,t67,t68,t93,h1,_⟩
   refine aA t93 ?_
   refine aV 3 (fun T H=>T 1=(mPq 1)∧T 3=(iV ((m.nx.length:Nat):Int))∧T 4=(iV ((k:Nat):Int))∧T 7=(iV (nth (nth m.ot k) j))∧T 42=(iV ((m.nx.length:Nat):Int))∧T 43=(iV ((k:Nat):Int))∧T 67=(iV m.i)∧T 68=(iV ((j:Nat):Int))∧T 97=(V.bool (decide ((((nth (nth m.nx k) j) < (0:Int))∨(((m.nx.length:Nat):Int)≤(nth (nth m.nx k) j)))∨((nth (nth m.ot k) j) < (0:Int)))))∧H 1=(bMq m)∧True) ?_ ?_
   ·
    by_cases g20:((nth (nth m.nx k) j) < (0:Int))∨(((m.nx.length:Nat):Int)≤(nth (nth m.nx k) j))
    ·
     refine G_n (edT g20 rfl) (G_n (edT g20 rfl) (aS (edT g20 rfl) rfl ?_))
     exact ⟨t1,t3,t4,t7,t42,t43,t67,t68,(cQ g20),h1,trivial⟩
    ·
     refine aF (edF g20 rfl) (aA t7 (aF (edF g20 rfl) (bM rfl rfl (aT (edF g20 rfl) rfl ?_))))
     exact ⟨t1,t3,t4,t7,t42,t43,t67,t68,(cR g20),h1,trivial⟩
   intro T H ⟨t1,t3,t4,t7,t42,t43,t67,t68,t97,h1,_⟩
   refine aA t97 ?_
   refine aV 3 (fun T H=>T 1=(mPq 1)∧T 3=(iV ((m.nx.length:Nat):Int))∧T 4=(iV ((k:Nat):Int))∧T 42=(iV ((m.nx.length:Nat):Int))∧T 43=(iV ((k:Nat):Int))∧T 67=(iV m.i)∧T 68=(iV ((j:Nat):Int))∧T 101=(V.bool (decide (((((nth (nth m.nx k) j) < (0:Int))∨(((m.nx.length:Nat):Int)≤(nth (nth m.nx k) j)))∨((nth (nth m.ot k) j) < (0:Int)))∨((1048576:Int) < (nth (nth m.ot k) j)))))∧H 1=(bMq m)∧True) ?_ ?_
   ·
    by_cases g21:(((nth (nth m.nx k) j) < (0:Int))∨(((m.nx.length:Nat):Int)≤(nth (nth m.nx k) j)))∨((nth (nth m.ot k) j) < (0:Int))
    ·
     refine G_n (edT g21 rfl) (G_n (edT g21 rfl) (aS (edT g21 rfl) rfl ?_))
     exact ⟨t1,t3,t4,t42,t43,t67,t68,(cQ g21),h1,trivial⟩
    ·
     refine aF (edF g21 rfl) (aA t7 (aF (edF g21 rfl) (fJ rfl rfl (aT (edF g21 rfl) rfl ?_))))
     exact ⟨t1,t3,t4,t42,t43,t67,t68,(cR g21),h1,trivial⟩
   intro T H ⟨t1,t3,t4,t42,t43,t67,t68,t101,h1,_⟩
   refine R_e ?_
   refine cD t101 (fun c22=>?_) fun c22=>?_
   ·
    refine W_r (aA rfl (R_e (aO (y18 _ _ (p216 _ _ (y15 _ _ (y12 _ _ ?_)))))))
    refine p210 _ _ (y9 _ _ ?_)
    refine bI (rVq (iV 2)) (aE ?_)
    · have e:sR m k=2:=by
        rw [hr,xA (by unfold aAi; split <;> omega) (by omega)]; unfold aAi; split <;> omega
      rw [hc,xA (by omega) (by omega),e]
   refine cM (n18 _ _ (.done (W_t (bB t68 (rNq 1) (by omega) (aA rfl (R_e ?_))))))
   refine p116 _ _ _ ?_ ⟨(j+1),rfl,t1,t3,t4,t42,t43,t67,(eTq (rNq (j+1)) (by rfl)),h1,?_,?_,?_⟩
   · omega
   · omega
   · omega
   · rw [hr,wG (by unfold aAi; split <;> omega) (by omega)]
  refine aN (p316 _ _ _ (x15 _ _ (n12 _ _ (.done (W_t (bB t43 (rNq 1) (by omega) (aA rfl ?_)))))))
  refine R_e ?_
  refine p110 _ _ _ ?_ ⟨(k+1),rfl,t1,t3,t42,(eTq (rNq (k+1)) (by rfl)),h1,?_,?_,?_⟩
  · omega
  · omega
  · omega
  · rw [hc,wG (by rw [hr,aBZ (by omega)]) (by omega)]
 refine aN (p310 _ _ _ (x9 _ _ (.done (W_r (aA rfl (R_e (aO ?_)))))))
 refine bI (rVq (iV 0)) (aE ?_)
 · rw [hc,aBZ (by omega)]
theorem aEA (m:M) (s:Int):aQ Tryz.prog 82 [(V.agg [(iV m.i),(iV m.s),(aX m.nx),(aX m.ot)]),(iV s)] (iV (stE m s)):=by
 refine pW Tryz.func82 aPa fun hB=>?_
 unfold s82
 dsimp only
 refine W_r (cE (i:=2) (n:=0) (m:=4) (cs:=[(iV m.i),(iV m.s),(aX m.nx),(aX m.ot)]) rfl (cVq rfl) rfl rfl rfl (aA rfl (R_e (aB (W_r (aJ rfl rfl rfl rfl (aI (pF m) rfl ?_)))))))
 refine aA rfl (R_e (aB (W_r (aA rfl (bZ rfl rfl (R_e ?_))))))
 refine aH rfl (fun c1=>?_) fun c1=>?_
 ·
  refine aB (W_r (aA rfl (aA rfl (R_e (aL ?_)))))
  refine bI (rVq (iV (dM m))) (aE ?_)
  · rw [stE,if_pos (by omega)]
 refine aC (aB (W_r (aA rfl (bM rfl rfl (aA rfl ?_)))))
 refine aV 6 (fun T H=>T 19=(V.bool (decide ((s < (0:Int))∨(((m.nx.length:Nat):Int)≤s))))∧H 2=(bMq m)∧True) ?_ ?_
 ·
  by_cases g2:s < (0:Int)
  ·
   refine G_n (edT g2 rfl) (G_n (edT g2 rfl) (G_n (edT g2 rfl) (G_n (edT g2 rfl) (G_n (edT g2 rfl) (aS (edT g2 rfl) rfl ?_)))))
   exact ⟨(cQ g2),rfl,trivial⟩
  ·
   refine aF (edF g2 rfl) (aA rfl (aF (edF g2 rfl) (aM rfl rfl (aF (edF g2 rfl) (aJ rfl rfl rfl rfl (aF (edF g2 rfl) (bG rfl ?_)))))))
   refine aF (edF g2 rfl) (jN rfl rfl (aT (edF g2 rfl) rfl ?_))
   exact ⟨(cR g2),rfl,trivial⟩
 intro T H ⟨t19,h2,_⟩
 refine R_e ?_
 refine aH t19 (fun c3=>?_) fun c3=>?_
 ·
  refine aB (W_r (aA rfl (R_e (aL ?_))))
  refine bI (rVq (iV 2)) (aE ?_)
  · rw [stE,if_neg (by omega),if_pos (by omega)]
 refine aC (W_r (aA rfl (R_e (aO ?_))))
 refine bI (rVq (iV 0)) (aE ?_)
 · rw [stE,if_neg (by omega),if_neg (by omega)]
def s83:SF:=⟨17,[.tmp 4],.seq (.reg [sO 3 (.box 3 1 (.t 1)),qI 4 0]) (.seq (.block 0 (.seq (.reg [ql 6 3,sO 7 (.call false 99 [.t 6]),sO 8 (.un .not (.t 7)),qM 5 8]) (.cond (.t 5) (.seq (.reg [qI 4 2]) (.ret)) (.seq (.reg [qM 10 0,qN 11 10,qC 12 .gtr 11 1024,qM 9 12]) (.cond (.t 9) (.seq (.reg [qI 4 3]) (.ret)) (.seq (.reg [qM 14 0,sO 15 (.mkf 101 [.t 3]),sO 16 (.call false 100 [.t 14,.t 15]),qM 13 16]) (.cond (.t 13) (.seq (.reg [qI 4 1]) (.ret)) (.skip)))))))) (.seq (.reg [qI 4 0]) (.ret)))⟩
theorem aQH:bJ Tryz.prog ⟨oEq,[],[],[]⟩ Tryz.f83=some s83:=by kernel_rfl
def aSq:List SO:=[
 qM 3 0,
 qC 4 .geq 3 1,
 qM 5 4,
 ⟨some (5,true),some 6,.mv (.t 0)⟩,
 ⟨some (5,true),some 7,.bin .leq (.t 6) (.c (.int .i64 1024))⟩,
 sO 8 (.pick (.t 5) (.t 7) (.c (.bool false))),
 qM 2 8]
def s99:SF:=⟨9,[.tmp 2],.seq (.reg [sO 2 (.mv (.c (.bool false)))]) (.seq (.reg aSq) (.ret))⟩
theorem aPu:bJ Tryz.prog ⟨oEq,[],[],[]⟩ Tryz.f99=some s99:=by kernel_rfl
theorem yR (n:Int):aQ Tryz.prog 99 [(iV n)] (V.bool (decide (1≤n∧n≤1024))):=by
 refine pW Tryz.func99 aPu fun hB=>?_
 unfold s99
 dsimp only
 refine W_r (aA rfl (R_e (W_r (aA rfl (jN rfl rfl (aA rfl ?_))))))
 refine aV 3 (fun T H=>T 8=(V.bool (decide (((1:Int)≤n)∧(n≤(1024:Int)))))∧True) ?_ ?_
 ·
  by_cases g1:(1:Int)≤n
  ·
   refine aF (edT g1 rfl) (aA rfl (aF (edT g1 rfl) (qO rfl rfl (aS (edT g1 rfl) rfl ?_))))
   exact ⟨(dH g1),trivial⟩
  ·
   refine G_n (edF g1 rfl) (G_n (edF g1 rfl) (aT (edF g1 rfl) rfl ?_))
   exact ⟨(dG g1),trivial⟩
 intro T H ⟨t8,_⟩
 refine aA t8 (R_e (aO ?_))
 refine bI (rVq (V.bool (decide (((1:Int)≤n)∧(n≤(1024:Int)))))) (bA ?_)
 · first|rfl|omega|simp_all
def aP0:SF:=⟨9,[.tmp 4],.seq (.reg [sO 4 (.mv (.c (.bool false)))]) (.seq (.reg [qM 5 0,qM 6 1,sO 7 (.call false 117 [.t 5,.t 6]),qC 8 .geq 7 0,qM 4 8]) (.ret))⟩
theorem aMV:bJ Tryz.prog ⟨oEq,[],[],[]⟩ Tryz.f100=some aP0:=by kernel_rfl
def aIE:SC:=.seq (.reg [qP 9 .lss 8 7]) (.seq (.cond (.t 9) (.skip) (.exit 0)) (.seq (.block 1 (.seq (.reg [qM 10 8,qM 5 10]) (.seq (.reg [qM 11 1,qM 12 0,qM 13 5,qA 14 1 12 13,ql 15 14,sO 16 (.callv false (.t 11) [.t 15])]) (.cond (.t 16) (.seq (.reg [qM 17 5,qM 4 17]) (.ret)) (.skip))))) (.reg [qC 18 .add 8 1,qM 8 18])))
def aRl:SF:=⟨19,[.tmp 4],.seq (.reg [qI 4 0]) (.seq (.seq (.reg [qM 6 0,qN 7 6,qI 8 0]) (.block 0 (.loop aIE))) (.seq (.reg [sO 4 (.mv (.c (.int .i64 (-1))))]) (.ret)))⟩
theorem aLE:bJ Tryz.prog ⟨oEq,[],[],[]⟩ Tryz.f117=some aRl:=by kernel_rfl
theorem aHj (p:Int→Bool) (w:List Int) (g:Nat) (caps:List V) (hca:dL caps=true) (hpu:eE caps=true) (hq: ∀ k,k < w.length→aQ Tryz.prog g (iV (nth w k)::caps) (.bool (p (nth w k)))):aQ Tryz.prog 117 [(aZ w),(V.fn g [] caps)] (iV (fi (fun jx=>p (nth w jx)) 0 w.length)):=by
 refine kT true 6 Tryz.func117 aLE (by kernel_rfl) (by simp [aRl]) (by simp [hpu]) (by simp) fun hB=>?_
 simp only [nG,mR,kQ,mX,mO,qZ,mS,kV,implies_true,and_true,true_and] at hB
 unfold aRl
 dsimp only
 refine W_r (aA rfl (R_e (aB (W_r (aA rfl (bG rfl (aA rfl ?_)))))))
 refine R_e (aD fun Q1 n1 x1 y1 z1=>?_)
 refine bS (fun mm T H=> ∃ (k:Nat),mm=w.length - k∧T 0=(aZ w)∧T 1=(V.fn g [] caps)∧T 7=(iV ((w.length:Nat):Int))∧T 8=(iV ((k:Nat):Int))∧(k≤w.length)∧(fi (fun j=>p (nth w j)) 0 w.length=fi (fun j=>p (nth w j)) k (w.length - k))) ?_ ?_
 ·
  refine ⟨_,0,rfl,rfl,rfl,rfl,(eTq (rVq (iV 0)) rfl),?_,?_⟩
  · omega
  · rfl
 intro mm T H ⟨k,hmm,t0,t1,t7,t8,hk,hc⟩ Q2 p12 p22 p32
 unfold aIE
 refine W_r (bM t8 t7 (R_e ?_))
 refine aH rfl (fun c3=>?_) fun c3=>?_
 ·
  refine aC (aD fun Q4 n4 x4 y4 z4=>(W_r (aA t8 (aA rfl (R_e (W_r (aA t1 ?_)))))))
  refine aA t0 (aA rfl (cY (i:=k) (rVq (aZ w)) (rNq k) (by omega) rfl (aG rfl rfl (lI (rVq (V.fn g [] caps)) (bL (rVq (iV (nth w k))) eB) (hq k (by omega)) (dR _ _ (by simp [hca])) (by simp [hpu]) (Or.inl (by simp [hpu])) (R_e ?_)))))
  refine jW rfl (fun c5=>?_) (fun c5=>?_)
  ·
   have d1:=c5
   refine W_r (aA rfl (aA rfl (R_e (aO (y4 _ _ (p22 _ _ (y1 _ _ ?_)))))))
   refine bI (rNq k) (aE ?_)
   · rw [hc,aON (by exact d1) (by omega)]
  have d1:=c5
  refine cM (n4 _ _ (.done (W_t (bB t8 (rNq 1) (by omega) (aA rfl (R_e ?_))))))
  refine p12 _ _ _ ?_ ⟨(k+1),rfl,t0,t1,t7,(eTq (rNq (k+1)) (by rfl)),?_,?_⟩
  · omega
  · omega
  · rw [hc,aNb (by exact d1) (by omega)]
 refine aN (p32 _ _ _ (x1 _ _ (.done (W_r (aA rfl (R_e (aO ?_)))))))
 refine bI (rVq (iV (-1))) (aE ?_)
 · rw [hc,aOB (by omega)]
theorem aHq (p:Int→Bool) (w:List Int) (g:Nat) (caps:List V) (hca:dL caps=true) (hpu:eE caps=true) (hq: ∀ k,k < w.length→aQ Tryz.prog g (iV (nth w k)::caps) (.bool (p (nth w k)))):aQ Tryz.prog 100 [(aZ w),(V.fn g [] caps)] (V.bool (decide (0≤fi (fun jx=>p (nth w jx)) 0 w.length))):=by
 refine kT true 6 Tryz.func100 aMV (by kernel_rfl) (by simp [aP0]) (by simp [hpu]) (by simp) fun hB=>?_
 simp only [nG,mR,kQ,mX,mO,qZ,mS,kV,implies_true,and_true,true_and] at hB
 unfold aP0
 dsimp only
 refine W_r (aA rfl (R_e (W_r (aA rfl (aA rfl (kN (bL (rVq (aZ w)) (bL (rVq (V.fn g [] caps)) eB)) (aHj p w g caps hca hpu hq) (dR _ _ (by simp [hca,hpu,-List.map_take,-List.map_drop,-List.map_append,-List.map_reverse])) (by simp [hca,hpu,-List.map_take,-List.map_drop,-List.map_append,-List.map_reverse]) (Or.inl (by simp [hca,hpu,-List.map_take,-List.map_drop,-List.map_append,-List.map_reverse])) (jN rfl rfl ?_)))))))
 refine aA rfl (R_e (aO ?_))
 refine bI (rVq (V.bool (decide ((0:Int)≤(fi (fun jx=>p (nth w jx)) 0 w.length))))) (bA ?_)
 · first|rfl|omega|simp_all
def aPc:List SO:=[
 qM 4 0,
 qC 5 .lss 4 0,
 qM 6 5,
 ⟨some (6,false),some 7,.mv (.t 0)⟩,
 ⟨some (6,false),some 8,.load false 1 (.t 1)⟩,
 ⟨some (6,false),some 9,.bin .geq (.t 7) (.t 8)⟩,
 sO 10 (.pick (.t 6) (.c (.bool true)) (.t 9)),
 qM 3 10]
def aSs:SF:=⟨11,[.tmp 3],.seq (.reg [sO 3 (.mv (.c (.bool false)))]) (.seq (.reg aPc) (.ret))⟩
theorem aMU:bJ Tryz.prog ⟨oEq,[],[],[]⟩ Tryz.f101=some aSs:=by kernel_rfl
theorem aDl (a n:Int):aQ Tryz.prog 101 [(iV a),(V.pp [(iV n)])] (V.bool (decide (a < 0∨n≤a))):=by
 refine pW Tryz.func101 aMU fun hB=>?_
 unfold aSs
 dsimp only
 refine W_r (aA rfl (R_e (W_r (aA rfl (bM rfl rfl (aA rfl ?_))))))
 refine aV 4 (fun T H=>T 10=(V.bool (decide ((a < (0:Int))∨(n≤a))))∧True) ?_ ?_
 ·
  by_cases g1:a < (0:Int)
  ·
   refine G_n (edT g1 rfl) (G_n (edT g1 rfl) (G_n (edT g1 rfl) (aS (edT g1 rfl) rfl ?_)))
   exact ⟨(cQ g1),trivial⟩
  ·
   refine aF (edF g1 rfl) (aA rfl (aF (edF g1 rfl) (aG rfl rfl (aF (edF g1 rfl) (jN rfl rfl (aT (edF g1 rfl) rfl ?_))))))
   exact ⟨(cR g1),trivial⟩
 intro T H ⟨t10,_⟩
 refine aA t10 (R_e (aO ?_))
 refine bI (rVq (V.bool (decide ((a < (0:Int))∨(n≤a))))) (bA ?_)
 · first|rfl|omega|simp_all
theorem aE6 (w:List Int) (n:Int):aQ Tryz.prog 83 [(aZ w),(iV n)] (iV (qB w n)):=by
 refine pW Tryz.func83 aQH fun hB=>?_
 unfold s83
 dsimp only
 refine W_r (cE (i:=3) (n:=0) (m:=1) (cs:=[(iV n)]) rfl (cVq rfl) rfl rfl rfl (aA rfl (R_e (aD fun Q1 n1 x1 y1 z1=>(W_r (aJ rfl rfl rfl rfl (aI (yR n) rfl ?_)))))))
 refine vP rfl (aA rfl (R_e ?_))
 refine cD rfl (fun c2=>?_) fun c2=>?_
 ·
  refine W_r (aA rfl (R_e (aO (y1 _ _ ?_))))
  refine bI (rVq (iV 2)) (aE ?_)
  · rw [qB,if_pos (by omega)]
 refine W_r (aA rfl (bG rfl (fJ rfl rfl (aA rfl (R_e ?_)))))
 refine cD rfl (fun c3=>?_) fun c3=>?_
 ·
  refine W_r (aA rfl (R_e (aO (y1 _ _ ?_))))
  refine bI (rVq (iV 3)) (aE ?_)
  · rw [qB,if_neg (by omega),if_pos (by omega)]
 refine W_r (aA rfl (aKf (bL rfl eB) (kN (bL (rVq (aZ w)) (bL (rVq (V.fn 101 [] [(mPq 3)])) eB)) (aHq (fun a=>decide (a < 0∨n≤a)) w 101 ([(V.pp [(iV n)])]) (by simp) (by simp) (fun k _=>aDl (nth w k) n)) (iK (fI 6 _ (by simp)) (iK (by rfl) rfl)) (by simp) (Or.inr rfl) (aA rfl (R_e ?_)))))
 refine cD (p:=0≤fi (fun jx=>(fun a=>decide (a < 0∨n≤a)) (nth w jx)) 0 w.length) rfl (fun c4=>?_) (fun c4=>?_)
 ·
  refine W_r (aA rfl (R_e (aO (y1 _ _ ?_))))
  refine bI (rVq (iV 1)) (aE ?_)
  · have e:(0≤fi (fun j=>(fun a=>decide (a < 0∨n≤a)) (nth w j)) 0 w.length↔fe (wE w n) 0 w.length=1)∧(fe (wE w n) 0 w.length=0∨fe (wE w n) 0 w.length=1):=aNP w n w.length 0
    rw [qB,if_neg (by omega),if_neg (by omega)]; omega
 refine cM (n1 _ _ (.done (W_r (aA rfl (R_e (aO ?_))))))
 refine bI (rVq (iV 0)) (aE ?_)
 · have e:(0≤fi (fun j=>(fun a=>decide (a < 0∨n≤a)) (nth w j)) 0 w.length↔fe (wE w n) 0 w.length=1)∧(fe (wE w n) 0 w.length=0∨fe (wE w n) 0 w.length=1):=aNP w n w.length 0
   rw [qB,if_neg (by omega),if_neg (by omega)]; omega
def aTZ:List SO:=[
 qM 17 0,
 sO 18 (.nilck (.t 17)),
 qF 19 0 18,
 qL 20 4 19,
 qM 21 0,
 sO 22 (.nilck (.t 21)),
 qF 23 4 22,
 ql 24 23,
 qM 25 7,
 sO 26 (.call false 102 [.t 20,.t 24,.t 25]),
 qM 16 26,
 qE 27 16 0,
 qE 28 16 1,
 qM 8 27,
 qM 9 28]
def aNE:SC:=.seq (.reg [qP 13 .lss 12 11]) (.seq (.cond (.t 13) (.skip) (.exit 0)) (.seq (.block 1 (.seq (.reg [qA 14 1 10 12,ql 15 14,qM 7 15]) (.seq (.reg aTZ) (.seq (.reg [qM 29 0,qM 30 8,sO 31 (.nilck (.t 29)),qF 32 4 31,sN (.store 1 (.t 32) (.t 30))]) (.reg [qM 33 5,qM 34 9,sO 35 (.bslice 3 1 false [.int .i64 0] 1 [(0,.t 34)]),sO 36 (.append 3 1 8 (.t 33) (.t 35)),qM 5 36]))))) (.reg [qC 37 .add 12 1,qM 12 37])))
def s84:SF:=⟨39,[.tmp 4],.seq (.reg [sO 4 (.mv (.c (.nilsl)))]) (.seq (.reg [sO 5 (.lazy 3 1)]) (.seq (.seq (.reg [qM 10 1,qN 11 10,qI 12 0]) (.block 0 (.loop aNE))) (.seq (.reg [qM 38 5,qM 4 38]) (.ret))))⟩
theorem aRa:bJ Tryz.prog ⟨oEq,[5],[],[]⟩ Tryz.f84=some s84:=by kernel_rfl
def aPd:List SO:=[
 qF 8 0 3,
 qF 9 2 8,
 ql 10 9,
 qM 11 1,
 qA 12 1 10 11,
 ql 13 12,
 qM 14 2,
 qA 15 1 13 14,
 ql 16 15,
 qF 17 0 3,
 qF 18 3 17,
 ql 19 18,
 qM 20 1,
 qA 21 1 19 20,
 ql 22 21,
 qM 23 2,
 qA 24 1 22 23,
 ql 25 24,
 qM 6 16,
 qM 7 25]
def aUj:SF:=⟨26,[.tmp 6,.tmp 7],.seq (.reg [sO 3 (.box 126 4 (.t 0)),qI 6 0,qI 7 0]) (.seq (.reg aPd) (.ret))⟩
theorem aMv:bJ Tryz.prog ⟨oEq,[],[],[]⟩ Tryz.f102=some aUj:=by kernel_rfl
theorem aHw (m:M) (s a:Int) (hs:0≤s∧s < m.nx.length∧m.ot.length=m.nx.length) (ha:0≤a∧a < (nth m.nx s.toNat).length∧a < (nth m.ot s.toNat).length):aQ Tryz.prog 102 [(V.agg [(iV m.i),(iV m.s),(aX m.nx),(aX m.ot)]),(iV s),(iV a)] (V.tup [(iV (cell m.nx s a)),(iV (cell m.ot s a))]):=by
 refine pW Tryz.func102 aMv fun hB=>?_
 unfold aUj
 dsimp only
 refine W_r (cE (i:=3) (n:=0) (m:=4) (cs:=[(iV m.i),(iV m.s),(aX m.nx),(aX m.ot)]) rfl (cVq rfl) rfl rfl rfl (aA rfl (aA rfl (R_e (W_r (aM rfl rfl (aM rfl rfl ?_)))))))
 refine aJ rfl rfl rfl rfl (aA rfl (fE (i:=s) (rVq (aX m.nx)) (rVq (iV s)) (by omega) (by omega) rfl (aG rfl rfl (aA rfl (fE (i:=a) (rVq (aZ (nth m.nx s.toNat))) (rVq (iV a)) (by omega) (by omega) rfl (aG rfl rfl (aM rfl rfl ?_)))))))
 refine aM rfl rfl (aJ rfl rfl rfl rfl (aA rfl (fE (i:=s) (rVq (aX m.ot)) (rVq (iV s)) (by omega) (by omega) rfl (aG rfl rfl (aA rfl (fE (i:=a) (rVq (aZ (nth m.ot s.toNat))) (rVq (iV a)) (by omega) (by omega) rfl (aG rfl rfl ?_)))))))
 refine aA rfl (aA rfl (R_e (aO ?_)))
 refine dC (rVq (iV (nth (nth m.nx s.toNat) a.toNat))) (rVq (iV (nth (nth m.ot s.toNat) a.toNat))) (aE ?_) (aE ?_)
 · rfl
 · rfl
theorem aUy (m:M) (s:Int) (w:List Int) (v1 v5:Nat) (Hi:aP) (hb:Hi 30=(bk v1 128 5 [[(iV m.i),(iV m.s),(aX m.nx),(aX m.ot),(iV s)]])) (h105:(Hi 105).ver=v5) (hm:dM m=0) (hs:0≤s∧s < m.nx.length) (hl:w.length≤1024) (hw: ∀ k,k < w.length→0≤nth w k∧nth w k < m.i):eR Tryz.prog 84 [(V.mp 30 v1 0 0),(aZ w)] Hi (aZ (eY m s w)) (upd (upd Hi 105 (⟨v5+1+w.length,false,false,0,0,[]⟩:Blk)) 30 (bk v1 128 5 [[(iV m.i),(iV m.s),(aX m.nx),(aX m.ot),(iV (dW m s w))]])):=by
 refine eW (k0:=100) Tryz.func84 aRa fun hB=>?_
 unfold s84
 dsimp only
 refine W_r (aA rfl (R_e (W_r (jV (i:=105) (n:=v5) rfl h105 (R_e (aB (W_r ?_)))))))
 refine aA rfl (bG rfl (aA rfl (R_e (aD fun Q1 n1 x1 y1 z1=>?_))))
 refine bS (fun mm T H=> ∃ (k:Nat),mm=w.length - k∧T 0=(V.mp 30 v1 0 0)∧T 5=(V.ms 105 (v5+1+k) 0 k)∧T 10=(aZ w)∧T 11=(iV ((w.length:Nat):Int))∧T 12=(iV ((k:Nat):Int))∧(∀ j,j∉[105,30]→H j=Hi j)∧H 30=(bk v1 128 5 [[(iV m.i),(iV m.s),(aX m.nx),(aX m.ot),(iV (dW m s (w.take k)))]])∧H 105=(bz (v5+1+k) 3 1 (List.map cI (eY m s (w.take k))))∧(k≤w.length)) ?_ ?_
 ·
  refine ⟨_,0,rfl,rfl,(eTq (rVq (V.ms 105 (v5+1) 0 0)) (by rfl)),rfl,rfl,(eTq (rVq (iV 0)) rfl),(cK (fun _ _=>rfl) (by decide)),(eTq hb (by rfl)),(eTq (@rfl Blk (bz (v5+1) 3 1 [])) (by rfl)),?_⟩
  · omega
 intro mm T H ⟨k,hmm,t0,t5,t10,t11,t12,hF,h30,h105,hk⟩ Q2 p12 p22 p32
 unfold aNE
 refine W_r (bM t12 t11 (R_e ?_))
 refine aH rfl (fun c3=>?_) fun c3=>?_
 ·
  have h1:=aKr hm hs hw (k:=k) (by omega)
  refine aC (aD fun Q4 n4 x4 y4 z4=>(W_r (cY (i:=k) t10 t12 (by omega) rfl (aG rfl rfl (aA rfl (R_e (W_r ?_)))))))
  refine aA t0 (cA rfl h30 oB (aM rfl h30 (aJ rfl h30 rfl rfl (aA t0 (cA rfl h30 oB (aM rfl h30 (aJ rfl h30 rfl rfl ?_)))))))
  refine aA rfl (aI (aHw m (dW m s (w.take k)) (nth w k) h1.1 h1.2) rfl (aA rfl (bH rfl rfl (bH rfl rfl (aA rfl (aA rfl (R_e ?_)))))))
  refine W_r (aA t0 (aA rfl (cA rfl h30 oB (aM rfl h30 (bF rfl rfl rfl h30 rfl rfl rfl rfl rfl (R_e (W_t ?_)))))))
  refine aA t5 (aA rfl (aR rfl rfl (bX (l:=(eY m s (w.take k))) (f:=cI) (x:=(cell m.ot (dW m s (w.take k)) (nth w k))) (rVq (V.ms 105 (v5+1+k) 0 k)) h105 (by (simp only [iC,List.length_take]; omega)) (rVq (V.sl [[(iV (cell m.ot (dW m s (w.take k)) (nth w k)))]])) rfl rfl (by omega) (by omega) (aA rfl (R_e (n4 _ _ (.done ?_)))))))
  refine W_t (bB t12 (rNq 1) (by omega) (aA rfl (R_e ?_)))
  refine p12 _ _ _ ?_ ⟨(k+1),rfl,t0,(eTq (rVq (V.ms 105 (v5+1+k+1) 0 (k+1))) (by rfl)),t10,t11,(eTq (rNq (k+1)) (by rfl)),(cK (cK hF (by decide)) (by decide)),(eTq (@rfl Blk (bk v1 128 5 [[(iV m.i),(iV m.s),(aX m.nx),(aX m.ot),(iV (cell m.nx (dW m s (w.take k)) (nth w k)))]])) (by (rw [aAt m s (by omega)]))),(eTq (@rfl Blk (bz (v5+1+k+1) 3 1 (List.map cI (eY m s (w.take k)++[(cell m.ot (dW m s (w.take k)) (nth w k))])))) (by (rw [aAS m s (by omega)]; rfl))),?_⟩
  · omega
  · omega
 refine aN (p32 _ _ _ (x1 _ _ (.done (W_r (aA t5 (aA rfl (R_e ?_)))))))
 refine aO (cJ (R:=fun T H=>T 4=(V.ms 105 (v5+1+k) 0 k)∧(∀ j,j∉[105,30]→H j=Hi j)∧H 30=(bk v1 128 5 [[(iV m.i),(iV m.s),(aX m.nx),(aX m.ot),(iV (dW m s (w.take k)))]])∧H 105=(bz (v5+1+k) 3 1 (List.map cI (eY m s (w.take k))))∧True) ⟨(rVq (V.ms 105 (v5+1+k) 0 k)),hF,h30,h105,trivial⟩ ?_)
 intro T H ⟨t4,hF,h30,h105,_⟩
 have fh:=dU.fin (dU.put (B:=(bk v1 128 5 [[(iV m.i),(iV m.s),(aX m.nx),(aX m.ot),(iV (dW m s w))]])) (dU.putv (n:=(v5+1+k)) (B:=(⟨v5+1+w.length,false,false,0,0,[]⟩:Blk)) (dU.start hF) (cVq h105) (by show _≤v5+1+w.length; omega) rfl) h30 (kL.eq (by (have e:k=w.length:=(by omega); subst e; rw [List.take_length]; done))))
 exact zU t4 fh (dS.trans_eq (dS.frz (rows:=(List.map cI (eY m s (w.take k)))) fh (by simp [h105]) (by simp [h105]) rfl (by rw [h105]; exact aCY (l:=(eY m s (w.take k))) (by (simp only [iC,List.length_take]; omega)))) (by (have e:k=w.length:=(by omega); subst e; rw [List.take_length]; done)))
theorem aG7 (m:M) (s:Int) (w:List Int):aQ Tryz.prog 57 [(V.agg [(iV m.i),(iV m.s),(aX m.nx),(aX m.ot)]),(iV s),(aZ w)] (V.tup [(aZ (nN m s w)),(iV (aAU m s w)),(iV (frE m s w))]):=by
 refine pW Tryz.func57 aPo fun hB=>?_
 unfold s57
 dsimp only
 refine W_r (cE (i:=3) (n:=0) (m:=4) (cs:=[(iV m.i),(iV m.s),(aX m.nx),(aX m.ot)]) rfl (cVq rfl) rfl rfl rfl (aA rfl (aA rfl (aA rfl (R_e (aB (W_r ?_)))))))
 refine aJ rfl rfl rfl rfl (aA rfl (aI (aEA m s) rfl (aA rfl (R_e (aB (W_r (aA rfl ?_)))))))
 refine bZ rfl rfl (R_e ?_)
 refine aH rfl (fun c1=>?_) fun c1=>?_
 ·
  refine aB (W_r (aA rfl (aA rfl (aA rfl (aA rfl (R_e (aL ?_)))))))
  refine tN (rVq V.nilsl) (rVq (iV 0)) (rVq (iV (stE m s))) (bT ?_) (aE ?_) (aE ?_)
  · rw [nN,if_pos (by rw [frE,if_pos (by omega)]; omega)]
  · rw [aAU,if_pos (by rw [frE,if_pos (by omega)]; omega)]
  · rw [frE,if_pos (by omega)]
 have hs:=aQv (m:=m) (s:=s) (by omega)
 refine aC (aB (W_r (aA rfl (aM rfl rfl (aJ rfl rfl rfl rfl (aI (aE6 w m.i) rfl (aA rfl ?_)))))))
 refine R_e (aB (W_r (aA rfl (bZ rfl rfl (R_e ?_)))))
 refine aH rfl (fun c2=>?_) fun c2=>?_
 ·
  refine aB (W_r (aA rfl (aA rfl (aA rfl (aA rfl (R_e (aL ?_)))))))
  refine tN (rVq V.nilsl) (rVq (iV 0)) (rVq (iV (qB w m.i))) (bT ?_) (aE ?_) (aE ?_)
  · rw [nN,if_pos (by rw [frE,if_neg (by omega)]; omega)]
  · rw [aAU,if_pos (by rw [frE,if_neg (by omega)]; omega)]
  · rw [frE,if_neg (by omega)]
 have hw:=aGM (w:=w) (n:=m.i) (by omega)
 refine aC (W_r (aJ rfl rfl rfl rfl (aW rfl rfl (aA rfl (aW rfl rfl (cE (i:=30) (n:=0) (m:=5) (cs:=[(iV m.i),(iV m.s),(aX m.nx),(aX m.ot),(iV s)]) rfl (cVq rfl) rfl rfl rfl (aA rfl ?_)))))))
 refine R_e (W_r (aA rfl (aA rfl (gI (bL rfl (bL rfl eB)) (aUy m s w 1 0 _ rfl (cVq rfl) hs.1 hs.2 hw.1 hw.2) (aA rfl (R_e (W_r ?_)))))))
 refine aA rfl (aA rfl (cA rfl rfl oB (aM rfl rfl (aJ rfl rfl rfl rfl (aA rfl (aA rfl (aA rfl ?_)))))))
 refine R_e (aO ?_)
 refine tN (rVq (aZ (eY m s w))) (rVq (iV (dW m s w))) (rVq (iV 0)) (dB ?_ (fun _=>by simp)) (aE ?_) (aE ?_)
 · rw [nN,if_neg (by rw [frE,if_neg (by omega)]; omega)]
 · rw [aAU,if_neg (by rw [frE,if_neg (by omega)]; omega)]
 · rw [frE,if_neg (by omega)]; omega
theorem aHs (m:M) (w:List Int):aQ Tryz.prog 30 [(V.agg [(iV m.i),(iV m.s),(aX m.nx),(aX m.ot)]),(aZ w)] (V.tup [(aZ (nN m m.s w)),(iV (frE m m.s w))]):=by
 refine pW Tryz.func30 aPk fun hB=>?_
 unfold s30
 dsimp only
 refine W_r (cE (i:=2) (n:=0) (m:=4) (cs:=[(iV m.i),(iV m.s),(aX m.nx),(aX m.ot)]) rfl (cVq rfl) rfl rfl rfl (aA rfl (aA rfl (R_e (W_r (aJ rfl rfl rfl rfl (aM rfl rfl ?_)))))))
 refine aJ rfl rfl rfl rfl (aA rfl (aI (aG7 m m.s w) rfl (aA rfl (bH rfl rfl (bH rfl rfl (bH rfl rfl (aA rfl ?_)))))))
 refine aA rfl (aA rfl (R_e (W_r (aA rfl (aA rfl (aA rfl (aA rfl ?_)))))))
 refine R_e (aO ?_)
 refine dC (rVq (aZ (nN m m.s w))) (rVq (iV (frE m m.s w))) (dB ?_ (fun _=>by simp)) (aE ?_)
 · rfl
 · rfl
def aUn:List SO:=[
 qF 9 0 3,
 ql 10 9,
 qF 11 1 3,
 qL 12 3 11,
 sO 13 (.call false 73 [.t 12]),
 sO 14 (.build [.int .i64 0,.str []] [(0,1,.t 10),(1,1,.t 13)]),
 sO 6 (.alloc 90 [.int .i64 0,.str []]),
 sN (.store 2 (.t 6) (.t 14))]
def aUr:List SO:=[
 qL 15 2 6,
 qM 16 0,
 sO 17 (.nilck (.t 16)),
 qF 18 2 17,
 qL 19 2 18,
 sO 20 (.abin false [0,1] (.t 15) (.t 19)),
 qM 21 20,
 ⟨some (21,false),some 22,.mv (.t 0)⟩,
 ⟨some (21,false),some 23,.nilck (.t 22)⟩,
 ⟨some (21,false),some 24,.fld 0 (.t 23)⟩,
 ⟨some (21,false),some 25,.load false 1 (.t 24)⟩,
 ⟨some (21,false),some 26,.load true 2 (.t 6)⟩,
 ⟨some (21,false),some 27,.mlook 12 false (.bool false) (.t 25) (.t 26)⟩,
 sO 28 (.pick (.t 21) (.c (.bool true)) (.t 27))]
def aUq:List SO:=[
 qF 30 1 3,
 qL 31 3 30,
 sO 32 (.call false 15 [.t 31]),
 qM 29 32,
 qE 33 29 0,
 qE 34 29 1,
 qM 7 33,
 qM 8 34]
def aQ5:List SO:=[
 qM 59 0,
 qM 60 0,
 sO 61 (.nilck (.t 60)),
 qF 62 1 61,
 ql 63 62,
 qL 64 5 3,
 sO 65 (.bslice 95 5 false [.int .i64 0,.int .i64 0,.int .i64 0,.nilsl,.nilsl] 1 [(0,.t 64)]),
 sO 66 (.append 95 5 72 (.t 63) (.t 65)),
 sO 67 (.nilck (.t 59)),
 qF 68 1 67,
 sN (.store 1 (.t 68) (.t 66))]
def s51:SF:=⟨69,[.tmp 4,.tmp 5],.seq (.reg [sO 3 (.box 95 5 (.t 1)),sO 4 (.mv (.c (.bool false))),qI 5 0]) (.seq (.dreg [6] aUn) (.seq (.seq (.reg aUr) (.cond (.t 28) (.seq (.reg [sO 4 (.mv (.c (.bool false))),qI 5 0]) (.ret)) (.skip))) (.seq (.reg aUq) (.seq (.seq (.reg [qM 35 8,qC 36 .neq 35 0,qM 37 36,⟨some (37,false),some 38,.mv (.t 7)⟩,⟨some (37,false),some 39,.un .not (.t 38)⟩,sO 40 (.pick (.t 37) (.c (.bool true)) (.t 39))]) (.cond (.t 40) (.seq (.reg [qM 41 8,qC 42 .eql 41 0,qM 43 8,qM 4 42,qM 5 43]) (.ret)) (.skip))) (.seq (.seq (.reg [qM 44 0,sO 45 (.nilck (.t 44)),qF 46 1 45,ql 47 46,qN 48 47,qC 49 .eql 48 4096]) (.cond (.t 49) (.seq (.reg [sO 4 (.mv (.c (.bool false))),qI 5 11]) (.ret)) (.skip))) (.seq (.reg [qM 50 0,sO 51 (.nilck (.t 50)),qF 52 0 51,ql 53 52,qL 54 2 6,sN (.mset 12 (.t 53) (.t 54) (.c (.bool true)))]) (.seq (.reg [qM 55 0,qL 56 2 6,sO 57 (.nilck (.t 55)),qF 58 2 57,sN (.store 2 (.t 58) (.t 56))]) (.seq (.reg aQ5) (.seq (.reg [sO 4 (.mv (.c (.bool false))),qI 5 0]) (.ret))))))))))⟩
theorem aCh:bJ Tryz.prog ⟨oEq,[],[],[]⟩ Tryz.f51=some s51:=by kernel_rfl
def s15:SF:=⟨12,[.tmp 2,.tmp 3],.seq (.reg [sO 1 (.box 24 3 (.t 0)),sO 2 (.mv (.c (.bool false))),qI 3 0]) (.seq (.seq (.reg [qL 5 3 1,sO 6 (.call false 35 [.t 5]),qM 4 6]) (.seq (.reg [qM 7 4,qC 8 .neq 7 0]) (.cond (.t 8) (.seq (.reg [qM 9 4,sO 2 (.mv (.c (.bool false))),qM 3 9]) (.ret)) (.skip)))) (.seq (.reg [qL 10 3 1,sO 11 (.call false 42 [.t 10]),qM 2 11,qI 3 0]) (.ret)))⟩
theorem aPW:bJ Tryz.prog ⟨oEq,[],[],[]⟩ Tryz.f15=some s15:=by kernel_rfl
def aSP:List SO:=[
 qF 10 2 1,
 ql 11 10,
 sO 12 (.idx 3 (.t 11) (.c (.int .i64 0))),
 qL 13 3 12,
 sO 14 (.call false 42 [.t 13]),
 sO 15 (.un .not (.t 14)),
 qM 2 15]
def aS3:List SO:=[
 qF 18 2 1,
 ql 19 18,
 sO 20 (.call false 69 [.t 19,.c (.fn 42 [] [])]),
 qF 21 2 1,
 ql 22 21,
 qN 23 22,
 qP 24 .eql 20 23,
 qM 2 24]
def s42:SF:=⟨39,[.tmp 2],.seq (.reg [sO 1 (.box 24 3 (.t 0)),sO 2 (.mv (.c (.bool false)))]) (.seq (.seq (.reg [qF 3 0 1,ql 4 3]) (.block 0 (.seq (.seq (.reg [qC 6 .eql 4 1,qM 5 6]) (.cond (.t 5) (.skip) (.reg [qC 7 .eql 4 9,qM 5 7]))) (.cond (.t 5) (.seq (.reg [sO 2 (.mv (.c (.bool true)))]) (.ret)) (.seq (.reg [qC 9 .eql 4 4,qM 8 9]) (.cond (.t 8) (.seq (.reg aSP) (.ret)) (.seq (.reg [qC 17 .eql 4 5,qM 16 17]) (.cond (.t 16) (.seq (.reg aS3) (.ret)) (.seq (.reg [qC 26 .eql 4 6,qM 25 26]) (.cond (.t 25) (.seq (.reg [qF 27 2 1,ql 28 27,sO 29 (.call false 69 [.t 28,.c (.fn 42 [] [])]),qC 30 .gtr 29 0,qM 2 30]) (.ret)) (.seq (.seq (.reg [qC 32 .eql 4 8,qM 31 32]) (.cond (.t 31) (.skip) (.reg [qC 33 .eql 4 10,qM 31 33]))) (.cond (.t 31) (.seq (.reg [qF 34 2 1,ql 35 34,sO 36 (.idx 3 (.t 35) (.c (.int .i64 1))),qL 37 3 36,sO 38 (.call false 42 [.t 37]),qM 2 38]) (.ret)) (.skip))))))))))))) (.seq (.reg [sO 2 (.mv (.c (.bool false)))]) (.ret)))⟩
theorem aRu:bJ Tryz.prog ⟨oEq,[],[],[]⟩ Tryz.f42=some s42:=by kernel_rfl
theorem xF (f:Fm) (hf:okF f=true) (hz:f.sz≤4096) (ih: ∀ (g:Fm),g.sz < f.sz→okF g=true→g.sz≤4096→aQ Tryz.prog 42 [(V.agg (rFq g))] (V.bool (sat t0 g 0))):aQ Tryz.prog 42 [(V.agg (rFq f))] (V.bool (sat t0 f 0)):=by
 refine pW Tryz.func42 aRu fun hB=>?_
 unfold s42
 dsimp only
 have hp:=bP hf
 have hr:=dE hp.1
 have hln:=f.sz_len
 refine W_r (cE (i:=1) (n:=0) (m:=3) (cs:=(rFq f)) rfl (cVq rfl) rfl rfl rfl (aA rfl (R_e (aB (W_r (aM rfl rfl (aJ rfl rfl rfl rfl ?_)))))))
 refine R_e (aD fun Q1 n1 x1 y1 z1=>(aB (W_r (aY rfl rfl (aA rfl (R_e ?_))))))
 refine aH rfl (fun c2=>?_) fun c2=>?_
 ·
  refine aC ?_
  refine cD rfl (fun c3=>?_) fun c3=>?_
  ·
   refine W_r (aA rfl (R_e (aO (y1 _ _ ?_))))
   refine bI (rVq (V.bool true)) (bA ?_)
   · rw [aNQ (by omega)]
  · exact (c3 c2).elim
 refine W_r (aY rfl rfl (aA rfl (R_e ?_)))
 refine cD rfl (fun c4=>?_) fun c4=>?_
 ·
  refine W_r (aA rfl (R_e (aO (y1 _ _ ?_))))
  refine bI (rVq (V.bool true)) (bA ?_)
  · rw [aNQ (by omega)]
 refine W_r (aY rfl rfl (aA rfl (R_e ?_)))
 refine cD rfl (fun c5=>?_) fun c5=>?_
 ·
  refine W_r (aM rfl rfl (aJ rfl rfl rfl rfl (bU (i:=0) (rVq (V.sl (List.map cF f.kids))) (rNq 0) (by omega) (bN _) rfl (aG rfl rfl (aI (ih (nth f.kids 0) skq (hp.2 _ (by omega)) (szq hz)) rfl (eN rfl (aA rfl ?_)))))))
  refine R_e (aO (y1 _ _ ?_))
  refine bI (rVq (V.bool (!sat t0 (nth f.kids 0) 0))) (bA ?_)
  · rw [aTo hf (by omega)]
 refine W_r (aY rfl rfl (aA rfl (R_e ?_)))
 refine cD rfl (fun c6=>?_) fun c6=>?_
 ·
  refine W_r (aM rfl rfl (aJ rfl rfl rfl rfl (aI (uO (fun g=>sat t0 g 0) f.kids 42 ([]) (by simp) (by simp) (fun k h=>ih (nth f.kids k) (Fm.sz_kid h) (hp.2 k h) (Nat.le_trans (Nat.le_of_lt (Fm.sz_kid h)) hz)) (by omega)) rfl (aM rfl rfl (aJ rfl rfl rfl rfl (bG rfl (aY rfl rfl ?_)))))))
  refine aA rfl (R_e (aO (y1 _ _ ?_)))
  refine bI (rVq (V.bool (decide (((iX (fun g=>sat t0 g 0) f.kids:Nat):Int)=((f.kids.length:Nat):Int))))) (bA ?_)
  · rw [aS7 (by omega),← aJz]
 refine W_r (aY rfl rfl (aA rfl (R_e ?_)))
 refine cD rfl (fun c7=>?_) fun c7=>?_
 ·
  refine W_r (aM rfl rfl (aJ rfl rfl rfl rfl (aI (uO (fun g=>sat t0 g 0) f.kids 42 ([]) (by simp) (by simp) (fun k h=>ih (nth f.kids k) (Fm.sz_kid h) (hp.2 k h) (Nat.le_trans (Nat.le_of_lt (Fm.sz_kid h)) hz)) (by omega)) rfl (fJ rfl rfl (aA rfl (R_e (aO ?_)))))))
  refine y1 _ _ ?_
  refine bI (rVq (V.bool (decide ((0:Int) < ((iX (fun g=>sat t0 g 0) f.kids:Nat):Int))))) (bA ?_)
  · rw [aSZ (by omega),← yJ]
 refine aB (W_r (aY rfl rfl (aA rfl (R_e ?_))))
 refine aH rfl (fun c8=>?_) fun c8=>?_
 ·
  refine aC ?_
  refine cD rfl (fun c9=>?_) fun c9=>?_
  ·
   refine W_r (aM rfl rfl (aJ rfl rfl rfl rfl (bU (i:=1) (rVq (V.sl (List.map cF f.kids))) (rNq 1) (by omega) (bN _) rfl (aG rfl rfl (aI (ih (nth f.kids 1) skq (hp.2 _ (by omega)) (szq hz)) rfl (aA rfl (R_e ?_)))))))
   refine aO (y1 _ _ ?_)
   refine bI (rVq (V.bool (sat t0 (nth f.kids 1) 0))) (bA ?_)
   · rw [aNG hf (by omega)]
  · exact (c9 c8).elim
 refine W_r (aY rfl rfl (aA rfl (R_e ?_)))
 refine cD rfl (fun c10=>?_) fun c10=>?_
 ·
  refine W_r (aM rfl rfl (aJ rfl rfl rfl rfl (bU (i:=1) (rVq (V.sl (List.map cF f.kids))) (rNq 1) (by omega) (bN _) rfl (aG rfl rfl (aI (ih (nth f.kids 1) skq (hp.2 _ (by omega)) (szq hz)) rfl (aA rfl (R_e ?_)))))))
  refine aO (y1 _ _ ?_)
  refine bI (rVq (V.bool (sat t0 (nth f.kids 1) 0))) (bA ?_)
  · rw [aNG hf (by omega)]
 refine cM (n1 _ _ (.done (W_r (aA rfl (R_e (aO ?_))))))
 refine bI (rVq (V.bool false)) (bA ?_)
 · rw [aTl hf (by omega) (by omega) (by omega) (by omega) (by omega)]
theorem aG0 (f:Fm) (hf:okF f=true) (hz:f.sz≤4096):aQ Tryz.prog 42 [(V.agg (rFq f))] (V.bool (sat t0 f 0)):=by
  have key: ∀ (mm:Nat) (f:Fm),f.sz < mm→okF f=true→f.sz≤4096→aQ Tryz.prog 42 [(V.agg (rFq f))] (V.bool (sat t0 f 0)):=by
    intro mm
    induction mm with
    |zero=>intro f hlt; exact absurd hlt (Nat.not_lt_zero _)
    | succ mm ih =>
      intro f hlt hf hz
      exact xF f hf hz fun f2 hlt2=>ih f2 (by omega)
  exact key (f.sz+1) f (Nat.lt_succ_self _) hf hz
theorem mP (f:Fm):aQ Tryz.prog 15 [(V.agg (rFq f))] (V.tup [(V.bool (hoB t0 f)),(iV (hoE t0 f))]):=by
 refine pW Tryz.func15 aPW fun hB=>?_
 unfold s15
 dsimp only
 refine W_r (cE (i:=1) (n:=0) (m:=3) (cs:=(rFq f)) rfl (cVq rfl) rfl rfl rfl (aA rfl (aA rfl (R_e (aB (W_r (aJ rfl rfl rfl rfl ?_)))))))
 refine aI (jR f) rfl (aA rfl (R_e (aB (W_r (aA rfl (bZ rfl rfl (R_e ?_)))))))
 refine aH rfl (fun c1=>?_) fun c1=>?_
 ·
  have h0:hoE t0 f=cX f:=if_pos c1
  have hb0:hoB t0 f=false:=by unfold hoB; rw [h0,decide_eq_false (by omega)]; rfl
  refine aB (W_r (aA rfl (aA rfl (aA rfl (R_e (aL ?_))))))
  refine dC (rVq (V.bool false)) (rVq (iV (cX f))) (bA ?_) (aE ?_)
  · rw [hb0]
  · omega
 have h1:cX f=0:=by omega
 have h0:hoE t0 f=0:=by unfold hoE; rw [if_neg (by omega),if_neg (by decide),if_neg (by decide)]
 have hb0:hoB t0 f=sat t0 f 0:=by unfold hoB; rw [h0]; rfl
 refine aC (W_r (aJ rfl rfl rfl rfl (aI (aG0 f (fB h1) (gA h1)) rfl (aA rfl (aA rfl (R_e (aO ?_)))))))
 refine dC (rVq (V.bool (sat t0 f 0))) (rVq (iV 0)) (bA ?_) (aE ?_)
 · rw [hb0]
 · omega
def aS8:List SO:=[
 qF 6 0 1,
 ql 7 6,
 sO 8 (.call false 71 [.t 7]),
 sO 9 (.sbin .add (.t 8) (.c (.str [46]))),
 qF 10 1 1,
 ql 11 10,
 sO 12 (.call false 71 [.t 11]),
 sO 13 (.sbin .add (.t 9) (.t 12)),
 sO 14 (.sbin .add (.t 13) (.c (.str [40]))),
 qM 3 14]
def aNW:SC:=.seq (.reg [qP 19 .lss 18 17]) (.seq (.cond (.t 19) (.skip) (.exit 0)) (.seq (.block 1 (.seq (.reg [qA 20 3 16 18,qL 21 3 20,sO 5 (.alloc 24 zFq),sN (.store 3 (.t 5) (.t 21))]) (.reg [qM 22 3,qL 23 3 5,sO 24 (.call false 73 [.t 23]),sO 25 (.sbin .add (.t 22) (.t 24)),qM 3 25]))) (.reg [qC 26 .add 18 1,qM 18 26])))
def s73:SF:=⟨29,[.tmp 2],.seq (.reg [sO 1 (.box 24 3 (.t 0)),sO 2 (.mv (.c (.str [])))]) (.seq (.reg aS8) (.seq (.seq (.reg [qF 15 2 1,ql 16 15,qN 17 16,qI 18 0]) (.block 0 (.loop aNW))) (.seq (.reg [qM 27 3,sO 28 (.sbin .add (.t 27) (.c (.str [41]))),qM 2 28]) (.ret))))⟩
theorem aQC:bJ Tryz.prog ⟨oEq,[],[],[]⟩ Tryz.f73=some s73:=by kernel_rfl
end Go.Proofs.YteehaobohaecmaaGreatDoor
namespace Go.Proofs.YteehaobohaecmaaGreatDoor
open Go Go.Proofs Go.Shelf Go.Lib Go.Sort
theorem aEz {x:Cx} (hx:Inv x) (k:Nat) (os:Array Obj):let y:Cx:={x with w:=grow (x.w.drewN k) os}; Inv y∧Frame x y:=by
  intro y
  have hlt: ∀ b,b < x.w.heap.size→y.w.heap[b]?=x.w.heap[b]?:=fun b hb=>by
    show (x.w.heap++os)[b]?=_
    exact Array.getElem?_append_left hb
  have hsz:x.w.heap.size≤y.w.heap.size:=by
    show _≤(x.w.heap++os).size
    rw [Array.size_append]; omega
  have hf:Frame x y:=by
    refine ⟨rfl,rfl,rfl,hsz,fun b hb _=>hlt b hb,fun _ h=>h,fun _ h=>.inl h,fun id=>⟨Nat.le_refl _,fun h _=>⟨h,rfl,rfl,fun _=>rfl,fun ho=>⟨rfl,?_⟩⟩⟩,fun _ h=>.inl ⟨h,rfl⟩,Nat.le_add_right _ _,fun _ _ _=>rfl⟩
    unfold dX
    rw [hlt _ (hx.lt ho)]
  refine ⟨⟨fun b hb=>Nat.lt_of_lt_of_le (hx.zlt b hb) hsz,hx.zown,fun id ho=>?_,hx.inj,hx.tab_of hf⟩,hf⟩
  obtain ⟨cc,h1,h2,h3,h4⟩:=hx.blk id ho
  exact ⟨cc,by rw [hlt _ (hx.lt ho)]; exact h1,h2,h3,fun r row j v hr hj=>(h4 r row j v hr hj).frame hx hf⟩
theorem aG1 {P:Program} {ρ:Go.Shelf.Ren} (L:LaysM.n171 P ρ) (hcf:dV P (ρ.f 171)) (hT:(ρ.g 17,aPH)∈aNa) (n:Int) (h0: -9223372036854775808≤n) (h1:n≤9223372036854775807):
    aQ P (ρ.f 171) [iV n] (.str (itoa n)):=by
  intro H
  refine ⟨hcf,fun x cs hxH hx hr=>?_⟩
  subst hxH
  obtain ⟨c0,rfl⟩: ∃ c0,cs=[c0]:=by
    have:=hr.1
    match cs with
    |[a]=>exact ⟨a,rfl⟩
    |[]=>simp at this
    |_::_::_=>simp at this
  have r0:R x (iV n) c0:=hr.2 0 _ rfl
  have hc0:c0=.int .i64 n:=by unfold iV at r0; cases r0; rfl
  subst hc0
  have htab : TabIs P x.w "internal/strconv.uint64pow10" .u64 pow10Tab := by
    obtain ⟨_,ty,m,h⟩:=hx.tab _ hT
    unfold TabIs World.var?
    rw [L.m17]
    simp only [Option.bind_some]
    rw [show x.w.heap[ρ.g 17]?=_ from h]
    rfl
  refine (Any.strconv_Itoa L n h0 h1 x.w htab).mono fun e w' h=>?_
  obtain ⟨rfl,k,os,rfl⟩:=h
  obtain ⟨g1,g2⟩:=aEz hx k os
  exact ⟨_,{x with w:=grow (x.w.drewN k) os},rfl,rfl,rfl,g1,.str _,g2⟩
end Go.Proofs.YteehaobohaecmaaGreatDoor
namespace Go.Proofs.YteehaobohaecmaaGreatDoor
open Go Go.Proofs Go.Shelf
def aHY:Go.Shelf.Ren:=⟨fun|129=>131|171=>71|243=>95|246=>116|283=>134|284=>135|285=>136|286=>137|317=>147|318=>148|319=>149|320=>150|337=>158|338=>159|n=>n,fun|0=>0|2=>2|3=>3|4=>4|5=>5|9=>9|20=>20|37=>182|46=>156|51=>175|53=>177|171=>180|173=>183|212=>195|213=>196|232=>205|233=>206|n=>n,fun|17=>0|18=>1|19=>2|n=>n⟩
set_option maxRecDepth 100000 in
theorem aKl:LaysM.n171 Tryz.prog aHY:={
  mixed:=(by kernel_rfl),
  f129:=Tryz.func131.trans (congrArg some (by kernel_rfl)),
  f171:=Tryz.func71.trans (congrArg some (by kernel_rfl)),
  f243:=Tryz.func95.trans (congrArg some (by kernel_rfl)),
  f246:=Tryz.func116.trans (congrArg some (by kernel_rfl)),
  f283:=Tryz.func134.trans (congrArg some (by kernel_rfl)),
  f284:=Tryz.func135.trans (congrArg some (by kernel_rfl)),
  f285:=Tryz.func136.trans (congrArg some (by kernel_rfl)),
  f286:=Tryz.func137.trans (congrArg some (by kernel_rfl)),
  f317:=Tryz.func147.trans (congrArg some (by kernel_rfl)),
  f318:=Tryz.func148.trans (congrArg some (by kernel_rfl)),
  f319:=Tryz.func149.trans (congrArg some (by kernel_rfl)),
  f320:=Tryz.func150.trans (congrArg some (by kernel_rfl)),
  f337:=Tryz.func158.trans (congrArg some (by kernel_rfl)),
  f338:=Tryz.func159.trans (congrArg some (by kernel_rfl)),
  t0:=Tryz.underlying0,
  a0:=Tryz.isAgg0,
  z0:=Tryz.sizeOf0,
  v0:=Tryz.zeroValue0,
  t2:=Tryz.underlying2,
  a2:=Tryz.isAgg2,
  z2:=Tryz.sizeOf2,
  v2:=Tryz.zeroValue2,
  t3:=Tryz.underlying3,
  a3:=Tryz.isAgg3,
  z3:=Tryz.sizeOf3,
  v3:=Tryz.zeroValue3,
  t4:=Tryz.underlying4,
  a4:=Tryz.isAgg4,
  z4:=Tryz.sizeOf4,
  v4:=Tryz.zeroValue4,
  t5:=Tryz.underlying5,
  a5:=Tryz.isAgg5,
  z5:=Tryz.sizeOf5,
  v5:=Tryz.zeroValue5,
  t9:=Tryz.underlying9,
  a9:=Tryz.isAgg9,
  z9:=Tryz.sizeOf9,
  v9:=Tryz.zeroValue9,
  t20:=Tryz.underlying20,
  a20:=Tryz.isAgg20,
  z20:=Tryz.sizeOf20,
  v20:=Tryz.zeroValue20,
  t37:=Tryz.underlying182,
  a37:=Tryz.isAgg182,
  z37:=Tryz.sizeOf182,
  v37:=Tryz.zeroValue182,
  t46:=Tryz.underlying156,
  a46:=Tryz.isAgg156,
  z46:=Tryz.sizeOf156,
  v46:=Tryz.zeroValue156,
  t51:=Tryz.underlying175,
  a51:=Tryz.isAgg175,
  z51:=Tryz.sizeOf175,
  v51:=Tryz.zeroValue175,
  t53:=Tryz.underlying177,
  a53:=Tryz.isAgg177,
  z53:=Tryz.sizeOf177,
  v53:=Tryz.zeroValue177,
  t171:=Tryz.underlying180,
  a171:=Tryz.isAgg180,
  z171:=Tryz.sizeOf180,
  v171:=Tryz.zeroValue180,
  t173:=Tryz.underlying183,
  a173:=Tryz.isAgg183,
  z173:=Tryz.sizeOf183,
  v173:=Tryz.zeroValue183,
  t212:=Tryz.underlying195,
  a212:=Tryz.isAgg195,
  z212:=Tryz.sizeOf195,
  v212:=Tryz.zeroValue195,
  t213:=Tryz.underlying196,
  a213:=Tryz.isAgg196,
  z213:=Tryz.sizeOf196,
  t232:=Tryz.underlying205,
  a232:=Tryz.isAgg205,
  z232:=Tryz.sizeOf205,
  v232:=Tryz.zeroValue205,
  t233:=Tryz.underlying206,
  a233:=Tryz.isAgg206,
  z233:=Tryz.sizeOf206,
  v233:=Tryz.zeroValue206,
  g17:=(by kernel_rfl),
  g18:=(by kernel_rfl),
  g19:=(by kernel_rfl),
  i0:=(by kernel_rfl),
  i2:=(by kernel_rfl),
  i3:=(by kernel_rfl),
  i4:=(by kernel_rfl),
  i5:=(by kernel_rfl),
  i9:=(by kernel_rfl),
  i20:=(by kernel_rfl),
  i37:=(by kernel_rfl),
  i46:=(by kernel_rfl),
  i51:=(by kernel_rfl),
  i53:=(by kernel_rfl),
  i171:=(by kernel_rfl),
  i173:=(by kernel_rfl),
  i212:=(by kernel_rfl),
  i232:=(by kernel_rfl),
  i233:=(by kernel_rfl),
  m17:=(by kernel_rfl),
  m18:=(by kernel_rfl),
  m19:=(by kernel_rfl)}
theorem aHx:dV Tryz.prog 71:=⟨_,Tryz.func71,by kernel_rfl,by kernel_rfl⟩
theorem vT (n:Int) (h0: -9223372036854775808≤n) (h1:n≤9223372036854775807):aQ Tryz.prog 71 [iV n] (.str (Lib.itoa n)):=aG1 aKl aHx (.head _) n h0 h1
end Go.Proofs.YteehaobohaecmaaGreatDoor
namespace Go.Proofs.YteehaobohaecmaaGreatDoor
open Go Go.Proofs
theorem wF (f:Fm) (hok:okF f=true) (hz:f.sz≤4096) (ih: ∀ (g:Fm),g.sz < f.sz→okF g=true→g.sz≤4096→aQ Tryz.prog 73 [(V.agg (rFq g))] (V.str (kyF g))):aQ Tryz.prog 73 [(V.agg (rFq f))] (V.str (kyF f)):=by
 refine pW Tryz.func73 aQC fun hB=>?_
 unfold s73
 dsimp only
 have hp:=bP hok
 have hr:=dE hp.1
 have hln:=f.sz_len
 have hi1:=sX (n:=f.op) (by omega) (by omega)
 have hi2:=sX (n:=f.arg) (by omega) (by omega)
 refine W_r (cE (i:=1) (n:=0) (m:=3) (cs:=(rFq f)) rfl (cVq rfl) rfl rfl rfl (aA rfl (R_e (W_r (aM rfl rfl (aJ rfl rfl rfl rfl (aI (vT f.op (by omega) (by omega)) rfl ?_)))))))
 refine zD (s:=(Lib.itoa f.op)) (t:=([46])) rfl rfl (by (simp only [List.length_append,List.length_cons,List.length_nil]; omega)) (aM rfl rfl (aJ rfl rfl rfl rfl (aI (vT f.arg (by omega) (by omega)) rfl (zD (s:=((Lib.itoa f.op)++[46])) (t:=(Lib.itoa f.arg)) rfl rfl (by (simp only [List.length_append,List.length_cons,List.length_nil]; omega)) (zD (s:=((Lib.itoa f.op)++[46]++(Lib.itoa f.arg))) (t:=([40])) rfl rfl (by (simp only [List.length_append,List.length_cons,List.length_nil]; omega)) (aA rfl (R_e ?_)))))))
 refine aB (W_r (aM rfl rfl (aJ rfl rfl rfl rfl (bG rfl (aA rfl (R_e (aD fun Q1 n1 x1 y1 z1=>?_)))))))
 refine bS (fun mm T H=> ∃ (k:Nat) (v5:Nat),mm=f.kids.length - k∧T 3=(V.str (Lib.itoa f.op++[46]++Lib.itoa f.arg++[40]++kyL (f.kids.take k)))∧T 16=(V.sl (List.map cF f.kids))∧T 17=(iV ((f.kids.length:Nat):Int))∧T 18=(iV ((k:Nat):Int))∧H 1=(bFq f)∧(H 5).ver=v5∧(k≤f.kids.length)) ?_ ?_
 ·
  refine ⟨_,0,0,rfl,(eTq (rVq (V.str ((Lib.itoa f.op)++[46]++(Lib.itoa f.arg)++[40]))) (by simp [kyL])),rfl,rfl,(eTq (rVq (iV 0)) rfl),rfl,(cVq rfl),?_⟩
  · omega
 intro mm T H ⟨k,v5,hmm,t3,t16,t17,t18,h1,h5,hk⟩ Q2 p12 p22 p32
 unfold aNW
 have hq:=aQD hok hz k
 have hq2:k < f.kids.length→(kyF (nth f.kids k)).length≤131072:=fun h=>aFm (hp.2 k h) (Nat.le_trans (Nat.le_of_lt (Fm.sz_kid h)) hz)
 refine W_r (bM t18 t17 (R_e ?_))
 refine aH rfl (fun c3=>?_) fun c3=>?_
 ·
  refine aC (aD fun Q4 n4 x4 y4 z4=>(W_r (bU (i:=k) t16 t18 (by omega) (bN _) rfl (aG rfl rfl (aU (i:=5) (n:=v5) (m:=3) rfl h5 rfl (bF rfl rfl rfl rfl rfl rfl rfl rfl rfl (R_e ?_)))))))
  refine W_t (aA t3 (aJ rfl rfl rfl rfl (aI (ih (nth f.kids k) skq (hp.2 _ (by omega)) (szq hz)) rfl (zD (s:=(Lib.itoa f.op++[46]++Lib.itoa f.arg++[40]++kyL (f.kids.take k))) (t:=(kyF (nth f.kids k))) rfl rfl (by (simp only [List.length_append,List.length_cons,List.length_nil]; omega)) (aA rfl (R_e (n4 _ _ ?_)))))))
  refine .done (W_t (bB t18 (rNq 1) (by omega) (aA rfl (R_e ?_))))
  refine p12 _ _ _ ?_ ⟨(k+1),(v5+1),rfl,(eTq (rVq (V.str (Lib.itoa f.op++[46]++Lib.itoa f.arg++[40]++kyL (f.kids.take k)++(kyF (nth f.kids k))))) (by (rw [aJ2 (by omega),← List.append_assoc]; done))),t16,t17,(eTq (rNq (k+1)) (by rfl)),h1,(cVq rfl),?_⟩
  · omega
  · omega
 refine aN (p32 _ _ _ (x1 _ _ (.done (W_r (aA t3 (zD (s:=(Lib.itoa f.op++[46]++Lib.itoa f.arg++[40]++kyL (f.kids.take k))) (t:=([41])) rfl rfl (by (simp only [List.length_append,List.length_cons,List.length_nil]; omega)) (aA rfl ?_)))))))
 refine R_e (aO ?_)
 refine bI (rVq (V.str (Lib.itoa f.op++[46]++Lib.itoa f.arg++[40]++kyL (f.kids.take k)++[41]))) (cG (by simp) ?_)
 · rw [xR,show k=f.kids.length by omega,List.take_length]; simp [List.append_assoc]
theorem nC (f:Fm) (hok:okF f=true) (hz:f.sz≤4096):aQ Tryz.prog 73 [(V.agg (rFq f))] (V.str (kyF f)):=by
  have key: ∀ (mm:Nat) (f:Fm),f.sz < mm→okF f=true→f.sz≤4096→aQ Tryz.prog 73 [(V.agg (rFq f))] (V.str (kyF f)):=by
    intro mm
    induction mm with
    |zero=>intro f hlt; exact absurd hlt (Nat.not_lt_zero _)
    | succ mm ih =>
      intro f hlt hok hz
      exact wF f hok hz fun f2 hlt2=>ih f2 (by omega)
  exact key (f.sz+1) f (Nat.lt_succ_self _) hok hz
theorem aE2 (l:List Pl) (q:Pl) (ls:Int) (lk:List UInt8) (v11 vm v8 u3 u6:Nat) (hn:mH l q) (Hi:aP) (h11:Hi 11=(bk v11 92 4 [[(V.mm 43 vm),(V.ms 815 v8 0 l.length),(iV ls),(V.str lk)]])) (hm:Hi 43=(bz vm eP 2 (eS (List.map plK l)))) (h8:Hi 815=(bz v8 95 5 (List.map cPl l))) (h3:(Hi 1003).ver=u3) (h6:(Hi 1006).ver=u6∧(Hi 1006).live=false) (hl:l.length≤4096) (hq:cX q.f=0) (hk:ls=q.s→lk=kyF q.f→fM l q.s q.f=true):eR Tryz.prog 51 [(V.mp 11 v11 0 0),(V.agg [(iV q.s),(iV q.f.op),(iV q.f.arg),(V.sl (List.map cF q.f.kids)),(aZ q.w)])] Hi (V.tup [(V.bool ((fnd l q).1)),(iV ((fnd l q).2))]) (upd (upd (upd (upd (upd Hi 1003 (⟨u3+1,false,false,0,0,[]⟩:Blk)) 1006 (⟨u6+1,false,false,0,0,[]⟩:Blk)) 43 (bz vm eP 2 (eS (List.map plK (l++[q]))))) 815 (bz (v8+1) 95 5 (List.map cPl (l++[q])))) 11 (bk v11 92 4 [[(V.mm 43 vm),(V.ms 815 (v8+1) 0 ((l++[q]).length)),(iV q.s),(V.str (kyF q.f))]])):=by
 refine eW (k0:=1000) Tryz.func51 aCh fun hB=>?_
 unfold s51
 dsimp only
 refine W_r (cE (i:=1003) (n:=u3) (m:=5) (cs:=[(iV q.s),(iV q.f.op),(iV q.f.arg),(V.sl (List.map cF q.f.kids)),(aZ q.w)]) (by rfl) h3 rfl rfl rfl (aA rfl (aA rfl (R_e (W_d (by exact (jY h6.2 lV)) (aM rfl rfl (aJ rfl rfl rfl rfl ?_)))))))
 refine aM rfl rfl (aJ rfl rfl rfl rfl (aI (nC q.f (fB hq) (gA hq)) rfl (aW rfl rfl (aU (i:=1006) (n:=u6) (m:=2) (by rfl) h6.1 rfl (bF rfl rfl rfl rfl rfl rfl rfl rfl rfl (R_e (aB ?_)))))))
 refine W_r (aJ rfl rfl rfl rfl (aA rfl (cA rfl h11 oB (aM rfl h11 (aJ rfl h11 rfl rfl (aBg rfl rfl (aA rfl ?_)))))))
 refine aV 7 (fun T H=>T 0=(V.mp 11 v11 0 0)∧T 3=(V.mp 1003 (u3+1) 0 0)∧T 6=(V.mp 1006 (u6+1) 0 0)∧T 28=(V.bool (decide (q.s=ls∧(kyF q.f)=lk)||(decide ((q.s,kyF q.f)∈List.map plK l))))∧(∀ j,j∉[1003,1006,43,815,11]→H j=Hi j)∧H 11=(bk v11 92 4 [[(V.mm 43 vm),(V.ms 815 v8 0 l.length),(iV ls),(V.str lk)]])∧H 43=(bz vm eP 2 (eS (List.map plK l)))∧H 815=(bz v8 95 5 (List.map cPl l))∧H 1003=(bk (u3+1) 95 5 [[(iV q.s),(iV q.f.op),(iV q.f.arg),(V.sl (List.map cF q.f.kids)),(aZ q.w)]])∧H 1006=(bk (u6+1) 90 2 [[(iV q.s),(V.str (kyF q.f))]])∧True) ?_ ?_
 ·
  by_cases g1:q.s=ls∧(kyF q.f)=lk
  ·
   refine G_n (edT g1 rfl) (G_n (edT g1 rfl) (G_n (edT g1 rfl) (G_n (edT g1 rfl) (G_n (edT g1 rfl) (G_n (edT g1 rfl) (aS (edT g1 rfl) rfl ?_))))))
   exact ⟨rfl,rfl,rfl,(nM g1),(cK (cK (cK (fun _ _=>rfl) (by decide)) (by decide)) (by decide)),h11,hm,h8,rfl,rfl,trivial⟩
  ·
   refine aF (edF g1 rfl) (aA rfl (aF (edF g1 rfl) (cA rfl h11 oB (aF (edF g1 rfl) (aM rfl h11 (aF (edF g1 rfl) (aJ rfl h11 rfl rfl ?_)))))))
   refine aF (edF g1 rfl) (aJ rfl rfl rfl rfl (aF (edF g1 rfl) (sC (z:=(V.bool false)) (u:=(V.bool (decide ((q.s,kyF q.f)∈List.map plK l)))) (f:=(decide ((q.s,kyF q.f)∈List.map plK l))) (rVq (V.mm 43 vm)) (rVq (V.agg [(iV q.s),(V.str (kyF q.f))])) hm (aGu (k:=(q.s,kyF q.f))) (aT (edF g1 rfl) rfl ?_))))
   exact ⟨rfl,rfl,rfl,(nH g1),(cK (cK (cK (fun _ _=>rfl) (by decide)) (by decide)) (by decide)),h11,hm,h8,rfl,rfl,trivial⟩
 intro T H ⟨t0,t3,t6,t28,hF,h11,h43,h815,h1003,h1006,_⟩
 refine R_e ?_
 refine cC t28 (fun c2=>?_) (fun c2=>?_)
 · exfalso; exact hn (.inl (aBn (q:=q) hk c2))
 obtain ⟨i0,hnew⟩:=aBv (q:=q) c2
 refine aC (W_r (aM t3 h1003 (aJ rfl h1003 rfl rfl (aI (mP q.f) rfl (aA rfl (bH rfl rfl (bH rfl rfl ?_)))))))
 refine aA rfl (aA rfl (R_e (aB (W_r (aA rfl (bZ rfl rfl (aA rfl ?_)))))))
 refine aV 3 (fun T H=>T 0=(V.mp 11 v11 0 0)∧T 3=(V.mp 1003 (u3+1) 0 0)∧T 6=(V.mp 1006 (u6+1) 0 0)∧T 8=(iV (enE q.f))∧T 40=(V.bool (decide ((enE q.f)≠(0:Int))||(!enB q.f)))∧(∀ j,j∉[1003,1006,43,815,11]→H j=Hi j)∧H 11=(bk v11 92 4 [[(V.mm 43 vm),(V.ms 815 v8 0 l.length),(iV ls),(V.str lk)]])∧H 43=(bz vm eP 2 (eS (List.map plK l)))∧H 815=(bz v8 95 5 (List.map cPl l))∧H 1003=(bk (u3+1) 95 5 [[(iV q.s),(iV q.f.op),(iV q.f.arg),(V.sl (List.map cF q.f.kids)),(aZ q.w)]])∧H 1006=(bk (u6+1) 90 2 [[(iV q.s),(V.str (kyF q.f))]])∧True) ?_ ?_
 ·
  by_cases g3:(enE q.f)≠(0:Int)
  ·
   refine G_n (edT g3 rfl) (G_n (edT g3 rfl) (aS (edT g3 rfl) rfl ?_))
   exact ⟨t0,t3,t6,rfl,(nM g3),hF,h11,h43,h815,h1003,h1006,trivial⟩
  ·
   refine aF (edF g3 rfl) (aA rfl (aF (edF g3 rfl) (eN rfl (aT (edF g3 rfl) rfl ?_))))
   exact ⟨t0,t3,t6,rfl,(nH g3),hF,h11,h43,h815,h1003,h1006,trivial⟩
 intro T H ⟨t0,t3,t6,t8,t40,hF,h11,h43,h815,h1003,h1006,_⟩
 refine R_e ?_
 refine cC t40 (fun c4=>?_) (fun c4=>?_)
 · exfalso; exact hn (.inr (by rcases (show enE q.f≠0∨enB q.f=false by simpa using c4) with e|e; exact .inl e; exact .inr (.inl e)))
 have i2: ¬(enE q.f≠0∨enB q.f=false):=by simpa using c4
 refine aC (aB (W_r (aA t0 (cA rfl h11 oB (aM rfl h11 (aJ rfl h11 rfl rfl (fW rfl h815 (by simp) ?_)))))))
 refine aY rfl rfl (R_e ?_)
 refine aH rfl (fun c5=>?_) fun c5=>?_
 · exfalso; exact hn (.inr (.inr (.inr (by omega))))
 refine aC (W_r (aA t0 (cA rfl h11 oB (aM rfl h11 (aJ rfl h11 rfl rfl (aJ t6 h1006 rfl rfl (aKc (B':=(bz vm eP 2 (eS (List.map plK (l++[q]))))) (rVq (V.mm 43 vm)) (rVq (V.agg [(iV q.s),(V.str (kyF q.f))])) (rVq (V.bool true)) h43 ((aUp hnew).trans (by rw [List.map_append]; rfl)) ?_)))))))
 refine R_e (W_r (aA t0 (aJ t6 h1006 rfl rfl (cA rfl h11 oB (aM rfl h11 (bF rfl rfl rfl h11 rfl rfl rfl rfl rfl (R_e ?_)))))))
 refine W_r (aA t0 (aA t0 (cA rfl rfl oB (aM rfl rfl (aJ rfl rfl rfl rfl (aJ t3 h1003 rfl rfl (aR rfl rfl ?_)))))))
 refine bX (l:=l) (f:=cPl) (x:=q) (rVq (V.ms 815 v8 0 l.length)) h815 (by rfl) (rVq (V.sl [[(iV q.s),(iV q.f.op),(iV q.f.arg),(V.sl (List.map cF q.f.kids)),(aZ q.w)]])) rfl rfl (by omega) (by omega) (cA rfl rfl oB (aM rfl rfl (bF rfl rfl rfl rfl rfl rfl rfl rfl rfl (R_e (W_r (aA rfl (aA rfl ?_)))))))
 refine R_e (aO (cJ (R:=fun T H=>T 4=(V.bool false)∧T 5=(iV 0)∧(∀ j,j∉[1003,1006,43,815,11]→H j=Hi j)∧H 11=(bk v11 92 4 [[(V.mm 43 vm),(V.ms 815 (v8+1) 0 (l.length+1)),(iV q.s),(V.str (kyF q.f))]])∧H 43=(bz vm eP 2 (eS (List.map plK (l++[q]))))∧H 815=(bz (v8+1) 95 5 (List.map cPl (l++[q])))∧H 1003=(bk (u3+1) 95 5 [[(iV q.s),(iV q.f.op),(iV q.f.arg),(V.sl (List.map cF q.f.kids)),(aZ q.w)]])∧H 1006=(bk (u6+1) 90 2 [[(iV q.s),(V.str (kyF q.f))]])∧True) ⟨(rVq (V.bool false)),(rVq (iV 0)),(cK (cK (cK (cK hF (by decide)) (by decide)) (by decide)) (by decide)),rfl,rfl,rfl,h1003,h1006,trivial⟩ ?_))
 intro T H ⟨t4,t5,hF,h11,h43,h815,h1003,h1006,_⟩
 have d:=(fF hn).1
 have fh:=dU.fin (dU.put (B:=(bk v11 92 4 [[(V.mm 43 vm),(V.ms 815 (v8+1) 0 ((l++[q]).length)),(iV q.s),(V.str (kyF q.f))]])) (dU.put (dU.put (dU.putv (n:=(u6+1)) (B:=(⟨u6+1,false,false,0,0,[]⟩:Blk)) (dU.putv (n:=(u3+1)) (B:=(⟨u3+1,false,false,0,0,[]⟩:Blk)) (dU.start hF) (cVq h1003) (by show _≤u3+1; omega) rfl) (cVq h1006) (by show _≤u6+1; omega) rfl) h43 (kL.eq rfl)) h815 (kL.eq rfl)) h11 (kL.eq (by simp)))
 exact oC t4 t5 fh (dS.trans_eq (dS.same fh _) (by (rw [d]; done))) (dS.trans_eq (dS.same fh _) (by (rw [d]; done)))
theorem aEQ (l:List Pl) (q:Pl) (ls:Int) (lk:List UInt8) (v11 vm v8 u3 u6:Nat) (hn: ¬mH l q) (Hi:aP) (h11:Hi 11=(bk v11 92 4 [[(V.mm 43 vm),(V.ms 815 v8 0 l.length),(iV ls),(V.str lk)]])) (hm:Hi 43=(bz vm eP 2 (eS (List.map plK l)))) (h8:Hi 815=(bz v8 95 5 (List.map cPl l))) (h3:(Hi 1003).ver=u3) (h6:(Hi 1006).ver=u6∧(Hi 1006).live=false) (hl:l.length≤4096) (hq:cX q.f=0) (hk:ls=q.s→lk=kyF q.f→fM l q.s q.f=true):eR Tryz.prog 51 [(V.mp 11 v11 0 0),(V.agg [(iV q.s),(iV q.f.op),(iV q.f.arg),(V.sl (List.map cF q.f.kids)),(aZ q.w)])] Hi (V.tup [(V.bool ((fnd l q).1)),(iV ((fnd l q).2))]) (upd (upd Hi 1003 (⟨u3+1,false,false,0,0,[]⟩:Blk)) 1006 (⟨u6+1,false,false,0,0,[]⟩:Blk)):=by
 refine eW (k0:=1000) Tryz.func51 aCh fun hB=>?_
 unfold s51
 dsimp only
 refine W_r (cE (i:=1003) (n:=u3) (m:=5) (cs:=[(iV q.s),(iV q.f.op),(iV q.f.arg),(V.sl (List.map cF q.f.kids)),(aZ q.w)]) (by rfl) h3 rfl rfl rfl (aA rfl (aA rfl (R_e (W_d (by exact (jY h6.2 lV)) (aM rfl rfl (aJ rfl rfl rfl rfl ?_)))))))
 refine aM rfl rfl (aJ rfl rfl rfl rfl (aI (nC q.f (fB hq) (gA hq)) rfl (aW rfl rfl (aU (i:=1006) (n:=u6) (m:=2) (by rfl) h6.1 rfl (bF rfl rfl rfl rfl rfl rfl rfl rfl rfl (R_e (aB ?_)))))))
 refine W_r (aJ rfl rfl rfl rfl (aA rfl (cA rfl h11 oB (aM rfl h11 (aJ rfl h11 rfl rfl (aBg rfl rfl (aA rfl ?_)))))))
 refine aV 7 (fun T H=>T 0=(V.mp 11 v11 0 0)∧T 3=(V.mp 1003 (u3+1) 0 0)∧T 6=(V.mp 1006 (u6+1) 0 0)∧T 28=(V.bool (decide (q.s=ls∧(kyF q.f)=lk)||(decide ((q.s,kyF q.f)∈List.map plK l))))∧(∀ j,j∉[1003,1006]→H j=Hi j)∧H 11=(bk v11 92 4 [[(V.mm 43 vm),(V.ms 815 v8 0 l.length),(iV ls),(V.str lk)]])∧H 43=(bz vm eP 2 (eS (List.map plK l)))∧H 815=(bz v8 95 5 (List.map cPl l))∧H 1003=(bk (u3+1) 95 5 [[(iV q.s),(iV q.f.op),(iV q.f.arg),(V.sl (List.map cF q.f.kids)),(aZ q.w)]])∧H 1006=(bk (u6+1) 90 2 [[(iV q.s),(V.str (kyF q.f))]])∧True) ?_ ?_
 ·
  by_cases g1:q.s=ls∧(kyF q.f)=lk
  ·
   refine G_n (edT g1 rfl) (G_n (edT g1 rfl) (G_n (edT g1 rfl) (G_n (edT g1 rfl) (G_n (edT g1 rfl) (G_n (edT g1 rfl) (aS (edT g1 rfl) rfl ?_))))))
   exact ⟨rfl,rfl,rfl,(nM g1),(cK (cK (cK (fun _ _=>rfl) (by decide)) (by decide)) (by decide)),h11,hm,h8,rfl,rfl,trivial⟩
  ·
   refine aF (edF g1 rfl) (aA rfl (aF (edF g1 rfl) (cA rfl h11 oB (aF (edF g1 rfl) (aM rfl h11 (aF (edF g1 rfl) (aJ rfl h11 rfl rfl ?_)))))))
   refine aF (edF g1 rfl) (aJ rfl rfl rfl rfl (aF (edF g1 rfl) (sC (z:=(V.bool false)) (u:=(V.bool (decide ((q.s,kyF q.f)∈List.map plK l)))) (f:=(decide ((q.s,kyF q.f)∈List.map plK l))) (rVq (V.mm 43 vm)) (rVq (V.agg [(iV q.s),(V.str (kyF q.f))])) hm (aGu (k:=(q.s,kyF q.f))) (aT (edF g1 rfl) rfl ?_))))
   exact ⟨rfl,rfl,rfl,(nH g1),(cK (cK (cK (fun _ _=>rfl) (by decide)) (by decide)) (by decide)),h11,hm,h8,rfl,rfl,trivial⟩
 intro T H ⟨t0,t3,t6,t28,hF,h11,h43,h815,h1003,h1006,_⟩
 refine R_e ?_
 refine cC t28 (fun c2=>?_) (fun c2=>?_)
 ·
  have i1:=aBn (q:=q) hk c2
  refine aB (W_r (aA rfl (aA rfl (R_e (aL (cJ (R:=fun T H=>T 4=(V.bool false)∧T 5=(iV 0)∧(∀ j,j∉[1003,1006]→H j=Hi j)∧H 11=(bk v11 92 4 [[(V.mm 43 vm),(V.ms 815 v8 0 l.length),(iV ls),(V.str lk)]])∧H 43=(bz vm eP 2 (eS (List.map plK l)))∧H 815=(bz v8 95 5 (List.map cPl l))∧H 1003=(bk (u3+1) 95 5 [[(iV q.s),(iV q.f.op),(iV q.f.arg),(V.sl (List.map cF q.f.kids)),(aZ q.w)]])∧H 1006=(bk (u6+1) 90 2 [[(iV q.s),(V.str (kyF q.f))]])∧True) ⟨(rVq (V.bool false)),(rVq (iV 0)),hF,h11,h43,h815,h1003,h1006,trivial⟩ ?_))))))
  intro T H ⟨t4,t5,hF,h11,h43,h815,h1003,h1006,_⟩
  have d:=aGj (q:=q) i1
  have fh:=dU.fin (dU.putv (n:=(u6+1)) (B:=(⟨u6+1,false,false,0,0,[]⟩:Blk)) (dU.putv (n:=(u3+1)) (B:=(⟨u3+1,false,false,0,0,[]⟩:Blk)) (dU.start hF) (cVq h1003) (by show _≤u3+1; omega) rfl) (cVq h1006) (by show _≤u6+1; omega) rfl)
  exact oC t4 t5 fh (dS.trans_eq (dS.same fh _) (by (rw [d]; done))) (dS.trans_eq (dS.same fh _) (by (rw [d]; done)))
 obtain ⟨i0,hnew⟩:=aBv (q:=q) c2
 refine aC (W_r (aM t3 h1003 (aJ rfl h1003 rfl rfl (aI (mP q.f) rfl (aA rfl (bH rfl rfl (bH rfl rfl ?_)))))))
 refine aA rfl (aA rfl (R_e (aB (W_r (aA rfl (bZ rfl rfl (aA rfl ?_)))))))
 refine aV 3 (fun T H=>T 0=(V.mp 11 v11 0 0)∧T 3=(V.mp 1003 (u3+1) 0 0)∧T 6=(V.mp 1006 (u6+1) 0 0)∧T 8=(iV (enE q.f))∧T 40=(V.bool (decide ((enE q.f)≠(0:Int))||(!enB q.f)))∧(∀ j,j∉[1003,1006]→H j=Hi j)∧H 11=(bk v11 92 4 [[(V.mm 43 vm),(V.ms 815 v8 0 l.length),(iV ls),(V.str lk)]])∧H 43=(bz vm eP 2 (eS (List.map plK l)))∧H 815=(bz v8 95 5 (List.map cPl l))∧H 1003=(bk (u3+1) 95 5 [[(iV q.s),(iV q.f.op),(iV q.f.arg),(V.sl (List.map cF q.f.kids)),(aZ q.w)]])∧H 1006=(bk (u6+1) 90 2 [[(iV q.s),(V.str (kyF q.f))]])∧True) ?_ ?_
 ·
  by_cases g3:(enE q.f)≠(0:Int)
  ·
   refine G_n (edT g3 rfl) (G_n (edT g3 rfl) (aS (edT g3 rfl) rfl ?_))
   exact ⟨t0,t3,t6,rfl,(nM g3),hF,h11,h43,h815,h1003,h1006,trivial⟩
  ·
   refine aF (edF g3 rfl) (aA rfl (aF (edF g3 rfl) (eN rfl (aT (edF g3 rfl) rfl ?_))))
   exact ⟨t0,t3,t6,rfl,(nH g3),hF,h11,h43,h815,h1003,h1006,trivial⟩
 intro T H ⟨t0,t3,t6,t8,t40,hF,h11,h43,h815,h1003,h1006,_⟩
 refine R_e ?_
 refine cC t40 (fun c4=>?_) (fun c4=>?_)
 ·
  have i2:enE q.f≠0∨enB q.f=false:=by simpa using c4
  refine aB (W_r (aA t8 (aY rfl rfl (aA t8 (aA rfl (aA rfl (R_e ?_)))))))
  refine aL (cJ (R:=fun T H=>T 4=(V.bool (decide ((enE q.f)=(0:Int))))∧T 5=(iV (enE q.f))∧(∀ j,j∉[1003,1006]→H j=Hi j)∧H 11=(bk v11 92 4 [[(V.mm 43 vm),(V.ms 815 v8 0 l.length),(iV ls),(V.str lk)]])∧H 43=(bz vm eP 2 (eS (List.map plK l)))∧H 815=(bz v8 95 5 (List.map cPl l))∧H 1003=(bk (u3+1) 95 5 [[(iV q.s),(iV q.f.op),(iV q.f.arg),(V.sl (List.map cF q.f.kids)),(aZ q.w)]])∧H 1006=(bk (u6+1) 90 2 [[(iV q.s),(V.str (kyF q.f))]])∧True) ⟨(rVq (V.bool (decide ((enE q.f)=(0:Int))))),(rVq (iV (enE q.f))),hF,h11,h43,h815,h1003,h1006,trivial⟩ ?_)
  intro T H ⟨t4,t5,hF,h11,h43,h815,h1003,h1006,_⟩
  have d:=rQ (q:=q) i0 i2
  have fh:=dU.fin (dU.putv (n:=(u6+1)) (B:=(⟨u6+1,false,false,0,0,[]⟩:Blk)) (dU.putv (n:=(u3+1)) (B:=(⟨u3+1,false,false,0,0,[]⟩:Blk)) (dU.start hF) (cVq h1003) (by show _≤u3+1; omega) rfl) (cVq h1006) (by show _≤u6+1; omega) rfl)
  exact oC t4 t5 fh (dS.trans_eq (dS.same fh _) (by (rw [d]; done))) (dS.trans_eq (dS.same fh _) (by (rw [d]; done)))
 have i2: ¬(enE q.f≠0∨enB q.f=false):=by simpa using c4
 refine aC (aB (W_r (aA t0 (cA rfl h11 oB (aM rfl h11 (aJ rfl h11 rfl rfl (fW rfl h815 (by simp) ?_)))))))
 refine aY rfl rfl (R_e ?_)
 refine aH rfl (fun c5=>?_) fun c5=>?_
 ·
  have i3:l.length=4096:=by omega
  refine aB (W_r (aA rfl (aA rfl (R_e (aL (cJ (R:=fun T H=>T 4=(V.bool false)∧T 5=(iV 11)∧(∀ j,j∉[1003,1006]→H j=Hi j)∧H 11=(bk v11 92 4 [[(V.mm 43 vm),(V.ms 815 v8 0 l.length),(iV ls),(V.str lk)]])∧H 43=(bz vm eP 2 (eS (List.map plK l)))∧H 815=(bz v8 95 5 (List.map cPl l))∧H 1003=(bk (u3+1) 95 5 [[(iV q.s),(iV q.f.op),(iV q.f.arg),(V.sl (List.map cF q.f.kids)),(aZ q.w)]])∧H 1006=(bk (u6+1) 90 2 [[(iV q.s),(V.str (kyF q.f))]])∧True) ⟨(rVq (V.bool false)),(rVq (iV 11)),hF,h11,h43,h815,h1003,h1006,trivial⟩ ?_))))))
  intro T H ⟨t4,t5,hF,h11,h43,h815,h1003,h1006,_⟩
  have d:=aC1 (q:=q) i0 i2 i3
  have fh:=dU.fin (dU.putv (n:=(u6+1)) (B:=(⟨u6+1,false,false,0,0,[]⟩:Blk)) (dU.putv (n:=(u3+1)) (B:=(⟨u3+1,false,false,0,0,[]⟩:Blk)) (dU.start hF) (cVq h1003) (by show _≤u3+1; omega) rfl) (cVq h1006) (by show _≤u6+1; omega) rfl)
  exact oC t4 t5 fh (dS.trans_eq (dS.same fh _) (by (rw [d]; done))) (dS.trans_eq (dS.same fh _) (by (rw [d]; done)))
 · exfalso; exact hn (vL (q:=q) i0 i2 (by omega))
theorem aCm (l:List Pl) (qs:Int) (qf:Fm) (ls:Int) (lk:List UInt8) (v11 vm v8 u3 u6:Nat) (hn:mH l (⟨qs,qf,[]⟩:Pl)) (Hi:aP) (h11:Hi 11=(bk v11 92 4 [[(V.mm 43 vm),(V.ms 815 v8 0 l.length),(iV ls),(V.str lk)]])) (hm:Hi 43=(bz vm eP 2 (eS (List.map plK l)))) (h8:Hi 815=(bz v8 95 5 (List.map cPl l))) (h3:(Hi 1003).ver=u3) (h6:(Hi 1006).ver=u6∧(Hi 1006).live=false) (hl:l.length≤4096) (hq:cX qf=0) (hk:ls=qs→lk=kyF qf→fM l qs qf=true):eR Tryz.prog 51 [(V.mp 11 v11 0 0),(V.agg [(iV qs),(iV qf.op),(iV qf.arg),(V.sl (List.map cF qf.kids)),V.nilsl])] Hi (V.tup [(V.bool ((fnd l (⟨qs,qf,[]⟩:Pl)).1)),(iV ((fnd l (⟨qs,qf,[]⟩:Pl)).2))]) (upd (upd (upd (upd (upd Hi 1003 (⟨u3+1,false,false,0,0,[]⟩:Blk)) 1006 (⟨u6+1,false,false,0,0,[]⟩:Blk)) 43 (bz vm eP 2 (eS (List.map plK (l++[(⟨qs,qf,[]⟩:Pl)]))))) 815 (bz (v8+1) 95 5 (List.map cPl (l++[(⟨qs,qf,[]⟩:Pl)])))) 11 (bk v11 92 4 [[(V.mm 43 vm),(V.ms 815 (v8+1) 0 ((l++[(⟨qs,qf,[]⟩:Pl)]).length)),(iV qs),(V.str (kyF qf))]])):=by
 refine eW (k0:=1000) Tryz.func51 aCh fun hB=>?_
 unfold s51
 dsimp only
 refine dO (fun T H=>T 0=(V.mp 11 v11 0 0)∧T 3=(V.mp 1003 (u3+1) 0 0)∧(∀ j,j∉[1003,1006,43,815,11]→H j=Hi j)∧H 11=(bk v11 92 4 [[(V.mm 43 vm),(V.ms 815 v8 0 l.length),(iV ls),(V.str lk)]])∧H 43=(bz vm eP 2 (eS (List.map plK l)))∧H 815=(bz v8 95 5 (List.map cPl l))∧H 1003=(bk (u3+1) 95 5 [[(iV qs),(iV qf.op),(iV qf.arg),(V.sl (List.map cF qf.kids)),V.nilsl]])∧((H 1006).ver=u6∧(H 1006).live=false)∧True) ?_ ?_
 ·
  refine cE (i:=1003) (n:=u3) (m:=5) (cs:=[(iV qs),(iV qf.op),(iV qf.arg),(V.sl (List.map cF qf.kids)),V.nilsl]) (by rfl) h3 rfl rfl rfl (aA rfl (aA rfl ?_))
  exact eD ⟨rfl,rfl,(cK (fun _ _=>rfl) (by decide)),h11,hm,h8,rfl,h6,trivial⟩
 intro T H ⟨t0,t3,hF,h11,h43,h815,h1003,h1006,_⟩
 refine aCd (r':=[(iV qs),(iV qf.op),(iV qf.arg),(V.sl (List.map cF qf.kids)),(aZ ([]))]) h1003 rfl (.done ?_)
 refine cJ (R:=fun T H=>T 0=(V.mp 11 v11 0 0)∧T 3=(V.mp 1003 (u3+1) 0 0)∧(∀ j,j∉[1003,1006,43,815,11]→H j=Hi j)∧H 11=(bk v11 92 4 [[(V.mm 43 vm),(V.ms 815 v8 0 l.length),(iV ls),(V.str lk)]])∧H 43=(bz vm eP 2 (eS (List.map plK l)))∧H 815=(bz v8 95 5 (List.map cPl l))∧H 1003=(bk (u3+1) 95 5 [[(iV qs),(iV qf.op),(iV qf.arg),(V.sl (List.map cF qf.kids)),(aZ ([]))]])∧((H 1006).ver=u6∧(H 1006).live=false)∧True) ⟨t0,t3,(cK hF (by decide)),(uTq h11),(uTq h43),(uTq h815),(aK _ _ _),⟨(cVq (bD _ _ (by decide))).trans h1006.1,(congrArg Blk.live (bD _ _ (by decide))).trans h1006.2⟩,trivial⟩ ?_
 intro T H ⟨t0,t3,hF,h11,h43,h815,h1003,h1006,_⟩
 refine W_d (by exact (jY h1006.2 lV)) (aM t3 h1003 (aJ rfl h1003 rfl rfl (aM t3 h1003 (aJ rfl h1003 rfl rfl (aI (nC qf (fB hq) (gA hq)) rfl (aW rfl rfl (aU (i:=1006) (n:=u6) (m:=2) (by rfl) h1006.1 rfl ?_)))))))
 refine bF rfl rfl rfl rfl rfl rfl rfl rfl rfl (R_e (aB (W_r (aJ rfl rfl rfl rfl (aA t0 (cA rfl h11 oB (aM rfl h11 ?_)))))))
 refine aJ rfl h11 rfl rfl (aBg rfl rfl (aA rfl ?_))
 refine aV 7 (fun T H=>T 0=(V.mp 11 v11 0 0)∧T 3=(V.mp 1003 (u3+1) 0 0)∧T 6=(V.mp 1006 (u6+1) 0 0)∧T 28=(V.bool (decide (qs=ls∧(kyF qf)=lk)||(decide ((qs,kyF qf)∈List.map plK l))))∧(∀ j,j∉[1003,1006,43,815,11]→H j=Hi j)∧H 11=(bk v11 92 4 [[(V.mm 43 vm),(V.ms 815 v8 0 l.length),(iV ls),(V.str lk)]])∧H 43=(bz vm eP 2 (eS (List.map plK l)))∧H 815=(bz v8 95 5 (List.map cPl l))∧H 1003=(bk (u3+1) 95 5 [[(iV qs),(iV qf.op),(iV qf.arg),(V.sl (List.map cF qf.kids)),(aZ ([]))]])∧H 1006=(bk (u6+1) 90 2 [[(iV qs),(V.str (kyF qf))]])∧True) ?_ ?_
 ·
  by_cases g1:qs=ls∧(kyF qf)=lk
  ·
   refine G_n (edT g1 rfl) (G_n (edT g1 rfl) (G_n (edT g1 rfl) (G_n (edT g1 rfl) (G_n (edT g1 rfl) (G_n (edT g1 rfl) (aS (edT g1 rfl) rfl ?_))))))
   exact ⟨t0,t3,rfl,(nM g1),(cK (cK hF (by decide)) (by decide)),h11,h43,h815,h1003,rfl,trivial⟩
  ·
   refine aF (edF g1 rfl) (aA t0 (aF (edF g1 rfl) (cA rfl h11 oB (aF (edF g1 rfl) (aM rfl h11 (aF (edF g1 rfl) (aJ rfl h11 rfl rfl ?_)))))))
   refine aF (edF g1 rfl) (aJ rfl rfl rfl rfl (aF (edF g1 rfl) (sC (z:=(V.bool false)) (u:=(V.bool (decide ((qs,kyF qf)∈List.map plK l)))) (f:=(decide ((qs,kyF qf)∈List.map plK l))) (rVq (V.mm 43 vm)) (rVq (V.agg [(iV qs),(V.str (kyF qf))])) h43 (aGu (k:=(qs,kyF qf))) (aT (edF g1 rfl) rfl ?_))))
   exact ⟨t0,t3,rfl,(nH g1),(cK (cK hF (by decide)) (by decide)),h11,h43,h815,h1003,rfl,trivial⟩
 intro T H ⟨t0,t3,t6,t28,hF,h11,h43,h815,h1003,h1006,_⟩
 refine R_e ?_
 refine cC t28 (fun c2=>?_) (fun c2=>?_)
 · exfalso; exact hn (.inl (aBn (q:=(⟨qs,qf,[]⟩:Pl)) hk c2))
 obtain ⟨i0,hnew⟩:=aBv (q:=(⟨qs,qf,[]⟩:Pl)) c2
 refine aC (W_r (aM t3 h1003 (aJ rfl h1003 rfl rfl (aI (mP qf) rfl (aA rfl (bH rfl rfl (bH rfl rfl ?_)))))))
 refine aA rfl (aA rfl (R_e (aB (W_r (aA rfl (bZ rfl rfl (aA rfl ?_)))))))
 refine aV 3 (fun T H=>T 0=(V.mp 11 v11 0 0)∧T 3=(V.mp 1003 (u3+1) 0 0)∧T 6=(V.mp 1006 (u6+1) 0 0)∧T 8=(iV (enE qf))∧T 40=(V.bool (decide ((enE qf)≠(0:Int))||(!enB qf)))∧(∀ j,j∉[1003,1006,43,815,11]→H j=Hi j)∧H 11=(bk v11 92 4 [[(V.mm 43 vm),(V.ms 815 v8 0 l.length),(iV ls),(V.str lk)]])∧H 43=(bz vm eP 2 (eS (List.map plK l)))∧H 815=(bz v8 95 5 (List.map cPl l))∧H 1003=(bk (u3+1) 95 5 [[(iV qs),(iV qf.op),(iV qf.arg),(V.sl (List.map cF qf.kids)),(aZ ([]))]])∧H 1006=(bk (u6+1) 90 2 [[(iV qs),(V.str (kyF qf))]])∧True) ?_ ?_
 ·
  by_cases g3:(enE qf)≠(0:Int)
  ·
   refine G_n (edT g3 rfl) (G_n (edT g3 rfl) (aS (edT g3 rfl) rfl ?_))
   exact ⟨t0,t3,t6,rfl,(nM g3),hF,h11,h43,h815,h1003,h1006,trivial⟩
  ·
   refine aF (edF g3 rfl) (aA rfl (aF (edF g3 rfl) (eN rfl (aT (edF g3 rfl) rfl ?_))))
   exact ⟨t0,t3,t6,rfl,(nH g3),hF,h11,h43,h815,h1003,h1006,trivial⟩
 intro T H ⟨t0,t3,t6,t8,t40,hF,h11,h43,h815,h1003,h1006,_⟩
 refine R_e ?_
 refine cC t40 (fun c4=>?_) (fun c4=>?_)
 · exfalso; exact hn (.inr (by rcases (show enE qf≠0∨enB qf=false by simpa using c4) with e|e; exact .inl e; exact .inr (.inl e)))
 have i2: ¬(enE qf≠0∨enB qf=false):=by simpa using c4
 refine aC (aB (W_r (aA t0 (cA rfl h11 oB (aM rfl h11 (aJ rfl h11 rfl rfl (fW rfl h815 (by simp) ?_)))))))
 refine aY rfl rfl (R_e ?_)
 refine aH rfl (fun c5=>?_) fun c5=>?_
 · exfalso; exact hn (.inr (.inr (.inr (by omega))))
 refine aC (W_r (aA t0 (cA rfl h11 oB (aM rfl h11 (aJ rfl h11 rfl rfl (aJ t6 h1006 rfl rfl (aKc (B':=(bz vm eP 2 (eS (List.map plK (l++[(⟨qs,qf,[]⟩:Pl)]))))) (rVq (V.mm 43 vm)) (rVq (V.agg [(iV qs),(V.str (kyF qf))])) (rVq (V.bool true)) h43 ((aUp hnew).trans (by rw [List.map_append]; rfl)) ?_)))))))
 refine R_e (W_r (aA t0 (aJ t6 h1006 rfl rfl (cA rfl h11 oB (aM rfl h11 (bF rfl rfl rfl h11 rfl rfl rfl rfl rfl (R_e ?_)))))))
 refine W_r (aA t0 (aA t0 (cA rfl rfl oB (aM rfl rfl (aJ rfl rfl rfl rfl (aJ t3 h1003 rfl rfl (aR rfl rfl ?_)))))))
 refine bX (l:=l) (f:=cPl) (x:=(⟨qs,qf,[]⟩:Pl)) (rVq (V.ms 815 v8 0 l.length)) h815 (by rfl) (rVq (V.sl [[(iV qs),(iV qf.op),(iV qf.arg),(V.sl (List.map cF qf.kids)),(aZ ([]))]])) rfl rfl (by omega) (by omega) (cA rfl rfl oB (aM rfl rfl (bF rfl rfl rfl rfl rfl rfl rfl rfl rfl (R_e (W_r (aA rfl (aA rfl ?_)))))))
 refine R_e (aO (cJ (R:=fun T H=>T 4=(V.bool false)∧T 5=(iV 0)∧(∀ j,j∉[1003,1006,43,815,11]→H j=Hi j)∧H 11=(bk v11 92 4 [[(V.mm 43 vm),(V.ms 815 (v8+1) 0 (l.length+1)),(iV qs),(V.str (kyF qf))]])∧H 43=(bz vm eP 2 (eS (List.map plK (l++[(⟨qs,qf,[]⟩:Pl)]))))∧H 815=(bz (v8+1) 95 5 (List.map cPl (l++[(⟨qs,qf,[]⟩:Pl)])))∧H 1003=(bk (u3+1) 95 5 [[(iV qs),(iV qf.op),(iV qf.arg),(V.sl (List.map cF qf.kids)),(aZ ([]))]])∧H 1006=(bk (u6+1) 90 2 [[(iV qs),(V.str (kyF qf))]])∧True) ⟨(rVq (V.bool false)),(rVq (iV 0)),(cK (cK (cK (cK hF (by decide)) (by decide)) (by decide)) (by decide)),rfl,rfl,rfl,h1003,h1006,trivial⟩ ?_))
 intro T H ⟨t4,t5,hF,h11,h43,h815,h1003,h1006,_⟩
 have d:=(fF hn).1
 have fh:=dU.fin (dU.put (B:=(bk v11 92 4 [[(V.mm 43 vm),(V.ms 815 (v8+1) 0 ((l++[(⟨qs,qf,[]⟩:Pl)]).length)),(iV qs),(V.str (kyF qf))]])) (dU.put (dU.put (dU.putv (n:=(u6+1)) (B:=(⟨u6+1,false,false,0,0,[]⟩:Blk)) (dU.putv (n:=(u3+1)) (B:=(⟨u3+1,false,false,0,0,[]⟩:Blk)) (dU.start hF) (cVq h1003) (by show _≤u3+1; omega) rfl) (cVq h1006) (by show _≤u6+1; omega) rfl) h43 (kL.eq rfl)) h815 (kL.eq rfl)) h11 (kL.eq (by simp)))
 exact oC t4 t5 fh (dS.trans_eq (dS.same fh _) (by (rw [d]; done))) (dS.trans_eq (dS.same fh _) (by (rw [d]; done)))
theorem aDC (l:List Pl) (qs:Int) (qf:Fm) (ls:Int) (lk:List UInt8) (v11 vm v8 u3 u6:Nat) (hn: ¬mH l (⟨qs,qf,[]⟩:Pl)) (Hi:aP) (h11:Hi 11=(bk v11 92 4 [[(V.mm 43 vm),(V.ms 815 v8 0 l.length),(iV ls),(V.str lk)]])) (hm:Hi 43=(bz vm eP 2 (eS (List.map plK l)))) (h8:Hi 815=(bz v8 95 5 (List.map cPl l))) (h3:(Hi 1003).ver=u3) (h6:(Hi 1006).ver=u6∧(Hi 1006).live=false) (hl:l.length≤4096) (hq:cX qf=0) (hk:ls=qs→lk=kyF qf→fM l qs qf=true):eR Tryz.prog 51 [(V.mp 11 v11 0 0),(V.agg [(iV qs),(iV qf.op),(iV qf.arg),(V.sl (List.map cF qf.kids)),V.nilsl])] Hi (V.tup [(V.bool ((fnd l (⟨qs,qf,[]⟩:Pl)).1)),(iV ((fnd l (⟨qs,qf,[]⟩:Pl)).2))]) (upd (upd Hi 1003 (⟨u3+1,false,false,0,0,[]⟩:Blk)) 1006 (⟨u6+1,false,false,0,0,[]⟩:Blk)):=by
 refine eW (k0:=1000) Tryz.func51 aCh fun hB=>?_
 unfold s51
 dsimp only
 refine dO (fun T H=>T 0=(V.mp 11 v11 0 0)∧T 3=(V.mp 1003 (u3+1) 0 0)∧(∀ j,j∉[1003,1006]→H j=Hi j)∧H 11=(bk v11 92 4 [[(V.mm 43 vm),(V.ms 815 v8 0 l.length),(iV ls),(V.str lk)]])∧H 43=(bz vm eP 2 (eS (List.map plK l)))∧H 815=(bz v8 95 5 (List.map cPl l))∧H 1003=(bk (u3+1) 95 5 [[(iV qs),(iV qf.op),(iV qf.arg),(V.sl (List.map cF qf.kids)),V.nilsl]])∧((H 1006).ver=u6∧(H 1006).live=false)∧True) ?_ ?_
 ·
  refine cE (i:=1003) (n:=u3) (m:=5) (cs:=[(iV qs),(iV qf.op),(iV qf.arg),(V.sl (List.map cF qf.kids)),V.nilsl]) (by rfl) h3 rfl rfl rfl (aA rfl (aA rfl ?_))
  exact eD ⟨rfl,rfl,(cK (fun _ _=>rfl) (by decide)),h11,hm,h8,rfl,h6,trivial⟩
 intro T H ⟨t0,t3,hF,h11,h43,h815,h1003,h1006,_⟩
 refine aCd (r':=[(iV qs),(iV qf.op),(iV qf.arg),(V.sl (List.map cF qf.kids)),(aZ ([]))]) h1003 rfl (.done ?_)
 refine cJ (R:=fun T H=>T 0=(V.mp 11 v11 0 0)∧T 3=(V.mp 1003 (u3+1) 0 0)∧(∀ j,j∉[1003,1006]→H j=Hi j)∧H 11=(bk v11 92 4 [[(V.mm 43 vm),(V.ms 815 v8 0 l.length),(iV ls),(V.str lk)]])∧H 43=(bz vm eP 2 (eS (List.map plK l)))∧H 815=(bz v8 95 5 (List.map cPl l))∧H 1003=(bk (u3+1) 95 5 [[(iV qs),(iV qf.op),(iV qf.arg),(V.sl (List.map cF qf.kids)),(aZ ([]))]])∧((H 1006).ver=u6∧(H 1006).live=false)∧True) ⟨t0,t3,(cK hF (by decide)),(uTq h11),(uTq h43),(uTq h815),(aK _ _ _),⟨(cVq (bD _ _ (by decide))).trans h1006.1,(congrArg Blk.live (bD _ _ (by decide))).trans h1006.2⟩,trivial⟩ ?_
 intro T H ⟨t0,t3,hF,h11,h43,h815,h1003,h1006,_⟩
 refine W_d (by exact (jY h1006.2 lV)) (aM t3 h1003 (aJ rfl h1003 rfl rfl (aM t3 h1003 (aJ rfl h1003 rfl rfl (aI (nC qf (fB hq) (gA hq)) rfl (aW rfl rfl (aU (i:=1006) (n:=u6) (m:=2) (by rfl) h1006.1 rfl ?_)))))))
 refine bF rfl rfl rfl rfl rfl rfl rfl rfl rfl (R_e (aB (W_r (aJ rfl rfl rfl rfl (aA t0 (cA rfl h11 oB (aM rfl h11 ?_)))))))
 refine aJ rfl h11 rfl rfl (aBg rfl rfl (aA rfl ?_))
 refine aV 7 (fun T H=>T 0=(V.mp 11 v11 0 0)∧T 3=(V.mp 1003 (u3+1) 0 0)∧T 6=(V.mp 1006 (u6+1) 0 0)∧T 28=(V.bool (decide (qs=ls∧(kyF qf)=lk)||(decide ((qs,kyF qf)∈List.map plK l))))∧(∀ j,j∉[1003,1006]→H j=Hi j)∧H 11=(bk v11 92 4 [[(V.mm 43 vm),(V.ms 815 v8 0 l.length),(iV ls),(V.str lk)]])∧H 43=(bz vm eP 2 (eS (List.map plK l)))∧H 815=(bz v8 95 5 (List.map cPl l))∧H 1003=(bk (u3+1) 95 5 [[(iV qs),(iV qf.op),(iV qf.arg),(V.sl (List.map cF qf.kids)),(aZ ([]))]])∧H 1006=(bk (u6+1) 90 2 [[(iV qs),(V.str (kyF qf))]])∧True) ?_ ?_
 ·
  by_cases g1:qs=ls∧(kyF qf)=lk
  ·
   refine G_n (edT g1 rfl) (G_n (edT g1 rfl) (G_n (edT g1 rfl) (G_n (edT g1 rfl) (G_n (edT g1 rfl) (G_n (edT g1 rfl) (aS (edT g1 rfl) rfl ?_))))))
   exact ⟨t0,t3,rfl,(nM g1),(cK (cK hF (by decide)) (by decide)),h11,h43,h815,h1003,rfl,trivial⟩
  ·
   refine aF (edF g1 rfl) (aA t0 (aF (edF g1 rfl) (cA rfl h11 oB (aF (edF g1 rfl) (aM rfl h11 (aF (edF g1 rfl) (aJ rfl h11 rfl rfl ?_)))))))
   refine aF (edF g1 rfl) (aJ rfl rfl rfl rfl (aF (edF g1 rfl) (sC (z:=(V.bool false)) (u:=(V.bool (decide ((qs,kyF qf)∈List.map plK l)))) (f:=(decide ((qs,kyF qf)∈List.map plK l))) (rVq (V.mm 43 vm)) (rVq (V.agg [(iV qs),(V.str (kyF qf))])) h43 (aGu (k:=(qs,kyF qf))) (aT (edF g1 rfl) rfl ?_))))
   exact ⟨t0,t3,rfl,(nH g1),(cK (cK hF (by decide)) (by decide)),h11,h43,h815,h1003,rfl,trivial⟩
 intro T H ⟨t0,t3,t6,t28,hF,h11,h43,h815,h1003,h1006,_⟩
 refine R_e ?_
 refine cC t28 (fun c2=>?_) (fun c2=>?_)
 ·
  have i1:=aBn (q:=(⟨qs,qf,[]⟩:Pl)) hk c2
  refine aB (W_r (aA rfl (aA rfl (R_e (aL (cJ (R:=fun T H=>T 4=(V.bool false)∧T 5=(iV 0)∧(∀ j,j∉[1003,1006]→H j=Hi j)∧H 11=(bk v11 92 4 [[(V.mm 43 vm),(V.ms 815 v8 0 l.length),(iV ls),(V.str lk)]])∧H 43=(bz vm eP 2 (eS (List.map plK l)))∧H 815=(bz v8 95 5 (List.map cPl l))∧H 1003=(bk (u3+1) 95 5 [[(iV qs),(iV qf.op),(iV qf.arg),(V.sl (List.map cF qf.kids)),(aZ ([]))]])∧H 1006=(bk (u6+1) 90 2 [[(iV qs),(V.str (kyF qf))]])∧True) ⟨(rVq (V.bool false)),(rVq (iV 0)),hF,h11,h43,h815,h1003,h1006,trivial⟩ ?_))))))
  intro T H ⟨t4,t5,hF,h11,h43,h815,h1003,h1006,_⟩
  have d:=aGj (q:=(⟨qs,qf,[]⟩:Pl)) i1
  have fh:=dU.fin (dU.putv (n:=(u6+1)) (B:=(⟨u6+1,false,false,0,0,[]⟩:Blk)) (dU.putv (n:=(u3+1)) (B:=(⟨u3+1,false,false,0,0,[]⟩:Blk)) (dU.start hF) (cVq h1003) (by show _≤u3+1; omega) rfl) (cVq h1006) (by show _≤u6+1; omega) rfl)
  exact oC t4 t5 fh (dS.trans_eq (dS.same fh _) (by (rw [d]; done))) (dS.trans_eq (dS.same fh _) (by (rw [d]; done)))
 obtain ⟨i0,hnew⟩:=aBv (q:=(⟨qs,qf,[]⟩:Pl)) c2
 refine aC (W_r (aM t3 h1003 (aJ rfl h1003 rfl rfl (aI (mP qf) rfl (aA rfl (bH rfl rfl (bH rfl rfl ?_)))))))
 refine aA rfl (aA rfl (R_e (aB (W_r (aA rfl (bZ rfl rfl (aA rfl ?_)))))))
 refine aV 3 (fun T H=>T 0=(V.mp 11 v11 0 0)∧T 3=(V.mp 1003 (u3+1) 0 0)∧T 6=(V.mp 1006 (u6+1) 0 0)∧T 8=(iV (enE qf))∧T 40=(V.bool (decide ((enE qf)≠(0:Int))||(!enB qf)))∧(∀ j,j∉[1003,1006]→H j=Hi j)∧H 11=(bk v11 92 4 [[(V.mm 43 vm),(V.ms 815 v8 0 l.length),(iV ls),(V.str lk)]])∧H 43=(bz vm eP 2 (eS (List.map plK l)))∧H 815=(bz v8 95 5 (List.map cPl l))∧H 1003=(bk (u3+1) 95 5 [[(iV qs),(iV qf.op),(iV qf.arg),(V.sl (List.map cF qf.kids)),(aZ ([]))]])∧H 1006=(bk (u6+1) 90 2 [[(iV qs),(V.str (kyF qf))]])∧True) ?_ ?_
 ·
  by_cases g3:(enE qf)≠(0:Int)
  ·
   refine G_n (edT g3 rfl) (G_n (edT g3 rfl) (aS (edT g3 rfl) rfl ?_))
   exact ⟨t0,t3,t6,rfl,(nM g3),hF,h11,h43,h815,h1003,h1006,trivial⟩
  ·
   refine aF (edF g3 rfl) (aA rfl (aF (edF g3 rfl) (eN rfl (aT (edF g3 rfl) rfl ?_))))
   exact ⟨t0,t3,t6,rfl,(nH g3),hF,h11,h43,h815,h1003,h1006,trivial⟩
 intro T H ⟨t0,t3,t6,t8,t40,hF,h11,h43,h815,h1003,h1006,_⟩
 refine R_e ?_
 refine cC t40 (fun c4=>?_) (fun c4=>?_)
 ·
  have i2:enE qf≠0∨enB qf=false:=by simpa using c4
  refine aB (W_r (aA t8 (aY rfl rfl (aA t8 (aA rfl (aA rfl (R_e ?_)))))))
  refine aL (cJ (R:=fun T H=>T 4=(V.bool (decide ((enE qf)=(0:Int))))∧T 5=(iV (enE qf))∧(∀ j,j∉[1003,1006]→H j=Hi j)∧H 11=(bk v11 92 4 [[(V.mm 43 vm),(V.ms 815 v8 0 l.length),(iV ls),(V.str lk)]])∧H 43=(bz vm eP 2 (eS (List.map plK l)))∧H 815=(bz v8 95 5 (List.map cPl l))∧H 1003=(bk (u3+1) 95 5 [[(iV qs),(iV qf.op),(iV qf.arg),(V.sl (List.map cF qf.kids)),(aZ ([]))]])∧H 1006=(bk (u6+1) 90 2 [[(iV qs),(V.str (kyF qf))]])∧True) ⟨(rVq (V.bool (decide ((enE qf)=(0:Int))))),(rVq (iV (enE qf))),hF,h11,h43,h815,h1003,h1006,trivial⟩ ?_)
  intro T H ⟨t4,t5,hF,h11,h43,h815,h1003,h1006,_⟩
  have d:=rQ (q:=(⟨qs,qf,[]⟩:Pl)) i0 i2
  have fh:=dU.fin (dU.putv (n:=(u6+1)) (B:=(⟨u6+1,false,false,0,0,[]⟩:Blk)) (dU.putv (n:=(u3+1)) (B:=(⟨u3+1,false,false,0,0,[]⟩:Blk)) (dU.start hF) (cVq h1003) (by show _≤u3+1; omega) rfl) (cVq h1006) (by show _≤u6+1; omega) rfl)
  exact oC t4 t5 fh (dS.trans_eq (dS.same fh _) (by (rw [d]; done))) (dS.trans_eq (dS.same fh _) (by (rw [d]; done)))
 have i2: ¬(enE qf≠0∨enB qf=false):=by simpa using c4
 refine aC (aB (W_r (aA t0 (cA rfl h11 oB (aM rfl h11 (aJ rfl h11 rfl rfl (fW rfl h815 (by simp) ?_)))))))
 refine aY rfl rfl (R_e ?_)
 refine aH rfl (fun c5=>?_) fun c5=>?_
 ·
  have i3:l.length=4096:=by omega
  refine aB (W_r (aA rfl (aA rfl (R_e (aL (cJ (R:=fun T H=>T 4=(V.bool false)∧T 5=(iV 11)∧(∀ j,j∉[1003,1006]→H j=Hi j)∧H 11=(bk v11 92 4 [[(V.mm 43 vm),(V.ms 815 v8 0 l.length),(iV ls),(V.str lk)]])∧H 43=(bz vm eP 2 (eS (List.map plK l)))∧H 815=(bz v8 95 5 (List.map cPl l))∧H 1003=(bk (u3+1) 95 5 [[(iV qs),(iV qf.op),(iV qf.arg),(V.sl (List.map cF qf.kids)),(aZ ([]))]])∧H 1006=(bk (u6+1) 90 2 [[(iV qs),(V.str (kyF qf))]])∧True) ⟨(rVq (V.bool false)),(rVq (iV 11)),hF,h11,h43,h815,h1003,h1006,trivial⟩ ?_))))))
  intro T H ⟨t4,t5,hF,h11,h43,h815,h1003,h1006,_⟩
  have d:=aC1 (q:=(⟨qs,qf,[]⟩:Pl)) i0 i2 i3
  have fh:=dU.fin (dU.putv (n:=(u6+1)) (B:=(⟨u6+1,false,false,0,0,[]⟩:Blk)) (dU.putv (n:=(u3+1)) (B:=(⟨u3+1,false,false,0,0,[]⟩:Blk)) (dU.start hF) (cVq h1003) (by show _≤u3+1; omega) rfl) (cVq h1006) (by show _≤u6+1; omega) rfl)
  exact oC t4 t5 fh (dS.trans_eq (dS.same fh _) (by (rw [d]; done))) (dS.trans_eq (dS.same fh _) (by (rw [d]; done)))
 · exfalso; exact hn (vL (q:=(⟨qs,qf,[]⟩:Pl)) i0 i2 (by omega))
def s52:SF:=⟨5,[.tmp 2],.seq (.reg [sO 2 (.mv (.c (.nilsl)))]) (.seq (.reg [qM 3 0,sO 4 (.call false 74 [.t 3]),qM 2 4]) (.ret))⟩
theorem aQ8:bJ Tryz.prog ⟨oEq,[],[],[]⟩ Tryz.f52=some s52:=by kernel_rfl
def aNj:SC:=.seq (.reg [qP 12 .lss 11 10]) (.seq (.cond (.t 12) (.skip) (.exit 0)) (.seq (.block 1 (.seq (.reg [qA 13 1 9 11,ql 14 13,qM 5 14]) (.seq (.reg [qM 15 3,qM 16 5,qN 17 16,qP 18 .add 15 17,qM 3 18]) (.seq (.reg [qM 19 3,qC 20 .lss 19 0]) (.cond (.t 20) (.seq (.reg [sO 21 (.bad)]) (.seq (.pop none (.raise (.t 21))) (.reg []))) (.skip)))))) (.reg [qC 22 .add 11 1,qM 11 22])))
def aNC:SC:=.seq (.reg [qP 28 .lss 27 26]) (.seq (.cond (.t 28) (.skip) (.exit 2)) (.seq (.block 3 (.seq (.reg [qA 29 1 25 27,ql 30 29,qM 8 30]) (.reg [qM 31 6,qM 32 8,sO 33 (.append 3 1 8 (.t 31) (.t 32)),qM 6 33]))) (.reg [qC 34 .add 27 1,qM 27 34])))
def s74:SF:=⟨36,[.tmp 2],.seq (.reg [sO 2 (.mv (.c (.nilsl)))]) (.seq (.reg [qI 3 0]) (.seq (.seq (.reg [qM 9 0,qN 10 9,qI 11 0]) (.block 0 (.loop aNj))) (.seq (.reg [qM 23 3,sO 24 (.call true 97 [.c (.nilsl),.t 23]),qM 6 24]) (.seq (.seq (.reg [qM 25 0,qN 26 25,qI 27 0]) (.block 2 (.loop aNC))) (.seq (.reg [qM 35 6,qM 2 35]) (.ret))))))⟩
theorem aPZ:bJ Tryz.prog ⟨oEq,[],[],[]⟩ Tryz.f74=some s74:=by kernel_rfl
end Go.Proofs.YteehaobohaecmaaGreatDoor
namespace Go.Proofs.YteehaobohaecmaaGreatDoor
open Go Go.Proofs Go.Shelf
def aHQ:Go.Shelf.Ren:=⟨fun|4=>97|n=>n,fun|22=>52|25=>3|3=>3|4=>4|9=>9|20=>20|0=>0|n=>n,fun n=>n⟩
theorem aGZ:Lays8.n4 Tryz.prog aHQ:={
  mixed:=(by kernel_rfl),
  f4:=⟨Tryz.f97.name,by decide,Tryz.func97.trans (congrArg some (by kernel_rfl))⟩,
  t0:=Tryz.underlying0,
  a0:=Tryz.isAgg0,
  z0:=Tryz.sizeOf0,
  v0:=Tryz.zeroValue0,
  t3:=Tryz.underlying3,
  a3:=Tryz.isAgg3,
  z3:=Tryz.sizeOf3,
  v3:=Tryz.zeroValue3,
  t4:=Tryz.underlying4,
  a4:=Tryz.isAgg4,
  z4:=Tryz.sizeOf4,
  v4:=Tryz.zeroValue4,
  t9:=Tryz.underlying9,
  a9:=Tryz.isAgg9,
  z9:=Tryz.sizeOf9,
  v9:=Tryz.zeroValue9,
  t20:=Tryz.underlying20,
  a20:=Tryz.isAgg20,
  z20:=Tryz.sizeOf20,
  v20:=Tryz.zeroValue20,
  t22:=Tryz.underlying52,
  a22:=Tryz.isAgg52,
  z22:=Tryz.sizeOf52,
  v22:=Tryz.zeroValue52}
theorem aEp:dV Tryz.prog 97:=⟨_,Tryz.func97,by kernel_rfl,by kernel_rfl⟩
theorem aEg:(Tryz.prog.info? 3).map (fun i=>(i.zero,i.size,i.bytes))=some (some (.int .i64 0),1,8):=by kernel_rfl
end Go.Proofs.YteehaobohaecmaaGreatDoor
namespace Go.Proofs.YteehaobohaecmaaGreatDoor
open Go Go.Proofs
theorem aCE (l:List (List Int)) (hs:(cat l).length≤4294967296):aQ Tryz.prog 74 [(aX l)] (aZ (cat l)):=by
 refine pW Tryz.func74 aPZ fun hB=>?_
 unfold s74
 dsimp only
 refine W_r (aA rfl (R_e (W_r (aA rfl (R_e (aB (W_r ?_)))))))
 refine aA rfl (bG rfl (aA rfl (R_e (fH fun Q1 n1 x1 y1 z1 w1=>?_))))
 refine wY (fun mm T H=> ∃ (k:Nat) (v0:Nat),mm=l.length - k∧T 0=(aX l)∧T 3=(iV (((cat (l.take k)).length:Nat):Int))∧T 9=(aX l)∧T 10=(iV ((l.length:Nat):Int))∧T 11=(iV ((k:Nat):Int))∧(H 0).ver=v0∧H 900=bZq∧(k≤l.length)) ?_ ?_
 ·
  refine ⟨_,0,0,rfl,rfl,(eTq (rVq (iV 0)) (by rfl)),rfl,rfl,(eTq (rVq (iV 0)) rfl),(cVq rfl),rfl,?_⟩
  · omega
 intro mm T H ⟨k,v0,hmm,t0,t3,t9,t10,t11,h0,h900,hk⟩ Q2 p12 p22 p32 p42
 unfold aNj
 refine W_r (bM t11 t10 (R_e ?_))
 refine aH rfl (fun c3=>?_) fun c3=>?_
 ·
  have hq:=oR (l:=l) (k:=k) (by omega)
  refine aC (fH fun Q4 n4 x4 y4 z4 w4=>(W_r (cY (i:=k) t9 t11 (by omega) rfl (aG rfl rfl (aA rfl (R_e (W_r ?_)))))))
  refine aA t3 (aA rfl (bG rfl (bB rfl rfl (by omega) (aA rfl (R_e (W_r (aA rfl ?_)))))))
  refine bM rfl rfl (R_e ?_)
  refine cD rfl (fun c5=>?_) fun c5=>?_
  · exfalso; omega
  refine cM (n4 _ _ (.done (W_t (bB t11 (rNq 1) (by omega) (aA rfl (R_e ?_))))))
  refine p12 _ _ _ ?_ ⟨(k+1),v0,rfl,t0,(eTq (rNq (((cat (l.take k)).length)+(nth l k).length)) (by (rw [mE (by omega),List.length_append]; done))),t9,t10,(eTq (rNq (k+1)) (by rfl)),h0,h900,?_⟩
  · omega
  · omega
 have hk2:(cat (l.take k)).length=(cat l).length:=by rw [show k=l.length by omega,List.take_length]
 refine aN (p32 _ _ _ (x1 _ _ (.done (W_r (aA t3 (gI (bL rfl (bL rfl eB)) (sZ aGZ aEp aEg (by decide) rfl (n:=((cat (l.take k)).length)) (by omega) (by omega) 900 (cVq h900)) (aA rfl ?_)))))))
 refine R_e (aB (W_r (aA t0 (bG rfl (aA rfl (R_e (fH fun Q6 n6 x6 y6 z6 w6=>?_)))))))
 refine wY (fun mm T H=> ∃ (j:Nat) (w:Nat),mm=l.length - j∧T 6=(V.ms 900 w 0 ((cat (l.take j)).length))∧T 25=(aX l)∧T 26=(iV ((l.length:Nat):Int))∧T 27=(iV ((j:Nat):Int))∧(H 0).ver=v0∧H 900=(⟨w,true,decide ((cat (l.take k)).length=0),3,1,(List.map cI (cat (l.take j)))⟩:Blk)∧(j≤l.length)) ?_ ?_
 ·
  refine ⟨_,0,(0+1),rfl,(eTq (rVq (V.ms 900 (0+1) 0 0)) (by rfl)),rfl,rfl,(eTq (rVq (iV 0)) rfl),h0,(eTq (@rfl Blk (⟨0+1,true,decide ((cat (l.take k)).length=0),3,1,[]⟩:Blk)) (by rfl)),?_⟩
  · omega
 intro mm T H ⟨j,w,hmm,t6,t25,t26,t27,h0,h900,hj⟩ Q7 p17 p27 p37 p47
 unfold aNC
 refine W_r (bM t27 t26 (R_e ?_))
 refine aH rfl (fun c8=>?_) fun c8=>?_
 ·
  have hq:=oR (l:=l) (k:=j) (by omega)
  refine aC (fH fun Q9 n9 x9 y9 z9 w9=>(W_r (cY (i:=j) t25 t27 (by omega) rfl (aG rfl rfl (aA rfl (R_e (W_t ?_)))))))
  refine aA t6 (aA rfl (pO (l:=(cat (l.take j))) (m:=(nth l j)) (f:=cI) (rVq (V.ms 900 w 0 ((cat (l.take j)).length))) h900 (by rfl) (rVq (aZ (nth l j))) (fun _=>rfl) (fun _=>rfl) (by omega) (by omega) (aA rfl (R_e (n9 _ _ (.done (W_t ?_)))))))
  refine bB t27 (rNq 1) (by omega) (aA rfl (R_e ?_))
  refine p17 _ _ _ ?_ ⟨(j+1),(w+1),rfl,(eTq (rVq (V.ms 900 (w+1) 0 (((cat (l.take j)).length)+(nth l j).length))) (by (rw [mE (by omega),List.length_append]; done))),t25,t26,(eTq (rNq (j+1)) (by rfl)),h0,(eTq (@rfl Blk (⟨w+1,true,decide ((cat (l.take k)).length=0),3,1,(List.map cI (cat (l.take j)++(nth l j)))⟩:Blk)) (by (rw [mE (by omega)]; done))),?_⟩
  · omega
  · omega
 refine aN (p37 _ _ _ (x6 _ _ (.done (W_r (aA t6 (aA rfl (R_e ?_)))))))
 refine aO ?_
 refine bI (rVq (V.ms 900 w 0 ((cat (l.take j)).length))) (gL h900 (by simp) (l:=(cat (l.take j))) rfl (by rfl) (fun _=>by simp) ?_)
 · rw [show j=l.length by omega,List.take_length]
theorem aEW (l:List (List Int)) (hs:(cat l).length≤4294967296):aQ Tryz.prog 52 [(aX l)] (aZ (cat l)):=by
 refine pW Tryz.func52 aQ8 fun hB=>?_
 unfold s52
 dsimp only
 refine W_r (aA rfl (R_e (W_r (aA rfl (aI (aCE l hs) rfl (aA rfl (R_e ?_)))))))
 refine aO ?_
 refine bI (rVq (aZ (cat l))) (cG (by simp) rfl)
theorem lJ (m:M) (f:Fm):aQ Tryz.prog 23 [(V.agg [(iV m.i),(iV m.s),(aX m.nx),(aX m.ot)]),(V.agg (rFq f))] (V.tup [(V.agg [(aZ ((vck m f).1.ni)),(aZ ((vck m f).1.no))]),(V.bool ((vck m f).2.1)),(iV ((vck m f).2.2))]):=by
 refine pW Tryz.func23 aOR fun hB=>?_
 unfold s23
 dsimp only
 refine W_r (cE (i:=2) (n:=0) (m:=4) (cs:=[(iV m.i),(iV m.s),(aX m.nx),(aX m.ot)]) rfl (cVq rfl) rfl rfl rfl (cE (i:=3) (n:=0) (m:=3) (cs:=(rFq f)) rfl (cVq rfl) rfl rfl rfl (aU (i:=4) (n:=0) (m:=2) rfl (cVq rfl) rfl (aA rfl (aA rfl (R_e (aB ?_)))))))
 refine W_r (aJ rfl rfl rfl rfl (aI (pF m) rfl (aA rfl (R_e (aB (W_r (aA rfl ?_)))))))
 refine bZ rfl rfl (R_e ?_)
 refine aH rfl (fun c1=>?_) fun c1=>?_
 ·
  have d1:=aJh (f:=f) c1
  refine aB (W_r (aW rfl rfl (aA rfl (bF rfl rfl rfl rfl rfl rfl rfl rfl rfl (aA rfl (aA rfl (R_e ?_)))))))
  refine aL ?_
  refine gG (bC (u:=(V.agg [V.nilsl,V.nilsl])) rfl (@rfl Blk bTq) (lB oB rfl rfl)) (bV (rVq (V.bool false))) (bV (rVq (iV (dM m)))) (fD (bT ?_) (bT ?_)) (bA ?_) (aE ?_)
  · rw [d1]; try rfl
  · rw [d1]; try rfl
  · rw [d1]; try rfl
  · rw [d1]; try rfl
 have a1:=c1
 have mo:=fK (Decidable.of_not_not c1)
 refine aC (aB (W_r (aJ rfl rfl rfl rfl (aI (jR f) rfl (aA rfl (R_e (aB ?_)))))))
 refine W_r (aA rfl (bZ rfl rfl (R_e ?_)))
 refine aH rfl (fun c2=>?_) fun c2=>?_
 ·
  have d1:=aIt a1 c2
  refine aB (W_r (aW rfl rfl (aA rfl (bF rfl rfl rfl rfl rfl rfl rfl rfl rfl (aA rfl (aA rfl (R_e ?_)))))))
  refine aL ?_
  refine gG (bC (u:=(V.agg [V.nilsl,V.nilsl])) rfl (@rfl Blk bTq) (lB oB rfl rfl)) (bV (rVq (V.bool false))) (bV (rVq (iV (cX f)))) (fD (bT ?_) (bT ?_)) (bA ?_) (aE ?_)
  · rw [d1]; try rfl
  · rw [d1]; try rfl
  · rw [d1]; try rfl
  · rw [d1]; try rfl
 have a2:=c2
 refine aC (W_r (aJ rfl rfl rfl rfl (aI (qR f) rfl (aA rfl (bH rfl rfl (bH rfl rfl (aU (i:=9) (n:=0) (m:=3) rfl (cVq rfl) rfl ?_)))))))
 refine bF rfl rfl rfl rfl rfl rfl rfl rfl rfl (aA rfl (R_e (aB (W_r (aA rfl (bZ rfl rfl (R_e ?_)))))))
 refine aH rfl (fun c3=>?_) fun c3=>?_
 ·
  have d1:=aKv a1 a2 c3
  refine aB (W_r (aW rfl rfl (aA rfl (bF rfl rfl rfl rfl rfl rfl rfl rfl rfl (aA rfl (aA rfl (R_e ?_)))))))
  refine aL ?_
  refine gG (bC (u:=(V.agg [V.nilsl,V.nilsl])) rfl (@rfl Blk bTq) (lB oB rfl rfl)) (bV (rVq (V.bool false))) (bV (rVq (iV ((bK f).2)))) (fD (bT ?_) (bT ?_)) (bA ?_) (aE ?_)
  · rw [d1]; try rfl
  · rw [d1]; try rfl
  · rw [d1]; try rfl
  · rw [d1]; try rfl
 have a3:=c3
 have v0:=rV c3
 refine aC ?_
 refine dO (fun T H=>T 2=(mPq 2)∧T 4=(mPq 4)∧T 9=(mPq 9)∧T 11=(mPq 11)∧H 2=(bMq m)∧H 3=(bFq f)∧H 4=bTq∧H 9=(bFq ((bK f).1))∧H 11=(bk 1 92 4 [[(V.mm 43 1),V.nilsl,(iV 0),(V.str ([]))]])∧H 14=bZq∧H 16=bZq∧H 43=(bz 1 eP 2 (eS (List.map plK [])))∧H 815=bZq∧H 1003=bZq∧H 1006=bZq∧True) ?_ ?_
 ·
  refine aLb (i:=43) (n:=0) (rows:=eS (List.map plK [])) rfl (cVq rfl) rfl (aW rfl rfl (aU (i:=11) (n:=0) (m:=4) rfl (cVq rfl) rfl (bF rfl rfl rfl rfl rfl rfl rfl rfl rfl ?_)))
  exact eD ⟨rfl,rfl,rfl,rfl,rfl,rfl,rfl,rfl,rfl,rfl,rfl,rfl,rfl,rfl,rfl,trivial⟩
 intro T H ⟨t2,t4,t9,t11,h2,h3,h4,h9,h11,h14,h16,h43,h815,h1003,h1006,_⟩
 refine .lazyCell 815 95 5 11 0 1 [(V.mm 43 1),V.nilsl,(iV 0),(V.str ([]))] (by decide) (by rw [h11]; rfl) (by rw [h11]; rfl) rfl (.done ?_)
 refine cJ (R:=fun T H=>T 2=(mPq 2)∧T 4=(mPq 4)∧T 9=(mPq 9)∧T 11=(mPq 11)∧H 2=(bMq m)∧H 3=(bFq f)∧H 4=bTq∧H 9=(bFq ((bK f).1))∧H 11=(bk 1 92 4 [[(V.mm 43 1),(V.ms 815 1 0 0),(iV 0),(V.str ([]))]])∧H 14=bZq∧H 16=bZq∧H 43=(bz 1 eP 2 (eS (List.map plK [])))∧H 815=(bz 1 95 5 [])∧H 1003=bZq∧H 1006=bZq∧True) ⟨t2,t4,t9,t11,(uTq (uTq h2)),(uTq (uTq h3)),(uTq (uTq h4)),(uTq (uTq h9)),(by rw [aK,h11,(cVq h815)]; rfl),(uTq (uTq h14)),(uTq (uTq h16)),(uTq (uTq h43)),(by rw [bD _ _ (by decide),aK,(cVq h815)]),(uTq (uTq h1003)),(uTq (uTq h1006)),trivial⟩ ?_
 intro T H ⟨t2,t4,t9,t11,h2,h3,h4,h9,h11,h14,h16,h43,h815,h1003,h1006,_⟩
 refine uD fun K hK=>(aM t2 h2 (aJ rfl h2 rfl rfl (aJ t9 h9 rfl rfl (aW rfl rfl ?_))))
 by_cases heF:mH ([]) (⟨m.s,(bK f).1,[]⟩:Pl)
 ·
  refine gI (bL t11 (bL rfl eB)) (aCm ([]) m.s ((bK f).1) (0:Int) ([]) 1 1 1 0 0 heF _ h11 h43 h815 (cVq h1003) ⟨cVq h1006,congrArg Blk.live h1006⟩ (Nat.zero_le _) v0 (fun _ e=>absurd e.symm (aOm _))) (aA rfl (bH rfl rfl (bH rfl rfl (aA rfl (aA rfl ?_)))))
  refine eD (hK _ _ ?_); clear hK K
  refine cJ (R:=fun T H=>T 2=(mPq 2)∧T 4=(mPq 4)∧T 10=(iV ((fnd ([]) (⟨m.s,(bK f).1,[]⟩:Pl)).2))∧T 11=(mPq 11)∧T 12=(V.bool ((fnd ([]) (⟨m.s,(bK f).1,[]⟩:Pl)).1))∧H 2=(bMq m)∧H 3=(bFq f)∧H 4=bTq∧H 9=(bFq ((bK f).1))∧H 11=(bk 1 92 4 [[(V.mm 43 1),(V.ms 815 2 0 (([]++[(⟨m.s,(bK f).1,[]⟩:Pl)]).length)),(iV m.s),(V.str (kyF ((bK f).1)))]])∧H 14=bZq∧H 16=bZq∧H 43=(bz 1 eP 2 (eS (List.map plK ([]++[(⟨m.s,(bK f).1,[]⟩:Pl)]))))∧H 815=(bz 2 95 5 (List.map cPl ([]++[(⟨m.s,(bK f).1,[]⟩:Pl)])))∧H 1003=(⟨1,false,false,0,0,[]⟩:Blk)∧H 1006=(⟨1,false,false,0,0,[]⟩:Blk)∧True) ⟨t2,t4,rfl,t11,rfl,h2,h3,h4,h9,rfl,h14,h16,rfl,rfl,rfl,rfl,trivial⟩ ?_
  intro T H ⟨t2,t4,t10,t11,t12,h2,h3,h4,h9,h11,h14,h16,h43,h815,h1003,h1006,_⟩
  refine aB (W_r (aA t10 (bZ rfl rfl (aA rfl ?_))))
  refine aV 2 (fun T H=>T 2=(mPq 2)∧T 4=(mPq 4)∧T 10=(iV ((fnd ([]) (⟨m.s,(bK f).1,[]⟩:Pl)).2))∧T 11=(mPq 11)∧T 12=(V.bool ((fnd ([]) (⟨m.s,(bK f).1,[]⟩:Pl)).1))∧T 57=(V.bool (decide (((fnd ([]) (⟨m.s,(bK f).1,[]⟩:Pl)).2)≠(0:Int))||((fnd ([]) (⟨m.s,(bK f).1,[]⟩:Pl)).1)))∧H 2=(bMq m)∧H 3=(bFq f)∧H 4=bTq∧H 9=(bFq ((bK f).1))∧H 11=(bk 1 92 4 [[(V.mm 43 1),(V.ms 815 2 0 (([]++[(⟨m.s,(bK f).1,[]⟩:Pl)]).length)),(iV m.s),(V.str (kyF ((bK f).1)))]])∧H 14=bZq∧H 16=bZq∧H 43=(bz 1 eP 2 (eS (List.map plK ([]++[(⟨m.s,(bK f).1,[]⟩:Pl)]))))∧H 815=(bz 2 95 5 (List.map cPl ([]++[(⟨m.s,(bK f).1,[]⟩:Pl)])))∧H 1003=(⟨1,false,false,0,0,[]⟩:Blk)∧H 1006=(⟨1,false,false,0,0,[]⟩:Blk)∧True) ?_ ?_
  ·
   by_cases g6:((fnd ([]) (⟨m.s,(bK f).1,[]⟩:Pl)).2)≠(0:Int)
   ·
    refine G_n (edT g6 rfl) (aS (edT g6 rfl) rfl ?_)
    exact ⟨t2,t4,t10,t11,t12,(nM g6),h2,h3,h4,h9,h11,h14,h16,h43,h815,h1003,h1006,trivial⟩
   ·
    refine aF (edF g6 rfl) (aA t12 (aT (edF g6 rfl) rfl ?_))
    exact ⟨t2,t4,t10,t11,t12,(nH g6),h2,h3,h4,h9,h11,h14,h16,h43,h815,h1003,h1006,trivial⟩
  intro T H ⟨t2,t4,t10,t11,t12,t57,h2,h3,h4,h9,h11,h14,h16,h43,h815,h1003,h1006,_⟩
  refine R_e ?_
  refine cC t57 (fun c7=>?_) (fun c7=>?_)
  · exact False.elim ((aIp heF) c7)
  have a4:=aQP (q:=vS m f) (fun e=>absurd (e.symm.trans c7) (by decide))
  refine aC (aB (W_r (aA rfl (R_e (aD fun Q8 n8 x8 y8 z8=>?_)))))
  refine bS (fun mm T H=> ∃ (k:Nat) (l:List Pl) (ls:Int) (lk:List UInt8) (v8:Nat) (v14:Nat) (v16:Nat) (v1003:Nat) (v1006:Nat),mm=4097 - k∧T 2=(mPq 2)∧T 4=(mPq 4)∧T 11=(mPq 11)∧T 13=(iV ((k:Nat):Int))∧H 2=(bMq m)∧H 3=(bFq f)∧H 4=bTq∧H 9=(bFq ((bK f).1))∧H 11=(bk 1 92 4 [[(V.mm 43 1),(V.ms 815 v8 0 l.length),(iV ls),(V.str lk)]])∧((H 14).ver=v14∧(H 14).live=false)∧((H 16).ver=v16∧(H 16).live=false)∧H 43=(bz 1 eP 2 (eS (List.map plK l)))∧H 815=(bz v8 95 5 (List.map cPl l))∧((H 1003).ver=v1003∧(H 1003).live=false)∧((H 1006).ver=v1006∧(H 1006).live=false)∧(k≤l.length)∧(PlOK m l)∧(aBq l ls lk)∧(vck m f=mJ m (4097 - k) k l)) ?_ ?_
  ·
   refine ⟨_,0,([]++[(⟨m.s,(bK f).1,[]⟩:Pl)]),m.s,(kyF ((bK f).1)),2,0,0,1,1,rfl,t2,t4,t11,(eTq (rVq (iV 0)) rfl),h2,h3,h4,h9,(eTq h11 (by rfl)),⟨(cVq h14),congrArg Blk.live h14⟩,⟨(cVq h16),congrArg Blk.live h16⟩,(eTq h43 (by rfl)),(eTq h815 (by rfl)),⟨(cVq h1003),congrArg Blk.live h1003⟩,⟨(cVq h1006),congrArg Blk.live h1006⟩,?_,?_,?_,?_⟩
   · exact Nat.zero_le _
   · exact (fF heF).2 ▸ aPG a1 v0
   · exact zV
   · exact (aIr a1 a2 a3 a4).trans (congrArg (mJ m (4097 - 0) 0) (fF heF).2)
  intro mm T H ⟨k,l,ls,lk,v8,v14,v16,v1003,v1006,hmm,t2,t4,t11,t13,h2,h3,h4,h9,h11,h14,h16,h43,h815,h1003,h1006,hk,hp,hla,hc⟩ Q9 p19 p29 p39
  unfold aNN
  refine aB (W_r (aA t13 (aM t11 h11 (aJ rfl h11 rfl rfl (fW rfl h815 (by simp) (bM rfl rfl (R_e ?_)))))))
  refine aH rfl (fun c10=>?_) fun c10=>?_
  ·
   have pk:=hp.at_ k (by omega)
   have hr:=aNR a1 pk.1 pk.2.1
   have hpl:=hp.len
   refine aC (aD fun Q11 n11 x11 y11 z11=>(W_r (aM t11 h11 (aJ rfl h11 rfl rfl (aA t13 (eJ (i:=k) (rVq (V.ms 815 v8 0 l.length)) (rNq k) h815 (eO (by omega)) rfl (by omega) (cN (v:=(V.agg [(iV ((nth l k).s)),(iV ((nth l k).f.op)),(iV ((nth l k).f.arg)),(V.sl (List.map cF ((nth l k).f.kids))),(aZ ((nth l k).w))])) rfl h815 (eG (by omega) (by rfl)) ?_)))))))
   refine aU (i:=14) (n:=v14) (m:=5) rfl h14.1 rfl (bF rfl rfl rfl rfl rfl rfl rfl rfl rfl (R_e (W_r (aM t2 h2 (aJ rfl h2 rfl rfl (aA rfl (R_e ?_)))))))
   refine iH fun Q12 n12 x12 y12 z12=>?_
   refine bS (fun mm T H=> ∃ (j:Nat) (l2:List Pl) (ls2:Int) (lk2:List UInt8) (w8:Nat) (v16:Nat) (v1003:Nat) (v1006:Nat),mm=m.i.toNat - j∧T 2=(mPq 2)∧T 4=(mPq 4)∧T 11=(mPq 11)∧T 13=(iV ((k:Nat):Int))∧T 14=(V.mp 14 (v14+1) 0 0)∧T 74=(iV m.i)∧T 75=(iV ((j:Nat):Int))∧H 2=(bMq m)∧H 3=(bFq f)∧H 4=bTq∧H 9=(bFq ((bK f).1))∧H 11=(bk 1 92 4 [[(V.mm 43 1),(V.ms 815 w8 0 l2.length),(iV ls2),(V.str lk2)]])∧H 14=(bk (v14+1) 95 5 [[(iV ((nth l k).s)),(iV ((nth l k).f.op)),(iV ((nth l k).f.arg)),(V.sl (List.map cF ((nth l k).f.kids))),(aZ ((nth l k).w))]])∧((H 16).ver=v16∧(H 16).live=false)∧H 43=(bz 1 eP 2 (eS (List.map plK l2)))∧H 815=(bz w8 95 5 (List.map cPl l2))∧((H 1003).ver=v1003∧(H 1003).live=false)∧((H 1006).ver=v1006∧(H 1006).live=false)∧(j≤m.i.toNat)∧(PlOK m l2)∧(aBq l2 ls2 lk2)∧(l.length≤l2.length)∧(iS m (nth l k) m.i.toNat 0 l=iS m (nth l k) (m.i.toNat - j) j l2)) ?_ ?_
   ·
    refine ⟨_,0,l,ls,lk,v8,v16,v1003,v1006,rfl,t2,t4,t11,t13,rfl,rfl,(eTq (rVq (iV 0)) rfl),h2,h3,h4,h9,h11,rfl,h16,h43,h815,h1003,h1006,?_,?_,?_,?_,?_⟩
    · exact Nat.zero_le _
    · exact hp
    · exact hla
    · exact Nat.le_refl _
    · rfl
   intro mm T H ⟨j,l2,ls2,lk2,w8,v16,v1003,v1006,hmm,t2,t4,t11,t13,t14,t74,t75,h2,h3,h4,h9,h11,h14,h16,h43,h815,h1003,h1006,hj,hp2,hla2,hl2,hc2⟩ Q13 p113 p213 p313
   unfold aOl
   refine W_r (bM t75 t74 (R_e ?_))
   refine aH rfl (fun c14=>?_) fun c14=>?_
   ·
    refine aC (aD fun Q15 n15 x15 y15 z15=>(W_r (aA t75 (aA rfl (R_e (W_d (by exact (jY h16.2 lV)) (aM t14 h14 ?_)))))))
    refine aJ rfl h14 rfl rfl (aA rfl (aM t2 h2 (aJ rfl h2 rfl rfl (aM t14 h14 (aJ rfl h14 rfl rfl (fE (i:=((nth l k).s)) (rVq (aX m.ot)) (rVq (iV ((nth l k).s))) (by omega) (by omega) rfl (aG rfl rfl ?_)))))))
    refine aA rfl (cY (i:=j) (rVq (aZ (nth m.ot ((nth l k).s).toNat))) (rNq j) (by omega) rfl (aG rfl rfl (aI (aD5 ((nth l k).f) ((j:Nat):Int) (nth (nth m.ot ((nth l k).s).toNat) j)) rfl (aA rfl (bH rfl rfl (bH rfl rfl (aU (i:=16) (n:=v16) (m:=3) rfl h16.1 rfl ?_)))))))
    refine bF rfl rfl rfl rfl rfl rfl rfl rfl rfl (aA rfl (R_e (aB (W_r (aA rfl (bZ rfl rfl (R_e ?_)))))))
    refine aH rfl (fun c16=>?_) fun c16=>?_
    ·
     have d1:=hc.trans (jK (by omega) hp.len (hc2.trans (aI2 (by omega) c16)))
     refine aB (W_r (aW rfl rfl (aA rfl (bF t4 rfl rfl h4 rfl rfl rfl rfl rfl (aA rfl (aA rfl (R_e ?_)))))))
     refine aL (y15 _ _ (p213 _ _ (y12 _ _ (y11 _ _ (p29 _ _ (y8 _ _ ?_))))))
     refine gG (bC (u:=(V.agg [V.nilsl,V.nilsl])) t4 (@rfl Blk bTq) (lB oB rfl rfl)) (bV (rVq (V.bool false))) (bV (rVq (iV ((sNq m (nth l k) j).2)))) (fD (bT ?_) (bT ?_)) (bA ?_) (aE ?_)
     · rw [d1]; try rfl
     · rw [d1]; try rfl
     · rw [d1]; try rfl
     · rw [d1]; try rfl
    have e1:=c16
    have x1:=wQ c16
    have p3:=aLy (k:=k) a1 hp2 pk (by omega) (by omega) e1
    refine aC (W_r (aM t14 h14 (aJ rfl h14 rfl rfl (aA rfl (aR rfl rfl (aR rfl rfl (aI (aEW ([(nth l k).w,[((j:Nat):Int)]]) (by simp only [cat,List.append_nil,List.length_append,List.length_singleton]; omega)) rfl ?_)))))))
    refine aA rfl (R_e (uD fun K hK=>(aM t2 h2 (aJ rfl h2 rfl rfl (aM t14 h14 (aJ rfl h14 rfl rfl (fE (i:=((nth l k).s)) (rVq (aX m.nx)) (rVq (iV ((nth l k).s))) (by omega) (by omega) rfl ?_)))))))
    refine aG rfl rfl (aA rfl (cY (i:=j) (rVq (aZ (nth m.nx ((nth l k).s).toNat))) (rNq j) (by omega) rfl (aG rfl rfl (aJ rfl rfl rfl rfl (aA rfl (aW rfl rfl ?_))))))
    by_cases heF:mH l2 (vNq m (nth l k) j)
    ·
     refine gI (bL t11 (bL rfl eB)) (aE2 l2 (vNq m (nth l k) j) ls2 lk2 1 1 w8 v1003 v1006 heF _ h11 h43 h815 h1003.1 h1006 hp2.len x1 (aGL hla2)) (aA rfl (bH rfl rfl (bH rfl rfl (aA rfl (aA rfl ?_)))))
     refine eD (hK _ _ ?_); clear hK K
     refine cJ (R:=fun T H=>T 2=(mPq 2)∧T 4=(mPq 4)∧T 11=(mPq 11)∧T 13=(iV ((k:Nat):Int))∧T 14=(V.mp 14 (v14+1) 0 0)∧T 17=(iV ((fnd l2 (vNq m (nth l k) j)).2))∧T 18=(aZ (cat ([(nth l k).w,[((j:Nat):Int)]])))∧T 19=(V.bool ((fnd l2 (vNq m (nth l k) j)).1))∧T 74=(iV m.i)∧T 75=(iV ((j:Nat):Int))∧H 2=(bMq m)∧H 3=(bFq f)∧H 4=bTq∧H 9=(bFq ((bK f).1))∧H 11=(bk 1 92 4 [[(V.mm 43 1),(V.ms 815 (w8+1) 0 ((l2++[(vNq m (nth l k) j)]).length)),(iV (nth (nth m.nx ((nth l k).s).toNat) j)),(V.str (kyF ((sNq m (nth l k) j).1)))]])∧H 14=(bk (v14+1) 95 5 [[(iV ((nth l k).s)),(iV ((nth l k).f.op)),(iV ((nth l k).f.arg)),(V.sl (List.map cF ((nth l k).f.kids))),(aZ ((nth l k).w))]])∧H 16=(bk (v16+1) 24 3 [(rFq ((sNq m (nth l k) j).1))])∧H 43=(bz 1 eP 2 (eS (List.map plK (l2++[(vNq m (nth l k) j)]))))∧H 815=(bz (w8+1) 95 5 (List.map cPl (l2++[(vNq m (nth l k) j)])))∧H 1003=(⟨v1003+1,false,false,0,0,[]⟩:Blk)∧H 1006=(⟨v1006+1,false,false,0,0,[]⟩:Blk)∧True) ⟨t2,t4,t11,t13,t14,rfl,rfl,rfl,t74,t75,h2,h3,h4,h9,rfl,h14,rfl,rfl,rfl,rfl,rfl,trivial⟩ ?_
     intro T H ⟨t2,t4,t11,t13,t14,t17,t18,t19,t74,t75,h2,h3,h4,h9,h11,h14,h16,h43,h815,h1003,h1006,_⟩
     refine aB (W_r (aA t17 (bZ rfl rfl (R_e ?_))))
     refine aH rfl (fun c19=>?_) fun c19=>?_
     · exact False.elim ((fun (e:(fnd l2 (vNq m (nth l k) j)).2≠0)=>e (congrArg Prod.snd (fF heF).1)) c19)
     have e2:=c19
     refine aC (W_r (aA t19 (R_e ?_)))
     refine jW rfl (fun c20=>?_) (fun c20=>?_)
     · exact False.elim ((fun (e:(fnd l2 (vNq m (nth l k) j)).1=true)=>absurd (e.symm.trans (congrArg Prod.fst (fF heF).1)) (by decide)) c20)
     have e3:=c20
     replace e3: ¬(_=true):=fun q=>absurd (q.symm.trans e3) (by decide)
     refine cM (n15 _ _ (cJ (R:=fun T H=>T 2=(mPq 2)∧T 4=(mPq 4)∧T 11=(mPq 11)∧T 13=(iV ((k:Nat):Int))∧T 14=(V.mp 14 (v14+1) 0 0)∧T 18=(aZ (cat ([(nth l k).w,[((j:Nat):Int)]])))∧T 74=(iV m.i)∧T 75=(iV ((j:Nat):Int))∧T 124=(V.bool ((fnd l2 (vNq m (nth l k) j)).1))∧H 2=(bMq m)∧H 3=(bFq f)∧H 4=bTq∧H 9=(bFq ((bK f).1))∧H 11=(bk 1 92 4 [[(V.mm 43 1),(V.ms 815 (w8+1) 0 ((l2++[(vNq m (nth l k) j)]).length)),(iV (nth (nth m.nx ((nth l k).s).toNat) j)),(V.str (kyF ((sNq m (nth l k) j).1)))]])∧H 14=(bk (v14+1) 95 5 [[(iV ((nth l k).s)),(iV ((nth l k).f.op)),(iV ((nth l k).f.arg)),(V.sl (List.map cF ((nth l k).f.kids))),(aZ ((nth l k).w))]])∧H 16=(bk (v16+1) 24 3 [(rFq ((sNq m (nth l k) j).1))])∧H 43=(bz 1 eP 2 (eS (List.map plK (l2++[(vNq m (nth l k) j)]))))∧H 815=(bz (w8+1) 95 5 (List.map cPl (l2++[(vNq m (nth l k) j)])))∧H 1003=(⟨v1003+1,false,false,0,0,[]⟩:Blk)∧H 1006=(⟨v1006+1,false,false,0,0,[]⟩:Blk)∧True) ⟨t2,t4,t11,t13,t14,t18,t74,t75,(rVq (V.bool ((fnd l2 (vNq m (nth l k) j)).1))),h2,h3,h4,h9,h11,h14,h16,h43,h815,h1003,h1006,trivial⟩ ?_))
     intro T H ⟨t2,t4,t11,t13,t14,t18,t74,t75,t124,h2,h3,h4,h9,h11,h14,h16,h43,h815,h1003,h1006,_⟩
     refine .freeze 16 (.done ?_)
     refine cJ (R:=fun T H=>T 2=(mPq 2)∧T 4=(mPq 4)∧T 11=(mPq 11)∧T 13=(iV ((k:Nat):Int))∧T 14=(V.mp 14 (v14+1) 0 0)∧T 18=(aZ (cat ([(nth l k).w,[((j:Nat):Int)]])))∧T 74=(iV m.i)∧T 75=(iV ((j:Nat):Int))∧T 124=(V.bool ((fnd l2 (vNq m (nth l k) j)).1))∧H 2=(bMq m)∧H 3=(bFq f)∧H 4=bTq∧H 9=(bFq ((bK f).1))∧H 11=(bk 1 92 4 [[(V.mm 43 1),(V.ms 815 (w8+1) 0 ((l2++[(vNq m (nth l k) j)]).length)),(iV (nth (nth m.nx ((nth l k).s).toNat) j)),(V.str (kyF ((sNq m (nth l k) j).1)))]])∧H 14=(bk (v14+1) 95 5 [[(iV ((nth l k).s)),(iV ((nth l k).f.op)),(iV ((nth l k).f.arg)),(V.sl (List.map cF ((nth l k).f.kids))),(aZ ((nth l k).w))]])∧((H 16).ver=v16+1∧(H 16).live=false)∧H 43=(bz 1 eP 2 (eS (List.map plK (l2++[(vNq m (nth l k) j)]))))∧H 815=(bz (w8+1) 95 5 (List.map cPl (l2++[(vNq m (nth l k) j)])))∧H 1003=(⟨v1003+1,false,false,0,0,[]⟩:Blk)∧H 1006=(⟨v1006+1,false,false,0,0,[]⟩:Blk)∧True) ⟨(bW t2 rfl),(bW t4 rfl),(bW t11 rfl),(bW t13 rfl),(bW t14 rfl),(bW t18 rfl),(bW t74 rfl),(bW t75 rfl),(bW t124 rfl),(bQ h2 (by decide)),(bQ h3 (by decide)),(bQ h4 (by decide)),(bQ h9 (by decide)),(bQ h11 (by decide)),(bQ h14 (by decide)),(dZ (cVq h16)),(bQ h43 (by decide)),(bQ h815 (by decide)),(bQ h1003 (by decide)),(bQ h1006 (by decide)),trivial⟩ ?_
     intro T H ⟨t2,t4,t11,t13,t14,t18,t74,t75,t124,h2,h3,h4,h9,h11,h14,h16,h43,h815,h1003,h1006,_⟩
     refine W_t (bB t75 (rNq 1) (by omega) (aA rfl (R_e ?_)))
     refine p113 _ _ _ ?_ ⟨(j+1),(l2++[(vNq m (nth l k) j)]),(nth (nth m.nx ((nth l k).s).toNat) j),(kyF ((sNq m (nth l k) j).1)),(w8+1),(v16+1),(v1003+1),(v1006+1),rfl,t2,t4,t11,t13,t14,t74,(eTq (rNq (j+1)) (by rfl)),h2,h3,h4,h9,(eTq h11 (by rfl)),h14,h16,(eTq h43 (by rfl)),(eTq h815 (by rfl)),⟨(cVq h1003),congrArg Blk.live h1003⟩,⟨(cVq h1006),congrArg Blk.live h1006⟩,?_,?_,?_,?_,?_⟩
     · omega
     · omega
     · first|exact (fF heF).2 ▸ p3|exact (pP heF) ▸ p3
     · first|exact zV|exact hla2
     · first|exact hl2|(rw [List.length_append]; omega)
     · first|exact hc2.trans ((pN (by omega) e1 e2 e3).trans (by rw [show lO l2 (vNx m (nth l k) j)=_ from (fF heF).2]))|exact hc2.trans ((pN (by omega) e1 e2 e3).trans (by rw [show lO l2 (vNx m (nth l k) j)=_ from pP heF]))
    ·
     refine gI (bL t11 (bL rfl eB)) (aEQ l2 (vNq m (nth l k) j) ls2 lk2 1 1 w8 v1003 v1006 heF _ h11 h43 h815 h1003.1 h1006 hp2.len x1 (aGL hla2)) (aA rfl (bH rfl rfl (bH rfl rfl (aA rfl (aA rfl ?_)))))
     refine eD (hK _ _ ?_); clear hK K
     refine cJ (R:=fun T H=>T 2=(mPq 2)∧T 4=(mPq 4)∧T 11=(mPq 11)∧T 13=(iV ((k:Nat):Int))∧T 14=(V.mp 14 (v14+1) 0 0)∧T 17=(iV ((fnd l2 (vNq m (nth l k) j)).2))∧T 18=(aZ (cat ([(nth l k).w,[((j:Nat):Int)]])))∧T 19=(V.bool ((fnd l2 (vNq m (nth l k) j)).1))∧T 74=(iV m.i)∧T 75=(iV ((j:Nat):Int))∧H 2=(bMq m)∧H 3=(bFq f)∧H 4=bTq∧H 9=(bFq ((bK f).1))∧H 11=(bk 1 92 4 [[(V.mm 43 1),(V.ms 815 w8 0 l2.length),(iV ls2),(V.str lk2)]])∧H 14=(bk (v14+1) 95 5 [[(iV ((nth l k).s)),(iV ((nth l k).f.op)),(iV ((nth l k).f.arg)),(V.sl (List.map cF ((nth l k).f.kids))),(aZ ((nth l k).w))]])∧H 16=(bk (v16+1) 24 3 [(rFq ((sNq m (nth l k) j).1))])∧H 43=(bz 1 eP 2 (eS (List.map plK l2)))∧H 815=(bz w8 95 5 (List.map cPl l2))∧H 1003=(⟨v1003+1,false,false,0,0,[]⟩:Blk)∧H 1006=(⟨v1006+1,false,false,0,0,[]⟩:Blk)∧True) ⟨t2,t4,t11,t13,t14,rfl,rfl,rfl,t74,t75,h2,h3,h4,h9,h11,h14,rfl,h43,h815,rfl,rfl,trivial⟩ ?_
     intro T H ⟨t2,t4,t11,t13,t14,t17,t18,t19,t74,t75,h2,h3,h4,h9,h11,h14,h16,h43,h815,h1003,h1006,_⟩
     refine aB (W_r (aA t17 (bZ rfl rfl (R_e ?_))))
     refine aH rfl (fun c23=>?_) fun c23=>?_
     ·
      have d1:=hc.trans (jK (by omega) hp.len (hc2.trans (aEI (by omega) e1 c23)))
      refine aB (W_r (aW rfl rfl (aA t17 (bF t4 rfl rfl h4 rfl rfl rfl rfl rfl (aA rfl (aA rfl (R_e ?_)))))))
      refine aL (y15 _ _ (p213 _ _ (y12 _ _ (y11 _ _ (p29 _ _ (y8 _ _ ?_))))))
      refine gG (bC (u:=(V.agg [V.nilsl,V.nilsl])) t4 (@rfl Blk bTq) (lB oB rfl rfl)) (bV (rVq (V.bool false))) (bV (rVq (iV ((fnd l2 (vNq m (nth l k) j)).2)))) (fD (bT ?_) (bT ?_)) (bA ?_) (aE ?_)
      · rw [d1]; try rfl
      · rw [d1]; try rfl
      · rw [d1]; try rfl
      · rw [d1]; try rfl
     have e2:=c23
     refine aC (W_r (aA t19 (R_e ?_)))
     refine jW rfl (fun c24=>?_) (fun c24=>?_)
     ·
      have d1:=hc.trans (jK (by omega) hp.len (hc2.trans (aKm (by omega) e1 e2 c24)))
      refine W_r (aJ t2 h2 rfl rfl (aA t18 (aI (aHs m (cat ([(nth l k).w,[((j:Nat):Int)]]))) rfl (aA rfl (bH rfl rfl (bH rfl rfl (aA rfl ?_)))))))
      refine aA rfl (R_e (W_r (aA t18 (aA rfl (aW rfl rfl (aA rfl (aY rfl rfl ?_)))))))
      refine aA rfl (bF t4 rfl rfl h4 rfl rfl rfl rfl rfl (aA rfl (aA rfl (R_e (aO (y15 _ _ (p213 _ _ ?_)))))))
      refine y12 _ _ (y11 _ _ (p29 _ _ (y8 _ _ ?_)))
      refine gG (bC (u:=(V.agg [(aZ (cat ([(nth l k).w,[((j:Nat):Int)]]))),(aZ (nN m m.s (cat ([(nth l k).w,[((j:Nat):Int)]]))))])) t4 (@rfl Blk (bk 1 54 2 [[(aZ (cat ([(nth l k).w,[((j:Nat):Int)]]))),(aZ (nN m m.s (cat ([(nth l k).w,[((j:Nat):Int)]]))))]])) (lB oB rfl rfl)) (bV (rVq (V.bool (decide ((frE m m.s (cat ([(nth l k).w,[((j:Nat):Int)]])))=(0:Int)))))) (bV (rVq (iV (frE m m.s (cat ([(nth l k).w,[((j:Nat):Int)]])))))) (fD (dB ?_ (fun _=>by simp)) (dB ?_ (fun _=>by simp))) (bA ?_) (aE ?_)
      · rw [d1]; try rfl
      · rw [d1]; try rfl
      · rw [d1]; try rfl
      · rw [d1]; try rfl
     have e3:=c24
     replace e3: ¬(_=true):=fun q=>absurd (q.symm.trans e3) (by decide)
     refine cM (n15 _ _ (cJ (R:=fun T H=>T 2=(mPq 2)∧T 4=(mPq 4)∧T 11=(mPq 11)∧T 13=(iV ((k:Nat):Int))∧T 14=(V.mp 14 (v14+1) 0 0)∧T 18=(aZ (cat ([(nth l k).w,[((j:Nat):Int)]])))∧T 74=(iV m.i)∧T 75=(iV ((j:Nat):Int))∧T 124=(V.bool ((fnd l2 (vNq m (nth l k) j)).1))∧H 2=(bMq m)∧H 3=(bFq f)∧H 4=bTq∧H 9=(bFq ((bK f).1))∧H 11=(bk 1 92 4 [[(V.mm 43 1),(V.ms 815 w8 0 l2.length),(iV ls2),(V.str lk2)]])∧H 14=(bk (v14+1) 95 5 [[(iV ((nth l k).s)),(iV ((nth l k).f.op)),(iV ((nth l k).f.arg)),(V.sl (List.map cF ((nth l k).f.kids))),(aZ ((nth l k).w))]])∧H 16=(bk (v16+1) 24 3 [(rFq ((sNq m (nth l k) j).1))])∧H 43=(bz 1 eP 2 (eS (List.map plK l2)))∧H 815=(bz w8 95 5 (List.map cPl l2))∧H 1003=(⟨v1003+1,false,false,0,0,[]⟩:Blk)∧H 1006=(⟨v1006+1,false,false,0,0,[]⟩:Blk)∧True) ⟨t2,t4,t11,t13,t14,t18,t74,t75,(rVq (V.bool ((fnd l2 (vNq m (nth l k) j)).1))),h2,h3,h4,h9,h11,h14,h16,h43,h815,h1003,h1006,trivial⟩ ?_))
     intro T H ⟨t2,t4,t11,t13,t14,t18,t74,t75,t124,h2,h3,h4,h9,h11,h14,h16,h43,h815,h1003,h1006,_⟩
     refine .freeze 16 (.done ?_)
     refine cJ (R:=fun T H=>T 2=(mPq 2)∧T 4=(mPq 4)∧T 11=(mPq 11)∧T 13=(iV ((k:Nat):Int))∧T 14=(V.mp 14 (v14+1) 0 0)∧T 18=(aZ (cat ([(nth l k).w,[((j:Nat):Int)]])))∧T 74=(iV m.i)∧T 75=(iV ((j:Nat):Int))∧T 124=(V.bool ((fnd l2 (vNq m (nth l k) j)).1))∧H 2=(bMq m)∧H 3=(bFq f)∧H 4=bTq∧H 9=(bFq ((bK f).1))∧H 11=(bk 1 92 4 [[(V.mm 43 1),(V.ms 815 w8 0 l2.length),(iV ls2),(V.str lk2)]])∧H 14=(bk (v14+1) 95 5 [[(iV ((nth l k).s)),(iV ((nth l k).f.op)),(iV ((nth l k).f.arg)),(V.sl (List.map cF ((nth l k).f.kids))),(aZ ((nth l k).w))]])∧((H 16).ver=v16+1∧(H 16).live=false)∧H 43=(bz 1 eP 2 (eS (List.map plK l2)))∧H 815=(bz w8 95 5 (List.map cPl l2))∧H 1003=(⟨v1003+1,false,false,0,0,[]⟩:Blk)∧H 1006=(⟨v1006+1,false,false,0,0,[]⟩:Blk)∧True) ⟨(bW t2 rfl),(bW t4 rfl),(bW t11 rfl),(bW t13 rfl),(bW t14 rfl),(bW t18 rfl),(bW t74 rfl),(bW t75 rfl),(bW t124 rfl),(bQ h2 (by decide)),(bQ h3 (by decide)),(bQ h4 (by decide)),(bQ h9 (by decide)),(bQ h11 (by decide)),(bQ h14 (by decide)),(dZ (cVq h16)),(bQ h43 (by decide)),(bQ h815 (by decide)),(bQ h1003 (by decide)),(bQ h1006 (by decide)),trivial⟩ ?_
     intro T H ⟨t2,t4,t11,t13,t14,t18,t74,t75,t124,h2,h3,h4,h9,h11,h14,h16,h43,h815,h1003,h1006,_⟩
     refine W_t (bB t75 (rNq 1) (by omega) (aA rfl (R_e ?_)))
     refine p113 _ _ _ ?_ ⟨(j+1),l2,ls2,lk2,w8,(v16+1),(v1003+1),(v1006+1),rfl,t2,t4,t11,t13,t14,t74,(eTq (rNq (j+1)) (by rfl)),h2,h3,h4,h9,h11,h14,h16,h43,h815,⟨(cVq h1003),congrArg Blk.live h1003⟩,⟨(cVq h1006),congrArg Blk.live h1006⟩,?_,?_,?_,?_,?_⟩
     · omega
     · omega
     · first|exact (fF heF).2 ▸ p3|exact (pP heF) ▸ p3
     · first|exact zV|exact hla2
     · first|exact hl2|(rw [List.length_append]; omega)
     · first|exact hc2.trans ((pN (by omega) e1 e2 e3).trans (by rw [show lO l2 (vNx m (nth l k) j)=_ from (fF heF).2]))|exact hc2.trans ((pN (by omega) e1 e2 e3).trans (by rw [show lO l2 (vNx m (nth l k) j)=_ from pP heF]))
   have hr0:=hc2.trans (aDh (by omega))
   refine aN (p313 _ _ _ (x12 _ _ (n11 _ _ (cJ (R:=fun T H=>T 2=(mPq 2)∧T 4=(mPq 4)∧T 11=(mPq 11)∧T 13=(iV ((k:Nat):Int))∧T 14=(V.mp 14 (v14+1) 0 0)∧T 74=(iV m.i)∧T 75=(iV ((j:Nat):Int))∧T 76=(V.bool (decide (((j:Nat):Int) < m.i)))∧H 2=(bMq m)∧H 3=(bFq f)∧H 4=bTq∧H 9=(bFq ((bK f).1))∧H 11=(bk 1 92 4 [[(V.mm 43 1),(V.ms 815 w8 0 l2.length),(iV ls2),(V.str lk2)]])∧H 14=(bk (v14+1) 95 5 [[(iV ((nth l k).s)),(iV ((nth l k).f.op)),(iV ((nth l k).f.arg)),(V.sl (List.map cF ((nth l k).f.kids))),(aZ ((nth l k).w))]])∧((H 16).ver=v16∧(H 16).live=false)∧H 43=(bz 1 eP 2 (eS (List.map plK l2)))∧H 815=(bz w8 95 5 (List.map cPl l2))∧((H 1003).ver=v1003∧(H 1003).live=false)∧((H 1006).ver=v1006∧(H 1006).live=false)∧True) ⟨t2,t4,t11,t13,t14,t74,t75,(rVq (V.bool (decide (((j:Nat):Int) < m.i)))),h2,h3,h4,h9,h11,h14,h16,h43,h815,h1003,h1006,trivial⟩ ?_))))
   intro T H ⟨t2,t4,t11,t13,t14,t74,t75,t76,h2,h3,h4,h9,h11,h14,h16,h43,h815,h1003,h1006,_⟩
   refine .freeze 14 (.done ?_)
   refine cJ (R:=fun T H=>T 2=(mPq 2)∧T 4=(mPq 4)∧T 11=(mPq 11)∧T 13=(iV ((k:Nat):Int))∧T 14=(V.mp 14 (v14+1) 0 0)∧T 74=(iV m.i)∧T 75=(iV ((j:Nat):Int))∧T 76=(V.bool (decide (((j:Nat):Int) < m.i)))∧H 2=(bMq m)∧H 3=(bFq f)∧H 4=bTq∧H 9=(bFq ((bK f).1))∧H 11=(bk 1 92 4 [[(V.mm 43 1),(V.ms 815 w8 0 l2.length),(iV ls2),(V.str lk2)]])∧((H 14).ver=v14+1∧(H 14).live=false)∧((H 16).ver=v16∧(H 16).live=false)∧H 43=(bz 1 eP 2 (eS (List.map plK l2)))∧H 815=(bz w8 95 5 (List.map cPl l2))∧((H 1003).ver=v1003∧(H 1003).live=false)∧((H 1006).ver=v1006∧(H 1006).live=false)∧True) ⟨(bW t2 rfl),(bW t4 rfl),(bW t11 rfl),(bW t13 rfl),(bW t14 rfl),(bW t74 rfl),(bW t75 rfl),(bW t76 rfl),(bQ h2 (by decide)),(bQ h3 (by decide)),(bQ h4 (by decide)),(bQ h9 (by decide)),(bQ h11 (by decide)),(dZ (cVq h14)),(iQ h16),(bQ h43 (by decide)),(bQ h815 (by decide)),(iQ h1003),(iQ h1006),trivial⟩ ?_
   intro T H ⟨t2,t4,t11,t13,t14,t74,t75,t76,h2,h3,h4,h9,h11,h14,h16,h43,h815,h1003,h1006,_⟩
   refine W_t (aA t13 (bB rfl (rNq 1) (by omega) (aA rfl (R_e ?_))))
   refine p19 _ _ _ ?_ ⟨(k+1),l2,ls2,lk2,w8,(v14+1),v16,v1003,v1006,rfl,t2,t4,t11,(eTq (rNq (k+1)) (by rfl)),h2,h3,h4,h9,h11,h14,h16,h43,h815,h1003,h1006,?_,?_,?_,?_⟩
   · have:=hp.len; omega
   · omega
   · exact hp2
   · exact hla2
   · exact hc.trans (aGR (by omega) hp.len hr0)
  have d1:=hc.trans (aDu (by omega))
  refine aN (p39 _ _ _ (x8 _ _ (.done (W_r (aW rfl rfl (bF t4 rfl rfl h4 rfl rfl rfl rfl rfl (aA rfl ?_)))))))
  refine aA rfl (R_e (aO ?_))
  refine gG (bC (u:=(V.agg [V.nilsl,V.nilsl])) t4 (@rfl Blk bTq) (lB oB rfl rfl)) (bV (rVq (V.bool false))) (bV (rVq (iV 0))) (fD (bT ?_) (bT ?_)) (bA ?_) (aE ?_)
  · rw [d1]; try rfl
  · rw [d1]; try rfl
  · rw [d1]; try rfl
  · rw [d1]; try rfl
 ·
  refine gI (bL t11 (bL rfl eB)) (aDC ([]) m.s ((bK f).1) (0:Int) ([]) 1 1 1 0 0 heF _ h11 h43 h815 (cVq h1003) ⟨cVq h1006,congrArg Blk.live h1006⟩ (Nat.zero_le _) v0 (fun _ e=>absurd e.symm (aOm _))) (aA rfl (bH rfl rfl (bH rfl rfl (aA rfl (aA rfl ?_)))))
  refine eD (hK _ _ ?_); clear hK K
  refine cJ (R:=fun T H=>T 2=(mPq 2)∧T 4=(mPq 4)∧T 10=(iV ((fnd ([]) (⟨m.s,(bK f).1,[]⟩:Pl)).2))∧T 11=(mPq 11)∧T 12=(V.bool ((fnd ([]) (⟨m.s,(bK f).1,[]⟩:Pl)).1))∧H 2=(bMq m)∧H 3=(bFq f)∧H 4=bTq∧H 9=(bFq ((bK f).1))∧H 11=(bk 1 92 4 [[(V.mm 43 1),(V.ms 815 1 0 0),(iV 0),(V.str ([]))]])∧H 14=bZq∧H 16=bZq∧H 43=(bz 1 eP 2 (eS (List.map plK [])))∧H 815=(bz 1 95 5 [])∧H 1003=(⟨1,false,false,0,0,[]⟩:Blk)∧H 1006=(⟨1,false,false,0,0,[]⟩:Blk)∧True) ⟨t2,t4,rfl,t11,rfl,h2,h3,h4,h9,h11,h14,h16,h43,h815,rfl,rfl,trivial⟩ ?_
  intro T H ⟨t2,t4,t10,t11,t12,h2,h3,h4,h9,h11,h14,h16,h43,h815,h1003,h1006,_⟩
  refine aB (W_r (aA t10 (bZ rfl rfl (aA rfl ?_))))
  refine aV 2 (fun T H=>T 2=(mPq 2)∧T 4=(mPq 4)∧T 10=(iV ((fnd ([]) (⟨m.s,(bK f).1,[]⟩:Pl)).2))∧T 11=(mPq 11)∧T 12=(V.bool ((fnd ([]) (⟨m.s,(bK f).1,[]⟩:Pl)).1))∧T 57=(V.bool (decide (((fnd ([]) (⟨m.s,(bK f).1,[]⟩:Pl)).2)≠(0:Int))||((fnd ([]) (⟨m.s,(bK f).1,[]⟩:Pl)).1)))∧H 2=(bMq m)∧H 3=(bFq f)∧H 4=bTq∧H 9=(bFq ((bK f).1))∧H 11=(bk 1 92 4 [[(V.mm 43 1),(V.ms 815 1 0 0),(iV 0),(V.str ([]))]])∧H 14=bZq∧H 16=bZq∧H 43=(bz 1 eP 2 (eS (List.map plK [])))∧H 815=(bz 1 95 5 [])∧H 1003=(⟨1,false,false,0,0,[]⟩:Blk)∧H 1006=(⟨1,false,false,0,0,[]⟩:Blk)∧True) ?_ ?_
  ·
   by_cases g27:((fnd ([]) (⟨m.s,(bK f).1,[]⟩:Pl)).2)≠(0:Int)
   ·
    refine G_n (edT g27 rfl) (aS (edT g27 rfl) rfl ?_)
    exact ⟨t2,t4,t10,t11,t12,(nM g27),h2,h3,h4,h9,h11,h14,h16,h43,h815,h1003,h1006,trivial⟩
   ·
    refine aF (edF g27 rfl) (aA t12 (aT (edF g27 rfl) rfl ?_))
    exact ⟨t2,t4,t10,t11,t12,(nH g27),h2,h3,h4,h9,h11,h14,h16,h43,h815,h1003,h1006,trivial⟩
  intro T H ⟨t2,t4,t10,t11,t12,t57,h2,h3,h4,h9,h11,h14,h16,h43,h815,h1003,h1006,_⟩
  refine R_e ?_
  refine cC t57 (fun c28=>?_) (fun c28=>?_)
  ·
   have d1:=aJ6 a1 a2 a3 (aQ1 c28)
   refine aB (W_r (aW rfl rfl (aA t12 (aA t10 (bF t4 rfl rfl h4 rfl rfl rfl rfl rfl (aA rfl (aA rfl ?_)))))))
   refine R_e (aL ?_)
   refine gG (bC (u:=(V.agg [V.nilsl,V.nilsl])) t4 (@rfl Blk bTq) (lB oB rfl rfl)) (bV (rVq (V.bool ((fnd ([]) (⟨m.s,(bK f).1,[]⟩:Pl)).1)))) (bV (rVq (iV ((fnd ([]) (⟨m.s,(bK f).1,[]⟩:Pl)).2)))) (fD (bT ?_) (bT ?_)) (bA ?_) (aE ?_)
   · rw [d1]; try rfl
   · rw [d1]; try rfl
   · rw [d1]; try rfl
   · rw [d1]; try rfl
  · exact absurd (eTq (Eq.symm c28) (aJB heF)) (by decide)
def aTb:List SO:=[
 qM 17 0,
 qM 18 5,
 qA 19 1 17 18,
 ql 20 19,
 qM 21 1,
 qM 22 5,
 qA 23 1 21 22,
 ql 24 23,
 qP 25 .neq 20 24]
def aNm:SC:=.seq (.seq (.reg [qM 11 5,qM 12 0,qN 13 12,qP 14 .lss 11 13]) (.cond (.t 14) (.skip) (.exit 0))) (.seq (.block 1 (.seq (.reg aTb) (.cond (.t 25) (.seq (.reg [sO 4 (.mv (.c (.bool false)))]) (.ret)) (.skip)))) (.reg [qM 15 5,qC 16 .add 15 1,qM 5 16]))
def s32:SF:=⟨26,[.tmp 4],.seq (.reg [sO 4 (.mv (.c (.bool false)))]) (.seq (.seq (.reg [qM 6 0,qN 7 6,qM 8 1,qN 9 8,qP 10 .neq 7 9]) (.cond (.t 10) (.seq (.reg [sO 4 (.mv (.c (.bool false)))]) (.ret)) (.skip))) (.seq (.seq (.reg [qI 5 0]) (.block 0 (.loop aNm))) (.seq (.reg [sO 4 (.mv (.c (.bool true)))]) (.ret))))⟩
theorem aQX:bJ Tryz.prog ⟨oEq,[],[],[]⟩ Tryz.f32=some s32:=by kernel_rfl
theorem mM (a b:List Int):aQ Tryz.prog 32 [(aZ a),(aZ b)] (V.bool (decide (a=b))):=by
 refine pW Tryz.func32 aQX fun hB=>?_
 unfold s32
 dsimp only
 refine W_r (aA rfl (R_e (aB (W_r (aA rfl (bG rfl (aA rfl ?_)))))))
 refine bG rfl (bZ rfl rfl (R_e ?_))
 refine aH rfl (fun c1=>?_) fun c1=>?_
 ·
  refine aB (W_r (aA rfl (R_e (aL ?_))))
  refine bI (rVq (V.bool false)) (bA ?_)
  · exact (decide_eq_false (fun e=>by subst e; omega)).symm
 refine aC (aB (W_r (aA rfl (R_e (aD fun Q2 n2 x2 y2 z2=>?_)))))
 refine bS (fun mm T H=> ∃ (k:Nat),mm=a.length - k∧T 0=(aZ a)∧T 1=(aZ b)∧T 5=(iV ((k:Nat):Int))∧(k≤a.length)∧(a.length=b.length)∧(∀ j,j < k→nth a j=nth b j)) ?_ ?_
 ·
  refine ⟨_,0,rfl,rfl,rfl,(eTq (rVq (iV 0)) rfl),?_,?_,?_⟩
  · omega
  · omega
  · intro j hj; omega
 intro mm T H ⟨k,hmm,t0,t1,t5,hk,hl,hc⟩ Q3 p13 p23 p33
 unfold aNm
 refine aB (W_r (aA t5 (aA t0 (bG rfl (bM rfl rfl (R_e ?_))))))
 refine aH rfl (fun c4=>?_) fun c4=>?_
 ·
  refine aC (aD fun Q5 n5 x5 y5 z5=>(W_r (aA t0 (aA t5 (cY (i:=k) (rVq (aZ a)) (rNq k) (by omega) rfl (aG rfl rfl (aA t1 ?_)))))))
  refine aA t5 (cY (i:=k) (rVq (aZ b)) (rNq k) (by omega) rfl (aG rfl rfl (bZ rfl rfl (R_e ?_))))
  refine cD rfl (fun c6=>?_) fun c6=>?_
  ·
   refine W_r (aA rfl (R_e (aO (y5 _ _ (p23 _ _ (y2 _ _ ?_))))))
   refine bI (rVq (V.bool false)) (bA ?_)
   · exact (decide_eq_false (fun e=>by subst e; omega)).symm
  refine cM (n5 _ _ (.done (W_t (aA t5 (bB rfl (rNq 1) (by omega) (aA rfl (R_e ?_)))))))
  refine p13 _ _ _ ?_ ⟨(k+1),rfl,t0,t1,(eTq (rNq (k+1)) (by rfl)),?_,?_,?_⟩
  · omega
  · omega
  · omega
  · intro j hj
    by_cases e:j=k
    · subst e; omega
    · exact hc j (by omega)
 refine aN (p33 _ _ _ (x2 _ _ (.done (W_r (aA rfl (R_e (aO ?_)))))))
 refine bI (rVq (V.bool true)) (bA ?_)
 · exact (decide_eq_true (wV hl fun j hj=>hc j (by omega))).symm
def aTe:List SO:=[
 sO 1 (.bslice 3 1 false [.int .i64 0] 2 [(0,.c (.int .i64 1)),(1,.c (.int .i64 0))]),
 sO 2 (.bslice 3 1 false [.int .i64 0] 2 [(0,.c (.int .i64 1)),(1,.c (.int .i64 0))]),
 sO 3 (.bslice 52 1 false [.nilsl] 2 [(0,.t 1),(1,.t 2)]),
 sO 4 (.bslice 3 1 false [.int .i64 0] 2 [(0,.c (.int .i64 1)),(1,.c (.int .i64 0))]),
 sO 5 (.bslice 3 1 false [.int .i64 0] 2 [(0,.c (.int .i64 1)),(1,.c (.int .i64 2))]),
 sO 6 (.bslice 52 1 false [.nilsl] 2 [(0,.t 4),(1,.t 5)]),
 sO 7 (.build [.int .i64 0,.int .i64 0,.nilsl,.nilsl] [(0,1,.c (.int .i64 2)),(2,1,.t 3),(3,1,.t 6)]),
 sN (.store 4 (.t 0) (.t 7))]
def s48:SF:=⟨8,[.cell 0 true 4],.seq (.reg [sO 0 (.alloc 50 [.int .i64 0,.int .i64 0,.nilsl,.nilsl])]) (.seq (.reg aTe) (.ret))⟩
theorem aPl:bJ Tryz.prog ⟨oEq,[],[],[]⟩ Tryz.f48=some s48:=by kernel_rfl
theorem uA:aQ Tryz.prog 48 [] (V.agg [(iV 2),(iV 0),(aX ([[1,0],[1,0]])),(aX ([[1,0],[1,2]]))]):=by
 refine pW Tryz.func48 aPl fun hB=>?_
 unfold s48
 dsimp only
 refine W_r (aU (i:=0) (n:=0) (m:=4) rfl (cVq rfl) rfl (R_e (W_r (aR rfl rfl (aR rfl rfl (aR rfl rfl (aR rfl rfl ?_)))))))
 refine aR rfl rfl (aR rfl rfl (aW rfl rfl (bF rfl rfl rfl rfl rfl rfl rfl rfl rfl (R_e (aO ?_)))))
 refine cP (bC (u:=(V.agg [(iV 2),(iV 0),(V.sl [[(V.sl [[(iV 1)],[(iV 0)]])],[(V.sl [[(iV 1)],[(iV 0)]])]]),(V.sl [[(V.sl [[(iV 1)],[(iV 0)]])],[(V.sl [[(iV 1)],[(iV 2)]])]])])) rfl (@rfl Blk (bk 1 50 4 [[(iV 2),(iV 0),(V.sl [[(V.sl [[(iV 1)],[(iV 0)]])],[(V.sl [[(iV 1)],[(iV 0)]])]]),(V.sl [[(V.sl [[(iV 1)],[(iV 0)]])],[(V.sl [[(iV 1)],[(iV 2)]])]])]])) (lB oB rfl rfl)) (aNc (iK (cG (by simp) rfl) (iK (cG (by simp) rfl) (iK (cG (by simp) ?_) (iK (cG (by simp) ?_) rfl)))))
 · first|rfl|omega|simp_all
 · first|rfl|omega|simp_all
def aUo:List SO:=[
 qL 7 3 3,
 qL 8 3 1,
 sO 9 (.bslice 24 3 false zFq 1 [(0,.t 8)]),
 sO 10 (.build zFq [(0,1,.c (.int .i64 4)),(2,1,.t 9)]),
 sO 11 (.bslice 24 3 false zFq 2 [(0,.t 7),(1,.t 10)]),
 sO 12 (.build zFq [(0,1,.c (.int .i64 10)),(2,1,.t 11)]),
 sN (.store 3 (.t 2) (.t 12))]
def s49:SF:=⟨13,[.cell 2 true 3],.seq (.reg [sO 1 (.box 24 3 (.t 0)),sO 2 (.alloc 24 zFq)]) (.seq (.reg [sO 4 (.build zFq [(0,1,.c (.int .i64 1))]),sO 5 (.bslice 24 3 false zFq 1 [(0,.t 4)]),sO 6 (.build zFq [(0,1,.c (.int .i64 4)),(2,1,.t 5)]),sO 3 (.alloc 24 zFq),sN (.store 3 (.t 3) (.t 6))]) (.seq (.reg aUo) (.ret)))⟩
theorem aPw:bJ Tryz.prog ⟨oEq,[],[],[]⟩ Tryz.f49=some s49:=by kernel_rfl
theorem qW (f:Fm):aQ Tryz.prog 49 [(V.agg (rFq f))] (V.agg [(iV 10),(iV 0),(V.sl (List.map cF ([Fm.nd 4 0 [Fm.nd 1 0 []],Fm.nd 4 0 [f]])))]):=by
 refine pW Tryz.func49 aPw fun hB=>?_
 unfold s49
 dsimp only
 refine W_r (cE (i:=1) (n:=0) (m:=3) (cs:=(rFq f)) rfl (cVq rfl) rfl rfl rfl (aU (i:=2) (n:=0) (m:=3) rfl (cVq rfl) rfl (R_e (W_r (aW rfl rfl (aR rfl rfl (aW rfl rfl ?_)))))))
 refine aU (i:=3) (n:=0) (m:=3) rfl (cVq rfl) rfl (bF rfl rfl rfl rfl rfl rfl rfl rfl rfl (R_e (W_r (aJ rfl rfl rfl rfl (aJ rfl rfl rfl rfl (aR rfl rfl (aW rfl rfl ?_)))))))
 refine aR rfl rfl (aW rfl rfl (bF rfl rfl rfl rfl rfl rfl rfl rfl rfl (R_e (aO ?_))))
 refine cP (bC (u:=(V.agg [(iV 10),(iV 0),(V.sl [[(iV 4),(iV 0),(V.sl [[(iV 1),(iV 0),V.nilsl]])],[(iV 4),(iV 0),(V.sl [(rFq f)])]])])) rfl (@rfl Blk (bk 1 24 3 [[(iV 10),(iV 0),(V.sl [[(iV 4),(iV 0),(V.sl [[(iV 1),(iV 0),V.nilsl]])],[(iV 4),(iV 0),(V.sl [(rFq f)])]])]])) (lB oB rfl rfl)) (bE (cG (by simp) rfl) (cG (by simp) rfl) aKP)
end Go.Proofs.YteehaobohaecmaaGreatDoor
namespace Go.Proofs.YteehaobohaecmaaGreatDoor
theorem Tr.eq_iff {a b:Tr}:a=b↔a.ni=b.ni∧a.no=b.no:=by cases a; cases b; simp
theorem Ob.eq_iff {a b:Ob}:a=b↔a.i=b.i∧a.tr=b.tr:=by cases a; cases b; simp
instance:DecidableEq Tr:=fun _ _=>decidable_of_iff _ Tr.eq_iff.symm
instance:DecidableEq Ob:=fun _ _=>decidable_of_iff _ Ob.eq_iff.symm
end Go.Proofs.YteehaobohaecmaaGreatDoor
namespace Go.Proofs.YteehaobohaecmaaGreatDoor
open Go
theorem aQz {m:M} {f:Fm} (h:aEG m f=true):f.sz≤12:=by
  have:=of_decide_eq_true h
  have h2:=aAD f 0 this.2.2.2
  omega
end Go.Proofs.YteehaobohaecmaaGreatDoor
namespace Go.Proofs.YteehaobohaecmaaGreatDoor
open Go Go.Proofs
set_option maxRecDepth 20000
theorem aSe:aQ Tryz.prog 49 [(V.agg [(iV 3),(iV 2),(V.sl (List.map cF ([])))])] (V.agg [(iV 10),(iV 0),(V.sl (List.map cF ([Fm.nd 4 0 [Fm.nd 1 0 []],Fm.nd 4 0 [(Fm.nd 3 2 [])]])))]):=by
  have h:=qW (Fm.nd 3 2 [])
  exact h
theorem aTG:aQ Tryz.prog 23 [(V.agg [(iV 2),(iV 0),(aX ([[1,0],[1,0]])),(aX ([[1,0],[1,2]]))]),(V.agg [(iV 10),(iV 0),(V.sl (List.map cF ([Fm.nd 4 0 [Fm.nd 1 0 []],Fm.nd 4 0 [(Fm.nd 3 2 [])]])))])] (V.tup [(V.agg [(aZ ([0,1])),(aZ ([1,2]))]),(V.bool true),(iV 0)]):=by
  have h:=lJ ⟨2,0,[[1,0],[1,0]],[[1,0],[1,2]]⟩ (Fm.nd 10 0 [Fm.nd 4 0 [Fm.nd 1 0 []],Fm.nd 4 0 [(Fm.nd 3 2 [])]])
  rw [show vck ⟨2,0,[[1,0],[1,0]],[[1,0],[1,2]]⟩ (Fm.nd 10 0 [Fm.nd 4 0 [Fm.nd 1 0 []],Fm.nd 4 0 [(Fm.nd 3 2 [])]])=(⟨[0,1],[1,2]⟩,true,0) from by decide+kernel] at h
  exact h
theorem aUk:aQ Tryz.prog 49 [(V.agg [(iV 5),(iV 0),(V.sl (List.map cF ([Fm.nd 2 1 [],Fm.nd 3 0 []])))])] (V.agg [(iV 10),(iV 0),(V.sl (List.map cF ([Fm.nd 4 0 [Fm.nd 1 0 []],Fm.nd 4 0 [(Fm.nd 5 0 [Fm.nd 2 1 [],Fm.nd 3 0 []])]])))]):=by
  have h:=qW (Fm.nd 5 0 [Fm.nd 2 1 [],Fm.nd 3 0 []])
  exact h
theorem aUc:aQ Tryz.prog 23 [(V.agg [(iV 2),(iV 0),(aX ([[1,0],[1,0]])),(aX ([[1,0],[1,2]]))]),(V.agg [(iV 10),(iV 0),(V.sl (List.map cF ([Fm.nd 4 0 [Fm.nd 1 0 []],Fm.nd 4 0 [(Fm.nd 5 0 [Fm.nd 2 1 [],Fm.nd 3 0 []])]])))])] (V.tup [(V.agg [(aZ ([1])),(aZ ([0]))]),(V.bool true),(iV 0)]):=by
  have h:=lJ ⟨2,0,[[1,0],[1,0]],[[1,0],[1,2]]⟩ (Fm.nd 10 0 [Fm.nd 4 0 [Fm.nd 1 0 []],Fm.nd 4 0 [(Fm.nd 5 0 [Fm.nd 2 1 [],Fm.nd 3 0 []])]])
  rw [show vck ⟨2,0,[[1,0],[1,0]],[[1,0],[1,2]]⟩ (Fm.nd 10 0 [Fm.nd 4 0 [Fm.nd 1 0 []],Fm.nd 4 0 [(Fm.nd 5 0 [Fm.nd 2 1 [],Fm.nd 3 0 []])]])=(⟨[1],[0]⟩,true,0) from by decide+kernel] at h
  exact h
theorem aTy:aQ Tryz.prog 49 [(V.agg [(iV 3),(iV 3),(V.sl (List.map cF ([])))])] (V.agg [(iV 10),(iV 0),(V.sl (List.map cF ([Fm.nd 4 0 [Fm.nd 1 0 []],Fm.nd 4 0 [(Fm.nd 3 3 [])]])))]):=by
  have h:=qW (Fm.nd 3 3 [])
  exact h
theorem aSV:aQ Tryz.prog 23 [(V.agg [(iV 2),(iV 0),(aX ([[1,0],[1,0]])),(aX ([[1,0],[1,2]]))]),(V.agg [(iV 10),(iV 0),(V.sl (List.map cF ([Fm.nd 4 0 [Fm.nd 1 0 []],Fm.nd 4 0 [(Fm.nd 3 3 [])]])))])] (V.tup [(V.agg [(aZ ([])),(aZ ([]))]),(V.bool false),(iV 0)]):=by
  have h:=lJ ⟨2,0,[[1,0],[1,0]],[[1,0],[1,2]]⟩ (Fm.nd 10 0 [Fm.nd 4 0 [Fm.nd 1 0 []],Fm.nd 4 0 [(Fm.nd 3 3 [])]])
  rw [show vck ⟨2,0,[[1,0],[1,0]],[[1,0],[1,2]]⟩ (Fm.nd 10 0 [Fm.nd 4 0 [Fm.nd 1 0 []],Fm.nd 4 0 [(Fm.nd 3 3 [])]])=(⟨[],[]⟩,false,0) from by decide+kernel] at h
  exact h
abbrev vR:=(bk 1 24 3 [[(iV 5),(iV 0),(V.sl [[(iV 2),(iV 1),V.nilsl],[(iV 3),(iV 0),V.nilsl]])]])
abbrev aF1:=((((0:Int)=(0:Int))∧(([0,1])=([0,1])))∧(([1,2])=([1,2])))
abbrev vK:=(bk 1 24 3 [[(iV 3),(iV 2),V.nilsl]])
abbrev vE:=(bk 1 54 2 [[(aZ ([0,1])),(aZ ([1,2]))]])
abbrev vQ:=(bk 1 54 2 [[(aZ ([1])),(aZ ([0]))]])
abbrev vW:=(bk 1 54 2 [[(aZ ([])),(aZ ([]))]])
abbrev xM:=(aF1∧((0:Int)=(0:Int)))
theorem uV:aQ Tryz.prog 22 [] (V.bool true):=by
 refine pW Tryz.func22 aQM fun hB=>?_
 unfold s22
 dsimp only
 refine W_r (aA rfl (R_e (W_r (aW rfl rfl (aU (i:=1) (n:=0) (m:=3) rfl (cVq rfl) rfl (bF rfl rfl rfl rfl rfl rfl rfl rfl rfl (R_e ?_)))))))
 refine W_r (aW rfl rfl (aW rfl rfl (aR rfl rfl (aW rfl rfl (aU (i:=2) (n:=0) (m:=3) rfl (cVq rfl) rfl (bF rfl rfl rfl rfl rfl rfl rfl rfl rfl (R_e ?_)))))))
 refine W_d (by exact (jY rfl lV)) (aI uA rfl (aJ rfl rfl rfl rfl (kN (bL (rVq (V.agg [(iV 3),(iV 2),V.nilsl])) eB) aSe (iK (by rfl) rfl) (by simp) (Or.inl (by simp)) (aI aTG rfl (aA rfl (bH rfl rfl (bH rfl rfl ?_)))))))
 refine bH rfl rfl (aU (i:=3) (n:=0) (m:=2) rfl (cVq rfl) rfl (bF rfl rfl rfl rfl rfl rfl rfl rfl rfl (aA rfl (aA rfl (R_e (W_d (by exact (jY rfl lV)) (aI uA rfl ?_)))))))
 refine aJ rfl rfl rfl rfl (kN (bL (rVq (V.agg [(iV 5),(iV 0),(V.sl [[(iV 2),(iV 1),V.nilsl],[(iV 3),(iV 0),V.nilsl]])])) eB) aUk (iK (by rfl) rfl) (by simp) (Or.inl (by simp)) (aI aUc rfl (aA rfl (bH rfl rfl (bH rfl rfl (bH rfl rfl (aU (i:=6) (n:=0) (m:=2) rfl (cVq rfl) rfl ?_)))))))
 refine bF rfl rfl rfl rfl rfl rfl rfl rfl rfl (aA rfl (aA rfl (R_e ?_)))
 refine kX (fun T H=>T 3=(mPq 3)∧T 4=(V.bool true)∧T 5=(iV 0)∧T 6=(mPq 6)∧T 7=(V.bool true)∧T 8=(iV 0)∧T 10=(V.bool false)∧T 11=(iV 0)∧H 1=vK∧H 2=vR∧H 3=vE∧H 6=vQ∧H 9=vW∧True) ?_ ?_
 ·
  refine aI uA rfl (aW rfl rfl (kN (bL (rVq (V.agg [(iV 3),(iV 3),V.nilsl])) eB) aTy (iK (by rfl) rfl) (by simp) (Or.inl (by simp)) (aI aSV rfl (aA rfl (bH rfl rfl (bH rfl rfl (bH rfl rfl ?_)))))))
  refine aU (i:=9) (n:=0) (m:=2) rfl (cVq rfl) rfl (bF rfl rfl rfl rfl rfl rfl rfl rfl rfl (aA rfl (aA rfl ?_)))
  exact eD ⟨rfl,rfl,rfl,rfl,rfl,rfl,rfl,rfl,rfl,rfl,rfl,rfl,rfl,trivial⟩
 intro T H ⟨t3,t4,t5,t6,t7,t8,t10,t11,h1,h2,h3,h6,h9,_⟩
 refine W_r (aA t4 (aA rfl (aF rfl (aA t5 (aF rfl (aY rfl rfl (aS rfl rfl ?_)))))))
 refine aA rfl ?_
 refine aV 5 (fun T H=>T 3=(mPq 3)∧T 6=(mPq 6)∧T 7=(V.bool true)∧T 8=(iV 0)∧T 10=(V.bool false)∧T 11=(iV 0)∧T 51=(V.bool (decide (((0:Int)=(0:Int))∧(([0,1])=([0,1])))))∧H 1=vK∧H 2=vR∧H 3=vE∧H 6=vQ∧H 9=vW∧True) ?_ ?_
 ·
  by_cases g1:(0:Int)=(0:Int)
  ·
   refine aF (edT g1 rfl) (aM t3 h3 (aF (edT g1 rfl) (aJ rfl h3 rfl rfl (aF (edT g1 rfl) (aR rfl rfl (aF (edT g1 rfl) (aI (mM ([0,1]) ([0,1])) rfl ?_)))))))
   refine aS (edT g1 rfl) rfl ?_
   exact ⟨t3,t6,t7,t8,t10,t11,(dH g1),h1,h2,h3,h6,h9,trivial⟩
  ·
   refine G_n (edF g1 rfl) (G_n (edF g1 rfl) (G_n (edF g1 rfl) (G_n (edF g1 rfl) (aT (edF g1 rfl) rfl ?_))))
   exact ⟨t3,t6,t7,t8,t10,t11,(dG g1),h1,h2,h3,h6,h9,trivial⟩
 intro T H ⟨t3,t6,t7,t8,t10,t11,t51,h1,h2,h3,h6,h9,_⟩
 refine aA t51 ?_
 refine aV 5 (fun T H=>T 6=(mPq 6)∧T 7=(V.bool true)∧T 8=(iV 0)∧T 10=(V.bool false)∧T 11=(iV 0)∧T 57=(V.bool (decide aF1))∧H 1=vK∧H 2=vR∧H 3=vE∧H 6=vQ∧H 9=vW∧True) ?_ ?_
 ·
  by_cases g2:((0:Int)=(0:Int))∧(([0,1])=([0,1]))
  ·
   refine aF (edT g2 rfl) (aM t3 h3 (aF (edT g2 rfl) (aJ rfl h3 rfl rfl (aF (edT g2 rfl) (aR rfl rfl (aF (edT g2 rfl) (aI (mM ([1,2]) ([1,2])) rfl ?_)))))))
   refine aS (edT g2 rfl) rfl ?_
   exact ⟨t6,t7,t8,t10,t11,(dH g2),h1,h2,h3,h6,h9,trivial⟩
  ·
   refine G_n (edF g2 rfl) (G_n (edF g2 rfl) (G_n (edF g2 rfl) (G_n (edF g2 rfl) (aT (edF g2 rfl) rfl ?_))))
   exact ⟨t6,t7,t8,t10,t11,(dG g2),h1,h2,h3,h6,h9,trivial⟩
 intro T H ⟨t6,t7,t8,t10,t11,t57,h1,h2,h3,h6,h9,_⟩
 refine aA t57 ?_
 refine aV 2 (fun T H=>T 6=(mPq 6)∧T 8=(iV 0)∧T 10=(V.bool false)∧T 11=(iV 0)∧T 60=(V.bool (decide aF1))∧H 1=vK∧H 2=vR∧H 3=vE∧H 6=vQ∧H 9=vW∧True) ?_ ?_
 ·
  by_cases g3:(((0:Int)=(0:Int))∧(([0,1])=([0,1])))∧(([1,2])=([1,2]))
  ·
   refine aF (edT g3 rfl) (aA t7 (aS (edT g3 rfl) rfl ?_))
   exact ⟨t6,t8,t10,t11,(aNe g3),h1,h2,h3,h6,h9,trivial⟩
  ·
   refine G_n (edF g3 rfl) (aT (edF g3 rfl) rfl ?_)
   exact ⟨t6,t8,t10,t11,(aNw g3),h1,h2,h3,h6,h9,trivial⟩
 intro T H ⟨t6,t8,t10,t11,t60,h1,h2,h3,h6,h9,_⟩
 refine aA t60 ?_
 refine aV 3 (fun T H=>T 6=(mPq 6)∧T 10=(V.bool false)∧T 11=(iV 0)∧T 64=(V.bool (decide xM))∧H 1=vK∧H 2=vR∧H 3=vE∧H 6=vQ∧H 9=vW∧True) ?_ ?_
 ·
  by_cases g4:(((0:Int)=(0:Int))∧(([0,1])=([0,1])))∧(([1,2])=([1,2]))
  ·
   refine aF (edT g4 rfl) (aA t8 (aF (edT g4 rfl) (aY rfl rfl (aS (edT g4 rfl) rfl ?_))))
   exact ⟨t6,t10,t11,(dH g4),h1,h2,h3,h6,h9,trivial⟩
  ·
   refine G_n (edF g4 rfl) (G_n (edF g4 rfl) (aT (edF g4 rfl) rfl ?_))
   exact ⟨t6,t10,t11,(dG g4),h1,h2,h3,h6,h9,trivial⟩
 intro T H ⟨t6,t10,t11,t64,h1,h2,h3,h6,h9,_⟩
 refine aA t64 ?_
 refine aV 5 (fun T H=>T 10=(V.bool false)∧T 11=(iV 0)∧T 70=(V.bool (decide (xM∧(([1])=([1])))))∧H 1=vK∧H 2=vR∧H 3=vE∧H 6=vQ∧H 9=vW∧True) ?_ ?_
 ·
  by_cases g5:aF1∧((0:Int)=(0:Int))
  ·
   refine aF (edT g5 rfl) (aM t6 h6 (aF (edT g5 rfl) (aJ rfl h6 rfl rfl (aF (edT g5 rfl) (aR rfl rfl (aF (edT g5 rfl) (aI (mM ([1]) ([1])) rfl ?_)))))))
   refine aS (edT g5 rfl) rfl ?_
   exact ⟨t10,t11,(dH g5),h1,h2,h3,h6,h9,trivial⟩
  ·
   refine G_n (edF g5 rfl) (G_n (edF g5 rfl) (G_n (edF g5 rfl) (G_n (edF g5 rfl) (aT (edF g5 rfl) rfl ?_))))
   exact ⟨t10,t11,(dG g5),h1,h2,h3,h6,h9,trivial⟩
 intro T H ⟨t10,t11,t70,h1,h2,h3,h6,h9,_⟩
 refine aA t70 ?_
 refine aV 3 (fun T H=>T 11=(iV 0)∧T 74=(V.bool (decide (xM∧(([1])=([1])))))∧H 1=vK∧H 2=vR∧H 3=vE∧H 6=vQ∧H 9=vW∧True) ?_ ?_
 ·
  by_cases g6:xM∧(([1])=([1]))
  ·
   refine aF (edT g6 rfl) (aA t10 (aF (edT g6 rfl) (eN rfl (aS (edT g6 rfl) rfl ?_))))
   exact ⟨t11,(aNe g6),h1,h2,h3,h6,h9,trivial⟩
  ·
   refine G_n (edF g6 rfl) (G_n (edF g6 rfl) (aT (edF g6 rfl) rfl ?_))
   exact ⟨t11,(aNw g6),h1,h2,h3,h6,h9,trivial⟩
 intro T H ⟨t11,t74,h1,h2,h3,h6,h9,_⟩
 refine aA t74 ?_
 refine aV 3 (fun T H=>T 78=(V.bool (decide ((xM∧(([1])=([1])))∧((0:Int)=(0:Int)))))∧H 1=vK∧H 2=vR∧H 3=vE∧H 6=vQ∧H 9=vW∧True) ?_ ?_
 ·
  by_cases g7:xM∧(([1])=([1]))
  ·
   refine aF (edT g7 rfl) (aA t11 (aF (edT g7 rfl) (aY rfl rfl (aS (edT g7 rfl) rfl ?_))))
   exact ⟨(dH g7),h1,h2,h3,h6,h9,trivial⟩
  ·
   refine G_n (edF g7 rfl) (G_n (edF g7 rfl) (aT (edF g7 rfl) rfl ?_))
   exact ⟨(dG g7),h1,h2,h3,h6,h9,trivial⟩
 intro T H ⟨t78,h1,h2,h3,h6,h9,_⟩
 refine aA t78 (R_e (aO ?_))
 refine bI (rVq (V.bool (decide ((xM∧(([1])=([1])))∧((0:Int)=(0:Int)))))) (bA ?_)
 · decide+kernel
end Go.Proofs.YteehaobohaecmaaGreatDoor
namespace Go.Proofs.YteehaobohaecmaaGreatDoor
open Go Go.Proofs
def aTQ:List SO:=[
 qM 17 0,
 qM 18 5,
 qA 19 2 17 18,
 qF 20 0 19,
 ql 21 20,
 qM 22 1,
 qM 23 5,
 qA 24 2 22 23,
 qF 25 0 24,
 ql 26 25,
 sO 27 (.call false 32 [.t 21,.t 26]),
 sO 28 (.un .not (.t 27)),
 qM 29 28,
 ⟨some (29,false),some 30,.mv (.t 0)⟩,
 ⟨some (29,false),some 31,.mv (.t 5)⟩,
 ⟨some (29,false),some 32,.idx 2 (.t 30) (.t 31)⟩,
 ⟨some (29,false),some 33,.fld 1 (.t 32)⟩,
 ⟨some (29,false),some 34,.load false 1 (.t 33)⟩,
 ⟨some (29,false),some 35,.mv (.t 1)⟩,
 ⟨some (29,false),some 36,.mv (.t 5)⟩,
 ⟨some (29,false),some 37,.idx 2 (.t 35) (.t 36)⟩,
 ⟨some (29,false),some 38,.fld 1 (.t 37)⟩,
 ⟨some (29,false),some 39,.load false 1 (.t 38)⟩,
 ⟨some (29,false),some 40,.call false 32 [.t 34,.t 39]⟩,
 ⟨some (29,false),some 41,.un .not (.t 40)⟩,
 sO 42 (.pick (.t 29) (.c (.bool true)) (.t 41))]
def aNs:SC:=.seq (.seq (.reg [qM 11 5,qM 12 0,qN 13 12,qP 14 .lss 11 13]) (.cond (.t 14) (.skip) (.exit 0))) (.seq (.block 1 (.seq (.reg aTQ) (.cond (.t 42) (.seq (.reg [sO 4 (.mv (.c (.bool false)))]) (.ret)) (.skip)))) (.reg [qM 15 5,qC 16 .add 15 1,qM 5 16]))
def s25:SF:=⟨43,[.tmp 4],.seq (.reg [sO 4 (.mv (.c (.bool false)))]) (.seq (.seq (.reg [qM 6 0,qN 7 6,qM 8 1,qN 9 8,qP 10 .neq 7 9]) (.cond (.t 10) (.seq (.reg [sO 4 (.mv (.c (.bool false)))]) (.ret)) (.skip))) (.seq (.seq (.reg [qI 5 0]) (.block 0 (.loop aNs))) (.seq (.reg [sO 4 (.mv (.c (.bool true)))]) (.ret))))⟩
theorem aOx:bJ Tryz.prog ⟨oEq,[],[],[]⟩ Tryz.f25=some s25:=by kernel_rfl
theorem aJF (a b:List Tr):aQ Tryz.prog 25 [(V.sl (List.map cT a)),(V.sl (List.map cT b))] (V.bool (decide (a=b))):=by
 refine pW Tryz.func25 aOx fun hB=>?_
 unfold s25
 dsimp only
 refine W_r (aA rfl (R_e (aB (W_r (aA rfl (bG rfl (aA rfl ?_)))))))
 refine bG rfl (bZ rfl rfl (R_e ?_))
 refine aH rfl (fun c1=>?_) fun c1=>?_
 ·
  refine aB (W_r (aA rfl (R_e (aL ?_))))
  refine bI (rVq (V.bool false)) (bA ?_)
  · exact (decide_eq_false (fun e=>by subst e; omega)).symm
 refine aC (aB (W_r (aA rfl (R_e (aD fun Q2 n2 x2 y2 z2=>?_)))))
 refine bS (fun mm T H=> ∃ (k:Nat),mm=a.length - k∧T 0=(V.sl (List.map cT a))∧T 1=(V.sl (List.map cT b))∧T 5=(iV ((k:Nat):Int))∧(k≤a.length)∧(a.length=b.length)∧(∀ j,j < k→nth a j=nth b j)) ?_ ?_
 ·
  refine ⟨_,0,rfl,rfl,rfl,(eTq (rVq (iV 0)) rfl),?_,?_,?_⟩
  · omega
  · omega
  · intro j hj; omega
 intro mm T H ⟨k,hmm,t0,t1,t5,hk,hl,hc⟩ Q3 p13 p23 p33
 unfold aNs
 refine aB (W_r (aA t5 (aA t0 (bG rfl (bM rfl rfl (R_e ?_))))))
 refine aH rfl (fun c4=>?_) fun c4=>?_
 ·
  refine aC (aD fun Q5 n5 x5 y5 z5=>(W_r (aA t0 (aA t5 (cY (i:=k) (rVq (V.sl (List.map cT a))) (rNq k) (by omega) rfl (jB (cs':=[(aZ ((nth a k).ni)),(aZ ((nth a k).no))]) rfl rfl (aG rfl rfl ?_)))))))
  refine aA t1 (aA t5 (cY (i:=k) (rVq (V.sl (List.map cT b))) (rNq k) (by omega) rfl (jB (cs':=[(aZ ((nth b k).ni)),(aZ ((nth b k).no))]) rfl rfl (aG rfl rfl (aI (mM ((nth a k).ni) ((nth b k).ni)) rfl (vP rfl (aA rfl ?_)))))))
  refine aV 13 (fun T H=>T 0=(V.sl (List.map cT a))∧T 1=(V.sl (List.map cT b))∧T 5=(iV ((k:Nat):Int))∧T 42=(V.bool (decide ((¬(((nth a k).ni)=((nth b k).ni)))∨(¬(((nth a k).no)=((nth b k).no))))))∧True) ?_ ?_
  ·
   by_cases g6: ¬(((nth a k).ni)=((nth b k).ni))
   ·
    refine G_n (edT g6 rfl) (G_n (edT g6 rfl) (G_n (edT g6 rfl) (G_n (edT g6 rfl) (G_n (edT g6 rfl) (G_n (edT g6 rfl) (G_n (edT g6 rfl) (G_n (edT g6 rfl) ?_)))))))
    refine G_n (edT g6 rfl) (G_n (edT g6 rfl) (G_n (edT g6 rfl) (G_n (edT g6 rfl) (aS (edT g6 rfl) rfl ?_))))
    exact ⟨t0,t1,t5,(cQ g6),trivial⟩
   ·
    refine aF (edF g6 rfl) (aA t0 (aF (edF g6 rfl) (aA t5 (aF (edF g6 rfl) (cY (i:=k) (rVq (V.sl (List.map cT a))) (rNq k) (by omega) rfl (aF (edF g6 rfl) (jB (cs':=[(aZ ((nth a k).no))]) rfl rfl ?_)))))))
    refine aF (edF g6 rfl) (aG rfl rfl (aF (edF g6 rfl) (aA t1 (aF (edF g6 rfl) (aA t5 (aF (edF g6 rfl) (cY (i:=k) (rVq (V.sl (List.map cT b))) (rNq k) (by omega) rfl ?_)))))))
    refine aF (edF g6 rfl) (jB (cs':=[(aZ ((nth b k).no))]) rfl rfl (aF (edF g6 rfl) (aG rfl rfl (aF (edF g6 rfl) (aI (mM ((nth a k).no) ((nth b k).no)) rfl (aF (edF g6 rfl) (vP rfl ?_)))))))
    refine aT (edF g6 rfl) rfl ?_
    exact ⟨t0,t1,t5,(cR g6),trivial⟩
  intro T H ⟨t0,t1,t5,t42,_⟩
  refine R_e ?_
  refine cD t42 (fun c7=>?_) fun c7=>?_
  ·
   have d1:nth a k≠nth b k:=fun e=>by rw [e] at c7; simp at c7
   refine W_r (aA rfl (R_e (aO (y5 _ _ (p23 _ _ (y2 _ _ ?_))))))
   refine bI (rVq (V.bool false)) (bA ?_)
   · exact (decide_eq_false (fun e=>d1 (by subst e; rfl))).symm
  have d1:nth a k=nth b k:=Tr.eq_iff.2 (by simpa using c7)
  refine cM (n5 _ _ (.done (W_t (aA t5 (bB rfl (rNq 1) (by omega) (aA rfl (R_e ?_)))))))
  refine p13 _ _ _ ?_ ⟨(k+1),rfl,t0,t1,(eTq (rNq (k+1)) (by rfl)),?_,?_,?_⟩
  · omega
  · omega
  · omega
  · intro j hj
    by_cases e:j=k
    · subst e; exact d1
    · exact hc j (by omega)
 refine aN (p33 _ _ _ (x2 _ _ (.done (W_r (aA rfl (R_e (aO ?_)))))))
 refine bI (rVq (V.bool true)) (bA ?_)
 · exact (decide_eq_true (wV hl fun j hj=>hc j (by omega))).symm
def aTD:List SO:=[
 qL 27 4 2,
 qL 28 3 11,
 sO 29 (.call false 23 [.t 27,.t 28]),
 qM 26 29,
 qE 30 26 0,
 qE 31 26 1,
 qE 32 26 2,
 sO 12 (.alloc 54 [.nilsl,.nilsl]),
 sN (.store 2 (.t 12) (.t 30)),
 qM 13 31,
 qM 14 32]
def aPM:List SO:=[
 qM 36 8,
 qL 37 2 12,
 sO 38 (.bslice 54 2 false [.nilsl,.nilsl] 1 [(0,.t 37)]),
 sO 39 (.append 54 2 48 (.t 36) (.t 38)),
 qM 40 9,
 qM 41 13,
 sO 42 (.bslice 4 1 false [.bool false] 1 [(0,.t 41)]),
 sO 43 (.append 4 1 1 (.t 40) (.t 42)),
 qM 8 39,
 qM 9 43]
def aOa:SC:=.seq (.reg [qP 23 .lss 22 21]) (.seq (.cond (.t 23) (.skip) (.exit 0)) (.seq (.block 1 (.seq (.reg [qA 24 3 20 22,qL 25 3 24,sO 11 (.alloc 24 zFq),sN (.store 3 (.t 11) (.t 25))]) (.seq (.reg aTD) (.seq (.seq (.reg [qM 33 14,qC 34 .neq 33 0]) (.cond (.t 34) (.seq (.reg [qM 35 14,sO 4 (.mv (.c (.nilsl))),sO 5 (.mv (.c (.nilsl))),qM 6 35]) (.ret)) (.skip))) (.reg aPM))))) (.reg [qC 44 .add 22 1,qM 22 44])))
def s26:SF:=⟨47,[.tmp 4,.tmp 5,.tmp 6],.seq (.reg [sO 2 (.box 50 4 (.t 0)),sO 4 (.mv (.c (.nilsl))),sO 5 (.mv (.c (.nilsl))),qI 6 0]) (.seq (.seq (.reg [qL 15 4 2,sO 16 (.call false 50 [.t 15]),qM 7 16]) (.seq (.reg [qM 17 7,qC 18 .neq 17 0]) (.cond (.t 18) (.seq (.reg [qM 19 7,sO 4 (.mv (.c (.nilsl))),sO 5 (.mv (.c (.nilsl))),qM 6 19]) (.ret)) (.skip)))) (.seq (.reg [sO 8 (.lazy 54 2)]) (.seq (.reg [sO 9 (.lazy 4 1)]) (.seq (.seq (.reg [qM 20 1,qN 21 20,qI 22 0]) (.block 0 (.loop aOa))) (.seq (.reg [qM 45 8,qM 46 9,qM 4 45,qM 5 46,qI 6 0]) (.ret))))))⟩
theorem aPR:bJ Tryz.prog ⟨oEq,[8,9],[],[]⟩ Tryz.f26=some s26:=by kernel_rfl
end Go.Proofs.YteehaobohaecmaaGreatDoor
namespace Go.Proofs.YteehaobohaecmaaGreatDoor
open Go
inductive K where
  |L (p:Int→Int→Bool) (q:Bool)
  |X (w:Bool) (k:K)
  |N (u:Bool) (i s:K)
  |A (a b:K)
  |O (a b:K)
section
variable (n:Nat) (lt:Nat→Int×Int)
def ks:K→Nat→Bool
  | .L p q,i=>if i < n then p (lt i).1 (lt i).2 else q
  | .X w k,i=>if i < n then ks k (i+1) else w
  | .N u i s,j=>if u=true then iB (ks i) (ks s) (n - j) j else iD (ks s) (ks i) (n - j) j
  | .A a b,i=>ks a i&&ks b i
  | .O a b,i=>ks a i||ks b i
end
section
variable {n:Nat} {lt:Nat→Int×Int} {i s:K} {j:Nat}
theorem uQ (h:j < n):ks n lt (.N true i s) j=(ks n lt s j||(ks n lt i j&&ks n lt (.N true i s) (j+1))):=by
  simp only [ks,if_true]
  rw [show n - j=(n - (j+1))+1 by omega,iB]
theorem aBh:ks n lt (.N true i s) n=ks n lt s n:=by
  simp only [ks,if_true]
  rw [Nat.sub_self,iB]
theorem tZ (h:j < n):ks n lt (.N false i s) j=(ks n lt i j&&(ks n lt s j||ks n lt (.N false i s) (j+1))):=by
  simp only [ks,Bool.false_eq_true,if_false]
  rw [show n - j=(n - (j+1))+1 by omega,iD]
theorem aF0:ks n lt (.N false i s) n=ks n lt i n:=by
  simp only [ks,Bool.false_eq_true,if_false]
  rw [Nat.sub_self,iD]
end
inductive DD where
  |L
  |X (σ:Nat→Bool) (d:DD)
  |N (v:Nat→Bool) (d e:DD)
  |P (d e:DD)
def pat:DD→Nat→List Bool
  | .L,_=>[]
  | .X σ d,q=>σ q::pat d q
  | .N v d e,q=>v q::(pat d q++pat e q)
  | .P d e,q=>pat d q++pat e q
def DD.ln:DD→Nat
  | .L=>0
  | .X _ d=>d.ln+1
  | .N _ d e=>d.ln+e.ln+1
  | .P d e=>d.ln+e.ln
theorem iG: ∀ (d:DD) (q:Nat),(pat d q).length=d.ln
  | .L,_=>rfl
  | .X _ d,q=>by simp [pat,DD.ln,iG d q]
  | .N _ d e,q=>by simp [pat,DD.ln,iG d q,iG e q]
  | .P d e,q=>by simp [pat,DD.ln,iG d q,iG e q]
structure NR (u:Bool) (n:Nat) (r v x y c:Nat→Bool):Prop where
  z:v 0=r 0
  s: ∀ j,j < n→v (j+1)=(r (j+1)||c j)
  off: ∀ j,j≤n→v j=false→x j=false∧y j=false∧c j=false
  con: ∀ j,j < n→v j=true→c j=true→x j=true∧y j=false
  dis: ∀ j,j < n→v j=true→c j=false→y j=true∧x j= !u
  fin:v n=true→x n= !u∧y n=u
section
variable (n:Nat) (lt:Nat→Int×Int)
def Gs:K→(Nat→Bool)→DD→Prop
  | .L p q,r,d=>d=.L∧ ∀ i,i≤n→r i=true→ks n lt (.L p q) i=true
  | .X w k,r,d=> ∃ σ d',d=.X σ d'∧(∀ i,i < n→σ (i+1)=r i)∧(r n=true→w=true)∧Gs k σ d'
  | .N u i s,r,d=> ∃ v x y c d1 d2,d=.N v d1 d2∧NR u n r v x y c∧Gs i x d1∧Gs s y d2
  | .A a b,r,d=> ∃ d1 d2,d=.P d1 d2∧Gs a r d1∧Gs b r d2
  | .O a b,r,d=> ∃ x y d1 d2,d=.P d1 d2∧(∀ i,i≤n→(x i||y i)=r i)∧Gs a x d1∧Gs b y d2
end
section
variable {n:Nat} {lt:Nat→Int×Int}
theorem NR.all {u:Bool} {r v x y c:Nat→Bool} {i s:K} (h:NR u n r v x y c) (hx: ∀ p,p≤n→x p=true→ks n lt i p=true) (hy: ∀ p,p≤n→y p=true→ks n lt s p=true): ∀ (m p:Nat),p+m=n→v p=true→ks n lt (.N u i s) p=true:=by
  intro m
  induction m with
  | zero =>
    intro p hp hv
    have e:p=n:=by omega
    subst e
    have hf:=h.fin hv
    cases u with
    |true=>rw [aBh]; exact hy p (Nat.le_refl _) hf.2
    |false=>rw [aF0]; exact hx p (Nat.le_refl _) hf.1
  | succ m ih =>
    intro p hp hv
    have hpn:p < n:=by omega
    cases hc:c p with
    | true =>
      have q:=h.con p hpn hv hc
      have hv2:v (p+1)=true:=by rw [h.s p hpn,hc,Bool.or_true]
      have a:=ih (p+1) (by omega) hv2
      have b:=hx p (by omega) q.1
      cases u with
      |true=>rw [uQ hpn,a,b]; simp
      |false=>rw [tZ hpn,a,b]; simp
    | false =>
      have q:=h.dis p hpn hv hc
      have a:=hy p (by omega) q.1
      cases u with
      |true=>rw [uQ hpn,a]; simp
      |false=>rw [tZ hpn,a,hx p (by omega) q.2]; simp
theorem Gs.sound: ∀ {k:K} {r:Nat→Bool} {d:DD},Gs n lt k r d→ ∀ p,p≤n→r p=true→ks n lt k p=true
  | .L _ _,_,_,h=>h.2
  | .X w k, r, d, h => by
    obtain ⟨σ,d',_,h1,h2,h3⟩:=h
    intro p hp hr
    simp only [ks]
    by_cases e:p < n
    · rw [if_pos e]; exact Gs.sound h3 (p+1) (by omega) (by rw [h1 p e]; exact hr)
    · rw [if_neg e]; exact h2 (by rw [show n=p by omega]; exact hr)
  | .N u i s, r, d, h => by
    obtain ⟨v,x,y,c,d1,d2,_,h1,h2,h3⟩:=h
    intro p hp hr
    refine h1.all (Gs.sound h2) (Gs.sound h3) (n - p) p (by omega) ?_
    cases p with
    |zero=>rw [h1.z]; exact hr
    |succ p=>rw [h1.s p (by omega),hr]; rfl
  | .A a b, r, d, h => by
    obtain ⟨d1,d2,_,h1,h2⟩:=h
    intro p hp hr
    simp only [ks]
    rw [Gs.sound h1 p hp hr,Gs.sound h2 p hp hr]; rfl
  | .O a b, r, d, h => by
    obtain ⟨x,y,d1,d2,_,h0,h1,h2⟩:=h
    intro p hp hr
    simp only [ks]
    have e:=h0 p hp
    rw [hr] at e
    cases hx:x p with
    |true=>rw [Gs.sound h1 p hp hx]; rfl
    |false=>rw [hx,Bool.false_or] at e; rw [Gs.sound h2 p hp e,Bool.or_true]
def vN (r h:Nat→Bool):Nat→Bool
  |0=>r 0
  |j+1=>r (j+1)||(vN r h j&& !h j)
theorem aOd {u:Bool} {i s:K} {r:Nat→Bool} (hr: ∀ p,p≤n→r p=true→ks n lt (.N u i s) p=true): ∀ p,p≤n→vN r (ks n lt s) p=true→ks n lt (.N u i s) p=true
  |0,hp,h=>hr 0 hp h
  | p + 1, hp, h => by
    rw [vN,Bool.or_eq_true,Bool.and_eq_true] at h
    rcases h with h|⟨h1,h2⟩
    · exact hr _ hp h
    · have ih:=aOd hr p (by omega) h1
      have hs:ks n lt s p=false:=by simpa using h2
      cases u with
      |true=>rw [uQ (by omega),hs,Bool.false_or,Bool.and_eq_true] at ih; exact ih.2
      |false=>rw [tZ (by omega),hs,Bool.false_or,Bool.and_eq_true] at ih; exact ih.2
theorem Gs.make : ∀ (k : K) (r : Nat → Bool), (∀ p, p ≤ n → r p = true → ks n lt k p = true) → ∃ d, Gs n lt k r d
  | .L p q,r,h=>⟨.L,rfl,h⟩
  | .X w k, r, h => by
    have hk: ∀ p,p≤n→(fun p=>match p with|0=>false|p+1=>r p) p=true→ks n lt k p=true:=by
      intro p hp e
      cases p with
      |zero=>cases e
      | succ p =>
        have:=h p (by omega) e
        simp only [ks] at this
        rw [if_pos (by omega)] at this; exact this
    obtain ⟨d,hd⟩:=Gs.make k _ hk
    exact ⟨.X _ d,_,d,rfl,fun i _=>rfl,fun e=>by have:=h n (Nat.le_refl _) e; simp only [ks] at this; rw [if_neg (by omega)] at this; exact this,hd⟩
  | .N u i s, r, h => by
    have hv:=aOd h
    have hc: ∀ p,p≤n→vN r (ks n lt s) p=true→ks n lt s p=false→p < n∨u=false:=by
      intro p hp h1 h2
      by_cases e:p < n
      · exact .inl e
      · right
        have e2:p=n:=by omega
        subst e2
        cases u with
        |true=>have:=hv p (Nat.le_refl _) h1; rw [aBh,h2] at this; cases this
        |false=>rfl
    cases u with
    | true =>
      obtain ⟨d1,g1⟩:=Gs.make i (fun p=>vN r (ks n lt s) p&& !ks n lt s p) fun p hp e=>by
        rw [Bool.and_eq_true] at e
        have e2:ks n lt s p=false:=by simpa using e.2
        have:=hv p hp e.1
        rw [uQ ((hc p hp e.1 e2).resolve_right (by decide)),e2,Bool.false_or,Bool.and_eq_true] at this
        exact this.1
      obtain ⟨d2,g2⟩:=Gs.make s (fun p=>vN r (ks n lt s) p&&ks n lt s p) fun p hp e=>by rw [Bool.and_eq_true] at e; exact e.2
      refine ⟨.N (vN r (ks n lt s)) d1 d2,vN r (ks n lt s),_,_,(fun p=>vN r (ks n lt s) p&& !ks n lt s p),d1,d2,rfl,⟨rfl,fun j _=>rfl,fun j _ e=>by simp [e],fun j hj e e2=>?_,fun j hj e e2=>?_,fun e=>?_⟩,g1,g2⟩
      · rw [e,Bool.true_and] at e2
        have e3:ks n lt s j=false:=by simpa using e2
        simp [e,e3]
      · rw [e,Bool.true_and] at e2
        have e3:ks n lt s j=true:=by simpa using e2
        simp [e,e3]
      · have e3:ks n lt s n=true:=by have:=hv n (Nat.le_refl _) e; rw [aBh] at this; exact this
        simp [e,e3]
    | false =>
      obtain ⟨d1,g1⟩:=Gs.make i (vN r (ks n lt s)) fun p hp e=>by
        have:=hv p hp e
        by_cases q:p < n
        · rw [tZ q,Bool.and_eq_true] at this; exact this.1
        · rw [show p=n by omega] at this ⊢; rw [aF0] at this; exact this
      obtain ⟨d2,g2⟩:=Gs.make s (fun p=>vN r (ks n lt s) p&&ks n lt s p&&decide (p < n)) fun p hp e=>by rw [Bool.and_eq_true,Bool.and_eq_true] at e; exact e.1.2
      refine ⟨.N (vN r (ks n lt s)) d1 d2,vN r (ks n lt s),_,_,(fun p=>vN r (ks n lt s) p&& !ks n lt s p),d1,d2,rfl,⟨rfl,fun j _=>rfl,fun j _ e=>by simp [e],fun j hj e e2=>?_,fun j hj e e2=>?_,fun e=>?_⟩,g1,g2⟩
      · rw [e,Bool.true_and] at e2
        have e3:ks n lt s j=false:=by simpa using e2
        simp [e,e3]
      · rw [e,Bool.true_and] at e2
        have e3:ks n lt s j=true:=by simpa using e2
        simp [e,e3,hj]
      · simp [e]
  | .A a b, r, h => by
    obtain ⟨d1,g1⟩:=Gs.make a r fun p hp e=>by have:=h p hp e; simp only [ks,Bool.and_eq_true] at this; exact this.1
    obtain ⟨d2,g2⟩:=Gs.make b r fun p hp e=>by have:=h p hp e; simp only [ks,Bool.and_eq_true] at this; exact this.2
    exact ⟨.P d1 d2,d1,d2,rfl,g1,g2⟩
  | .O a b, r, h => by
    obtain ⟨d1,g1⟩:=Gs.make a (fun p=>r p&&ks n lt a p) fun p hp e=>by rw [Bool.and_eq_true] at e; exact e.2
    obtain ⟨d2,g2⟩:=Gs.make b (fun p=>r p&& !ks n lt a p) fun p hp e=>by
      rw [Bool.and_eq_true] at e
      have e2:ks n lt a p=false:=by simpa using e.2
      have:=h p hp e.1
      simp only [ks] at this
      rw [e2,Bool.false_or] at this; exact this
    exact ⟨.P d1 d2,_,_,d1,d2,rfl,fun i _=>by cases r i <;> cases ks n lt a i <;> rfl,g1,g2⟩
end
def ltC (lt:Nat→Int×Int) (i j p:Nat):Int×Int:=if p < i then lt p else lt (p+(j - i))
section
variable {n:Nat} {lt:Nat→Int×Int} {i j:Nat}
theorem wL {g h g' h':Nat→Bool}: ∀ {m p q:Nat},(∀ k,k≤m→g (p+k)=g' (q+k))→(∀ k,k≤m→h (p+k)=h' (q+k))→iB g h m p=iB g' h' m q
  |0,p,q,_,h2=>h2 0 (Nat.le_refl _)
  | m + 1, p, q, h1, h2 => by
    have a:=h1 0 (by omega); have b:=h2 0 (by omega)
    simp only [Nat.add_zero] at a b
    rw [iB,iB,a,b,wL (g':=g') (h':=h') (q:=q+1) (fun k hk=>by have:=h1 (k+1) (by omega); rw [show p+1+k=p+(k+1) by omega,show q+1+k=q+(k+1) by omega]; exact this) (fun k hk=>by have:=h2 (k+1) (by omega); rw [show p+1+k=p+(k+1) by omega,show q+1+k=q+(k+1) by omega]; exact this)]
theorem wT {g h g' h':Nat→Bool}: ∀ {m p q:Nat},(∀ k,k≤m→g (p+k)=g' (q+k))→(∀ k,k≤m→h (p+k)=h' (q+k))→iD g h m p=iD g' h' m q
  |0,p,q,_,h2=>h2 0 (Nat.le_refl _)
  | m + 1, p, q, h1, h2 => by
    have a:=h1 0 (by omega); have b:=h2 0 (by omega)
    simp only [Nat.add_zero] at a b
    rw [iD,iD,a,b,wT (g':=g') (h':=h') (q:=q+1) (fun k hk=>by have:=h1 (k+1) (by omega); rw [show p+1+k=p+(k+1) by omega,show q+1+k=q+(k+1) by omega]; exact this) (fun k hk=>by have:=h2 (k+1) (by omega); rw [show p+1+k=p+(k+1) by omega,show q+1+k=q+(k+1) by omega]; exact this)]
theorem iA (hij:i≤j) (hj:j≤n): ∀ (k:K) (p:Nat),i≤p→p≤n - (j - i)→ks (n - (j - i)) (ltC lt i j) k p=ks n lt k (p+(j - i))
  | .L a b, p, h1, h2 => by
    simp only [ks]
    by_cases e:p < n - (j - i)
    · rw [if_pos e,if_pos (by omega)]; unfold ltC; rw [if_neg (by omega)]
    · rw [if_neg e,if_neg (by omega)]
  | .X w k, p, h1, h2 => by
    simp only [ks]
    by_cases e:p < n - (j - i)
    · rw [if_pos e,if_pos (by omega),iA hij hj k (p+1) (by omega) (by omega)]; congr 1; omega
    · rw [if_neg e,if_neg (by omega)]
  | .N u a b, p, h1, h2 => by
    simp only [ks]
    have e:n - (p+(j - i))=n - (j - i) - p:=by omega
    rw [e]
    have ha: ∀ k,k≤n - (j - i) - p→ks (n - (j - i)) (ltC lt i j) a (p+k)=ks n lt a (p+(j - i)+k):=fun k hk=>by rw [iA hij hj a (p+k) (by omega) (by omega)]; congr 1; omega
    have hb: ∀ k,k≤n - (j - i) - p→ks (n - (j - i)) (ltC lt i j) b (p+k)=ks n lt b (p+(j - i)+k):=fun k hk=>by rw [iA hij hj b (p+k) (by omega) (by omega)]; congr 1; omega
    cases u with
    |true=>rw [if_pos rfl,if_pos rfl]; exact wL ha hb
    |false=>rw [if_neg (by decide),if_neg (by decide)]; exact wT hb ha
  | .A a b,p,h1,h2=>by simp only [ks]; rw [iA hij hj a p h1 h2,iA hij hj b p h1 h2]
  | .O a b,p,h1,h2=>by simp only [ks]; rw [iA hij hj a p h1 h2,iA hij hj b p h1 h2]
theorem aBL {d e:DD} (h:pat d i++pat e i=pat d j++pat e j):pat d i=pat d j∧pat e i=pat e j:=
  List.append_inj h (by rw [iG,iG])
theorem Gs.cut (hij : i < j) (hj : j ≤ n) : ∀ {k : K} {r : Nat → Bool} {d : DD}, Gs n lt k r d → pat d i = pat d j → ∀ p, p < i → r p = true → ks (n - (j - i)) (ltC lt i j) k p = true
  | .L a b, r, d, h, _ => by
    intro p hp hr
    have:=h.2 p (by omega) hr
    simp only [ks] at this ⊢
    rw [if_pos (by omega)] at this ⊢
    unfold ltC; rw [if_pos hp]; exact this
  | .X w k, r, d, h, e => by
    obtain ⟨σ,d',rfl,h1,h2,h3⟩:=h
    intro p hp hr
    simp only [pat,List.cons.injEq] at e
    simp only [ks]
    rw [if_pos (by omega)]
    have hs:σ (p+1)=true:=by rw [h1 p (by omega)]; exact hr
    by_cases q:p+1 < i
    · exact Gs.cut hij hj h3 e.2 (p+1) q hs
    · have q2:p+1=i:=by omega
      rw [q2] at hs ⊢
      rw [iA (by omega) hj k i (Nat.le_refl _) (by omega),show i+(j - i)=j by omega]
      exact Gs.sound h3 j hj (by rw [← e.1]; exact hs)
  | .N u a b, r, d, h, e => by
    obtain ⟨v,x,y,c,d1,d2,rfl,h1,h2,h3⟩:=h
    simp only [pat,List.cons.injEq] at e
    obtain ⟨e1,e2⟩:=e
    obtain ⟨e2,e3⟩:=aBL e2
    have ca:=Gs.cut hij hj h2 e2
    have cb:=Gs.cut hij hj h3 e3
    have key: ∀ m p,p+m=i→v p=true→ks (n - (j - i)) (ltC lt i j) (.N u a b) p=true:=by
      intro m
      induction m with
      | zero =>
        intro p hp hv
        have q:p=i:=by omega
        subst q
        rw [iA (by omega) hj _ p (Nat.le_refl _) (by omega),show p+(j - p)=j by omega]
        exact h1.all (Gs.sound h2) (Gs.sound h3) (n - j) j (by omega) (by rw [← e1]; exact hv)
      | succ m ih =>
        intro p hp hv
        have hpn:p < n:=by omega
        have hpm:p < n - (j - i):=by omega
        cases hc:c p with
        | true =>
          have q:=h1.con p hpn hv hc
          have hv2:v (p+1)=true:=by rw [h1.s p hpn,hc,Bool.or_true]
          have z1:=ih (p+1) (by omega) hv2
          have z2:=ca p (by omega) q.1
          cases u with
          |true=>rw [uQ hpm,z1,z2]; simp
          |false=>rw [tZ hpm,z1,z2]; simp
        | false =>
          have q:=h1.dis p hpn hv hc
          have z1:=cb p (by omega) q.1
          cases u with
          |true=>rw [uQ hpm,z1]; simp
          |false=>rw [tZ hpm,z1,ca p (by omega) q.2]; simp
    intro p hp hr
    refine key (i - p) p (by omega) ?_
    cases p with
    |zero=>rw [h1.z]; exact hr
    |succ p=>rw [h1.s p (by omega),hr]; rfl
  | .A a b, r, d, h, e => by
    obtain ⟨d1,d2,rfl,h1,h2⟩:=h
    obtain ⟨e1,e2⟩:=aBL e
    intro p hp hr
    simp only [ks]
    rw [Gs.cut hij hj h1 e1 p hp hr,Gs.cut hij hj h2 e2 p hp hr]; rfl
  | .O a b, r, d, h, e => by
    obtain ⟨x,y,d1,d2,rfl,h0,h1,h2⟩:=h
    obtain ⟨e1,e2⟩:=aBL e
    intro p hp hr
    simp only [ks]
    have z:=h0 p (by omega)
    rw [hr] at z
    cases hx:x p with
    |true=>rw [Gs.cut hij hj h1 e1 p hp hx]; rfl
    |false=>rw [hx,Bool.false_or] at z; rw [Gs.cut hij hj h2 e2 p hp z,Bool.or_true]
end
end Go.Proofs.YteehaobohaecmaaGreatDoor
namespace Go.Proofs.YteehaobohaecmaaGreatDoor
open Go
inductive Sh where
  |L
  |X (k:Sh)
  |N (i s:Sh)
  |A (a b:Sh)
  |O (a b:Sh)
def K.sh:K→Sh
  | .L _ _=>.L
  | .X _ k=>.X k.sh
  | .N _ i s=>.N i.sh s.sh
  | .A a b=>.A a.sh b.sh
  | .O a b=>.O a.sh b.sh
def Sh.e:Sh→Nat
  | .L=>0
  | .X k=>k.e+1
  | .N i s=>i.e+s.e+1
  | .A a b=>a.e+b.e
  | .O a b=>a.e+b.e
def Sh.z:Sh→Nat
  | .L=>1
  | .X k=>k.z+1
  | .N i s=>i.z+s.z+1
  | .A a b=>a.z+b.z+1
  | .O a b=>a.z+b.z+1
theorem Gs.len {n:Nat} {lt:Nat→Int×Int}: ∀ {k:K} {r:Nat→Bool} {d:DD},Gs n lt k r d→d.ln=k.sh.e
  | .L _ _,_,_,h=>by rw [h.1]; rfl
  | .X _ k,_,_,h=>by obtain ⟨σ,d',rfl,_,_,h3⟩:=h; simp only [DD.ln,K.sh,Sh.e]; rw [Gs.len h3]
  | .N _ _ _,_,_,h=>by obtain ⟨v,x,y,c,d1,d2,rfl,_,h2,h3⟩:=h; simp only [DD.ln,K.sh,Sh.e]; rw [Gs.len h2,Gs.len h3]
  | .A _ _,_,_,h=>by obtain ⟨d1,d2,rfl,h2,h3⟩:=h; simp only [DD.ln,K.sh,Sh.e]; rw [Gs.len h2,Gs.len h3]
  | .O _ _,_,_,h=>by obtain ⟨x,y,d1,d2,rfl,_,h2,h3⟩:=h; simp only [DD.ln,K.sh,Sh.e]; rw [Gs.len h2,Gs.len h3]
def Bq (S:Nat):Nat→Nat→List (Sh×Bool)→Nat
  |0,f,_=>S*2 ^ f
  |_+1,f,[]=>S*2 ^ f
  |k+1,f,(.L,_)::r=>Bq S k f r
  |k+1,f,(.X c,m)::r=>Bq S k f ((c,m)::r)+1
  |k+1,f,(.A a b,m)::r=>Bq S k f ((a,m)::(b,m)::r)
  |k+1,f,(.O a b,true)::r=>Bq S k (f+(a.e+b.e)) r
  |k+1,f,(.O a b,false)::r=>Bq S k f ((a,false)::(b,false)::r)
  |k+1,f,(.N i s,true)::r=>Bq S k (f+(i.e+s.e)) r
  |k+1,f,(.N i s,false)::r=>Bq S k f ((i,true)::(s,false)::r)+1+Bq S k f ((i,false)::(s,false)::r)
theorem aKC {α:Type} [DecidableEq α]: ∀ {l m:List α},l.Nodup→(∀ a∈l,a∈m)→l.length≤m.length
  |[],_,_,_=>Nat.zero_le _
  | a :: l, m, hn, hs => by
    obtain ⟨h1,h2⟩:=List.nodup_cons.1 hn
    have ha:=hs a (List.mem_cons_self ..)
    have ih:=aKC (m:=m.erase a) h2 fun b hb=>(List.mem_erase_of_ne (fun e=>h1 (by rw [← e]; exact hb))).2 (hs b (List.mem_cons_of_mem _ hb))
    rw [List.length_erase_of_mem ha] at ih
    have:=List.length_pos_of_mem ha
    rw [List.length_cons]; omega
def bls:Nat→List (List Bool)
  |0=>[[]]
  |n+1=>(bls n).map (false:: ·)++(bls n).map (true:: ·)
theorem aFw: ∀ n,(bls n).length=2 ^ n
  |0=>rfl
  |n+1=>by rw [bls,List.length_append,List.length_map,List.length_map,aFw n,Nat.pow_succ]; omega
theorem aFu: ∀ {n:Nat} {l:List Bool},l.length=n→l∈bls n
  |0,l,h=>by rw [List.length_eq_zero_iff] at h; rw [h]; exact List.mem_singleton.2 rfl
  |n+1,[],h=>by cases h
  | n + 1, b :: l, h => by
    have:=aFu (n:=n) (l:=l) (by simpa using h)
    rw [bls,List.mem_append]
    cases b with
    |false=>exact .inl (List.mem_map.2 ⟨l,this,rfl⟩)
    |true=>exact .inr (List.mem_map.2 ⟨l,this,rfl⟩)
theorem pig {S:List Int} {st:Nat→Int} {x:Nat→List Bool} {f a T:Nat} (hx: ∀ q,(x q).length=f) (hs: ∀ q,a≤q→q < a+T→st q∈S) (hd: ∀ q q',a≤q→q < q'→q' < a+T→st q=st q'→x q=x q'→False):T≤S.length*2 ^ f:=by
  have h:=aKC (l:=(List.range T).map fun q=>(st (a+q),x (a+q))) (m:=S.flatMap fun s=>(bls f).map fun b=>(s,b)) (by
    rw [List.nodup_iff_pairwise_ne,List.pairwise_map]
    refine List.Pairwise.imp_of_mem (R:=fun i j=>i < j) (fun {i j} hi hj hij e=>?_) List.pairwise_lt_range
    injection e with e1 e2
    exact hd (a+i) (a+j) (by omega) (by omega) (by have:=List.mem_range.1 hj; omega) e1 e2) (by
    intro p hp
    obtain ⟨q,hq,rfl⟩:=List.mem_map.1 hp
    have hq:=List.mem_range.1 hq
    exact List.mem_flatMap.2 ⟨st (a+q),hs _ (by omega) (by omega),List.mem_map.2 ⟨x (a+q),aFu (hx _),rfl⟩⟩)
  rw [List.length_map,List.length_range,List.length_flatMap] at h
  have e:(S.map fun s=>((bls f).map fun b=>(s,b)).length)=S.map fun _=>2 ^ f:=List.map_congr_left fun s _=>by rw [List.length_map,aFw]
  rw [e] at h
  have e2: ∀ l:List Int,(l.map fun _=>2 ^ f).sum=l.length*2 ^ f:=by
    intro l
    induction l with
    |nil=>simp
    |cons a l ih=>rw [List.map_cons,List.sum_cons,ih,List.length_cons,Nat.succ_mul]; omega
  rw [e2] at h; exact h
structure Cm where
  k:K
  m:Bool
  r:Nat→Bool
  d:DD
structure Cm.OK (n:Nat) (lt:Nat→Int×Int) (a T:Nat) (c:Cm):Prop where
  g:Gs n lt c.k c.r c.d
  t: ∀ q,a≤q→q < a+T→c.r q=c.m
def tF:List Cm→Nat→List Bool
  |[],_=>[]
  |c::l,q=>pat c.d q++tF l q
def wtC (l:List Cm):Nat:=(l.map fun c=>c.k.sh.z).sum
theorem gS (c:Cm) (l:List Cm):wtC (c::l)=c.k.sh.z+wtC l:=by simp [wtC]
abbrev shC (c:Cm):Sh×Bool:=(c.k.sh,c.m)
theorem yP {v : Nat → Bool} {a : Nat} : ∀ {T : Nat}, (∀ q, a ≤ q → q + 1 < a + T → v q = false → v (q + 1) = false) → ∃ l, l ≤ T ∧ (∀ q, a ≤ q → q < a + l → v q = true) ∧ ∀ q, a + l ≤ q → q < a + T → v q = false
  |0,_=>⟨0,Nat.le_refl _,fun q h1 h2=>by omega,fun q h1 h2=>by omega⟩
  | T + 1, h => by
    obtain ⟨l,h1,h2,h3⟩:=yP (v:=v) (a:=a) (T:=T) fun q a1 a2=>h q a1 (by omega)
    by_cases e:l=T
    · subst e
      cases hv:v (a+l) with
      |true=>exact ⟨l+1,Nat.le_refl _,fun q a1 a2=>by by_cases z:q=a+l; (rw [z]; exact hv); exact h2 q a1 (by omega),fun q a1 a2=>by omega⟩
      |false=>exact ⟨l,by omega,h2,fun q a1 a2=>by rw [show q=a+l by omega]; exact hv⟩
    · refine ⟨l,by omega,h2,fun q a1 a2=>?_⟩
      by_cases z:q < a+T
      · exact h3 q a1 z
      · have:=h3 (a+T - 1) (by omega) (by omega)
        have w:=h (a+T - 1) (by omega) (by omega) this
        rw [show q=a+T - 1+1 by omega]; exact w
section
variable {n:Nat} {lt:Nat→Int×Int} {S:List Int} {st:Nat→Int}
theorem Cm.OK.sub {a T b U:Nat} {c:Cm} (h:c.OK n lt a T) (h1:a≤b) (h2:b+U≤a+T):c.OK n lt b U:=⟨h.g,fun q q1 q2=>h.t q (by omega) (by omega)⟩
theorem cnt : ∀ (k : Nat) (l : List Cm) (f : Nat) (x : Nat → List Bool) (a T : Nat), wtC l ≤ k → (∀ c ∈ l, c.OK n lt a T) → a + T ≤ n + 1 → (∀ q, (x q).length = f) → (∀ q, a ≤ q → q < a + T → st q ∈ S) →
    (∀ q q',a≤q→q < q'→q' < a+T→st q=st q'→x q=x q'→tF l q=tF l q'→False)→T≤Bq S.length k f (l.map shC):=by
  intro k
  induction k with
  | zero =>
    intro l f x a T hw _ _ hx hs hd
    cases l with
    |nil=>exact pig hx hs fun q q' h1 h2 h3 h4 h5=>hd q q' h1 h2 h3 h4 h5 rfl
    | cons c l =>
      rw [gS] at hw
      have:1≤c.k.sh.z:=by cases c.k.sh <;> simp only [Sh.z] <;> omega
      omega
  | succ k ih =>
    intro l f x a T hw ho hn hx hs hd
    cases l with
    |nil=>exact pig hx hs fun q q' h1 h2 h3 h4 h5=>hd q q' h1 h2 h3 h4 h5 rfl
    | cons c l =>
      obtain ⟨kk,m,r,d⟩:=c
      have hc:=ho _ (List.mem_cons_self ..)
      have hl: ∀ c∈l,c.OK n lt a T:=fun c h=>ho c (List.mem_cons_of_mem _ h)
      obtain ⟨hg,ht⟩:=hc
      simp only at hg ht
      rw [gS] at hw
      simp only at hw
      cases kk with
      | L p0 q0 =>
        simp only [K.sh,Sh.z] at hw
        have hdl:d=.L:=hg.1
        subst hdl
        exact ih l f x a T (by omega) hl hn hx hs fun q q' h1 h2 h3 h4 h5 h6=>hd q q' h1 h2 h3 h4 h5 (by simp only [tF,pat,h6])
      | X w k' =>
        simp only [K.sh,Sh.z] at hw
        obtain ⟨σ,d',rfl,g1,g2,g3⟩:=hg
        show T≤Bq S.length k f ((k'.sh,m)::l.map shC)+1
        by_cases hT:T=0
        · omega
        have hσ: ∀ q,a+1≤q→q < a+T→σ q=m:=fun q q1 q2=>by
          have:=g1 (q - 1) (by omega)
          rw [show q - 1+1=q by omega] at this
          rw [this]; exact ht (q - 1) (by omega) (by omega)
        have:=ih (⟨k',m,σ,d'⟩::l) f x (a+1) (T - 1) (by rw [gS]; simp only; omega) (fun c hc=>by
          rcases List.mem_cons.1 hc with e|e
          · subst e; exact ⟨g3,fun q q1 q2=>hσ q q1 (by omega)⟩
          · exact (hl c e).sub (by omega) (by omega)) (by omega) hx (fun q q1 q2=>hs q (by omega) (by omega)) fun q q' h1 h2 h3 h4 h5 h6=>hd q q' (by omega) h2 (by omega) h4 h5 (by
            simp only [tF,pat] at h6 ⊢
            rw [hσ q (by omega) (by omega),hσ q' (by omega) (by omega),List.cons_append,List.cons_append,h6])
        have e:((⟨k',m,σ,d'⟩::l:List Cm).map shC)=(k'.sh,m)::l.map shC:=rfl
        rw [e] at this; omega
      | A p q =>
        simp only [K.sh,Sh.z] at hw
        obtain ⟨d1,d2,rfl,g1,g2⟩:=hg
        exact ih (⟨p,m,r,d1⟩::⟨q,m,r,d2⟩::l) f x a T (by rw [gS,gS]; simp only; omega) (fun c hc=>by
          rcases List.mem_cons.1 hc with e|e
          · subst e; exact ⟨g1,ht⟩
          rcases List.mem_cons.1 e with e|e
          · subst e; exact ⟨g2,ht⟩
          · exact hl c e) hn hx hs fun q q' h1 h2 h3 h4 h5 h6=>hd q q' h1 h2 h3 h4 h5 (by simp only [tF,pat] at h6 ⊢; rw [List.append_assoc,List.append_assoc]; exact h6)
      | O p q =>
        simp only [K.sh,Sh.z] at hw
        obtain ⟨u,v,d1,d2,rfl,g0,g1,g2⟩:=hg
        cases m with
        | true =>
          refine ih l (f+(p.sh.e+q.sh.e)) (fun j=>x j++(pat d1 j++pat d2 j)) a T (by omega) hl hn (fun j=>by rw [List.length_append,List.length_append,hx,iG,iG,g1.len,g2.len]) hs fun j j' h1 h2 h3 h4 h5 h6=>?_
          have:=List.append_inj h5 (by rw [hx,hx])
          exact hd j j' h1 h2 h3 h4 this.1 (by simp only [tF,pat]; rw [this.2,h6])
        | false =>
          have hz: ∀ j,a≤j→j < a+T→u j=false∧v j=false:=fun j j1 j2=>by
            have:=g0 j (by omega)
            rw [ht j j1 j2] at this
            simpa using this
          exact ih (⟨p,false,u,d1⟩::⟨q,false,v,d2⟩::l) f x a T (by rw [gS,gS]; simp only; omega) (fun c hc=>by
            rcases List.mem_cons.1 hc with e|e
            · subst e; exact ⟨g1,fun j j1 j2=>(hz j j1 j2).1⟩
            rcases List.mem_cons.1 e with e|e
            · subst e; exact ⟨g2,fun j j1 j2=>(hz j j1 j2).2⟩
            · exact hl c e) hn hx hs fun j j' h1 h2 h3 h4 h5 h6=>hd j j' h1 h2 h3 h4 h5 (by simp only [tF,pat] at h6 ⊢; rw [List.append_assoc,List.append_assoc]; exact h6)
      | N w i s =>
        simp only [K.sh,Sh.z] at hw
        obtain ⟨v,u,y,c,d1,d2,rfl,g0,g1,g2⟩:=hg
        cases m with
        | true =>
          have hv: ∀ j,a≤j→j < a+T→v j=true:=fun j j1 j2=>by
            cases j with
            |zero=>rw [g0.z]; exact ht 0 j1 j2
            |succ j=>rw [g0.s j (by omega),ht (j+1) j1 j2]; rfl
          refine ih l (f+(i.sh.e+s.sh.e)) (fun j=>x j++(pat d1 j++pat d2 j)) a T (by omega) hl hn (fun j=>by rw [List.length_append,List.length_append,hx,iG,iG,g1.len,g2.len]) hs fun j j' h1 h2 h3 h4 h5 h6=>?_
          have:=List.append_inj h5 (by rw [hx,hx])
          exact hd j j' h1 h2 h3 h4 this.1 (by simp only [tF,pat]; rw [hv j (by omega) (by omega),hv j' (by omega) (by omega),this.2,h6])
        | false =>
          have hvc: ∀ j,a≤j→j+1 < a+T→v (j+1)=c j:=fun j j1 j2=>by rw [g0.s j (by omega),ht (j+1) (by omega) (by omega),Bool.false_or]
          obtain ⟨b,b1,b2,b3⟩:=yP (v:=v) (a:=a) (T:=T) fun j j1 j2 e=>by rw [hvc j j1 j2]; exact (g0.off j (by omega) e).2.2
          have w1:=ih (⟨i,true,u,d1⟩::⟨s,false,y,d2⟩::l) f x a (b - 1) (by rw [gS,gS]; simp only; omega) (fun cc hc=>by
            have hcon: ∀ j,a≤j→j < a+(b - 1)→u j=true∧y j=false:=fun j j1 j2=>g0.con j (by omega) (b2 j j1 (by omega)) (by rw [← hvc j j1 (by omega)]; exact b2 (j+1) (by omega) (by omega))
            rcases List.mem_cons.1 hc with e|e
            · subst e; exact ⟨g1,fun j j1 j2=>(hcon j j1 j2).1⟩
            rcases List.mem_cons.1 e with e|e
            · subst e; exact ⟨g2,fun j j1 j2=>(hcon j j1 j2).2⟩
            · exact (hl cc e).sub (Nat.le_refl _) (by omega)) (by omega) hx (fun q q1 q2=>hs q q1 (by omega)) fun j j' h1 h2 h3 h4 h5 h6=>hd j j' h1 h2 (by omega) h4 h5 (by
              simp only [tF,pat] at h6 ⊢
              rw [b2 j h1 (by omega),b2 j' (by omega) (by omega),List.cons_append,List.cons_append,List.append_assoc,List.append_assoc,h6])
          have w2:=ih (⟨i,false,u,d1⟩::⟨s,false,y,d2⟩::l) f x (a+b) (T - b) (by rw [gS,gS]; simp only; omega) (fun cc hc=>by
            have hoff: ∀ j,a+b≤j→j < a+b+(T - b)→u j=false∧y j=false:=fun j j1 j2=>by
              have:=g0.off j (by omega) (b3 j j1 (by omega))
              exact ⟨this.1,this.2.1⟩
            rcases List.mem_cons.1 hc with e|e
            · subst e; exact ⟨g1,fun j j1 j2=>(hoff j j1 j2).1⟩
            rcases List.mem_cons.1 e with e|e
            · subst e; exact ⟨g2,fun j j1 j2=>(hoff j j1 j2).2⟩
            · exact (hl cc e).sub (by omega) (by omega)) (by omega) hx (fun q q1 q2=>hs q (by omega) (by omega)) fun j j' h1 h2 h3 h4 h5 h6=>hd j j' (by omega) h2 (by omega) h4 h5 (by
              simp only [tF,pat] at h6 ⊢
              rw [b3 j h1 (by omega),b3 j' (by omega) (by omega),List.cons_append,List.cons_append,List.append_assoc,List.append_assoc,h6])
          have e1:((⟨i,true,u,d1⟩::⟨s,false,y,d2⟩::l:List Cm).map shC)=(i.sh,true)::(s.sh,false)::l.map shC:=rfl
          have e2:((⟨i,false,u,d1⟩::⟨s,false,y,d2⟩::l:List Cm).map shC)=(i.sh,false)::(s.sh,false)::l.map shC:=rfl
          rw [e1] at w1; rw [e2] at w2
          show T≤Bq S.length k f ((i.sh,true)::(s.sh,false)::l.map shC)+1+Bq S.length k f ((i.sh,false)::(s.sh,false)::l.map shC)
          omega
end
end Go.Proofs.YteehaobohaecmaaGreatDoor
namespace Go.Proofs.YteehaobohaecmaaGreatDoor
open Go
def st8:List Int:=[0,1,2,3,4,5,6,7]
def aJX (h:Sh):Nat:=if h.e≤7 then 8*2 ^ h.e else match h with
  | .N i s=>Bq 7 h.z 0 [(i,true),(s,false)]+1+Bq 8 h.z 0 [(i,false),(s,false)]
  |h=>Bq 8 h.z 0 [(h,false)]
theorem aHl {s:Int} (h:s∈st8):(st8.erase s).length=7:=by rw [List.length_erase_of_mem h]; rfl
theorem aIl {g : K} {n : Nat} {lt : Nat → Int × Int} {st : Nat → Int} (hs : ∀ q, q ≤ n → st q ∈ st8) (hg : ks n lt g 0 = true)
    (min: ∀ i j,i < j→j≤n→st i=st j→ks (n - (j - i)) (ltC lt i j) g 0=false):n≤aJX g.sh:=by
  obtain ⟨d,hd⟩:=Gs.make (n:=n) (lt:=lt) g (fun p=>decide (p=0)) fun p _ e=>by rw [of_decide_eq_true e]; exact hg
  have inj: ∀ q q',1≤q→q < q'→q' < 1+n→st q=st q'→pat d q=pat d q'→False:=fun q q' h1 h2 h3 h4 h5=>by
    have:=Gs.cut h2 (by omega) hd h5 0 (by omega) rfl
    rw [min q q' h2 (by omega) h4] at this; cases this
  unfold aJX
  by_cases he:g.sh.e≤7
  · rw [if_pos he]
    exact pig (S:=st8) (st:=st) (x:=pat d) (f:=g.sh.e) (a:=1) (T:=n) (fun q=>by rw [iG,hd.len]) (fun q _ q2=>hs q (by omega)) inj
  rw [if_neg he]
  have hr: ∀ q,1≤q→q < 1+n→(fun p=>decide (p=0)) q=false:=fun q q1 _=>decide_eq_false (by omega)
  have gen:n≤Bq 8 g.sh.z 0 [(g.sh,false)]:=by
    refine cnt (S:=st8) (st:=st) (n:=n) (lt:=lt) g.sh.z [⟨g,false,fun p=>decide (p=0),d⟩] 0 (fun _=>[]) 1 n (by simp [wtC]) (fun c hc=>?_) (by omega) (fun _=>rfl) (fun q _ q2=>hs q (by omega)) fun q q' h1 h2 h3 h4 _ h6=>inj q q' h1 h2 h3 h4 (by simpa [tF] using h6)
    rw [List.mem_singleton] at hc
    subst hc
    exact ⟨hd,hr⟩
  cases g with
  |L p q=>exact gen
  |X w k=>exact gen
  |A a b=>exact gen
  |O a b=>exact gen
  | N w i s =>
    obtain ⟨v,u,y,c,d1,d2,rfl,g0,g1,g2⟩:=hd
    show n≤Bq 7 _ 0 [(i.sh,true),(s.sh,false)]+1+Bq 8 _ 0 [(i.sh,false),(s.sh,false)]
    have hvc: ∀ j,1≤j→j+1 < 1+n→v (j+1)=c j:=fun j j1 j2=>by rw [g0.s j (by omega)]; simp
    obtain ⟨b,b1,b2,b3⟩:=yP (v:=v) (a:=1) (T:=n) fun j j1 j2 e=>by rw [hvc j j1 j2]; exact (g0.off j (by omega) e).2.2
    have hne: ∀ q,1≤q→q < 1+b→st q≠st 0:=fun q q1 q2 e=>by
      have hk:=g0.all (Gs.sound g1) (Gs.sound g2) (n - q) q (by omega) (b2 q q1 q2)
      have:=min 0 q (by omega) (by omega) e.symm
      rw [iA (Nat.zero_le _) (by omega) _ 0 (Nat.le_refl _) (Nat.zero_le _),show 0+(q - 0)=q by omega,hk] at this
      cases this
    have w1:=cnt (S:=st8.erase (st 0)) (st:=st) (n:=n) (lt:=lt) (K.N w i s).sh.z [⟨i,true,u,d1⟩,⟨s,false,y,d2⟩] 0 (fun _=>[]) 1 (b - 1) (by simp only [wtC,List.map_cons,List.map_nil,List.sum_cons,List.sum_nil,K.sh,Sh.z]; omega) (fun cc hc=>by
      have hcon: ∀ j,1≤j→j < 1+(b - 1)→u j=true∧y j=false:=fun j j1 j2=>g0.con j (by omega) (b2 j j1 (by omega)) (by rw [← hvc j j1 (by omega)]; exact b2 (j+1) (by omega) (by omega))
      rcases List.mem_cons.1 hc with e|e
      · subst e; exact ⟨g1,fun j j1 j2=>(hcon j j1 j2).1⟩
      · rw [List.mem_singleton] at e; subst e; exact ⟨g2,fun j j1 j2=>(hcon j j1 j2).2⟩) (by omega) (fun _=>rfl) (fun q q1 q2=>(List.mem_erase_of_ne (hne q q1 (by omega))).2 (hs q (by omega))) fun q q' h1 h2 h3 h4 _ h6=>inj q q' h1 h2 (by omega) h4 (by
        simp only [tF,pat,List.append_nil] at h6 ⊢
        rw [b2 q h1 (by omega),b2 q' (by omega) (by omega),h6])
    have w2:=cnt (S:=st8) (st:=st) (n:=n) (lt:=lt) (K.N w i s).sh.z [⟨i,false,u,d1⟩,⟨s,false,y,d2⟩] 0 (fun _=>[]) (1+b) (n - b) (by simp only [wtC,List.map_cons,List.map_nil,List.sum_cons,List.sum_nil,K.sh,Sh.z]; omega) (fun cc hc=>by
      have hoff: ∀ j,1+b≤j→j < 1+b+(n - b)→u j=false∧y j=false:=fun j j1 j2=>by
        have:=g0.off j (by omega) (b3 j j1 (by omega))
        exact ⟨this.1,this.2.1⟩
      rcases List.mem_cons.1 hc with e|e
      · subst e; exact ⟨g1,fun j j1 j2=>(hoff j j1 j2).1⟩
      · rw [List.mem_singleton] at e; subst e; exact ⟨g2,fun j j1 j2=>(hoff j j1 j2).2⟩) (by omega) (fun _=>rfl) (fun q q1 q2=>hs q (by omega)) fun q q' h1 h2 h3 h4 _ h6=>inj q q' (by omega) h2 (by omega) h4 (by
        simp only [tF,pat,List.append_nil] at h6 ⊢
        rw [b3 q h1 (by omega),b3 q' (by omega) (by omega),h6])
    rw [aHl (hs 0 (Nat.zero_le _))] at w1
    have w2':n - b≤Bq 8 (K.N w i s).sh.z 0 [(i.sh,false),(s.sh,false)]:=w2
    have w1':b - 1≤Bq 7 (K.N w i s).sh.z 0 [(i.sh,true),(s.sh,false)]:=w1
    simp only [K.sh] at w1' w2' ⊢
    omega
def Sh.r:Sh→Nat
  | .L=>0| .X k=>k.r| .N i s=>i.r+s.r+1| .A a b=>a.r+b.r| .O a b=>a.r+b.r
def Sh.x:Sh→Nat
  | .L=>0| .X k=>k.x+1| .N i s=>i.x+s.x| .A a b=>a.x+b.x| .O a b=>a.x+b.x
def Sh.b:Sh→Nat
  | .L=>0| .X k=>k.b| .N i s=>i.b+s.b| .A a b=>a.b+b.b+1| .O a b=>a.b+b.b+1
theorem Sh.e_eq: ∀ h:Sh,h.e=h.r+h.x
  | .L=>rfl
  | .X k=>by simp only [Sh.e,Sh.r,Sh.x]; rw [Sh.e_eq k]; omega
  | .N i s=>by simp only [Sh.e,Sh.r,Sh.x]; rw [Sh.e_eq i,Sh.e_eq s]; omega
  | .A i s=>by simp only [Sh.e,Sh.r,Sh.x]; rw [Sh.e_eq i,Sh.e_eq s]; omega
  | .O i s=>by simp only [Sh.e,Sh.r,Sh.x]; rw [Sh.e_eq i,Sh.e_eq s]; omega
def aMT (g:Nat→Nat→Nat→List Sh) (c:Sh→Sh→List Sh) (r b x:Nat):List Sh:=
  (List.range (r+1)).flatMap fun r1=>(List.range (b+1)).flatMap fun b1=>(List.range (x+1)).flatMap fun x1=>(g r1 b1 x1).flatMap fun p=>(g (r - r1) (b - b1) (x - x1)).flatMap fun q=>c p q
def gSh:Nat→Nat→Nat→Nat→List Sh
  |0,_,_,_=>[.L]
  |k+1,r,b,x=>(if r+b+x=0 then [.L] else [])++(if x=0 then [] else (gSh k r b (x - 1)).map .X)++(if r=0 then [] else aMT (gSh k) (fun p q=>[.N p q]) (r - 1) b x)++(if b=0 then [] else aMT (gSh k) (fun p q=>[.A p q,.O p q]) r (b - 1) x)
theorem xP {g:Nat→Nat→Nat→List Sh} {c:Sh→Sh→List Sh} {p q h:Sh} (hp:p∈g p.r p.b p.x) (hq:q∈g q.r q.b q.x) (hc:h∈c p q):h∈aMT g c (p.r+q.r) (p.b+q.b) (p.x+q.x):=by
  unfold aMT
  refine List.mem_flatMap.2 ⟨p.r,List.mem_range.2 (by omega),List.mem_flatMap.2 ⟨p.b,List.mem_range.2 (by omega),List.mem_flatMap.2 ⟨p.x,List.mem_range.2 (by omega),List.mem_flatMap.2 ⟨p,hp,List.mem_flatMap.2 ⟨q,?_,hc⟩⟩⟩⟩⟩
  rw [Nat.add_sub_cancel_left,Nat.add_sub_cancel_left,Nat.add_sub_cancel_left]; exact hq
theorem lF: ∀ (k:Nat) (h:Sh),h.r+h.b+h.x≤k→h∈gSh k h.r h.b h.x
  |0,.L,_=>List.mem_singleton.2 rfl
  |0,.X _,e=>by simp only [Sh.r,Sh.b,Sh.x] at e; omega
  |0,.N _ _,e=>by simp only [Sh.r,Sh.b,Sh.x] at e; omega
  |0,.A _ _,e=>by simp only [Sh.r,Sh.b,Sh.x] at e; omega
  |0,.O _ _,e=>by simp only [Sh.r,Sh.b,Sh.x] at e; omega
  |k+1,.L,_=>by simp [gSh,Sh.r,Sh.b,Sh.x]
  | k + 1, .X h, e => by
    simp only [Sh.r,Sh.b,Sh.x] at e ⊢
    have:=lF k h (by omega)
    unfold gSh
    rw [List.mem_append,List.mem_append,List.mem_append]
    refine .inl (.inl (.inr ?_))
    rw [if_neg (by omega)]
    exact List.mem_map.2 ⟨h,this,rfl⟩
  | k + 1, .N i s, e => by
    simp only [Sh.r,Sh.b,Sh.x] at e ⊢
    unfold gSh
    rw [List.mem_append,List.mem_append,List.mem_append]
    refine .inl (.inr ?_)
    rw [if_neg (by omega)]
    exact xP (lF k i (by omega)) (lF k s (by omega)) (List.mem_singleton.2 rfl)
  | k + 1, .A i s, e => by
    simp only [Sh.r,Sh.b,Sh.x] at e ⊢
    unfold gSh
    rw [List.mem_append]
    refine .inr ?_
    rw [if_neg (by omega)]
    exact xP (lF k i (by omega)) (lF k s (by omega)) (List.mem_cons_self ..)
  | k + 1, .O i s, e => by
    simp only [Sh.r,Sh.b,Sh.x] at e ⊢
    unfold gSh
    rw [List.mem_append]
    refine .inr ?_
    rw [if_neg (by omega)]
    exact xP (lF k i (by omega)) (lF k s (by omega)) (List.mem_cons_of_mem _ (List.mem_cons_self ..))
def aCO (r b x:Nat):Bool:=(gSh (r+b+x) r b x).all fun h=>Nat.ble (aJX h) 1024
theorem aUJ:([(0,0,8),(0,0,9),(0,0,10),(0,0,11),(1,0,7),(1,0,8),(1,0,9),(0,1,8),(0,1,9)].all fun p:Nat×Nat×Nat=>aCO p.1 p.2.1 p.2.2)=true:=by kernel_rfl
theorem aUH:aCO 2 0 6=true:=by kernel_rfl
theorem aUK:aCO 2 0 7=true:=by kernel_rfl
theorem aUO:aCO 3 0 5=true:=by kernel_rfl
theorem aUD:aCO 1 1 7=true:=by kernel_rfl
theorem aUI:aCO 0 2 8=true:=by kernel_rfl
end Go.Proofs.YteehaobohaecmaaGreatDoor
namespace Go.Proofs.YteehaobohaecmaaGreatDoor
open Go
instance:Inhabited K:=⟨.L (fun _ _=>true) true⟩
def qX:List K→K
  |[]=>.L (fun _ _=>true) true
  |[x]=>x
  |x::y::l=>.A x (qX (y::l))
def qY:List K→K
  |[]=>.L (fun _ _=>false) false
  |[x]=>x
  |x::y::l=>.O x (qY (y::l))
def ndK (o a:Int) (b:Bool) (l:List K):K:=
  if o=1 then .L (fun _ _=> !b) (!b)
  else if o=2 then .L (fun x _=>decide (x=a) ^^ b) b
  else if o=3 then .L (fun _ y=>decide (y=a) ^^ b) b
  else if o=4 then nth l 0
  else if o=7∨o=9 then .X (decide (o=9) ^^ b) (nth l 0)
  else if o=8∨o=10 then (if (decide (o=8) ^^ b)=true then .N true (nth l 0) (nth l 1) else .N false (nth l 1) (nth l 0))
  else if (decide (o=5) ^^ b)=true then qX l else qY l
mutual
def kF:Fm→Bool→K
  | .nd o a k,b=>ndK o a b (kFs k (if o=4 then !b else b))
def kFs:List Fm→Bool→List K
  |[],_=>[]
  |f::l,b=>kF f b::kFs l b
end
theorem aFO: ∀ (l:List Fm) (b:Bool),kFs l b=l.map fun f=>kF f b
  |[],b=>by rw [kFs]; rfl
  |f::l,b=>by rw [kFs,aFO l b]; rfl
theorem aNZ (f:Fm) (b:Bool):kF f b=ndK f.op f.arg b (f.kids.map fun g=>kF g (if f.op=4 then !b else b)):=by
  cases f; rw [kF,aFO]; rfl
section
variable {n:Nat} {lt:Nat→Int×Int}
theorem aE4: ∀ (l:List K) (i:Nat),ks n lt (qX l) i=l.all fun k=>ks n lt k i
  |[],i=>by simp [qX,ks]
  |[x],i=>by simp [qX]
  |x::y::l,i=>by rw [qX,ks,aE4 (y::l) i]; rfl
theorem aD9: ∀ (l:List K) (i:Nat),ks n lt (qY l) i=l.any fun k=>ks n lt k i
  |[],i=>by simp [qY,ks]
  |[x],i=>by simp [qY]
  |x::y::l,i=>by rw [qY,ks,aD9 (y::l) i]; rfl
theorem aOk {t:Tr} (hn:t.ni.length=n) (hl: ∀ p,p < n→lt p=(nth t.ni p,nth t.no p)) (f:Fm):okF f=true→ ∀ b i,i≤n→ks n lt (kF f b) i=(sat t f i ^^ b):=by
  refine gC (p:=fun f=>okF f=true→ ∀ b i,i≤n→ks n lt (kF f b) i=(sat t f i ^^ b)) (fun f ih hf b i hi=>?_) f
  obtain ⟨hr,hk⟩:=bP hf
  obtain ⟨r1,r2,r3,r4,r5,r6,r7,r8,r9⟩:=dE hr
  have K0: ∀ c,0 < f.kids.length→ ∀ j,j≤n→ks n lt (nth (f.kids.map fun g=>kF g c) 0) j=(nth (f.kids.map (sat t)) 0 j ^^ c):=fun c h j hj=>by rw [fT h,fT h]; exact ih 0 h (hk 0 h) c j hj
  have K1: ∀ c,1 < f.kids.length→ ∀ j,j≤n→ks n lt (nth (f.kids.map fun g=>kF g c) 1) j=(nth (f.kids.map (sat t)) 1 j ^^ c):=fun c h j hj=>by rw [fT h,fT h]; exact ih 1 h (hk 1 h) c j hj
  have KA: ∀ c,((f.kids.map fun g=>kF g c).all fun k=>ks n lt k i)=f.kids.all fun g=>sat t g i ^^ c:=fun c=>by
    rw [List.all_map,Bool.eq_iff_iff,List.all_eq_true,List.all_eq_true]
    refine ⟨fun h x hx=>?_,fun h x hx=>?_⟩ <;> obtain ⟨j,hj,rfl⟩:=dY hx
    · rw [← ih j hj (hk j hj) c i hi]; exact h _ hx
    · show ks n lt (kF (nth f.kids j) c) i=true
      rw [ih j hj (hk j hj) c i hi]; exact h _ hx
  have KO: ∀ c,((f.kids.map fun g=>kF g c).any fun k=>ks n lt k i)=f.kids.any fun g=>sat t g i ^^ c:=fun c=>by
    rw [List.any_map,Bool.eq_iff_iff,List.any_eq_true,List.any_eq_true]
    constructor
    · rintro ⟨x,hx,h⟩
      obtain ⟨j,hj,rfl⟩:=dY hx
      exact ⟨_,hx,by rw [← ih j hj (hk j hj) c i hi]; exact h⟩
    · rintro ⟨x,hx,h⟩
      obtain ⟨j,hj,rfl⟩:=dY hx
      exact ⟨_,hx,by show ks n lt (kF (nth f.kids j) c) i=true; rw [ih j hj (hk j hj) c i hi]; exact h⟩
  rw [aNZ,cH]
  have e:f.op=1∨f.op=2∨f.op=3∨f.op=4∨f.op=5∨f.op=6∨f.op=7∨f.op=8∨f.op=9∨f.op=10:=by omega
  rcases e with e|e|e|e|e|e|e|e|e|e
  · rw [e]; show ks n lt (.L (fun _ _=> !b) (!b)) i=(true ^^ b)
    simp only [ks]; split <;> simp
  · rw [e]; show ks n lt (.L (fun x _=>decide (x=f.arg) ^^ b) b) i=((decide (i < t.ni.length)&&decide (nth t.ni i=f.arg)) ^^ b)
    simp only [ks]
    by_cases q:i < n
    · rw [if_pos q,hl i q,decide_eq_true (show i < t.ni.length by omega),Bool.true_and]
    · rw [if_neg q,decide_eq_false (show ¬i < t.ni.length by omega)]; simp
  · rw [e]; show ks n lt (.L (fun _ x=>decide (x=f.arg) ^^ b) b) i=((decide (i < t.ni.length)&&decide (nth t.no i=f.arg)) ^^ b)
    simp only [ks]
    by_cases q:i < n
    · rw [if_pos q,hl i q,decide_eq_true (show i < t.ni.length by omega),Bool.true_and]
    · rw [if_neg q,decide_eq_false (show ¬i < t.ni.length by omega)]; simp
  · rw [e]; show ks n lt (nth (f.kids.map fun g=>kF g (!b)) 0) i=(!(nth (f.kids.map (sat t)) 0 i) ^^ b)
    rw [K0 _ (by omega) i hi]; cases nth (f.kids.map (sat t)) 0 i <;> cases b <;> rfl
  · rw [e]; show ks n lt (if (true ^^ b)=true then qX (f.kids.map fun g=>kF g b) else qY (f.kids.map fun g=>kF g b)) i=((f.kids.map (sat t)).all (fun g=>g i) ^^ b)
    rw [List.all_map]
    cases b with
    |false=>rw [if_pos (by decide),aE4,KA]; simp; rfl
    |true=>rw [if_neg (by decide),aD9,KO]; simp only [Bool.xor_true]; rw [aB6]; rfl
  · rw [e]; show ks n lt (if (false ^^ b)=true then qX (f.kids.map fun g=>kF g b) else qY (f.kids.map fun g=>kF g b)) i=((f.kids.map (sat t)).any (fun g=>g i) ^^ b)
    rw [List.any_map]
    cases b with
    |false=>rw [if_neg (by decide),aD9,KO]; simp; rfl
    |true=>rw [if_pos (by decide),aE4,KA]; simp only [Bool.xor_true]; rw [aCi]; rfl
  · rw [e]; show ks n lt (.X (false ^^ b) (nth (f.kids.map fun g=>kF g b) 0)) i=((decide (i < t.ni.length)&&nth (f.kids.map (sat t)) 0 (i+1)) ^^ b)
    simp only [ks]
    by_cases q:i < n
    · rw [if_pos q,decide_eq_true (show i < t.ni.length by omega),Bool.true_and,K0 _ (by omega) (i+1) q]
    · rw [if_neg q,decide_eq_false (show ¬i < t.ni.length by omega)]; simp
  · have hu:iB (nth (f.kids.map (sat t)) 0) (nth (f.kids.map (sat t)) 1) (n - i) i=mQ t 8 f.arg (f.kids.map (sat t)) i:=by rw [← hn]; rfl
    rw [e,← hu]
    show ks n lt (if (true ^^ b)=true then .N true (nth (f.kids.map fun g=>kF g b) 0) (nth (f.kids.map fun g=>kF g b) 1) else .N false (nth (f.kids.map fun g=>kF g b) 1) (nth (f.kids.map fun g=>kF g b) 0)) i=_
    cases b with
    | false =>
      rw [if_pos (by decide)]; simp only [ks,if_true,Bool.xor_false]
      exact wL (fun k hk=>by rw [K0 _ (by omega) _ (by omega)]; simp) (fun k hk=>by rw [K1 _ (by omega) _ (by omega)]; simp)
    | true =>
      rw [if_neg (by decide)]; simp only [ks,Bool.false_eq_true,if_false,Bool.xor_true]
      rw [← zC]
      exact wT (fun k hk=>by rw [K0 _ (by omega) _ (by omega)]; simp) (fun k hk=>by rw [K1 _ (by omega) _ (by omega)]; simp)
  · rw [e]; show ks n lt (.X (true ^^ b) (nth (f.kids.map fun g=>kF g b) 0)) i=((decide (¬i < t.ni.length)||nth (f.kids.map (sat t)) 0 (i+1)) ^^ b)
    simp only [ks]
    by_cases q:i < n
    · rw [if_pos q,decide_eq_false (show ¬¬i < t.ni.length by omega),Bool.false_or,K0 _ (by omega) (i+1) q]
    · rw [if_neg q,decide_eq_true (show ¬i < t.ni.length by omega)]; simp
  · have hu:iD (nth (f.kids.map (sat t)) 0) (nth (f.kids.map (sat t)) 1) (n - i) i=mQ t 10 f.arg (f.kids.map (sat t)) i:=by rw [← hn]; rfl
    rw [e,← hu]
    show ks n lt (if (false ^^ b)=true then .N true (nth (f.kids.map fun g=>kF g b) 0) (nth (f.kids.map fun g=>kF g b) 1) else .N false (nth (f.kids.map fun g=>kF g b) 1) (nth (f.kids.map fun g=>kF g b) 0)) i=_
    cases b with
    | true =>
      rw [if_pos (by decide)]; simp only [ks,if_true,Bool.xor_true]
      rw [← yM]
      exact wL (fun k hk=>by rw [K0 _ (by omega) _ (by omega)]; simp) (fun k hk=>by rw [K1 _ (by omega) _ (by omega)]; simp)
    | false =>
      rw [if_neg (by decide)]; simp only [ks,Bool.false_eq_true,if_false,Bool.xor_false]
      exact wT (fun k hk=>by rw [K0 _ (by omega) _ (by omega)]; simp) (fun k hk=>by rw [K1 _ (by omega) _ (by omega)]; simp)
end
def Sh.w0 (h:Sh):Nat:=1+2*h.r+h.x+h.b
def Sh.wt (h:Sh):Nat:=h.w0+if h.b=0 then 0 else 1
theorem aKw: ∀ l:List K,l≠[]→(qX l).sh.w0≤(l.map fun k=>k.sh.w0).sum
  |[],h=>absurd rfl h
  |[x],_=>by simp [qX]
  | x :: y :: l, _ => by
    have:=aKw (y::l) (by simp)
    simp only [qX,K.sh,Sh.w0,Sh.r,Sh.x,Sh.b,List.map_cons,List.sum_cons] at this ⊢
    omega
theorem aIA: ∀ l:List K,l≠[]→(qY l).sh.w0≤(l.map fun k=>k.sh.w0).sum
  |[],h=>absurd rfl h
  |[x],_=>by simp [qY]
  | x :: y :: l, _ => by
    have:=aIA (y::l) (by simp)
    simp only [qY,K.sh,Sh.w0,Sh.r,Sh.x,Sh.b,List.map_cons,List.sum_cons] at this ⊢
    omega
theorem aNk {b:Bool}: ∀ {l:List Fm},(∀ j,j < l.length→(kF (nth l j) b).sh.wt≤(nth l j).sz)→((l.map fun g=>kF g b).map fun k=>k.sh.w0).sum≤Fm.szs l
  |[],_=>by simp [Fm.szs]
  | f :: l, h => by
    have h0:=h 0 (by simp)
    have:=aNk (l:=l) (b:=b) fun j hj=>h (j+1) (by simpa using hj)
    have e:nth (f::l) 0=f:=rfl
    rw [e] at h0
    rw [List.map_cons,List.map_cons,List.sum_cons,Fm.szs]
    unfold Sh.wt at h0
    omega
theorem aUV (f:Fm):okF f=true→ ∀ b,(kF f b).sh.wt≤f.sz:=by
  refine gC (p:=fun f=>okF f=true→ ∀ b,(kF f b).sh.wt≤f.sz) (fun f ih hf b=>?_) f
  obtain ⟨hr,hk⟩:=bP hf
  obtain ⟨r1,r2,r3,r4,r5,r6,r7,r8,r9⟩:=dE hr
  have hz:f.sz=Fm.szs f.kids+1:=by cases f; rw [Fm.sz]; rfl
  have S0: ∀ c,0 < f.kids.length→(nth (f.kids.map fun g=>kF g c) 0).sh.wt≤Fm.szs f.kids:=fun c h=>by
    rw [fT h]; exact Nat.le_trans (ih 0 h (hk 0 h) c) (Fm.szs_nth h)
  have SS: ∀ c,((f.kids.map fun g=>kF g c).map fun k=>k.sh.w0).sum≤Fm.szs f.kids:=fun c=>aNk fun j hj=>ih j hj (hk j hj) c
  have S2: ∀ c,f.kids.length=2→(nth (f.kids.map fun g=>kF g c) 0).sh.wt+(nth (f.kids.map fun g=>kF g c) 1).sh.wt≤Fm.szs f.kids:=fun c h=>by
    have i0:=ih 0 (by omega) (hk 0 (by omega)) c
    have i1:=ih 1 (by omega) (hk 1 (by omega)) c
    rw [fT (by omega),fT (by omega)]
    generalize f.kids=l at*
    match l,h with
    | [x, y], _ =>
      have e0:nth [x,y] 0=x:=rfl
      have e1:nth [x,y] 1=y:=rfl
      rw [e0] at i0; rw [e1] at i1
      rw [e0,e1]; simp only [Fm.szs]; omega
  have hne: ∀ c,2≤f.kids.length→(f.kids.map fun g=>kF g c)≠[]:=fun c h e=>by
    have:=congrArg List.length e
    rw [List.length_map,List.length_nil] at this; omega
  have hw: ∀ s:Sh,s.wt≤s.w0+1:=fun s=>by unfold Sh.wt; split <;> omega
  rw [aNZ,hz]
  have e:f.op=1∨f.op=2∨f.op=3∨f.op=4∨f.op=5∨f.op=6∨f.op=7∨f.op=8∨f.op=9∨f.op=10:=by omega
  rcases e with e|e|e|e|e|e|e|e|e|e
  · rw [e]; show Sh.wt .L≤_; simp [Sh.wt,Sh.w0,Sh.r,Sh.x,Sh.b]
  · rw [e]; show Sh.wt .L≤_; simp [Sh.wt,Sh.w0,Sh.r,Sh.x,Sh.b]
  · rw [e]; show Sh.wt .L≤_; simp [Sh.wt,Sh.w0,Sh.r,Sh.x,Sh.b]
  · rw [e]; show (nth (f.kids.map fun g=>kF g (!b)) 0).sh.wt≤_
    have:=S0 (!b) (by omega); omega
  · rw [e]; show (if (true ^^ b)=true then qX (f.kids.map fun g=>kF g b) else qY (f.kids.map fun g=>kF g b)).sh.wt≤_
    have:=SS b
    split
    · have h1:=aKw _ (hne b (by omega)); have h2:=hw (qX (f.kids.map fun g=>kF g b)).sh; omega
    · have h1:=aIA _ (hne b (by omega)); have h2:=hw (qY (f.kids.map fun g=>kF g b)).sh; omega
  · rw [e]; show (if (false ^^ b)=true then qX (f.kids.map fun g=>kF g b) else qY (f.kids.map fun g=>kF g b)).sh.wt≤_
    have:=SS b
    split
    · have h1:=aKw _ (hne b (by omega)); have h2:=hw (qX (f.kids.map fun g=>kF g b)).sh; omega
    · have h1:=aIA _ (hne b (by omega)); have h2:=hw (qY (f.kids.map fun g=>kF g b)).sh; omega
  · rw [e]; show (K.X _ (nth (f.kids.map fun g=>kF g b) 0)).sh.wt≤_
    have:=S0 b (by omega)
    simp only [K.sh,Sh.wt,Sh.w0,Sh.r,Sh.x,Sh.b] at this ⊢
    omega
  · rw [e]; show (if (true ^^ b)=true then K.N true (nth (f.kids.map fun g=>kF g b) 0) (nth (f.kids.map fun g=>kF g b) 1) else K.N false (nth (f.kids.map fun g=>kF g b) 1) (nth (f.kids.map fun g=>kF g b) 0)).sh.wt≤_
    have:=S2 b (by omega)
    split <;> simp only [K.sh,Sh.wt,Sh.w0,Sh.r,Sh.x,Sh.b] at this ⊢ <;> (repeat' split at this) <;> (repeat' split) <;> omega
  · rw [e]; show (K.X _ (nth (f.kids.map fun g=>kF g b) 0)).sh.wt≤_
    have:=S0 b (by omega)
    simp only [K.sh,Sh.wt,Sh.w0,Sh.r,Sh.x,Sh.b] at this ⊢
    omega
  · rw [e]; show (if (false ^^ b)=true then K.N true (nth (f.kids.map fun g=>kF g b) 0) (nth (f.kids.map fun g=>kF g b) 1) else K.N false (nth (f.kids.map fun g=>kF g b) 1) (nth (f.kids.map fun g=>kF g b) 0)).sh.wt≤_
    have:=S2 b (by omega)
    split <;> simp only [K.sh,Sh.wt,Sh.w0,Sh.r,Sh.x,Sh.b] at this ⊢ <;> (repeat' split at this) <;> (repeat' split) <;> omega
theorem aMr {r b x:Nat} (h1:8≤r+x) (h2:1+2*r+x+b≤12) (h3:b≠0→2+2*r+x+b≤12):aCO r b x=true:=by
  have ha:=fun p hp=>List.all_eq_true.1 aUJ p hp
  have hr:r=0∨r=1∨r=2∨r=3:=by omega
  have hb:b=0∨b=1∨b=2:=by omega
  rcases hb with rfl|rfl|rfl
  · rcases hr with rfl|rfl|rfl|rfl
    · have hx:x=8∨x=9∨x=10∨x=11:=by omega
      rcases hx with rfl|rfl|rfl|rfl
      · exact ha (0,0,8) (by simp)
      · exact ha (0,0,9) (by simp)
      · exact ha (0,0,10) (by simp)
      · exact ha (0,0,11) (by simp)
    · have hx:x=7∨x=8∨x=9:=by omega
      rcases hx with rfl|rfl|rfl
      · exact ha (1,0,7) (by simp)
      · exact ha (1,0,8) (by simp)
      · exact ha (1,0,9) (by simp)
    · have hx:x=6∨x=7:=by omega
      rcases hx with rfl|rfl
      · exact aUH
      · exact aUK
    · obtain rfl:x=5:=by omega
      exact aUO
  · have h4:=h3 (by decide)
    rcases hr with rfl|rfl|rfl|rfl
    · have hx:x=8∨x=9:=by omega
      rcases hx with rfl|rfl
      · exact ha (0,1,8) (by simp)
      · exact ha (0,1,9) (by simp)
    · obtain rfl:x=7:=by omega
      exact aUD
    · omega
    · omega
  · have h4:=h3 (by decide)
    obtain ⟨rfl,rfl⟩:r=0∧x=8:=by omega
    exact aUI
theorem aUU {h:Sh} (hw:h.wt≤12):aJX h≤1024:=by
  by_cases q:h.e≤7
  · unfold aJX
    rw [if_pos q]
    have:2 ^ h.e≤2 ^ 7:=Nat.pow_le_pow_right (by decide) q
    omega
  · have he:=h.e_eq
    have hm:=lF (h.r+h.b+h.x) h (Nat.le_refl _)
    unfold Sh.wt Sh.w0 at hw
    have hc:aCO h.r h.b h.x=true:=aMr (by omega) (by omega) fun e=>by rw [if_neg e] at hw; omega
    exact Nat.le_of_ble_eq_true (List.all_eq_true.1 hc h hm)
theorem aLd {s:Int} (h0:0≤s) (h1:s < 8):s∈st8:=by unfold st8; simp only [List.mem_cons,List.not_mem_nil,or_false]; omega
def aIb (t:Tr) (i j:Nat):Tr:=⟨t.ni.take i++t.ni.drop j,t.no.take i++t.no.drop j⟩
theorem aBK {l:List Int} {i j p:Nat} (hij:i≤j) (hj:j≤l.length) (hp:p < l.length - (j - i)):nth (l.take i++l.drop j) p=if p < i then nth l p else nth l (p+(j - i)):=by
  unfold nth
  rw [List.getD_eq_getElem?_getD,List.getD_eq_getElem?_getD,List.getD_eq_getElem?_getD]
  split
  · rename_i q
    rw [List.getElem?_append_left (by rw [List.length_take]; omega),List.getElem?_take_of_lt q]
  · rename_i q
    rw [List.getElem?_append_right (by rw [List.length_take]; omega),List.length_take,List.getElem?_drop]
    congr 2; omega
theorem aEX {f:Fm} {t:Tr} {st:Nat→Int} {n:Nat} (hok:okF f=true) (hz:f.sz≤12) (hn:t.ni.length=n) (ho:t.no.length=n) (hs: ∀ q,q≤n→0≤st q∧st q < 8)
    (hbad:sat t f 0=false) (hmin: ∀ i j,i < j→j≤n→st i=st j→sat (aIb t i j) f 0=true):n≤1024:=by
  let lt:Nat→Int×Int:=fun p=>(nth t.ni p,nth t.no p)
  have h1:ks n lt (kF f true) 0=true:=by rw [aOk hn (fun p _=>rfl) f hok true 0 (Nat.zero_le _),hbad]; rfl
  have:=aIl (g:=kF f true) (lt:=lt) (fun q hq=>aLd (hs q hq).1 (hs q hq).2) h1 fun i j hij hj e=>by
    rw [aOk (t:=aIb t i j) (by simp [aIb]; omega) (fun p hp=>?_) f hok true 0 (Nat.zero_le _),hmin i j hij hj e]; rfl
    show ltC lt i j p=(nth (t.ni.take i++t.ni.drop j) p,nth (t.no.take i++t.no.drop j) p)
    rw [aBK (by omega) (by omega) (by omega),aBK (by omega) (by omega) (by omega)]
    unfold ltC
    split <;> rfl
  have hb:=aUU (h:=(kF f true).sh) (Nat.le_trans (aUV f hok true) hz)
  omega
end Go.Proofs.YteehaobohaecmaaGreatDoor
namespace Go.Proofs.YteehaobohaecmaaGreatDoor
open Go
def WdM (m:M) (u:List Int):Prop:= ∀ k,k < u.length→0≤nth u k∧nth u k < m.i
def vTr (m:M) (u:List Int):Tr:=⟨u,eY m m.s u⟩
theorem aFJ {l r:List Int} {k:Nat} (h:k < l.length):nth (l++r) k=nth l k:=by
  unfold nth; rw [List.getD_eq_getElem?_getD,List.getD_eq_getElem?_getD,List.getElem?_append_left h]
theorem aFs {l:List Int} {x:Int}:nth (l++[x]) l.length=x:=by
  unfold nth; simp
theorem mG {l r:List Pl} {k:Nat} (h:k < l.length):nth (l++r) k=nth l k:=by
  unfold nth; rw [List.getD_eq_getElem?_getD,List.getD_eq_getElem?_getD,List.getElem?_append_left h]
theorem aC5 {l:List Pl} {x:Pl}:nth (l++[x]) l.length=x:=by
  unfold nth; simp
theorem WdM.snoc {m:M} {u:List Int} {a:Int} (h:WdM m u) (h0:0≤a) (h1:a < m.i):WdM m (u++[a]):=fun k hk=>by
  rw [List.length_append,List.length_singleton] at hk
  by_cases q:k < u.length
  · rw [aFJ q]; exact h k q
  · rw [show k=u.length by omega,aFs]; exact ⟨h0,h1⟩
theorem WdM.left {m:M} {u v:List Int} (h:WdM m (u++v)):WdM m u:=fun k hk=>by
  have:=h k (by rw [List.length_append]; omega)
  rwa [aFJ hk] at this
theorem WdM.last {m:M} {u:List Int} {a:Int} (h:WdM m (u++[a])):0≤a∧a < m.i:=by
  have:=h u.length (by simp)
  rwa [aFs] at this
structure SyM (m:M) (f:Fm) (u:List Int) (g:Fm):Prop where
  r:Run 13 g
  s: ∀ t:Tr,u.length≤t.ni.length→(∀ k,k < u.length→nth t.ni k=nth u k∧nth t.no k=nth (eY m m.s u) k)→sat t g u.length=sat t f 0
section
variable {m:M} {f g:Fm} {u:List Int} {a:Nat} {l:List Pl} {p q:Pl} {i:Nat}
theorem SyM.step (hm:dM m=0) (hu:WdM m u) (h:SyM m f u g) (ha:(a:Int) < m.i) (he:(stM g a (nth (nth m.ot (dW m m.s u).toNat) a)).2=0):SyM m f (u++[(a:Int)]) (stM g a (nth (nth m.ot (dW m m.s u).toNat) a)).1:=by
  have mo:=fK hm
  have hg:=tJ hm u m.s mo.2.2.2.2.1 mo.2.2.2.2.2.1 hu
  have hr:=(mo.2.2.2.2.2.2.2 (dW m m.s u).toNat (by omega)).2.2 a ha
  rcases aIe h.r (by decide) (a:=(a:Int)) (o:=nth (nth m.ot (dW m m.s u).toNat) a) ⟨by omega,by omega⟩ ⟨hr.2.2.1,hr.2.2.2⟩ with e|⟨g',e,e1,e2⟩
  · rw [e] at he; exact absurd he (by decide)
  · rw [e]
    refine ⟨e1,fun t h1 h2=>?_⟩
    rw [List.length_append,List.length_singleton] at h1 h2 ⊢
    have ho:eY m m.s (u++[(a:Int)])=eY m m.s u++[nth (nth m.ot (dW m m.s u).toNat) a]:=by rw [iN]; rfl
    have h3:=h2 u.length (by omega)
    have ho2:nth (eY m m.s u++[nth (nth m.ot (dW m m.s u).toNat) a]) u.length=nth (nth m.ot (dW m m.s u).toNat) a:=by
      have:=aFs (l:=eY m m.s u) (x:=nth (nth m.ot (dW m m.s u).toNat) a)
      rwa [iC] at this
    rw [aFs,ho,ho2] at h3
    rw [show u.length+1=u.length+1 from rfl,e2 t u.length (by omega) h3.1 h3.2]
    refine h.s t (by omega) fun k hk=>?_
    have h4:=h2 k (by omega)
    rwa [aFJ hk,ho,aFJ (by rw [iC]; exact hk)] at h4
theorem SyM.fin (h:SyM m f u g):sat (vTr m u) f 0=enB g:=by
  rw [← h.s (vTr m u) (Nat.le_refl _) fun k _=>⟨rfl,rfl⟩,show u.length=(vTr m u).ni.length from rfl,aMJ g (fB h.r.v)]
  unfold enB
  rw [aPJ h.r.v (by decide) rfl]
structure BfM (m:M) (f:Fm) (l:List Pl) (i a:Nat):Prop where
  len:l.length≤4096
  mono: ∀ j k,j≤k→k < l.length→(nth l j).w.length≤(nth l k).w.length
  near: ∀ j,j < l.length→i < l.length→(nth l j).w.length≤(nth l i).w.length+1
  good: ∀ j,j < l.length→WdM m (nth l j).w∧dW m m.s (nth l j).w=(nth l j).s∧SyM m f (nth l j).w (nth l j).f∧enB (nth l j).f=true
  first:0 < l.length∧(nth l 0).w=[]
  done: ∀ j b,(j < i∨(j=i∧b < a))→j < l.length→(b:Int) < m.i→vEr m (nth l j) b=0∧ ∃ k,k < l.length∧(nth l k).s=(vNx m (nth l j) b).s∧(nth l k).f=(vNx m (nth l j) b).f∧(nth l k).w.length≤(nth l j).w.length+1
theorem aAP (p:Pl) (a:Nat):(vNx m p a).w=p.w++[(a:Int)]:=by simp [vNx,cat]
theorem BfM.nxt {i a:Nat} (hm:dM m=0) (h:BfM m f l i a) (hi:i < l.length) (ha:(a:Int) < m.i) (he:vEr m (nth l i) a=0):WdM m (vNx m (nth l i) a).w∧dW m m.s (vNx m (nth l i) a).w=(vNx m (nth l i) a).s∧SyM m f (vNx m (nth l i) a).w (vNx m (nth l i) a).f:=by
  obtain ⟨g1,g2,g3,_⟩:=h.good i hi
  rw [aAP]
  refine ⟨g1.snoc (by omega) ha,by rw [lD,g2]; rfl,?_⟩
  have:=g3.step hm g1 ha (by rw [g2]; exact he)
  rwa [g2] at this
theorem BfM.put {i a : Nat} (hm : dM m = 0) (h : BfM m f l i a) (hi : i < l.length) (ha : (a : Int) < m.i) (he : vEr m (nth l i) a = 0) (h2 : ¬(fnd l (vNx m (nth l i) a)).2 ≠ 0) (h3 : ¬(fnd l (vNx m (nth l i) a)).1 = true) : BfM m f (lO l (vNx m (nth l i) a)) i (a + 1) := by
  obtain ⟨n1,n2,n3⟩:=h.nxt hm hi ha he
  have hw:(vNx m (nth l i) a).w.length=(nth l i).w.length+1:=by rw [aAP]; simp
  generalize hq:vNx m (nth l i) a=q at*
  by_cases hn:mH l q
  · rw [(fF hn).2]
    unfold mH at hn
    have hE:enB q.f=true:=by cases e:enB q.f with
      |true=>rfl
      |false=>exact absurd (.inr (.inr (.inl e))) hn
    have hl:=h.len
    have hl2:l.length≠4096:=fun e=>hn (.inr (.inr (.inr e)))
    have hL:(l++[q]).length=l.length+1:=by simp
    have cs: ∀ j,j < (l++[q]).length→(j < l.length∧nth (l++[q]) j=nth l j)∨(j=l.length∧nth (l++[q]) j=q):=fun j hj=>by
      rw [hL] at hj
      by_cases e:j < l.length
      · exact .inl ⟨e,mG e⟩
      · have e2:j=l.length:=by omega
        subst e2; exact .inr ⟨rfl,aC5⟩
    refine ⟨by omega,fun j k hjk hk=>?_,fun j hj _=>?_,fun j hj=>?_,⟨by omega,by rw [mG (by omega)]; exact h.first.2⟩,fun j b hjb hj hb=>?_⟩
    · rcases cs k hk with ⟨k1,k2⟩|⟨k1,k2⟩
      · rw [k2,mG (by omega)]; exact h.mono j k hjk k1
      · rw [k2,hw]
        rcases cs j (by omega) with ⟨j1,j2⟩|⟨j1,j2⟩
        · rw [j2]; exact h.near j j1 hi
        · rw [j2,hw]; omega
    · rw [mG hi]
      rcases cs j hj with ⟨j1,j2⟩|⟨j1,j2⟩
      · rw [j2]; exact h.near j j1 hi
      · rw [j2,hw]; omega
    · rcases cs j hj with ⟨j1,j2⟩|⟨j1,j2⟩
      · rw [j2]; exact h.good j j1
      · rw [j2]; exact ⟨n1,n2,n3,hE⟩
    · have hji:j < l.length:=by omega
      rw [mG hji]
      by_cases e:j < i∨(j=i∧b < a)
      · obtain ⟨d1,k,d2,d3,d4,d5⟩:=h.done j b e hji hb
        exact ⟨d1,k,by omega,by rw [mG d2]; exact d3,by rw [mG d2]; exact d4,by rw [mG d2]; exact d5⟩
      · obtain ⟨rfl,rfl⟩:j=i∧b=a:=by omega
        exact ⟨he,l.length,by omega,by rw [aC5,hq],by rw [aC5,hq],by rw [aC5]; omega⟩
  · have hold:lO l q=l:=pP hn
    rw [hold]
    have hin:fM l q.s q.f=true:=by
      by_cases q1:fM l q.s q.f=true
      · exact q1
      · by_cases q2:enE q.f≠0∨enB q.f=false
        · rw [rQ q1 q2] at h2 h3
          rcases q2 with q2|q2
          · exact absurd q2 h2
          · simp only [decide_eq_true_eq] at h3; omega
        · by_cases q3:l.length=4096
          · rw [aC1 q1 q2 q3] at h2; exact absurd (by decide) h2
          · exact absurd (vL q1 q2 q3) hn
    refine ⟨h.len,h.mono,h.near,h.good,h.first,fun j b hjb hj hb=>?_⟩
    by_cases e:j < i∨(j=i∧b < a)
    · exact h.done j b e hj hb
    · obtain ⟨rfl,rfl⟩:j=i∧b=a:=by omega
      unfold fM at hin
      rw [List.any_eq_true] at hin
      obtain ⟨x,hx,hx2⟩:=hin
      rw [Bool.and_eq_true] at hx2
      obtain ⟨k,hk,rfl⟩:=dY hx
      rw [hq]
      exact ⟨he,k,hk,of_decide_eq_true hx2.1,of_decide_eq_true hx2.2,h.near k hk hi⟩
theorem BfM.row {i:Nat} (h:BfM m f l i m.i.toNat) (hi:i < l.length):BfM m f l (i+1) 0:=
  ⟨h.len,h.mono,fun j hj h1=>by have:=h.near j hj hi; have:=h.mono i (i+1) (by omega) h1; omega,h.good,h.first,fun j b hjb hj hb=>h.done j b (by omega) hj hb⟩
theorem BfM.cover {i a : Nat} (hm : dM m = 0) (h : BfM m f l i a) {N : Nat} (hN : ∀ k, k < l.length → (nth l k).w.length < N → k < i) : ∀ (n : Nat) (u : List Int), u.length = n → WdM m u → u.length ≤ N → ∃ k, k < l.length ∧ (nth l k).s = dW m m.s u ∧ (nth l k).w.length ≤ u.length ∧ SyM m f u (nth l k).f := by
  intro n
  induction n with
  | zero =>
    intro u hu _ _
    have:u=[]:=List.length_eq_zero_iff.1 hu
    subst this
    obtain ⟨g1,g2,g3,g4⟩:=h.good 0 h.first.1
    rw [h.first.2] at g2 g3
    exact ⟨0,h.first.1,g2.symm,by rw [h.first.2]; exact Nat.le_refl _,g3⟩
  | succ n ih =>
    intro u hu hw hl
    rcases List.eq_nil_or_concat u with rfl|⟨v,b,e⟩
    · cases hu
    · rw [List.concat_eq_append] at e
      subst e
      rw [List.length_append,List.length_singleton] at hu hl
      obtain ⟨k,k1,k2,k3,k4⟩:=ih v (by omega) hw.left (by omega)
      have hb:=hw.last
      obtain ⟨c,rfl⟩: ∃ c:Nat,b=c:=⟨b.toNat,by omega⟩
      obtain ⟨d1,j,d2,d3,d4,d5⟩:=h.done k c (.inl (hN k k1 (by omega))) k1 hb.2
      refine ⟨j,d2,?_,?_,?_⟩
      · rw [d3,lD,← k2]; rfl
      · rw [List.length_append,List.length_singleton]; omega
      · have:=k4.step hm hw.left hb.2 (by rw [← k2]; exact d1)
        rw [← k2] at this
        rw [d4]; exact this
theorem BfM.all {i a:Nat} (hm:dM m=0) (h:BfM m f l i a) {N:Nat} (hN: ∀ k,k < l.length→(nth l k).w.length < N→k < i) {u:List Int} (hw:WdM m u) (hu:u.length≤N):sat (vTr m u) f 0=true:=by
  obtain ⟨k,k1,_,_,k4⟩:=h.cover hm hN u.length u rfl hw hu
  rw [k4.fin]; exact (h.good k k1).2.2.2
inductive VSp (m:M) (f:Fm) (r:Tr×Bool×Int):Prop where
  |err (e:Int) (h:e≠0) (h1:r=(zT,false,e))
  |no (h1:r=(zT,false,0)) (h2: ∀ u,WdM m u→sat (vTr m u) f 0=true)
  |bad (w:List Int) (h1:r=aCV m w) (h2:WdM m w) (h3:sat (vTr m w) f 0=false) (h4: ∀ u,WdM m u→u.length < w.length→sat (vTr m u) f 0=true)
theorem aGf (hm : dM m = 0) (hp : p = nth l i) (hi : i < l.length) : ∀ (n a : Nat) (l2 : List Pl), n + a = m.i.toNat → BfM m f l2 i a → i < l2.length → nth l2 i = p →
    (∃ r,iS m p n a l2=(some r,[])∧VSp m f r)∨ ∃ l3,iS m p n a l2=(none,l3)∧BfM m f l3 i m.i.toNat∧i < l3.length
  |0,a,l2,e,h,hi2,_=>.inr ⟨l2,by rw [iS],by rw [show m.i.toNat=a by omega]; exact h,hi2⟩
  | n + 1, a, l2, e, h, hi2, hp2 => by
    have hmo:=fK hm
    have ha:(a:Int) < m.i:=by omega
    rw [iS]
    by_cases q1:vEr m p a≠0
    · rw [if_pos q1]; exact .inl ⟨_,rfl,.err _ q1 rfl⟩
    rw [if_neg q1]
    by_cases q2:(fnd l2 (vNx m p a)).2≠0
    · rw [if_pos q2]; exact .inl ⟨_,rfl,.err _ q2 rfl⟩
    rw [if_neg q2]
    have he:vEr m (nth l2 i) a=0:=by rw [hp2]; exact Decidable.of_not_not q1
    by_cases q3:(fnd l2 (vNx m p a)).1=true
    · rw [if_pos q3]
      obtain ⟨n1,n2,n3⟩:=h.nxt hm hi2 ha he
      rw [hp2] at n1 n2 n3
      refine .inl ⟨_,rfl,.bad _ rfl n1 ?_ fun u hu hl=>?_⟩
      · rw [n3.fin]
        by_cases c1:fM l2 (vNx m p a).s (vNx m p a).f=true
        · rw [aGj c1] at q3; cases q3
        by_cases c2:enE (vNx m p a).f≠0∨enB (vNx m p a).f=false
        · rw [rQ c1 c2] at q2 q3
          rcases c2 with c2|c2
          · exact absurd c2 q2
          · exact c2
        · by_cases c3:l2.length=4096
          · rw [aC1 c1 c2 c3] at q3; cases q3
          · rw [(fF (vL c1 c2 c3)).1] at q3; cases q3
      · refine h.all hm (N:=p.w.length) (fun k hk hkl=>?_) hu (by rw [aAP,List.length_append,List.length_singleton] at hl; omega)
        by_cases c:k < i
        · exact c
        · have:=h.mono i k (by omega) hk
          rw [hp2] at this; omega
    · rw [if_neg q3]
      have hput:=h.put hm hi2 ha he (by rw [hp2]; exact q2) (by rw [hp2]; exact q3)
      rw [hp2] at hput
      refine aGf hm hp hi n (a+1) _ (by omega) hput ?_ ?_
      · have:=aJL l2 (vNx m p a); omega
      · rw [aHW hi2]; exact hp2
theorem aFQ (hm:dM m=0): ∀ (n i:Nat) (l:List Pl),4097≤n+i→BfM m f l i 0→VSp m f (mJ m n i l)
  | 0, i, l, e, h => by
    have:=h.len
    rw [mJ]
    exact .no rfl fun u hu=>h.all hm (N:=u.length) (fun k hk _=>by omega) hu (Nat.le_refl _)
  | n + 1, i, l, e, h => by
    rw [mJ]
    by_cases hi:i < l.length
    · rw [if_pos hi]
      rcases aGf (f:=f) hm rfl hi m.i.toNat 0 l (by omega) h hi rfl with ⟨r,r1,r2⟩|⟨l3,r1,r2,r3⟩
      · rw [r1]; exact r2
      · rw [r1]; exact aFQ hm n (i+1) l3 (by omega) (r2.row r3)
    · rw [if_neg hi]
      exact .no rfl fun u hu=>h.all hm (N:=u.length) (fun k hk _=>by omega) hu (Nat.le_refl _)
theorem aOO (hm:dM m=0) (hv:cX f=0) (hz:f.sz≤12):VSp m f (vck m f):=by
  by_cases q:(bK f).2≠0
  · rw [aKv (by omega) (by omega) q]; exact .err _ q rfl
  rcases aHE hv hz (by decide) with e|⟨g,e,e1,e2⟩
  · rw [e] at q; exact absurd (by decide) q
  have hS:SyM m f [] g:=⟨e1,fun t _ _=>e2 t 0⟩
  have hf:(vS m f).f=g:=by unfold vS; rw [e]
  have hE:enE g=0:=by unfold enE hoE; rw [if_neg (fun x=>x e1.v)]; rfl
  have hi: ¬fM [] (vS m f).s (vS m f).f=true:=by simp [fM]
  have mo:=fK hm
  have hw0:WdM m []:=fun k hk=>absurd hk (Nat.not_lt_zero _)
  cases hb:enB g with
  | false =>
    have hfd:fnd [] (vS m f)=(true,0):=by rw [rQ hi (.inr (by rw [hf]; exact hb)),hf,hE]; rfl
    rw [aJ6 (by omega) (by omega) q (.inr (by rw [hfd])),hfd]
    refine .bad [] ?_ hw0 (by rw [hS.fin]; exact hb) fun u _ hl=>absurd hl (Nat.not_lt_zero _)
    have h0:frE m m.s []=0:=by rw [aBJ hm]; exact aAC ⟨by omega,by omega⟩ (by simp) fun k hk=>absurd hk (Nat.not_lt_zero _)
    unfold aCV nN
    rw [h0]; rfl
  | true =>
    have hn:mH [] (vS m f):=vL hi (by rw [hf]; rintro (x|x); exact x hE; rw [hb] at x; cases x) (by simp)
    rw [aIr (by omega) (by omega) q (by rw [(fF hn).1]; simp),(fF hn).2]
    have n0:nth ([]++[vS m f]) 0=vS m f:=rfl
    have only: ∀ j,j < ([]++[vS m f]).length→j=0:=fun j hj=>by simp at hj; exact hj
    refine aFQ hm _ _ _ (by decide) ⟨by simp,fun j k hjk hk=>?_,fun j hj _=>?_,fun j hj=>?_,⟨by simp,rfl⟩,fun j b hjb=>by omega⟩
    · rw [only k hk,only j (by omega)]; exact Nat.le_refl _
    · rw [only j hj]; omega
    · rw [only j hj,n0,hf]
      exact ⟨hw0,rfl,hS,hb⟩
theorem aJe {i j:Nat} {w:List Int} {s:Int} (hij:i≤j) (hj:j≤w.length) (e:dW m s (w.take i)=dW m s (w.take j)):eY m s (w.take i++w.drop j)=(eY m s w).take i++(eY m s w).drop j:=by
  have h1:eY m s w=eY m s (w.take i)++eY m (dW m s (w.take i)) (w.drop i):=by rw [← iN,List.take_append_drop]
  have h2:eY m s w=eY m s (w.take j)++eY m (dW m s (w.take j)) (w.drop j):=by rw [← iN,List.take_append_drop]
  have l1:(eY m s (w.take i)).length=i:=by rw [iC,List.length_take]; omega
  have l2:(eY m s (w.take j)).length=j:=by rw [iC,List.length_take]; omega
  have t1:(eY m s w).take i=eY m s (w.take i):=by rw [h1]; exact List.take_left' l1
  have t2:(eY m s w).drop j=eY m (dW m s (w.take j)) (w.drop j):=by rw [h2]; exact List.drop_left' l2
  rw [iN,t1,t2,e]
theorem aIy {w:List Int} (hm:dM m=0) (hv:cX f=0) (hz:f.sz≤12) (h8:m.nx.length≤8) (h2:WdM m w) (h3:sat (vTr m w) f 0=false) (h4: ∀ u,WdM m u→u.length < w.length→sat (vTr m u) f 0=true):w.length≤1024:=by
  have mo:=fK hm
  have htk: ∀ q,WdM m (w.take q):=fun q=>WdM.left (v:=w.drop q) (by rw [List.take_append_drop]; exact h2)
  refine aEX (t:=vTr m w) (st:=fun q=>dW m m.s (w.take q)) (fB hv) hz rfl (iC m w m.s) (fun q _=>?_) h3 fun i j hij hj e=>?_
  · have:=tJ hm (w.take q) m.s mo.2.2.2.2.1 mo.2.2.2.2.2.1 (htk q)
    exact ⟨this.1,by omega⟩
  · have hc:aIb (vTr m w) i j=vTr m (w.take i++w.drop j):=by
      unfold aIb vTr
      rw [aJe (by omega) hj e]
    rw [hc]
    refine h4 _ (fun k hk=>?_) (by rw [List.length_append,List.length_take,List.length_drop]; omega)
    have hl:(w.take i++w.drop j).length=w.length - (j - i):=by rw [List.length_append,List.length_take,List.length_drop]; omega
    rw [hl] at hk
    rw [aBK (by omega) hj hk]
    split
    · exact h2 _ (by omega)
    · exact h2 _ (by omega)
theorem aLA {w:List Int} (hm:dM m=0) (h2:WdM m w) (hl:w.length≤1024):aCV m w=(vTr m w,true,0)∧frE m m.s w=0:=by
  have mo:=fK hm
  have hw:qB w m.i=0:=aAC ⟨by omega,by omega⟩ hl h2
  have h0:frE m m.s w=0:=by rw [aBJ hm]; exact hw
  refine ⟨?_,h0⟩
  unfold aCV vTr
  rw [h0,(aPx hm hw).2.1]; rfl
def dFx (m:M) (r:Tr×Bool×Int):Tr×Bool×Int:=if r.1.ni=[] then r else (vTr m r.1.ni,true,0)
theorem aMd {p:Pl} {a:Nat}:dFx m (aCV m (vNx m p a).w)=(vTr m (vNx m p a).w,true,0):=by
  unfold dFx
  rw [if_neg]; rfl
  show ¬(vNx m p a).w=[]
  rw [aAP]; simp
def eX (m:M) (f:Fm):Tr×Bool×Int:=dFx m (vck m f)
theorem aMm (h:aEG m f=true):eX m f=vck m f:=by
  unfold eX
  by_cases q1:dM m≠0
  · rw [aJh q1]; rfl
  by_cases q2:cX f≠0
  · rw [aIt q1 q2]; rfl
  have hm:dM m=0:=by omega
  have hv:cX f=0:=by omega
  have hz:=aQz h
  have h8:=(of_decide_eq_true h).1
  cases aOO hm hv hz with
  |err e _ h1=>rw [h1]; rfl
  |no h1 _=>rw [h1]; rfl
  | bad w h1 h2 h3 h4 =>
    have hl:=aIy hm hv hz h8 h2 h3 h4
    rw [h1,(aLA hm h2 hl).1]
    unfold dFx
    split
    · rfl
    · rfl
end
end Go.Proofs.YteehaobohaecmaaGreatDoor
namespace Go.Proofs.YteehaobohaecmaaGreatDoor
open Go
@[simp] theorem aPf (a:Pl):dL (cPl a)=true:=by simp [cPl]
@[simp] theorem aSc (a:Pl):eE (cPl a)=true:=by simp [cPl,eE,V.pure]
@[simp] theorem aN7 (l:List Pl):eH (l.map cPl)=true:=fY _ _ fun a=>by simp [cPl]
@[simp] theorem aOZ (l:List Pl):gN (l.map cPl)=true:=zP _ _ fun a=>by simp [cPl,eE,V.pure]
section
variable {m:M} {f g:Fm} {l:List Pl} {p q:Pl} {i a k:Nat} {s:Int}
theorem aLS (h:(decide ((nth l k).s=s)&&eA (nth l k).f f)=true) (hk:k < l.length):fM l s f=true:=by
  rw [Bool.and_eq_true,decide_eq_true_eq] at h
  unfold fM
  rw [List.any_eq_true]
  exact ⟨nth l k,by rw [← bR hk]; exact List.getElem_mem hk,by rw [decide_eq_true h.1,decide_eq_true ((fS _ _).1 h.2)]; rfl⟩
theorem aKI (h:(decide ((nth l k).s=s)&&eA (nth l k).f f)=false) (hk:k < l.length):fM (l.drop k) s f=fM (l.drop (k+1)) s f:=by
  have e:(decide ((nth l k).s=s)&&decide ((nth l k).f=f))=false:=by
    cases q:(decide ((nth l k).s=s)&&decide ((nth l k).f=f)) with
    |false=>rfl
    | true =>
      rw [Bool.and_eq_true,decide_eq_true_eq,decide_eq_true_eq] at q
      rw [decide_eq_true q.1,q.2,(fS _ _).2 rfl] at h; cases h
  unfold fM
  rw [cW hk,List.any_cons,e,Bool.false_or]
theorem aLq (h:l.length≤k):fM (l.drop k) s f=false:=by rw [List.drop_eq_nil_of_le h]; rfl
def srD (m:M) (g:Fm):Tr×Bool×Int:=if enE g≠0∨enB g=false then (zT,decide (enE g=0),enE g) else dFx m (mJ m (4097 - 0) 0 [⟨m.s,g,[]⟩])
theorem aN2 (h:enE g≠0∨enB g=false):srD m g=(zT,decide (enE g=0),enE g):=if_pos h
theorem aDW {r:Tr×Bool×Int} (h: ¬(enE g≠0∨enB g=false)) (e:mJ m (4097 - 0) 0 [⟨m.s,g,[]⟩]=r):srD m g=dFx m r:=by unfold srD; rw [if_neg h,e]
theorem aOI (h:dM m≠0):eX m f=(zT,false,dM m):=by unfold eX; rw [aJh h]; rfl
theorem aOD (h: ¬dM m≠0) (h1:cX f≠0):eX m f=(zT,false,cX f):=by unfold eX; rw [aIt h h1]; rfl
theorem aO7 (h: ¬dM m≠0) (h1: ¬cX f≠0) (h2:(bK f).2≠0):eX m f=(zT,false,(bK f).2):=by unfold eX; rw [aKv h h1 h2]; rfl
theorem aOS (h: ¬dM m≠0) (h1: ¬cX f≠0) (h2: ¬(bK f).2≠0):eX m f=srD m (bK f).1:=by
  have hi: ¬fM [] (vS m f).s (vS m f).f=true:=by simp [fM]
  unfold eX
  by_cases c:enE (bK f).1≠0∨enB (bK f).1=false
  · have hf:=rQ hi (q:=vS m f) c
    rw [aN2 c,aJ6 h h1 h2 (by rw [hf]; rcases c with c|c; exact .inl c; by_cases e:enE (vS m f).f=0; exact .inr (decide_eq_true e); exact .inl e),hf]
    rfl
  · have hn:mH [] (vS m f):=vL hi c (by simp)
    rw [aIr h h1 h2 (by rw [(fF hn).1]; simp),(fF hn).2,srD,if_neg c]
    rfl
structure PlD (m:M) (l:List Pl):Prop where
  ok:PlOK m l
  wd: ∀ j,j < l.length→WdM m (nth l j).w
theorem PlD.start (hm:dM m=0) (hv:cX g=0):PlD m [⟨m.s,g,[]⟩]:=by
  have mo:=fK hm
  refine ⟨⟨by simp,fun j hj=>?_⟩,fun j hj=>?_⟩
  · have:j=0:=by simp at hj; omega
    subst this
    exact ⟨mo.2.2.2.2.1,mo.2.2.2.2.2.1,hv,Nat.le_refl _⟩
  · have:j=0:=by simp at hj; omega
    subst this
    exact fun k hk=>absurd hk (Nat.not_lt_zero _)
theorem PlD.put (hm:dM m=0) (h:PlD m l) (hk:k < l.length) (ha:(a:Int) < m.i) (he: ¬vEr m (nth l k) a≠0) (hl: ¬4096≤l.length):PlD m (l++[vNx m (nth l k) a]):=by
  obtain ⟨a1,a2,a3,a4⟩:=h.ok.at_ k hk
  have hi:=aNf (by omega: ¬dM m≠0) a1 a2 ha
  have hv:cX (vNx m (nth l k) a).f=0:=wQ he
  have cs: ∀ j,j < (l++[vNx m (nth l k) a]).length→(j < l.length∧nth (l++[vNx m (nth l k) a]) j=nth l j)∨(j=l.length∧nth (l++[vNx m (nth l k) a]) j=vNx m (nth l k) a):=fun j hj=>by
    rw [List.length_append,List.length_singleton] at hj
    by_cases e:j < l.length
    · exact .inl ⟨e,mG e⟩
    · have e2:j=l.length:=by omega
      subst e2; exact .inr ⟨rfl,aC5⟩
  refine ⟨⟨by simp; omega,fun j hj=>?_⟩,fun j hj=>?_⟩
  · rcases cs j hj with ⟨j1,j2⟩|⟨j1,j2⟩
    · rw [j2]; exact h.ok.at_ j j1
    · rw [j2]; exact ⟨hi.1,hi.2,hv,by rw [aAP,List.length_append,List.length_singleton]; omega⟩
  · rcases cs j hj with ⟨j1,j2⟩|⟨j1,j2⟩
    · rw [j2]; exact h.wd j j1
    · rw [j2,aAP]; exact (h.wd k hk).snoc (by omega) ha
theorem WdM.cat1 {u:List Int} {b:Int} (h:WdM m u) (h0:0≤b) (h1:b < m.i):WdM m (cat [u,[b]]):=by
  rw [show cat [u,[b]]=u++[b] by simp [cat]]; exact h.snoc h0 h1
section
variable {n:Nat}
theorem aJ8 (h:a < n) (h1: ¬vEr m p a≠0) (h2:fM l (vNx m p a).s (vNx m p a).f=true):iS m p (n - a) a l=iS m p (n - (a+1)) (a+1) l:=by
  have e:=aGj h2
  rw [pN h h1 (by rw [e]; decide) (by rw [e]; decide),show lO l (vNx m p a)=l from if_pos (.inl h2)]
theorem aTn (h:a < n) (h1: ¬vEr m p a≠0) (h2: ¬fM l (vNx m p a).s (vNx m p a).f=true) (h3:enE (vNx m p a).f≠0):iS m p (n - a) a l=(some (zT,false,enE (vNx m p a).f),[]):=by
  have e:=rQ h2 (.inl h3)
  rw [aEI h h1 (by rw [e]; exact h3),e]
theorem aUA (h:a < n) (h1: ¬vEr m p a≠0) (h2: ¬fM l (vNx m p a).s (vNx m p a).f=true) (h3: ¬enE (vNx m p a).f≠0) (h4:enB (vNx m p a).f=false):iS m p (n - a) a l=(some (aCV m (vNx m p a).w),[]):=by
  have e:=rQ h2 (.inr h4)
  rw [aKm h h1 (by rw [e]; exact h3) (by rw [e]; exact decide_eq_true (Decidable.of_not_not h3))]
theorem aS5 (h:a < n) (h1: ¬vEr m p a≠0) (h2: ¬fM l (vNx m p a).s (vNx m p a).f=true) (h3: ¬enE (vNx m p a).f≠0) (h4: ¬enB (vNx m p a).f=false) (hl:l.length=4096):iS m p (n - a) a l=(some (zT,false,11),[]):=by
  have e:=aC1 h2 (by rintro (x|x); exact h3 x; exact h4 x) hl
  rw [aEI h h1 (by rw [e]; decide),e]
theorem aKO (h:a < n) (h1: ¬vEr m p a≠0) (h2: ¬fM l (vNx m p a).s (vNx m p a).f=true) (h3: ¬enE (vNx m p a).f≠0) (h4: ¬enB (vNx m p a).f=false) (hl: ¬l.length=4096):iS m p (n - a) a l=iS m p (n - (a+1)) (a+1) (l++[vNx m p a]):=by
  have e:=fF (vL h2 (by rintro (x|x); exact h3 x; exact h4 x) hl)
  rw [pN h h1 (by rw [e.1]; decide) (by rw [e.1]; decide),e.2]
end
def vaS (ck:Fm→Tr×Bool×Int):List Fm→List Tr→List Bool→List Tr×List Bool×Int
  |[],ts,bs=>(ts,bs,0)
  |f::l,ts,bs=>if (ck f).2.2≠0 then ([],[],(ck f).2.2) else vaS ck l (ts++[(ck f).1]) (bs++[(ck f).2.1])
def vaA (m:M) (ck:Fm→Tr×Bool×Int) (l:List Fm):List Tr×List Bool×Int:=if dM m≠0 then ([],[],dM m) else vaS ck l [] []
section
variable {ck:Fm→Tr×Bool×Int} {l:List Fm} {ts:List Tr} {bs:List Bool}
theorem aN0 (h:k < l.length) (h1:(ck (nth l k)).2.2≠0):vaS ck (l.drop k) ts bs=([],[],(ck (nth l k)).2.2):=by rw [cW h,vaS,if_pos h1]
theorem aIW (h:k < l.length) (h1: ¬(ck (nth l k)).2.2≠0):vaS ck (l.drop k) ts bs=vaS ck (l.drop (k+1)) (ts++[(ck (nth l k)).1]) (bs++[(ck (nth l k)).2.1]):=by rw [cW h,vaS,if_neg h1]
theorem aFN (h:l.length≤k):vaS ck (l.drop k) ts bs=(ts,bs,0):=by rw [List.drop_eq_nil_of_le h,vaS]
theorem aOe (h:dM m≠0):vaA m ck l=([],[],dM m):=if_pos h
theorem aFR (h: ¬dM m≠0) {r} (e:vaS ck l [] []=r):vaA m ck l=r:=by unfold vaA; rw [if_neg h,e]
theorem aIj {c2:Fm→Tr×Bool×Int}: ∀ {l:List Fm} {ts bs},(∀ j,j < l.length→c2 (nth l j)=ck (nth l j))→vaS c2 l ts bs=vaS ck l ts bs
  |[],_,_,_=>by rw [vaS,vaS]
  | f :: l, ts, bs, h => by
    have h0:c2 f=ck f:=h 0 (by simp)
    rw [vaS,vaS,h0,aIj (l:=l) fun j hj=>h (j+1) (by simpa using hj)]
theorem aRw (h: ∀ j,j < l.length→aEG m (nth l j)=true):vaA m (eX m) l=vaA m (vck m) l:=by
  unfold vaA
  rw [aIj fun j hj=>aMm (h j hj)]
end
theorem aF4 {ck:Fm→Tr×Bool×Int}: ∀ {l:List Fm} {ts bs},(vaS ck l ts bs).2.1.length≤bs.length+l.length
  |[],ts,bs=>by rw [vaS]; exact Nat.le_refl _
  | f :: l, ts, bs => by
    rw [vaS]
    split
    · exact Nat.zero_le _
    · have:=aF4 (ck:=ck) (l:=l) (ts:=ts++[(ck f).1]) (bs:=bs++[(ck f).2.1])
      rw [List.length_append,List.length_singleton] at this
      rw [List.length_cons]; omega
theorem aLx {ck:Fm→Tr×Bool×Int} {l:List Fm}:(vaA m ck l).2.1.length≤l.length:=by
  unfold vaA
  split
  · exact Nat.zero_le _
  · have:=aF4 (ck:=ck) (l:=l) (ts:=[]) (bs:=[])
    rw [List.length_nil] at this; omega
end
end Go.Proofs.YteehaobohaecmaaGreatDoor
namespace Go.Proofs.YteehaobohaecmaaGreatDoor
open Go Go.Proofs
theorem aHf (m:M) (l:List Fm) (hl4:l.length≤4):aQ Tryz.prog 26 [(V.agg [(iV (m.i)),(iV (m.s)),(aX m.nx),(aX m.ot)]),(V.sl (List.map cF (l)))] (V.tup [(V.sl (List.map cT ((vaA m (vck m) l).1))),(V.sl (List.map cB ((vaA m (vck m) l).2.1))),(iV ((vaA m (vck m) l).2.2))]):=by
 refine pW Tryz.func26 aPR fun hB=>?_
 unfold s26
 dsimp only
 refine W_r (cE (i:=2) (n:=0) (m:=4) (cs:=[(iV (m.i)),(iV (m.s)),(aX m.nx),(aX m.ot)]) rfl (congrArg Blk.ver rfl) rfl rfl rfl (aA rfl (aA rfl (aA rfl (R_e (aB (W_r ?_)))))))
 refine aJ rfl rfl rfl rfl (aI (pF m) rfl (aA rfl (R_e (aB (W_r (aA rfl (bZ rfl rfl ?_)))))))
 refine R_e ?_
 refine aH rfl (fun c1=>?_) fun c1=>?_
 ·
  have d1:=aOe (ck:=vck m) (l:=l) c1
  refine aB (W_r (aA rfl (aA rfl (aA rfl (aA rfl (R_e (aL ?_)))))))
  refine tN (@rfl V V.nilsl) (@rfl V V.nilsl) (@rfl V (iV (dM m))) (bT ?_) (bT ?_) (aE ?_)
  · rw [d1]; try rfl
  · rw [d1]; try rfl
  · rw [d1]; try rfl
 have a1:=c1
 refine aC (W_r (jV (i:=8) (n:=0) rfl (congrArg Blk.ver rfl) (R_e (W_r (jV (i:=9) (n:=0) rfl (congrArg Blk.ver rfl) (R_e (aB ?_)))))))
 refine W_r (aA rfl (bG rfl (aA rfl (R_e (aD fun Q2 n2 x2 y2 z2=>?_)))))
 refine bS (fun mm T H=> ∃ (k:Nat) (ts:List Tr) (bs:List Bool) (v1:Nat) (v2:Nat) (v11:Nat) (v12:Nat),mm=l.length - k∧T 2=(V.mp 2 1 0 0)∧T 8=(V.ms 8 v1 0 (ts.length))∧T 9=(V.ms 9 v2 0 (bs.length))∧T 20=(V.sl (List.map cF (l)))∧T 21=(iV ((l.length:Nat):Int))∧T 22=(iV ((k:Nat):Int))∧H 2=(bk 1 50 4 [[(iV (m.i)),(iV (m.s)),(aX m.nx),(aX m.ot)]])∧H 8=(bz v1 54 2 (List.map cT (ts)))∧H 9=(bz v2 4 1 (List.map cB (bs)))∧((H 11).ver=v11∧(H 11).live=false)∧((H 12).ver=v12∧(H 12).live=false)∧(k≤l.length)∧(ts.length=k∧bs.length=k)∧(vaS (vck m) l [] []=vaS (vck m) (l.drop k) ts bs)) ?_ ?_
 ·
  refine ⟨_,0,[],[],1,1,0,0,rfl,rfl,(Eq.trans (@rfl V (V.ms 8 1 0 (0))) (by first|rfl|simp)),(Eq.trans (@rfl V (V.ms 9 1 0 (0))) (by first|rfl|simp)),rfl,rfl,(Eq.trans (@rfl V (iV (0:Int))) rfl),rfl,(Eq.trans (@rfl Blk (bz 1 54 2 [])) (by first|rfl|simp)),(Eq.trans (@rfl Blk (bz 1 4 1 [])) (by first|rfl|simp)),⟨(congrArg Blk.ver rfl),congrArg Blk.live (@rfl Blk (⟨0,false,false,0,0,[]⟩:Blk))⟩,⟨(congrArg Blk.ver rfl),congrArg Blk.live (@rfl Blk (⟨0,false,false,0,0,[]⟩:Blk))⟩,?_,?_,?_⟩
  · exact Nat.zero_le _
  · exact ⟨rfl,rfl⟩
  · rfl
 intro mm T H ⟨k,ts,bs,v1,v2,v11,v12,hmm,t2,t8,t9,t20,t21,t22,h2,h8,h9,h11,h12,hk,hts,hc⟩ Q3 p13 p23 p33
 unfold aOa
 refine W_r (bM t22 t21 (R_e ?_))
 refine aH rfl (fun c4=>?_) fun c4=>?_
 ·
  refine aC (aD fun Q5 n5 x5 y5 z5=>(W_r (bU (i:=k) t20 t22 (by omega) (bN _) rfl (aG rfl rfl (aU (i:=11) (n:=v11) (m:=3) rfl (h11).1 rfl (bF rfl rfl rfl rfl rfl rfl rfl rfl rfl (R_e ?_)))))))
  refine W_r (aJ t2 h2 rfl rfl (aJ rfl rfl rfl rfl (aI (lJ m (((nth (l) (k))))) rfl (aA rfl (bH rfl rfl (bH rfl rfl (bH rfl rfl ?_)))))))
  refine aU (i:=12) (n:=v12) (m:=2) rfl (h12).1 rfl (bF rfl rfl rfl rfl rfl rfl rfl rfl rfl (aA rfl (aA rfl (R_e (aB (W_r (aA rfl ?_)))))))
  refine bZ rfl rfl (R_e ?_)
  refine aH rfl (fun c6=>?_) fun c6=>?_
  ·
   have d1:=aFR a1 (hc.trans (aN0 (by omega) c6))
   refine aB (W_r (aA rfl (aA rfl (aA rfl (aA rfl (R_e (aL ?_)))))))
   refine y5 _ _ (p23 _ _ (y2 _ _ ?_))
   refine tN (@rfl V V.nilsl) (@rfl V V.nilsl) (@rfl V (iV ((vck m (((nth (l) (k))))).2.2))) (bT ?_) (bT ?_) (aE ?_)
   · rw [d1]; try rfl
   · rw [d1]; try rfl
   · rw [d1]; try rfl
  have e1:=c6
  refine aC (W_t (aA t8 (aJ rfl rfl rfl rfl (aR rfl rfl (bX (l:=ts) (f:=cT) (x:=((vck m (((nth (l) (k))))).1)) (@rfl V (V.ms 8 v1 0 (ts.length))) h8 (by first|rfl|simp|omega) (@rfl V (V.sl [[(aZ ((vck m (((nth (l) (k))))).1.ni)),(aZ ((vck m (((nth (l) (k))))).1.no))]])) rfl rfl (by omega) (by omega) (aA t9 (aA rfl ?_)))))))
  refine aR rfl rfl (bX (l:=bs) (f:=cB) (x:=((vck m (((nth (l) (k))))).2.1)) (@rfl V (V.ms 9 v2 0 (bs.length))) h9 (by first|rfl|simp|omega) (@rfl V (V.sl [[(V.bool ((vck m (((nth (l) (k))))).2.1))]])) rfl rfl (by omega) (by omega) (aA rfl (aA rfl (R_e (n5 _ _ (cJ (R:=fun T H=>T 2=(V.mp 2 1 0 0)∧T 8=(V.ms 8 (v1+1) 0 (ts.length+1))∧T 9=(V.ms 9 (v2+1) 0 (bs.length+1))∧T 20=(V.sl (List.map cF (l)))∧T 21=(iV ((l.length:Nat):Int))∧T 22=(iV ((k:Nat):Int))∧H 2=(bk 1 50 4 [[(iV (m.i)),(iV (m.s)),(aX m.nx),(aX m.ot)]])∧H 8=(bz (v1+1) 54 2 (List.map cT (ts++[(vck m (((nth (l) (k))))).1])))∧H 9=(bz (v2+1) 4 1 (List.map cB (bs++[(vck m (((nth (l) (k))))).2.1])))∧H 11=(bk (v11+1) 24 3 [(rFq (nth (l) (k)))])∧H 12=(bk (v12+1) 54 2 [[(aZ ((vck m (((nth (l) (k))))).1.ni)),(aZ ((vck m (((nth (l) (k))))).1.no))]])∧True) ⟨t2,(@rfl V (V.ms 8 (v1+1) 0 (ts.length+1))),(@rfl V (V.ms 9 (v2+1) 0 (bs.length+1))),t20,t21,t22,h2,rfl,rfl,rfl,rfl,trivial⟩ ?_))))))
  intro T H ⟨t2,t8,t9,t20,t21,t22,h2,h8,h9,h11,h12,_⟩
  refine .freeze 12 (cJ (R:=fun T H=>T 2=(V.mp 2 1 0 0)∧T 8=(V.ms 8 (v1+1) 0 (ts.length+1))∧T 9=(V.ms 9 (v2+1) 0 (bs.length+1))∧T 20=(V.sl (List.map cF (l)))∧T 21=(iV ((l.length:Nat):Int))∧T 22=(iV ((k:Nat):Int))∧H 2=(bk 1 50 4 [[(iV (m.i)),(iV (m.s)),(aX m.nx),(aX m.ot)]])∧H 8=(bz (v1+1) 54 2 (List.map cT (ts++[(vck m (((nth (l) (k))))).1])))∧H 9=(bz (v2+1) 4 1 (List.map cB (bs++[(vck m (((nth (l) (k))))).2.1])))∧H 11=(bk (v11+1) 24 3 [(rFq (nth (l) (k)))])∧((H 12).ver=v12+1∧(H 12).live=false)∧True) ⟨(bW t2 rfl),(bW t8 (gW (by decide))),(bW t9 (gW (by decide))),(bW t20 rfl),(bW t21 rfl),(bW t22 rfl),(bQ h2 (by decide)),(bQ h8 (by decide)),(bQ h9 (by decide)),(bQ h11 (by decide)),(dZ (congrArg Blk.ver h12)),trivial⟩ ?_)
  intro T H ⟨t2,t8,t9,t20,t21,t22,h2,h8,h9,h11,h12,_⟩
  refine .freeze 11 (.done ?_)
  refine cJ (R:=fun T H=>T 2=(V.mp 2 1 0 0)∧T 8=(V.ms 8 (v1+1) 0 (ts.length+1))∧T 9=(V.ms 9 (v2+1) 0 (bs.length+1))∧T 20=(V.sl (List.map cF (l)))∧T 21=(iV ((l.length:Nat):Int))∧T 22=(iV ((k:Nat):Int))∧H 2=(bk 1 50 4 [[(iV (m.i)),(iV (m.s)),(aX m.nx),(aX m.ot)]])∧H 8=(bz (v1+1) 54 2 (List.map cT (ts++[(vck m (((nth (l) (k))))).1])))∧H 9=(bz (v2+1) 4 1 (List.map cB (bs++[(vck m (((nth (l) (k))))).2.1])))∧((H 11).ver=v11+1∧(H 11).live=false)∧((H 12).ver=v12+1∧(H 12).live=false)∧True) ⟨(bW t2 rfl),(bW t8 (gW (by decide))),(bW t9 (gW (by decide))),(bW t20 rfl),(bW t21 rfl),(bW t22 rfl),(bQ h2 (by decide)),(bQ h8 (by decide)),(bQ h9 (by decide)),(dZ (congrArg Blk.ver h11)),(iQ h12),trivial⟩ ?_
  intro T H ⟨t2,t8,t9,t20,t21,t22,h2,h8,h9,h11,h12,_⟩
  refine W_t (bB t22 (@rfl V (iV ((1:Nat):Int))) (by omega) (aA rfl (R_e ?_)))
  refine p13 _ _ _ ?_ ⟨(k+1),(ts++[(vck m (((nth (l) (k))))).1]),(bs++[(vck m (((nth (l) (k))))).2.1]),(v1+1),(v2+1),(v11+1),(v12+1),rfl,t2,(Eq.trans t8 (by first|rfl|simp)),(Eq.trans t9 (by first|rfl|simp)),t20,t21,(Eq.trans (@rfl V (iV ((k+1:Nat):Int))) (by first|rfl|simp)),h2,(Eq.trans h8 (by first|rfl|simp)),(Eq.trans h9 (by first|rfl|simp)),h11,h12,?_,?_,?_⟩
  · omega
  · omega
  · exact ⟨by rw [List.length_append,hts.1]; rfl,by rw [List.length_append,hts.2]; rfl⟩
  · exact hc.trans (aIW (by omega) e1)
 have d1:=aFR a1 (hc.trans (aFN (by omega)))
 refine aN (p33 _ _ _ (x2 _ _ (.done (W_r (aA t8 (aA t9 (aA rfl ?_)))))))
 refine aA rfl (aA rfl (R_e (aO ?_)))
 refine tN (@rfl V (V.ms 8 v1 0 (ts.length))) (@rfl V (V.ms 9 v2 0 (bs.length))) (@rfl V (iV (0:Int))) (gL h8 (by first|rfl|simp) (l:=ts) rfl (by first|rfl|simp|omega) (fun _=>by simp) ?_) (gL h9 (by first|rfl|simp) (l:=bs) rfl (by first|rfl|simp|omega) (fun _=>by simp) ?_) (aE ?_)
 · rw [d1]; try rfl
 · rw [d1]; try rfl
 · rw [d1]; try rfl
def aUs:List SO:=[
 qL 26 4 2,
 qM 27 1,
 qM 28 10,
 qA 29 3 27 28,
 qL 30 3 29,
 sO 31 (.call false 24 [.t 26,.t 30]),
 qM 25 31,
 qE 32 25 0,
 qE 33 25 1,
 qE 34 25 2,
 sO 11 (.alloc 54 [.nilsl,.nilsl]),
 sN (.store 2 (.t 11) (.t 32)),
 qM 12 33,
 qM 13 34]
def aOs:SC:=.seq (.seq (.reg [qM 19 10,qM 20 1,qN 21 20,qP 22 .lss 19 21]) (.cond (.t 22) (.skip) (.exit 0))) (.seq (.block 1 (.seq (.dreg [11] aUs) (.seq (.seq (.reg [qM 35 13,qC 36 .neq 35 0]) (.cond (.t 36) (.seq (.reg [qM 37 13,sO 4 (.mv (.c (.nilsl))),sO 5 (.mv (.c (.nilsl))),qM 6 37]) (.ret)) (.skip))) (.seq (.reg [qM 38 8,qL 39 2 11,sO 40 (.bslice 54 2 false [.nilsl,.nilsl] 1 [(0,.t 39)]),sO 41 (.append 54 2 48 (.t 38) (.t 40)),qM 8 41]) (.reg [qM 42 9,qM 43 12,sO 44 (.bslice 4 1 false [.bool false] 1 [(0,.t 43)]),sO 45 (.append 4 1 1 (.t 42) (.t 44)),qM 9 45]))))) (.reg [qM 23 10,qC 24 .add 23 1,qM 10 24]))
def s27:SF:=⟨48,[.tmp 4,.tmp 5,.tmp 6],.seq (.reg [sO 2 (.box 50 4 (.t 0)),sO 4 (.mv (.c (.nilsl))),sO 5 (.mv (.c (.nilsl))),qI 6 0]) (.seq (.seq (.reg [qL 14 4 2,sO 15 (.call false 53 [.t 14]),qM 7 15]) (.seq (.reg [qM 16 7,qC 17 .neq 16 0]) (.cond (.t 17) (.seq (.reg [qM 18 7,sO 4 (.mv (.c (.nilsl))),sO 5 (.mv (.c (.nilsl))),qM 6 18]) (.ret)) (.skip)))) (.seq (.reg [sO 8 (.lazy 54 2)]) (.seq (.reg [sO 9 (.lazy 4 1)]) (.seq (.seq (.reg [qI 10 0]) (.block 0 (.loop aOs))) (.seq (.reg [qM 46 8,qM 47 9,qM 4 46,qM 5 47,qI 6 0]) (.ret))))))⟩
theorem aQ3:bJ Tryz.prog ⟨oEq,[8,9],[],[]⟩ Tryz.f27=some s27:=by kernel_rfl
def aTk:List SO:=[
 qL 24 3 3,
 sO 25 (.call false 12 [.t 24]),
 qM 23 25,
 qE 26 23 0,
 qE 27 23 1,
 sO 9 (.alloc 24 zFq),
 sN (.store 3 (.t 9) (.t 26)),
 qM 10 27]
def aQx:List SO:=[
 qL 32 4 2,
 qL 33 3 9,
 sO 34 (.call false 54 [.t 32,.t 33]),
 qE 35 34 0,
 qE 36 34 1,
 qE 37 34 2,
 sN (.store 2 (.t 4) (.t 35)),
 qM 5 36,
 qM 6 37]
def s24:SF:=⟨38,[.cell 4 true 2,.tmp 5,.tmp 6],.seq (.reg [sO 2 (.box 50 4 (.t 0)),sO 3 (.box 24 3 (.t 1)),sO 4 (.alloc 54 [.nilsl,.nilsl]),sO 5 (.mv (.c (.bool false))),qI 6 0]) (.seq (.seq (.reg [qL 11 4 2,sO 12 (.call false 53 [.t 11]),qM 7 12]) (.seq (.reg [qM 13 7,qC 14 .neq 13 0]) (.cond (.t 14) (.seq (.reg [sO 15 (.build [.nilsl,.nilsl] []),qM 16 7,sN (.store 2 (.t 4) (.t 15)),sO 5 (.mv (.c (.bool false))),qM 6 16]) (.ret)) (.skip)))) (.seq (.seq (.reg [qL 17 3 3,sO 18 (.call false 28 [.t 17]),qM 8 18]) (.seq (.reg [qM 19 8,qC 20 .neq 19 0]) (.cond (.t 20) (.seq (.reg [sO 21 (.build [.nilsl,.nilsl] []),qM 22 8,sN (.store 2 (.t 4) (.t 21)),sO 5 (.mv (.c (.bool false))),qM 6 22]) (.ret)) (.skip)))) (.seq (.reg aTk) (.seq (.seq (.reg [qM 28 10,qC 29 .neq 28 0]) (.cond (.t 29) (.seq (.reg [sO 30 (.build [.nilsl,.nilsl] []),qM 31 10,sN (.store 2 (.t 4) (.t 30)),sO 5 (.mv (.c (.bool false))),qM 6 31]) (.ret)) (.skip))) (.seq (.reg aQx) (.ret))))))⟩
theorem aQK:bJ Tryz.prog ⟨oEq,[],[],[]⟩ Tryz.f24=some s24:=by kernel_rfl
def aT3:List SO:=[
 qL 10 3 1,
 sO 11 (.call false 39 [.t 10,.c (.bool false)]),
 sO 12 (.call false 38 [.t 11]),
 qE 13 12 0,
 qE 14 12 1,
 sN (.store 3 (.t 2) (.t 13)),
 qM 3 14]
def s12:SF:=⟨15,[.cell 2 true 3,.tmp 3],.seq (.reg [sO 1 (.box 24 3 (.t 0)),sO 2 (.alloc 24 zFq),qI 3 0]) (.seq (.seq (.reg [qL 4 3 1,sO 5 (.call false 28 [.t 4]),qC 6 .neq 5 0]) (.cond (.t 6) (.seq (.reg [sO 7 (.build zFq []),qL 8 3 1,sO 9 (.call false 28 [.t 8]),sN (.store 3 (.t 2) (.t 7)),qM 3 9]) (.ret)) (.skip))) (.seq (.reg aT3) (.ret)))⟩
theorem aQ0:bJ Tryz.prog ⟨oEq,[],[],[]⟩ Tryz.f12=some s12:=by kernel_rfl
def aT8:List SO:=[
 qL 6 3 1,
 sO 7 (.call false 55 [.t 6,.c (.int .i64 1),.c (.int .i64 0)]),
 qM 5 7,
 qE 8 5 0,
 qE 9 5 1,
 qM 3 8,
 qM 4 9]
def s28:SF:=⟨11,[.tmp 2],.seq (.reg [sO 1 (.box 24 3 (.t 0)),qI 2 0]) (.seq (.reg aT8) (.seq (.reg [qM 10 4,qM 2 10]) (.ret)))⟩
theorem aRJ:bJ Tryz.prog ⟨oEq,[],[],[]⟩ Tryz.f28=some s28:=by kernel_rfl
def aQe:List SO:=[
 qF 37 2 3,
 ql 38 37,
 qM 39 9,
 qA 40 3 38 39,
 qL 41 3 40,
 qM 42 1,
 qC 43 .add 42 1,
 qM 44 8,
 sO 45 (.call false 55 [.t 41,.t 43,.t 44]),
 qM 36 45,
 qE 46 36 0,
 qE 47 36 1,
 qM 10 46,
 qM 11 47]
def aNI:SC:=.seq (.seq (.reg [qM 29 9,qF 30 2 3,ql 31 30,qN 32 31,qP 33 .lss 29 32]) (.cond (.t 33) (.skip) (.exit 1))) (.seq (.block 2 (.seq (.reg aQe) (.seq (.seq (.reg [qM 48 11,qC 49 .neq 48 0]) (.cond (.t 49) (.seq (.reg [qM 50 10,qM 51 11,qM 6 50,qM 7 51]) (.ret)) (.skip))) (.reg [qM 52 10,qM 8 52])))) (.reg [qM 34 9,qC 35 .add 34 1,qM 9 35]))
def s55:SF:=⟨54,[.tmp 6,.tmp 7],.seq (.reg [sO 3 (.box 24 3 (.t 0)),qI 6 0,qI 7 0]) (.seq (.reg [qM 12 2,qC 13 .add 12 1,qM 8 13]) (.seq (.block 0 (.seq (.reg [qM 15 8,qC 16 .gtr 15 4096,qM 14 16]) (.cond (.t 14) (.seq (.reg [qM 17 8,qM 6 17,qI 7 11]) (.ret)) (.seq (.reg [qM 19 1,qC 20 .gtr 19 64,qM 18 20]) (.cond (.t 18) (.seq (.reg [qM 21 8,qM 6 21,qI 7 16]) (.ret)) (.seq (.reg [qL 23 3 3,sO 24 (.call false 79 [.t 23]),qC 25 .neq 24 0,qM 22 25]) (.cond (.t 22) (.seq (.reg [qM 26 8,qL 27 3 3,sO 28 (.call false 79 [.t 27]),qM 6 26,qM 7 28]) (.ret)) (.skip)))))))) (.seq (.seq (.reg [qI 9 0]) (.block 1 (.loop aNI))) (.seq (.reg [qM 53 8,qM 6 53,qI 7 0]) (.ret)))))⟩
theorem aQr:bJ Tryz.prog ⟨oEq,[],[],[]⟩ Tryz.f55=some s55:=by kernel_rfl
def aQj:List SO:=[
 qF 33 0 1,
 ql 34 33,
 qC 35 .eql 34 2,
 qM 36 35,
 ⟨some (36,false),some 37,.fld 0 (.t 1)⟩,
 ⟨some (36,false),some 38,.load false 1 (.t 37)⟩,
 ⟨some (36,false),some 39,.bin .eql (.t 38) (.c (.int .i64 3))⟩,
 sO 40 (.pick (.t 36) (.c (.bool true)) (.t 39)),
 qM 5 40]
def aRB:List SO:=[
 qM 42 4,
 sO 43 (.un .not (.t 42)),
 qM 44 43,
 ⟨some (44,false),some 45,.mv (.t 5)⟩,
 ⟨some (44,false),some 46,.un .not (.t 45)⟩,
 ⟨some (44,false),some 47,.mv (.t 46)⟩,
 ⟨some (47,true),some 48,.fld 1 (.t 1)⟩,
 ⟨some (47,true),some 49,.load false 1 (.t 48)⟩,
 ⟨some (47,true),some 50,.bin .neq (.t 49) (.c (.int .i64 0))⟩,
 ⟨some (44,false),some 51,.pick (.t 47) (.t 50) (.c (.bool false))⟩,
 sO 52 (.pick (.t 44) (.c (.bool true)) (.t 51)),
 qM 41 52]
def aRc:List SO:=[
 qF 54 0 1,
 ql 55 54,
 qC 56 .eql 55 2,
 qM 57 56,
 ⟨some (57,true),some 58,.fld 1 (.t 1)⟩,
 ⟨some (57,true),some 59,.load false 1 (.t 58)⟩,
 ⟨some (57,true),some 60,.bin .lss (.t 59) (.c (.int .i64 0))⟩,
 ⟨some (57,true),some 61,.mv (.t 60)⟩,
 ⟨some (61,false),some 62,.fld 1 (.t 1)⟩,
 ⟨some (61,false),some 63,.load false 1 (.t 62)⟩,
 ⟨some (61,false),some 64,.bin .geq (.t 63) (.c (.int .i64 64))⟩,
 ⟨some (57,true),some 65,.pick (.t 61) (.c (.bool true)) (.t 64)⟩,
 sO 66 (.pick (.t 57) (.t 65) (.c (.bool false))),
 qM 53 66]
def aQw:List SO:=[
 qF 67 0 1,
 ql 68 67,
 qC 69 .eql 68 3,
 qM 70 69,
 ⟨some (70,true),some 71,.fld 1 (.t 1)⟩,
 ⟨some (70,true),some 72,.load false 1 (.t 71)⟩,
 ⟨some (70,true),some 73,.bin .lss (.t 72) (.c (.int .i64 0))⟩,
 ⟨some (70,true),some 74,.mv (.t 73)⟩,
 ⟨some (74,false),some 75,.fld 1 (.t 1)⟩,
 ⟨some (74,false),some 76,.load false 1 (.t 75)⟩,
 ⟨some (74,false),some 77,.bin .gtr (.t 76) (.c (.int .i64 1048576))⟩,
 ⟨some (70,true),some 78,.pick (.t 74) (.c (.bool true)) (.t 77)⟩,
 sO 79 (.pick (.t 70) (.t 78) (.c (.bool false))),
 qM 53 79]
def s79:SF:=⟨80,[.tmp 2],.seq (.reg [sO 1 (.box 24 3 (.t 0)),qI 2 0]) (.seq (.reg [qF 6 2 1,ql 7 6,qN 8 7,qM 3 8]) (.seq (.reg [sO 4 (.mv (.c (.bool false)))]) (.seq (.seq (.reg [qF 9 0 1,ql 10 9]) (.block 0 (.seq (.seq (.reg [qC 12 .eql 10 1,qM 11 12]) (.cond (.t 11) (.skip) (.seq (.reg [qC 13 .eql 10 2,qM 11 13]) (.cond (.t 11) (.skip) (.reg [qC 14 .eql 10 3,qM 11 14]))))) (.cond (.t 11) (.reg [qM 15 3,qC 16 .eql 15 0,qM 4 16]) (.seq (.seq (.reg [qC 18 .eql 10 4,qM 17 18]) (.cond (.t 17) (.skip) (.seq (.reg [qC 19 .eql 10 7,qM 17 19]) (.cond (.t 17) (.skip) (.reg [qC 20 .eql 10 9,qM 17 20]))))) (.cond (.t 17) (.reg [qM 21 3,qC 22 .eql 21 1,qM 4 22]) (.seq (.seq (.reg [qC 24 .eql 10 5,qM 23 24]) (.cond (.t 23) (.skip) (.reg [qC 25 .eql 10 6,qM 23 25]))) (.cond (.t 23) (.reg [qM 26 3,qC 27 .geq 26 2,qM 4 27]) (.seq (.seq (.reg [qC 29 .eql 10 8,qM 28 29]) (.cond (.t 28) (.skip) (.reg [qC 30 .eql 10 10,qM 28 30]))) (.cond (.t 28) (.reg [qM 31 3,qC 32 .eql 31 2,qM 4 32]) (.skip))))))))))) (.seq (.reg aQj) (.seq (.block 1 (.seq (.reg aRB) (.cond (.t 41) (.seq (.reg [qI 2 1]) (.ret)) (.seq (.seq (.reg aRc) (.cond (.t 53) (.skip) (.reg aQw))) (.cond (.t 53) (.seq (.reg [qI 2 2]) (.ret)) (.skip)))))) (.seq (.reg [qI 2 0]) (.ret)))))))⟩
theorem aPe:bJ Tryz.prog ⟨oEq,[],[],[]⟩ Tryz.f79=some s79:=by kernel_rfl
end Go.Proofs.YteehaobohaecmaaGreatDoor
namespace Go.Proofs.YteehaobohaecmaaGreatDoor
open Go
def nE (f:Fm):Bool:=if f.op=1∨f.op=2∨f.op=3 then decide ((f.kids.length:Int)=0) else if f.op=4∨f.op=7∨f.op=9 then decide ((f.kids.length:Int)=1) else if f.op=5∨f.op=6 then decide (2≤(f.kids.length:Int)) else if f.op=8∨f.op=10 then decide ((f.kids.length:Int)=2) else false
section
variable {f:Fm}
theorem aFx (h:f.op=1∨f.op=2∨f.op=3):nE f=decide ((f.kids.length:Int)=0):=if_pos h
theorem aGm (h:f.op=4∨f.op=7∨f.op=9):nE f=decide ((f.kids.length:Int)=1):=by unfold nE; rw [if_neg (by omega),if_pos h]
theorem aI0 (h:f.op=5∨f.op=6):nE f=decide (2≤(f.kids.length:Int)):=by unfold nE; rw [if_neg (by omega),if_neg (by omega),if_pos h]
theorem aIQ (h:f.op=8∨f.op=10):nE f=decide ((f.kids.length:Int)=2):=by unfold nE; rw [if_neg (by omega),if_neg (by omega),if_neg (by omega),if_pos h]
theorem aNr (h: ¬(1≤f.op∧f.op≤10)):nE f=false:=by unfold nE; rw [if_neg (by omega),if_neg (by omega),if_neg (by omega),if_neg (by omega)]
theorem aFM:nE f=true↔ ¬(f.op < 1∨10 < f.op∨(f.kids.length:Int) < kLo f.op∨(0≤kHi f.op∧kHi f.op < f.kids.length)):=by
  by_cases h:1≤f.op∧f.op≤10
  · have hc:(f.op=1∨f.op=2∨f.op=3)∨(f.op=4∨f.op=7∨f.op=9)∨(f.op=5∨f.op=6)∨(f.op=8∨f.op=10):=by omega
    rcases hc with q|q|q|q
    · rw [aFx q,decide_eq_true_eq]; simp only [kLo,kHi]; repeat (first|omega|split)
    · rw [aGm q,decide_eq_true_eq]; simp only [kLo,kHi]; repeat (first|omega|split)
    · rw [aI0 q,decide_eq_true_eq]; simp only [kLo,kHi]; repeat (first|omega|split)
    · rw [aIQ q,decide_eq_true_eq]; simp only [kLo,kHi]; repeat (first|omega|split)
  · rw [aNr h]
    constructor
    · intro e; cases e
    · intro e; exact absurd (by omega) e
theorem aPr (h:nE f=false∨(¬(f.op=2∨f.op=3)∧f.arg≠0)):rgt f=1:=by
  unfold rgt
  rw [if_pos]
  rcases h with h|h
  · have: ¬nE f=true:=by rw [h]; decide
    rw [aFM] at this
    have:=Decidable.of_not_not this
    omega
  · omega
theorem aQl (h: ¬(nE f=false∨(¬(f.op=2∨f.op=3)∧f.arg≠0))):rgt f=if (f.op=2∧(f.arg < 0∨64≤f.arg))∨(f.op=3∧(f.arg < 0∨1048576 < f.arg)) then 2 else 0:=by
  unfold rgt
  rw [if_neg]
  have h1:nE f=true:=by
    cases q:nE f with
    |true=>rfl
    |false=>exact absurd (.inl q) h
  have:=aFM.1 h1
  have h2: ¬(¬(f.op=2∨f.op=3)∧f.arg≠0):=fun e=>h (.inr e)
  omega
end
end Go.Proofs.YteehaobohaecmaaGreatDoor
namespace Go.Proofs.YteehaobohaecmaaGreatDoor
open Go Go.Proofs
theorem vM (f:Fm):aQ Tryz.prog 79 [(V.agg (rFq f))] (iV (rgt f)):=by
 refine pW Tryz.func79 aPe fun hB=>?_
 unfold s79
 dsimp only
 refine W_r (cE (i:=1) (n:=0) (m:=3) (cs:=(rFq f)) rfl (cVq rfl) rfl rfl rfl (aA rfl (R_e (W_r (aM rfl rfl (aJ rfl rfl rfl rfl (bG rfl ?_)))))))
 refine aA rfl (R_e (W_r (aA rfl (R_e (aB (W_r (aM rfl rfl ?_)))))))
 refine aJ rfl rfl rfl rfl (R_e ?_)
 refine aBX (fun T H=>T 1=(mPq 1)∧T 4=(V.bool (nE f))∧H 1=(bFq f)∧True) (fun Q1 n1 x1 y1 z1=>?_) ?_
 ·
  refine aB (W_r (aY rfl rfl (aA rfl (R_e ?_))))
  refine aH rfl (fun c2=>?_) fun c2=>?_
  ·
   refine aC ?_
   refine cD rfl (fun c3=>?_) fun c3=>?_
   ·
    refine W_t (aA rfl (aY rfl rfl (aA rfl (R_e ?_))))
    exact n1 _ _ ⟨rfl,(eTq (rVq (V.bool (decide (((f.kids.length:Nat):Int)=(0:Int))))) (by (rw [aFx (by omega)]; done))),rfl,trivial⟩
   · exact (c3 c2).elim
  refine aB (W_r (aY rfl rfl (aA rfl (R_e ?_))))
  refine aH rfl (fun c4=>?_) fun c4=>?_
  ·
   refine aC ?_
   refine cD rfl (fun c5=>?_) fun c5=>?_
   ·
    refine W_t (aA rfl (aY rfl rfl (aA rfl (R_e ?_))))
    exact n1 _ _ ⟨rfl,(eTq (rVq (V.bool (decide (((f.kids.length:Nat):Int)=(0:Int))))) (by (rw [aFx (by omega)]; done))),rfl,trivial⟩
   · exact (c5 c4).elim
  refine W_r (aY rfl rfl (aA rfl (R_e ?_)))
  refine cD rfl (fun c6=>?_) fun c6=>?_
  ·
   refine W_t (aA rfl (aY rfl rfl (aA rfl (R_e ?_))))
   exact n1 _ _ ⟨rfl,(eTq (rVq (V.bool (decide (((f.kids.length:Nat):Int)=(0:Int))))) (by (rw [aFx (by omega)]; done))),rfl,trivial⟩
  refine aB (W_r (aY rfl rfl (aA rfl (R_e ?_))))
  refine aH rfl (fun c7=>?_) fun c7=>?_
  ·
   refine aC ?_
   refine cD rfl (fun c8=>?_) fun c8=>?_
   ·
    refine W_t (aA rfl (aY rfl rfl (aA rfl (R_e ?_))))
    exact n1 _ _ ⟨rfl,(eTq (rVq (V.bool (decide (((f.kids.length:Nat):Int)=(1:Int))))) (by (rw [aGm (by omega)]; done))),rfl,trivial⟩
   · exact (c8 c7).elim
  refine aB (W_r (aY rfl rfl (aA rfl (R_e ?_))))
  refine aH rfl (fun c9=>?_) fun c9=>?_
  ·
   refine aC ?_
   refine cD rfl (fun c10=>?_) fun c10=>?_
   ·
    refine W_t (aA rfl (aY rfl rfl (aA rfl (R_e ?_))))
    exact n1 _ _ ⟨rfl,(eTq (rVq (V.bool (decide (((f.kids.length:Nat):Int)=(1:Int))))) (by (rw [aGm (by omega)]; done))),rfl,trivial⟩
   · exact (c10 c9).elim
  refine W_r (aY rfl rfl (aA rfl (R_e ?_)))
  refine cD rfl (fun c11=>?_) fun c11=>?_
  ·
   refine W_t (aA rfl (aY rfl rfl (aA rfl (R_e ?_))))
   exact n1 _ _ ⟨rfl,(eTq (rVq (V.bool (decide (((f.kids.length:Nat):Int)=(1:Int))))) (by (rw [aGm (by omega)]; done))),rfl,trivial⟩
  refine aB (W_r (aY rfl rfl (aA rfl (R_e ?_))))
  refine aH rfl (fun c12=>?_) fun c12=>?_
  ·
   refine aC ?_
   refine cD rfl (fun c13=>?_) fun c13=>?_
   ·
    refine W_t (aA rfl (jN rfl rfl (aA rfl (R_e ?_))))
    exact n1 _ _ ⟨rfl,(eTq (rVq (V.bool (decide ((2:Int)≤((f.kids.length:Nat):Int))))) (by (rw [aI0 (by omega)]; done))),rfl,trivial⟩
   · exact (c13 c12).elim
  refine W_r (aY rfl rfl (aA rfl (R_e ?_)))
  refine cD rfl (fun c14=>?_) fun c14=>?_
  ·
   refine W_t (aA rfl (jN rfl rfl (aA rfl (R_e ?_))))
   exact n1 _ _ ⟨rfl,(eTq (rVq (V.bool (decide ((2:Int)≤((f.kids.length:Nat):Int))))) (by (rw [aI0 (by omega)]; done))),rfl,trivial⟩
  refine aB (W_r (aY rfl rfl (aA rfl (R_e ?_))))
  refine aH rfl (fun c15=>?_) fun c15=>?_
  ·
   refine aC ?_
   refine cD rfl (fun c16=>?_) fun c16=>?_
   ·
    refine W_t (aA rfl (aY rfl rfl (aA rfl (R_e ?_))))
    exact n1 _ _ ⟨rfl,(eTq (rVq (V.bool (decide (((f.kids.length:Nat):Int)=(2:Int))))) (by (rw [aIQ (by omega)]; done))),rfl,trivial⟩
   · exact (c16 c15).elim
  refine W_r (aY rfl rfl (aA rfl (R_e ?_)))
  refine cD rfl (fun c17=>?_) fun c17=>?_
  ·
   refine W_t (aA rfl (aY rfl rfl (aA rfl (R_e ?_))))
   exact n1 _ _ ⟨rfl,(eTq (rVq (V.bool (decide (((f.kids.length:Nat):Int)=(2:Int))))) (by (rw [aIQ (by omega)]; done))),rfl,trivial⟩
  refine cM ?_
  exact n1 _ _ ⟨rfl,(eTq (rVq (V.bool false)) (by (rw [aNr (by omega)]; done))),rfl,trivial⟩
 intro T H ⟨t1,t4,h1,_⟩
 refine W_r (aM t1 h1 (aJ rfl h1 rfl rfl (aY rfl rfl (aA rfl ?_))))
 refine aV 4 (fun T H=>T 1=(mPq 1)∧T 4=(V.bool (nE f))∧T 40=(V.bool (decide ((f.op=(2:Int))∨(f.op=(3:Int)))))∧H 1=(bFq f)∧True) ?_ ?_
 ·
  by_cases g18:f.op=(2:Int)
  ·
   refine G_n (edT g18 rfl) (G_n (edT g18 rfl) (G_n (edT g18 rfl) (aS (edT g18 rfl) rfl ?_)))
   exact ⟨t1,t4,(cQ g18),h1,trivial⟩
  ·
   refine aF (edF g18 rfl) (aM t1 h1 (aF (edF g18 rfl) (aJ rfl h1 rfl rfl (aF (edF g18 rfl) (aY rfl rfl (aT (edF g18 rfl) rfl ?_))))))
   exact ⟨t1,t4,(cR g18),h1,trivial⟩
 intro T H ⟨t1,t4,t40,h1,_⟩
 refine aA t40 (R_e (aD fun Q19 n19 x19 y19 z19=>(W_r (aA t4 (eN rfl (aA rfl ?_))))))
 refine aV 8 (fun T H=>T 1=(mPq 1)∧T 52=(V.bool ((!nE f)||decide ((¬((f.op=(2:Int))∨(f.op=(3:Int))))∧(f.arg≠(0:Int)))))∧H 1=(bFq f)∧True) ?_ ?_
 ·
  by_cases g20:(!nE f)=true
  ·
   refine G_n (ebT g20 rfl) (G_n (ebT g20 rfl) (G_n (ebT g20 rfl) (eZ (rVq (V.raw undef)) (eZ (rVq (V.raw undef)) (eZ (rVq (V.raw undef)) (G_n (ebT g20 rfl) (aS (ebT g20 rfl) rfl ?_)))))))
   exact ⟨t1,(aL5 g20),h1,trivial⟩
  ·
   refine aF (ebF g20 rfl) (aA rfl (aF (ebF g20 rfl) (vP rfl (aF (ebF g20 rfl) (aA rfl ?_)))))
   refine aV 4 (fun T H=>T 1=(mPq 1)∧T 44=(V.bool false)∧T 51=(V.bool (decide ((¬((f.op=(2:Int))∨(f.op=(3:Int))))∧(f.arg≠(0:Int)))))∧H 1=(bFq f)∧True) ?_ ?_
   ·
    by_cases g21: ¬((f.op=(2:Int))∨(f.op=(3:Int)))
    ·
     refine aF (edT g21 rfl) (aM t1 h1 (aF (edT g21 rfl) (aJ rfl h1 rfl rfl (aF (edT g21 rfl) (bZ rfl rfl (aF (ebF g20 rfl) (aS (edT g21 rfl) rfl ?_)))))))
     exact ⟨t1,(ebF g20 rfl),(dH g21),h1,trivial⟩
    ·
     refine G_n (edF g21 rfl) (G_n (edF g21 rfl) (G_n (edF g21 rfl) (aF (ebF g20 rfl) (aT (edF g21 rfl) rfl ?_))))
     exact ⟨t1,(ebF g20 rfl),(dG g21),h1,trivial⟩
   intro T H ⟨t1,t44,t51,h1,_⟩
   refine aT t44 t51 ?_
   exact ⟨t1,(aMC g20),h1,trivial⟩
 intro T H ⟨t1,t52,h1,_⟩
 refine aA t52 (R_e ?_)
 refine jW rfl (fun c22=>?_) (fun c22=>?_)
 ·
  have d1:=aPr (f:=f) (by simpa using c22)
  refine W_r (aA rfl (R_e (aO (y19 _ _ ?_))))
  refine bI (rVq (iV 1)) (aE ?_)
  · exact d1.symm
 have d1:=aQl (f:=f) (by simpa using c22)
 refine aB (W_r (aM t1 h1 (aJ rfl h1 rfl rfl (aY rfl rfl (aA rfl ?_)))))
 refine aV 9 (fun T H=>T 1=(mPq 1)∧T 66=(V.bool (decide ((f.op=(2:Int))∧((f.arg < (0:Int))∨((64:Int)≤f.arg)))))∧H 1=(bFq f)∧True) ?_ ?_
 ·
  by_cases g23:f.op=(2:Int)
  ·
   refine aF (edT g23 rfl) (aM t1 h1 (aF (edT g23 rfl) (aJ rfl h1 rfl rfl (aF (edT g23 rfl) (bM rfl rfl (aF (edT g23 rfl) (aA rfl ?_)))))))
   refine aV 4 (fun T H=>T 1=(mPq 1)∧T 57=(V.bool true)∧T 65=(V.bool (decide ((f.arg < (0:Int))∨((64:Int)≤f.arg))))∧H 1=(bFq f)∧True) ?_ ?_
   ·
    by_cases g24:f.arg < (0:Int)
    ·
     refine G_n (edT g24 rfl) (G_n (edT g24 rfl) (G_n (edT g24 rfl) (aF (edT g23 rfl) (aS (edT g24 rfl) rfl ?_))))
     exact ⟨t1,(edT g23 rfl),(cQ g24),h1,trivial⟩
    ·
     refine aF (edF g24 rfl) (aM t1 h1 (aF (edF g24 rfl) (aJ rfl h1 rfl rfl (aF (edF g24 rfl) (jN rfl rfl (aF (edT g23 rfl) (aT (edF g24 rfl) rfl ?_)))))))
     exact ⟨t1,(edT g23 rfl),(cR g24),h1,trivial⟩
   intro T H ⟨t1,t57,t65,h1,_⟩
   refine aS t57 t65 ?_
   exact ⟨t1,(dH g23),h1,trivial⟩
  ·
   refine G_n (edF g23 rfl) (G_n (edF g23 rfl) (G_n (edF g23 rfl) (G_n (edF g23 rfl) (eZ (rVq (V.raw undef)) (eZ (rVq (V.raw undef)) (eZ (rVq (V.raw undef)) (G_n (edF g23 rfl) ?_)))))))
   refine aT (edF g23 rfl) rfl ?_
   exact ⟨t1,(dG g23),h1,trivial⟩
 intro T H ⟨t1,t66,h1,_⟩
 refine aA t66 (R_e ?_)
 refine aH rfl (fun c25=>?_) fun c25=>?_
 ·
  try rw [if_pos (by omega)] at d1
  refine aC ?_
  refine cD rfl (fun c26=>?_) fun c26=>?_
  ·
   try rw [if_pos (by omega)] at d1
   refine W_r (aA rfl (R_e (aO (y19 _ _ ?_))))
   refine bI (rVq (iV 2)) (aE ?_)
   · exact d1.symm
  · exact (c26 c25).elim
 try rw [if_neg (by omega)] at d1
 refine W_r (aM t1 h1 (aJ rfl h1 rfl rfl (aY rfl rfl (aA rfl ?_))))
 refine aV 9 (fun T H=>T 53=(V.bool (decide ((f.op=(2:Int))∧((f.arg < (0:Int))∨((64:Int)≤f.arg)))))∧T 79=(V.bool (decide ((f.op=(3:Int))∧((f.arg < (0:Int))∨((1048576:Int) < f.arg)))))∧H 1=(bFq f)∧True) ?_ ?_
 ·
  by_cases g27:f.op=(3:Int)
  ·
   refine aF (edT g27 rfl) (aM t1 h1 (aF (edT g27 rfl) (aJ rfl h1 rfl rfl (aF (edT g27 rfl) (bM rfl rfl (aF (edT g27 rfl) (aA rfl ?_)))))))
   refine aV 4 (fun T H=>T 53=(V.bool (decide ((f.op=(2:Int))∧((f.arg < (0:Int))∨((64:Int)≤f.arg)))))∧T 70=(V.bool true)∧T 78=(V.bool (decide ((f.arg < (0:Int))∨((1048576:Int) < f.arg))))∧H 1=(bFq f)∧True) ?_ ?_
   ·
    by_cases g28:f.arg < (0:Int)
    ·
     refine G_n (edT g28 rfl) (G_n (edT g28 rfl) (G_n (edT g28 rfl) (aF (edT g27 rfl) (aS (edT g28 rfl) rfl ?_))))
     exact ⟨rfl,(edT g27 rfl),(cQ g28),h1,trivial⟩
    ·
     refine aF (edF g28 rfl) (aM t1 h1 (aF (edF g28 rfl) (aJ rfl h1 rfl rfl (aF (edF g28 rfl) (fJ rfl rfl (aF (edT g27 rfl) (aT (edF g28 rfl) rfl ?_)))))))
     exact ⟨rfl,(edT g27 rfl),(cR g28),h1,trivial⟩
   intro T H ⟨t53,t70,t78,h1,_⟩
   refine aS t70 t78 ?_
   exact ⟨t53,(dH g27),h1,trivial⟩
  ·
   refine G_n (edF g27 rfl) (G_n (edF g27 rfl) (G_n (edF g27 rfl) (G_n (edF g27 rfl) (eZ (rVq (V.raw undef)) (eZ (rVq (V.raw undef)) (eZ (rVq (V.raw undef)) (G_n (edF g27 rfl) ?_)))))))
   refine aT (edF g27 rfl) rfl ?_
   exact ⟨rfl,(dG g27),h1,trivial⟩
 intro T H ⟨t53,t79,h1,_⟩
 refine aA t79 (R_e ?_)
 refine cD rfl (fun c29=>?_) fun c29=>?_
 ·
  try rw [if_pos (by omega)] at d1
  refine W_r (aA rfl (R_e (aO (y19 _ _ ?_))))
  refine bI (rVq (iV 2)) (aE ?_)
  · exact d1.symm
 try rw [if_neg (by omega)] at d1
 refine cM (n19 _ _ (.done (W_r (aA rfl (R_e (aO ?_))))))
 refine bI (rVq (iV 0)) (aE ?_)
 · exact d1.symm
end Go.Proofs.YteehaobohaecmaaGreatDoor
