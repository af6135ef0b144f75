/- Contracts of the functions that the law GF reaches, and the law itself, for every input; no condition. -/
import Derived.KernelRfl
import Derived.Test.YtmnnhjhkaepbaaaGreatProg
import Derived.Shelf.SlSortCmp.KitK
import Derived.Shelf.SlSortCmp.Kit1
import Derived.Shelf.SlSortCmp.NoneTotal
import Derived.Shelf.Spec.SlicesInsertGrow
import Derived.Test.YtmnnhjhkaepbaaaGreatGF1
set_option linter.unusedSimpArgs false
set_option linter.unusedVariables false
namespace Go.Proofs.YtmnnhjhkaepbaaaGreat
open Go Go.Proofs
theorem nZ (a b:List Int):aS Tryz.prog 215 [(aH a),(aH b)] (iV (aZ a b)):=by
 refine pW Tryz.func215 aEv fun hB=>?_
 unfold aI7
 dsimp only
 refine W_r (aA rfl (R_e (aB (W_r (aA rfl (bI rfl (aA rfl ?_)))))))
 refine R_e (aE fun Q1 n1 x1 y1 z1=>?_)
 refine bP (fun mm T H=> ∃ (k:Nat),mm=a.length - k∧T 0=(aH a)∧T 1=(aH b)∧T 9=(aH a)∧T 10=(iV ((a.length:Nat):Int))∧T 11=(iV ((k:Nat):Int))∧(k≤a.length)∧(k≤cmn a b)) ?_ ?_
 ·
  refine ⟨_,0,rfl,rfl,rfl,rfl,rfl,(eTq (rVq (iV 0)) rfl),?_,?_⟩
  · omega
  · exact Nat.zero_le _
 intro mm T H ⟨k,hmm,t0,t1,t9,t10,t11,hk,hc⟩ Q2 p12 p22 p32
 unfold aIo
 refine W_r (bO t11 t10 (R_e ?_))
 refine aJ rfl (fun c3=>?_) fun c3=>?_
 ·
  refine aG (aE fun Q4 n4 x4 y4 z4=>(W_r (aA t11 (bY (i:=k) t9 t11 (by omega) rfl (aI rfl rfl (aA rfl (aA rfl ?_)))))))
  refine R_e (aB (W_r (aA rfl (aA t1 (bI rfl (mM rfl rfl (R_e ?_)))))))
  refine aJ rfl (fun c5=>?_) fun c5=>?_
  ·
   refine aB (W_r (aA rfl (R_e (bC (y4 _ _ (p22 _ _ (y1 _ _ ?_)))))))
   refine bS (rVq (iV 1)) (aW ?_)
   · have g1:=pA a b
     have g2:=xX a b
     have g3:=iU hc (by omega)
     simp only [aZ,pB,g3] at*; repeat (split <;> first|rfl|omega|skip)
  refine aG (W_r (aA t1 (aA rfl (bY (i:=k) (rVq (aH b)) (rNq k) (by omega) rfl (aI rfl rfl (aA rfl (R_e ?_)))))))
  refine W_r (aA rfl (aA rfl (aX (sG (nth a k) (nth b k)) rfl (aA rfl (R_e (W_r (aA rfl ?_)))))))
  refine fB rfl rfl (R_e ?_)
  refine kI rfl (fun c6=>?_) fun c6=>?_
  ·
   have c9:nth a k≠nth b k:=fun e=>c6 (yB.2 e)
   refine W_r (aA rfl (aA rfl (R_e (bH (y4 _ _ (p22 _ _ (y1 _ _ ?_)))))))
   refine bS (rVq (iV (pB (nth a k) (nth b k)))) (aW ?_)
   · have g1:=pA a b
     have g2:=xX a b
     have g3:=iU hc (by omega)
     simp only [aZ,pB,g3] at*; repeat (split <;> first|rfl|omega|skip)
  refine fK (n4 _ _ (.done (W_t (bA t11 (rNq 1) (by omega) (aA rfl (R_e ?_))))))
  refine p12 _ _ _ ?_ ⟨(k+1),rfl,t0,t1,t9,t10,(eTq (rNq (k+1)) (by rfl)),?_,?_⟩
  · omega
  · omega
  · exact mL hc (by omega) (by omega) (yB.1 (by omega))
 refine aP (p32 _ _ _ (x1 _ _ (.done (aB (W_r (aA t0 (bI rfl ?_)))))))
 refine aA t1 (bI rfl (bO rfl rfl (R_e ?_)))
 refine aJ rfl (fun c7=>?_) fun c7=>?_
 ·
  refine aB (W_r (aA rfl (R_e (bC ?_))))
  refine bS (rVq (iV (-1))) (aW ?_)
  · have g1:=pA a b
    have g2:=xX a b
    have g3:=iU hc (by omega)
    simp only [aZ,pB,g3] at*; repeat (split <;> first|rfl|omega|skip)
 refine aG (W_r (aA rfl (R_e (bH ?_))))
 refine bS (rVq (iV 0)) (aW ?_)
 · have g1:=pA a b
   have g2:=xX a b
   have g3:=iU hc (by omega)
   simp only [aZ,pB,g3] at*; repeat (split <;> first|rfl|omega|skip)
theorem aB3 (a b:List Int):aS Tryz.prog 174 [(aH a),(aH b)] (iV (aZ a b)):=by
 refine pW Tryz.func174 aER fun hB=>?_
 unfold aKr
 dsimp only
 refine W_r (aA rfl (R_e (W_r (aA rfl (aA rfl (aX (nZ a b) rfl (aA rfl ?_)))))))
 refine R_e (bH ?_)
 refine bS (rVq (iV (aZ a b))) (eD (by simp) rfl)
def aNq:List SO:=[
 qM 5 0,
 qN 6 5,
 qM 7 1,
 qN 8 7,
 sO 9 (.call false 218 [.t 6,.t 8]),
 qM 10 0,
 qM 11 1,
 sO 12 (.call false 215 [.t 10,.t 11]),
 sO 13 (.bslice 3 1 false [.int .i64 0] 2 [(0,.t 9),(1,.t 12)]),
 sO 14 (.call false 217 [.t 13]),
 qM 4 14]
def aKO:SF:=⟨15,[.tmp 4],.seq (.reg [qI 4 0]) (.seq (.reg aNq) (.ret))⟩
theorem aEf:aM Tryz.prog ⟨[39,75,135,136,137,155,161,186,188,194,195,196,211,212,213,226,230,233,238],[],[],[]⟩ Tryz.f176=some aKO:=by kernel_rfl
def aHp:SC:=.seq (.reg [qP 9 .lss 8 7]) (.seq (.cond (.t 9) (.skip) (.exit 0)) (.seq (.block 1 (.seq (.reg [qA 10 1 6 8,ql 11 10,qM 5 11]) (.seq (.reg [qM 12 5,qM 13 3,qP 14 .neq 12 13]) (.cond (.t 14) (.seq (.reg [qM 15 5,qM 2 15]) (.ret)) (.skip))))) (.reg [qC 16 .add 8 1,qM 8 16])))
def aKw:SF:=⟨18,[.tmp 2],.seq (.reg [qI 2 0]) (.seq (.reg [qI 3 0]) (.seq (.seq (.reg [qM 6 0,qN 7 6,qI 8 0]) (.block 0 (.loop aHp))) (.seq (.reg [qM 17 3,qM 2 17]) (.ret))))⟩
theorem aEM:aM Tryz.prog ⟨[39,75,135,136,137,155,161,186,188,194,195,196,211,212,213,226,230,233,238],[],[],[]⟩ Tryz.f217=some aKw:=by kernel_rfl
theorem aDa (l:List Int) (hl:l.length < 4294967296):aS Tryz.prog 217 [(aH l)] (iV (orI l)):=by
 refine pW Tryz.func217 aEM fun hB=>?_
 unfold aKw
 dsimp only
 refine W_r (aA rfl (R_e (W_r (aA rfl (R_e (aB (W_r ?_)))))))
 refine aA rfl (bI rfl (aA rfl (R_e (aE fun Q1 n1 x1 y1 z1=>?_))))
 refine bP (fun mm T H=> ∃ (k:Nat),mm=l.length - k∧T 3=(iV 0)∧T 6=(aH l)∧T 7=(iV ((l.length:Nat):Int))∧T 8=(iV ((k:Nat):Int))∧(k≤l.length)∧(orI l=orI (l.drop k))) ?_ ?_
 ·
  refine ⟨_,0,rfl,rfl,rfl,rfl,(eTq (rVq (iV 0)) rfl),?_,?_⟩
  · omega
  · rfl
 intro mm T H ⟨k,hmm,t3,t6,t7,t8,hk,hc⟩ Q2 p12 p22 p32
 unfold aHp
 refine W_r (bO t8 t7 (R_e ?_))
 refine aJ rfl (fun c3=>?_) fun c3=>?_
 ·
  refine aG (aE fun Q4 n4 x4 y4 z4=>(W_r (bY (i:=k) t6 t8 (by omega) rfl (aI rfl rfl (aA rfl (R_e (W_r ?_)))))))
  refine aA rfl (aA t3 (fB rfl rfl (R_e ?_)))
  refine kI rfl (fun c5=>?_) fun c5=>?_
  ·
   refine W_r (aA rfl (aA rfl (R_e (bH (y4 _ _ (p22 _ _ (y1 _ _ ?_)))))))
   refine bS (rVq (iV (nth l k))) (aW ?_)
   · rw [hc,aCo (by omega),if_neg (by omega)]
  refine fK (n4 _ _ (.done (W_t (bA t8 (rNq 1) (by omega) (aA rfl (R_e ?_))))))
  refine p12 _ _ _ ?_ ⟨(k+1),rfl,t3,t6,t7,(eTq (rNq (k+1)) (by rfl)),?_,?_⟩
  · omega
  · omega
  · rw [hc,aCo (by omega),if_pos (by omega)]
 refine aP (p32 _ _ _ (x1 _ _ (.done (W_r (aA t3 (aA rfl (R_e ?_)))))))
 refine bH ?_
 refine bS (rVq (iV 0)) (aW ?_)
 · rw [hc,List.drop_of_length_le (by omega)]; rfl
theorem pH (a b:List Int):aS Tryz.prog 176 [(aH a),(aH b)] (iV (slx a b)):=by
 refine pW Tryz.func176 aEf fun hB=>?_
 unfold aKO
 dsimp only
 refine W_r (aA rfl (R_e (W_r (aA rfl (bI rfl (aA rfl (bI rfl ?_)))))))
 refine aX (sG ((a.length:Nat):Int) ((b.length:Nat):Int)) rfl (aA rfl (aA rfl (aX (nZ a b) rfl (cO rfl rfl (aX (aDa ([(pB ((a.length:Nat):Int) ((b.length:Nat):Int)),(aZ a b)]) (by simp)) rfl (aA rfl (R_e ?_)))))))
 refine bH ?_
 refine bS (rVq (iV (orI ([(pB ((a.length:Nat):Int) ((b.length:Nat):Int)),(aZ a b)])))) (aW ?_)
 · simp only [orI,pB,slx]; repeat (split <;> first|rfl|omega|skip)
def aRB:SF:=⟨8,[.tmp 2],.seq (.reg [sO 2 (.lazy 25 1)]) (.seq (.seq (.reg [qM 3 0,sO 4 (.isnil false (.t 3))]) (.cond (.t 4) (.seq (.reg [sO 2 (.lazy 25 1)]) (.ret)) (.skip))) (.seq (.reg [sO 5 (.lazy 25 1),qM 6 0,sO 7 (.append 25 1 24 (.t 5) (.t 6)),qM 2 7]) (.ret)))⟩
theorem aJI:aM Tryz.prog ⟨[39,75,135,136,137,155,161,186,188,194,195,196,211,212,213,226,230,233,238],[2,5],[],[]⟩ Tryz.f211=some aRB:=by kernel_rfl
theorem aCk (l:List (List Int)) (v2:Nat) (Hi:aF) (h202:(Hi 202).ver=v2) (hl:l.length≤1073741824):dB Tryz.prog 211 [(aD l)] Hi (V.ms 202 (v2+3) 0 l.length) (upd Hi 202 (bz (v2+3) 25 1 (List.map cL l))):=by
 refine eW (k0:=200) Tryz.func211 aJI fun hB=>?_
 unfold aRB
 dsimp only
 refine W_r (fF (i:=202) (n:=v2) (by rfl) h202 (R_e (aB (kK fun K hK=>(aA rfl ?_)))))
 refine oD (rVq (aD l)) (fun e1=>?_) ?_
 ·
  replace e1:=List.map_eq_nil_iff.1 e1
  refine iQ (hK _ _ ?_); clear hK K
  refine bF (R:=fun T H=>T 0=(aD l)∧T 4=(V.bool true)∧(∀ j,j∉[202]→H j=Hi j)∧H 202=(bz (v2+1) 25 1 [])∧True) ⟨rfl,rfl,(dE (fun _ _=>rfl) (by decide)),rfl,trivial⟩ ?_
  intro T H ⟨t0,t4,hF,h202,_⟩
  refine dR t4 (fun c4=>?_) (fun c4=>?_)
  ·
   refine aB (W_r (fF (i:=202) (n:=(v2+1)) (by rfl) (cVq h202) (R_e (bC (bF (R:=fun T H=>T 2=(V.ms 202 (v2+2) 0 0)∧(∀ j,j∉[202]→H j=Hi j)∧H 202=(bz (v2+2) 25 1 [])∧True) ⟨(rVq (V.ms 202 (v2+2) 0 0)),(dE hF (by decide)),rfl,trivial⟩ ?_)))))
   intro T H ⟨t2,hF,h202,_⟩
   have fh:=dJ.fin (dJ.put (B:=(bz (v2+3) 25 1 (List.map cL l))) (dJ.start hF) h202 (jB.up (by omega) (by (rw [e1]; rfl))))
   exact jL t2 fh (cV.trans_eq (cV.ms (n:=(v2+3)) fh (by simp [h202]) (by simp [h202]) rfl rfl) (by (rw [e1]; rfl)))
  · cases c4
 ·
  refine iQ (hK _ _ ?_); clear hK K
  refine bF (R:=fun T H=>T 0=(aD l)∧T 4=(V.bool false)∧(∀ j,j∉[202]→H j=Hi j)∧H 202=(bz (v2+1) 25 1 [])∧True) ⟨rfl,rfl,(dE (fun _ _=>rfl) (by decide)),rfl,trivial⟩ ?_
  intro T H ⟨t0,t4,hF,h202,_⟩
  refine dR t4 (fun c7=>?_) (fun c7=>?_)
  · cases c7
  refine aG (aSb 197 (fF (i:=202) (n:=(v2+1)) (by rfl) (cVq h202) (aA t0 (jG (l:=([])) (m:=l) (f:=cL) (rVq (V.ms 202 (v2+2) 0 0)) (show _=(bz (v2+2) 25 1 (List.map cL ([]))) from (@rfl Blk (bz (v2+2) 25 1 []))) (by rfl) (rVq (aD l)) (fun _=>rfl) (fun _=>rfl) (by omega) (by omega) (aA rfl (R_e (bH ?_)))))))
  refine bF (R:=fun T H=>T 2=(V.ms 202 (v2+3) 0 (0+l.length))∧(∀ j,j∉[202]→H j=Hi j)∧H 202=(bz (v2+3) 25 1 (List.map cL ([]++l)))∧True) ⟨(rVq (V.ms 202 (v2+3) 0 (0+l.length))),(dE (dE hF (by decide)) (by decide)),rfl,trivial⟩ ?_
  intro T H ⟨t2,hF,h202,_⟩
  have fh:=dJ.fin (dJ.put (B:=(bz (v2+3) 25 1 (List.map cL l))) (dJ.start hF) h202 (jB.eq (by rfl)))
  exact jL t2 fh (cV.trans_eq (cV.same fh _) (by simp))
def aO0:List SO:=[
 qM 18 1,
 qM 19 0,
 qM 20 5,
 qA 21 1 19 20,
 ql 22 21,
 qM 23 0,
 qM 24 5,
 qC 25 .sub 24 1,
 qA 26 1 23 25,
 ql 27 26,
 sO 28 (.callv false (.t 18) [.t 22,.t 27])]
def aLE:List SO:=[
 qM 38 1,
 qM 39 6,
 qM 40 7,
 qA 41 1 39 40,
 ql 42 41,
 qM 43 6,
 qM 44 7,
 qC 45 .sub 44 1,
 qA 46 1 43 45,
 ql 47 46,
 sO 48 (.callv false (.t 38) [.t 42,.t 47]),
 sO 49 (.un .not (.t 48))]
def aKj:List SO:=[
 qM 50 0,
 qM 51 5,
 qM 52 6,
 qM 53 7,
 qA 54 1 52 53,
 ql 55 54,
 qA 56 1 50 51,
 sN (.store 1 (.t 56) (.t 55))]
def aDB:SC:=.seq (.seq (.reg [qM 32 7,qM 33 6,qN 34 33,qP 35 .lss 32 34]) (.cond (.t 35) (.skip) (.exit 2))) (.seq (.block 3 (.seq (.reg aLE) (.cond (.t 49) (.seq (.reg aKj) (.reg [qM 57 5,qC 58 .add 57 1,qM 5 58])) (.skip)))) (.reg [qM 36 7,qC 37 .add 36 1,qM 7 37]))
def aCM:SC:=.seq (.seq (.reg [qM 12 5,qM 13 0,qN 14 13,qP 15 .lss 12 14]) (.cond (.t 15) (.skip) (.exit 0))) (.seq (.block 1 (.seq (.reg aO0) (.cond (.t 28) (.seq (.reg [qM 29 0,qM 30 5,sO 31 (.slice 1 (.t 29) (some (.t 30)) none),qM 6 31]) (.seq (.seq (.reg [qI 7 1]) (.block 2 (.loop aDB))) (.seq (.reg [qM 59 0,qM 60 5,sO 61 (.slice 1 (.t 59) (some (.t 60)) none),sN (.clr [.nilsl] (.t 61))]) (.seq (.reg [qM 62 0,qM 63 5,sO 64 (.slice 1 (.t 62) none (some (.t 63))),qM 4 64]) (.ret))))) (.skip)))) (.reg [qM 16 5,qC 17 .add 16 1,qM 5 17]))
def aPX:SF:=⟨66,[.tmp 4],.seq (.reg [sO 4 (.mv (.c (.nilsl)))]) (.seq (.seq (.reg [qM 8 0,qN 9 8,qC 10 .lss 9 2]) (.cond (.t 10) (.seq (.reg [qM 11 0,qM 4 11]) (.ret)) (.skip))) (.seq (.seq (.reg [qI 5 1]) (.block 0 (.loop aCM))) (.seq (.reg [qM 65 0,qM 4 65]) (.ret))))⟩
theorem aEO:aM Tryz.prog ⟨[39,75,135,136,137,155,161,186,188,194,195,196,211,212,213,226,230,233,238],[],[],[]⟩ Tryz.f213=some aPX:=by kernel_rfl
def aOO:SF:=⟨11,[.tmp 5],.seq (.reg [sO 5 (.mv (.c (.bool false)))]) (.seq (.reg [ql 6 2,qM 7 0,qM 8 1,sO 9 (.callv false (.t 6) [.t 7,.t 8]),qC 10 .eql 9 0,qM 5 10]) (.ret))⟩
theorem aFb:aM Tryz.prog ⟨[39,75,135,136,137,155,161,186,188,194,195,196,211,212,213,226,230,233,238],[],[],[]⟩ Tryz.f214=some aOO:=by kernel_rfl
theorem zH (a b:List Int):aS Tryz.prog 214 [(aH a),(aH b),(V.pp [(V.fn 176 [] [])])] (V.bool (decide (slx a b=0))):=by
 refine pW Tryz.func214 aFb fun hB=>?_
 unfold aOO
 dsimp only
 refine W_r (aA rfl (R_e (W_r (aI rfl rfl (aA rfl (aA rfl (jY (rVq (V.fn 176 [] [])) (bV (rVq (aH a)) (bV (rVq (aH b)) fP)) (pH a b) (eC _ _ (by simp [-List.map_take,-List.map_drop,-List.map_append,-List.map_reverse])) (by simp [-List.map_take,-List.map_drop,-List.map_append,-List.map_reverse]) (Or.inl (by simp [-List.map_take,-List.map_drop,-List.map_append,-List.map_reverse])) ?_)))))))
 refine gT rfl rfl (aA rfl (R_e (bH ?_)))
 refine bS (rVq (V.bool (decide ((slx a b)=(0:Int))))) (eM ?_)
 · rfl
theorem vX (a b:List Int):aS Tryz.prog 214 [(aH a),(aH b),(V.pp [(V.fn 174 [] [])])] (V.bool (decide (aZ a b=0))):=by
 refine pW Tryz.func214 aFb fun hB=>?_
 unfold aOO
 dsimp only
 refine W_r (aA rfl (R_e (W_r (aI rfl rfl (aA rfl (aA rfl (jY (rVq (V.fn 174 [] [])) (bV (rVq (aH a)) (bV (rVq (aH b)) fP)) (aB3 a b) (eC _ _ (by simp [-List.map_take,-List.map_drop,-List.map_append,-List.map_reverse])) (by simp [-List.map_take,-List.map_drop,-List.map_append,-List.map_reverse]) (Or.inl (by simp [-List.map_take,-List.map_drop,-List.map_append,-List.map_reverse])) ?_)))))))
 refine gT rfl rfl (aA rfl (R_e (bH ?_)))
 refine bS (rVq (V.bool (decide ((aZ a b)=(0:Int))))) (eM ?_)
 · rfl
theorem aJS (l:List (List Int)) (v2 v3 len:Nat) (Hi:aF) (h202:Hi 202=(bz v2 25 1 (List.map cL l))) (h3:Hi 3=(bk v3 240 1 [[(V.fn 176 [] [])]])) (hn:len=l.length) (hl:l.length≤1073741824):dB Tryz.prog 213 [(V.ms 202 v2 0 len),(V.fn 214 [] [(V.mp 3 v3 0 0)])] Hi (V.ms 202 v2 0 ((ddK l l.length).length)) (upd Hi 202 (bz v2 25 1 (List.map cL (ddK l l.length)++List.replicate (l.length - (ddK l l.length).length) [V.nilsl]))):=by
 refine eW (k0:=400) Tryz.func213 aEO fun hB=>?_
 unfold aPX
 dsimp only
 refine W_r (aA rfl (R_e (aB (W_r (aA rfl (dK rfl h202 (by simp) (bO rfl rfl ?_)))))))
 refine R_e ?_
 refine aJ rfl (fun c1=>?_) fun c1=>?_
 ·
  refine aB (W_r (aA rfl (aA rfl (R_e (bC (bF (R:=fun T H=>T 4=(V.ms 202 v2 0 len)∧(∀ j,j∉[202]→H j=Hi j)∧H 3=(bk v3 240 1 [[(V.fn 176 [] [])]])∧H 202=(bz v2 25 1 (List.map cL l))∧True) ⟨(rVq (V.ms 202 v2 0 len)),(fun _ _=>rfl),h3,h202,trivial⟩ ?_))))))
  intro T H ⟨t4,hF,h3,h202,_⟩
  have hall:=aAR (l:=l) (fun i i1 i2=>by omega)
  have fh:=dJ.fin (dJ.put (B:=(bz v2 25 1 (List.map cL (ddK l l.length)++List.replicate (l.length - (ddK l l.length).length) [V.nilsl]))) (dJ.start hF) h202 (jB.eq (by (rw [hall]; simp; done))))
  exact jL t4 fh (cV.trans_eq (cV.same fh _) (by (rw [hall,hn]; done)))
 refine aG (aB (W_r (aA rfl (R_e (aE fun Q2 n2 x2 y2 z2=>?_)))))
 refine bP (fun mm T H=> ∃ (k:Nat),mm=l.length - k∧T 0=(V.ms 202 v2 0 len)∧T 1=(V.fn 214 [] [(V.mp 3 v3 0 0)])∧T 5=(iV ((k:Nat):Int))∧(∀ j,j∉[202]→H j=Hi j)∧H 3=(bk v3 240 1 [[(V.fn 176 [] [])]])∧H 202=(bz v2 25 1 (List.map cL l))∧(1≤k)∧(k≤l.length)∧(∀ i,1≤i→i < k→nth l i≠nth l (i - 1))) ?_ ?_
 ·
  refine ⟨_,1,rfl,rfl,rfl,(eTq (rVq (iV 1)) rfl),(fun _ _=>rfl),h3,h202,?_,?_,?_⟩
  · omega
  · omega
  · intro i h1 h2; omega
 intro mm T H ⟨k,hmm,t0,t1,t5,hF,h3,h202,h1,hk,hc⟩ Q3 p13 p23 p33
 unfold aCM
 refine aB (W_r (aA t5 (aA t0 (dK rfl h202 (by simp) (bO rfl rfl (R_e ?_))))))
 refine aJ rfl (fun c4=>?_) fun c4=>?_
 ·
  refine aG (aE fun Q5 n5 x5 y5 z5=>(W_r (aA t1 (aA t0 (aA t5 (bW (i:=k) (rVq (V.ms 202 v2 0 len)) (rNq k) h202 (cW (by omega)) rfl (by omega) (bT (v:=(aH (nth l k))) rfl h202 (dY (by omega) (by rfl)) ?_)))))))
  refine aA t0 (aA t5 (uJ rfl rfl (by omega) (by omega) (gC (i:=(((k:Nat):Int) - (1:Int))) (rVq (V.ms 202 v2 0 len)) (rVq (iV (((k:Nat):Int) - (1:Int)))) h202 (cW (by omega)) rfl (by omega) (by omega) (bT (v:=(aH (nth l ((((k:Nat):Int) - (1:Int)).toNat)))) rfl h202 (dY (by omega) (by rfl)) (jY (rVq (V.fn 214 [] [(V.mp 3 v3 0 0)])) (bV (rVq (aH (nth l k))) (bV (rVq (aH (nth l ((((k:Nat):Int) - (1:Int)).toNat)))) fP)) (zH (nth l k) (nth l ((((k:Nat):Int) - (1:Int)).toNat))) (cY (dC 6 _ (by simp [-List.map_take,-List.map_drop,-List.map_append,-List.map_reverse])) (cY (dC 6 _ (by simp [-List.map_take,-List.map_drop,-List.map_append,-List.map_reverse])) (cY (by simp [fzv,Blk.own,h3,h202]) rfl))) (by simp [-List.map_take,-List.map_drop,-List.map_append,-List.map_reverse]) (Or.inr rfl) (R_e ?_))))))
  refine kI rfl (fun c6=>?_) fun c6=>?_
  ·
   have d1:nth l k=nth l (k - 1):=by have q:=eH.1 c6; rwa [show (((k:Nat):Int) - (1:Int)).toNat=k - 1 by omega] at q
   have hd:=aBu h1 (by omega) hc d1
   refine W_r (aA t0 (aA t5 (iJ (n:=k) (rVq (V.ms 202 v2 0 len)) (rNq k) h202 (cW (by omega)) rfl (by omega) (aA rfl (R_e (aB (W_r ?_)))))))
   refine aA rfl (R_e (aE fun Q7 n7 x7 y7 z7=>?_))
   refine bP (fun mm T H=> ∃ (j:Nat),mm=l.length - (k+j)∧T 0=(V.ms 202 v2 0 len)∧T 1=(V.fn 214 [] [(V.mp 3 v3 0 0)])∧T 5=(iV (((ddK l (k+j)).length:Nat):Int))∧T 6=(V.ms 202 v2 (0+k) (len - k))∧T 7=(iV ((j:Nat):Int))∧(∀ j,j∉[202]→H j=Hi j)∧H 3=(bk v3 240 1 [[(V.fn 176 [] [])]])∧H 202=(bz v2 25 1 (List.map cL (ddL l (k+j))))∧(k+j≤l.length)∧(1≤j)∧((ddK l (k+j)).length < k+j)) ?_ ?_
   ·
    refine ⟨_,1,rfl,t0,t1,(eTq t5 (by (rw [hd.1]; done))),(eTq (rVq (V.ms 202 v2 (0+k) (len - k))) (by rfl)),(eTq (rVq (iV 1)) rfl),hF,h3,(eTq h202 (by (rw [hd.2]; done))),?_,?_,?_⟩
    · omega
    · omega
    · rw [hd.1]; omega
   intro mm T H ⟨j,hmm,t0,t1,t5,t6,t7,hF,h3,h202,hj,hj1,hlt⟩ Q8 p18 p28 p38
   unfold aDB
   have q1:=aFf (L:=l) (j:=k+j) hj
   have q5:=aMe hlt hj1
   have q6:=aDf (l:=l) (j:=k+j) (by omega)
   refine aB (W_r (aA t7 (aA t6 (dK rfl h202 (by simp) (bO rfl rfl (R_e ?_))))))
   refine aJ rfl (fun c9=>?_) fun c9=>?_
   ·
    refine aG (aE fun Q10 n10 x10 y10 z10=>(W_r (aA t1 (aA t6 (aA t7 (mE (i:=j) (rVq (V.ms 202 v2 (0+k) (len - k))) (rNq j) h202 (cW (by omega)) rfl (by omega) (bT (v:=(aH (nth (ddL l (k+j)) ((0+k)+j)))) rfl h202 (dY (by omega) (by rfl)) ?_)))))))
    refine aA t6 (aA t7 (uJ rfl rfl (by omega) (by omega) (rL (i:=(((j:Nat):Int) - (1:Int))) (rVq (V.ms 202 v2 (0+k) (len - k))) (rVq (iV (((j:Nat):Int) - (1:Int)))) h202 (cW (by omega)) rfl (by omega) (by omega) (bT (v:=(aH (nth (ddL l (k+j)) ((0+k)+(((j:Nat):Int) - (1:Int)).toNat)))) rfl h202 (dY (by omega) (by rfl)) (jY (rVq (V.fn 214 [] [(V.mp 3 v3 0 0)])) (bV (rVq (aH (nth (ddL l (k+j)) ((0+k)+j)))) (bV (rVq (aH (nth (ddL l (k+j)) ((0+k)+(((j:Nat):Int) - (1:Int)).toNat)))) fP)) (zH (nth (ddL l (k+j)) ((0+k)+j)) (nth (ddL l (k+j)) ((0+k)+(((j:Nat):Int) - (1:Int)).toNat))) (cY (dC 6 _ (by simp [-List.map_take,-List.map_drop,-List.map_append,-List.map_reverse])) (cY (dC 6 _ (by simp [-List.map_take,-List.map_drop,-List.map_append,-List.map_reverse])) (cY (by simp [fzv,Blk.own,h3,h202]) rfl))) (by simp [-List.map_take,-List.map_drop,-List.map_append,-List.map_reverse]) (Or.inr rfl) (aBP rfl (R_e ?_)))))))
    refine kI rfl (fun c11=>?_) fun c11=>?_
    ·
     have d5:nth l (k+j)≠nth l (k+j - 1):=fun q=>c11 (eH.2 (by rw [q5.1,q5.2]; exact q))
     refine W_r (aA t0 (aA t5 (aA t6 (aA t7 (mE (i:=j) (rVq (V.ms 202 v2 (0+k) (len - k))) (rNq j) h202 (cW (by omega)) rfl (by omega) (bT (v:=(aH (nth (ddL l (k+j)) ((0+k)+j)))) rfl h202 (dY (by omega) (by rfl)) (bW (i:=((ddK l (k+j)).length)) (rVq (V.ms 202 v2 0 len)) (rNq ((ddK l (k+j)).length)) h202 (cW (by omega)) rfl (by omega) ?_)))))))
     refine bJ (vs:=[(aH (nth (ddL l (k+j)) ((0+k)+j)))]) (B':=(bz v2 25 1 (List.map cL ((ddL l (k+j)).set ((ddK l (k+j)).length) (nth (ddL l (k+j)) ((0+k)+j)))))) rfl rfl rfl h202 (gB (x:=(nth (ddL l (k+j)) ((0+k)+j))) (i:=((ddK l (k+j)).length)) (by omega) rfl rfl rfl rfl) (R_e (W_t (aA t5 (bA rfl (rNq 1) (by omega) (aA rfl (R_e (n10 _ _ ?_)))))))
     refine .done (W_t (aA t7 (bA rfl (rNq 1) (by omega) (aA rfl (R_e ?_)))))
     refine p18 _ _ _ ?_ ⟨(j+1),rfl,t0,t1,(eTq (rNq (((ddK l (k+j)).length)+1)) (by (show _=iV (((ddK l ((k+j)+1)).length:Nat):Int); rw [fG (.inr d5),List.length_append]; rfl))),(eTq t6 (by rfl)),(eTq (rNq (j+1)) (by rfl)),(dE hF (by decide)),h3,(eTq (@rfl Blk (bz v2 25 1 (List.map cL ((ddL l (k+j)).set ((ddK l (k+j)).length) (nth (ddL l (k+j)) ((0+k)+j)))))) (by (rw [q5.1,aCe (show k+j < l.length by omega) (.inr d5)]; rfl))),?_,?_,?_⟩
     · omega
     · omega
     · omega
     · first|(show (ddK l ((k+j)+1)).length < (k+j)+1; rw [fG (.inr d5),List.length_append]; simp; omega)|(show (ddK l ((k+j)+1)).length < (k+j)+1; rw [fO (by rintro (q|q); omega; exact q d5)]; omega)
    have d5:nth l (k+j)=nth l (k+j - 1):=by have q:=eH.1 (Decidable.not_not.1 c11); rwa [q5.1,q5.2] at q
    refine fK (n10 _ _ (.done (W_t (aA t7 (bA rfl (rNq 1) (by omega) (aA rfl (R_e ?_)))))))
    refine p18 _ _ _ ?_ ⟨(j+1),rfl,t0,t1,(eTq t5 (by (show _=iV (((ddK l ((k+j)+1)).length:Nat):Int); rw [fO (by rintro (q|q); omega; exact q d5)]; done))),(eTq t6 (by rfl)),(eTq (rNq (j+1)) (by rfl)),hF,h3,(eTq h202 (by (show _=(⟨_,_,_,_,_,List.map cL (ddL l ((k+j)+1))⟩:Blk); rw [aCu (by rintro (q|q); omega; exact q d5)]; done))),?_,?_,?_⟩
    · omega
    · omega
    · omega
    · first|(show (ddK l ((k+j)+1)).length < (k+j)+1; rw [fG (.inr d5),List.length_append]; simp; omega)|(show (ddK l ((k+j)+1)).length < (k+j)+1; rw [fO (by rintro (q|q); omega; exact q d5)]; omega)
   refine aP (p38 _ _ _ (x7 _ _ (.done (W_r (aA t0 (aA t5 (iJ (n:=((ddK l (k+j)).length)) (rVq (V.ms 202 v2 0 len)) (rNq ((ddK l (k+j)).length)) h202 (cW (by omega)) rfl (by omega) ?_)))))))
   refine aMa (m:=((ddK l (k+j)).length)) (n:=(len - ((ddK l (k+j)).length))) (f:=cL) (l:=(ddL l (k+j))) (eTq (rVq (V.ms 202 v2 (0+((ddK l (k+j)).length)) (len - ((ddK l (k+j)).length)))) (congrArg (fun n=>V.ms 202 v2 n (len - ((ddK l (k+j)).length))) (Nat.zero_add _))) h202 rfl (by decide) rfl (by omega) (by omega) (R_e (W_r (aA t0 (aA t5 (nW (n:=((ddK l (k+j)).length)) (rVq (V.ms 202 v2 0 len)) (rNq ((ddK l (k+j)).length)) (@rfl Blk (bz v2 25 1 (List.map cL (List.take ((ddK l (k+j)).length) (ddL l (k+j)))++List.replicate (len - ((ddK l (k+j)).length)) [V.nilsl]))) (jS (by (simp only [List.length_take]; omega))) rfl (by omega) (aA rfl (R_e ?_)))))))
   refine bH (y5 _ _ (p23 _ _ (y2 _ _ (bF (R:=fun T H=>T 4=(V.ms 202 v2 0 ((ddK l (k+j)).length))∧(∀ j,j∉[202]→H j=Hi j)∧H 3=(bk v3 240 1 [[(V.fn 176 [] [])]])∧H 202=(bz v2 25 1 (List.map cL (List.take ((ddK l (k+j)).length) (ddL l (k+j)))++List.replicate (len - ((ddK l (k+j)).length)) [V.nilsl]))∧True) ⟨(rVq (V.ms 202 v2 0 ((ddK l (k+j)).length))),(dE hF (by decide)),h3,rfl,trivial⟩ ?_))))
   intro T H ⟨t4,hF,h3,h202,_⟩
   skip
   have fh:=dJ.fin (dJ.put (B:=(bz v2 25 1 (List.map cL (ddK l l.length)++List.replicate (l.length - (ddK l l.length).length) [V.nilsl]))) (dJ.start hF) h202 (jB.eq (by (rw [aEW (show l.length≤k+j by omega) hj,show k+j=l.length by omega,hn]; done))))
   exact jL t4 fh (cV.trans_eq (cV.same fh _) (by (rw [show k+j=l.length by omega]; done)))
  have d1:nth l k≠nth l (k - 1):=fun q=>c6 (eH.2 (by rw [show (((k:Nat):Int) - (1:Int)).toNat=k - 1 by omega]; exact q))
  refine fK (n5 _ _ (.done (W_t (aA t5 (bA rfl (rNq 1) (by omega) (aA rfl (R_e ?_)))))))
  refine p13 _ _ _ ?_ ⟨(k+1),rfl,t0,t1,(eTq (rNq (k+1)) (by rfl)),hF,h3,h202,?_,?_,?_⟩
  · omega
  · omega
  · omega
  · intro i i1 i2
    by_cases e:i=k
    · subst e; exact d1
    · exact hc i i1 (by omega)
 refine aP (p33 _ _ _ (x2 _ _ (.done (W_r (aA t0 (aA rfl (R_e ?_)))))))
 refine bH (bF (R:=fun T H=>T 4=(V.ms 202 v2 0 len)∧(∀ j,j∉[202]→H j=Hi j)∧H 3=(bk v3 240 1 [[(V.fn 176 [] [])]])∧H 202=(bz v2 25 1 (List.map cL l))∧True) ⟨(rVq (V.ms 202 v2 0 len)),hF,h3,h202,trivial⟩ ?_)
 intro T H ⟨t4,hF,h3,h202,_⟩
 have hall:=aAR (l:=l) (fun i i1 i2=>hc i i1 (by omega))
 have fh:=dJ.fin (dJ.put (B:=(bz v2 25 1 (List.map cL (ddK l l.length)++List.replicate (l.length - (ddK l l.length).length) [V.nilsl]))) (dJ.start hF) h202 (jB.eq (by (rw [hall]; simp; done))))
 exact jL t4 fh (cV.trans_eq (cV.same fh _) (by (rw [hall,hn]; done)))
theorem aIn (l:List (List Int)) (v2 v3 len:Nat) (Hi:aF) (h202:Hi 202=(bz v2 25 1 (List.map cL l))) (h3:Hi 3=(bk v3 240 1 [[(V.fn 174 [] [])]])) (hn:len=l.length) (hl:l.length≤1073741824):dB Tryz.prog 213 [(V.ms 202 v2 0 len),(V.fn 214 [] [(V.mp 3 v3 0 0)])] Hi (V.ms 202 v2 0 ((ddK l l.length).length)) (upd Hi 202 (bz v2 25 1 (List.map cL (ddK l l.length)++List.replicate (l.length - (ddK l l.length).length) [V.nilsl]))):=by
 refine eW (k0:=400) Tryz.func213 aEO fun hB=>?_
 unfold aPX
 dsimp only
 refine W_r (aA rfl (R_e (aB (W_r (aA rfl (dK rfl h202 (by simp) (bO rfl rfl ?_)))))))
 refine R_e ?_
 refine aJ rfl (fun c1=>?_) fun c1=>?_
 ·
  refine aB (W_r (aA rfl (aA rfl (R_e (bC (bF (R:=fun T H=>T 4=(V.ms 202 v2 0 len)∧(∀ j,j∉[202]→H j=Hi j)∧H 3=(bk v3 240 1 [[(V.fn 174 [] [])]])∧H 202=(bz v2 25 1 (List.map cL l))∧True) ⟨(rVq (V.ms 202 v2 0 len)),(fun _ _=>rfl),h3,h202,trivial⟩ ?_))))))
  intro T H ⟨t4,hF,h3,h202,_⟩
  have hall:=aAR (l:=l) (fun i i1 i2=>by omega)
  have fh:=dJ.fin (dJ.put (B:=(bz v2 25 1 (List.map cL (ddK l l.length)++List.replicate (l.length - (ddK l l.length).length) [V.nilsl]))) (dJ.start hF) h202 (jB.eq (by (rw [hall]; simp; done))))
  exact jL t4 fh (cV.trans_eq (cV.same fh _) (by (rw [hall,hn]; done)))
 refine aG (aB (W_r (aA rfl (R_e (aE fun Q2 n2 x2 y2 z2=>?_)))))
 refine bP (fun mm T H=> ∃ (k:Nat),mm=l.length - k∧T 0=(V.ms 202 v2 0 len)∧T 1=(V.fn 214 [] [(V.mp 3 v3 0 0)])∧T 5=(iV ((k:Nat):Int))∧(∀ j,j∉[202]→H j=Hi j)∧H 3=(bk v3 240 1 [[(V.fn 174 [] [])]])∧H 202=(bz v2 25 1 (List.map cL l))∧(1≤k)∧(k≤l.length)∧(∀ i,1≤i→i < k→nth l i≠nth l (i - 1))) ?_ ?_
 ·
  refine ⟨_,1,rfl,rfl,rfl,(eTq (rVq (iV 1)) rfl),(fun _ _=>rfl),h3,h202,?_,?_,?_⟩
  · omega
  · omega
  · intro i h1 h2; omega
 intro mm T H ⟨k,hmm,t0,t1,t5,hF,h3,h202,h1,hk,hc⟩ Q3 p13 p23 p33
 unfold aCM
 refine aB (W_r (aA t5 (aA t0 (dK rfl h202 (by simp) (bO rfl rfl (R_e ?_))))))
 refine aJ rfl (fun c4=>?_) fun c4=>?_
 ·
  refine aG (aE fun Q5 n5 x5 y5 z5=>(W_r (aA t1 (aA t0 (aA t5 (bW (i:=k) (rVq (V.ms 202 v2 0 len)) (rNq k) h202 (cW (by omega)) rfl (by omega) (bT (v:=(aH (nth l k))) rfl h202 (dY (by omega) (by rfl)) ?_)))))))
  refine aA t0 (aA t5 (uJ rfl rfl (by omega) (by omega) (gC (i:=(((k:Nat):Int) - (1:Int))) (rVq (V.ms 202 v2 0 len)) (rVq (iV (((k:Nat):Int) - (1:Int)))) h202 (cW (by omega)) rfl (by omega) (by omega) (bT (v:=(aH (nth l ((((k:Nat):Int) - (1:Int)).toNat)))) rfl h202 (dY (by omega) (by rfl)) (jY (rVq (V.fn 214 [] [(V.mp 3 v3 0 0)])) (bV (rVq (aH (nth l k))) (bV (rVq (aH (nth l ((((k:Nat):Int) - (1:Int)).toNat)))) fP)) (vX (nth l k) (nth l ((((k:Nat):Int) - (1:Int)).toNat))) (cY (dC 6 _ (by simp [-List.map_take,-List.map_drop,-List.map_append,-List.map_reverse])) (cY (dC 6 _ (by simp [-List.map_take,-List.map_drop,-List.map_append,-List.map_reverse])) (cY (by simp [fzv,Blk.own,h3,h202]) rfl))) (by simp [-List.map_take,-List.map_drop,-List.map_append,-List.map_reverse]) (Or.inr rfl) (R_e ?_))))))
  refine kI rfl (fun c6=>?_) fun c6=>?_
  ·
   have d1:nth l k=nth l (k - 1):=by have q:=cS.1 c6; rwa [show (((k:Nat):Int) - (1:Int)).toNat=k - 1 by omega] at q
   have hd:=aBu h1 (by omega) hc d1
   refine W_r (aA t0 (aA t5 (iJ (n:=k) (rVq (V.ms 202 v2 0 len)) (rNq k) h202 (cW (by omega)) rfl (by omega) (aA rfl (R_e (aB (W_r ?_)))))))
   refine aA rfl (R_e (aE fun Q7 n7 x7 y7 z7=>?_))
   refine bP (fun mm T H=> ∃ (j:Nat),mm=l.length - (k+j)∧T 0=(V.ms 202 v2 0 len)∧T 1=(V.fn 214 [] [(V.mp 3 v3 0 0)])∧T 5=(iV (((ddK l (k+j)).length:Nat):Int))∧T 6=(V.ms 202 v2 (0+k) (len - k))∧T 7=(iV ((j:Nat):Int))∧(∀ j,j∉[202]→H j=Hi j)∧H 3=(bk v3 240 1 [[(V.fn 174 [] [])]])∧H 202=(bz v2 25 1 (List.map cL (ddL l (k+j))))∧(k+j≤l.length)∧(1≤j)∧((ddK l (k+j)).length < k+j)) ?_ ?_
   ·
    refine ⟨_,1,rfl,t0,t1,(eTq t5 (by (rw [hd.1]; done))),(eTq (rVq (V.ms 202 v2 (0+k) (len - k))) (by rfl)),(eTq (rVq (iV 1)) rfl),hF,h3,(eTq h202 (by (rw [hd.2]; done))),?_,?_,?_⟩
    · omega
    · omega
    · rw [hd.1]; omega
   intro mm T H ⟨j,hmm,t0,t1,t5,t6,t7,hF,h3,h202,hj,hj1,hlt⟩ Q8 p18 p28 p38
   unfold aDB
   have q1:=aFf (L:=l) (j:=k+j) hj
   have q5:=aMe hlt hj1
   have q6:=aDf (l:=l) (j:=k+j) (by omega)
   refine aB (W_r (aA t7 (aA t6 (dK rfl h202 (by simp) (bO rfl rfl (R_e ?_))))))
   refine aJ rfl (fun c9=>?_) fun c9=>?_
   ·
    refine aG (aE fun Q10 n10 x10 y10 z10=>(W_r (aA t1 (aA t6 (aA t7 (mE (i:=j) (rVq (V.ms 202 v2 (0+k) (len - k))) (rNq j) h202 (cW (by omega)) rfl (by omega) (bT (v:=(aH (nth (ddL l (k+j)) ((0+k)+j)))) rfl h202 (dY (by omega) (by rfl)) ?_)))))))
    refine aA t6 (aA t7 (uJ rfl rfl (by omega) (by omega) (rL (i:=(((j:Nat):Int) - (1:Int))) (rVq (V.ms 202 v2 (0+k) (len - k))) (rVq (iV (((j:Nat):Int) - (1:Int)))) h202 (cW (by omega)) rfl (by omega) (by omega) (bT (v:=(aH (nth (ddL l (k+j)) ((0+k)+(((j:Nat):Int) - (1:Int)).toNat)))) rfl h202 (dY (by omega) (by rfl)) (jY (rVq (V.fn 214 [] [(V.mp 3 v3 0 0)])) (bV (rVq (aH (nth (ddL l (k+j)) ((0+k)+j)))) (bV (rVq (aH (nth (ddL l (k+j)) ((0+k)+(((j:Nat):Int) - (1:Int)).toNat)))) fP)) (vX (nth (ddL l (k+j)) ((0+k)+j)) (nth (ddL l (k+j)) ((0+k)+(((j:Nat):Int) - (1:Int)).toNat))) (cY (dC 6 _ (by simp [-List.map_take,-List.map_drop,-List.map_append,-List.map_reverse])) (cY (dC 6 _ (by simp [-List.map_take,-List.map_drop,-List.map_append,-List.map_reverse])) (cY (by simp [fzv,Blk.own,h3,h202]) rfl))) (by simp [-List.map_take,-List.map_drop,-List.map_append,-List.map_reverse]) (Or.inr rfl) (aBP rfl (R_e ?_)))))))
    refine kI rfl (fun c11=>?_) fun c11=>?_
    ·
     have d5:nth l (k+j)≠nth l (k+j - 1):=fun q=>c11 (cS.2 (by rw [q5.1,q5.2]; exact q))
     refine W_r (aA t0 (aA t5 (aA t6 (aA t7 (mE (i:=j) (rVq (V.ms 202 v2 (0+k) (len - k))) (rNq j) h202 (cW (by omega)) rfl (by omega) (bT (v:=(aH (nth (ddL l (k+j)) ((0+k)+j)))) rfl h202 (dY (by omega) (by rfl)) (bW (i:=((ddK l (k+j)).length)) (rVq (V.ms 202 v2 0 len)) (rNq ((ddK l (k+j)).length)) h202 (cW (by omega)) rfl (by omega) ?_)))))))
     refine bJ (vs:=[(aH (nth (ddL l (k+j)) ((0+k)+j)))]) (B':=(bz v2 25 1 (List.map cL ((ddL l (k+j)).set ((ddK l (k+j)).length) (nth (ddL l (k+j)) ((0+k)+j)))))) rfl rfl rfl h202 (gB (x:=(nth (ddL l (k+j)) ((0+k)+j))) (i:=((ddK l (k+j)).length)) (by omega) rfl rfl rfl rfl) (R_e (W_t (aA t5 (bA rfl (rNq 1) (by omega) (aA rfl (R_e (n10 _ _ ?_)))))))
     refine .done (W_t (aA t7 (bA rfl (rNq 1) (by omega) (aA rfl (R_e ?_)))))
     refine p18 _ _ _ ?_ ⟨(j+1),rfl,t0,t1,(eTq (rNq (((ddK l (k+j)).length)+1)) (by (show _=iV (((ddK l ((k+j)+1)).length:Nat):Int); rw [fG (.inr d5),List.length_append]; rfl))),(eTq t6 (by rfl)),(eTq (rNq (j+1)) (by rfl)),(dE hF (by decide)),h3,(eTq (@rfl Blk (bz v2 25 1 (List.map cL ((ddL l (k+j)).set ((ddK l (k+j)).length) (nth (ddL l (k+j)) ((0+k)+j)))))) (by (rw [q5.1,aCe (show k+j < l.length by omega) (.inr d5)]; rfl))),?_,?_,?_⟩
     · omega
     · omega
     · omega
     · first|(show (ddK l ((k+j)+1)).length < (k+j)+1; rw [fG (.inr d5),List.length_append]; simp; omega)|(show (ddK l ((k+j)+1)).length < (k+j)+1; rw [fO (by rintro (q|q); omega; exact q d5)]; omega)
    have d5:nth l (k+j)=nth l (k+j - 1):=by have q:=cS.1 (Decidable.not_not.1 c11); rwa [q5.1,q5.2] at q
    refine fK (n10 _ _ (.done (W_t (aA t7 (bA rfl (rNq 1) (by omega) (aA rfl (R_e ?_)))))))
    refine p18 _ _ _ ?_ ⟨(j+1),rfl,t0,t1,(eTq t5 (by (show _=iV (((ddK l ((k+j)+1)).length:Nat):Int); rw [fO (by rintro (q|q); omega; exact q d5)]; done))),(eTq t6 (by rfl)),(eTq (rNq (j+1)) (by rfl)),hF,h3,(eTq h202 (by (show _=(⟨_,_,_,_,_,List.map cL (ddL l ((k+j)+1))⟩:Blk); rw [aCu (by rintro (q|q); omega; exact q d5)]; done))),?_,?_,?_⟩
    · omega
    · omega
    · omega
    · first|(show (ddK l ((k+j)+1)).length < (k+j)+1; rw [fG (.inr d5),List.length_append]; simp; omega)|(show (ddK l ((k+j)+1)).length < (k+j)+1; rw [fO (by rintro (q|q); omega; exact q d5)]; omega)
   refine aP (p38 _ _ _ (x7 _ _ (.done (W_r (aA t0 (aA t5 (iJ (n:=((ddK l (k+j)).length)) (rVq (V.ms 202 v2 0 len)) (rNq ((ddK l (k+j)).length)) h202 (cW (by omega)) rfl (by omega) ?_)))))))
   refine aMa (m:=((ddK l (k+j)).length)) (n:=(len - ((ddK l (k+j)).length))) (f:=cL) (l:=(ddL l (k+j))) (eTq (rVq (V.ms 202 v2 (0+((ddK l (k+j)).length)) (len - ((ddK l (k+j)).length)))) (congrArg (fun n=>V.ms 202 v2 n (len - ((ddK l (k+j)).length))) (Nat.zero_add _))) h202 rfl (by decide) rfl (by omega) (by omega) (R_e (W_r (aA t0 (aA t5 (nW (n:=((ddK l (k+j)).length)) (rVq (V.ms 202 v2 0 len)) (rNq ((ddK l (k+j)).length)) (@rfl Blk (bz v2 25 1 (List.map cL (List.take ((ddK l (k+j)).length) (ddL l (k+j)))++List.replicate (len - ((ddK l (k+j)).length)) [V.nilsl]))) (jS (by (simp only [List.length_take]; omega))) rfl (by omega) (aA rfl (R_e ?_)))))))
   refine bH (y5 _ _ (p23 _ _ (y2 _ _ (bF (R:=fun T H=>T 4=(V.ms 202 v2 0 ((ddK l (k+j)).length))∧(∀ j,j∉[202]→H j=Hi j)∧H 3=(bk v3 240 1 [[(V.fn 174 [] [])]])∧H 202=(bz v2 25 1 (List.map cL (List.take ((ddK l (k+j)).length) (ddL l (k+j)))++List.replicate (len - ((ddK l (k+j)).length)) [V.nilsl]))∧True) ⟨(rVq (V.ms 202 v2 0 ((ddK l (k+j)).length))),(dE hF (by decide)),h3,rfl,trivial⟩ ?_))))
   intro T H ⟨t4,hF,h3,h202,_⟩
   skip
   have fh:=dJ.fin (dJ.put (B:=(bz v2 25 1 (List.map cL (ddK l l.length)++List.replicate (l.length - (ddK l l.length).length) [V.nilsl]))) (dJ.start hF) h202 (jB.eq (by (rw [aEW (show l.length≤k+j by omega) hj,show k+j=l.length by omega,hn]; done))))
   exact jL t4 fh (cV.trans_eq (cV.same fh _) (by (rw [show k+j=l.length by omega]; done)))
  have d1:nth l k≠nth l (k - 1):=fun q=>c6 (cS.2 (by rw [show (((k:Nat):Int) - (1:Int)).toNat=k - 1 by omega]; exact q))
  refine fK (n5 _ _ (.done (W_t (aA t5 (bA rfl (rNq 1) (by omega) (aA rfl (R_e ?_)))))))
  refine p13 _ _ _ ?_ ⟨(k+1),rfl,t0,t1,(eTq (rNq (k+1)) (by rfl)),hF,h3,h202,?_,?_,?_⟩
  · omega
  · omega
  · omega
  · intro i i1 i2
    by_cases e:i=k
    · subst e; exact d1
    · exact hc i i1 (by omega)
 refine aP (p33 _ _ _ (x2 _ _ (.done (W_r (aA t0 (aA rfl (R_e ?_)))))))
 refine bH (bF (R:=fun T H=>T 4=(V.ms 202 v2 0 len)∧(∀ j,j∉[202]→H j=Hi j)∧H 3=(bk v3 240 1 [[(V.fn 174 [] [])]])∧H 202=(bz v2 25 1 (List.map cL l))∧True) ⟨(rVq (V.ms 202 v2 0 len)),hF,h3,h202,trivial⟩ ?_)
 intro T H ⟨t4,hF,h3,h202,_⟩
 have hall:=aAR (l:=l) (fun i i1 i2=>hc i i1 (by omega))
 have fh:=dJ.fin (dJ.put (B:=(bz v2 25 1 (List.map cL (ddK l l.length)++List.replicate (l.length - (ddK l l.length).length) [V.nilsl]))) (dJ.start hF) h202 (jB.eq (by (rw [hall]; simp; done))))
 exact jL t4 fh (cV.trans_eq (cV.same fh _) (by (rw [hall,hn]; done)))
end Go.Proofs.YtmnnhjhkaepbaaaGreat
namespace Go.Proofs.YtmnnhjhkaepbaaaGreat
open Go Go.Sort Go.Proofs Go.Shelf
theorem R.pure_same {x y:Cx} {v:V} {c:Value} (h:R x v c) (hp:v.pure=true) (hw: ∀ b,x.Z b→y.w.heap[b]?=x.w.heap[b]?) (hz: ∀ b,x.Z b→y.Z b):R y v c:=by
  have keep: ∀ a:Addr,x.Z a.block→ ∀ n,y.w.cell? (a.add n)=x.w.cell? (a.add n):=fun a ha n=>by
    refine qR ?_
    rw [eT]; exact hw _ ha
  induction h with
  |int k n=>exact .int k n
  |bool b=>exact .bool b
  |str s=>exact .str s
  |nilsl=>exact .nilsl
  |slnil=>exact .slnil
  | sl rows a cap sz cs hc hm hzz hsz hcell _ ih =>
    simp only [V.pure] at hp
    refine .sl rows a cap sz cs hc hm (fun hne=>hz _ (hzz hne)) hsz (fun r row j v hr hj=>by rw [keep a (hzz (by intro e; subst e; simp at hr))]; exact hcell r row j v hr hj) fun r row j v hr hj=>ih r row j v hr hj ?_
    exact cA.1 (gE.1 hp row (List.mem_of_getElem? hr)) v (List.mem_of_getElem? hj)
  |ms=>simp [V.pure] at hp
  | pp cells a cs hzz hcell _ ih =>
    simp only [V.pure] at hp
    exact .pp cells a cs (fun hne=>hz _ (hzz hne)) (fun j v hj=>by rw [keep a (hzz (by intro e; subst e; simp at hj))]; exact hcell j v hj) fun j v hj=>ih j v hj (cA.1 hp v (List.mem_of_getElem? hj))
  |nilp=>exact .nilp
  |mp=>simp [V.pure] at hp
  | agg cells cs hs _ ih =>
    simp only [V.pure] at hp
    exact .agg cells cs hs fun j v hj=>ih j v hj (cA.1 hp v (List.mem_of_getElem? hj))
  | tup vs cs hs _ ih =>
    simp only [V.pure] at hp
    exact .tup vs cs hs fun j v hj=>ih j v hj (cA.1 hp v (List.mem_of_getElem? hj))
  | fn f first caps fs cs hfs hcs _ _ ih1 ih2 =>
    simp only [V.pure,Bool.and_eq_true] at hp
    exact .fn f first caps fs cs hfs hcs (fun j v hj=>ih1 j v hj (cA.1 hp.1 v (List.mem_of_getElem? hj))) fun j v hj=>ih2 j v hj (cA.1 hp.2 v (List.mem_of_getElem? hj))
  |raw c hh=>exact .raw c hh
  |mm=>simp [V.pure] at hp
theorem aFw {x:Cx} (hx:Inv x) (os:Array Obj):let y:Cx:={x with w:=Go.Sort.grow x.w os}; Inv y∧Frame x y:=by
  intro y
  have hp: ∀ b,b < x.w.heap.size→y.w.heap[b]?=x.w.heap[b]?:=fun b hb=>by
    show (x.w.heap++os)[b]?=_
    rw [Array.getElem?_append,if_pos hb]
  have hs:x.w.heap.size≤y.w.heap.size:=by show _≤(x.w.heap++os).size; simp
  have hf:Frame x y:=by
    refine ⟨rfl,rfl,rfl,hs,fun b hb _=>hp b hb,fun _ h=>h,fun b h=>.inl h,fun id=>⟨Nat.le_refl _,fun h _=>⟨h,rfl,rfl,fun _=>rfl,fun h=>⟨rfl,?_⟩⟩⟩,fun _ h=>.inl ⟨h,rfl⟩,Nat.le_refl _,fun _ _ _=>rfl⟩
    unfold bQ; rw [hp _ (hx.lt h)]
  refine ⟨⟨fun b h=>Nat.lt_of_lt_of_le (hx.zlt b h) hs,hx.zown,fun id hl=>?_,hx.inj,hx.tab_of hf⟩,hf⟩
  obtain ⟨cc,h1,h2,h3,h4⟩:=hx.blk id hl
  exact ⟨cc,by rw [hp _ (hx.lt hl)]; exact h1,h2,h3,fun r row j v hr hj=>(h4 r row j v hr hj).frame hx hf⟩
def aBZ (P:Program) (f:Nat):Prop:= ∀ (p:Option Addr) (cap:Nat) (fv:Value) (w:World),Calls P f #[.slice p 0 cap,fv] w fun e w'=>e=.returned (.tuple #[])∧w'=w
theorem tD {P:Program} {g:Nat} (h:cG P g): ∀ args w,(callFunc g args).run P w=.ok (.enter g args) w:=by
  obtain ⟨fn,h1,h2,h3⟩:=h
  obtain ⟨c,hc⟩:=Option.isSome_iff_exists.1 h2
  exact enters_of h1 h3 hc
theorem uX {z y:Cx} (hf:Frame z y) (hno: ∀ id,(z.H id).own=false): ∃ q os,y.w=grow (z.w.drewN q) os:=by
  refine ⟨y.w.drawn - z.w.drawn,y.w.heap.extract z.w.heap.size y.w.heap.size,?_⟩
  have e1:=hf.os; have e2:=hf.tape; have e3:=hf.output; have e4:=hf.drawn; have e5:=hf.size
  have e6:y.w.heap=z.w.heap++y.w.heap.extract z.w.heap.size y.w.heap.size:=by
    refine Array.ext_getElem? fun b=>?_
    rw [Array.getElem?_append]
    split
    · rename_i hb
      exact hf.keep b hb fun id h=>by rw [hno id] at h; cases h
    · rename_i hb
      rw [Array.getElem?_extract]
      by_cases h:b < y.w.heap.size
      · rw [if_pos (by omega)]; congr 1; omega
      · rw [if_neg (by omega),Array.getElem?_eq_none (by omega)]
  have e7:y.w.drawn=z.w.drawn+(y.w.drawn - z.w.drawn):=by omega
  unfold grow World.drewN
  cases hy:y.w with
  | mk heap tape drawn os output =>
    rw [hy] at e1 e2 e3 e6 e7
    simp only at e1 e2 e3 e6 e7 ⊢
    rw [← e6,← e7,e1,e2,e3]
section
variable {P:Program} {α:Type} [Inhabited α] {enc:α→List Value} {k:Nat} {w:World} {blk off m:Nat} {dk:Array α} {os:Array Obj}
end
theorem oE {α:Type} [Inhabited α] (d:Array α) (i:Nat) (h:i < d.size):d[i]! =nth d.toList i:=by
  rw [getElem!_pos d i h,← aO (by simpa using h)]; rfl
section
variable {P:Program}
end
end Go.Proofs.YtmnnhjhkaepbaaaGreat
namespace Go.Proofs.YtmnnhjhkaepbaaaGreat
open Go Go.Proofs Go.Shelf Go.Sort Go.Lib
def zC (P : Program) (f : Nat) : Prop := ∀ {α : Type} [Inhabited α] (enc : α → Value) (_ : OneCell enc) (cf : α → α → Int) (_ : SWO (ltOf cf)) (g : Nat) (cb : Array Value) (blk off cap : Nat) (d : Array α) (w : World)
    (_: ∀ args w,(callFunc g args).run P w=.ok (.enter g args) w) (_:CmpLays1 P g cb enc cf blk off d.size w) (_:Holds enc w blk off d) (_:blk < w.heap.size) (_:d.size < 4611686018427387904),
    Calls P f #[.slice (some ⟨blk,off,none⟩) d.size cap,.func (.func g) #[] cb] w fun e w'=>
      e=.returned (.tuple #[])∧ ∃ d' n os,PermIn 0 d.size d d'∧SortedIn (ltOf cf) 0 d.size d'∧w'=sortWorld enc w blk off n d' os
section
variable {P:Program} {α:Type} [Inhabited α] {enc:α→Value} {w:World} {blk off m:Nat} {dk:Array α} {os:Array Obj}
theorem kP {b:Nat} (hb:b < w.heap.size) (hne:b≠blk):(sortWorld enc w blk off m dk os).heap[b]?=w.heap[b]?:=by
  unfold sortWorld grow putRow mapBlock Sort.ahead
  simp only
  rw [Array.getElem?_append,if_pos (by simpa using hb),Array.getElem?_modify,if_neg (Ne.symm hne)]
theorem tG:w.heap.size≤(sortWorld enc w blk off m dk os).heap.size:=by
  unfold sortWorld grow putRow mapBlock Sort.ahead
  simp
theorem xO {cc:Array Value} {ty:TypeId} (h:w.heap[blk]?=some (.cells cc ty (0,0))):
    sortWorld enc w blk off m dk os=grow {w.setRow blk (putCells enc off dk cc) with drawn:=w.drawn+m} os:=by
  unfold sortWorld putRow mapBlock Sort.ahead World.setRow
  congr 2
  refine Array.ext_getElem? fun b=>?_
  simp only [Array.getElem?_modify]
  by_cases e:blk=b
  · subst e
    simp only [if_true,h,Option.map_some,onCells]
  · simp only [if_neg e]
end
theorem qH {P:Program} {f g:Nat} (hS:zC P f) (hN:aBZ P f) (hcf:cG P f) (hcg:cG P g) {T:Type} [Inhabited T] {f0:T→V} {l:List T} {cmp:T→T→Int}
    (hO:SWO fun a b=>decide (cmp a b < 0)) (hT: ∀ a∈l,∀ b∈l,¬cmp a b < 0→ ¬cmp b a < 0→a=b)
    (hc: ∀ a∈l,∀ b∈l,aS P g [f0 a,f0 b] (iV (cmp a b))) (hp: ∀ a∈l,(f0 a).pure=true) (h1: ∀ a∈l,(f0 a).one=true)
    (hl:l.length < 4611686018427387904) {id ver ty:Nat} {lz:Bool} {H:aF} (hH:H id=⟨ver,true,lz,ty,1,l.map fun a=>[f0 a]⟩):
    dB P f [.ms id ver 0 l.length,.fn g [] []] H (.tup []) (upd H id ⟨ver,true,lz,ty,1,(srt cmp l).map fun a=>[f0 a]⟩):=by
  refine ⟨hcf,fun x cs hxH hx hr=>?_⟩
  subst hxH
  obtain ⟨c0,c1,rfl⟩: ∃ c0 c1,cs=[c0,c1]:=by
    have:=hr.1
    match cs with
    |[a,b]=>exact ⟨a,b,rfl⟩
    |[]=>simp at this
    |[_]=>simp at this
    |_::_::_::_=>simp at this
  have r0:R x (.ms id ver 0 l.length) c0:=hr.2 0 _ rfl
  have r1:R x (.fn g [] []) c1:=hr.2 1 _ rfl
  cases r1 with
  |fn _ _ _ fs cb hfs hcs _ _=>
  have hfs':fs=#[]:=Array.eq_empty_of_size_eq_zero (by simpa using hfs)
  have hcs':cb=#[]:=Array.eq_empty_of_size_eq_zero (by simpa using hcs)
  subst hfs'; subst hcs'
  cases r0 with
  |ms _ _ _ _ b n cap hv hh hm=>
  obtain ⟨e1,e2,e3,e4,e5,e6⟩:=hh (by rw [hH]) (by rw [hH])
  subst e1
  by_cases hne:l=[]
  · subst hne
    refine (hN b cap (.func (.func g) #[] #[]) x.w).mono fun e w' h=>?_
    obtain ⟨rfl,rfl⟩:=h
    refine ⟨_,x,rfl,rfl,?_,hx,.tup [] #[] rfl (fun j v hj=>by simp at hj),Frame.refl x⟩
    funext j
    by_cases e:j=id
    · subst e; rw [aC,hH]; rfl
    · rw [aQ _ _ e]
  have hpos:0 < l.length:=List.length_pos_iff.2 hne
  have ho:(x.H id).own=true:=by
    rw [hH]
    cases l with
    |nil=>exact (hne rfl).elim
    |cons a l=>simp [Blk.own]
  obtain ⟨e7,_⟩:=e5 ho
  rw [hH] at e7
  simp only [Nat.zero_mul] at e7
  subst e7
  obtain ⟨cc,b1,b2,b3,b4⟩:=hx.cel id ho (hm (by rw [hH]) (by rw [hH]))
  simp only [hH] at b1 b2 b3 b4
  rw [List.length_map,Nat.mul_one] at b3
  let A:Type:={i:Nat // i < l.length}
  haveI:Inhabited A:=⟨⟨0,hpos⟩⟩
  let enc:A→Value:=fun i=>cc.getD i.1 undef
  let cf:A→A→Int:=fun a b=>cmp (nth l a.1) (nth l b.1)
  let d:Array A:=Array.ofFn fun i:Fin l.length=>(⟨i.1,i.2⟩:A)
  have hdn:d.size=l.length:=by simp [d]
  have hdi: ∀ i (h:i < l.length),d[i]! =⟨i,h⟩:=fun i h=>by
    rw [getElem!_pos d i (by rw [hdn]; exact h)]; simp [d]
  have hrow: ∀ i,i < l.length→(l.map fun a=>[f0 a])[i]?=some [f0 (nth l i)]:=fun i hi=>by rw [List.getElem?_map,wP hi]; rfl
  have hRx: ∀ a:A,R x (f0 (nth l a.1)) (cc.getD a.1 undef):=fun a=>by
    have:=b4 a.1 _ 0 _ (hrow a.1 a.2) rfl
    rwa [Nat.mul_one,Nat.add_zero] at this
  have hO':SWO (ltOf cf):=⟨fun a=>hO.irrefl _,fun a b c=>hO.trans _ _ _,fun a b c=>hO.ntrans _ _ _⟩
  have hcmp:CmpLays1 P g #[] enc cf (x.σ id) 0 d.size x.w:=by
    intro m os dk hdk a b
    let W:=sortWorld enc x.w (x.σ id) 0 m dk os
    let z:Cx:=start {x with w:=W} x.Z
    have hz:Inv z:=mT (fun b hb=>Nat.lt_of_lt_of_le (hx.zlt b hb) tG) fun p hp=>⟨(hx.tab p hp).1,by
      obtain ⟨q1,q2⟩:=hx.tab p hp
      show ∃ ty m,W.heap[p.1]?=_
      rw [show W.heap[p.1]?=x.w.heap[p.1]? from kP (hx.zlt _ q1) fun e=>hx.zown _ id q1 ho e.symm]; exact q2⟩
    have hag: ∀ a:A,R z (f0 (nth l a.1)) (enc a):=fun a=>by
      refine (hRx a).pure_same (y:=z) (hp _ (aR a.2)) (fun b hb=>?_) fun _ h=>h
      exact kP (hx.zlt b hb) fun e=>hx.zown b id hb ho e.symm
    have hrl:RL z [f0 (nth l a.1),f0 (nth l b.1)] [enc a,enc b]:=by
      refine ⟨rfl,fun j v hj=>?_⟩
      match j,hj with
      |0,hj=>simp at hj; subst hj; exact hag a
      |1,hj=>simp at hj; subst hj; exact hag b
    refine ((hc _ (aR a.2) _ (aR b.2) H0).2 z _ rfl hz hrl).mono fun e w' h=>?_
    obtain ⟨c,y,rfl,rfl,_,_,h5,h6⟩:=h
    cases h5
    obtain ⟨q,os',hq⟩:=uX h6 fun id=>rfl
    exact ⟨rfl,q,os',hq⟩
  have hsz:d.size < 4611686018427387904:=by rw [hdn]; exact hl
  have hH':Holds enc x.w (x.σ id) 0 d:=by
    intro j hj
    rw [hdn] at hj
    have e:enc d[j]! =cc.getD j undef:=by rw [hdi _ hj]
    have hjc:j < cc.size:=by omega
    refine ⟨?_,?_⟩
    · rw [e,Nat.zero_add]; exact gR b1 hjc
    · simp [World.frozen?,b1]
  have hcall:=hS enc (fun a=>(hRx a).one (h1 _ (aR a.2))) cf hO' g #[] (x.σ id) 0 cap d x.w (tD hcg) hcmp hH' (hx.lt ho) hsz
  rw [hdn] at hcall
  refine hcall.mono fun e w' h=>?_
  obtain ⟨rfl,d',n',os',hP,hSo,rfl⟩:=h
  obtain ⟨p1,_,p3⟩:=hP
  rw [hdn] at p1
  have x1:d'.extract 0 l.length=d':=by rw [← p1]; simp
  have x2:d.extract 0 l.length=d:=by rw [← hdn]; simp
  rw [x1,x2] at p3
  have hmap:d.toList.map (fun a:A=>nth l a.1)=l:=by
    refine fZ (by simp [hdn]) fun j hj=>?_
    have hj':j < l.length:=by simpa [hdn] using hj
    rw [eP (by simpa using hj),← oE d j (by rw [hdn]; exact hj'),hdi j hj']
  have hl':d'.toList.map (fun a:A=>nth l a.1)=srt cmp l:=by
    have hperm:(d'.toList.map (fun a:A=>nth l a.1)).Perm l:=by
      have:=p3.map (fun a:A=>nth l a.1)
      rwa [hmap] at this
    refine sU (le:=fun a b=> ¬cmp b a < 0) (fun a ha b hb h1 h2=>hT a (hperm.mem_iff.1 ha) b (hperm.mem_iff.1 hb) h2 h1) (hperm.trans (mA cmp l).symm) ?_ (lJ hO l)
    rw [List.pairwise_map,List.pairwise_iff_getElem]
    intro i j hi hj hij
    have h:=hSo i j (Nat.zero_le _) hij (by rw [← p1]; simpa using hj)
    rw [oE d' i (by simpa using hi),oE d' j (by simpa using hj),← aO hi,← aO hj] at h
    simpa [ltOf,cf] using h
  let cc':=putCells enc 0 d' cc
  have hcs:cc'.size=cc.size:=by simp [cc',putCells]
  have hg: ∀ r,r < l.length→ ∀ (hr:r < d'.size),cc'.getD r undef=cc.getD (d'[r]'hr).1 undef:=by
    intro r hr hr'
    have e:cc'[r]?=some (enc d'[r]!):=by
      simp only [cc',putCells,Array.getElem?_mapIdx]
      rw [Array.getElem?_eq_getElem (by omega)]
      simp [hr']
    rw [Array.getD_eq_getD_getElem?,e,getElem!_pos d' r hr']
    rfl
  have hrows: ∀ (r:Nat) (row:List V) (j:Nat) (v:V),((srt cmp l).map fun a=>[f0 a])[r]?=some row→row[j]?=some v→R x v (cc'.getD (r*1+j) undef):=by
    intro r row j v hr hj
    rw [← hl',List.map_map,List.getElem?_map] at hr
    obtain ⟨a,ha,rfl⟩:=map_some hr
    have har:=List.getElem?_eq_some_iff.1 ha
    obtain ⟨hlt,hae⟩:=har
    have hlt':r < d'.size:=by simpa using hlt
    have hj0:j=0:=by
      have:=(List.getElem?_eq_some_iff.1 hj).1
      simp at this; exact this
    subst hj0
    simp only [Function.comp_apply,List.getElem?_cons_zero,Option.some.injEq] at hj
    subst hj
    rw [Nat.mul_one,Nat.add_zero,hg r (by omega) hlt']
    have hae':d'[r]'hlt'=a:=by simpa using hae
    rw [hae']
    exact hRx a
  have st:=gU hx id ho cc cc' (by rw [hH]; exact b1) hcs (x.H id).ver ((srt cmp l).map fun a=>[f0 a]) (Nat.le_refl _) (fun _=>by rw [hH]; simp [iZ]) (by
      rw [hH]
      have:(srt cmp l).length=l.length:=by simp [iZ]
      cases hq:srt cmp l with
      |nil=>rw [hq] at this; simp at this; omega
      |cons a q=>simp) (fun r hr=>by
      rw [hH]
      obtain ⟨a,_,rfl⟩:=List.mem_map.1 hr
      rfl) (by rw [hH]; simpa [iZ] using b3) (by simp only [hH]; exact hrows)
  simp only [hH] at st
  obtain ⟨i1,f1⟩:=st
  obtain ⟨i2,f2⟩:=fI i1 (x.w.drawn+n') (Nat.le_add_right _ _)
  obtain ⟨i3,f3⟩:=aFw i2 os'
  refine ⟨.tuple #[],_,rfl,?_,?_,i3,.tup [] #[] rfl (fun j v hj=>by simp at hj),(f1.trans f2).trans f3⟩
  · rw [xO b1]
  · rfl
end Go.Proofs.YtmnnhjhkaepbaaaGreat
namespace Go.Proofs.YtmnnhjhkaepbaaaGreat
open Go Go.Proofs Go.Shelf Go.Sort
def aC6:Go.Shelf.Ren:=⟨fun|6=>212|15=>234|14=>233|28=>246|29=>247|20=>238|21=>239|22=>240|23=>241|24=>242|25=>243|26=>244|27=>245|46=>249|47=>250|48=>251|49=>252|50=>253|57=>255|n=>n,fun|22=>22|24=>25|25=>240|3=>3|39=>293|0=>0|53=>312|55=>314|4=>4|46=>306|45=>305|50=>132|5=>5|9=>9|66=>315|70=>319|76=>322|77=>209|n=>n,fun n=>n⟩
theorem uI:SlLaysF.n6 Tryz.prog aC6:={
  mixed:=(by kernel_rfl),
  f6:=⟨Tryz.f212.name,by decide,Tryz.func212.trans (congrArg some (by kernel_rfl))⟩,
  f14:=⟨Tryz.f233.name,by decide,Tryz.func233.trans (congrArg some (by kernel_rfl))⟩,
  f15:=Tryz.func234.trans (congrArg some (by kernel_rfl)),
  f20:=⟨Tryz.f238.name,by decide,Tryz.func238.trans (congrArg some (by kernel_rfl))⟩,
  f21:=⟨Tryz.f239.name,by decide,Tryz.func239.trans (congrArg some (by kernel_rfl))⟩,
  f22:=⟨Tryz.f240.name,by decide,Tryz.func240.trans (congrArg some (by kernel_rfl))⟩,
  f23:=⟨Tryz.f241.name,by decide,Tryz.func241.trans (congrArg some (by kernel_rfl))⟩,
  f24:=⟨Tryz.f242.name,by decide,Tryz.func242.trans (congrArg some (by kernel_rfl))⟩,
  f25:=⟨Tryz.f243.name,by decide,Tryz.func243.trans (congrArg some (by kernel_rfl))⟩,
  f26:=⟨Tryz.f244.name,by decide,Tryz.func244.trans (congrArg some (by kernel_rfl))⟩,
  f27:=⟨Tryz.f245.name,by decide,Tryz.func245.trans (congrArg some (by kernel_rfl))⟩,
  f28:=Tryz.func246.trans (congrArg some (by kernel_rfl)),
  f29:=Tryz.func247.trans (congrArg some (by kernel_rfl)),
  f46:=⟨Tryz.f249.name,by decide,Tryz.func249.trans (congrArg some (by kernel_rfl))⟩,
  f47:=Tryz.func250.trans (congrArg some (by kernel_rfl)),
  f48:=Tryz.func251.trans (congrArg some (by kernel_rfl)),
  f49:=⟨Tryz.f252.name,by decide,Tryz.func252.trans (congrArg some (by kernel_rfl))⟩,
  f50:=⟨Tryz.f253.name,by decide,Tryz.func253.trans (congrArg some (by kernel_rfl))⟩,
  f57:=⟨Tryz.f255.name,by decide,Tryz.func255.trans (congrArg some (by kernel_rfl))⟩,
  t0:=Tryz.underlying0,
  a0:=Tryz.isAgg0,
  z0:=Tryz.sizeOf0,
  v0:=Tryz.zeroValue0,
  t3:=Tryz.underlying3,
  a3:=Tryz.isAgg3,
  z3:=Tryz.sizeOf3,
  v3:=Tryz.zeroValue3,
  t4:=Tryz.underlying4,
  a4:=Tryz.isAgg4,
  z4:=Tryz.sizeOf4,
  v4:=Tryz.zeroValue4,
  t5:=Tryz.underlying5,
  a5:=Tryz.isAgg5,
  z5:=Tryz.sizeOf5,
  v5:=Tryz.zeroValue5,
  t9:=Tryz.underlying9,
  a9:=Tryz.isAgg9,
  z9:=Tryz.sizeOf9,
  v9:=Tryz.zeroValue9,
  t22:=Tryz.underlying22,
  a22:=Tryz.isAgg22,
  z22:=Tryz.sizeOf22,
  v22:=Tryz.zeroValue22,
  a24:=Tryz.isAgg25,
  z24:=Tryz.sizeOf25,
  t25:=Tryz.underlying240,
  a25:=Tryz.isAgg240,
  z25:=Tryz.sizeOf240,
  v25:=Tryz.zeroValue240,
  t39:=Tryz.underlying293,
  a39:=Tryz.isAgg293,
  z39:=Tryz.sizeOf293,
  v39:=Tryz.zeroValue293,
  t45:=Tryz.underlying305,
  a45:=Tryz.isAgg305,
  z45:=Tryz.sizeOf305,
  v45:=Tryz.zeroValue305,
  t46:=Tryz.underlying306,
  a46:=Tryz.isAgg306,
  z46:=Tryz.sizeOf306,
  v46:=Tryz.zeroValue306,
  t50:=Tryz.underlying132,
  a50:=Tryz.isAgg132,
  z50:=Tryz.sizeOf132,
  v50:=Tryz.zeroValue132,
  t53:=Tryz.underlying312,
  a53:=Tryz.isAgg312,
  z53:=Tryz.sizeOf312,
  v53:=Tryz.zeroValue312,
  t55:=Tryz.underlying314,
  a55:=Tryz.isAgg314,
  z55:=Tryz.sizeOf314,
  v55:=Tryz.zeroValue314,
  t66:=Tryz.underlying315,
  a66:=Tryz.isAgg315,
  z66:=Tryz.sizeOf315,
  v66:=Tryz.zeroValue315,
  t70:=Tryz.underlying319,
  a70:=Tryz.isAgg319,
  z70:=Tryz.sizeOf319,
  v70:=Tryz.zeroValue319,
  t76:=Tryz.underlying322,
  a76:=Tryz.isAgg322,
  z76:=Tryz.sizeOf322,
  v76:=Tryz.zeroValue322,
  t77:=Tryz.underlying209,
  a77:=Tryz.isAgg209,
  z77:=Tryz.sizeOf209,
  v77:=Tryz.zeroValue209}
theorem sY:zC Tryz.prog 212:=fun enc h1 cf hO g cb blk off cap d w eg hcmp hH hblk hsz=>
  Any.slices_SortFunc uI enc h1 cf hO g cb blk off cap d w eg hcmp hH hblk hsz
theorem rZ:cG Tryz.prog 212:=⟨_,Tryz.func212,by kernel_rfl,by kernel_rfl⟩
theorem sP:aBZ Tryz.prog 212:=fun p cap fv w=>AnyF.slices_SortFunc_none {uI with} p cap fv w
end Go.Proofs.YtmnnhjhkaepbaaaGreat
namespace Go.Proofs.YtmnnhjhkaepbaaaGreat
open Go Go.Proofs
theorem aAw (l:List (List Int)) (hl:l.length≤1073741824) (hw: ∀ w∈l,w.length≤1048576):aS Tryz.prog 173 [(aD l),(V.fn 176 [] [])] (aD (sdP l)):=by
 refine pW Tryz.func173 aEt fun hB=>?_
 unfold aQ0
 dsimp only
 have q9:(ddK (srt slx l) (srt slx l).length).length≤l.length:=aKC l
 refine W_r (eU (i:=3) (n:=0) (m:=1) (cs:=[(V.fn 176 [] [])]) rfl (cVq rfl) rfl rfl rfl (aA rfl (R_e (W_r (aA rfl (jA (bV rfl fP) (aCk l 0 _ (cVq rfl) (by omega)) (aA rfl ?_)))))))
 refine R_e (W_r (aA rfl (bD rfl rfl rfl rfl (jA (bV rfl (bV rfl fP)) (qH (f0:=aH) (l:=l) (cmp:=slx) sY sP rZ ⟨_,Tryz.func176,by kernel_rfl,by kernel_rfl⟩ aEL (fun a _ b _ h1 h2=>aBn h1 h2) (fun a _ b _=>pH a b) (fun a _=>by simp) (fun a _=>rfl) (by omega) rfl) (R_e (W_r (aA rfl ?_)))))))
 refine aE5 (bV rfl fP) (jA (bV rfl (bV rfl fP)) (aJS (srt slx l) 3 1 l.length _ (@rfl Blk (bz 3 25 1 (List.map cL (srt slx l)))) (@rfl Blk (bk 1 240 1 [[(V.fn 176 [] [])]])) (by simp [iZ]) (by simp only [iZ]; omega)) (aA rfl (R_e (aB (W_r (aA rfl (dK rfl (@rfl Blk (bz 3 25 1 (List.map cL (ddK (srt slx l) (srt slx l).length)++List.replicate ((srt slx l).length - (ddK (srt slx l) (srt slx l).length).length) [V.nilsl]))) (by rfl) ?_)))))))
 refine aA rfl (R_e (aE fun Q1 n1 x1 y1 z1=>?_))
 refine bP (fun mm T H=> ∃ (k:Nat),mm=((ddK (srt slx l) (srt slx l).length).length) - k∧T 5=(V.ms 202 3 0 ((ddK (srt slx l) (srt slx l).length).length))∧T 16=(V.ms 202 3 0 ((ddK (srt slx l) (srt slx l).length).length))∧T 17=(iV (((ddK (srt slx l) (srt slx l).length).length:Nat):Int))∧T 18=(iV ((k:Nat):Int))∧H 3=(bk 1 240 1 [[(V.fn 176 [] [])]])∧H 202=(bz 3 25 1 (List.map cL (ddK (srt slx l) (srt slx l).length)++List.replicate ((srt slx l).length - (ddK (srt slx l) (srt slx l).length).length) [V.nilsl]))∧(k≤(ddK (srt slx l) (srt slx l).length).length)) ?_ ?_
 ·
  refine ⟨_,0,rfl,rfl,rfl,rfl,(eTq (rVq (iV 0)) rfl),rfl,rfl,?_⟩
  · omega
 intro mm T H ⟨k,hmm,t5,t16,t17,t18,h3,h202,hk⟩ Q2 p12 p22 p32
 unfold aC2
 refine W_r (bO t18 t17 (R_e ?_))
 refine aJ rfl (fun c3=>?_) fun c3=>?_
 ·
  refine aG (aE fun Q4 n4 x4 y4 z4=>(W_r (aA t18 (bW (i:=k) t16 t18 h202 (jS (by omega)) rfl (by omega) (bT (v:=(aH (nth (ddK (srt slx l) (srt slx l).length) k))) rfl h202 (aD6 (by omega) (by rfl)) (aA rfl (aA rfl ?_)))))))
  refine R_e (W_t (aA t5 (aA rfl (aA rfl (aX (lD (nth (ddK (srt slx l) (srt slx l).length) k) (by have q:=hw (nth (ddK (srt slx l) (srt slx l).length) k) (aIZ.1 (show nth (ddK (srt slx l) (srt slx l).length) k∈sdP l from aR (show k < (ddK (srt slx l) (srt slx l).length).length by omega))); omega)) rfl (bW (i:=k) (rVq (V.ms 202 3 0 ((ddK (srt slx l) (srt slx l).length).length))) (rNq k) h202 (jS (by omega)) rfl (by omega) (bJ (vs:=[(aH (nth (ddK (srt slx l) (srt slx l).length) k))]) (B':=(bz 3 25 1 (List.map cL ((ddK (srt slx l) (srt slx l).length).set k (nth (ddK (srt slx l) (srt slx l).length) k))++List.replicate ((srt slx l).length - (ddK (srt slx l) (srt slx l).length).length) [V.nilsl]))) rfl rfl rfl h202 (aEE (x:=(nth (ddK (srt slx l) (srt slx l).length) k)) (i:=k) (by omega) rfl rfl rfl rfl) ?_)))))))
  refine R_e (n4 _ _ (.done (W_t (bA t18 (rNq 1) (by omega) (aA rfl (R_e ?_))))))
  refine p12 _ _ _ ?_ ⟨(k+1),rfl,t5,t16,t17,(eTq (rNq (k+1)) (by rfl)),h3,(eTq (@rfl Blk (bz 3 25 1 (List.map cL ((ddK (srt slx l) (srt slx l).length).set k (nth (ddK (srt slx l) (srt slx l).length) k))++List.replicate ((srt slx l).length - (ddK (srt slx l) (srt slx l).length).length) [V.nilsl]))) (by (rw [aEx (by omega)]; done))),?_⟩
  · omega
  · omega
 refine aP (p32 _ _ _ (x1 _ _ (.done (W_r (aA t5 (aA rfl (R_e ?_)))))))
 refine bH ?_
 refine bS (rVq (V.ms 202 3 0 ((ddK (srt slx l) (srt slx l).length).length))) (aEs h202 (by rfl) (aCE (l:=(ddK (srt slx l) (srt slx l).length)) (by rfl)) (fun _=>by simp) ?_)
 · rfl
theorem xL (l:List (List Int)) (hl:l.length≤1073741824) (hw: ∀ w∈l,w.length≤1048576):aS Tryz.prog 173 [(aD l),(V.fn 174 [] [])] (aD (sdX l)):=by
 refine pW Tryz.func173 aEt fun hB=>?_
 unfold aQ0
 dsimp only
 have q9:(ddK (srt aZ l) (srt aZ l).length).length≤l.length:=aEQ l
 refine W_r (eU (i:=3) (n:=0) (m:=1) (cs:=[(V.fn 174 [] [])]) rfl (cVq rfl) rfl rfl rfl (aA rfl (R_e (W_r (aA rfl (jA (bV rfl fP) (aCk l 0 _ (cVq rfl) (by omega)) (aA rfl ?_)))))))
 refine R_e (W_r (aA rfl (bD rfl rfl rfl rfl (jA (bV rfl (bV rfl fP)) (qH (f0:=aH) (l:=l) (cmp:=aZ) sY sP rZ ⟨_,Tryz.func174,by kernel_rfl,by kernel_rfl⟩ aBE (fun a _ b _ h1 h2=>yG h1 h2) (fun a _ b _=>aB3 a b) (fun a _=>by simp) (fun a _=>rfl) (by omega) rfl) (R_e (W_r (aA rfl ?_)))))))
 refine aE5 (bV rfl fP) (jA (bV rfl (bV rfl fP)) (aIn (srt aZ l) 3 1 l.length _ (@rfl Blk (bz 3 25 1 (List.map cL (srt aZ l)))) (@rfl Blk (bk 1 240 1 [[(V.fn 174 [] [])]])) (by simp [iZ]) (by simp only [iZ]; omega)) (aA rfl (R_e (aB (W_r (aA rfl (dK rfl (@rfl Blk (bz 3 25 1 (List.map cL (ddK (srt aZ l) (srt aZ l).length)++List.replicate ((srt aZ l).length - (ddK (srt aZ l) (srt aZ l).length).length) [V.nilsl]))) (by rfl) ?_)))))))
 refine aA rfl (R_e (aE fun Q1 n1 x1 y1 z1=>?_))
 refine bP (fun mm T H=> ∃ (k:Nat),mm=((ddK (srt aZ l) (srt aZ l).length).length) - k∧T 5=(V.ms 202 3 0 ((ddK (srt aZ l) (srt aZ l).length).length))∧T 16=(V.ms 202 3 0 ((ddK (srt aZ l) (srt aZ l).length).length))∧T 17=(iV (((ddK (srt aZ l) (srt aZ l).length).length:Nat):Int))∧T 18=(iV ((k:Nat):Int))∧H 3=(bk 1 240 1 [[(V.fn 174 [] [])]])∧H 202=(bz 3 25 1 (List.map cL (ddK (srt aZ l) (srt aZ l).length)++List.replicate ((srt aZ l).length - (ddK (srt aZ l) (srt aZ l).length).length) [V.nilsl]))∧(k≤(ddK (srt aZ l) (srt aZ l).length).length)) ?_ ?_
 ·
  refine ⟨_,0,rfl,rfl,rfl,rfl,(eTq (rVq (iV 0)) rfl),rfl,rfl,?_⟩
  · omega
 intro mm T H ⟨k,hmm,t5,t16,t17,t18,h3,h202,hk⟩ Q2 p12 p22 p32
 unfold aC2
 refine W_r (bO t18 t17 (R_e ?_))
 refine aJ rfl (fun c3=>?_) fun c3=>?_
 ·
  refine aG (aE fun Q4 n4 x4 y4 z4=>(W_r (aA t18 (bW (i:=k) t16 t18 h202 (jS (by omega)) rfl (by omega) (bT (v:=(aH (nth (ddK (srt aZ l) (srt aZ l).length) k))) rfl h202 (aD6 (by omega) (by rfl)) (aA rfl (aA rfl ?_)))))))
  refine R_e (W_t (aA t5 (aA rfl (aA rfl (aX (lD (nth (ddK (srt aZ l) (srt aZ l).length) k) (by have q:=hw (nth (ddK (srt aZ l) (srt aZ l).length) k) (nA.1 (show nth (ddK (srt aZ l) (srt aZ l).length) k∈sdX l from aR (show k < (ddK (srt aZ l) (srt aZ l).length).length by omega))); omega)) rfl (bW (i:=k) (rVq (V.ms 202 3 0 ((ddK (srt aZ l) (srt aZ l).length).length))) (rNq k) h202 (jS (by omega)) rfl (by omega) (bJ (vs:=[(aH (nth (ddK (srt aZ l) (srt aZ l).length) k))]) (B':=(bz 3 25 1 (List.map cL ((ddK (srt aZ l) (srt aZ l).length).set k (nth (ddK (srt aZ l) (srt aZ l).length) k))++List.replicate ((srt aZ l).length - (ddK (srt aZ l) (srt aZ l).length).length) [V.nilsl]))) rfl rfl rfl h202 (aEE (x:=(nth (ddK (srt aZ l) (srt aZ l).length) k)) (i:=k) (by omega) rfl rfl rfl rfl) ?_)))))))
  refine R_e (n4 _ _ (.done (W_t (bA t18 (rNq 1) (by omega) (aA rfl (R_e ?_))))))
  refine p12 _ _ _ ?_ ⟨(k+1),rfl,t5,t16,t17,(eTq (rNq (k+1)) (by rfl)),h3,(eTq (@rfl Blk (bz 3 25 1 (List.map cL ((ddK (srt aZ l) (srt aZ l).length).set k (nth (ddK (srt aZ l) (srt aZ l).length) k))++List.replicate ((srt aZ l).length - (ddK (srt aZ l) (srt aZ l).length).length) [V.nilsl]))) (by (rw [aEx (by omega)]; done))),?_⟩
  · omega
  · omega
 refine aP (p32 _ _ _ (x1 _ _ (.done (W_r (aA t5 (aA rfl (R_e ?_)))))))
 refine bH ?_
 refine bS (rVq (V.ms 202 3 0 ((ddK (srt aZ l) (srt aZ l).length).length))) (aEs h202 (by rfl) (aCE (l:=(ddK (srt aZ l) (srt aZ l).length)) (by rfl)) (fun _=>by simp) ?_)
 · rfl
theorem sL (l:List (List Int)) (hl:l.length≤1073741824) (hw: ∀ w∈l,w.length≤1048576):aS Tryz.prog 129 [(aD l)] (aD (sdW l)):=by
 refine pW Tryz.func129 aLf fun hB=>?_
 unfold aSm
 dsimp only
 refine W_r (aA rfl (R_e (W_r (aA rfl (aX (aAw l hl hw) rfl (aA rfl (R_e ?_)))))))
 refine bH ?_
 refine bS (rVq (aD (sdP l))) (sA ?_ (fun _=>by simp))
 · exact aA9 l
def orA (p q : PrimA) : PrimA := ⟨fun id f args H => match p.a id f args H with
    |some r=>some r
    |none=>q.a id f args H,fun f args=>match p.p f args with
    |some r=>some r
    |none=>q.p f args⟩
theorem aHt {P:Program} {p q:PrimA} (hp:eG P p) (hq:eG P q):eG P (orA p q):=by
  constructor
  · intro id f args H v b h
    unfold orA at h
    dsimp only at h
    split at h
    · rename_i r hr; cases h; exact hp.1 _ _ _ _ _ _ hr
    · exact hq.1 _ _ _ _ _ _ h
  · intro f args v h
    unfold orA at h
    dsimp only at h
    split at h
    · rename_i r hr; cases h; exact hp.2 _ _ _ hr
    · exact hq.2 _ _ _ h
def pK : List (List V) → Option (List (List Int))
  |[]=>some []
  | [.sl rows] :: l => match rW rows with
    |some a=>(pK l).map (a:: ·)
    |none=>none
  |_=>none
theorem oH: ∀ {rows:List (List V)} {l:List (List Int)},pK rows=some l→rows=l.map cL
  |[],l,h=>by cases h; rfl
  | [.sl rw] :: r, l, h => by
    simp only [pK] at h
    split at h
    · rename_i a ha
      rw [Option.map_eq_some_iff] at h
      obtain ⟨m,h1,rfl⟩:=h
      rw [oH h1,nB ha]; rfl
    · cases h
def mD : PrimA := ⟨fun _ _ _ _ => none, fun g args => if g = 129 then match args with
    | [.sl rows] => match pK rows with
      |some l=>if l.length≤1073741824∧(l.all fun w=>decide (w.length≤1048576))=true then some (.sl ((sdW l).map cL)) else none
      |none=>none
    |_=>none
  else none⟩
theorem vQ : eG Tryz.prog mD := by
  constructor
  · intro id g args H v b h; cases h
  · intro g args v h
    unfold mD at h
    dsimp only at h
    split at h
    · rename_i hg
      subst hg
      split at h
      · split at h
        · rename_i l hl
          split at h
          · rename_i hc
            cases h
            rw [oH hl]
            exact sL l hc.1 fun w hw=>by simpa using List.all_eq_true.1 hc.2 w hw
          · cases h
        · cases h
      · cases h
    · cases h
def aMN:List SO:=[
 qM 5 0,
 qM 6 1,
 sO 7 (.call false 216 [.t 5,.t 6]),
 qM 8 1,
 qN 9 8,
 qP 10 .eql 7 9,
 qM 4 10]
def aLc:SF:=⟨11,[.tmp 4],.seq (.reg [sO 4 (.mv (.c (.bool false)))]) (.seq (.reg aMN) (.ret))⟩
theorem aED:aM Tryz.prog ⟨[39,75,135,136,137,155,161,186,188,194,195,196,211,212,213,226,230,233,238],[],[],[]⟩ Tryz.f175=some aLc:=by kernel_rfl
def aOI:List SO:=[
 qM 14 0,
 qM 15 5,
 qA 16 1 14 15,
 ql 17 16,
 qM 18 1,
 qM 19 5,
 qA 20 1 18 19,
 ql 21 20,
 qP 22 .neq 17 21]
def aGL:SC:=.seq (.reg [qP 12 .lss 11 10]) (.seq (.cond (.t 12) (.skip) (.exit 0)) (.seq (.block 1 (.seq (.reg [qM 13 11,qM 5 13]) (.seq (.reg aOI) (.cond (.t 22) (.seq (.reg [qM 23 5,qM 4 23]) (.ret)) (.skip))))) (.reg [qC 24 .add 11 1,qM 11 24])))
def aJ4:SF:=⟨30,[.tmp 4],.seq (.reg [qI 4 0]) (.seq (.seq (.reg [qM 6 0,qN 7 6,qM 8 1,qN 9 8,sO 10 (.mn (.t 7) (.t 9)),qI 11 0]) (.block 0 (.loop aGL))) (.seq (.reg [qM 25 0,qN 26 25,qM 27 1,qN 28 27,sO 29 (.mn (.t 26) (.t 28)),qM 4 29]) (.ret)))⟩
theorem aEc:aM Tryz.prog ⟨[39,75,135,136,137,155,161,186,188,194,195,196,211,212,213,226,230,233,238],[],[],[]⟩ Tryz.f216=some aJ4:=by kernel_rfl
theorem aCq (a b:List Int):aS Tryz.prog 216 [(aH a),(aH b)] (iV ((cmn a b:Nat):Int)):=by
 refine pW Tryz.func216 aEc fun hB=>?_
 unfold aJ4
 dsimp only
 refine W_r (aA rfl (R_e (aB (W_r (aA rfl (bI rfl (aA rfl ?_)))))))
 refine bI rfl (aE6 (m:=a.length) (n:=b.length) rfl rfl (aA rfl (R_e (aE fun Q1 n1 x1 y1 z1=>?_))))
 refine bP (fun mm T H=> ∃ (k:Nat),mm=(min a.length b.length) - k∧T 0=(aH a)∧T 1=(aH b)∧T 10=(iV ((min a.length b.length:Nat):Int))∧T 11=(iV ((k:Nat):Int))∧(k≤min a.length b.length)∧(k≤cmn a b)) ?_ ?_
 ·
  refine ⟨_,0,rfl,rfl,rfl,rfl,(eTq (rVq (iV 0)) rfl),?_,?_⟩
  · omega
  · exact Nat.zero_le _
 intro mm T H ⟨k,hmm,t0,t1,t10,t11,hk,hc⟩ Q2 p12 p22 p32
 unfold aGL
 refine W_r (bO t11 t10 (R_e ?_))
 refine aJ rfl (fun c3=>?_) fun c3=>?_
 ·
  refine aG (aE fun Q4 n4 x4 y4 z4=>(W_r (aA t11 (aA rfl (R_e (W_r (aA t0 ?_)))))))
  refine aA rfl (bY (i:=k) (rVq (aH a)) (rNq k) (by omega) rfl (aI rfl rfl (aA t1 (aA rfl (bY (i:=k) (rVq (aH b)) (rNq k) (by omega) rfl (aI rfl rfl (fB rfl rfl ?_)))))))
  refine R_e ?_
  refine kI rfl (fun c5=>?_) fun c5=>?_
  ·
   refine W_r (aA rfl (aA rfl (R_e (bH (y4 _ _ (p22 _ _ (y1 _ _ ?_)))))))
   refine bS (rNq k) (aW ?_)
   · rw [iU hc (by omega)]
  refine fK (n4 _ _ (.done (W_t (bA t11 (rNq 1) (by omega) (aA rfl (R_e ?_))))))
  refine p12 _ _ _ ?_ ⟨(k+1),rfl,t0,t1,t10,(eTq (rNq (k+1)) (by rfl)),?_,?_⟩
  · omega
  · omega
  · exact mL hc (by omega) (by omega) (by omega)
 refine aP (p32 _ _ _ (x1 _ _ (.done (W_r (aA t0 (bI rfl (aA t1 ?_)))))))
 refine bI rfl (aE6 (m:=a.length) (n:=b.length) rfl rfl (aA rfl (R_e (bH ?_))))
 refine bS (rNq (min a.length b.length)) (aW ?_)
 · rw [iU hc (by omega)]; omega
theorem aJ6 (w p:List Int):aS Tryz.prog 175 [(aH w),(aH p)] (V.bool (hp w p)):=by
 refine pW Tryz.func175 aED fun hB=>?_
 unfold aLc
 dsimp only
 refine W_r (aA rfl (R_e (W_r (aA rfl (aA rfl ?_)))))
 have q1:=pA w p
 have q2:=xX w p
 refine aX (aCq w p) rfl (aA rfl (bI rfl (gT rfl rfl (aA rfl (R_e ?_)))))
 have q3:=pA w p
 have q4:=xX w p
 refine bH ?_
 refine bS (rVq (V.bool (decide (((cmn w p:Nat):Int)=((p.length:Nat):Int))))) (eM ?_)
 · unfold hp; exact decide_eq_decide.2 (by omega)
theorem aAG (l:List (List Int)) (hl:l.length≤1073741824) (hw: ∀ w∈l,w.length≤1048576):aS Tryz.prog 128 [(aD l)] (aD (mxW l)):=by
 refine pW Tryz.func128 aJ2 fun hB=>?_
 unfold aRZ
 dsimp only
 refine W_r (aA rfl (R_e (W_r (aA rfl (aX (xL l (by omega) (by omega)) rfl (aA rfl (R_e ?_)))))))
 refine W_r (fF (i:=4) (n:=0) rfl (cVq rfl) (R_e (aB (W_r (aA rfl (bI rfl (aA rfl ?_)))))))
 refine R_e (aE fun Q1 n1 x1 y1 z1=>?_)
 refine bP (fun mm T H=> ∃ (k:Nat) (v:Nat),mm=(sdX l).length - k∧T 3=(aD (sdX l))∧T 4=(V.ms 4 v 0 ((mxO (sdX l) k).length))∧T 9=(aD (sdX l))∧T 10=(iV (((sdX l).length:Nat):Int))∧T 11=(iV ((k:Nat):Int))∧H 4=(bz v 25 1 (List.map cL (mxO (sdX l) k)))∧(k≤(sdX l).length)) ?_ ?_
 ·
  refine ⟨_,0,1,rfl,rfl,(eTq (rVq (V.ms 4 1 0 0)) (by rfl)),rfl,rfl,(eTq (rVq (iV 0)) rfl),(eTq (@rfl Blk (bz 1 25 1 [])) (by rfl)),?_⟩
  · omega
 intro mm T H ⟨k,v,hmm,t3,t4,t9,t10,t11,h4,hk⟩ Q2 p12 p22 p32
 unfold aG4
 have q1:=aEb (sdX l) k
 have q2:=aEQ l
 refine W_r (bO t11 t10 (R_e ?_))
 refine aJ rfl (fun c3=>?_) fun c3=>?_
 ·
  refine aG (aE fun Q4 n4 x4 y4 z4=>(W_r (aA t11 (bY (i:=k) t9 t11 (by omega) rfl (aI rfl rfl (aA rfl (aA rfl ?_)))))))
  refine R_e (W_r (aA rfl (bA rfl (rNq 1) (by omega) (aA t3 (bI rfl (gT rfl rfl (aA rfl ?_)))))))
  refine cC 9 (fun T H=>T 3=(aD (sdX l))∧T 4=(V.ms 4 v 0 ((mxO (sdX l) k).length))∧T 6=(aH (nth (sdX l) k))∧T 9=(aD (sdX l))∧T 10=(iV (((sdX l).length:Nat):Int))∧T 11=(iV ((k:Nat):Int))∧T 30=(V.bool (decide (((k+1:Nat):Int)=(((sdX l).length:Nat):Int))||(!hp (nth (sdX l) (k+1)) (nth (sdX l) k))))∧H 4=(bz v 25 1 (List.map cL (mxO (sdX l) k)))∧True) ?_ ?_
  ·
   by_cases g5:((k+1:Nat):Int)=(((sdX l).length:Nat):Int)
   ·
    refine G_n (edT g5 rfl) (G_n (edT g5 rfl) (G_n (edT g5 rfl) (G_n (edT g5 rfl) (G_n (edT g5 rfl) (G_n (edT g5 rfl) (G_n (edT g5 rfl) (G_n (edT g5 rfl) ?_)))))))
    refine bZ (edT g5 rfl) rfl ?_
    exact ⟨t3,t4,rfl,t9,t10,t11,(aS2 g5),h4,trivial⟩
   ·
    refine aT (edF g5 rfl) (aA t3 (aT (edF g5 rfl) (aA rfl (aT (edF g5 rfl) (bA rfl (rNq 1) (by omega) (aT (edF g5 rfl) (bY (i:=(k+1)) (rVq (aD (sdX l))) (rNq (k+1)) (by omega) rfl ?_)))))))
    refine aT (edF g5 rfl) (aI rfl rfl (aT (edF g5 rfl) (aA rfl (aT (edF g5 rfl) (aX (aJ6 (nth (sdX l) (k+1)) (nth (sdX l) k)) rfl (aT (edF g5 rfl) (aAX rfl ?_)))))))
    refine cD (edF g5 rfl) rfl ?_
    exact ⟨t3,t4,rfl,t9,t10,t11,(aRC g5),h4,trivial⟩
  intro T H ⟨t3,t4,t6,t9,t10,t11,t30,h4,_⟩
  refine R_e ?_
  refine aEy t30 (fun c6=>?_) (fun c6=>?_)
  ·
   have d1:mxC (sdX l) k=true:=c6
   refine W_t (aA t4 (aA t6 (cO rfl rfl (cH (l:=(mxO (sdX l) k)) (f:=cL) (x:=(nth (sdX l) k)) (rVq (V.ms 4 v 0 ((mxO (sdX l) k).length))) h4 (by rfl) (rVq (V.sl [[(aH (nth (sdX l) k))]])) rfl rfl (by omega) (by omega) (aA rfl (R_e (n4 _ _ ?_)))))))
   refine .done (W_t (bA t11 (rNq 1) (by omega) (aA rfl (R_e ?_))))
   refine p12 _ _ _ ?_ ⟨(k+1),(v+1),rfl,t3,(eTq (rVq (V.ms 4 (v+1) 0 (((mxO (sdX l) k).length)+1))) (by (rw [aAn d1,List.length_append]; rfl))),t9,t10,(eTq (rNq (k+1)) (by rfl)),(eTq (@rfl Blk (bz (v+1) 25 1 (List.map cL (mxO (sdX l) k++[(nth (sdX l) k)])))) (by (rw [aAn d1]; done))),?_⟩
   · omega
   · omega
  have d1:mxC (sdX l) k=false:=by unfold mxC; simpa using c6
  refine fK (n4 _ _ (.done (W_t (bA t11 (rNq 1) (by omega) (aA rfl (R_e ?_))))))
  refine p12 _ _ _ ?_ ⟨(k+1),v,rfl,t3,(eTq t4 (by (rw [aDv d1]; done))),t9,t10,(eTq (rNq (k+1)) (by rfl)),(eTq h4 (by (rw [aDv d1]; done))),?_⟩
  · omega
  · omega
 refine aP (p32 _ _ _ (x1 _ _ (bF (R:=fun T H=>T 3=(aD (sdX l))∧T 4=(V.ms 4 v 0 ((mxO (sdX l) k).length))∧T 9=(aD (sdX l))∧T 10=(iV (((sdX l).length:Nat):Int))∧T 11=(iV ((k:Nat):Int))∧T 12=(V.bool (decide (((k:Nat):Int) < (((sdX l).length:Nat):Int))))∧H 4=(bz v 25 1 (List.map cL (mxO (sdX l) k)))∧True) ⟨t3,t4,t9,t10,t11,(rVq (V.bool (decide (((k:Nat):Int) < (((sdX l).length:Nat):Int))))),h4,trivial⟩ ?_)))
 intro T H ⟨t3,t4,t9,t10,t11,t12,h4,_⟩
 refine .freeze 4 (.done ?_)
 refine bF (R:=fun T H=>T 3=(aD (sdX l))∧T 4=(aD (mxO (sdX l) k))∧T 9=(aD (sdX l))∧T 10=(iV (((sdX l).length:Nat):Int))∧T 11=(iV ((k:Nat):Int))∧T 12=(V.bool (decide (((k:Nat):Int) < (((sdX l).length:Nat):Int))))∧((H 4).ver=v∧(H 4).live=false)∧True) ⟨(aK t3 rfl),(aK t4 (kC h4 (by simp) (l:=(mxO (sdX l) k)) rfl (by rfl))),(aK t9 rfl),(aK t10 rfl),(aK t11 rfl),(aK t12 rfl),(bN (cVq h4)),trivial⟩ ?_
 intro T H ⟨t3,t4,t9,t10,t11,t12,h4,_⟩
 refine W_r (aA t4 (aX (sL (mxO (sdX l) k) (by omega) (fun w h=>by obtain ⟨i,i1,_,i3⟩:=aAM.1 h; rw [← i3]; exact hw _ (nA.1 (aR (by omega))))) rfl (aA rfl (R_e (bH ?_)))))
 refine bS (rVq (aD (sdW (mxO (sdX l) k)))) (sA ?_ (fun _=>by simp))
 · rw [show k=(sdX l).length by omega,aSY]
def lI : PrimA := ⟨fun _ _ _ _ => none, fun g args => if g = 128 then match args with
    | [.sl rows] => match pK rows with
      |some l=>if l.length≤1073741824∧(l.all fun w=>decide (w.length≤1048576))=true then some (.sl ((mxW l).map cL)) else none
      |none=>none
    |_=>none
  else none⟩
theorem tF : eG Tryz.prog lI := by
  constructor
  · intro id g args H v b h; cases h
  · intro g args v h
    unfold lI at h
    dsimp only at h
    split at h
    · rename_i hg
      subst hg
      split at h
      · split at h
        · rename_i l hl
          split at h
          · rename_i hc
            cases h
            rw [oH hl]
            exact aAG l hc.1 fun w hw=>by simpa using List.all_eq_true.1 hc.2 w hw
          · cases h
        · cases h
      · cases h
    · cases h
def aUz:List SO:=[
 sO 16 (.call false 27 []),
 sO 17 (.bslice 3 1 false [.int .i64 0] 2 [(0,.c (.int .i64 0)),(1,.c (.int .i64 1))]),
 sO 18 (.call false 10 [.t 16,.t 17]),
 qM 15 18,
 qE 19 15 0,
 qE 20 15 1,
 sO 1 (.alloc 24 [.int .i64 0,.int .i64 0,.nilsl,.nilsl]),
 sN (.store 4 (.t 1) (.t 19)),
 qM 2 20]
def aUf:List SO:=[
 qL 22 4 1,
 sO 23 (.call false 12 [.t 22]),
 qM 21 23,
 qE 24 21 0,
 qE 25 21 1,
 sO 3 (.alloc 24 [.int .i64 0,.int .i64 0,.nilsl,.nilsl]),
 sN (.store 4 (.t 3) (.t 24)),
 qM 4 25]
def aUu:List SO:=[
 sO 27 (.call false 27 []),
 sO 28 (.bslice 3 1 false [.int .i64 0] 2 [(0,.c (.int .i64 0)),(1,.c (.int .i64 1))]),
 sO 29 (.call false 15 [.t 27,.t 28]),
 qM 26 29,
 qE 30 26 0,
 qE 31 26 1,
 qE 32 26 2,
 sO 5 (.alloc 38 [.int .i64 0,.int .i64 0,.nilsl,.nilsl,.nilsl]),
 sN (.store 5 (.t 5) (.t 30)),
 qM 6 31,
 qM 7 32]
def aUx:List SO:=[
 sO 34 (.call false 27 []),
 sO 35 (.bslice 3 1 false [.int .i64 0] 1 [(0,.c (.int .i64 0))]),
 sO 36 (.bslice 3 1 false [.int .i64 0] 1 [(0,.c (.int .i64 1))]),
 sO 37 (.bslice 25 1 false [.nilsl] 2 [(0,.t 35),(1,.t 36)]),
 sO 38 (.call false 18 [.t 34,.t 37]),
 qM 33 38,
 qE 39 33 0,
 qE 40 33 1,
 qE 41 33 2,
 qM 8 39,
 qM 9 40,
 qM 10 41]
def aUl:List SO:=[
 sO 43 (.call false 27 []),
 sO 44 (.bslice 3 1 false [.int .i64 0] 1 [(0,.c (.int .i64 0))]),
 sO 45 (.bslice 3 1 false [.int .i64 0] 1 [(0,.c (.int .i64 1))]),
 sO 46 (.bslice 25 1 false [.nilsl] 2 [(0,.t 44),(1,.t 45)]),
 sO 47 (.call false 20 [.t 43,.t 46]),
 qM 42 47,
 qE 48 42 0,
 qE 49 42 1,
 qM 11 48,
 qM 12 49]
def aUg:List SO:=[
 sO 51 (.call false 27 []),
 sO 52 (.bslice 3 1 false [.int .i64 0] 2 [(0,.c (.int .i64 0)),(1,.c (.int .i64 1))]),
 sO 53 (.bslice 25 1 false [.nilsl] 1 [(0,.t 52)]),
 sO 54 (.call false 20 [.t 51,.t 53]),
 qM 50 54,
 qE 55 50 0,
 qE 56 50 1,
 qM 13 55,
 qM 14 56]
def aUn:List SO:=[
 qM 57 2,
 qC 58 .neq 57 0,
 qM 59 58,
 ⟨some (59,false),some 60,.mv (.t 4)⟩,
 ⟨some (59,false),some 61,.bin .neq (.t 60) (.c (.int .i64 0))⟩,
 sO 62 (.pick (.t 59) (.c (.bool true)) (.t 61)),
 qM 63 62,
 ⟨some (63,false),some 64,.mv (.t 7)⟩,
 ⟨some (63,false),some 65,.bin .neq (.t 64) (.c (.int .i64 0))⟩,
 sO 66 (.pick (.t 63) (.c (.bool true)) (.t 65)),
 qM 67 66,
 ⟨some (67,false),some 68,.mv (.t 10)⟩,
 ⟨some (67,false),some 69,.bin .neq (.t 68) (.c (.int .i64 0))⟩,
 sO 70 (.pick (.t 67) (.c (.bool true)) (.t 69)),
 qM 71 70,
 ⟨some (71,false),some 72,.fld 3 (.t 1)⟩,
 ⟨some (71,false),some 73,.load false 1 (.t 72)⟩,
 ⟨some (71,false),some 74,.bslice 3 1 false [.int .i64 0] 2 [(0,.c (.int .i64 257)),(1,.c (.int .i64 0))]⟩,
 ⟨some (71,false),some 75,.bslice 3 1 false [.int .i64 0] 2 [(0,.c (.int .i64 257)),(1,.c (.int .i64 512))]⟩,
 ⟨some (71,false),some 76,.bslice 25 1 false [.nilsl] 2 [(0,.t 74),(1,.t 75)]⟩,
 ⟨some (71,false),some 77,.call false 28 [.t 73,.t 76]⟩,
 ⟨some (71,false),some 78,.un .not (.t 77)⟩,
 sO 79 (.pick (.t 71) (.c (.bool true)) (.t 78)),
 qM 80 79,
 ⟨some (80,false),some 81,.load true 4 (.t 3)⟩,
 ⟨some (80,false),some 82,.call false 27 []⟩,
 ⟨some (80,false),some 83,.call false 14 [.t 81,.t 82]⟩,
 ⟨some (80,false),some 84,.un .not (.t 83)⟩,
 sO 85 (.pick (.t 80) (.c (.bool true)) (.t 84)),
 qM 86 85,
 ⟨some (86,false),some 87,.mv (.t 6)⟩,
 ⟨some (86,false),some 88,.bin .eql (.t 87) (.c (.int .i64 0))⟩,
 sO 89 (.pick (.t 86) (.c (.bool true)) (.t 88))]
def aUh:List SO:=[
 qF 90 0 5,
 qL 91 4 90,
 sO 92 (.call false 27 []),
 sO 93 (.call false 14 [.t 91,.t 92]),
 qM 94 93,
 ⟨some (94,true),some 95,.fld 4 (.t 5)⟩,
 ⟨some (94,true),some 96,.load false 1 (.t 95)⟩,
 ⟨some (94,true),some 97,.bslice 3 1 false [.int .i64 0] 1 [(0,.c (.int .i64 0))]⟩,
 ⟨some (94,true),some 98,.bslice 25 1 false [.nilsl] 2 [(0,.c (.nilsl)),(1,.t 97)]⟩,
 ⟨some (94,true),some 99,.call false 28 [.t 96,.t 98]⟩,
 sO 100 (.pick (.t 94) (.t 99) (.c (.bool false))),
 qM 101 100,
 ⟨some (101,true),some 102,.mv (.t 9)⟩,
 sO 103 (.pick (.t 101) (.t 102) (.c (.bool false))),
 qM 104 103,
 ⟨some (104,true),some 105,.mv (.t 8)⟩,
 ⟨some (104,true),some 106,.bslice 3 1 false [.int .i64 0] 2 [(0,.c (.int .i64 0)),(1,.c (.int .i64 1))]⟩,
 ⟨some (104,true),some 107,.call false 22 [.t 105,.t 106]⟩,
 sO 108 (.pick (.t 104) (.t 107) (.c (.bool false))),
 qM 109 108,
 ⟨some (109,true),some 110,.mv (.t 12)⟩,
 ⟨some (109,true),some 111,.bin .eql (.t 110) (.c (.int .i64 15))⟩,
 sO 112 (.pick (.t 109) (.t 111) (.c (.bool false))),
 qM 113 112,
 ⟨some (113,true),some 114,.mv (.t 14)⟩,
 ⟨some (113,true),some 115,.bin .eql (.t 114) (.c (.int .i64 0))⟩,
 sO 116 (.pick (.t 113) (.t 115) (.c (.bool false))),
 qM 117 116,
 ⟨some (117,true),some 118,.mv (.t 13)⟩,
 ⟨some (117,true),some 119,.len (.t 118)⟩,
 ⟨some (117,true),some 120,.bin .eql (.t 119) (.c (.int .i64 1))⟩,
 sO 121 (.pick (.t 117) (.t 120) (.c (.bool false))),
 qM 122 121,
 ⟨some (122,true),some 123,.mv (.t 13)⟩,
 ⟨some (122,true),some 124,.idx 4 (.t 123) (.c (.int .i64 0))⟩,
 ⟨some (122,true),some 125,.load true 4 (.t 124)⟩,
 ⟨some (122,true),some 126,.call false 27 []⟩,
 ⟨some (122,true),some 127,.call false 14 [.t 125,.t 126]⟩,
 sO 128 (.pick (.t 122) (.t 127) (.c (.bool false))),
 qM 0 128]
def s9:SF:=⟨129,[.tmp 0],.seq (.reg [sO 0 (.mv (.c (.bool false)))]) (.seq (.reg aUz) (.seq (.reg aUf) (.seq (.reg aUu) (.seq (.reg aUx) (.seq (.reg aUl) (.seq (.reg aUg) (.seq (.seq (.reg aUn) (.cond (.t 89) (.seq (.reg [sO 0 (.mv (.c (.bool false)))]) (.ret)) (.skip))) (.seq (.reg aUh) (.ret)))))))))⟩
theorem aTw:aM Tryz.prog ⟨[39,75,135,136,137,155,161,186,188,194,195,196,211,212,213,226,230,233,238],[],[],[]⟩ Tryz.f9=some s9:=by kernel_rfl
def aTi:SC:=.seq (.reg [qP 27 .lss 26 25]) (.seq (.cond (.t 27) (.skip) (.exit 0)) (.seq (.block 1 (.seq (.reg [qA 28 1 24 26,ql 29 28,qM 8 29]) (.seq (.reg [qM 30 8,qC 31 .lss 30 0,qM 32 31,⟨some (32,false),some 33,.mv (.t 8)⟩,⟨some (32,false),some 34,.bin .gtr (.t 33) (.c (.int .i64 255))⟩,sO 35 (.pick (.t 32) (.c (.bool true)) (.t 34))]) (.cond (.t 35) (.seq (.reg [sO 36 (.build [.int .i64 0,.int .i64 0,.nilsl,.nilsl] []),sN (.store 4 (.t 4) (.t 36)),qI 5 2]) (.ret)) (.skip))))) (.reg [qC 37 .add 26 1,qM 26 37])))
def s10:SF:=⟨44,[.cell 4 true 4,.tmp 5],.seq (.reg [sO 2 (.box 24 4 (.t 0)),sO 3 (.box 25 1 (.t 1)),sO 4 (.alloc 24 [.int .i64 0,.int .i64 0,.nilsl,.nilsl]),qI 5 0]) (.seq (.seq (.reg [qL 11 4 2,sO 12 (.call false 29 [.t 11]),qM 6 12]) (.seq (.reg [qM 13 6,qC 14 .neq 13 0]) (.cond (.t 14) (.seq (.reg [sO 15 (.build [.int .i64 0,.int .i64 0,.nilsl,.nilsl] []),qM 16 6,sN (.store 4 (.t 4) (.t 15)),qM 5 16]) (.ret)) (.skip)))) (.seq (.seq (.reg [ql 17 3,qN 18 17,qF 19 2 2,ql 20 19,qN 21 20,qP 22 .neq 18 21]) (.cond (.t 22) (.seq (.reg [sO 23 (.build [.int .i64 0,.int .i64 0,.nilsl,.nilsl] []),sN (.store 4 (.t 4) (.t 23)),qI 5 1]) (.ret)) (.skip))) (.seq (.seq (.reg [ql 24 3,qN 25 24,qI 26 0]) (.block 0 (.loop aTi))) (.seq (.reg [sO 9 (.alloc 4 [.bool false]),sN (.store 1 (.t 9) (.c (.bool false)))]) (.seq (.reg [qL 38 4 2,sO 39 (.mkf 31 [.t 2,.t 3,.t 9]),sO 40 (.call true 30 [.t 38,.t 39]),sO 10 (.alloc 24 [.int .i64 0,.int .i64 0,.nilsl,.nilsl]),sN (.store 4 (.t 10) (.t 40))]) (.seq (.seq (.reg [ql 41 9]) (.cond (.t 41) (.seq (.reg [sO 42 (.build [.int .i64 0,.int .i64 0,.nilsl,.nilsl] []),sN (.store 4 (.t 4) (.t 42)),qI 5 11]) (.ret)) (.skip))) (.seq (.reg [qL 43 4 10,sN (.store 4 (.t 4) (.t 43)),qI 5 0]) (.ret))))))))⟩
theorem aNa:aM Tryz.prog ⟨[30,39,75,135,136,137,155,161,186,188,194,195,196,211,212,213,226,230,233,238],[],[],[]⟩ Tryz.f10=some s10:=by kernel_rfl
def aSq:List SO:=[
 qL 11 4 1,
 sO 12 (.mkf 33 [.t 1]),
 sO 13 (.call true 30 [.t 11,.t 12]),
 sO 14 (.call false 25 [.t 13]),
 qE 15 14 0,
 qE 16 14 1,
 sN (.store 4 (.t 2) (.t 15)),
 qM 3 16]
def s12:SF:=⟨17,[.cell 2 true 4,.tmp 3],.seq (.reg [sO 1 (.box 24 4 (.t 0)),sO 2 (.alloc 24 [.int .i64 0,.int .i64 0,.nilsl,.nilsl]),qI 3 0]) (.seq (.seq (.reg [qL 5 4 1,sO 6 (.call false 29 [.t 5]),qM 4 6]) (.seq (.reg [qM 7 4,qC 8 .neq 7 0]) (.cond (.t 8) (.seq (.reg [sO 9 (.build [.int .i64 0,.int .i64 0,.nilsl,.nilsl] []),qM 10 4,sN (.store 4 (.t 2) (.t 9)),qM 3 10]) (.ret)) (.skip)))) (.seq (.reg aSq) (.ret)))⟩
theorem aPC:aM Tryz.prog ⟨[30,39,75,135,136,137,155,161,186,188,194,195,196,211,212,213,226,230,233,238],[],[],[]⟩ Tryz.f12=some s12:=by kernel_rfl
def aTf:List SO:=[
 qF 5 0 2,
 ql 6 5,
 qF 7 0 3,
 ql 8 7,
 qP 9 .eql 6 8,
 qM 10 9,
 ⟨some (10,true),some 11,.fld 1 (.t 2)⟩,
 ⟨some (10,true),some 12,.load false 1 (.t 11)⟩,
 ⟨some (10,true),some 13,.fld 1 (.t 3)⟩,
 ⟨some (10,true),some 14,.load false 1 (.t 13)⟩,
 ⟨some (10,true),some 15,.bin .eql (.t 12) (.t 14)⟩,
 sO 16 (.pick (.t 10) (.t 15) (.c (.bool false))),
 qM 17 16,
 ⟨some (17,true),some 18,.fld 2 (.t 2)⟩,
 ⟨some (17,true),some 19,.load false 1 (.t 18)⟩,
 ⟨some (17,true),some 20,.fld 2 (.t 3)⟩,
 ⟨some (17,true),some 21,.load false 1 (.t 20)⟩,
 ⟨some (17,true),some 22,.call false 28 [.t 19,.t 21]⟩,
 sO 23 (.pick (.t 17) (.t 22) (.c (.bool false))),
 qM 24 23,
 ⟨some (24,true),some 25,.fld 3 (.t 2)⟩,
 ⟨some (24,true),some 26,.load false 1 (.t 25)⟩,
 ⟨some (24,true),some 27,.fld 3 (.t 3)⟩,
 ⟨some (24,true),some 28,.load false 1 (.t 27)⟩,
 ⟨some (24,true),some 29,.call false 28 [.t 26,.t 28]⟩,
 sO 30 (.pick (.t 24) (.t 29) (.c (.bool false))),
 qM 4 30]
def s14:SF:=⟨31,[.tmp 4],.seq (.reg [sO 2 (.box 24 4 (.t 0)),sO 3 (.box 24 4 (.t 1)),sO 4 (.mv (.c (.bool false)))]) (.seq (.reg aTf) (.ret))⟩
theorem aNQ:aM Tryz.prog ⟨[39,75,135,136,137,155,161,186,188,194,195,196,211,212,213,226,230,233,238],[],[],[]⟩ Tryz.f14=some s14:=by kernel_rfl
def aT4:List SO:=[
 qL 18 4 2,
 qM 19 1,
 sO 20 (.call false 10 [.t 18,.t 19]),
 qM 17 20,
 qE 21 17 0,
 qE 22 17 1,
 sO 7 (.alloc 24 [.int .i64 0,.int .i64 0,.nilsl,.nilsl]),
 sN (.store 4 (.t 7) (.t 21)),
 qM 8 22]
def aTJ:List SO:=[
 qL 28 4 7,
 sO 29 (.call false 35 [.t 28]),
 qM 27 29,
 qE 30 27 0,
 qE 31 27 1,
 qE 32 27 2,
 qE 33 27 3,
 sO 9 (.alloc 38 [.int .i64 0,.int .i64 0,.nilsl,.nilsl,.nilsl]),
 sO 10 (.alloc 67 [.int .i64 0,.nilsl]),
 sN (.store 5 (.t 9) (.t 30)),
 sN (.store 2 (.t 10) (.t 31)),
 qM 11 32,
 qM 8 33]
def aSe:List SO:=[
 qF 39 0 9,
 qL 40 4 39,
 sO 41 (.call false 12 [.t 40]),
 qM 38 41,
 qE 42 38 0,
 qE 43 38 1,
 sO 12 (.alloc 24 [.int .i64 0,.int .i64 0,.nilsl,.nilsl]),
 sN (.store 4 (.t 12) (.t 42)),
 qM 13 43]
def aRG:List SO:=[
 qL 45 4 12,
 sO 46 (.call false 36 [.t 45]),
 qM 44 46,
 qE 47 44 0,
 qE 48 44 1,
 qE 49 44 2,
 qM 14 47,
 qM 15 48,
 qM 16 49]
def aRI:List SO:=[
 qL 50 4 12,
 qM 51 15,
 sO 52 (.build [.int .i64 0,.int .i64 0,.nilsl,.nilsl,.nilsl] [(0,4,.t 50),(4,1,.t 51)]),
 qF 53 1 10,
 ql 54 53,
 qN 55 54,
 sN (.store 5 (.t 4) (.t 52)),
 qM 5 55,
 qI 6 0]
def s15:SF:=⟨56,[.cell 4 true 5,.tmp 5,.tmp 6],.seq (.reg [sO 2 (.box 24 4 (.t 0)),sO 4 (.alloc 38 [.int .i64 0,.int .i64 0,.nilsl,.nilsl,.nilsl]),qI 5 0,qI 6 0]) (.seq (.reg aT4) (.seq (.seq (.reg [qM 23 8,qC 24 .neq 23 0]) (.cond (.t 24) (.seq (.reg [sO 25 (.build [.int .i64 0,.int .i64 0,.nilsl,.nilsl,.nilsl] []),qM 26 8,sN (.store 5 (.t 4) (.t 25)),qI 5 0,qM 6 26]) (.ret)) (.skip))) (.seq (.reg aTJ) (.seq (.seq (.reg [qM 34 8,qC 35 .neq 34 0]) (.cond (.t 35) (.seq (.reg [sO 36 (.build [.int .i64 0,.int .i64 0,.nilsl,.nilsl,.nilsl] []),qM 37 8,sN (.store 5 (.t 4) (.t 36)),qI 5 0,qM 6 37]) (.ret)) (.skip))) (.seq (.reg aSe) (.seq (.reg aRG) (.seq (.xreg [(53,1,4,5)] aRI) (.ret))))))))⟩
theorem aQK:aM Tryz.prog ⟨[39,75,135,136,137,155,161,186,188,194,195,196,211,212,213,226,230,233,238],[],[],[]⟩ Tryz.f15=some s15:=by kernel_rfl
def aSV:List SO:=[
 qM 25 1,
 qF 26 0 2,
 ql 27 26,
 sO 28 (.call true 39 [.t 25,.t 27]),
 qM 24 28,
 qE 29 24 0,
 qE 30 24 1,
 qM 8 29,
 qM 9 30]
def aSX:List SO:=[
 qM 33 1,
 qN 34 33,
 qC 35 .add 34 1,
 sO 36 (.mks 3 1 8 [.int .i64 0] (.t 35) (.t 35)),
 sO 37 (.build [.nilsl,.nilsl] [(0,1,.t 36)]),
 sO 10 (.alloc 80 [.nilsl,.nilsl]),
 sN (.store 2 (.t 10) (.t 37))]
def aOf:List SO:=[
 qF 44 0 10,
 ql 45 44,
 qM 46 11,
 qF 47 1 2,
 ql 48 47,
 qA 49 1 45 46,
 sN (.store 1 (.t 49) (.t 48))]
def aMB:SC:=.seq (.reg [qP 42 .lss 41 40]) (.seq (.cond (.t 42) (.skip) (.exit 0)) (.seq (.block 1 (.seq (.reg [qM 43 41,qM 11 43]) (.reg aOf))) (.reg [qC 50 .add 41 1,qM 41 50])))
def aPt:List SO:=[
 qL 77 2 15,
 qL 78 4 2,
 qM 79 16,
 qM 80 17,
 sO 81 (.call false 41 [.t 77,.t 78,.t 79,.t 80]),
 sO 18 (.alloc 80 [.nilsl,.nilsl]),
 sN (.store 2 (.t 18) (.t 81))]
def aM5:List SO:=[
 qF 82 3 2,
 ql 83 82,
 qF 84 0 15,
 ql 85 84,
 sO 86 (.idx 1 (.t 85) (.c (.int .i64 0))),
 ql 87 86,
 qA 88 1 83 87,
 ql 89 88,
 qM 90 16,
 qA 91 1 89 90,
 ql 92 91,
 qF 93 3 2,
 ql 94 93,
 qF 95 0 15,
 ql 96 95,
 qM 97 17,
 qC 98 .add 97 1,
 qA 99 1 96 98,
 ql 100 99,
 qA 101 1 94 100,
 ql 102 101,
 qM 103 16,
 qA 104 1 102 103,
 ql 105 104,
 qP 106 .neq 92 105]
def aMn:SC:=.seq (.reg [qP 72 .lss 71 70]) (.seq (.cond (.t 72) (.skip) (.exit 4)) (.seq (.block 5 (.seq (.reg [qM 73 71,qM 16 73]) (.seq (.reg [qM 74 8,qM 75 16,sO 76 (.mlook 1 false (.int .i64 0) (.t 74) (.t 75)),qM 17 76]) (.seq (.reg aPt) (.seq (.seq (.reg aM5) (.cond (.t 106) (.seq (.reg [qF 107 1 18,ql 108 107,qM 4 108,sO 5 (.mv (.c (.bool true))),qI 6 0]) (.ret)) (.skip))) (.seq (.reg [qM 109 12,qL 110 2 18,sO 111 (.call false 40 [.t 110]),sO 112 (.mlook 0 false (.bool false) (.t 109) (.t 111)),sO 113 (.un .not (.t 112))]) (.cond (.t 113) (.seq (.reg [qM 114 12,qL 115 2 18,sO 116 (.call false 40 [.t 115]),sN (.mset 0 (.t 114) (.t 116) (.c (.bool true)))]) (.reg [qM 117 13,qL 118 2 18,sO 119 (.bslice 80 2 false [.nilsl,.nilsl] 1 [(0,.t 118)]),sO 120 (.append 80 2 48 (.t 117) (.t 119)),qM 13 120])) (.skip)))))))) (.reg [qC 121 .add 71 1,qM 71 121])))
def aMi:SC:=.seq (.seq (.reg [qM 57 14,qM 58 13,qN 59 58,qP 60 .lss 57 59]) (.cond (.t 60) (.skip) (.exit 2))) (.seq (.block 3 (.seq (.seq (.reg [qM 63 14,qC 64 .eql 63 4096]) (.cond (.t 64) (.seq (.reg [sO 4 (.mv (.c (.nilsl))),sO 5 (.mv (.c (.bool false))),qI 6 11]) (.ret)) (.skip))) (.seq (.reg [qM 65 13,qM 66 14,qA 67 2 65 66,qL 68 2 67,sO 15 (.alloc 80 [.nilsl,.nilsl]),sN (.store 2 (.t 15) (.t 68))]) (.seq (.reg [qF 69 0 2,ql 70 69,qI 71 0]) (.block 4 (.loop aMn)))))) (.reg [qM 61 14,qC 62 .add 61 1,qM 14 62]))
def s18:SF:=⟨122,[.tmp 4,.tmp 5,.tmp 6],.seq (.reg [sO 2 (.box 24 4 (.t 0)),sO 4 (.mv (.c (.nilsl))),sO 5 (.mv (.c (.bool false))),qI 6 0]) (.seq (.seq (.reg [qL 19 4 2,sO 20 (.call false 29 [.t 19]),qM 7 20]) (.seq (.reg [qM 21 7,qC 22 .neq 21 0]) (.cond (.t 22) (.seq (.reg [qM 23 7,sO 4 (.mv (.c (.nilsl))),sO 5 (.mv (.c (.bool false))),qM 6 23]) (.ret)) (.skip)))) (.seq (.reg aSV) (.seq (.seq (.reg [qM 31 9,sO 32 (.un .not (.t 31))]) (.cond (.t 32) (.seq (.reg [sO 4 (.mv (.c (.nilsl))),sO 5 (.mv (.c (.bool false))),qI 6 1]) (.ret)) (.skip))) (.seq (.reg aSX) (.seq (.seq (.reg [qF 38 0 10,ql 39 38,qN 40 39,qI 41 0]) (.block 0 (.loop aMB))) (.seq (.reg [sO 51 (.mkmap),qL 52 2 10,sO 53 (.call false 40 [.t 52]),sN (.mset 0 (.t 51) (.t 53) (.c (.bool true))),qM 54 51,qM 12 54]) (.seq (.reg [qL 55 2 10,sO 56 (.bslice 80 2 true [.nilsl,.nilsl] 1 [(0,.t 55)]),qM 13 56]) (.seq (.seq (.reg [qI 14 0]) (.block 2 (.loop aMi))) (.seq (.reg [sO 4 (.mv (.c (.nilsl))),sO 5 (.mv (.c (.bool false))),qI 6 0]) (.ret))))))))))⟩
theorem aGM:aM Tryz.prog ⟨[39,75,135,136,137,155,161,186,188,194,195,196,211,212,213,226,230,233,238],[56],[],[]⟩ Tryz.f18=some s18:=by kernel_rfl
def aSQ:List SO:=[
 qL 16 4 2,
 qM 17 1,
 sO 18 (.call false 18 [.t 16,.t 17]),
 qM 15 18,
 qE 19 15 0,
 qE 20 15 1,
 qE 21 15 2,
 qM 6 19,
 qM 7 20,
 qM 8 21]
def aNz:List SO:=[
 qL 33 4 2,
 qM 34 11,
 sO 35 (.call false 45 [.t 33,.t 34]),
 qM 32 35,
 qE 36 32 0,
 qE 37 32 1,
 sO 12 (.alloc 24 [.int .i64 0,.int .i64 0,.nilsl,.nilsl]),
 sN (.store 4 (.t 12) (.t 36)),
 qM 13 37]
def aOE:List SO:=[
 qL 42 4 12,
 sO 43 (.call false 25 [.t 42]),
 qM 41 43,
 qE 44 41 0,
 qE 45 41 1,
 sO 14 (.alloc 24 [.int .i64 0,.int .i64 0,.nilsl,.nilsl]),
 sN (.store 4 (.t 14) (.t 44)),
 qM 13 45]
def aMF:SC:=.seq (.reg [qP 29 .lss 28 27]) (.seq (.cond (.t 29) (.skip) (.exit 0)) (.seq (.block 1 (.seq (.reg [qA 30 1 26 28,ql 31 30,qM 11 31]) (.seq (.reg aNz) (.seq (.seq (.reg [qM 38 13,qC 39 .neq 38 0]) (.cond (.t 39) (.seq (.reg [qM 40 13,sO 4 (.mv (.c (.nilsl))),qM 5 40]) (.ret)) (.skip))) (.seq (.reg aOE) (.seq (.seq (.reg [qM 46 13,qC 47 .neq 46 0]) (.cond (.t 47) (.seq (.reg [qM 48 13,sO 4 (.mv (.c (.nilsl))),qM 5 48]) (.ret)) (.skip))) (.reg [qM 49 9,qL 50 4 14,sO 51 (.bslice 24 4 false [.int .i64 0,.int .i64 0,.nilsl,.nilsl] 1 [(0,.t 50)]),sO 52 (.append 24 4 64 (.t 49) (.t 51)),qM 9 52]))))))) (.reg [qC 53 .add 28 1,qM 28 53])))
def s20:SF:=⟨55,[.tmp 4,.tmp 5],.seq (.reg [sO 2 (.box 24 4 (.t 0)),sO 4 (.mv (.c (.nilsl))),qI 5 0]) (.seq (.reg aSQ) (.seq (.seq (.reg [qM 22 8,qC 23 .neq 22 0]) (.cond (.t 23) (.seq (.reg [qM 24 8,sO 4 (.mv (.c (.nilsl))),qM 5 24]) (.ret)) (.skip))) (.seq (.seq (.reg [qM 25 7]) (.cond (.t 25) (.seq (.reg [sO 4 (.mv (.c (.nilsl))),qI 5 15]) (.ret)) (.skip))) (.seq (.reg [sO 9 (.lazy 24 4)]) (.seq (.seq (.reg [qM 26 1,qN 27 26,qI 28 0]) (.block 0 (.loop aMF))) (.seq (.reg [qM 54 9,qM 4 54,qI 5 0]) (.ret)))))))⟩
theorem aIt:aM Tryz.prog ⟨[39,75,135,136,137,155,161,186,188,194,195,196,211,212,213,226,230,233,238],[9],[],[]⟩ Tryz.f20=some s20:=by kernel_rfl
def aT8:List SO:=[
 qM 17 0,
 qM 18 5,
 qA 19 1 17 18,
 ql 20 19,
 qM 21 1,
 qM 22 5,
 qA 23 1 21 22,
 ql 24 23,
 qP 25 .neq 20 24]
def aSS:SC:=.seq (.seq (.reg [qM 11 5,qM 12 0,qN 13 12,qP 14 .lss 11 13]) (.cond (.t 14) (.skip) (.exit 0))) (.seq (.block 1 (.seq (.reg aT8) (.cond (.t 25) (.seq (.reg [sO 4 (.mv (.c (.bool false)))]) (.ret)) (.skip)))) (.reg [qM 15 5,qC 16 .add 15 1,qM 5 16]))
def s22:SF:=⟨26,[.tmp 4],.seq (.reg [sO 4 (.mv (.c (.bool false)))]) (.seq (.seq (.reg [qM 6 0,qN 7 6,qM 8 1,qN 9 8,qP 10 .neq 7 9]) (.cond (.t 10) (.seq (.reg [sO 4 (.mv (.c (.bool false)))]) (.ret)) (.skip))) (.seq (.seq (.reg [qI 5 0]) (.block 0 (.loop aSS))) (.seq (.reg [sO 4 (.mv (.c (.bool true)))]) (.ret))))⟩
theorem aOd:aM Tryz.prog ⟨[39,75,135,136,137,155,161,186,188,194,195,196,211,212,213,226,230,233,238],[],[],[]⟩ Tryz.f22=some s22:=by kernel_rfl
def aSl:List SO:=[
 qL 10 4 2,
 qF 11 1 2,
 ql 12 11,
 qM 13 1,
 sO 14 (.call false 47 [.t 10,.t 12,.t 13]),
 qM 9 14,
 qE 15 9 0,
 qE 16 9 1,
 qE 17 9 2,
 qM 6 15,
 qM 7 16,
 qM 8 17]
def s23:SF:=⟨20,[.tmp 4,.tmp 5],.seq (.reg [sO 2 (.box 24 4 (.t 0)),sO 4 (.mv (.c (.nilsl))),qI 5 0]) (.seq (.reg aSl) (.seq (.reg [qM 18 6,qM 19 8,qM 4 18,qM 5 19]) (.ret)))⟩
theorem aGp:aM Tryz.prog ⟨[39,75,135,136,137,155,161,186,188,194,195,196,211,212,213,226,230,233,238],[],[],[]⟩ Tryz.f23=some s23:=by kernel_rfl
def aTk:List SO:=[
 qL 14 4 1,
 sO 15 (.call false 48 [.t 14]),
 qM 13 15,
 qE 16 13 0,
 qE 17 13 1,
 sO 4 (.alloc 24 [.int .i64 0,.int .i64 0,.nilsl,.nilsl]),
 sN (.store 4 (.t 4) (.t 16)),
 qM 5 17]
def aTK:List SO:=[
 qL 23 4 4,
 sO 24 (.call false 49 [.t 23]),
 qM 22 24,
 qE 25 22 0,
 qE 26 22 1,
 qM 6 25,
 qM 5 26]
def aOW:List SO:=[
 qF 46 2 4,
 ql 47 46,
 qM 48 8,
 qA 49 1 47 48,
 ql 50 49,
 qN 51 50,
 qI 52 0]
def aQR:List SO:=[
 qM 56 10,
 qM 57 6,
 qM 58 12,
 qA 59 1 57 58,
 ql 60 59,
 sO 61 (.bslice 3 1 false [.int .i64 0] 1 [(0,.t 60)]),
 sO 62 (.append 3 1 8 (.t 56) (.t 61)),
 qM 10 62]
def aMb:SC:=.seq (.reg [qP 53 .lss 52 51]) (.seq (.cond (.t 53) (.skip) (.exit 2)) (.seq (.block 3 (.seq (.reg [qA 54 1 50 52,ql 55 54,qM 12 55]) (.reg aQR))) (.reg [qC 63 .add 52 1,qM 52 63])))
def aPE:List SO:=[
 qF 64 2 7,
 ql 65 64,
 qM 66 10,
 sO 67 (.bslice 25 1 false [.nilsl] 1 [(0,.t 66)]),
 sO 68 (.append 25 1 24 (.t 65) (.t 67)),
 qF 69 2 7,
 sN (.store 1 (.t 69) (.t 68))]
def aHX:List SO:=[
 qF 70 3 7,
 ql 71 70,
 sO 72 (.lazy 3 1),
 qF 73 3 4,
 ql 74 73,
 qM 75 8,
 qA 76 1 74 75,
 ql 77 76,
 sO 78 (.append 3 1 8 (.t 72) (.t 77)),
 sO 79 (.bslice 25 1 false [.nilsl] 1 [(0,.t 78)]),
 sO 80 (.append 25 1 24 (.t 71) (.t 79)),
 qF 81 3 7,
 sN (.store 1 (.t 81) (.t 80))]
def aMf:SC:=.seq (.reg [qP 37 .lss 36 35]) (.seq (.cond (.t 37) (.skip) (.exit 0)) (.seq (.block 1 (.seq (.reg [qM 38 36,qA 39 1 34 36,ql 40 39,qM 8 38,qM 9 40]) (.seq (.seq (.reg [qM 41 9,qF 42 2 7,ql 43 42,qN 44 43,qP 45 .lss 41 44]) (.cond (.t 45) (.exit 1) (.skip))) (.seq (.reg [sO 10 (.lazy 3 1)]) (.seq (.seq (.reg aOW) (.block 2 (.loop aMb))) (.seq (.reg aPE) (.xreg [(70,1,72,0),(70,1,72,0),(72,0,73,1),(72,0,76,1)] aHX))))))) (.reg [qC 82 .add 36 1,qM 36 82])))
def s25:SF:=⟨84,[.cell 2 true 4,.tmp 3],.seq (.reg [sO 1 (.box 24 4 (.t 0)),sO 2 (.alloc 24 [.int .i64 0,.int .i64 0,.nilsl,.nilsl]),qI 3 0]) (.seq (.reg aTk) (.seq (.seq (.reg [qM 18 5,qC 19 .neq 18 0]) (.cond (.t 19) (.seq (.reg [sO 20 (.build [.int .i64 0,.int .i64 0,.nilsl,.nilsl] []),qM 21 5,sN (.store 4 (.t 2) (.t 20)),qM 3 21]) (.ret)) (.skip))) (.seq (.reg aTK) (.seq (.seq (.reg [qM 27 5,qC 28 .neq 27 0]) (.cond (.t 28) (.seq (.reg [sO 29 (.build [.int .i64 0,.int .i64 0,.nilsl,.nilsl] []),qM 30 5,sN (.store 4 (.t 2) (.t 29)),qM 3 30]) (.ret)) (.skip))) (.seq (.reg [qF 31 0 4,ql 32 31,sO 33 (.build [.int .i64 0,.int .i64 0,.nilsl,.nilsl] [(0,1,.t 32)]),sO 7 (.alloc 24 [.int .i64 0,.int .i64 0,.nilsl,.nilsl]),sN (.store 4 (.t 7) (.t 33))]) (.seq (.seq (.reg [qM 34 6,qN 35 34,qI 36 0]) (.block 0 (.loop aMf))) (.seq (.reg [qL 83 4 7,sN (.store 4 (.t 2) (.t 83)),qI 3 0]) (.ret))))))))⟩
theorem aHN:aM Tryz.prog ⟨[39,75,135,136,137,155,161,186,188,194,195,196,211,212,213,226,230,233,238],[72,10],[],[]⟩ Tryz.f25=some s25:=by kernel_rfl
def aSD:List SO:=[
 sO 1 (.bslice 3 1 false [.int .i64 0] 2 [(0,.c (.int .i64 1)),(1,.c (.int .i64 0))]),
 sO 2 (.bslice 3 1 false [.int .i64 0] 2 [(0,.c (.int .i64 1)),(1,.c (.int .i64 0))]),
 sO 3 (.bslice 25 1 false [.nilsl] 2 [(0,.t 1),(1,.t 2)]),
 sO 4 (.bslice 3 1 false [.int .i64 0] 2 [(0,.c (.int .i64 1)),(1,.c (.int .i64 0))]),
 sO 5 (.bslice 3 1 false [.int .i64 0] 2 [(0,.c (.int .i64 1)),(1,.c (.int .i64 2))]),
 sO 6 (.bslice 25 1 false [.nilsl] 2 [(0,.t 4),(1,.t 5)]),
 sO 7 (.build [.int .i64 0,.int .i64 0,.nilsl,.nilsl] [(0,1,.c (.int .i64 2)),(2,1,.t 3),(3,1,.t 6)]),
 sN (.store 4 (.t 0) (.t 7))]
def s27:SF:=⟨8,[.cell 0 true 4],.seq (.reg [sO 0 (.alloc 24 [.int .i64 0,.int .i64 0,.nilsl,.nilsl])]) (.seq (.reg aSD) (.ret))⟩
theorem aOL:aM Tryz.prog ⟨[39,75,135,136,137,155,161,186,188,194,195,196,211,212,213,226,230,233,238],[],[],[]⟩ Tryz.f27=some s27:=by kernel_rfl
def aRX:List SO:=[
 qM 17 0,
 qM 18 5,
 qA 19 1 17 18,
 ql 20 19,
 qM 21 1,
 qM 22 5,
 qA 23 1 21 22,
 ql 24 23,
 sO 25 (.call false 22 [.t 20,.t 24]),
 sO 26 (.un .not (.t 25))]
def aTG:SC:=.seq (.seq (.reg [qM 11 5,qM 12 0,qN 13 12,qP 14 .lss 11 13]) (.cond (.t 14) (.skip) (.exit 0))) (.seq (.block 1 (.seq (.reg aRX) (.cond (.t 26) (.seq (.reg [sO 4 (.mv (.c (.bool false)))]) (.ret)) (.skip)))) (.reg [qM 15 5,qC 16 .add 15 1,qM 5 16]))
def s28:SF:=⟨27,[.tmp 4],.seq (.reg [sO 4 (.mv (.c (.bool false)))]) (.seq (.seq (.reg [qM 6 0,qN 7 6,qM 8 1,qN 9 8,qP 10 .neq 7 9]) (.cond (.t 10) (.seq (.reg [sO 4 (.mv (.c (.bool false)))]) (.ret)) (.skip))) (.seq (.seq (.reg [qI 5 0]) (.block 0 (.loop aTG))) (.seq (.reg [sO 4 (.mv (.c (.bool true)))]) (.ret))))⟩
theorem aPs:aM Tryz.prog ⟨[39,75,135,136,137,155,161,186,188,194,195,196,211,212,213,226,230,233,238],[],[],[]⟩ Tryz.f28=some s28:=by kernel_rfl
def aTH:List SO:=[
 qF 12 0 1,
 ql 13 12,
 qC 14 .lss 13 1,
 qM 15 14,
 ⟨some (15,false),some 16,.fld 0 (.t 1)⟩,
 ⟨some (15,false),some 17,.load false 1 (.t 16)⟩,
 ⟨some (15,false),some 18,.bin .gtr (.t 17) (.c (.int .i64 64))⟩,
 sO 19 (.pick (.t 15) (.c (.bool true)) (.t 18)),
 qM 11 19]
def aSH:List SO:=[
 qF 27 1 1,
 ql 28 27,
 qC 29 .lss 28 0,
 qM 30 29,
 ⟨some (30,false),some 31,.fld 1 (.t 1)⟩,
 ⟨some (30,false),some 32,.load false 1 (.t 31)⟩,
 ⟨some (30,false),some 33,.mv (.t 3)⟩,
 ⟨some (30,false),some 34,.bin .geq (.t 32) (.t 33)⟩,
 sO 35 (.pick (.t 30) (.c (.bool true)) (.t 34)),
 qM 26 35]
def aNO:List SO:=[
 qF 46 2 1,
 ql 47 46,
 qM 48 4,
 qA 49 1 47 48,
 ql 50 49,
 qN 51 50,
 qF 52 0 1,
 ql 53 52,
 qP 54 .neq 51 53,
 qM 55 54,
 ⟨some (55,false),some 56,.fld 3 (.t 1)⟩,
 ⟨some (55,false),some 57,.load false 1 (.t 56)⟩,
 ⟨some (55,false),some 58,.mv (.t 4)⟩,
 ⟨some (55,false),some 59,.idx 1 (.t 57) (.t 58)⟩,
 ⟨some (55,false),some 60,.load false 1 (.t 59)⟩,
 ⟨some (55,false),some 61,.len (.t 60)⟩,
 ⟨some (55,false),some 62,.fld 0 (.t 1)⟩,
 ⟨some (55,false),some 63,.load false 1 (.t 62)⟩,
 ⟨some (55,false),some 64,.bin .neq (.t 61) (.t 63)⟩,
 sO 65 (.pick (.t 55) (.c (.bool true)) (.t 64))]
def aNC:List SO:=[
 qF 71 2 1,
 ql 72 71,
 qM 73 4,
 qA 74 1 72 73,
 ql 75 74,
 qM 76 5,
 qA 77 1 75 76,
 ql 78 77,
 qF 79 3 1,
 ql 80 79,
 qM 81 4,
 qA 82 1 80 81,
 ql 83 82,
 qM 84 5,
 qA 85 1 83 84,
 ql 86 85,
 qM 6 78,
 qM 7 86]
def aQn:List SO:=[
 qM 87 6,
 qC 88 .lss 87 0,
 qM 89 88,
 ⟨some (89,false),some 90,.mv (.t 6)⟩,
 ⟨some (89,false),some 91,.mv (.t 3)⟩,
 ⟨some (89,false),some 92,.bin .geq (.t 90) (.t 91)⟩,
 sO 93 (.pick (.t 89) (.c (.bool true)) (.t 92)),
 qM 94 93,
 ⟨some (94,false),some 95,.mv (.t 7)⟩,
 ⟨some (94,false),some 96,.bin .lss (.t 95) (.c (.int .i64 0))⟩,
 sO 97 (.pick (.t 94) (.c (.bool true)) (.t 96)),
 qM 98 97,
 ⟨some (98,false),some 99,.mv (.t 7)⟩,
 ⟨some (98,false),some 100,.bin .gtr (.t 99) (.c (.int .i64 1048576))⟩,
 sO 101 (.pick (.t 98) (.c (.bool true)) (.t 100))]
def aLT:SC:=.seq (.reg [qP 69 .lss 68 67]) (.seq (.cond (.t 69) (.skip) (.exit 3)) (.seq (.block 4 (.seq (.reg [qM 70 68,qM 5 70]) (.seq (.reg aNC) (.seq (.reg aQn) (.cond (.t 101) (.seq (.reg [qI 2 2]) (.ret)) (.skip)))))) (.reg [qC 102 .add 68 1,qM 68 102])))
def aLS:SC:=.seq (.reg [qP 44 .lss 43 42]) (.seq (.cond (.t 44) (.skip) (.exit 1)) (.seq (.block 2 (.seq (.reg [qM 45 43,qM 4 45]) (.seq (.seq (.reg aNO) (.cond (.t 65) (.seq (.reg [qI 2 1]) (.ret)) (.skip))) (.seq (.reg [qF 66 0 1,ql 67 66,qI 68 0]) (.block 3 (.loop aLT)))))) (.reg [qC 103 .add 43 1,qM 43 103])))
def s29:SF:=⟨104,[.tmp 2],.seq (.reg [sO 1 (.box 24 4 (.t 0)),qI 2 0]) (.seq (.reg [qF 8 2 1,ql 9 8,qN 10 9,qM 3 10]) (.seq (.block 0 (.seq (.reg aTH) (.cond (.t 11) (.seq (.reg [qI 2 2]) (.ret)) (.seq (.reg [qM 21 3,qC 22 .eql 21 0,qM 20 22]) (.cond (.t 20) (.seq (.reg [qI 2 19]) (.ret)) (.seq (.reg [qM 24 3,qC 25 .gtr 24 128,qM 23 25]) (.cond (.t 23) (.seq (.reg [qI 2 11]) (.ret)) (.seq (.reg aSH) (.cond (.t 26) (.seq (.reg [qI 2 2]) (.ret)) (.seq (.reg [qF 37 3 1,ql 38 37,qN 39 38,qM 40 3,qP 41 .neq 39 40,qM 36 41]) (.cond (.t 36) (.seq (.reg [qI 2 1]) (.ret)) (.skip)))))))))))) (.seq (.seq (.reg [qM 42 3,qI 43 0]) (.block 1 (.loop aLS))) (.seq (.reg [qI 2 0]) (.ret)))))⟩
theorem aHZ:aM Tryz.prog ⟨[39,75,135,136,137,155,161,186,188,194,195,196,211,212,213,226,230,233,238],[],[],[]⟩ Tryz.f29=some s29:=by kernel_rfl
def aSP:List SO:=[
 qF 9 0 2,
 ql 10 9,
 qF 11 1 2,
 ql 12 11,
 sO 13 (.build [.int .i64 0,.int .i64 0,.nilsl,.nilsl] [(0,1,.t 10),(1,1,.t 12)]),
 sO 5 (.alloc 24 [.int .i64 0,.int .i64 0,.nilsl,.nilsl]),
 sN (.store 4 (.t 5) (.t 13))]
def aRK:List SO:=[
 qM 28 7,
 qM 29 8,
 qM 30 1,
 qM 31 6,
 qM 32 8,
 sO 33 (.callv true (.t 30) [.t 31,.t 32]),
 qA 34 1 28 29,
 sN (.store 1 (.t 34) (.t 33))]
def aTC:SC:=.seq (.reg [qP 26 .lss 25 24]) (.seq (.cond (.t 26) (.skip) (.exit 2)) (.seq (.block 3 (.seq (.reg [qM 27 25,qM 8 27]) (.reg aRK))) (.reg [qC 35 .add 25 1,qM 25 35])))
def aN9:List SO:=[
 qF 36 2 5,
 ql 37 36,
 sO 38 (.lazy 3 1),
 qF 39 2 2,
 ql 40 39,
 qM 41 6,
 qA 42 1 40 41,
 ql 43 42,
 sO 44 (.append 3 1 8 (.t 38) (.t 43)),
 sO 45 (.bslice 25 1 false [.nilsl] 1 [(0,.t 44)]),
 sO 46 (.append 25 1 24 (.t 37) (.t 45)),
 qF 47 2 5,
 sN (.store 1 (.t 47) (.t 46))]
def aN1:List SO:=[
 qF 48 3 5,
 ql 49 48,
 qM 50 7,
 sO 51 (.bslice 25 1 false [.nilsl] 1 [(0,.t 50)]),
 sO 52 (.append 25 1 24 (.t 49) (.t 51)),
 qF 53 3 5,
 sN (.store 1 (.t 53) (.t 52))]
def aT9:SC:=.seq (.reg [qP 18 .lss 17 16]) (.seq (.cond (.t 18) (.skip) (.exit 0)) (.seq (.block 1 (.seq (.reg [qM 19 17,qM 6 19]) (.seq (.reg [qF 20 0 2,ql 21 20,sO 22 (.mks 3 1 8 [.int .i64 0] (.t 21) (.t 21)),qM 7 22]) (.seq (.seq (.reg [qM 23 7,qN 24 23,qI 25 0]) (.block 2 (.loop aTC))) (.seq (.xreg [(36,1,38,0),(36,1,38,0),(38,0,39,1),(38,0,42,1)] aN9) (.reg aN1)))))) (.reg [qC 54 .add 17 1,qM 17 54])))
def s30:SF:=⟨56,[.cell 4 true 4],.seq (.reg [sO 2 (.box 24 4 (.t 0)),sO 4 (.alloc 24 [.int .i64 0,.int .i64 0,.nilsl,.nilsl])]) (.seq (.reg aSP) (.seq (.seq (.reg [qF 14 2 2,ql 15 14,qN 16 15,qI 17 0]) (.block 0 (.loop aT9))) (.seq (.reg [qL 55 4 5,sN (.store 4 (.t 4) (.t 55))]) (.ret))))⟩
theorem aNo:aM Tryz.prog ⟨[39,75,135,136,137,155,161,186,188,194,195,196,211,212,213,226,230,233,238],[33,38],[],[]⟩ Tryz.f30=some s30:=by kernel_rfl
def aRR:List SO:=[
 qF 9 3 2,
 ql 10 9,
 qM 11 0,
 qA 12 1 10 11,
 ql 13 12,
 qM 14 1,
 qA 15 1 13 14,
 ql 16 15,
 sO 17 (.bin .mul (.c (.int .i64 256)) (.t 16)),
 ql 18 3,
 qF 19 2 2,
 ql 20 19,
 qM 21 0,
 qA 22 1 20 21,
 ql 23 22,
 qM 24 1,
 qA 25 1 23 24,
 ql 26 25,
 qA 27 1 18 26,
 ql 28 27,
 qP 29 .add 17 28,
 qM 8 29]
def s31:SF:=⟨36,[.tmp 7],.seq (.reg [qI 7 0]) (.seq (.reg aRR) (.seq (.reg [ql 30 4,qM 31 30,⟨some (31,false),some 32,.mv (.t 8)⟩,⟨some (31,false),some 33,.bin .gtr (.t 32) (.c (.int .i64 1048576))⟩,sO 34 (.pick (.t 31) (.c (.bool true)) (.t 33)),sN (.store 1 (.t 4) (.t 34))]) (.seq (.reg [qM 35 8,qM 7 35]) (.ret))))⟩
theorem aPA:aM Tryz.prog ⟨[39,75,135,136,137,155,161,186,188,194,195,196,211,212,213,226,230,233,238],[],[],[]⟩ Tryz.f31=some s31:=by kernel_rfl
def aSc:List SO:=[
 qF 6 3 2,
 ql 7 6,
 qM 8 0,
 qA 9 1 7 8,
 ql 10 9,
 qM 11 1,
 qA 12 1 10 11,
 ql 13 12,
 qC 14 .quo 13 256,
 qM 5 14]
def s33:SF:=⟨15,[.tmp 5],.seq (.reg [qI 5 0]) (.seq (.reg aSc) (.ret))⟩
theorem aQp:aM Tryz.prog ⟨[39,75,135,136,137,155,161,186,188,194,195,196,211,212,213,226,230,233,238],[],[],[]⟩ Tryz.f33=some s33:=by kernel_rfl
def aRO:List SO:=[
 sO 22 (.build [.int .i64 0,.int .i64 0,.nilsl,.nilsl,.nilsl] []),
 sO 23 (.build [.int .i64 0,.nilsl] []),
 qM 24 6,
 sN (.store 5 (.t 2) (.t 22)),
 sN (.store 2 (.t 3) (.t 23)),
 qI 4 0,
 qM 5 24]
def aSr:List SO:=[
 qF 26 0 1,
 ql 27 26,
 sO 28 (.call false 53 [.t 27]),
 qM 25 28,
 qE 29 25 0,
 qE 30 25 1,
 sO 7 (.alloc 101 [.int .i64 0,.nilsl]),
 sN (.store 2 (.t 7) (.t 29)),
 qM 8 30]
def aSF:List SO:=[
 sO 33 (.build [.int .i64 0,.int .i64 0,.nilsl,.nilsl,.nilsl] []),
 sO 34 (.build [.int .i64 0,.nilsl] []),
 qM 35 8,
 sN (.store 5 (.t 2) (.t 33)),
 sN (.store 2 (.t 3) (.t 34)),
 qI 4 0,
 qM 5 35]
def aRP:List SO:=[
 qL 36 2 7,
 qF 37 0 1,
 ql 38 37,
 sO 39 (.build [.int .i64 0,.nilsl] [(0,1,.t 38)]),
 sO 40 (.build [.int .i64 0,.nilsl,.int .i64 0,.nilsl] [(0,2,.t 36),(2,2,.t 39)]),
 sO 9 (.alloc 105 [.int .i64 0,.nilsl,.int .i64 0,.nilsl]),
 sN (.store 4 (.t 9) (.t 40))]
def aTN:List SO:=[
 qF 42 0 9,
 qL 43 2 42,
 qF 44 2 9,
 qL 45 2 44,
 sO 46 (.call false 54 [.t 43,.t 45]),
 qM 41 46,
 qE 47 41 0,
 qE 48 41 1,
 qE 49 41 2,
 qE 50 41 3,
 sO 11 (.alloc 101 [.int .i64 0,.nilsl]),
 sN (.store 2 (.t 11) (.t 47)),
 qM 12 48,
 qM 13 49,
 qM 14 50]
def aNp:List SO:=[
 sO 53 (.build [.int .i64 0,.int .i64 0,.nilsl,.nilsl,.nilsl] []),
 sO 54 (.build [.int .i64 0,.nilsl] []),
 qM 55 14,
 sN (.store 5 (.t 2) (.t 53)),
 sN (.store 2 (.t 3) (.t 54)),
 qI 4 0,
 qM 5 55]
def aOB:List SO:=[
 qL 59 4 1,
 qF 60 2 9,
 qL 61 2 60,
 qM 62 12,
 sO 63 (.call false 55 [.t 59,.t 61,.t 62]),
 qM 58 63,
 qE 64 58 0,
 qE 65 58 1,
 qF 66 2 9,
 sN (.store 2 (.t 66) (.t 64)),
 qM 14 65]
def aNX:List SO:=[
 sO 69 (.build [.int .i64 0,.int .i64 0,.nilsl,.nilsl,.nilsl] []),
 sO 70 (.build [.int .i64 0,.nilsl] []),
 qM 71 14,
 sN (.store 5 (.t 2) (.t 69)),
 sN (.store 2 (.t 3) (.t 70)),
 qI 4 0,
 qM 5 71]
def aRe:List SO:=[
 qF 75 0 9,
 qL 76 2 75,
 qF 77 2 9,
 qL 78 2 77,
 sO 79 (.call false 56 [.t 76,.t 78]),
 qM 74 79,
 qE 80 74 0,
 qE 81 74 1,
 sO 15 (.alloc 38 [.int .i64 0,.int .i64 0,.nilsl,.nilsl,.nilsl]),
 sN (.store 5 (.t 15) (.t 80)),
 qM 14 81]
def aO7:List SO:=[
 sO 84 (.build [.int .i64 0,.int .i64 0,.nilsl,.nilsl,.nilsl] []),
 sO 85 (.build [.int .i64 0,.nilsl] []),
 qM 86 14,
 sN (.store 5 (.t 2) (.t 84)),
 sN (.store 2 (.t 3) (.t 85)),
 qI 4 0,
 qM 5 86]
def aNJ:List SO:=[
 qF 90 0 15,
 qL 91 4 90,
 qL 92 4 1,
 sO 93 (.call false 57 [.t 91,.t 92]),
 qM 89 93,
 qE 94 89 0,
 qE 95 89 1,
 qE 96 89 2,
 qM 16 94,
 qM 17 95,
 qM 14 96]
def aRj:List SO:=[
 sO 99 (.build [.int .i64 0,.int .i64 0,.nilsl,.nilsl,.nilsl] []),
 sO 100 (.build [.int .i64 0,.nilsl] []),
 qM 101 14,
 sN (.store 5 (.t 2) (.t 99)),
 sN (.store 2 (.t 3) (.t 100)),
 qI 4 0,
 qM 5 101]
def aRc:List SO:=[
 qL 104 5 15,
 qF 105 2 9,
 qL 106 2 105,
 qM 107 10,
 sN (.store 5 (.t 2) (.t 104)),
 sN (.store 2 (.t 3) (.t 106)),
 qM 4 107,
 qI 5 0]
def aOo:List SO:=[
 qL 109 4 9,
 qL 110 4 1,
 qL 111 5 15,
 qM 112 16,
 sO 113 (.call false 58 [.t 109,.t 110,.t 111,.t 112]),
 qM 108 113,
 qE 114 108 0,
 qE 115 108 1,
 sN (.store 4 (.t 9) (.t 114)),
 qM 14 115]
def aO3:List SO:=[
 sO 118 (.build [.int .i64 0,.int .i64 0,.nilsl,.nilsl,.nilsl] []),
 sO 119 (.build [.int .i64 0,.nilsl] []),
 qM 120 14,
 sN (.store 5 (.t 2) (.t 118)),
 sN (.store 2 (.t 3) (.t 119)),
 qI 4 0,
 qM 5 120]
def aRN:SC:=.block 1 (.seq (.reg aTN) (.seq (.seq (.reg [qM 51 14,qC 52 .neq 51 0]) (.cond (.t 52) (.seq (.reg aNp) (.ret)) (.skip))) (.seq (.reg [qL 56 2 11,qF 57 0 9,sN (.store 2 (.t 57) (.t 56))]) (.seq (.seq (.reg aOB) (.seq (.reg [qM 67 14,qC 68 .neq 67 0]) (.cond (.t 68) (.seq (.reg aNX) (.ret)) (.skip)))) (.seq (.seq (.reg [qM 72 13,sO 73 (.un .not (.t 72))]) (.cond (.t 73) (.exit 1) (.skip))) (.seq (.reg aRe) (.seq (.seq (.reg [qM 82 14,qC 83 .neq 82 0]) (.cond (.t 83) (.seq (.reg aO7) (.ret)) (.skip))) (.seq (.reg [qM 87 10,qC 88 .add 87 1,qM 10 88]) (.seq (.reg aNJ) (.seq (.seq (.reg [qM 97 14,qC 98 .neq 97 0]) (.cond (.t 98) (.seq (.reg aRj) (.ret)) (.skip))) (.seq (.seq (.reg [qM 102 17,sO 103 (.un .not (.t 102))]) (.cond (.t 103) (.seq (.xreg [(105,2,2,5)] aRc) (.ret)) (.skip))) (.seq (.reg aOo) (.seq (.reg [qM 116 14,qC 117 .neq 116 0]) (.cond (.t 117) (.seq (.reg aO3) (.ret)) (.skip)))))))))))))))
def s35:SF:=⟨121,[.cell 2 true 5,.cell 3 true 2,.tmp 4,.tmp 5],.seq (.reg [sO 1 (.box 24 4 (.t 0)),sO 2 (.alloc 38 [.int .i64 0,.int .i64 0,.nilsl,.nilsl,.nilsl]),sO 3 (.alloc 67 [.int .i64 0,.nilsl]),qI 4 0,qI 5 0]) (.seq (.seq (.reg [qL 18 4 1,sO 19 (.call false 29 [.t 18]),qM 6 19]) (.seq (.reg [qM 20 6,qC 21 .neq 20 0]) (.cond (.t 21) (.seq (.reg aRO) (.ret)) (.skip)))) (.seq (.reg aSr) (.seq (.seq (.reg [qM 31 8,qC 32 .neq 31 0]) (.cond (.t 32) (.seq (.reg aSF) (.ret)) (.skip))) (.seq (.reg aRP) (.seq (.reg [qI 10 0]) (.block 0 (.loop aRN)))))))⟩
theorem aNH:aM Tryz.prog ⟨[39,75,135,136,137,155,161,186,188,194,195,196,211,212,213,226,230,233,238],[],[],[]⟩ Tryz.f35=some s35:=by kernel_rfl
def aRF:SC:=.seq (.reg [qP 21 .lss 20 19]) (.seq (.cond (.t 21) (.skip) (.exit 0)) (.seq (.block 1 (.seq (.reg [qA 22 2 18 20,qL 23 2 22,sO 9 (.alloc 118 [.int .i64 0,.nilsl]),sN (.store 2 (.t 9) (.t 23))]) (.seq (.reg [qM 24 6,qF 25 0 9,ql 26 25,sO 27 (.bslice 3 1 false [.int .i64 0] 1 [(0,.t 26)]),sO 28 (.append 3 1 8 (.t 24) (.t 27)),qM 6 28]) (.reg [qM 29 7,qF 30 1 9,ql 31 30,sO 32 (.bslice 25 1 false [.nilsl] 1 [(0,.t 31)]),sO 33 (.append 25 1 24 (.t 29) (.t 32)),qM 7 33])))) (.reg [qC 34 .add 20 1,qM 20 34])))
def s36:SF:=⟨37,[.tmp 2,.tmp 3,.tmp 4],.seq (.reg [sO 1 (.box 24 4 (.t 0)),sO 2 (.mv (.c (.nilsl))),sO 3 (.mv (.c (.nilsl))),qI 4 0]) (.seq (.seq (.reg [qL 10 4 1,sO 11 (.call false 29 [.t 10]),qM 5 11]) (.seq (.reg [qM 12 5,qC 13 .neq 12 0]) (.cond (.t 13) (.seq (.reg [qM 14 5,sO 2 (.mv (.c (.nilsl))),sO 3 (.mv (.c (.nilsl))),qM 4 14]) (.ret)) (.skip)))) (.seq (.reg [sO 6 (.lazy 3 1)]) (.seq (.reg [sO 7 (.lazy 25 1)]) (.seq (.seq (.reg [qL 15 4 1,qF 16 1 1,ql 17 16,sO 18 (.call false 59 [.t 15,.t 17]),qN 19 18,qI 20 0]) (.block 0 (.loop aRF))) (.seq (.reg [qM 35 6,qM 36 7,qM 2 35,qM 3 36,qI 4 0]) (.ret))))))⟩
theorem aM2:aM Tryz.prog ⟨[39,75,135,136,137,155,161,186,188,194,195,196,211,212,213,226,230,233,238],[6,7],[],[]⟩ Tryz.f36=some s36:=by kernel_rfl
def aRf:List SO:=[
 qM 31 6,
 qM 32 10,
 sO 33 (.mlook 1 true (.int .i64 0) (.t 31) (.t 32)),
 qM 30 33,
 qE 34 30 0,
 qE 35 30 1,
 qM 11 34,
 qM 12 35]
def aPh:List SO:=[
 qM 36 12,
 qM 37 36,
 ⟨some (37,false),some 38,.mv (.t 10)⟩,
 ⟨some (37,false),some 39,.bin .lss (.t 38) (.c (.int .i64 0))⟩,
 sO 40 (.pick (.t 37) (.c (.bool true)) (.t 39)),
 qM 41 40,
 ⟨some (41,false),some 42,.mv (.t 10)⟩,
 ⟨some (41,false),some 43,.mv (.t 1)⟩,
 ⟨some (41,false),some 44,.bin .geq (.t 42) (.t 43)⟩,
 sO 45 (.pick (.t 41) (.c (.bool true)) (.t 44))]
def aHC:SC:=.seq (.reg [qP 27 .lss 26 25]) (.seq (.cond (.t 27) (.skip) (.exit 2)) (.seq (.block 3 (.seq (.reg [qA 28 1 24 26,ql 29 28,qM 10 29]) (.seq (.seq (.reg aRf) (.seq (.reg aPh) (.cond (.t 45) (.seq (.reg [sO 4 (.mv (.c (.raw (.map none)))),sO 5 (.mv (.c (.bool false)))]) (.ret)) (.skip)))) (.reg [qM 46 6,qM 47 10,qM 48 7,sN (.mset 1 (.t 46) (.t 47) (.t 48))])))) (.reg [qC 49 .add 26 1,qM 26 49])))
def aG1:SC:=.seq (.reg [qP 17 .lss 16 15]) (.seq (.cond (.t 17) (.skip) (.exit 0)) (.seq (.block 1 (.seq (.reg [qM 18 16,qA 19 1 14 16,ql 20 19,qM 7 18,qM 8 20]) (.seq (.seq (.reg [qM 21 8,qN 22 21,qC 23 .eql 22 0]) (.cond (.t 23) (.seq (.reg [sO 4 (.mv (.c (.raw (.map none)))),sO 5 (.mv (.c (.bool false)))]) (.ret)) (.skip))) (.seq (.reg [qM 24 8,qN 25 24,qI 26 0]) (.block 2 (.loop aHC)))))) (.reg [qC 50 .add 16 1,qM 16 50])))
def aRr:List SO:=[
 qM 51 6,
 qM 52 6,
 sO 53 (.mlen (.t 52)),
 qM 54 1,
 qP 55 .eql 53 54,
 qM 4 51,
 qM 5 55]
def s39:SF:=⟨56,[.tmp 4,.tmp 5],.seq (.reg [sO 4 (.mv (.c (.raw (.map none)))),sO 5 (.mv (.c (.bool false)))]) (.seq (.reg [sO 13 (.mkmap),qM 6 13]) (.seq (.seq (.reg [qM 14 0,qN 15 14,qI 16 0]) (.block 0 (.loop aG1))) (.seq (.reg aRr) (.ret))))⟩
theorem aDC:aM Tryz.prog ⟨[39,75,135,136,137,155,161,186,188,194,195,196,211,212,213,226,230,233,238],[],[],[]⟩ Tryz.f39=some s39:=by kernel_rfl
def aL1:SC:=.seq (.reg [qP 14 .lss 13 12]) (.seq (.cond (.t 14) (.skip) (.exit 0)) (.seq (.block 1 (.seq (.reg [qM 15 13,qA 16 1 11 13,ql 17 16,qM 4 15,qM 5 17]) (.reg [qM 18 3,qM 19 4,qM 20 5,sO 21 (.conv .u8 (.t 20)),qA 22 1 18 19,sN (.store 1 (.t 22) (.t 21))]))) (.reg [qC 23 .add 13 1,qM 13 23])))
def s40:SF:=⟨26,[.tmp 2],.seq (.reg [sO 1 (.box 80 2 (.t 0)),sO 2 (.mv (.c (.str [])))]) (.seq (.reg [qF 6 0 1,ql 7 6,qN 8 7,sO 9 (.mks 5 1 1 [.int .u8 0] (.t 8) (.t 8)),qM 3 9]) (.seq (.seq (.reg [qF 10 0 1,ql 11 10,qN 12 11,qI 13 0]) (.block 0 (.loop aL1))) (.seq (.reg [qM 24 3,sO 25 (.bstr (.t 24)),qM 2 25]) (.ret))))⟩
theorem aIc:aM Tryz.prog ⟨[39,75,135,136,137,155,161,186,188,194,195,196,211,212,213,226,230,233,238],[],[],[]⟩ Tryz.f40=some s40:=by kernel_rfl
def aSU:List SO:=[
 qM 14 9,
 qF 15 2 5,
 ql 16 15,
 qM 17 9,
 sO 18 (.idx 1 (.t 17) (.c (.int .i64 0))),
 ql 19 18,
 qA 20 1 16 19,
 ql 21 20,
 qM 22 2,
 qA 23 1 21 22,
 ql 24 23,
 sO 25 (.idx 1 (.t 14) (.c (.int .i64 0))),
 sN (.store 1 (.t 25) (.t 24))]
def aSW:List SO:=[
 qM 26 9,
 qM 27 3,
 qC 28 .add 27 1,
 qF 29 2 5,
 ql 30 29,
 qM 31 9,
 qM 32 3,
 qC 33 .add 32 1,
 qA 34 1 31 33,
 ql 35 34,
 qA 36 1 30 35,
 ql 37 36,
 qM 38 2,
 qA 39 1 37 38,
 ql 40 39,
 qA 41 1 26 28,
 sN (.store 1 (.t 41) (.t 40))]
def aR8:List SO:=[
 qM 42 9,
 sO 43 (.lazy 3 1),
 qF 44 1 4,
 ql 45 44,
 sO 46 (.append 3 1 8 (.t 43) (.t 45)),
 qM 47 2,
 sO 48 (.bslice 3 1 false [.int .i64 0] 1 [(0,.t 47)]),
 sO 49 (.append 3 1 8 (.t 46) (.t 48)),
 sO 50 (.build [.nilsl,.nilsl] [(0,1,.t 42),(1,1,.t 49)]),
 sN (.store 2 (.t 8) (.t 50))]
def s41:SF:=⟨51,[.cell 8 true 2],.seq (.reg [sO 4 (.box 80 2 (.t 0)),sO 5 (.box 24 4 (.t 1)),sO 8 (.alloc 80 [.nilsl,.nilsl])]) (.seq (.reg [sO 10 (.lazy 3 1),qF 11 0 4,ql 12 11,sO 13 (.append 3 1 8 (.t 10) (.t 12)),qM 9 13]) (.seq (.reg aSU) (.seq (.reg aSW) (.seq (.reg aR8) (.ret)))))⟩
theorem aGT:aM Tryz.prog ⟨[39,75,135,136,137,155,161,186,188,194,195,196,211,212,213,226,230,233,238],[10,43],[],[]⟩ Tryz.f41=some s41:=by kernel_rfl
def aT7:List SO:=[
 qM 26 8,
 qC 27 .lss 26 0,
 qM 28 27,
 ⟨some (28,false),some 29,.mv (.t 8)⟩,
 ⟨some (28,false),some 30,.fld 0 (.t 2)⟩,
 ⟨some (28,false),some 31,.load false 1 (.t 30)⟩,
 ⟨some (28,false),some 32,.bin .geq (.t 29) (.t 31)⟩,
 sO 33 (.pick (.t 28) (.c (.bool true)) (.t 32))]
def aL0:SC:=.seq (.reg [qP 22 .lss 21 20]) (.seq (.cond (.t 22) (.skip) (.exit 0)) (.seq (.block 1 (.seq (.reg [qM 23 21,qA 24 1 19 21,ql 25 24,qM 7 23,qM 8 25]) (.seq (.seq (.reg aT7) (.cond (.t 33) (.seq (.reg [sO 34 (.build [.int .i64 0,.int .i64 0,.nilsl,.nilsl] []),sN (.store 4 (.t 4) (.t 34)),qI 5 2]) (.ret)) (.skip))) (.seq (.reg [ql 35 3,qM 36 7,sO 37 (.slice 1 (.t 35) none (some (.t 36))),qM 38 8,sO 39 (.call false 69 [.t 37,.t 38])]) (.cond (.t 39) (.seq (.reg [sO 40 (.build [.int .i64 0,.int .i64 0,.nilsl,.nilsl] []),sN (.store 4 (.t 4) (.t 40)),qI 5 7]) (.ret)) (.skip)))))) (.reg [qC 41 .add 21 1,qM 21 41])))
def aPg:List SO:=[
 ql 42 3,
 qN 43 42,
 qF 44 1 2,
 ql 45 44,
 sO 46 (.build [.int .i64 0,.int .i64 0] [(0,1,.t 45),(1,1,.c (.int .i64 0))]),
 sO 47 (.mkf 71 [.t 2,.t 3]),
 sO 48 (.call false 70 [.t 43,.t 46,.t 47]),
 qE 49 48 0,
 qE 50 48 1,
 sN (.store 4 (.t 4) (.t 49)),
 qM 5 50]
def s45:SF:=⟨51,[.cell 4 true 4,.tmp 5],.seq (.reg [sO 2 (.box 24 4 (.t 0)),sO 3 (.box 25 1 (.t 1)),sO 4 (.alloc 24 [.int .i64 0,.int .i64 0,.nilsl,.nilsl]),qI 5 0]) (.seq (.seq (.reg [qL 9 4 2,sO 10 (.call false 29 [.t 9]),qM 6 10]) (.seq (.reg [qM 11 6,qC 12 .neq 11 0]) (.cond (.t 12) (.seq (.reg [sO 13 (.build [.int .i64 0,.int .i64 0,.nilsl,.nilsl] []),qM 14 6,sN (.store 4 (.t 4) (.t 13)),qM 5 14]) (.ret)) (.skip)))) (.seq (.seq (.reg [ql 15 3,qN 16 15,qC 17 .eql 16 0]) (.cond (.t 17) (.seq (.reg [sO 18 (.build [.int .i64 0,.int .i64 0,.nilsl,.nilsl] []),sN (.store 4 (.t 4) (.t 18)),qI 5 19]) (.ret)) (.skip))) (.seq (.seq (.reg [ql 19 3,qN 20 19,qI 21 0]) (.block 0 (.loop aL0))) (.seq (.reg aPg) (.ret)))))⟩
theorem aGw:aM Tryz.prog ⟨[39,75,135,136,137,155,161,186,188,194,195,196,211,212,213,226,230,233,238],[],[],[]⟩ Tryz.f45=some s45:=by kernel_rfl
def aS9:List SO:=[
 qM 34 12,
 qM 35 11,
 sO 36 (.nilck (.t 35)),
 qF 37 4 36,
 ql 38 37,
 qM 6 34,
 qM 7 38,
 qI 8 0]
def s47:SF:=⟨39,[.tmp 6,.tmp 7,.tmp 8],.seq (.reg [sO 3 (.box 24 4 (.t 0)),sO 6 (.mv (.c (.nilsl))),qI 7 0,qI 8 0]) (.seq (.seq (.reg [qL 13 4 3,qM 14 1,sO 15 (.call false 73 [.t 13,.t 14]),qM 9 15]) (.seq (.reg [qM 16 9,qC 17 .neq 16 0]) (.cond (.t 17) (.seq (.reg [qM 18 9,sO 6 (.mv (.c (.nilsl))),qI 7 0,qM 8 18]) (.ret)) (.skip)))) (.seq (.seq (.reg [qM 19 2,qF 20 0 3,ql 21 20,sO 22 (.call false 74 [.t 19,.t 21]),qM 10 22]) (.seq (.reg [qM 23 10,qC 24 .neq 23 0]) (.cond (.t 24) (.seq (.reg [qM 25 10,sO 6 (.mv (.c (.nilsl))),qI 7 0,qM 8 25]) (.ret)) (.skip)))) (.seq (.reg [qL 26 4 3,sO 27 (.build [.int .i64 0,.int .i64 0,.nilsl,.nilsl] [(0,4,.t 26)]),qM 28 1,sO 29 (.build [.int .i64 0,.int .i64 0,.nilsl,.nilsl,.int .i64 0] [(0,4,.t 27),(4,1,.t 28)]),sO 30 (.box 147 5 (.t 29)),qM 11 30]) (.seq (.reg [qM 31 11,qM 32 2,sO 33 (.call true 75 [.t 31,.t 32]),qM 12 33]) (.seq (.reg aS9) (.ret))))))⟩
theorem aH2:aM Tryz.prog ⟨[39,75,135,136,137,155,161,186,188,194,195,196,211,212,213,226,230,233,238],[],[],[]⟩ Tryz.f47=some s47:=by kernel_rfl
def aMq:SC:=.seq (.reg [qP 30 .lss 29 28]) (.seq (.cond (.t 30) (.skip) (.exit 0)) (.seq (.block 1 (.seq (.reg [qM 31 29,qA 32 1 27 29,ql 33 32,qM 7 31,qM 8 33]) (.reg [qM 34 6,qM 35 8,qM 36 7,qA 37 1 34 35,sN (.store 1 (.t 37) (.t 36))]))) (.reg [qC 38 .add 29 1,qM 29 38])))
def aQH:List SO:=[
 qF 51 2 1,
 ql 52 51,
 qM 53 11,
 qA 54 1 52 53,
 ql 55 54,
 qN 56 55,
 qI 57 0]
def aN5:List SO:=[
 qM 62 12,
 qM 63 13,
 qM 64 6,
 qM 65 14,
 qA 66 1 64 65,
 ql 67 66,
 qA 68 1 62 63,
 sN (.store 1 (.t 68) (.t 67))]
def aME:SC:=.seq (.reg [qP 58 .lss 57 56]) (.seq (.cond (.t 58) (.skip) (.exit 4)) (.seq (.block 5 (.seq (.reg [qM 59 57,qA 60 1 55 57,ql 61 60,qM 13 59,qM 14 61]) (.reg aN5))) (.reg [qC 69 .add 57 1,qM 57 69])))
def aNP:List SO:=[
 qF 70 2 9,
 ql 71 70,
 qM 72 12,
 sO 73 (.bslice 25 1 false [.nilsl] 1 [(0,.t 72)]),
 sO 74 (.append 25 1 24 (.t 71) (.t 73)),
 qF 75 2 9,
 sN (.store 1 (.t 75) (.t 74))]
def aPF:List SO:=[
 qF 76 3 9,
 ql 77 76,
 qF 78 3 1,
 ql 79 78,
 qM 80 11,
 qA 81 1 79 80,
 ql 82 81,
 sO 83 (.call false 77 [.t 82]),
 sO 84 (.bslice 25 1 false [.nilsl] 1 [(0,.t 83)]),
 sO 85 (.append 25 1 24 (.t 77) (.t 84)),
 qF 86 3 9,
 sN (.store 1 (.t 86) (.t 85))]
def aMJ:SC:=.seq (.reg [qP 45 .lss 44 43]) (.seq (.cond (.t 45) (.skip) (.exit 2)) (.seq (.block 3 (.seq (.reg [qA 46 1 42 44,ql 47 46,qM 11 47]) (.seq (.reg [qF 48 0 1,ql 49 48,sO 50 (.mks 3 1 8 [.int .i64 0] (.t 49) (.t 49)),qM 12 50]) (.seq (.seq (.reg aQH) (.block 4 (.loop aME))) (.seq (.reg aNP) (.reg aPF)))))) (.reg [qC 87 .add 44 1,qM 44 87])))
def s48:SF:=⟨89,[.cell 2 true 4,.tmp 3],.seq (.reg [sO 1 (.box 24 4 (.t 0)),sO 2 (.alloc 24 [.int .i64 0,.int .i64 0,.nilsl,.nilsl]),qI 3 0]) (.seq (.seq (.reg [qL 15 4 1,sO 16 (.call false 29 [.t 15]),qM 4 16]) (.seq (.reg [qM 17 4,qC 18 .neq 17 0]) (.cond (.t 18) (.seq (.reg [sO 19 (.build [.int .i64 0,.int .i64 0,.nilsl,.nilsl] []),qM 20 4,sN (.store 4 (.t 2) (.t 19)),qM 3 20]) (.ret)) (.skip)))) (.seq (.reg [qL 21 4 1,sO 22 (.call false 76 [.t 21]),qM 5 22]) (.seq (.reg [qF 23 2 1,ql 24 23,qN 25 24,sO 26 (.mks 3 1 8 [.int .i64 0] (.t 25) (.t 25)),qM 6 26]) (.seq (.seq (.reg [qM 27 5,qN 28 27,qI 29 0]) (.block 0 (.loop aMq))) (.seq (.reg [qF 39 0 1,ql 40 39,sO 41 (.build [.int .i64 0,.int .i64 0,.nilsl,.nilsl] [(0,1,.t 40)]),sO 9 (.alloc 24 [.int .i64 0,.int .i64 0,.nilsl,.nilsl]),sN (.store 4 (.t 9) (.t 41))]) (.seq (.seq (.reg [qM 42 5,qN 43 42,qI 44 0]) (.block 2 (.loop aMJ))) (.seq (.reg [qL 88 4 9,sN (.store 4 (.t 2) (.t 88)),qI 3 0]) (.ret))))))))⟩
theorem aG5:aM Tryz.prog ⟨[39,75,135,136,137,155,161,186,188,194,195,196,211,212,213,226,230,233,238],[],[],[]⟩ Tryz.f48=some s48:=by kernel_rfl
def s49:SF:=⟨8,[.tmp 2,.tmp 3],.seq (.reg [sO 1 (.box 24 4 (.t 0)),sO 2 (.mv (.c (.nilsl))),qI 3 0]) (.seq (.reg [qL 4 4 1,sO 5 (.call false 78 [.t 4,.c (.int .i64 128)]),qE 6 5 0,qE 7 5 1,qM 2 6,qM 3 7]) (.ret))⟩
theorem aHm:aM Tryz.prog ⟨[39,75,135,136,137,155,161,186,188,194,195,196,211,212,213,226,230,233,238],[],[],[]⟩ Tryz.f49=some s49:=by kernel_rfl
def s53:SF:=⟨14,[.cell 2 true 2,.tmp 3],.seq (.reg [sO 2 (.alloc 101 [.int .i64 0,.nilsl]),qI 3 0]) (.seq (.seq (.reg [qM 4 0,qC 5 .lss 4 1,qM 6 5,⟨some (6,false),some 7,.mv (.t 0)⟩,⟨some (6,false),some 8,.bin .gtr (.t 7) (.c (.int .i64 64))⟩,sO 9 (.pick (.t 6) (.c (.bool true)) (.t 8))]) (.cond (.t 9) (.seq (.reg [sO 10 (.build [.int .i64 0,.nilsl] []),sN (.store 2 (.t 2) (.t 10)),qI 3 2]) (.ret)) (.skip))) (.seq (.reg [qM 11 0,sO 12 (.call false 83 []),sO 13 (.build [.int .i64 0,.nilsl] [(0,1,.t 11),(1,1,.t 12)]),sN (.store 2 (.t 2) (.t 13)),qI 3 0]) (.ret)))⟩
theorem aOS:aM Tryz.prog ⟨[39,75,135,136,137,155,161,186,188,194,195,196,211,212,213,226,230,233,238],[],[],[]⟩ Tryz.f53=some s53:=by kernel_rfl
def aTX:List SO:=[
 qL 27 4 8,
 sO 28 (.call false 85 [.t 27]),
 qM 26 28,
 qE 29 26 0,
 qE 30 26 1,
 qE 31 26 2,
 qM 10 29,
 qM 11 30,
 qM 12 31]
def aOm:List SO:=[
 qF 58 1 2,
 qL 59 1 58,
 qF 60 1 14,
 ql 61 60,
 qL 62 4 8,
 qF 63 0 14,
 ql 64 63,
 qF 65 1 2,
 qF 66 0 65,
 ql 67 66,
 qF 68 1 14,
 ql 69 68,
 qA 70 5 67 69,
 qF 71 2 70,
 ql 72 71,
 sO 73 (.call false 89 [.t 62,.t 64,.t 72]),
 qF 74 0 14,
 ql 75 74,
 sO 76 (.call false 88 [.t 59,.t 61,.t 73,.t 75]),
 qM 57 76,
 qE 77 57 0,
 qE 78 57 1,
 sO 15 (.alloc 99 [.nilsl]),
 sN (.store 1 (.t 15) (.t 77)),
 qM 16 78]
def aOs:List SO:=[
 qF 83 0 2,
 ql 84 83,
 qL 85 1 15,
 sO 86 (.build [.int .i64 0,.nilsl] [(0,1,.t 84),(1,1,.t 85)]),
 sN (.store 2 (.t 4) (.t 86)),
 sO 5 (.mv (.c (.nilsl))),
 sO 6 (.mv (.c (.bool false))),
 qI 7 0]
def aS7:SC:=.seq (.reg [qP 44 .lss 43 42]) (.seq (.cond (.t 44) (.skip) (.exit 0)) (.seq (.block 1 (.seq (.reg [qA 45 2 41 43,qL 46 2 45,sO 14 (.alloc 159 [.nilsl,.int .i64 0]),sN (.store 2 (.t 14) (.t 46))]) (.seq (.seq (.reg [qL 47 4 8,qF 48 1 14,ql 49 48,sO 50 (.call false 86 [.t 47,.t 49])]) (.cond (.t 50) (.exit 1) (.skip))) (.seq (.seq (.reg [qF 51 1 2,qL 52 1 51,sO 53 (.call false 87 [.t 52]),qN 54 53,qC 55 .geq 54 128]) (.cond (.t 55) (.seq (.reg [qL 56 2 2,sN (.store 2 (.t 4) (.t 56)),sO 5 (.mv (.c (.nilsl))),sO 6 (.mv (.c (.bool false))),qI 7 11]) (.ret)) (.skip))) (.seq (.dreg [15] aOm) (.seq (.seq (.reg [qM 79 16,qC 80 .neq 79 0]) (.cond (.t 80) (.seq (.reg [qL 81 2 2,qM 82 16,sN (.store 2 (.t 4) (.t 81)),sO 5 (.mv (.c (.nilsl))),sO 6 (.mv (.c (.bool false))),qM 7 82]) (.ret)) (.skip))) (.seq (.reg aOs) (.ret)))))))) (.reg [qC 87 .add 43 1,qM 43 87])))
def s54:SF:=⟨89,[.cell 4 true 2,.tmp 5,.tmp 6,.tmp 7],.seq (.reg [sO 2 (.box 101 2 (.t 0)),sO 3 (.box 67 2 (.t 1)),sO 4 (.alloc 101 [.int .i64 0,.nilsl]),sO 5 (.mv (.c (.nilsl))),sO 6 (.mv (.c (.bool false))),qI 7 0]) (.seq (.reg [qL 17 2 2,qL 18 2 3,sO 19 (.build [.int .i64 0,.nilsl,.int .i64 0,.nilsl] [(0,2,.t 17),(2,2,.t 18)]),sO 8 (.alloc 105 [.int .i64 0,.nilsl,.int .i64 0,.nilsl]),sN (.store 4 (.t 8) (.t 19))]) (.seq (.seq (.reg [qL 20 4 8,sO 21 (.call false 84 [.t 20]),qM 9 21]) (.seq (.reg [qM 22 9,qC 23 .neq 22 0]) (.cond (.t 23) (.seq (.reg [qL 24 2 2,qM 25 9,sN (.store 2 (.t 4) (.t 24)),sO 5 (.mv (.c (.nilsl))),sO 6 (.mv (.c (.bool false))),qM 7 25]) (.ret)) (.skip)))) (.seq (.reg aTX) (.seq (.seq (.reg [qM 32 12,qC 33 .neq 32 0]) (.cond (.t 33) (.seq (.reg [qL 34 2 2,qM 35 12,sN (.store 2 (.t 4) (.t 34)),sO 5 (.mv (.c (.nilsl))),sO 6 (.mv (.c (.bool false))),qM 7 35]) (.ret)) (.skip))) (.seq (.seq (.reg [qM 36 11,qN 37 36,qC 38 .gtr 37 0]) (.cond (.t 38) (.seq (.reg [qL 39 2 2,qM 40 11,sN (.store 2 (.t 4) (.t 39)),qM 5 40,sO 6 (.mv (.c (.bool false))),qI 7 0]) (.ret)) (.skip))) (.seq (.seq (.reg [qM 41 10,qN 42 41,qI 43 0]) (.block 0 (.loop aS7))) (.seq (.reg [qL 88 2 2,sN (.store 2 (.t 4) (.t 88)),sO 5 (.mv (.c (.nilsl))),sO 6 (.mv (.c (.bool true))),qI 7 0]) (.ret))))))))⟩
theorem aRq:aM Tryz.prog ⟨[39,75,135,136,137,155,161,186,188,194,195,196,211,212,213,226,230,233,238],[],[],[]⟩ Tryz.f54=some s54:=by kernel_rfl
def aSv:List SO:=[
 qL 19 4 3,
 qM 20 9,
 sO 21 (.call false 23 [.t 19,.t 20]),
 qM 18 21,
 qE 22 18 0,
 qE 23 18 1,
 qM 10 22,
 qM 11 23]
def aTc:List SO:=[
 qL 29 2 4,
 qM 30 9,
 qM 31 10,
 sO 32 (.build [.nilsl,.nilsl] [(0,1,.t 30),(1,1,.t 31)]),
 sO 33 (.call false 90 [.t 29,.t 32]),
 qM 28 33,
 qE 34 28 0,
 qE 35 28 1,
 sN (.store 2 (.t 4) (.t 34)),
 qM 11 35]
def aS4:SC:=.seq (.reg [qP 15 .lss 14 13]) (.seq (.cond (.t 15) (.skip) (.exit 0)) (.seq (.block 1 (.seq (.reg [qA 16 1 12 14,ql 17 16,qM 9 17]) (.seq (.reg aSv) (.seq (.seq (.reg [qM 24 11,qC 25 .neq 24 0]) (.cond (.t 25) (.seq (.reg [qL 26 2 4,qM 27 11,sN (.store 2 (.t 6) (.t 26)),qM 7 27]) (.ret)) (.skip))) (.seq (.reg aTc) (.seq (.reg [qM 36 11,qC 37 .neq 36 0]) (.cond (.t 37) (.seq (.reg [qL 38 2 4,qM 39 11,sN (.store 2 (.t 6) (.t 38)),qM 7 39]) (.ret)) (.skip)))))))) (.reg [qC 40 .add 14 1,qM 14 40])))
def s55:SF:=⟨42,[.cell 6 true 2,.tmp 7],.seq (.reg [sO 3 (.box 24 4 (.t 0)),sO 4 (.box 67 2 (.t 1)),sO 6 (.alloc 67 [.int .i64 0,.nilsl]),qI 7 0]) (.seq (.seq (.reg [qM 12 2,qN 13 12,qI 14 0]) (.block 0 (.loop aS4))) (.seq (.reg [qL 41 2 4,sN (.store 2 (.t 6) (.t 41)),qI 7 0]) (.ret)))⟩
theorem aNb:aM Tryz.prog ⟨[39,75,135,136,137,155,161,186,188,194,195,196,211,212,213,226,230,233,238],[],[],[]⟩ Tryz.f55=some s55:=by kernel_rfl
def aSt:List SO:=[
 qL 29 4 6,
 sO 30 (.call false 85 [.t 29]),
 qM 28 30,
 qE 31 28 0,
 qE 32 28 1,
 qE 33 28 2,
 qM 8 31,
 qM 9 32,
 qM 10 33]
def aOb:List SO:=[
 qF 45 0 2,
 ql 46 45,
 sO 47 (.build [.int .i64 0,.int .i64 0,.nilsl,.nilsl] [(0,1,.t 46)]),
 qM 48 11,
 sO 49 (.build [.int .i64 0,.int .i64 0,.nilsl,.nilsl,.nilsl] [(0,4,.t 47),(4,1,.t 48)]),
 sO 12 (.alloc 38 [.int .i64 0,.int .i64 0,.nilsl,.nilsl,.nilsl]),
 sN (.store 5 (.t 12) (.t 49))]
def aOD:List SO:=[
 qM 55 8,
 qM 56 13,
 qF 57 0 2,
 ql 58 57,
 qP 59 .mul 56 58,
 qM 60 13,
 qC 61 .add 60 1,
 qF 62 0 2,
 ql 63 62,
 qP 64 .mul 61 63,
 sO 65 (.slice 2 (.t 55) (some (.t 59)) (some (.t 64))),
 qN 66 65,
 qI 67 0]
def aOw:List SO:=[
 qF 77 1 2,
 qF 78 0 77,
 ql 79 78,
 qF 80 1 17,
 ql 81 80,
 qA 82 5 79 81,
 qF 83 1 82,
 ql 84 83,
 sO 18 (.alloc 25 [.nilsl]),
 sN (.store 1 (.t 18) (.t 84))]
def aOh:List SO:=[
 qM 85 14,
 qM 86 11,
 sO 87 (.mkf 92 [.t 18]),
 sO 88 (.call false 91 [.t 86,.t 87]),
 sO 89 (.bslice 3 1 false [.int .i64 0] 1 [(0,.t 88)]),
 sO 90 (.append 3 1 8 (.t 85) (.t 89)),
 qM 14 90]
def aN2:List SO:=[
 qM 91 15,
 qL 92 4 6,
 qF 93 0 17,
 ql 94 93,
 qF 95 0 17,
 ql 96 95,
 qN 97 96,
 qC 98 .sub 97 1,
 sO 99 (.slice 1 (.t 94) none (some (.t 98))),
 qF 100 0 17,
 ql 101 100,
 qF 102 0 17,
 ql 103 102,
 qN 104 103,
 qC 105 .sub 104 1,
 sO 106 (.slice 1 (.t 101) (some (.t 105)) none),
 sO 107 (.call false 89 [.t 92,.t 99,.t 106]),
 sO 108 (.append 3 1 8 (.t 91) (.t 107)),
 qM 15 108]
def aSA:SC:=.seq (.reg [qP 68 .lss 67 66]) (.seq (.cond (.t 68) (.skip) (.exit 2)) (.seq (.block 3 (.seq (.reg [qA 69 2 65 67,qL 70 2 69,sO 17 (.alloc 159 [.nilsl,.int .i64 0]),sN (.store 2 (.t 17) (.t 70))]) (.seq (.seq (.reg [qL 71 4 6,qF 72 1 17,ql 73 72,sO 74 (.call false 86 [.t 71,.t 73]),sO 75 (.un .not (.t 74))]) (.cond (.t 75) (.seq (.reg [sO 76 (.build [.int .i64 0,.int .i64 0,.nilsl,.nilsl,.nilsl] []),sN (.store 5 (.t 4) (.t 76)),qI 5 10]) (.ret)) (.skip))) (.seq (.reg aOw) (.seq (.reg aOh) (.reg aN2)))))) (.reg [qC 109 .add 67 1,qM 67 109])))
def aMX:List SO:=[
 qF 110 0 12,
 qF 111 2 110,
 ql 112 111,
 qM 113 14,
 sO 114 (.bslice 25 1 false [.nilsl] 1 [(0,.t 113)]),
 sO 115 (.append 25 1 24 (.t 112) (.t 114)),
 qF 116 0 12,
 qF 117 2 116,
 sN (.store 1 (.t 117) (.t 115))]
def aPi:List SO:=[
 qF 118 0 12,
 qF 119 3 118,
 ql 120 119,
 qM 121 15,
 sO 122 (.bslice 25 1 false [.nilsl] 1 [(0,.t 121)]),
 sO 123 (.append 25 1 24 (.t 120) (.t 122)),
 qF 124 0 12,
 qF 125 3 124,
 sN (.store 1 (.t 125) (.t 123))]
def aRJ:SC:=.seq (.reg [qP 53 .lss 52 51]) (.seq (.cond (.t 53) (.skip) (.exit 0)) (.seq (.block 1 (.seq (.reg [qM 54 52,qM 13 54]) (.seq (.reg [sO 14 (.lazy 3 1),sO 15 (.lazy 3 1)]) (.seq (.seq (.reg aOD) (.block 2 (.loop aSA))) (.seq (.reg aMX) (.reg aPi)))))) (.reg [qC 126 .add 52 1,qM 52 126])))
def s56:SF:=⟨132,[.cell 4 true 5,.tmp 5],.seq (.reg [sO 2 (.box 101 2 (.t 0)),sO 3 (.box 67 2 (.t 1)),sO 4 (.alloc 38 [.int .i64 0,.int .i64 0,.nilsl,.nilsl,.nilsl]),qI 5 0]) (.seq (.reg [qL 19 2 2,qL 20 2 3,sO 21 (.build [.int .i64 0,.nilsl,.int .i64 0,.nilsl] [(0,2,.t 19),(2,2,.t 20)]),sO 6 (.alloc 105 [.int .i64 0,.nilsl,.int .i64 0,.nilsl]),sN (.store 4 (.t 6) (.t 21))]) (.seq (.seq (.reg [qL 22 4 6,sO 23 (.call false 84 [.t 22]),qM 7 23]) (.seq (.reg [qM 24 7,qC 25 .neq 24 0]) (.cond (.t 25) (.seq (.reg [sO 26 (.build [.int .i64 0,.int .i64 0,.nilsl,.nilsl,.nilsl] []),qM 27 7,sN (.store 5 (.t 4) (.t 26)),qM 5 27]) (.ret)) (.skip)))) (.seq (.reg aSt) (.seq (.seq (.reg [qM 34 10,qC 35 .neq 34 0]) (.cond (.t 35) (.seq (.reg [sO 36 (.build [.int .i64 0,.int .i64 0,.nilsl,.nilsl,.nilsl] []),qM 37 10,sN (.store 5 (.t 4) (.t 36)),qM 5 37]) (.ret)) (.skip))) (.seq (.seq (.reg [qM 38 9,qN 39 38,qC 40 .gtr 39 0]) (.cond (.t 40) (.seq (.reg [sO 41 (.build [.int .i64 0,.int .i64 0,.nilsl,.nilsl,.nilsl] []),sN (.store 5 (.t 4) (.t 41)),qI 5 12]) (.ret)) (.skip))) (.seq (.reg [qF 42 1 2,qL 43 1 42,sO 44 (.call false 87 [.t 43]),qM 11 44]) (.seq (.reg aOb) (.seq (.seq (.reg [qM 50 11,qN 51 50,qI 52 0]) (.block 0 (.loop aRJ))) (.seq (.seq (.reg [qL 127 5 12,sO 128 (.call false 93 [.t 127]),qC 129 .neq 128 0]) (.cond (.t 129) (.seq (.reg [sO 130 (.build [.int .i64 0,.int .i64 0,.nilsl,.nilsl,.nilsl] []),sN (.store 5 (.t 4) (.t 130)),qI 5 15]) (.ret)) (.skip))) (.seq (.reg [qL 131 5 12,sN (.store 5 (.t 4) (.t 131)),qI 5 0]) (.ret)))))))))))⟩
theorem aQG:aM Tryz.prog ⟨[39,75,135,136,137,155,161,186,188,194,195,196,211,212,213,226,230,233,238],[14,15],[],[]⟩ Tryz.f56=some s56:=by kernel_rfl
def aSh:List SO:=[
 qL 17 4 2,
 qL 18 4 3,
 qF 19 1 2,
 ql 20 19,
 qF 21 1 3,
 ql 22 21,
 sO 23 (.build [.int .i64 0,.int .i64 0] [(0,1,.t 20),(1,1,.t 22)]),
 sO 24 (.call false 95 [.t 17,.t 18,.t 23]),
 qM 16 24,
 qE 25 16 0,
 qE 26 16 1,
 qM 8 25,
 qM 9 26]
def s57:SF:=⟨29,[.tmp 4,.tmp 5,.tmp 6],.seq (.reg [sO 2 (.box 24 4 (.t 0)),sO 3 (.box 24 4 (.t 1)),sO 4 (.mv (.c (.nilsl))),sO 5 (.mv (.c (.bool false))),qI 6 0]) (.seq (.seq (.reg [qL 10 4 2,qL 11 4 3,sO 12 (.call false 94 [.t 10,.t 11]),qM 7 12]) (.seq (.reg [qM 13 7,qC 14 .neq 13 0]) (.cond (.t 14) (.seq (.reg [qM 15 7,sO 4 (.mv (.c (.nilsl))),sO 5 (.mv (.c (.bool false))),qM 6 15]) (.ret)) (.skip)))) (.seq (.reg aSh) (.seq (.reg [qM 27 8,qM 28 9,qM 4 27,qM 5 28,qI 6 0]) (.ret))))⟩
theorem aNw:aM Tryz.prog ⟨[39,75,135,136,137,155,161,186,188,194,195,196,211,212,213,226,230,233,238],[],[],[]⟩ Tryz.f57=some s57:=by kernel_rfl
def aT2:List SO:=[
 qL 18 4 5,
 qF 19 2 4,
 qL 20 2 19,
 qM 21 3,
 sO 22 (.bslice 25 1 false [.nilsl] 1 [(0,.t 21)]),
 sO 23 (.call false 55 [.t 18,.t 20,.t 22]),
 qM 17 23,
 qE 24 17 0,
 qE 25 17 1,
 sO 10 (.alloc 67 [.int .i64 0,.nilsl]),
 sN (.store 2 (.t 10) (.t 24)),
 qM 11 25]
def aTx:List SO:=[
 qL 31 5 6,
 qL 32 2 10,
 qM 33 3,
 sO 34 (.call false 96 [.t 31,.t 32,.t 33]),
 qM 30 34,
 qE 35 30 0,
 qE 36 30 1,
 qE 37 30 2,
 sO 12 (.alloc 179 [.nilsl,.int .i64 0,.nilsl]),
 sN (.store 3 (.t 12) (.t 35)),
 qM 13 36,
 qM 11 37]
def aT6:List SO:=[
 qM 38 11,
 qC 39 .eql 38 0,
 qM 40 39,
 ⟨some (40,true),some 41,.mv (.t 13)⟩,
 ⟨some (40,true),some 42,.len (.t 41)⟩,
 ⟨some (40,true),some 43,.bin .gtr (.t 42) (.c (.int .i64 0))⟩,
 sO 44 (.pick (.t 40) (.t 43) (.c (.bool false)))]
def aTj:List SO:=[
 qL 54 4 5,
 qL 55 2 10,
 qM 56 13,
 sO 57 (.bslice 25 1 false [.nilsl] 1 [(0,.t 56)]),
 sO 58 (.call false 55 [.t 54,.t 55,.t 57]),
 qM 53 58,
 qE 59 53 0,
 qE 60 53 1,
 sN (.store 2 (.t 10) (.t 59)),
 qM 11 60]
def aRL:List SO:=[
 qL 46 5 6,
 qL 47 2 10,
 qM 48 3,
 sO 49 (.call false 96 [.t 46,.t 47,.t 48]),
 qM 45 49,
 qE 50 45 0,
 qE 51 45 1,
 qE 52 45 2,
 sN (.store 3 (.t 12) (.t 50)),
 qM 13 51,
 qM 11 52]
def aSw:SC:=.seq (.seq (.reg aT6) (.cond (.t 44) (.skip) (.exit 0))) (.seq (.block 1 (.seq (.reg aTj) (.seq (.reg [qM 61 11,qC 62 .neq 61 0]) (.cond (.t 62) (.seq (.reg [qL 63 4 4,qM 64 11,sN (.store 4 (.t 8) (.t 63)),qM 9 64]) (.ret)) (.skip))))) (.reg aRL))
def aQh:List SO:=[
 qF 70 0 4,
 qL 71 2 70,
 qL 72 2 10,
 qL 73 3 12,
 sO 74 (.call false 97 [.t 71,.t 72,.t 73]),
 qM 69 74,
 qE 75 69 0,
 qE 76 69 1,
 qE 77 69 2,
 sO 14 (.alloc 101 [.int .i64 0,.nilsl]),
 sN (.store 2 (.t 14) (.t 75)),
 qM 15 76,
 qM 16 77]
def aRk:List SO:=[
 qL 89 4 5,
 qL 90 2 10,
 qM 91 15,
 sO 92 (.call false 55 [.t 89,.t 90,.t 91]),
 qM 88 92,
 qE 93 88 0,
 qE 94 88 1,
 sN (.store 2 (.t 10) (.t 93)),
 qM 16 94]
def aSx:SC:=.block 3 (.seq (.reg aQh) (.seq (.seq (.reg [qM 78 16,qC 79 .neq 78 0]) (.cond (.t 79) (.seq (.reg [qL 80 4 4,qM 81 16,sN (.store 4 (.t 8) (.t 80)),qM 9 81]) (.ret)) (.skip))) (.seq (.seq (.reg [qM 82 15,qN 83 82,qC 84 .eql 83 0]) (.cond (.t 84) (.seq (.reg [qL 85 2 14,qL 86 2 10,sO 87 (.build [.int .i64 0,.nilsl,.int .i64 0,.nilsl] [(0,2,.t 85),(2,2,.t 86)]),sN (.store 4 (.t 8) (.t 87)),qI 9 0]) (.ret)) (.skip))) (.seq (.reg aRk) (.seq (.reg [qM 95 16,qC 96 .neq 95 0]) (.cond (.t 96) (.seq (.reg [qL 97 4 4,qM 98 16,sN (.store 4 (.t 8) (.t 97)),qM 9 98]) (.ret)) (.skip)))))))
def s58:SF:=⟨99,[.cell 8 true 4,.tmp 9],.seq (.reg [sO 4 (.box 105 4 (.t 0)),sO 5 (.box 24 4 (.t 1)),sO 6 (.box 38 5 (.t 2)),sO 8 (.alloc 105 [.int .i64 0,.nilsl,.int .i64 0,.nilsl]),qI 9 0]) (.seq (.reg aT2) (.seq (.seq (.reg [qM 26 11,qC 27 .neq 26 0]) (.cond (.t 27) (.seq (.reg [qL 28 4 4,qM 29 11,sN (.store 4 (.t 8) (.t 28)),qM 9 29]) (.ret)) (.skip))) (.seq (.reg aTx) (.seq (.block 0 (.loop aSw)) (.seq (.seq (.reg [qM 65 11,qC 66 .neq 65 0]) (.cond (.t 66) (.seq (.reg [qL 67 4 4,qM 68 11,sN (.store 4 (.t 8) (.t 67)),qM 9 68]) (.ret)) (.skip))) (.block 2 (.loop aSx)))))))⟩
theorem aPW:aM Tryz.prog ⟨[39,75,135,136,137,155,161,186,188,194,195,196,211,212,213,226,230,233,238],[],[],[]⟩ Tryz.f58=some s58:=by kernel_rfl
def aTF:List SO:=[
 qF 26 2 2,
 ql 27 26,
 qM 28 6,
 qM 29 7,
 qA 30 2 28 29,
 qF 31 0 30,
 ql 32 31,
 qA 33 1 27 32,
 ql 34 33,
 qN 35 34,
 qI 36 0]
def aOM:List SO:=[
 qM 49 6,
 qM 50 9,
 qM 51 6,
 qM 52 7,
 qA 53 2 51 52,
 qF 54 1 53,
 ql 55 54,
 qM 56 8,
 sO 57 (.bslice 3 1 false [.int .i64 0] 1 [(0,.t 56)]),
 sO 58 (.bslice 25 1 false [.nilsl] 2 [(0,.t 55),(1,.t 57)]),
 sO 59 (.call false 98 [.t 58]),
 sO 60 (.build [.int .i64 0,.nilsl] [(0,1,.t 50),(1,1,.t 59)]),
 sO 61 (.bslice 118 2 false [.int .i64 0,.nilsl] 1 [(0,.t 60)]),
 sO 62 (.append 118 2 32 (.t 49) (.t 61)),
 qM 6 62]
def aTz:SC:=.seq (.reg [qP 37 .lss 36 35]) (.seq (.cond (.t 37) (.skip) (.exit 2)) (.seq (.block 3 (.seq (.reg [qM 38 36,qA 39 1 34 36,ql 40 39,qM 8 38,qM 9 40]) (.seq (.reg [qM 41 5,qM 42 9,qA 43 1 41 42,ql 44 43,sO 45 (.un .not (.t 44))]) (.cond (.t 45) (.seq (.reg [qM 46 5,qM 47 9,qA 48 1 46 47,sN (.store 1 (.t 48) (.c (.bool true)))]) (.reg aOM)) (.skip))))) (.reg [qC 63 .add 36 1,qM 36 63])))
def aRD:SC:=.seq (.seq (.reg [qM 20 7,qM 21 6,qN 22 21,qP 23 .lss 20 22]) (.cond (.t 23) (.skip) (.exit 0))) (.seq (.block 1 (.seq (.reg aTF) (.block 2 (.loop aTz)))) (.reg [qM 24 7,qC 25 .add 24 1,qM 7 25]))
def s59:SF:=⟨65,[.tmp 4],.seq (.reg [sO 2 (.box 24 4 (.t 0)),sO 4 (.mv (.c (.nilsl)))]) (.seq (.reg [qF 10 2 2,ql 11 10,qN 12 11,sO 13 (.mks 4 1 1 [.bool false] (.t 12) (.t 12)),qM 5 13]) (.seq (.reg [qM 14 5,qM 15 1,qA 16 1 14 15,sN (.store 1 (.t 16) (.c (.bool true)))]) (.seq (.reg [qM 17 1,sO 18 (.build [.int .i64 0,.nilsl] [(0,1,.t 17)]),sO 19 (.bslice 118 2 true [.int .i64 0,.nilsl] 1 [(0,.t 18)]),qM 6 19]) (.seq (.seq (.reg [qI 7 0]) (.block 0 (.loop aRD))) (.seq (.reg [qM 64 6,qM 4 64]) (.ret))))))⟩
theorem aNm:aM Tryz.prog ⟨[39,75,135,136,137,155,161,186,188,194,195,196,211,212,213,226,230,233,238],[19],[],[]⟩ Tryz.f59=some s59:=by kernel_rfl
def s69:SF:=⟨9,[.tmp 4],.seq (.reg [sO 4 (.mv (.c (.bool false)))]) (.seq (.reg [qM 5 0,qM 6 1,sO 7 (.call false 116 [.t 5,.t 6]),qC 8 .geq 7 0,qM 4 8]) (.ret))⟩
theorem aIq:aM Tryz.prog ⟨[39,75,135,136,137,155,161,186,188,194,195,196,211,212,213,226,230,233,238],[],[],[]⟩ Tryz.f69=some s69:=by kernel_rfl
def aMT:List SO:=[
 qM 30 2,
 qM 31 9,
 qM 32 10,
 qA 33 2 31 32,
 qL 34 2 33,
 qM 35 13,
 sO 36 (.callv false (.t 30) [.t 34,.t 35]),
 sO 14 (.alloc 139 [.int .i64 0,.int .i64 0,.int .i64 0]),
 sN (.store 3 (.t 14) (.t 36))]
def aPu:List SO:=[
 qM 37 15,
 qM 38 9,
 qN 39 38,
 qP 40 .lss 37 39,
 qM 41 40,
 ⟨some (41,true),some 42,.mv (.t 9)⟩,
 ⟨some (41,true),some 43,.mv (.t 15)⟩,
 ⟨some (41,true),some 44,.idx 2 (.t 42) (.t 43)⟩,
 ⟨some (41,true),some 45,.load true 2 (.t 44)⟩,
 ⟨some (41,true),some 46,.fld 0 (.t 14)⟩,
 ⟨some (41,true),some 47,.load true 2 (.t 46)⟩,
 ⟨some (41,true),some 48,.abin true [0,0] (.t 45) (.t 47)⟩,
 sO 49 (.pick (.t 41) (.t 48) (.c (.bool false)))]
def aMc:SC:=.seq (.seq (.reg aPu) (.cond (.t 49) (.skip) (.exit 4))) (.block 5 (.reg [qM 50 15,qC 51 .add 50 1,qM 15 51]))
def aPO:List SO:=[
 qM 61 9,
 qN 62 61,
 qC 63 .gtr 62 128,
 qM 64 63,
 ⟨some (64,false),some 65,.fld 2 (.t 14)⟩,
 ⟨some (64,false),some 66,.load false 1 (.t 65)⟩,
 ⟨some (64,false),some 67,.bin .gtr (.t 66) (.c (.int .i64 1048576))⟩,
 sO 68 (.pick (.t 64) (.c (.bool true)) (.t 67))]
def aMx:SC:=.seq (.reg [qP 28 .lss 27 26]) (.seq (.cond (.t 28) (.skip) (.exit 2)) (.seq (.block 3 (.seq (.reg [qM 29 27,qM 13 29]) (.seq (.reg aMT) (.seq (.reg [qI 15 0]) (.seq (.block 4 (.loop aMc)) (.seq (.seq (.reg [qM 52 15,qM 53 9,qN 54 53,qP 55 .eql 52 54]) (.cond (.t 55) (.reg [qM 56 9,qF 57 0 14,qL 58 2 57,sO 59 (.bslice 137 2 false [.int .i64 0,.int .i64 0] 1 [(0,.t 58)]),sO 60 (.append 137 2 16 (.t 56) (.t 59)),qM 9 60]) (.skip))) (.seq (.seq (.reg aPO) (.cond (.t 68) (.seq (.reg [sO 69 (.build [.int .i64 0,.int .i64 0,.nilsl,.nilsl] []),sN (.store 4 (.t 6) (.t 69)),qI 7 11]) (.ret)) (.skip))) (.seq (.reg [qM 70 11,qM 71 15,sO 72 (.bslice 3 1 false [.int .i64 0] 1 [(0,.t 71)]),sO 73 (.append 3 1 8 (.t 70) (.t 72)),qM 11 73]) (.reg [qM 74 12,qF 75 2 14,ql 76 75,sO 77 (.bslice 3 1 false [.int .i64 0] 1 [(0,.t 76)]),sO 78 (.append 3 1 8 (.t 74) (.t 77)),qM 12 78]))))))))) (.reg [qC 79 .add 27 1,qM 27 79])))
def aOv:List SO:=[
 qF 80 2 8,
 ql 81 80,
 qM 82 11,
 sO 83 (.bslice 25 1 false [.nilsl] 1 [(0,.t 82)]),
 sO 84 (.append 25 1 24 (.t 81) (.t 83)),
 qF 85 2 8,
 sN (.store 1 (.t 85) (.t 84))]
def aRn:List SO:=[
 qF 86 3 8,
 ql 87 86,
 qM 88 12,
 sO 89 (.bslice 25 1 false [.nilsl] 1 [(0,.t 88)]),
 sO 90 (.append 25 1 24 (.t 87) (.t 89)),
 qF 91 3 8,
 sN (.store 1 (.t 91) (.t 90))]
def aLY:SC:=.seq (.seq (.reg [qM 20 10,qM 21 9,qN 22 21,qP 23 .lss 20 22]) (.cond (.t 23) (.skip) (.exit 0))) (.seq (.block 1 (.seq (.reg [sO 11 (.lazy 3 1),sO 12 (.lazy 3 1)]) (.seq (.seq (.reg [qM 26 0,qI 27 0]) (.block 2 (.loop aMx))) (.seq (.reg aOv) (.reg aRn))))) (.reg [qM 24 10,qC 25 .add 24 1,qM 10 25]))
def s70:SF:=⟨93,[.cell 6 true 4,.tmp 7],.seq (.reg [sO 4 (.box 137 2 (.t 1)),sO 6 (.alloc 24 [.int .i64 0,.int .i64 0,.nilsl,.nilsl]),qI 7 0]) (.seq (.reg [qM 16 0,sO 17 (.build [.int .i64 0,.int .i64 0,.nilsl,.nilsl] [(0,1,.t 16)]),sO 8 (.alloc 24 [.int .i64 0,.int .i64 0,.nilsl,.nilsl]),sN (.store 4 (.t 8) (.t 17))]) (.seq (.reg [qL 18 2 4,sO 19 (.bslice 137 2 true [.int .i64 0,.int .i64 0] 1 [(0,.t 18)]),qM 9 19]) (.seq (.seq (.reg [qI 10 0]) (.block 0 (.loop aLY))) (.seq (.reg [qL 92 4 8,sN (.store 4 (.t 6) (.t 92)),qI 7 0]) (.ret)))))⟩
theorem aIg:aM Tryz.prog ⟨[39,75,135,136,137,155,161,186,188,194,195,196,211,212,213,226,230,233,238],[11,12,19],[],[]⟩ Tryz.f70=some s70:=by kernel_rfl
def aRH:List SO:=[
 qF 7 2 2,
 ql 8 7,
 qF 9 0 4,
 ql 10 9,
 qA 11 1 8 10,
 ql 12 11,
 ql 13 3,
 qM 14 1,
 qA 15 1 13 14,
 ql 16 15,
 qA 17 1 12 16,
 ql 18 17,
 sO 19 (.build [.int .i64 0,.int .i64 0] [(0,1,.t 18),(1,1,.c (.int .i64 0))]),
 qF 20 3 2,
 ql 21 20,
 qF 22 0 4,
 ql 23 22,
 qA 24 1 21 23,
 ql 25 24,
 ql 26 3,
 qM 27 1,
 qA 28 1 26 27,
 ql 29 28,
 qA 30 1 25 29,
 ql 31 30,
 sO 32 (.build [.int .i64 0,.int .i64 0,.int .i64 0] [(0,2,.t 19),(2,1,.t 31)]),
 sN (.store 3 (.t 6) (.t 32))]
def s71:SF:=⟨33,[.cell 6 true 3],.seq (.reg [sO 4 (.box 137 2 (.t 0)),sO 6 (.alloc 139 [.int .i64 0,.int .i64 0,.int .i64 0])]) (.seq (.reg aRH) (.ret))⟩
theorem aIG:aM Tryz.prog ⟨[39,75,135,136,137,155,161,186,188,194,195,196,211,212,213,226,230,233,238],[],[],[]⟩ Tryz.f71=some s71:=by kernel_rfl
def aR9:List SO:=[
 qM 11 1,
 qC 12 .lss 11 0,
 qM 13 12,
 ⟨some (13,false),some 14,.mv (.t 1)⟩,
 ⟨some (13,false),some 15,.fld 2 (.t 2)⟩,
 ⟨some (13,false),some 16,.load false 1 (.t 15)⟩,
 ⟨some (13,false),some 17,.len (.t 16)⟩,
 ⟨some (13,false),some 18,.bin .geq (.t 14) (.t 17)⟩,
 sO 19 (.pick (.t 13) (.c (.bool true)) (.t 18))]
def s73:SF:=⟨20,[.tmp 4],.seq (.reg [sO 2 (.box 24 4 (.t 0)),qI 4 0]) (.seq (.seq (.reg [qL 6 4 2,sO 7 (.call false 29 [.t 6]),qM 5 7]) (.seq (.reg [qM 8 5,qC 9 .neq 8 0]) (.cond (.t 9) (.seq (.reg [qM 10 5,qM 4 10]) (.ret)) (.skip)))) (.seq (.seq (.reg aR9) (.cond (.t 19) (.seq (.reg [qI 4 2]) (.ret)) (.skip))) (.seq (.reg [qI 4 0]) (.ret))))⟩
theorem aHn:aM Tryz.prog ⟨[39,75,135,136,137,155,161,186,188,194,195,196,211,212,213,226,230,233,238],[],[],[]⟩ Tryz.f73=some s73:=by kernel_rfl
def s74:SF:=⟨17,[.tmp 4],.seq (.reg [sO 3 (.box 3 1 (.t 1)),qI 4 0]) (.seq (.block 0 (.seq (.reg [ql 6 3,sO 7 (.call false 119 [.t 6]),sO 8 (.un .not (.t 7)),qM 5 8]) (.cond (.t 5) (.seq (.reg [qI 4 2]) (.ret)) (.seq (.reg [qM 10 0,qN 11 10,qC 12 .gtr 11 1024,qM 9 12]) (.cond (.t 9) (.seq (.reg [qI 4 3]) (.ret)) (.seq (.reg [qM 14 0,sO 15 (.mkf 121 [.t 3]),sO 16 (.call false 120 [.t 14,.t 15]),qM 13 16]) (.cond (.t 13) (.seq (.reg [qI 4 1]) (.ret)) (.skip)))))))) (.seq (.reg [qI 4 0]) (.ret)))⟩
theorem aHx:aM Tryz.prog ⟨[39,75,135,136,137,155,161,186,188,194,195,196,211,212,213,226,230,233,238],[],[],[]⟩ Tryz.f74=some s74:=by kernel_rfl
def aRz:List SO:=[
 qM 17 0,
 sO 18 (.nilck (.t 17)),
 qF 19 0 18,
 qL 20 4 19,
 qM 21 0,
 sO 22 (.nilck (.t 21)),
 qF 23 4 22,
 ql 24 23,
 qM 25 7,
 sO 26 (.call false 122 [.t 20,.t 24,.t 25]),
 qM 16 26,
 qE 27 16 0,
 qE 28 16 1,
 qM 8 27,
 qM 9 28]
def aMg:SC:=.seq (.reg [qP 13 .lss 12 11]) (.seq (.cond (.t 13) (.skip) (.exit 0)) (.seq (.block 1 (.seq (.reg [qA 14 1 10 12,ql 15 14,qM 7 15]) (.seq (.reg aRz) (.seq (.reg [qM 29 0,qM 30 8,sO 31 (.nilck (.t 29)),qF 32 4 31,sN (.store 1 (.t 32) (.t 30))]) (.reg [qM 33 5,qM 34 9,sO 35 (.bslice 3 1 false [.int .i64 0] 1 [(0,.t 34)]),sO 36 (.append 3 1 8 (.t 33) (.t 35)),qM 5 36]))))) (.reg [qC 37 .add 12 1,qM 12 37])))
def s75:SF:=⟨39,[.tmp 4],.seq (.reg [sO 4 (.mv (.c (.nilsl)))]) (.seq (.reg [sO 5 (.lazy 3 1)]) (.seq (.seq (.reg [qM 10 1,qN 11 10,qI 12 0]) (.block 0 (.loop aMg))) (.seq (.reg [qM 38 5,qM 4 38]) (.ret))))⟩
theorem aHO:aM Tryz.prog ⟨[39,75,135,136,137,155,161,186,188,194,195,196,211,212,213,226,230,233,238],[5],[],[]⟩ Tryz.f75=some s75:=by kernel_rfl
def aTO:List SO:=[
 qF 28 2 1,
 ql 29 28,
 qM 30 4,
 qM 31 5,
 qA 32 1 30 31,
 ql 33 32,
 qA 34 1 29 33,
 ql 35 34,
 qN 36 35,
 qI 37 0]
def aLM:SC:=.seq (.reg [qP 38 .lss 37 36]) (.seq (.cond (.t 38) (.skip) (.exit 2)) (.seq (.block 3 (.seq (.reg [qA 39 1 35 37,ql 40 39,qM 7 40]) (.seq (.reg [qM 41 3,qM 42 7,qA 43 1 41 42,ql 44 43,sO 45 (.un .not (.t 44))]) (.cond (.t 45) (.seq (.reg [qM 46 3,qM 47 7,qA 48 1 46 47,sN (.store 1 (.t 48) (.c (.bool true)))]) (.reg [qM 49 4,qM 50 7,sO 51 (.bslice 3 1 false [.int .i64 0] 1 [(0,.t 50)]),sO 52 (.append 3 1 8 (.t 49) (.t 51)),qM 4 52])) (.skip))))) (.reg [qC 53 .add 37 1,qM 37 53])))
def aMy:SC:=.seq (.seq (.reg [qM 22 5,qM 23 4,qN 24 23,qP 25 .lss 22 24]) (.cond (.t 25) (.skip) (.exit 0))) (.seq (.block 1 (.seq (.reg aTO) (.block 2 (.loop aLM)))) (.reg [qM 26 5,qC 27 .add 26 1,qM 5 27]))
def s76:SF:=⟨55,[.tmp 2],.seq (.reg [sO 1 (.box 24 4 (.t 0)),sO 2 (.mv (.c (.nilsl)))]) (.seq (.seq (.reg [qL 8 4 1,sO 9 (.call false 29 [.t 8]),qC 10 .neq 9 0]) (.cond (.t 10) (.seq (.reg [sO 2 (.mv (.c (.nilsl)))]) (.ret)) (.skip))) (.seq (.reg [qF 11 2 1,ql 12 11,qN 13 12,sO 14 (.mks 4 1 1 [.bool false] (.t 13) (.t 13)),qM 3 14]) (.seq (.reg [qM 15 3,qF 16 1 1,ql 17 16,qA 18 1 15 17,sN (.store 1 (.t 18) (.c (.bool true)))]) (.seq (.reg [qF 19 1 1,ql 20 19,sO 21 (.bslice 3 1 true [.int .i64 0] 1 [(0,.t 20)]),qM 4 21]) (.seq (.seq (.reg [qI 5 0]) (.block 0 (.loop aMy))) (.seq (.reg [qM 54 4,qM 2 54]) (.ret)))))))⟩
theorem aHc:aM Tryz.prog ⟨[39,75,135,136,137,155,161,186,188,194,195,196,211,212,213,226,230,233,238],[21],[],[]⟩ Tryz.f76=some s76:=by kernel_rfl
def aSB:List SO:=[
 qL 15 4 2,
 qM 16 1,
 sO 17 (.call false 123 [.t 15,.t 16]),
 qM 14 17,
 qE 18 14 0,
 qE 19 14 1,
 qM 7 18,
 qM 8 19]
def s78:SF:=⟨21,[.tmp 4,.tmp 5],.seq (.reg [sO 2 (.box 24 4 (.t 0)),sO 4 (.mv (.c (.nilsl))),qI 5 0]) (.seq (.seq (.reg [qL 9 4 2,sO 10 (.call false 29 [.t 9]),qM 6 10]) (.seq (.reg [qM 11 6,qC 12 .neq 11 0]) (.cond (.t 12) (.seq (.reg [qM 13 6,sO 4 (.mv (.c (.nilsl))),qM 5 13]) (.ret)) (.skip)))) (.seq (.reg aSB) (.seq (.reg [qM 20 7,qM 4 20,qI 5 0]) (.ret))))⟩
theorem aG0:aM Tryz.prog ⟨[39,75,135,136,137,155,161,186,188,194,195,196,211,212,213,226,230,233,238],[],[],[]⟩ Tryz.f78=some s78:=by kernel_rfl
def aTU:List SO:=[
 qM 16 0,
 qM 17 5,
 qA 18 1 16 17,
 ql 19 18,
 qM 20 1,
 qM 21 5,
 qA 22 1 20 21,
 ql 23 22,
 qP 24 .neq 19 23]
def aR6:SC:=.seq (.reg [qP 14 .lss 13 12]) (.seq (.cond (.t 14) (.skip) (.exit 0)) (.seq (.block 1 (.seq (.reg [qM 15 13,qM 5 15]) (.seq (.reg aTU) (.cond (.t 24) (.seq (.reg [sO 4 (.mv (.c (.bool false)))]) (.ret)) (.skip))))) (.reg [qC 25 .add 13 1,qM 13 25])))
def s81:SF:=⟨26,[.tmp 4],.seq (.reg [sO 4 (.mv (.c (.bool false)))]) (.seq (.seq (.reg [qM 6 0,qN 7 6,qM 8 1,qN 9 8,qP 10 .neq 7 9]) (.cond (.t 10) (.seq (.reg [sO 4 (.mv (.c (.bool false)))]) (.ret)) (.skip))) (.seq (.seq (.reg [qM 11 0,qN 12 11,qI 13 0]) (.block 0 (.loop aR6))) (.seq (.reg [sO 4 (.mv (.c (.bool true)))]) (.ret))))⟩
theorem aOa:aM Tryz.prog ⟨[39,75,135,136,137,155,161,186,188,194,195,196,211,212,213,226,230,233,238],[],[],[]⟩ Tryz.f81=some s81:=by kernel_rfl
def s83:SF:=⟨4,[.cell 0 true 1],.seq (.reg [sO 0 (.alloc 99 [.nilsl])]) (.seq (.reg [sO 1 (.build [.bool false,.nilsl,.nilsl,.nilsl,.nilsl] [(0,1,.c (.bool true))]),sO 2 (.bslice 166 5 false [.bool false,.nilsl,.nilsl,.nilsl,.nilsl] 1 [(0,.t 1)]),sO 3 (.build [.nilsl] [(0,1,.t 2)]),sN (.store 1 (.t 0) (.t 3))]) (.ret))⟩
theorem aP0:aM Tryz.prog ⟨[39,75,135,136,137,155,161,186,188,194,195,196,211,212,213,226,230,233,238],[],[],[]⟩ Tryz.f83=some s83:=by kernel_rfl
def aTR:List SO:=[
 qF 10 0 1,
 qF 11 0 10,
 ql 12 11,
 qC 13 .lss 12 1,
 qM 14 13,
 ⟨some (14,false),some 15,.fld 0 (.t 1)⟩,
 ⟨some (14,false),some 16,.fld 0 (.t 15)⟩,
 ⟨some (14,false),some 17,.load false 1 (.t 16)⟩,
 ⟨some (14,false),some 18,.bin .gtr (.t 17) (.c (.int .i64 64))⟩,
 sO 19 (.pick (.t 14) (.c (.bool true)) (.t 18))]
def aQw:List SO:=[
 qF 36 1 7,
 ql 37 36,
 qF 38 0 1,
 qF 39 0 38,
 ql 40 39,
 sO 41 (.call false 74 [.t 37,.t 40]),
 qM 8 41]
def aPB:List SO:=[
 qF 45 2 7,
 ql 46 45,
 qF 47 0 1,
 qF 48 0 47,
 ql 49 48,
 sO 50 (.call false 74 [.t 46,.t 49]),
 qM 9 50]
def aRa:List SO:=[
 qM 58 5,
 qM 59 58,
 ⟨some (59,false),some 60,.fld 1 (.t 7)⟩,
 ⟨some (59,false),some 61,.load false 1 (.t 60)⟩,
 ⟨some (59,false),some 62,.len (.t 61)⟩,
 ⟨some (59,false),some 63,.bin .eql (.t 62) (.c (.int .i64 0))⟩,
 sO 64 (.pick (.t 59) (.c (.bool true)) (.t 63)),
 qM 5 64]
def aTy:SC:=.seq (.reg [qP 33 .lss 32 31]) (.seq (.cond (.t 33) (.skip) (.exit 0)) (.seq (.block 1 (.seq (.reg [qA 34 5 30 32,qL 35 5 34,sO 7 (.alloc 166 [.bool false,.nilsl,.nilsl,.nilsl,.nilsl]),sN (.store 5 (.t 7) (.t 35))]) (.seq (.seq (.reg aQw) (.seq (.reg [qM 42 8,qC 43 .neq 42 0]) (.cond (.t 43) (.seq (.reg [qM 44 8,qM 2 44]) (.ret)) (.skip)))) (.seq (.seq (.reg aPB) (.seq (.reg [qM 51 9,qC 52 .neq 51 0]) (.cond (.t 52) (.seq (.reg [qM 53 9,qM 2 53]) (.ret)) (.skip)))) (.seq (.reg [qF 54 0 7,ql 55 54]) (.cond (.t 55) (.seq (.reg [qM 56 4,qC 57 .add 56 1,qM 4 57]) (.reg aRa)) (.skip))))))) (.reg [qC 65 .add 32 1,qM 32 65])))
def aM7:List SO:=[
 qF 73 0 1,
 qF 74 0 73,
 ql 75 74,
 qF 76 2 1,
 qF 77 0 76,
 ql 78 77,
 qP 79 .neq 75 78,
 qM 72 79]
def s84:SF:=⟨80,[.tmp 2],.seq (.reg [sO 1 (.box 105 4 (.t 0)),qI 2 0]) (.seq (.seq (.reg aTR) (.cond (.t 19) (.seq (.reg [qI 2 2]) (.ret)) (.skip))) (.seq (.seq (.reg [qF 20 0 1,qF 21 1 20,qL 22 1 21,sO 23 (.call false 125 [.t 22]),qM 3 23]) (.seq (.reg [qM 24 3,qC 25 .neq 24 0]) (.cond (.t 25) (.seq (.reg [qM 26 3,qM 2 26]) (.ret)) (.skip)))) (.seq (.reg [qI 4 0,sO 5 (.mv (.c (.bool false)))]) (.seq (.seq (.reg [qF 27 0 1,qF 28 1 27,qF 29 0 28,ql 30 29,qN 31 30,qI 32 0]) (.block 0 (.loop aTy))) (.seq (.block 2 (.seq (.reg [qM 67 5,sO 68 (.un .not (.t 67)),qM 66 68]) (.cond (.t 66) (.seq (.reg [qI 2 1]) (.ret)) (.seq (.reg [qM 70 4,qC 71 .gtr 70 128,qM 69 71]) (.cond (.t 69) (.seq (.reg [qI 2 11]) (.ret)) (.seq (.reg aM7) (.cond (.t 72) (.seq (.reg [qI 2 15]) (.ret)) (.skip)))))))) (.seq (.reg [qI 2 0]) (.ret)))))))⟩
theorem aQD:aM Tryz.prog ⟨[39,75,135,136,137,155,161,186,188,194,195,196,211,212,213,226,230,233,238],[],[],[]⟩ Tryz.f84=some s84:=by kernel_rfl
def aPn:List SO:=[
 qF 35 0 1,
 qF 36 1 35,
 qL 37 1 36,
 qF 38 2 1,
 qL 39 2 38,
 qM 40 10,
 sO 41 (.call false 126 [.t 37,.t 39,.t 40]),
 qM 34 41,
 qE 42 34 0,
 qE 43 34 1,
 qE 44 34 2,
 qM 11 42,
 qM 12 43,
 qM 13 44]
def aPm:List SO:=[
 qM 63 5,
 qM 64 10,
 qM 65 11,
 sO 66 (.build [.nilsl,.int .i64 0] [(0,1,.t 64),(1,1,.t 65)]),
 sO 67 (.bslice 159 2 false [.nilsl,.int .i64 0] 1 [(0,.t 66)]),
 sO 68 (.append 159 2 32 (.t 63) (.t 67)),
 qM 5 68]
def aSC:SC:=.seq (.reg [qP 27 .lss 26 25]) (.seq (.cond (.t 27) (.skip) (.exit 2)) (.seq (.block 3 (.seq (.reg [qM 28 26,qM 9 28]) (.seq (.reg [qM 29 8,qM 30 9,sO 31 (.bslice 3 1 false [.int .i64 0] 1 [(0,.t 30)]),sO 32 (.bslice 25 1 false [.nilsl] 2 [(0,.t 29),(1,.t 31)]),sO 33 (.call false 98 [.t 32]),qM 10 33]) (.seq (.reg aPn) (.seq (.seq (.reg [qM 45 13,qC 46 .neq 45 0]) (.cond (.t 46) (.seq (.reg [qM 47 13,sO 2 (.mv (.c (.nilsl))),sO 3 (.mv (.c (.nilsl))),qM 4 47]) (.ret)) (.skip))) (.seq (.seq (.reg [qL 48 4 1,qM 49 10,sO 50 (.call false 127 [.t 48,.t 49]),sO 51 (.un .not (.t 50))]) (.cond (.t 51) (.reg [qM 52 6,qM 53 10,sO 54 (.bslice 25 1 false [.nilsl] 1 [(0,.t 53)]),sO 55 (.append 25 1 24 (.t 52) (.t 54)),qM 6 55]) (.skip))) (.seq (.seq (.reg [qM 56 12,qN 57 56,qC 58 .gtr 57 0]) (.cond (.t 58) (.reg [qM 59 6,qM 60 12,sO 61 (.bslice 25 1 false [.nilsl] 1 [(0,.t 60)]),sO 62 (.append 25 1 24 (.t 59) (.t 61)),qM 6 62]) (.skip))) (.reg aPm)))))))) (.reg [qC 69 .add 26 1,qM 26 69])))
def aST:SC:=.seq (.reg [qP 20 .lss 19 18]) (.seq (.cond (.t 20) (.skip) (.exit 0)) (.seq (.block 1 (.seq (.reg [qA 21 1 17 19,ql 22 21,qM 8 22]) (.seq (.reg [qF 23 0 1,qF 24 0 23,ql 25 24,qI 26 0]) (.block 2 (.loop aSC))))) (.reg [qC 70 .add 19 1,qM 19 70])))
def s85:SF:=⟨74,[.tmp 2,.tmp 3,.tmp 4],.seq (.reg [sO 1 (.box 105 4 (.t 0)),sO 2 (.mv (.c (.nilsl))),sO 3 (.mv (.c (.nilsl))),qI 4 0]) (.seq (.reg [sO 5 (.lazy 159 2)]) (.seq (.reg [sO 6 (.lazy 25 1)]) (.seq (.seq (.reg [qF 14 0 1,qF 15 1 14,qL 16 1 15,sO 17 (.call false 87 [.t 16]),qN 18 17,qI 19 0]) (.block 0 (.loop aST))) (.seq (.reg [qM 71 5,qM 72 6,sO 73 (.call false 128 [.t 72]),qM 2 71,qM 3 73,qI 4 0]) (.ret)))))⟩
theorem aPa:aM Tryz.prog ⟨[39,75,135,136,137,155,161,186,188,194,195,196,211,212,213,226,230,233,238],[5,6],[],[]⟩ Tryz.f85=some s85:=by kernel_rfl
def aSf:List SO:=[
 qF 5 0 2,
 qF 6 1 5,
 qF 7 0 6,
 ql 8 7,
 qM 9 1,
 qA 10 5 8 9,
 qF 11 0 10,
 ql 12 11,
 qM 4 12]
def s86:SF:=⟨13,[.tmp 4],.seq (.reg [sO 2 (.box 105 4 (.t 0)),sO 4 (.mv (.c (.bool false)))]) (.seq (.reg aSf) (.ret))⟩
theorem aQE:aM Tryz.prog ⟨[39,75,135,136,137,155,161,186,188,194,195,196,211,212,213,226,230,233,238],[],[],[]⟩ Tryz.f86=some s86:=by kernel_rfl
def s87:SF:=⟨9,[.tmp 2],.seq (.reg [sO 1 (.box 99 1 (.t 0)),sO 2 (.mv (.c (.nilsl)))]) (.seq (.seq (.reg [qL 3 1 1,sO 4 (.call false 125 [.t 3]),qC 5 .neq 4 0]) (.cond (.t 5) (.seq (.reg [sO 2 (.mv (.c (.nilsl)))]) (.ret)) (.skip))) (.seq (.reg [qL 6 1 1,sO 7 (.call false 130 [.t 6]),sO 8 (.call false 129 [.t 7]),qM 2 8]) (.ret)))⟩
theorem aOl:aM Tryz.prog ⟨[39,75,135,136,137,155,161,186,188,194,195,196,211,212,213,226,230,233,238],[],[],[]⟩ Tryz.f87=some s87:=by kernel_rfl
def aRS:List SO:=[
 qM 31 2,
 qF 32 0 4,
 ql 33 32,
 qM 34 1,
 qA 35 5 33 34,
 qF 36 2 35,
 ql 37 36,
 sO 38 (.call false 132 [.t 31,.t 37]),
 qM 12 38]
def aM4:List SO:=[
 qF 44 0 4,
 ql 45 44,
 qM 46 1,
 qA 47 5 45 46,
 qL 48 5 47,
 qM 49 2,
 sO 50 (.call false 133 [.t 48,.t 49]),
 qM 43 50,
 qE 51 43 0,
 qE 52 43 1,
 qM 13 51,
 qM 14 52]
def aO6:List SO:=[
 qM 73 17,
 qM 74 17,
 sO 75 (.nilck (.t 74)),
 qF 76 3 75,
 ql 77 76,
 qM 78 13,
 qM 79 2,
 sO 80 (.bslice 25 1 false [.nilsl] 1 [(0,.t 79)]),
 sO 81 (.call false 98 [.t 80]),
 sO 82 (.bslice 25 1 true [.nilsl] 1 [(0,.t 81)]),
 sO 83 (.call true 136 [.t 77,.t 78,.t 82]),
 sO 84 (.nilck (.t 73)),
 qF 85 3 84,
 sN (.store 1 (.t 85) (.t 83))]
def aPL:List SO:=[
 qM 86 17,
 qM 87 17,
 sO 88 (.nilck (.t 87)),
 qF 89 4 88,
 ql 90 89,
 qM 91 13,
 qF 92 0 4,
 ql 93 92,
 qN 94 93,
 sO 95 (.bslice 3 1 true [.int .i64 0] 1 [(0,.t 94)]),
 sO 96 (.call true 137 [.t 90,.t 91,.t 95]),
 sO 97 (.nilck (.t 86)),
 qF 98 4 97,
 sN (.store 1 (.t 98) (.t 96))]
def aP5:List SO:=[
 qF 99 0 16,
 ql 100 99,
 qM 101 3,
 sO 102 (.bslice 25 1 false [.nilsl] 1 [(0,.t 101)]),
 sO 103 (.call false 98 [.t 102]),
 sO 104 (.build [.bool false,.nilsl,.nilsl,.nilsl,.nilsl] [(0,1,.c (.bool true)),(1,1,.t 103)]),
 sO 105 (.bslice 166 5 false [.bool false,.nilsl,.nilsl,.nilsl,.nilsl] 1 [(0,.t 104)]),
 sO 106 (.append 166 5 104 (.t 100) (.t 105)),
 qF 107 0 16,
 sN (.store 1 (.t 107) (.t 106))]
def s88:SF:=⟨109,[.cell 8 true 1,.tmp 9],.seq (.reg [sO 4 (.box 99 1 (.t 0)),sO 8 (.alloc 99 [.nilsl]),qI 9 0]) (.seq (.seq (.reg [qL 18 1 4,sO 19 (.call false 125 [.t 18]),qM 10 19]) (.seq (.reg [qM 20 10,qC 21 .neq 20 0]) (.cond (.t 21) (.seq (.reg [qL 22 1 4,qM 23 10,sN (.store 1 (.t 8) (.t 22)),qM 9 23]) (.ret)) (.skip)))) (.seq (.seq (.reg [qL 24 1 4,qM 25 1,sO 26 (.call false 131 [.t 24,.t 25,.c (.bool false)]),qM 11 26]) (.seq (.reg [qM 27 11,qC 28 .neq 27 0]) (.cond (.t 28) (.seq (.reg [qL 29 1 4,qM 30 11,sN (.store 1 (.t 8) (.t 29)),qM 9 30]) (.ret)) (.skip)))) (.seq (.seq (.reg aRS) (.seq (.reg [qM 39 12,qC 40 .neq 39 0]) (.cond (.t 40) (.seq (.reg [qL 41 1 4,qM 42 12,sN (.store 1 (.t 8) (.t 41)),qM 9 42]) (.ret)) (.skip)))) (.seq (.reg aM4) (.seq (.seq (.reg [qM 53 14]) (.cond (.t 53) (.seq (.reg [qL 54 1 4,sN (.store 1 (.t 8) (.t 54)),qI 9 7]) (.ret)) (.skip))) (.seq (.seq (.reg [qL 55 1 4,qM 56 3,sO 57 (.call false 134 [.t 55,.t 56]),qM 15 57]) (.seq (.reg [qM 58 15,qC 59 .neq 58 0]) (.cond (.t 59) (.seq (.reg [qL 60 1 4,qM 61 15,sN (.store 1 (.t 8) (.t 60)),qM 9 61]) (.ret)) (.skip)))) (.seq (.seq (.reg [qF 62 0 4,ql 63 62,qN 64 63,qC 65 .geq 64 4096]) (.cond (.t 65) (.seq (.reg [qL 66 1 4,sN (.store 1 (.t 8) (.t 66)),qI 9 11]) (.ret)) (.skip))) (.seq (.reg [qL 67 1 4,sO 68 (.call true 135 [.t 67]),sO 16 (.alloc 99 [.nilsl]),sN (.store 1 (.t 16) (.t 68))]) (.seq (.reg [qF 69 0 16,ql 70 69,qM 71 1,qA 72 5 70 71,qM 17 72]) (.seq (.dreg [82] aO6) (.seq (.dreg [95] aPL) (.seq (.reg aP5) (.seq (.reg [qL 108 1 16,sN (.store 1 (.t 8) (.t 108)),qI 9 0]) (.ret))))))))))))))⟩
theorem aOZ:aM Tryz.prog ⟨[39,75,135,136,137,155,161,186,188,194,195,196,211,212,213,226,230,233,238],[82,95],[],[]⟩ Tryz.f88=some s88:=by kernel_rfl
def aTr:List SO:=[
 qF 10 2 3,
 qL 11 2 10,
 qM 12 1,
 qM 13 2,
 sO 14 (.bslice 25 1 false [.nilsl] 2 [(0,.t 12),(1,.t 13)]),
 sO 15 (.call false 98 [.t 14]),
 sO 16 (.call false 138 [.t 11,.t 15]),
 qM 9 16,
 qE 17 9 0,
 qE 18 9 1,
 qM 7 17,
 qM 8 18]
def aSi:List SO:=[
 qM 19 7,
 qM 20 7,
 qN 21 20,
 qM 22 2,
 qN 23 22,
 qP 24 .sub 21 23,
 sO 25 (.slice 1 (.t 19) (some (.t 24)) none),
 qM 6 25]
def s89:SF:=⟨26,[.tmp 6],.seq (.reg [sO 3 (.box 105 4 (.t 0)),sO 6 (.mv (.c (.nilsl)))]) (.seq (.reg aTr) (.seq (.reg aSi) (.ret)))⟩
theorem aPl:aM Tryz.prog ⟨[39,75,135,136,137,155,161,186,188,194,195,196,211,212,213,226,230,233,238],[],[],[]⟩ Tryz.f89=some s89:=by kernel_rfl
def aRU:List SO:=[
 qL 6 2 2,
 qL 7 2 3,
 sO 8 (.bslice 169 2 false [.nilsl,.nilsl] 1 [(0,.t 7)]),
 sO 9 (.call false 139 [.t 6,.t 8]),
 qE 10 9 0,
 qE 11 9 1,
 sN (.store 2 (.t 4) (.t 10)),
 qM 5 11]
def s90:SF:=⟨12,[.cell 4 true 2,.tmp 5],.seq (.reg [sO 2 (.box 67 2 (.t 0)),sO 3 (.box 169 2 (.t 1)),sO 4 (.alloc 67 [.int .i64 0,.nilsl]),qI 5 0]) (.seq (.reg aRU) (.ret))⟩
theorem aQC:aM Tryz.prog ⟨[39,75,135,136,137,155,161,186,188,194,195,196,211,212,213,226,230,233,238],[],[],[]⟩ Tryz.f90=some s90:=by kernel_rfl
def aTY:SC:=.seq (.reg [qP 9 .lss 8 7]) (.seq (.cond (.t 9) (.skip) (.exit 0)) (.seq (.block 1 (.seq (.reg [qM 10 8,qM 5 10]) (.seq (.reg [qM 11 1,qM 12 0,qM 13 5,qA 14 1 12 13,ql 15 14,sO 16 (.callv false (.t 11) [.t 15])]) (.cond (.t 16) (.seq (.reg [qM 17 5,qM 4 17]) (.ret)) (.skip))))) (.reg [qC 18 .add 8 1,qM 8 18])))
def s91:SF:=⟨19,[.tmp 4],.seq (.reg [qI 4 0]) (.seq (.seq (.reg [qM 6 0,qN 7 6,qI 8 0]) (.block 0 (.loop aTY))) (.seq (.reg [sO 4 (.mv (.c (.int .i64 (-1))))]) (.ret)))⟩
theorem aPx:aM Tryz.prog ⟨[39,75,135,136,137,155,161,186,188,194,195,196,211,212,213,226,230,233,238],[],[],[]⟩ Tryz.f91=some s91:=by kernel_rfl
def s92:SF:=⟨7,[.tmp 3],.seq (.reg [sO 3 (.mv (.c (.bool false)))]) (.seq (.reg [qM 4 0,ql 5 1,sO 6 (.call false 81 [.t 4,.t 5]),qM 3 6]) (.ret))⟩
theorem aPz:aM Tryz.prog ⟨[39,75,135,136,137,155,161,186,188,194,195,196,211,212,213,226,230,233,238],[],[],[]⟩ Tryz.f92=some s92:=by kernel_rfl
def aTd:List SO:=[
 qF 15 4 1,
 ql 16 15,
 qN 17 16,
 qF 18 0 1,
 qF 19 2 18,
 ql 20 19,
 qN 21 20,
 qP 22 .neq 17 21]
def aS8:List SO:=[
 qF 32 0 1,
 qL 33 4 32,
 qF 34 0 1,
 qF 35 1 34,
 ql 36 35,
 qM 37 5,
 sO 38 (.call false 47 [.t 33,.t 36,.t 37]),
 qM 31 38,
 qE 39 31 0,
 qE 40 31 1,
 qE 41 31 2,
 qM 6 39,
 qM 7 40,
 qM 8 41]
def aR3:SC:=.seq (.reg [qP 27 .lss 26 25]) (.seq (.cond (.t 27) (.skip) (.exit 0)) (.seq (.block 1 (.seq (.reg [qM 28 26,qA 29 1 24 26,ql 30 29,qM 4 28,qM 5 30]) (.seq (.reg aS8) (.seq (.seq (.reg [qM 42 8,qC 43 .neq 42 0]) (.cond (.t 43) (.seq (.reg [qM 44 8,qM 2 44]) (.ret)) (.skip))) (.seq (.reg [qM 45 7,qM 46 4,qP 47 .neq 45 46]) (.cond (.t 47) (.seq (.reg [qI 2 15]) (.ret)) (.skip))))))) (.reg [qC 48 .add 26 1,qM 26 48])))
def aNj:List SO:=[
 qF 49 4 1,
 ql 50 49,
 qF 51 0 1,
 qF 52 1 51,
 ql 53 52,
 qA 54 1 50 53,
 ql 55 54,
 qN 56 55,
 qC 57 .neq 56 0]
def s93:SF:=⟨58,[.tmp 2],.seq (.reg [sO 1 (.box 38 5 (.t 0)),qI 2 0]) (.seq (.seq (.reg [qF 9 0 1,qL 10 4 9,sO 11 (.call false 29 [.t 10]),qM 3 11]) (.seq (.reg [qM 12 3,qC 13 .neq 12 0]) (.cond (.t 13) (.seq (.reg [qM 14 3,qM 2 14]) (.ret)) (.skip)))) (.seq (.seq (.reg aTd) (.cond (.t 22) (.seq (.reg [qI 2 1]) (.ret)) (.skip))) (.seq (.seq (.reg [qF 23 4 1,ql 24 23,qN 25 24,qI 26 0]) (.block 0 (.loop aR3))) (.seq (.seq (.reg aNj) (.cond (.t 57) (.seq (.reg [qI 2 10]) (.ret)) (.skip))) (.seq (.reg [qI 2 0]) (.ret))))))⟩
theorem aPo:aM Tryz.prog ⟨[39,75,135,136,137,155,161,186,188,194,195,196,211,212,213,226,230,233,238],[],[],[]⟩ Tryz.f93=some s93:=by kernel_rfl
def aSJ:SC:=.seq (.reg [qC 12 .lss 11 2]) (.seq (.cond (.t 12) (.skip) (.exit 0)) (.seq (.block 1 (.seq (.reg [sO 13 (.aidx true 4 2 (.t 10) (.t 11)),sO 6 (.alloc 24 [.int .i64 0,.int .i64 0,.nilsl,.nilsl]),sN (.store 4 (.t 6) (.t 13))]) (.seq (.reg [qL 14 4 6,sO 15 (.call false 29 [.t 14]),qM 7 15]) (.seq (.reg [qM 16 7,qC 17 .neq 16 0]) (.cond (.t 17) (.seq (.reg [qM 18 7,qM 4 18]) (.ret)) (.skip)))))) (.reg [qC 19 .add 11 1,qM 11 19])))
def s94:SF:=⟨25,[.tmp 4],.seq (.reg [sO 2 (.box 24 4 (.t 0)),sO 3 (.box 24 4 (.t 1)),qI 4 0]) (.seq (.seq (.reg [qL 8 4 2,qL 9 4 3,sO 10 (.build [.int .i64 0,.int .i64 0,.nilsl,.nilsl,.int .i64 0,.int .i64 0,.nilsl,.nilsl] [(0,4,.t 8),(4,4,.t 9)]),qI 11 0]) (.block 0 (.loop aSJ))) (.seq (.seq (.reg [qF 20 0 2,ql 21 20,qF 22 0 3,ql 23 22,qP 24 .neq 21 23]) (.cond (.t 24) (.seq (.reg [qI 4 15]) (.ret)) (.skip))) (.seq (.reg [qI 4 0]) (.ret))))⟩
theorem aPj:aM Tryz.prog ⟨[39,75,135,136,137,155,161,186,188,194,195,196,211,212,213,226,230,233,238],[],[],[]⟩ Tryz.f94=some s94:=by kernel_rfl
def aRV:List SO:=[
 qM 24 8,
 qM 25 9,
 qF 26 2 4,
 ql 27 26,
 qN 28 27,
 sO 29 (.mks 4 1 1 [.bool false] (.t 28) (.t 28)),
 qA 30 1 24 25,
 sN (.store 1 (.t 30) (.t 29))]
def aTB:SC:=.seq (.reg [qP 22 .lss 21 20]) (.seq (.cond (.t 22) (.skip) (.exit 0)) (.seq (.block 1 (.seq (.reg [qM 23 21,qM 9 23]) (.reg aRV))) (.reg [qC 31 .add 21 1,qM 21 31])))
def aSE:List SO:=[
 qM 32 8,
 qF 33 0 5,
 ql 34 33,
 qA 35 1 32 34,
 ql 36 35,
 qF 37 1 5,
 ql 38 37,
 qA 39 1 36 38,
 sN (.store 1 (.t 39) (.c (.bool true)))]
def aNN:List SO:=[
 qM 49 10,
 qM 50 11,
 qA 51 3 49 50,
 qF 52 0 51,
 qL 53 2 52,
 sO 12 (.alloc 177 [.int .i64 0,.int .i64 0]),
 sN (.store 2 (.t 12) (.t 53))]
def aOn:List SO:=[
 qF 59 3 3,
 ql 60 59,
 qF 61 0 12,
 ql 62 61,
 qA 63 1 60 62,
 ql 64 63,
 qM 65 13,
 qA 66 1 64 65,
 ql 67 66,
 qF 68 3 4,
 ql 69 68,
 qF 70 1 12,
 ql 71 70,
 qA 72 1 69 71,
 ql 73 72,
 qM 74 13,
 qA 75 1 73 74,
 ql 76 75,
 qP 77 .neq 67 76]
def aPV:List SO:=[
 qM 78 10,
 qM 79 11,
 qA 80 3 78 79,
 qF 81 2 80,
 ql 82 81,
 qM 83 13,
 sO 84 (.bslice 3 1 false [.int .i64 0] 1 [(0,.t 83)]),
 sO 85 (.bslice 25 1 false [.nilsl] 2 [(0,.t 82),(1,.t 84)]),
 sO 86 (.call false 98 [.t 85]),
 qM 6 86,
 sO 7 (.mv (.c (.bool true)))]
def aQ2:List SO:=[
 qF 87 2 3,
 ql 88 87,
 qF 89 0 12,
 ql 90 89,
 qA 91 1 88 90,
 ql 92 91,
 qM 93 13,
 qA 94 1 92 93,
 ql 95 94,
 qF 96 2 4,
 ql 97 96,
 qF 98 1 12,
 ql 99 98,
 qA 100 1 97 99,
 ql 101 100,
 qM 102 13,
 qA 103 1 101 102,
 ql 104 103,
 sO 105 (.build [.int .i64 0,.int .i64 0] [(0,1,.t 95),(1,1,.t 104)]),
 sO 14 (.alloc 177 [.int .i64 0,.int .i64 0]),
 sN (.store 2 (.t 14) (.t 105))]
def aQz:List SO:=[
 qL 106 2 14,
 qL 107 2 12,
 sO 108 (.abin true [0,0] (.t 106) (.t 107)),
 qM 109 108,
 ⟨some (109,true),some 110,.mv (.t 8)⟩,
 ⟨some (109,true),some 111,.fld 0 (.t 14)⟩,
 ⟨some (109,true),some 112,.load false 1 (.t 111)⟩,
 ⟨some (109,true),some 113,.idx 1 (.t 110) (.t 112)⟩,
 ⟨some (109,true),some 114,.load false 1 (.t 113)⟩,
 ⟨some (109,true),some 115,.fld 1 (.t 14)⟩,
 ⟨some (109,true),some 116,.load false 1 (.t 115)⟩,
 ⟨some (109,true),some 117,.idx 1 (.t 114) (.t 116)⟩,
 ⟨some (109,true),some 118,.load false 1 (.t 117)⟩,
 ⟨some (109,true),some 119,.un .not (.t 118)⟩,
 sO 120 (.pick (.t 109) (.t 119) (.c (.bool false)))]
def aNe:List SO:=[
 qM 121 8,
 qF 122 0 14,
 ql 123 122,
 qA 124 1 121 123,
 ql 125 124,
 qF 126 1 14,
 ql 127 126,
 qA 128 1 125 127,
 sN (.store 1 (.t 128) (.c (.bool true)))]
def aRh:List SO:=[
 qM 129 10,
 qL 130 2 14,
 qM 131 10,
 qM 132 11,
 qA 133 3 131 132,
 qF 134 2 133,
 ql 135 134,
 qM 136 13,
 sO 137 (.bslice 3 1 false [.int .i64 0] 1 [(0,.t 136)]),
 sO 138 (.bslice 25 1 false [.nilsl] 2 [(0,.t 135),(1,.t 137)]),
 sO 139 (.call false 98 [.t 138]),
 sO 140 (.build [.int .i64 0,.int .i64 0,.nilsl] [(0,2,.t 130),(2,1,.t 139)]),
 sO 141 (.bslice 228 3 false [.int .i64 0,.int .i64 0,.nilsl] 1 [(0,.t 140)]),
 sO 142 (.append 228 3 40 (.t 129) (.t 141)),
 qM 10 142]
def aRT:SC:=.seq (.reg [qP 57 .lss 56 55]) (.seq (.cond (.t 57) (.skip) (.exit 4)) (.seq (.block 5 (.seq (.reg [qM 58 56,qM 13 58]) (.seq (.seq (.reg aOn) (.cond (.t 77) (.seq (.reg aPV) (.ret)) (.skip))) (.seq (.dreg [14] aQ2) (.seq (.reg aQz) (.cond (.t 120) (.seq (.reg aNe) (.reg aRh)) (.skip))))))) (.reg [qC 143 .add 56 1,qM 56 143])))
def aSa:SC:=.seq (.seq (.reg [qM 43 11,qM 44 10,qN 45 44,qP 46 .lss 43 45]) (.cond (.t 46) (.skip) (.exit 2))) (.seq (.block 3 (.seq (.reg aNN) (.seq (.reg [qF 54 0 3,ql 55 54,qI 56 0]) (.block 4 (.loop aRT))))) (.reg [qM 47 11,qC 48 .add 47 1,qM 11 48]))
def s95:SF:=⟨144,[.tmp 6,.tmp 7],.seq (.reg [sO 3 (.box 24 4 (.t 0)),sO 4 (.box 24 4 (.t 1)),sO 5 (.box 177 2 (.t 2)),sO 6 (.mv (.c (.nilsl))),sO 7 (.mv (.c (.bool false)))]) (.seq (.reg [qF 15 2 3,ql 16 15,qN 17 16,sO 18 (.mks 184 1 24 [.nilsl] (.t 17) (.t 17)),qM 8 18]) (.seq (.seq (.reg [qM 19 8,qN 20 19,qI 21 0]) (.block 0 (.loop aTB))) (.seq (.reg aSE) (.seq (.reg [qL 40 2 5,sO 41 (.build [.int .i64 0,.int .i64 0,.nilsl] [(0,2,.t 40)]),sO 42 (.bslice 228 3 true [.int .i64 0,.int .i64 0,.nilsl] 1 [(0,.t 41)]),qM 10 42]) (.seq (.seq (.reg [qI 11 0]) (.block 2 (.loop aSa))) (.seq (.reg [sO 6 (.mv (.c (.nilsl))),sO 7 (.mv (.c (.bool false)))]) (.ret)))))))⟩
theorem aMS:aM Tryz.prog ⟨[39,75,135,136,137,155,161,186,188,194,195,196,211,212,213,226,230,233,238],[42],[],[]⟩ Tryz.f95=some s95:=by kernel_rfl
def aS3:List SO:=[
 qL 12 5 3,
 qL 13 2 4,
 qM 14 2,
 sO 15 (.call false 140 [.t 12,.t 13,.t 14]),
 qM 11 15,
 qE 16 11 0,
 qE 17 11 1,
 qM 9 16,
 qM 10 17]
def aS5:List SO:=[
 qM 22 9,
 sO 23 (.call false 141 [.t 22,.c (.fn 142 [] [])]),
 qE 24 23 0,
 qE 25 23 1,
 qE 26 23 2,
 sN (.store 3 (.t 6) (.t 24)),
 qM 7 25,
 qM 8 26]
def s96:SF:=⟨27,[.cell 6 true 3,.tmp 7,.tmp 8],.seq (.reg [sO 3 (.box 38 5 (.t 0)),sO 4 (.box 67 2 (.t 1)),sO 6 (.alloc 179 [.nilsl,.int .i64 0,.nilsl]),sO 7 (.mv (.c (.nilsl))),qI 8 0]) (.seq (.reg aS3) (.seq (.seq (.reg [qM 18 10,qC 19 .neq 18 0]) (.cond (.t 19) (.seq (.reg [sO 20 (.build [.nilsl,.int .i64 0,.nilsl] []),qM 21 10,sN (.store 3 (.t 6) (.t 20)),sO 7 (.mv (.c (.nilsl))),qM 8 21]) (.ret)) (.skip))) (.seq (.reg aS5) (.ret))))⟩
theorem aOg:aM Tryz.prog ⟨[39,75,135,136,137,155,161,186,188,194,195,196,211,212,213,226,230,233,238],[],[],[]⟩ Tryz.f96=some s96:=by kernel_rfl
def aTQ:List SO:=[
 qF 31 0 5,
 ql 32 31,
 qF 33 1 5,
 ql 34 33,
 sO 35 (.bslice 3 1 false [.int .i64 0] 1 [(0,.t 34)]),
 sO 36 (.bslice 25 1 false [.nilsl] 2 [(0,.t 32),(1,.t 35)]),
 sO 37 (.call false 98 [.t 36]),
 qM 11 37]
def aTS:List SO:=[
 qF 39 1 3,
 qL 40 1 39,
 qL 41 2 4,
 qM 42 11,
 sO 43 (.call false 126 [.t 40,.t 41,.t 42]),
 qM 38 43,
 qE 44 38 0,
 qE 45 38 1,
 qE 46 38 2,
 qM 12 44,
 qM 13 45,
 qM 14 46]
def aQo:List SO:=[
 qF 62 1 3,
 qF 63 0 62,
 ql 64 63,
 qM 65 12,
 qA 66 5 64 65,
 qF 67 1 66,
 ql 68 67,
 qM 15 68]
def aM1:List SO:=[
 qM 69 15,
 qF 70 2 5,
 ql 71 70,
 sO 72 (.bslice 25 1 false [.nilsl] 2 [(0,.t 69),(1,.t 71)]),
 sO 73 (.call false 98 [.t 72]),
 qM 74 11,
 qF 75 2 5,
 ql 76 75,
 sO 77 (.bslice 25 1 false [.nilsl] 2 [(0,.t 74),(1,.t 76)]),
 sO 78 (.call false 98 [.t 77]),
 sO 79 (.bslice 25 1 false [.nilsl] 2 [(0,.t 73),(1,.t 78)]),
 qM 16 79]
def aR0:SC:=.seq (.reg [qP 83 .lss 82 81]) (.seq (.cond (.t 83) (.skip) (.exit 0)) (.seq (.block 1 (.seq (.reg [qA 84 1 80 82,ql 85 84,qM 19 85]) (.seq (.seq (.reg [qM 86 19,qN 87 86,qC 88 .gtr 87 1024]) (.cond (.t 88) (.seq (.reg [qL 89 2 3,sN (.store 2 (.t 6) (.t 89)),sO 7 (.mv (.c (.nilsl))),qI 8 3]) (.ret)) (.skip))) (.seq (.reg [qL 90 4 9,qM 91 19,sO 92 (.call false 127 [.t 90,.t 91]),sO 93 (.un .not (.t 92))]) (.cond (.t 93) (.reg [qM 94 17,qM 95 19,sO 96 (.bslice 25 1 false [.nilsl] 1 [(0,.t 95)]),sO 97 (.append 25 1 24 (.t 94) (.t 96)),qM 17 97]) (.skip)))))) (.reg [qC 98 .add 82 1,qM 82 98])))
def aPI:List SO:=[
 qF 112 1 3,
 qL 113 1 112,
 qM 114 12,
 qF 115 2 5,
 ql 116 115,
 qL 117 4 9,
 qM 118 15,
 qF 119 2 5,
 ql 120 119,
 sO 121 (.call false 89 [.t 117,.t 118,.t 120]),
 qM 122 11,
 qL 123 4 9,
 qM 124 11,
 qF 125 2 5,
 ql 126 125,
 sO 127 (.call false 89 [.t 123,.t 124,.t 126]),
 sO 128 (.call false 144 [.t 113,.t 114,.t 116,.t 121,.t 122,.t 127]),
 qM 111 128,
 qE 129 111 0,
 qE 130 111 1,
 sO 20 (.alloc 99 [.nilsl]),
 sN (.store 1 (.t 20) (.t 129)),
 qM 14 130]
def aQs:List SO:=[
 qF 135 0 3,
 ql 136 135,
 qL 137 1 20,
 sO 138 (.build [.int .i64 0,.nilsl] [(0,1,.t 136),(1,1,.t 137)]),
 sN (.store 2 (.t 6) (.t 138)),
 sO 7 (.mv (.c (.nilsl))),
 qI 8 0]
def s97:SF:=⟨139,[.cell 6 true 2,.tmp 7,.tmp 8],.seq (.reg [sO 3 (.box 101 2 (.t 0)),sO 4 (.box 67 2 (.t 1)),sO 5 (.box 179 3 (.t 2)),sO 6 (.alloc 101 [.int .i64 0,.nilsl]),sO 7 (.mv (.c (.nilsl))),qI 8 0]) (.seq (.reg [qL 21 2 3,qL 22 2 4,sO 23 (.build [.int .i64 0,.nilsl,.int .i64 0,.nilsl] [(0,2,.t 21),(2,2,.t 22)]),sO 9 (.alloc 105 [.int .i64 0,.nilsl,.int .i64 0,.nilsl]),sN (.store 4 (.t 9) (.t 23))]) (.seq (.seq (.reg [qL 24 4 9,qL 25 3 5,sO 26 (.call false 143 [.t 24,.t 25]),qM 10 26]) (.seq (.reg [qM 27 10,qC 28 .neq 27 0]) (.cond (.t 28) (.seq (.reg [qL 29 2 3,qM 30 10,sN (.store 2 (.t 6) (.t 29)),sO 7 (.mv (.c (.nilsl))),qM 8 30]) (.ret)) (.skip)))) (.seq (.reg aTQ) (.seq (.reg aTS) (.seq (.seq (.reg [qM 47 14,qC 48 .neq 47 0]) (.cond (.t 48) (.seq (.reg [qL 49 2 3,qM 50 14,sN (.store 2 (.t 6) (.t 49)),sO 7 (.mv (.c (.nilsl))),qM 8 50]) (.ret)) (.skip))) (.seq (.seq (.reg [qM 51 13,qN 52 51,qC 53 .gtr 52 0]) (.cond (.t 53) (.seq (.reg [qL 54 2 3,qM 55 13,sO 56 (.bslice 25 1 false [.nilsl] 1 [(0,.t 55)]),sN (.store 2 (.t 6) (.t 54)),qM 7 56,qI 8 0]) (.ret)) (.skip))) (.seq (.seq (.reg [qL 57 4 9,qM 58 12,sO 59 (.call false 86 [.t 57,.t 58]),sO 60 (.un .not (.t 59))]) (.cond (.t 60) (.seq (.reg [qL 61 2 3,sN (.store 2 (.t 6) (.t 61)),sO 7 (.mv (.c (.nilsl))),qI 8 10]) (.ret)) (.skip))) (.seq (.reg aQo) (.seq (.reg aM1) (.seq (.reg [sO 17 (.lazy 25 1)]) (.seq (.seq (.reg [qM 80 16,qN 81 80,qI 82 0]) (.block 0 (.loop aR0))) (.seq (.seq (.reg [qM 99 17,qN 100 99,qC 101 .gtr 100 0]) (.cond (.t 101) (.seq (.reg [qL 102 2 3,qM 103 17,sO 104 (.call false 128 [.t 103]),sN (.store 2 (.t 6) (.t 102)),qM 7 104,qI 8 0]) (.ret)) (.skip))) (.seq (.seq (.reg [qF 105 1 3,qL 106 1 105,sO 107 (.call false 87 [.t 106]),qN 108 107,qC 109 .geq 108 128]) (.cond (.t 109) (.seq (.reg [qL 110 2 3,sN (.store 2 (.t 6) (.t 110)),sO 7 (.mv (.c (.nilsl))),qI 8 11]) (.ret)) (.skip))) (.seq (.dreg [20] aPI) (.seq (.seq (.reg [qM 131 14,qC 132 .neq 131 0]) (.cond (.t 132) (.seq (.reg [qL 133 2 3,qM 134 14,sN (.store 2 (.t 6) (.t 133)),sO 7 (.mv (.c (.nilsl))),qM 8 134]) (.ret)) (.skip))) (.seq (.reg aQs) (.ret)))))))))))))))))⟩
theorem aOG:aM Tryz.prog ⟨[39,75,135,136,137,155,161,186,188,194,195,196,211,212,213,226,230,233,238],[17],[],[]⟩ Tryz.f97=some s97:=by kernel_rfl
def s98:SF:=⟨5,[.tmp 2],.seq (.reg [sO 2 (.mv (.c (.nilsl)))]) (.seq (.reg [qM 3 0,sO 4 (.call false 145 [.t 3]),qM 2 4]) (.ret))⟩
theorem aNs:aM Tryz.prog ⟨[39,75,135,136,137,155,161,186,188,194,195,196,211,212,213,226,230,233,238],[],[],[]⟩ Tryz.f98=some s98:=by kernel_rfl
def aGo:SC:=.seq (.reg [qP 9 .lss 8 7]) (.seq (.cond (.t 9) (.skip) (.exit 0)) (.seq (.block 1 (.seq (.reg [qM 10 8,qM 5 10]) (.seq (.reg [qM 11 1,qM 12 0,qM 13 5,qA 14 1 12 13,ql 15 14,qP 16 .eql 11 15]) (.cond (.t 16) (.seq (.reg [qM 17 5,qM 4 17]) (.ret)) (.skip))))) (.reg [qC 18 .add 8 1,qM 8 18])))
def aJu:SF:=⟨19,[.tmp 4],.seq (.reg [qI 4 0]) (.seq (.seq (.reg [qM 6 0,qN 7 6,qI 8 0]) (.block 0 (.loop aGo))) (.seq (.reg [sO 4 (.mv (.c (.int .i64 (-1))))]) (.ret)))⟩
theorem aD3:aM Tryz.prog ⟨[39,75,135,136,137,155,161,186,188,194,195,196,211,212,213,226,230,233,238],[],[],[]⟩ Tryz.f116=some aJu:=by kernel_rfl
def aRm:List SO:=[
 qM 3 0,
 qC 4 .geq 3 1,
 qM 5 4,
 ⟨some (5,true),some 6,.mv (.t 0)⟩,
 ⟨some (5,true),some 7,.bin .leq (.t 6) (.c (.int .i64 1024))⟩,
 sO 8 (.pick (.t 5) (.t 7) (.c (.bool false))),
 qM 2 8]
def aKq:SF:=⟨9,[.tmp 2],.seq (.reg [sO 2 (.mv (.c (.bool false)))]) (.seq (.reg aRm) (.ret))⟩
theorem aFc:aM Tryz.prog ⟨[39,75,135,136,137,155,161,186,188,194,195,196,211,212,213,226,230,233,238],[],[],[]⟩ Tryz.f119=some aKq:=by kernel_rfl
def aGK:SF:=⟨9,[.tmp 4],.seq (.reg [sO 4 (.mv (.c (.bool false)))]) (.seq (.reg [qM 5 0,qM 6 1,sO 7 (.call false 168 [.t 5,.t 6]),qC 8 .geq 7 0,qM 4 8]) (.ret))⟩
theorem aDS:aM Tryz.prog ⟨[39,75,135,136,137,155,161,186,188,194,195,196,211,212,213,226,230,233,238],[],[],[]⟩ Tryz.f120=some aGK:=by kernel_rfl
def aMQ:List SO:=[
 qM 4 0,
 qC 5 .lss 4 0,
 qM 6 5,
 ⟨some (6,false),some 7,.mv (.t 0)⟩,
 ⟨some (6,false),some 8,.load false 1 (.t 1)⟩,
 ⟨some (6,false),some 9,.bin .geq (.t 7) (.t 8)⟩,
 sO 10 (.pick (.t 6) (.c (.bool true)) (.t 9)),
 qM 3 10]
def aLb:SF:=⟨11,[.tmp 3],.seq (.reg [sO 3 (.mv (.c (.bool false)))]) (.seq (.reg aMQ) (.ret))⟩
theorem aEz:aM Tryz.prog ⟨[39,75,135,136,137,155,161,186,188,194,195,196,211,212,213,226,230,233,238],[],[],[]⟩ Tryz.f121=some aLb:=by kernel_rfl
def aOY:List SO:=[
 qF 8 0 3,
 qF 9 2 8,
 ql 10 9,
 qM 11 1,
 qA 12 1 10 11,
 ql 13 12,
 qM 14 2,
 qA 15 1 13 14,
 ql 16 15,
 qF 17 0 3,
 qF 18 3 17,
 ql 19 18,
 qM 20 1,
 qA 21 1 19 20,
 ql 22 21,
 qM 23 2,
 qA 24 1 22 23,
 ql 25 24,
 qM 6 16,
 qM 7 25]
def aJX:SF:=⟨26,[.tmp 6,.tmp 7],.seq (.reg [sO 3 (.box 145 4 (.t 0)),qI 6 0,qI 7 0]) (.seq (.reg aOY) (.ret))⟩
theorem aD8:aM Tryz.prog ⟨[39,75,135,136,137,155,161,186,188,194,195,196,211,212,213,226,230,233,238],[],[],[]⟩ Tryz.f122=some aJX:=by kernel_rfl
def aMW:List SO:=[
 qM 15 1,
 sO 16 (.mx (.t 15) (.c (.int .i64 0))),
 qF 17 2 2,
 ql 18 17,
 qN 19 18,
 sO 20 (.mn (.t 16) (.t 19)),
 qI 21 0]
def aNG:List SO:=[
 qL 25 4 2,
 qM 26 6,
 sO 27 (.call false 169 [.t 25,.t 26]),
 qM 24 27,
 qE 28 24 0,
 qE 29 24 1,
 qM 9 28,
 qM 10 29]
def aHH:SC:=.seq (.reg [qP 22 .lss 21 20]) (.seq (.cond (.t 22) (.skip) (.exit 0)) (.seq (.block 1 (.seq (.reg [qM 23 21,qM 8 23]) (.seq (.reg aNG) (.seq (.seq (.reg [qM 30 10,qM 31 7,qP 32 .eql 30 31]) (.cond (.t 32) (.seq (.reg [qM 33 6,qM 34 8,qM 4 33,qM 5 34]) (.ret)) (.skip))) (.reg [qM 35 9,qM 36 10,qM 6 35,qM 7 36]))))) (.reg [qC 37 .add 21 1,qM 21 37])))
def aLI:List SO:=[
 qM 38 6,
 qM 39 1,
 sO 40 (.mx (.t 39) (.c (.int .i64 0))),
 qF 41 2 2,
 ql 42 41,
 qN 43 42,
 sO 44 (.mn (.t 40) (.t 43)),
 qM 4 38,
 qM 5 44]
def aKh:SF:=⟨45,[.tmp 4,.tmp 5],.seq (.reg [sO 2 (.box 24 4 (.t 0)),sO 4 (.mv (.c (.nilsl))),qI 5 0]) (.seq (.reg [qF 11 2 2,ql 12 11,qN 13 12,sO 14 (.mks 3 1 8 [.int .i64 0] (.t 13) (.t 13)),qM 6 14,qI 7 1]) (.seq (.seq (.reg aMW) (.block 0 (.loop aHH))) (.seq (.reg aLI) (.ret))))⟩
theorem aD1:aM Tryz.prog ⟨[39,75,135,136,137,155,161,186,188,194,195,196,211,212,213,226,230,233,238],[],[],[]⟩ Tryz.f123=some aKh:=by kernel_rfl
def aPv:SC:=.seq (.reg [qP 21 .lss 20 19]) (.seq (.cond (.t 21) (.skip) (.exit 1)) (.seq (.block 2 (.seq (.reg [qA 22 5 18 20,qL 23 5 22,sO 4 (.alloc 166 [.bool false,.nilsl,.nilsl,.nilsl,.nilsl]),sN (.store 5 (.t 4) (.t 23))]) (.seq (.reg [qI 5 0]) (.seq (.seq (.reg [qF 24 0 4,ql 25 24]) (.cond (.t 25) (.reg [qL 26 5 4,sO 27 (.call false 170 [.t 26]),qM 5 27]) (.reg [qL 28 5 4,qF 29 0 1,ql 30 29,qN 31 30,sO 32 (.call false 171 [.t 28,.t 31]),qM 5 32]))) (.seq (.reg [qM 33 5,qC 34 .neq 33 0]) (.cond (.t 34) (.seq (.reg [qM 35 5,qM 2 35]) (.ret)) (.skip))))))) (.reg [qC 36 .add 20 1,qM 20 36])))
def aN3:SF:=⟨48,[.tmp 2],.seq (.reg [sO 1 (.box 99 1 (.t 0)),qI 2 0]) (.seq (.block 0 (.seq (.reg [qF 8 0 1,ql 9 8,qN 10 9,qC 11 .eql 10 0,qM 7 11]) (.cond (.t 7) (.seq (.reg [qI 2 19]) (.ret)) (.seq (.reg [qF 13 0 1,ql 14 13,qN 15 14,qC 16 .gtr 15 4096,qM 12 16]) (.cond (.t 12) (.seq (.reg [qI 2 11]) (.ret)) (.skip)))))) (.seq (.seq (.reg [qF 17 0 1,ql 18 17,qN 19 18,qI 20 0]) (.block 1 (.loop aPv))) (.seq (.seq (.reg [qL 37 1 1,sO 38 (.call false 172 [.t 37]),sO 39 (.un .not (.t 38))]) (.cond (.t 39) (.seq (.reg [qI 2 1]) (.ret)) (.skip))) (.seq (.seq (.reg [qL 40 1 1,sO 41 (.call false 130 [.t 40]),qM 6 41]) (.seq (.reg [qM 42 6,sO 43 (.call false 129 [.t 42]),qN 44 43,qM 45 6,qN 46 45,qP 47 .neq 44 46]) (.cond (.t 47) (.seq (.reg [qI 2 7]) (.ret)) (.skip)))) (.seq (.reg [qI 2 0]) (.ret))))))⟩
theorem aJr:aM Tryz.prog ⟨[39,75,135,136,137,155,161,186,188,194,195,196,211,212,213,226,230,233,238],[],[],[]⟩ Tryz.f125=some aN3:=by kernel_rfl
def aOi:List SO:=[
 qF 31 0 3,
 ql 32 31,
 qM 33 11,
 qA 34 5 32 33,
 qF 35 0 34,
 ql 36 35,
 sO 37 (.un .not (.t 36))]
def aQv:List SO:=[
 qF 38 0 3,
 ql 39 38,
 qM 40 11,
 qA 41 5 39 40,
 qL 42 5 41,
 sO 12 (.alloc 166 [.bool false,.nilsl,.nilsl,.nilsl,.nilsl]),
 sN (.store 5 (.t 12) (.t 42))]
def aLG:List SO:=[
 qL 56 2 4,
 qM 57 13,
 sO 58 (.call false 138 [.t 56,.t 57]),
 qM 55 58,
 qE 59 55 0,
 qE 60 55 1,
 qM 15 59,
 qM 16 60]
def aKd:List SO:=[
 qL 65 5 12,
 qM 66 15,
 qM 67 2,
 qN 68 67,
 sO 69 (.slice 1 (.t 66) (some (.t 68)) none),
 sO 70 (.call false 133 [.t 65,.t 69]),
 qM 64 70,
 qE 71 64 0,
 qE 72 64 1,
 qM 17 71,
 qM 18 72]
def aOz:SC:=.seq (.seq (.reg aOi) (.cond (.t 37) (.skip) (.exit 0))) (.block 1 (.seq (.reg aQv) (.seq (.reg [qM 43 2,qF 44 2 12,ql 45 44,sO 46 (.bslice 25 1 false [.nilsl] 2 [(0,.t 43),(1,.t 45)]),sO 47 (.call false 98 [.t 46]),qM 13 47]) (.seq (.seq (.reg [qM 48 13,qF 49 0 4,ql 50 49,sO 51 (.call false 74 [.t 48,.t 50]),qM 14 51]) (.seq (.reg [qM 52 14,qC 53 .neq 52 0]) (.cond (.t 53) (.seq (.reg [qM 54 14,qI 6 0,sO 7 (.mv (.c (.nilsl))),qM 8 54]) (.ret)) (.skip)))) (.seq (.reg aLG) (.seq (.seq (.reg [qM 61 16,sO 62 (.un .not (.t 61))]) (.cond (.t 62) (.seq (.reg [qM 63 13,qI 6 0,qM 7 63,qI 8 0]) (.ret)) (.skip))) (.seq (.reg aKd) (.seq (.seq (.reg [qM 73 18,sO 74 (.un .not (.t 73))]) (.cond (.t 74) (.exit 0) (.skip))) (.reg [qF 75 4 12,ql 76 75,qM 77 17,qA 78 1 76 77,ql 79 78,qM 11 79])))))))))
def aO4:SF:=⟨81,[.tmp 6,.tmp 7,.tmp 8],.seq (.reg [sO 3 (.box 99 1 (.t 0)),sO 4 (.box 67 2 (.t 1)),qI 6 0,sO 7 (.mv (.c (.nilsl))),qI 8 0]) (.seq (.seq (.reg [qL 19 1 3,sO 20 (.call false 125 [.t 19]),qM 9 20]) (.seq (.reg [qM 21 9,qC 22 .neq 21 0]) (.cond (.t 22) (.seq (.reg [qM 23 9,qI 6 0,sO 7 (.mv (.c (.nilsl))),qM 8 23]) (.ret)) (.skip)))) (.seq (.seq (.reg [qM 24 2,qF 25 0 4,ql 26 25,sO 27 (.call false 74 [.t 24,.t 26]),qM 10 27]) (.seq (.reg [qM 28 10,qC 29 .neq 28 0]) (.cond (.t 29) (.seq (.reg [qM 30 10,qI 6 0,sO 7 (.mv (.c (.nilsl))),qM 8 30]) (.ret)) (.skip)))) (.seq (.reg [qI 11 0]) (.seq (.block 0 (.loop aOz)) (.seq (.reg [qM 80 11,qM 6 80,sO 7 (.mv (.c (.nilsl))),qI 8 0]) (.ret))))))⟩
theorem aKs:aM Tryz.prog ⟨[39,75,135,136,137,155,161,186,188,194,195,196,211,212,213,226,230,233,238],[],[],[]⟩ Tryz.f126=some aO4:=by kernel_rfl
def aQT:List SO:=[
 qF 8 2 2,
 qL 9 2 8,
 qM 10 1,
 sO 11 (.call false 138 [.t 9,.t 10]),
 qM 7 11,
 qE 12 7 0,
 qE 13 7 1,
 qM 5 12,
 qM 6 13]
def aQX:SF:=⟨15,[.tmp 4],.seq (.reg [sO 2 (.box 105 4 (.t 0)),sO 4 (.mv (.c (.bool false)))]) (.seq (.reg aQT) (.seq (.reg [qM 14 6,qM 4 14]) (.ret)))⟩
theorem aJj:aM Tryz.prog ⟨[39,75,135,136,137,155,161,186,188,194,195,196,211,212,213,226,230,233,238],[],[],[]⟩ Tryz.f127=some aQX:=by kernel_rfl
def aO1:List SO:=[
 qM 15 3,
 qF 16 1 5,
 ql 17 16,
 sO 18 (.bslice 25 1 false [.nilsl] 1 [(0,.t 17)]),
 sO 19 (.call false 98 [.t 18]),
 sO 20 (.bslice 25 1 false [.nilsl] 1 [(0,.t 19)]),
 sO 21 (.append 25 1 24 (.t 15) (.t 20)),
 qM 3 21]
def aNR:SC:=.seq (.reg [qP 10 .lss 9 8]) (.seq (.cond (.t 10) (.skip) (.exit 0)) (.seq (.block 1 (.seq (.reg [qA 11 5 7 9,qL 12 5 11,sO 5 (.alloc 166 [.bool false,.nilsl,.nilsl,.nilsl,.nilsl]),sN (.store 5 (.t 5) (.t 12))]) (.seq (.reg [qF 13 0 5,ql 14 13]) (.cond (.t 14) (.reg aO1) (.skip))))) (.reg [qC 22 .add 9 1,qM 9 22])))
def aNc:SF:=⟨24,[.tmp 2],.seq (.reg [sO 1 (.box 99 1 (.t 0)),sO 2 (.mv (.c (.nilsl)))]) (.seq (.reg [sO 3 (.lazy 25 1)]) (.seq (.seq (.reg [qF 6 0 1,ql 7 6,qN 8 7,qI 9 0]) (.block 0 (.loop aNR))) (.seq (.reg [qM 23 3,qM 2 23]) (.ret))))⟩
theorem aKM:aM Tryz.prog ⟨[39,75,135,136,137,155,161,186,188,194,195,196,211,212,213,226,230,233,238],[3],[],[]⟩ Tryz.f130=some aNc:=by kernel_rfl
def aNr:List SO:=[
 qM 8 1,
 qC 9 .lss 8 0,
 qM 10 9,
 ⟨some (10,false),some 11,.mv (.t 1)⟩,
 ⟨some (10,false),some 12,.fld 0 (.t 3)⟩,
 ⟨some (10,false),some 13,.load false 1 (.t 12)⟩,
 ⟨some (10,false),some 14,.len (.t 13)⟩,
 ⟨some (10,false),some 15,.bin .geq (.t 11) (.t 14)⟩,
 sO 16 (.pick (.t 10) (.c (.bool true)) (.t 15)),
 qM 7 16]
def aNy:List SO:=[
 qF 18 0 3,
 ql 19 18,
 qM 20 1,
 qA 21 5 19 20,
 qF 22 0 21,
 ql 23 22,
 qM 24 2,
 sO 25 (.bbin .neq (.t 23) (.t 24)),
 qM 17 25]
def aOU:SF:=⟨26,[.tmp 6],.seq (.reg [sO 3 (.box 99 1 (.t 0)),qI 6 0]) (.seq (.block 0 (.seq (.reg aNr) (.cond (.t 7) (.seq (.reg [qI 6 2]) (.ret)) (.seq (.reg aNy) (.cond (.t 17) (.seq (.reg [qI 6 10]) (.ret)) (.skip)))))) (.seq (.reg [qI 6 0]) (.ret)))⟩
theorem aKF:aM Tryz.prog ⟨[39,75,135,136,137,155,161,186,188,194,195,196,211,212,213,226,230,233,238],[],[],[]⟩ Tryz.f131=some aOU:=by kernel_rfl
def aNK:SF:=⟨12,[.tmp 4],.seq (.reg [qI 4 0]) (.seq (.seq (.reg [qM 5 0,qN 6 5,qM 7 1,qN 8 7,qP 9 .neq 6 8]) (.cond (.t 9) (.seq (.reg [qI 4 1]) (.ret)) (.skip))) (.seq (.seq (.reg [qM 10 0,sO 11 (.call false 120 [.t 10,.c (.fn 177 [] [])])]) (.cond (.t 11) (.seq (.reg [qI 4 2]) (.ret)) (.skip))) (.seq (.reg [qI 4 0]) (.ret))))⟩
theorem aJc:aM Tryz.prog ⟨[39,75,135,136,137,155,161,186,188,194,195,196,211,212,213,226,230,233,238],[],[],[]⟩ Tryz.f132=some aNK:=by kernel_rfl
def aPf:List SO:=[
 qF 6 3 2,
 ql 7 6,
 qM 8 1,
 sO 9 (.call false 178 [.t 7,.t 8,.c (.fn 174 [] [])]),
 qE 10 9 0,
 qE 11 9 1,
 qM 4 10,
 qM 5 11]
def aP6:SF:=⟨12,[.tmp 4,.tmp 5],.seq (.reg [sO 2 (.box 166 5 (.t 0)),qI 4 0,sO 5 (.mv (.c (.bool false)))]) (.seq (.reg aPf) (.ret))⟩
theorem aIQ:aM Tryz.prog ⟨[39,75,135,136,137,155,161,186,188,194,195,196,211,212,213,226,230,233,238],[],[],[]⟩ Tryz.f133=some aP6:=by kernel_rfl
def aMZ:SF:=⟨15,[.tmp 4],.seq (.reg [sO 2 (.box 99 1 (.t 0)),qI 4 0]) (.seq (.seq (.reg [qM 6 1,sO 7 (.call false 74 [.t 6,.c (.int .i64 64)]),qM 5 7]) (.seq (.reg [qM 8 5,qC 9 .neq 8 0]) (.cond (.t 9) (.seq (.reg [qM 10 5,qM 4 10]) (.ret)) (.skip)))) (.seq (.seq (.reg [qL 11 1 2,sO 12 (.call false 130 [.t 11]),qM 13 1,sO 14 (.call false 179 [.t 12,.t 13])]) (.cond (.t 14) (.seq (.reg [qI 4 7]) (.ret)) (.skip))) (.seq (.reg [qI 4 0]) (.ret))))⟩
theorem aIO:aM Tryz.prog ⟨[39,75,135,136,137,155,161,186,188,194,195,196,211,212,213,226,230,233,238],[],[],[]⟩ Tryz.f134=some aMZ:=by kernel_rfl
def aI0:List SO:=[
 qM 36 6,
 qM 37 8,
 sO 38 (.bslice 25 1 false [.nilsl] 1 [(0,.t 37)]),
 sO 39 (.call false 98 [.t 38]),
 sO 40 (.bslice 25 1 false [.nilsl] 1 [(0,.t 39)]),
 sO 41 (.append 25 1 24 (.t 36) (.t 40)),
 qM 6 41]
def aNt:SC:=.seq (.reg [qP 33 .lss 32 31]) (.seq (.cond (.t 33) (.skip) (.exit 2)) (.seq (.block 3 (.seq (.reg [qA 34 1 30 32,ql 35 34,qM 8 35]) (.reg aI0))) (.reg [qC 42 .add 32 1,qM 32 42])))
def aKD:List SO:=[
 qM 43 3,
 qM 44 4,
 qF 45 0 5,
 ql 46 45,
 qF 47 1 5,
 ql 48 47,
 sO 49 (.bslice 25 1 false [.nilsl] 1 [(0,.t 48)]),
 sO 50 (.call false 98 [.t 49]),
 qF 51 2 5,
 ql 52 51,
 sO 53 (.bslice 25 1 false [.nilsl] 1 [(0,.t 52)]),
 sO 54 (.call false 98 [.t 53]),
 qM 55 6,
 qF 56 4 5,
 ql 57 56,
 sO 58 (.callA 77 [.t 57]),
 sO 59 (.build [.bool false,.nilsl,.nilsl,.nilsl,.nilsl] [(0,1,.t 46),(1,1,.t 50),(2,1,.t 54),(3,1,.t 55),(4,1,.t 58)]),
 qA 60 5 43 44,
 sN (.store 5 (.t 60) (.t 59))]
def aQj:SC:=.seq (.reg [qP 20 .lss 19 18]) (.seq (.cond (.t 20) (.skip) (.exit 0)) (.seq (.block 1 (.seq (.reg [qM 21 19,qA 22 5 17 19,qL 23 5 22,sO 5 (.alloc 166 [.bool false,.nilsl,.nilsl,.nilsl,.nilsl]),qM 4 21,sN (.store 5 (.t 5) (.t 23))]) (.seq (.reg [qF 24 3 5,ql 25 24,qN 26 25,qC 27 .add 26 1,sO 28 (.mks 25 1 24 [.nilsl] (.c (.int .i64 0)) (.t 27)),qM 6 28]) (.seq (.seq (.reg [qF 29 3 5,ql 30 29,qN 31 30,qI 32 0]) (.block 2 (.loop aNt))) (.dreg [58] aKD))))) (.reg [qC 61 .add 19 1,qM 19 61])))
def aN0:SF:=⟨64,[.cell 2 true 1],.seq (.reg [sO 1 (.box 99 1 (.t 0)),sO 2 (.alloc 99 [.nilsl])]) (.seq (.reg [qF 9 0 1,ql 10 9,qN 11 10,sO 12 (.mks 166 5 104 [.bool false,.nilsl,.nilsl,.nilsl,.nilsl] (.t 11) (.t 11)),qM 3 12]) (.seq (.reg [qM 13 3,qF 14 0 1,ql 15 14,sO 16 (.cpy 5 (.t 13) (.t 15))]) (.seq (.seq (.reg [qM 17 3,qN 18 17,qI 19 0]) (.block 0 (.loop aQj))) (.seq (.reg [qM 62 3,sO 63 (.build [.nilsl] [(0,1,.t 62)]),sN (.store 1 (.t 2) (.t 63))]) (.ret)))))⟩
theorem aJo:aM Tryz.prog ⟨[39,75,135,136,137,155,161,186,188,194,195,196,211,212,213,226,230,233,238],[58],[],[]⟩ Tryz.f135=some aN0:=by kernel_rfl
def aPR:List SO:=[
 qF 17 1 2,
 ql 18 17,
 qM 19 6,
 qA 20 2 18 19,
 qF 21 1 20,
 ql 22 21,
 qM 7 22]
def aNY:List SO:=[
 qM 23 7,
 ql 24 3,
 qN 25 24,
 qM 26 7,
 qN 27 26,
 sO 28 (.mn (.t 25) (.t 27)),
 sO 29 (.slice 1 (.t 23) none (some (.t 28))),
 sO 30 (.call false 77 [.t 29]),
 qM 4 30,
 sO 5 (.mv (.c (.bool true)))]
def aQF:SF:=⟨31,[.tmp 4,.tmp 5],.seq (.reg [sO 2 (.box 67 2 (.t 0)),sO 3 (.box 25 1 (.t 1)),sO 4 (.mv (.c (.nilsl))),sO 5 (.mv (.c (.bool false)))]) (.seq (.seq (.reg [ql 8 3,qN 9 8,qC 10 .eql 9 0]) (.cond (.t 10) (.seq (.reg [sO 4 (.mv (.c (.nilsl))),sO 5 (.mv (.c (.bool true)))]) (.ret)) (.skip))) (.seq (.reg [qF 11 1 2,ql 12 11,sO 13 (.mkf 185 [.t 3]),sO 14 (.call false 184 [.t 12,.t 13]),qM 6 14]) (.seq (.seq (.reg [qM 15 6,qC 16 .lss 15 0]) (.cond (.t 16) (.seq (.reg [sO 4 (.mv (.c (.nilsl))),sO 5 (.mv (.c (.bool false)))]) (.ret)) (.skip))) (.seq (.reg aPR) (.seq (.reg aNY) (.ret))))))⟩
theorem aIK:aM Tryz.prog ⟨[39,75,135,136,137,155,161,186,188,194,195,196,211,212,213,226,230,233,238],[],[],[]⟩ Tryz.f138=some aQF:=by kernel_rfl
def aND:List SO:=[
 qM 30 6,
 qL 31 2 8,
 sO 32 (.call true 188 [.t 30,.t 31]),
 qM 29 32,
 qE 33 29 0,
 qE 34 29 1,
 qM 10 33,
 qM 11 34]
def aQQ:SC:=.seq (.reg [qP 18 .lss 17 16]) (.seq (.cond (.t 18) (.skip) (.exit 0)) (.seq (.block 1 (.seq (.reg [qA 19 2 15 17,qL 20 2 19,sO 8 (.alloc 169 [.nilsl,.nilsl]),sN (.store 2 (.t 8) (.t 20))]) (.seq (.seq (.reg [qL 21 2 8,qF 22 0 2,ql 23 22,sO 24 (.call false 187 [.t 21,.t 23]),qM 9 24]) (.seq (.reg [qM 25 9,qC 26 .neq 25 0]) (.cond (.t 26) (.seq (.reg [qL 27 2 2,qM 28 9,sN (.store 2 (.t 4) (.t 27)),qM 5 28]) (.ret)) (.skip)))) (.seq (.reg aND) (.seq (.seq (.reg [qM 35 11,qC 36 .neq 35 0]) (.cond (.t 36) (.seq (.reg [qL 37 2 2,qM 38 11,sN (.store 2 (.t 4) (.t 37)),qM 5 38]) (.ret)) (.skip))) (.reg [qM 39 10,qM 6 39])))))) (.reg [qC 40 .add 17 1,qM 17 40])))
def aOt:SF:=⟨45,[.cell 4 true 2,.tmp 5],.seq (.reg [sO 2 (.box 67 2 (.t 0)),sO 4 (.alloc 67 [.int .i64 0,.nilsl]),qI 5 0]) (.seq (.reg [qF 12 1 2,ql 13 12,sO 14 (.call true 186 [.t 13]),qM 6 14]) (.seq (.seq (.reg [qM 15 1,qN 16 15,qI 17 0]) (.block 0 (.loop aQQ))) (.seq (.reg [qF 41 0 2,ql 42 41,qM 43 6,sO 44 (.build [.int .i64 0,.nilsl] [(0,1,.t 42),(1,1,.t 43)]),sN (.store 2 (.t 4) (.t 44)),qI 5 0]) (.ret))))⟩
theorem aIL:aM Tryz.prog ⟨[39,75,135,136,137,155,161,186,188,194,195,196,211,212,213,226,230,233,238],[],[],[]⟩ Tryz.f139=some aOt:=by kernel_rfl
def aPG:List SO:=[
 qL 35 2 4,
 qM 36 2,
 sO 37 (.call false 138 [.t 35,.t 36]),
 qM 34 37,
 qE 38 34 0,
 qE 39 34 1,
 qM 10 38,
 qM 11 39]
def aI9:List SO:=[
 qL 42 5 3,
 qL 43 2 4,
 qM 44 2,
 qF 45 0 3,
 qF 46 1 45,
 ql 47 46,
 sO 48 (.bslice 3 1 true [.int .i64 0] 1 [(0,.t 47)]),
 sO 49 (.build [.int .i64 0,.int .i64 0,.nilsl,.nilsl,.nilsl,.int .i64 0,.nilsl,.nilsl,.nilsl,.nilsl] [(0,5,.t 42),(5,2,.t 43),(7,1,.t 44),(8,1,.t 48)]),
 sO 50 (.box 273 10 (.t 49)),
 qM 12 50]
def aJO:List SO:=[
 qM 60 12,
 qM 61 12,
 sO 62 (.nilck (.t 61)),
 qF 63 9 62,
 ql 64 63,
 qF 65 0 3,
 qF 66 3 65,
 ql 67 66,
 qM 68 13,
 qA 69 1 67 68,
 ql 70 69,
 qM 71 15,
 qA 72 1 70 71,
 ql 73 72,
 sO 74 (.bslice 3 1 false [.int .i64 0] 1 [(0,.t 73)]),
 sO 75 (.append 3 1 8 (.t 64) (.t 74)),
 sO 76 (.nilck (.t 60)),
 qF 77 9 76,
 sN (.store 1 (.t 77) (.t 75))]
def aLl:List SO:=[
 qF 78 0 3,
 qF 79 2 78,
 ql 80 79,
 qM 81 13,
 qA 82 1 80 81,
 ql 83 82,
 qM 84 15,
 qA 85 1 83 84,
 ql 86 85,
 qM 13 86]
def aKE:List SO:=[
 qM 87 12,
 qM 88 12,
 sO 89 (.nilck (.t 88)),
 qF 90 8 89,
 ql 91 90,
 qM 92 13,
 sO 93 (.bslice 3 1 false [.int .i64 0] 1 [(0,.t 92)]),
 sO 94 (.append 3 1 8 (.t 91) (.t 93)),
 sO 95 (.nilck (.t 87)),
 qF 96 8 95,
 sN (.store 1 (.t 96) (.t 94))]
def aQA:SC:=.seq (.reg [qP 57 .lss 56 55]) (.seq (.cond (.t 57) (.skip) (.exit 0)) (.seq (.block 1 (.seq (.reg [qA 58 1 54 56,ql 59 58,qM 15 59]) (.seq (.reg aJO) (.seq (.reg aLl) (.reg aKE))))) (.reg [qC 97 .add 56 1,qM 56 97])))
def aNB:SF:=⟨105,[.tmp 6,.tmp 7],.seq (.reg [sO 3 (.box 38 5 (.t 0)),sO 4 (.box 67 2 (.t 1)),sO 6 (.mv (.c (.nilp))),qI 7 0]) (.seq (.seq (.reg [qL 16 5 3,sO 17 (.call false 93 [.t 16]),qM 8 17]) (.seq (.reg [qM 18 8,qC 19 .neq 18 0]) (.cond (.t 19) (.seq (.reg [qM 20 8,sO 6 (.mv (.c (.nilp))),qM 7 20]) (.ret)) (.skip)))) (.seq (.seq (.reg [qF 21 0 3,qF 22 0 21,ql 23 22,qF 24 0 4,ql 25 24,qP 26 .neq 23 25]) (.cond (.t 26) (.seq (.reg [sO 6 (.mv (.c (.nilp))),qI 7 15]) (.ret)) (.skip))) (.seq (.seq (.reg [qM 27 2,qF 28 0 4,ql 29 28,sO 30 (.call false 74 [.t 27,.t 29]),qM 9 30]) (.seq (.reg [qM 31 9,qC 32 .neq 31 0]) (.cond (.t 32) (.seq (.reg [qM 33 9,sO 6 (.mv (.c (.nilp))),qM 7 33]) (.ret)) (.skip)))) (.seq (.reg aPG) (.seq (.seq (.reg [qM 40 11,sO 41 (.un .not (.t 40))]) (.cond (.t 41) (.seq (.reg [sO 6 (.mv (.c (.nilp))),qI 7 12]) (.ret)) (.skip))) (.seq (.reg aI9) (.seq (.reg [qF 51 0 3,qF 52 1 51,ql 53 52,qM 13 53]) (.seq (.seq (.reg [qM 54 2,qN 55 54,qI 56 0]) (.block 0 (.loop aQA))) (.seq (.seq (.reg [qM 98 10,qM 99 12,sO 100 (.nilck (.t 99)),qF 101 9 100,ql 102 101,sO 103 (.call false 81 [.t 98,.t 102])]) (.cond (.t 103) (.seq (.reg [sO 6 (.mv (.c (.nilp))),qI 7 8]) (.ret)) (.skip))) (.seq (.reg [qM 104 12,qM 6 104,qI 7 0]) (.ret)))))))))))⟩
theorem aJJ:aM Tryz.prog ⟨[39,75,135,136,137,155,161,186,188,194,195,196,211,212,213,226,230,233,238],[48],[],[]⟩ Tryz.f140=some aNB:=by kernel_rfl
def aNS:List SO:=[
 ql 15 2,
 sO 16 (.nilck (.t 15)),
 qF 17 7 16,
 ql 18 17,
 qN 19 18,
 qI 8 0,
 qM 9 19]
def aNh:List SO:=[
 ql 36 2,
 sO 37 (.nilck (.t 36)),
 qF 38 5 37,
 qL 39 2 38,
 qM 40 11,
 sO 41 (.call false 138 [.t 39,.t 40]),
 qM 35 41,
 qE 42 35 0,
 qE 43 35 1,
 qM 12 42,
 qM 13 43]
def aMU:SC:=.seq (.seq (.reg [qM 20 9,qM 21 8,qP 22 .sub 20 21,qC 23 .gtr 22 1]) (.cond (.t 23) (.skip) (.exit 0))) (.block 1 (.seq (.reg [qM 24 1,qM 25 8,qM 26 9,sO 27 (.callv false (.t 24) [.t 25,.t 26]),qM 10 27]) (.seq (.reg [ql 28 2,qM 29 10,sO 30 (.call false 191 [.t 28,.t 29]),qM 11 30]) (.seq (.seq (.reg [qM 31 11,qN 32 31,qC 33 .gtr 32 1024]) (.cond (.t 33) (.seq (.reg [sO 34 (.build [.nilsl,.int .i64 0,.nilsl] []),sN (.store 3 (.t 4) (.t 34)),sO 5 (.mv (.c (.nilsl))),qI 6 3]) (.ret)) (.skip))) (.seq (.seq (.reg aNh) (.seq (.reg [qM 44 13,sO 45 (.un .not (.t 44))]) (.cond (.t 45) (.seq (.reg [sO 46 (.build [.nilsl,.int .i64 0,.nilsl] []),qM 47 11,sN (.store 3 (.t 4) (.t 46)),qM 5 47,qI 6 0]) (.ret)) (.skip)))) (.seq (.reg [qM 48 7,qM 49 10,sO 50 (.callv false (.t 48) [.t 49])]) (.cond (.t 50) (.reg [qM 51 10,qM 8 51]) (.reg [qM 52 10,qM 9 52]))))))))
def aKG:List SO:=[
 ql 53 2,
 qM 54 8,
 sO 55 (.call false 192 [.t 53,.t 54]),
 qE 56 55 0,
 qE 57 55 1,
 qE 58 55 2,
 sN (.store 3 (.t 4) (.t 56)),
 qM 5 57,
 qM 6 58]
def aQJ:SF:=⟨59,[.cell 4 true 3,.tmp 5,.tmp 6],.seq (.reg [sO 2 (.box 230 1 (.t 0)),sO 4 (.alloc 179 [.nilsl,.int .i64 0,.nilsl]),sO 5 (.mv (.c (.nilsl))),qI 6 0]) (.seq (.reg [sO 14 (.mkf 189 [.t 2]),qM 7 14]) (.seq (.reg aNS) (.seq (.block 0 (.loop aMU)) (.seq (.reg aKG) (.ret)))))⟩
theorem aKW:aM Tryz.prog ⟨[39,75,135,136,137,155,161,186,188,194,195,196,211,212,213,226,230,233,238],[],[],[]⟩ Tryz.f141=some aQJ:=by kernel_rfl
def aQe:SF:=⟨9,[.tmp 4],.seq (.reg [qI 4 0]) (.seq (.reg [qM 5 0,qM 6 1,qP 7 .add 5 6,qC 8 .quo 7 2,qM 4 8]) (.ret))⟩
theorem aLa:aM Tryz.prog ⟨[39,75,135,136,137,155,161,186,188,194,195,196,211,212,213,226,230,233,238],[],[],[]⟩ Tryz.f142=some aQe:=by kernel_rfl
def aOA:List SO:=[
 qF 12 0 3,
 ql 13 12,
 qF 14 0 2,
 qF 15 0 14,
 ql 16 15,
 sO 17 (.call false 74 [.t 13,.t 16]),
 qM 6 17]
def aOV:List SO:=[
 qF 21 1 3,
 ql 22 21,
 qC 23 .lss 22 0,
 qM 24 23,
 ⟨some (24,false),some 25,.fld 1 (.t 3)⟩,
 ⟨some (24,false),some 26,.load false 1 (.t 25)⟩,
 ⟨some (24,false),some 27,.fld 0 (.t 2)⟩,
 ⟨some (24,false),some 28,.fld 0 (.t 27)⟩,
 ⟨some (24,false),some 29,.load false 1 (.t 28)⟩,
 ⟨some (24,false),some 30,.bin .geq (.t 26) (.t 29)⟩,
 sO 31 (.pick (.t 24) (.c (.bool true)) (.t 30))]
def aJ5:List SO:=[
 qF 36 2 3,
 ql 37 36,
 qF 38 0 2,
 qF 39 0 38,
 ql 40 39,
 sO 41 (.call false 74 [.t 37,.t 40]),
 qM 4 41]
def aOH:SF:=⟨42,[.tmp 4],.seq (.reg [sO 2 (.box 105 4 (.t 0)),sO 3 (.box 179 3 (.t 1)),qI 4 0]) (.seq (.seq (.reg [qL 7 4 2,sO 8 (.call false 84 [.t 7]),qM 5 8]) (.seq (.reg [qM 9 5,qC 10 .neq 9 0]) (.cond (.t 10) (.seq (.reg [qM 11 5,qM 4 11]) (.ret)) (.skip)))) (.seq (.seq (.reg aOA) (.seq (.reg [qM 18 6,qC 19 .neq 18 0]) (.cond (.t 19) (.seq (.reg [qM 20 6,qM 4 20]) (.ret)) (.skip)))) (.seq (.seq (.reg aOV) (.cond (.t 31) (.seq (.reg [qI 4 2]) (.ret)) (.skip))) (.seq (.seq (.reg [qF 32 2 3,ql 33 32,qN 34 33,qC 35 .eql 34 0]) (.cond (.t 35) (.seq (.reg [qI 4 19]) (.ret)) (.skip))) (.seq (.reg aJ5) (.ret))))))⟩
theorem aJL:aM Tryz.prog ⟨[39,75,135,136,137,155,161,186,188,194,195,196,211,212,213,226,230,233,238],[],[],[]⟩ Tryz.f143=some aOH:=by kernel_rfl
def aPT:List SO:=[
 qL 25 1 6,
 qM 26 1,
 qM 27 2,
 qM 28 3,
 qM 29 4,
 qM 30 5,
 sO 31 (.call false 193 [.t 25,.t 26,.t 27,.t 28,.t 29,.t 30]),
 qM 15 31]
def aRl:List SO:=[
 qF 38 0 16,
 ql 39 38,
 qM 40 1,
 qA 41 5 39 40,
 qL 42 5 41,
 sO 17 (.alloc 166 [.bool false,.nilsl,.nilsl,.nilsl,.nilsl]),
 sN (.store 5 (.t 17) (.t 42))]
def aQa:List SO:=[
 qM 43 2,
 sO 44 (.bslice 25 1 false [.nilsl] 1 [(0,.t 43)]),
 sO 45 (.call false 98 [.t 44]),
 qM 46 3,
 sO 47 (.bslice 25 1 false [.nilsl] 1 [(0,.t 46)]),
 sO 48 (.call false 98 [.t 47]),
 qM 49 5,
 sO 50 (.bslice 25 1 false [.nilsl] 1 [(0,.t 49)]),
 sO 51 (.call false 98 [.t 50]),
 qF 53 0 6,
 ql 54 53,
 qN 55 54,
 qF 56 0 6,
 ql 57 56,
 qN 58 57,
 qC 59 .add 58 1,
 sO 52 (.bslice 25 1 true [.nilsl] 2 [(0,.t 48),(1,.t 51)]),
 sO 60 (.bslice 3 1 true [.int .i64 0] 2 [(0,.t 55),(1,.t 59)]),
 sO 61 (.build [.bool false,.nilsl,.nilsl,.nilsl,.nilsl] [(2,1,.t 45),(3,1,.t 52),(4,1,.t 60)]),
 sO 18 (.alloc 166 [.bool false,.nilsl,.nilsl,.nilsl,.nilsl]),
 sN (.store 5 (.t 18) (.t 61))]
def aKT:List SO:=[
 qF 77 0 16,
 ql 78 77,
 qL 79 5 17,
 qM 80 4,
 sO 81 (.bslice 25 1 false [.nilsl] 1 [(0,.t 80)]),
 sO 82 (.call false 98 [.t 81]),
 sO 83 (.build [.bool false,.nilsl,.nilsl,.nilsl,.nilsl] [(0,1,.c (.bool true)),(1,1,.t 82)]),
 sO 84 (.bslice 166 5 false [.bool false,.nilsl,.nilsl,.nilsl,.nilsl] 2 [(0,.t 79),(1,.t 83)]),
 sO 85 (.append 166 5 104 (.t 78) (.t 84)),
 qF 86 0 16,
 sN (.store 1 (.t 86) (.t 85))]
def aOX:SF:=⟨88,[.cell 12 true 1,.tmp 13],.seq (.reg [sO 6 (.box 99 1 (.t 0)),sO 12 (.alloc 99 [.nilsl]),qI 13 0]) (.seq (.seq (.reg [qL 19 1 6,sO 20 (.call false 125 [.t 19]),qM 14 20]) (.seq (.reg [qM 21 14,qC 22 .neq 21 0]) (.cond (.t 22) (.seq (.reg [qL 23 1 6,qM 24 14,sN (.store 1 (.t 12) (.t 23)),qM 13 24]) (.ret)) (.skip)))) (.seq (.seq (.reg aPT) (.seq (.reg [qM 32 15,qC 33 .neq 32 0]) (.cond (.t 33) (.seq (.reg [qL 34 1 6,qM 35 15,sN (.store 1 (.t 12) (.t 34)),qM 13 35]) (.ret)) (.skip)))) (.seq (.reg [qL 36 1 6,sO 37 (.call true 135 [.t 36]),sO 16 (.alloc 99 [.nilsl]),sN (.store 1 (.t 16) (.t 37))]) (.seq (.reg aRl) (.seq (.dreg [52,60,18] aQa) (.seq (.seq (.reg [qM 62 3,qM 63 5,sO 64 (.call false 174 [.t 62,.t 63]),qC 65 .gtr 64 0]) (.cond (.t 65) (.seq (.reg [qF 66 3 18,ql 67 66,sO 68 (.call true 194 [.t 67])]) (.reg [qF 69 4 18,ql 70 69,sO 71 (.call true 195 [.t 70])])) (.skip))) (.seq (.reg [qF 72 0 16,ql 73 72,qM 74 1,qL 75 5 18,qA 76 5 73 74,sN (.store 5 (.t 76) (.t 75))]) (.seq (.reg aKT) (.seq (.reg [qL 87 1 16,sN (.store 1 (.t 12) (.t 87)),qI 13 0]) (.ret))))))))))⟩
theorem aKb:aM Tryz.prog ⟨[39,75,135,136,137,155,161,186,188,194,195,196,211,212,213,226,230,233,238],[52,60],[],[]⟩ Tryz.f144=some aOX:=by kernel_rfl
def aMV:SC:=.seq (.reg [qP 12 .lss 11 10]) (.seq (.cond (.t 12) (.skip) (.exit 0)) (.seq (.block 1 (.seq (.reg [qA 13 1 9 11,ql 14 13,qM 5 14]) (.seq (.reg [qM 15 3,qM 16 5,qN 17 16,qP 18 .add 15 17,qM 3 18]) (.seq (.reg [qM 19 3,qC 20 .lss 19 0]) (.cond (.t 20) (.seq (.reg [sO 21 (.bad)]) (.seq (.pop none (.raise (.t 21))) (.reg []))) (.skip)))))) (.reg [qC 22 .add 11 1,qM 11 22])))
def aOr:SC:=.seq (.reg [qP 28 .lss 27 26]) (.seq (.cond (.t 28) (.skip) (.exit 2)) (.seq (.block 3 (.seq (.reg [qA 29 1 25 27,ql 30 29,qM 8 30]) (.reg [qM 31 6,qM 32 8,sO 33 (.append 3 1 8 (.t 31) (.t 32)),qM 6 33]))) (.reg [qC 34 .add 27 1,qM 27 34])))
def aP3:SF:=⟨36,[.tmp 2],.seq (.reg [sO 2 (.mv (.c (.nilsl)))]) (.seq (.reg [qI 3 0]) (.seq (.seq (.reg [qM 9 0,qN 10 9,qI 11 0]) (.block 0 (.loop aMV))) (.seq (.reg [qM 23 3,sO 24 (.call true 196 [.c (.nilsl),.t 23]),qM 6 24]) (.seq (.seq (.reg [qM 25 0,qN 26 25,qI 27 0]) (.block 2 (.loop aOr))) (.seq (.reg [qM 35 6,qM 2 35]) (.ret))))))⟩
theorem aKf:aM Tryz.prog ⟨[39,75,135,136,137,155,161,186,188,194,195,196,211,212,213,226,230,233,238],[],[],[]⟩ Tryz.f145=some aP3:=by kernel_rfl
def aIw:SC:=.seq (.reg [qP 9 .lss 8 7]) (.seq (.cond (.t 9) (.skip) (.exit 0)) (.seq (.block 1 (.seq (.reg [qM 10 8,qM 5 10]) (.seq (.reg [qM 11 1,qM 12 0,qM 13 5,qA 14 1 12 13,ql 15 14,sO 16 (.callv false (.t 11) [.t 15])]) (.cond (.t 16) (.seq (.reg [qM 17 5,qM 4 17]) (.ret)) (.skip))))) (.reg [qC 18 .add 8 1,qM 8 18])))
def aG2:SF:=⟨19,[.tmp 4],.seq (.reg [qI 4 0]) (.seq (.seq (.reg [qM 6 0,qN 7 6,qI 8 0]) (.block 0 (.loop aIw))) (.seq (.reg [sO 4 (.mv (.c (.int .i64 (-1))))]) (.ret)))⟩
theorem aEg:aM Tryz.prog ⟨[39,75,135,136,137,155,161,186,188,194,195,196,211,212,213,226,230,233,238],[],[],[]⟩ Tryz.f168=some aG2:=by kernel_rfl
def aLe:List SO:=[
 qM 27 10,
 qF 28 3 2,
 ql 29 28,
 qM 30 8,
 qA 31 1 29 30,
 ql 32 31,
 qM 33 10,
 qA 34 1 32 33,
 ql 35 34,
 sO 36 (.apos 1 128 (.t 9) (.t 27)),
 sN (.store 1 (.t 36) (.t 35))]
def aJ9:List SO:=[
 qM 37 10,
 sO 38 (.bin .add (.c (.int .i64 64)) (.t 37)),
 qM 39 1,
 qF 40 2 2,
 ql 41 40,
 qM 42 8,
 qA 43 1 41 42,
 ql 44 43,
 qM 45 10,
 qA 46 1 44 45,
 ql 47 46,
 qA 48 1 39 47,
 ql 49 48,
 sO 50 (.apos 1 128 (.t 9) (.t 38)),
 sN (.store 1 (.t 50) (.t 49))]
def aGY:SC:=.seq (.reg [qP 25 .lss 24 23]) (.seq (.cond (.t 25) (.skip) (.exit 2)) (.seq (.block 3 (.seq (.reg [qM 26 24,qM 10 26]) (.seq (.reg aLe) (.reg aJ9)))) (.reg [qC 51 .add 24 1,qM 24 51])))
def aIM:List SO:=[
 qM 53 6,
 qL 54 128 9,
 sO 55 (.mlook 38597363079105398474523661669562635951089994888546854679819194669304376546648 true (.int .i64 0) (.t 53) (.t 54)),
 qM 52 55,
 qE 56 52 0,
 qE 57 52 1,
 qM 11 56,
 qM 12 57]
def aGC:SC:=.seq (.reg [qP 20 .lss 19 18]) (.seq (.cond (.t 20) (.skip) (.exit 0)) (.seq (.block 1 (.seq (.reg [qM 21 19,qM 8 21]) (.seq (.reg [sO 9 (.alloc 289 [.int .i64 0,.int .i64 0,.int .i64 0,.int .i64 0,.int .i64 0,.int .i64 0,.int .i64 0,.int .i64 0,.int .i64 0,.int .i64 0,.int .i64 0,.int .i64 0,.int .i64 0,.int .i64 0,.int .i64 0,.int .i64 0,.int .i64 0,.int .i64 0,.int .i64 0,.int .i64 0,.int .i64 0,.int .i64 0,.int .i64 0,.int .i64 0,.int .i64 0,.int .i64 0,.int .i64 0,.int .i64 0,.int .i64 0,.int .i64 0,.int .i64 0,.int .i64 0,.int .i64 0,.int .i64 0,.int .i64 0,.int .i64 0,.int .i64 0,.int .i64 0,.int .i64 0,.int .i64 0,.int .i64 0,.int .i64 0,.int .i64 0,.int .i64 0,.int .i64 0,.int .i64 0,.int .i64 0,.int .i64 0,.int .i64 0,.int .i64 0,.int .i64 0,.int .i64 0,.int .i64 0,.int .i64 0,.int .i64 0,.int .i64 0,.int .i64 0,.int .i64 0,.int .i64 0,.int .i64 0,.int .i64 0,.int .i64 0,.int .i64 0,.int .i64 0,.int .i64 0,.int .i64 0,.int .i64 0,.int .i64 0,.int .i64 0,.int .i64 0,.int .i64 0,.int .i64 0,.int .i64 0,.int .i64 0,.int .i64 0,.int .i64 0,.int .i64 0,.int .i64 0,.int .i64 0,.int .i64 0,.int .i64 0,.int .i64 0,.int .i64 0,.int .i64 0,.int .i64 0,.int .i64 0,.int .i64 0,.int .i64 0,.int .i64 0,.int .i64 0,.int .i64 0,.int .i64 0,.int .i64 0,.int .i64 0,.int .i64 0,.int .i64 0,.int .i64 0,.int .i64 0,.int .i64 0,.int .i64 0,.int .i64 0,.int .i64 0,.int .i64 0,.int .i64 0,.int .i64 0,.int .i64 0,.int .i64 0,.int .i64 0,.int .i64 0,.int .i64 0,.int .i64 0,.int .i64 0,.int .i64 0,.int .i64 0,.int .i64 0,.int .i64 0,.int .i64 0,.int .i64 0,.int .i64 0,.int .i64 0,.int .i64 0,.int .i64 0,.int .i64 0,.int .i64 0,.int .i64 0,.int .i64 0,.int .i64 0,.int .i64 0])]) (.seq (.seq (.reg [qF 22 0 2,ql 23 22,qI 24 0]) (.block 2 (.loop aGY))) (.seq (.reg aIM) (.seq (.seq (.reg [qM 58 12,sO 59 (.un .not (.t 58))]) (.cond (.t 59) (.seq (.reg [qM 60 6,sO 61 (.mlen (.t 60)),qM 11 61]) (.reg [qM 62 6,qL 63 128 9,qM 64 11,sN (.mset 38597363079105398474523661669562635951089994888546854679819194669304376546648 (.t 62) (.t 63) (.t 64))])) (.skip))) (.reg [qM 65 7,qM 66 8,qM 67 11,qA 68 1 65 66,sN (.store 1 (.t 68) (.t 67))]))))))) (.reg [qC 69 .add 19 1,qM 19 69])))
def aJv:SF:=⟨73,[.tmp 4,.tmp 5],.seq (.reg [sO 2 (.box 24 4 (.t 0)),sO 4 (.mv (.c (.nilsl))),qI 5 0]) (.seq (.reg [sO 13 (.mkmap),qM 6 13]) (.seq (.reg [qM 14 1,qN 15 14,sO 16 (.mks 3 1 8 [.int .i64 0] (.t 15) (.t 15)),qM 7 16]) (.seq (.seq (.reg [qM 17 1,qN 18 17,qI 19 0]) (.block 0 (.loop aGC))) (.seq (.reg [qM 70 7,qM 71 6,sO 72 (.mlen (.t 71)),qM 4 70,qM 5 72]) (.ret)))))⟩
theorem aEP:aM Tryz.prog ⟨[39,75,135,136,137,155,161,186,188,194,195,196,211,212,213,226,230,233,238],[],[],[]⟩ Tryz.f169=some aJv:=by kernel_rfl
def aPS:List SO:=[
 qF 3 2 1,
 ql 4 3,
 qN 5 4,
 qF 6 3 1,
 ql 7 6,
 qN 8 7,
 qP 9 .add 5 8,
 qF 10 4 1,
 ql 11 10,
 qN 12 11,
 qP 13 .add 9 12,
 qC 14 .gtr 13 0]
def aQb:SF:=⟨18,[.tmp 2],.seq (.reg [sO 1 (.box 166 5 (.t 0)),qI 2 0]) (.seq (.seq (.reg aPS) (.cond (.t 14) (.seq (.reg [qI 2 1]) (.ret)) (.skip))) (.seq (.reg [qF 15 1 1,ql 16 15,sO 17 (.call false 74 [.t 16,.c (.int .i64 64)]),qM 2 17]) (.ret)))⟩
theorem aIP:aM Tryz.prog ⟨[39,75,135,136,137,155,161,186,188,194,195,196,211,212,213,226,230,233,238],[],[],[]⟩ Tryz.f170=some aQb:=by kernel_rfl
def aOy:List SO:=[
 qF 25 3 2,
 ql 26 25,
 qN 27 26,
 qF 28 4 2,
 ql 29 28,
 qN 30 29,
 qP 31 .neq 27 30]
def aKa:List SO:=[
 qM 47 6,
 qC 48 .gtr 47 0,
 qM 49 48,
 ⟨some (49,true),some 50,.fld 3 (.t 2)⟩,
 ⟨some (49,true),some 51,.load false 1 (.t 50)⟩,
 ⟨some (49,true),some 52,.mv (.t 6)⟩,
 ⟨some (49,true),some 53,.bin .sub (.t 52) (.c (.int .i64 1))⟩,
 ⟨some (49,true),some 54,.idx 1 (.t 51) (.t 53)⟩,
 ⟨some (49,true),some 55,.load false 1 (.t 54)⟩,
 ⟨some (49,true),some 56,.mv (.t 7)⟩,
 ⟨some (49,true),some 57,.call false 174 [.t 55,.t 56]⟩,
 ⟨some (49,true),some 58,.bin .geq (.t 57) (.c (.int .i64 0))⟩,
 sO 59 (.pick (.t 49) (.t 58) (.c (.bool false)))]
def aJH:List SO:=[
 qF 60 4 2,
 ql 61 60,
 qM 62 6,
 qA 63 1 61 62,
 ql 64 63,
 qC 65 .lss 64 0,
 qM 66 65,
 ⟨some (66,false),some 67,.fld 4 (.t 2)⟩,
 ⟨some (66,false),some 68,.load false 1 (.t 67)⟩,
 ⟨some (66,false),some 69,.mv (.t 6)⟩,
 ⟨some (66,false),some 70,.idx 1 (.t 68) (.t 69)⟩,
 ⟨some (66,false),some 71,.load false 1 (.t 70)⟩,
 ⟨some (66,false),some 72,.mv (.t 1)⟩,
 ⟨some (66,false),some 73,.bin .geq (.t 71) (.t 72)⟩,
 sO 74 (.pick (.t 66) (.c (.bool true)) (.t 73))]
def aRo:SC:=.seq (.reg [qP 36 .lss 35 34]) (.seq (.cond (.t 36) (.skip) (.exit 1)) (.seq (.block 2 (.seq (.reg [qM 37 35,qA 38 1 33 35,ql 39 38,qM 6 37,qM 7 39]) (.seq (.seq (.reg [qM 40 7,qF 41 2 2,ql 42 41,sO 43 (.call false 132 [.t 40,.t 42]),qM 8 43]) (.seq (.reg [qM 44 8,qC 45 .neq 44 0]) (.cond (.t 45) (.seq (.reg [qM 46 8,qM 4 46]) (.ret)) (.skip)))) (.seq (.seq (.reg aKa) (.cond (.t 59) (.seq (.reg [qI 4 10]) (.ret)) (.skip))) (.seq (.reg aJH) (.cond (.t 74) (.seq (.reg [qI 4 2]) (.ret)) (.skip))))))) (.reg [qC 75 .add 35 1,qM 35 75])))
def aQB:SF:=⟨76,[.tmp 4],.seq (.reg [sO 2 (.box 166 5 (.t 0)),qI 4 0]) (.seq (.block 0 (.seq (.reg [qF 10 1 2,ql 11 10,qN 12 11,qC 13 .gtr 12 0,qM 9 13]) (.cond (.t 9) (.seq (.reg [qI 4 1]) (.ret)) (.seq (.reg [qF 15 2 2,ql 16 15,qN 17 16,qC 18 .eql 17 0,qM 14 18]) (.cond (.t 14) (.seq (.reg [qI 4 19]) (.ret)) (.skip)))))) (.seq (.seq (.reg [qF 19 2 2,ql 20 19,sO 21 (.call false 74 [.t 20,.c (.int .i64 64)]),qM 5 21]) (.seq (.reg [qM 22 5,qC 23 .neq 22 0]) (.cond (.t 23) (.seq (.reg [qM 24 5,qM 4 24]) (.ret)) (.skip)))) (.seq (.seq (.reg aOy) (.cond (.t 31) (.seq (.reg [qI 4 1]) (.ret)) (.skip))) (.seq (.seq (.reg [qF 32 3 2,ql 33 32,qN 34 33,qI 35 0]) (.block 1 (.loop aRo))) (.seq (.reg [qI 4 0]) (.ret))))))⟩
theorem aJl:aM Tryz.prog ⟨[39,75,135,136,137,155,161,186,188,194,195,196,211,212,213,226,230,233,238],[],[],[]⟩ Tryz.f171=some aQB:=by kernel_rfl
def aLj:List SO:=[
 qM 29 4,
 qF 30 0 1,
 ql 31 30,
 qM 32 6,
 qA 33 5 31 32,
 qF 34 4 33,
 ql 35 34,
 sO 36 (.append 3 1 8 (.t 29) (.t 35)),
 qM 4 36]
def aQI:SC:=.seq (.seq (.reg [qM 12 5,qM 13 4,qN 14 13,qP 15 .lss 12 14]) (.cond (.t 15) (.skip) (.exit 0))) (.seq (.block 1 (.seq (.reg [qM 18 4,qM 19 5,qA 20 1 18 19,ql 21 20,qM 6 21]) (.seq (.seq (.reg [qM 22 3,qM 23 6,qA 24 1 22 23,ql 25 24]) (.cond (.t 25) (.seq (.reg [sO 2 (.mv (.c (.bool false)))]) (.ret)) (.skip))) (.seq (.reg [qM 26 3,qM 27 6,qA 28 1 26 27,sN (.store 1 (.t 28) (.c (.bool true)))]) (.seq (.reg aLj) (.seq (.reg [qM 37 4,qN 38 37,qF 39 0 1,ql 40 39,qN 41 40,qP 42 .gtr 38 41]) (.cond (.t 42) (.seq (.reg [sO 2 (.mv (.c (.bool false)))]) (.ret)) (.skip)))))))) (.reg [qM 16 5,qC 17 .add 16 1,qM 5 17]))
def aLy:List SO:=[
 qM 43 4,
 qN 44 43,
 qF 45 0 1,
 ql 46 45,
 qN 47 46,
 qP 48 .eql 44 47,
 qM 2 48]
def aQM:SF:=⟨49,[.tmp 2],.seq (.reg [sO 1 (.box 99 1 (.t 0)),sO 2 (.mv (.c (.bool false)))]) (.seq (.reg [qF 7 0 1,ql 8 7,qN 9 8,sO 10 (.mks 4 1 1 [.bool false] (.t 9) (.t 9)),qM 3 10]) (.seq (.reg [sO 11 (.bslice 3 1 true [.int .i64 0] 1 [(0,.c (.int .i64 0))]),qM 4 11]) (.seq (.seq (.reg [qI 5 0]) (.block 0 (.loop aQI))) (.seq (.reg aLy) (.ret)))))⟩
theorem aJG:aM Tryz.prog ⟨[39,75,135,136,137,155,161,186,188,194,195,196,211,212,213,226,230,233,238],[11],[],[]⟩ Tryz.f172=some aQM:=by kernel_rfl
def aOc:List SO:=[
 qM 3 0,
 qC 4 .lss 3 0,
 qM 5 4,
 ⟨some (5,false),some 6,.mv (.t 0)⟩,
 ⟨some (5,false),some 7,.bin .gtr (.t 6) (.c (.int .i64 1048576))⟩,
 sO 8 (.pick (.t 5) (.c (.bool true)) (.t 7)),
 qM 2 8]
def aO8:SF:=⟨9,[.tmp 2],.seq (.reg [sO 2 (.mv (.c (.bool false)))]) (.seq (.reg aOc) (.ret))⟩
theorem aJB:aM Tryz.prog ⟨[39,75,135,136,137,155,161,186,188,194,195,196,211,212,213,226,230,233,238],[],[],[]⟩ Tryz.f177=some aO8:=by kernel_rfl
def aQO:List SO:=[
 qM 18 9,
 qM 19 10,
 qP 20 .add 18 19,
 sO 21 (.conv .u64 (.t 20)),
 sO 22 (.bin .shr (.t 21) (.c (.int .u64 1))),
 sO 23 (.conv .i64 (.t 22)),
 qM 11 23]
def aQt:List SO:=[
 qM 24 2,
 qM 25 0,
 qM 26 11,
 qA 27 1 25 26,
 ql 28 27,
 qM 29 1,
 sO 30 (.callv false (.t 24) [.t 28,.t 29]),
 qC 31 .lss 30 0]
def aNV:SC:=.seq (.seq (.reg [qM 15 9,qM 16 10,qP 17 .lss 15 16]) (.cond (.t 17) (.skip) (.exit 0))) (.block 1 (.seq (.reg aQO) (.seq (.reg aQt) (.cond (.t 31) (.reg [qM 32 11,qC 33 .add 32 1,qM 9 33]) (.reg [qM 34 11,qM 10 34])))))
def aOK:List SO:=[
 qM 35 9,
 qM 36 9,
 qM 37 8,
 qP 38 .lss 36 37,
 qM 39 38,
 ⟨some (39,true),some 40,.mv (.t 2)⟩,
 ⟨some (39,true),some 41,.mv (.t 0)⟩,
 ⟨some (39,true),some 42,.mv (.t 9)⟩,
 ⟨some (39,true),some 43,.idx 1 (.t 41) (.t 42)⟩,
 ⟨some (39,true),some 44,.load false 1 (.t 43)⟩,
 ⟨some (39,true),some 45,.mv (.t 1)⟩,
 ⟨some (39,true),some 46,.callv false (.t 40) [.t 44,.t 45]⟩,
 ⟨some (39,true),some 47,.bin .eql (.t 46) (.c (.int .i64 0))⟩,
 sO 48 (.pick (.t 39) (.t 47) (.c (.bool false))),
 qM 6 35,
 qM 7 48]
def aMR:SF:=⟨49,[.tmp 6,.tmp 7],.seq (.reg [qI 6 0,sO 7 (.mv (.c (.bool false)))]) (.seq (.reg [qM 12 0,qN 13 12,qM 8 13]) (.seq (.reg [qM 14 8,qI 9 0,qM 10 14]) (.seq (.block 0 (.loop aNV)) (.seq (.reg aOK) (.ret)))))⟩
theorem aKA:aM Tryz.prog ⟨[39,75,135,136,137,155,161,186,188,194,195,196,211,212,213,226,230,233,238],[],[],[]⟩ Tryz.f178=some aMR:=by kernel_rfl
def aPQ:SF:=⟨8,[.tmp 4],.seq (.reg [sO 3 (.box 25 1 (.t 1)),sO 4 (.mv (.c (.bool false)))]) (.seq (.reg [qM 5 0,sO 6 (.mkf 220 [.t 3]),sO 7 (.call false 219 [.t 5,.t 6]),qM 4 7]) (.ret))⟩
theorem aJk:aM Tryz.prog ⟨[39,75,135,136,137,155,161,186,188,194,195,196,211,212,213,226,230,233,238],[],[],[]⟩ Tryz.f179=some aPQ:=by kernel_rfl
def aMO:SC:=.seq (.reg [qP 9 .lss 8 7]) (.seq (.cond (.t 9) (.skip) (.exit 0)) (.seq (.block 1 (.seq (.reg [qM 10 8,qM 5 10]) (.seq (.reg [qM 11 1,qM 12 0,qM 13 5,qA 14 2 12 13,qL 15 2 14,sO 16 (.callv false (.t 11) [.t 15])]) (.cond (.t 16) (.seq (.reg [qM 17 5,qM 4 17]) (.ret)) (.skip))))) (.reg [qC 18 .add 8 1,qM 8 18])))
def aN6:SF:=⟨19,[.tmp 4],.seq (.reg [qI 4 0]) (.seq (.seq (.reg [qM 6 0,qN 7 6,qI 8 0]) (.block 0 (.loop aMO))) (.seq (.reg [sO 4 (.mv (.c (.int .i64 (-1))))]) (.ret)))⟩
theorem aK8:aM Tryz.prog ⟨[39,75,135,136,137,155,161,186,188,194,195,196,211,212,213,226,230,233,238],[],[],[]⟩ Tryz.f184=some aN6:=by kernel_rfl
def aQ5:SF:=⟨8,[.tmp 3],.seq (.reg [sO 2 (.box 169 2 (.t 0)),sO 3 (.mv (.c (.bool false)))]) (.seq (.reg [qF 4 0 2,ql 5 4,ql 6 1,sO 7 (.call false 175 [.t 5,.t 6]),qM 3 7]) (.ret))⟩
theorem aJV:aM Tryz.prog ⟨[39,75,135,136,137,155,161,186,188,194,195,196,211,212,213,226,230,233,238],[],[],[]⟩ Tryz.f185=some aQ5:=by kernel_rfl
def aQZ:SC:=.seq (.reg [qP 13 .lss 12 11]) (.seq (.cond (.t 13) (.skip) (.exit 0)) (.seq (.block 1 (.seq (.reg [qA 14 2 10 12,qL 15 2 14,sO 5 (.alloc 169 [.nilsl,.nilsl]),sN (.store 2 (.t 5) (.t 15))]) (.reg [qM 16 3,qL 17 2 5,sO 18 (.call false 223 [.t 17]),sO 19 (.bslice 169 2 false [.nilsl,.nilsl] 1 [(0,.t 18)]),sO 20 (.append 169 2 48 (.t 16) (.t 19)),qM 3 20]))) (.reg [qC 21 .add 12 1,qM 12 21])))
def aNW:SF:=⟨23,[.tmp 2],.seq (.reg [sO 2 (.mv (.c (.nilsl)))]) (.seq (.reg [qM 6 0,qN 7 6,qC 8 .add 7 1,sO 9 (.mks 169 2 48 [.nilsl,.nilsl] (.c (.int .i64 0)) (.t 8)),qM 3 9]) (.seq (.seq (.reg [qM 10 0,qN 11 10,qI 12 0]) (.block 0 (.loop aQZ))) (.seq (.reg [qM 22 3,qM 2 22]) (.ret))))⟩
theorem aKu:aM Tryz.prog ⟨[39,75,135,136,137,155,161,186,188,194,195,196,211,212,213,226,230,233,238],[],[],[]⟩ Tryz.f186=some aNW:=by kernel_rfl
def aPc:List SO:=[
 qF 14 1 2,
 ql 15 14,
 qN 16 15,
 qF 17 0 2,
 ql 18 17,
 qN 19 18,
 qP 20 .neq 16 19,
 qM 13 20]
def aPM:SF:=⟨25,[.tmp 4],.seq (.reg [sO 2 (.box 169 2 (.t 0)),qI 4 0]) (.seq (.seq (.reg [qF 6 0 2,ql 7 6,qM 8 1,sO 9 (.call false 74 [.t 7,.t 8]),qM 5 9]) (.seq (.reg [qM 10 5,qC 11 .neq 10 0]) (.cond (.t 11) (.seq (.reg [qM 12 5,qM 4 12]) (.ret)) (.skip)))) (.seq (.block 0 (.seq (.reg aPc) (.cond (.t 13) (.seq (.reg [qI 4 1]) (.ret)) (.seq (.reg [qF 22 1 2,ql 23 22,sO 24 (.call false 120 [.t 23,.c (.fn 224 [] [])]),qM 21 24]) (.cond (.t 21) (.seq (.reg [qI 4 2]) (.ret)) (.skip)))))) (.seq (.reg [qI 4 0]) (.ret))))⟩
theorem aKl:aM Tryz.prog ⟨[39,75,135,136,137,155,161,186,188,194,195,196,211,212,213,226,230,233,238],[],[],[]⟩ Tryz.f187=some aPM:=by kernel_rfl
def aQL:List SO:=[
 qM 21 6,
 qM 22 21,
 ⟨some (22,false),some 23,.fld 0 (.t 8)⟩,
 ⟨some (22,false),some 24,.load false 1 (.t 23)⟩,
 ⟨some (22,false),some 25,.fld 0 (.t 3)⟩,
 ⟨some (22,false),some 26,.load false 1 (.t 25)⟩,
 ⟨some (22,false),some 27,.call false 175 [.t 24,.t 26]⟩,
 sO 28 (.pick (.t 22) (.c (.bool true)) (.t 27)),
 qM 6 28]
def aNn:SC:=.seq (.reg [qP 14 .lss 13 12]) (.seq (.cond (.t 14) (.skip) (.exit 0)) (.seq (.block 1 (.seq (.reg [qA 15 2 11 13,qL 16 2 15,sO 8 (.alloc 169 [.nilsl,.nilsl]),sN (.store 2 (.t 8) (.t 16))]) (.seq (.seq (.reg [qL 17 2 8,qL 18 2 3,sO 19 (.call false 225 [.t 17,.t 18]),qC 20 .geq 19 0]) (.cond (.t 20) (.seq (.reg [sO 4 (.mv (.c (.nilsl))),qI 5 13]) (.ret)) (.skip))) (.reg aQL)))) (.reg [qC 29 .add 13 1,qM 13 29])))
def aPd:List SO:=[
 qM 30 6,
 qM 31 30,
 ⟨some (31,false),some 32,.fld 0 (.t 3)⟩,
 ⟨some (31,false),some 33,.load false 1 (.t 32)⟩,
 ⟨some (31,false),some 34,.len (.t 33)⟩,
 ⟨some (31,false),some 35,.bin .eql (.t 34) (.c (.int .i64 0))⟩,
 sO 36 (.pick (.t 31) (.c (.bool true)) (.t 35))]
def aKx:List SO:=[
 qM 45 0,
 qL 46 2 3,
 sO 47 (.call false 228 [.t 45,.t 46,.c (.fn 229 [] [])]),
 qM 44 47,
 qE 48 44 0,
 qE 49 44 1,
 qM 9 48,
 qM 10 49]
def aJK:List SO:=[
 qM 50 0,
 qM 51 9,
 qL 52 2 3,
 sO 53 (.call false 223 [.t 52]),
 sO 54 (.bslice 169 2 true [.nilsl,.nilsl] 1 [(0,.t 53)]),
 sO 55 (.call true 230 [.t 50,.t 51,.t 54]),
 qM 4 55,
 qI 5 0]
def aNd:SF:=⟨56,[.tmp 4,.tmp 5],.seq (.reg [sO 3 (.box 169 2 (.t 1)),sO 4 (.mv (.c (.nilsl))),qI 5 0]) (.seq (.reg [sO 6 (.mv (.c (.bool false)))]) (.seq (.seq (.reg [qM 11 0,qN 12 11,qI 13 0]) (.block 0 (.loop aNn))) (.seq (.seq (.reg aPd) (.cond (.t 36) (.seq (.reg [qM 37 0,qM 4 37,qI 5 0]) (.ret)) (.skip))) (.seq (.reg [qM 38 0,sO 39 (.mkf 227 [.t 3]),sO 40 (.call true 226 [.t 38,.t 39]),qM 0 40]) (.seq (.seq (.reg [qM 41 0,qN 42 41,qC 43 .eql 42 10000]) (.cond (.t 43) (.seq (.reg [sO 4 (.mv (.c (.nilsl))),qI 5 11]) (.ret)) (.skip))) (.seq (.reg aKx) (.seq (.reg aJK) (.ret))))))))⟩
theorem aLq:aM Tryz.prog ⟨[39,75,135,136,137,155,161,186,188,194,195,196,211,212,213,226,230,233,238],[54],[],[]⟩ Tryz.f188=some aNd:=by kernel_rfl
def aN4:List SO:=[
 ql 4 1,
 qM 5 0,
 sO 6 (.call false 190 [.t 4,.t 5]),
 ql 7 1,
 sO 8 (.nilck (.t 7)),
 qF 9 9 8,
 ql 10 9,
 qM 11 0,
 sO 12 (.slice 1 (.t 10) (some (.t 11)) none),
 sO 13 (.call false 81 [.t 6,.t 12]),
 sO 14 (.un .not (.t 13)),
 qM 3 14]
def aPK:SF:=⟨15,[.tmp 3],.seq (.reg [sO 3 (.mv (.c (.bool false)))]) (.seq (.reg aN4) (.ret))⟩
theorem aLv:aM Tryz.prog ⟨[39,75,135,136,137,155,161,186,188,194,195,196,211,212,213,226,230,233,238],[],[],[]⟩ Tryz.f189=some aPK:=by kernel_rfl
def aRd:List SO:=[
 qM 8 0,
 sO 9 (.nilck (.t 8)),
 qF 10 5 9,
 qL 11 2 10,
 qM 12 0,
 qM 13 1,
 sO 14 (.call false 191 [.t 12,.t 13]),
 sO 15 (.call false 138 [.t 11,.t 14]),
 qM 7 15,
 qE 16 7 0,
 qE 17 7 1,
 qM 5 16,
 qM 6 17]
def aPy:List SO:=[
 qM 18 5,
 qM 19 5,
 qN 20 19,
 qM 21 0,
 sO 22 (.nilck (.t 21)),
 qF 23 7 22,
 ql 24 23,
 qN 25 24,
 qM 26 1,
 qP 27 .sub 25 26,
 qP 28 .sub 20 27,
 sO 29 (.slice 1 (.t 18) (some (.t 28)) none),
 qM 4 29]
def aOQ:SF:=⟨30,[.tmp 4],.seq (.reg [sO 4 (.mv (.c (.nilsl)))]) (.seq (.reg aRd) (.seq (.reg aPy) (.ret)))⟩
theorem aKV:aM Tryz.prog ⟨[39,75,135,136,137,155,161,186,188,194,195,196,211,212,213,226,230,233,238],[],[],[]⟩ Tryz.f190=some aOQ:=by kernel_rfl
def aQ1:List SO:=[
 qM 5 0,
 sO 6 (.nilck (.t 5)),
 qF 7 0 6,
 qF 8 4 7,
 ql 9 8,
 qM 10 0,
 sO 11 (.nilck (.t 10)),
 qF 12 8 11,
 ql 13 12,
 qM 14 1,
 qA 15 1 13 14,
 ql 16 15,
 qA 17 1 9 16,
 ql 18 17,
 qM 19 0,
 sO 20 (.nilck (.t 19)),
 qF 21 7 20,
 ql 22 21,
 qM 23 1,
 sO 24 (.slice 1 (.t 22) (some (.t 23)) none),
 sO 25 (.bslice 25 1 false [.nilsl] 2 [(0,.t 18),(1,.t 24)]),
 sO 26 (.call false 98 [.t 25]),
 qM 4 26]
def aM8:SF:=⟨27,[.tmp 4],.seq (.reg [sO 4 (.mv (.c (.nilsl)))]) (.seq (.reg aQ1) (.ret))⟩
theorem aIN:aM Tryz.prog ⟨[39,75,135,136,137,155,161,186,188,194,195,196,211,212,213,226,230,233,238],[],[],[]⟩ Tryz.f191=some aM8:=by kernel_rfl
def aNi:List SO:=[
 qM 7 0,
 qM 8 1,
 sO 9 (.call false 190 [.t 7,.t 8]),
 sO 10 (.idx 1 (.t 9) (.c (.int .i64 0))),
 ql 11 10,
 qM 12 0,
 sO 13 (.nilck (.t 12)),
 qF 14 9 13,
 ql 15 14,
 qM 16 1,
 qA 17 1 15 16,
 ql 18 17,
 qP 19 .neq 11 18]
def aOe:List SO:=[
 qM 21 0,
 sO 22 (.nilck (.t 21)),
 qF 23 0 22,
 qF 24 4 23,
 ql 25 24,
 qM 26 0,
 sO 27 (.nilck (.t 26)),
 qF 28 8 27,
 ql 29 28,
 qM 30 1,
 qA 31 1 29 30,
 ql 32 31,
 qA 33 1 25 32,
 ql 34 33,
 sO 35 (.call false 77 [.t 34]),
 qM 36 0,
 sO 37 (.nilck (.t 36)),
 qF 38 7 37,
 ql 39 38,
 qM 40 1,
 qA 41 1 39 40,
 ql 42 41,
 qM 43 0,
 sO 44 (.nilck (.t 43)),
 qF 45 7 44,
 ql 46 45,
 qM 47 1,
 qC 48 .add 47 1,
 sO 49 (.slice 1 (.t 46) (some (.t 48)) none),
 sO 50 (.call false 77 [.t 49]),
 sO 51 (.build [.nilsl,.int .i64 0,.nilsl] [(0,1,.t 35),(1,1,.t 42),(2,1,.t 50)]),
 sN (.store 3 (.t 4) (.t 51)),
 sO 5 (.mv (.c (.nilsl))),
 qI 6 0]
def aQu:SF:=⟨52,[.cell 4 true 3,.tmp 5,.tmp 6],.seq (.reg [sO 4 (.alloc 179 [.nilsl,.int .i64 0,.nilsl]),sO 5 (.mv (.c (.nilsl))),qI 6 0]) (.seq (.seq (.reg aNi) (.cond (.t 19) (.seq (.reg [sO 20 (.build [.nilsl,.int .i64 0,.nilsl] []),sN (.store 3 (.t 4) (.t 20)),sO 5 (.mv (.c (.nilsl))),qI 6 15]) (.ret)) (.skip))) (.seq (.reg aOe) (.ret)))⟩
theorem aLd:aM Tryz.prog ⟨[39,75,135,136,137,155,161,186,188,194,195,196,211,212,213,226,230,233,238],[],[],[]⟩ Tryz.f192=some aQu:=by kernel_rfl
def aPr:SF:=⟨59,[.tmp 12],.seq (.reg [sO 6 (.box 99 1 (.t 0)),qI 12 0]) (.seq (.seq (.reg [qL 18 1 6,qM 19 1,sO 20 (.call false 131 [.t 18,.t 19,.c (.bool true)]),qM 13 20]) (.seq (.reg [qM 21 13,qC 22 .neq 21 0]) (.cond (.t 22) (.seq (.reg [qM 23 13,qM 12 23]) (.ret)) (.skip)))) (.seq (.seq (.reg [qM 24 2,qN 25 24,qC 26 .eql 25 0]) (.cond (.t 26) (.seq (.reg [qI 12 19]) (.ret)) (.skip))) (.seq (.seq (.reg [qM 27 2,sO 28 (.call false 74 [.t 27,.c (.int .i64 64)]),qM 14 28]) (.seq (.reg [qM 29 14,qC 30 .neq 29 0]) (.cond (.t 30) (.seq (.reg [qM 31 14,qM 12 31]) (.ret)) (.skip)))) (.seq (.seq (.reg [qM 32 3,qM 33 2,sO 34 (.call false 132 [.t 32,.t 33]),qM 15 34]) (.seq (.reg [qM 35 15,qC 36 .neq 35 0]) (.cond (.t 36) (.seq (.reg [qM 37 15,qM 12 37]) (.ret)) (.skip)))) (.seq (.seq (.reg [qL 38 1 6,qM 39 4,sO 40 (.call false 134 [.t 38,.t 39]),qM 16 40]) (.seq (.reg [qM 41 16,qC 42 .neq 41 0]) (.cond (.t 42) (.seq (.reg [qM 43 16,qM 12 43]) (.ret)) (.skip)))) (.seq (.seq (.reg [qM 44 5,qM 45 2,sO 46 (.call false 132 [.t 44,.t 45]),qM 17 46]) (.seq (.reg [qM 47 17,qC 48 .neq 47 0]) (.cond (.t 48) (.seq (.reg [qM 49 17,qM 12 49]) (.ret)) (.skip)))) (.seq (.block 0 (.seq (.reg [qM 51 3,qM 52 5,sO 53 (.call false 81 [.t 51,.t 52]),qM 50 53]) (.cond (.t 50) (.seq (.reg [qI 12 15]) (.ret)) (.seq (.reg [qF 55 0 6,ql 56 55,qN 57 56,qC 58 .gtr 57 4094,qM 54 58]) (.cond (.t 54) (.seq (.reg [qI 12 11]) (.ret)) (.skip)))))) (.seq (.reg [qI 12 0]) (.ret)))))))))⟩
theorem aJP:aM Tryz.prog ⟨[39,75,135,136,137,155,161,186,188,194,195,196,211,212,213,226,230,233,238],[],[],[]⟩ Tryz.f193=some aPr:=by kernel_rfl
def aPP:List SO:=[
 qM 14 0,
 qM 15 2,
 qM 16 0,
 qM 17 3,
 qM 18 0,
 qM 19 3,
 qA 20 1 18 19,
 ql 21 20,
 qM 22 0,
 qM 23 2,
 qA 24 1 22 23,
 ql 25 24,
 qA 26 1 14 15,
 sN (.store 1 (.t 26) (.t 21)),
 qA 27 1 16 17,
 sN (.store 1 (.t 27) (.t 25))]
def aQc:SC:=.seq (.seq (.reg [qM 7 2,qM 8 3,qP 9 .lss 7 8]) (.cond (.t 9) (.skip) (.exit 0))) (.seq (.block 1 (.reg aPP)) (.reg [qM 10 2,qC 11 .add 10 1,qM 12 3,qC 13 .sub 12 1,qM 2 11,qM 3 13]))
def aNk:SF:=⟨28,[],.seq (.reg [qM 4 0,qN 5 4,qC 6 .sub 5 1,qI 2 0,qM 3 6]) (.block 0 (.loop aQc))⟩
theorem aLh:aM Tryz.prog ⟨[39,75,135,136,137,155,161,186,188,194,195,196,211,212,213,226,230,233,238],[],[],[]⟩ Tryz.f194=some aNk:=by kernel_rfl
def aM9:List SO:=[
 qM 14 0,
 qM 15 2,
 qM 16 0,
 qM 17 3,
 qM 18 0,
 qM 19 3,
 qA 20 1 18 19,
 ql 21 20,
 qM 22 0,
 qM 23 2,
 qA 24 1 22 23,
 ql 25 24,
 qA 26 1 14 15,
 sN (.store 1 (.t 26) (.t 21)),
 qA 27 1 16 17,
 sN (.store 1 (.t 27) (.t 25))]
def aPZ:SC:=.seq (.seq (.reg [qM 7 2,qM 8 3,qP 9 .lss 7 8]) (.cond (.t 9) (.skip) (.exit 0))) (.seq (.block 1 (.reg aM9)) (.reg [qM 10 2,qC 11 .add 10 1,qM 12 3,qC 13 .sub 12 1,qM 2 11,qM 3 13]))
def aQP:SF:=⟨28,[],.seq (.reg [qM 4 0,qN 5 4,qC 6 .sub 5 1,qI 2 0,qM 3 6]) (.block 0 (.loop aPZ))⟩
theorem aJa:aM Tryz.prog ⟨[39,75,135,136,137,155,161,186,188,194,195,196,211,212,213,226,230,233,238],[],[],[]⟩ Tryz.f195=some aQP:=by kernel_rfl
def aOJ:SF:=⟨9,[.tmp 4],.seq (.reg [sO 4 (.mv (.c (.bool false)))]) (.seq (.reg [qM 5 0,qM 6 1,sO 7 (.call false 91 [.t 5,.t 6]),qC 8 .geq 7 0,qM 4 8]) (.ret))⟩
theorem aKQ:aM Tryz.prog ⟨[39,75,135,136,137,155,161,186,188,194,195,196,211,212,213,226,230,233,238],[],[],[]⟩ Tryz.f219=some aOJ:=by kernel_rfl
def aP7:SF:=⟨7,[.tmp 3],.seq (.reg [sO 3 (.mv (.c (.bool false)))]) (.seq (.reg [qM 4 0,ql 5 1,sO 6 (.call false 81 [.t 4,.t 5]),qM 3 6]) (.ret))⟩
theorem aLi:aM Tryz.prog ⟨[39,75,135,136,137,155,161,186,188,194,195,196,211,212,213,226,230,233,238],[],[],[]⟩ Tryz.f220=some aP7:=by kernel_rfl
def aPw:List SO:=[
 qF 3 0 1,
 ql 4 3,
 sO 5 (.call false 77 [.t 4]),
 qF 6 1 1,
 ql 7 6,
 sO 8 (.call false 77 [.t 7]),
 sO 9 (.build [.nilsl,.nilsl] [(0,1,.t 5),(1,1,.t 8)]),
 sN (.store 2 (.t 2) (.t 9))]
def aPN:SF:=⟨10,[.cell 2 true 2],.seq (.reg [sO 1 (.box 169 2 (.t 0)),sO 2 (.alloc 169 [.nilsl,.nilsl])]) (.seq (.reg aPw) (.ret))⟩
theorem aKp:aM Tryz.prog ⟨[39,75,135,136,137,155,161,186,188,194,195,196,211,212,213,226,230,233,238],[],[],[]⟩ Tryz.f223=some aPN:=by kernel_rfl
def aMP:List SO:=[
 qM 3 0,
 qC 4 .lss 3 0,
 qM 5 4,
 ⟨some (5,false),some 6,.mv (.t 0)⟩,
 ⟨some (5,false),some 7,.bin .gtr (.t 6) (.c (.int .i64 1048576))⟩,
 sO 8 (.pick (.t 5) (.c (.bool true)) (.t 7)),
 qM 2 8]
def aNI:SF:=⟨9,[.tmp 2],.seq (.reg [sO 2 (.mv (.c (.bool false)))]) (.seq (.reg aMP) (.ret))⟩
theorem aIU:aM Tryz.prog ⟨[39,75,135,136,137,155,161,186,188,194,195,196,211,212,213,226,230,233,238],[],[],[]⟩ Tryz.f224=some aNI:=by kernel_rfl
def aPH:List SO:=[
 qF 7 0 2,
 ql 8 7,
 qF 9 0 3,
 ql 10 9,
 sO 11 (.call false 216 [.t 8,.t 10]),
 qF 12 1 2,
 ql 13 12,
 qN 14 13,
 qF 15 1 3,
 ql 16 15,
 qN 17 16,
 sO 18 (.mn3 (.t 11) (.t 14) (.t 17)),
 qM 5 18]
def aPq:List SO:=[
 qF 19 1 2,
 ql 20 19,
 qM 21 5,
 sO 22 (.slice 1 (.t 20) none (some (.t 21))),
 qF 23 1 3,
 ql 24 23,
 qM 25 5,
 sO 26 (.slice 1 (.t 24) none (some (.t 25))),
 sO 27 (.call false 216 [.t 22,.t 26]),
 qM 6 27]
def aP2:SF:=⟨32,[.tmp 4],.seq (.reg [sO 2 (.box 169 2 (.t 0)),sO 3 (.box 169 2 (.t 1)),qI 4 0]) (.seq (.reg aPH) (.seq (.seq (.reg aPq) (.seq (.reg [qM 28 6,qM 29 5,qP 30 .lss 28 29]) (.cond (.t 30) (.seq (.reg [qM 31 6,qM 4 31]) (.ret)) (.skip)))) (.seq (.reg [sO 4 (.mv (.c (.int .i64 (-1))))]) (.ret))))⟩
theorem aJ3:aM Tryz.prog ⟨[39,75,135,136,137,155,161,186,188,194,195,196,211,212,213,226,230,233,238],[],[],[]⟩ Tryz.f225=some aP2:=by kernel_rfl
def aQx:SC:=.seq (.seq (.reg [qM 16 6,qM 17 0,qN 18 17,qP 19 .lss 16 18]) (.cond (.t 19) (.skip) (.exit 0))) (.seq (.block 1 (.seq (.reg [qM 22 0,qM 23 6,qA 24 2 22 23,qL 25 2 24,sO 7 (.alloc 169 [.nilsl,.nilsl]),sN (.store 2 (.t 7) (.t 25))]) (.seq (.reg [qM 26 1,qL 27 2 7,sO 28 (.callv false (.t 26) [.t 27]),sO 29 (.un .not (.t 28))]) (.cond (.t 29) (.seq (.reg [qM 30 0,qM 31 5,qL 32 2 7,qA 33 2 30 31,sN (.store 2 (.t 33) (.t 32))]) (.reg [qM 34 5,qC 35 .add 34 1,qM 5 35])) (.skip))))) (.reg [qM 20 6,qC 21 .add 20 1,qM 6 21]))
def aMY:SF:=⟨42,[.tmp 4],.seq (.reg [sO 4 (.mv (.c (.nilsl)))]) (.seq (.reg [qM 8 0,qM 9 1,sO 10 (.call false 184 [.t 8,.t 9]),qM 5 10]) (.seq (.seq (.reg [qM 11 5,sO 12 (.bin .eql (.t 11) (.c (.int .i64 (-1))))]) (.cond (.t 12) (.seq (.reg [qM 13 0,qM 4 13]) (.ret)) (.skip))) (.seq (.seq (.reg [qM 14 5,qC 15 .add 14 1,qM 6 15]) (.block 0 (.loop aQx))) (.seq (.reg [qM 36 0,qM 37 5,sO 38 (.slice 2 (.t 36) (some (.t 37)) none),sN (.clr [.nilsl,.nilsl] (.t 38))]) (.seq (.reg [qM 39 0,qM 40 5,sO 41 (.slice 2 (.t 39) none (some (.t 40))),qM 4 41]) (.ret))))))⟩
theorem aK6:aM Tryz.prog ⟨[39,75,135,136,137,155,161,186,188,194,195,196,211,212,213,226,230,233,238],[],[],[]⟩ Tryz.f226=some aMY:=by kernel_rfl
def aO5:SF:=⟨9,[.tmp 3],.seq (.reg [sO 2 (.box 169 2 (.t 0)),sO 3 (.mv (.c (.bool false)))]) (.seq (.reg [qF 4 0 1,ql 5 4,qF 6 0 2,ql 7 6,sO 8 (.call false 175 [.t 5,.t 7]),qM 3 8]) (.ret))⟩
theorem aJx:aM Tryz.prog ⟨[39,75,135,136,137,155,161,186,188,194,195,196,211,212,213,226,230,233,238],[],[],[]⟩ Tryz.f227=some aO5:=by kernel_rfl
def aOP:List SO:=[
 qM 18 9,
 qM 19 10,
 qP 20 .add 18 19,
 sO 21 (.conv .u64 (.t 20)),
 sO 22 (.bin .shr (.t 21) (.c (.int .u64 1))),
 sO 23 (.conv .i64 (.t 22)),
 qM 11 23]
def aOC:List SO:=[
 qM 24 2,
 qM 25 0,
 qM 26 11,
 qA 27 2 25 26,
 qL 28 2 27,
 qL 29 2 4,
 sO 30 (.callv false (.t 24) [.t 28,.t 29]),
 qC 31 .lss 30 0]
def aPJ:SC:=.seq (.seq (.reg [qM 15 9,qM 16 10,qP 17 .lss 15 16]) (.cond (.t 17) (.skip) (.exit 0))) (.block 1 (.seq (.reg aOP) (.seq (.reg aOC) (.cond (.t 31) (.reg [qM 32 11,qC 33 .add 32 1,qM 9 33]) (.reg [qM 34 11,qM 10 34])))))
def aNE:List SO:=[
 qM 35 9,
 qM 36 9,
 qM 37 8,
 qP 38 .lss 36 37,
 qM 39 38,
 ⟨some (39,true),some 40,.mv (.t 2)⟩,
 ⟨some (39,true),some 41,.mv (.t 0)⟩,
 ⟨some (39,true),some 42,.mv (.t 9)⟩,
 ⟨some (39,true),some 43,.idx 2 (.t 41) (.t 42)⟩,
 ⟨some (39,true),some 44,.load true 2 (.t 43)⟩,
 ⟨some (39,true),some 45,.load true 2 (.t 4)⟩,
 ⟨some (39,true),some 46,.callv false (.t 40) [.t 44,.t 45]⟩,
 ⟨some (39,true),some 47,.bin .eql (.t 46) (.c (.int .i64 0))⟩,
 sO 48 (.pick (.t 39) (.t 47) (.c (.bool false))),
 qM 6 35,
 qM 7 48]
def aNv:SF:=⟨49,[.tmp 6,.tmp 7],.seq (.reg [sO 4 (.box 169 2 (.t 1)),qI 6 0,sO 7 (.mv (.c (.bool false)))]) (.seq (.reg [qM 12 0,qN 13 12,qM 8 13]) (.seq (.reg [qM 14 8,qI 9 0,qM 10 14]) (.seq (.block 0 (.loop aPJ)) (.seq (.reg aNE) (.ret)))))⟩
theorem aLB:aM Tryz.prog ⟨[39,75,135,136,137,155,161,186,188,194,195,196,211,212,213,226,230,233,238],[],[],[]⟩ Tryz.f228=some aNv:=by kernel_rfl
def aPU:SF:=⟨10,[.tmp 4],.seq (.reg [sO 2 (.box 169 2 (.t 0)),sO 3 (.box 169 2 (.t 1)),qI 4 0]) (.seq (.reg [qF 5 0 2,ql 6 5,qF 7 0 3,ql 8 7,sO 9 (.call false 176 [.t 6,.t 8]),qM 4 9]) (.ret))⟩
theorem aLo:aM Tryz.prog ⟨[39,75,135,136,137,155,161,186,188,194,195,196,211,212,213,226,230,233,238],[],[],[]⟩ Tryz.f229=some aPU:=by kernel_rfl
end Go.Proofs.YtmnnhjhkaepbaaaGreat
namespace Go.Proofs.YtmnnhjhkaepbaaaGreat
open Go Go.Proofs Go.Shelf Go.RowKit Go.Lib
structure InsLay (P:Program) (ρ:Ren) (n1:String) (k bytes:Nat) (z:Value):Prop where
  mixed:P.follows .mixedOrders=true
  f22:P.funcs[ρ.f 22]?=some {Body2.n22 ρ with name:=n1}
  ov: ∀ args w,(callFunc (ρ.f 29) args).run P w=((Extern.SlicesOverlaps.overlaps #[(ρ.t 24),(ρ.t 24)] #[(ρ.t 4)] args).run P w).andThen fun v w'=>.ok (.value v) w'
  t0:P.underlying (ρ.t 0)=some (TypeDesc.tuple #[])
  a0: ∀ w,(isAgg (ρ.t 0)).run P w=.ok false w
  z0: ∀ w,(Go.sizeOf (ρ.t 0)).run P w=.ok 1 w
  v0: ∀ w,(zeroValue (ρ.t 0)).run P w=.ok (Value.tuple #[]) w
  t3:P.underlying (ρ.t 3)=some (TypeDesc.int IntKind.i64)
  a3: ∀ w,(isAgg (ρ.t 3)).run P w=.ok false w
  z3: ∀ w,(Go.sizeOf (ρ.t 3)).run P w=.ok 1 w
  v3: ∀ w,(zeroValue (ρ.t 3)).run P w=.ok (Value.int IntKind.i64 0) w
  t4:P.underlying (ρ.t 4)=some (TypeDesc.bool)
  a4: ∀ w,(isAgg (ρ.t 4)).run P w=.ok false w
  z4: ∀ w,(Go.sizeOf (ρ.t 4)).run P w=.ok 1 w
  v4: ∀ w,(zeroValue (ρ.t 4)).run P w=.ok (Value.bool false) w
  z9: ∀ w,(Go.sizeOf (ρ.t 9)).run P w=.ok k w
  t24:P.underlying (ρ.t 24)=some (TypeDesc.slice (ρ.t 9))
  a24: ∀ w,(isAgg (ρ.t 24)).run P w=.ok false w
  z24: ∀ w,(Go.sizeOf (ρ.t 24)).run P w=.ok 1 w
  v24: ∀ w,(zeroValue (ρ.t 24)).run P w=.ok (Value.slice none 0 0) w
  i9:(P.info? (ρ.t 9)).map (fun i=>(i.zero,i.size,i.bytes))=some (some z,k,bytes)
  hk:0 < k
  hz:z.cells.size=k
variable {P:Program} {ρ:Ren} {n1:String} {k bytes:Nat} {z:Value}
theorem iI (w:World) (dT sT ty elem:TypeId) (g o dLen dCap:Nat) (a:Addr) (sLen sCap:Nat) (cur:Array Value) (t:TypeId) (cs:List Value) (k:Nat)
    (hu:P.underlying dT=some (.slice elem)) (hs:(P.info? elem).map (·.size)=some k)
    (hg:w.heap[g]?=some (.cells cur t (0,0))) (hn:cs.length=Nat.min sLen dLen*k)
    (hsrc: ∀ j v,cs[j]?=some v→w.cell? (a.add j)=some v) (hfit:o+cs.length≤cur.size) (h1: ∀ v∈cs,v.oneCell'=true):
    (Builtin.copy_ #[dT,sT] ty #[.slice (some ⟨g,o,none⟩) dLen dCap,.slice (some a) sLen sCap]).run P w=
      .ok (goInt (Nat.min sLen dLen)) (w.setRow g (cur.toList.take o++cs++cur.toList.drop (o+cs.length)).toArray):=by
  have hl:=run_loadCells_list (P:=P) w a cs hsrc
  have hst:=run_storeCells_at P g o t cs 0 cur w hg (by simpa using hfit) h1
  cases hq:P.info? elem with
  |none=>simp [hq] at hs
  | some i =>
    have hi:i.size=k:=by simpa [hq] using hs
    simp [Builtin.copy_,run_underlying hu,Builtin.lenOf,Builtin.firstCells,sizeOf,typeInfo,hq,hi,← hn,hl,hst]
def put (cc:Array Value) (o:Nat) (cs:List Value):Array Value:=(cc.toList.take o++cs++cc.toList.drop (o+cs.length)).toArray
set_option maxHeartbeats 4000000 in
set_option maxRecDepth 100000 in
theorem aFN (L : InsLay P ρ n1 k bytes z) (b n c i vb vc : Nat) (cc cv : Array Value) (tb tv : TypeId) (w : World) (hi : i < n) (hroom : n + 1 ≤ c) (hc63 : c ≤ 9223372036854775807) (hvb : vb ≠ b)
    (hb:w.heap[b]?=some (.cells cc tb (0,0))) (hv:w.heap[vb]?=some (.cells cv tv (0,0))) (hcc:c*k=cc.size) (hcv:k≤cv.size) (vs:List Value) (hvs:vs=cv.toList.take k)
    (h1c: ∀ v∈cc.toList.take (n*k),v.oneCell'=true) (h1v: ∀ v∈vs,v.oneCell'=true):
    Calls P (ρ.f 22) #[.slice (some ⟨b,0,none⟩) n c,.int .i64 i,.slice (some ⟨vb,0,none⟩) 1 vc] w fun e w'=>
      e=.returned (.slice (some ⟨b,0,none⟩) (n+1) c)∧w'=w.drew.setRow b (put (put cc ((i+1)*k) ((cc.toList.take (n*k)).drop (i*k))) (i*k) vs):=by
  have hk:=L.hk
  have hvl:vs.length=k:=by rw [hvs,List.length_take,Array.length_toList]; omega
  have t0:=L.t0; have a0:=L.a0; have z0:=L.z0; have v0:=L.v0; have t3:=L.t3; have a3:=L.a3; have z3:=L.z3; have v3:=L.v3; have t4:=L.t4; have a4:=L.a4; have z4:=L.z4; have v4:=L.v4; have z9:=L.z9; have t24:=L.t24; have a24:=L.a24; have z24:=L.z24; have v24:=L.v24
  have u0:=run_underlying L.t0; have u3:=run_underlying L.t3; have u4:=run_underlying L.t4; have u24:=run_underlying L.t24
  have hz2: ¬ ((i:Int)=(n:Int)):=by omega
  have hsz:(P.info? (ρ.t 9)).map (·.size)=some k:=by
    obtain ⟨i0,hi0,h0,h1,h2⟩:=info_parts L.i9
    rw [hi0]; simp [h1]
  have hov: ∀ lb cb,(callFunc (ρ.f 29) #[.slice (some ⟨vb,0,none⟩) 1 vc,.slice (some ⟨b,(i+1)*k,none⟩) lb cb]).run P w=.ok (.value (.bool false)) w:=fun lb cb=>by
    rw [L.ov,
      Lib.run_overlaps_apart w (ρ.t 24) (ρ.t 4) (ρ.t 9) L.t24 k L.z9 ⟨vb,0,none⟩ ⟨b,(i+1)*k,none⟩ 1 vc lb cb hvb tv tb cv.size cc.size (by simp [World.shape?,hv]) (by simp [World.shape?,hb]) (by rw [← hcc]; have:0 < c*k:=Nat.mul_pos (by omega) hk; omega) (by simp [World.frozen?,hv]) (by simp [World.frozen?,hv])]
    rfl
  have mixed:=L.mixed
  have hw1:IntKind.i64.wrap ((i:Int)+1)=(i:Int)+1:=by rw [IntKind.wrap_i64]; omega
  have hb1:(0:Int)≤(i:Int)+1:=by omega
  have hin:i≤n:=by omega
  have htn:((i:Int)+1).toNat=i+1:=by omega
  have hb2: ¬ (c=i+1):=by omega
  have hb3:(i:Int)≤(n:Int)+1:=by omega
  have hb4: ¬ (c=i):=by omega
  have hnk:n*k≤cc.size:=by rw [← hcc]; exact Nat.mul_le_mul_right k (by omega)
  have hn1k:(n+1)*k≤cc.size:=by rw [← hcc]; exact Nat.mul_le_mul_right k (by omega)
  have hik:i*k≤n*k:=Nat.mul_le_mul_right k hin
  obtain ⟨ds,hds⟩: ∃ ds,ds=(cc.toList.take (n*k)).drop (i*k):=⟨_,rfl⟩
  have hdl:ds.length=(n - i)*k:=by rw [hds,List.length_drop,List.length_take,Array.length_toList,Nat.min_eq_left hnk,Nat.sub_mul]
  rw [← hds]
  have e1:Nat.min (n+1 - i) (n - i)=n - i:=by simp only [Nat.min_def]; split <;> omega
  have e2:(i+1)*k+(n - i)*k=(n+1)*k:=by rw [← Nat.add_mul]; congr 1; omega
  have hcp1: ∀ ty dc sc,(Builtin.copy_ #[(ρ.t 24),(ρ.t 24)] ty #[.slice (some ⟨b,(i+1)*k,none⟩) (n - i) dc,.slice (some ⟨b,i*k,none⟩) (n+1 - i) sc]).run P w.drew=.ok (goInt (n - i:Nat)) (w.drew.setRow b (put cc ((i+1)*k) ds)):=fun ty dc sc=>by
    have h:=iI (P:=P) w.drew (ρ.t 24) (ρ.t 24) ty (ρ.t 9) b ((i+1)*k) (n - i) dc ⟨b,i*k,none⟩ (n+1 - i) sc cc tb ds k L.t24 hsz hb (by rw [hdl,e1])
      (fun j v hj=>by
        rw [Addr.add_lit]
        have hj':=hj
        rw [hds,List.getElem?_drop,List.getElem?_take] at hj
        split at hj
        · rw [Array.getElem?_toList] at hj
          simp [World.cell?,show w.drew.heap[b]?=_ from hb,hj]
        · cases hj) (by rw [hdl,e2]; exact hn1k) (fun v hv=>h1c v (List.mem_of_mem_drop (hds ▸ hv)))
    rw [e1] at h
    exact h
  have hps:(put cc ((i+1)*k) ds).size=cc.size:=by
    simp only [put,List.size_toArray,List.length_append,List.length_take,List.length_drop,Array.length_toList,hdl,e2]
    omega
  obtain ⟨W1,hW1⟩: ∃ W1,W1=w.drew.setRow b (put cc ((i+1)*k) ds):=⟨_,rfl⟩
  have hB1:W1.heap[b]?=some (.cells (put cc ((i+1)*k) ds) tb (0,0)):=by rw [hW1]; exact setRow_heap w.drew b cc _ tb _ hb
  have hV1:W1.heap[vb]?=some (.cells cv tv (0,0)):=by rw [hW1,setRow_other w.drew b vb _ hvb]; exact hv
  have hcp2: ∀ ty dc,(Builtin.copy_ #[(ρ.t 24),(ρ.t 24)] ty #[.slice (some ⟨b,i*k,none⟩) (n+1 - i) dc,.slice (some ⟨vb,0,none⟩) 1 vc]).run P W1=.ok (goInt (1:Nat)) (W1.setRow b (put (put cc ((i+1)*k) ds) (i*k) vs)):=fun ty dc=>by
    have e3:Nat.min 1 (n+1 - i)=1:=by simp only [Nat.min_def]; split <;> omega
    have h:=iI (P:=P) W1 (ρ.t 24) (ρ.t 24) ty (ρ.t 9) b (i*k) (n+1 - i) dc ⟨vb,0,none⟩ 1 vc _ tb vs k L.t24 hsz hB1 (by rw [e3,hvl,Nat.one_mul])
      (fun j v hj=>by
        rw [Addr.add_lit]
        rw [hvs,List.getElem?_take] at hj
        split at hj
        · rw [Array.getElem?_toList] at hj
          simp [World.cell?,hV1,hj]
        · cases hj) (by rw [hps,hvl]; have:(i+1)*k≤(n+1)*k:=Nat.mul_le_mul_right k (by omega); rw [Nat.add_mul,Nat.one_mul] at this; omega) h1v
    rw [e3] at h
    exact h
  have hfin:W1.setRow b (put (put cc ((i+1)*k) ds) (i*k) vs)=w.drew.setRow b (put (put cc ((i+1)*k) ds) (i*k) vs):=by rw [hW1,setRow_setRow]
  rw [← hW1] at hcp1
  clear hW1 hds e1 e2 hvs
  go_enter L.f22,Body2.n22_ntmps ρ
  go_wp2_with (simp only [hov])
  go_region_law_o (refine step_copy_runI rfl _ _ (ρ.t 24) (ρ.t 24) rfl _ _ (by simp [Act.eval,Act.put]) (by simp [Act.eval,Act.put]) (hcp1 _ _ _) ?_)
  go_wp2_with (at_builtin; refine wpList_copy_runI _ rfl _ _ (ρ.t 24) (ρ.t 24) rfl _ _ rfl rfl (hcp2 _ _) ?_)
  go_ret
  first|exact ⟨rfl,rfl⟩|exact ⟨rfl,hfin⟩
theorem pT (w:World) (a b:Array Value) (e:TypeId):(w.alloc (.cells a e)).setRow w.heap.size b=w.alloc (.cells b e):=by
  have h:(w.alloc (.cells a e)).heap[w.heap.size]?=some (.cells a e (0,0)):=fC _ _
  unfold World.setRow World.alloc
  congr 1
  refine Array.ext_getElem? fun j=>?_
  rw [Array.getElem?_modify]
  split
  · rename_i hj
    subst hj
    simp [Obj.cells]
  · rename_i hj
    simp only [Array.getElem?_push]
    rw [if_neg (fun x=>hj x.symm),if_neg (fun x=>hj x.symm)]
set_option maxHeartbeats 4000000 in
set_option maxRecDepth 100000 in
theorem aHA (L : InsLay P ρ n1 k bytes z) (b n c i vb vc : Nat) (cc cv : Array Value) (tb tv : TypeId) (w : World) (hi : i < n) (hnc : n ≤ c) (hroom : c < n + 1) (hc63 : c < 9223372036854775807) (hbig : (n + 1) * bytes ≤ 140737488355328)
    (hb:w.heap[b]?=some (.cells cc tb (0,0))) (hv:w.heap[vb]?=some (.cells cv tv (0,0))) (hcc:c*k=cc.size) (hcv:k≤cv.size) (vs:List Value) (hvs:vs=cv.toList.take k)
    (h1c: ∀ v∈cc.toList.take (n*k),v.oneCell'=true) (h1v: ∀ v∈vs,v.oneCell'=true):
    Calls P (ρ.f 22) #[.slice (some ⟨b,0,none⟩) n c,.int .i64 i,.slice (some ⟨vb,0,none⟩) 1 vc] w fun e w'=>
      ∃ G R,R.size=G*k∧n+1≤G∧G≤maxLen∧e=.returned (.slice (some ⟨w.heap.size,0,none⟩) (n+1) G)∧w'=w.drew.drew.alloc (.cells (put (put R (i*k) vs) ((i+1)*k) ((cc.toList.take (n*k)).drop (i*k))) (ρ.t 9))∧R.toList.take (i*k)=cc.toList.take (i*k):=by
  have hk:=L.hk; have hzl:=L.hz
  have hvl:vs.length=k:=by rw [hvs,List.length_take,Array.length_toList]; omega
  have t0:=L.t0; have a0:=L.a0; have z0:=L.z0; have v0:=L.v0; have t3:=L.t3; have a3:=L.a3; have z3:=L.z3; have v3:=L.v3; have t4:=L.t4; have a4:=L.a4; have z4:=L.z4; have v4:=L.v4; have z9:=L.z9; have t24:=L.t24; have a24:=L.a24; have z24:=L.z24; have v24:=L.v24
  have u0:=run_underlying L.t0; have u3:=run_underlying L.t3; have u4:=run_underlying L.t4; have u24:=run_underlying L.t24
  have mixed:=L.mixed
  obtain ⟨i0,hi0,hz0,hzs,hzb⟩:=info_parts L.i9
  have hz2: ¬ ((i:Int)=(n:Int)):=by omega
  have hz3:(c:Int) < (n:Int)+1:=by omega
  have hsz:(P.info? (ρ.t 9)).map (·.size)=some k:=by rw [hi0]; simp [hzs]
  have hbw:b < w.heap.size:=(Array.getElem?_eq_some_iff.1 hb).1
  have hvw:vb < w.heap.size:=(Array.getElem?_eq_some_iff.1 hv).1
  have hkk:(n:Int)+1 - (i:Int)=((n+1 - i:Nat):Int):=by omega
  have hik:i+(n+1 - i)=n+1:=by omega
  have hnk:n*k≤cc.size:=by rw [← hcc]; exact Nat.mul_le_mul_right k (by omega)
  have hikn:i*k≤n*k:=Nat.mul_le_mul_right k (by omega)
  have hold:(Builtin.firstCells i0.size i (.slice (some ⟨b,0,none⟩) i c)).run P w.drew=.ok (cc.toList.take (i*k)).toArray w.drew:=by
    rw [hzs]
    exact run_firstCells_some w.drew k i ⟨b,0,none⟩ i c (cc.toList.take (i*k)) (by rw [List.length_take,Array.length_toList]; omega) (fun j v hj=>by
      rw [Addr.add_lit]
      rw [List.getElem?_take] at hj
      split at hj
      · rw [Array.getElem?_toList] at hj
        simp [World.cell?,show w.drew.heap[b]?=_ from hb,hj]
      · cases hj)
  have hrz: ∀ ty,(Builtin.append_ #[(ρ.t 24),(ρ.t 3)] ty #[.slice (some ⟨b,0,none⟩) i c,.int .i64 ((n:Int)+1 - (i:Int))]).run P w=
      .ok (.slice (some ⟨w.heap.size,0,none⟩) (n+1) (grownCap w (n+1) c (ρ.t 9))) (w.drew.alloc (.cells ((cc.toList.take (i*k)).toArray++Builtin.zeroCells z.cells (n+1 - i)++Builtin.zeroCells z.cells (grownCap w (n+1) c (ρ.t 9) - (n+1))) (ρ.t 9))):=fun ty=>by
    have h:=Lib.run_append_grow_zeros w (ρ.t 24) (ρ.t 3) ty (ρ.t 9) i0 _ .i64 .i64 L.t24 L.t3 hi0 hz0 (some ⟨b,0,none⟩) i c _ hold (n+1 - i) (by omega) (by omega) (by omega) (by omega) (by rw [hzb]; have:(n+1 - i)*bytes≤(n+1)*bytes:=Nat.mul_le_mul_right _ (by omega); omega) (by rw [hzb,hik]; exact growslice_fits hroom hbig)
    rw [hik] at h
    rw [hkk]
    exact h
  have hGn:n+1≤grownCap w (n+1) c (ρ.t 9):=grownCap_ge w _ _ _
  have hGm:grownCap w (n+1) c (ρ.t 9)≤maxLen:=grownCap_le_maxLen w (n+1) c (ρ.t 9) (by unfold maxLen; omega)
  obtain ⟨G,hG⟩: ∃ G,G=grownCap w (n+1) c (ρ.t 9):=⟨_,rfl⟩
  rw [← hG] at hGn hGm
  obtain ⟨ROW,hROW⟩: ∃ ROW:Array Value,ROW=(cc.toList.take (i*k)).toArray++Builtin.zeroCells z.cells (n+1 - i)++Builtin.zeroCells z.cells (G - (n+1)):=⟨_,rfl⟩
  rw [← hG] at hrz
  rw [← hROW] at hrz
  have hRl:ROW.size=G*k:=by
    rw [hROW]
    simp only [Array.size_append,List.size_toArray,List.length_take,Array.length_toList,size_zeroCells,hzl,Nat.min_eq_left (show i*k≤cc.size by omega),← Nat.add_mul]
    congr 1; omega
  have hRt:ROW.toList.take (i*k)=cc.toList.take (i*k):=by
    rw [hROW]
    simp only [Array.toList_append,List.append_assoc]
    rw [List.take_append_of_le_length (by simp; omega),List.take_take,Nat.min_self]
  have hG63:G≤9223372036854775807:=by unfold maxLen at hGm; omega
  have hGi: ¬ (G=i):=by omega
  have hGim: ¬ (G=i+1):=by omega
  have hci: ¬ (c=i):=by omega
  have hn1G:(n+1)*k≤G*k:=Nat.mul_le_mul_right k hGn
  obtain ⟨ds,hds⟩: ∃ ds,ds=(cc.toList.take (n*k)).drop (i*k):=⟨_,rfl⟩
  have hdl:ds.length=(n - i)*k:=by rw [hds,List.length_drop,List.length_take,Array.length_toList,Nat.min_eq_left hnk,Nat.sub_mul]
  rw [← hds]
  have e1:Nat.min (n - i) (n - i)=n - i:=Nat.min_self _
  have e2:(i+1)*k+(n - i)*k=(n+1)*k:=by rw [← Nat.add_mul]; congr 1; omega
  have e4:i*k+k≤(n+1)*k:=by have:(i+1)*k≤(n+1)*k:=Nat.mul_le_mul_right k (by omega); rw [Nat.add_mul,Nat.one_mul] at this; exact this
  obtain ⟨W1,hW1⟩: ∃ W1,W1=w.drew.alloc (.cells ROW (ρ.t 9)):=⟨_,rfl⟩
  have hcpA: ∀ (W:World),W.heap=W1.heap→ ∀ ty dc,(Builtin.copy_ #[(ρ.t 24),(ρ.t 24)] ty #[.slice (some ⟨w.heap.size,i*k,none⟩) (n+1 - i) dc,.slice (some ⟨vb,0,none⟩) 1 vc]).run P W=.ok (goInt (1:Nat)) (W.setRow w.heap.size (put ROW (i*k) vs)):=fun W hW ty dc=>by
    have e3:Nat.min 1 (n+1 - i)=1:=by simp only [Nat.min_def]; split <;> omega
    have hN:W.heap[w.heap.size]?=some (.cells ROW (ρ.t 9) (0,0)):=by rw [hW,hW1]; exact fC w.drew _
    have hV:W.heap[vb]?=some (.cells cv tv (0,0)):=by rw [hW,hW1,dP w.drew _ hvw]; exact hv
    have h:=iI (P:=P) W (ρ.t 24) (ρ.t 24) ty (ρ.t 9) w.heap.size (i*k) (n+1 - i) dc ⟨vb,0,none⟩ 1 vc ROW (ρ.t 9) vs k L.t24 hsz hN (by rw [e3,hvl,Nat.one_mul])
      (fun j v hj=>by
        rw [Addr.add_lit]
        rw [hvs,List.getElem?_take] at hj
        split at hj
        · rw [Array.getElem?_toList] at hj
          simp [World.cell?,hV,hj]
        · cases hj) (by rw [hRl,hvl]; omega) h1v
    rw [e3] at h
    exact h
  have hps:(put ROW (i*k) vs).size=ROW.size:=by
    simp only [put,List.size_toArray,List.length_append,List.length_take,List.length_drop,Array.length_toList,hvl]
    omega
  have hcpB: ∀ (W:World),W.heap=(W1.setRow w.heap.size (put ROW (i*k) vs)).heap→ ∀ ty dc sc,(Builtin.copy_ #[(ρ.t 24),(ρ.t 24)] ty #[.slice (some ⟨w.heap.size,(i+1)*k,none⟩) (n - i) dc,.slice (some ⟨b,i*k,none⟩) (n - i) sc]).run P W=.ok (goInt (n - i:Nat)) (W.setRow w.heap.size (put (put ROW (i*k) vs) ((i+1)*k) ds)):=fun W hW ty dc sc=>by
    have hN:W.heap[w.heap.size]?=some (.cells (put ROW (i*k) vs) (ρ.t 9) (0,0)):=by
      rw [hW,hW1]; exact setRow_heap _ _ ROW _ (ρ.t 9) _ (fC w.drew _)
    have hB:W.heap[b]?=some (.cells cc tb (0,0)):=by
      rw [hW,hW1,setRow_other _ _ b _ (by omega),dP w.drew _ hbw]; exact hb
    have h:=iI (P:=P) W (ρ.t 24) (ρ.t 24) ty (ρ.t 9) w.heap.size ((i+1)*k) (n - i) dc ⟨b,i*k,none⟩ (n - i) sc _ (ρ.t 9) ds k L.t24 hsz hN (by rw [hdl,e1])
      (fun j v hj=>by
        rw [Addr.add_lit]
        rw [hds,List.getElem?_drop,List.getElem?_take] at hj
        split at hj
        · rw [Array.getElem?_toList] at hj
          simp [World.cell?,hB,hj]
        · cases hj) (by rw [hdl,e2,hps,hRl]; exact hn1G) (fun v hv=>h1c v (List.mem_of_mem_drop (hds ▸ hv)))
    rw [e1] at h
    exact h
  subst hW1
  have hw1:IntKind.i64.wrap ((i:Int)+1)=(i:Int)+1:=by rw [IntKind.wrap_i64]; omega
  have hb1:(0:Int)≤(i:Int)+1:=by omega
  have hin:i≤n:=by omega
  have htn:((i:Int)+1).toNat=i+1:=by omega
  have hb3:(i:Int)≤(n:Int):=by omega
  have hE1:((w.alloc (.cells ROW (ρ.t 9))).drew).heap=(w.drew.alloc (.cells ROW (ρ.t 9))).heap:=rfl
  have hF1:(((w.alloc (.cells ROW (ρ.t 9))).drew.setRow w.heap.size (put ROW (i*k) vs)).drew).heap=((w.drew.alloc (.cells ROW (ρ.t 9))).setRow w.heap.size (put ROW (i*k) vs)).heap:=rfl
  have hcall:Calls P (ρ.f 22) #[.slice (some ⟨b,0,none⟩) n c,.int .i64 i,.slice (some ⟨vb,0,none⟩) 1 vc] w fun e w'=>e=.returned (.slice (some ⟨w.heap.size,0,none⟩) (n+1) G)∧w'=(((w.alloc (.cells ROW (ρ.t 9))).drew.setRow w.heap.size (put ROW (i*k) vs)).drew).setRow w.heap.size (put (put ROW (i*k) vs) ((i+1)*k) ds):=by
    clear hkk hik hold hROW hG hRl hds e1 e2 e4 hRt hvs
    go_enter L.f22,Body2.n22_ntmps ρ
    go_wp2_with (first
      |(at_builtin; refine Lib.wpList_append_run _ rfl _ _ _ _ rfl _ _ rfl rfl _ _ (hrz _) ?_)
      |(at_builtin; refine wpList_copy_runI _ rfl _ _ (ρ.t 24) (ρ.t 24) rfl _ _ rfl rfl (hcpA _ hE1 _ _) ?_)
      |(at_builtin; refine wpList_copy_runI _ rfl _ _ (ρ.t 24) (ρ.t 24) rfl _ _ rfl rfl (hcpB _ hF1 _ _ _) ?_))
    go_region_law_o (refine step_copy_runI rfl _ _ (ρ.t 24) (ρ.t 24) rfl (.slice (some ⟨w.heap.size,(i+1)*k,none⟩) (n - i) (G - (i+1))) (.slice (some ⟨b,i*k,none⟩) (n - i) (c - i)) (by simp [Act.eval,Act.put]) (by simp [Act.eval,Act.put]) (hcpB _ hF1 (ρ.t 3) (G - (i+1)) (c - i)) ?_)
    go_wp2
    go_ret
    exact ⟨rfl,rfl⟩
  refine hcall.mono fun e w' h=>?_
  obtain ⟨rfl,rfl⟩:=h
  refine ⟨G,ROW,hRl,hGn,hGm,rfl,?_,hRt⟩
  have q:=pT w ROW (put ROW (i*k) vs) (ρ.t 9)
  have q2:=pT w (put ROW (i*k) vs) (put (put ROW (i*k) vs) ((i+1)*k) ds) (ρ.t 9)
  have q3:(((w.alloc (.cells ROW (ρ.t 9))).drew.setRow w.heap.size (put ROW (i*k) vs)).drew).setRow w.heap.size (put (put ROW (i*k) vs) ((i+1)*k) ds)=((((w.alloc (.cells ROW (ρ.t 9))).setRow w.heap.size (put ROW (i*k) vs))).setRow w.heap.size (put (put ROW (i*k) vs) ((i+1)*k) ds)).drew.drew:=rfl
  rw [q3,q,q2]
  rfl
set_option maxHeartbeats 4000000 in
set_option maxRecDepth 100000 in
theorem aJn (L:InsLay P ρ n1 k bytes z) (b n c vb vc:Nat) (w w':World) (v:Value) (hnc:n≤c)
    (hr: ∀ ty,(Builtin.append_ #[(ρ.t 24),(ρ.t 24)] ty #[.slice (some ⟨b,0,none⟩) n c,.slice (some ⟨vb,0,none⟩) 1 vc]).run P w=.ok v w'):
    Calls P (ρ.f 22) #[.slice (some ⟨b,0,none⟩) n c,.int .i64 n,.slice (some ⟨vb,0,none⟩) 1 vc] w fun e u=>e=.returned v∧u=w':=by
  have hk:=L.hk
  have t0:=L.t0; have a0:=L.a0; have z0:=L.z0; have v0:=L.v0; have t3:=L.t3; have a3:=L.a3; have z3:=L.z3; have v3:=L.v3; have t4:=L.t4; have a4:=L.a4; have z4:=L.z4; have v4:=L.v4; have z9:=L.z9; have t24:=L.t24; have a24:=L.a24; have z24:=L.z24; have v24:=L.v24
  have u0:=run_underlying L.t0; have u3:=run_underlying L.t3; have u4:=run_underlying L.t4; have u24:=run_underlying L.t24
  have mixed:=L.mixed
  go_enter L.f22,Body2.n22_ntmps ρ
  go_wp2_with (at_builtin; refine Lib.wpList_append_run _ rfl _ _ _ _ rfl _ _ rfl rfl _ _ (hr _) ?_)
  all_goals (go_ret; exact ⟨rfl,rfl⟩)
set_option maxHeartbeats 4000000 in
set_option maxRecDepth 100000 in
theorem aGy (L:InsLay P ρ n1 k bytes z) (vb vc:Nat) (w w':World) (v:Value)
    (hr: ∀ ty,(Builtin.append_ #[(ρ.t 24),(ρ.t 24)] ty #[.slice none 0 0,.slice (some ⟨vb,0,none⟩) 1 vc]).run P w=.ok v w'):
    Calls P (ρ.f 22) #[.slice none 0 0,.int .i64 0,.slice (some ⟨vb,0,none⟩) 1 vc] w fun e u=>e=.returned v∧u=w':=by
  have hk:=L.hk
  have t0:=L.t0; have a0:=L.a0; have z0:=L.z0; have v0:=L.v0; have t3:=L.t3; have a3:=L.a3; have z3:=L.z3; have v3:=L.v3; have t4:=L.t4; have a4:=L.a4; have z4:=L.z4; have v4:=L.v4; have z9:=L.z9; have t24:=L.t24; have a24:=L.a24; have z24:=L.z24; have v24:=L.v24
  have u0:=run_underlying L.t0; have u3:=run_underlying L.t3; have u4:=run_underlying L.t4; have u24:=run_underlying L.t24
  have mixed:=L.mixed
  go_enter L.f22,Body2.n22_ntmps ρ
  go_wp2_with (at_builtin; refine Lib.wpList_append_run _ rfl _ _ _ _ rfl _ _ rfl rfl _ _ (hr _) ?_)
  all_goals (go_ret; exact ⟨rfl,rfl⟩)
set_option maxHeartbeats 4000000 in
set_option maxRecDepth 100000 in
theorem aH6 (L:InsLay P ρ n1 k bytes z) (a:Addr) (vb vc:Nat) (w w':World) (v:Value)
    (hr: ∀ ty,(Builtin.append_ #[(ρ.t 24),(ρ.t 24)] ty #[.slice (some a) 0 0,.slice (some ⟨vb,0,none⟩) 1 vc]).run P w=.ok v w'):
    Calls P (ρ.f 22) #[.slice (some a) 0 0,.int .i64 0,.slice (some ⟨vb,0,none⟩) 1 vc] w fun e u=>e=.returned v∧u=w':=by
  have hk:=L.hk
  have t0:=L.t0; have a0:=L.a0; have z0:=L.z0; have v0:=L.v0; have t3:=L.t3; have a3:=L.a3; have z3:=L.z3; have v3:=L.v3; have t4:=L.t4; have a4:=L.a4; have z4:=L.z4; have v4:=L.v4; have z9:=L.z9; have t24:=L.t24; have a24:=L.a24; have z24:=L.z24; have v24:=L.v24
  have u0:=run_underlying L.t0; have u3:=run_underlying L.t3; have u4:=run_underlying L.t4; have u24:=run_underlying L.t24
  have mixed:=L.mixed
  go_enter L.f22,Body2.n22_ntmps ρ
  go_wp2_with (at_builtin; refine Lib.wpList_append_run _ rfl _ _ _ _ rfl _ _ rfl rfl _ _ (hr _) ?_)
  all_goals (go_ret; exact ⟨rfl,rfl⟩)
end Go.Proofs.YtmnnhjhkaepbaaaGreat
