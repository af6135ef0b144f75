/- Contracts of the functions that the law VA reaches, and the law itself, for every input; no condition. -/
import Derived.KernelRfl
import Derived.Test.YteehaobohaecmaaGreatDoorProg
import Derived.Shelf.SlSortCmp.KitK
import Derived.Shelf.SlSortCmp.NoneTotal
import Derived.Shelf.Spec.SlicesGrow
import Derived.Test.YteehaobohaecmaaGreatDoorVA1
set_option linter.unusedSimpArgs false
set_option linter.unusedVariables false
namespace Go.Proofs.YteehaobohaecmaaGreatDoor
open Go Go.Proofs
theorem aAl (f:Fm) (lv:Int) (hl:0≤lv∧lv≤21) (ih: ∀ (g:Fm) (lv:Int),g.sz < f.sz→0≤lv∧lv≤21→aQ Tryz.prog 47 [(V.agg (rFq g)),(iV lv)] (iV (szl g lv))):aQ Tryz.prog 47 [(V.agg (rFq f)),(iV lv)] (iV (szl f lv)):=by
 refine pW Tryz.func47 aPA fun hB=>?_
 unfold s47
 dsimp only
 refine W_r (cE (i:=2) (n:=0) (m:=3) (cs:=(rFq f)) rfl (cVq rfl) rfl rfl rfl (aA rfl (R_e (aB (W_r (aA rfl (fJ rfl rfl ?_)))))))
 refine aA rfl ?_
 refine aV 5 (fun T H=>T 1=(iV lv)∧T 2=(mPq 2)∧T 14=(V.bool (decide (((20:Int) < lv)∨((50:Int) < ((f.kids.length:Nat):Int)))))∧H 2=(bFq f)∧True) ?_ ?_
 ·
  by_cases g1:(20:Int) < lv
  ·
   refine G_n (edT g1 rfl) (G_n (edT g1 rfl) (G_n (edT g1 rfl) (G_n (edT g1 rfl) (aS (edT g1 rfl) rfl ?_))))
   exact ⟨rfl,rfl,(cQ g1),rfl,trivial⟩
  ·
   refine aF (edF g1 rfl) (aM rfl rfl (aF (edF g1 rfl) (aJ rfl rfl rfl rfl (aF (edF g1 rfl) (bG rfl (aF (edF g1 rfl) (fJ rfl rfl ?_)))))))
   refine aT (edF g1 rfl) rfl ?_
   exact ⟨rfl,rfl,(cR g1),rfl,trivial⟩
 intro T H ⟨t1,t2,t14,h2,_⟩
 refine R_e ?_
 refine aH t14 (fun c2=>?_) fun c2=>?_
 ·
  refine aB (W_r (aA rfl (R_e (aL ?_))))
  refine bI (rVq (iV 1000)) (aE ?_)
  · rw [aJT,if_pos (by omega)]
 refine aC (W_r (aA rfl (R_e (aB (W_r (aA rfl (R_e ?_)))))))
 refine aD fun Q3 n3 x3 y3 z3=>?_
 refine bS (fun mm T H=> ∃ (k:Nat) (n:Int),mm=f.kids.length - k∧T 1=(iV lv)∧T 2=(mPq 2)∧T 5=(iV n)∧T 6=(iV ((k:Nat):Int))∧H 2=(bFq f)∧(k≤f.kids.length)∧(1≤n∧n≤1000)∧(szl f lv=kY (f.kids.drop k) n lv)) ?_ ?_
 ·
  refine ⟨_,0,1,rfl,t1,t2,rfl,(eTq (rVq (iV 0)) rfl),h2,?_,?_,?_⟩
  · omega
  · omega
  · rw [aJT,if_neg (by omega)]; rfl
 intro mm T H ⟨k,n,hmm,t1,t2,t5,t6,h2,hk,hn,hc⟩ Q4 p14 p24 p34
 unfold aNg
 have q0:=wI (nth f.kids k) (lv+1)
 refine aB (W_r (aA t6 (aM t2 h2 (aJ rfl h2 rfl rfl (bG rfl (bM rfl rfl (R_e ?_)))))))
 refine aH rfl (fun c5=>?_) fun c5=>?_
 ·
  refine aC (aD fun Q6 n6 x6 y6 z6=>(W_r (aA t5 (aM t2 h2 (aJ rfl h2 rfl rfl (aA t6 (bU (i:=k) (rVq (V.sl (List.map cF f.kids))) (rNq k) (by omega) (bN _) rfl ?_)))))))
  refine aG rfl rfl (aA t1 (oO rfl rfl (by omega) (by omega) (aI (ih (nth f.kids k) (lv+(1:Int)) skq (by omega)) rfl (oO rfl rfl (by omega) (by omega) (aA rfl (R_e (W_r ?_)))))))
  refine aA rfl (fJ rfl rfl (R_e ?_))
  refine cD rfl (fun c7=>?_) fun c7=>?_
  ·
   refine W_r (aA rfl (R_e (aO (y6 _ _ (p24 _ _ (y3 _ _ ?_))))))
   refine bI (rVq (iV 1000)) (aE ?_)
   · rw [hc,aJl (by omega) (by omega)]
  refine cM (n6 _ _ (.done (W_t (aA t6 (bB rfl (rNq 1) (by omega) (aA rfl (R_e ?_)))))))
  refine p14 _ _ _ ?_ ⟨(k+1),(n+szl (nth f.kids k) (lv+1)),rfl,t1,t2,(eTq (rVq (iV (n+(szl (nth f.kids k) (lv+(1:Int)))))) (by rfl)),(eTq (rNq (k+1)) (by rfl)),h2,?_,?_,?_⟩
  · omega
  · omega
  · omega
  · rw [hc,aL9 (by omega) (by omega)]
 refine aN (p34 _ _ _ (x3 _ _ (.done (W_r (aA t5 (aA rfl (R_e ?_)))))))
 refine aO ?_
 refine bI (rVq (iV n)) (aE ?_)
 · rw [hc,aIN (by omega)]
theorem aIG (f:Fm) (lv:Int) (hl:0≤lv∧lv≤21):aQ Tryz.prog 47 [(V.agg (rFq f)),(iV lv)] (iV (szl f lv)):=by
  have key: ∀ (mm:Nat) (f:Fm) (lv:Int),f.sz < mm→0≤lv∧lv≤21→aQ Tryz.prog 47 [(V.agg (rFq f)),(iV lv)] (iV (szl f lv)):=by
    intro mm
    induction mm with
    |zero=>intro f lv hlt; exact absurd hlt (Nat.not_lt_zero _)
    | succ mm ih =>
      intro f lv hlt hl
      exact aAl f lv hl fun f2 lv2 hlt2=>ih f2 lv2 (by omega)
  exact key (f.sz+1) f lv (Nat.lt_succ_self _) hl
theorem aBY (m:M) (f:Fm):aQ Tryz.prog 21 [(V.agg [(iV m.i),(iV m.s),(aX m.nx),(aX m.ot)]),(V.agg (rFq f))] (V.bool (aEG m f)):=by
 refine pW Tryz.func21 aOQ fun hB=>?_
 unfold s21
 dsimp only
 refine W_r (cE (i:=2) (n:=0) (m:=4) (cs:=[(iV m.i),(iV m.s),(aX m.nx),(aX m.ot)]) rfl (cVq rfl) rfl rfl rfl (cE (i:=3) (n:=0) (m:=3) (cs:=(rFq f)) rfl (cVq rfl) rfl rfl rfl (aA rfl (R_e (W_r (aM rfl rfl (aJ rfl rfl rfl rfl ?_)))))))
 refine bG rfl (qO rfl rfl (aA rfl ?_))
 refine aV 5 (fun T H=>T 2=(mPq 2)∧T 3=(mPq 3)∧T 14=(V.bool (decide ((((m.nx.length:Nat):Int)≤(8:Int))∧(((m.ot.length:Nat):Int)≤(8:Int)))))∧H 2=(bMq m)∧H 3=(bFq f)∧True) ?_ ?_
 ·
  by_cases g1:((m.nx.length:Nat):Int)≤(8:Int)
  ·
   refine aF (edT g1 rfl) (aM rfl rfl (aF (edT g1 rfl) (aJ rfl rfl rfl rfl (aF (edT g1 rfl) (bG rfl (aF (edT g1 rfl) (qO rfl rfl ?_)))))))
   refine aS (edT g1 rfl) rfl ?_
   exact ⟨rfl,rfl,(dH g1),rfl,rfl,trivial⟩
  ·
   refine G_n (edF g1 rfl) (G_n (edF g1 rfl) (G_n (edF g1 rfl) (G_n (edF g1 rfl) (aT (edF g1 rfl) rfl ?_))))
   exact ⟨rfl,rfl,(dG g1),rfl,rfl,trivial⟩
 intro T H ⟨t2,t3,t14,h2,h3,_⟩
 refine aA t14 ?_
 refine aV 4 (fun T H=>T 3=(mPq 3)∧T 19=(V.bool (decide (((((m.nx.length:Nat):Int)≤(8:Int))∧(((m.ot.length:Nat):Int)≤(8:Int)))∧(m.i≤(4:Int)))))∧H 2=(bMq m)∧H 3=(bFq f)∧True) ?_ ?_
 ·
  by_cases g2:(((m.nx.length:Nat):Int)≤(8:Int))∧(((m.ot.length:Nat):Int)≤(8:Int))
  ·
   refine aF (edT g2 rfl) (aM t2 h2 (aF (edT g2 rfl) (aJ rfl h2 rfl rfl (aF (edT g2 rfl) (qO rfl rfl (aS (edT g2 rfl) rfl ?_))))))
   exact ⟨t3,(dH g2),h2,h3,trivial⟩
  ·
   refine G_n (edF g2 rfl) (G_n (edF g2 rfl) (G_n (edF g2 rfl) (aT (edF g2 rfl) rfl ?_)))
   exact ⟨t3,(dG g2),h2,h3,trivial⟩
 intro T H ⟨t3,t19,h2,h3,_⟩
 refine aA t19 ?_
 refine aV 4 (fun T H=>T 24=(V.bool (decide ((((((m.nx.length:Nat):Int)≤(8:Int))∧(((m.ot.length:Nat):Int)≤(8:Int)))∧(m.i≤(4:Int)))∧((szl f (0:Int))≤(12:Int)))))∧H 2=(bMq m)∧H 3=(bFq f)∧True) ?_ ?_
 ·
  by_cases g3:((((m.nx.length:Nat):Int)≤(8:Int))∧(((m.ot.length:Nat):Int)≤(8:Int)))∧(m.i≤(4:Int))
  ·
   refine aF (edT g3 rfl) (aJ t3 h3 rfl rfl (aF (edT g3 rfl) (aI (aIG f (0:Int) (by decide)) rfl (aF (edT g3 rfl) (qO rfl rfl (aS (edT g3 rfl) rfl ?_))))))
   exact ⟨(dH g3),h2,h3,trivial⟩
  ·
   refine G_n (edF g3 rfl) (G_n (edF g3 rfl) (G_n (edF g3 rfl) (aT (edF g3 rfl) rfl ?_)))
   exact ⟨(dG g3),h2,h3,trivial⟩
 intro T H ⟨t24,h2,h3,_⟩
 refine aA t24 (R_e (aO ?_))
 refine bI (rVq (V.bool (decide ((((((m.nx.length:Nat):Int)≤(8:Int))∧(((m.ot.length:Nat):Int)≤(8:Int)))∧(m.i≤(4:Int)))∧((szl f (0:Int))≤(12:Int)))))) (bA ?_)
 · unfold aEG; exact decide_eq_decide.2 (by omega)
def aUb:List SO:=[
 sO 18 (.call false 48 []),
 qL 19 3 1,
 sO 20 (.call false 49 [.t 19]),
 sO 21 (.call false 23 [.t 18,.t 20]),
 qM 17 21,
 qE 22 17 0,
 qE 23 17 1,
 qE 24 17 2,
 sO 3 (.alloc 54 [.nilsl,.nilsl]),
 sN (.store 2 (.t 3) (.t 22)),
 qM 4 23,
 qM 5 24]
def aSv:List SO:=[
 sO 26 (.call false 48 []),
 qL 27 3 2,
 sO 28 (.call false 49 [.t 27]),
 sO 29 (.call false 23 [.t 26,.t 28]),
 qM 25 29,
 qE 30 25 0,
 qE 31 25 1,
 qE 32 25 2,
 sO 6 (.alloc 54 [.nilsl,.nilsl]),
 sN (.store 2 (.t 6) (.t 30)),
 qM 7 31,
 qM 8 32]
def aSu:List SO:=[
 sO 34 (.call false 48 []),
 sO 35 (.build zFq [(0,1,.c (.int .i64 3)),(1,1,.c (.int .i64 3))]),
 sO 36 (.call false 49 [.t 35]),
 sO 37 (.call false 23 [.t 34,.t 36]),
 qM 33 37,
 qE 38 33 0,
 qE 39 33 1,
 qE 40 33 2,
 sO 9 (.alloc 54 [.nilsl,.nilsl]),
 sN (.store 2 (.t 9) (.t 38)),
 qM 10 39,
 qM 11 40]
def aSQ:List SO:=[
 qM 41 4,
 qM 42 41,
 ⟨some (42,true),some 43,.mv (.t 5)⟩,
 ⟨some (42,true),some 44,.bin .eql (.t 43) (.c (.int .i64 0))⟩,
 sO 45 (.pick (.t 42) (.t 44) (.c (.bool false))),
 qM 46 45,
 ⟨some (46,true),some 47,.fld 0 (.t 3)⟩,
 ⟨some (46,true),some 48,.load false 1 (.t 47)⟩,
 ⟨some (46,true),some 49,.bslice 3 1 false [.int .i64 0] 2 [(0,.c (.int .i64 0)),(1,.c (.int .i64 1))]⟩,
 ⟨some (46,true),some 50,.call false 32 [.t 48,.t 49]⟩,
 sO 51 (.pick (.t 46) (.t 50) (.c (.bool false))),
 qM 52 51,
 ⟨some (52,true),some 53,.fld 1 (.t 3)⟩,
 ⟨some (52,true),some 54,.load false 1 (.t 53)⟩,
 ⟨some (52,true),some 55,.bslice 3 1 false [.int .i64 0] 2 [(0,.c (.int .i64 1)),(1,.c (.int .i64 2))]⟩,
 ⟨some (52,true),some 56,.call false 32 [.t 54,.t 55]⟩,
 sO 57 (.pick (.t 52) (.t 56) (.c (.bool false))),
 qM 58 57,
 ⟨some (58,true),some 59,.mv (.t 7)⟩,
 sO 60 (.pick (.t 58) (.t 59) (.c (.bool false))),
 qM 61 60,
 ⟨some (61,true),some 62,.mv (.t 8)⟩,
 ⟨some (61,true),some 63,.bin .eql (.t 62) (.c (.int .i64 0))⟩,
 sO 64 (.pick (.t 61) (.t 63) (.c (.bool false))),
 qM 65 64,
 ⟨some (65,true),some 66,.fld 0 (.t 6)⟩,
 ⟨some (65,true),some 67,.load false 1 (.t 66)⟩,
 ⟨some (65,true),some 68,.bslice 3 1 false [.int .i64 0] 1 [(0,.c (.int .i64 1))]⟩,
 ⟨some (65,true),some 69,.call false 32 [.t 67,.t 68]⟩,
 sO 70 (.pick (.t 65) (.t 69) (.c (.bool false))),
 qM 71 70,
 ⟨some (71,true),some 72,.mv (.t 10)⟩,
 ⟨some (71,true),some 73,.un .not (.t 72)⟩,
 sO 74 (.pick (.t 71) (.t 73) (.c (.bool false))),
 qM 75 74,
 ⟨some (75,true),some 76,.mv (.t 11)⟩,
 ⟨some (75,true),some 77,.bin .eql (.t 76) (.c (.int .i64 0))⟩,
 sO 78 (.pick (.t 75) (.t 77) (.c (.bool false))),
 qM 0 78]
def s22:SF:=⟨79,[.tmp 0],.seq (.reg [sO 0 (.mv (.c (.bool false)))]) (.seq (.reg [sO 12 (.build zFq [(0,1,.c (.int .i64 3)),(1,1,.c (.int .i64 2))]),sO 1 (.alloc 24 zFq),sN (.store 3 (.t 1) (.t 12))]) (.seq (.reg [sO 13 (.build zFq [(0,1,.c (.int .i64 2)),(1,1,.c (.int .i64 1))]),sO 14 (.build zFq [(0,1,.c (.int .i64 3)),(1,1,.c (.int .i64 0))]),sO 15 (.bslice 24 3 false zFq 2 [(0,.t 13),(1,.t 14)]),sO 16 (.build zFq [(0,1,.c (.int .i64 5)),(2,1,.t 15)]),sO 2 (.alloc 24 zFq),sN (.store 3 (.t 2) (.t 16))]) (.seq (.dreg [3] aUb) (.seq (.dreg [6] aSv) (.seq (.reg aSu) (.seq (.reg aSQ) (.ret)))))))⟩
theorem aQM:bJ Tryz.prog ⟨oEq,[],[],[]⟩ Tryz.f22=some s22:=by kernel_rfl
def aTX:List SO:=[
 qL 35 3 3,
 sO 36 (.call false 11 [.t 35]),
 qM 34 36,
 qE 37 34 0,
 qE 38 34 1,
 sO 9 (.alloc 24 zFq),
 sN (.store 3 (.t 9) (.t 37)),
 qM 10 38]
def aR3:List SO:=[
 qF 46 1 2,
 ql 47 46,
 qL 48 3 9,
 sO 49 (.build [.int .i64 0,.int .i64 0,.int .i64 0,.nilsl,.nilsl] [(0,1,.t 47),(1,3,.t 48),(4,1,.c (.nilsl))]),
 sO 50 (.call true 51 [.t 11,.t 49]),
 qM 45 50,
 qE 51 45 0,
 qE 52 45 1,
 qM 12 51,
 qM 10 52]
def aRY:List SO:=[
 qF 68 1 11,
 ql 69 68,
 qM 70 13,
 qA 71 5 69 70,
 qL 72 5 71,
 sO 14 (.alloc 95 [.int .i64 0,.int .i64 0,.int .i64 0,.nilsl,.nilsl]),
 sN (.store 5 (.t 14) (.t 72))]
def aOC:List SO:=[
 qF 79 1 14,
 qL 80 3 79,
 qM 81 15,
 qF 82 3 2,
 ql 83 82,
 qF 84 0 14,
 ql 85 84,
 qA 86 1 83 85,
 ql 87 86,
 qM 88 15,
 qA 89 1 87 88,
 ql 90 89,
 sO 91 (.call false 13 [.t 80,.t 81,.t 90]),
 qM 78 91,
 qE 92 78 0,
 qE 93 78 1,
 sO 16 (.alloc 24 zFq),
 sN (.store 3 (.t 16) (.t 92)),
 qM 17 93]
def aQJ:List SO:=[
 qF 98 4 14,
 ql 99 98,
 qM 100 15,
 sO 101 (.bslice 3 1 false [.int .i64 0] 1 [(0,.t 100)]),
 sO 102 (.bslice 52 1 false [.nilsl] 2 [(0,.t 99),(1,.t 101)]),
 sO 103 (.call false 52 [.t 102]),
 qM 18 103]
def aQO:List SO:=[
 qF 105 2 2,
 ql 106 105,
 qF 107 0 14,
 ql 108 107,
 qA 109 1 106 108,
 ql 110 109,
 qM 111 15,
 qA 112 1 110 111,
 ql 113 112,
 qL 114 3 16,
 qM 115 18,
 sO 116 (.build [.int .i64 0,.int .i64 0,.int .i64 0,.nilsl,.nilsl] [(0,1,.t 113),(1,3,.t 114),(4,1,.t 115)]),
 sO 117 (.call true 51 [.t 11,.t 116]),
 qM 104 117,
 qE 118 104 0,
 qE 119 104 1,
 qM 19 118,
 qM 17 119]
def aOM:List SO:=[
 qL 126 4 2,
 qM 127 18,
 sO 128 (.call false 30 [.t 126,.t 127]),
 qM 125 128,
 qE 129 125 0,
 qE 130 125 1,
 qM 20 129,
 qM 21 130]
def aPI:List SO:=[
 qM 131 18,
 qM 132 20,
 sO 133 (.build [.nilsl,.nilsl] [(0,1,.t 131),(1,1,.t 132)]),
 qM 134 21,
 qC 135 .eql 134 0,
 qM 136 21,
 sN (.store 2 (.t 4) (.t 133)),
 qM 5 135,
 qM 6 136]
def aOl:SC:=.seq (.reg [qP 76 .lss 75 74]) (.seq (.cond (.t 76) (.skip) (.exit 2)) (.seq (.block 3 (.seq (.reg [qM 77 75,qM 15 77]) (.seq (.dreg [16] aOC) (.seq (.seq (.reg [qM 94 17,qC 95 .neq 94 0]) (.cond (.t 95) (.seq (.reg [sO 96 (.build [.nilsl,.nilsl] []),qM 97 17,sN (.store 2 (.t 4) (.t 96)),sO 5 (.mv (.c (.bool false))),qM 6 97]) (.ret)) (.skip))) (.seq (.reg aQJ) (.seq (.reg aQO) (.seq (.seq (.reg [qM 120 17,qC 121 .neq 120 0]) (.cond (.t 121) (.seq (.reg [sO 122 (.build [.nilsl,.nilsl] []),qM 123 17,sN (.store 2 (.t 4) (.t 122)),sO 5 (.mv (.c (.bool false))),qM 6 123]) (.ret)) (.skip))) (.seq (.reg [qM 124 19]) (.cond (.t 124) (.seq (.reg aOM) (.seq (.reg aPI) (.ret))) (.skip)))))))))) (.reg [qC 137 .add 75 1,qM 75 137])))
def aNN:SC:=.seq (.seq (.reg [qM 61 13,qF 62 1 11,ql 63 62,qN 64 63,qP 65 .lss 61 64]) (.cond (.t 65) (.skip) (.exit 0))) (.seq (.block 1 (.seq (.reg aRY) (.seq (.reg [qF 73 0 2,ql 74 73,qI 75 0]) (.block 2 (.loop aOl))))) (.reg [qM 66 13,qC 67 .add 66 1,qM 13 67]))
def s23:SF:=⟨139,[.cell 4 true 2,.tmp 5,.tmp 6],.seq (.reg [sO 2 (.box 50 4 (.t 0)),sO 3 (.box 24 3 (.t 1)),sO 4 (.alloc 54 [.nilsl,.nilsl]),sO 5 (.mv (.c (.bool false))),qI 6 0]) (.seq (.seq (.reg [qL 22 4 2,sO 23 (.call false 50 [.t 22]),qM 7 23]) (.seq (.reg [qM 24 7,qC 25 .neq 24 0]) (.cond (.t 25) (.seq (.reg [sO 26 (.build [.nilsl,.nilsl] []),qM 27 7,sN (.store 2 (.t 4) (.t 26)),sO 5 (.mv (.c (.bool false))),qM 6 27]) (.ret)) (.skip)))) (.seq (.seq (.reg [qL 28 3 3,sO 29 (.call false 35 [.t 28]),qM 8 29]) (.seq (.reg [qM 30 8,qC 31 .neq 30 0]) (.cond (.t 31) (.seq (.reg [sO 32 (.build [.nilsl,.nilsl] []),qM 33 8,sN (.store 2 (.t 4) (.t 32)),sO 5 (.mv (.c (.bool false))),qM 6 33]) (.ret)) (.skip)))) (.seq (.reg aTX) (.seq (.seq (.reg [qM 39 10,qC 40 .neq 39 0]) (.cond (.t 40) (.seq (.reg [sO 41 (.build [.nilsl,.nilsl] []),qM 42 10,sN (.store 2 (.t 4) (.t 41)),sO 5 (.mv (.c (.bool false))),qM 6 42]) (.ret)) (.skip))) (.seq (.reg [sO 43 (.mkmap),sO 44 (.build [.raw (.map none),.nilsl,.int .i64 0,.str []] [(0,1,.t 43)]),sO 11 (.alloc 92 [.raw (.map none),.nilsl,.int .i64 0,.str []]),sN (.store 4 (.t 11) (.t 44))]) (.seq (.reg aR3) (.seq (.seq (.reg [qM 53 10,qC 54 .neq 53 0,qM 55 54,⟨some (55,false),some 56,.mv (.t 12)⟩,sO 57 (.pick (.t 55) (.c (.bool true)) (.t 56))]) (.cond (.t 57) (.seq (.reg [sO 58 (.build [.nilsl,.nilsl] []),qM 59 12,qM 60 10,sN (.store 2 (.t 4) (.t 58)),qM 5 59,qM 6 60]) (.ret)) (.skip))) (.seq (.seq (.reg [qI 13 0]) (.block 0 (.loop aNN))) (.seq (.reg [sO 138 (.build [.nilsl,.nilsl] []),sN (.store 2 (.t 4) (.t 138)),sO 5 (.mv (.c (.bool false))),qI 6 0]) (.ret))))))))))⟩
theorem aOR:bJ Tryz.prog ⟨oEq,[],[],[]⟩ Tryz.f23=some s23:=by kernel_rfl
def aTr:List SO:=[
 qL 11 3 1,
 sO 12 (.call false 37 [.t 11,.c (.bool false)]),
 sO 13 (.call false 36 [.t 12]),
 qE 14 13 0,
 qE 15 13 1,
 sN (.store 3 (.t 2) (.t 14)),
 qM 3 15]
def s11:SF:=⟨16,[.cell 2 true 3,.tmp 3],.seq (.reg [sO 1 (.box 24 3 (.t 0)),sO 2 (.alloc 24 zFq),qI 3 0]) (.seq (.seq (.reg [qL 5 3 1,sO 6 (.call false 35 [.t 5]),qM 4 6]) (.seq (.reg [qM 7 4,qC 8 .neq 7 0]) (.cond (.t 8) (.seq (.reg [sO 9 (.build zFq []),qM 10 4,sN (.store 3 (.t 2) (.t 9)),qM 3 10]) (.ret)) (.skip)))) (.seq (.reg aTr) (.ret)))⟩
theorem aPy:bJ Tryz.prog ⟨oEq,[],[],[]⟩ Tryz.f11=some s11:=by kernel_rfl
def s35:SF:=⟨9,[.tmp 2],.seq (.reg [sO 1 (.box 24 3 (.t 0)),qI 2 0]) (.seq (.reg [sO 4 (.build [.int .i64 0] []),sO 5 (.box 105 1 (.t 4)),qM 3 5]) (.seq (.reg [qM 6 3,qL 7 3 1,sO 8 (.call true 59 [.t 6,.t 7,.c (.int .i64 1)]),qM 2 8]) (.ret)))⟩
theorem aPQ:bJ Tryz.prog ⟨oEq,[],[],[]⟩ Tryz.f35=some s35:=by kernel_rfl
def aSk:List SO:=[
 qM 11 0,
 sO 12 (.nilck (.t 11)),
 qF 13 0 12,
 ql 14 13,
 qC 15 .add 14 1,
 sO 16 (.nilck (.t 11)),
 qF 17 0 16,
 sN (.store 1 (.t 17) (.t 15))]
def aN9:SC:=.seq (.reg [qP 36 .lss 35 34]) (.seq (.cond (.t 36) (.skip) (.exit 1)) (.seq (.block 2 (.seq (.reg [qA 37 3 33 35,qL 38 3 37,sO 9 (.alloc 24 zFq),sN (.store 3 (.t 9) (.t 38))]) (.seq (.reg [qM 39 0,qL 40 3 9,qM 41 2,qC 42 .add 41 1,sO 43 (.call true 59 [.t 39,.t 40,.t 42]),qM 10 43]) (.seq (.reg [qM 44 10,qC 45 .neq 44 0]) (.cond (.t 45) (.seq (.reg [qM 46 10,qM 6 46]) (.ret)) (.skip)))))) (.reg [qC 47 .add 35 1,qM 35 47])))
def s59:SF:=⟨48,[.tmp 6],.seq (.reg [sO 4 (.box 24 3 (.t 1)),qI 6 0]) (.seq (.reg aSk) (.seq (.block 0 (.seq (.reg [qM 19 0,sO 20 (.nilck (.t 19)),qF 21 0 20,ql 22 21,qC 23 .gtr 22 4096,qM 18 23]) (.cond (.t 18) (.seq (.reg [qI 6 11]) (.ret)) (.seq (.reg [qM 25 2,qC 26 .gtr 25 64,qM 24 26]) (.cond (.t 24) (.seq (.reg [qI 6 16]) (.ret)) (.skip)))))) (.seq (.seq (.reg [qL 27 3 4,sO 28 (.call false 86 [.t 27]),qM 7 28]) (.seq (.reg [qM 29 7,qC 30 .neq 29 0]) (.cond (.t 30) (.seq (.reg [qM 31 7,qM 6 31]) (.ret)) (.skip)))) (.seq (.seq (.reg [qF 32 2 4,ql 33 32,qN 34 33,qI 35 0]) (.block 1 (.loop aN9))) (.seq (.reg [qI 6 0]) (.ret))))))⟩
theorem aRv:bJ Tryz.prog ⟨oEq,[],[],[]⟩ Tryz.f59=some s59:=by kernel_rfl
def aSj:List SO:=[
 qF 8 0 1,
 ql 9 8,
 sO 10 (.call false 106 [.t 9]),
 qM 7 10,
 qE 11 7 0,
 qE 12 7 1,
 qM 3 11,
 qM 4 12]
def aTV:List SO:=[
 qF 16 0 1,
 ql 17 16,
 qC 18 .eql 17 2,
 qM 19 18,
 ⟨some (19,false),some 20,.fld 0 (.t 1)⟩,
 ⟨some (19,false),some 21,.load false 1 (.t 20)⟩,
 ⟨some (19,false),some 22,.bin .eql (.t 21) (.c (.int .i64 3))⟩,
 sO 23 (.pick (.t 19) (.c (.bool true)) (.t 22)),
 qM 6 23]
def aSS:List SO:=[
 qF 25 0 1,
 ql 26 25,
 qC 27 .lss 26 1,
 qM 28 27,
 ⟨some (28,false),some 29,.fld 0 (.t 1)⟩,
 ⟨some (28,false),some 30,.load false 1 (.t 29)⟩,
 ⟨some (28,false),some 31,.bin .gtr (.t 30) (.c (.int .i64 10))⟩,
 sO 32 (.pick (.t 28) (.c (.bool true)) (.t 31)),
 qM 33 32,
 ⟨some (33,false),some 34,.mv (.t 5)⟩,
 ⟨some (33,false),some 35,.mv (.t 3)⟩,
 ⟨some (33,false),some 36,.bin .lss (.t 34) (.t 35)⟩,
 sO 37 (.pick (.t 33) (.c (.bool true)) (.t 36)),
 qM 38 37,
 ⟨some (38,false),some 39,.mv (.t 4)⟩,
 ⟨some (38,false),some 40,.bin .geq (.t 39) (.c (.int .i64 0))⟩,
 ⟨some (38,false),some 41,.mv (.t 40)⟩,
 ⟨some (41,true),some 42,.mv (.t 5)⟩,
 ⟨some (41,true),some 43,.mv (.t 4)⟩,
 ⟨some (41,true),some 44,.bin .gtr (.t 42) (.t 43)⟩,
 ⟨some (38,false),some 45,.pick (.t 41) (.t 44) (.c (.bool false))⟩,
 sO 46 (.pick (.t 38) (.c (.bool true)) (.t 45)),
 qM 47 46,
 ⟨some (47,false),some 48,.mv (.t 6)⟩,
 ⟨some (47,false),some 49,.un .not (.t 48)⟩,
 ⟨some (47,false),some 50,.mv (.t 49)⟩,
 ⟨some (50,true),some 51,.fld 1 (.t 1)⟩,
 ⟨some (50,true),some 52,.load false 1 (.t 51)⟩,
 ⟨some (50,true),some 53,.bin .neq (.t 52) (.c (.int .i64 0))⟩,
 ⟨some (47,false),some 54,.pick (.t 50) (.t 53) (.c (.bool false))⟩,
 sO 55 (.pick (.t 47) (.c (.bool true)) (.t 54)),
 qM 24 55]
def aSG:List SO:=[
 qF 57 0 1,
 ql 58 57,
 qC 59 .eql 58 2,
 qM 60 59,
 ⟨some (60,true),some 61,.fld 1 (.t 1)⟩,
 ⟨some (60,true),some 62,.load false 1 (.t 61)⟩,
 ⟨some (60,true),some 63,.bin .lss (.t 62) (.c (.int .i64 0))⟩,
 ⟨some (60,true),some 64,.mv (.t 63)⟩,
 ⟨some (64,false),some 65,.fld 1 (.t 1)⟩,
 ⟨some (64,false),some 66,.load false 1 (.t 65)⟩,
 ⟨some (64,false),some 67,.bin .geq (.t 66) (.c (.int .i64 64))⟩,
 ⟨some (60,true),some 68,.pick (.t 64) (.c (.bool true)) (.t 67)⟩,
 sO 69 (.pick (.t 60) (.t 68) (.c (.bool false))),
 qM 70 69,
 ⟨some (70,false),some 71,.fld 0 (.t 1)⟩,
 ⟨some (70,false),some 72,.load false 1 (.t 71)⟩,
 ⟨some (70,false),some 73,.bin .eql (.t 72) (.c (.int .i64 3))⟩,
 ⟨some (70,false),some 74,.mv (.t 73)⟩,
 ⟨some (74,true),some 75,.fld 1 (.t 1)⟩,
 ⟨some (74,true),some 76,.load false 1 (.t 75)⟩,
 ⟨some (74,true),some 77,.bin .lss (.t 76) (.c (.int .i64 0))⟩,
 ⟨some (74,true),some 78,.mv (.t 77)⟩,
 ⟨some (78,false),some 79,.fld 1 (.t 1)⟩,
 ⟨some (78,false),some 80,.load false 1 (.t 79)⟩,
 ⟨some (78,false),some 81,.bin .gtr (.t 80) (.c (.int .i64 1048576))⟩,
 ⟨some (74,true),some 82,.pick (.t 78) (.c (.bool true)) (.t 81)⟩,
 ⟨some (70,false),some 83,.pick (.t 74) (.t 82) (.c (.bool false))⟩,
 sO 84 (.pick (.t 70) (.c (.bool true)) (.t 83)),
 qM 56 84]
def s86:SF:=⟨85,[.tmp 2],.seq (.reg [sO 1 (.box 24 3 (.t 0)),qI 2 0]) (.seq (.reg aSj) (.seq (.reg [qF 13 2 1,ql 14 13,qN 15 14,qM 5 15]) (.seq (.reg aTV) (.seq (.block 0 (.seq (.reg aSS) (.cond (.t 24) (.seq (.reg [qI 2 1]) (.ret)) (.seq (.reg aSG) (.cond (.t 56) (.seq (.reg [qI 2 2]) (.ret)) (.skip)))))) (.seq (.reg [qI 2 0]) (.ret))))))⟩
theorem aRn:bJ Tryz.prog ⟨oEq,[],[],[]⟩ Tryz.f86=some s86:=by kernel_rfl
def aSC:SF:=⟨15,[.tmp 2,.tmp 3],.seq (.reg [qI 2 0,qI 3 0]) (.seq (.seq (.reg [qM 4 0]) (.block 0 (.seq (.seq (.reg [qC 6 .eql 4 4,qM 5 6]) (.cond (.t 5) (.skip) (.seq (.reg [qC 7 .eql 4 7,qM 5 7]) (.cond (.t 5) (.skip) (.reg [qC 8 .eql 4 9,qM 5 8]))))) (.cond (.t 5) (.seq (.reg [qI 2 1,qI 3 1]) (.ret)) (.seq (.seq (.reg [qC 10 .eql 4 8,qM 9 10]) (.cond (.t 9) (.skip) (.reg [qC 11 .eql 4 10,qM 9 11]))) (.cond (.t 9) (.seq (.reg [qI 2 2,qI 3 2]) (.ret)) (.seq (.seq (.reg [qC 13 .eql 4 5,qM 12 13]) (.cond (.t 12) (.skip) (.reg [qC 14 .eql 4 6,qM 12 14]))) (.cond (.t 12) (.seq (.reg [qI 2 2,sO 3 (.mv (.c (.int .i64 (-1))))]) (.ret)) (.skip))))))))) (.seq (.reg [qI 2 0,qI 3 0]) (.ret)))⟩
theorem aMz:bJ Tryz.prog ⟨oEq,[],[],[]⟩ Tryz.f106=some aSC:=by kernel_rfl
theorem aHG (o:Int):aQ Tryz.prog 106 [(iV o)] (V.tup [(iV (kLo o)),(iV (kHi o))]):=by
 refine pW Tryz.func106 aMz fun hB=>?_
 unfold aSC
 dsimp only
 refine W_r (aA rfl (aA rfl (R_e (aB (W_r (aA rfl (R_e ?_)))))))
 refine aD fun Q1 n1 x1 y1 z1=>(aB (W_r (aY rfl rfl (aA rfl (R_e ?_)))))
 refine aH rfl (fun c2=>?_) fun c2=>?_
 ·
  refine aC ?_
  refine cD rfl (fun c3=>?_) fun c3=>?_
  ·
   refine W_r (aA rfl (aA rfl (R_e (aO (y1 _ _ ?_)))))
   refine dC (rVq (iV 1)) (rVq (iV 1)) (aE ?_) (aE ?_)
   · simp only [kLo,kHi]; repeat (first|rfl|omega|split)
   · simp only [kLo,kHi]; repeat (first|rfl|omega|split)
  · exact (c3 c2).elim
 refine aB (W_r (aY rfl rfl (aA rfl (R_e ?_))))
 refine aH rfl (fun c4=>?_) fun c4=>?_
 ·
  refine aC ?_
  refine cD rfl (fun c5=>?_) fun c5=>?_
  ·
   refine W_r (aA rfl (aA rfl (R_e (aO (y1 _ _ ?_)))))
   refine dC (rVq (iV 1)) (rVq (iV 1)) (aE ?_) (aE ?_)
   · simp only [kLo,kHi]; repeat (first|rfl|omega|split)
   · simp only [kLo,kHi]; repeat (first|rfl|omega|split)
  · exact (c5 c4).elim
 refine W_r (aY rfl rfl (aA rfl (R_e ?_)))
 refine cD rfl (fun c6=>?_) fun c6=>?_
 ·
  refine W_r (aA rfl (aA rfl (R_e (aO (y1 _ _ ?_)))))
  refine dC (rVq (iV 1)) (rVq (iV 1)) (aE ?_) (aE ?_)
  · simp only [kLo,kHi]; repeat (first|rfl|omega|split)
  · simp only [kLo,kHi]; repeat (first|rfl|omega|split)
 refine aB (W_r (aY rfl rfl (aA rfl (R_e ?_))))
 refine aH rfl (fun c7=>?_) fun c7=>?_
 ·
  refine aC ?_
  refine cD rfl (fun c8=>?_) fun c8=>?_
  ·
   refine W_r (aA rfl (aA rfl (R_e (aO (y1 _ _ ?_)))))
   refine dC (rVq (iV 2)) (rVq (iV 2)) (aE ?_) (aE ?_)
   · simp only [kLo,kHi]; repeat (first|rfl|omega|split)
   · simp only [kLo,kHi]; repeat (first|rfl|omega|split)
  · exact (c8 c7).elim
 refine W_r (aY rfl rfl (aA rfl (R_e ?_)))
 refine cD rfl (fun c9=>?_) fun c9=>?_
 ·
  refine W_r (aA rfl (aA rfl (R_e (aO (y1 _ _ ?_)))))
  refine dC (rVq (iV 2)) (rVq (iV 2)) (aE ?_) (aE ?_)
  · simp only [kLo,kHi]; repeat (first|rfl|omega|split)
  · simp only [kLo,kHi]; repeat (first|rfl|omega|split)
 refine aB (W_r (aY rfl rfl (aA rfl (R_e ?_))))
 refine aH rfl (fun c10=>?_) fun c10=>?_
 ·
  refine aC ?_
  refine cD rfl (fun c11=>?_) fun c11=>?_
  ·
   refine W_r (aA rfl (aA rfl (R_e (aO (y1 _ _ ?_)))))
   refine dC (rVq (iV 2)) (rVq (iV (-1))) (aE ?_) (aE ?_)
   · simp only [kLo,kHi]; repeat (first|rfl|omega|split)
   · simp only [kLo,kHi]; repeat (first|rfl|omega|split)
  · exact (c11 c10).elim
 refine W_r (aY rfl rfl (aA rfl (R_e ?_)))
 refine cD rfl (fun c12=>?_) fun c12=>?_
 ·
  refine W_r (aA rfl (aA rfl (R_e (aO (y1 _ _ ?_)))))
  refine dC (rVq (iV 2)) (rVq (iV (-1))) (aE ?_) (aE ?_)
  · simp only [kLo,kHi]; repeat (first|rfl|omega|split)
  · simp only [kLo,kHi]; repeat (first|rfl|omega|split)
 refine cM (n1 _ _ (.done (W_r (aA rfl (aA rfl (R_e (aO ?_)))))))
 refine dC (rVq (iV 0)) (rVq (iV 0)) (aE ?_) (aE ?_)
 · simp only [kLo,kHi]; repeat (first|rfl|omega|split)
 · simp only [kLo,kHi]; repeat (first|rfl|omega|split)
theorem aD6 (f:Fm):aQ Tryz.prog 86 [(V.agg (rFq f))] (iV (rgt f)):=by
 refine pW Tryz.func86 aRn fun hB=>?_
 unfold s86
 dsimp only
 refine W_r (cE (i:=1) (n:=0) (m:=3) (cs:=(rFq f)) rfl (cVq rfl) rfl rfl rfl (aA rfl (R_e (W_r (aM rfl rfl (aJ rfl rfl rfl rfl (aI (aHG f.op) rfl ?_)))))))
 refine aA rfl (bH rfl rfl (bH rfl rfl (aA rfl (aA rfl (R_e (W_r (aM rfl rfl ?_)))))))
 refine aJ rfl rfl rfl rfl (bG rfl (aA rfl (R_e (W_r (aM rfl rfl (aJ rfl rfl rfl rfl (aY rfl rfl ?_)))))))
 refine aA rfl ?_
 refine aV 4 (fun T H=>T 1=(mPq 1)∧T 3=(iV (kLo f.op))∧T 4=(iV (kHi f.op))∧T 5=(iV ((f.kids.length:Nat):Int))∧T 23=(V.bool (decide ((f.op=(2:Int))∨(f.op=(3:Int)))))∧H 1=(bFq f)∧True) ?_ ?_
 ·
  by_cases g1:f.op=(2:Int)
  ·
   refine G_n (edT g1 rfl) (G_n (edT g1 rfl) (G_n (edT g1 rfl) (aS (edT g1 rfl) rfl ?_)))
   exact ⟨rfl,rfl,rfl,rfl,(cQ g1),rfl,trivial⟩
  ·
   refine aF (edF g1 rfl) (aM rfl rfl (aF (edF g1 rfl) (aJ rfl rfl rfl rfl (aF (edF g1 rfl) (aY rfl rfl (aT (edF g1 rfl) rfl ?_))))))
   exact ⟨rfl,rfl,rfl,rfl,(cR g1),rfl,trivial⟩
 intro T H ⟨t1,t3,t4,t5,t23,h1,_⟩
 refine aA t23 (R_e (aD fun Q2 n2 x2 y2 z2=>?_))
 refine kX (fun T H=>T 1=(mPq 1)∧T 24=(V.bool (decide (((((f.op < (1:Int))∨((10:Int) < f.op))∨(((f.kids.length:Nat):Int) < (kLo f.op)))∨(((0:Int)≤(kHi f.op))∧((kHi f.op) < ((f.kids.length:Nat):Int))))∨((¬((f.op=(2:Int))∨(f.op=(3:Int))))∧(f.arg≠(0:Int))))))∧H 1=(bFq f)∧True) ?_ ?_
 ·
  refine aM t1 h1 (aJ rfl h1 rfl rfl (bM rfl rfl (aA rfl ?_)))
  refine aV 4 (fun T H=>T 1=(mPq 1)∧T 3=(iV (kLo f.op))∧T 4=(iV (kHi f.op))∧T 5=(iV ((f.kids.length:Nat):Int))∧T 6=(V.bool (decide ((f.op=(2:Int))∨(f.op=(3:Int)))))∧T 32=(V.bool (decide ((f.op < (1:Int))∨((10:Int) < f.op))))∧H 1=(bFq f)∧True) ?_ ?_
  ·
   by_cases g3:f.op < (1:Int)
   ·
    refine G_n (edT g3 rfl) (G_n (edT g3 rfl) (G_n (edT g3 rfl) (aS (edT g3 rfl) rfl ?_)))
    exact ⟨t1,t3,t4,t5,rfl,(cQ g3),h1,trivial⟩
   ·
    refine aF (edF g3 rfl) (aM t1 h1 (aF (edF g3 rfl) (aJ rfl h1 rfl rfl (aF (edF g3 rfl) (fJ rfl rfl (aT (edF g3 rfl) rfl ?_))))))
    exact ⟨t1,t3,t4,t5,rfl,(cR g3),h1,trivial⟩
  intro T H ⟨t1,t3,t4,t5,t6,t32,h1,_⟩
  refine aA t32 ?_
  refine aV 4 (fun T H=>T 1=(mPq 1)∧T 4=(iV (kHi f.op))∧T 5=(iV ((f.kids.length:Nat):Int))∧T 6=(V.bool (decide ((f.op=(2:Int))∨(f.op=(3:Int)))))∧T 37=(V.bool (decide (((f.op < (1:Int))∨((10:Int) < f.op))∨(((f.kids.length:Nat):Int) < (kLo f.op)))))∧H 1=(bFq f)∧True) ?_ ?_
  ·
   by_cases g4:(f.op < (1:Int))∨((10:Int) < f.op)
   ·
    refine G_n (edT g4 rfl) (G_n (edT g4 rfl) (G_n (edT g4 rfl) (aS (edT g4 rfl) rfl ?_)))
    exact ⟨t1,t4,t5,t6,(cQ g4),h1,trivial⟩
   ·
    refine aF (edF g4 rfl) (aA t5 (aF (edF g4 rfl) (aA t3 (aF (edF g4 rfl) (bM rfl rfl (aT (edF g4 rfl) rfl ?_))))))
    exact ⟨t1,t4,t5,t6,(cR g4),h1,trivial⟩
  intro T H ⟨t1,t4,t5,t6,t37,h1,_⟩
  refine aA t37 ?_
  refine aV 8 (fun T H=>T 1=(mPq 1)∧T 6=(V.bool (decide ((f.op=(2:Int))∨(f.op=(3:Int)))))∧T 46=(V.bool (decide ((((f.op < (1:Int))∨((10:Int) < f.op))∨(((f.kids.length:Nat):Int) < (kLo f.op)))∨(((0:Int)≤(kHi f.op))∧((kHi f.op) < ((f.kids.length:Nat):Int))))))∧H 1=(bFq f)∧True) ?_ ?_
  ·
   by_cases g5:((f.op < (1:Int))∨((10:Int) < f.op))∨(((f.kids.length:Nat):Int) < (kLo f.op))
   ·
    refine G_n (edT g5 rfl) (G_n (edT g5 rfl) (G_n (edT g5 rfl) (eZ (rVq (V.raw undef)) (eZ (rVq (V.raw undef)) (eZ (rVq (V.raw undef)) (G_n (edT g5 rfl) (aS (edT g5 rfl) rfl ?_)))))))
    exact ⟨t1,t6,(cQ g5),h1,trivial⟩
   ·
    refine aF (edF g5 rfl) (aA t4 (aF (edF g5 rfl) (jN rfl rfl (aF (edF g5 rfl) (aA rfl ?_)))))
    refine aV 4 (fun T H=>T 1=(mPq 1)∧T 6=(V.bool (decide ((f.op=(2:Int))∨(f.op=(3:Int)))))∧T 38=(V.bool false)∧T 45=(V.bool (decide (((0:Int)≤(kHi f.op))∧((kHi f.op) < ((f.kids.length:Nat):Int)))))∧H 1=(bFq f)∧True) ?_ ?_
    ·
     by_cases g6:(0:Int)≤(kHi f.op)
     ·
      refine aF (edT g6 rfl) (aA t5 (aF (edT g6 rfl) (aA t4 (aF (edT g6 rfl) (fJ rfl rfl (aF (edF g5 rfl) (aS (edT g6 rfl) rfl ?_)))))))
      exact ⟨t1,t6,(edF g5 rfl),(dH g6),h1,trivial⟩
     ·
      refine G_n (edF g6 rfl) (G_n (edF g6 rfl) (G_n (edF g6 rfl) (aF (edF g5 rfl) (aT (edF g6 rfl) rfl ?_))))
      exact ⟨t1,t6,(edF g5 rfl),(dG g6),h1,trivial⟩
    intro T H ⟨t1,t6,t38,t45,h1,_⟩
    refine aT t38 t45 ?_
    exact ⟨t1,t6,(cR g5),h1,trivial⟩
  intro T H ⟨t1,t6,t46,h1,_⟩
  refine aA t46 ?_
  refine aV 8 (fun T H=>T 1=(mPq 1)∧T 55=(V.bool (decide (((((f.op < (1:Int))∨((10:Int) < f.op))∨(((f.kids.length:Nat):Int) < (kLo f.op)))∨(((0:Int)≤(kHi f.op))∧((kHi f.op) < ((f.kids.length:Nat):Int))))∨((¬((f.op=(2:Int))∨(f.op=(3:Int))))∧(f.arg≠(0:Int))))))∧H 1=(bFq f)∧True) ?_ ?_
  ·
   by_cases g7:(((f.op < (1:Int))∨((10:Int) < f.op))∨(((f.kids.length:Nat):Int) < (kLo f.op)))∨(((0:Int)≤(kHi f.op))∧((kHi f.op) < ((f.kids.length:Nat):Int)))
   ·
    refine G_n (edT g7 rfl) (G_n (edT g7 rfl) (G_n (edT g7 rfl) (eZ (rVq (V.raw undef)) (eZ (rVq (V.raw undef)) (eZ (rVq (V.raw undef)) (G_n (edT g7 rfl) (aS (edT g7 rfl) rfl ?_)))))))
    exact ⟨t1,(cQ g7),h1,trivial⟩
   ·
    refine aF (edF g7 rfl) (aA t6 (aF (edF g7 rfl) (vP rfl (aF (edF g7 rfl) (aA rfl ?_)))))
    refine aV 4 (fun T H=>T 1=(mPq 1)∧T 47=(V.bool false)∧T 54=(V.bool (decide ((¬((f.op=(2:Int))∨(f.op=(3:Int))))∧(f.arg≠(0:Int)))))∧H 1=(bFq f)∧True) ?_ ?_
    ·
     by_cases g8: ¬((f.op=(2:Int))∨(f.op=(3:Int)))
     ·
      refine aF (edT g8 rfl) (aM t1 h1 (aF (edT g8 rfl) (aJ rfl h1 rfl rfl (aF (edT g8 rfl) (bZ rfl rfl (aF (edF g7 rfl) (aS (edT g8 rfl) rfl ?_)))))))
      exact ⟨t1,(edF g7 rfl),(dH g8),h1,trivial⟩
     ·
      refine G_n (edF g8 rfl) (G_n (edF g8 rfl) (G_n (edF g8 rfl) (aF (edF g7 rfl) (aT (edF g8 rfl) rfl ?_))))
      exact ⟨t1,(edF g7 rfl),(dG g8),h1,trivial⟩
    intro T H ⟨t1,t47,t54,h1,_⟩
    refine aT t47 t54 ?_
    exact ⟨t1,(cR g7),h1,trivial⟩
  intro T H ⟨t1,t55,h1,_⟩
  refine aA t55 ?_
  exact eD ⟨t1,rfl,h1,trivial⟩
 intro T H ⟨t1,t24,h1,_⟩
 refine cD t24 (fun c9=>?_) fun c9=>?_
 ·
  refine W_r (aA rfl (R_e (aO (y2 _ _ ?_))))
  refine bI (rVq (iV 1)) (aE ?_)
  · simp only [rgt]; repeat (first|rfl|omega|split)
 refine W_r (aM t1 h1 (aJ rfl h1 rfl rfl (aY rfl rfl (aA rfl ?_))))
 refine aV 9 (fun T H=>T 1=(mPq 1)∧T 69=(V.bool (decide ((f.op=(2:Int))∧((f.arg < (0:Int))∨((64:Int)≤f.arg)))))∧H 1=(bFq f)∧True) ?_ ?_
 ·
  by_cases g10:f.op=(2:Int)
  ·
   refine aF (edT g10 rfl) (aM t1 h1 (aF (edT g10 rfl) (aJ rfl h1 rfl rfl (aF (edT g10 rfl) (bM rfl rfl (aF (edT g10 rfl) (aA rfl ?_)))))))
   refine aV 4 (fun T H=>T 1=(mPq 1)∧T 60=(V.bool true)∧T 68=(V.bool (decide ((f.arg < (0:Int))∨((64:Int)≤f.arg))))∧H 1=(bFq f)∧True) ?_ ?_
   ·
    by_cases g11:f.arg < (0:Int)
    ·
     refine G_n (edT g11 rfl) (G_n (edT g11 rfl) (G_n (edT g11 rfl) (aF (edT g10 rfl) (aS (edT g11 rfl) rfl ?_))))
     exact ⟨t1,(edT g10 rfl),(cQ g11),h1,trivial⟩
    ·
     refine aF (edF g11 rfl) (aM t1 h1 (aF (edF g11 rfl) (aJ rfl h1 rfl rfl (aF (edF g11 rfl) (jN rfl rfl (aF (edT g10 rfl) (aT (edF g11 rfl) rfl ?_)))))))
     exact ⟨t1,(edT g10 rfl),(cR g11),h1,trivial⟩
   intro T H ⟨t1,t60,t68,h1,_⟩
   refine aS t60 t68 ?_
   exact ⟨t1,(dH g10),h1,trivial⟩
  ·
   refine G_n (edF g10 rfl) (G_n (edF g10 rfl) (G_n (edF g10 rfl) (G_n (edF g10 rfl) (eZ (rVq (V.raw undef)) (eZ (rVq (V.raw undef)) (eZ (rVq (V.raw undef)) (G_n (edF g10 rfl) ?_)))))))
   refine aT (edF g10 rfl) rfl ?_
   exact ⟨t1,(dG g10),h1,trivial⟩
 intro T H ⟨t1,t69,h1,_⟩
 refine aA t69 ?_
 refine aV 14 (fun T H=>T 84=(V.bool (decide (((f.op=(2:Int))∧((f.arg < (0:Int))∨((64:Int)≤f.arg)))∨((f.op=(3:Int))∧((f.arg < (0:Int))∨((1048576:Int) < f.arg))))))∧H 1=(bFq f)∧True) ?_ ?_
 ·
  by_cases g12:(f.op=(2:Int))∧((f.arg < (0:Int))∨((64:Int)≤f.arg))
  ·
   refine G_n (edT g12 rfl) (G_n (edT g12 rfl) (G_n (edT g12 rfl) (G_n (edT g12 rfl) (eZ (rVq (V.raw undef)) (eZ (rVq (V.raw undef)) (eZ (rVq (V.raw undef)) (eZ (rVq (V.raw undef)) ?_)))))))
   refine eZ (rVq (V.raw undef)) (eZ (rVq (V.raw undef)) (eZ (rVq (V.raw undef)) (eZ (rVq (V.raw undef)) (G_n (edT g12 rfl) (aS (edT g12 rfl) rfl ?_)))))
   exact ⟨(cQ g12),h1,trivial⟩
  ·
   refine aF (edF g12 rfl) (aM t1 h1 (aF (edF g12 rfl) (aJ rfl h1 rfl rfl (aF (edF g12 rfl) (aY rfl rfl (aF (edF g12 rfl) (aA rfl ?_)))))))
   refine aV 9 (fun T H=>T 70=(V.bool false)∧T 83=(V.bool (decide ((f.op=(3:Int))∧((f.arg < (0:Int))∨((1048576:Int) < f.arg)))))∧H 1=(bFq f)∧True) ?_ ?_
   ·
    by_cases g13:f.op=(3:Int)
    ·
     refine aF (edT g13 rfl) (aM t1 h1 (aF (edT g13 rfl) (aJ rfl h1 rfl rfl (aF (edT g13 rfl) (bM rfl rfl (aF (edT g13 rfl) (aA rfl ?_)))))))
     refine aV 4 (fun T H=>T 70=(V.bool false)∧T 74=(V.bool true)∧T 82=(V.bool (decide ((f.arg < (0:Int))∨((1048576:Int) < f.arg))))∧H 1=(bFq f)∧True) ?_ ?_
     ·
      by_cases g14:f.arg < (0:Int)
      ·
       refine G_n (edT g14 rfl) (G_n (edT g14 rfl) (G_n (edT g14 rfl) (aF (edT g13 rfl) (aS (edT g14 rfl) rfl ?_))))
       exact ⟨(edF g12 rfl),(edT g13 rfl),(cQ g14),h1,trivial⟩
      ·
       refine aF (edF g14 rfl) (aM t1 h1 (aF (edF g14 rfl) (aJ rfl h1 rfl rfl (aF (edF g14 rfl) (fJ rfl rfl (aF (edT g13 rfl) (aT (edF g14 rfl) rfl ?_)))))))
       exact ⟨(edF g12 rfl),(edT g13 rfl),(cR g14),h1,trivial⟩
     intro T H ⟨t70,t74,t82,h1,_⟩
     refine aF t70 (aS t74 t82 ?_)
     exact ⟨t70,(dH g13),h1,trivial⟩
    ·
     refine G_n (edF g13 rfl) (G_n (edF g13 rfl) (G_n (edF g13 rfl) (G_n (edF g13 rfl) (eZ (rVq (V.raw undef)) (eZ (rVq (V.raw undef)) (eZ (rVq (V.raw undef)) (G_n (edF g13 rfl) ?_)))))))
     refine aF (edF g12 rfl) (aT (edF g13 rfl) rfl ?_)
     exact ⟨(edF g12 rfl),(dG g13),h1,trivial⟩
   intro T H ⟨t70,t83,h1,_⟩
   refine aT t70 t83 ?_
   exact ⟨(cR g12),h1,trivial⟩
 intro T H ⟨t84,h1,_⟩
 refine aA t84 (R_e ?_)
 refine cD rfl (fun c15=>?_) fun c15=>?_
 ·
  refine W_r (aA rfl (R_e (aO (y2 _ _ ?_))))
  refine bI (rVq (iV 2)) (aE ?_)
  · simp only [rgt]; repeat (first|rfl|omega|split)
 refine cM (n2 _ _ (.done (W_r (aA rfl (R_e (aO ?_))))))
 refine bI (rVq (iV 0)) (aE ?_)
 · simp only [rgt]; repeat (first|rfl|omega|split)
theorem aEc (v:Nat) (f:Fm) (lv b:Int) (hb:0≤b∧b≤4096) (hl:0≤lv∧lv≤65) (ih: ∀ (v:Nat) (g:Fm) (lv b:Int),g.sz < f.sz→0≤b∧b≤4096→0≤lv∧lv≤65→aAk Tryz.prog 59 1 [.mp 0 v 0 0,.agg [iV g.op,iV g.arg,.sl (g.kids.map cF)],iV lv] (hpB (bk v 105 1 [[iV b]])) (.ok (iV (exm g lv b).2) (hpB (bk v 105 1 [[iV (exm g lv b).1]])))):aAk Tryz.prog 59 1 [(V.mp 0 v 0 0),(V.agg (rFq f)),(iV lv)] (hpB (bk v 105 1 [[(iV b)]])) (.ok (iV (exm f lv b).2) (hpB (bk v 105 1 [[iV (exm f lv b).1]]))):=by
 refine lW (k0:=0) Tryz.func59 aRv fun hB=>?_
 unfold s59
 dsimp only
 refine W_r (cE (i:=4) (n:=0) (m:=3) (cs:=(rFq f)) rfl (cVq rfl) rfl rfl rfl (aA rfl (R_e (W_r (aA rfl (cA rfl rfl oB (aM rfl rfl ?_)))))))
 refine aJ rfl rfl rfl rfl (oO rfl rfl (by omega) (by omega) (cA rfl rfl oB (aM rfl rfl (bF rfl rfl rfl rfl rfl rfl rfl rfl rfl (R_e (aD fun Q1 n1 x1 y1 z1=>(W_r ?_)))))))
 refine aA rfl (cA rfl rfl oB (aM rfl rfl (aJ rfl rfl rfl rfl (fJ rfl rfl (aA rfl (R_e ?_))))))
 refine cD rfl (fun c2=>?_) fun c2=>?_
 ·
  refine W_r (aA rfl (R_e (aO (y1 _ _ ?_))))
  refine rT (v:=(iV 11)) (b:=(bk v 105 1 [[(iV (b+(1:Int)))]])) (aC7 (bV (rVq (iV 11)))) ?_ (by simp) (.same (pJ 1 _) _) (@rfl Blk (bk v 105 1 [[(iV (b+(1:Int)))]])) (by simp [rG,nX])
  rw [kP,if_pos (by omega)]
 refine W_r (aA rfl (fJ rfl rfl (aA rfl (R_e ?_))))
 refine cD rfl (fun c3=>?_) fun c3=>?_
 ·
  refine W_r (aA rfl (R_e (aO (y1 _ _ ?_))))
  refine rT (v:=(iV 16)) (b:=(bk v 105 1 [[(iV (b+(1:Int)))]])) (aC7 (bV (rVq (iV 16)))) ?_ (by simp) (.same (pJ 1 _) _) (@rfl Blk (bk v 105 1 [[(iV (b+(1:Int)))]])) (by simp [rG,nX])
  rw [kP,if_neg (by omega),if_pos (by omega)]
 refine cM (n1 _ _ (.done (aB (W_r (aJ rfl rfl rfl rfl (aI (aD6 f) rfl (aA rfl ?_)))))))
 refine R_e (aB (W_r (aA rfl (bZ rfl rfl (R_e ?_)))))
 refine aH rfl (fun c4=>?_) fun c4=>?_
 ·
  refine aB (W_r (aA rfl (aA rfl (R_e (aL ?_)))))
  refine rT (v:=(iV (rgt f))) (b:=(bk v 105 1 [[(iV (b+(1:Int)))]])) (aC7 (bV (rVq (iV (rgt f))))) ?_ (by simp) (.same (pJ 1 _) _) (@rfl Blk (bk v 105 1 [[(iV (b+(1:Int)))]])) (by simp [rG,nX])
  rw [kP,if_neg (by omega),if_neg (by omega),if_pos (by omega)]
 refine aC (aB (W_r (aM rfl rfl (aJ rfl rfl rfl rfl (bG rfl (aA rfl (R_e ?_)))))))
 refine aD fun Q5 n5 x5 y5 z5=>?_
 refine bS (fun mm T H=> ∃ (k:Nat) (n:Int) (v9:Nat),mm=f.kids.length - k∧T 0=(V.mp 0 v 0 0)∧T 2=(iV lv)∧T 33=(V.sl (List.map cF f.kids))∧T 34=(iV ((f.kids.length:Nat):Int))∧T 35=(iV ((k:Nat):Int))∧H 0=(bk v 105 1 [[(iV n)]])∧H 4=(bFq f)∧(H 9).ver=v9∧(k≤f.kids.length)∧(0≤n∧n≤4096)∧(exm f lv b=jO (f.kids.drop k) (lv+1) n)) ?_ ?_
 ·
  refine ⟨_,0,b+1,0,rfl,rfl,rfl,rfl,rfl,(eTq (rVq (iV 0)) rfl),(eTq (@rfl Blk (bk v 105 1 [[(iV (b+(1:Int)))]])) (by rfl)),rfl,(cVq rfl),?_,?_,?_⟩
  · omega
  · omega
  · rw [kP,if_neg (by omega),if_neg (by omega),if_neg (by omega)]; rfl
 intro mm T H ⟨k,n,v9,hmm,t0,t2,t33,t34,t35,h0,h4,h9,hk,hn,hc⟩ Q6 p16 p26 p36
 unfold aN9
 refine W_r (bM t35 t34 (R_e ?_))
 refine aH rfl (fun c7=>?_) fun c7=>?_
 ·
  refine aC (aD fun Q8 n8 x8 y8 z8=>(W_r (bU (i:=k) t33 t35 (by omega) (bN _) rfl (aG rfl rfl (aU (i:=9) (n:=v9) (m:=3) rfl h9 rfl (bF rfl rfl rfl rfl rfl rfl rfl rfl rfl (R_e ?_)))))))
  refine W_r (aA t0 (aJ rfl rfl rfl rfl (aA t2 (oO rfl rfl (by omega) (by omega) (gI (bL rfl (bL rfl (bL rfl eB))) (aAk.use1 (i:=0) (ih v (nth f.kids k) (lv+(1:Int)) n skq (by omega) (by omega)) rfl h0 rfl rfl) (aA rfl (R_e ?_)))))))
  refine W_r (aA rfl (bZ rfl rfl (R_e ?_)))
  refine cD rfl (fun c9=>?_) fun c9=>?_
  ·
   have q0:=pG (nth f.kids k) (lv+1) n
   refine W_r (aA rfl (aA rfl (R_e (aO (y8 _ _ (p26 _ _ (y5 _ _ ?_)))))))
   refine rT (v:=(iV ((exm (nth f.kids k) (lv+(1:Int)) n).2))) (b:=(bk v 105 1 [[(iV ((exm (nth f.kids k) (lv+(1:Int)) n).1))]])) (aC7 (bV (rVq (iV ((exm (nth f.kids k) (lv+(1:Int)) n).2))))) ?_ (by simp) (.same (pJ 1 _) _) (@rfl Blk (bk v 105 1 [[(iV ((exm (nth f.kids k) (lv+(1:Int)) n).1))]])) (by simp [rG,nX])
   rw [hc,zM (by omega) (by omega)]
  have q0:=pG (nth f.kids k) (lv+1) n
  refine cM (n8 _ _ (.done (W_t (bB t35 (rNq 1) (by omega) (aA rfl (R_e ?_))))))
  refine p16 _ _ _ ?_ ⟨(k+1),(exm (nth f.kids k) (lv+1) n).1,(v9+1),rfl,t0,t2,t33,t34,(eTq (rNq (k+1)) (by rfl)),(eTq (@rfl Blk (bk v 105 1 [[(iV ((exm (nth f.kids k) (lv+(1:Int)) n).1))]])) (by rfl)),h4,(cVq rfl),?_,?_,?_⟩
  · omega
  · omega
  · exact ⟨by omega,q0.2 (by omega)⟩
  · rw [hc,aGq (by omega) (by omega)]
 refine aN (p36 _ _ _ (x5 _ _ (.done (W_r (aA rfl (R_e (aO ?_)))))))
 refine rT (v:=(iV 0)) (b:=(bk v 105 1 [[(iV n)]])) (aC7 (bV (rVq (iV 0)))) ?_ (by simp) (.same (pJ 1 _) _) h0 (by simp [rG,nX])
 rw [hc,zH (by omega)]
theorem aHB (v:Nat) (f:Fm) (lv b:Int) (hb:0≤b∧b≤4096) (hl:0≤lv∧lv≤65):aAk Tryz.prog 59 1 [.mp 0 v 0 0,.agg [iV f.op,iV f.arg,.sl (f.kids.map cF)],iV lv] (hpB (bk v 105 1 [[iV b]])) (.ok (iV (exm f lv b).2) (hpB (bk v 105 1 [[iV (exm f lv b).1]]))):=by
  have key: ∀ (m:Nat) (v:Nat) (g:Fm) (lv b:Int),g.sz < m→0≤b∧b≤4096→0≤lv∧lv≤65→aAk Tryz.prog 59 1 [.mp 0 v 0 0,.agg [iV g.op,iV g.arg,.sl (g.kids.map cF)],iV lv] (hpB (bk v 105 1 [[iV b]])) (.ok (iV (exm g lv b).2) (hpB (bk v 105 1 [[iV (exm g lv b).1]]))):=by
    intro m
    induction m with
    |zero=>intro v g lv b h; exact absurd h (Nat.not_lt_zero _)
    | succ m ih =>
      intro v g lv b h hb hl
      exact aEc v g lv b hb hl fun v2 g2 lv2 b2 h2=>ih v2 g2 lv2 b2 (by omega)
  exact key (f.sz+1) v f lv b (Nat.lt_succ_self _) hb hl
theorem jR (f:Fm):aQ Tryz.prog 35 [(V.agg (rFq f))] (iV (cX f)):=by
 refine pW Tryz.func35 aPQ fun hB=>?_
 unfold s35
 dsimp only
 refine W_r (cE (i:=1) (n:=0) (m:=3) (cs:=(rFq f)) rfl (cVq rfl) rfl rfl rfl (aA rfl (R_e (W_r (aW rfl rfl (cE (i:=5) (n:=0) (m:=1) (cs:=[(iV 0)]) rfl (cVq rfl) rfl rfl rfl (aA rfl ?_)))))))
 refine R_e (W_r (aA rfl (aJ rfl rfl rfl rfl (gI (bL rfl (bL rfl (bL rfl eB))) (aAk.use1 (i:=5) (aHB 1 f (1:Int) (0:Int) (by omega) (by omega)) rfl rfl rfl rfl) (aA rfl (R_e (aO ?_)))))))
 refine bI (rVq (iV ((exm f (1:Int) (0:Int)).2))) (aE ?_)
 · rfl
def aTj:List SO:=[
 qL 7 3 1,
 sO 8 (.call false 60 [.t 7]),
 qM 6 8,
 qE 9 6 0,
 qE 10 6 1,
 sO 4 (.alloc 24 zFq),
 sN (.store 3 (.t 4) (.t 9)),
 qM 5 10]
def s36:SF:=⟨23,[.cell 2 true 3,.tmp 3],.seq (.reg [sO 1 (.box 24 3 (.t 0)),sO 2 (.alloc 24 zFq),qI 3 0]) (.seq (.reg aTj) (.seq (.seq (.reg [qM 11 5,qC 12 .neq 11 0]) (.cond (.t 12) (.seq (.reg [sO 13 (.build zFq []),qM 14 5,sN (.store 3 (.t 2) (.t 13)),qM 3 14]) (.ret)) (.skip))) (.seq (.seq (.reg [qL 15 3 4,sO 16 (.call false 35 [.t 15]),qM 5 16]) (.seq (.reg [qM 17 5,qC 18 .neq 17 0]) (.cond (.t 18) (.seq (.reg [sO 19 (.build zFq []),qM 20 5,sN (.store 3 (.t 2) (.t 19)),qM 3 20]) (.ret)) (.skip)))) (.seq (.reg [qL 21 3 4,sO 22 (.call false 61 [.t 21]),sN (.store 3 (.t 2) (.t 22)),qI 3 0]) (.ret)))))⟩
theorem aQ9:bJ Tryz.prog ⟨oEq,[],[],[]⟩ Tryz.f36=some s36:=by kernel_rfl
def aSN:List SO:=[
 qL 10 3 1,
 sO 11 (.call false 87 [.t 10]),
 qM 9 11,
 qE 12 9 0,
 qE 13 9 1,
 qM 4 12,
 qM 5 13]
def aPT:List SO:=[
 qM 40 6,
 qM 41 8,
 sO 42 (.idx 3 (.t 41) (.c (.int .i64 0))),
 qL 43 3 42,
 sO 44 (.bslice 24 3 false zFq 1 [(0,.t 43)]),
 sO 45 (.append 24 3 40 (.t 40) (.t 44)),
 qM 6 45]
def aNM:SC:=.seq (.reg [qP 25 .lss 24 23]) (.seq (.cond (.t 25) (.skip) (.exit 0)) (.seq (.block 1 (.seq (.reg [qA 26 1 22 24,ql 27 26,qM 8 27]) (.seq (.reg [qM 28 8,qN 29 28]) (.block 2 (.seq (.reg [qC 36 .eql 29 0,qM 35 36]) (.cond (.t 35) (.seq (.reg [sO 37 (.call false 89 []),sN (.store 3 (.t 2) (.t 37)),qI 3 0]) (.ret)) (.seq (.reg [qC 39 .eql 29 1,qM 38 39]) (.cond (.t 38) (.reg aPT) (.reg [qM 30 6,qM 31 8,sO 32 (.call false 67 [.c (.int .i64 5),.t 31]),sO 33 (.bslice 24 3 false zFq 1 [(0,.t 32)]),sO 34 (.append 24 3 40 (.t 30) (.t 33)),qM 6 34]))))))))) (.reg [qC 46 .add 24 1,qM 24 46])))
def s60:SF:=⟨57,[.cell 2 true 3,.tmp 3],.seq (.reg [sO 1 (.box 24 3 (.t 0)),sO 2 (.alloc 24 zFq),qI 3 0]) (.seq (.reg aSN) (.seq (.seq (.reg [qM 14 5,qC 15 .neq 14 0]) (.cond (.t 15) (.seq (.reg [sO 16 (.build zFq []),qM 17 5,sN (.store 3 (.t 2) (.t 16)),qM 3 17]) (.ret)) (.skip))) (.seq (.seq (.reg [qM 18 4,qN 19 18,qC 20 .eql 19 0]) (.cond (.t 20) (.seq (.reg [sO 21 (.call false 88 []),sN (.store 3 (.t 2) (.t 21)),qI 3 0]) (.ret)) (.skip))) (.seq (.reg [sO 6 (.lazy 24 3)]) (.seq (.seq (.reg [qM 22 4,qN 23 22,qI 24 0]) (.block 0 (.loop aNM))) (.seq (.seq (.reg [qM 47 6,qN 48 47,qC 49 .eql 48 1]) (.cond (.t 49) (.seq (.reg [qM 50 6,sO 51 (.idx 3 (.t 50) (.c (.int .i64 0))),qL 52 3 51,sN (.store 3 (.t 2) (.t 52)),qI 3 0]) (.ret)) (.skip))) (.seq (.reg [qM 53 6,sO 54 (.call true 90 [.t 53,.c (.fn 91 [] [])])]) (.seq (.reg [qM 55 6,sO 56 (.call false 67 [.c (.int .i64 6),.t 55]),sN (.store 3 (.t 2) (.t 56)),qI 3 0]) (.ret)))))))))⟩
theorem aO0:bJ Tryz.prog ⟨oEq,[6],[],[]⟩ Tryz.f60=some s60:=by kernel_rfl
def s67:SF:=⟨8,[.cell 4 true 3],.seq (.reg [sO 4 (.alloc 24 zFq)]) (.seq (.reg [qM 5 0,qM 6 1,sO 7 (.build zFq [(0,1,.t 5),(2,1,.t 6)]),sN (.store 3 (.t 4) (.t 7))]) (.ret))⟩
theorem aOv:bJ Tryz.prog ⟨oEq,[],[],[]⟩ Tryz.f67=some s67:=by kernel_rfl
theorem jG (o:Int) (l:List Fm):aQ Tryz.prog 67 [(iV o),(V.sl (List.map cF l))] (V.agg [(iV o),(iV 0),(V.sl (List.map cF l))]):=by
 refine pW Tryz.func67 aOv fun hB=>?_
 unfold s67
 dsimp only
 refine W_r (aU (i:=4) (n:=0) (m:=3) rfl (cVq rfl) rfl (R_e (W_r (aA rfl (aA rfl (aW rfl rfl (bF rfl rfl rfl rfl rfl rfl rfl rfl rfl ?_)))))))
 refine R_e (aO ?_)
 refine cP (bC (u:=(V.agg [(iV o),(iV 0),(V.sl (List.map cF l))])) rfl (@rfl Blk (bk 1 24 3 [[(iV o),(iV 0),(V.sl (List.map cF l))]])) (lB oB rfl rfl)) (cG (by simp) rfl)
def s88:SF:=⟨3,[.cell 0 true 3],.seq (.reg [sO 0 (.alloc 24 zFq)]) (.seq (.reg [sO 1 (.call false 89 []),sO 2 (.call false 62 [.t 1]),sN (.store 3 (.t 0) (.t 2))]) (.ret))⟩
theorem aQB:bJ Tryz.prog ⟨oEq,[],[],[]⟩ Tryz.f88=some s88:=by kernel_rfl
def s62:SF:=⟨6,[.cell 2 true 3],.seq (.reg [sO 1 (.box 24 3 (.t 0)),sO 2 (.alloc 24 zFq)]) (.seq (.reg [qL 3 3 1,sO 4 (.bslice 24 3 false zFq 1 [(0,.t 3)]),sO 5 (.build zFq [(0,1,.c (.int .i64 4)),(2,1,.t 4)]),sN (.store 3 (.t 2) (.t 5))]) (.ret))⟩
theorem aRm:bJ Tryz.prog ⟨oEq,[],[],[]⟩ Tryz.f62=some s62:=by kernel_rfl
theorem aAz (f:Fm):aQ Tryz.prog 62 [(V.agg (rFq f))] (V.agg [(iV 4),(iV 0),(V.sl (List.map cF ([f])))]):=by
 refine pW Tryz.func62 aRm fun hB=>?_
 unfold s62
 dsimp only
 refine W_r (cE (i:=1) (n:=0) (m:=3) (cs:=(rFq f)) rfl (cVq rfl) rfl rfl rfl (aU (i:=2) (n:=0) (m:=3) rfl (cVq rfl) rfl (R_e (W_r (aJ rfl rfl rfl rfl (aR rfl rfl (aW rfl rfl ?_)))))))
 refine bF rfl rfl rfl rfl rfl rfl rfl rfl rfl (R_e (aO ?_))
 refine cP (bC (u:=(V.agg [(iV 4),(iV 0),(V.sl [(rFq f)])])) rfl (@rfl Blk (bk 1 24 3 [[(iV 4),(iV 0),(V.sl [(rFq f)])]])) (lB oB rfl rfl)) (bE (cG (by simp) rfl) (cG (by simp) rfl) (cG (by simp) (aFa (x:=f) rfl)))
def s89:SF:=⟨2,[.cell 0 true 3],.seq (.reg [sO 0 (.alloc 24 zFq)]) (.seq (.reg [sO 1 (.build zFq [(0,1,.c (.int .i64 1))]),sN (.store 3 (.t 0) (.t 1))]) (.ret))⟩
theorem aQy:bJ Tryz.prog ⟨oEq,[],[],[]⟩ Tryz.f89=some s89:=by kernel_rfl
theorem uI:aQ Tryz.prog 89 [] (V.agg [(iV 1),(iV 0),(V.sl (List.map cF ([])))]):=by
 refine pW Tryz.func89 aQy fun hB=>?_
 unfold s89
 dsimp only
 refine W_r (aU (i:=0) (n:=0) (m:=3) rfl (cVq rfl) rfl (R_e (W_r (aW rfl rfl (bF rfl rfl rfl rfl rfl rfl rfl rfl rfl (R_e (aO ?_)))))))
 refine cP (bC (u:=(V.agg [(iV 1),(iV 0),V.nilsl])) rfl (@rfl Blk (bk 1 24 3 [[(iV 1),(iV 0),V.nilsl]])) (lB oB rfl rfl)) (bE (cG (by simp) rfl) (cG (by simp) rfl) (bT ?_))
 · first|rfl|omega|simp_all
theorem aDr:aQ Tryz.prog 88 [] (V.agg [(iV 4),(iV 0),(V.sl (List.map cF ([Fm.nd 1 0 []])))]):=by
 refine pW Tryz.func88 aQB fun hB=>?_
 unfold s88
 dsimp only
 refine W_r (aU (i:=0) (n:=0) (m:=3) rfl (cVq rfl) rfl (R_e (W_r (aI uI rfl (aI (aAz (⟨(1:Int),(0:Int),([])⟩:Fm)) rfl (bF rfl rfl rfl rfl rfl rfl rfl rfl rfl (R_e ?_)))))))
 refine aO ?_
 refine cP (bC (u:=(V.agg [(iV 4),(iV 0),(V.sl (List.map cF ([(⟨(1:Int),(0:Int),([])⟩:Fm)])))])) rfl (@rfl Blk (bk 1 24 3 [[(iV 4),(iV 0),(V.sl (List.map cF ([(⟨(1:Int),(0:Int),([])⟩:Fm)])))]])) (lB oB rfl rfl)) (bE (cG (by simp) rfl) (cG (by simp) rfl) (dB ?_ (fun _=>by simp)))
 · first|rfl|omega|simp_all
def aTm:List SO:=[
 qF 8 0 2,
 ql 9 8,
 qF 10 0 3,
 ql 11 10,
 sO 12 (.call false 112 [.t 9,.t 11]),
 qF 13 1 2,
 ql 14 13,
 qF 15 1 3,
 ql 16 15,
 sO 17 (.call false 112 [.t 14,.t 16]),
 qF 18 2 2,
 ql 19 18,
 qN 20 19,
 qF 21 2 3,
 ql 22 21,
 qN 23 22,
 sO 24 (.call false 112 [.t 20,.t 23]),
 sO 25 (.bslice 3 1 false [.int .i64 0] 3 [(0,.t 12),(1,.t 17),(2,.t 24)]),
 sO 26 (.call false 111 [.t 25]),
 qM 5 26]
def aUu:List SO:=[
 qF 36 2 2,
 ql 37 36,
 qM 38 6,
 qA 39 3 37 38,
 qL 40 3 39,
 qF 41 2 3,
 ql 42 41,
 qM 43 6,
 qA 44 3 42 43,
 qL 45 3 44,
 sO 46 (.call false 91 [.t 40,.t 45]),
 qM 7 46]
def aNo:SC:=.seq (.reg [qP 34 .lss 33 32]) (.seq (.cond (.t 34) (.skip) (.exit 0)) (.seq (.block 1 (.seq (.reg [qM 35 33,qM 6 35]) (.seq (.reg aUu) (.seq (.reg [qM 47 7,qC 48 .neq 47 0]) (.cond (.t 48) (.seq (.reg [qM 49 7,qM 4 49]) (.ret)) (.skip)))))) (.reg [qC 50 .add 33 1,qM 33 50])))
def s91:SF:=⟨51,[.tmp 4],.seq (.reg [sO 2 (.box 24 3 (.t 0)),sO 3 (.box 24 3 (.t 1)),qI 4 0]) (.seq (.seq (.reg aTm) (.seq (.reg [qM 27 5,qC 28 .neq 27 0]) (.cond (.t 28) (.seq (.reg [qM 29 5,qM 4 29]) (.ret)) (.skip)))) (.seq (.seq (.reg [qF 30 2 2,ql 31 30,qN 32 31,qI 33 0]) (.block 0 (.loop aNo))) (.seq (.reg [qI 4 0]) (.ret))))⟩
theorem aRZ:bJ Tryz.prog ⟨oEq,[],[],[]⟩ Tryz.f91=some s91:=by kernel_rfl
def aI8:SC:=.seq (.reg [qP 9 .lss 8 7]) (.seq (.cond (.t 9) (.skip) (.exit 0)) (.seq (.block 1 (.seq (.reg [qA 10 1 6 8,ql 11 10,qM 5 11]) (.seq (.reg [qM 12 5,qM 13 3,qP 14 .neq 12 13]) (.cond (.t 14) (.seq (.reg [qM 15 5,qM 2 15]) (.ret)) (.skip))))) (.reg [qC 16 .add 8 1,qM 8 16])))
def aSd:SF:=⟨18,[.tmp 2],.seq (.reg [qI 2 0]) (.seq (.reg [qI 3 0]) (.seq (.seq (.reg [qM 6 0,qN 7 6,qI 8 0]) (.block 0 (.loop aI8))) (.seq (.reg [qM 17 3,qM 2 17]) (.ret))))⟩
theorem aML:bJ Tryz.prog ⟨oEq,[],[],[]⟩ Tryz.f111=some aSd:=by kernel_rfl
theorem aE0 (l:List Int) (hl:l.length < 4294967296):aQ Tryz.prog 111 [(aZ l)] (iV (orI l)):=by
 refine pW Tryz.func111 aML fun hB=>?_
 unfold aSd
 dsimp only
 refine W_r (aA rfl (R_e (W_r (aA rfl (R_e (aB (W_r ?_)))))))
 refine aA rfl (bG rfl (aA rfl (R_e (aD fun Q1 n1 x1 y1 z1=>?_))))
 refine bS (fun mm T H=> ∃ (k:Nat),mm=l.length - k∧T 3=(iV 0)∧T 6=(aZ l)∧T 7=(iV ((l.length:Nat):Int))∧T 8=(iV ((k:Nat):Int))∧(k≤l.length)∧(orI l=orI (l.drop k))) ?_ ?_
 ·
  refine ⟨_,0,rfl,rfl,rfl,rfl,(eTq (rVq (iV 0)) rfl),?_,?_⟩
  · omega
  · rfl
 intro mm T H ⟨k,hmm,t3,t6,t7,t8,hk,hc⟩ Q2 p12 p22 p32
 unfold aI8
 refine W_r (bM t8 t7 (R_e ?_))
 refine aH rfl (fun c3=>?_) fun c3=>?_
 ·
  refine aC (aD fun Q4 n4 x4 y4 z4=>(W_r (cY (i:=k) t6 t8 (by omega) rfl (aG rfl rfl (aA rfl (R_e (W_r ?_)))))))
  refine aA rfl (aA t3 (bZ rfl rfl (R_e ?_)))
  refine cD rfl (fun c5=>?_) fun c5=>?_
  ·
   refine W_r (aA rfl (aA rfl (R_e (aO (y4 _ _ (p22 _ _ (y1 _ _ ?_)))))))
   refine bI (rVq (iV (nth l k))) (aE ?_)
   · rw [hc,aDt (by omega),if_neg (by omega)]
  refine cM (n4 _ _ (.done (W_t (bB t8 (rNq 1) (by omega) (aA rfl (R_e ?_))))))
  refine p12 _ _ _ ?_ ⟨(k+1),rfl,t3,t6,t7,(eTq (rNq (k+1)) (by rfl)),?_,?_⟩
  · omega
  · omega
  · rw [hc,aDt (by omega),if_pos (by omega)]
 refine aN (p32 _ _ _ (x1 _ _ (.done (W_r (aA t3 (aA rfl (R_e ?_)))))))
 refine aO ?_
 refine bI (rVq (iV 0)) (aE ?_)
 · rw [hc,List.drop_of_length_le (by omega)]; rfl
def aTw:SF:=⟨20,[.tmp 4],.seq (.reg [qI 4 0]) (.seq (.reg [qM 7 0,sO 8 (.call false 132 [.t 7]),qM 5 8]) (.seq (.reg [qM 9 1,sO 10 (.call false 132 [.t 9]),qM 6 10]) (.seq (.seq (.reg [qM 11 5]) (.cond (.t 11) (.seq (.seq (.reg [qM 12 6]) (.cond (.t 12) (.seq (.reg [qI 4 0]) (.ret)) (.skip))) (.seq (.reg [sO 4 (.mv (.c (.int .i64 (-1))))]) (.ret))) (.skip))) (.seq (.seq (.reg [qM 13 6]) (.cond (.t 13) (.seq (.reg [qI 4 1]) (.ret)) (.skip))) (.seq (.seq (.reg [qM 14 0,qM 15 1,qP 16 .lss 14 15]) (.cond (.t 16) (.seq (.reg [sO 4 (.mv (.c (.int .i64 (-1))))]) (.ret)) (.skip))) (.seq (.seq (.reg [qM 17 0,qM 18 1,qP 19 .gtr 17 18]) (.cond (.t 19) (.seq (.reg [qI 4 1]) (.ret)) (.skip))) (.seq (.reg [qI 4 0]) (.ret))))))))⟩
theorem aLF:bJ Tryz.prog ⟨oEq,[],[],[]⟩ Tryz.f112=some aTw:=by kernel_rfl
def aSI:SF:=⟨6,[.tmp 2],.seq (.reg [sO 2 (.mv (.c (.bool false)))]) (.seq (.reg [qM 3 0,qM 4 0,qP 5 .neq 3 4,qM 2 5]) (.ret))⟩
theorem aMD:bJ Tryz.prog ⟨oEq,[],[],[]⟩ Tryz.f132=some aSI:=by kernel_rfl
theorem zW (n:Int):aQ Tryz.prog 132 [(iV n)] (V.bool false):=by
 refine pW Tryz.func132 aMD fun hB=>?_
 unfold aSI
 dsimp only
 refine W_r (aA rfl (R_e (W_r (aA rfl (aA rfl (bZ rfl rfl (aA rfl ?_)))))))
 refine R_e (aO ?_)
 refine bI (rVq (V.bool (decide (n≠n)))) (bA ?_)
 · simp
theorem nR (x y:Int):aQ Tryz.prog 112 [(iV x),(iV y)] (iV (fG x y)):=by
 refine pW Tryz.func112 aLF fun hB=>?_
 unfold aTw
 dsimp only
 refine W_r (aA rfl (R_e (W_r (aA rfl (aI (zW x) rfl (aA rfl (R_e ?_)))))))
 refine W_r (aA rfl (aI (zW y) rfl (aA rfl (R_e (aB (W_r (aA rfl ?_)))))))
 refine R_e ?_
 refine cC rfl (fun c1=>?_) (fun c1=>?_)
 · cases c1
 refine aC (aB (W_r (aA rfl (R_e ?_))))
 refine cC rfl (fun c2=>?_) (fun c2=>?_)
 · cases c2
 refine aC (aB (W_r (aA rfl (aA rfl (bM rfl rfl (R_e ?_))))))
 refine aH rfl (fun c3=>?_) fun c3=>?_
 ·
  refine aB (W_r (aA rfl (R_e (aL ?_))))
  refine bI (rVq (iV (-1))) (aE ?_)
  · unfold fG; repeat (split <;> first|rfl|omega|skip)
 refine aC (aB (W_r (aA rfl (aA rfl (fJ rfl rfl (R_e ?_))))))
 refine aH rfl (fun c4=>?_) fun c4=>?_
 ·
  refine aB (W_r (aA rfl (R_e (aL ?_))))
  refine bI (rVq (iV 1)) (aE ?_)
  · unfold fG; repeat (split <;> first|rfl|omega|skip)
 refine aC (W_r (aA rfl (R_e (aO ?_))))
 refine bI (rVq (iV 0)) (aE ?_)
 · unfold fG; repeat (split <;> first|rfl|omega|skip)
theorem zL (f h:Fm) (ih: ∀ (g h:Fm),g.sz < f.sz→aQ Tryz.prog 91 [(V.agg (rFq g)),(V.agg (rFq h))] (iV (bY g h))):aQ Tryz.prog 91 [(V.agg (rFq f)),(V.agg (rFq h))] (iV (bY f h)):=by
 refine pW Tryz.func91 aRZ fun hB=>?_
 unfold s91
 dsimp only
 refine W_r (cE (i:=2) (n:=0) (m:=3) (cs:=(rFq f)) rfl (cVq rfl) rfl rfl rfl (cE (i:=3) (n:=0) (m:=3) (cs:=(rFq h)) rfl (cVq rfl) rfl rfl rfl (aA rfl (R_e (aB (W_r (aM rfl rfl ?_)))))))
 refine aJ rfl rfl rfl rfl (aM rfl rfl (aJ rfl rfl rfl rfl (aI (nR f.op h.op) rfl (aM rfl rfl (aJ rfl rfl rfl rfl (aM rfl rfl (aJ rfl rfl rfl rfl ?_)))))))
 refine aI (nR f.arg h.arg) rfl (aM rfl rfl (aJ rfl rfl rfl rfl (bG rfl (aM rfl rfl (aJ rfl rfl rfl rfl (bG rfl (aI (nR ((f.kids.length:Nat):Int) ((h.kids.length:Nat):Int)) rfl ?_)))))))
 refine aR rfl rfl (aI (aE0 ([(fG f.op h.op),(fG f.arg h.arg),(fG ((f.kids.length:Nat):Int) ((h.kids.length:Nat):Int))]) (by simp)) rfl (aA rfl (R_e (aB (W_r (aA rfl (bZ rfl rfl ?_)))))))
 refine R_e ?_
 refine aH rfl (fun c1=>?_) fun c1=>?_
 ·
  have d0:=c1
  refine aB (W_r (aA rfl (aA rfl (R_e (aL ?_)))))
  refine bI (rVq (iV (orI ([(fG f.op h.op),(fG f.arg h.arg),(fG ((f.kids.length:Nat):Int) ((h.kids.length:Nat):Int))])))) (aE ?_)
  · exact aGU d0
 have d0:=c1
 refine aC (aB (W_r (aM rfl rfl (aJ rfl rfl rfl rfl (bG rfl (aA rfl (R_e ?_)))))))
 refine aD fun Q2 n2 x2 y2 z2=>?_
 refine bS (fun mm T H=> ∃ (k:Nat),mm=f.kids.length - k∧T 2=(mPq 2)∧T 3=(mPq 3)∧T 32=(iV ((f.kids.length:Nat):Int))∧T 33=(iV ((k:Nat):Int))∧H 2=(bFq f)∧H 3=(bFq h)∧(k≤f.kids.length)∧(f.kids.length=h.kids.length)∧(bY f h=kU (f.kids.drop k) (h.kids.drop k))) ?_ ?_
 ·
  refine ⟨_,0,rfl,rfl,rfl,rfl,(eTq (rVq (iV 0)) rfl),rfl,rfl,?_,?_,?_⟩
  · omega
  · exact aMb d0
  · exact aHz d0
 intro mm T H ⟨k,hmm,t2,t3,t32,t33,h2,h3,hk,hl,hc⟩ Q3 p13 p23 p33
 unfold aNo
 refine W_r (bM t33 t32 (R_e ?_))
 refine aH rfl (fun c4=>?_) fun c4=>?_
 ·
  refine aC (aD fun Q5 n5 x5 y5 z5=>(W_r (aA t33 (aA rfl (R_e (W_r (aM t2 h2 ?_)))))))
  refine aJ rfl h2 rfl rfl (aA rfl (bU (i:=k) (rVq (V.sl (List.map cF f.kids))) (rNq k) (by omega) (bN _) rfl (aG rfl rfl (aM t3 h3 (aJ rfl h3 rfl rfl (aA rfl (bU (i:=k) (rVq (V.sl (List.map cF h.kids))) (rNq k) (by omega) (bN _) rfl ?_)))))))
  refine aG rfl rfl (aI (ih (nth f.kids k) (nth h.kids k) skq) rfl (aA rfl (R_e (W_r (aA rfl (bZ rfl rfl (R_e ?_)))))))
  refine cD rfl (fun c6=>?_) fun c6=>?_
  ·
   have d1:bY (nth f.kids k) (nth h.kids k)≠0:=c6
   refine W_r (aA rfl (aA rfl (R_e (aO (y5 _ _ (p23 _ _ (y2 _ _ ?_)))))))
   refine bI (rVq (iV (bY (nth f.kids k) (nth h.kids k)))) (aE ?_)
   · rw [hc,aDZ (by omega) (by omega) d1]
  have d1: ¬bY (nth f.kids k) (nth h.kids k)≠0:=c6
  refine cM (n5 _ _ (.done (W_t (bB t33 (rNq 1) (by omega) (aA rfl (R_e ?_))))))
  refine p13 _ _ _ ?_ ⟨(k+1),rfl,t2,t3,t32,(eTq (rNq (k+1)) (by rfl)),h2,h3,?_,?_,?_⟩
  · omega
  · omega
  · omega
  · rw [hc,aFL (by omega) (by omega) d1]
 refine aN (p33 _ _ _ (x2 _ _ (.done (W_r (aA rfl (R_e (aO ?_)))))))
 refine bI (rVq (iV 0)) (aE ?_)
 · rw [hc,aDY (by omega)]
theorem pV (f h:Fm):aQ Tryz.prog 91 [(V.agg (rFq f)),(V.agg (rFq h))] (iV (bY f h)):=by
  have key: ∀ (mm:Nat) (f h:Fm),f.sz < mm→aQ Tryz.prog 91 [(V.agg (rFq f)),(V.agg (rFq h))] (iV (bY f h)):=by
    intro mm
    induction mm with
    |zero=>intro f h hlt; exact absurd hlt (Nat.not_lt_zero _)
    | succ mm ih =>
      intro f h hlt
      exact zL f h fun f2 h2 hlt2=>ih f2 h2 (by omega)
  exact key (f.sz+1) f h (Nat.lt_succ_self _)
end Go.Proofs.YteehaobohaecmaaGreatDoor
namespace Go.Proofs.YteehaobohaecmaaGreatDoor
open Go Go.Sort Go.Proofs Go.Shelf
theorem R.pure_same {x y:Cx} {v:V} {c:Value} (h:R x v c) (hp:v.pure=true) (hw: ∀ b,x.Z b→y.w.heap[b]?=x.w.heap[b]?) (hz: ∀ b,x.Z b→y.Z b):R y v c:=by
  have keep: ∀ a:Addr,x.Z a.block→ ∀ n,y.w.cell? (a.add n)=x.w.cell? (a.add n):=fun a ha n=>by
    refine tA ?_
    rw [fO]; exact hw _ ha
  induction h with
  |int k n=>exact .int k n
  |bool b=>exact .bool b
  |str s=>exact .str s
  |nilsl=>exact .nilsl
  |slnil=>exact .slnil
  | sl rows a cap sz cs hc hm hzz hsz hcell _ ih =>
    simp only [V.pure] at hp
    refine .sl rows a cap sz cs hc hm (fun hne=>hz _ (hzz hne)) hsz (fun r row j v hr hj=>by rw [keep a (hzz (by intro e; subst e; simp at hr))]; exact hcell r row j v hr hj) fun r row j v hr hj=>ih r row j v hr hj ?_
    exact dK.1 (iI.1 hp row (List.mem_of_getElem? hr)) v (List.mem_of_getElem? hj)
  |ms=>simp [V.pure] at hp
  | pp cells a cs hzz hcell _ ih =>
    simp only [V.pure] at hp
    exact .pp cells a cs (fun hne=>hz _ (hzz hne)) (fun j v hj=>by rw [keep a (hzz (by intro e; subst e; simp at hj))]; exact hcell j v hj) fun j v hj=>ih j v hj (dK.1 hp v (List.mem_of_getElem? hj))
  |nilp=>exact .nilp
  |mp=>simp [V.pure] at hp
  | agg cells cs hs _ ih =>
    simp only [V.pure] at hp
    exact .agg cells cs hs fun j v hj=>ih j v hj (dK.1 hp v (List.mem_of_getElem? hj))
  | tup vs cs hs _ ih =>
    simp only [V.pure] at hp
    exact .tup vs cs hs fun j v hj=>ih j v hj (dK.1 hp v (List.mem_of_getElem? hj))
  | fn f first caps fs cs hfs hcs _ _ ih1 ih2 =>
    simp only [V.pure,Bool.and_eq_true] at hp
    exact .fn f first caps fs cs hfs hcs (fun j v hj=>ih1 j v hj (dK.1 hp.1 v (List.mem_of_getElem? hj))) fun j v hj=>ih2 j v hj (dK.1 hp.2 v (List.mem_of_getElem? hj))
  |raw c hh=>exact .raw c hh
  |mm=>simp [V.pure] at hp
theorem aA8 {x:Cx} (hx:Inv x) (os:Array Obj):let y:Cx:={x with w:=Go.Sort.grow x.w os}; Inv y∧Frame x y:=by
  intro y
  have hp: ∀ b,b < x.w.heap.size→y.w.heap[b]?=x.w.heap[b]?:=fun b hb=>by
    show (x.w.heap++os)[b]?=_
    rw [Array.getElem?_append,if_pos hb]
  have hs:x.w.heap.size≤y.w.heap.size:=by show _≤(x.w.heap++os).size; simp
  have hf:Frame x y:=by
    refine ⟨rfl,rfl,rfl,hs,fun b hb _=>hp b hb,fun _ h=>h,fun b h=>.inl h,fun id=>⟨Nat.le_refl _,fun h _=>⟨h,rfl,rfl,fun _=>rfl,fun h=>⟨rfl,?_⟩⟩⟩,fun _ h=>.inl ⟨h,rfl⟩,Nat.le_refl _,fun _ _ _=>rfl⟩
    unfold dX; rw [hp _ (hx.lt h)]
  refine ⟨⟨fun b h=>Nat.lt_of_lt_of_le (hx.zlt b h) hs,hx.zown,fun id hl=>?_,hx.inj,hx.tab_of hf⟩,hf⟩
  obtain ⟨cc,h1,h2,h3,h4⟩:=hx.blk id hl
  exact ⟨cc,by rw [hp _ (hx.lt hl)]; exact h1,h2,h3,fun r row j v hr hj=>(h4 r row j v hr hj).frame hx hf⟩
def aDG (P : Program) (f k : Nat) : Prop := ∀ {α : Type} [Inhabited α] (enc : α → List Value) (_ : ∀ x, (enc x).length = k) (_ : ∀ x, ∀ v ∈ enc x, v.oneCell' = true) (cf : α → α → Int) (_ : SWO (ltOf cf)) (g : Nat) (cb : Array Value) (blk off cap : Nat) (d : Array α) (w : World)
    (_: ∀ args w,(callFunc g args).run P w=.ok (.enter g args) w) (_:CmpLays P g cb enc k cf blk off d.size w) (_:HoldsK enc k w blk off d) (_:blk < w.heap.size) (_:d.size < 4611686018427387904),
    Calls P f #[.slice (some ⟨blk,off,none⟩) d.size cap,.func (.func g) #[] cb] w fun e w'=>
      e=.returned (.tuple #[])∧ ∃ d' n os,PermIn 0 d.size d d'∧SortedIn (ltOf cf) 0 d.size d'∧w'=sortWorldK enc k w blk off n d' os
def aCQ (P:Program) (f:Nat):Prop:= ∀ (p:Option Addr) (cap:Nat) (fv:Value) (w:World),Calls P f #[.slice p 0 cap,fv] w fun e w'=>e=.returned (.tuple #[])∧w'=w
theorem nK {P:Program} {g:Nat} (h:dV P g): ∀ args w,(callFunc g args).run P w=.ok (.enter g args) w:=by
  obtain ⟨fn,h1,h2,h3⟩:=h
  obtain ⟨c,hc⟩:=Option.isSome_iff_exists.1 h2
  exact enters_of h1 h3 hc
theorem pB {z y:Cx} (hf:Frame z y) (hno: ∀ id,(z.H id).own=false): ∃ q os,y.w=grow (z.w.drewN q) os:=by
  refine ⟨y.w.drawn - z.w.drawn,y.w.heap.extract z.w.heap.size y.w.heap.size,?_⟩
  have e1:=hf.os; have e2:=hf.tape; have e3:=hf.output; have e4:=hf.drawn; have e5:=hf.size
  have e6:y.w.heap=z.w.heap++y.w.heap.extract z.w.heap.size y.w.heap.size:=by
    refine Array.ext_getElem? fun b=>?_
    rw [Array.getElem?_append]
    split
    · rename_i hb
      exact hf.keep b hb fun id h=>by rw [hno id] at h; cases h
    · rename_i hb
      rw [Array.getElem?_extract]
      by_cases h:b < y.w.heap.size
      · rw [if_pos (by omega)]; congr 1; omega
      · rw [if_neg (by omega),Array.getElem?_eq_none (by omega)]
  have e7:y.w.drawn=z.w.drawn+(y.w.drawn - z.w.drawn):=by omega
  unfold grow World.drewN
  cases hy:y.w with
  | mk heap tape drawn os output =>
    rw [hy] at e1 e2 e3 e6 e7
    simp only at e1 e2 e3 e6 e7 ⊢
    rw [← e6,← e7,e1,e2,e3]
section
variable {P:Program} {α:Type} [Inhabited α] {enc:α→List Value} {k:Nat} {w:World} {blk off m:Nat} {dk:Array α} {os:Array Obj}
theorem iE {b:Nat} (hb:b < w.heap.size) (hne:b≠blk):(sortWorldK enc k w blk off m dk os).heap[b]?=w.heap[b]?:=by
  unfold sortWorldK grow putRowK putRow mapBlock Sort.ahead
  simp only
  rw [Array.getElem?_append,if_pos (by simpa using hb),Array.getElem?_modify,if_neg (Ne.symm hne)]
theorem oH:w.heap.size≤(sortWorldK enc k w blk off m dk os).heap.size:=by
  unfold sortWorldK grow putRowK putRow mapBlock Sort.ahead
  simp
theorem tK {cc:Array Value} {ty:TypeId} (h:w.heap[blk]?=some (.cells cc ty (0,0))):
    sortWorldK enc k w blk off m dk os=grow {w.setRow blk (putCells id off (flatK enc k dk) cc) with drawn:=w.drawn+m} os:=by
  unfold sortWorldK putRowK putRow mapBlock Sort.ahead World.setRow
  congr 2
  refine Array.ext_getElem? fun b=>?_
  simp only [Array.getElem?_modify]
  by_cases e:blk=b
  · subst e
    simp only [if_true,h,Option.map_some,onCells]
  · simp only [if_neg e]
end
theorem jJ {α:Type} [Inhabited α] (d:Array α) (i:Nat) (h:i < d.size):d[i]! =nth d.toList i:=by
  rw [getElem!_pos d i h,← bR (by simpa using h)]; rfl
section
variable {P:Program}
theorem aCZ {f g k:Nat} (hS:aDG P f k) (hN:aCQ P f) (hcf:dV P f) (hcg:dV P g) {T:Type} [Inhabited T] {f0:T→List V} {l:List T} {cmp:T→T→Int}
    (hO:SWO fun a b=>decide (cmp a b < 0)) (hT: ∀ a∈l,∀ b∈l,¬cmp a b < 0→ ¬cmp b a < 0→a=b)
    (hc: ∀ a∈l,∀ b∈l,aQ P g [.agg (f0 a),.agg (f0 b)] (iV (cmp a b))) (hp: ∀ a∈l,eE (f0 a)=true) (h1: ∀ a∈l,(f0 a).all V.one=true) (hk: ∀ a,(f0 a).length=k)
    (hl:l.length < 4611686018427387904) {id ver ty:Nat} {lz:Bool} {H:aP} (hH:H id=⟨ver,true,lz,ty,k,l.map f0⟩):
    eR P f [.ms id ver 0 l.length,.fn g [] []] H (.tup []) (upd H id ⟨ver,true,lz,ty,k,(srt cmp l).map f0⟩):=by
  refine ⟨hcf,fun x cs hxH hx hr=>?_⟩
  subst hxH
  obtain ⟨c0,c1,rfl⟩: ∃ c0 c1,cs=[c0,c1]:=by
    have:=hr.1
    match cs with
    |[a,b]=>exact ⟨a,b,rfl⟩
    |[]=>simp at this
    |[_]=>simp at this
    |_::_::_::_=>simp at this
  have r0:R x (.ms id ver 0 l.length) c0:=hr.2 0 _ rfl
  have r1:R x (.fn g [] []) c1:=hr.2 1 _ rfl
  cases r1 with
  |fn _ _ _ fs cb hfs hcs _ _=>
  have hfs':fs=#[]:=Array.eq_empty_of_size_eq_zero (by simpa using hfs)
  have hcs':cb=#[]:=Array.eq_empty_of_size_eq_zero (by simpa using hcs)
  subst hfs'; subst hcs'
  cases r0 with
  |ms _ _ _ _ b n cap hv hh hm=>
  obtain ⟨e1,e2,e3,e4,e5,e6⟩:=hh (by rw [hH]) (by rw [hH])
  subst e1
  by_cases hne:l=[]
  · subst hne
    refine (hN b cap (.func (.func g) #[] #[]) x.w).mono fun e w' h=>?_
    obtain ⟨rfl,rfl⟩:=h
    refine ⟨_,x,rfl,rfl,?_,hx,.tup [] #[] rfl (fun j v hj=>by simp at hj),Frame.refl x⟩
    funext j
    by_cases e:j=id
    · subst e; rw [aK,hH]; rfl
    · rw [bD _ _ e]
  have hpos:0 < l.length:=List.length_pos_iff.2 hne
  have ho:(x.H id).own=true:=by
    rw [hH]
    cases l with
    |nil=>exact (hne rfl).elim
    |cons a l=>simp [Blk.own]
  obtain ⟨e7,_⟩:=e5 ho
  rw [hH] at e7
  simp only [Nat.zero_mul] at e7
  subst e7
  obtain ⟨cc,b1,b2,b3,b4⟩:=hx.cel id ho (hm (by rw [hH]) (by rw [hH]))
  simp only [hH] at b1 b2 b3 b4
  rw [List.length_map] at b3
  let A:Type:={i:Nat // i < l.length}
  haveI:Inhabited A:=⟨⟨0,hpos⟩⟩
  let enc:A→List Value:=fun i=>(List.range k).map fun j=>cc.getD (i.1*k+j) undef
  let cf:A→A→Int:=fun a b=>cmp (nth l a.1) (nth l b.1)
  let d:Array A:=Array.ofFn fun i:Fin l.length=>(⟨i.1,i.2⟩:A)
  have hdn:d.size=l.length:=by simp [d]
  have hdi: ∀ i (h:i < l.length),d[i]! =⟨i,h⟩:=fun i h=>by
    rw [getElem!_pos d i (by rw [hdn]; exact h)]; simp [d]
  have hek: ∀ a,(enc a).length=k:=fun a=>by simp [enc]
  have hej: ∀ (a:A) (j:Nat),j < k→(enc a)[j]?=some (cc.getD (a.1*k+j) undef):=fun a j hj=>by simp [enc,hj]
  have hrow: ∀ i,i < l.length→(l.map f0)[i]?=some (f0 (nth l i)):=fun i hi=>by rw [List.getElem?_map,yT hi]; rfl
  have hRx: ∀ (a:A) (j:Nat) (v:V),(f0 (nth l a.1))[j]?=some v→R x v (cc.getD (a.1*k+j) undef):=fun a j v hj=>b4 a.1 _ j v (hrow a.1 a.2) hj
  have hcell: ∀ (a:A) (j:Nat),j < k→a.1*k+j < cc.size:=fun a j hj=>by
    have:(a.1+1)*k≤l.length*k:=Nat.mul_le_mul_right k a.2
    rw [Nat.add_mul,Nat.one_mul] at this
    omega
  have hO':SWO (ltOf cf):=⟨fun a=>hO.irrefl _,fun a b c=>hO.trans _ _ _,fun a b c=>hO.ntrans _ _ _⟩
  have hcmp:CmpLays P g #[] enc k cf (x.σ id) 0 d.size x.w:=by
    intro m os dk hdk a b
    let W:=sortWorldK enc k x.w (x.σ id) 0 m dk os
    let z:Cx:=start {x with w:=W} x.Z
    have hz:Inv z:=lR (fun b hb=>Nat.lt_of_lt_of_le (hx.zlt b hb) oH) fun p hp=>⟨(hx.tab p hp).1,by
      obtain ⟨q1,q2⟩:=hx.tab p hp
      show ∃ ty m,W.heap[p.1]?=_
      rw [show W.heap[p.1]?=x.w.heap[p.1]? from iE (hx.zlt _ q1) fun e=>hx.zown _ id q1 ho e.symm]; exact q2⟩
    have hag: ∀ a:A,R z (.agg (f0 (nth l a.1))) (.agg (enc a).toArray):=fun a=>by
      refine .agg _ _ (by simp [hek,hk]) fun j v hj=>?_
      have hjk:j < k:=by rw [← hk (nth l a.1)]; exact (List.getElem?_eq_some_iff.1 hj).1
      have h:=hRx a j v hj
      have hg:(enc a).toArray.getD j undef=cc.getD (a.1*k+j) undef:=by
        rw [Array.getD_eq_getD_getElem?,List.getElem?_toArray,hej a j hjk]; rfl
      rw [hg]
      refine h.pure_same (y:=z) (dK.1 (hp _ (dJ a.2)) v (List.mem_of_getElem? hj)) (fun b hb=>?_) fun _ h=>h
      exact iE (hx.zlt b hb) fun e=>hx.zown b id hb ho e.symm
    have hrl:RL z [.agg (f0 (nth l a.1)),.agg (f0 (nth l b.1))] [.agg (enc a).toArray,.agg (enc b).toArray]:=by
      refine ⟨rfl,fun j v hj=>?_⟩
      match j,hj with
      |0,hj=>simp at hj; subst hj; exact hag a
      |1,hj=>simp at hj; subst hj; exact hag b
    refine ((hc _ (dJ a.2) _ (dJ b.2) H0).2 z _ rfl hz hrl).mono fun e w' h=>?_
    obtain ⟨c,y,rfl,rfl,_,_,h5,h6⟩:=h
    cases h5
    obtain ⟨q,os',hq⟩:=pB h6 fun id=>rfl
    exact ⟨rfl,q,os',hq⟩
  have hsz:d.size < 4611686018427387904:=by rw [hdn]; exact hl
  have hH':HoldsK enc k x.w (x.σ id) 0 d:=by
    intro j hj
    rw [size_flatK,hdn] at hj
    have hk0:0 < k:=Nat.pos_of_ne_zero fun e=>by subst e; simp at hj
    have hdv:j / k < l.length:=(Nat.div_lt_iff_lt_mul hk0).2 hj
    have hmd:j % k < k:=Nat.mod_lt _ hk0
    have e:(flatK enc k d)[j]! =cc.getD j undef:=by
      rw [get_flatK _ _ _ _ (by rw [hdn]; exact hj),hdi _ hdv]
      have h:=hej ⟨j / k,hdv⟩ (j % k) hmd
      rw [List.getElem!_eq_getElem?_getD,h]
      simp only [Option.getD_some]
      rw [Nat.div_add_mod' j k]
    have hjc:j < cc.size:=by omega
    refine ⟨?_,?_⟩
    · rw [e,Nat.zero_add]; exact hC b1 hjc
    · simp [World.frozen?,b1]
  have hcall:=hS enc hek (fun a v hv=>by
      obtain ⟨j,hj⟩:=List.getElem?_of_mem hv
      have hjk:j < k:=by rw [← hek a]; exact (List.getElem?_eq_some_iff.1 hj).1
      rw [hej a j hjk] at hj
      cases hj
      have hu: ∃ u,(f0 (nth l a.1))[j]?=some u:=⟨_,List.getElem?_eq_getElem (by rw [hk]; exact hjk)⟩
      obtain ⟨u,hu⟩:=hu
      exact (hRx a j u hu).one (List.all_eq_true.1 (h1 _ (dJ a.2)) u (List.mem_of_getElem? hu))) cf hO' g #[] (x.σ id) 0 cap d x.w (nK hcg) hcmp hH' (hx.lt ho) hsz
  rw [hdn] at hcall
  refine hcall.mono fun e w' h=>?_
  obtain ⟨rfl,d',n',os',hP,hSo,rfl⟩:=h
  obtain ⟨p1,_,p3⟩:=hP
  rw [hdn] at p1
  have x1:d'.extract 0 l.length=d':=by rw [← p1]; simp
  have x2:d.extract 0 l.length=d:=by rw [← hdn]; simp
  rw [x1,x2] at p3
  have hmap:d.toList.map (fun a:A=>nth l a.1)=l:=by
    refine wV (by simp [hdn]) fun j hj=>?_
    have hj':j < l.length:=by simpa [hdn] using hj
    rw [aFz (by simpa using hj),← jJ d j (by rw [hdn]; exact hj'),hdi j hj']
  have hl':d'.toList.map (fun a:A=>nth l a.1)=srt cmp l:=by
    have hperm:(d'.toList.map (fun a:A=>nth l a.1)).Perm l:=by
      have:=p3.map (fun a:A=>nth l a.1)
      rwa [hmap] at this
    refine oU (le:=fun a b=> ¬cmp b a < 0) (fun a ha b hb h1 h2=>hT a (hperm.mem_iff.1 ha) b (hperm.mem_iff.1 hb) h2 h1) (hperm.trans (jA cmp l).symm) ?_ (kW hO l)
    rw [List.pairwise_map,List.pairwise_iff_getElem]
    intro i j hi hj hij
    have h:=hSo i j (Nat.zero_le _) hij (by rw [← p1]; simpa using hj)
    rw [jJ d' i (by simpa using hi),jJ d' j (by simpa using hj),← bR hi,← bR hj] at h
    simpa [ltOf,cf] using h
  let cc':=putCells _root_.id 0 (flatK enc k d') cc
  have hcs:cc'.size=cc.size:=by simp [cc',putCells]
  have hg: ∀ r j,r < l.length→j < k→ ∀ (hr:r < d'.size),cc'.getD (r*k+j) undef=cc.getD ((d'[r]'hr).1*k+j) undef:=by
    intro r j hr hj hr'
    have hb:r*k+j < l.length*k:=by
      have:(r+1)*k≤l.length*k:=Nat.mul_le_mul_right k hr
      rw [Nat.add_mul,Nat.one_mul] at this; omega
    have hsz':(flatK enc k d').size=l.length*k:=by rw [size_flatK,p1]
    have e:cc'[r*k+j]?=some ((flatK enc k d')[r*k+j]!):=by
      simp only [cc',putCells,Array.getElem?_mapIdx]
      rw [Array.getElem?_eq_getElem (by omega)]
      simp [hsz',hb]
    rw [Array.getD_eq_getD_getElem?,e,get_flatK _ _ _ _ (by rw [p1]; exact hb)]
    have q1:(r*k+j) / k=r:=by rw [Nat.mul_comm,Nat.mul_add_div (by omega),Nat.div_eq_of_lt hj]; rfl
    have q2:(r*k+j) % k=j:=by rw [Nat.mul_comm,Nat.mul_add_mod]; exact Nat.mod_eq_of_lt hj
    rw [q1,q2,getElem!_pos d' r hr',List.getElem!_eq_getElem?_getD,hej _ j hj]
    rfl
  have hrows: ∀ (r:Nat) (row:List V) (j:Nat) (v:V),((srt cmp l).map f0)[r]?=some row→row[j]?=some v→R x v (cc'.getD (r*k+j) undef):=by
    intro r row j v hr hj
    rw [← hl',List.map_map,List.getElem?_map] at hr
    obtain ⟨a,ha,rfl⟩:=map_some hr
    have har:=List.getElem?_eq_some_iff.1 ha
    obtain ⟨hlt,hae⟩:=har
    have hlt':r < d'.size:=by simpa using hlt
    have hjk:j < k:=by rw [← hk (nth l a.1)]; exact (List.getElem?_eq_some_iff.1 hj).1
    rw [hg r j (by omega) hjk hlt']
    have hae':d'[r]'hlt'=a:=by simpa using hae
    rw [hae']
    exact hRx a j v hj
  have st:=mI hx id ho cc cc' (by rw [hH]; exact b1) hcs (x.H id).ver ((srt cmp l).map f0) (Nat.le_refl _) (fun _=>by rw [hH]; simp [iZ]) (by
      rw [hH]
      have:(srt cmp l).length=l.length:=by simp [iZ]
      cases hq:srt cmp l with
      |nil=>rw [hq] at this; simp at this; omega
      |cons a q=>simp) (fun r hr=>by
      rw [hH]
      obtain ⟨a,_,rfl⟩:=List.mem_map.1 hr
      exact hk a) (by rw [hH]; simpa [iZ] using b3) (by simp only [hH]; exact hrows)
  simp only [hH] at st
  obtain ⟨i1,f1⟩:=st
  obtain ⟨i2,f2⟩:=kJ i1 (x.w.drawn+n') (Nat.le_add_right _ _)
  obtain ⟨i3,f3⟩:=aA8 i2 os'
  refine ⟨.tuple #[],_,rfl,?_,?_,i3,.tup [] #[] rfl (fun j v hj=>by simp at hj),(f1.trans f2).trans f3⟩
  · rw [tK b1]
  · rfl
end
end Go.Proofs.YteehaobohaecmaaGreatDoor
namespace Go.Proofs.YteehaobohaecmaaGreatDoor
open Go Go.Proofs Go.Shelf Go.Sort
def pI:Go.Shelf.Ren:=⟨fun|6=>90|15=>110|14=>109|28=>130|29=>131|20=>122|21=>123|22=>124|23=>125|24=>126|25=>127|26=>128|27=>129|46=>142|47=>143|48=>144|49=>145|50=>146|57=>157|n=>n,fun|22=>22|24=>24|25=>137|3=>3|39=>156|0=>0|53=>175|55=>177|4=>4|46=>169|45=>168|50=>81|5=>5|9=>9|66=>188|70=>192|76=>201|77=>98|n=>n,fun n=>n⟩
theorem mK:SlLaysF0.n6 Tryz.prog pI:={
  mixed:=(by kernel_rfl),
  f6:=⟨Tryz.f90.name,by decide,Tryz.func90.trans (congrArg some (by kernel_rfl))⟩,
  f14:=⟨Tryz.f109.name,by decide,Tryz.func109.trans (congrArg some (by kernel_rfl))⟩,
  f15:=Tryz.func110.trans (congrArg some (by kernel_rfl)),
  f20:=⟨Tryz.f122.name,by decide,Tryz.func122.trans (congrArg some (by kernel_rfl))⟩,
  f21:=⟨Tryz.f123.name,by decide,Tryz.func123.trans (congrArg some (by kernel_rfl))⟩,
  f22:=⟨Tryz.f124.name,by decide,Tryz.func124.trans (congrArg some (by kernel_rfl))⟩,
  f23:=⟨Tryz.f125.name,by decide,Tryz.func125.trans (congrArg some (by kernel_rfl))⟩,
  f24:=⟨Tryz.f126.name,by decide,Tryz.func126.trans (congrArg some (by kernel_rfl))⟩,
  f25:=⟨Tryz.f127.name,by decide,Tryz.func127.trans (congrArg some (by kernel_rfl))⟩,
  f26:=⟨Tryz.f128.name,by decide,Tryz.func128.trans (congrArg some (by kernel_rfl))⟩,
  f27:=⟨Tryz.f129.name,by decide,Tryz.func129.trans (congrArg some (by kernel_rfl))⟩,
  f28:=Tryz.func130.trans (congrArg some (by kernel_rfl)),
  f29:=Tryz.func131.trans (congrArg some (by kernel_rfl)),
  f46:=⟨Tryz.f142.name,by decide,Tryz.func142.trans (congrArg some (by kernel_rfl))⟩,
  f47:=Tryz.func143.trans (congrArg some (by kernel_rfl)),
  f48:=Tryz.func144.trans (congrArg some (by kernel_rfl)),
  f49:=⟨Tryz.f145.name,by decide,Tryz.func145.trans (congrArg some (by kernel_rfl))⟩,
  f50:=⟨Tryz.f146.name,by decide,Tryz.func146.trans (congrArg some (by kernel_rfl))⟩,
  f57:=⟨Tryz.f157.name,by decide,Tryz.func157.trans (congrArg some (by kernel_rfl))⟩,
  t0:=Tryz.underlying0,
  a0:=Tryz.isAgg0,
  z0:=Tryz.sizeOf0,
  v0:=Tryz.zeroValue0,
  t3:=Tryz.underlying3,
  a3:=Tryz.isAgg3,
  z3:=Tryz.sizeOf3,
  v3:=Tryz.zeroValue3,
  t4:=Tryz.underlying4,
  a4:=Tryz.isAgg4,
  z4:=Tryz.sizeOf4,
  v4:=Tryz.zeroValue4,
  t5:=Tryz.underlying5,
  a5:=Tryz.isAgg5,
  z5:=Tryz.sizeOf5,
  v5:=Tryz.zeroValue5,
  t9:=Tryz.underlying9,
  a9:=Tryz.isAgg9,
  z9:=Tryz.sizeOf9,
  v9:=Tryz.zeroValue9,
  t22:=Tryz.underlying22,
  a22:=Tryz.isAgg22,
  z22:=Tryz.sizeOf22,
  v22:=Tryz.zeroValue22,
  t25:=Tryz.underlying137,
  a25:=Tryz.isAgg137,
  z25:=Tryz.sizeOf137,
  v25:=Tryz.zeroValue137,
  t39:=Tryz.underlying156,
  a39:=Tryz.isAgg156,
  z39:=Tryz.sizeOf156,
  v39:=Tryz.zeroValue156,
  t45:=Tryz.underlying168,
  a45:=Tryz.isAgg168,
  z45:=Tryz.sizeOf168,
  v45:=Tryz.zeroValue168,
  t46:=Tryz.underlying169,
  a46:=Tryz.isAgg169,
  z46:=Tryz.sizeOf169,
  v46:=Tryz.zeroValue169,
  t50:=Tryz.underlying81,
  a50:=Tryz.isAgg81,
  z50:=Tryz.sizeOf81,
  v50:=Tryz.zeroValue81,
  t53:=Tryz.underlying175,
  a53:=Tryz.isAgg175,
  z53:=Tryz.sizeOf175,
  v53:=Tryz.zeroValue175,
  t55:=Tryz.underlying177,
  a55:=Tryz.isAgg177,
  z55:=Tryz.sizeOf177,
  v55:=Tryz.zeroValue177,
  t66:=Tryz.underlying188,
  a66:=Tryz.isAgg188,
  z66:=Tryz.sizeOf188,
  v66:=Tryz.zeroValue188,
  t70:=Tryz.underlying192,
  a70:=Tryz.isAgg192,
  z70:=Tryz.sizeOf192,
  v70:=Tryz.zeroValue192,
  t76:=Tryz.underlying201,
  a76:=Tryz.isAgg201,
  z76:=Tryz.sizeOf201,
  v76:=Tryz.zeroValue201,
  t77:=Tryz.underlying98,
  a77:=Tryz.isAgg98,
  z77:=Tryz.sizeOf98,
  v77:=Tryz.zeroValue98}
theorem aEf:aDG Tryz.prog 90 3:=fun enc hk h1 cf hO g cb blk off cap d w eg hcmp hH hblk hsz=>
  AnyQ.slices_SortFunc mK 3 Tryz.isAgg24 Tryz.sizeOf24 enc hk h1 cf hO g cb blk off cap d w eg hcmp hH hblk hsz
theorem aEJ:dV Tryz.prog 90:=⟨_,Tryz.func90,by kernel_rfl,by kernel_rfl⟩
theorem aEC:aCQ Tryz.prog 90:=fun p cap fv w=>AnyF.slices_SortFunc_none mK p cap fv w
end Go.Proofs.YteehaobohaecmaaGreatDoor
namespace Go.Proofs.YteehaobohaecmaaGreatDoor
open Go Go.Proofs
theorem aCn (f:Fm) (hok:okF f=true) (hz:f.sz≤268435456) (hq:aQ Tryz.prog 87 [(V.agg (rFq f))] (V.tup [(V.sl (List.map cCl (cZ (cls f)))),(iV (gU (cls f)))])):aQ Tryz.prog 60 [(V.agg (rFq f))] (V.tup [(V.agg (rFq (gV (can f)))),(iV (gU (can f)))]):=by
 refine pW Tryz.func60 aO0 fun hB=>?_
 unfold s60
 dsimp only
 refine W_r (cE (i:=1) (n:=0) (m:=3) (cs:=(rFq f)) rfl (cVq rfl) rfl rfl rfl (aU (i:=2) (n:=0) (m:=3) rfl (cVq rfl) rfl (aA rfl (R_e (W_r (aJ rfl rfl rfl rfl (aI hq rfl ?_)))))))
 refine aA rfl (bH rfl rfl (bH rfl rfl (aA rfl (aA rfl (R_e (aB (W_r ?_)))))))
 refine aA rfl (bZ rfl rfl (R_e ?_))
 refine aH rfl (fun c1=>?_) fun c1=>?_
 ·
  have d1:=aPY c1
  have d0:=jI c1
  refine aB (W_r (aW rfl rfl (aA rfl (bF rfl rfl rfl rfl rfl rfl rfl rfl rfl (aA rfl (R_e (aL ?_)))))))
  refine eM (bC (u:=(V.agg [(iV 0),(iV 0),V.nilsl])) rfl (@rfl Blk bYq) (lB oB rfl rfl)) (bV (rVq (iV (gU (cls f))))) (bE (aE ?_) (aE ?_) (bT ?_)) (aE ?_)
  · rw [d1]; rfl
  · rw [d1]; rfl
  · rw [d1]; rfl
  · rw [d1,d0]; rfl
 have d0:=kA c1
 have d1:=aKF c1
 have g1:=jS f hok _ d0
 have g2:=oW f _ d0
 have g3:=g1.len
 refine aC (aB (W_r (aA rfl (bG rfl (aY rfl rfl (R_e ?_))))))
 refine aH rfl (fun c2=>?_) fun c2=>?_
 ·
  rw [aOg (by omega)] at d1
  refine aB (W_r (aI aDr rfl (bF rfl rfl rfl rfl rfl rfl rfl rfl rfl (aA rfl (R_e (aL ?_))))))
  refine eM (bC (u:=(V.agg [(iV 4),(iV 0),(V.sl (List.map cF ([Fm.nd 1 0 []])))])) rfl (@rfl Blk (bk 1 24 3 [[(iV 4),(iV 0),(V.sl (List.map cF ([Fm.nd 1 0 []])))]])) (lB oB rfl rfl)) (bV (rVq (iV 0))) (bE (aE ?_) (aE ?_) (dB ?_ (fun _=>by simp))) (aE ?_)
  · rw [d1]; rfl
  · rw [d1]; rfl
  · rw [d1]; rfl
  · rw [d1]; rfl
 refine aC (W_r (jV (i:=6) (n:=0) rfl (cVq rfl) (R_e (aB (W_r (aA rfl (bG rfl ?_)))))))
 refine aA rfl (R_e (aD fun Q3 n3 x3 y3 z3=>?_))
 refine bS (fun mm T H=> ∃ (k:Nat) (v:Nat),mm=(cZ (cls f)).length - k∧T 2=(mPq 2)∧T 6=(V.ms 6 v 0 k)∧T 22=(V.sl (List.map cCl (cZ (cls f))))∧T 23=(iV (((cZ (cls f)).length:Nat):Int))∧T 24=(iV ((k:Nat):Int))∧H 1=(bFq f)∧H 2=bYq∧H 6=(bz v 24 3 (List.map cF (((cZ (cls f)).take k).map clF)))∧(k≤(cZ (cls f)).length)∧(∀ i,i < k→(nth (cZ (cls f)) i).length≠0)) ?_ ?_
 ·
  refine ⟨_,0,1,rfl,rfl,rfl,rfl,rfl,(eTq (rVq (iV 0)) rfl),rfl,rfl,(eTq (@rfl Blk (bz 1 24 3 [])) (by rfl)),?_,?_⟩
  · omega
  · intro i hi; omega
 intro mm T H ⟨k,v,hmm,t2,t6,t22,t23,t24,h1,h2,h6,hk,hn⟩ Q4 p14 p24 p34
 unfold aNM
 refine W_r (bM t24 t23 (R_e ?_))
 refine aH rfl (fun c5=>?_) fun c5=>?_
 ·
  refine aC (aD fun Q6 n6 x6 y6 z6=>(W_r (cY (i:=k) t22 t24 (by omega) rfl (aG rfl rfl (aA rfl (R_e (W_r ?_)))))))
  refine aA rfl (bG rfl (R_e (iH fun Q7 n7 x7 y7 z7=>(W_r (aY rfl rfl (aA rfl (R_e ?_)))))))
  refine cD rfl (fun c8=>?_) fun c8=>?_
  ·
   rw [aNy (k:=k) (by omega) (by omega)] at d1
   refine W_r (aI uI rfl (bF t2 rfl rfl h2 rfl rfl rfl rfl rfl (aA rfl (R_e (aO (y7 _ _ (y6 _ _ ?_)))))))
   refine p24 _ _ (y3 _ _ ?_)
   refine eM (bC (u:=(V.agg [(iV 1),(iV 0),(V.sl (List.map cF ([])))])) t2 (@rfl Blk (bk 1 24 3 [[(iV 1),(iV 0),(V.sl (List.map cF ([])))]])) (lB oB rfl rfl)) (bV (rVq (iV 0))) (bE (aE ?_) (aE ?_) (dB ?_ (fun _=>by simp))) (aE ?_)
   · rw [d1]; rfl
   · rw [d1]; rfl
   · rw [d1]; rfl
   · rw [d1]; rfl
  have d2:(nth (cZ (cls f)) k).length≠0:=by omega
  refine W_r (aY rfl rfl (aA rfl (R_e ?_)))
  refine cD rfl (fun c9=>?_) fun c9=>?_
  ·
   have d3:(nth (cZ (cls f)) k).length=1:=by omega
   refine W_t (aA t6 (aA rfl (bU (i:=0) (rVq (V.sl (List.map cF (nth (cZ (cls f)) k)))) (rNq 0) (by omega) (bN _) rfl (aG rfl rfl (aR rfl rfl (bX (l:=(((cZ (cls f)).take k).map clF)) (f:=cF) (x:=(nth (nth (cZ (cls f)) k) 0)) (rVq (V.ms 6 v 0 k)) h6 (by (simp [iZ]; omega)) (fU (x:=(nth (nth (cZ (cls f)) k) 0)) (rVq (V.sl [(rFq (nth (nth (cZ (cls f)) k) 0))]))) (eV _) (fC _) (by omega) (by omega) (aA rfl ?_)))))))
   refine R_e (n7 _ _ (n6 _ _ (.done (W_t (bB t24 (rNq 1) (by omega) (aA rfl (R_e ?_)))))))
   refine p14 _ _ _ ?_ ⟨(k+1),(v+1),rfl,t2,(eTq (rVq (V.ms 6 (v+1) 0 (k+1))) (by rfl)),t22,t23,(eTq (rNq (k+1)) (by rfl)),h1,h2,(eTq (@rfl Blk (bz (v+1) 24 3 (List.map cF (((cZ (cls f)).take k).map clF++[(nth (nth (cZ (cls f)) k) 0)])))) (by (rw [aTd (by omega) d3]; done))),?_,?_⟩
   · omega
   · omega
   · intro i hi
     by_cases e:i=k
     · subst e; exact d2
     · exact hn i (by omega)
  have d3:(nth (cZ (cls f)) k).length≠1:=by omega
  refine W_t (aA t6 (aA rfl (aI (jG (5:Int) (nth (cZ (cls f)) k)) rfl (aR rfl rfl (bX (l:=(((cZ (cls f)).take k).map clF)) (f:=cF) (x:=(Fm.nd (5:Int) (0:Int) (nth (cZ (cls f)) k))) (rVq (V.ms 6 v 0 k)) h6 (by (simp [iZ]; omega)) (fU (x:=(Fm.nd (5:Int) (0:Int) (nth (cZ (cls f)) k))) (rVq (V.sl [[(iV (5:Int)),(iV 0),(V.sl (List.map cF (nth (cZ (cls f)) k)))]]))) (eV _) (fC _) (by omega) (by omega) (aA rfl (R_e ?_)))))))
  refine n7 _ _ (n6 _ _ (.done (W_t (bB t24 (rNq 1) (by omega) (aA rfl (R_e ?_))))))
  refine p14 _ _ _ ?_ ⟨(k+1),(v+1),rfl,t2,(eTq (rVq (V.ms 6 (v+1) 0 (k+1))) (by rfl)),t22,t23,(eTq (rNq (k+1)) (by rfl)),h1,h2,(eTq (@rfl Blk (bz (v+1) 24 3 (List.map cF (((cZ (cls f)).take k).map clF++[(Fm.nd (5:Int) (0:Int) (nth (cZ (cls f)) k))])))) (by (rw [aSy (by omega) d3]; done))),?_,?_⟩
  · omega
  · omega
  · intro i hi
    by_cases e:i=k
    · subst e; exact d2
    · exact hn i (by omega)
 refine aN (p34 _ _ _ (x3 _ _ (.done (aB (W_r (aA t6 (fW rfl h6 (by simp) ?_)))))))
 refine aY rfl rfl (R_e ?_)
 refine aH rfl (fun c10=>?_) fun c10=>?_
 ·
  have hk2:(cZ (cls f)).take k=(cZ (cls f)):=by rw [show k=(cZ (cls f)).length by omega,List.take_length]
  have d5:gV (can f)=nth (((cZ (cls f)).take k).map clF) 0:=by rw [d1,hk2]; exact aND (fun i hi=>hn i (by omega)) (by omega)
  refine aB (W_r (aA t6 (eJ (i:=0) (rVq (V.ms 6 v 0 k)) (rNq 0) h6 (eO (by (simp; omega))) rfl (by omega) (cN (v:=(V.agg (rFq (nth (((cZ (cls f)).take k).map clF) 0)))) rfl h6 (eG (by (simp; omega)) (by (rw [bN]; rfl))) (bF t2 rfl rfl h2 rfl rfl rfl rfl rfl (aA rfl (R_e ?_)))))))
  refine aL ?_
  refine eM (bC (u:=(V.agg (rFq (nth (((cZ (cls f)).take k).map clF) 0)))) t2 (@rfl Blk (bFq (nth (((cZ (cls f)).take k).map clF) 0))) (lB oB rfl rfl)) (bV (rVq (iV 0))) (bE (aE ?_) (aE ?_) (dB ?_ (fun _=>by simp))) (aE ?_)
  · rw [d5]
  · rw [d5]
  · rw [d5]
  · rw [d1]; rfl
 have hk2:(cZ (cls f)).take k=(cZ (cls f)):=by rw [show k=(cZ (cls f)).length by omega,List.take_length]
 have d5:gV (can f)=.nd 6 0 (srt bY (((cZ (cls f)).take k).map clF)):=by rw [d1,hk2]; exact aNL (fun i hi=>hn i (by omega)) (by omega) (by omega)
 refine aC ?_
 refine dO (fun T H=>T 2=(mPq 2)∧T 6=(V.ms 6 v 0 k)∧H 1=(bFq f)∧H 2=bYq∧H 6=(bz v 24 3 (List.map cF (srt bY (((cZ (cls f)).take k).map clF))))∧True) ?_ ?_
 ·
  refine aA t6 (gI (bL rfl (bL rfl eB)) (aEN (aCZ (f0:=cF) (l:=(((cZ (cls f)).take k).map clF)) (cmp:=bY) aEf aEC aEJ ⟨_,Tryz.func91,by kernel_rfl,by kernel_rfl⟩ rX (fun a _ b _ h1 h2=>lK h1 h2) (fun a _ b _=>by rw [bN,bN]; exact pV a b) (fun a _=>by simp) (fun a _=>fC a) eV (by simp; omega) h6) (by simp; omega)) ?_)
  exact eD ⟨t2,t6,h1,h2,rfl,trivial⟩
 intro T H ⟨t2,t6,h1,h2,h6,_⟩
 refine .freeze 6 (.done ?_)
 refine cJ (R:=fun T H=>T 2=(mPq 2)∧T 6=(V.sl (List.map cF (srt bY (((cZ (cls f)).take k).map clF))))∧H 1=(bFq f)∧H 2=bYq∧((H 6).ver=v∧(H 6).live=false)∧True) ⟨(bW t2 rfl),(bW t6 (aGJ h6 (by simp) (l:=(srt bY (((cZ (cls f)).take k).map clF))) rfl (by (simp [iZ]; omega)))),(bQ h1 (by decide)),(bQ h2 (by decide)),(dZ (cVq h6)),trivial⟩ ?_
 intro T H ⟨t2,t6,h1,h2,h6,_⟩
 refine W_r (aA t6 (aI (jG (6:Int) (srt bY (((cZ (cls f)).take k).map clF))) rfl (bF t2 rfl rfl h2 rfl rfl rfl rfl rfl (aA rfl (R_e (aO ?_))))))
 refine eM (bC (u:=(V.agg [(iV (6:Int)),(iV 0),(V.sl (List.map cF (srt bY (((cZ (cls f)).take k).map clF))))])) t2 (@rfl Blk (bk 1 24 3 [[(iV (6:Int)),(iV 0),(V.sl (List.map cF (srt bY (((cZ (cls f)).take k).map clF))))]])) (lB oB rfl rfl)) (bV (rVq (iV 0))) (bE (aE ?_) (aE ?_) (dB ?_ (fun _=>by simp))) (aE ?_)
 · rw [d5]; rfl
 · rw [d5]; rfl
 · rw [d5]; rfl
 · rw [d1]; rfl
def aTh:List SO:=[
 qF 6 0 1,
 ql 7 6,
 qF 8 1 1,
 ql 9 8,
 sO 10 (.build zFq [(0,1,.t 7),(1,1,.t 9)]),
 sO 3 (.alloc 24 zFq),
 sN (.store 3 (.t 3) (.t 10))]
def aTc:List SO:=[
 qF 18 2 3,
 ql 19 18,
 qL 20 3 5,
 sO 21 (.call false 61 [.t 20]),
 sO 22 (.bslice 24 3 false zFq 1 [(0,.t 21)]),
 sO 23 (.append 24 3 40 (.t 19) (.t 22)),
 qF 24 2 3,
 sN (.store 1 (.t 24) (.t 23))]
def aNB:SC:=.seq (.reg [qP 15 .lss 14 13]) (.seq (.cond (.t 15) (.skip) (.exit 0)) (.seq (.block 1 (.seq (.reg [qA 16 3 12 14,qL 17 3 16,sO 5 (.alloc 24 zFq),sN (.store 3 (.t 5) (.t 17))]) (.reg aTc))) (.reg [qC 25 .add 14 1,qM 14 25])))
def s61:SF:=⟨27,[.cell 2 true 3],.seq (.reg [sO 1 (.box 24 3 (.t 0)),sO 2 (.alloc 24 zFq)]) (.seq (.reg aTh) (.seq (.seq (.reg [qF 11 2 1,ql 12 11,qN 13 12,qI 14 0]) (.block 0 (.loop aNB))) (.seq (.reg [qL 26 3 3,sN (.store 3 (.t 2) (.t 26))]) (.ret))))⟩
theorem aOY:bJ Tryz.prog ⟨oEq,[],[],[]⟩ Tryz.f61=some s61:=by kernel_rfl
theorem tS (f:Fm) (hz:f.sz≤4096) (ih: ∀ (g:Fm),g.sz < f.sz→g.sz≤4096→aQ Tryz.prog 61 [(V.agg (rFq g))] (V.agg (rFq g))):aQ Tryz.prog 61 [(V.agg (rFq f))] (V.agg (rFq f)):=by
 refine pW Tryz.func61 aOY fun hB=>?_
 unfold s61
 dsimp only
 have hln:=f.sz_len
 refine W_r (cE (i:=1) (n:=0) (m:=3) (cs:=(rFq f)) rfl (cVq rfl) rfl rfl rfl (aU (i:=2) (n:=0) (m:=3) rfl (cVq rfl) rfl (R_e (W_r (aM rfl rfl (aJ rfl rfl rfl rfl (aM rfl rfl ?_)))))))
 refine aJ rfl rfl rfl rfl (aW rfl rfl (aU (i:=3) (n:=0) (m:=3) rfl (cVq rfl) rfl (bF rfl rfl rfl rfl rfl rfl rfl rfl rfl (R_e (aB ?_)))))
 refine dO (fun T H=>T 2=(mPq 2)∧T 3=(mPq 3)∧T 12=(V.sl (List.map cF f.kids))∧T 13=(iV ((f.kids.length:Nat):Int))∧T 14=(iV 0)∧H 1=(bFq f)∧H 2=bYq∧H 3=(bk 1 24 3 [[(iV f.op),(iV f.arg),V.nilsl]])∧H 5=bZq∧H 353=bZq∧True) ?_ ?_
 ·
  refine aM rfl rfl (aJ rfl rfl rfl rfl (bG rfl (aA rfl ?_)))
  exact eD ⟨rfl,rfl,rfl,rfl,rfl,rfl,rfl,rfl,rfl,rfl,trivial⟩
 intro T H ⟨t2,t3,t12,t13,t14,h1,h2,h3,h5,h353,_⟩
 refine .lazyCell 353 24 3 3 0 2 [(iV f.op),(iV f.arg),V.nilsl] (by decide) (by rw [h3]; rfl) (by rw [h3]; rfl) rfl (.done ?_)
 refine cJ (R:=fun T H=>T 2=(mPq 2)∧T 3=(mPq 3)∧T 12=(V.sl (List.map cF f.kids))∧T 13=(iV ((f.kids.length:Nat):Int))∧T 14=(iV 0)∧H 1=(bFq f)∧H 2=bYq∧H 3=(bk 1 24 3 [[(iV f.op),(iV f.arg),(V.ms 353 1 0 0)]])∧H 5=bZq∧H 353=(bz 1 24 3 [])∧True) ⟨t2,t3,t12,t13,t14,(uTq (uTq h1)),(uTq (uTq h2)),(by rw [aK,h3,(cVq h353)]; rfl),(uTq (uTq h5)),(by rw [bD _ _ (by decide),aK,(cVq h353)]),trivial⟩ ?_
 intro T H ⟨t2,t3,t12,t13,t14,h1,h2,h3,h5,h353,_⟩
 refine aD fun Q1 n1 x1 y1 z1=>?_
 refine bS (fun mm T H=> ∃ (k:Nat) (w:Nat) (v5:Nat),mm=f.kids.length - k∧T 2=(mPq 2)∧T 3=(mPq 3)∧T 12=(V.sl (List.map cF f.kids))∧T 13=(iV ((f.kids.length:Nat):Int))∧T 14=(iV ((k:Nat):Int))∧H 1=(bFq f)∧H 2=bYq∧H 3=(bk 1 24 3 [[(iV f.op),(iV f.arg),(V.ms 353 w 0 k)]])∧(H 5).ver=v5∧H 353=(bz w 24 3 (List.map cF (f.kids.take k)))∧(k≤f.kids.length)) ?_ ?_
 ·
  refine ⟨_,0,1,0,rfl,t2,t3,t12,t13,(eTq t14 rfl),h1,h2,h3,(cVq h5),(eTq h353 (by rfl)),?_⟩
  · omega
 intro mm T H ⟨k,w,v5,hmm,t2,t3,t12,t13,t14,h1,h2,h3,h5,h353,hk⟩ Q2 p12 p22 p32
 unfold aNB
 refine W_r (bM t14 t13 (R_e ?_))
 refine aH rfl (fun c3=>?_) fun c3=>?_
 ·
  refine aC (aD fun Q4 n4 x4 y4 z4=>(W_r (bU (i:=k) t12 t14 (by omega) (bN _) rfl (aG rfl rfl (aU (i:=5) (n:=v5) (m:=3) rfl h5 rfl (bF rfl rfl rfl rfl rfl rfl rfl rfl rfl (R_e ?_)))))))
  refine W_t (aM t3 h3 (aJ rfl h3 rfl rfl (aJ rfl rfl rfl rfl (aI (ih (nth f.kids k) skq (szq hz)) rfl (aR rfl rfl (bX (l:=(f.kids.take k)) (f:=cF) (x:=(nth f.kids k)) (rVq (V.ms 353 w 0 k)) h353 (by (simp; omega)) (fU (x:=(nth f.kids k)) (rVq (V.sl [(rFq (nth f.kids k))]))) (eV _) (fC _) (by omega) (by omega) (aM t3 h3 ?_)))))))
  refine bF rfl rfl rfl h3 rfl rfl rfl rfl rfl (R_e (n4 _ _ (.done (W_t (bB t14 (rNq 1) (by omega) (aA rfl (R_e ?_)))))))
  refine p12 _ _ _ ?_ ⟨(k+1),(w+1),(v5+1),rfl,t2,t3,t12,t13,(eTq (rNq (k+1)) (by rfl)),h1,h2,(eTq (@rfl Blk (bk 1 24 3 [[(iV f.op),(iV f.arg),(V.ms 353 (w+1) 0 (k+1))]])) (by rfl)),(cVq rfl),(eTq (@rfl Blk (bz (w+1) 24 3 (List.map cF (f.kids.take k++[(nth f.kids k)])))) (by (rw [cU (by omega)]; done))),?_⟩
  · omega
  · omega
 refine aN (p32 _ _ _ (x1 _ _ (.done (W_r (aJ t3 h3 rfl rfl (bF t2 rfl rfl h2 rfl rfl rfl rfl rfl (R_e ?_)))))))
 refine aO ?_
 refine cP (bC (u:=(V.agg [(iV f.op),(iV f.arg),(V.ms 353 w 0 k)])) t2 (@rfl Blk (bk 1 24 3 [[(iV f.op),(iV f.arg),(V.ms 353 w 0 k)]])) (lB oB rfl rfl)) (bE (cG (by simp) rfl) (cG (by simp) rfl) (gL h353 (by simp) (l:=(f.kids.take k)) rfl (by (simp; omega)) (fun _=>by simp) ?_))
 · first|rfl|(rw [show k=f.kids.length by omega,List.take_length]; done)
theorem aDM (f:Fm) (hz:f.sz≤4096):aQ Tryz.prog 61 [(V.agg (rFq f))] (V.agg (rFq f)):=by
  have key: ∀ (mm:Nat) (f:Fm),f.sz < mm→f.sz≤4096→aQ Tryz.prog 61 [(V.agg (rFq f))] (V.agg (rFq f)):=by
    intro mm
    induction mm with
    |zero=>intro f hlt; exact absurd hlt (Nat.not_lt_zero _)
    | succ mm ih =>
      intro f hlt hz
      exact tS f hz fun f2 hlt2=>ih f2 (by omega)
  exact key (f.sz+1) f (Nat.lt_succ_self _) hz
def aOA:List SO:=[
 qF 33 2 1,
 ql 34 33,
 sO 35 (.call false 107 [.t 34]),
 qE 36 35 0,
 qE 37 35 1,
 qM 2 36,
 qM 3 37]
def aPg:List SO:=[
 qF 40 2 1,
 ql 41 40,
 sO 42 (.call false 108 [.t 41]),
 qE 43 42 0,
 qE 44 42 1,
 qM 2 43,
 qM 3 44]
def aP2:List SO:=[
 qL 56 3 6,
 sO 57 (.call false 60 [.t 56]),
 qM 55 57,
 qE 58 55 0,
 qE 59 55 1,
 sO 7 (.alloc 24 zFq),
 sN (.store 3 (.t 7) (.t 58)),
 qM 8 59]
def aO8:List SO:=[
 qF 63 2 4,
 ql 64 63,
 qL 65 3 7,
 sO 66 (.bslice 24 3 false zFq 1 [(0,.t 65)]),
 sO 67 (.append 24 3 40 (.t 64) (.t 66)),
 qF 68 2 4,
 sN (.store 1 (.t 68) (.t 67))]
def aNJ:SC:=.seq (.reg [qP 52 .lss 51 50]) (.seq (.cond (.t 52) (.skip) (.exit 1)) (.seq (.block 2 (.seq (.reg [qA 53 3 49 51,qL 54 3 53,sO 6 (.alloc 24 zFq),sN (.store 3 (.t 6) (.t 54))]) (.seq (.reg aP2) (.seq (.seq (.reg [qM 60 8,qC 61 .neq 60 0]) (.cond (.t 61) (.seq (.reg [qM 62 8,sO 2 (.mv (.c (.nilsl))),qM 3 62]) (.ret)) (.skip))) (.reg aO8))))) (.reg [qC 69 .add 51 1,qM 51 69])))
def s87:SF:=⟨73,[.tmp 2,.tmp 3],.seq (.reg [sO 1 (.box 24 3 (.t 0)),sO 2 (.mv (.c (.nilsl))),qI 3 0]) (.seq (.seq (.reg [qF 9 0 1,ql 10 9]) (.block 0 (.seq (.reg [qC 12 .eql 10 1,qM 11 12]) (.cond (.t 11) (.seq (.reg [sO 13 (.bslice 135 1 false [.nilsl] 1 [(0,.c (.nilsl))]),qM 2 13,qI 3 0]) (.ret)) (.seq (.reg [qC 15 .eql 10 4,qM 14 15]) (.cond (.t 14) (.seq (.seq (.reg [qF 16 2 1,ql 17 16,sO 18 (.idx 3 (.t 17) (.c (.int .i64 0))),qF 19 0 18,ql 20 19,qC 21 .eql 20 1]) (.cond (.t 21) (.seq (.reg [sO 2 (.mv (.c (.nilsl))),qI 3 0]) (.ret)) (.skip))) (.seq (.reg [qL 22 3 1,sO 23 (.bslice 24 3 false zFq 1 [(0,.t 22)]),sO 24 (.bslice 135 1 false [.nilsl] 1 [(0,.t 23)]),qM 2 24,qI 3 0]) (.ret))) (.seq (.seq (.reg [qC 26 .eql 10 2,qM 25 26]) (.cond (.t 25) (.skip) (.reg [qC 27 .eql 10 3,qM 25 27]))) (.cond (.t 25) (.seq (.reg [qL 28 3 1,sO 29 (.bslice 24 3 false zFq 1 [(0,.t 28)]),sO 30 (.bslice 135 1 false [.nilsl] 1 [(0,.t 29)]),qM 2 30,qI 3 0]) (.ret)) (.seq (.reg [qC 32 .eql 10 6,qM 31 32]) (.cond (.t 31) (.seq (.reg aOA) (.ret)) (.seq (.reg [qC 39 .eql 10 5,qM 38 39]) (.cond (.t 38) (.seq (.reg aPg) (.ret)) (.skip))))))))))))) (.seq (.reg [qF 45 0 1,ql 46 45,sO 47 (.build zFq [(0,1,.t 46)]),sO 4 (.alloc 24 zFq),sN (.store 3 (.t 4) (.t 47))]) (.seq (.seq (.reg [qF 48 2 1,ql 49 48,qN 50 49,qI 51 0]) (.block 1 (.loop aNJ))) (.seq (.reg [qL 70 3 4,sO 71 (.bslice 24 3 false zFq 1 [(0,.t 70)]),sO 72 (.bslice 135 1 false [.nilsl] 1 [(0,.t 71)]),qM 2 72,qI 3 0]) (.ret)))))⟩
theorem aRW:bJ Tryz.prog ⟨oEq,[],[],[]⟩ Tryz.f87=some s87:=by kernel_rfl
def aQc:List SO:=[
 qL 18 3 6,
 sO 19 (.call false 87 [.t 18]),
 qM 17 19,
 qE 20 17 0,
 qE 21 17 1,
 qM 7 20,
 qM 8 21]
def aJo:SC:=.seq (.reg [qP 28 .lss 27 26]) (.seq (.cond (.t 28) (.skip) (.exit 2)) (.seq (.block 3 (.seq (.reg [qA 29 1 25 27,ql 30 29,qM 10 30]) (.reg [qM 31 4,qM 32 10,sO 33 (.call false 119 [.t 31,.t 32]),qM 4 33]))) (.reg [qC 34 .add 27 1,qM 27 34])))
def aKa:SC:=.seq (.reg [qP 14 .lss 13 12]) (.seq (.cond (.t 14) (.skip) (.exit 0)) (.seq (.block 1 (.seq (.reg [qA 15 3 11 13,qL 16 3 15,sO 6 (.alloc 24 zFq),sN (.store 3 (.t 6) (.t 16))]) (.seq (.reg aQc) (.seq (.seq (.reg [qM 22 8,qC 23 .neq 22 0]) (.cond (.t 23) (.seq (.reg [qM 24 8,sO 2 (.mv (.c (.nilsl))),qM 3 24]) (.ret)) (.skip))) (.seq (.reg [qM 25 7,qN 26 25,qI 27 0]) (.block 2 (.loop aJo))))))) (.reg [qC 35 .add 13 1,qM 13 35])))
def aS9:SF:=⟨40,[.tmp 2,.tmp 3],.seq (.reg [sO 2 (.mv (.c (.nilsl))),qI 3 0]) (.seq (.reg [sO 4 (.mv (.c (.nilsl)))]) (.seq (.seq (.reg [qM 11 0,qN 12 11,qI 13 0]) (.block 0 (.loop aKa))) (.seq (.reg [qM 36 4,sO 37 (.call false 120 [.t 36]),qE 38 37 0,qE 39 37 1,qM 2 38,qM 3 39]) (.ret))))⟩
theorem aLz:bJ Tryz.prog ⟨oEq,[],[],[]⟩ Tryz.f107=some aS9:=by kernel_rfl
def aJc:SC:=.seq (.reg [qP 20 .lss 19 18]) (.seq (.cond (.t 20) (.skip) (.exit 0)) (.seq (.block 1 (.seq (.reg [qA 21 1 17 19,ql 22 21,qM 7 22]) (.seq (.reg [qM 23 7,ql 24 3,sO 25 (.call false 140 [.t 23,.t 24]),sO 26 (.un .not (.t 25))]) (.cond (.t 26) (.reg [qM 27 5,qM 28 7,sO 29 (.bslice 135 1 false [.nilsl] 1 [(0,.t 28)]),sO 30 (.append 135 1 24 (.t 27) (.t 29)),qM 5 30]) (.skip))))) (.reg [qC 31 .add 19 1,qM 19 31])))
def aSW:SF:=⟨36,[.tmp 4],.seq (.reg [sO 3 (.box 135 1 (.t 1)),sO 4 (.mv (.c (.nilsl)))]) (.seq (.seq (.reg [qM 8 0,sO 9 (.mkf 139 [.t 3]),sO 10 (.call false 138 [.t 8,.t 9]),qC 11 .gtr 10 0]) (.cond (.t 11) (.seq (.reg [qM 12 0,qM 4 12]) (.ret)) (.skip))) (.seq (.reg [qM 13 0,qN 14 13,qC 15 .add 14 1,sO 16 (.mks 135 1 24 [.nilsl] (.c (.int .i64 0)) (.t 15)),qM 5 16]) (.seq (.seq (.reg [qM 17 0,qN 18 17,qI 19 0]) (.block 0 (.loop aJc))) (.seq (.reg [qM 32 5,ql 33 3,sO 34 (.bslice 135 1 false [.nilsl] 1 [(0,.t 33)]),sO 35 (.append 135 1 24 (.t 32) (.t 34)),qM 4 35]) (.ret)))))⟩
theorem aMc:bJ Tryz.prog ⟨oEq,[],[],[]⟩ Tryz.f119=some aSW:=by kernel_rfl
def aI3:SC:=.seq (.reg [qP 11 .lss 10 9]) (.seq (.cond (.t 11) (.skip) (.exit 0)) (.seq (.block 1 (.seq (.reg [qA 12 1 8 10,ql 13 12,qM 7 13]) (.seq (.reg [qM 14 1,qM 15 7,sO 16 (.callv false (.t 14) [.t 15])]) (.cond (.t 16) (.reg [qM 17 5,qC 18 .add 17 1,qM 5 18]) (.skip))))) (.reg [qC 19 .add 10 1,qM 10 19])))
def aQt:SF:=⟨21,[.tmp 4],.seq (.reg [qI 4 0]) (.seq (.reg [qI 5 0]) (.seq (.seq (.reg [qM 8 0,qN 9 8,qI 10 0]) (.block 0 (.loop aI3))) (.seq (.reg [qM 20 5,qM 4 20]) (.ret))))⟩
theorem aLL:bJ Tryz.prog ⟨oEq,[],[],[]⟩ Tryz.f138=some aQt:=by kernel_rfl
theorem aHo (p:Cl→Bool) (w:List Cl) (g:Nat) (caps:List V) (hca:dL caps=true) (hpu:eE caps=true) (hq: ∀ k,k < w.length→aQ Tryz.prog g (V.sl ((nth w k).map cF)::caps) (.bool (p (nth w k)))) (hl:w.length≤1099511627776):aQ Tryz.prog 138 [(V.sl (List.map cCl w)),(V.fn g [] caps)] (iV ((iX p w:Nat):Int)):=by
 refine kT true 6 Tryz.func138 aLL (by kernel_rfl) (by simp [aQt]) (by simp [hpu]) (by simp) fun hB=>?_
 simp only [nG,mR,kQ,mX,mO,qZ,mS,kV,implies_true,and_true,true_and] at hB
 unfold aQt
 dsimp only
 refine W_r (aA rfl (R_e (W_r (aA rfl (R_e (aB (W_r ?_)))))))
 refine aA rfl (bG rfl (aA rfl (R_e (aD fun Q1 n1 x1 y1 z1=>?_))))
 refine bS (fun mm T H=> ∃ (k:Nat),mm=w.length - k∧T 1=(V.fn g [] caps)∧T 5=(iV ((iX p (w.take k):Nat):Int))∧T 8=(V.sl (List.map cCl w))∧T 9=(iV ((w.length:Nat):Int))∧T 10=(iV ((k:Nat):Int))∧(k≤w.length)) ?_ ?_
 ·
  refine ⟨_,0,rfl,rfl,(eTq (rVq (iV 0)) (by rfl)),rfl,rfl,(eTq (rVq (iV 0)) rfl),?_⟩
  · omega
 intro mm T H ⟨k,hmm,t1,t5,t8,t9,t10,hk⟩ Q2 p12 p22 p32
 unfold aI3
 have hq1:=aGn p (w.take k)
 have hq2:(w.take k).length=k:=by rw [List.length_take]; omega
 refine W_r (bM t10 t9 (R_e ?_))
 refine aH rfl (fun c3=>?_) fun c3=>?_
 ·
  refine aC (aD fun Q4 n4 x4 y4 z4=>(W_r (cY (i:=k) t8 t10 (by omega) rfl (aG rfl rfl (aA rfl (R_e (W_r ?_)))))))
  refine aA t1 (aA rfl (lI (rVq (V.fn g [] caps)) (bL (rVq (V.sl (List.map cF (nth w k)))) eB) (hq k (by omega)) (dR _ _ (by simp [hca])) (by simp [hpu]) (Or.inl (by simp [hpu])) (R_e ?_)))
  refine jW rfl (fun c5=>?_) (fun c5=>?_)
  ·
   have d1:=aCy (p:=p) (l:=w) (k:=k) (by omega) c5
   refine W_t (aA t5 (bB rfl (rNq 1) (by omega) (aA rfl (R_e (n4 _ _ (.done (W_t ?_)))))))
   refine bB t10 (rNq 1) (by omega) (aA rfl (R_e ?_))
   refine p12 _ _ _ ?_ ⟨(k+1),rfl,t1,(eTq (rNq ((iX p (w.take k))+1)) (by (rw [d1]; done))),t8,t9,(eTq (rNq (k+1)) (by rfl)),?_⟩
   · omega
   · omega
  have d1:=aFG (p:=p) (l:=w) (k:=k) (by omega) (by simp only [c5]; exact Bool.false_ne_true)
  refine cM (n4 _ _ (.done (W_t (bB t10 (rNq 1) (by omega) (aA rfl (R_e ?_))))))
  refine p12 _ _ _ ?_ ⟨(k+1),rfl,t1,(eTq t5 (by (rw [d1]; done))),t8,t9,(eTq (rNq (k+1)) (by rfl)),?_⟩
  · omega
  · omega
 refine aN (p32 _ _ _ (x1 _ _ (.done (W_r (aA t5 (aA rfl (R_e ?_)))))))
 refine aO ?_
 refine bI (rNq (iX p (w.take k))) (aE ?_)
 · rw [show k=w.length by omega,List.take_length]
def aUg:SF:=⟨7,[.tmp 3],.seq (.reg [sO 3 (.mv (.c (.bool false)))]) (.seq (.reg [ql 4 1,qM 5 0,sO 6 (.call false 140 [.t 4,.t 5]),qM 3 6]) (.ret))⟩
theorem aLt:bJ Tryz.prog ⟨oEq,[],[],[]⟩ Tryz.f139=some aUg:=by kernel_rfl
def aTT:SF:=⟨9,[.tmp 4],.seq (.reg [sO 2 (.box 135 1 (.t 0)),sO 4 (.mv (.c (.bool false)))]) (.seq (.reg [qM 5 1,sO 6 (.mkf 151 [.t 2]),sO 7 (.call false 69 [.t 5,.t 6]),qC 8 .eql 7 0,qM 4 8]) (.ret))⟩
theorem aK3:bJ Tryz.prog ⟨oEq,[],[],[]⟩ Tryz.f140=some aTT:=by kernel_rfl
def aN4:SC:=.seq (.reg [qP 11 .lss 10 9]) (.seq (.cond (.t 11) (.skip) (.exit 0)) (.seq (.block 1 (.seq (.reg [qA 12 3 8 10,qL 13 3 12,sO 7 (.alloc 24 zFq),sN (.store 3 (.t 7) (.t 13))]) (.seq (.reg [qM 14 1,qL 15 3 7,sO 16 (.callv false (.t 14) [.t 15])]) (.cond (.t 16) (.reg [qM 17 5,qC 18 .add 17 1,qM 5 18]) (.skip))))) (.reg [qC 19 .add 10 1,qM 10 19])))
def s69:SF:=⟨21,[.tmp 4],.seq (.reg [qI 4 0]) (.seq (.reg [qI 5 0]) (.seq (.seq (.reg [qM 8 0,qN 9 8,qI 10 0]) (.block 0 (.loop aN4))) (.seq (.reg [qM 20 5,qM 4 20]) (.ret))))⟩
theorem aQo:bJ Tryz.prog ⟨oEq,[],[],[]⟩ Tryz.f69=some s69:=by kernel_rfl
theorem uO (p:Fm→Bool) (w:List Fm) (g:Nat) (caps:List V) (hca:dL caps=true) (hpu:eE caps=true) (hq: ∀ k,k < w.length→aQ Tryz.prog g (fmV (nth w k)::caps) (.bool (p (nth w k)))) (hl:w.length≤1099511627776):aQ Tryz.prog 69 [(V.sl (List.map cF w)),(V.fn g [] caps)] (iV ((iX p w:Nat):Int)):=by
 refine kT true 6 Tryz.func69 aQo (by kernel_rfl) (by simp [s69]) (by simp [hpu]) (by simp) fun hB=>?_
 simp only [nG,mR,kQ,mX,mO,qZ,mS,kV,implies_true,and_true,true_and] at hB
 unfold s69
 dsimp only
 refine W_r (aA rfl (R_e (W_r (aA rfl (R_e (aB (W_r ?_)))))))
 refine aA rfl (bG rfl (aA rfl (R_e (aD fun Q1 n1 x1 y1 z1=>?_))))
 refine bS (fun mm T H=> ∃ (k:Nat) (v7:Nat),mm=w.length - k∧T 1=(V.fn g [] caps)∧T 5=(iV ((iX p (w.take k):Nat):Int))∧T 8=(V.sl (List.map cF w))∧T 9=(iV ((w.length:Nat):Int))∧T 10=(iV ((k:Nat):Int))∧(H 7).ver=v7∧(k≤w.length)) ?_ ?_
 ·
  refine ⟨_,0,0,rfl,rfl,(eTq (rVq (iV 0)) (by rfl)),rfl,rfl,(eTq (rVq (iV 0)) rfl),(cVq rfl),?_⟩
  · omega
 intro mm T H ⟨k,v7,hmm,t1,t5,t8,t9,t10,h7,hk⟩ Q2 p12 p22 p32
 unfold aN4
 have hq1:=aGn p (w.take k)
 have hq2:(w.take k).length=k:=by rw [List.length_take]; omega
 refine W_r (bM t10 t9 (R_e ?_))
 refine aH rfl (fun c3=>?_) fun c3=>?_
 ·
  refine aC (aD fun Q4 n4 x4 y4 z4=>(W_r (bU (i:=k) t8 t10 (by omega) (bN _) rfl (aG rfl rfl (aU (i:=7) (n:=v7) (m:=3) rfl h7 rfl (bF rfl rfl rfl rfl rfl rfl rfl rfl rfl (R_e ?_)))))))
  refine W_r (aA t1 (aJ rfl rfl rfl rfl (lI (rVq (V.fn g [] caps)) (bL (rVq (V.agg (rFq (nth w k)))) eB) (hq k (by omega)) (dR _ _ (by simp [hca])) (by simp [hpu]) (Or.inl (by simp [hpu])) (R_e ?_))))
  refine jW rfl (fun c5=>?_) (fun c5=>?_)
  ·
   have d1:=aCy (p:=p) (l:=w) (k:=k) (by omega) c5
   refine W_t (aA t5 (bB rfl (rNq 1) (by omega) (aA rfl (R_e (n4 _ _ (.done (W_t ?_)))))))
   refine bB t10 (rNq 1) (by omega) (aA rfl (R_e ?_))
   refine p12 _ _ _ ?_ ⟨(k+1),(v7+1),rfl,t1,(eTq (rNq ((iX p (w.take k))+1)) (by (rw [d1]; done))),t8,t9,(eTq (rNq (k+1)) (by rfl)),(cVq rfl),?_⟩
   · omega
   · omega
  have d1:=aFG (p:=p) (l:=w) (k:=k) (by omega) (by simp only [c5]; exact Bool.false_ne_true)
  refine cM (n4 _ _ (.done (W_t (bB t10 (rNq 1) (by omega) (aA rfl (R_e ?_))))))
  refine p12 _ _ _ ?_ ⟨(k+1),(v7+1),rfl,t1,(eTq t5 (by (rw [d1]; done))),t8,t9,(eTq (rNq (k+1)) (by rfl)),(cVq rfl),?_⟩
  · omega
  · omega
 refine aN (p32 _ _ _ (x1 _ _ (.done (W_r (aA t5 (aA rfl (R_e ?_)))))))
 refine aO ?_
 refine bI (rNq (iX p (w.take k))) (aE ?_)
 · rw [show k=w.length by omega,List.take_length]
def aRF:List SO:=[
 ql 7 1,
 qL 8 3 2,
 sO 9 (.call false 152 [.t 7,.t 8,.c (.fn 91 [] [])]),
 qM 6 9,
 qE 10 6 0,
 qE 11 6 1,
 qM 4 10,
 qM 5 11]
def aS4:SF:=⟨14,[.tmp 3],.seq (.reg [sO 2 (.box 24 3 (.t 0)),sO 3 (.mv (.c (.bool false)))]) (.seq (.reg aRF) (.seq (.reg [qM 12 5,sO 13 (.un .not (.t 12)),qM 3 13]) (.ret)))⟩
theorem aLB:bJ Tryz.prog ⟨oEq,[],[],[]⟩ Tryz.f151=some aS4:=by kernel_rfl
def aQ2:List SO:=[
 qM 18 9,
 qM 19 10,
 qP 20 .add 18 19,
 sO 21 (.conv .u64 (.t 20)),
 sO 22 (.bin .shr (.t 21) (.c (.int .u64 1))),
 sO 23 (.conv .i64 (.t 22)),
 qM 11 23]
def aPt:List SO:=[
 qM 24 2,
 qM 25 0,
 qM 26 11,
 qA 27 3 25 26,
 qL 28 3 27,
 qL 29 3 4,
 sO 30 (.callv false (.t 24) [.t 28,.t 29]),
 qC 31 .lss 30 0]
def aI9:SC:=.seq (.seq (.reg [qM 15 9,qM 16 10,qP 17 .lss 15 16]) (.cond (.t 17) (.skip) (.exit 0))) (.block 1 (.seq (.reg aQ2) (.seq (.reg aPt) (.cond (.t 31) (.reg [qM 32 11,qC 33 .add 32 1,qM 9 33]) (.reg [qM 34 11,qM 10 34])))))
def aRx:List SO:=[
 qM 35 9,
 qM 36 9,
 qM 37 8,
 qP 38 .lss 36 37,
 qM 39 38,
 ⟨some (39,true),some 40,.mv (.t 2)⟩,
 ⟨some (39,true),some 41,.mv (.t 0)⟩,
 ⟨some (39,true),some 42,.mv (.t 9)⟩,
 ⟨some (39,true),some 43,.idx 3 (.t 41) (.t 42)⟩,
 ⟨some (39,true),some 44,.load true 3 (.t 43)⟩,
 ⟨some (39,true),some 45,.load true 3 (.t 4)⟩,
 ⟨some (39,true),some 46,.callv false (.t 40) [.t 44,.t 45]⟩,
 ⟨some (39,true),some 47,.bin .eql (.t 46) (.c (.int .i64 0))⟩,
 sO 48 (.pick (.t 39) (.t 47) (.c (.bool false))),
 qM 6 35,
 qM 7 48]
def aSx:SF:=⟨49,[.tmp 6,.tmp 7],.seq (.reg [sO 4 (.box 24 3 (.t 1)),qI 6 0,sO 7 (.mv (.c (.bool false)))]) (.seq (.reg [qM 12 0,qN 13 12,qM 8 13]) (.seq (.reg [qM 14 8,qI 9 0,qM 10 14]) (.seq (.block 0 (.loop aI9)) (.seq (.reg aRx) (.ret)))))⟩
theorem aMH:bJ Tryz.prog ⟨oEq,[],[],[]⟩ Tryz.f152=some aSx:=by kernel_rfl
theorem aKH (l:List Fm) (t:Fm) (hs:gO l) (hl:l.length≤4294967296):aQ Tryz.prog 152 [(V.sl (List.map cF l)),(V.agg (rFq t)),(V.fn 91 [] [])] (V.tup [(iV ((lbF l t:Nat):Int)),(V.bool (decide (lbF l t < l.length∧bY (nth l (lbF l t)) t=0)))]):=by
 refine pW Tryz.func152 aMH fun hB=>?_
 unfold aSx
 dsimp only
 have q0:=aIB t l
 refine W_r (cE (i:=4) (n:=0) (m:=3) (cs:=(rFq t)) rfl (cVq rfl) rfl rfl rfl (aA rfl (aA rfl (R_e (W_r (aA rfl (bG rfl ?_)))))))
 refine aA rfl (R_e (W_r (aA rfl (aA rfl (aA rfl (R_e (aD fun Q1 n1 x1 y1 z1=>?_)))))))
 refine bS (fun mm T H=> ∃ (i:Nat) (j:Nat),mm=j - i∧T 0=(V.sl (List.map cF l))∧T 2=(V.fn 91 [] [])∧T 4=(mPq 4)∧T 8=(iV ((l.length:Nat):Int))∧T 9=(iV ((i:Nat):Int))∧T 10=(iV ((j:Nat):Int))∧H 4=(bFq t)∧(i≤lbF l t)∧(lbF l t≤j)∧(j≤l.length)) ?_ ?_
 ·
  refine ⟨_,0,l.length,rfl,rfl,rfl,rfl,rfl,(eTq (rVq (iV 0)) rfl),rfl,rfl,?_,?_,?_⟩
  · omega
  · omega
  · omega
 intro mm T H ⟨i,j,hmm,t0,t2,t4,t8,t9,t10,h4,h1,h2,h3⟩ Q2 p12 p22 p32
 unfold aI9
 refine aB (W_r (aA t9 (aA t10 (bM rfl rfl (R_e ?_)))))
 refine aH rfl (fun c3=>?_) fun c3=>?_
 ·
  refine aC (iH fun Q4 n4 x4 y4 z4=>(W_r (aA t9 (aA t10 (bB rfl rfl (by omega) (aGP (n:=(i+j)) (rNq (i+j)) (by omega) (aQV (n:=(i+j)) rfl rfl ?_)))))))
  refine aLN (n:=((i+j) / 2)) (rVq (V.int .u64 (((i+j) / 2:Nat):Int))) (by omega) (aA rfl (R_e (W_r (aA t2 (aA t0 (aA rfl (bU (i:=((i+j) / 2)) (rVq (V.sl (List.map cF l))) (rNq ((i+j) / 2)) (by omega) (bN _) rfl ?_)))))))
  refine aG rfl rfl (aJ t4 h4 rfl rfl (lI (rVq (V.fn 91 [] [])) (bL (rVq (V.agg (rFq (nth l ((i+j) / 2))))) (bL (rVq (V.agg (rFq t))) eB)) (pV (nth l ((i+j) / 2)) t) (dR _ _ (by simp)) (by simp) (Or.inl (by simp)) (bM rfl rfl (R_e ?_))))
  refine cD rfl (fun c5=>?_) fun c5=>?_
  ·
   have d1:=(rR hs (by omega)).1 c5
   refine W_t (aA rfl (bB rfl (rNq 1) (by omega) (aA rfl (R_e (n4 _ _ ?_)))))
   refine p12 _ _ _ ?_ ⟨(((i+j) / 2)+1),j,rfl,t0,t2,t4,t8,(eTq (rNq (((i+j) / 2)+1)) (by rfl)),t10,h4,?_,?_,?_⟩
   · omega
   · omega
   · omega
   · omega
  have d1: ¬((i+j) / 2 < lbF l t):=fun e=>c5 ((rR hs (by omega)).2 e)
  refine W_t (aA rfl (aA rfl (R_e (n4 _ _ ?_))))
  refine p12 _ _ _ ?_ ⟨i,((i+j) / 2),rfl,t0,t2,t4,t8,t9,(eTq (rNq ((i+j) / 2)) (by rfl)),h4,?_,?_,?_⟩
  · omega
  · omega
  · omega
  · omega
 refine aN (p32 _ _ _ (x1 _ _ (.done (W_r (aA t9 (aA t9 (aA t8 ?_)))))))
 refine bM rfl rfl (aA rfl ?_)
 refine aV 9 (fun T H=>T 35=(iV ((i:Nat):Int))∧T 48=(V.bool (decide ((((i:Nat):Int) < ((l.length:Nat):Int))∧((bY (nth l i) t)=(0:Int)))))∧H 4=(bFq t)∧True) ?_ ?_
 ·
  by_cases g6:((i:Nat):Int) < ((l.length:Nat):Int)
  ·
   refine aF (edT g6 rfl) (aA t2 (aF (edT g6 rfl) (aA t0 (aF (edT g6 rfl) (aA t9 (aF (edT g6 rfl) (bU (i:=i) (rVq (V.sl (List.map cF l))) (rNq i) (by omega) (bN _) rfl ?_)))))))
   refine aF (edT g6 rfl) (aG rfl rfl (aF (edT g6 rfl) (aJ t4 h4 rfl rfl (aF (edT g6 rfl) (lI (rVq (V.fn 91 [] [])) (bL (rVq (V.agg (rFq (nth l i)))) (bL (rVq (V.agg (rFq t))) eB)) (pV (nth l i) t) (dR _ _ (by simp)) (by simp) (Or.inl (by simp)) (aF (edT g6 rfl) (aY rfl rfl ?_)))))))
   refine aS (edT g6 rfl) rfl ?_
   exact ⟨rfl,(dH g6),h4,trivial⟩
  ·
   refine G_n (edF g6 rfl) (G_n (edF g6 rfl) (G_n (edF g6 rfl) (G_n (edF g6 rfl) (G_n (edF g6 rfl) (G_n (edF g6 rfl) (G_n (edF g6 rfl) (G_n (edF g6 rfl) ?_)))))))
   refine aT (edF g6 rfl) rfl ?_
   exact ⟨rfl,(dG g6),h4,trivial⟩
 intro T H ⟨t35,t48,h4,_⟩
 refine aA t35 (aA t48 (R_e (aO ?_)))
 refine dC (rNq i) (rVq (V.bool (decide ((((i:Nat):Int) < ((l.length:Nat):Int))∧((bY (nth l i) t)=(0:Int)))))) (aE ?_) (bA ?_)
 · have e:i=lbF l t:=by omega
   rw [e]
 · have e:i=lbF l t:=by omega
   rw [e]; exact decide_eq_decide.2 (by omega)
theorem aHL (f:Fm) (c:Cl) (hs:gO c) (hl:c.length≤1073741824):aQ Tryz.prog 151 [(V.agg (rFq f)),(V.pp [(V.sl (List.map cF c))])] (V.bool (!(c.any fun y=>eA y f))):=by
 refine pW Tryz.func151 aLB fun hB=>?_
 unfold aS4
 dsimp only
 refine W_r (cE (i:=2) (n:=0) (m:=3) (cs:=(rFq f)) rfl (cVq rfl) rfl rfl rfl (aA rfl (R_e (W_r (aG rfl rfl (aJ rfl rfl rfl rfl (aI (aKH c f hs (by omega)) rfl ?_)))))))
 refine aA rfl (bH rfl rfl (bH rfl rfl (aA rfl (aA rfl (R_e (W_r (aA rfl ?_)))))))
 refine vP rfl (aA rfl (R_e (aO ?_)))
 refine bI (rVq (V.bool (decide (¬(lbF c f < c.length∧bY (nth c (lbF c f)) f=0))))) (bA ?_)
 · rw [← aHy hs f,decide_not]
theorem aDV (c d:Cl) (hs:gO c) (hl:c.length≤1073741824) (hd:d.length≤1073741824):aQ Tryz.prog 140 [(V.sl (List.map cF c)),(V.sl (List.map cF d))] (V.bool (dQ c d)):=by
 refine pW Tryz.func140 aK3 fun hB=>?_
 unfold aTT
 dsimp only
 refine W_r (cE (i:=2) (n:=0) (m:=1) (cs:=[(V.sl (List.map cF c))]) rfl (cVq rfl) rfl rfl rfl (aA rfl (R_e (W_r (aA rfl (aKf (bL rfl eB) (kN (bL (rVq (V.sl (List.map cF d))) (bL (rVq (V.fn 151 [] [(mPq 2)])) eB)) (uO (fun f=> !(c.any fun y=>eA y f)) d 151 ([(V.pp [(V.sl (List.map cF c))])]) (by simp) (by simp) (fun k hk=>aHL (nth d k) c hs hl) (by omega)) (iK (fI 6 _ (by simp)) (iK (aH3 (@rfl Blk (bk 1 135 1 [[(V.sl (List.map cF c))]])) (by simp)) rfl)) (by simp) (Or.inr rfl) ?_)))))))
 refine aY rfl rfl (aA rfl (R_e (aO ?_)))
 refine bI (rVq (V.bool (decide (((iX (fun f=> !(c.any fun y=>eA y f)) d:Nat):Int)=(0:Int))))) (bA ?_)
 · rw [← aMB]
theorem aEV (d c:Cl) (hs:gO c) (hl:c.length≤1073741824) (hd:d.length≤1073741824):aQ Tryz.prog 139 [(V.sl (List.map cF d)),(V.pp [(V.sl (List.map cF c))])] (V.bool (dQ c d)):=by
 refine pW Tryz.func139 aLt fun hB=>?_
 unfold aUg
 dsimp only
 refine W_r (aA rfl (R_e (W_r (aG rfl rfl (aA rfl (aI (aDV c d hs hl hd) rfl (aA rfl ?_)))))))
 refine R_e (aO ?_)
 refine bI (rVq (V.bool (dQ c d))) (cG (by simp) rfl)
end Go.Proofs.YteehaobohaecmaaGreatDoor
namespace Go.Proofs.YteehaobohaecmaaGreatDoor
open Go Go.Proofs
attribute [local irreducible] aE1
theorem aAx (z:List Cl) (c:Cl) (ha: ∀ k,k < z.length→gO (nth z k)) (hb: ∀ k,k < z.length→(nth z k).length≤1073741824) (hz:z.length≤68719476736) (hs:gO c) (hl:c.length≤1073741824):aQ Tryz.prog 119 [(V.sl (List.map cCl z)),(V.sl (List.map cF c))] (V.sl (List.map cCl (wth z c))):=by
 refine pW Tryz.func119 aMc fun hB=>?_
 unfold aSW
 dsimp only
 refine W_r (cE (i:=3) (n:=0) (m:=1) (cs:=[(V.sl (List.map cF c))]) rfl (cVq rfl) rfl rfl rfl (aA rfl (R_e (aB (W_r (aA rfl (aKf (bL rfl eB) ?_)))))))
 refine kN (bL (rVq (V.sl (List.map cCl z))) (bL (rVq (V.fn 139 [] [(mPq 3)])) eB)) (aHo (fun d=>dQ c d) z 139 ([(V.pp [(V.sl (List.map cF c))])]) (by simp) (by simp) (fun k hk=>aEV (nth z k) c hs hl (hb k hk)) (by omega)) (iK (fI 6 _ (by simp)) (iK (aH3 (@rfl Blk (bk 1 135 1 [[(V.sl (List.map cF c))]])) (by simp)) rfl)) (by simp) (Or.inr rfl) (fJ rfl rfl (R_e ?_))
 refine aH (p:=(0:Int) < ((iX (fun d=>dQ c d) z:Nat):Int)) rfl (fun c1=>?_) (fun c1=>?_)
 ·
  have d0:=c1
  refine aB (W_r (aA rfl (aA rfl (R_e (aL ?_)))))
  refine bI (rVq (V.sl (List.map cCl z))) (dB ?_ (fun _=>by simp))
  · first|exact aBm d0|exact (aBm d0).symm|(rw [← aBm d0]; done)
 have d0:=c1
 refine aC (W_r (aA rfl (bG rfl (bB rfl (rNq 1) (by omega) ?_))))
 refine (aN3 (i:=16) (n:=0) (m:=0) (q:=(z.length+1)) rfl (cVq rfl) (rVq (iV 0)) (rNq (z.length+1)) (by omega) (by omega) (by omega) ?_)
 refine aA rfl (R_e (aB (W_r (aA rfl (bG rfl (aA rfl (R_e ?_)))))))
 refine aD fun Q2 n2 x2 y2 z2=>?_
 refine bS (fun mm T H=> ∃ (k:Nat) (v:Nat),mm=z.length - k∧T 3=(mPq 3)∧T 5=(V.ms 16 v 0 (((z.take k).filter (fun d=> !dQ d c)).length))∧T 17=(V.sl (List.map cCl z))∧T 18=(iV ((z.length:Nat):Int))∧T 19=(iV ((k:Nat):Int))∧H 3=(bk 1 135 1 [[(V.sl (List.map cF c))]])∧H 16=(bk v 135 1 (List.map cCl ((z.take k).filter (fun d=> !dQ d c))))∧(k≤z.length)) ?_ ?_
 ·
  refine ⟨_,0,1,rfl,rfl,(eTq (rVq (V.ms 16 1 0 0)) (by rfl)),rfl,rfl,(eTq (rVq (iV 0)) rfl),rfl,(eTq (@rfl Blk (bk 1 135 1 (List.replicate 0 [V.nilsl]))) (by rfl)),?_⟩
  · omega
 intro mm T H ⟨k,v,hmm,t3,t5,t17,t18,t19,h3,h16,hk⟩ Q3 p13 p23 p33
 unfold aJc
 have hq1:=aFS (fun d=> !dQ d c) z k
 refine W_r (bM t19 t18 (R_e ?_))
 refine aH rfl (fun c4=>?_) fun c4=>?_
 ·
  refine aC (aD fun Q5 n5 x5 y5 z5=>(W_r (cY (i:=k) t17 t19 (by omega) rfl (aG rfl rfl (aA rfl (R_e (W_r ?_)))))))
  refine aA rfl (aJ t3 h3 rfl rfl (aI (aDV (nth z k) c (ha k (by omega)) (hb k (by omega)) hl) rfl (eN rfl (R_e ?_))))
  refine jW rfl (fun c6=>?_) (fun c6=>?_)
  ·
   have d1:(fun d=> !dQ d c) (nth z k)=true:=c6
   refine W_t (aA t5 (aA rfl (aR rfl rfl (bX (l:=((z.take k).filter (fun d=> !dQ d c))) (f:=cCl) (x:=(nth z k)) (rVq (V.ms 16 v 0 (((z.take k).filter (fun d=> !dQ d c)).length))) h16 (by rfl) (rVq (V.sl [[(V.sl (List.map cF (nth z k)))]])) rfl rfl (by omega) (by omega) (aA rfl (R_e (n5 _ _ ?_)))))))
   refine .done (W_t (bB t19 (rNq 1) (by omega) (aA rfl (R_e ?_))))
   refine p13 _ _ _ ?_ ⟨(k+1),(v+1),rfl,t3,(eTq (rVq (V.ms 16 (v+1) 0 ((((z.take k).filter (fun d=> !dQ d c)).length)+1))) (by (rw [wP (by omega) d1,List.length_append]; rfl))),t17,t18,(eTq (rNq (k+1)) (by rfl)),h3,(eTq (@rfl Blk (bk (v+1) 135 1 (List.map cCl ((z.take k).filter (fun d=> !dQ d c)++[(nth z k)])))) (by (rw [wP (by omega) d1]; done))),?_⟩
   · omega
   · omega
  have d1: ¬(fun d=> !dQ d c) (nth z k)=true:=by simpa using c6
  refine cM (n5 _ _ (.done (W_t (bB t19 (rNq 1) (by omega) (aA rfl (R_e ?_))))))
  refine p13 _ _ _ ?_ ⟨(k+1),v,rfl,t3,(eTq t5 (by (rw [aBx (by omega) d1]; done))),t17,t18,(eTq (rNq (k+1)) (by rfl)),h3,(eTq h16 (by (rw [aBx (by omega) d1]; done))),?_⟩
  · omega
  · omega
 refine aN (p33 _ _ _ (x2 _ _ (.done (W_r (aA t5 (aJ t3 h3 rfl rfl (aR rfl rfl ?_)))))))
 refine bX (l:=((z.take k).filter (fun d=> !dQ d c))) (f:=cCl) (x:=c) (rVq (V.ms 16 v 0 (((z.take k).filter (fun d=> !dQ d c)).length))) h16 (by rfl) (rVq (V.sl [[(V.sl (List.map cF c))]])) rfl rfl (by omega) (by omega) (aA rfl (R_e (aO ?_)))
 refine bI (rVq (V.ms 16 (v+1) 0 ((((z.take k).filter (fun d=> !dQ d c)).length)+1))) (gL (@rfl Blk (bk (v+1) 135 1 (List.map cCl ((z.take k).filter (fun d=> !dQ d c)++[c])))) (by simp) (l:=((z.take k).filter (fun d=> !dQ d c)++[c])) rfl (by simp) (fun _=>by simp) ?_)
 · rw [show k=z.length by omega,List.take_length]; first|exact aGg d0|exact (aGg d0).symm
end Go.Proofs.YteehaobohaecmaaGreatDoor
namespace Go.Proofs.YteehaobohaecmaaGreatDoor
open Go Go.Proofs
def aTx:SF:=⟨8,[.tmp 2,.tmp 3],.seq (.reg [sO 2 (.mv (.c (.nilsl))),qI 3 0]) (.seq (.seq (.reg [qM 4 0,qN 5 4,qC 6 .gtr 5 64]) (.cond (.t 6) (.seq (.reg [sO 2 (.mv (.c (.nilsl))),qI 3 11]) (.ret)) (.skip))) (.seq (.reg [qM 7 0,qM 2 7,qI 3 0]) (.ret)))⟩
theorem aMG:bJ Tryz.prog ⟨oEq,[],[],[]⟩ Tryz.f120=some aTx:=by kernel_rfl
theorem sG (z:List Cl):aQ Tryz.prog 120 [(V.sl (List.map cCl z))] (V.tup [(V.sl (List.map cCl (if 64 < z.length then [] else z))),(iV (if 64 < z.length then 11 else 0))]):=by
 refine pW Tryz.func120 aMG fun hB=>?_
 unfold aTx
 dsimp only
 refine W_r (aA rfl (aA rfl (R_e (aB (W_r (aA rfl (bG rfl ?_)))))))
 refine fJ rfl rfl (R_e ?_)
 refine aH rfl (fun c1=>?_) fun c1=>?_
 ·
  refine aB (W_r (aA rfl (aA rfl (R_e (aL ?_)))))
  refine dC (rVq V.nilsl) (rVq (iV 11)) (bT ?_) (aE ?_)
  · rw [if_pos (by omega)]
  · rw [if_pos (by omega)]
 refine aC (W_r (aA rfl (aA rfl (aA rfl (R_e (aO ?_))))))
 refine dC (rVq (V.sl (List.map cCl z))) (rVq (iV 0)) (dB ?_ (fun _=>by simp)) (aE ?_)
 · rw [if_neg (by omega)]
 · rw [if_neg (by omega)]
theorem aHN (l:List Fm) (hok: ∀ k,k < l.length→okF (nth l k)=true) (hz:Fm.szs l≤268435456) (hq: ∀ k,k < l.length→aQ Tryz.prog 87 [(V.agg (rFq (nth l k)))] (V.tup [(V.sl (List.map cCl (cZ (cls (nth l k))))),(iV (gU (cls (nth l k))))])):aQ Tryz.prog 107 [(V.sl (List.map cF l))] (V.tup [(V.sl (List.map cCl (cZ (djL l [])))),(iV (gU (djL l [])))]):=by
 refine pW Tryz.func107 aLz fun hB=>?_
 unfold aS9
 dsimp only
 have hln:=Fm.szs_len l
 refine W_r (aA rfl (aA rfl (R_e (W_r (aA rfl (R_e (aB ?_)))))))
 refine dO (fun T H=>T 4=V.nilsl∧T 11=(V.sl (List.map cF l))∧T 12=(iV ((l.length:Nat):Int))∧T 13=(iV 0)∧H 6=bZq∧True) ?_ ?_
 ·
  refine aA rfl (bG rfl (aA rfl ?_))
  exact eD ⟨rfl,rfl,rfl,rfl,rfl,trivial⟩
 intro T H ⟨t4,t11,t12,t13,h6,_⟩
 refine aA7 t4 (cJ (R:=fun T H=>T 4=(V.sl [])∧T 11=(V.sl (List.map cF l))∧T 12=(iV ((l.length:Nat):Int))∧T 13=(iV 0)∧H 6=bZq∧True) ⟨(aK _ _ _),(uTq t11),(uTq t12),(uTq t13),h6,trivial⟩ ?_)
 intro T H ⟨t4,t11,t12,t13,h6,_⟩
 refine aD fun Q1 n1 x1 y1 z1=>?_
 refine bS (fun mm T H=> ∃ (k:Nat) (out:List Cl) (v6:Nat),mm=l.length - k∧T 4=(V.sl (List.map cCl out))∧T 11=(V.sl (List.map cF l))∧T 12=(iV ((l.length:Nat):Int))∧T 13=(iV ((k:Nat):Int))∧(H 6).ver=v6∧(k≤l.length)∧(djL l []=djL (l.drop k) out)∧(Ant out)∧(fP (Fm.szs l) out)∧(out.length≤64*k)) ?_ ?_
 ·
  refine ⟨_,0,[],0,rfl,(eTq t4 (by rfl)),t11,t12,(eTq t13 rfl),(cVq h6),?_,?_,?_,?_,?_⟩
  · omega
  · rfl
  · exact Ant.nil
  · exact fun c hc=>absurd hc List.not_mem_nil
  · exact Nat.zero_le _
 intro mm T H ⟨k,out,v6,hmm,t4,t11,t12,t13,h6,hk,hc,hA,hL,hN⟩ Q2 p12 p22 p32
 unfold aKa
 refine W_r (bM t13 t12 (R_e ?_))
 refine aH rfl (fun c3=>?_) fun c3=>?_
 ·
  refine aC (aD fun Q4 n4 x4 y4 z4=>(W_r (bU (i:=k) t11 t13 (by omega) (bN _) rfl (aG rfl rfl (aU (i:=6) (n:=v6) (m:=3) rfl h6 rfl (bF rfl rfl rfl rfl rfl rfl rfl rfl rfl (R_e ?_)))))))
  refine W_r (aJ rfl rfl rfl rfl (aI (hq k (by omega)) rfl (aA rfl (bH rfl rfl (bH rfl rfl (aA rfl (aA rfl ?_)))))))
  refine R_e (aB (W_r (aA rfl (bZ rfl rfl (R_e ?_)))))
  refine aH rfl (fun c5=>?_) fun c5=>?_
  ·
   have d1:=c5
   refine aB (W_r (aA rfl (aA rfl (aA rfl (R_e (aL (y4 _ _ ?_)))))))
   refine p22 _ _ (y1 _ _ ?_)
   refine dC (rVq V.nilsl) (rVq (iV (gU (cls (nth l k))))) (bT ?_) (aE ?_)
   · rw [hc,aJ0 (by omega) (jI d1)]; try rfl
   · rw [hc,aJ0 (by omega) (jI d1),jI d1]; try rfl
  have d1:=c5
  have g1:=aKK (by omega) (hok k (by omega)) d1
  refine aC (W_r (aA rfl (bG rfl (aA rfl (R_e (iH fun Q6 n6 x6 y6 z6=>?_))))))
  refine bS (fun mm T H=> ∃ (j:Nat),mm=(cZ (cls (nth l k))).length - j∧T 4=(V.sl (List.map cCl (wths out ((cZ (cls (nth l k))).take j))))∧T 11=(V.sl (List.map cF l))∧T 12=(iV ((l.length:Nat):Int))∧T 13=(iV ((k:Nat):Int))∧T 25=(V.sl (List.map cCl (cZ (cls (nth l k)))))∧T 26=(iV (((cZ (cls (nth l k))).length:Nat):Int))∧T 27=(iV ((j:Nat):Int))∧H 6=(bk (v6+1) 24 3 [(rFq (nth l k))])∧(j≤(cZ (cls (nth l k))).length)) ?_ ?_
  ·
   refine ⟨_,0,rfl,(eTq t4 (by rfl)),t11,t12,t13,rfl,rfl,(eTq (rVq (iV 0)) rfl),rfl,?_⟩
   · omega
  intro mm T H ⟨j,hmm,t4,t11,t12,t13,t25,t26,t27,h6,hj⟩ Q7 p17 p27 p37
  unfold aJo
  have hW:=tY out (cZ (cls (nth l k))) j
  have hG:=g1.1.len
  refine W_r (bM t27 t26 (R_e ?_))
  refine aH rfl (fun c8=>?_) fun c8=>?_
  ·
   refine aC (aD fun Q9 n9 x9 y9 z9=>(W_r (cY (i:=j) t25 t27 (by omega) rfl (aG rfl rfl (aA rfl (R_e (W_t ?_)))))))
   refine aA t4 (aA rfl (aI (aAx (wths out ((cZ (cls (nth l k))).take j)) (nth (cZ (cls (nth l k))) j) (fun q hq=>(aAX hA g1.1.ant j).at_ hq) (fun q hq=>Nat.le_trans ((yN hL g1.2.1 j).at_ hq) (by omega)) (by omega) (g1.1.ant.at_ (by omega)) (Nat.le_trans (g1.2.1.at_ (by omega)) (by omega))) rfl (aA rfl (R_e (n9 _ _ (.done (W_t ?_)))))))
   refine bB t27 (rNq 1) (by omega) (aA rfl (R_e ?_))
   refine p17 _ _ _ ?_ ⟨(j+1),rfl,(eTq (rVq (V.sl (List.map cCl (wth (wths out ((cZ (cls (nth l k))).take j)) (nth (cZ (cls (nth l k))) j))))) (by (rw [aA1 (by omega)]; done))),t11,t12,t13,t25,t26,(eTq (rNq (j+1)) (by rfl)),h6,?_⟩
   · omega
   · omega
  refine aN (p37 _ _ _ (x6 _ _ (n4 _ _ (.done (W_t (bB t13 (rNq 1) (by omega) (aA rfl ?_)))))))
  refine R_e ?_
  refine p12 _ _ _ ?_ ⟨(k+1),(wths out (cZ (cls (nth l k)))),(v6+1),rfl,(eTq t4 (by (rw [show j=(cZ (cls (nth l k))).length by omega,List.take_length]; done))),t11,t12,(eTq (rNq (k+1)) (by rfl)),(cVq h6),?_,?_,?_,?_,?_⟩
  · omega
  · omega
  · rw [hc,aQm (by omega) (kA d1)]
  · have q:=aAX hA g1.1.ant (cZ (cls (nth l k))).length; rwa [List.take_length] at q
  · have q:=yN hL g1.2.1 (cZ (cls (nth l k))).length; rwa [List.take_length] at q
  · have q:=tY out (cZ (cls (nth l k))) (cZ (cls (nth l k))).length; rw [List.take_length] at q; have:=g1.1.len; omega
 refine aN (p32 _ _ _ (x1 _ _ (.done (W_r (aA t4 (aI (sG out) rfl (bH rfl rfl ?_)))))))
 refine bH rfl rfl (aA rfl (aA rfl (R_e (aO ?_))))
 refine dC (rVq (V.sl (List.map cCl (if 64 < out.length then [] else out)))) (rVq (iV (if 64 < out.length then 11 else 0))) (dB ?_ (fun _=>by simp)) (aE ?_)
 · rw [hc,aF8 (by omega)]; split <;> rfl
 · rw [hc,aF8 (by omega)]; split <;> rfl
def aOJ:List SO:=[
 qL 17 3 6,
 sO 18 (.call false 87 [.t 17]),
 qM 16 18,
 qE 19 16 0,
 qE 20 16 1,
 qM 7 19,
 qM 8 20]
def aQu:List SO:=[
 qM 25 4,
 qM 26 7,
 sO 27 (.call false 121 [.t 25,.t 26]),
 sO 28 (.call false 120 [.t 27]),
 qM 24 28,
 qE 29 24 0,
 qE 30 24 1,
 qM 4 29,
 qM 8 30]
def aJN:SC:=.seq (.reg [qP 13 .lss 12 11]) (.seq (.cond (.t 13) (.skip) (.exit 0)) (.seq (.block 1 (.seq (.reg [qA 14 3 10 12,qL 15 3 14,sO 6 (.alloc 24 zFq),sN (.store 3 (.t 6) (.t 15))]) (.seq (.reg aOJ) (.seq (.seq (.reg [qM 21 8,qC 22 .neq 21 0]) (.cond (.t 22) (.seq (.reg [qM 23 8,sO 2 (.mv (.c (.nilsl))),qM 3 23]) (.ret)) (.skip))) (.seq (.reg aQu) (.seq (.reg [qM 31 8,qC 32 .neq 31 0]) (.cond (.t 32) (.seq (.reg [qM 33 8,sO 2 (.mv (.c (.nilsl))),qM 3 33]) (.ret)) (.skip)))))))) (.reg [qC 34 .add 12 1,qM 12 34])))
def aT6:SF:=⟨36,[.tmp 2,.tmp 3],.seq (.reg [sO 2 (.mv (.c (.nilsl))),qI 3 0]) (.seq (.reg [sO 9 (.bslice 135 1 false [.nilsl] 1 [(0,.c (.nilsl))]),qM 4 9]) (.seq (.seq (.reg [qM 10 0,qN 11 10,qI 12 0]) (.block 0 (.loop aJN))) (.seq (.reg [qM 35 4,qM 2 35,qI 3 0]) (.ret))))⟩
theorem aMg:bJ Tryz.prog ⟨oEq,[],[],[]⟩ Tryz.f108=some aT6:=by kernel_rfl
def aH6:SC:=.seq (.reg [qP 19 .lss 18 17]) (.seq (.cond (.t 19) (.skip) (.exit 2)) (.seq (.block 3 (.seq (.reg [qA 20 1 16 18,ql 21 20,qM 9 21]) (.reg [qM 22 5,qM 23 7,qM 24 9,sO 25 (.call false 141 [.t 23,.t 24]),sO 26 (.call false 119 [.t 22,.t 25]),qM 5 26]))) (.reg [qC 27 .add 18 1,qM 18 27])))
def aJi:SC:=.seq (.reg [qP 13 .lss 12 11]) (.seq (.cond (.t 13) (.skip) (.exit 0)) (.seq (.block 1 (.seq (.reg [qA 14 1 10 12,ql 15 14,qM 7 15]) (.seq (.reg [qM 16 1,qN 17 16,qI 18 0]) (.block 2 (.loop aH6))))) (.reg [qC 28 .add 12 1,qM 12 28])))
def aSY:SF:=⟨30,[.tmp 4],.seq (.reg [sO 4 (.mv (.c (.nilsl)))]) (.seq (.reg [sO 5 (.mv (.c (.nilsl)))]) (.seq (.seq (.reg [qM 10 0,qN 11 10,qI 12 0]) (.block 0 (.loop aJi))) (.seq (.reg [qM 29 5,qM 4 29]) (.ret))))⟩
theorem aMS:bJ Tryz.prog ⟨oEq,[],[],[]⟩ Tryz.f121=some aSY:=by kernel_rfl
def aT5:SF:=⟨14,[.tmp 4],.seq (.reg [sO 4 (.mv (.c (.nilsl)))]) (.seq (.reg [qM 6 0,qM 7 1,sO 8 (.bslice 135 1 false [.nilsl] 2 [(0,.t 6),(1,.t 7)]),sO 9 (.call true 153 [.t 8]),qM 5 9]) (.seq (.reg [qM 10 5,sO 11 (.call true 154 [.t 10,.c (.fn 91 [] [])])]) (.seq (.reg [qM 12 5,sO 13 (.call true 155 [.t 12,.c (.fn 156 [] [])]),qM 4 13]) (.ret))))⟩
theorem aMx:bJ Tryz.prog ⟨oEq,[],[],[]⟩ Tryz.f141=some aT5:=by kernel_rfl
def aKL:SC:=.seq (.reg [qP 12 .lss 11 10]) (.seq (.cond (.t 12) (.skip) (.exit 0)) (.seq (.block 1 (.seq (.reg [qA 13 1 9 11,ql 14 13,qM 5 14]) (.seq (.reg [qM 15 3,qM 16 5,qN 17 16,qP 18 .add 15 17,qM 3 18]) (.seq (.reg [qM 19 3,qC 20 .lss 19 0]) (.cond (.t 20) (.seq (.reg [sO 21 (.bad)]) (.seq (.pop none (.raise (.t 21))) (.reg []))) (.skip)))))) (.reg [qC 22 .add 11 1,qM 11 22])))
def aH1:SC:=.seq (.reg [qP 28 .lss 27 26]) (.seq (.cond (.t 28) (.skip) (.exit 2)) (.seq (.block 3 (.seq (.reg [qA 29 1 25 27,ql 30 29,qM 8 30]) (.reg [qM 31 6,qM 32 8,sO 33 (.append 24 3 40 (.t 31) (.t 32)),qM 6 33]))) (.reg [qC 34 .add 27 1,qM 27 34])))
def aT9:SF:=⟨36,[.tmp 2],.seq (.reg [sO 2 (.mv (.c (.nilsl)))]) (.seq (.reg [qI 3 0]) (.seq (.seq (.reg [qM 9 0,qN 10 9,qI 11 0]) (.block 0 (.loop aKL))) (.seq (.reg [qM 23 3,sO 24 (.call true 160 [.c (.nilsl),.t 23]),qM 6 24]) (.seq (.seq (.reg [qM 25 0,qN 26 25,qI 27 0]) (.block 2 (.loop aH1))) (.seq (.reg [qM 35 6,qM 2 35]) (.ret))))))⟩
theorem aM4:bJ Tryz.prog ⟨oEq,[],[],[]⟩ Tryz.f153=some aT9:=by kernel_rfl
end Go.Proofs.YteehaobohaecmaaGreatDoor
namespace Go.Proofs.YteehaobohaecmaaGreatDoor
open Go Go.Proofs Go.Shelf Go.Lib
section
variable {P:Program} {ρ:Go.Shelf.Ren}
theorem aC6 (L : Lays8.n4 P ρ) (hcf : dV P (ρ.f 4)) (i0 : TypeInfo) (z : Value) (hi0 : P.info? (ρ.t 25) = some i0) (hz0 : i0.zero = some z) (hs0 : 0 < i0.size) (hzs : z.cells.size = i0.size)
    {n:Nat} (hb:n*i0.bytes≤140737488355328) (h63:n≤4611686018427387904) (id:Nat) (H:aP) (hty:ρ.t 25 < 4294967296:=by decide):
    eR P (ρ.f 4) [.nilsl,iV (n:Nat)] H (.ms id ((H id).ver+1) 0 0) (upd H id ⟨(H id).ver+1,true,decide (n=0),ρ.t 25,i0.size,[]⟩):=by
  refine ⟨hcf,fun x cs hxH hx hr=>?_⟩
  subst hxH
  obtain ⟨c0,c1,rfl⟩: ∃ c0 c1,cs=[c0,c1]:=by
    have:=hr.1
    match cs with
    |[a,b]=>exact ⟨a,b,rfl⟩
    |[]=>simp at this
    |[_]=>simp at this
    |_::_::_::_=>simp at this
  have r0:R x .nilsl c0:=hr.2 0 _ rfl
  have r1:R x (iV (n:Nat)) c1:=hr.2 1 _ rfl
  have hc0:c0=.slice none 0 0:=by cases r0; rfl
  have hc1:c1=.int .i64 (n:Nat):=by unfold iV at r1; cases r1; rfl
  subst hc0; subst hc1
  by_cases hn:n=0
  · subst hn
    refine (Any8.slices_Grow_room L none 0 0 0 x.w (Nat.le_refl _) (by decide) (by decide) (by decide)).mono fun e w' h=>?_
    obtain ⟨rfl,rfl⟩:=h
    obtain ⟨h1,h2,h3⟩:=lY hx id (ρ.t 25) i0.size hty
    exact ⟨_,{x with H:=upd x.H id ⟨(x.H id).ver+1,true,true,ρ.t 25,i0.size,[]⟩},rfl,rfl,by simp,h1,h3 _,h2⟩
  · refine (Any8.slices_Grow_grow L i0 z hi0 hz0 hs0 none 0 0 n [] x.w (Nat.le_refl _) (by omega) (by simpa using hb) (by simpa using h63) (by simp) (fun _=>rfl) (fun a h=>by cases h)).mono fun e w' h=>?_
    obtain ⟨rfl,rfl⟩:=h
    obtain ⟨dI,dF⟩:=kJ hx (x.w.drawn+1) (Nat.le_succ _)
    have hge:0+n≤grownCap x.w (0+n) 0 (ρ.t 25):=grownCap_ge x.w _ _ _
    have hle:=grownCap_le_maxLen x.w (0+n) 0 (ρ.t 25) (by unfold maxLen; omega)
    generalize hG:grownCap x.w (0+n) 0 (ρ.t 25)=G at hge hle
    have hsz:((#[]:Array Value)++Builtin.zeroCells z.cells (0+n - 0)++Builtin.zeroCells z.cells (G - (0+n))).size=G*i0.size:=by
      have zc: ∀ m,(Builtin.zeroCells z.cells m).size=m*i0.size:=fun m=>by
        rw [size_zeroCells,hzs]
      rw [Array.size_append,Array.size_append,zc,zc]
      simp only [Array.size_empty,Nat.zero_add,Nat.sub_zero]
      rw [← Nat.add_mul]; congr 1; omega
    have hrf:([].toArray:Array Value)=#[]:=rfl
    rw [hrf]
    generalize ((#[]:Array Value)++Builtin.zeroCells z.cells (0+n - 0)++Builtin.zeroCells z.cells (G - (0+n)))=cc at hsz
    obtain ⟨h1,h2⟩:=oG dI id cc false (ρ.t 25) i0.size [] (by simp) (by simp) (fun r row j v h=>by simp at h)
    refine ⟨_,_,rfl,rfl,by simp [hn],h1,?_,dF.trans h2⟩
    refine .ms _ _ _ _ _ _ _ (by simp [aK]) (fun _ _=>?_) fun _ _=>by simp only [aK]; rfl
    simp only [aK]
    refine ⟨trivial,Nat.zero_le _,hle,by simp,fun _=>⟨by simp [World.drew],?_⟩,fun h=>by simp [Blk.own] at h⟩
    simp only [Nat.zero_add]
    unfold dX
    have:(({x.w with drawn:=x.w.drawn+1}:World).alloc (.cells cc (ρ.t 25))).heap[({x.w with drawn:=x.w.drawn+1}:World).heap.size]?=some (.cells cc (ρ.t 25)):=kC _ _
    rw [this]
    exact hsz.symm
theorem aBo (L:Lays8.n4 P ρ) (hcf:dV P (ρ.f 4)) {k b:Nat} {z:Value} (hi:(P.info? (ρ.t 25)).map (fun i=>(i.zero,i.size,i.bytes))=some (some z,k,b)) (hs0:0 < k) (hzs:z.cells.size=k)
    {n:Nat} (hb:n*b≤140737488355328) (h63:n≤4611686018427387904) (id:Nat) (H:aP) (hty:ρ.t 25 < 4294967296:=by decide):
    eR P (ρ.f 4) [.nilsl,iV (n:Nat)] H (.ms id ((H id).ver+1) 0 0) (upd H id ⟨(H id).ver+1,true,decide (n=0),ρ.t 25,k,[]⟩):=by
  obtain ⟨i0,h1,h2⟩:=Option.map_eq_some_iff.1 hi
  simp only [Prod.mk.injEq] at h2
  obtain ⟨h3,h4,h5⟩:=h2
  subst h4; subst h5
  exact aC6 L hcf i0 z h1 h3 hs0 hzs hb h63 id H hty
theorem sZ (L:Lays8.n4 P ρ) (hcf:dV P (ρ.f 4)) {k b:Nat} {z:Value} (hi:(P.info? (ρ.t 25)).map (fun i=>(i.zero,i.size,i.bytes))=some (some z,k,b)) (hs0:0 < k) (hzs:z.cells.size=k)
    {n:Nat} (hb:n*b≤140737488355328) (h63:n≤4611686018427387904) (id:Nat) {H:aP} {w:Nat} (hv:(H id).ver=w) (hty:ρ.t 25 < 4294967296:=by decide):
    eR P (ρ.f 4) [.nilsl,iV (n:Nat)] H (.ms id (w+1) 0 0) (upd H id ⟨w+1,true,decide (n=0),ρ.t 25,k,[]⟩):=by
  subst hv; exact aBo L hcf hi hs0 hzs hb h63 id H hty
end
end Go.Proofs.YteehaobohaecmaaGreatDoor
namespace Go.Proofs.YteehaobohaecmaaGreatDoor
open Go Go.Proofs Go.Shelf
def aEy:Go.Shelf.Ren:=⟨fun|4=>160|n=>n,fun|22=>135|25=>24|3=>3|4=>4|9=>9|20=>20|0=>0|n=>n,fun n=>n⟩
theorem aD8:Lays8.n4 Tryz.prog aEy:={
  mixed:=(by kernel_rfl),
  f4:=⟨Tryz.f160.name,by decide,Tryz.func160.trans (congrArg some (by kernel_rfl))⟩,
  t0:=Tryz.underlying0,
  a0:=Tryz.isAgg0,
  z0:=Tryz.sizeOf0,
  v0:=Tryz.zeroValue0,
  t3:=Tryz.underlying3,
  a3:=Tryz.isAgg3,
  z3:=Tryz.sizeOf3,
  v3:=Tryz.zeroValue3,
  t4:=Tryz.underlying4,
  a4:=Tryz.isAgg4,
  z4:=Tryz.sizeOf4,
  v4:=Tryz.zeroValue4,
  t9:=Tryz.underlying9,
  a9:=Tryz.isAgg9,
  z9:=Tryz.sizeOf9,
  v9:=Tryz.zeroValue9,
  t20:=Tryz.underlying20,
  a20:=Tryz.isAgg20,
  z20:=Tryz.sizeOf20,
  v20:=Tryz.zeroValue20,
  t22:=Tryz.underlying135,
  a22:=Tryz.isAgg135,
  z22:=Tryz.sizeOf135,
  v22:=Tryz.zeroValue135}
theorem aDB:dV Tryz.prog 160:=⟨_,Tryz.func160,by kernel_rfl,by kernel_rfl⟩
theorem aDa:(Tryz.prog.info? 24).map (fun i=>(i.zero,i.size,i.bytes))=some (some (.agg #[.int .i64 0,.int .i64 0,.slice none 0 0]),3,40):=by kernel_rfl
end Go.Proofs.YteehaobohaecmaaGreatDoor
namespace Go.Proofs.YteehaobohaecmaaGreatDoor
open Go Go.Proofs
theorem aQk (l:List Cl) (v2:Nat) (Hi:aP) (h900:(Hi 900).ver=v2) (hs:(eK l).length≤2147483648):eR Tryz.prog 153 [(V.sl (List.map cCl l))] Hi (V.ms 900 (v2+1+l.length) 0 ((eK l).length)) (upd Hi 900 (⟨v2+1+l.length,true,decide ((eK l).length=0),24,3,(List.map cF (eK l))⟩:Blk)):=by
 refine eW (k0:=600) Tryz.func153 aM4 fun hB=>?_
 unfold aT9
 dsimp only
 refine W_r (aA rfl (R_e (W_r (aA rfl (R_e (aB (W_r ?_)))))))
 refine aA rfl (bG rfl (aA rfl (R_e (fH fun Q1 n1 x1 y1 z1 w1=>?_))))
 refine wY (fun mm T H=> ∃ (k:Nat),mm=l.length - k∧T 0=(V.sl (List.map cCl l))∧T 3=(iV (((eK (l.take k)).length:Nat):Int))∧T 9=(V.sl (List.map cCl l))∧T 10=(iV ((l.length:Nat):Int))∧T 11=(iV ((k:Nat):Int))∧(∀ j,j∉[900]→H j=Hi j)∧(H 900).ver=v2∧(k≤l.length)) ?_ ?_
 ·
  refine ⟨_,0,rfl,rfl,(eTq (rVq (iV 0)) (by rfl)),rfl,rfl,(eTq (rVq (iV 0)) rfl),(fun _ _=>rfl),h900,?_⟩
  · omega
 intro mm T H ⟨k,hmm,t0,t3,t9,t10,t11,hF,h900,hk⟩ Q2 p12 p22 p32 p42
 unfold aKL
 refine W_r (bM t11 t10 (R_e ?_))
 refine aH rfl (fun c3=>?_) fun c3=>?_
 ·
  have hq:=aGN (l:=l) (k:=k) (by omega)
  refine aC (fH fun Q4 n4 x4 y4 z4 w4=>(W_r (cY (i:=k) t9 t11 (by omega) rfl (aG rfl rfl (aA rfl (R_e (W_r ?_)))))))
  refine aA t3 (aA rfl (bG rfl (bB rfl rfl (by omega) (aA rfl (R_e (W_r (aA rfl ?_)))))))
  refine bM rfl rfl (R_e ?_)
  refine cD rfl (fun c5=>?_) fun c5=>?_
  · exfalso; omega
  refine cM (n4 _ _ (.done (W_t (bB t11 (rNq 1) (by omega) (aA rfl (R_e ?_))))))
  refine p12 _ _ _ ?_ ⟨(k+1),rfl,t0,(eTq (rNq (((eK (l.take k)).length)+(nth l k).length)) (by (rw [pQ (by omega),List.length_append]; done))),t9,t10,(eTq (rNq (k+1)) (by rfl)),hF,h900,?_⟩
  · omega
  · omega
 have hk2:eK (l.take k)=eK l:=by rw [show k=l.length by omega,List.take_length]
 have hk3:(eK (l.take k)).length=(eK l).length:=by rw [hk2]
 refine aN (p32 _ _ _ (x1 _ _ (.done (W_r (aA t3 (gI (bL rfl (bL rfl eB)) (sZ aD8 aDB aDa (by decide) rfl (n:=((eK (l.take k)).length)) (by omega) (by omega) 900 h900) (aA rfl ?_)))))))
 refine R_e (aB (W_r (aA t0 (bG rfl (aA rfl (R_e (fH fun Q6 n6 x6 y6 z6 w6=>?_)))))))
 refine wY (fun mm T H=> ∃ (j:Nat),mm=l.length - j∧T 6=(V.ms 900 (v2+1+j) 0 ((eK (l.take j)).length))∧T 25=(V.sl (List.map cCl l))∧T 26=(iV ((l.length:Nat):Int))∧T 27=(iV ((j:Nat):Int))∧(∀ j,j∉[900]→H j=Hi j)∧H 900=(⟨v2+1+j,true,decide ((eK (l.take k)).length=0),24,3,(List.map cF (eK (l.take j)))⟩:Blk)∧(j≤l.length)) ?_ ?_
 ·
  refine ⟨_,0,rfl,(eTq (rVq (V.ms 900 (v2+1) 0 0)) (by rfl)),rfl,rfl,(eTq (rVq (iV 0)) rfl),(cK hF (by decide)),(eTq (@rfl Blk (⟨v2+1,true,decide ((eK (l.take k)).length=0),24,3,[]⟩:Blk)) (by rfl)),?_⟩
  · omega
 intro mm T H ⟨j,hmm,t6,t25,t26,t27,hF,h900,hj⟩ Q7 p17 p27 p37 p47
 unfold aH1
 refine W_r (bM t27 t26 (R_e ?_))
 refine aH rfl (fun c8=>?_) fun c8=>?_
 ·
  have hq:=aGN (l:=l) (k:=j) (by omega)
  refine aC (fH fun Q9 n9 x9 y9 z9 w9=>(W_r (cY (i:=j) t25 t27 (by omega) rfl (aG rfl rfl (aA rfl (R_e (W_t ?_)))))))
  refine aA t6 (aA rfl (pO (l:=(eK (l.take j))) (m:=(nth l j)) (f:=cF) (rVq (V.ms 900 (v2+1+j) 0 ((eK (l.take j)).length))) h900 (by rfl) (rVq (V.sl (List.map cF (nth l j)))) eV fC (by omega) (by omega) (aA rfl (R_e (n9 _ _ (.done (W_t ?_)))))))
  refine bB t27 (rNq 1) (by omega) (aA rfl (R_e ?_))
  refine p17 _ _ _ ?_ ⟨(j+1),rfl,(eTq (rVq (V.ms 900 (v2+1+j+1) 0 (((eK (l.take j)).length)+(nth l j).length))) (by (rw [pQ (by omega),List.length_append]; rfl))),t25,t26,(eTq (rNq (j+1)) (by rfl)),(cK hF (by decide)),(eTq (@rfl Blk (⟨v2+1+j+1,true,decide ((eK (l.take k)).length=0),24,3,(List.map cF (eK (l.take j)++(nth l j)))⟩:Blk)) (by (rw [pQ (by omega)]; rfl))),?_⟩
  · omega
  · omega
 refine aN (p37 _ _ _ (x6 _ _ (.done (W_r (aA t6 (aA rfl (R_e ?_)))))))
 refine aO (cJ (R:=fun T H=>T 2=(V.ms 900 (v2+1+j) 0 ((eK (l.take j)).length))∧(∀ j,j∉[900]→H j=Hi j)∧H 900=(⟨v2+1+j,true,decide ((eK (l.take k)).length=0),24,3,(List.map cF (eK (l.take j)))⟩:Blk)∧True) ⟨(rVq (V.ms 900 (v2+1+j) 0 ((eK (l.take j)).length))),hF,h900,trivial⟩ ?_)
 intro T H ⟨t2,hF,h900,_⟩
 skip
 have fh:=dU.fin (dU.put (B:=(⟨v2+1+l.length,true,decide ((eK l).length=0),24,3,(List.map cF (eK l))⟩:Blk)) (dU.start hF) h900 (kL.eq (by rw [show j=l.length by omega,List.take_length,hk2])))
 exact zU t2 fh (dS.trans_eq (dS.ms (n:=(v2+1+l.length)) fh (by simp [h900]) (by simp [h900]) rfl rfl) (by (rw [show j=l.length by omega,List.take_length]; done)))
def aO2:List SO:=[
 qM 7 0,
 qM 8 4,
 qM 9 4,
 sO 10 (.conv .u64 (.t 9)),
 sO 11 (.call false 110 [.t 10]),
 qM 12 1,
 sO 13 (.call true 109 [.t 7,.c (.int .i64 0),.t 8,.t 11,.t 12])]
def aSO:SF:=⟨14,[],.seq (.reg [qM 5 0,qN 6 5,qM 4 6]) (.reg aO2)⟩
theorem aMO:bJ Tryz.prog ⟨oEq,[],[],[]⟩ Tryz.f154=some aSO:=by kernel_rfl
end Go.Proofs.YteehaobohaecmaaGreatDoor
namespace Go.Proofs.YteehaobohaecmaaGreatDoor
open Go Go.Sort Go.Proofs Go.Shelf
def aFh (P : Program) (f k : Nat) : Prop := ∀ {α : Type} [Inhabited α] (enc : α → List Value) (_ : ∀ x, (enc x).length = k) (_ : ∀ x, ∀ v ∈ enc x, v.oneCell' = true) (cf : α → α → Int) (_ : SWO (ltOf cf)) (g : Nat) (cb : Array Value) (blk off cap : Nat) (d : Array α) (w : World)
    (_: ∀ args w,(callFunc g args).run P w=.ok (.enter g args) w) (_:CmpLays P g cb enc k cf blk off d.size w) (_:HoldsK enc k w blk off d) (_:blk < w.heap.size) (_:d.size < 4611686018427387904),
    Calls P f #[.slice (some ⟨blk,off,none⟩) d.size cap,.int .i64 0,.int .i64 (d.size:Nat),.int .i64 (Lib.bitLen d.size:Nat),.func (.func g) #[] cb] w fun e w'=>
      e=.returned (.tuple #[])∧ ∃ d' n os,PermIn 0 d.size d d'∧SortedIn (ltOf cf) 0 d.size d'∧w'=sortWorldK enc k w blk off n d' os
def aFC (P:Program) (f:Nat):Prop:= ∀ (p:Option Addr) (cap:Nat) (lim:Int) (fv:Value) (w:World),Calls P f #[.slice p 0 cap,.int .i64 0,.int .i64 0,.int .i64 lim,fv] w fun e w'=>e=.returned (.tuple #[])∧w'=w
section
variable {P:Program}
theorem aEk {f g k:Nat} (hS:aFh P f k) (hN:aFC P f) (hcf:dV P f) (hcg:dV P g) {T:Type} [Inhabited T] {f0:T→List V} {l:List T} {cmp:T→T→Int}
    (hO:SWO fun a b=>decide (cmp a b < 0)) (hT: ∀ a∈l,∀ b∈l,¬cmp a b < 0→ ¬cmp b a < 0→a=b)
    (hc: ∀ a∈l,∀ b∈l,aQ P g [.agg (f0 a),.agg (f0 b)] (iV (cmp a b))) (hp: ∀ a∈l,eE (f0 a)=true) (h1: ∀ a∈l,(f0 a).all V.one=true) (hk: ∀ a,(f0 a).length=k)
    (hl:l.length < 4611686018427387904) {id ver ty:Nat} {lz:Bool} {H:aP} (hH:H id=⟨ver,true,lz,ty,k,l.map f0⟩):
    eR P f [.ms id ver 0 l.length,iV 0,iV (l.length:Nat),iV (Lib.bitLen l.length:Nat),.fn g [] []] H (.tup []) (upd H id ⟨ver,true,lz,ty,k,(srt cmp l).map f0⟩):=by
  refine ⟨hcf,fun x cs hxH hx hr=>?_⟩
  subst hxH
  obtain ⟨c0,k1,k2,k3,c1,rfl⟩: ∃ c0 k1 k2 k3 c1,cs=[c0,k1,k2,k3,c1]:=by
    have:=hr.1
    match cs with
    |[a,b,c,d,e]=>exact ⟨a,b,c,d,e,rfl⟩
    |[]=>simp at this
    |[_]=>simp at this
    |[_,_]=>simp at this
    |[_,_,_]=>simp at this
    |[_,_,_,_]=>simp at this
    |_::_::_::_::_::_::_=>simp at this
  have q1:R x (iV 0) k1:=hr.2 1 _ rfl
  have q2:R x (iV (l.length:Nat)) k2:=hr.2 2 _ rfl
  have q3:R x (iV (Lib.bitLen l.length:Nat)) k3:=hr.2 3 _ rfl
  have q1':k1=.int .i64 0:=by unfold iV at q1; cases q1; rfl
  have q2':k2=.int .i64 (l.length:Nat):=by unfold iV at q2; cases q2; rfl
  have q3':k3=.int .i64 (Lib.bitLen l.length:Nat):=by unfold iV at q3; cases q3; rfl
  subst q1'; subst q2'; subst q3'
  have r0:R x (.ms id ver 0 l.length) c0:=hr.2 0 _ rfl
  have r1:R x (.fn g [] []) c1:=hr.2 4 _ rfl
  cases r1 with
  |fn _ _ _ fs cb hfs hcs _ _=>
  have hfs':fs=#[]:=Array.eq_empty_of_size_eq_zero (by simpa using hfs)
  have hcs':cb=#[]:=Array.eq_empty_of_size_eq_zero (by simpa using hcs)
  subst hfs'; subst hcs'
  cases r0 with
  |ms _ _ _ _ b n cap hv hh hm=>
  obtain ⟨e1,e2,e3,e4,e5,e6⟩:=hh (by rw [hH]) (by rw [hH])
  subst e1
  by_cases hne:l=[]
  · subst hne
    refine (hN b cap (Lib.bitLen 0:Nat) (.func (.func g) #[] #[]) x.w).mono fun e w' h=>?_
    obtain ⟨rfl,rfl⟩:=h
    refine ⟨_,x,rfl,rfl,?_,hx,.tup [] #[] rfl (fun j v hj=>by simp at hj),Frame.refl x⟩
    funext j
    by_cases e:j=id
    · subst e; rw [aK,hH]; rfl
    · rw [bD _ _ e]
  have hpos:0 < l.length:=List.length_pos_iff.2 hne
  have ho:(x.H id).own=true:=by
    rw [hH]
    cases l with
    |nil=>exact (hne rfl).elim
    |cons a l=>simp [Blk.own]
  obtain ⟨e7,_⟩:=e5 ho
  rw [hH] at e7
  simp only [Nat.zero_mul] at e7
  subst e7
  obtain ⟨cc,b1,b2,b3,b4⟩:=hx.cel id ho (hm (by rw [hH]) (by rw [hH]))
  simp only [hH] at b1 b2 b3 b4
  rw [List.length_map] at b3
  let A:Type:={i:Nat // i < l.length}
  haveI:Inhabited A:=⟨⟨0,hpos⟩⟩
  let enc:A→List Value:=fun i=>(List.range k).map fun j=>cc.getD (i.1*k+j) undef
  let cf:A→A→Int:=fun a b=>cmp (nth l a.1) (nth l b.1)
  let d:Array A:=Array.ofFn fun i:Fin l.length=>(⟨i.1,i.2⟩:A)
  have hdn:d.size=l.length:=by simp [d]
  have hdi: ∀ i (h:i < l.length),d[i]! =⟨i,h⟩:=fun i h=>by
    rw [getElem!_pos d i (by rw [hdn]; exact h)]; simp [d]
  have hek: ∀ a,(enc a).length=k:=fun a=>by simp [enc]
  have hej: ∀ (a:A) (j:Nat),j < k→(enc a)[j]?=some (cc.getD (a.1*k+j) undef):=fun a j hj=>by simp [enc,hj]
  have hrow: ∀ i,i < l.length→(l.map f0)[i]?=some (f0 (nth l i)):=fun i hi=>by rw [List.getElem?_map,yT hi]; rfl
  have hRx: ∀ (a:A) (j:Nat) (v:V),(f0 (nth l a.1))[j]?=some v→R x v (cc.getD (a.1*k+j) undef):=fun a j v hj=>b4 a.1 _ j v (hrow a.1 a.2) hj
  have hcell: ∀ (a:A) (j:Nat),j < k→a.1*k+j < cc.size:=fun a j hj=>by
    have:(a.1+1)*k≤l.length*k:=Nat.mul_le_mul_right k a.2
    rw [Nat.add_mul,Nat.one_mul] at this
    omega
  have hO':SWO (ltOf cf):=⟨fun a=>hO.irrefl _,fun a b c=>hO.trans _ _ _,fun a b c=>hO.ntrans _ _ _⟩
  have hcmp:CmpLays P g #[] enc k cf (x.σ id) 0 d.size x.w:=by
    intro m os dk hdk a b
    let W:=sortWorldK enc k x.w (x.σ id) 0 m dk os
    let z:Cx:=start {x with w:=W} x.Z
    have hz:Inv z:=lR (fun b hb=>Nat.lt_of_lt_of_le (hx.zlt b hb) oH) fun p hp=>⟨(hx.tab p hp).1,by
      obtain ⟨q1,q2⟩:=hx.tab p hp
      show ∃ ty m,W.heap[p.1]?=_
      rw [show W.heap[p.1]?=x.w.heap[p.1]? from iE (hx.zlt _ q1) fun e=>hx.zown _ id q1 ho e.symm]; exact q2⟩
    have hag: ∀ a:A,R z (.agg (f0 (nth l a.1))) (.agg (enc a).toArray):=fun a=>by
      refine .agg _ _ (by simp [hek,hk]) fun j v hj=>?_
      have hjk:j < k:=by rw [← hk (nth l a.1)]; exact (List.getElem?_eq_some_iff.1 hj).1
      have h:=hRx a j v hj
      have hg:(enc a).toArray.getD j undef=cc.getD (a.1*k+j) undef:=by
        rw [Array.getD_eq_getD_getElem?,List.getElem?_toArray,hej a j hjk]; rfl
      rw [hg]
      refine h.pure_same (y:=z) (dK.1 (hp _ (dJ a.2)) v (List.mem_of_getElem? hj)) (fun b hb=>?_) fun _ h=>h
      exact iE (hx.zlt b hb) fun e=>hx.zown b id hb ho e.symm
    have hrl:RL z [.agg (f0 (nth l a.1)),.agg (f0 (nth l b.1))] [.agg (enc a).toArray,.agg (enc b).toArray]:=by
      refine ⟨rfl,fun j v hj=>?_⟩
      match j,hj with
      |0,hj=>simp at hj; subst hj; exact hag a
      |1,hj=>simp at hj; subst hj; exact hag b
    refine ((hc _ (dJ a.2) _ (dJ b.2) H0).2 z _ rfl hz hrl).mono fun e w' h=>?_
    obtain ⟨c,y,rfl,rfl,_,_,h5,h6⟩:=h
    cases h5
    obtain ⟨q,os',hq⟩:=pB h6 fun id=>rfl
    exact ⟨rfl,q,os',hq⟩
  have hsz:d.size < 4611686018427387904:=by rw [hdn]; exact hl
  have hH':HoldsK enc k x.w (x.σ id) 0 d:=by
    intro j hj
    rw [size_flatK,hdn] at hj
    have hk0:0 < k:=Nat.pos_of_ne_zero fun e=>by subst e; simp at hj
    have hdv:j / k < l.length:=(Nat.div_lt_iff_lt_mul hk0).2 hj
    have hmd:j % k < k:=Nat.mod_lt _ hk0
    have e:(flatK enc k d)[j]! =cc.getD j undef:=by
      rw [get_flatK _ _ _ _ (by rw [hdn]; exact hj),hdi _ hdv]
      have h:=hej ⟨j / k,hdv⟩ (j % k) hmd
      rw [List.getElem!_eq_getElem?_getD,h]
      simp only [Option.getD_some]
      rw [Nat.div_add_mod' j k]
    have hjc:j < cc.size:=by omega
    refine ⟨?_,?_⟩
    · rw [e,Nat.zero_add]; exact hC b1 hjc
    · simp [World.frozen?,b1]
  have hcall:=hS enc hek (fun a v hv=>by
      obtain ⟨j,hj⟩:=List.getElem?_of_mem hv
      have hjk:j < k:=by rw [← hek a]; exact (List.getElem?_eq_some_iff.1 hj).1
      rw [hej a j hjk] at hj
      cases hj
      have hu: ∃ u,(f0 (nth l a.1))[j]?=some u:=⟨_,List.getElem?_eq_getElem (by rw [hk]; exact hjk)⟩
      obtain ⟨u,hu⟩:=hu
      exact (hRx a j u hu).one (List.all_eq_true.1 (h1 _ (dJ a.2)) u (List.mem_of_getElem? hu))) cf hO' g #[] (x.σ id) 0 cap d x.w (nK hcg) hcmp hH' (hx.lt ho) hsz
  rw [hdn] at hcall
  refine hcall.mono fun e w' h=>?_
  obtain ⟨rfl,d',n',os',hP,hSo,rfl⟩:=h
  obtain ⟨p1,_,p3⟩:=hP
  rw [hdn] at p1
  have x1:d'.extract 0 l.length=d':=by rw [← p1]; simp
  have x2:d.extract 0 l.length=d:=by rw [← hdn]; simp
  rw [x1,x2] at p3
  have hmap:d.toList.map (fun a:A=>nth l a.1)=l:=by
    refine wV (by simp [hdn]) fun j hj=>?_
    have hj':j < l.length:=by simpa [hdn] using hj
    rw [aFz (by simpa using hj),← jJ d j (by rw [hdn]; exact hj'),hdi j hj']
  have hl':d'.toList.map (fun a:A=>nth l a.1)=srt cmp l:=by
    have hperm:(d'.toList.map (fun a:A=>nth l a.1)).Perm l:=by
      have:=p3.map (fun a:A=>nth l a.1)
      rwa [hmap] at this
    refine oU (le:=fun a b=> ¬cmp b a < 0) (fun a ha b hb h1 h2=>hT a (hperm.mem_iff.1 ha) b (hperm.mem_iff.1 hb) h2 h1) (hperm.trans (jA cmp l).symm) ?_ (kW hO l)
    rw [List.pairwise_map,List.pairwise_iff_getElem]
    intro i j hi hj hij
    have h:=hSo i j (Nat.zero_le _) hij (by rw [← p1]; simpa using hj)
    rw [jJ d' i (by simpa using hi),jJ d' j (by simpa using hj),← bR hi,← bR hj] at h
    simpa [ltOf,cf] using h
  let cc':=putCells _root_.id 0 (flatK enc k d') cc
  have hcs:cc'.size=cc.size:=by simp [cc',putCells]
  have hg: ∀ r j,r < l.length→j < k→ ∀ (hr:r < d'.size),cc'.getD (r*k+j) undef=cc.getD ((d'[r]'hr).1*k+j) undef:=by
    intro r j hr hj hr'
    have hb:r*k+j < l.length*k:=by
      have:(r+1)*k≤l.length*k:=Nat.mul_le_mul_right k hr
      rw [Nat.add_mul,Nat.one_mul] at this; omega
    have hsz':(flatK enc k d').size=l.length*k:=by rw [size_flatK,p1]
    have e:cc'[r*k+j]?=some ((flatK enc k d')[r*k+j]!):=by
      simp only [cc',putCells,Array.getElem?_mapIdx]
      rw [Array.getElem?_eq_getElem (by omega)]
      simp [hsz',hb]
    rw [Array.getD_eq_getD_getElem?,e,get_flatK _ _ _ _ (by rw [p1]; exact hb)]
    have q1:(r*k+j) / k=r:=by rw [Nat.mul_comm,Nat.mul_add_div (by omega),Nat.div_eq_of_lt hj]; rfl
    have q2:(r*k+j) % k=j:=by rw [Nat.mul_comm,Nat.mul_add_mod]; exact Nat.mod_eq_of_lt hj
    rw [q1,q2,getElem!_pos d' r hr',List.getElem!_eq_getElem?_getD,hej _ j hj]
    rfl
  have hrows: ∀ (r:Nat) (row:List V) (j:Nat) (v:V),((srt cmp l).map f0)[r]?=some row→row[j]?=some v→R x v (cc'.getD (r*k+j) undef):=by
    intro r row j v hr hj
    rw [← hl',List.map_map,List.getElem?_map] at hr
    obtain ⟨a,ha,rfl⟩:=map_some hr
    have har:=List.getElem?_eq_some_iff.1 ha
    obtain ⟨hlt,hae⟩:=har
    have hlt':r < d'.size:=by simpa using hlt
    have hjk:j < k:=by rw [← hk (nth l a.1)]; exact (List.getElem?_eq_some_iff.1 hj).1
    rw [hg r j (by omega) hjk hlt']
    have hae':d'[r]'hlt'=a:=by simpa using hae
    rw [hae']
    exact hRx a j v hj
  have st:=mI hx id ho cc cc' (by rw [hH]; exact b1) hcs (x.H id).ver ((srt cmp l).map f0) (Nat.le_refl _) (fun _=>by rw [hH]; simp [iZ]) (by
      rw [hH]
      have:(srt cmp l).length=l.length:=by simp [iZ]
      cases hq:srt cmp l with
      |nil=>rw [hq] at this; simp at this; omega
      |cons a q=>simp) (fun r hr=>by
      rw [hH]
      obtain ⟨a,_,rfl⟩:=List.mem_map.1 hr
      exact hk a) (by rw [hH]; simpa [iZ] using b3) (by simp only [hH]; exact hrows)
  simp only [hH] at st
  obtain ⟨i1,f1⟩:=st
  obtain ⟨i2,f2⟩:=kJ i1 (x.w.drawn+n') (Nat.le_add_right _ _)
  obtain ⟨i3,f3⟩:=aA8 i2 os'
  refine ⟨.tuple #[],_,rfl,?_,?_,i3,.tup [] #[] rfl (fun j v hj=>by simp at hj),(f1.trans f2).trans f3⟩
  · rw [tK b1]
  · rfl
end
end Go.Proofs.YteehaobohaecmaaGreatDoor
namespace Go.Proofs.YteehaobohaecmaaGreatDoor
open Go Go.Proofs Go.Shelf Go.Sort
theorem aE3:aFh Tryz.prog 109 3:=fun {α} _ enc hk h1 cf hO g cb blk off cap d w eg hcmp hH hblk hsz=>
  (AnyQ.pdqsortCmpFunc_all (P:=Tryz.prog) (ρ:=pI) {mK with} 3 Tryz.isAgg24 Tryz.sizeOf24 enc cf g cb hO blk off cap d w eg hcmp ⟨hk,h1,hH,hblk⟩ (d.size+1) 0 d.size (Lib.bitLen d.size) d w (by omega) rfl (SWK.start hH) (Nat.zero_le _) (Nat.le_refl _) hsz
    (Nat.lt_of_le_of_lt (Lib.bitLen_le d.size 62 (by omega) (by omega)) (by omega)) (Or.inl rfl)).mono fun _ _ ⟨he,n,os,hw⟩=>
      have h:=pdq_sorts (ltOf cf) hO d 0 d.size (Lib.bitLen d.size) true true (Nat.zero_le _) (Nat.le_refl _) (Or.inl rfl)
      ⟨he,_,n,os,h.1,h.2,hw⟩
theorem aEP:aFC Tryz.prog 109:=fun p cap lim fv w=>AnyF.pdqsortCmpFunc_none (P:=Tryz.prog) (ρ:=pI) {mK with} p cap lim fv w
theorem aEL:dV Tryz.prog 109:=⟨_,Tryz.func109,by kernel_rfl,by kernel_rfl⟩
theorem aCJ {n:Nat} (h:n < 4611686018427387904):aQ Tryz.prog 110 [.int .u64 (n:Nat)] (iV (Lib.bitLen n:Nat)):=fun H=>by
  refine ⟨⟨_,Tryz.func110,by kernel_rfl,by kernel_rfl⟩,fun x cs hxH hx hr=>?_⟩
  obtain ⟨c0,rfl⟩: ∃ c0,cs=[c0]:=by
    have:=hr.1
    match cs with
    |[a]=>exact ⟨a,rfl⟩
    |[]=>simp at this
    |_::_::_=>simp at this
  have r0:R x (.int .u64 (n:Nat)) c0:=hr.2 0 _ rfl
  have hc:c0=.int .u64 (n:Nat):=by cases r0; rfl
  subst hc
  have h:=Any.bits_Len (SlLaysF0.n15.bits (P:=Tryz.prog) (ρ:=pI) {mK with}) (n:Int) x.w (by omega) (by omega)
  rw [Int.toNat_natCast] at h
  refine h.mono fun e w' hh=>?_
  obtain ⟨rfl,rfl⟩:=hh
  exact ⟨_,x,rfl,rfl,hxH,hx,.int _ _,Frame.refl x⟩
end Go.Proofs.YteehaobohaecmaaGreatDoor
namespace Go.Proofs.YteehaobohaecmaaGreatDoor
open Go Go.Proofs
theorem aMh (l:List Fm) (v2:Nat) (z:Bool) (Hi:aP) (h900:Hi 900=(⟨v2,true,z,24,3,(List.map cF l)⟩:Blk)) (hl:l.length≤2147483648):eR Tryz.prog 154 [(V.ms 900 v2 0 l.length),(V.fn 91 [] [])] Hi (V.tup []) (upd Hi 900 (⟨v2,true,z,24,3,(List.map cF (srt bY l))⟩:Blk)):=by
 refine eW (k0:=650) Tryz.func154 aMO fun hB=>?_
 unfold aSO
 dsimp only
 refine W_r (aA rfl (fW rfl h900 (by simp) (aA rfl (R_e (W_t (aA rfl (aA rfl ?_)))))))
 refine aA rfl (aGP (n:=l.length) (rNq l.length) (by omega) (aI (aCJ (n:=l.length) (by omega)) rfl (aA rfl (gI (bL rfl (bL rfl (bL rfl (bL rfl (bL rfl eB))))) (aEk (f0:=cF) (l:=l) (cmp:=bY) aE3 aEP aEL ⟨_,Tryz.func91,by kernel_rfl,by kernel_rfl⟩ rX (fun a _ b _ h1 h2=>lK h1 h2) (fun a _ b _=>by rw [bN,bN]; exact pV a b) (fun a _=>by simp) (fun a _=>fC a) eV (by omega) h900) (R_e (cJ (R:=fun T H=>(∀ j,j∉[900]→H j=Hi j)∧H 900=(⟨v2,true,z,24,3,(List.map cF (srt bY l))⟩:Blk)∧True) ⟨(cK (fun _ _=>rfl) (by decide)),rfl,trivial⟩ ?_))))))
 intro T H ⟨hF,h900,_⟩
 skip
 have fh:=dU.fin (dU.put (dU.start hF) h900 (kL.eq rfl))
 exact aP4 fh
def aQT:List SO:=[
 qM 18 1,
 qM 19 0,
 qM 20 5,
 qA 21 3 19 20,
 qL 22 3 21,
 qM 23 0,
 qM 24 5,
 qC 25 .sub 24 1,
 qA 26 3 23 25,
 qL 27 3 26,
 sO 28 (.callv false (.t 18) [.t 22,.t 27])]
def aLP:List SO:=[
 qM 38 1,
 qM 39 6,
 qM 40 7,
 qA 41 3 39 40,
 qL 42 3 41,
 qM 43 6,
 qM 44 7,
 qC 45 .sub 44 1,
 qA 46 3 43 45,
 qL 47 3 46,
 sO 48 (.callv false (.t 38) [.t 42,.t 47]),
 sO 49 (.un .not (.t 48))]
def aLh:List SO:=[
 qM 50 0,
 qM 51 5,
 qM 52 6,
 qM 53 7,
 qA 54 3 52 53,
 qL 55 3 54,
 qA 56 3 50 51,
 sN (.store 3 (.t 56) (.t 55))]
def aKN:SC:=.seq (.seq (.reg [qM 32 7,qM 33 6,qN 34 33,qP 35 .lss 32 34]) (.cond (.t 35) (.skip) (.exit 2))) (.seq (.block 3 (.seq (.reg aLP) (.cond (.t 49) (.seq (.reg aLh) (.reg [qM 57 5,qC 58 .add 57 1,qM 5 58])) (.skip)))) (.reg [qM 36 7,qC 37 .add 36 1,qM 7 37]))
def aH7:SC:=.seq (.seq (.reg [qM 12 5,qM 13 0,qN 14 13,qP 15 .lss 12 14]) (.cond (.t 15) (.skip) (.exit 0))) (.seq (.block 1 (.seq (.reg aQT) (.cond (.t 28) (.seq (.reg [qM 29 0,qM 30 5,sO 31 (.slice 3 (.t 29) (some (.t 30)) none),qM 6 31]) (.seq (.seq (.reg [qI 7 1]) (.block 2 (.loop aKN))) (.seq (.reg [qM 59 0,qM 60 5,sO 61 (.slice 3 (.t 59) (some (.t 60)) none),sN (.clr zFq (.t 61))]) (.seq (.reg [qM 62 0,qM 63 5,sO 64 (.slice 3 (.t 62) none (some (.t 63))),qM 4 64]) (.ret))))) (.skip)))) (.reg [qM 16 5,qC 17 .add 16 1,qM 5 17]))
def aTP:SF:=⟨66,[.tmp 4],.seq (.reg [sO 4 (.mv (.c (.nilsl)))]) (.seq (.seq (.reg [qM 8 0,qN 9 8,qC 10 .lss 9 2]) (.cond (.t 10) (.seq (.reg [qM 11 0,qM 4 11]) (.ret)) (.skip))) (.seq (.seq (.reg [qI 5 1]) (.block 0 (.loop aH7))) (.seq (.reg [qM 65 0,qM 4 65]) (.ret))))⟩
theorem aMj:bJ Tryz.prog ⟨oEq,[],[],[]⟩ Tryz.f155=some aTP:=by kernel_rfl
def aPb:List SO:=[
 qF 5 0 2,
 ql 6 5,
 qF 7 0 3,
 ql 8 7,
 qP 9 .eql 6 8,
 qM 10 9,
 ⟨some (10,true),some 11,.fld 1 (.t 2)⟩,
 ⟨some (10,true),some 12,.load false 1 (.t 11)⟩,
 ⟨some (10,true),some 13,.fld 1 (.t 3)⟩,
 ⟨some (10,true),some 14,.load false 1 (.t 13)⟩,
 ⟨some (10,true),some 15,.bin .eql (.t 12) (.t 14)⟩,
 sO 16 (.pick (.t 10) (.t 15) (.c (.bool false))),
 qM 17 16,
 ⟨some (17,true),some 18,.fld 2 (.t 2)⟩,
 ⟨some (17,true),some 19,.load false 1 (.t 18)⟩,
 ⟨some (17,true),some 20,.fld 2 (.t 3)⟩,
 ⟨some (17,true),some 21,.load false 1 (.t 20)⟩,
 ⟨some (17,true),some 22,.call false 161 [.t 19,.t 21,.c (.fn 156 [] [])]⟩,
 sO 23 (.pick (.t 17) (.t 22) (.c (.bool false))),
 qM 4 23]
def aUh:SF:=⟨24,[.tmp 4],.seq (.reg [sO 2 (.box 24 3 (.t 0)),sO 3 (.box 24 3 (.t 1)),sO 4 (.mv (.c (.bool false)))]) (.seq (.reg aPb) (.ret))⟩
theorem aMf:bJ Tryz.prog ⟨oEq,[],[],[]⟩ Tryz.f156=some aUh:=by kernel_rfl
def aKS:SC:=.seq (.reg [qP 18 .lss 17 16]) (.seq (.cond (.t 18) (.skip) (.exit 0)) (.seq (.block 1 (.seq (.reg [qM 19 17,qA 20 3 15 17,qL 21 3 20,sO 8 (.alloc 24 zFq),qM 7 19,sN (.store 3 (.t 8) (.t 21))]) (.seq (.reg [qM 22 1,qM 23 7,qA 24 3 22 23,qL 25 3 24,sO 9 (.alloc 24 zFq),sN (.store 3 (.t 9) (.t 25))]) (.seq (.reg [qM 26 2,qL 27 3 8,qL 28 3 9,sO 29 (.callv false (.t 26) [.t 27,.t 28]),sO 30 (.un .not (.t 29))]) (.cond (.t 30) (.seq (.reg [sO 6 (.mv (.c (.bool false)))]) (.ret)) (.skip)))))) (.reg [qC 31 .add 17 1,qM 17 31])))
def aSB:SF:=⟨32,[.tmp 6],.seq (.reg [sO 6 (.mv (.c (.bool false)))]) (.seq (.seq (.reg [qM 10 0,qN 11 10,qM 12 1,qN 13 12,qP 14 .neq 11 13]) (.cond (.t 14) (.seq (.reg [sO 6 (.mv (.c (.bool false)))]) (.ret)) (.skip))) (.seq (.seq (.reg [qM 15 0,qN 16 15,qI 17 0]) (.block 0 (.loop aKS))) (.seq (.reg [sO 6 (.mv (.c (.bool true)))]) (.ret))))⟩
theorem aK1:bJ Tryz.prog ⟨oEq,[],[],[]⟩ Tryz.f161=some aSB:=by kernel_rfl
theorem aKV (l m:List Fm) (hq: ∀ k,k < l.length→k < m.length→aQ Tryz.prog 156 [(V.agg (rFq (nth l k))),(V.agg (rFq (nth m k)))] (V.bool (eA (nth l k) (nth m k)))):aQ Tryz.prog 161 [(V.sl (List.map cF l)),(V.sl (List.map cF m)),(V.fn 156 [] [])] (V.bool (decide (l.length=m.length)&&iM l m)):=by
 refine pW Tryz.func161 aK1 fun hB=>?_
 unfold aSB
 dsimp only
 refine W_r (aA rfl (R_e (aB (W_r (aA rfl (bG rfl (aA rfl ?_)))))))
 refine bG rfl (bZ rfl rfl (R_e ?_))
 refine aH rfl (fun c1=>?_) fun c1=>?_
 ·
  refine aB (W_r (aA rfl (R_e (aL ?_))))
  refine bI (rVq (V.bool false)) (bA ?_)
  · rw [decide_eq_false (by omega),Bool.false_and]
 refine aC (aB (W_r (aA rfl (bG rfl (aA rfl (R_e (aD fun Q2 n2 x2 y2 z2=>?_)))))))
 refine bS (fun mm T H=> ∃ (k:Nat) (v8:Nat) (v9:Nat),mm=l.length - k∧T 1=(V.sl (List.map cF m))∧T 2=(V.fn 156 [] [])∧T 15=(V.sl (List.map cF l))∧T 16=(iV ((l.length:Nat):Int))∧T 17=(iV ((k:Nat):Int))∧(H 8).ver=v8∧(H 9).ver=v9∧(k≤l.length)∧(l.length=m.length)∧(iM l m=iM (l.drop k) (m.drop k))) ?_ ?_
 ·
  refine ⟨_,0,0,0,rfl,rfl,rfl,rfl,rfl,(eTq (rVq (iV 0)) rfl),(cVq rfl),(cVq rfl),?_,?_,?_⟩
  · omega
  · omega
  · rfl
 intro mm T H ⟨k,v8,v9,hmm,t1,t2,t15,t16,t17,h8,h9,hk,hl,hc⟩ Q3 p13 p23 p33
 unfold aKS
 refine W_r (bM t17 t16 (R_e ?_))
 refine aH rfl (fun c4=>?_) fun c4=>?_
 ·
  refine aC (aD fun Q5 n5 x5 y5 z5=>(W_r (aA t17 (bU (i:=k) t15 t17 (by omega) (bN _) rfl (aG rfl rfl (aU (i:=8) (n:=v8) (m:=3) rfl h8 rfl (aA rfl ?_)))))))
  refine bF rfl rfl rfl rfl rfl rfl rfl rfl rfl (R_e (W_r (aA t1 (aA rfl (bU (i:=k) (rVq (V.sl (List.map cF m))) (rNq k) (by omega) (bN _) rfl (aG rfl rfl (aU (i:=9) (n:=v9) (m:=3) rfl h9 rfl ?_)))))))
  refine bF rfl rfl rfl rfl rfl rfl rfl rfl rfl (R_e (W_r (aA t2 (aJ rfl rfl rfl rfl (aJ rfl rfl rfl rfl (lI (rVq (V.fn 156 [] [])) (bL (rVq (V.agg (rFq (nth l k)))) (bL (rVq (V.agg (rFq (nth m k)))) eB)) (hq k (by omega) (by omega)) (dR _ _ (by simp)) (by simp) (Or.inl (by simp)) (eN rfl ?_)))))))
  refine R_e ?_
  refine jW rfl (fun c6=>?_) (fun c6=>?_)
  ·
   have d1:eA (nth l k) (nth m k)=false:=by simpa using c6
   refine W_r (aA rfl (R_e (aO (y5 _ _ (p23 _ _ (y2 _ _ ?_))))))
   refine bI (rVq (V.bool false)) (bA ?_)
   · rw [hc,aDq (by omega) (by omega) d1,Bool.and_false]
  have d1:eA (nth l k) (nth m k)=true:=by simpa using c6
  refine cM (n5 _ _ (.done (W_t (bB t17 (rNq 1) (by omega) (aA rfl (R_e ?_))))))
  refine p13 _ _ _ ?_ ⟨(k+1),(v8+1),(v9+1),rfl,t1,t2,t15,t16,(eTq (rNq (k+1)) (by rfl)),(cVq rfl),(cVq rfl),?_,?_,?_⟩
  · omega
  · omega
  · omega
  · rw [hc,aAL (by omega) (by omega) d1]
 refine aN (p33 _ _ _ (x2 _ _ (.done (W_r (aA rfl (R_e (aO ?_)))))))
 refine bI (rVq (V.bool true)) (bA ?_)
 · rw [hc,aAZ (by omega),Bool.and_true,decide_eq_true (by omega)]
theorem vY (f h:Fm) (ih: ∀ (g h:Fm),g.sz < f.sz→aQ Tryz.prog 156 [(V.agg (rFq g)),(V.agg (rFq h))] (V.bool (eA g h))):aQ Tryz.prog 156 [(V.agg (rFq f)),(V.agg (rFq h))] (V.bool (eA f h)):=by
 refine pW Tryz.func156 aMf fun hB=>?_
 unfold aUh
 dsimp only
 refine W_r (cE (i:=2) (n:=0) (m:=3) (cs:=(rFq f)) rfl (cVq rfl) rfl rfl rfl (cE (i:=3) (n:=0) (m:=3) (cs:=(rFq h)) rfl (cVq rfl) rfl rfl rfl (aA rfl (R_e (W_r (aM rfl rfl (aJ rfl rfl rfl rfl ?_)))))))
 refine aM rfl rfl (aJ rfl rfl rfl rfl (aY rfl rfl (aA rfl ?_)))
 refine aV 6 (fun T H=>T 2=(mPq 2)∧T 3=(mPq 3)∧T 16=(V.bool (decide ((f.op=h.op)∧(f.arg=h.arg))))∧H 2=(bFq f)∧H 3=(bFq h)∧True) ?_ ?_
 ·
  by_cases g1:f.op=h.op
  ·
   refine aF (edT g1 rfl) (aM rfl rfl (aF (edT g1 rfl) (aJ rfl rfl rfl rfl (aF (edT g1 rfl) (aM rfl rfl (aF (edT g1 rfl) (aJ rfl rfl rfl rfl ?_)))))))
   refine aF (edT g1 rfl) (aY rfl rfl (aS (edT g1 rfl) rfl ?_))
   exact ⟨rfl,rfl,(dH g1),rfl,rfl,trivial⟩
  ·
   refine G_n (edF g1 rfl) (G_n (edF g1 rfl) (G_n (edF g1 rfl) (G_n (edF g1 rfl) (G_n (edF g1 rfl) (aT (edF g1 rfl) rfl ?_)))))
   exact ⟨rfl,rfl,(dG g1),rfl,rfl,trivial⟩
 intro T H ⟨t2,t3,t16,h2,h3,_⟩
 refine aA t16 ?_
 refine aV 6 (fun T H=>T 23=(V.bool (decide ((f.op=h.op)∧(f.arg=h.arg))&&(decide (f.kids.length=h.kids.length)&&iM f.kids h.kids)))∧H 2=(bFq f)∧H 3=(bFq h)∧True) ?_ ?_
 ·
  by_cases g2:(f.op=h.op)∧(f.arg=h.arg)
  ·
   refine aF (edT g2 rfl) (aM t2 h2 (aF (edT g2 rfl) (aJ rfl h2 rfl rfl (aF (edT g2 rfl) (aM t3 h3 (aF (edT g2 rfl) (aJ rfl h3 rfl rfl ?_)))))))
   refine aF (edT g2 rfl) (aI (aKV f.kids h.kids (fun k h1 h2=>ih (nth f.kids k) (nth h.kids k) (Fm.sz_kid h1))) rfl (aS (edT g2 rfl) rfl ?_))
   exact ⟨(tW g2),h2,h3,trivial⟩
  ·
   refine G_n (edF g2 rfl) (G_n (edF g2 rfl) (G_n (edF g2 rfl) (G_n (edF g2 rfl) (G_n (edF g2 rfl) (aT (edF g2 rfl) rfl ?_)))))
   exact ⟨(uP g2),h2,h3,trivial⟩
 intro T H ⟨t23,h2,h3,_⟩
 refine aA t23 (R_e (aO ?_))
 refine bI (rVq (V.bool (decide ((f.op=h.op)∧(f.arg=h.arg))&&(decide (f.kids.length=h.kids.length)&&iM f.kids h.kids)))) (bA ?_)
 · rw [tD]; simp only [Bool.and_assoc,Bool.decide_and]
theorem xH (f h:Fm):aQ Tryz.prog 156 [(V.agg (rFq f)),(V.agg (rFq h))] (V.bool (eA f h)):=by
  have key: ∀ (mm:Nat) (f h:Fm),f.sz < mm→aQ Tryz.prog 156 [(V.agg (rFq f)),(V.agg (rFq h))] (V.bool (eA f h)):=by
    intro mm
    induction mm with
    |zero=>intro f h hlt; exact absurd hlt (Nat.not_lt_zero _)
    | succ mm ih =>
      intro f h hlt
      exact vY f h fun f2 h2 hlt2=>ih f2 h2 (by omega)
  exact key (f.sz+1) f h (Nat.lt_succ_self _)
theorem aM2 (l:List Fm) (v2 len:Nat) (z:Bool) (Hi:aP) (h900:Hi 900=(⟨v2,true,z,24,3,(List.map cF l)⟩:Blk)) (hn:len=l.length) (hl:l.length≤2147483648):eR Tryz.prog 155 [(V.ms 900 v2 0 len),(V.fn 156 [] [])] Hi (V.ms 900 v2 0 ((dfK l l.length).length)) (upd Hi 900 (⟨v2,true,z,24,3,(List.map cF (dfK l l.length)++List.replicate (l.length - (dfK l l.length).length) [iV 0,iV 0,V.nilsl])⟩:Blk)):=by
 refine eW (k0:=400) Tryz.func155 aMj fun hB=>?_
 unfold aTP
 dsimp only
 refine W_r (aA rfl (R_e (aB (W_r (aA rfl (fW rfl h900 (by simp) (bM rfl rfl ?_)))))))
 refine R_e ?_
 refine aH rfl (fun c1=>?_) fun c1=>?_
 ·
  refine aB (W_r (aA rfl (aA rfl (R_e (aL (cJ (R:=fun T H=>T 4=(V.ms 900 v2 0 len)∧(∀ j,j∉[900]→H j=Hi j)∧H 900=(⟨v2,true,z,24,3,(List.map cF l)⟩:Blk)∧True) ⟨(rVq (V.ms 900 v2 0 len)),(fun _ _=>rfl),h900,trivial⟩ ?_))))))
  intro T H ⟨t4,hF,h900,_⟩
  have hall:=aKg (l:=l) (fun i i1 i2=>by omega)
  have fh:=dU.fin (dU.put (B:=(⟨v2,true,z,24,3,(List.map cF (dfK l l.length)++List.replicate (l.length - (dfK l l.length).length) [iV 0,iV 0,V.nilsl])⟩:Blk)) (dU.start hF) h900 (kL.eq (by (rw [hall]; simp; done))))
  exact zU t4 fh (dS.trans_eq (dS.same fh _) (by (rw [hall,hn]; done)))
 refine aC (aB (W_r (aA rfl (R_e (aD fun Q2 n2 x2 y2 z2=>?_)))))
 refine bS (fun mm T H=> ∃ (k:Nat),mm=l.length - k∧T 0=(V.ms 900 v2 0 len)∧T 1=(V.fn 156 [] [])∧T 5=(iV ((k:Nat):Int))∧(∀ j,j∉[900]→H j=Hi j)∧H 900=(⟨v2,true,z,24,3,(List.map cF l)⟩:Blk)∧(1≤k)∧(k≤l.length)∧(∀ i,1≤i→i < k→nth l i≠nth l (i - 1))) ?_ ?_
 ·
  refine ⟨_,1,rfl,rfl,rfl,(eTq (rVq (iV 1)) rfl),(fun _ _=>rfl),h900,?_,?_,?_⟩
  · omega
  · omega
  · intro i h1 h2; omega
 intro mm T H ⟨k,hmm,t0,t1,t5,hF,h900,h1,hk,hc⟩ Q3 p13 p23 p33
 unfold aH7
 refine aB (W_r (aA t5 (aA t0 (fW rfl h900 (by simp) (bM rfl rfl (R_e ?_))))))
 refine aH rfl (fun c4=>?_) fun c4=>?_
 ·
  refine aC (aD fun Q5 n5 x5 y5 z5=>(W_r (aA t1 (aA t0 (aA t5 (eJ (i:=k) (rVq (V.ms 900 v2 0 len)) (rNq k) h900 (eO (by omega)) rfl (by omega) (cN (v:=(V.agg (rFq (nth l k)))) rfl h900 (eG (by omega) (by (rw [bN]; rfl))) ?_)))))))
  refine aA t0 (aA t5 (nQ rfl rfl (by omega) (by omega) (dP (i:=(((k:Nat):Int) - (1:Int))) (rVq (V.ms 900 v2 0 len)) (rVq (iV (((k:Nat):Int) - (1:Int)))) h900 (eO (by omega)) rfl (by omega) (by omega) (cN (v:=(V.agg (rFq (nth l ((((k:Nat):Int) - (1:Int)).toNat))))) rfl h900 (eG (by omega) (by (rw [bN]; rfl))) (lI (rVq (V.fn 156 [] [])) (bL (rVq (V.agg (rFq (nth l k)))) (bL (rVq (V.agg (rFq (nth l ((((k:Nat):Int) - (1:Int)).toNat))))) eB)) (xH (nth l k) (nth l ((((k:Nat):Int) - (1:Int)).toNat))) (dR _ _ (by simp)) (by simp) (Or.inl (by simp)) (R_e ?_))))))
  refine jW rfl (fun c6=>?_) (fun c6=>?_)
  ·
   have d1:nth l k=nth l (k - 1):=by have q:=(fS _ _).1 c6; rwa [show (((k:Nat):Int) - (1:Int)).toNat=k - 1 by omega] at q
   have hd:=aIK h1 (by omega) hc d1
   refine W_r (aA t0 (aA t5 (qJ (n:=k) (rVq (V.ms 900 v2 0 len)) (rNq k) h900 (eO (by omega)) rfl (by omega) (aA rfl (R_e (aB (W_r ?_)))))))
   refine aA rfl (R_e (aD fun Q7 n7 x7 y7 z7=>?_))
   refine bS (fun mm T H=> ∃ (j:Nat),mm=l.length - (k+j)∧T 0=(V.ms 900 v2 0 len)∧T 1=(V.fn 156 [] [])∧T 5=(iV (((dfK l (k+j)).length:Nat):Int))∧T 6=(V.ms 900 v2 (0+k) (len - k))∧T 7=(iV ((j:Nat):Int))∧(∀ j,j∉[900]→H j=Hi j)∧H 900=(⟨v2,true,z,24,3,(List.map cF (dfL l (k+j)))⟩:Blk)∧(k+j≤l.length)∧(1≤j)∧((dfK l (k+j)).length < k+j)) ?_ ?_
   ·
    refine ⟨_,1,rfl,t0,t1,(eTq t5 (by (rw [hd.1]; done))),(eTq (rVq (V.ms 900 v2 (0+k) (len - k))) (by rfl)),(eTq (rVq (iV 1)) rfl),hF,(eTq h900 (by (rw [hd.2]; done))),?_,?_,?_⟩
    · omega
    · omega
    · rw [hd.1]; omega
   intro mm T H ⟨j,hmm,t0,t1,t5,t6,t7,hF,h900,hj,hj1,hlt⟩ Q8 p18 p28 p38
   unfold aKN
   have q1:=aMX (L:=l) (j:=k+j) hj
   have q5:=aTO hlt hj1
   have q6:=aIw (l:=l) (j:=k+j) (by omega)
   refine aB (W_r (aA t7 (aA t6 (fW rfl h900 (by simp) (bM rfl rfl (R_e ?_))))))
   refine aH rfl (fun c9=>?_) fun c9=>?_
   ·
    refine aC (aD fun Q10 n10 x10 y10 z10=>(W_r (aA t1 (aA t6 (aA t7 (zY (i:=j) (rVq (V.ms 900 v2 (0+k) (len - k))) (rNq j) h900 (eO (by omega)) rfl (by omega) (cN (v:=(V.agg (rFq (nth (dfL l (k+j)) ((0+k)+j))))) rfl h900 (eG (by omega) (by (rw [bN]; rfl))) ?_)))))))
    refine aA t6 (aA t7 (nQ rfl rfl (by omega) (by omega) (aAB (i:=(((j:Nat):Int) - (1:Int))) (rVq (V.ms 900 v2 (0+k) (len - k))) (rVq (iV (((j:Nat):Int) - (1:Int)))) h900 (eO (by omega)) rfl (by omega) (by omega) (cN (v:=(V.agg (rFq (nth (dfL l (k+j)) ((0+k)+(((j:Nat):Int) - (1:Int)).toNat))))) rfl h900 (eG (by omega) (by (rw [bN]; rfl))) (lI (rVq (V.fn 156 [] [])) (bL (rVq (V.agg (rFq (nth (dfL l (k+j)) ((0+k)+j))))) (bL (rVq (V.agg (rFq (nth (dfL l (k+j)) ((0+k)+(((j:Nat):Int) - (1:Int)).toNat))))) eB)) (xH (nth (dfL l (k+j)) ((0+k)+j)) (nth (dfL l (k+j)) ((0+k)+(((j:Nat):Int) - (1:Int)).toNat))) (dR _ _ (by simp)) (by simp) (Or.inl (by simp)) (eN rfl (R_e ?_)))))))
    refine jW rfl (fun c11=>?_) (fun c11=>?_)
    ·
     have d5:nth l (k+j)≠nth l (k+j - 1):=fun q=>by have e:=(fS _ _).2 q; have c:=c11; rw [q5.1,q5.2,e] at c; cases c
     refine W_r (aA t0 (aA t5 (aA t6 (aA t7 (zY (i:=j) (rVq (V.ms 900 v2 (0+k) (len - k))) (rNq j) h900 (eO (by omega)) rfl (by omega) (cN (v:=(V.agg (rFq (nth (dfL l (k+j)) ((0+k)+j))))) rfl h900 (eG (by omega) (by (rw [bN]; rfl))) (eJ (i:=((dfK l (k+j)).length)) (rVq (V.ms 900 v2 0 len)) (rNq ((dfK l (k+j)).length)) h900 (eO (by omega)) rfl (by omega) ?_)))))))
     refine gJ (vs:=(rFq (nth (dfL l (k+j)) ((0+k)+j)))) (B':=(⟨v2,true,z,24,3,(List.map cF ((dfL l (k+j)).set ((dfK l (k+j)).length) (nth (dfL l (k+j)) ((0+k)+j))))⟩:Blk)) rfl rfl rfl h900 (gT (x:=(nth (dfL l (k+j)) ((0+k)+j))) (i:=((dfK l (k+j)).length)) (by omega) (bN _).symm rfl (eV _) rfl) (R_e (W_t (aA t5 (bB rfl (rNq 1) (by omega) (aA rfl (R_e (n10 _ _ ?_)))))))
     refine .done (W_t (aA t7 (bB rfl (rNq 1) (by omega) (aA rfl (R_e ?_)))))
     refine p18 _ _ _ ?_ ⟨(j+1),rfl,t0,t1,(eTq (rNq (((dfK l (k+j)).length)+1)) (by (show _=iV (((dfK l ((k+j)+1)).length:Nat):Int); rw [jT (.inr d5),List.length_append]; rfl))),(eTq t6 (by rfl)),(eTq (rNq (j+1)) (by rfl)),(cK hF (by decide)),(eTq (@rfl Blk (⟨v2,true,z,24,3,(List.map cF ((dfL l (k+j)).set ((dfK l (k+j)).length) (nth (dfL l (k+j)) ((0+k)+j))))⟩:Blk)) (by (rw [q5.1,aKW (show k+j < l.length by omega) (.inr d5)]; rfl))),?_,?_,?_⟩
     · omega
     · omega
     · omega
     · first|(show (dfK l ((k+j)+1)).length < (k+j)+1; rw [jT (.inr d5),List.length_append]; simp; omega)|(show (dfK l ((k+j)+1)).length < (k+j)+1; rw [kM (by rintro (q|q); omega; exact q d5)]; omega)
    have d5:nth l (k+j)=nth l (k+j - 1):=by have c:=c11; rw [q5.1,q5.2] at c; exact (fS _ _).1 (by simpa using c)
    refine cM (n10 _ _ (.done (W_t (aA t7 (bB rfl (rNq 1) (by omega) (aA rfl (R_e ?_)))))))
    refine p18 _ _ _ ?_ ⟨(j+1),rfl,t0,t1,(eTq t5 (by (show _=iV (((dfK l ((k+j)+1)).length:Nat):Int); rw [kM (by rintro (q|q); omega; exact q d5)]; done))),(eTq t6 (by rfl)),(eTq (rNq (j+1)) (by rfl)),hF,(eTq h900 (by (show _=(⟨_,_,_,_,_,List.map cF (dfL l ((k+j)+1))⟩:Blk); rw [aI7 (by rintro (q|q); omega; exact q d5)]; done))),?_,?_,?_⟩
    · omega
    · omega
    · omega
    · first|(show (dfK l ((k+j)+1)).length < (k+j)+1; rw [jT (.inr d5),List.length_append]; simp; omega)|(show (dfK l ((k+j)+1)).length < (k+j)+1; rw [kM (by rintro (q|q); omega; exact q d5)]; omega)
   refine aN (p38 _ _ _ (x7 _ _ (.done (W_r (aA t0 (aA t5 (qJ (n:=((dfK l (k+j)).length)) (rVq (V.ms 900 v2 0 len)) (rNq ((dfK l (k+j)).length)) h900 (eO (by omega)) rfl (by omega) ?_)))))))
   refine aUe (m:=((dfK l (k+j)).length)) (n:=(len - ((dfK l (k+j)).length))) (f:=cF) (l:=(dfL l (k+j))) (eTq (rVq (V.ms 900 v2 (0+((dfK l (k+j)).length)) (len - ((dfK l (k+j)).length)))) (congrArg (fun n=>V.ms 900 v2 n (len - ((dfK l (k+j)).length))) (Nat.zero_add _))) h900 rfl (by decide) rfl (by omega) (by omega) (R_e (W_r (aA t0 (aA t5 (aAh (n:=((dfK l (k+j)).length)) (rVq (V.ms 900 v2 0 len)) (rNq ((dfK l (k+j)).length)) (@rfl Blk (⟨v2,true,z,24,3,(List.map cF (List.take ((dfK l (k+j)).length) (dfL l (k+j)))++List.replicate (len - ((dfK l (k+j)).length)) [(iV 0),(iV 0),V.nilsl])⟩:Blk)) (aMY (by (simp only [List.length_take]; omega))) rfl (by omega) (aA rfl (R_e ?_)))))))
   refine aO (y5 _ _ (p23 _ _ (y2 _ _ (cJ (R:=fun T H=>T 4=(V.ms 900 v2 0 ((dfK l (k+j)).length))∧(∀ j,j∉[900]→H j=Hi j)∧H 900=(⟨v2,true,z,24,3,(List.map cF (List.take ((dfK l (k+j)).length) (dfL l (k+j)))++List.replicate (len - ((dfK l (k+j)).length)) [(iV 0),(iV 0),V.nilsl])⟩:Blk)∧True) ⟨(rVq (V.ms 900 v2 0 ((dfK l (k+j)).length))),(cK hF (by decide)),rfl,trivial⟩ ?_))))
   intro T H ⟨t4,hF,h900,_⟩
   skip
   have fh:=dU.fin (dU.put (B:=(⟨v2,true,z,24,3,(List.map cF (dfK l l.length)++List.replicate (l.length - (dfK l l.length).length) [iV 0,iV 0,V.nilsl])⟩:Blk)) (dU.start hF) h900 (kL.eq (by (rw [aLO (show l.length≤k+j by omega) hj,show k+j=l.length by omega,hn]; done))))
   exact zU t4 fh (dS.trans_eq (dS.same fh _) (by (rw [show k+j=l.length by omega]; done)))
  have d1:nth l k≠nth l (k - 1):=fun q=>by have e:=(fS _ _).2 q; rw [← show (((k:Nat):Int) - (1:Int)).toNat=k - 1 by omega,c6] at e; cases e
  refine cM (n5 _ _ (.done (W_t (aA t5 (bB rfl (rNq 1) (by omega) (aA rfl (R_e ?_)))))))
  refine p13 _ _ _ ?_ ⟨(k+1),rfl,t0,t1,(eTq (rNq (k+1)) (by rfl)),hF,h900,?_,?_,?_⟩
  · omega
  · omega
  · omega
  · intro i i1 i2
    by_cases e:i=k
    · subst e; exact d1
    · exact hc i i1 (by omega)
 refine aN (p33 _ _ _ (x2 _ _ (.done (W_r (aA t0 (aA rfl (R_e ?_)))))))
 refine aO (cJ (R:=fun T H=>T 4=(V.ms 900 v2 0 len)∧(∀ j,j∉[900]→H j=Hi j)∧H 900=(⟨v2,true,z,24,3,(List.map cF l)⟩:Blk)∧True) ⟨(rVq (V.ms 900 v2 0 len)),hF,h900,trivial⟩ ?_)
 intro T H ⟨t4,hF,h900,_⟩
 have hall:=aKg (l:=l) (fun i i1 i2=>hc i i1 (by omega))
 have fh:=dU.fin (dU.put (B:=(⟨v2,true,z,24,3,(List.map cF (dfK l l.length)++List.replicate (l.length - (dfK l l.length).length) [iV 0,iV 0,V.nilsl])⟩:Blk)) (dU.start hF) h900 (kL.eq (by (rw [hall]; simp; done))))
 exact zU t4 fh (dS.trans_eq (dS.same fh _) (by (rw [hall,hn]; done)))
theorem aER (c d:Cl) (hs:gO c) (hl:c.length≤1073741824) (hd:d.length≤1073741824):aQ Tryz.prog 141 [(V.sl (List.map cF c)),(V.sl (List.map cF d))] (V.sl (List.map cF (unF c d))):=by
 refine pW Tryz.func141 aMx fun hB=>?_
 unfold aT5
 dsimp only
 refine W_r (aA rfl (R_e (W_r (aA rfl (aA rfl (aR rfl rfl (gI (bL rfl eB) (aQk ([c,d]) 0 _ (cVq rfl) (by (simp only [aGs,List.length_append]; omega))) ?_)))))))
 refine aA rfl (R_e (W_r (aA rfl (gI (bL rfl (bL rfl eB)) (aMh (eK ([c,d])) (0+1+([c,d]).length) (decide ((eK ([c,d])).length=0)) _ (@rfl Blk (⟨0+1+([c,d]).length,true,decide ((eK ([c,d])).length=0),24,3,(List.map cF (eK ([c,d])))⟩:Blk)) (by simp only [aGs,List.length_append]; omega)) (R_e (W_r (aA rfl ?_)))))))
 refine gI (bL rfl (bL rfl eB)) (aM2 (srt bY (eK ([c,d]))) (0+1+([c,d]).length) ((eK ([c,d])).length) (decide ((eK ([c,d])).length=0)) _ (@rfl Blk (⟨0+1+([c,d]).length,true,decide ((eK ([c,d])).length=0),24,3,(List.map cF (srt bY (eK ([c,d]))))⟩:Blk)) (by simp [iZ]) (by simp only [iZ,aGs,List.length_append]; omega)) (aA rfl (R_e (aO ?_)))
 refine bI (rVq (V.ms 900 (0+1+([c,d]).length) 0 ((dfK (srt bY (eK ([c,d]))) (srt bY (eK ([c,d]))).length).length))) (aLi (@rfl Blk (⟨0+1+([c,d]).length,true,decide ((eK ([c,d])).length=0),24,3,(List.map cF (dfK (srt bY (eK ([c,d]))) (srt bY (eK ([c,d]))).length)++List.replicate ((srt bY (eK ([c,d]))).length - (dfK (srt bY (eK ([c,d]))) (srt bY (eK ([c,d]))).length).length) [iV 0,iV 0,V.nilsl])⟩:Blk)) (by rfl) (aJH (l:=(dfK (srt bY (eK ([c,d]))) (srt bY (eK ([c,d]))).length)) (by rfl)) (fun _=>by simp) ?_)
 · rw [aGs,aQR hs]
theorem aGY (a b:List Cl) (ha: ∀ k,k < a.length→gO (nth a k)) (la: ∀ k,k < a.length→(nth a k).length≤536870912) (lb: ∀ k,k < b.length→(nth b k).length≤536870912) (na:a.length≤64) (nb:b.length≤65536):aQ Tryz.prog 121 [(V.sl (List.map cCl a)),(V.sl (List.map cCl b))] (V.sl (List.map cCl (prd a b))):=by
 refine pW Tryz.func121 aMS fun hB=>?_
 unfold aSY
 dsimp only
 refine W_r (aA rfl (R_e (W_r (aA rfl (R_e (aB ?_))))))
 refine dO (fun T H=>T 1=(V.sl (List.map cCl b))∧T 5=V.nilsl∧T 10=(V.sl (List.map cCl a))∧T 11=(iV ((a.length:Nat):Int))∧T 12=(iV 0)∧True) ?_ ?_
 ·
  refine aA rfl (bG rfl (aA rfl ?_))
  exact eD ⟨rfl,rfl,rfl,rfl,rfl,trivial⟩
 intro T H ⟨t1,t5,t10,t11,t12,_⟩
 refine aA7 t5 (cJ (R:=fun T H=>T 1=(V.sl (List.map cCl b))∧T 5=(V.sl [])∧T 10=(V.sl (List.map cCl a))∧T 11=(iV ((a.length:Nat):Int))∧T 12=(iV 0)∧True) ⟨(uTq t1),(aK _ _ _),(uTq t10),(uTq t11),(uTq t12),trivial⟩ ?_)
 intro T H ⟨t1,t5,t10,t11,t12,_⟩
 refine aD fun Q1 n1 x1 y1 z1=>?_
 refine bS (fun mm T H=> ∃ (k:Nat),mm=a.length - k∧T 1=(V.sl (List.map cCl b))∧T 5=(V.sl (List.map cCl (prd (a.take k) b)))∧T 10=(V.sl (List.map cCl a))∧T 11=(iV ((a.length:Nat):Int))∧T 12=(iV ((k:Nat):Int))∧(k≤a.length)) ?_ ?_
 ·
  refine ⟨_,0,rfl,t1,(eTq t5 (by rfl)),t10,t11,(eTq t12 rfl),?_⟩
  · omega
 intro mm T H ⟨k,hmm,t1,t5,t10,t11,t12,hk⟩ Q2 p12 p22 p32
 unfold aJi
 have hN:=aDJ na nb hk
 refine W_r (bM t12 t11 (R_e ?_))
 refine aH rfl (fun c3=>?_) fun c3=>?_
 ·
  refine aC (aD fun Q4 n4 x4 y4 z4=>(W_r (cY (i:=k) t10 t12 (by omega) rfl (aG rfl rfl (aA rfl (R_e (W_r ?_)))))))
  refine aA t1 (bG rfl (aA rfl (R_e (iH fun Q5 n5 x5 y5 z5=>?_))))
  refine bS (fun mm T H=> ∃ (j:Nat),mm=b.length - j∧T 1=(V.sl (List.map cCl b))∧T 5=(V.sl (List.map cCl (prC (prd (a.take k) b) (nth a k) (b.take j))))∧T 7=(V.sl (List.map cF (nth a k)))∧T 10=(V.sl (List.map cCl a))∧T 11=(iV ((a.length:Nat):Int))∧T 12=(iV ((k:Nat):Int))∧T 16=(V.sl (List.map cCl b))∧T 17=(iV ((b.length:Nat):Int))∧T 18=(iV ((j:Nat):Int))∧(j≤b.length)) ?_ ?_
  ·
   refine ⟨_,0,rfl,t1,(eTq t5 (by rfl)),rfl,t10,t11,t12,rfl,rfl,(eTq (rVq (iV 0)) rfl),?_⟩
   · omega
  intro mm T H ⟨j,hmm,t1,t5,t7,t10,t11,t12,t16,t17,t18,hj⟩ Q6 p16 p26 p36
  unfold aH6
  have hM:=aGk (prd (a.take k) b) (nth a k) (b.take j)
  have hM2:(b.take j).length=j:=by rw [List.length_take]; omega
  have hU:=pM (nth b j) (nth a k)
  have hla:k < a.length→(nth a k).length≤536870912:=la k
  have hlb:j < b.length→(nth b j).length≤536870912:=lb j
  refine W_r (bM t18 t17 (R_e ?_))
  refine aH rfl (fun c7=>?_) fun c7=>?_
  ·
   refine aC (aD fun Q8 n8 x8 y8 z8=>(W_r (cY (i:=j) t16 t18 (by omega) rfl (aG rfl rfl (aA rfl (R_e (W_t ?_)))))))
   refine aA t5 (aA t7 (aA rfl (aI (aER (nth a k) (nth b j) (ha k (by omega)) (Nat.le_trans (la k (by omega)) (by decide)) (Nat.le_trans (lb j (by omega)) (by decide))) rfl (aI (aAx (prC (prd (a.take k) b) (nth a k) (b.take j)) (unF (nth a k) (nth b j)) (fun q hq=>(aLD (b:=b.take j) (aKJ (b:=b) ha k) (ha k (by omega))).at_ hq) (fun q hq=>(aHK (aHT la lb k) (la k (by omega)) lb j).at_ hq) (by omega) (lL (ha k (by omega))) (by omega)) rfl (aA rfl (R_e (n8 _ _ ?_)))))))
   refine .done (W_t (bB t18 (rNq 1) (by omega) (aA rfl (R_e ?_))))
   refine p16 _ _ _ ?_ ⟨(j+1),rfl,t1,(eTq (rVq (V.sl (List.map cCl (wth (prC (prd (a.take k) b) (nth a k) (b.take j)) (unF (nth a k) (nth b j)))))) (by (rw [aDK (by omega)]; done))),t7,t10,t11,t12,t16,t17,(eTq (rNq (j+1)) (by rfl)),?_⟩
   · omega
   · omega
  refine aN (p36 _ _ _ (x5 _ _ (n4 _ _ (.done (W_t (bB t12 (rNq 1) (by omega) (aA rfl ?_)))))))
  refine R_e ?_
  refine p12 _ _ _ ?_ ⟨(k+1),rfl,t1,(eTq t5 (by (rw [aCz (by omega),show j=b.length by omega,List.take_length]; done))),t10,t11,(eTq (rNq (k+1)) (by rfl)),?_⟩
  · omega
  · omega
 refine aN (p32 _ _ _ (x1 _ _ (.done (W_r (aA t5 (aA rfl (R_e ?_)))))))
 refine aO ?_
 refine bI (rVq (V.sl (List.map cCl (prd (a.take k) b)))) (dB ?_ (fun _=>by simp))
 · rw [show k=a.length by omega,List.take_length]
theorem aHg (l:List Fm) (hok: ∀ k,k < l.length→okF (nth l k)=true) (hz:Fm.szs l≤268435456) (hq: ∀ k,k < l.length→aQ Tryz.prog 87 [(V.agg (rFq (nth l k)))] (V.tup [(V.sl (List.map cCl (cZ (cls (nth l k))))),(iV (gU (cls (nth l k))))])):aQ Tryz.prog 108 [(V.sl (List.map cF l))] (V.tup [(V.sl (List.map cCl (cZ (cjL l [[]])))),(iV (gU (cjL l [[]])))]):=by
 refine pW Tryz.func108 aMg fun hB=>?_
 unfold aT6
 dsimp only
 have hln:=Fm.szs_len l
 refine W_r (aA rfl (aA rfl (R_e (W_r (aR rfl rfl (aA rfl (R_e ?_)))))))
 refine aB ?_
 refine dO (fun T H=>T 4=(V.sl [[V.nilsl]])∧T 10=(V.sl (List.map cF l))∧T 11=(iV ((l.length:Nat):Int))∧T 12=(iV 0)∧H 6=bZq∧True) ?_ ?_
 ·
  refine aA rfl (bG rfl (aA rfl ?_))
  exact eD ⟨rfl,rfl,rfl,rfl,rfl,trivial⟩
 intro T H ⟨t4,t10,t11,t12,h6,_⟩
 refine aQE t4 (.done ?_)
 refine cJ (R:=fun T H=>T 4=(V.sl [[(V.sl (List.map cF ([])))]])∧T 10=(V.sl (List.map cF l))∧T 11=(iV ((l.length:Nat):Int))∧T 12=(iV 0)∧H 6=bZq∧True) ⟨(aK _ _ _),(uTq t10),(uTq t11),(uTq t12),h6,trivial⟩ ?_
 intro T H ⟨t4,t10,t11,t12,h6,_⟩
 refine aD fun Q1 n1 x1 y1 z1=>?_
 refine bS (fun mm T H=> ∃ (k:Nat) (out:List Cl) (v6:Nat),mm=l.length - k∧T 4=(V.sl (List.map cCl out))∧T 10=(V.sl (List.map cF l))∧T 11=(iV ((l.length:Nat):Int))∧T 12=(iV ((k:Nat):Int))∧(H 6).ver=v6∧(k≤l.length)∧(cjL l [[]]=cjL (l.drop k) out)∧(GdS out)∧(fP (Fm.szs (l.take k)) out)) ?_ ?_
 ·
  refine ⟨_,0,[[]],0,rfl,(eTq t4 (by rfl)),t10,t11,(eTq t12 rfl),(cVq h6),?_,?_,?_,?_⟩
  · omega
  · rfl
  · exact tT
  · exact fun c hc=>by rw [List.mem_singleton.1 hc]; exact Nat.zero_le _
 intro mm T H ⟨k,out,v6,hmm,t4,t10,t11,t12,h6,hk,hc,hG,hL⟩ Q2 p12 p22 p32
 unfold aJN
 have hT:=nV l k
 refine W_r (bM t12 t11 (R_e ?_))
 refine aH rfl (fun c3=>?_) fun c3=>?_
 ·
  refine aC (aD fun Q4 n4 x4 y4 z4=>(W_r (bU (i:=k) t10 t12 (by omega) (bN _) rfl (aG rfl rfl (aU (i:=6) (n:=v6) (m:=3) rfl h6 rfl (bF rfl rfl rfl rfl rfl rfl rfl rfl rfl (R_e ?_)))))))
  refine W_r (aJ rfl rfl rfl rfl (aI (hq k (by omega)) rfl (aA rfl (bH rfl rfl (bH rfl rfl (aA rfl (aA rfl ?_)))))))
  refine R_e (aB (W_r (aA rfl (bZ rfl rfl (R_e ?_)))))
  refine aH rfl (fun c5=>?_) fun c5=>?_
  ·
   have d1:=c5
   refine aB (W_r (aA rfl (aA rfl (aA rfl (R_e (aL (y4 _ _ ?_)))))))
   refine p22 _ _ (y1 _ _ ?_)
   refine dC (rVq V.nilsl) (rVq (iV (gU (cls (nth l k))))) (bT ?_) (aE ?_)
   · rw [hc,aBj (by omega) (jI d1)]; try rfl
   · rw [hc,aBj (by omega) (jI d1),jI d1]; try rfl
  have d1:=c5
  have g1:=aKK (by omega) (hok k (by omega)) d1
  refine aC (W_r (aA t4 (aA rfl (aI (aGY out (cZ (cls (nth l k))) (fun q hq=>hG.ant.at_ hq) (fun q hq=>Nat.le_trans (hL.at_ hq) (by omega)) (fun q hq=>Nat.le_trans (g1.2.1.at_ hq) (by omega)) hG.len (Nat.le_trans g1.1.len (by decide))) rfl (aI (sG (prd out (cZ (cls (nth l k))))) rfl (aA rfl (bH rfl rfl ?_)))))))
  refine bH rfl rfl (aA rfl (aA rfl (R_e (W_r (aA rfl (bZ rfl rfl (R_e ?_)))))))
  refine cD rfl (fun c6=>?_) fun c6=>?_
  ·
   have d2:=aLM c6
   refine W_r (aA rfl (aA rfl (aA rfl (R_e (aO (y4 _ _ (p22 _ _ ?_)))))))
   refine y1 _ _ ?_
   refine dC (rVq V.nilsl) (rVq (iV (if 64 < (prd out (cZ (cls (nth l k)))).length then 11 else 0))) (bT ?_) (aE ?_)
   · rw [hc,aB2 (by omega) (kA d1) d2]; try rfl
   · rw [hc,aB2 (by omega) (kA d1) d2,if_pos d2]; try rfl
  have d2:=aRs c6
  refine cM (n4 _ _ (.done (W_t (bB t12 (rNq 1) (by omega) (aA rfl (R_e ?_))))))
  refine p12 _ _ _ ?_ ⟨(k+1),(prd out (cZ (cls (nth l k)))),(v6+1),rfl,(eTq (rVq (V.sl (List.map cCl (if 64 < (prd out (cZ (cls (nth l k)))).length then [] else (prd out (cZ (cls (nth l k)))))))) (by (rw [if_neg d2]; done))),t10,t11,(eTq (rNq (k+1)) (by rfl)),(cVq rfl),?_,?_,?_,?_⟩
  · omega
  · omega
  · rw [hc,aEj (by omega) (kA d1) d2]
  · exact aFe hG g1.1 d2
  · exact aFI (by omega) hL g1.2.2
 refine aN (p32 _ _ _ (x1 _ _ (.done (W_r (aA t4 (aA rfl (aA rfl ?_)))))))
 refine R_e (aO ?_)
 refine dC (rVq (V.sl (List.map cCl out))) (rVq (iV 0)) (dB ?_ (fun _=>by simp)) (aE ?_)
 · rw [hc,aBG (by omega)]; try rfl
 · rw [hc,aBG (by omega)]; try rfl
theorem aAf (f:Fm) (hok:okF f=true) (hz:f.sz≤268435456) (ih: ∀ (g:Fm),g.sz < f.sz→okF g=true→g.sz≤268435456→aQ Tryz.prog 87 [(V.agg (rFq g))] (V.tup [(V.sl (List.map cCl (cZ (cls g)))),(iV (gU (cls g)))])):aQ Tryz.prog 87 [(V.agg (rFq f))] (V.tup [(V.sl (List.map cCl (cZ (cls f)))),(iV (gU (cls f)))]):=by
 refine pW Tryz.func87 aRW fun hB=>?_
 unfold s87
 dsimp only
 have hp:=bP hok
 have hr:=dE hp.1
 have hln:=f.sz_len
 refine W_r (cE (i:=1) (n:=0) (m:=3) (cs:=(rFq f)) rfl (cVq rfl) rfl rfl rfl (aA rfl (aA rfl (R_e (aB (W_r (aM rfl rfl ?_)))))))
 refine aJ rfl rfl rfl rfl (R_e (aD fun Q1 n1 x1 y1 z1=>(W_r (aY rfl rfl (aA rfl (R_e ?_))))))
 refine cD rfl (fun c2=>?_) fun c2=>?_
 ·
  refine W_r (aR rfl rfl (aA rfl (aA rfl (R_e (aO (y1 _ _ ?_))))))
  refine dC (rVq (V.sl [[V.nilsl]])) (rVq (iV 0)) ?_ (aE ?_)
  · rw [qK (by omega)]; simp [fzv,cZ,cCl]
  · rw [qK (by omega)]; rfl
 refine W_r (aY rfl rfl (aA rfl (R_e ?_)))
 refine cD rfl (fun c3=>?_) fun c3=>?_
 ·
  refine aB (W_r (aM rfl rfl (aJ rfl rfl rfl rfl (bU (i:=0) (rVq (V.sl (List.map cF f.kids))) (rNq 0) (by omega) (bN _) rfl (jB (cs':=(rFq (nth f.kids 0))) rfl rfl (aG rfl rfl (aY rfl rfl ?_)))))))
  refine R_e ?_
  refine aH rfl (fun c4=>?_) fun c4=>?_
  ·
   refine aB (W_r (aA rfl (aA rfl (R_e (aL (y1 _ _ ?_))))))
   refine dC (rVq V.nilsl) (rVq (iV 0)) (bT ?_) (aE ?_)
   · rw [qT (by omega) (by omega)]; rfl
   · rw [qT (by omega) (by omega)]; rfl
  refine aC (W_r (aJ rfl rfl rfl rfl (aR rfl rfl (aR rfl rfl (aA rfl (aA rfl (R_e ?_)))))))
  refine aO (y1 _ _ ?_)
  refine dC (rVq (V.sl [[(V.sl [(rFq f)])]])) (rVq (iV 0)) (cG (by simp) ?_) (aE ?_)
  · rw [nD (by omega) (by omega)]; simp [cZ,cCl,bN]
  · rw [nD (by omega) (by omega)]; rfl
 refine aB (W_r (aY rfl rfl (aA rfl (R_e ?_))))
 refine aH rfl (fun c5=>?_) fun c5=>?_
 ·
  refine aC ?_
  refine cD rfl (fun c6=>?_) fun c6=>?_
  ·
   refine W_r (aJ rfl rfl rfl rfl (aR rfl rfl (aR rfl rfl (aA rfl (aA rfl (R_e (aO ?_)))))))
   refine y1 _ _ ?_
   refine dC (rVq (V.sl [[(V.sl [(rFq f)])]])) (rVq (iV 0)) (cG (by simp) ?_) (aE ?_)
   · rw [lN (by omega)]; simp [cZ,cCl,bN]
   · rw [lN (by omega)]; rfl
  · exact (c6 c5).elim
 refine W_r (aY rfl rfl (aA rfl (R_e ?_)))
 refine cD rfl (fun c7=>?_) fun c7=>?_
 ·
  refine W_r (aJ rfl rfl rfl rfl (aR rfl rfl (aR rfl rfl (aA rfl (aA rfl (R_e (aO ?_)))))))
  refine y1 _ _ ?_
  refine dC (rVq (V.sl [[(V.sl [(rFq f)])]])) (rVq (iV 0)) (cG (by simp) ?_) (aE ?_)
  · rw [lN (by omega)]; simp [cZ,cCl,bN]
  · rw [lN (by omega)]; rfl
 refine W_r (aY rfl rfl (aA rfl (R_e ?_)))
 refine cD rfl (fun c8=>?_) fun c8=>?_
 ·
  refine W_r (aM rfl rfl (aJ rfl rfl rfl rfl (aI (aHN f.kids hp.2 (by rw [Fm.sz_eq] at hz; omega) (fun k h=>ih (nth f.kids k) (Fm.sz_kid h) (hp.2 k h) (Nat.le_trans (Nat.le_of_lt (Fm.sz_kid h)) hz))) rfl (bH rfl rfl (bH rfl rfl (aA rfl (aA rfl ?_)))))))
  refine R_e (aO (y1 _ _ ?_))
  refine dC (rVq (V.sl (List.map cCl (cZ (djL f.kids []))))) (rVq (iV (gU (djL f.kids [])))) (dB ?_ (fun _=>by simp)) (aE ?_)
  · rw [nJ (by omega)]
  · rw [nJ (by omega)]
 refine W_r (aY rfl rfl (aA rfl (R_e ?_)))
 refine cD rfl (fun c9=>?_) fun c9=>?_
 ·
  refine W_r (aM rfl rfl (aJ rfl rfl rfl rfl (aI (aHg f.kids hp.2 (by rw [Fm.sz_eq] at hz; omega) (fun k h=>ih (nth f.kids k) (Fm.sz_kid h) (hp.2 k h) (Nat.le_trans (Nat.le_of_lt (Fm.sz_kid h)) hz))) rfl (bH rfl rfl (bH rfl rfl (aA rfl (aA rfl ?_)))))))
  refine R_e (aO (y1 _ _ ?_))
  refine dC (rVq (V.sl (List.map cCl (cZ (cjL f.kids [[]]))))) (rVq (iV (gU (cjL f.kids [[]])))) (dB ?_ (fun _=>by simp)) (aE ?_)
  · rw [nL (by omega)]
  · rw [nL (by omega)]
 refine cM (n1 _ _ (.done (W_r (aM rfl rfl (aJ rfl rfl rfl rfl (aW rfl rfl (aU (i:=4) (n:=0) (m:=3) rfl (cVq rfl) rfl ?_)))))))
 refine bF rfl rfl rfl rfl rfl rfl rfl rfl rfl (R_e (aB ?_))
 refine dO (fun T H=>T 4=(mPq 4)∧T 49=(V.sl (List.map cF f.kids))∧T 50=(iV ((f.kids.length:Nat):Int))∧T 51=(iV 0)∧H 1=(bFq f)∧H 4=(bk 1 24 3 [[(iV f.op),(iV 0),V.nilsl]])∧H 6=bZq∧H 7=bZq∧H 704=bZq∧True) ?_ ?_
 ·
  refine aM rfl rfl (aJ rfl rfl rfl rfl (bG rfl (aA rfl ?_)))
  exact eD ⟨rfl,rfl,rfl,rfl,rfl,rfl,rfl,rfl,rfl,trivial⟩
 intro T H ⟨t4,t49,t50,t51,h1,h4,h6,h7,h704,_⟩
 refine .lazyCell 704 24 3 4 0 2 [(iV f.op),(iV 0),V.nilsl] (by decide) (by rw [h4]; rfl) (by rw [h4]; rfl) rfl (.done ?_)
 refine cJ (R:=fun T H=>T 4=(mPq 4)∧T 49=(V.sl (List.map cF f.kids))∧T 50=(iV ((f.kids.length:Nat):Int))∧T 51=(iV 0)∧H 1=(bFq f)∧H 4=(bk 1 24 3 [[(iV f.op),(iV 0),(V.ms 704 1 0 0)]])∧H 6=bZq∧H 7=bZq∧H 704=(bz 1 24 3 [])∧True) ⟨t4,t49,t50,t51,(uTq (uTq h1)),(by rw [aK,h4,(cVq h704)]; rfl),(uTq (uTq h6)),(uTq (uTq h7)),(by rw [bD _ _ (by decide),aK,(cVq h704)]),trivial⟩ ?_
 intro T H ⟨t4,t49,t50,t51,h1,h4,h6,h7,h704,_⟩
 refine aD fun Q10 n10 x10 y10 z10=>?_
 refine bS (fun mm T H=> ∃ (k:Nat) (w:Nat) (g:List Fm) (v6:Nat) (v7:Nat),mm=f.kids.length - k∧T 4=(mPq 4)∧T 49=(V.sl (List.map cF f.kids))∧T 50=(iV ((f.kids.length:Nat):Int))∧T 51=(iV ((k:Nat):Int))∧H 1=(bFq f)∧H 4=(bk 1 24 3 [[(iV f.op),(iV 0),(V.ms 704 w 0 k)]])∧(H 6).ver=v6∧(H 7).ver=v7∧H 704=(bz w 24 3 (List.map cF g))∧(k≤f.kids.length)∧(g.length=k)∧(fA f.kids=(fA (f.kids.drop k)).map fun r=>g++r)) ?_ ?_
 ·
  refine ⟨_,0,1,[],0,0,rfl,t4,t49,t50,(eTq t51 rfl),h1,h4,(cVq h6),(cVq h7),(eTq h704 (by rfl)),?_,?_,?_⟩
  · omega
  · rfl
  · simp
 intro mm T H ⟨k,w,g,v6,v7,hmm,t4,t49,t50,t51,h1,h4,h6,h7,h704,hk,hg,hc⟩ Q11 p111 p211 p311
 unfold aNJ
 refine W_r (bM t51 t50 (R_e ?_))
 refine aH rfl (fun c12=>?_) fun c12=>?_
 ·
  refine aC (aD fun Q13 n13 x13 y13 z13=>(W_r (bU (i:=k) t49 t51 (by omega) (bN _) rfl (aG rfl rfl (aU (i:=6) (n:=v6) (m:=3) rfl h6 rfl (bF rfl rfl rfl rfl rfl rfl rfl rfl rfl (R_e ?_)))))))
  refine W_r (aJ rfl rfl rfl rfl (aI (aCn (nth f.kids k) (hp.2 k (by omega)) (szq hz) ((fun k h=>ih (nth f.kids k) (Fm.sz_kid h) (hp.2 k h) (Nat.le_trans (Nat.le_of_lt (Fm.sz_kid h)) hz)) k (by omega))) rfl (aA rfl (bH rfl rfl (bH rfl rfl (aU (i:=7) (n:=v7) (m:=3) rfl h7 rfl (bF rfl rfl rfl rfl rfl rfl rfl rfl rfl ?_)))))))
  refine aA rfl (R_e (aB (W_r (aA rfl (bZ rfl rfl (R_e ?_))))))
  refine aH rfl (fun c14=>?_) fun c14=>?_
  ·
   have d1:=aGC (by omega) hc (by omega) c14
   have d0:=jI c14
   refine aB (W_r (aA rfl (aA rfl (aA rfl (R_e (aL (y13 _ _ ?_)))))))
   refine p211 _ _ (y10 _ _ ?_)
   refine dC (rVq V.nilsl) (rVq (iV (gU (can (nth f.kids k))))) (bT ?_) (aE ?_)
   · rw [d1]; rfl
   · rw [d1,d0]; rfl
  have d1:=aFy hc (by omega) c14
  refine aC (W_t (aM t4 h4 (aJ rfl h4 rfl rfl (aJ rfl rfl rfl rfl (aR rfl rfl (bX (l:=g) (f:=cF) (x:=(gV (can (nth f.kids k)))) (rVq (V.ms 704 w 0 k)) h704 (by exact hg.symm) (fU (x:=(gV (can (nth f.kids k)))) (rVq (V.sl [(rFq (gV (can (nth f.kids k))))]))) (eV _) (fC _) (by omega) (by omega) (aM t4 h4 ?_)))))))
  refine bF rfl rfl rfl h4 rfl rfl rfl rfl rfl (R_e (n13 _ _ (.done (W_t (bB t51 (rNq 1) (by omega) (aA rfl (R_e ?_)))))))
  refine p111 _ _ _ ?_ ⟨(k+1),(w+1),(g++[gV (can (nth f.kids k))]),(v6+1),(v7+1),rfl,t4,t49,t50,(eTq (rNq (k+1)) (by rfl)),h1,(eTq (@rfl Blk (bk 1 24 3 [[(iV f.op),(iV 0),(V.ms 704 (w+1) 0 (k+1))]])) (by rfl)),(cVq rfl),(cVq rfl),(eTq (@rfl Blk (bz (w+1) 24 3 (List.map cF (g++[(gV (can (nth f.kids k)))])))) (by rfl)),?_,?_,?_⟩
  · omega
  · omega
  · simp; exact hg
  · exact d1
 refine aN (p311 _ _ _ (x10 _ _ (cJ (R:=fun T H=>T 4=(mPq 4)∧T 49=(V.sl (List.map cF f.kids))∧T 50=(iV ((f.kids.length:Nat):Int))∧T 51=(iV ((k:Nat):Int))∧T 52=(V.bool (decide (((k:Nat):Int) < ((f.kids.length:Nat):Int))))∧H 1=(bFq f)∧H 4=(bk 1 24 3 [[(iV f.op),(iV 0),(V.ms 704 w 0 k)]])∧(H 6).ver=v6∧(H 7).ver=v7∧H 704=(bz w 24 3 (List.map cF g))∧True) ⟨t4,t49,t50,t51,(rVq (V.bool (decide (((k:Nat):Int) < ((f.kids.length:Nat):Int))))),h1,h4,h6,h7,h704,trivial⟩ ?_)))
 intro T H ⟨t4,t49,t50,t51,t52,h1,h4,h6,h7,h704,_⟩
 refine aA4 (id:=704) (id2:=4) (rows:=[[(iV f.op),(iV 0),(V.ms 704 w 0 k)]]) (i:=0) (off:=2) (r:=[(iV f.op),(iV 0),(V.ms 704 w 0 k)]) (m:=g) (g:=cF) (by decide) h704 h4 (by (simp; done)) (by exact hg.symm) rfl (.done ?_)
 refine cJ (R:=fun T H=>T 4=(mPq 4)∧T 49=(V.sl (List.map cF f.kids))∧T 50=(iV ((f.kids.length:Nat):Int))∧T 51=(iV ((k:Nat):Int))∧T 52=(V.bool (decide (((k:Nat):Int) < ((f.kids.length:Nat):Int))))∧H 1=(bFq f)∧H 4=(bk 1 24 3 [[(iV f.op),(iV 0),(V.sl (List.map cF g))]])∧(H 6).ver=v6∧(H 7).ver=v7∧((H 704).ver=w∧(H 704).live=false)∧True) ⟨(bW t4 rfl),(bW t49 rfl),(bW t50 rfl),(bW t51 rfl),(bW t52 rfl),(uTq (bQ h1 (by decide))),(aK _ _ _),((cVq (bD _ _ (by decide))).trans (aCX h6)),((cVq (bD _ _ (by decide))).trans (aCX h7)),⟨(cVq (bD _ _ (by decide))).trans (dZ (cVq h704)).1,(congrArg Blk.live (bD _ _ (by decide))).trans (dZ (cVq h704)).2⟩,trivial⟩ ?_
 intro T H ⟨t4,t49,t50,t51,t52,h1,h4,h6,h7,h704,_⟩
 refine W_r (aJ t4 h4 rfl rfl (aR rfl rfl (aR rfl rfl (aA rfl (aA rfl (R_e (aO ?_)))))))
 refine dC (rVq (V.sl [[(V.sl [[(iV f.op),(iV 0),(V.sl (List.map cF g))]])]])) (rVq (iV 0)) (cG (by simp) ?_) (aE ?_)
 · rw [aAb (by omega) hc (by omega)]; simp [cZ,cCl,bN]; exact ⟨rfl,rfl,rfl⟩
 · rw [aAb (by omega) hc (by omega)]; rfl
theorem aJx (f:Fm) (hok:okF f=true) (hz:f.sz≤268435456):aQ Tryz.prog 87 [(V.agg (rFq f))] (V.tup [(V.sl (List.map cCl (cZ (cls f)))),(iV (gU (cls f)))]):=by
  have key: ∀ (mm:Nat) (f:Fm),f.sz < mm→okF f=true→f.sz≤268435456→aQ Tryz.prog 87 [(V.agg (rFq f))] (V.tup [(V.sl (List.map cCl (cZ (cls f)))),(iV (gU (cls f)))]):=by
    intro mm
    induction mm with
    |zero=>intro f hlt; exact absurd hlt (Nat.not_lt_zero _)
    | succ mm ih =>
      intro f hlt hok hz
      exact aAf f hok hz fun f2 hlt2=>ih f2 (by omega)
  exact key (f.sz+1) f (Nat.lt_succ_self _) hok hz
theorem sK (f:Fm) (hok:okF f=true) (hz:f.sz≤268435456):aQ Tryz.prog 36 [(V.agg (rFq f))] (V.tup [(V.agg (rFq ((chk f).1))),(iV ((chk f).2))]):=by
 refine pW Tryz.func36 aQ9 fun hB=>?_
 unfold s36
 dsimp only
 refine W_r (cE (i:=1) (n:=0) (m:=3) (cs:=(rFq f)) rfl (cVq rfl) rfl rfl rfl (aU (i:=2) (n:=0) (m:=3) rfl (cVq rfl) rfl (aA rfl (R_e (W_r (aJ rfl rfl rfl rfl (aI (aCn f hok hz (aJx f hok hz)) rfl ?_)))))))
 refine aA rfl (bH rfl rfl (bH rfl rfl (aU (i:=4) (n:=0) (m:=3) rfl (cVq rfl) rfl (bF rfl rfl rfl rfl rfl rfl rfl rfl rfl (aA rfl (R_e (aB ?_)))))))
 refine W_r (aA rfl (bZ rfl rfl (R_e ?_)))
 refine aH rfl (fun c1=>?_) fun c1=>?_
 ·
  have d1:=aGF c1
  refine aB (W_r (aW rfl rfl (aA rfl (bF rfl rfl rfl rfl rfl rfl rfl rfl rfl (aA rfl (R_e (aL ?_)))))))
  refine eM (bC (u:=(V.agg [(iV 0),(iV 0),V.nilsl])) rfl (@rfl Blk bYq) (lB oB rfl rfl)) (bV (rVq (iV (gU (can f))))) (bE (aE ?_) (aE ?_) (bT ?_)) (aE ?_)
  · rw [d1]; rfl
  · rw [d1]; rfl
  · rw [d1]; rfl
  · rw [d1]
 have d0:=c1
 refine aC (aB (W_r (aJ rfl rfl rfl rfl (aI (jR (gV (can f))) rfl (aA rfl (R_e (aB ?_)))))))
 refine W_r (aA rfl (bZ rfl rfl (R_e ?_)))
 refine aH rfl (fun c2=>?_) fun c2=>?_
 ·
  have d1:=aGb d0 c2
  refine aB (W_r (aW rfl rfl (aA rfl (bF rfl rfl rfl rfl rfl rfl rfl rfl rfl (aA rfl (R_e (aL ?_)))))))
  refine eM (bC (u:=(V.agg [(iV 0),(iV 0),V.nilsl])) rfl (@rfl Blk bYq) (lB oB rfl rfl)) (bV (rVq (iV (cX (gV (can f)))))) (bE (aE ?_) (aE ?_) (bT ?_)) (aE ?_)
  · rw [d1]; rfl
  · rw [d1]; rfl
  · rw [d1]; rfl
  · rw [d1]
 have d1:=aGy d0 c2
 refine aC (W_r (aJ rfl rfl rfl rfl (aI (aDM (gV (can f)) (gA (by omega))) rfl (bF rfl rfl rfl rfl rfl rfl rfl rfl rfl (aA rfl (R_e (aO ?_)))))))
 refine eM (bC (u:=(V.agg (rFq (gV (can f))))) rfl (@rfl Blk (bFq (gV (can f)))) (lB oB rfl rfl)) (bV (rVq (iV 0))) (bE (aE ?_) (aE ?_) (dB ?_ (fun _=>by simp))) (aE ?_)
 · rw [d1]
 · rw [d1]
 · rw [d1]
 · rw [d1]
def aSM:List SO:=[
 qF 12 2 2,
 ql 13 12,
 sO 14 (.idx 3 (.t 13) (.c (.int .i64 0))),
 qL 15 3 14,
 qM 16 1,
 sO 17 (.un .not (.t 16)),
 sO 18 (.call false 37 [.t 15,.t 17]),
 sN (.store 3 (.t 4) (.t 18))]
def aSw:List SO:=[
 qF 23 0 2,
 ql 24 23,
 qF 25 1 2,
 ql 26 25,
 sO 27 (.build zFq [(0,1,.t 24),(1,1,.t 26)]),
 sO 5 (.alloc 24 zFq),
 sN (.store 3 (.t 5) (.t 27))]
def aOH:List SO:=[
 qF 47 2 6,
 ql 48 47,
 qL 49 3 8,
 qM 50 1,
 sO 51 (.call false 37 [.t 49,.t 50]),
 sO 52 (.bslice 24 3 false zFq 1 [(0,.t 51)]),
 sO 53 (.append 24 3 40 (.t 48) (.t 52)),
 qF 54 2 6,
 sN (.store 1 (.t 54) (.t 53))]
def aKE:SC:=.seq (.reg [qP 44 .lss 43 42]) (.seq (.cond (.t 44) (.skip) (.exit 0)) (.seq (.block 1 (.seq (.reg [qA 45 3 41 43,qL 46 3 45,sO 8 (.alloc 24 zFq),sN (.store 3 (.t 8) (.t 46))]) (.reg aOH))) (.reg [qC 55 .add 43 1,qM 43 55])))
def s37:SF:=⟨57,[.cell 4 true 3],.seq (.reg [sO 2 (.box 24 3 (.t 0)),sO 4 (.alloc 24 zFq)]) (.seq (.seq (.reg [qF 9 0 2,ql 10 9,qC 11 .eql 10 4]) (.cond (.t 11) (.seq (.reg aSM) (.ret)) (.skip))) (.seq (.seq (.reg [qF 19 2 2,ql 20 19,qN 21 20,qC 22 .eql 21 0]) (.cond (.t 22) (.seq (.reg aSw) (.seq (.seq (.reg [qM 28 1]) (.cond (.t 28) (.seq (.reg [qL 29 3 5,sO 30 (.call false 62 [.t 29]),sN (.store 3 (.t 4) (.t 30))]) (.ret)) (.skip))) (.seq (.reg [qL 31 3 5,sN (.store 3 (.t 4) (.t 31))]) (.ret)))) (.skip))) (.seq (.reg [qF 32 0 2,ql 33 32,sO 34 (.build zFq [(0,1,.t 33)]),sO 6 (.alloc 24 zFq),sN (.store 3 (.t 6) (.t 34))]) (.seq (.seq (.reg [qM 35 1]) (.cond (.t 35) (.reg [qF 36 0 2,ql 37 36,sO 38 (.call false 63 [.t 37]),qF 39 0 6,sN (.store 1 (.t 39) (.t 38))]) (.skip))) (.seq (.seq (.reg [qF 40 2 2,ql 41 40,qN 42 41,qI 43 0]) (.block 0 (.loop aKE))) (.seq (.reg [qL 56 3 6,sN (.store 3 (.t 4) (.t 56))]) (.ret)))))))⟩
theorem aQ7:bJ Tryz.prog ⟨oEq,[],[],[]⟩ Tryz.f37=some s37:=by kernel_rfl
def s63:SF:=⟨14,[.tmp 2],.seq (.reg [qI 2 0]) (.seq (.seq (.reg [qM 3 0]) (.block 0 (.seq (.reg [qC 5 .eql 3 5,qM 4 5]) (.cond (.t 4) (.seq (.reg [qI 2 6]) (.ret)) (.seq (.reg [qC 7 .eql 3 6,qM 6 7]) (.cond (.t 6) (.seq (.reg [qI 2 5]) (.ret)) (.seq (.reg [qC 9 .eql 3 7,qM 8 9]) (.cond (.t 8) (.seq (.reg [qI 2 9]) (.ret)) (.seq (.reg [qC 11 .eql 3 9,qM 10 11]) (.cond (.t 10) (.seq (.reg [qI 2 7]) (.ret)) (.seq (.reg [qC 13 .eql 3 8,qM 12 13]) (.cond (.t 12) (.seq (.reg [qI 2 10]) (.ret)) (.skip))))))))))))) (.seq (.reg [qI 2 8]) (.ret)))⟩
theorem aPC:bJ Tryz.prog ⟨oEq,[],[],[]⟩ Tryz.f63=some s63:=by kernel_rfl
theorem aIT (o:Int):aQ Tryz.prog 63 [(iV o)] (iV (gQ o)):=by
 refine pW Tryz.func63 aPC fun hB=>?_
 unfold s63
 dsimp only
 refine W_r (aA rfl (R_e (aB (W_r (aA rfl (R_e (aD fun Q1 n1 x1 y1 z1=>?_)))))))
 refine W_r (aY rfl rfl (aA rfl (R_e ?_)))
 refine cD rfl (fun c2=>?_) fun c2=>?_
 ·
  refine W_r (aA rfl (R_e (aO (y1 _ _ ?_))))
  refine bI (rVq (iV 6)) (aE ?_)
  · simp only [gQ]; repeat (first|rfl|omega|split)
 refine W_r (aY rfl rfl (aA rfl (R_e ?_)))
 refine cD rfl (fun c3=>?_) fun c3=>?_
 ·
  refine W_r (aA rfl (R_e (aO (y1 _ _ ?_))))
  refine bI (rVq (iV 5)) (aE ?_)
  · simp only [gQ]; repeat (first|rfl|omega|split)
 refine W_r (aY rfl rfl (aA rfl (R_e ?_)))
 refine cD rfl (fun c4=>?_) fun c4=>?_
 ·
  refine W_r (aA rfl (R_e (aO (y1 _ _ ?_))))
  refine bI (rVq (iV 9)) (aE ?_)
  · simp only [gQ]; repeat (first|rfl|omega|split)
 refine W_r (aY rfl rfl (aA rfl (R_e ?_)))
 refine cD rfl (fun c5=>?_) fun c5=>?_
 ·
  refine W_r (aA rfl (R_e (aO (y1 _ _ ?_))))
  refine bI (rVq (iV 7)) (aE ?_)
  · simp only [gQ]; repeat (first|rfl|omega|split)
 refine W_r (aY rfl rfl (aA rfl (R_e ?_)))
 refine cD rfl (fun c6=>?_) fun c6=>?_
 ·
  refine W_r (aA rfl (R_e (aO (y1 _ _ ?_))))
  refine bI (rVq (iV 10)) (aE ?_)
  · simp only [gQ]; repeat (first|rfl|omega|split)
 refine cM (n1 _ _ (.done (W_r (aA rfl (R_e (aO ?_))))))
 refine bI (rVq (iV 8)) (aE ?_)
 · simp only [gQ]; repeat (first|rfl|omega|split)
theorem rO (f:Fm) (b:Bool) (hf:okF f=true) (hz:f.sz≤4096) (ih: ∀ (g:Fm) (b:Bool),g.sz < f.sz→okF g=true→g.sz≤4096→aQ Tryz.prog 37 [(V.agg (rFq g)),(V.bool b)] (V.agg (rFq (nrm g b)))):aQ Tryz.prog 37 [(V.agg (rFq f)),(V.bool b)] (V.agg (rFq (nrm f b))):=by
 refine pW Tryz.func37 aQ7 fun hB=>?_
 unfold s37
 dsimp only
 have hp:=bP hf
 have hr:=dE hp.1
 have hln:=f.sz_len
 refine W_r (cE (i:=2) (n:=0) (m:=3) (cs:=(rFq f)) rfl (cVq rfl) rfl rfl rfl (aU (i:=4) (n:=0) (m:=3) rfl (cVq rfl) rfl (R_e (aB (W_r (aM rfl rfl (aJ rfl rfl rfl rfl ?_)))))))
 refine aY rfl rfl (R_e ?_)
 refine aH rfl (fun c1=>?_) fun c1=>?_
 ·
  refine aB (W_r (aM rfl rfl (aJ rfl rfl rfl rfl (bU (i:=0) (rVq (V.sl (List.map cF f.kids))) (rNq 0) (by omega) (bN _) rfl (aG rfl rfl (aA rfl (eN rfl ?_)))))))
  refine aI (ih (nth f.kids 0) (!b) skq (hp.2 _ (by omega)) (szq hz)) rfl (bF rfl rfl rfl rfl rfl rfl rfl rfl rfl (R_e (aL ?_)))
  refine cP (bC (u:=(V.agg (rFq (nrm (nth f.kids 0) (!b))))) rfl (@rfl Blk (bFq (nrm (nth f.kids 0) (!b)))) (lB oB rfl rfl)) (bE (aE ?_) (aE ?_) (dB ?_ (fun _=>by simp)))
  · rw [jM (f:=f) (b:=b) (by omega) (by omega)]
  · rw [jM (f:=f) (b:=b) (by omega) (by omega)]
  · rw [jM (f:=f) (b:=b) (by omega) (by omega)]
 refine aC (aB (W_r (aM rfl rfl (aJ rfl rfl rfl rfl (bG rfl (aY rfl rfl (R_e ?_)))))))
 refine aH rfl (fun c2=>?_) fun c2=>?_
 ·
  refine aB (W_r (aM rfl rfl (aJ rfl rfl rfl rfl (aM rfl rfl (aJ rfl rfl rfl rfl (aW rfl rfl (aU (i:=5) (n:=0) (m:=3) rfl (cVq rfl) rfl ?_)))))))
  refine bF rfl rfl rfl rfl rfl rfl rfl rfl rfl (R_e (aB (aB (W_r (aA rfl (R_e ?_))))))
  refine cC rfl (fun c3=>?_) (fun c3=>?_)
  ·
   have hb:b=true:=c3
   refine aB (W_r (aJ rfl rfl rfl rfl (kN (bL (rVq (V.agg [(iV f.op),(iV f.arg),V.nilsl])) eB) (aAz (⟨f.op,f.arg,([])⟩:Fm)) (iK (by rfl) rfl) (by simp) (Or.inl (by simp)) (bF rfl rfl rfl rfl rfl rfl rfl rfl rfl (R_e (aL ?_))))))
   refine cP (bC (u:=(V.agg [(iV 4),(iV 0),(V.sl (List.map cF ([(⟨f.op,f.arg,([])⟩:Fm)])))])) rfl (@rfl Blk (bk 1 24 3 [[(iV 4),(iV 0),(V.sl (List.map cF ([(⟨f.op,f.arg,([])⟩:Fm)])))]])) (lB oB rfl rfl)) (bE (aE ?_) (aE ?_) (dB ?_ (fun _=>by simp)))
   · rw [hb,pY (by omega) (by omega)]; rfl
   · rw [hb,pY (by omega) (by omega)]; rfl
   · rw [hb,pY (by omega) (by omega)]; rfl
  have hb:b=false:=by simpa using c3
  refine aC (aB (W_r (aJ rfl rfl rfl rfl (bF rfl rfl rfl rfl rfl rfl rfl rfl rfl (R_e (aL ?_))))))
  refine cP (bC (u:=(V.agg [(iV f.op),(iV f.arg),V.nilsl])) rfl (@rfl Blk (bk 1 24 3 [[(iV f.op),(iV f.arg),V.nilsl]])) (lB oB rfl rfl)) (bE (aE ?_) (aE ?_) (bT ?_))
  · rw [hb,pS (by omega) (by omega)]; rfl
  · rw [hb,pS (by omega) (by omega)]; rfl
  · rw [hb,pS (by omega) (by omega)]; rfl
 refine aC (W_r (aM rfl rfl (aJ rfl rfl rfl rfl (aW rfl rfl (aU (i:=6) (n:=0) (m:=3) rfl (cVq rfl) rfl (bF rfl rfl rfl rfl rfl rfl rfl rfl rfl (R_e ?_)))))))
 refine aB (W_r (aA rfl (R_e ?_)))
 refine cC rfl (fun c4=>?_) (fun c4=>?_)
 ·
  have hb:b=true:=c4
  refine W_r (aM rfl rfl (aJ rfl rfl rfl rfl (aI (aIT f.op) rfl (aM rfl rfl (bF rfl rfl rfl rfl rfl rfl rfl rfl rfl (R_e (aB ?_)))))))
  refine dO (fun T H=>T 1=(V.bool b)∧T 4=(mPq 4)∧T 6=(mPq 6)∧T 41=(V.sl (List.map cF f.kids))∧T 42=(iV ((f.kids.length:Nat):Int))∧T 43=(iV 0)∧H 2=(bFq f)∧H 4=bYq∧H 5=bZq∧H 6=(bk 1 24 3 [[(iV (gQ f.op)),(iV 0),V.nilsl]])∧H 8=bZq∧H 653=bZq∧True) ?_ ?_
  ·
   refine aM rfl rfl (aJ rfl rfl rfl rfl (bG rfl (aA rfl ?_)))
   exact eD ⟨rfl,rfl,rfl,rfl,rfl,rfl,rfl,rfl,rfl,rfl,rfl,rfl,trivial⟩
  intro T H ⟨t1,t4,t6,t41,t42,t43,h2,h4,h5,h6,h8,h653,_⟩
  refine .lazyCell 653 24 3 6 0 2 [(iV (gQ f.op)),(iV 0),V.nilsl] (by decide) (by rw [h6]; rfl) (by rw [h6]; rfl) rfl (.done ?_)
  refine cJ (R:=fun T H=>T 1=(V.bool b)∧T 4=(mPq 4)∧T 6=(mPq 6)∧T 41=(V.sl (List.map cF f.kids))∧T 42=(iV ((f.kids.length:Nat):Int))∧T 43=(iV 0)∧H 2=(bFq f)∧H 4=bYq∧H 5=bZq∧H 6=(bk 1 24 3 [[(iV (gQ f.op)),(iV 0),(V.ms 653 1 0 0)]])∧H 8=bZq∧H 653=(bz 1 24 3 [])∧True) ⟨t1,t4,t6,t41,t42,t43,(uTq (uTq h2)),(uTq (uTq h4)),(uTq (uTq h5)),(by rw [aK,h6,(cVq h653)]; rfl),(uTq (uTq h8)),(by rw [bD _ _ (by decide),aK,(cVq h653)]),trivial⟩ ?_
  intro T H ⟨t1,t4,t6,t41,t42,t43,h2,h4,h5,h6,h8,h653,_⟩
  refine aD fun Q5 n5 x5 y5 z5=>?_
  refine bS (fun mm T H=> ∃ (k:Nat) (w:Nat) (v8:Nat),mm=f.kids.length - k∧T 1=(V.bool b)∧T 4=(mPq 4)∧T 6=(mPq 6)∧T 41=(V.sl (List.map cF f.kids))∧T 42=(iV ((f.kids.length:Nat):Int))∧T 43=(iV ((k:Nat):Int))∧H 2=(bFq f)∧H 4=bYq∧H 5=bZq∧H 6=(bk 1 24 3 [[(iV (nop f.op b)),(iV 0),(V.ms 653 w 0 k)]])∧(H 8).ver=v8∧H 653=(bz w 24 3 (List.map cF ((f.kids.take k).map (fun g=>nrm g b))))∧(k≤f.kids.length)) ?_ ?_
  ·
   refine ⟨_,0,1,0,rfl,t1,t4,t6,t41,t42,(eTq t43 rfl),h2,h4,h5,(eTq h6 (by (exact rP (by simp only [nop,gQ,hb,if_true,Bool.false_eq_true,if_false]; repeat (first|rfl|omega|split))))),(cVq h8),(eTq h653 (by rfl)),?_⟩
   · omega
  intro mm T H ⟨k,w,v8,hmm,t1,t4,t6,t41,t42,t43,h2,h4,h5,h6,h8,h653,hk⟩ Q6 p16 p26 p36
  unfold aKE
  refine W_r (bM t43 t42 (R_e ?_))
  refine aH rfl (fun c7=>?_) fun c7=>?_
  ·
   refine aC (aD fun Q8 n8 x8 y8 z8=>(W_r (bU (i:=k) t41 t43 (by omega) (bN _) rfl (aG rfl rfl (aU (i:=8) (n:=v8) (m:=3) rfl h8 rfl (bF rfl rfl rfl rfl rfl rfl rfl rfl rfl (R_e ?_)))))))
   refine W_t (aM t6 h6 (aJ rfl h6 rfl rfl (aJ rfl rfl rfl rfl (aA t1 (aI (ih (nth f.kids k) b skq (hp.2 _ (by omega)) (szq hz)) rfl (aR rfl rfl (bX (l:=((f.kids.take k).map (fun g=>nrm g b))) (f:=cF) (x:=(nrm (nth f.kids k) b)) (rVq (V.ms 653 w 0 k)) h653 (by (simp; omega)) (fU (x:=(nrm (nth f.kids k) b)) (rVq (V.sl [(rFq (nrm (nth f.kids k) b))]))) (eV _) (fC _) (by omega) (by omega) ?_)))))))
   refine aM t6 h6 (bF rfl rfl rfl h6 rfl rfl rfl rfl rfl (R_e (n8 _ _ (.done (W_t (bB t43 (rNq 1) (by omega) (aA rfl ?_)))))))
   refine R_e ?_
   refine p16 _ _ _ ?_ ⟨(k+1),(w+1),(v8+1),rfl,t1,t4,t6,t41,t42,(eTq (rNq (k+1)) (by rfl)),h2,h4,h5,(eTq (@rfl Blk (bk 1 24 3 [[(iV (nop f.op b)),(iV 0),(V.ms 653 (w+1) 0 (k+1))]])) (by rfl)),(cVq rfl),(eTq (@rfl Blk (bz (w+1) 24 3 (List.map cF ((f.kids.take k).map (fun g=>nrm g b)++[(nrm (nth f.kids k) b)])))) (by (rw [gD (by omega)]; done))),?_⟩
   · omega
   · omega
  refine aN (p36 _ _ _ (x5 _ _ (.done (W_r (aJ t6 h6 rfl rfl (bF t4 rfl rfl h4 rfl rfl rfl rfl rfl (R_e ?_)))))))
  refine aO ?_
  refine cP (bC (u:=(V.agg [(iV (nop f.op b)),(iV 0),(V.ms 653 w 0 k)])) t4 (@rfl Blk (bk 1 24 3 [[(iV (nop f.op b)),(iV 0),(V.ms 653 w 0 k)]])) (lB oB rfl rfl)) (bE (aE ?_) (aE ?_) (gL h653 (by simp) (l:=((f.kids.take k).map (fun g=>nrm g b))) rfl (by (simp; omega)) (fun _=>by simp) ?_))
  · rw [cS (by omega) (by omega)]; rfl
  · rw [cS (by omega) (by omega)]; rfl
  · rw [cS (by omega) (by omega)]; first|rfl|(show _=List.map _ f.kids; rw [show k=f.kids.length by omega,List.take_length]; done)
 have hb:b=false:=by simpa using c4
 refine aC (aB ?_)
 refine dO (fun T H=>T 1=(V.bool b)∧T 4=(mPq 4)∧T 6=(mPq 6)∧T 41=(V.sl (List.map cF f.kids))∧T 42=(iV ((f.kids.length:Nat):Int))∧T 43=(iV 0)∧H 2=(bFq f)∧H 4=bYq∧H 5=bZq∧H 6=(bk 1 24 3 [[(iV f.op),(iV 0),V.nilsl]])∧H 8=bZq∧H 653=bZq∧True) ?_ ?_
 ·
  refine aM rfl rfl (aJ rfl rfl rfl rfl (bG rfl (aA rfl ?_)))
  exact eD ⟨rfl,rfl,rfl,rfl,rfl,rfl,rfl,rfl,rfl,rfl,rfl,rfl,trivial⟩
 intro T H ⟨t1,t4,t6,t41,t42,t43,h2,h4,h5,h6,h8,h653,_⟩
 refine .lazyCell 653 24 3 6 0 2 [(iV f.op),(iV 0),V.nilsl] (by decide) (by rw [h6]; rfl) (by rw [h6]; rfl) rfl (.done ?_)
 refine cJ (R:=fun T H=>T 1=(V.bool b)∧T 4=(mPq 4)∧T 6=(mPq 6)∧T 41=(V.sl (List.map cF f.kids))∧T 42=(iV ((f.kids.length:Nat):Int))∧T 43=(iV 0)∧H 2=(bFq f)∧H 4=bYq∧H 5=bZq∧H 6=(bk 1 24 3 [[(iV f.op),(iV 0),(V.ms 653 1 0 0)]])∧H 8=bZq∧H 653=(bz 1 24 3 [])∧True) ⟨t1,t4,t6,t41,t42,t43,(uTq (uTq h2)),(uTq (uTq h4)),(uTq (uTq h5)),(by rw [aK,h6,(cVq h653)]; rfl),(uTq (uTq h8)),(by rw [bD _ _ (by decide),aK,(cVq h653)]),trivial⟩ ?_
 intro T H ⟨t1,t4,t6,t41,t42,t43,h2,h4,h5,h6,h8,h653,_⟩
 refine aD fun Q9 n9 x9 y9 z9=>?_
 refine bS (fun mm T H=> ∃ (k:Nat) (w:Nat) (v8:Nat),mm=f.kids.length - k∧T 1=(V.bool b)∧T 4=(mPq 4)∧T 6=(mPq 6)∧T 41=(V.sl (List.map cF f.kids))∧T 42=(iV ((f.kids.length:Nat):Int))∧T 43=(iV ((k:Nat):Int))∧H 2=(bFq f)∧H 4=bYq∧H 5=bZq∧H 6=(bk 1 24 3 [[(iV (nop f.op b)),(iV 0),(V.ms 653 w 0 k)]])∧(H 8).ver=v8∧H 653=(bz w 24 3 (List.map cF ((f.kids.take k).map (fun g=>nrm g b))))∧(k≤f.kids.length)) ?_ ?_
 ·
  refine ⟨_,0,1,0,rfl,t1,t4,t6,t41,t42,(eTq t43 rfl),h2,h4,h5,(eTq h6 (by (exact rP (by simp only [nop,gQ,hb,if_true,Bool.false_eq_true,if_false]; repeat (first|rfl|omega|split))))),(cVq h8),(eTq h653 (by rfl)),?_⟩
  · omega
 intro mm T H ⟨k,w,v8,hmm,t1,t4,t6,t41,t42,t43,h2,h4,h5,h6,h8,h653,hk⟩ Q10 p110 p210 p310
 unfold aKE
 refine W_r (bM t43 t42 (R_e ?_))
 refine aH rfl (fun c11=>?_) fun c11=>?_
 ·
  refine aC (aD fun Q12 n12 x12 y12 z12=>(W_r (bU (i:=k) t41 t43 (by omega) (bN _) rfl (aG rfl rfl (aU (i:=8) (n:=v8) (m:=3) rfl h8 rfl (bF rfl rfl rfl rfl rfl rfl rfl rfl rfl (R_e ?_)))))))
  refine W_t (aM t6 h6 (aJ rfl h6 rfl rfl (aJ rfl rfl rfl rfl (aA t1 (aI (ih (nth f.kids k) b skq (hp.2 _ (by omega)) (szq hz)) rfl (aR rfl rfl (bX (l:=((f.kids.take k).map (fun g=>nrm g b))) (f:=cF) (x:=(nrm (nth f.kids k) b)) (rVq (V.ms 653 w 0 k)) h653 (by (simp; omega)) (fU (x:=(nrm (nth f.kids k) b)) (rVq (V.sl [(rFq (nrm (nth f.kids k) b))]))) (eV _) (fC _) (by omega) (by omega) ?_)))))))
  refine aM t6 h6 (bF rfl rfl rfl h6 rfl rfl rfl rfl rfl (R_e (n12 _ _ (.done (W_t (bB t43 (rNq 1) (by omega) (aA rfl ?_)))))))
  refine R_e ?_
  refine p110 _ _ _ ?_ ⟨(k+1),(w+1),(v8+1),rfl,t1,t4,t6,t41,t42,(eTq (rNq (k+1)) (by rfl)),h2,h4,h5,(eTq (@rfl Blk (bk 1 24 3 [[(iV (nop f.op b)),(iV 0),(V.ms 653 (w+1) 0 (k+1))]])) (by rfl)),(cVq rfl),(eTq (@rfl Blk (bz (w+1) 24 3 (List.map cF ((f.kids.take k).map (fun g=>nrm g b)++[(nrm (nth f.kids k) b)])))) (by (rw [gD (by omega)]; done))),?_⟩
  · omega
  · omega
 refine aN (p310 _ _ _ (x9 _ _ (.done (W_r (aJ t6 h6 rfl rfl (bF t4 rfl rfl h4 rfl rfl rfl rfl rfl (R_e ?_)))))))
 refine aO ?_
 refine cP (bC (u:=(V.agg [(iV (nop f.op b)),(iV 0),(V.ms 653 w 0 k)])) t4 (@rfl Blk (bk 1 24 3 [[(iV (nop f.op b)),(iV 0),(V.ms 653 w 0 k)]])) (lB oB rfl rfl)) (bE (aE ?_) (aE ?_) (gL h653 (by simp) (l:=((f.kids.take k).map (fun g=>nrm g b))) rfl (by (simp; omega)) (fun _=>by simp) ?_))
 · rw [cS (by omega) (by omega)]; rfl
 · rw [cS (by omega) (by omega)]; rfl
 · rw [cS (by omega) (by omega)]; first|rfl|(show _=List.map _ f.kids; rw [show k=f.kids.length by omega,List.take_length]; done)
theorem aBN (f:Fm) (b:Bool) (hf:okF f=true) (hz:f.sz≤4096):aQ Tryz.prog 37 [(V.agg (rFq f)),(V.bool b)] (V.agg (rFq (nrm f b))):=by
  have key: ∀ (mm:Nat) (f:Fm) (b:Bool),f.sz < mm→okF f=true→f.sz≤4096→aQ Tryz.prog 37 [(V.agg (rFq f)),(V.bool b)] (V.agg (rFq (nrm f b))):=by
    intro mm
    induction mm with
    |zero=>intro f b hlt; exact absurd hlt (Nat.not_lt_zero _)
    | succ mm ih =>
      intro f b hlt hf hz
      exact rO f b hf hz fun f2 b2 hlt2=>ih f2 b2 (by omega)
  exact key (f.sz+1) f b (Nat.lt_succ_self _) hf hz
theorem qR (f:Fm):aQ Tryz.prog 11 [(V.agg (rFq f))] (V.tup [(V.agg (rFq ((bK f).1))),(iV ((bK f).2))]):=by
 refine pW Tryz.func11 aPy fun hB=>?_
 unfold s11
 dsimp only
 refine W_r (cE (i:=1) (n:=0) (m:=3) (cs:=(rFq f)) rfl (cVq rfl) rfl rfl rfl (aU (i:=2) (n:=0) (m:=3) rfl (cVq rfl) rfl (aA rfl (R_e (aB (W_r (aJ rfl rfl rfl rfl ?_)))))))
 refine aI (jR f) rfl (aA rfl (R_e (aB (W_r (aA rfl (bZ rfl rfl (R_e ?_)))))))
 refine aH rfl (fun c1=>?_) fun c1=>?_
 ·
  have d1:=aJM c1
  refine aB (W_r (aW rfl rfl (aA rfl (bF rfl rfl rfl rfl rfl rfl rfl rfl rfl (aA rfl (R_e (aL ?_)))))))
  refine eM (bC (u:=(V.agg [(iV 0),(iV 0),V.nilsl])) rfl (@rfl Blk bYq) (lB oB rfl rfl)) (bV (rVq (iV (cX f)))) (bE (aE ?_) (aE ?_) (bT ?_)) (aE ?_)
  · rw [d1]; rfl
  · rw [d1]; rfl
  · rw [d1]; rfl
  · rw [d1]
 have d1:=aEr c1
 refine aC (W_r (aJ rfl rfl rfl rfl (aI (aBN f false (fB (by omega)) (gA (by omega))) rfl (aI (sK (nrm f false) (xQ f (fB (by omega)) false) (Nat.le_trans (xO f false) (by have:=gA (f:=f) (by omega); omega))) rfl (bH rfl rfl (bH rfl rfl (bF rfl rfl rfl rfl rfl rfl rfl rfl rfl ?_)))))))
 refine aA rfl (R_e (aO ?_))
 refine eM (bC (u:=(V.agg (rFq ((chk (nrm f false)).1)))) rfl (@rfl Blk (bFq ((chk (nrm f false)).1))) (lB oB rfl rfl)) (bV (rVq (iV ((chk (nrm f false)).2)))) (bE (aE ?_) (aE ?_) (dB ?_ (fun _=>by simp))) (aE ?_)
 · rw [d1]
 · rw [d1]
 · rw [d1]
 · rw [d1]
def aT1:List SO:=[
 qM 17 1,
 qC 18 .lss 17 0,
 qM 19 18,
 ⟨some (19,false),some 20,.mv (.t 1)⟩,
 ⟨some (19,false),some 21,.bin .geq (.t 20) (.c (.int .i64 64))⟩,
 sO 22 (.pick (.t 19) (.c (.bool true)) (.t 21)),
 qM 23 22,
 ⟨some (23,false),some 24,.mv (.t 2)⟩,
 ⟨some (23,false),some 25,.bin .lss (.t 24) (.c (.int .i64 0))⟩,
 sO 26 (.pick (.t 23) (.c (.bool true)) (.t 25)),
 qM 27 26,
 ⟨some (27,false),some 28,.mv (.t 2)⟩,
 ⟨some (27,false),some 29,.bin .gtr (.t 28) (.c (.int .i64 1048576))⟩,
 sO 30 (.pick (.t 27) (.c (.bool true)) (.t 29))]
def aUz:List SO:=[
 qL 33 3 3,
 sO 34 (.call false 11 [.t 33]),
 qM 32 34,
 qE 35 32 0,
 qE 36 32 1,
 sO 9 (.alloc 24 zFq),
 sN (.store 3 (.t 9) (.t 35)),
 qM 10 36]
def aTA:List SO:=[
 qL 41 3 9,
 qM 42 1,
 qM 43 2,
 sO 44 (.call false 40 [.t 41,.t 42,.t 43]),
 sO 45 (.call false 36 [.t 44]),
 qE 46 45 0,
 qE 47 45 1,
 sN (.store 3 (.t 6) (.t 46)),
 qM 7 47]
def s13:SF:=⟨48,[.cell 6 true 3,.tmp 7],.seq (.reg [sO 3 (.box 24 3 (.t 0)),sO 6 (.alloc 24 zFq),qI 7 0]) (.seq (.seq (.reg [qL 11 3 3,sO 12 (.call false 35 [.t 11]),qM 8 12]) (.seq (.reg [qM 13 8,qC 14 .neq 13 0]) (.cond (.t 14) (.seq (.reg [sO 15 (.build zFq []),qM 16 8,sN (.store 3 (.t 6) (.t 15)),qM 7 16]) (.ret)) (.skip)))) (.seq (.seq (.reg aT1) (.cond (.t 30) (.seq (.reg [sO 31 (.build zFq []),sN (.store 3 (.t 6) (.t 31)),qI 7 2]) (.ret)) (.skip))) (.seq (.reg aUz) (.seq (.seq (.reg [qM 37 10,qC 38 .neq 37 0]) (.cond (.t 38) (.seq (.reg [sO 39 (.build zFq []),qM 40 10,sN (.store 3 (.t 6) (.t 39)),qM 7 40]) (.ret)) (.skip))) (.seq (.reg aTA) (.ret))))))⟩
theorem aRk:bJ Tryz.prog ⟨oEq,[],[],[]⟩ Tryz.f13=some s13:=by kernel_rfl
def aST:List SO:=[
 qF 33 0 7,
 ql 34 33,
 qC 35 .eql 34 2,
 qM 36 35,
 ⟨some (36,true),some 37,.fld 1 (.t 7)⟩,
 ⟨some (36,true),some 38,.load false 1 (.t 37)⟩,
 ⟨some (36,true),some 39,.mv (.t 1)⟩,
 ⟨some (36,true),some 40,.bin .neq (.t 38) (.t 39)⟩,
 sO 41 (.pick (.t 36) (.t 40) (.c (.bool false))),
 qM 42 41,
 ⟨some (42,false),some 43,.fld 0 (.t 7)⟩,
 ⟨some (42,false),some 44,.load false 1 (.t 43)⟩,
 ⟨some (42,false),some 45,.bin .eql (.t 44) (.c (.int .i64 3))⟩,
 ⟨some (42,false),some 46,.mv (.t 45)⟩,
 ⟨some (46,true),some 47,.fld 1 (.t 7)⟩,
 ⟨some (46,true),some 48,.load false 1 (.t 47)⟩,
 ⟨some (46,true),some 49,.mv (.t 2)⟩,
 ⟨some (46,true),some 50,.bin .neq (.t 48) (.t 49)⟩,
 ⟨some (42,false),some 51,.pick (.t 46) (.t 50) (.c (.bool false))⟩,
 sO 52 (.pick (.t 42) (.c (.bool true)) (.t 51)),
 sO 53 (.call false 66 [.t 52]),
 sN (.store 3 (.t 6) (.t 53))]
def aRV:List SO:=[
 qF 63 2 3,
 ql 64 63,
 sO 65 (.idx 3 (.t 64) (.c (.int .i64 1))),
 qL 66 3 65,
 qM 67 1,
 qM 68 2,
 sO 69 (.call false 40 [.t 66,.t 67,.t 68]),
 qF 70 2 3,
 ql 71 70,
 sO 72 (.idx 3 (.t 71) (.c (.int .i64 0))),
 qL 73 3 72,
 qM 74 1,
 qM 75 2,
 sO 76 (.call false 40 [.t 73,.t 74,.t 75]),
 qL 77 3 3,
 sO 78 (.bslice 24 3 false zFq 2 [(0,.t 76),(1,.t 77)]),
 sO 79 (.call false 67 [.c (.int .i64 5),.t 78]),
 sO 80 (.bslice 24 3 false zFq 2 [(0,.t 69),(1,.t 79)]),
 sO 81 (.call false 67 [.c (.int .i64 6),.t 80]),
 sN (.store 3 (.t 6) (.t 81))]
def aOX:List SO:=[
 qF 84 2 3,
 ql 85 84,
 sO 86 (.idx 3 (.t 85) (.c (.int .i64 1))),
 qL 87 3 86,
 qM 88 1,
 qM 89 2,
 sO 90 (.call false 40 [.t 87,.t 88,.t 89]),
 qF 91 2 3,
 ql 92 91,
 sO 93 (.idx 3 (.t 92) (.c (.int .i64 0))),
 qL 94 3 93,
 qM 95 1,
 qM 96 2,
 sO 97 (.call false 40 [.t 94,.t 95,.t 96]),
 qL 98 3 3,
 sO 99 (.bslice 24 3 false zFq 2 [(0,.t 97),(1,.t 98)]),
 sO 100 (.call false 67 [.c (.int .i64 6),.t 99]),
 sO 101 (.bslice 24 3 false zFq 2 [(0,.t 90),(1,.t 100)]),
 sO 102 (.call false 67 [.c (.int .i64 5),.t 101]),
 sN (.store 3 (.t 6) (.t 102))]
def aQp:List SO:=[
 qF 113 2 8,
 ql 114 113,
 qL 115 3 10,
 qM 116 1,
 qM 117 2,
 sO 118 (.call false 40 [.t 115,.t 116,.t 117]),
 sO 119 (.bslice 24 3 false zFq 1 [(0,.t 118)]),
 sO 120 (.append 24 3 40 (.t 114) (.t 119)),
 qF 121 2 8,
 sN (.store 1 (.t 121) (.t 120))]
def aNH:SC:=.seq (.reg [qP 110 .lss 109 108]) (.seq (.cond (.t 110) (.skip) (.exit 1)) (.seq (.block 2 (.seq (.reg [qA 111 3 107 109,qL 112 3 111,sO 10 (.alloc 24 zFq),sN (.store 3 (.t 10) (.t 112))]) (.reg aQp))) (.reg [qC 122 .add 109 1,qM 109 122])))
def s40:SF:=⟨124,[.cell 6 true 3],.seq (.reg [sO 3 (.box 24 3 (.t 0)),sO 6 (.alloc 24 zFq)]) (.seq (.seq (.reg [qF 11 0 3,ql 12 11]) (.block 0 (.seq (.reg [qC 14 .eql 12 2,qM 13 14]) (.cond (.t 13) (.seq (.reg [qF 15 1 3,ql 16 15,qM 17 1,qP 18 .eql 16 17,sO 19 (.call false 66 [.t 18]),sN (.store 3 (.t 6) (.t 19))]) (.ret)) (.seq (.reg [qC 21 .eql 12 3,qM 20 21]) (.cond (.t 20) (.seq (.reg [qF 22 1 3,ql 23 22,qM 24 2,qP 25 .eql 23 24,sO 26 (.call false 66 [.t 25]),sN (.store 3 (.t 6) (.t 26))]) (.ret)) (.seq (.reg [qC 28 .eql 12 4,qM 27 28]) (.cond (.t 27) (.seq (.reg [qF 29 2 3,ql 30 29,sO 31 (.idx 3 (.t 30) (.c (.int .i64 0))),qL 32 3 31,sO 7 (.alloc 24 zFq),sN (.store 3 (.t 7) (.t 32))]) (.seq (.reg aST) (.ret))) (.seq (.seq (.reg [qC 55 .eql 12 7,qM 54 55]) (.cond (.t 54) (.skip) (.reg [qC 56 .eql 12 9,qM 54 56]))) (.cond (.t 54) (.seq (.reg [qF 57 2 3,ql 58 57,sO 59 (.idx 3 (.t 58) (.c (.int .i64 0))),qL 60 3 59,sN (.store 3 (.t 6) (.t 60))]) (.ret)) (.seq (.reg [qC 62 .eql 12 8,qM 61 62]) (.cond (.t 61) (.seq (.reg aRV) (.ret)) (.seq (.reg [qC 83 .eql 12 10,qM 82 83]) (.cond (.t 82) (.seq (.reg aOX) (.ret)) (.skip))))))))))))))) (.seq (.reg [qF 103 0 3,ql 104 103,sO 105 (.build zFq [(0,1,.t 104)]),sO 8 (.alloc 24 zFq),sN (.store 3 (.t 8) (.t 105))]) (.seq (.seq (.reg [qF 106 2 3,ql 107 106,qN 108 107,qI 109 0]) (.block 1 (.loop aNH))) (.seq (.reg [qL 123 3 8,sN (.store 3 (.t 6) (.t 123))]) (.ret)))))⟩
theorem aRD:bJ Tryz.prog ⟨oEq,[],[],[]⟩ Tryz.f40=some s40:=by kernel_rfl
def s66:SF:=⟨6,[.cell 2 true 3],.seq (.reg [sO 2 (.alloc 24 zFq)]) (.seq (.seq (.reg [qM 3 0]) (.cond (.t 3) (.seq (.reg [sO 4 (.call false 89 []),sN (.store 3 (.t 2) (.t 4))]) (.ret)) (.skip))) (.seq (.reg [sO 5 (.call false 88 []),sN (.store 3 (.t 2) (.t 5))]) (.ret)))⟩
theorem aO3:bJ Tryz.prog ⟨oEq,[],[],[]⟩ Tryz.f66=some s66:=by kernel_rfl
theorem rN (b:Bool):aQ Tryz.prog 66 [(V.bool b)] (V.agg (rFq (trF b))):=by
 refine pW Tryz.func66 aO3 fun hB=>?_
 unfold s66
 dsimp only
 refine W_r (aU (i:=2) (n:=0) (m:=3) rfl (cVq rfl) rfl (R_e (aB (W_r (aA rfl (R_e ?_))))))
 refine cC rfl (fun c1=>?_) (fun c1=>?_)
 ·
  refine aB (W_r (aI uI rfl (bF rfl rfl rfl rfl rfl rfl rfl rfl rfl (R_e (aL ?_)))))
  refine cP (bC (u:=(V.agg [(iV 1),(iV 0),(V.sl (List.map cF ([])))])) rfl (@rfl Blk (bk 1 24 3 [[(iV 1),(iV 0),(V.sl (List.map cF ([])))]])) (lB oB rfl rfl)) (bE (aE ?_) (aE ?_) (dB ?_ (fun _=>by simp)))
  · cases b <;> first|rfl|(simp_all; done)
  · cases b <;> first|rfl|(simp_all; done)
  · cases b <;> first|rfl|(simp_all; done)
 refine aC (W_r (aI aDr rfl (bF rfl rfl rfl rfl rfl rfl rfl rfl rfl (R_e (aO ?_)))))
 refine cP (bC (u:=(V.agg [(iV 4),(iV 0),(V.sl (List.map cF ([Fm.nd 1 0 []])))])) rfl (@rfl Blk (bk 1 24 3 [[(iV 4),(iV 0),(V.sl (List.map cF ([Fm.nd 1 0 []])))]])) (lB oB rfl rfl)) (bE (aE ?_) (aE ?_) (dB ?_ (fun _=>by simp)))
 · cases b <;> first|rfl|(simp_all; done)
 · cases b <;> first|rfl|(simp_all; done)
 · cases b <;> first|rfl|(simp_all; done)
theorem wD (f:Fm) (a o:Int) (hok:okF f=true) (hz:f.sz≤4096) (ih: ∀ (g:Fm) (a o:Int),g.sz < f.sz→okF g=true→g.sz≤4096→aQ Tryz.prog 40 [(V.agg (rFq g)),(iV a),(iV o)] (V.agg (rFq (mst g a o)))):aQ Tryz.prog 40 [(V.agg (rFq f)),(iV a),(iV o)] (V.agg (rFq (mst f a o))):=by
 refine pW Tryz.func40 aRD fun hB=>?_
 unfold s40
 dsimp only
 have hp:=bP hok
 have hr:=dE hp.1
 have hln:=f.sz_len
 refine W_r (cE (i:=3) (n:=0) (m:=3) (cs:=(rFq f)) rfl (cVq rfl) rfl rfl rfl (aU (i:=6) (n:=0) (m:=3) rfl (cVq rfl) rfl (R_e (aB (W_r (aM rfl rfl (aJ rfl rfl rfl rfl ?_)))))))
 refine R_e (aD fun Q1 n1 x1 y1 z1=>(W_r (aY rfl rfl (aA rfl (R_e ?_)))))
 refine cD rfl (fun c2=>?_) fun c2=>?_
 ·
  refine W_r (aM rfl rfl (aJ rfl rfl rfl rfl (aA rfl (aY rfl rfl (aI (rN (decide (f.arg=a))) rfl (bF rfl rfl rfl rfl rfl rfl rfl rfl rfl (R_e ?_)))))))
  refine aO (y1 _ _ ?_)
  refine cP (bC (u:=(V.agg (rFq (trF (decide (f.arg=a)))))) rfl (@rfl Blk (bFq (trF (decide (f.arg=a))))) (lB oB rfl rfl)) (bE (aE ?_) (aE ?_) (dB ?_ (fun _=>by simp)))
  · rw [pE (f:=f) (by omega)]
  · rw [pE (f:=f) (by omega)]
  · rw [pE (f:=f) (by omega)]
 refine W_r (aY rfl rfl (aA rfl (R_e ?_)))
 refine cD rfl (fun c3=>?_) fun c3=>?_
 ·
  refine W_r (aM rfl rfl (aJ rfl rfl rfl rfl (aA rfl (aY rfl rfl (aI (rN (decide (f.arg=o))) rfl (bF rfl rfl rfl rfl rfl rfl rfl rfl rfl (R_e ?_)))))))
  refine aO (y1 _ _ ?_)
  refine cP (bC (u:=(V.agg (rFq (trF (decide (f.arg=o)))))) rfl (@rfl Blk (bFq (trF (decide (f.arg=o))))) (lB oB rfl rfl)) (bE (aE ?_) (aE ?_) (dB ?_ (fun _=>by simp)))
  · rw [oL (f:=f) (by omega)]
  · rw [oL (f:=f) (by omega)]
  · rw [oL (f:=f) (by omega)]
 refine W_r (aY rfl rfl (aA rfl (R_e ?_)))
 refine cD rfl (fun c4=>?_) fun c4=>?_
 ·
  refine W_r (aM rfl rfl (aJ rfl rfl rfl rfl (bU (i:=0) (rVq (V.sl (List.map cF f.kids))) (rNq 0) (by omega) (bN _) rfl (aG rfl rfl (aU (i:=7) (n:=0) (m:=3) rfl (cVq rfl) rfl (bF rfl rfl rfl rfl rfl rfl rfl rfl rfl (R_e ?_)))))))
  refine W_r (aM rfl rfl (aJ rfl rfl rfl rfl (aY rfl rfl (aA rfl ?_))))
  refine aV 5 (fun T H=>T 2=(iV o)∧T 6=(mPq 6)∧T 7=(mPq 7)∧T 41=(V.bool (decide ((((nth f.kids 0).op)=(2:Int))∧(((nth f.kids 0).arg)≠a))))∧H 3=(bFq f)∧H 6=bYq∧H 7=(bFq (nth f.kids 0))∧H 8=bZq∧H 10=bZq∧H 708=bZq∧True) ?_ ?_
  ·
   by_cases g5:((nth f.kids 0).op)=(2:Int)
   ·
    refine aF (edT g5 rfl) (aM rfl rfl (aF (edT g5 rfl) (aJ rfl rfl rfl rfl (aF (edT g5 rfl) (aA rfl (aF (edT g5 rfl) (bZ rfl rfl ?_)))))))
    refine aS (edT g5 rfl) rfl ?_
    exact ⟨rfl,rfl,rfl,(dH g5),rfl,rfl,rfl,rfl,rfl,rfl,trivial⟩
   ·
    refine G_n (edF g5 rfl) (G_n (edF g5 rfl) (G_n (edF g5 rfl) (G_n (edF g5 rfl) (aT (edF g5 rfl) rfl ?_))))
    exact ⟨rfl,rfl,rfl,(dG g5),rfl,rfl,rfl,rfl,rfl,rfl,trivial⟩
  intro T H ⟨t2,t6,t7,t41,h3,h6,h7,h8,h10,h708,_⟩
  refine aA t41 ?_
  refine aV 10 (fun T H=>T 6=(mPq 6)∧T 52=(V.bool (decide (((((nth f.kids 0).op)=(2:Int))∧(((nth f.kids 0).arg)≠a))∨((((nth f.kids 0).op)=(3:Int))∧(((nth f.kids 0).arg)≠o)))))∧H 3=(bFq f)∧H 6=bYq∧H 7=(bFq (nth f.kids 0))∧H 8=bZq∧H 10=bZq∧H 708=bZq∧True) ?_ ?_
  ·
   by_cases g6:(((nth f.kids 0).op)=(2:Int))∧(((nth f.kids 0).arg)≠a)
   ·
    refine G_n (edT g6 rfl) (G_n (edT g6 rfl) (G_n (edT g6 rfl) (G_n (edT g6 rfl) (eZ (rVq (V.raw undef)) (eZ (rVq (V.raw undef)) (eZ (rVq (V.raw undef)) (eZ (rVq (V.raw undef)) ?_)))))))
    refine G_n (edT g6 rfl) (aS (edT g6 rfl) rfl ?_)
    exact ⟨t6,(cQ g6),h3,h6,h7,h8,h10,h708,trivial⟩
   ·
    refine aF (edF g6 rfl) (aM t7 h7 (aF (edF g6 rfl) (aJ rfl h7 rfl rfl (aF (edF g6 rfl) (aY rfl rfl (aF (edF g6 rfl) (aA rfl ?_)))))))
    refine aV 5 (fun T H=>T 6=(mPq 6)∧T 42=(V.bool false)∧T 51=(V.bool (decide ((((nth f.kids 0).op)=(3:Int))∧(((nth f.kids 0).arg)≠o))))∧H 3=(bFq f)∧H 6=bYq∧H 7=(bFq (nth f.kids 0))∧H 8=bZq∧H 10=bZq∧H 708=bZq∧True) ?_ ?_
    ·
     by_cases g7:((nth f.kids 0).op)=(3:Int)
     ·
      refine aF (edT g7 rfl) (aM t7 h7 (aF (edT g7 rfl) (aJ rfl h7 rfl rfl (aF (edT g7 rfl) (aA t2 (aF (edT g7 rfl) (bZ rfl rfl ?_)))))))
      refine aF (edF g6 rfl) (aS (edT g7 rfl) rfl ?_)
      exact ⟨t6,(edF g6 rfl),(dH g7),h3,h6,h7,h8,h10,h708,trivial⟩
     ·
      refine G_n (edF g7 rfl) (G_n (edF g7 rfl) (G_n (edF g7 rfl) (G_n (edF g7 rfl) (aF (edF g6 rfl) (aT (edF g7 rfl) rfl ?_)))))
      exact ⟨t6,(edF g6 rfl),(dG g7),h3,h6,h7,h8,h10,h708,trivial⟩
    intro T H ⟨t6,t42,t51,h3,h6,h7,h8,h10,h708,_⟩
    refine aT t42 t51 ?_
    exact ⟨t6,(cR g6),h3,h6,h7,h8,h10,h708,trivial⟩
  intro T H ⟨t6,t52,h3,h6,h7,h8,h10,h708,_⟩
  refine aI (rN (decide (((((nth f.kids 0).op)=(2:Int))∧(((nth f.kids 0).arg)≠a))∨((((nth f.kids 0).op)=(3:Int))∧(((nth f.kids 0).arg)≠o))))) (bL t52 eB) (bF t6 rfl rfl h6 rfl rfl rfl rfl rfl (R_e (aO (y1 _ _ ?_))))
  refine cP (bC (u:=(V.agg (rFq (trF (decide (((((nth f.kids 0).op)=(2:Int))∧(((nth f.kids 0).arg)≠a))∨((((nth f.kids 0).op)=(3:Int))∧(((nth f.kids 0).arg)≠o)))))))) t6 (@rfl Blk (bFq (trF (decide (((((nth f.kids 0).op)=(2:Int))∧(((nth f.kids 0).arg)≠a))∨((((nth f.kids 0).op)=(3:Int))∧(((nth f.kids 0).arg)≠o))))))) (lB oB rfl rfl)) (bE (aE ?_) (aE ?_) (dB ?_ (fun _=>by simp)))
  · rw [oI (f:=f) (by omega)]; rfl
  · rw [oI (f:=f) (by omega)]; rfl
  · rw [oI (f:=f) (by omega)]; rfl
 refine aB (W_r (aY rfl rfl (aA rfl (R_e ?_))))
 refine aH rfl (fun c8=>?_) fun c8=>?_
 ·
  refine aC ?_
  refine cD rfl (fun c9=>?_) fun c9=>?_
  ·
   refine W_r (aM rfl rfl (aJ rfl rfl rfl rfl (bU (i:=0) (rVq (V.sl (List.map cF f.kids))) (rNq 0) (by omega) (bN _) rfl (aG rfl rfl (bF rfl rfl rfl rfl rfl rfl rfl rfl rfl (R_e (aO ?_)))))))
   refine y1 _ _ ?_
   refine cP (bC (u:=(V.agg (rFq (nth f.kids 0)))) rfl (@rfl Blk (bFq (nth f.kids 0))) (lB oB rfl rfl)) (bE (aE ?_) (aE ?_) (dB ?_ (fun _=>by simp)))
   · rw [gR (f:=f) (by omega)]
   · rw [gR (f:=f) (by omega)]
   · rw [gR (f:=f) (by omega)]
  · exact (c9 c8).elim
 refine W_r (aY rfl rfl (aA rfl (R_e ?_)))
 refine cD rfl (fun c10=>?_) fun c10=>?_
 ·
  refine W_r (aM rfl rfl (aJ rfl rfl rfl rfl (bU (i:=0) (rVq (V.sl (List.map cF f.kids))) (rNq 0) (by omega) (bN _) rfl (aG rfl rfl (bF rfl rfl rfl rfl rfl rfl rfl rfl rfl (R_e (aO ?_)))))))
  refine y1 _ _ ?_
  refine cP (bC (u:=(V.agg (rFq (nth f.kids 0)))) rfl (@rfl Blk (bFq (nth f.kids 0))) (lB oB rfl rfl)) (bE (aE ?_) (aE ?_) (dB ?_ (fun _=>by simp)))
  · rw [gR (f:=f) (by omega)]
  · rw [gR (f:=f) (by omega)]
  · rw [gR (f:=f) (by omega)]
 refine W_r (aY rfl rfl (aA rfl (R_e ?_)))
 refine cD rfl (fun c11=>?_) fun c11=>?_
 ·
  refine W_r (aM rfl rfl (aJ rfl rfl rfl rfl (bU (i:=1) (rVq (V.sl (List.map cF f.kids))) (rNq 1) (by omega) (bN _) rfl (aG rfl rfl (aA rfl (aA rfl (aI (ih (nth f.kids 1) a o skq (hp.2 _ (by omega)) (szq hz)) rfl ?_)))))))
  refine aM rfl rfl (aJ rfl rfl rfl rfl (bU (i:=0) (rVq (V.sl (List.map cF f.kids))) (rNq 0) (by omega) (bN _) rfl (aG rfl rfl (aA rfl (aA rfl (aI (ih (nth f.kids 0) a o skq (hp.2 _ (by omega)) (szq hz)) rfl (aJ rfl rfl rfl rfl ?_)))))))
  refine aR rfl rfl (aI (jG (5:Int) ([(mst (nth f.kids 0) a o),f])) (bL rfl (bL (aFX (x:=(mst (nth f.kids 0) a o)) (y:=f) rfl) eB)) (aR rfl rfl (aI (jG (6:Int) ([(mst (nth f.kids 1) a o),(Fm.nd (5:Int) (0:Int) [(mst (nth f.kids 0) a o),f])])) (bL rfl (bL (aFX (x:=(mst (nth f.kids 1) a o)) (y:=(Fm.nd (5:Int) (0:Int) [(mst (nth f.kids 0) a o),f])) rfl) eB)) (bF rfl rfl rfl rfl rfl rfl rfl rfl rfl (R_e (aO (y1 _ _ ?_)))))))
  refine cP (bC (u:=(V.agg [(iV (6:Int)),(iV 0),(V.sl (List.map cF ([(mst (nth f.kids 1) a o),(Fm.nd (5:Int) (0:Int) [(mst (nth f.kids 0) a o),f])])))])) rfl (@rfl Blk (bk 1 24 3 [[(iV (6:Int)),(iV 0),(V.sl (List.map cF ([(mst (nth f.kids 1) a o),(Fm.nd (5:Int) (0:Int) [(mst (nth f.kids 0) a o),f])])))]])) (lB oB rfl rfl)) (bE (aE ?_) (aE ?_) (dB ?_ (fun _=>by simp)))
  · rw [qS (f:=f) (by omega) (by omega)]; rfl
  · rw [qS (f:=f) (by omega) (by omega)]; rfl
  · rw [qS (f:=f) (by omega) (by omega)]; rfl
 refine W_r (aY rfl rfl (aA rfl (R_e ?_)))
 refine cD rfl (fun c12=>?_) fun c12=>?_
 ·
  refine W_r (aM rfl rfl (aJ rfl rfl rfl rfl (bU (i:=1) (rVq (V.sl (List.map cF f.kids))) (rNq 1) (by omega) (bN _) rfl (aG rfl rfl (aA rfl (aA rfl (aI (ih (nth f.kids 1) a o skq (hp.2 _ (by omega)) (szq hz)) rfl ?_)))))))
  refine aM rfl rfl (aJ rfl rfl rfl rfl (bU (i:=0) (rVq (V.sl (List.map cF f.kids))) (rNq 0) (by omega) (bN _) rfl (aG rfl rfl (aA rfl (aA rfl (aI (ih (nth f.kids 0) a o skq (hp.2 _ (by omega)) (szq hz)) rfl (aJ rfl rfl rfl rfl ?_)))))))
  refine aR rfl rfl (aI (jG (6:Int) ([(mst (nth f.kids 0) a o),f])) (bL rfl (bL (aFX (x:=(mst (nth f.kids 0) a o)) (y:=f) rfl) eB)) (aR rfl rfl (aI (jG (5:Int) ([(mst (nth f.kids 1) a o),(Fm.nd (6:Int) (0:Int) [(mst (nth f.kids 0) a o),f])])) (bL rfl (bL (aFX (x:=(mst (nth f.kids 1) a o)) (y:=(Fm.nd (6:Int) (0:Int) [(mst (nth f.kids 0) a o),f])) rfl) eB)) (bF rfl rfl rfl rfl rfl rfl rfl rfl rfl (R_e (aO (y1 _ _ ?_)))))))
  refine cP (bC (u:=(V.agg [(iV (5:Int)),(iV 0),(V.sl (List.map cF ([(mst (nth f.kids 1) a o),(Fm.nd (6:Int) (0:Int) [(mst (nth f.kids 0) a o),f])])))])) rfl (@rfl Blk (bk 1 24 3 [[(iV (5:Int)),(iV 0),(V.sl (List.map cF ([(mst (nth f.kids 1) a o),(Fm.nd (6:Int) (0:Int) [(mst (nth f.kids 0) a o),f])])))]])) (lB oB rfl rfl)) (bE (aE ?_) (aE ?_) (dB ?_ (fun _=>by simp)))
  · rw [lP (f:=f) (by omega) (by omega)]; rfl
  · rw [lP (f:=f) (by omega) (by omega)]; rfl
  · rw [lP (f:=f) (by omega) (by omega)]; rfl
 refine cM (n1 _ _ (.done (W_r (aM rfl rfl (aJ rfl rfl rfl rfl (aW rfl rfl (aU (i:=8) (n:=0) (m:=3) rfl (cVq rfl) rfl ?_)))))))
 refine bF rfl rfl rfl rfl rfl rfl rfl rfl rfl (R_e (aB ?_))
 refine dO (fun T H=>T 1=(iV a)∧T 2=(iV o)∧T 6=(mPq 6)∧T 8=(mPq 8)∧T 107=(V.sl (List.map cF f.kids))∧T 108=(iV ((f.kids.length:Nat):Int))∧T 109=(iV 0)∧H 3=(bFq f)∧H 6=bYq∧H 7=bZq∧H 8=(bk 1 24 3 [[(iV f.op),(iV 0),V.nilsl]])∧H 10=bZq∧H 708=bZq∧True) ?_ ?_
 ·
  refine aM rfl rfl (aJ rfl rfl rfl rfl (bG rfl (aA rfl ?_)))
  exact eD ⟨rfl,rfl,rfl,rfl,rfl,rfl,rfl,rfl,rfl,rfl,rfl,rfl,rfl,trivial⟩
 intro T H ⟨t1,t2,t6,t8,t107,t108,t109,h3,h6,h7,h8,h10,h708,_⟩
 refine .lazyCell 708 24 3 8 0 2 [(iV f.op),(iV 0),V.nilsl] (by decide) (by rw [h8]; rfl) (by rw [h8]; rfl) rfl (.done ?_)
 refine cJ (R:=fun T H=>T 1=(iV a)∧T 2=(iV o)∧T 6=(mPq 6)∧T 8=(mPq 8)∧T 107=(V.sl (List.map cF f.kids))∧T 108=(iV ((f.kids.length:Nat):Int))∧T 109=(iV 0)∧H 3=(bFq f)∧H 6=bYq∧H 7=bZq∧H 8=(bk 1 24 3 [[(iV f.op),(iV 0),(V.ms 708 1 0 0)]])∧H 10=bZq∧H 708=(bz 1 24 3 [])∧True) ⟨t1,t2,t6,t8,t107,t108,t109,(uTq (uTq h3)),(uTq (uTq h6)),(uTq (uTq h7)),(by rw [aK,h8,(cVq h708)]; rfl),(uTq (uTq h10)),(by rw [bD _ _ (by decide),aK,(cVq h708)]),trivial⟩ ?_
 intro T H ⟨t1,t2,t6,t8,t107,t108,t109,h3,h6,h7,h8,h10,h708,_⟩
 refine aD fun Q13 n13 x13 y13 z13=>?_
 refine bS (fun mm T H=> ∃ (k:Nat) (w:Nat) (v10:Nat),mm=f.kids.length - k∧T 1=(iV a)∧T 2=(iV o)∧T 6=(mPq 6)∧T 8=(mPq 8)∧T 107=(V.sl (List.map cF f.kids))∧T 108=(iV ((f.kids.length:Nat):Int))∧T 109=(iV ((k:Nat):Int))∧H 3=(bFq f)∧H 6=bYq∧H 7=bZq∧H 8=(bk 1 24 3 [[(iV f.op),(iV 0),(V.ms 708 w 0 k)]])∧(H 10).ver=v10∧H 708=(bz w 24 3 (List.map cF ((f.kids.take k).map (fun g=>mst g a o))))∧(k≤f.kids.length)) ?_ ?_
 ·
  refine ⟨_,0,1,0,rfl,t1,t2,t6,t8,t107,t108,(eTq t109 rfl),h3,h6,h7,h8,(cVq h10),(eTq h708 (by rfl)),?_⟩
  · omega
 intro mm T H ⟨k,w,v10,hmm,t1,t2,t6,t8,t107,t108,t109,h3,h6,h7,h8,h10,h708,hk⟩ Q14 p114 p214 p314
 unfold aNH
 refine W_r (bM t109 t108 (R_e ?_))
 refine aH rfl (fun c15=>?_) fun c15=>?_
 ·
  refine aC (aD fun Q16 n16 x16 y16 z16=>(W_r (bU (i:=k) t107 t109 (by omega) (bN _) rfl (aG rfl rfl (aU (i:=10) (n:=v10) (m:=3) rfl h10 rfl (bF rfl rfl rfl rfl rfl rfl rfl rfl rfl (R_e ?_)))))))
  refine W_t (aM t8 h8 (aJ rfl h8 rfl rfl (aJ rfl rfl rfl rfl (aA t1 (aA t2 (aI (ih (nth f.kids k) a o skq (hp.2 _ (by omega)) (szq hz)) rfl (aR rfl rfl ?_)))))))
  refine bX (l:=((f.kids.take k).map (fun g=>mst g a o))) (f:=cF) (x:=(mst (nth f.kids k) a o)) (rVq (V.ms 708 w 0 k)) h708 (by (simp; omega)) (fU (x:=(mst (nth f.kids k) a o)) (rVq (V.sl [(rFq (mst (nth f.kids k) a o))]))) (eV _) (fC _) (by omega) (by omega) (aM t8 h8 (bF rfl rfl rfl h8 rfl rfl rfl rfl rfl (R_e (n16 _ _ (.done (W_t (bB t109 (rNq 1) (by omega) ?_)))))))
  refine aA rfl (R_e ?_)
  refine p114 _ _ _ ?_ ⟨(k+1),(w+1),(v10+1),rfl,t1,t2,t6,t8,t107,t108,(eTq (rNq (k+1)) (by rfl)),h3,h6,h7,(eTq (@rfl Blk (bk 1 24 3 [[(iV f.op),(iV 0),(V.ms 708 (w+1) 0 (k+1))]])) (by rfl)),(cVq rfl),(eTq (@rfl Blk (bz (w+1) 24 3 (List.map cF ((f.kids.take k).map (fun g=>mst g a o)++[(mst (nth f.kids k) a o)])))) (by (rw [gD (by omega)]; done))),?_⟩
  · omega
  · omega
 refine aN (p314 _ _ _ (x13 _ _ (.done (W_r (aJ t8 h8 rfl rfl (bF t6 rfl rfl h6 rfl rfl rfl rfl rfl (R_e ?_)))))))
 refine aO ?_
 refine cP (bC (u:=(V.agg [(iV f.op),(iV 0),(V.ms 708 w 0 k)])) t6 (@rfl Blk (bk 1 24 3 [[(iV f.op),(iV 0),(V.ms 708 w 0 k)]])) (lB oB rfl rfl)) (bE (aE ?_) (aE ?_) (gL h708 (by simp) (l:=((f.kids.take k).map (fun g=>mst g a o))) rfl (by (simp; omega)) (fun _=>by simp) ?_))
 · rw [nT (f:=f) (by omega)]; rfl
 · rw [nT (f:=f) (by omega)]; rfl
 · rw [nT (f:=f) (by omega),show k=f.kids.length by omega,List.take_length]; rfl
theorem aEB (f:Fm) (a o:Int) (hok:okF f=true) (hz:f.sz≤4096):aQ Tryz.prog 40 [(V.agg (rFq f)),(iV a),(iV o)] (V.agg (rFq (mst f a o))):=by
  have key: ∀ (mm:Nat) (f:Fm) (a o:Int),f.sz < mm→okF f=true→f.sz≤4096→aQ Tryz.prog 40 [(V.agg (rFq f)),(iV a),(iV o)] (V.agg (rFq (mst f a o))):=by
    intro mm
    induction mm with
    |zero=>intro f a o hlt; exact absurd hlt (Nat.not_lt_zero _)
    | succ mm ih =>
      intro f a o hlt hok hz
      exact wD f a o hok hz fun f2 a2 o2 hlt2=>ih f2 a2 o2 (by omega)
  exact key (f.sz+1) f a o (Nat.lt_succ_self _) hok hz
theorem aD5 (f:Fm) (a o:Int):aQ Tryz.prog 13 [(V.agg (rFq f)),(iV a),(iV o)] (V.tup [(V.agg (rFq ((stM f a o).1))),(iV ((stM f a o).2))]):=by
 refine pW Tryz.func13 aRk fun hB=>?_
 unfold s13
 dsimp only
 refine W_r (cE (i:=3) (n:=0) (m:=3) (cs:=(rFq f)) rfl (cVq rfl) rfl rfl rfl (aU (i:=6) (n:=0) (m:=3) rfl (cVq rfl) rfl (aA rfl (R_e (aB (W_r (aJ rfl rfl rfl rfl ?_)))))))
 refine aI (jR f) rfl (aA rfl (R_e (aB (W_r (aA rfl (bZ rfl rfl (R_e ?_)))))))
 refine aH rfl (fun c1=>?_) fun c1=>?_
 ·
  have d1:=aIi (a:=a) (o:=o) c1
  refine aB (W_r (aW rfl rfl (aA rfl (bF rfl rfl rfl rfl rfl rfl rfl rfl rfl (aA rfl (R_e (aL ?_)))))))
  refine eM (bC (u:=(V.agg [(iV 0),(iV 0),V.nilsl])) rfl (@rfl Blk bYq) (lB oB rfl rfl)) (bV (rVq (iV (cX f)))) (bE (aE ?_) (aE ?_) (bT ?_)) (aE ?_)
  · rw [d1]; rfl
  · rw [d1]; rfl
  · rw [d1]; rfl
  · rw [d1]
 have d0:=c1
 refine aC (aB (W_r (aA rfl (bM rfl rfl (aA rfl ?_)))))
 refine aV 3 (fun T H=>T 1=(iV a)∧T 2=(iV o)∧T 3=(mPq 3)∧T 6=(mPq 6)∧T 22=(V.bool (decide ((a < (0:Int))∨((64:Int)≤a))))∧H 3=(bFq f)∧H 6=bYq∧H 9=bZq∧True) ?_ ?_
 ·
  by_cases g2:a < (0:Int)
  ·
   refine G_n (edT g2 rfl) (G_n (edT g2 rfl) (aS (edT g2 rfl) rfl ?_))
   exact ⟨rfl,rfl,rfl,rfl,(cQ g2),rfl,rfl,rfl,trivial⟩
  ·
   refine aF (edF g2 rfl) (aA rfl (aF (edF g2 rfl) (jN rfl rfl (aT (edF g2 rfl) rfl ?_))))
   exact ⟨rfl,rfl,rfl,rfl,(cR g2),rfl,rfl,rfl,trivial⟩
 intro T H ⟨t1,t2,t3,t6,t22,h3,h6,h9,_⟩
 refine aA t22 ?_
 refine aV 3 (fun T H=>T 1=(iV a)∧T 2=(iV o)∧T 3=(mPq 3)∧T 6=(mPq 6)∧T 26=(V.bool (decide (((a < (0:Int))∨((64:Int)≤a))∨(o < (0:Int)))))∧H 3=(bFq f)∧H 6=bYq∧H 9=bZq∧True) ?_ ?_
 ·
  by_cases g3:(a < (0:Int))∨((64:Int)≤a)
  ·
   refine G_n (edT g3 rfl) (G_n (edT g3 rfl) (aS (edT g3 rfl) rfl ?_))
   exact ⟨t1,t2,t3,t6,(cQ g3),h3,h6,h9,trivial⟩
  ·
   refine aF (edF g3 rfl) (aA t2 (aF (edF g3 rfl) (bM rfl rfl (aT (edF g3 rfl) rfl ?_))))
   exact ⟨t1,t2,t3,t6,(cR g3),h3,h6,h9,trivial⟩
 intro T H ⟨t1,t2,t3,t6,t26,h3,h6,h9,_⟩
 refine aA t26 ?_
 refine aV 3 (fun T H=>T 1=(iV a)∧T 2=(iV o)∧T 3=(mPq 3)∧T 6=(mPq 6)∧T 30=(V.bool (decide ((((a < (0:Int))∨((64:Int)≤a))∨(o < (0:Int)))∨((1048576:Int) < o))))∧H 3=(bFq f)∧H 6=bYq∧H 9=bZq∧True) ?_ ?_
 ·
  by_cases g4:((a < (0:Int))∨((64:Int)≤a))∨(o < (0:Int))
  ·
   refine G_n (edT g4 rfl) (G_n (edT g4 rfl) (aS (edT g4 rfl) rfl ?_))
   exact ⟨t1,t2,t3,t6,(cQ g4),h3,h6,h9,trivial⟩
  ·
   refine aF (edF g4 rfl) (aA t2 (aF (edF g4 rfl) (fJ rfl rfl (aT (edF g4 rfl) rfl ?_))))
   exact ⟨t1,t2,t3,t6,(cR g4),h3,h6,h9,trivial⟩
 intro T H ⟨t1,t2,t3,t6,t30,h3,h6,h9,_⟩
 refine R_e ?_
 refine aH t30 (fun c5=>?_) fun c5=>?_
 ·
  have d1:=aIS (a:=a) (o:=o) d0 (by omega)
  refine aB (W_r (aW rfl rfl (bF t6 rfl rfl h6 rfl rfl rfl rfl rfl (aA rfl (R_e (aL ?_))))))
  refine eM (bC (u:=(V.agg [(iV 0),(iV 0),V.nilsl])) t6 (@rfl Blk bYq) (lB oB rfl rfl)) (bV (rVq (iV 2))) (bE (aE ?_) (aE ?_) (bT ?_)) (aE ?_)
  · rw [d1]; rfl
  · rw [d1]; rfl
  · rw [d1]; rfl
  · rw [d1]
 have d2: ¬(a < 0∨64≤a∨o < 0∨1048576 < o):=by omega
 refine aC (W_r (aJ t3 h3 rfl rfl (aI (qR f) rfl (aA rfl (bH rfl rfl (bH rfl rfl (aU (i:=9) (n:=0) (m:=3) rfl (cVq h9) rfl ?_)))))))
 refine bF rfl rfl rfl rfl rfl rfl rfl rfl rfl (aA rfl (R_e (aB (W_r (aA rfl (bZ rfl rfl (R_e ?_)))))))
 refine aH rfl (fun c6=>?_) fun c6=>?_
 ·
  have d1:=aJk d0 d2 c6
  refine aB (W_r (aW rfl rfl (aA rfl (bF t6 rfl rfl h6 rfl rfl rfl rfl rfl (aA rfl (R_e (aL ?_)))))))
  refine eM (bC (u:=(V.agg [(iV 0),(iV 0),V.nilsl])) t6 (@rfl Blk bYq) (lB oB rfl rfl)) (bV (rVq (iV ((bK f).2)))) (bE (aE ?_) (aE ?_) (bT ?_)) (aE ?_)
  · rw [d1]; rfl
  · rw [d1]; rfl
  · rw [d1]; rfl
  · rw [d1]
 have d1:=aKu d0 d2 c6
 have v1:=rV c6
 have v2:=aF2 d0 c6
 refine aC (W_r (aJ rfl rfl rfl rfl (aA t1 (aA t2 (aI (aEB ((bK f).1) a o v2.1 (gA v1)) rfl (aI (sK (mst ((bK f).1) a o) (aD7 _ a o v2.1 v2.2).1 (aGv v2.1 (gA v1))) rfl (bH rfl rfl ?_)))))))
 refine bH rfl rfl (bF t6 rfl rfl h6 rfl rfl rfl rfl rfl (aA rfl (R_e (aO ?_))))
 refine eM (bC (u:=(V.agg (rFq ((chk (mst ((bK f).1) a o)).1)))) t6 (@rfl Blk (bFq ((chk (mst ((bK f).1) a o)).1))) (lB oB rfl rfl)) (bV (rVq (iV ((chk (mst ((bK f).1) a o)).2)))) (bE (aE ?_) (aE ?_) (dB ?_ (fun _=>by simp))) (aE ?_)
 · rw [d1]
 · rw [d1]
 · rw [d1]
 · rw [d1]
def aT0:List SO:=[
 qL 10 4 2,
 qF 11 1 2,
 ql 12 11,
 qM 13 1,
 sO 14 (.call false 57 [.t 10,.t 12,.t 13]),
 qM 9 14,
 qE 15 9 0,
 qE 16 9 1,
 qE 17 9 2,
 qM 6 15,
 qM 7 16,
 qM 8 17]
def s30:SF:=⟨20,[.tmp 4,.tmp 5],.seq (.reg [sO 2 (.box 50 4 (.t 0)),sO 4 (.mv (.c (.nilsl))),qI 5 0]) (.seq (.reg aT0) (.seq (.reg [qM 18 6,qM 19 8,qM 4 18,qM 5 19]) (.ret)))⟩
theorem aPk:bJ Tryz.prog ⟨oEq,[],[],[]⟩ Tryz.f30=some s30:=by kernel_rfl
def aUf:List SO:=[
 qM 34 12,
 qM 35 11,
 sO 36 (.nilck (.t 35)),
 qF 37 4 36,
 ql 38 37,
 qM 6 34,
 qM 7 38,
 qI 8 0]
def s57:SF:=⟨39,[.tmp 6,.tmp 7,.tmp 8],.seq (.reg [sO 3 (.box 50 4 (.t 0)),sO 6 (.mv (.c (.nilsl))),qI 7 0,qI 8 0]) (.seq (.seq (.reg [qL 13 4 3,qM 14 1,sO 15 (.call false 82 [.t 13,.t 14]),qM 9 15]) (.seq (.reg [qM 16 9,qC 17 .neq 16 0]) (.cond (.t 17) (.seq (.reg [qM 18 9,sO 6 (.mv (.c (.nilsl))),qI 7 0,qM 8 18]) (.ret)) (.skip)))) (.seq (.seq (.reg [qM 19 2,qF 20 0 3,ql 21 20,sO 22 (.call false 83 [.t 19,.t 21]),qM 10 22]) (.seq (.reg [qM 23 10,qC 24 .neq 23 0]) (.cond (.t 24) (.seq (.reg [qM 25 10,sO 6 (.mv (.c (.nilsl))),qI 7 0,qM 8 25]) (.ret)) (.skip)))) (.seq (.reg [qL 26 4 3,sO 27 (.build [.int .i64 0,.int .i64 0,.nilsl,.nilsl] [(0,4,.t 26)]),qM 28 1,sO 29 (.build [.int .i64 0,.int .i64 0,.nilsl,.nilsl,.int .i64 0] [(0,4,.t 27),(4,1,.t 28)]),sO 30 (.box 128 5 (.t 29)),qM 11 30]) (.seq (.reg [qM 31 11,qM 32 2,sO 33 (.call true 84 [.t 31,.t 32]),qM 12 33]) (.seq (.reg aUf) (.ret))))))⟩
theorem aPo:bJ Tryz.prog ⟨oEq,[],[],[]⟩ Tryz.f57=some s57:=by kernel_rfl
def aTf:List SO:=[
 qM 11 1,
 qC 12 .lss 11 0,
 qM 13 12,
 ⟨some (13,false),some 14,.mv (.t 1)⟩,
 ⟨some (13,false),some 15,.fld 2 (.t 2)⟩,
 ⟨some (13,false),some 16,.load false 1 (.t 15)⟩,
 ⟨some (13,false),some 17,.len (.t 16)⟩,
 ⟨some (13,false),some 18,.bin .geq (.t 14) (.t 17)⟩,
 sO 19 (.pick (.t 13) (.c (.bool true)) (.t 18))]
def s82:SF:=⟨20,[.tmp 4],.seq (.reg [sO 2 (.box 50 4 (.t 0)),qI 4 0]) (.seq (.seq (.reg [qL 6 4 2,sO 7 (.call false 50 [.t 6]),qM 5 7]) (.seq (.reg [qM 8 5,qC 9 .neq 8 0]) (.cond (.t 9) (.seq (.reg [qM 10 5,qM 4 10]) (.ret)) (.skip)))) (.seq (.seq (.reg aTf) (.cond (.t 19) (.seq (.reg [qI 4 2]) (.ret)) (.skip))) (.seq (.reg [qI 4 0]) (.ret))))⟩
theorem aPa:bJ Tryz.prog ⟨oEq,[],[],[]⟩ Tryz.f82=some s82:=by kernel_rfl
def aT4:List SO:=[
 qF 12 0 1,
 ql 13 12,
 qC 14 .lss 13 1,
 qM 15 14,
 ⟨some (15,false),some 16,.fld 0 (.t 1)⟩,
 ⟨some (15,false),some 17,.load false 1 (.t 16)⟩,
 ⟨some (15,false),some 18,.bin .gtr (.t 17) (.c (.int .i64 64))⟩,
 sO 19 (.pick (.t 15) (.c (.bool true)) (.t 18)),
 qM 11 19]
def aT2:List SO:=[
 qF 27 1 1,
 ql 28 27,
 qC 29 .lss 28 0,
 qM 30 29,
 ⟨some (30,false),some 31,.fld 1 (.t 1)⟩,
 ⟨some (30,false),some 32,.load false 1 (.t 31)⟩,
 ⟨some (30,false),some 33,.mv (.t 3)⟩,
 ⟨some (30,false),some 34,.bin .geq (.t 32) (.t 33)⟩,
 sO 35 (.pick (.t 30) (.c (.bool true)) (.t 34)),
 qM 26 35]
def aPF:List SO:=[
 qF 46 2 1,
 ql 47 46,
 qM 48 4,
 qA 49 1 47 48,
 ql 50 49,
 qN 51 50,
 qF 52 0 1,
 ql 53 52,
 qP 54 .neq 51 53,
 qM 55 54,
 ⟨some (55,false),some 56,.fld 3 (.t 1)⟩,
 ⟨some (55,false),some 57,.load false 1 (.t 56)⟩,
 ⟨some (55,false),some 58,.mv (.t 4)⟩,
 ⟨some (55,false),some 59,.idx 1 (.t 57) (.t 58)⟩,
 ⟨some (55,false),some 60,.load false 1 (.t 59)⟩,
 ⟨some (55,false),some 61,.len (.t 60)⟩,
 ⟨some (55,false),some 62,.fld 0 (.t 1)⟩,
 ⟨some (55,false),some 63,.load false 1 (.t 62)⟩,
 ⟨some (55,false),some 64,.bin .neq (.t 61) (.t 63)⟩,
 sO 65 (.pick (.t 55) (.c (.bool true)) (.t 64))]
def aRK:List SO:=[
 qF 71 2 1,
 ql 72 71,
 qM 73 4,
 qA 74 1 72 73,
 ql 75 74,
 qM 76 5,
 qA 77 1 75 76,
 ql 78 77,
 qF 79 3 1,
 ql 80 79,
 qM 81 4,
 qA 82 1 80 81,
 ql 83 82,
 qM 84 5,
 qA 85 1 83 84,
 ql 86 85,
 qM 6 78,
 qM 7 86]
def aQd:List SO:=[
 qM 87 6,
 qC 88 .lss 87 0,
 qM 89 88,
 ⟨some (89,false),some 90,.mv (.t 6)⟩,
 ⟨some (89,false),some 91,.mv (.t 3)⟩,
 ⟨some (89,false),some 92,.bin .geq (.t 90) (.t 91)⟩,
 sO 93 (.pick (.t 89) (.c (.bool true)) (.t 92)),
 qM 94 93,
 ⟨some (94,false),some 95,.mv (.t 7)⟩,
 ⟨some (94,false),some 96,.bin .lss (.t 95) (.c (.int .i64 0))⟩,
 sO 97 (.pick (.t 94) (.c (.bool true)) (.t 96)),
 qM 98 97,
 ⟨some (98,false),some 99,.mv (.t 7)⟩,
 ⟨some (98,false),some 100,.bin .gtr (.t 99) (.c (.int .i64 1048576))⟩,
 sO 101 (.pick (.t 98) (.c (.bool true)) (.t 100))]
def aNu:SC:=.seq (.reg [qP 69 .lss 68 67]) (.seq (.cond (.t 69) (.skip) (.exit 3)) (.seq (.block 4 (.seq (.reg [qM 70 68,qM 5 70]) (.seq (.reg aRK) (.seq (.reg aQd) (.cond (.t 101) (.seq (.reg [qI 2 2]) (.ret)) (.skip)))))) (.reg [qC 102 .add 68 1,qM 68 102])))
def aOj:SC:=.seq (.reg [qP 44 .lss 43 42]) (.seq (.cond (.t 44) (.skip) (.exit 1)) (.seq (.block 2 (.seq (.reg [qM 45 43,qM 4 45]) (.seq (.seq (.reg aPF) (.cond (.t 65) (.seq (.reg [qI 2 1]) (.ret)) (.skip))) (.seq (.reg [qF 66 0 1,ql 67 66,qI 68 0]) (.block 3 (.loop aNu)))))) (.reg [qC 103 .add 43 1,qM 43 103])))
def s50:SF:=⟨104,[.tmp 2],.seq (.reg [sO 1 (.box 50 4 (.t 0)),qI 2 0]) (.seq (.reg [qF 8 2 1,ql 9 8,qN 10 9,qM 3 10]) (.seq (.block 0 (.seq (.reg aT4) (.cond (.t 11) (.seq (.reg [qI 2 2]) (.ret)) (.seq (.reg [qM 21 3,qC 22 .eql 21 0,qM 20 22]) (.cond (.t 20) (.seq (.reg [qI 2 19]) (.ret)) (.seq (.reg [qM 24 3,qC 25 .gtr 24 128,qM 23 25]) (.cond (.t 23) (.seq (.reg [qI 2 11]) (.ret)) (.seq (.reg aT2) (.cond (.t 26) (.seq (.reg [qI 2 2]) (.ret)) (.seq (.reg [qF 37 3 1,ql 38 37,qN 39 38,qM 40 3,qP 41 .neq 39 40,qM 36 41]) (.cond (.t 36) (.seq (.reg [qI 2 1]) (.ret)) (.skip)))))))))))) (.seq (.seq (.reg [qM 42 3,qI 43 0]) (.block 1 (.loop aOj))) (.seq (.reg [qI 2 0]) (.ret)))))⟩
theorem aP7:bJ Tryz.prog ⟨oEq,[],[],[]⟩ Tryz.f50=some s50:=by kernel_rfl
end Go.Proofs.YteehaobohaecmaaGreatDoor
