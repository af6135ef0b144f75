/- Contracts of the functions that the law VA reaches, and the law itself, for every input; no condition. -/
import Derived.KernelRfl
import Derived.Test.YteehaobohaecmaaGreatDoorProg
import Derived.Test.YteehaobohaecmaaGreatDoorVA3
set_option linter.unusedSimpArgs false
set_option linter.unusedVariables false
namespace Go.Proofs.YteehaobohaecmaaGreatDoor
open Go Go.Proofs
theorem vX (f:Fm) (lv b:Int) (hb:0≤b∧b≤4096) (hl:0≤lv∧lv≤65) (ih: ∀ (g:Fm) (lv b:Int),g.sz < f.sz→0≤b∧b≤4096→0≤lv∧lv≤65→aQ Tryz.prog 55 [(V.agg (rFq g)),(iV lv),(iV b)] (V.tup [(iV ((exm g lv b).1)),(iV ((exm g lv b).2))])):aQ Tryz.prog 55 [(V.agg (rFq f)),(iV lv),(iV b)] (V.tup [(iV ((exm f lv b).1)),(iV ((exm f lv b).2))]):=by
 refine pW Tryz.func55 aQr fun hB=>?_
 unfold s55
 dsimp only
 refine W_r (cE (i:=3) (n:=0) (m:=3) (cs:=(rFq f)) rfl (cVq rfl) rfl rfl rfl (aA rfl (aA rfl (R_e (W_r (aA rfl (oO rfl rfl (by omega) (by omega) ?_)))))))
 refine aA rfl (R_e (aD fun Q1 n1 x1 y1 z1=>(W_r (aA rfl (fJ rfl rfl (aA rfl (R_e ?_)))))))
 refine cD rfl (fun c2=>?_) fun c2=>?_
 ·
  refine W_r (aA rfl (aA rfl (aA rfl (R_e (aO (y1 _ _ ?_))))))
  refine dC (rVq (iV (b+(1:Int)))) (rVq (iV 11)) (aE ?_) (aE ?_)
  · rw [kP,if_pos (by omega)]
  · rw [kP,if_pos (by omega)]
 refine W_r (aA rfl (fJ rfl rfl (aA rfl (R_e ?_))))
 refine cD rfl (fun c3=>?_) fun c3=>?_
 ·
  refine W_r (aA rfl (aA rfl (aA rfl (R_e (aO (y1 _ _ ?_))))))
  refine dC (rVq (iV (b+(1:Int)))) (rVq (iV 16)) (aE ?_) (aE ?_)
  · rw [kP,if_neg (by omega),if_pos (by omega)]
  · rw [kP,if_neg (by omega),if_pos (by omega)]
 refine W_r (aJ rfl rfl rfl rfl (aI (vM f) rfl (bZ rfl rfl (aA rfl (R_e ?_)))))
 refine cD rfl (fun c4=>?_) fun c4=>?_
 ·
  refine W_r (aA rfl (aJ rfl rfl rfl rfl (aI (vM f) rfl (aA rfl (aA rfl (R_e (aO ?_)))))))
  refine y1 _ _ ?_
  refine dC (rVq (iV (b+(1:Int)))) (rVq (iV (rgt f))) (aE ?_) (aE ?_)
  · rw [kP,if_neg (by omega),if_neg (by omega),if_pos (by omega)]
  · rw [kP,if_neg (by omega),if_neg (by omega),if_pos (by omega)]
 refine cM (n1 _ _ (.done (aB (W_r (aA rfl (R_e (aD fun Q5 n5 x5 y5 z5=>?_)))))))
 refine bS (fun mm T H=> ∃ (k:Nat) (n:Int),mm=f.kids.length - k∧T 1=(iV lv)∧T 3=(mPq 3)∧T 8=(iV n)∧T 9=(iV ((k:Nat):Int))∧H 3=(bFq f)∧(k≤f.kids.length)∧(0≤n∧n≤4096)∧(exm f lv b=jO (f.kids.drop k) (lv+1) n)) ?_ ?_
 ·
  refine ⟨_,0,b+1,rfl,rfl,rfl,(eTq (rVq (iV (b+(1:Int)))) (by rfl)),(eTq (rVq (iV 0)) rfl),rfl,?_,?_,?_⟩
  · omega
  · omega
  · rw [kP,if_neg (by omega),if_neg (by omega),if_neg (by omega)]; rfl
 intro mm T H ⟨k,n,hmm,t1,t3,t8,t9,h3,hk,hn,hc⟩ Q6 p16 p26 p36
 unfold aNI
 refine aB (W_r (aA t9 (aM t3 h3 (aJ rfl h3 rfl rfl (bG rfl (bM rfl rfl (R_e ?_)))))))
 refine aH rfl (fun c7=>?_) fun c7=>?_
 ·
  refine aC (aD fun Q8 n8 x8 y8 z8=>(W_r (aM t3 h3 (aJ rfl h3 rfl rfl (aA t9 (bU (i:=k) (rVq (V.sl (List.map cF f.kids))) (rNq k) (by omega) (bN _) rfl (aG rfl rfl ?_)))))))
  refine aA t1 (oO rfl rfl (by omega) (by omega) (aA t8 (aI (ih (nth f.kids k) (lv+(1:Int)) n skq (by omega) (by omega)) rfl (aA rfl (bH rfl rfl (bH rfl rfl (aA rfl ?_)))))))
  refine aA rfl (R_e (aB (W_r (aA rfl (bZ rfl rfl (R_e ?_))))))
  refine aH rfl (fun c9=>?_) fun c9=>?_
  ·
   have q0:=pG (nth f.kids k) (lv+1) n
   refine aB (W_r (aA rfl (aA rfl (aA rfl (aA rfl (R_e (aL ?_)))))))
   refine y8 _ _ (p26 _ _ (y5 _ _ ?_))
   refine dC (rVq (iV ((exm (nth f.kids k) (lv+(1:Int)) n).1))) (rVq (iV ((exm (nth f.kids k) (lv+(1:Int)) n).2))) (aE ?_) (aE ?_)
   · rw [hc,zM (by omega) (by omega)]
   · rw [hc,zM (by omega) (by omega)]
  have q0:=pG (nth f.kids k) (lv+1) n
  refine aC (W_t (aA rfl (aA rfl (R_e (n8 _ _ (.done (W_t ?_)))))))
  refine aA t9 (bB rfl (rNq 1) (by omega) (aA rfl (R_e ?_)))
  refine p16 _ _ _ ?_ ⟨(k+1),(exm (nth f.kids k) (lv+1) n).1,rfl,t1,t3,(eTq (rVq (iV ((exm (nth f.kids k) (lv+(1:Int)) n).1))) (by rfl)),(eTq (rNq (k+1)) (by rfl)),h3,?_,?_,?_⟩
  · omega
  · omega
  · exact ⟨by omega,q0.2 (by omega)⟩
  · rw [hc,aGq (by omega) (by omega)]
 refine aN (p36 _ _ _ (x5 _ _ (.done (W_r (aA t8 (aA rfl (aA rfl ?_)))))))
 refine R_e (aO ?_)
 refine dC (rVq (iV n)) (rVq (iV 0)) (aE ?_) (aE ?_)
 · rw [hc,zH (by omega)]
 · rw [hc,zH (by omega)]
theorem aEm (f:Fm) (lv b:Int) (hb:0≤b∧b≤4096) (hl:0≤lv∧lv≤65):aQ Tryz.prog 55 [(V.agg (rFq f)),(iV lv),(iV b)] (V.tup [(iV ((exm f lv b).1)),(iV ((exm f lv b).2))]):=by
  have key: ∀ (mm:Nat) (f:Fm) (lv b:Int),f.sz < mm→0≤b∧b≤4096→0≤lv∧lv≤65→aQ Tryz.prog 55 [(V.agg (rFq f)),(iV lv),(iV b)] (V.tup [(iV ((exm f lv b).1)),(iV ((exm f lv b).2))]):=by
    intro mm
    induction mm with
    |zero=>intro f lv b hlt; exact absurd hlt (Nat.not_lt_zero _)
    | succ mm ih =>
      intro f lv b hlt hb hl
      exact vX f lv b hb hl fun f2 lv2 b2 hlt2=>ih f2 lv2 b2 (by omega)
  exact key (f.sz+1) f lv b (Nat.lt_succ_self _) hb hl
theorem eF (f:Fm):aQ Tryz.prog 28 [(V.agg (rFq f))] (iV (cX f)):=by
 refine pW Tryz.func28 aRJ fun hB=>?_
 unfold s28
 dsimp only
 refine W_r (cE (i:=1) (n:=0) (m:=3) (cs:=(rFq f)) rfl (cVq rfl) rfl rfl rfl (aA rfl (R_e (W_r (aJ rfl rfl rfl rfl (aI (aEm f (1:Int) (0:Int) (by omega) (by omega)) rfl (aA rfl ?_)))))))
 refine bH rfl rfl (bH rfl rfl (aA rfl (aA rfl (R_e (W_r (aA rfl (aA rfl ?_)))))))
 refine R_e (aO ?_)
 refine bI (rVq (iV ((exm f (1:Int) (0:Int)).2))) (aE ?_)
 · rfl
def aTa:List SO:=[
 qL 7 3 1,
 sO 8 (.call false 64 [.t 7]),
 qM 6 8,
 qE 9 6 0,
 qE 10 6 1,
 sO 4 (.alloc 24 zFq),
 sN (.store 3 (.t 4) (.t 9)),
 qM 5 10]
def s38:SF:=⟨21,[.cell 2 true 3,.tmp 3],.seq (.reg [sO 1 (.box 24 3 (.t 0)),sO 2 (.alloc 24 zFq),qI 3 0]) (.seq (.reg aTa) (.seq (.seq (.reg [qM 11 5,sO 12 (.un .not (.t 11))]) (.cond (.t 12) (.seq (.reg [sO 13 (.build zFq []),sN (.store 3 (.t 2) (.t 13)),qI 3 11]) (.ret)) (.skip))) (.seq (.seq (.reg [qL 14 3 4,sO 15 (.call false 28 [.t 14]),qC 16 .neq 15 0]) (.cond (.t 16) (.seq (.reg [sO 17 (.build zFq []),qL 18 3 4,sO 19 (.call false 28 [.t 18]),sN (.store 3 (.t 2) (.t 17)),qM 3 19]) (.ret)) (.skip))) (.seq (.reg [qL 20 3 4,sN (.store 3 (.t 2) (.t 20)),qI 3 0]) (.ret)))))⟩
theorem aRi:bJ Tryz.prog ⟨oEq,[],[],[]⟩ Tryz.f38=some s38:=by kernel_rfl
def aSr:List SO:=[
 qL 10 3 1,
 sO 11 (.call false 92 [.t 10]),
 qM 9 11,
 qE 12 9 0,
 qE 13 9 1,
 qM 4 12,
 qM 5 13]
def aRb:List SO:=[
 qM 37 7,
 qM 38 4,
 qM 39 8,
 qA 40 1 38 39,
 ql 41 40,
 sO 42 (.call false 94 [.c (.int .i64 5),.t 41]),
 sO 43 (.call false 93 [.t 37,.t 42]),
 qM 7 43]
def aNz:SC:=.seq (.seq (.reg [qM 24 8,qM 25 4,qN 26 25,qP 27 .lss 24 26]) (.cond (.t 27) (.skip) (.exit 0))) (.seq (.block 1 (.seq (.seq (.reg [qM 30 4,qM 31 8,qA 32 1 30 31,ql 33 32,qN 34 33,qC 35 .eql 34 0]) (.cond (.t 35) (.seq (.reg [qL 36 3 6,sN (.store 3 (.t 2) (.t 36)),sO 3 (.mv (.c (.bool true)))]) (.ret)) (.skip))) (.reg aRb))) (.reg [qM 28 8,qC 29 .add 28 1,qM 8 29]))
def s64:SF:=⟨46,[.cell 2 true 3,.tmp 3],.seq (.reg [sO 1 (.box 24 3 (.t 0)),sO 2 (.alloc 24 zFq),sO 3 (.mv (.c (.bool false)))]) (.seq (.reg aSr) (.seq (.seq (.reg [qM 14 5,sO 15 (.un .not (.t 14))]) (.cond (.t 15) (.seq (.reg [sO 16 (.build zFq []),sN (.store 3 (.t 2) (.t 16)),sO 3 (.mv (.c (.bool false)))]) (.ret)) (.skip))) (.seq (.reg [sO 17 (.build zFq [(0,1,.c (.int .i64 1))]),sO 6 (.alloc 24 zFq),sN (.store 3 (.t 6) (.t 17))]) (.seq (.seq (.reg [qM 18 4,qN 19 18,qC 20 .eql 19 0]) (.cond (.t 20) (.seq (.reg [qL 21 3 6,sO 22 (.bslice 24 3 false zFq 1 [(0,.t 21)]),sO 23 (.build zFq [(0,1,.c (.int .i64 4)),(2,1,.t 22)]),sN (.store 3 (.t 2) (.t 23)),sO 3 (.mv (.c (.bool true)))]) (.ret)) (.skip))) (.seq (.reg [sO 7 (.mv (.c (.nilsl)))]) (.seq (.seq (.reg [qI 8 0]) (.block 0 (.loop aNz))) (.seq (.reg [qM 44 7,sO 45 (.call false 94 [.c (.int .i64 6),.t 44]),sN (.store 3 (.t 2) (.t 45)),sO 3 (.mv (.c (.bool true)))]) (.ret))))))))⟩
theorem aRj:bJ Tryz.prog ⟨oEq,[],[],[]⟩ Tryz.f64=some s64:=by kernel_rfl
def aTs:List SO:=[
 qL 15 3 3,
 qM 16 0,
 qM 17 7,
 qA 18 3 16 17,
 qL 19 3 18,
 sO 20 (.call false 115 [.t 15,.t 19]),
 qM 8 20]
def aO4:List SO:=[
 qM 33 5,
 qM 34 0,
 qM 35 7,
 qA 36 3 34 35,
 qL 37 3 36,
 sO 38 (.bslice 24 3 false zFq 1 [(0,.t 37)]),
 sO 39 (.append 24 3 40 (.t 33) (.t 38)),
 qM 5 39]
def aOi:SC:=.seq (.seq (.reg [qM 9 7,qM 10 0,qN 11 10,qP 12 .lss 9 11]) (.cond (.t 12) (.skip) (.exit 0))) (.seq (.block 1 (.seq (.reg aTs) (.seq (.seq (.reg [qM 21 8,qC 22 .leq 21 0,qM 23 22,⟨some (23,true),some 24,.mv (.t 6)⟩,⟨some (23,true),some 25,.un .not (.t 24)⟩,sO 26 (.pick (.t 23) (.t 25) (.c (.bool false)))]) (.cond (.t 26) (.seq (.reg [qM 27 5,qL 28 3 3,sO 29 (.bslice 24 3 false zFq 1 [(0,.t 28)]),sO 30 (.append 24 3 40 (.t 27) (.t 29)),qM 5 30]) (.reg [sO 6 (.mv (.c (.bool true)))])) (.skip))) (.seq (.reg [qM 31 8,qC 32 .neq 31 0]) (.cond (.t 32) (.reg aO4) (.skip)))))) (.reg [qM 13 7,qC 14 .add 13 1,qM 7 14]))
def s93:SF:=⟨47,[.tmp 4],.seq (.reg [sO 3 (.box 24 3 (.t 1)),sO 4 (.mv (.c (.nilsl)))]) (.seq (.reg [sO 5 (.lazy 24 3)]) (.seq (.reg [sO 6 (.mv (.c (.bool false)))]) (.seq (.seq (.reg [qI 7 0]) (.block 0 (.loop aOi))) (.seq (.seq (.reg [qM 40 6,sO 41 (.un .not (.t 40))]) (.cond (.t 41) (.reg [qM 42 5,qL 43 3 3,sO 44 (.bslice 24 3 false zFq 1 [(0,.t 43)]),sO 45 (.append 24 3 40 (.t 42) (.t 44)),qM 5 45]) (.skip))) (.seq (.reg [qM 46 5,qM 4 46]) (.ret))))))⟩
theorem aRt:bJ Tryz.prog ⟨oEq,[5],[],[]⟩ Tryz.f93=some s93:=by kernel_rfl
def aOP:List SO:=[
 qF 10 0 2,
 ql 11 10,
 qF 12 1 2,
 ql 13 12,
 qF 14 2 2,
 ql 15 14,
 qN 16 15,
 sO 17 (.build [.int .i64 0,.int .i64 0,.int .i64 0] [(0,1,.t 11),(1,1,.t 13),(2,1,.t 16)]),
 sO 5 (.alloc 179 [.int .i64 0,.int .i64 0,.int .i64 0]),
 sN (.store 3 (.t 5) (.t 17))]
def aPi:List SO:=[
 qF 18 0 3,
 ql 19 18,
 qF 20 1 3,
 ql 21 20,
 qF 22 2 3,
 ql 23 22,
 qN 24 23,
 sO 25 (.build [.int .i64 0,.int .i64 0,.int .i64 0] [(0,1,.t 19),(1,1,.t 21),(2,1,.t 24)]),
 sO 6 (.alloc 179 [.int .i64 0,.int .i64 0,.int .i64 0]),
 sN (.store 3 (.t 6) (.t 25))]
def aPq:List SO:=[
 qM 30 7,
 sO 31 (.apos 1 3 (.t 5) (.t 30)),
 ql 32 31,
 qM 33 7,
 sO 34 (.apos 1 3 (.t 6) (.t 33)),
 ql 35 34,
 qP 36 .lss 32 35]
def aOz:List SO:=[
 qM 37 7,
 sO 38 (.apos 1 3 (.t 5) (.t 37)),
 ql 39 38,
 qM 40 7,
 sO 41 (.apos 1 3 (.t 6) (.t 40)),
 ql 42 41,
 qP 43 .gtr 39 42]
def aID:SC:=.seq (.seq (.reg [qM 26 7,qC 27 .lss 26 3]) (.cond (.t 27) (.skip) (.exit 0))) (.seq (.block 1 (.seq (.seq (.reg aPq) (.cond (.t 36) (.seq (.reg [sO 4 (.mv (.c (.int .i64 (-1))))]) (.ret)) (.skip))) (.seq (.reg aOz) (.cond (.t 43) (.seq (.reg [qI 4 1]) (.ret)) (.skip))))) (.reg [qM 28 7,qC 29 .add 28 1,qM 7 29]))
def aM7:List SO:=[
 qF 51 2 2,
 ql 52 51,
 qM 53 8,
 qA 54 3 52 53,
 qL 55 3 54,
 qF 56 2 3,
 ql 57 56,
 qM 58 8,
 qA 59 3 57 58,
 qL 60 3 59,
 sO 61 (.call false 115 [.t 55,.t 60]),
 qM 9 61]
def aJr:SC:=.seq (.seq (.reg [qM 44 8,qF 45 2 2,ql 46 45,qN 47 46,qP 48 .lss 44 47]) (.cond (.t 48) (.skip) (.exit 2))) (.seq (.block 3 (.seq (.reg aM7) (.seq (.reg [qM 62 9,qC 63 .neq 62 0]) (.cond (.t 63) (.seq (.reg [qM 64 9,qM 4 64]) (.ret)) (.skip))))) (.reg [qM 49 8,qC 50 .add 49 1,qM 8 50]))
def aSX:SF:=⟨65,[.tmp 4],.seq (.reg [sO 2 (.box 24 3 (.t 0)),sO 3 (.box 24 3 (.t 1)),qI 4 0]) (.seq (.reg aOP) (.seq (.reg aPi) (.seq (.seq (.reg [qI 7 0]) (.block 0 (.loop aID))) (.seq (.seq (.reg [qI 8 0]) (.block 2 (.loop aJr))) (.seq (.reg [qI 4 0]) (.ret))))))⟩
theorem aLQ:bJ Tryz.prog ⟨oEq,[],[],[]⟩ Tryz.f115=some aSX:=by kernel_rfl
end Go.Proofs.YteehaobohaecmaaGreatDoor
namespace Go.Proofs.YteehaobohaecmaaGreatDoor
open Go
theorem aFE {f h:Fm} {k:Nat} (hk:k < 3) (he: ∀ j,j < k→nth [f.op,f.arg,(f.kids.length:Int)] j=nth [h.op,h.arg,(h.kids.length:Int)] j) (hl:nth [f.op,f.arg,(f.kids.length:Int)] k < nth [h.op,h.arg,(h.kids.length:Int)] k):bY f h= -1:=by
  have e0:0 < k→f.op=h.op:=fun q=>he 0 q
  have e1:1 < k→f.arg=h.arg:=fun q=>he 1 q
  rw [aB4]
  match k,hk with
  | 0, _ =>
    have hl':f.op < h.op:=hl
    simp [cp3,fG,hl']
  | 1, _ =>
    have hl':f.arg < h.arg:=hl
    rw [e0 (by omega)]
    simp [cp3,fG,hl']
  | 2, _ =>
    have hl':(f.kids.length:Int) < h.kids.length:=hl
    rw [e0 (by omega),e1 (by omega)]
    have:f.kids.length < h.kids.length:=by omega
    simp [cp3,fG,this]
theorem aMF {f h:Fm} {k:Nat} (hk:k < 3) (he: ∀ j,j < k→nth [f.op,f.arg,(f.kids.length:Int)] j=nth [h.op,h.arg,(h.kids.length:Int)] j) (hl:nth [h.op,h.arg,(h.kids.length:Int)] k < nth [f.op,f.arg,(f.kids.length:Int)] k):bY f h=1:=by
  have:=aFE hk (fun j hj=>(he j hj).symm) hl
  rw [jE,this]; rfl
theorem aGG {f h:Fm} {k:Nat} (hk:3≤k) (he: ∀ j,j < k→nth [f.op,f.arg,(f.kids.length:Int)] j=nth [h.op,h.arg,(h.kids.length:Int)] j):f.kids.length=h.kids.length∧bY f h=kU f.kids h.kids:=by
  have e0:f.op=h.op:=he 0 (by omega)
  have e1:f.arg=h.arg:=he 1 (by omega)
  have e2:(f.kids.length:Int)=h.kids.length:=he 2 (by omega)
  refine ⟨by omega,?_⟩
  rw [aB4,e0,e1,show f.kids.length=h.kids.length by omega]
  simp [cp3,fG]
  exact fun q=>q.symm
def rW (f:Fm):Bool→List Fm→List Fm
  |dn,[]=>if dn=true then [] else [f]
  |dn,g::l=>(if bY f g≤0∧dn=false then [f] else [])++((if bY f g≠0 then [g] else [])++rW f (dn||decide (bY f g≤0)) l)
section
variable {f:Fm} {l:List Fm} {k:Nat} {dn:Bool}
theorem wJ (h:k < l.length):rW f dn (l.drop k)=(if bY f (nth l k)≤0∧dn=false then [f] else [])++((if bY f (nth l k)≠0 then [nth l k] else [])++rW f (dn||decide (bY f (nth l k)≤0)) (l.drop (k+1))):=by
  rw [cW h,rW]
theorem aH0 (h:l.length≤k):rW f dn (l.drop k)=if dn=true then [] else [f]:=by rw [List.drop_eq_nil_of_le h,rW]
end
theorem aB1 {f:Fm}: ∀ {l:List Fm},(∀ g∈l,bY f g < 0)→rW f true l=l
  |[],_=>rfl
  | g :: l, h => by
    have hg:=h g (List.mem_cons_self ..)
    rw [rW,if_neg (by simp),if_pos (by omega),Bool.true_or,aB1 fun x hx=>h x (List.mem_cons_of_mem _ hx)]; rfl
theorem aEv {f : Fm} : ∀ {l : List Fm}, gO l → rW f false l = kK f l
  |[],_=>rfl
  | g :: l, h => by
    obtain ⟨h1,h2⟩:=List.pairwise_cons.1 h
    rw [rW,kK]
    by_cases q:bY f g < 0
    · rw [if_pos ⟨by omega,rfl⟩,if_pos (by omega),if_pos q,Bool.false_or,decide_eq_true (by omega),aB1 fun x hx=>kO q (h1 x hx)]; rfl
    · by_cases q0:bY f g=0
      · have e:=jF f g q0
        subst e
        rw [if_pos ⟨by omega,rfl⟩,if_neg (by omega),if_neg q,if_pos q0,Bool.false_or,decide_eq_true (by omega),aB1 fun x hx=>h1 x hx]; rfl
      · rw [if_neg (by omega),if_pos q0,if_neg q,if_neg q0,Bool.false_or,decide_eq_false (by omega),aEv h2]; rfl
section
variable {c d:Cl} {s:List Cl} {k:Nat}
theorem aPK (h:k < d.length) (e:(c.any fun y=>eA y (nth d k))=false):dQ c (d.drop k)=false:=by
  rw [cW h]; unfold dQ; rw [List.all_cons,e,Bool.false_and]
theorem aQY (h:k < d.length) (e:(c.any fun y=>eA y (nth d k))=true):dQ c (d.drop k)=dQ c (d.drop (k+1)):=by
  rw [cW h]; unfold dQ; rw [List.all_cons,e,Bool.true_and]
theorem aMi (h:d.length≤k):dQ c (d.drop k)=true:=by rw [List.drop_eq_nil_of_le h]; rfl
theorem aHF {p:Fm→Bool} (h:k < c.length):(c.take (k+1)).any p=((c.take k).any p||p (nth c k)):=by
  rw [cU h,List.any_append]; simp
theorem aLs (h:k < s.length) (e:dQ c (nth s k)=true):s=wth s c:=by
  unfold wth
  rw [if_pos (List.any_eq_true.2 ⟨_,dJ h,e⟩)]
theorem aLj (h: ∀ i,i < s.length→dQ c (nth s i)=false):s.filter (fun d=> !dQ d c)++[c]=wth s c:=by
  unfold wth
  rw [if_neg fun q=>by
    obtain ⟨d,hd,e⟩:=List.any_eq_true.1 q
    obtain ⟨i,hi,rfl⟩:=dY hd
    rw [h i hi] at e; cases e]
end
theorem aL1 {c d:List Fm} {j:Nat} (h:j < d.length):unF c (d.take (j+1))=kK (nth d j) (unF c (d.take j)):=by
  unfold unF; rw [cU h,List.foldl_append]; rfl
def djO : List Fm → List Cl → Option (List Cl)
  |[],out=>some out
  | f :: l, out => match cls f with
    |none=>none
    |some s=>djO l (wths out s)
theorem aFZ: ∀ (l:List Fm) (out:List Cl),djL l out=match djO l out with
    |none=>none
    |some o=>if 64 < o.length then none else some o
  |[],out=>by rw [djL,djO]
  | f :: l, out => by
    rw [djL,djO]
    cases cls f with
    |none=>rfl
    |some s=>exact aFZ l _
def rsV (f:Fm):List Cl:=if f.op=6 then cZ (djO f.kids []) else cZ (cls f)
def clB (f:Fm):Bool:=(cls f).isSome
section
variable {f:Fm} {l:List Fm} {k:Nat} {out:List Cl}
theorem aLl (h:l.length≤k):djO (l.drop k) out=some out:=by rw [List.drop_eq_nil_of_le h,djO]
theorem aRz (h:k < l.length) (e:cls (nth l k)=none):djO (l.drop k) out=none:=by rw [cW h,djO,e]
theorem aJv {s:List Cl} (h:k < l.length) (e:cls (nth l k)=some s):djO (l.drop k) out=djO (l.drop (k+1)) (wths out s):=by rw [cW h,djO,e]
theorem aRq (h:clB f=true):rsV f=cZ (cls f):=by
  unfold rsV
  by_cases q:f.op=6
  · rw [if_pos q]
    unfold clB at h
    rw [nJ q,aFZ] at h ⊢
    cases e:djO f.kids [] with
    |none=>rfl
    | some o =>
      rw [e] at h
      simp only at h ⊢
      by_cases q2:64 < o.length
      · rw [if_pos q2] at h; cases h
      · rw [if_neg q2]
  · rw [if_neg q]
theorem oM (h:clB f=true):cls f=some (rsV f):=by
  rw [aRq h]
  unfold clB at h
  cases e:cls f with
  |none=>rw [e] at h; cases h
  |some s=>rfl
theorem sA (h:clB f=false):cls f=none:=by
  unfold clB at h
  cases e:cls f with
  |none=>rfl
  |some s=>rw [e] at h; cases h
end
theorem aIL: ∀ {l:List Fm},l.Nodup→unF [] l=sF l:=fun {l} h=>
  pT (lL List.Pairwise.nil) (aE8 h) fun x=>by rw [nA,oT]; simp
theorem aAg {l:List Fm} (h:l.Nodup):(unF [] l).length=l.length:=by rw [aIL h,aD4]
def aD2 (f:Fm):Bool:=(can f).isSome
theorem wZ (f:Fm):aD2 f=clB f:=by unfold aD2 clB can; cases cls f <;> rfl
theorem aH4 {s:List Cl} (h:GdS s):(s.map clF).Nodup:=nZ h.ant.nodup h.at_.ats
end Go.Proofs.YteehaobohaecmaaGreatDoor
namespace Go.Proofs.YteehaobohaecmaaGreatDoor
theorem ld3 {ver ty k:Nat} {x y z:Int} (hk:k < 3):ldB false 1 (bk ver ty 3 [[iV x,iV y,iV z]]) ver 0 k=some (iV (nth [x,y,z] k)):=by
  refine lB oB rfl ?_
  match k,hk with
  |0,_=>rfl
  |1,_=>rfl
  |2,_=>rfl
end Go.Proofs.YteehaobohaecmaaGreatDoor
namespace Go.Proofs.YteehaobohaecmaaGreatDoor
open Go
section
variable {f:Fm} {k:Nat} {out s X:List Cl}
structure Rs5 (f:Fm) (k:Nat) (X:List Cl):Prop where
  e:cjL f.kids [[]]=if 64 < X.length then none else cjL (f.kids.drop (k+1)) X
  g: ¬64 < X.length→GdS X∧fP (Fm.szs (f.kids.take (k+1))) X
theorem yY (hok:okF f=true) (hk:k < f.kids.length) (h:clB (nth f.kids k)=true):cls (nth f.kids k)=some (rsV (nth f.kids k))∧GdS (rsV (nth f.kids k))∧fP (nth f.kids k).sz (rsV (nth f.kids k)):=
  ⟨oM h,jS _ ((bP hok).2 k hk) _ (oM h),oW _ _ (oM h)⟩
theorem aAv (hok:okF f=true) (hk:k < f.kids.length) (h0:k=0) (h:clB (nth f.kids k)=true):Rs5 f k (rsV (nth f.kids k)):=by
  subst h0
  obtain ⟨h1,h2,h3⟩:=yY hok hk h
  have hn: ¬64 < (rsV (nth f.kids 0)).length:=Nat.not_lt.2 h2.len
  refine ⟨?_,fun _=>⟨h2,?_⟩⟩
  · rw [if_neg hn]
    have:=aEj (out:=[[]]) hk h1 (by rw [aCT h2.ant]; exact hn)
    rw [aCT h2.ant] at this
    exact this
  · exact fP.mono h3 (by rw [aDb hk]; omega)
theorem aIq (hok:okF f=true) (hk:k < f.kids.length) (hG:GdS out) (hL:fP (Fm.szs (f.kids.take k)) out) (hc:cjL f.kids [[]]=cjL (f.kids.drop k) out) (h:clB (nth f.kids k)=true):Rs5 f k (prd out (rsV (nth f.kids k))):=by
  obtain ⟨h1,h2,h3⟩:=yY hok hk h
  refine ⟨?_,fun hn=>⟨aFe hG h2 hn,aFI hk hL h3⟩⟩
  by_cases q:64 < (prd out (rsV (nth f.kids k))).length
  · rw [if_pos q,hc,aB2 hk h1 q]
  · rw [if_neg q,hc,aEj hk h1 q]
theorem tI (h:Rs5 f k X) (hn: ¬64 < X.length):GdS X∧fP (Fm.szs (f.kids.take (k+1))) X∧cjL f.kids [[]]=cjL (f.kids.drop (k+1)) X:=
  ⟨(h.g hn).1,(h.g hn).2,by rw [h.e,if_neg hn]⟩
theorem aAG (hok:okF f=true) (hk:k < f.kids.length) (h0:k=0) (h:clB (nth f.kids k)=true):djO f.kids []=djO (f.kids.drop (k+1)) (rsV (nth f.kids k)):=by
  subst h0
  obtain ⟨h1,h2,_⟩:=yY hok hk h
  have:=aJv (out:=[]) hk h1
  rw [uC (s:=[]) (by exact h2.ant)] at this
  exact this
theorem aIO (hk:k < f.kids.length) (hc:djO f.kids []=djO (f.kids.drop k) out) (h:clB (nth f.kids k)=true):djO f.kids []=djO (f.kids.drop (k+1)) (wths out (rsV (nth f.kids k))):=by
  rw [hc,aJv hk (oM h)]
theorem sP (h5:f.op=5) (h:Rs5 f k X) (hl:64 < X.length):cls f=none:=by rw [nL h5,h.e,if_pos hl]
theorem aMt (h5:f.op=5) (hk:k < f.kids.length) (h0:k=0∨cjL f.kids [[]]=cjL (f.kids.drop k) out) (h:clB (nth f.kids k)=false):cls f=none:=by
  rw [nL h5]
  rcases h0 with q|q
  · subst q; exact aBj hk (sA h)
  · rw [q]; exact aBj hk (sA h)
theorem aL4 (h6:f.op=6) (hk:k < f.kids.length) (hc:djO f.kids []=djO (f.kids.drop k) out) (h:clB (nth f.kids k)=false):cls f=none∧djO f.kids []=none:=by
  have e:djO f.kids []=none:=by rw [hc]; exact aRz hk (sA h)
  refine ⟨?_,e⟩
  rw [nJ h6,aFZ,e]
theorem mN (h:cls f=none) (h2:f.op=6→djO f.kids []=none):rsV f=[]∧clB f=false:=by
  refine ⟨?_,by unfold clB; rw [h]; rfl⟩
  unfold rsV
  by_cases q:f.op=6
  · rw [if_pos q,h2 q]; rfl
  · rw [if_neg q,h]; rfl
theorem kD (h6:f.op≠6) (h:cls f=some s):rsV f=s∧clB f=true:=by
  refine ⟨?_,by unfold clB; rw [h]; rfl⟩
  unfold rsV; rw [if_neg h6,h]; rfl
theorem aLJ (h5:f.op=5) (hc:cjL f.kids [[]]=cjL (f.kids.drop k) out) (hk:f.kids.length≤k) (hG:GdS out):rsV f=out∧clB f=decide (out.length≤64):=by
  have e:cls f=some out:=by rw [nL h5,hc,aBG hk]
  obtain ⟨e1,e2⟩:=kD (by omega) e
  exact ⟨e1,by rw [e2,decide_eq_true hG.len]⟩
theorem aLc (h6:f.op=6) (hc:djO f.kids []=djO (f.kids.drop k) out) (hk:f.kids.length≤k):rsV f=out∧clB f=decide (out.length≤64):=by
  have e:djO f.kids []=some out:=by rw [hc,aLl hk]
  refine ⟨by unfold rsV; rw [if_pos h6,e]; rfl,?_⟩
  unfold clB
  rw [nJ h6,aFZ,e]
  simp only
  by_cases q:64 < out.length
  · rw [if_pos q,decide_eq_false (by omega)]; rfl
  · rw [if_neg q,decide_eq_true (by omega)]; rfl
end
def jnd (o:Int) (l:List Fm):Fm:=if l.length=1 then nth l 0 else .nd o 0 l
theorem aGt {o:Int} {l:List Fm} (h:l.length=1):jnd o l=nth l 0:=if_pos h
theorem aGc {o:Int} {l:List Fm} (h:l.length≠1):jnd o l=.nd o 0 l:=if_neg h
theorem aTE {s:List Cl} (h:GdS s) (hn: ∀ i,i < s.length→(nth s i).length≠0) (h0:s.length≠0):fin s=jnd 6 (unF [] (s.map clF)):=by
  have hd:=aH4 h
  have hl:(unF [] (s.map clF)).length=s.length:=by rw [aAg hd,List.length_map]
  by_cases h1:s.length=1
  · rw [aGt (by omega),aND hn h1]
    match s,h1 with
    |[c],_=>rfl
  · rw [aGc (by omega),aNL hn h0 h1,aIL hd]
theorem aJn {s:List Cl} {k:Nat} (h:k < s.length):unF [] ((s.take (k+1)).map clF)=kK (clF (nth s k)) (unF [] ((s.take k).map clF)):=by
  rw [gD h]; unfold unF; rw [List.foldl_append]; rfl
theorem aPB {f:Fm} (hok:okF f=true) (hn:nnf f=true) (h4:f.op=4) (h1:(nth f.kids 0).op=1) (a o:Int):f=mst f a o:=by
  have hr:=dE (bP hok).1
  have hk:okF (nth f.kids 0)=true:=(bP hok).2 0 (by omega)
  have hr2:=dE (bP hk).1
  rw [oI h4]
  have e:ntB (nth f.kids 0) a o=false:=by unfold ntB; exact decide_eq_false (by omega)
  rw [e]
  have a0:f.arg=0:=hr.2.2.2.2.2.2.1 (by omega)
  have kl:f.kids.length=1:=by omega
  have b0:(nth f.kids 0).arg=0:=hr2.2.2.2.2.2.2.1 (by omega)
  have bk:(nth f.kids 0).kids=[]:=List.length_eq_zero_iff.1 (hr2.2.2.1 (.inl h1))
  have eta: ∀ g:Fm,g=.nd g.op g.arg g.kids:=fun g=>by cases g; rfl
  have eg:nth f.kids 0=.nd 1 0 []:=by rw [eta (nth f.kids 0),h1,b0,bk]
  have one: ∀ l:List Fm,l.length=1→l=[nth l 0]:=fun l h=>by
    match l,h with
    |[g],_=>rfl
  have ek:f.kids=[.nd 1 0 []]:=(one _ kl).trans (congrArg (fun g=>[g]) eg)
  exact (eta f).trans (by rw [h4,a0,ek]; rfl)
end Go.Proofs.YteehaobohaecmaaGreatDoor
namespace Go.Proofs.YteehaobohaecmaaGreatDoor
section
variable {f:Fm} {k:Nat} {out s:List Cl}
theorem aJP (ho:f.op=5∨f.op=6) (hk:k < f.kids.length) (h5:f.op=5→0 < k→GdS out∧fP (Fm.szs (f.kids.take k)) out∧cjL f.kids [[]]=cjL (f.kids.drop k) out) (h6:f.op=6→djO f.kids []=djO (f.kids.drop k) out) (h:clB (nth f.kids k)=false):rsV f=[]∧clB f=false:=by
  rcases ho with q|q
  · refine mN (aMt (out:=out) q hk ?_ h) fun e=>absurd e (by omega)
    by_cases k0:k=0
    · exact .inl k0
    · exact .inr (h5 q (by omega)).2.2
  · obtain ⟨e1,e2⟩:=aL4 q hk (h6 q) h
    exact mN e1 fun _=>e2
theorem aIn (hr:1≤f.op∧f.op≤10∧((f.op=1∨f.op=2∨f.op=3)→f.kids.length=0)∧((f.op=4∨f.op=7∨f.op=9)→f.kids.length=1)∧((f.op=5∨f.op=6)→2≤f.kids.length)∧
    ((f.op=8∨f.op=10)→f.kids.length=2)∧(¬(f.op=2∨f.op=3)→f.arg=0)∧(f.op=2→0≤f.arg∧f.arg < 64)∧(f.op=3→0≤f.arg∧f.arg≤1048576)) (ho:f.op=5∨f.op=6) (h5:f.op=5→0 < k→GdS out∧fP (Fm.szs (f.kids.take k)) out∧cjL f.kids [[]]=cjL (f.kids.drop k) out) (h6:f.op=6→djO f.kids []=djO (f.kids.drop k) out) (hk:f.kids.length≤k):rsV f=out∧clB f=decide (out.length≤64):=by
  rcases ho with q|q
  · obtain ⟨g1,_,g3⟩:=h5 q (by have:=hr.2.2.2.2.1 (.inl q); omega)
    exact aLJ q g3 hk g1
  · exact aLc q (h6 q) hk
theorem aGV {a b:List Cl} (ha:a.length≤64) (hb:b.length≤64):(prd a b).length≤4096:=by
  have h:=rS b a []
  have h2:a.length*b.length≤64*64:=Nat.mul_le_mul ha hb
  show (yW [] a b).length≤4096
  simp only [List.length_nil,Nat.zero_add] at h
  omega
theorem aEo {g:Fm} (h:aD2 g=false):gU (can g)≠0:=by
  unfold aD2 at h
  cases q:can g with
  |none=>exact (show (11:Int)≠0 by decide)
  |some x=>rw [q] at h; cases h
theorem aGK {g:Fm} (h:aD2 g=true): ¬gU (can g)≠0:=by
  unfold aD2 at h
  cases q:can g with
  |none=>rw [q] at h; cases h
  |some x=>exact fun e=>e rfl
end
end Go.Proofs.YteehaobohaecmaaGreatDoor
namespace Go.Proofs.YteehaobohaecmaaGreatDoor
theorem aQW {f:Fm} {k:Nat} {g:List Fm} (hr:1≤f.op∧f.op≤10∧((f.op=1∨f.op=2∨f.op=3)→f.kids.length=0)∧((f.op=4∨f.op=7∨f.op=9)→f.kids.length=1)∧((f.op=5∨f.op=6)→2≤f.kids.length)∧
    ((f.op=8∨f.op=10)→f.kids.length=2)∧(¬(f.op=2∨f.op=3)→f.arg=0)∧(f.op=2→0≤f.arg∧f.arg < 64)∧(f.op=3→0≤f.arg∧f.arg≤1048576)) (hn: ¬(f.op=1∨f.op=4∨f.op=5∨f.op=6)) (hg:g.length=k) (hk:k≤f.kids.length)
    (hc:fA f.kids=(fA (f.kids.drop k)).map fun r=>g++r) (hk2:f.kids.length≤k):rsV f=[[.nd f.op f.arg g]]∧clB f=true:=by
  by_cases h2:f.op=2∨f.op=3
  · have k0:f.kids=[]:=List.length_eq_zero_iff.1 (hr.2.2.1 (.inr h2))
    have g0:g=[]:=List.length_eq_zero_iff.1 (by rw [k0] at hk; simp at hk; omega)
    obtain ⟨e1,e2⟩:=kD (f:=f) (by omega) (lN h2)
    refine ⟨?_,e2⟩
    rw [e1,g0]
    cases f
    simp only [Fm.kids] at k0
    subst k0; rfl
  · obtain ⟨e1,e2⟩:=kD (f:=f) (by omega) (aAb (by omega) hc hk2)
    refine ⟨?_,e2⟩
    rw [e1,hr.2.2.2.2.2.2.1 h2]
end Go.Proofs.YteehaobohaecmaaGreatDoor
namespace Go.Proofs.YteehaobohaecmaaGreatDoor
theorem aIZ {f:Fm} (hok:okF f=true) (hn:nnf f=true) (h4:f.op=4) (h1: ¬(nth f.kids 0).op=1) (a o:Int):decide ((mst (nth f.kids 0) a o).op≠1)=ntB (nth f.kids 0) a o:=by
  have hr:=dE (bP hok).1
  have hr2:=dE (bP ((bP hok).2 0 (by omega))).1
  have h3:=(eC hn (k:=0) (by omega)).2 h4
  have tr: ∀ b:Bool,decide ((trF b).op≠1)= !b:=fun b=>by cases b <;> rfl
  unfold ntB
  rcases (show (nth f.kids 0).op=2∨(nth f.kids 0).op=3 by omega) with q|q
  · rw [pE q,tr,← decide_not]
    exact decide_eq_decide.2 (by omega)
  · rw [oL q,tr,← decide_not]
    exact decide_eq_decide.2 (by omega)
end Go.Proofs.YteehaobohaecmaaGreatDoor
namespace Go.Proofs.YteehaobohaecmaaGreatDoor
theorem aNA {x y z:Fm} {p:Int}:V.sl [[iV x.op,iV x.arg,.sl (x.kids.map cF)],[iV p,iV 0,.sl [[iV y.op,iV y.arg,.sl (y.kids.map cF)],[iV z.op,iV z.arg,.sl (z.kids.map cF)]]]]=.sl (List.map cF [x,.nd p 0 [y,z]]):=by
  show _=V.sl [cF x,cF (.nd p 0 [y,z])]
  rw [bN x,show cF (.nd p 0 [y,z])=[iV p,iV 0,.sl [cF y,cF z]] from bN _,bN y,bN z]
end Go.Proofs.YteehaobohaecmaaGreatDoor
namespace Go.Proofs.YteehaobohaecmaaGreatDoor
end Go.Proofs.YteehaobohaecmaaGreatDoor
namespace Go.Proofs.YteehaobohaecmaaGreatDoor
open Go Go.Proofs
theorem zS (f h:Fm) (ih: ∀ (g h:Fm),g.sz < f.sz→aQ Tryz.prog 115 [(V.agg (rFq g)),(V.agg (rFq h))] (iV (bY g h))):aQ Tryz.prog 115 [(V.agg (rFq f)),(V.agg (rFq h))] (iV (bY f h)):=by
 refine pW Tryz.func115 aLQ fun hB=>?_
 unfold aSX
 dsimp only
 refine W_r (cE (i:=2) (n:=0) (m:=3) (cs:=(rFq f)) rfl (cVq rfl) rfl rfl rfl (cE (i:=3) (n:=0) (m:=3) (cs:=(rFq h)) rfl (cVq rfl) rfl rfl rfl (aA rfl (R_e (W_r (aM rfl rfl (aJ rfl rfl rfl rfl ?_)))))))
 refine aM rfl rfl (aJ rfl rfl rfl rfl (aM rfl rfl (aJ rfl rfl rfl rfl (bG rfl (aW rfl rfl (aU (i:=5) (n:=0) (m:=3) rfl (cVq rfl) rfl (bF rfl rfl rfl rfl rfl rfl rfl rfl rfl ?_)))))))
 refine R_e (W_r (aM rfl rfl (aJ rfl rfl rfl rfl (aM rfl rfl (aJ rfl rfl rfl rfl (aM rfl rfl (aJ rfl rfl rfl rfl ?_)))))))
 refine bG rfl (aW rfl rfl (aU (i:=6) (n:=0) (m:=3) rfl (cVq rfl) rfl (bF rfl rfl rfl rfl rfl rfl rfl rfl rfl (R_e (aB (W_r (aA rfl ?_)))))))
 refine R_e (aD fun Q1 n1 x1 y1 z1=>?_)
 refine bS (fun mm T H=> ∃ (k:Nat),mm=3 - k∧T 2=(mPq 2)∧T 3=(mPq 3)∧T 5=(mPq 5)∧T 6=(mPq 6)∧T 7=(iV ((k:Nat):Int))∧H 2=(bFq f)∧H 3=(bFq h)∧H 5=(bk 1 179 3 [[(iV f.op),(iV f.arg),(iV ((f.kids.length:Nat):Int))]])∧H 6=(bk 1 179 3 [[(iV h.op),(iV h.arg),(iV ((h.kids.length:Nat):Int))]])∧(k≤3)∧(∀ j,j < k→nth [f.op,f.arg,(f.kids.length:Int)] j=nth [h.op,h.arg,(h.kids.length:Int)] j)) ?_ ?_
 ·
  refine ⟨_,0,rfl,rfl,rfl,rfl,rfl,(eTq (rVq (iV 0)) rfl),rfl,rfl,rfl,rfl,?_,?_⟩
  · omega
  · intro j hj; omega
 intro mm T H ⟨k,hmm,t2,t3,t5,t6,t7,h2,h3,h5,h6,hk,he⟩ Q2 p12 p22 p32
 unfold aID
 refine aB (W_r (aA t7 (bM rfl rfl (R_e ?_))))
 refine aH rfl (fun c3=>?_) fun c3=>?_
 ·
  refine aC (aD fun Q4 n4 x4 y4 z4=>(aB (W_r (aA t7 (pL (i:=k) (o':=k) t5 (rNq k) h5 oB (by omega) (by omega) (cN (v:=(iV (nth [f.op,f.arg,(f.kids.length:Int)] k))) rfl h5 (ld3 (by omega)) (aA t7 ?_)))))))
  refine pL (i:=k) (o':=k) t6 (rNq k) h6 oB (by omega) (by omega) (cN (v:=(iV (nth [h.op,h.arg,(h.kids.length:Int)] k))) rfl h6 (ld3 (by omega)) (bM rfl rfl (R_e ?_)))
  refine aH rfl (fun c5=>?_) fun c5=>?_
  ·
   refine aB (W_r (aA rfl (R_e (aL (y4 _ _ (p22 _ _ (y1 _ _ ?_)))))))
   refine bI (rVq (iV (-1))) (aE ?_)
   · exact (aFE (by omega) he (by assumption)).symm
  refine aC (W_r (aA t7 (pL (i:=k) (o':=k) t5 (rNq k) h5 oB (by omega) (by omega) (cN (v:=(iV (nth [f.op,f.arg,(f.kids.length:Int)] k))) rfl h5 (ld3 (by omega)) (aA t7 (pL (i:=k) (o':=k) t6 (rNq k) h6 oB (by omega) (by omega) (cN (v:=(iV (nth [h.op,h.arg,(h.kids.length:Int)] k))) rfl h6 (ld3 (by omega)) ?_)))))))
  refine fJ rfl rfl (R_e ?_)
  refine cD rfl (fun c6=>?_) fun c6=>?_
  ·
   refine W_r (aA rfl (R_e (aO (y4 _ _ (p22 _ _ (y1 _ _ ?_))))))
   refine bI (rVq (iV 1)) (aE ?_)
   · exact (aMF (by omega) he (by assumption)).symm
  refine cM (n4 _ _ (.done (W_t (aA t7 (bB rfl (rNq 1) (by omega) (aA rfl (R_e ?_)))))))
  refine p12 _ _ _ ?_ ⟨(k+1),rfl,t2,t3,t5,t6,(eTq (rNq (k+1)) (by rfl)),h2,h3,h5,h6,?_,?_⟩
  · omega
  · omega
  · intro j hj
    by_cases e:j=k
    · subst e; omega
    · exact he j (by omega)
 refine aN (p32 _ _ _ (x1 _ _ (.done (aB (W_r (aA rfl (R_e ?_)))))))
 refine aD fun Q7 n7 x7 y7 z7=>?_
 refine bS (fun mm T H=> ∃ (k:Nat),mm=f.kids.length - k∧T 2=(mPq 2)∧T 3=(mPq 3)∧T 8=(iV ((k:Nat):Int))∧H 2=(bFq f)∧H 3=(bFq h)∧H 5=(bk 1 179 3 [[(iV f.op),(iV f.arg),(iV ((f.kids.length:Nat):Int))]])∧H 6=(bk 1 179 3 [[(iV h.op),(iV h.arg),(iV ((h.kids.length:Nat):Int))]])∧(f.kids.length=h.kids.length)∧(bY f h=kU (f.kids.drop k) (h.kids.drop k))) ?_ ?_
 ·
  refine ⟨_,0,rfl,t2,t3,(eTq (rVq (iV 0)) rfl),h2,h3,h5,h6,?_,?_⟩
  · exact (aGG (by omega) he).1
  · exact (aGG (by omega) he).2
 intro mm T H ⟨k,hmm,t2,t3,t8,h2,h3,h5,h6,hl,hc⟩ Q8 p18 p28 p38
 unfold aJr
 refine aB (W_r (aA t8 (aM t2 h2 (aJ rfl h2 rfl rfl (bG rfl (bM rfl rfl (R_e ?_)))))))
 refine aH rfl (fun c9=>?_) fun c9=>?_
 ·
  refine aC (aD fun Q10 n10 x10 y10 z10=>(W_r (aM t2 h2 (aJ rfl h2 rfl rfl (aA t8 (bU (i:=k) (rVq (V.sl (List.map cF f.kids))) (rNq k) (by omega) (bN _) rfl (aG rfl rfl ?_)))))))
  refine aM t3 h3 (aJ rfl h3 rfl rfl (aA t8 (bU (i:=k) (rVq (V.sl (List.map cF h.kids))) (rNq k) (by omega) (bN _) rfl (aG rfl rfl (aI (ih (nth f.kids k) (nth h.kids k) skq) rfl (aA rfl (R_e ?_)))))))
  refine W_r (aA rfl (bZ rfl rfl (R_e ?_)))
  refine cD rfl (fun c11=>?_) fun c11=>?_
  ·
   have d1:bY (nth f.kids k) (nth h.kids k)≠0:=c11
   refine W_r (aA rfl (aA rfl (R_e (aO (y10 _ _ (p28 _ _ (y7 _ _ ?_)))))))
   refine bI (rVq (iV (bY (nth f.kids k) (nth h.kids k)))) (aE ?_)
   · rw [hc,aDZ (by omega) (by omega) d1]
  have d1: ¬bY (nth f.kids k) (nth h.kids k)≠0:=c11
  refine cM (n10 _ _ (.done (W_t (aA t8 (bB rfl (rNq 1) (by omega) (aA rfl (R_e ?_)))))))
  refine p18 _ _ _ ?_ ⟨(k+1),rfl,t2,t3,(eTq (rNq (k+1)) (by rfl)),h2,h3,h5,h6,?_,?_⟩
  · omega
  · omega
  · rw [hc,aFL (by omega) (by omega) d1]
 refine aN (p38 _ _ _ (x7 _ _ (.done (W_r (aA rfl (R_e (aO ?_)))))))
 refine bI (rVq (iV 0)) (aE ?_)
 · rw [hc,aDY (by omega)]
theorem aHb (f h:Fm):aQ Tryz.prog 115 [(V.agg (rFq f)),(V.agg (rFq h))] (iV (bY f h)):=by
  have key: ∀ (mm:Nat) (f h:Fm),f.sz < mm→aQ Tryz.prog 115 [(V.agg (rFq f)),(V.agg (rFq h))] (iV (bY f h)):=by
    intro mm
    induction mm with
    |zero=>intro f h hlt; exact absurd hlt (Nat.not_lt_zero _)
    | succ mm ih =>
      intro f h hlt
      exact zS f h fun f2 h2 hlt2=>ih f2 h2 (by omega)
  exact key (f.sz+1) f h (Nat.lt_succ_self _)
theorem zG (l:List Fm) (f:Fm) (hs:gO l) (hl:l.length≤4294967296):aQ Tryz.prog 93 [(V.sl (List.map cF l)),(V.agg (rFq f))] (V.sl (List.map cF (kK f l))):=by
 refine pW Tryz.func93 aRt fun hB=>?_
 unfold s93
 dsimp only
 refine W_r (cE (i:=3) (n:=0) (m:=3) (cs:=(rFq f)) rfl (cVq rfl) rfl rfl rfl (aA rfl (R_e (W_r (jV (i:=5) (n:=0) rfl (cVq rfl) (R_e (W_r ?_)))))))
 refine aA rfl (R_e (aB (W_r (aA rfl (R_e (aD fun Q1 n1 x1 y1 z1=>?_))))))
 refine bS (fun mm T H=> ∃ (k:Nat) (out:List Fm) (dn:Bool) (v:Nat),mm=l.length - k∧T 0=(V.sl (List.map cF l))∧T 3=(mPq 3)∧T 5=(V.ms 5 v 0 out.length)∧T 6=(V.bool dn)∧T 7=(iV ((k:Nat):Int))∧H 3=(bFq f)∧H 5=(bz v 24 3 (List.map cF out))∧(k≤l.length)∧(out.length≤2*k)∧(rW f false l=out++rW f dn (l.drop k))) ?_ ?_
 ·
  refine ⟨_,0,[],false,1,rfl,rfl,rfl,(eTq (rVq (V.ms 5 1 0 0)) (by rfl)),rfl,(eTq (rVq (iV 0)) rfl),rfl,(eTq (@rfl Blk (bz 1 24 3 [])) (by rfl)),?_,?_,?_⟩
  · omega
  · exact Nat.zero_le _
  · rfl
 intro mm T H ⟨k,out,dn,v,hmm,t0,t3,t5,t6,t7,h3,h5,hk,hn,hc⟩ Q2 p12 p22 p32
 unfold aOi
 refine aB (W_r (aA t7 (aA t0 (bG rfl (bM rfl rfl (R_e ?_))))))
 refine aH rfl (fun c3=>?_) fun c3=>?_
 ·
  refine aC (aD fun Q4 n4 x4 y4 z4=>(W_r (aJ t3 h3 rfl rfl (aA t0 (aA t7 (bU (i:=k) (rVq (V.sl (List.map cF l))) (rNq k) (by omega) (bN _) rfl (aG rfl rfl ?_)))))))
  refine aI (aHb f (nth l k)) rfl (aA rfl (R_e (aB (W_r (aA rfl (qO rfl rfl (aA rfl ?_)))))))
  refine aV 3 (fun T H=>T 0=(V.sl (List.map cF l))∧T 3=(mPq 3)∧T 5=(V.ms 5 v 0 out.length)∧T 6=(V.bool dn)∧T 7=(iV ((k:Nat):Int))∧T 8=(iV (bY f (nth l k)))∧T 26=(V.bool (decide ((bY f (nth l k))≤(0:Int))&&(!dn)))∧H 3=(bFq f)∧H 5=(bz v 24 3 (List.map cF out))∧True) ?_ ?_
  ·
   by_cases g5:(bY f (nth l k))≤(0:Int)
   ·
    refine aF (edT g5 rfl) (aA t6 (aF (edT g5 rfl) (eN rfl (aS (edT g5 rfl) rfl ?_))))
    exact ⟨t0,t3,t5,t6,t7,rfl,(tW g5),h3,h5,trivial⟩
   ·
    refine G_n (edF g5 rfl) (G_n (edF g5 rfl) (aT (edF g5 rfl) rfl ?_))
    exact ⟨t0,t3,t5,t6,t7,rfl,(uP g5),h3,h5,trivial⟩
  intro T H ⟨t0,t3,t5,t6,t7,t8,t26,h3,h5,_⟩
  refine R_e ?_
  refine cC t26 (fun c6=>?_) (fun c6=>?_)
  ·
   have q:=c6
   rw [Bool.and_eq_true,decide_eq_true_eq] at q
   have d1:=q.1
   have d2:dn=false:=by simpa using q.2
   refine aB (W_r (aA t5 (aJ t3 h3 rfl rfl (aR rfl rfl (bX (l:=out) (f:=cF) (x:=f) (rVq (V.ms 5 v 0 out.length)) h5 (by rfl) (fU (x:=f) (rVq (V.sl [(rFq f)]))) (eV _) (fC _) (by omega) (by omega) (aA rfl (R_e ?_)))))))
   refine W_r (aA rfl (R_e (W_r (aA t8 (bZ rfl rfl (R_e ?_))))))
   refine cD rfl (fun c7=>?_) fun c7=>?_
   ·
    have d3:bY f (nth l k)≠0:=c7
    refine W_t (aA rfl (aA t0 (aA t7 (bU (i:=k) (rVq (V.sl (List.map cF l))) (rNq k) (by omega) (bN _) rfl (aG rfl rfl (aR rfl rfl (bX (l:=(out++[f])) (f:=cF) (x:=(nth l k)) (rVq (V.ms 5 (v+1) 0 (out.length+1))) (@rfl Blk (bz (v+1) 24 3 (List.map cF (out++[f])))) (by simp) (fU (x:=(nth l k)) (rVq (V.sl [(rFq (nth l k))]))) (eV _) (fC _) (by omega) (by omega) ?_)))))))
    refine aA rfl (R_e (n4 _ _ (.done (W_t (aA t7 (bB rfl (rNq 1) (by omega) (aA rfl ?_)))))))
    refine R_e ?_
    refine p12 _ _ _ ?_ ⟨(k+1),(out++[f]++[(nth l k)]),true,(v+2),rfl,t0,t3,(eTq (rVq (V.ms 5 (v+2) 0 (out.length+2))) (by simp)),rfl,(eTq (rNq (k+1)) (by rfl)),h3,(eTq (@rfl Blk (bz (v+2) 24 3 (List.map cF (out++[f]++[(nth l k)])))) (by rfl)),?_,?_,?_⟩
    · omega
    · omega
    · first|omega|(simp only [List.length_append,List.length_cons,List.length_nil]; omega)
    · rw [hc,wJ (by omega)]; first|(rw [if_pos ⟨d1,d2⟩,if_pos d3]; simp [d1]; done)|(rw [if_pos ⟨d1,d2⟩,if_neg d3]; simp [d1]; done)|(rw [if_neg d1,if_pos d3]; simp [d4]; done)|(rw [if_neg d1,if_neg d3]; simp [d4]; done)
   have d3: ¬bY f (nth l k)≠0:=c7
   refine cM (n4 _ _ (.done (W_t (aA t7 (bB rfl (rNq 1) (by omega) (aA rfl (R_e ?_)))))))
   refine p12 _ _ _ ?_ ⟨(k+1),(out++[f]),true,(v+1),rfl,t0,t3,(eTq (rVq (V.ms 5 (v+1) 0 (out.length+1))) (by simp)),rfl,(eTq (rNq (k+1)) (by rfl)),h3,(eTq (@rfl Blk (bz (v+1) 24 3 (List.map cF (out++[f])))) (by rfl)),?_,?_,?_⟩
   · omega
   · omega
   · first|omega|(simp only [List.length_append,List.length_cons,List.length_nil]; omega)
   · rw [hc,wJ (by omega)]; first|(rw [if_pos ⟨d1,d2⟩,if_pos d3]; simp [d1]; done)|(rw [if_pos ⟨d1,d2⟩,if_neg d3]; simp [d1]; done)|(rw [if_neg d1,if_pos d3]; simp [d4]; done)|(rw [if_neg d1,if_neg d3]; simp [d4]; done)
  have d1: ¬(bY f (nth l k)≤0∧dn=false):=fun q=>by have c:=c6; rw [decide_eq_true q.1,q.2] at c; cases c
  have d4:(dn||decide (bY f (nth l k)≤0))=dn:=by cases q:dn with
    |true=>rfl
    |false=>rw [decide_eq_false fun e=>d1 ⟨e,q⟩]; rfl
  refine aC (W_r (aA t8 (bZ rfl rfl (R_e ?_))))
  refine cD rfl (fun c8=>?_) fun c8=>?_
  ·
   have d3:bY f (nth l k)≠0:=c8
   refine W_t (aA t5 (aA t0 (aA t7 (bU (i:=k) (rVq (V.sl (List.map cF l))) (rNq k) (by omega) (bN _) rfl (aG rfl rfl (aR rfl rfl (bX (l:=out) (f:=cF) (x:=(nth l k)) (rVq (V.ms 5 v 0 out.length)) h5 (by rfl) (fU (x:=(nth l k)) (rVq (V.sl [(rFq (nth l k))]))) (eV _) (fC _) (by omega) (by omega) ?_)))))))
   refine aA rfl (R_e (n4 _ _ (.done (W_t (aA t7 (bB rfl (rNq 1) (by omega) (aA rfl ?_)))))))
   refine R_e ?_
   refine p12 _ _ _ ?_ ⟨(k+1),(out++[(nth l k)]),dn,(v+1),rfl,t0,t3,(eTq (rVq (V.ms 5 (v+1) 0 (out.length+1))) (by simp)),t6,(eTq (rNq (k+1)) (by rfl)),h3,(eTq (@rfl Blk (bz (v+1) 24 3 (List.map cF (out++[(nth l k)])))) (by rfl)),?_,?_,?_⟩
   · omega
   · omega
   · first|omega|(simp only [List.length_append,List.length_cons,List.length_nil]; omega)
   · rw [hc,wJ (by omega)]; first|(rw [if_pos ⟨d1,d2⟩,if_pos d3]; simp [d1]; done)|(rw [if_pos ⟨d1,d2⟩,if_neg d3]; simp [d1]; done)|(rw [if_neg d1,if_pos d3]; simp [d4]; done)|(rw [if_neg d1,if_neg d3]; simp [d4]; done)
  have d3: ¬bY f (nth l k)≠0:=c8
  refine cM (n4 _ _ (.done (W_t (aA t7 (bB rfl (rNq 1) (by omega) (aA rfl (R_e ?_)))))))
  refine p12 _ _ _ ?_ ⟨(k+1),out,dn,v,rfl,t0,t3,t5,t6,(eTq (rNq (k+1)) (by rfl)),h3,h5,?_,?_,?_⟩
  · omega
  · omega
  · first|omega|(simp only [List.length_append,List.length_cons,List.length_nil]; omega)
  · rw [hc,wJ (by omega)]; first|(rw [if_pos ⟨d1,d2⟩,if_pos d3]; simp [d1]; done)|(rw [if_pos ⟨d1,d2⟩,if_neg d3]; simp [d1]; done)|(rw [if_neg d1,if_pos d3]; simp [d4]; done)|(rw [if_neg d1,if_neg d3]; simp [d4]; done)
 refine aN (p32 _ _ _ (x1 _ _ (.done (aB (W_r (aA t6 (eN rfl ?_)))))))
 refine R_e ?_
 refine cC rfl (fun c9=>?_) (fun c9=>?_)
 ·
  refine W_r (aA t5 (aJ t3 h3 rfl rfl (aR rfl rfl (bX (l:=out) (f:=cF) (x:=f) (rVq (V.ms 5 v 0 out.length)) h5 (by rfl) (fU (x:=f) (rVq (V.sl [(rFq f)]))) (eV _) (fC _) (by omega) (by omega) (aA rfl (R_e (W_r ?_)))))))
  refine aA rfl (aA rfl (R_e (aO ?_)))
  refine bI (rVq (V.ms 5 (v+1) 0 (out.length+1))) (gL (@rfl Blk (bz (v+1) 24 3 (List.map cF (out++[f])))) (by simp) (l:=(out++[f])) rfl (by simp) (fun _=>by simp) ?_)
  · rw [← aEv hs,hc,aH0 (by omega)]; simp_all
 refine aC (W_r (aA t5 (aA rfl (R_e (aO ?_)))))
 refine bI (rVq (V.ms 5 v 0 out.length)) (gL h5 (by simp) (l:=out) rfl (by rfl) (fun _=>by simp) ?_)
 · rw [← aEv hs,hc,aH0 (by omega)]; simp_all
def s94:SF:=⟨14,[.cell 4 true 3],.seq (.reg [sO 4 (.alloc 24 zFq)]) (.seq (.seq (.reg [qM 5 1,qN 6 5,qC 7 .eql 6 1]) (.cond (.t 7) (.seq (.reg [qM 8 1,sO 9 (.idx 3 (.t 8) (.c (.int .i64 0))),qL 10 3 9,sN (.store 3 (.t 4) (.t 10))]) (.ret)) (.skip))) (.seq (.reg [qM 11 0,qM 12 1,sO 13 (.build zFq [(0,1,.t 11),(2,1,.t 12)]),sN (.store 3 (.t 4) (.t 13))]) (.ret)))⟩
theorem aRd:bJ Tryz.prog ⟨oEq,[],[],[]⟩ Tryz.f94=some s94:=by kernel_rfl
theorem xV (o:Int) (l:List Fm):aQ Tryz.prog 94 [(iV o),(V.sl (List.map cF l))] (V.agg (rFq (jnd o l))):=by
 refine pW Tryz.func94 aRd fun hB=>?_
 unfold s94
 dsimp only
 refine W_r (aU (i:=4) (n:=0) (m:=3) rfl (cVq rfl) rfl (R_e (aB (W_r (aA rfl (bG rfl (aY rfl rfl ?_)))))))
 refine R_e ?_
 refine aH rfl (fun c1=>?_) fun c1=>?_
 ·
  refine aB (W_r (aA rfl (bU (i:=0) (rVq (V.sl (List.map cF l))) (rNq 0) (by omega) (bN _) rfl (aG rfl rfl (bF rfl rfl rfl rfl rfl rfl rfl rfl rfl (R_e (aL ?_)))))))
  refine cP (bC (u:=(V.agg (rFq (nth l 0)))) rfl (@rfl Blk (bFq (nth l 0))) (lB oB rfl rfl)) (bE (aE ?_) (aE ?_) (dB ?_ (fun _=>by simp)))
  · rw [aGt (by omega)]
  · rw [aGt (by omega)]
  · rw [aGt (by omega)]
 refine aC (W_r (aA rfl (aA rfl (aW rfl rfl (bF rfl rfl rfl rfl rfl rfl rfl rfl rfl (R_e (aO ?_)))))))
 refine cP (bC (u:=(V.agg [(iV o),(iV 0),(V.sl (List.map cF l))])) rfl (@rfl Blk (bk 1 24 3 [[(iV o),(iV 0),(V.sl (List.map cF l))]])) (lB oB rfl rfl)) (bE (aE ?_) (aE ?_) (dB ?_ (fun _=>by simp)))
 · rw [aGc (by omega)]; try rfl
 · rw [aGc (by omega)]; try rfl
 · rw [aGc (by omega)]; try rfl
theorem aAJ (f:Fm) (hok:okF f=true) (hz:f.sz≤268435456) (hq:aQ Tryz.prog 92 [(V.agg (rFq f))] (V.tup [(V.sl (List.map cCl (rsV f))),(V.bool (clB f))])):aQ Tryz.prog 64 [(V.agg (rFq f))] (V.tup [(V.agg (rFq (gV (can f)))),(V.bool (aD2 f))]):=by
 refine pW Tryz.func64 aRj fun hB=>?_
 unfold s64
 dsimp only
 refine W_r (cE (i:=1) (n:=0) (m:=3) (cs:=(rFq f)) rfl (cVq rfl) rfl rfl rfl (aU (i:=2) (n:=0) (m:=3) rfl (cVq rfl) rfl (aA rfl (R_e (W_r (aJ rfl rfl rfl rfl (aI hq rfl ?_)))))))
 refine aA rfl (bH rfl rfl (bH rfl rfl (aA rfl (aA rfl (R_e (aB (W_r ?_)))))))
 refine aA rfl (eN rfl (R_e ?_))
 refine cC rfl (fun c1=>?_) (fun c1=>?_)
 ·
  have d0:clB f=false:=by simpa using c1
  have d1:can f=none:=by unfold can; rw [sA d0]; rfl
  refine aB (W_r (aW rfl rfl (bF rfl rfl rfl rfl rfl rfl rfl rfl rfl (aA rfl (R_e (aL ?_))))))
  refine eM (bC (u:=(V.agg [(iV 0),(iV 0),V.nilsl])) rfl (@rfl Blk bYq) (lB oB rfl rfl)) (bV (rVq (V.bool false))) (bE (aE ?_) (aE ?_) (bT ?_)) (bA ?_)
  · rw [d1]; rfl
  · rw [d1]; rfl
  · rw [d1]; rfl
  · rw [wZ,d0]
 have d0:=oM (f:=f) (by simpa using c1)
 have db:clB f=true:=by simpa using c1
 have d1:can f=some (fin (rsV f)):=by unfold can; rw [d0]; rfl
 have g1:=jS f hok _ d0
 have g2:=oW f _ d0
 have g3:=g1.len
 refine aC ?_
 refine dO (fun T H=>T 2=(mPq 2)∧T 4=(V.sl (List.map cCl (rsV f)))∧T 6=(mPq 6)∧H 1=(bFq f)∧H 2=bYq∧H 6=(bk 1 24 3 [[(iV 1),(iV 0),V.nilsl]])∧True) ?_ ?_
 ·
  refine aW rfl rfl (aU (i:=6) (n:=0) (m:=3) rfl (cVq rfl) rfl (bF rfl rfl rfl rfl rfl rfl rfl rfl rfl ?_))
  exact eD ⟨rfl,rfl,rfl,rfl,rfl,rfl,trivial⟩
 intro T H ⟨t2,t4,t6,h1,h2,h6,_⟩
 refine aCd (r':=[(iV 1),(iV 0),(V.sl (List.map cF ([])))]) h6 rfl (.done ?_)
 refine cJ (R:=fun T H=>T 2=(mPq 2)∧T 4=(V.sl (List.map cCl (rsV f)))∧T 6=(mPq 6)∧H 1=(bFq f)∧H 2=bYq∧H 6=(bk 1 24 3 [[(iV 1),(iV 0),(V.sl (List.map cF ([])))]])∧True) ⟨t2,t4,t6,(uTq h1),(uTq h2),(aK _ _ _),trivial⟩ ?_
 intro T H ⟨t2,t4,t6,h1,h2,h6,_⟩
 refine aB (W_r (aA t4 (bG rfl (aY rfl rfl (R_e ?_)))))
 refine aH rfl (fun c2=>?_) fun c2=>?_
 ·
  rw [aOg (by omega)] at d1
  refine aB (W_r (aJ t6 h6 rfl rfl (aR rfl rfl (aW rfl rfl (bF t2 rfl rfl h2 rfl rfl rfl rfl rfl (aA rfl (R_e ?_)))))))
  refine aL ?_
  refine eM (bC (u:=(V.agg [(iV 4),(iV 0),(V.sl [[(iV 1),(iV 0),(V.sl (List.map cF ([])))]])])) t2 (@rfl Blk (bk 1 24 3 [[(iV 4),(iV 0),(V.sl [[(iV 1),(iV 0),(V.sl (List.map cF ([])))]])]])) (lB oB rfl rfl)) (bV (rVq (V.bool true))) (bE (aE ?_) (aE ?_) (cG (by simp) (eTq (aFa (x:=(Fm.nd (1:Int) (0:Int) [])) rfl) (congrArg (fun l=>V.sl (List.map cF l)) ?_)))) (bA ?_)
  · rw [d1]; rfl
  · rw [d1]; rfl
  · rw [d1]; rfl
  · rw [wZ,db]
 refine aC (W_r (aA rfl (R_e (aB ?_))))
 refine dO (fun T H=>T 2=(mPq 2)∧T 4=(V.sl (List.map cCl (rsV f)))∧T 6=(mPq 6)∧T 7=V.nilsl∧T 8=(iV 0)∧H 1=(bFq f)∧H 2=bYq∧H 6=(bk 1 24 3 [[(iV 1),(iV 0),(V.sl (List.map cF ([])))]])∧True) ?_ ?_
 ·
  refine aA rfl ?_
  exact eD ⟨t2,t4,t6,rfl,rfl,h1,h2,h6,trivial⟩
 intro T H ⟨t2,t4,t6,t7,t8,h1,h2,h6,_⟩
 refine aA7 t7 (cJ (R:=fun T H=>T 2=(mPq 2)∧T 4=(V.sl (List.map cCl (rsV f)))∧T 6=(mPq 6)∧T 7=(V.sl [])∧T 8=(iV 0)∧H 1=(bFq f)∧H 2=bYq∧H 6=(bk 1 24 3 [[(iV 1),(iV 0),(V.sl (List.map cF ([])))]])∧True) ⟨(uTq t2),(uTq t4),(uTq t6),(aK _ _ _),(uTq t8),h1,h2,h6,trivial⟩ ?_)
 intro T H ⟨t2,t4,t6,t7,t8,h1,h2,h6,_⟩
 refine aD fun Q3 n3 x3 y3 z3=>?_
 refine bS (fun mm T H=> ∃ (k:Nat),mm=(rsV f).length - k∧T 2=(mPq 2)∧T 4=(V.sl (List.map cCl (rsV f)))∧T 6=(mPq 6)∧T 7=(V.sl (List.map cF (unF [] (((rsV f).take k).map clF))))∧T 8=(iV ((k:Nat):Int))∧H 1=(bFq f)∧H 2=bYq∧H 6=(bk 1 24 3 [[(iV 1),(iV 0),(V.sl (List.map cF ([])))]])∧(k≤(rsV f).length)∧(∀ i,i < k→(nth (rsV f) i).length≠0)) ?_ ?_
 ·
  refine ⟨_,0,rfl,t2,t4,t6,(eTq t7 (by rfl)),(eTq t8 rfl),h1,h2,h6,?_,?_⟩
  · omega
  · intro i hi; omega
 intro mm T H ⟨k,hmm,t2,t4,t6,t7,t8,h1,h2,h6,hk,hn⟩ Q4 p14 p24 p34
 unfold aNz
 have hU:=pM (((rsV f).take k).map clF) []
 have hU2:(((rsV f).take k).map clF).length=k:=by rw [List.length_map,List.length_take]; omega
 have hU3:([]:List Fm).length=0:=rfl
 refine aB (W_r (aA t8 (aA t4 (bG rfl (bM rfl rfl (R_e ?_))))))
 refine aH rfl (fun c5=>?_) fun c5=>?_
 ·
  refine aC (aD fun Q6 n6 x6 y6 z6=>(aB (W_r (aA t4 (aA t8 (cY (i:=k) (rVq (V.sl (List.map cCl (rsV f)))) (rNq k) (by omega) rfl (aG rfl rfl ?_)))))))
  refine bG rfl (aY rfl rfl (R_e ?_))
  refine aH rfl (fun c7=>?_) fun c7=>?_
  ·
   rw [aNy (k:=k) (by omega) (by omega)] at d1
   refine aB (W_r (aJ t6 h6 rfl rfl (bF t2 rfl rfl h2 rfl rfl rfl rfl rfl (aA rfl (R_e (aL (y6 _ _ ?_)))))))
   refine p24 _ _ (y3 _ _ ?_)
   refine eM (bC (u:=(V.agg [(iV 1),(iV 0),(V.sl (List.map cF ([])))])) t2 (@rfl Blk (bk 1 24 3 [[(iV 1),(iV 0),(V.sl (List.map cF ([])))]])) (lB oB rfl rfl)) (bV (rVq (V.bool true))) (bE (aE ?_) (aE ?_) (dB ?_ (fun _=>by simp))) (bA ?_)
   · rw [d1]; rfl
   · rw [d1]; rfl
   · rw [d1]; rfl
   · rw [wZ,db]
  have d2:(nth (rsV f) k).length≠0:=by omega
  refine aC (W_t (aA t7 (aA t4 (aA t8 (cY (i:=k) (rVq (V.sl (List.map cCl (rsV f)))) (rNq k) (by omega) rfl (aG rfl rfl (aI (xV (5:Int) (nth (rsV f) k)) rfl ?_)))))))
  refine aI (zG (unF [] (((rsV f).take k).map clF)) (jnd (5:Int) (nth (rsV f) k)) (lL List.Pairwise.nil) (by omega)) rfl (aA rfl (R_e (n6 _ _ (.done (W_t (aA t8 (bB rfl (rNq 1) (by omega) ?_)))))))
  refine aA rfl (R_e ?_)
  refine p14 _ _ _ ?_ ⟨(k+1),rfl,t2,t4,t6,(eTq (rVq (V.sl (List.map cF (kK (jnd (5:Int) (nth (rsV f) k)) (unF [] (((rsV f).take k).map clF)))))) (by (rw [aJn (by omega)]; rfl))),(eTq (rNq (k+1)) (by rfl)),h1,h2,h6,?_,?_⟩
  · omega
  · omega
  · intro i hi
    by_cases e:i=k
    · subst e; exact d2
    · exact hn i (by omega)
 rw [aTE g1 (fun i hi=>hn i (by omega)) (by omega)] at d1
 have hk2:(rsV f).take k=(rsV f):=by rw [show k=(rsV f).length by omega,List.take_length]
 refine aN (p34 _ _ _ (x3 _ _ (.done (W_r (aA t7 (aI (xV (6:Int) (unF [] (((rsV f).take k).map clF))) rfl (bF t2 rfl rfl h2 rfl rfl rfl rfl rfl ?_)))))))
 refine aA rfl (R_e (aO ?_))
 refine eM (bC (u:=(V.agg (rFq (jnd (6:Int) (unF [] (((rsV f).take k).map clF)))))) t2 (@rfl Blk (bFq (jnd (6:Int) (unF [] (((rsV f).take k).map clF))))) (lB oB rfl rfl)) (bV (rVq (V.bool true))) (bE (aE ?_) (aE ?_) (dB ?_ (fun _=>by simp))) (bA ?_)
 · rw [d1,hk2]; rfl
 · rw [d1,hk2]; rfl
 · rw [d1,hk2]; rfl
 · rw [wZ,db]
def aO1:List SO:=[
 qF 40 2 1,
 ql 41 40,
 qM 42 5,
 qA 43 3 41 42,
 qL 44 3 43,
 sO 45 (.call false 92 [.t 44]),
 qM 39 45,
 qE 46 39 0,
 qE 47 39 1,
 qM 6 46,
 qM 7 47]
def aRp:List SO:=[
 qM 65 4,
 qM 66 6,
 qM 67 8,
 qA 68 1 66 67,
 ql 69 68,
 sO 70 (.call false 114 [.t 65,.t 69]),
 qM 4 70]
def aNp:SC:=.seq (.seq (.reg [qM 59 8,qM 60 6,qN 61 60,qP 62 .lss 59 61]) (.cond (.t 62) (.skip) (.exit 3))) (.seq (.block 4 (.reg aRp)) (.reg [qM 63 8,qC 64 .add 63 1,qM 8 64]))
def aOE:List SO:=[
 qF 71 0 1,
 ql 72 71,
 qC 73 .eql 72 5,
 qM 74 73,
 ⟨some (74,true),some 75,.mv (.t 4)⟩,
 ⟨some (74,true),some 76,.len (.t 75)⟩,
 ⟨some (74,true),some 77,.bin .gtr (.t 76) (.c (.int .i64 64))⟩,
 sO 78 (.pick (.t 74) (.t 77) (.c (.bool false)))]
def aHZ:SC:=.seq (.seq (.reg [qM 32 5,qF 33 2 1,ql 34 33,qN 35 34,qP 36 .lss 32 35]) (.cond (.t 36) (.skip) (.exit 1))) (.seq (.block 2 (.seq (.reg aO1) (.seq (.seq (.reg [qM 48 7,sO 49 (.un .not (.t 48))]) (.cond (.t 49) (.seq (.reg [sO 2 (.mv (.c (.nilsl))),sO 3 (.mv (.c (.bool false)))]) (.ret)) (.skip))) (.seq (.seq (.reg [qM 50 5,qC 51 .eql 50 0]) (.cond (.t 51) (.reg [qM 52 6,qM 4 52]) (.seq (.reg [qF 53 0 1,ql 54 53,qC 55 .eql 54 5]) (.cond (.t 55) (.reg [qM 56 4,qM 57 6,sO 58 (.call false 113 [.t 56,.t 57]),qM 4 58]) (.seq (.reg [qI 8 0]) (.block 3 (.loop aNp))))))) (.seq (.reg aOE) (.cond (.t 78) (.seq (.reg [sO 2 (.mv (.c (.nilsl))),sO 3 (.mv (.c (.bool false)))]) (.ret)) (.skip))))))) (.reg [qM 37 5,qC 38 .add 37 1,qM 5 38]))
def aQF:List SO:=[
 qF 83 0 1,
 ql 84 83,
 qF 85 1 1,
 ql 86 85,
 sO 87 (.build zFq [(0,1,.t 84),(1,1,.t 86)]),
 sO 9 (.alloc 24 zFq),
 sN (.store 3 (.t 9) (.t 87))]
def aRg:List SO:=[
 qF 96 2 1,
 ql 97 96,
 qM 98 10,
 qA 99 3 97 98,
 qL 100 3 99,
 sO 101 (.call false 64 [.t 100]),
 qM 95 101,
 qE 102 95 0,
 qE 103 95 1,
 sO 11 (.alloc 24 zFq),
 sN (.store 3 (.t 11) (.t 102)),
 qM 12 103]
def aQs:List SO:=[
 qF 106 2 9,
 ql 107 106,
 qL 108 3 11,
 sO 109 (.bslice 24 3 false zFq 1 [(0,.t 108)]),
 sO 110 (.append 24 3 40 (.t 107) (.t 109)),
 qF 111 2 9,
 sN (.store 1 (.t 111) (.t 110))]
def aOq:SC:=.seq (.seq (.reg [qM 88 10,qF 89 2 1,ql 90 89,qN 91 90,qP 92 .lss 88 91]) (.cond (.t 92) (.skip) (.exit 5))) (.seq (.block 6 (.seq (.reg aRg) (.seq (.seq (.reg [qM 104 12,sO 105 (.un .not (.t 104))]) (.cond (.t 105) (.seq (.reg [sO 2 (.mv (.c (.nilsl))),sO 3 (.mv (.c (.bool false)))]) (.ret)) (.skip))) (.reg aQs)))) (.reg [qM 93 10,qC 94 .add 93 1,qM 10 94]))
def s92:SF:=⟨115,[.tmp 2,.tmp 3],.seq (.reg [sO 1 (.box 24 3 (.t 0)),sO 2 (.mv (.c (.nilsl))),sO 3 (.mv (.c (.bool false)))]) (.seq (.seq (.reg [qF 13 0 1,ql 14 13]) (.block 0 (.seq (.reg [qC 16 .eql 14 1,qM 15 16]) (.cond (.t 15) (.seq (.reg [sO 17 (.bslice 22 1 false [.nilsl] 1 [(0,.c (.nilsl))]),qM 2 17,sO 3 (.mv (.c (.bool true)))]) (.ret)) (.seq (.reg [qC 19 .eql 14 4,qM 18 19]) (.cond (.t 18) (.seq (.seq (.reg [qF 20 2 1,ql 21 20,sO 22 (.idx 3 (.t 21) (.c (.int .i64 0))),qF 23 0 22,ql 24 23,qC 25 .eql 24 1]) (.cond (.t 25) (.seq (.reg [sO 2 (.mv (.c (.nilsl))),sO 3 (.mv (.c (.bool true)))]) (.ret)) (.skip))) (.seq (.reg [qL 26 3 1,sO 27 (.bslice 24 3 false zFq 1 [(0,.t 26)]),sO 28 (.bslice 22 1 false [.nilsl] 1 [(0,.t 27)]),qM 2 28,sO 3 (.mv (.c (.bool true)))]) (.ret))) (.seq (.seq (.reg [qC 30 .eql 14 5,qM 29 30]) (.cond (.t 29) (.skip) (.reg [qC 31 .eql 14 6,qM 29 31]))) (.cond (.t 29) (.seq (.reg [sO 4 (.mv (.c (.nilsl)))]) (.seq (.seq (.reg [qI 5 0]) (.block 1 (.loop aHZ))) (.seq (.reg [qM 79 4,qM 80 4,qN 81 80,qC 82 .leq 81 64,qM 2 79,qM 3 82]) (.ret)))) (.skip))))))))) (.seq (.reg aQF) (.seq (.seq (.reg [qI 10 0]) (.block 5 (.loop aOq))) (.seq (.reg [qL 112 3 9,sO 113 (.bslice 24 3 false zFq 1 [(0,.t 112)]),sO 114 (.bslice 22 1 false [.nilsl] 1 [(0,.t 113)]),qM 2 114,sO 3 (.mv (.c (.bool true)))]) (.ret)))))⟩
theorem aP8:bJ Tryz.prog ⟨oEq,[],[],[]⟩ Tryz.f92=some s92:=by kernel_rfl
def aOW:List SO:=[
 sO 22 (.lazy 24 3),
 qM 23 0,
 qM 24 6,
 qA 25 1 23 24,
 ql 26 25,
 sO 27 (.append 24 3 40 (.t 22) (.t 26)),
 qM 8 27]
def aLI:List SO:=[
 qM 28 9,
 qM 29 1,
 qM 30 7,
 qA 31 1 29 30,
 ql 32 31,
 qN 33 32,
 qP 34 .lss 28 33]
def aLT:List SO:=[
 qM 37 8,
 qM 38 1,
 qM 39 7,
 qA 40 1 38 39,
 ql 41 40,
 qM 42 9,
 qA 43 3 41 42,
 qL 44 3 43,
 sO 45 (.call false 93 [.t 37,.t 44]),
 qM 8 45]
def aI5:SC:=.seq (.seq (.reg aLI) (.cond (.t 34) (.skip) (.exit 4))) (.seq (.block 5 (.reg aLT)) (.reg [qM 35 9,qC 36 .add 35 1,qM 9 36]))
def aJG:SC:=.seq (.seq (.reg [qM 16 7,qM 17 1,qN 18 17,qP 19 .lss 16 18]) (.cond (.t 19) (.skip) (.exit 2))) (.seq (.block 3 (.seq (.reg aOW) (.seq (.seq (.reg [qI 9 0]) (.block 4 (.loop aI5))) (.reg [qM 46 5,qM 47 8,sO 48 (.call false 114 [.t 46,.t 47]),qM 5 48])))) (.reg [qM 20 7,qC 21 .add 20 1,qM 7 21]))
def aJV:SC:=.seq (.seq (.reg [qM 10 6,qM 11 0,qN 12 11,qP 13 .lss 10 12]) (.cond (.t 13) (.skip) (.exit 0))) (.seq (.block 1 (.seq (.reg [qI 7 0]) (.block 2 (.loop aJG)))) (.reg [qM 14 6,qC 15 .add 14 1,qM 6 15]))
def aTp:SF:=⟨50,[.tmp 4],.seq (.reg [sO 4 (.mv (.c (.nilsl)))]) (.seq (.reg [sO 5 (.mv (.c (.nilsl)))]) (.seq (.seq (.reg [qI 6 0]) (.block 0 (.loop aJV))) (.seq (.reg [qM 49 5,qM 4 49]) (.ret))))⟩
theorem aLK:bJ Tryz.prog ⟨oEq,[22],[],[]⟩ Tryz.f113=some aTp:=by kernel_rfl
def aRN:List SO:=[
 qM 20 0,
 qM 21 6,
 qA 22 1 20 21,
 ql 23 22,
 qM 24 1,
 sO 25 (.call false 133 [.t 23,.t 24]),
 sO 26 (.un .not (.t 25))]
def aOK:List SO:=[
 qM 27 5,
 qM 28 0,
 qM 29 6,
 qA 30 1 28 29,
 ql 31 30,
 sO 32 (.bslice 22 1 false [.nilsl] 1 [(0,.t 31)]),
 sO 33 (.append 22 1 24 (.t 27) (.t 32)),
 qM 5 33]
def aJZ:SC:=.seq (.seq (.reg [qM 7 6,qM 8 0,qN 9 8,qP 10 .lss 7 9]) (.cond (.t 10) (.skip) (.exit 0))) (.seq (.block 1 (.seq (.seq (.reg [qM 13 1,qM 14 0,qM 15 6,qA 16 1 14 15,ql 17 16,sO 18 (.call false 133 [.t 13,.t 17])]) (.cond (.t 18) (.seq (.reg [qM 19 0,qM 4 19]) (.ret)) (.skip))) (.seq (.reg aRN) (.cond (.t 26) (.reg aOK) (.skip))))) (.reg [qM 11 6,qC 12 .add 11 1,qM 6 12]))
def aUv:SF:=⟨38,[.tmp 4],.seq (.reg [sO 4 (.mv (.c (.nilsl)))]) (.seq (.reg [sO 5 (.lazy 22 1)]) (.seq (.seq (.reg [qI 6 0]) (.block 0 (.loop aJZ))) (.seq (.reg [qM 34 5,qM 35 1,sO 36 (.bslice 22 1 false [.nilsl] 1 [(0,.t 35)]),sO 37 (.append 22 1 24 (.t 34) (.t 36)),qM 4 37]) (.ret))))⟩
theorem aL3:bJ Tryz.prog ⟨oEq,[5],[],[]⟩ Tryz.f114=some aUv:=by kernel_rfl
def aQh:List SO:=[
 qM 20 6,
 qM 21 20,
 ⟨some (21,false),some 22,.mv (.t 0)⟩,
 ⟨some (21,false),some 23,.mv (.t 7)⟩,
 ⟨some (21,false),some 24,.idx 3 (.t 22) (.t 23)⟩,
 ⟨some (21,false),some 25,.load true 3 (.t 24)⟩,
 ⟨some (21,false),some 26,.mv (.t 1)⟩,
 ⟨some (21,false),some 27,.mv (.t 5)⟩,
 ⟨some (21,false),some 28,.idx 3 (.t 26) (.t 27)⟩,
 ⟨some (21,false),some 29,.load true 3 (.t 28)⟩,
 ⟨some (21,false),some 30,.call false 17 [.t 25,.t 29]⟩,
 sO 31 (.pick (.t 21) (.c (.bool true)) (.t 30)),
 qM 6 31]
def aKs:SC:=.seq (.seq (.reg [qM 14 7,qM 15 0,qN 16 15,qP 17 .lss 14 16]) (.cond (.t 17) (.skip) (.exit 2))) (.seq (.block 3 (.reg aQh)) (.reg [qM 18 7,qC 19 .add 18 1,qM 7 19]))
def aJp:SC:=.seq (.seq (.reg [qM 8 5,qM 9 1,qN 10 9,qP 11 .lss 8 10]) (.cond (.t 11) (.skip) (.exit 0))) (.seq (.block 1 (.seq (.reg [sO 6 (.mv (.c (.bool false)))]) (.seq (.seq (.reg [qI 7 0]) (.block 2 (.loop aKs))) (.seq (.reg [qM 32 6,sO 33 (.un .not (.t 32))]) (.cond (.t 33) (.seq (.reg [sO 4 (.mv (.c (.bool false)))]) (.ret)) (.skip)))))) (.reg [qM 12 5,qC 13 .add 12 1,qM 5 13]))
def aSA:SF:=⟨34,[.tmp 4],.seq (.reg [sO 4 (.mv (.c (.bool false)))]) (.seq (.seq (.reg [qI 5 0]) (.block 0 (.loop aJp))) (.seq (.reg [sO 4 (.mv (.c (.bool true)))]) (.ret)))⟩
theorem aK8:bJ Tryz.prog ⟨oEq,[],[],[]⟩ Tryz.f133=some aSA:=by kernel_rfl
def aSR:List SO:=[
 qF 6 0 2,
 ql 7 6,
 qF 8 0 3,
 ql 9 8,
 qP 10 .neq 7 9,
 qM 11 10,
 ⟨some (11,false),some 12,.fld 1 (.t 2)⟩,
 ⟨some (11,false),some 13,.load false 1 (.t 12)⟩,
 ⟨some (11,false),some 14,.fld 1 (.t 3)⟩,
 ⟨some (11,false),some 15,.load false 1 (.t 14)⟩,
 ⟨some (11,false),some 16,.bin .neq (.t 13) (.t 15)⟩,
 sO 17 (.pick (.t 11) (.c (.bool true)) (.t 16)),
 qM 18 17,
 ⟨some (18,false),some 19,.fld 2 (.t 2)⟩,
 ⟨some (18,false),some 20,.load false 1 (.t 19)⟩,
 ⟨some (18,false),some 21,.len (.t 20)⟩,
 ⟨some (18,false),some 22,.fld 2 (.t 3)⟩,
 ⟨some (18,false),some 23,.load false 1 (.t 22)⟩,
 ⟨some (18,false),some 24,.len (.t 23)⟩,
 ⟨some (18,false),some 25,.bin .neq (.t 21) (.t 24)⟩,
 sO 26 (.pick (.t 18) (.c (.bool true)) (.t 25))]
def aTL:List SO:=[
 qF 34 2 2,
 ql 35 34,
 qM 36 5,
 qA 37 3 35 36,
 qL 38 3 37,
 qF 39 2 3,
 ql 40 39,
 qM 41 5,
 qA 42 3 40 41,
 qL 43 3 42,
 sO 44 (.call false 17 [.t 38,.t 43]),
 sO 45 (.un .not (.t 44))]
def aOu:SC:=.seq (.seq (.reg [qM 27 5,qF 28 2 2,ql 29 28,qN 30 29,qP 31 .lss 27 30]) (.cond (.t 31) (.skip) (.exit 0))) (.seq (.block 1 (.seq (.reg aTL) (.cond (.t 45) (.seq (.reg [sO 4 (.mv (.c (.bool false)))]) (.ret)) (.skip)))) (.reg [qM 32 5,qC 33 .add 32 1,qM 5 33]))
def s17:SF:=⟨46,[.tmp 4],.seq (.reg [sO 2 (.box 24 3 (.t 0)),sO 3 (.box 24 3 (.t 1)),sO 4 (.mv (.c (.bool false)))]) (.seq (.seq (.reg aSR) (.cond (.t 26) (.seq (.reg [sO 4 (.mv (.c (.bool false)))]) (.ret)) (.skip))) (.seq (.seq (.reg [qI 5 0]) (.block 0 (.loop aOu))) (.seq (.reg [sO 4 (.mv (.c (.bool true)))]) (.ret))))⟩
theorem aPN:bJ Tryz.prog ⟨oEq,[],[],[]⟩ Tryz.f17=some s17:=by kernel_rfl
theorem vZ (f h:Fm) (ih: ∀ (g h:Fm),g.sz < f.sz→aQ Tryz.prog 17 [(V.agg (rFq g)),(V.agg (rFq h))] (V.bool (eA g h))):aQ Tryz.prog 17 [(V.agg (rFq f)),(V.agg (rFq h))] (V.bool (eA f h)):=by
 refine pW Tryz.func17 aPN fun hB=>?_
 unfold s17
 dsimp only
 refine W_r (cE (i:=2) (n:=0) (m:=3) (cs:=(rFq f)) rfl (cVq rfl) rfl rfl rfl (cE (i:=3) (n:=0) (m:=3) (cs:=(rFq h)) rfl (cVq rfl) rfl rfl rfl (aA rfl (R_e (aB (W_r (aM rfl rfl ?_)))))))
 refine aJ rfl rfl rfl rfl (aM rfl rfl (aJ rfl rfl rfl rfl (bZ rfl rfl (aA rfl ?_))))
 refine aV 6 (fun T H=>T 2=(mPq 2)∧T 3=(mPq 3)∧T 17=(V.bool (decide ((f.op≠h.op)∨(f.arg≠h.arg))))∧H 2=(bFq f)∧H 3=(bFq h)∧True) ?_ ?_
 ·
  by_cases g1:f.op≠h.op
  ·
   refine G_n (edT g1 rfl) (G_n (edT g1 rfl) (G_n (edT g1 rfl) (G_n (edT g1 rfl) (G_n (edT g1 rfl) (aS (edT g1 rfl) rfl ?_)))))
   exact ⟨rfl,rfl,(cQ g1),rfl,rfl,trivial⟩
  ·
   refine aF (edF g1 rfl) (aM rfl rfl (aF (edF g1 rfl) (aJ rfl rfl rfl rfl (aF (edF g1 rfl) (aM rfl rfl (aF (edF g1 rfl) (aJ rfl rfl rfl rfl ?_)))))))
   refine aF (edF g1 rfl) (bZ rfl rfl (aT (edF g1 rfl) rfl ?_))
   exact ⟨rfl,rfl,(cR g1),rfl,rfl,trivial⟩
 intro T H ⟨t2,t3,t17,h2,h3,_⟩
 refine aA t17 ?_
 refine aV 8 (fun T H=>T 2=(mPq 2)∧T 3=(mPq 3)∧T 26=(V.bool (decide (((f.op≠h.op)∨(f.arg≠h.arg))∨(((f.kids.length:Nat):Int)≠((h.kids.length:Nat):Int)))))∧H 2=(bFq f)∧H 3=(bFq h)∧True) ?_ ?_
 ·
  by_cases g2:(f.op≠h.op)∨(f.arg≠h.arg)
  ·
   refine G_n (edT g2 rfl) (G_n (edT g2 rfl) (G_n (edT g2 rfl) (G_n (edT g2 rfl) (G_n (edT g2 rfl) (G_n (edT g2 rfl) (G_n (edT g2 rfl) (aS (edT g2 rfl) rfl ?_)))))))
   exact ⟨t2,t3,(cQ g2),h2,h3,trivial⟩
  ·
   refine aF (edF g2 rfl) (aM t2 h2 (aF (edF g2 rfl) (aJ rfl h2 rfl rfl (aF (edF g2 rfl) (bG rfl (aF (edF g2 rfl) (aM t3 h3 ?_)))))))
   refine aF (edF g2 rfl) (aJ rfl h3 rfl rfl (aF (edF g2 rfl) (bG rfl (aF (edF g2 rfl) (bZ rfl rfl (aT (edF g2 rfl) rfl ?_))))))
   exact ⟨t2,t3,(cR g2),h2,h3,trivial⟩
 intro T H ⟨t2,t3,t26,h2,h3,_⟩
 refine R_e ?_
 refine aH t26 (fun c3=>?_) fun c3=>?_
 ·
  refine aB (W_r (aA rfl (R_e (aL ?_))))
  refine bI (rVq (V.bool false)) (bA ?_)
  · rw [tD]; symm; simp only [Bool.and_eq_false_iff,decide_eq_false_iff_not]; omega
 refine aC (aB (W_r (aA rfl (R_e (aD fun Q4 n4 x4 y4 z4=>?_)))))
 refine bS (fun mm T H=> ∃ (k:Nat),mm=f.kids.length - k∧T 2=(mPq 2)∧T 3=(mPq 3)∧T 5=(iV ((k:Nat):Int))∧H 2=(bFq f)∧H 3=(bFq h)∧(k≤f.kids.length)∧(f.kids.length=h.kids.length)∧(iM f.kids h.kids=iM (f.kids.drop k) (h.kids.drop k))) ?_ ?_
 ·
  refine ⟨_,0,rfl,t2,t3,(eTq (rVq (iV 0)) rfl),h2,h3,?_,?_,?_⟩
  · omega
  · omega
  · rfl
 intro mm T H ⟨k,hmm,t2,t3,t5,h2,h3,hk,hl,hc⟩ Q5 p15 p25 p35
 unfold aOu
 refine aB (W_r (aA t5 (aM t2 h2 (aJ rfl h2 rfl rfl (bG rfl (bM rfl rfl (R_e ?_)))))))
 refine aH rfl (fun c6=>?_) fun c6=>?_
 ·
  refine aC (aD fun Q7 n7 x7 y7 z7=>(W_r (aM t2 h2 (aJ rfl h2 rfl rfl (aA t5 (bU (i:=k) (rVq (V.sl (List.map cF f.kids))) (rNq k) (by omega) (bN _) rfl (aG rfl rfl ?_)))))))
  refine aM t3 h3 (aJ rfl h3 rfl rfl (aA t5 (bU (i:=k) (rVq (V.sl (List.map cF h.kids))) (rNq k) (by omega) (bN _) rfl (aG rfl rfl (aI (ih (nth f.kids k) (nth h.kids k) skq) rfl (eN rfl (R_e ?_)))))))
  refine jW rfl (fun c8=>?_) (fun c8=>?_)
  ·
   have d1:eA (nth f.kids k) (nth h.kids k)=false:=by simpa using c8
   refine W_r (aA rfl (R_e (aO (y7 _ _ (p25 _ _ (y4 _ _ ?_))))))
   refine bI (rVq (V.bool false)) (bA ?_)
   · rw [tD,hc,aDq (by omega) (by omega) d1,Bool.and_false]
  have d1:eA (nth f.kids k) (nth h.kids k)=true:=by simpa using c8
  refine cM (n7 _ _ (.done (W_t (aA t5 (bB rfl (rNq 1) (by omega) (aA rfl (R_e ?_)))))))
  refine p15 _ _ _ ?_ ⟨(k+1),rfl,t2,t3,(eTq (rNq (k+1)) (by rfl)),h2,h3,?_,?_,?_⟩
  · omega
  · omega
  · omega
  · rw [hc,aAL (by omega) (by omega) d1]
 refine aN (p35 _ _ _ (x4 _ _ (.done (W_r (aA rfl (R_e (aO ?_)))))))
 refine bI (rVq (V.bool true)) (bA ?_)
 · rw [tD,hc,aAZ (by omega),Bool.and_true]; symm; simp only [Bool.and_eq_true,decide_eq_true_eq]; omega
theorem yZ (f h:Fm):aQ Tryz.prog 17 [(V.agg (rFq f)),(V.agg (rFq h))] (V.bool (eA f h)):=by
  have key: ∀ (mm:Nat) (f h:Fm),f.sz < mm→aQ Tryz.prog 17 [(V.agg (rFq f)),(V.agg (rFq h))] (V.bool (eA f h)):=by
    intro mm
    induction mm with
    |zero=>intro f h hlt; exact absurd hlt (Nat.not_lt_zero _)
    | succ mm ih =>
      intro f h hlt
      exact vZ f h fun f2 h2 hlt2=>ih f2 h2 (by omega)
  exact key (f.sz+1) f h (Nat.lt_succ_self _)
theorem xG (c d:Cl):aQ Tryz.prog 133 [(V.sl (List.map cF c)),(V.sl (List.map cF d))] (V.bool (dQ c d)):=by
 refine pW Tryz.func133 aK8 fun hB=>?_
 unfold aSA
 dsimp only
 refine W_r (aA rfl (R_e (aB (W_r (aA rfl (R_e (aD fun Q1 n1 x1 y1 z1=>?_)))))))
 refine bS (fun mm T H=> ∃ (k:Nat),mm=d.length - k∧T 0=(V.sl (List.map cF c))∧T 1=(V.sl (List.map cF d))∧T 5=(iV ((k:Nat):Int))∧(k≤d.length)∧(dQ c d=dQ c (d.drop k))) ?_ ?_
 ·
  refine ⟨_,0,rfl,rfl,rfl,(eTq (rVq (iV 0)) rfl),?_,?_⟩
  · omega
  · rfl
 intro mm T H ⟨k,hmm,t0,t1,t5,hk,hc⟩ Q2 p12 p22 p32
 unfold aJp
 refine aB (W_r (aA t5 (aA t1 (bG rfl (bM rfl rfl (R_e ?_))))))
 refine aH rfl (fun c3=>?_) fun c3=>?_
 ·
  refine aC (aD fun Q4 n4 x4 y4 z4=>(W_r (aA rfl (R_e (aB (W_r (aA rfl ?_)))))))
  refine R_e (aD fun Q5 n5 x5 y5 z5=>?_)
  refine bS (fun mm T H=> ∃ (j:Nat) (x:Bool),mm=c.length - j∧T 0=(V.sl (List.map cF c))∧T 1=(V.sl (List.map cF d))∧T 5=(iV ((k:Nat):Int))∧T 6=(V.bool x)∧T 7=(iV ((j:Nat):Int))∧(j≤c.length)∧(x=(c.take j).any fun y=>eA y (nth d k))) ?_ ?_
  ·
   refine ⟨_,0,false,rfl,t0,t1,t5,rfl,(eTq (rVq (iV 0)) rfl),?_,?_⟩
   · omega
   · simp
  intro mm T H ⟨j,x,hmm,t0,t1,t5,t6,t7,hj,hx⟩ Q6 p16 p26 p36
  unfold aKs
  refine aB (W_r (aA t7 (aA t0 (bG rfl (bM rfl rfl (R_e ?_))))))
  refine aH rfl (fun c7=>?_) fun c7=>?_
  ·
   refine aC (aD fun Q8 n8 x8 y8 z8=>(W_t (aA t6 (aA rfl ?_))))
   refine aV 10 (fun T H=>T 0=(V.sl (List.map cF c))∧T 1=(V.sl (List.map cF d))∧T 5=(iV ((k:Nat):Int))∧T 6=(V.bool x)∧T 7=(iV ((j:Nat):Int))∧T 31=(V.bool (x||(eA (nth c j) (nth d k))))∧True) ?_ ?_
   ·
    by_cases g9:x=true
    ·
     refine G_n (ebT g9 rfl) (G_n (ebT g9 rfl) (G_n (ebT g9 rfl) (G_n (ebT g9 rfl) (G_n (ebT g9 rfl) (G_n (ebT g9 rfl) (G_n (ebT g9 rfl) (G_n (ebT g9 rfl) ?_)))))))
     refine G_n (ebT g9 rfl) (aS (ebT g9 rfl) rfl ?_)
     exact ⟨t0,t1,t5,t6,t7,(aL5 g9),trivial⟩
    ·
     refine aF (ebF g9 rfl) (aA t0 (aF (ebF g9 rfl) (aA t7 (aF (ebF g9 rfl) (bU (i:=j) (rVq (V.sl (List.map cF c))) (rNq j) (by omega) (bN _) rfl (aF (ebF g9 rfl) (aG rfl rfl ?_)))))))
     refine aF (ebF g9 rfl) (aA t1 (aF (ebF g9 rfl) (aA t5 (aF (ebF g9 rfl) (bU (i:=k) (rVq (V.sl (List.map cF d))) (rNq k) (by omega) (bN _) rfl (aF (ebF g9 rfl) (aG rfl rfl ?_)))))))
     refine aF (ebF g9 rfl) (aI (yZ (nth c j) (nth d k)) rfl (aT (ebF g9 rfl) rfl ?_))
     exact ⟨t0,t1,t5,t6,t7,(aMC g9),trivial⟩
   intro T H ⟨t0,t1,t5,t6,t7,t31,_⟩
   refine aA t31 (R_e (n8 _ _ (.done (W_t (aA t7 (bB rfl (rNq 1) (by omega) (aA rfl ?_)))))))
   refine R_e ?_
   refine p16 _ _ _ ?_ ⟨(j+1),(x||eA (nth c j) (nth d k)),rfl,t0,t1,t5,(eTq (rVq (V.bool (x||(eA (nth c j) (nth d k))))) (by rfl)),(eTq (rNq (j+1)) (by rfl)),?_,?_⟩
   · omega
   · omega
   · rw [aHF (by omega),← hx]
  have hx2:x=c.any fun y=>eA y (nth d k):=by rw [hx,show j=c.length by omega,List.take_length]
  refine aN (p36 _ _ _ (x5 _ _ (.done (W_r (aA t6 (eN rfl (R_e ?_)))))))
  refine jW rfl (fun c10=>?_) (fun c10=>?_)
  ·
   have d1:(c.any fun y=>eA y (nth d k))=false:=by rw [← hx2]; simpa using c10
   refine W_r (aA rfl (R_e (aO (y4 _ _ (p22 _ _ (y1 _ _ ?_))))))
   refine bI (rVq (V.bool false)) (bA ?_)
   · rw [hc,aPK (by omega) d1]
  have d1:(c.any fun y=>eA y (nth d k))=true:=by rw [← hx2]; simpa using c10
  refine cM (n4 _ _ (.done (W_t (aA t5 (bB rfl (rNq 1) (by omega) (aA rfl (R_e ?_)))))))
  refine p12 _ _ _ ?_ ⟨(k+1),rfl,t0,t1,(eTq (rNq (k+1)) (by rfl)),?_,?_⟩
  · omega
  · omega
  · rw [hc,aQY (by omega) d1]
 refine aN (p32 _ _ _ (x1 _ _ (.done (W_r (aA rfl (R_e (aO ?_)))))))
 refine bI (rVq (V.bool true)) (bA ?_)
 · rw [hc,aMi (by omega)]
theorem aAW (s:List Cl) (c:Cl) (hz:s.length≤2199023255552):aQ Tryz.prog 114 [(V.sl (List.map cCl s)),(V.sl (List.map cF c))] (V.sl (List.map cCl (wth s c))):=by
 refine pW Tryz.func114 aL3 fun hB=>?_
 unfold aUv
 dsimp only
 refine W_r (aA rfl (R_e (W_r (jV (i:=5) (n:=0) rfl (cVq rfl) (R_e (aB (W_r ?_)))))))
 refine aA rfl (R_e (aD fun Q1 n1 x1 y1 z1=>?_))
 refine bS (fun mm T H=> ∃ (k:Nat) (v:Nat),mm=s.length - k∧T 0=(V.sl (List.map cCl s))∧T 1=(V.sl (List.map cF c))∧T 5=(V.ms 5 v 0 (((s.take k).filter (fun d=> !dQ d c)).length))∧T 6=(iV ((k:Nat):Int))∧H 5=(bz v 22 1 (List.map cCl ((s.take k).filter (fun d=> !dQ d c))))∧(k≤s.length)∧(∀ i,i < k→dQ c (nth s i)=false)) ?_ ?_
 ·
  refine ⟨_,0,1,rfl,rfl,rfl,(eTq (rVq (V.ms 5 1 0 0)) (by rfl)),(eTq (rVq (iV 0)) rfl),(eTq (@rfl Blk (bz 1 22 1 [])) (by rfl)),?_,?_⟩
  · omega
  · intro i hi; omega
 intro mm T H ⟨k,v,hmm,t0,t1,t5,t6,h5,hk,hn⟩ Q2 p12 p22 p32
 unfold aJZ
 have hq1:=aFS (fun d=> !dQ d c) s k
 refine aB (W_r (aA t6 (aA t0 (bG rfl (bM rfl rfl (R_e ?_))))))
 refine aH rfl (fun c3=>?_) fun c3=>?_
 ·
  refine aC (aD fun Q4 n4 x4 y4 z4=>(aB (W_r (aA t1 (aA t0 (aA t6 (cY (i:=k) (rVq (V.sl (List.map cCl s))) (rNq k) (by omega) rfl ?_)))))))
  refine aG rfl rfl (aI (xG c (nth s k)) rfl (R_e ?_))
  refine cC rfl (fun c5=>?_) (fun c5=>?_)
  ·
   have d1:=aLs (by omega) c5
   refine aB (W_r (aA t0 (aA rfl (R_e (aL (y4 _ _ (p22 _ _ ?_)))))))
   refine y1 _ _ ?_
   refine bI (rVq (V.sl (List.map cCl s))) (dB ?_ (fun _=>by simp))
   · exact d1
  have d1:=c5
  refine aC (W_r (aA t0 (aA t6 (cY (i:=k) (rVq (V.sl (List.map cCl s))) (rNq k) (by omega) rfl (aG rfl rfl (aA t1 (aI (xG (nth s k) c) rfl ?_)))))))
  refine eN rfl (R_e ?_)
  refine jW rfl (fun c6=>?_) (fun c6=>?_)
  ·
   have d2:(fun d=> !dQ d c) (nth s k)=true:=c6
   refine W_t (aA t5 (aA t0 (aA t6 (cY (i:=k) (rVq (V.sl (List.map cCl s))) (rNq k) (by omega) rfl (aG rfl rfl (aR rfl rfl (bX (l:=((s.take k).filter (fun d=> !dQ d c))) (f:=cCl) (x:=(nth s k)) (rVq (V.ms 5 v 0 (((s.take k).filter (fun d=> !dQ d c)).length))) h5 (by rfl) (rVq (V.sl [[(V.sl (List.map cF (nth s k)))]])) rfl rfl (by omega) (by omega) ?_)))))))
   refine aA rfl (R_e (n4 _ _ (.done (W_t (aA t6 (bB rfl (rNq 1) (by omega) (aA rfl ?_)))))))
   refine R_e ?_
   refine p12 _ _ _ ?_ ⟨(k+1),(v+1),rfl,t0,t1,(eTq (rVq (V.ms 5 (v+1) 0 ((((s.take k).filter (fun d=> !dQ d c)).length)+1))) (by (rw [wP (by omega) d2,List.length_append]; rfl))),(eTq (rNq (k+1)) (by rfl)),(eTq (@rfl Blk (bz (v+1) 22 1 (List.map cCl ((s.take k).filter (fun d=> !dQ d c)++[(nth s k)])))) (by (rw [wP (by omega) d2]; done))),?_,?_⟩
   · omega
   · omega
   · intro i hi
     by_cases e:i=k
     · subst e; exact d1
     · exact hn i (by omega)
  have d2: ¬(fun d=> !dQ d c) (nth s k)=true:=by simpa using c6
  refine cM (n4 _ _ (.done (W_t (aA t6 (bB rfl (rNq 1) (by omega) (aA rfl (R_e ?_)))))))
  refine p12 _ _ _ ?_ ⟨(k+1),v,rfl,t0,t1,(eTq t5 (by (rw [aBx (by omega) d2]; done))),(eTq (rNq (k+1)) (by rfl)),(eTq h5 (by (rw [aBx (by omega) d2]; done))),?_,?_⟩
  · omega
  · omega
  · intro i hi
    by_cases e:i=k
    · subst e; exact d1
    · exact hn i (by omega)
 refine aN (p32 _ _ _ (x1 _ _ (.done (W_r (aA t5 (aA t1 (aR rfl rfl ?_)))))))
 refine bX (l:=((s.take k).filter (fun d=> !dQ d c))) (f:=cCl) (x:=c) (rVq (V.ms 5 v 0 (((s.take k).filter (fun d=> !dQ d c)).length))) h5 (by rfl) (rVq (V.sl [[(V.sl (List.map cF c))]])) rfl rfl (by omega) (by omega) (aA rfl (R_e (aO ?_)))
 refine bI (rVq (V.ms 5 (v+1) 0 ((((s.take k).filter (fun d=> !dQ d c)).length)+1))) (gL (@rfl Blk (bz (v+1) 22 1 (List.map cCl ((s.take k).filter (fun d=> !dQ d c)++[c])))) (by simp) (l:=((s.take k).filter (fun d=> !dQ d c)++[c])) rfl (by simp) (fun _=>by simp) ?_)
 · rw [show k=s.length by omega,List.take_length]; exact aLj (fun i hi=>hn i (by omega))
theorem aCL (a b:List Cl) (ha: ∀ k,k < a.length→gO (nth a k)) (la: ∀ k,k < a.length→(nth a k).length≤536870912) (lb: ∀ k,k < b.length→(nth b k).length≤536870912) (na:a.length≤64) (nb:b.length≤65536):aQ Tryz.prog 113 [(V.sl (List.map cCl a)),(V.sl (List.map cCl b))] (V.sl (List.map cCl (prd a b))):=by
 refine pW Tryz.func113 aLK fun hB=>?_
 unfold aTp
 dsimp only
 refine W_r (aA rfl (R_e (W_r (aA rfl (R_e (aB ?_))))))
 refine dO (fun T H=>T 0=(V.sl (List.map cCl a))∧T 1=(V.sl (List.map cCl b))∧T 5=V.nilsl∧T 6=(iV 0)∧H 22=bZq∧True) ?_ ?_
 ·
  refine aA rfl ?_
  exact eD ⟨rfl,rfl,rfl,rfl,rfl,trivial⟩
 intro T H ⟨t0,t1,t5,t6,h22,_⟩
 refine aA7 t5 (cJ (R:=fun T H=>T 0=(V.sl (List.map cCl a))∧T 1=(V.sl (List.map cCl b))∧T 5=(V.sl [])∧T 6=(iV 0)∧H 22=bZq∧True) ⟨(uTq t0),(uTq t1),(aK _ _ _),(uTq t6),h22,trivial⟩ ?_)
 intro T H ⟨t0,t1,t5,t6,h22,_⟩
 refine aD fun Q1 n1 x1 y1 z1=>?_
 refine bS (fun mm T H=> ∃ (k:Nat) (v22:Nat),mm=a.length - k∧T 0=(V.sl (List.map cCl a))∧T 1=(V.sl (List.map cCl b))∧T 5=(V.sl (List.map cCl (prd (a.take k) b)))∧T 6=(iV ((k:Nat):Int))∧(H 22).ver=v22∧(k≤a.length)) ?_ ?_
 ·
  refine ⟨_,0,0,rfl,t0,t1,(eTq t5 (by rfl)),(eTq t6 rfl),(cVq h22),?_⟩
  · omega
 intro mm T H ⟨k,v22,hmm,t0,t1,t5,t6,h22,hk⟩ Q2 p12 p22 p32
 unfold aJV
 have hN:=aDJ na nb hk
 refine aB (W_r (aA t6 (aA t0 (bG rfl (bM rfl rfl (R_e ?_))))))
 refine aH rfl (fun c3=>?_) fun c3=>?_
 ·
  refine aC (aD fun Q4 n4 x4 y4 z4=>(W_r (aA rfl (R_e (iH fun Q5 n5 x5 y5 z5=>?_)))))
  refine bS (fun mm T H=> ∃ (j:Nat) (v22:Nat),mm=b.length - j∧T 0=(V.sl (List.map cCl a))∧T 1=(V.sl (List.map cCl b))∧T 5=(V.sl (List.map cCl (prC (prd (a.take k) b) (nth a k) (b.take j))))∧T 6=(iV ((k:Nat):Int))∧T 7=(iV ((j:Nat):Int))∧(H 22).ver=v22∧(j≤b.length)) ?_ ?_
  ·
   refine ⟨_,0,v22,rfl,t0,t1,(eTq t5 (by rfl)),t6,(eTq (rVq (iV 0)) rfl),h22,?_⟩
   · omega
  intro mm T H ⟨j,v22,hmm,t0,t1,t5,t6,t7,h22,hj⟩ Q6 p16 p26 p36
  unfold aJG
  have hM:=aGk (prd (a.take k) b) (nth a k) (b.take j)
  have hM2:(b.take j).length=j:=by rw [List.length_take]; omega
  have hla:k < a.length→(nth a k).length≤536870912:=la k
  have hlb:j < b.length→(nth b j).length≤536870912:=lb j
  refine aB (W_r (aA t7 (aA t1 (bG rfl (bM rfl rfl (R_e ?_))))))
  refine aH rfl (fun c7=>?_) fun c7=>?_
  ·
   refine aC (aD fun Q8 n8 x8 y8 z8=>?_)
   refine dO (fun T H=>T 0=(V.sl (List.map cCl a))∧T 1=(V.sl (List.map cCl b))∧T 5=(V.sl (List.map cCl (prC (prd (a.take k) b) (nth a k) (b.take j))))∧T 6=(iV ((k:Nat):Int))∧T 7=(iV ((j:Nat):Int))∧T 8=(V.ms 22 (v22+2) 0 (0+(nth a k).length))∧H 22=(bz (v22+2) 24 3 (List.map cF ([]++(nth a k))))∧True) ?_ ?_
   ·
    refine jV (i:=22) (n:=v22) rfl h22 (aA t0 (aA t6 (cY (i:=k) (rVq (V.sl (List.map cCl a))) (rNq k) (by omega) rfl (aG rfl rfl (pO (l:=([])) (m:=(nth a k)) (f:=cF) (rVq (V.ms 22 (v22+1) 0 0)) (show _=(bz (v22+1) 24 3 (List.map cF ([]))) from (@rfl Blk (bz (v22+1) 24 3 []))) (by rfl) (rVq (V.sl (List.map cF (nth a k)))) eV fC (by omega) (by omega) (aA rfl ?_))))))
    exact eD ⟨t0,t1,t5,t6,t7,rfl,rfl,trivial⟩
   intro T H ⟨t0,t1,t5,t6,t7,t8,h22,_⟩
   refine .freeze 22 (.done ?_)
   refine cJ (R:=fun T H=>T 0=(V.sl (List.map cCl a))∧T 1=(V.sl (List.map cCl b))∧T 5=(V.sl (List.map cCl (prC (prd (a.take k) b) (nth a k) (b.take j))))∧T 6=(iV ((k:Nat):Int))∧T 7=(iV ((j:Nat):Int))∧T 8=(V.sl (List.map cF ([]++(nth a k))))∧((H 22).ver=v22+2∧(H 22).live=false)∧True) ⟨(bW t0 rfl),(bW t1 rfl),(bW t5 rfl),(bW t6 rfl),(bW t7 rfl),(bW t8 (aGJ h22 (by simp) (l:=([]++(nth a k))) rfl (by simp))),(dZ (cVq h22)),trivial⟩ ?_
   intro T H ⟨t0,t1,t5,t6,t7,t8,h22,_⟩
   refine aB (W_r (aA rfl (R_e (aD fun Q9 n9 x9 y9 z9=>?_))))
   refine bS (fun mm T H=> ∃ (q:Nat),mm=(nth b j).length - q∧T 0=(V.sl (List.map cCl a))∧T 1=(V.sl (List.map cCl b))∧T 5=(V.sl (List.map cCl (prC (prd (a.take k) b) (nth a k) (b.take j))))∧T 6=(iV ((k:Nat):Int))∧T 7=(iV ((j:Nat):Int))∧T 8=(V.sl (List.map cF (unF (nth a k) ((nth b j).take q))))∧T 9=(iV ((q:Nat):Int))∧((H 22).ver=v22+2∧(H 22).live=false)∧(q≤(nth b j).length)) ?_ ?_
   ·
    refine ⟨_,0,rfl,t0,t1,t5,t6,t7,(eTq t8 (by rfl)),(eTq (rVq (iV 0)) rfl),h22,?_⟩
    · omega
   intro mm T H ⟨q,hmm,t0,t1,t5,t6,t7,t8,t9,h22,hq⟩ Q10 p110 p210 p310
   unfold aI5
   have hU:=pM ((nth b j).take q) (nth a k)
   have hU2:((nth b j).take q).length=q:=by rw [List.length_take]; omega
   refine aB (W_r (aA t9 (aA t1 (aA t7 (cY (i:=j) (rVq (V.sl (List.map cCl b))) (rNq j) (by omega) rfl (aG rfl rfl (bG rfl ?_)))))))
   refine bM rfl rfl (R_e ?_)
   refine aH rfl (fun c11=>?_) fun c11=>?_
   ·
    refine aC (aD fun Q12 n12 x12 y12 z12=>(W_t (aA t8 (aA t1 (aA t7 (cY (i:=j) (rVq (V.sl (List.map cCl b))) (rNq j) (by omega) rfl (aG rfl rfl ?_)))))))
    refine aA t9 (bU (i:=q) (rVq (V.sl (List.map cF (nth b j)))) (rNq q) (by omega) (bN _) rfl (aG rfl rfl (aI (zG (unF (nth a k) ((nth b j).take q)) (nth (nth b j) q) (lL (ha k (by omega))) (by omega)) rfl (aA rfl (R_e (n12 _ _ (.done ?_)))))))
    refine W_t (aA t9 (bB rfl (rNq 1) (by omega) (aA rfl (R_e ?_))))
    refine p110 _ _ _ ?_ ⟨(q+1),rfl,t0,t1,t5,t6,t7,(eTq (rVq (V.sl (List.map cF (kK (nth (nth b j) q) (unF (nth a k) ((nth b j).take q)))))) (by (rw [aL1 (by omega)]; done))),(eTq (rNq (q+1)) (by rfl)),h22,?_⟩
    · omega
    · omega
   refine aN (p310 _ _ _ (x9 _ _ (.done (W_t (aA t5 (aA t8 (aI (aAW (prC (prd (a.take k) b) (nth a k) (b.take j)) (unF (nth a k) ((nth b j).take q)) (by omega)) rfl ?_)))))))
   refine aA rfl (R_e (n8 _ _ (.done (W_t (aA t7 (bB rfl (rNq 1) (by omega) (aA rfl ?_)))))))
   refine R_e ?_
   refine p16 _ _ _ ?_ ⟨(j+1),(v22+2),rfl,t0,t1,(eTq (rVq (V.sl (List.map cCl (wth (prC (prd (a.take k) b) (nth a k) (b.take j)) (unF (nth a k) ((nth b j).take q)))))) (by (rw [show q=(nth b j).length by omega,List.take_length,aDK (by omega)]; done))),t6,(eTq (rNq (j+1)) (by rfl)),h22.1,?_⟩
   · omega
   · omega
  refine aN (p36 _ _ _ (x5 _ _ (n4 _ _ (.done (W_t (aA t6 (bB rfl (rNq 1) (by omega) ?_)))))))
  refine aA rfl (R_e ?_)
  refine p12 _ _ _ ?_ ⟨(k+1),v22,rfl,t0,t1,(eTq t5 (by (rw [aCz (by omega),show j=b.length by omega,List.take_length]; done))),(eTq (rNq (k+1)) (by rfl)),h22,?_⟩
  · omega
  · omega
 refine aN (p32 _ _ _ (x1 _ _ (.done (W_r (aA t5 (aA rfl (R_e ?_)))))))
 refine aO ?_
 refine bI (rVq (V.sl (List.map cCl (prd (a.take k) b)))) (dB ?_ (fun _=>by simp))
 · rw [show k=a.length by omega,List.take_length]
set_option maxHeartbeats 2000000 in
theorem xL (f:Fm) (hok:okF f=true) (hz:f.sz≤268435456) (ih: ∀ (g:Fm),g.sz < f.sz→okF g=true→g.sz≤268435456→aQ Tryz.prog 92 [(V.agg (rFq g))] (V.tup [(V.sl (List.map cCl (rsV g))),(V.bool (clB g))])):aQ Tryz.prog 92 [(V.agg (rFq f))] (V.tup [(V.sl (List.map cCl (rsV f))),(V.bool (clB f))]):=by
 refine pW Tryz.func92 aP8 fun hB=>?_
 unfold s92
 dsimp only
 have hp:=bP hok
 have hr:=dE hp.1
 have hln:=f.sz_len
 have hsz:=Fm.sz_eq f
 refine W_r (cE (i:=1) (n:=0) (m:=3) (cs:=(rFq f)) rfl (cVq rfl) rfl rfl rfl (aA rfl (aA rfl (R_e (aB (W_r (aM rfl rfl ?_)))))))
 refine aJ rfl rfl rfl rfl (R_e (aD fun Q1 n1 x1 y1 z1=>(W_r (aY rfl rfl (aA rfl (R_e ?_))))))
 refine cD rfl (fun c2=>?_) fun c2=>?_
 ·
  refine W_r (aR rfl rfl (aA rfl (aA rfl (R_e (aO (y1 _ _ ?_))))))
  refine dC (rVq (V.sl [[V.nilsl]])) (rVq (V.bool true)) ?_ (bA ?_)
  · rw [(kD (f:=f) (by omega) (qK (by omega))).1]; simp [fzv,cCl]
  · rw [(kD (f:=f) (by omega) (qK (by omega))).2]
 refine W_r (aY rfl rfl (aA rfl (R_e ?_)))
 refine cD rfl (fun c3=>?_) fun c3=>?_
 ·
  refine aB (W_r (aM rfl rfl (aJ rfl rfl rfl rfl (bU (i:=0) (rVq (V.sl (List.map cF f.kids))) (rNq 0) (by omega) (bN _) rfl (jB (cs':=(rFq (nth f.kids 0))) rfl rfl (aG rfl rfl (aY rfl rfl ?_)))))))
  refine R_e ?_
  refine aH rfl (fun c4=>?_) fun c4=>?_
  ·
   refine aB (W_r (aA rfl (aA rfl (R_e (aL (y1 _ _ ?_))))))
   refine dC (rVq V.nilsl) (rVq (V.bool true)) (bT ?_) (bA ?_)
   · rw [(kD (f:=f) (by omega) (qT (by omega) (by omega))).1]
   · rw [(kD (f:=f) (by omega) (qT (by omega) (by omega))).2]
  refine aC (W_r (aJ rfl rfl rfl rfl (aR rfl rfl (aR rfl rfl (aA rfl (aA rfl (R_e ?_)))))))
  refine aO (y1 _ _ ?_)
  refine dC (rVq (V.sl [[(V.sl [(rFq f)])]])) (rVq (V.bool true)) (cG (by simp) ?_) (bA ?_)
  · rw [(kD (f:=f) (by omega) (nD (by omega) (by omega))).1]; simp [cCl,bN]
  · rw [(kD (f:=f) (by omega) (nD (by omega) (by omega))).2]
 refine aB (W_r (aY rfl rfl (aA rfl (R_e ?_))))
 refine aH rfl (fun c5=>?_) fun c5=>?_
 ·
  refine aC ?_
  refine cD rfl (fun c6=>?_) fun c6=>?_
  ·
   refine W_r (aA rfl (R_e (aB ?_)))
   refine dO (fun T H=>T 1=(mPq 1)∧T 4=V.nilsl∧T 5=(iV 0)∧H 1=(bFq f)∧H 9=bZq∧H 11=bZq∧H 709=bZq∧True) ?_ ?_
   ·
    refine aA rfl ?_
    exact eD ⟨rfl,rfl,rfl,rfl,rfl,rfl,rfl,trivial⟩
   intro T H ⟨t1,t4,t5,h1,h9,h11,h709,_⟩
   refine aA7 t4 (cJ (R:=fun T H=>T 1=(mPq 1)∧T 4=(V.sl [])∧T 5=(iV 0)∧H 1=(bFq f)∧H 9=bZq∧H 11=bZq∧H 709=bZq∧True) ⟨(uTq t1),(aK _ _ _),(uTq t5),h1,h9,h11,h709,trivial⟩ ?_)
   intro T H ⟨t1,t4,t5,h1,h9,h11,h709,_⟩
   refine aD fun Q7 n7 x7 y7 z7=>?_
   refine bS (fun mm T H=> ∃ (k:Nat) (out:List Cl),mm=f.kids.length - k∧T 1=(mPq 1)∧T 4=(V.sl (List.map cCl out))∧T 5=(iV ((k:Nat):Int))∧H 1=(bFq f)∧H 9=bZq∧H 11=bZq∧H 709=bZq∧(k≤f.kids.length)∧(out.length≤4096*(k+1))∧(f.op=5→0 < k→GdS out∧fP (Fm.szs (f.kids.take k)) out∧cjL f.kids [[]]=cjL (f.kids.drop k) out)∧(f.op=6→djO f.kids []=djO (f.kids.drop k) out)) ?_ ?_
   ·
    refine ⟨_,0,[],rfl,t1,(eTq t4 (by rfl)),(eTq t5 rfl),h1,h9,h11,h709,?_,?_,?_,?_⟩
    · omega
    · exact Nat.zero_le _
    · intro _ q; omega
    · intro _; rfl
   intro mm T H ⟨k,out,hmm,t1,t4,t5,h1,h9,h11,h709,hk,hn,h5,h6⟩ Q8 p18 p28 p38
   unfold aHZ
   refine aB (W_r (aA t5 (aM t1 h1 (aJ rfl h1 rfl rfl (bG rfl (bM rfl rfl (R_e ?_)))))))
   refine aH rfl (fun c9=>?_) fun c9=>?_
   ·
    refine aC (aD fun Q10 n10 x10 y10 z10=>(W_r (aM t1 h1 (aJ rfl h1 rfl rfl (aA t5 (bU (i:=k) (rVq (V.sl (List.map cF f.kids))) (rNq k) (by omega) (bN _) rfl (aG rfl rfl ?_)))))))
    refine aI (ih (nth f.kids k) skq (hp.2 _ (by omega)) (szq hz)) rfl (aA rfl (bH rfl rfl (bH rfl rfl (aA rfl (aA rfl (R_e (aB ?_)))))))
    refine W_r (aA rfl (eN rfl (R_e ?_)))
    refine cC rfl (fun c11=>?_) (fun c11=>?_)
    ·
     have d0:clB (nth f.kids k)=false:=by simpa using c11
     have d9:=aJP (by omega) (by omega) h5 h6 d0
     refine aB (W_r (aA rfl (aA rfl (R_e (aL (y10 _ _ (p28 _ _ ?_)))))))
     refine y7 _ _ (y1 _ _ ?_)
     refine dC (rVq V.nilsl) (rVq (V.bool false)) (bT ?_) (bA ?_)
     · rw [d9.1]
     · rw [d9.2]
    have d0:clB (nth f.kids k)=true:=by simpa using c11
    have g1:=yY hok (show k < f.kids.length by omega) d0
    refine aC (aB (W_r (aA t5 (aY rfl rfl (R_e ?_)))))
    refine aH rfl (fun c12=>?_) fun c12=>?_
    ·
     have n5:f.op=5→Rs5 f k (rsV (nth f.kids k)):=fun _=>aAv hok (by omega) (by omega) d0
     have n6:f.op=6→djO f.kids []=djO (f.kids.drop (k+1)) (rsV (nth f.kids k)):=fun _=>aAG hok (by omega) (by omega) d0
     have nl:(rsV (nth f.kids k)).length≤4096*(k+1+1):=by have:=g1.2.1.len; omega
     refine W_r (aA rfl (aA rfl (R_e (W_r (aM t1 h1 (aJ rfl h1 rfl rfl (aY rfl rfl ?_)))))))
     refine aA rfl ?_
     refine aV 4 (fun T H=>T 1=(mPq 1)∧T 4=(V.sl (List.map cCl (rsV (nth f.kids k))))∧T 5=(iV ((k:Nat):Int))∧T 78=(V.bool (decide ((f.op=(5:Int))∧((64:Int) < (((rsV (nth f.kids k)).length:Nat):Int)))))∧H 1=(bFq f)∧H 9=bZq∧H 11=bZq∧H 709=bZq∧True) ?_ ?_
     ·
      by_cases g13:f.op=(5:Int)
      ·
       refine aF (edT g13 rfl) (aA rfl (aF (edT g13 rfl) (bG rfl (aF (edT g13 rfl) (fJ rfl rfl (aS (edT g13 rfl) rfl ?_))))))
       exact ⟨t1,rfl,t5,(dH g13),h1,h9,h11,h709,trivial⟩
      ·
       refine G_n (edF g13 rfl) (G_n (edF g13 rfl) (G_n (edF g13 rfl) (aT (edF g13 rfl) rfl ?_)))
       exact ⟨t1,rfl,t5,(dG g13),h1,h9,h11,h709,trivial⟩
     intro T H ⟨t1,t4,t5,t78,h1,h9,h11,h709,_⟩
     refine R_e ?_
     refine cD t78 (fun c14=>?_) fun c14=>?_
     ·
      have d9:=mN (f:=f) (sP (by omega) (n5 (by omega)) (by omega)) (fun q=>absurd q (by omega))
      refine W_r (aA rfl (aA rfl (R_e (aO (y10 _ _ (p28 _ _ (y7 _ _ ?_)))))))
      refine y1 _ _ ?_
      refine dC (rVq V.nilsl) (rVq (V.bool false)) (bT ?_) (bA ?_)
      · rw [d9.1]
      · rw [d9.2]
     have d78:=c14
     refine cM (n10 _ _ (.done (W_t (aA t5 (bB rfl (rNq 1) (by omega) (aA rfl (R_e ?_)))))))
     refine p18 _ _ _ ?_ ⟨(k+1),(rsV (nth f.kids k)),rfl,t1,(eTq t4 (by rfl)),(eTq (rNq (k+1)) (by rfl)),h1,h9,h11,h709,?_,?_,?_,?_⟩
     · omega
     · omega
     · exact nl
     · intro q1 _; exact tI (n5 q1) (fun e=>d78 ⟨q1,by omega⟩)
     · exact n6
    refine aB (W_r (aM t1 h1 (aJ rfl h1 rfl rfl (aY rfl rfl (R_e ?_)))))
    refine aH rfl (fun c15=>?_) fun c15=>?_
    ·
     have h5x:=h5 (by omega) (by omega)
     have n5:f.op=5→Rs5 f k (prd out (rsV (nth f.kids k))):=fun _=>aIq hok (by omega) h5x.1 h5x.2.1 h5x.2.2 d0
     have n6:f.op=6→djO f.kids []=djO (f.kids.drop (k+1)) (prd out (rsV (nth f.kids k))):=fun q=>absurd q (by omega)
     have nl:(prd out (rsV (nth f.kids k))).length≤4096*(k+1+1):=by have q:=aGV h5x.1.len g1.2.1.len; omega
     refine W_r (aA t4 (aA rfl (aI (aCL out (rsV (nth f.kids k)) (fun q hq=>h5x.1.ant.at_ hq) (fun q hq=>Nat.le_trans (h5x.2.1.at_ hq) (by have:=nV f.kids k; omega)) (fun q hq=>Nat.le_trans (g1.2.2.at_ hq) (by have:=Fm.szs_nth (l:=f.kids) (k:=k) (by omega); omega)) h5x.1.len (Nat.le_trans g1.2.1.len (by decide))) rfl (aA rfl (R_e (W_r (aM t1 h1 ?_)))))))
     refine aJ rfl h1 rfl rfl (aY rfl rfl (aA rfl ?_))
     refine aV 4 (fun T H=>T 1=(mPq 1)∧T 4=(V.sl (List.map cCl (prd out (rsV (nth f.kids k)))))∧T 5=(iV ((k:Nat):Int))∧T 78=(V.bool (decide ((f.op=(5:Int))∧((64:Int) < (((prd out (rsV (nth f.kids k))).length:Nat):Int)))))∧H 1=(bFq f)∧H 9=bZq∧H 11=bZq∧H 709=bZq∧True) ?_ ?_
     ·
      by_cases g16:f.op=(5:Int)
      ·
       refine aF (edT g16 rfl) (aA rfl (aF (edT g16 rfl) (bG rfl (aF (edT g16 rfl) (fJ rfl rfl (aS (edT g16 rfl) rfl ?_))))))
       exact ⟨t1,rfl,t5,(dH g16),h1,h9,h11,h709,trivial⟩
      ·
       refine G_n (edF g16 rfl) (G_n (edF g16 rfl) (G_n (edF g16 rfl) (aT (edF g16 rfl) rfl ?_)))
       exact ⟨t1,rfl,t5,(dG g16),h1,h9,h11,h709,trivial⟩
     intro T H ⟨t1,t4,t5,t78,h1,h9,h11,h709,_⟩
     refine R_e ?_
     refine cD t78 (fun c17=>?_) fun c17=>?_
     ·
      have d9:=mN (f:=f) (sP (by omega) (n5 (by omega)) (by omega)) (fun q=>absurd q (by omega))
      refine W_r (aA rfl (aA rfl (R_e (aO (y10 _ _ (p28 _ _ (y7 _ _ ?_)))))))
      refine y1 _ _ ?_
      refine dC (rVq V.nilsl) (rVq (V.bool false)) (bT ?_) (bA ?_)
      · rw [d9.1]
      · rw [d9.2]
     have d78:=c17
     refine cM (n10 _ _ (.done (W_t (aA t5 (bB rfl (rNq 1) (by omega) (aA rfl (R_e ?_)))))))
     refine p18 _ _ _ ?_ ⟨(k+1),(prd out (rsV (nth f.kids k))),rfl,t1,(eTq t4 (by rfl)),(eTq (rNq (k+1)) (by rfl)),h1,h9,h11,h709,?_,?_,?_,?_⟩
     · omega
     · omega
     · exact nl
     · intro q1 _; exact tI (n5 q1) (fun e=>d78 ⟨q1,by omega⟩)
     · exact n6
    · exact (c15 c6).elim
   have d8:rsV f=out∧clB f=decide (out.length≤64):=aIn hr (by omega) h5 h6 (by omega)
   refine aN (p38 _ _ _ (x7 _ _ (.done (W_r (aA t4 (aA t4 (bG rfl ?_)))))))
   refine qO rfl rfl (aA rfl (aA rfl (R_e (aO (y1 _ _ ?_)))))
   refine dC (rVq (V.sl (List.map cCl out))) (rVq (V.bool (decide (((out.length:Nat):Int)≤(64:Int))))) (dB ?_ (fun _=>by simp)) (bA ?_)
   · rw [d8.1]
   · rw [d8.2]; exact decide_eq_decide.2 (by omega)
  · exact (c6 c5).elim
 refine W_r (aY rfl rfl (aA rfl (R_e ?_)))
 refine cD rfl (fun c18=>?_) fun c18=>?_
 ·
  refine W_r (aA rfl (R_e (aB ?_)))
  refine dO (fun T H=>T 1=(mPq 1)∧T 4=V.nilsl∧T 5=(iV 0)∧H 1=(bFq f)∧H 9=bZq∧H 11=bZq∧H 709=bZq∧True) ?_ ?_
  ·
   refine aA rfl ?_
   exact eD ⟨rfl,rfl,rfl,rfl,rfl,rfl,rfl,trivial⟩
  intro T H ⟨t1,t4,t5,h1,h9,h11,h709,_⟩
  refine aA7 t4 (cJ (R:=fun T H=>T 1=(mPq 1)∧T 4=(V.sl [])∧T 5=(iV 0)∧H 1=(bFq f)∧H 9=bZq∧H 11=bZq∧H 709=bZq∧True) ⟨(uTq t1),(aK _ _ _),(uTq t5),h1,h9,h11,h709,trivial⟩ ?_)
  intro T H ⟨t1,t4,t5,h1,h9,h11,h709,_⟩
  refine aD fun Q19 n19 x19 y19 z19=>?_
  refine bS (fun mm T H=> ∃ (k:Nat) (out:List Cl),mm=f.kids.length - k∧T 1=(mPq 1)∧T 4=(V.sl (List.map cCl out))∧T 5=(iV ((k:Nat):Int))∧H 1=(bFq f)∧H 9=bZq∧H 11=bZq∧H 709=bZq∧(k≤f.kids.length)∧(out.length≤4096*(k+1))∧(f.op=5→0 < k→GdS out∧fP (Fm.szs (f.kids.take k)) out∧cjL f.kids [[]]=cjL (f.kids.drop k) out)∧(f.op=6→djO f.kids []=djO (f.kids.drop k) out)) ?_ ?_
  ·
   refine ⟨_,0,[],rfl,t1,(eTq t4 (by rfl)),(eTq t5 rfl),h1,h9,h11,h709,?_,?_,?_,?_⟩
   · omega
   · exact Nat.zero_le _
   · intro _ q; omega
   · intro _; rfl
  intro mm T H ⟨k,out,hmm,t1,t4,t5,h1,h9,h11,h709,hk,hn,h5,h6⟩ Q20 p120 p220 p320
  unfold aHZ
  refine aB (W_r (aA t5 (aM t1 h1 (aJ rfl h1 rfl rfl (bG rfl (bM rfl rfl (R_e ?_)))))))
  refine aH rfl (fun c21=>?_) fun c21=>?_
  ·
   refine aC (aD fun Q22 n22 x22 y22 z22=>(W_r (aM t1 h1 (aJ rfl h1 rfl rfl (aA t5 (bU (i:=k) (rVq (V.sl (List.map cF f.kids))) (rNq k) (by omega) (bN _) rfl (aG rfl rfl ?_)))))))
   refine aI (ih (nth f.kids k) skq (hp.2 _ (by omega)) (szq hz)) rfl (aA rfl (bH rfl rfl (bH rfl rfl (aA rfl (aA rfl (R_e (aB ?_)))))))
   refine W_r (aA rfl (eN rfl (R_e ?_)))
   refine cC rfl (fun c23=>?_) (fun c23=>?_)
   ·
    have d0:clB (nth f.kids k)=false:=by simpa using c23
    have d9:=aJP (by omega) (by omega) h5 h6 d0
    refine aB (W_r (aA rfl (aA rfl (R_e (aL (y22 _ _ (p220 _ _ ?_)))))))
    refine y19 _ _ (y1 _ _ ?_)
    refine dC (rVq V.nilsl) (rVq (V.bool false)) (bT ?_) (bA ?_)
    · rw [d9.1]
    · rw [d9.2]
   have d0:clB (nth f.kids k)=true:=by simpa using c23
   have g1:=yY hok (show k < f.kids.length by omega) d0
   refine aC (aB (W_r (aA t5 (aY rfl rfl (R_e ?_)))))
   refine aH rfl (fun c24=>?_) fun c24=>?_
   ·
    have n5:f.op=5→Rs5 f k (rsV (nth f.kids k)):=fun _=>aAv hok (by omega) (by omega) d0
    have n6:f.op=6→djO f.kids []=djO (f.kids.drop (k+1)) (rsV (nth f.kids k)):=fun _=>aAG hok (by omega) (by omega) d0
    have nl:(rsV (nth f.kids k)).length≤4096*(k+1+1):=by have:=g1.2.1.len; omega
    refine W_r (aA rfl (aA rfl (R_e (W_r (aM t1 h1 (aJ rfl h1 rfl rfl (aY rfl rfl ?_)))))))
    refine aA rfl ?_
    refine aV 4 (fun T H=>T 1=(mPq 1)∧T 4=(V.sl (List.map cCl (rsV (nth f.kids k))))∧T 5=(iV ((k:Nat):Int))∧T 78=(V.bool (decide ((f.op=(5:Int))∧((64:Int) < (((rsV (nth f.kids k)).length:Nat):Int)))))∧H 1=(bFq f)∧H 9=bZq∧H 11=bZq∧H 709=bZq∧True) ?_ ?_
    ·
     by_cases g25:f.op=(5:Int)
     ·
      refine aF (edT g25 rfl) (aA rfl (aF (edT g25 rfl) (bG rfl (aF (edT g25 rfl) (fJ rfl rfl (aS (edT g25 rfl) rfl ?_))))))
      exact ⟨t1,rfl,t5,(dH g25),h1,h9,h11,h709,trivial⟩
     ·
      refine G_n (edF g25 rfl) (G_n (edF g25 rfl) (G_n (edF g25 rfl) (aT (edF g25 rfl) rfl ?_)))
      exact ⟨t1,rfl,t5,(dG g25),h1,h9,h11,h709,trivial⟩
    intro T H ⟨t1,t4,t5,t78,h1,h9,h11,h709,_⟩
    refine R_e ?_
    refine cD t78 (fun c26=>?_) fun c26=>?_
    ·
     have d9:=mN (f:=f) (sP (by omega) (n5 (by omega)) (by omega)) (fun q=>absurd q (by omega))
     refine W_r (aA rfl (aA rfl (R_e (aO (y22 _ _ (p220 _ _ (y19 _ _ ?_)))))))
     refine y1 _ _ ?_
     refine dC (rVq V.nilsl) (rVq (V.bool false)) (bT ?_) (bA ?_)
     · rw [d9.1]
     · rw [d9.2]
    have d78:=c26
    refine cM (n22 _ _ (.done (W_t (aA t5 (bB rfl (rNq 1) (by omega) (aA rfl (R_e ?_)))))))
    refine p120 _ _ _ ?_ ⟨(k+1),(rsV (nth f.kids k)),rfl,t1,(eTq t4 (by rfl)),(eTq (rNq (k+1)) (by rfl)),h1,h9,h11,h709,?_,?_,?_,?_⟩
    · omega
    · omega
    · exact nl
    · intro q1 _; exact tI (n5 q1) (fun e=>d78 ⟨q1,by omega⟩)
    · exact n6
   refine aB (W_r (aM t1 h1 (aJ rfl h1 rfl rfl (aY rfl rfl (R_e ?_)))))
   refine aH rfl (fun c27=>?_) fun c27=>?_
   · exact (c5 c27).elim
   refine aB (W_r (aA rfl (R_e (aD fun Q28 n28 x28 y28 z28=>?_))))
   refine bS (fun mm T H=> ∃ (j:Nat),mm=(rsV (nth f.kids k)).length - j∧T 1=(mPq 1)∧T 4=(V.sl (List.map cCl (wths out ((rsV (nth f.kids k)).take j))))∧T 5=(iV ((k:Nat):Int))∧T 6=(V.sl (List.map cCl (rsV (nth f.kids k))))∧T 8=(iV ((j:Nat):Int))∧H 1=(bFq f)∧H 9=bZq∧H 11=bZq∧H 709=bZq∧(j≤(rsV (nth f.kids k)).length)) ?_ ?_
   ·
    refine ⟨_,0,rfl,t1,(eTq t4 (by rfl)),t5,rfl,(eTq (rVq (iV 0)) rfl),h1,h9,h11,h709,?_⟩
    · omega
   intro mm T H ⟨j,hmm,t1,t4,t5,t6,t8,h1,h9,h11,h709,hj⟩ Q29 p129 p229 p329
   unfold aNp
   have hW:=tY out (rsV (nth f.kids k)) j
   have hG:=g1.2.1.len
   refine aB (W_r (aA t8 (aA t6 (bG rfl (bM rfl rfl (R_e ?_))))))
   refine aH rfl (fun c30=>?_) fun c30=>?_
   ·
    refine aC (aD fun Q31 n31 x31 y31 z31=>(W_t (aA t4 (aA t6 (aA t8 (cY (i:=j) (rVq (V.sl (List.map cCl (rsV (nth f.kids k))))) (rNq j) (by omega) rfl (aG rfl rfl ?_)))))))
    refine aI (aAW (wths out ((rsV (nth f.kids k)).take j)) (nth (rsV (nth f.kids k)) j) (by omega)) rfl (aA rfl (R_e (n31 _ _ (.done (W_t (aA t8 (bB rfl (rNq 1) (by omega) ?_)))))))
    refine aA rfl (R_e ?_)
    refine p129 _ _ _ ?_ ⟨(j+1),rfl,t1,(eTq (rVq (V.sl (List.map cCl (wth (wths out ((rsV (nth f.kids k)).take j)) (nth (rsV (nth f.kids k)) j))))) (by (rw [aA1 (by omega)]; done))),t5,t6,(eTq (rNq (j+1)) (by rfl)),h1,h9,h11,h709,?_⟩
    · omega
    · omega
   have hj2:(rsV (nth f.kids k)).take j=(rsV (nth f.kids k)):=by rw [show j=(rsV (nth f.kids k)).length by omega,List.take_length]
   have n5:f.op=5→Rs5 f k (wths out ((rsV (nth f.kids k)).take j)):=fun q=>absurd q (by omega)
   have n6:f.op=6→djO f.kids []=djO (f.kids.drop (k+1)) (wths out ((rsV (nth f.kids k)).take j)):=fun q=>by rw [hj2]; exact aIO (by omega) (h6 q) d0
   have nl:(wths out ((rsV (nth f.kids k)).take j)).length≤4096*(k+1+1):=by omega
   refine aN (p329 _ _ _ (x28 _ _ (.done (W_r (aM t1 h1 (aJ rfl h1 rfl rfl (aY rfl rfl ?_)))))))
   refine aA rfl ?_
   refine aV 4 (fun T H=>T 1=(mPq 1)∧T 4=(V.sl (List.map cCl (wths out ((rsV (nth f.kids k)).take j))))∧T 5=(iV ((k:Nat):Int))∧T 78=(V.bool (decide ((f.op=(5:Int))∧((64:Int) < (((wths out ((rsV (nth f.kids k)).take j)).length:Nat):Int)))))∧H 1=(bFq f)∧H 9=bZq∧H 11=bZq∧H 709=bZq∧True) ?_ ?_
   ·
    by_cases g32:f.op=(5:Int)
    ·
     refine aF (edT g32 rfl) (aA t4 (aF (edT g32 rfl) (bG rfl (aF (edT g32 rfl) (fJ rfl rfl (aS (edT g32 rfl) rfl ?_))))))
     exact ⟨t1,t4,t5,(dH g32),h1,h9,h11,h709,trivial⟩
    ·
     refine G_n (edF g32 rfl) (G_n (edF g32 rfl) (G_n (edF g32 rfl) (aT (edF g32 rfl) rfl ?_)))
     exact ⟨t1,t4,t5,(dG g32),h1,h9,h11,h709,trivial⟩
   intro T H ⟨t1,t4,t5,t78,h1,h9,h11,h709,_⟩
   refine R_e ?_
   refine cD t78 (fun c33=>?_) fun c33=>?_
   ·
    have d9:=mN (f:=f) (sP (by omega) (n5 (by omega)) (by omega)) (fun q=>absurd q (by omega))
    refine W_r (aA rfl (aA rfl (R_e (aO (y22 _ _ (p220 _ _ (y19 _ _ ?_)))))))
    refine y1 _ _ ?_
    refine dC (rVq V.nilsl) (rVq (V.bool false)) (bT ?_) (bA ?_)
    · rw [d9.1]
    · rw [d9.2]
   have d78:=c33
   refine cM (n22 _ _ (.done (W_t (aA t5 (bB rfl (rNq 1) (by omega) (aA rfl (R_e ?_)))))))
   refine p120 _ _ _ ?_ ⟨(k+1),(wths out ((rsV (nth f.kids k)).take j)),rfl,t1,(eTq t4 (by rfl)),(eTq (rNq (k+1)) (by rfl)),h1,h9,h11,h709,?_,?_,?_,?_⟩
   · omega
   · omega
   · exact nl
   · intro q1 _; exact tI (n5 q1) (fun e=>d78 ⟨q1,by omega⟩)
   · exact n6
  have d8:rsV f=out∧clB f=decide (out.length≤64):=aIn hr (by omega) h5 h6 (by omega)
  refine aN (p320 _ _ _ (x19 _ _ (.done (W_r (aA t4 (aA t4 (bG rfl ?_)))))))
  refine qO rfl rfl (aA rfl (aA rfl (R_e (aO (y1 _ _ ?_)))))
  refine dC (rVq (V.sl (List.map cCl out))) (rVq (V.bool (decide (((out.length:Nat):Int)≤(64:Int))))) (dB ?_ (fun _=>by simp)) (bA ?_)
  · rw [d8.1]
  · rw [d8.2]; exact decide_eq_decide.2 (by omega)
 refine cM (n1 _ _ (.done (W_r (aM rfl rfl (aJ rfl rfl rfl rfl (aM rfl rfl (aJ rfl rfl rfl rfl ?_)))))))
 refine aW rfl rfl (aU (i:=9) (n:=0) (m:=3) rfl (cVq rfl) rfl (bF rfl rfl rfl rfl rfl rfl rfl rfl rfl (R_e (aB ?_))))
 refine dO (fun T H=>T 1=(mPq 1)∧T 9=(mPq 9)∧T 10=(iV 0)∧H 1=(bFq f)∧H 9=(bk 1 24 3 [[(iV f.op),(iV f.arg),V.nilsl]])∧H 11=bZq∧H 709=bZq∧True) ?_ ?_
 ·
  refine aA rfl ?_
  exact eD ⟨rfl,rfl,rfl,rfl,rfl,rfl,rfl,trivial⟩
 intro T H ⟨t1,t9,t10,h1,h9,h11,h709,_⟩
 refine .lazyCell 709 24 3 9 0 2 [(iV f.op),(iV f.arg),V.nilsl] (by decide) (by rw [h9]; rfl) (by rw [h9]; rfl) rfl (.done ?_)
 refine cJ (R:=fun T H=>T 1=(mPq 1)∧T 9=(mPq 9)∧T 10=(iV 0)∧H 1=(bFq f)∧H 9=(bk 1 24 3 [[(iV f.op),(iV f.arg),(V.ms 709 1 0 0)]])∧H 11=bZq∧H 709=(bz 1 24 3 [])∧True) ⟨t1,t9,t10,(uTq (uTq h1)),(by rw [aK,h9,(cVq h709)]; rfl),(uTq (uTq h11)),(by rw [bD _ _ (by decide),aK,(cVq h709)]),trivial⟩ ?_
 intro T H ⟨t1,t9,t10,h1,h9,h11,h709,_⟩
 refine aD fun Q34 n34 x34 y34 z34=>?_
 refine bS (fun mm T H=> ∃ (k:Nat) (w:Nat) (g:List Fm) (v11:Nat),mm=f.kids.length - k∧T 1=(mPq 1)∧T 9=(mPq 9)∧T 10=(iV ((k:Nat):Int))∧H 1=(bFq f)∧H 9=(bk 1 24 3 [[(iV f.op),(iV f.arg),(V.ms 709 w 0 k)]])∧((H 11).ver=v11∧(H 11).live=false)∧H 709=(bz w 24 3 (List.map cF g))∧(k≤f.kids.length)∧(g.length=k)∧(fA f.kids=(fA (f.kids.drop k)).map fun r=>g++r)) ?_ ?_
 ·
  refine ⟨_,0,1,[],0,rfl,t1,t9,(eTq t10 rfl),h1,h9,⟨(cVq h11),congrArg Blk.live h11⟩,(eTq h709 (by rfl)),?_,?_,?_⟩
  · omega
  · rfl
  · simp
 intro mm T H ⟨k,w,g,v11,hmm,t1,t9,t10,h1,h9,h11,h709,hk,hg,hc⟩ Q35 p135 p235 p335
 unfold aOq
 refine aB (W_r (aA t10 (aM t1 h1 (aJ rfl h1 rfl rfl (bG rfl (bM rfl rfl (R_e ?_)))))))
 refine aH rfl (fun c36=>?_) fun c36=>?_
 ·
  refine aC (aD fun Q37 n37 x37 y37 z37=>(W_r (aM t1 h1 (aJ rfl h1 rfl rfl (aA t10 (bU (i:=k) (rVq (V.sl (List.map cF f.kids))) (rNq k) (by omega) (bN _) rfl (aG rfl rfl ?_)))))))
  refine aI (aAJ (nth f.kids k) (hp.2 k (by omega)) (szq hz) ((fun k h=>ih (nth f.kids k) (Fm.sz_kid h) (hp.2 k h) (Nat.le_trans (Nat.le_of_lt (Fm.sz_kid h)) hz)) k (by omega))) rfl (aA rfl (bH rfl rfl (bH rfl rfl (aU (i:=11) (n:=v11) (m:=3) rfl h11.1 rfl (bF rfl rfl rfl rfl rfl rfl rfl rfl rfl (aA rfl (R_e ?_)))))))
  refine aB (W_r (aA rfl (eN rfl (R_e ?_))))
  refine cC rfl (fun c38=>?_) (fun c38=>?_)
  ·
   have d9:=mN (f:=f) (aGC (by omega) hc (by omega) (aEo (by simpa using c38))) (fun q=>absurd q (by omega))
   refine aB (W_r (aA rfl (aA rfl (R_e (aL (y37 _ _ (p235 _ _ ?_)))))))
   refine y34 _ _ ?_
   refine dC (rVq V.nilsl) (rVq (V.bool false)) (bT ?_) (bA ?_)
   · rw [d9.1]
   · rw [d9.2]
  have d1:=aFy hc (by omega) (aGK (by simpa using c38))
  refine aC (W_t (aM t9 h9 (aJ rfl h9 rfl rfl (aJ rfl rfl rfl rfl (aR rfl rfl (bX (l:=g) (f:=cF) (x:=(gV (can (nth f.kids k)))) (rVq (V.ms 709 w 0 k)) h709 (by exact hg.symm) (fU (x:=(gV (can (nth f.kids k)))) (rVq (V.sl [(rFq (gV (can (nth f.kids k))))]))) (eV _) (fC _) (by omega) (by omega) (aM t9 h9 ?_)))))))
  refine bF rfl rfl rfl h9 rfl rfl rfl rfl rfl (R_e (n37 _ _ (cJ (R:=fun T H=>T 1=(mPq 1)∧T 9=(mPq 9)∧T 10=(iV ((k:Nat):Int))∧H 1=(bFq f)∧H 9=(bk 1 24 3 [[(iV f.op),(iV f.arg),(V.ms 709 (w+1) 0 (k+1))]])∧H 11=(bk (v11+1) 24 3 [(rFq (gV (can (nth f.kids k))))])∧H 709=(bz (w+1) 24 3 (List.map cF (g++[(gV (can (nth f.kids k)))])))∧True) ⟨t1,t9,t10,h1,rfl,rfl,rfl,trivial⟩ ?_)))
  intro T H ⟨t1,t9,t10,h1,h9,h11,h709,_⟩
  refine .freeze 11 (.done ?_)
  refine cJ (R:=fun T H=>T 1=(mPq 1)∧T 9=(mPq 9)∧T 10=(iV ((k:Nat):Int))∧H 1=(bFq f)∧H 9=(bk 1 24 3 [[(iV f.op),(iV f.arg),(V.ms 709 (w+1) 0 (k+1))]])∧((H 11).ver=v11+1∧(H 11).live=false)∧H 709=(bz (w+1) 24 3 (List.map cF (g++[(gV (can (nth f.kids k)))])))∧True) ⟨(bW t1 rfl),(bW t9 rfl),(bW t10 rfl),(bQ h1 (by decide)),(bQ h9 (by decide)),(dZ (cVq h11)),(bQ h709 (by decide)),trivial⟩ ?_
  intro T H ⟨t1,t9,t10,h1,h9,h11,h709,_⟩
  refine W_t (aA t10 (bB rfl (rNq 1) (by omega) (aA rfl (R_e ?_))))
  refine p135 _ _ _ ?_ ⟨(k+1),(w+1),(g++[gV (can (nth f.kids k))]),(v11+1),rfl,t1,t9,(eTq (rNq (k+1)) (by rfl)),h1,(eTq h9 (by rfl)),h11,(eTq h709 (by rfl)),?_,?_,?_⟩
  · omega
  · omega
  · simp; exact hg
  · exact d1
 have d8:=aQW hr (by omega) hg hk hc (by omega)
 refine aN (p335 _ _ _ (x34 _ _ (cJ (R:=fun T H=>T 1=(mPq 1)∧T 9=(mPq 9)∧T 10=(iV ((k:Nat):Int))∧T 92=(V.bool (decide (((k:Nat):Int) < ((f.kids.length:Nat):Int))))∧H 1=(bFq f)∧H 9=(bk 1 24 3 [[(iV f.op),(iV f.arg),(V.ms 709 w 0 k)]])∧((H 11).ver=v11∧(H 11).live=false)∧H 709=(bz w 24 3 (List.map cF g))∧True) ⟨t1,t9,t10,(rVq (V.bool (decide (((k:Nat):Int) < ((f.kids.length:Nat):Int))))),h1,h9,h11,h709,trivial⟩ ?_)))
 intro T H ⟨t1,t9,t10,t92,h1,h9,h11,h709,_⟩
 refine aA4 (id:=709) (id2:=9) (rows:=[[(iV f.op),(iV f.arg),(V.ms 709 w 0 k)]]) (i:=0) (off:=2) (r:=[(iV f.op),(iV f.arg),(V.ms 709 w 0 k)]) (m:=g) (g:=cF) (by decide) h709 h9 (by (simp; done)) (by exact hg.symm) rfl (.done ?_)
 refine cJ (R:=fun T H=>T 1=(mPq 1)∧T 9=(mPq 9)∧T 10=(iV ((k:Nat):Int))∧T 92=(V.bool (decide (((k:Nat):Int) < ((f.kids.length:Nat):Int))))∧H 1=(bFq f)∧H 9=(bk 1 24 3 [[(iV f.op),(iV f.arg),(V.sl (List.map cF g))]])∧((H 11).ver=v11∧(H 11).live=false)∧((H 709).ver=w∧(H 709).live=false)∧True) ⟨(bW t1 rfl),(bW t9 rfl),(bW t10 rfl),(bW t92 rfl),(uTq (bQ h1 (by decide))),(aK _ _ _),⟨(cVq (bD _ _ (by decide))).trans (iQ h11).1,(congrArg Blk.live (bD _ _ (by decide))).trans (iQ h11).2⟩,⟨(cVq (bD _ _ (by decide))).trans (dZ (cVq h709)).1,(congrArg Blk.live (bD _ _ (by decide))).trans (dZ (cVq h709)).2⟩,trivial⟩ ?_
 intro T H ⟨t1,t9,t10,t92,h1,h9,h11,h709,_⟩
 refine W_r (aJ t9 h9 rfl rfl (aR rfl rfl (aR rfl rfl (aA rfl (aA rfl (R_e (aO ?_)))))))
 refine dC (rVq (V.sl [[(V.sl [[(iV f.op),(iV f.arg),(V.sl (List.map cF g))]])]])) (rVq (V.bool true)) (cG (by simp) ?_) (bA ?_)
 · rw [d8.1]; simp [cCl,bN]; exact ⟨rfl,rfl,rfl⟩
 · rw [d8.2]
theorem aHm (f:Fm) (hok:okF f=true) (hz:f.sz≤268435456):aQ Tryz.prog 92 [(V.agg (rFq f))] (V.tup [(V.sl (List.map cCl (rsV f))),(V.bool (clB f))]):=by
  have key: ∀ (mm:Nat) (f:Fm),f.sz < mm→okF f=true→f.sz≤268435456→aQ Tryz.prog 92 [(V.agg (rFq f))] (V.tup [(V.sl (List.map cCl (rsV f))),(V.bool (clB f))]):=by
    intro mm
    induction mm with
    |zero=>intro f hlt; exact absurd hlt (Nat.not_lt_zero _)
    | succ mm ih =>
      intro f hlt hok hz
      exact xL f hok hz fun f2 hlt2=>ih f2 (by omega)
  exact key (f.sz+1) f (Nat.lt_succ_self _) hok hz
theorem sM (f:Fm) (hok:okF f=true) (hz:f.sz≤268435456):aQ Tryz.prog 38 [(V.agg (rFq f))] (V.tup [(V.agg (rFq ((chk f).1))),(iV ((chk f).2))]):=by
 refine pW Tryz.func38 aRi fun hB=>?_
 unfold s38
 dsimp only
 refine W_r (cE (i:=1) (n:=0) (m:=3) (cs:=(rFq f)) rfl (cVq rfl) rfl rfl rfl (aU (i:=2) (n:=0) (m:=3) rfl (cVq rfl) rfl (aA rfl (R_e (W_r (aJ rfl rfl rfl rfl (aI (aAJ f hok hz (aHm f hok hz)) rfl ?_)))))))
 refine aA rfl (bH rfl rfl (bH rfl rfl (aU (i:=4) (n:=0) (m:=3) rfl (cVq rfl) rfl (bF rfl rfl rfl rfl rfl rfl rfl rfl rfl (aA rfl (R_e (aB ?_)))))))
 refine W_r (aA rfl (eN rfl (R_e ?_)))
 refine cC rfl (fun c1=>?_) (fun c1=>?_)
 ·
  have d1:=aGF (aEo (by simpa using c1))
  have d2:=jI (aEo (by simpa using c1))
  refine aB (W_r (aW rfl rfl (bF rfl rfl rfl rfl rfl rfl rfl rfl rfl (aA rfl (R_e (aL ?_))))))
  refine eM (bC (u:=(V.agg [(iV 0),(iV 0),V.nilsl])) rfl (@rfl Blk bYq) (lB oB rfl rfl)) (bV (rVq (iV 11))) (bE (aE ?_) (aE ?_) (bT ?_)) (aE ?_)
  · rw [d1]; rfl
  · rw [d1]; rfl
  · rw [d1]; rfl
  · rw [d1,d2]; rfl
 have d0:=aGK (by simpa using c1)
 refine aC (aB (W_r (aJ rfl rfl rfl rfl (aI (eF (gV (can f))) rfl (bZ rfl rfl (R_e ?_))))))
 refine aH rfl (fun c2=>?_) fun c2=>?_
 ·
  have d1:=aGb d0 c2
  refine aB (W_r (aW rfl rfl (aJ rfl rfl rfl rfl (aI (eF (gV (can f))) rfl (bF rfl rfl rfl rfl rfl rfl rfl rfl rfl (aA rfl (R_e ?_)))))))
  refine aL ?_
  refine eM (bC (u:=(V.agg [(iV 0),(iV 0),V.nilsl])) rfl (@rfl Blk bYq) (lB oB rfl rfl)) (bV (rVq (iV (cX (gV (can f)))))) (bE (aE ?_) (aE ?_) (bT ?_)) (aE ?_)
  · rw [d1]; rfl
  · rw [d1]; rfl
  · rw [d1]; rfl
  · rw [d1]
 have d1:=aGy d0 c2
 refine aC (W_r (aJ rfl rfl rfl rfl (bF rfl rfl rfl rfl rfl rfl rfl rfl rfl (aA rfl (R_e (aO ?_))))))
 refine eM (bC (u:=(V.agg (rFq (gV (can f))))) rfl (@rfl Blk (bFq (gV (can f)))) (lB oB rfl rfl)) (bV (rVq (iV 0))) (bE (aE ?_) (aE ?_) (dB ?_ (fun _=>by simp))) (aE ?_)
 · rw [d1]
 · rw [d1]
 · rw [d1]
 · rw [d1]
def aTM:List SO:=[
 qF 11 2 2,
 ql 12 11,
 sO 13 (.idx 3 (.t 12) (.c (.int .i64 0))),
 qL 14 3 13,
 qM 15 1,
 sO 16 (.un .not (.t 15)),
 sO 17 (.call false 39 [.t 14,.t 16]),
 sN (.store 3 (.t 4) (.t 17))]
def aRI:List SO:=[
 qF 53 2 6,
 ql 54 53,
 qF 55 2 2,
 ql 56 55,
 qM 57 7,
 qA 58 3 56 57,
 qL 59 3 58,
 qM 60 1,
 sO 61 (.call false 39 [.t 59,.t 60]),
 sO 62 (.bslice 24 3 false zFq 1 [(0,.t 61)]),
 sO 63 (.append 24 3 40 (.t 54) (.t 62)),
 qF 64 2 6,
 sN (.store 1 (.t 64) (.t 63))]
def vO:SC:=.seq (.seq (.reg [qM 46 7,qF 47 2 2,ql 48 47,qN 49 48,qP 50 .lss 46 49]) (.cond (.t 50) (.skip) (.exit 1))) (.seq (.block 2 (.reg aRI)) (.reg [qM 51 7,qC 52 .add 51 1,qM 7 52]))
def s39:SF:=⟨66,[.cell 4 true 3],.seq (.reg [sO 2 (.box 24 3 (.t 0)),sO 4 (.alloc 24 zFq)]) (.seq (.seq (.reg [qF 8 0 2,ql 9 8,qC 10 .eql 9 4]) (.cond (.t 10) (.seq (.reg aTM) (.ret)) (.skip))) (.seq (.seq (.reg [qF 18 2 2,ql 19 18,qN 20 19,qC 21 .eql 20 0]) (.cond (.t 21) (.seq (.seq (.reg [qM 22 1]) (.cond (.t 22) (.seq (.reg [qL 23 3 2,sO 24 (.bslice 24 3 false zFq 1 [(0,.t 23)]),sO 25 (.call false 65 [.c (.int .i64 4),.t 24]),sN (.store 3 (.t 4) (.t 25))]) (.ret)) (.skip))) (.seq (.reg [qL 26 3 2,sN (.store 3 (.t 4) (.t 26))]) (.ret))) (.skip))) (.seq (.reg [qF 27 0 2,ql 28 27,qM 5 28]) (.seq (.seq (.reg [qM 29 1]) (.cond (.t 29) (.seq (.reg [qF 30 0 2,ql 31 30]) (.block 0 (.seq (.reg [qC 33 .eql 31 5,qM 32 33]) (.cond (.t 32) (.reg [qI 5 6]) (.seq (.reg [qC 35 .eql 31 6,qM 34 35]) (.cond (.t 34) (.reg [qI 5 5]) (.seq (.reg [qC 37 .eql 31 7,qM 36 37]) (.cond (.t 36) (.reg [qI 5 9]) (.seq (.reg [qC 39 .eql 31 9,qM 38 39]) (.cond (.t 38) (.reg [qI 5 7]) (.seq (.reg [qC 41 .eql 31 8,qM 40 41]) (.cond (.t 40) (.reg [qI 5 10]) (.seq (.reg [qC 43 .eql 31 10,qM 42 43]) (.cond (.t 42) (.reg [qI 5 8]) (.skip))))))))))))))) (.skip))) (.seq (.reg [qM 44 5,sO 45 (.build zFq [(0,1,.t 44)]),sO 6 (.alloc 24 zFq),sN (.store 3 (.t 6) (.t 45))]) (.seq (.seq (.reg [qI 7 0]) (.block 1 (.loop vO))) (.seq (.reg [qL 65 3 6,sN (.store 3 (.t 4) (.t 65))]) (.ret))))))))⟩
theorem aP3:bJ Tryz.prog ⟨oEq,[],[],[]⟩ Tryz.f39=some s39:=by kernel_rfl
def s65:SF:=⟨8,[.cell 4 true 3],.seq (.reg [sO 4 (.alloc 24 zFq)]) (.seq (.reg [qM 5 0,qM 6 1,sO 7 (.build zFq [(0,1,.t 5),(2,1,.t 6)]),sN (.store 3 (.t 4) (.t 7))]) (.ret))⟩
theorem aR0:bJ Tryz.prog ⟨oEq,[],[],[]⟩ Tryz.f65=some s65:=by kernel_rfl
theorem aEq (o:Int) (l:List Fm):aQ Tryz.prog 65 [(iV o),(V.sl (List.map cF l))] (V.agg [(iV o),(iV 0),(V.sl (List.map cF l))]):=by
 refine pW Tryz.func65 aR0 fun hB=>?_
 unfold s65
 dsimp only
 refine W_r (aU (i:=4) (n:=0) (m:=3) rfl (cVq rfl) rfl (R_e (W_r (aA rfl (aA rfl (aW rfl rfl (bF rfl rfl rfl rfl rfl rfl rfl rfl rfl ?_)))))))
 refine R_e (aO ?_)
 refine cP (bC (u:=(V.agg [(iV o),(iV 0),(V.sl (List.map cF l))])) rfl (@rfl Blk (bk 1 24 3 [[(iV o),(iV 0),(V.sl (List.map cF l))]])) (lB oB rfl rfl)) (cG (by simp) rfl)
theorem sE (f:Fm) (b:Bool) (hf:okF f=true) (hz:f.sz≤4096) (ih: ∀ (g:Fm) (b:Bool),g.sz < f.sz→okF g=true→g.sz≤4096→aQ Tryz.prog 39 [(V.agg (rFq g)),(V.bool b)] (V.agg (rFq (nrm g b)))):aQ Tryz.prog 39 [(V.agg (rFq f)),(V.bool b)] (V.agg (rFq (nrm f b))):=by
 refine pW Tryz.func39 aP3 fun hB=>?_
 unfold s39
 dsimp only
 have hp:=bP hf
 have hr:=dE hp.1
 have hln:=f.sz_len
 refine W_r (cE (i:=2) (n:=0) (m:=3) (cs:=(rFq f)) rfl (cVq rfl) rfl rfl rfl (aU (i:=4) (n:=0) (m:=3) rfl (cVq rfl) rfl (R_e (aB (W_r (aM rfl rfl (aJ rfl rfl rfl rfl ?_)))))))
 refine aY rfl rfl (R_e ?_)
 refine aH rfl (fun c1=>?_) fun c1=>?_
 ·
  refine aB (W_r (aM rfl rfl (aJ rfl rfl rfl rfl (bU (i:=0) (rVq (V.sl (List.map cF f.kids))) (rNq 0) (by omega) (bN _) rfl (aG rfl rfl (aA rfl (eN rfl ?_)))))))
  refine aI (ih (nth f.kids 0) (!b) skq (hp.2 _ (by omega)) (szq hz)) rfl (bF rfl rfl rfl rfl rfl rfl rfl rfl rfl (R_e (aL ?_)))
  refine cP (bC (u:=(V.agg (rFq (nrm (nth f.kids 0) (!b))))) rfl (@rfl Blk (bFq (nrm (nth f.kids 0) (!b)))) (lB oB rfl rfl)) (bE (aE ?_) (aE ?_) (dB ?_ (fun _=>by simp)))
  · rw [jM (f:=f) (b:=b) (by omega) (by omega)]
  · rw [jM (f:=f) (b:=b) (by omega) (by omega)]
  · rw [jM (f:=f) (b:=b) (by omega) (by omega)]
 refine aC (aB (W_r (aM rfl rfl (aJ rfl rfl rfl rfl (bG rfl (aY rfl rfl (R_e ?_)))))))
 refine aH rfl (fun c2=>?_) fun c2=>?_
 ·
  refine aB (aB (W_r (aA rfl (R_e ?_))))
  refine cC rfl (fun c3=>?_) (fun c3=>?_)
  ·
   have hb:b=true:=c3
   refine aB (W_r (aJ rfl rfl rfl rfl (aR rfl rfl (aI (aEq (4:Int) ([f])) (bL rfl (bL (aFa (x:=f) rfl) eB)) (bF rfl rfl rfl rfl rfl rfl rfl rfl rfl (R_e (aL ?_)))))))
   refine cP (bC (u:=(V.agg [(iV (4:Int)),(iV 0),(V.sl (List.map cF ([f])))])) rfl (@rfl Blk (bk 1 24 3 [[(iV (4:Int)),(iV 0),(V.sl (List.map cF ([f])))]])) (lB oB rfl rfl)) (bE (aE ?_) (aE ?_) (dB ?_ (fun _=>by simp)))
   · rw [hb,zR (by omega) (by omega)]; rfl
   · rw [hb,zR (by omega) (by omega)]; rfl
   · rw [hb,zR (by omega) (by omega)]; rfl
  have hb:b=false:=by simpa using c3
  refine aC (aB (W_r (aJ rfl rfl rfl rfl (bF rfl rfl rfl rfl rfl rfl rfl rfl rfl (R_e (aL ?_))))))
  refine cP (bC (u:=(V.agg (rFq f))) rfl (@rfl Blk (bFq f)) (lB oB rfl rfl)) (bE (aE ?_) (aE ?_) (dB ?_ (fun _=>by simp)))
  · rw [hb,yO (by omega) (by omega)]
  · rw [hb,yO (by omega) (by omega)]
  · rw [hb,yO (by omega) (by omega)]
 refine aC (W_r (aM rfl rfl (aJ rfl rfl rfl rfl (aA rfl (R_e (aB (W_r ?_)))))))
 refine aA rfl (R_e ?_)
 refine cC rfl (fun c4=>?_) (fun c4=>?_)
 ·
  have hb:b=true:=c4
  refine aB (W_r (aM rfl rfl (aJ rfl rfl rfl rfl (R_e (aD fun Q5 n5 x5 y5 z5=>(W_r (aY rfl rfl ?_)))))))
  refine aA rfl (R_e ?_)
  refine cD rfl (fun c6=>?_) fun c6=>?_
  ·
   refine W_t (aA rfl (R_e (n5 _ _ (.done (W_r (aA rfl (aW rfl rfl ?_)))))))
   refine aU (i:=6) (n:=0) (m:=3) rfl (cVq rfl) rfl (bF rfl rfl rfl rfl rfl rfl rfl rfl rfl (R_e (aB ?_)))
   refine dO (fun T H=>T 1=(V.bool b)∧T 2=(mPq 2)∧T 4=(mPq 4)∧T 6=(mPq 6)∧T 7=(iV 0)∧H 2=(bFq f)∧H 4=bYq∧H 6=(bk 1 24 3 [[(iV 6),(iV 0),V.nilsl]])∧H 653=bZq∧True) ?_ ?_
   ·
    refine aA rfl ?_
    exact eD ⟨rfl,rfl,rfl,rfl,rfl,rfl,rfl,rfl,rfl,trivial⟩
   intro T H ⟨t1,t2,t4,t6,t7,h2,h4,h6,h653,_⟩
   refine .lazyCell 653 24 3 6 0 2 [(iV 6),(iV 0),V.nilsl] (by decide) (by rw [h6]; rfl) (by rw [h6]; rfl) rfl (.done ?_)
   refine cJ (R:=fun T H=>T 1=(V.bool b)∧T 2=(mPq 2)∧T 4=(mPq 4)∧T 6=(mPq 6)∧T 7=(iV 0)∧H 2=(bFq f)∧H 4=bYq∧H 6=(bk 1 24 3 [[(iV 6),(iV 0),(V.ms 653 1 0 0)]])∧H 653=(bz 1 24 3 [])∧True) ⟨t1,t2,t4,t6,t7,(uTq (uTq h2)),(uTq (uTq h4)),(by rw [aK,h6,(cVq h653)]; rfl),(by rw [bD _ _ (by decide),aK,(cVq h653)]),trivial⟩ ?_
   intro T H ⟨t1,t2,t4,t6,t7,h2,h4,h6,h653,_⟩
   refine aD fun Q7 n7 x7 y7 z7=>?_
   refine bS (fun mm T H=> ∃ (k:Nat) (w:Nat),mm=f.kids.length - k∧T 1=(V.bool b)∧T 2=(mPq 2)∧T 4=(mPq 4)∧T 6=(mPq 6)∧T 7=(iV ((k:Nat):Int))∧H 2=(bFq f)∧H 4=bYq∧H 6=(bk 1 24 3 [[(iV (nop f.op b)),(iV 0),(V.ms 653 w 0 k)]])∧H 653=(bz w 24 3 (List.map cF ((f.kids.take k).map (fun g=>nrm g b))))∧(k≤f.kids.length)) ?_ ?_
   ·
    refine ⟨_,0,1,rfl,t1,t2,t4,t6,(eTq t7 rfl),h2,h4,(eTq h6 (by (exact rP (by simp only [nop,gQ,hb,if_true,Bool.false_eq_true,if_false]; repeat (first|rfl|omega|split))))),(eTq h653 (by rfl)),?_⟩
    · omega
   intro mm T H ⟨k,w,hmm,t1,t2,t4,t6,t7,h2,h4,h6,h653,hk⟩ Q8 p18 p28 p38
   unfold vO
   refine aB (W_r (aA t7 (aM t2 h2 (aJ rfl h2 rfl rfl (bG rfl (bM rfl rfl (R_e ?_)))))))
   refine aH rfl (fun c9=>?_) fun c9=>?_
   ·
    refine aC (aD fun Q10 n10 x10 y10 z10=>(W_t (aM t6 h6 (aJ rfl h6 rfl rfl (aM t2 h2 (aJ rfl h2 rfl rfl (aA t7 ?_)))))))
    refine bU (i:=k) (rVq (V.sl (List.map cF f.kids))) (rNq k) (by omega) (bN _) rfl (aG rfl rfl (aA t1 (aI (ih (nth f.kids k) b skq (hp.2 _ (by omega)) (szq hz)) rfl (aR rfl rfl (bX (l:=((f.kids.take k).map (fun g=>nrm g b))) (f:=cF) (x:=(nrm (nth f.kids k) b)) (rVq (V.ms 653 w 0 k)) h653 (by (simp; omega)) (fU (x:=(nrm (nth f.kids k) b)) (rVq (V.sl [(rFq (nrm (nth f.kids k) b))]))) (eV _) (fC _) (by omega) (by omega) (aM t6 h6 (bF rfl rfl rfl h6 rfl rfl rfl rfl rfl ?_)))))))
    refine R_e (n10 _ _ (.done (W_t (aA t7 (bB rfl (rNq 1) (by omega) (aA rfl (R_e ?_)))))))
    refine p18 _ _ _ ?_ ⟨(k+1),(w+1),rfl,t1,t2,t4,t6,(eTq (rNq (k+1)) (by rfl)),h2,h4,(eTq (@rfl Blk (bk 1 24 3 [[(iV (nop f.op b)),(iV 0),(V.ms 653 (w+1) 0 (k+1))]])) (by rfl)),(eTq (@rfl Blk (bz (w+1) 24 3 (List.map cF ((f.kids.take k).map (fun g=>nrm g b)++[(nrm (nth f.kids k) b)])))) (by (rw [gD (by omega)]; done))),?_⟩
    · omega
    · omega
   refine aN (p38 _ _ _ (x7 _ _ (.done (W_r (aJ t6 h6 rfl rfl (bF t4 rfl rfl h4 rfl rfl rfl rfl rfl (R_e ?_)))))))
   refine aO ?_
   refine cP (bC (u:=(V.agg [(iV (nop f.op b)),(iV 0),(V.ms 653 w 0 k)])) t4 (@rfl Blk (bk 1 24 3 [[(iV (nop f.op b)),(iV 0),(V.ms 653 w 0 k)]])) (lB oB rfl rfl)) (bE (aE ?_) (aE ?_) (gL h653 (by simp) (l:=((f.kids.take k).map (fun g=>nrm g b))) rfl (by (simp; omega)) (fun _=>by simp) ?_))
   · rw [cS (by omega) (by omega)]; rfl
   · rw [cS (by omega) (by omega)]; rfl
   · rw [cS (by omega) (by omega)]; first|rfl|(show _=List.map _ f.kids; rw [show k=f.kids.length by omega,List.take_length]; done)
  refine W_r (aY rfl rfl (aA rfl (R_e ?_)))
  refine cD rfl (fun c11=>?_) fun c11=>?_
  ·
   refine W_t (aA rfl (R_e (n5 _ _ (.done (W_r (aA rfl (aW rfl rfl ?_)))))))
   refine aU (i:=6) (n:=0) (m:=3) rfl (cVq rfl) rfl (bF rfl rfl rfl rfl rfl rfl rfl rfl rfl (R_e (aB ?_)))
   refine dO (fun T H=>T 1=(V.bool b)∧T 2=(mPq 2)∧T 4=(mPq 4)∧T 6=(mPq 6)∧T 7=(iV 0)∧H 2=(bFq f)∧H 4=bYq∧H 6=(bk 1 24 3 [[(iV 5),(iV 0),V.nilsl]])∧H 653=bZq∧True) ?_ ?_
   ·
    refine aA rfl ?_
    exact eD ⟨rfl,rfl,rfl,rfl,rfl,rfl,rfl,rfl,rfl,trivial⟩
   intro T H ⟨t1,t2,t4,t6,t7,h2,h4,h6,h653,_⟩
   refine .lazyCell 653 24 3 6 0 2 [(iV 5),(iV 0),V.nilsl] (by decide) (by rw [h6]; rfl) (by rw [h6]; rfl) rfl (.done ?_)
   refine cJ (R:=fun T H=>T 1=(V.bool b)∧T 2=(mPq 2)∧T 4=(mPq 4)∧T 6=(mPq 6)∧T 7=(iV 0)∧H 2=(bFq f)∧H 4=bYq∧H 6=(bk 1 24 3 [[(iV 5),(iV 0),(V.ms 653 1 0 0)]])∧H 653=(bz 1 24 3 [])∧True) ⟨t1,t2,t4,t6,t7,(uTq (uTq h2)),(uTq (uTq h4)),(by rw [aK,h6,(cVq h653)]; rfl),(by rw [bD _ _ (by decide),aK,(cVq h653)]),trivial⟩ ?_
   intro T H ⟨t1,t2,t4,t6,t7,h2,h4,h6,h653,_⟩
   refine aD fun Q12 n12 x12 y12 z12=>?_
   refine bS (fun mm T H=> ∃ (k:Nat) (w:Nat),mm=f.kids.length - k∧T 1=(V.bool b)∧T 2=(mPq 2)∧T 4=(mPq 4)∧T 6=(mPq 6)∧T 7=(iV ((k:Nat):Int))∧H 2=(bFq f)∧H 4=bYq∧H 6=(bk 1 24 3 [[(iV (nop f.op b)),(iV 0),(V.ms 653 w 0 k)]])∧H 653=(bz w 24 3 (List.map cF ((f.kids.take k).map (fun g=>nrm g b))))∧(k≤f.kids.length)) ?_ ?_
   ·
    refine ⟨_,0,1,rfl,t1,t2,t4,t6,(eTq t7 rfl),h2,h4,(eTq h6 (by (exact rP (by simp only [nop,gQ,hb,if_true,Bool.false_eq_true,if_false]; repeat (first|rfl|omega|split))))),(eTq h653 (by rfl)),?_⟩
    · omega
   intro mm T H ⟨k,w,hmm,t1,t2,t4,t6,t7,h2,h4,h6,h653,hk⟩ Q13 p113 p213 p313
   unfold vO
   refine aB (W_r (aA t7 (aM t2 h2 (aJ rfl h2 rfl rfl (bG rfl (bM rfl rfl (R_e ?_)))))))
   refine aH rfl (fun c14=>?_) fun c14=>?_
   ·
    refine aC (aD fun Q15 n15 x15 y15 z15=>(W_t (aM t6 h6 (aJ rfl h6 rfl rfl (aM t2 h2 (aJ rfl h2 rfl rfl (aA t7 ?_)))))))
    refine bU (i:=k) (rVq (V.sl (List.map cF f.kids))) (rNq k) (by omega) (bN _) rfl (aG rfl rfl (aA t1 (aI (ih (nth f.kids k) b skq (hp.2 _ (by omega)) (szq hz)) rfl (aR rfl rfl (bX (l:=((f.kids.take k).map (fun g=>nrm g b))) (f:=cF) (x:=(nrm (nth f.kids k) b)) (rVq (V.ms 653 w 0 k)) h653 (by (simp; omega)) (fU (x:=(nrm (nth f.kids k) b)) (rVq (V.sl [(rFq (nrm (nth f.kids k) b))]))) (eV _) (fC _) (by omega) (by omega) (aM t6 h6 (bF rfl rfl rfl h6 rfl rfl rfl rfl rfl ?_)))))))
    refine R_e (n15 _ _ (.done (W_t (aA t7 (bB rfl (rNq 1) (by omega) (aA rfl (R_e ?_)))))))
    refine p113 _ _ _ ?_ ⟨(k+1),(w+1),rfl,t1,t2,t4,t6,(eTq (rNq (k+1)) (by rfl)),h2,h4,(eTq (@rfl Blk (bk 1 24 3 [[(iV (nop f.op b)),(iV 0),(V.ms 653 (w+1) 0 (k+1))]])) (by rfl)),(eTq (@rfl Blk (bz (w+1) 24 3 (List.map cF ((f.kids.take k).map (fun g=>nrm g b)++[(nrm (nth f.kids k) b)])))) (by (rw [gD (by omega)]; done))),?_⟩
    · omega
    · omega
   refine aN (p313 _ _ _ (x12 _ _ (.done (W_r (aJ t6 h6 rfl rfl (bF t4 rfl rfl h4 rfl rfl rfl rfl rfl (R_e ?_)))))))
   refine aO ?_
   refine cP (bC (u:=(V.agg [(iV (nop f.op b)),(iV 0),(V.ms 653 w 0 k)])) t4 (@rfl Blk (bk 1 24 3 [[(iV (nop f.op b)),(iV 0),(V.ms 653 w 0 k)]])) (lB oB rfl rfl)) (bE (aE ?_) (aE ?_) (gL h653 (by simp) (l:=((f.kids.take k).map (fun g=>nrm g b))) rfl (by (simp; omega)) (fun _=>by simp) ?_))
   · rw [cS (by omega) (by omega)]; rfl
   · rw [cS (by omega) (by omega)]; rfl
   · rw [cS (by omega) (by omega)]; first|rfl|(show _=List.map _ f.kids; rw [show k=f.kids.length by omega,List.take_length]; done)
  refine W_r (aY rfl rfl (aA rfl (R_e ?_)))
  refine cD rfl (fun c16=>?_) fun c16=>?_
  ·
   refine W_t (aA rfl (R_e (n5 _ _ (.done (W_r (aA rfl (aW rfl rfl ?_)))))))
   refine aU (i:=6) (n:=0) (m:=3) rfl (cVq rfl) rfl (bF rfl rfl rfl rfl rfl rfl rfl rfl rfl (R_e (aB ?_)))
   refine dO (fun T H=>T 1=(V.bool b)∧T 2=(mPq 2)∧T 4=(mPq 4)∧T 6=(mPq 6)∧T 7=(iV 0)∧H 2=(bFq f)∧H 4=bYq∧H 6=(bk 1 24 3 [[(iV 9),(iV 0),V.nilsl]])∧H 653=bZq∧True) ?_ ?_
   ·
    refine aA rfl ?_
    exact eD ⟨rfl,rfl,rfl,rfl,rfl,rfl,rfl,rfl,rfl,trivial⟩
   intro T H ⟨t1,t2,t4,t6,t7,h2,h4,h6,h653,_⟩
   refine .lazyCell 653 24 3 6 0 2 [(iV 9),(iV 0),V.nilsl] (by decide) (by rw [h6]; rfl) (by rw [h6]; rfl) rfl (.done ?_)
   refine cJ (R:=fun T H=>T 1=(V.bool b)∧T 2=(mPq 2)∧T 4=(mPq 4)∧T 6=(mPq 6)∧T 7=(iV 0)∧H 2=(bFq f)∧H 4=bYq∧H 6=(bk 1 24 3 [[(iV 9),(iV 0),(V.ms 653 1 0 0)]])∧H 653=(bz 1 24 3 [])∧True) ⟨t1,t2,t4,t6,t7,(uTq (uTq h2)),(uTq (uTq h4)),(by rw [aK,h6,(cVq h653)]; rfl),(by rw [bD _ _ (by decide),aK,(cVq h653)]),trivial⟩ ?_
   intro T H ⟨t1,t2,t4,t6,t7,h2,h4,h6,h653,_⟩
   refine aD fun Q17 n17 x17 y17 z17=>?_
   refine bS (fun mm T H=> ∃ (k:Nat) (w:Nat),mm=f.kids.length - k∧T 1=(V.bool b)∧T 2=(mPq 2)∧T 4=(mPq 4)∧T 6=(mPq 6)∧T 7=(iV ((k:Nat):Int))∧H 2=(bFq f)∧H 4=bYq∧H 6=(bk 1 24 3 [[(iV (nop f.op b)),(iV 0),(V.ms 653 w 0 k)]])∧H 653=(bz w 24 3 (List.map cF ((f.kids.take k).map (fun g=>nrm g b))))∧(k≤f.kids.length)) ?_ ?_
   ·
    refine ⟨_,0,1,rfl,t1,t2,t4,t6,(eTq t7 rfl),h2,h4,(eTq h6 (by (exact rP (by simp only [nop,gQ,hb,if_true,Bool.false_eq_true,if_false]; repeat (first|rfl|omega|split))))),(eTq h653 (by rfl)),?_⟩
    · omega
   intro mm T H ⟨k,w,hmm,t1,t2,t4,t6,t7,h2,h4,h6,h653,hk⟩ Q18 p118 p218 p318
   unfold vO
   refine aB (W_r (aA t7 (aM t2 h2 (aJ rfl h2 rfl rfl (bG rfl (bM rfl rfl (R_e ?_)))))))
   refine aH rfl (fun c19=>?_) fun c19=>?_
   ·
    refine aC (aD fun Q20 n20 x20 y20 z20=>(W_t (aM t6 h6 (aJ rfl h6 rfl rfl (aM t2 h2 (aJ rfl h2 rfl rfl (aA t7 ?_)))))))
    refine bU (i:=k) (rVq (V.sl (List.map cF f.kids))) (rNq k) (by omega) (bN _) rfl (aG rfl rfl (aA t1 (aI (ih (nth f.kids k) b skq (hp.2 _ (by omega)) (szq hz)) rfl (aR rfl rfl (bX (l:=((f.kids.take k).map (fun g=>nrm g b))) (f:=cF) (x:=(nrm (nth f.kids k) b)) (rVq (V.ms 653 w 0 k)) h653 (by (simp; omega)) (fU (x:=(nrm (nth f.kids k) b)) (rVq (V.sl [(rFq (nrm (nth f.kids k) b))]))) (eV _) (fC _) (by omega) (by omega) (aM t6 h6 (bF rfl rfl rfl h6 rfl rfl rfl rfl rfl ?_)))))))
    refine R_e (n20 _ _ (.done (W_t (aA t7 (bB rfl (rNq 1) (by omega) (aA rfl (R_e ?_)))))))
    refine p118 _ _ _ ?_ ⟨(k+1),(w+1),rfl,t1,t2,t4,t6,(eTq (rNq (k+1)) (by rfl)),h2,h4,(eTq (@rfl Blk (bk 1 24 3 [[(iV (nop f.op b)),(iV 0),(V.ms 653 (w+1) 0 (k+1))]])) (by rfl)),(eTq (@rfl Blk (bz (w+1) 24 3 (List.map cF ((f.kids.take k).map (fun g=>nrm g b)++[(nrm (nth f.kids k) b)])))) (by (rw [gD (by omega)]; done))),?_⟩
    · omega
    · omega
   refine aN (p318 _ _ _ (x17 _ _ (.done (W_r (aJ t6 h6 rfl rfl (bF t4 rfl rfl h4 rfl rfl rfl rfl rfl (R_e ?_)))))))
   refine aO ?_
   refine cP (bC (u:=(V.agg [(iV (nop f.op b)),(iV 0),(V.ms 653 w 0 k)])) t4 (@rfl Blk (bk 1 24 3 [[(iV (nop f.op b)),(iV 0),(V.ms 653 w 0 k)]])) (lB oB rfl rfl)) (bE (aE ?_) (aE ?_) (gL h653 (by simp) (l:=((f.kids.take k).map (fun g=>nrm g b))) rfl (by (simp; omega)) (fun _=>by simp) ?_))
   · rw [cS (by omega) (by omega)]; rfl
   · rw [cS (by omega) (by omega)]; rfl
   · rw [cS (by omega) (by omega)]; first|rfl|(show _=List.map _ f.kids; rw [show k=f.kids.length by omega,List.take_length]; done)
  refine W_r (aY rfl rfl (aA rfl (R_e ?_)))
  refine cD rfl (fun c21=>?_) fun c21=>?_
  ·
   refine W_t (aA rfl (R_e (n5 _ _ (.done (W_r (aA rfl (aW rfl rfl ?_)))))))
   refine aU (i:=6) (n:=0) (m:=3) rfl (cVq rfl) rfl (bF rfl rfl rfl rfl rfl rfl rfl rfl rfl (R_e (aB ?_)))
   refine dO (fun T H=>T 1=(V.bool b)∧T 2=(mPq 2)∧T 4=(mPq 4)∧T 6=(mPq 6)∧T 7=(iV 0)∧H 2=(bFq f)∧H 4=bYq∧H 6=(bk 1 24 3 [[(iV 7),(iV 0),V.nilsl]])∧H 653=bZq∧True) ?_ ?_
   ·
    refine aA rfl ?_
    exact eD ⟨rfl,rfl,rfl,rfl,rfl,rfl,rfl,rfl,rfl,trivial⟩
   intro T H ⟨t1,t2,t4,t6,t7,h2,h4,h6,h653,_⟩
   refine .lazyCell 653 24 3 6 0 2 [(iV 7),(iV 0),V.nilsl] (by decide) (by rw [h6]; rfl) (by rw [h6]; rfl) rfl (.done ?_)
   refine cJ (R:=fun T H=>T 1=(V.bool b)∧T 2=(mPq 2)∧T 4=(mPq 4)∧T 6=(mPq 6)∧T 7=(iV 0)∧H 2=(bFq f)∧H 4=bYq∧H 6=(bk 1 24 3 [[(iV 7),(iV 0),(V.ms 653 1 0 0)]])∧H 653=(bz 1 24 3 [])∧True) ⟨t1,t2,t4,t6,t7,(uTq (uTq h2)),(uTq (uTq h4)),(by rw [aK,h6,(cVq h653)]; rfl),(by rw [bD _ _ (by decide),aK,(cVq h653)]),trivial⟩ ?_
   intro T H ⟨t1,t2,t4,t6,t7,h2,h4,h6,h653,_⟩
   refine aD fun Q22 n22 x22 y22 z22=>?_
   refine bS (fun mm T H=> ∃ (k:Nat) (w:Nat),mm=f.kids.length - k∧T 1=(V.bool b)∧T 2=(mPq 2)∧T 4=(mPq 4)∧T 6=(mPq 6)∧T 7=(iV ((k:Nat):Int))∧H 2=(bFq f)∧H 4=bYq∧H 6=(bk 1 24 3 [[(iV (nop f.op b)),(iV 0),(V.ms 653 w 0 k)]])∧H 653=(bz w 24 3 (List.map cF ((f.kids.take k).map (fun g=>nrm g b))))∧(k≤f.kids.length)) ?_ ?_
   ·
    refine ⟨_,0,1,rfl,t1,t2,t4,t6,(eTq t7 rfl),h2,h4,(eTq h6 (by (exact rP (by simp only [nop,gQ,hb,if_true,Bool.false_eq_true,if_false]; repeat (first|rfl|omega|split))))),(eTq h653 (by rfl)),?_⟩
    · omega
   intro mm T H ⟨k,w,hmm,t1,t2,t4,t6,t7,h2,h4,h6,h653,hk⟩ Q23 p123 p223 p323
   unfold vO
   refine aB (W_r (aA t7 (aM t2 h2 (aJ rfl h2 rfl rfl (bG rfl (bM rfl rfl (R_e ?_)))))))
   refine aH rfl (fun c24=>?_) fun c24=>?_
   ·
    refine aC (aD fun Q25 n25 x25 y25 z25=>(W_t (aM t6 h6 (aJ rfl h6 rfl rfl (aM t2 h2 (aJ rfl h2 rfl rfl (aA t7 ?_)))))))
    refine bU (i:=k) (rVq (V.sl (List.map cF f.kids))) (rNq k) (by omega) (bN _) rfl (aG rfl rfl (aA t1 (aI (ih (nth f.kids k) b skq (hp.2 _ (by omega)) (szq hz)) rfl (aR rfl rfl (bX (l:=((f.kids.take k).map (fun g=>nrm g b))) (f:=cF) (x:=(nrm (nth f.kids k) b)) (rVq (V.ms 653 w 0 k)) h653 (by (simp; omega)) (fU (x:=(nrm (nth f.kids k) b)) (rVq (V.sl [(rFq (nrm (nth f.kids k) b))]))) (eV _) (fC _) (by omega) (by omega) (aM t6 h6 (bF rfl rfl rfl h6 rfl rfl rfl rfl rfl ?_)))))))
    refine R_e (n25 _ _ (.done (W_t (aA t7 (bB rfl (rNq 1) (by omega) (aA rfl (R_e ?_)))))))
    refine p123 _ _ _ ?_ ⟨(k+1),(w+1),rfl,t1,t2,t4,t6,(eTq (rNq (k+1)) (by rfl)),h2,h4,(eTq (@rfl Blk (bk 1 24 3 [[(iV (nop f.op b)),(iV 0),(V.ms 653 (w+1) 0 (k+1))]])) (by rfl)),(eTq (@rfl Blk (bz (w+1) 24 3 (List.map cF ((f.kids.take k).map (fun g=>nrm g b)++[(nrm (nth f.kids k) b)])))) (by (rw [gD (by omega)]; done))),?_⟩
    · omega
    · omega
   refine aN (p323 _ _ _ (x22 _ _ (.done (W_r (aJ t6 h6 rfl rfl (bF t4 rfl rfl h4 rfl rfl rfl rfl rfl (R_e ?_)))))))
   refine aO ?_
   refine cP (bC (u:=(V.agg [(iV (nop f.op b)),(iV 0),(V.ms 653 w 0 k)])) t4 (@rfl Blk (bk 1 24 3 [[(iV (nop f.op b)),(iV 0),(V.ms 653 w 0 k)]])) (lB oB rfl rfl)) (bE (aE ?_) (aE ?_) (gL h653 (by simp) (l:=((f.kids.take k).map (fun g=>nrm g b))) rfl (by (simp; omega)) (fun _=>by simp) ?_))
   · rw [cS (by omega) (by omega)]; rfl
   · rw [cS (by omega) (by omega)]; rfl
   · rw [cS (by omega) (by omega)]; first|rfl|(show _=List.map _ f.kids; rw [show k=f.kids.length by omega,List.take_length]; done)
  refine W_r (aY rfl rfl (aA rfl (R_e ?_)))
  refine cD rfl (fun c26=>?_) fun c26=>?_
  ·
   refine W_t (aA rfl (R_e (n5 _ _ (.done (W_r (aA rfl (aW rfl rfl ?_)))))))
   refine aU (i:=6) (n:=0) (m:=3) rfl (cVq rfl) rfl (bF rfl rfl rfl rfl rfl rfl rfl rfl rfl (R_e (aB ?_)))
   refine dO (fun T H=>T 1=(V.bool b)∧T 2=(mPq 2)∧T 4=(mPq 4)∧T 6=(mPq 6)∧T 7=(iV 0)∧H 2=(bFq f)∧H 4=bYq∧H 6=(bk 1 24 3 [[(iV 10),(iV 0),V.nilsl]])∧H 653=bZq∧True) ?_ ?_
   ·
    refine aA rfl ?_
    exact eD ⟨rfl,rfl,rfl,rfl,rfl,rfl,rfl,rfl,rfl,trivial⟩
   intro T H ⟨t1,t2,t4,t6,t7,h2,h4,h6,h653,_⟩
   refine .lazyCell 653 24 3 6 0 2 [(iV 10),(iV 0),V.nilsl] (by decide) (by rw [h6]; rfl) (by rw [h6]; rfl) rfl (.done ?_)
   refine cJ (R:=fun T H=>T 1=(V.bool b)∧T 2=(mPq 2)∧T 4=(mPq 4)∧T 6=(mPq 6)∧T 7=(iV 0)∧H 2=(bFq f)∧H 4=bYq∧H 6=(bk 1 24 3 [[(iV 10),(iV 0),(V.ms 653 1 0 0)]])∧H 653=(bz 1 24 3 [])∧True) ⟨t1,t2,t4,t6,t7,(uTq (uTq h2)),(uTq (uTq h4)),(by rw [aK,h6,(cVq h653)]; rfl),(by rw [bD _ _ (by decide),aK,(cVq h653)]),trivial⟩ ?_
   intro T H ⟨t1,t2,t4,t6,t7,h2,h4,h6,h653,_⟩
   refine aD fun Q27 n27 x27 y27 z27=>?_
   refine bS (fun mm T H=> ∃ (k:Nat) (w:Nat),mm=f.kids.length - k∧T 1=(V.bool b)∧T 2=(mPq 2)∧T 4=(mPq 4)∧T 6=(mPq 6)∧T 7=(iV ((k:Nat):Int))∧H 2=(bFq f)∧H 4=bYq∧H 6=(bk 1 24 3 [[(iV (nop f.op b)),(iV 0),(V.ms 653 w 0 k)]])∧H 653=(bz w 24 3 (List.map cF ((f.kids.take k).map (fun g=>nrm g b))))∧(k≤f.kids.length)) ?_ ?_
   ·
    refine ⟨_,0,1,rfl,t1,t2,t4,t6,(eTq t7 rfl),h2,h4,(eTq h6 (by (exact rP (by simp only [nop,gQ,hb,if_true,Bool.false_eq_true,if_false]; repeat (first|rfl|omega|split))))),(eTq h653 (by rfl)),?_⟩
    · omega
   intro mm T H ⟨k,w,hmm,t1,t2,t4,t6,t7,h2,h4,h6,h653,hk⟩ Q28 p128 p228 p328
   unfold vO
   refine aB (W_r (aA t7 (aM t2 h2 (aJ rfl h2 rfl rfl (bG rfl (bM rfl rfl (R_e ?_)))))))
   refine aH rfl (fun c29=>?_) fun c29=>?_
   ·
    refine aC (aD fun Q30 n30 x30 y30 z30=>(W_t (aM t6 h6 (aJ rfl h6 rfl rfl (aM t2 h2 (aJ rfl h2 rfl rfl (aA t7 ?_)))))))
    refine bU (i:=k) (rVq (V.sl (List.map cF f.kids))) (rNq k) (by omega) (bN _) rfl (aG rfl rfl (aA t1 (aI (ih (nth f.kids k) b skq (hp.2 _ (by omega)) (szq hz)) rfl (aR rfl rfl (bX (l:=((f.kids.take k).map (fun g=>nrm g b))) (f:=cF) (x:=(nrm (nth f.kids k) b)) (rVq (V.ms 653 w 0 k)) h653 (by (simp; omega)) (fU (x:=(nrm (nth f.kids k) b)) (rVq (V.sl [(rFq (nrm (nth f.kids k) b))]))) (eV _) (fC _) (by omega) (by omega) (aM t6 h6 (bF rfl rfl rfl h6 rfl rfl rfl rfl rfl ?_)))))))
    refine R_e (n30 _ _ (.done (W_t (aA t7 (bB rfl (rNq 1) (by omega) (aA rfl (R_e ?_)))))))
    refine p128 _ _ _ ?_ ⟨(k+1),(w+1),rfl,t1,t2,t4,t6,(eTq (rNq (k+1)) (by rfl)),h2,h4,(eTq (@rfl Blk (bk 1 24 3 [[(iV (nop f.op b)),(iV 0),(V.ms 653 (w+1) 0 (k+1))]])) (by rfl)),(eTq (@rfl Blk (bz (w+1) 24 3 (List.map cF ((f.kids.take k).map (fun g=>nrm g b)++[(nrm (nth f.kids k) b)])))) (by (rw [gD (by omega)]; done))),?_⟩
    · omega
    · omega
   refine aN (p328 _ _ _ (x27 _ _ (.done (W_r (aJ t6 h6 rfl rfl (bF t4 rfl rfl h4 rfl rfl rfl rfl rfl (R_e ?_)))))))
   refine aO ?_
   refine cP (bC (u:=(V.agg [(iV (nop f.op b)),(iV 0),(V.ms 653 w 0 k)])) t4 (@rfl Blk (bk 1 24 3 [[(iV (nop f.op b)),(iV 0),(V.ms 653 w 0 k)]])) (lB oB rfl rfl)) (bE (aE ?_) (aE ?_) (gL h653 (by simp) (l:=((f.kids.take k).map (fun g=>nrm g b))) rfl (by (simp; omega)) (fun _=>by simp) ?_))
   · rw [cS (by omega) (by omega)]; rfl
   · rw [cS (by omega) (by omega)]; rfl
   · rw [cS (by omega) (by omega)]; first|rfl|(show _=List.map _ f.kids; rw [show k=f.kids.length by omega,List.take_length]; done)
  refine W_r (aY rfl rfl (aA rfl (R_e ?_)))
  refine cD rfl (fun c31=>?_) fun c31=>?_
  ·
   refine W_t (aA rfl (R_e (n5 _ _ (.done (W_r (aA rfl (aW rfl rfl ?_)))))))
   refine aU (i:=6) (n:=0) (m:=3) rfl (cVq rfl) rfl (bF rfl rfl rfl rfl rfl rfl rfl rfl rfl (R_e (aB ?_)))
   refine dO (fun T H=>T 1=(V.bool b)∧T 2=(mPq 2)∧T 4=(mPq 4)∧T 6=(mPq 6)∧T 7=(iV 0)∧H 2=(bFq f)∧H 4=bYq∧H 6=(bk 1 24 3 [[(iV 8),(iV 0),V.nilsl]])∧H 653=bZq∧True) ?_ ?_
   ·
    refine aA rfl ?_
    exact eD ⟨rfl,rfl,rfl,rfl,rfl,rfl,rfl,rfl,rfl,trivial⟩
   intro T H ⟨t1,t2,t4,t6,t7,h2,h4,h6,h653,_⟩
   refine .lazyCell 653 24 3 6 0 2 [(iV 8),(iV 0),V.nilsl] (by decide) (by rw [h6]; rfl) (by rw [h6]; rfl) rfl (.done ?_)
   refine cJ (R:=fun T H=>T 1=(V.bool b)∧T 2=(mPq 2)∧T 4=(mPq 4)∧T 6=(mPq 6)∧T 7=(iV 0)∧H 2=(bFq f)∧H 4=bYq∧H 6=(bk 1 24 3 [[(iV 8),(iV 0),(V.ms 653 1 0 0)]])∧H 653=(bz 1 24 3 [])∧True) ⟨t1,t2,t4,t6,t7,(uTq (uTq h2)),(uTq (uTq h4)),(by rw [aK,h6,(cVq h653)]; rfl),(by rw [bD _ _ (by decide),aK,(cVq h653)]),trivial⟩ ?_
   intro T H ⟨t1,t2,t4,t6,t7,h2,h4,h6,h653,_⟩
   refine aD fun Q32 n32 x32 y32 z32=>?_
   refine bS (fun mm T H=> ∃ (k:Nat) (w:Nat),mm=f.kids.length - k∧T 1=(V.bool b)∧T 2=(mPq 2)∧T 4=(mPq 4)∧T 6=(mPq 6)∧T 7=(iV ((k:Nat):Int))∧H 2=(bFq f)∧H 4=bYq∧H 6=(bk 1 24 3 [[(iV (nop f.op b)),(iV 0),(V.ms 653 w 0 k)]])∧H 653=(bz w 24 3 (List.map cF ((f.kids.take k).map (fun g=>nrm g b))))∧(k≤f.kids.length)) ?_ ?_
   ·
    refine ⟨_,0,1,rfl,t1,t2,t4,t6,(eTq t7 rfl),h2,h4,(eTq h6 (by (exact rP (by simp only [nop,gQ,hb,if_true,Bool.false_eq_true,if_false]; repeat (first|rfl|omega|split))))),(eTq h653 (by rfl)),?_⟩
    · omega
   intro mm T H ⟨k,w,hmm,t1,t2,t4,t6,t7,h2,h4,h6,h653,hk⟩ Q33 p133 p233 p333
   unfold vO
   refine aB (W_r (aA t7 (aM t2 h2 (aJ rfl h2 rfl rfl (bG rfl (bM rfl rfl (R_e ?_)))))))
   refine aH rfl (fun c34=>?_) fun c34=>?_
   ·
    refine aC (aD fun Q35 n35 x35 y35 z35=>(W_t (aM t6 h6 (aJ rfl h6 rfl rfl (aM t2 h2 (aJ rfl h2 rfl rfl (aA t7 ?_)))))))
    refine bU (i:=k) (rVq (V.sl (List.map cF f.kids))) (rNq k) (by omega) (bN _) rfl (aG rfl rfl (aA t1 (aI (ih (nth f.kids k) b skq (hp.2 _ (by omega)) (szq hz)) rfl (aR rfl rfl (bX (l:=((f.kids.take k).map (fun g=>nrm g b))) (f:=cF) (x:=(nrm (nth f.kids k) b)) (rVq (V.ms 653 w 0 k)) h653 (by (simp; omega)) (fU (x:=(nrm (nth f.kids k) b)) (rVq (V.sl [(rFq (nrm (nth f.kids k) b))]))) (eV _) (fC _) (by omega) (by omega) (aM t6 h6 (bF rfl rfl rfl h6 rfl rfl rfl rfl rfl ?_)))))))
    refine R_e (n35 _ _ (.done (W_t (aA t7 (bB rfl (rNq 1) (by omega) (aA rfl (R_e ?_)))))))
    refine p133 _ _ _ ?_ ⟨(k+1),(w+1),rfl,t1,t2,t4,t6,(eTq (rNq (k+1)) (by rfl)),h2,h4,(eTq (@rfl Blk (bk 1 24 3 [[(iV (nop f.op b)),(iV 0),(V.ms 653 (w+1) 0 (k+1))]])) (by rfl)),(eTq (@rfl Blk (bz (w+1) 24 3 (List.map cF ((f.kids.take k).map (fun g=>nrm g b)++[(nrm (nth f.kids k) b)])))) (by (rw [gD (by omega)]; done))),?_⟩
    · omega
    · omega
   refine aN (p333 _ _ _ (x32 _ _ (.done (W_r (aJ t6 h6 rfl rfl (bF t4 rfl rfl h4 rfl rfl rfl rfl rfl (R_e ?_)))))))
   refine aO ?_
   refine cP (bC (u:=(V.agg [(iV (nop f.op b)),(iV 0),(V.ms 653 w 0 k)])) t4 (@rfl Blk (bk 1 24 3 [[(iV (nop f.op b)),(iV 0),(V.ms 653 w 0 k)]])) (lB oB rfl rfl)) (bE (aE ?_) (aE ?_) (gL h653 (by simp) (l:=((f.kids.take k).map (fun g=>nrm g b))) rfl (by (simp; omega)) (fun _=>by simp) ?_))
   · rw [cS (by omega) (by omega)]; rfl
   · rw [cS (by omega) (by omega)]; rfl
   · rw [cS (by omega) (by omega)]; first|rfl|(show _=List.map _ f.kids; rw [show k=f.kids.length by omega,List.take_length]; done)
  · exfalso; omega
 have hb:b=false:=by simpa using c4
 refine aC (W_r (aA rfl (aW rfl rfl (aU (i:=6) (n:=0) (m:=3) rfl (cVq rfl) rfl (bF rfl rfl rfl rfl rfl rfl rfl rfl rfl (R_e (aB ?_)))))))
 refine dO (fun T H=>T 1=(V.bool b)∧T 2=(mPq 2)∧T 4=(mPq 4)∧T 6=(mPq 6)∧T 7=(iV 0)∧H 2=(bFq f)∧H 4=bYq∧H 6=(bk 1 24 3 [[(iV f.op),(iV 0),V.nilsl]])∧H 653=bZq∧True) ?_ ?_
 ·
  refine aA rfl ?_
  exact eD ⟨rfl,rfl,rfl,rfl,rfl,rfl,rfl,rfl,rfl,trivial⟩
 intro T H ⟨t1,t2,t4,t6,t7,h2,h4,h6,h653,_⟩
 refine .lazyCell 653 24 3 6 0 2 [(iV f.op),(iV 0),V.nilsl] (by decide) (by rw [h6]; rfl) (by rw [h6]; rfl) rfl (.done ?_)
 refine cJ (R:=fun T H=>T 1=(V.bool b)∧T 2=(mPq 2)∧T 4=(mPq 4)∧T 6=(mPq 6)∧T 7=(iV 0)∧H 2=(bFq f)∧H 4=bYq∧H 6=(bk 1 24 3 [[(iV f.op),(iV 0),(V.ms 653 1 0 0)]])∧H 653=(bz 1 24 3 [])∧True) ⟨t1,t2,t4,t6,t7,(uTq (uTq h2)),(uTq (uTq h4)),(by rw [aK,h6,(cVq h653)]; rfl),(by rw [bD _ _ (by decide),aK,(cVq h653)]),trivial⟩ ?_
 intro T H ⟨t1,t2,t4,t6,t7,h2,h4,h6,h653,_⟩
 refine aD fun Q36 n36 x36 y36 z36=>?_
 refine bS (fun mm T H=> ∃ (k:Nat) (w:Nat),mm=f.kids.length - k∧T 1=(V.bool b)∧T 2=(mPq 2)∧T 4=(mPq 4)∧T 6=(mPq 6)∧T 7=(iV ((k:Nat):Int))∧H 2=(bFq f)∧H 4=bYq∧H 6=(bk 1 24 3 [[(iV (nop f.op b)),(iV 0),(V.ms 653 w 0 k)]])∧H 653=(bz w 24 3 (List.map cF ((f.kids.take k).map (fun g=>nrm g b))))∧(k≤f.kids.length)) ?_ ?_
 ·
  refine ⟨_,0,1,rfl,t1,t2,t4,t6,(eTq t7 rfl),h2,h4,(eTq h6 (by (exact rP (by simp only [nop,gQ,hb,if_true,Bool.false_eq_true,if_false]; repeat (first|rfl|omega|split))))),(eTq h653 (by rfl)),?_⟩
  · omega
 intro mm T H ⟨k,w,hmm,t1,t2,t4,t6,t7,h2,h4,h6,h653,hk⟩ Q37 p137 p237 p337
 unfold vO
 refine aB (W_r (aA t7 (aM t2 h2 (aJ rfl h2 rfl rfl (bG rfl (bM rfl rfl (R_e ?_)))))))
 refine aH rfl (fun c38=>?_) fun c38=>?_
 ·
  refine aC (aD fun Q39 n39 x39 y39 z39=>(W_t (aM t6 h6 (aJ rfl h6 rfl rfl (aM t2 h2 (aJ rfl h2 rfl rfl (aA t7 ?_)))))))
  refine bU (i:=k) (rVq (V.sl (List.map cF f.kids))) (rNq k) (by omega) (bN _) rfl (aG rfl rfl (aA t1 (aI (ih (nth f.kids k) b skq (hp.2 _ (by omega)) (szq hz)) rfl (aR rfl rfl (bX (l:=((f.kids.take k).map (fun g=>nrm g b))) (f:=cF) (x:=(nrm (nth f.kids k) b)) (rVq (V.ms 653 w 0 k)) h653 (by (simp; omega)) (fU (x:=(nrm (nth f.kids k) b)) (rVq (V.sl [(rFq (nrm (nth f.kids k) b))]))) (eV _) (fC _) (by omega) (by omega) (aM t6 h6 (bF rfl rfl rfl h6 rfl rfl rfl rfl rfl ?_)))))))
  refine R_e (n39 _ _ (.done (W_t (aA t7 (bB rfl (rNq 1) (by omega) (aA rfl (R_e ?_)))))))
  refine p137 _ _ _ ?_ ⟨(k+1),(w+1),rfl,t1,t2,t4,t6,(eTq (rNq (k+1)) (by rfl)),h2,h4,(eTq (@rfl Blk (bk 1 24 3 [[(iV (nop f.op b)),(iV 0),(V.ms 653 (w+1) 0 (k+1))]])) (by rfl)),(eTq (@rfl Blk (bz (w+1) 24 3 (List.map cF ((f.kids.take k).map (fun g=>nrm g b)++[(nrm (nth f.kids k) b)])))) (by (rw [gD (by omega)]; done))),?_⟩
  · omega
  · omega
 refine aN (p337 _ _ _ (x36 _ _ (.done (W_r (aJ t6 h6 rfl rfl (bF t4 rfl rfl h4 rfl rfl rfl rfl rfl (R_e ?_)))))))
 refine aO ?_
 refine cP (bC (u:=(V.agg [(iV (nop f.op b)),(iV 0),(V.ms 653 w 0 k)])) t4 (@rfl Blk (bk 1 24 3 [[(iV (nop f.op b)),(iV 0),(V.ms 653 w 0 k)]])) (lB oB rfl rfl)) (bE (aE ?_) (aE ?_) (gL h653 (by simp) (l:=((f.kids.take k).map (fun g=>nrm g b))) rfl (by (simp; omega)) (fun _=>by simp) ?_))
 · rw [cS (by omega) (by omega)]; rfl
 · rw [cS (by omega) (by omega)]; rfl
 · rw [cS (by omega) (by omega)]; first|rfl|(show _=List.map _ f.kids; rw [show k=f.kids.length by omega,List.take_length]; done)
theorem aBy (f:Fm) (b:Bool) (hf:okF f=true) (hz:f.sz≤4096):aQ Tryz.prog 39 [(V.agg (rFq f)),(V.bool b)] (V.agg (rFq (nrm f b))):=by
  have key: ∀ (mm:Nat) (f:Fm) (b:Bool),f.sz < mm→okF f=true→f.sz≤4096→aQ Tryz.prog 39 [(V.agg (rFq f)),(V.bool b)] (V.agg (rFq (nrm f b))):=by
    intro mm
    induction mm with
    |zero=>intro f b hlt; exact absurd hlt (Nat.not_lt_zero _)
    | succ mm ih =>
      intro f b hlt hf hz
      exact sE f b hf hz fun f2 b2 hlt2=>ih f2 b2 (by omega)
  exact key (f.sz+1) f b (Nat.lt_succ_self _) hf hz
theorem oN (f:Fm):aQ Tryz.prog 12 [(V.agg (rFq f))] (V.tup [(V.agg (rFq ((bK f).1))),(iV ((bK f).2))]):=by
 refine pW Tryz.func12 aQ0 fun hB=>?_
 unfold s12
 dsimp only
 refine W_r (cE (i:=1) (n:=0) (m:=3) (cs:=(rFq f)) rfl (cVq rfl) rfl rfl rfl (aU (i:=2) (n:=0) (m:=3) rfl (cVq rfl) rfl (aA rfl (R_e (aB (W_r (aJ rfl rfl rfl rfl ?_)))))))
 refine aI (eF f) rfl (bZ rfl rfl (R_e ?_))
 refine aH rfl (fun c1=>?_) fun c1=>?_
 ·
  have d1:=aJM c1
  refine aB (W_r (aW rfl rfl (aJ rfl rfl rfl rfl (aI (eF f) rfl (bF rfl rfl rfl rfl rfl rfl rfl rfl rfl (aA rfl (R_e ?_)))))))
  refine aL ?_
  refine eM (bC (u:=(V.agg [(iV 0),(iV 0),V.nilsl])) rfl (@rfl Blk bYq) (lB oB rfl rfl)) (bV (rVq (iV (cX f)))) (bE (aE ?_) (aE ?_) (bT ?_)) (aE ?_)
  · rw [d1]; rfl
  · rw [d1]; rfl
  · rw [d1]; rfl
  · rw [d1]
 have d1:=aEr c1
 refine aC (W_r (aJ rfl rfl rfl rfl (aI (aBy f false (fB (by omega)) (gA (by omega))) rfl (aI (sM (nrm f false) (xQ f (fB (by omega)) false) (Nat.le_trans (xO f false) (by have:=gA (f:=f) (by omega); omega))) rfl (bH rfl rfl (bH rfl rfl (bF rfl rfl rfl rfl rfl rfl rfl rfl rfl ?_)))))))
 refine aA rfl (R_e (aO ?_))
 refine eM (bC (u:=(V.agg (rFq ((chk (nrm f false)).1)))) rfl (@rfl Blk (bFq ((chk (nrm f false)).1))) (lB oB rfl rfl)) (bV (rVq (iV ((chk (nrm f false)).2)))) (bE (aE ?_) (aE ?_) (dB ?_ (fun _=>by simp))) (aE ?_)
 · rw [d1]
 · rw [d1]
 · rw [d1]
 · rw [d1]
def aSF:List SO:=[
 qF 5 0 1,
 ql 6 5,
 qC 7 .lss 6 1,
 qM 8 7,
 ⟨some (8,false),some 9,.fld 0 (.t 1)⟩,
 ⟨some (8,false),some 10,.load false 1 (.t 9)⟩,
 ⟨some (8,false),some 11,.bin .gtr (.t 10) (.c (.int .i64 64))⟩,
 sO 12 (.pick (.t 8) (.c (.bool true)) (.t 11))]
def aSt:List SO:=[
 qF 21 1 1,
 ql 22 21,
 qC 23 .lss 22 0,
 qM 24 23,
 ⟨some (24,false),some 25,.fld 1 (.t 1)⟩,
 ⟨some (24,false),some 26,.load false 1 (.t 25)⟩,
 ⟨some (24,false),some 27,.fld 2 (.t 1)⟩,
 ⟨some (24,false),some 28,.load false 1 (.t 27)⟩,
 ⟨some (24,false),some 29,.len (.t 28)⟩,
 ⟨some (24,false),some 30,.bin .geq (.t 26) (.t 29)⟩,
 sO 31 (.pick (.t 24) (.c (.bool true)) (.t 30))]
def aSU:List SO:=[
 qF 32 3 1,
 ql 33 32,
 qN 34 33,
 qF 35 2 1,
 ql 36 35,
 qN 37 36,
 qP 38 .neq 34 37]
def aNU:SC:=.seq (.seq (.reg [qM 39 3,qF 40 2 1,ql 41 40,qN 42 41,qP 43 .lss 39 42]) (.cond (.t 43) (.skip) (.exit 0))) (.seq (.block 1 (.seq (.reg [qL 46 4 1,qM 47 3,sO 48 (.call false 75 [.t 46,.t 47]),qM 4 48]) (.seq (.reg [qM 49 4,qC 50 .neq 49 0]) (.cond (.t 50) (.seq (.reg [qM 51 4,qM 2 51]) (.ret)) (.skip))))) (.reg [qM 44 3,qC 45 .add 44 1,qM 3 45]))
def s53:SF:=⟨52,[.tmp 2],.seq (.reg [sO 1 (.box 50 4 (.t 0)),qI 2 0]) (.seq (.seq (.reg aSF) (.cond (.t 12) (.seq (.reg [qI 2 2]) (.ret)) (.skip))) (.seq (.seq (.reg [qF 13 2 1,ql 14 13,qN 15 14,qC 16 .eql 15 0]) (.cond (.t 16) (.seq (.reg [qI 2 19]) (.ret)) (.skip))) (.seq (.seq (.reg [qF 17 2 1,ql 18 17,qN 19 18,qC 20 .gtr 19 128]) (.cond (.t 20) (.seq (.reg [qI 2 11]) (.ret)) (.skip))) (.seq (.seq (.reg aSt) (.cond (.t 31) (.seq (.reg [qI 2 2]) (.ret)) (.skip))) (.seq (.seq (.reg aSU) (.cond (.t 38) (.seq (.reg [qI 2 1]) (.ret)) (.skip))) (.seq (.seq (.reg [qI 3 0]) (.block 0 (.loop aNU))) (.seq (.reg [qI 2 0]) (.ret))))))))⟩
theorem aR1:bJ Tryz.prog ⟨oEq,[],[],[]⟩ Tryz.f53=some s53:=by kernel_rfl
def aSL:List SO:=[
 qF 6 2 2,
 ql 7 6,
 qM 8 1,
 qA 9 1 7 8,
 ql 10 9,
 qN 11 10,
 qF 12 0 2,
 ql 13 12,
 qP 14 .neq 11 13,
 qM 15 14,
 ⟨some (15,false),some 16,.fld 3 (.t 2)⟩,
 ⟨some (15,false),some 17,.load false 1 (.t 16)⟩,
 ⟨some (15,false),some 18,.mv (.t 1)⟩,
 ⟨some (15,false),some 19,.idx 1 (.t 17) (.t 18)⟩,
 ⟨some (15,false),some 20,.load false 1 (.t 19)⟩,
 ⟨some (15,false),some 21,.len (.t 20)⟩,
 ⟨some (15,false),some 22,.fld 0 (.t 2)⟩,
 ⟨some (15,false),some 23,.load false 1 (.t 22)⟩,
 ⟨some (15,false),some 24,.bin .neq (.t 21) (.t 23)⟩,
 sO 25 (.pick (.t 15) (.c (.bool true)) (.t 24))]
def aTW:List SO:=[
 qF 32 2 2,
 ql 33 32,
 qM 34 1,
 qA 35 1 33 34,
 ql 36 35,
 qM 37 5,
 qA 38 1 36 37,
 ql 39 38,
 qC 40 .lss 39 0,
 qM 41 40,
 ⟨some (41,false),some 42,.fld 2 (.t 2)⟩,
 ⟨some (41,false),some 43,.load false 1 (.t 42)⟩,
 ⟨some (41,false),some 44,.mv (.t 1)⟩,
 ⟨some (41,false),some 45,.idx 1 (.t 43) (.t 44)⟩,
 ⟨some (41,false),some 46,.load false 1 (.t 45)⟩,
 ⟨some (41,false),some 47,.mv (.t 5)⟩,
 ⟨some (41,false),some 48,.idx 1 (.t 46) (.t 47)⟩,
 ⟨some (41,false),some 49,.load false 1 (.t 48)⟩,
 ⟨some (41,false),some 50,.fld 2 (.t 2)⟩,
 ⟨some (41,false),some 51,.load false 1 (.t 50)⟩,
 ⟨some (41,false),some 52,.len (.t 51)⟩,
 ⟨some (41,false),some 53,.bin .geq (.t 49) (.t 52)⟩,
 sO 54 (.pick (.t 41) (.c (.bool true)) (.t 53)),
 qM 55 54,
 ⟨some (55,false),some 56,.fld 3 (.t 2)⟩,
 ⟨some (55,false),some 57,.load false 1 (.t 56)⟩,
 ⟨some (55,false),some 58,.mv (.t 1)⟩,
 ⟨some (55,false),some 59,.idx 1 (.t 57) (.t 58)⟩,
 ⟨some (55,false),some 60,.load false 1 (.t 59)⟩,
 ⟨some (55,false),some 61,.mv (.t 5)⟩,
 ⟨some (55,false),some 62,.idx 1 (.t 60) (.t 61)⟩,
 ⟨some (55,false),some 63,.load false 1 (.t 62)⟩,
 ⟨some (55,false),some 64,.bin .lss (.t 63) (.c (.int .i64 0))⟩,
 sO 65 (.pick (.t 55) (.c (.bool true)) (.t 64)),
 qM 66 65,
 ⟨some (66,false),some 67,.fld 3 (.t 2)⟩,
 ⟨some (66,false),some 68,.load false 1 (.t 67)⟩,
 ⟨some (66,false),some 69,.mv (.t 1)⟩,
 ⟨some (66,false),some 70,.idx 1 (.t 68) (.t 69)⟩,
 ⟨some (66,false),some 71,.load false 1 (.t 70)⟩,
 ⟨some (66,false),some 72,.mv (.t 5)⟩,
 ⟨some (66,false),some 73,.idx 1 (.t 71) (.t 72)⟩,
 ⟨some (66,false),some 74,.load false 1 (.t 73)⟩,
 ⟨some (66,false),some 75,.bin .gtr (.t 74) (.c (.int .i64 1048576))⟩,
 sO 76 (.pick (.t 66) (.c (.bool true)) (.t 75))]
def aNq:SC:=.seq (.seq (.reg [qM 26 5,qF 27 0 2,ql 28 27,qP 29 .lss 26 28]) (.cond (.t 29) (.skip) (.exit 0))) (.seq (.block 1 (.seq (.reg aTW) (.cond (.t 76) (.seq (.reg [qI 4 2]) (.ret)) (.skip)))) (.reg [qM 30 5,qC 31 .add 30 1,qM 5 31]))
def s75:SF:=⟨77,[.tmp 4],.seq (.reg [sO 2 (.box 50 4 (.t 0)),qI 4 0]) (.seq (.seq (.reg aSL) (.cond (.t 25) (.seq (.reg [qI 4 1]) (.ret)) (.skip))) (.seq (.seq (.reg [qI 5 0]) (.block 0 (.loop aNq))) (.seq (.reg [qI 4 0]) (.ret))))⟩
theorem aPh:bJ Tryz.prog ⟨oEq,[],[],[]⟩ Tryz.f75=some s75:=by kernel_rfl
theorem aIg (m:M) (s:Nat) (h1:s < m.nx.length) (h2:s < m.ot.length) (hi:1≤m.i∧m.i≤64):aQ Tryz.prog 75 [(V.agg [(iV m.i),(iV m.s),(aX m.nx),(aX m.ot)]),(iV ((s:Nat):Int))] (iV (sR m s)):=by
 refine pW Tryz.func75 aPh fun hB=>?_
 unfold s75
 dsimp only
 refine W_r (cE (i:=2) (n:=0) (m:=4) (cs:=[(iV m.i),(iV m.s),(aX m.nx),(aX m.ot)]) rfl (cVq rfl) rfl rfl rfl (aA rfl (R_e (aB (W_r (aM rfl rfl (aJ rfl rfl rfl rfl ?_)))))))
 refine aA rfl (cY (i:=s) (rVq (aX m.nx)) (rNq s) (by omega) rfl (aG rfl rfl (bG rfl (aM rfl rfl (aJ rfl rfl rfl rfl (bZ rfl rfl (aA rfl ?_)))))))
 refine aV 10 (fun T H=>T 1=(iV ((s:Nat):Int))∧T 2=(mPq 2)∧T 25=(V.bool (decide (((((nth m.nx s).length:Nat):Int)≠m.i)∨((((nth m.ot s).length:Nat):Int)≠m.i))))∧H 2=(bMq m)∧True) ?_ ?_
 ·
  by_cases g1:(((nth m.nx s).length:Nat):Int)≠m.i
  ·
   refine G_n (edT g1 rfl) (G_n (edT g1 rfl) (G_n (edT g1 rfl) (G_n (edT g1 rfl) (G_n (edT g1 rfl) (G_n (edT g1 rfl) (G_n (edT g1 rfl) (G_n (edT g1 rfl) ?_)))))))
   refine G_n (edT g1 rfl) (aS (edT g1 rfl) rfl ?_)
   exact ⟨rfl,rfl,(cQ g1),rfl,trivial⟩
  ·
   refine aF (edF g1 rfl) (aM rfl rfl (aF (edF g1 rfl) (aJ rfl rfl rfl rfl (aF (edF g1 rfl) (aA rfl (aF (edF g1 rfl) (cY (i:=s) (rVq (aX m.ot)) (rNq s) (by omega) rfl ?_)))))))
   refine aF (edF g1 rfl) (aG rfl rfl (aF (edF g1 rfl) (bG rfl (aF (edF g1 rfl) (aM rfl rfl (aF (edF g1 rfl) (aJ rfl rfl rfl rfl ?_)))))))
   refine aF (edF g1 rfl) (bZ rfl rfl (aT (edF g1 rfl) rfl ?_))
   exact ⟨rfl,rfl,(cR g1),rfl,trivial⟩
 intro T H ⟨t1,t2,t25,h2,_⟩
 refine R_e ?_
 refine aH t25 (fun c2=>?_) fun c2=>?_
 ·
  refine aB (W_r (aA rfl (R_e (aL ?_))))
  refine bI (rVq (iV 1)) (aE ?_)
  · rw [sR,if_pos (by omega)]
 refine aC (aB (W_r (aA rfl (R_e (aD fun Q3 n3 x3 y3 z3=>?_)))))
 refine bS (fun mm T H=> ∃ (k:Nat),mm=m.i.toNat - k∧T 1=(iV ((s:Nat):Int))∧T 2=(mPq 2)∧T 5=(iV ((k:Nat):Int))∧H 2=(bMq m)∧(k≤m.i.toNat)∧(((nth m.nx s).length:Int)=m.i∧((nth m.ot s).length:Int)=m.i)∧(sR m s=fe (aAi m s) k (m.i.toNat - k))) ?_ ?_
 ·
  refine ⟨_,0,rfl,t1,t2,(eTq (rVq (iV 0)) rfl),h2,?_,?_,?_⟩
  · omega
  · omega
  · rw [sR,if_neg (by omega)]; rfl
 intro mm T H ⟨k,hmm,t1,t2,t5,h2,hk,hl,hc⟩ Q4 p14 p24 p34
 unfold aNq
 refine aB (W_r (aA t5 (aM t2 h2 (aJ rfl h2 rfl rfl (bM rfl rfl (R_e ?_))))))
 refine aH rfl (fun c5=>?_) fun c5=>?_
 ·
  refine aC (aD fun Q6 n6 x6 y6 z6=>?_)
  refine kX (fun T H=>T 1=(iV ((s:Nat):Int))∧T 2=(mPq 2)∧T 5=(iV ((k:Nat):Int))∧T 76=(V.bool (decide (((((nth (nth m.nx s) k) < (0:Int))∨(((m.nx.length:Nat):Int)≤(nth (nth m.nx s) k)))∨((nth (nth m.ot s) k) < (0:Int)))∨((1048576:Int) < (nth (nth m.ot s) k)))))∧H 2=(bMq m)∧True) ?_ ?_
  ·
   refine aM t2 h2 (aJ rfl h2 rfl rfl (aA t1 (cY (i:=s) (rVq (aX m.nx)) (rNq s) (by omega) rfl (aG rfl rfl (aA t5 (cY (i:=k) (rVq (aZ (nth m.nx s))) (rNq k) (by omega) rfl (aG rfl rfl ?_)))))))
   refine bM rfl rfl (aA rfl ?_)
   refine aV 13 (fun T H=>T 1=(iV ((s:Nat):Int))∧T 2=(mPq 2)∧T 5=(iV ((k:Nat):Int))∧T 54=(V.bool (decide (((nth (nth m.nx s) k) < (0:Int))∨(((m.nx.length:Nat):Int)≤(nth (nth m.nx s) k)))))∧H 2=(bMq m)∧True) ?_ ?_
   ·
    by_cases g7:(nth (nth m.nx s) k) < (0:Int)
    ·
     refine G_n (edT g7 rfl) (G_n (edT g7 rfl) (G_n (edT g7 rfl) (G_n (edT g7 rfl) (G_n (edT g7 rfl) (G_n (edT g7 rfl) (G_n (edT g7 rfl) (G_n (edT g7 rfl) ?_)))))))
     refine G_n (edT g7 rfl) (G_n (edT g7 rfl) (G_n (edT g7 rfl) (G_n (edT g7 rfl) (aS (edT g7 rfl) rfl ?_))))
     exact ⟨t1,t2,t5,(cQ g7),h2,trivial⟩
    ·
     refine aF (edF g7 rfl) (aM t2 h2 (aF (edF g7 rfl) (aJ rfl h2 rfl rfl (aF (edF g7 rfl) (aA t1 (aF (edF g7 rfl) (cY (i:=s) (rVq (aX m.nx)) (rNq s) (by omega) rfl ?_)))))))
     refine aF (edF g7 rfl) (aG rfl rfl (aF (edF g7 rfl) (aA t5 (aF (edF g7 rfl) (cY (i:=k) (rVq (aZ (nth m.nx s))) (rNq k) (by omega) rfl (aF (edF g7 rfl) (aG rfl rfl ?_)))))))
     refine aF (edF g7 rfl) (aM t2 h2 (aF (edF g7 rfl) (aJ rfl h2 rfl rfl (aF (edF g7 rfl) (bG rfl (aF (edF g7 rfl) (jN rfl rfl ?_)))))))
     refine aT (edF g7 rfl) rfl ?_
     exact ⟨t1,t2,t5,(cR g7),h2,trivial⟩
   intro T H ⟨t1,t2,t5,t54,h2,_⟩
   refine aA t54 ?_
   refine aV 10 (fun T H=>T 1=(iV ((s:Nat):Int))∧T 2=(mPq 2)∧T 5=(iV ((k:Nat):Int))∧T 65=(V.bool (decide ((((nth (nth m.nx s) k) < (0:Int))∨(((m.nx.length:Nat):Int)≤(nth (nth m.nx s) k)))∨((nth (nth m.ot s) k) < (0:Int)))))∧H 2=(bMq m)∧True) ?_ ?_
   ·
    by_cases g8:((nth (nth m.nx s) k) < (0:Int))∨(((m.nx.length:Nat):Int)≤(nth (nth m.nx s) k))
    ·
     refine G_n (edT g8 rfl) (G_n (edT g8 rfl) (G_n (edT g8 rfl) (G_n (edT g8 rfl) (G_n (edT g8 rfl) (G_n (edT g8 rfl) (G_n (edT g8 rfl) (G_n (edT g8 rfl) ?_)))))))
     refine G_n (edT g8 rfl) (aS (edT g8 rfl) rfl ?_)
     exact ⟨t1,t2,t5,(cQ g8),h2,trivial⟩
    ·
     refine aF (edF g8 rfl) (aM t2 h2 (aF (edF g8 rfl) (aJ rfl h2 rfl rfl (aF (edF g8 rfl) (aA t1 (aF (edF g8 rfl) (cY (i:=s) (rVq (aX m.ot)) (rNq s) (by omega) rfl ?_)))))))
     refine aF (edF g8 rfl) (aG rfl rfl (aF (edF g8 rfl) (aA t5 (aF (edF g8 rfl) (cY (i:=k) (rVq (aZ (nth m.ot s))) (rNq k) (by omega) rfl (aF (edF g8 rfl) (aG rfl rfl ?_)))))))
     refine aF (edF g8 rfl) (bM rfl rfl (aT (edF g8 rfl) rfl ?_))
     exact ⟨t1,t2,t5,(cR g8),h2,trivial⟩
   intro T H ⟨t1,t2,t5,t65,h2,_⟩
   refine aA t65 ?_
   refine aV 10 (fun T H=>T 1=(iV ((s:Nat):Int))∧T 2=(mPq 2)∧T 5=(iV ((k:Nat):Int))∧T 76=(V.bool (decide (((((nth (nth m.nx s) k) < (0:Int))∨(((m.nx.length:Nat):Int)≤(nth (nth m.nx s) k)))∨((nth (nth m.ot s) k) < (0:Int)))∨((1048576:Int) < (nth (nth m.ot s) k)))))∧H 2=(bMq m)∧True) ?_ ?_
   ·
    by_cases g9:(((nth (nth m.nx s) k) < (0:Int))∨(((m.nx.length:Nat):Int)≤(nth (nth m.nx s) k)))∨((nth (nth m.ot s) k) < (0:Int))
    ·
     refine G_n (edT g9 rfl) (G_n (edT g9 rfl) (G_n (edT g9 rfl) (G_n (edT g9 rfl) (G_n (edT g9 rfl) (G_n (edT g9 rfl) (G_n (edT g9 rfl) (G_n (edT g9 rfl) ?_)))))))
     refine G_n (edT g9 rfl) (aS (edT g9 rfl) rfl ?_)
     exact ⟨t1,t2,t5,(cQ g9),h2,trivial⟩
    ·
     refine aF (edF g9 rfl) (aM t2 h2 (aF (edF g9 rfl) (aJ rfl h2 rfl rfl (aF (edF g9 rfl) (aA t1 (aF (edF g9 rfl) (cY (i:=s) (rVq (aX m.ot)) (rNq s) (by omega) rfl ?_)))))))
     refine aF (edF g9 rfl) (aG rfl rfl (aF (edF g9 rfl) (aA t5 (aF (edF g9 rfl) (cY (i:=k) (rVq (aZ (nth m.ot s))) (rNq k) (by omega) rfl (aF (edF g9 rfl) (aG rfl rfl ?_)))))))
     refine aF (edF g9 rfl) (fJ rfl rfl (aT (edF g9 rfl) rfl ?_))
     exact ⟨t1,t2,t5,(cR g9),h2,trivial⟩
   intro T H ⟨t1,t2,t5,t76,h2,_⟩
   exact eD ⟨t1,t2,t5,t76,h2,trivial⟩
  intro T H ⟨t1,t2,t5,t76,h2,_⟩
  refine cD t76 (fun c10=>?_) fun c10=>?_
  ·
   refine W_r (aA rfl (R_e (aO (y6 _ _ (p24 _ _ (y3 _ _ ?_))))))
   refine bI (rVq (iV 2)) (aE ?_)
   · rw [hc,xA (by unfold aAi; split <;> omega) (by omega)]; unfold aAi; split <;> omega
  refine cM (n6 _ _ (.done (W_t (aA t5 (bB rfl (rNq 1) (by omega) (aA rfl (R_e ?_)))))))
  refine p14 _ _ _ ?_ ⟨(k+1),rfl,t1,t2,(eTq (rNq (k+1)) (by rfl)),h2,?_,?_,?_⟩
  · omega
  · omega
  · omega
  · rw [hc,wG (by unfold aAi; split <;> omega) (by omega)]
 refine aN (p34 _ _ _ (x3 _ _ (.done (W_r (aA rfl (R_e (aO ?_)))))))
 refine bI (rVq (iV 0)) (aE ?_)
 · rw [hc,aBZ (by omega)]
theorem vC (m:M):aQ Tryz.prog 53 [(V.agg [(iV m.i),(iV m.s),(aX m.nx),(aX m.ot)])] (iV (dM m)):=by
 refine pW Tryz.func53 aR1 fun hB=>?_
 unfold s53
 dsimp only
 refine W_r (cE (i:=1) (n:=0) (m:=4) (cs:=[(iV m.i),(iV m.s),(aX m.nx),(aX m.ot)]) rfl (cVq rfl) rfl rfl rfl (aA rfl (R_e (aB (W_r (aM rfl rfl (aJ rfl rfl rfl rfl ?_)))))))
 refine bM rfl rfl (aA rfl ?_)
 refine aV 4 (fun T H=>T 1=(mPq 1)∧T 12=(V.bool (decide ((m.i < (1:Int))∨((64:Int) < m.i))))∧H 1=(bMq m)∧True) ?_ ?_
 ·
  by_cases g1:m.i < (1:Int)
  ·
   refine G_n (edT g1 rfl) (G_n (edT g1 rfl) (G_n (edT g1 rfl) (aS (edT g1 rfl) rfl ?_)))
   exact ⟨rfl,(cQ g1),rfl,trivial⟩
  ·
   refine aF (edF g1 rfl) (aM rfl rfl (aF (edF g1 rfl) (aJ rfl rfl rfl rfl (aF (edF g1 rfl) (fJ rfl rfl (aT (edF g1 rfl) rfl ?_))))))
   exact ⟨rfl,(cR g1),rfl,trivial⟩
 intro T H ⟨t1,t12,h1,_⟩
 refine R_e ?_
 refine aH t12 (fun c2=>?_) fun c2=>?_
 ·
  refine aB (W_r (aA rfl (R_e (aL ?_))))
  refine bI (rVq (iV 2)) (aE ?_)
  · rw [dM,if_pos (by omega)]
 refine aC (aB (W_r (aM t1 h1 (aJ rfl h1 rfl rfl (bG rfl (aY rfl rfl (R_e ?_)))))))
 refine aH rfl (fun c3=>?_) fun c3=>?_
 ·
  refine aB (W_r (aA rfl (R_e (aL ?_))))
  refine bI (rVq (iV 19)) (aE ?_)
  · rw [dM,if_neg (by omega),if_pos (by omega)]
 refine aC (aB (W_r (aM t1 h1 (aJ rfl h1 rfl rfl (bG rfl (fJ rfl rfl (R_e ?_)))))))
 refine aH rfl (fun c4=>?_) fun c4=>?_
 ·
  refine aB (W_r (aA rfl (R_e (aL ?_))))
  refine bI (rVq (iV 11)) (aE ?_)
  · rw [dM,if_neg (by omega),if_neg (by omega),if_pos (by omega)]
 refine aC (aB (W_r (aM t1 h1 (aJ rfl h1 rfl rfl (bM rfl rfl (aA rfl ?_))))))
 refine aV 7 (fun T H=>T 1=(mPq 1)∧T 31=(V.bool (decide ((m.s < (0:Int))∨(((m.nx.length:Nat):Int)≤m.s))))∧H 1=(bMq m)∧True) ?_ ?_
 ·
  by_cases g5:m.s < (0:Int)
  ·
   refine G_n (edT g5 rfl) (G_n (edT g5 rfl) (G_n (edT g5 rfl) (G_n (edT g5 rfl) (G_n (edT g5 rfl) (G_n (edT g5 rfl) (aS (edT g5 rfl) rfl ?_))))))
   exact ⟨t1,(cQ g5),h1,trivial⟩
  ·
   refine aF (edF g5 rfl) (aM t1 h1 (aF (edF g5 rfl) (aJ rfl h1 rfl rfl (aF (edF g5 rfl) (aM t1 h1 (aF (edF g5 rfl) (aJ rfl h1 rfl rfl ?_)))))))
   refine aF (edF g5 rfl) (bG rfl (aF (edF g5 rfl) (jN rfl rfl (aT (edF g5 rfl) rfl ?_))))
   exact ⟨t1,(cR g5),h1,trivial⟩
 intro T H ⟨t1,t31,h1,_⟩
 refine R_e ?_
 refine aH t31 (fun c6=>?_) fun c6=>?_
 ·
  refine aB (W_r (aA rfl (R_e (aL ?_))))
  refine bI (rVq (iV 2)) (aE ?_)
  · rw [dM,if_neg (by omega),if_neg (by omega),if_neg (by omega),if_pos (by omega)]
 refine aC (aB (W_r (aM t1 h1 (aJ rfl h1 rfl rfl (bG rfl (aM t1 h1 (aJ rfl h1 rfl rfl ?_)))))))
 refine bG rfl (bZ rfl rfl (R_e ?_))
 refine aH rfl (fun c7=>?_) fun c7=>?_
 ·
  refine aB (W_r (aA rfl (R_e (aL ?_))))
  refine bI (rVq (iV 1)) (aE ?_)
  · rw [dM,if_neg (by omega),if_neg (by omega),if_neg (by omega),if_neg (by omega),if_pos (by omega)]
 refine aC (aB (W_r (aA rfl (R_e (aD fun Q8 n8 x8 y8 z8=>?_)))))
 refine bS (fun mm T H=> ∃ (k:Nat),mm=m.nx.length - k∧T 1=(mPq 1)∧T 3=(iV ((k:Nat):Int))∧H 1=(bMq m)∧(k≤m.nx.length)∧(1≤m.i∧m.i≤64∧0 < m.nx.length∧m.nx.length≤128∧m.ot.length=m.nx.length)∧(dM m=fe (sR m) k (m.nx.length - k))) ?_ ?_
 ·
  refine ⟨_,0,rfl,t1,(eTq (rVq (iV 0)) rfl),h1,?_,?_,?_⟩
  · omega
  · omega
  · rw [dM,if_neg (by omega),if_neg (by omega),if_neg (by omega),if_neg (by omega),if_neg (by omega)]; rfl
 intro mm T H ⟨k,hmm,t1,t3,h1,hk,hv,hc⟩ Q9 p19 p29 p39
 unfold aNU
 refine aB (W_r (aA t3 (aM t1 h1 (aJ rfl h1 rfl rfl (bG rfl (bM rfl rfl (R_e ?_)))))))
 refine aH rfl (fun c10=>?_) fun c10=>?_
 ·
  refine aC (aD fun Q11 n11 x11 y11 z11=>(W_r (aJ t1 h1 rfl rfl (aA t3 (aI (aIg m k (by omega) (by omega) (by omega)) rfl (aA rfl (R_e ?_)))))))
  refine W_r (aA rfl (bZ rfl rfl (R_e ?_)))
  refine cD rfl (fun c12=>?_) fun c12=>?_
  ·
   refine W_r (aA rfl (aA rfl (R_e (aO (y11 _ _ (p29 _ _ (y8 _ _ ?_)))))))
   refine bI (rVq (iV (sR m k))) (aE ?_)
   · rw [hc,xA (by omega) (by omega)]
  refine cM (n11 _ _ (.done (W_t (aA t3 (bB rfl (rNq 1) (by omega) (aA rfl (R_e ?_)))))))
  refine p19 _ _ _ ?_ ⟨(k+1),rfl,t1,(eTq (rNq (k+1)) (by rfl)),h1,?_,?_,?_⟩
  · omega
  · omega
  · omega
  · rw [hc,wG (by omega) (by omega)]
 refine aN (p39 _ _ _ (x8 _ _ (.done (W_r (aA rfl (R_e (aO ?_)))))))
 refine bI (rVq (iV 0)) (aE ?_)
 · rw [hc,aBZ (by omega)]
def aSm:List SO:=[
 qL 17 3 3,
 sO 18 (.call false 16 [.t 17]),
 qM 16 18,
 qE 19 16 0,
 qE 20 16 1,
 qM 7 19,
 qM 8 20]
def aSE:List SO:=[
 sO 27 (.build [.nilsl,.nilsl] []),
 qM 28 8,
 qC 29 .eql 28 0,
 qM 30 8,
 sN (.store 2 (.t 4) (.t 27)),
 qM 5 29,
 qM 6 30]
def aRX:List SO:=[
 qM 54 9,
 qM 55 10,
 qA 56 5 54 55,
 qF 57 1 56,
 qL 58 3 57,
 qM 59 11,
 qF 60 3 2,
 ql 61 60,
 qM 62 12,
 qA 63 1 61 62,
 ql 64 63,
 qM 65 11,
 qA 66 1 64 65,
 ql 67 66,
 sO 68 (.call false 14 [.t 58,.t 59,.t 67]),
 qM 53 68,
 qE 69 53 0,
 qE 70 53 1,
 sO 13 (.alloc 24 zFq),
 sN (.store 3 (.t 13) (.t 69)),
 qM 14 70]
def aR4:List SO:=[
 qM 75 9,
 qF 76 2 2,
 ql 77 76,
 qM 78 12,
 qA 79 1 77 78,
 ql 80 79,
 qM 81 11,
 qA 82 1 80 81,
 ql 83 82,
 qL 84 3 13,
 sO 85 (.call false 76 [.t 75,.t 83,.t 84])]
def aPv:List SO:=[
 qF 86 2 2,
 ql 87 86,
 qM 88 12,
 qA 89 1 87 88,
 ql 90 89,
 qM 91 11,
 qA 92 1 90 91,
 ql 93 92,
 qL 94 3 13,
 qM 95 9,
 qM 96 10,
 qA 97 5 95 96,
 qF 98 4 97,
 ql 99 98,
 qM 100 11,
 sO 101 (.bslice 3 1 false [.int .i64 0] 1 [(0,.t 100)]),
 sO 102 (.bslice 52 1 false [.nilsl] 2 [(0,.t 99),(1,.t 101)]),
 sO 103 (.call false 77 [.t 102]),
 sO 104 (.build [.int .i64 0,.int .i64 0,.int .i64 0,.nilsl,.nilsl] [(0,1,.t 93),(1,3,.t 94),(4,1,.t 103)]),
 sO 15 (.alloc 117 [.int .i64 0,.int .i64 0,.int .i64 0,.nilsl,.nilsl]),
 sN (.store 5 (.t 15) (.t 104))]
def aQq:List SO:=[
 qL 106 3 13,
 sO 107 (.call false 16 [.t 106]),
 qM 105 107,
 qE 108 105 0,
 qE 109 105 1,
 qM 7 108,
 qM 14 109]
def aQU:List SO:=[
 qL 116 4 2,
 qF 117 4 15,
 ql 118 117,
 sO 119 (.call false 78 [.t 116,.t 118]),
 sN (.store 2 (.t 4) (.t 119)),
 sO 5 (.mv (.c (.bool true))),
 qI 6 0]
def aNl:SC:=.seq (.seq (.reg [qM 42 11,qF 43 0 2,ql 44 43,qP 45 .lss 42 44]) (.cond (.t 45) (.skip) (.exit 2))) (.seq (.block 3 (.seq (.reg [qM 48 9,qM 49 10,qA 50 5 48 49,qF 51 0 50,ql 52 51,qM 12 52]) (.seq (.dreg [13] aRX) (.seq (.seq (.reg [qM 71 14,qC 72 .neq 71 0]) (.cond (.t 72) (.seq (.reg [sO 73 (.build [.nilsl,.nilsl] []),qM 74 14,sN (.store 2 (.t 4) (.t 73)),sO 5 (.mv (.c (.bool false))),qM 6 74]) (.ret)) (.skip))) (.seq (.seq (.reg aR4) (.cond (.t 85) (.exit 3) (.skip))) (.seq (.dreg [15] aPv) (.seq (.reg aQq) (.seq (.seq (.reg [qM 110 14,qC 111 .neq 110 0]) (.cond (.t 111) (.seq (.reg [sO 112 (.build [.nilsl,.nilsl] []),qM 113 14,sN (.store 2 (.t 4) (.t 112)),sO 5 (.mv (.c (.bool false))),qM 6 113]) (.ret)) (.skip))) (.seq (.seq (.reg [qM 114 7,sO 115 (.un .not (.t 114))]) (.cond (.t 115) (.seq (.reg aQU) (.ret)) (.skip))) (.seq (.seq (.reg [qM 120 9,qN 121 120,qC 122 .geq 121 4096]) (.cond (.t 122) (.seq (.reg [sO 123 (.build [.nilsl,.nilsl] []),sN (.store 2 (.t 4) (.t 123)),sO 5 (.mv (.c (.bool false))),qI 6 11]) (.ret)) (.skip))) (.reg [qM 124 9,qL 125 5 15,sO 126 (.bslice 117 5 false [.int .i64 0,.int .i64 0,.int .i64 0,.nilsl,.nilsl] 1 [(0,.t 125)]),sO 127 (.append 117 5 72 (.t 124) (.t 126)),qM 9 127]))))))))))) (.reg [qM 46 11,qC 47 .add 46 1,qM 11 47]))
def aNS:SC:=.seq (.seq (.reg [qM 36 10,qM 37 9,qN 38 37,qP 39 .lss 36 38]) (.cond (.t 39) (.skip) (.exit 0))) (.seq (.block 1 (.seq (.reg [qI 11 0]) (.block 2 (.loop aNl)))) (.reg [qM 40 10,qC 41 .add 40 1,qM 10 41]))
def s54:SF:=⟨129,[.cell 4 true 2,.tmp 5,.tmp 6],.seq (.reg [sO 2 (.box 50 4 (.t 0)),sO 3 (.box 24 3 (.t 1)),sO 4 (.alloc 54 [.nilsl,.nilsl]),sO 5 (.mv (.c (.bool false))),qI 6 0]) (.seq (.reg aSm) (.seq (.seq (.reg [qM 21 8,qC 22 .neq 21 0,qM 23 22,⟨some (23,false),some 24,.mv (.t 7)⟩,⟨some (23,false),some 25,.un .not (.t 24)⟩,sO 26 (.pick (.t 23) (.c (.bool true)) (.t 25))]) (.cond (.t 26) (.seq (.reg aSE) (.ret)) (.skip))) (.seq (.reg [qF 31 1 2,ql 32 31,qL 33 3 3,sO 34 (.build [.int .i64 0,.int .i64 0,.int .i64 0,.nilsl,.nilsl] [(0,1,.t 32),(1,3,.t 33)]),sO 35 (.bslice 117 5 true [.int .i64 0,.int .i64 0,.int .i64 0,.nilsl,.nilsl] 1 [(0,.t 34)]),qM 9 35]) (.seq (.seq (.reg [qI 10 0]) (.block 0 (.loop aNS))) (.seq (.reg [sO 128 (.build [.nilsl,.nilsl] []),sN (.store 2 (.t 4) (.t 128)),sO 5 (.mv (.c (.bool false))),qI 6 0]) (.ret))))))⟩
theorem aQi:bJ Tryz.prog ⟨oEq,[35],[],[]⟩ Tryz.f54=some s54:=by kernel_rfl
def aSK:List SO:=[
 qM 16 1,
 qC 17 .lss 16 0,
 qM 18 17,
 ⟨some (18,false),some 19,.mv (.t 1)⟩,
 ⟨some (18,false),some 20,.bin .geq (.t 19) (.c (.int .i64 64))⟩,
 sO 21 (.pick (.t 18) (.c (.bool true)) (.t 20)),
 qM 22 21,
 ⟨some (22,false),some 23,.mv (.t 2)⟩,
 ⟨some (22,false),some 24,.bin .lss (.t 23) (.c (.int .i64 0))⟩,
 sO 25 (.pick (.t 22) (.c (.bool true)) (.t 24)),
 qM 26 25,
 ⟨some (26,false),some 27,.mv (.t 2)⟩,
 ⟨some (26,false),some 28,.bin .gtr (.t 27) (.c (.int .i64 1048576))⟩,
 sO 29 (.pick (.t 26) (.c (.bool true)) (.t 28))]
def aTz:List SO:=[
 qL 32 3 3,
 sO 33 (.call false 12 [.t 32]),
 qM 31 33,
 qE 34 31 0,
 qE 35 31 1,
 sO 8 (.alloc 24 zFq),
 sN (.store 3 (.t 8) (.t 34)),
 qM 9 35]
def aSg:List SO:=[
 qL 40 3 8,
 qM 41 1,
 qM 42 2,
 sO 43 (.call false 41 [.t 40,.t 41,.t 42]),
 sO 44 (.call false 38 [.t 43]),
 qE 45 44 0,
 qE 46 44 1,
 sN (.store 3 (.t 6) (.t 45)),
 qM 7 46]
def s14:SF:=⟨47,[.cell 6 true 3,.tmp 7],.seq (.reg [sO 3 (.box 24 3 (.t 0)),sO 6 (.alloc 24 zFq),qI 7 0]) (.seq (.seq (.reg [qL 10 3 3,sO 11 (.call false 28 [.t 10]),qC 12 .neq 11 0]) (.cond (.t 12) (.seq (.reg [sO 13 (.build zFq []),qL 14 3 3,sO 15 (.call false 28 [.t 14]),sN (.store 3 (.t 6) (.t 13)),qM 7 15]) (.ret)) (.skip))) (.seq (.seq (.reg aSK) (.cond (.t 29) (.seq (.reg [sO 30 (.build zFq []),sN (.store 3 (.t 6) (.t 30)),qI 7 2]) (.ret)) (.skip))) (.seq (.reg aTz) (.seq (.seq (.reg [qM 36 9,qC 37 .neq 36 0]) (.cond (.t 37) (.seq (.reg [sO 38 (.build zFq []),qM 39 9,sN (.store 3 (.t 6) (.t 38)),qM 7 39]) (.ret)) (.skip))) (.seq (.reg aSg) (.ret))))))⟩
theorem aQ6:bJ Tryz.prog ⟨oEq,[],[],[]⟩ Tryz.f14=some s14:=by kernel_rfl
def aTq:List SO:=[
 qF 38 2 3,
 ql 39 38,
 sO 40 (.idx 3 (.t 39) (.c (.int .i64 0))),
 qL 41 3 40,
 qM 42 1,
 qM 43 2,
 sO 44 (.call false 41 [.t 41,.t 42,.t 43]),
 sO 45 (.part false 0 1 (.t 44)),
 qC 46 .neq 45 1,
 sO 47 (.call false 68 [.t 46]),
 sN (.store 3 (.t 6) (.t 47))]
def aQa:List SO:=[
 qF 61 2 3,
 ql 62 61,
 sO 63 (.idx 3 (.t 62) (.c (.int .i64 0))),
 qL 64 3 63,
 qM 65 1,
 qM 66 2,
 sO 67 (.call false 41 [.t 64,.t 65,.t 66]),
 qF 68 2 3,
 ql 69 68,
 sO 70 (.idx 3 (.t 69) (.c (.int .i64 1))),
 qL 71 3 70,
 qM 72 1,
 qM 73 2,
 sO 74 (.call false 41 [.t 71,.t 72,.t 73]),
 sO 9 (.alloc 24 zFq),
 sO 10 (.alloc 24 zFq),
 sN (.store 3 (.t 9) (.t 67)),
 sN (.store 3 (.t 10) (.t 74))]
def aQn:List SO:=[
 qM 75 7,
 qL 76 3 10,
 qM 77 8,
 qL 78 3 9,
 qL 79 3 3,
 sO 80 (.bslice 24 3 false zFq 2 [(0,.t 78),(1,.t 79)]),
 sO 81 (.build zFq [(0,1,.t 77),(2,1,.t 80)]),
 sO 82 (.bslice 24 3 false zFq 2 [(0,.t 76),(1,.t 81)]),
 sO 83 (.build zFq [(0,1,.t 75),(2,1,.t 82)]),
 sN (.store 3 (.t 6) (.t 83))]
def aPm:List SO:=[
 qF 94 2 11,
 ql 95 94,
 qF 96 2 3,
 ql 97 96,
 qM 98 12,
 qA 99 3 97 98,
 qL 100 3 99,
 qM 101 1,
 qM 102 2,
 sO 103 (.call false 41 [.t 100,.t 101,.t 102]),
 sO 104 (.bslice 24 3 false zFq 1 [(0,.t 103)]),
 sO 105 (.append 24 3 40 (.t 95) (.t 104)),
 qF 106 2 11,
 sN (.store 1 (.t 106) (.t 105))]
def aNF:SC:=.seq (.seq (.reg [qM 87 12,qF 88 2 3,ql 89 88,qN 90 89,qP 91 .lss 87 90]) (.cond (.t 91) (.skip) (.exit 1))) (.seq (.block 2 (.reg aPm)) (.reg [qM 92 12,qC 93 .add 92 1,qM 12 93]))
def s41:SF:=⟨108,[.cell 6 true 3],.seq (.reg [sO 3 (.box 24 3 (.t 0)),sO 6 (.alloc 24 zFq)]) (.seq (.seq (.reg [qF 13 0 3,ql 14 13]) (.block 0 (.seq (.reg [qC 16 .eql 14 2,qM 15 16]) (.cond (.t 15) (.seq (.reg [qF 17 1 3,ql 18 17,qM 19 1,qP 20 .eql 18 19,sO 21 (.call false 68 [.t 20]),sN (.store 3 (.t 6) (.t 21))]) (.ret)) (.seq (.reg [qC 23 .eql 14 3,qM 22 23]) (.cond (.t 22) (.seq (.reg [qF 24 1 3,ql 25 24,qM 26 2,qP 27 .eql 25 26,sO 28 (.call false 68 [.t 27]),sN (.store 3 (.t 6) (.t 28))]) (.ret)) (.seq (.reg [qC 30 .eql 14 4,qM 29 30]) (.cond (.t 29) (.seq (.seq (.reg [qF 31 2 3,ql 32 31,sO 33 (.idx 3 (.t 32) (.c (.int .i64 0))),qF 34 0 33,ql 35 34,qC 36 .eql 35 1]) (.cond (.t 36) (.seq (.reg [qL 37 3 3,sN (.store 3 (.t 6) (.t 37))]) (.ret)) (.skip))) (.seq (.reg aTq) (.ret))) (.seq (.seq (.reg [qC 49 .eql 14 7,qM 48 49]) (.cond (.t 48) (.skip) (.reg [qC 50 .eql 14 9,qM 48 50]))) (.cond (.t 48) (.seq (.reg [qF 51 2 3,ql 52 51,sO 53 (.idx 3 (.t 52) (.c (.int .i64 0))),qL 54 3 53,sN (.store 3 (.t 6) (.t 54))]) (.ret)) (.seq (.seq (.reg [qC 56 .eql 14 8,qM 55 56]) (.cond (.t 55) (.skip) (.reg [qC 57 .eql 14 10,qM 55 57]))) (.cond (.t 55) (.seq (.reg [qI 7 6,qI 8 5]) (.seq (.seq (.reg [qF 58 0 3,ql 59 58,qC 60 .eql 59 10]) (.cond (.t 60) (.seq (.reg [qI 7 5]) (.reg [qI 8 6])) (.skip))) (.seq (.dreg [9,10] aQa) (.seq (.reg aQn) (.ret))))) (.skip))))))))))))) (.seq (.reg [qF 84 0 3,ql 85 84,sO 86 (.build zFq [(0,1,.t 85)]),sO 11 (.alloc 24 zFq),sN (.store 3 (.t 11) (.t 86))]) (.seq (.seq (.reg [qI 12 0]) (.block 1 (.loop aNF))) (.seq (.reg [qL 107 3 11,sN (.store 3 (.t 6) (.t 107))]) (.ret)))))⟩
theorem aRh:bJ Tryz.prog ⟨oEq,[],[],[]⟩ Tryz.f41=some s41:=by kernel_rfl
def s68:SF:=⟨10,[.cell 2 true 3],.seq (.reg [sO 2 (.alloc 24 zFq)]) (.seq (.reg [sO 4 (.build zFq [(0,1,.c (.int .i64 1))]),sO 3 (.alloc 24 zFq),sN (.store 3 (.t 3) (.t 4))]) (.seq (.seq (.reg [qM 5 0]) (.cond (.t 5) (.seq (.reg [qL 6 3 3,sN (.store 3 (.t 2) (.t 6))]) (.ret)) (.skip))) (.seq (.reg [qL 7 3 3,sO 8 (.bslice 24 3 false zFq 1 [(0,.t 7)]),sO 9 (.build zFq [(0,1,.c (.int .i64 4)),(2,1,.t 8)]),sN (.store 3 (.t 2) (.t 9))]) (.ret))))⟩
theorem aPj:bJ Tryz.prog ⟨oEq,[],[],[]⟩ Tryz.f68=some s68:=by kernel_rfl
theorem oF (b:Bool):aQ Tryz.prog 68 [(V.bool b)] (V.agg (rFq (trF b))):=by
 refine pW Tryz.func68 aPj fun hB=>?_
 unfold s68
 dsimp only
 refine W_r (aU (i:=2) (n:=0) (m:=3) rfl (cVq rfl) rfl (R_e ?_))
 refine dO (fun T H=>T 0=(V.bool b)∧T 2=(mPq 2)∧T 3=(mPq 3)∧H 2=bYq∧H 3=(bk 1 24 3 [[(iV 1),(iV 0),V.nilsl]])∧True) ?_ ?_
 ·
  refine aW rfl rfl (aU (i:=3) (n:=0) (m:=3) rfl (cVq rfl) rfl (bF rfl rfl rfl rfl rfl rfl rfl rfl rfl ?_))
  exact eD ⟨rfl,rfl,rfl,rfl,rfl,trivial⟩
 intro T H ⟨t0,t2,t3,h2,h3,_⟩
 refine aCd (r':=[(iV 1),(iV 0),(V.sl (List.map cF ([])))]) h3 rfl (.done ?_)
 refine cJ (R:=fun T H=>T 0=(V.bool b)∧T 2=(mPq 2)∧T 3=(mPq 3)∧H 2=bYq∧H 3=(bk 1 24 3 [[(iV 1),(iV 0),(V.sl (List.map cF ([])))]])∧True) ⟨t0,t2,t3,(uTq h2),(aK _ _ _),trivial⟩ ?_
 intro T H ⟨t0,t2,t3,h2,h3,_⟩
 refine aB (W_r (aA t0 (R_e ?_)))
 refine cC rfl (fun c1=>?_) (fun c1=>?_)
 ·
  refine aB (W_r (aJ t3 h3 rfl rfl (bF t2 rfl rfl h2 rfl rfl rfl rfl rfl (R_e (aL ?_)))))
  refine cP (bC (u:=(V.agg [(iV 1),(iV 0),(V.sl (List.map cF ([])))])) t2 (@rfl Blk (bk 1 24 3 [[(iV 1),(iV 0),(V.sl (List.map cF ([])))]])) (lB oB rfl rfl)) (bE (aE ?_) (aE ?_) (dB ?_ (fun _=>by simp)))
  · cases b <;> first|rfl|(simp_all; done)
  · cases b <;> first|rfl|(simp_all; done)
  · cases b <;> first|rfl|(simp_all; done)
 refine aC (W_r (aJ t3 h3 rfl rfl (aR rfl rfl (aW rfl rfl (bF t2 rfl rfl h2 rfl rfl rfl rfl rfl (R_e (aO ?_)))))))
 refine cP (bC (u:=(V.agg [(iV 4),(iV 0),(V.sl [[(iV 1),(iV 0),(V.sl (List.map cF ([])))]])])) t2 (@rfl Blk (bk 1 24 3 [[(iV 4),(iV 0),(V.sl [[(iV 1),(iV 0),(V.sl (List.map cF ([])))]])]])) (lB oB rfl rfl)) (bE (aE ?_) (aE ?_) (cG (by simp) (eTq (aFa (x:=(Fm.nd (1:Int) (0:Int) [])) rfl) (congrArg (fun l=>V.sl (List.map cF l)) ?_))))
 · cases b <;> first|rfl|(simp_all; done)
 · cases b <;> first|rfl|(simp_all; done)
 · cases b <;> first|rfl|(simp_all; done)
theorem tX (f:Fm) (a o:Int) (hok:okF f=true) (hn:nnf f=true) (hz:f.sz≤4096) (ih: ∀ (g:Fm) (a o:Int),g.sz < f.sz→okF g=true→nnf g=true→g.sz≤4096→aQ Tryz.prog 41 [(V.agg (rFq g)),(iV a),(iV o)] (V.agg (rFq (mst g a o)))):aQ Tryz.prog 41 [(V.agg (rFq f)),(iV a),(iV o)] (V.agg (rFq (mst f a o))):=by
 refine pW Tryz.func41 aRh fun hB=>?_
 unfold s41
 dsimp only
 have hp:=bP hok
 have hr:=dE hp.1
 have hln:=f.sz_len
 refine W_r (cE (i:=3) (n:=0) (m:=3) (cs:=(rFq f)) rfl (cVq rfl) rfl rfl rfl (aU (i:=6) (n:=0) (m:=3) rfl (cVq rfl) rfl (R_e (aB (W_r (aM rfl rfl (aJ rfl rfl rfl rfl ?_)))))))
 refine R_e (aD fun Q1 n1 x1 y1 z1=>(W_r (aY rfl rfl (aA rfl (R_e ?_)))))
 refine cD rfl (fun c2=>?_) fun c2=>?_
 ·
  refine W_r (aM rfl rfl (aJ rfl rfl rfl rfl (aA rfl (aY rfl rfl (aI (oF (decide (f.arg=a))) rfl (bF rfl rfl rfl rfl rfl rfl rfl rfl rfl (R_e ?_)))))))
  refine aO (y1 _ _ ?_)
  refine cP (bC (u:=(V.agg (rFq (trF (decide (f.arg=a)))))) rfl (@rfl Blk (bFq (trF (decide (f.arg=a))))) (lB oB rfl rfl)) (bE (aE ?_) (aE ?_) (dB ?_ (fun _=>by simp)))
  · rw [pE (f:=f) (by omega)]
  · rw [pE (f:=f) (by omega)]
  · rw [pE (f:=f) (by omega)]
 refine W_r (aY rfl rfl (aA rfl (R_e ?_)))
 refine cD rfl (fun c3=>?_) fun c3=>?_
 ·
  refine W_r (aM rfl rfl (aJ rfl rfl rfl rfl (aA rfl (aY rfl rfl (aI (oF (decide (f.arg=o))) rfl (bF rfl rfl rfl rfl rfl rfl rfl rfl rfl (R_e ?_)))))))
  refine aO (y1 _ _ ?_)
  refine cP (bC (u:=(V.agg (rFq (trF (decide (f.arg=o)))))) rfl (@rfl Blk (bFq (trF (decide (f.arg=o))))) (lB oB rfl rfl)) (bE (aE ?_) (aE ?_) (dB ?_ (fun _=>by simp)))
  · rw [oL (f:=f) (by omega)]
  · rw [oL (f:=f) (by omega)]
  · rw [oL (f:=f) (by omega)]
 refine W_r (aY rfl rfl (aA rfl (R_e ?_)))
 refine cD rfl (fun c4=>?_) fun c4=>?_
 ·
  refine aB (W_r (aM rfl rfl (aJ rfl rfl rfl rfl (bU (i:=0) (rVq (V.sl (List.map cF f.kids))) (rNq 0) (by omega) (bN _) rfl (jB (cs':=(rFq (nth f.kids 0))) rfl rfl (aG rfl rfl (aY rfl rfl ?_)))))))
  refine R_e ?_
  refine aH rfl (fun c5=>?_) fun c5=>?_
  ·
   refine aB (W_r (aJ rfl rfl rfl rfl (bF rfl rfl rfl rfl rfl rfl rfl rfl rfl (R_e (aL (y1 _ _ ?_))))))
   refine cP (bC (u:=(V.agg (rFq f))) rfl (@rfl Blk (bFq f)) (lB oB rfl rfl)) (bE (aE ?_) (aE ?_) (dB ?_ (fun _=>by simp)))
   · rw [← aPB hok hn (by omega) (by omega) a o]
   · rw [← aPB hok hn (by omega) (by omega) a o]
   · rw [← aPB hok hn (by omega) (by omega) a o]
  refine aC (W_r (aM rfl rfl (aJ rfl rfl rfl rfl (bU (i:=0) (rVq (V.sl (List.map cF f.kids))) (rNq 0) (by omega) (bN _) rfl (aG rfl rfl (aA rfl (aA rfl ?_)))))))
  refine aI (ih (nth f.kids 0) a o skq (hp.2 _ (by omega)) (eC hn (by omega)).1 (szq hz)) rfl (aQL (v:=(iV ((mst (nth f.kids 0) a o).op))) rfl (by rfl) (bZ rfl rfl (aI (oF (decide (((mst (nth f.kids 0) a o).op)≠(1:Int)))) rfl (bF rfl rfl rfl rfl rfl rfl rfl rfl rfl (R_e (aO (y1 _ _ ?_)))))))
  refine cP (bC (u:=(V.agg (rFq (trF (decide (((mst (nth f.kids 0) a o).op)≠(1:Int))))))) rfl (@rfl Blk (bFq (trF (decide (((mst (nth f.kids 0) a o).op)≠(1:Int)))))) (lB oB rfl rfl)) (bE (aE ?_) (aE ?_) (dB ?_ (fun _=>by simp)))
  · rw [oI (f:=f) (by omega),← aIZ hok hn (by omega) (by omega)]
  · rw [oI (f:=f) (by omega),← aIZ hok hn (by omega) (by omega)]
  · rw [oI (f:=f) (by omega),← aIZ hok hn (by omega) (by omega)]
 refine aB (W_r (aY rfl rfl (aA rfl (R_e ?_))))
 refine aH rfl (fun c6=>?_) fun c6=>?_
 ·
  refine aC ?_
  refine cD rfl (fun c7=>?_) fun c7=>?_
  ·
   refine W_r (aM rfl rfl (aJ rfl rfl rfl rfl (bU (i:=0) (rVq (V.sl (List.map cF f.kids))) (rNq 0) (by omega) (bN _) rfl (aG rfl rfl (bF rfl rfl rfl rfl rfl rfl rfl rfl rfl (R_e (aO ?_)))))))
   refine y1 _ _ ?_
   refine cP (bC (u:=(V.agg (rFq (nth f.kids 0)))) rfl (@rfl Blk (bFq (nth f.kids 0))) (lB oB rfl rfl)) (bE (aE ?_) (aE ?_) (dB ?_ (fun _=>by simp)))
   · rw [gR (f:=f) (by omega)]
   · rw [gR (f:=f) (by omega)]
   · rw [gR (f:=f) (by omega)]
  · exact (c7 c6).elim
 refine W_r (aY rfl rfl (aA rfl (R_e ?_)))
 refine cD rfl (fun c8=>?_) fun c8=>?_
 ·
  refine W_r (aM rfl rfl (aJ rfl rfl rfl rfl (bU (i:=0) (rVq (V.sl (List.map cF f.kids))) (rNq 0) (by omega) (bN _) rfl (aG rfl rfl (bF rfl rfl rfl rfl rfl rfl rfl rfl rfl (R_e (aO ?_)))))))
  refine y1 _ _ ?_
  refine cP (bC (u:=(V.agg (rFq (nth f.kids 0)))) rfl (@rfl Blk (bFq (nth f.kids 0))) (lB oB rfl rfl)) (bE (aE ?_) (aE ?_) (dB ?_ (fun _=>by simp)))
  · rw [gR (f:=f) (by omega)]
  · rw [gR (f:=f) (by omega)]
  · rw [gR (f:=f) (by omega)]
 refine aB (W_r (aY rfl rfl (aA rfl (R_e ?_))))
 refine aH rfl (fun c9=>?_) fun c9=>?_
 ·
  refine aC ?_
  refine cD rfl (fun c10=>?_) fun c10=>?_
  ·
   refine W_r (aA rfl (aA rfl (R_e (aB (W_r (aM rfl rfl (aJ rfl rfl rfl rfl ?_)))))))
   refine aY rfl rfl (R_e ?_)
   refine aH rfl (fun c11=>?_) fun c11=>?_
   ·
    refine aB (W_r (aA rfl (R_e (W_r (aA rfl (R_e ?_))))))
    refine vB (fun T H=>T 3=(mPq 3)∧T 6=(mPq 6)∧T 7=(iV 5)∧T 8=(iV 6)∧T 9=(mPq 9)∧T 10=(mPq 10)∧H 3=(bFq f)∧H 6=bYq∧H 9=(bFq (mst (nth f.kids 0) a o))∧H 10=(bFq (mst (nth f.kids 1) a o))∧H 11=bZq∧H 708=bZq∧True) (by exact (jY rfl (jY rfl lV))) ?_ ?_
    ·
     refine aM rfl rfl (aJ rfl rfl rfl rfl (bU (i:=0) (rVq (V.sl (List.map cF f.kids))) (rNq 0) (by omega) (bN _) rfl (aG rfl rfl (aA rfl (aA rfl (aI (ih (nth f.kids 0) a o skq (hp.2 _ (by omega)) (eC hn (by omega)).1 (szq hz)) rfl (aM rfl rfl ?_)))))))
     refine aJ rfl rfl rfl rfl (bU (i:=1) (rVq (V.sl (List.map cF f.kids))) (rNq 1) (by omega) (bN _) rfl (aG rfl rfl (aA rfl (aA rfl (aI (ih (nth f.kids 1) a o skq (hp.2 _ (by omega)) (eC hn (by omega)).1 (szq hz)) rfl (aU (i:=9) (n:=0) (m:=3) rfl (cVq rfl) rfl (aU (i:=10) (n:=0) (m:=3) rfl (cVq rfl) rfl ?_)))))))
     refine bF rfl rfl rfl rfl rfl rfl rfl rfl rfl (bF rfl rfl rfl rfl rfl rfl rfl rfl rfl ?_)
     exact eD ⟨rfl,rfl,rfl,rfl,rfl,rfl,rfl,rfl,rfl,rfl,rfl,rfl,trivial⟩
    intro T H ⟨t3,t6,t7,t8,t9,t10,h3,h6,h9,h10,h11,h708,_⟩
    refine W_r (aA t7 (aJ t10 h10 rfl rfl (aA t8 (aJ t9 h9 rfl rfl (aJ t3 h3 rfl rfl (aR rfl rfl (aW rfl rfl ?_)))))))
    refine aR rfl rfl (aW rfl rfl (bF t6 rfl rfl h6 rfl rfl rfl rfl rfl (R_e (aO (y1 _ _ ?_)))))
    refine cP (bC (u:=(V.agg [(iV 5),(iV 0),(V.sl [(rFq (mst (nth f.kids 1) a o)),[(iV 6),(iV 0),(V.sl [(rFq (mst (nth f.kids 0) a o)),(rFq f)])]])])) t6 (@rfl Blk (bk 1 24 3 [[(iV 5),(iV 0),(V.sl [(rFq (mst (nth f.kids 1) a o)),[(iV 6),(iV 0),(V.sl [(rFq (mst (nth f.kids 0) a o)),(rFq f)])]])]])) (lB oB rfl rfl)) (bE (aE ?_) (aE ?_) (cG (by simp) ?_))
    · exfalso; omega
    · exfalso; omega
    · exfalso; omega
   refine aC (W_d (by exact (jY rfl (jY rfl lV))) (aM rfl rfl (aJ rfl rfl rfl rfl (bU (i:=0) (rVq (V.sl (List.map cF f.kids))) (rNq 0) (by omega) (bN _) rfl (aG rfl rfl (aA rfl (aA rfl ?_)))))))
   refine aI (ih (nth f.kids 0) a o skq (hp.2 _ (by omega)) (eC hn (by omega)).1 (szq hz)) rfl (aM rfl rfl (aJ rfl rfl rfl rfl (bU (i:=1) (rVq (V.sl (List.map cF f.kids))) (rNq 1) (by omega) (bN _) rfl (aG rfl rfl (aA rfl (aA rfl (aI (ih (nth f.kids 1) a o skq (hp.2 _ (by omega)) (eC hn (by omega)).1 (szq hz)) rfl ?_)))))))
   refine aU (i:=9) (n:=0) (m:=3) rfl (cVq rfl) rfl (aU (i:=10) (n:=0) (m:=3) rfl (cVq rfl) rfl (bF rfl rfl rfl rfl rfl rfl rfl rfl rfl (bF rfl rfl rfl rfl rfl rfl rfl rfl rfl (R_e ?_))))
   refine kX (fun T H=>T 6=(mPq 6)∧H 3=(bFq f)∧H 6=(bk 1 24 3 [[(iV 6),(iV 0),(V.sl [(rFq (mst (nth f.kids 1) a o)),[(iV 5),(iV 0),(V.sl [(rFq (mst (nth f.kids 0) a o)),(rFq f)])]])]])∧H 9=(bFq (mst (nth f.kids 0) a o))∧H 10=(bFq (mst (nth f.kids 1) a o))∧H 11=bZq∧H 708=bZq∧True) ?_ ?_
   ·
    refine aA rfl (aJ rfl rfl rfl rfl (aA rfl (aJ rfl rfl rfl rfl (aJ rfl rfl rfl rfl (aR rfl rfl (aW rfl rfl (aR rfl rfl ?_)))))))
    refine aW rfl rfl (bF rfl rfl rfl rfl rfl rfl rfl rfl rfl ?_)
    exact eD ⟨rfl,rfl,rfl,rfl,rfl,rfl,rfl,trivial⟩
   intro T H ⟨t6,h3,h6,h9,h10,h11,h708,_⟩
   refine aO (y1 _ _ ?_)
   refine cP (bC (u:=(V.agg [(iV 6),(iV 0),(V.sl [(rFq (mst (nth f.kids 1) a o)),[(iV 5),(iV 0),(V.sl [(rFq (mst (nth f.kids 0) a o)),(rFq f)])]])])) t6 h6 (lB oB rfl rfl)) (bE (aE ?_) (aE ?_) (cG (by simp) ?_))
   · rw [qS (f:=f) (by omega) (by omega)]; try rfl
   · rw [qS (f:=f) (by omega) (by omega)]; try rfl
   · rw [qS (f:=f) (by omega) (by omega)]; exact aNA
  · exact (c10 c9).elim
 refine W_r (aY rfl rfl (aA rfl (R_e ?_)))
 refine cD rfl (fun c12=>?_) fun c12=>?_
 ·
  refine W_r (aA rfl (aA rfl (R_e (aB (W_r (aM rfl rfl (aJ rfl rfl rfl rfl ?_)))))))
  refine aY rfl rfl (R_e ?_)
  refine aH rfl (fun c13=>?_) fun c13=>?_
  ·
   refine aB (W_r (aA rfl (R_e (W_r (aA rfl (R_e ?_))))))
   refine vB (fun T H=>T 3=(mPq 3)∧T 6=(mPq 6)∧T 7=(iV 5)∧T 8=(iV 6)∧T 9=(mPq 9)∧T 10=(mPq 10)∧H 3=(bFq f)∧H 6=bYq∧H 9=(bFq (mst (nth f.kids 0) a o))∧H 10=(bFq (mst (nth f.kids 1) a o))∧H 11=bZq∧H 708=bZq∧True) (by exact (jY rfl (jY rfl lV))) ?_ ?_
   ·
    refine aM rfl rfl (aJ rfl rfl rfl rfl (bU (i:=0) (rVq (V.sl (List.map cF f.kids))) (rNq 0) (by omega) (bN _) rfl (aG rfl rfl (aA rfl (aA rfl (aI (ih (nth f.kids 0) a o skq (hp.2 _ (by omega)) (eC hn (by omega)).1 (szq hz)) rfl (aM rfl rfl ?_)))))))
    refine aJ rfl rfl rfl rfl (bU (i:=1) (rVq (V.sl (List.map cF f.kids))) (rNq 1) (by omega) (bN _) rfl (aG rfl rfl (aA rfl (aA rfl (aI (ih (nth f.kids 1) a o skq (hp.2 _ (by omega)) (eC hn (by omega)).1 (szq hz)) rfl (aU (i:=9) (n:=0) (m:=3) rfl (cVq rfl) rfl (aU (i:=10) (n:=0) (m:=3) rfl (cVq rfl) rfl ?_)))))))
    refine bF rfl rfl rfl rfl rfl rfl rfl rfl rfl (bF rfl rfl rfl rfl rfl rfl rfl rfl rfl ?_)
    exact eD ⟨rfl,rfl,rfl,rfl,rfl,rfl,rfl,rfl,rfl,rfl,rfl,rfl,trivial⟩
   intro T H ⟨t3,t6,t7,t8,t9,t10,h3,h6,h9,h10,h11,h708,_⟩
   refine W_r (aA t7 (aJ t10 h10 rfl rfl (aA t8 (aJ t9 h9 rfl rfl (aJ t3 h3 rfl rfl (aR rfl rfl (aW rfl rfl ?_)))))))
   refine aR rfl rfl (aW rfl rfl (bF t6 rfl rfl h6 rfl rfl rfl rfl rfl (R_e (aO (y1 _ _ ?_)))))
   refine cP (bC (u:=(V.agg [(iV 5),(iV 0),(V.sl [(rFq (mst (nth f.kids 1) a o)),[(iV 6),(iV 0),(V.sl [(rFq (mst (nth f.kids 0) a o)),(rFq f)])]])])) t6 (@rfl Blk (bk 1 24 3 [[(iV 5),(iV 0),(V.sl [(rFq (mst (nth f.kids 1) a o)),[(iV 6),(iV 0),(V.sl [(rFq (mst (nth f.kids 0) a o)),(rFq f)])]])]])) (lB oB rfl rfl)) (bE (aE ?_) (aE ?_) (cG (by simp) ?_))
   · rw [lP (f:=f) (by omega) (by omega)]; try rfl
   · rw [lP (f:=f) (by omega) (by omega)]; try rfl
   · rw [lP (f:=f) (by omega) (by omega)]; exact aNA
  · exact (c13 c12).elim
 refine cM (n1 _ _ (.done (W_r (aM rfl rfl (aJ rfl rfl rfl rfl (aW rfl rfl (aU (i:=11) (n:=0) (m:=3) rfl (cVq rfl) rfl ?_)))))))
 refine bF rfl rfl rfl rfl rfl rfl rfl rfl rfl (R_e (aB ?_))
 refine dO (fun T H=>T 1=(iV a)∧T 2=(iV o)∧T 3=(mPq 3)∧T 6=(mPq 6)∧T 11=(mPq 11)∧T 12=(iV 0)∧H 3=(bFq f)∧H 6=bYq∧H 9=bZq∧H 10=bZq∧H 11=(bk 1 24 3 [[(iV f.op),(iV 0),V.nilsl]])∧H 708=bZq∧True) ?_ ?_
 ·
  refine aA rfl ?_
  exact eD ⟨rfl,rfl,rfl,rfl,rfl,rfl,rfl,rfl,rfl,rfl,rfl,rfl,trivial⟩
 intro T H ⟨t1,t2,t3,t6,t11,t12,h3,h6,h9,h10,h11,h708,_⟩
 refine .lazyCell 708 24 3 11 0 2 [(iV f.op),(iV 0),V.nilsl] (by decide) (by rw [h11]; rfl) (by rw [h11]; rfl) rfl (.done ?_)
 refine cJ (R:=fun T H=>T 1=(iV a)∧T 2=(iV o)∧T 3=(mPq 3)∧T 6=(mPq 6)∧T 11=(mPq 11)∧T 12=(iV 0)∧H 3=(bFq f)∧H 6=bYq∧H 9=bZq∧H 10=bZq∧H 11=(bk 1 24 3 [[(iV f.op),(iV 0),(V.ms 708 1 0 0)]])∧H 708=(bz 1 24 3 [])∧True) ⟨t1,t2,t3,t6,t11,t12,(uTq (uTq h3)),(uTq (uTq h6)),(uTq (uTq h9)),(uTq (uTq h10)),(by rw [aK,h11,(cVq h708)]; rfl),(by rw [bD _ _ (by decide),aK,(cVq h708)]),trivial⟩ ?_
 intro T H ⟨t1,t2,t3,t6,t11,t12,h3,h6,h9,h10,h11,h708,_⟩
 refine aD fun Q14 n14 x14 y14 z14=>?_
 refine bS (fun mm T H=> ∃ (k:Nat) (w:Nat),mm=f.kids.length - k∧T 1=(iV a)∧T 2=(iV o)∧T 3=(mPq 3)∧T 6=(mPq 6)∧T 11=(mPq 11)∧T 12=(iV ((k:Nat):Int))∧H 3=(bFq f)∧H 6=bYq∧H 9=bZq∧H 10=bZq∧H 11=(bk 1 24 3 [[(iV f.op),(iV 0),(V.ms 708 w 0 k)]])∧H 708=(bz w 24 3 (List.map cF ((f.kids.take k).map (fun g=>mst g a o))))∧(k≤f.kids.length)) ?_ ?_
 ·
  refine ⟨_,0,1,rfl,t1,t2,t3,t6,t11,(eTq t12 rfl),h3,h6,h9,h10,h11,(eTq h708 (by rfl)),?_⟩
  · omega
 intro mm T H ⟨k,w,hmm,t1,t2,t3,t6,t11,t12,h3,h6,h9,h10,h11,h708,hk⟩ Q15 p115 p215 p315
 unfold aNF
 refine aB (W_r (aA t12 (aM t3 h3 (aJ rfl h3 rfl rfl (bG rfl (bM rfl rfl (R_e ?_)))))))
 refine aH rfl (fun c16=>?_) fun c16=>?_
 ·
  refine aC (aD fun Q17 n17 x17 y17 z17=>(W_t (aM t11 h11 (aJ rfl h11 rfl rfl (aM t3 h3 (aJ rfl h3 rfl rfl (aA t12 ?_)))))))
  refine bU (i:=k) (rVq (V.sl (List.map cF f.kids))) (rNq k) (by omega) (bN _) rfl (aG rfl rfl (aA t1 (aA t2 (aI (ih (nth f.kids k) a o skq (hp.2 _ (by omega)) (eC hn (by omega)).1 (szq hz)) rfl (aR rfl rfl (bX (l:=((f.kids.take k).map (fun g=>mst g a o))) (f:=cF) (x:=(mst (nth f.kids k) a o)) (rVq (V.ms 708 w 0 k)) h708 (by (simp; omega)) (fU (x:=(mst (nth f.kids k) a o)) (rVq (V.sl [(rFq (mst (nth f.kids k) a o))]))) (eV _) (fC _) (by omega) (by omega) (aM t11 h11 ?_)))))))
  refine bF rfl rfl rfl h11 rfl rfl rfl rfl rfl (R_e (n17 _ _ (.done (W_t (aA t12 (bB rfl (rNq 1) (by omega) (aA rfl ?_)))))))
  refine R_e ?_
  refine p115 _ _ _ ?_ ⟨(k+1),(w+1),rfl,t1,t2,t3,t6,t11,(eTq (rNq (k+1)) (by rfl)),h3,h6,h9,h10,(eTq (@rfl Blk (bk 1 24 3 [[(iV f.op),(iV 0),(V.ms 708 (w+1) 0 (k+1))]])) (by rfl)),(eTq (@rfl Blk (bz (w+1) 24 3 (List.map cF ((f.kids.take k).map (fun g=>mst g a o)++[(mst (nth f.kids k) a o)])))) (by (rw [gD (by omega)]; done))),?_⟩
  · omega
  · omega
 refine aN (p315 _ _ _ (x14 _ _ (.done (W_r (aJ t11 h11 rfl rfl (bF t6 rfl rfl h6 rfl rfl rfl rfl rfl (R_e ?_)))))))
 refine aO ?_
 refine cP (bC (u:=(V.agg [(iV f.op),(iV 0),(V.ms 708 w 0 k)])) t6 (@rfl Blk (bk 1 24 3 [[(iV f.op),(iV 0),(V.ms 708 w 0 k)]])) (lB oB rfl rfl)) (bE (aE ?_) (aE ?_) (gL h708 (by simp) (l:=((f.kids.take k).map (fun g=>mst g a o))) rfl (by (simp; omega)) (fun _=>by simp) ?_))
 · rw [nT (f:=f) (by omega)]; rfl
 · rw [nT (f:=f) (by omega)]; rfl
 · rw [nT (f:=f) (by omega),show k=f.kids.length by omega,List.take_length]; rfl
theorem aDN (f:Fm) (a o:Int) (hok:okF f=true) (hn:nnf f=true) (hz:f.sz≤4096):aQ Tryz.prog 41 [(V.agg (rFq f)),(iV a),(iV o)] (V.agg (rFq (mst f a o))):=by
  have key: ∀ (mm:Nat) (f:Fm) (a o:Int),f.sz < mm→okF f=true→nnf f=true→f.sz≤4096→aQ Tryz.prog 41 [(V.agg (rFq f)),(iV a),(iV o)] (V.agg (rFq (mst f a o))):=by
    intro mm
    induction mm with
    |zero=>intro f a o hlt; exact absurd hlt (Nat.not_lt_zero _)
    | succ mm ih =>
      intro f a o hlt hok hn hz
      exact tX f a o hok hn hz fun f2 a2 o2 hlt2=>ih f2 a2 o2 (by omega)
  exact key (f.sz+1) f a o (Nat.lt_succ_self _) hok hn hz
theorem aEY (f:Fm) (a o:Int):aQ Tryz.prog 14 [(V.agg (rFq f)),(iV a),(iV o)] (V.tup [(V.agg (rFq ((stM f a o).1))),(iV ((stM f a o).2))]):=by
 refine pW Tryz.func14 aQ6 fun hB=>?_
 unfold s14
 dsimp only
 refine W_r (cE (i:=3) (n:=0) (m:=3) (cs:=(rFq f)) rfl (cVq rfl) rfl rfl rfl (aU (i:=6) (n:=0) (m:=3) rfl (cVq rfl) rfl (aA rfl (R_e (aB (W_r (aJ rfl rfl rfl rfl ?_)))))))
 refine aI (eF f) rfl (bZ rfl rfl (R_e ?_))
 refine aH rfl (fun c1=>?_) fun c1=>?_
 ·
  have d1:=aIi (a:=a) (o:=o) c1
  refine aB (W_r (aW rfl rfl (aJ rfl rfl rfl rfl (aI (eF f) rfl (bF rfl rfl rfl rfl rfl rfl rfl rfl rfl (aA rfl (R_e ?_)))))))
  refine aL ?_
  refine eM (bC (u:=(V.agg [(iV 0),(iV 0),V.nilsl])) rfl (@rfl Blk bYq) (lB oB rfl rfl)) (bV (rVq (iV (cX f)))) (bE (aE ?_) (aE ?_) (bT ?_)) (aE ?_)
  · rw [d1]; rfl
  · rw [d1]; rfl
  · rw [d1]; rfl
  · rw [d1]
 have d0:=c1
 refine aC (aB (W_r (aA rfl (bM rfl rfl (aA rfl ?_)))))
 refine aV 3 (fun T H=>T 1=(iV a)∧T 2=(iV o)∧T 3=(mPq 3)∧T 6=(mPq 6)∧T 21=(V.bool (decide ((a < (0:Int))∨((64:Int)≤a))))∧H 3=(bFq f)∧H 6=bYq∧H 8=bZq∧True) ?_ ?_
 ·
  by_cases g2:a < (0:Int)
  ·
   refine G_n (edT g2 rfl) (G_n (edT g2 rfl) (aS (edT g2 rfl) rfl ?_))
   exact ⟨rfl,rfl,rfl,rfl,(cQ g2),rfl,rfl,rfl,trivial⟩
  ·
   refine aF (edF g2 rfl) (aA rfl (aF (edF g2 rfl) (jN rfl rfl (aT (edF g2 rfl) rfl ?_))))
   exact ⟨rfl,rfl,rfl,rfl,(cR g2),rfl,rfl,rfl,trivial⟩
 intro T H ⟨t1,t2,t3,t6,t21,h3,h6,h8,_⟩
 refine aA t21 ?_
 refine aV 3 (fun T H=>T 1=(iV a)∧T 2=(iV o)∧T 3=(mPq 3)∧T 6=(mPq 6)∧T 25=(V.bool (decide (((a < (0:Int))∨((64:Int)≤a))∨(o < (0:Int)))))∧H 3=(bFq f)∧H 6=bYq∧H 8=bZq∧True) ?_ ?_
 ·
  by_cases g3:(a < (0:Int))∨((64:Int)≤a)
  ·
   refine G_n (edT g3 rfl) (G_n (edT g3 rfl) (aS (edT g3 rfl) rfl ?_))
   exact ⟨t1,t2,t3,t6,(cQ g3),h3,h6,h8,trivial⟩
  ·
   refine aF (edF g3 rfl) (aA t2 (aF (edF g3 rfl) (bM rfl rfl (aT (edF g3 rfl) rfl ?_))))
   exact ⟨t1,t2,t3,t6,(cR g3),h3,h6,h8,trivial⟩
 intro T H ⟨t1,t2,t3,t6,t25,h3,h6,h8,_⟩
 refine aA t25 ?_
 refine aV 3 (fun T H=>T 1=(iV a)∧T 2=(iV o)∧T 3=(mPq 3)∧T 6=(mPq 6)∧T 29=(V.bool (decide ((((a < (0:Int))∨((64:Int)≤a))∨(o < (0:Int)))∨((1048576:Int) < o))))∧H 3=(bFq f)∧H 6=bYq∧H 8=bZq∧True) ?_ ?_
 ·
  by_cases g4:((a < (0:Int))∨((64:Int)≤a))∨(o < (0:Int))
  ·
   refine G_n (edT g4 rfl) (G_n (edT g4 rfl) (aS (edT g4 rfl) rfl ?_))
   exact ⟨t1,t2,t3,t6,(cQ g4),h3,h6,h8,trivial⟩
  ·
   refine aF (edF g4 rfl) (aA t2 (aF (edF g4 rfl) (fJ rfl rfl (aT (edF g4 rfl) rfl ?_))))
   exact ⟨t1,t2,t3,t6,(cR g4),h3,h6,h8,trivial⟩
 intro T H ⟨t1,t2,t3,t6,t29,h3,h6,h8,_⟩
 refine R_e ?_
 refine aH t29 (fun c5=>?_) fun c5=>?_
 ·
  have d1:=aIS (a:=a) (o:=o) d0 (by omega)
  refine aB (W_r (aW rfl rfl (bF t6 rfl rfl h6 rfl rfl rfl rfl rfl (aA rfl (R_e (aL ?_))))))
  refine eM (bC (u:=(V.agg [(iV 0),(iV 0),V.nilsl])) t6 (@rfl Blk bYq) (lB oB rfl rfl)) (bV (rVq (iV 2))) (bE (aE ?_) (aE ?_) (bT ?_)) (aE ?_)
  · rw [d1]; rfl
  · rw [d1]; rfl
  · rw [d1]; rfl
  · rw [d1]
 have d2: ¬(a < 0∨64≤a∨o < 0∨1048576 < o):=by omega
 refine aC (W_r (aJ t3 h3 rfl rfl (aI (oN f) rfl (aA rfl (bH rfl rfl (bH rfl rfl (aU (i:=8) (n:=0) (m:=3) rfl (cVq h8) rfl ?_)))))))
 refine bF rfl rfl rfl rfl rfl rfl rfl rfl rfl (aA rfl (R_e (aB (W_r (aA rfl (bZ rfl rfl (R_e ?_)))))))
 refine aH rfl (fun c6=>?_) fun c6=>?_
 ·
  have d1:=aJk d0 d2 c6
  refine aB (W_r (aW rfl rfl (aA rfl (bF t6 rfl rfl h6 rfl rfl rfl rfl rfl (aA rfl (R_e (aL ?_)))))))
  refine eM (bC (u:=(V.agg [(iV 0),(iV 0),V.nilsl])) t6 (@rfl Blk bYq) (lB oB rfl rfl)) (bV (rVq (iV ((bK f).2)))) (bE (aE ?_) (aE ?_) (bT ?_)) (aE ?_)
  · rw [d1]; rfl
  · rw [d1]; rfl
  · rw [d1]; rfl
  · rw [d1]
 have d1:=aKu d0 d2 c6
 have v1:=rV c6
 have v2:=aF2 d0 c6
 refine aC (W_r (aJ rfl rfl rfl rfl (aA t1 (aA t2 (aI (aDN ((bK f).1) a o v2.1 v2.2 (gA v1)) rfl (aI (sM (mst ((bK f).1) a o) (aD7 _ a o v2.1 v2.2).1 (aGv v2.1 (gA v1))) rfl (bH rfl rfl ?_)))))))
 refine bH rfl rfl (bF t6 rfl rfl h6 rfl rfl rfl rfl rfl (aA rfl (R_e (aO ?_))))
 refine eM (bC (u:=(V.agg (rFq ((chk (mst ((bK f).1) a o)).1)))) t6 (@rfl Blk (bFq ((chk (mst ((bK f).1) a o)).1))) (lB oB rfl rfl)) (bV (rVq (iV ((chk (mst ((bK f).1) a o)).2)))) (bE (aE ?_) (aE ?_) (dB ?_ (fun _=>by simp))) (aE ?_)
 · rw [d1]
 · rw [d1]
 · rw [d1]
 · rw [d1]
def aSh:List SO:=[
 qL 9 3 1,
 sO 10 (.build [.nilsl,.nilsl] []),
 sO 11 (.call false 43 [.t 9,.t 10]),
 qE 12 11 0,
 qE 13 11 1,
 qM 2 12,
 qM 3 13]
def s16:SF:=⟨14,[.tmp 2,.tmp 3],.seq (.reg [sO 1 (.box 24 3 (.t 0)),sO 2 (.mv (.c (.bool false))),qI 3 0]) (.seq (.seq (.reg [qL 4 3 1,sO 5 (.call false 28 [.t 4]),qC 6 .neq 5 0]) (.cond (.t 6) (.seq (.reg [qL 7 3 1,sO 8 (.call false 28 [.t 7]),sO 2 (.mv (.c (.bool false))),qM 3 8]) (.ret)) (.skip))) (.seq (.reg aSh) (.ret)))⟩
theorem aQG:bJ Tryz.prog ⟨oEq,[],[],[]⟩ Tryz.f16=some s16:=by kernel_rfl
def aS0:List SO:=[
 qF 18 1 3,
 ql 19 18,
 qN 20 19,
 qF 21 0 3,
 ql 22 21,
 qN 23 22,
 qP 24 .neq 20 23,
 qM 17 24]
def aTi:List SO:=[
 qL 25 3 2,
 qL 26 2 3,
 sO 27 (.call false 70 [.t 25,.t 26]),
 sO 28 (.idx 1 (.t 27) (.c (.int .i64 0))),
 ql 29 28,
 qM 4 29,
 qI 5 0]
def s43:SF:=⟨30,[.tmp 4,.tmp 5],.seq (.reg [sO 2 (.box 24 3 (.t 0)),sO 3 (.box 54 2 (.t 1)),sO 4 (.mv (.c (.bool false))),qI 5 0]) (.seq (.block 0 (.seq (.reg [qL 7 3 2,sO 8 (.call false 28 [.t 7]),qC 9 .neq 8 0,qM 6 9]) (.cond (.t 6) (.seq (.reg [qL 10 3 2,sO 11 (.call false 28 [.t 10]),sO 4 (.mv (.c (.bool false))),qM 5 11]) (.ret)) (.seq (.reg [qF 13 0 3,ql 14 13,qN 15 14,qC 16 .gtr 15 1024,qM 12 16]) (.cond (.t 12) (.seq (.reg [sO 4 (.mv (.c (.bool false))),qI 5 3]) (.ret)) (.seq (.reg aS0) (.cond (.t 17) (.seq (.reg [sO 4 (.mv (.c (.bool false))),qI 5 1]) (.ret)) (.skip)))))))) (.seq (.reg aTi) (.ret)))⟩
theorem aRr:bJ Tryz.prog ⟨oEq,[],[],[]⟩ Tryz.f43=some s43:=by kernel_rfl
def aS2:List SO:=[
 qM 29 7,
 qF 30 2 2,
 ql 31 30,
 qM 32 8,
 qA 33 3 31 32,
 qL 34 3 33,
 qL 35 2 3,
 sO 36 (.call false 70 [.t 34,.t 35]),
 sO 37 (.bslice 41 1 false [.nilsl] 1 [(0,.t 36)]),
 sO 38 (.append 41 1 24 (.t 29) (.t 37)),
 qM 7 38]
def aNK:SC:=.seq (.seq (.reg [qM 22 8,qF 23 2 2,ql 24 23,qN 25 24,qP 26 .lss 22 25]) (.cond (.t 26) (.skip) (.exit 0))) (.seq (.block 1 (.reg aS2)) (.reg [qM 27 8,qC 28 .add 27 1,qM 8 28]))
def aQ4:List SO:=[
 qM 103 6,
 qM 104 9,
 qM 105 10,
 qM 106 105,
 ⟨some (106,true),some 107,.fld 0 (.t 3)⟩,
 ⟨some (106,true),some 108,.load false 1 (.t 107)⟩,
 ⟨some (106,true),some 109,.mv (.t 9)⟩,
 ⟨some (106,true),some 110,.idx 1 (.t 108) (.t 109)⟩,
 ⟨some (106,true),some 111,.load false 1 (.t 110)⟩,
 ⟨some (106,true),some 112,.fld 1 (.t 2)⟩,
 ⟨some (106,true),some 113,.load false 1 (.t 112)⟩,
 ⟨some (106,true),some 114,.bin .eql (.t 111) (.t 113)⟩,
 sO 115 (.pick (.t 106) (.t 114) (.c (.bool false))),
 qA 116 1 103 104,
 sN (.store 1 (.t 116) (.t 115))]
def aRR:List SO:=[
 qM 119 6,
 qM 120 9,
 qM 121 10,
 qM 122 121,
 ⟨some (122,true),some 123,.fld 1 (.t 3)⟩,
 ⟨some (122,true),some 124,.load false 1 (.t 123)⟩,
 ⟨some (122,true),some 125,.mv (.t 9)⟩,
 ⟨some (122,true),some 126,.idx 1 (.t 124) (.t 125)⟩,
 ⟨some (122,true),some 127,.load false 1 (.t 126)⟩,
 ⟨some (122,true),some 128,.fld 1 (.t 2)⟩,
 ⟨some (122,true),some 129,.load false 1 (.t 128)⟩,
 ⟨some (122,true),some 130,.bin .eql (.t 127) (.t 129)⟩,
 sO 131 (.pick (.t 122) (.t 130) (.c (.bool false))),
 qA 132 1 119 120,
 sN (.store 1 (.t 132) (.t 131))]
def aQI:List SO:=[
 qM 135 6,
 qM 136 9,
 qM 137 7,
 sO 138 (.idx 1 (.t 137) (.c (.int .i64 0))),
 ql 139 138,
 qM 140 9,
 qA 141 1 139 140,
 ql 142 141,
 sO 143 (.un .not (.t 142)),
 qA 144 1 135 136,
 sN (.store 1 (.t 144) (.t 143))]
def aPU:List SO:=[
 qM 147 6,
 qM 148 9,
 qM 149 10,
 qM 150 149,
 ⟨some (150,true),some 151,.mv (.t 7)⟩,
 ⟨some (150,true),some 152,.idx 1 (.t 151) (.c (.int .i64 0))⟩,
 ⟨some (150,true),some 153,.load false 1 (.t 152)⟩,
 ⟨some (150,true),some 154,.mv (.t 9)⟩,
 ⟨some (150,true),some 155,.bin .add (.t 154) (.c (.int .i64 1))⟩,
 ⟨some (150,true),some 156,.idx 1 (.t 153) (.t 155)⟩,
 ⟨some (150,true),some 157,.load false 1 (.t 156)⟩,
 sO 158 (.pick (.t 150) (.t 157) (.c (.bool false))),
 qA 159 1 147 148,
 sN (.store 1 (.t 159) (.t 158))]
def aRQ:List SO:=[
 qM 162 6,
 qM 163 9,
 qM 164 10,
 sO 165 (.un .not (.t 164)),
 qM 166 165,
 ⟨some (166,false),some 167,.mv (.t 7)⟩,
 ⟨some (166,false),some 168,.idx 1 (.t 167) (.c (.int .i64 0))⟩,
 ⟨some (166,false),some 169,.load false 1 (.t 168)⟩,
 ⟨some (166,false),some 170,.mv (.t 9)⟩,
 ⟨some (166,false),some 171,.bin .add (.t 170) (.c (.int .i64 1))⟩,
 ⟨some (166,false),some 172,.idx 1 (.t 169) (.t 171)⟩,
 ⟨some (166,false),some 173,.load false 1 (.t 172)⟩,
 sO 174 (.pick (.t 166) (.c (.bool true)) (.t 173)),
 qA 175 1 162 163,
 sN (.store 1 (.t 175) (.t 174))]
def aPE:List SO:=[
 qM 187 6,
 qM 188 9,
 qM 189 6,
 qM 190 9,
 qA 191 1 189 190,
 ql 192 191,
 qM 193 192,
 ⟨some (193,false),some 194,.mv (.t 7)⟩,
 ⟨some (193,false),some 195,.idx 1 (.t 194) (.c (.int .i64 1))⟩,
 ⟨some (193,false),some 196,.load false 1 (.t 195)⟩,
 ⟨some (193,false),some 197,.mv (.t 11)⟩,
 ⟨some (193,false),some 198,.idx 1 (.t 196) (.t 197)⟩,
 ⟨some (193,false),some 199,.load false 1 (.t 198)⟩,
 sO 200 (.pick (.t 193) (.c (.bool true)) (.t 199)),
 qA 201 1 187 188,
 sN (.store 1 (.t 201) (.t 200))]
def aPO:List SO:=[
 qM 202 7,
 sO 203 (.idx 1 (.t 202) (.c (.int .i64 0))),
 ql 204 203,
 qM 205 11,
 qA 206 1 204 205,
 ql 207 206,
 qM 12 207]
def aNT:SC:=.seq (.seq (.reg [qM 179 11,qM 180 5,qP 181 .leq 179 180,qM 182 181,⟨some (182,true),some 183,.mv (.t 12)⟩,sO 184 (.pick (.t 182) (.t 183) (.c (.bool false)))]) (.cond (.t 184) (.skip) (.exit 7))) (.seq (.block 8 (.seq (.reg aPE) (.reg aPO))) (.reg [qM 185 11,qC 186 .add 185 1,qM 11 186]))
def aRL:List SO:=[
 qM 222 6,
 qM 223 9,
 qM 224 6,
 qM 225 9,
 qA 226 1 224 225,
 ql 227 226,
 qM 228 227,
 ⟨some (228,true),some 229,.mv (.t 7)⟩,
 ⟨some (228,true),some 230,.idx 1 (.t 229) (.c (.int .i64 1))⟩,
 ⟨some (228,true),some 231,.load false 1 (.t 230)⟩,
 ⟨some (228,true),some 232,.mv (.t 13)⟩,
 ⟨some (228,true),some 233,.idx 1 (.t 231) (.t 232)⟩,
 ⟨some (228,true),some 234,.load false 1 (.t 233)⟩,
 sO 235 (.pick (.t 228) (.t 234) (.c (.bool false))),
 qA 236 1 222 223,
 sN (.store 1 (.t 236) (.t 235))]
def aQb:List SO:=[
 qM 237 7,
 sO 238 (.idx 1 (.t 237) (.c (.int .i64 0))),
 ql 239 238,
 qM 240 13,
 qA 241 1 239 240,
 ql 242 241,
 sO 243 (.un .not (.t 242)),
 qM 14 243]
def aOf:SC:=.seq (.seq (.reg [qM 214 13,qM 215 5,qP 216 .leq 214 215,qM 217 216,⟨some (217,true),some 218,.mv (.t 14)⟩,sO 219 (.pick (.t 217) (.t 218) (.c (.bool false)))]) (.cond (.t 219) (.skip) (.exit 9))) (.seq (.block 10 (.seq (.reg aRL) (.reg aQb))) (.reg [qM 220 13,qC 221 .add 220 1,qM 13 221]))
def aPs:List SO:=[
 qM 49 6,
 qM 50 9,
 qF 51 0 2,
 ql 52 51,
 qC 53 .eql 52 5,
 qA 54 1 49 50,
 sN (.store 1 (.t 54) (.t 53))]
def aPX:List SO:=[
 qM 64 6,
 qM 65 9,
 qM 66 6,
 qM 67 9,
 qA 68 1 66 67,
 ql 69 68,
 qM 70 69,
 ⟨some (70,true),some 71,.mv (.t 7)⟩,
 ⟨some (70,true),some 72,.mv (.t 15)⟩,
 ⟨some (70,true),some 73,.idx 1 (.t 71) (.t 72)⟩,
 ⟨some (70,true),some 74,.load false 1 (.t 73)⟩,
 ⟨some (70,true),some 75,.mv (.t 9)⟩,
 ⟨some (70,true),some 76,.idx 1 (.t 74) (.t 75)⟩,
 ⟨some (70,true),some 77,.load false 1 (.t 76)⟩,
 sO 78 (.pick (.t 70) (.t 77) (.c (.bool false))),
 qA 79 1 64 65,
 sN (.store 1 (.t 79) (.t 78))]
def aQg:List SO:=[
 qM 80 6,
 qM 81 9,
 qM 82 6,
 qM 83 9,
 qA 84 1 82 83,
 ql 85 84,
 qM 86 85,
 ⟨some (86,false),some 87,.mv (.t 7)⟩,
 ⟨some (86,false),some 88,.mv (.t 15)⟩,
 ⟨some (86,false),some 89,.idx 1 (.t 87) (.t 88)⟩,
 ⟨some (86,false),some 90,.load false 1 (.t 89)⟩,
 ⟨some (86,false),some 91,.mv (.t 9)⟩,
 ⟨some (86,false),some 92,.idx 1 (.t 90) (.t 91)⟩,
 ⟨some (86,false),some 93,.load false 1 (.t 92)⟩,
 sO 94 (.pick (.t 86) (.c (.bool true)) (.t 93)),
 qA 95 1 80 81,
 sN (.store 1 (.t 95) (.t 94))]
def aNx:SC:=.seq (.seq (.reg [qM 55 15,qM 56 7,qN 57 56,qP 58 .lss 55 57]) (.cond (.t 58) (.skip) (.exit 5))) (.seq (.block 6 (.seq (.reg [qF 61 0 2,ql 62 61,qC 63 .eql 62 5]) (.cond (.t 63) (.reg aPX) (.reg aQg)))) (.reg [qM 59 15,qC 60 .add 59 1,qM 15 60]))
def aNi:SC:=.seq (.seq (.reg [qM 40 9,qC 41 .geq 40 0]) (.cond (.t 41) (.skip) (.exit 2))) (.seq (.block 3 (.seq (.reg [qM 44 9,qM 45 5,qP 46 .lss 44 45,qM 10 46]) (.seq (.reg [qF 47 0 2,ql 48 47]) (.block 4 (.seq (.reg [qC 97 .eql 48 1,qM 96 97]) (.cond (.t 96) (.reg [qM 98 6,qM 99 9,qA 100 1 98 99,sN (.store 1 (.t 100) (.c (.bool true)))]) (.seq (.reg [qC 102 .eql 48 2,qM 101 102]) (.cond (.t 101) (.reg aQ4) (.seq (.reg [qC 118 .eql 48 3,qM 117 118]) (.cond (.t 117) (.reg aRR) (.seq (.reg [qC 134 .eql 48 4,qM 133 134]) (.cond (.t 133) (.reg aQI) (.seq (.reg [qC 146 .eql 48 7,qM 145 146]) (.cond (.t 145) (.reg aPU) (.seq (.reg [qC 161 .eql 48 9,qM 160 161]) (.cond (.t 160) (.reg aRQ) (.seq (.reg [qC 177 .eql 48 8,qM 176 177]) (.cond (.t 176) (.seq (.reg [qM 178 9,qM 11 178,sO 12 (.mv (.c (.bool true)))]) (.block 7 (.loop aNT))) (.seq (.reg [qC 209 .eql 48 10,qM 208 209]) (.cond (.t 208) (.seq (.reg [qM 210 6,qM 211 9,qA 212 1 210 211,sN (.store 1 (.t 212) (.c (.bool true)))]) (.seq (.reg [qM 213 9,qM 13 213,sO 14 (.mv (.c (.bool true)))]) (.block 9 (.loop aOf)))) (.seq (.reg aPs) (.seq (.reg [qI 15 0]) (.block 5 (.loop aNx)))))))))))))))))))))))) (.reg [qM 42 9,qC 43 .sub 42 1,qM 9 43]))
def s70:SF:=⟨245,[.tmp 4],.seq (.reg [sO 2 (.box 24 3 (.t 0)),sO 3 (.box 54 2 (.t 1)),sO 4 (.mv (.c (.nilsl)))]) (.seq (.reg [qF 16 0 3,ql 17 16,qN 18 17,qM 5 18]) (.seq (.reg [qM 19 5,qC 20 .add 19 1,sO 21 (.mks 4 1 1 [.bool false] (.t 20) (.t 20)),qM 6 21]) (.seq (.reg [sO 7 (.lazy 41 1)]) (.seq (.seq (.reg [qI 8 0]) (.block 0 (.loop aNK))) (.seq (.seq (.reg [qM 39 5,qM 9 39]) (.block 2 (.loop aNi))) (.seq (.reg [qM 244 6,qM 4 244]) (.ret)))))))⟩
theorem aOT:bJ Tryz.prog ⟨oEq,[7],[],[]⟩ Tryz.f70=some s70:=by kernel_rfl
end Go.Proofs.YteehaobohaecmaaGreatDoor
namespace Go.Proofs.YteehaobohaecmaaGreatDoor
open Go
def kR (t:Tr) (f:Fm) (q:Nat):Nat→Bool:=fun j=>nth (nth (f.kids.map (rst t)) q) j
theorem rC {t:Tr} {f:Fm} {q j:Nat} (hq:q < f.kids.length) (hj:j≤t.ni.length):kR t f q j=nth (f.kids.map (sat t)) q j:=by
  unfold kR; rw [fT hq,fT hq,wX hj]
theorem xX {g h g' h':Nat→Bool} {n:Nat}: ∀ {m i:Nat},i+m≤n→(∀ j,j≤n→g j=g' j)→(∀ j,j≤n→h j=h' j)→iB g h m i=iB g' h' m i
  |0,i,hi,_,h2=>h2 i (by omega)
  |m+1,i,hi,h1,h2=>by rw [iB,iB,h2 i (by omega),h1 i (by omega),xX (m:=m) (by omega) h1 h2]
theorem xT {g h g' h':Nat→Bool} {n:Nat}: ∀ {m i:Nat},i+m≤n→(∀ j,j≤n→g j=g' j)→(∀ j,j≤n→h j=h' j)→iD g h m i=iD g' h' m i
  |0,i,hi,_,h2=>h2 i (by omega)
  |m+1,i,hi,h1,h2=>by rw [iD,iD,h2 i (by omega),h1 i (by omega),xT (m:=m) (by omega) h1 h2]
section
variable {t:Tr} {f:Fm} {j:Nat}
theorem sv1 (h:f.op=1):sat t f j=true:=by rw [cH,mQ,if_pos h]
theorem sv2 (h:f.op=2):sat t f j=(decide (j < t.ni.length)&&decide (nth t.ni j=f.arg)):=by rw [cH,mQ,if_neg (by omega),if_pos h]
theorem sv3 (h:f.op=3):sat t f j=(decide (j < t.ni.length)&&decide (nth t.no j=f.arg)):=by rw [cH,mQ,if_neg (by omega),if_neg (by omega),if_pos h]
theorem sv4 (hj:j≤t.ni.length) (hk:0 < f.kids.length) (h:f.op=4):sat t f j= !(kR t f 0 j):=by rw [cH,mQ,if_neg (by omega),if_neg (by omega),if_neg (by omega),if_pos h,rC hk hj]
theorem sv7 (hk:0 < f.kids.length) (h:f.op=7):sat t f j=(decide (j < t.ni.length)&&kR t f 0 (j+1)):=by
  rw [cH,mQ,if_neg (by omega),if_neg (by omega),if_neg (by omega),if_neg (by omega),if_pos h]
  by_cases q:j < t.ni.length
  · rw [rC hk q]
  · rw [decide_eq_false q,Bool.false_and,Bool.false_and]
theorem sv9 (hk:0 < f.kids.length) (h:f.op=9):sat t f j=(decide (¬j < t.ni.length)||kR t f 0 (j+1)):=by
  rw [cH,mQ,if_neg (by omega),if_neg (by omega),if_neg (by omega),if_neg (by omega),if_neg (by omega),if_pos h]
  by_cases q:j < t.ni.length
  · rw [rC hk q]
  · rw [decide_eq_true q,Bool.true_or,Bool.true_or]
theorem sv8 (hj:j≤t.ni.length) (hk:1 < f.kids.length) (h:f.op=8):sat t f j=iB (kR t f 0) (kR t f 1) (t.ni.length - j) j:=by
  rw [cH,mQ,if_neg (by omega),if_neg (by omega),if_neg (by omega),if_neg (by omega),if_neg (by omega),if_neg (by omega),if_pos h]
  exact xX (n:=t.ni.length) (by omega) (fun q hq=>(rC (by omega) hq).symm) fun q hq=>(rC hk hq).symm
theorem aUX (hj:j≤t.ni.length) (hk:1 < f.kids.length) (h:f.op=10):sat t f j=iD (kR t f 0) (kR t f 1) (t.ni.length - j) j:=by
  rw [cH,mQ,if_neg (by omega),if_neg (by omega),if_neg (by omega),if_neg (by omega),if_neg (by omega),if_neg (by omega),if_neg (by omega),if_pos h]
  exact xT (n:=t.ni.length) (by omega) (fun q hq=>(rC (by omega) hq).symm) fun q hq=>(rC hk hq).symm
theorem sv5 (hj:j≤t.ni.length) (h:f.op=5):sat t f j=(f.kids.map (rst t)).all fun r=>nth r j:=by
  rw [cH,mQ,if_neg (by omega),if_neg (by omega),if_neg (by omega),if_neg (by omega),if_neg (by omega),if_neg (by omega),if_neg (by omega),if_neg (by omega),if_pos h,List.all_map,List.all_map]
  congr 1; funext g; exact (wX hj).symm
theorem sv6 (hj:j≤t.ni.length) (h:f.op=6):sat t f j=(f.kids.map (rst t)).any fun r=>nth r j:=by
  rw [cH,mQ,if_neg (by omega),if_neg (by omega),if_neg (by omega),if_neg (by omega),if_neg (by omega),if_neg (by omega),if_neg (by omega),if_neg (by omega),if_neg (by omega),List.any_map,List.any_map]
  congr 1; funext g; exact (wX hj).symm
end
theorem gY {t:Tr} {f:Fm} {i:Int} {b:Bool} (h0:0≤i) (hi:i≤t.ni.length) (hb:b=sat t f i.toNat):(dA t f i).set i.toNat b=dA t f (i - 1):=by
  obtain ⟨j,rfl⟩: ∃ j:Nat,i=j:=⟨i.toNat,by omega⟩
  exact aJR (by omega) hb
theorem aRA {t:Tr} {f:Fm} {i:Int} (h0:0≤i) (hi:i≤t.ni.length):(dA t f i).set i.toNat false=dA t f i:=by
  apply List.ext_getElem
  · simp
  · intro q h1 h2
    rw [List.getElem_set]
    split
    · rename_i e
      subst e
      simp only [dA,List.getElem_map,List.getElem_range]
      rw [decide_eq_false (by omega),Bool.false_and]
    · rfl
theorem nB {α:Type} [Inhabited α] {l:List α} {i:Nat} {x:α} (h:i < l.length):nth (l.set i x) i=x:=by
  rw [← bR (by simpa using h),List.getElem_set_self]
def unI (t:Tr) (f:Fm) (i k:Int) (al x:Bool):Prop:=(x||(al&&decide (k≤t.ni.length)&&iB (kR t f 0) (kR t f 1) (t.ni.length - k.toNat) k.toNat))=sat t f i.toNat
theorem aHn {t:Tr} {f:Fm} {i:Int} (h0:0≤i) (hi:i≤t.ni.length) (hk:1 < f.kids.length) (h:f.op=8):unI t f i i true false:=by
  unfold unI; rw [sv8 (by omega) hk h,decide_eq_true hi]; rfl
theorem aJy {t:Tr} {f:Fm} {i k:Int} {al x:Bool} (h:unI t f i k al x) (h0:0≤k) (hk:k≤t.ni.length) (ha:al=true):unI t f i (k+1) (kR t f 0 k.toNat) (x||kR t f 1 k.toNat):=by
  unfold unI at h ⊢
  rw [← h,ha,decide_eq_true hk,aFH (show k.toNat≤t.ni.length by omega),show (k+1).toNat=k.toNat+1 by omega]
  have e:decide (k+1≤(t.ni.length:Int))=decide (k.toNat < t.ni.length):=decide_eq_decide.2 (by omega)
  rw [e]
  cases x <;> cases kR t f 1 k.toNat <;> cases kR t f 0 k.toNat <;> cases decide (k.toNat < t.ni.length) <;> rfl
theorem aK0 {t:Tr} {f:Fm} {i k:Int} {al x:Bool} (h:unI t f i k al x) (he:(decide (k≤(t.ni.length:Int))&&al)=false):x=sat t f i.toNat:=by
  unfold unI at h
  rw [← h,Bool.and_comm al,he,Bool.false_and,Bool.or_false]
def reI (t:Tr) (f:Fm) (i k:Int) (al x:Bool):Prop:=(x&&(!(al&&decide (k≤t.ni.length))||iD (kR t f 0) (kR t f 1) (t.ni.length - k.toNat) k.toNat))=sat t f i.toNat
theorem aHe {t:Tr} {f:Fm} {i:Int} (h0:0≤i) (hi:i≤t.ni.length) (hk:1 < f.kids.length) (h:f.op=10):reI t f i i true true:=by
  unfold reI; rw [aUX (by omega) hk h,decide_eq_true hi]; simp
theorem aKk {t:Tr} {f:Fm} {i k:Int} {al x:Bool} (h:reI t f i k al x) (h0:0≤k) (hk:k≤t.ni.length) (ha:al=true):reI t f i (k+1) (!(kR t f 0 k.toNat)) (x&&kR t f 1 k.toNat):=by
  unfold reI at h ⊢
  rw [← h,ha,decide_eq_true hk,aFk (show k.toNat≤t.ni.length by omega),show (k+1).toNat=k.toNat+1 by omega]
  have e:decide (k+1≤(t.ni.length:Int))= !decide (¬k.toNat < t.ni.length):=by rw [decide_not,Bool.not_not]; exact decide_eq_decide.2 (by omega)
  rw [e]
  cases x <;> cases kR t f 1 k.toNat <;> cases kR t f 0 k.toNat <;> cases decide (¬k.toNat < t.ni.length) <;> rfl
theorem aL0 {t:Tr} {f:Fm} {i k:Int} {al x:Bool} (h:reI t f i k al x) (he:(decide (k≤(t.ni.length:Int))&&al)=false):x=sat t f i.toNat:=by
  unfold reI at h
  rw [← h,Bool.and_comm al,he]; simp
def aoI (t:Tr) (f:Fm) (i:Int) (q:Nat) (x:Bool):Prop:=
  (if f.op=5 then x&&((f.kids.map (rst t)).drop q).all fun r=>nth r i.toNat else x||((f.kids.map (rst t)).drop q).any fun r=>nth r i.toNat)=sat t f i.toNat
theorem aHM {t:Tr} {f:Fm} {i:Int} (h0:0≤i) (hi:i≤t.ni.length) (h:f.op=5∨f.op=6):aoI t f i 0 (decide (f.op=5)):=by
  unfold aoI
  by_cases e:f.op=5
  · rw [if_pos e,sv5 (by omega) e,decide_eq_true e]; rfl
  · rw [if_neg e,sv6 (by omega) (by omega),decide_eq_false e]; rfl
theorem aGh {t:Tr} {f:Fm} {i:Int} {q:Nat} {x:Bool} (h:aoI t f i q x) (hq:q < f.kids.length) (e:f.op=5):aoI t f i (q+1) (x&&nth (nth (f.kids.map (rst t)) q) i.toNat):=by
  unfold aoI at h ⊢
  rw [if_pos e] at h ⊢
  rw [← h,cW (l:=f.kids.map (rst t)) (k:=q) (by simpa using hq),List.all_cons,Bool.and_assoc]
theorem aJ7 {t:Tr} {f:Fm} {i:Int} {q:Nat} {x:Bool} (h:aoI t f i q x) (hq:q < f.kids.length) (e: ¬f.op=5):aoI t f i (q+1) (x||nth (nth (f.kids.map (rst t)) q) i.toNat):=by
  unfold aoI at h ⊢
  rw [if_neg e] at h ⊢
  rw [← h,cW (l:=f.kids.map (rst t)) (k:=q) (by simpa using hq),List.any_cons,Bool.or_assoc]
theorem aK7 {t:Tr} {f:Fm} {i:Int} {q:Nat} {x:Bool} (h:aoI t f i q x) (hq:f.kids.length≤q):x=sat t f i.toNat:=by
  unfold aoI at h
  rw [List.drop_eq_nil_of_le (by simpa using hq)] at h
  split at h
  · rw [← h]; simp
  · rw [← h]; simp
end Go.Proofs.YteehaobohaecmaaGreatDoor
namespace Go.Proofs.YteehaobohaecmaaGreatDoor
open Go Go.Proofs
attribute [local irreducible] aE1
set_option maxHeartbeats 4000000 in
theorem uX (f:Fm) (t:Tr) (hf:okF f=true) (hz:f.sz≤4096) (ht:t.no.length=t.ni.length) (hn:t.ni.length≤1024) (ih: ∀ (g:Fm) (t:Tr),g.sz < f.sz→okF g=true→g.sz≤4096→t.no.length=t.ni.length→t.ni.length≤1024→aQ Tryz.prog 70 [(V.agg (rFq g)),(V.agg [(aZ t.ni),(aZ t.no)])] (V.sl (List.map cB (rst t g)))):aQ Tryz.prog 70 [(V.agg (rFq f)),(V.agg [(aZ t.ni),(aZ t.no)])] (V.sl (List.map cB (rst t f))):=by
 refine pW Tryz.func70 aOT fun hB=>?_
 unfold s70
 dsimp only
 have hp:=bP hf
 have hr:=dE hp.1
 have hln:=f.sz_len
 have hr0:0 < f.kids.length→(nth (f.kids.map (rst t)) 0).length=t.ni.length+1:=fun h=>by rw [fT h,sQ]
 have hr1:1 < f.kids.length→(nth (f.kids.map (rst t)) 1).length=t.ni.length+1:=fun h=>by rw [fT h,sQ]
 refine W_r (cE (i:=2) (n:=0) (m:=3) (cs:=(rFq f)) rfl (cVq rfl) rfl rfl rfl (cE (i:=3) (n:=0) (m:=2) (cs:=[(aZ t.ni),(aZ t.no)]) rfl (cVq rfl) rfl rfl rfl (aA rfl (R_e (W_r (aM rfl rfl (aJ rfl rfl rfl rfl ?_)))))))
 refine bG rfl (aA rfl (R_e (W_r (aA rfl (bB rfl (rNq 1) (by omega) (aP5 (i:=21) (n:=0) (m:=(t.ni.length+1)) (q:=(t.ni.length+1)) (f:=cB) (x:=false) rfl (cVq rfl) (rNq (t.ni.length+1)) (rNq (t.ni.length+1)) rfl (by omega) (by omega) (by omega) (aA rfl ?_)))))))
 refine R_e (W_r (jV (i:=7) (n:=0) rfl (cVq rfl) (R_e (aB (W_r (aA rfl (R_e ?_)))))))
 refine aD fun Q1 n1 x1 y1 z1=>?_
 refine bS (fun mm T H=> ∃ (k:Nat) (v:Nat),mm=f.kids.length - k∧T 2=(mPq 2)∧T 3=(mPq 3)∧T 5=(iV ((t.ni.length:Nat):Int))∧T 6=(V.ms 21 1 0 (t.ni.length+1))∧T 7=(V.ms 7 v 0 k)∧T 8=(iV ((k:Nat):Int))∧H 2=(bFq f)∧H 3=(bk 1 54 2 [[(aZ t.ni),(aZ t.no)]])∧H 7=(bz v 41 1 (List.map cBL ((f.kids.take k).map (rst t))))∧H 21=(bk 1 4 1 (List.map cB (List.replicate (t.ni.length+1) false)))∧(k≤f.kids.length)) ?_ ?_
 ·
  refine ⟨_,0,1,rfl,rfl,rfl,rfl,rfl,rfl,(eTq (rVq (iV 0)) rfl),rfl,rfl,(eTq (@rfl Blk (bz 1 41 1 [])) (by rfl)),rfl,?_⟩
  · omega
 intro mm T H ⟨k,v,hmm,t2,t3,t5,t6,t7,t8,h2,h3,h7,h21,hk⟩ Q2 p12 p22 p32
 unfold aNK
 refine aB (W_r (aA t8 (aM t2 h2 (aJ rfl h2 rfl rfl (bG rfl (bM rfl rfl (R_e ?_)))))))
 refine aH rfl (fun c3=>?_) fun c3=>?_
 ·
  refine aC (aD fun Q4 n4 x4 y4 z4=>(W_t (aA t7 (aM t2 h2 (aJ rfl h2 rfl rfl (aA t8 (bU (i:=k) (rVq (V.sl (List.map cF f.kids))) (rNq k) (by omega) (bN _) rfl ?_)))))))
  refine aG rfl rfl (aJ t3 h3 rfl rfl (aI (ih (nth f.kids k) t skq (hp.2 _ (by omega)) (szq hz) (by omega) (by omega)) rfl (aR rfl rfl (bX (l:=((f.kids.take k).map (rst t))) (f:=cBL) (x:=(rst t (nth f.kids k))) (rVq (V.ms 7 v 0 k)) h7 (by (simp; omega)) (rVq (V.sl [[(V.sl (List.map cB (rst t (nth f.kids k))))]])) rfl rfl (by omega) (by omega) (aA rfl (R_e (n4 _ _ ?_)))))))
  refine .done (W_t (aA t8 (bB rfl (rNq 1) (by omega) (aA rfl (R_e ?_)))))
  refine p12 _ _ _ ?_ ⟨(k+1),(v+1),rfl,t2,t3,t5,t6,(eTq (rVq (V.ms 7 (v+1) 0 (k+1))) (by rfl)),(eTq (rNq (k+1)) (by rfl)),h2,h3,(eTq (@rfl Blk (bz (v+1) 41 1 (List.map cBL ((f.kids.take k).map (rst t)++[(rst t (nth f.kids k))])))) (by (rw [gD (by omega)]; done))),h21,?_⟩
  · omega
  · omega
 refine aN (p32 _ _ _ (x1 _ _ (.done (aB (W_r (aA t5 (aA rfl ?_)))))))
 refine R_e (aD fun Q5 n5 x5 y5 z5=>?_)
 refine bS (fun mm T H=> ∃ (i:Int) (v:Nat),mm=(i+1).toNat∧T 2=(mPq 2)∧T 3=(mPq 3)∧T 5=(iV ((t.ni.length:Nat):Int))∧T 6=(V.ms 21 1 0 (t.ni.length+1))∧T 7=(V.ms 7 v 0 f.kids.length)∧T 9=(iV i)∧H 2=(bFq f)∧H 3=(bk 1 54 2 [[(aZ t.ni),(aZ t.no)]])∧H 7=(bz v 41 1 (List.map cBL (f.kids.map (rst t))))∧H 21=(bk 1 4 1 (List.map cB (dA t f i)))∧(-1≤i∧i≤t.ni.length)) ?_ ?_
 ·
  refine ⟨_,((t.ni.length:Nat):Int),v,rfl,t2,t3,t5,t6,(eTq t7 (by (rw [show k=f.kids.length by omega]; done))),(eTq (rNq t.ni.length) (by rfl)),h2,h3,(eTq h7 (by (rw [show k=f.kids.length by omega,List.take_length]; done))),(eTq h21 (by (rw [aEU]; done))),?_⟩
  · omega
 intro mm T H ⟨i,v,hmm,t2,t3,t5,t6,t7,t9,h2,h3,h7,h21,hi⟩ Q6 p16 p26 p36
 unfold aNi
 have hol:=cO t f i
 refine aB (W_r (aA t9 (jN rfl rfl (R_e ?_))))
 refine aH rfl (fun c7=>?_) fun c7=>?_
 ·
  refine aC (aD fun Q8 n8 x8 y8 z8=>(W_r (aA t9 (aA t5 (bM rfl rfl (aA rfl (R_e ?_)))))))
  refine W_r (aM t2 h2 (aJ rfl h2 rfl rfl (R_e (iH fun Q9 n9 x9 y9 z9=>(W_r (aY rfl rfl (aA rfl ?_)))))))
  refine R_e ?_
  refine cD rfl (fun c10=>?_) fun c10=>?_
  ·
   refine W_t (aA t6 (aA t9 (dP (i:=i) (rVq (V.ms 21 1 0 (t.ni.length+1))) (rVq (iV i)) h21 oB rfl (by omega) (by omega) (gJ (vs:=[(V.bool true)]) (B':=(bk 1 4 1 (List.map cB ((dA t f i).set i.toNat true)))) rfl rfl rfl h21 (gT (x:=true) (i:=i.toNat) (by omega) rfl rfl rfl rfl) (R_e (n9 _ _ (n8 _ _ ?_)))))))
   refine .done (W_t (aA t9 (nQ rfl rfl (by omega) (by omega) (aA rfl (R_e ?_)))))
   refine p16 _ _ _ ?_ ⟨(i - 1),v,rfl,t2,t3,t5,t6,t7,(eTq (rVq (iV (i - (1:Int)))) (by rfl)),h2,h3,h7,(eTq (@rfl Blk (bk 1 4 1 (List.map cB ((dA t f i).set i.toNat true)))) (by (rw [gY (by omega) (by omega) (by rw [sv1 (by omega)])]; done))),?_⟩
   · omega
   · omega
  refine W_r (aY rfl rfl (aA rfl (R_e ?_)))
  refine cD rfl (fun c11=>?_) fun c11=>?_
  ·
   refine W_t (aA t6 (aA t9 (aA rfl (aA rfl ?_))))
   refine aV 9 (fun T H=>T 2=(mPq 2)∧T 3=(mPq 3)∧T 5=(iV ((t.ni.length:Nat):Int))∧T 6=(V.ms 21 1 0 (t.ni.length+1))∧T 7=(V.ms 7 v 0 f.kids.length)∧T 9=(iV i)∧T 103=(V.ms 21 1 0 (t.ni.length+1))∧T 104=(iV i)∧T 115=(V.bool (decide ((i < ((t.ni.length:Nat):Int))∧((nth t.ni i.toNat)=f.arg))))∧H 2=(bFq f)∧H 3=(bk 1 54 2 [[(aZ t.ni),(aZ t.no)]])∧H 7=(bz v 41 1 (List.map cBL (f.kids.map (rst t))))∧H 21=(bk 1 4 1 (List.map cB (dA t f i)))∧True) ?_ ?_
   ·
    by_cases g12:i < ((t.ni.length:Nat):Int)
    ·
     refine aF (edT g12 rfl) (aM t3 h3 (aF (edT g12 rfl) (aJ rfl h3 rfl rfl (aF (edT g12 rfl) (aA t9 (aF (edT g12 rfl) (fE (i:=i) (rVq (aZ t.ni)) (rVq (iV i)) (by omega) (by omega) rfl ?_)))))))
     refine aF (edT g12 rfl) (aG rfl rfl (aF (edT g12 rfl) (aM t2 h2 (aF (edT g12 rfl) (aJ rfl h2 rfl rfl (aF (edT g12 rfl) (aY rfl rfl ?_)))))))
     refine aS (edT g12 rfl) rfl ?_
     exact ⟨t2,t3,t5,t6,t7,t9,rfl,rfl,(dH g12),h2,h3,h7,h21,trivial⟩
    ·
     refine G_n (edF g12 rfl) (G_n (edF g12 rfl) (G_n (edF g12 rfl) (G_n (edF g12 rfl) (G_n (edF g12 rfl) (G_n (edF g12 rfl) (G_n (edF g12 rfl) (G_n (edF g12 rfl) ?_)))))))
     refine aT (edF g12 rfl) rfl ?_
     exact ⟨t2,t3,t5,t6,t7,t9,rfl,rfl,(dG g12),h2,h3,h7,h21,trivial⟩
   intro T H ⟨t2,t3,t5,t6,t7,t9,t103,t104,t115,h2,h3,h7,h21,_⟩
   refine dP (i:=i) t103 t104 h21 oB rfl (by omega) (by omega) (gJ (vs:=[(V.bool (decide ((i < ((t.ni.length:Nat):Int))∧((nth t.ni i.toNat)=f.arg))))]) (B':=(bk 1 4 1 (List.map cB ((dA t f i).set i.toNat (decide ((i < ((t.ni.length:Nat):Int))∧((nth t.ni i.toNat)=f.arg))))))) rfl t115 rfl h21 (gT (x:=(decide ((i < ((t.ni.length:Nat):Int))∧((nth t.ni i.toNat)=f.arg)))) (i:=i.toNat) (by omega) rfl rfl rfl rfl) (R_e (n9 _ _ (n8 _ _ (.done (W_t (aA t9 ?_)))))))
   refine nQ rfl rfl (by omega) (by omega) (aA rfl (R_e ?_))
   refine p16 _ _ _ ?_ ⟨(i - 1),v,rfl,t2,t3,t5,t6,t7,(eTq (rVq (iV (i - (1:Int)))) (by rfl)),h2,h3,h7,(eTq (@rfl Blk (bk 1 4 1 (List.map cB ((dA t f i).set i.toNat (decide ((i < ((t.ni.length:Nat):Int))∧((nth t.ni i.toNat)=f.arg))))))) (by (rw [gY (by omega) (by omega) (by rw [sv2 (by omega),← Bool.decide_and]; exact decide_eq_decide.2 (by omega))]; done))),?_⟩
   · omega
   · omega
  refine W_r (aY rfl rfl (aA rfl (R_e ?_)))
  refine cD rfl (fun c13=>?_) fun c13=>?_
  ·
   refine W_t (aA t6 (aA t9 (aA rfl (aA rfl ?_))))
   refine aV 9 (fun T H=>T 2=(mPq 2)∧T 3=(mPq 3)∧T 5=(iV ((t.ni.length:Nat):Int))∧T 6=(V.ms 21 1 0 (t.ni.length+1))∧T 7=(V.ms 7 v 0 f.kids.length)∧T 9=(iV i)∧T 119=(V.ms 21 1 0 (t.ni.length+1))∧T 120=(iV i)∧T 131=(V.bool (decide ((i < ((t.ni.length:Nat):Int))∧((nth t.no i.toNat)=f.arg))))∧H 2=(bFq f)∧H 3=(bk 1 54 2 [[(aZ t.ni),(aZ t.no)]])∧H 7=(bz v 41 1 (List.map cBL (f.kids.map (rst t))))∧H 21=(bk 1 4 1 (List.map cB (dA t f i)))∧True) ?_ ?_
   ·
    by_cases g14:i < ((t.ni.length:Nat):Int)
    ·
     refine aF (edT g14 rfl) (aM t3 h3 (aF (edT g14 rfl) (aJ rfl h3 rfl rfl (aF (edT g14 rfl) (aA t9 (aF (edT g14 rfl) (fE (i:=i) (rVq (aZ t.no)) (rVq (iV i)) (by omega) (by omega) rfl ?_)))))))
     refine aF (edT g14 rfl) (aG rfl rfl (aF (edT g14 rfl) (aM t2 h2 (aF (edT g14 rfl) (aJ rfl h2 rfl rfl (aF (edT g14 rfl) (aY rfl rfl ?_)))))))
     refine aS (edT g14 rfl) rfl ?_
     exact ⟨t2,t3,t5,t6,t7,t9,rfl,rfl,(dH g14),h2,h3,h7,h21,trivial⟩
    ·
     refine G_n (edF g14 rfl) (G_n (edF g14 rfl) (G_n (edF g14 rfl) (G_n (edF g14 rfl) (G_n (edF g14 rfl) (G_n (edF g14 rfl) (G_n (edF g14 rfl) (G_n (edF g14 rfl) ?_)))))))
     refine aT (edF g14 rfl) rfl ?_
     exact ⟨t2,t3,t5,t6,t7,t9,rfl,rfl,(dG g14),h2,h3,h7,h21,trivial⟩
   intro T H ⟨t2,t3,t5,t6,t7,t9,t119,t120,t131,h2,h3,h7,h21,_⟩
   refine dP (i:=i) t119 t120 h21 oB rfl (by omega) (by omega) (gJ (vs:=[(V.bool (decide ((i < ((t.ni.length:Nat):Int))∧((nth t.no i.toNat)=f.arg))))]) (B':=(bk 1 4 1 (List.map cB ((dA t f i).set i.toNat (decide ((i < ((t.ni.length:Nat):Int))∧((nth t.no i.toNat)=f.arg))))))) rfl t131 rfl h21 (gT (x:=(decide ((i < ((t.ni.length:Nat):Int))∧((nth t.no i.toNat)=f.arg)))) (i:=i.toNat) (by omega) rfl rfl rfl rfl) (R_e (n9 _ _ (n8 _ _ (.done (W_t (aA t9 ?_)))))))
   refine nQ rfl rfl (by omega) (by omega) (aA rfl (R_e ?_))
   refine p16 _ _ _ ?_ ⟨(i - 1),v,rfl,t2,t3,t5,t6,t7,(eTq (rVq (iV (i - (1:Int)))) (by rfl)),h2,h3,h7,(eTq (@rfl Blk (bk 1 4 1 (List.map cB ((dA t f i).set i.toNat (decide ((i < ((t.ni.length:Nat):Int))∧((nth t.no i.toNat)=f.arg))))))) (by (rw [gY (by omega) (by omega) (by rw [sv3 (by omega),← Bool.decide_and]; exact decide_eq_decide.2 (by omega))]; done))),?_⟩
   · omega
   · omega
  refine W_r (aY rfl rfl (aA rfl (R_e ?_)))
  refine cD rfl (fun c15=>?_) fun c15=>?_
  ·
   refine W_t (aA t6 (aA t9 (aA t7 (eJ (i:=0) (rVq (V.ms 7 v 0 f.kids.length)) (rNq 0) h7 (eO (by (simp only [List.length_map,List.length_set,cO]; omega))) rfl (by omega) (cN (v:=(V.sl (List.map cB (nth (f.kids.map (rst t)) 0)))) rfl h7 (eG (by (simp only [List.length_map,List.length_set,cO]; omega)) (by rfl)) (aA t9 (fE (i:=i) (rVq (V.sl (List.map cB (nth (f.kids.map (rst t)) 0)))) (rVq (iV i)) (by omega) (by omega) rfl ?_)))))))
   refine aG rfl rfl (eN rfl (dP (i:=i) (rVq (V.ms 21 1 0 (t.ni.length+1))) (rVq (iV i)) h21 oB rfl (by omega) (by omega) (gJ (vs:=[(V.bool (!(nth (nth (f.kids.map (rst t)) 0) i.toNat)))]) (B':=(bk 1 4 1 (List.map cB ((dA t f i).set i.toNat (!(nth (nth (f.kids.map (rst t)) 0) i.toNat)))))) rfl rfl rfl h21 (gT (x:=(!(nth (nth (f.kids.map (rst t)) 0) i.toNat))) (i:=i.toNat) (by omega) rfl rfl rfl rfl) (R_e (n9 _ _ (n8 _ _ (.done ?_)))))))
   refine W_t (aA t9 (nQ rfl rfl (by omega) (by omega) (aA rfl (R_e ?_))))
   refine p16 _ _ _ ?_ ⟨(i - 1),v,rfl,t2,t3,t5,t6,t7,(eTq (rVq (iV (i - (1:Int)))) (by rfl)),h2,h3,h7,(eTq (@rfl Blk (bk 1 4 1 (List.map cB ((dA t f i).set i.toNat (!(nth (nth (f.kids.map (rst t)) 0) i.toNat)))))) (by (rw [gY (by omega) (by omega) (by rw [sv4 (by omega) (by omega) (by omega)]; rfl)]; done))),?_⟩
   · omega
   · omega
  refine W_r (aY rfl rfl (aA rfl (R_e ?_)))
  refine cD rfl (fun c16=>?_) fun c16=>?_
  ·
   refine W_t (aA t6 (aA t9 (aA rfl (aA rfl ?_))))
   refine aV 8 (fun T H=>T 2=(mPq 2)∧T 3=(mPq 3)∧T 5=(iV ((t.ni.length:Nat):Int))∧T 6=(V.ms 21 1 0 (t.ni.length+1))∧T 7=(V.ms 7 v 0 f.kids.length)∧T 9=(iV i)∧T 147=(V.ms 21 1 0 (t.ni.length+1))∧T 148=(iV i)∧T 158=(V.bool (decide (i < ((t.ni.length:Nat):Int))&&(nth (nth (f.kids.map (rst t)) 0) (i+(1:Int)).toNat)))∧H 2=(bFq f)∧H 3=(bk 1 54 2 [[(aZ t.ni),(aZ t.no)]])∧H 7=(bz v 41 1 (List.map cBL (f.kids.map (rst t))))∧H 21=(bk 1 4 1 (List.map cB (dA t f i)))∧True) ?_ ?_
   ·
    by_cases g17:i < ((t.ni.length:Nat):Int)
    ·
     refine aF (edT g17 rfl) (aA t7 (aF (edT g17 rfl) (eJ (i:=0) (rVq (V.ms 7 v 0 f.kids.length)) (rNq 0) h7 (eO (by (simp only [List.length_map,List.length_set,cO]; omega))) rfl (by omega) (aF (edT g17 rfl) (cN (v:=(V.sl (List.map cB (nth (f.kids.map (rst t)) 0)))) rfl h7 (eG (by (simp only [List.length_map,List.length_set,cO]; omega)) (by rfl)) (aF (edT g17 rfl) (aA t9 ?_)))))))
     refine aF (edT g17 rfl) (oO rfl rfl (by omega) (by omega) (aF (edT g17 rfl) (fE (i:=(i+(1:Int))) (rVq (V.sl (List.map cB (nth (f.kids.map (rst t)) 0)))) (rVq (iV (i+(1:Int)))) (by omega) (by omega) rfl (aF (edT g17 rfl) (aG rfl rfl (aS (edT g17 rfl) rfl ?_))))))
     exact ⟨t2,t3,t5,t6,t7,t9,rfl,rfl,(tW g17),h2,h3,h7,h21,trivial⟩
    ·
     refine G_n (edF g17 rfl) (G_n (edF g17 rfl) (G_n (edF g17 rfl) (G_n (edF g17 rfl) (G_n (edF g17 rfl) (G_n (edF g17 rfl) (G_n (edF g17 rfl) (aT (edF g17 rfl) rfl ?_)))))))
     exact ⟨t2,t3,t5,t6,t7,t9,rfl,rfl,(uP g17),h2,h3,h7,h21,trivial⟩
   intro T H ⟨t2,t3,t5,t6,t7,t9,t147,t148,t158,h2,h3,h7,h21,_⟩
   refine dP (i:=i) t147 t148 h21 oB rfl (by omega) (by omega) (gJ (vs:=[(V.bool (decide (i < ((t.ni.length:Nat):Int))&&(nth (nth (f.kids.map (rst t)) 0) (i+(1:Int)).toNat)))]) (B':=(bk 1 4 1 (List.map cB ((dA t f i).set i.toNat (decide (i < ((t.ni.length:Nat):Int))&&(nth (nth (f.kids.map (rst t)) 0) (i+(1:Int)).toNat)))))) rfl t158 rfl h21 (gT (x:=(decide (i < ((t.ni.length:Nat):Int))&&(nth (nth (f.kids.map (rst t)) 0) (i+(1:Int)).toNat))) (i:=i.toNat) (by omega) rfl rfl rfl rfl) (R_e (n9 _ _ (n8 _ _ (.done (W_t (aA t9 ?_)))))))
   refine nQ rfl rfl (by omega) (by omega) (aA rfl (R_e ?_))
   refine p16 _ _ _ ?_ ⟨(i - 1),v,rfl,t2,t3,t5,t6,t7,(eTq (rVq (iV (i - (1:Int)))) (by rfl)),h2,h3,h7,(eTq (@rfl Blk (bk 1 4 1 (List.map cB ((dA t f i).set i.toNat (decide (i < ((t.ni.length:Nat):Int))&&(nth (nth (f.kids.map (rst t)) 0) (i+(1:Int)).toNat)))))) (by (rw [gY (by omega) (by omega) (by rw [sv7 (by omega) (by omega),show (i+1).toNat=i.toNat+1 by omega]; congr 1; exact decide_eq_decide.2 (by omega))]; done))),?_⟩
   · omega
   · omega
  refine W_r (aY rfl rfl (aA rfl (R_e ?_)))
  refine cD rfl (fun c18=>?_) fun c18=>?_
  ·
   refine W_t (aA t6 (aA t9 (aA rfl (vP rfl (aA rfl ?_)))))
   refine aV 8 (fun T H=>T 2=(mPq 2)∧T 3=(mPq 3)∧T 5=(iV ((t.ni.length:Nat):Int))∧T 6=(V.ms 21 1 0 (t.ni.length+1))∧T 7=(V.ms 7 v 0 f.kids.length)∧T 9=(iV i)∧T 162=(V.ms 21 1 0 (t.ni.length+1))∧T 163=(iV i)∧T 174=(V.bool (decide (¬(i < ((t.ni.length:Nat):Int)))||(nth (nth (f.kids.map (rst t)) 0) (i+(1:Int)).toNat)))∧H 2=(bFq f)∧H 3=(bk 1 54 2 [[(aZ t.ni),(aZ t.no)]])∧H 7=(bz v 41 1 (List.map cBL (f.kids.map (rst t))))∧H 21=(bk 1 4 1 (List.map cB (dA t f i)))∧True) ?_ ?_
   ·
    by_cases g19: ¬(i < ((t.ni.length:Nat):Int))
    ·
     refine G_n (edT g19 rfl) (G_n (edT g19 rfl) (G_n (edT g19 rfl) (G_n (edT g19 rfl) (G_n (edT g19 rfl) (G_n (edT g19 rfl) (G_n (edT g19 rfl) (aS (edT g19 rfl) rfl ?_)))))))
     exact ⟨t2,t3,t5,t6,t7,t9,rfl,rfl,(nM g19),h2,h3,h7,h21,trivial⟩
    ·
     refine aF (edF g19 rfl) (aA t7 (aF (edF g19 rfl) (eJ (i:=0) (rVq (V.ms 7 v 0 f.kids.length)) (rNq 0) h7 (eO (by (simp only [List.length_map,List.length_set,cO]; omega))) rfl (by omega) (aF (edF g19 rfl) (cN (v:=(V.sl (List.map cB (nth (f.kids.map (rst t)) 0)))) rfl h7 (eG (by (simp only [List.length_map,List.length_set,cO]; omega)) (by rfl)) (aF (edF g19 rfl) (aA t9 ?_)))))))
     refine aF (edF g19 rfl) (oO rfl rfl (by omega) (by omega) (aF (edF g19 rfl) (fE (i:=(i+(1:Int))) (rVq (V.sl (List.map cB (nth (f.kids.map (rst t)) 0)))) (rVq (iV (i+(1:Int)))) (by omega) (by omega) rfl (aF (edF g19 rfl) (aG rfl rfl (aT (edF g19 rfl) rfl ?_))))))
     exact ⟨t2,t3,t5,t6,t7,t9,rfl,rfl,(nH g19),h2,h3,h7,h21,trivial⟩
   intro T H ⟨t2,t3,t5,t6,t7,t9,t162,t163,t174,h2,h3,h7,h21,_⟩
   refine dP (i:=i) t162 t163 h21 oB rfl (by omega) (by omega) (gJ (vs:=[(V.bool (decide (¬(i < ((t.ni.length:Nat):Int)))||(nth (nth (f.kids.map (rst t)) 0) (i+(1:Int)).toNat)))]) (B':=(bk 1 4 1 (List.map cB ((dA t f i).set i.toNat (decide (¬(i < ((t.ni.length:Nat):Int)))||(nth (nth (f.kids.map (rst t)) 0) (i+(1:Int)).toNat)))))) rfl t174 rfl h21 (gT (x:=(decide (¬(i < ((t.ni.length:Nat):Int)))||(nth (nth (f.kids.map (rst t)) 0) (i+(1:Int)).toNat))) (i:=i.toNat) (by omega) rfl rfl rfl rfl) (R_e (n9 _ _ (n8 _ _ (.done (W_t (aA t9 ?_)))))))
   refine nQ rfl rfl (by omega) (by omega) (aA rfl (R_e ?_))
   refine p16 _ _ _ ?_ ⟨(i - 1),v,rfl,t2,t3,t5,t6,t7,(eTq (rVq (iV (i - (1:Int)))) (by rfl)),h2,h3,h7,(eTq (@rfl Blk (bk 1 4 1 (List.map cB ((dA t f i).set i.toNat (decide (¬(i < ((t.ni.length:Nat):Int)))||(nth (nth (f.kids.map (rst t)) 0) (i+(1:Int)).toNat)))))) (by (rw [gY (by omega) (by omega) (by rw [sv9 (by omega) (by omega),show (i+1).toNat=i.toNat+1 by omega]; congr 1; exact decide_eq_decide.2 (by omega))]; done))),?_⟩
   · omega
   · omega
  refine W_r (aY rfl rfl (aA rfl (R_e ?_)))
  refine cD rfl (fun c20=>?_) fun c20=>?_
  ·
   refine W_r (aA t9 (aA rfl (aA rfl (R_e (iH fun Q21 n21 x21 y21 z21=>?_)))))
   refine bS (fun mm T H=> ∃ (k:Int) (al:Bool) (x:Bool),mm=t.ni.length+1 - k.toNat∧T 2=(mPq 2)∧T 3=(mPq 3)∧T 5=(iV ((t.ni.length:Nat):Int))∧T 6=(V.ms 21 1 0 (t.ni.length+1))∧T 7=(V.ms 7 v 0 f.kids.length)∧T 9=(iV i)∧T 11=(iV k)∧T 12=(V.bool al)∧H 2=(bFq f)∧H 3=(bk 1 54 2 [[(aZ t.ni),(aZ t.no)]])∧H 7=(bz v 41 1 (List.map cBL (f.kids.map (rst t))))∧H 21=(bk 1 4 1 (List.map cB ((dA t f i).set i.toNat x)))∧(i≤k∧k≤t.ni.length+1)∧(unI t f i k al x)) ?_ ?_
   ·
    refine ⟨_,i,true,false,rfl,t2,t3,t5,t6,t7,t9,rfl,rfl,h2,h3,h7,(eTq h21 (by (rw [aRA (by omega) (by omega)]; done))),?_,?_⟩
    · omega
    · exact aHn (by omega) (by omega) (by omega) (by omega)
   intro mm T H ⟨k,al,x,hmm,t2,t3,t5,t6,t7,t9,t11,t12,h2,h3,h7,h21,hk,hu⟩ Q22 p122 p222 p322
   unfold aNT
   refine aB (W_r (aA t11 (aA t5 (qO rfl rfl (aA rfl ?_)))))
   refine aV 2 (fun T H=>T 2=(mPq 2)∧T 3=(mPq 3)∧T 5=(iV ((t.ni.length:Nat):Int))∧T 6=(V.ms 21 1 0 (t.ni.length+1))∧T 7=(V.ms 7 v 0 f.kids.length)∧T 9=(iV i)∧T 11=(iV k)∧T 184=(V.bool (decide (k≤((t.ni.length:Nat):Int))&&al))∧H 2=(bFq f)∧H 3=(bk 1 54 2 [[(aZ t.ni),(aZ t.no)]])∧H 7=(bz v 41 1 (List.map cBL (f.kids.map (rst t))))∧H 21=(bk 1 4 1 (List.map cB ((dA t f i).set i.toNat x)))∧True) ?_ ?_
   ·
    by_cases g23:k≤((t.ni.length:Nat):Int)
    ·
     refine aF (edT g23 rfl) (aA t12 (aS (edT g23 rfl) rfl ?_))
     exact ⟨t2,t3,t5,t6,t7,t9,t11,(tW g23),h2,h3,h7,h21,trivial⟩
    ·
     refine G_n (edF g23 rfl) (aT (edF g23 rfl) rfl ?_)
     exact ⟨t2,t3,t5,t6,t7,t9,t11,(uP g23),h2,h3,h7,h21,trivial⟩
   intro T H ⟨t2,t3,t5,t6,t7,t9,t11,t184,h2,h3,h7,h21,_⟩
   refine R_e ?_
   refine cC t184 (fun c24=>?_) (fun c24=>?_)
   ·
    have q0:=c24
    rw [Bool.and_eq_true,decide_eq_true_eq] at q0
    obtain ⟨hk1,hal⟩:=q0
    refine aC (aD fun Q25 n25 x25 y25 z25=>(W_r (aA t6 (aA t9 (aA t6 (aA t9 (dP (i:=i) (rVq (V.ms 21 1 0 (t.ni.length+1))) (rVq (iV i)) h21 oB rfl (by omega) (by omega) ?_)))))))
    refine cN (v:=(V.bool (nth ((dA t f i).set i.toNat x) i.toNat))) rfl h21 (eG (by (simp only [List.length_map,List.length_set,cO]; omega)) (by rfl)) (aA rfl ?_)
    refine aV 7 (fun T H=>T 2=(mPq 2)∧T 3=(mPq 3)∧T 5=(iV ((t.ni.length:Nat):Int))∧T 6=(V.ms 21 1 0 (t.ni.length+1))∧T 7=(V.ms 7 v 0 f.kids.length)∧T 9=(iV i)∧T 11=(iV k)∧T 187=(V.ms 21 1 0 (t.ni.length+1))∧T 188=(iV i)∧T 200=(V.bool ((nth ((dA t f i).set i.toNat x) i.toNat)||(nth (nth (f.kids.map (rst t)) 1) k.toNat)))∧H 2=(bFq f)∧H 3=(bk 1 54 2 [[(aZ t.ni),(aZ t.no)]])∧H 7=(bz v 41 1 (List.map cBL (f.kids.map (rst t))))∧H 21=(bk 1 4 1 (List.map cB ((dA t f i).set i.toNat x)))∧True) ?_ ?_
    ·
     by_cases g26:(nth ((dA t f i).set i.toNat x) i.toNat)=true
     ·
      refine G_n (ebT g26 rfl) (G_n (ebT g26 rfl) (G_n (ebT g26 rfl) (G_n (ebT g26 rfl) (G_n (ebT g26 rfl) (G_n (ebT g26 rfl) (aS (ebT g26 rfl) rfl ?_))))))
      exact ⟨t2,t3,t5,t6,t7,t9,t11,rfl,rfl,(aL5 g26),h2,h3,h7,h21,trivial⟩
     ·
      refine aF (ebF g26 rfl) (aA t7 (aF (ebF g26 rfl) (eJ (i:=1) (rVq (V.ms 7 v 0 f.kids.length)) (rNq 1) h7 (eO (by (simp only [List.length_map,List.length_set,cO]; omega))) rfl (by omega) (aF (ebF g26 rfl) (cN (v:=(V.sl (List.map cB (nth (f.kids.map (rst t)) 1)))) rfl h7 (eG (by (simp only [List.length_map,List.length_set,cO]; omega)) (by rfl)) (aF (ebF g26 rfl) (aA t11 ?_)))))))
      refine aF (ebF g26 rfl) (fE (i:=k) (rVq (V.sl (List.map cB (nth (f.kids.map (rst t)) 1)))) (rVq (iV k)) (by omega) (by omega) rfl (aF (ebF g26 rfl) (aG rfl rfl (aT (ebF g26 rfl) rfl ?_))))
      exact ⟨t2,t3,t5,t6,t7,t9,t11,rfl,rfl,(aMC g26),h2,h3,h7,h21,trivial⟩
    intro T H ⟨t2,t3,t5,t6,t7,t9,t11,t187,t188,t200,h2,h3,h7,h21,_⟩
    refine dP (i:=i) t187 t188 h21 oB rfl (by omega) (by omega) (gJ (vs:=[(V.bool ((nth ((dA t f i).set i.toNat x) i.toNat)||(nth (nth (f.kids.map (rst t)) 1) k.toNat)))]) (B':=(bk 1 4 1 (List.map cB (((dA t f i).set i.toNat x).set i.toNat ((nth ((dA t f i).set i.toNat x) i.toNat)||(nth (nth (f.kids.map (rst t)) 1) k.toNat)))))) rfl t200 rfl h21 (gT (x:=((nth ((dA t f i).set i.toNat x) i.toNat)||(nth (nth (f.kids.map (rst t)) 1) k.toNat))) (i:=i.toNat) (by (simp only [List.length_map,List.length_set,cO]; omega)) rfl rfl rfl rfl) (R_e (W_t (aA t7 (eJ (i:=0) (rVq (V.ms 7 v 0 f.kids.length)) (rNq 0) h7 (eO (by (simp only [List.length_map,List.length_set,cO]; omega))) rfl (by omega) (cN (v:=(V.sl (List.map cB (nth (f.kids.map (rst t)) 0)))) rfl h7 (eG (by (simp only [List.length_map,List.length_set,cO]; omega)) (by rfl)) (aA t11 ?_)))))))
    refine fE (i:=k) (rVq (V.sl (List.map cB (nth (f.kids.map (rst t)) 0)))) (rVq (iV k)) (by omega) (by omega) rfl (aG rfl rfl (aA rfl (R_e (n25 _ _ (.done (W_t (aA t11 ?_)))))))
    refine oO rfl rfl (by omega) (by omega) (aA rfl (R_e ?_))
    refine p122 _ _ _ ?_ ⟨(k+1),(kR t f 0 k.toNat),(x||kR t f 1 k.toNat),rfl,t2,t3,t5,t6,t7,t9,(eTq (rVq (iV (k+(1:Int)))) (by rfl)),(eTq (rVq (V.bool (nth (nth (f.kids.map (rst t)) 0) k.toNat))) (by rfl)),h2,h3,h7,(eTq (@rfl Blk (bk 1 4 1 (List.map cB (((dA t f i).set i.toNat x).set i.toNat ((nth ((dA t f i).set i.toNat x) i.toNat)||(nth (nth (f.kids.map (rst t)) 1) k.toNat)))))) (by (rw [List.set_set,nB (by rw [cO]; omega)]; rfl))),?_,?_⟩
    · omega
    · omega
    · exact aJy hu (by omega) (by omega) hal
   have hx:=aK0 hu c24
   refine aN (p322 _ _ _ (x21 _ _ (n9 _ _ (n8 _ _ (.done (W_t (aA t9 ?_)))))))
   refine nQ rfl rfl (by omega) (by omega) (aA rfl (R_e ?_))
   refine p16 _ _ _ ?_ ⟨(i - 1),v,rfl,t2,t3,t5,t6,t7,(eTq (rVq (iV (i - (1:Int)))) (by rfl)),h2,h3,h7,(eTq h21 (by (rw [gY (by omega) (by omega) hx]; done))),?_⟩
   · omega
   · omega
  refine W_r (aY rfl rfl (aA rfl (R_e ?_)))
  refine cD rfl (fun c27=>?_) fun c27=>?_
  ·
   refine W_r (aA t6 (aA t9 (dP (i:=i) (rVq (V.ms 21 1 0 (t.ni.length+1))) (rVq (iV i)) h21 oB rfl (by omega) (by omega) (gJ (vs:=[(V.bool true)]) (B':=(bk 1 4 1 (List.map cB ((dA t f i).set i.toNat true)))) rfl rfl rfl h21 (gT (x:=true) (i:=i.toNat) (by omega) rfl rfl rfl rfl) (R_e (W_r (aA t9 ?_)))))))
   refine aA rfl (aA rfl (R_e (iH fun Q28 n28 x28 y28 z28=>?_)))
   refine bS (fun mm T H=> ∃ (k:Int) (al:Bool) (x:Bool),mm=t.ni.length+1 - k.toNat∧T 2=(mPq 2)∧T 3=(mPq 3)∧T 5=(iV ((t.ni.length:Nat):Int))∧T 6=(V.ms 21 1 0 (t.ni.length+1))∧T 7=(V.ms 7 v 0 f.kids.length)∧T 9=(iV i)∧T 13=(iV k)∧T 14=(V.bool al)∧H 2=(bFq f)∧H 3=(bk 1 54 2 [[(aZ t.ni),(aZ t.no)]])∧H 7=(bz v 41 1 (List.map cBL (f.kids.map (rst t))))∧H 21=(bk 1 4 1 (List.map cB ((dA t f i).set i.toNat x)))∧(i≤k∧k≤t.ni.length+1)∧(reI t f i k al x)) ?_ ?_
   ·
    refine ⟨_,i,true,true,rfl,t2,t3,t5,t6,t7,t9,rfl,rfl,h2,h3,h7,(eTq (@rfl Blk (bk 1 4 1 (List.map cB ((dA t f i).set i.toNat true)))) (by rfl)),?_,?_⟩
    · omega
    · exact aHe (by omega) (by omega) (by omega) (by omega)
   intro mm T H ⟨k,al,x,hmm,t2,t3,t5,t6,t7,t9,t13,t14,h2,h3,h7,h21,hk,hu⟩ Q29 p129 p229 p329
   unfold aOf
   refine aB (W_r (aA t13 (aA t5 (qO rfl rfl (aA rfl ?_)))))
   refine aV 2 (fun T H=>T 2=(mPq 2)∧T 3=(mPq 3)∧T 5=(iV ((t.ni.length:Nat):Int))∧T 6=(V.ms 21 1 0 (t.ni.length+1))∧T 7=(V.ms 7 v 0 f.kids.length)∧T 9=(iV i)∧T 13=(iV k)∧T 219=(V.bool (decide (k≤((t.ni.length:Nat):Int))&&al))∧H 2=(bFq f)∧H 3=(bk 1 54 2 [[(aZ t.ni),(aZ t.no)]])∧H 7=(bz v 41 1 (List.map cBL (f.kids.map (rst t))))∧H 21=(bk 1 4 1 (List.map cB ((dA t f i).set i.toNat x)))∧True) ?_ ?_
   ·
    by_cases g30:k≤((t.ni.length:Nat):Int)
    ·
     refine aF (edT g30 rfl) (aA t14 (aS (edT g30 rfl) rfl ?_))
     exact ⟨t2,t3,t5,t6,t7,t9,t13,(tW g30),h2,h3,h7,h21,trivial⟩
    ·
     refine G_n (edF g30 rfl) (aT (edF g30 rfl) rfl ?_)
     exact ⟨t2,t3,t5,t6,t7,t9,t13,(uP g30),h2,h3,h7,h21,trivial⟩
   intro T H ⟨t2,t3,t5,t6,t7,t9,t13,t219,h2,h3,h7,h21,_⟩
   refine R_e ?_
   refine cC t219 (fun c31=>?_) (fun c31=>?_)
   ·
    have q0:=c31
    rw [Bool.and_eq_true,decide_eq_true_eq] at q0
    obtain ⟨hk1,hal⟩:=q0
    refine aC (aD fun Q32 n32 x32 y32 z32=>(W_r (aA t6 (aA t9 (aA t6 (aA t9 (dP (i:=i) (rVq (V.ms 21 1 0 (t.ni.length+1))) (rVq (iV i)) h21 oB rfl (by omega) (by omega) ?_)))))))
    refine cN (v:=(V.bool (nth ((dA t f i).set i.toNat x) i.toNat))) rfl h21 (eG (by (simp only [List.length_map,List.length_set,cO]; omega)) (by rfl)) (aA rfl ?_)
    refine aV 7 (fun T H=>T 2=(mPq 2)∧T 3=(mPq 3)∧T 5=(iV ((t.ni.length:Nat):Int))∧T 6=(V.ms 21 1 0 (t.ni.length+1))∧T 7=(V.ms 7 v 0 f.kids.length)∧T 9=(iV i)∧T 13=(iV k)∧T 222=(V.ms 21 1 0 (t.ni.length+1))∧T 223=(iV i)∧T 235=(V.bool ((nth ((dA t f i).set i.toNat x) i.toNat)&&(nth (nth (f.kids.map (rst t)) 1) k.toNat)))∧H 2=(bFq f)∧H 3=(bk 1 54 2 [[(aZ t.ni),(aZ t.no)]])∧H 7=(bz v 41 1 (List.map cBL (f.kids.map (rst t))))∧H 21=(bk 1 4 1 (List.map cB ((dA t f i).set i.toNat x)))∧True) ?_ ?_
    ·
     by_cases g33:(nth ((dA t f i).set i.toNat x) i.toNat)=true
     ·
      refine aF (ebT g33 rfl) (aA t7 (aF (ebT g33 rfl) (eJ (i:=1) (rVq (V.ms 7 v 0 f.kids.length)) (rNq 1) h7 (eO (by (simp only [List.length_map,List.length_set,cO]; omega))) rfl (by omega) (aF (ebT g33 rfl) (cN (v:=(V.sl (List.map cB (nth (f.kids.map (rst t)) 1)))) rfl h7 (eG (by (simp only [List.length_map,List.length_set,cO]; omega)) (by rfl)) (aF (ebT g33 rfl) (aA t13 ?_)))))))
      refine aF (ebT g33 rfl) (fE (i:=k) (rVq (V.sl (List.map cB (nth (f.kids.map (rst t)) 1)))) (rVq (iV k)) (by omega) (by omega) rfl (aF (ebT g33 rfl) (aG rfl rfl (aS (ebT g33 rfl) rfl ?_))))
      exact ⟨t2,t3,t5,t6,t7,t9,t13,rfl,rfl,(aNv g33),h2,h3,h7,h21,trivial⟩
     ·
      refine G_n (ebF g33 rfl) (G_n (ebF g33 rfl) (G_n (ebF g33 rfl) (G_n (ebF g33 rfl) (G_n (ebF g33 rfl) (G_n (ebF g33 rfl) (aT (ebF g33 rfl) rfl ?_))))))
      exact ⟨t2,t3,t5,t6,t7,t9,t13,rfl,rfl,(aN6 g33),h2,h3,h7,h21,trivial⟩
    intro T H ⟨t2,t3,t5,t6,t7,t9,t13,t222,t223,t235,h2,h3,h7,h21,_⟩
    refine dP (i:=i) t222 t223 h21 oB rfl (by omega) (by omega) (gJ (vs:=[(V.bool ((nth ((dA t f i).set i.toNat x) i.toNat)&&(nth (nth (f.kids.map (rst t)) 1) k.toNat)))]) (B':=(bk 1 4 1 (List.map cB (((dA t f i).set i.toNat x).set i.toNat ((nth ((dA t f i).set i.toNat x) i.toNat)&&(nth (nth (f.kids.map (rst t)) 1) k.toNat)))))) rfl t235 rfl h21 (gT (x:=((nth ((dA t f i).set i.toNat x) i.toNat)&&(nth (nth (f.kids.map (rst t)) 1) k.toNat))) (i:=i.toNat) (by (simp only [List.length_map,List.length_set,cO]; omega)) rfl rfl rfl rfl) (R_e (W_t (aA t7 (eJ (i:=0) (rVq (V.ms 7 v 0 f.kids.length)) (rNq 0) h7 (eO (by (simp only [List.length_map,List.length_set,cO]; omega))) rfl (by omega) (cN (v:=(V.sl (List.map cB (nth (f.kids.map (rst t)) 0)))) rfl h7 (eG (by (simp only [List.length_map,List.length_set,cO]; omega)) (by rfl)) (aA t13 ?_)))))))
    refine fE (i:=k) (rVq (V.sl (List.map cB (nth (f.kids.map (rst t)) 0)))) (rVq (iV k)) (by omega) (by omega) rfl (aG rfl rfl (eN rfl (aA rfl (R_e (n32 _ _ (.done (W_t ?_)))))))
    refine aA t13 (oO rfl rfl (by omega) (by omega) (aA rfl (R_e ?_)))
    refine p129 _ _ _ ?_ ⟨(k+1),(!(kR t f 0 k.toNat)),(x&&kR t f 1 k.toNat),rfl,t2,t3,t5,t6,t7,t9,(eTq (rVq (iV (k+(1:Int)))) (by rfl)),(eTq (rVq (V.bool (!(nth (nth (f.kids.map (rst t)) 0) k.toNat)))) (by rfl)),h2,h3,h7,(eTq (@rfl Blk (bk 1 4 1 (List.map cB (((dA t f i).set i.toNat x).set i.toNat ((nth ((dA t f i).set i.toNat x) i.toNat)&&(nth (nth (f.kids.map (rst t)) 1) k.toNat)))))) (by (rw [List.set_set,nB (by rw [cO]; omega)]; rfl))),?_,?_⟩
    · omega
    · omega
    · exact aKk hu (by omega) (by omega) hal
   have hx:=aL0 hu c31
   refine aN (p329 _ _ _ (x28 _ _ (n9 _ _ (n8 _ _ (.done (W_t (aA t9 ?_)))))))
   refine nQ rfl rfl (by omega) (by omega) (aA rfl (R_e ?_))
   refine p16 _ _ _ ?_ ⟨(i - 1),v,rfl,t2,t3,t5,t6,t7,(eTq (rVq (iV (i - (1:Int)))) (by rfl)),h2,h3,h7,(eTq h21 (by (rw [gY (by omega) (by omega) hx]; done))),?_⟩
   · omega
   · omega
  refine W_r (aA t6 (aA t9 (aM t2 h2 (aJ rfl h2 rfl rfl (aY rfl rfl (dP (i:=i) (rVq (V.ms 21 1 0 (t.ni.length+1))) (rVq (iV i)) h21 oB rfl (by omega) (by omega) (gJ (vs:=[(V.bool (decide (f.op=(5:Int))))]) (B':=(bk 1 4 1 (List.map cB ((dA t f i).set i.toNat (decide (f.op=(5:Int))))))) rfl rfl rfl h21 (gT (x:=(decide (f.op=(5:Int)))) (i:=i.toNat) (by omega) rfl rfl rfl rfl) ?_)))))))
  refine R_e (W_r (aA rfl (R_e (iH fun Q34 n34 x34 y34 z34=>?_))))
  refine bS (fun mm T H=> ∃ (q:Nat) (x:Bool),mm=f.kids.length - q∧T 2=(mPq 2)∧T 3=(mPq 3)∧T 5=(iV ((t.ni.length:Nat):Int))∧T 6=(V.ms 21 1 0 (t.ni.length+1))∧T 7=(V.ms 7 v 0 f.kids.length)∧T 9=(iV i)∧T 15=(iV ((q:Nat):Int))∧H 2=(bFq f)∧H 3=(bk 1 54 2 [[(aZ t.ni),(aZ t.no)]])∧H 7=(bz v 41 1 (List.map cBL (f.kids.map (rst t))))∧H 21=(bk 1 4 1 (List.map cB ((dA t f i).set i.toNat x)))∧(q≤f.kids.length)∧(aoI t f i q x)) ?_ ?_
  ·
   refine ⟨_,0,(decide (f.op=5)),rfl,t2,t3,t5,t6,t7,t9,(eTq (rVq (iV 0)) rfl),h2,h3,h7,(eTq (@rfl Blk (bk 1 4 1 (List.map cB ((dA t f i).set i.toNat (decide (f.op=(5:Int))))))) (by rfl)),?_,?_⟩
   · omega
   · exact aHM (by omega) (by omega) (by omega)
  intro mm T H ⟨q,x,hmm,t2,t3,t5,t6,t7,t9,t15,h2,h3,h7,h21,hq,ha⟩ Q35 p135 p235 p335
  unfold aNx
  have hrq:q < f.kids.length→(nth (f.kids.map (rst t)) q).length=t.ni.length+1:=fun h=>by rw [fT h,sQ]
  refine aB (W_r (aA t15 (aA t7 (fW rfl h7 (by simp) (bM rfl rfl (R_e ?_))))))
  refine aH rfl (fun c36=>?_) fun c36=>?_
  ·
   refine aC (aD fun Q37 n37 x37 y37 z37=>(W_r (aM t2 h2 (aJ rfl h2 rfl rfl (aY rfl rfl (R_e ?_))))))
   refine cD rfl (fun c38=>?_) fun c38=>?_
   ·
    refine W_t (aA t6 (aA t9 (aA t6 (aA t9 (dP (i:=i) (rVq (V.ms 21 1 0 (t.ni.length+1))) (rVq (iV i)) h21 oB rfl (by omega) (by omega) (cN (v:=(V.bool (nth ((dA t f i).set i.toNat x) i.toNat))) rfl h21 (eG (by (simp only [List.length_map,List.length_set,cO]; omega)) (by rfl)) (aA rfl ?_)))))))
    refine aV 8 (fun T H=>T 2=(mPq 2)∧T 3=(mPq 3)∧T 5=(iV ((t.ni.length:Nat):Int))∧T 6=(V.ms 21 1 0 (t.ni.length+1))∧T 7=(V.ms 7 v 0 f.kids.length)∧T 9=(iV i)∧T 15=(iV ((q:Nat):Int))∧T 64=(V.ms 21 1 0 (t.ni.length+1))∧T 65=(iV i)∧T 78=(V.bool ((nth ((dA t f i).set i.toNat x) i.toNat)&&(nth (nth (f.kids.map (rst t)) q) i.toNat)))∧H 2=(bFq f)∧H 3=(bk 1 54 2 [[(aZ t.ni),(aZ t.no)]])∧H 7=(bz v 41 1 (List.map cBL (f.kids.map (rst t))))∧H 21=(bk 1 4 1 (List.map cB ((dA t f i).set i.toNat x)))∧True) ?_ ?_
    ·
     by_cases g39:(nth ((dA t f i).set i.toNat x) i.toNat)=true
     ·
      refine aF (ebT g39 rfl) (aA t7 (aF (ebT g39 rfl) (aA t15 (aF (ebT g39 rfl) (eJ (i:=q) (rVq (V.ms 7 v 0 f.kids.length)) (rNq q) h7 (eO (by (simp only [List.length_map,List.length_set,cO]; omega))) rfl (by omega) (aF (ebT g39 rfl) (cN (v:=(V.sl (List.map cB (nth (f.kids.map (rst t)) q)))) rfl h7 (eG (by (simp only [List.length_map,List.length_set,cO]; omega)) (by rfl)) ?_)))))))
      refine aF (ebT g39 rfl) (aA t9 (aF (ebT g39 rfl) (fE (i:=i) (rVq (V.sl (List.map cB (nth (f.kids.map (rst t)) q)))) (rVq (iV i)) (by omega) (by omega) rfl (aF (ebT g39 rfl) (aG rfl rfl (aS (ebT g39 rfl) rfl ?_))))))
      exact ⟨t2,t3,t5,t6,t7,t9,t15,rfl,rfl,(aNv g39),h2,h3,h7,h21,trivial⟩
     ·
      refine G_n (ebF g39 rfl) (G_n (ebF g39 rfl) (G_n (ebF g39 rfl) (G_n (ebF g39 rfl) (G_n (ebF g39 rfl) (G_n (ebF g39 rfl) (G_n (ebF g39 rfl) (aT (ebF g39 rfl) rfl ?_)))))))
      exact ⟨t2,t3,t5,t6,t7,t9,t15,rfl,rfl,(aN6 g39),h2,h3,h7,h21,trivial⟩
    intro T H ⟨t2,t3,t5,t6,t7,t9,t15,t64,t65,t78,h2,h3,h7,h21,_⟩
    refine dP (i:=i) t64 t65 h21 oB rfl (by omega) (by omega) (gJ (vs:=[(V.bool ((nth ((dA t f i).set i.toNat x) i.toNat)&&(nth (nth (f.kids.map (rst t)) q) i.toNat)))]) (B':=(bk 1 4 1 (List.map cB (((dA t f i).set i.toNat x).set i.toNat ((nth ((dA t f i).set i.toNat x) i.toNat)&&(nth (nth (f.kids.map (rst t)) q) i.toNat)))))) rfl t78 rfl h21 (gT (x:=((nth ((dA t f i).set i.toNat x) i.toNat)&&(nth (nth (f.kids.map (rst t)) q) i.toNat))) (i:=i.toNat) (by (simp only [List.length_map,List.length_set,cO]; omega)) rfl rfl rfl rfl) (R_e (n37 _ _ (.done (W_t (aA t15 (bB rfl (rNq 1) (by omega) ?_)))))))
    refine aA rfl (R_e ?_)
    refine p135 _ _ _ ?_ ⟨(q+1),(x&&nth (nth (f.kids.map (rst t)) q) i.toNat),rfl,t2,t3,t5,t6,t7,t9,(eTq (rNq (q+1)) (by rfl)),h2,h3,h7,(eTq (@rfl Blk (bk 1 4 1 (List.map cB (((dA t f i).set i.toNat x).set i.toNat ((nth ((dA t f i).set i.toNat x) i.toNat)&&(nth (nth (f.kids.map (rst t)) q) i.toNat)))))) (by (rw [List.set_set,nB (by rw [cO]; omega)]; done))),?_,?_⟩
    · omega
    · omega
    · first|exact aGh ha (by omega) (by omega)|exact aJ7 ha (by omega) (by omega)
   refine W_t (aA t6 (aA t9 (aA t6 (aA t9 (dP (i:=i) (rVq (V.ms 21 1 0 (t.ni.length+1))) (rVq (iV i)) h21 oB rfl (by omega) (by omega) (cN (v:=(V.bool (nth ((dA t f i).set i.toNat x) i.toNat))) rfl h21 (eG (by (simp only [List.length_map,List.length_set,cO]; omega)) (by rfl)) (aA rfl ?_)))))))
   refine aV 8 (fun T H=>T 2=(mPq 2)∧T 3=(mPq 3)∧T 5=(iV ((t.ni.length:Nat):Int))∧T 6=(V.ms 21 1 0 (t.ni.length+1))∧T 7=(V.ms 7 v 0 f.kids.length)∧T 9=(iV i)∧T 15=(iV ((q:Nat):Int))∧T 80=(V.ms 21 1 0 (t.ni.length+1))∧T 81=(iV i)∧T 94=(V.bool ((nth ((dA t f i).set i.toNat x) i.toNat)||(nth (nth (f.kids.map (rst t)) q) i.toNat)))∧H 2=(bFq f)∧H 3=(bk 1 54 2 [[(aZ t.ni),(aZ t.no)]])∧H 7=(bz v 41 1 (List.map cBL (f.kids.map (rst t))))∧H 21=(bk 1 4 1 (List.map cB ((dA t f i).set i.toNat x)))∧True) ?_ ?_
   ·
    by_cases g40:(nth ((dA t f i).set i.toNat x) i.toNat)=true
    ·
     refine G_n (ebT g40 rfl) (G_n (ebT g40 rfl) (G_n (ebT g40 rfl) (G_n (ebT g40 rfl) (G_n (ebT g40 rfl) (G_n (ebT g40 rfl) (G_n (ebT g40 rfl) (aS (ebT g40 rfl) rfl ?_)))))))
     exact ⟨t2,t3,t5,t6,t7,t9,t15,rfl,rfl,(aL5 g40),h2,h3,h7,h21,trivial⟩
    ·
     refine aF (ebF g40 rfl) (aA t7 (aF (ebF g40 rfl) (aA t15 (aF (ebF g40 rfl) (eJ (i:=q) (rVq (V.ms 7 v 0 f.kids.length)) (rNq q) h7 (eO (by (simp only [List.length_map,List.length_set,cO]; omega))) rfl (by omega) (aF (ebF g40 rfl) (cN (v:=(V.sl (List.map cB (nth (f.kids.map (rst t)) q)))) rfl h7 (eG (by (simp only [List.length_map,List.length_set,cO]; omega)) (by rfl)) ?_)))))))
     refine aF (ebF g40 rfl) (aA t9 (aF (ebF g40 rfl) (fE (i:=i) (rVq (V.sl (List.map cB (nth (f.kids.map (rst t)) q)))) (rVq (iV i)) (by omega) (by omega) rfl (aF (ebF g40 rfl) (aG rfl rfl (aT (ebF g40 rfl) rfl ?_))))))
     exact ⟨t2,t3,t5,t6,t7,t9,t15,rfl,rfl,(aMC g40),h2,h3,h7,h21,trivial⟩
   intro T H ⟨t2,t3,t5,t6,t7,t9,t15,t80,t81,t94,h2,h3,h7,h21,_⟩
   refine dP (i:=i) t80 t81 h21 oB rfl (by omega) (by omega) (gJ (vs:=[(V.bool ((nth ((dA t f i).set i.toNat x) i.toNat)||(nth (nth (f.kids.map (rst t)) q) i.toNat)))]) (B':=(bk 1 4 1 (List.map cB (((dA t f i).set i.toNat x).set i.toNat ((nth ((dA t f i).set i.toNat x) i.toNat)||(nth (nth (f.kids.map (rst t)) q) i.toNat)))))) rfl t94 rfl h21 (gT (x:=((nth ((dA t f i).set i.toNat x) i.toNat)||(nth (nth (f.kids.map (rst t)) q) i.toNat))) (i:=i.toNat) (by (simp only [List.length_map,List.length_set,cO]; omega)) rfl rfl rfl rfl) (R_e (n37 _ _ (.done (W_t (aA t15 (bB rfl (rNq 1) (by omega) ?_)))))))
   refine aA rfl (R_e ?_)
   refine p135 _ _ _ ?_ ⟨(q+1),(x||nth (nth (f.kids.map (rst t)) q) i.toNat),rfl,t2,t3,t5,t6,t7,t9,(eTq (rNq (q+1)) (by rfl)),h2,h3,h7,(eTq (@rfl Blk (bk 1 4 1 (List.map cB (((dA t f i).set i.toNat x).set i.toNat ((nth ((dA t f i).set i.toNat x) i.toNat)||(nth (nth (f.kids.map (rst t)) q) i.toNat)))))) (by (rw [List.set_set,nB (by rw [cO]; omega)]; done))),?_,?_⟩
   · omega
   · omega
   · first|exact aGh ha (by omega) (by omega)|exact aJ7 ha (by omega) (by omega)
  have hx:=aK7 ha (by omega)
  refine aN (p335 _ _ _ (x34 _ _ (n9 _ _ (n8 _ _ (.done (W_t (aA t9 ?_)))))))
  refine nQ rfl rfl (by omega) (by omega) (aA rfl (R_e ?_))
  refine p16 _ _ _ ?_ ⟨(i - 1),v,rfl,t2,t3,t5,t6,t7,(eTq (rVq (iV (i - (1:Int)))) (by rfl)),h2,h3,h7,(eTq h21 (by (rw [gY (by omega) (by omega) hx]; done))),?_⟩
  · omega
  · omega
 refine aN (p36 _ _ _ (x5 _ _ (.done (W_r (aA t6 (aA rfl (R_e ?_)))))))
 refine aO ?_
 refine bI (rVq (V.ms 21 1 0 (t.ni.length+1))) (gL h21 (by rfl) (l:=(dA t f i)) rfl (by exact (cO _ _ _).symm) (fun _=>by simp) ?_)
 · rw [show i= -1 by omega,aKy]
theorem aDw (f:Fm) (t:Tr) (hf:okF f=true) (hz:f.sz≤4096) (ht:t.no.length=t.ni.length) (hn:t.ni.length≤1024):aQ Tryz.prog 70 [(V.agg (rFq f)),(V.agg [(aZ t.ni),(aZ t.no)])] (V.sl (List.map cB (rst t f))):=by
  have key: ∀ (mm:Nat) (f:Fm) (t:Tr),f.sz < mm→okF f=true→f.sz≤4096→t.no.length=t.ni.length→t.ni.length≤1024→aQ Tryz.prog 70 [(V.agg (rFq f)),(V.agg [(aZ t.ni),(aZ t.no)])] (V.sl (List.map cB (rst t f))):=by
    intro mm
    induction mm with
    |zero=>intro f t hlt; exact absurd hlt (Nat.not_lt_zero _)
    | succ mm ih =>
      intro f t hlt hf hz ht hn
      exact uX f t hf hz ht hn fun f2 t2 hlt2=>ih f2 t2 (by omega)
  exact key (f.sz+1) f t (Nat.lt_succ_self _) hf hz ht hn
end Go.Proofs.YteehaobohaecmaaGreatDoor
namespace Go.Proofs.YteehaobohaecmaaGreatDoor
open Go Go.Proofs
theorem aCk (f:Fm) (t:Tr):aQ Tryz.prog 43 [(V.agg (rFq f)),(V.agg [(aZ t.ni),(aZ t.no)])] (V.tup [(V.bool (hoB t f)),(iV (hoE t f))]):=by
 refine pW Tryz.func43 aRr fun hB=>?_
 unfold s43
 dsimp only
 refine W_r (cE (i:=2) (n:=0) (m:=3) (cs:=(rFq f)) rfl (cVq rfl) rfl rfl rfl (cE (i:=3) (n:=0) (m:=2) (cs:=[(aZ t.ni),(aZ t.no)]) rfl (cVq rfl) rfl rfl rfl (aA rfl (aA rfl (R_e (aD fun Q1 n1 x1 y1 z1=>(W_r ?_)))))))
 refine aJ rfl rfl rfl rfl (aI (eF f) rfl (bZ rfl rfl (aA rfl (R_e ?_))))
 refine cD rfl (fun c2=>?_) fun c2=>?_
 ·
  have h0:hoE t f=cX f:=if_pos c2
  have hb0:hoB t f=false:=by unfold hoB; rw [h0,decide_eq_false (by omega)]; rfl
  refine W_r (aJ rfl rfl rfl rfl (aI (eF f) rfl (aA rfl (aA rfl (R_e (aO (y1 _ _ ?_)))))))
  refine dC (rVq (V.bool false)) (rVq (iV (cX f))) (bA ?_) (aE ?_)
  · rw [hb0]
  · omega
 have h1:cX f=0:=by omega
 refine W_r (aM rfl rfl (aJ rfl rfl rfl rfl (bG rfl (fJ rfl rfl (aA rfl (R_e ?_))))))
 refine cD rfl (fun c3=>?_) fun c3=>?_
 ·
  have h0:hoE t f=3:=by unfold hoE; rw [if_neg (by omega),if_pos (by omega)]
  have hb0:hoB t f=false:=by unfold hoB; rw [h0]; rfl
  refine W_r (aA rfl (aA rfl (R_e (aO (y1 _ _ ?_)))))
  refine dC (rVq (V.bool false)) (rVq (iV 3)) (bA ?_) (aE ?_)
  · rw [hb0]
  · omega
 refine W_r (aM rfl rfl (aJ rfl rfl rfl rfl (bG rfl (aM rfl rfl (aJ rfl rfl rfl rfl (bG rfl (bZ rfl rfl ?_)))))))
 refine aA rfl (R_e ?_)
 refine cD rfl (fun c4=>?_) fun c4=>?_
 ·
  have h0:hoE t f=1:=by unfold hoE; rw [if_neg (by omega),if_neg (by omega),if_pos (by omega)]
  have hb0:hoB t f=false:=by unfold hoB; rw [h0]; rfl
  refine W_r (aA rfl (aA rfl (R_e (aO (y1 _ _ ?_)))))
  refine dC (rVq (V.bool false)) (rVq (iV 1)) (bA ?_) (aE ?_)
  · rw [hb0]
  · omega
 have h0:hoE t f=0:=by unfold hoE; rw [if_neg (by omega),if_neg (by omega),if_neg (by omega)]
 have hb0:hoB t f=nth (rst t f) 0:=by unfold hoB; rw [h0,wX (Nat.zero_le _)]; rfl
 have hrl:=sQ t f
 refine cM (n1 _ _ (.done (W_r (aJ rfl rfl rfl rfl (aJ rfl rfl rfl rfl (aI (aDw f t (fB h1) (gA h1) (by omega) (by omega)) rfl (cY (i:=0) (rVq (V.sl (List.map cB (rst t f)))) (rNq 0) (by omega) rfl ?_)))))))
 refine aG rfl rfl (aA rfl (aA rfl (R_e (aO ?_))))
 refine dC (rVq (V.bool (nth (rst t f) 0))) (rVq (iV 0)) (bA ?_) (aE ?_)
 · rw [hb0]
 · omega
theorem yK (f:Fm):aQ Tryz.prog 16 [(V.agg (rFq f))] (V.tup [(V.bool (hoB t0 f)),(iV (hoE t0 f))]):=by
 refine pW Tryz.func16 aQG fun hB=>?_
 unfold s16
 dsimp only
 refine W_r (cE (i:=1) (n:=0) (m:=3) (cs:=(rFq f)) rfl (cVq rfl) rfl rfl rfl (aA rfl (aA rfl (R_e (aB (W_r (aJ rfl rfl rfl rfl ?_)))))))
 refine aI (eF f) rfl (bZ rfl rfl (R_e ?_))
 refine aH rfl (fun c1=>?_) fun c1=>?_
 ·
  have h0:hoE t0 f=cX f:=if_pos c1
  have hb0:hoB t0 f=false:=by unfold hoB; rw [h0,decide_eq_false (by omega)]; rfl
  refine aB (W_r (aJ rfl rfl rfl rfl (aI (eF f) rfl (aA rfl (aA rfl (R_e (aL ?_)))))))
  refine dC (rVq (V.bool false)) (rVq (iV (cX f))) (bA ?_) (aE ?_)
  · rw [hb0]
  · omega
 refine aC (W_r (aJ rfl rfl rfl rfl (aW rfl rfl (kN (bL (rVq (V.agg (rFq f))) (bL (rVq (V.agg [V.nilsl,V.nilsl])) eB)) (aCk f (⟨([]),([])⟩:Tr)) (iK (fI 6 _ (by simp)) (iK (by rfl) rfl)) (by simp) (Or.inl (by simp)) (bH rfl rfl (bH rfl rfl (aA rfl ?_)))))))
 refine aA rfl (R_e (aO ?_))
 refine dC (rVq (V.bool (hoB (⟨([]),([])⟩:Tr) f))) (rVq (iV (hoE (⟨([]),([])⟩:Tr) f))) (bA ?_) (aE ?_)
 · rfl
 · rfl
def aSn:List SO:=[
 qM 14 0,
 qM 15 7,
 qA 16 5 14 15,
 qF 17 0 16,
 ql 18 17,
 qM 19 1,
 qP 20 .eql 18 19,
 qM 21 20,
 ⟨some (21,true),some 22,.mv (.t 0)⟩,
 ⟨some (21,true),some 23,.mv (.t 7)⟩,
 ⟨some (21,true),some 24,.idx 5 (.t 22) (.t 23)⟩,
 ⟨some (21,true),some 25,.fld 1 (.t 24)⟩,
 ⟨some (21,true),some 26,.load true 3 (.t 25)⟩,
 ⟨some (21,true),some 27,.load true 3 (.t 5)⟩,
 ⟨some (21,true),some 28,.call false 17 [.t 26,.t 27]⟩,
 sO 29 (.pick (.t 21) (.t 28) (.c (.bool false)))]
def aOp:SC:=.seq (.seq (.reg [qM 8 7,qM 9 0,qN 10 9,qP 11 .lss 8 10]) (.cond (.t 11) (.skip) (.exit 0))) (.seq (.block 1 (.seq (.reg aSn) (.cond (.t 29) (.seq (.reg [sO 6 (.mv (.c (.bool true)))]) (.ret)) (.skip)))) (.reg [qM 12 7,qC 13 .add 12 1,qM 7 13]))
def s76:SF:=⟨30,[.tmp 6],.seq (.reg [sO 5 (.box 24 3 (.t 2)),sO 6 (.mv (.c (.bool false)))]) (.seq (.seq (.reg [qI 7 0]) (.block 0 (.loop aOp))) (.seq (.reg [sO 6 (.mv (.c (.bool false)))]) (.ret)))⟩
theorem aPD:bJ Tryz.prog ⟨oEq,[],[],[]⟩ Tryz.f76=some s76:=by kernel_rfl
theorem aC0 (l:List Pl) (s:Int) (f:Fm):aQ Tryz.prog 76 [(V.sl (List.map cPl l)),(iV s),(V.agg (rFq f))] (V.bool (fM l s f)):=by
 refine pW Tryz.func76 aPD fun hB=>?_
 unfold s76
 dsimp only
 refine W_r (cE (i:=5) (n:=0) (m:=3) (cs:=(rFq f)) rfl (cVq rfl) rfl rfl rfl (aA rfl (R_e (aB (W_r (aA rfl (R_e ?_)))))))
 refine aD fun Q1 n1 x1 y1 z1=>?_
 refine bS (fun mm T H=> ∃ (k:Nat),mm=l.length - k∧T 0=(V.sl (List.map cPl l))∧T 1=(iV s)∧T 5=(mPq 5)∧T 7=(iV ((k:Nat):Int))∧H 5=(bFq f)∧(k≤l.length)∧(fM l s f=fM (l.drop k) s f)) ?_ ?_
 ·
  refine ⟨_,0,rfl,rfl,rfl,rfl,(eTq (rVq (iV 0)) rfl),rfl,?_,?_⟩
  · omega
  · rfl
 intro mm T H ⟨k,hmm,t0,t1,t5,t7,h5,hk,hc⟩ Q2 p12 p22 p32
 unfold aOp
 refine aB (W_r (aA t7 (aA t0 (bG rfl (bM rfl rfl (R_e ?_))))))
 refine aH rfl (fun c3=>?_) fun c3=>?_
 ·
  refine aC (aD fun Q4 n4 x4 y4 z4=>(W_r (aA t0 (aA t7 (cY (i:=k) (rVq (V.sl (List.map cPl l))) (rNq k) (by omega) rfl (jB (cs':=[(iV ((nth l k).s)),(iV ((nth l k).f.op)),(iV ((nth l k).f.arg)),(V.sl (List.map cF ((nth l k).f.kids))),(aZ ((nth l k).w))]) rfl rfl (aG rfl rfl ?_)))))))
  refine aA t1 (aY rfl rfl (aA rfl ?_))
  refine aV 8 (fun T H=>T 0=(V.sl (List.map cPl l))∧T 1=(iV s)∧T 5=(mPq 5)∧T 7=(iV ((k:Nat):Int))∧T 29=(V.bool (decide (((nth l k).s)=s)&&(eA ((nth l k).f) f)))∧H 5=(bFq f)∧True) ?_ ?_
  ·
   by_cases g5:((nth l k).s)=s
   ·
    refine aF (edT g5 rfl) (aA t0 (aF (edT g5 rfl) (aA t7 (aF (edT g5 rfl) (cY (i:=k) (rVq (V.sl (List.map cPl l))) (rNq k) (by omega) rfl (aF (edT g5 rfl) (jB (cs':=[(iV ((nth l k).f.op)),(iV ((nth l k).f.arg)),(V.sl (List.map cF ((nth l k).f.kids))),(aZ ((nth l k).w))]) rfl rfl ?_)))))))
    refine aF (edT g5 rfl) (aG rfl rfl (aF (edT g5 rfl) (aJ t5 h5 rfl rfl (aF (edT g5 rfl) (aI (yZ ((nth l k).f) f) rfl (aS (edT g5 rfl) rfl ?_))))))
    exact ⟨t0,t1,t5,t7,(tW g5),h5,trivial⟩
   ·
    refine G_n (edF g5 rfl) (G_n (edF g5 rfl) (G_n (edF g5 rfl) (G_n (edF g5 rfl) (G_n (edF g5 rfl) (G_n (edF g5 rfl) (G_n (edF g5 rfl) (aT (edF g5 rfl) rfl ?_)))))))
    exact ⟨t0,t1,t5,t7,(uP g5),h5,trivial⟩
  intro T H ⟨t0,t1,t5,t7,t29,h5,_⟩
  refine R_e ?_
  refine jW t29 (fun c6=>?_) (fun c6=>?_)
  ·
   have d1:=aLS c6 (by omega)
   refine W_r (aA rfl (R_e (aO (y4 _ _ (p22 _ _ (y1 _ _ ?_))))))
   refine bI (rVq (V.bool true)) (bA ?_)
   · rw [d1]
  have d1:=c6
  refine cM (n4 _ _ (.done (W_t (aA t7 (bB rfl (rNq 1) (by omega) (aA rfl (R_e ?_)))))))
  refine p12 _ _ _ ?_ ⟨(k+1),rfl,t0,t1,t5,(eTq (rNq (k+1)) (by rfl)),h5,?_,?_⟩
  · omega
  · omega
  · rw [hc,aKI d1 (by omega)]
 refine aN (p32 _ _ _ (x1 _ _ (.done (W_r (aA rfl (R_e (aO ?_)))))))
 refine bI (rVq (V.bool false)) (bA ?_)
 · rw [hc,aLq (by omega)]
def aSD:List SO:=[
 qM 11 3,
 qM 12 0,
 qM 13 4,
 qA 14 1 12 13,
 ql 15 14,
 sO 16 (.append 3 1 8 (.t 11) (.t 15)),
 qM 3 16]
def aOh:SC:=.seq (.seq (.reg [qM 5 4,qM 6 0,qN 7 6,qP 8 .lss 5 7]) (.cond (.t 8) (.skip) (.exit 0))) (.seq (.block 1 (.reg aSD)) (.reg [qM 9 4,qC 10 .add 9 1,qM 4 10]))
def s77:SF:=⟨18,[.tmp 2],.seq (.reg [sO 2 (.mv (.c (.nilsl)))]) (.seq (.reg [sO 3 (.lazy 3 1)]) (.seq (.seq (.reg [qI 4 0]) (.block 0 (.loop aOh))) (.seq (.reg [qM 17 3,qM 2 17]) (.ret))))⟩
theorem aRe:bJ Tryz.prog ⟨oEq,[3],[],[]⟩ Tryz.f77=some s77:=by kernel_rfl
end Go.Proofs.YteehaobohaecmaaGreatDoor
