/- Contracts of the functions that the law VC reaches, and the law itself, for every input; no condition. -/
import Derived.KernelRfl
import Derived.Test.YteehaobohaecmaaGreatDoorProg
import Derived.Test.YteehaobohaecmaaGreatDoorVC3
set_option linter.unusedSimpArgs false
set_option linter.unusedVariables false
namespace Go.Proofs.YteehaobohaecmaaGreatDoor
open Go Go.Proofs
set_option maxHeartbeats 2000000 in
theorem xS (f:Fm) (hok:okF f=true) (hz:f.sz≤268435456) (ih: ∀ (g:Fm),g.sz < f.sz→okF g=true→g.sz≤268435456→aQ Tryz.prog 92 [(V.agg (rFq g))] (V.tup [(V.sl (List.map cCl (rsV g))),(V.bool (clB g))])):aQ Tryz.prog 92 [(V.agg (rFq f))] (V.tup [(V.sl (List.map cCl (rsV f))),(V.bool (clB f))]):=by
 refine pW Tryz.func92 aQU fun hB=>?_
 unfold s92
 dsimp only
 have hp:=bN hok
 have hr:=dE hp.1
 have hln:=f.sz_len
 have hsz:=Fm.sz_eq f
 refine W_r (cA (i:=1) (n:=0) (m:=3) (cs:=(rFq f)) rfl (cVq rfl) rfl rfl rfl (aA rfl (aA rfl (R_e (aB (W_r (aL rfl rfl ?_)))))))
 refine aJ rfl rfl rfl rfl (R_e (aD fun Q1 n1 x1 y1 z1=>(W_r (aX rfl rfl (aA rfl (R_e ?_))))))
 refine bZ rfl (fun c2=>?_) fun c2=>?_
 ·
  refine W_r (aR rfl rfl (aA rfl (aA rfl (R_e (aO (y1 _ _ ?_))))))
  refine dC (rVq (V.sl [[V.nilsl]])) (rVq (V.bool true)) ?_ (aZ ?_)
  · rw [(kA (f:=f) (by omega) (qR (by omega))).1]; simp [fzv,cCl]
  · rw [(kA (f:=f) (by omega) (qR (by omega))).2]
 refine W_r (aX rfl rfl (aA rfl (R_e ?_)))
 refine bZ rfl (fun c3=>?_) fun c3=>?_
 ·
  refine aB (W_r (aL rfl rfl (aJ rfl rfl rfl rfl (bT (i:=0) (rVq (V.sl (List.map cF f.kids))) (rNq 0) (by omega) (bP _) rfl (iW (cs':=(rFq (nth f.kids 0))) rfl rfl (aG rfl rfl (aX rfl rfl ?_)))))))
  refine R_e ?_
  refine aH rfl (fun c4=>?_) fun c4=>?_
  ·
   refine aB (W_r (aA rfl (aA rfl (R_e (aM (y1 _ _ ?_))))))
   refine dC (rVq V.nilsl) (rVq (V.bool true)) (bU ?_) (aZ ?_)
   · rw [(kA (f:=f) (by omega) (qB (by omega) (by omega))).1]
   · rw [(kA (f:=f) (by omega) (qB (by omega) (by omega))).2]
  refine aC (W_r (aJ rfl rfl rfl rfl (aR rfl rfl (aR rfl rfl (aA rfl (aA rfl (R_e ?_)))))))
  refine aO (y1 _ _ ?_)
  refine dC (rVq (V.sl [[(V.sl [(rFq f)])]])) (rVq (V.bool true)) (cH (by simp) ?_) (aZ ?_)
  · rw [(kA (f:=f) (by omega) (mO (by omega) (by omega))).1]; simp [cCl,bP]
  · rw [(kA (f:=f) (by omega) (mO (by omega) (by omega))).2]
 refine aB (W_r (aX rfl rfl (aA rfl (R_e ?_))))
 refine aH rfl (fun c5=>?_) fun c5=>?_
 ·
  refine aC ?_
  refine bZ rfl (fun c6=>?_) fun c6=>?_
  ·
   refine W_r (aA rfl (R_e (aB ?_)))
   refine dN (fun T H=>T 1=(mPq 1)∧T 4=V.nilsl∧T 5=(iV 0)∧H 1=(bFq f)∧H 9=bZq∧H 11=bZq∧H 709=bZq∧True) ?_ ?_
   ·
    refine aA rfl ?_
    exact dZ ⟨rfl,rfl,rfl,rfl,rfl,rfl,rfl,trivial⟩
   intro T H ⟨t1,t4,t5,h1,h9,h11,h709,_⟩
   refine aA0 t4 (cP (R:=fun T H=>T 1=(mPq 1)∧T 4=(V.sl [])∧T 5=(iV 0)∧H 1=(bFq f)∧H 9=bZq∧H 11=bZq∧H 709=bZq∧True) ⟨(uTq t1),(aK _ _ _),(uTq t5),h1,h9,h11,h709,trivial⟩ ?_)
   intro T H ⟨t1,t4,t5,h1,h9,h11,h709,_⟩
   refine aD fun Q7 n7 x7 y7 z7=>?_
   refine bS (fun mm T H=> ∃ (k:Nat) (out:List Cl),mm=f.kids.length - k∧T 1=(mPq 1)∧T 4=(V.sl (List.map cCl out))∧T 5=(iV ((k:Nat):Int))∧H 1=(bFq f)∧H 9=bZq∧H 11=bZq∧H 709=bZq∧(k≤f.kids.length)∧(out.length≤4096*(k+1))∧(f.op=5→0 < k→GdS out∧fR (Fm.szs (f.kids.take k)) out∧cjL f.kids [[]]=cjL (f.kids.drop k) out)∧(f.op=6→djO f.kids []=djO (f.kids.drop k) out)) ?_ ?_
   ·
    refine ⟨_,0,[],rfl,t1,(eTq t4 (by rfl)),(eTq t5 rfl),h1,h9,h11,h709,?_,?_,?_,?_⟩
    · omega
    · exact Nat.zero_le _
    · intro _ q; omega
    · intro _; rfl
   intro mm T H ⟨k,out,hmm,t1,t4,t5,h1,h9,h11,h709,hk,hn,h5,h6⟩ Q8 p18 p28 p38
   unfold aKD
   refine aB (W_r (aA t5 (aL t1 h1 (aJ rfl h1 rfl rfl (bF rfl (bO rfl rfl (R_e ?_)))))))
   refine aH rfl (fun c9=>?_) fun c9=>?_
   ·
    refine aC (aD fun Q10 n10 x10 y10 z10=>(W_r (aL t1 h1 (aJ rfl h1 rfl rfl (aA t5 (bT (i:=k) (rVq (V.sl (List.map cF f.kids))) (rNq k) (by omega) (bP _) rfl (aG rfl rfl ?_)))))))
    refine aI (ih (nth f.kids k) skq (hp.2 _ (by omega)) (szq hz)) rfl (aA rfl (bK rfl rfl (bK rfl rfl (aA rfl (aA rfl (R_e (aB ?_)))))))
    refine W_r (aA rfl (eL rfl (R_e ?_)))
    refine bX rfl (fun c11=>?_) (fun c11=>?_)
    ·
     have d0:clB (nth f.kids k)=false:=by simpa using c11
     have d9:=aIi (by omega) (by omega) h5 h6 d0
     refine aB (W_r (aA rfl (aA rfl (R_e (aM (y10 _ _ (p28 _ _ ?_)))))))
     refine y7 _ _ (y1 _ _ ?_)
     refine dC (rVq V.nilsl) (rVq (V.bool false)) (bU ?_) (aZ ?_)
     · rw [d9.1]
     · rw [d9.2]
    have d0:clB (nth f.kids k)=true:=by simpa using c11
    have g1:=yU hok (show k < f.kids.length by omega) d0
    refine aC (aB (W_r (aA t5 (aX rfl rfl (R_e ?_)))))
    refine aH rfl (fun c12=>?_) fun c12=>?_
    ·
     have n5:f.op=5→Rs5 f k (rsV (nth f.kids k)):=fun _=>aAH hok (by omega) (by omega) d0
     have n6:f.op=6→djO f.kids []=djO (f.kids.drop (k+1)) (rsV (nth f.kids k)):=fun _=>aAF hok (by omega) (by omega) d0
     have nl:(rsV (nth f.kids k)).length≤4096*(k+1+1):=by have:=g1.2.1.len; omega
     refine W_r (aA rfl (aA rfl (R_e (W_r (aL t1 h1 (aJ rfl h1 rfl rfl (aX rfl rfl ?_)))))))
     refine aA rfl ?_
     refine aT 4 (fun T H=>T 1=(mPq 1)∧T 4=(V.sl (List.map cCl (rsV (nth f.kids k))))∧T 5=(iV ((k:Nat):Int))∧T 78=(V.bool (decide ((f.op=(5:Int))∧((64:Int) < (((rsV (nth f.kids k)).length:Nat):Int)))))∧H 1=(bFq f)∧H 9=bZq∧H 11=bZq∧H 709=bZq∧True) ?_ ?_
     ·
      by_cases g13:f.op=(5:Int)
      ·
       refine aE (edT g13 rfl) (aA rfl (aE (edT g13 rfl) (bF rfl (aE (edT g13 rfl) (fI rfl rfl (aS (edT g13 rfl) rfl ?_))))))
       exact ⟨t1,rfl,t5,(dH g13),h1,h9,h11,h709,trivial⟩
      ·
       refine G_n (edF g13 rfl) (G_n (edF g13 rfl) (G_n (edF g13 rfl) (aU (edF g13 rfl) rfl ?_)))
       exact ⟨t1,rfl,t5,(dG g13),h1,h9,h11,h709,trivial⟩
     intro T H ⟨t1,t4,t5,t78,h1,h9,h11,h709,_⟩
     refine R_e ?_
     refine bZ t78 (fun c14=>?_) fun c14=>?_
     ·
      have d9:=nB (f:=f) (rX (by omega) (n5 (by omega)) (by omega)) (fun q=>absurd q (by omega))
      refine W_r (aA rfl (aA rfl (R_e (aO (y10 _ _ (p28 _ _ (y7 _ _ ?_)))))))
      refine y1 _ _ ?_
      refine dC (rVq V.nilsl) (rVq (V.bool false)) (bU ?_) (aZ ?_)
      · rw [d9.1]
      · rw [d9.2]
     have d78:=c14
     refine cN (n10 _ _ (.done (W_t (aA t5 (bC rfl (rNq 1) (by omega) (aA rfl (R_e ?_)))))))
     refine p18 _ _ _ ?_ ⟨(k+1),(rsV (nth f.kids k)),rfl,t1,(eTq t4 (by rfl)),(eTq (rNq (k+1)) (by rfl)),h1,h9,h11,h709,?_,?_,?_,?_⟩
     · omega
     · omega
     · exact nl
     · intro q1 _; exact sD (n5 q1) (fun e=>d78 ⟨q1,by omega⟩)
     · exact n6
    refine aB (W_r (aL t1 h1 (aJ rfl h1 rfl rfl (aX rfl rfl (R_e ?_)))))
    refine aH rfl (fun c15=>?_) fun c15=>?_
    ·
     have h5x:=h5 (by omega) (by omega)
     have n5:f.op=5→Rs5 f k (prd out (rsV (nth f.kids k))):=fun _=>aJu hok (by omega) h5x.1 h5x.2.1 h5x.2.2 d0
     have n6:f.op=6→djO f.kids []=djO (f.kids.drop (k+1)) (prd out (rsV (nth f.kids k))):=fun q=>absurd q (by omega)
     have nl:(prd out (rsV (nth f.kids k))).length≤4096*(k+1+1):=by have q:=aGL h5x.1.len g1.2.1.len; omega
     refine W_r (aA t4 (aA rfl (aI (aDJ out (rsV (nth f.kids k)) (fun q hq=>h5x.1.ant.at_ hq) (fun q hq=>Nat.le_trans (h5x.2.1.at_ hq) (by have:=oD f.kids k; omega)) (fun q hq=>Nat.le_trans (g1.2.2.at_ hq) (by have:=Fm.szs_nth (l:=f.kids) (k:=k) (by omega); omega)) h5x.1.len (Nat.le_trans g1.2.1.len (by decide))) rfl (aA rfl (R_e (W_r (aL t1 h1 ?_)))))))
     refine aJ rfl h1 rfl rfl (aX rfl rfl (aA rfl ?_))
     refine aT 4 (fun T H=>T 1=(mPq 1)∧T 4=(V.sl (List.map cCl (prd out (rsV (nth f.kids k)))))∧T 5=(iV ((k:Nat):Int))∧T 78=(V.bool (decide ((f.op=(5:Int))∧((64:Int) < (((prd out (rsV (nth f.kids k))).length:Nat):Int)))))∧H 1=(bFq f)∧H 9=bZq∧H 11=bZq∧H 709=bZq∧True) ?_ ?_
     ·
      by_cases g16:f.op=(5:Int)
      ·
       refine aE (edT g16 rfl) (aA rfl (aE (edT g16 rfl) (bF rfl (aE (edT g16 rfl) (fI rfl rfl (aS (edT g16 rfl) rfl ?_))))))
       exact ⟨t1,rfl,t5,(dH g16),h1,h9,h11,h709,trivial⟩
      ·
       refine G_n (edF g16 rfl) (G_n (edF g16 rfl) (G_n (edF g16 rfl) (aU (edF g16 rfl) rfl ?_)))
       exact ⟨t1,rfl,t5,(dG g16),h1,h9,h11,h709,trivial⟩
     intro T H ⟨t1,t4,t5,t78,h1,h9,h11,h709,_⟩
     refine R_e ?_
     refine bZ t78 (fun c17=>?_) fun c17=>?_
     ·
      have d9:=nB (f:=f) (rX (by omega) (n5 (by omega)) (by omega)) (fun q=>absurd q (by omega))
      refine W_r (aA rfl (aA rfl (R_e (aO (y10 _ _ (p28 _ _ (y7 _ _ ?_)))))))
      refine y1 _ _ ?_
      refine dC (rVq V.nilsl) (rVq (V.bool false)) (bU ?_) (aZ ?_)
      · rw [d9.1]
      · rw [d9.2]
     have d78:=c17
     refine cN (n10 _ _ (.done (W_t (aA t5 (bC rfl (rNq 1) (by omega) (aA rfl (R_e ?_)))))))
     refine p18 _ _ _ ?_ ⟨(k+1),(prd out (rsV (nth f.kids k))),rfl,t1,(eTq t4 (by rfl)),(eTq (rNq (k+1)) (by rfl)),h1,h9,h11,h709,?_,?_,?_,?_⟩
     · omega
     · omega
     · exact nl
     · intro q1 _; exact sD (n5 q1) (fun e=>d78 ⟨q1,by omega⟩)
     · exact n6
    · exact (c15 c6).elim
   have d8:rsV f=out∧clB f=decide (out.length≤64):=aJx hr (by omega) h5 h6 (by omega)
   refine aN (p38 _ _ _ (x7 _ _ (.done (W_r (aA t4 (aA t4 (bF rfl ?_)))))))
   refine qG rfl rfl (aA rfl (aA rfl (R_e (aO (y1 _ _ ?_)))))
   refine dC (rVq (V.sl (List.map cCl out))) (rVq (V.bool (decide (((out.length:Nat):Int)≤(64:Int))))) (dA ?_ (fun _=>by simp)) (aZ ?_)
   · rw [d8.1]
   · rw [d8.2]; exact decide_eq_decide.2 (by omega)
  · exact (c6 c5).elim
 refine W_r (aX rfl rfl (aA rfl (R_e ?_)))
 refine bZ rfl (fun c18=>?_) fun c18=>?_
 ·
  refine W_r (aA rfl (R_e (aB ?_)))
  refine dN (fun T H=>T 1=(mPq 1)∧T 4=V.nilsl∧T 5=(iV 0)∧H 1=(bFq f)∧H 9=bZq∧H 11=bZq∧H 709=bZq∧True) ?_ ?_
  ·
   refine aA rfl ?_
   exact dZ ⟨rfl,rfl,rfl,rfl,rfl,rfl,rfl,trivial⟩
  intro T H ⟨t1,t4,t5,h1,h9,h11,h709,_⟩
  refine aA0 t4 (cP (R:=fun T H=>T 1=(mPq 1)∧T 4=(V.sl [])∧T 5=(iV 0)∧H 1=(bFq f)∧H 9=bZq∧H 11=bZq∧H 709=bZq∧True) ⟨(uTq t1),(aK _ _ _),(uTq t5),h1,h9,h11,h709,trivial⟩ ?_)
  intro T H ⟨t1,t4,t5,h1,h9,h11,h709,_⟩
  refine aD fun Q19 n19 x19 y19 z19=>?_
  refine bS (fun mm T H=> ∃ (k:Nat) (out:List Cl),mm=f.kids.length - k∧T 1=(mPq 1)∧T 4=(V.sl (List.map cCl out))∧T 5=(iV ((k:Nat):Int))∧H 1=(bFq f)∧H 9=bZq∧H 11=bZq∧H 709=bZq∧(k≤f.kids.length)∧(out.length≤4096*(k+1))∧(f.op=5→0 < k→GdS out∧fR (Fm.szs (f.kids.take k)) out∧cjL f.kids [[]]=cjL (f.kids.drop k) out)∧(f.op=6→djO f.kids []=djO (f.kids.drop k) out)) ?_ ?_
  ·
   refine ⟨_,0,[],rfl,t1,(eTq t4 (by rfl)),(eTq t5 rfl),h1,h9,h11,h709,?_,?_,?_,?_⟩
   · omega
   · exact Nat.zero_le _
   · intro _ q; omega
   · intro _; rfl
  intro mm T H ⟨k,out,hmm,t1,t4,t5,h1,h9,h11,h709,hk,hn,h5,h6⟩ Q20 p120 p220 p320
  unfold aKD
  refine aB (W_r (aA t5 (aL t1 h1 (aJ rfl h1 rfl rfl (bF rfl (bO rfl rfl (R_e ?_)))))))
  refine aH rfl (fun c21=>?_) fun c21=>?_
  ·
   refine aC (aD fun Q22 n22 x22 y22 z22=>(W_r (aL t1 h1 (aJ rfl h1 rfl rfl (aA t5 (bT (i:=k) (rVq (V.sl (List.map cF f.kids))) (rNq k) (by omega) (bP _) rfl (aG rfl rfl ?_)))))))
   refine aI (ih (nth f.kids k) skq (hp.2 _ (by omega)) (szq hz)) rfl (aA rfl (bK rfl rfl (bK rfl rfl (aA rfl (aA rfl (R_e (aB ?_)))))))
   refine W_r (aA rfl (eL rfl (R_e ?_)))
   refine bX rfl (fun c23=>?_) (fun c23=>?_)
   ·
    have d0:clB (nth f.kids k)=false:=by simpa using c23
    have d9:=aIi (by omega) (by omega) h5 h6 d0
    refine aB (W_r (aA rfl (aA rfl (R_e (aM (y22 _ _ (p220 _ _ ?_)))))))
    refine y19 _ _ (y1 _ _ ?_)
    refine dC (rVq V.nilsl) (rVq (V.bool false)) (bU ?_) (aZ ?_)
    · rw [d9.1]
    · rw [d9.2]
   have d0:clB (nth f.kids k)=true:=by simpa using c23
   have g1:=yU hok (show k < f.kids.length by omega) d0
   refine aC (aB (W_r (aA t5 (aX rfl rfl (R_e ?_)))))
   refine aH rfl (fun c24=>?_) fun c24=>?_
   ·
    have n5:f.op=5→Rs5 f k (rsV (nth f.kids k)):=fun _=>aAH hok (by omega) (by omega) d0
    have n6:f.op=6→djO f.kids []=djO (f.kids.drop (k+1)) (rsV (nth f.kids k)):=fun _=>aAF hok (by omega) (by omega) d0
    have nl:(rsV (nth f.kids k)).length≤4096*(k+1+1):=by have:=g1.2.1.len; omega
    refine W_r (aA rfl (aA rfl (R_e (W_r (aL t1 h1 (aJ rfl h1 rfl rfl (aX rfl rfl ?_)))))))
    refine aA rfl ?_
    refine aT 4 (fun T H=>T 1=(mPq 1)∧T 4=(V.sl (List.map cCl (rsV (nth f.kids k))))∧T 5=(iV ((k:Nat):Int))∧T 78=(V.bool (decide ((f.op=(5:Int))∧((64:Int) < (((rsV (nth f.kids k)).length:Nat):Int)))))∧H 1=(bFq f)∧H 9=bZq∧H 11=bZq∧H 709=bZq∧True) ?_ ?_
    ·
     by_cases g25:f.op=(5:Int)
     ·
      refine aE (edT g25 rfl) (aA rfl (aE (edT g25 rfl) (bF rfl (aE (edT g25 rfl) (fI rfl rfl (aS (edT g25 rfl) rfl ?_))))))
      exact ⟨t1,rfl,t5,(dH g25),h1,h9,h11,h709,trivial⟩
     ·
      refine G_n (edF g25 rfl) (G_n (edF g25 rfl) (G_n (edF g25 rfl) (aU (edF g25 rfl) rfl ?_)))
      exact ⟨t1,rfl,t5,(dG g25),h1,h9,h11,h709,trivial⟩
    intro T H ⟨t1,t4,t5,t78,h1,h9,h11,h709,_⟩
    refine R_e ?_
    refine bZ t78 (fun c26=>?_) fun c26=>?_
    ·
     have d9:=nB (f:=f) (rX (by omega) (n5 (by omega)) (by omega)) (fun q=>absurd q (by omega))
     refine W_r (aA rfl (aA rfl (R_e (aO (y22 _ _ (p220 _ _ (y19 _ _ ?_)))))))
     refine y1 _ _ ?_
     refine dC (rVq V.nilsl) (rVq (V.bool false)) (bU ?_) (aZ ?_)
     · rw [d9.1]
     · rw [d9.2]
    have d78:=c26
    refine cN (n22 _ _ (.done (W_t (aA t5 (bC rfl (rNq 1) (by omega) (aA rfl (R_e ?_)))))))
    refine p120 _ _ _ ?_ ⟨(k+1),(rsV (nth f.kids k)),rfl,t1,(eTq t4 (by rfl)),(eTq (rNq (k+1)) (by rfl)),h1,h9,h11,h709,?_,?_,?_,?_⟩
    · omega
    · omega
    · exact nl
    · intro q1 _; exact sD (n5 q1) (fun e=>d78 ⟨q1,by omega⟩)
    · exact n6
   refine aB (W_r (aL t1 h1 (aJ rfl h1 rfl rfl (aX rfl rfl (R_e ?_)))))
   refine aH rfl (fun c27=>?_) fun c27=>?_
   · exact (c5 c27).elim
   refine aB (W_r (aA rfl (R_e (aD fun Q28 n28 x28 y28 z28=>?_))))
   refine bS (fun mm T H=> ∃ (j:Nat),mm=(rsV (nth f.kids k)).length - j∧T 1=(mPq 1)∧T 4=(V.sl (List.map cCl (wths out ((rsV (nth f.kids k)).take j))))∧T 5=(iV ((k:Nat):Int))∧T 6=(V.sl (List.map cCl (rsV (nth f.kids k))))∧T 8=(iV ((j:Nat):Int))∧H 1=(bFq f)∧H 9=bZq∧H 11=bZq∧H 709=bZq∧(j≤(rsV (nth f.kids k)).length)) ?_ ?_
   ·
    refine ⟨_,0,rfl,t1,(eTq t4 (by rfl)),t5,rfl,(eTq (rVq (iV 0)) rfl),h1,h9,h11,h709,?_⟩
    · omega
   intro mm T H ⟨j,hmm,t1,t4,t5,t6,t8,h1,h9,h11,h709,hj⟩ Q29 p129 p229 p329
   unfold aOa
   have hW:=uV out (rsV (nth f.kids k)) j
   have hG:=g1.2.1.len
   refine aB (W_r (aA t8 (aA t6 (bF rfl (bO rfl rfl (R_e ?_))))))
   refine aH rfl (fun c30=>?_) fun c30=>?_
   ·
    refine aC (aD fun Q31 n31 x31 y31 z31=>(W_t (aA t4 (aA t6 (aA t8 (dB (i:=j) (rVq (V.sl (List.map cCl (rsV (nth f.kids k))))) (rNq j) (by omega) rfl (aG rfl rfl ?_)))))))
    refine aI (aAs (wths out ((rsV (nth f.kids k)).take j)) (nth (rsV (nth f.kids k)) j) (by omega)) rfl (aA rfl (R_e (n31 _ _ (.done (W_t (aA t8 (bC rfl (rNq 1) (by omega) ?_)))))))
    refine aA rfl (R_e ?_)
    refine p129 _ _ _ ?_ ⟨(j+1),rfl,t1,(eTq (rVq (V.sl (List.map cCl (wth (wths out ((rsV (nth f.kids k)).take j)) (nth (rsV (nth f.kids k)) j))))) (by (rw [aAU (by omega)]; done))),t5,t6,(eTq (rNq (j+1)) (by rfl)),h1,h9,h11,h709,?_⟩
    · omega
    · omega
   have hj2:(rsV (nth f.kids k)).take j=(rsV (nth f.kids k)):=by rw [show j=(rsV (nth f.kids k)).length by omega,List.take_length]
   have n5:f.op=5→Rs5 f k (wths out ((rsV (nth f.kids k)).take j)):=fun q=>absurd q (by omega)
   have n6:f.op=6→djO f.kids []=djO (f.kids.drop (k+1)) (wths out ((rsV (nth f.kids k)).take j)):=fun q=>by rw [hj2]; exact aH2 (by omega) (h6 q) d0
   have nl:(wths out ((rsV (nth f.kids k)).take j)).length≤4096*(k+1+1):=by omega
   refine aN (p329 _ _ _ (x28 _ _ (.done (W_r (aL t1 h1 (aJ rfl h1 rfl rfl (aX rfl rfl ?_)))))))
   refine aA rfl ?_
   refine aT 4 (fun T H=>T 1=(mPq 1)∧T 4=(V.sl (List.map cCl (wths out ((rsV (nth f.kids k)).take j))))∧T 5=(iV ((k:Nat):Int))∧T 78=(V.bool (decide ((f.op=(5:Int))∧((64:Int) < (((wths out ((rsV (nth f.kids k)).take j)).length:Nat):Int)))))∧H 1=(bFq f)∧H 9=bZq∧H 11=bZq∧H 709=bZq∧True) ?_ ?_
   ·
    by_cases g32:f.op=(5:Int)
    ·
     refine aE (edT g32 rfl) (aA t4 (aE (edT g32 rfl) (bF rfl (aE (edT g32 rfl) (fI rfl rfl (aS (edT g32 rfl) rfl ?_))))))
     exact ⟨t1,t4,t5,(dH g32),h1,h9,h11,h709,trivial⟩
    ·
     refine G_n (edF g32 rfl) (G_n (edF g32 rfl) (G_n (edF g32 rfl) (aU (edF g32 rfl) rfl ?_)))
     exact ⟨t1,t4,t5,(dG g32),h1,h9,h11,h709,trivial⟩
   intro T H ⟨t1,t4,t5,t78,h1,h9,h11,h709,_⟩
   refine R_e ?_
   refine bZ t78 (fun c33=>?_) fun c33=>?_
   ·
    have d9:=nB (f:=f) (rX (by omega) (n5 (by omega)) (by omega)) (fun q=>absurd q (by omega))
    refine W_r (aA rfl (aA rfl (R_e (aO (y22 _ _ (p220 _ _ (y19 _ _ ?_)))))))
    refine y1 _ _ ?_
    refine dC (rVq V.nilsl) (rVq (V.bool false)) (bU ?_) (aZ ?_)
    · rw [d9.1]
    · rw [d9.2]
   have d78:=c33
   refine cN (n22 _ _ (.done (W_t (aA t5 (bC rfl (rNq 1) (by omega) (aA rfl (R_e ?_)))))))
   refine p120 _ _ _ ?_ ⟨(k+1),(wths out ((rsV (nth f.kids k)).take j)),rfl,t1,(eTq t4 (by rfl)),(eTq (rNq (k+1)) (by rfl)),h1,h9,h11,h709,?_,?_,?_,?_⟩
   · omega
   · omega
   · exact nl
   · intro q1 _; exact sD (n5 q1) (fun e=>d78 ⟨q1,by omega⟩)
   · exact n6
  have d8:rsV f=out∧clB f=decide (out.length≤64):=aJx hr (by omega) h5 h6 (by omega)
  refine aN (p320 _ _ _ (x19 _ _ (.done (W_r (aA t4 (aA t4 (bF rfl ?_)))))))
  refine qG rfl rfl (aA rfl (aA rfl (R_e (aO (y1 _ _ ?_)))))
  refine dC (rVq (V.sl (List.map cCl out))) (rVq (V.bool (decide (((out.length:Nat):Int)≤(64:Int))))) (dA ?_ (fun _=>by simp)) (aZ ?_)
  · rw [d8.1]
  · rw [d8.2]; exact decide_eq_decide.2 (by omega)
 refine cN (n1 _ _ (.done (W_r (aL rfl rfl (aJ rfl rfl rfl rfl (aL rfl rfl (aJ rfl rfl rfl rfl ?_)))))))
 refine aW rfl rfl (aV (i:=9) (n:=0) (m:=3) rfl (cVq rfl) rfl (bE rfl rfl rfl rfl rfl rfl rfl rfl rfl (R_e (aB ?_))))
 refine dN (fun T H=>T 1=(mPq 1)∧T 9=(mPq 9)∧T 10=(iV 0)∧H 1=(bFq f)∧H 9=(bk 1 24 3 [[(iV f.op),(iV f.arg),V.nilsl]])∧H 11=bZq∧H 709=bZq∧True) ?_ ?_
 ·
  refine aA rfl ?_
  exact dZ ⟨rfl,rfl,rfl,rfl,rfl,rfl,rfl,trivial⟩
 intro T H ⟨t1,t9,t10,h1,h9,h11,h709,_⟩
 refine .lazyCell 709 24 3 9 0 2 [(iV f.op),(iV f.arg),V.nilsl] (by decide) (by rw [h9]; rfl) (by rw [h9]; rfl) rfl (.done ?_)
 refine cP (R:=fun T H=>T 1=(mPq 1)∧T 9=(mPq 9)∧T 10=(iV 0)∧H 1=(bFq f)∧H 9=(bk 1 24 3 [[(iV f.op),(iV f.arg),(V.ms 709 1 0 0)]])∧H 11=bZq∧H 709=(bz 1 24 3 [])∧True) ⟨t1,t9,t10,(uTq (uTq h1)),(by rw [aK,h9,(cVq h709)]; rfl),(uTq (uTq h11)),(by rw [bA _ _ (by decide),aK,(cVq h709)]),trivial⟩ ?_
 intro T H ⟨t1,t9,t10,h1,h9,h11,h709,_⟩
 refine aD fun Q34 n34 x34 y34 z34=>?_
 refine bS (fun mm T H=> ∃ (k:Nat) (w:Nat) (g:List Fm) (v11:Nat),mm=f.kids.length - k∧T 1=(mPq 1)∧T 9=(mPq 9)∧T 10=(iV ((k:Nat):Int))∧H 1=(bFq f)∧H 9=(bk 1 24 3 [[(iV f.op),(iV f.arg),(V.ms 709 w 0 k)]])∧((H 11).ver=v11∧(H 11).live=false)∧H 709=(bz w 24 3 (List.map cF g))∧(k≤f.kids.length)∧(g.length=k)∧(fD f.kids=(fD (f.kids.drop k)).map fun r=>g++r)) ?_ ?_
 ·
  refine ⟨_,0,1,[],0,rfl,t1,t9,(eTq t10 rfl),h1,h9,⟨(cVq h11),congrArg Blk.live h11⟩,(eTq h709 (by rfl)),?_,?_,?_⟩
  · omega
  · rfl
  · simp
 intro mm T H ⟨k,w,g,v11,hmm,t1,t9,t10,h1,h9,h11,h709,hk,hg,hc⟩ Q35 p135 p235 p335
 unfold aNw
 refine aB (W_r (aA t10 (aL t1 h1 (aJ rfl h1 rfl rfl (bF rfl (bO rfl rfl (R_e ?_)))))))
 refine aH rfl (fun c36=>?_) fun c36=>?_
 ·
  refine aC (aD fun Q37 n37 x37 y37 z37=>(W_r (aL t1 h1 (aJ rfl h1 rfl rfl (aA t10 (bT (i:=k) (rVq (V.sl (List.map cF f.kids))) (rNq k) (by omega) (bP _) rfl (aG rfl rfl ?_)))))))
  refine aI (aAA (nth f.kids k) (hp.2 k (by omega)) (szq hz) ((fun k h=>ih (nth f.kids k) (Fm.sz_kid h) (hp.2 k h) (Nat.le_trans (Nat.le_of_lt (Fm.sz_kid h)) hz)) k (by omega))) rfl (aA rfl (bK rfl rfl (bK rfl rfl (aV (i:=11) (n:=v11) (m:=3) rfl h11.1 rfl (bE rfl rfl rfl rfl rfl rfl rfl rfl rfl (aA rfl (R_e ?_)))))))
  refine aB (W_r (aA rfl (eL rfl (R_e ?_))))
  refine bX rfl (fun c38=>?_) (fun c38=>?_)
  ·
   have d9:=nB (f:=f) (aFm (by omega) hc (by omega) (aEo (by simpa using c38))) (fun q=>absurd q (by omega))
   refine aB (W_r (aA rfl (aA rfl (R_e (aM (y37 _ _ (p235 _ _ ?_)))))))
   refine y34 _ _ ?_
   refine dC (rVq V.nilsl) (rVq (V.bool false)) (bU ?_) (aZ ?_)
   · rw [d9.1]
   · rw [d9.2]
  have d1:=aFy hc (by omega) (aFr (by simpa using c38))
  refine aC (W_t (aL t9 h9 (aJ rfl h9 rfl rfl (aJ rfl rfl rfl rfl (aR rfl rfl (cC (l:=g) (f:=cF) (x:=(gW (can (nth f.kids k)))) (rVq (V.ms 709 w 0 k)) h709 (by exact hg.symm) (fV (x:=(gW (can (nth f.kids k)))) (rVq (V.sl [(rFq (gW (can (nth f.kids k))))]))) (eU _) (fC _) (by omega) (by omega) (aL t9 h9 ?_)))))))
  refine bE rfl rfl rfl h9 rfl rfl rfl rfl rfl (R_e (n37 _ _ (cP (R:=fun T H=>T 1=(mPq 1)∧T 9=(mPq 9)∧T 10=(iV ((k:Nat):Int))∧H 1=(bFq f)∧H 9=(bk 1 24 3 [[(iV f.op),(iV f.arg),(V.ms 709 (w+1) 0 (k+1))]])∧H 11=(bk (v11+1) 24 3 [(rFq (gW (can (nth f.kids k))))])∧H 709=(bz (w+1) 24 3 (List.map cF (g++[(gW (can (nth f.kids k)))])))∧True) ⟨t1,t9,t10,h1,rfl,rfl,rfl,trivial⟩ ?_)))
  intro T H ⟨t1,t9,t10,h1,h9,h11,h709,_⟩
  refine .freeze 11 (.done ?_)
  refine cP (R:=fun T H=>T 1=(mPq 1)∧T 9=(mPq 9)∧T 10=(iV ((k:Nat):Int))∧H 1=(bFq f)∧H 9=(bk 1 24 3 [[(iV f.op),(iV f.arg),(V.ms 709 (w+1) 0 (k+1))]])∧((H 11).ver=v11+1∧(H 11).live=false)∧H 709=(bz (w+1) 24 3 (List.map cF (g++[(gW (can (nth f.kids k)))])))∧True) ⟨(cO t1 rfl),(cO t9 rfl),(cO t10 rfl),(bV h1 (by decide)),(bV h9 (by decide)),(eS (cVq h11)),(bV h709 (by decide)),trivial⟩ ?_
  intro T H ⟨t1,t9,t10,h1,h9,h11,h709,_⟩
  refine W_t (aA t10 (bC rfl (rNq 1) (by omega) (aA rfl (R_e ?_))))
  refine p135 _ _ _ ?_ ⟨(k+1),(w+1),(g++[gW (can (nth f.kids k))]),(v11+1),rfl,t1,t9,(eTq (rNq (k+1)) (by rfl)),h1,(eTq h9 (by rfl)),h11,(eTq h709 (by rfl)),?_,?_,?_⟩
  · omega
  · omega
  · simp; exact hg
  · exact d1
 have d8:=aPG hr (by omega) hg hk hc (by omega)
 refine aN (p335 _ _ _ (x34 _ _ (cP (R:=fun T H=>T 1=(mPq 1)∧T 9=(mPq 9)∧T 10=(iV ((k:Nat):Int))∧T 92=(V.bool (decide (((k:Nat):Int) < ((f.kids.length:Nat):Int))))∧H 1=(bFq f)∧H 9=(bk 1 24 3 [[(iV f.op),(iV f.arg),(V.ms 709 w 0 k)]])∧((H 11).ver=v11∧(H 11).live=false)∧H 709=(bz w 24 3 (List.map cF g))∧True) ⟨t1,t9,t10,(rVq (V.bool (decide (((k:Nat):Int) < ((f.kids.length:Nat):Int))))),h1,h9,h11,h709,trivial⟩ ?_)))
 intro T H ⟨t1,t9,t10,t92,h1,h9,h11,h709,_⟩
 refine aA2 (id:=709) (id2:=9) (rows:=[[(iV f.op),(iV f.arg),(V.ms 709 w 0 k)]]) (i:=0) (off:=2) (r:=[(iV f.op),(iV f.arg),(V.ms 709 w 0 k)]) (m:=g) (g:=cF) (by decide) h709 h9 (by (simp; done)) (by exact hg.symm) rfl (.done ?_)
 refine cP (R:=fun T H=>T 1=(mPq 1)∧T 9=(mPq 9)∧T 10=(iV ((k:Nat):Int))∧T 92=(V.bool (decide (((k:Nat):Int) < ((f.kids.length:Nat):Int))))∧H 1=(bFq f)∧H 9=(bk 1 24 3 [[(iV f.op),(iV f.arg),(V.sl (List.map cF g))]])∧((H 11).ver=v11∧(H 11).live=false)∧((H 709).ver=w∧(H 709).live=false)∧True) ⟨(cO t1 rfl),(cO t9 rfl),(cO t10 rfl),(cO t92 rfl),(uTq (bV h1 (by decide))),(aK _ _ _),⟨(cVq (bA _ _ (by decide))).trans (jC h11).1,(congrArg Blk.live (bA _ _ (by decide))).trans (jC h11).2⟩,⟨(cVq (bA _ _ (by decide))).trans (eS (cVq h709)).1,(congrArg Blk.live (bA _ _ (by decide))).trans (eS (cVq h709)).2⟩,trivial⟩ ?_
 intro T H ⟨t1,t9,t10,t92,h1,h9,h11,h709,_⟩
 refine W_r (aJ t9 h9 rfl rfl (aR rfl rfl (aR rfl rfl (aA rfl (aA rfl (R_e (aO ?_)))))))
 refine dC (rVq (V.sl [[(V.sl [[(iV f.op),(iV f.arg),(V.sl (List.map cF g))]])]])) (rVq (V.bool true)) (cH (by simp) ?_) (aZ ?_)
 · rw [d8.1]; simp [cCl,bP]; exact ⟨rfl,rfl,rfl⟩
 · rw [d8.2]
theorem aHA (f:Fm) (hok:okF f=true) (hz:f.sz≤268435456):aQ Tryz.prog 92 [(V.agg (rFq f))] (V.tup [(V.sl (List.map cCl (rsV f))),(V.bool (clB f))]):=by
  have key: ∀ (mm:Nat) (f:Fm),f.sz < mm→okF f=true→f.sz≤268435456→aQ Tryz.prog 92 [(V.agg (rFq f))] (V.tup [(V.sl (List.map cCl (rsV f))),(V.bool (clB f))]):=by
    intro mm
    induction mm with
    |zero=>intro f hlt; exact absurd hlt (Nat.not_lt_zero _)
    | succ mm ih =>
      intro f hlt hok hz
      exact xS f hok hz fun f2 hlt2=>ih f2 (by omega)
  exact key (f.sz+1) f (Nat.lt_succ_self _) hok hz
theorem tA (f:Fm) (hok:okF f=true) (hz:f.sz≤268435456):aQ Tryz.prog 38 [(V.agg (rFq f))] (V.tup [(V.agg (rFq ((chk f).1))),(iV ((chk f).2))]):=by
 refine pW Tryz.func38 aQG fun hB=>?_
 unfold s38
 dsimp only
 refine W_r (cA (i:=1) (n:=0) (m:=3) (cs:=(rFq f)) rfl (cVq rfl) rfl rfl rfl (aV (i:=2) (n:=0) (m:=3) rfl (cVq rfl) rfl (aA rfl (R_e (W_r (aJ rfl rfl rfl rfl (aI (aAA f hok hz (aHA f hok hz)) rfl ?_)))))))
 refine aA rfl (bK rfl rfl (bK rfl rfl (aV (i:=4) (n:=0) (m:=3) rfl (cVq rfl) rfl (bE rfl rfl rfl rfl rfl rfl rfl rfl rfl (aA rfl (R_e (aB ?_)))))))
 refine W_r (aA rfl (eL rfl (R_e ?_)))
 refine bX rfl (fun c1=>?_) (fun c1=>?_)
 ·
  have d1:=aFp (aEo (by simpa using c1))
  have d2:=jH (aEo (by simpa using c1))
  refine aB (W_r (aW rfl rfl (bE rfl rfl rfl rfl rfl rfl rfl rfl rfl (aA rfl (R_e (aM ?_))))))
  refine eM (bB (u:=(V.agg [(iV 0),(iV 0),V.nilsl])) rfl (@rfl Blk bYq) (lB oB rfl rfl)) (bR (rVq (iV 11))) (bD (aF ?_) (aF ?_) (bU ?_)) (aF ?_)
  · rw [d1]; rfl
  · rw [d1]; rfl
  · rw [d1]; rfl
  · rw [d1,d2]; rfl
 have d0:=aFr (by simpa using c1)
 refine aC (aB (W_r (aJ rfl rfl rfl rfl (aI (eH (gW (can f))) rfl (cD rfl rfl (R_e ?_))))))
 refine aH rfl (fun c2=>?_) fun c2=>?_
 ·
  have d1:=aFf d0 c2
  refine aB (W_r (aW rfl rfl (aJ rfl rfl rfl rfl (aI (eH (gW (can f))) rfl (bE rfl rfl rfl rfl rfl rfl rfl rfl rfl (aA rfl (R_e ?_)))))))
  refine aM ?_
  refine eM (bB (u:=(V.agg [(iV 0),(iV 0),V.nilsl])) rfl (@rfl Blk bYq) (lB oB rfl rfl)) (bR (rVq (iV (cW (gW (can f)))))) (bD (aF ?_) (aF ?_) (bU ?_)) (aF ?_)
  · rw [d1]; rfl
  · rw [d1]; rfl
  · rw [d1]; rfl
  · rw [d1]
 have d1:=aGJ d0 c2
 refine aC (W_r (aJ rfl rfl rfl rfl (bE rfl rfl rfl rfl rfl rfl rfl rfl rfl (aA rfl (R_e (aO ?_))))))
 refine eM (bB (u:=(V.agg (rFq (gW (can f))))) rfl (@rfl Blk (bFq (gW (can f)))) (lB oB rfl rfl)) (bR (rVq (iV 0))) (bD (aF ?_) (aF ?_) (dA ?_ (fun _=>by simp))) (aF ?_)
 · rw [d1]
 · rw [d1]
 · rw [d1]
 · rw [d1]
def aTK:List SO:=[
 qF 11 2 2,
 ql 12 11,
 sO 13 (.idx 3 (.t 12) (.c (.int .i64 0))),
 qL 14 3 13,
 qM 15 1,
 sO 16 (.un .not (.t 15)),
 sO 17 (.call false 39 [.t 14,.t 16]),
 sN (.store 3 (.t 4) (.t 17))]
def aO3:List SO:=[
 qF 53 2 6,
 ql 54 53,
 qF 55 2 2,
 ql 56 55,
 qM 57 7,
 qA 58 3 56 57,
 qL 59 3 58,
 qM 60 1,
 sO 61 (.call false 39 [.t 59,.t 60]),
 sO 62 (.bslice 24 3 false zFq 1 [(0,.t 61)]),
 sO 63 (.append 24 3 40 (.t 54) (.t 62)),
 qF 64 2 6,
 sN (.store 1 (.t 64) (.t 63))]
def uY:SC:=.seq (.seq (.reg [qM 46 7,qF 47 2 2,ql 48 47,qN 49 48,qP 50 .lss 46 49]) (.cond (.t 50) (.skip) (.exit 1))) (.seq (.block 2 (.reg aO3)) (.reg [qM 51 7,qC 52 .add 51 1,qM 7 52]))
def s39:SF:=⟨66,[.cell 4 true 3],.seq (.reg [sO 2 (.box 24 3 (.t 0)),sO 4 (.alloc 24 zFq)]) (.seq (.seq (.reg [qF 8 0 2,ql 9 8,qC 10 .eql 9 4]) (.cond (.t 10) (.seq (.reg aTK) (.ret)) (.skip))) (.seq (.seq (.reg [qF 18 2 2,ql 19 18,qN 20 19,qC 21 .eql 20 0]) (.cond (.t 21) (.seq (.seq (.reg [qM 22 1]) (.cond (.t 22) (.seq (.reg [qL 23 3 2,sO 24 (.bslice 24 3 false zFq 1 [(0,.t 23)]),sO 25 (.call false 65 [.c (.int .i64 4),.t 24]),sN (.store 3 (.t 4) (.t 25))]) (.ret)) (.skip))) (.seq (.reg [qL 26 3 2,sN (.store 3 (.t 4) (.t 26))]) (.ret))) (.skip))) (.seq (.reg [qF 27 0 2,ql 28 27,qM 5 28]) (.seq (.seq (.reg [qM 29 1]) (.cond (.t 29) (.seq (.reg [qF 30 0 2,ql 31 30]) (.block 0 (.seq (.reg [qC 33 .eql 31 5,qM 32 33]) (.cond (.t 32) (.reg [qI 5 6]) (.seq (.reg [qC 35 .eql 31 6,qM 34 35]) (.cond (.t 34) (.reg [qI 5 5]) (.seq (.reg [qC 37 .eql 31 7,qM 36 37]) (.cond (.t 36) (.reg [qI 5 9]) (.seq (.reg [qC 39 .eql 31 9,qM 38 39]) (.cond (.t 38) (.reg [qI 5 7]) (.seq (.reg [qC 41 .eql 31 8,qM 40 41]) (.cond (.t 40) (.reg [qI 5 10]) (.seq (.reg [qC 43 .eql 31 10,qM 42 43]) (.cond (.t 42) (.reg [qI 5 8]) (.skip))))))))))))))) (.skip))) (.seq (.reg [qM 44 5,sO 45 (.build zFq [(0,1,.t 44)]),sO 6 (.alloc 24 zFq),sN (.store 3 (.t 6) (.t 45))]) (.seq (.seq (.reg [qI 7 0]) (.block 1 (.loop uY))) (.seq (.reg [qL 65 3 6,sN (.store 3 (.t 4) (.t 65))]) (.ret))))))))⟩
theorem aOI:bJ Tryz.prog ⟨oEq,[],[],[]⟩ Tryz.f39=some s39:=by kernel_rfl
def s65:SF:=⟨8,[.cell 4 true 3],.seq (.reg [sO 4 (.alloc 24 zFq)]) (.seq (.reg [qM 5 0,qM 6 1,sO 7 (.build zFq [(0,1,.t 5),(2,1,.t 6)]),sN (.store 3 (.t 4) (.t 7))]) (.ret))⟩
theorem aPI:bJ Tryz.prog ⟨oEq,[],[],[]⟩ Tryz.f65=some s65:=by kernel_rfl
theorem aD7 (o:Int) (l:List Fm):aQ Tryz.prog 65 [(iV o),(V.sl (List.map cF l))] (V.agg [(iV o),(iV 0),(V.sl (List.map cF l))]):=by
 refine pW Tryz.func65 aPI fun hB=>?_
 unfold s65
 dsimp only
 refine W_r (aV (i:=4) (n:=0) (m:=3) rfl (cVq rfl) rfl (R_e (W_r (aA rfl (aA rfl (aW rfl rfl (bE rfl rfl rfl rfl rfl rfl rfl rfl rfl ?_)))))))
 refine R_e (aO ?_)
 refine cM (bB (u:=(V.agg [(iV o),(iV 0),(V.sl (List.map cF l))])) rfl (@rfl Blk (bk 1 24 3 [[(iV o),(iV 0),(V.sl (List.map cF l))]])) (lB oB rfl rfl)) (cH (by simp) rfl)
theorem sE (f:Fm) (b:Bool) (hf:okF f=true) (hz:f.sz≤4096) (ih: ∀ (g:Fm) (b:Bool),g.sz < f.sz→okF g=true→g.sz≤4096→aQ Tryz.prog 39 [(V.agg (rFq g)),(V.bool b)] (V.agg (rFq (nrm g b)))):aQ Tryz.prog 39 [(V.agg (rFq f)),(V.bool b)] (V.agg (rFq (nrm f b))):=by
 refine pW Tryz.func39 aOI fun hB=>?_
 unfold s39
 dsimp only
 have hp:=bN hf
 have hr:=dE hp.1
 have hln:=f.sz_len
 refine W_r (cA (i:=2) (n:=0) (m:=3) (cs:=(rFq f)) rfl (cVq rfl) rfl rfl rfl (aV (i:=4) (n:=0) (m:=3) rfl (cVq rfl) rfl (R_e (aB (W_r (aL rfl rfl (aJ rfl rfl rfl rfl ?_)))))))
 refine aX rfl rfl (R_e ?_)
 refine aH rfl (fun c1=>?_) fun c1=>?_
 ·
  refine aB (W_r (aL rfl rfl (aJ rfl rfl rfl rfl (bT (i:=0) (rVq (V.sl (List.map cF f.kids))) (rNq 0) (by omega) (bP _) rfl (aG rfl rfl (aA rfl (eL rfl ?_)))))))
  refine aI (ih (nth f.kids 0) (!b) skq (hp.2 _ (by omega)) (szq hz)) rfl (bE rfl rfl rfl rfl rfl rfl rfl rfl rfl (R_e (aM ?_)))
  refine cM (bB (u:=(V.agg (rFq (nrm (nth f.kids 0) (!b))))) rfl (@rfl Blk (bFq (nrm (nth f.kids 0) (!b)))) (lB oB rfl rfl)) (bD (aF ?_) (aF ?_) (dA ?_ (fun _=>by simp)))
  · rw [jM (f:=f) (b:=b) (by omega) (by omega)]
  · rw [jM (f:=f) (b:=b) (by omega) (by omega)]
  · rw [jM (f:=f) (b:=b) (by omega) (by omega)]
 refine aC (aB (W_r (aL rfl rfl (aJ rfl rfl rfl rfl (bF rfl (aX rfl rfl (R_e ?_)))))))
 refine aH rfl (fun c2=>?_) fun c2=>?_
 ·
  refine aB (aB (W_r (aA rfl (R_e ?_))))
  refine bX rfl (fun c3=>?_) (fun c3=>?_)
  ·
   have hb:b=true:=c3
   refine aB (W_r (aJ rfl rfl rfl rfl (aR rfl rfl (aI (aD7 (4:Int) ([f])) (bL rfl (bL (aFJ (x:=f) rfl) eB)) (bE rfl rfl rfl rfl rfl rfl rfl rfl rfl (R_e (aM ?_)))))))
   refine cM (bB (u:=(V.agg [(iV (4:Int)),(iV 0),(V.sl (List.map cF ([f])))])) rfl (@rfl Blk (bk 1 24 3 [[(iV (4:Int)),(iV 0),(V.sl (List.map cF ([f])))]])) (lB oB rfl rfl)) (bD (aF ?_) (aF ?_) (dA ?_ (fun _=>by simp)))
   · rw [hb,zM (by omega) (by omega)]; rfl
   · rw [hb,zM (by omega) (by omega)]; rfl
   · rw [hb,zM (by omega) (by omega)]; rfl
  have hb:b=false:=by simpa using c3
  refine aC (aB (W_r (aJ rfl rfl rfl rfl (bE rfl rfl rfl rfl rfl rfl rfl rfl rfl (R_e (aM ?_))))))
  refine cM (bB (u:=(V.agg (rFq f))) rfl (@rfl Blk (bFq f)) (lB oB rfl rfl)) (bD (aF ?_) (aF ?_) (dA ?_ (fun _=>by simp)))
  · rw [hb,wZ (by omega) (by omega)]
  · rw [hb,wZ (by omega) (by omega)]
  · rw [hb,wZ (by omega) (by omega)]
 refine aC (W_r (aL rfl rfl (aJ rfl rfl rfl rfl (aA rfl (R_e (aB (W_r ?_)))))))
 refine aA rfl (R_e ?_)
 refine bX rfl (fun c4=>?_) (fun c4=>?_)
 ·
  have hb:b=true:=c4
  refine aB (W_r (aL rfl rfl (aJ rfl rfl rfl rfl (R_e (aD fun Q5 n5 x5 y5 z5=>(W_r (aX rfl rfl ?_)))))))
  refine aA rfl (R_e ?_)
  refine bZ rfl (fun c6=>?_) fun c6=>?_
  ·
   refine W_t (aA rfl (R_e (n5 _ _ (.done (W_r (aA rfl (aW rfl rfl ?_)))))))
   refine aV (i:=6) (n:=0) (m:=3) rfl (cVq rfl) rfl (bE rfl rfl rfl rfl rfl rfl rfl rfl rfl (R_e (aB ?_)))
   refine dN (fun T H=>T 1=(V.bool b)∧T 2=(mPq 2)∧T 4=(mPq 4)∧T 6=(mPq 6)∧T 7=(iV 0)∧H 2=(bFq f)∧H 4=bYq∧H 6=(bk 1 24 3 [[(iV 6),(iV 0),V.nilsl]])∧H 653=bZq∧True) ?_ ?_
   ·
    refine aA rfl ?_
    exact dZ ⟨rfl,rfl,rfl,rfl,rfl,rfl,rfl,rfl,rfl,trivial⟩
   intro T H ⟨t1,t2,t4,t6,t7,h2,h4,h6,h653,_⟩
   refine .lazyCell 653 24 3 6 0 2 [(iV 6),(iV 0),V.nilsl] (by decide) (by rw [h6]; rfl) (by rw [h6]; rfl) rfl (.done ?_)
   refine cP (R:=fun T H=>T 1=(V.bool b)∧T 2=(mPq 2)∧T 4=(mPq 4)∧T 6=(mPq 6)∧T 7=(iV 0)∧H 2=(bFq f)∧H 4=bYq∧H 6=(bk 1 24 3 [[(iV 6),(iV 0),(V.ms 653 1 0 0)]])∧H 653=(bz 1 24 3 [])∧True) ⟨t1,t2,t4,t6,t7,(uTq (uTq h2)),(uTq (uTq h4)),(by rw [aK,h6,(cVq h653)]; rfl),(by rw [bA _ _ (by decide),aK,(cVq h653)]),trivial⟩ ?_
   intro T H ⟨t1,t2,t4,t6,t7,h2,h4,h6,h653,_⟩
   refine aD fun Q7 n7 x7 y7 z7=>?_
   refine bS (fun mm T H=> ∃ (k:Nat) (w:Nat),mm=f.kids.length - k∧T 1=(V.bool b)∧T 2=(mPq 2)∧T 4=(mPq 4)∧T 6=(mPq 6)∧T 7=(iV ((k:Nat):Int))∧H 2=(bFq f)∧H 4=bYq∧H 6=(bk 1 24 3 [[(iV (nop f.op b)),(iV 0),(V.ms 653 w 0 k)]])∧H 653=(bz w 24 3 (List.map cF ((f.kids.take k).map (fun g=>nrm g b))))∧(k≤f.kids.length)) ?_ ?_
   ·
    refine ⟨_,0,1,rfl,t1,t2,t4,t6,(eTq t7 rfl),h2,h4,(eTq h6 (by (exact sQ (by simp only [nop,gR,hb,if_true,Bool.false_eq_true,if_false]; repeat (first|rfl|omega|split))))),(eTq h653 (by rfl)),?_⟩
    · omega
   intro mm T H ⟨k,w,hmm,t1,t2,t4,t6,t7,h2,h4,h6,h653,hk⟩ Q8 p18 p28 p38
   unfold uY
   refine aB (W_r (aA t7 (aL t2 h2 (aJ rfl h2 rfl rfl (bF rfl (bO rfl rfl (R_e ?_)))))))
   refine aH rfl (fun c9=>?_) fun c9=>?_
   ·
    refine aC (aD fun Q10 n10 x10 y10 z10=>(W_t (aL t6 h6 (aJ rfl h6 rfl rfl (aL t2 h2 (aJ rfl h2 rfl rfl (aA t7 ?_)))))))
    refine bT (i:=k) (rVq (V.sl (List.map cF f.kids))) (rNq k) (by omega) (bP _) rfl (aG rfl rfl (aA t1 (aI (ih (nth f.kids k) b skq (hp.2 _ (by omega)) (szq hz)) rfl (aR rfl rfl (cC (l:=((f.kids.take k).map (fun g=>nrm g b))) (f:=cF) (x:=(nrm (nth f.kids k) b)) (rVq (V.ms 653 w 0 k)) h653 (by (simp; omega)) (fV (x:=(nrm (nth f.kids k) b)) (rVq (V.sl [(rFq (nrm (nth f.kids k) b))]))) (eU _) (fC _) (by omega) (by omega) (aL t6 h6 (bE rfl rfl rfl h6 rfl rfl rfl rfl rfl ?_)))))))
    refine R_e (n10 _ _ (.done (W_t (aA t7 (bC rfl (rNq 1) (by omega) (aA rfl (R_e ?_)))))))
    refine p18 _ _ _ ?_ ⟨(k+1),(w+1),rfl,t1,t2,t4,t6,(eTq (rNq (k+1)) (by rfl)),h2,h4,(eTq (@rfl Blk (bk 1 24 3 [[(iV (nop f.op b)),(iV 0),(V.ms 653 (w+1) 0 (k+1))]])) (by rfl)),(eTq (@rfl Blk (bz (w+1) 24 3 (List.map cF ((f.kids.take k).map (fun g=>nrm g b)++[(nrm (nth f.kids k) b)])))) (by (rw [fZ (by omega)]; done))),?_⟩
    · omega
    · omega
   refine aN (p38 _ _ _ (x7 _ _ (.done (W_r (aJ t6 h6 rfl rfl (bE t4 rfl rfl h4 rfl rfl rfl rfl rfl (R_e ?_)))))))
   refine aO ?_
   refine cM (bB (u:=(V.agg [(iV (nop f.op b)),(iV 0),(V.ms 653 w 0 k)])) t4 (@rfl Blk (bk 1 24 3 [[(iV (nop f.op b)),(iV 0),(V.ms 653 w 0 k)]])) (lB oB rfl rfl)) (bD (aF ?_) (aF ?_) (iJ h653 (by simp) (l:=((f.kids.take k).map (fun g=>nrm g b))) rfl (by (simp; omega)) (fun _=>by simp) ?_))
   · rw [cQ (by omega) (by omega)]; rfl
   · rw [cQ (by omega) (by omega)]; rfl
   · rw [cQ (by omega) (by omega)]; first|rfl|(show _=List.map _ f.kids; rw [show k=f.kids.length by omega,List.take_length]; done)
  refine W_r (aX rfl rfl (aA rfl (R_e ?_)))
  refine bZ rfl (fun c11=>?_) fun c11=>?_
  ·
   refine W_t (aA rfl (R_e (n5 _ _ (.done (W_r (aA rfl (aW rfl rfl ?_)))))))
   refine aV (i:=6) (n:=0) (m:=3) rfl (cVq rfl) rfl (bE rfl rfl rfl rfl rfl rfl rfl rfl rfl (R_e (aB ?_)))
   refine dN (fun T H=>T 1=(V.bool b)∧T 2=(mPq 2)∧T 4=(mPq 4)∧T 6=(mPq 6)∧T 7=(iV 0)∧H 2=(bFq f)∧H 4=bYq∧H 6=(bk 1 24 3 [[(iV 5),(iV 0),V.nilsl]])∧H 653=bZq∧True) ?_ ?_
   ·
    refine aA rfl ?_
    exact dZ ⟨rfl,rfl,rfl,rfl,rfl,rfl,rfl,rfl,rfl,trivial⟩
   intro T H ⟨t1,t2,t4,t6,t7,h2,h4,h6,h653,_⟩
   refine .lazyCell 653 24 3 6 0 2 [(iV 5),(iV 0),V.nilsl] (by decide) (by rw [h6]; rfl) (by rw [h6]; rfl) rfl (.done ?_)
   refine cP (R:=fun T H=>T 1=(V.bool b)∧T 2=(mPq 2)∧T 4=(mPq 4)∧T 6=(mPq 6)∧T 7=(iV 0)∧H 2=(bFq f)∧H 4=bYq∧H 6=(bk 1 24 3 [[(iV 5),(iV 0),(V.ms 653 1 0 0)]])∧H 653=(bz 1 24 3 [])∧True) ⟨t1,t2,t4,t6,t7,(uTq (uTq h2)),(uTq (uTq h4)),(by rw [aK,h6,(cVq h653)]; rfl),(by rw [bA _ _ (by decide),aK,(cVq h653)]),trivial⟩ ?_
   intro T H ⟨t1,t2,t4,t6,t7,h2,h4,h6,h653,_⟩
   refine aD fun Q12 n12 x12 y12 z12=>?_
   refine bS (fun mm T H=> ∃ (k:Nat) (w:Nat),mm=f.kids.length - k∧T 1=(V.bool b)∧T 2=(mPq 2)∧T 4=(mPq 4)∧T 6=(mPq 6)∧T 7=(iV ((k:Nat):Int))∧H 2=(bFq f)∧H 4=bYq∧H 6=(bk 1 24 3 [[(iV (nop f.op b)),(iV 0),(V.ms 653 w 0 k)]])∧H 653=(bz w 24 3 (List.map cF ((f.kids.take k).map (fun g=>nrm g b))))∧(k≤f.kids.length)) ?_ ?_
   ·
    refine ⟨_,0,1,rfl,t1,t2,t4,t6,(eTq t7 rfl),h2,h4,(eTq h6 (by (exact sQ (by simp only [nop,gR,hb,if_true,Bool.false_eq_true,if_false]; repeat (first|rfl|omega|split))))),(eTq h653 (by rfl)),?_⟩
    · omega
   intro mm T H ⟨k,w,hmm,t1,t2,t4,t6,t7,h2,h4,h6,h653,hk⟩ Q13 p113 p213 p313
   unfold uY
   refine aB (W_r (aA t7 (aL t2 h2 (aJ rfl h2 rfl rfl (bF rfl (bO rfl rfl (R_e ?_)))))))
   refine aH rfl (fun c14=>?_) fun c14=>?_
   ·
    refine aC (aD fun Q15 n15 x15 y15 z15=>(W_t (aL t6 h6 (aJ rfl h6 rfl rfl (aL t2 h2 (aJ rfl h2 rfl rfl (aA t7 ?_)))))))
    refine bT (i:=k) (rVq (V.sl (List.map cF f.kids))) (rNq k) (by omega) (bP _) rfl (aG rfl rfl (aA t1 (aI (ih (nth f.kids k) b skq (hp.2 _ (by omega)) (szq hz)) rfl (aR rfl rfl (cC (l:=((f.kids.take k).map (fun g=>nrm g b))) (f:=cF) (x:=(nrm (nth f.kids k) b)) (rVq (V.ms 653 w 0 k)) h653 (by (simp; omega)) (fV (x:=(nrm (nth f.kids k) b)) (rVq (V.sl [(rFq (nrm (nth f.kids k) b))]))) (eU _) (fC _) (by omega) (by omega) (aL t6 h6 (bE rfl rfl rfl h6 rfl rfl rfl rfl rfl ?_)))))))
    refine R_e (n15 _ _ (.done (W_t (aA t7 (bC rfl (rNq 1) (by omega) (aA rfl (R_e ?_)))))))
    refine p113 _ _ _ ?_ ⟨(k+1),(w+1),rfl,t1,t2,t4,t6,(eTq (rNq (k+1)) (by rfl)),h2,h4,(eTq (@rfl Blk (bk 1 24 3 [[(iV (nop f.op b)),(iV 0),(V.ms 653 (w+1) 0 (k+1))]])) (by rfl)),(eTq (@rfl Blk (bz (w+1) 24 3 (List.map cF ((f.kids.take k).map (fun g=>nrm g b)++[(nrm (nth f.kids k) b)])))) (by (rw [fZ (by omega)]; done))),?_⟩
    · omega
    · omega
   refine aN (p313 _ _ _ (x12 _ _ (.done (W_r (aJ t6 h6 rfl rfl (bE t4 rfl rfl h4 rfl rfl rfl rfl rfl (R_e ?_)))))))
   refine aO ?_
   refine cM (bB (u:=(V.agg [(iV (nop f.op b)),(iV 0),(V.ms 653 w 0 k)])) t4 (@rfl Blk (bk 1 24 3 [[(iV (nop f.op b)),(iV 0),(V.ms 653 w 0 k)]])) (lB oB rfl rfl)) (bD (aF ?_) (aF ?_) (iJ h653 (by simp) (l:=((f.kids.take k).map (fun g=>nrm g b))) rfl (by (simp; omega)) (fun _=>by simp) ?_))
   · rw [cQ (by omega) (by omega)]; rfl
   · rw [cQ (by omega) (by omega)]; rfl
   · rw [cQ (by omega) (by omega)]; first|rfl|(show _=List.map _ f.kids; rw [show k=f.kids.length by omega,List.take_length]; done)
  refine W_r (aX rfl rfl (aA rfl (R_e ?_)))
  refine bZ rfl (fun c16=>?_) fun c16=>?_
  ·
   refine W_t (aA rfl (R_e (n5 _ _ (.done (W_r (aA rfl (aW rfl rfl ?_)))))))
   refine aV (i:=6) (n:=0) (m:=3) rfl (cVq rfl) rfl (bE rfl rfl rfl rfl rfl rfl rfl rfl rfl (R_e (aB ?_)))
   refine dN (fun T H=>T 1=(V.bool b)∧T 2=(mPq 2)∧T 4=(mPq 4)∧T 6=(mPq 6)∧T 7=(iV 0)∧H 2=(bFq f)∧H 4=bYq∧H 6=(bk 1 24 3 [[(iV 9),(iV 0),V.nilsl]])∧H 653=bZq∧True) ?_ ?_
   ·
    refine aA rfl ?_
    exact dZ ⟨rfl,rfl,rfl,rfl,rfl,rfl,rfl,rfl,rfl,trivial⟩
   intro T H ⟨t1,t2,t4,t6,t7,h2,h4,h6,h653,_⟩
   refine .lazyCell 653 24 3 6 0 2 [(iV 9),(iV 0),V.nilsl] (by decide) (by rw [h6]; rfl) (by rw [h6]; rfl) rfl (.done ?_)
   refine cP (R:=fun T H=>T 1=(V.bool b)∧T 2=(mPq 2)∧T 4=(mPq 4)∧T 6=(mPq 6)∧T 7=(iV 0)∧H 2=(bFq f)∧H 4=bYq∧H 6=(bk 1 24 3 [[(iV 9),(iV 0),(V.ms 653 1 0 0)]])∧H 653=(bz 1 24 3 [])∧True) ⟨t1,t2,t4,t6,t7,(uTq (uTq h2)),(uTq (uTq h4)),(by rw [aK,h6,(cVq h653)]; rfl),(by rw [bA _ _ (by decide),aK,(cVq h653)]),trivial⟩ ?_
   intro T H ⟨t1,t2,t4,t6,t7,h2,h4,h6,h653,_⟩
   refine aD fun Q17 n17 x17 y17 z17=>?_
   refine bS (fun mm T H=> ∃ (k:Nat) (w:Nat),mm=f.kids.length - k∧T 1=(V.bool b)∧T 2=(mPq 2)∧T 4=(mPq 4)∧T 6=(mPq 6)∧T 7=(iV ((k:Nat):Int))∧H 2=(bFq f)∧H 4=bYq∧H 6=(bk 1 24 3 [[(iV (nop f.op b)),(iV 0),(V.ms 653 w 0 k)]])∧H 653=(bz w 24 3 (List.map cF ((f.kids.take k).map (fun g=>nrm g b))))∧(k≤f.kids.length)) ?_ ?_
   ·
    refine ⟨_,0,1,rfl,t1,t2,t4,t6,(eTq t7 rfl),h2,h4,(eTq h6 (by (exact sQ (by simp only [nop,gR,hb,if_true,Bool.false_eq_true,if_false]; repeat (first|rfl|omega|split))))),(eTq h653 (by rfl)),?_⟩
    · omega
   intro mm T H ⟨k,w,hmm,t1,t2,t4,t6,t7,h2,h4,h6,h653,hk⟩ Q18 p118 p218 p318
   unfold uY
   refine aB (W_r (aA t7 (aL t2 h2 (aJ rfl h2 rfl rfl (bF rfl (bO rfl rfl (R_e ?_)))))))
   refine aH rfl (fun c19=>?_) fun c19=>?_
   ·
    refine aC (aD fun Q20 n20 x20 y20 z20=>(W_t (aL t6 h6 (aJ rfl h6 rfl rfl (aL t2 h2 (aJ rfl h2 rfl rfl (aA t7 ?_)))))))
    refine bT (i:=k) (rVq (V.sl (List.map cF f.kids))) (rNq k) (by omega) (bP _) rfl (aG rfl rfl (aA t1 (aI (ih (nth f.kids k) b skq (hp.2 _ (by omega)) (szq hz)) rfl (aR rfl rfl (cC (l:=((f.kids.take k).map (fun g=>nrm g b))) (f:=cF) (x:=(nrm (nth f.kids k) b)) (rVq (V.ms 653 w 0 k)) h653 (by (simp; omega)) (fV (x:=(nrm (nth f.kids k) b)) (rVq (V.sl [(rFq (nrm (nth f.kids k) b))]))) (eU _) (fC _) (by omega) (by omega) (aL t6 h6 (bE rfl rfl rfl h6 rfl rfl rfl rfl rfl ?_)))))))
    refine R_e (n20 _ _ (.done (W_t (aA t7 (bC rfl (rNq 1) (by omega) (aA rfl (R_e ?_)))))))
    refine p118 _ _ _ ?_ ⟨(k+1),(w+1),rfl,t1,t2,t4,t6,(eTq (rNq (k+1)) (by rfl)),h2,h4,(eTq (@rfl Blk (bk 1 24 3 [[(iV (nop f.op b)),(iV 0),(V.ms 653 (w+1) 0 (k+1))]])) (by rfl)),(eTq (@rfl Blk (bz (w+1) 24 3 (List.map cF ((f.kids.take k).map (fun g=>nrm g b)++[(nrm (nth f.kids k) b)])))) (by (rw [fZ (by omega)]; done))),?_⟩
    · omega
    · omega
   refine aN (p318 _ _ _ (x17 _ _ (.done (W_r (aJ t6 h6 rfl rfl (bE t4 rfl rfl h4 rfl rfl rfl rfl rfl (R_e ?_)))))))
   refine aO ?_
   refine cM (bB (u:=(V.agg [(iV (nop f.op b)),(iV 0),(V.ms 653 w 0 k)])) t4 (@rfl Blk (bk 1 24 3 [[(iV (nop f.op b)),(iV 0),(V.ms 653 w 0 k)]])) (lB oB rfl rfl)) (bD (aF ?_) (aF ?_) (iJ h653 (by simp) (l:=((f.kids.take k).map (fun g=>nrm g b))) rfl (by (simp; omega)) (fun _=>by simp) ?_))
   · rw [cQ (by omega) (by omega)]; rfl
   · rw [cQ (by omega) (by omega)]; rfl
   · rw [cQ (by omega) (by omega)]; first|rfl|(show _=List.map _ f.kids; rw [show k=f.kids.length by omega,List.take_length]; done)
  refine W_r (aX rfl rfl (aA rfl (R_e ?_)))
  refine bZ rfl (fun c21=>?_) fun c21=>?_
  ·
   refine W_t (aA rfl (R_e (n5 _ _ (.done (W_r (aA rfl (aW rfl rfl ?_)))))))
   refine aV (i:=6) (n:=0) (m:=3) rfl (cVq rfl) rfl (bE rfl rfl rfl rfl rfl rfl rfl rfl rfl (R_e (aB ?_)))
   refine dN (fun T H=>T 1=(V.bool b)∧T 2=(mPq 2)∧T 4=(mPq 4)∧T 6=(mPq 6)∧T 7=(iV 0)∧H 2=(bFq f)∧H 4=bYq∧H 6=(bk 1 24 3 [[(iV 7),(iV 0),V.nilsl]])∧H 653=bZq∧True) ?_ ?_
   ·
    refine aA rfl ?_
    exact dZ ⟨rfl,rfl,rfl,rfl,rfl,rfl,rfl,rfl,rfl,trivial⟩
   intro T H ⟨t1,t2,t4,t6,t7,h2,h4,h6,h653,_⟩
   refine .lazyCell 653 24 3 6 0 2 [(iV 7),(iV 0),V.nilsl] (by decide) (by rw [h6]; rfl) (by rw [h6]; rfl) rfl (.done ?_)
   refine cP (R:=fun T H=>T 1=(V.bool b)∧T 2=(mPq 2)∧T 4=(mPq 4)∧T 6=(mPq 6)∧T 7=(iV 0)∧H 2=(bFq f)∧H 4=bYq∧H 6=(bk 1 24 3 [[(iV 7),(iV 0),(V.ms 653 1 0 0)]])∧H 653=(bz 1 24 3 [])∧True) ⟨t1,t2,t4,t6,t7,(uTq (uTq h2)),(uTq (uTq h4)),(by rw [aK,h6,(cVq h653)]; rfl),(by rw [bA _ _ (by decide),aK,(cVq h653)]),trivial⟩ ?_
   intro T H ⟨t1,t2,t4,t6,t7,h2,h4,h6,h653,_⟩
   refine aD fun Q22 n22 x22 y22 z22=>?_
   refine bS (fun mm T H=> ∃ (k:Nat) (w:Nat),mm=f.kids.length - k∧T 1=(V.bool b)∧T 2=(mPq 2)∧T 4=(mPq 4)∧T 6=(mPq 6)∧T 7=(iV ((k:Nat):Int))∧H 2=(bFq f)∧H 4=bYq∧H 6=(bk 1 24 3 [[(iV (nop f.op b)),(iV 0),(V.ms 653 w 0 k)]])∧H 653=(bz w 24 3 (List.map cF ((f.kids.take k).map (fun g=>nrm g b))))∧(k≤f.kids.length)) ?_ ?_
   ·
    refine ⟨_,0,1,rfl,t1,t2,t4,t6,(eTq t7 rfl),h2,h4,(eTq h6 (by (exact sQ (by simp only [nop,gR,hb,if_true,Bool.false_eq_true,if_false]; repeat (first|rfl|omega|split))))),(eTq h653 (by rfl)),?_⟩
    · omega
   intro mm T H ⟨k,w,hmm,t1,t2,t4,t6,t7,h2,h4,h6,h653,hk⟩ Q23 p123 p223 p323
   unfold uY
   refine aB (W_r (aA t7 (aL t2 h2 (aJ rfl h2 rfl rfl (bF rfl (bO rfl rfl (R_e ?_)))))))
   refine aH rfl (fun c24=>?_) fun c24=>?_
   ·
    refine aC (aD fun Q25 n25 x25 y25 z25=>(W_t (aL t6 h6 (aJ rfl h6 rfl rfl (aL t2 h2 (aJ rfl h2 rfl rfl (aA t7 ?_)))))))
    refine bT (i:=k) (rVq (V.sl (List.map cF f.kids))) (rNq k) (by omega) (bP _) rfl (aG rfl rfl (aA t1 (aI (ih (nth f.kids k) b skq (hp.2 _ (by omega)) (szq hz)) rfl (aR rfl rfl (cC (l:=((f.kids.take k).map (fun g=>nrm g b))) (f:=cF) (x:=(nrm (nth f.kids k) b)) (rVq (V.ms 653 w 0 k)) h653 (by (simp; omega)) (fV (x:=(nrm (nth f.kids k) b)) (rVq (V.sl [(rFq (nrm (nth f.kids k) b))]))) (eU _) (fC _) (by omega) (by omega) (aL t6 h6 (bE rfl rfl rfl h6 rfl rfl rfl rfl rfl ?_)))))))
    refine R_e (n25 _ _ (.done (W_t (aA t7 (bC rfl (rNq 1) (by omega) (aA rfl (R_e ?_)))))))
    refine p123 _ _ _ ?_ ⟨(k+1),(w+1),rfl,t1,t2,t4,t6,(eTq (rNq (k+1)) (by rfl)),h2,h4,(eTq (@rfl Blk (bk 1 24 3 [[(iV (nop f.op b)),(iV 0),(V.ms 653 (w+1) 0 (k+1))]])) (by rfl)),(eTq (@rfl Blk (bz (w+1) 24 3 (List.map cF ((f.kids.take k).map (fun g=>nrm g b)++[(nrm (nth f.kids k) b)])))) (by (rw [fZ (by omega)]; done))),?_⟩
    · omega
    · omega
   refine aN (p323 _ _ _ (x22 _ _ (.done (W_r (aJ t6 h6 rfl rfl (bE t4 rfl rfl h4 rfl rfl rfl rfl rfl (R_e ?_)))))))
   refine aO ?_
   refine cM (bB (u:=(V.agg [(iV (nop f.op b)),(iV 0),(V.ms 653 w 0 k)])) t4 (@rfl Blk (bk 1 24 3 [[(iV (nop f.op b)),(iV 0),(V.ms 653 w 0 k)]])) (lB oB rfl rfl)) (bD (aF ?_) (aF ?_) (iJ h653 (by simp) (l:=((f.kids.take k).map (fun g=>nrm g b))) rfl (by (simp; omega)) (fun _=>by simp) ?_))
   · rw [cQ (by omega) (by omega)]; rfl
   · rw [cQ (by omega) (by omega)]; rfl
   · rw [cQ (by omega) (by omega)]; first|rfl|(show _=List.map _ f.kids; rw [show k=f.kids.length by omega,List.take_length]; done)
  refine W_r (aX rfl rfl (aA rfl (R_e ?_)))
  refine bZ rfl (fun c26=>?_) fun c26=>?_
  ·
   refine W_t (aA rfl (R_e (n5 _ _ (.done (W_r (aA rfl (aW rfl rfl ?_)))))))
   refine aV (i:=6) (n:=0) (m:=3) rfl (cVq rfl) rfl (bE rfl rfl rfl rfl rfl rfl rfl rfl rfl (R_e (aB ?_)))
   refine dN (fun T H=>T 1=(V.bool b)∧T 2=(mPq 2)∧T 4=(mPq 4)∧T 6=(mPq 6)∧T 7=(iV 0)∧H 2=(bFq f)∧H 4=bYq∧H 6=(bk 1 24 3 [[(iV 10),(iV 0),V.nilsl]])∧H 653=bZq∧True) ?_ ?_
   ·
    refine aA rfl ?_
    exact dZ ⟨rfl,rfl,rfl,rfl,rfl,rfl,rfl,rfl,rfl,trivial⟩
   intro T H ⟨t1,t2,t4,t6,t7,h2,h4,h6,h653,_⟩
   refine .lazyCell 653 24 3 6 0 2 [(iV 10),(iV 0),V.nilsl] (by decide) (by rw [h6]; rfl) (by rw [h6]; rfl) rfl (.done ?_)
   refine cP (R:=fun T H=>T 1=(V.bool b)∧T 2=(mPq 2)∧T 4=(mPq 4)∧T 6=(mPq 6)∧T 7=(iV 0)∧H 2=(bFq f)∧H 4=bYq∧H 6=(bk 1 24 3 [[(iV 10),(iV 0),(V.ms 653 1 0 0)]])∧H 653=(bz 1 24 3 [])∧True) ⟨t1,t2,t4,t6,t7,(uTq (uTq h2)),(uTq (uTq h4)),(by rw [aK,h6,(cVq h653)]; rfl),(by rw [bA _ _ (by decide),aK,(cVq h653)]),trivial⟩ ?_
   intro T H ⟨t1,t2,t4,t6,t7,h2,h4,h6,h653,_⟩
   refine aD fun Q27 n27 x27 y27 z27=>?_
   refine bS (fun mm T H=> ∃ (k:Nat) (w:Nat),mm=f.kids.length - k∧T 1=(V.bool b)∧T 2=(mPq 2)∧T 4=(mPq 4)∧T 6=(mPq 6)∧T 7=(iV ((k:Nat):Int))∧H 2=(bFq f)∧H 4=bYq∧H 6=(bk 1 24 3 [[(iV (nop f.op b)),(iV 0),(V.ms 653 w 0 k)]])∧H 653=(bz w 24 3 (List.map cF ((f.kids.take k).map (fun g=>nrm g b))))∧(k≤f.kids.length)) ?_ ?_
   ·
    refine ⟨_,0,1,rfl,t1,t2,t4,t6,(eTq t7 rfl),h2,h4,(eTq h6 (by (exact sQ (by simp only [nop,gR,hb,if_true,Bool.false_eq_true,if_false]; repeat (first|rfl|omega|split))))),(eTq h653 (by rfl)),?_⟩
    · omega
   intro mm T H ⟨k,w,hmm,t1,t2,t4,t6,t7,h2,h4,h6,h653,hk⟩ Q28 p128 p228 p328
   unfold uY
   refine aB (W_r (aA t7 (aL t2 h2 (aJ rfl h2 rfl rfl (bF rfl (bO rfl rfl (R_e ?_)))))))
   refine aH rfl (fun c29=>?_) fun c29=>?_
   ·
    refine aC (aD fun Q30 n30 x30 y30 z30=>(W_t (aL t6 h6 (aJ rfl h6 rfl rfl (aL t2 h2 (aJ rfl h2 rfl rfl (aA t7 ?_)))))))
    refine bT (i:=k) (rVq (V.sl (List.map cF f.kids))) (rNq k) (by omega) (bP _) rfl (aG rfl rfl (aA t1 (aI (ih (nth f.kids k) b skq (hp.2 _ (by omega)) (szq hz)) rfl (aR rfl rfl (cC (l:=((f.kids.take k).map (fun g=>nrm g b))) (f:=cF) (x:=(nrm (nth f.kids k) b)) (rVq (V.ms 653 w 0 k)) h653 (by (simp; omega)) (fV (x:=(nrm (nth f.kids k) b)) (rVq (V.sl [(rFq (nrm (nth f.kids k) b))]))) (eU _) (fC _) (by omega) (by omega) (aL t6 h6 (bE rfl rfl rfl h6 rfl rfl rfl rfl rfl ?_)))))))
    refine R_e (n30 _ _ (.done (W_t (aA t7 (bC rfl (rNq 1) (by omega) (aA rfl (R_e ?_)))))))
    refine p128 _ _ _ ?_ ⟨(k+1),(w+1),rfl,t1,t2,t4,t6,(eTq (rNq (k+1)) (by rfl)),h2,h4,(eTq (@rfl Blk (bk 1 24 3 [[(iV (nop f.op b)),(iV 0),(V.ms 653 (w+1) 0 (k+1))]])) (by rfl)),(eTq (@rfl Blk (bz (w+1) 24 3 (List.map cF ((f.kids.take k).map (fun g=>nrm g b)++[(nrm (nth f.kids k) b)])))) (by (rw [fZ (by omega)]; done))),?_⟩
    · omega
    · omega
   refine aN (p328 _ _ _ (x27 _ _ (.done (W_r (aJ t6 h6 rfl rfl (bE t4 rfl rfl h4 rfl rfl rfl rfl rfl (R_e ?_)))))))
   refine aO ?_
   refine cM (bB (u:=(V.agg [(iV (nop f.op b)),(iV 0),(V.ms 653 w 0 k)])) t4 (@rfl Blk (bk 1 24 3 [[(iV (nop f.op b)),(iV 0),(V.ms 653 w 0 k)]])) (lB oB rfl rfl)) (bD (aF ?_) (aF ?_) (iJ h653 (by simp) (l:=((f.kids.take k).map (fun g=>nrm g b))) rfl (by (simp; omega)) (fun _=>by simp) ?_))
   · rw [cQ (by omega) (by omega)]; rfl
   · rw [cQ (by omega) (by omega)]; rfl
   · rw [cQ (by omega) (by omega)]; first|rfl|(show _=List.map _ f.kids; rw [show k=f.kids.length by omega,List.take_length]; done)
  refine W_r (aX rfl rfl (aA rfl (R_e ?_)))
  refine bZ rfl (fun c31=>?_) fun c31=>?_
  ·
   refine W_t (aA rfl (R_e (n5 _ _ (.done (W_r (aA rfl (aW rfl rfl ?_)))))))
   refine aV (i:=6) (n:=0) (m:=3) rfl (cVq rfl) rfl (bE rfl rfl rfl rfl rfl rfl rfl rfl rfl (R_e (aB ?_)))
   refine dN (fun T H=>T 1=(V.bool b)∧T 2=(mPq 2)∧T 4=(mPq 4)∧T 6=(mPq 6)∧T 7=(iV 0)∧H 2=(bFq f)∧H 4=bYq∧H 6=(bk 1 24 3 [[(iV 8),(iV 0),V.nilsl]])∧H 653=bZq∧True) ?_ ?_
   ·
    refine aA rfl ?_
    exact dZ ⟨rfl,rfl,rfl,rfl,rfl,rfl,rfl,rfl,rfl,trivial⟩
   intro T H ⟨t1,t2,t4,t6,t7,h2,h4,h6,h653,_⟩
   refine .lazyCell 653 24 3 6 0 2 [(iV 8),(iV 0),V.nilsl] (by decide) (by rw [h6]; rfl) (by rw [h6]; rfl) rfl (.done ?_)
   refine cP (R:=fun T H=>T 1=(V.bool b)∧T 2=(mPq 2)∧T 4=(mPq 4)∧T 6=(mPq 6)∧T 7=(iV 0)∧H 2=(bFq f)∧H 4=bYq∧H 6=(bk 1 24 3 [[(iV 8),(iV 0),(V.ms 653 1 0 0)]])∧H 653=(bz 1 24 3 [])∧True) ⟨t1,t2,t4,t6,t7,(uTq (uTq h2)),(uTq (uTq h4)),(by rw [aK,h6,(cVq h653)]; rfl),(by rw [bA _ _ (by decide),aK,(cVq h653)]),trivial⟩ ?_
   intro T H ⟨t1,t2,t4,t6,t7,h2,h4,h6,h653,_⟩
   refine aD fun Q32 n32 x32 y32 z32=>?_
   refine bS (fun mm T H=> ∃ (k:Nat) (w:Nat),mm=f.kids.length - k∧T 1=(V.bool b)∧T 2=(mPq 2)∧T 4=(mPq 4)∧T 6=(mPq 6)∧T 7=(iV ((k:Nat):Int))∧H 2=(bFq f)∧H 4=bYq∧H 6=(bk 1 24 3 [[(iV (nop f.op b)),(iV 0),(V.ms 653 w 0 k)]])∧H 653=(bz w 24 3 (List.map cF ((f.kids.take k).map (fun g=>nrm g b))))∧(k≤f.kids.length)) ?_ ?_
   ·
    refine ⟨_,0,1,rfl,t1,t2,t4,t6,(eTq t7 rfl),h2,h4,(eTq h6 (by (exact sQ (by simp only [nop,gR,hb,if_true,Bool.false_eq_true,if_false]; repeat (first|rfl|omega|split))))),(eTq h653 (by rfl)),?_⟩
    · omega
   intro mm T H ⟨k,w,hmm,t1,t2,t4,t6,t7,h2,h4,h6,h653,hk⟩ Q33 p133 p233 p333
   unfold uY
   refine aB (W_r (aA t7 (aL t2 h2 (aJ rfl h2 rfl rfl (bF rfl (bO rfl rfl (R_e ?_)))))))
   refine aH rfl (fun c34=>?_) fun c34=>?_
   ·
    refine aC (aD fun Q35 n35 x35 y35 z35=>(W_t (aL t6 h6 (aJ rfl h6 rfl rfl (aL t2 h2 (aJ rfl h2 rfl rfl (aA t7 ?_)))))))
    refine bT (i:=k) (rVq (V.sl (List.map cF f.kids))) (rNq k) (by omega) (bP _) rfl (aG rfl rfl (aA t1 (aI (ih (nth f.kids k) b skq (hp.2 _ (by omega)) (szq hz)) rfl (aR rfl rfl (cC (l:=((f.kids.take k).map (fun g=>nrm g b))) (f:=cF) (x:=(nrm (nth f.kids k) b)) (rVq (V.ms 653 w 0 k)) h653 (by (simp; omega)) (fV (x:=(nrm (nth f.kids k) b)) (rVq (V.sl [(rFq (nrm (nth f.kids k) b))]))) (eU _) (fC _) (by omega) (by omega) (aL t6 h6 (bE rfl rfl rfl h6 rfl rfl rfl rfl rfl ?_)))))))
    refine R_e (n35 _ _ (.done (W_t (aA t7 (bC rfl (rNq 1) (by omega) (aA rfl (R_e ?_)))))))
    refine p133 _ _ _ ?_ ⟨(k+1),(w+1),rfl,t1,t2,t4,t6,(eTq (rNq (k+1)) (by rfl)),h2,h4,(eTq (@rfl Blk (bk 1 24 3 [[(iV (nop f.op b)),(iV 0),(V.ms 653 (w+1) 0 (k+1))]])) (by rfl)),(eTq (@rfl Blk (bz (w+1) 24 3 (List.map cF ((f.kids.take k).map (fun g=>nrm g b)++[(nrm (nth f.kids k) b)])))) (by (rw [fZ (by omega)]; done))),?_⟩
    · omega
    · omega
   refine aN (p333 _ _ _ (x32 _ _ (.done (W_r (aJ t6 h6 rfl rfl (bE t4 rfl rfl h4 rfl rfl rfl rfl rfl (R_e ?_)))))))
   refine aO ?_
   refine cM (bB (u:=(V.agg [(iV (nop f.op b)),(iV 0),(V.ms 653 w 0 k)])) t4 (@rfl Blk (bk 1 24 3 [[(iV (nop f.op b)),(iV 0),(V.ms 653 w 0 k)]])) (lB oB rfl rfl)) (bD (aF ?_) (aF ?_) (iJ h653 (by simp) (l:=((f.kids.take k).map (fun g=>nrm g b))) rfl (by (simp; omega)) (fun _=>by simp) ?_))
   · rw [cQ (by omega) (by omega)]; rfl
   · rw [cQ (by omega) (by omega)]; rfl
   · rw [cQ (by omega) (by omega)]; first|rfl|(show _=List.map _ f.kids; rw [show k=f.kids.length by omega,List.take_length]; done)
  · exfalso; omega
 have hb:b=false:=by simpa using c4
 refine aC (W_r (aA rfl (aW rfl rfl (aV (i:=6) (n:=0) (m:=3) rfl (cVq rfl) rfl (bE rfl rfl rfl rfl rfl rfl rfl rfl rfl (R_e (aB ?_)))))))
 refine dN (fun T H=>T 1=(V.bool b)∧T 2=(mPq 2)∧T 4=(mPq 4)∧T 6=(mPq 6)∧T 7=(iV 0)∧H 2=(bFq f)∧H 4=bYq∧H 6=(bk 1 24 3 [[(iV f.op),(iV 0),V.nilsl]])∧H 653=bZq∧True) ?_ ?_
 ·
  refine aA rfl ?_
  exact dZ ⟨rfl,rfl,rfl,rfl,rfl,rfl,rfl,rfl,rfl,trivial⟩
 intro T H ⟨t1,t2,t4,t6,t7,h2,h4,h6,h653,_⟩
 refine .lazyCell 653 24 3 6 0 2 [(iV f.op),(iV 0),V.nilsl] (by decide) (by rw [h6]; rfl) (by rw [h6]; rfl) rfl (.done ?_)
 refine cP (R:=fun T H=>T 1=(V.bool b)∧T 2=(mPq 2)∧T 4=(mPq 4)∧T 6=(mPq 6)∧T 7=(iV 0)∧H 2=(bFq f)∧H 4=bYq∧H 6=(bk 1 24 3 [[(iV f.op),(iV 0),(V.ms 653 1 0 0)]])∧H 653=(bz 1 24 3 [])∧True) ⟨t1,t2,t4,t6,t7,(uTq (uTq h2)),(uTq (uTq h4)),(by rw [aK,h6,(cVq h653)]; rfl),(by rw [bA _ _ (by decide),aK,(cVq h653)]),trivial⟩ ?_
 intro T H ⟨t1,t2,t4,t6,t7,h2,h4,h6,h653,_⟩
 refine aD fun Q36 n36 x36 y36 z36=>?_
 refine bS (fun mm T H=> ∃ (k:Nat) (w:Nat),mm=f.kids.length - k∧T 1=(V.bool b)∧T 2=(mPq 2)∧T 4=(mPq 4)∧T 6=(mPq 6)∧T 7=(iV ((k:Nat):Int))∧H 2=(bFq f)∧H 4=bYq∧H 6=(bk 1 24 3 [[(iV (nop f.op b)),(iV 0),(V.ms 653 w 0 k)]])∧H 653=(bz w 24 3 (List.map cF ((f.kids.take k).map (fun g=>nrm g b))))∧(k≤f.kids.length)) ?_ ?_
 ·
  refine ⟨_,0,1,rfl,t1,t2,t4,t6,(eTq t7 rfl),h2,h4,(eTq h6 (by (exact sQ (by simp only [nop,gR,hb,if_true,Bool.false_eq_true,if_false]; repeat (first|rfl|omega|split))))),(eTq h653 (by rfl)),?_⟩
  · omega
 intro mm T H ⟨k,w,hmm,t1,t2,t4,t6,t7,h2,h4,h6,h653,hk⟩ Q37 p137 p237 p337
 unfold uY
 refine aB (W_r (aA t7 (aL t2 h2 (aJ rfl h2 rfl rfl (bF rfl (bO rfl rfl (R_e ?_)))))))
 refine aH rfl (fun c38=>?_) fun c38=>?_
 ·
  refine aC (aD fun Q39 n39 x39 y39 z39=>(W_t (aL t6 h6 (aJ rfl h6 rfl rfl (aL t2 h2 (aJ rfl h2 rfl rfl (aA t7 ?_)))))))
  refine bT (i:=k) (rVq (V.sl (List.map cF f.kids))) (rNq k) (by omega) (bP _) rfl (aG rfl rfl (aA t1 (aI (ih (nth f.kids k) b skq (hp.2 _ (by omega)) (szq hz)) rfl (aR rfl rfl (cC (l:=((f.kids.take k).map (fun g=>nrm g b))) (f:=cF) (x:=(nrm (nth f.kids k) b)) (rVq (V.ms 653 w 0 k)) h653 (by (simp; omega)) (fV (x:=(nrm (nth f.kids k) b)) (rVq (V.sl [(rFq (nrm (nth f.kids k) b))]))) (eU _) (fC _) (by omega) (by omega) (aL t6 h6 (bE rfl rfl rfl h6 rfl rfl rfl rfl rfl ?_)))))))
  refine R_e (n39 _ _ (.done (W_t (aA t7 (bC rfl (rNq 1) (by omega) (aA rfl (R_e ?_)))))))
  refine p137 _ _ _ ?_ ⟨(k+1),(w+1),rfl,t1,t2,t4,t6,(eTq (rNq (k+1)) (by rfl)),h2,h4,(eTq (@rfl Blk (bk 1 24 3 [[(iV (nop f.op b)),(iV 0),(V.ms 653 (w+1) 0 (k+1))]])) (by rfl)),(eTq (@rfl Blk (bz (w+1) 24 3 (List.map cF ((f.kids.take k).map (fun g=>nrm g b)++[(nrm (nth f.kids k) b)])))) (by (rw [fZ (by omega)]; done))),?_⟩
  · omega
  · omega
 refine aN (p337 _ _ _ (x36 _ _ (.done (W_r (aJ t6 h6 rfl rfl (bE t4 rfl rfl h4 rfl rfl rfl rfl rfl (R_e ?_)))))))
 refine aO ?_
 refine cM (bB (u:=(V.agg [(iV (nop f.op b)),(iV 0),(V.ms 653 w 0 k)])) t4 (@rfl Blk (bk 1 24 3 [[(iV (nop f.op b)),(iV 0),(V.ms 653 w 0 k)]])) (lB oB rfl rfl)) (bD (aF ?_) (aF ?_) (iJ h653 (by simp) (l:=((f.kids.take k).map (fun g=>nrm g b))) rfl (by (simp; omega)) (fun _=>by simp) ?_))
 · rw [cQ (by omega) (by omega)]; rfl
 · rw [cQ (by omega) (by omega)]; rfl
 · rw [cQ (by omega) (by omega)]; first|rfl|(show _=List.map _ f.kids; rw [show k=f.kids.length by omega,List.take_length]; done)
theorem aBS (f:Fm) (b:Bool) (hf:okF f=true) (hz:f.sz≤4096):aQ Tryz.prog 39 [(V.agg (rFq f)),(V.bool b)] (V.agg (rFq (nrm f b))):=by
  have key: ∀ (mm:Nat) (f:Fm) (b:Bool),f.sz < mm→okF f=true→f.sz≤4096→aQ Tryz.prog 39 [(V.agg (rFq f)),(V.bool b)] (V.agg (rFq (nrm f b))):=by
    intro mm
    induction mm with
    |zero=>intro f b hlt; exact absurd hlt (Nat.not_lt_zero _)
    | succ mm ih =>
      intro f b hlt hf hz
      exact sE f b hf hz fun f2 b2 hlt2=>ih f2 b2 (by omega)
  exact key (f.sz+1) f b (Nat.lt_succ_self _) hf hz
theorem oA (f:Fm):aQ Tryz.prog 12 [(V.agg (rFq f))] (V.tup [(V.agg (rFq ((bG f).1))),(iV ((bG f).2))]):=by
 refine pW Tryz.func12 aPL fun hB=>?_
 unfold s12
 dsimp only
 refine W_r (cA (i:=1) (n:=0) (m:=3) (cs:=(rFq f)) rfl (cVq rfl) rfl rfl rfl (aV (i:=2) (n:=0) (m:=3) rfl (cVq rfl) rfl (aA rfl (R_e (aB (W_r (aJ rfl rfl rfl rfl ?_)))))))
 refine aI (eH f) rfl (cD rfl rfl (R_e ?_))
 refine aH rfl (fun c1=>?_) fun c1=>?_
 ·
  have d1:=aKc c1
  refine aB (W_r (aW rfl rfl (aJ rfl rfl rfl rfl (aI (eH f) rfl (bE rfl rfl rfl rfl rfl rfl rfl rfl rfl (aA rfl (R_e ?_)))))))
  refine aM ?_
  refine eM (bB (u:=(V.agg [(iV 0),(iV 0),V.nilsl])) rfl (@rfl Blk bYq) (lB oB rfl rfl)) (bR (rVq (iV (cW f)))) (bD (aF ?_) (aF ?_) (bU ?_)) (aF ?_)
  · rw [d1]; rfl
  · rw [d1]; rfl
  · rw [d1]; rfl
  · rw [d1]
 have d1:=aEy c1
 refine aC (W_r (aJ rfl rfl rfl rfl (aI (aBS f false (eZ (by omega)) (gA (by omega))) rfl (aI (tA (nrm f false) (zH f (eZ (by omega)) false) (Nat.le_trans (xA f false) (by have:=gA (f:=f) (by omega); omega))) rfl (bK rfl rfl (bK rfl rfl (bE rfl rfl rfl rfl rfl rfl rfl rfl rfl ?_)))))))
 refine aA rfl (R_e (aO ?_))
 refine eM (bB (u:=(V.agg (rFq ((chk (nrm f false)).1)))) rfl (@rfl Blk (bFq ((chk (nrm f false)).1))) (lB oB rfl rfl)) (bR (rVq (iV ((chk (nrm f false)).2)))) (bD (aF ?_) (aF ?_) (dA ?_ (fun _=>by simp))) (aF ?_)
 · rw [d1]
 · rw [d1]
 · rw [d1]
 · rw [d1]
def aSd:List SO:=[
 qF 5 0 1,
 ql 6 5,
 qC 7 .lss 6 1,
 qM 8 7,
 ⟨some (8,false),some 9,.fld 0 (.t 1)⟩,
 ⟨some (8,false),some 10,.load false 1 (.t 9)⟩,
 ⟨some (8,false),some 11,.bin .gtr (.t 10) (.c (.int .i64 64))⟩,
 sO 12 (.pick (.t 8) (.c (.bool true)) (.t 11))]
def aTw:List SO:=[
 qF 21 1 1,
 ql 22 21,
 qC 23 .lss 22 0,
 qM 24 23,
 ⟨some (24,false),some 25,.fld 1 (.t 1)⟩,
 ⟨some (24,false),some 26,.load false 1 (.t 25)⟩,
 ⟨some (24,false),some 27,.fld 2 (.t 1)⟩,
 ⟨some (24,false),some 28,.load false 1 (.t 27)⟩,
 ⟨some (24,false),some 29,.len (.t 28)⟩,
 ⟨some (24,false),some 30,.bin .geq (.t 26) (.t 29)⟩,
 sO 31 (.pick (.t 24) (.c (.bool true)) (.t 30))]
def aTU:List SO:=[
 qF 32 3 1,
 ql 33 32,
 qN 34 33,
 qF 35 2 1,
 ql 36 35,
 qN 37 36,
 qP 38 .neq 34 37]
def aOc:SC:=.seq (.seq (.reg [qM 39 3,qF 40 2 1,ql 41 40,qN 42 41,qP 43 .lss 39 42]) (.cond (.t 43) (.skip) (.exit 0))) (.seq (.block 1 (.seq (.reg [qL 46 4 1,qM 47 3,sO 48 (.call false 75 [.t 46,.t 47]),qM 4 48]) (.seq (.reg [qM 49 4,qC 50 .neq 49 0]) (.cond (.t 50) (.seq (.reg [qM 51 4,qM 2 51]) (.ret)) (.skip))))) (.reg [qM 44 3,qC 45 .add 44 1,qM 3 45]))
def s53:SF:=⟨52,[.tmp 2],.seq (.reg [sO 1 (.box 50 4 (.t 0)),qI 2 0]) (.seq (.seq (.reg aSd) (.cond (.t 12) (.seq (.reg [qI 2 2]) (.ret)) (.skip))) (.seq (.seq (.reg [qF 13 2 1,ql 14 13,qN 15 14,qC 16 .eql 15 0]) (.cond (.t 16) (.seq (.reg [qI 2 19]) (.ret)) (.skip))) (.seq (.seq (.reg [qF 17 2 1,ql 18 17,qN 19 18,qC 20 .gtr 19 128]) (.cond (.t 20) (.seq (.reg [qI 2 11]) (.ret)) (.skip))) (.seq (.seq (.reg aTw) (.cond (.t 31) (.seq (.reg [qI 2 2]) (.ret)) (.skip))) (.seq (.seq (.reg aTU) (.cond (.t 38) (.seq (.reg [qI 2 1]) (.ret)) (.skip))) (.seq (.seq (.reg [qI 3 0]) (.block 0 (.loop aOc))) (.seq (.reg [qI 2 0]) (.ret))))))))⟩
theorem aO6:bJ Tryz.prog ⟨oEq,[],[],[]⟩ Tryz.f53=some s53:=by kernel_rfl
def aSw:List SO:=[
 qF 6 2 2,
 ql 7 6,
 qM 8 1,
 qA 9 1 7 8,
 ql 10 9,
 qN 11 10,
 qF 12 0 2,
 ql 13 12,
 qP 14 .neq 11 13,
 qM 15 14,
 ⟨some (15,false),some 16,.fld 3 (.t 2)⟩,
 ⟨some (15,false),some 17,.load false 1 (.t 16)⟩,
 ⟨some (15,false),some 18,.mv (.t 1)⟩,
 ⟨some (15,false),some 19,.idx 1 (.t 17) (.t 18)⟩,
 ⟨some (15,false),some 20,.load false 1 (.t 19)⟩,
 ⟨some (15,false),some 21,.len (.t 20)⟩,
 ⟨some (15,false),some 22,.fld 0 (.t 2)⟩,
 ⟨some (15,false),some 23,.load false 1 (.t 22)⟩,
 ⟨some (15,false),some 24,.bin .neq (.t 21) (.t 23)⟩,
 sO 25 (.pick (.t 15) (.c (.bool true)) (.t 24))]
def aT5:List SO:=[
 qF 32 2 2,
 ql 33 32,
 qM 34 1,
 qA 35 1 33 34,
 ql 36 35,
 qM 37 5,
 qA 38 1 36 37,
 ql 39 38,
 qC 40 .lss 39 0,
 qM 41 40,
 ⟨some (41,false),some 42,.fld 2 (.t 2)⟩,
 ⟨some (41,false),some 43,.load false 1 (.t 42)⟩,
 ⟨some (41,false),some 44,.mv (.t 1)⟩,
 ⟨some (41,false),some 45,.idx 1 (.t 43) (.t 44)⟩,
 ⟨some (41,false),some 46,.load false 1 (.t 45)⟩,
 ⟨some (41,false),some 47,.mv (.t 5)⟩,
 ⟨some (41,false),some 48,.idx 1 (.t 46) (.t 47)⟩,
 ⟨some (41,false),some 49,.load false 1 (.t 48)⟩,
 ⟨some (41,false),some 50,.fld 2 (.t 2)⟩,
 ⟨some (41,false),some 51,.load false 1 (.t 50)⟩,
 ⟨some (41,false),some 52,.len (.t 51)⟩,
 ⟨some (41,false),some 53,.bin .geq (.t 49) (.t 52)⟩,
 sO 54 (.pick (.t 41) (.c (.bool true)) (.t 53)),
 qM 55 54,
 ⟨some (55,false),some 56,.fld 3 (.t 2)⟩,
 ⟨some (55,false),some 57,.load false 1 (.t 56)⟩,
 ⟨some (55,false),some 58,.mv (.t 1)⟩,
 ⟨some (55,false),some 59,.idx 1 (.t 57) (.t 58)⟩,
 ⟨some (55,false),some 60,.load false 1 (.t 59)⟩,
 ⟨some (55,false),some 61,.mv (.t 5)⟩,
 ⟨some (55,false),some 62,.idx 1 (.t 60) (.t 61)⟩,
 ⟨some (55,false),some 63,.load false 1 (.t 62)⟩,
 ⟨some (55,false),some 64,.bin .lss (.t 63) (.c (.int .i64 0))⟩,
 sO 65 (.pick (.t 55) (.c (.bool true)) (.t 64)),
 qM 66 65,
 ⟨some (66,false),some 67,.fld 3 (.t 2)⟩,
 ⟨some (66,false),some 68,.load false 1 (.t 67)⟩,
 ⟨some (66,false),some 69,.mv (.t 1)⟩,
 ⟨some (66,false),some 70,.idx 1 (.t 68) (.t 69)⟩,
 ⟨some (66,false),some 71,.load false 1 (.t 70)⟩,
 ⟨some (66,false),some 72,.mv (.t 5)⟩,
 ⟨some (66,false),some 73,.idx 1 (.t 71) (.t 72)⟩,
 ⟨some (66,false),some 74,.load false 1 (.t 73)⟩,
 ⟨some (66,false),some 75,.bin .gtr (.t 74) (.c (.int .i64 1048576))⟩,
 sO 76 (.pick (.t 66) (.c (.bool true)) (.t 75))]
def aNk:SC:=.seq (.seq (.reg [qM 26 5,qF 27 0 2,ql 28 27,qP 29 .lss 26 28]) (.cond (.t 29) (.skip) (.exit 0))) (.seq (.block 1 (.seq (.reg aT5) (.cond (.t 76) (.seq (.reg [qI 4 2]) (.ret)) (.skip)))) (.reg [qM 30 5,qC 31 .add 30 1,qM 5 31]))
def s75:SF:=⟨77,[.tmp 4],.seq (.reg [sO 2 (.box 50 4 (.t 0)),qI 4 0]) (.seq (.seq (.reg aSw) (.cond (.t 25) (.seq (.reg [qI 4 1]) (.ret)) (.skip))) (.seq (.seq (.reg [qI 5 0]) (.block 0 (.loop aNk))) (.seq (.reg [qI 4 0]) (.ret))))⟩
theorem aRL:bJ Tryz.prog ⟨oEq,[],[],[]⟩ Tryz.f75=some s75:=by kernel_rfl
theorem aIM (m:M) (s:Nat) (h1:s < m.nx.length) (h2:s < m.ot.length) (hi:1≤m.i∧m.i≤64):aQ Tryz.prog 75 [(V.agg [(iV m.i),(iV m.s),(bI m.nx),(bI m.ot)]),(iV ((s:Nat):Int))] (iV (tM m s)):=by
 refine pW Tryz.func75 aRL fun hB=>?_
 unfold s75
 dsimp only
 refine W_r (cA (i:=2) (n:=0) (m:=4) (cs:=[(iV m.i),(iV m.s),(bI m.nx),(bI m.ot)]) rfl (cVq rfl) rfl rfl rfl (aA rfl (R_e (aB (W_r (aL rfl rfl (aJ rfl rfl rfl rfl ?_)))))))
 refine aA rfl (dB (i:=s) (rVq (bI m.nx)) (rNq s) (by omega) rfl (aG rfl rfl (bF rfl (aL rfl rfl (aJ rfl rfl rfl rfl (cD rfl rfl (aA rfl ?_)))))))
 refine aT 10 (fun T H=>T 1=(iV ((s:Nat):Int))∧T 2=(mPq 2)∧T 25=(V.bool (decide (((((nth m.nx s).length:Nat):Int)≠m.i)∨((((nth m.ot s).length:Nat):Int)≠m.i))))∧H 2=(bMq m)∧True) ?_ ?_
 ·
  by_cases g1:(((nth m.nx s).length:Nat):Int)≠m.i
  ·
   refine G_n (edT g1 rfl) (G_n (edT g1 rfl) (G_n (edT g1 rfl) (G_n (edT g1 rfl) (G_n (edT g1 rfl) (G_n (edT g1 rfl) (G_n (edT g1 rfl) (G_n (edT g1 rfl) ?_)))))))
   refine G_n (edT g1 rfl) (aS (edT g1 rfl) rfl ?_)
   exact ⟨rfl,rfl,(cV g1),rfl,trivial⟩
  ·
   refine aE (edF g1 rfl) (aL rfl rfl (aE (edF g1 rfl) (aJ rfl rfl rfl rfl (aE (edF g1 rfl) (aA rfl (aE (edF g1 rfl) (dB (i:=s) (rVq (bI m.ot)) (rNq s) (by omega) rfl ?_)))))))
   refine aE (edF g1 rfl) (aG rfl rfl (aE (edF g1 rfl) (bF rfl (aE (edF g1 rfl) (aL rfl rfl (aE (edF g1 rfl) (aJ rfl rfl rfl rfl ?_)))))))
   refine aE (edF g1 rfl) (cD rfl rfl (aU (edF g1 rfl) rfl ?_))
   exact ⟨rfl,rfl,(cU g1),rfl,trivial⟩
 intro T H ⟨t1,t2,t25,h2,_⟩
 refine R_e ?_
 refine aH t25 (fun c2=>?_) fun c2=>?_
 ·
  refine aB (W_r (aA rfl (R_e (aM ?_))))
  refine bH (rVq (iV 1)) (aF ?_)
  · rw [tM,if_pos (by omega)]
 refine aC (aB (W_r (aA rfl (R_e (aD fun Q3 n3 x3 y3 z3=>?_)))))
 refine bS (fun mm T H=> ∃ (k:Nat),mm=m.i.toNat - k∧T 1=(iV ((s:Nat):Int))∧T 2=(mPq 2)∧T 5=(iV ((k:Nat):Int))∧H 2=(bMq m)∧(k≤m.i.toNat)∧(((nth m.nx s).length:Int)=m.i∧((nth m.ot s).length:Int)=m.i)∧(tM m s=fe (aAb m s) k (m.i.toNat - k))) ?_ ?_
 ·
  refine ⟨_,0,rfl,t1,t2,(eTq (rVq (iV 0)) rfl),h2,?_,?_,?_⟩
  · omega
  · omega
  · rw [tM,if_neg (by omega)]; rfl
 intro mm T H ⟨k,hmm,t1,t2,t5,h2,hk,hl,hc⟩ Q4 p14 p24 p34
 unfold aNk
 refine aB (W_r (aA t5 (aL t2 h2 (aJ rfl h2 rfl rfl (bO rfl rfl (R_e ?_))))))
 refine aH rfl (fun c5=>?_) fun c5=>?_
 ·
  refine aC (aD fun Q6 n6 x6 y6 z6=>?_)
  refine jD (fun T H=>T 1=(iV ((s:Nat):Int))∧T 2=(mPq 2)∧T 5=(iV ((k:Nat):Int))∧T 76=(V.bool (decide (((((nth (nth m.nx s) k) < (0:Int))∨(((m.nx.length:Nat):Int)≤(nth (nth m.nx s) k)))∨((nth (nth m.ot s) k) < (0:Int)))∨((1048576:Int) < (nth (nth m.ot s) k)))))∧H 2=(bMq m)∧True) ?_ ?_
  ·
   refine aL t2 h2 (aJ rfl h2 rfl rfl (aA t1 (dB (i:=s) (rVq (bI m.nx)) (rNq s) (by omega) rfl (aG rfl rfl (aA t5 (dB (i:=k) (rVq (aY (nth m.nx s))) (rNq k) (by omega) rfl (aG rfl rfl ?_)))))))
   refine bO rfl rfl (aA rfl ?_)
   refine aT 13 (fun T H=>T 1=(iV ((s:Nat):Int))∧T 2=(mPq 2)∧T 5=(iV ((k:Nat):Int))∧T 54=(V.bool (decide (((nth (nth m.nx s) k) < (0:Int))∨(((m.nx.length:Nat):Int)≤(nth (nth m.nx s) k)))))∧H 2=(bMq m)∧True) ?_ ?_
   ·
    by_cases g7:(nth (nth m.nx s) k) < (0:Int)
    ·
     refine G_n (edT g7 rfl) (G_n (edT g7 rfl) (G_n (edT g7 rfl) (G_n (edT g7 rfl) (G_n (edT g7 rfl) (G_n (edT g7 rfl) (G_n (edT g7 rfl) (G_n (edT g7 rfl) ?_)))))))
     refine G_n (edT g7 rfl) (G_n (edT g7 rfl) (G_n (edT g7 rfl) (G_n (edT g7 rfl) (aS (edT g7 rfl) rfl ?_))))
     exact ⟨t1,t2,t5,(cV g7),h2,trivial⟩
    ·
     refine aE (edF g7 rfl) (aL t2 h2 (aE (edF g7 rfl) (aJ rfl h2 rfl rfl (aE (edF g7 rfl) (aA t1 (aE (edF g7 rfl) (dB (i:=s) (rVq (bI m.nx)) (rNq s) (by omega) rfl ?_)))))))
     refine aE (edF g7 rfl) (aG rfl rfl (aE (edF g7 rfl) (aA t5 (aE (edF g7 rfl) (dB (i:=k) (rVq (aY (nth m.nx s))) (rNq k) (by omega) rfl (aE (edF g7 rfl) (aG rfl rfl ?_)))))))
     refine aE (edF g7 rfl) (aL t2 h2 (aE (edF g7 rfl) (aJ rfl h2 rfl rfl (aE (edF g7 rfl) (bF rfl (aE (edF g7 rfl) (jU rfl rfl ?_)))))))
     refine aU (edF g7 rfl) rfl ?_
     exact ⟨t1,t2,t5,(cU g7),h2,trivial⟩
   intro T H ⟨t1,t2,t5,t54,h2,_⟩
   refine aA t54 ?_
   refine aT 10 (fun T H=>T 1=(iV ((s:Nat):Int))∧T 2=(mPq 2)∧T 5=(iV ((k:Nat):Int))∧T 65=(V.bool (decide ((((nth (nth m.nx s) k) < (0:Int))∨(((m.nx.length:Nat):Int)≤(nth (nth m.nx s) k)))∨((nth (nth m.ot s) k) < (0:Int)))))∧H 2=(bMq m)∧True) ?_ ?_
   ·
    by_cases g8:((nth (nth m.nx s) k) < (0:Int))∨(((m.nx.length:Nat):Int)≤(nth (nth m.nx s) k))
    ·
     refine G_n (edT g8 rfl) (G_n (edT g8 rfl) (G_n (edT g8 rfl) (G_n (edT g8 rfl) (G_n (edT g8 rfl) (G_n (edT g8 rfl) (G_n (edT g8 rfl) (G_n (edT g8 rfl) ?_)))))))
     refine G_n (edT g8 rfl) (aS (edT g8 rfl) rfl ?_)
     exact ⟨t1,t2,t5,(cV g8),h2,trivial⟩
    ·
     refine aE (edF g8 rfl) (aL t2 h2 (aE (edF g8 rfl) (aJ rfl h2 rfl rfl (aE (edF g8 rfl) (aA t1 (aE (edF g8 rfl) (dB (i:=s) (rVq (bI m.ot)) (rNq s) (by omega) rfl ?_)))))))
     refine aE (edF g8 rfl) (aG rfl rfl (aE (edF g8 rfl) (aA t5 (aE (edF g8 rfl) (dB (i:=k) (rVq (aY (nth m.ot s))) (rNq k) (by omega) rfl (aE (edF g8 rfl) (aG rfl rfl ?_)))))))
     refine aE (edF g8 rfl) (bO rfl rfl (aU (edF g8 rfl) rfl ?_))
     exact ⟨t1,t2,t5,(cU g8),h2,trivial⟩
   intro T H ⟨t1,t2,t5,t65,h2,_⟩
   refine aA t65 ?_
   refine aT 10 (fun T H=>T 1=(iV ((s:Nat):Int))∧T 2=(mPq 2)∧T 5=(iV ((k:Nat):Int))∧T 76=(V.bool (decide (((((nth (nth m.nx s) k) < (0:Int))∨(((m.nx.length:Nat):Int)≤(nth (nth m.nx s) k)))∨((nth (nth m.ot s) k) < (0:Int)))∨((1048576:Int) < (nth (nth m.ot s) k)))))∧H 2=(bMq m)∧True) ?_ ?_
   ·
    by_cases g9:(((nth (nth m.nx s) k) < (0:Int))∨(((m.nx.length:Nat):Int)≤(nth (nth m.nx s) k)))∨((nth (nth m.ot s) k) < (0:Int))
    ·
     refine G_n (edT g9 rfl) (G_n (edT g9 rfl) (G_n (edT g9 rfl) (G_n (edT g9 rfl) (G_n (edT g9 rfl) (G_n (edT g9 rfl) (G_n (edT g9 rfl) (G_n (edT g9 rfl) ?_)))))))
     refine G_n (edT g9 rfl) (aS (edT g9 rfl) rfl ?_)
     exact ⟨t1,t2,t5,(cV g9),h2,trivial⟩
    ·
     refine aE (edF g9 rfl) (aL t2 h2 (aE (edF g9 rfl) (aJ rfl h2 rfl rfl (aE (edF g9 rfl) (aA t1 (aE (edF g9 rfl) (dB (i:=s) (rVq (bI m.ot)) (rNq s) (by omega) rfl ?_)))))))
     refine aE (edF g9 rfl) (aG rfl rfl (aE (edF g9 rfl) (aA t5 (aE (edF g9 rfl) (dB (i:=k) (rVq (aY (nth m.ot s))) (rNq k) (by omega) rfl (aE (edF g9 rfl) (aG rfl rfl ?_)))))))
     refine aE (edF g9 rfl) (fI rfl rfl (aU (edF g9 rfl) rfl ?_))
     exact ⟨t1,t2,t5,(cU g9),h2,trivial⟩
   intro T H ⟨t1,t2,t5,t76,h2,_⟩
   exact dZ ⟨t1,t2,t5,t76,h2,trivial⟩
  intro T H ⟨t1,t2,t5,t76,h2,_⟩
  refine bZ t76 (fun c10=>?_) fun c10=>?_
  ·
   refine W_r (aA rfl (R_e (aO (y6 _ _ (p24 _ _ (y3 _ _ ?_))))))
   refine bH (rVq (iV 2)) (aF ?_)
   · rw [hc,zQ (by unfold aAb; split <;> omega) (by omega)]; unfold aAb; split <;> omega
  refine cN (n6 _ _ (.done (W_t (aA t5 (bC rfl (rNq 1) (by omega) (aA rfl (R_e ?_)))))))
  refine p14 _ _ _ ?_ ⟨(k+1),rfl,t1,t2,(eTq (rNq (k+1)) (by rfl)),h2,?_,?_,?_⟩
  · omega
  · omega
  · omega
  · rw [hc,wI (by unfold aAb; split <;> omega) (by omega)]
 refine aN (p34 _ _ _ (x3 _ _ (.done (W_r (aA rfl (R_e (aO ?_)))))))
 refine bH (rVq (iV 0)) (aF ?_)
 · rw [hc,aBs (by omega)]
theorem aDY (m:M):aQ Tryz.prog 53 [(V.agg [(iV m.i),(iV m.s),(bI m.nx),(bI m.ot)])] (iV (dS m)):=by
 refine pW Tryz.func53 aO6 fun hB=>?_
 unfold s53
 dsimp only
 refine W_r (cA (i:=1) (n:=0) (m:=4) (cs:=[(iV m.i),(iV m.s),(bI m.nx),(bI m.ot)]) rfl (cVq rfl) rfl rfl rfl (aA rfl (R_e (aB (W_r (aL rfl rfl (aJ rfl rfl rfl rfl ?_)))))))
 refine bO rfl rfl (aA rfl ?_)
 refine aT 4 (fun T H=>T 1=(mPq 1)∧T 12=(V.bool (decide ((m.i < (1:Int))∨((64:Int) < m.i))))∧H 1=(bMq m)∧True) ?_ ?_
 ·
  by_cases g1:m.i < (1:Int)
  ·
   refine G_n (edT g1 rfl) (G_n (edT g1 rfl) (G_n (edT g1 rfl) (aS (edT g1 rfl) rfl ?_)))
   exact ⟨rfl,(cV g1),rfl,trivial⟩
  ·
   refine aE (edF g1 rfl) (aL rfl rfl (aE (edF g1 rfl) (aJ rfl rfl rfl rfl (aE (edF g1 rfl) (fI rfl rfl (aU (edF g1 rfl) rfl ?_))))))
   exact ⟨rfl,(cU g1),rfl,trivial⟩
 intro T H ⟨t1,t12,h1,_⟩
 refine R_e ?_
 refine aH t12 (fun c2=>?_) fun c2=>?_
 ·
  refine aB (W_r (aA rfl (R_e (aM ?_))))
  refine bH (rVq (iV 2)) (aF ?_)
  · rw [dS,if_pos (by omega)]
 refine aC (aB (W_r (aL t1 h1 (aJ rfl h1 rfl rfl (bF rfl (aX rfl rfl (R_e ?_)))))))
 refine aH rfl (fun c3=>?_) fun c3=>?_
 ·
  refine aB (W_r (aA rfl (R_e (aM ?_))))
  refine bH (rVq (iV 19)) (aF ?_)
  · rw [dS,if_neg (by omega),if_pos (by omega)]
 refine aC (aB (W_r (aL t1 h1 (aJ rfl h1 rfl rfl (bF rfl (fI rfl rfl (R_e ?_)))))))
 refine aH rfl (fun c4=>?_) fun c4=>?_
 ·
  refine aB (W_r (aA rfl (R_e (aM ?_))))
  refine bH (rVq (iV 11)) (aF ?_)
  · rw [dS,if_neg (by omega),if_neg (by omega),if_pos (by omega)]
 refine aC (aB (W_r (aL t1 h1 (aJ rfl h1 rfl rfl (bO rfl rfl (aA rfl ?_))))))
 refine aT 7 (fun T H=>T 1=(mPq 1)∧T 31=(V.bool (decide ((m.s < (0:Int))∨(((m.nx.length:Nat):Int)≤m.s))))∧H 1=(bMq m)∧True) ?_ ?_
 ·
  by_cases g5:m.s < (0:Int)
  ·
   refine G_n (edT g5 rfl) (G_n (edT g5 rfl) (G_n (edT g5 rfl) (G_n (edT g5 rfl) (G_n (edT g5 rfl) (G_n (edT g5 rfl) (aS (edT g5 rfl) rfl ?_))))))
   exact ⟨t1,(cV g5),h1,trivial⟩
  ·
   refine aE (edF g5 rfl) (aL t1 h1 (aE (edF g5 rfl) (aJ rfl h1 rfl rfl (aE (edF g5 rfl) (aL t1 h1 (aE (edF g5 rfl) (aJ rfl h1 rfl rfl ?_)))))))
   refine aE (edF g5 rfl) (bF rfl (aE (edF g5 rfl) (jU rfl rfl (aU (edF g5 rfl) rfl ?_))))
   exact ⟨t1,(cU g5),h1,trivial⟩
 intro T H ⟨t1,t31,h1,_⟩
 refine R_e ?_
 refine aH t31 (fun c6=>?_) fun c6=>?_
 ·
  refine aB (W_r (aA rfl (R_e (aM ?_))))
  refine bH (rVq (iV 2)) (aF ?_)
  · rw [dS,if_neg (by omega),if_neg (by omega),if_neg (by omega),if_pos (by omega)]
 refine aC (aB (W_r (aL t1 h1 (aJ rfl h1 rfl rfl (bF rfl (aL t1 h1 (aJ rfl h1 rfl rfl ?_)))))))
 refine bF rfl (cD rfl rfl (R_e ?_))
 refine aH rfl (fun c7=>?_) fun c7=>?_
 ·
  refine aB (W_r (aA rfl (R_e (aM ?_))))
  refine bH (rVq (iV 1)) (aF ?_)
  · rw [dS,if_neg (by omega),if_neg (by omega),if_neg (by omega),if_neg (by omega),if_pos (by omega)]
 refine aC (aB (W_r (aA rfl (R_e (aD fun Q8 n8 x8 y8 z8=>?_)))))
 refine bS (fun mm T H=> ∃ (k:Nat),mm=m.nx.length - k∧T 1=(mPq 1)∧T 3=(iV ((k:Nat):Int))∧H 1=(bMq m)∧(k≤m.nx.length)∧(1≤m.i∧m.i≤64∧0 < m.nx.length∧m.nx.length≤128∧m.ot.length=m.nx.length)∧(dS m=fe (tM m) k (m.nx.length - k))) ?_ ?_
 ·
  refine ⟨_,0,rfl,t1,(eTq (rVq (iV 0)) rfl),h1,?_,?_,?_⟩
  · omega
  · omega
  · rw [dS,if_neg (by omega),if_neg (by omega),if_neg (by omega),if_neg (by omega),if_neg (by omega)]; rfl
 intro mm T H ⟨k,hmm,t1,t3,h1,hk,hv,hc⟩ Q9 p19 p29 p39
 unfold aOc
 refine aB (W_r (aA t3 (aL t1 h1 (aJ rfl h1 rfl rfl (bF rfl (bO rfl rfl (R_e ?_)))))))
 refine aH rfl (fun c10=>?_) fun c10=>?_
 ·
  refine aC (aD fun Q11 n11 x11 y11 z11=>(W_r (aJ t1 h1 rfl rfl (aA t3 (aI (aIM m k (by omega) (by omega) (by omega)) rfl (aA rfl (R_e ?_)))))))
  refine W_r (aA rfl (cD rfl rfl (R_e ?_)))
  refine bZ rfl (fun c12=>?_) fun c12=>?_
  ·
   refine W_r (aA rfl (aA rfl (R_e (aO (y11 _ _ (p29 _ _ (y8 _ _ ?_)))))))
   refine bH (rVq (iV (tM m k))) (aF ?_)
   · rw [hc,zQ (by omega) (by omega)]
  refine cN (n11 _ _ (.done (W_t (aA t3 (bC rfl (rNq 1) (by omega) (aA rfl (R_e ?_)))))))
  refine p19 _ _ _ ?_ ⟨(k+1),rfl,t1,(eTq (rNq (k+1)) (by rfl)),h1,?_,?_,?_⟩
  · omega
  · omega
  · omega
  · rw [hc,wI (by omega) (by omega)]
 refine aN (p39 _ _ _ (x8 _ _ (.done (W_r (aA rfl (R_e (aO ?_)))))))
 refine bH (rVq (iV 0)) (aF ?_)
 · rw [hc,aBs (by omega)]
def aTD:List SO:=[
 qL 17 3 3,
 sO 18 (.call false 16 [.t 17]),
 qM 16 18,
 qE 19 16 0,
 qE 20 16 1,
 qM 7 19,
 qM 8 20]
def aTb:List SO:=[
 sO 27 (.build [.nilsl,.nilsl] []),
 qM 28 8,
 qC 29 .eql 28 0,
 qM 30 8,
 sN (.store 2 (.t 4) (.t 27)),
 qM 5 29,
 qM 6 30]
def aP0:List SO:=[
 qM 54 9,
 qM 55 10,
 qA 56 5 54 55,
 qF 57 1 56,
 qL 58 3 57,
 qM 59 11,
 qF 60 3 2,
 ql 61 60,
 qM 62 12,
 qA 63 1 61 62,
 ql 64 63,
 qM 65 11,
 qA 66 1 64 65,
 ql 67 66,
 sO 68 (.call false 14 [.t 58,.t 59,.t 67]),
 qM 53 68,
 qE 69 53 0,
 qE 70 53 1,
 sO 13 (.alloc 24 zFq),
 sN (.store 3 (.t 13) (.t 69)),
 qM 14 70]
def aRJ:List SO:=[
 qM 75 9,
 qF 76 2 2,
 ql 77 76,
 qM 78 12,
 qA 79 1 77 78,
 ql 80 79,
 qM 81 11,
 qA 82 1 80 81,
 ql 83 82,
 qL 84 3 13,
 sO 85 (.call false 76 [.t 75,.t 83,.t 84])]
def aPV:List SO:=[
 qF 86 2 2,
 ql 87 86,
 qM 88 12,
 qA 89 1 87 88,
 ql 90 89,
 qM 91 11,
 qA 92 1 90 91,
 ql 93 92,
 qL 94 3 13,
 qM 95 9,
 qM 96 10,
 qA 97 5 95 96,
 qF 98 4 97,
 ql 99 98,
 qM 100 11,
 sO 101 (.bslice 3 1 false [.int .i64 0] 1 [(0,.t 100)]),
 sO 102 (.bslice 52 1 false [.nilsl] 2 [(0,.t 99),(1,.t 101)]),
 sO 103 (.call false 77 [.t 102]),
 sO 104 (.build [.int .i64 0,.int .i64 0,.int .i64 0,.nilsl,.nilsl] [(0,1,.t 93),(1,3,.t 94),(4,1,.t 103)]),
 sO 15 (.alloc 117 [.int .i64 0,.int .i64 0,.int .i64 0,.nilsl,.nilsl]),
 sN (.store 5 (.t 15) (.t 104))]
def aRn:List SO:=[
 qL 106 3 13,
 sO 107 (.call false 16 [.t 106]),
 qM 105 107,
 qE 108 105 0,
 qE 109 105 1,
 qM 7 108,
 qM 14 109]
def aPZ:List SO:=[
 qL 116 4 2,
 qF 117 4 15,
 ql 118 117,
 sO 119 (.call false 78 [.t 116,.t 118]),
 sN (.store 2 (.t 4) (.t 119)),
 sO 5 (.mv (.c (.bool true))),
 qI 6 0]
def aNb:SC:=.seq (.seq (.reg [qM 42 11,qF 43 0 2,ql 44 43,qP 45 .lss 42 44]) (.cond (.t 45) (.skip) (.exit 2))) (.seq (.block 3 (.seq (.reg [qM 48 9,qM 49 10,qA 50 5 48 49,qF 51 0 50,ql 52 51,qM 12 52]) (.seq (.dreg [13] aP0) (.seq (.seq (.reg [qM 71 14,qC 72 .neq 71 0]) (.cond (.t 72) (.seq (.reg [sO 73 (.build [.nilsl,.nilsl] []),qM 74 14,sN (.store 2 (.t 4) (.t 73)),sO 5 (.mv (.c (.bool false))),qM 6 74]) (.ret)) (.skip))) (.seq (.seq (.reg aRJ) (.cond (.t 85) (.exit 3) (.skip))) (.seq (.dreg [15] aPV) (.seq (.reg aRn) (.seq (.seq (.reg [qM 110 14,qC 111 .neq 110 0]) (.cond (.t 111) (.seq (.reg [sO 112 (.build [.nilsl,.nilsl] []),qM 113 14,sN (.store 2 (.t 4) (.t 112)),sO 5 (.mv (.c (.bool false))),qM 6 113]) (.ret)) (.skip))) (.seq (.seq (.reg [qM 114 7,sO 115 (.un .not (.t 114))]) (.cond (.t 115) (.seq (.reg aPZ) (.ret)) (.skip))) (.seq (.seq (.reg [qM 120 9,qN 121 120,qC 122 .geq 121 4096]) (.cond (.t 122) (.seq (.reg [sO 123 (.build [.nilsl,.nilsl] []),sN (.store 2 (.t 4) (.t 123)),sO 5 (.mv (.c (.bool false))),qI 6 11]) (.ret)) (.skip))) (.reg [qM 124 9,qL 125 5 15,sO 126 (.bslice 117 5 false [.int .i64 0,.int .i64 0,.int .i64 0,.nilsl,.nilsl] 1 [(0,.t 125)]),sO 127 (.append 117 5 72 (.t 124) (.t 126)),qM 9 127]))))))))))) (.reg [qM 46 11,qC 47 .add 46 1,qM 11 47]))
def aNB:SC:=.seq (.seq (.reg [qM 36 10,qM 37 9,qN 38 37,qP 39 .lss 36 38]) (.cond (.t 39) (.skip) (.exit 0))) (.seq (.block 1 (.seq (.reg [qI 11 0]) (.block 2 (.loop aNb)))) (.reg [qM 40 10,qC 41 .add 40 1,qM 10 41]))
def s54:SF:=⟨129,[.cell 4 true 2,.tmp 5,.tmp 6],.seq (.reg [sO 2 (.box 50 4 (.t 0)),sO 3 (.box 24 3 (.t 1)),sO 4 (.alloc 54 [.nilsl,.nilsl]),sO 5 (.mv (.c (.bool false))),qI 6 0]) (.seq (.reg aTD) (.seq (.seq (.reg [qM 21 8,qC 22 .neq 21 0,qM 23 22,⟨some (23,false),some 24,.mv (.t 7)⟩,⟨some (23,false),some 25,.un .not (.t 24)⟩,sO 26 (.pick (.t 23) (.c (.bool true)) (.t 25))]) (.cond (.t 26) (.seq (.reg aTb) (.ret)) (.skip))) (.seq (.reg [qF 31 1 2,ql 32 31,qL 33 3 3,sO 34 (.build [.int .i64 0,.int .i64 0,.int .i64 0,.nilsl,.nilsl] [(0,1,.t 32),(1,3,.t 33)]),sO 35 (.bslice 117 5 true [.int .i64 0,.int .i64 0,.int .i64 0,.nilsl,.nilsl] 1 [(0,.t 34)]),qM 9 35]) (.seq (.seq (.reg [qI 10 0]) (.block 0 (.loop aNB))) (.seq (.reg [sO 128 (.build [.nilsl,.nilsl] []),sN (.store 2 (.t 4) (.t 128)),sO 5 (.mv (.c (.bool false))),qI 6 0]) (.ret))))))⟩
theorem aRe:bJ Tryz.prog ⟨oEq,[35],[],[]⟩ Tryz.f54=some s54:=by kernel_rfl
def aSo:List SO:=[
 qM 16 1,
 qC 17 .lss 16 0,
 qM 18 17,
 ⟨some (18,false),some 19,.mv (.t 1)⟩,
 ⟨some (18,false),some 20,.bin .geq (.t 19) (.c (.int .i64 64))⟩,
 sO 21 (.pick (.t 18) (.c (.bool true)) (.t 20)),
 qM 22 21,
 ⟨some (22,false),some 23,.mv (.t 2)⟩,
 ⟨some (22,false),some 24,.bin .lss (.t 23) (.c (.int .i64 0))⟩,
 sO 25 (.pick (.t 22) (.c (.bool true)) (.t 24)),
 qM 26 25,
 ⟨some (26,false),some 27,.mv (.t 2)⟩,
 ⟨some (26,false),some 28,.bin .gtr (.t 27) (.c (.int .i64 1048576))⟩,
 sO 29 (.pick (.t 26) (.c (.bool true)) (.t 28))]
def aSI:List SO:=[
 qL 32 3 3,
 sO 33 (.call false 12 [.t 32]),
 qM 31 33,
 qE 34 31 0,
 qE 35 31 1,
 sO 8 (.alloc 24 zFq),
 sN (.store 3 (.t 8) (.t 34)),
 qM 9 35]
def aTX:List SO:=[
 qL 40 3 8,
 qM 41 1,
 qM 42 2,
 sO 43 (.call false 41 [.t 40,.t 41,.t 42]),
 sO 44 (.call false 38 [.t 43]),
 qE 45 44 0,
 qE 46 44 1,
 sN (.store 3 (.t 6) (.t 45)),
 qM 7 46]
def s14:SF:=⟨47,[.cell 6 true 3,.tmp 7],.seq (.reg [sO 3 (.box 24 3 (.t 0)),sO 6 (.alloc 24 zFq),qI 7 0]) (.seq (.seq (.reg [qL 10 3 3,sO 11 (.call false 28 [.t 10]),qC 12 .neq 11 0]) (.cond (.t 12) (.seq (.reg [sO 13 (.build zFq []),qL 14 3 3,sO 15 (.call false 28 [.t 14]),sN (.store 3 (.t 6) (.t 13)),qM 7 15]) (.ret)) (.skip))) (.seq (.seq (.reg aSo) (.cond (.t 29) (.seq (.reg [sO 30 (.build zFq []),sN (.store 3 (.t 6) (.t 30)),qI 7 2]) (.ret)) (.skip))) (.seq (.reg aSI) (.seq (.seq (.reg [qM 36 9,qC 37 .neq 36 0]) (.cond (.t 37) (.seq (.reg [sO 38 (.build zFq []),qM 39 9,sN (.store 3 (.t 6) (.t 38)),qM 7 39]) (.ret)) (.skip))) (.seq (.reg aTX) (.ret))))))⟩
theorem aRE:bJ Tryz.prog ⟨oEq,[],[],[]⟩ Tryz.f14=some s14:=by kernel_rfl
def aTT:List SO:=[
 qF 38 2 3,
 ql 39 38,
 sO 40 (.idx 3 (.t 39) (.c (.int .i64 0))),
 qL 41 3 40,
 qM 42 1,
 qM 43 2,
 sO 44 (.call false 41 [.t 41,.t 42,.t 43]),
 sO 45 (.part false 0 1 (.t 44)),
 qC 46 .neq 45 1,
 sO 47 (.call false 68 [.t 46]),
 sN (.store 3 (.t 6) (.t 47))]
def aQ3:List SO:=[
 qF 61 2 3,
 ql 62 61,
 sO 63 (.idx 3 (.t 62) (.c (.int .i64 0))),
 qL 64 3 63,
 qM 65 1,
 qM 66 2,
 sO 67 (.call false 41 [.t 64,.t 65,.t 66]),
 qF 68 2 3,
 ql 69 68,
 sO 70 (.idx 3 (.t 69) (.c (.int .i64 1))),
 qL 71 3 70,
 qM 72 1,
 qM 73 2,
 sO 74 (.call false 41 [.t 71,.t 72,.t 73]),
 sO 9 (.alloc 24 zFq),
 sO 10 (.alloc 24 zFq),
 sN (.store 3 (.t 9) (.t 67)),
 sN (.store 3 (.t 10) (.t 74))]
def aPu:List SO:=[
 qM 75 7,
 qL 76 3 10,
 qM 77 8,
 qL 78 3 9,
 qL 79 3 3,
 sO 80 (.bslice 24 3 false zFq 2 [(0,.t 78),(1,.t 79)]),
 sO 81 (.build zFq [(0,1,.t 77),(2,1,.t 80)]),
 sO 82 (.bslice 24 3 false zFq 2 [(0,.t 76),(1,.t 81)]),
 sO 83 (.build zFq [(0,1,.t 75),(2,1,.t 82)]),
 sN (.store 3 (.t 6) (.t 83))]
def aQ5:List SO:=[
 qF 94 2 11,
 ql 95 94,
 qF 96 2 3,
 ql 97 96,
 qM 98 12,
 qA 99 3 97 98,
 qL 100 3 99,
 qM 101 1,
 qM 102 2,
 sO 103 (.call false 41 [.t 100,.t 101,.t 102]),
 sO 104 (.bslice 24 3 false zFq 1 [(0,.t 103)]),
 sO 105 (.append 24 3 40 (.t 95) (.t 104)),
 qF 106 2 11,
 sN (.store 1 (.t 106) (.t 105))]
def aOe:SC:=.seq (.seq (.reg [qM 87 12,qF 88 2 3,ql 89 88,qN 90 89,qP 91 .lss 87 90]) (.cond (.t 91) (.skip) (.exit 1))) (.seq (.block 2 (.reg aQ5)) (.reg [qM 92 12,qC 93 .add 92 1,qM 12 93]))
def s41:SF:=⟨108,[.cell 6 true 3],.seq (.reg [sO 3 (.box 24 3 (.t 0)),sO 6 (.alloc 24 zFq)]) (.seq (.seq (.reg [qF 13 0 3,ql 14 13]) (.block 0 (.seq (.reg [qC 16 .eql 14 2,qM 15 16]) (.cond (.t 15) (.seq (.reg [qF 17 1 3,ql 18 17,qM 19 1,qP 20 .eql 18 19,sO 21 (.call false 68 [.t 20]),sN (.store 3 (.t 6) (.t 21))]) (.ret)) (.seq (.reg [qC 23 .eql 14 3,qM 22 23]) (.cond (.t 22) (.seq (.reg [qF 24 1 3,ql 25 24,qM 26 2,qP 27 .eql 25 26,sO 28 (.call false 68 [.t 27]),sN (.store 3 (.t 6) (.t 28))]) (.ret)) (.seq (.reg [qC 30 .eql 14 4,qM 29 30]) (.cond (.t 29) (.seq (.seq (.reg [qF 31 2 3,ql 32 31,sO 33 (.idx 3 (.t 32) (.c (.int .i64 0))),qF 34 0 33,ql 35 34,qC 36 .eql 35 1]) (.cond (.t 36) (.seq (.reg [qL 37 3 3,sN (.store 3 (.t 6) (.t 37))]) (.ret)) (.skip))) (.seq (.reg aTT) (.ret))) (.seq (.seq (.reg [qC 49 .eql 14 7,qM 48 49]) (.cond (.t 48) (.skip) (.reg [qC 50 .eql 14 9,qM 48 50]))) (.cond (.t 48) (.seq (.reg [qF 51 2 3,ql 52 51,sO 53 (.idx 3 (.t 52) (.c (.int .i64 0))),qL 54 3 53,sN (.store 3 (.t 6) (.t 54))]) (.ret)) (.seq (.seq (.reg [qC 56 .eql 14 8,qM 55 56]) (.cond (.t 55) (.skip) (.reg [qC 57 .eql 14 10,qM 55 57]))) (.cond (.t 55) (.seq (.reg [qI 7 6,qI 8 5]) (.seq (.seq (.reg [qF 58 0 3,ql 59 58,qC 60 .eql 59 10]) (.cond (.t 60) (.seq (.reg [qI 7 5]) (.reg [qI 8 6])) (.skip))) (.seq (.dreg [9,10] aQ3) (.seq (.reg aPu) (.ret))))) (.skip))))))))))))) (.seq (.reg [qF 84 0 3,ql 85 84,sO 86 (.build zFq [(0,1,.t 85)]),sO 11 (.alloc 24 zFq),sN (.store 3 (.t 11) (.t 86))]) (.seq (.seq (.reg [qI 12 0]) (.block 1 (.loop aOe))) (.seq (.reg [qL 107 3 11,sN (.store 3 (.t 6) (.t 107))]) (.ret)))))⟩
theorem aPQ:bJ Tryz.prog ⟨oEq,[],[],[]⟩ Tryz.f41=some s41:=by kernel_rfl
def s68:SF:=⟨10,[.cell 2 true 3],.seq (.reg [sO 2 (.alloc 24 zFq)]) (.seq (.reg [sO 4 (.build zFq [(0,1,.c (.int .i64 1))]),sO 3 (.alloc 24 zFq),sN (.store 3 (.t 3) (.t 4))]) (.seq (.seq (.reg [qM 5 0]) (.cond (.t 5) (.seq (.reg [qL 6 3 3,sN (.store 3 (.t 2) (.t 6))]) (.ret)) (.skip))) (.seq (.reg [qL 7 3 3,sO 8 (.bslice 24 3 false zFq 1 [(0,.t 7)]),sO 9 (.build zFq [(0,1,.c (.int .i64 4)),(2,1,.t 8)]),sN (.store 3 (.t 2) (.t 9))]) (.ret))))⟩
theorem aRu:bJ Tryz.prog ⟨oEq,[],[],[]⟩ Tryz.f68=some s68:=by kernel_rfl
theorem oC (b:Bool):aQ Tryz.prog 68 [(V.bool b)] (V.agg (rFq (trF b))):=by
 refine pW Tryz.func68 aRu fun hB=>?_
 unfold s68
 dsimp only
 refine W_r (aV (i:=2) (n:=0) (m:=3) rfl (cVq rfl) rfl (R_e ?_))
 refine dN (fun T H=>T 0=(V.bool b)∧T 2=(mPq 2)∧T 3=(mPq 3)∧H 2=bYq∧H 3=(bk 1 24 3 [[(iV 1),(iV 0),V.nilsl]])∧True) ?_ ?_
 ·
  refine aW rfl rfl (aV (i:=3) (n:=0) (m:=3) rfl (cVq rfl) rfl (bE rfl rfl rfl rfl rfl rfl rfl rfl rfl ?_))
  exact dZ ⟨rfl,rfl,rfl,rfl,rfl,trivial⟩
 intro T H ⟨t0,t2,t3,h2,h3,_⟩
 refine aBQ (r':=[(iV 1),(iV 0),(V.sl (List.map cF ([])))]) h3 rfl (.done ?_)
 refine cP (R:=fun T H=>T 0=(V.bool b)∧T 2=(mPq 2)∧T 3=(mPq 3)∧H 2=bYq∧H 3=(bk 1 24 3 [[(iV 1),(iV 0),(V.sl (List.map cF ([])))]])∧True) ⟨t0,t2,t3,(uTq h2),(aK _ _ _),trivial⟩ ?_
 intro T H ⟨t0,t2,t3,h2,h3,_⟩
 refine aB (W_r (aA t0 (R_e ?_)))
 refine bX rfl (fun c1=>?_) (fun c1=>?_)
 ·
  refine aB (W_r (aJ t3 h3 rfl rfl (bE t2 rfl rfl h2 rfl rfl rfl rfl rfl (R_e (aM ?_)))))
  refine cM (bB (u:=(V.agg [(iV 1),(iV 0),(V.sl (List.map cF ([])))])) t2 (@rfl Blk (bk 1 24 3 [[(iV 1),(iV 0),(V.sl (List.map cF ([])))]])) (lB oB rfl rfl)) (bD (aF ?_) (aF ?_) (dA ?_ (fun _=>by simp)))
  · cases b <;> first|rfl|(simp_all; done)
  · cases b <;> first|rfl|(simp_all; done)
  · cases b <;> first|rfl|(simp_all; done)
 refine aC (W_r (aJ t3 h3 rfl rfl (aR rfl rfl (aW rfl rfl (bE t2 rfl rfl h2 rfl rfl rfl rfl rfl (R_e (aO ?_)))))))
 refine cM (bB (u:=(V.agg [(iV 4),(iV 0),(V.sl [[(iV 1),(iV 0),(V.sl (List.map cF ([])))]])])) t2 (@rfl Blk (bk 1 24 3 [[(iV 4),(iV 0),(V.sl [[(iV 1),(iV 0),(V.sl (List.map cF ([])))]])]])) (lB oB rfl rfl)) (bD (aF ?_) (aF ?_) (cH (by simp) (eTq (aFJ (x:=(Fm.nd (1:Int) (0:Int) [])) rfl) (congrArg (fun l=>V.sl (List.map cF l)) ?_))))
 · cases b <;> first|rfl|(simp_all; done)
 · cases b <;> first|rfl|(simp_all; done)
 · cases b <;> first|rfl|(simp_all; done)
theorem tV (f:Fm) (a o:Int) (hok:okF f=true) (hn:nnf f=true) (hz:f.sz≤4096) (ih: ∀ (g:Fm) (a o:Int),g.sz < f.sz→okF g=true→nnf g=true→g.sz≤4096→aQ Tryz.prog 41 [(V.agg (rFq g)),(iV a),(iV o)] (V.agg (rFq (mst g a o)))):aQ Tryz.prog 41 [(V.agg (rFq f)),(iV a),(iV o)] (V.agg (rFq (mst f a o))):=by
 refine pW Tryz.func41 aPQ fun hB=>?_
 unfold s41
 dsimp only
 have hp:=bN hok
 have hr:=dE hp.1
 have hln:=f.sz_len
 refine W_r (cA (i:=3) (n:=0) (m:=3) (cs:=(rFq f)) rfl (cVq rfl) rfl rfl rfl (aV (i:=6) (n:=0) (m:=3) rfl (cVq rfl) rfl (R_e (aB (W_r (aL rfl rfl (aJ rfl rfl rfl rfl ?_)))))))
 refine R_e (aD fun Q1 n1 x1 y1 z1=>(W_r (aX rfl rfl (aA rfl (R_e ?_)))))
 refine bZ rfl (fun c2=>?_) fun c2=>?_
 ·
  refine W_r (aL rfl rfl (aJ rfl rfl rfl rfl (aA rfl (aX rfl rfl (aI (oC (decide (f.arg=a))) rfl (bE rfl rfl rfl rfl rfl rfl rfl rfl rfl (R_e ?_)))))))
  refine aO (y1 _ _ ?_)
  refine cM (bB (u:=(V.agg (rFq (trF (decide (f.arg=a)))))) rfl (@rfl Blk (bFq (trF (decide (f.arg=a))))) (lB oB rfl rfl)) (bD (aF ?_) (aF ?_) (dA ?_ (fun _=>by simp)))
  · rw [oW (f:=f) (by omega)]
  · rw [oW (f:=f) (by omega)]
  · rw [oW (f:=f) (by omega)]
 refine W_r (aX rfl rfl (aA rfl (R_e ?_)))
 refine bZ rfl (fun c3=>?_) fun c3=>?_
 ·
  refine W_r (aL rfl rfl (aJ rfl rfl rfl rfl (aA rfl (aX rfl rfl (aI (oC (decide (f.arg=o))) rfl (bE rfl rfl rfl rfl rfl rfl rfl rfl rfl (R_e ?_)))))))
  refine aO (y1 _ _ ?_)
  refine cM (bB (u:=(V.agg (rFq (trF (decide (f.arg=o)))))) rfl (@rfl Blk (bFq (trF (decide (f.arg=o))))) (lB oB rfl rfl)) (bD (aF ?_) (aF ?_) (dA ?_ (fun _=>by simp)))
  · rw [oX (f:=f) (by omega)]
  · rw [oX (f:=f) (by omega)]
  · rw [oX (f:=f) (by omega)]
 refine W_r (aX rfl rfl (aA rfl (R_e ?_)))
 refine bZ rfl (fun c4=>?_) fun c4=>?_
 ·
  refine aB (W_r (aL rfl rfl (aJ rfl rfl rfl rfl (bT (i:=0) (rVq (V.sl (List.map cF f.kids))) (rNq 0) (by omega) (bP _) rfl (iW (cs':=(rFq (nth f.kids 0))) rfl rfl (aG rfl rfl (aX rfl rfl ?_)))))))
  refine R_e ?_
  refine aH rfl (fun c5=>?_) fun c5=>?_
  ·
   refine aB (W_r (aJ rfl rfl rfl rfl (bE rfl rfl rfl rfl rfl rfl rfl rfl rfl (R_e (aM (y1 _ _ ?_))))))
   refine cM (bB (u:=(V.agg (rFq f))) rfl (@rfl Blk (bFq f)) (lB oB rfl rfl)) (bD (aF ?_) (aF ?_) (dA ?_ (fun _=>by simp)))
   · rw [← aPk hok hn (by omega) (by omega) a o]
   · rw [← aPk hok hn (by omega) (by omega) a o]
   · rw [← aPk hok hn (by omega) (by omega) a o]
  refine aC (W_r (aL rfl rfl (aJ rfl rfl rfl rfl (bT (i:=0) (rVq (V.sl (List.map cF f.kids))) (rNq 0) (by omega) (bP _) rfl (aG rfl rfl (aA rfl (aA rfl ?_)))))))
  refine aI (ih (nth f.kids 0) a o skq (hp.2 _ (by omega)) (eC hn (by omega)).1 (szq hz)) rfl (aRs (v:=(iV ((mst (nth f.kids 0) a o).op))) rfl (by rfl) (cD rfl rfl (aI (oC (decide (((mst (nth f.kids 0) a o).op)≠(1:Int)))) rfl (bE rfl rfl rfl rfl rfl rfl rfl rfl rfl (R_e (aO (y1 _ _ ?_)))))))
  refine cM (bB (u:=(V.agg (rFq (trF (decide (((mst (nth f.kids 0) a o).op)≠(1:Int))))))) rfl (@rfl Blk (bFq (trF (decide (((mst (nth f.kids 0) a o).op)≠(1:Int)))))) (lB oB rfl rfl)) (bD (aF ?_) (aF ?_) (dA ?_ (fun _=>by simp)))
  · rw [oU (f:=f) (by omega),← aJh hok hn (by omega) (by omega)]
  · rw [oU (f:=f) (by omega),← aJh hok hn (by omega) (by omega)]
  · rw [oU (f:=f) (by omega),← aJh hok hn (by omega) (by omega)]
 refine aB (W_r (aX rfl rfl (aA rfl (R_e ?_))))
 refine aH rfl (fun c6=>?_) fun c6=>?_
 ·
  refine aC ?_
  refine bZ rfl (fun c7=>?_) fun c7=>?_
  ·
   refine W_r (aL rfl rfl (aJ rfl rfl rfl rfl (bT (i:=0) (rVq (V.sl (List.map cF f.kids))) (rNq 0) (by omega) (bP _) rfl (aG rfl rfl (bE rfl rfl rfl rfl rfl rfl rfl rfl rfl (R_e (aO ?_)))))))
   refine y1 _ _ ?_
   refine cM (bB (u:=(V.agg (rFq (nth f.kids 0)))) rfl (@rfl Blk (bFq (nth f.kids 0))) (lB oB rfl rfl)) (bD (aF ?_) (aF ?_) (dA ?_ (fun _=>by simp)))
   · rw [gN (f:=f) (by omega)]
   · rw [gN (f:=f) (by omega)]
   · rw [gN (f:=f) (by omega)]
  · exact (c7 c6).elim
 refine W_r (aX rfl rfl (aA rfl (R_e ?_)))
 refine bZ rfl (fun c8=>?_) fun c8=>?_
 ·
  refine W_r (aL rfl rfl (aJ rfl rfl rfl rfl (bT (i:=0) (rVq (V.sl (List.map cF f.kids))) (rNq 0) (by omega) (bP _) rfl (aG rfl rfl (bE rfl rfl rfl rfl rfl rfl rfl rfl rfl (R_e (aO ?_)))))))
  refine y1 _ _ ?_
  refine cM (bB (u:=(V.agg (rFq (nth f.kids 0)))) rfl (@rfl Blk (bFq (nth f.kids 0))) (lB oB rfl rfl)) (bD (aF ?_) (aF ?_) (dA ?_ (fun _=>by simp)))
  · rw [gN (f:=f) (by omega)]
  · rw [gN (f:=f) (by omega)]
  · rw [gN (f:=f) (by omega)]
 refine aB (W_r (aX rfl rfl (aA rfl (R_e ?_))))
 refine aH rfl (fun c9=>?_) fun c9=>?_
 ·
  refine aC ?_
  refine bZ rfl (fun c10=>?_) fun c10=>?_
  ·
   refine W_r (aA rfl (aA rfl (R_e (aB (W_r (aL rfl rfl (aJ rfl rfl rfl rfl ?_)))))))
   refine aX rfl rfl (R_e ?_)
   refine aH rfl (fun c11=>?_) fun c11=>?_
   ·
    refine aB (W_r (aA rfl (R_e (W_r (aA rfl (R_e ?_))))))
    refine vG (fun T H=>T 3=(mPq 3)∧T 6=(mPq 6)∧T 7=(iV 5)∧T 8=(iV 6)∧T 9=(mPq 9)∧T 10=(mPq 10)∧H 3=(bFq f)∧H 6=bYq∧H 9=(bFq (mst (nth f.kids 0) a o))∧H 10=(bFq (mst (nth f.kids 1) a o))∧H 11=bZq∧H 708=bZq∧True) (by exact (kK rfl (kK rfl nK))) ?_ ?_
    ·
     refine aL rfl rfl (aJ rfl rfl rfl rfl (bT (i:=0) (rVq (V.sl (List.map cF f.kids))) (rNq 0) (by omega) (bP _) rfl (aG rfl rfl (aA rfl (aA rfl (aI (ih (nth f.kids 0) a o skq (hp.2 _ (by omega)) (eC hn (by omega)).1 (szq hz)) rfl (aL rfl rfl ?_)))))))
     refine aJ rfl rfl rfl rfl (bT (i:=1) (rVq (V.sl (List.map cF f.kids))) (rNq 1) (by omega) (bP _) rfl (aG rfl rfl (aA rfl (aA rfl (aI (ih (nth f.kids 1) a o skq (hp.2 _ (by omega)) (eC hn (by omega)).1 (szq hz)) rfl (aV (i:=9) (n:=0) (m:=3) rfl (cVq rfl) rfl (aV (i:=10) (n:=0) (m:=3) rfl (cVq rfl) rfl ?_)))))))
     refine bE rfl rfl rfl rfl rfl rfl rfl rfl rfl (bE rfl rfl rfl rfl rfl rfl rfl rfl rfl ?_)
     exact dZ ⟨rfl,rfl,rfl,rfl,rfl,rfl,rfl,rfl,rfl,rfl,rfl,rfl,trivial⟩
    intro T H ⟨t3,t6,t7,t8,t9,t10,h3,h6,h9,h10,h11,h708,_⟩
    refine W_r (aA t7 (aJ t10 h10 rfl rfl (aA t8 (aJ t9 h9 rfl rfl (aJ t3 h3 rfl rfl (aR rfl rfl (aW rfl rfl ?_)))))))
    refine aR rfl rfl (aW rfl rfl (bE t6 rfl rfl h6 rfl rfl rfl rfl rfl (R_e (aO (y1 _ _ ?_)))))
    refine cM (bB (u:=(V.agg [(iV 5),(iV 0),(V.sl [(rFq (mst (nth f.kids 1) a o)),[(iV 6),(iV 0),(V.sl [(rFq (mst (nth f.kids 0) a o)),(rFq f)])]])])) t6 (@rfl Blk (bk 1 24 3 [[(iV 5),(iV 0),(V.sl [(rFq (mst (nth f.kids 1) a o)),[(iV 6),(iV 0),(V.sl [(rFq (mst (nth f.kids 0) a o)),(rFq f)])]])]])) (lB oB rfl rfl)) (bD (aF ?_) (aF ?_) (cH (by simp) ?_))
    · exfalso; omega
    · exfalso; omega
    · exfalso; omega
   refine aC (W_d (by exact (kK rfl (kK rfl nK))) (aL rfl rfl (aJ rfl rfl rfl rfl (bT (i:=0) (rVq (V.sl (List.map cF f.kids))) (rNq 0) (by omega) (bP _) rfl (aG rfl rfl (aA rfl (aA rfl ?_)))))))
   refine aI (ih (nth f.kids 0) a o skq (hp.2 _ (by omega)) (eC hn (by omega)).1 (szq hz)) rfl (aL rfl rfl (aJ rfl rfl rfl rfl (bT (i:=1) (rVq (V.sl (List.map cF f.kids))) (rNq 1) (by omega) (bP _) rfl (aG rfl rfl (aA rfl (aA rfl (aI (ih (nth f.kids 1) a o skq (hp.2 _ (by omega)) (eC hn (by omega)).1 (szq hz)) rfl ?_)))))))
   refine aV (i:=9) (n:=0) (m:=3) rfl (cVq rfl) rfl (aV (i:=10) (n:=0) (m:=3) rfl (cVq rfl) rfl (bE rfl rfl rfl rfl rfl rfl rfl rfl rfl (bE rfl rfl rfl rfl rfl rfl rfl rfl rfl (R_e ?_))))
   refine jD (fun T H=>T 6=(mPq 6)∧H 3=(bFq f)∧H 6=(bk 1 24 3 [[(iV 6),(iV 0),(V.sl [(rFq (mst (nth f.kids 1) a o)),[(iV 5),(iV 0),(V.sl [(rFq (mst (nth f.kids 0) a o)),(rFq f)])]])]])∧H 9=(bFq (mst (nth f.kids 0) a o))∧H 10=(bFq (mst (nth f.kids 1) a o))∧H 11=bZq∧H 708=bZq∧True) ?_ ?_
   ·
    refine aA rfl (aJ rfl rfl rfl rfl (aA rfl (aJ rfl rfl rfl rfl (aJ rfl rfl rfl rfl (aR rfl rfl (aW rfl rfl (aR rfl rfl ?_)))))))
    refine aW rfl rfl (bE rfl rfl rfl rfl rfl rfl rfl rfl rfl ?_)
    exact dZ ⟨rfl,rfl,rfl,rfl,rfl,rfl,rfl,trivial⟩
   intro T H ⟨t6,h3,h6,h9,h10,h11,h708,_⟩
   refine aO (y1 _ _ ?_)
   refine cM (bB (u:=(V.agg [(iV 6),(iV 0),(V.sl [(rFq (mst (nth f.kids 1) a o)),[(iV 5),(iV 0),(V.sl [(rFq (mst (nth f.kids 0) a o)),(rFq f)])]])])) t6 h6 (lB oB rfl rfl)) (bD (aF ?_) (aF ?_) (cH (by simp) ?_))
   · rw [qO (f:=f) (by omega) (by omega)]; try rfl
   · rw [qO (f:=f) (by omega) (by omega)]; try rfl
   · rw [qO (f:=f) (by omega) (by omega)]; exact aM7
  · exact (c10 c9).elim
 refine W_r (aX rfl rfl (aA rfl (R_e ?_)))
 refine bZ rfl (fun c12=>?_) fun c12=>?_
 ·
  refine W_r (aA rfl (aA rfl (R_e (aB (W_r (aL rfl rfl (aJ rfl rfl rfl rfl ?_)))))))
  refine aX rfl rfl (R_e ?_)
  refine aH rfl (fun c13=>?_) fun c13=>?_
  ·
   refine aB (W_r (aA rfl (R_e (W_r (aA rfl (R_e ?_))))))
   refine vG (fun T H=>T 3=(mPq 3)∧T 6=(mPq 6)∧T 7=(iV 5)∧T 8=(iV 6)∧T 9=(mPq 9)∧T 10=(mPq 10)∧H 3=(bFq f)∧H 6=bYq∧H 9=(bFq (mst (nth f.kids 0) a o))∧H 10=(bFq (mst (nth f.kids 1) a o))∧H 11=bZq∧H 708=bZq∧True) (by exact (kK rfl (kK rfl nK))) ?_ ?_
   ·
    refine aL rfl rfl (aJ rfl rfl rfl rfl (bT (i:=0) (rVq (V.sl (List.map cF f.kids))) (rNq 0) (by omega) (bP _) rfl (aG rfl rfl (aA rfl (aA rfl (aI (ih (nth f.kids 0) a o skq (hp.2 _ (by omega)) (eC hn (by omega)).1 (szq hz)) rfl (aL rfl rfl ?_)))))))
    refine aJ rfl rfl rfl rfl (bT (i:=1) (rVq (V.sl (List.map cF f.kids))) (rNq 1) (by omega) (bP _) rfl (aG rfl rfl (aA rfl (aA rfl (aI (ih (nth f.kids 1) a o skq (hp.2 _ (by omega)) (eC hn (by omega)).1 (szq hz)) rfl (aV (i:=9) (n:=0) (m:=3) rfl (cVq rfl) rfl (aV (i:=10) (n:=0) (m:=3) rfl (cVq rfl) rfl ?_)))))))
    refine bE rfl rfl rfl rfl rfl rfl rfl rfl rfl (bE rfl rfl rfl rfl rfl rfl rfl rfl rfl ?_)
    exact dZ ⟨rfl,rfl,rfl,rfl,rfl,rfl,rfl,rfl,rfl,rfl,rfl,rfl,trivial⟩
   intro T H ⟨t3,t6,t7,t8,t9,t10,h3,h6,h9,h10,h11,h708,_⟩
   refine W_r (aA t7 (aJ t10 h10 rfl rfl (aA t8 (aJ t9 h9 rfl rfl (aJ t3 h3 rfl rfl (aR rfl rfl (aW rfl rfl ?_)))))))
   refine aR rfl rfl (aW rfl rfl (bE t6 rfl rfl h6 rfl rfl rfl rfl rfl (R_e (aO (y1 _ _ ?_)))))
   refine cM (bB (u:=(V.agg [(iV 5),(iV 0),(V.sl [(rFq (mst (nth f.kids 1) a o)),[(iV 6),(iV 0),(V.sl [(rFq (mst (nth f.kids 0) a o)),(rFq f)])]])])) t6 (@rfl Blk (bk 1 24 3 [[(iV 5),(iV 0),(V.sl [(rFq (mst (nth f.kids 1) a o)),[(iV 6),(iV 0),(V.sl [(rFq (mst (nth f.kids 0) a o)),(rFq f)])]])]])) (lB oB rfl rfl)) (bD (aF ?_) (aF ?_) (cH (by simp) ?_))
   · rw [lK (f:=f) (by omega) (by omega)]; try rfl
   · rw [lK (f:=f) (by omega) (by omega)]; try rfl
   · rw [lK (f:=f) (by omega) (by omega)]; exact aM7
  · exact (c13 c12).elim
 refine cN (n1 _ _ (.done (W_r (aL rfl rfl (aJ rfl rfl rfl rfl (aW rfl rfl (aV (i:=11) (n:=0) (m:=3) rfl (cVq rfl) rfl ?_)))))))
 refine bE rfl rfl rfl rfl rfl rfl rfl rfl rfl (R_e (aB ?_))
 refine dN (fun T H=>T 1=(iV a)∧T 2=(iV o)∧T 3=(mPq 3)∧T 6=(mPq 6)∧T 11=(mPq 11)∧T 12=(iV 0)∧H 3=(bFq f)∧H 6=bYq∧H 9=bZq∧H 10=bZq∧H 11=(bk 1 24 3 [[(iV f.op),(iV 0),V.nilsl]])∧H 708=bZq∧True) ?_ ?_
 ·
  refine aA rfl ?_
  exact dZ ⟨rfl,rfl,rfl,rfl,rfl,rfl,rfl,rfl,rfl,rfl,rfl,rfl,trivial⟩
 intro T H ⟨t1,t2,t3,t6,t11,t12,h3,h6,h9,h10,h11,h708,_⟩
 refine .lazyCell 708 24 3 11 0 2 [(iV f.op),(iV 0),V.nilsl] (by decide) (by rw [h11]; rfl) (by rw [h11]; rfl) rfl (.done ?_)
 refine cP (R:=fun T H=>T 1=(iV a)∧T 2=(iV o)∧T 3=(mPq 3)∧T 6=(mPq 6)∧T 11=(mPq 11)∧T 12=(iV 0)∧H 3=(bFq f)∧H 6=bYq∧H 9=bZq∧H 10=bZq∧H 11=(bk 1 24 3 [[(iV f.op),(iV 0),(V.ms 708 1 0 0)]])∧H 708=(bz 1 24 3 [])∧True) ⟨t1,t2,t3,t6,t11,t12,(uTq (uTq h3)),(uTq (uTq h6)),(uTq (uTq h9)),(uTq (uTq h10)),(by rw [aK,h11,(cVq h708)]; rfl),(by rw [bA _ _ (by decide),aK,(cVq h708)]),trivial⟩ ?_
 intro T H ⟨t1,t2,t3,t6,t11,t12,h3,h6,h9,h10,h11,h708,_⟩
 refine aD fun Q14 n14 x14 y14 z14=>?_
 refine bS (fun mm T H=> ∃ (k:Nat) (w:Nat),mm=f.kids.length - k∧T 1=(iV a)∧T 2=(iV o)∧T 3=(mPq 3)∧T 6=(mPq 6)∧T 11=(mPq 11)∧T 12=(iV ((k:Nat):Int))∧H 3=(bFq f)∧H 6=bYq∧H 9=bZq∧H 10=bZq∧H 11=(bk 1 24 3 [[(iV f.op),(iV 0),(V.ms 708 w 0 k)]])∧H 708=(bz w 24 3 (List.map cF ((f.kids.take k).map (fun g=>mst g a o))))∧(k≤f.kids.length)) ?_ ?_
 ·
  refine ⟨_,0,1,rfl,t1,t2,t3,t6,t11,(eTq t12 rfl),h3,h6,h9,h10,h11,(eTq h708 (by rfl)),?_⟩
  · omega
 intro mm T H ⟨k,w,hmm,t1,t2,t3,t6,t11,t12,h3,h6,h9,h10,h11,h708,hk⟩ Q15 p115 p215 p315
 unfold aOe
 refine aB (W_r (aA t12 (aL t3 h3 (aJ rfl h3 rfl rfl (bF rfl (bO rfl rfl (R_e ?_)))))))
 refine aH rfl (fun c16=>?_) fun c16=>?_
 ·
  refine aC (aD fun Q17 n17 x17 y17 z17=>(W_t (aL t11 h11 (aJ rfl h11 rfl rfl (aL t3 h3 (aJ rfl h3 rfl rfl (aA t12 ?_)))))))
  refine bT (i:=k) (rVq (V.sl (List.map cF f.kids))) (rNq k) (by omega) (bP _) rfl (aG rfl rfl (aA t1 (aA t2 (aI (ih (nth f.kids k) a o skq (hp.2 _ (by omega)) (eC hn (by omega)).1 (szq hz)) rfl (aR rfl rfl (cC (l:=((f.kids.take k).map (fun g=>mst g a o))) (f:=cF) (x:=(mst (nth f.kids k) a o)) (rVq (V.ms 708 w 0 k)) h708 (by (simp; omega)) (fV (x:=(mst (nth f.kids k) a o)) (rVq (V.sl [(rFq (mst (nth f.kids k) a o))]))) (eU _) (fC _) (by omega) (by omega) (aL t11 h11 ?_)))))))
  refine bE rfl rfl rfl h11 rfl rfl rfl rfl rfl (R_e (n17 _ _ (.done (W_t (aA t12 (bC rfl (rNq 1) (by omega) (aA rfl ?_)))))))
  refine R_e ?_
  refine p115 _ _ _ ?_ ⟨(k+1),(w+1),rfl,t1,t2,t3,t6,t11,(eTq (rNq (k+1)) (by rfl)),h3,h6,h9,h10,(eTq (@rfl Blk (bk 1 24 3 [[(iV f.op),(iV 0),(V.ms 708 (w+1) 0 (k+1))]])) (by rfl)),(eTq (@rfl Blk (bz (w+1) 24 3 (List.map cF ((f.kids.take k).map (fun g=>mst g a o)++[(mst (nth f.kids k) a o)])))) (by (rw [fZ (by omega)]; done))),?_⟩
  · omega
  · omega
 refine aN (p315 _ _ _ (x14 _ _ (.done (W_r (aJ t11 h11 rfl rfl (bE t6 rfl rfl h6 rfl rfl rfl rfl rfl (R_e ?_)))))))
 refine aO ?_
 refine cM (bB (u:=(V.agg [(iV f.op),(iV 0),(V.ms 708 w 0 k)])) t6 (@rfl Blk (bk 1 24 3 [[(iV f.op),(iV 0),(V.ms 708 w 0 k)]])) (lB oB rfl rfl)) (bD (aF ?_) (aF ?_) (iJ h708 (by simp) (l:=((f.kids.take k).map (fun g=>mst g a o))) rfl (by (simp; omega)) (fun _=>by simp) ?_))
 · rw [pB (f:=f) (by omega)]; rfl
 · rw [pB (f:=f) (by omega)]; rfl
 · rw [pB (f:=f) (by omega),show k=f.kids.length by omega,List.take_length]; rfl
theorem aDm (f:Fm) (a o:Int) (hok:okF f=true) (hn:nnf f=true) (hz:f.sz≤4096):aQ Tryz.prog 41 [(V.agg (rFq f)),(iV a),(iV o)] (V.agg (rFq (mst f a o))):=by
  have key: ∀ (mm:Nat) (f:Fm) (a o:Int),f.sz < mm→okF f=true→nnf f=true→f.sz≤4096→aQ Tryz.prog 41 [(V.agg (rFq f)),(iV a),(iV o)] (V.agg (rFq (mst f a o))):=by
    intro mm
    induction mm with
    |zero=>intro f a o hlt; exact absurd hlt (Nat.not_lt_zero _)
    | succ mm ih =>
      intro f a o hlt hok hn hz
      exact tV f a o hok hn hz fun f2 a2 o2 hlt2=>ih f2 a2 o2 (by omega)
  exact key (f.sz+1) f a o (Nat.lt_succ_self _) hok hn hz
theorem aED (f:Fm) (a o:Int):aQ Tryz.prog 14 [(V.agg (rFq f)),(iV a),(iV o)] (V.tup [(V.agg (rFq ((stM f a o).1))),(iV ((stM f a o).2))]):=by
 refine pW Tryz.func14 aRE fun hB=>?_
 unfold s14
 dsimp only
 refine W_r (cA (i:=3) (n:=0) (m:=3) (cs:=(rFq f)) rfl (cVq rfl) rfl rfl rfl (aV (i:=6) (n:=0) (m:=3) rfl (cVq rfl) rfl (aA rfl (R_e (aB (W_r (aJ rfl rfl rfl rfl ?_)))))))
 refine aI (eH f) rfl (cD rfl rfl (R_e ?_))
 refine aH rfl (fun c1=>?_) fun c1=>?_
 ·
  have d1:=aKQ (a:=a) (o:=o) c1
  refine aB (W_r (aW rfl rfl (aJ rfl rfl rfl rfl (aI (eH f) rfl (bE rfl rfl rfl rfl rfl rfl rfl rfl rfl (aA rfl (R_e ?_)))))))
  refine aM ?_
  refine eM (bB (u:=(V.agg [(iV 0),(iV 0),V.nilsl])) rfl (@rfl Blk bYq) (lB oB rfl rfl)) (bR (rVq (iV (cW f)))) (bD (aF ?_) (aF ?_) (bU ?_)) (aF ?_)
  · rw [d1]; rfl
  · rw [d1]; rfl
  · rw [d1]; rfl
  · rw [d1]
 have d0:=c1
 refine aC (aB (W_r (aA rfl (bO rfl rfl (aA rfl ?_)))))
 refine aT 3 (fun T H=>T 1=(iV a)∧T 2=(iV o)∧T 3=(mPq 3)∧T 6=(mPq 6)∧T 21=(V.bool (decide ((a < (0:Int))∨((64:Int)≤a))))∧H 3=(bFq f)∧H 6=bYq∧H 8=bZq∧True) ?_ ?_
 ·
  by_cases g2:a < (0:Int)
  ·
   refine G_n (edT g2 rfl) (G_n (edT g2 rfl) (aS (edT g2 rfl) rfl ?_))
   exact ⟨rfl,rfl,rfl,rfl,(cV g2),rfl,rfl,rfl,trivial⟩
  ·
   refine aE (edF g2 rfl) (aA rfl (aE (edF g2 rfl) (jU rfl rfl (aU (edF g2 rfl) rfl ?_))))
   exact ⟨rfl,rfl,rfl,rfl,(cU g2),rfl,rfl,rfl,trivial⟩
 intro T H ⟨t1,t2,t3,t6,t21,h3,h6,h8,_⟩
 refine aA t21 ?_
 refine aT 3 (fun T H=>T 1=(iV a)∧T 2=(iV o)∧T 3=(mPq 3)∧T 6=(mPq 6)∧T 25=(V.bool (decide (((a < (0:Int))∨((64:Int)≤a))∨(o < (0:Int)))))∧H 3=(bFq f)∧H 6=bYq∧H 8=bZq∧True) ?_ ?_
 ·
  by_cases g3:(a < (0:Int))∨((64:Int)≤a)
  ·
   refine G_n (edT g3 rfl) (G_n (edT g3 rfl) (aS (edT g3 rfl) rfl ?_))
   exact ⟨t1,t2,t3,t6,(cV g3),h3,h6,h8,trivial⟩
  ·
   refine aE (edF g3 rfl) (aA t2 (aE (edF g3 rfl) (bO rfl rfl (aU (edF g3 rfl) rfl ?_))))
   exact ⟨t1,t2,t3,t6,(cU g3),h3,h6,h8,trivial⟩
 intro T H ⟨t1,t2,t3,t6,t25,h3,h6,h8,_⟩
 refine aA t25 ?_
 refine aT 3 (fun T H=>T 1=(iV a)∧T 2=(iV o)∧T 3=(mPq 3)∧T 6=(mPq 6)∧T 29=(V.bool (decide ((((a < (0:Int))∨((64:Int)≤a))∨(o < (0:Int)))∨((1048576:Int) < o))))∧H 3=(bFq f)∧H 6=bYq∧H 8=bZq∧True) ?_ ?_
 ·
  by_cases g4:((a < (0:Int))∨((64:Int)≤a))∨(o < (0:Int))
  ·
   refine G_n (edT g4 rfl) (G_n (edT g4 rfl) (aS (edT g4 rfl) rfl ?_))
   exact ⟨t1,t2,t3,t6,(cV g4),h3,h6,h8,trivial⟩
  ·
   refine aE (edF g4 rfl) (aA t2 (aE (edF g4 rfl) (fI rfl rfl (aU (edF g4 rfl) rfl ?_))))
   exact ⟨t1,t2,t3,t6,(cU g4),h3,h6,h8,trivial⟩
 intro T H ⟨t1,t2,t3,t6,t29,h3,h6,h8,_⟩
 refine R_e ?_
 refine aH t29 (fun c5=>?_) fun c5=>?_
 ·
  have d1:=aKe (a:=a) (o:=o) d0 (by omega)
  refine aB (W_r (aW rfl rfl (bE t6 rfl rfl h6 rfl rfl rfl rfl rfl (aA rfl (R_e (aM ?_))))))
  refine eM (bB (u:=(V.agg [(iV 0),(iV 0),V.nilsl])) t6 (@rfl Blk bYq) (lB oB rfl rfl)) (bR (rVq (iV 2))) (bD (aF ?_) (aF ?_) (bU ?_)) (aF ?_)
  · rw [d1]; rfl
  · rw [d1]; rfl
  · rw [d1]; rfl
  · rw [d1]
 have d2: ¬(a < 0∨64≤a∨o < 0∨1048576 < o):=by omega
 refine aC (W_r (aJ t3 h3 rfl rfl (aI (oA f) rfl (aA rfl (bK rfl rfl (bK rfl rfl (aV (i:=8) (n:=0) (m:=3) rfl (cVq h8) rfl ?_)))))))
 refine bE rfl rfl rfl rfl rfl rfl rfl rfl rfl (aA rfl (R_e (aB (W_r (aA rfl (cD rfl rfl (R_e ?_)))))))
 refine aH rfl (fun c6=>?_) fun c6=>?_
 ·
  have d1:=aII d0 d2 c6
  refine aB (W_r (aW rfl rfl (aA rfl (bE t6 rfl rfl h6 rfl rfl rfl rfl rfl (aA rfl (R_e (aM ?_)))))))
  refine eM (bB (u:=(V.agg [(iV 0),(iV 0),V.nilsl])) t6 (@rfl Blk bYq) (lB oB rfl rfl)) (bR (rVq (iV ((bG f).2)))) (bD (aF ?_) (aF ?_) (bU ?_)) (aF ?_)
  · rw [d1]; rfl
  · rw [d1]; rfl
  · rw [d1]; rfl
  · rw [d1]
 have d1:=aJ9 d0 d2 c6
 have v1:=sK c6
 have v2:=aGx d0 c6
 refine aC (W_r (aJ rfl rfl rfl rfl (aA t1 (aA t2 (aI (aDm ((bG f).1) a o v2.1 v2.2 (gA v1)) rfl (aI (tA (mst ((bG f).1) a o) (aD8 _ a o v2.1 v2.2).1 (aFh v2.1 (gA v1))) rfl (bK rfl rfl ?_)))))))
 refine bK rfl rfl (bE t6 rfl rfl h6 rfl rfl rfl rfl rfl (aA rfl (R_e (aO ?_))))
 refine eM (bB (u:=(V.agg (rFq ((chk (mst ((bG f).1) a o)).1)))) t6 (@rfl Blk (bFq ((chk (mst ((bG f).1) a o)).1))) (lB oB rfl rfl)) (bR (rVq (iV ((chk (mst ((bG f).1) a o)).2)))) (bD (aF ?_) (aF ?_) (dA ?_ (fun _=>by simp))) (aF ?_)
 · rw [d1]
 · rw [d1]
 · rw [d1]
 · rw [d1]
def aR9:List SO:=[
 qL 9 3 1,
 sO 10 (.build [.nilsl,.nilsl] []),
 sO 11 (.call false 43 [.t 9,.t 10]),
 qE 12 11 0,
 qE 13 11 1,
 qM 2 12,
 qM 3 13]
def s16:SF:=⟨14,[.tmp 2,.tmp 3],.seq (.reg [sO 1 (.box 24 3 (.t 0)),sO 2 (.mv (.c (.bool false))),qI 3 0]) (.seq (.seq (.reg [qL 4 3 1,sO 5 (.call false 28 [.t 4]),qC 6 .neq 5 0]) (.cond (.t 6) (.seq (.reg [qL 7 3 1,sO 8 (.call false 28 [.t 7]),sO 2 (.mv (.c (.bool false))),qM 3 8]) (.ret)) (.skip))) (.seq (.reg aR9) (.ret)))⟩
theorem aRv:bJ Tryz.prog ⟨oEq,[],[],[]⟩ Tryz.f16=some s16:=by kernel_rfl
def aTz:List SO:=[
 qF 18 1 3,
 ql 19 18,
 qN 20 19,
 qF 21 0 3,
 ql 22 21,
 qN 23 22,
 qP 24 .neq 20 23,
 qM 17 24]
def aTZ:List SO:=[
 qL 25 3 2,
 qL 26 2 3,
 sO 27 (.call false 70 [.t 25,.t 26]),
 sO 28 (.idx 1 (.t 27) (.c (.int .i64 0))),
 ql 29 28,
 qM 4 29,
 qI 5 0]
def s43:SF:=⟨30,[.tmp 4,.tmp 5],.seq (.reg [sO 2 (.box 24 3 (.t 0)),sO 3 (.box 54 2 (.t 1)),sO 4 (.mv (.c (.bool false))),qI 5 0]) (.seq (.block 0 (.seq (.reg [qL 7 3 2,sO 8 (.call false 28 [.t 7]),qC 9 .neq 8 0,qM 6 9]) (.cond (.t 6) (.seq (.reg [qL 10 3 2,sO 11 (.call false 28 [.t 10]),sO 4 (.mv (.c (.bool false))),qM 5 11]) (.ret)) (.seq (.reg [qF 13 0 3,ql 14 13,qN 15 14,qC 16 .gtr 15 1024,qM 12 16]) (.cond (.t 12) (.seq (.reg [sO 4 (.mv (.c (.bool false))),qI 5 3]) (.ret)) (.seq (.reg aTz) (.cond (.t 17) (.seq (.reg [sO 4 (.mv (.c (.bool false))),qI 5 1]) (.ret)) (.skip)))))))) (.seq (.reg aTZ) (.ret)))⟩
theorem aPP:bJ Tryz.prog ⟨oEq,[],[],[]⟩ Tryz.f43=some s43:=by kernel_rfl
def aTI:List SO:=[
 qM 29 7,
 qF 30 2 2,
 ql 31 30,
 qM 32 8,
 qA 33 3 31 32,
 qL 34 3 33,
 qL 35 2 3,
 sO 36 (.call false 70 [.t 34,.t 35]),
 sO 37 (.bslice 41 1 false [.nilsl] 1 [(0,.t 36)]),
 sO 38 (.append 41 1 24 (.t 29) (.t 37)),
 qM 7 38]
def aNt:SC:=.seq (.seq (.reg [qM 22 8,qF 23 2 2,ql 24 23,qN 25 24,qP 26 .lss 22 25]) (.cond (.t 26) (.skip) (.exit 0))) (.seq (.block 1 (.reg aTI)) (.reg [qM 27 8,qC 28 .add 27 1,qM 8 28]))
def aRl:List SO:=[
 qM 103 6,
 qM 104 9,
 qM 105 10,
 qM 106 105,
 ⟨some (106,true),some 107,.fld 0 (.t 3)⟩,
 ⟨some (106,true),some 108,.load false 1 (.t 107)⟩,
 ⟨some (106,true),some 109,.mv (.t 9)⟩,
 ⟨some (106,true),some 110,.idx 1 (.t 108) (.t 109)⟩,
 ⟨some (106,true),some 111,.load false 1 (.t 110)⟩,
 ⟨some (106,true),some 112,.fld 1 (.t 2)⟩,
 ⟨some (106,true),some 113,.load false 1 (.t 112)⟩,
 ⟨some (106,true),some 114,.bin .eql (.t 111) (.t 113)⟩,
 sO 115 (.pick (.t 106) (.t 114) (.c (.bool false))),
 qA 116 1 103 104,
 sN (.store 1 (.t 116) (.t 115))]
def aRB:List SO:=[
 qM 119 6,
 qM 120 9,
 qM 121 10,
 qM 122 121,
 ⟨some (122,true),some 123,.fld 1 (.t 3)⟩,
 ⟨some (122,true),some 124,.load false 1 (.t 123)⟩,
 ⟨some (122,true),some 125,.mv (.t 9)⟩,
 ⟨some (122,true),some 126,.idx 1 (.t 124) (.t 125)⟩,
 ⟨some (122,true),some 127,.load false 1 (.t 126)⟩,
 ⟨some (122,true),some 128,.fld 1 (.t 2)⟩,
 ⟨some (122,true),some 129,.load false 1 (.t 128)⟩,
 ⟨some (122,true),some 130,.bin .eql (.t 127) (.t 129)⟩,
 sO 131 (.pick (.t 122) (.t 130) (.c (.bool false))),
 qA 132 1 119 120,
 sN (.store 1 (.t 132) (.t 131))]
def aQ7:List SO:=[
 qM 135 6,
 qM 136 9,
 qM 137 7,
 sO 138 (.idx 1 (.t 137) (.c (.int .i64 0))),
 ql 139 138,
 qM 140 9,
 qA 141 1 139 140,
 ql 142 141,
 sO 143 (.un .not (.t 142)),
 qA 144 1 135 136,
 sN (.store 1 (.t 144) (.t 143))]
def aOo:List SO:=[
 qM 147 6,
 qM 148 9,
 qM 149 10,
 qM 150 149,
 ⟨some (150,true),some 151,.mv (.t 7)⟩,
 ⟨some (150,true),some 152,.idx 1 (.t 151) (.c (.int .i64 0))⟩,
 ⟨some (150,true),some 153,.load false 1 (.t 152)⟩,
 ⟨some (150,true),some 154,.mv (.t 9)⟩,
 ⟨some (150,true),some 155,.bin .add (.t 154) (.c (.int .i64 1))⟩,
 ⟨some (150,true),some 156,.idx 1 (.t 153) (.t 155)⟩,
 ⟨some (150,true),some 157,.load false 1 (.t 156)⟩,
 sO 158 (.pick (.t 150) (.t 157) (.c (.bool false))),
 qA 159 1 147 148,
 sN (.store 1 (.t 159) (.t 158))]
def aPM:List SO:=[
 qM 162 6,
 qM 163 9,
 qM 164 10,
 sO 165 (.un .not (.t 164)),
 qM 166 165,
 ⟨some (166,false),some 167,.mv (.t 7)⟩,
 ⟨some (166,false),some 168,.idx 1 (.t 167) (.c (.int .i64 0))⟩,
 ⟨some (166,false),some 169,.load false 1 (.t 168)⟩,
 ⟨some (166,false),some 170,.mv (.t 9)⟩,
 ⟨some (166,false),some 171,.bin .add (.t 170) (.c (.int .i64 1))⟩,
 ⟨some (166,false),some 172,.idx 1 (.t 169) (.t 171)⟩,
 ⟨some (166,false),some 173,.load false 1 (.t 172)⟩,
 sO 174 (.pick (.t 166) (.c (.bool true)) (.t 173)),
 qA 175 1 162 163,
 sN (.store 1 (.t 175) (.t 174))]
def aPx:List SO:=[
 qM 187 6,
 qM 188 9,
 qM 189 6,
 qM 190 9,
 qA 191 1 189 190,
 ql 192 191,
 qM 193 192,
 ⟨some (193,false),some 194,.mv (.t 7)⟩,
 ⟨some (193,false),some 195,.idx 1 (.t 194) (.c (.int .i64 1))⟩,
 ⟨some (193,false),some 196,.load false 1 (.t 195)⟩,
 ⟨some (193,false),some 197,.mv (.t 11)⟩,
 ⟨some (193,false),some 198,.idx 1 (.t 196) (.t 197)⟩,
 ⟨some (193,false),some 199,.load false 1 (.t 198)⟩,
 sO 200 (.pick (.t 193) (.c (.bool true)) (.t 199)),
 qA 201 1 187 188,
 sN (.store 1 (.t 201) (.t 200))]
def aQS:List SO:=[
 qM 202 7,
 sO 203 (.idx 1 (.t 202) (.c (.int .i64 0))),
 ql 204 203,
 qM 205 11,
 qA 206 1 204 205,
 ql 207 206,
 qM 12 207]
def aNU:SC:=.seq (.seq (.reg [qM 179 11,qM 180 5,qP 181 .leq 179 180,qM 182 181,⟨some (182,true),some 183,.mv (.t 12)⟩,sO 184 (.pick (.t 182) (.t 183) (.c (.bool false)))]) (.cond (.t 184) (.skip) (.exit 7))) (.seq (.block 8 (.seq (.reg aPx) (.reg aQS))) (.reg [qM 185 11,qC 186 .add 185 1,qM 11 186]))
def aPU:List SO:=[
 qM 222 6,
 qM 223 9,
 qM 224 6,
 qM 225 9,
 qA 226 1 224 225,
 ql 227 226,
 qM 228 227,
 ⟨some (228,true),some 229,.mv (.t 7)⟩,
 ⟨some (228,true),some 230,.idx 1 (.t 229) (.c (.int .i64 1))⟩,
 ⟨some (228,true),some 231,.load false 1 (.t 230)⟩,
 ⟨some (228,true),some 232,.mv (.t 13)⟩,
 ⟨some (228,true),some 233,.idx 1 (.t 231) (.t 232)⟩,
 ⟨some (228,true),some 234,.load false 1 (.t 233)⟩,
 sO 235 (.pick (.t 228) (.t 234) (.c (.bool false))),
 qA 236 1 222 223,
 sN (.store 1 (.t 236) (.t 235))]
def aPv:List SO:=[
 qM 237 7,
 sO 238 (.idx 1 (.t 237) (.c (.int .i64 0))),
 ql 239 238,
 qM 240 13,
 qA 241 1 239 240,
 ql 242 241,
 sO 243 (.un .not (.t 242)),
 qM 14 243]
def aN2:SC:=.seq (.seq (.reg [qM 214 13,qM 215 5,qP 216 .leq 214 215,qM 217 216,⟨some (217,true),some 218,.mv (.t 14)⟩,sO 219 (.pick (.t 217) (.t 218) (.c (.bool false)))]) (.cond (.t 219) (.skip) (.exit 9))) (.seq (.block 10 (.seq (.reg aPU) (.reg aPv))) (.reg [qM 220 13,qC 221 .add 220 1,qM 13 221]))
def aPn:List SO:=[
 qM 49 6,
 qM 50 9,
 qF 51 0 2,
 ql 52 51,
 qC 53 .eql 52 5,
 qA 54 1 49 50,
 sN (.store 1 (.t 54) (.t 53))]
def aOP:List SO:=[
 qM 64 6,
 qM 65 9,
 qM 66 6,
 qM 67 9,
 qA 68 1 66 67,
 ql 69 68,
 qM 70 69,
 ⟨some (70,true),some 71,.mv (.t 7)⟩,
 ⟨some (70,true),some 72,.mv (.t 15)⟩,
 ⟨some (70,true),some 73,.idx 1 (.t 71) (.t 72)⟩,
 ⟨some (70,true),some 74,.load false 1 (.t 73)⟩,
 ⟨some (70,true),some 75,.mv (.t 9)⟩,
 ⟨some (70,true),some 76,.idx 1 (.t 74) (.t 75)⟩,
 ⟨some (70,true),some 77,.load false 1 (.t 76)⟩,
 sO 78 (.pick (.t 70) (.t 77) (.c (.bool false))),
 qA 79 1 64 65,
 sN (.store 1 (.t 79) (.t 78))]
def aP2:List SO:=[
 qM 80 6,
 qM 81 9,
 qM 82 6,
 qM 83 9,
 qA 84 1 82 83,
 ql 85 84,
 qM 86 85,
 ⟨some (86,false),some 87,.mv (.t 7)⟩,
 ⟨some (86,false),some 88,.mv (.t 15)⟩,
 ⟨some (86,false),some 89,.idx 1 (.t 87) (.t 88)⟩,
 ⟨some (86,false),some 90,.load false 1 (.t 89)⟩,
 ⟨some (86,false),some 91,.mv (.t 9)⟩,
 ⟨some (86,false),some 92,.idx 1 (.t 90) (.t 91)⟩,
 ⟨some (86,false),some 93,.load false 1 (.t 92)⟩,
 sO 94 (.pick (.t 86) (.c (.bool true)) (.t 93)),
 qA 95 1 80 81,
 sN (.store 1 (.t 95) (.t 94))]
def aN9:SC:=.seq (.seq (.reg [qM 55 15,qM 56 7,qN 57 56,qP 58 .lss 55 57]) (.cond (.t 58) (.skip) (.exit 5))) (.seq (.block 6 (.seq (.reg [qF 61 0 2,ql 62 61,qC 63 .eql 62 5]) (.cond (.t 63) (.reg aOP) (.reg aP2)))) (.reg [qM 59 15,qC 60 .add 59 1,qM 15 60]))
def aN0:SC:=.seq (.seq (.reg [qM 40 9,qC 41 .geq 40 0]) (.cond (.t 41) (.skip) (.exit 2))) (.seq (.block 3 (.seq (.reg [qM 44 9,qM 45 5,qP 46 .lss 44 45,qM 10 46]) (.seq (.reg [qF 47 0 2,ql 48 47]) (.block 4 (.seq (.reg [qC 97 .eql 48 1,qM 96 97]) (.cond (.t 96) (.reg [qM 98 6,qM 99 9,qA 100 1 98 99,sN (.store 1 (.t 100) (.c (.bool true)))]) (.seq (.reg [qC 102 .eql 48 2,qM 101 102]) (.cond (.t 101) (.reg aRl) (.seq (.reg [qC 118 .eql 48 3,qM 117 118]) (.cond (.t 117) (.reg aRB) (.seq (.reg [qC 134 .eql 48 4,qM 133 134]) (.cond (.t 133) (.reg aQ7) (.seq (.reg [qC 146 .eql 48 7,qM 145 146]) (.cond (.t 145) (.reg aOo) (.seq (.reg [qC 161 .eql 48 9,qM 160 161]) (.cond (.t 160) (.reg aPM) (.seq (.reg [qC 177 .eql 48 8,qM 176 177]) (.cond (.t 176) (.seq (.reg [qM 178 9,qM 11 178,sO 12 (.mv (.c (.bool true)))]) (.block 7 (.loop aNU))) (.seq (.reg [qC 209 .eql 48 10,qM 208 209]) (.cond (.t 208) (.seq (.reg [qM 210 6,qM 211 9,qA 212 1 210 211,sN (.store 1 (.t 212) (.c (.bool true)))]) (.seq (.reg [qM 213 9,qM 13 213,sO 14 (.mv (.c (.bool true)))]) (.block 9 (.loop aN2)))) (.seq (.reg aPn) (.seq (.reg [qI 15 0]) (.block 5 (.loop aN9)))))))))))))))))))))))) (.reg [qM 42 9,qC 43 .sub 42 1,qM 9 43]))
def s70:SF:=⟨245,[.tmp 4],.seq (.reg [sO 2 (.box 24 3 (.t 0)),sO 3 (.box 54 2 (.t 1)),sO 4 (.mv (.c (.nilsl)))]) (.seq (.reg [qF 16 0 3,ql 17 16,qN 18 17,qM 5 18]) (.seq (.reg [qM 19 5,qC 20 .add 19 1,sO 21 (.mks 4 1 1 [.bool false] (.t 20) (.t 20)),qM 6 21]) (.seq (.reg [sO 7 (.lazy 41 1)]) (.seq (.seq (.reg [qI 8 0]) (.block 0 (.loop aNt))) (.seq (.seq (.reg [qM 39 5,qM 9 39]) (.block 2 (.loop aN0))) (.seq (.reg [qM 244 6,qM 4 244]) (.ret)))))))⟩
theorem aRb:bJ Tryz.prog ⟨oEq,[7],[],[]⟩ Tryz.f70=some s70:=by kernel_rfl
end Go.Proofs.YteehaobohaecmaaGreatDoor
namespace Go.Proofs.YteehaobohaecmaaGreatDoor
open Go
def kR (t:Tr) (f:Fm) (q:Nat):Nat→Bool:=fun j=>nth (nth (f.kids.map (rst t)) q) j
theorem rF {t:Tr} {f:Fm} {q j:Nat} (hq:q < f.kids.length) (hj:j≤t.ni.length):kR t f q j=nth (f.kids.map (sat t)) q j:=by
  unfold kR; rw [fS hq,fS hq,wM hj]
theorem yV {g h g' h':Nat→Bool} {n:Nat}: ∀ {m i:Nat},i+m≤n→(∀ j,j≤n→g j=g' j)→(∀ j,j≤n→h j=h' j)→gY g h m i=gY g' h' m i
  |0,i,hi,_,h2=>h2 i (by omega)
  |m+1,i,hi,h1,h2=>by rw [gY,gY,h2 i (by omega),h1 i (by omega),yV (m:=m) (by omega) h1 h2]
theorem yC {g h g' h':Nat→Bool} {n:Nat}: ∀ {m i:Nat},i+m≤n→(∀ j,j≤n→g j=g' j)→(∀ j,j≤n→h j=h' j)→iA g h m i=iA g' h' m i
  |0,i,hi,_,h2=>h2 i (by omega)
  |m+1,i,hi,h1,h2=>by rw [iA,iA,h2 i (by omega),h1 i (by omega),yC (m:=m) (by omega) h1 h2]
section
variable {t:Tr} {f:Fm} {j:Nat}
theorem sv1 (h:f.op=1):sat t f j=true:=by rw [cE,mR,if_pos h]
theorem sv2 (h:f.op=2):sat t f j=(decide (j < t.ni.length)&&decide (nth t.ni j=f.arg)):=by rw [cE,mR,if_neg (by omega),if_pos h]
theorem sv3 (h:f.op=3):sat t f j=(decide (j < t.ni.length)&&decide (nth t.no j=f.arg)):=by rw [cE,mR,if_neg (by omega),if_neg (by omega),if_pos h]
theorem sv4 (hj:j≤t.ni.length) (hk:0 < f.kids.length) (h:f.op=4):sat t f j= !(kR t f 0 j):=by rw [cE,mR,if_neg (by omega),if_neg (by omega),if_neg (by omega),if_pos h,rF hk hj]
theorem sv7 (hk:0 < f.kids.length) (h:f.op=7):sat t f j=(decide (j < t.ni.length)&&kR t f 0 (j+1)):=by
  rw [cE,mR,if_neg (by omega),if_neg (by omega),if_neg (by omega),if_neg (by omega),if_pos h]
  by_cases q:j < t.ni.length
  · rw [rF hk q]
  · rw [decide_eq_false q,Bool.false_and,Bool.false_and]
theorem sv9 (hk:0 < f.kids.length) (h:f.op=9):sat t f j=(decide (¬j < t.ni.length)||kR t f 0 (j+1)):=by
  rw [cE,mR,if_neg (by omega),if_neg (by omega),if_neg (by omega),if_neg (by omega),if_neg (by omega),if_pos h]
  by_cases q:j < t.ni.length
  · rw [rF hk q]
  · rw [decide_eq_true q,Bool.true_or,Bool.true_or]
theorem sv8 (hj:j≤t.ni.length) (hk:1 < f.kids.length) (h:f.op=8):sat t f j=gY (kR t f 0) (kR t f 1) (t.ni.length - j) j:=by
  rw [cE,mR,if_neg (by omega),if_neg (by omega),if_neg (by omega),if_neg (by omega),if_neg (by omega),if_neg (by omega),if_pos h]
  exact yV (n:=t.ni.length) (by omega) (fun q hq=>(rF (by omega) hq).symm) fun q hq=>(rF hk hq).symm
theorem aUm (hj:j≤t.ni.length) (hk:1 < f.kids.length) (h:f.op=10):sat t f j=iA (kR t f 0) (kR t f 1) (t.ni.length - j) j:=by
  rw [cE,mR,if_neg (by omega),if_neg (by omega),if_neg (by omega),if_neg (by omega),if_neg (by omega),if_neg (by omega),if_neg (by omega),if_pos h]
  exact yC (n:=t.ni.length) (by omega) (fun q hq=>(rF (by omega) hq).symm) fun q hq=>(rF hk hq).symm
theorem sv5 (hj:j≤t.ni.length) (h:f.op=5):sat t f j=(f.kids.map (rst t)).all fun r=>nth r j:=by
  rw [cE,mR,if_neg (by omega),if_neg (by omega),if_neg (by omega),if_neg (by omega),if_neg (by omega),if_neg (by omega),if_neg (by omega),if_neg (by omega),if_pos h,List.all_map,List.all_map]
  congr 1; funext g; exact (wM hj).symm
theorem sv6 (hj:j≤t.ni.length) (h:f.op=6):sat t f j=(f.kids.map (rst t)).any fun r=>nth r j:=by
  rw [cE,mR,if_neg (by omega),if_neg (by omega),if_neg (by omega),if_neg (by omega),if_neg (by omega),if_neg (by omega),if_neg (by omega),if_neg (by omega),if_neg (by omega),List.any_map,List.any_map]
  congr 1; funext g; exact (wM hj).symm
end
theorem gV {t:Tr} {f:Fm} {i:Int} {b:Bool} (h0:0≤i) (hi:i≤t.ni.length) (hb:b=sat t f i.toNat):(cY t f i).set i.toNat b=cY t f (i - 1):=by
  obtain ⟨j,rfl⟩: ∃ j:Nat,i=j:=⟨i.toNat,by omega⟩
  exact aKq (by omega) hb
theorem aQD {t:Tr} {f:Fm} {i:Int} (h0:0≤i) (hi:i≤t.ni.length):(cY t f i).set i.toNat false=cY t f i:=by
  apply List.ext_getElem
  · simp
  · intro q h1 h2
    rw [List.getElem_set]
    split
    · rename_i e
      subst e
      simp only [cY,List.getElem_map,List.getElem_range]
      rw [decide_eq_false (by omega),Bool.false_and]
    · rfl
theorem mX {α:Type} [Inhabited α] {l:List α} {i:Nat} {x:α} (h:i < l.length):nth (l.set i x) i=x:=by
  rw [← bQ (by simpa using h),List.getElem_set_self]
def unI (t:Tr) (f:Fm) (i k:Int) (al x:Bool):Prop:=(x||(al&&decide (k≤t.ni.length)&&gY (kR t f 0) (kR t f 1) (t.ni.length - k.toNat) k.toNat))=sat t f i.toNat
theorem aGP {t:Tr} {f:Fm} {i:Int} (h0:0≤i) (hi:i≤t.ni.length) (hk:1 < f.kids.length) (h:f.op=8):unI t f i i true false:=by
  unfold unI; rw [sv8 (by omega) hk h,decide_eq_true hi]; rfl
theorem aKh {t:Tr} {f:Fm} {i k:Int} {al x:Bool} (h:unI t f i k al x) (h0:0≤k) (hk:k≤t.ni.length) (ha:al=true):unI t f i (k+1) (kR t f 0 k.toNat) (x||kR t f 1 k.toNat):=by
  unfold unI at h ⊢
  rw [← h,ha,decide_eq_true hk,aFO (show k.toNat≤t.ni.length by omega),show (k+1).toNat=k.toNat+1 by omega]
  have e:decide (k+1≤(t.ni.length:Int))=decide (k.toNat < t.ni.length):=decide_eq_decide.2 (by omega)
  rw [e]
  cases x <;> cases kR t f 1 k.toNat <;> cases kR t f 0 k.toNat <;> cases decide (k.toNat < t.ni.length) <;> rfl
theorem aMk {t:Tr} {f:Fm} {i k:Int} {al x:Bool} (h:unI t f i k al x) (he:(decide (k≤(t.ni.length:Int))&&al)=false):x=sat t f i.toNat:=by
  unfold unI at h
  rw [← h,Bool.and_comm al,he,Bool.false_and,Bool.or_false]
def reI (t:Tr) (f:Fm) (i k:Int) (al x:Bool):Prop:=(x&&(!(al&&decide (k≤t.ni.length))||iA (kR t f 0) (kR t f 1) (t.ni.length - k.toNat) k.toNat))=sat t f i.toNat
theorem aHl {t:Tr} {f:Fm} {i:Int} (h0:0≤i) (hi:i≤t.ni.length) (hk:1 < f.kids.length) (h:f.op=10):reI t f i i true true:=by
  unfold reI; rw [aUm (by omega) hk h,decide_eq_true hi]; simp
theorem aIg {t:Tr} {f:Fm} {i k:Int} {al x:Bool} (h:reI t f i k al x) (h0:0≤k) (hk:k≤t.ni.length) (ha:al=true):reI t f i (k+1) (!(kR t f 0 k.toNat)) (x&&kR t f 1 k.toNat):=by
  unfold reI at h ⊢
  rw [← h,ha,decide_eq_true hk,aGI (show k.toNat≤t.ni.length by omega),show (k+1).toNat=k.toNat+1 by omega]
  have e:decide (k+1≤(t.ni.length:Int))= !decide (¬k.toNat < t.ni.length):=by rw [decide_not,Bool.not_not]; exact decide_eq_decide.2 (by omega)
  rw [e]
  cases x <;> cases kR t f 1 k.toNat <;> cases kR t f 0 k.toNat <;> cases decide (¬k.toNat < t.ni.length) <;> rfl
theorem aMl {t:Tr} {f:Fm} {i k:Int} {al x:Bool} (h:reI t f i k al x) (he:(decide (k≤(t.ni.length:Int))&&al)=false):x=sat t f i.toNat:=by
  unfold reI at h
  rw [← h,Bool.and_comm al,he]; simp
def aoI (t:Tr) (f:Fm) (i:Int) (q:Nat) (x:Bool):Prop:=
  (if f.op=5 then x&&((f.kids.map (rst t)).drop q).all fun r=>nth r i.toNat else x||((f.kids.map (rst t)).drop q).any fun r=>nth r i.toNat)=sat t f i.toNat
theorem aG7 {t:Tr} {f:Fm} {i:Int} (h0:0≤i) (hi:i≤t.ni.length) (h:f.op=5∨f.op=6):aoI t f i 0 (decide (f.op=5)):=by
  unfold aoI
  by_cases e:f.op=5
  · rw [if_pos e,sv5 (by omega) e,decide_eq_true e]; rfl
  · rw [if_neg e,sv6 (by omega) (by omega),decide_eq_false e]; rfl
theorem aF4 {t:Tr} {f:Fm} {i:Int} {q:Nat} {x:Bool} (h:aoI t f i q x) (hq:q < f.kids.length) (e:f.op=5):aoI t f i (q+1) (x&&nth (nth (f.kids.map (rst t)) q) i.toNat):=by
  unfold aoI at h ⊢
  rw [if_pos e] at h ⊢
  rw [← h,cZ (l:=f.kids.map (rst t)) (k:=q) (by simpa using hq),List.all_cons,Bool.and_assoc]
theorem aJe {t:Tr} {f:Fm} {i:Int} {q:Nat} {x:Bool} (h:aoI t f i q x) (hq:q < f.kids.length) (e: ¬f.op=5):aoI t f i (q+1) (x||nth (nth (f.kids.map (rst t)) q) i.toNat):=by
  unfold aoI at h ⊢
  rw [if_neg e] at h ⊢
  rw [← h,cZ (l:=f.kids.map (rst t)) (k:=q) (by simpa using hq),List.any_cons,Bool.or_assoc]
theorem aLs {t:Tr} {f:Fm} {i:Int} {q:Nat} {x:Bool} (h:aoI t f i q x) (hq:f.kids.length≤q):x=sat t f i.toNat:=by
  unfold aoI at h
  rw [List.drop_eq_nil_of_le (by simpa using hq)] at h
  split at h
  · rw [← h]; simp
  · rw [← h]; simp
end Go.Proofs.YteehaobohaecmaaGreatDoor
namespace Go.Proofs.YteehaobohaecmaaGreatDoor
open Go Go.Proofs
attribute [local irreducible] aEU
set_option maxHeartbeats 4000000 in
theorem tX (f:Fm) (t:Tr) (hf:okF f=true) (hz:f.sz≤4096) (ht:t.no.length=t.ni.length) (hn:t.ni.length≤1024) (ih: ∀ (g:Fm) (t:Tr),g.sz < f.sz→okF g=true→g.sz≤4096→t.no.length=t.ni.length→t.ni.length≤1024→aQ Tryz.prog 70 [(V.agg (rFq g)),(V.agg [(aY t.ni),(aY t.no)])] (V.sl (List.map cB (rst t g)))):aQ Tryz.prog 70 [(V.agg (rFq f)),(V.agg [(aY t.ni),(aY t.no)])] (V.sl (List.map cB (rst t f))):=by
 refine pW Tryz.func70 aRb fun hB=>?_
 unfold s70
 dsimp only
 have hp:=bN hf
 have hr:=dE hp.1
 have hln:=f.sz_len
 have hr0:0 < f.kids.length→(nth (f.kids.map (rst t)) 0).length=t.ni.length+1:=fun h=>by rw [fS h,tH]
 have hr1:1 < f.kids.length→(nth (f.kids.map (rst t)) 1).length=t.ni.length+1:=fun h=>by rw [fS h,tH]
 refine W_r (cA (i:=2) (n:=0) (m:=3) (cs:=(rFq f)) rfl (cVq rfl) rfl rfl rfl (cA (i:=3) (n:=0) (m:=2) (cs:=[(aY t.ni),(aY t.no)]) rfl (cVq rfl) rfl rfl rfl (aA rfl (R_e (W_r (aL rfl rfl (aJ rfl rfl rfl rfl ?_)))))))
 refine bF rfl (aA rfl (R_e (W_r (aA rfl (bC rfl (rNq 1) (by omega) (aPN (i:=21) (n:=0) (m:=(t.ni.length+1)) (q:=(t.ni.length+1)) (f:=cB) (x:=false) rfl (cVq rfl) (rNq (t.ni.length+1)) (rNq (t.ni.length+1)) rfl (by omega) (by omega) (by omega) (aA rfl ?_)))))))
 refine R_e (W_r (nQ (i:=7) (n:=0) rfl (cVq rfl) (R_e (aB (W_r (aA rfl (R_e ?_)))))))
 refine aD fun Q1 n1 x1 y1 z1=>?_
 refine bS (fun mm T H=> ∃ (k:Nat) (v:Nat),mm=f.kids.length - k∧T 2=(mPq 2)∧T 3=(mPq 3)∧T 5=(iV ((t.ni.length:Nat):Int))∧T 6=(V.ms 21 1 0 (t.ni.length+1))∧T 7=(V.ms 7 v 0 k)∧T 8=(iV ((k:Nat):Int))∧H 2=(bFq f)∧H 3=(bk 1 54 2 [[(aY t.ni),(aY t.no)]])∧H 7=(bz v 41 1 (List.map cBL ((f.kids.take k).map (rst t))))∧H 21=(bk 1 4 1 (List.map cB (List.replicate (t.ni.length+1) false)))∧(k≤f.kids.length)) ?_ ?_
 ·
  refine ⟨_,0,1,rfl,rfl,rfl,rfl,rfl,rfl,(eTq (rVq (iV 0)) rfl),rfl,rfl,(eTq (@rfl Blk (bz 1 41 1 [])) (by rfl)),rfl,?_⟩
  · omega
 intro mm T H ⟨k,v,hmm,t2,t3,t5,t6,t7,t8,h2,h3,h7,h21,hk⟩ Q2 p12 p22 p32
 unfold aNt
 refine aB (W_r (aA t8 (aL t2 h2 (aJ rfl h2 rfl rfl (bF rfl (bO rfl rfl (R_e ?_)))))))
 refine aH rfl (fun c3=>?_) fun c3=>?_
 ·
  refine aC (aD fun Q4 n4 x4 y4 z4=>(W_t (aA t7 (aL t2 h2 (aJ rfl h2 rfl rfl (aA t8 (bT (i:=k) (rVq (V.sl (List.map cF f.kids))) (rNq k) (by omega) (bP _) rfl ?_)))))))
  refine aG rfl rfl (aJ t3 h3 rfl rfl (aI (ih (nth f.kids k) t skq (hp.2 _ (by omega)) (szq hz) (by omega) (by omega)) rfl (aR rfl rfl (cC (l:=((f.kids.take k).map (rst t))) (f:=cBL) (x:=(rst t (nth f.kids k))) (rVq (V.ms 7 v 0 k)) h7 (by (simp; omega)) (rVq (V.sl [[(V.sl (List.map cB (rst t (nth f.kids k))))]])) rfl rfl (by omega) (by omega) (aA rfl (R_e (n4 _ _ ?_)))))))
  refine .done (W_t (aA t8 (bC rfl (rNq 1) (by omega) (aA rfl (R_e ?_)))))
  refine p12 _ _ _ ?_ ⟨(k+1),(v+1),rfl,t2,t3,t5,t6,(eTq (rVq (V.ms 7 (v+1) 0 (k+1))) (by rfl)),(eTq (rNq (k+1)) (by rfl)),h2,h3,(eTq (@rfl Blk (bz (v+1) 41 1 (List.map cBL ((f.kids.take k).map (rst t)++[(rst t (nth f.kids k))])))) (by (rw [fZ (by omega)]; done))),h21,?_⟩
  · omega
  · omega
 refine aN (p32 _ _ _ (x1 _ _ (.done (aB (W_r (aA t5 (aA rfl ?_)))))))
 refine R_e (aD fun Q5 n5 x5 y5 z5=>?_)
 refine bS (fun mm T H=> ∃ (i:Int) (v:Nat),mm=(i+1).toNat∧T 2=(mPq 2)∧T 3=(mPq 3)∧T 5=(iV ((t.ni.length:Nat):Int))∧T 6=(V.ms 21 1 0 (t.ni.length+1))∧T 7=(V.ms 7 v 0 f.kids.length)∧T 9=(iV i)∧H 2=(bFq f)∧H 3=(bk 1 54 2 [[(aY t.ni),(aY t.no)]])∧H 7=(bz v 41 1 (List.map cBL (f.kids.map (rst t))))∧H 21=(bk 1 4 1 (List.map cB (cY t f i)))∧(-1≤i∧i≤t.ni.length)) ?_ ?_
 ·
  refine ⟨_,((t.ni.length:Nat):Int),v,rfl,t2,t3,t5,t6,(eTq t7 (by (rw [show k=f.kids.length by omega]; done))),(eTq (rNq t.ni.length) (by rfl)),h2,h3,(eTq h7 (by (rw [show k=f.kids.length by omega,List.take_length]; done))),(eTq h21 (by (rw [aD4]; done))),?_⟩
  · omega
 intro mm T H ⟨i,v,hmm,t2,t3,t5,t6,t7,t9,h2,h3,h7,h21,hi⟩ Q6 p16 p26 p36
 unfold aN0
 have hol:=cK t f i
 refine aB (W_r (aA t9 (jU rfl rfl (R_e ?_))))
 refine aH rfl (fun c7=>?_) fun c7=>?_
 ·
  refine aC (aD fun Q8 n8 x8 y8 z8=>(W_r (aA t9 (aA t5 (bO rfl rfl (aA rfl (R_e ?_)))))))
  refine W_r (aL t2 h2 (aJ rfl h2 rfl rfl (R_e (iC fun Q9 n9 x9 y9 z9=>(W_r (aX rfl rfl (aA rfl ?_)))))))
  refine R_e ?_
  refine bZ rfl (fun c10=>?_) fun c10=>?_
  ·
   refine W_t (aA t6 (aA t9 (dO (i:=i) (rVq (V.ms 21 1 0 (t.ni.length+1))) (rVq (iV i)) h21 oB rfl (by omega) (by omega) (gL (vs:=[(V.bool true)]) (B':=(bk 1 4 1 (List.map cB ((cY t f i).set i.toNat true)))) rfl rfl rfl h21 (gU (x:=true) (i:=i.toNat) (by omega) rfl rfl rfl rfl) (R_e (n9 _ _ (n8 _ _ ?_)))))))
   refine .done (W_t (aA t9 (oJ rfl rfl (by omega) (by omega) (aA rfl (R_e ?_)))))
   refine p16 _ _ _ ?_ ⟨(i - 1),v,rfl,t2,t3,t5,t6,t7,(eTq (rVq (iV (i - (1:Int)))) (by rfl)),h2,h3,h7,(eTq (@rfl Blk (bk 1 4 1 (List.map cB ((cY t f i).set i.toNat true)))) (by (rw [gV (by omega) (by omega) (by rw [sv1 (by omega)])]; done))),?_⟩
   · omega
   · omega
  refine W_r (aX rfl rfl (aA rfl (R_e ?_)))
  refine bZ rfl (fun c11=>?_) fun c11=>?_
  ·
   refine W_t (aA t6 (aA t9 (aA rfl (aA rfl ?_))))
   refine aT 9 (fun T H=>T 2=(mPq 2)∧T 3=(mPq 3)∧T 5=(iV ((t.ni.length:Nat):Int))∧T 6=(V.ms 21 1 0 (t.ni.length+1))∧T 7=(V.ms 7 v 0 f.kids.length)∧T 9=(iV i)∧T 103=(V.ms 21 1 0 (t.ni.length+1))∧T 104=(iV i)∧T 115=(V.bool (decide ((i < ((t.ni.length:Nat):Int))∧((nth t.ni i.toNat)=f.arg))))∧H 2=(bFq f)∧H 3=(bk 1 54 2 [[(aY t.ni),(aY t.no)]])∧H 7=(bz v 41 1 (List.map cBL (f.kids.map (rst t))))∧H 21=(bk 1 4 1 (List.map cB (cY t f i)))∧True) ?_ ?_
   ·
    by_cases g12:i < ((t.ni.length:Nat):Int)
    ·
     refine aE (edT g12 rfl) (aL t3 h3 (aE (edT g12 rfl) (aJ rfl h3 rfl rfl (aE (edT g12 rfl) (aA t9 (aE (edT g12 rfl) (fA (i:=i) (rVq (aY t.ni)) (rVq (iV i)) (by omega) (by omega) rfl ?_)))))))
     refine aE (edT g12 rfl) (aG rfl rfl (aE (edT g12 rfl) (aL t2 h2 (aE (edT g12 rfl) (aJ rfl h2 rfl rfl (aE (edT g12 rfl) (aX rfl rfl ?_)))))))
     refine aS (edT g12 rfl) rfl ?_
     exact ⟨t2,t3,t5,t6,t7,t9,rfl,rfl,(dH g12),h2,h3,h7,h21,trivial⟩
    ·
     refine G_n (edF g12 rfl) (G_n (edF g12 rfl) (G_n (edF g12 rfl) (G_n (edF g12 rfl) (G_n (edF g12 rfl) (G_n (edF g12 rfl) (G_n (edF g12 rfl) (G_n (edF g12 rfl) ?_)))))))
     refine aU (edF g12 rfl) rfl ?_
     exact ⟨t2,t3,t5,t6,t7,t9,rfl,rfl,(dG g12),h2,h3,h7,h21,trivial⟩
   intro T H ⟨t2,t3,t5,t6,t7,t9,t103,t104,t115,h2,h3,h7,h21,_⟩
   refine dO (i:=i) t103 t104 h21 oB rfl (by omega) (by omega) (gL (vs:=[(V.bool (decide ((i < ((t.ni.length:Nat):Int))∧((nth t.ni i.toNat)=f.arg))))]) (B':=(bk 1 4 1 (List.map cB ((cY t f i).set i.toNat (decide ((i < ((t.ni.length:Nat):Int))∧((nth t.ni i.toNat)=f.arg))))))) rfl t115 rfl h21 (gU (x:=(decide ((i < ((t.ni.length:Nat):Int))∧((nth t.ni i.toNat)=f.arg)))) (i:=i.toNat) (by omega) rfl rfl rfl rfl) (R_e (n9 _ _ (n8 _ _ (.done (W_t (aA t9 ?_)))))))
   refine oJ rfl rfl (by omega) (by omega) (aA rfl (R_e ?_))
   refine p16 _ _ _ ?_ ⟨(i - 1),v,rfl,t2,t3,t5,t6,t7,(eTq (rVq (iV (i - (1:Int)))) (by rfl)),h2,h3,h7,(eTq (@rfl Blk (bk 1 4 1 (List.map cB ((cY t f i).set i.toNat (decide ((i < ((t.ni.length:Nat):Int))∧((nth t.ni i.toNat)=f.arg))))))) (by (rw [gV (by omega) (by omega) (by rw [sv2 (by omega),← Bool.decide_and]; exact decide_eq_decide.2 (by omega))]; done))),?_⟩
   · omega
   · omega
  refine W_r (aX rfl rfl (aA rfl (R_e ?_)))
  refine bZ rfl (fun c13=>?_) fun c13=>?_
  ·
   refine W_t (aA t6 (aA t9 (aA rfl (aA rfl ?_))))
   refine aT 9 (fun T H=>T 2=(mPq 2)∧T 3=(mPq 3)∧T 5=(iV ((t.ni.length:Nat):Int))∧T 6=(V.ms 21 1 0 (t.ni.length+1))∧T 7=(V.ms 7 v 0 f.kids.length)∧T 9=(iV i)∧T 119=(V.ms 21 1 0 (t.ni.length+1))∧T 120=(iV i)∧T 131=(V.bool (decide ((i < ((t.ni.length:Nat):Int))∧((nth t.no i.toNat)=f.arg))))∧H 2=(bFq f)∧H 3=(bk 1 54 2 [[(aY t.ni),(aY t.no)]])∧H 7=(bz v 41 1 (List.map cBL (f.kids.map (rst t))))∧H 21=(bk 1 4 1 (List.map cB (cY t f i)))∧True) ?_ ?_
   ·
    by_cases g14:i < ((t.ni.length:Nat):Int)
    ·
     refine aE (edT g14 rfl) (aL t3 h3 (aE (edT g14 rfl) (aJ rfl h3 rfl rfl (aE (edT g14 rfl) (aA t9 (aE (edT g14 rfl) (fA (i:=i) (rVq (aY t.no)) (rVq (iV i)) (by omega) (by omega) rfl ?_)))))))
     refine aE (edT g14 rfl) (aG rfl rfl (aE (edT g14 rfl) (aL t2 h2 (aE (edT g14 rfl) (aJ rfl h2 rfl rfl (aE (edT g14 rfl) (aX rfl rfl ?_)))))))
     refine aS (edT g14 rfl) rfl ?_
     exact ⟨t2,t3,t5,t6,t7,t9,rfl,rfl,(dH g14),h2,h3,h7,h21,trivial⟩
    ·
     refine G_n (edF g14 rfl) (G_n (edF g14 rfl) (G_n (edF g14 rfl) (G_n (edF g14 rfl) (G_n (edF g14 rfl) (G_n (edF g14 rfl) (G_n (edF g14 rfl) (G_n (edF g14 rfl) ?_)))))))
     refine aU (edF g14 rfl) rfl ?_
     exact ⟨t2,t3,t5,t6,t7,t9,rfl,rfl,(dG g14),h2,h3,h7,h21,trivial⟩
   intro T H ⟨t2,t3,t5,t6,t7,t9,t119,t120,t131,h2,h3,h7,h21,_⟩
   refine dO (i:=i) t119 t120 h21 oB rfl (by omega) (by omega) (gL (vs:=[(V.bool (decide ((i < ((t.ni.length:Nat):Int))∧((nth t.no i.toNat)=f.arg))))]) (B':=(bk 1 4 1 (List.map cB ((cY t f i).set i.toNat (decide ((i < ((t.ni.length:Nat):Int))∧((nth t.no i.toNat)=f.arg))))))) rfl t131 rfl h21 (gU (x:=(decide ((i < ((t.ni.length:Nat):Int))∧((nth t.no i.toNat)=f.arg)))) (i:=i.toNat) (by omega) rfl rfl rfl rfl) (R_e (n9 _ _ (n8 _ _ (.done (W_t (aA t9 ?_)))))))
   refine oJ rfl rfl (by omega) (by omega) (aA rfl (R_e ?_))
   refine p16 _ _ _ ?_ ⟨(i - 1),v,rfl,t2,t3,t5,t6,t7,(eTq (rVq (iV (i - (1:Int)))) (by rfl)),h2,h3,h7,(eTq (@rfl Blk (bk 1 4 1 (List.map cB ((cY t f i).set i.toNat (decide ((i < ((t.ni.length:Nat):Int))∧((nth t.no i.toNat)=f.arg))))))) (by (rw [gV (by omega) (by omega) (by rw [sv3 (by omega),← Bool.decide_and]; exact decide_eq_decide.2 (by omega))]; done))),?_⟩
   · omega
   · omega
  refine W_r (aX rfl rfl (aA rfl (R_e ?_)))
  refine bZ rfl (fun c15=>?_) fun c15=>?_
  ·
   refine W_t (aA t6 (aA t9 (aA t7 (eI (i:=0) (rVq (V.ms 7 v 0 f.kids.length)) (rNq 0) h7 (eO (by (simp only [List.length_map,List.length_set,cK]; omega))) rfl (by omega) (cJ (v:=(V.sl (List.map cB (nth (f.kids.map (rst t)) 0)))) rfl h7 (eG (by (simp only [List.length_map,List.length_set,cK]; omega)) (by rfl)) (aA t9 (fA (i:=i) (rVq (V.sl (List.map cB (nth (f.kids.map (rst t)) 0)))) (rVq (iV i)) (by omega) (by omega) rfl ?_)))))))
   refine aG rfl rfl (eL rfl (dO (i:=i) (rVq (V.ms 21 1 0 (t.ni.length+1))) (rVq (iV i)) h21 oB rfl (by omega) (by omega) (gL (vs:=[(V.bool (!(nth (nth (f.kids.map (rst t)) 0) i.toNat)))]) (B':=(bk 1 4 1 (List.map cB ((cY t f i).set i.toNat (!(nth (nth (f.kids.map (rst t)) 0) i.toNat)))))) rfl rfl rfl h21 (gU (x:=(!(nth (nth (f.kids.map (rst t)) 0) i.toNat))) (i:=i.toNat) (by omega) rfl rfl rfl rfl) (R_e (n9 _ _ (n8 _ _ (.done ?_)))))))
   refine W_t (aA t9 (oJ rfl rfl (by omega) (by omega) (aA rfl (R_e ?_))))
   refine p16 _ _ _ ?_ ⟨(i - 1),v,rfl,t2,t3,t5,t6,t7,(eTq (rVq (iV (i - (1:Int)))) (by rfl)),h2,h3,h7,(eTq (@rfl Blk (bk 1 4 1 (List.map cB ((cY t f i).set i.toNat (!(nth (nth (f.kids.map (rst t)) 0) i.toNat)))))) (by (rw [gV (by omega) (by omega) (by rw [sv4 (by omega) (by omega) (by omega)]; rfl)]; done))),?_⟩
   · omega
   · omega
  refine W_r (aX rfl rfl (aA rfl (R_e ?_)))
  refine bZ rfl (fun c16=>?_) fun c16=>?_
  ·
   refine W_t (aA t6 (aA t9 (aA rfl (aA rfl ?_))))
   refine aT 8 (fun T H=>T 2=(mPq 2)∧T 3=(mPq 3)∧T 5=(iV ((t.ni.length:Nat):Int))∧T 6=(V.ms 21 1 0 (t.ni.length+1))∧T 7=(V.ms 7 v 0 f.kids.length)∧T 9=(iV i)∧T 147=(V.ms 21 1 0 (t.ni.length+1))∧T 148=(iV i)∧T 158=(V.bool (decide (i < ((t.ni.length:Nat):Int))&&(nth (nth (f.kids.map (rst t)) 0) (i+(1:Int)).toNat)))∧H 2=(bFq f)∧H 3=(bk 1 54 2 [[(aY t.ni),(aY t.no)]])∧H 7=(bz v 41 1 (List.map cBL (f.kids.map (rst t))))∧H 21=(bk 1 4 1 (List.map cB (cY t f i)))∧True) ?_ ?_
   ·
    by_cases g17:i < ((t.ni.length:Nat):Int)
    ·
     refine aE (edT g17 rfl) (aA t7 (aE (edT g17 rfl) (eI (i:=0) (rVq (V.ms 7 v 0 f.kids.length)) (rNq 0) h7 (eO (by (simp only [List.length_map,List.length_set,cK]; omega))) rfl (by omega) (aE (edT g17 rfl) (cJ (v:=(V.sl (List.map cB (nth (f.kids.map (rst t)) 0)))) rfl h7 (eG (by (simp only [List.length_map,List.length_set,cK]; omega)) (by rfl)) (aE (edT g17 rfl) (aA t9 ?_)))))))
     refine aE (edT g17 rfl) (nP rfl rfl (by omega) (by omega) (aE (edT g17 rfl) (fA (i:=(i+(1:Int))) (rVq (V.sl (List.map cB (nth (f.kids.map (rst t)) 0)))) (rVq (iV (i+(1:Int)))) (by omega) (by omega) rfl (aE (edT g17 rfl) (aG rfl rfl (aS (edT g17 rfl) rfl ?_))))))
     exact ⟨t2,t3,t5,t6,t7,t9,rfl,rfl,(rH g17),h2,h3,h7,h21,trivial⟩
    ·
     refine G_n (edF g17 rfl) (G_n (edF g17 rfl) (G_n (edF g17 rfl) (G_n (edF g17 rfl) (G_n (edF g17 rfl) (G_n (edF g17 rfl) (G_n (edF g17 rfl) (aU (edF g17 rfl) rfl ?_)))))))
     exact ⟨t2,t3,t5,t6,t7,t9,rfl,rfl,(rG g17),h2,h3,h7,h21,trivial⟩
   intro T H ⟨t2,t3,t5,t6,t7,t9,t147,t148,t158,h2,h3,h7,h21,_⟩
   refine dO (i:=i) t147 t148 h21 oB rfl (by omega) (by omega) (gL (vs:=[(V.bool (decide (i < ((t.ni.length:Nat):Int))&&(nth (nth (f.kids.map (rst t)) 0) (i+(1:Int)).toNat)))]) (B':=(bk 1 4 1 (List.map cB ((cY t f i).set i.toNat (decide (i < ((t.ni.length:Nat):Int))&&(nth (nth (f.kids.map (rst t)) 0) (i+(1:Int)).toNat)))))) rfl t158 rfl h21 (gU (x:=(decide (i < ((t.ni.length:Nat):Int))&&(nth (nth (f.kids.map (rst t)) 0) (i+(1:Int)).toNat))) (i:=i.toNat) (by omega) rfl rfl rfl rfl) (R_e (n9 _ _ (n8 _ _ (.done (W_t (aA t9 ?_)))))))
   refine oJ rfl rfl (by omega) (by omega) (aA rfl (R_e ?_))
   refine p16 _ _ _ ?_ ⟨(i - 1),v,rfl,t2,t3,t5,t6,t7,(eTq (rVq (iV (i - (1:Int)))) (by rfl)),h2,h3,h7,(eTq (@rfl Blk (bk 1 4 1 (List.map cB ((cY t f i).set i.toNat (decide (i < ((t.ni.length:Nat):Int))&&(nth (nth (f.kids.map (rst t)) 0) (i+(1:Int)).toNat)))))) (by (rw [gV (by omega) (by omega) (by rw [sv7 (by omega) (by omega),show (i+1).toNat=i.toNat+1 by omega]; congr 1; exact decide_eq_decide.2 (by omega))]; done))),?_⟩
   · omega
   · omega
  refine W_r (aX rfl rfl (aA rfl (R_e ?_)))
  refine bZ rfl (fun c18=>?_) fun c18=>?_
  ·
   refine W_t (aA t6 (aA t9 (aA rfl (yH rfl (aA rfl ?_)))))
   refine aT 8 (fun T H=>T 2=(mPq 2)∧T 3=(mPq 3)∧T 5=(iV ((t.ni.length:Nat):Int))∧T 6=(V.ms 21 1 0 (t.ni.length+1))∧T 7=(V.ms 7 v 0 f.kids.length)∧T 9=(iV i)∧T 162=(V.ms 21 1 0 (t.ni.length+1))∧T 163=(iV i)∧T 174=(V.bool (decide (¬(i < ((t.ni.length:Nat):Int)))||(nth (nth (f.kids.map (rst t)) 0) (i+(1:Int)).toNat)))∧H 2=(bFq f)∧H 3=(bk 1 54 2 [[(aY t.ni),(aY t.no)]])∧H 7=(bz v 41 1 (List.map cBL (f.kids.map (rst t))))∧H 21=(bk 1 4 1 (List.map cB (cY t f i)))∧True) ?_ ?_
   ·
    by_cases g19: ¬(i < ((t.ni.length:Nat):Int))
    ·
     refine G_n (edT g19 rfl) (G_n (edT g19 rfl) (G_n (edT g19 rfl) (G_n (edT g19 rfl) (G_n (edT g19 rfl) (G_n (edT g19 rfl) (G_n (edT g19 rfl) (aS (edT g19 rfl) rfl ?_)))))))
     exact ⟨t2,t3,t5,t6,t7,t9,rfl,rfl,(nG g19),h2,h3,h7,h21,trivial⟩
    ·
     refine aE (edF g19 rfl) (aA t7 (aE (edF g19 rfl) (eI (i:=0) (rVq (V.ms 7 v 0 f.kids.length)) (rNq 0) h7 (eO (by (simp only [List.length_map,List.length_set,cK]; omega))) rfl (by omega) (aE (edF g19 rfl) (cJ (v:=(V.sl (List.map cB (nth (f.kids.map (rst t)) 0)))) rfl h7 (eG (by (simp only [List.length_map,List.length_set,cK]; omega)) (by rfl)) (aE (edF g19 rfl) (aA t9 ?_)))))))
     refine aE (edF g19 rfl) (nP rfl rfl (by omega) (by omega) (aE (edF g19 rfl) (fA (i:=(i+(1:Int))) (rVq (V.sl (List.map cB (nth (f.kids.map (rst t)) 0)))) (rVq (iV (i+(1:Int)))) (by omega) (by omega) rfl (aE (edF g19 rfl) (aG rfl rfl (aU (edF g19 rfl) rfl ?_))))))
     exact ⟨t2,t3,t5,t6,t7,t9,rfl,rfl,(nF g19),h2,h3,h7,h21,trivial⟩
   intro T H ⟨t2,t3,t5,t6,t7,t9,t162,t163,t174,h2,h3,h7,h21,_⟩
   refine dO (i:=i) t162 t163 h21 oB rfl (by omega) (by omega) (gL (vs:=[(V.bool (decide (¬(i < ((t.ni.length:Nat):Int)))||(nth (nth (f.kids.map (rst t)) 0) (i+(1:Int)).toNat)))]) (B':=(bk 1 4 1 (List.map cB ((cY t f i).set i.toNat (decide (¬(i < ((t.ni.length:Nat):Int)))||(nth (nth (f.kids.map (rst t)) 0) (i+(1:Int)).toNat)))))) rfl t174 rfl h21 (gU (x:=(decide (¬(i < ((t.ni.length:Nat):Int)))||(nth (nth (f.kids.map (rst t)) 0) (i+(1:Int)).toNat))) (i:=i.toNat) (by omega) rfl rfl rfl rfl) (R_e (n9 _ _ (n8 _ _ (.done (W_t (aA t9 ?_)))))))
   refine oJ rfl rfl (by omega) (by omega) (aA rfl (R_e ?_))
   refine p16 _ _ _ ?_ ⟨(i - 1),v,rfl,t2,t3,t5,t6,t7,(eTq (rVq (iV (i - (1:Int)))) (by rfl)),h2,h3,h7,(eTq (@rfl Blk (bk 1 4 1 (List.map cB ((cY t f i).set i.toNat (decide (¬(i < ((t.ni.length:Nat):Int)))||(nth (nth (f.kids.map (rst t)) 0) (i+(1:Int)).toNat)))))) (by (rw [gV (by omega) (by omega) (by rw [sv9 (by omega) (by omega),show (i+1).toNat=i.toNat+1 by omega]; congr 1; exact decide_eq_decide.2 (by omega))]; done))),?_⟩
   · omega
   · omega
  refine W_r (aX rfl rfl (aA rfl (R_e ?_)))
  refine bZ rfl (fun c20=>?_) fun c20=>?_
  ·
   refine W_r (aA t9 (aA rfl (aA rfl (R_e (iC fun Q21 n21 x21 y21 z21=>?_)))))
   refine bS (fun mm T H=> ∃ (k:Int) (al:Bool) (x:Bool),mm=t.ni.length+1 - k.toNat∧T 2=(mPq 2)∧T 3=(mPq 3)∧T 5=(iV ((t.ni.length:Nat):Int))∧T 6=(V.ms 21 1 0 (t.ni.length+1))∧T 7=(V.ms 7 v 0 f.kids.length)∧T 9=(iV i)∧T 11=(iV k)∧T 12=(V.bool al)∧H 2=(bFq f)∧H 3=(bk 1 54 2 [[(aY t.ni),(aY t.no)]])∧H 7=(bz v 41 1 (List.map cBL (f.kids.map (rst t))))∧H 21=(bk 1 4 1 (List.map cB ((cY t f i).set i.toNat x)))∧(i≤k∧k≤t.ni.length+1)∧(unI t f i k al x)) ?_ ?_
   ·
    refine ⟨_,i,true,false,rfl,t2,t3,t5,t6,t7,t9,rfl,rfl,h2,h3,h7,(eTq h21 (by (rw [aQD (by omega) (by omega)]; done))),?_,?_⟩
    · omega
    · exact aGP (by omega) (by omega) (by omega) (by omega)
   intro mm T H ⟨k,al,x,hmm,t2,t3,t5,t6,t7,t9,t11,t12,h2,h3,h7,h21,hk,hu⟩ Q22 p122 p222 p322
   unfold aNU
   refine aB (W_r (aA t11 (aA t5 (qG rfl rfl (aA rfl ?_)))))
   refine aT 2 (fun T H=>T 2=(mPq 2)∧T 3=(mPq 3)∧T 5=(iV ((t.ni.length:Nat):Int))∧T 6=(V.ms 21 1 0 (t.ni.length+1))∧T 7=(V.ms 7 v 0 f.kids.length)∧T 9=(iV i)∧T 11=(iV k)∧T 184=(V.bool (decide (k≤((t.ni.length:Nat):Int))&&al))∧H 2=(bFq f)∧H 3=(bk 1 54 2 [[(aY t.ni),(aY t.no)]])∧H 7=(bz v 41 1 (List.map cBL (f.kids.map (rst t))))∧H 21=(bk 1 4 1 (List.map cB ((cY t f i).set i.toNat x)))∧True) ?_ ?_
   ·
    by_cases g23:k≤((t.ni.length:Nat):Int)
    ·
     refine aE (edT g23 rfl) (aA t12 (aS (edT g23 rfl) rfl ?_))
     exact ⟨t2,t3,t5,t6,t7,t9,t11,(rH g23),h2,h3,h7,h21,trivial⟩
    ·
     refine G_n (edF g23 rfl) (aU (edF g23 rfl) rfl ?_)
     exact ⟨t2,t3,t5,t6,t7,t9,t11,(rG g23),h2,h3,h7,h21,trivial⟩
   intro T H ⟨t2,t3,t5,t6,t7,t9,t11,t184,h2,h3,h7,h21,_⟩
   refine R_e ?_
   refine bX t184 (fun c24=>?_) (fun c24=>?_)
   ·
    have q0:=c24
    rw [Bool.and_eq_true,decide_eq_true_eq] at q0
    obtain ⟨hk1,hal⟩:=q0
    refine aC (aD fun Q25 n25 x25 y25 z25=>(W_r (aA t6 (aA t9 (aA t6 (aA t9 (dO (i:=i) (rVq (V.ms 21 1 0 (t.ni.length+1))) (rVq (iV i)) h21 oB rfl (by omega) (by omega) ?_)))))))
    refine cJ (v:=(V.bool (nth ((cY t f i).set i.toNat x) i.toNat))) rfl h21 (eG (by (simp only [List.length_map,List.length_set,cK]; omega)) (by rfl)) (aA rfl ?_)
    refine aT 7 (fun T H=>T 2=(mPq 2)∧T 3=(mPq 3)∧T 5=(iV ((t.ni.length:Nat):Int))∧T 6=(V.ms 21 1 0 (t.ni.length+1))∧T 7=(V.ms 7 v 0 f.kids.length)∧T 9=(iV i)∧T 11=(iV k)∧T 187=(V.ms 21 1 0 (t.ni.length+1))∧T 188=(iV i)∧T 200=(V.bool ((nth ((cY t f i).set i.toNat x) i.toNat)||(nth (nth (f.kids.map (rst t)) 1) k.toNat)))∧H 2=(bFq f)∧H 3=(bk 1 54 2 [[(aY t.ni),(aY t.no)]])∧H 7=(bz v 41 1 (List.map cBL (f.kids.map (rst t))))∧H 21=(bk 1 4 1 (List.map cB ((cY t f i).set i.toNat x)))∧True) ?_ ?_
    ·
     by_cases g26:(nth ((cY t f i).set i.toNat x) i.toNat)=true
     ·
      refine G_n (ebT g26 rfl) (G_n (ebT g26 rfl) (G_n (ebT g26 rfl) (G_n (ebT g26 rfl) (G_n (ebT g26 rfl) (G_n (ebT g26 rfl) (aS (ebT g26 rfl) rfl ?_))))))
      exact ⟨t2,t3,t5,t6,t7,t9,t11,rfl,rfl,(aKm g26),h2,h3,h7,h21,trivial⟩
     ·
      refine aE (ebF g26 rfl) (aA t7 (aE (ebF g26 rfl) (eI (i:=1) (rVq (V.ms 7 v 0 f.kids.length)) (rNq 1) h7 (eO (by (simp only [List.length_map,List.length_set,cK]; omega))) rfl (by omega) (aE (ebF g26 rfl) (cJ (v:=(V.sl (List.map cB (nth (f.kids.map (rst t)) 1)))) rfl h7 (eG (by (simp only [List.length_map,List.length_set,cK]; omega)) (by rfl)) (aE (ebF g26 rfl) (aA t11 ?_)))))))
      refine aE (ebF g26 rfl) (fA (i:=k) (rVq (V.sl (List.map cB (nth (f.kids.map (rst t)) 1)))) (rVq (iV k)) (by omega) (by omega) rfl (aE (ebF g26 rfl) (aG rfl rfl (aU (ebF g26 rfl) rfl ?_))))
      exact ⟨t2,t3,t5,t6,t7,t9,t11,rfl,rfl,(aKv g26),h2,h3,h7,h21,trivial⟩
    intro T H ⟨t2,t3,t5,t6,t7,t9,t11,t187,t188,t200,h2,h3,h7,h21,_⟩
    refine dO (i:=i) t187 t188 h21 oB rfl (by omega) (by omega) (gL (vs:=[(V.bool ((nth ((cY t f i).set i.toNat x) i.toNat)||(nth (nth (f.kids.map (rst t)) 1) k.toNat)))]) (B':=(bk 1 4 1 (List.map cB (((cY t f i).set i.toNat x).set i.toNat ((nth ((cY t f i).set i.toNat x) i.toNat)||(nth (nth (f.kids.map (rst t)) 1) k.toNat)))))) rfl t200 rfl h21 (gU (x:=((nth ((cY t f i).set i.toNat x) i.toNat)||(nth (nth (f.kids.map (rst t)) 1) k.toNat))) (i:=i.toNat) (by (simp only [List.length_map,List.length_set,cK]; omega)) rfl rfl rfl rfl) (R_e (W_t (aA t7 (eI (i:=0) (rVq (V.ms 7 v 0 f.kids.length)) (rNq 0) h7 (eO (by (simp only [List.length_map,List.length_set,cK]; omega))) rfl (by omega) (cJ (v:=(V.sl (List.map cB (nth (f.kids.map (rst t)) 0)))) rfl h7 (eG (by (simp only [List.length_map,List.length_set,cK]; omega)) (by rfl)) (aA t11 ?_)))))))
    refine fA (i:=k) (rVq (V.sl (List.map cB (nth (f.kids.map (rst t)) 0)))) (rVq (iV k)) (by omega) (by omega) rfl (aG rfl rfl (aA rfl (R_e (n25 _ _ (.done (W_t (aA t11 ?_)))))))
    refine nP rfl rfl (by omega) (by omega) (aA rfl (R_e ?_))
    refine p122 _ _ _ ?_ ⟨(k+1),(kR t f 0 k.toNat),(x||kR t f 1 k.toNat),rfl,t2,t3,t5,t6,t7,t9,(eTq (rVq (iV (k+(1:Int)))) (by rfl)),(eTq (rVq (V.bool (nth (nth (f.kids.map (rst t)) 0) k.toNat))) (by rfl)),h2,h3,h7,(eTq (@rfl Blk (bk 1 4 1 (List.map cB (((cY t f i).set i.toNat x).set i.toNat ((nth ((cY t f i).set i.toNat x) i.toNat)||(nth (nth (f.kids.map (rst t)) 1) k.toNat)))))) (by (rw [List.set_set,mX (by rw [cK]; omega)]; rfl))),?_,?_⟩
    · omega
    · omega
    · exact aKh hu (by omega) (by omega) hal
   have hx:=aMk hu c24
   refine aN (p322 _ _ _ (x21 _ _ (n9 _ _ (n8 _ _ (.done (W_t (aA t9 ?_)))))))
   refine oJ rfl rfl (by omega) (by omega) (aA rfl (R_e ?_))
   refine p16 _ _ _ ?_ ⟨(i - 1),v,rfl,t2,t3,t5,t6,t7,(eTq (rVq (iV (i - (1:Int)))) (by rfl)),h2,h3,h7,(eTq h21 (by (rw [gV (by omega) (by omega) hx]; done))),?_⟩
   · omega
   · omega
  refine W_r (aX rfl rfl (aA rfl (R_e ?_)))
  refine bZ rfl (fun c27=>?_) fun c27=>?_
  ·
   refine W_r (aA t6 (aA t9 (dO (i:=i) (rVq (V.ms 21 1 0 (t.ni.length+1))) (rVq (iV i)) h21 oB rfl (by omega) (by omega) (gL (vs:=[(V.bool true)]) (B':=(bk 1 4 1 (List.map cB ((cY t f i).set i.toNat true)))) rfl rfl rfl h21 (gU (x:=true) (i:=i.toNat) (by omega) rfl rfl rfl rfl) (R_e (W_r (aA t9 ?_)))))))
   refine aA rfl (aA rfl (R_e (iC fun Q28 n28 x28 y28 z28=>?_)))
   refine bS (fun mm T H=> ∃ (k:Int) (al:Bool) (x:Bool),mm=t.ni.length+1 - k.toNat∧T 2=(mPq 2)∧T 3=(mPq 3)∧T 5=(iV ((t.ni.length:Nat):Int))∧T 6=(V.ms 21 1 0 (t.ni.length+1))∧T 7=(V.ms 7 v 0 f.kids.length)∧T 9=(iV i)∧T 13=(iV k)∧T 14=(V.bool al)∧H 2=(bFq f)∧H 3=(bk 1 54 2 [[(aY t.ni),(aY t.no)]])∧H 7=(bz v 41 1 (List.map cBL (f.kids.map (rst t))))∧H 21=(bk 1 4 1 (List.map cB ((cY t f i).set i.toNat x)))∧(i≤k∧k≤t.ni.length+1)∧(reI t f i k al x)) ?_ ?_
   ·
    refine ⟨_,i,true,true,rfl,t2,t3,t5,t6,t7,t9,rfl,rfl,h2,h3,h7,(eTq (@rfl Blk (bk 1 4 1 (List.map cB ((cY t f i).set i.toNat true)))) (by rfl)),?_,?_⟩
    · omega
    · exact aHl (by omega) (by omega) (by omega) (by omega)
   intro mm T H ⟨k,al,x,hmm,t2,t3,t5,t6,t7,t9,t13,t14,h2,h3,h7,h21,hk,hu⟩ Q29 p129 p229 p329
   unfold aN2
   refine aB (W_r (aA t13 (aA t5 (qG rfl rfl (aA rfl ?_)))))
   refine aT 2 (fun T H=>T 2=(mPq 2)∧T 3=(mPq 3)∧T 5=(iV ((t.ni.length:Nat):Int))∧T 6=(V.ms 21 1 0 (t.ni.length+1))∧T 7=(V.ms 7 v 0 f.kids.length)∧T 9=(iV i)∧T 13=(iV k)∧T 219=(V.bool (decide (k≤((t.ni.length:Nat):Int))&&al))∧H 2=(bFq f)∧H 3=(bk 1 54 2 [[(aY t.ni),(aY t.no)]])∧H 7=(bz v 41 1 (List.map cBL (f.kids.map (rst t))))∧H 21=(bk 1 4 1 (List.map cB ((cY t f i).set i.toNat x)))∧True) ?_ ?_
   ·
    by_cases g30:k≤((t.ni.length:Nat):Int)
    ·
     refine aE (edT g30 rfl) (aA t14 (aS (edT g30 rfl) rfl ?_))
     exact ⟨t2,t3,t5,t6,t7,t9,t13,(rH g30),h2,h3,h7,h21,trivial⟩
    ·
     refine G_n (edF g30 rfl) (aU (edF g30 rfl) rfl ?_)
     exact ⟨t2,t3,t5,t6,t7,t9,t13,(rG g30),h2,h3,h7,h21,trivial⟩
   intro T H ⟨t2,t3,t5,t6,t7,t9,t13,t219,h2,h3,h7,h21,_⟩
   refine R_e ?_
   refine bX t219 (fun c31=>?_) (fun c31=>?_)
   ·
    have q0:=c31
    rw [Bool.and_eq_true,decide_eq_true_eq] at q0
    obtain ⟨hk1,hal⟩:=q0
    refine aC (aD fun Q32 n32 x32 y32 z32=>(W_r (aA t6 (aA t9 (aA t6 (aA t9 (dO (i:=i) (rVq (V.ms 21 1 0 (t.ni.length+1))) (rVq (iV i)) h21 oB rfl (by omega) (by omega) ?_)))))))
    refine cJ (v:=(V.bool (nth ((cY t f i).set i.toNat x) i.toNat))) rfl h21 (eG (by (simp only [List.length_map,List.length_set,cK]; omega)) (by rfl)) (aA rfl ?_)
    refine aT 7 (fun T H=>T 2=(mPq 2)∧T 3=(mPq 3)∧T 5=(iV ((t.ni.length:Nat):Int))∧T 6=(V.ms 21 1 0 (t.ni.length+1))∧T 7=(V.ms 7 v 0 f.kids.length)∧T 9=(iV i)∧T 13=(iV k)∧T 222=(V.ms 21 1 0 (t.ni.length+1))∧T 223=(iV i)∧T 235=(V.bool ((nth ((cY t f i).set i.toNat x) i.toNat)&&(nth (nth (f.kids.map (rst t)) 1) k.toNat)))∧H 2=(bFq f)∧H 3=(bk 1 54 2 [[(aY t.ni),(aY t.no)]])∧H 7=(bz v 41 1 (List.map cBL (f.kids.map (rst t))))∧H 21=(bk 1 4 1 (List.map cB ((cY t f i).set i.toNat x)))∧True) ?_ ?_
    ·
     by_cases g33:(nth ((cY t f i).set i.toNat x) i.toNat)=true
     ·
      refine aE (ebT g33 rfl) (aA t7 (aE (ebT g33 rfl) (eI (i:=1) (rVq (V.ms 7 v 0 f.kids.length)) (rNq 1) h7 (eO (by (simp only [List.length_map,List.length_set,cK]; omega))) rfl (by omega) (aE (ebT g33 rfl) (cJ (v:=(V.sl (List.map cB (nth (f.kids.map (rst t)) 1)))) rfl h7 (eG (by (simp only [List.length_map,List.length_set,cK]; omega)) (by rfl)) (aE (ebT g33 rfl) (aA t13 ?_)))))))
      refine aE (ebT g33 rfl) (fA (i:=k) (rVq (V.sl (List.map cB (nth (f.kids.map (rst t)) 1)))) (rVq (iV k)) (by omega) (by omega) rfl (aE (ebT g33 rfl) (aG rfl rfl (aS (ebT g33 rfl) rfl ?_))))
      exact ⟨t2,t3,t5,t6,t7,t9,t13,rfl,rfl,(aIn g33),h2,h3,h7,h21,trivial⟩
     ·
      refine G_n (ebF g33 rfl) (G_n (ebF g33 rfl) (G_n (ebF g33 rfl) (G_n (ebF g33 rfl) (G_n (ebF g33 rfl) (G_n (ebF g33 rfl) (aU (ebF g33 rfl) rfl ?_))))))
      exact ⟨t2,t3,t5,t6,t7,t9,t13,rfl,rfl,(aIe g33),h2,h3,h7,h21,trivial⟩
    intro T H ⟨t2,t3,t5,t6,t7,t9,t13,t222,t223,t235,h2,h3,h7,h21,_⟩
    refine dO (i:=i) t222 t223 h21 oB rfl (by omega) (by omega) (gL (vs:=[(V.bool ((nth ((cY t f i).set i.toNat x) i.toNat)&&(nth (nth (f.kids.map (rst t)) 1) k.toNat)))]) (B':=(bk 1 4 1 (List.map cB (((cY t f i).set i.toNat x).set i.toNat ((nth ((cY t f i).set i.toNat x) i.toNat)&&(nth (nth (f.kids.map (rst t)) 1) k.toNat)))))) rfl t235 rfl h21 (gU (x:=((nth ((cY t f i).set i.toNat x) i.toNat)&&(nth (nth (f.kids.map (rst t)) 1) k.toNat))) (i:=i.toNat) (by (simp only [List.length_map,List.length_set,cK]; omega)) rfl rfl rfl rfl) (R_e (W_t (aA t7 (eI (i:=0) (rVq (V.ms 7 v 0 f.kids.length)) (rNq 0) h7 (eO (by (simp only [List.length_map,List.length_set,cK]; omega))) rfl (by omega) (cJ (v:=(V.sl (List.map cB (nth (f.kids.map (rst t)) 0)))) rfl h7 (eG (by (simp only [List.length_map,List.length_set,cK]; omega)) (by rfl)) (aA t13 ?_)))))))
    refine fA (i:=k) (rVq (V.sl (List.map cB (nth (f.kids.map (rst t)) 0)))) (rVq (iV k)) (by omega) (by omega) rfl (aG rfl rfl (eL rfl (aA rfl (R_e (n32 _ _ (.done (W_t ?_)))))))
    refine aA t13 (nP rfl rfl (by omega) (by omega) (aA rfl (R_e ?_)))
    refine p129 _ _ _ ?_ ⟨(k+1),(!(kR t f 0 k.toNat)),(x&&kR t f 1 k.toNat),rfl,t2,t3,t5,t6,t7,t9,(eTq (rVq (iV (k+(1:Int)))) (by rfl)),(eTq (rVq (V.bool (!(nth (nth (f.kids.map (rst t)) 0) k.toNat)))) (by rfl)),h2,h3,h7,(eTq (@rfl Blk (bk 1 4 1 (List.map cB (((cY t f i).set i.toNat x).set i.toNat ((nth ((cY t f i).set i.toNat x) i.toNat)&&(nth (nth (f.kids.map (rst t)) 1) k.toNat)))))) (by (rw [List.set_set,mX (by rw [cK]; omega)]; rfl))),?_,?_⟩
    · omega
    · omega
    · exact aIg hu (by omega) (by omega) hal
   have hx:=aMl hu c31
   refine aN (p329 _ _ _ (x28 _ _ (n9 _ _ (n8 _ _ (.done (W_t (aA t9 ?_)))))))
   refine oJ rfl rfl (by omega) (by omega) (aA rfl (R_e ?_))
   refine p16 _ _ _ ?_ ⟨(i - 1),v,rfl,t2,t3,t5,t6,t7,(eTq (rVq (iV (i - (1:Int)))) (by rfl)),h2,h3,h7,(eTq h21 (by (rw [gV (by omega) (by omega) hx]; done))),?_⟩
   · omega
   · omega
  refine W_r (aA t6 (aA t9 (aL t2 h2 (aJ rfl h2 rfl rfl (aX rfl rfl (dO (i:=i) (rVq (V.ms 21 1 0 (t.ni.length+1))) (rVq (iV i)) h21 oB rfl (by omega) (by omega) (gL (vs:=[(V.bool (decide (f.op=(5:Int))))]) (B':=(bk 1 4 1 (List.map cB ((cY t f i).set i.toNat (decide (f.op=(5:Int))))))) rfl rfl rfl h21 (gU (x:=(decide (f.op=(5:Int)))) (i:=i.toNat) (by omega) rfl rfl rfl rfl) ?_)))))))
  refine R_e (W_r (aA rfl (R_e (iC fun Q34 n34 x34 y34 z34=>?_))))
  refine bS (fun mm T H=> ∃ (q:Nat) (x:Bool),mm=f.kids.length - q∧T 2=(mPq 2)∧T 3=(mPq 3)∧T 5=(iV ((t.ni.length:Nat):Int))∧T 6=(V.ms 21 1 0 (t.ni.length+1))∧T 7=(V.ms 7 v 0 f.kids.length)∧T 9=(iV i)∧T 15=(iV ((q:Nat):Int))∧H 2=(bFq f)∧H 3=(bk 1 54 2 [[(aY t.ni),(aY t.no)]])∧H 7=(bz v 41 1 (List.map cBL (f.kids.map (rst t))))∧H 21=(bk 1 4 1 (List.map cB ((cY t f i).set i.toNat x)))∧(q≤f.kids.length)∧(aoI t f i q x)) ?_ ?_
  ·
   refine ⟨_,0,(decide (f.op=5)),rfl,t2,t3,t5,t6,t7,t9,(eTq (rVq (iV 0)) rfl),h2,h3,h7,(eTq (@rfl Blk (bk 1 4 1 (List.map cB ((cY t f i).set i.toNat (decide (f.op=(5:Int))))))) (by rfl)),?_,?_⟩
   · omega
   · exact aG7 (by omega) (by omega) (by omega)
  intro mm T H ⟨q,x,hmm,t2,t3,t5,t6,t7,t9,t15,h2,h3,h7,h21,hq,ha⟩ Q35 p135 p235 p335
  unfold aN9
  have hrq:q < f.kids.length→(nth (f.kids.map (rst t)) q).length=t.ni.length+1:=fun h=>by rw [fS h,tH]
  refine aB (W_r (aA t15 (aA t7 (fQ rfl h7 (by simp) (bO rfl rfl (R_e ?_))))))
  refine aH rfl (fun c36=>?_) fun c36=>?_
  ·
   refine aC (aD fun Q37 n37 x37 y37 z37=>(W_r (aL t2 h2 (aJ rfl h2 rfl rfl (aX rfl rfl (R_e ?_))))))
   refine bZ rfl (fun c38=>?_) fun c38=>?_
   ·
    refine W_t (aA t6 (aA t9 (aA t6 (aA t9 (dO (i:=i) (rVq (V.ms 21 1 0 (t.ni.length+1))) (rVq (iV i)) h21 oB rfl (by omega) (by omega) (cJ (v:=(V.bool (nth ((cY t f i).set i.toNat x) i.toNat))) rfl h21 (eG (by (simp only [List.length_map,List.length_set,cK]; omega)) (by rfl)) (aA rfl ?_)))))))
    refine aT 8 (fun T H=>T 2=(mPq 2)∧T 3=(mPq 3)∧T 5=(iV ((t.ni.length:Nat):Int))∧T 6=(V.ms 21 1 0 (t.ni.length+1))∧T 7=(V.ms 7 v 0 f.kids.length)∧T 9=(iV i)∧T 15=(iV ((q:Nat):Int))∧T 64=(V.ms 21 1 0 (t.ni.length+1))∧T 65=(iV i)∧T 78=(V.bool ((nth ((cY t f i).set i.toNat x) i.toNat)&&(nth (nth (f.kids.map (rst t)) q) i.toNat)))∧H 2=(bFq f)∧H 3=(bk 1 54 2 [[(aY t.ni),(aY t.no)]])∧H 7=(bz v 41 1 (List.map cBL (f.kids.map (rst t))))∧H 21=(bk 1 4 1 (List.map cB ((cY t f i).set i.toNat x)))∧True) ?_ ?_
    ·
     by_cases g39:(nth ((cY t f i).set i.toNat x) i.toNat)=true
     ·
      refine aE (ebT g39 rfl) (aA t7 (aE (ebT g39 rfl) (aA t15 (aE (ebT g39 rfl) (eI (i:=q) (rVq (V.ms 7 v 0 f.kids.length)) (rNq q) h7 (eO (by (simp only [List.length_map,List.length_set,cK]; omega))) rfl (by omega) (aE (ebT g39 rfl) (cJ (v:=(V.sl (List.map cB (nth (f.kids.map (rst t)) q)))) rfl h7 (eG (by (simp only [List.length_map,List.length_set,cK]; omega)) (by rfl)) ?_)))))))
      refine aE (ebT g39 rfl) (aA t9 (aE (ebT g39 rfl) (fA (i:=i) (rVq (V.sl (List.map cB (nth (f.kids.map (rst t)) q)))) (rVq (iV i)) (by omega) (by omega) rfl (aE (ebT g39 rfl) (aG rfl rfl (aS (ebT g39 rfl) rfl ?_))))))
      exact ⟨t2,t3,t5,t6,t7,t9,t15,rfl,rfl,(aIn g39),h2,h3,h7,h21,trivial⟩
     ·
      refine G_n (ebF g39 rfl) (G_n (ebF g39 rfl) (G_n (ebF g39 rfl) (G_n (ebF g39 rfl) (G_n (ebF g39 rfl) (G_n (ebF g39 rfl) (G_n (ebF g39 rfl) (aU (ebF g39 rfl) rfl ?_)))))))
      exact ⟨t2,t3,t5,t6,t7,t9,t15,rfl,rfl,(aIe g39),h2,h3,h7,h21,trivial⟩
    intro T H ⟨t2,t3,t5,t6,t7,t9,t15,t64,t65,t78,h2,h3,h7,h21,_⟩
    refine dO (i:=i) t64 t65 h21 oB rfl (by omega) (by omega) (gL (vs:=[(V.bool ((nth ((cY t f i).set i.toNat x) i.toNat)&&(nth (nth (f.kids.map (rst t)) q) i.toNat)))]) (B':=(bk 1 4 1 (List.map cB (((cY t f i).set i.toNat x).set i.toNat ((nth ((cY t f i).set i.toNat x) i.toNat)&&(nth (nth (f.kids.map (rst t)) q) i.toNat)))))) rfl t78 rfl h21 (gU (x:=((nth ((cY t f i).set i.toNat x) i.toNat)&&(nth (nth (f.kids.map (rst t)) q) i.toNat))) (i:=i.toNat) (by (simp only [List.length_map,List.length_set,cK]; omega)) rfl rfl rfl rfl) (R_e (n37 _ _ (.done (W_t (aA t15 (bC rfl (rNq 1) (by omega) ?_)))))))
    refine aA rfl (R_e ?_)
    refine p135 _ _ _ ?_ ⟨(q+1),(x&&nth (nth (f.kids.map (rst t)) q) i.toNat),rfl,t2,t3,t5,t6,t7,t9,(eTq (rNq (q+1)) (by rfl)),h2,h3,h7,(eTq (@rfl Blk (bk 1 4 1 (List.map cB (((cY t f i).set i.toNat x).set i.toNat ((nth ((cY t f i).set i.toNat x) i.toNat)&&(nth (nth (f.kids.map (rst t)) q) i.toNat)))))) (by (rw [List.set_set,mX (by rw [cK]; omega)]; done))),?_,?_⟩
    · omega
    · omega
    · first|exact aF4 ha (by omega) (by omega)|exact aJe ha (by omega) (by omega)
   refine W_t (aA t6 (aA t9 (aA t6 (aA t9 (dO (i:=i) (rVq (V.ms 21 1 0 (t.ni.length+1))) (rVq (iV i)) h21 oB rfl (by omega) (by omega) (cJ (v:=(V.bool (nth ((cY t f i).set i.toNat x) i.toNat))) rfl h21 (eG (by (simp only [List.length_map,List.length_set,cK]; omega)) (by rfl)) (aA rfl ?_)))))))
   refine aT 8 (fun T H=>T 2=(mPq 2)∧T 3=(mPq 3)∧T 5=(iV ((t.ni.length:Nat):Int))∧T 6=(V.ms 21 1 0 (t.ni.length+1))∧T 7=(V.ms 7 v 0 f.kids.length)∧T 9=(iV i)∧T 15=(iV ((q:Nat):Int))∧T 80=(V.ms 21 1 0 (t.ni.length+1))∧T 81=(iV i)∧T 94=(V.bool ((nth ((cY t f i).set i.toNat x) i.toNat)||(nth (nth (f.kids.map (rst t)) q) i.toNat)))∧H 2=(bFq f)∧H 3=(bk 1 54 2 [[(aY t.ni),(aY t.no)]])∧H 7=(bz v 41 1 (List.map cBL (f.kids.map (rst t))))∧H 21=(bk 1 4 1 (List.map cB ((cY t f i).set i.toNat x)))∧True) ?_ ?_
   ·
    by_cases g40:(nth ((cY t f i).set i.toNat x) i.toNat)=true
    ·
     refine G_n (ebT g40 rfl) (G_n (ebT g40 rfl) (G_n (ebT g40 rfl) (G_n (ebT g40 rfl) (G_n (ebT g40 rfl) (G_n (ebT g40 rfl) (G_n (ebT g40 rfl) (aS (ebT g40 rfl) rfl ?_)))))))
     exact ⟨t2,t3,t5,t6,t7,t9,t15,rfl,rfl,(aKm g40),h2,h3,h7,h21,trivial⟩
    ·
     refine aE (ebF g40 rfl) (aA t7 (aE (ebF g40 rfl) (aA t15 (aE (ebF g40 rfl) (eI (i:=q) (rVq (V.ms 7 v 0 f.kids.length)) (rNq q) h7 (eO (by (simp only [List.length_map,List.length_set,cK]; omega))) rfl (by omega) (aE (ebF g40 rfl) (cJ (v:=(V.sl (List.map cB (nth (f.kids.map (rst t)) q)))) rfl h7 (eG (by (simp only [List.length_map,List.length_set,cK]; omega)) (by rfl)) ?_)))))))
     refine aE (ebF g40 rfl) (aA t9 (aE (ebF g40 rfl) (fA (i:=i) (rVq (V.sl (List.map cB (nth (f.kids.map (rst t)) q)))) (rVq (iV i)) (by omega) (by omega) rfl (aE (ebF g40 rfl) (aG rfl rfl (aU (ebF g40 rfl) rfl ?_))))))
     exact ⟨t2,t3,t5,t6,t7,t9,t15,rfl,rfl,(aKv g40),h2,h3,h7,h21,trivial⟩
   intro T H ⟨t2,t3,t5,t6,t7,t9,t15,t80,t81,t94,h2,h3,h7,h21,_⟩
   refine dO (i:=i) t80 t81 h21 oB rfl (by omega) (by omega) (gL (vs:=[(V.bool ((nth ((cY t f i).set i.toNat x) i.toNat)||(nth (nth (f.kids.map (rst t)) q) i.toNat)))]) (B':=(bk 1 4 1 (List.map cB (((cY t f i).set i.toNat x).set i.toNat ((nth ((cY t f i).set i.toNat x) i.toNat)||(nth (nth (f.kids.map (rst t)) q) i.toNat)))))) rfl t94 rfl h21 (gU (x:=((nth ((cY t f i).set i.toNat x) i.toNat)||(nth (nth (f.kids.map (rst t)) q) i.toNat))) (i:=i.toNat) (by (simp only [List.length_map,List.length_set,cK]; omega)) rfl rfl rfl rfl) (R_e (n37 _ _ (.done (W_t (aA t15 (bC rfl (rNq 1) (by omega) ?_)))))))
   refine aA rfl (R_e ?_)
   refine p135 _ _ _ ?_ ⟨(q+1),(x||nth (nth (f.kids.map (rst t)) q) i.toNat),rfl,t2,t3,t5,t6,t7,t9,(eTq (rNq (q+1)) (by rfl)),h2,h3,h7,(eTq (@rfl Blk (bk 1 4 1 (List.map cB (((cY t f i).set i.toNat x).set i.toNat ((nth ((cY t f i).set i.toNat x) i.toNat)||(nth (nth (f.kids.map (rst t)) q) i.toNat)))))) (by (rw [List.set_set,mX (by rw [cK]; omega)]; done))),?_,?_⟩
   · omega
   · omega
   · first|exact aF4 ha (by omega) (by omega)|exact aJe ha (by omega) (by omega)
  have hx:=aLs ha (by omega)
  refine aN (p335 _ _ _ (x34 _ _ (n9 _ _ (n8 _ _ (.done (W_t (aA t9 ?_)))))))
  refine oJ rfl rfl (by omega) (by omega) (aA rfl (R_e ?_))
  refine p16 _ _ _ ?_ ⟨(i - 1),v,rfl,t2,t3,t5,t6,t7,(eTq (rVq (iV (i - (1:Int)))) (by rfl)),h2,h3,h7,(eTq h21 (by (rw [gV (by omega) (by omega) hx]; done))),?_⟩
  · omega
  · omega
 refine aN (p36 _ _ _ (x5 _ _ (.done (W_r (aA t6 (aA rfl (R_e ?_)))))))
 refine aO ?_
 refine bH (rVq (V.ms 21 1 0 (t.ni.length+1))) (iJ h21 (by rfl) (l:=(cY t f i)) rfl (by exact (cK _ _ _).symm) (fun _=>by simp) ?_)
 · rw [show i= -1 by omega,aKy]
theorem aCJ (f:Fm) (t:Tr) (hf:okF f=true) (hz:f.sz≤4096) (ht:t.no.length=t.ni.length) (hn:t.ni.length≤1024):aQ Tryz.prog 70 [(V.agg (rFq f)),(V.agg [(aY t.ni),(aY t.no)])] (V.sl (List.map cB (rst t f))):=by
  have key: ∀ (mm:Nat) (f:Fm) (t:Tr),f.sz < mm→okF f=true→f.sz≤4096→t.no.length=t.ni.length→t.ni.length≤1024→aQ Tryz.prog 70 [(V.agg (rFq f)),(V.agg [(aY t.ni),(aY t.no)])] (V.sl (List.map cB (rst t f))):=by
    intro mm
    induction mm with
    |zero=>intro f t hlt; exact absurd hlt (Nat.not_lt_zero _)
    | succ mm ih =>
      intro f t hlt hf hz ht hn
      exact tX f t hf hz ht hn fun f2 t2 hlt2=>ih f2 t2 (by omega)
  exact key (f.sz+1) f t (Nat.lt_succ_self _) hf hz ht hn
end Go.Proofs.YteehaobohaecmaaGreatDoor
namespace Go.Proofs.YteehaobohaecmaaGreatDoor
open Go Go.Proofs
theorem aDr (f:Fm) (t:Tr):aQ Tryz.prog 43 [(V.agg (rFq f)),(V.agg [(aY t.ni),(aY t.no)])] (V.tup [(V.bool (hoB t f)),(iV (hoE t f))]):=by
 refine pW Tryz.func43 aPP fun hB=>?_
 unfold s43
 dsimp only
 refine W_r (cA (i:=2) (n:=0) (m:=3) (cs:=(rFq f)) rfl (cVq rfl) rfl rfl rfl (cA (i:=3) (n:=0) (m:=2) (cs:=[(aY t.ni),(aY t.no)]) rfl (cVq rfl) rfl rfl rfl (aA rfl (aA rfl (R_e (aD fun Q1 n1 x1 y1 z1=>(W_r ?_)))))))
 refine aJ rfl rfl rfl rfl (aI (eH f) rfl (cD rfl rfl (aA rfl (R_e ?_))))
 refine bZ rfl (fun c2=>?_) fun c2=>?_
 ·
  have h0:hoE t f=cW f:=if_pos c2
  have hb0:hoB t f=false:=by unfold hoB; rw [h0,decide_eq_false (by omega)]; rfl
  refine W_r (aJ rfl rfl rfl rfl (aI (eH f) rfl (aA rfl (aA rfl (R_e (aO (y1 _ _ ?_)))))))
  refine dC (rVq (V.bool false)) (rVq (iV (cW f))) (aZ ?_) (aF ?_)
  · rw [hb0]
  · omega
 have h1:cW f=0:=by omega
 refine W_r (aL rfl rfl (aJ rfl rfl rfl rfl (bF rfl (fI rfl rfl (aA rfl (R_e ?_))))))
 refine bZ rfl (fun c3=>?_) fun c3=>?_
 ·
  have h0:hoE t f=3:=by unfold hoE; rw [if_neg (by omega),if_pos (by omega)]
  have hb0:hoB t f=false:=by unfold hoB; rw [h0]; rfl
  refine W_r (aA rfl (aA rfl (R_e (aO (y1 _ _ ?_)))))
  refine dC (rVq (V.bool false)) (rVq (iV 3)) (aZ ?_) (aF ?_)
  · rw [hb0]
  · omega
 refine W_r (aL rfl rfl (aJ rfl rfl rfl rfl (bF rfl (aL rfl rfl (aJ rfl rfl rfl rfl (bF rfl (cD rfl rfl ?_)))))))
 refine aA rfl (R_e ?_)
 refine bZ rfl (fun c4=>?_) fun c4=>?_
 ·
  have h0:hoE t f=1:=by unfold hoE; rw [if_neg (by omega),if_neg (by omega),if_pos (by omega)]
  have hb0:hoB t f=false:=by unfold hoB; rw [h0]; rfl
  refine W_r (aA rfl (aA rfl (R_e (aO (y1 _ _ ?_)))))
  refine dC (rVq (V.bool false)) (rVq (iV 1)) (aZ ?_) (aF ?_)
  · rw [hb0]
  · omega
 have h0:hoE t f=0:=by unfold hoE; rw [if_neg (by omega),if_neg (by omega),if_neg (by omega)]
 have hb0:hoB t f=nth (rst t f) 0:=by unfold hoB; rw [h0,wM (Nat.zero_le _)]; rfl
 have hrl:=tH t f
 refine cN (n1 _ _ (.done (W_r (aJ rfl rfl rfl rfl (aJ rfl rfl rfl rfl (aI (aCJ f t (eZ h1) (gA h1) (by omega) (by omega)) rfl (dB (i:=0) (rVq (V.sl (List.map cB (rst t f)))) (rNq 0) (by omega) rfl ?_)))))))
 refine aG rfl rfl (aA rfl (aA rfl (R_e (aO ?_))))
 refine dC (rVq (V.bool (nth (rst t f) 0))) (rVq (iV 0)) (aZ ?_) (aF ?_)
 · rw [hb0]
 · omega
theorem zO (f:Fm):aQ Tryz.prog 16 [(V.agg (rFq f))] (V.tup [(V.bool (hoB t0 f)),(iV (hoE t0 f))]):=by
 refine pW Tryz.func16 aRv fun hB=>?_
 unfold s16
 dsimp only
 refine W_r (cA (i:=1) (n:=0) (m:=3) (cs:=(rFq f)) rfl (cVq rfl) rfl rfl rfl (aA rfl (aA rfl (R_e (aB (W_r (aJ rfl rfl rfl rfl ?_)))))))
 refine aI (eH f) rfl (cD rfl rfl (R_e ?_))
 refine aH rfl (fun c1=>?_) fun c1=>?_
 ·
  have h0:hoE t0 f=cW f:=if_pos c1
  have hb0:hoB t0 f=false:=by unfold hoB; rw [h0,decide_eq_false (by omega)]; rfl
  refine aB (W_r (aJ rfl rfl rfl rfl (aI (eH f) rfl (aA rfl (aA rfl (R_e (aM ?_)))))))
  refine dC (rVq (V.bool false)) (rVq (iV (cW f))) (aZ ?_) (aF ?_)
  · rw [hb0]
  · omega
 refine aC (W_r (aJ rfl rfl rfl rfl (aW rfl rfl (kU (bL (rVq (V.agg (rFq f))) (bL (rVq (V.agg [V.nilsl,V.nilsl])) eB)) (aDr f (⟨([]),([])⟩:Tr)) (iK (fH 6 _ (by simp)) (iK (by rfl) rfl)) (by simp) (Or.inl (by simp)) (bK rfl rfl (bK rfl rfl (aA rfl ?_)))))))
 refine aA rfl (R_e (aO ?_))
 refine dC (rVq (V.bool (hoB (⟨([]),([])⟩:Tr) f))) (rVq (iV (hoE (⟨([]),([])⟩:Tr) f))) (aZ ?_) (aF ?_)
 · rfl
 · rfl
def aTq:List SO:=[
 qM 14 0,
 qM 15 7,
 qA 16 5 14 15,
 qF 17 0 16,
 ql 18 17,
 qM 19 1,
 qP 20 .eql 18 19,
 qM 21 20,
 ⟨some (21,true),some 22,.mv (.t 0)⟩,
 ⟨some (21,true),some 23,.mv (.t 7)⟩,
 ⟨some (21,true),some 24,.idx 5 (.t 22) (.t 23)⟩,
 ⟨some (21,true),some 25,.fld 1 (.t 24)⟩,
 ⟨some (21,true),some 26,.load true 3 (.t 25)⟩,
 ⟨some (21,true),some 27,.load true 3 (.t 5)⟩,
 ⟨some (21,true),some 28,.call false 17 [.t 26,.t 27]⟩,
 sO 29 (.pick (.t 21) (.t 28) (.c (.bool false)))]
def aNX:SC:=.seq (.seq (.reg [qM 8 7,qM 9 0,qN 10 9,qP 11 .lss 8 10]) (.cond (.t 11) (.skip) (.exit 0))) (.seq (.block 1 (.seq (.reg aTq) (.cond (.t 29) (.seq (.reg [sO 6 (.mv (.c (.bool true)))]) (.ret)) (.skip)))) (.reg [qM 12 7,qC 13 .add 12 1,qM 7 13]))
def s76:SF:=⟨30,[.tmp 6],.seq (.reg [sO 5 (.box 24 3 (.t 2)),sO 6 (.mv (.c (.bool false)))]) (.seq (.seq (.reg [qI 7 0]) (.block 0 (.loop aNX))) (.seq (.reg [sO 6 (.mv (.c (.bool false)))]) (.ret)))⟩
theorem aOW:bJ Tryz.prog ⟨oEq,[],[],[]⟩ Tryz.f76=some s76:=by kernel_rfl
end Go.Proofs.YteehaobohaecmaaGreatDoor
namespace Go.Proofs.YteehaobohaecmaaGreatDoor
open Go
inductive K where
  |L (p:Int→Int→Bool) (q:Bool)
  |X (w:Bool) (k:K)
  |N (u:Bool) (i s:K)
  |A (a b:K)
  |O (a b:K)
section
variable (n:Nat) (lt:Nat→Int×Int)
def ks:K→Nat→Bool
  | .L p q,i=>if i < n then p (lt i).1 (lt i).2 else q
  | .X w k,i=>if i < n then ks k (i+1) else w
  | .N u i s,j=>if u=true then gY (ks i) (ks s) (n - j) j else iA (ks s) (ks i) (n - j) j
  | .A a b,i=>ks a i&&ks b i
  | .O a b,i=>ks a i||ks b i
end
section
variable {n:Nat} {lt:Nat→Int×Int} {i s:K} {j:Nat}
theorem uG (h:j < n):ks n lt (.N true i s) j=(ks n lt s j||(ks n lt i j&&ks n lt (.N true i s) (j+1))):=by
  simp only [ks,if_true]
  rw [show n - j=(n - (j+1))+1 by omega,gY]
theorem aBb:ks n lt (.N true i s) n=ks n lt s n:=by
  simp only [ks,if_true]
  rw [Nat.sub_self,gY]
theorem uR (h:j < n):ks n lt (.N false i s) j=(ks n lt i j&&(ks n lt s j||ks n lt (.N false i s) (j+1))):=by
  simp only [ks,Bool.false_eq_true,if_false]
  rw [show n - j=(n - (j+1))+1 by omega,iA]
theorem aFk:ks n lt (.N false i s) n=ks n lt i n:=by
  simp only [ks,Bool.false_eq_true,if_false]
  rw [Nat.sub_self,iA]
end
inductive DD where
  |L
  |X (σ:Nat→Bool) (d:DD)
  |N (v:Nat→Bool) (d e:DD)
  |P (d e:DD)
def pat:DD→Nat→List Bool
  | .L,_=>[]
  | .X σ d,q=>σ q::pat d q
  | .N v d e,q=>v q::(pat d q++pat e q)
  | .P d e,q=>pat d q++pat e q
def DD.ln:DD→Nat
  | .L=>0
  | .X _ d=>d.ln+1
  | .N _ d e=>d.ln+e.ln+1
  | .P d e=>d.ln+e.ln
theorem iD: ∀ (d:DD) (q:Nat),(pat d q).length=d.ln
  | .L,_=>rfl
  | .X _ d,q=>by simp [pat,DD.ln,iD d q]
  | .N _ d e,q=>by simp [pat,DD.ln,iD d q,iD e q]
  | .P d e,q=>by simp [pat,DD.ln,iD d q,iD e q]
structure NR (u:Bool) (n:Nat) (r v x y c:Nat→Bool):Prop where
  z:v 0=r 0
  s: ∀ j,j < n→v (j+1)=(r (j+1)||c j)
  off: ∀ j,j≤n→v j=false→x j=false∧y j=false∧c j=false
  con: ∀ j,j < n→v j=true→c j=true→x j=true∧y j=false
  dis: ∀ j,j < n→v j=true→c j=false→y j=true∧x j= !u
  fin:v n=true→x n= !u∧y n=u
section
variable (n:Nat) (lt:Nat→Int×Int)
def Gs:K→(Nat→Bool)→DD→Prop
  | .L p q,r,d=>d=.L∧ ∀ i,i≤n→r i=true→ks n lt (.L p q) i=true
  | .X w k,r,d=> ∃ σ d',d=.X σ d'∧(∀ i,i < n→σ (i+1)=r i)∧(r n=true→w=true)∧Gs k σ d'
  | .N u i s,r,d=> ∃ v x y c d1 d2,d=.N v d1 d2∧NR u n r v x y c∧Gs i x d1∧Gs s y d2
  | .A a b,r,d=> ∃ d1 d2,d=.P d1 d2∧Gs a r d1∧Gs b r d2
  | .O a b,r,d=> ∃ x y d1 d2,d=.P d1 d2∧(∀ i,i≤n→(x i||y i)=r i)∧Gs a x d1∧Gs b y d2
end
section
variable {n:Nat} {lt:Nat→Int×Int}
theorem NR.all {u:Bool} {r v x y c:Nat→Bool} {i s:K} (h:NR u n r v x y c) (hx: ∀ p,p≤n→x p=true→ks n lt i p=true) (hy: ∀ p,p≤n→y p=true→ks n lt s p=true): ∀ (m p:Nat),p+m=n→v p=true→ks n lt (.N u i s) p=true:=by
  intro m
  induction m with
  | zero =>
    intro p hp hv
    have e:p=n:=by omega
    subst e
    have hf:=h.fin hv
    cases u with
    |true=>rw [aBb]; exact hy p (Nat.le_refl _) hf.2
    |false=>rw [aFk]; exact hx p (Nat.le_refl _) hf.1
  | succ m ih =>
    intro p hp hv
    have hpn:p < n:=by omega
    cases hc:c p with
    | true =>
      have q:=h.con p hpn hv hc
      have hv2:v (p+1)=true:=by rw [h.s p hpn,hc,Bool.or_true]
      have a:=ih (p+1) (by omega) hv2
      have b:=hx p (by omega) q.1
      cases u with
      |true=>rw [uG hpn,a,b]; simp
      |false=>rw [uR hpn,a,b]; simp
    | false =>
      have q:=h.dis p hpn hv hc
      have a:=hy p (by omega) q.1
      cases u with
      |true=>rw [uG hpn,a]; simp
      |false=>rw [uR hpn,a,hx p (by omega) q.2]; simp
theorem Gs.sound: ∀ {k:K} {r:Nat→Bool} {d:DD},Gs n lt k r d→ ∀ p,p≤n→r p=true→ks n lt k p=true
  | .L _ _,_,_,h=>h.2
  | .X w k, r, d, h => by
    obtain ⟨σ,d',_,h1,h2,h3⟩:=h
    intro p hp hr
    simp only [ks]
    by_cases e:p < n
    · rw [if_pos e]; exact Gs.sound h3 (p+1) (by omega) (by rw [h1 p e]; exact hr)
    · rw [if_neg e]; exact h2 (by rw [show n=p by omega]; exact hr)
  | .N u i s, r, d, h => by
    obtain ⟨v,x,y,c,d1,d2,_,h1,h2,h3⟩:=h
    intro p hp hr
    refine h1.all (Gs.sound h2) (Gs.sound h3) (n - p) p (by omega) ?_
    cases p with
    |zero=>rw [h1.z]; exact hr
    |succ p=>rw [h1.s p (by omega),hr]; rfl
  | .A a b, r, d, h => by
    obtain ⟨d1,d2,_,h1,h2⟩:=h
    intro p hp hr
    simp only [ks]
    rw [Gs.sound h1 p hp hr,Gs.sound h2 p hp hr]; rfl
  | .O a b, r, d, h => by
    obtain ⟨x,y,d1,d2,_,h0,h1,h2⟩:=h
    intro p hp hr
    simp only [ks]
    have e:=h0 p hp
    rw [hr] at e
    cases hx:x p with
    |true=>rw [Gs.sound h1 p hp hx]; rfl
    |false=>rw [hx,Bool.false_or] at e; rw [Gs.sound h2 p hp e,Bool.or_true]
def vN (r h:Nat→Bool):Nat→Bool
  |0=>r 0
  |j+1=>r (j+1)||(vN r h j&& !h j)
theorem aNd {u:Bool} {i s:K} {r:Nat→Bool} (hr: ∀ p,p≤n→r p=true→ks n lt (.N u i s) p=true): ∀ p,p≤n→vN r (ks n lt s) p=true→ks n lt (.N u i s) p=true
  |0,hp,h=>hr 0 hp h
  | p + 1, hp, h => by
    rw [vN,Bool.or_eq_true,Bool.and_eq_true] at h
    rcases h with h|⟨h1,h2⟩
    · exact hr _ hp h
    · have ih:=aNd hr p (by omega) h1
      have hs:ks n lt s p=false:=by simpa using h2
      cases u with
      |true=>rw [uG (by omega),hs,Bool.false_or,Bool.and_eq_true] at ih; exact ih.2
      |false=>rw [uR (by omega),hs,Bool.false_or,Bool.and_eq_true] at ih; exact ih.2
theorem Gs.make : ∀ (k : K) (r : Nat → Bool), (∀ p, p ≤ n → r p = true → ks n lt k p = true) → ∃ d, Gs n lt k r d
  | .L p q,r,h=>⟨.L,rfl,h⟩
  | .X w k, r, h => by
    have hk: ∀ p,p≤n→(fun p=>match p with|0=>false|p+1=>r p) p=true→ks n lt k p=true:=by
      intro p hp e
      cases p with
      |zero=>cases e
      | succ p =>
        have:=h p (by omega) e
        simp only [ks] at this
        rw [if_pos (by omega)] at this; exact this
    obtain ⟨d,hd⟩:=Gs.make k _ hk
    exact ⟨.X _ d,_,d,rfl,fun i _=>rfl,fun e=>by have:=h n (Nat.le_refl _) e; simp only [ks] at this; rw [if_neg (by omega)] at this; exact this,hd⟩
  | .N u i s, r, h => by
    have hv:=aNd h
    have hc: ∀ p,p≤n→vN r (ks n lt s) p=true→ks n lt s p=false→p < n∨u=false:=by
      intro p hp h1 h2
      by_cases e:p < n
      · exact .inl e
      · right
        have e2:p=n:=by omega
        subst e2
        cases u with
        |true=>have:=hv p (Nat.le_refl _) h1; rw [aBb,h2] at this; cases this
        |false=>rfl
    cases u with
    | true =>
      obtain ⟨d1,g1⟩:=Gs.make i (fun p=>vN r (ks n lt s) p&& !ks n lt s p) fun p hp e=>by
        rw [Bool.and_eq_true] at e
        have e2:ks n lt s p=false:=by simpa using e.2
        have:=hv p hp e.1
        rw [uG ((hc p hp e.1 e2).resolve_right (by decide)),e2,Bool.false_or,Bool.and_eq_true] at this
        exact this.1
      obtain ⟨d2,g2⟩:=Gs.make s (fun p=>vN r (ks n lt s) p&&ks n lt s p) fun p hp e=>by rw [Bool.and_eq_true] at e; exact e.2
      refine ⟨.N (vN r (ks n lt s)) d1 d2,vN r (ks n lt s),_,_,(fun p=>vN r (ks n lt s) p&& !ks n lt s p),d1,d2,rfl,⟨rfl,fun j _=>rfl,fun j _ e=>by simp [e],fun j hj e e2=>?_,fun j hj e e2=>?_,fun e=>?_⟩,g1,g2⟩
      · rw [e,Bool.true_and] at e2
        have e3:ks n lt s j=false:=by simpa using e2
        simp [e,e3]
      · rw [e,Bool.true_and] at e2
        have e3:ks n lt s j=true:=by simpa using e2
        simp [e,e3]
      · have e3:ks n lt s n=true:=by have:=hv n (Nat.le_refl _) e; rw [aBb] at this; exact this
        simp [e,e3]
    | false =>
      obtain ⟨d1,g1⟩:=Gs.make i (vN r (ks n lt s)) fun p hp e=>by
        have:=hv p hp e
        by_cases q:p < n
        · rw [uR q,Bool.and_eq_true] at this; exact this.1
        · rw [show p=n by omega] at this ⊢; rw [aFk] at this; exact this
      obtain ⟨d2,g2⟩:=Gs.make s (fun p=>vN r (ks n lt s) p&&ks n lt s p&&decide (p < n)) fun p hp e=>by rw [Bool.and_eq_true,Bool.and_eq_true] at e; exact e.1.2
      refine ⟨.N (vN r (ks n lt s)) d1 d2,vN r (ks n lt s),_,_,(fun p=>vN r (ks n lt s) p&& !ks n lt s p),d1,d2,rfl,⟨rfl,fun j _=>rfl,fun j _ e=>by simp [e],fun j hj e e2=>?_,fun j hj e e2=>?_,fun e=>?_⟩,g1,g2⟩
      · rw [e,Bool.true_and] at e2
        have e3:ks n lt s j=false:=by simpa using e2
        simp [e,e3]
      · rw [e,Bool.true_and] at e2
        have e3:ks n lt s j=true:=by simpa using e2
        simp [e,e3,hj]
      · simp [e]
  | .A a b, r, h => by
    obtain ⟨d1,g1⟩:=Gs.make a r fun p hp e=>by have:=h p hp e; simp only [ks,Bool.and_eq_true] at this; exact this.1
    obtain ⟨d2,g2⟩:=Gs.make b r fun p hp e=>by have:=h p hp e; simp only [ks,Bool.and_eq_true] at this; exact this.2
    exact ⟨.P d1 d2,d1,d2,rfl,g1,g2⟩
  | .O a b, r, h => by
    obtain ⟨d1,g1⟩:=Gs.make a (fun p=>r p&&ks n lt a p) fun p hp e=>by rw [Bool.and_eq_true] at e; exact e.2
    obtain ⟨d2,g2⟩:=Gs.make b (fun p=>r p&& !ks n lt a p) fun p hp e=>by
      rw [Bool.and_eq_true] at e
      have e2:ks n lt a p=false:=by simpa using e.2
      have:=h p hp e.1
      simp only [ks] at this
      rw [e2,Bool.false_or] at this; exact this
    exact ⟨.P d1 d2,_,_,d1,d2,rfl,fun i _=>by cases r i <;> cases ks n lt a i <;> rfl,g1,g2⟩
end
def ltC (lt:Nat→Int×Int) (i j p:Nat):Int×Int:=if p < i then lt p else lt (p+(j - i))
section
variable {n:Nat} {lt:Nat→Int×Int} {i j:Nat}
theorem wT {g h g' h':Nat→Bool}: ∀ {m p q:Nat},(∀ k,k≤m→g (p+k)=g' (q+k))→(∀ k,k≤m→h (p+k)=h' (q+k))→gY g h m p=gY g' h' m q
  |0,p,q,_,h2=>h2 0 (Nat.le_refl _)
  | m + 1, p, q, h1, h2 => by
    have a:=h1 0 (by omega); have b:=h2 0 (by omega)
    simp only [Nat.add_zero] at a b
    rw [gY,gY,a,b,wT (g':=g') (h':=h') (q:=q+1) (fun k hk=>by have:=h1 (k+1) (by omega); rw [show p+1+k=p+(k+1) by omega,show q+1+k=q+(k+1) by omega]; exact this) (fun k hk=>by have:=h2 (k+1) (by omega); rw [show p+1+k=p+(k+1) by omega,show q+1+k=q+(k+1) by omega]; exact this)]
theorem wU {g h g' h':Nat→Bool}: ∀ {m p q:Nat},(∀ k,k≤m→g (p+k)=g' (q+k))→(∀ k,k≤m→h (p+k)=h' (q+k))→iA g h m p=iA g' h' m q
  |0,p,q,_,h2=>h2 0 (Nat.le_refl _)
  | m + 1, p, q, h1, h2 => by
    have a:=h1 0 (by omega); have b:=h2 0 (by omega)
    simp only [Nat.add_zero] at a b
    rw [iA,iA,a,b,wU (g':=g') (h':=h') (q:=q+1) (fun k hk=>by have:=h1 (k+1) (by omega); rw [show p+1+k=p+(k+1) by omega,show q+1+k=q+(k+1) by omega]; exact this) (fun k hk=>by have:=h2 (k+1) (by omega); rw [show p+1+k=p+(k+1) by omega,show q+1+k=q+(k+1) by omega]; exact this)]
theorem hC (hij:i≤j) (hj:j≤n): ∀ (k:K) (p:Nat),i≤p→p≤n - (j - i)→ks (n - (j - i)) (ltC lt i j) k p=ks n lt k (p+(j - i))
  | .L a b, p, h1, h2 => by
    simp only [ks]
    by_cases e:p < n - (j - i)
    · rw [if_pos e,if_pos (by omega)]; unfold ltC; rw [if_neg (by omega)]
    · rw [if_neg e,if_neg (by omega)]
  | .X w k, p, h1, h2 => by
    simp only [ks]
    by_cases e:p < n - (j - i)
    · rw [if_pos e,if_pos (by omega),hC hij hj k (p+1) (by omega) (by omega)]; congr 1; omega
    · rw [if_neg e,if_neg (by omega)]
  | .N u a b, p, h1, h2 => by
    simp only [ks]
    have e:n - (p+(j - i))=n - (j - i) - p:=by omega
    rw [e]
    have ha: ∀ k,k≤n - (j - i) - p→ks (n - (j - i)) (ltC lt i j) a (p+k)=ks n lt a (p+(j - i)+k):=fun k hk=>by rw [hC hij hj a (p+k) (by omega) (by omega)]; congr 1; omega
    have hb: ∀ k,k≤n - (j - i) - p→ks (n - (j - i)) (ltC lt i j) b (p+k)=ks n lt b (p+(j - i)+k):=fun k hk=>by rw [hC hij hj b (p+k) (by omega) (by omega)]; congr 1; omega
    cases u with
    |true=>rw [if_pos rfl,if_pos rfl]; exact wT ha hb
    |false=>rw [if_neg (by decide),if_neg (by decide)]; exact wU hb ha
  | .A a b,p,h1,h2=>by simp only [ks]; rw [hC hij hj a p h1 h2,hC hij hj b p h1 h2]
  | .O a b,p,h1,h2=>by simp only [ks]; rw [hC hij hj a p h1 h2,hC hij hj b p h1 h2]
theorem aBK {d e:DD} (h:pat d i++pat e i=pat d j++pat e j):pat d i=pat d j∧pat e i=pat e j:=
  List.append_inj h (by rw [iD,iD])
theorem Gs.cut (hij : i < j) (hj : j ≤ n) : ∀ {k : K} {r : Nat → Bool} {d : DD}, Gs n lt k r d → pat d i = pat d j → ∀ p, p < i → r p = true → ks (n - (j - i)) (ltC lt i j) k p = true
  | .L a b, r, d, h, _ => by
    intro p hp hr
    have:=h.2 p (by omega) hr
    simp only [ks] at this ⊢
    rw [if_pos (by omega)] at this ⊢
    unfold ltC; rw [if_pos hp]; exact this
  | .X w k, r, d, h, e => by
    obtain ⟨σ,d',rfl,h1,h2,h3⟩:=h
    intro p hp hr
    simp only [pat,List.cons.injEq] at e
    simp only [ks]
    rw [if_pos (by omega)]
    have hs:σ (p+1)=true:=by rw [h1 p (by omega)]; exact hr
    by_cases q:p+1 < i
    · exact Gs.cut hij hj h3 e.2 (p+1) q hs
    · have q2:p+1=i:=by omega
      rw [q2] at hs ⊢
      rw [hC (by omega) hj k i (Nat.le_refl _) (by omega),show i+(j - i)=j by omega]
      exact Gs.sound h3 j hj (by rw [← e.1]; exact hs)
  | .N u a b, r, d, h, e => by
    obtain ⟨v,x,y,c,d1,d2,rfl,h1,h2,h3⟩:=h
    simp only [pat,List.cons.injEq] at e
    obtain ⟨e1,e2⟩:=e
    obtain ⟨e2,e3⟩:=aBK e2
    have ca:=Gs.cut hij hj h2 e2
    have cb:=Gs.cut hij hj h3 e3
    have key: ∀ m p,p+m=i→v p=true→ks (n - (j - i)) (ltC lt i j) (.N u a b) p=true:=by
      intro m
      induction m with
      | zero =>
        intro p hp hv
        have q:p=i:=by omega
        subst q
        rw [hC (by omega) hj _ p (Nat.le_refl _) (by omega),show p+(j - p)=j by omega]
        exact h1.all (Gs.sound h2) (Gs.sound h3) (n - j) j (by omega) (by rw [← e1]; exact hv)
      | succ m ih =>
        intro p hp hv
        have hpn:p < n:=by omega
        have hpm:p < n - (j - i):=by omega
        cases hc:c p with
        | true =>
          have q:=h1.con p hpn hv hc
          have hv2:v (p+1)=true:=by rw [h1.s p hpn,hc,Bool.or_true]
          have z1:=ih (p+1) (by omega) hv2
          have z2:=ca p (by omega) q.1
          cases u with
          |true=>rw [uG hpm,z1,z2]; simp
          |false=>rw [uR hpm,z1,z2]; simp
        | false =>
          have q:=h1.dis p hpn hv hc
          have z1:=cb p (by omega) q.1
          cases u with
          |true=>rw [uG hpm,z1]; simp
          |false=>rw [uR hpm,z1,ca p (by omega) q.2]; simp
    intro p hp hr
    refine key (i - p) p (by omega) ?_
    cases p with
    |zero=>rw [h1.z]; exact hr
    |succ p=>rw [h1.s p (by omega),hr]; rfl
  | .A a b, r, d, h, e => by
    obtain ⟨d1,d2,rfl,h1,h2⟩:=h
    obtain ⟨e1,e2⟩:=aBK e
    intro p hp hr
    simp only [ks]
    rw [Gs.cut hij hj h1 e1 p hp hr,Gs.cut hij hj h2 e2 p hp hr]; rfl
  | .O a b, r, d, h, e => by
    obtain ⟨x,y,d1,d2,rfl,h0,h1,h2⟩:=h
    obtain ⟨e1,e2⟩:=aBK e
    intro p hp hr
    simp only [ks]
    have z:=h0 p (by omega)
    rw [hr] at z
    cases hx:x p with
    |true=>rw [Gs.cut hij hj h1 e1 p hp hx]; rfl
    |false=>rw [hx,Bool.false_or] at z; rw [Gs.cut hij hj h2 e2 p hp z,Bool.or_true]
end
end Go.Proofs.YteehaobohaecmaaGreatDoor
namespace Go.Proofs.YteehaobohaecmaaGreatDoor
open Go
inductive Sh where
  |L
  |X (k:Sh)
  |N (i s:Sh)
  |A (a b:Sh)
  |O (a b:Sh)
def K.sh:K→Sh
  | .L _ _=>.L
  | .X _ k=>.X k.sh
  | .N _ i s=>.N i.sh s.sh
  | .A a b=>.A a.sh b.sh
  | .O a b=>.O a.sh b.sh
def Sh.e:Sh→Nat
  | .L=>0
  | .X k=>k.e+1
  | .N i s=>i.e+s.e+1
  | .A a b=>a.e+b.e
  | .O a b=>a.e+b.e
def Sh.z:Sh→Nat
  | .L=>1
  | .X k=>k.z+1
  | .N i s=>i.z+s.z+1
  | .A a b=>a.z+b.z+1
  | .O a b=>a.z+b.z+1
theorem Gs.len {n:Nat} {lt:Nat→Int×Int}: ∀ {k:K} {r:Nat→Bool} {d:DD},Gs n lt k r d→d.ln=k.sh.e
  | .L _ _,_,_,h=>by rw [h.1]; rfl
  | .X _ k,_,_,h=>by obtain ⟨σ,d',rfl,_,_,h3⟩:=h; simp only [DD.ln,K.sh,Sh.e]; rw [Gs.len h3]
  | .N _ _ _,_,_,h=>by obtain ⟨v,x,y,c,d1,d2,rfl,_,h2,h3⟩:=h; simp only [DD.ln,K.sh,Sh.e]; rw [Gs.len h2,Gs.len h3]
  | .A _ _,_,_,h=>by obtain ⟨d1,d2,rfl,h2,h3⟩:=h; simp only [DD.ln,K.sh,Sh.e]; rw [Gs.len h2,Gs.len h3]
  | .O _ _,_,_,h=>by obtain ⟨x,y,d1,d2,rfl,_,h2,h3⟩:=h; simp only [DD.ln,K.sh,Sh.e]; rw [Gs.len h2,Gs.len h3]
def Bq (S:Nat):Nat→Nat→List (Sh×Bool)→Nat
  |0,f,_=>S*2 ^ f
  |_+1,f,[]=>S*2 ^ f
  |k+1,f,(.L,_)::r=>Bq S k f r
  |k+1,f,(.X c,m)::r=>Bq S k f ((c,m)::r)+1
  |k+1,f,(.A a b,m)::r=>Bq S k f ((a,m)::(b,m)::r)
  |k+1,f,(.O a b,true)::r=>Bq S k (f+(a.e+b.e)) r
  |k+1,f,(.O a b,false)::r=>Bq S k f ((a,false)::(b,false)::r)
  |k+1,f,(.N i s,true)::r=>Bq S k (f+(i.e+s.e)) r
  |k+1,f,(.N i s,false)::r=>Bq S k f ((i,true)::(s,false)::r)+1+Bq S k f ((i,false)::(s,false)::r)
theorem aJi {α:Type} [DecidableEq α]: ∀ {l m:List α},l.Nodup→(∀ a∈l,a∈m)→l.length≤m.length
  |[],_,_,_=>Nat.zero_le _
  | a :: l, m, hn, hs => by
    obtain ⟨h1,h2⟩:=List.nodup_cons.1 hn
    have ha:=hs a (List.mem_cons_self ..)
    have ih:=aJi (m:=m.erase a) h2 fun b hb=>(List.mem_erase_of_ne (fun e=>h1 (by rw [← e]; exact hb))).2 (hs b (List.mem_cons_of_mem _ hb))
    rw [List.length_erase_of_mem ha] at ih
    have:=List.length_pos_of_mem ha
    rw [List.length_cons]; omega
def bls:Nat→List (List Bool)
  |0=>[[]]
  |n+1=>(bls n).map (false:: ·)++(bls n).map (true:: ·)
theorem aF2: ∀ n,(bls n).length=2 ^ n
  |0=>rfl
  |n+1=>by rw [bls,List.length_append,List.length_map,List.length_map,aF2 n,Nat.pow_succ]; omega
theorem aFb: ∀ {n:Nat} {l:List Bool},l.length=n→l∈bls n
  |0,l,h=>by rw [List.length_eq_zero_iff] at h; rw [h]; exact List.mem_singleton.2 rfl
  |n+1,[],h=>by cases h
  | n + 1, b :: l, h => by
    have:=aFb (n:=n) (l:=l) (by simpa using h)
    rw [bls,List.mem_append]
    cases b with
    |false=>exact .inl (List.mem_map.2 ⟨l,this,rfl⟩)
    |true=>exact .inr (List.mem_map.2 ⟨l,this,rfl⟩)
theorem pig {S:List Int} {st:Nat→Int} {x:Nat→List Bool} {f a T:Nat} (hx: ∀ q,(x q).length=f) (hs: ∀ q,a≤q→q < a+T→st q∈S) (hd: ∀ q q',a≤q→q < q'→q' < a+T→st q=st q'→x q=x q'→False):T≤S.length*2 ^ f:=by
  have h:=aJi (l:=(List.range T).map fun q=>(st (a+q),x (a+q))) (m:=S.flatMap fun s=>(bls f).map fun b=>(s,b)) (by
    rw [List.nodup_iff_pairwise_ne,List.pairwise_map]
    refine List.Pairwise.imp_of_mem (R:=fun i j=>i < j) (fun {i j} hi hj hij e=>?_) List.pairwise_lt_range
    injection e with e1 e2
    exact hd (a+i) (a+j) (by omega) (by omega) (by have:=List.mem_range.1 hj; omega) e1 e2) (by
    intro p hp
    obtain ⟨q,hq,rfl⟩:=List.mem_map.1 hp
    have hq:=List.mem_range.1 hq
    exact List.mem_flatMap.2 ⟨st (a+q),hs _ (by omega) (by omega),List.mem_map.2 ⟨x (a+q),aFb (hx _),rfl⟩⟩)
  rw [List.length_map,List.length_range,List.length_flatMap] at h
  have e:(S.map fun s=>((bls f).map fun b=>(s,b)).length)=S.map fun _=>2 ^ f:=List.map_congr_left fun s _=>by rw [List.length_map,aF2]
  rw [e] at h
  have e2: ∀ l:List Int,(l.map fun _=>2 ^ f).sum=l.length*2 ^ f:=by
    intro l
    induction l with
    |nil=>simp
    |cons a l ih=>rw [List.map_cons,List.sum_cons,ih,List.length_cons,Nat.succ_mul]; omega
  rw [e2] at h; exact h
structure Cm where
  k:K
  m:Bool
  r:Nat→Bool
  d:DD
structure Cm.OK (n:Nat) (lt:Nat→Int×Int) (a T:Nat) (c:Cm):Prop where
  g:Gs n lt c.k c.r c.d
  t: ∀ q,a≤q→q < a+T→c.r q=c.m
def sZ:List Cm→Nat→List Bool
  |[],_=>[]
  |c::l,q=>pat c.d q++sZ l q
def wtC (l:List Cm):Nat:=(l.map fun c=>c.k.sh.z).sum
theorem gP (c:Cm) (l:List Cm):wtC (c::l)=c.k.sh.z+wtC l:=by simp [wtC]
abbrev shC (c:Cm):Sh×Bool:=(c.k.sh,c.m)
theorem zU {v : Nat → Bool} {a : Nat} : ∀ {T : Nat}, (∀ q, a ≤ q → q + 1 < a + T → v q = false → v (q + 1) = false) → ∃ l, l ≤ T ∧ (∀ q, a ≤ q → q < a + l → v q = true) ∧ ∀ q, a + l ≤ q → q < a + T → v q = false
  |0,_=>⟨0,Nat.le_refl _,fun q h1 h2=>by omega,fun q h1 h2=>by omega⟩
  | T + 1, h => by
    obtain ⟨l,h1,h2,h3⟩:=zU (v:=v) (a:=a) (T:=T) fun q a1 a2=>h q a1 (by omega)
    by_cases e:l=T
    · subst e
      cases hv:v (a+l) with
      |true=>exact ⟨l+1,Nat.le_refl _,fun q a1 a2=>by by_cases z:q=a+l; (rw [z]; exact hv); exact h2 q a1 (by omega),fun q a1 a2=>by omega⟩
      |false=>exact ⟨l,by omega,h2,fun q a1 a2=>by rw [show q=a+l by omega]; exact hv⟩
    · refine ⟨l,by omega,h2,fun q a1 a2=>?_⟩
      by_cases z:q < a+T
      · exact h3 q a1 z
      · have:=h3 (a+T - 1) (by omega) (by omega)
        have w:=h (a+T - 1) (by omega) (by omega) this
        rw [show q=a+T - 1+1 by omega]; exact w
section
variable {n:Nat} {lt:Nat→Int×Int} {S:List Int} {st:Nat→Int}
theorem Cm.OK.sub {a T b U:Nat} {c:Cm} (h:c.OK n lt a T) (h1:a≤b) (h2:b+U≤a+T):c.OK n lt b U:=⟨h.g,fun q q1 q2=>h.t q (by omega) (by omega)⟩
theorem cnt : ∀ (k : Nat) (l : List Cm) (f : Nat) (x : Nat → List Bool) (a T : Nat), wtC l ≤ k → (∀ c ∈ l, c.OK n lt a T) → a + T ≤ n + 1 → (∀ q, (x q).length = f) → (∀ q, a ≤ q → q < a + T → st q ∈ S) →
    (∀ q q',a≤q→q < q'→q' < a+T→st q=st q'→x q=x q'→sZ l q=sZ l q'→False)→T≤Bq S.length k f (l.map shC):=by
  intro k
  induction k with
  | zero =>
    intro l f x a T hw _ _ hx hs hd
    cases l with
    |nil=>exact pig hx hs fun q q' h1 h2 h3 h4 h5=>hd q q' h1 h2 h3 h4 h5 rfl
    | cons c l =>
      rw [gP] at hw
      have:1≤c.k.sh.z:=by cases c.k.sh <;> simp only [Sh.z] <;> omega
      omega
  | succ k ih =>
    intro l f x a T hw ho hn hx hs hd
    cases l with
    |nil=>exact pig hx hs fun q q' h1 h2 h3 h4 h5=>hd q q' h1 h2 h3 h4 h5 rfl
    | cons c l =>
      obtain ⟨kk,m,r,d⟩:=c
      have hc:=ho _ (List.mem_cons_self ..)
      have hl: ∀ c∈l,c.OK n lt a T:=fun c h=>ho c (List.mem_cons_of_mem _ h)
      obtain ⟨hg,ht⟩:=hc
      simp only at hg ht
      rw [gP] at hw
      simp only at hw
      cases kk with
      | L p0 q0 =>
        simp only [K.sh,Sh.z] at hw
        have hdl:d=.L:=hg.1
        subst hdl
        exact ih l f x a T (by omega) hl hn hx hs fun q q' h1 h2 h3 h4 h5 h6=>hd q q' h1 h2 h3 h4 h5 (by simp only [sZ,pat,h6])
      | X w k' =>
        simp only [K.sh,Sh.z] at hw
        obtain ⟨σ,d',rfl,g1,g2,g3⟩:=hg
        show T≤Bq S.length k f ((k'.sh,m)::l.map shC)+1
        by_cases hT:T=0
        · omega
        have hσ: ∀ q,a+1≤q→q < a+T→σ q=m:=fun q q1 q2=>by
          have:=g1 (q - 1) (by omega)
          rw [show q - 1+1=q by omega] at this
          rw [this]; exact ht (q - 1) (by omega) (by omega)
        have:=ih (⟨k',m,σ,d'⟩::l) f x (a+1) (T - 1) (by rw [gP]; simp only; omega) (fun c hc=>by
          rcases List.mem_cons.1 hc with e|e
          · subst e; exact ⟨g3,fun q q1 q2=>hσ q q1 (by omega)⟩
          · exact (hl c e).sub (by omega) (by omega)) (by omega) hx (fun q q1 q2=>hs q (by omega) (by omega)) fun q q' h1 h2 h3 h4 h5 h6=>hd q q' (by omega) h2 (by omega) h4 h5 (by
            simp only [sZ,pat] at h6 ⊢
            rw [hσ q (by omega) (by omega),hσ q' (by omega) (by omega),List.cons_append,List.cons_append,h6])
        have e:((⟨k',m,σ,d'⟩::l:List Cm).map shC)=(k'.sh,m)::l.map shC:=rfl
        rw [e] at this; omega
      | A p q =>
        simp only [K.sh,Sh.z] at hw
        obtain ⟨d1,d2,rfl,g1,g2⟩:=hg
        exact ih (⟨p,m,r,d1⟩::⟨q,m,r,d2⟩::l) f x a T (by rw [gP,gP]; simp only; omega) (fun c hc=>by
          rcases List.mem_cons.1 hc with e|e
          · subst e; exact ⟨g1,ht⟩
          rcases List.mem_cons.1 e with e|e
          · subst e; exact ⟨g2,ht⟩
          · exact hl c e) hn hx hs fun q q' h1 h2 h3 h4 h5 h6=>hd q q' h1 h2 h3 h4 h5 (by simp only [sZ,pat] at h6 ⊢; rw [List.append_assoc,List.append_assoc]; exact h6)
      | O p q =>
        simp only [K.sh,Sh.z] at hw
        obtain ⟨u,v,d1,d2,rfl,g0,g1,g2⟩:=hg
        cases m with
        | true =>
          refine ih l (f+(p.sh.e+q.sh.e)) (fun j=>x j++(pat d1 j++pat d2 j)) a T (by omega) hl hn (fun j=>by rw [List.length_append,List.length_append,hx,iD,iD,g1.len,g2.len]) hs fun j j' h1 h2 h3 h4 h5 h6=>?_
          have:=List.append_inj h5 (by rw [hx,hx])
          exact hd j j' h1 h2 h3 h4 this.1 (by simp only [sZ,pat]; rw [this.2,h6])
        | false =>
          have hz: ∀ j,a≤j→j < a+T→u j=false∧v j=false:=fun j j1 j2=>by
            have:=g0 j (by omega)
            rw [ht j j1 j2] at this
            simpa using this
          exact ih (⟨p,false,u,d1⟩::⟨q,false,v,d2⟩::l) f x a T (by rw [gP,gP]; simp only; omega) (fun c hc=>by
            rcases List.mem_cons.1 hc with e|e
            · subst e; exact ⟨g1,fun j j1 j2=>(hz j j1 j2).1⟩
            rcases List.mem_cons.1 e with e|e
            · subst e; exact ⟨g2,fun j j1 j2=>(hz j j1 j2).2⟩
            · exact hl c e) hn hx hs fun j j' h1 h2 h3 h4 h5 h6=>hd j j' h1 h2 h3 h4 h5 (by simp only [sZ,pat] at h6 ⊢; rw [List.append_assoc,List.append_assoc]; exact h6)
      | N w i s =>
        simp only [K.sh,Sh.z] at hw
        obtain ⟨v,u,y,c,d1,d2,rfl,g0,g1,g2⟩:=hg
        cases m with
        | true =>
          have hv: ∀ j,a≤j→j < a+T→v j=true:=fun j j1 j2=>by
            cases j with
            |zero=>rw [g0.z]; exact ht 0 j1 j2
            |succ j=>rw [g0.s j (by omega),ht (j+1) j1 j2]; rfl
          refine ih l (f+(i.sh.e+s.sh.e)) (fun j=>x j++(pat d1 j++pat d2 j)) a T (by omega) hl hn (fun j=>by rw [List.length_append,List.length_append,hx,iD,iD,g1.len,g2.len]) hs fun j j' h1 h2 h3 h4 h5 h6=>?_
          have:=List.append_inj h5 (by rw [hx,hx])
          exact hd j j' h1 h2 h3 h4 this.1 (by simp only [sZ,pat]; rw [hv j (by omega) (by omega),hv j' (by omega) (by omega),this.2,h6])
        | false =>
          have hvc: ∀ j,a≤j→j+1 < a+T→v (j+1)=c j:=fun j j1 j2=>by rw [g0.s j (by omega),ht (j+1) (by omega) (by omega),Bool.false_or]
          obtain ⟨b,b1,b2,b3⟩:=zU (v:=v) (a:=a) (T:=T) fun j j1 j2 e=>by rw [hvc j j1 j2]; exact (g0.off j (by omega) e).2.2
          have w1:=ih (⟨i,true,u,d1⟩::⟨s,false,y,d2⟩::l) f x a (b - 1) (by rw [gP,gP]; simp only; omega) (fun cc hc=>by
            have hcon: ∀ j,a≤j→j < a+(b - 1)→u j=true∧y j=false:=fun j j1 j2=>g0.con j (by omega) (b2 j j1 (by omega)) (by rw [← hvc j j1 (by omega)]; exact b2 (j+1) (by omega) (by omega))
            rcases List.mem_cons.1 hc with e|e
            · subst e; exact ⟨g1,fun j j1 j2=>(hcon j j1 j2).1⟩
            rcases List.mem_cons.1 e with e|e
            · subst e; exact ⟨g2,fun j j1 j2=>(hcon j j1 j2).2⟩
            · exact (hl cc e).sub (Nat.le_refl _) (by omega)) (by omega) hx (fun q q1 q2=>hs q q1 (by omega)) fun j j' h1 h2 h3 h4 h5 h6=>hd j j' h1 h2 (by omega) h4 h5 (by
              simp only [sZ,pat] at h6 ⊢
              rw [b2 j h1 (by omega),b2 j' (by omega) (by omega),List.cons_append,List.cons_append,List.append_assoc,List.append_assoc,h6])
          have w2:=ih (⟨i,false,u,d1⟩::⟨s,false,y,d2⟩::l) f x (a+b) (T - b) (by rw [gP,gP]; simp only; omega) (fun cc hc=>by
            have hoff: ∀ j,a+b≤j→j < a+b+(T - b)→u j=false∧y j=false:=fun j j1 j2=>by
              have:=g0.off j (by omega) (b3 j j1 (by omega))
              exact ⟨this.1,this.2.1⟩
            rcases List.mem_cons.1 hc with e|e
            · subst e; exact ⟨g1,fun j j1 j2=>(hoff j j1 j2).1⟩
            rcases List.mem_cons.1 e with e|e
            · subst e; exact ⟨g2,fun j j1 j2=>(hoff j j1 j2).2⟩
            · exact (hl cc e).sub (by omega) (by omega)) (by omega) hx (fun q q1 q2=>hs q (by omega) (by omega)) fun j j' h1 h2 h3 h4 h5 h6=>hd j j' (by omega) h2 (by omega) h4 h5 (by
              simp only [sZ,pat] at h6 ⊢
              rw [b3 j h1 (by omega),b3 j' (by omega) (by omega),List.cons_append,List.cons_append,List.append_assoc,List.append_assoc,h6])
          have e1:((⟨i,true,u,d1⟩::⟨s,false,y,d2⟩::l:List Cm).map shC)=(i.sh,true)::(s.sh,false)::l.map shC:=rfl
          have e2:((⟨i,false,u,d1⟩::⟨s,false,y,d2⟩::l:List Cm).map shC)=(i.sh,false)::(s.sh,false)::l.map shC:=rfl
          rw [e1] at w1; rw [e2] at w2
          show T≤Bq S.length k f ((i.sh,true)::(s.sh,false)::l.map shC)+1+Bq S.length k f ((i.sh,false)::(s.sh,false)::l.map shC)
          omega
end
end Go.Proofs.YteehaobohaecmaaGreatDoor
namespace Go.Proofs.YteehaobohaecmaaGreatDoor
open Go
def st8:List Int:=[0,1,2,3,4,5,6,7]
def aIZ (h:Sh):Nat:=if h.e≤7 then 8*2 ^ h.e else match h with
  | .N i s=>Bq 7 h.z 0 [(i,true),(s,false)]+1+Bq 8 h.z 0 [(i,false),(s,false)]
  |h=>Bq 8 h.z 0 [(h,false)]
theorem aHv {s:Int} (h:s∈st8):(st8.erase s).length=7:=by rw [List.length_erase_of_mem h]; rfl
theorem aKj {g : K} {n : Nat} {lt : Nat → Int × Int} {st : Nat → Int} (hs : ∀ q, q ≤ n → st q ∈ st8) (hg : ks n lt g 0 = true)
    (min: ∀ i j,i < j→j≤n→st i=st j→ks (n - (j - i)) (ltC lt i j) g 0=false):n≤aIZ g.sh:=by
  obtain ⟨d,hd⟩:=Gs.make (n:=n) (lt:=lt) g (fun p=>decide (p=0)) fun p _ e=>by rw [of_decide_eq_true e]; exact hg
  have inj: ∀ q q',1≤q→q < q'→q' < 1+n→st q=st q'→pat d q=pat d q'→False:=fun q q' h1 h2 h3 h4 h5=>by
    have:=Gs.cut h2 (by omega) hd h5 0 (by omega) rfl
    rw [min q q' h2 (by omega) h4] at this; cases this
  unfold aIZ
  by_cases he:g.sh.e≤7
  · rw [if_pos he]
    exact pig (S:=st8) (st:=st) (x:=pat d) (f:=g.sh.e) (a:=1) (T:=n) (fun q=>by rw [iD,hd.len]) (fun q _ q2=>hs q (by omega)) inj
  rw [if_neg he]
  have hr: ∀ q,1≤q→q < 1+n→(fun p=>decide (p=0)) q=false:=fun q q1 _=>decide_eq_false (by omega)
  have gen:n≤Bq 8 g.sh.z 0 [(g.sh,false)]:=by
    refine cnt (S:=st8) (st:=st) (n:=n) (lt:=lt) g.sh.z [⟨g,false,fun p=>decide (p=0),d⟩] 0 (fun _=>[]) 1 n (by simp [wtC]) (fun c hc=>?_) (by omega) (fun _=>rfl) (fun q _ q2=>hs q (by omega)) fun q q' h1 h2 h3 h4 _ h6=>inj q q' h1 h2 h3 h4 (by simpa [sZ] using h6)
    rw [List.mem_singleton] at hc
    subst hc
    exact ⟨hd,hr⟩
  cases g with
  |L p q=>exact gen
  |X w k=>exact gen
  |A a b=>exact gen
  |O a b=>exact gen
  | N w i s =>
    obtain ⟨v,u,y,c,d1,d2,rfl,g0,g1,g2⟩:=hd
    show n≤Bq 7 _ 0 [(i.sh,true),(s.sh,false)]+1+Bq 8 _ 0 [(i.sh,false),(s.sh,false)]
    have hvc: ∀ j,1≤j→j+1 < 1+n→v (j+1)=c j:=fun j j1 j2=>by rw [g0.s j (by omega)]; simp
    obtain ⟨b,b1,b2,b3⟩:=zU (v:=v) (a:=1) (T:=n) fun j j1 j2 e=>by rw [hvc j j1 j2]; exact (g0.off j (by omega) e).2.2
    have hne: ∀ q,1≤q→q < 1+b→st q≠st 0:=fun q q1 q2 e=>by
      have hk:=g0.all (Gs.sound g1) (Gs.sound g2) (n - q) q (by omega) (b2 q q1 q2)
      have:=min 0 q (by omega) (by omega) e.symm
      rw [hC (Nat.zero_le _) (by omega) _ 0 (Nat.le_refl _) (Nat.zero_le _),show 0+(q - 0)=q by omega,hk] at this
      cases this
    have w1:=cnt (S:=st8.erase (st 0)) (st:=st) (n:=n) (lt:=lt) (K.N w i s).sh.z [⟨i,true,u,d1⟩,⟨s,false,y,d2⟩] 0 (fun _=>[]) 1 (b - 1) (by simp only [wtC,List.map_cons,List.map_nil,List.sum_cons,List.sum_nil,K.sh,Sh.z]; omega) (fun cc hc=>by
      have hcon: ∀ j,1≤j→j < 1+(b - 1)→u j=true∧y j=false:=fun j j1 j2=>g0.con j (by omega) (b2 j j1 (by omega)) (by rw [← hvc j j1 (by omega)]; exact b2 (j+1) (by omega) (by omega))
      rcases List.mem_cons.1 hc with e|e
      · subst e; exact ⟨g1,fun j j1 j2=>(hcon j j1 j2).1⟩
      · rw [List.mem_singleton] at e; subst e; exact ⟨g2,fun j j1 j2=>(hcon j j1 j2).2⟩) (by omega) (fun _=>rfl) (fun q q1 q2=>(List.mem_erase_of_ne (hne q q1 (by omega))).2 (hs q (by omega))) fun q q' h1 h2 h3 h4 _ h6=>inj q q' h1 h2 (by omega) h4 (by
        simp only [sZ,pat,List.append_nil] at h6 ⊢
        rw [b2 q h1 (by omega),b2 q' (by omega) (by omega),h6])
    have w2:=cnt (S:=st8) (st:=st) (n:=n) (lt:=lt) (K.N w i s).sh.z [⟨i,false,u,d1⟩,⟨s,false,y,d2⟩] 0 (fun _=>[]) (1+b) (n - b) (by simp only [wtC,List.map_cons,List.map_nil,List.sum_cons,List.sum_nil,K.sh,Sh.z]; omega) (fun cc hc=>by
      have hoff: ∀ j,1+b≤j→j < 1+b+(n - b)→u j=false∧y j=false:=fun j j1 j2=>by
        have:=g0.off j (by omega) (b3 j j1 (by omega))
        exact ⟨this.1,this.2.1⟩
      rcases List.mem_cons.1 hc with e|e
      · subst e; exact ⟨g1,fun j j1 j2=>(hoff j j1 j2).1⟩
      · rw [List.mem_singleton] at e; subst e; exact ⟨g2,fun j j1 j2=>(hoff j j1 j2).2⟩) (by omega) (fun _=>rfl) (fun q q1 q2=>hs q (by omega)) fun q q' h1 h2 h3 h4 _ h6=>inj q q' (by omega) h2 (by omega) h4 (by
        simp only [sZ,pat,List.append_nil] at h6 ⊢
        rw [b3 q h1 (by omega),b3 q' (by omega) (by omega),h6])
    rw [aHv (hs 0 (Nat.zero_le _))] at w1
    have w2':n - b≤Bq 8 (K.N w i s).sh.z 0 [(i.sh,false),(s.sh,false)]:=w2
    have w1':b - 1≤Bq 7 (K.N w i s).sh.z 0 [(i.sh,true),(s.sh,false)]:=w1
    simp only [K.sh] at w1' w2' ⊢
    omega
def Sh.r:Sh→Nat
  | .L=>0| .X k=>k.r| .N i s=>i.r+s.r+1| .A a b=>a.r+b.r| .O a b=>a.r+b.r
def Sh.x:Sh→Nat
  | .L=>0| .X k=>k.x+1| .N i s=>i.x+s.x| .A a b=>a.x+b.x| .O a b=>a.x+b.x
def Sh.b:Sh→Nat
  | .L=>0| .X k=>k.b| .N i s=>i.b+s.b| .A a b=>a.b+b.b+1| .O a b=>a.b+b.b+1
theorem Sh.e_eq: ∀ h:Sh,h.e=h.r+h.x
  | .L=>rfl
  | .X k=>by simp only [Sh.e,Sh.r,Sh.x]; rw [Sh.e_eq k]; omega
  | .N i s=>by simp only [Sh.e,Sh.r,Sh.x]; rw [Sh.e_eq i,Sh.e_eq s]; omega
  | .A i s=>by simp only [Sh.e,Sh.r,Sh.x]; rw [Sh.e_eq i,Sh.e_eq s]; omega
  | .O i s=>by simp only [Sh.e,Sh.r,Sh.x]; rw [Sh.e_eq i,Sh.e_eq s]; omega
def aMj (g:Nat→Nat→Nat→List Sh) (c:Sh→Sh→List Sh) (r b x:Nat):List Sh:=
  (List.range (r+1)).flatMap fun r1=>(List.range (b+1)).flatMap fun b1=>(List.range (x+1)).flatMap fun x1=>(g r1 b1 x1).flatMap fun p=>(g (r - r1) (b - b1) (x - x1)).flatMap fun q=>c p q
def gSh:Nat→Nat→Nat→Nat→List Sh
  |0,_,_,_=>[.L]
  |k+1,r,b,x=>(if r+b+x=0 then [.L] else [])++(if x=0 then [] else (gSh k r b (x - 1)).map .X)++(if r=0 then [] else aMj (gSh k) (fun p q=>[.N p q]) (r - 1) b x)++(if b=0 then [] else aMj (gSh k) (fun p q=>[.A p q,.O p q]) r (b - 1) x)
theorem wY {g:Nat→Nat→Nat→List Sh} {c:Sh→Sh→List Sh} {p q h:Sh} (hp:p∈g p.r p.b p.x) (hq:q∈g q.r q.b q.x) (hc:h∈c p q):h∈aMj g c (p.r+q.r) (p.b+q.b) (p.x+q.x):=by
  unfold aMj
  refine List.mem_flatMap.2 ⟨p.r,List.mem_range.2 (by omega),List.mem_flatMap.2 ⟨p.b,List.mem_range.2 (by omega),List.mem_flatMap.2 ⟨p.x,List.mem_range.2 (by omega),List.mem_flatMap.2 ⟨p,hp,List.mem_flatMap.2 ⟨q,?_,hc⟩⟩⟩⟩⟩
  rw [Nat.add_sub_cancel_left,Nat.add_sub_cancel_left,Nat.add_sub_cancel_left]; exact hq
theorem kY: ∀ (k:Nat) (h:Sh),h.r+h.b+h.x≤k→h∈gSh k h.r h.b h.x
  |0,.L,_=>List.mem_singleton.2 rfl
  |0,.X _,e=>by simp only [Sh.r,Sh.b,Sh.x] at e; omega
  |0,.N _ _,e=>by simp only [Sh.r,Sh.b,Sh.x] at e; omega
  |0,.A _ _,e=>by simp only [Sh.r,Sh.b,Sh.x] at e; omega
  |0,.O _ _,e=>by simp only [Sh.r,Sh.b,Sh.x] at e; omega
  |k+1,.L,_=>by simp [gSh,Sh.r,Sh.b,Sh.x]
  | k + 1, .X h, e => by
    simp only [Sh.r,Sh.b,Sh.x] at e ⊢
    have:=kY k h (by omega)
    unfold gSh
    rw [List.mem_append,List.mem_append,List.mem_append]
    refine .inl (.inl (.inr ?_))
    rw [if_neg (by omega)]
    exact List.mem_map.2 ⟨h,this,rfl⟩
  | k + 1, .N i s, e => by
    simp only [Sh.r,Sh.b,Sh.x] at e ⊢
    unfold gSh
    rw [List.mem_append,List.mem_append,List.mem_append]
    refine .inl (.inr ?_)
    rw [if_neg (by omega)]
    exact wY (kY k i (by omega)) (kY k s (by omega)) (List.mem_singleton.2 rfl)
  | k + 1, .A i s, e => by
    simp only [Sh.r,Sh.b,Sh.x] at e ⊢
    unfold gSh
    rw [List.mem_append]
    refine .inr ?_
    rw [if_neg (by omega)]
    exact wY (kY k i (by omega)) (kY k s (by omega)) (List.mem_cons_self ..)
  | k + 1, .O i s, e => by
    simp only [Sh.r,Sh.b,Sh.x] at e ⊢
    unfold gSh
    rw [List.mem_append]
    refine .inr ?_
    rw [if_neg (by omega)]
    exact wY (kY k i (by omega)) (kY k s (by omega)) (List.mem_cons_of_mem _ (List.mem_cons_self ..))
def aCo (r b x:Nat):Bool:=(gSh (r+b+x) r b x).all fun h=>Nat.ble (aIZ h) 1024
theorem aUy:([(0,0,8),(0,0,9),(0,0,10),(0,0,11),(1,0,7),(1,0,8),(1,0,9),(0,1,8),(0,1,9)].all fun p:Nat×Nat×Nat=>aCo p.1 p.2.1 p.2.2)=true:=by kernel_rfl
theorem aUg:aCo 2 0 6=true:=by kernel_rfl
theorem aUt:aCo 2 0 7=true:=by kernel_rfl
theorem aUq:aCo 3 0 5=true:=by kernel_rfl
theorem aUw:aCo 1 1 7=true:=by kernel_rfl
theorem aUk:aCo 0 2 8=true:=by kernel_rfl
end Go.Proofs.YteehaobohaecmaaGreatDoor
namespace Go.Proofs.YteehaobohaecmaaGreatDoor
open Go
instance:Inhabited K:=⟨.L (fun _ _=>true) true⟩
def rM:List K→K
  |[]=>.L (fun _ _=>true) true
  |[x]=>x
  |x::y::l=>.A x (rM (y::l))
def rB:List K→K
  |[]=>.L (fun _ _=>false) false
  |[x]=>x
  |x::y::l=>.O x (rB (y::l))
def ndK (o a:Int) (b:Bool) (l:List K):K:=
  if o=1 then .L (fun _ _=> !b) (!b)
  else if o=2 then .L (fun x _=>decide (x=a) ^^ b) b
  else if o=3 then .L (fun _ y=>decide (y=a) ^^ b) b
  else if o=4 then nth l 0
  else if o=7∨o=9 then .X (decide (o=9) ^^ b) (nth l 0)
  else if o=8∨o=10 then (if (decide (o=8) ^^ b)=true then .N true (nth l 0) (nth l 1) else .N false (nth l 1) (nth l 0))
  else if (decide (o=5) ^^ b)=true then rM l else rB l
mutual
def kF:Fm→Bool→K
  | .nd o a k,b=>ndK o a b (kFs k (if o=4 then !b else b))
def kFs:List Fm→Bool→List K
  |[],_=>[]
  |f::l,b=>kF f b::kFs l b
end
theorem aF6: ∀ (l:List Fm) (b:Bool),kFs l b=l.map fun f=>kF f b
  |[],b=>by rw [kFs]; rfl
  |f::l,b=>by rw [kFs,aF6 l b]; rfl
theorem aN4 (f:Fm) (b:Bool):kF f b=ndK f.op f.arg b (f.kids.map fun g=>kF g (if f.op=4 then !b else b)):=by
  cases f; rw [kF,aF6]; rfl
section
variable {n:Nat} {lt:Nat→Int×Int}
theorem aEN: ∀ (l:List K) (i:Nat),ks n lt (rM l) i=l.all fun k=>ks n lt k i
  |[],i=>by simp [rM,ks]
  |[x],i=>by simp [rM]
  |x::y::l,i=>by rw [rM,ks,aEN (y::l) i]; rfl
theorem aEm: ∀ (l:List K) (i:Nat),ks n lt (rB l) i=l.any fun k=>ks n lt k i
  |[],i=>by simp [rB,ks]
  |[x],i=>by simp [rB]
  |x::y::l,i=>by rw [rB,ks,aEm (y::l) i]; rfl
theorem aN6 {t:Tr} (hn:t.ni.length=n) (hl: ∀ p,p < n→lt p=(nth t.ni p,nth t.no p)) (f:Fm):okF f=true→ ∀ b i,i≤n→ks n lt (kF f b) i=(sat t f i ^^ b):=by
  refine gC (p:=fun f=>okF f=true→ ∀ b i,i≤n→ks n lt (kF f b) i=(sat t f i ^^ b)) (fun f ih hf b i hi=>?_) f
  obtain ⟨hr,hk⟩:=bN hf
  obtain ⟨r1,r2,r3,r4,r5,r6,r7,r8,r9⟩:=dE hr
  have K0: ∀ c,0 < f.kids.length→ ∀ j,j≤n→ks n lt (nth (f.kids.map fun g=>kF g c) 0) j=(nth (f.kids.map (sat t)) 0 j ^^ c):=fun c h j hj=>by rw [fS h,fS h]; exact ih 0 h (hk 0 h) c j hj
  have K1: ∀ c,1 < f.kids.length→ ∀ j,j≤n→ks n lt (nth (f.kids.map fun g=>kF g c) 1) j=(nth (f.kids.map (sat t)) 1 j ^^ c):=fun c h j hj=>by rw [fS h,fS h]; exact ih 1 h (hk 1 h) c j hj
  have KA: ∀ c,((f.kids.map fun g=>kF g c).all fun k=>ks n lt k i)=f.kids.all fun g=>sat t g i ^^ c:=fun c=>by
    rw [List.all_map,Bool.eq_iff_iff,List.all_eq_true,List.all_eq_true]
    refine ⟨fun h x hx=>?_,fun h x hx=>?_⟩ <;> obtain ⟨j,hj,rfl⟩:=dX hx
    · rw [← ih j hj (hk j hj) c i hi]; exact h _ hx
    · show ks n lt (kF (nth f.kids j) c) i=true
      rw [ih j hj (hk j hj) c i hi]; exact h _ hx
  have KO: ∀ c,((f.kids.map fun g=>kF g c).any fun k=>ks n lt k i)=f.kids.any fun g=>sat t g i ^^ c:=fun c=>by
    rw [List.any_map,Bool.eq_iff_iff,List.any_eq_true,List.any_eq_true]
    constructor
    · rintro ⟨x,hx,h⟩
      obtain ⟨j,hj,rfl⟩:=dX hx
      exact ⟨_,hx,by rw [← ih j hj (hk j hj) c i hi]; exact h⟩
    · rintro ⟨x,hx,h⟩
      obtain ⟨j,hj,rfl⟩:=dX hx
      exact ⟨_,hx,by show ks n lt (kF (nth f.kids j) c) i=true; rw [ih j hj (hk j hj) c i hi]; exact h⟩
  rw [aN4,cE]
  have e:f.op=1∨f.op=2∨f.op=3∨f.op=4∨f.op=5∨f.op=6∨f.op=7∨f.op=8∨f.op=9∨f.op=10:=by omega
  rcases e with e|e|e|e|e|e|e|e|e|e
  · rw [e]; show ks n lt (.L (fun _ _=> !b) (!b)) i=(true ^^ b)
    simp only [ks]; split <;> simp
  · rw [e]; show ks n lt (.L (fun x _=>decide (x=f.arg) ^^ b) b) i=((decide (i < t.ni.length)&&decide (nth t.ni i=f.arg)) ^^ b)
    simp only [ks]
    by_cases q:i < n
    · rw [if_pos q,hl i q,decide_eq_true (show i < t.ni.length by omega),Bool.true_and]
    · rw [if_neg q,decide_eq_false (show ¬i < t.ni.length by omega)]; simp
  · rw [e]; show ks n lt (.L (fun _ x=>decide (x=f.arg) ^^ b) b) i=((decide (i < t.ni.length)&&decide (nth t.no i=f.arg)) ^^ b)
    simp only [ks]
    by_cases q:i < n
    · rw [if_pos q,hl i q,decide_eq_true (show i < t.ni.length by omega),Bool.true_and]
    · rw [if_neg q,decide_eq_false (show ¬i < t.ni.length by omega)]; simp
  · rw [e]; show ks n lt (nth (f.kids.map fun g=>kF g (!b)) 0) i=(!(nth (f.kids.map (sat t)) 0 i) ^^ b)
    rw [K0 _ (by omega) i hi]; cases nth (f.kids.map (sat t)) 0 i <;> cases b <;> rfl
  · rw [e]; show ks n lt (if (true ^^ b)=true then rM (f.kids.map fun g=>kF g b) else rB (f.kids.map fun g=>kF g b)) i=((f.kids.map (sat t)).all (fun g=>g i) ^^ b)
    rw [List.all_map]
    cases b with
    |false=>rw [if_pos (by decide),aEN,KA]; simp; rfl
    |true=>rw [if_neg (by decide),aEm,KO]; simp only [Bool.xor_true]; rw [aB8]; rfl
  · rw [e]; show ks n lt (if (false ^^ b)=true then rM (f.kids.map fun g=>kF g b) else rB (f.kids.map fun g=>kF g b)) i=((f.kids.map (sat t)).any (fun g=>g i) ^^ b)
    rw [List.any_map]
    cases b with
    |false=>rw [if_neg (by decide),aEm,KO]; simp; rfl
    |true=>rw [if_pos (by decide),aEN,KA]; simp only [Bool.xor_true]; rw [aBt]; rfl
  · rw [e]; show ks n lt (.X (false ^^ b) (nth (f.kids.map fun g=>kF g b) 0)) i=((decide (i < t.ni.length)&&nth (f.kids.map (sat t)) 0 (i+1)) ^^ b)
    simp only [ks]
    by_cases q:i < n
    · rw [if_pos q,decide_eq_true (show i < t.ni.length by omega),Bool.true_and,K0 _ (by omega) (i+1) q]
    · rw [if_neg q,decide_eq_false (show ¬i < t.ni.length by omega)]; simp
  · have hu:gY (nth (f.kids.map (sat t)) 0) (nth (f.kids.map (sat t)) 1) (n - i) i=mR t 8 f.arg (f.kids.map (sat t)) i:=by rw [← hn]; rfl
    rw [e,← hu]
    show ks n lt (if (true ^^ b)=true then .N true (nth (f.kids.map fun g=>kF g b) 0) (nth (f.kids.map fun g=>kF g b) 1) else .N false (nth (f.kids.map fun g=>kF g b) 1) (nth (f.kids.map fun g=>kF g b) 0)) i=_
    cases b with
    | false =>
      rw [if_pos (by decide)]; simp only [ks,if_true,Bool.xor_false]
      exact wT (fun k hk=>by rw [K0 _ (by omega) _ (by omega)]; simp) (fun k hk=>by rw [K1 _ (by omega) _ (by omega)]; simp)
    | true =>
      rw [if_neg (by decide)]; simp only [ks,Bool.false_eq_true,if_false,Bool.xor_true]
      rw [← wX]
      exact wU (fun k hk=>by rw [K0 _ (by omega) _ (by omega)]; simp) (fun k hk=>by rw [K1 _ (by omega) _ (by omega)]; simp)
  · rw [e]; show ks n lt (.X (true ^^ b) (nth (f.kids.map fun g=>kF g b) 0)) i=((decide (¬i < t.ni.length)||nth (f.kids.map (sat t)) 0 (i+1)) ^^ b)
    simp only [ks]
    by_cases q:i < n
    · rw [if_pos q,decide_eq_false (show ¬¬i < t.ni.length by omega),Bool.false_or,K0 _ (by omega) (i+1) q]
    · rw [if_neg q,decide_eq_true (show ¬i < t.ni.length by omega)]; simp
  · have hu:iA (nth (f.kids.map (sat t)) 0) (nth (f.kids.map (sat t)) 1) (n - i) i=mR t 10 f.arg (f.kids.map (sat t)) i:=by rw [← hn]; rfl
    rw [e,← hu]
    show ks n lt (if (false ^^ b)=true then .N true (nth (f.kids.map fun g=>kF g b) 0) (nth (f.kids.map fun g=>kF g b) 1) else .N false (nth (f.kids.map fun g=>kF g b) 1) (nth (f.kids.map fun g=>kF g b) 0)) i=_
    cases b with
    | true =>
      rw [if_pos (by decide)]; simp only [ks,if_true,Bool.xor_true]
      rw [← zE]
      exact wT (fun k hk=>by rw [K0 _ (by omega) _ (by omega)]; simp) (fun k hk=>by rw [K1 _ (by omega) _ (by omega)]; simp)
    | false =>
      rw [if_neg (by decide)]; simp only [ks,Bool.false_eq_true,if_false,Bool.xor_false]
      exact wU (fun k hk=>by rw [K0 _ (by omega) _ (by omega)]; simp) (fun k hk=>by rw [K1 _ (by omega) _ (by omega)]; simp)
end
def Sh.w0 (h:Sh):Nat:=1+2*h.r+h.x+h.b
def Sh.wt (h:Sh):Nat:=h.w0+if h.b=0 then 0 else 1
theorem aIu: ∀ l:List K,l≠[]→(rM l).sh.w0≤(l.map fun k=>k.sh.w0).sum
  |[],h=>absurd rfl h
  |[x],_=>by simp [rM]
  | x :: y :: l, _ => by
    have:=aIu (y::l) (by simp)
    simp only [rM,K.sh,Sh.w0,Sh.r,Sh.x,Sh.b,List.map_cons,List.sum_cons] at this ⊢
    omega
theorem aIP: ∀ l:List K,l≠[]→(rB l).sh.w0≤(l.map fun k=>k.sh.w0).sum
  |[],h=>absurd rfl h
  |[x],_=>by simp [rB]
  | x :: y :: l, _ => by
    have:=aIP (y::l) (by simp)
    simp only [rB,K.sh,Sh.w0,Sh.r,Sh.x,Sh.b,List.map_cons,List.sum_cons] at this ⊢
    omega
theorem aNG {b:Bool}: ∀ {l:List Fm},(∀ j,j < l.length→(kF (nth l j) b).sh.wt≤(nth l j).sz)→((l.map fun g=>kF g b).map fun k=>k.sh.w0).sum≤Fm.szs l
  |[],_=>by simp [Fm.szs]
  | f :: l, h => by
    have h0:=h 0 (by simp)
    have:=aNG (l:=l) (b:=b) fun j hj=>h (j+1) (by simpa using hj)
    have e:nth (f::l) 0=f:=rfl
    rw [e] at h0
    rw [List.map_cons,List.map_cons,List.sum_cons,Fm.szs]
    unfold Sh.wt at h0
    omega
theorem aUn (f:Fm):okF f=true→ ∀ b,(kF f b).sh.wt≤f.sz:=by
  refine gC (p:=fun f=>okF f=true→ ∀ b,(kF f b).sh.wt≤f.sz) (fun f ih hf b=>?_) f
  obtain ⟨hr,hk⟩:=bN hf
  obtain ⟨r1,r2,r3,r4,r5,r6,r7,r8,r9⟩:=dE hr
  have hz:f.sz=Fm.szs f.kids+1:=by cases f; rw [Fm.sz]; rfl
  have S0: ∀ c,0 < f.kids.length→(nth (f.kids.map fun g=>kF g c) 0).sh.wt≤Fm.szs f.kids:=fun c h=>by
    rw [fS h]; exact Nat.le_trans (ih 0 h (hk 0 h) c) (Fm.szs_nth h)
  have SS: ∀ c,((f.kids.map fun g=>kF g c).map fun k=>k.sh.w0).sum≤Fm.szs f.kids:=fun c=>aNG fun j hj=>ih j hj (hk j hj) c
  have S2: ∀ c,f.kids.length=2→(nth (f.kids.map fun g=>kF g c) 0).sh.wt+(nth (f.kids.map fun g=>kF g c) 1).sh.wt≤Fm.szs f.kids:=fun c h=>by
    have i0:=ih 0 (by omega) (hk 0 (by omega)) c
    have i1:=ih 1 (by omega) (hk 1 (by omega)) c
    rw [fS (by omega),fS (by omega)]
    generalize f.kids=l at*
    match l,h with
    | [x, y], _ =>
      have e0:nth [x,y] 0=x:=rfl
      have e1:nth [x,y] 1=y:=rfl
      rw [e0] at i0; rw [e1] at i1
      rw [e0,e1]; simp only [Fm.szs]; omega
  have hne: ∀ c,2≤f.kids.length→(f.kids.map fun g=>kF g c)≠[]:=fun c h e=>by
    have:=congrArg List.length e
    rw [List.length_map,List.length_nil] at this; omega
  have hw: ∀ s:Sh,s.wt≤s.w0+1:=fun s=>by unfold Sh.wt; split <;> omega
  rw [aN4,hz]
  have e:f.op=1∨f.op=2∨f.op=3∨f.op=4∨f.op=5∨f.op=6∨f.op=7∨f.op=8∨f.op=9∨f.op=10:=by omega
  rcases e with e|e|e|e|e|e|e|e|e|e
  · rw [e]; show Sh.wt .L≤_; simp [Sh.wt,Sh.w0,Sh.r,Sh.x,Sh.b]
  · rw [e]; show Sh.wt .L≤_; simp [Sh.wt,Sh.w0,Sh.r,Sh.x,Sh.b]
  · rw [e]; show Sh.wt .L≤_; simp [Sh.wt,Sh.w0,Sh.r,Sh.x,Sh.b]
  · rw [e]; show (nth (f.kids.map fun g=>kF g (!b)) 0).sh.wt≤_
    have:=S0 (!b) (by omega); omega
  · rw [e]; show (if (true ^^ b)=true then rM (f.kids.map fun g=>kF g b) else rB (f.kids.map fun g=>kF g b)).sh.wt≤_
    have:=SS b
    split
    · have h1:=aIu _ (hne b (by omega)); have h2:=hw (rM (f.kids.map fun g=>kF g b)).sh; omega
    · have h1:=aIP _ (hne b (by omega)); have h2:=hw (rB (f.kids.map fun g=>kF g b)).sh; omega
  · rw [e]; show (if (false ^^ b)=true then rM (f.kids.map fun g=>kF g b) else rB (f.kids.map fun g=>kF g b)).sh.wt≤_
    have:=SS b
    split
    · have h1:=aIu _ (hne b (by omega)); have h2:=hw (rM (f.kids.map fun g=>kF g b)).sh; omega
    · have h1:=aIP _ (hne b (by omega)); have h2:=hw (rB (f.kids.map fun g=>kF g b)).sh; omega
  · rw [e]; show (K.X _ (nth (f.kids.map fun g=>kF g b) 0)).sh.wt≤_
    have:=S0 b (by omega)
    simp only [K.sh,Sh.wt,Sh.w0,Sh.r,Sh.x,Sh.b] at this ⊢
    omega
  · rw [e]; show (if (true ^^ b)=true then K.N true (nth (f.kids.map fun g=>kF g b) 0) (nth (f.kids.map fun g=>kF g b) 1) else K.N false (nth (f.kids.map fun g=>kF g b) 1) (nth (f.kids.map fun g=>kF g b) 0)).sh.wt≤_
    have:=S2 b (by omega)
    split <;> simp only [K.sh,Sh.wt,Sh.w0,Sh.r,Sh.x,Sh.b] at this ⊢ <;> (repeat' split at this) <;> (repeat' split) <;> omega
  · rw [e]; show (K.X _ (nth (f.kids.map fun g=>kF g b) 0)).sh.wt≤_
    have:=S0 b (by omega)
    simp only [K.sh,Sh.wt,Sh.w0,Sh.r,Sh.x,Sh.b] at this ⊢
    omega
  · rw [e]; show (if (false ^^ b)=true then K.N true (nth (f.kids.map fun g=>kF g b) 0) (nth (f.kids.map fun g=>kF g b) 1) else K.N false (nth (f.kids.map fun g=>kF g b) 1) (nth (f.kids.map fun g=>kF g b) 0)).sh.wt≤_
    have:=S2 b (by omega)
    split <;> simp only [K.sh,Sh.wt,Sh.w0,Sh.r,Sh.x,Sh.b] at this ⊢ <;> (repeat' split at this) <;> (repeat' split) <;> omega
theorem aLm {r b x:Nat} (h1:8≤r+x) (h2:1+2*r+x+b≤12) (h3:b≠0→2+2*r+x+b≤12):aCo r b x=true:=by
  have ha:=fun p hp=>List.all_eq_true.1 aUy p hp
  have hr:r=0∨r=1∨r=2∨r=3:=by omega
  have hb:b=0∨b=1∨b=2:=by omega
  rcases hb with rfl|rfl|rfl
  · rcases hr with rfl|rfl|rfl|rfl
    · have hx:x=8∨x=9∨x=10∨x=11:=by omega
      rcases hx with rfl|rfl|rfl|rfl
      · exact ha (0,0,8) (by simp)
      · exact ha (0,0,9) (by simp)
      · exact ha (0,0,10) (by simp)
      · exact ha (0,0,11) (by simp)
    · have hx:x=7∨x=8∨x=9:=by omega
      rcases hx with rfl|rfl|rfl
      · exact ha (1,0,7) (by simp)
      · exact ha (1,0,8) (by simp)
      · exact ha (1,0,9) (by simp)
    · have hx:x=6∨x=7:=by omega
      rcases hx with rfl|rfl
      · exact aUg
      · exact aUt
    · obtain rfl:x=5:=by omega
      exact aUq
  · have h4:=h3 (by decide)
    rcases hr with rfl|rfl|rfl|rfl
    · have hx:x=8∨x=9:=by omega
      rcases hx with rfl|rfl
      · exact ha (0,1,8) (by simp)
      · exact ha (0,1,9) (by simp)
    · obtain rfl:x=7:=by omega
      exact aUw
    · omega
    · omega
  · have h4:=h3 (by decide)
    obtain ⟨rfl,rfl⟩:r=0∧x=8:=by omega
    exact aUk
theorem aUi {h:Sh} (hw:h.wt≤12):aIZ h≤1024:=by
  by_cases q:h.e≤7
  · unfold aIZ
    rw [if_pos q]
    have:2 ^ h.e≤2 ^ 7:=Nat.pow_le_pow_right (by decide) q
    omega
  · have he:=h.e_eq
    have hm:=kY (h.r+h.b+h.x) h (Nat.le_refl _)
    unfold Sh.wt Sh.w0 at hw
    have hc:aCo h.r h.b h.x=true:=aLm (by omega) (by omega) fun e=>by rw [if_neg e] at hw; omega
    exact Nat.le_of_ble_eq_true (List.all_eq_true.1 hc h hm)
theorem aLP {s:Int} (h0:0≤s) (h1:s < 8):s∈st8:=by unfold st8; simp only [List.mem_cons,List.not_mem_nil,or_false]; omega
def aJf (t:Tr) (i j:Nat):Tr:=⟨t.ni.take i++t.ni.drop j,t.no.take i++t.no.drop j⟩
theorem aBJ {l:List Int} {i j p:Nat} (hij:i≤j) (hj:j≤l.length) (hp:p < l.length - (j - i)):nth (l.take i++l.drop j) p=if p < i then nth l p else nth l (p+(j - i)):=by
  unfold nth
  rw [List.getD_eq_getElem?_getD,List.getD_eq_getElem?_getD,List.getD_eq_getElem?_getD]
  split
  · rename_i q
    rw [List.getElem?_append_left (by rw [List.length_take]; omega),List.getElem?_take_of_lt q]
  · rename_i q
    rw [List.getElem?_append_right (by rw [List.length_take]; omega),List.length_take,List.getElem?_drop]
    congr 2; omega
theorem aEu {f:Fm} {t:Tr} {st:Nat→Int} {n:Nat} (hok:okF f=true) (hz:f.sz≤12) (hn:t.ni.length=n) (ho:t.no.length=n) (hs: ∀ q,q≤n→0≤st q∧st q < 8)
    (hbad:sat t f 0=false) (hmin: ∀ i j,i < j→j≤n→st i=st j→sat (aJf t i j) f 0=true):n≤1024:=by
  let lt:Nat→Int×Int:=fun p=>(nth t.ni p,nth t.no p)
  have h1:ks n lt (kF f true) 0=true:=by rw [aN6 hn (fun p _=>rfl) f hok true 0 (Nat.zero_le _),hbad]; rfl
  have:=aKj (g:=kF f true) (lt:=lt) (fun q hq=>aLP (hs q hq).1 (hs q hq).2) h1 fun i j hij hj e=>by
    rw [aN6 (t:=aJf t i j) (by simp [aJf]; omega) (fun p hp=>?_) f hok true 0 (Nat.zero_le _),hmin i j hij hj e]; rfl
    show ltC lt i j p=(nth (t.ni.take i++t.ni.drop j) p,nth (t.no.take i++t.no.drop j) p)
    rw [aBJ (by omega) (by omega) (by omega),aBJ (by omega) (by omega) (by omega)]
    unfold ltC
    split <;> rfl
  have hb:=aUi (h:=(kF f true).sh) (Nat.le_trans (aUn f hok true) hz)
  omega
end Go.Proofs.YteehaobohaecmaaGreatDoor
namespace Go.Proofs.YteehaobohaecmaaGreatDoor
open Go
def WdM (m:M) (u:List Int):Prop:= ∀ k,k < u.length→0≤nth u k∧nth u k < m.i
def vTr (m:M) (u:List Int):Tr:=⟨u,eY m m.s u⟩
theorem aFS {l r:List Int} {k:Nat} (h:k < l.length):nth (l++r) k=nth l k:=by
  unfold nth; rw [List.getD_eq_getElem?_getD,List.getD_eq_getElem?_getD,List.getElem?_append_left h]
theorem aE6 {l:List Int} {x:Int}:nth (l++[x]) l.length=x:=by
  unfold nth; simp
theorem lV {l r:List Pl} {k:Nat} (h:k < l.length):nth (l++r) k=nth l k:=by
  unfold nth; rw [List.getD_eq_getElem?_getD,List.getD_eq_getElem?_getD,List.getElem?_append_left h]
theorem aCW {l:List Pl} {x:Pl}:nth (l++[x]) l.length=x:=by
  unfold nth; simp
theorem WdM.snoc {m:M} {u:List Int} {a:Int} (h:WdM m u) (h0:0≤a) (h1:a < m.i):WdM m (u++[a]):=fun k hk=>by
  rw [List.length_append,List.length_singleton] at hk
  by_cases q:k < u.length
  · rw [aFS q]; exact h k q
  · rw [show k=u.length by omega,aE6]; exact ⟨h0,h1⟩
theorem WdM.left {m:M} {u v:List Int} (h:WdM m (u++v)):WdM m u:=fun k hk=>by
  have:=h k (by rw [List.length_append]; omega)
  rwa [aFS hk] at this
theorem WdM.last {m:M} {u:List Int} {a:Int} (h:WdM m (u++[a])):0≤a∧a < m.i:=by
  have:=h u.length (by simp)
  rwa [aE6] at this
structure SyM (m:M) (f:Fm) (u:List Int) (g:Fm):Prop where
  r:Run 13 g
  s: ∀ t:Tr,u.length≤t.ni.length→(∀ k,k < u.length→nth t.ni k=nth u k∧nth t.no k=nth (eY m m.s u) k)→sat t g u.length=sat t f 0
section
variable {m:M} {f g:Fm} {u:List Int} {a:Nat} {l:List Pl} {p q:Pl} {i:Nat}
theorem SyM.step (hm:dS m=0) (hu:WdM m u) (h:SyM m f u g) (ha:(a:Int) < m.i) (he:(stM g a (nth (nth m.ot (dW m m.s u).toNat) a)).2=0):SyM m f (u++[(a:Int)]) (stM g a (nth (nth m.ot (dW m m.s u).toNat) a)).1:=by
  have mo:=fK hm
  have hg:=sC hm u m.s mo.2.2.2.2.1 mo.2.2.2.2.2.1 hu
  have hr:=(mo.2.2.2.2.2.2.2 (dW m m.s u).toNat (by omega)).2.2 a ha
  rcases aIV h.r (by decide) (a:=(a:Int)) (o:=nth (nth m.ot (dW m m.s u).toNat) a) ⟨by omega,by omega⟩ ⟨hr.2.2.1,hr.2.2.2⟩ with e|⟨g',e,e1,e2⟩
  · rw [e] at he; exact absurd he (by decide)
  · rw [e]
    refine ⟨e1,fun t h1 h2=>?_⟩
    rw [List.length_append,List.length_singleton] at h1 h2 ⊢
    have ho:eY m m.s (u++[(a:Int)])=eY m m.s u++[nth (nth m.ot (dW m m.s u).toNat) a]:=by rw [iO]; rfl
    have h3:=h2 u.length (by omega)
    have ho2:nth (eY m m.s u++[nth (nth m.ot (dW m m.s u).toNat) a]) u.length=nth (nth m.ot (dW m m.s u).toNat) a:=by
      have:=aE6 (l:=eY m m.s u) (x:=nth (nth m.ot (dW m m.s u).toNat) a)
      rwa [iB] at this
    rw [aE6,ho,ho2] at h3
    rw [show u.length+1=u.length+1 from rfl,e2 t u.length (by omega) h3.1 h3.2]
    refine h.s t (by omega) fun k hk=>?_
    have h4:=h2 k (by omega)
    rwa [aFS hk,ho,aFS (by rw [iB]; exact hk)] at h4
theorem SyM.fin (h:SyM m f u g):sat (vTr m u) f 0=enB g:=by
  rw [← h.s (vTr m u) (Nat.le_refl _) fun k _=>⟨rfl,rfl⟩,show u.length=(vTr m u).ni.length from rfl,aLV g (eZ h.r.v)]
  unfold enB
  rw [aQ4 h.r.v (by decide) rfl]
structure BfM (m:M) (f:Fm) (l:List Pl) (i a:Nat):Prop where
  len:l.length≤4096
  mono: ∀ j k,j≤k→k < l.length→(nth l j).w.length≤(nth l k).w.length
  near: ∀ j,j < l.length→i < l.length→(nth l j).w.length≤(nth l i).w.length+1
  good: ∀ j,j < l.length→WdM m (nth l j).w∧dW m m.s (nth l j).w=(nth l j).s∧SyM m f (nth l j).w (nth l j).f∧enB (nth l j).f=true
  first:0 < l.length∧(nth l 0).w=[]
  done: ∀ j b,(j < i∨(j=i∧b < a))→j < l.length→(b:Int) < m.i→vEr m (nth l j) b=0∧ ∃ k,k < l.length∧(nth l k).s=(vNx m (nth l j) b).s∧(nth l k).f=(vNx m (nth l j) b).f∧(nth l k).w.length≤(nth l j).w.length+1
theorem aAo (p:Pl) (a:Nat):(vNx m p a).w=p.w++[(a:Int)]:=by simp [vNx,cat]
theorem BfM.nxt {i a:Nat} (hm:dS m=0) (h:BfM m f l i a) (hi:i < l.length) (ha:(a:Int) < m.i) (he:vEr m (nth l i) a=0):WdM m (vNx m (nth l i) a).w∧dW m m.s (vNx m (nth l i) a).w=(vNx m (nth l i) a).s∧SyM m f (vNx m (nth l i) a).w (vNx m (nth l i) a).f:=by
  obtain ⟨g1,g2,g3,_⟩:=h.good i hi
  rw [aAo]
  refine ⟨g1.snoc (by omega) ha,by rw [kX,g2]; rfl,?_⟩
  have:=g3.step hm g1 ha (by rw [g2]; exact he)
  rwa [g2] at this
theorem BfM.put {i a : Nat} (hm : dS m = 0) (h : BfM m f l i a) (hi : i < l.length) (ha : (a : Int) < m.i) (he : vEr m (nth l i) a = 0) (h2 : ¬(fnd l (vNx m (nth l i) a)).2 ≠ 0) (h3 : ¬(fnd l (vNx m (nth l i) a)).1 = true) : BfM m f (lN l (vNx m (nth l i) a)) i (a + 1) := by
  obtain ⟨n1,n2,n3⟩:=h.nxt hm hi ha he
  have hw:(vNx m (nth l i) a).w.length=(nth l i).w.length+1:=by rw [aAo]; simp
  generalize hq:vNx m (nth l i) a=q at*
  by_cases hn:mB l q
  · rw [(fE hn).2]
    unfold mB at hn
    have hE:enB q.f=true:=by cases e:enB q.f with
      |true=>rfl
      |false=>exact absurd (.inr (.inr (.inl e))) hn
    have hl:=h.len
    have hl2:l.length≠4096:=fun e=>hn (.inr (.inr (.inr e)))
    have hL:(l++[q]).length=l.length+1:=by simp
    have cs: ∀ j,j < (l++[q]).length→(j < l.length∧nth (l++[q]) j=nth l j)∨(j=l.length∧nth (l++[q]) j=q):=fun j hj=>by
      rw [hL] at hj
      by_cases e:j < l.length
      · exact .inl ⟨e,lV e⟩
      · have e2:j=l.length:=by omega
        subst e2; exact .inr ⟨rfl,aCW⟩
    refine ⟨by omega,fun j k hjk hk=>?_,fun j hj _=>?_,fun j hj=>?_,⟨by omega,by rw [lV (by omega)]; exact h.first.2⟩,fun j b hjb hj hb=>?_⟩
    · rcases cs k hk with ⟨k1,k2⟩|⟨k1,k2⟩
      · rw [k2,lV (by omega)]; exact h.mono j k hjk k1
      · rw [k2,hw]
        rcases cs j (by omega) with ⟨j1,j2⟩|⟨j1,j2⟩
        · rw [j2]; exact h.near j j1 hi
        · rw [j2,hw]; omega
    · rw [lV hi]
      rcases cs j hj with ⟨j1,j2⟩|⟨j1,j2⟩
      · rw [j2]; exact h.near j j1 hi
      · rw [j2,hw]; omega
    · rcases cs j hj with ⟨j1,j2⟩|⟨j1,j2⟩
      · rw [j2]; exact h.good j j1
      · rw [j2]; exact ⟨n1,n2,n3,hE⟩
    · have hji:j < l.length:=by omega
      rw [lV hji]
      by_cases e:j < i∨(j=i∧b < a)
      · obtain ⟨d1,k,d2,d3,d4,d5⟩:=h.done j b e hji hb
        exact ⟨d1,k,by omega,by rw [lV d2]; exact d3,by rw [lV d2]; exact d4,by rw [lV d2]; exact d5⟩
      · obtain ⟨rfl,rfl⟩:j=i∧b=a:=by omega
        exact ⟨he,l.length,by omega,by rw [aCW,hq],by rw [aCW,hq],by rw [aCW]; omega⟩
  · have hold:lN l q=l:=pT hn
    rw [hold]
    have hin:fM l q.s q.f=true:=by
      by_cases q1:fM l q.s q.f=true
      · exact q1
      · by_cases q2:enE q.f≠0∨enB q.f=false
        · rw [tJ q1 q2] at h2 h3
          rcases q2 with q2|q2
          · exact absurd q2 h2
          · simp only [decide_eq_true_eq] at h3; omega
        · by_cases q3:l.length=4096
          · rw [aDy q1 q2 q3] at h2; exact absurd (by decide) h2
          · exact absurd (vL q1 q2 q3) hn
    refine ⟨h.len,h.mono,h.near,h.good,h.first,fun j b hjb hj hb=>?_⟩
    by_cases e:j < i∨(j=i∧b < a)
    · exact h.done j b e hj hb
    · obtain ⟨rfl,rfl⟩:j=i∧b=a:=by omega
      unfold fM at hin
      rw [List.any_eq_true] at hin
      obtain ⟨x,hx,hx2⟩:=hin
      rw [Bool.and_eq_true] at hx2
      obtain ⟨k,hk,rfl⟩:=dX hx
      rw [hq]
      exact ⟨he,k,hk,of_decide_eq_true hx2.1,of_decide_eq_true hx2.2,h.near k hk hi⟩
theorem BfM.row {i:Nat} (h:BfM m f l i m.i.toNat) (hi:i < l.length):BfM m f l (i+1) 0:=
  ⟨h.len,h.mono,fun j hj h1=>by have:=h.near j hj hi; have:=h.mono i (i+1) (by omega) h1; omega,h.good,h.first,fun j b hjb hj hb=>h.done j b (by omega) hj hb⟩
theorem BfM.cover {i a : Nat} (hm : dS m = 0) (h : BfM m f l i a) {N : Nat} (hN : ∀ k, k < l.length → (nth l k).w.length < N → k < i) : ∀ (n : Nat) (u : List Int), u.length = n → WdM m u → u.length ≤ N → ∃ k, k < l.length ∧ (nth l k).s = dW m m.s u ∧ (nth l k).w.length ≤ u.length ∧ SyM m f u (nth l k).f := by
  intro n
  induction n with
  | zero =>
    intro u hu _ _
    have:u=[]:=List.length_eq_zero_iff.1 hu
    subst this
    obtain ⟨g1,g2,g3,g4⟩:=h.good 0 h.first.1
    rw [h.first.2] at g2 g3
    exact ⟨0,h.first.1,g2.symm,by rw [h.first.2]; exact Nat.le_refl _,g3⟩
  | succ n ih =>
    intro u hu hw hl
    rcases List.eq_nil_or_concat u with rfl|⟨v,b,e⟩
    · cases hu
    · rw [List.concat_eq_append] at e
      subst e
      rw [List.length_append,List.length_singleton] at hu hl
      obtain ⟨k,k1,k2,k3,k4⟩:=ih v (by omega) hw.left (by omega)
      have hb:=hw.last
      obtain ⟨c,rfl⟩: ∃ c:Nat,b=c:=⟨b.toNat,by omega⟩
      obtain ⟨d1,j,d2,d3,d4,d5⟩:=h.done k c (.inl (hN k k1 (by omega))) k1 hb.2
      refine ⟨j,d2,?_,?_,?_⟩
      · rw [d3,kX,← k2]; rfl
      · rw [List.length_append,List.length_singleton]; omega
      · have:=k4.step hm hw.left hb.2 (by rw [← k2]; exact d1)
        rw [← k2] at this
        rw [d4]; exact this
theorem BfM.all {i a:Nat} (hm:dS m=0) (h:BfM m f l i a) {N:Nat} (hN: ∀ k,k < l.length→(nth l k).w.length < N→k < i) {u:List Int} (hw:WdM m u) (hu:u.length≤N):sat (vTr m u) f 0=true:=by
  obtain ⟨k,k1,_,_,k4⟩:=h.cover hm hN u.length u rfl hw hu
  rw [k4.fin]; exact (h.good k k1).2.2.2
inductive VSp (m:M) (f:Fm) (r:Tr×Bool×Int):Prop where
  |err (e:Int) (h:e≠0) (h1:r=(zT,false,e))
  |no (h1:r=(zT,false,0)) (h2: ∀ u,WdM m u→sat (vTr m u) f 0=true)
  |bad (w:List Int) (h1:r=aCD m w) (h2:WdM m w) (h3:sat (vTr m w) f 0=false) (h4: ∀ u,WdM m u→u.length < w.length→sat (vTr m u) f 0=true)
theorem aGf (hm : dS m = 0) (hp : p = nth l i) (hi : i < l.length) : ∀ (n a : Nat) (l2 : List Pl), n + a = m.i.toNat → BfM m f l2 i a → i < l2.length → nth l2 i = p →
    (∃ r,iQ m p n a l2=(some r,[])∧VSp m f r)∨ ∃ l3,iQ m p n a l2=(none,l3)∧BfM m f l3 i m.i.toNat∧i < l3.length
  |0,a,l2,e,h,hi2,_=>.inr ⟨l2,by rw [iQ],by rw [show m.i.toNat=a by omega]; exact h,hi2⟩
  | n + 1, a, l2, e, h, hi2, hp2 => by
    have hmo:=fK hm
    have ha:(a:Int) < m.i:=by omega
    rw [iQ]
    by_cases q1:vEr m p a≠0
    · rw [if_pos q1]; exact .inl ⟨_,rfl,.err _ q1 rfl⟩
    rw [if_neg q1]
    by_cases q2:(fnd l2 (vNx m p a)).2≠0
    · rw [if_pos q2]; exact .inl ⟨_,rfl,.err _ q2 rfl⟩
    rw [if_neg q2]
    have he:vEr m (nth l2 i) a=0:=by rw [hp2]; exact Decidable.of_not_not q1
    by_cases q3:(fnd l2 (vNx m p a)).1=true
    · rw [if_pos q3]
      obtain ⟨n1,n2,n3⟩:=h.nxt hm hi2 ha he
      rw [hp2] at n1 n2 n3
      refine .inl ⟨_,rfl,.bad _ rfl n1 ?_ fun u hu hl=>?_⟩
      · rw [n3.fin]
        by_cases c1:fM l2 (vNx m p a).s (vNx m p a).f=true
        · rw [aFB c1] at q3; cases q3
        by_cases c2:enE (vNx m p a).f≠0∨enB (vNx m p a).f=false
        · rw [tJ c1 c2] at q2 q3
          rcases c2 with c2|c2
          · exact absurd c2 q2
          · exact c2
        · by_cases c3:l2.length=4096
          · rw [aDy c1 c2 c3] at q3; cases q3
          · rw [(fE (vL c1 c2 c3)).1] at q3; cases q3
      · refine h.all hm (N:=p.w.length) (fun k hk hkl=>?_) hu (by rw [aAo,List.length_append,List.length_singleton] at hl; omega)
        by_cases c:k < i
        · exact c
        · have:=h.mono i k (by omega) hk
          rw [hp2] at this; omega
    · rw [if_neg q3]
      have hput:=h.put hm hi2 ha he (by rw [hp2]; exact q2) (by rw [hp2]; exact q3)
      rw [hp2] at hput
      refine aGf hm hp hi n (a+1) _ (by omega) hput ?_ ?_
      · have:=aHR l2 (vNx m p a); omega
      · rw [aJb hi2]; exact hp2
theorem aGk (hm:dS m=0): ∀ (n i:Nat) (l:List Pl),4097≤n+i→BfM m f l i 0→VSp m f (mI m n i l)
  | 0, i, l, e, h => by
    have:=h.len
    rw [mI]
    exact .no rfl fun u hu=>h.all hm (N:=u.length) (fun k hk _=>by omega) hu (Nat.le_refl _)
  | n + 1, i, l, e, h => by
    rw [mI]
    by_cases hi:i < l.length
    · rw [if_pos hi]
      rcases aGf (f:=f) hm rfl hi m.i.toNat 0 l (by omega) h hi rfl with ⟨r,r1,r2⟩|⟨l3,r1,r2,r3⟩
      · rw [r1]; exact r2
      · rw [r1]; exact aGk hm n (i+1) l3 (by omega) (r2.row r3)
    · rw [if_neg hi]
      exact .no rfl fun u hu=>h.all hm (N:=u.length) (fun k hk _=>by omega) hu (Nat.le_refl _)
theorem aQr (hm:dS m=0) (hv:cW f=0) (hz:f.sz≤12):VSp m f (vck m f):=by
  by_cases q:(bG f).2≠0
  · rw [aJQ (by omega) (by omega) q]; exact .err _ q rfl
  rcases aHE hv hz (by decide) with e|⟨g,e,e1,e2⟩
  · rw [e] at q; exact absurd (by decide) q
  have hS:SyM m f [] g:=⟨e1,fun t _ _=>e2 t 0⟩
  have hf:(vS m f).f=g:=by unfold vS; rw [e]
  have hE:enE g=0:=by unfold enE hoE; rw [if_neg (fun x=>x e1.v)]; rfl
  have hi: ¬fM [] (vS m f).s (vS m f).f=true:=by simp [fM]
  have mo:=fK hm
  have hw0:WdM m []:=fun k hk=>absurd hk (Nat.not_lt_zero _)
  cases hb:enB g with
  | false =>
    have hfd:fnd [] (vS m f)=(true,0):=by rw [tJ hi (.inr (by rw [hf]; exact hb)),hf,hE]; rfl
    rw [aKl (by omega) (by omega) q (.inr (by rw [hfd])),hfd]
    refine .bad [] ?_ hw0 (by rw [hS.fin]; exact hb) fun u _ hl=>absurd hl (Nat.not_lt_zero _)
    have h0:frE m m.s []=0:=by rw [aBn hm]; exact aA3 ⟨by omega,by omega⟩ (by simp) fun k hk=>absurd hk (Nat.not_lt_zero _)
    unfold aCD nH
    rw [h0]; rfl
  | true =>
    have hn:mB [] (vS m f):=vL hi (by rw [hf]; rintro (x|x); exact x hE; rw [hb] at x; cases x) (by simp)
    rw [aI7 (by omega) (by omega) q (by rw [(fE hn).1]; simp),(fE hn).2]
    have n0:nth ([]++[vS m f]) 0=vS m f:=rfl
    have only: ∀ j,j < ([]++[vS m f]).length→j=0:=fun j hj=>by simp at hj; exact hj
    refine aGk hm _ _ _ (by decide) ⟨by simp,fun j k hjk hk=>?_,fun j hj _=>?_,fun j hj=>?_,⟨by simp,rfl⟩,fun j b hjb=>by omega⟩
    · rw [only k hk,only j (by omega)]; exact Nat.le_refl _
    · rw [only j hj]; omega
    · rw [only j hj,n0,hf]
      exact ⟨hw0,rfl,hS,hb⟩
theorem aJr {i j:Nat} {w:List Int} {s:Int} (hij:i≤j) (hj:j≤w.length) (e:dW m s (w.take i)=dW m s (w.take j)):eY m s (w.take i++w.drop j)=(eY m s w).take i++(eY m s w).drop j:=by
  have h1:eY m s w=eY m s (w.take i)++eY m (dW m s (w.take i)) (w.drop i):=by rw [← iO,List.take_append_drop]
  have h2:eY m s w=eY m s (w.take j)++eY m (dW m s (w.take j)) (w.drop j):=by rw [← iO,List.take_append_drop]
  have l1:(eY m s (w.take i)).length=i:=by rw [iB,List.length_take]; omega
  have l2:(eY m s (w.take j)).length=j:=by rw [iB,List.length_take]; omega
  have t1:(eY m s w).take i=eY m s (w.take i):=by rw [h1]; exact List.take_left' l1
  have t2:(eY m s w).drop j=eY m (dW m s (w.take j)) (w.drop j):=by rw [h2]; exact List.drop_left' l2
  rw [iO,t1,t2,e]
theorem aIX {w:List Int} (hm:dS m=0) (hv:cW f=0) (hz:f.sz≤12) (h8:m.nx.length≤8) (h2:WdM m w) (h3:sat (vTr m w) f 0=false) (h4: ∀ u,WdM m u→u.length < w.length→sat (vTr m u) f 0=true):w.length≤1024:=by
  have mo:=fK hm
  have htk: ∀ q,WdM m (w.take q):=fun q=>WdM.left (v:=w.drop q) (by rw [List.take_append_drop]; exact h2)
  refine aEu (t:=vTr m w) (st:=fun q=>dW m m.s (w.take q)) (eZ hv) hz rfl (iB m w m.s) (fun q _=>?_) h3 fun i j hij hj e=>?_
  · have:=sC hm (w.take q) m.s mo.2.2.2.2.1 mo.2.2.2.2.2.1 (htk q)
    exact ⟨this.1,by omega⟩
  · have hc:aJf (vTr m w) i j=vTr m (w.take i++w.drop j):=by
      unfold aJf vTr
      rw [aJr (by omega) hj e]
    rw [hc]
    refine h4 _ (fun k hk=>?_) (by rw [List.length_append,List.length_take,List.length_drop]; omega)
    have hl:(w.take i++w.drop j).length=w.length - (j - i):=by rw [List.length_append,List.length_take,List.length_drop]; omega
    rw [hl] at hk
    rw [aBJ (by omega) hj hk]
    split
    · exact h2 _ (by omega)
    · exact h2 _ (by omega)
theorem aM6 {w:List Int} (hm:dS m=0) (h2:WdM m w) (hl:w.length≤1024):aCD m w=(vTr m w,true,0)∧frE m m.s w=0:=by
  have mo:=fK hm
  have hw:pY w m.i=0:=aA3 ⟨by omega,by omega⟩ hl h2
  have h0:frE m m.s w=0:=by rw [aBn hm]; exact hw
  refine ⟨?_,h0⟩
  unfold aCD vTr
  rw [h0,(aQt hm hw).2.1]; rfl
def dFx (m:M) (r:Tr×Bool×Int):Tr×Bool×Int:=if r.1.ni=[] then r else (vTr m r.1.ni,true,0)
theorem aLk {p:Pl} {a:Nat}:dFx m (aCD m (vNx m p a).w)=(vTr m (vNx m p a).w,true,0):=by
  unfold dFx
  rw [if_neg]; rfl
  show ¬(vNx m p a).w=[]
  rw [aAo]; simp
def fN (m:M) (f:Fm):Tr×Bool×Int:=dFx m (vck m f)
theorem aMX (h:aIo m f=true):fN m f=vck m f:=by
  unfold fN
  by_cases q1:dS m≠0
  · rw [aKJ q1]; rfl
  by_cases q2:cW f≠0
  · rw [aKP q1 q2]; rfl
  have hm:dS m=0:=by omega
  have hv:cW f=0:=by omega
  have hz:=aOJ h
  have h8:=(of_decide_eq_true h).1
  cases aQr hm hv hz with
  |err e _ h1=>rw [h1]; rfl
  |no h1 _=>rw [h1]; rfl
  | bad w h1 h2 h3 h4 =>
    have hl:=aIX hm hv hz h8 h2 h3 h4
    rw [h1,(aM6 hm h2 hl).1]
    unfold dFx
    split
    · rfl
    · rfl
end
end Go.Proofs.YteehaobohaecmaaGreatDoor
namespace Go.Proofs.YteehaobohaecmaaGreatDoor
open Go
@[simp] theorem aOn (a:Pl):dM (cPl a)=true:=by simp [cPl]
@[simp] theorem aRR (a:Pl):eD (cPl a)=true:=by simp [cPl,eD,V.pure]
@[simp] theorem aNi (l:List Pl):eE (l.map cPl)=true:=fY _ _ fun a=>by simp [cPl]
@[simp] theorem aQs (l:List Pl):gQ (l.map cPl)=true:=yM _ _ fun a=>by simp [cPl,eD,V.pure]
section
variable {m:M} {f g:Fm} {l:List Pl} {p q:Pl} {i a k:Nat} {s:Int}
theorem aMb (h:(decide ((nth l k).s=s)&&eA (nth l k).f f)=true) (hk:k < l.length):fM l s f=true:=by
  rw [Bool.and_eq_true,decide_eq_true_eq] at h
  unfold fM
  rw [List.any_eq_true]
  exact ⟨nth l k,by rw [← bQ hk]; exact List.getElem_mem hk,by rw [decide_eq_true h.1,decide_eq_true ((fP _ _).1 h.2)]; rfl⟩
theorem aJR (h:(decide ((nth l k).s=s)&&eA (nth l k).f f)=false) (hk:k < l.length):fM (l.drop k) s f=fM (l.drop (k+1)) s f:=by
  have e:(decide ((nth l k).s=s)&&decide ((nth l k).f=f))=false:=by
    cases q:(decide ((nth l k).s=s)&&decide ((nth l k).f=f)) with
    |false=>rfl
    | true =>
      rw [Bool.and_eq_true,decide_eq_true_eq,decide_eq_true_eq] at q
      rw [decide_eq_true q.1,q.2,(fP _ _).2 rfl] at h; cases h
  unfold fM
  rw [cZ hk,List.any_cons,e,Bool.false_or]
theorem aLC (h:l.length≤k):fM (l.drop k) s f=false:=by rw [List.drop_eq_nil_of_le h]; rfl
def srD (m:M) (g:Fm):Tr×Bool×Int:=if enE g≠0∨enB g=false then (zT,decide (enE g=0),enE g) else dFx m (mI m (4097 - 0) 0 [⟨m.s,g,[]⟩])
theorem aNy (h:enE g≠0∨enB g=false):srD m g=(zT,decide (enE g=0),enE g):=if_pos h
theorem aDG {r:Tr×Bool×Int} (h: ¬(enE g≠0∨enB g=false)) (e:mI m (4097 - 0) 0 [⟨m.s,g,[]⟩]=r):srD m g=dFx m r:=by unfold srD; rw [if_neg h,e]
theorem aQ1 (h:dS m≠0):fN m f=(zT,false,dS m):=by unfold fN; rw [aKJ h]; rfl
theorem aO5 (h: ¬dS m≠0) (h1:cW f≠0):fN m f=(zT,false,cW f):=by unfold fN; rw [aKP h h1]; rfl
theorem aOE (h: ¬dS m≠0) (h1: ¬cW f≠0) (h2:(bG f).2≠0):fN m f=(zT,false,(bG f).2):=by unfold fN; rw [aJQ h h1 h2]; rfl
theorem aPy (h: ¬dS m≠0) (h1: ¬cW f≠0) (h2: ¬(bG f).2≠0):fN m f=srD m (bG f).1:=by
  have hi: ¬fM [] (vS m f).s (vS m f).f=true:=by simp [fM]
  unfold fN
  by_cases c:enE (bG f).1≠0∨enB (bG f).1=false
  · have hf:=tJ hi (q:=vS m f) c
    rw [aNy c,aKl h h1 h2 (by rw [hf]; rcases c with c|c; exact .inl c; by_cases e:enE (vS m f).f=0; exact .inr (decide_eq_true e); exact .inl e),hf]
    rfl
  · have hn:mB [] (vS m f):=vL hi c (by simp)
    rw [aI7 h h1 h2 (by rw [(fE hn).1]; simp),(fE hn).2,srD,if_neg c]
    rfl
structure PlD (m:M) (l:List Pl):Prop where
  ok:PlOK m l
  wd: ∀ j,j < l.length→WdM m (nth l j).w
theorem PlD.start (hm:dS m=0) (hv:cW g=0):PlD m [⟨m.s,g,[]⟩]:=by
  have mo:=fK hm
  refine ⟨⟨by simp,fun j hj=>?_⟩,fun j hj=>?_⟩
  · have:j=0:=by simp at hj; omega
    subst this
    exact ⟨mo.2.2.2.2.1,mo.2.2.2.2.2.1,hv,Nat.le_refl _⟩
  · have:j=0:=by simp at hj; omega
    subst this
    exact fun k hk=>absurd hk (Nat.not_lt_zero _)
theorem PlD.put (hm:dS m=0) (h:PlD m l) (hk:k < l.length) (ha:(a:Int) < m.i) (he: ¬vEr m (nth l k) a≠0) (hl: ¬4096≤l.length):PlD m (l++[vNx m (nth l k) a]):=by
  obtain ⟨a1,a2,a3,a4⟩:=h.ok.at_ k hk
  have hi:=aNV (by omega: ¬dS m≠0) a1 a2 ha
  have hv:cW (vNx m (nth l k) a).f=0:=wC he
  have cs: ∀ j,j < (l++[vNx m (nth l k) a]).length→(j < l.length∧nth (l++[vNx m (nth l k) a]) j=nth l j)∨(j=l.length∧nth (l++[vNx m (nth l k) a]) j=vNx m (nth l k) a):=fun j hj=>by
    rw [List.length_append,List.length_singleton] at hj
    by_cases e:j < l.length
    · exact .inl ⟨e,lV e⟩
    · have e2:j=l.length:=by omega
      subst e2; exact .inr ⟨rfl,aCW⟩
  refine ⟨⟨by simp; omega,fun j hj=>?_⟩,fun j hj=>?_⟩
  · rcases cs j hj with ⟨j1,j2⟩|⟨j1,j2⟩
    · rw [j2]; exact h.ok.at_ j j1
    · rw [j2]; exact ⟨hi.1,hi.2,hv,by rw [aAo,List.length_append,List.length_singleton]; omega⟩
  · rcases cs j hj with ⟨j1,j2⟩|⟨j1,j2⟩
    · rw [j2]; exact h.wd j j1
    · rw [j2,aAo]; exact (h.wd k hk).snoc (by omega) ha
theorem WdM.cat1 {u:List Int} {b:Int} (h:WdM m u) (h0:0≤b) (h1:b < m.i):WdM m (cat [u,[b]]):=by
  rw [show cat [u,[b]]=u++[b] by simp [cat]]; exact h.snoc h0 h1
section
variable {n:Nat}
theorem aHM (h:a < n) (h1: ¬vEr m p a≠0) (h2:fM l (vNx m p a).s (vNx m p a).f=true):iQ m p (n - a) a l=iQ m p (n - (a+1)) (a+1) l:=by
  have e:=aFB h2
  rw [pO h h1 (by rw [e]; decide) (by rw [e]; decide),show lN l (vNx m p a)=l from if_pos (.inl h2)]
theorem aR6 (h:a < n) (h1: ¬vEr m p a≠0) (h2: ¬fM l (vNx m p a).s (vNx m p a).f=true) (h3:enE (vNx m p a).f≠0):iQ m p (n - a) a l=(some (zT,false,enE (vNx m p a).f),[]):=by
  have e:=tJ h2 (.inl h3)
  rw [aEX h h1 (by rw [e]; exact h3),e]
theorem aSM (h:a < n) (h1: ¬vEr m p a≠0) (h2: ¬fM l (vNx m p a).s (vNx m p a).f=true) (h3: ¬enE (vNx m p a).f≠0) (h4:enB (vNx m p a).f=false):iQ m p (n - a) a l=(some (aCD m (vNx m p a).w),[]):=by
  have e:=tJ h2 (.inr h4)
  rw [aKT h h1 (by rw [e]; exact h3) (by rw [e]; exact decide_eq_true (Decidable.of_not_not h3))]
theorem aTk (h:a < n) (h1: ¬vEr m p a≠0) (h2: ¬fM l (vNx m p a).s (vNx m p a).f=true) (h3: ¬enE (vNx m p a).f≠0) (h4: ¬enB (vNx m p a).f=false) (hl:l.length=4096):iQ m p (n - a) a l=(some (zT,false,11),[]):=by
  have e:=aDy h2 (by rintro (x|x); exact h3 x; exact h4 x) hl
  rw [aEX h h1 (by rw [e]; decide),e]
theorem aI4 (h:a < n) (h1: ¬vEr m p a≠0) (h2: ¬fM l (vNx m p a).s (vNx m p a).f=true) (h3: ¬enE (vNx m p a).f≠0) (h4: ¬enB (vNx m p a).f=false) (hl: ¬l.length=4096):iQ m p (n - a) a l=iQ m p (n - (a+1)) (a+1) (l++[vNx m p a]):=by
  have e:=fE (vL h2 (by rintro (x|x); exact h3 x; exact h4 x) hl)
  rw [pO h h1 (by rw [e.1]; decide) (by rw [e.1]; decide),e.2]
end
end
end Go.Proofs.YteehaobohaecmaaGreatDoor
namespace Go.Proofs.YteehaobohaecmaaGreatDoor
open Go Go.Proofs
theorem aCl (l:List Pl) (s:Int) (f:Fm):aQ Tryz.prog 76 [(V.sl (List.map cPl l)),(iV s),(V.agg (rFq f))] (V.bool (fM l s f)):=by
 refine pW Tryz.func76 aOW fun hB=>?_
 unfold s76
 dsimp only
 refine W_r (cA (i:=5) (n:=0) (m:=3) (cs:=(rFq f)) rfl (cVq rfl) rfl rfl rfl (aA rfl (R_e (aB (W_r (aA rfl (R_e ?_)))))))
 refine aD fun Q1 n1 x1 y1 z1=>?_
 refine bS (fun mm T H=> ∃ (k:Nat),mm=l.length - k∧T 0=(V.sl (List.map cPl l))∧T 1=(iV s)∧T 5=(mPq 5)∧T 7=(iV ((k:Nat):Int))∧H 5=(bFq f)∧(k≤l.length)∧(fM l s f=fM (l.drop k) s f)) ?_ ?_
 ·
  refine ⟨_,0,rfl,rfl,rfl,rfl,(eTq (rVq (iV 0)) rfl),rfl,?_,?_⟩
  · omega
  · rfl
 intro mm T H ⟨k,hmm,t0,t1,t5,t7,h5,hk,hc⟩ Q2 p12 p22 p32
 unfold aNX
 refine aB (W_r (aA t7 (aA t0 (bF rfl (bO rfl rfl (R_e ?_))))))
 refine aH rfl (fun c3=>?_) fun c3=>?_
 ·
  refine aC (aD fun Q4 n4 x4 y4 z4=>(W_r (aA t0 (aA t7 (dB (i:=k) (rVq (V.sl (List.map cPl l))) (rNq k) (by omega) rfl (iW (cs':=[(iV ((nth l k).s)),(iV ((nth l k).f.op)),(iV ((nth l k).f.arg)),(V.sl (List.map cF ((nth l k).f.kids))),(aY ((nth l k).w))]) rfl rfl (aG rfl rfl ?_)))))))
  refine aA t1 (aX rfl rfl (aA rfl ?_))
  refine aT 8 (fun T H=>T 0=(V.sl (List.map cPl l))∧T 1=(iV s)∧T 5=(mPq 5)∧T 7=(iV ((k:Nat):Int))∧T 29=(V.bool (decide (((nth l k).s)=s)&&(eA ((nth l k).f) f)))∧H 5=(bFq f)∧True) ?_ ?_
  ·
   by_cases g5:((nth l k).s)=s
   ·
    refine aE (edT g5 rfl) (aA t0 (aE (edT g5 rfl) (aA t7 (aE (edT g5 rfl) (dB (i:=k) (rVq (V.sl (List.map cPl l))) (rNq k) (by omega) rfl (aE (edT g5 rfl) (iW (cs':=[(iV ((nth l k).f.op)),(iV ((nth l k).f.arg)),(V.sl (List.map cF ((nth l k).f.kids))),(aY ((nth l k).w))]) rfl rfl ?_)))))))
    refine aE (edT g5 rfl) (aG rfl rfl (aE (edT g5 rfl) (aJ t5 h5 rfl rfl (aE (edT g5 rfl) (aI (yR ((nth l k).f) f) rfl (aS (edT g5 rfl) rfl ?_))))))
    exact ⟨t0,t1,t5,t7,(rH g5),h5,trivial⟩
   ·
    refine G_n (edF g5 rfl) (G_n (edF g5 rfl) (G_n (edF g5 rfl) (G_n (edF g5 rfl) (G_n (edF g5 rfl) (G_n (edF g5 rfl) (G_n (edF g5 rfl) (aU (edF g5 rfl) rfl ?_)))))))
    exact ⟨t0,t1,t5,t7,(rG g5),h5,trivial⟩
  intro T H ⟨t0,t1,t5,t7,t29,h5,_⟩
  refine R_e ?_
  refine lI t29 (fun c6=>?_) (fun c6=>?_)
  ·
   have d1:=aMb c6 (by omega)
   refine W_r (aA rfl (R_e (aO (y4 _ _ (p22 _ _ (y1 _ _ ?_))))))
   refine bH (rVq (V.bool true)) (aZ ?_)
   · rw [d1]
  have d1:=c6
  refine cN (n4 _ _ (.done (W_t (aA t7 (bC rfl (rNq 1) (by omega) (aA rfl (R_e ?_)))))))
  refine p12 _ _ _ ?_ ⟨(k+1),rfl,t0,t1,t5,(eTq (rNq (k+1)) (by rfl)),h5,?_,?_⟩
  · omega
  · omega
  · rw [hc,aJR d1 (by omega)]
 refine aN (p32 _ _ _ (x1 _ _ (.done (W_r (aA rfl (R_e (aO ?_)))))))
 refine bH (rVq (V.bool false)) (aZ ?_)
 · rw [hc,aLC (by omega)]
def aTY:List SO:=[
 qM 11 3,
 qM 12 0,
 qM 13 4,
 qA 14 1 12 13,
 ql 15 14,
 sO 16 (.append 3 1 8 (.t 11) (.t 15)),
 qM 3 16]
def aNf:SC:=.seq (.seq (.reg [qM 5 4,qM 6 0,qN 7 6,qP 8 .lss 5 7]) (.cond (.t 8) (.skip) (.exit 0))) (.seq (.block 1 (.reg aTY)) (.reg [qM 9 4,qC 10 .add 9 1,qM 4 10]))
def s77:SF:=⟨18,[.tmp 2],.seq (.reg [sO 2 (.mv (.c (.nilsl)))]) (.seq (.reg [sO 3 (.lazy 3 1)]) (.seq (.seq (.reg [qI 4 0]) (.block 0 (.loop aNf))) (.seq (.reg [qM 17 3,qM 2 17]) (.ret))))⟩
theorem aQn:bJ Tryz.prog ⟨oEq,[3],[],[]⟩ Tryz.f77=some s77:=by kernel_rfl
theorem aHi (l:List (List Int)) (hs:(cat l).length≤17592186044416):aQ Tryz.prog 77 [(bI l)] (aY (cat l)):=by
 refine pW Tryz.func77 aQn fun hB=>?_
 unfold s77
 dsimp only
 refine W_r (aA rfl (R_e (W_r (nQ (i:=3) (n:=0) rfl (cVq rfl) (R_e (aB (W_r ?_)))))))
 refine aA rfl (R_e (aD fun Q1 n1 x1 y1 z1=>?_))
 refine bS (fun mm T H=> ∃ (k:Nat),mm=l.length - k∧T 0=(bI l)∧T 3=(V.ms 3 (1+k) 0 ((cat (l.take k)).length))∧T 4=(iV ((k:Nat):Int))∧H 3=(bz (1+k) 3 1 (List.map cI (cat (l.take k))))∧(k≤l.length)) ?_ ?_
 ·
  refine ⟨_,0,rfl,rfl,(eTq (rVq (V.ms 3 1 0 0)) (by rfl)),(eTq (rVq (iV 0)) rfl),(eTq (@rfl Blk (bz 1 3 1 [])) (by rfl)),?_⟩
  · omega
 intro mm T H ⟨k,hmm,t0,t3,t4,h3,hk⟩ Q2 p12 p22 p32
 unfold aNf
 refine aB (W_r (aA t4 (aA t0 (bF rfl (bO rfl rfl (R_e ?_))))))
 refine aH rfl (fun c3=>?_) fun c3=>?_
 ·
  have hq:=nS (l:=l) (k:=k) (by omega)
  refine aC (aD fun Q4 n4 x4 y4 z4=>(W_t (aA t3 (aA t0 (aA t4 (dB (i:=k) (rVq (bI l)) (rNq k) (by omega) rfl (aG rfl rfl ?_)))))))
  refine pI (l:=(cat (l.take k))) (m:=(nth l k)) (f:=cI) (rVq (V.ms 3 (1+k) 0 ((cat (l.take k)).length))) h3 (by rfl) (rVq (aY (nth l k))) (fun _=>rfl) (fun _=>rfl) (by omega) (by omega) (aA rfl (R_e (n4 _ _ (.done (W_t (aA t4 (bC rfl (rNq 1) (by omega) ?_)))))))
  refine aA rfl (R_e ?_)
  refine p12 _ _ _ ?_ ⟨(k+1),rfl,t0,(eTq (rVq (V.ms 3 (1+k+1) 0 (((cat (l.take k)).length)+(nth l k).length))) (by (rw [mG (by omega),List.length_append]; rfl))),(eTq (rNq (k+1)) (by rfl)),(eTq (@rfl Blk (bz (1+k+1) 3 1 (List.map cI (cat (l.take k)++(nth l k))))) (by (rw [mG (by omega)]; rfl))),?_⟩
  · omega
  · omega
 refine aN (p32 _ _ _ (x1 _ _ (.done (W_r (aA t3 (aA rfl (R_e ?_)))))))
 refine aO ?_
 refine bH (rVq (V.ms 3 (1+k) 0 ((cat (l.take k)).length))) (iJ h3 (by simp) (l:=(cat (l.take k))) rfl (by rfl) (fun _=>by simp) ?_)
 · (have e:k=l.length:=(by omega); subst e; rw [List.take_length])
def aSk:List SO:=[
 qL 8 4 2,
 qF 9 1 2,
 ql 10 9,
 qM 11 1,
 sO 12 (.call false 98 [.t 8,.t 10,.t 11]),
 qM 7 12,
 qE 13 7 0,
 qE 14 7 1,
 qM 5 13,
 qM 6 14]
def s78:SF:=⟨18,[.cell 4 true 2],.seq (.reg [sO 2 (.box 50 4 (.t 0)),sO 4 (.alloc 54 [.nilsl,.nilsl])]) (.seq (.reg aSk) (.seq (.reg [qM 15 1,qM 16 5,sO 17 (.build [.nilsl,.nilsl] [(0,1,.t 15),(1,1,.t 16)]),sN (.store 2 (.t 4) (.t 17))]) (.ret)))⟩
theorem aQL:bJ Tryz.prog ⟨oEq,[],[],[]⟩ Tryz.f78=some s78:=by kernel_rfl
def aSx:List SO:=[
 qM 16 8,
 qF 17 3 3,
 ql 18 17,
 qM 19 1,
 qA 20 1 18 19,
 ql 21 20,
 qM 22 2,
 qM 23 9,
 qA 24 1 22 23,
 ql 25 24,
 qA 26 1 21 25,
 ql 27 26,
 sO 28 (.bslice 3 1 false [.int .i64 0] 1 [(0,.t 27)]),
 sO 29 (.append 3 1 8 (.t 16) (.t 28)),
 qM 8 29]
def aTa:List SO:=[
 qF 30 2 3,
 ql 31 30,
 qM 32 1,
 qA 33 1 31 32,
 ql 34 33,
 qM 35 2,
 qM 36 9,
 qA 37 1 35 36,
 ql 38 37,
 qA 39 1 34 38,
 ql 40 39,
 qM 1 40]
def aNr:SC:=.seq (.seq (.reg [qM 10 9,qM 11 2,qN 12 11,qP 13 .lss 10 12]) (.cond (.t 13) (.skip) (.exit 0))) (.seq (.block 1 (.seq (.reg aSx) (.reg aTa))) (.reg [qM 14 9,qC 15 .add 14 1,qM 9 15]))
def s98:SF:=⟨43,[.tmp 6,.tmp 7],.seq (.reg [sO 3 (.box 50 4 (.t 0)),sO 6 (.mv (.c (.nilsl))),qI 7 0]) (.seq (.reg [sO 8 (.lazy 3 1)]) (.seq (.seq (.reg [qI 9 0]) (.block 0 (.loop aNr))) (.seq (.reg [qM 41 8,qM 42 1,qM 6 41,qM 7 42]) (.ret))))⟩
theorem aQM:bJ Tryz.prog ⟨oEq,[8],[],[]⟩ Tryz.f98=some s98:=by kernel_rfl
end Go.Proofs.YteehaobohaecmaaGreatDoor
