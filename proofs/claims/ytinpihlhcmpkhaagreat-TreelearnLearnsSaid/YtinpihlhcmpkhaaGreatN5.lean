/- Contracts of the functions that the law N reaches, and the law itself, for every input; no condition. -/
import Derived.KernelRfl
import Derived.Test.YtinpihlhcmpkhaaGreatProg
import Derived.Test.YtinpihlhcmpkhaaGreatRows
import Derived.Test.YtinpihlhcmpkhaaGreatN4
set_option linter.unusedSimpArgs false
set_option linter.unusedVariables false
set_option linter.unusedSectionVars false
set_option maxRecDepth 20000
set_option maxHeartbeats 1000000
namespace Go.Proofs.YtinpihlhcmpkhaaGreat
section
open Go
theorem aGw (a b:List Int):(bH [a,b]).length=a.length+b.length:=by simp [bH]
section
variable {t:Dt} {o:Ob} {m:M} {w:List Int}
theorem Rea.rt (hv:iB t=0) {a b:Int} (h:Rea t a b):0<=a->a < t.nd.length->Rt t a b/\0<=b/\b < t.nd.length:=by
  induction h with
  |refl n=>intro h0 h1; exact ⟨.refl,h0,h1⟩
  | kid hl ha hb ih =>
    rename_i n a b;intro h0 h1;have r:=(lC hv).rng _ (show n.toNat < t.nd.length by omega) a ha;have q:=ih r.1 r.2;exact ⟨q.1.head ⟨h0,h1⟩ ha,q.2⟩
theorem Rea.snoc {a b c:Int} (h:Rea t a b) (hl:(aA t.nd b.toNat).lf=false) (hc:c∈(aA t.nd b.toNat).kd):Rea t a c:=by
  induction h with
  |refl n=>exact .kid hl hc (.refl _)
  |kid g1 g2 _ ih=>exact .kid g1 g2 (ih hl hc)
theorem aM5 (hv : iB t = 0) {a : Int} (h0 : 0 <= a) (h1 : a < t.nd.length) : Rea t 0 a := by
  obtain ⟨P,hP⟩:=mT hv
  have key: ∀ (s:Nat),s < P.length->Rea t 0 (aA P s):=by
    intro s
    induction s using Nat.strongRecOn with
    | _ s ih =>
      intro hs;by_cases e0:s=0
      . subst e0; rw [hP.head.1]; exact .refl _
      . obtain ⟨i,hi,ha⟩:=hP.1.par (s:=s) OM hs
        have r:=hP.1.rng (lC hv) _<|bC (show i < P.length by omega)
        have hil:(aA t.nd (aA P i).toNat).lf=false:=by
          by_cases z:(aA t.nd (aA P i).toNat).lf=true
          . have:=(aB0 hv (show (aA P i).toNat < t.nd.length by omega) z).kd
            rw [this] at ha; cases ha
          . simpa using z
        exact (ih i hi OM).snoc hil ha
  obtain ⟨s,hs,e⟩:=hP.all (lC hv) h0 h1;rw [<- e]; exact key s hs
theorem aFe (hv : iB t = 0) (hx : lF m o = true) {n : Int} : ∀ (f x : Nat), Rk t f x -> gS t o w f x = (n, [], 0) -> ∀ b, Rea t (x : Int) b -> (aA t.nd b.toNat).lf = false -> ∀ i, i < (aA t.nd b.toNat).kd.length -> Rea t (aA (aA t.nd b.toNat).kd i) n ->
    aV m (eJ m m.s w) (aA t.nd b.toNat).sf=aA (aA t.nd b.toNat).ou i
  |0,x,hR,_=>absurd hR.pos OM
  | f + 1, x, hR, hs => by
    intro b hb hbl i hi hr;have hxl:x < t.nd.length:=hR.lt hv;obtain ⟨P,hP⟩:=mT hv;have hk:=lC hv
    have cyc: ∀ y:Int,0<=y->y < t.nd.length->Rea t y b->y=n->False:=λy y0 y1 hy e=>by
      have q:=hy.rt hv y0 y1;have ra:=hk.rng _ (show b.toNat < t.nd.length by omega) _<|bC hi
      have q2:=hr.rt hv ra.1 ra.2
      have q3:Rea t (aA (aA t.nd b.toNat).kd i) b:=by
        subst e
        have: ∀ {a c d:Int},Rea t a c->Rea t c d->Rea t a d:=by
          intro a c d h1 h2
          induction h1 with
          |refl n=>exact h2
          |kid g1 g2 _ ih=>exact .kid g1 g2 (ih h2)
        exact this hr hy
      exact uO hk hP q.2 (bC hi) (q3.rt hv ra.1 ra.2).1
    by_cases hl:(aA t.nd x).lf=true
    . grind [oW]
    have hl':(aA t.nd x).lf=false:=by simpa using hl
    by_cases g1:cP (bH [w,(aA t.nd x).sf]) o.i≠0
    . grind [sP]
    by_cases g2:(dP o<|bH [w,(aA t.nd x).sf]).isSome=true
    . by_cases g3 : lxH (aA t.nd x).ou (((dP o<|bH [w, (aA t.nd x).sf]).getD []).drop w.length)
      . rw [aCE OM hl' g1 g2 g3] at hs
        have hin:=qK hv hxl hl';have e1:lJ o w (aA t.nd x).sf=aV m (eJ m m.s w) (aA t.nd x).sf:=iJ hx g2;obtain ⟨j,hj,hjo,hje⟩: ∃ j,j < (aA t.nd x).ou.length/\aA (aA t.nd x).ou j=lJ o w (aA t.nd x).sf/\kD (aA t.nd x).ou (lJ o w (aA t.nd x).sf)=j:=⟨_,g3.1,aI8 g3,J⟩;have e2:kD (aA t.nd x).ou (((dP o<|bH [w,(aA t.nd x).sf]).getD []).drop w.length)=j:=hje;rw [e2] at hs;have hjk:j < (aA t.nd x).kd.length:=by have:=hin.len; omega
        have hkm:=bC hjk;have rk:=hin.kr _ hkm;have hR2:=hR.step hkm rk.1;rw [Nat.add_sub_cancel] at hs hR2;have ecast:(((aA (aA t.nd x).kd j).toNat:Nat):Int)=aA (aA t.nd x).kd j:=Int.toNat_of_nonneg rk.1
        -- where the walk goes on,n is reached
        have hgo:Rt t (aA (aA t.nd x).kd j) n:=by
          have: ∀ (f x:Nat),Rk t f x->gS t o w f x=(n,[],0)->Rt t (x:Int) n:=by
            intro f
            induction f with
            |zero=>intro x hR; exact absurd hR.pos OM
            | succ f ih =>
              intro x hR hs;have hxl:x < t.nd.length:=hR.lt hv;by_cases hl:(aA t.nd x).lf=true
              . rw [oW OM hl] at hs; injection hs with h1 _; rw [<- h1]; exact .refl
              have hl':(aA t.nd x).lf=false:=by simpa using hl
              by_cases g1:cP (bH [w,(aA t.nd x).sf]) o.i≠0
              . grind [sP]
              by_cases g2:(dP o<|bH [w,(aA t.nd x).sf]).isSome=true
              . by_cases g3:lxH (aA t.nd x).ou (((dP o<|bH [w,(aA t.nd x).sf]).getD []).drop w.length)
                . rw [aCE OM hl' g1 g2 g3] at hs
                  have hin:=qK hv hxl hl';have hm:=bC (show kD (aA t.nd x).ou (((dP o<|bH [w,(aA t.nd x).sf]).getD []).drop w.length) < (aA t.nd x).kd.length by rw [<- hin.len]; exact g3.1);have rk:=hin.kr _ hm;have:=ih _ (hR.step hm rk.1) hs;rw [Int.toNat_of_nonneg rk.1] at this;exact this.head ⟨OM,OM⟩ (by grind)
                . rw [wO OM hl' g1 g2 g3] at hs; injection hs with h1 _; rw [<- h1]; exact .refl
              . rw [sK OM hl' g1 (by simpa using g2)] at hs
                injection hs with _ h2; injection h2 with h3 _;have:=congrArg List.length h3;have hs0:=(qK hv hxl hl').s0
                grind [aGw]
          grind
        cases hb with
        | refl =>
          rw [Int.toNat_natCast] at hi hr hbl ⊢;have ri:=hin.kr _<|bC hi
          have q2:=hr.rt hv ri.1 OM;have e3:=aBO hk hP (n:=(x:Int)) ⟨OM,OM⟩ (by grind [bC]) (by grind) q2.1 hgo;obtain ⟨s,hs2,es⟩:=hP.all hk (show (0:Int)<=x by omega) OM
          grind [aNm,Int.toNat_natCast,aCj]
        | kid g4 g5 g6 =>
          rename_i a;rw [Int.toNat_natCast] at g4 g5;have ra:=hin.kr a g5;have qa:=g6.rt hv ra.1 OM;have qi:=hk.rng _ (show b.toNat < t.nd.length by omega) _<|bC hi
          have q2:=hr.rt hv qi.1 qi.2
          have trt: ∀ {a c d:Int},Rt t a c->Rt t c d->Rt t a d:=by
            intro a c d h1 h2
            induction h2 with
            |refl=>exact h1
            |step _ hb hc ih=>exact .step ih hb hc
          have qan:Rt t a n:=trt qa.1<|q2.1.head ⟨qa.2.1,qa.2.2⟩<|bC hi
          have e3:=aBO hk hP (n:=(x:Int)) ⟨OM,OM⟩ (by grind) (by grind) qan hgo;subst e3;exact aFe hv hx f _ hR2 hs b (by rw [ecast]; exact g6) hbl i hi hr
      grind [wO]
    . rw [sK OM hl' g1 (by simpa using g2)] at hs
      injection hs with _ h2; injection h2 with h3 _;have:=congrArg List.length h3;have hs0:=(qK hv hxl hl').s0
      grind [aGw]
end
end
section
open Go
theorem aIx {α:Type} [Inhabited α] {p:Nat} {x:α} {l:List α} (hp:p<=l.length) (i:Nat):aA (tL p x l) i=if i < p then aA l i else if i=p then x else aA l (i - 1):=by grind [tL,aA]
section
variable {t:Dt} {o:Ob} {m:M} {w:List Int} {n:Int} {outs0:List Int}
theorem aM8 (hv:iB t=0) (hs:bF t o w=(n,[],0)):gS t o w t.nd.length 0=(n,[],0):=by grind [bF]
theorem aAE (hg:nP t n outs0 w=0) (k:Nat):aA (wN t n outs0 w).nd k=if k < t.nd.length then if n.toNat=k then gNd (aA t.nd n.toNat) outs0 t.nd.length else aA t.nd k else aA [rY w] (k - t.nd.length):=by
  obtain ⟨_,h1,_⟩:=aBI hg;obtain ⟨n0,n1,hl⟩:=rH h1
  grind [wN,aAg]
theorem aGi (hv : iB t = 0) (hg : nP t n outs0 w = 0) {x : Int} {u : List Int} (h : Bel (wN t n outs0 w) x u) : 0 <= x -> (x < t.nd.length -> Bel t x u \/ (u = w /\ Rea t x n)) /\ (x = t.nd.length -> u = w) := by
  obtain ⟨_,h1,_⟩:=aBI hg;obtain ⟨n0,n1,hl⟩:=rH h1;have hk:=lC hv
  induction h with
  | leaf hlf =>
    rename_i x;intro hx0;have e:=aAE hg x.toNat;refine ⟨λhx=>?_,λhx=>?_⟩
    . rw [if_pos OM] at e
      by_cases en:n.toNat=x.toNat
      . rw [if_pos en] at e; rw [e] at hlf
        have:(aA t.nd n.toNat).lf=true:=hlf;rw [hl] at this; cases this
      . rw [if_neg en] at e; rw [e] at hlf ⊢; exact .inl (.leaf hlf)
    . rw [if_neg OM,show x.toNat - t.nd.length=0 by omega] at e
      rw [e]; rfl
  | kid hlf ha hb ih =>
    rename_i x a u;intro hx0;have e:=aAE hg x.toNat;refine ⟨λhx=>?_,λhx=>?_⟩
    . rw [if_pos OM] at e
      have old:a∈(aA t.nd x.toNat).kd->(aA t.nd x.toNat).lf=false->Bel t x u\/(u=w/\Rea t x n):=λhm hl2=>by
        have r:=hk.rng _ (show x.toNat < t.nd.length by omega) a hm;rcases (ih r.1).1 r.2 with q|q
        . exact .inl (.kid hl2 hm q)
        . exact .inr ⟨q.1,.kid hl2 hm q.2⟩
      by_cases en:n.toNat=x.toNat
      . rw [if_pos en] at e; rw [e] at ha
        have enx:n=x:=OM
        rcases yQ.1 ha with q|q
        . exact .inr ⟨(ih OM).2 q,by rw [enx]; exact .refl _⟩
        grind
      grind
    . rw [if_neg OM,show x.toNat - t.nd.length=0 by omega] at e
      rw [e] at hlf; cases hlf
theorem aLu (hv : iB t = 0) (hg : nP t n outs0 w = 0) {x b : Int} (h : Rea (wN t n outs0 w) x b) : 0 <= x -> (aA (wN t n outs0 w).nd b.toNat).lf = false -> (x < t.nd.length -> Rea t x b) /\ (x = t.nd.length -> False) := by
  obtain ⟨_,h1,_⟩:=aBI hg;obtain ⟨n0,n1,hl⟩:=rH h1;have hk:=lC hv
  induction h with
  | refl x =>
    intro hx0 hbl;refine ⟨λ_=>.refl _,λhx=>?_⟩;rw [aAE hg,if_neg OM,show x.toNat - t.nd.length=0 by omega] at hbl; cases hbl
  | kid hlf ha hb ih =>
    rename_i x a b;intro hx0 hbl;have e:=aAE hg x.toNat;refine ⟨λhx=>?_,λhx=>?_⟩
    . rw [if_pos OM] at e
      have old:a∈(aA t.nd x.toNat).kd->(aA t.nd x.toNat).lf=false->Rea t x b:=λhm hl2=>by
        have r:=hk.rng _ (show x.toNat < t.nd.length by omega) a hm;exact .kid hl2 hm ((ih r.1 hbl).1 r.2)
      by_cases en:n.toNat=x.toNat
      . rw [if_pos en] at e; rw [e] at ha
        rcases yQ.1 ha with q|q
        . grind
        grind
      grind
    . rw [if_neg OM,show x.toNat - t.nd.length=0 by omega] at e
      rw [e] at hlf; cases hlf
theorem aL9 (hv : iB t = 0) (hx : lF m o = true) (h : Snd t m 0) (hs : bF t o w = (n, [], 0)) (hg : nP t n outs0 w = 0) (ho : outs0 = aV m (eJ m m.s w) (aA t.nd n.toNat).sf) : Snd (wN t n outs0 w) m 0 := by
  have hsN:=aM8 hv hs;obtain ⟨_,h1,_,hnx,_⟩:=aBI hg;obtain ⟨n0,n1,hl⟩:=rH h1;have hk:=lC hv;obtain ⟨P,hP⟩:=mT hv;intro b hr hbl i hi u hu;have hr0:=(aLu hv hg hr (Int.le_refl 0) hbl).1 (by have:=hk.pos; omega);obtain ⟨_,b0,b1⟩:=hr0.rt hv (Int.le_refl 0) (by have:=hk.pos; omega);have e:=aAE hg b.toNat;rw [if_pos OM] at e
  -- a kid of the old tree
  have old:(aA t.nd b.toNat).lf=false-> ∀ j,j < (aA t.nd b.toNat).kd.length->(b=n->False\/ ¬(u=w/\Rea t (aA (aA t.nd b.toNat).kd j) n))->Bel (wN t n outs0 w) (aA (aA t.nd b.toNat).kd j) u->aV m (eJ m m.s u) (aA t.nd b.toNat).sf=aA (aA t.nd b.toNat).ou j:=λhl2 j hj _ hu=>by
    have r:=hk.rng _ (show b.toNat < t.nd.length by omega) _<|bC hj
    rcases (aGi hv hg hu r.1).1 r.2 with q|q
    . exact h b hr0 hl2 j hj u q
    grind [aFe,rk0]
  by_cases en:n.toNat=b.toNat
  . have enb:n=b:=OM
    rw [if_pos en] at e;rw [e] at hi hu ⊢;have hin:=qK hv (show n.toNat < t.nd.length by omega) hl;have hp:=aGJ (w:=outs0) (aA t.nd n.toNat).ou;have hi':i < (aA t.nd n.toNat).kd.length+1:=by rw [<- aAh]; exact hi
    have ek:aA (gNd (aA t.nd n.toNat) outs0 t.nd.length).kd i=_:=aIx (show kD (aA t.nd n.toNat).ou outs0<=(aA t.nd n.toNat).kd.length by rw [<- hin.len]; exact hp) i;have eo:aA (gNd (aA t.nd n.toNat) outs0 t.nd.length).ou i=_:=aIx hp i;rw [ek] at hu;rw [eo];show aV m (eJ m m.s u) (aA t.nd n.toNat).sf=_;have hp2:kD (aA t.nd n.toNat).ou outs0<=(aA t.nd n.toNat).kd.length:=by rw [<- hin.len]; exact hp
    by_cases c1:i < kD (aA t.nd n.toNat).ou outs0
    . rw [if_pos c1] at hu ⊢
      rw [en] at hu ⊢
      exact old (by rw [<- en]; exact hl) i (by rw [<- en]; omega) (λ_=>.inr λq=>by
        have r:=hk.rng _ (show b.toNat < t.nd.length by omega) _<|bC (show i < (aA t.nd b.toNat).kd.length by rw [<- en]; omega)
        exact uO hk hP ⟨n0,n1⟩ (by grind [bC]) (q.2.rt hv r.1 r.2).1) hu
    . rw [if_neg c1] at hu ⊢
      by_cases c2:i=kD (aA t.nd n.toNat).ou outs0
      . rw [if_pos c2] at hu ⊢
        have:=(aGi hv hg hu OM).2 J;rw [this,ho]
      . rw [if_neg c2] at hu ⊢
        rw [en] at hu ⊢
        exact old (by rw [<- en]; exact hl) (i - 1) (by rw [<- en]; omega) (λ_=>.inr λq=>by
          have r:=hk.rng _ (show b.toNat < t.nd.length by omega) _<|bC (show i - 1 < (aA t.nd b.toNat).kd.length by rw [<- en]; omega)
          exact uO hk hP ⟨n0,n1⟩ (by grind [bC]) (q.2.rt hv r.1 r.2).1) hu
  grind
variable {sf other:List Int}
theorem xI (hg:spE t n sf outs0 w other=0) (k:Nat):aA (xE t n sf outs0 w other).nd k=if k < t.nd.length then if n.toNat=k then spN sf outs0 other t.nd.length else aA t.nd k else aA [aA t.nd n.toNat,rY w] (k - t.nd.length):=by
  obtain ⟨_,h1,_⟩:=aAW hg;obtain ⟨n0,n1,hl⟩:=rH h1
  grind [xE,aAg]
theorem aAA (hv : iB t = 0) (hg : spE t n sf outs0 w other = 0) {x : Int} {u : List Int} (h : Bel (xE t n sf outs0 w other) x u) : 0 <= x -> (x < t.nd.length -> Bel t x u \/ (u = w /\ Rea t x n)) /\ (x = t.nd.length -> u = (aA t.nd n.toNat).ac) /\ (x = t.nd.length + 1 -> u = w) := by
  obtain ⟨_,h1,_⟩:=aAW hg;obtain ⟨n0,n1,hl⟩:=rH h1;have hk:=lC hv
  induction h with
  | leaf hlf =>
    rename_i x;intro hx0;have e:=xI hg x.toNat;refine ⟨λhx=>?_,λhx=>?_,λhx=>?_⟩
    . rw [if_pos OM] at e
      by_cases en:n.toNat=x.toNat
      . rw [if_pos en] at e; rw [e] at hlf; cases hlf
      . rw [if_neg en] at e; rw [e] at hlf ⊢; exact .inl (.leaf hlf)
    . rw [if_neg OM,show x.toNat - t.nd.length=0 by omega] at e
      rw [e]; rfl
    . rw [if_neg OM,show x.toNat - t.nd.length=0+1 by omega] at e
      rw [e]; rfl
  | kid hlf ha hb ih =>
    rename_i x a u;intro hx0;have e:=xI hg x.toNat;refine ⟨λhx=>?_,λhx=>?_,λhx=>?_⟩
    . rw [if_pos OM] at e
      by_cases en:n.toNat=x.toNat
      . rw [if_pos en] at e; rw [e] at ha
        have enx:n=x:=OM
        have q:=aEK.1 ha;by_cases qa:a=t.nd.length
        . rw [(ih OM).2.1 qa,enx]; exact .inl (.leaf (by rw [<- en]; exact hl))
        . exact .inr ⟨(ih OM).2.2 OM,by rw [enx]; exact .refl _⟩
      . rw [if_neg en] at e; rw [e] at ha hlf
        have r:=hk.rng _ (show x.toNat < t.nd.length by omega) a ha;rcases (ih r.1).1 r.2 with q|q
        . exact .inl (.kid hlf ha q)
        . exact .inr ⟨q.1,.kid hlf ha q.2⟩
    . grind [aA]
    . rw [if_neg OM,show x.toNat - t.nd.length=0+1 by omega] at e
      rw [e] at hlf; cases hlf
theorem aKc (hv : iB t = 0) (hg : spE t n sf outs0 w other = 0) {x b : Int} (h : Rea (xE t n sf outs0 w other) x b) : 0 <= x -> (aA (xE t n sf outs0 w other).nd b.toNat).lf = false -> (x < t.nd.length -> Rea t x b) /\ (x = t.nd.length -> False) /\ (x = t.nd.length + 1 -> False) := by
  obtain ⟨_,h1,_⟩:=aAW hg;obtain ⟨n0,n1,hl⟩:=rH h1;have hk:=lC hv
  have h0:(aA (xE t n sf outs0 w other).nd t.nd.length).lf=true:=by
    rw [xI hg,if_neg OM,Nat.sub_self]; exact hl
  have h2:(aA (xE t n sf outs0 w other).nd (t.nd.length+1)).lf=true:=by
    rw [xI hg,if_neg OM,show t.nd.length+1 - t.nd.length=0+1 by omega]; rfl
  induction h with
  | refl x =>
    intro hx0 hbl;refine ⟨λ_=>.refl _,λhx=>?_,λhx=>?_⟩
    . grind
    grind
  | kid hlf ha hb ih =>
    rename_i x a b;intro hx0 hbl;have e:=xI hg x.toNat;refine ⟨λhx=>?_,λhx=>?_,λhx=>?_⟩
    . rw [if_pos OM] at e
      by_cases en:n.toNat=x.toNat
      . rw [if_pos en] at e; rw [e] at ha
        have q:=aEK.1 ha
        grind
      . rw [if_neg en] at e; rw [e] at ha hlf
        have r:=hk.rng _ (show x.toNat < t.nd.length by omega) a ha;exact .kid hlf ha ((ih r.1 hbl).1 r.2)
    . grind
    grind
theorem aKH (hv:iB t=0) (hx:lF m o=true) (h:Snd t m 0) (hs:bF t o w=(n,[],0)) (hg:spE t n sf outs0 w other=0) (ho:outs0=aV m (eJ m m.s (aA t.nd n.toNat).ac) sf) (ho2:other=aV m (eJ m m.s w) sf):Snd (xE t n sf outs0 w other) m 0:=by
  have hsN:=aM8 hv hs;obtain ⟨_,h1,_⟩:=aAW hg;obtain ⟨n0,n1,hl⟩:=rH h1;have hk:=lC hv;intro b hr hbl i hi u hu;have hr0:=(aKc hv hg hr (Int.le_refl 0) hbl).1 (by have:=hk.pos; omega);obtain ⟨_,b0,b1⟩:=hr0.rt hv (Int.le_refl 0) (by have:=hk.pos; omega);have e:=xI hg b.toNat;rw [if_pos OM] at e;by_cases en:n.toNat=b.toNat
  . rw [if_pos en] at e
    rw [e] at hi hu ⊢;show aV m (eJ m m.s u) sf=aA (spO outs0 other) i;have hi':i < (spK outs0 other t.nd.length).length:=hi;have hu':Bel (xE t n sf outs0 w other) (aA (spK outs0 other t.nd.length) i) u:=hu
    have key: ∀ a:Int,Bel (xE t n sf outs0 w other) a u->(a=t.nd.length->aV m (eJ m m.s u) sf=outs0)/\(a=t.nd.length+1->aV m (eJ m m.s u) sf=other):=λa hb=>
      ⟨λea=>by rw [(aAA hv hg hb OM).2.1 ea,ho],λea=>by rw [(aAA hv hg hb OM).2.2 ea,ho2]⟩
    unfold spK at hi' hu';unfold spO;split at hi'
    . rename_i q
      rw [if_pos q] at hu' ⊢;have:i=0\/i=1:=by simp at hi'; omega
      rcases this with rfl|rfl
      . exact (key _ hu').2 J
      . exact (key _ hu').1 J
    . rename_i q
      rw [if_neg q] at hu' ⊢;have:i=0\/i=1:=by simp at hi'; omega
      rcases this with rfl|rfl
      . exact (key _ hu').1 J
      . exact (key _ hu').2 J
  . rw [if_neg en] at e
    rw [e] at hi hbl hu ⊢;have r:=hk.rng _ (show b.toNat < t.nd.length by omega) _<|bC hi
    rcases (aAA hv hg hu r.1).1 r.2 with q|q
    . exact h b hr0 hbl i hi u q
    grind [aFe,rk0]
end
end
section
open Go
theorem aE8 {α:Type} [DecidableEq α]: ∀ {l m:List α},l.Nodup->(∀ a∈l,a∈m)->l.length<=m.length
  |[],_,_,_=>Nat.zero_le _
  | a :: l, m, hn, h => by
    obtain ⟨h1,h2⟩:=List.nodup_cons.1 hn;have ha:=h a<|List.mem_cons_self ..
    have:=aE8 (m:=m.erase a) h2 λb hb=>(List.mem_erase_of_ne λ(e:b=a)=>h1 (by rw [<- e]; exact hb)).2 (h b<|List.mem_cons_of_mem _ hb)
    grind
section
variable {m:M} {o:Ob} {w:List Int}
theorem rO (hm:bK m=0): ∀ (w:List Int) (s:Int),0<=s->s < m.nx.length->(∀ k,k < w.length->0<=aA w k/\aA w k < m.i)-> ∀ k,k < (aV m s w).length->0<=aA (aV m s w) k/\aA (aV m s w) k<=1048576
  |[],s,_,_,_=>λk hk=>absurd hk (Nat.not_lt_zero _)
  | a :: w, s, h0, h1, hw => by
    have ha:0<=a/\a < m.i:=by simpa [aA] using hw 0 SI
    have mo:=(cY hm).2.2.2.2.2.2.2 s.toNat OM;have mr:=mo.2.2 a.toNat OM
    have ih:=rO hm w (cell m.nx s a) mr.1 mr.2.1 λk hk=>by
      have:=hw (k+1) (by simpa using hk)
      rwa [jD] at this
    intro k hk;cases k with
    |zero=>exact ⟨mr.2.2.1,mr.2.2.2⟩
    |succ k=>grind [aV,jD]
theorem aM3 {s:Int} {u v:List Int} {j:Nat} (h:j < gC u v):aA (aV m s u) j=aA (aV m s v) j:=by
  obtain ⟨c1,c2,c3,_⟩:=gR u v
  have e:u.take (j+1)=v.take (j+1):=fU (by rw [List.length_take,List.length_take]; omega) λk hk=>by
    grind [jU]
  have h1:aA ((aV m s u).take (j+1)) j=aA ((aV m s v).take (j+1)) j:=by rw [<- oL,<- oL,e]
  grind [jU]
structure TO (m:M) (o:Ob):Prop where
  ok:OK o
  x:lF m o=true
  i:o.i=m.i
theorem aHm (h: ∀ t∈o.tr,t.no=aV m m.s t.ni):lF m o=true:=by grind [lF,cW,aBD,bC]
def cnt (p:List Int->Bool) (l:List Tr):Nat:=(l.filter λt=>p t.ni).length
theorem aN3 (p:List Int->Bool) (l:List Tr) (t:Tr):cnt p (ins l t)=cnt p l+if p t.ni=true then 1 else 0:=by
  have key: ∀ l:List Tr,((l.filter<|lbP t).filter λt=>p t.ni).length+((l.filter λu=> !lbP t u).filter λt=>p t.ni).length=(l.filter λt=>p t.ni).length:=by
    intro l
    induction l <;> grind
  grind [cnt,ins]
theorem aPv (p:List Int->Bool) (l:List Tr) (t:Tr):cnt p (lH l t)<=cnt p l+if p t.ni=true then 1 else 0:=by
  unfold lH;split
  . omega
  . rw [aN3]
    grind [cnt,List.Sublist.length_le,List.filter_sublist]
theorem aRG (hm : bK m = 0) (h : TO m o) (hw : cP w m.i = 0) (hl : o.tr.length < 10000) : wX m m.s w = 0 /\ (tJ o.i o.tr [⟨w, gQ m m.s w⟩]).2 = 0 /\ TO m (vR o [⟨w, gQ m m.s w⟩]) /\
    ∀ p,cnt p (vR o [⟨w,gQ m m.s w⟩]).tr<=cnt p o.tr+if p w=true then 1 else 0:=by
  have mo:=cY hm;have h0:wX m m.s w=0:=by rw [aJI hm]; exact hw
  have hf:gQ m m.s w=aV m m.s w:=(aMT hm hw).2.1;have hwl:=dO hw;rw [hf]
  have hp:vY ⟨w,aV m m.s w⟩ o.i=0:=by
    show (if cP w o.i≠0 then cP w o.i else if (aV m m.s w).length≠w.length then 1 else fe (tA ⟨w,aV m m.s w⟩) 0 (aV m m.s w).length)=0;rw [h.i,if_neg OM,if_neg (by rw [gI]; omega)];refine cW.2 λj _ hj=>?_;have:=rO hm w m.s mo.2.2.2.2.1 mo.2.2.2.2.2.1 hwl.2 j (by simpa using hj)
    grind [tA]
  have hx:=aHn h.x
  have he:nJ o.tr ⟨w,aV m m.s w⟩=0:=by
    unfold nJ;rw [if_neg]
    . grind
    . intro hc
      obtain ⟨j,_,hj,hd⟩:=nT.1 hc;have hd2:0<=df (aA o.tr j) ⟨w,aV m m.s w⟩:=of_decide_eq_true hd
      have:df (aA o.tr j) ⟨w,aV m m.s w⟩ < 0:=aRz.2 λk hk=>by
        rw [hx _ (bC OM)]; exact aM3 hk
      omega
  have ha:(tJ o.i o.tr [⟨w,aV m m.s w⟩]).2=0:=by grind [aJu]
  have hone:=kX ha;refine ⟨h0,ha,⟨aD3 h.ok,?_,?_⟩,λp=>?_⟩
  . grind [aHm,lH,aFt]
  . rw [hone]; exact h.i
  grind [aPv]
theorem mZ (l:List Tr):cnt (λ_=>true) l=l.length:=by unfold cnt; simp
theorem aGk (hm:bK m=0): ∀ {ws:List (List Int)} {o:Ob},TO m o->(∀ w∈ws,cP w m.i=0)->o.tr.length+ws.length<=10000->(eP m o ws).2=0/\TO m (eP m o ws).1/\ ∀ p,cnt p (eP m o ws).1.tr<=cnt p o.tr+(ws.filter p).length
  |[],o,h,_,_=>⟨rfl,h,λp=>by simp [eP]⟩
  | w :: ws, o, h, hw, hl => by
    rw [List.length_cons] at hl;obtain ⟨a,b,c,d⟩:=aRG hm h (hw w<|List.mem_cons_self ..) OM;have hlen:=d λ_=>true
    rw [mZ,mZ,if_pos J] at hlen;obtain ⟨e,f,g⟩:=aGk hm c (λx hx=>hw x<|List.mem_cons_of_mem _ hx) (ws:=ws) OM
    grind [eP]
theorem aLl (h:OK o):(o.tr.map (·.ni)).Nodup:=by
  rw [List.nodup_iff_pairwise_ne,List.pairwise_map,List.pairwise_iff_getElem];intro i j hi hj hij e;have h2:=OK.lt_of h.ord hij hj
  grind [bL,iT]
end
end
section
open Go
theorem aPb {l:Ts} {p:List Int} {a:Int} (hp:p∈eM l.t) (h0:0<=a) (h1:a < l.i):p++[a]∈dC l:=by
  unfold dC;refine List.mem_flatMap.2 ⟨p,hp,?_⟩;unfold ex1;exact List.mem_map.2 ⟨a.toNat,List.mem_range.2 OM,by rw [Int.toNat_of_nonneg h0]; simp [bH]⟩
def PQ (l:Ts):List (List Int):=(dC l).flatMap λe=>l.t.nd.map λx=>e++x.sf
theorem aFr {l:Ts} {q:List Int}:q∈PQ l↔ ∃ e∈dC l,∃ k,k < l.t.nd.length/\q=e++(aA l.t.nd k).sf:=by grind [PQ,dZ,bC]
theorem aRx (l:Ts):(PQ l).length=(dC l).length*l.t.nd.length:=aBN (λa=>List.length_map ..) _
def nPQ (l:Ts) (q:List Int):Bool:=decide (q∉PQ l)
theorem aGD {p p':List Int->Bool} (h: ∀ q,p q=true->p' q=true): ∀ l:List Tr,cnt p l<=cnt p' l
  |[]=>Nat.le_refl _
  | t :: l => by
    have ih:=aGD h l
    grind [cnt]
theorem aDL (p:List Int->Bool): ∀ l:List Tr,l.length=cnt p l+cnt (λq=> !p q) l
  |[]=>rfl
  | t :: l => by
    have ih:=aDL p l
    grind [cnt]
theorem aSo {l:Ts} {o:Ob} (ho:OK o):o.tr.length<=(PQ l).length+cnt (nPQ l) o.tr:=by
  have h1:=aDL (nPQ l) o.tr
  have h2:cnt (λq=> !nPQ l q) o.tr<=(PQ l).length:=by
    unfold cnt;rw [<- List.length_map (f:=(·.ni))];refine aE8 ?_ λa ha=>?_
    . grind [aLl]
    grind [nPQ]
  omega
structure LJ (m:M) (l:Ts) (o:Ob) (r:Int):Prop where
  c:Cas l o m
  al: ∀ w∈eM l.t,w.length+1<=oP l
  pre: ∀ w∈eM l.t,w≠[]-> ∃ u a,w=u++[a]/\u∈eM l.t
  sfl: ∀ k,k < l.t.nd.length->(aA l.t.nd k).sf.length<=150
  ndl:l.t.nd.length+1<=2*oP l
  rr:0<=r/\r+1<=oP l
  ct:cnt (nPQ l) o.tr<=200*r.toNat
section
variable {m:M} {l:Ts} {o:Ob} {r:Int} {w:List Int}
theorem Cas.to (h:Cas l o m):TO m o:=⟨lR h.ho,h.hx,h.oi⟩
theorem Cas.with (h:Cas l o m) {o':Ob} (k:TO m o'):Cas l o' m:=⟨sX k.ok,h.hm,k.x,h.hl,h.hi,k.i,h.sd,h.ap⟩
theorem Cas.dv (h:Cas l o m):iB l.t=0:=(nG h.hl).2.2.1
theorem Cas.ts (h:Cas l o m):kH l o=0:=by unfold kH; rw [if_neg (λe=>e h.hl),if_neg (λe=>e (by rw [h.hi,h.oi]))]
theorem rL (t:Dt):(eM t).Nodup:=by
  have:=aJH t;rw [List.nodup_iff_pairwise_ne];exact List.Pairwise.imp (λ{a b} h e=>by subst e; have:=iT.2 (J:a=a); omega) this
theorem Apt.ne {u v:List Int} (h:Apt m u v):eJ m m.s u≠eJ m m.s v:=λe=>by
  obtain ⟨z,_,h2⟩:=h;rw [e] at h2; exact h2 J
theorem Cas.states (h:Cas l o m):oP l<=m.nx.length:=by
  have mo:=cY h.hm;have e:oP l=((eM l.t).map (eJ m m.s)).length:=by rw [List.length_map,mP h.dv]; rfl
  rw [e]
  have key:((eM l.t).map (eJ m m.s)).length<=((List.range m.nx.length).map λk:Nat=>(k:Int)).length:=by
    refine aE8 ?_ λa ha=>?_
    . rw [List.nodup_iff_pairwise_ne,List.pairwise_map]
      have:=rL l.t;rw [List.nodup_iff_pairwise_ne] at this;exact List.Pairwise.imp_of_mem (λ{a b} ha hb hne=>(h.ap a ha b hb hne).ne) this
    . obtain ⟨u,hu,rfl⟩:=List.mem_map.1 ha
      have:=qR h.hm u m.s mo.2.2.2.2.1 mo.2.2.2.2.2.1 (dO<|h.inw u hu).2;exact List.mem_map.2 ⟨(eJ m m.s u).toNat,List.mem_range.2 OM,OM⟩
  grind
theorem LJ.n12 (h:LJ m l o r) (hs:m.nx.length<=12):oP l<=12:=Nat.le_trans h.c.states hs
theorem LJ.exl (h:LJ m l o r) (hs:m.nx.length<=12) (h4:m.i<=4):(dC l).length<=48:=by
  rw [aAe,mP h.c.dv,h.c.hi];have h1:(fT l.t.nd).length<=12:=h.n12 hs;have:=Nat.mul_le_mul h1 (show m.i.toNat<=4 by omega);omega
theorem LJ.trl (h:LJ m l o r) (hs:m.nx.length<=12) (h4:m.i<=4):o.tr.length<=3400:=by
  have h1:=aSo (l:=l)<|lR h.c.ho
  have h2:=aRx l;have h3:=h.exl hs h4;have h5:=h.n12 hs;have h6:=h.ndl;have h7:(dC l).length*l.t.nd.length<=48*23:=Nat.mul_le_mul h3 OM;have h8:=h.ct;have h9:=h.rr;omega
theorem aEl (hm:bK m=0) {u:List Int} {a:Int} (hu:cP u m.i=0) (hl:u.length<=1000) (h0:0<=a) (h1:a < m.i):cP (u++[a]) m.i=0:=by
  have mo:=cY hm;refine iS ⟨OM,OM⟩ (by grind) ?_;exact InW.snoc (oV hu) h0 h1
theorem aCD (hm:bK m=0) {u v:List Int} (hu:cP u m.i=0) (hv:cP v m.i=0) (hl:u.length+v.length<=1024):cP (u++v) m.i=0:=by
  have mo:=cY hm
  grind [iS,dO,aA]
theorem LJ.acw (h:LJ m l o r) {u:List Int} (hu:u∈eM l.t) (hs:m.nx.length<=12):cP u m.i=0/\u.length<=11:=by
  have:=h.al u hu;have:=h.n12 hs;exact ⟨h.c.inw u hu,OM⟩
theorem LJ.exw (h:LJ m l o r) (hs:m.nx.length<=12) {e:List Int} (he:e∈dC l):cP e m.i=0/\e.length<=12:=by
  obtain ⟨p,a,hp,h0,h1,rfl⟩:=aBr he;obtain ⟨a1,a2⟩:=h.acw hp hs;exact ⟨aEl h.c.hm a1 OM h0 (by rw [<- h.c.hi]; exact h1),by rw [List.length_append,List.length_singleton]; omega⟩
theorem LJ.sfw (h:LJ m l o r) {k:Nat} (hk:k < l.t.nd.length):cP (aA l.t.nd k).sf m.i=0:=by rw [<- h.c.hi]; exact ((nG h.c.hl).2.2.2.1 k hk).2
theorem aJP {t : Dt} (hv : iB t = 0) (hw : ∀ k, k < t.nd.length -> cP (bH [w, (aA t.nd k).sf]) o.i = 0) : ∀ (f x : Nat), Rk t f x -> (gS t o w f x).2.2 = 0 /\ ((gS t o w f x).2.1 = [] \/ ∃ k, k < t.nd.length /\ (gS t o w f x).2.1 = bH [w, (aA t.nd k).sf])
  |0,x,hR=>absurd hR.pos OM
  | f + 1, x, hR => by
    have hxl:=hR.lt hv;unfold gS;by_cases hl:(aA t.nd x).lf=true
    . grind
    rw [if_neg hl,if_neg (by have:=hw x hxl; omega)];split
    . exact ⟨J,.inr ⟨x,hxl,J⟩⟩
    . split
      . rename_i g
        have hin:=qK hv hxl (by simpa using hl);have hm:=bC (show kD (aA t.nd x).ou (((dP o<|bH [w,(aA t.nd x).sf]).getD []).drop w.length) < (aA t.nd x).kd.length by rw [<- hin.len]; exact g.1);have rk:=hin.kr _ hm;exact aJP hv hw f _<|hR.step hm rk.1
      . exact ⟨J,.inl J⟩
theorem LJ.sft (h:LJ m l o r) {w:List Int} (hw:cP w m.i=0) (hl:w.length<=800):(bF l.t o w).2.2=0/\((bF l.t o w).2.1=[]\/ ∃ k,k < l.t.nd.length/\(bF l.t o w).2.1=w++(aA l.t.nd k).sf):=by
  have hv:=h.c.dv;unfold bF;rw [if_neg OM,if_neg (by rw [h.c.oi]; omega)];have e: ∀ k,bH [w,(aA l.t.nd k).sf]=w++(aA l.t.nd k).sf:=λk=>by simp [bH]
  have:=aJP (o:=o) (w:=w) hv (λk hk=>by
    rw [e,h.c.oi];exact aCD h.c.hm hw (h.sfw hk) (by have:=h.sfl k hk; omega)) _ _ (rk0 hv)
  grind
theorem LJ.qra (h : LJ m l o r) (hs : m.nx.length <= 12) {q : List Int} (hq : q ∈ qra l o) : cP q m.i = 0 /\ q ∈ PQ l := by
  unfold Go.Proofs.YtinpihlhcmpkhaaGreat.qra at hq;obtain ⟨e,he,hq⟩:=List.mem_flatMap.1 hq;obtain ⟨e1,e2⟩:=h.exw hs he;unfold qr1 at hq;rcases List.mem_append.1 hq with hq|hq
  . split at hq
    . cases hq
    . rw [List.mem_singleton] at hq
      obtain ⟨_,_,hv,_,hn,_⟩:=nG h.c.hl;obtain ⟨k,hk,hlf,_⟩:=aEk hn;exact ⟨by rw [hq]; exact e1,aFr.2 ⟨e,he,k,hk,by rw [(aB0 hv hk hlf).sf,hq]; simp⟩⟩
  . split at hq
    . rename_i g
      rw [List.mem_singleton] at hq;subst hq;have hf:=h.sft e1 OM;rcases hf.2 with q|⟨k,hk,q⟩
      . grind
      . rw [q]
        exact ⟨aCD h.c.hm e1 (h.sfw hk) (by have:=h.sfl k hk; omega),aFr.2 ⟨e,he,k,hk,J⟩⟩
    . cases hq
end
end
section
open Go
theorem Apt.irr {m:M} {u:List Int}: ¬Apt m u u:=λ⟨_,_,h⟩=>h J
section
variable {m:M} {l:Ts} {o:Ob} {r:Int}
theorem qG {t:Dt} (hv:iB t=0) {w:List Int}:w∈eM t↔w∈fT t.nd:=by rw [pH hv,iA]
theorem aCf {o:Ob} (h3: ¬0 < (mK (qra l o)).length) {k:Nat} (hk:k < (dC l).length):(bF l.t o (aA (dC l) k)).2.1=[]:=by
  have z:=rK (l:=qra l o) OM;by_cases e:(bF l.t o<|aA (dC l) k).2.1=[]
  . exact e
  . exfalso
    have:(bF l.t o<|aA (dC l) k).2.1∈qra l o:=List.mem_flatMap.2 ⟨_,bC hk,by unfold qr1; rw [if_pos (List.length_pos_iff.2 e)]; simp⟩;rw [z] at this; cases this
theorem LJ.sfE0 (h:LJ m l o r) (hs:m.nx.length<=12):pL l o=0:=by
  unfold pL;rw [cW];intro j _ hj;have e:=h.exw hs<|bC (show j < (dC l).length by omega)
  exact (h.sft e.1 OM).1
theorem aCp {a sf:List Int} (h1:a.length=sf.length) (h2: ∀ k,k < a.length->0<=aA a k/\aA a k<=1048576):vlE a sf=0:=by
  unfold vlE;rw [if_neg OM,cW];intro j _ hj;have:=h2 j OM;unfold ouE; rw [if_neg OM]
theorem Cas.fresh (h:Cas l o m) {w:List Int} {n:Int} (hsf:bF l.t o w=(n,[],0)) (hn:0<=n/\n < l.t.nd.length) (hl:(aA l.t.nd n.toNat).lf=false)
    (ha:(dP o<|bH [w,(aA l.t.nd n.toNat).sf]).isSome=true) (hx: ¬lxH (aA l.t.nd n.toNat).ou (lJ o w (aA l.t.nd n.toNat).sf)):w∉eM l.t:=by
  intro hw;rcases h.sft hsf hw with q|q
  . cases q with
    |leaf g=>rw [hl] at g; cases g
    | kid g hk hb =>
      rename_i a;obtain ⟨i,hi,e⟩:=dZ hk;have hin:=qK h.dv (show n.toNat < l.t.nd.length by omega) hl;have q2:=h.sd n (aM5 h.dv hn.1 hn.2) hl i hi w (by rw [e]; exact hb);rw [iJ h.hx ha] at hx;exact hx (aEp hin.srt (show i < (aA l.t.nd n.toNat).ou.length by rw [hin.len]; exact hi) q2.symm).2
  . exact q.irr
theorem LJ.gr0 (h:LJ m l o r) (hs:m.nx.length<=12) (h3: ¬0 < (mK (Go.Proofs.YtinpihlhcmpkhaaGreat.qra l o)).length) {k:Nat} (hk:k < (dC l).length) (hi:inx l o k=true):
    nP l.t (bF l.t o<|aA (dC l) k).1 (lJ o (aA (dC l) k) (aA l.t.nd (bF l.t o<|aA (dC l) k).1.toNat).sf) (aA (dC l) k)=0:=by
  have hts:=h.c.ts;have hsf:=h.sfE0 hs;have nd:=vJ (l:=l) (o:=o) OM OM h3 hk;have hl:(aA l.t.nd (bF l.t o<|aA (dC l) k).1.toNat).lf=false:=by unfold inx at hi; simpa using hi
  have nd4:=nd.2.2.2 hl;have e:=h.exw hs<|bC hk
  have mo:=cY h.c.hm;have tr:=oY nd.1<|aCf h3 hk
  have fr:=h.c.fresh tr ⟨nd.2.1,nd.2.2.1⟩ hl nd4.1 nd4.2;have hb:=iJ h.c.hx nd4.1;have g:=qR h.c.hm _ m.s mo.2.2.2.2.1 mo.2.2.2.2.2.1 (dO e.1).2;have hq:=h.sfw (k:=(bF l.t o<|aA (dC l) k).1.toNat) OM;unfold nP;rw [if_neg (λq=>q h.c.dv),if_neg (by unfold noE; rw [if_neg OM,if_neg (by rw [hl]; decide)]; decide),if_neg,if_neg (show ¬lxH _ (lJ o (aA (dC l) k) (aA l.t.nd (bF l.t o<|aA (dC l) k).1.toNat).sf) from nd4.2),if_neg,if_neg]
  . have:=h.n12 hs; have:=h.ndl; omega
  . unfold fsE
    have hw64:cP (aA (dC l) k) 64=0:=iS OM (dO e.1).1 λj hj=>by have:=(dO e.1).2 j hj; have:=(nG h.c.hl).2.1; rw [h.c.hi] at this; omega
    rw [if_neg (λq=>q hw64),if_neg λq=>fr ((qG h.c.dv).2 q)];decide
  . intro q
    apply q;rw [hb];exact aCp (gI _ _ _)<|rO h.c.hm _ _ g.1 g.2 (dO hq).2
theorem LJ.tst0 (h:LJ m l o r) (hs:m.nx.length<=12):(dJ l o).2.2.2=0:=by
  have hts:=h.c.ts;have hsf:=h.sfE0 hs;by_cases h3:0 < (mK<|Go.Proofs.YtinpihlhcmpkhaaGreat.qra l o).length
  . rw [oC OM OM h3]
  . by_cases h4:nO l o < 0
    . rw [lQ OM OM h3 h4]
    . have v:=qY (p:=inx l o) (n:=(dC l).length) (k:=0) (by unfold nO at h4; omega)
      have e:nO l o=((nO l o).toNat:Int):=OM
      have hg:=h.gr0 hs h3 (k:=(nO l o).toNat) (by unfold nO; omega) v.2.2.1;rw [sS (k:=(nO l o).toNat) OM OM h3 e (by have:=h.n12 hs; unfold oP at this; omega) OM]
end
end
section
open Go
section
variable {m:M} {l:Ts} {o:Ob} {r:Int}
theorem aOS {l l':Ts} (hi:l'.i=l.i) (h1: ∀ u∈eM l.t,u∈eM l'.t) (h2: ∀ k,k < l.t.nd.length-> ∃ k',k' < l'.t.nd.length/\(aA l'.t.nd k').sf=(aA l.t.nd k).sf) {q:List Int} (h:q∈PQ l):q∈PQ l':=by
  obtain ⟨e,he,k,hk,rfl⟩:=aFr.1 h;obtain ⟨p,a,hp,h0,h1',rfl⟩:=aBr he;obtain ⟨k',g1,g2⟩:=h2 k hk;exact aFr.2 ⟨_,aPb (h1 p hp) h0 OM,k',g1,by rw [g2]⟩
theorem LJ.up (h:LJ m l o r) {t':Dt} {p:List Int} {a:Int} {o':Ob} {r':Int} (ho:TO m o') (hv:tvE ⟨l.i,t'⟩=0) (sd:Snd t' m 0) (ap:aJ1 m (eM t')) (hp:p∈eM l.t)
    (hm: ∀ u,u∈eM t'↔u∈eM l.t\/u=p++[a]) (hn:(fT t'.nd).length=oP l+1) (hnd:t'.nd.length<=l.t.nd.length+2) (hsf: ∀ k,k < t'.nd.length->(aA t'.nd k).sf.length<=150)
    (hk: ∀ k,k < l.t.nd.length-> ∃ k',k' < t'.nd.length/\(aA t'.nd k').sf=(aA l.t.nd k).sf) (hr:0<=r'/\r'+1<=oP l+1) (hc:cnt (nPQ l) o'.tr<=200*r'.toNat):LJ m ⟨l.i,t'⟩ o' r':=by
  have e:oP ⟨l.i,t'⟩=oP l+1:=hn;refine ⟨⟨sX ho.ok,h.c.hm,ho.x,hv,h.c.hi,ho.i,sd,ap⟩,λw hw=>?_,λw hw hne=>?_,hsf,?_,?_,?_⟩
  . rw [e]
    rcases (hm w).1 hw with q|q
    . have:=h.al w q; omega
    . have:=h.al p hp; rw [q,List.length_append,List.length_singleton]; omega
  . rcases (hm w).1 hw with q|q
    . obtain ⟨u,b,g1,g2⟩:=h.pre w q hne
      exact ⟨u,b,g1,(hm u).2 (.inl g2)⟩
    . exact ⟨p,a,q,(hm p).2 (.inl hp)⟩
  . have:=h.ndl; rw [e]; show t'.nd.length+1<=_; omega
  . rw [e]; omega
  . refine Nat.le_trans (aGD (λq hq=>?_) o'.tr) hc
    unfold nPQ at hq ⊢;rw [decide_eq_true_eq] at hq ⊢;exact λg=>hq<|aOS (l:=l) (l':=⟨l.i,t'⟩) J (λu hu=>(hm u).2 (.inl hu)) hk g
theorem aE4 {i:Int} {t:Dt} (hi:1<=i/\i<=64) (hv:iB t=0) (hw: ∀ k,k < t.nd.length->cP (aA t.nd k).ac i=0/\cP (aA t.nd k).sf i=0) (he:[]∈eM t) (hn:(fT t.nd).length<=128):tvE ⟨i,t⟩=0:=by
  refine aNf (l:=⟨i,t⟩) (by dsimp only; omega) (λq=>q hv) (λq=>q ?_) (λq=>q<|(qG hv).1 he) (by dsimp only; omega);rw [cW];intro j _ hj;have:=hw j (by simpa using hj);unfold wdE; rw [if_neg (λq=>q this.1)]; exact this.2
theorem tQ {n:Int} (hn:1<=n/\n<=1024):cP [] n=0:=iS hn SI λk hk=>absurd hk SI
theorem LJ.grow (h:LJ m l o r) (hs:m.nx.length<=12) (h3: ¬0 < (mK (Go.Proofs.YtinpihlhcmpkhaaGreat.qra l o)).length) {k:Nat} (hk:k < (dC l).length) (hi:inx l o k=true) (ht:(dJ l o).1=⟨l.i,wN l.t (bF l.t o (aA (dC l) k)).1 (lJ o (aA (dC l) k) (aA l.t.nd (bF l.t o (aA (dC l) k)).1.toNat).sf) (aA (dC l) k)⟩):
    LJ m ⟨l.i,wN l.t (bF l.t o<|aA (dC l) k).1 (lJ o (aA (dC l) k) (aA l.t.nd (bF l.t o<|aA (dC l) k).1.toNat).sf) (aA (dC l) k)⟩ o r:=by
  have hg:=h.gr0 hs h3 hk hi;have hts:=h.c.ts;have hsf:=h.sfE0 hs;have nd:=vJ (l:=l) (o:=o) OM OM h3 hk;have hl:(aA l.t.nd (bF l.t o<|aA (dC l) k).1.toNat).lf=false:=by unfold inx at hi; simpa using hi
  have tr:=oY nd.1<|aCf h3 hk
  have st:=h.c.step<|h.tst0 hs
  rw [ht] at st;obtain ⟨p,a,hp,ha0,ha1,he⟩:=aBr<|bC hk
  have e:=h.exw hs<|bC hk
  have mo:=cY h.c.hm;have i64:=(nG h.c.hl)
  generalize hw:aA (dC l) k=w at*;generalize hn:(bF l.t o w).1=n at*;generalize hou:lJ o w (aA l.t.nd n.toNat).sf=ou at*;have gk:=aEg hg;have nl:=aFz hg;have gn:=aAE hg;have len:(wN l.t n ou w).nd.length=l.t.nd.length+1:=by unfold wN; rw [if_pos hg]; simp
  have hm: ∀ u,u∈eM (wN l.t n ou w)↔u∈eM l.t\/u=p++[a]:=λu=>by
    rw [pH gk.1,gk.2.1,iA,List.mem_append,List.mem_singleton,pH h.c.dv,he]
  have hac: ∀ j,j < (wN l.t n ou w).nd.length->cP (aA (wN l.t n ou w).nd j).ac l.i=0/\cP (aA (wN l.t n ou w).nd j).sf l.i=0/\(aA (wN l.t n ou w).nd j).sf.length<=150:=λj hj=>by
    rw [gn];by_cases q:j < l.t.nd.length
    . have a1:=i64.2.2.2.1 j q
      have a2:=h.sfl j q;rw [if_pos q];split
      . rename_i z; rw [z]; exact ⟨a1.1,a1.2,a2⟩
      . exact ⟨a1.1,a1.2,a2⟩
    . rw [if_neg q,show j - l.t.nd.length=0 by omega,fX]
      exact ⟨by rw [h.c.hi]; exact e.1,tQ OM,by simp [rY]⟩
  refine h.up h.c.to (aE4 ⟨i64.1,i64.2.1⟩ nl.1 (λj hj=>⟨(hac j hj).1,(hac j hj).2.1⟩) ((hm _).2 (.inl ((qG h.c.dv).2 i64.2.2.2.2.1))) ?_) ?_ st.2 hp hm nl.2 OM (λj hj=>(hac j hj).2.2) (λj hj=>⟨j,OM,?_⟩) ⟨h.rr.1,by have:=h.rr; omega⟩ h.ct
  . have:=h.n12 hs; rw [nl.2]; unfold oP at this; omega
  . exact aL9 h.c.dv h.c.hx h.c.sd tr hg (by rw [<- hou]; exact iJ h.c.hx (nd.2.2.2 hl).1)
  . rw [gn,if_pos hj]
    split
    . rename_i z; rw [z]; rfl
    . rfl
theorem LJ.mid (h:LJ m l o r) (hs:m.nx.length<=12) (h4:m.i<=4):(eP m o (dJ l o).2.1).2=0/\LJ m (lnT l o) (lnO m l o) r/\((dJ l o).2.2.1=true->lnO m l o=o):=by
  have hts:=h.c.ts;have hsf:=h.sfE0 hs;unfold lnT lnO;by_cases h3:0 < (mK<|Go.Proofs.YtinpihlhcmpkhaaGreat.qra l o).length
  . rw [oC OM OM h3]
    dsimp only;have hq: ∀ w∈mK (Go.Proofs.YtinpihlhcmpkhaaGreat.qra l o),cP w m.i=0/\w∈PQ l:=λw hw=>h.qra hs (vQ.1 hw).1
    have le:(mK<|Go.Proofs.YtinpihlhcmpkhaaGreat.qra l o).length<=96:=by
      have:=aIE<|Go.Proofs.YtinpihlhcmpkhaaGreat.qra l o
      have:=aJW o h.c.hl;have:=h.exl hs h4;omega
    have:=h.trl hs h4;obtain ⟨t1,t2,t3⟩:=aGk h.c.hm h.c.to (λw hw=>(hq w hw).1) (show o.tr.length+(mK<|Go.Proofs.YtinpihlhcmpkhaaGreat.qra l o).length<=10000 by omega);refine ⟨t1,⟨h.c.with t2,h.al,h.pre,h.sfl,h.ndl,h.rr,?_⟩,λq=>by cases q⟩
    have z:(mK<|Go.Proofs.YtinpihlhcmpkhaaGreat.qra l o).filter (nPQ l)=[]:=by
      rw [List.filter_eq_nil_iff];intro w hw;unfold nPQ;simp [(hq w hw).2]
    have:=t3<|nPQ l
    rw [z,List.length_nil] at this;exact Nat.le_trans this h.ct
  . by_cases h5:nO l o < 0
    . rw [lQ OM OM h3 h5]
      exact ⟨J,h,λ_=>J⟩
    . have v:=qY (p:=inx l o) (n:=(dC l).length) (k:=0) (by unfold nO at h5; omega)
      have e:nO l o=((nO l o).toNat:Int):=OM
      have hk:(nO l o).toNat < (dC l).length:=by unfold nO; omega
      have hi:inx l o (nO l o).toNat=true:=v.2.2.1;have hg:=h.gr0 hs h3 hk hi;have ht:=sS (k:=(nO l o).toNat) OM OM h3 e (by have:=h.n12 hs; unfold oP at this; omega) OM;have q:=h.grow hs h3 hk hi (by rw [ht]);rw [ht];exact ⟨rfl,q,λz=>by cases z⟩
end
end
section
open Go
theorem aOs {m:M} (h1:1<=m.i/\m.i<=64) (h2:0 < m.nx.length/\m.nx.length<=128) (h3:0<=m.s/\m.s < m.nx.length) (h4:m.ot.length=m.nx.length)
    (h5: ∀ s,s < m.nx.length->((aA m.nx s).length:Int)=m.i/\((aA m.ot s).length:Int)=m.i/\ ∀ a:Nat,a < m.i->0<=aA (aA m.nx s) a/\aA (aA m.nx s) a < m.nx.length/\0<=aA (aA m.ot s) a/\aA (aA m.ot s) a<=1048576):bK m=0:=by
  unfold bK;rw [if_neg OM,if_neg OM,if_neg OM,if_neg OM,if_neg OM];refine cW.2 λs _ hs=>?_;obtain ⟨g1,g2,g3⟩:=h5 s OM;unfold wP;rw [if_neg OM];refine cW.2 λa _ ha=>?_;have:=g3 a OM;unfold aB7;rw [if_neg OM]
end
section
open Go
end
section
open Go
end
section
open Go
section
variable {m:M} {l:Ts} {o:Ob} {r:Int}
structure Dn (m:M) (l:Ts) (o:Ob):Prop where
  f: ∀ k,k < (dC l).length->hyA l o k∈eM l.t/\(dP o<|aA (dC l) k).isSome=true/\(bF l.t o<|aA (dC l) k).2=([],0)/\0<=(bF l.t o<|aA (dC l) k).1/\(bF l.t o<|aA (dC l) k).1 < l.t.nd.length/\(aA l.t.nd (bF l.t o<|aA (dC l) k).1.toNat).lf=true
  a: ∀ k,k < (dC l).length-> ∀ p∈eM l.t,p=hyA l o k\/Apt m (aA (dC l) k) p
theorem Cas.dn (h:Cas l o m) (hd:(dJ l o).2.2.1=true):Dn m l o:=by
  obtain ⟨_,_,_,h1,h2,h3,h4,_⟩:=uT hd
  have key: ∀ k,k < (dC l).length->(bF l.t o<|aA (dC l) k).2.2=0/\(bF l.t o<|aA (dC l) k).2.1=[]/\0<=(bF l.t o<|aA (dC l) k).1/\(bF l.t o<|aA (dC l) k).1 < l.t.nd.length/\(aA l.t.nd (bF l.t o<|aA (dC l) k).1.toNat).lf=true:=λk hk=>by
    have nd:=vJ (l:=l) (o:=o) OM OM OM hk;refine ⟨nd.1,aCf OM hk,nd.2.1,nd.2.2.1,?_⟩;have z: ¬0<=fi (inx l o) 0 (dC l).length:=by unfold nO at h4; omega
    rw [nT] at z;by_cases q:inx l o k=true
    . exact (z ⟨k,OM,OM,q⟩).elim
    . unfold inx at q; simpa using q
  refine ⟨λk hk=>?_,λk hk p hp=>?_⟩
  . obtain ⟨a1,a2,a3,a4,a5⟩:=key k hk
    exact ⟨aPI h.dv OM a5,aC5 OM hk,by rw [<- a1,<- a2],a3,a4,a5⟩
  . obtain ⟨a1,a2,a3,a4,a5⟩:=key k hk
    rcases h.sft (oY a1 a2) hp with q|q
    . cases q with
      |leaf g=>exact .inl rfl
      |kid g _ _=>rw [a5] at g; cases g
    . exact .inr q
theorem yY {L:List (List Int)} (hn:L.Nodup) {k:Nat} (hk:k < L.length):plI L (aA L k)=k:=by
  have q:=aG3<|bC hk
  have:=(List.getElem_inj (h₀:=show (plI L<|aA L k).toNat < L.length by omega) (h₁:=hk) hn).1 (by rw [bL,bL]; exact q.2.2);omega
theorem aDS {t : Dt} (he : [] ∈ eM t) : aA (eM t) 0 = [] := by
  obtain ⟨j,hj,e⟩:=dZ he;have hs:=aJH t;by_cases q:j=0
  . rw [<- q]; exact e
  . exfalso
    have:=List.pairwise_iff_getElem.1 hs 0 j OM hj OM;rw [bL,bL,e] at this;unfold fV at this;simp only [List.length_nil] at this;split at this
    . omega
    . split at this
      . omega
      . have z:aA (eM t) 0=[]:=List.length_eq_zero_iff.1 OM
        rw [z,fI.2 J] at this;omega
theorem aD4 {s a:Nat} (hs:s < (eM l.t).length) (ha:a < l.i.toNat):s*l.i.toNat+a < (dC l).length/\aA (dC l) (s*l.i.toNat+a)=aA (eM l.t) s++[(a:Int)]:=by
  have:=aEv hs ha;refine ⟨?_,by rw [this]; simp [bH]⟩;rw [aAe];have:=Nat.mul_le_mul_right l.i.toNat (show s+1<=(eM l.t).length by omega);rw [Nat.add_mul] at this; omega
theorem aI4 {s a:Nat} (hs:s < (eM l.t).length) (ha:a < l.i.toNat):cell (pG l o).nx s a=hyN l o (s*l.i.toNat+a)/\cell (pG l o).ot s a=hyO l o (s*l.i.toNat+a):=by
  unfold cell pG iX;simp only [Int.toNat_natCast];rw [eG hs,eG hs,eG ha,eG ha];exact ⟨J,J⟩
theorem aSC (d:Dn m l o) {s a:Nat} (hs:s < (eM l.t).length) (ha:a < l.i.toNat):0<=hyN l o (s*l.i.toNat+a)/\hyN l o (s*l.i.toNat+a) < (eM l.t).length/\aA (eM l.t) (hyN l o (s*l.i.toNat+a)).toNat=hyA l o (s*l.i.toNat+a):=
  aG3 (d.f _ (aD4 hs ha).1).1
section
variable (h:LJ m l o r) (d:Dn m l o)
include h d
theorem aSx {s a:Nat} (hs:s < (eM l.t).length) (ha:a < l.i.toNat):aV m (eJ m m.s (aA (eM l.t) s)) [(a:Int)]=[hyO l o (s*l.i.toNat+a)]:=by
  have q:=aD4 hs ha;have e:=aLf hs ha;have k:=(d.f _ q.1).2.1;rw [<- aJi h.c.ho (by rw [q.2]; simp) k,e.1,e.2];exact (iJ h.c.hx (by rw [<- e.1,<- e.2,aH4]; exact k)).symm
theorem vM (hs : m.nx.length <= 12) : bK (pG l o) = 0 := by
  have tv:=nG h.c.hl;have hl:(eM l.t).length=oP l:=mP h.c.dv;have h0:0 < (eM l.t).length:=List.length_pos_of_mem<|(qG h.c.dv).2 tv.2.2.2.2.1
  have n12:=h.n12 hs;refine aOs ⟨tv.1,tv.2.1⟩ ?_ ?_ ?_ λs hs'=>?_
  . show 0 < (eI _ _).length/\(eI _ _).length<=128; rw [bS]; omega
  . show (0:Int)<=0/\(0:Int) < ((eI _ _).length:Nat); rw [bS]; omega
  . show (eI _ _).length=(eI _ _).length; rw [bS,bS]
  . have hs2:s < (eM l.t).length:=by have z:s < (eI (iX (hyN l o) l.i.toNat) (eM l.t).length).length:=hs'; rwa [bS] at z
    refine ⟨?_,?_,λa ha=>?_⟩
    . show ((aA (eI (iX (hyN l o) l.i.toNat) (eM l.t).length) s).length:Int)=l.i; rw [eG hs2]; unfold iX; rw [bS]; omega
    . show ((aA (eI (iX (hyO l o) l.i.toNat) (eM l.t).length) s).length:Int)=l.i; rw [eG hs2]; unfold iX; rw [bS]; omega
    . have ha2:a < l.i.toNat:=by have z:(a:Int) < l.i:=ha; omega
      have c:=aI4 (o:=o) hs2 ha2;unfold cell at c;simp only [Int.toNat_natCast] at c;rw [c.1,c.2];have n:=aSC d hs2 ha2;have ou:=aSx h d hs2 ha2;have mo:=cY h.c.hm;have w:=dO<|h.c.inw _<|bC hs2
      have g:=qR h.c.hm _ m.s mo.2.2.2.2.1 mo.2.2.2.2.2.1 w.2
      have rg:=rO h.c.hm [(a:Int)] _ g.1 g.2 (λk hk=>by
        have:k=0:=by simpa using hk
        subst this; rw [fX,<- h.c.hi]; omega) 0 (by rw [gI]; simp)
      rw [ou,fX] at rg;refine ⟨n.1,?_,rg.1,rg.2⟩;show _ < ((eI _ _).length:Int); rw [bS]; exact n.2.1
theorem aBm: ∀ (n:Nat) (w:List Int),w.length=n->w∈eM l.t->eJ (pG l o) 0 w=plI (eM l.t) w
  | 0, w, hw, hm => by
    have e:w=[]:=List.length_eq_zero_iff.1 hw;subst e;have:=yY (rL l.t) (k:=0)<|List.length_pos_of_mem hm
    rw [aDS hm] at this;exact this.symm
  | n + 1, w, hw, hm => by
    obtain ⟨u,a,e,hu⟩:=h.pre w hm (λe=>by rw [e] at hw; cases hw);have hul:u.length=n:=by rw [e,List.length_append,List.length_singleton] at hw; omega
    have ih:=aBm n u hul hu;have pu:=aG3 hu;have wa:=(dO<|h.c.inw w hm).2 u.length (by rw [e]; simp);rw [e,show u.length=u.length+0 from J,iC,fX,<- h.c.hi] at wa;have hr:=aD4 (l:=l) (s:=(plI (eM l.t) u).toNat) (a:=a.toNat) OM OM;have hx:=aI4 (l:=l) (o:=o) (s:=(plI (eM l.t) u).toNat) (a:=a.toNat) OM OM;rw [pu.2.2,Int.toNat_of_nonneg wa.1,<- e] at hr;have ha:=d.a _ hr.1 w hm;rw [hr.2] at ha
    have hA:hyA l o ((plI (eM l.t) u).toNat*l.i.toNat+a.toNat)=w:=by
      rcases ha with q|q
      . exact q.symm
      . exact q.irr.elim
    rw [e,kW,ih];show cell (pG l o).nx (plI (eM l.t) u) a=_;rw [Int.toNat_of_nonneg wa.1,Int.toNat_of_nonneg pu.1] at hx;rw [hx.1,<- e];unfold hyN;rw [hA]
theorem aPq (hs:m.nx.length<=12):gG (gN l o)=0:=by
  have hm:=vM h d hs;have tv:=nG h.c.hl;have he:[]∈eM l.t:=(qG h.c.dv).2 tv.2.2.2.2.1;unfold gG;rw [if_neg (λq=>q hm),if_neg (show ¬(gN l o).acc.length≠(gN l o).m.nx.length from λq=>q (show (eM l.t).length=(eI (iX (hyN l o) l.i.toNat) (eM l.t).length).length by rw [bS])),if_neg,if_neg]
  . show ¬(aA (eM l.t) 0).length≠0
    rw [aDS he]; exact λq=>q J
  . intro q
    apply q;rw [cW];intro j _ hj;have hj2:j < (eM l.t).length:=by simpa [gN] using hj
    unfold mG;rw [if_neg (λq=>q (by show cP (aA (eM l.t) j) l.i=0; rw [h.c.hi]; exact h.c.inw _<|bC hj2)),if_neg];intro q;apply q;show eJ (pG l o) 0 (aA (eM l.t) j)=j;rw [aBm h d _ _ J (bC hj2),yY (rL l.t) hj2]
end
end
end
section
open Go
theorem aQh {a b c:List Int} (h1:hp a b=true) (h2:hp b c=true):hp a c=true:=by
  obtain ⟨x,rfl⟩:=kN.1 h1;obtain ⟨y,rfl⟩:=kN.1 h2;exact kN.2 ⟨y++x,SI⟩
theorem aJF {u:List Int}: ∀ {l:List (List Int)},u∈l->u.length<=(l.map List.length).sum
  | a :: l, h => by
    rw [List.map_cons,List.sum_cons];rcases List.mem_cons.1 h with q|q
    . subst q; omega
    . have:=aJF q; omega
theorem aFX {l : List (List Int)} : ∀ (n : Nat) (w : List Int), w ∈ l -> (l.map List.length).sum - w.length < n -> ∃ u ∈ mK l, hp u w = true
  |0,_,_,h=>absurd h OM
  | n + 1, w, hw, hn => by
    by_cases q:MxP l w
    . exact ⟨w,vQ.2 q,kN.2 ⟨[],SI⟩⟩
    . have: ∃ u∈l,hp u w=true/\u≠w:=by
        apply Classical.byContradiction;intro z;exact q ⟨hw,λu hu hh=>Classical.byContradiction λe=>z ⟨u,hu,hh,e⟩⟩
      obtain ⟨u,hu,hh,e⟩:=this;have hl:=aEJ hh
      have hlt:w.length < u.length:=by
        by_cases z:u.length<=w.length
        . exact (e<|aIt hh OM).elim
        . omega
      have hs:u.length<=(l.map List.length).sum:=aJF hu;obtain ⟨v,hv,hv2⟩:=aFX n u hu OM;exact ⟨v,hv,aQh hv2 hh⟩
theorem aNr {o:Ob} {z v:List Int} (h:(dP o z).isSome=true) (hh:hp z v=true):(dP o v).isSome=true:=by
  rcases oD.1 h with q|⟨u,hu,q⟩
  . subst q
    obtain ⟨x,e⟩:=kN.1 hh
    have:v=[]:=by
      cases v with
      |nil=>rfl
      |cons a l=>cases e
    exact oD.2 (.inl this)
  . exact oD.2 (.inr ⟨u,hu,aQh q hh⟩)
section
variable {m:M} {l:Ts} {o o':Ob} {r:Int}
theorem aDQ (hx : lF m o = true) (hx' : lF m o' = true) (hi : o'.i = o.i) (hk : ∀ x, (dP o x).isSome = true -> (dP o' x).isSome = true) {t : Dt} {w : List Int} {a : Int} :
    ∀ (f n:Nat),gS t o w f n=(a,[],0)->gS t o' w f n=(a,[],0)
  |0,_,h=>h
  | f + 1, n, h => by
    unfold gS at h ⊢;by_cases hl:(aA t.nd n).lf=true
    . rw [if_pos hl] at h ⊢; exact h
    rw [if_neg hl] at h ⊢;rw [hi];by_cases hw:cP (bH [w,(aA t.nd n).sf]) o.i≠0
    . rw [if_pos hw] at h; injection h with _ h; injection h with _ h; exact (hw h).elim
    rw [if_neg hw] at h ⊢;by_cases ha:(dP o<|bH [w,(aA t.nd n).sf]).isSome=true
    . have ha':=hk _ ha
      have e1:=iJ hx ha;have e2:=iJ hx' ha';unfold lJ at e1 e2;rw [e1] at h;rw [e2];simp only [ha,ha',Bool.true_eq_false,if_false,if_true] at h ⊢;split at h
      . rename_i g
        rw [if_pos g];exact aDQ hx hx' hi hk f _ h
      . rename_i g
        rw [if_neg g]; exact h
    . simp only [ha] at h
      simp at h;exact (ha<|oD.2 (.inl h.2)).elim
theorem aGY (hx:lF m o=true) (hx':lF m o'=true) (hi:o'.i=o.i) (hk: ∀ x,(dP o x).isSome=true->(dP o' x).isSome=true) {t:Dt} {w:List Int} {a:Int} (h:bF t o w=(a,[],0)):bF t o' w=(a,[],0):=by
  unfold bF at h ⊢;rw [hi];split at h
  . rename_i q; rw [if_pos q]; exact h
  . rename_i q
    rw [if_neg q];split at h
    . rename_i q2; injection h with _ h; injection h with _ h; exact (q2 h).elim
    . rename_i q2
      rw [if_neg q2]; exact aDQ hx hx' hi hk _ _ h
theorem aCm {h : Hy} {w : List Int} (hq : ∀ i, i < w.length -> (jL h w i).length <= 1024 /\ jL h w i ≠ []) : ∀ (n lo hi : Nat), hi - lo <= n -> lo < hi -> hi <= w.length -> baA h o w lo = true -> baA h o w hi = false -> (dP o (jL h w lo)).isSome = true -> (hi = w.length \/ (dP o (jL h w hi)).isSome = true) ->
    (∃ i,fnA h o w n lo hi=(some i,[],0)/\i < w.length/\baA h o w i=true/\baA h o w (i+1)=false/\(dP o<|jL h w i).isSome=true/\(i+1=w.length\/(dP o<|jL h w<|i+1).isSome=true))\/ ∃ i,i < w.length/\fnA h o w n lo hi=(none,jL h w i,0)
  |0,lo,hi,h1,h2,_,_,_,_,_=>absurd h1 OM
  | n + 1, lo, hi, h1, h2, h3, b1, b2, k1, k2 => by
    by_cases g:1 < hi - lo
    . by_cases ka:(dP o<|jL h w<|(lo+hi) / 2).isSome=true
      . by_cases b:baA h o w ((lo+hi) / 2)=true
        . rw [aEZ g (hq _ OM).1 ka b]
          exact aCm hq n _ _ OM OM h3 b b2 ka k2
        . rw [aCN g (hq _ OM).1 ka (by simpa using b)]
          exact aCm hq n _ _ OM OM OM b1 (by simpa using b) k1 (.inr ka)
      . rw [aJL g (hq _ OM).1 (by simpa using ka)]
        exact .inr ⟨_,OM,J⟩
    . rw [aJn g]
      have e:hi=lo+1:=OM
      subst e;exact .inl ⟨lo,J,OM,b1,b2,k1,k2⟩
end
end
section
open Go
structure Cx1 (m:M) (l:Ts) (o:Ob) (w:List Int):Prop where
  hv:gG (gN l o)=0
  ne:aV (pG l o) 0 w≠aV m m.s w
  wi:cP w m.i=0
  ln:w.length<=144
  ps:0 < w.length
section
variable {m:M} {l:Ts} {o:Ob} {r:Int} {w:List Int}
section
variable (jj:LJ m l o r) (d:Dn m l o) (hs:m.nx.length<=12) (c:Cx1 m l o w)
include jj d hs c
theorem aJT (i:Nat):0<=mU (gN l o) w i/\(mU (gN l o) w i).toNat < (eM l.t).length/\tT (gN l o) w i∈eM l.t/\tT (gN l o) w i=aA (eM l.t) (mU (gN l o) w i).toNat:=by
  have q:=aBB (h:=gN l o) (w:=w) (nL c.hv).1 (by show cP w l.i=0; rw [jj.c.hi]; exact c.wi) i;have e:=(nL c.hv).2.1;have z:(gN l o).acc.length=(eM l.t).length:=J;have h2:(mU (gN l o) w i).toNat < (eM l.t).length:=OM
  exact ⟨q.1,h2,bC h2,J⟩
theorem aPW (i:Nat):cP (w.drop i) m.i=0:=aJ5 (by have:=cY jj.c.hm; omega) c.wi i
theorem aQG (i:Nat):cP (jL (gN l o) w i) m.i=0/\(jL (gN l o) w i).length<=155/\(i < w.length->jL (gN l o) w i≠[]):=by
  have s:=aJT jj d hs c i;have a:=jj.acw s.2.2.1 hs;have hl:=sD (gN l o) w i;have e:jL (gN l o) w i=tT (gN l o) w i++w.drop i:=by simp [jL,bH]
  have:=c.ln;refine ⟨?_,OM,λhi q=>by rw [q] at hl; simp at hl; omega⟩;rw [e];exact aCD jj.c.hm a.1 (aPW jj d hs c i) (by rw [List.length_drop]; omega)
theorem aNO {o1:Ob} (t:TO m o1) {i:Nat} (hk:(dP o1 (jL (gN l o) w i)).isSome=true):baA (gN l o) o1 w i=decide (aV m (eJ m m.s (tT (gN l o) w i)) (w.drop i)≠aV (pG l o) (mU (gN l o) w i) (w.drop i)):=by
  have:=iJ (w:=tT (gN l o) w i) (x:=w.drop i) t.x hk;unfold lJ at this;unfold baA;rw [show ((dP o1<|jL (gN l o) w i).getD []).drop (tT (gN l o) w i).length=aV m (eJ m m.s<|tT (gN l o) w i) (w.drop i) from this]
  rfl
theorem aPZ {i:Nat} (hi:i < w.length):0<=aA w i/\(aA w i).toNat < l.i.toNat:=by
  have:=(dO c.wi).2 i hi;have:=jj.c.hi;omega
theorem aM4 {i:Nat} (hi:i < w.length):cell m.ot (eJ m m.s (tT (gN l o) w i)) (aA w i)=cell (pG l o).ot (mU (gN l o) w i) (aA w i):=by
  have s:=aJT jj d hs c i;have a:=aPZ jj d hs c hi;have q:=aSx jj d s.2.1 a.2;have n:=(aI4 (o:=o) s.2.1 a.2).2;rw [Int.toNat_of_nonneg a.1] at q n;rw [Int.toNat_of_nonneg s.1] at n;rw [s.2.2.2,n];have:aV m (eJ m m.s<|aA (eM l.t) (mU (gN l o) w i).toNat) [aA w i]=[cell m.ot (eJ m m.s<|aA (eM l.t) (mU (gN l o) w i).toNat) (aA w i)]:=J;rw [this] at q;exact (List.cons.inj q).1
theorem aQr {o1:Ob} (t:TO m o1) {i:Nat} (hi:i < w.length) (hk:(dP o1 (jL (gN l o) w i)).isSome=true):snE (gN l o) o1 w i=0:=by
  obtain ⟨x,hx⟩:=Option.isSome_iff_exists.1 hk;have e:=zA t.x hx;have e2:jL (gN l o) w i=tT (gN l o) w i++w.drop i:=by simp [jL,bH]
  unfold snE;rw [if_neg];intro q;apply q;rw [hx,Option.getD_some,e,e2,gP];have hl:=gI m (tT (gN l o) w i) m.s;have:aA (aV m m.s (tT (gN l o) w i)++aV m (eJ m m.s<|tT (gN l o) w i) (w.drop i)) ((aV m m.s<|tT (gN l o) w i).length+0)=aA (aV m (eJ m m.s<|tT (gN l o) w i)<|w.drop i) 0:=iC;rw [hl,Nat.add_zero] at this;rw [this,tX hi];show aA (cell m.ot _ _::_) 0=_;rw [fX,aM4 jj d hs c hi]
  rfl
theorem aSP {o1:Ob} (t:TO m o1) (hk:(dP o1 w).isSome=true):xH (gN l o) o1 w=0:=by
  obtain ⟨x,hx⟩:=Option.isSome_iff_exists.1 hk;have e:=zA t.x hx;refine aQb ?_ (by rw [t.i]; exact c.wi) hk ?_
  . unfold ckA
    rw [if_neg (λq=>q c.hv),if_neg];intro q;apply q;rw [t.i]; exact jj.c.hi.symm
  . rw [hx,Option.getD_some,e]
    exact λq=>c.ne q.symm
theorem aSb {o1 : Ob} (t : TO m o1) (hk : (dP o1 w).isSome = true) :
    (∃ i,fdR (gN l o) o1 w=(some i,[],0)/\i < w.length/\baA (gN l o) o1 w i=true/\baA (gN l o) o1 w (i+1)=false/\(dP o1<|jL (gN l o) w i).isSome=true/\(i+1=w.length\/(dP o1<|jL (gN l o) w<|i+1).isSome=true))\/
    ∃ i,i < w.length/\fdR (gN l o) o1 w=(none,jL (gN l o) w i,0):=by
  have h0:=aF8 (w:=w) c.hv;have a0:tT (gN l o) w 0=[]:=List.length_eq_zero_iff.1<|aBZ c.hv
  have k0:(dP o1<|jL (gN l o) w 0).isSome=true:=by rw [h0]; exact hk
  refine aCm (λi hi=>⟨by have:=(aQG jj d hs c i).2.1; omega,(aQG jj d hs c i).2.2 hi⟩) _ _ _ OM c.ps (Nat.le_refl _) ?_ ?_ k0 (.inl J)
  . rw [aNO jj d hs c t k0,a0,List.drop_zero]
    exact decide_eq_true λq=>c.ne q.symm
  . unfold baA
    have e:jL (gN l o) w w.length=tT (gN l o) w w.length:=by simp [jL,bH]
    rw [e,List.drop_length]
    have:((dP o1<|tT (gN l o) w w.length).getD []).drop (tT (gN l o) w w.length).length=[]:=by
      cases hx:dP o1 (tT (gN l o) w w.length) with
      |none=>simp
      | some x =>
        have:=zA t.x hx;rw [Option.getD_some,this,List.drop_eq_nil_iff,gI]; omega
    rw [this];simp [aV]
theorem aLd: ∀ (n:Nat) (o1:Ob),TO m o1->(dP o1 w).isSome=true->(∀ x,(dP o x).isSome=true->(dP o1 x).isSome=true)->unA (gN l o) o1 w w.length < n->o1.tr.length+n<=10000->
    ∃ o2 i, lcA (gN l o) m w n o1 = (o2, snS (gN l o) o2 w i, 0) /\ TO m o2 /\ (∀ x, (dP o x).isSome = true -> (dP o2 x).isSome = true) /\ (∀ p, cnt p o2.tr <= cnt p o1.tr + n) /\
      i < w.length/\baA (gN l o) o2 w i=true/\baA (gN l o) o2 w (i+1)=false/\(dP o2<|jL (gN l o) w i).isSome=true/\(i+1=w.length\/(dP o2<|jL (gN l o) w<|i+1).isSome=true)
  |0,_,_,_,_,h,_=>absurd h OM
  | n + 1, o1, t, hk, hko, hu, hl => by
    have ag:=aSP jj d hs c t hk;rcases aSb jj d hs c t hk with ⟨i,e,g⟩|⟨i,hi,e⟩
    . obtain ⟨f1,f2,f3⟩:=aGt ag e
      have sn:=aQr jj d hs c t g.1 g.2.2.2.1;refine ⟨o1,i,?_,t,hko,λp=>by omega,g⟩;rw [aFJ (.inr f2),f1,f3,sn]
    . obtain ⟨f1,f2,f3⟩:=aBz ag e
      have q:=aQG jj d hs c i;have hne:mO (gN l o) o1 w≠[]:=by rw [f2]; exact q.2.2 hi
      obtain ⟨j,j1,j2,j3⟩:=aK4 f3 hne;obtain ⟨t1,t2,t3⟩:=aGk jj.c.hm (ws:=[mO (gN l o) o1 w]) t (λz hz=>by rw [List.mem_singleton.1 hz,f2]; exact q.1) (by simp only [List.length_singleton]; omega);have kp: ∀ x,(dP o1 x).isSome=true->(dP (eP m o1 [mO (gN l o) o1 w]).1 x).isSome=true:=λx hx=>lW hx
      have nw:(dP (eP m o1 [mO (gN l o) o1 w]).1 (jL (gN l o) w j)).isSome=true:=by rw [<- j2]; exact zG t1 SI
      have ul:=aCF kp j3 nw j1;have ct:=t3 λ_=>true
      rw [mZ,mZ] at ct;have fl: ∀ p:List Int->Bool,([mO (gN l o) o1 w].filter p).length<=1:=λp=>List.length_filter_le _ _
      have:=fl λ_=>true
      obtain ⟨o2,i2,e2,g1,g2,g3,g4⟩:=aLd n _ t2 (kp _ hk) (λx hx=>kp x<|hko x hx) OM OM;refine ⟨o2,i2,?_,g1,g2,λp=>by have:=g3 p; have:=t3 p; have:=fl p; omega,g4⟩;rw [aLo (λz=>z.elim (λy=>y f3) hne) t1,e2]
end
end
end
section
open Go
structure Sp2 (m:M) (l:Ts) (o:Ob) (p:List Int) (a:Int) (x:List Int):Prop where
  hp:p∈eM l.t
  ha:0<=a/\a < m.i
  xl:0 < x.length/\x.length<=144
  xw:cP x m.i=0
  k: ∃ k,k < (dC l).length/\aA (dC l) k=p++[a]/\aV m (eJ m m.s<|p++[a]) x≠aV m (eJ m m.s<|hyA l o k) x
section
variable {m:M} {l:Ts} {o:Ob} {r:Int} {w:List Int}
theorem aL4 (jj:LJ m l o r) (d:Dn m l o) (hs:m.nx.length<=12) (c:Cx1 m l o w) {o2:Ob} (t:TO m o2) {i:Nat} (hi:i < w.length) (b1:baA (gN l o) o2 w i=true) (b2:baA (gN l o) o2 w (i+1)=false) (k1:(dP o2 (jL (gN l o) w i)).isSome=true)
    (k2:i+1=w.length\/(dP o2<|jL (gN l o) w<|i+1).isSome=true):snS (gN l o) o2 w i=⟨tT (gN l o) w i,aA w i,w.drop (i+1)⟩/\Sp2 m l o (tT (gN l o) w i) (aA w i) (w.drop<|i+1):=by
  have sn:=aQr jj d hs c t hi k1;have s:=aJT jj d hs c i;have a:=aPZ jj d hs c hi;have ar:=(dO c.wi).2 i hi;have rw1:=aD4 (l:=l) s.2.1 a.2;rw [Int.toNat_of_nonneg a.1,<- s.2.2.2] at rw1;have nx:=(aI4 (o:=o) s.2.1 a.2).1;rw [Int.toNat_of_nonneg a.1,Int.toNat_of_nonneg s.1] at nx;have hn:=aSC d s.2.1 a.2;have go:=aMk (h:=gN l o) hi;have st1:mU (gN l o) w (i+1)=hyN l o ((mU (gN l o) w i).toNat*l.i.toNat+(aA w i).toNat):=by rw [go,<- nx]; rfl
  have ac1:tT (gN l o) w (i+1)=hyA l o ((mU (gN l o) w i).toNat*l.i.toNat+(aA w i).toNat):=by
    rw [(aJT jj d hs c<|i+1).2.2.2,st1]; exact hn.2.2
  rw [aNO jj d hs c t k1,decide_eq_true_eq,tX hi] at b1
  have b1':aV m (eJ m m.s<|tT (gN l o) w i++[aA w i]) (w.drop<|i+1)≠aV (pG l o) (mU (gN l o) w<|i+1) (w.drop<|i+1):=by
    intro q;apply b1;show cell m.ot _ _::aV m _ _=cell (pG l o).ot _ _::aV (pG l o) _ _;rw [aM4 jj d hs c hi];rw [kW] at q;have e:cell (pG l o).nx (mU (gN l o) w i) (aA w i)=mU (gN l o) w (i+1):=by rw [st1,nx]
    rw [e];exact congrArg _ q
  have hx:0 < (w.drop<|i+1).length:=by
    apply List.length_pos_iff.2;intro q;rw [q] at b1';exact b1' J
  have hlt:i+1 < w.length:=by rw [List.length_drop] at hx; omega
  have k2':(dP o2<|jL (gN l o) w<|i+1).isSome=true:=k2.elim (λq=>absurd q OM) id;rw [aNO jj d hs c t k2',decide_eq_false_iff_not,Classical.not_not] at b2;refine ⟨by unfold snS; rw [if_neg (λq=>q sn)],s.2.2.1,ar,⟨hx,by rw [List.length_drop]; have:=c.ln; omega⟩,aPW jj d hs c (i+1),_,rw1.1,rw1.2,?_⟩;rw [<- ac1,b2];exact b1'
section
variable (jj:LJ m l o r) (d:Dn m l o) (hs:m.nx.length<=12) {p:List Int} {a:Int} {x:List Int} (S:Sp2 m l o p a x) {o3:Ob} (t:TO m o3) (ko: ∀ x,(dP o x).isSome=true->(dP o3 x).isSome=true)
include jj d hs S t ko
theorem zK: ∃ n,bF l.t o3 (p++[a])=(n,[],0)/\0<=n/\n < l.t.nd.length/\(aA l.t.nd n.toNat).lf=true/\(aA l.t.nd n.toNat).ac∈eM l.t/\aV m (eJ m m.s (p++[a])) x≠aV m (eJ m m.s (aA l.t.nd n.toNat).ac) x/\p++[a]∉eM l.t:=by
  obtain ⟨k,k1,k2,k3⟩:=S.k;have f:=d.f k k1;have e:bF l.t o (aA (dC l) k)=((bF l.t o<|aA (dC l) k).1,[],0):=by rw [<- f.2.2.1]
  rw [k2] at f e;refine ⟨(bF l.t o<|p++[a]).1,aGY jj.c.hx t.x (t.i.trans jj.c.oi.symm) ko e,f.2.2.2.1,f.2.2.2.2.1,f.2.2.2.2.2,?_,?_,λq=>?_⟩
  . have:=f.1; unfold hyA at this; rw [k2] at this; exact this
  . unfold hyA at k3; rw [k2] at k3; exact k3
  . rcases d.a k k1 _ q with z|z
    . rw [<- z] at k3; exact k3 J
    . rw [k2] at z; exact z.irr
theorem aLa {v:List Int} (hv:v∈vX o3 (mM l o3 ⟨p,a,x⟩)):cP v m.i=0:=by
  obtain ⟨n,e,n0,n1,n2,n3,n4,n5⟩:=zK jj d hs S t ko;have hv:=(List.mem_filter.1 hv).1;have e1:gJ ⟨p,a,x⟩=p++[a]:=by simp [gJ,bH]
  have e2:sC l o3 ⟨p,a,x⟩=aA l.t.nd n.toNat:=by unfold sC; rw [e1,e]
  have w1:=jj.acw S.hp hs;have w2:=jj.acw n3 hs;have w3:=aEl jj.c.hm w1.1 OM S.ha.1 S.ha.2;have xl:=S.xl;unfold mM at hv;rw [e1,e2] at hv;rcases List.mem_cons.1 hv with q|q
  . rw [q,show bH [(aA l.t.nd n.toNat).ac,x]=(aA l.t.nd n.toNat).ac++x by simp [bH]]; exact aCD jj.c.hm w2.1 S.xw OM
  . rw [List.mem_singleton.1 q,show bH [p++[a],x]=(p++[a])++x by simp [bH]]
    exact aCD jj.c.hm w3 S.xw (by rw [List.length_append,List.length_singleton]; omega)
theorem aQ2 (hq:0 < (vX o3 (mM l o3 ⟨p,a,x⟩)).length):hJ l o3 ⟨p,a,x⟩=(l,mK (vX o3 (mM l o3 ⟨p,a,x⟩)),0):=by
  obtain ⟨n,e,n0,n1,n2,n3,n4,n5⟩:=zK jj d hs S t ko;have e1:gJ ⟨p,a,x⟩=p++[a]:=by simp [gJ,bH]
  have e2:sC l o3 ⟨p,a,x⟩=aA l.t.nd n.toNat:=by unfold sC; rw [e1,e]
  have w1:=jj.acw S.hp hs;have w2:=jj.acw n3 hs;have xl:=S.xl;have hts:=(jj.c.with t).ts
  have pr:prS ⟨p,a,x⟩ l.i=0:=by
    unfold prS;rw [jj.c.hi,if_neg (λq=>q w1.1),if_neg (show ¬((⟨p,a,x⟩:Spl).a < 0\/m.i<=(⟨p,a,x⟩:Spl).a) by have:=S.ha; dsimp only; omega),if_neg (show ¬x.length=0 by omega)];exact S.xw
  refine aCJ (λq=>q hts) (λq=>q pr) (λq=>q (by rw [e1,e])) (by rw [e1,e]; simp) (by rw [e2,n2]; decide) ?_ hq;rw [e1,e2,List.length_append,List.length_singleton];show ¬(1024 < (aA l.t.nd n.toNat).ac.length+x.length\/1024 < p.length+1+x.length);omega
theorem aIG (hq:vX o3 (mM l o3 ⟨p,a,x⟩)=[]) {r':Int} (hr:0<=r'/\r'+1<=oP l+1) (hc:cnt (nPQ l) o3.tr<=200*r'.toNat):hJ l o3 ⟨p,a,x⟩=(rfT l o3 ⟨p,a,x⟩,[],0)/\LJ m (rfT l o3 ⟨p,a,x⟩) o3 r':=by
  obtain ⟨n,e,n0,n1,n2,n3,n4,n5⟩:=zK jj d hs S t ko;have e1:gJ ⟨p,a,x⟩=p++[a]:=by simp [gJ,bH]
  have e2:sC l o3 ⟨p,a,x⟩=aA l.t.nd n.toNat:=by unfold sC; rw [e1,e]
  have w1:=jj.acw S.hp hs;have w2:=jj.acw n3 hs;have w3:=aEl jj.c.hm w1.1 OM S.ha.1 S.ha.2;have xl:=S.xl;have C3:=jj.c.with t;have hts:=C3.ts;have tv:=nG jj.c.hl;have mo:=cY jj.c.hm;have n12:=jj.n12 hs
  have pr:prS ⟨p,a,x⟩ l.i=0:=by
    unfold prS;rw [jj.c.hi,if_neg (λq=>q w1.1),if_neg (show ¬((⟨p,a,x⟩:Spl).a < 0\/m.i<=(⟨p,a,x⟩:Spl).a) by have:=S.ha; dsimp only; omega),if_neg (show ¬x.length=0 by omega)];exact S.xw
  have kn: ∀ v∈mM l o3 ⟨p,a,x⟩,(dP o3 v).isSome=true:=λv hv=>by
    apply Classical.byContradiction;intro z;have:v∈vX o3 (mM l o3 ⟨p,a,x⟩):=List.mem_filter.2 ⟨hv,by simpa using z⟩;rw [hq] at this; cases this
  unfold mM at kn;rw [e1,e2] at kn;have k1:=iJ t.x<|kn _<|List.mem_cons_self ..
  have k2:=iJ t.x<|kn _<|List.mem_cons_of_mem _<|List.mem_cons_self ..
  have w64: ∀ v:List Int,cP v m.i=0->cP v 64=0:=λv hv=>iS OM (dO hv).1 λj hj=>by have:=(dO hv).2 j hj; omega
  have g1:=qR jj.c.hm _ m.s mo.2.2.2.2.1 mo.2.2.2.2.2.1 (dO w2.1).2;have g2:=qR jj.c.hm _ m.s mo.2.2.2.2.1 mo.2.2.2.2.2.1 (dO w3).2
  have hg:spE l.t n x (lJ o3 (aA l.t.nd n.toNat).ac x) (p++[a]) (lJ o3 (p++[a]) x)=0:=by
    unfold spE yW;rw [if_neg (λq=>q jj.c.dv),if_neg (by unfold noE; rw [if_neg OM,if_neg (by rw [n2]; decide)]; decide),if_neg OM,if_neg (λq=>q<|w64 _ S.xw),if_neg,if_neg,if_neg,if_neg,if_neg]
    . have:=jj.ndl; omega
    . rw [k1,k2]; exact λq=>n4 q.symm
    . intro q; apply q; rw [k2]; exact aCp (gI _ _ _)<|rO jj.c.hm _ _ g2.1 g2.2 (dO S.xw).2
    . unfold fsE
      rw [if_neg (λq=>q<|w64 _ w3),if_neg λq=>n5 ((qG jj.c.dv).2 q)];decide
    . intro q; apply q; rw [k1]; exact aCp (gI _ _ _)<|rO jj.c.hm _ _ g1.1 g1.2 (dO S.xw).2
  have eT:rfT l o3 ⟨p,a,x⟩=⟨l.i,xE l.t n x (lJ o3 (aA l.t.nd n.toNat).ac x) (p++[a]) (lJ o3 (p++[a]) x)⟩:=by unfold rfT; rw [e1,e2,e]
  have eR:hJ l o3 ⟨p,a,x⟩=(rfT l o3 ⟨p,a,x⟩,[],0):=by
    refine wQ (λq=>q hts) (λq=>q pr) (λq=>q (by rw [e1,e])) (by rw [e1,e]; simp) (by rw [e2,n2]; decide) ?_ (by rw [hq]; simp) (by unfold oP at n12; omega) (λq=>q (by unfold rfG; rw [e1,e2,e]; exact hg));rw [e1,e2,List.length_append,List.length_singleton];show ¬(1024 < (aA l.t.nd n.toNat).ac.length+x.length\/1024 < p.length+1+x.length);omega
  refine ⟨eR,?_⟩;have ap:=(C3.split (s:=⟨p,a,x⟩) (by rw [eR])).2;rw [eR] at ap;dsimp only at ap;rw [eT] at ap ⊢;generalize hou:lJ o3 (aA l.t.nd n.toNat).ac x=ou at*;generalize hot:lJ o3 (p++[a]) x=ot at*;have sk:=aBH hg;have nl:=aDc hg;have sn:=xI hg;have len:(xE l.t n x ou (p++[a]) ot).nd.length=l.t.nd.length+2:=by unfold xE; rw [if_pos hg]; simp
  have hm: ∀ u,u∈eM (xE l.t n x ou (p++[a]) ot)↔u∈eM l.t\/u=p++[a]:=λu=>by
    rw [pH sk.1,sk.2.1,iA,List.mem_append,List.mem_singleton,pH jj.c.dv]
  have hnl:=aB0 jj.c.dv (show n.toNat < l.t.nd.length by omega) n2
  have hac: ∀ j,j < (xE l.t n x ou (p++[a]) ot).nd.length->cP (aA (xE l.t n x ou (p++[a]) ot).nd j).ac l.i=0/\cP (aA (xE l.t n x ou (p++[a]) ot).nd j).sf l.i=0/\(aA (xE l.t n x ou (p++[a]) ot).nd j).sf.length<=150:=λj hj=>by
    rw [sn];by_cases q:j < l.t.nd.length
    . rw [if_pos q]
      split
      . exact ⟨tQ OM,by rw [jj.c.hi]; exact S.xw,by show x.length<=150; omega⟩
      . have a1:=tv.2.2.2.1 j q
        exact ⟨a1.1,a1.2,jj.sfl j q⟩
    . rw [if_neg q]
      by_cases q2:j=l.t.nd.length
      . rw [q2,Nat.sub_self,fX]
        have a1:=tv.2.2.2.1 n.toNat OM;exact ⟨a1.1,a1.2,jj.sfl _ OM⟩
      . rw [show j - l.t.nd.length=0+1 by omega,jD,fX]
        exact ⟨by rw [jj.c.hi]; exact w3,tQ OM,by simp [rY]⟩
  refine jj.up t (aE4 ⟨tv.1,tv.2.1⟩ nl.1 (λj hj=>⟨(hac j hj).1,(hac j hj).2.1⟩) ((hm _).2 (.inl ((qG jj.c.dv).2 tv.2.2.2.2.1))) ?_) ?_ ap S.hp hm nl.2 OM (λj hj=>(hac j hj).2.2) (λj hj=>?_) hr hc
  . rw [nl.2]; unfold oP at n12; omega
  . exact aKH jj.c.dv t.x jj.c.sd e hg k1 k2
  . by_cases q:n.toNat=j
    . refine ⟨l.t.nd.length,OM,?_⟩
      rw [sn,if_neg OM,Nat.sub_self,fX,q]
    . exact ⟨j,OM,by rw [sn,if_pos hj,if_neg q]⟩
end
end
end
section
open Go
section
variable {m:M} {l:Ts} {o:Ob} {r:Int} {w:List Int}
theorem aKt (jj : LJ m l o r) (d : Dn m l o) (hs : m.nx.length <= 12) {p : List Int} {a : Int} {x : List Int} (S : Sp2 m l o p a x) {o2 : Ob} (t : TO m o2) (ko : ∀ x, (dP o x).isSome = true -> (dP o2 x).isSome = true) (hl : o2.tr.length <= 9000)
    (hc:cnt (nPQ l) o2.tr<=200*r.toNat+150) (n:Nat):(rfA ⟨p,a,x⟩ m l (n+1+1) o2).2.2=0/\LJ m (rfA ⟨p,a,x⟩ m l (n+1+1) o2).1 (rfA ⟨p,a,x⟩ m l (n+1+1) o2).2.1 (r+1):=by
  have rr:=jj.rr;have e200:200*(r+1).toNat=200*r.toNat+200:=OM
  by_cases q:vX o2 (mM l o2 ⟨p,a,x⟩)=[]
  . obtain ⟨e,j⟩:=aIG jj d hs S t ko q (r':=r+1) OM OM
    rw [uI (.inr (by rw [e])),e];exact ⟨J,j⟩
  . have qp:=List.length_pos_iff.2 q
    have e:=aQ2 jj d hs S t ko qp;have ws:=λv hv=>aLa jj d hs S t ko (v:=v) hv
    have l2:(mK<|vX o2<|mM l o2 ⟨p,a,x⟩).length<=2:=Nat.le_trans (aIE _)<|List.length_filter_le _ _
    obtain ⟨t1,t2,t3⟩:=aGk jj.c.hm t (ws:=mK<|vX o2<|mM l o2 ⟨p,a,x⟩) (λv hv=>ws v (vQ.1 hv).1) OM;have kp: ∀ x,(dP o2 x).isSome=true->(dP (eP m o2<|mK<|vX o2<|mM l o2 ⟨p,a,x⟩).1 x).isSome=true:=λx hx=>lW hx
    have hne:mK (vX o2<|mM l o2 ⟨p,a,x⟩)≠[]:=λz=>q<|rK (by rw [z]; rfl)
    rw [aHK (by rw [e]; exact λz=>z.elim (λy=>y J) hne) (by rw [e]; exact t1),e];dsimp only;generalize ho3:(eP m o2<|mK<|vX o2<|mM l o2 ⟨p,a,x⟩).1=o3 at*;have ko3: ∀ x,(dP o x).isSome=true->(dP o3 x).isSome=true:=λx hx=>by rw [<- ho3]; exact lW<|ko x hx
    have eB:mM l o3 ⟨p,a,x⟩=mM l o2 ⟨p,a,x⟩:=by
      obtain ⟨n2,s2,_⟩:=zK jj d hs S t ko;have s3:=aGY t.x t2.x (t2.i.trans t.i.symm) (λx hx=>by rw [<- ho3]; exact lW hx) s2;have e1:gJ ⟨p,a,x⟩=p++[a]:=by simp [gJ,bH]
      unfold mM sC;rw [e1,s2,s3]
    have q3:vX o3 (mM l o3 ⟨p,a,x⟩)=[]:=by
      rw [eB];unfold vX;rw [List.filter_eq_nil_iff];intro v hv z;have z': ¬(dP o3 v).isSome=true:=by simpa using z
      have v2:v∈vX o2 (mM l o2 ⟨p,a,x⟩):=List.mem_filter.2 ⟨hv,by
        by_cases g:(dP o2 v).isSome=true
        . exact (z' (by rw [<- ho3]; exact lW g)).elim
        . simpa using g⟩
      obtain ⟨u,hu,hh⟩:=aFX _ v v2<|Nat.lt_succ_self _
      exact z'<|aNr (by rw [<- ho3]; exact zG t1 hu) hh
    have fl:((mK<|vX o2<|mM l o2 ⟨p,a,x⟩).filter (nPQ l)).length<=2:=Nat.le_trans (List.length_filter_le _ _) l2;have ct:=t3<|nPQ l
    obtain ⟨e3,j⟩:=aIG jj d hs S t2 ko3 q3 (r':=r+1) OM OM;rw [uI (.inr (by rw [e3])),e3];exact ⟨J,j⟩
theorem aEP (jj:LJ m l o r) (d:Dn m l o) (hs:m.nx.length<=12) (h4:m.i<=4) (c:Cx1 m l o w):(rC m l o (gN l o) w).2.2=0/\LJ m (rC m l o (gN l o) w).1 (rC m l o (gN l o) w).2.1 (r+1):=by
  have tl:=jj.trl hs h4;have ln:=c.ln;obtain ⟨t1,t2,t3⟩:=aGk jj.c.hm jj.c.to (ws:=[w]) (λz hz=>by rw [List.mem_singleton.1 hz]; exact c.wi) (by simp only [List.length_singleton]; omega);have kw:(dP (eP m o [w]).1 w).isSome=true:=zG t1 SI;have fl: ∀ p:List Int->Bool,([w].filter p).length<=1:=λp=>List.length_filter_le _ _
  have ct:=t3 λ_=>true
  rw [mZ,mZ] at ct;have:=fl λ_=>true
  obtain ⟨o2,i,e,u1,u2,u3,u4,u5,u6,u7,u8⟩:=aLd jj d hs c (w.length+1) (eP m o [w]).1 t2 kw (λx hx=>lW hx) (by have:=aHS (h:=gN l o) (o:=(eP m o [w]).1) (w:=w) (n:=w.length); omega) OM;obtain ⟨es,S⟩:=aL4 jj d hs c u1 u4 u5 u6 u7 u8
  have eL:lcR (gN l o) m w o=(o2,⟨tT (gN l o) w i,aA w i,w.drop (i+1)⟩,0):=by
    unfold lcR;rw [if_neg (λq=>q t1),e,es]
  have ct2:=u3 λ_=>true
  rw [mZ,mZ] at ct2;have c1:=t3<|nPQ l
  have c2:=u3<|nPQ l
  have f1:=fl<|nPQ l
  have jc:=jj.ct;rw [aId (by rw [eL]),eL];dsimp only;exact aKt jj d hs S u1 u2 OM OM<|aCt - 2
end
end
section
open Go
structure Fin (m:M) (l:Ts) (o:Ob) (r:Int):Prop where
  j:LJ m l o r
  d:Dn m l o
  v:gG (gN l o)=0
  e: ∀ w,InW m.i w->aV (pG l o) 0 w=aV m m.s w
section
variable {m:M} {l:Ts} {o:Ob} {r:Int}
theorem LJ.lni (h:LJ m l o r) (hs:m.nx.length<=12):LnI m l o:=⟨h.c.dv,by have:=h.n12 hs; omega,h.c.hi,lR h.c.ho,h.c.oi⟩
theorem aPJ (hs : m.nx.length <= 12) (h4 : m.i <= 4) : ∀ (n : Nat) (l : Ts) (o : Ob) (r : Int), LJ m l o r -> lms l o < n -> ∃ l' o' r', lnA m n l o r = (gN l' o', o', r' + 1, 0) /\ Fin m l' o' r' := by
  intro n
  induction n with
  |zero=>intro l o r jj h; exact absurd h (Nat.not_lt_zero _)
  | succ n ih =>
    intro l o r jj hn;have I:=jj.lni hs;have h1: ¬(dJ l o).2.2.2≠0:=λq=>q<|jj.tst0 hs
    obtain ⟨m1,m2,m3⟩:=jj.mid hs h4;have h2: ¬(eP m o (dJ l o).2.1).2≠0:=λq=>q m1
    by_cases h3:(dJ l o).2.2.1=false
    . rw [aHM h1 h2 h3]
      have:=aEF I h1 h2 h3;exact ih _ _ _ m2<|Nat.lt_of_lt_of_le this<|Nat.le_of_lt_succ hn
    . have hd:(dJ l o).2.2.1=true:=by simpa using h3
      obtain ⟨_,_,_,g1,g2,g3,g4,g5⟩:=uT hd;have eT:lnT l o=l:=g5;have eO:lnO m l o=o:=m3 hd;have d:=jj.c.dn hd;have v:=aPq jj d hs;have eE:xM l o=0:=qH OM OM OM OM (λq=>q v);have eH:lnH m l o=gN l o:=by unfold lnH; rw [eT,eO]; exact tB eE
      have hm:=vM jj d hs;have eq:nA (pG l o) m=0:=aLz hm jj.c.hm jj.c.hi;have mo:=cY jj.c.hm;have ho:=cY hm;have tl:=aKq (a:=pG l o) (b:=m) (s0:=0) (t0:=m.s) hm jj.c.hm jj.c.hi ho.2.2.2.2.1 ho.2.2.2.2.2.1 mo.2.2.2.2.1 mo.2.2.2.2.2.1;have n4: ¬xM (lnT l o) (lnO m l o)≠0:=by rw [eT,eO]; exact λq=>q eE
      have n5: ¬nA (lnH m l o).m m≠0:=by rw [eH]; exact λq=>q eq
      have eF:yC (lnH m l o).m m=(dst (pG l o) m 0 m.s).isSome:=by rw [eH]; unfold yC; rw [if_neg (λq=>q eq)]; rfl
      by_cases n6:yC (lnH m l o).m m=false
      . rw [aQl h1 h2 h3 n4 n5 n6,eH,eO]
        refine ⟨l,o,r,J,jj,d,v,λw hw=>?_⟩;rw [eF] at n6;cases hx:dst (pG l o) m 0 m.s with
        |none=>rw [hx] at tl; exact tl w (by show InW l.i w; rw [jj.c.hi]; exact hw)
        |some x=>rw [hx] at n6; cases n6
      . have n6':(dst (pG l o) m 0 m.s).isSome=true:=by rw [<- eF]; simpa using n6
        obtain ⟨w,hw⟩:=Option.isSome_iff_exists.1 n6';rw [hw] at tl;have eW:lnW m l o=w:=by unfold lnW; rw [eH]; show zB (pG l o) m=w; unfold zB; rw [if_neg (λq=>q eq)]; show (dst (pG l o) m 0 m.s).getD []=w; rw [hw]; rfl
        have lh:(pG l o).nx.length<=12:=by
          show (eI (iX (hyN l o) l.i.toNat) (eM l.t).length).length<=12;rw [bS,mP jj.c.dv]; exact jj.n12 hs
        have l144:(pG l o).nx.length*m.nx.length<=12*12:=Nat.mul_le_mul lh hs
        have c:Cx1 m l o w:=⟨v,tl.1,by
          have:=tl.2.1;refine iS OM (by have:=tl.2.2.1; omega) ?_;rw [<- jj.c.hi]; exact this,by have:=tl.2.2.1; omega,tl.2.2.2⟩
        have cs:=aEP jj d hs h4 c;have eC:lnC m l o=rC m l o (gN l o) w:=by unfold lnC; rw [eT,eO,eH,eW]
        rw [<- eC] at cs;have n7: ¬(lnC m l o).2.2≠0:=λq=>q cs.1
        rw [aLt h1 h2 h3 n4 n5 n6 n7];have up:=aBM I h3 n7;exact ih _ _ _ cs.2<|Nat.lt_of_lt_of_le up.2.2<|Nat.le_of_lt_succ hn
theorem aNL (hm:bK m=0):LJ m (pN m.i) ⟨m.i,[]⟩ 0:=by
  have st:=LnI.start (m:=m) (λq=>q hm);have e:=aLB (m:=m) (λq=>q hm);have mo:=cY hm;rw [e] at st ⊢;have hd:iB (⟨[rY []]⟩:Dt)=0:=st.d;have hl: ∀ u,u∈eM (⟨[rY []]⟩:Dt)↔u=[]:=λu=>by rw [qG hd]; simp [fT,rY]
  have hn: ∀ k,k < (⟨[rY []]⟩:Dt).nd.length->aA (⟨[rY []]⟩:Dt).nd k=rY []:=λk hk=>by
    have:k=0:=by simpa using hk
    subst this; rfl
  have n1:oP ⟨m.i,⟨[rY []]⟩⟩=1:=J;refine ⟨⟨sX st.ok,hm,aHm (λt ht=>by cases ht),aE4 ⟨mo.1,mo.2.1⟩ hd (λk hk=>?_) ((hl _).2 rfl) (by simp [fT,rY]),rfl,rfl,λb hb hlf=>?_,λu hu v hv hne=>?_⟩,λw hw=>?_,λw hw hne=>?_,λk hk=>?_,?_,?_,?_⟩
  . rw [hn k hk]
    exact ⟨tQ OM,tQ OM⟩
  . exfalso
    cases hb with
    |refl=>exact Bool.noConfusion (show true=false from hlf)
    |kid g _ _=>exact Bool.noConfusion (show true=false from g)
  . rw [(hl _).1 hu,(hl _).1 hv] at hne; exact (hne J).elim
  . rw [(hl _).1 hw,n1]; decide
  . exact (hne<|(hl _).1 hw).elim
  . rw [hn k hk]; simp [rY]
  . rw [n1]; show 1+1<=2*1; decide
  . rw [n1]; decide
  . simp [cnt]
theorem aPe (hm:bK m=0) (hs:m.nx.length<=12) (h4:m.i<=4): ∃ l o r,dX m=(gN l o,o,r+1,0)/\Fin m l o r:=by
  obtain ⟨l,o,r,e,f⟩:=aPJ hs h4 aB3 _ _ _ (aNL hm)<|aFW _ _
  exact ⟨l,o,r,aBF (λq=>q hm) e,f⟩
end
end
section
open Go
theorem aJj {p q:Nat->Bool}: ∀ (n k:Nat),(∀ j,k<=j->j < k+n->p j=q j)->fi p k n=fi q k n
  |0,_,_=>rfl
  | n + 1, k, h => by
    unfold fi;rw [h k (Nat.le_refl _) OM,aJj n (k+1) λj h1 h2=>h j OM OM]
theorem aMQ {n a:Int} {w:List Int} (h0:0<=a) (h1:a < n) (h:InW n w):InW n (a::w):=λk hk=>by
  cases k with
  |zero=>rw [fX]; exact ⟨h0,h1⟩
  |succ k=>rw [jD]; exact h k (by simpa using hk)
section
variable {a b:M}
def Bs (a b:M) (x y:Int):Prop:= ∀ w,InW b.i w->aV a x w=aV b y w
theorem Bs.step (hi:a.i=b.i) {x y:Int} (h:Bs a b x y) {c:Nat} (hc:c < b.i.toNat):yB a x c=yB b y c/\Bs a b (kI a x c) (kI b y c):=by
  have key: ∀ w,InW b.i w->yB a x c::aV a (kI a x c) w=yB b y c::aV b (kI b y c) w:=λw hw=>by
    have:=h ((c:Int)::w)<|aMQ OM OM hw
    show _=_;rw [<- uY,<- uY,<- aBs,<- aBs];exact this
  exact ⟨(List.cons.inj (key [] λk hk=>absurd hk SI)).1,λw hw=>(List.cons.inj<|key w hw).2⟩
theorem aGf (hm:bK a=0): ∀ (w:List Int) {s t:Int},0<=s/\s < a.nx.length->0<=t/\t < a.nx.length->eqv a s t->InW a.i w->aV a s w=aV a t w
  |[],_,_,_,_,_,_=>rfl
  | c :: w, s, t, hs, ht, h, hw => by
    obtain ⟨c0,c1,hw'⟩:=aCb hw;have e:=aGr hm hs ht h (a:=c.toNat) OM;have n1:=nX hm hs.1 hs.2 (x:=c.toNat) OM;have n2:=nX hm ht.1 ht.2 (x:=c.toNat) OM;have ih:=aGf hm w ⟨n1.1,n1.2.1⟩ ⟨n2.1,n2.2.1⟩ e.2 hw';have ec:(c.toNat:Int)=c:=OM
    rw [<- aBs,<- aBs,ec] at ih;have eo:=e.1;rw [<- uY,<- uY,ec] at eo;show cell a.ot s c::_=cell a.ot t c::_;rw [eo,ih]
theorem aGb: ∀ (k:Nat) {s t:Int},Bs a a s t->eqk a k s t
  |0,_,_,_=>trivial
  |k+1,_,_,h=>λc hc=>⟨(h.step rfl hc).1,aGb k (h.step rfl hc).2⟩
theorem aEi (hm:bK a=0) {s t:Int} (hs:0<=s/\s < a.nx.length) (ht:0<=t/\t < a.nx.length):kG a s=kG a t↔Bs a a s t:=
  (aJk hm hs ht).trans ⟨λh _ hw=>aGf hm _ hs ht h hw,λh=>aGb _ h⟩
structure LS (a b:M) (O O':List Int):Prop where
  l:O.length=O'.length
  p: ∀ k,k < O.length->(0<=aA O k/\aA O k < a.nx.length)/\(0<=aA O' k/\aA O' k < b.nx.length)/\Bs a b (aA O k) (aA O' k)
variable (ha:bK a=0) (hb:bK b=0) (hi:a.i=b.i)
include ha hb hi
theorem aL3 {x y x' y':Int} (hx:0<=x/\x < a.nx.length) (hy:0<=y/\y < b.nx.length) (hx':0<=x'/\x' < a.nx.length) (hy':0<=y'/\y' < b.nx.length) (h:Bs a b x y) (h':Bs a b x' y'):kG a x=kG a x'↔kG b y=kG b y':=by
  rw [aEi ha hx hx',aEi hb hy hy'];exact ⟨λe w hw=>by rw [<- h w hw,<- h' w hw]; exact e w (by rw [hi]; exact hw),λe w hw=>by rw [hi] at hw; rw [h w hw,h' w hw]; exact e w hw⟩
theorem LS.id {O O':List Int} (h:LS a b O O') {t t':Int} (ht:0<=t/\t < a.nx.length) (ht':0<=t'/\t' < b.nx.length) (hB:Bs a b t t'):uL (kG a) O t=uL (kG b) O' t':=by
  unfold uL;rw [h.l];refine aJj _ _ λj _ hj=>?_;have q:=h.p j (by rw [h.l]; omega);rw [decide_eq_decide];exact aL3 ha hb hi q.1 q.2.1 ht ht' q.2.2 hB
theorem LS.st {O O':List Int} (h:LS a b O O') {t t':Int} (ht:0<=t/\t < a.nx.length) (ht':0<=t'/\t' < b.nx.length) (hB:Bs a b t t'):LS a b (pI (kG a) O t) (pI (kG b) O' t'):=by
  unfold pI;rw [LS.id ha hb hi h ht ht' hB];split
  . exact h
  . refine ⟨by rw [List.length_append,List.length_append,h.l]; rfl,λk hk=>?_⟩
    rw [List.length_append,List.length_singleton] at hk;by_cases q:k < O.length
    . rw [dB q,dB (by rw [<- h.l]; exact q)]; exact h.p k q
    . have e:k=O.length+0:=OM
      have e':k=O'.length+0:=by rw [<- h.l]; omega
      have z1:aA (O++[t]) k=t:=by rw [e,iC,fX]
      have z2:aA (O'++[t']) k=t':=by rw [e',iC,fX]
      rw [z1,z2]; exact ⟨ht,ht',hB⟩
theorem LS.fold {x y:Int} (hx:0<=x/\x < a.nx.length) (hy:0<=y/\y < b.nx.length) (hB:Bs a b x y) {O O':List Int} (h:LS a b O O'): ∀ n,n<=b.i.toNat->LS a b ((eI (kI a x) n).foldl (pI (kG a)) O) ((eI (kI b y) n).foldl (pI (kG b)) O')
  |0,_=>h
  | n + 1, hn => by
    rw [fK,fK,List.foldl_append,List.foldl_append];have ih:=LS.fold hx hy hB h n OM;have n1:=nX ha hx.1 hx.2 (x:=n) (by rw [hi]; omega);have n2:=nX hb hy.1 hy.2 (x:=n) OM;exact LS.st ha hb hi ih ⟨n1.1,n1.2.1⟩ ⟨n2.1,n2.2.1⟩ (hB.step hi OM).2
end
theorem aJD {a:M} (h:bK a=0) {s:Int} (hs:0<=s/\s < a.nx.length):aA a.nx s.toNat=eI (kI a s) a.i.toNat:=by
  have r:=(mQ h hs.1 hs.2).1;exact fU (by rw [bS]; exact r) λj hj=>by rw [eG OM]; rfl
section
variable {a b:M} (ha:bK a=0) (hb:bK b=0) (hi:a.i=b.i)
include ha hb hi
theorem LS.bf: ∀ (n i:Nat) {O O':List Int},LS a b O O'->LS a b (bfO a (kG a) n i O) (bfO b (kG b) n i O')
  |0,_,_,_,h=>h
  | n + 1, i, O, O', h => by
    unfold bfO;by_cases q:i < O.length
    . rw [if_pos q,if_pos (by rw [<- h.l]; exact q)]
      have z:=h.p i q;refine LS.bf n (i+1) ?_;unfold rwO;rw [aJD ha z.1,aJD hb z.2.1,hi];exact LS.fold ha hb hi z.1 z.2.1 z.2.2 h _<|Nat.le_refl _
    . rw [if_neg q,if_neg (by rw [<- h.l]; exact q)]; exact h
end
theorem aGN {m:M} {cc:Int->Int} (d:Nat): ∀ (n i:Nat) (O:List Int),(bfO m cc n i O).length<=i+n->bfO m cc (n+d) i O=bfO m cc n i O
  |0,i,O,h=>by rw [Nat.zero_add]; exact aBj (by simpa [bfO] using h)
  | n + 1, i, O, h => by
    rw [show n+1+d=(n+d)+1 by omega];unfold bfO at h ⊢;split
    . rename_i q
      rw [if_pos q] at h;exact aGN d n (i+1) _ OM
    . rfl
theorem aH2 {m:M} (hm:bK m=0):(wJ m).length<=m.nx.length:=by
  rw [aJQ];exact Nat.le_trans (aAy _) (qT hm).len
theorem aIi {m:M} (hm:bK m=0) (d:Nat):bfO m (kG m) (m.nx.length+d) 0 [m.s]=wJ m:=by
  rw [<- vB hm];exact aGN d _ _ _ (by rw [vB hm]; have:=aH2 hm; omega)
theorem aRA {a b:M} (ha:bK a=0) (hb:bK b=0) (hi:a.i=b.i) (h:Bs a b a.s b.s):LS a b (wJ a) (wJ b):=by
  have ma:=cY ha;have mb:=cY hb
  have s:LS a b [a.s] [b.s]:=⟨J,λk hk=>by
    have:k=0:=by simpa using hk
    subst this;exact ⟨⟨ma.2.2.2.2.1,ma.2.2.2.2.2.1⟩,⟨mb.2.2.2.2.1,mb.2.2.2.2.2.1⟩,h⟩⟩
  have:=LS.bf ha hb hi (a.nx.length+b.nx.length) 0 s;rw [aIi ha,Nat.add_comm,aIi hb] at this;exact this
theorem aQ0 {a b:M} (ha:bK a=0) (hb:bK b=0) (hi:a.i=b.i) (h:Bs a b a.s b.s):mnM a=mnM b:=by
  have L:=aRA ha hb hi h;rw [vI ha,vI hb,hi,L.l]
  have key: ∀ x,x < (wJ b).length->rNx a x=rNx b x/\rOt a x=rOt b x:=λx hx=>by
    have q:=L.p x (by rw [L.l]; exact hx);unfold rNx rOt;rw [hi];refine ⟨fU (by rw [bS,bS]) λj hj=>?_,fU (by rw [bS,bS]) λj hj=>?_⟩
    . rw [bS] at hj
      rw [eG hj,eG hj];have n1:=nX ha q.1.1 q.1.2 (x:=j) (by rw [hi]; exact hj);have n2:=nX hb q.2.1.1 q.2.1.2 (x:=j) hj;exact LS.id ha hb hi L ⟨n1.1,n1.2.1⟩ ⟨n2.1,n2.2.1⟩ (q.2.2.step hi hj).2
    . rw [bS] at hj
      rw [eG hj,eG hj];exact (q.2.2.step hi hj).1
  have e1:eI (rNx a) (wJ b).length=eI (rNx b) (wJ b).length:=fU (by rw [bS,bS]) λj hj=>by
    rw [bS] at hj;rw [eG hj,eG hj]; exact (key j hj).1
  have e2:eI (rOt a) (wJ b).length=eI (rOt b) (wJ b).length:=fU (by rw [bS,bS]) λj hj=>by
    rw [bS] at hj;rw [eG hj,eG hj]; exact (key j hj).2
  rw [e1,e2]
end
section
open Go
section
variable {a:M}
theorem aO0 (hm:bK a=0) (hr:(rch a).length=a.nx.length) (hd: ∀ s t:Int,0<=s/\s < a.nx.length->0<=t/\t < a.nx.length->kG a s=kG a t->s=t):mnM a=trm a/\(mnM a).nx.length=a.nx.length:=by
  have rc:=qT hm
  have l1: ∀ k,k < (rch a).length->pD (cRc a) k=k:=λk hk=>by
    obtain ⟨s1,s2,_⟩:=gY (cRc a) k;have e:kG a (aA (rch a)<|pD (cRc a) k)=kG a (aA (rch a) k):=(List.cons.inj (show [kG a (aA (rch a)<|pD (cRc a) k)]=[kG a (aA (rch a) k)] from s2)).1;exact rc.inj OM hk<|hd _ _ (rc.rng _ OM) (rc.rng _ hk) e
  have l2: ∀ k,k<=(rch a).length->nM (cRc a) k=k:=by
    intro k
    induction k with
    |zero=>intro _; rfl
    |succ k ih=>intro hk; unfold nM; rw [ih OM,if_pos (l1 k OM)]
  have l3: ∀ k,k < (rch a).length->rA (cRc a) k=k:=λk hk=>by
    unfold rA; rw [l1 k hk,l2 k OM]
  have l4:FK a (rch a).length=List.range (rch a).length:=by
    unfold FK;rw [List.filter_eq_self];intro k hk;exact decide_eq_true<|l1 k<|List.mem_range.1 hk
  have e1:(FK a (rch a).length).map (aNz a)=eI (tNx a) (rch a).length:=by
    rw [l4];refine List.map_congr_left λk hk=>?_;have hk:=List.mem_range.1 hk;unfold aNz tNx;refine fU (by rw [bS,bS]) λj hj=>?_;rw [bS] at hj;rw [eG hj,eG hj];obtain ⟨_,q2,q3,_⟩:=aOG hm hk hj;rw [l3 _ q2]; omega
  have e2:mnM a=trm a:=by
    rw [zN hm];unfold mnM;rw [e1,l4]; rfl
  exact ⟨e2,by rw [e2,aOn,hr]⟩
end
section
variable {m:M} {l:Ts} {o:Ob} {r:Int}
theorem Fin.at (f:Fin m l o r) (hs:m.nx.length<=12) {u z:List Int} (hu:u∈eM l.t) (hz:InW m.i z):aV (pG l o) (plI (eM l.t) u) z=aV m (eJ m m.s u) z:=by
  have g:=aBm f.j f.d _ u J hu;have wu:=oV<|f.j.c.inw u hu
  have iw:InW m.i (u++z):=λk hk=>by
    by_cases q:k < u.length
    . rw [dB q]; exact wu k q
    . have e:aA (u++z) (u.length+(k - u.length))=aA z (k - u.length):=iC
      rw [show u.length+(k - u.length)=k by omega] at e;rw [e]; exact hz _ (by rw [List.length_append] at hk; omega)
  have e:=f.e (u++z) iw;rw [gP,gP,g] at e;exact (List.append_inj e (by rw [gI,gI])).2
theorem Fin.dist (f:Fin m l o r) (hs:m.nx.length<=12) (s t:Int) (h1:0<=s/\s < (pG l o).nx.length) (h2:0<=t/\t < (pG l o).nx.length) (h:kG (pG l o) s=kG (pG l o) t):s=t:=by
  have hm:=vM f.j f.d hs;have hl:(pG l o).nx.length=(eM l.t).length:=by show (eI _ _).length=_; rw [bS]
  have B:=(aEi hm h1 h2).1 h;have nd:=rL l.t;have e1:=yY nd (k:=s.toNat) OM;have e2:=yY nd (k:=t.toNat) OM;apply Classical.byContradiction;intro hne;have hu:aA (eM l.t) s.toNat≠aA (eM l.t) t.toNat:=λq=>by rw [q,e2] at e1; omega
  obtain ⟨z,z1,z2⟩:=f.j.c.ap _ (bC (show s.toNat < (eM l.t).length by omega)) _ (bC (show t.toNat < (eM l.t).length by omega)) hu;have a1:=f.at hs (bC (show s.toNat < (eM l.t).length by omega)) z1;have a2:=f.at hs (bC (show t.toNat < (eM l.t).length by omega)) z1;rw [e1,show ((s.toNat:Nat):Int)=s by omega] at a1;rw [e2,show ((t.toNat:Nat):Int)=t by omega] at a2;apply z2;rw [<- a1,<- a2];exact B z (by show InW l.i z; rw [f.j.c.hi]; exact z1)
theorem aFP {a:M} (hm:bK a=0): ∀ (w:List Int) {s:Int},s∈rch a->InW a.i w->eJ a s w∈rch a
  |[],_,h,_=>h
  | c :: w, s, h, hw => by
    obtain ⟨c0,c1,hw'⟩:=aCb hw;obtain ⟨k,hk,rfl⟩:=dZ h;have rc:=qT hm;have g:=rc.rng k hk;have rw1:=(mQ hm g.1 g.2).1;exact aFP hm w (rc.clo k hk _<|bC (show c.toNat < (aA a.nx (aA (rch a) k).toNat).length by omega)) hw'
theorem Fin.rch (f:Fin m l o r) (hs:m.nx.length<=12):(rch (pG l o)).length=(pG l o).nx.length:=by
  have hm:=vM f.j f.d hs;have rc:=qT hm;have hl:(pG l o).nx.length=(eM l.t).length:=by show (eI _ _).length=_; rw [bS]
  have h0:(0:Int)∈Go.Proofs.YtinpihlhcmpkhaaGreat.rch (pG l o):=by
    have:=bC rc.pos;rw [rc.first] at this; exact this
  refine Nat.le_antisymm rc.len ?_
  have key:((List.range (pG l o).nx.length).map λk:Nat=>(k:Int)).length<=(Go.Proofs.YtinpihlhcmpkhaaGreat.rch<|pG l o).length:=by
    refine aE8 ?_ λx hx=>?_
    . rw [List.nodup_iff_pairwise_ne,List.pairwise_map]
      have:=List.nodup_range (n:=(pG l o).nx.length);rw [List.nodup_iff_pairwise_ne] at this;exact List.Pairwise.imp (λ{x y} h e=>h OM) this
    . obtain ⟨k,hk,rfl⟩:=List.mem_map.1 hx
      have hk:=List.mem_range.1 hk;have hu:=bC (show k < (eM l.t).length by omega);have g:=aBm f.j f.d _ _ J hu;rw [yY (rL l.t) OM] at g;rw [<- g];exact aFP hm _ h0 (by show InW l.i _; rw [f.j.c.hi]; exact oV<|f.j.c.inw _ hu)
  rw [List.length_map,List.length_range] at key;exact key
theorem Fin.min (f:Fin m l o r) (hs:m.nx.length<=12):(mnM (pG l o)).nx.length=(pG l o).nx.length/\trm (pG l o)=mnM m/\(mnM m).nx.length=(pG l o).nx.length:=by
  have hm:=vM f.j f.d hs;obtain ⟨e,n⟩:=aO0 hm (f.rch hs)<|f.dist hs
  have q:=aQ0 hm f.j.c.hm f.j.c.hi (λw hw=>f.e w hw);exact ⟨n,by rw [<- e,q],by rw [<- q]; exact n⟩
end
end
section
open Go
structure Gd27 (m:M) (a:LnR):Prop where
  e:a.2.2.2=0
  v:gG a.1=0
  o:jE a.2.1=0
  mi:bK a.1.m=0/\(jQ a.1.m).nx.length=a.1.m.nx.length
  ex:bK m=0/\bK a.1.m=0/\a.1.m.nx.length=(jQ m).nx.length/\rB a.1.m=jQ m
  ag:agB a.2.1 m=true
  oi:a.2.1.i=a.1.m.i
  xp:lF a.1.m a.2.1=true
  n1:1<=a.2.2.1
  n2:a.2.2.1<=a.1.m.nx.length
theorem aLj {m:M} (hm:bK m=0) (hs:smB m=true):Gd27 m (dX m):=by
  obtain ⟨⟨s1,_⟩,s2⟩:=of_decide_eq_true hs;obtain ⟨l,o,r,e,f⟩:=aPe hm s1 s2;rw [e];have h1:=vM f.j f.d s1;obtain ⟨q1,q2,q3⟩:=f.min s1;have t:TO m o:=f.j.c.to;have rr:=f.j.rr;have hl:(pG l o).nx.length=oP l:=by show (eI _ _).length=_; rw [bS,mP f.j.c.dv]; rfl
  refine ⟨J,f.v,f.j.c.ho,⟨h1,?_⟩,⟨hm,h1,?_,?_⟩,?_,?_,?_,?_,?_⟩
  . show (jQ<|pG l o).nx.length=_; unfold jQ; rw [if_pos h1]; exact q1
  . show (pG l o).nx.length=_; unfold jQ; rw [if_pos hm]; exact q3.symm
  . show rB (pG l o)=_; unfold rB jQ; rw [if_pos h1,if_pos hm]; exact q2
  . unfold agB; rw [f.j.c.hx,f.j.c.oi]; simp
  . show o.i=l.i; rw [f.j.c.oi,f.j.c.hi]
  . refine aHm λx hx=>?_
    rw [aHn f.j.c.hx x hx];obtain ⟨k,hk,rfl⟩:=dZ hx;have ok:=t.ok;have tr:=(ok.pr k hk).1;exact (f.e _ (by rw [<- f.j.c.oi]; exact tr.sym)).symm
  . show (1:Int)<=r+1; omega
  . show r+1<=((pG l o).nx.length:Int); omega
end
section
open Go Go.Proofs
theorem aKa (m:M):bJ Tryz.prog 4 [(V.agg [(iV m.i),(iV m.s),(aC m.nx),(aC m.ot)])] (V.bool true):=by
 refine' pK [] [] Tryz.func4 ?e λhB=>?_
 case e=>conv=>lhs; cbv
 dsimp only;refine aU<|cJ (i:=1) (n:=0) (m:=4) (cs:=[(iV m.i),(iV m.s),(aC m.nx),(aC m.ot)]) J (cM J) J J J<|aE<|aO<|bB J J J J<|aL (aD2 m) J<|jS J<|aP ?_
 refine bN 3 (λT H=>T 1=(cR 1)/\T 13=(V.bool ((!smB m)||decide (40 < m.nx.length\/40 < m.ot.length\/20 < m.i)))/\H 1=(jV m)/\H 3=iN/\H 4=iN/\True) ?_ ?_
 . 
  by_cases g1:(!smB m)=true
  . 
   refine bQ (gZ g1 J)<|bQ (gZ g1 J)<|bP (gZ g1 J) J ?_
   exact ⟨J,(uK g1),J,J,J,trivial⟩
  . 
   refine aK (hC g1 J)<|bB J J J J<|aK (hC g1 J)<|aL (aGy m) J<|bO (hC g1 J) J ?_
   exact ⟨J,(uG g1),J,J,J,trivial⟩
 intro T H ⟨t1,t13,h1,h3,h4,_⟩;refine aI t13 ?_;refine bN 4 (λT H=>T 1=(cR 1)/\T 18=(V.bool (((!smB m)||decide (40 < m.nx.length\/40 < m.ot.length\/20 < m.i))||decide ((bK m)≠(0:Int))))/\H 1=(jV m)/\H 3=iN/\H 4=iN/\True) ?_ ?_
 . 
  by_cases g2:((!smB m)||decide (40 < m.nx.length\/40 < m.ot.length\/20 < m.i))=true
  . 
   have g2x:=g2
   try simp only [Bool.and_eq_true,Bool.or_eq_true,Bool.not_eq_true',decide_eq_true_eq] at g2x
   refine bQ (gZ g2 J)<|bQ (gZ g2 J)<|bQ (gZ g2 J)<|bP (gZ g2 J) J ?_
   exact ⟨t1,(uK g2),h1,h3,h4,trivial⟩
  . 
   have g2x:=g2
   try simp only [Bool.and_eq_true,Bool.or_eq_true,Bool.not_eq_true',decide_eq_true_eq] at g2x
   refine aK (hC g2 J)<|bB t1 h1 J J<|aK (hC g2 J)<|aL (nB m) J<|aK (hC g2 J)<|cA J J<|bO (hC g2 J) J ?_
   exact ⟨t1,(uG g2),h1,h3,h4,trivial⟩
 intro T H ⟨t1,t18,h1,h3,h4,_⟩;refine cE ?_;refine dW t18 (λc3=>?_) (λc3=>?_)
 . 
  refine aO<|aL jP J<|aE<|aN ?_
  refine aW (aM<|V.bool true)<|eA SI J
 have q0:=c3;simp only [Bool.or_eq_false_iff,Bool.not_eq_false',decide_eq_false_iff_not,Classical.not_not,ne_eq] at q0;have hm:=q0.2;have hi:m.i<=39:=Int.le_trans (of_decide_eq_true q0.1.1).2 DE;have G:=aLj hm q0.1.1;have G1:=G.o;have G2:=G.ex.2.1;have G3:=G.oi;refine aB<|aU<|bB t1 h1 J J<|aL (aHC m hi) J<|aP<|bR J J<|bR J J<|bR J J<|bR J J<|bX (i:=3) (n:=0) (m:=5) J (cM h3) J<|bX (i:=4) (n:=0) (m:=2) J (cM h4) J<|dA J J J J J J J J J<|dA J J J J J J J J J<|aP<|aE ?_
 refine fM ?_;refine eZ (λT H=>T 1=(cR 1)/\T 3=(cR 3)/\T 4=(cR 4)/\T 5=(iV<|(dX m).2.2.1)/\T 44=(V.bool<|decide ((((((dX m).2.2.2)≠(0:Int))\/((gG<|(dX m).1)≠(0:Int)))\/((jE<|(dX m).2.1)≠(0:Int)))\/(¬(bK ((dX m).1.m)=0/\(jQ<|(dX m).1.m).nx.length=((dX m).1.m).nx.length))))/\H 1=(jV m)/\H 3=(bk 1 28 5 [[(iV<|(dX m).1.m.i),(iV<|(dX m).1.m.s),(aC<|(dX m).1.m.nx),(aC<|(dX m).1.m.ot),(aC<|(dX m).1.acc)]])/\H 4=(bk 1 31 2 [[(iV<|(dX m).2.1.i),(V.sl<|List.map cT<|(dX m).2.1.tr)]])/\True) ?_ ?_
 . 
  refine aP<|cA J J<|aP ?_
  refine bN 4 (λT H=>T 1=(cR 1)/\T 3=(cR 3)/\T 4=(cR 4)/\T 5=(iV<|(dX m).2.2.1)/\T 33=(V.bool<|decide ((((dX m).2.2.2)≠(0:Int))\/((gG<|(dX m).1)≠(0:Int))))/\H 1=(jV m)/\H 3=(bk 1 28 5 [[(iV<|(dX m).1.m.i),(iV<|(dX m).1.m.s),(aC<|(dX m).1.m.nx),(aC<|(dX m).1.m.ot),(aC<|(dX m).1.acc)]])/\H 4=(bk 1 31 2 [[(iV<|(dX m).2.1.i),(V.sl<|List.map cT<|(dX m).2.1.tr)]])/\True) ?_ ?_
  . 
   by_cases g4:((dX m).2.2.2)≠(0:Int)
   . 
    refine bQ (bU g4 J)<|bQ (bU g4 J)<|bQ (bU g4 J)<|bP (bU g4 J) J ?_
    exact ⟨t1,J,J,J,(fB g4),h1,J,J,trivial⟩
   . 
    refine aK (bV g4 J)<|bB J J J J<|aK (bV g4 J)<|aL (aEY<|(dX m).1) J<|aK (bV g4 J)<|cA J J<|bO (bV g4 J) J ?_
    exact ⟨t1,J,J,J,(fC g4),h1,J,J,trivial⟩
  intro T H ⟨t1,t3,t4,t5,t33,h1,h3,h4,_⟩;refine aI t33 ?_;refine bN 4 (λT H=>T 1=(cR 1)/\T 3=(cR 3)/\T 4=(cR 4)/\T 5=(iV<|(dX m).2.2.1)/\T 38=(V.bool<|decide (((((dX m).2.2.2)≠(0:Int))\/((gG<|(dX m).1)≠(0:Int)))\/((jE<|(dX m).2.1)≠(0:Int))))/\H 1=(jV m)/\H 3=(bk 1 28 5 [[(iV<|(dX m).1.m.i),(iV<|(dX m).1.m.s),(aC<|(dX m).1.m.nx),(aC<|(dX m).1.m.ot),(aC<|(dX m).1.acc)]])/\H 4=(bk 1 31 2 [[(iV<|(dX m).2.1.i),(V.sl<|List.map cT<|(dX m).2.1.tr)]])/\True) ?_ ?_
  . 
   by_cases g5:(((dX m).2.2.2)≠(0:Int))\/((gG<|(dX m).1)≠(0:Int))
   . 
    refine bQ (bU g5 J)<|bQ (bU g5 J)<|bQ (bU g5 J)<|bP (bU g5 J) J ?_
    exact ⟨t1,t3,t4,t5,(fB g5),h1,h3,h4,trivial⟩
   . 
    refine aK (bV g5 J)<|bB t4 h4 J J<|aK (bV g5 J)<|aL (aHx<|(dX m).2.1) J<|aK (bV g5 J)<|cA J J<|bO (bV g5 J) J ?_
    exact ⟨t1,t3,t4,t5,(fC g5),h1,h3,h4,trivial⟩
  intro T H ⟨t1,t3,t4,t5,t38,h1,h3,h4,_⟩;refine aI t38 ?_;refine bN 5 (λT H=>T 1=(cR 1)/\T 3=(cR 3)/\T 4=(cR 4)/\T 5=(iV<|(dX m).2.2.1)/\T 44=(V.bool<|decide ((((((dX m).2.2.2)≠(0:Int))\/((gG<|(dX m).1)≠(0:Int)))\/((jE<|(dX m).2.1)≠(0:Int)))\/(¬(bK ((dX m).1.m)=0/\(jQ<|(dX m).1.m).nx.length=((dX m).1.m).nx.length))))/\H 1=(jV m)/\H 3=(bk 1 28 5 [[(iV<|(dX m).1.m.i),(iV<|(dX m).1.m.s),(aC<|(dX m).1.m.nx),(aC<|(dX m).1.m.ot),(aC<|(dX m).1.acc)]])/\H 4=(bk 1 31 2 [[(iV<|(dX m).2.1.i),(V.sl<|List.map cT<|(dX m).2.1.tr)]])/\True) ?_ ?_
  . 
   by_cases g6:((((dX m).2.2.2)≠(0:Int))\/((gG<|(dX m).1)≠(0:Int)))\/((jE<|(dX m).2.1)≠(0:Int))
   . 
    refine bQ (bU g6 J)<|bQ (bU g6 J)<|bQ (bU g6 J)<|bQ (bU g6 J)<|bP (bU g6 J) J ?_
    exact ⟨t1,t3,t4,t5,(fB g6),h1,h3,h4,trivial⟩
   . 
    refine aK (bV g6 J)<|cQ t3 h3<|aK (bV g6 J)<|bB J h3 J J<|aK (bV g6 J)<|aL (aEe<|(dX m).1.m) J<|aK (bV g6 J)<|uQ J<|bO (bV g6 J) J ?_
    exact ⟨t1,t3,t4,t5,(fC g6),h1,h3,h4,trivial⟩
  intro T H ⟨t1,t3,t4,t5,t44,h1,h3,h4,_⟩;exact gD ⟨t1,t3,t4,t5,t44,h1,h3,h4,trivial⟩
 intro T H ⟨t1,t3,t4,t5,t44,h1,h3,h4,_⟩;refine aG t44 (λc7=>?_) λc7=>?_
 . exfalso; exact c7.elim (λz=>z.elim (λz=>z.elim (λz=>z G.e) λz=>z G.v) λz=>z G.o) λz=>z G.mi
 refine aB<|aU<|aZ t3 h3 J J<|bB t1 h1 J J<|aL (aHl ((dX m).1.m) m) J<|aP ?_
 refine bN 4 (λT H=>T 3=(cR 3)/\T 4=(cR 4)/\T 5=(iV<|(dX m).2.2.1)/\T 53=(V.bool<|decide (((bK m=0/\bK ((dX m).1.m)=0)/\((dX m).1.m).nx.length=(jQ m).nx.length)/\rB ((dX m).1.m)=jQ m)&&(agB ((dX m).2.1) m))/\H 1=(jV m)/\H 3=(bk 1 28 5 [[(iV<|(dX m).1.m.i),(iV<|(dX m).1.m.s),(aC<|(dX m).1.m.nx),(aC<|(dX m).1.m.ot),(aC<|(dX m).1.acc)]])/\H 4=(bk 1 31 2 [[(iV<|(dX m).2.1.i),(V.sl<|List.map cT<|(dX m).2.1.tr)]])/\True) ?_ ?_
 . 
  by_cases g8:((bK m=0/\bK ((dX m).1.m)=0)/\((dX m).1.m).nx.length=(jQ m).nx.length)/\rB ((dX m).1.m)=jQ m
  . 
   refine aK (bU g8 J)<|bB t4 h4 J J<|aK (bU g8 J)<|bB t1 h1 J J<|aK (bU g8 J)<|aL (aHA ((dX m).2.1) m OM OM) J<|bP (bU g8 J) J ?_
   exact ⟨t3,t4,t5,(aFq g8),h1,h3,h4,trivial⟩
  . 
   refine bQ (bV g8 J)<|bQ (bV g8 J)<|bQ (bV g8 J)<|bO (bV g8 J) J ?_
   exact ⟨t3,t4,t5,(aEM g8),h1,h3,h4,trivial⟩
 intro T H ⟨t3,t4,t5,t53,h1,h3,h4,_⟩;refine aI t53 ?_;refine bN 5 (λT H=>T 3=(cR 3)/\T 5=(iV<|(dX m).2.2.1)/\T 59=(V.bool<|(decide (((bK m=0/\bK ((dX m).1.m)=0)/\((dX m).1.m).nx.length=(jQ m).nx.length)/\rB ((dX m).1.m)=jQ m)&&(agB ((dX m).2.1) m))&&(lF ((dX m).1.m)<|(dX m).2.1))/\H 1=(jV m)/\H 3=(bk 1 28 5 [[(iV<|(dX m).1.m.i),(iV<|(dX m).1.m.s),(aC<|(dX m).1.m.nx),(aC<|(dX m).1.m.ot),(aC<|(dX m).1.acc)]])/\H 4=(bk 1 31 2 [[(iV<|(dX m).2.1.i),(V.sl<|List.map cT<|(dX m).2.1.tr)]])/\True) ?_ ?_
 . 
  by_cases g9:(decide (((bK m=0/\bK ((dX m).1.m)=0)/\((dX m).1.m).nx.length=(jQ m).nx.length)/\rB ((dX m).1.m)=jQ m)&&(agB ((dX m).2.1) m))=true
  . 
   have g9x:=g9
   try simp only [Bool.and_eq_true,Bool.or_eq_true,Bool.not_eq_true',decide_eq_true_eq] at g9x
   refine aK (gZ g9 J)<|cQ t3 h3<|aK (gZ g9 J)<|bB J h3 J J<|aK (gZ g9 J)<|bB t4 h4 J J<|aK (gZ g9 J)<|aL (aDV ((dX m).1.m) ((dX m).2.1) OM OM OM) J<|bP (gZ g9 J) J ?_
   exact ⟨t3,t5,(aMN g9),h1,h3,h4,trivial⟩
  . 
   have g9x:=g9
   try simp only [Bool.and_eq_true,Bool.or_eq_true,Bool.not_eq_true',decide_eq_true_eq] at g9x
   refine bQ (hC g9 J)<|bQ (hC g9 J)<|bQ (hC g9 J)<|bQ (hC g9 J)<|bO (hC g9 J) J ?_
   exact ⟨t3,t5,(aLM g9),h1,h3,h4,trivial⟩
 intro T H ⟨t3,t5,t59,h1,h3,h4,_⟩;refine aI t59 ?_;refine bN 3 (λT H=>T 3=(cR 3)/\T 5=(iV<|(dX m).2.2.1)/\T 63=(V.bool<|((decide (((bK m=0/\bK ((dX m).1.m)=0)/\((dX m).1.m).nx.length=(jQ m).nx.length)/\rB ((dX m).1.m)=jQ m)&&(agB ((dX m).2.1) m))&&(lF ((dX m).1.m)<|(dX m).2.1))&&decide ((1:Int)<=((dX m).2.2.1)))/\H 1=(jV m)/\H 3=(bk 1 28 5 [[(iV<|(dX m).1.m.i),(iV<|(dX m).1.m.s),(aC<|(dX m).1.m.nx),(aC<|(dX m).1.m.ot),(aC<|(dX m).1.acc)]])/\H 4=(bk 1 31 2 [[(iV<|(dX m).2.1.i),(V.sl<|List.map cT<|(dX m).2.1.tr)]])/\True) ?_ ?_
 . 
  by_cases g10:((decide (((bK m=0/\bK ((dX m).1.m)=0)/\((dX m).1.m).nx.length=(jQ m).nx.length)/\rB ((dX m).1.m)=jQ m)&&(agB ((dX m).2.1) m))&&(lF ((dX m).1.m)<|(dX m).2.1))=true
  . 
   have g10x:=g10
   try simp only [Bool.and_eq_true,Bool.or_eq_true,Bool.not_eq_true',decide_eq_true_eq] at g10x
   refine aK (gZ g10 J)<|aI t5<|aK (gZ g10 J)<|jB J J<|bP (gZ g10 J) J ?_
   exact ⟨t3,t5,(aMN g10),h1,h3,h4,trivial⟩
  . 
   have g10x:=g10
   try simp only [Bool.and_eq_true,Bool.or_eq_true,Bool.not_eq_true',decide_eq_true_eq] at g10x
   refine bQ (hC g10 J)<|bQ (hC g10 J)<|bO (hC g10 J) J ?_
   exact ⟨t3,t5,(aLM g10),h1,h3,h4,trivial⟩
 intro T H ⟨t3,t5,t63,h1,h3,h4,_⟩;refine aI t63 ?_;refine bN 7 (λT H=>T 71=(V.bool<|(((decide (((bK m=0/\bK ((dX m).1.m)=0)/\((dX m).1.m).nx.length=(jQ m).nx.length)/\rB ((dX m).1.m)=jQ m)&&(agB ((dX m).2.1) m))&&(lF ((dX m).1.m)<|(dX m).2.1))&&decide ((1:Int)<=((dX m).2.2.1)))&&decide (((dX m).2.2.1)<=((((dX m).1.m.nx).length:Nat):Int)))/\H 1=(jV m)/\H 3=(bk 1 28 5 [[(iV<|(dX m).1.m.i),(iV<|(dX m).1.m.s),(aC<|(dX m).1.m.nx),(aC<|(dX m).1.m.ot),(aC<|(dX m).1.acc)]])/\H 4=(bk 1 31 2 [[(iV<|(dX m).2.1.i),(V.sl<|List.map cT<|(dX m).2.1.tr)]])/\True) ?_ ?_
 . 
  by_cases g11:(((decide (((bK m=0/\bK ((dX m).1.m)=0)/\((dX m).1.m).nx.length=(jQ m).nx.length)/\rB ((dX m).1.m)=jQ m)&&(agB ((dX m).2.1) m))&&(lF ((dX m).1.m)<|(dX m).2.1))&&decide ((1:Int)<=((dX m).2.2.1)))=true
  . 
   have g11x:=g11
   try simp only [Bool.and_eq_true,Bool.or_eq_true,Bool.not_eq_true',decide_eq_true_eq] at g11x
   refine aK (gZ g11 J)<|aI t5<|aK (gZ g11 J)<|cQ t3 h3<|aK (gZ g11 J)<|cQ J h3<|aK (gZ g11 J)<|bB J h3 J J<|aK (gZ g11 J)<|bA J<|aK (gZ g11 J)<|aC4 J J<|bP (gZ g11 J) J ?_
   exact ⟨(aMN g11),h1,h3,h4,trivial⟩
  . 
   have g11x:=g11
   try simp only [Bool.and_eq_true,Bool.or_eq_true,Bool.not_eq_true',decide_eq_true_eq] at g11x
   refine bQ (hC g11 J)<|bQ (hC g11 J)<|bQ (hC g11 J)<|bQ (hC g11 J)<|bQ (hC g11 J)<|bQ (hC g11 J)<|bO (hC g11 J) J ?_
   exact ⟨(aLM g11),h1,h3,h4,trivial⟩
 intro T H ⟨t71,h1,h3,h4,_⟩;refine aI t71 ?_;refine bN 2 (λT H=>T 74=(V.bool (((((decide (((bK m=0/\bK ((dX m).1.m)=0)/\((dX m).1.m).nx.length=(jQ m).nx.length)/\rB ((dX m).1.m)=jQ m)&&(agB ((dX m).2.1) m))&&(lF ((dX m).1.m)<|(dX m).2.1))&&decide ((1:Int)<=((dX m).2.2.1)))&&decide (((dX m).2.2.1)<=((((dX m).1.m.nx).length:Nat):Int)))||false))/\H 1=(jV m)/\H 3=(bk 1 28 5 [[(iV<|(dX m).1.m.i),(iV<|(dX m).1.m.s),(aC<|(dX m).1.m.nx),(aC<|(dX m).1.m.ot),(aC<|(dX m).1.acc)]])/\H 4=(bk 1 31 2 [[(iV<|(dX m).2.1.i),(V.sl<|List.map cT<|(dX m).2.1.tr)]])/\True) ?_ ?_
 . 
  by_cases g12:((((decide (((bK m=0/\bK ((dX m).1.m)=0)/\((dX m).1.m).nx.length=(jQ m).nx.length)/\rB ((dX m).1.m)=jQ m)&&(agB ((dX m).2.1) m))&&(lF ((dX m).1.m)<|(dX m).2.1))&&decide ((1:Int)<=((dX m).2.2.1)))&&decide (((dX m).2.2.1)<=((((dX m).1.m.nx).length:Nat):Int)))=true
  . 
   have g12x:=g12
   try simp only [Bool.and_eq_true,Bool.or_eq_true,Bool.not_eq_true',decide_eq_true_eq] at g12x
   refine aK (gZ g12 J)<|aL jP J<|bP (gZ g12 J) J ?_
   exact ⟨(uK g12),h1,h3,h4,trivial⟩
  . 
   have g12x:=g12
   try simp only [Bool.and_eq_true,Bool.or_eq_true,Bool.not_eq_true',decide_eq_true_eq] at g12x
   refine bQ (hC g12 J)<|bO (hC g12 J) J ?_
   exact ⟨(uG g12),h1,h3,h4,trivial⟩
 intro T H ⟨t74,h1,h3,h4,_⟩;refine aI t74<|R_q ?_
 refine aW (aM<|V.bool (((((decide (((bK m=0/\bK ((dX m).1.m)=0)/\((dX m).1.m).nx.length=(jQ m).nx.length)/\rB ((dX m).1.m)=jQ m)&&(agB ((dX m).2.1) m))&&(lF ((dX m).1.m)<|(dX m).2.1))&&decide ((1:Int)<=((dX m).2.2.1)))&&decide (((dX m).2.2.1)<=((((dX m).1.m.nx).length:Nat):Int)))||false))<|cK ?_
 . first|rfl|simp only [G.ag,G.xp,decide_eq_true G.n1,decide_eq_true G.n2,decide_eq_true (And.intro (And.intro (And.intro G.ex.1 G.ex.2.1) G.ex.2.2.1) G.ex.2.2.2),Bool.and_self,Bool.or_false]
end
section
open Go Go.Proofs Go.Proofs.YtinpihlhcmpkhaaGreat Go.ChangeShapes Go.WideShapes Go.ChangeAt Go.RowKit
structure UT (P:Program):Prop where
  u3:P.underlying 3=some (.int .i64)
  u22:P.underlying 22=some (.slice 54)
  u54:P.underlying 54=some (.slice 3)
  u24: ∃ f0 f1 f2 f3:Field,P.underlying 24=some (.struct #[f0,f1,f2,f3])/\f0.type=3/\f1.type=3/\f2.type=22/\f3.type=22
theorem sh3 {P:Program} (U:UT P) (n:Nat) (vs:List V) (h:Shp P (n+1) 3 vs): ∃ a:Int,vs=cI a:=aOd U.u3 h
theorem aS0 {P:Program} (U:UT P) (n:Nat) (vs:List V) (h:Shp P (n+2) 54 vs): ∃ a:List Int,vs=cL a:=aDv (f:=cI) U.u54 (λvs h=>sh3 U n vs h) h
theorem aRQ {P:Program} (U:UT P) (n:Nat) (vs:List V) (h:Shp P (n+3) 22 vs): ∃ a:List (List Int),vs=(λl=>[V.sl (List.map cL l)]) a:=aDv (f:=cL) U.u22 (λvs h=>aS0 U n vs h) h
theorem aSZ {P:Program} (U:UT P) (n:Nat) (vs:List V) (h:Shp P (n+4) 24 vs): ∃ a:M,vs=mC a:=by
  obtain ⟨f0,f1,f2,f3,hu,k0,k1,k2,k3⟩:=U.u24;have h0:=aMU hu h;obtain ⟨x0,u0,e0,h1⟩:=vU (c:=cI) (λvs h=>sh3 U (n+2) vs (by rw [k0] at h; exact h)) h0;obtain ⟨x1,u1,e1,h2⟩:=vU (c:=cI) (λvs h=>sh3 U (n+2) vs (by rw [k1] at h; exact h)) h1;obtain ⟨x2,u2,e2,h3⟩:=vU (c:=(λl=>[V.sl (List.map cL l)])) (λvs h=>aRQ U (n+0) vs (by rw [k2] at h; exact h)) h2;obtain ⟨x3,u3,e3,h4⟩:=vU (c:=(λl=>[V.sl (List.map cL l)])) (λvs h=>aRQ U (n+0) vs (by rw [k3] at h; exact h)) h3;have e4:=aLZ h4;exact ⟨⟨x0,x1,x2,x3⟩,by rw [e0,e1,e2,e3,e4]; rfl⟩
theorem ut:UT Tryz.prog:=⟨by kernel_rfl,by kernel_rfl,by kernel_rfl,⟨_,_,_,_,Tryz.underlying24,J,J,J,J⟩⟩
theorem aSv {P:Program} (U:UT P) {us:List V} (h:aHq P 5 [24] us): ∃ (d0:M),us=[V.agg (mC d0)]:=by
  obtain ⟨a0,b0,e0,h0,h⟩:=aJ9 h;obtain ⟨d0,g0⟩:=aSZ U 1 a0 h0;have q0:aA1 P 24 a0=V.agg (mC d0):=by obtain ⟨_,_,_,_,hu,_⟩:=U.u24; rw [g0]; exact aFA hu _
  have e1:=aLR h;exact ⟨d0,by rw [e0,q0,e1]⟩
theorem aST:ownKnob Tryz.prog.godebug=none:=by kernel_rfl
set_option maxRecDepth 100000 in
theorem aPk (os:Os) (started:os.Started) (H:Type) (enc:TypeId×Value->H):
    ReturnsInHanded {} Tryz.checked os 4 .any (Rows.treelearnLearnsSpec.pre6 enc Tryz.prog Tryz.f4 Rows.treelearnLearnsRow.domain false) (Rows.treelearnLearnsSpec.post enc Tryz.prog Tryz.f4 false true false false):=by
  refine returnsInHanded_of_change (C:=Tryz.checked) aST started (by kernel_rfl) Tryz.func4
    (ChangeSpec.witness6 (enc:=enc) (C:=Tryz.checked) false ⟨#[],#[.agg #[.int .i64 0,.int .i64 0,.slice none 0 0,.slice none 0 0]],[]⟩ 8 (by kernel_rfl) (by kernel_rfl) (by kernel_rfl) (by kernel_rfl)) ?_
  intro W base args ds gs before hval0 hW hcnd _;refine aNy (n:=5) (tb:=4) (by kernel_rfl) (by kernel_rfl) (by kernel_rfl) (λt ht=>?_) J ?_ (λus hu=>?_) hval0 hW
  . have h:t∈[24]:=ht
    simp only [List.mem_cons,List.not_mem_nil,or_false] at h;rcases h with rfl
    . exact ⟨by kernel_rfl,by kernel_rfl,of_decide_eq_true (by kernel_rfl)⟩
  . obtain ⟨p,q,hA,hV,rfl,hfz,hnd⟩:=hW
    obtain ⟨rfl,rfl⟩:=trodVars_none hV
    change DataW.TrodAll enc Tryz.prog W 0 (λ_=>true) true [24] args.toList ds p at hA
    obtain ⟨v0,vs0,y0,ds0,pa0,pb0,hv0,rfl,rfl,_,hA⟩:=trodAll_cons hA;obtain ⟨_,rfl,rfl⟩:=trodAll_nil hA
    rfl
  . obtain ⟨d0,rfl⟩:=aSv ut hu
    exact aKa d0
theorem proved4:Rows.TreelearnLearnsSaid:=
  OpenClaim.holds_of_wide 4 Tryz.f4 J J J J J J J ⟨J,J,J,J,J⟩ J J J J J (by kernel_rfl) Tryz.func4 (by kernel_rfl)
    (of_decide_eq_true (by kernel_rfl)) (by unfold Func.isWrapper; first|(rw [if_pos (by decide+kernel)]; kernel_rfl)|(rw [if_neg (by decide+kernel)]; exact ⟨J,J⟩))
    (λos started H enc _=>aPk os started H enc)
end
end Go.Proofs.YtinpihlhcmpkhaaGreat
