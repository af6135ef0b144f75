/- The layer: abstract values for memory and their soundness; no condition. -/
import Derived.IntWalk
import Derived.ChangeArms
import Derived.DataElems
import Derived.DataReads
import Derived.OpenShut
import Derived.ProofKit
import Derived.WalkKit
import Derived.Carry
import Derived.Test.YtinpihlhcmpkhaaGreatLay2
set_option linter.unusedSimpArgs false
set_option linter.unusedVariables false
namespace Go.Proofs.YtinpihlhcmpkhaaGreat
open Go
section
variable {P:Program} {k0:Nat}
def SO.pt (s:SO):Option (Nat×Nat):=if s.x.lz=true then s.d.map λd=>(d,0) else s.x.pt
def SO.mv (s:SO):Bool:=s.x.cls==.E||s.x.lz
structure PRX (b:Array Nat) (ps:List Ap4) (q r:Nat×SO):Prop where
  back:gX b q.1 r.1=false
  ne:q.1≠r.1
  dst: ∀ d,q.2.d=some d->r.2.d≠some d
  rd: ∀ d,q.2.d=some d->d∈r.2.x.ts->gX b r.1 q.1=true
  wr: ∀ d,r.2.d=some d->d∈q.2.x.ts->gX b r.1 q.1=true
  keep: ∀ d,r.2.d=some d->d∉q.2.x.ar
  cf:gX b r.1 q.1=false-> ∀ p n p' m,q.2.pt=some (p,n)->r.2.pt=some (p',m)->(q.2.mv=true\/r.2.mv=true)->(p,n,p',m)∈ps
def aNC (b : Array Nat) (ps : List Ap4) (q r : Nat × SO) : Bool :=
  let anc:=gX b r.1 q.1
  !(gX b q.1 r.1)&&q.1 != r.1&&
  (match q.2.d with
    |some d=>r.2.d != some d&&(anc|| !r.2.x.ts.contains d)
    |none=>true)&&
  (match r.2.d with
    |some d=>(anc|| !q.2.x.ts.contains d)&& !q.2.x.ar.contains d
    |none=>true)&&
  (anc||match q.2.pt,r.2.pt with
    |some p,some p'=> !(q.2.mv||r.2.mv)||ps.contains (p.1,p.2,p'.1,p'.2)
    |_,_=>true)
theorem aIL {b:Array Nat} {ps:List Ap4} {q r:Nat×SO} (h:aNC b ps q r=true):PRX b ps q r:=by
  unfold aNC at h;simp only [Bool.and_eq_true,Bool.not_eq_true',bne_iff_ne,ne_eq] at h;obtain ⟨⟨⟨⟨h1,h2⟩,h3⟩,h4⟩,h5⟩:=h;refine ⟨h1,h2,λd hd=>?_,λd hd hr=>?_,λd hd hr=>?_,λd hd hr=>?_,λha p n p' m hp hp' hE=>?_⟩
  . rw [hd] at h3; simp only [Bool.and_eq_true,bne_iff_ne,ne_eq] at h3; exact h3.1
  . rw [hd] at h3
    simp only [Bool.and_eq_true,Bool.or_eq_true,Bool.not_eq_true',List.contains_eq_mem,decide_eq_false_iff_not] at h3;exact h3.2.resolve_right λh=>h hr
  . rw [hd] at h4
    simp only [Bool.and_eq_true,Bool.or_eq_true,Bool.not_eq_true',List.contains_eq_mem,decide_eq_false_iff_not] at h4;exact h4.1.resolve_right λh=>h hr
  . rw [hd] at h4
    simp only [Bool.and_eq_true,Bool.or_eq_true,Bool.not_eq_true',List.contains_eq_mem,decide_eq_false_iff_not] at h4;exact h4.2 hr
  . rw [ha,hp,hp'] at h5
    simp only [Bool.false_or,Bool.or_eq_true,Bool.not_eq_true',Bool.or_eq_false_iff,List.contains_eq_mem,decide_eq_true_eq] at h5;rcases h5 with h5|h5
    . rcases hE with e|e
      . rw [e] at h5; cases h5.1
      . rw [e] at h5; cases h5.2
    . exact h5
def seB (s:SO):Bool:=s.g.isNone&&s.x.lc&&(match s.d with
  |some d=> !s.x.ar.contains d
  |none=> !s.x.lz)
theorem aN7 {x:X} {t:Nat} (h:t∈x.ar):t∈x.ts:=by
  cases x <;> simp only [X.ar] at h <;> first|(cases h; done)|skip
  case load g n a=>cases a <;> simp_all [X.ts,SX.ts]
  case store n a b=>cases a <;> simp_all [X.ts,SX.ts]
  case append ty esz bytes s a=>cases s <;> cases a <;> simp_all [X.ts,SX.ts]
  case idx n a i=>cases a <;> simp_all [X.ts,SX.ts]
  case len a=>cases a <;> simp_all [X.ts,SX.ts]
theorem aF1 {x:X} (h:x.lc=true):x.cls≠.N:=by
  cases x <;> first|(intro e; cases e; done)|skip
  all_goals first|(simp [X.lc,X.lc0,X.slt,X.lz,X.free,X.pt,X.cls] at h; done)|(intro e; simp only [X.cls] at e; split at e <;> cases e)|(rename_i e _ _; cases e <;> cases h)
theorem aKK {D : Prop} : ∀ {l : List SO} {T : Nat -> V} {H : bC} {K : (Nat -> V) -> bC -> Prop}, (∀ s ∈ l, seB s = true) -> l.Pairwise (λq r => ∀ d, q.d = some d -> r.d ≠ some d) -> dL P k0 l T H K ->
    (∀ T' H',K T' H'->(∀ t,(∀ s∈l,s.d≠some t)->T' t=T t)->(∀ s∈l,s.x.lz=true-> ∀ d,s.d=some d-> ∃ v,T' d=.ms (k0+d) v 0 0)->D)->D
  |[],T,H,K,_,_,h,hD=>hD T H h (λ_ _=>rfl) (λs hs=>by cases hs)
  | s :: l, T, H, K, hs, hp, h, hD => by
    have h0:=hs s<|List.mem_cons_self ..
    rw [List.pairwise_cons] at hp;unfold seB at h0;simp only [Bool.and_eq_true,Option.isNone_iff_eq_none] at h0;simp only [dL,h0.1.1] at h;obtain ⟨v,H1,h1,st⟩:=aBq (aF1 h0.1.2) h;refine aKK (λq hq=>hs q<|List.mem_cons_of_mem _ hq) hp.2 h1 λT' H' hk ha hz=>hD T' H' hk (λt ht=>?_) λq hq hl d hd=>?_
    . rw [ha t λq hq=>ht q (List.mem_cons_of_mem _ hq)]
      cases hd:s.d with
      |none=>rfl
      |some d=>exact cD _ _ λe=>ht s (List.mem_cons_self ..) (by rw [hd,e])
    . rcases List.mem_cons.1 hq with rfl|hq
      . rw [ha d λr hr=>hp.1 r hr d hd,hd]
        rw [hd] at st;cases hx:q.x <;> rw [hx] at hl <;> first|(cases hl; done)|skip
        rw [hx] at st;simp only [St] at st;obtain ⟨e,_⟩:=st;exact ⟨_,by rw [show jO T (some d) v d=v from aU ..,<- e]; rfl⟩
      . exact hz q hq hl d hd
theorem swap {x y : SO} {s : List SO} {T : Nat -> V} {H : bC} {K : (Nat -> V) -> bC -> Prop} (hx : seB x = true) (hy : seB y = true) (d0 : ∀ d, x.d = some d -> y.d ≠ some d) (d1 : ∀ d, x.d = some d -> d ∉ y.x.ts) (d2 : ∀ d, y.d = some d -> d ∉ x.x.ts)
    (ax:nO T x.x=true) (ay:nO T y.x=true) (hap: ∀ p n q m,x.x.pt=some (p,n)->y.x.pt=some (q,m)->(x.x.cls=.E\/y.x.cls=.E)->apV n m (T p) (T q)=true)
    (hz:(x.x.lz=true\/y.x.lz=true)-> ∀ i j,x.x.bk (k0+x.d.getD 0) T=some i->y.x.bk (k0+y.d.getD 0) T=some j->i≠j)
    (h:dL P k0 (x::y::s) T H K):dL P k0 (y::x::s) T H K:=by
  unfold seB at hx hy;simp only [Bool.and_eq_true,Option.isNone_iff_eq_none] at hx hy
  have put: ∀ {d:Option Nat} {l:List Nat} {v:V} (_: ∀ e,d=some e->e∉l),∀ t∈l,jO T d v t=T t:=λ{d} {l} {v} hd t ht=>by
    cases e:d with
    |none=>rfl
    |some e'=>exact cD _ _ λq=>hd e' e (q ▸ ht)
  simp only [dL,hx.1.1,hy.1.1] at h ⊢;obtain ⟨v,H1,h1,st1⟩:=aBq (aF1 hx.1.2) h;obtain ⟨v',H2,h2,st2⟩:=aBq (aF1 hy.1.2) h1;have st2':=aBt (put (v:=v) d1) st2;obtain ⟨G,g1,g2⟩:=comm hx.1.2 hy.1.2 ax ay hap hz st1 st2';refine yS ?_ g1;rintro a b ⟨rfl,rfl⟩;refine aBt (T:=T) (λt ht=>(put (v:=a) d2 t ht).symm)<|yS ?_ g2
  rintro a' b' ⟨rfl,rfl⟩
  have e:jO (jO T y.d a) x.d a'=jO (jO T x.d a') y.d a:=by
    cases hxd:x.d with
    |none=>rfl
    | some d => cases hyd : y.d with
      |none=>rfl
      | some d' =>
        have hne:d≠d':=λe=>d0 d hxd (by rw [hyd,e])
        funext t;simp only [jO,sD];by_cases e1:t=d <;> by_cases e2:t=d'
        . exact absurd (e1.symm.trans e2) hne
        . simp [e1,hne]
        . simp [e2,Ne.symm hne]
        . simp [e1,e2]
  rw [e];exact h2
theorem aOx {b : Array Nat} {ps : List Ap4} {ops0 : List SO} {x : Nat × SO} {v : List (Nat × SO)} {K : (Nat -> V) -> bC -> Prop} (hK : ∀ T H, K T H -> ddB ps ops0 T = true) : ∀ {u : List (Nat × SO)} {T : Nat -> V} {H : bC}, (u ++ x :: v).Pairwise (PRX b ps) -> (∀ q ∈ u ++ x :: v, seB q.2 = true /\ q.2 ∈ ops0) -> (∀ q ∈ u, gX b x.1 q.1 = false) ->
    dL P k0 ((u++x::v).map (·.2)) T H K->dL P k0 ((x::(u++v)).map (·.2)) T H K
  |[],_,_,_,_,_,h=>h
  | q :: u, T, H, hp, hs, hn, h => by
    rw [List.cons_append,List.pairwise_cons] at hp;have hsq:=hs q SI;have hsx:=hs x SI;have hg:q.2.g=none:=by have:=hsq.1; unfold seB at this; simp only [Bool.and_eq_true,Option.isNone_iff_eq_none] at this; exact this.1.1
    have h':dL P k0 ((q::x::(u++v)).map (·.2)) T H K:=by
      simp only [List.cons_append,List.map_cons,dL,hg] at h ⊢;exact yS (λw H' hh=>by have:=aOx hK (u:=u) hp.2 (λr hr=>hs r (by simp only [List.cons_append,List.mem_cons]; exact .inr hr)) (λr hr=>hn r<|List.mem_cons_of_mem _ hr) hh; simpa only [List.map_cons,dL] using this) h
    have hqx:PRX b ps q x:=hp.1 x SI;have hnq:=hn q<|List.mem_cons_self ..
    have rest: ∀ e∈u++v,PRX b ps q e/\(PRX b ps x e\/(PRX b ps e x/\gX b x.1 e.1=false)):=λe he=>by
      refine ⟨hp.1 e (by rw [List.mem_append] at he ⊢; rcases he with he|he <;> simp [he]),?_⟩;rcases List.mem_append.1 he with he|he
      . obtain ⟨a,c,rfl⟩:=List.append_of_mem he
        right;refine ⟨?_,hn e SI⟩;have:=hp.2;rw [List.append_assoc,List.cons_append] at this;exact (List.pairwise_cons.1 (List.pairwise_append.1 this).2.1).1 x SI
      . left
        exact (List.pairwise_cons.1 (List.pairwise_append.1 hp.2).2.1).1 e he
    have own: ∀ {r:SO},seB r=true-> ∀ d,r.d=some d->d∉r.x.ar:=λ{r} hr d hd hh=>by
      unfold seB at hr;rw [hd] at hr;simp only [Bool.and_eq_true,Bool.not_eq_true',List.contains_eq_mem,decide_eq_false_iff_not] at hr;exact hr.2 hh
    -- the slots of the pointers stay
    have stayq: ∀ t∈q.2.x.ar,∀ s∈(q::x::(u++v)).map (·.2),s.d≠some t:=λt ht s hs' hd=>by
      obtain ⟨e,he,rfl⟩:=List.mem_map.1 hs';rcases List.mem_cons.1 he with rfl|he
      . exact own hsq.1 t hd ht
      rcases List.mem_cons.1 he with rfl|he
      . exact hqx.keep t hd ht
      . exact (rest e he).1.keep t hd ht
    have stayx: ∀ t∈x.2.x.ar,∀ s∈(q::x::(u++v)).map (·.2),s.d≠some t:=λt ht s hs' hd=>by
      obtain ⟨e,he,rfl⟩:=List.mem_map.1 hs';rcases List.mem_cons.1 he with rfl|he
      . have:=hqx.rd t hd<|aN7 ht; rw [hnq] at this; cases this
      rcases List.mem_cons.1 he with rfl|he
      . exact own hsx.1 t hd ht
      . rcases (rest e he).2 with g|⟨g,g'⟩
        . exact g.keep t hd ht
        . have:=g.rd t hd<|aN7 ht; rw [g'] at this; cases this
    have hse: ∀ s∈(q::x::(u++v)).map (·.2),seB s=true:=λs hs'=>by
      obtain ⟨e,he,rfl⟩:=List.mem_map.1 hs';refine (hs e ?_).1;simp only [List.mem_cons,List.mem_append,List.cons_append] at he ⊢;rcases he with e|e|e|e <;> simp [e]
    have hds:((q::x::(u++v)).map (·.2)).Pairwise (λq r=> ∀ d,q.d=some d->r.d≠some d):=by
      have sym: ∀ {a c:Nat×SO},PRX b ps a c->(∀ d,a.2.d=some d->c.2.d≠some d):=λh=>h.dst
      have sym': ∀ {a c:Nat×SO},PRX b ps a c->(∀ d,c.2.d=some d->a.2.d≠some d):=λh d hd e=>h.dst d e hd
      rw [List.pairwise_map,List.pairwise_cons,List.pairwise_cons];refine ⟨λe he=>?_,λe he=>?_,?_⟩
      . rcases List.mem_cons.1 he with rfl|he
        . exact sym hqx
        . exact sym (rest e he).1
      . rcases (rest e he).2 with g|⟨g,_⟩
        . exact sym g
        . exact sym' g
      . have:=hp.2
        rw [List.pairwise_append] at this ⊢;exact ⟨this.1.imp λh=>sym h,(List.pairwise_cons.1 this.2.1).2.imp λh=>sym h,λa ha c hc=>sym<|this.2.2 a ha c<|List.mem_cons_of_mem _ hc⟩
    have facts:nO T q.2.x=true/\nO T x.2.x=true/\(∀ p n p' m,q.2.x.pt=some (p,n)->x.2.x.pt=some (p',m)->(q.2.x.cls=.E\/x.2.x.cls=.E)->apV n m (T p) (T p')=true)/\
        ((q.2.x.lz=true\/x.2.x.lz=true)-> ∀ i j,q.2.x.bk (k0+q.2.d.getD 0) T=some i->x.2.x.bk (k0+x.2.d.getD 0) T=some j->i≠j):=
      aKK hse hds h' λT' H' hk ha hlz=>by
        have hd:=hK _ _ hk;unfold ddB at hd;rw [Bool.and_eq_true,List.all_eq_true,List.all_eq_true] at hd
        have arg: ∀ {r:SO},(∀ t∈r.x.ar,T' t=T t)->nO T' r.x=true->nO T r.x=true:=λ{r} hr hb=>by
          cases hx:r.x <;> first|rfl|skip
          case append ty esz bytes s a=>
            rw [hx] at hb hr;cases a with
            |c _=>cases s <;> rfl
            | t a => cases s with
              |c _=>rfl
              | t s =>
                have:=hr a (by simp [X.ar]);simp only [nO,this] at hb ⊢; exact hb
          case idx n a i=>
            rw [hx] at hb hr;cases a with
            |c _=>rfl
            | t a =>
              have:=hr a (by simp [X.ar]);simp only [nO,this] at hb ⊢; exact hb
          case len a=>
            rw [hx] at hb hr;cases a with
            |c _=>rfl
            | t a =>
              have:=hr a (by simp [X.ar]);simp only [nO,this] at hb ⊢; exact hb
        have ptz: ∀ {r:SO} {p n:Nat},r.x.pt=some (p,n)->r.pt=some (p,n)/\r.x.lz=false:=λ{r} {p n} h=>by
          have hz:r.x.lz=false:=by cases hx:r.x <;> rw [hx] at h <;> first|rfl|(cases h; done)
          unfold SO.pt;rw [hz,if_neg DE]; exact ⟨h,J⟩
        have hin0: ∀ p n p' m,q.2.pt=some (p,n)->x.2.pt=some (p',m)->(q.2.mv=true\/x.2.mv=true)->apV n m (T' p) (T' p')=true:=λp n p' m e1 e2 e3=>hd.1 _<|hqx.cf hnq p n p' m e1 e2 e3
        have mvE: ∀ {r:SO},r.x.cls=.E->r.mv=true:=λ{r} h=>by unfold SO.mv; rw [h]; rfl
        have mvZ: ∀ {r:SO},r.x.lz=true->r.mv=true:=λ{r} h=>by unfold SO.mv; rw [h,Bool.or_true]
        refine ⟨arg (λt ht=>ha t<|stayq t ht) (hd.2 _ hsq.2),arg (λt ht=>ha t<|stayx t ht) (hd.2 _ hsx.2),λp n p' m e1 e2 e3=>?_,λe3 i j b1 b2=>?_⟩
        rotate_left
        . -- blocks that are apart
          have pz : ∀ {r : SO} {k : Nat}, r ∈ (q :: x :: (u ++ v)).map (·.2) -> seB r = true -> (∀ t ∈ r.x.ar, T' t = T t) -> r.x.bk (k0 + r.d.getD 0) T = some k -> ∃ p n, r.pt = some (p, n) /\ bkV (T' p) = some k := by
            intro r k hr hsr hst hbk;unfold X.bk at hbk;by_cases z:r.x.lz=true
            . rw [if_pos z] at hbk
              cases hrd:r.d with
              |none=>unfold seB at hsr; rw [hrd] at hsr; simp only [Bool.and_eq_true,Bool.not_eq_true'] at hsr; rw [z] at hsr; cases hsr.2
              | some d =>
                obtain ⟨w,hw⟩:=hlz r hr z d hrd;rw [hrd] at hbk;refine ⟨d,0,by unfold SO.pt; rw [if_pos z,hrd]; rfl,by rw [hw]; exact hbk⟩
            . rw [if_neg z] at hbk
              cases hpt:r.x.pt with
              |none=>rw [hpt] at hbk; cases hbk
              | some p =>
                obtain ⟨p,n⟩:=p;rw [hpt] at hbk
                have hmem:p∈r.x.ar:=by
                  cases hx:r.x <;> rw [hx] at hpt <;> first|(cases hpt; done)|skip
                  . rename_i g k a; cases a <;> simp only [X.pt] at hpt <;> first|(cases hpt; done)|skip
                    split at hpt <;> first|(cases hpt; done)|(cases hpt; simp [X.ar])
                  . rename_i k a c; cases a <;> first|(cases hpt; done)|(cases hpt; simp [X.ar])
                  . rename_i ty esz bytes s a; cases s <;> cases a <;> first|(cases hpt; done)|(cases hpt; simp [X.ar])
                exact ⟨p,n,(ptz hpt).1,by rw [hst p hmem]; exact hbk⟩
          obtain ⟨p,n,p1,p2⟩:=pz (List.mem_cons_self ..) hsq.1 (λt ht=>ha t<|stayq t ht) b1;obtain ⟨p',m,r1,r2⟩:=pz (List.mem_cons_of_mem _<|List.mem_cons_self ..) hsx.1 (λt ht=>ha t<|stayx t ht) b2;have hA:=hin0 p n p' m p1 r1<|e3.imp mvZ mvZ
          -- one of them is a slice:the blocks differ
          have hsl:(∃ a c d e,T' p=.ms a c d e)\/ ∃ a c d e,T' p'=.ms a c d e:=by
            rcases e3 with z|z
            . left
              cases hrd:q.2.d with
              |none=>have h9:=hsq.1; unfold seB at h9; rw [hrd] at h9; simp only [Bool.and_eq_true,Bool.not_eq_true'] at h9; rw [z] at h9; cases h9.2
              | some d =>
                obtain ⟨w,hw⟩:=hlz q.2 (List.mem_cons_self ..) z d hrd;have:SO.pt q.2=some (d,0):=by unfold SO.pt; rw [if_pos z,hrd]; rfl
                rw [this] at p1; cases p1;exact ⟨_,_,_,_,hw⟩
            . right
              cases hrd:x.2.d with
              |none=>have h9:=hsx.1; unfold seB at h9; rw [hrd] at h9; simp only [Bool.and_eq_true,Bool.not_eq_true'] at h9; rw [z] at h9; cases h9.2
              | some d =>
                obtain ⟨w,hw⟩:=hlz x.2 (List.mem_cons_of_mem _<|List.mem_cons_self ..) z d hrd;have:SO.pt x.2=some (d,0):=by unfold SO.pt; rw [if_pos z,hrd]; rfl
                rw [this] at r1; cases r1;exact ⟨_,_,_,_,hw⟩
          intro eij;subst eij;rcases hsl with ⟨a,c,d,e,hw⟩|⟨a,c,d,e,hw⟩
          . rw [hw] at p2 hA; cases p2
            cases hT:T' p' <;> rw [hT] at r2 hA <;> first|(cases r2; done)|(cases r2; simp [apV] at hA)
          . rw [hw] at r2 hA; cases r2
            cases hT:T' p <;> rw [hT] at p2 hA <;> first|(cases p2; done)|(cases p2; simp [apV] at hA)
        have hin:=hin0 p n p' m (ptz e1).1 (ptz e2).1 (e3.imp mvE mvE)
        have pa: ∀ {r:SO} {p n:Nat},r.x.pt=some (p,n)->p∈r.x.ar:=λ{r} {p n} h=>by
          cases hx:r.x <;> rw [hx] at h <;> first|(cases h; done)|skip
          . rename_i g k a; cases a <;> simp only [X.pt] at h <;> first|(cases h; done)|skip
            split at h <;> first|(cases h; done)|(cases h; simp [X.ar])
          . rename_i k a c; cases a <;> first|(cases h; done)|(cases h; simp [X.ar])
          . rename_i ty esz bytes s a; cases s <;> cases a <;> first|(cases h; done)|(cases h; simp [X.ar])
        rw [ha p (stayq p<|pa e1),ha p' (stayx p'<|pa e2)] at hin;exact hin
    exact swap hsq.1 hsx.1 hqx.dst (λd hd hh=>by have:=hqx.rd d hd hh; rw [hnq] at this; cases this) (λd hd hh=>by have:=hqx.wr d hd hh; rw [hnq] at this; cases this) facts.1 facts.2.1 facts.2.2.1 facts.2.2.2 h'
def aFU (P:Program) (ps:List Ap4) (ops:Array Oper) (L:List (Nat×SO)):Bool:=
  P.follows .mixedOrders&&
  (L.zipIdx.all λp=>(L.drop<|p.2+1).all (aNC (Region.before ops) ps p.1))&&
  (List.range ops.size).all (λi=>L.any (·.1==i))&&
  ops.toList.zipIdx.all (λp=>p.1.after.all λe=> !(Region.binds .any e)||decide (e.on < p.2))&&
  L.all (λq=>seB q.2)
theorem aFl {b:Array Nat} {ps:List Ap4}: ∀ {L pre:List (Nat×SO)},((L.zipIdx pre.length).all λp=>(((pre++L).drop (p.2+1)).all (aNC b ps p.1)))=true->L.Pairwise (PRX b ps)
  |[],_,_=>.nil
  | q :: L, pre, h => by
    rw [List.zipIdx_cons,List.all_cons,Bool.and_eq_true] at h;refine .cons (λr hr=>aIL ?_) (aFl (pre:=pre++[q]) ?_)
    . have:=h.1
      rw [show (pre++q::L).drop (pre.length+1)=L by rw [show pre++q::L=(pre++[q])++L by simp,show pre.length+1=(pre++[q]).length by simp,List.drop_left]] at this;exact List.all_eq_true.1 this r hr
    . rw [show pre++[q]++L=pre++q::L by simp,show (pre++[q]).length=pre.length+1 by simp]
      exact h.2
variable {D:List Deferred} {op:Opt} {n:Nat} {ops:Array Oper} {x0:Cx} {Q:Ex->(Nat->V)->bC->Prop} {T:Nat->V} {H:bC}
theorem aIM {L : List (Nat × SO)} {ps : List Ap4} {ops0 : List SO} {K : (Nat -> V) -> bC -> Prop} (hK : ∀ T H, K T H -> ddB ps ops0 T = true /\ Q .norm T H) (hpw : L.Pairwise (PRX (Region.before ops) ps)) (hse : ∀ q ∈ L, seB q.2 = true /\ q.2 ∈ ops0)
    (hslim: ∀ q∈L,∃ o,ops[q.1]?=some o/\qX P op n ops o=some q.2) (hall: ∀ i,i < ops.size-> ∃ q∈L,q.1=i)
    (hlt: ∀ (i:Nat) (o:Oper),ops[i]?=some o-> ∀ e∈o.after,Region.binds .any e=true->e.on < i):
    ∀ (fuel : Nat) (listed : Array Bool) (a : Act) (w : World), listed.size = ops.size -> ((List.range ops.size).filter λi => !(SL listed i)).length <= fuel ->
      (∀ (i:Nat) (o:Oper),ops[i]?=some o->SL listed i=true-> ∀ e∈o.after,Region.binds .any e=true->SL listed e.on=true)->
      (∃ (T:Nat->V) (y:Cx),y.w=w/\dL P k0 ((L.filter λq=> !(SL listed q.1)).map (·.2)) T y.H K/\Inv y/\TRel D n y T a/\Frame x0 y)->
      wpAny P .any ops (pI D n x0 Q) fuel listed a w:=by
  obtain ⟨hbs,hbefore⟩:=aAT ops
  have done : ∀ (listed : Array Bool) (a : Act) (w : World), listed.size = ops.size -> Region.ready .any ops listed = [] ->
      (∃ (T:Nat->V) (y:Cx),y.w=w/\dL P k0 ((L.filter λq=> !(SL listed q.1)).map (·.2)) T y.H K/\Inv y/\TRel D n y T a/\Frame x0 y)->pI D n x0 Q .normal a w:=by
    intro listed a w hsz hr ⟨T,y,hyw,hO,hyI,hyT,hyF⟩
    have all: ∀ i,i < ops.size->SL listed i=true:=by
      intro i
      induction i using Nat.strongRecOn with
      | _ i ih =>
        intro hi;rcases hb:SL listed i with _|_
        . exfalso
          have hmem:i∈Region.ready .any ops listed:=mem_ready.2 ⟨by
            unfold SL at hb;have hi':i < listed.size:=OM
            simp [hi'] at hb ⊢
            exact hb,ops[i],Array.getElem?_eq_getElem hi,λe he hbd=>by
              have h1:=hlt i ops[i] (Array.getElem?_eq_getElem hi) e he hbd;exact ih e.on h1 OM⟩
          rw [hr] at hmem; cases hmem
        . rfl
    have hnil:(L.filter λq=> !(SL listed q.1))=[]:=List.filter_eq_nil_iff.2 λq hq=>by
      obtain ⟨o,ho,_⟩:=hslim q hq;simp [all _ (Array.getElem?_eq_some_iff.1 ho).1]
    rw [hnil] at hO;exact ⟨.norm,T,y,J,hyw,(hK _ _ hO).2,hyI,hyT,hyF⟩
  intro fuel
  induction fuel with
  | zero =>
    intro listed a w hsz hcnt hcl hst
    have hr:Region.ready .any ops listed=[]:=by
      rw [List.eq_nil_iff_forall_not_mem];intro i hi;obtain ⟨h0,o,ho,_⟩:=mem_ready.1 hi;have hlt':i < ops.size:=(Array.getElem?_eq_some_iff.1 ho).1;have hnil:(List.range ops.size).filter (λi=> !(SL listed i))=[]:=List.eq_nil_of_length_eq_zero OM
      have:i∈(List.range ops.size).filter (λi=> !(SL listed i)):=List.mem_filter.2 ⟨List.mem_range.2 hlt',by
        unfold SL;have hi':i < listed.size:=OM
        simp [hi'] at h0 ⊢;exact h0⟩
      rw [hnil] at this; cases this
    exact ⟨hr,done listed a w hsz hr hst⟩
  | succ fuel ih =>
    intro listed a w hsz hcnt hcl hst;refine ⟨λhr=>done listed a w hsz hr hst,λi hi=>?_⟩;obtain ⟨h0,o,ho,hedge⟩:=mem_ready.1 hi;have hilt:i < ops.size:=(Array.getElem?_eq_some_iff.1 ho).1
    have hSi:SL listed i=false:=by
      unfold SL;have hi':i < listed.size:=OM
      simp [hi'] at h0 ⊢;exact h0
    obtain ⟨r,hr,hri⟩:=hall i hilt;subst hri;obtain ⟨T,y,hyw,hO,hyI,hyT,hyF⟩:=hst;have hrf:r∈L.filter λq=> !(SL listed q.1):=List.mem_filter.2 ⟨hr,by simp [hSi]⟩
    obtain ⟨u,v,huv⟩:=List.append_of_mem hrf;have hpf:(u++r::v).Pairwise (PRX (Region.before ops) ps):=by rw [<- huv]; exact hpw.sublist List.filter_sublist
    have hin: ∀ q∈u++r::v,q∈L/\SL listed q.1=false:=λq hq=>by
      rw [<- huv] at hq;obtain ⟨h1,h2⟩:=List.mem_filter.1 hq;exact ⟨h1,by simpa using h2⟩
    have closed: ∀ (k:Nat) (o':Oper),ops[k]?=some o'->(∀ e∈o'.after,Region.binds .any e=true->SL listed e.on=true)-> ∀ j,gX (Region.before ops) k j=true->SL listed j=true:=by
      intro k
      induction k using Nat.strongRecOn with
      | _ k ihk =>
        intro o' ho' hed j hj;obtain ⟨e,he,hb,h1|⟨h1,h2⟩⟩:=hbefore k o' ho' j hj
        . rw [<- h1]; exact hed e he hb
        . have hle:e.on < ops.size:=by have:=(Array.getElem?_eq_some_iff.1 ho').1; omega
          exact ihk e.on h1 _ (Array.getElem?_eq_getElem hle) (hcl e.on _ (Array.getElem?_eq_getElem hle)<|hed e he hb) j h2
    have hanc:=closed r.1 o ho λe he hb=>by have:=hedge e he hb; exact this
    have hn: ∀ q∈u,gX (Region.before ops) r.1 q.1=false:=λq hq=>by
      rcases hb:gX (Region.before ops) r.1 q.1 with _|_
      . rfl
      . have:=hanc _ hb; rw [(hin q (by simp [hq])).2] at this; cases this
    rw [huv] at hO;have hO2:=aOx (λT H h=>(hK T H h).1) hpf (λq hq=>hse q (hin q hq).1) hn hO
    have hrest:(L.filter λq=> !(SL (listed.setIfInBounds r.1 true) q.1))=u++v:=by
      have e:(L.filter λq=> !(SL (listed.setIfInBounds r.1 true) q.1))=(L.filter λq=> !(SL listed q.1)).filter λq=>q.1 != r.1:=by
        rw [List.filter_filter];refine List.filter_congr λq _=>?_;rw [aGd OM,Bool.not_or,Bool.and_comm]; rfl
      rw [e,huv,List.filter_append,List.filter_cons_of_neg SI]
      have hu: ∀ q∈u,(q.1 != r.1)=true:=λq hq=>by
        have:=(List.pairwise_append.1 hpf).2.2 q hq r SI;simpa using this.ne
      have hv: ∀ q∈v,(q.1 != r.1)=true:=λq hq=>by
        have:=(List.pairwise_cons.1 (List.pairwise_append.1 hpf).2.1).1 q hq;simpa using Ne.symm this.ne
      rw [List.filter_eq_self.2 hu,List.filter_eq_self.2 hv]
    obtain ⟨o',ho',hso⟩:=hslim r hr;have hoo:o'=o:=by have:=ho'.symm.trans ho; simpa using this
    subst hoo;obtain ⟨s1,s2,s3,s4⟩:=vN hso;have hg:r.2.g=none:=by have:=(hse r hr).1; unfold seB at this; simp only [Bool.and_eq_true,Option.isNone_iff_eq_none] at this; exact this.1.1
    have hS': ∀ j,SL (listed.setIfInBounds r.1 true) j=(SL listed j||j==r.1):=aGd OM;have hsz':(listed.setIfInBounds r.1 true).size=ops.size:=by simpa using hsz
    have hcnt':((List.range ops.size).filter λi=> !(SL (listed.setIfInBounds r.1 true) i)).length<=fuel:=by
      have e:(List.range ops.size).filter (λi=> !(SL (listed.setIfInBounds r.1 true) i))=((List.range ops.size).filter λi=> !(SL listed i)).filter (λj=>j != r.1):=by
        rw [List.filter_filter];refine List.filter_congr λj _=>?_;rw [hS',Bool.not_or,Bool.and_comm]
        rfl
      have hmem:r.1∈(List.range ops.size).filter λi=> !(SL listed i):=List.mem_filter.2 ⟨List.mem_range.2 hilt,by rw [hSi]; rfl⟩
      have:=(List.length_filter_lt_length_iff_exists (p:=λj=>j != r.1)).2 ⟨r.1,hmem,SI⟩;rw [e]; omega
    have hcl': ∀ (i:Nat) (o:Oper),ops[i]?=some o->SL (listed.setIfInBounds r.1 true) i=true-> ∀ e∈o.after,Region.binds .any e=true->SL (listed.setIfInBounds r.1 true) e.on=true:=by
      intro k ok hk hs e he hb;rw [hS'] at hs ⊢;rw [Bool.or_eq_true] at hs ⊢;rcases hs with hs|hs
      . exact .inl (hcl k ok hk hs e he hb)
      . have:k=r.1:=by simpa using hs
        subst this;have:ok=o':=by have:=hk.symm.trans ho; simpa using this
        subst this;exact .inl (hedge e he hb)
    simp only [List.map_cons,dL,hg] at hO2;unfold wpOp;simp only [ho];rcases s4 with ⟨hgo,hsg⟩|⟨j,want,t,hgo,hj,hsg⟩
    . have hw:Region.wanted o' (yielded ops a.tmps)=true:=by simp [Region.wanted,hgo]
      rw [if_pos hw,<- hyw];refine .inl (vI s3 hO2 hyI hyT.tmps λv0 c z hk hzI hzR hzF=>?_);refine ih _ _ _ hsz' hcnt' hcl' ⟨_,z,J,by rw [hrest]; exact hk,hzI,?_,hyF.trans hzF⟩;have:=(hyT.frame hyI hzF).put s2 hzR;rw [show r.2.d=o'.dst from s1];exact this
    . rw [hg] at hsg; cases hsg
theorem aKu {id:Nat} {L:List (Nat×SO)} {ps:List Ap4} (hslim: ∀ q∈L,∃ o,ops[q.1]?=some o/\qX P op n ops o=some q.2) (hB:aFU P ps ops L=true)
    {x:Cx} {T:Nat->V} {a:Act} (h:dL P k0 (L.map (·.2)) T x.H λT H=>ddB ps (L.map (·.2)) T=true/\Q .norm T H) (hx:Inv x) (hT:TRel D n x T a) (hF:Frame x0 x):
    (Code.region id ops true).wp P (pI D n x0 Q) a x.w:=by
  unfold aFU at hB;simp only [Bool.and_eq_true] at hB;obtain ⟨⟨⟨⟨b1,b2⟩,b3⟩,b4⟩,b5⟩:=hB;obtain ⟨dI,dF⟩:=jM hx (x.w.drawn+1)<|Nat.le_succ _
  refine wp_region_any b1 ?_
  have hnone: ∀ j,SL (Array.replicate ops.size false) j=false:=λj=>by
    unfold SL;rw [Array.getD_eq_getD_getElem?,Array.getElem?_replicate];split <;> rfl
  refine aIM (k0:=k0) (L:=L) (ps:=ps) (ops0:=L.map (·.2)) (λ_ _ h=>h) (aFl (pre:=[]) (by simpa using b2)) (λq hq=>⟨List.all_eq_true.1 b5 q hq,List.mem_map_of_mem hq⟩) hslim (λi hi=>?_) (λi o ho e he hb=>?_) ops.size _ a _ SI (by
      refine Nat.le_trans (List.length_filter_le _ _) SI) (λi o ho hs=>by rw [hnone] at hs; cases hs) ⟨T,{x with w:={x.w with drawn:=x.w.drawn+1}},rfl,?_,dI,hT.frame hx dF,hF.trans dF⟩
  . have:=List.all_eq_true.1 b3 i<|List.mem_range.2 hi
    obtain ⟨q,hq,he⟩:=List.any_eq_true.1 this;exact ⟨q,hq,by simpa using he⟩
  . have:=List.all_eq_true.1 b4 (o,i) (by
      rw [List.mk_mem_zipIdx_iff_getElem?];simpa using ho)
    have:=Array.all_eq_true_iff_forall_mem.1 this e he;simpa [hb] using this
  . rw [List.filter_eq_self.2 λq _=>by rw [hnone]; rfl]
    exact h
end
end Go.Proofs.YtinpihlhcmpkhaaGreat


namespace Go.Proofs.YtinpihlhcmpkhaaGreat
open Go
def aJ7 (L0:List SO) (ord:List Nat):List (Nat×SO):=ord.filterMap λi=>(L0[i]?).map λs=>(i,s)
def aOR (ops : Array Oper) (L0 : List SO) : Nat -> List Nat -> List Nat
  |0,acc=>acc.reverse
  | fuel + 1, acc =>
    let rd:=(List.range ops.size).filter λi=> !(acc.contains i)&&((ops[i]?).map λo=>o.after.all λe=> !(Region.binds .any e)||acc.contains e.on).getD false
    match rd.find? (λi=>((L0[i]?).map λs=>s.x.cls != .A).getD false) with
    |some i=>aOR ops L0 fuel (i::acc)
    | none => match rd with
      |i::_=>aOR ops L0 fuel (i::acc)
      |[]=>acc.reverse
def yD (P : Program) (ops : Array Oper) (L0 : List SO) (ord : List Nat) : Option SC :=
  let L:=aJ7 L0 ord
  if aLO P ops L then match late (Region.before ops) [] L with
    |[]=>some (.reg (L.map (·.2)))
    |l=>some (.dreg l (L.map (·.2)))
  else none
def aOt (b : Array Nat) : List (Nat × SO) -> List Ap4
  |[]=>[]
  | q :: l => (l.filterMap λr => if gX b r.1 q.1 then none else match q.2.pt, r.2.pt with
    |some p,some p'=>if q.2.mv||r.2.mv then some (p.1,p.2,p'.1,p'.2) else none
    |_,_=>none)++aOt b l
def aAi (P:Program) (ops:Array Oper) (L0:List SO) (ord:List Nat):Option SC:=
  let L:=aJ7 L0 ord
  let ps:=aOt (Region.before ops) L
  if aFU P ps ops L then some (.xreg ps (L.map (·.2))) else none
def aBg (L:List SO):Option SC->SC
  |none=>.reg L
  |some c=>.seq (.reg L) c
def aBn (P : Program) (op : Opt) (n : Nat) (ops : Array Oper) : List Oper -> Option (List SO × Option SC)
  |[]=>some ([],none)
  | o :: l => match aBn P op n ops l with
    |none=>none
    | some (L, r) => match aNs op o with
      |some px=>if o.guard.isNone&&aMW n o.dst then some ([],some (.seq (.pop o.dst px) (aBg L r))) else none
      |none=>(qX P op n ops o).map λs=>(s::L,r)
def aBk (P : Program) (op : Opt) (n : Nat) (ops : Array Oper) (draw : Bool) : Option SC :=
  if (!draw&&ops.any λo=>(aNs op o).isSome)=true then (aBn P op n ops ops.toList).map λp=>aBg p.1 p.2
  else match iY (qX P op n ops) ops.toList with
  |none=>none
  | some L0 => if draw = false then some (.reg L0) else match yD P ops L0 (List.range ops.size) with
    |some s=>some s
    | none => match yD P ops L0 (aOR ops L0 ops.size []) with
      |some s=>some s
      |none=>aAi P ops L0 (List.range ops.size)
def aCz (P : Program) (op : Opt) (n : Nat) : Code -> Option SC
  | .skip=>some .skip
  | .ret=>some .ret
  | .exit id=>some (.exit id)
  | .region _ ops draw=>aBk P op n ops draw
  | .seq a b => match aCz P op n a, aCz P op n b with
    |some a,some b=>some (.seq a b)
    |_,_=>none
  | .cond c a b => match sx c, aCz P op n a, aCz P op n b with
    |some c,some a,some b=>some (.cond c a b)
    |_,_,_=>none
  | .block id a=>(aCz P op n a).map (.block id)
  | .loop a=>(aCz P op n a).map .loop
  |_=>none
section
variable {P:Program} {D:List Deferred} {k0:Nat} {op:Opt} {n:Nat}
theorem xF {ops:Array Oper} {L0:List SO} (h:iY (qX P op n ops) ops.toList=some L0) (ord:List Nat): ∀ q∈aJ7 L0 ord,∃ o,ops[q.1]?=some o/\qX P op n ops o=some q.2:=by
  intro q hq;obtain ⟨i,_,h1⟩:=List.mem_filterMap.1 hq;obtain ⟨s,h2,rfl⟩:=map_some h1;obtain ⟨_,h3⟩:=jK h;obtain ⟨o,h4,h5⟩:=h3 i s h2;exact ⟨o,by simpa using h4,h5⟩
theorem uU {ops:Array Oper} {L0:List SO} (h:iY (qX P op n ops) ops.toList=some L0) {ord:List Nat} {s:SC} (hs:yD P ops L0 ord=some s) {id:Nat} {x0 x:Cx} {Q:Ex->(Nat->V)->bC->Prop} {T:Nat->V} {a:Act}
    (hW:W P k0 s Q T x.H) (hx:Inv x) (hT:TRel D n x T a) (hF:Frame x0 x):(Code.region id ops true).wp P (pI D n x0 Q) a x.w:=by
  unfold yD at hs;simp only at hs;split at hs
  . rename_i hB
    split at hs
    . rename_i hl
      cases hs;obtain ⟨k1,hW⟩:=hW;exact aHC (k0:=k1) (xF h ord) hB (by rw [hl]; intro d hd; cases hd) hW hx hT hF
    . cases hs
      obtain ⟨k1,hW⟩:=hW;exact aHC (k0:=k1) (xF h ord) hB hW.1 hW.2 hx hT hF
  . cases hs
theorem aA4 {ops:Array Oper} {L0:List SO} (h:iY (qX P op n ops) ops.toList=some L0) {ord:List Nat} {s:SC} (hs:aAi P ops L0 ord=some s) {id:Nat} {x0 x:Cx} {Q:Ex->(Nat->V)->bC->Prop} {T:Nat->V} {a:Act}
    (hW:W P k0 s Q T x.H) (hx:Inv x) (hT:TRel D n x T a) (hF:Frame x0 x):(Code.region id ops true).wp P (pI D n x0 Q) a x.w:=by
  unfold aAi at hs;simp only at hs;split at hs
  . rename_i hB
    cases hs;obtain ⟨k1,hW⟩:=hW;exact aKu (k0:=k1) (xF h ord) hB hW hx hT hF
  . cases hs
theorem aLL {d:Option Nat} {f:Nat} {args:List V} {x0 x:Cx} {Q:Ex->(Nat->V)->bC->Prop} {T:Nat->V} {a:Act} {o:Oper} {cs:List Value} (hd:o.dst=d) (hdn: ∀ e,o.dst=some e->e < n)
    {Qw:Ex->(Nat->V)->bC->Prop} (hQ: ∀ c T H,Qw (.pan c) T H->Q (.pan c) T H) (h:Pop P d f args Qw T x.H) (hx:Inv x) (hT:TRel D n x T a) (hF:Frame x0 x) (hr:RL x args cs) (he:(execOp a.eval o).run P x.w=.ok (.enter f cs.toArray) x.w) {next:Act->World->Prop}
    (hn: ∀ (T':Nat->V) (a':Act) (y:Cx),Qw .norm T' y.H->Inv y->TRel D n y T' a'->Frame x0 y->next a' y.w):o.wp P a x.w next (pI D n x0 Q):=by
  obtain ⟨r,hc,hq⟩:=h;unfold Oper.wp;rw [he,Oper.upon_enter];cases r with
  | ok v H' =>
    refine (hc.2 x cs J hx hr).mono λe w' hp=>?_;obtain ⟨c,y,rfl,rfl,h1,h2,h3,h4⟩:=hp;subst hd;exact hn (jO T o.dst v) _ y (by rw [h1]; exact hq) h2 ((hT.frame hx h4).put hdn h3)<|hF.trans h4
  | pan c S =>
    refine (hc.2 x cs J hx hr).mono λe w' hp=>?_;obtain ⟨y,rfl,rfl,h1,h2,h4⟩:=hp;exact ⟨.pan c,T,y,J,J,hQ c T y.H (hq y.H h1),h2,hT.frame hx h4,hF.trans h4⟩
theorem aMg {o : Oper} {px : PX} (hp : aNs op o = some px) {x0 x : Cx} {Q : Ex -> (Nat -> V) -> bC -> Prop} {T : Nat -> V} {a : Act} (hdn : ∀ e, o.dst = some e -> e < n)
    {Qw:Ex->(Nat->V)->bC->Prop} (hQ: ∀ c T H,Qw (.pan c) T H->Q (.pan c) T H) (h:W P k0 (.pop o.dst px) Qw T x.H) (hx:Inv x) (hT:TRel D n x T a) (hF:Frame x0 x) {next:Act->World->Prop}
    (hn: ∀ (T':Nat->V) (a':Act) (y:Cx),Qw .norm T' y.H->Inv y->TRel D n y T' a'->Frame x0 y->next a' y.w):o.wp P a x.w next (pI D n x0 Q):=by
  unfold aNs at hp;split at hp
  . rename_i p ho
    obtain ⟨s,hs,rfl⟩:=map_some hp;simp only [W] at h;have hR:=fR hT.tmps hs;split at h
    . rename_i ty c hc
      rw [hc] at hR
      have e:a.eval p=.iface ty c:=by
        generalize hv:a.eval p=v at hR;cases hR; rfl
      unfold Oper.wp
      have hrun:(execOp a.eval o).run P x.w=.halt (.panic (.iface ty c)) x.w:=by
        simp [execOp,ho,e,Instr.panic,goPanic]
      rw [hrun,Oper.upon_panic];exact ⟨.pan (.iface ty c),T,x,J,J,hQ _ _ _ h,hx,hT,hF⟩
    . exact h.elim
  . rename_i f args tys ho
    have run: ∀ (g:Nat) (fs cs:Array Value),a.eval f=.func (.func g) fs cs->fT P g->(execOp a.eval o).run P x.w=.ok (.enter g (fs.toList++args.toList.map a.eval++cs.toList).toArray) x.w:=by
      intro g fs cs hf hg;have h1:(fs++args.map a.eval++cs)=(fs.toList++args.toList.map a.eval++cs.toList).toArray:=by simp
      simp only [execOp,ho,resolve,hf,Deferred.ofValue,Sem.run_bind,Sem.run_pure,Result.andThen_ok,invoke,zQ hg,h1]
    have cb: ∀ {d:Option Nat} {g:Nat} {asq:List V} {T:Nat->V},Pop P d g asq Qw T x.H->fT P g:=λhp=>by
      obtain ⟨r,hc,_⟩:=hp;cases r <;> exact hc.1
    split at hp
    . rename_i g us hf has
      split at hp
      . cases hp
        simp only [W] at h;have hfR:=fR hT.tmps hf
        have hnil: ∀ (cs:Array Value),cs.size=([]:List V).length->cs=#[]:=λcs h=>by
          apply Array.eq_empty_of_size_eq_zero; simpa using h
        cases hfv:a.eval f with
        | func fn fs cs =>
          rw [hfv] at hfR;cases hfR with
          | fn _ _ _ _ _ h1 h2 _ _ =>
            have e1:=hnil _ h1;have e2:=hnil _ h2;subst e1; subst e2;refine aLL J hdn hQ h hx hT hF (aAs hT.tmps has) ?_ hn;have:=run g #[] #[] hfv (cb h);simpa using this
        |_=>rw [hfv] at hfR; cases hfR
      . cases hp
    . rename_i t us hf has
      split at hp
      . rename_i d hdd
        split at hp
        . cases hp
          simp only [W,aPs] at h;have hfR:=fR hT.tmps hf;simp only [aPs] at hfR;split at h
          . rename_i g first caps hTn
            rw [hTn] at hfR;cases hfv:a.eval f with
            | func fn fs cs =>
              rw [hfv] at hfR;cases hfR with
              | fn _ _ _ _ _ h1 h2 h3 h4 =>
                exact aLL J hdn hQ h hx hT hF (((aD0 h1 h3).append (aAs hT.tmps has)).append (aD0 h2 h4)) (run g fs cs hfv<|cb h) hn
            |_=>rw [hfv] at hfR; cases hfR
          . exact h.elim
        . cases hp
      . cases hp
    . cases hp
  . cases hp
def aKv (P:Program) (k0:Nat) (Q:Ex->(Nat->V)->bC->Prop):Option SC->(Nat->V)->bC->Prop
  |none=>Q .norm
  |some c=>G (W P k0 c Q)
theorem aC2 {k0:Nat} {Q:Ex->(Nat->V)->bC->Prop} {L:List SO} {r:Option SC} {T:Nat->V} {H:bC} (h:W P k0 (aBg L r) Q T H): ∃ k1,dL P k1 L T H (aKv P k0 Q r):=by
  cases r with
  |none=>exact h
  |some c=>exact h
theorem nK {ops : Array Oper} {x0 : Cx} {Q : Ex -> (Nat -> V) -> bC -> Prop} : ∀ (l : List Oper) (L : List SO) (r : Option SC), aBn P op n ops l = some (L, r) ->
    ∀ (k1:Nat) (x:Cx) (T:Nat->V) (a:Act),dL P k1 L T x.H (aKv P k0 Q r)->Inv x->TRel D n x T a->Frame x0 x->wpList P ops (pI D n x0 Q) l a x.w
  | [], L, r, hL, k1, x, T, a, h, hx, hT, hF => by
    cases hL;exact ⟨.norm,T,x,J,J,h,hx,hT,hF⟩
  | o :: l, L, r, hL, k1, x, T, a, h, hx, hT, hF => by
    simp only [aBn] at hL;split at hL
    . cases hL
    rename_i L' r' hl;split at hL
    . rename_i px hpx
      split at hL
      . rename_i hg
        cases hL;simp only [Bool.and_eq_true,Option.isNone_iff_eq_none] at hg;obtain ⟨hg1,hg2⟩:=hg;have hdn: ∀ e,o.dst=some e->e < n:=λe he=>by rw [he] at hg2; simpa [aMW] using hg2
        simp only [wpList];have hw:Region.wanted o (yielded ops a.tmps)=true:=by simp [Region.wanted,hg1]
        rw [if_pos hw];obtain ⟨T1,y,hyw,hW,hy,hTy,hFy⟩:=aD5 h x J hx hT hF;rw [<- hyw]
        refine .inl (aMg (k0:=k0) (Q:=Q) (Qw:=λe T H=>match e with
          | .norm=>G (W P k0 (aBg L' r') Q) T H
          |e=>Q e T H) hpx hdn (λc T H h=>h) hW hy hTy hFy ?_)
        intro T' a' z hq hz hTz hFz
        . obtain ⟨T2,u,huw,hW2,hu,hTu,hFu⟩:=aD5 hq z J hz hTz hFz
          obtain ⟨k2,hW3⟩:=aC2 hW2;rw [<- huw];exact nK l L' r' hl k2 u T2 a' hW3 hu hTu hFu
      . cases hL
    . obtain ⟨s,hs,hsL⟩:=map_some hL
      cases hsL;obtain ⟨h1,h2,h3,h4⟩:=vN hs
      have run:St P (k1+s.d.getD 0) s.x T x.H (λv H'=>dL P k1 L' (jO T s.d v) H'<|aKv P k0 Q r)->o.wp P a x.w (wpList P ops (pI D n x0 Q) l) (pI D n x0 Q):=λhst=>
        vI h3 hst hx hT.tmps λv c y hk hy hr hf=>by
          rw [h1] at hk;exact nK l L' r hl k1 y _ _ hk hy ((hT.frame hx hf).put h2 hr)<|hF.trans hf
      simp only [wpList];rcases h4 with ⟨hg,hsg⟩|⟨j,want,t,hg,hj,hsg⟩
      . have hw:Region.wanted o (yielded ops a.tmps)=true:=by simp [Region.wanted,hg]
        rw [if_pos hw];simp only [dL,hsg] at h;exact .inl (run h)
      . simp only [dL,hsg] at h
        obtain ⟨hyes,hno⟩:=h;have hy:=aAc hT hj want;have hwe:Region.wanted o (yielded ops a.tmps)=gd want (T t):=by simp only [Region.wanted,hg]; exact hy
        cases hbw:gd want (T t) with
        | true =>
          rw [if_pos (by rw [hwe,hbw])];exact .inl (run<|hyes hbw)
        | false =>
          rw [if_neg (by rw [hwe,hbw]; simp)];have:=hno hbw;rw [h1] at this;exact nK l L' r hl k1 x _ _ this hx (hT.put h2 (.raw undef J)) hF
theorem aCy {ops : Array Oper} {draw : Bool} {s : SC} (hs : aBk P op n ops draw = some s) {id : Nat} {x0 x : Cx} {Q : Ex -> (Nat -> V) -> bC -> Prop} {T : Nat -> V} {a : Act}
    (hW:W P k0 s Q T x.H) (hx:Inv x) (hT:TRel D n x T a) (hF:Frame x0 x):(Code.region id ops draw).wp P (pI D n x0 Q) a x.w:=by
  unfold aBk at hs;split at hs
  . rename_i hB
    obtain ⟨⟨L,r⟩,hL,rfl⟩:=map_some hs;obtain ⟨k1,hW⟩:=aC2 hW;have hd:draw=false:=by simp only [Bool.and_eq_true,Bool.not_eq_true'] at hB; exact hB.1
    subst hd;refine wp_region ?_;have:=nK (x0:=x0) (Q:=Q) ops.toList L r hL k1 x T a hW hx hT hF;have e:=wpOps_eq_wpList (P:=P) (ops:=ops) (Q:=pI D n x0 Q) ops.toList 0 (λj=>by simp);rw [<- e] at this
    rwa [List.range_eq_range',show ops.size=ops.toList.length by simp]
  split at hs
  . cases hs
  . rename_i L0 hL0
    split at hs
    . rename_i hd
      cases hs;subst hd;obtain ⟨k1,hW⟩:=hW;refine wp_region ?_;have:=aAB (k0:=k1) (x0:=x0) (Q:=Q) ops.toList L0 hL0 x T a hW hx hT hF;have e:=wpOps_eq_wpList (P:=P) (ops:=ops) (Q:=pI D n x0 Q) ops.toList 0 (λj=>by simp);rw [<- e] at this
      rwa [List.range_eq_range',show ops.size=ops.toList.length by simp]
    . rename_i hd
      have hd':draw=true:=by simpa using hd
      subst hd';split at hs
      . rename_i s' hs'
        cases hs;exact uU hL0 hs' hW hx hT hF
      . split at hs
        . rename_i s' hs'
          cases hs;exact uU hL0 hs' hW hx hT hF
        . exact aA4 hL0 hs hW hx hT hF
theorem sY {l:List PanicEntry} {e:Ex} (h:aOK (.panic l)=some e): ∃ c,e=.pan c:=by
  simp only [aOK] at h;split at h
  . cases h; exact ⟨_,rfl⟩
  . cases h
theorem aNa : ∀ (c : Code) (s : SC), aCz P op n c = some s -> ∀ (Q : Ex -> (Nat -> V) -> bC -> Prop) (x0 x : Cx) (T : Nat -> V) (a : Act),
    W P k0 s Q T x.H->Inv x->TRel D n x T a->Frame x0 x->c.wp P (pI D n x0 Q) a x.w:=by
  intro c
  induction c with
  | skip =>
    intro s hs Q x0 x T a hW hx hT hF;cases hs;exact wp_skip ⟨.norm,T,x,J,J,hW,hx,hT,hF⟩
  | ret =>
    intro s hs Q x0 x T a hW hx hT hF;cases hs;exact wp_ret ⟨.ret,T,x,J,J,hW,hx,hT,hF⟩
  | exit id =>
    intro s hs Q x0 x T a hW hx hT hF;cases hs;exact wp_exit ⟨.exit id,T,x,J,J,hW,hx,hT,hF⟩
  | region id ops draw =>
    intro s hs Q x0 x T a hW hx hT hF;exact aCy hs hW hx hT hF
  | seq c1 c2 ih1 ih2 =>
    intro s hs Q x0 x T a hW hx hT hF;simp only [aCz] at hs;split at hs
    . rename_i s1 s2 h1 h2
      cases hs;refine wp_seq<|wp_mono (ih1 s1 h1 _ x0 x T a hW hx hT hF) ?_
      intro e a' w' hp;obtain ⟨e',T',y,he,hw,hq,hy,hT',hF'⟩:=hp;cases e with
      | normal =>
        cases he;obtain ⟨T2,z,hz,hK,hzI,hzT,hzF⟩:=aD5 hq y J hy hT' hF';simp only [Exit.then];rw [<- hw,<- hz];exact ih2 s2 h2 Q x0 z T2 a' hK hzI hzT hzF
      |ret=>cases he; exact ⟨.ret,T',y,rfl,hw,hq,hy,hT',hF'⟩
      |exit id=>cases he; exact ⟨.exit id,T',y,rfl,hw,hq,hy,hT',hF'⟩
      |goto l=>cases he
      |panic l=>obtain ⟨c,rfl⟩:=sY he; exact ⟨.pan c,T',y,he,hw,hq,hy,hT',hF'⟩
      |outgrown=>cases he
    . cases hs
  | cond c c1 c2 ih1 ih2 =>
    intro s hs Q x0 x T a hW hx hT hF;simp only [aCz] at hs;split at hs
    . rename_i sc s1 s2 hc h1 h2
      cases hs;simp only [W,cJ] at hW;obtain ⟨b,hb,hyes,hno⟩:=hW;have hv:=aML hb<|fR hT.tmps hc
      refine wp_cond_split hv (λht=>ih1 s1 h1 Q x0 x T a (hyes ht) hx hT hF) (λhf=>ih2 s2 h2 Q x0 x T a (hno hf) hx hT hF)
    . cases hs
  | block id c ih =>
    intro s hs Q x0 x T a hW hx hT hF;obtain ⟨s1,h1,rfl⟩:=map_some hs;refine wp_block<|wp_mono (ih s1 h1 _ x0 x T a hW hx hT hF) ?_
    intro e a' w' hp;obtain ⟨e',T',y,he,hw,hq,hy,hT',hF'⟩:=hp;cases e with
    |normal=>cases he; exact ⟨.norm,T',y,rfl,hw,hq,hy,hT',hF'⟩
    |ret=>cases he; exact ⟨.ret,T',y,rfl,hw,hq,hy,hT',hF'⟩
    | exit id' =>
      cases he;simp only [Exit.inBlock];simp only at hq;split at hq
      . rename_i h; rw [if_pos h]; exact ⟨.norm,T',y,J,hw,hq,hy,hT',hF'⟩
      . rename_i h; rw [if_neg h]; exact ⟨.exit id',T',y,J,hw,hq,hy,hT',hF'⟩
    |goto l=>cases he
    |panic l=>obtain ⟨c,rfl⟩:=sY he; exact ⟨.pan c,T',y,he,hw,hq,hy,hT',hF'⟩
    |outgrown=>cases he
  | loop c ih =>
    intro s hs Q x0 x T a hW hx hT hF;obtain ⟨s1,h1,rfl⟩:=map_some hs;simp only [W] at hW;obtain ⟨I,m,hI,hround⟩:=hW;refine wp_loop_ghost (λk a w=> ∃ T y,y.w=w/\I k T y.H/\Inv y/\TRel D n y T a/\Frame x0 y) m ⟨T,x,J,hI,hx,hT,hF⟩ ?_;intro k a' w' ⟨T',y,hw,hI',hy,hT',hF'⟩;subst hw;refine wp_mono (ih s1 h1 _ x0 y T' a' (hround k T' y.H hI') hy hT' hF') ?_;intro e a2 w2 hp;obtain ⟨e',T2,z,he,hw,hq,hz,hT2,hF2⟩:=hp;cases e with
    | normal =>
      cases he;obtain ⟨j,hj,hIj⟩:=hq;exact ⟨j,hj,T2,z,hw,hIj,hz,hT2,hF2⟩
    |ret=>cases he; exact ⟨.ret,T2,z,rfl,hw,hq,hz,hT2,hF2⟩
    |exit id=>cases he; exact ⟨.exit id,T2,z,rfl,hw,hq,hz,hT2,hF2⟩
    |goto l=>cases he
    |panic l=>obtain ⟨c,rfl⟩:=sY he; exact ⟨.pan c,T2,z,he,hw,hq,hz,hT2,hF2⟩
    |outgrown=>cases he
  |_=>intro s hs; cases hs
end
end Go.Proofs.YtinpihlhcmpkhaaGreat


namespace Go.Proofs.YtinpihlhcmpkhaaGreat
open Go
def mO (P : Program) (op : Opt) (fn : Func) : Option SF :=
  match fn.body with
  |none=>none
  | some c => match aCz P op fn.ntmps c, iY (yX P fn.ntmps) fn.results.toList with
    |some s,some r=>some ⟨fn.ntmps,r,s⟩
    |_,_=>none
def xR:V:=.raw undef
def T0 (args:List V):Nat->V:=λi=>args.getD i xR
def pZ (T:Nat->V) (H:bC):SRes->Option V
  | .tmp t=>some (T t)
  | .cell t g m=>(ptr H (T t)).bind (ldV g m)
def vW (res:List SRes) (T:Nat->V) (H:bC):Option V:=match iY (pZ T H) res with
  |some [v]=>some v
  |some vs=>some (.tup vs)
  |none=>none
def xN (res:List SRes) (K:V->bC->Prop):Ex->(Nat->V)->bC->Prop:=λe T H=>match e with
  | .exit _=>False
  | .pan _=>False
  |_=>pT (vW res T H) λv=>K v H
section
variable {P:Program} {k0:Nat} {op:Opt}
theorem aH5 {α β:Type} {f:α->Sem β} {w:World}: ∀ (l:List α) (r:List β),l.length=r.length->(∀ (j:Nat) (a:α) (b:β),l[j]?=some a->r[j]?=some b->(f a).run P w=.ok b w)->(l.mapM f).run P w=.ok r w
  | [], r, h, _ => by cases r with
    |nil=>simp
    |cons b r=>simp at h
  | a :: l, r, h, hf => by
    cases r with
    |nil=>simp at h
    | cons b r =>
      have h1:=hf 0 a b J J;have h2:=aH5 l r (by simpa using h) λj a' b' ha hb=>hf (j+1) a' b' (by simpa using ha) (by simpa using hb)
      simp only [List.mapM_cons,Sem.run_bind,h1,Result.andThen_ok,h2,Sem.run_pure]
def xS (tmps:Array Value):ResultVar->Sem Value
  | .tmp t=>pure (tmps.getD t undef)
  | .cell ad t=>do loadVar t (<- asAddr (tmps.getD ad undef))
theorem aBC (fn:Func) (tmps:Array Value):results fn tmps=(do
    let vs <- fn.results.mapM (xS tmps)
    pure (if h:vs.size=1 then vs[0] else .tuple vs)):=J
theorem aNx {D : List Deferred} {n : Nat} {rv : ResultVar} {s : SRes} (hs : yX P n rv = some s) {x : Cx} (hx : Inv x) {T : Nat -> V} {a : Act} (hT : TRel D n x T a) {v : V} (hv : pZ T x.H s = some v) :
    ∃ c,(xS a.tmps rv).run P x.w=.ok c x.w/\R x v c:=by
  unfold yX at hs;split at hs
  . rename_i t
    split at hs
    . cases hs; cases hv
      exact ⟨_,J,hT.tmps t⟩
    . cases hs
  . rename_i t ty
    split at hs
    . rename_i g m hg hm
      split at hs
      . rename_i hc
        cases hs;obtain ⟨c,h1,h2⟩:=aFs (P:=P) hx hv (hT.tmps t) hg hm hc.2;refine ⟨c,?_,h2⟩;obtain ⟨cs,hp,_⟩:=uY hv;obtain ⟨ad,f,he,_⟩:=aCP hx hp<|hT.tmps t
        simp only [xS];rw [he] at h1 ⊢;simpa [Instr.loadAt,Instr.sureAddr,asAddr] using h1
      . cases hs
    . cases hs
theorem aEu {D : List Deferred} {fn : Func} {n : Nat} {res : List SRes} (hs : iY (yX P n) fn.results.toList = some res) {x : Cx} (hx : Inv x) {T : Nat -> V} {a : Act} (hT : TRel D n x T a) {v : V} (hv : vW res T x.H = some v) :
    ∃ c,(results fn a.tmps).run P x.w=.ok c x.w/\R x v c:=by
  obtain ⟨g1,g2⟩:=jK hs;unfold vW at hv
  have key: ∀ (vs:List V),iY (pZ T x.H) res=some vs-> ∃ cs:List Value,RL x vs cs/\(fn.results.mapM<|xS a.tmps).run P x.w=.ok cs.toArray x.w:=by
    intro vs hvs;obtain ⟨g3,g4⟩:=jK hvs
    have ex: ∀ j,j < vs.length-> ∃ c,R x (vs.getD j xR) c/\ ∀ rv,fn.results.toList[j]?=some rv->(xS a.tmps rv).run P x.w=.ok c x.w:=λj hj=>by
      obtain ⟨s,hs1,hs2⟩:=g4 j vs[j] (List.getElem?_eq_getElem hj);obtain ⟨rv,hr1,hr2⟩:=g2 j s hs1;obtain ⟨c,hc1,hc2⟩:=aNx hr2 hx hT hs2;refine ⟨c,by simpa [hj] using hc2,λrv' hrv'=>?_⟩;have:rv'=rv:=by have:=hrv'.symm.trans hr1; simpa using this
      subst this; exact hc1
    have choice: ∃ f:Nat->Value,∀ j,j < vs.length->R x (vs.getD j xR) (f j)/\ ∀ rv,fn.results.toList[j]?=some rv->(xS a.tmps rv).run P x.w=.ok (f j) x.w:=
      ⟨λj=>if h:j < vs.length then Classical.choose (ex j h) else undef,λj hj=>by
        simp only [hj,dif_pos]; exact Classical.choose_spec<|ex j hj⟩
    obtain ⟨f,hf⟩:=choice;refine ⟨(List.range vs.length).map f,⟨SI,λj v hj=>?_⟩,?_⟩
    . have hlt:=(List.getElem?_eq_some_iff.1 hj).1
      have h1:=(hf j hlt).1;have e1:vs.getD j xR=v:=by rw [List.getD_eq_getElem?_getD,hj]; rfl
      have e2:((List.range vs.length).map f).getD j undef=f j:=by simp [hlt]
      rw [e2,<- e1]; exact h1
    . rw [Array.mapM_eq_mapM_toList]
      have:=aH5 (P:=P) (w:=x.w) (f:=xS a.tmps) fn.results.toList ((List.range vs.length).map f) (by simp [g3,g1]) (λj rv b h1 h2=>by
          have hlt:j < vs.length:=by have:=(List.getElem?_eq_some_iff.1 h2).1; simpa using this
          have e2:b=f j:=by simp [hlt] at h2; exact h2.symm
          subst e2;exact (hf j hlt).2 rv h1)
      simp only [Sem.run_map,this,Result.andThen_ok]
  cases hm:iY (pZ T x.H) res with
  |none=>rw [hm] at hv; cases hv
  | some vs =>
    obtain ⟨cs,hR,hrun⟩:=key vs hm;have hsz:cs.toArray.size=vs.length:=by simp [hR.1]
    rw [hm] at hv;by_cases h1:vs.length=1
    . obtain ⟨u,rfl⟩: ∃ u,vs=[u]:=by
        cases vs with
        |nil=>simp at h1
        | cons u l => cases l with
          |nil=>exact ⟨u,rfl⟩
          |cons u' l=>simp at h1
      cases hv
      obtain ⟨c,rfl⟩: ∃ c,cs=[c]:=by
        have:=hR.1;cases cs with
        |nil=>simp at this
        | cons u l => cases l with
          |nil=>exact ⟨u,rfl⟩
          |cons u' l=>simp at this
      refine ⟨c,?_,hR.2 0 _ J⟩;rw [aBC];simp only [Sem.run_bind,hrun]
      rfl
    . have hv':V.tup vs=v:=by
        cases vs with
        |nil=>simpa using hv
        | cons u l => cases l with
          |nil=>simp at h1
          |cons u' l=>simpa using hv
      subst hv';refine ⟨.tuple cs.toArray,?_,.tup vs _ hsz λj u hj=>?_⟩
      . rw [aBC]
        simp only [Sem.run_bind,hrun,Result.andThen_ok,Sem.run_pure];rw [dif_neg (by rw [hsz]; exact h1)]
      . have:=hR.2 j u hj
        rw [Array.getD_eq_getD_getElem?,List.getElem?_toArray,<- List.getD_eq_getElem?_getD];exact this
theorem aGl {x:Cx} {n:Nat} {args:List V} {cs:List Value} (h:RL x args cs) (hl:args.length<=n):
    TRel [] n x (T0 args) {tmps:=cs.toArray++Array.replicate (n - cs.toArray.size) undef,defers:=[]}:=by
  refine ⟨λi=>?_,J,by simp [h.1]; omega⟩;have hsz:cs.toArray.size=args.length:=by simp [h.1]
  simp only [T0];rw [Array.getD_eq_getD_getElem?,Array.getElem?_append];by_cases hi:i < args.length
  . rw [if_pos OM]
    have:=h.2 i args[i] (List.getElem?_eq_getElem hi);rw [List.getD_eq_getElem?_getD,List.getElem?_eq_getElem hi,List.getElem?_toArray,<- List.getD_eq_getElem?_getD];exact this
  . rw [if_neg OM,List.getD_eq_getElem?_getD,List.getElem?_eq_none OM,Array.getElem?_replicate]
    simp only [Option.getD_none];split
    . exact .raw undef J
    . exact .raw undef J
theorem aBL {f : Nat} {fn : Func} {s : SF} (hf : P.funcs[f]? = some fn) (hs : mO P op fn = some s) {x : Cx} {args : List V} {cs : List Value} {K : V -> bC -> Prop}
    (hl:args.length<=s.n) (hW:W P k0 s.body (xN s.res K) (T0 args) x.H) (hx:Inv x) (hr:RL x args cs):
    Calls P f cs.toArray x.w λe w'=> ∃ c v y,e=.returned c/\y.w=w'/\K v y.H/\Inv y/\R y v c/\Frame x y:=by
  unfold mO at hs;split at hs
  . cases hs
  . rename_i c hc
    split at hs
    . rename_i sb r h1 h2
      cases hs;refine calls_of_wp hf hc<|wp_mono (aNa c sb h1 _ x x (T0 args) _ hW hx (aGl hr hl)<|Frame.refl x) ?_
      intro e a' w' hp;obtain ⟨e',T',y,he,hw,hq,hy,hT',hF'⟩:=hp
      have fin:pT (vW r T' y.H) (λv=>K v y.H)->a'.defers=[]/\ ∃ v,(results fn a'.tmps).run P w'=.ok v w'/\(∃ c u z,Ending.returned v=.returned c/\z.w=w'/\K u z.H/\Inv z/\R z u c/\Frame x z):=by
        intro h;obtain ⟨v,h3,h4⟩:=cJ.1 h;obtain ⟨c,h5,h6⟩:=aEu h2 hy hT' h3;exact ⟨hT'.defers,c,by rw [<- hw]; exact h5,c,v,y,J,hw,h4,hy,h6,hF'⟩
      cases e with
      |normal=>cases he; exact fin hq
      |ret=>cases he; exact fin hq
      |exit id=>cases he; exact hq.elim
      |goto l=>cases he
      |panic l=>obtain ⟨c,rfl⟩:=sY he; exact hq.elim
      |outgrown=>cases he
    . cases hs
theorem uF {f : Nat} {fn : Func} {s : SF} (hf : P.funcs[f]? = some fn) (hs : mO P op fn = some s) (hn : (fn.name == "runtime.NumGoroutine") = false) : fT P f := by
  refine ⟨fn,hf,?_,hn⟩;unfold mO at hs;split at hs
  . cases hs
  . rename_i c hc; rw [hc]; rfl
end
end Go.Proofs.YtinpihlhcmpkhaaGreat


namespace Go.Proofs.YtinpihlhcmpkhaaGreat
open Go
mutual
def V.pure:V->Bool
  | .sl rows=>mN rows
  | .pp cells=>gF cells
  | .agg cells=>gF cells
  | .tup vs=>gF vs
  | .fn _ a b=>gF a&&gF b
  | .ms _ _ _ _=>false
  | .mp _ _ _ _=>false
  | .mm _ _=>false
  | .int _ _=>true
  | .bool _=>true
  | .str _=>true
  | .nilsl=>true
  | .nilp=>true
  | .raw _=>true
def gF:List V->Bool
  |[]=>true
  |v::l=>v.pure&&gF l
def mN:List (List V)->Bool
  |[]=>true
  |r::l=>gF r&&mN l
end
theorem fM {l:List V}:gF l=true↔ ∀ v∈l,v.pure=true:=by
  induction l with
  |nil=>simp [gF]
  |cons v l ih=>simp [gF,ih]
theorem lK {l:List (List V)}:mN l=true↔ ∀ r∈l,gF r=true:=by
  induction l with
  |nil=>simp [mN]
  |cons v l ih=>simp [mN,ih]
theorem R.pure_at {x y:Cx} {v:V} {c:Value} (h:R x v c) (hp:v.pure=true) (hw:y.w=x.w) (hz: ∀ b,x.Z b->y.Z b):R y v c:=by
  induction h with
  |int k n=>exact .int k n
  |bool b=>exact .bool b
  |str s=>exact .str s
  |nilsl=>exact .nilsl
  |slnil=>exact .slnil
  | sl rows a cap sz cs hc hm hzz hsz hcell _ ih =>
    simp only [V.pure] at hp;refine .sl rows a cap sz cs hc hm (λhne=>hz _<|hzz hne) hsz (λr row j v hr hj=>by rw [hw]; exact hcell r row j v hr hj) λr row j v hr hj=>ih r row j v hr hj ?_;exact fM.1 (lK.1 hp row<|List.mem_of_getElem? hr) v<|List.mem_of_getElem? hj
  |ms=>simp [V.pure] at hp
  | pp cells a cs hzz hcell _ ih =>
    simp only [V.pure] at hp;exact .pp cells a cs (λhne=>hz _<|hzz hne) (λj v hj=>by rw [hw]; exact hcell j v hj) λj v hj=>ih j v hj<|fM.1 hp v<|List.mem_of_getElem? hj
  |nilp=>exact .nilp
  |mp=>simp [V.pure] at hp
  |mm=>simp [V.pure] at hp
  | agg cells cs hs _ ih =>
    simp only [V.pure] at hp;exact .agg cells cs hs λj v hj=>ih j v hj<|fM.1 hp v<|List.mem_of_getElem? hj
  | tup vs cs hs _ ih =>
    simp only [V.pure] at hp;exact .tup vs cs hs λj v hj=>ih j v hj<|fM.1 hp v<|List.mem_of_getElem? hj
  | fn f first caps fs cs hfs hcs _ _ ih1 ih2 =>
    simp only [V.pure,Bool.and_eq_true] at hp;exact .fn f first caps fs cs hfs hcs (λj v hj=>ih1 j v hj<|fM.1 hp.1 v<|List.mem_of_getElem? hj) λj v hj=>ih2 j v hj<|fM.1 hp.2 v<|List.mem_of_getElem? hj
  |raw c hh=>exact .raw c hh
theorem RL.pure_at {x y:Cx} {vs:List V} {cs:List Value} (h:RL x vs cs) (hp:gF vs=true) (hw:y.w=x.w) (hz: ∀ b,x.Z b->y.Z b):RL y vs cs:=
  ⟨h.1,λj v hj=>(h.2 j v hj).pure_at (fM.1 hp v<|List.mem_of_getElem? hj) hw hz⟩
def zR (x:Cx):Cx:={x with Z:=λb=>x.Z b\/ ∃ id,(x.H id).own=true/\x.σ id=b,H:=λid=>{x.H id with live:=false}}
theorem aEb {x:Cx} (hx:Inv x):Inv (zR x)/\Frame x (zR x):=by
  have hno: ∀ id,((zR x).H id).own=true->False:=λid h=>by simp [zR,Blk.own] at h
  refine ⟨⟨λb h=>?_,λb id _ h=>(hno id h).elim,λid h=>(hno id h).elim,λi j h=>(hno i h).elim,λp hp=>⟨.inl (hx.tab p hp).1,(hx.tab p hp).2⟩⟩,⟨J,J,J,Nat.le_refl _,λ_ _ _=>J,λb h=>.inl h,λb h=>?_,λid=>⟨Nat.le_refl _,λh=>by simp [zR] at h⟩,λid h=>(hno id h).elim,Nat.le_refl _,λid h=>by simp [zR] at h⟩⟩
  . rcases h with h|⟨id,h,rfl⟩
    . exact hx.zlt b h
    . exact hx.lt h
  . rcases h with h|h
    . exact .inl h
    . exact .inr (.inr h)
def H0:bC:=λ_=>⟨0,false,false,0,0,[]⟩
def start (x:Cx) (Z:Nat->Prop):Cx:={w:=x.w,Z:=Z,σ:=λ_=>0,H:=H0}
theorem xG (id:Nat):(H0 id).own=true->False:=λh=>by simp [H0,Blk.own] at h
theorem uV {x:Cx} {Z:Nat->Prop} (hZ: ∀ b,Z b->b < x.w.heap.size) (ht:aNy x.w Z):Inv (start x Z):=
  ⟨hZ,λ_ id _ h=>(xG id h).elim,λid h=>(xG id h).elim,λi _ h=>(xG i h).elim,ht⟩
theorem back {x y:Cx} (hx:Inv x) {Z:Nat->Prop} (hf:Frame (start x Z) y) (_hy:Inv y) {Z':Nat->Prop} (h1: ∀ b,x.Z b->Z' b) (h2: ∀ b,Z' b->x.Z b\/(x.w.heap.size<=b/\b < y.w.heap.size)):
    let z:Cx:={w:=y.w,Z:=Z',σ:=x.σ,H:=x.H}
    Inv z/\Frame x z:=by
  intro z;have hkeep: ∀ b,b < x.w.heap.size->y.w.heap[b]?=x.w.heap[b]?:=λb hb=>hf.keep b hb λid h=>(xG id h).elim
  have hF:Frame x z:=by
    refine ⟨hf.os,hf.tape,hf.output,hf.size,λb hb _=>hkeep b hb,h1,λb hb=>?_,λid=>⟨Nat.le_refl _,λh _=>⟨h,J,J,λ_=>J,λho=>⟨J,?_⟩⟩⟩,λid h=>.inl ⟨h,J⟩,hf.drawn,λ_ _ _=>J⟩
    . rcases h2 b hb with h|h
      . exact .inl h
      . exact .inr (.inl h.1)
    . unfold fD
      rw [show z.w.heap[x.σ id]?=x.w.heap[x.σ id]? from hkeep _ (hx.lt ho)]
  have hs:x.w.heap.size<=y.w.heap.size:=hf.size;refine ⟨⟨λb hb=>?_,λb id hb ho=>?_,λid ho=>?_,hx.inj,hx.tab_of hF⟩,hF⟩
  . rcases h2 b hb with h|h
    . have:=hx.zlt b h; show b < y.w.heap.size; omega
    . exact h.2
  . rcases h2 b hb with h|h
    . exact hx.zown b id h ho
    . have:=hx.lt ho
      intro e;have e':x.σ id=b:=e;omega
  . obtain ⟨cc,g1,g2,g3,g4⟩:=hx.blk id ho
    exact ⟨cc,by rw [show z.w.heap[x.σ id]?=x.w.heap[x.σ id]? from hkeep _ (hx.lt ho)]; exact g1,g2,g3,λr row j v hr hj=>(g4 r row j v hr hj).frame hx hF⟩
def bK (P:Program) (f:Nat) (args:List V) (v:V):Prop:= ∀ H,fA P f args H v H
section
variable {P:Program} {op:Opt}
theorem bK.roc {f:Nat} {args:List V} {v:V} (h:bK P f args v) (H:bC):ROC P f args H v:=λH' _=>h H'
def V.scalar : V -> Bool
  | .int _ _=>true
  | .bool _=>true
  | .str _=>true
  | .agg cs => cs.all λv => match v with
    | .int _ _=>true
    | .bool _=>true
    | .str _=>true
    |_=>false
  | .tup cs => cs.all λv => match v with
    | .int _ _=>true
    | .bool _=>true
    | .str _=>true
    |_=>false
  |_=>false
theorem aLH {x y:Cx} {v:V} {c:Value} (h:R x v c) (hs:v.scalar=true):R y v c:=by
  have one: ∀ {u:V} {d:Value},R x u d->(match u with| .int _ _=>true| .bool _=>true| .str _=>true|_=>false)=true->R y u d:=by
    intro u d hu hb;cases hu <;> first|(simp at hb; done)|exact .int _ _|exact .bool _|exact .str _
  cases h with
  |int k n=>exact .int k n
  |bool b=>exact .bool b
  |str s=>exact .str s
  | agg cells cs hl hr =>
    simp only [V.scalar,List.all_eq_true] at hs;exact .agg cells cs hl λj v hj=>one (hr j v hj)<|hs v<|List.mem_of_getElem? hj
  | tup cells cs hl hr =>
    simp only [V.scalar,List.all_eq_true] at hs;exact .tup cells cs hl λj v hj=>one (hr j v hj)<|hs v<|List.mem_of_getElem? hj
  |_=>simp [V.scalar] at hs
end
end Go.Proofs.YtinpihlhcmpkhaaGreat


namespace Go.Proofs.YtinpihlhcmpkhaaGreat
open Go
def fQ (z : Bool) (H : bC) : Nat -> V -> V
  |0,v=>v
  | n + 1, v => match v with
    | .nilsl=>if z then .sl [] else .nilsl
    | .ms id ver off len=>if (H id).live&&decide ((H id).ver=ver) then .sl ((((H id).rows.drop off).take len).map λr=>r.map (fQ z H n)) else .ms id ver off len
    | .mp id ver row off => if (H id).own && decide ((H id).ver = ver) then match (H id).rows[row]? with
        |some r=>.pp ((r.drop off).map (fQ z H n))
        |none=>.mp id ver row off
      else .mp id ver row off
    | .agg cs=>.agg (cs.map (fQ z H n))
    | .tup vs=>.tup (vs.map (fQ z H n))
    | .fn f a b=>.fn f (a.map (fQ z H n)) (b.map (fQ z H n))
    | .sl rows=>.sl (rows.map λr=>r.map (fQ z H n))
    | .pp cells=>.pp (cells.map (fQ z H n))
    |v=>v
theorem iE {α β:Type} {f:α->β} {l:List α} {j:Nat} {b:β} (h:(l.map f)[j]?=some b): ∃ a,l[j]?=some a/\b=f a:=by
  rw [List.getElem?_map] at h;obtain ⟨a,h1,h2⟩:=map_some h;exact ⟨a,h1,by first|exact h2|exact h2.symm⟩
variable {z:Bool}
theorem aLc {x : Cx} (hx : Inv x) : ∀ (n : Nat) {v : V} {c : Value}, R x v c -> R (zR x) (fQ z x.H n v) c := by
  have hf:=(aEb hx).2;intro n
  induction n with
  |zero=>intro v c h; exact h.frame hx hf
  | succ n ih =>
    intro v c h;cases h with
    |int k n=>exact .int k n
    |bool b=>exact .bool b
    |str s=>exact .str s
    |nilsl=>cases z <;> simp only [fQ] <;> first|exact .nilsl|exact .slnil
    |slnil=>exact .slnil
    |nilp=>exact .nilp
    |raw c hh=>exact .raw c hh
    |mm id ver b hv hh=>exact (R.mm id ver b hv hh).frame hx hf
    | agg cells cs hs hr =>
      refine .agg _ cs (by simpa using hs) λj v hj=>?_;obtain ⟨u,hu,rfl⟩:=iE hj;exact ih<|hr j u hu
    | tup vs cs hs hr =>
      refine .tup _ cs (by simpa using hs) λj v hj=>?_;obtain ⟨u,hu,rfl⟩:=iE hj;exact ih<|hr j u hu
    | fn f first caps fs cs hfs hcs hff hc =>
      refine .fn f _ _ fs cs (by simpa using hfs) (by simpa using hcs) (λj v hj=>?_) λj v hj=>?_
      . obtain ⟨u,hu,rfl⟩:=iE hj
        exact ih<|hff j u hu
      . obtain ⟨u,hu,rfl⟩:=iE hj
        exact ih<|hc j u hu
    | sl rows a cap sz cs hc hm hz hsz hcell hh =>
      have key:=R.sl (x:=zR x) (rows.map λr=>r.map<|fQ z x.H n) a cap sz cs (by simpa using hc) hm (λhne=>.inl (hz (by simpa using hne)))
        (λr hr=>by obtain ⟨r',hr',rfl⟩:=List.mem_map.1 hr; simpa using hsz r' hr')
        (λr row j v hr hj=>by
          obtain ⟨row',h1,rfl⟩:=iE hr;obtain ⟨v',h2,rfl⟩:=iE hj;exact hcell r row' j v' h1 h2)
        (λr row j v hr hj=>by
          obtain ⟨row',h1,rfl⟩:=iE hr;obtain ⟨v',h2,rfl⟩:=iE hj;exact ih<|hh r row' j v' h1 h2)
      simpa [fQ] using key
    | pp cells a cs hz hcell hh =>
      refine .pp _ a cs (λhne=>.inl (hz (by simpa using hne))) (λj v hj=>?_) λj v hj=>?_
      . obtain ⟨u,hu,rfl⟩:=iE hj
        exact hcell j u hu
      . obtain ⟨u,hu,rfl⟩:=iE hj
        exact ih<|hh j u hu
    | mp id ver row off p hv hh hm =>
      simp only [fQ];split
      . rename_i hc
        simp only [Bool.and_eq_true,decide_eq_true_eq] at hc;split
        . rename_i r hr
          obtain ⟨cc,g1,g2,g3,g4⟩:=hx.cel id hc.1<|hm hc.2 hc.1
          have e:=hh hc.2 hc.1;subst e;have hrow:=g2 r<|List.mem_of_getElem? hr
          have hlt:=(List.getElem?_eq_some_iff.1 hr).1;refine .pp _ _ (λj=>cc.getD (row*(x.H id).sz+off+j) undef) (λ_=>.inr ⟨id,hc.1,J⟩) (λj v hj=>?_) λj v hj=>?_
          . obtain ⟨u,hu,rfl⟩:=iE hj
            rw [List.getElem?_drop] at hu;have h9:=(iG g2 g3 hr hu).1;rw [Addr.add_lit];exact mR g1 OM
          . obtain ⟨u,hu,rfl⟩:=iE hj
            rw [List.getElem?_drop] at hu;have h10:=g4 _ _ _ _ hr hu;rw [<- Nat.add_assoc] at h10;exact ih h10
        . exact (R.mp id ver row off p hv hh hm).frame hx hf
      . exact (R.mp id ver row off p hv hh hm).frame hx hf
    | ms id ver off len b m cap hv hh hm =>
      simp only [fQ];split
      . rename_i hc
        simp only [Bool.and_eq_true,decide_eq_true_eq] at hc;obtain ⟨e1,e2,e3,e4,e5,e6⟩:=hh hc.2 hc.1;subst e1;have hlen:(((x.H id).rows.drop off).take m).length=m:=by simp; omega
        cases ho:(x.H id).own with
        | false =>
          have e8:=e6 ho;have hm0:m=0:=OM
          subst hm0; subst e8;simpa using R.sl0 _
        | true =>
          obtain ⟨e7,e8⟩:=e5 ho;subst e7;obtain ⟨cc,h1,h2,h3,h4⟩:=hx.cel id ho<|hm hc.2 hc.1
          have hidx: ∀ (r:Nat) (row:List V),(((x.H id).rows.drop off).take m)[r]?=some row->(x.H id).rows[off+r]?=some row:=by
            intro r row hr;simp only [List.getElem?_take,List.getElem?_drop] at hr;split at hr
            . exact hr
            . cases hr
          have key:=R.sl (x:=zR x) ((((x.H id).rows.drop off).take m).map λr=>r.map<|fQ z x.H n) ⟨x.σ id,off*(x.H id).sz,none⟩ cap (x.H id).sz
            (λk=>cc.getD (off*(x.H id).sz+k) undef) (by rw [List.length_map]; omega) e3 (λ_=>.inr ⟨id,ho,J⟩)
            (λr hr=>by
              obtain ⟨r',hr',rfl⟩:=List.mem_map.1 hr;rw [List.length_map];exact h2 r'<|List.mem_of_mem_drop<|List.mem_of_mem_take hr')
            (λr row q v hr hj=>by
              obtain ⟨row',g1,rfl⟩:=iE hr;obtain ⟨v',g2,rfl⟩:=iE hj;have h8:=hidx _ _ g1;have h9:=(iG h2 h3 h8 g2).1;rw [Nat.add_mul] at h9;rw [Addr.add_lit];exact mR h1 OM)
            (λr row q v hr hj=>by
              obtain ⟨row',g1,rfl⟩:=iE hr;obtain ⟨v',g2,rfl⟩:=iE hj;have h8:=hidx _ _ g1;have h10:=h4 _ _ _ _ h8 g2;rw [show (off+r)*(x.H id).sz+q=off*(x.H id).sz+(r*(x.H id).sz+q) by rw [Nat.add_mul]; omega] at h10;exact ih h10)
          rw [List.length_map,hlen] at key;exact key
      . exact (R.ms id ver off len b m cap hv hh hm).frame hx hf
section
variable {P:Program} {op:Opt}
theorem aGC (z : Bool) (n : Nat) {f : Nat} {fn : Func} {s : SF} (hf : P.funcs[f]? = some fn) (hs : mO P op fn = some s) (hn : (fn.name == "runtime.NumGoroutine") = false) {args : List V} {v : V}
    (hl:args.length<=s.n) (ha:gF args=true) (hv:v.pure=true) (hW:W P 0 s.body (xN s.res λu G=>fQ z G n u=v) (T0 args) H0):bK P f args v:=by
  intro H;refine ⟨uF hf hs hn,λx cs hxH hx hr=>?_⟩;subst hxH;have hI:=uV (x:=x) (Z:=x.Z) hx.zlt hx.tab;refine (aBL (x:=start x x.Z) hf hs hl hW hI (hr.pure_at ha J λ_ h=>h)).mono λe w' h=>?_;obtain ⟨c,u,y,h1,h2,h4,h5,h6,h7⟩:=h;obtain ⟨sI,sF⟩:=aEb h5;have hR:=aLc (z:=z) h5 n h6;rw [h4] at hR
  obtain ⟨zI,zF⟩:=back hx h7 h5 (Z':=(zR y).Z) (λb hb=>.inl (h7.zone b hb)) (λb hb=>by
    have hlt:b < y.w.heap.size:=sI.zlt b hb;rcases hb with hb|⟨id,ho,rfl⟩
    . rcases h7.zold b hb with h|h|⟨id,h,_⟩
      . exact .inl h
      . exact .inr ⟨h,hlt⟩
      . exact (xG id h).elim
    . rcases h7.fresh id ho with ⟨h,_⟩|h
      . exact (xG id h).elim
      . exact .inr ⟨h,hlt⟩)
  exact ⟨c,{w:=y.w,Z:=(zR y).Z,σ:=x.σ,H:=x.H},h1,h2,J,zI,hR.pure_at hv J λ_ h=>h,zF⟩
theorem aM3 {H H' : bC} (hext : Ext H H') : ∀ (n : Nat) (v : V), (fQ z H n v).pure = true -> fQ z H' n v = fQ z H n v := by
  intro n
  induction n with
  |zero=>intro v _; rfl
  | succ n ih =>
    have il: ∀ l:List V,gF (l.map<|fQ z H n)=true->l.map (fQ z H' n)=l.map (fQ z H n):=λl hp=>
      List.map_congr_left λa ha=>ih a<|fM.1 hp _<|List.mem_map_of_mem ha
    have ill: ∀ l:List (List V),mN (l.map λr=>r.map<|fQ z H n)=true->(l.map λr=>r.map<|fQ z H' n)=l.map λr=>r.map (fQ z H n):=λl hp=>
      List.map_congr_left λa ha=>il a<|lK.1 hp _<|List.mem_map_of_mem ha
    intro v hp;cases v with
    | ms id ver off len =>
      simp only [fQ] at hp ⊢;split at hp
      . rename_i hc
        have hl:(H id).live=true:=by simp at hc; exact hc.1
        rw [hext id hl];rw [if_pos hc,if_pos hc];simp only [V.pure] at hp;rw [ill _ hp]
      . simp [V.pure] at hp
    | mp id ver row off =>
      simp only [fQ] at hp ⊢;split at hp
      . rename_i hc
        have hl:(H id).live=true:=by simp [Blk.own] at hc; exact hc.1.1
        rw [hext id hl,if_pos hc,if_pos hc];split at hp
        . rename_i r hr
          simp only [V.pure] at hp
          first|rw [hr]|skip
          show V.pp _=V.pp _;rw [il _ hp]
        . simp [V.pure] at hp
      . simp [V.pure] at hp
    |agg cs=>simp only [fQ,V.pure] at hp ⊢; rw [il _ hp]
    |tup cs=>simp only [fQ,V.pure] at hp ⊢; rw [il _ hp]
    |pp cs=>simp only [fQ,V.pure] at hp ⊢; rw [il _ hp]
    |sl cs=>simp only [fQ,V.pure] at hp ⊢; rw [ill _ hp]
    | fn f a b =>
      simp only [fQ,V.pure,Bool.and_eq_true] at hp ⊢;rw [il _ hp.1,il _ hp.2]
    |_=>rfl
theorem bK.lendz (z:Bool) (n:Nat) {f:Nat} {args:List V} {H:bC} {v:V} (h:bK P f (args.map (fQ z H n)) v) (hp:gF (args.map (fQ z H n))=true) (hs:v.scalar=true):ROC P f args H v:=by
  intro H' hext;have h':=h H0;refine ⟨h'.1,λx cs hxH hx hr=>?_⟩;subst hxH;obtain ⟨sI,sF⟩:=aEb hx;have hI:=uV (x:=x) (Z:=(zR x).Z) sI.zlt sI.tab
  have hrr:RL (start x (zR x).Z) (args.map<|fQ z H n) cs:=by
    refine ⟨by simpa using hr.1,λj v hj=>?_⟩;have hvp:=fM.1 hp v<|List.mem_of_getElem? hj
    obtain ⟨u,hu,rfl⟩:=iE hj;have:=aLc (z:=z) hx n<|hr.2 j u hu
    rw [aM3 hext n u hvp] at this;exact this.pure_at hvp J λ_ h=>h
  refine (h'.2 (start x (zR x).Z) cs J hI hrr).mono λe w' hq=>?_;obtain ⟨c,y,h1,h2,h3,h4,h5,h6⟩:=hq;obtain ⟨zI,zF⟩:=back hx h6 h4 (Z':=x.Z) (λ_ h=>h) (λb h=>.inl h);exact ⟨c,{w:=y.w,Z:=x.Z,σ:=x.σ,H:=x.H},h1,h2,J,zI,aLH h5 hs,zF⟩
theorem aC3 {H H':bC}: ∀ (n:Nat) (v:V),v.pure=true->fQ z H' n v=fQ z H n v/\(fQ z H n v).pure=true:=by
  intro n
  induction n with
  |zero=>intro v h; exact ⟨rfl,h⟩
  | succ n ih =>
    have il: ∀ l:List V,gF l=true->l.map (fQ z H' n)=l.map (fQ z H n)/\gF (l.map<|fQ z H n)=true:=λl hp=>
      ⟨List.map_congr_left λa ha=>(ih a<|fM.1 hp _ ha).1,fM.2 λv hv=>by obtain ⟨a,ha,rfl⟩:=List.mem_map.1 hv; exact (ih a<|fM.1 hp _ ha).2⟩
    have ill: ∀ l:List (List V),mN l=true->(l.map λr=>r.map<|fQ z H' n)=(l.map λr=>r.map<|fQ z H n)/\mN (l.map λr=>r.map<|fQ z H n)=true:=λl hp=>
      ⟨List.map_congr_left λa ha=>(il a<|lK.1 hp _ ha).1,lK.2 λv hv=>by obtain ⟨a,ha,rfl⟩:=List.mem_map.1 hv; exact (il a<|lK.1 hp _ ha).2⟩
    intro v hv;cases v <;> simp only [V.pure,Bool.and_eq_true] at hv <;> simp only [fQ,V.pure,Bool.and_eq_true,and_self]
    case nilsl=>cases z <;> simp [V.pure,mN]
    case ms=>cases hv
    case mp=>cases hv
    case mm=>cases hv
    case agg=>exact ⟨by rw [(il _ hv).1],(il _ hv).2⟩
    case tup=>exact ⟨by rw [(il _ hv).1],(il _ hv).2⟩
    case pp=>exact ⟨by rw [(il _ hv).1],(il _ hv).2⟩
    case sl=>exact ⟨by rw [(ill _ hv).1],(ill _ hv).2⟩
    case fn=>exact ⟨by rw [(il _ hv.1).1,(il _ hv.2).1],(il _ hv.1).2,(il _ hv.2).2⟩
theorem bK.argz (z:Bool) (n:Nat) {f:Nat} {args:List V} {H:bC} {v:V} (h:bK P f (args.map (fQ z H n)) v) (hp:gF args=true):bK P f args v:=by
  intro H1;have h':=h H1;refine ⟨h'.1,λx cs hxH hx hr=>h'.2 x cs hxH hx ⟨by simpa using hr.1,λj v hj=>?_⟩⟩;obtain ⟨u,hu,rfl⟩:=iE hj;have hup:=fM.1 hp u<|List.mem_of_getElem? hu
  have h1:R (start x x.Z) u (cs.getD j undef):=(hr.2 j u hu).pure_at hup J λ_ h=>h
  have h2:=aLc (z:=z) (uV (x:=x) (Z:=x.Z) hx.zlt hx.tab) n h1;rw [(aC3 n u hup).1] at h2;refine h2.pure_at (aC3 (H':=H) n u hup).2 J λb hb=>?_;rcases hb with hb|⟨id,ho,_⟩
  . exact hb
  . exact (xG id ho).elim
theorem aHq (z:Bool) (n:Nat) {f:Nat} {args us:List V} {H:bC} {v:V} {k:V->bC->Prop} (h:bK P f us v) (ha:args.map (fQ z H n)=us) (hp:gF us=true) (hs:gF args=true\/v.scalar=true)
    (hk:k v H):zD P false f args H k:=by
  subst ha;rcases hs with hs|hs
  . exact ⟨v,(h.argz z n hs).roc H,hk⟩
  . exact ⟨v,h.lendz z n hp hs,hk⟩
end
mutual
def V.canon:V->Bool
  | .sl rows=>hY rows
  | .pp cells=>fC cells
  | .agg cells=>fC cells
  | .tup vs=>fC vs
  | .fn _ a b=>fC a&&fC b
  | .ms _ _ _ _=>false
  | .mp _ _ _ _=>false
  | .mm _ _=>false
  | .int _ _=>true
  | .bool _=>true
  | .str _=>true
  | .nilsl=>false
  | .nilp=>true
  | .raw _=>true
def fC:List V->Bool
  |[]=>true
  |v::l=>v.canon&&fC l
def hY:List (List V)->Bool
  |[]=>true
  |r::l=>fC r&&hY l
end
theorem aB6 {l:List V}:fC l=true↔ ∀ v∈l,v.canon=true:=by
  induction l with
  |nil=>simp [fC]
  |cons v l ih=>simp [fC,ih]
theorem aAN {l:List (List V)}:hY l=true↔ ∀ r∈l,fC r=true:=by
  induction l with
  |nil=>simp [hY]
  |cons v l ih=>simp [hY,ih]
theorem dM {H:bC}: ∀ (n:Nat) (v:V),v.canon=true->fQ z H n v=v:=by
  intro n
  induction n with
  |zero=>intro v _; rfl
  | succ n ih =>
    have il: ∀ l:List V,fC l=true->l.map (fQ z H n)=l:=λl hp=>by
      conv=>rhs; rw [<- List.map_id l]
      exact List.map_congr_left λa ha=>ih a<|aB6.1 hp _ ha
    have ill: ∀ l:List (List V),hY l=true->(l.map λr=>r.map<|fQ z H n)=l:=λl hp=>by
      conv=>rhs; rw [<- List.map_id l]
      exact List.map_congr_left λa ha=>il a<|aAN.1 hp _ ha
    intro v hv;cases v <;> simp only [V.canon,Bool.and_eq_true] at hv <;> simp only [fQ]
    case nilsl=>cases hv
    case ms=>cases hv
    case mp=>cases hv
    case agg=>rw [il _ hv]
    case tup=>rw [il _ hv]
    case pp=>rw [il _ hv]
    case sl=>rw [ill _ hv]
    case fn=>rw [il _ hv.1,il _ hv.2]
theorem eF {H:bC} (n:Nat) (l:List V) (h:fC l=true):l.map (fQ z H n)=l:=by
  conv=>rhs; rw [<- List.map_id l]
  exact List.map_congr_left λa ha=>dM n a<|aB6.1 h _ ha
end Go.Proofs.YtinpihlhcmpkhaaGreat


namespace Go.Proofs.YtinpihlhcmpkhaaGreat
open Go
section
variable {P:Program} {k0:Nat} {Q:Ex->(Nat->V)->bC->Prop} {T:Nat->V} {H:bC}
theorem rU {ops:List SO} {b:SC} (h: ∀ K:(Nat->V)->bC->Prop,(∀ T H,W P k0 b Q T H->K T H)->dL P k0 ops T H K):W P k0 (.seq (.reg ops) b) Q T H:=
  ⟨k0,h _ λ_ _ h=>.done h⟩
theorem aGF {ops:List SO} {b:SC} {late:List Nat} (hl: ∀ d∈late,(H (k0+d)).live=false) (h: ∀ K:(Nat->V)->bC->Prop,(∀ T H,W P k0 b Q T H->K T H)->dL P k0 ops T H K):W P k0 (.seq (.dreg late ops) b) Q T H:=
  ⟨k0,hl,h _ λ_ _ h=>.done h⟩
theorem aFq {ops:List SO} {b:SC} (h: ∀ K:(Nat->V)->bC->Prop,(∀ T H,G (W P k0 b Q) T H->K T H)->dL P k0 ops T H K):W P k0 (.seq (.reg ops) b) Q T H:=
  ⟨k0,h _ λ_ _ h=>h⟩
theorem cS {a b c:SC} (h:W P k0 (.seq a (.seq b c)) Q T H):W P k0 (.seq (.seq a b) c) Q T H:=by
  simp only [W] at h ⊢;refine Eq.mp (congrArg (λq=>W P k0 a q T H) (funext λe=>funext λT=>funext λH=>?_)) h;cases e <;> rfl
theorem dH (h:Q .norm T H):W P k0 .skip Q T H:=h
theorem bF (h:Q .ret T H):W P k0 .ret Q T H:=h
theorem aNt {f:Nat} {args:List V} {v:V} {H':bC} {k:V->bC->Prop} (h:fA P f args H v H') (hk:k v H'):zD P true f args H k:=⟨v,H',h,hk⟩
theorem aB {b:SC} (h:W P k0 b Q T H):W P k0 (.seq .skip b) Q T H:=.done h
theorem aK {b:SC} (h:Q .ret T H):W P k0 (.seq .ret b) Q T H:=h
theorem aT {b:SC} {n:Nat} (h:Q (.exit n) T H):W P k0 (.seq (.exit n) b) Q T H:=h
theorem aBW {c:SX} {a b r:SC} {bb:Bool} (hc:asB (ev T c)=some bb) (h1:bb=true->W P k0 (.seq a r) Q T H) (h2:bb=false->W P k0 (.seq b r) Q T H):W P k0 (.seq (.cond c a b) r) Q T H:=by
  simp only [W,hc,jI] at h1 h2 ⊢;exact ⟨h1,h2⟩
theorem aJI {c:SX} {a b:SC} {bb:Bool} (hc:asB (ev T c)=some bb) (h1:bb=true->W P k0 a Q T H) (h2:bb=false->W P k0 b Q T H):W P k0 (.cond c a b) Q T H:=by
  simp only [W,hc,jI];exact ⟨h1,h2⟩
theorem fZ {id:Nat} {a:SC} (h: ∀ Q':Ex->(Nat->V)->bC->Prop,(∀ T H,Q .norm T H->Q' .norm T H)->(∀ T H,Q .norm T H->Q' (.exit id) T H)->(∀ T H,Q .ret T H->Q' .ret T H)->
    (∀ n T H,n≠id->Q (.exit n) T H->Q' (.exit n) T H)->W P k0 a Q' T H):W P k0 (.block id a) Q T H:=by
  simp only [W];refine h _ (λT H h=>h) (λT H h=>?_) (λT H h=>h) (λn T H hn h=>?_)
  . simp only [if_true]; exact h
  . simp only [if_neg hn]; exact h
theorem cC {a:SC} (I:Nat->(Nat->V)->bC->Prop) (h0: ∃ n,I n T H)
    (h: ∀ n T H,I n T H-> ∀ Q':Ex->(Nat->V)->bC->Prop,(∀ m T H,m < n->I m T H->Q' .norm T H)->(∀ T H,Q .ret T H->Q' .ret T H)->(∀ n T H,Q (.exit n) T H->Q' (.exit n) T H)->W P k0 a Q' T H):W P k0 (.loop a) Q T H:=by
  simp only [W];obtain ⟨n,h0⟩:=h0;exact ⟨I,n,h0,λn T H hI=>h n T H hI _ (λm T H h1 h2=>⟨m,h1,h2⟩) (λ_ _ h=>h) (λ_ _ _ h=>h)⟩
theorem aHd {a:SC} (I:Nat->(Nat->V)->bC->Prop) (h0: ∃ n,I n T H)
    (h: ∀ n T H,I n T H-> ∀ Q':Ex->(Nat->V)->bC->Prop,(∀ m T H,m < n->I m T H->Q' .norm T H)->(∀ T H,Q .ret T H->Q' .ret T H)->(∀ n T H,Q (.exit n) T H->Q' (.exit n) T H)->(∀ c T H,Q (.pan c) T H->Q' (.pan c) T H)->W P k0 a Q' T H):W P k0 (.loop a) Q T H:=by
  simp only [W];obtain ⟨n,h0⟩:=h0;exact ⟨I,n,h0,λn T H hI=>h n T H hI _ (λm T H h1 h2=>⟨m,h1,h2⟩) (λ_ _ h=>h) (λ_ _ _ h=>h) (λ_ _ _ h=>h)⟩
end
attribute [simp] sD jO asB gd ev uG dL St rF aBo zJ unV aBs aGu aB1 aJs iB aKy aFD mnV mxV ptr ldV aFR oN pZ vW iY V.cells V.one ok xN T0 xR V.pure gF mN
def aA {α:Type} [Inhabited α] (l:List α) (k:Nat):α:=l.getD k default
theorem xI {α:Type} [Inhabited α] {l:List α} {k:Nat} (h:k < l.length):l[k]?=some (aA l k):=by
  simp [aA,h]
theorem cP {α:Type} [Inhabited α] {l:List α} {k:Nat} (h:k < l.length):l[k]=aA l k:=by
  simp [aA,h]
theorem mM {α:Type} [Inhabited α] {l:List α} {k:Nat} (h:k < l.length):l.drop k=aA l k::l.drop (k+1):=by
  rw [<- cP h]; exact List.drop_eq_getElem_cons h
abbrev iV (n:Int):V:=.int .i64 n
abbrev cI (n:Int):List V:=[.int .i64 n]
abbrev aE (l:List Int):V:=.sl (l.map cI)
abbrev cL (l:List Int):List V:=[aE l]
abbrev aC (l:List (List Int)):V:=.sl (l.map cL)
@[simp] theorem aIO {α : Type} [Inhabited α] (f : α -> List V) (l : List α) (k : Int) (h0 : 0 <= k) (h : k < l.length) : aFA (l.map f) k = some (f (aA l k.toNat)) := by
  have:k.toNat < l.length:=OM
  simp [aFA,h0,xI this]
@[simp] theorem aQx {α : Type} [Inhabited α] (H : bC) (e : Nat) (f : α -> List V) (l : List α) (kd : IntKind) (k : Int) (h0 : 0 <= k) (h : k < l.length) (he : ∀ a, (f a).length = e) :
    vT H e (.sl (l.map f)) (.int kd k)=some (.pp (f<|aA l k.toNat)):=by
  simp [vT,aIO f l k h0 h,he]
@[simp] theorem aIp {n:Int} (h1: -9223372036854775808<=n) (h2:n < 9223372036854775808):IntKind.i64.wrap n=n:=IntWalk.i64_in n ⟨OM,OM⟩
@[simp] theorem aGo {α : Type} (f : α -> List V) (l : List α) (h : ∀ a, gF (f a) = true) : mN (l.map f) = true := by
  rw [lK]; intro r hr; obtain ⟨a,_,rfl⟩:=List.mem_map.1 hr; exact h a
@[simp] theorem aJU (r:List (List V)):(V.sl r).canon=hY r:=by rw [V.canon]
@[simp] theorem aPN (r:List V):(V.pp r).canon=fC r:=by rw [V.canon]
@[simp] theorem aPL (r:List V):(V.agg r).canon=fC r:=by rw [V.canon]
@[simp] theorem aPK (r:List V):(V.tup r).canon=fC r:=by rw [V.canon]
@[simp] theorem aQh (f:Nat) (a b:List V):(V.fn f a b).canon=(fC a&&fC b):=by rw [V.canon]
@[simp] theorem aQe (a b c d:Nat):(V.ms a b c d).canon=false:=by rw [V.canon]
@[simp] theorem aPZ (a b c d:Nat):(V.mp a b c d).canon=false:=by rw [V.canon]
@[simp] theorem aPJ (k:IntKind) (n:Int):(V.int k n).canon=true:=by rw [V.canon]
@[simp] theorem aPA (b:Bool):(V.bool b).canon=true:=by rw [V.canon]
@[simp] theorem aPH (s:List UInt8):(V.str s).canon=true:=by rw [V.canon]
@[simp] theorem aOC:V.nilsl.canon=false:=by rw [V.canon]
@[simp] theorem aO8:V.nilp.canon=true:=by rw [V.canon]
@[simp] theorem aPI (c:Value):(V.raw c).canon=true:=by rw [V.canon]
@[simp] theorem aOE:fC []=true:=by rw [fC]
@[simp] theorem aOb (v:V) (l:List V):fC (v::l)=(v.canon&&fC l):=by rw [fC]
@[simp] theorem aOA:hY []=true:=by rw [hY]
@[simp] theorem aNE (v:List V) (l:List (List V)):hY (v::l)=(fC v&&hY l):=by rw [hY]
@[simp] theorem aO4 {z:Bool} {H:bC} {n:Nat} {v:V} (h:v.canon=true):fQ z H n v=v:=dM n v h
theorem kB {α:Type} (f:α->List V) (l:List α) (h: ∀ a,fC (f a)=true):hY (l.map f)=true:=by
  rw [aAN]; intro r hr; obtain ⟨a,_,rfl⟩:=List.mem_map.1 hr; exact h a
@[simp] theorem aM8 (l:List Int):hY (l.map cI)=true:=kB _ _ λa=>by simp [cI]
@[simp] theorem aL9 (l:List (List Int)):hY (l.map cL)=true:=kB _ _ λa=>by simp [cL]
end Go.Proofs.YtinpihlhcmpkhaaGreat


namespace Go.Proofs.YtinpihlhcmpkhaaGreat
open Go
structure XF where
  s:SF
  fz:List (Nat×Nat)
abbrev aHM:=Bool->Nat->List V->bC->Option (V×bC)
structure PrimA where
  a:Nat->Nat->List V->bC->Option (V×Blk)
  p:Nat->List V->Option V
def exX (call : aHM) (qa : PrimA) (id : Nat) (x : X) (T : Nat -> V) (H : bC) : Option (V × bC) :=
  match x with
  | .mv a=>some (ev T a,H)
  | .lazy ty sz=>some (.ms id ((H id).ver+1) 0 0,cX H id ⟨(H id).ver+1,true,true,ty,sz,[]⟩)
  | .pick c a b => match asB (ev T c) with
    |some bb=>some (if bb then ev T a else ev T b,H)
    |none=>none
  | .alloc ty z=>some (.mp id ((H id).ver+1) 0 0,cX H id ⟨(H id).ver+1,true,false,ty,z.length,[z]⟩)
  | .box ty _ a=>some (.mp id ((H id).ver+1) 0 0,cX H id ⟨(H id).ver+1,true,false,ty,(ev T a).cells.length,[(ev T a).cells]⟩)
  | .build z ps=>(bld z (ps.map λp=>(p.1,p.2.1,ev T p.2.2))).map λcs=>(.agg cs,H)
  | .bslice ty esz own z len ps=>(uB esz (List.replicate len z) (ps.map λp=>(p.1,ev T p.2))).map λrows=>
      if own then (.ms id ((H id).ver+1) 0 rows.length,cX H id ⟨(H id).ver+1,true,false,ty,esz,rows⟩) else (.sl rows,H)
  | .load agg n a=>((ptr H (ev T a)).bind (ldV agg n)).map λv=>(v,H)
  | .ldp agg n a=>((aMR (ev T a)).bind (ldV agg n)).map λv=>(v,H)
  | .store n a b=>(stP H n (ev T b).cells (ev T a)).map λH'=>(.raw undef,H')
  | .bin op a b=>(rF op (ev T a) (ev T b)).map λv=>(v,H)
  | .sbin op a b=>(aBo op (ev T a) (ev T b)).map λv=>(v,H)
  | .bbin op a b=>(zJ op (ev T a) (ev T b)).map λv=>(v,H)
  | .abin neg q a b=>(aCc neg q (ev T a) (ev T b)).map λv=>(v,H)
  | .un op a=>(unV op (ev T a)).map λv=>(v,H)
  | .conv kd a=>(aBs kd (ev T a)).map λv=>(v,H)
  | .fld off a=>(aGu off (ev T a)).map λv=>(v,H)
  | .part agg off n a=>(aB1 agg off n (ev T a)).map λv=>(v,H)
  | .idx esz a i=>(vT H esz (ev T a) (ev T i)).map λv=>(v,H)
  | .sidx a i=>(aIi (ev T a) (ev T i)).map λv=>(v,H)
  | .aidx agg n len a i=>(aE9 agg n len (ev T a) (ev T i)).map λv=>(v,H)
  | .apos n len a i=>(aIn n len (ev T a) (ev T i)).map λv=>(v,H)
  | .slice esz a lo hi=>(pU H esz (lo.map (ev T)) (hi.map (ev T)) (ev T a)).map λv=>(v,H)
  | .sslice a lo hi=>(aBl (lo.map (ev T)) (hi.map (ev T)) (ev T a)).map λv=>(v,H)
  | .mks ty esz bytes z l c=>(aBJ bytes (ev T l) (ev T c)).map λn=>
      (.ms id ((H id).ver+1) 0 n.1,cX H id ⟨(H id).ver+1,true,false,ty,esz,List.replicate n.1 z⟩)
  | .ext a i=>(aKy i (ev T a)).map λv=>(v,H)
  | .mkf f caps=>some (.fn f [] (uG T caps),H)
  | .bstr a=>(aG8 (ev T a)).map λv=>(v,H)
  | .mkm f a b=>some (.fn f (uG T a) (uG T b),H)
  | .mki ty a=>(aNp (ev T a)).map λc=>(.raw (.iface ty c),H)
  | .tas ty a=>(aNr ty (ev T a)).map λv=>(v,H)
  | .nilck a=>(aGR (ev T a)).map λv=>(v,H)
  | .len a=>(aFR H (ev T a)).map λv=>(v,H)
  | .clr z a=>(aLg H z (ev T a)).map λH'=>(.tup [],H')
  | .cpy n a b=>(aKT H n (ev T b) (ev T a)).map λp=>(.int .i64 p.1,p.2)
  | .slen a=>(aFD (ev T a)).map λv=>(v,H)
  | .mn a b=>(mnV (ev T a) (ev T b)).map λv=>(v,H)
  | .mn3 a b c=>((mnV (ev T a) (ev T b)).bind λu=>mnV u (ev T c)).map λv=>(v,H)
  | .mx a b=>(mxV (ev T a) (ev T b)).map λv=>(v,H)
  | .append ty esz bytes s a => match ev T s with
    | .ms i ver off len => if (H i).live && decide ((H i).ver = ver) then if off = 0 then if len = (H i).rows.length then if (H i).ty = ty then if (H i).sz = esz then
        match aA0 H (ev T a) with
        | some new => if eH esz new = true then if (len + new.length) * bytes <= 140737488355328 then if len + new.length <= 9223372036854775807 then
            some (.ms i (ver+1) 0 (len+new.length),cX H i {H i with ver:=ver+1,rows:=(H i).rows++new})
          else none else none else none
        |none=>none
        else none else none else none else none else none
    |_=>none
  | .call true f args=>call true f (uG T args) H
  | .call false f args => match qa.p f (uG T args) with
    |some v=>some (v,H)
    |none=>call false f (uG T args) H
  | .callA f args=>(qa.a id f (uG T args) H).map λp=>(p.1,cX H id p.2)
  | .callv e g args => match ev T g with
    | .fn f first caps=>call e f (first++uG T args++caps) H
    |_=>none
  | .isnil neg a => match ev T a with
    | .nilsl=>some (.bool (!neg),H)
    | .sl (_::_)=>some (.bool neg,H)
    |_=>none
  | .mkmap=>some (.mm id ((H id).ver+1),cX H id ⟨(H id).ver+1,true,true,aP2,2,[[.nilp,.nilp]]⟩)
  | .mlook kd ok z m x=>(aLd H kd z (ev T m) (ev T x)).map λp=>(if ok then .tup [p.1,.bool p.2] else p.1,H)
  | .mset kd m x v=>(aN6 H kd (ev T m) (ev T x) (ev T v)).map λH'=>(.raw undef,H')
  | .mlen a=>(aN9 H (ev T a)).map λv=>(v,H)
  | .bad=>none
def aC5 (call : aHM) (qa : PrimA) (k0 : Nat) : List SO -> (Nat -> V) -> bC -> Option ((Nat -> V) × bC)
  |[],T,H=>some (T,H)
  | o :: r, T, H => match o.g with
    | none => match exX call qa (k0 + o.d.getD 0) o.x T H with
      |some (v,H')=>aC5 call qa k0 r (jO T o.d v) H'
      |none=>none
    | some (t, want) => match gd want (T t) with
      |true=>match exX call qa (k0+o.d.getD 0) o.x T H with
          |some (v,H')=>aC5 call qa k0 r (jO T o.d v) H'
          |none=>none
      |false=>aC5 call qa k0 r (jO T o.d (.raw undef)) H
def aOd (H:bC) (d k0:Nat):Nat->Nat
  |0=>k0
  |n+1=>if (H (k0+d)).live then aOd H d (k0+65536) n else k0
def kOf (k0:Nat) (fz:List (Nat×Nat)) (H:bC) (ops:List SO):Nat:=match fz.find? (λp=>decide (1000003<=p.2)&&decide (p.2 < 1000000000)&&ops.any λo=>o.d==some p.1) with
  |some p=>aOd H (p.2 - 1000003) k0 200
  |none=>k0
structure LzA where
  id':Nat
  ty:Nat
  sz:Nat
  id:Nat
  off:Nat
def aQi (k0 c:Nat):Nat ⊕ LzA:=if c < 1000000000 then .inl (k0+c) else
  .inr ⟨k0+(c - 1000000000) / 1000000000,(c / 1000000) % 1000,(c / 100000) % 10,k0+(c / 100) % 1000,c % 100⟩
def aKS (k0 : Nat) (fz : List (Nat × Nat)) : SC -> List (Nat ⊕ LzA)
  | .reg ops | .dreg _ ops | .xreg _ ops => ops.foldr (λo l => match o.d with
    |some d=>(fz.filter (λp=>p.1==d&& !(decide (1000003<=p.2)&&decide (p.2 < 1000000000)))).map (λp=>aQi k0 p.2)++l
    |none=>l) []
  | .seq a _=>aKS k0 fz a
  |_=>[]
inductive LzR where
  |no
  |nl (H:bC)
  |fc (id:Nat) (H:bC)
  |fp (s:Nat) (v:V) (H:bC)
def aQE (a : LzA) (T : Nat -> V) (H : bC) : LzR := match Nat.beq a.ty 999 with
  | true => match T (a.id' - a.id) with
    | .mp id ver row off => if (H id).ver = ver /\ (H id).own = true then match (H id).rows[row]? with
        |some r=>.fp (a.id' - a.id) (.pp (r.drop off)) (mT id H)
        |none=>.no
      else .no
    |_=>.no
  | false => match (H a.id).rows with
    | r :: _ => match r[a.off]? with
      |some .nilsl=>if a.id'≠a.id/\(H a.id).own=true/\a.ty < 4294967296 then
          .nl (cX (cX H a.id' ⟨(H a.id').ver+1,true,true,a.ty,a.sz,[]⟩) a.id {H a.id with rows:=(H a.id).rows.set 0 (r.set a.off (.ms a.id' ((H a.id').ver+1) 0 0))}) else .no
      |some (.ms i ver 0 len)=>if i≠a.id'/\a.id≠i/\(H i).live=true/\(H i).ver=ver/\(H a.id).own=true then
          .fc i (cX (mT i H) a.id {H a.id with rows:=(H a.id).rows.set 0 (r.set a.off (.sl ((H i).rows.take len)))}) else .no
      |_=>.no
    |[]=>.no
def lzC (a : LzA) (T : Nat -> V) (H : bC) : LzR := match Nat.beq a.ty 998 with
  | true => match (H a.id).rows[(H a.id).rows.length - 1]? with
    | some r => match r[a.off]? with
      |some (.ms i ver 0 len)=>if a.id≠i/\(H i).live=true/\(H i).ver=ver/\(H a.id).own=true then
          .fc i (cX (mT i H) a.id {H a.id with rows:=(H a.id).rows.set ((H a.id).rows.length - 1) (r.set a.off (.sl ((H i).rows.take len)))}) else .no
      |_=>.no
    |none=>.no
  |false=>aQE a T H
def frz : List (Nat ⊕ LzA) -> (Nat -> V) -> bC -> (Nat -> V) × bC
  |[],T,H=>(T,H)
  | .inl id::l,T,H=>frz l (fzT id H T) (mT id H)
  | .inr a :: l, T, H => match lzC a T H with
    | .no=>frz l T H
    | .nl H'=>frz l T H'
    | .fc i H'=>frz l (fzT i H T) H'
    | .fp s v H'=>frz l (cX T s v) H'
abbrev aKI:=Nat->Nat->List (Nat×Nat)->SC->(Nat->V)->bC->Option (Ex×(Nat->V)×bC)
abbrev aO3:=Nat->List V->bC->Option (V×bC)
def aLv (F : Nat -> Option XF) (run : aKI) (k1 : Nat) : aHM := λe f args H => match F f with
  |none=>none
  | some g => if args.length <= g.s.n then match e with
    | true => match run k1 g.s.n g.fz g.s.body (T0 args) H with
      |some (.exit _,_,_)=>none
      |some (.pan _,_,_)=>none
      |some (_,T',H')=>(vW g.s.res T' H').map λv=>(v,H')
      |none=>none
    | false => if gF (args.map (fQ false H 4)) then match run 0 g.s.n g.fz g.s.body (T0 (args.map (fQ false H 4))) H0 with
        |some (.exit _,_,_)=>none
        |some (.pan _,_,_)=>none
        | some (_, T', H') => match vW g.s.res T' H' with
          |some u=>if (fQ false H' 6 u).pure then if gF args||(fQ false H' 6 u).scalar then some (fQ false H' 6 u,H) else none else none
          |none=>none
        |none=>none
      else none
    else none
def aLM (q : aO3) (F : Nat -> Option XF) (run : aKI) (k1 : Nat) : aHM := λe f args H => match e with
  | true => match q f args H with
    |some r=>some r
    |none=>aLv F run k1 true f args H
  |false=>aLv F run k1 false f args H
def aQB (q : aO3) (qa : PrimA) (F : Nat -> Option XF) (run : aKI) : aKI := λk0 n fz c T H => match c with
  | .skip=>some (.norm,T,H)
  | .ret=>some (.ret,T,H)
  | .exit j=>some (.exit j,T,H)
  | .pop _ _=>none
  | .reg ops=>(aC5 (aLM q F run (kOf k0 fz H ops+n)) qa (kOf k0 fz H ops) ops T H).map λp=>(.norm,p.1,p.2)
  | .dreg late ops=>if late.all (λd=> !(H (kOf k0 fz H ops+d)).live) then (aC5 (aLM q F run (kOf k0 fz H ops+n)) qa (kOf k0 fz H ops) ops T H).map λp=>(.norm,p.1,p.2) else none
  | .xreg ps ops => match aC5 (aLM q F run (kOf k0 fz H ops + n)) qa (kOf k0 fz H ops) ops T H with
    |some (T',H')=>if ddB ps ops T'=true then some (.norm,T',H') else none
    |none=>none
  | .seq a b => match run k0 n fz a T H with
    |some (.norm,T',H')=>run k0 n fz b (frz (aKS k0 fz b) T' H').1 (frz (aKS k0 fz b) T' H').2
    |r=>r
  | .cond c a b => match asB (ev T c) with
    |some true=>run k0 n fz a T H
    |some false=>run k0 n fz b T H
    |none=>none
  | .block id a => match run k0 n fz a T H with
    |some (.exit j,T',H')=>if j=id then some (.norm,T',H') else some (.exit j,T',H')
    |r=>r
  | .loop a => match run k0 n fz a T H with
    |some (.norm,T',H')=>run k0 n fz (.loop a) T' H'
    |r=>r
def run (q:aO3) (qa:PrimA) (F:Nat->Option XF) (m:Nat):aKI:=Nat.rec (λ_ _ _ _ _ _=>none) (λ_ ih=>aQB q qa F ih) m
end Go.Proofs.YtinpihlhcmpkhaaGreat


namespace Go.Proofs.YtinpihlhcmpkhaaGreat
open Go
def ldB (agg:Bool) (n:Nat) (B:Blk) (ver row off:Nat):Option V:=if (B.own&&decide (B.ver=ver))=true then (B.rows[row]?).bind λr=>ldV agg n (r.drop off) else none
def okB (B:Blk) (ver:Nat):Bool:=B.own&&decide (B.ver=ver)
def stB (B : Blk) (ver row off n : Nat) (vs : List V) : Option Blk := if okB B ver = true then if vs.length = n then if vs.all V.one = true then match B.rows[row]? with
    |some r=>if off+n<=r.length then some {B with rows:=B.rows.set row (iD r off vs)} else none
    |none=>none
  else none else none else none
section
variable {P:Program} {k0:Nat} {K:(Nat->V)->bC->Prop} {T:Nat->V} {H:bC} {r:List SO} {d:Nat} {a b c:SX} {v u:V}
theorem eS (h:K T H):dL P k0 [] T H K:=h
theorem aJ (ha:ev T a=v) (h:dL P k0 r (cX T d v) H K):dL P k0 (⟨none,some d,.mv a⟩::r) T H K:=by subst ha; exact h
theorem gG {i n ty sz:Nat} (hi:k0+d=i) (hv:(H i).ver=n) (h:dL P k0 r (cX T d (.ms i (n+1) 0 0)) (cX H i ⟨n+1,true,true,ty,sz,[]⟩) K):dL P k0 (⟨none,some d,.lazy ty sz⟩::r) T H K:=by subst hi; subst hv; exact h
theorem bM {i n ty m:Nat} {z:List V} (hi:k0+d=i) (hv:(H i).ver=n) (hm:z.length=m) (h:dL P k0 r (cX T d (.mp i (n+1) 0 0)) (cX H i ⟨n+1,true,false,ty,m,[z]⟩) K):dL P k0 (⟨none,some d,.alloc ty z⟩::r) T H K:=by simp_all
theorem bS {i n ty q m:Nat} {cs:List V} (hi:k0+d=i) (hv:(H i).ver=n) (ha:ev T a=v) (hc:v.cells=cs) (hm:cs.length=m) (h:dL P k0 r (cX T d (.mp i (n+1) 0 0)) (cX H i ⟨n+1,true,false,ty,m,[cs]⟩) K):
    dL P k0 (⟨none,some d,.box ty q a⟩::r) T H K:=by simp_all
theorem aEg {α:Type} {o:Option α} {x:α} {k:α->Prop} (ho:o=some x) (h:k x):pT o k:=by rw [ho]; exact h
theorem stp {q:X} {o:Option V} (hS: ∀ k:V->bC->Prop,St P (k0+d) q T H k=pT o λv=>k v H) (ho:o=some v) (h:dL P k0 r (cX T d v) H K):dL P k0 (⟨none,some d,q⟩::r) T H K:=by simp only [dL,Option.getD_some,hS,ho,jI]; exact h
theorem aL {agg:Bool} {n:Nat} {cs:List V} (ha:ev T a=.pp cs) (hg:ldV agg n cs=some v) (h:dL P k0 r (cX T d v) H K):dL P k0 (⟨none,some d,.load agg n a⟩::r) T H K:=by simp_all
theorem cQ {agg:Bool} {n id ver row off:Nat} {B:Blk} (ha:ev T a=.mp id ver row off) (hH:H id=B) (hg:ldB agg n B ver row off=some v) (h:dL P k0 r (cX T d v) H K):dL P k0 (⟨none,some d,.load agg n a⟩::r) T H K:=by
  subst hH;refine stp (v:=v) (λ_=>J) ?_ h
  grind [ptr,ldB,ok]
theorem dB {off:Nat} {cs cs':List V} (ha:ev T a=.pp cs) (hd:cs.drop off=cs') (h:dL P k0 r (cX T d (.pp cs')) H K):dL P k0 (⟨none,some d,.fld off a⟩::r) T H K:=by simp_all
theorem aEK {off id ver row o o':Nat} {B:Blk} (ha:ev T a=.mp id ver row o) (hH:H id=B) (hok:okB B ver=true) (ho:o+off=o') (h:dL P k0 r (cX T d (.mp id ver row o')) H K):dL P k0 (⟨none,some d,.fld off a⟩::r) T H K:=by simp_all
theorem dU {n id ver row off:Nat} {B B':Blk} {vs:List V} (ha:ev T a=.mp id ver row off) (hb:ev T b=v) (hc:v.cells=vs) (hH:H id=B) (hst:stB B ver row off n vs=some B') (h:dL P k0 r T (cX H id B') K):
    dL P k0 (⟨none,none,.store n a b⟩::r) T H K:=by
  subst hH; subst hc; subst hb;simp only [dL,St];refine aEg (x:=cX H id B') ?_ h
  grind [stB,stP,ok,okB]
theorem gK {id ver row o:Nat} {B:Blk} (ha:ev T a=.mp id ver row o) (hH:H id=B) (hok:okB B ver=true) (h:dL P k0 r (cX T d (.mp id ver row o)) H K):dL P k0 (⟨none,some d,.nilck a⟩::r) T H K:=by
  subst hH;refine stp (v:=.mp id ver row o) (λ_=>J) ?_ h;rw [ha]; rfl
theorem gN {cs:List V} (ha:ev T a=.pp cs) (h:dL P k0 r (cX T d (.pp cs)) H K):dL P k0 (⟨none,some d,.nilck a⟩::r) T H K:=by
  refine stp (v:=.pp cs) (λ_=>J) ?_ h;rw [ha]; rfl
variable {x y:Int}
theorem aKR {op:BinOp} {w:V} (ha:ev T a=u) (hb:ev T b=w) (hg:rF op u w=some v) (h:dL P k0 r (cX T d v) H K):dL P k0 (⟨none,some d,.bin op a b⟩::r) T H K:=by simp_all
theorem aHU (ha:ev T a=iV x) (hb:ev T b=iV y) (h1: -9223372036854775808<=x+y) (h2:x+y < 9223372036854775808) (h:dL P k0 r (cX T d (iV (x+y))) H K):dL P k0 (⟨none,some d,.bin .add a b⟩::r) T H K:=by simp_all
theorem oC {m n:Nat} (ha:ev T a=iV (m:Nat)) (hb:ev T b=iV (n:Nat)) (h2:m+n < 9223372036854775808) (h:dL P k0 r (cX T d (iV ((m+n:Nat):Int))) H K):dL P k0 (⟨none,some d,.bin .add a b⟩::r) T H K:=by grind [aHU]
theorem mP (ha:ev T a=iV x) (hb:ev T b=iV y) (h1: -9223372036854775808<=x - y) (h2:x - y < 9223372036854775808) (h:dL P k0 r (cX T d (iV (x - y))) H K):dL P k0 (⟨none,some d,.bin .sub a b⟩::r) T H K:=by simp_all
theorem aOr (ha:ev T a=iV x) (hb:ev T b=iV y) (h1: -9223372036854775808<=x*y) (h2:x*y < 9223372036854775808) (h:dL P k0 r (cX T d (iV (x*y))) H K):dL P k0 (⟨none,some d,.bin .mul a b⟩::r) T H K:=by simp_all
theorem bZ (ha:ev T a=iV x) (hb:ev T b=iV y) (h:dL P k0 r (cX T d (.bool (decide (x < y)))) H K):dL P k0 (⟨none,some d,.bin .lss a b⟩::r) T H K:=by simp_all
theorem aFj (ha:ev T a=iV x) (hb:ev T b=iV y) (h:dL P k0 r (cX T d (.bool (decide (x<=y)))) H K):dL P k0 (⟨none,some d,.bin .leq a b⟩::r) T H K:=by simp_all
theorem eD (ha:ev T a=iV x) (hb:ev T b=iV y) (h:dL P k0 r (cX T d (.bool (decide (y < x)))) H K):dL P k0 (⟨none,some d,.bin .gtr a b⟩::r) T H K:=by simp_all
theorem iC (ha:ev T a=iV x) (hb:ev T b=iV y) (h:dL P k0 r (cX T d (.bool (decide (y<=x)))) H K):dL P k0 (⟨none,some d,.bin .geq a b⟩::r) T H K:=by simp_all
theorem eV (ha:ev T a=iV x) (hb:ev T b=iV y) (h:dL P k0 r (cX T d (.bool (decide (x=y)))) H K):dL P k0 (⟨none,some d,.bin .eql a b⟩::r) T H K:=aKR ha hb (by grind [rF]) h
theorem bP (ha:ev T a=iV x) (hb:ev T b=iV y) (h:dL P k0 r (cX T d (.bool (decide (x≠y)))) H K):dL P k0 (⟨none,some d,.bin .neq a b⟩::r) T H K:=aKR ha hb (by grind [rF]) h
theorem qT {p:Prop} [Decidable p] (ha:ev T a=.bool (decide p)) (h:dL P k0 r (cX T d (.bool (decide (¬p)))) H K):dL P k0 (⟨none,some d,.un .not a⟩::r) T H K:=by simp_all
theorem fF {q:Bool} (ha:ev T a=.bool q) (h:dL P k0 r (cX T d (.bool (!q))) H K):dL P k0 (⟨none,some d,.un .not a⟩::r) T H K:=by simp_all
theorem aLF {m n:Nat} (ha:ev T a=iV (m:Nat)) (hb:ev T b=iV (n:Nat)) (h:dL P k0 r (cX T d (iV ((min m n:Nat):Int))) H K):dL P k0 (⟨none,some d,.mn a b⟩::r) T H K:=by
  refine stp (v:=iV ((min m n:Nat):Int)) (λ_=>J) ?_ h
  grind [mnV]
theorem bV (hc:ev T c=.bool true) (ha:ev T a=v) (h:dL P k0 r (cX T d v) H K):dL P k0 (⟨none,some d,.pick c a b⟩::r) T H K:=by simp_all
theorem bT (hc:ev T c=.bool false) (hb:ev T b=v) (h:dL P k0 r (cX T d v) H K):dL P k0 (⟨none,some d,.pick c a b⟩::r) T H K:=by simp_all
theorem aCX {α:Type} [Inhabited α] {e:Nat} {l:List α} {f:α->List V} {k:IntKind} {i:Nat} (ha:ev T a=.sl (l.map f)) (hb:ev T b=.int k (i:Nat)) (hi:i < l.length) (he:(f (aA l i)).length=e)
    (h:dL P k0 r (cX T d (.pp (f<|aA l i))) H K):dL P k0 (⟨none,some d,.idx e a b⟩::r) T H K:=by simp_all [vT]
theorem dR {α:Type} [Inhabited α] {e:Nat} {l:List α} {f:α->List V} {k:IntKind} {i:Int} (ha:ev T a=.sl (l.map f)) (hb:ev T b=.int k i) (h0:0<=i) (hi:i < l.length) (he:(f (aA l i.toNat)).length=e)
    (h:dL P k0 r (cX T d (.pp (f<|aA l i.toNat))) H K):dL P k0 (⟨none,some d,.idx e a b⟩::r) T H K:=by simp_all [vT]
theorem aJx {e:Nat} {rows:List (List V)} {row:List V} {k:IntKind} {i:Int} (ha:ev T a=.sl rows) (hb:ev T b=.int k i) (hi:aFA rows i=some row) (he:row.length=e)
    (h:dL P k0 r (cX T d (.pp row)) H K):dL P k0 (⟨none,some d,.idx e a b⟩::r) T H K:=by simp_all [vT]
theorem pR {e id ver off len i:Nat} {B:Blk} {k:IntKind} (ha:ev T a=.ms id ver off len) (hb:ev T b=.int k (i:Nat)) (hH:H id=B) (hok:okB B ver=true) (hs:B.sz=e) (hi:i < len)
    (h:dL P k0 r (cX T d (.mp id ver (off+i) 0)) H K):dL P k0 (⟨none,some d,.idx e a b⟩::r) T H K:=by
  subst hH;refine stp (v:=.mp id ver (off+i) 0) (λ_=>J) ?_ h;rw [ha,hb];simp only [vT];rw [if_pos (show ok H id ver=true from hok),if_pos hs,if_pos OM];simp
theorem bA {α:Type} {l:List α} {f:α->List V} (ha:ev T a=.sl (l.map f)) (h:dL P k0 r (cX T d (iV (l.length:Nat))) H K):dL P k0 (⟨none,some d,.len a⟩::r) T H K:=by simp_all
theorem aI4 {rows:List (List V)} {n:Nat} (ha:ev T a=.sl rows) (hn:rows.length=n) (h:dL P k0 r (cX T d (iV (n:Nat))) H K):dL P k0 (⟨none,some d,.len a⟩::r) T H K:=by simp_all
theorem dW {id ver off len:Nat} {B:Blk} (ha:ev T a=.ms id ver off len) (hH:H id=B) (hok:(B.live&&decide (B.ver=ver))=true) (h:dL P k0 r (cX T d (iV (len:Nat))) H K):dL P k0 (⟨none,some d,.len a⟩::r) T H K:=by simp_all
theorem aDD {α:Type} {f:α->List V} {e:Nat} (he: ∀ x,(f x).length=e) (l:List α) {lo hi:Nat} {olo ohi:Option V} (h1:iB 0 olo=some lo) (h2:iB l.length ohi=some hi) (h3:lo<=hi) (h4:hi<=l.length):
    pU H e olo ohi (.sl (l.map f))=some (.sl (((l.take hi).drop lo).map f)):=by grind [pU,List.map_drop,List.map_take]
theorem gD {α:Type} {e n:Nat} {l:List α} {f:α->List V} {k:IntKind} {x:SX} (ha:ev T a=.sl (l.map f)) (hx:ev T x=.int k (n:Nat)) (hn:n<=l.length) (he: ∀ x,(f x).length=e)
    (h:dL P k0 r (cX T d (.sl ((l.drop n).map f))) H K):dL P k0 (⟨none,some d,.slice e a (some x) none⟩::r) T H K:=by simp_all [aDD]
theorem nA {α:Type} {e n:Nat} {l:List α} {f:α->List V} {k:IntKind} {x:SX} (ha:ev T a=.sl (l.map f)) (hx:ev T x=.int k (n:Nat)) (hn:n<=l.length) (he: ∀ x,(f x).length=e)
    (h:dL P k0 r (cX T d (.sl ((l.take n).map f))) H K):dL P k0 (⟨none,some d,.slice e a none (some x)⟩::r) T H K:=by simp_all [aDD]
theorem aF8 {α:Type} {e m n:Nat} {l:List α} {f:α->List V} {k k':IntKind} {x y:SX} (ha:ev T a=.sl (l.map f)) (hx:ev T x=.int k (m:Nat)) (hy:ev T y=.int k' (n:Nat)) (hm:m<=n) (hn:n<=l.length) (he: ∀ x,(f x).length=e)
    (h:dL P k0 r (cX T d (.sl (((l.take n).drop m).map f))) H K):dL P k0 (⟨none,some d,.slice e a (some x) (some y)⟩::r) T H K:=by simp_all [aDD]
theorem bN {z cs:List V} {ps:List (Nat×Nat×SX)} {qs:List (Nat×Nat×V)} (hq:ps.map (λp=>(p.1,p.2.1,ev T p.2.2))=qs) (hb:bld z qs=some cs) (h:dL P k0 r (cX T d (.agg cs)) H K):dL P k0 (⟨none,some d,.build z ps⟩::r) T H K:=by simp_all
theorem aS {ty e len:Nat} {z:List V} {ps:List (Nat×SX)} {qs:List (Nat×V)} {rows:List (List V)} (hq:ps.map (λp=>(p.1,ev T p.2))=qs) (hb:uB e (List.replicate len z) qs=some rows) (h:dL P k0 r (cX T d (.sl rows)) H K):
    dL P k0 (⟨none,some d,.bslice ty e false z len ps⟩::r) T H K:=by simp_all
theorem gE {ty e len i n:Nat} {z:List V} {ps:List (Nat×SX)} {qs:List (Nat×V)} {rows:List (List V)} (hi:k0+d=i) (hv:(H i).ver=n) (hq:ps.map (λp=>(p.1,ev T p.2))=qs) (hb:uB e (List.replicate len z) qs=some rows)
    (h:dL P k0 r (cX T d (.ms i (n+1) 0 rows.length)) (cX H i ⟨n+1,true,false,ty,e,rows⟩) K):dL P k0 (⟨none,some d,.bslice ty e true z len ps⟩::r) T H K:=by simp_all
theorem aAO {ty e bytes i n:Nat} {z:List V} {m q:Nat} (hi:k0+d=i) (hv:(H i).ver=n) (ha:ev T a=iV (m:Nat)) (hb:ev T b=iV (q:Nat)) (h1:m<=q) (h2:q*bytes<=281474976710656) (h3:q<=9223372036854775807)
    (h:dL P k0 r (cX T d (.ms i (n+1) 0 m)) (cX H i ⟨n+1,true,false,ty,e,List.replicate m z⟩) K):dL P k0 (⟨none,some d,.mks ty e bytes z a b⟩::r) T H K:=by
  subst hi; subst hv
  have e:aBJ bytes (iV (m:Nat)) (iV (q:Nat))=some (m,q):=by
    grind [aBJ]
  simp_all
theorem aL0 {H:bC} {v:V} {new:List (List V)} (h:oN H v=some new):aA0 H v=some new:=by cases v <;> first|exact h|(simp [oN] at h)
theorem zT {ty e bytes id ver len:Nat} {lz:Bool} {rows new:List (List V)} (ha:ev T a=.ms id ver 0 len) (hH:H id=⟨ver,true,lz,ty,e,rows⟩) (hl:len=rows.length) (hn:oN H (ev T b)=some new) (hf:eH e new=true)
    (h1:(len+new.length)*bytes<=140737488355328) (h2:len+new.length<=9223372036854775807)
    (h:dL P k0 r (cX T d (.ms id (ver+1) 0 (len+new.length))) (cX H id ⟨ver+1,true,lz,ty,e,rows++new⟩) K):dL P k0 (⟨none,some d,.append ty e bytes a b⟩::r) T H K:=by simp_all [aL0]
theorem aM0 {α:Type} {f:α->List V} {e:Nat} {x:α} (he:(f x).length=e) (h1:(f x).all V.one=true):eH e [f x]=true:=by simp [eH,he,h1]
theorem aJc {α:Type} {ty e bytes id ver n:Nat} {lz:Bool} {l:List α} {f:α->List V} {x:α} (ha:ev T a=.ms id ver 0 n) (hH:H id=⟨ver,true,lz,ty,e,l.map f⟩) (hn:n=l.length) (hb:ev T b=.sl [f x]) (he:(f x).length=e) (h1:(f x).all V.one=true)
    (h2:(n+1)*bytes<=140737488355328) (h3:n+1<=9223372036854775807)
    (h:dL P k0 r (cX T d (.ms id (ver+1) 0 (n+1))) (cX H id ⟨ver+1,true,lz,ty,e,(l++[x]).map f⟩) K):dL P k0 (⟨none,some d,.append ty e bytes a b⟩::r) T H K:=by
  refine zT ha hH (by simpa using hn) (new:=[f x]) (by rw [hb]; rfl) (aM0 he h1) (by simpa using h2) (by simpa using h3) ?_;rw [List.map_append] at h;exact h
theorem lQ {α:Type} {ty e bytes id ver n:Nat} {lz:Bool} {l m:List α} {f:α->List V} (ha:ev T a=.ms id ver 0 n) (hH:H id=⟨ver,true,lz,ty,e,l.map f⟩) (hn:n=l.length) (hb:ev T b=.sl (m.map f)) (he: ∀ x,(f x).length=e) (h1: ∀ x,(f x).all V.one=true)
    (h2:(n+m.length)*bytes<=140737488355328) (h3:n+m.length<=9223372036854775807)
    (h:dL P k0 r (cX T d (.ms id (ver+1) 0 (n+m.length))) (cX H id ⟨ver+1,true,lz,ty,e,(l++m).map f⟩) K):dL P k0 (⟨none,some d,.append ty e bytes a b⟩::r) T H K:=by
  refine zT ha hH (by simpa using hn) (new:=m.map f) (by rw [hb]; rfl) ?_ (by simpa using h2) (by simpa using h3) ?_
  . grind [eH]
  grind
theorem jN {f:Nat} {args:List SX} {as0 us:List V} (he:uG T args=as0) (hc:bK P f us v) (ha:as0.map (fQ true H 6)=us) (hp:gF us=true) (hs:gF as0=true\/v.scalar=true) (h:dL P k0 r (cX T d v) H K):
    dL P k0 (⟨none,some d,.call false f args⟩::r) T H K:=by
  subst he;exact aHq true 6 (k:=λv H'=>dL P k0 r (cX T d v) H' K) hc ha hp hs h
theorem iP {f:Nat} {first caps:List V} {g:SX} {args:List SX} {as0 us:List V} (hg:ev T g=.fn f first caps) (he:uG T args=as0) (hc:bK P f us v) (ha:(first++as0++caps).map (fQ true H 6)=us) (hp:gF us=true)
    (hs:gF (first++as0++caps)=true\/v.scalar=true) (h:dL P k0 r (cX T d v) H K):dL P k0 (⟨none,some d,.callv false g args⟩::r) T H K:=by
  subst he;simp only [dL,St];rw [hg];exact aHq true 6 hc ha hp hs h
theorem gA {f:Nat} {args:List SX} {as0:List V} {H':bC} (he:uG T args=as0) (hc:fA P f as0 H v H') (h:dL P k0 r (cX T d v) H' K):dL P k0 (⟨none,some d,.call true f args⟩::r) T H K:=by
  subst he;exact aNt hc h
theorem aBm {f i n:Nat} {args:List SX} {as0:List V} {B:Blk} (hi:k0+d=i) (hv:(H i).ver=n) (he:uG T args=as0) (hl:B.live=true) (hc: ∀ H2:bC,(H2 i).ver=n->fA P f as0 H2 v (cX H2 i B)) (h:dL P k0 r (cX T d v) (cX H i B) K):dL P k0 (⟨none,some d,.callA f args⟩::r) T H K:=by
  subst he; subst hi;exact ⟨v,B,hl,λH2 h2=>hc H2 ((congrArg Blk.ver h2).trans hv),h⟩
theorem bE {i:Nat} {vs:List V} (ha:ev T a=.tup vs) (hi:vs[i]?=some v) (h:dL P k0 r (cX T d v) H K):dL P k0 (⟨none,some d,.ext a i⟩::r) T H K:=by simp_all
theorem yG {f:Nat} {caps:List SX} {cs:List V} (he:uG T caps=cs) (h:dL P k0 r (cX T d (.fn f [] cs)) H K):dL P k0 (⟨none,some d,.mkf f caps⟩::r) T H K:=by subst he; exact h
theorem xM {neg:Bool} {rows:List (List V)} (ha:ev T a=.sl rows) (h1:rows=[]->dL P k0 r (cX T d (.bool (!neg))) H K) (h2:dL P k0 r (cX T d (.bool neg)) H K):dL P k0 (⟨none,some d,.isnil neg a⟩::r) T H K:=by simp_all
theorem aN {t:Nat} {w:Bool} {od:Option Nat} {q:X} (ht:T t=.bool w) (h:dL P k0 (⟨none,od,q⟩::r) T H K):dL P k0 (⟨some (t,w),od,q⟩::r) T H K:=by grind [dL,gd]
theorem aQG {t:Nat} {w w':Bool} {q:X} (ht:T t=.bool w') (hw:w'≠w) (h:dL P k0 r (cX T d (.raw undef)) H K):dL P k0 (⟨some (t,w),some d,q⟩::r) T H K:=by simp_all
theorem nT {t:Nat} {w:Bool} {q:X} (ht:T t=.raw undef) (h:dL P k0 r (cX T d (.raw undef)) H K):dL P k0 (⟨some (t,w),some d,q⟩::r) T H K:=by simp_all [undef]
theorem aG6 (a b:List SO):dL P k0 (a++b) T H K↔dL P k0 a T H λT H=>dL P k0 b T H K:=by induction a generalizing T H <;> grind [dL]
theorem bU (n:Nat) {ops:List SO} (R:(Nat->V)->bC->Prop) (h1:dL P k0 (ops.take n) T H R) (h2: ∀ T' H',R T' H'->dL P k0 (ops.drop n) T' H' K):dL P k0 ops T H K:=by grind [List.take_append_drop,aG6,kZ]
theorem bG {α:Type} {T A:Nat->α} {l:List Nat} (h: ∀ j,j∉l->A j=T j) {d:Nat} {v:α} (hd:d∈l): ∀ j,j∉l->cX A d v j=T j:=by grind [cD]
theorem aQw {p:Prop} [Decidable p] (hp:p):V.bool true=V.bool (decide p):=by simp [hp]
theorem aPR {p:Prop} [Decidable p] (hp: ¬p):V.bool false=V.bool (decide p):=by simp [hp]
theorem dZ {p q:Prop} [Decidable p] [Decidable q] (hp:p):V.bool true=V.bool (decide (p\/q)):=by simp [hp]
theorem dX {p q:Prop} [Decidable p] [Decidable q] (hp: ¬p):V.bool (decide q)=V.bool (decide (p\/q)):=by simp [hp]
theorem eU {p q:Prop} [Decidable p] [Decidable q] (hp: ¬p):V.bool false=V.bool (decide (p/\q)):=by simp [hp]
theorem eT {p q:Prop} [Decidable p] [Decidable q] (hp:p):V.bool (decide q)=V.bool (decide (p/\q)):=by simp [hp]
end
section
variable {P:Program} {k0:Nat} {Q:Ex->(Nat->V)->bC->Prop} {T:Nat->V} {H:bC}
theorem aH {c:SX} {a b r:SC} {p:Prop} [Decidable p] (hc:ev T c=.bool (decide p)) (h1:p->W P k0 (.seq a r) Q T H) (h2: ¬p->W P k0 (.seq b r) Q T H):W P k0 (.seq (.cond c a b) r) Q T H:=by simp_all [aBW]
theorem fN {c:SX} {a b:SC} {p:Prop} [Decidable p] (hc:ev T c=.bool (decide p)) (h1:p->W P k0 a Q T H) (h2: ¬p->W P k0 b Q T H):W P k0 (.cond c a b) Q T H:=by simp_all [aJI]
theorem cU {c:SX} {a b r:SC} {q:Bool} (hc:ev T c=.bool q) (h1:q=true->W P k0 (.seq a r) Q T H) (h2:q=false->W P k0 (.seq b r) Q T H):W P k0 (.seq (.cond c a b) r) Q T H:=by simp_all [aBW]
theorem mJ {c:SX} {a b:SC} {q:Bool} (hc:ev T c=.bool q) (h1:q=true->W P k0 a Q T H) (h2:q=false->W P k0 b Q T H):W P k0 (.cond c a b) Q T H:=by simp_all [aJI]
theorem dE {ops:List SO} {b:SC} (R:(Nat->V)->bC->Prop) (h:dL P k0 ops T H R) (hk: ∀ T H,R T H->W P k0 b Q T H):W P k0 (.seq (.reg ops) b) Q T H:=by grind [rU,kZ]
theorem aAV {ops:List SO} {b:SC} {late:List Nat} (R:(Nat->V)->bC->Prop) (hl: ∀ d∈late,(H (k0+d)).live=false) (h:dL P k0 ops T H R) (hk: ∀ T H,R T H->W P k0 b Q T H):W P k0 (.seq (.dreg late ops) b) Q T H:=by grind [aGF,kZ]
theorem tX {ops:List SO} (R:(Nat->V)->bC->Prop) (h:dL P k0 ops T H R) (hk: ∀ T H,R T H->Q .norm T H):W P k0 (.reg ops) Q T H:=
  ⟨k0,kZ hk h⟩
theorem aZ {t:Nat} {u v:V} {n:Nat} (h1:T t=u) (h2:fQ true H n u=v):xN [.tmp t] (λu G=>fQ true G n u=v) .ret T H:=by grind [xN,vW,iY,pZ,jI]
theorem iW {t1 t2:Nat} {u1 u2 v1 v2:V} {n:Nat} (h1:T t1=u1) (h2:T t2=u2) (g1:fQ true H n u1=v1) (g2:fQ true H n u2=v2):xN [.tmp t1,.tmp t2] (λu G=>fQ true G (n+1) u=.tup [v1,v2]) .ret T H:=by simp_all [fQ]
theorem iN {t1 t2 t3:Nat} {u1 u2 u3 v1 v2 v3:V} {n:Nat} (h1:T t1=u1) (h2:T t2=u2) (h3:T t3=u3) (g1:fQ true H n u1=v1) (g2:fQ true H n u2=v2) (g3:fQ true H n u3=v3):
    xN [.tmp t1,.tmp t2,.tmp t3] (λu G=>fQ true G (n+1) u=.tup [v1,v2,v3]) .ret T H:=by simp_all [fQ]
theorem aF {n:Nat} {x y:Int} (h:x=y):fQ true H n (iV x)=iV y:=by simp_all
theorem cH {n:Nat} {x y:Bool} (h:x=y):fQ true H n (.bool x)=.bool y:=by simp_all
theorem cA {α:Type} {n:Nat} {f:α->List V} {l m:List α} (h:l=m) (hc: ∀ a,fC (f a)=true):fQ true H n (.sl (l.map f))=.sl (m.map f):=by grind [dM,aJU,kB]
theorem bH {α:Type} {n:Nat} {f:α->List V} {m:List α} (h:m=[]):fQ true H (n+1) .nilsl=.sl (m.map f):=by subst h; rfl
theorem iK {α:Type} {n id ver len:Nat} {B:Blk} {f:α->List V} {l m:List α} (hH:H id=B) (hok:(B.live&&decide (B.ver=ver))=true) (hr:B.rows=l.map f) (hl:len=l.length) (hc: ∀ a,fC (f a)=true) (h:l=m):
    fQ true H (n+1) (.ms id ver 0 len)=.sl (m.map f):=by
  subst hH; subst hl; subst h;have hx:List.take l.length (List.map f l)=List.map f l:=by rw [show l.length=(l.map f).length by simp,List.take_length]
  grind [fQ,List.map_congr_left,eF]
theorem eM {n:Nat} {u v:V} (hc:u.canon=true) (h:u=v):fQ true H n u=v:=by rw [dM n _ hc,h]
end
theorem eJ {R:(Nat->V)->bC->Prop} {K:(Nat->V)->bC->Prop} {T:Nat->V} {H:bC} (h:R T H) (hk: ∀ T H,R T H->K T H):K T H:=hk T H h
theorem cZ {α β:Type} {g:α->β} {a:α} {b:β} {l:List α} {m:List β} (h1:g a=b) (h2:l.map g=m):(a::l).map g=b::m:=by subst h1; subst h2; rfl
theorem bO {T:Nat->V} {a:SX} {v:V} {l:List SX} {m:List V} (h1:ev T a=v) (h2:uG T l=m):uG T (a::l)=v::m:=by subst h1; subst h2; rfl
theorem dQ {T:Nat->V}:uG T []=[]:=J
end Go.Proofs.YtinpihlhcmpkhaaGreat


namespace Go.Proofs.YtinpihlhcmpkhaaGreat
open Go
section
variable {P:Program} {k0:Nat} {Q:Ex->(Nat->V)->bC->Prop} {T:Nat->V} {H:bC}
theorem aH4 {ops:List SO} {b:SC} (R:(Nat->V)->bC->Prop) (h:dL P k0 ops T H R) (hk: ∀ T H,R T H->G (W P k0 b Q) T H):W P k0 (.seq (.reg ops) b) Q T H:=
  aFq λ_ hK=>kZ (λT H hr=>hK T H<|hk T H hr) h
theorem aLG {ops:List SO} {b:SC} {late:List Nat} (R:(Nat->V)->bC->Prop) (hl: ∀ d∈late,(H (k0+d)).live=false) (h:dL P k0 ops T H R) (hk: ∀ T H,R T H->G (W P k0 b Q) T H):W P k0 (.seq (.dreg late ops) b) Q T H:=
  ⟨k0,hl,kZ (λT H hr=>hk T H hr) h⟩
theorem aG {id:Nat} {a r:SC} (h: ∀ Q':Ex->(Nat->V)->bC->Prop,(∀ T H,G (W P k0 r Q) T H->Q' .norm T H)->(∀ T H,G (W P k0 r Q) T H->Q' (.exit id) T H)->(∀ T H,Q .ret T H->Q' .ret T H)->
    (∀ n T H,n≠id->Q (.exit n) T H->Q' (.exit n) T H)->W P k0 a Q' T H):W P k0 (.seq (.block id a) r) Q T H:=by
  simp only [W];refine h _ (λT H h=>h) (λT H h=>?_) (λT H h=>h) (λn T H hn h=>?_)
  . simp only [if_true]; exact h
  . simp only [if_neg hn]; exact h
end
section
variable {P:Program} {k0:Nat} {K:(Nat->V)->bC->Prop} {T:Nat->V} {H:bC} {r:List SO} {d:Nat} {a b:SX}
theorem aPc {c:SX} {m n q:Nat} (ha:ev T a=iV (m:Nat)) (hb:ev T b=iV (n:Nat)) (hc:ev T c=iV (q:Nat)) (h:dL P k0 r (cX T d (iV ((min (min m n) q:Nat):Int))) H K):dL P k0 (⟨none,some d,.mn3 a b c⟩::r) T H K:=by
  refine stp (v:=iV ((min (min m n) q:Nat):Int)) (λ_=>J) ?_ h;rw [ha,hb,hc];simp only [mnV,Option.bind_some];congr 2;split <;> split <;> omega
theorem aAu {e id ver off len:Nat} {i:Int} {B:Blk} {k:IntKind} (ha:ev T a=.ms id ver off len) (hb:ev T b=.int k i) (hH:H id=B) (hok:okB B ver=true) (hs:B.sz=e) (h0:0<=i) (hi:i < len)
    (h:dL P k0 r (cX T d (.mp id ver (off+i.toNat) 0)) H K):dL P k0 (⟨none,some d,.idx e a b⟩::r) T H K:=by
  subst hH;refine stp (v:=.mp id ver (off+i.toNat) 0) (λ_=>J) ?_ h;rw [ha,hb];simp only [vT];rw [if_pos (show ok H id ver=true from hok),if_pos hs,if_pos ⟨h0,hi⟩]
theorem aKn {x y:Bool} (ha:ev T a=.bool x) (hb:ev T b=.bool y) (h:dL P k0 r (cX T d (.bool (x != y))) H K):dL P k0 (⟨none,some d,.bbin .neq a b⟩::r) T H K:=by
  refine stp (v:=.bool (x != y)) (λ_=>J) ?_ h;rw [ha,hb]; rfl
end
theorem eC {α:Type} {ver ty sz:Nat} {lz:Bool} {f:α->List V} {l:List α} (h:0 < l.length):okB ⟨ver,true,lz,ty,sz,l.map f⟩ ver=true:=by
  cases l with
  |nil=>simp at h
  |cons a l=>simp [okB,Blk.own]
theorem dS {α:Type} [Inhabited α] {agg:Bool} {n ver ty sz i off:Nat} {lz:Bool} {f:α->List V} {l:List α} {v:V} (h:i < l.length) (hg:ldV agg n ((f (aA l i)).drop off)=some v):
    ldB agg n ⟨ver,true,lz,ty,sz,l.map f⟩ ver i off=some v:=by
  unfold ldB;rw [if_pos (show (_&&_)=true from eC OM)];simp only [List.getElem?_map,xI h,Option.map_some,Option.bind_some];exact hg
theorem sC {x:Int} (h:0<=x):iV x=iV ((x.toNat:Nat):Int):=by rw [Int.toNat_of_nonneg h]
theorem vX {x y:Bool} (h:x=true):V.bool true=V.bool (x||y):=by rw [h]; rfl
theorem wA {x y:Bool} (h: ¬x=true):V.bool y=V.bool (x||y):=by rw [Bool.eq_false_iff.2 h]; rfl
theorem aN1 {x y:Bool} (h:x=true):V.bool y=V.bool (x&&y):=by rw [h]; rfl
theorem aOk {x y:Bool} (h: ¬x=true):V.bool false=V.bool (x&&y):=by rw [Bool.eq_false_iff.2 h]; rfl
theorem aLE {p:Prop} [Decidable p] {y:Bool} (h:p):V.bool true=V.bool (decide p||y):=by simp [h]
theorem aJB {p:Prop} [Decidable p] {y:Bool} (h: ¬p):V.bool y=V.bool (decide p||y):=by simp [h]
theorem aGi {p:Prop} [Decidable p] {y:Bool} (h:p):V.bool y=V.bool (decide p&&y):=by simp [h]
theorem aGm {p:Prop} [Decidable p] {y:Bool} (h: ¬p):V.bool false=V.bool (decide p&&y):=by simp [h]
def fzq (id:Nat) (H:bC):V->V
  | .ms j ver off len=>if j=id/\(H id).live=true/\(H id).ver=ver then .sl (((H id).rows.drop off).take len) else .ms j ver off len
  |v=>v
theorem bB {id:Nat} {H:bC} {T:Nat->V} {i:Nat} {v u:V} (h:T i=v) (hu:fzq id H v=u):fzT id H T i=u:=by
  subst hu; subst h;unfold fzT fzq;cases hT:T i <;> simp only
theorem mL {α:Type} {id ver len:Nat} {H:bC} {B:Blk} {f:α->List V} {l:List α} (hH:H id=B) (hok:(B.live&&decide (B.ver=ver))=true) (hr:B.rows=l.map f) (hl:len=l.length):
    fzq id H (.ms id ver 0 len)=.sl (l.map f):=by
  subst hH;simp only [Bool.and_eq_true,decide_eq_true_eq] at hok;simp only [fzq];rw [if_pos ⟨trivial,hok.1,hok.2⟩,hr,List.drop_zero,hl];congr 1;rw [show l.length=(l.map f).length by simp,List.take_length]
theorem eE {id j ver off len:Nat} {H:bC} (h:j≠id):fzq id H (.ms j ver off len)=.ms j ver off len:=by
  simp only [fzq]; rw [if_neg (λe=>h e.1)]
theorem aR {id j:Nat} {H:bC} {B:Blk} (h:H j=B) (hn:j≠id):mT id H j=B:=by subst h; simp [mT,hn]
theorem nN {id j:Nat} {H:bC} {n:Nat} (h:(H j).ver=n):(mT id H j).ver=n:=by subst h; unfold mT; by_cases e:j=id <;> simp [e]
theorem kF {id:Nat} {H Hi:bC} {l:List Nat} (h: ∀ j,j∉l->H j=Hi j) (hd:id∈l): ∀ j,j∉l->mT id H j=Hi j:=by
  intro j hj;have:j≠id:=λe=>hj (by rw [e]; exact hd)
  simp only [mT,cD _ _ this]; exact h j hj
mutual
def V.bnd:V->Bool
  | .sl rows=>decide (rows.length<=9223372036854775807)&&aBI rows
  | .pp cells=>lU cells
  | .agg cells=>lU cells
  | .tup vs=>lU vs
  | .fn _ a b=>lU a&&lU b
  | .ms _ _ _ _=>true
  | .mp _ _ _ _=>true
  | .mm _ _=>true
  | .int _ _=>true
  | .bool _=>true
  | .str _=>true
  | .nilsl=>true
  | .nilp=>true
  | .raw _=>true
def lU:List V->Bool
  |[]=>true
  |v::l=>v.bnd&&lU l
def aBI:List (List V)->Bool
  |[]=>true
  |r::l=>lU r&&aBI l
end
theorem aFv {l:List V}:lU l=true↔ ∀ v∈l,v.bnd=true:=by
  induction l with
  |nil=>simp [lU]
  |cons v l ih=>simp [lU,ih]
theorem aC6 {l:List (List V)}:aBI l=true↔ ∀ r∈l,lU r=true:=by
  induction l with
  |nil=>simp [aBI]
  |cons v l ih=>simp [aBI,ih]
theorem R.bnd {x:Cx} {v:V} {c:Value} (h:R x v c):v.bnd=true:=by
  have all: ∀ {l:List V},(∀ (j:Nat) (v:V),l[j]?=some v->v.bnd=true)->lU l=true:=λ{l} h=>
    aFv.2 λv hv=>by obtain ⟨j,hj⟩:=List.getElem?_of_mem hv; exact h j v hj
  induction h with
  | sl rows a cap sz cs hc hm hz hsz hcell _ ih =>
    simp only [V.bnd,Bool.and_eq_true,decide_eq_true_eq];have:maxLen=9223372036854775807:=J;refine ⟨OM,aC6.2 λr hr=>?_⟩;obtain ⟨k,hk⟩:=List.getElem?_of_mem hr;exact all λj v hj=>ih k r j v hk hj
  |slnil=>simp [V.bnd,aBI]
  |pp cells a cs hzz hcell _ ih=>simp only [V.bnd]; exact all ih
  |agg cells cs hs _ ih=>simp only [V.bnd]; exact all ih
  |tup cells cs hs _ ih=>simp only [V.bnd]; exact all ih
  |fn f first caps fs cs hfs hcs _ _ ih1 ih2=>simp only [V.bnd,Bool.and_eq_true]; exact ⟨all ih1,all ih2⟩
  |_=>simp [V.bnd]
theorem RL.bnd {x:Cx} {vs:List V} {cs:List Value} (h:RL x vs cs):lU vs=true:=
  aFv.2 λv hv=>by obtain ⟨j,hj⟩:=List.getElem?_of_mem hv; exact (h.2 j v hj).bnd
theorem nB {P : Program} {op : Opt} (z : Bool) (n : Nat) {f : Nat} {fn : Func} {s : SF} (hf : P.funcs[f]? = some fn) (hs : mO P op fn = some s) (hn : (fn.name == "runtime.NumGoroutine") = false) {args : List V} {v : V}
    (hl:args.length<=s.n) (ha:gF args=true) (hv:v.pure=true) (hW:lU args=true->W P 0 s.body (xN s.res λu G=>fQ z G n u=v) (T0 args) H0):bK P f args v:=λH=>
  ⟨uF hf hs hn,λx cs hxH hx hr=>(aGC z n hf hs hn hl ha hv (hW hr.bnd) H).2 x cs hxH hx hr⟩
theorem aIS {α:Type} [Inhabited α] {f:α->List V} {l:List α}:aBI (l.map f)=true↔ ∀ k,k < l.length->lU (f (aA l k))=true:=by
  rw [aC6];constructor
  . intro h k hk; exact h _<|List.mem_map_of_mem (by rw [<- cP hk]; exact List.getElem_mem hk)
  . intro h r hr
    obtain ⟨a,ha,rfl⟩:=List.mem_map.1 hr;obtain ⟨k,hk,rfl⟩:=List.getElem_of_mem ha;rw [cP hk]; exact h k hk
theorem mG {α:Type} [Inhabited α] {f:α->List V} {l:List α}:(V.sl (l.map f)).bnd=true↔l.length<=9223372036854775807/\ ∀ k,k < l.length->lU (f (aA l k))=true:=by
  simp only [V.bnd,Bool.and_eq_true,decide_eq_true_eq,List.length_map,aIS]
theorem mB (k:IntKind) (n:Int):(V.int k n).bnd=true:=by simp [V.bnd]
theorem jW (b:Bool):(V.bool b).bnd=true:=by simp [V.bnd]
theorem mF (s:List UInt8):(V.str s).bnd=true:=by simp [V.bnd]
theorem mQ {l:List V}:(V.agg l).bnd=lU l:=by simp [V.bnd]
theorem pV {l:List V}:(V.pp l).bnd=lU l:=by simp [V.bnd]
theorem mD:lU []=true:=by simp [lU]
theorem kC {v:V} {l:List V}:lU (v::l)=true↔v.bnd=true/\lU l=true:=by simp [lU]
end Go.Proofs.YtinpihlhcmpkhaaGreat


namespace Go.Proofs.YtinpihlhcmpkhaaGreat
open Go
theorem aNB {α:Type} {n:Nat} {p:Nat->α->Prop} (h: ∀ i,i < n-> ∃ a,p i a): ∃ l:List α,l.length=n/\ ∀ i a,l[i]?=some a->p i a:=by
  induction n with
  |zero=>simp_all
  | succ n ih =>
    obtain ⟨l,h1,h2⟩:=ih λi hi=>h i OM
    obtain ⟨b,hb⟩:=h n OM;refine ⟨l++[b],by simp [h1],λi a hi=>?_⟩
    grind
def aGa (P:Program) (all:Nat):Nat->List Field->Bool
  |off,[]=>decide (off=all)
  |off,f::r=>decide (f.offset=off)&&aGa P all (off+P.cellsOf f.type) r
def okT (P : Program) : Nat -> TypeId -> Bool
  |0,_=>false
  | n + 1, t => match P.underlying t with
    |some .bool=>true
    |some (.int _)=>true
    |some .string=>true
    |some (.slice e)=>okT P n e&&decide (P.cellsOf e≠0)
    |some (.struct fs)=>fs.toList.all (λf=>okT P n f.type)&&aGa P (P.cellsOf t) 0 fs.toList
    |some (.array m e)=>okT P n e&&decide (m*P.cellsOf e=P.cellsOf t)
    |_=>false
def aGD (S:TypeId->List V->Prop):List Field->List V->Prop
  |[],vs=>vs=[]
  |f::r,vs=> ∃ a b,vs=a++b/\S f.type a/\aGD S r b
def aPj (S:List V->Prop):Nat->List V->Prop
  |0,vs=>vs=[]
  |k+1,vs=> ∃ a b,vs=a++b/\S a/\aPj S k b
def Shp (P : Program) : Nat -> TypeId -> List V -> Prop
  |0,_,_=>False
  | n + 1, t, vs => match P.underlying t with
    |some .bool=> ∃ b,vs=[.bool b]
    |some (.int k)=> ∃ m,vs=[.int k m]/\(Lit.int k m).wf=true
    |some .string=> ∃ s,vs=[.str s]
    |some (.slice e)=> ∃ rows,vs=[.sl rows]/\ ∀ r∈rows,Shp P n e r
    |some (.struct fs)=>aGD (Shp P n) fs.toList vs
    |some (.array m e)=>aPj (Shp P n e) m vs
    |_=>False
def RC (x:Cx) (vs:List V) (cs:List Value):Prop:=vs.length=cs.length/\ ∀ j v,vs[j]?=some v->R x v (cs.getD j undef)
theorem aC1 {x:Cx} {a b:List V} {c d:List Value} (h1:RC x a c) (h2:RC x b d):RC x (a++b) (c++d):=by
  refine ⟨by simp [h1.1,h2.1],λj v hj=>?_⟩;rw [List.getElem?_append] at hj;rw [List.getD_eq_getElem?_getD,List.getElem?_append,<- h1.1];split at hj
  . rename_i hlt
    rw [if_pos hlt,<- List.getD_eq_getElem?_getD]; exact h1.2 j v hj
  . rename_i hlt
    rw [if_neg hlt,<- List.getD_eq_getElem?_getD]; exact h2.2 _ v hj
section
variable {H:Type} {enc:TypeId×Value->H} {P:Program} {base:Nat} {spare:Nat->Bool} {held:Bool}
theorem aO1 {x : Cx} (hZ : ∀ b, b < x.w.heap.size -> x.Z b) : ∀ (n : Nat) (t : TypeId), okT P n t = true -> ∀ (fuel : Nat) (cs : List Value) (y : DataW H × List MemPlace), DataW.trod enc P x.w base spare held fuel t cs = some y ->
    ∃ vs,Shp P n t vs/\RC x vs cs:=by
  intro n
  induction n with
  |zero=>intro t h; cases h
  | succ n ih =>
    intro t hok fuel cs y hy
    have one: ∀ {v:V} {c:Value},R x v c->RC x [v] [c]:=λ{v c} h=>⟨J,λj u hj=>by
      grind⟩
    simp only [okT] at hok;simp only [Shp];split at hok
    . rename_i ht
      obtain ⟨b,rfl,_⟩:=DataW.trod_bool ht hy;exact ⟨[.bool b],⟨b,J⟩,one (.bool b)⟩
    . rename_i k ht
      obtain ⟨m,rfl,_,hw⟩:=DataW.trod_int ht hy;exact ⟨[.int k m],⟨m,J,hw⟩,one (.int k m)⟩
    . rename_i ht
      obtain ⟨s,rfl,_⟩:=DataW.trod_string ht hy;exact ⟨[.str s.data.toList],⟨_,J⟩,one (R.str s.data.toList)⟩
    . rename_i e ht
      simp only [Bool.and_eq_true,decide_eq_true_eq] at hok;obtain ⟨hok,hnz⟩:=hok;rcases DataW.trod_slice ht hy with ⟨rfl,_⟩|⟨a,len,cap,elems,rest,m,_,rfl,_,hb,hl,hc,hlen,hel,_,_⟩
      . exact ⟨[.sl []],⟨[],rfl,λr hr=>by cases hr⟩,one .slnil⟩
      . have hall: ∀ i,i < len-> ∃ r:List V,Shp P n e r/\ ∃ ci:List Value,x.w.cells? base (a.add<|i*P.cellsOf e) (P.cellsOf e)=some ci/\RC x r ci:=by
          intro i hi;have h1:=hel i hi;rw [List.getElem?_eq_getElem OM] at h1;cases h2:x.w.cells? base (a.add<|i*P.cellsOf e) (P.cellsOf e) with
          |none=>rw [h2] at h1; cases h1
          | some ci =>
            grind
        obtain ⟨rows,hrl,hrows⟩:=aNB hall
        have hcell: ∀ (r:Nat) (row:List V) (j:Nat) (v:V),rows[r]?=some row->row[j]?=some v->
            ∃ c,x.w.cell? (a.add<|r*P.cellsOf e+j)=some c/\R x v c:=by
          intro r row j v hr hj;obtain ⟨_,ci,g1,g2⟩:=hrows r row hr;obtain ⟨_,g4,g5⟩:=World.cells?_some g1;have hjlt:j < ci.length:=by have:=(List.getElem?_eq_some_iff.1 hj).1; rw [<- g2.1]; exact this
          have g6:=g5 j OM;rw [List.getElem?_eq_getElem hjlt,Addr.add_add] at g6;refine ⟨_,g6,?_⟩;have:=g2.2 j v hj;rw [List.getD_eq_getElem?_getD,List.getElem?_eq_getElem hjlt] at this;exact this
        have key:=R.sl (x:=x) rows a cap (P.cellsOf e) (λk=>(x.w.cell?<|a.add k).getD undef) OM hc ?_ ?_ ?_ ?_
        . grind [List.getElem?_of_mem]
        . intro hne
          cases hrr:rows with
          |nil=>exact (hne hrr).elim
          | cons r0 rs =>
            obtain ⟨_,ci,g1,g2⟩:=hrows 0 r0 (by rw [hrr]; rfl)
            . obtain ⟨_,g4,g5⟩:=World.cells?_some g1
              grind [World.cell?,Addr.add]
        . intro r hr
          obtain ⟨i,hi⟩:=List.getElem?_of_mem hr;obtain ⟨_,ci,g1,g2⟩:=hrows i r hi;rw [g2.1];exact (World.cells?_some g1).2.1
        . grind
        grind
    . rename_i fs ht
      simp only [Bool.and_eq_true] at hok;obtain ⟨xs,m,_,_,hl,hxl,hf⟩:=DataW.trod_struct ht hy
      have hfs: ∀ f∈fs.toList,∃ z,DataW.trod enc P x.w base spare held m f.type ((cs.drop f.offset).take (P.cellsOf f.type))=some z:=by
        grind [List.getElem?_of_mem]
      have hok':=List.all_eq_true.1 hok.1
      have main: ∀ (l:List Field) (off:Nat),(∀ f∈l,f∈fs.toList)->aGa P (P.cellsOf t) off l=true->off<=cs.length-> ∃ vs,aGD (Shp P n) l vs/\RC x vs (cs.drop off):=by
        intro l
        induction l with
        | nil =>
          intro off _ htl hle;simp only [aGa,decide_eq_true_eq] at htl;refine ⟨[],J,?_⟩;rw [List.drop_of_length_le OM];exact ⟨J,λj v hj=>by simp at hj⟩
        | cons f r ihr =>
          intro off hsub htl hle;simp only [aGa,Bool.and_eq_true,decide_eq_true_eq] at htl;obtain ⟨z,hz⟩:=hfs f<|hsub f<|List.mem_cons_self ..
          obtain ⟨va,g1,g2⟩:=ih f.type (hok' f<|hsub f<|List.mem_cons_self ..) _ _ _ hz
          have hoff:off+P.cellsOf f.type<=cs.length:=by
            rw [hl]
            have: ∀ (l:List Field) (o:Nat),aGa P (P.cellsOf t) o l=true->o<=P.cellsOf t:=by
              intro l
              induction l <;> grind [aGa]
            exact this _ _ htl.2
          obtain ⟨vb,g3,g4⟩:=ihr (off+P.cellsOf f.type) (λq hq=>hsub q<|List.mem_cons_of_mem _ hq) htl.2 hoff;refine ⟨va++vb,⟨va,vb,J,g1,g3⟩,?_⟩
          grind [List.drop_drop,List.take_append_drop,aC1]
      grind
    . rename_i m e ht
      simp only [Bool.and_eq_true,decide_eq_true_eq] at hok;obtain ⟨xs,f,_,_,hl,hxl,hf⟩:=DataW.trod_array ht hy
      have main: ∀ (k i:Nat),i+k=m-> ∃ vs,aPj (Shp P n e) k vs/\RC x vs (cs.drop<|i*P.cellsOf e):=by
        intro k
        induction k with
        | zero =>
          intro i hi;refine ⟨[],J,?_⟩;rw [List.drop_of_length_le (by grind)];exact ⟨J,λj v hj=>by simp at hj⟩
        | succ k ihk =>
          intro i hi;have hlt:i < m:=OM
          have hz:=hf i hlt;rw [List.getElem?_eq_getElem OM] at hz;obtain ⟨va,g1,g2⟩:=ih e hok.1 _ _ _ hz;obtain ⟨vb,g3,g4⟩:=ihk (i+1) OM;refine ⟨va++vb,⟨va,vb,J,g1,g3⟩,?_⟩
          grind [List.drop_drop,List.take_append_drop,aC1]
      obtain ⟨vs,g1,g2⟩:=main m 0 OM;exact ⟨vs,g1,by simpa using g2⟩
    . cases hok
end
end Go.Proofs.YtinpihlhcmpkhaaGreat


namespace Go.Proofs.YtinpihlhcmpkhaaGreat
open Go Go.ChangeShapes Go.WideShapes Go.ChangeAt Go.RowKit
section
variable {H:Type} {enc:TypeId×Value->H} {P:Program}
theorem aCv {f:Func} {s:ChangeSpec} {apart fresh handsOn again:Bool} {W W':World} {args:Array Value} {v:Value} {ds gs:List (DataW H)} {before pa pv:List MemPlace}
    (hW:DataW.Whole enc P f.params.toList s.vars apart W args.toList ds gs before)
    (hres: ∀ (b:Nat) (sp:Nat->Bool) (hd:Bool),DataW.TrodAll enc P W' b sp hd f.resultTypes.toList (v.resultList f.resultTypes.size) (s.fn H<|ds++gs).results [])
    (hargs: ∀ sp:Nat->Bool,(∀ p∈before,sp p.block=true)->DataW.TrodAll enc P W' 0 sp true f.params.toList args.toList (s.fn H<|ds++gs).args pa)
    (hvars: ∀ sp:Nat->Bool,(∀ p∈before,sp p.block=true)->DataW.TrodVars enc P W' sp s.vars (s.fn H<|ds++gs).vars pv)
    (hps:before=pa++pv) (hb:Below W.heap.size W W')
    (hok: ∀ (j:Nat) (t:TypeId) (r:Value),f.resultTypes[j]?=some t->(v.resultList f.resultTypes.size)[j]?=some r->Value.okWide P W' .any 0 t r):
    s.post enc P f apart fresh handsOn again W args v W':=by
  have hold: ∀ p∈before,(λb=>decide (b < W.heap.size)) p.block=true:=λp hp=>by simpa using hW.lt p hp
  refine ⟨ds,gs,before,[],pa,pv,hW,hres _ _ _,hargs _ hold,hvars _ hold,World.keptBut_mono (λp hp=>⟨hp,?_⟩) (hb.frame (· ∈before)),λ_=>?_⟩
  . rw [hps,List.mem_append] at hp
    exact Or.inr hp
  . have hlt:=hW.lt
    obtain ⟨_,_,_,_,_,hz,hn⟩:=hW;refine ⟨hok,_,_,([]++pa)++pv,⟨[]++pa,pv,trodAll_append (hargs _ (λ_ _=>J)) (hres _ _ _),hvars _ (λ_ _=>J),J,?_,?_⟩,?_⟩
    . intro b off hp
      have hp':MemPlace.cell b off∈before:=by rw [hps]; simpa using hp
      rw [hb.frozen (hlt _ hp')];exact hz b off hp'
    . intro ha
      have:=hn ha;rw [hps] at this;simpa using this
    . intro p hp _
      rw [hps];simpa using hp
theorem aBF {x y:Cx} {w:World} (h:Frame x y) (hx: ∀ id,(x.H id).own=false) (hw:x.w=w):Below w.heap.size w y.w:=by
  subst hw;exact ⟨h.os,h.tape,h.output,h.size,λk hk=>h.keep k hk λid ho=>by rw [hx id] at ho; cases ho⟩
def aAC (P:Program) (t:TypeId) (vs:List V):V:=match P.underlying t with
  |some (.struct _)=>.agg vs
  |some (.array _ _)=>.agg vs
  |_=>vs.headD xR
theorem aDZ {x:Cx} {vs:List V} {c:Value} (h:RC x vs [c]):R x (vs.headD xR) c:=by
  obtain ⟨h1,h2⟩:=h;cases vs with
  |nil=>simp at h1
  |cons u l=>exact h2 0 u rfl
theorem aPB {x:Cx} (hZ: ∀ b,b < x.w.heap.size->x.Z b) {n:Nat} {t:TypeId} (hok:okT P n t=true) {r:Reach} {b0 base:Nat} {spare:Nat->Bool} {held:Bool} {v:Value} {d:DataW H} {ps:List MemPlace}
    (gY:Value.okWide P x.w r b0 t v) (hd:DataW.Trod enc P x.w base spare held t v d ps): ∃ vs,Shp P n t vs/\R x (aAC P t vs) v:=by
  obtain ⟨fuel,hf⟩:=hd;obtain ⟨vs,h1,h2⟩:=aO1 hZ n t hok fuel _ _ hf;refine ⟨vs,h1,?_⟩;unfold aAC;cases n with
  |zero=>cases hok
  | succ n =>
    simp only [okT] at hok;split at hok
    . rename_i ht
      obtain ⟨b,rfl⟩:=okWide_bool ht gY;rw [ht]; exact aDZ h2
    . rename_i k ht
      obtain ⟨m,rfl⟩:=okWide_int ht gY;rw [ht]; exact aDZ h2
    . rename_i ht
      obtain ⟨s,rfl⟩:=okWide_string ht gY;rw [ht]; exact aDZ h2
    . rename_i e ht
      obtain ⟨a,l,c,rfl⟩:=okWide_slice ht gY;rw [ht]; exact aDZ h2
    . rename_i fs ht
      obtain ⟨cs,rfl,_⟩:=okWide_struct ht gY;rw [ht];refine .agg vs cs (by have:=h2.1; simp [Value.cells] at this; omega) λj u hj=>?_;have:=h2.2 j u hj;rw [List.getD_eq_getElem?_getD] at this;rw [Array.getD_eq_getD_getElem?,<- Array.getElem?_toList];exact this
    . rename_i m e ht
      have hval2:=gY;simp only [Value.okWide,ht] at hval2;obtain ⟨cs,rfl,_⟩:=hval2;rw [ht];refine .agg vs cs (by have:=h2.1; simp [Value.cells] at this; omega) λj u hj=>?_;have:=h2.2 j u hj;rw [List.getD_eq_getElem?_getD] at this;rw [Array.getD_eq_getD_getElem?,<- Array.getElem?_toList];exact this
    . cases hok
def aGO (P:Program) (n:Nat):List TypeId->List V->Prop
  |[],vs=>vs=[]
  |t::ts,vs=> ∃ a b,vs=aAC P t a::b/\Shp P n t a/\aGO P n ts b
theorem aEH {x:Cx} (hZ: ∀ b,b < x.w.heap.size->x.Z b) {n:Nat} {r:Reach} {b0 base:Nat} {spare:Nat->Bool} {held:Bool}: ∀ (ts:List TypeId) (vs:List Value) (ds:List (DataW H)) (ps:List MemPlace),
    (∀ t∈ts,okT P n t=true)->(∀ (j:Nat) t v,ts[j]?=some t->vs[j]?=some v->Value.okWide P x.w r b0 t v)->DataW.TrodAll enc P x.w base spare held ts vs ds ps->
    ∃ us,aGO P n ts us/\RL x us vs
  | [], vs, ds, ps, _, _, h => by
    obtain ⟨rfl,rfl,rfl⟩:=trodAll_nil h;exact ⟨[],J,J,λj v hj=>by simp at hj⟩
  | t :: ts, vs, ds, ps, hok, gY, h => by
    obtain ⟨v,vs1,d,ds1,a,b,rfl,rfl,rfl,h1,h2⟩:=trodAll_cons h;obtain ⟨ws,g1,g2⟩:=aPB hZ (hok t<|List.mem_cons_self ..) (gY 0 t v J J) h1;obtain ⟨us,g3,g4⟩:=aEH hZ ts vs1 ds1 b (λq hq=>hok q<|List.mem_cons_of_mem _ hq) (λj q u hq hu=>gY (j+1) q u (by simpa using hq) (by simpa using hu)) h2;refine ⟨aAC P t ws::us,⟨ws,us,J,g1,g3⟩,by simp [g4.1],λj u hj=>?_⟩;cases j with
    |zero=>simp at hj; subst hj; exact g2
    |succ j=>exact g4.2 j u (by simpa using hj)
theorem wF (hl:laidOutB P=true) {W W':World} (hb:Below W.heap.size W W') {sp:Nat->Bool}: ∀ (ts:List TypeId) (vs:List Value) (ds:List (DataW H)) (ps:List MemPlace),
    (∀ t∈ts,P.readableRec t=true/\t < P.types.size)->DataW.TrodAll enc P W 0 (λ_=>true) true ts vs ds ps->(∀ p∈ps,p.block < W.heap.size)->(∀ p∈ps,sp p.block=true)->DataW.TrodAll enc P W' 0 sp true ts vs ds ps
  | [], vs, ds, ps, _, h, _, _ => by
    obtain ⟨rfl,rfl,rfl⟩:=trodAll_nil h;exact h
  | t :: ts, vs, ds, ps, hr, h, hlt, hsp => by
    obtain ⟨v,vs1,d,ds1,a,b,rfl,rfl,rfl,h1,h2⟩:=trodAll_cons h
    refine ⟨a,b,WideElems.Trod_stays hl (hr t<|List.mem_cons_self ..).1 (hr t<|List.mem_cons_self ..).2 h1 (λp hp=>hb.same<|hlt p<|List.mem_append_left _ hp) (λp hp=>hsp p<|List.mem_append_left _ hp),
      wF hl hb ts vs1 ds1 b (λq hq=>hr q<|List.mem_cons_of_mem _ hq) h2 (λp hp=>hlt p<|List.mem_append_right _ hp) (λp hp=>hsp p<|List.mem_append_right _ hp),J⟩
theorem aJ6 {f:FuncId} {fn:Func} {s:ChangeSpec} {apart fresh handsOn again:Bool} {n tb:Nat} {W:World} {args:Array Value} {ds gs:List (DataW H)} {before:List MemPlace}
    (hl:laidOutB P=true) (hres:fn.resultTypes=#[tb]) (htb:P.underlying tb=some .bool) (hts: ∀ t∈fn.params.toList,okT P n t=true/\P.readableRec t=true/\t < P.types.size)
    (hvars:s.vars=[]) (hs:s.fn H (ds++gs)={results:=[.lit (.bool true)],args:=ds})
    (hlaw: ∀ us,aGO P n fn.params.toList us->bK P f us (.bool true))
    (gY: ∀ (j:Nat) t v,fn.params[j]?=some t->args[j]?=some v->Value.okWide P W .any 0 t v)
    (hW:DataW.Whole enc P fn.params.toList s.vars apart W args.toList ds gs before) (htab:aNy W (λb=>b < W.heap.size):=by intro p hp; simp [aQv] at hp):
    Calls P f args W λe W'=> ∃ v,e=.returned v/\s.post enc P fn apart fresh handsOn again W args v W':=by
  have hW':=hW;obtain ⟨p,q,hA,hV,rfl,hfz,hnd⟩:=hW;rw [hvars] at hV;obtain ⟨rfl,rfl⟩:=trodVars_none hV;have hlt:=hW'.lt
  let x:Cx:=start {w:=W,Z:=λb=>b < W.heap.size,σ:=λ_=>0,H:=H0} (λb=>b < W.heap.size)
  have hx:Inv x:=uV (λb hb=>hb) htab;obtain ⟨us,g1,g2⟩:=aEH (x:=x) (λb hb=>hb) fn.params.toList args.toList ds p (λt ht=>(hts t ht).1) (λj t v h1 h2=>gY j t v (by simpa using h1) (by simpa using h2)) hA;have hc:=(hlaw us g1 H0).2 x args.toList J hx g2;rw [Array.toArray_toList] at hc;refine Calls.mono (show Calls P f args W _ from hc) λe W' h=>?_;obtain ⟨c,y,rfl,rfl,h3,h4,h5,h6⟩:=h;cases h5;have hb:Below W.heap.size W y.w:=aBF h6 (λ_=>J) J;refine ⟨_,J,aCv (pa:=p) (pv:=[]) hW' (λb sp hd=>?_) (λsp hsp=>?_) (λsp _=>?_) SI hb ?_⟩
  . rw [hs,hres]
    exact trodAll_mk1<|shut_bool htb true
  . rw [hs]
    exact wF hl hb _ _ _ _ (λt ht=>(hts t ht).2) hA (λz hz=>hlt z (by simpa using hz)) (λz hz=>hsp z (by simpa using hz))
  . rw [hs,hvars]; rfl
  . exact ok_one hres J<|okWide_bool_mk htb true
end
end Go.Proofs.YtinpihlhcmpkhaaGreat


namespace Go.Proofs.YtinpihlhcmpkhaaGreat
open Go
theorem aE1 {α:Type} {f:α->List V}: ∀ {rows:List (List V)},(∀ r∈rows,∃ a,r=f a)-> ∃ l:List α,rows=l.map f
  |[],_=>⟨[],rfl⟩
  | r :: rows, h => by
    obtain ⟨a,ha⟩:=h r<|List.mem_cons_self ..
    obtain ⟨l,hl⟩:=aE1 (rows:=rows) λq hq=>h q<|List.mem_cons_of_mem _ hq
    exact ⟨a::l,by rw [ha,hl]; rfl⟩
section
variable {P:Program} {n t:Nat} {vs:List V}
theorem aMn {k:IntKind} (ht:P.underlying t=some (.int k)) (h:Shp P (n+1) t vs): ∃ m:Int,vs=[.int k m]:=by
  simp only [Shp,ht] at h; obtain ⟨m,hm,_⟩:=h; exact ⟨m,hm⟩
theorem aCG {e:Nat} {α:Type} {f:α->List V} (ht:P.underlying t=some (.slice e)) (he: ∀ vs,Shp P n e vs-> ∃ a,vs=f a) (h:Shp P (n+1) t vs): ∃ l:List α,vs=[.sl (l.map f)]:=by
  simp only [Shp,ht] at h;obtain ⟨rows,rfl,hr⟩:=h;obtain ⟨l,rfl⟩:=aE1 (f:=f) λr h=>he r<|hr r h
  exact ⟨l,J⟩
theorem aKp {fs:Array Field} (ht:P.underlying t=some (.struct fs)) (h:Shp P (n+1) t vs):aGD (Shp P n) fs.toList vs:=by
  simp only [Shp,ht] at h; exact h
theorem vJ {S:TypeId->List V->Prop} {f:Field} {r:List Field} {α:Type} {c:α->List V} (hc: ∀ vs,S f.type vs-> ∃ a,vs=c a) (h:aGD S (f::r) vs): ∃ a us,vs=c a++us/\aGD S r us:=by
  obtain ⟨a,b,rfl,h1,h2⟩:=h;obtain ⟨x,rfl⟩:=hc a h1;exact ⟨x,b,J,h2⟩
theorem aLT {S:TypeId->List V->Prop} (h:aGD S [] vs):vs=[]:=h
theorem aFn {fs:Array Field} (ht:P.underlying t=some (.struct fs)) (vs:List V):aAC P t vs=.agg vs:=by
  unfold aAC; rw [ht]
theorem aIY {ts:List TypeId} {us:List V} (h:aGO P n (t::ts) us): ∃ a b,us=aAC P t a::b/\Shp P n t a/\aGO P n ts b:=h
theorem aLe {us:List V} (h:aGO P n [] us):us=[]:=h
end
end Go.Proofs.YtinpihlhcmpkhaaGreat


