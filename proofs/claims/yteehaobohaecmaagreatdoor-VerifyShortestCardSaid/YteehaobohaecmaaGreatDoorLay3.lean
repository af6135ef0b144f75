/- The layer: abstract values for memory and their soundness; no condition. -/
import Derived.IntWalk
import Derived.ChangeArms
import Derived.DataElems
import Derived.DataReads
import Derived.OpenShut
import Derived.ProofKit
import Derived.WalkKit
import Derived.Carry
import Derived.Test.YteehaobohaecmaaGreatDoorLay2
set_option linter.unusedSimpArgs false
set_option linter.unusedVariables false
namespace Go.Proofs.YteehaobohaecmaaGreatDoor
open Go
section
variable {P:Program} {k0:Nat}
def SO.pt (s:SO):Option (Nat×Nat):=if s.x.lz=true then s.d.map fun d=>(d,0) else s.x.pt
def SO.mv (s:SO):Bool:=s.x.cls==.E||s.x.lz
structure PRX (b:Array Nat) (ps:List Ap4) (q r:Nat×SO):Prop where
  back:eB b q.1 r.1=false
  ne:q.1≠r.1
  dst: ∀ d,q.2.d=some d→r.2.d≠some d
  rd: ∀ d,q.2.d=some d→d∈r.2.x.ts→eB b r.1 q.1=true
  wr: ∀ d,r.2.d=some d→d∈q.2.x.ts→eB b r.1 q.1=true
  keep: ∀ d,r.2.d=some d→d∉q.2.x.ar
  cf:eB b r.1 q.1=false→ ∀ p n p' m,q.2.pt=some (p,n)→r.2.pt=some (p',m)→(q.2.mv=true∨r.2.mv=true)→(p,n,p',m)∈ps
def aKY (b : Array Nat) (ps : List Ap4) (q r : Nat × SO) : Bool :=
  let anc:=eB b r.1 q.1
  !(eB b q.1 r.1)&&q.1 != r.1&&
  (match q.2.d with
    |some d=>r.2.d != some d&&(anc|| !r.2.x.ts.contains d)
    |none=>true)&&
  (match r.2.d with
    |some d=>(anc|| !q.2.x.ts.contains d)&& !q.2.x.ar.contains d
    |none=>true)&&
  (anc||match q.2.pt,r.2.pt with
    |some p,some p'=> !(q.2.mv||r.2.mv)||ps.contains (p.1,p.2,p'.1,p'.2)
    |_,_=>true)
theorem aGN {b:Array Nat} {ps:List Ap4} {q r:Nat×SO} (h:aKY b ps q r=true):PRX b ps q r:=by
  unfold aKY at h
  simp only [Bool.and_eq_true,Bool.not_eq_true',bne_iff_ne,ne_eq] at h
  obtain ⟨⟨⟨⟨h1,h2⟩,h3⟩,h4⟩,h5⟩:=h
  refine ⟨h1,h2,fun d hd=>?_,fun d hd hr=>?_,fun d hd hr=>?_,fun d hd hr=>?_,fun ha p n p' m hp hp' hE=>?_⟩
  · rw [hd] at h3; simp only [Bool.and_eq_true,bne_iff_ne,ne_eq] at h3; exact h3.1
  · rw [hd] at h3
    simp only [Bool.and_eq_true,Bool.or_eq_true,Bool.not_eq_true',List.contains_eq_mem,decide_eq_false_iff_not] at h3
    exact h3.2.resolve_right fun h=>h hr
  · rw [hd] at h4
    simp only [Bool.and_eq_true,Bool.or_eq_true,Bool.not_eq_true',List.contains_eq_mem,decide_eq_false_iff_not] at h4
    exact h4.1.resolve_right fun h=>h hr
  · rw [hd] at h4
    simp only [Bool.and_eq_true,Bool.or_eq_true,Bool.not_eq_true',List.contains_eq_mem,decide_eq_false_iff_not] at h4
    exact h4.2 hr
  · rw [ha,hp,hp'] at h5
    simp only [Bool.false_or,Bool.or_eq_true,Bool.not_eq_true',Bool.or_eq_false_iff,List.contains_eq_mem,decide_eq_true_eq] at h5
    rcases h5 with h5|h5
    · rcases hE with e|e
      · rw [e] at h5; cases h5.1
      · rw [e] at h5; cases h5.2
    · exact h5
def seB (s:SO):Bool:=s.g.isNone&&s.x.lc&&(match s.d with
  |some d=> !s.x.ar.contains d
  |none=> !s.x.lz)
theorem aNf {x:X} {t:Nat} (h:t∈x.ar):t∈x.ts:=by
  cases x <;> simp only [X.ar] at h <;> first|(cases h; done)|skip
  case load g n a=>cases a <;> simp_all [X.ts,SX.ts]
  case store n a b=>cases a <;> simp_all [X.ts,SX.ts]
  case append ty esz bytes s a=>cases s <;> cases a <;> simp_all [X.ts,SX.ts]
  case idx n a i=>cases a <;> simp_all [X.ts,SX.ts]
  case len a=>cases a <;> simp_all [X.ts,SX.ts]
theorem aDw {x:X} (h:x.lc=true):x.cls≠.N:=by
  cases x <;> first|(intro e; cases e; done)|skip
  all_goals first|(simp [X.lc,X.lc0,X.slt,X.lz,X.free,X.pt,X.cls] at h; done)|(intro e; simp only [X.cls] at e; split at e <;> cases e)|(rename_i e _ _; cases e <;> cases h)
theorem aI0 {D : Prop} : ∀ {l : List SO} {T : Nat → V} {H : aI} {K : (Nat → V) → aI → Prop}, (∀ s ∈ l, seB s = true) → l.Pairwise (fun q r => ∀ d, q.d = some d → r.d ≠ some d) → Ops P k0 l T H K →
    (∀ T' H',K T' H'→(∀ t,(∀ s∈l,s.d≠some t)→T' t=T t)→(∀ s∈l,s.x.lz=true→ ∀ d,s.d=some d→ ∃ v,T' d=.ms (k0+d) v 0 0)→D)→D
  |[],T,H,K,_,_,h,hD=>hD T H h (fun _ _=>rfl) (fun s hs=>by cases hs)
  | s :: l, T, H, K, hs, hp, h, hD => by
    have h0:=hs s (List.mem_cons_self ..)
    rw [List.pairwise_cons] at hp
    unfold seB at h0
    simp only [Bool.and_eq_true,Option.isNone_iff_eq_none] at h0
    simp only [Ops,h0.1.1] at h
    obtain ⟨v,H1,h1,st⟩:=yG (aDw h0.1.2) h
    refine aI0 (fun q hq=>hs q (List.mem_cons_of_mem _ hq)) hp.2 h1 fun T' H' hk ha hz=>hD T' H' hk (fun t ht=>?_) fun q hq hl d hd=>?_
    · rw [ha t fun q hq=>ht q (List.mem_cons_of_mem _ hq)]
      cases hd:s.d with
      |none=>rfl
      |some d=>exact aV _ _ fun e=>ht s (List.mem_cons_self ..) (by rw [hd,e])
    · rcases List.mem_cons.1 hq with rfl|hq
      · rw [ha d fun r hr=>hp.1 r hr d hd,hd]
        rw [hd] at st
        cases hx:q.x <;> rw [hx] at hl <;> first|(cases hl; done)|skip
        rw [hx] at st
        simp only [St] at st
        obtain ⟨e,_⟩:=st
        exact ⟨_,by rw [show fE T (some d) v d=v from aG ..,← e]; rfl⟩
      · exact hz q hq hl d hd
theorem swap {x y : SO} {s : List SO} {T : Nat → V} {H : aI} {K : (Nat → V) → aI → Prop} (hx : seB x = true) (hy : seB y = true) (d0 : ∀ d, x.d = some d → y.d ≠ some d) (d1 : ∀ d, x.d = some d → d ∉ y.x.ts) (d2 : ∀ d, y.d = some d → d ∉ x.x.ts)
    (ax:lC T x.x=true) (ay:lC T y.x=true) (hap: ∀ p n q m,x.x.pt=some (p,n)→y.x.pt=some (q,m)→(x.x.cls=.E∨y.x.cls=.E)→apV n m (T p) (T q)=true)
    (hz:(x.x.lz=true∨y.x.lz=true)→ ∀ i j,x.x.bk (k0+x.d.getD 0) T=some i→y.x.bk (k0+y.d.getD 0) T=some j→i≠j)
    (h:Ops P k0 (x::y::s) T H K):Ops P k0 (y::x::s) T H K:=by
  unfold seB at hx hy
  simp only [Bool.and_eq_true,Option.isNone_iff_eq_none] at hx hy
  have put: ∀ {d:Option Nat} {l:List Nat} {v:V} (_: ∀ e,d=some e→e∉l),∀ t∈l,fE T d v t=T t:=fun {d} {l} {v} hd t ht=>by
    cases e:d with
    |none=>rfl
    |some e'=>exact aV _ _ fun q=>hd e' e (q ▸ ht)
  simp only [Ops,hx.1.1,hy.1.1] at h ⊢
  obtain ⟨v,H1,h1,st1⟩:=yG (aDw hx.1.2) h
  obtain ⟨v',H2,h2,st2⟩:=yG (aDw hy.1.2) h1
  have st2':=xN (put (v:=v) d1) st2
  obtain ⟨G,g1,g2⟩:=aR7 hx.1.2 hy.1.2 ax ay hap hz st1 st2'
  refine rD ?_ g1
  rintro a b ⟨rfl,rfl⟩
  refine xN (T:=T) (fun t ht=>(put (v:=a) d2 t ht).symm) (rD ?_ g2)
  rintro a' b' ⟨rfl,rfl⟩
  have e:fE (fE T y.d a) x.d a'=fE (fE T x.d a') y.d a:=by
    cases hxd:x.d with
    |none=>rfl
    | some d => cases hyd : y.d with
      |none=>rfl
      | some d' =>
        have hne:d≠d':=fun e=>d0 d hxd (by rw [hyd,e])
        funext t
        simp only [fE,lX]
        by_cases e1:t=d <;> by_cases e2:t=d'
        · exact absurd (e1.symm.trans e2) hne
        · simp [e1,hne]
        · simp [e2,Ne.symm hne]
        · simp [e1,e2]
  rw [e]
  exact h2
theorem aNe {b : Array Nat} {ps : List Ap4} {ops0 : List SO} {x : Nat × SO} {v : List (Nat × SO)} {K : (Nat → V) → aI → Prop} (hK : ∀ T H, K T H → ddB ps ops0 T = true) : ∀ {u : List (Nat × SO)} {T : Nat → V} {H : aI}, (u ++ x :: v).Pairwise (PRX b ps) → (∀ q ∈ u ++ x :: v, seB q.2 = true ∧ q.2 ∈ ops0) → (∀ q ∈ u, eB b x.1 q.1 = false) →
    Ops P k0 ((u++x::v).map (·.2)) T H K→Ops P k0 ((x::(u++v)).map (·.2)) T H K
  |[],_,_,_,_,_,h=>h
  | q :: u, T, H, hp, hs, hn, h => by
    rw [List.cons_append,List.pairwise_cons] at hp
    have hsq:=hs q (by simp)
    have hsx:=hs x (by simp)
    have hg:q.2.g=none:=by have:=hsq.1; unfold seB at this; simp only [Bool.and_eq_true,Option.isNone_iff_eq_none] at this; exact this.1.1
    have h':Ops P k0 ((q::x::(u++v)).map (·.2)) T H K:=by
      simp only [List.cons_append,List.map_cons,Ops,hg] at h ⊢
      exact rD (fun w H' hh=>by have:=aNe hK (u:=u) hp.2 (fun r hr=>hs r (by simp only [List.cons_append,List.mem_cons]; exact .inr hr)) (fun r hr=>hn r (List.mem_cons_of_mem _ hr)) hh; simpa only [List.map_cons,Ops] using this) h
    have hqx:PRX b ps q x:=hp.1 x (by simp)
    have hnq:=hn q (List.mem_cons_self ..)
    have rest: ∀ e∈u++v,PRX b ps q e∧(PRX b ps x e∨(PRX b ps e x∧eB b x.1 e.1=false)):=fun e he=>by
      refine ⟨hp.1 e (by rw [List.mem_append] at he ⊢; rcases he with he|he <;> simp [he]),?_⟩
      rcases List.mem_append.1 he with he|he
      · obtain ⟨a,c,rfl⟩:=List.append_of_mem he
        right
        refine ⟨?_,hn e (by simp)⟩
        have:=hp.2
        rw [List.append_assoc,List.cons_append] at this
        exact (List.pairwise_cons.1 (List.pairwise_append.1 this).2.1).1 x (by simp)
      · left
        exact (List.pairwise_cons.1 (List.pairwise_append.1 hp.2).2.1).1 e he
    have own: ∀ {r:SO},seB r=true→ ∀ d,r.d=some d→d∉r.x.ar:=fun {r} hr d hd hh=>by
      unfold seB at hr
      rw [hd] at hr
      simp only [Bool.and_eq_true,Bool.not_eq_true',List.contains_eq_mem,decide_eq_false_iff_not] at hr
      exact hr.2 hh
    -- the slots of the pointers stay
    have stayq: ∀ t∈q.2.x.ar,∀ s∈(q::x::(u++v)).map (·.2),s.d≠some t:=fun t ht s hs' hd=>by
      obtain ⟨e,he,rfl⟩:=List.mem_map.1 hs'
      rcases List.mem_cons.1 he with rfl|he
      · exact own hsq.1 t hd ht
      rcases List.mem_cons.1 he with rfl|he
      · exact hqx.keep t hd ht
      · exact (rest e he).1.keep t hd ht
    have stayx: ∀ t∈x.2.x.ar,∀ s∈(q::x::(u++v)).map (·.2),s.d≠some t:=fun t ht s hs' hd=>by
      obtain ⟨e,he,rfl⟩:=List.mem_map.1 hs'
      rcases List.mem_cons.1 he with rfl|he
      · have:=hqx.rd t hd (aNf ht); rw [hnq] at this; cases this
      rcases List.mem_cons.1 he with rfl|he
      · exact own hsx.1 t hd ht
      · rcases (rest e he).2 with g|⟨g,g'⟩
        · exact g.keep t hd ht
        · have:=g.rd t hd (aNf ht); rw [g'] at this; cases this
    have hse: ∀ s∈(q::x::(u++v)).map (·.2),seB s=true:=fun s hs'=>by
      obtain ⟨e,he,rfl⟩:=List.mem_map.1 hs'
      refine (hs e ?_).1
      simp only [List.mem_cons,List.mem_append,List.cons_append] at he ⊢
      rcases he with e|e|e|e <;> simp [e]
    have hds:((q::x::(u++v)).map (·.2)).Pairwise (fun q r=> ∀ d,q.d=some d→r.d≠some d):=by
      have sym: ∀ {a c:Nat×SO},PRX b ps a c→(∀ d,a.2.d=some d→c.2.d≠some d):=fun h=>h.dst
      have sym': ∀ {a c:Nat×SO},PRX b ps a c→(∀ d,c.2.d=some d→a.2.d≠some d):=fun h d hd e=>h.dst d e hd
      rw [List.pairwise_map,List.pairwise_cons,List.pairwise_cons]
      refine ⟨fun e he=>?_,fun e he=>?_,?_⟩
      · rcases List.mem_cons.1 he with rfl|he
        · exact sym hqx
        · exact sym (rest e he).1
      · rcases (rest e he).2 with g|⟨g,_⟩
        · exact sym g
        · exact sym' g
      · have:=hp.2
        rw [List.pairwise_append] at this ⊢
        exact ⟨this.1.imp fun h=>sym h,(List.pairwise_cons.1 this.2.1).2.imp fun h=>sym h,fun a ha c hc=>sym (this.2.2 a ha c (List.mem_cons_of_mem _ hc))⟩
    have facts:lC T q.2.x=true∧lC T x.2.x=true∧(∀ p n p' m,q.2.x.pt=some (p,n)→x.2.x.pt=some (p',m)→(q.2.x.cls=.E∨x.2.x.cls=.E)→apV n m (T p) (T p')=true)∧
        ((q.2.x.lz=true∨x.2.x.lz=true)→ ∀ i j,q.2.x.bk (k0+q.2.d.getD 0) T=some i→x.2.x.bk (k0+x.2.d.getD 0) T=some j→i≠j):=
      aI0 hse hds h' fun T' H' hk ha hlz=>by
        have hd:=hK _ _ hk
        unfold ddB at hd
        rw [Bool.and_eq_true,List.all_eq_true,List.all_eq_true] at hd
        have arg: ∀ {r:SO},(∀ t∈r.x.ar,T' t=T t)→lC T' r.x=true→lC T r.x=true:=fun {r} hr hb=>by
          cases hx:r.x <;> first|rfl|skip
          case append ty esz bytes s a=>
            rw [hx] at hb hr
            cases a with
            |c _=>cases s <;> rfl
            | t a => cases s with
              |c _=>rfl
              | t s =>
                have:=hr a (by simp [X.ar])
                simp only [lC,this] at hb ⊢; exact hb
          case idx n a i=>
            rw [hx] at hb hr
            cases a with
            |c _=>rfl
            | t a =>
              have:=hr a (by simp [X.ar])
              simp only [lC,this] at hb ⊢; exact hb
          case len a=>
            rw [hx] at hb hr
            cases a with
            |c _=>rfl
            | t a =>
              have:=hr a (by simp [X.ar])
              simp only [lC,this] at hb ⊢; exact hb
        have ptz: ∀ {r:SO} {p n:Nat},r.x.pt=some (p,n)→r.pt=some (p,n)∧r.x.lz=false:=fun {r} {p n} h=>by
          have hz:r.x.lz=false:=by cases hx:r.x <;> rw [hx] at h <;> first|rfl|(cases h; done)
          unfold SO.pt
          rw [hz,if_neg (by decide)]; exact ⟨h,rfl⟩
        have hin0: ∀ p n p' m,q.2.pt=some (p,n)→x.2.pt=some (p',m)→(q.2.mv=true∨x.2.mv=true)→apV n m (T' p) (T' p')=true:=fun p n p' m e1 e2 e3=>hd.1 _ (hqx.cf hnq p n p' m e1 e2 e3)
        have mvE: ∀ {r:SO},r.x.cls=.E→r.mv=true:=fun {r} h=>by unfold SO.mv; rw [h]; rfl
        have mvZ: ∀ {r:SO},r.x.lz=true→r.mv=true:=fun {r} h=>by unfold SO.mv; rw [h,Bool.or_true]
        refine ⟨arg (fun t ht=>ha t (stayq t ht)) (hd.2 _ hsq.2),arg (fun t ht=>ha t (stayx t ht)) (hd.2 _ hsx.2),fun p n p' m e1 e2 e3=>?_,fun e3 i j b1 b2=>?_⟩
        rotate_left
        · -- blocks that are apart
          have pz : ∀ {r : SO} {k : Nat}, r ∈ (q :: x :: (u ++ v)).map (·.2) → seB r = true → (∀ t ∈ r.x.ar, T' t = T t) → r.x.bk (k0 + r.d.getD 0) T = some k → ∃ p n, r.pt = some (p, n) ∧ bkV (T' p) = some k := by
            intro r k hr hsr hst hbk
            unfold X.bk at hbk
            by_cases z:r.x.lz=true
            · rw [if_pos z] at hbk
              cases hrd:r.d with
              |none=>unfold seB at hsr; rw [hrd] at hsr; simp only [Bool.and_eq_true,Bool.not_eq_true'] at hsr; rw [z] at hsr; cases hsr.2
              | some d =>
                obtain ⟨w,hw⟩:=hlz r hr z d hrd
                rw [hrd] at hbk
                refine ⟨d,0,by unfold SO.pt; rw [if_pos z,hrd]; rfl,by rw [hw]; exact hbk⟩
            · rw [if_neg z] at hbk
              cases hpt:r.x.pt with
              |none=>rw [hpt] at hbk; cases hbk
              | some p =>
                obtain ⟨p,n⟩:=p
                rw [hpt] at hbk
                have hmem:p∈r.x.ar:=by
                  cases hx:r.x <;> rw [hx] at hpt <;> first|(cases hpt; done)|skip
                  · rename_i g k a; cases a <;> simp only [X.pt] at hpt <;> first|(cases hpt; done)|skip
                    split at hpt <;> first|(cases hpt; done)|(cases hpt; simp [X.ar])
                  · rename_i k a c; cases a <;> first|(cases hpt; done)|(cases hpt; simp [X.ar])
                  · rename_i ty esz bytes s a; cases s <;> cases a <;> first|(cases hpt; done)|(cases hpt; simp [X.ar])
                exact ⟨p,n,(ptz hpt).1,by rw [hst p hmem]; exact hbk⟩
          obtain ⟨p,n,p1,p2⟩:=pz (List.mem_cons_self ..) hsq.1 (fun t ht=>ha t (stayq t ht)) b1
          obtain ⟨p',m,r1,r2⟩:=pz (List.mem_cons_of_mem _ (List.mem_cons_self ..)) hsx.1 (fun t ht=>ha t (stayx t ht)) b2
          have hA:=hin0 p n p' m p1 r1 (e3.imp mvZ mvZ)
          -- one of them is a slice:the blocks differ
          have hsl:(∃ a c d e,T' p=.ms a c d e)∨ ∃ a c d e,T' p'=.ms a c d e:=by
            rcases e3 with z|z
            · left
              cases hrd:q.2.d with
              |none=>have h9:=hsq.1; unfold seB at h9; rw [hrd] at h9; simp only [Bool.and_eq_true,Bool.not_eq_true'] at h9; rw [z] at h9; cases h9.2
              | some d =>
                obtain ⟨w,hw⟩:=hlz q.2 (List.mem_cons_self ..) z d hrd
                have:SO.pt q.2=some (d,0):=by unfold SO.pt; rw [if_pos z,hrd]; rfl
                rw [this] at p1; cases p1
                exact ⟨_,_,_,_,hw⟩
            · right
              cases hrd:x.2.d with
              |none=>have h9:=hsx.1; unfold seB at h9; rw [hrd] at h9; simp only [Bool.and_eq_true,Bool.not_eq_true'] at h9; rw [z] at h9; cases h9.2
              | some d =>
                obtain ⟨w,hw⟩:=hlz x.2 (List.mem_cons_of_mem _ (List.mem_cons_self ..)) z d hrd
                have:SO.pt x.2=some (d,0):=by unfold SO.pt; rw [if_pos z,hrd]; rfl
                rw [this] at r1; cases r1
                exact ⟨_,_,_,_,hw⟩
          intro eij
          subst eij
          rcases hsl with ⟨a,c,d,e,hw⟩|⟨a,c,d,e,hw⟩
          · rw [hw] at p2 hA; cases p2
            cases hT:T' p' <;> rw [hT] at r2 hA <;> first|(cases r2; done)|(cases r2; simp [apV] at hA)
          · rw [hw] at r2 hA; cases r2
            cases hT:T' p <;> rw [hT] at p2 hA <;> first|(cases p2; done)|(cases p2; simp [apV] at hA)
        have hin:=hin0 p n p' m (ptz e1).1 (ptz e2).1 (e3.imp mvE mvE)
        have pa: ∀ {r:SO} {p n:Nat},r.x.pt=some (p,n)→p∈r.x.ar:=fun {r} {p n} h=>by
          cases hx:r.x <;> rw [hx] at h <;> first|(cases h; done)|skip
          · rename_i g k a; cases a <;> simp only [X.pt] at h <;> first|(cases h; done)|skip
            split at h <;> first|(cases h; done)|(cases h; simp [X.ar])
          · rename_i k a c; cases a <;> first|(cases h; done)|(cases h; simp [X.ar])
          · rename_i ty esz bytes s a; cases s <;> cases a <;> first|(cases h; done)|(cases h; simp [X.ar])
        rw [ha p (stayq p (pa e1)),ha p' (stayx p' (pa e2))] at hin
        exact hin
    exact swap hsq.1 hsx.1 hqx.dst (fun d hd hh=>by have:=hqx.rd d hd hh; rw [hnq] at this; cases this) (fun d hd hh=>by have:=hqx.wr d hd hh; rw [hnq] at this; cases this) facts.1 facts.2.1 facts.2.2.1 facts.2.2.2 h'
def aEk (P:Program) (ps:List Ap4) (ops:Array Oper) (L:List (Nat×SO)):Bool:=
  P.follows .mixedOrders&&
  (L.zipIdx.all fun p=>(L.drop (p.2+1)).all (aKY (Region.before ops) ps p.1))&&
  (List.range ops.size).all (fun i=>L.any (·.1==i))&&
  ops.toList.zipIdx.all (fun p=>p.1.after.all fun e=> !(Region.binds .any e)||decide (e.on < p.2))&&
  L.all (fun q=>seB q.2)
theorem aBS {b:Array Nat} {ps:List Ap4}: ∀ {L pre:List (Nat×SO)},((L.zipIdx pre.length).all fun p=>(((pre++L).drop (p.2+1)).all (aKY b ps p.1)))=true→L.Pairwise (PRX b ps)
  |[],_,_=>.nil
  | q :: L, pre, h => by
    rw [List.zipIdx_cons,List.all_cons,Bool.and_eq_true] at h
    refine .cons (fun r hr=>aGN ?_) (aBS (pre:=pre++[q]) ?_)
    · have:=h.1
      rw [show (pre++q::L).drop (pre.length+1)=L by rw [show pre++q::L=(pre++[q])++L by simp,show pre.length+1=(pre++[q]).length by simp,List.drop_left]] at this
      exact List.all_eq_true.1 this r hr
    · rw [show pre++[q]++L=pre++q::L by simp,show (pre++[q]).length=pre.length+1 by simp]
      exact h.2
variable {D:List Deferred} {op:Opt} {n:Nat} {ops:Array Oper} {x0:Cx} {Q:Ex→(Nat→V)→aI→Prop} {T:Nat→V} {H:aI}
theorem aF9 {L : List (Nat × SO)} {ps : List Ap4} {ops0 : List SO} {K : (Nat → V) → aI → Prop} (hK : ∀ T H, K T H → ddB ps ops0 T = true ∧ Q .norm T H) (hpw : L.Pairwise (PRX (Region.before ops) ps)) (hse : ∀ q ∈ L, seB q.2 = true ∧ q.2 ∈ ops0)
    (hslim: ∀ q∈L,∃ o,ops[q.1]?=some o∧lH P op n ops o=some q.2) (hall: ∀ i,i < ops.size→ ∃ q∈L,q.1=i)
    (hlt: ∀ (i:Nat) (o:Oper),ops[i]?=some o→ ∀ e∈o.after,Region.binds .any e=true→e.on < i):
    ∀ (fuel : Nat) (listed : Array Bool) (a : Act) (w : World), listed.size = ops.size → ((List.range ops.size).filter fun i => !(SL listed i)).length ≤ fuel →
      (∀ (i:Nat) (o:Oper),ops[i]?=some o→SL listed i=true→ ∀ e∈o.after,Region.binds .any e=true→SL listed e.on=true)→
      (∃ (T:Nat→V) (y:Cx),y.w=w∧Ops P k0 ((L.filter fun q=> !(SL listed q.1)).map (·.2)) T y.H K∧Inv y∧TRel D n y T a∧Frame x0 y)→
      wpAny P .any ops (kI D n x0 Q) fuel listed a w:=by
  obtain ⟨hbs,hbefore⟩:=uO ops
  have done : ∀ (listed : Array Bool) (a : Act) (w : World), listed.size = ops.size → Region.ready .any ops listed = [] →
      (∃ (T:Nat→V) (y:Cx),y.w=w∧Ops P k0 ((L.filter fun q=> !(SL listed q.1)).map (·.2)) T y.H K∧Inv y∧TRel D n y T a∧Frame x0 y)→kI D n x0 Q .normal a w:=by
    intro listed a w hsz hr ⟨T,y,hyw,hO,hyI,hyT,hyF⟩
    have all: ∀ i,i < ops.size→SL listed i=true:=by
      intro i
      induction i using Nat.strongRecOn with
      | _ i ih =>
        intro hi
        rcases hb:SL listed i with _|_
        · exfalso
          have hmem:i∈Region.ready .any ops listed:=mem_ready.2 ⟨by
            unfold SL at hb
            have hi':i < listed.size:=by omega
            simp [hi'] at hb ⊢
            exact hb,ops[i],Array.getElem?_eq_getElem hi,fun e he hbd=>by
              have h1:=hlt i ops[i] (Array.getElem?_eq_getElem hi) e he hbd
              exact ih e.on h1 (by omega)⟩
          rw [hr] at hmem; cases hmem
        · rfl
    have hnil:(L.filter fun q=> !(SL listed q.1))=[]:=List.filter_eq_nil_iff.2 fun q hq=>by
      obtain ⟨o,ho,_⟩:=hslim q hq
      simp [all _ (Array.getElem?_eq_some_iff.1 ho).1]
    rw [hnil] at hO
    exact ⟨.norm,T,y,rfl,hyw,(hK _ _ hO).2,hyI,hyT,hyF⟩
  intro fuel
  induction fuel with
  | zero =>
    intro listed a w hsz hcnt hcl hst
    have hr:Region.ready .any ops listed=[]:=by
      rw [List.eq_nil_iff_forall_not_mem]
      intro i hi
      obtain ⟨h0,o,ho,_⟩:=mem_ready.1 hi
      have hlt':i < ops.size:=(Array.getElem?_eq_some_iff.1 ho).1
      have hnil:(List.range ops.size).filter (fun i=> !(SL listed i))=[]:=List.eq_nil_of_length_eq_zero (by omega)
      have:i∈(List.range ops.size).filter (fun i=> !(SL listed i)):=List.mem_filter.2 ⟨List.mem_range.2 hlt',by
        unfold SL
        have hi':i < listed.size:=by omega
        simp [hi'] at h0 ⊢
        exact h0⟩
      rw [hnil] at this; cases this
    exact ⟨hr,done listed a w hsz hr hst⟩
  | succ fuel ih =>
    intro listed a w hsz hcnt hcl hst
    refine ⟨fun hr=>done listed a w hsz hr hst,fun i hi=>?_⟩
    obtain ⟨h0,o,ho,hedge⟩:=mem_ready.1 hi
    have hilt:i < ops.size:=(Array.getElem?_eq_some_iff.1 ho).1
    have hSi:SL listed i=false:=by
      unfold SL
      have hi':i < listed.size:=by omega
      simp [hi'] at h0 ⊢
      exact h0
    obtain ⟨r,hr,hri⟩:=hall i hilt
    subst hri
    obtain ⟨T,y,hyw,hO,hyI,hyT,hyF⟩:=hst
    have hrf:r∈L.filter fun q=> !(SL listed q.1):=List.mem_filter.2 ⟨hr,by simp [hSi]⟩
    obtain ⟨u,v,huv⟩:=List.append_of_mem hrf
    have hpf:(u++r::v).Pairwise (PRX (Region.before ops) ps):=by rw [← huv]; exact hpw.sublist List.filter_sublist
    have hin: ∀ q∈u++r::v,q∈L∧SL listed q.1=false:=fun q hq=>by
      rw [← huv] at hq
      obtain ⟨h1,h2⟩:=List.mem_filter.1 hq
      exact ⟨h1,by simpa using h2⟩
    have closed: ∀ (k:Nat) (o':Oper),ops[k]?=some o'→(∀ e∈o'.after,Region.binds .any e=true→SL listed e.on=true)→ ∀ j,eB (Region.before ops) k j=true→SL listed j=true:=by
      intro k
      induction k using Nat.strongRecOn with
      | _ k ihk =>
        intro o' ho' hed j hj
        obtain ⟨e,he,hb,h1|⟨h1,h2⟩⟩:=hbefore k o' ho' j hj
        · rw [← h1]; exact hed e he hb
        · have hle:e.on < ops.size:=by have:=(Array.getElem?_eq_some_iff.1 ho').1; omega
          exact ihk e.on h1 _ (Array.getElem?_eq_getElem hle) (hcl e.on _ (Array.getElem?_eq_getElem hle) (hed e he hb)) j h2
    have hanc:=closed r.1 o ho fun e he hb=>by have:=hedge e he hb; exact this
    have hn: ∀ q∈u,eB (Region.before ops) r.1 q.1=false:=fun q hq=>by
      rcases hb:eB (Region.before ops) r.1 q.1 with _|_
      · rfl
      · have:=hanc _ hb; rw [(hin q (by simp [hq])).2] at this; cases this
    rw [huv] at hO
    have hO2:=aNe (fun T H h=>(hK T H h).1) hpf (fun q hq=>hse q (hin q hq).1) hn hO
    have hrest:(L.filter fun q=> !(SL (listed.setIfInBounds r.1 true) q.1))=u++v:=by
      have e:(L.filter fun q=> !(SL (listed.setIfInBounds r.1 true) q.1))=(L.filter fun q=> !(SL listed q.1)).filter fun q=>q.1 != r.1:=by
        rw [List.filter_filter]
        refine List.filter_congr fun q _=>?_
        rw [aEl (by omega),Bool.not_or,Bool.and_comm]; rfl
      rw [e,huv,List.filter_append,List.filter_cons_of_neg (by simp)]
      have hu: ∀ q∈u,(q.1 != r.1)=true:=fun q hq=>by
        have:=(List.pairwise_append.1 hpf).2.2 q hq r (by simp)
        simpa using this.ne
      have hv: ∀ q∈v,(q.1 != r.1)=true:=fun q hq=>by
        have:=(List.pairwise_cons.1 (List.pairwise_append.1 hpf).2.1).1 q hq
        simpa using Ne.symm this.ne
      rw [List.filter_eq_self.2 hu,List.filter_eq_self.2 hv]
    obtain ⟨o',ho',hso⟩:=hslim r hr
    have hoo:o'=o:=by have:=ho'.symm.trans ho; simpa using this
    subst hoo
    obtain ⟨s1,s2,s3,s4⟩:=oM hso
    have hg:r.2.g=none:=by have:=(hse r hr).1; unfold seB at this; simp only [Bool.and_eq_true,Option.isNone_iff_eq_none] at this; exact this.1.1
    have hS': ∀ j,SL (listed.setIfInBounds r.1 true) j=(SL listed j||j==r.1):=aEl (by omega)
    have hsz':(listed.setIfInBounds r.1 true).size=ops.size:=by simpa using hsz
    have hcnt':((List.range ops.size).filter fun i=> !(SL (listed.setIfInBounds r.1 true) i)).length≤fuel:=by
      have e:(List.range ops.size).filter (fun i=> !(SL (listed.setIfInBounds r.1 true) i))=((List.range ops.size).filter fun i=> !(SL listed i)).filter (fun j=>j != r.1):=by
        rw [List.filter_filter]
        refine List.filter_congr fun j _=>?_
        rw [hS',Bool.not_or,Bool.and_comm]
        rfl
      have hmem:r.1∈(List.range ops.size).filter fun i=> !(SL listed i):=List.mem_filter.2 ⟨List.mem_range.2 hilt,by rw [hSi]; rfl⟩
      have:=(List.length_filter_lt_length_iff_exists (p:=fun j=>j != r.1)).2 ⟨r.1,hmem,by simp⟩
      rw [e]; omega
    have hcl': ∀ (i:Nat) (o:Oper),ops[i]?=some o→SL (listed.setIfInBounds r.1 true) i=true→ ∀ e∈o.after,Region.binds .any e=true→SL (listed.setIfInBounds r.1 true) e.on=true:=by
      intro k ok hk hs e he hb
      rw [hS'] at hs ⊢
      rw [Bool.or_eq_true] at hs ⊢
      rcases hs with hs|hs
      · exact .inl (hcl k ok hk hs e he hb)
      · have:k=r.1:=by simpa using hs
        subst this
        have:ok=o':=by have:=hk.symm.trans ho; simpa using this
        subst this
        exact .inl (hedge e he hb)
    simp only [List.map_cons,Ops,hg] at hO2
    unfold wpOp
    simp only [ho]
    rcases s4 with ⟨hgo,hsg⟩|⟨j,want,t,hgo,hj,hsg⟩
    · have hw:Region.wanted o' (yielded ops a.tmps)=true:=by simp [Region.wanted,hgo]
      rw [if_pos hw,← hyw]
      refine .inl (oJ s3 hO2 hyI hyT.tmps fun v0 c z hk hzI hzR hzF=>?_)
      refine ih _ _ _ hsz' hcnt' hcl' ⟨_,z,rfl,by rw [hrest]; exact hk,hzI,?_,hyF.trans hzF⟩
      have:=(hyT.frame hyI hzF).put s2 hzR
      rw [show r.2.d=o'.dst from s1]
      exact this
    · rw [hg] at hsg; cases hsg
theorem aJK {id:Nat} {L:List (Nat×SO)} {ps:List Ap4} (hslim: ∀ q∈L,∃ o,ops[q.1]?=some o∧lH P op n ops o=some q.2) (hB:aEk P ps ops L=true)
    {x:Cx} {T:Nat→V} {a:Act} (h:Ops P k0 (L.map (·.2)) T x.H fun T H=>ddB ps (L.map (·.2)) T=true∧Q .norm T H) (hx:Inv x) (hT:TRel D n x T a) (hF:Frame x0 x):
    (Code.region id ops true).wp P (kI D n x0 Q) a x.w:=by
  unfold aEk at hB
  simp only [Bool.and_eq_true] at hB
  obtain ⟨⟨⟨⟨b1,b2⟩,b3⟩,b4⟩,b5⟩:=hB
  obtain ⟨dI,dF⟩:=iU hx (x.w.drawn+1) (Nat.le_succ _)
  refine wp_region_any b1 ?_
  have hnone: ∀ j,SL (Array.replicate ops.size false) j=false:=fun j=>by
    unfold SL
    rw [Array.getD_eq_getD_getElem?,Array.getElem?_replicate]
    split <;> rfl
  refine aF9 (k0:=k0) (L:=L) (ps:=ps) (ops0:=L.map (·.2)) (fun _ _ h=>h) (aBS (pre:=[]) (by simpa using b2)) (fun q hq=>⟨List.all_eq_true.1 b5 q hq,List.mem_map_of_mem hq⟩) hslim (fun i hi=>?_) (fun i o ho e he hb=>?_) ops.size _ a _ (by simp) (by
      refine Nat.le_trans (List.length_filter_le _ _) (by simp)) (fun i o ho hs=>by rw [hnone] at hs; cases hs) ⟨T,{x with w:={x.w with drawn:=x.w.drawn+1}},rfl,?_,dI,hT.frame hx dF,hF.trans dF⟩
  · have:=List.all_eq_true.1 b3 i (List.mem_range.2 hi)
    obtain ⟨q,hq,he⟩:=List.any_eq_true.1 this
    exact ⟨q,hq,by simpa using he⟩
  · have:=List.all_eq_true.1 b4 (o,i) (by
      rw [List.mk_mem_zipIdx_iff_getElem?]
      simpa using ho)
    have:=Array.all_eq_true_iff_forall_mem.1 this e he
    simpa [hb] using this
  · rw [List.filter_eq_self.2 fun q _=>by rw [hnone]; rfl]
    exact h
end
end Go.Proofs.YteehaobohaecmaaGreatDoor


namespace Go.Proofs.YteehaobohaecmaaGreatDoor
open Go
def aJs (L0:List SO) (ord:List Nat):List (Nat×SO):=ord.filterMap fun i=>(L0[i]?).map fun s=>(i,s)
def aNN (ops : Array Oper) (L0 : List SO) : Nat → List Nat → List Nat
  |0,acc=>acc.reverse
  | fuel + 1, acc =>
    let rd:=(List.range ops.size).filter fun i=> !(acc.contains i)&&((ops[i]?).map fun o=>o.after.all fun e=> !(Region.binds .any e)||acc.contains e.on).getD false
    match rd.find? (fun i=>((L0[i]?).map fun s=>s.x.cls != .A).getD false) with
    |some i=>aNN ops L0 fuel (i::acc)
    | none => match rd with
      |i::_=>aNN ops L0 fuel (i::acc)
      |[]=>acc.reverse
def rU (P : Program) (ops : Array Oper) (L0 : List SO) (ord : List Nat) : Option SC :=
  let L:=aJs L0 ord
  if aHS P ops L then match mW (Region.before ops) [] L with
    |[]=>some (.reg (L.map (·.2)))
    |l=>some (.dreg l (L.map (·.2)))
  else none
def aMt (b : Array Nat) : List (Nat × SO) → List Ap4
  |[]=>[]
  | q :: l => (l.filterMap fun r => if eB b r.1 q.1 then none else match q.2.pt, r.2.pt with
    |some p,some p'=>if q.2.mv||r.2.mv then some (p.1,p.2,p'.1,p'.2) else none
    |_,_=>none)++aMt b l
def tQ (P:Program) (ops:Array Oper) (L0:List SO) (ord:List Nat):Option SC:=
  let L:=aJs L0 ord
  let ps:=aMt (Region.before ops) L
  if aEk P ps ops L then some (.xreg ps (L.map (·.2))) else none
def vL (L:List SO):Option SC→SC
  |none=>.reg L
  |some c=>.seq (.reg L) c
def vP (P : Program) (op : Opt) (n : Nat) (ops : Array Oper) : List Oper → Option (List SO × Option SC)
  |[]=>some ([],none)
  | o :: l => match vP P op n ops l with
    |none=>none
    | some (L, r) => match aKH op o with
      |some px=>if o.guard.isNone&&aKw n o.dst then some ([],some (.seq (.pop o.dst px) (vL L r))) else none
      |none=>(lH P op n ops o).map fun s=>(s::L,r)
def aBu (P : Program) (op : Opt) (n : Nat) (ops : Array Oper) (draw : Bool) : Option SC :=
  if (!draw&&ops.any fun o=>(aKH op o).isSome)=true then (vP P op n ops ops.toList).map fun p=>vL p.1 p.2
  else match fA (lH P op n ops) ops.toList with
  |none=>none
  | some L0 => if draw = false then some (.reg L0) else match rU P ops L0 (List.range ops.size) with
    |some s=>some s
    | none => match rU P ops L0 (aNN ops L0 ops.size []) with
      |some s=>some s
      |none=>tQ P ops L0 (List.range ops.size)
def zG (P : Program) (op : Opt) (n : Nat) : Code → Option SC
  | .skip=>some .skip
  | .ret=>some .ret
  | .exit id=>some (.exit id)
  | .region _ ops draw=>aBu P op n ops draw
  | .seq a b => match zG P op n a, zG P op n b with
    |some a,some b=>some (.seq a b)
    |_,_=>none
  | .cond c a b => match sx c, zG P op n a, zG P op n b with
    |some c,some a,some b=>some (.cond c a b)
    |_,_,_=>none
  | .block id a=>(zG P op n a).map (.block id)
  | .loop a=>(zG P op n a).map .loop
  |_=>none
section
variable {P:Program} {D:List Deferred} {k0:Nat} {op:Opt} {n:Nat}
theorem qS {ops:Array Oper} {L0:List SO} (h:fA (lH P op n ops) ops.toList=some L0) (ord:List Nat): ∀ q∈aJs L0 ord,∃ o,ops[q.1]?=some o∧lH P op n ops o=some q.2:=by
  intro q hq
  obtain ⟨i,_,h1⟩:=List.mem_filterMap.1 hq
  obtain ⟨s,h2,rfl⟩:=map_some h1
  obtain ⟨_,h3⟩:=fJ h
  obtain ⟨o,h4,h5⟩:=h3 i s h2
  exact ⟨o,by simpa using h4,h5⟩
theorem nG {ops:Array Oper} {L0:List SO} (h:fA (lH P op n ops) ops.toList=some L0) {ord:List Nat} {s:SC} (hs:rU P ops L0 ord=some s) {id:Nat} {x0 x:Cx} {Q:Ex→(Nat→V)→aI→Prop} {T:Nat→V} {a:Act}
    (hW:W P k0 s Q T x.H) (hx:Inv x) (hT:TRel D n x T a) (hF:Frame x0 x):(Code.region id ops true).wp P (kI D n x0 Q) a x.w:=by
  unfold rU at hs
  simp only at hs
  split at hs
  · rename_i hB
    split at hs
    · rename_i hl
      cases hs
      obtain ⟨k1,hW⟩:=hW
      exact aFQ (k0:=k1) (qS h ord) hB (by rw [hl]; intro d hd; cases hd) hW hx hT hF
    · cases hs
      obtain ⟨k1,hW⟩:=hW
      exact aFQ (k0:=k1) (qS h ord) hB hW.1 hW.2 hx hT hF
  · cases hs
theorem vH {ops:Array Oper} {L0:List SO} (h:fA (lH P op n ops) ops.toList=some L0) {ord:List Nat} {s:SC} (hs:tQ P ops L0 ord=some s) {id:Nat} {x0 x:Cx} {Q:Ex→(Nat→V)→aI→Prop} {T:Nat→V} {a:Act}
    (hW:W P k0 s Q T x.H) (hx:Inv x) (hT:TRel D n x T a) (hF:Frame x0 x):(Code.region id ops true).wp P (kI D n x0 Q) a x.w:=by
  unfold tQ at hs
  simp only at hs
  split at hs
  · rename_i hB
    cases hs
    obtain ⟨k1,hW⟩:=hW
    exact aJK (k0:=k1) (qS h ord) hB hW hx hT hF
  · cases hs
theorem aJz {d:Option Nat} {f:Nat} {args:List V} {x0 x:Cx} {Q:Ex→(Nat→V)→aI→Prop} {T:Nat→V} {a:Act} {o:Oper} {cs:List Value} (hd:o.dst=d) (hdn: ∀ e,o.dst=some e→e < n)
    {Qw:Ex→(Nat→V)→aI→Prop} (hQ: ∀ c T H,Qw (.pan c) T H→Q (.pan c) T H) (h:Pop P d f args Qw T x.H) (hx:Inv x) (hT:TRel D n x T a) (hF:Frame x0 x) (hr:RL x args cs) (he:(execOp a.eval o).run P x.w=.ok (.enter f cs.toArray) x.w) {next:Act→World→Prop}
    (hn: ∀ (T':Nat→V) (a':Act) (y:Cx),Qw .norm T' y.H→Inv y→TRel D n y T' a'→Frame x0 y→next a' y.w):o.wp P a x.w next (kI D n x0 Q):=by
  obtain ⟨r,hc,hq⟩:=h
  unfold Oper.wp
  rw [he,Oper.upon_enter]
  cases r with
  | ok v H' =>
    refine (hc.2 x cs rfl hx hr).mono fun e w' hp=>?_
    obtain ⟨c,y,rfl,rfl,h1,h2,h3,h4⟩:=hp
    subst hd
    exact hn (fE T o.dst v) _ y (by rw [h1]; exact hq) h2 ((hT.frame hx h4).put hdn h3) (hF.trans h4)
  | pan c S =>
    refine (hc.2 x cs rfl hx hr).mono fun e w' hp=>?_
    obtain ⟨y,rfl,rfl,h1,h2,h4⟩:=hp
    exact ⟨.pan c,T,y,rfl,rfl,hQ c T y.H (hq y.H h1),h2,hT.frame hx h4,hF.trans h4⟩
theorem aMm {o : Oper} {px : PX} (hp : aKH op o = some px) {x0 x : Cx} {Q : Ex → (Nat → V) → aI → Prop} {T : Nat → V} {a : Act} (hdn : ∀ e, o.dst = some e → e < n)
    {Qw:Ex→(Nat→V)→aI→Prop} (hQ: ∀ c T H,Qw (.pan c) T H→Q (.pan c) T H) (h:W P k0 (.pop o.dst px) Qw T x.H) (hx:Inv x) (hT:TRel D n x T a) (hF:Frame x0 x) {next:Act→World→Prop}
    (hn: ∀ (T':Nat→V) (a':Act) (y:Cx),Qw .norm T' y.H→Inv y→TRel D n y T' a'→Frame x0 y→next a' y.w):o.wp P a x.w next (kI D n x0 Q):=by
  unfold aKH at hp
  split at hp
  · rename_i p ho
    obtain ⟨s,hs,rfl⟩:=map_some hp
    simp only [W] at h
    have hR:=cN hT.tmps hs
    split at h
    · rename_i ty c hc
      rw [hc] at hR
      have e:a.eval p=.iface ty c:=by
        generalize hv:a.eval p=v at hR
        cases hR; rfl
      unfold Oper.wp
      have hrun:(execOp a.eval o).run P x.w=.halt (.panic (.iface ty c)) x.w:=by
        simp [execOp,ho,e,Instr.panic,goPanic]
      rw [hrun,Oper.upon_panic]
      exact ⟨.pan (.iface ty c),T,x,rfl,rfl,hQ _ _ _ h,hx,hT,hF⟩
    · exact h.elim
  · rename_i f args tys ho
    have run: ∀ (g:Nat) (fs cs:Array Value),a.eval f=.func (.func g) fs cs→cZ P g→(execOp a.eval o).run P x.w=.ok (.enter g (fs.toList++args.toList.map a.eval++cs.toList).toArray) x.w:=by
      intro g fs cs hf hg
      have h1:(fs++args.map a.eval++cs)=(fs.toList++args.toList.map a.eval++cs.toList).toArray:=by simp
      simp only [execOp,ho,resolve,hf,Deferred.ofValue,Sem.run_bind,Sem.run_pure,Result.andThen_ok,invoke,rA hg,h1]
    have cb: ∀ {d:Option Nat} {g:Nat} {asq:List V} {T:Nat→V},Pop P d g asq Qw T x.H→cZ P g:=fun hp=>by
      obtain ⟨r,hc,_⟩:=hp
      cases r <;> exact hc.1
    split at hp
    · rename_i g us hf has
      split at hp
      · cases hp
        simp only [W] at h
        have hfR:=cN hT.tmps hf
        have hnil: ∀ (cs:Array Value),cs.size=([]:List V).length→cs=#[]:=fun cs h=>by
          apply Array.eq_empty_of_size_eq_zero; simpa using h
        cases hfv:a.eval f with
        | func fn fs cs =>
          rw [hfv] at hfR
          cases hfR with
          | fn _ _ _ _ _ h1 h2 _ _ =>
            have e1:=hnil _ h1
            have e2:=hnil _ h2
            subst e1; subst e2
            refine aJz rfl hdn hQ h hx hT hF (tG hT.tmps has) ?_ hn
            have:=run g #[] #[] hfv (cb h)
            simpa using this
        |_=>rw [hfv] at hfR; cases hfR
      · cases hp
    · rename_i t us hf has
      split at hp
      · rename_i d hdd
        split at hp
        · cases hp
          simp only [W,aPn] at h
          have hfR:=cN hT.tmps hf
          simp only [aPn] at hfR
          split at h
          · rename_i g first caps hTn
            rw [hTn] at hfR
            cases hfv:a.eval f with
            | func fn fs cs =>
              rw [hfv] at hfR
              cases hfR with
              | fn _ _ _ _ _ h1 h2 h3 h4 =>
                exact aJz rfl hdn hQ h hx hT hF (((aBa h1 h3).append (tG hT.tmps has)).append (aBa h2 h4)) (run g fs cs hfv (cb h)) hn
            |_=>rw [hfv] at hfR; cases hfR
          · exact h.elim
        · cases hp
      · cases hp
    · cases hp
  · cases hp
def aHw (P:Program) (k0:Nat) (Q:Ex→(Nat→V)→aI→Prop):Option SC→(Nat→V)→aI→Prop
  |none=>Q .norm
  |some c=>G (W P k0 c Q)
theorem aAf {k0:Nat} {Q:Ex→(Nat→V)→aI→Prop} {L:List SO} {r:Option SC} {T:Nat→V} {H:aI} (h:W P k0 (vL L r) Q T H): ∃ k1,Ops P k1 L T H (aHw P k0 Q r):=by
  cases r with
  |none=>exact h
  |some c=>exact h
theorem jA {ops : Array Oper} {x0 : Cx} {Q : Ex → (Nat → V) → aI → Prop} : ∀ (l : List Oper) (L : List SO) (r : Option SC), vP P op n ops l = some (L, r) →
    ∀ (k1:Nat) (x:Cx) (T:Nat→V) (a:Act),Ops P k1 L T x.H (aHw P k0 Q r)→Inv x→TRel D n x T a→Frame x0 x→wpList P ops (kI D n x0 Q) l a x.w
  | [], L, r, hL, k1, x, T, a, h, hx, hT, hF => by
    cases hL
    exact ⟨.norm,T,x,rfl,rfl,h,hx,hT,hF⟩
  | o :: l, L, r, hL, k1, x, T, a, h, hx, hT, hF => by
    simp only [vP] at hL
    split at hL
    · cases hL
    rename_i L' r' hl
    split at hL
    · rename_i px hpx
      split at hL
      · rename_i hg
        cases hL
        simp only [Bool.and_eq_true,Option.isNone_iff_eq_none] at hg
        obtain ⟨hg1,hg2⟩:=hg
        have hdn: ∀ e,o.dst=some e→e < n:=fun e he=>by rw [he] at hg2; simpa [aKw] using hg2
        simp only [wpList]
        have hw:Region.wanted o (yielded ops a.tmps)=true:=by simp [Region.wanted,hg1]
        rw [if_pos hw]
        obtain ⟨T1,y,hyw,hW,hy,hTy,hFy⟩:=aBD h x rfl hx hT hF
        rw [← hyw]
        refine .inl (aMm (k0:=k0) (Q:=Q) (Qw:=fun e T H=>match e with
          | .norm=>G (W P k0 (vL L' r') Q) T H
          |e=>Q e T H) hpx hdn (fun c T H h=>h) hW hy hTy hFy ?_)
        intro T' a' z hq hz hTz hFz
        · obtain ⟨T2,u,huw,hW2,hu,hTu,hFu⟩:=aBD hq z rfl hz hTz hFz
          obtain ⟨k2,hW3⟩:=aAf hW2
          rw [← huw]
          exact jA l L' r' hl k2 u T2 a' hW3 hu hTu hFu
      · cases hL
    · obtain ⟨s,hs,hsL⟩:=map_some hL
      cases hsL
      obtain ⟨h1,h2,h3,h4⟩:=oM hs
      have run:St P (k1+s.d.getD 0) s.x T x.H (fun v H'=>Ops P k1 L' (fE T s.d v) H' (aHw P k0 Q r))→o.wp P a x.w (wpList P ops (kI D n x0 Q) l) (kI D n x0 Q):=fun hst=>
        oJ h3 hst hx hT.tmps fun v c y hk hy hr hf=>by
          rw [h1] at hk
          exact jA l L' r hl k1 y _ _ hk hy ((hT.frame hx hf).put h2 hr) (hF.trans hf)
      simp only [wpList]
      rcases h4 with ⟨hg,hsg⟩|⟨j,want,t,hg,hj,hsg⟩
      · have hw:Region.wanted o (yielded ops a.tmps)=true:=by simp [Region.wanted,hg]
        rw [if_pos hw]
        simp only [Ops,hsg] at h
        exact .inl (run h)
      · simp only [Ops,hsg] at h
        obtain ⟨hyes,hno⟩:=h
        have hy:=tU hT hj want
        have hwe:Region.wanted o (yielded ops a.tmps)=gd want (T t):=by simp only [Region.wanted,hg]; exact hy
        cases hbw:gd want (T t) with
        | true =>
          rw [if_pos (by rw [hwe,hbw])]
          exact .inl (run (hyes hbw))
        | false =>
          rw [if_neg (by rw [hwe,hbw]; simp)]
          have:=hno hbw
          rw [h1] at this
          exact jA l L' r hl k1 x _ _ this hx (hT.put h2 (.raw undef rfl)) hF
theorem zJ {ops : Array Oper} {draw : Bool} {s : SC} (hs : aBu P op n ops draw = some s) {id : Nat} {x0 x : Cx} {Q : Ex → (Nat → V) → aI → Prop} {T : Nat → V} {a : Act}
    (hW:W P k0 s Q T x.H) (hx:Inv x) (hT:TRel D n x T a) (hF:Frame x0 x):(Code.region id ops draw).wp P (kI D n x0 Q) a x.w:=by
  unfold aBu at hs
  split at hs
  · rename_i hB
    obtain ⟨⟨L,r⟩,hL,rfl⟩:=map_some hs
    obtain ⟨k1,hW⟩:=aAf hW
    have hd:draw=false:=by simp only [Bool.and_eq_true,Bool.not_eq_true'] at hB; exact hB.1
    subst hd
    refine wp_region ?_
    have:=jA (x0:=x0) (Q:=Q) ops.toList L r hL k1 x T a hW hx hT hF
    have e:=wpOps_eq_wpList (P:=P) (ops:=ops) (Q:=kI D n x0 Q) ops.toList 0 (fun j=>by simp)
    rw [← e] at this
    rwa [List.range_eq_range',show ops.size=ops.toList.length by simp]
  split at hs
  · cases hs
  · rename_i L0 hL0
    split at hs
    · rename_i hd
      cases hs
      subst hd
      obtain ⟨k1,hW⟩:=hW
      refine wp_region ?_
      have:=tO (k0:=k1) (x0:=x0) (Q:=Q) ops.toList L0 hL0 x T a hW hx hT hF
      have e:=wpOps_eq_wpList (P:=P) (ops:=ops) (Q:=kI D n x0 Q) ops.toList 0 (fun j=>by simp)
      rw [← e] at this
      rwa [List.range_eq_range',show ops.size=ops.toList.length by simp]
    · rename_i hd
      have hd':draw=true:=by simpa using hd
      subst hd'
      split at hs
      · rename_i s' hs'
        cases hs
        exact nG hL0 hs' hW hx hT hF
      · split at hs
        · rename_i s' hs'
          cases hs
          exact nG hL0 hs' hW hx hT hF
        · exact vH hL0 hs hW hx hT hF
theorem mO {l:List PanicEntry} {e:Ex} (h:aLz (.panic l)=some e): ∃ c,e=.pan c:=by
  simp only [aLz] at h
  split at h
  · cases h; exact ⟨_,rfl⟩
  · cases h
theorem aES : ∀ (c : Code) (s : SC), zG P op n c = some s → ∀ (Q : Ex → (Nat → V) → aI → Prop) (x0 x : Cx) (T : Nat → V) (a : Act),
    W P k0 s Q T x.H→Inv x→TRel D n x T a→Frame x0 x→c.wp P (kI D n x0 Q) a x.w:=by
  intro c
  induction c with
  | skip =>
    intro s hs Q x0 x T a hW hx hT hF
    cases hs
    exact wp_skip ⟨.norm,T,x,rfl,rfl,hW,hx,hT,hF⟩
  | ret =>
    intro s hs Q x0 x T a hW hx hT hF
    cases hs
    exact wp_ret ⟨.ret,T,x,rfl,rfl,hW,hx,hT,hF⟩
  | exit id =>
    intro s hs Q x0 x T a hW hx hT hF
    cases hs
    exact wp_exit ⟨.exit id,T,x,rfl,rfl,hW,hx,hT,hF⟩
  | region id ops draw =>
    intro s hs Q x0 x T a hW hx hT hF
    exact zJ hs hW hx hT hF
  | seq c1 c2 ih1 ih2 =>
    intro s hs Q x0 x T a hW hx hT hF
    simp only [zG] at hs
    split at hs
    · rename_i s1 s2 h1 h2
      cases hs
      refine wp_seq (wp_mono (ih1 s1 h1 _ x0 x T a hW hx hT hF) ?_)
      intro e a' w' hp
      obtain ⟨e',T',y,he,hw,hq,hy,hT',hF'⟩:=hp
      cases e with
      | normal =>
        cases he
        obtain ⟨T2,z,hz,hK,hzI,hzT,hzF⟩:=aBD hq y rfl hy hT' hF'
        simp only [Exit.then]
        rw [← hw,← hz]
        exact ih2 s2 h2 Q x0 z T2 a' hK hzI hzT hzF
      |ret=>cases he; exact ⟨.ret,T',y,rfl,hw,hq,hy,hT',hF'⟩
      |exit id=>cases he; exact ⟨.exit id,T',y,rfl,hw,hq,hy,hT',hF'⟩
      |goto l=>cases he
      |panic l=>obtain ⟨c,rfl⟩:=mO he; exact ⟨.pan c,T',y,he,hw,hq,hy,hT',hF'⟩
      |outgrown=>cases he
    · cases hs
  | cond c c1 c2 ih1 ih2 =>
    intro s hs Q x0 x T a hW hx hT hF
    simp only [zG] at hs
    split at hs
    · rename_i sc s1 s2 hc h1 h2
      cases hs
      simp only [W,aO] at hW
      obtain ⟨b,hb,hyes,hno⟩:=hW
      have hv:=aKl hb (cN hT.tmps hc)
      refine wp_cond_split hv (fun ht=>ih1 s1 h1 Q x0 x T a (hyes ht) hx hT hF) (fun hf=>ih2 s2 h2 Q x0 x T a (hno hf) hx hT hF)
    · cases hs
  | block id c ih =>
    intro s hs Q x0 x T a hW hx hT hF
    obtain ⟨s1,h1,rfl⟩:=map_some hs
    refine wp_block (wp_mono (ih s1 h1 _ x0 x T a hW hx hT hF) ?_)
    intro e a' w' hp
    obtain ⟨e',T',y,he,hw,hq,hy,hT',hF'⟩:=hp
    cases e with
    |normal=>cases he; exact ⟨.norm,T',y,rfl,hw,hq,hy,hT',hF'⟩
    |ret=>cases he; exact ⟨.ret,T',y,rfl,hw,hq,hy,hT',hF'⟩
    | exit id' =>
      cases he
      simp only [Exit.inBlock]
      simp only at hq
      split at hq
      · rename_i h; rw [if_pos h]; exact ⟨.norm,T',y,rfl,hw,hq,hy,hT',hF'⟩
      · rename_i h; rw [if_neg h]; exact ⟨.exit id',T',y,rfl,hw,hq,hy,hT',hF'⟩
    |goto l=>cases he
    |panic l=>obtain ⟨c,rfl⟩:=mO he; exact ⟨.pan c,T',y,he,hw,hq,hy,hT',hF'⟩
    |outgrown=>cases he
  | loop c ih =>
    intro s hs Q x0 x T a hW hx hT hF
    obtain ⟨s1,h1,rfl⟩:=map_some hs
    simp only [W] at hW
    obtain ⟨I,m,hI,hround⟩:=hW
    refine wp_loop_ghost (fun k a w=> ∃ T y,y.w=w∧I k T y.H∧Inv y∧TRel D n y T a∧Frame x0 y) m ⟨T,x,rfl,hI,hx,hT,hF⟩ ?_
    intro k a' w' ⟨T',y,hw,hI',hy,hT',hF'⟩
    subst hw
    refine wp_mono (ih s1 h1 _ x0 y T' a' (hround k T' y.H hI') hy hT' hF') ?_
    intro e a2 w2 hp
    obtain ⟨e',T2,z,he,hw,hq,hz,hT2,hF2⟩:=hp
    cases e with
    | normal =>
      cases he
      obtain ⟨j,hj,hIj⟩:=hq
      exact ⟨j,hj,T2,z,hw,hIj,hz,hT2,hF2⟩
    |ret=>cases he; exact ⟨.ret,T2,z,rfl,hw,hq,hz,hT2,hF2⟩
    |exit id=>cases he; exact ⟨.exit id,T2,z,rfl,hw,hq,hz,hT2,hF2⟩
    |goto l=>cases he
    |panic l=>obtain ⟨c,rfl⟩:=mO he; exact ⟨.pan c,T2,z,he,hw,hq,hz,hT2,hF2⟩
    |outgrown=>cases he
  |_=>intro s hs; cases hs
end
end Go.Proofs.YteehaobohaecmaaGreatDoor


namespace Go.Proofs.YteehaobohaecmaaGreatDoor
open Go
def bF (P : Program) (op : Opt) (fn : Func) : Option SF :=
  match fn.body with
  |none=>none
  | some c => match zG P op fn.ntmps c, fA (wB P fn.ntmps) fn.results.toList with
    |some s,some r=>some ⟨fn.ntmps,r,s⟩
    |_,_=>none
def qJ:V:=.raw undef
def T0 (args:List V):Nat→V:=fun i=>args.getD i qJ
def lK (T:Nat→V) (H:aI):SRes→Option V
  | .tmp t=>some (T t)
  | .cell t g m=>(ptr H (T t)).bind (ldV g m)
def kO (res:List SRes) (T:Nat→V) (H:aI):Option V:=match fA (lK T H) res with
  |some [v]=>some v
  |some vs=>some (.tup vs)
  |none=>none
def Ret (res:List SRes) (K:V→aI→Prop):Ex→(Nat→V)→aI→Prop:=fun e T H=>match e with
  | .exit _=>False
  | .pan _=>False
  |_=>onS (kO res T H) fun v=>K v H
section
variable {P:Program} {k0:Nat} {op:Opt}
theorem aFs {α β:Type} {f:α→Sem β} {w:World}: ∀ (l:List α) (r:List β),l.length=r.length→(∀ (j:Nat) (a:α) (b:β),l[j]?=some a→r[j]?=some b→(f a).run P w=.ok b w)→(l.mapM f).run P w=.ok r w
  | [], r, h, _ => by cases r with
    |nil=>simp
    |cons b r=>simp at h
  | a :: l, r, h, hf => by
    cases r with
    |nil=>simp at h
    | cons b r =>
      have h1:=hf 0 a b rfl rfl
      have h2:=aFs l r (by simpa using h) fun j a' b' ha hb=>hf (j+1) a' b' (by simpa using ha) (by simpa using hb)
      simp only [List.mapM_cons,Sem.run_bind,h1,Result.andThen_ok,h2,Sem.run_pure]
def pO (tmps:Array Value):ResultVar→Sem Value
  | .tmp t=>pure (tmps.getD t undef)
  | .cell ad t=>do loadVar t (← asAddr (tmps.getD ad undef))
theorem yC (fn:Func) (tmps:Array Value):results fn tmps=(do
    let vs ← fn.results.mapM (pO tmps)
    pure (if h:vs.size=1 then vs[0] else .tuple vs)):=rfl
theorem aL1 {D : List Deferred} {n : Nat} {rv : ResultVar} {s : SRes} (hs : wB P n rv = some s) {x : Cx} (hx : Inv x) {T : Nat → V} {a : Act} (hT : TRel D n x T a) {v : V} (hv : lK T x.H s = some v) :
    ∃ c,(pO a.tmps rv).run P x.w=.ok c x.w∧R x v c:=by
  unfold wB at hs
  split at hs
  · rename_i t
    split at hs
    · cases hs; cases hv
      exact ⟨_,rfl,hT.tmps t⟩
    · cases hs
  · rename_i t ty
    split at hs
    · rename_i g m hg hm
      split at hs
      · rename_i hc
        cases hs
        obtain ⟨c,h1,h2⟩:=aCS (P:=P) hx hv (hT.tmps t) hg hm hc.2
        refine ⟨c,?_,h2⟩
        obtain ⟨cs,hp,_⟩:=nK hv
        obtain ⟨ad,f,he,_⟩:=aAa hx hp (hT.tmps t)
        simp only [pO]
        rw [he] at h1 ⊢
        simpa [Instr.loadAt,Instr.sureAddr,asAddr] using h1
      · cases hs
    · cases hs
theorem uC {D : List Deferred} {fn : Func} {n : Nat} {res : List SRes} (hs : fA (wB P n) fn.results.toList = some res) {x : Cx} (hx : Inv x) {T : Nat → V} {a : Act} (hT : TRel D n x T a) {v : V} (hv : kO res T x.H = some v) :
    ∃ c,(results fn a.tmps).run P x.w=.ok c x.w∧R x v c:=by
  obtain ⟨g1,g2⟩:=fJ hs
  unfold kO at hv
  have key: ∀ (vs:List V),fA (lK T x.H) res=some vs→ ∃ cs:List Value,RL x vs cs∧(fn.results.mapM (pO a.tmps)).run P x.w=.ok cs.toArray x.w:=by
    intro vs hvs
    obtain ⟨g3,g4⟩:=fJ hvs
    have ex: ∀ j,j < vs.length→ ∃ c,R x (vs.getD j qJ) c∧ ∀ rv,fn.results.toList[j]?=some rv→(pO a.tmps rv).run P x.w=.ok c x.w:=fun j hj=>by
      obtain ⟨s,hs1,hs2⟩:=g4 j vs[j] (List.getElem?_eq_getElem hj)
      obtain ⟨rv,hr1,hr2⟩:=g2 j s hs1
      obtain ⟨c,hc1,hc2⟩:=aL1 hr2 hx hT hs2
      refine ⟨c,by simpa [hj] using hc2,fun rv' hrv'=>?_⟩
      have:rv'=rv:=by have:=hrv'.symm.trans hr1; simpa using this
      subst this; exact hc1
    have choice: ∃ f:Nat→Value,∀ j,j < vs.length→R x (vs.getD j qJ) (f j)∧ ∀ rv,fn.results.toList[j]?=some rv→(pO a.tmps rv).run P x.w=.ok (f j) x.w:=
      ⟨fun j=>if h:j < vs.length then Classical.choose (ex j h) else undef,fun j hj=>by
        simp only [hj,dif_pos]; exact Classical.choose_spec (ex j hj)⟩
    obtain ⟨f,hf⟩:=choice
    refine ⟨(List.range vs.length).map f,⟨by simp,fun j v hj=>?_⟩,?_⟩
    · have hlt:=(List.getElem?_eq_some_iff.1 hj).1
      have h1:=(hf j hlt).1
      have e1:vs.getD j qJ=v:=by rw [List.getD_eq_getElem?_getD,hj]; rfl
      have e2:((List.range vs.length).map f).getD j undef=f j:=by simp [hlt]
      rw [e2,← e1]; exact h1
    · rw [Array.mapM_eq_mapM_toList]
      have:=aFs (P:=P) (w:=x.w) (f:=pO a.tmps) fn.results.toList ((List.range vs.length).map f) (by simp [g3,g1]) (fun j rv b h1 h2=>by
          have hlt:j < vs.length:=by have:=(List.getElem?_eq_some_iff.1 h2).1; simpa using this
          have e2:b=f j:=by simp [hlt] at h2; exact h2.symm
          subst e2
          exact (hf j hlt).2 rv h1)
      simp only [Sem.run_map,this,Result.andThen_ok]
  cases hm:fA (lK T x.H) res with
  |none=>rw [hm] at hv; cases hv
  | some vs =>
    obtain ⟨cs,hR,hrun⟩:=key vs hm
    have hsz:cs.toArray.size=vs.length:=by simp [hR.1]
    rw [hm] at hv
    by_cases h1:vs.length=1
    · obtain ⟨u,rfl⟩: ∃ u,vs=[u]:=by
        cases vs with
        |nil=>simp at h1
        | cons u l => cases l with
          |nil=>exact ⟨u,rfl⟩
          |cons u' l=>simp at h1
      cases hv
      obtain ⟨c,rfl⟩: ∃ c,cs=[c]:=by
        have:=hR.1
        cases cs with
        |nil=>simp at this
        | cons u l => cases l with
          |nil=>exact ⟨u,rfl⟩
          |cons u' l=>simp at this
      refine ⟨c,?_,hR.2 0 _ rfl⟩
      rw [yC]
      simp only [Sem.run_bind,hrun]
      rfl
    · have hv':V.tup vs=v:=by
        cases vs with
        |nil=>simpa using hv
        | cons u l => cases l with
          |nil=>simp at h1
          |cons u' l=>simpa using hv
      subst hv'
      refine ⟨.tuple cs.toArray,?_,.tup vs _ hsz fun j u hj=>?_⟩
      · rw [yC]
        simp only [Sem.run_bind,hrun,Result.andThen_ok,Sem.run_pure]
        rw [dif_neg (by rw [hsz]; exact h1)]
      · have:=hR.2 j u hj
        rw [Array.getD_eq_getD_getElem?,List.getElem?_toArray,← List.getD_eq_getElem?_getD]
        exact this
theorem xT {x:Cx} {n:Nat} {args:List V} {cs:List Value} (h:RL x args cs) (hl:args.length≤n):
    TRel [] n x (T0 args) {tmps:=cs.toArray++Array.replicate (n - cs.toArray.size) undef,defers:=[]}:=by
  refine ⟨fun i=>?_,rfl,by simp [h.1]; omega⟩
  have hsz:cs.toArray.size=args.length:=by simp [h.1]
  simp only [T0]
  rw [Array.getD_eq_getD_getElem?,Array.getElem?_append]
  by_cases hi:i < args.length
  · rw [if_pos (by omega)]
    have:=h.2 i args[i] (List.getElem?_eq_getElem hi)
    rw [List.getD_eq_getElem?_getD,List.getElem?_eq_getElem hi,List.getElem?_toArray,← List.getD_eq_getElem?_getD]
    exact this
  · rw [if_neg (by omega),List.getD_eq_getElem?_getD,List.getElem?_eq_none (by omega),Array.getElem?_replicate]
    simp only [Option.getD_none]
    split
    · exact .raw undef rfl
    · exact .raw undef rfl
theorem wS {f : Nat} {fn : Func} {s : SF} (hf : P.funcs[f]? = some fn) (hs : bF P op fn = some s) {x : Cx} {args : List V} {cs : List Value} {K : V → aI → Prop}
    (hl:args.length≤s.n) (hW:W P k0 s.body (Ret s.res K) (T0 args) x.H) (hx:Inv x) (hr:RL x args cs):
    Calls P f cs.toArray x.w fun e w'=> ∃ c v y,e=.returned c∧y.w=w'∧K v y.H∧Inv y∧R y v c∧Frame x y:=by
  unfold bF at hs
  split at hs
  · cases hs
  · rename_i c hc
    split at hs
    · rename_i sb r h1 h2
      cases hs
      refine calls_of_wp hf hc (wp_mono (aES c sb h1 _ x x (T0 args) _ hW hx (xT hr hl) (Frame.refl x)) ?_)
      intro e a' w' hp
      obtain ⟨e',T',y,he,hw,hq,hy,hT',hF'⟩:=hp
      have fin:onS (kO r T' y.H) (fun v=>K v y.H)→a'.defers=[]∧ ∃ v,(results fn a'.tmps).run P w'=.ok v w'∧(∃ c u z,Ending.returned v=.returned c∧z.w=w'∧K u z.H∧Inv z∧R z u c∧Frame x z):=by
        intro h
        obtain ⟨v,h3,h4⟩:=aO.1 h
        obtain ⟨c,h5,h6⟩:=uC h2 hy hT' h3
        exact ⟨hT'.defers,c,by rw [← hw]; exact h5,c,v,y,rfl,hw,h4,hy,h6,hF'⟩
      cases e with
      |normal=>cases he; exact fin hq
      |ret=>cases he; exact fin hq
      |exit id=>cases he; exact hq.elim
      |goto l=>cases he
      |panic l=>obtain ⟨c,rfl⟩:=mO he; exact hq.elim
      |outgrown=>cases he
    · cases hs
theorem kQ {f : Nat} {fn : Func} {s : SF} (hf : P.funcs[f]? = some fn) (hs : bF P op fn = some s) (hn : (fn.name == "runtime.NumGoroutine") = false) : cZ P f := by
  refine ⟨fn,hf,?_,hn⟩
  unfold bF at hs
  split at hs
  · cases hs
  · rename_i c hc; rw [hc]; rfl
end
end Go.Proofs.YteehaobohaecmaaGreatDoor


namespace Go.Proofs.YteehaobohaecmaaGreatDoor
open Go
mutual
def V.pure:V→Bool
  | .sl rows=>fQ rows
  | .pp cells=>cY cells
  | .agg cells=>cY cells
  | .tup vs=>cY vs
  | .fn _ a b=>cY a&&cY b
  | .ms _ _ _ _=>false
  | .mp _ _ _ _=>false
  | .mm _ _=>false
  | .int _ _=>true
  | .bool _=>true
  | .str _=>true
  | .nilsl=>true
  | .nilp=>true
  | .raw _=>true
def cY:List V→Bool
  |[]=>true
  |v::l=>v.pure&&cY l
def fQ:List (List V)→Bool
  |[]=>true
  |r::l=>cY r&&fQ l
end
theorem cJ {l:List V}:cY l=true↔ ∀ v∈l,v.pure=true:=by
  induction l with
  |nil=>simp [cY]
  |cons v l ih=>simp [cY,ih]
theorem gR {l:List (List V)}:fQ l=true↔ ∀ r∈l,cY r=true:=by
  induction l with
  |nil=>simp [fQ]
  |cons v l ih=>simp [fQ,ih]
theorem R.pure_at {x y:Cx} {v:V} {c:Value} (h:R x v c) (hp:v.pure=true) (hw:y.w=x.w) (hz: ∀ b,x.Z b→y.Z b):R y v c:=by
  induction h with
  |int k n=>exact .int k n
  |bool b=>exact .bool b
  |str s=>exact .str s
  |nilsl=>exact .nilsl
  |slnil=>exact .slnil
  | sl rows a cap sz cs hc hm hzz hsz hcell _ ih =>
    simp only [V.pure] at hp
    refine .sl rows a cap sz cs hc hm (fun hne=>hz _ (hzz hne)) hsz (fun r row j v hr hj=>by rw [hw]; exact hcell r row j v hr hj) fun r row j v hr hj=>ih r row j v hr hj ?_
    exact cJ.1 (gR.1 hp row (List.mem_of_getElem? hr)) v (List.mem_of_getElem? hj)
  |ms=>simp [V.pure] at hp
  | pp cells a cs hzz hcell _ ih =>
    simp only [V.pure] at hp
    exact .pp cells a cs (fun hne=>hz _ (hzz hne)) (fun j v hj=>by rw [hw]; exact hcell j v hj) fun j v hj=>ih j v hj (cJ.1 hp v (List.mem_of_getElem? hj))
  |nilp=>exact .nilp
  |mp=>simp [V.pure] at hp
  |mm=>simp [V.pure] at hp
  | agg cells cs hs _ ih =>
    simp only [V.pure] at hp
    exact .agg cells cs hs fun j v hj=>ih j v hj (cJ.1 hp v (List.mem_of_getElem? hj))
  | tup vs cs hs _ ih =>
    simp only [V.pure] at hp
    exact .tup vs cs hs fun j v hj=>ih j v hj (cJ.1 hp v (List.mem_of_getElem? hj))
  | fn f first caps fs cs hfs hcs _ _ ih1 ih2 =>
    simp only [V.pure,Bool.and_eq_true] at hp
    exact .fn f first caps fs cs hfs hcs (fun j v hj=>ih1 j v hj (cJ.1 hp.1 v (List.mem_of_getElem? hj))) fun j v hj=>ih2 j v hj (cJ.1 hp.2 v (List.mem_of_getElem? hj))
  |raw c hh=>exact .raw c hh
theorem RL.pure_at {x y:Cx} {vs:List V} {cs:List Value} (h:RL x vs cs) (hp:cY vs=true) (hw:y.w=x.w) (hz: ∀ b,x.Z b→y.Z b):RL y vs cs:=
  ⟨h.1,fun j v hj=>(h.2 j v hj).pure_at (cJ.1 hp v (List.mem_of_getElem? hj)) hw hz⟩
def fz0 (H:aI):V→V
  | .ms id ver off len=>if (H id).live&&decide ((H id).ver=ver) then .sl (((H id).rows.drop off).take len) else .ms id ver off len
  |v=>v
def fz1 (H:aI):V→V
  | .agg cs=>.agg (cs.map (fz0 H))
  |v=>fz0 H v
def fz2 (H:aI):V→V
  | .tup vs=>.tup (vs.map (fz1 H))
  |v=>fz1 H v
def rW (x:Cx):Cx:={x with Z:=fun b=>x.Z b∨ ∃ id,(x.H id).own=true∧x.σ id=b,H:=fun id=>{x.H id with live:=false}}
theorem aA4 {x:Cx} (hx:Inv x):Inv (rW x)∧Frame x (rW x):=by
  have hno: ∀ id,((rW x).H id).own=true→False:=fun id h=>by simp [rW,Blk.own] at h
  refine ⟨⟨fun b h=>?_,fun b id _ h=>(hno id h).elim,fun id h=>(hno id h).elim,fun i j h=>(hno i h).elim,fun p hp=>⟨.inl (hx.tab p hp).1,(hx.tab p hp).2⟩⟩,⟨rfl,rfl,rfl,Nat.le_refl _,fun _ _ _=>rfl,fun b h=>.inl h,fun b h=>?_,fun id=>⟨Nat.le_refl _,fun h=>by simp [rW] at h⟩,fun id h=>(hno id h).elim,Nat.le_refl _,fun id h=>by simp [rW] at h⟩⟩
  · rcases h with h|⟨id,h,rfl⟩
    · exact hx.zlt b h
    · exact hx.lt h
  · rcases h with h|h
    · exact .inl h
    · exact .inr (.inr h)
def H0:aI:=fun _=>⟨0,false,false,0,0,[]⟩
def start (x:Cx) (Z:Nat→Prop):Cx:={w:=x.w,Z:=Z,σ:=fun _=>0,H:=H0}
theorem pY (id:Nat):(H0 id).own=true→False:=fun h=>by simp [H0,Blk.own] at h
theorem lZ {x:Cx} {Z:Nat→Prop} (hZ: ∀ b,Z b→b < x.w.heap.size) (ht:aKc x.w Z):Inv (start x Z):=
  ⟨hZ,fun _ id _ h=>(pY id h).elim,fun id h=>(pY id h).elim,fun i _ h=>(pY i h).elim,ht⟩
theorem back {x y:Cx} (hx:Inv x) {Z:Nat→Prop} (hf:Frame (start x Z) y) (_hy:Inv y) {Z':Nat→Prop} (h1: ∀ b,x.Z b→Z' b) (h2: ∀ b,Z' b→x.Z b∨(x.w.heap.size≤b∧b < y.w.heap.size)):
    let z:Cx:={w:=y.w,Z:=Z',σ:=x.σ,H:=x.H}
    Inv z∧Frame x z:=by
  intro z
  have hkeep: ∀ b,b < x.w.heap.size→y.w.heap[b]?=x.w.heap[b]?:=fun b hb=>hf.keep b hb fun id h=>(pY id h).elim
  have hF:Frame x z:=by
    refine ⟨hf.os,hf.tape,hf.output,hf.size,fun b hb _=>hkeep b hb,h1,fun b hb=>?_,fun id=>⟨Nat.le_refl _,fun h _=>⟨h,rfl,rfl,fun _=>rfl,fun ho=>⟨rfl,?_⟩⟩⟩,fun id h=>.inl ⟨h,rfl⟩,hf.drawn,fun _ _ _=>rfl⟩
    · rcases h2 b hb with h|h
      · exact .inl h
      · exact .inr (.inl h.1)
    · unfold dB
      rw [show z.w.heap[x.σ id]?=x.w.heap[x.σ id]? from hkeep _ (hx.lt ho)]
  have hs:x.w.heap.size≤y.w.heap.size:=hf.size
  refine ⟨⟨fun b hb=>?_,fun b id hb ho=>?_,fun id ho=>?_,hx.inj,hx.tab_of hF⟩,hF⟩
  · rcases h2 b hb with h|h
    · have:=hx.zlt b h; show b < y.w.heap.size; omega
    · exact h.2
  · rcases h2 b hb with h|h
    · exact hx.zown b id h ho
    · have:=hx.lt ho
      intro e
      have e':x.σ id=b:=e
      omega
  · obtain ⟨cc,g1,g2,g3,g4⟩:=hx.blk id ho
    exact ⟨cc,by rw [show z.w.heap[x.σ id]?=x.w.heap[x.σ id]? from hkeep _ (hx.lt ho)]; exact g1,g2,g3,fun r row j v hr hj=>(g4 r row j v hr hj).frame hx hF⟩
def aP (P:Program) (f:Nat) (args:List V) (v:V):Prop:= ∀ H,dW P f args H v H
section
variable {P:Program} {op:Opt}
theorem aP.roc {f:Nat} {args:List V} {v:V} (h:aP P f args v) (H:aI):ROC P f args H v:=fun H' _=>h H'
def V.scalar : V → Bool
  | .int _ _=>true
  | .bool _=>true
  | .str _=>true
  | .agg cs => cs.all fun v => match v with
    | .int _ _=>true
    | .bool _=>true
    | .str _=>true
    |_=>false
  | .tup cs => cs.all fun v => match v with
    | .int _ _=>true
    | .bool _=>true
    | .str _=>true
    |_=>false
  |_=>false
theorem aIK {x y:Cx} {v:V} {c:Value} (h:R x v c) (hs:v.scalar=true):R y v c:=by
  have one: ∀ {u:V} {d:Value},R x u d→(match u with| .int _ _=>true| .bool _=>true| .str _=>true|_=>false)=true→R y u d:=by
    intro u d hu hb
    cases hu <;> first|(simp at hb; done)|exact .int _ _|exact .bool _|exact .str _
  cases h with
  |int k n=>exact .int k n
  |bool b=>exact .bool b
  |str s=>exact .str s
  | agg cells cs hl hr =>
    simp only [V.scalar,List.all_eq_true] at hs
    exact .agg cells cs hl fun j v hj=>one (hr j v hj) (hs v (List.mem_of_getElem? hj))
  | tup cells cs hl hr =>
    simp only [V.scalar,List.all_eq_true] at hs
    exact .tup cells cs hl fun j v hj=>one (hr j v hj) (hs v (List.mem_of_getElem? hj))
  |_=>simp [V.scalar] at hs
end
end Go.Proofs.YteehaobohaecmaaGreatDoor


namespace Go.Proofs.YteehaobohaecmaaGreatDoor
open Go
def fzv (z : Bool) (H : aI) : Nat → V → V
  |0,v=>v
  | n + 1, v => match v with
    | .nilsl=>if z then .sl [] else .nilsl
    | .ms id ver off len=>if (H id).live&&decide ((H id).ver=ver) then .sl ((((H id).rows.drop off).take len).map fun r=>r.map (fzv z H n)) else .ms id ver off len
    | .mp id ver row off => if (H id).own && decide ((H id).ver = ver) then match (H id).rows[row]? with
        |some r=>.pp ((r.drop off).map (fzv z H n))
        |none=>.mp id ver row off
      else .mp id ver row off
    | .agg cs=>.agg (cs.map (fzv z H n))
    | .tup vs=>.tup (vs.map (fzv z H n))
    | .fn f a b=>.fn f (a.map (fzv z H n)) (b.map (fzv z H n))
    | .sl rows=>.sl (rows.map fun r=>r.map (fzv z H n))
    | .pp cells=>.pp (cells.map (fzv z H n))
    |v=>v
theorem eA {α β:Type} {f:α→β} {l:List α} {j:Nat} {b:β} (h:(l.map f)[j]?=some b): ∃ a,l[j]?=some a∧b=f a:=by
  rw [List.getElem?_map] at h
  obtain ⟨a,h1,h2⟩:=map_some h
  exact ⟨a,h1,by first|exact h2|exact h2.symm⟩
variable {z:Bool}
theorem aIC {x : Cx} (hx : Inv x) : ∀ (n : Nat) {v : V} {c : Value}, R x v c → R (rW x) (fzv z x.H n v) c := by
  have hf:=(aA4 hx).2
  intro n
  induction n with
  |zero=>intro v c h; exact h.frame hx hf
  | succ n ih =>
    intro v c h
    cases h with
    |int k n=>exact .int k n
    |bool b=>exact .bool b
    |str s=>exact .str s
    |nilsl=>cases z <;> simp only [fzv] <;> first|exact .nilsl|exact .slnil
    |slnil=>exact .slnil
    |nilp=>exact .nilp
    |raw c hh=>exact .raw c hh
    |mm id ver b hv hh=>exact (R.mm id ver b hv hh).frame hx hf
    | agg cells cs hs hr =>
      refine .agg _ cs (by simpa using hs) fun j v hj=>?_
      obtain ⟨u,hu,rfl⟩:=eA hj
      exact ih (hr j u hu)
    | tup vs cs hs hr =>
      refine .tup _ cs (by simpa using hs) fun j v hj=>?_
      obtain ⟨u,hu,rfl⟩:=eA hj
      exact ih (hr j u hu)
    | fn f first caps fs cs hfs hcs hff hc =>
      refine .fn f _ _ fs cs (by simpa using hfs) (by simpa using hcs) (fun j v hj=>?_) fun j v hj=>?_
      · obtain ⟨u,hu,rfl⟩:=eA hj
        exact ih (hff j u hu)
      · obtain ⟨u,hu,rfl⟩:=eA hj
        exact ih (hc j u hu)
    | sl rows a cap sz cs hc hm hz hsz hcell hh =>
      have key:=R.sl (x:=rW x) (rows.map fun r=>r.map (fzv z x.H n)) a cap sz cs (by simpa using hc) hm (fun hne=>.inl (hz (by simpa using hne)))
        (fun r hr=>by obtain ⟨r',hr',rfl⟩:=List.mem_map.1 hr; simpa using hsz r' hr')
        (fun r row j v hr hj=>by
          obtain ⟨row',h1,rfl⟩:=eA hr
          obtain ⟨v',h2,rfl⟩:=eA hj
          exact hcell r row' j v' h1 h2)
        (fun r row j v hr hj=>by
          obtain ⟨row',h1,rfl⟩:=eA hr
          obtain ⟨v',h2,rfl⟩:=eA hj
          exact ih (hh r row' j v' h1 h2))
      simpa [fzv] using key
    | pp cells a cs hz hcell hh =>
      refine .pp _ a cs (fun hne=>.inl (hz (by simpa using hne))) (fun j v hj=>?_) fun j v hj=>?_
      · obtain ⟨u,hu,rfl⟩:=eA hj
        exact hcell j u hu
      · obtain ⟨u,hu,rfl⟩:=eA hj
        exact ih (hh j u hu)
    | mp id ver row off p hv hh hm =>
      simp only [fzv]
      split
      · rename_i hc
        simp only [Bool.and_eq_true,decide_eq_true_eq] at hc
        split
        · rename_i r hr
          obtain ⟨cc,g1,g2,g3,g4⟩:=hx.cel id hc.1 (hm hc.2 hc.1)
          have e:=hh hc.2 hc.1
          subst e
          have hrow:=g2 r (List.mem_of_getElem? hr)
          have hlt:=(List.getElem?_eq_some_iff.1 hr).1
          refine .pp _ _ (fun j=>cc.getD (row*(x.H id).sz+off+j) undef) (fun _=>.inr ⟨id,hc.1,rfl⟩) (fun j v hj=>?_) fun j v hj=>?_
          · obtain ⟨u,hu,rfl⟩:=eA hj
            rw [List.getElem?_drop] at hu
            have h9:=(fK g2 g3 hr hu).1
            rw [Addr.add_lit]
            exact gG g1 (by omega)
          · obtain ⟨u,hu,rfl⟩:=eA hj
            rw [List.getElem?_drop] at hu
            have h10:=g4 _ _ _ _ hr hu
            rw [← Nat.add_assoc] at h10
            exact ih h10
        · exact (R.mp id ver row off p hv hh hm).frame hx hf
      · exact (R.mp id ver row off p hv hh hm).frame hx hf
    | ms id ver off len b m cap hv hh hm =>
      simp only [fzv]
      split
      · rename_i hc
        simp only [Bool.and_eq_true,decide_eq_true_eq] at hc
        obtain ⟨e1,e2,e3,e4,e5,e6⟩:=hh hc.2 hc.1
        subst e1
        have hlen:(((x.H id).rows.drop off).take m).length=m:=by simp; omega
        cases ho:(x.H id).own with
        | false =>
          have e8:=e6 ho
          have hm0:m=0:=by omega
          subst hm0; subst e8
          simpa using R.sl0 _
        | true =>
          obtain ⟨e7,e8⟩:=e5 ho
          subst e7
          obtain ⟨cc,h1,h2,h3,h4⟩:=hx.cel id ho (hm hc.2 hc.1)
          have hidx: ∀ (r:Nat) (row:List V),(((x.H id).rows.drop off).take m)[r]?=some row→(x.H id).rows[off+r]?=some row:=by
            intro r row hr
            simp only [List.getElem?_take,List.getElem?_drop] at hr
            split at hr
            · exact hr
            · cases hr
          have key:=R.sl (x:=rW x) ((((x.H id).rows.drop off).take m).map fun r=>r.map (fzv z x.H n)) ⟨x.σ id,off*(x.H id).sz,none⟩ cap (x.H id).sz
            (fun k=>cc.getD (off*(x.H id).sz+k) undef) (by rw [List.length_map]; omega) e3 (fun _=>.inr ⟨id,ho,rfl⟩)
            (fun r hr=>by
              obtain ⟨r',hr',rfl⟩:=List.mem_map.1 hr
              rw [List.length_map]
              exact h2 r' (List.mem_of_mem_drop (List.mem_of_mem_take hr')))
            (fun r row q v hr hj=>by
              obtain ⟨row',g1,rfl⟩:=eA hr
              obtain ⟨v',g2,rfl⟩:=eA hj
              have h8:=hidx _ _ g1
              have h9:=(fK h2 h3 h8 g2).1
              rw [Nat.add_mul] at h9
              rw [Addr.add_lit]
              exact gG h1 (by omega))
            (fun r row q v hr hj=>by
              obtain ⟨row',g1,rfl⟩:=eA hr
              obtain ⟨v',g2,rfl⟩:=eA hj
              have h8:=hidx _ _ g1
              have h10:=h4 _ _ _ _ h8 g2
              rw [show (off+r)*(x.H id).sz+q=off*(x.H id).sz+(r*(x.H id).sz+q) by rw [Nat.add_mul]; omega] at h10
              exact ih h10)
          rw [List.length_map,hlen] at key
          exact key
      · exact (R.ms id ver off len b m cap hv hh hm).frame hx hf
section
variable {P:Program} {op:Opt}
theorem aDv (z : Bool) (n : Nat) {f : Nat} {fn : Func} {s : SF} (hf : P.funcs[f]? = some fn) (hs : bF P op fn = some s) (hn : (fn.name == "runtime.NumGoroutine") = false) {args : List V} {v : V}
    (hl:args.length≤s.n) (ha:cY args=true) (hv:v.pure=true) (hW:W P 0 s.body (Ret s.res fun u G=>fzv z G n u=v) (T0 args) H0):aP P f args v:=by
  intro H
  refine ⟨kQ hf hs hn,fun x cs hxH hx hr=>?_⟩
  subst hxH
  have hI:=lZ (x:=x) (Z:=x.Z) hx.zlt hx.tab
  refine (wS (x:=start x x.Z) hf hs hl hW hI (hr.pure_at ha rfl fun _ h=>h)).mono fun e w' h=>?_
  obtain ⟨c,u,y,h1,h2,h4,h5,h6,h7⟩:=h
  obtain ⟨sI,sF⟩:=aA4 h5
  have hR:=aIC (z:=z) h5 n h6
  rw [h4] at hR
  obtain ⟨zI,zF⟩:=back hx h7 h5 (Z':=(rW y).Z) (fun b hb=>.inl (h7.zone b hb)) (fun b hb=>by
    have hlt:b < y.w.heap.size:=sI.zlt b hb
    rcases hb with hb|⟨id,ho,rfl⟩
    · rcases h7.zold b hb with h|h|⟨id,h,_⟩
      · exact .inl h
      · exact .inr ⟨h,hlt⟩
      · exact (pY id h).elim
    · rcases h7.fresh id ho with ⟨h,_⟩|h
      · exact (pY id h).elim
      · exact .inr ⟨h,hlt⟩)
  exact ⟨c,{w:=y.w,Z:=(rW y).Z,σ:=x.σ,H:=x.H},h1,h2,rfl,zI,hR.pure_at hv rfl fun _ h=>h,zF⟩
theorem aKx {H H' : aI} (hext : Ext H H') : ∀ (n : Nat) (v : V), (fzv z H n v).pure = true → fzv z H' n v = fzv z H n v := by
  intro n
  induction n with
  |zero=>intro v _; rfl
  | succ n ih =>
    have il: ∀ l:List V,cY (l.map (fzv z H n))=true→l.map (fzv z H' n)=l.map (fzv z H n):=fun l hp=>
      List.map_congr_left fun a ha=>ih a (cJ.1 hp _ (List.mem_map_of_mem ha))
    have ill: ∀ l:List (List V),fQ (l.map fun r=>r.map (fzv z H n))=true→(l.map fun r=>r.map (fzv z H' n))=l.map fun r=>r.map (fzv z H n):=fun l hp=>
      List.map_congr_left fun a ha=>il a (gR.1 hp _ (List.mem_map_of_mem ha))
    intro v hp
    cases v with
    | ms id ver off len =>
      simp only [fzv] at hp ⊢
      split at hp
      · rename_i hc
        have hl:(H id).live=true:=by simp at hc; exact hc.1
        rw [hext id hl]
        rw [if_pos hc,if_pos hc]
        simp only [V.pure] at hp
        rw [ill _ hp]
      · simp [V.pure] at hp
    | mp id ver row off =>
      simp only [fzv] at hp ⊢
      split at hp
      · rename_i hc
        have hl:(H id).live=true:=by simp [Blk.own] at hc; exact hc.1.1
        rw [hext id hl,if_pos hc,if_pos hc]
        split at hp
        · rename_i r hr
          simp only [V.pure] at hp
          first|rw [hr]|skip
          show V.pp _=V.pp _
          rw [il _ hp]
        · simp [V.pure] at hp
      · simp [V.pure] at hp
    |agg cs=>simp only [fzv,V.pure] at hp ⊢; rw [il _ hp]
    |tup cs=>simp only [fzv,V.pure] at hp ⊢; rw [il _ hp]
    |pp cs=>simp only [fzv,V.pure] at hp ⊢; rw [il _ hp]
    |sl cs=>simp only [fzv,V.pure] at hp ⊢; rw [ill _ hp]
    | fn f a b =>
      simp only [fzv,V.pure,Bool.and_eq_true] at hp ⊢
      rw [il _ hp.1,il _ hp.2]
    |_=>rfl
theorem aP.lendz (z:Bool) (n:Nat) {f:Nat} {args:List V} {H:aI} {v:V} (h:aP P f (args.map (fzv z H n)) v) (hp:cY (args.map (fzv z H n))=true) (hs:v.scalar=true):ROC P f args H v:=by
  intro H' hext
  have h':=h H0
  refine ⟨h'.1,fun x cs hxH hx hr=>?_⟩
  subst hxH
  obtain ⟨sI,sF⟩:=aA4 hx
  have hI:=lZ (x:=x) (Z:=(rW x).Z) sI.zlt sI.tab
  have hrr:RL (start x (rW x).Z) (args.map (fzv z H n)) cs:=by
    refine ⟨by simpa using hr.1,fun j v hj=>?_⟩
    have hvp:=cJ.1 hp v (List.mem_of_getElem? hj)
    obtain ⟨u,hu,rfl⟩:=eA hj
    have:=aIC (z:=z) hx n (hr.2 j u hu)
    rw [aKx hext n u hvp] at this
    exact this.pure_at hvp rfl fun _ h=>h
  refine (h'.2 (start x (rW x).Z) cs rfl hI hrr).mono fun e w' hq=>?_
  obtain ⟨c,y,h1,h2,h3,h4,h5,h6⟩:=hq
  obtain ⟨zI,zF⟩:=back hx h6 h4 (Z':=x.Z) (fun _ h=>h) (fun b h=>.inl h)
  exact ⟨c,{w:=y.w,Z:=x.Z,σ:=x.σ,H:=x.H},h1,h2,rfl,zI,aIK h5 hs,zF⟩
theorem aAn {H H':aI}: ∀ (n:Nat) (v:V),v.pure=true→fzv z H' n v=fzv z H n v∧(fzv z H n v).pure=true:=by
  intro n
  induction n with
  |zero=>intro v h; exact ⟨rfl,h⟩
  | succ n ih =>
    have il: ∀ l:List V,cY l=true→l.map (fzv z H' n)=l.map (fzv z H n)∧cY (l.map (fzv z H n))=true:=fun l hp=>
      ⟨List.map_congr_left fun a ha=>(ih a (cJ.1 hp _ ha)).1,cJ.2 fun v hv=>by obtain ⟨a,ha,rfl⟩:=List.mem_map.1 hv; exact (ih a (cJ.1 hp _ ha)).2⟩
    have ill: ∀ l:List (List V),fQ l=true→(l.map fun r=>r.map (fzv z H' n))=(l.map fun r=>r.map (fzv z H n))∧fQ (l.map fun r=>r.map (fzv z H n))=true:=fun l hp=>
      ⟨List.map_congr_left fun a ha=>(il a (gR.1 hp _ ha)).1,gR.2 fun v hv=>by obtain ⟨a,ha,rfl⟩:=List.mem_map.1 hv; exact (il a (gR.1 hp _ ha)).2⟩
    intro v hv
    cases v <;> simp only [V.pure,Bool.and_eq_true] at hv <;> simp only [fzv,V.pure,Bool.and_eq_true,and_self]
    case nilsl=>cases z <;> simp [V.pure,fQ]
    case ms=>cases hv
    case mp=>cases hv
    case mm=>cases hv
    case agg=>exact ⟨by rw [(il _ hv).1],(il _ hv).2⟩
    case tup=>exact ⟨by rw [(il _ hv).1],(il _ hv).2⟩
    case pp=>exact ⟨by rw [(il _ hv).1],(il _ hv).2⟩
    case sl=>exact ⟨by rw [(ill _ hv).1],(ill _ hv).2⟩
    case fn=>exact ⟨by rw [(il _ hv.1).1,(il _ hv.2).1],(il _ hv.1).2,(il _ hv.2).2⟩
theorem aP.argz (z:Bool) (n:Nat) {f:Nat} {args:List V} {H:aI} {v:V} (h:aP P f (args.map (fzv z H n)) v) (hp:cY args=true):aP P f args v:=by
  intro H1
  have h':=h H1
  refine ⟨h'.1,fun x cs hxH hx hr=>h'.2 x cs hxH hx ⟨by simpa using hr.1,fun j v hj=>?_⟩⟩
  obtain ⟨u,hu,rfl⟩:=eA hj
  have hup:=cJ.1 hp u (List.mem_of_getElem? hu)
  have h1:R (start x x.Z) u (cs.getD j undef):=(hr.2 j u hu).pure_at hup rfl fun _ h=>h
  have h2:=aIC (z:=z) (lZ (x:=x) (Z:=x.Z) hx.zlt hx.tab) n h1
  rw [(aAn n u hup).1] at h2
  refine h2.pure_at (aAn (H':=H) n u hup).2 rfl fun b hb=>?_
  rcases hb with hb|⟨id,ho,_⟩
  · exact hb
  · exact (pY id ho).elim
theorem aE0 (z:Bool) (n:Nat) {f:Nat} {args us:List V} {H:aI} {v:V} {k:V→aI→Prop} (h:aP P f us v) (ha:args.map (fzv z H n)=us) (hp:cY us=true) (hs:cY args=true∨v.scalar=true)
    (hk:k v H):rN P false f args H k:=by
  subst ha
  rcases hs with hs|hs
  · exact ⟨v,(h.argz z n hs).roc H,hk⟩
  · exact ⟨v,h.lendz z n hp hs,hk⟩
end
mutual
def V.canon:V→Bool
  | .sl rows=>dK rows
  | .pp cells=>cD cells
  | .agg cells=>cD cells
  | .tup vs=>cD vs
  | .fn _ a b=>cD a&&cD b
  | .ms _ _ _ _=>false
  | .mp _ _ _ _=>false
  | .mm _ _=>false
  | .int _ _=>true
  | .bool _=>true
  | .str _=>true
  | .nilsl=>false
  | .nilp=>true
  | .raw _=>true
def cD:List V→Bool
  |[]=>true
  |v::l=>v.canon&&cD l
def dK:List (List V)→Bool
  |[]=>true
  |r::l=>cD r&&dK l
end
theorem wV {l:List V}:cD l=true↔ ∀ v∈l,v.canon=true:=by
  induction l with
  |nil=>simp [cD]
  |cons v l ih=>simp [cD,ih]
theorem uD {l:List (List V)}:dK l=true↔ ∀ r∈l,cD r=true:=by
  induction l with
  |nil=>simp [dK]
  |cons v l ih=>simp [dK,ih]
theorem dU {H:aI}: ∀ (n:Nat) (v:V),v.canon=true→fzv z H n v=v:=by
  intro n
  induction n with
  |zero=>intro v _; rfl
  | succ n ih =>
    have il: ∀ l:List V,cD l=true→l.map (fzv z H n)=l:=fun l hp=>by
      conv=>rhs; rw [← List.map_id l]
      exact List.map_congr_left fun a ha=>ih a (wV.1 hp _ ha)
    have ill: ∀ l:List (List V),dK l=true→(l.map fun r=>r.map (fzv z H n))=l:=fun l hp=>by
      conv=>rhs; rw [← List.map_id l]
      exact List.map_congr_left fun a ha=>il a (uD.1 hp _ ha)
    intro v hv
    cases v <;> simp only [V.canon,Bool.and_eq_true] at hv <;> simp only [fzv]
    case nilsl=>cases hv
    case ms=>cases hv
    case mp=>cases hv
    case agg=>rw [il _ hv]
    case tup=>rw [il _ hv]
    case pp=>rw [il _ hv]
    case sl=>rw [ill _ hv]
    case fn=>rw [il _ hv.1,il _ hv.2]
theorem cC {H:aI} (n:Nat) (l:List V) (h:cD l=true):l.map (fzv z H n)=l:=by
  conv=>rhs; rw [← List.map_id l]
  exact List.map_congr_left fun a ha=>dU n a (wV.1 h _ ha)
end Go.Proofs.YteehaobohaecmaaGreatDoor


namespace Go.Proofs.YteehaobohaecmaaGreatDoor
open Go
section
variable {P:Program} {k0:Nat} {Q:Ex→(Nat→V)→aI→Prop} {T:Nat→V} {H:aI}
theorem tY {ops:List SO} {b:SC} (h: ∀ K:(Nat→V)→aI→Prop,(∀ T H,W P k0 b Q T H→K T H)→Ops P k0 ops T H K):W P k0 (.seq (.reg ops) b) Q T H:=
  ⟨k0,h _ fun _ _ h=>.done h⟩
theorem aCX {ops:List SO} {b:SC} (h: ∀ K:(Nat→V)→aI→Prop,(∀ T H,G (W P k0 b Q) T H→K T H)→Ops P k0 ops T H K):W P k0 (.seq (.reg ops) b) Q T H:=
  ⟨k0,h _ fun _ _ h=>h⟩
theorem aB {a b c:SC} (h:W P k0 (.seq a (.seq b c)) Q T H):W P k0 (.seq (.seq a b) c) Q T H:=by
  simp only [W] at h ⊢
  refine Eq.mp (congrArg (fun q=>W P k0 a q T H) (funext fun e=>funext fun T=>funext fun H=>?_)) h
  cases e <;> rfl
theorem dA (h:Q .norm T H):W P k0 .skip Q T H:=h
theorem aN (h:Q .ret T H):W P k0 .ret Q T H:=h
theorem aLw {f:Nat} {args:List V} {v:V} {H':aI} {k:V→aI→Prop} (h:dW P f args H v H') (hk:k v H'):rN P true f args H k:=⟨v,H',h,hk⟩
theorem aD {b:SC} (h:W P k0 b Q T H):W P k0 (.seq .skip b) Q T H:=.done h
theorem aW {b:SC} (h:Q .ret T H):W P k0 (.seq .ret b) Q T H:=h
theorem aX {b:SC} {n:Nat} (h:Q (.exit n) T H):W P k0 (.seq (.exit n) b) Q T H:=h
theorem xA {c:SX} {a b r:SC} {bb:Bool} (hc:asB (ev T c)=some bb) (h1:bb=true→W P k0 (.seq a r) Q T H) (h2:bb=false→W P k0 (.seq b r) Q T H):W P k0 (.seq (.cond c a b) r) Q T H:=by
  simp only [W,hc,dX] at h1 h2 ⊢
  exact ⟨h1,h2⟩
theorem aIV {c:SX} {a b:SC} {bb:Bool} (hc:asB (ev T c)=some bb) (h1:bb=true→W P k0 a Q T H) (h2:bb=false→W P k0 b Q T H):W P k0 (.cond c a b) Q T H:=by
  simp only [W,hc,dX]
  exact ⟨h1,h2⟩
theorem oR {id:Nat} {a:SC} (h: ∀ Q':Ex→(Nat→V)→aI→Prop,(∀ T H,Q .norm T H→Q' .norm T H)→(∀ T H,Q .norm T H→Q' (.exit id) T H)→(∀ T H,Q .ret T H→Q' .ret T H)→
    (∀ n T H,n≠id→Q (.exit n) T H→Q' (.exit n) T H)→W P k0 a Q' T H):W P k0 (.block id a) Q T H:=by
  simp only [W]
  refine h _ (fun T H h=>h) (fun T H h=>?_) (fun T H h=>h) (fun n T H hn h=>?_)
  · simp only [if_true]; exact h
  · simp only [if_neg hn]; exact h
theorem cQ {a:SC} (I:Nat→(Nat→V)→aI→Prop) (h0: ∃ n,I n T H)
    (h: ∀ n T H,I n T H→ ∀ Q':Ex→(Nat→V)→aI→Prop,(∀ m T H,m < n→I m T H→Q' .norm T H)→(∀ T H,Q .ret T H→Q' .ret T H)→(∀ n T H,Q (.exit n) T H→Q' (.exit n) T H)→W P k0 a Q' T H):W P k0 (.loop a) Q T H:=by
  simp only [W]
  obtain ⟨n,h0⟩:=h0
  exact ⟨I,n,h0,fun n T H hI=>h n T H hI _ (fun m T H h1 h2=>⟨m,h1,h2⟩) (fun _ _ h=>h) (fun _ _ _ h=>h)⟩
theorem vT {a:SC} (I:Nat→(Nat→V)→aI→Prop) (h0: ∃ n,I n T H)
    (h: ∀ n T H,I n T H→ ∀ Q':Ex→(Nat→V)→aI→Prop,(∀ m T H,m < n→I m T H→Q' .norm T H)→(∀ T H,Q .ret T H→Q' .ret T H)→(∀ n T H,Q (.exit n) T H→Q' (.exit n) T H)→(∀ c T H,Q (.pan c) T H→Q' (.pan c) T H)→W P k0 a Q' T H):W P k0 (.loop a) Q T H:=by
  simp only [W]
  obtain ⟨n,h0⟩:=h0
  exact ⟨I,n,h0,fun n T H hI=>h n T H hI _ (fun m T H h1 h2=>⟨m,h1,h2⟩) (fun _ _ h=>h) (fun _ _ _ h=>h) (fun _ _ _ h=>h)⟩
end
attribute [simp] lX fE asB gd ev evs Ops St gT tL sQ unV xE aDG zB aGJ eQ aIa aB6 mnV mxV ptr ldV aBo nZ lK kO fA V.cells V.one ok Ret T0 qJ fz2 fz1 fz0 V.pure cY fQ
def nth {α:Type} [Inhabited α] (l:List α) (k:Nat):α:=l.getD k default
theorem yB {α:Type} [Inhabited α] {l:List α} {k:Nat} (h:k < l.length):l[k]?=some (nth l k):=by
  simp [nth,h]
theorem bA {α:Type} [Inhabited α] {l:List α} {k:Nat} (h:k < l.length):l[k]=nth l k:=by
  simp [nth,h]
theorem dG {α:Type} [Inhabited α] {l:List α} {k:Nat} (h:k < l.length):l.drop k=nth l k::l.drop (k+1):=by
  rw [← bA h]; exact List.drop_eq_getElem_cons h
abbrev iV (n:Int):V:=.int .i64 n
abbrev cI (n:Int):List V:=[.int .i64 n]
abbrev aQ (l:List Int):V:=.sl (l.map cI)
abbrev cL (l:List Int):List V:=[aQ l]
abbrev aZ (l:List (List Int)):V:=.sl (l.map cL)
@[simp] theorem tR {α : Type} [Inhabited α] (f : α → List V) (l : List α) (k : Int) (h0 : 0 ≤ k) (h : k < l.length) : aEN (l.map f) k = some (f (nth l k.toNat)) := by
  have:k.toNat < l.length:=by omega
  simp [aEN,h0,yB this]
@[simp] theorem aR0 {α : Type} [Inhabited α] (H : aI) (e : Nat) (f : α → List V) (l : List α) (kd : IntKind) (k : Int) (h0 : 0 ≤ k) (h : k < l.length) (he : ∀ a, (f a).length = e) :
    pU H e (.sl (l.map f)) (.int kd k)=some (.pp (f (nth l k.toNat))):=by
  simp [pU,tR f l k h0 h,he]
@[simp] theorem aBs {n:Int} (h1: -9223372036854775808≤n) (h2:n < 9223372036854775808):IntKind.i64.wrap n=n:=IntWalk.i64_in n ⟨by omega,by omega⟩
@[simp] theorem xR {α : Type} (f : α → List V) (l : List α) (h : ∀ a, cY (f a) = true) : fQ (l.map f) = true := by
  rw [gR]; intro r hr; obtain ⟨a,_,rfl⟩:=List.mem_map.1 hr; exact h a
@[simp] theorem aHE (r:List (List V)):(V.sl r).canon=dK r:=by rw [V.canon]
@[simp] theorem aQq (r:List V):(V.pp r).canon=cD r:=by rw [V.canon]
@[simp] theorem aPW (r:List V):(V.agg r).canon=cD r:=by rw [V.canon]
@[simp] theorem aP0 (r:List V):(V.tup r).canon=cD r:=by rw [V.canon]
@[simp] theorem aQA (f:Nat) (a b:List V):(V.fn f a b).canon=(cD a&&cD b):=by rw [V.canon]
@[simp] theorem aQd (a b c d:Nat):(V.ms a b c d).canon=false:=by rw [V.canon]
@[simp] theorem aQx (a b c d:Nat):(V.mp a b c d).canon=false:=by rw [V.canon]
@[simp] theorem aPZ (k:IntKind) (n:Int):(V.int k n).canon=true:=by rw [V.canon]
@[simp] theorem aPm (b:Bool):(V.bool b).canon=true:=by rw [V.canon]
@[simp] theorem aPU (s:List UInt8):(V.str s).canon=true:=by rw [V.canon]
@[simp] theorem aNn:V.nilsl.canon=false:=by rw [V.canon]
@[simp] theorem aOB:V.nilp.canon=true:=by rw [V.canon]
@[simp] theorem aPV (c:Value):(V.raw c).canon=true:=by rw [V.canon]
@[simp] theorem aOZ:cD []=true:=by rw [cD]
@[simp] theorem aM5 (v:V) (l:List V):cD (v::l)=(v.canon&&cD l):=by rw [cD]
@[simp] theorem aNa:dK []=true:=by rw [dK]
@[simp] theorem aAV (v:List V) (l:List (List V)):dK (v::l)=(cD v&&dK l):=by rw [dK]
@[simp] theorem aNB {z:Bool} {H:aI} {n:Nat} {v:V} (h:v.canon=true):fzv z H n v=v:=dU n v h
theorem eP {α:Type} (f:α→List V) (l:List α) (h: ∀ a,cD (f a)=true):dK (l.map f)=true:=by
  rw [uD]; intro r hr; obtain ⟨a,_,rfl⟩:=List.mem_map.1 hr; exact h a
@[simp] theorem aLX (l:List Int):dK (l.map cI)=true:=eP _ _ fun a=>by simp [cI]
@[simp] theorem aKj (l:List (List Int)):dK (l.map cL)=true:=eP _ _ fun a=>by simp [cL]
end Go.Proofs.YteehaobohaecmaaGreatDoor


namespace Go.Proofs.YteehaobohaecmaaGreatDoor
open Go
structure XF where
  s:SF
  fz:List (Nat×Nat)
abbrev aEF:=Bool→Nat→List V→aI→Option (V×aI)
structure PrimA where
  a:Nat→Nat→List V→aI→Option (V×Blk)
  p:Nat→List V→Option V
def exX (call : aEF) (qa : PrimA) (id : Nat) (x : X) (T : Nat → V) (H : aI) : Option (V × aI) :=
  match x with
  | .mv a=>some (ev T a,H)
  | .lazy ty sz=>some (.ms id ((H id).ver+1) 0 0,upd H id ⟨(H id).ver+1,true,true,ty,sz,[]⟩)
  | .pick c a b => match asB (ev T c) with
    |some bb=>some (if bb then ev T a else ev T b,H)
    |none=>none
  | .alloc ty z=>some (.mp id ((H id).ver+1) 0 0,upd H id ⟨(H id).ver+1,true,false,ty,z.length,[z]⟩)
  | .box ty _ a=>some (.mp id ((H id).ver+1) 0 0,upd H id ⟨(H id).ver+1,true,false,ty,(ev T a).cells.length,[(ev T a).cells]⟩)
  | .build z ps=>(bld z (ps.map fun p=>(p.1,p.2.1,ev T p.2.2))).map fun cs=>(.agg cs,H)
  | .bslice ty esz own z len ps=>(pL esz (List.replicate len z) (ps.map fun p=>(p.1,ev T p.2))).map fun rows=>
      if own then (.ms id ((H id).ver+1) 0 rows.length,upd H id ⟨(H id).ver+1,true,false,ty,esz,rows⟩) else (.sl rows,H)
  | .load agg n a=>((ptr H (ev T a)).bind (ldV agg n)).map fun v=>(v,H)
  | .ldp agg n a=>((aLv (ev T a)).bind (ldV agg n)).map fun v=>(v,H)
  | .store n a b=>(stP H n (ev T b).cells (ev T a)).map fun H'=>(.raw undef,H')
  | .bin op a b=>(gT op (ev T a) (ev T b)).map fun v=>(v,H)
  | .sbin op a b=>(tL op (ev T a) (ev T b)).map fun v=>(v,H)
  | .bbin op a b=>(sQ op (ev T a) (ev T b)).map fun v=>(v,H)
  | .abin neg q a b=>(xZ neg q (ev T a) (ev T b)).map fun v=>(v,H)
  | .un op a=>(unV op (ev T a)).map fun v=>(v,H)
  | .conv kd a=>(xE kd (ev T a)).map fun v=>(v,H)
  | .fld off a=>(aDG off (ev T a)).map fun v=>(v,H)
  | .part agg off n a=>(zB agg off n (ev T a)).map fun v=>(v,H)
  | .idx esz a i=>(pU H esz (ev T a) (ev T i)).map fun v=>(v,H)
  | .sidx a i=>(aEZ (ev T a) (ev T i)).map fun v=>(v,H)
  | .aidx agg n len a i=>(aE8 agg n len (ev T a) (ev T i)).map fun v=>(v,H)
  | .apos n len a i=>(aFy n len (ev T a) (ev T i)).map fun v=>(v,H)
  | .slice esz a lo hi=>(mJ H esz (lo.map (ev T)) (hi.map (ev T)) (ev T a)).map fun v=>(v,H)
  | .sslice a lo hi=>(vO (lo.map (ev T)) (hi.map (ev T)) (ev T a)).map fun v=>(v,H)
  | .mks ty esz bytes z l c=>(aCx bytes (ev T l) (ev T c)).map fun n=>
      (.ms id ((H id).ver+1) 0 n.1,upd H id ⟨(H id).ver+1,true,false,ty,esz,List.replicate n.1 z⟩)
  | .ext a i=>(aIa i (ev T a)).map fun v=>(v,H)
  | .mkf f caps=>some (.fn f [] (evs T caps),H)
  | .bstr a=>(aEV (ev T a)).map fun v=>(v,H)
  | .mkm f a b=>some (.fn f (evs T a) (evs T b),H)
  | .mki ty a=>(aLm (ev T a)).map fun c=>(.raw (.iface ty c),H)
  | .tas ty a=>(aK1 ty (ev T a)).map fun v=>(v,H)
  | .nilck a=>(aDO (ev T a)).map fun v=>(v,H)
  | .len a=>(aBo H (ev T a)).map fun v=>(v,H)
  | .clr z a=>(aHj H z (ev T a)).map fun H'=>(.tup [],H')
  | .cpy n a b=>(aK3 H n (ev T b) (ev T a)).map fun p=>(.int .i64 p.1,p.2)
  | .slen a=>(aB6 (ev T a)).map fun v=>(v,H)
  | .mn a b=>(mnV (ev T a) (ev T b)).map fun v=>(v,H)
  | .mn3 a b c=>((mnV (ev T a) (ev T b)).bind fun u=>mnV u (ev T c)).map fun v=>(v,H)
  | .mx a b=>(mxV (ev T a) (ev T b)).map fun v=>(v,H)
  | .append ty esz bytes s a => match ev T s with
    | .ms i ver off len => if (H i).live && decide ((H i).ver = ver) then if off = 0 then if len = (H i).rows.length then if (H i).ty = ty then if (H i).sz = esz then
        match uS H (ev T a) with
        | some new => if gN esz new = true then if (len + new.length) * bytes ≤ 140737488355328 then if len + new.length ≤ 9223372036854775807 then
            some (.ms i (ver+1) 0 (len+new.length),upd H i {H i with ver:=ver+1,rows:=(H i).rows++new})
          else none else none else none
        |none=>none
        else none else none else none else none else none
    |_=>none
  | .call true f args=>call true f (evs T args) H
  | .call false f args => match qa.p f (evs T args) with
    |some v=>some (v,H)
    |none=>call false f (evs T args) H
  | .callA f args=>(qa.a id f (evs T args) H).map fun p=>(p.1,upd H id p.2)
  | .callv e g args => match ev T g with
    | .fn f first caps=>call e f (first++evs T args++caps) H
    |_=>none
  | .isnil neg a => match ev T a with
    | .nilsl=>some (.bool (!neg),H)
    | .sl (_::_)=>some (.bool neg,H)
    |_=>none
  | .mkmap=>some (.mm id ((H id).ver+1),upd H id ⟨(H id).ver+1,true,true,dV,2,[[.nilp,.nilp]]⟩)
  | .mlook kd ok z m x=>(aBA H kd z (ev T m) (ev T x)).map fun p=>(if ok then .tup [p.1,.bool p.2] else p.1,H)
  | .mset kd m x v=>(zX H kd (ev T m) (ev T x) (ev T v)).map fun H'=>(.raw undef,H')
  | .mlen a=>(aE5 H (ev T a)).map fun v=>(v,H)
  | .bad=>none
def aAw (call : aEF) (qa : PrimA) (k0 : Nat) : List SO → (Nat → V) → aI → Option ((Nat → V) × aI)
  |[],T,H=>some (T,H)
  | o :: r, T, H => match o.g with
    | none => match exX call qa (k0 + o.d.getD 0) o.x T H with
      |some (v,H')=>aAw call qa k0 r (fE T o.d v) H'
      |none=>none
    | some (t, want) => match gd want (T t) with
      |true=>match exX call qa (k0+o.d.getD 0) o.x T H with
          |some (v,H')=>aAw call qa k0 r (fE T o.d v) H'
          |none=>none
      |false=>aAw call qa k0 r (fE T o.d (.raw undef)) H
def aMW (H:aI) (d k0:Nat):Nat→Nat
  |0=>k0
  |n+1=>if (H (k0+d)).live then aMW H d (k0+65536) n else k0
def kOf (k0:Nat) (fz:List (Nat×Nat)) (H:aI) (ops:List SO):Nat:=match fz.find? (fun p=>decide (1000003≤p.2)&&decide (p.2 < 1000000000)&&ops.any fun o=>o.d==some p.1) with
  |some p=>aMW H (p.2 - 1000003) k0 200
  |none=>k0
structure LzA where
  id':Nat
  ty:Nat
  sz:Nat
  id:Nat
  off:Nat
def aRK (k0 c:Nat):Nat ⊕ LzA:=if c < 1000000000 then .inl (k0+c) else
  .inr ⟨k0+(c - 1000000000) / 1000000000,(c / 1000000) % 1000,(c / 100000) % 10,k0+(c / 100) % 1000,c % 100⟩
def aJx (k0 : Nat) (fz : List (Nat × Nat)) : SC → List (Nat ⊕ LzA)
  | .reg ops | .dreg _ ops | .xreg _ ops => ops.foldr (fun o l => match o.d with
    |some d=>(fz.filter (fun p=>p.1==d&& !(decide (1000003≤p.2)&&decide (p.2 < 1000000000)))).map (fun p=>aRK k0 p.2)++l
    |none=>l) []
  | .seq a _=>aJx k0 fz a
  |_=>[]
inductive LzR where
  |no
  |nl (H:aI)
  |fc (id:Nat) (H:aI)
  |fp (s:Nat) (v:V) (H:aI)
def aR9 (a : LzA) (T : Nat → V) (H : aI) : LzR := match Nat.beq a.ty 999 with
  | true => match T (a.id' - a.id) with
    | .mp id ver row off => if (H id).ver = ver ∧ (H id).own = true then match (H id).rows[row]? with
        |some r=>.fp (a.id' - a.id) (.pp (r.drop off)) (jK id H)
        |none=>.no
      else .no
    |_=>.no
  | false => match (H a.id).rows with
    | r :: _ => match r[a.off]? with
      |some .nilsl=>if a.id'≠a.id∧(H a.id).own=true∧a.ty < 4294967296 then
          .nl (upd (upd H a.id' ⟨(H a.id').ver+1,true,true,a.ty,a.sz,[]⟩) a.id {H a.id with rows:=(H a.id).rows.set 0 (r.set a.off (.ms a.id' ((H a.id').ver+1) 0 0))}) else .no
      |some (.ms i ver 0 len)=>if i≠a.id'∧a.id≠i∧(H i).live=true∧(H i).ver=ver∧(H a.id).own=true then
          .fc i (upd (jK i H) a.id {H a.id with rows:=(H a.id).rows.set 0 (r.set a.off (.sl ((H i).rows.take len)))}) else .no
      |_=>.no
    |[]=>.no
def lzC (a : LzA) (T : Nat → V) (H : aI) : LzR := match Nat.beq a.ty 998 with
  | true => match (H a.id).rows[(H a.id).rows.length - 1]? with
    | some r => match r[a.off]? with
      |some (.ms i ver 0 len)=>if a.id≠i∧(H i).live=true∧(H i).ver=ver∧(H a.id).own=true then
          .fc i (upd (jK i H) a.id {H a.id with rows:=(H a.id).rows.set ((H a.id).rows.length - 1) (r.set a.off (.sl ((H i).rows.take len)))}) else .no
      |_=>.no
    |none=>.no
  |false=>aR9 a T H
def frz : List (Nat ⊕ LzA) → (Nat → V) → aI → (Nat → V) × aI
  |[],T,H=>(T,H)
  | .inl id::l,T,H=>frz l (fzT id H T) (jK id H)
  | .inr a :: l, T, H => match lzC a T H with
    | .no=>frz l T H
    | .nl H'=>frz l T H'
    | .fc i H'=>frz l (fzT i H T) H'
    | .fp s v H'=>frz l (upd T s v) H'
abbrev aHR:=Nat→Nat→List (Nat×Nat)→SC→(Nat→V)→aI→Option (Ex×(Nat→V)×aI)
abbrev aLg:=Nat→List V→aI→Option (V×aI)
def aJP (F : Nat → Option XF) (run : aHR) (k1 : Nat) : aEF := fun e f args H => match F f with
  |none=>none
  | some g => if args.length ≤ g.s.n then match e with
    | true => match run k1 g.s.n g.fz g.s.body (T0 args) H with
      |some (.exit _,_,_)=>none
      |some (.pan _,_,_)=>none
      |some (_,T',H')=>(kO g.s.res T' H').map fun v=>(v,H')
      |none=>none
    | false => if cY (args.map (fzv false H 4)) then match run 0 g.s.n g.fz g.s.body (T0 (args.map (fzv false H 4))) H0 with
        |some (.exit _,_,_)=>none
        |some (.pan _,_,_)=>none
        | some (_, T', H') => match kO g.s.res T' H' with
          |some u=>if (fzv false H' 6 u).pure then if cY args||(fzv false H' 6 u).scalar then some (fzv false H' 6 u,H) else none else none
          |none=>none
        |none=>none
      else none
    else none
def aJ1 (q : aLg) (F : Nat → Option XF) (run : aHR) (k1 : Nat) : aEF := fun e f args H => match e with
  | true => match q f args H with
    |some r=>some r
    |none=>aJP F run k1 true f args H
  |false=>aJP F run k1 false f args H
def aSh (q : aLg) (qa : PrimA) (F : Nat → Option XF) (run : aHR) : aHR := fun k0 n fz c T H => match c with
  | .skip=>some (.norm,T,H)
  | .ret=>some (.ret,T,H)
  | .exit j=>some (.exit j,T,H)
  | .pop _ _=>none
  | .reg ops=>(aAw (aJ1 q F run (kOf k0 fz H ops+n)) qa (kOf k0 fz H ops) ops T H).map fun p=>(.norm,p.1,p.2)
  | .dreg mW ops=>if mW.all (fun d=> !(H (kOf k0 fz H ops+d)).live) then (aAw (aJ1 q F run (kOf k0 fz H ops+n)) qa (kOf k0 fz H ops) ops T H).map fun p=>(.norm,p.1,p.2) else none
  | .xreg ps ops => match aAw (aJ1 q F run (kOf k0 fz H ops + n)) qa (kOf k0 fz H ops) ops T H with
    |some (T',H')=>if ddB ps ops T'=true then some (.norm,T',H') else none
    |none=>none
  | .seq a b => match run k0 n fz a T H with
    |some (.norm,T',H')=>run k0 n fz b (frz (aJx k0 fz b) T' H').1 (frz (aJx k0 fz b) T' H').2
    |r=>r
  | .cond c a b => match asB (ev T c) with
    |some true=>run k0 n fz a T H
    |some false=>run k0 n fz b T H
    |none=>none
  | .block id a => match run k0 n fz a T H with
    |some (.exit j,T',H')=>if j=id then some (.norm,T',H') else some (.exit j,T',H')
    |r=>r
  | .loop a => match run k0 n fz a T H with
    |some (.norm,T',H')=>run k0 n fz (.loop a) T' H'
    |r=>r
def run (q:aLg) (qa:PrimA) (F:Nat→Option XF) (m:Nat):aHR:=Nat.rec (fun _ _ _ _ _ _=>none) (fun _ ih=>aSh q qa F ih) m
section
variable {P:Program} {F:Nat→Option XF} {q:aLg} {qa:PrimA}
end
end Go.Proofs.YteehaobohaecmaaGreatDoor


namespace Go.Proofs.YteehaobohaecmaaGreatDoor
open Go
def ldB (agg:Bool) (n:Nat) (B:Blk) (ver row off:Nat):Option V:=if (B.own&&decide (B.ver=ver))=true then (B.rows[row]?).bind fun r=>ldV agg n (r.drop off) else none
def okB (B:Blk) (ver:Nat):Bool:=B.own&&decide (B.ver=ver)
def stB (B : Blk) (ver row off n : Nat) (vs : List V) : Option Blk := if okB B ver = true then if vs.length = n then if vs.all V.one = true then match B.rows[row]? with
    |some r=>if off+n≤r.length then some {B with rows:=B.rows.set row (eM r off vs)} else none
    |none=>none
  else none else none else none
section
variable {P:Program} {k0:Nat} {K:(Nat→V)→aI→Prop} {T:Nat→V} {H:aI} {r:List SO} {d:Nat} {a b c:SX} {v u:V}
theorem fM (h:K T H):Ops P k0 [] T H K:=h
theorem aA (ha:ev T a=v) (h:Ops P k0 r (upd T d v) H K):Ops P k0 (⟨none,some d,.mv a⟩::r) T H K:=by subst ha; exact h
theorem aDx {i n ty sz:Nat} (hi:k0+d=i) (hv:(H i).ver=n) (h:Ops P k0 r (upd T d (.ms i (n+1) 0 0)) (upd H i ⟨n+1,true,true,ty,sz,[]⟩) K):Ops P k0 (⟨none,some d,.lazy ty sz⟩::r) T H K:=by
  subst hi; subst hv; exact h
theorem bE {i n ty m:Nat} {z:List V} (hi:k0+d=i) (hv:(H i).ver=n) (hm:z.length=m) (h:Ops P k0 r (upd T d (.mp i (n+1) 0 0)) (upd H i ⟨n+1,true,false,ty,m,[z]⟩) K):Ops P k0 (⟨none,some d,.alloc ty z⟩::r) T H K:=by
  subst hi; subst hv; subst hm; exact h
theorem cK {i n ty q m:Nat} {cs:List V} (hi:k0+d=i) (hv:(H i).ver=n) (ha:ev T a=v) (hc:v.cells=cs) (hm:cs.length=m) (h:Ops P k0 r (upd T d (.mp i (n+1) 0 0)) (upd H i ⟨n+1,true,false,ty,m,[cs]⟩) K):
    Ops P k0 (⟨none,some d,.box ty q a⟩::r) T H K:=by
  subst hi; subst hv; subst ha; subst hc; subst hm; exact h
theorem vR {α:Type} {o:Option α} {x:α} {k:α→Prop} (ho:o=some x) (h:k x):onS o k:=by rw [ho]; exact h
theorem stp {q:X} {o:Option V} (hS: ∀ k:V→aI→Prop,St P (k0+d) q T H k=onS o fun v=>k v H) (ho:o=some v) (h:Ops P k0 r (upd T d v) H K):Ops P k0 (⟨none,some d,q⟩::r) T H K:=by
  simp only [Ops,Option.getD_some,hS,ho,dX]; exact h
theorem aH {agg:Bool} {n:Nat} {cs:List V} (ha:ev T a=.pp cs) (hg:ldV agg n cs=some v) (h:Ops P k0 r (upd T d v) H K):Ops P k0 (⟨none,some d,.load agg n a⟩::r) T H K:=by
  refine stp (v:=v) (fun _=>rfl) ?_ h
  rw [ha]; exact hg
theorem iD {agg:Bool} {n id ver row off:Nat} {B:Blk} (ha:ev T a=.mp id ver row off) (hH:H id=B) (hg:ldB agg n B ver row off=some v) (h:Ops P k0 r (upd T d v) H K):Ops P k0 (⟨none,some d,.load agg n a⟩::r) T H K:=by
  subst hH
  refine stp (v:=v) (fun _=>rfl) ?_ h
  rw [ha]
  simp only [ptr]
  unfold ldB at hg
  split at hg
  · rename_i hc
    rw [if_pos (show ok H id ver=true from hc)]
    cases hr:(H id).rows[row]? with
    |none=>rw [hr] at hg; cases hg
    |some w=>rw [hr] at hg; exact hg
  · cases hg
theorem aIZ {off:Nat} {cs cs':List V} (ha:ev T a=.pp cs) (hd:cs.drop off=cs') (h:Ops P k0 r (upd T d (.pp cs')) H K):Ops P k0 (⟨none,some d,.fld off a⟩::r) T H K:=by
  subst hd
  refine stp (v:=.pp (cs.drop off)) (fun _=>rfl) ?_ h
  rw [ha]; rfl
theorem aH5 {off id ver row o o':Nat} {B:Blk} (ha:ev T a=.mp id ver row o) (hH:H id=B) (hok:okB B ver=true) (ho:o+off=o') (h:Ops P k0 r (upd T d (.mp id ver row o')) H K):Ops P k0 (⟨none,some d,.fld off a⟩::r) T H K:=by
  subst ho; subst hH
  refine stp (v:=.mp id ver row (o+off)) (fun _=>rfl) ?_ h
  rw [ha]; rfl
theorem aAZ {n id ver row off : Nat} {B B' : Blk} {vs : List V} (ha : ev T a = .mp id ver row off) (hb : ev T b = v) (hc : v.cells = vs) (hH : H id = B) (hst : stB B ver row off n vs = some B') (h : Ops P k0 r T (upd H id B') K) :
    Ops P k0 (⟨none,none,.store n a b⟩::r) T H K:=by
  subst hH; subst hc; subst hb
  simp only [Ops,St]
  refine vR (x:=upd H id B') ?_ h
  rw [ha]
  unfold stB at hst
  simp only [stP]
  by_cases h1:ok H id ver=true
  · rw [if_pos (show okB (H id) ver = true from h1)] at hst
    rw [if_pos h1]
    by_cases h2:(ev T b).cells.length=n
    · rw [if_pos h2] at hst ⊢
      by_cases h3:(ev T b).cells.all V.one=true
      · rw [if_pos h3] at hst ⊢
        cases hw:(H id).rows[row]? with
        |none=>rw [hw] at hst; cases hst
        | some w =>
          rw [hw] at hst
          simp only at hst ⊢
          by_cases h4:off+n≤w.length
          · rw [if_pos h4] at hst ⊢; cases hst; rfl
          · rw [if_neg h4] at hst; cases hst
      · rw [if_neg h3] at hst; cases hst
    · rw [if_neg h2] at hst; cases hst
  · rw [if_neg (show ¬okB (H id) ver=true from h1)] at hst; cases hst
theorem bK {id ver row o:Nat} {B:Blk} (ha:ev T a=.mp id ver row o) (hH:H id=B) (hok:okB B ver=true) (h:Ops P k0 r (upd T d (.mp id ver row o)) H K):Ops P k0 (⟨none,some d,.nilck a⟩::r) T H K:=by
  subst hH
  refine stp (v:=.mp id ver row o) (fun _=>rfl) ?_ h
  rw [ha]; rfl
variable {x y:Int}
theorem rY {op:BinOp} {w:V} (ha:ev T a=u) (hb:ev T b=w) (hg:gT op u w=some v) (h:Ops P k0 r (upd T d v) H K):Ops P k0 (⟨none,some d,.bin op a b⟩::r) T H K:=by
  refine stp (v:=v) (fun _=>rfl) ?_ h
  rw [ha,hb]; exact hg
theorem rO (ha:ev T a=iV x) (hb:ev T b=iV y) (h1: -9223372036854775808≤x+y) (h2:x+y < 9223372036854775808) (h:Ops P k0 r (upd T d (iV (x+y))) H K):Ops P k0 (⟨none,some d,.bin .add a b⟩::r) T H K:=
  rY ha hb (by simp only [gT,if_true,aBs h1 h2]) h
theorem bL {m n:Nat} (ha:ev T a=iV (m:Nat)) (hb:ev T b=iV (n:Nat)) (h2:m+n < 9223372036854775808) (h:Ops P k0 r (upd T d (iV ((m+n:Nat):Int))) H K):Ops P k0 (⟨none,some d,.bin .add a b⟩::r) T H K:=
  rO ha hb (by omega) (by omega) (by rw [← Int.natCast_add]; exact h)
theorem aIS (ha:ev T a=iV x) (hb:ev T b=iV y) (h1: -9223372036854775808≤x - y) (h2:x - y < 9223372036854775808) (h:Ops P k0 r (upd T d (iV (x - y))) H K):Ops P k0 (⟨none,some d,.bin .sub a b⟩::r) T H K:=
  rY ha hb (by simp only [gT,if_true,aBs h1 h2]) h
theorem bW (ha:ev T a=iV x) (hb:ev T b=iV y) (h:Ops P k0 r (upd T d (.bool (decide (x < y)))) H K):Ops P k0 (⟨none,some d,.bin .lss a b⟩::r) T H K:=rY ha hb (by simp only [gT,if_true]) h
theorem aCc (ha:ev T a=iV x) (hb:ev T b=iV y) (h:Ops P k0 r (upd T d (.bool (decide (x≤y)))) H K):Ops P k0 (⟨none,some d,.bin .leq a b⟩::r) T H K:=rY ha hb (by simp only [gT,if_true]) h
theorem gH (ha:ev T a=iV x) (hb:ev T b=iV y) (h:Ops P k0 r (upd T d (.bool (decide (y < x)))) H K):Ops P k0 (⟨none,some d,.bin .gtr a b⟩::r) T H K:=rY ha hb (by simp only [gT,if_true]) h
theorem lI (ha:ev T a=iV x) (hb:ev T b=iV y) (h:Ops P k0 r (upd T d (.bool (decide (y≤x)))) H K):Ops P k0 (⟨none,some d,.bin .geq a b⟩::r) T H K:=rY ha hb (by simp only [gT,if_true]) h
theorem bH (ha:ev T a=iV x) (hb:ev T b=iV y) (h:Ops P k0 r (upd T d (.bool (decide (x=y)))) H K):Ops P k0 (⟨none,some d,.bin .eql a b⟩::r) T H K:=rY ha hb (by simp only [gT,if_true]; rfl) h
theorem cM (ha:ev T a=iV x) (hb:ev T b=iV y) (h:Ops P k0 r (upd T d (.bool (decide (x≠y)))) H K):Ops P k0 (⟨none,some d,.bin .neq a b⟩::r) T H K:=rY ha hb (by simp only [gT,if_true]; by_cases e:x=y <;> simp [e,bne]) h
theorem rF {p:Prop} [Decidable p] (ha:ev T a=.bool (decide p)) (h:Ops P k0 r (upd T d (.bool (decide (¬p)))) H K):Ops P k0 (⟨none,some d,.un .not a⟩::r) T H K:=by
  refine stp (v:=.bool (decide (¬p))) (fun _=>rfl) ?_ h
  rw [ha]; simp [unV]
theorem gA {q:Bool} (ha:ev T a=.bool q) (h:Ops P k0 r (upd T d (.bool (!q))) H K):Ops P k0 (⟨none,some d,.un .not a⟩::r) T H K:=by
  refine stp (v:=.bool (!q)) (fun _=>rfl) ?_ h
  rw [ha]; rfl
theorem aR (hc:ev T c=.bool true) (ha:ev T a=v) (h:Ops P k0 r (upd T d v) H K):Ops P k0 (⟨none,some d,.pick c a b⟩::r) T H K:=by
  subst ha
  simp only [Ops,St,hc,asB,dX]; exact h
theorem aT (hc:ev T c=.bool false) (hb:ev T b=v) (h:Ops P k0 r (upd T d v) H K):Ops P k0 (⟨none,some d,.pick c a b⟩::r) T H K:=by
  subst hb
  simp only [Ops,St,hc,asB,dX]; exact h
theorem dE {α:Type} [Inhabited α] {e:Nat} {l:List α} {f:α→List V} {k:IntKind} {i:Nat} (ha:ev T a=.sl (l.map f)) (hb:ev T b=.int k (i:Nat)) (hi:i < l.length) (he:(f (nth l i)).length=e)
    (h:Ops P k0 r (upd T d (.pp (f (nth l i)))) H K):Ops P k0 (⟨none,some d,.idx e a b⟩::r) T H K:=by
  refine stp (v:=.pp (f (nth l i))) (fun _=>rfl) ?_ h
  rw [ha,hb]
  simp only [pU]
  rw [tR f l i (by omega) (by omega)]
  simp [he]
theorem fC {α:Type} [Inhabited α] {e:Nat} {l:List α} {f:α→List V} {k:IntKind} {i:Int} (ha:ev T a=.sl (l.map f)) (hb:ev T b=.int k i) (h0:0≤i) (hi:i < l.length) (he:(f (nth l i.toNat)).length=e)
    (h:Ops P k0 r (upd T d (.pp (f (nth l i.toNat)))) H K):Ops P k0 (⟨none,some d,.idx e a b⟩::r) T H K:=by
  refine stp (v:=.pp (f (nth l i.toNat))) (fun _=>rfl) ?_ h
  rw [ha,hb]
  simp only [pU]
  rw [tR f l i h0 hi]
  simp [he]
theorem xO {e id ver off len i:Nat} {B:Blk} {k:IntKind} (ha:ev T a=.ms id ver off len) (hb:ev T b=.int k (i:Nat)) (hH:H id=B) (hok:okB B ver=true) (hs:B.sz=e) (hi:i < len)
    (h:Ops P k0 r (upd T d (.mp id ver (off+i) 0)) H K):Ops P k0 (⟨none,some d,.idx e a b⟩::r) T H K:=by
  subst hH
  refine stp (v:=.mp id ver (off+i) 0) (fun _=>rfl) ?_ h
  rw [ha,hb]
  simp only [pU]
  rw [if_pos (show ok H id ver=true from hok),if_pos hs,if_pos (by omega)]
  simp
theorem bM {α:Type} {l:List α} {f:α→List V} (ha:ev T a=.sl (l.map f)) (h:Ops P k0 r (upd T d (iV (l.length:Nat))) H K):Ops P k0 (⟨none,some d,.len a⟩::r) T H K:=by
  refine stp (v:=iV (l.length:Nat)) (fun _=>rfl) ?_ h
  rw [ha]; simp [aBo]
theorem gJ {id ver off len:Nat} {B:Blk} (ha:ev T a=.ms id ver off len) (hH:H id=B) (hok:(B.live&&decide (B.ver=ver))=true) (h:Ops P k0 r (upd T d (iV (len:Nat))) H K):Ops P k0 (⟨none,some d,.len a⟩::r) T H K:=by
  subst hH
  refine stp (v:=iV (len:Nat)) (fun _=>rfl) ?_ h
  rw [ha]; exact if_pos hok
theorem bI {z cs:List V} {ps:List (Nat×Nat×SX)} {qs:List (Nat×Nat×V)} (hq:ps.map (fun p=>(p.1,p.2.1,ev T p.2.2))=qs) (hb:bld z qs=some cs) (h:Ops P k0 r (upd T d (.agg cs)) H K):Ops P k0 (⟨none,some d,.build z ps⟩::r) T H K:=by
  simp only [Ops,St]
  rw [hq,hb]; exact h
theorem bC {ty e len:Nat} {z:List V} {ps:List (Nat×SX)} {qs:List (Nat×V)} {rows:List (List V)} (hq:ps.map (fun p=>(p.1,ev T p.2))=qs) (hb:pL e (List.replicate len z) qs=some rows) (h:Ops P k0 r (upd T d (.sl rows)) H K):
    Ops P k0 (⟨none,some d,.bslice ty e false z len ps⟩::r) T H K:=by
  simp only [Ops,St]
  rw [hq,hb]; exact h
theorem aNk {ty e bytes i n:Nat} {z:List V} {m q:Nat} (hi:k0+d=i) (hv:(H i).ver=n) (ha:ev T a=iV (m:Nat)) (hb:ev T b=iV (q:Nat)) (h1:m≤q) (h2:q*bytes≤281474976710656) (h3:q≤9223372036854775807)
    (h:Ops P k0 r (upd T d (.ms i (n+1) 0 m)) (upd H i ⟨n+1,true,false,ty,e,List.replicate m z⟩) K):Ops P k0 (⟨none,some d,.mks ty e bytes z a b⟩::r) T H K:=by
  subst hi; subst hv
  have e:aCx bytes (iV (m:Nat)) (iV (q:Nat))=some (m,q):=by
    unfold aCx
    have h2':(q:Int)*(bytes:Int)≤281474976710656:=by have:=Int.ofNat_le.2 h2; simpa using this
    exact (if_pos (by omega)).trans ((if_pos (by omega)).trans ((if_pos h2').trans ((if_pos (by omega)).trans rfl)))
  simp only [Ops,St]
  rw [ha,hb,e]; exact h
theorem aI2 {H:aI} {v:V} {new:List (List V)} (h:nZ H v=some new):uS H v=some new:=by
  cases v <;> first|exact h|(simp [nZ] at h)
theorem aBV {ty e bytes id ver len:Nat} {lz:Bool} {rows new:List (List V)} (ha:ev T a=.ms id ver 0 len) (hH:H id=⟨ver,true,lz,ty,e,rows⟩) (hl:len=rows.length) (hn:nZ H (ev T b)=some new) (hf:gN e new=true)
    (h1:(len+new.length)*bytes≤140737488355328) (h2:len+new.length≤9223372036854775807)
    (h:Ops P k0 r (upd T d (.ms id (ver+1) 0 (len+new.length))) (upd H id ⟨ver+1,true,lz,ty,e,rows++new⟩) K):Ops P k0 (⟨none,some d,.append ty e bytes a b⟩::r) T H K:=by
  simp only [Ops,St]
  rw [ha]
  simp only [hH]
  rw [if_pos (by simp),if_pos trivial,if_pos hl,if_pos trivial,if_pos trivial,aI2 hn,dX,if_pos hf,if_pos h1,if_pos h2]
  exact h
theorem aKQ {α:Type} {f:α→List V} {e:Nat} {x:α} (he:(f x).length=e) (h1:(f x).all V.one=true):gN e [f x]=true:=by simp [gN,he,h1]
theorem eH {α:Type} {ty e bytes id ver n:Nat} {lz:Bool} {l:List α} {f:α→List V} {x:α} (ha:ev T a=.ms id ver 0 n) (hH:H id=⟨ver,true,lz,ty,e,l.map f⟩) (hn:n=l.length) (hb:ev T b=.sl [f x]) (he:(f x).length=e) (h1:(f x).all V.one=true)
    (h2:(n+1)*bytes≤140737488355328) (h3:n+1≤9223372036854775807)
    (h:Ops P k0 r (upd T d (.ms id (ver+1) 0 (n+1))) (upd H id ⟨ver+1,true,lz,ty,e,(l++[x]).map f⟩) K):Ops P k0 (⟨none,some d,.append ty e bytes a b⟩::r) T H K:=by
  refine aBV ha hH (by simpa using hn) (new:=[f x]) (by rw [hb]; rfl) (aKQ he h1) (by simpa using h2) (by simpa using h3) ?_
  rw [List.map_append] at h
  exact h
theorem aAx {α:Type} {ty e bytes id ver n:Nat} {lz:Bool} {l m:List α} {f:α→List V} (ha:ev T a=.ms id ver 0 n) (hH:H id=⟨ver,true,lz,ty,e,l.map f⟩) (hn:n=l.length) (hb:ev T b=.sl (m.map f)) (he: ∀ x,(f x).length=e) (h1: ∀ x,(f x).all V.one=true)
    (h2:(n+m.length)*bytes≤140737488355328) (h3:n+m.length≤9223372036854775807)
    (h:Ops P k0 r (upd T d (.ms id (ver+1) 0 (n+m.length))) (upd H id ⟨ver+1,true,lz,ty,e,(l++m).map f⟩) K):Ops P k0 (⟨none,some d,.append ty e bytes a b⟩::r) T H K:=by
  refine aBV ha hH (by simpa using hn) (new:=m.map f) (by rw [hb]; rfl) ?_ (by simpa using h2) (by simpa using h3) ?_
  · simp only [gN,List.all_eq_true]
    intro r hr
    obtain ⟨x,_,rfl⟩:=List.mem_map.1 hr
    simp only [he,beq_self_eq_true,Bool.true_and]
    exact h1 x
  · rw [List.map_append,show m.length=(m.map f).length by simp] at h
    exact h
theorem iR {f:Nat} {args:List SX} {as0 us:List V} (he:evs T args=as0) (hc:aP P f us v) (ha:as0.map (fzv true H 6)=us) (hp:cY us=true) (hs:cY as0=true∨v.scalar=true) (h:Ops P k0 r (upd T d v) H K):
    Ops P k0 (⟨none,some d,.call false f args⟩::r) T H K:=by
  subst he
  exact aE0 true 6 (k:=fun v H'=>Ops P k0 r (upd T d v) H' K) hc ha hp hs h
theorem jW {f:Nat} {first caps:List V} {g:SX} {args:List SX} {as0 us:List V} (hg:ev T g=.fn f first caps) (he:evs T args=as0) (hc:aP P f us v) (ha:(first++as0++caps).map (fzv true H 6)=us) (hp:cY us=true)
    (hs:cY (first++as0++caps)=true∨v.scalar=true) (h:Ops P k0 r (upd T d v) H K):Ops P k0 (⟨none,some d,.callv false g args⟩::r) T H K:=by
  subst he
  simp only [Ops,St]
  rw [hg]
  exact aE0 true 6 hc ha hp hs h
theorem fP {f:Nat} {args:List SX} {as0:List V} {H':aI} (he:evs T args=as0) (hc:dW P f as0 H v H') (h:Ops P k0 r (upd T d v) H' K):Ops P k0 (⟨none,some d,.call true f args⟩::r) T H K:=by
  subst he
  exact aLw hc h
theorem bG {i:Nat} {vs:List V} (ha:ev T a=.tup vs) (hi:vs[i]?=some v) (h:Ops P k0 r (upd T d v) H K):Ops P k0 (⟨none,some d,.ext a i⟩::r) T H K:=by
  refine stp (v:=v) (fun _=>rfl) ?_ h
  rw [ha]; exact hi
theorem aCo {f:Nat} {caps:List SX} {cs:List V} (he:evs T caps=cs) (h:Ops P k0 r (upd T d (.fn f [] cs)) H K):Ops P k0 (⟨none,some d,.mkf f caps⟩::r) T H K:=by
  subst he; exact h
theorem aC {t:Nat} {w:Bool} {od:Option Nat} {q:X} (ht:T t=.bool w) (h:Ops P k0 (⟨none,od,q⟩::r) T H K):Ops P k0 (⟨some (t,w),od,q⟩::r) T H K:=by
  simp only [Ops,ht,gd] at h ⊢
  exact ⟨fun _=>h,fun hn=>(by simp at hn)⟩
theorem aSc {t:Nat} {w w':Bool} {q:X} (ht:T t=.bool w') (hw:w'≠w) (h:Ops P k0 r (upd T d (.raw undef)) H K):Ops P k0 (⟨some (t,w),some d,q⟩::r) T H K:=by
  simp only [Ops,ht,gd] at h ⊢
  exact ⟨fun hn=>(hw (by simpa using hn)).elim,fun _=>h⟩
theorem bO {t:Nat} {w:Bool} {q:X} (ht:T t=.raw undef) (h:Ops P k0 r (upd T d (.raw undef)) H K):Ops P k0 (⟨some (t,w),some d,q⟩::r) T H K:=by
  simp only [Ops,ht,gd,undef] at h ⊢
  exact ⟨fun hn=>(by simp at hn),fun _=>h⟩
theorem aEb (a b:List SO):Ops P k0 (a++b) T H K↔Ops P k0 a T H fun T H=>Ops P k0 b T H K:=by
  induction a generalizing T H with
  |nil=>exact Iff.rfl
  | cons o a ih =>
    simp only [List.cons_append,Ops]
    cases o.g with
    |none=>simp only; rw [show (fun v H'=>Ops P k0 (a++b) (fE T o.d v) H' K)=fun v H'=>Ops P k0 a (fE T o.d v) H' fun T H=>Ops P k0 b T H K from funext fun v=>funext fun H'=>propext ih]
    |some p=>simp only [ih]
theorem aS (n:Nat) {ops:List SO} (R:(Nat→V)→aI→Prop) (h1:Ops P k0 (ops.take n) T H R) (h2: ∀ T' H',R T' H'→Ops P k0 (ops.drop n) T' H' K):Ops P k0 ops T H K:=by
  rw [← List.take_append_drop n ops,aEb]
  exact nE h2 h1
theorem bN {α:Type} {T A:Nat→α} {l:List Nat} (h: ∀ j,j∉l→A j=T j) {d:Nat} {v:α} (hd:d∈l): ∀ j,j∉l→upd A d v j=T j:=by
  intro j hj
  rw [aV _ _ fun e=>hj (by rw [e]; exact hd)]
  exact h j hj
theorem aM9 {p:Prop} [Decidable p] (hp:p):V.bool true=V.bool (decide p):=by simp [hp]
theorem aM8 {p:Prop} [Decidable p] (hp: ¬p):V.bool false=V.bool (decide p):=by simp [hp]
theorem dH {p q:Prop} [Decidable p] [Decidable q] (hp:p):V.bool true=V.bool (decide (p∨q)):=by simp [hp]
theorem dL {p q:Prop} [Decidable p] [Decidable q] (hp: ¬p):V.bool (decide q)=V.bool (decide (p∨q)):=by simp [hp]
theorem dO {p q:Prop} [Decidable p] [Decidable q] (hp: ¬p):V.bool false=V.bool (decide (p∧q)):=by simp [hp]
theorem dM {p q:Prop} [Decidable p] [Decidable q] (hp:p):V.bool (decide q)=V.bool (decide (p∧q)):=by simp [hp]
end
section
variable {P:Program} {k0:Nat} {Q:Ex→(Nat→V)→aI→Prop} {T:Nat→V} {H:aI}
theorem aK {c:SX} {a b r:SC} {p:Prop} [Decidable p] (hc:ev T c=.bool (decide p)) (h1:p→W P k0 (.seq a r) Q T H) (h2: ¬p→W P k0 (.seq b r) Q T H):W P k0 (.seq (.cond c a b) r) Q T H:=
  xA (bb:=decide p) (by rw [hc]; rfl) (fun h=>h1 (of_decide_eq_true h)) fun h=>h2 (of_decide_eq_false h)
theorem cW {c:SX} {a b:SC} {p:Prop} [Decidable p] (hc:ev T c=.bool (decide p)) (h1:p→W P k0 a Q T H) (h2: ¬p→W P k0 b Q T H):W P k0 (.cond c a b) Q T H:=
  aIV (bb:=decide p) (by rw [hc]; rfl) (fun h=>h1 (of_decide_eq_true h)) fun h=>h2 (of_decide_eq_false h)
theorem cO {c:SX} {a b r:SC} {q:Bool} (hc:ev T c=.bool q) (h1:q=true→W P k0 (.seq a r) Q T H) (h2:q=false→W P k0 (.seq b r) Q T H):W P k0 (.seq (.cond c a b) r) Q T H:=
  xA (bb:=q) (by rw [hc]; rfl) h1 h2
theorem mT {c:SX} {a b:SC} {q:Bool} (hc:ev T c=.bool q) (h1:q=true→W P k0 a Q T H) (h2:q=false→W P k0 b Q T H):W P k0 (.cond c a b) Q T H:=
  aIV (bb:=q) (by rw [hc]; rfl) h1 h2
theorem fW {ops:List SO} {b:SC} (R:(Nat→V)→aI→Prop) (h:Ops P k0 ops T H R) (hk: ∀ T H,R T H→W P k0 b Q T H):W P k0 (.seq (.reg ops) b) Q T H:=
  tY fun _ hK=>nE (fun T H hr=>hK T H (hk T H hr)) h
theorem bB {t:Nat} {u v:V} {n:Nat} (h1:T t=u) (h2:fzv true H n u=v):Ret [.tmp t] (fun u G=>fzv true G n u=v) .ret T H:=by
  simp only [Ret,kO,fA,lK,dX,h1]; exact h2
theorem eE {t1 t2:Nat} {u1 u2 v1 v2:V} {n:Nat} (h1:T t1=u1) (h2:T t2=u2) (g1:fzv true H n u1=v1) (g2:fzv true H n u2=v2):Ret [.tmp t1,.tmp t2] (fun u G=>fzv true G (n+1) u=.tup [v1,v2]) .ret T H:=by
  simp only [Ret,kO,fA,lK,dX,h1,h2,fzv,List.map_cons,List.map_nil,g1,g2]
theorem aIp {t1 t2 t3:Nat} {u1 u2 u3 v1 v2 v3:V} {n:Nat} (h1:T t1=u1) (h2:T t2=u2) (h3:T t3=u3) (g1:fzv true H n u1=v1) (g2:fzv true H n u2=v2) (g3:fzv true H n u3=v3):
    Ret [.tmp t1,.tmp t2,.tmp t3] (fun u G=>fzv true G (n+1) u=.tup [v1,v2,v3]) .ret T H:=by
  simp only [Ret,kO,fA,lK,dX,h1,h2,h3,fzv,List.map_cons,List.map_nil,g1,g2,g3]
theorem aF {n:Nat} {x y:Int} (h:x=y):fzv true H n (iV x)=iV y:=by rw [dU n _ (by simp),h]
theorem bD {n:Nat} {x y:Bool} (h:x=y):fzv true H n (.bool x)=.bool y:=by rw [dU n _ (by simp),h]
theorem eI {α:Type} {n:Nat} {f:α→List V} {l m:List α} (h:l=m) (hc: ∀ a,cD (f a)=true):fzv true H n (.sl (l.map f))=.sl (m.map f):=by
  rw [dU n _ (by rw [aHE]; exact eP _ _ hc),h]
theorem dD {α:Type} {n:Nat} {f:α→List V} {m:List α} (h:m=[]):fzv true H (n+1) .nilsl=.sl (m.map f):=by subst h; rfl
theorem yP {α:Type} {n id ver len:Nat} {B:Blk} {f:α→List V} {l m:List α} (hH:H id=B) (hok:(B.live&&decide (B.ver=ver))=true) (hr:B.rows=l.map f) (hl:len=l.length) (hc: ∀ a,cD (f a)=true) (h:l=m):
    fzv true H (n+1) (.ms id ver 0 len)=.sl (m.map f):=by
  subst hH; subst hl; subst h
  have hx:List.take l.length (List.map f l)=List.map f l:=by rw [show l.length=(l.map f).length by simp,List.take_length]
  simp only [fzv]
  rw [if_pos hok,hr,List.drop_zero,hx]
  congr 1
  rw [List.map_map]
  refine List.map_congr_left fun a _=>cC n _ (hc a)
theorem cA {n:Nat} {u v:V} (hc:u.canon=true) (h:u=v):fzv true H n u=v:=by rw [dU n _ hc,h]
end
theorem dQ {R:(Nat→V)→aI→Prop} {K:(Nat→V)→aI→Prop} {T:Nat→V} {H:aI} (h:R T H) (hk: ∀ T H,R T H→K T H):K T H:=hk T H h
theorem fS {α β:Type} {g:α→β} {a:α} {b:β} {l:List α} {m:List β} (h1:g a=b) (h2:l.map g=m):(a::l).map g=b::m:=by subst h1; subst h2; rfl
theorem aY {T:Nat→V} {a:SX} {v:V} {l:List SX} {m:List V} (h1:ev T a=v) (h2:evs T l=m):evs T (a::l)=v::m:=by subst h1; subst h2; rfl
theorem cU {T:Nat→V}:evs T []=[]:=rfl
end Go.Proofs.YteehaobohaecmaaGreatDoor


namespace Go.Proofs.YteehaobohaecmaaGreatDoor
open Go
section
variable {P:Program} {k0:Nat} {Q:Ex→(Nat→V)→aI→Prop} {T:Nat→V} {H:aI}
theorem gP {ops:List SO} {b:SC} (R:(Nat→V)→aI→Prop) (h:Ops P k0 ops T H R) (hk: ∀ T H,R T H→G (W P k0 b Q) T H):W P k0 (.seq (.reg ops) b) Q T H:=
  aCX fun _ hK=>nE (fun T H hr=>hK T H (hk T H hr)) h
theorem aE {id:Nat} {a r:SC} (h: ∀ Q':Ex→(Nat→V)→aI→Prop,(∀ T H,G (W P k0 r Q) T H→Q' .norm T H)→(∀ T H,G (W P k0 r Q) T H→Q' (.exit id) T H)→(∀ T H,Q .ret T H→Q' .ret T H)→
    (∀ n T H,n≠id→Q (.exit n) T H→Q' (.exit n) T H)→W P k0 a Q' T H):W P k0 (.seq (.block id a) r) Q T H:=by
  simp only [W]
  refine h _ (fun T H h=>h) (fun T H h=>?_) (fun T H h=>h) (fun n T H hn h=>?_)
  · simp only [if_true]; exact h
  · simp only [if_neg hn]; exact h
theorem aNc {K:(Nat→V)→aI→Prop} {i:Nat} (ht:T i=.nilsl) (h:K (upd T i (.sl [])) H):G K T H:=
  .slot i (.sl []) (fun x c _ _ hr=>by rw [ht] at hr; generalize hq:V.nilsl=q at hr; cases hr <;> cases hq; exact .slnil) (.done h)
end
section
variable {P:Program} {k0:Nat} {K:(Nat→V)→aI→Prop} {T:Nat→V} {H:aI} {r:List SO} {d:Nat} {a b:SX}
theorem aAd {e id ver off len:Nat} {i:Int} {B:Blk} {k:IntKind} (ha:ev T a=.ms id ver off len) (hb:ev T b=.int k i) (hH:H id=B) (hok:okB B ver=true) (hs:B.sz=e) (h0:0≤i) (hi:i < len)
    (h:Ops P k0 r (upd T d (.mp id ver (off+i.toNat) 0)) H K):Ops P k0 (⟨none,some d,.idx e a b⟩::r) T H K:=by
  subst hH
  refine stp (v:=.mp id ver (off+i.toNat) 0) (fun _=>rfl) ?_ h
  rw [ha,hb]
  simp only [pU]
  rw [if_pos (show ok H id ver=true from hok),if_pos hs,if_pos ⟨h0,hi⟩]
end
theorem gK {α:Type} {ver ty sz:Nat} {lz:Bool} {f:α→List V} {l:List α} (h:0 < l.length):okB ⟨ver,true,lz,ty,sz,l.map f⟩ ver=true:=by
  cases l with
  |nil=>simp at h
  |cons a l=>simp [okB,Blk.own]
theorem mH {α:Type} [Inhabited α] {agg:Bool} {n ver ty sz i off:Nat} {lz:Bool} {f:α→List V} {l:List α} {v:V} (h:i < l.length) (hg:ldV agg n ((f (nth l i)).drop off)=some v):
    ldB agg n ⟨ver,true,lz,ty,sz,l.map f⟩ ver i off=some v:=by
  unfold ldB
  rw [if_pos (show (_&&_)=true from gK (by omega))]
  simp only [List.getElem?_map,yB h,Option.map_some,Option.bind_some]
  exact hg
theorem aIs {x y:Bool} (h:x=true):V.bool true=V.bool (x||y):=by rw [h]; rfl
theorem aH0 {x y:Bool} (h: ¬x=true):V.bool y=V.bool (x||y):=by rw [Bool.eq_false_iff.2 h]; rfl
theorem aBP {x y:Bool} (h:x=true):V.bool y=V.bool (x&&y):=by rw [h]; rfl
theorem aBY {x y:Bool} (h: ¬x=true):V.bool false=V.bool (x&&y):=by rw [Bool.eq_false_iff.2 h]; rfl
theorem jI {p:Prop} [Decidable p] {y:Bool} (h:p):V.bool true=V.bool (decide p||y):=by simp [h]
theorem jF {p:Prop} [Decidable p] {y:Bool} (h: ¬p):V.bool y=V.bool (decide p||y):=by simp [h]
theorem aDZ {p:Prop} [Decidable p] {y:Bool} (h:p):V.bool y=V.bool (decide p&&y):=by simp [h]
theorem aD6 {p:Prop} [Decidable p] {y:Bool} (h: ¬p):V.bool false=V.bool (decide p&&y):=by simp [h]
def fzq (id:Nat) (H:aI):V→V
  | .ms j ver off len=>if j=id∧(H id).live=true∧(H id).ver=ver then .sl (((H id).rows.drop off).take len) else .ms j ver off len
  |v=>v
theorem eF {id:Nat} {H:aI} {T:Nat→V} {i:Nat} {v u:V} (h:T i=v) (hu:fzq id H v=u):fzT id H T i=u:=by
  subst hu; subst h
  unfold fzT fzq
  cases hT:T i <;> simp only
theorem aLT {α:Type} {id ver len:Nat} {H:aI} {B:Blk} {f:α→List V} {l:List α} (hH:H id=B) (hok:(B.live&&decide (B.ver=ver))=true) (hr:B.rows=l.map f) (hl:len=l.length):
    fzq id H (.ms id ver 0 len)=.sl (l.map f):=by
  subst hH
  simp only [Bool.and_eq_true,decide_eq_true_eq] at hok
  simp only [fzq]
  rw [if_pos ⟨trivial,hok.1,hok.2⟩,hr,List.drop_zero,hl]
  congr 1
  rw [show l.length=(l.map f).length by simp,List.take_length]
theorem cH {id j:Nat} {H:aI} {B:Blk} (h:H j=B) (hn:j≠id):jK id H j=B:=by subst h; simp [jK,hn]
theorem aCh {id j:Nat} {H:aI} {n:Nat} (h:(H j).ver=n):(jK id H j).ver=n:=by subst h; unfold jK; by_cases e:j=id <;> simp [e]
mutual
def V.bnd:V→Bool
  | .sl rows=>decide (rows.length≤9223372036854775807)&&yS rows
  | .pp cells=>iP cells
  | .agg cells=>iP cells
  | .tup vs=>iP vs
  | .fn _ a b=>iP a&&iP b
  | .ms _ _ _ _=>true
  | .mp _ _ _ _=>true
  | .mm _ _=>true
  | .int _ _=>true
  | .bool _=>true
  | .str _=>true
  | .nilsl=>true
  | .nilp=>true
  | .raw _=>true
def iP:List V→Bool
  |[]=>true
  |v::l=>v.bnd&&iP l
def yS:List (List V)→Bool
  |[]=>true
  |r::l=>iP r&&yS l
end
theorem aDo {l:List V}:iP l=true↔ ∀ v∈l,v.bnd=true:=by
  induction l with
  |nil=>simp [iP]
  |cons v l ih=>simp [iP,ih]
theorem aAk {l:List (List V)}:yS l=true↔ ∀ r∈l,iP r=true:=by
  induction l with
  |nil=>simp [yS]
  |cons v l ih=>simp [yS,ih]
theorem R.bnd {x:Cx} {v:V} {c:Value} (h:R x v c):v.bnd=true:=by
  have all: ∀ {l:List V},(∀ (j:Nat) (v:V),l[j]?=some v→v.bnd=true)→iP l=true:=fun {l} h=>
    aDo.2 fun v hv=>by obtain ⟨j,hj⟩:=List.getElem?_of_mem hv; exact h j v hj
  induction h with
  | sl rows a cap sz cs hc hm hz hsz hcell _ ih =>
    simp only [V.bnd,Bool.and_eq_true,decide_eq_true_eq]
    have:maxLen=9223372036854775807:=rfl
    refine ⟨by omega,aAk.2 fun r hr=>?_⟩
    obtain ⟨k,hk⟩:=List.getElem?_of_mem hr
    exact all fun j v hj=>ih k r j v hk hj
  |slnil=>simp [V.bnd,yS]
  |pp cells a cs hzz hcell _ ih=>simp only [V.bnd]; exact all ih
  |agg cells cs hs _ ih=>simp only [V.bnd]; exact all ih
  |tup cells cs hs _ ih=>simp only [V.bnd]; exact all ih
  |fn f first caps fs cs hfs hcs _ _ ih1 ih2=>simp only [V.bnd,Bool.and_eq_true]; exact ⟨all ih1,all ih2⟩
  |_=>simp [V.bnd]
theorem RL.bnd {x:Cx} {vs:List V} {cs:List Value} (h:RL x vs cs):iP vs=true:=
  aDo.2 fun v hv=>by obtain ⟨j,hj⟩:=List.getElem?_of_mem hv; exact (h.2 j v hj).bnd
theorem gS {P : Program} {op : Opt} (z : Bool) (n : Nat) {f : Nat} {fn : Func} {s : SF} (hf : P.funcs[f]? = some fn) (hs : bF P op fn = some s) (hn : (fn.name == "runtime.NumGoroutine") = false) {args : List V} {v : V}
    (hl:args.length≤s.n) (ha:cY args=true) (hv:v.pure=true) (hW:iP args=true→W P 0 s.body (Ret s.res fun u G=>fzv z G n u=v) (T0 args) H0):aP P f args v:=fun H=>
  ⟨kQ hf hs hn,fun x cs hxH hx hr=>(aDv z n hf hs hn hl ha hv (hW hr.bnd) H).2 x cs hxH hx hr⟩
theorem aF4 {α:Type} [Inhabited α] {f:α→List V} {l:List α}:yS (l.map f)=true↔ ∀ k,k < l.length→iP (f (nth l k))=true:=by
  rw [aAk]
  constructor
  · intro h k hk; exact h _ (List.mem_map_of_mem (by rw [← bA hk]; exact List.getElem_mem hk))
  · intro h r hr
    obtain ⟨a,ha,rfl⟩:=List.mem_map.1 hr
    obtain ⟨k,hk,rfl⟩:=List.getElem_of_mem ha
    rw [bA hk]; exact h k hk
theorem kA {α:Type} [Inhabited α] {f:α→List V} {l:List α}:(V.sl (l.map f)).bnd=true↔l.length≤9223372036854775807∧ ∀ k,k < l.length→iP (f (nth l k))=true:=by
  simp only [V.bnd,Bool.and_eq_true,decide_eq_true_eq,List.length_map,aF4]
theorem jZ (k:IntKind) (n:Int):(V.int k n).bnd=true:=by simp [V.bnd]
theorem iK (b:Bool):(V.bool b).bnd=true:=by simp [V.bnd]
theorem jT (s:List UInt8):(V.str s).bnd=true:=by simp [V.bnd]
theorem jV {l:List V}:(V.agg l).bnd=iP l:=by simp [V.bnd]
theorem mI {l:List V}:(V.pp l).bnd=iP l:=by simp [V.bnd]
theorem jX:iP []=true:=by simp [iP]
theorem iN {v:V} {l:List V}:iP (v::l)=true↔v.bnd=true∧iP l=true:=by simp [iP]
end Go.Proofs.YteehaobohaecmaaGreatDoor


namespace Go.Proofs.YteehaobohaecmaaGreatDoor
open Go
theorem aLR {α : Type} {n : Nat} {p : Nat → α → Prop} (h : ∀ i, i < n → ∃ a, p i a) : ∃ l : List α, l.length = n ∧ ∀ i a, l[i]? = some a → p i a := by
  induction n with
  |zero=>exact ⟨[],rfl,fun i a h=>by simp at h⟩
  | succ n ih =>
    obtain ⟨l,h1,h2⟩:=ih fun i hi=>h i (by omega)
    obtain ⟨b,hb⟩:=h n (by omega)
    refine ⟨l++[b],by simp [h1],fun i a hi=>?_⟩
    rw [List.getElem?_append] at hi
    split at hi
    · exact h2 i a hi
    · rename_i hlt
      have e:i=n:=by
        have:=(List.getElem?_eq_some_iff.1 hi).1
        simp at this; omega
      subst e
      simp [h1] at hi
      subst hi
      exact hb
def aC3 (P:Program) (all:Nat):Nat→List Field→Bool
  |off,[]=>decide (off=all)
  |off,f::r=>decide (f.offset=off)&&aC3 P all (off+P.cellsOf f.type) r
def aCk (S:TypeId→List V→Prop):List Field→List V→Prop
  |[],vs=>vs=[]
  |f::r,vs=> ∃ a b,vs=a++b∧S f.type a∧aCk S r b
def aNR (S:List V→Prop):Nat→List V→Prop
  |0,vs=>vs=[]
  |k+1,vs=> ∃ a b,vs=a++b∧S a∧aNR S k b
def Shp (P : Program) : Nat → TypeId → List V → Prop
  |0,_,_=>False
  | n + 1, t, vs => match P.underlying t with
    |some .bool=> ∃ b,vs=[.bool b]
    |some (.int k)=> ∃ m,vs=[.int k m]∧(Lit.int k m).wf=true
    |some .string=> ∃ s,vs=[.str s]
    |some (.slice e)=> ∃ rows,vs=[.sl rows]∧ ∀ r∈rows,Shp P n e r
    |some (.struct fs)=>aCk (Shp P n) fs.toList vs
    |some (.array m e)=>aNR (Shp P n e) m vs
    |_=>False
def RC (x:Cx) (vs:List V) (cs:List Value):Prop:=vs.length=cs.length∧ ∀ j v,vs[j]?=some v→R x v (cs.getD j undef)
theorem aAj {x:Cx} {a b:List V} {c d:List Value} (h1:RC x a c) (h2:RC x b d):RC x (a++b) (c++d):=by
  refine ⟨by simp [h1.1,h2.1],fun j v hj=>?_⟩
  rw [List.getElem?_append] at hj
  rw [List.getD_eq_getElem?_getD,List.getElem?_append,← h1.1]
  split at hj
  · rename_i hlt
    rw [if_pos hlt,← List.getD_eq_getElem?_getD]; exact h1.2 j v hj
  · rename_i hlt
    rw [if_neg hlt,← List.getD_eq_getElem?_getD]; exact h2.2 _ v hj
section
variable {H:Type} {enc:TypeId×Value→H} {P:Program} {base:Nat} {spare:Nat→Bool} {held:Bool}
end
end Go.Proofs.YteehaobohaecmaaGreatDoor


namespace Go.Proofs.YteehaobohaecmaaGreatDoor
open Go Go.ChangeShapes Go.WideShapes Go.ChangeAt Go.RowKit
section
variable {H:Type} {enc:TypeId×Value→H} {P:Program}
theorem zL {f:Func} {s:ChangeSpec} {apart fresh handsOn again:Bool} {W W':World} {args:Array Value} {v:Value} {ds gs:List (DataW H)} {before pa pv:List MemPlace}
    (hW:DataW.Whole enc P f.params.toList s.vars apart W args.toList ds gs before)
    (hres: ∀ (b:Nat) (sp:Nat→Bool) (hd:Bool),DataW.TrodAll enc P W' b sp hd f.resultTypes.toList (v.resultList f.resultTypes.size) (s.fn H (ds++gs)).results [])
    (hargs: ∀ sp:Nat→Bool,(∀ p∈before,sp p.block=true)→DataW.TrodAll enc P W' 0 sp true f.params.toList args.toList (s.fn H (ds++gs)).args pa)
    (hvars: ∀ sp:Nat→Bool,(∀ p∈before,sp p.block=true)→DataW.TrodVars enc P W' sp s.vars (s.fn H (ds++gs)).vars pv)
    (hps:before=pa++pv) (hb:Below W.heap.size W W')
    (hok: ∀ (j:Nat) (t:TypeId) (r:Value),f.resultTypes[j]?=some t→(v.resultList f.resultTypes.size)[j]?=some r→Value.okWide P W' .any 0 t r):
    s.post enc P f apart fresh handsOn again W args v W':=by
  have hold: ∀ p∈before,(fun b=>decide (b < W.heap.size)) p.block=true:=fun p hp=>by simpa using hW.lt p hp
  refine ⟨ds,gs,before,[],pa,pv,hW,hres _ _ _,hargs _ hold,hvars _ hold,World.keptBut_mono (fun p hp=>⟨hp,?_⟩) (hb.frame (· ∈before)),fun _=>?_⟩
  · rw [hps,List.mem_append] at hp
    exact Or.inr hp
  · have hlt:=hW.lt
    obtain ⟨_,_,_,_,_,hz,hn⟩:=hW
    refine ⟨hok,_,_,([]++pa)++pv,⟨[]++pa,pv,trodAll_append (hargs _ (fun _ _=>rfl)) (hres _ _ _),hvars _ (fun _ _=>rfl),rfl,?_,?_⟩,?_⟩
    · intro b off hp
      have hp':MemPlace.cell b off∈before:=by rw [hps]; simpa using hp
      rw [hb.frozen (hlt _ hp')]
      exact hz b off hp'
    · intro ha
      have:=hn ha
      rw [hps] at this
      simpa using this
    · intro p hp _
      rw [hps]
      simpa using hp
theorem yZ {x y:Cx} {w:World} (h:Frame x y) (hx: ∀ id,(x.H id).own=false) (hw:x.w=w):Below w.heap.size w y.w:=by
  subst hw
  exact ⟨h.os,h.tape,h.output,h.size,fun k hk=>h.keep k hk fun id ho=>by rw [hx id] at ho; cases ho⟩
def mV (P:Program) (t:TypeId) (vs:List V):V:=match P.underlying t with
  |some (.struct _)=>.agg vs
  |some (.array _ _)=>.agg vs
  |_=>vs.headD qJ
theorem aAO {x:Cx} {vs:List V} {c:Value} (h:RC x vs [c]):R x (vs.headD qJ) c:=by
  obtain ⟨h1,h2⟩:=h
  cases vs with
  |nil=>simp at h1
  |cons u l=>exact h2 0 u rfl
theorem pI (hl:laidOutB P=true) {W W':World} (hb:Below W.heap.size W W') {sp:Nat→Bool}: ∀ (ts:List TypeId) (vs:List Value) (ds:List (DataW H)) (ps:List MemPlace),
    (∀ t∈ts,P.readableRec t=true∧t < P.types.size)→DataW.TrodAll enc P W 0 (fun _=>true) true ts vs ds ps→(∀ p∈ps,p.block < W.heap.size)→(∀ p∈ps,sp p.block=true)→DataW.TrodAll enc P W' 0 sp true ts vs ds ps
  | [], vs, ds, ps, _, h, _, _ => by
    obtain ⟨rfl,rfl,rfl⟩:=trodAll_nil h
    exact h
  | t :: ts, vs, ds, ps, hr, h, hlt, hsp => by
    obtain ⟨v,vs1,d,ds1,a,b,rfl,rfl,rfl,h1,h2⟩:=trodAll_cons h
    refine ⟨a,b,WideElems.Trod_stays hl (hr t (List.mem_cons_self ..)).1 (hr t (List.mem_cons_self ..)).2 h1 (fun p hp=>hb.same (hlt p (List.mem_append_left _ hp))) (fun p hp=>hsp p (List.mem_append_left _ hp)),
      pI hl hb ts vs1 ds1 b (fun q hq=>hr q (List.mem_cons_of_mem _ hq)) h2 (fun p hp=>hlt p (List.mem_append_right _ hp)) (fun p hp=>hsp p (List.mem_append_right _ hp)),rfl⟩
end
end Go.Proofs.YteehaobohaecmaaGreatDoor


namespace Go.Proofs.YteehaobohaecmaaGreatDoor
open Go
theorem aCg {α:Type} {f:α→List V}: ∀ {rows:List (List V)},(∀ r∈rows,∃ a,r=f a)→ ∃ l:List α,rows=l.map f
  |[],_=>⟨[],rfl⟩
  | r :: rows, h => by
    obtain ⟨a,ha⟩:=h r (List.mem_cons_self ..)
    obtain ⟨l,hl⟩:=aCg (rows:=rows) fun q hq=>h q (List.mem_cons_of_mem _ hq)
    exact ⟨a::l,by rw [ha,hl]; rfl⟩
section
variable {P:Program} {n t:Nat} {vs:List V}
theorem aKp {k:IntKind} (ht:P.underlying t=some (.int k)) (h:Shp P (n+1) t vs): ∃ m:Int,vs=[.int k m]:=by
  simp only [Shp,ht] at h; obtain ⟨m,hm,_⟩:=h; exact ⟨m,hm⟩
theorem zQ {e:Nat} {α:Type} {f:α→List V} (ht:P.underlying t=some (.slice e)) (he: ∀ vs,Shp P n e vs→ ∃ a,vs=f a) (h:Shp P (n+1) t vs): ∃ l:List α,vs=[.sl (l.map f)]:=by
  simp only [Shp,ht] at h
  obtain ⟨rows,rfl,hr⟩:=h
  obtain ⟨l,rfl⟩:=aCg (f:=f) fun r h=>he r (hr r h)
  exact ⟨l,rfl⟩
theorem aJ4 {fs:Array Field} (ht:P.underlying t=some (.struct fs)) (h:Shp P (n+1) t vs):aCk (Shp P n) fs.toList vs:=by
  simp only [Shp,ht] at h; exact h
theorem iY {S:TypeId→List V→Prop} {f:Field} {r:List Field} {α:Type} {c:α→List V} (hc: ∀ vs,S f.type vs→ ∃ a,vs=c a) (h:aCk S (f::r) vs): ∃ a us,vs=c a++us∧aCk S r us:=by
  obtain ⟨a,b,rfl,h1,h2⟩:=h
  obtain ⟨x,rfl⟩:=hc a h1
  exact ⟨x,b,rfl,h2⟩
theorem aCK {S:TypeId→List V→Prop} (h:aCk S [] vs):vs=[]:=h
theorem uX {fs:Array Field} (ht:P.underlying t=some (.struct fs)) (vs:List V):mV P t vs=.agg vs:=by
  unfold mV; rw [ht]
theorem aDK {v:V} (ht: ∀ fs,P.underlying t≠some (.struct fs)) (hta: ∀ m e,P.underlying t≠some (.array m e)):mV P t [v]=v:=by
  unfold mV; split
  · rename_i fs h; exact (ht fs h).elim
  · rename_i m e h; exact (hta m e h).elim
  · rfl
end
end Go.Proofs.YteehaobohaecmaaGreatDoor


