/- The layer: abstract values for memory and their soundness; no condition. -/
import Derived.IntWalk
import Derived.ChangeArms
import Derived.DataElems
import Derived.DataReads
import Derived.OpenShut
import Derived.ProofKit
import Derived.WalkKit
import Derived.Carry
import Derived.Test.YtmnnhjhkaepbaaaGreatLay2
set_option linter.unusedSimpArgs false
set_option linter.unusedVariables false
namespace Go.Proofs.YtmnnhjhkaepbaaaGreat
open Go
theorem pZ {P : Program} {id : Nat} {x : X} {T : Nat → V} {H : aF} {k k' : V → aF → Prop} (hk : ∀ v H, k v H → k' v H) (h : St P id x T H k) : St P id x T H k' := by
  cases x <;> simp only [St] at h ⊢
  case bslice ty esz own z len ps=>
    refine uM (fun rows h=>?_) h
    cases own <;> exact hk _ _ h
  case append ty esz bytes s a =>
    split at h
    · split at h
      · rename_i c1
        rw [if_pos c1]
        split at h
        · rename_i c2
          rw [if_pos c2]
          split at h
          · rename_i c3
            rw [if_pos c3]
            split at h
            · rename_i c4
              rw [if_pos c4]
              split at h
              · rename_i c5
                rw [if_pos c5]
                refine uM (fun new h=>?_) h
                split at h
                · rename_i c6
                  rw [if_pos c6]
                  split at h
                  · rename_i c7
                    rw [if_pos c7]
                    split at h
                    · rename_i c8
                      rw [if_pos c8]
                      exact hk _ _ h
                    · cases h
                  · cases h
                · cases h
              · cases h
            · cases h
          · cases h
        · cases h
      · cases h
    · cases h
  case call e f args=>
    cases e
    · obtain ⟨v,h1,h2⟩:=h; exact ⟨v,h1,hk _ _ h2⟩
    · obtain ⟨v,H',h1,h2⟩:=h; exact ⟨v,H',h1,hk _ _ h2⟩
  case callA f args=>obtain ⟨v,b,h1,h2,h3⟩:=h; exact ⟨v,b,h1,h2,hk _ _ h3⟩
  case callv e g args=>
    split at h
    · cases e
      · obtain ⟨v,h1,h2⟩:=h; exact ⟨v,h1,hk _ _ h2⟩
      · obtain ⟨v,H',h1,h2⟩:=h; exact ⟨v,H',h1,hk _ _ h2⟩
    · cases h
  case isnil neg a=>
    split at h
    · exact hk _ _ h
    · exact ⟨fun e=>hk _ _ (h.1 e),hk _ _ h.2⟩
    · cases h
  all_goals first|exact hk _ _ h|exact uM (fun a h=>hk _ _ h) h|cases h
theorem lX {P:Program} {k0:Nat} {K K':(Nat→V)→aF→Prop} (hk: ∀ T H,K T H→K' T H): ∀ {ops:List SO} {T:Nat→V} {H:aF},Ops P k0 ops T H K→Ops P k0 ops T H K':=by
  intro ops
  induction ops with
  |nil=>intro T H h; exact hk _ _ h
  | cons o r ih =>
    intro T H h
    simp only [Ops] at h ⊢
    split at h
    · exact pZ (fun _ _ h=>ih h) h
    · exact ⟨fun e=>pZ (fun _ _ h=>ih h) (h.1 e),fun e=>ih (h.2 e)⟩
def X.pt:X→Option (Nat×Nat)
  | .load _ n (.t a)=>if n=0 then none else some (a,n)
  | .store n (.t a) _=>some (a,n)
  | .append _ _ _ (.t s) (.t _)=>some (s,0)
  |_=>none
def X.ar:X→List Nat
  | .load _ _ (.t a)=>[a]
  | .store _ (.t a) _=>[a]
  | .append _ _ _ (.t s) (.t a)=>[s,a]
  | .len (.t a)=>[a]
  | .idx _ (.t a) _=>[a]
  |_=>[]
def X.slt:X→Option Nat
  | .len (.t a)=>some a
  | .idx _ (.t a) _=>some a
  |_=>none
def X.lz:X→Bool
  | .lazy _ _=>true
  |_=>false
def X.free (x:X):Bool:=x.cls==.I||(match x with
  | .bslice _ _ own _ _ _=> !own
  |_=>false)
def X.lc0 (x:X):Bool:=x.free||x.pt.isSome
def X.lc (x:X):Bool:=x.lc0||(x.slt.isSome||x.lz)
section
variable {P:Program} {k0:Nat} {T:Nat→V} {H H1 H2:aF} {v v':V}
theorem aBG (H:aF) (i:Nat):upd H i (H i)=H:=by
  funext j
  by_cases e:j=i
  · subst e; exact aC ..
  · exact aQ _ _ e
theorem aD7 {H:aF} {i j:Nat} (h:i≠j) (B C:Blk):upd (upd H i B) j C=upd (upd H j C) i B:=by
  funext k
  simp only [hJ]
  by_cases e1:k=i <;> by_cases e2:k=j
  · exact absurd (e1.symm.trans e2) h
  · simp [e1,h]
  · simp [e2,Ne.symm h]
  · simp [e1,e2]
theorem uC (H:aF) (i:Nat) (B C:Blk):upd (upd H i B) i C=upd H i C:=by
  funext k
  simp only [hJ]
  by_cases e1:k=i <;> simp [e1]
theorem wH {id:Nat} {x:X} (hf:x.free=true) (h:St P id x T H fun a b=>a=v∧b=H1):H1=H∧ ∀ G,St P id x T G fun a b=>a=v∧b=G:=by
  unfold X.free at hf
  rw [Bool.or_eq_true] at hf
  rcases hf with hf|hf
  · exact aM6 (by simpa using hf) h
  · cases x <;> first|(cases hf; done)|skip
    rename_i ty esz own z len ps
    cases own
    · simp only [St,aN,Bool.false_eq_true,if_false] at h
      obtain ⟨r,h1,h2,h3⟩:=h
      refine ⟨h3.symm,fun G=>?_⟩
      simp only [St,aN,Bool.false_eq_true,if_false]
      exact ⟨r,h1,h2,trivial⟩
    · cases hf
def Lcl (P:Program) (id:Nat) (x:X) (T:Nat→V) (i:Nat):Prop:= ∀ (H:aF) (v:V) (H1:aF),St P id x T H (fun a b=>a=v∧b=H1)→ ∃ B,H1=upd H i B∧ ∀ G:aF,G i=H i→St P id x T G fun a b=>a=v∧b=upd G i B
def bkV:V→Option Nat
  | .mp i _ _ _=>some i
  | .ms i _ _ _=>some i
  |_=>none
theorem aHI {id:Nat} {g:Bool} {n a i ver row off:Nat} (h:T a=.mp i ver row off):Lcl P id (.load g n (.t a)) T i:=fun H v H1 hst=>by
  simp only [St,aN,ev,h] at hst
  obtain ⟨r,h1,e1,e2⟩:=hst
  subst e1; subst e2
  refine ⟨H i,(aBG ..).symm,fun G hG=>?_⟩
  have e:ptr G (.mp i ver row off)=ptr H (.mp i ver row off):=by simp only [ptr,ok,hG]; rfl
  simp only [St,aN,ev,h,e]
  exact ⟨r,h1,rfl,by rw [← hG,aBG]⟩
theorem iY {n : Nat} {vs : List V} {i ver row off : Nat} : stP H n vs (.mp i ver row off) = some H1 ↔ ok H i ver = true ∧ vs.length = n ∧ vs.all V.one = true ∧ ∃ r, (H i).rows[row]? = some r ∧ off + n ≤ r.length ∧ H1 = upd H i { H i with rows := (H i).rows.set row (dZ r off vs) } := by
  unfold stP
  simp only
  constructor
  · intro h
    split at h
    · rename_i h1
      split at h
      · rename_i h2
        split at h
        · rename_i h3
          split at h
          · rename_i r hr
            split at h
            · rename_i h4; cases h; exact ⟨h1,h2,h3,r,hr,h4,rfl⟩
            · cases h
          · cases h
        · cases h
      · cases h
    · cases h
  · rintro ⟨h1,h2,h3,r,hr,h4,rfl⟩
    rw [if_pos h1,if_pos h2,if_pos h3,hr]
    simp only
    rw [if_pos h4]
theorem aFu {id n a i ver row off:Nat} {b:SX} (h:T a=.mp i ver row off):Lcl P id (.store n (.t a) b) T i:=fun H v H1 hst=>by
  simp only [St,aN,ev,h] at hst
  obtain ⟨G1,h1,e1,e2⟩:=hst
  subst e1; subst e2
  obtain ⟨q1,q2,q3,r,q4,q5,q6⟩:=iY.1 h1
  refine ⟨_,q6,fun G hG=>?_⟩
  simp only [St,aN,ev,h]
  exact ⟨_,iY.2 ⟨by unfold ok at q1 ⊢; rw [hG]; exact q1,q2,q3,r,by rw [hG]; exact q4,q5,rfl⟩,trivial,by rw [hG]⟩
theorem aCQ {id ty esz bytes s a i ver off len : Nat} (h : T s = .ms i ver off len) (ha : jQ T (.append ty esz bytes (.t s) (.t a)) = true) : Lcl P id (.append ty esz bytes (.t s) (.t a)) T i := fun H v H1 hst => by
  have hrow: ∀ G:aF,pN G (T a)=pN H (T a):=fun G=>by
    simp only [jQ] at ha
    cases hT:T a <;> first|rfl|skip
    rw [hT] at ha; cases ha
  simp only [St,ev,h] at hst
  split at hst
  · rename_i c1
    split at hst
    · rename_i c2
      split at hst
      · rename_i c3
        split at hst
        · rename_i c4
          split at hst
          · rename_i c5
            rw [aN] at hst
            obtain ⟨new,h1,hst⟩:=hst
            split at hst
            · rename_i c6
              split at hst
              · rename_i c7
                split at hst
                · rename_i c8
                  obtain ⟨rfl,rfl⟩:=hst
                  refine ⟨_,rfl,fun G hG=>?_⟩
                  simp only [St,ev,h,hG,hrow G]
                  rw [if_pos c1,if_pos c2,if_pos c3,if_pos c4,if_pos c5,aN]
                  refine ⟨new,h1,?_⟩
                  rw [if_pos c6,if_pos c7,if_pos c8]
                  exact ⟨rfl,rfl⟩
                · cases hst
              · cases hst
            · cases hst
          · cases hst
        · cases hst
      · cases hst
    · cases hst
  · cases hst
theorem aBd {id : Nat} {x : X} {p n : Nat} (hp : x.pt = some (p, n)) (ha : jQ T x = true) (h : St P id x T H fun a b => a = v ∧ b = H1) :
    (H1=H∧ ∀ G,St P id x T G fun a b=>a=v∧b=G)∨ ∃ i,bkV (T p)=some i∧Lcl P id x T i:=by
  cases x <;> first|(cases hp; done)|skip
  case load g m a=>
    cases a with
    |c _=>cases hp
    | t q =>
      simp only [X.pt] at hp
      split at hp
      · cases hp
      · cases hp
        have h0:=h
        simp only [St,aN,ev] at h
        obtain ⟨r,h1,e1,e2⟩:=h
        subst e1; subst e2
        cases hT:T p <;> rw [hT] at h1 <;> simp only [ptr,Option.bind_none] at h1 <;> first|(cases h1; done)|skip
        · refine .inl ⟨rfl,fun G=>?_⟩
          simp only [St,aN,ev,hT,ptr]
          exact ⟨r,h1,rfl,trivial⟩
        · exact .inr ⟨_,rfl,aHI hT⟩
  case store m a b=>
    cases a with
    |c _=>cases hp
    | t q =>
      cases hp
      obtain ⟨i,ver,row,off,hT⟩:=kJ h
      exact .inr ⟨i,by rw [hT]; rfl,aFu hT⟩
  case append ty esz bytes s a=>
    cases s with
    |c _=>cases hp
    | t q =>
      cases a with
      |c _=>cases hp
      | t a =>
        cases hp
        have h0:=h
        simp only [St,ev] at h0
        split at h0
        · rename_i i ver off len hT
          exact .inr ⟨i,by rw [hT]; rfl,aCQ hT ha⟩
        · cases h0
theorem aFh {vs r:List V} {o k:Nat} (h:o+vs.length≤r.length) (hk:k < o∨o+vs.length≤k):(dZ r o vs)[k]?=r[k]?:=by
  rw [iB vs r o h,if_neg (by omega)]
theorem aGe {vs us r:List V} {o u:Nat} (h1:o+vs.length≤r.length) (h2:u+us.length≤r.length) (hd:o+vs.length≤u∨u+us.length≤o):dZ (dZ r o vs) u us=dZ (dZ r u us) o vs:=by
  refine List.ext_getElem? fun k=>?_
  rw [iB us (dZ r o vs) u (by rw [fD]; exact h2),iB vs (dZ r u us) o (by rw [fD]; exact h1),iB vs r o h1,iB us r u h2]
  by_cases c1:u≤k∧k < u+us.length <;> by_cases c2:o≤k∧k < o+vs.length
  · exfalso; omega
  · rw [if_pos c1,if_neg c2,if_pos c1]
  · rw [if_neg c1,if_pos c2,if_pos c2]
  · rw [if_neg c1,if_neg c2,if_neg c2,if_neg c1]
theorem aFY {g:Bool} {n:Nat} {cs ds:List V} (hn:n≠0) (hl:cs.length=ds.length) (h:cs.take n=ds.take n):ldV g n cs=ldV g n ds:=by
  unfold ldV
  rw [h,hl]
  have e:cs.head?=ds.head?:=by
    cases n with
    |zero=>exact absurd rfl hn
    |succ n=>cases cs <;> cases ds <;> simp_all
  rw [e]
theorem tS {i : Nat} {rows : List (List V)} (hr : rows.length = (H i).rows.length) (j w : Nat) : ok (upd H i { H i with rows := rows }) j w = ok H j w := by
  unfold ok
  by_cases e:j=i
  · subst e
    rw [aC]
    have e2:Blk.own {H j with rows:=rows}=(H j).own:=by
      unfold Blk.own
      have:rows.isEmpty=(H j).rows.isEmpty:=by
        rw [Bool.eq_iff_iff,List.isEmpty_iff,List.isEmpty_iff,← List.length_eq_zero_iff,← List.length_eq_zero_iff,hr]
      simp only [this]
    rw [e2]
  · rw [aQ _ _ e]
theorem aLV {g : Bool} {n m i ver row off ver' row' off' : Nat} {vs : List V} (h : stP H n vs (.mp i ver row off) = some H1) (hm : m ≠ 0) (hd : row ≠ row' ∨ off + n ≤ off' ∨ off' + m ≤ off) :
    (ptr H1 (.mp i ver' row' off')).bind (ldV g m)=(ptr H (.mp i ver' row' off')).bind (ldV g m):=by
  obtain ⟨q1,q2,q3,r,q4,q5,rfl⟩:=iY.1 h
  simp only [ptr]
  rw [tS (List.length_set ..),aC]
  split
  · by_cases e:row=row'
    · subst e
      have hlt:row < (H i).rows.length:=(List.getElem?_eq_some_iff.1 q4).1
      have e1:((H i).rows.set row (dZ r off vs))[row]?=some (dZ r off vs):=by simp [hlt]
      simp only [e1,q4,Option.map_some,Option.bind_some]
      refine aFY hm (by simp [fD]) (List.ext_getElem? fun k=>?_)
      rw [List.getElem?_take,List.getElem?_take]
      split
      · rw [List.getElem?_drop,List.getElem?_drop]
        exact aFh (by omega) (by omega)
      · rfl
    · have e1:((H i).rows.set row (dZ r off vs))[row']?=(H i).rows[row']?:=by simp [List.getElem?_set,e]
      simp only [e1]
  · rfl
theorem aUa {n m i ver row off ver' row' off':Nat} {vs us:List V} (h:stP H n vs (.mp i ver row off)=some H1) (h2:stP H1 m us (.mp i ver' row' off')=some H2) (hd:row≠row'∨off+n≤off'∨off'+m≤off):
    ∃ G,stP H m us (.mp i ver' row' off')=some G∧stP G n vs (.mp i ver row off)=some H2:=by
  obtain ⟨q1,q2,q3,r,q4,q5,rfl⟩:=iY.1 h
  obtain ⟨p1,p2,p3,s,p4,p5,rfl⟩:=iY.1 h2
  rw [tS (List.length_set ..)] at p1
  rw [aC] at p4
  have hlt:row < (H i).rows.length:=(List.getElem?_eq_some_iff.1 q4).1
  have hlt':row' < (H i).rows.length:=by have:=(List.getElem?_eq_some_iff.1 p4).1; simpa using this
  by_cases e:row=row'
  · subst e
    have hs:s=dZ r off vs:=by simpa [hlt] using p4.symm
    subst hs
    rw [fD] at p5
    refine ⟨_,iY.2 ⟨p1,p2,p3,r,q4,p5,rfl⟩,iY.2 ⟨by rw [tS (List.length_set ..)]; exact q1,q2,q3,dZ r off' us,by rw [aC]; simp [hlt],by rw [fD]; exact q5,?_⟩⟩
    rw [aC,aC,uC,uC]
    simp only [List.set_set]
    rw [aGe (by omega) (by omega) (by omega)]
  · have hs:(H i).rows[row']?=some s:=by simpa [List.getElem?_set,e] using p4
    refine ⟨_,iY.2 ⟨p1,p2,p3,s,hs,p5,rfl⟩,iY.2 ⟨by rw [tS (List.length_set ..)]; exact q1,q2,q3,r,by rw [aC]; simpa [List.getElem?_set,Ne.symm e] using q4,q5,?_⟩⟩
    rw [aC,aC,uC,uC]
    simp only
    rw [List.set_comm _ _ e]
theorem aTE {i1 i2 : Nat} {x y : X} (lx : x.lc0 = true) (ly : y.lc0 = true) (ax : jQ T x = true) (ay : jQ T y = true)
    (hap: ∀ p n q m,x.pt=some (p,n)→y.pt=some (q,m)→(x.cls=.E∨y.cls=.E)→apV n m (T p) (T q)=true)
    (h1:St P i1 x T H fun a b=>a=v∧b=H1) (h2:St P i2 y T H1 fun a b=>a=v'∧b=H2):
    ∃ G,St P i2 y T H (fun a b=>a=v'∧b=G)∧St P i1 x T G fun a b=>a=v∧b=H2:=by
  have xfree:(H1=H∧ ∀ G,St P i1 x T G fun a b=>a=v∧b=G)→ ∃ G,St P i2 y T H (fun a b=>a=v'∧b=G)∧St P i1 x T G fun a b=>a=v∧b=H2:=fun ⟨e,h⟩=>by
    subst e; exact ⟨H2,h2,h H2⟩
  have yfree:(H2=H1∧ ∀ G,St P i2 y T G fun a b=>a=v'∧b=G)→ ∃ G,St P i2 y T H (fun a b=>a=v'∧b=G)∧St P i1 x T G fun a b=>a=v∧b=H2:=fun ⟨e,h⟩=>by
    subst e; exact ⟨H,h H,h1⟩
  unfold X.lc0 at lx ly
  rw [Bool.or_eq_true] at lx ly
  rcases lx with lx|lx
  · exact xfree (wH lx h1)
  rcases ly with ly|ly
  · exact yfree (wH ly h2)
  obtain ⟨⟨p,n⟩,hp⟩:=Option.isSome_iff_exists.1 lx
  obtain ⟨⟨q,m⟩,hq⟩:=Option.isSome_iff_exists.1 ly
  rcases aBd hp ax h1 with h|⟨i,bi,li⟩
  · exact xfree h
  rcases aBd hq ay h2 with h|⟨j,bj,lj⟩
  · exact yfree h
  obtain ⟨B,e1,g1⟩:=li _ _ _ h1
  by_cases e:i=j
  · subst e
    have hA:=hap p n q m hp hq
    cases x <;> first|(cases hp; done)|skip
    case append ty esz bytes s a=>
      exfalso
      cases s with
      |c _=>cases hp
      | t s =>
        cases a with
        |c _=>cases hp
        | t a =>
          cases hp
          have hA:=hA (.inl rfl)
          simp only [St,ev] at h1
          split at h1
          · rename_i i' ver off len hT
            rw [hT] at bi hA
            cases bi
            cases hq':T q <;> rw [hq'] at bj hA <;> first|(cases bj; done)|skip
            all_goals (cases bj; simp [apV] at hA)
          · cases h1
    all_goals cases y <;> first|(cases hq; done)|skip
    case load.append g k a ty esz bytes s b=>
      exfalso
      cases s with
      |c _=>cases hq
      | t s =>
        cases b with
        |c _=>cases hq
        | t b =>
          cases hq
          have hA:=hA (.inr rfl)
          simp only [St,ev] at h2
          split at h2
          · rename_i i' ver off len hT
            rw [hT] at bj hA
            cases bj
            cases hp':T p <;> rw [hp'] at bi hA <;> first|(cases bi; done)|skip
            all_goals (cases bi; simp [apV] at hA)
          · cases h2
    case store.append k a c ty esz bytes s b=>
      exfalso
      cases s with
      |c _=>cases hq
      | t s =>
        cases b with
        |c _=>cases hq
        | t b =>
          cases hq
          have hA:=hA (.inr rfl)
          simp only [St,ev] at h2
          split at h2
          · rename_i i' ver off len hT
            rw [hT] at bj hA
            cases bj
            cases hp':T p <;> rw [hp'] at bi hA <;> first|(cases bi; done)|skip
            all_goals (cases bi; simp [apV] at hA)
          · cases h2
    case load.load g k a g' k' b=>
      simp only [St,aN] at h1 h2
      obtain ⟨r,w1,w2,w3⟩:=h1
      obtain ⟨r',w1',w2',w3'⟩:=h2
      subst w2; subst w3; subst w2'; subst w3'
      refine ⟨H,?_,?_⟩
      · simp only [St,aN]; exact ⟨r',w1',rfl,trivial⟩
      · simp only [St,aN]; exact ⟨r,w1,rfl,trivial⟩
    case load.store g k a k' b c=>
      cases a with
      |c _=>cases hp
      | t a =>
        simp only [X.pt] at hp
        split at hp
        · cases hp
        rename_i hk
        cases hp
        cases b with
        |c _=>cases hq
        | t b =>
          cases hq
          have hA:=hA (.inr rfl)
          obtain ⟨i',ver',row',off',hT'⟩:=kJ h2
          rw [hT'] at bj; cases bj
          cases hT:T p <;> rw [hT] at bi <;> first|(cases bi; done)|skip
          · exfalso; cases bi; rw [hT,hT'] at hA; simp [apV] at hA
          · rename_i id' ver row off
            cases bi
            rw [hT,hT'] at hA
            simp only [St,aN,ev,hT] at h1
            obtain ⟨r,w1,w2,w3⟩:=h1
            subst w2; subst w3
            have h2':=h2
            simp only [St,aN,ev,hT'] at h2'
            obtain ⟨G,u1,u2,u3⟩:=h2'
            subst u3
            refine ⟨G,h2,?_⟩
            simp only [St,aN,ev,hT]
            exact ⟨r,(aLV u1 hk (by simp [apV] at hA; omega)).trans w1,rfl,trivial⟩
    case store.load k a c g k' b=>
      cases b with
      |c _=>cases hq
      | t b =>
        simp only [X.pt] at hq
        split at hq
        · cases hq
        rename_i hk
        cases hq
        cases a with
        |c _=>cases hp
        | t a =>
          cases hp
          have hA:=hA (.inl rfl)
          obtain ⟨i',ver',row',off',hT'⟩:=kJ h1
          rw [hT'] at bi; cases bi
          cases hT:T q <;> rw [hT] at bj <;> first|(cases bj; done)|skip
          · exfalso; cases bj; rw [hT,hT'] at hA; simp [apV] at hA
          · rename_i id' ver row off
            cases bj
            rw [hT,hT'] at hA
            have h1':=h1
            simp only [St,aN,ev,hT'] at h1'
            obtain ⟨G,u1,u2,u3⟩:=h1'
            subst u3
            simp only [St,aN,ev,hT] at h2
            obtain ⟨r,w1,w2,w3⟩:=h2
            subst w2; subst w3
            refine ⟨H,?_,h1⟩
            simp only [St,aN,ev,hT]
            exact ⟨r,(aLV u1 hk (by simp [apV] at hA; omega)).symm.trans w1,rfl,trivial⟩
    case store.store k a c k' b d=>
      cases a with
      |c _=>cases hp
      | t a =>
        cases b with
        |c _=>cases hq
        | t b =>
          cases hp; cases hq
          have hA:=hA (.inl rfl)
          obtain ⟨i1',ver,row,off,hT⟩:=kJ h1
          obtain ⟨i2',ver',row',off',hT'⟩:=kJ h2
          rw [hT] at bi; cases bi
          rw [hT'] at bj; cases bj
          rw [hT,hT'] at hA
          simp only [St,aN,ev,hT] at h1
          simp only [St,aN,ev,hT'] at h2
          obtain ⟨G1,u1,u2,u3⟩:=h1
          obtain ⟨G2,w1,w2,w3⟩:=h2
          subst u3; subst w3
          obtain ⟨G,z1,z2⟩:=aUa u1 w1 (by simp [apV] at hA; omega)
          refine ⟨G,?_,?_⟩
          · simp only [St,aN,ev,hT']; exact ⟨G,z1,w2,rfl⟩
          · simp only [St,aN,ev,hT]; exact ⟨_,z2,u2,rfl⟩
  · obtain ⟨C,e2,g2⟩:=lj _ _ _ h2
    subst e1; subst e2
    refine ⟨upd H j C,g2 H (aQ _ _ (Ne.symm e)).symm,?_⟩
    rw [aD7 e]
    exact g1 _ (aQ _ _ e)
theorem aE4 {id : Nat} {x : X} (hs : x.slt.isSome = true) (ha : jQ T x = true) (h : St P id x T H fun a b => a = v ∧ b = H1) : H1 = H ∧ ∀ G, St P id x T G fun a b => a = v ∧ b = G := by
  cases x <;> first|(cases hs; done)|skip
  case idx esz a i=>
    cases a with
    |c _=>cases hs
    | t a =>
      simp only [St,aN,ev] at h ⊢
      obtain ⟨r,h1,e1,e2⟩:=h
      refine ⟨e2.symm,fun G=>⟨r,?_,e1,trivial⟩⟩
      simp only [jQ] at ha
      have key: ∀ w:V,nP G esz (T a) w=nP H esz (T a) w:=fun w=>by
        cases hT:T a <;> rw [hT] at ha <;> first|(cases ha; done)|skip
        all_goals cases w <;> rfl
      exact (key _).trans h1
  case len a=>
    cases a with
    |c _=>cases hs
    | t a =>
      simp only [St,aN,ev] at h ⊢
      obtain ⟨r,h1,e1,e2⟩:=h
      refine ⟨e2.symm,fun G=>⟨r,?_,e1,trivial⟩⟩
      simp only [jQ] at ha
      cases hT:T a <;> rw [hT] at ha h1 <;> first|(cases ha; done)|exact h1
theorem aHV {id:Nat} {x:X} (hz:x.lz=true):Lcl P id x T id:=fun H v H1 hst=>by
  cases x <;> first|(cases hz; done)|skip
  simp only [St] at hst
  obtain ⟨rfl,rfl⟩:=hst
  refine ⟨_,rfl,fun G hG=>?_⟩
  simp only [St,hG]
  exact ⟨trivial,trivial⟩
theorem aLD {i1 i2 i j:Nat} {x y:X} (li:Lcl P i1 x T i) (lj:Lcl P i2 y T j) (e:i≠j) (h1:St P i1 x T H fun a b=>a=v∧b=H1) (h2:St P i2 y T H1 fun a b=>a=v'∧b=H2):
    ∃ G,St P i2 y T H (fun a b=>a=v'∧b=G)∧St P i1 x T G fun a b=>a=v∧b=H2:=by
  obtain ⟨B,e1,g1⟩:=li _ _ _ h1
  obtain ⟨C,e2,g2⟩:=lj _ _ _ h2
  subst e1; subst e2
  refine ⟨upd H j C,g2 H (aQ _ _ (Ne.symm e)).symm,?_⟩
  rw [aD7 e]
  exact g1 _ (aQ _ _ e)
def X.bk (id:Nat) (x:X) (T:Nat→V):Option Nat:=if x.lz=true then some id else x.pt.bind fun p=>bkV (T p.1)
theorem aUr {i1 i2 : Nat} {x y : X} (lx : x.lc = true) (ly : y.lc = true) (ax : jQ T x = true) (ay : jQ T y = true)
    (hap: ∀ p n q m,x.pt=some (p,n)→y.pt=some (q,m)→(x.cls=.E∨y.cls=.E)→apV n m (T p) (T q)=true)
    (hz:(x.lz=true∨y.lz=true)→ ∀ i j,x.bk i1 T=some i→y.bk i2 T=some j→i≠j)
    (h1:St P i1 x T H fun a b=>a=v∧b=H1) (h2:St P i2 y T H1 fun a b=>a=v'∧b=H2):
    ∃ G,St P i2 y T H (fun a b=>a=v'∧b=G)∧St P i1 x T G fun a b=>a=v∧b=H2:=by
  have xfree:(H1=H∧ ∀ G,St P i1 x T G fun a b=>a=v∧b=G)→ ∃ G,St P i2 y T H (fun a b=>a=v'∧b=G)∧St P i1 x T G fun a b=>a=v∧b=H2:=fun ⟨e,h⟩=>by
    subst e; exact ⟨H2,h2,h H2⟩
  have yfree:(H2=H1∧ ∀ G,St P i2 y T G fun a b=>a=v'∧b=G)→ ∃ G,St P i2 y T H (fun a b=>a=v'∧b=G)∧St P i1 x T G fun a b=>a=v∧b=H2:=fun ⟨e,h⟩=>by
    subst e; exact ⟨H,h H,h1⟩
  by_cases sx:x.slt.isSome=true
  · exact xfree (aE4 sx ax h1)
  by_cases sy:y.slt.isSome=true
  · exact yfree (aE4 sy ay h2)
  have kind: ∀ {i0:Nat} {z:X} {G G1:aF} {u:V},z.lc=true→ ¬z.slt.isSome=true→jQ T z=true→(St P i0 z T G fun a b=>a=u∧b=G1)→(G1=G∧ ∀ G,St P i0 z T G fun a b=>a=u∧b=G)∨ ∃ i,z.bk i0 T=some i∧Lcl P i0 z T i:=by
    intro i0 z G G1 u lz sz az hz
    by_cases zz:z.lz=true
    · exact .inr ⟨i0,if_pos zz,aHV zz⟩
    · have l0:z.lc0=true:=by
        unfold X.lc at lz
        simp only [Bool.or_eq_true] at lz
        rcases lz with lz|lz|lz
        · exact lz
        · exact absurd lz sz
        · exact absurd lz zz
      unfold X.lc0 at l0
      rw [Bool.or_eq_true] at l0
      rcases l0 with l0|l0
      · exact .inl (wH l0 hz)
      · obtain ⟨⟨p,n⟩,hp⟩:=Option.isSome_iff_exists.1 l0
        rcases aBd hp az hz with h|⟨i,bi,li⟩
        · exact .inl h
        · exact .inr ⟨i,by unfold X.bk; rw [if_neg zz,hp]; exact bi,li⟩
  by_cases zz:x.lz=true∨y.lz=true
  · rcases kind lx sx ax h1 with h|⟨i,bi,li⟩
    · exact xfree h
    rcases kind ly sy ay h2 with h|⟨j,bj,lj⟩
    · exact yfree h
    exact aLD li lj (hz zz i j bi bj) h1 h2
  · have l0: ∀ {z:X},z.lc=true→ ¬z.slt.isSome=true→ ¬z.lz=true→z.lc0=true:=fun {z} lz sz zz=>by
      unfold X.lc at lz
      simp only [Bool.or_eq_true] at lz
      rcases lz with lz|lz|lz
      · exact lz
      · exact absurd lz sz
      · exact absurd lz zz
    exact aTE (l0 lx sx fun h=>zz (.inl h)) (l0 ly sy fun h=>zz (.inr h)) ax ay hap h1 h2
end
end Go.Proofs.YtmnnhjhkaepbaaaGreat


namespace Go.Proofs.YtmnnhjhkaepbaaaGreat
open Go
section
variable {P:Program} {k0:Nat}
def SO.pt (s:SO):Option (Nat×Nat):=if s.x.lz=true then s.d.map fun d=>(d,0) else s.x.pt
def SO.mv (s:SO):Bool:=s.x.cls==.E||s.x.lz
structure PR (b:Array Nat) (ps:List Ap4) (q r:Nat×SO):Prop where
  back:dO b q.1 r.1=false
  ne:q.1≠r.1
  dst: ∀ d,q.2.d=some d→r.2.d≠some d
  rd: ∀ d,q.2.d=some d→d∈r.2.x.ts→dO b r.1 q.1=true
  wr: ∀ d,r.2.d=some d→d∈q.2.x.ts→dO b r.1 q.1=true
  keep: ∀ d,r.2.d=some d→d∉q.2.x.ar
  cf:dO b r.1 q.1=false→ ∀ p n p' m,q.2.pt=some (p,n)→r.2.pt=some (p',m)→(q.2.mv=true∨r.2.mv=true)→(p,n,p',m)∈ps
def prB (b : Array Nat) (ps : List Ap4) (q r : Nat × SO) : Bool :=
  let anc:=dO b r.1 q.1
  !(dO b q.1 r.1)&&q.1 != r.1&&
  (match q.2.d with
    |some d=>r.2.d != some d&&(anc|| !r.2.x.ts.contains d)
    |none=>true)&&
  (match r.2.d with
    |some d=>(anc|| !q.2.x.ts.contains d)&& !q.2.x.ar.contains d
    |none=>true)&&
  (anc||match q.2.pt,r.2.pt with
    |some p,some p'=> !(q.2.mv||r.2.mv)||ps.contains (p.1,p.2,p'.1,p'.2)
    |_,_=>true)
theorem aHR {b:Array Nat} {ps:List Ap4} {q r:Nat×SO} (h:prB b ps q r=true):PR b ps q r:=by
  unfold prB at h
  simp only [Bool.and_eq_true,Bool.not_eq_true',bne_iff_ne,ne_eq] at h
  obtain ⟨⟨⟨⟨h1,h2⟩,h3⟩,h4⟩,h5⟩:=h
  refine ⟨h1,h2,fun d hd=>?_,fun d hd hr=>?_,fun d hd hr=>?_,fun d hd hr=>?_,fun ha p n p' m hp hp' hE=>?_⟩
  · rw [hd] at h3; simp only [Bool.and_eq_true,bne_iff_ne,ne_eq] at h3; exact h3.1
  · rw [hd] at h3
    simp only [Bool.and_eq_true,Bool.or_eq_true,Bool.not_eq_true',List.contains_eq_mem,decide_eq_false_iff_not] at h3
    exact h3.2.resolve_right fun h=>h hr
  · rw [hd] at h4
    simp only [Bool.and_eq_true,Bool.or_eq_true,Bool.not_eq_true',List.contains_eq_mem,decide_eq_false_iff_not] at h4
    exact h4.1.resolve_right fun h=>h hr
  · rw [hd] at h4
    simp only [Bool.and_eq_true,Bool.or_eq_true,Bool.not_eq_true',List.contains_eq_mem,decide_eq_false_iff_not] at h4
    exact h4.2 hr
  · rw [ha,hp,hp'] at h5
    simp only [Bool.false_or,Bool.or_eq_true,Bool.not_eq_true',Bool.or_eq_false_iff,List.contains_eq_mem,decide_eq_true_eq] at h5
    rcases h5 with h5|h5
    · rcases hE with e|e
      · rw [e] at h5; cases h5.1
      · rw [e] at h5; cases h5.2
    · exact h5
def seB (s:SO):Bool:=s.g.isNone&&s.x.lc&&(match s.d with
  |some d=> !s.x.ar.contains d
  |none=> !s.x.lz)
theorem aL8 {x:X} {t:Nat} (h:t∈x.ar):t∈x.ts:=by
  cases x <;> simp only [X.ar] at h <;> first|(cases h; done)|skip
  case load g n a=>cases a <;> simp_all [X.ts,SX.ts]
  case store n a b=>cases a <;> simp_all [X.ts,SX.ts]
  case append ty esz bytes s a=>cases s <;> cases a <;> simp_all [X.ts,SX.ts]
  case idx n a i=>cases a <;> simp_all [X.ts,SX.ts]
  case len a=>cases a <;> simp_all [X.ts,SX.ts]
theorem aDj {x:X} (h:x.lc=true):x.cls≠.N:=by
  cases x <;> first|(intro e; cases e; done)|skip
  all_goals first|(simp [X.lc,X.lc0,X.slt,X.lz,X.free,X.pt,X.cls] at h; done)|(intro e; simp only [X.cls] at e; split at e <;> cases e)|(rename_i e _ _; cases e <;> cases h)
theorem aGF {D : Prop} : ∀ {l : List SO} {T : Nat → V} {H : aF} {K : (Nat → V) → aF → Prop}, (∀ s ∈ l, seB s = true) → l.Pairwise (fun q r => ∀ d, q.d = some d → r.d ≠ some d) → Ops P k0 l T H K →
    (∀ T' H',K T' H'→(∀ t,(∀ s∈l,s.d≠some t)→T' t=T t)→(∀ s∈l,s.x.lz=true→ ∀ d,s.d=some d→ ∃ v,T' d=.ms (k0+d) v 0 0)→D)→D
  |[],T,H,K,_,_,h,hD=>hD T H h (fun _ _=>rfl) (fun s hs=>by cases hs)
  | s :: l, T, H, K, hs, hp, h, hD => by
    have h0:=hs s (List.mem_cons_self ..)
    rw [List.pairwise_cons] at hp
    unfold seB at h0
    simp only [Bool.and_eq_true,Option.isNone_iff_eq_none] at h0
    simp only [Ops,h0.1.1] at h
    obtain ⟨v,H1,h1,st⟩:=uW (aDj h0.1.2) h
    refine aGF (fun q hq=>hs q (List.mem_cons_of_mem _ hq)) hp.2 h1 fun T' H' hk ha hz=>hD T' H' hk (fun t ht=>?_) fun q hq hl d hd=>?_
    · rw [ha t fun q hq=>ht q (List.mem_cons_of_mem _ hq)]
      cases hd:s.d with
      |none=>rfl
      |some d=>exact aQ _ _ fun e=>ht s (List.mem_cons_self ..) (by rw [hd,e])
    · rcases List.mem_cons.1 hq with rfl|hq
      · rw [ha d fun r hr=>hp.1 r hr d hd,hd]
        rw [hd] at st
        cases hx:q.x <;> rw [hx] at hl <;> first|(cases hl; done)|skip
        rw [hx] at st
        simp only [St] at st
        obtain ⟨e,_⟩:=st
        exact ⟨_,by rw [show eY T (some d) v d=v from aC ..,← e]; rfl⟩
      · exact hz q hq hl d hd
theorem swap {x y : SO} {s : List SO} {T : Nat → V} {H : aF} {K : (Nat → V) → aF → Prop} (hx : seB x = true) (hy : seB y = true) (d0 : ∀ d, x.d = some d → y.d ≠ some d) (d1 : ∀ d, x.d = some d → d ∉ y.x.ts) (d2 : ∀ d, y.d = some d → d ∉ x.x.ts)
    (ax:jQ T x.x=true) (ay:jQ T y.x=true) (hap: ∀ p n q m,x.x.pt=some (p,n)→y.x.pt=some (q,m)→(x.x.cls=.E∨y.x.cls=.E)→apV n m (T p) (T q)=true)
    (hz:(x.x.lz=true∨y.x.lz=true)→ ∀ i j,x.x.bk (k0+x.d.getD 0) T=some i→y.x.bk (k0+y.d.getD 0) T=some j→i≠j)
    (h:Ops P k0 (x::y::s) T H K):Ops P k0 (y::x::s) T H K:=by
  unfold seB at hx hy
  simp only [Bool.and_eq_true,Option.isNone_iff_eq_none] at hx hy
  have put: ∀ {d:Option Nat} {l:List Nat} {v:V} (_: ∀ e,d=some e→e∉l),∀ t∈l,eY T d v t=T t:=fun {d} {l} {v} hd t ht=>by
    cases e:d with
    |none=>rfl
    |some e'=>exact aQ _ _ fun q=>hd e' e (q ▸ ht)
  simp only [Ops,hx.1.1,hy.1.1] at h ⊢
  obtain ⟨v,H1,h1,st1⟩:=uW (aDj hx.1.2) h
  obtain ⟨v',H2,h2,st2⟩:=uW (aDj hy.1.2) h1
  have st2':=vO (put (v:=v) d1) st2
  obtain ⟨G,g1,g2⟩:=aUr hx.1.2 hy.1.2 ax ay hap hz st1 st2'
  refine pZ ?_ g1
  rintro a b ⟨rfl,rfl⟩
  refine vO (T:=T) (fun t ht=>(put (v:=a) d2 t ht).symm) (pZ ?_ g2)
  rintro a' b' ⟨rfl,rfl⟩
  have e:eY (eY T y.d a) x.d a'=eY (eY T x.d a') y.d a:=by
    cases hxd:x.d with
    |none=>rfl
    | some d => cases hyd : y.d with
      |none=>rfl
      | some d' =>
        have hne:d≠d':=fun e=>d0 d hxd (by rw [hyd,e])
        funext t
        simp only [eY,hJ]
        by_cases e1:t=d <;> by_cases e2:t=d'
        · exact absurd (e1.symm.trans e2) hne
        · simp [e1,hne]
        · simp [e2,Ne.symm hne]
        · simp [e1,e2]
  rw [e]
  exact h2
theorem aMI {b : Array Nat} {ps : List Ap4} {ops0 : List SO} {x : Nat × SO} {v : List (Nat × SO)} {K : (Nat → V) → aF → Prop} (hK : ∀ T H, K T H → ddB ps ops0 T = true) : ∀ {u : List (Nat × SO)} {T : Nat → V} {H : aF}, (u ++ x :: v).Pairwise (PR b ps) → (∀ q ∈ u ++ x :: v, seB q.2 = true ∧ q.2 ∈ ops0) → (∀ q ∈ u, dO b x.1 q.1 = false) →
    Ops P k0 ((u++x::v).map (·.2)) T H K→Ops P k0 ((x::(u++v)).map (·.2)) T H K
  |[],_,_,_,_,_,h=>h
  | q :: u, T, H, hp, hs, hn, h => by
    rw [List.cons_append,List.pairwise_cons] at hp
    have hsq:=hs q (by simp)
    have hsx:=hs x (by simp)
    have hg:q.2.g=none:=by have:=hsq.1; unfold seB at this; simp only [Bool.and_eq_true,Option.isNone_iff_eq_none] at this; exact this.1.1
    have h':Ops P k0 ((q::x::(u++v)).map (·.2)) T H K:=by
      simp only [List.cons_append,List.map_cons,Ops,hg] at h ⊢
      exact pZ (fun w H' hh=>by have:=aMI hK (u:=u) hp.2 (fun r hr=>hs r (by simp only [List.cons_append,List.mem_cons]; exact .inr hr)) (fun r hr=>hn r (List.mem_cons_of_mem _ hr)) hh; simpa only [List.map_cons,Ops] using this) h
    have hqx:PR b ps q x:=hp.1 x (by simp)
    have hnq:=hn q (List.mem_cons_self ..)
    have rest: ∀ e∈u++v,PR b ps q e∧(PR b ps x e∨(PR b ps e x∧dO b x.1 e.1=false)):=fun e he=>by
      refine ⟨hp.1 e (by rw [List.mem_append] at he ⊢; rcases he with he|he <;> simp [he]),?_⟩
      rcases List.mem_append.1 he with he|he
      · obtain ⟨a,c,rfl⟩:=List.append_of_mem he
        right
        refine ⟨?_,hn e (by simp)⟩
        have:=hp.2
        rw [List.append_assoc,List.cons_append] at this
        exact (List.pairwise_cons.1 (List.pairwise_append.1 this).2.1).1 x (by simp)
      · left
        exact (List.pairwise_cons.1 (List.pairwise_append.1 hp.2).2.1).1 e he
    have own: ∀ {r:SO},seB r=true→ ∀ d,r.d=some d→d∉r.x.ar:=fun {r} hr d hd hh=>by
      unfold seB at hr
      rw [hd] at hr
      simp only [Bool.and_eq_true,Bool.not_eq_true',List.contains_eq_mem,decide_eq_false_iff_not] at hr
      exact hr.2 hh
    -- the slots of the pointers stay
    have stayq: ∀ t∈q.2.x.ar,∀ s∈(q::x::(u++v)).map (·.2),s.d≠some t:=fun t ht s hs' hd=>by
      obtain ⟨e,he,rfl⟩:=List.mem_map.1 hs'
      rcases List.mem_cons.1 he with rfl|he
      · exact own hsq.1 t hd ht
      rcases List.mem_cons.1 he with rfl|he
      · exact hqx.keep t hd ht
      · exact (rest e he).1.keep t hd ht
    have stayx: ∀ t∈x.2.x.ar,∀ s∈(q::x::(u++v)).map (·.2),s.d≠some t:=fun t ht s hs' hd=>by
      obtain ⟨e,he,rfl⟩:=List.mem_map.1 hs'
      rcases List.mem_cons.1 he with rfl|he
      · have:=hqx.rd t hd (aL8 ht); rw [hnq] at this; cases this
      rcases List.mem_cons.1 he with rfl|he
      · exact own hsx.1 t hd ht
      · rcases (rest e he).2 with g|⟨g,g'⟩
        · exact g.keep t hd ht
        · have:=g.rd t hd (aL8 ht); rw [g'] at this; cases this
    have hse: ∀ s∈(q::x::(u++v)).map (·.2),seB s=true:=fun s hs'=>by
      obtain ⟨e,he,rfl⟩:=List.mem_map.1 hs'
      refine (hs e ?_).1
      simp only [List.mem_cons,List.mem_append,List.cons_append] at he ⊢
      rcases he with e|e|e|e <;> simp [e]
    have hds:((q::x::(u++v)).map (·.2)).Pairwise (fun q r=> ∀ d,q.d=some d→r.d≠some d):=by
      have sym: ∀ {a c:Nat×SO},PR b ps a c→(∀ d,a.2.d=some d→c.2.d≠some d):=fun h=>h.dst
      have sym': ∀ {a c:Nat×SO},PR b ps a c→(∀ d,c.2.d=some d→a.2.d≠some d):=fun h d hd e=>h.dst d e hd
      rw [List.pairwise_map,List.pairwise_cons,List.pairwise_cons]
      refine ⟨fun e he=>?_,fun e he=>?_,?_⟩
      · rcases List.mem_cons.1 he with rfl|he
        · exact sym hqx
        · exact sym (rest e he).1
      · rcases (rest e he).2 with g|⟨g,_⟩
        · exact sym g
        · exact sym' g
      · have:=hp.2
        rw [List.pairwise_append] at this ⊢
        exact ⟨this.1.imp fun h=>sym h,(List.pairwise_cons.1 this.2.1).2.imp fun h=>sym h,fun a ha c hc=>sym (this.2.2 a ha c (List.mem_cons_of_mem _ hc))⟩
    have facts:jQ T q.2.x=true∧jQ T x.2.x=true∧(∀ p n p' m,q.2.x.pt=some (p,n)→x.2.x.pt=some (p',m)→(q.2.x.cls=.E∨x.2.x.cls=.E)→apV n m (T p) (T p')=true)∧
        ((q.2.x.lz=true∨x.2.x.lz=true)→ ∀ i j,q.2.x.bk (k0+q.2.d.getD 0) T=some i→x.2.x.bk (k0+x.2.d.getD 0) T=some j→i≠j):=
      aGF hse hds h' fun T' H' hk ha hlz=>by
        have hd:=hK _ _ hk
        unfold ddB at hd
        rw [Bool.and_eq_true,List.all_eq_true,List.all_eq_true] at hd
        have arg: ∀ {r:SO},(∀ t∈r.x.ar,T' t=T t)→jQ T' r.x=true→jQ T r.x=true:=fun {r} hr hb=>by
          cases hx:r.x <;> first|rfl|skip
          case append ty esz bytes s a=>
            rw [hx] at hb hr
            cases a with
            |c _=>cases s <;> rfl
            | t a => cases s with
              |c _=>rfl
              | t s =>
                have:=hr a (by simp [X.ar])
                simp only [jQ,this] at hb ⊢; exact hb
          case idx n a i=>
            rw [hx] at hb hr
            cases a with
            |c _=>rfl
            | t a =>
              have:=hr a (by simp [X.ar])
              simp only [jQ,this] at hb ⊢; exact hb
          case len a=>
            rw [hx] at hb hr
            cases a with
            |c _=>rfl
            | t a =>
              have:=hr a (by simp [X.ar])
              simp only [jQ,this] at hb ⊢; exact hb
        have ptz: ∀ {r:SO} {p n:Nat},r.x.pt=some (p,n)→r.pt=some (p,n)∧r.x.lz=false:=fun {r} {p n} h=>by
          have hz:r.x.lz=false:=by cases hx:r.x <;> rw [hx] at h <;> first|rfl|(cases h; done)
          unfold SO.pt
          rw [hz,if_neg (by decide)]; exact ⟨h,rfl⟩
        have hin0: ∀ p n p' m,q.2.pt=some (p,n)→x.2.pt=some (p',m)→(q.2.mv=true∨x.2.mv=true)→apV n m (T' p) (T' p')=true:=fun p n p' m e1 e2 e3=>hd.1 _ (hqx.cf hnq p n p' m e1 e2 e3)
        have mvE: ∀ {r:SO},r.x.cls=.E→r.mv=true:=fun {r} h=>by unfold SO.mv; rw [h]; rfl
        have mvZ: ∀ {r:SO},r.x.lz=true→r.mv=true:=fun {r} h=>by unfold SO.mv; rw [h,Bool.or_true]
        refine ⟨arg (fun t ht=>ha t (stayq t ht)) (hd.2 _ hsq.2),arg (fun t ht=>ha t (stayx t ht)) (hd.2 _ hsx.2),fun p n p' m e1 e2 e3=>?_,fun e3 i j b1 b2=>?_⟩
        rotate_left
        · -- blocks that are apart
          have pz : ∀ {r : SO} {k : Nat}, r ∈ (q :: x :: (u ++ v)).map (·.2) → seB r = true → (∀ t ∈ r.x.ar, T' t = T t) → r.x.bk (k0 + r.d.getD 0) T = some k → ∃ p n, r.pt = some (p, n) ∧ bkV (T' p) = some k := by
            intro r k hr hsr hst hbk
            unfold X.bk at hbk
            by_cases z:r.x.lz=true
            · rw [if_pos z] at hbk
              cases hrd:r.d with
              |none=>unfold seB at hsr; rw [hrd] at hsr; simp only [Bool.and_eq_true,Bool.not_eq_true'] at hsr; rw [z] at hsr; cases hsr.2
              | some d =>
                obtain ⟨w,hw⟩:=hlz r hr z d hrd
                rw [hrd] at hbk
                refine ⟨d,0,by unfold SO.pt; rw [if_pos z,hrd]; rfl,by rw [hw]; exact hbk⟩
            · rw [if_neg z] at hbk
              cases hpt:r.x.pt with
              |none=>rw [hpt] at hbk; cases hbk
              | some p =>
                obtain ⟨p,n⟩:=p
                rw [hpt] at hbk
                have hmem:p∈r.x.ar:=by
                  cases hx:r.x <;> rw [hx] at hpt <;> first|(cases hpt; done)|skip
                  · rename_i g k a; cases a <;> simp only [X.pt] at hpt <;> first|(cases hpt; done)|skip
                    split at hpt <;> first|(cases hpt; done)|(cases hpt; simp [X.ar])
                  · rename_i k a c; cases a <;> first|(cases hpt; done)|(cases hpt; simp [X.ar])
                  · rename_i ty esz bytes s a; cases s <;> cases a <;> first|(cases hpt; done)|(cases hpt; simp [X.ar])
                exact ⟨p,n,(ptz hpt).1,by rw [hst p hmem]; exact hbk⟩
          obtain ⟨p,n,p1,p2⟩:=pz (List.mem_cons_self ..) hsq.1 (fun t ht=>ha t (stayq t ht)) b1
          obtain ⟨p',m,r1,r2⟩:=pz (List.mem_cons_of_mem _ (List.mem_cons_self ..)) hsx.1 (fun t ht=>ha t (stayx t ht)) b2
          have hA:=hin0 p n p' m p1 r1 (e3.imp mvZ mvZ)
          -- one of them is a slice:the blocks differ
          have hsl:(∃ a c d e,T' p=.ms a c d e)∨ ∃ a c d e,T' p'=.ms a c d e:=by
            rcases e3 with z|z
            · left
              cases hrd:q.2.d with
              |none=>have h9:=hsq.1; unfold seB at h9; rw [hrd] at h9; simp only [Bool.and_eq_true,Bool.not_eq_true'] at h9; rw [z] at h9; cases h9.2
              | some d =>
                obtain ⟨w,hw⟩:=hlz q.2 (List.mem_cons_self ..) z d hrd
                have:SO.pt q.2=some (d,0):=by unfold SO.pt; rw [if_pos z,hrd]; rfl
                rw [this] at p1; cases p1
                exact ⟨_,_,_,_,hw⟩
            · right
              cases hrd:x.2.d with
              |none=>have h9:=hsx.1; unfold seB at h9; rw [hrd] at h9; simp only [Bool.and_eq_true,Bool.not_eq_true'] at h9; rw [z] at h9; cases h9.2
              | some d =>
                obtain ⟨w,hw⟩:=hlz x.2 (List.mem_cons_of_mem _ (List.mem_cons_self ..)) z d hrd
                have:SO.pt x.2=some (d,0):=by unfold SO.pt; rw [if_pos z,hrd]; rfl
                rw [this] at r1; cases r1
                exact ⟨_,_,_,_,hw⟩
          intro eij
          subst eij
          rcases hsl with ⟨a,c,d,e,hw⟩|⟨a,c,d,e,hw⟩
          · rw [hw] at p2 hA; cases p2
            cases hT:T' p' <;> rw [hT] at r2 hA <;> first|(cases r2; done)|(cases r2; simp [apV] at hA)
          · rw [hw] at r2 hA; cases r2
            cases hT:T' p <;> rw [hT] at p2 hA <;> first|(cases p2; done)|(cases p2; simp [apV] at hA)
        have hin:=hin0 p n p' m (ptz e1).1 (ptz e2).1 (e3.imp mvE mvE)
        have pa: ∀ {r:SO} {p n:Nat},r.x.pt=some (p,n)→p∈r.x.ar:=fun {r} {p n} h=>by
          cases hx:r.x <;> rw [hx] at h <;> first|(cases h; done)|skip
          · rename_i g k a; cases a <;> simp only [X.pt] at h <;> first|(cases h; done)|skip
            split at h <;> first|(cases h; done)|(cases h; simp [X.ar])
          · rename_i k a c; cases a <;> first|(cases h; done)|(cases h; simp [X.ar])
          · rename_i ty esz bytes s a; cases s <;> cases a <;> first|(cases h; done)|(cases h; simp [X.ar])
        rw [ha p (stayq p (pa e1)),ha p' (stayx p' (pa e2))] at hin
        exact hin
    exact swap hsq.1 hsx.1 hqx.dst (fun d hd hh=>by have:=hqx.rd d hd hh; rw [hnq] at this; cases this) (fun d hd hh=>by have:=hqx.wr d hd hh; rw [hnq] at this; cases this) facts.1 facts.2.1 facts.2.2.1 facts.2.2.2 h'
def aDz (P:Program) (ps:List Ap4) (ops:Array Oper) (L:List (Nat×SO)):Bool:=
  P.follows .mixedOrders&&
  (L.zipIdx.all fun p=>(L.drop (p.2+1)).all (prB (Region.before ops) ps p.1))&&
  (List.range ops.size).all (fun i=>L.any (·.1==i))&&
  ops.toList.zipIdx.all (fun p=>p.1.after.all fun e=> !(Region.binds .any e)||decide (e.on < p.2))&&
  L.all (fun q=>seB q.2)
theorem aBK {b:Array Nat} {ps:List Ap4}: ∀ {L pre:List (Nat×SO)},((L.zipIdx pre.length).all fun p=>(((pre++L).drop (p.2+1)).all (prB b ps p.1)))=true→L.Pairwise (PR b ps)
  |[],_,_=>.nil
  | q :: L, pre, h => by
    rw [List.zipIdx_cons,List.all_cons,Bool.and_eq_true] at h
    refine .cons (fun r hr=>aHR ?_) (aBK (pre:=pre++[q]) ?_)
    · have:=h.1
      rw [show (pre++q::L).drop (pre.length+1)=L by rw [show pre++q::L=(pre++[q])++L by simp,show pre.length+1=(pre++[q]).length by simp,List.drop_left]] at this
      exact List.all_eq_true.1 this r hr
    · rw [show pre++[q]++L=pre++q::L by simp,show (pre++[q]).length=pre.length+1 by simp]
      exact h.2
variable {D:List Deferred} {op:Opt} {n:Nat} {ops:Array Oper} {x0:Cx} {Q:Ex→(Nat→V)→aF→Prop} {T:Nat→V} {H:aF}
theorem aFs {L : List (Nat × SO)} {ps : List Ap4} {ops0 : List SO} {K : (Nat → V) → aF → Prop} (hK : ∀ T H, K T H → ddB ps ops0 T = true ∧ Q .norm T H) (hpw : L.Pairwise (PR (Region.before ops) ps)) (hse : ∀ q ∈ L, seB q.2 = true ∧ q.2 ∈ ops0)
    (hslim: ∀ q∈L,∃ o,ops[q.1]?=some o∧kG P op n ops o=some q.2) (hall: ∀ i,i < ops.size→ ∃ q∈L,q.1=i)
    (hlt: ∀ (i:Nat) (o:Oper),ops[i]?=some o→ ∀ e∈o.after,Region.binds .any e=true→e.on < i):
    ∀ (fuel : Nat) (listed : Array Bool) (a : Act) (w : World), listed.size = ops.size → ((List.range ops.size).filter fun i => !(SL listed i)).length ≤ fuel →
      (∀ (i:Nat) (o:Oper),ops[i]?=some o→SL listed i=true→ ∀ e∈o.after,Region.binds .any e=true→SL listed e.on=true)→
      (∃ (T:Nat→V) (y:Cx),y.w=w∧Ops P k0 ((L.filter fun q=> !(SL listed q.1)).map (·.2)) T y.H K∧Inv y∧TRel D n y T a∧Frame x0 y)→
      wpAny P .any ops (jK D n x0 Q) fuel listed a w:=by
  obtain ⟨hbs,hbefore⟩:=sW ops
  have done : ∀ (listed : Array Bool) (a : Act) (w : World), listed.size = ops.size → Region.ready .any ops listed = [] →
      (∃ (T:Nat→V) (y:Cx),y.w=w∧Ops P k0 ((L.filter fun q=> !(SL listed q.1)).map (·.2)) T y.H K∧Inv y∧TRel D n y T a∧Frame x0 y)→jK D n x0 Q .normal a w:=by
    intro listed a w hsz hr ⟨T,y,hyw,hO,hyI,hyT,hyF⟩
    have all: ∀ i,i < ops.size→SL listed i=true:=by
      intro i
      induction i using Nat.strongRecOn with
      | _ i ih =>
        intro hi
        rcases hb:SL listed i with _|_
        · exfalso
          have hmem:i∈Region.ready .any ops listed:=mem_ready.2 ⟨by
            unfold SL at hb
            have hi':i < listed.size:=by omega
            simp [hi'] at hb ⊢
            exact hb,ops[i],Array.getElem?_eq_getElem hi,fun e he hbd=>by
              have h1:=hlt i ops[i] (Array.getElem?_eq_getElem hi) e he hbd
              exact ih e.on h1 (by omega)⟩
          rw [hr] at hmem; cases hmem
        · rfl
    have hnil:(L.filter fun q=> !(SL listed q.1))=[]:=List.filter_eq_nil_iff.2 fun q hq=>by
      obtain ⟨o,ho,_⟩:=hslim q hq
      simp [all _ (Array.getElem?_eq_some_iff.1 ho).1]
    rw [hnil] at hO
    exact ⟨.norm,T,y,rfl,hyw,(hK _ _ hO).2,hyI,hyT,hyF⟩
  intro fuel
  induction fuel with
  | zero =>
    intro listed a w hsz hcnt hcl hst
    have hr:Region.ready .any ops listed=[]:=by
      rw [List.eq_nil_iff_forall_not_mem]
      intro i hi
      obtain ⟨h0,o,ho,_⟩:=mem_ready.1 hi
      have hlt':i < ops.size:=(Array.getElem?_eq_some_iff.1 ho).1
      have hnil:(List.range ops.size).filter (fun i=> !(SL listed i))=[]:=List.eq_nil_of_length_eq_zero (by omega)
      have:i∈(List.range ops.size).filter (fun i=> !(SL listed i)):=List.mem_filter.2 ⟨List.mem_range.2 hlt',by
        unfold SL
        have hi':i < listed.size:=by omega
        simp [hi'] at h0 ⊢
        exact h0⟩
      rw [hnil] at this; cases this
    exact ⟨hr,done listed a w hsz hr hst⟩
  | succ fuel ih =>
    intro listed a w hsz hcnt hcl hst
    refine ⟨fun hr=>done listed a w hsz hr hst,fun i hi=>?_⟩
    obtain ⟨h0,o,ho,hedge⟩:=mem_ready.1 hi
    have hilt:i < ops.size:=(Array.getElem?_eq_some_iff.1 ho).1
    have hSi:SL listed i=false:=by
      unfold SL
      have hi':i < listed.size:=by omega
      simp [hi'] at h0 ⊢
      exact h0
    obtain ⟨r,hr,hri⟩:=hall i hilt
    subst hri
    obtain ⟨T,y,hyw,hO,hyI,hyT,hyF⟩:=hst
    have hrf:r∈L.filter fun q=> !(SL listed q.1):=List.mem_filter.2 ⟨hr,by simp [hSi]⟩
    obtain ⟨u,v,huv⟩:=List.append_of_mem hrf
    have hpf:(u++r::v).Pairwise (PR (Region.before ops) ps):=by rw [← huv]; exact hpw.sublist List.filter_sublist
    have hin: ∀ q∈u++r::v,q∈L∧SL listed q.1=false:=fun q hq=>by
      rw [← huv] at hq
      obtain ⟨h1,h2⟩:=List.mem_filter.1 hq
      exact ⟨h1,by simpa using h2⟩
    have closed: ∀ (k:Nat) (o':Oper),ops[k]?=some o'→(∀ e∈o'.after,Region.binds .any e=true→SL listed e.on=true)→ ∀ j,dO (Region.before ops) k j=true→SL listed j=true:=by
      intro k
      induction k using Nat.strongRecOn with
      | _ k ihk =>
        intro o' ho' hed j hj
        obtain ⟨e,he,hb,h1|⟨h1,h2⟩⟩:=hbefore k o' ho' j hj
        · rw [← h1]; exact hed e he hb
        · have hle:e.on < ops.size:=by have:=(Array.getElem?_eq_some_iff.1 ho').1; omega
          exact ihk e.on h1 _ (Array.getElem?_eq_getElem hle) (hcl e.on _ (Array.getElem?_eq_getElem hle) (hed e he hb)) j h2
    have hanc:=closed r.1 o ho fun e he hb=>by have:=hedge e he hb; exact this
    have hn: ∀ q∈u,dO (Region.before ops) r.1 q.1=false:=fun q hq=>by
      rcases hb:dO (Region.before ops) r.1 q.1 with _|_
      · rfl
      · have:=hanc _ hb; rw [(hin q (by simp [hq])).2] at this; cases this
    rw [huv] at hO
    have hO2:=aMI (fun T H h=>(hK T H h).1) hpf (fun q hq=>hse q (hin q hq).1) hn hO
    have hrest:(L.filter fun q=> !(SL (listed.setIfInBounds r.1 true) q.1))=u++v:=by
      have e:(L.filter fun q=> !(SL (listed.setIfInBounds r.1 true) q.1))=(L.filter fun q=> !(SL listed q.1)).filter fun q=>q.1 != r.1:=by
        rw [List.filter_filter]
        refine List.filter_congr fun q _=>?_
        rw [aDJ (by omega),Bool.not_or,Bool.and_comm]; rfl
      rw [e,huv,List.filter_append,List.filter_cons_of_neg (by simp)]
      have hu: ∀ q∈u,(q.1 != r.1)=true:=fun q hq=>by
        have:=(List.pairwise_append.1 hpf).2.2 q hq r (by simp)
        simpa using this.ne
      have hv: ∀ q∈v,(q.1 != r.1)=true:=fun q hq=>by
        have:=(List.pairwise_cons.1 (List.pairwise_append.1 hpf).2.1).1 q hq
        simpa using Ne.symm this.ne
      rw [List.filter_eq_self.2 hu,List.filter_eq_self.2 hv]
    obtain ⟨o',ho',hso⟩:=hslim r hr
    have hoo:o'=o:=by have:=ho'.symm.trans ho; simpa using this
    subst hoo
    obtain ⟨s1,s2,s3,s4⟩:=nJ hso
    have hg:r.2.g=none:=by have:=(hse r hr).1; unfold seB at this; simp only [Bool.and_eq_true,Option.isNone_iff_eq_none] at this; exact this.1.1
    have hS': ∀ j,SL (listed.setIfInBounds r.1 true) j=(SL listed j||j==r.1):=aDJ (by omega)
    have hsz':(listed.setIfInBounds r.1 true).size=ops.size:=by simpa using hsz
    have hcnt':((List.range ops.size).filter fun i=> !(SL (listed.setIfInBounds r.1 true) i)).length≤fuel:=by
      have e:(List.range ops.size).filter (fun i=> !(SL (listed.setIfInBounds r.1 true) i))=((List.range ops.size).filter fun i=> !(SL listed i)).filter (fun j=>j != r.1):=by
        rw [List.filter_filter]
        refine List.filter_congr fun j _=>?_
        rw [hS',Bool.not_or,Bool.and_comm]
        rfl
      have hmem:r.1∈(List.range ops.size).filter fun i=> !(SL listed i):=List.mem_filter.2 ⟨List.mem_range.2 hilt,by rw [hSi]; rfl⟩
      have:=(List.length_filter_lt_length_iff_exists (p:=fun j=>j != r.1)).2 ⟨r.1,hmem,by simp⟩
      rw [e]; omega
    have hcl': ∀ (i:Nat) (o:Oper),ops[i]?=some o→SL (listed.setIfInBounds r.1 true) i=true→ ∀ e∈o.after,Region.binds .any e=true→SL (listed.setIfInBounds r.1 true) e.on=true:=by
      intro k ok hk hs e he hb
      rw [hS'] at hs ⊢
      rw [Bool.or_eq_true] at hs ⊢
      rcases hs with hs|hs
      · exact .inl (hcl k ok hk hs e he hb)
      · have:k=r.1:=by simpa using hs
        subst this
        have:ok=o':=by have:=hk.symm.trans ho; simpa using this
        subst this
        exact .inl (hedge e he hb)
    simp only [List.map_cons,Ops,hg] at hO2
    unfold wpOp
    simp only [ho]
    rcases s4 with ⟨hgo,hsg⟩|⟨j,want,t,hgo,hj,hsg⟩
    · have hw:Region.wanted o' (yielded ops a.tmps)=true:=by simp [Region.wanted,hgo]
      rw [if_pos hw,← hyw]
      refine .inl (nH s3 hO2 hyI hyT.tmps fun v0 c z hk hzI hzR hzF=>?_)
      refine ih _ _ _ hsz' hcnt' hcl' ⟨_,z,rfl,by rw [hrest]; exact hk,hzI,?_,hyF.trans hzF⟩
      have:=(hyT.frame hyI hzF).put s2 hzR
      rw [show r.2.d=o'.dst from s1]
      exact this
    · rw [hg] at hsg; cases hsg
theorem aGR {id:Nat} {L:List (Nat×SO)} {ps:List Ap4} (hslim: ∀ q∈L,∃ o,ops[q.1]?=some o∧kG P op n ops o=some q.2) (hB:aDz P ps ops L=true)
    {x:Cx} {T:Nat→V} {a:Act} (h:Ops P k0 (L.map (·.2)) T x.H fun T H=>ddB ps (L.map (·.2)) T=true∧Q .norm T H) (hx:Inv x) (hT:TRel D n x T a) (hF:Frame x0 x):
    (Code.region id ops true).wp P (jK D n x0 Q) a x.w:=by
  unfold aDz at hB
  simp only [Bool.and_eq_true] at hB
  obtain ⟨⟨⟨⟨b1,b2⟩,b3⟩,b4⟩,b5⟩:=hB
  obtain ⟨dI,dF⟩:=fI hx (x.w.drawn+1) (Nat.le_succ _)
  refine wp_region_any b1 ?_
  have hnone: ∀ j,SL (Array.replicate ops.size false) j=false:=fun j=>by
    unfold SL
    rw [Array.getD_eq_getD_getElem?,Array.getElem?_replicate]
    split <;> rfl
  refine aFs (k0:=k0) (L:=L) (ps:=ps) (ops0:=L.map (·.2)) (fun _ _ h=>h) (aBK (pre:=[]) (by simpa using b2)) (fun q hq=>⟨List.all_eq_true.1 b5 q hq,List.mem_map_of_mem hq⟩) hslim (fun i hi=>?_) (fun i o ho e he hb=>?_) ops.size _ a _ (by simp) (by
      refine Nat.le_trans (List.length_filter_le _ _) (by simp)) (fun i o ho hs=>by rw [hnone] at hs; cases hs) ⟨T,{x with w:={x.w with drawn:=x.w.drawn+1}},rfl,?_,dI,hT.frame hx dF,hF.trans dF⟩
  · have:=List.all_eq_true.1 b3 i (List.mem_range.2 hi)
    obtain ⟨q,hq,he⟩:=List.any_eq_true.1 this
    exact ⟨q,hq,by simpa using he⟩
  · have:=List.all_eq_true.1 b4 (o,i) (by
      rw [List.mk_mem_zipIdx_iff_getElem?]
      simpa using ho)
    have:=Array.all_eq_true_iff_forall_mem.1 this e he
    simpa [hb] using this
  · rw [List.filter_eq_self.2 fun q _=>by rw [hnone]; rfl]
    exact h
end
end Go.Proofs.YtmnnhjhkaepbaaaGreat


namespace Go.Proofs.YtmnnhjhkaepbaaaGreat
open Go
def aHB (L0:List SO) (ord:List Nat):List (Nat×SO):=ord.filterMap fun i=>(L0[i]?).map fun s=>(i,s)
def aNT (ops : Array Oper) (L0 : List SO) : Nat → List Nat → List Nat
  |0,acc=>acc.reverse
  | fuel + 1, acc =>
    let rd:=(List.range ops.size).filter fun i=> !(acc.contains i)&&((ops[i]?).map fun o=>o.after.all fun e=> !(Region.binds .any e)||acc.contains e.on).getD false
    match rd.find? (fun i=>((L0[i]?).map fun s=>s.x.cls != .A).getD false) with
    |some i=>aNT ops L0 fuel (i::acc)
    | none => match rd with
      |i::_=>aNT ops L0 fuel (i::acc)
      |[]=>acc.reverse
def qD (P : Program) (ops : Array Oper) (L0 : List SO) (ord : List Nat) : Option SC :=
  let L:=aHB L0 ord
  if aHY P ops L then match kW (Region.before ops) [] L with
    |[]=>some (.reg (L.map (·.2)))
    |l=>some (.dreg l (L.map (·.2)))
  else none
def aMr (b : Array Nat) : List (Nat × SO) → List Ap4
  |[]=>[]
  | q :: l => (l.filterMap fun r => if dO b r.1 q.1 then none else match q.2.pt, r.2.pt with
    |some p,some p'=>if q.2.mv||r.2.mv then some (p.1,p.2,p'.1,p'.2) else none
    |_,_=>none)++aMr b l
def rS (P:Program) (ops:Array Oper) (L0:List SO) (ord:List Nat):Option SC:=
  let L:=aHB L0 ord
  let ps:=aMr (Region.before ops) L
  if aDz P ps ops L then some (.xreg ps (L.map (·.2))) else none
def uA (L:List SO):Option SC→SC
  |none=>.reg L
  |some c=>.seq (.reg L) c
def tT (P : Program) (op : Opt) (n : Nat) (ops : Array Oper) : List Oper → Option (List SO × Option SC)
  |[]=>some ([],none)
  | o :: l => match tT P op n ops l with
    |none=>none
    | some (L, r) => match aLr op o with
      |some px=>if o.guard.isNone&&aJM n o.dst then some ([],some (.seq (.pop o.dst px) (uA L r))) else none
      |none=>(kG P op n ops o).map fun s=>(s::L,r)
def aAK (P : Program) (op : Opt) (n : Nat) (ops : Array Oper) (draw : Bool) : Option SC :=
  if (!draw&&ops.any fun o=>(aLr op o).isSome)=true then (tT P op n ops ops.toList).map fun p=>uA p.1 p.2
  else match fL (kG P op n ops) ops.toList with
  |none=>none
  | some L0 => if draw = false then some (.reg L0) else match qD P ops L0 (List.range ops.size) with
    |some s=>some s
    | none => match qD P ops L0 (aNT ops L0 ops.size []) with
      |some s=>some s
      |none=>rS P ops L0 (List.range ops.size)
def xK (P : Program) (op : Opt) (n : Nat) : Code → Option SC
  | .skip=>some .skip
  | .ret=>some .ret
  | .exit id=>some (.exit id)
  | .region _ ops draw=>aAK P op n ops draw
  | .seq a b => match xK P op n a, xK P op n b with
    |some a,some b=>some (.seq a b)
    |_,_=>none
  | .cond c a b => match sx c, xK P op n a, xK P op n b with
    |some c,some a,some b=>some (.cond c a b)
    |_,_,_=>none
  | .block id a=>(xK P op n a).map (.block id)
  | .loop a=>(xK P op n a).map .loop
  |_=>none
section
variable {P:Program} {D:List Deferred} {k0:Nat} {op:Opt} {n:Nat}
theorem oL {ops:Array Oper} {L0:List SO} (h:fL (kG P op n ops) ops.toList=some L0) (ord:List Nat): ∀ q∈aHB L0 ord,∃ o,ops[q.1]?=some o∧kG P op n ops o=some q.2:=by
  intro q hq
  obtain ⟨i,_,h1⟩:=List.mem_filterMap.1 hq
  obtain ⟨s,h2,rfl⟩:=map_some h1
  obtain ⟨_,h3⟩:=fH h
  obtain ⟨o,h4,h5⟩:=h3 i s h2
  exact ⟨o,by simpa using h4,h5⟩
theorem mB {ops:Array Oper} {L0:List SO} (h:fL (kG P op n ops) ops.toList=some L0) {ord:List Nat} {s:SC} (hs:qD P ops L0 ord=some s) {id:Nat} {x0 x:Cx} {Q:Ex→(Nat→V)→aF→Prop} {T:Nat→V} {a:Act}
    (hW:W P k0 s Q T x.H) (hx:Inv x) (hT:TRel D n x T a) (hF:Frame x0 x):(Code.region id ops true).wp P (jK D n x0 Q) a x.w:=by
  unfold qD at hs
  simp only at hs
  split at hs
  · rename_i hB
    split at hs
    · rename_i hl
      cases hs
      obtain ⟨k1,hW⟩:=hW
      exact aE3 (k0:=k1) (oL h ord) hB (by rw [hl]; intro d hd; cases hd) hW hx hT hF
    · cases hs
      obtain ⟨k1,hW⟩:=hW
      exact aE3 (k0:=k1) (oL h ord) hB hW.1 hW.2 hx hT hF
  · cases hs
theorem tC {ops:Array Oper} {L0:List SO} (h:fL (kG P op n ops) ops.toList=some L0) {ord:List Nat} {s:SC} (hs:rS P ops L0 ord=some s) {id:Nat} {x0 x:Cx} {Q:Ex→(Nat→V)→aF→Prop} {T:Nat→V} {a:Act}
    (hW:W P k0 s Q T x.H) (hx:Inv x) (hT:TRel D n x T a) (hF:Frame x0 x):(Code.region id ops true).wp P (jK D n x0 Q) a x.w:=by
  unfold rS at hs
  simp only at hs
  split at hs
  · rename_i hB
    cases hs
    obtain ⟨k1,hW⟩:=hW
    exact aGR (k0:=k1) (oL h ord) hB hW hx hT hF
  · cases hs
theorem aG8 {d:Option Nat} {f:Nat} {args:List V} {x0 x:Cx} {Q:Ex→(Nat→V)→aF→Prop} {T:Nat→V} {a:Act} {o:Oper} {cs:List Value} (hd:o.dst=d) (hdn: ∀ e,o.dst=some e→e < n)
    {Qw:Ex→(Nat→V)→aF→Prop} (hQ: ∀ c T H,Qw (.pan c) T H→Q (.pan c) T H) (h:Pop P d f args Qw T x.H) (hx:Inv x) (hT:TRel D n x T a) (hF:Frame x0 x) (hr:RL x args cs) (he:(execOp a.eval o).run P x.w=.ok (.enter f cs.toArray) x.w) {next:Act→World→Prop}
    (hn: ∀ (T':Nat→V) (a':Act) (y:Cx),Qw .norm T' y.H→Inv y→TRel D n y T' a'→Frame x0 y→next a' y.w):o.wp P a x.w next (jK D n x0 Q):=by
  obtain ⟨r,hc,hq⟩:=h
  unfold Oper.wp
  rw [he,Oper.upon_enter]
  cases r with
  | ok v H' =>
    refine (hc.2 x cs rfl hx hr).mono fun e w' hp=>?_
    obtain ⟨c,y,rfl,rfl,h1,h2,h3,h4⟩:=hp
    subst hd
    exact hn (eY T o.dst v) _ y (by rw [h1]; exact hq) h2 ((hT.frame hx h4).put hdn h3) (hF.trans h4)
  | pan c S =>
    refine (hc.2 x cs rfl hx hr).mono fun e w' hp=>?_
    obtain ⟨y,rfl,rfl,h1,h2,h4⟩:=hp
    exact ⟨.pan c,T,y,rfl,rfl,hQ c T y.H (hq y.H h1),h2,hT.frame hx h4,hF.trans h4⟩
theorem aI4 {o : Oper} {px : PX} (hp : aLr op o = some px) {x0 x : Cx} {Q : Ex → (Nat → V) → aF → Prop} {T : Nat → V} {a : Act} (hdn : ∀ e, o.dst = some e → e < n)
    {Qw:Ex→(Nat→V)→aF→Prop} (hQ: ∀ c T H,Qw (.pan c) T H→Q (.pan c) T H) (h:W P k0 (.pop o.dst px) Qw T x.H) (hx:Inv x) (hT:TRel D n x T a) (hF:Frame x0 x) {next:Act→World→Prop}
    (hn: ∀ (T':Nat→V) (a':Act) (y:Cx),Qw .norm T' y.H→Inv y→TRel D n y T' a'→Frame x0 y→next a' y.w):o.wp P a x.w next (jK D n x0 Q):=by
  unfold aLr at hp
  split at hp
  · rename_i p ho
    obtain ⟨s,hs,rfl⟩:=map_some hp
    simp only [W] at h
    have hR:=bX hT.tmps hs
    split at h
    · rename_i ty c hc
      rw [hc] at hR
      have e:a.eval p=.iface ty c:=by
        generalize hv:a.eval p=v at hR
        cases hR; rfl
      unfold Oper.wp
      have hrun:(execOp a.eval o).run P x.w=.halt (.panic (.iface ty c)) x.w:=by
        simp [execOp,ho,e,Instr.panic,goPanic]
      rw [hrun,Oper.upon_panic]
      exact ⟨.pan (.iface ty c),T,x,rfl,rfl,hQ _ _ _ h,hx,hT,hF⟩
    · exact h.elim
  · rename_i f args tys ho
    have run: ∀ (g:Nat) (fs cs:Array Value),a.eval f=.func (.func g) fs cs→cG P g→(execOp a.eval o).run P x.w=.ok (.enter g (fs.toList++args.toList.map a.eval++cs.toList).toArray) x.w:=by
      intro g fs cs hf hg
      have h1:(fs++args.map a.eval++cs)=(fs.toList++args.toList.map a.eval++cs.toList).toArray:=by simp
      simp only [execOp,ho,resolve,hf,Deferred.ofValue,Sem.run_bind,Sem.run_pure,Result.andThen_ok,invoke,qJ hg,h1]
    have cb: ∀ {d:Option Nat} {g:Nat} {asq:List V} {T:Nat→V},Pop P d g asq Qw T x.H→cG P g:=fun hp=>by
      obtain ⟨r,hc,_⟩:=hp
      cases r <;> exact hc.1
    split at hp
    · rename_i g us hf has
      split at hp
      · cases hp
        simp only [W] at h
        have hfR:=bX hT.tmps hf
        have hnil: ∀ (cs:Array Value),cs.size=([]:List V).length→cs=#[]:=fun cs h=>by
          apply Array.eq_empty_of_size_eq_zero; simpa using h
        cases hfv:a.eval f with
        | func fn fs cs =>
          rw [hfv] at hfR
          cases hfR with
          | fn _ _ _ _ _ h1 h2 _ _ =>
            have e1:=hnil _ h1
            have e2:=hnil _ h2
            subst e1; subst e2
            refine aG8 rfl hdn hQ h hx hT hF (rI hT.tmps has) ?_ hn
            have:=run g #[] #[] hfv (cb h)
            simpa using this
        |_=>rw [hfv] at hfR; cases hfR
      · cases hp
    · rename_i t us hf has
      split at hp
      · rename_i d hdd
        split at hp
        · cases hp
          simp only [W,aQf] at h
          have hfR:=bX hT.tmps hf
          simp only [aQf] at hfR
          split at h
          · rename_i g first caps hTn
            rw [hTn] at hfR
            cases hfv:a.eval f with
            | func fn fs cs =>
              rw [hfv] at hfR
              cases hfR with
              | fn _ _ _ _ _ h1 h2 h3 h4 =>
                exact aG8 rfl hdn hQ h hx hT hF (((aAk h1 h3).append (rI hT.tmps has)).append (aAk h2 h4)) (run g fs cs hfv (cb h)) hn
            |_=>rw [hfv] at hfR; cases hfR
          · exact h.elim
        · cases hp
      · cases hp
    · cases hp
  · cases hp
def aHa (P:Program) (k0:Nat) (Q:Ex→(Nat→V)→aF→Prop):Option SC→(Nat→V)→aF→Prop
  |none=>Q .norm
  |some c=>G (W P k0 c Q)
theorem yZ {k0:Nat} {Q:Ex→(Nat→V)→aF→Prop} {L:List SO} {r:Option SC} {T:Nat→V} {H:aF} (h:W P k0 (uA L r) Q T H): ∃ k1,Ops P k1 L T H (aHa P k0 Q r):=by
  cases r with
  |none=>exact h
  |some c=>exact h
theorem iH {ops : Array Oper} {x0 : Cx} {Q : Ex → (Nat → V) → aF → Prop} : ∀ (l : List Oper) (L : List SO) (r : Option SC), tT P op n ops l = some (L, r) →
    ∀ (k1:Nat) (x:Cx) (T:Nat→V) (a:Act),Ops P k1 L T x.H (aHa P k0 Q r)→Inv x→TRel D n x T a→Frame x0 x→wpList P ops (jK D n x0 Q) l a x.w
  | [], L, r, hL, k1, x, T, a, h, hx, hT, hF => by
    cases hL
    exact ⟨.norm,T,x,rfl,rfl,h,hx,hT,hF⟩
  | o :: l, L, r, hL, k1, x, T, a, h, hx, hT, hF => by
    simp only [tT] at hL
    split at hL
    · cases hL
    rename_i L' r' hl
    split at hL
    · rename_i px hpx
      split at hL
      · rename_i hg
        cases hL
        simp only [Bool.and_eq_true,Option.isNone_iff_eq_none] at hg
        obtain ⟨hg1,hg2⟩:=hg
        have hdn: ∀ e,o.dst=some e→e < n:=fun e he=>by rw [he] at hg2; simpa [aJM] using hg2
        simp only [wpList]
        have hw:Region.wanted o (yielded ops a.tmps)=true:=by simp [Region.wanted,hg1]
        rw [if_pos hw]
        obtain ⟨T1,y,hyw,hW,hy,hTy,hFy⟩:=aAs h x rfl hx hT hF
        rw [← hyw]
        refine .inl (aI4 (k0:=k0) (Q:=Q) (Qw:=fun e T H=>match e with
          | .norm=>G (W P k0 (uA L' r') Q) T H
          |e=>Q e T H) hpx hdn (fun c T H h=>h) hW hy hTy hFy ?_)
        intro T' a' z hq hz hTz hFz
        · obtain ⟨T2,u,huw,hW2,hu,hTu,hFu⟩:=aAs hq z rfl hz hTz hFz
          obtain ⟨k2,hW3⟩:=yZ hW2
          rw [← huw]
          exact iH l L' r' hl k2 u T2 a' hW3 hu hTu hFu
      · cases hL
    · obtain ⟨s,hs,hsL⟩:=map_some hL
      cases hsL
      obtain ⟨h1,h2,h3,h4⟩:=nJ hs
      have run:St P (k1+s.d.getD 0) s.x T x.H (fun v H'=>Ops P k1 L' (eY T s.d v) H' (aHa P k0 Q r))→o.wp P a x.w (wpList P ops (jK D n x0 Q) l) (jK D n x0 Q):=fun hst=>
        nH h3 hst hx hT.tmps fun v c y hk hy hr hf=>by
          rw [h1] at hk
          exact iH l L' r hl k1 y _ _ hk hy ((hT.frame hx hf).put h2 hr) (hF.trans hf)
      simp only [wpList]
      rcases h4 with ⟨hg,hsg⟩|⟨j,want,t,hg,hj,hsg⟩
      · have hw:Region.wanted o (yielded ops a.tmps)=true:=by simp [Region.wanted,hg]
        rw [if_pos hw]
        simp only [Ops,hsg] at h
        exact .inl (run h)
      · simp only [Ops,hsg] at h
        obtain ⟨hyes,hno⟩:=h
        have hy:=rK hT hj want
        have hwe:Region.wanted o (yielded ops a.tmps)=gd want (T t):=by simp only [Region.wanted,hg]; exact hy
        cases hbw:gd want (T t) with
        | true =>
          rw [if_pos (by rw [hwe,hbw])]
          exact .inl (run (hyes hbw))
        | false =>
          rw [if_neg (by rw [hwe,hbw]; simp)]
          have:=hno hbw
          rw [h1] at this
          exact iH l L' r hl k1 x _ _ this hx (hT.put h2 (.raw undef rfl)) hF
theorem xP {ops : Array Oper} {draw : Bool} {s : SC} (hs : aAK P op n ops draw = some s) {id : Nat} {x0 x : Cx} {Q : Ex → (Nat → V) → aF → Prop} {T : Nat → V} {a : Act}
    (hW:W P k0 s Q T x.H) (hx:Inv x) (hT:TRel D n x T a) (hF:Frame x0 x):(Code.region id ops draw).wp P (jK D n x0 Q) a x.w:=by
  unfold aAK at hs
  split at hs
  · rename_i hB
    obtain ⟨⟨L,r⟩,hL,rfl⟩:=map_some hs
    obtain ⟨k1,hW⟩:=yZ hW
    have hd:draw=false:=by simp only [Bool.and_eq_true,Bool.not_eq_true'] at hB; exact hB.1
    subst hd
    refine wp_region ?_
    have:=iH (x0:=x0) (Q:=Q) ops.toList L r hL k1 x T a hW hx hT hF
    have e:=wpOps_eq_wpList (P:=P) (ops:=ops) (Q:=jK D n x0 Q) ops.toList 0 (fun j=>by simp)
    rw [← e] at this
    rwa [List.range_eq_range',show ops.size=ops.toList.length by simp]
  split at hs
  · cases hs
  · rename_i L0 hL0
    split at hs
    · rename_i hd
      cases hs
      subst hd
      obtain ⟨k1,hW⟩:=hW
      refine wp_region ?_
      have:=rM (k0:=k1) (x0:=x0) (Q:=Q) ops.toList L0 hL0 x T a hW hx hT hF
      have e:=wpOps_eq_wpList (P:=P) (ops:=ops) (Q:=jK D n x0 Q) ops.toList 0 (fun j=>by simp)
      rw [← e] at this
      rwa [List.range_eq_range',show ops.size=ops.toList.length by simp]
    · rename_i hd
      have hd':draw=true:=by simpa using hd
      subst hd'
      split at hs
      · rename_i s' hs'
        cases hs
        exact mB hL0 hs' hW hx hT hF
      · split at hs
        · rename_i s' hs'
          cases hs
          exact mB hL0 hs' hW hx hT hF
        · exact tC hL0 hs hW hx hT hF
theorem lF {l:List PanicEntry} {e:Ex} (h:aQ6 (.panic l)=some e): ∃ c,e=.pan c:=by
  simp only [aQ6] at h
  split at h
  · cases h; exact ⟨_,rfl⟩
  · cases h
theorem aKN : ∀ (c : Code) (s : SC), xK P op n c = some s → ∀ (Q : Ex → (Nat → V) → aF → Prop) (x0 x : Cx) (T : Nat → V) (a : Act),
    W P k0 s Q T x.H→Inv x→TRel D n x T a→Frame x0 x→c.wp P (jK D n x0 Q) a x.w:=by
  intro c
  induction c with
  | skip =>
    intro s hs Q x0 x T a hW hx hT hF
    cases hs
    exact wp_skip ⟨.norm,T,x,rfl,rfl,hW,hx,hT,hF⟩
  | ret =>
    intro s hs Q x0 x T a hW hx hT hF
    cases hs
    exact wp_ret ⟨.ret,T,x,rfl,rfl,hW,hx,hT,hF⟩
  | exit id =>
    intro s hs Q x0 x T a hW hx hT hF
    cases hs
    exact wp_exit ⟨.exit id,T,x,rfl,rfl,hW,hx,hT,hF⟩
  | region id ops draw =>
    intro s hs Q x0 x T a hW hx hT hF
    exact xP hs hW hx hT hF
  | seq c1 c2 ih1 ih2 =>
    intro s hs Q x0 x T a hW hx hT hF
    simp only [xK] at hs
    split at hs
    · rename_i s1 s2 h1 h2
      cases hs
      refine wp_seq (wp_mono (ih1 s1 h1 _ x0 x T a hW hx hT hF) ?_)
      intro e a' w' hp
      obtain ⟨e',T',y,he,hw,hq,hy,hT',hF'⟩:=hp
      cases e with
      | normal =>
        cases he
        obtain ⟨T2,z,hz,hK,hzI,hzT,hzF⟩:=aAs hq y rfl hy hT' hF'
        simp only [Exit.then]
        rw [← hw,← hz]
        exact ih2 s2 h2 Q x0 z T2 a' hK hzI hzT hzF
      |ret=>cases he; exact ⟨.ret,T',y,rfl,hw,hq,hy,hT',hF'⟩
      |exit id=>cases he; exact ⟨.exit id,T',y,rfl,hw,hq,hy,hT',hF'⟩
      |goto l=>cases he
      |panic l=>obtain ⟨c,rfl⟩:=lF he; exact ⟨.pan c,T',y,he,hw,hq,hy,hT',hF'⟩
      |outgrown=>cases he
    · cases hs
  | cond c c1 c2 ih1 ih2 =>
    intro s hs Q x0 x T a hW hx hT hF
    simp only [xK] at hs
    split at hs
    · rename_i sc s1 s2 hc h1 h2
      cases hs
      simp only [W,aN] at hW
      obtain ⟨b,hb,hyes,hno⟩:=hW
      have hv:=aKS hb (bX hT.tmps hc)
      refine wp_cond_split hv (fun ht=>ih1 s1 h1 Q x0 x T a (hyes ht) hx hT hF) (fun hf=>ih2 s2 h2 Q x0 x T a (hno hf) hx hT hF)
    · cases hs
  | block id c ih =>
    intro s hs Q x0 x T a hW hx hT hF
    obtain ⟨s1,h1,rfl⟩:=map_some hs
    refine wp_block (wp_mono (ih s1 h1 _ x0 x T a hW hx hT hF) ?_)
    intro e a' w' hp
    obtain ⟨e',T',y,he,hw,hq,hy,hT',hF'⟩:=hp
    cases e with
    |normal=>cases he; exact ⟨.norm,T',y,rfl,hw,hq,hy,hT',hF'⟩
    |ret=>cases he; exact ⟨.ret,T',y,rfl,hw,hq,hy,hT',hF'⟩
    | exit id' =>
      cases he
      simp only [Exit.inBlock]
      simp only at hq
      split at hq
      · rename_i h; rw [if_pos h]; exact ⟨.norm,T',y,rfl,hw,hq,hy,hT',hF'⟩
      · rename_i h; rw [if_neg h]; exact ⟨.exit id',T',y,rfl,hw,hq,hy,hT',hF'⟩
    |goto l=>cases he
    |panic l=>obtain ⟨c,rfl⟩:=lF he; exact ⟨.pan c,T',y,he,hw,hq,hy,hT',hF'⟩
    |outgrown=>cases he
  | loop c ih =>
    intro s hs Q x0 x T a hW hx hT hF
    obtain ⟨s1,h1,rfl⟩:=map_some hs
    simp only [W] at hW
    obtain ⟨I,m,hI,hround⟩:=hW
    refine wp_loop_ghost (fun k a w=> ∃ T y,y.w=w∧I k T y.H∧Inv y∧TRel D n y T a∧Frame x0 y) m ⟨T,x,rfl,hI,hx,hT,hF⟩ ?_
    intro k a' w' ⟨T',y,hw,hI',hy,hT',hF'⟩
    subst hw
    refine wp_mono (ih s1 h1 _ x0 y T' a' (hround k T' y.H hI') hy hT' hF') ?_
    intro e a2 w2 hp
    obtain ⟨e',T2,z,he,hw,hq,hz,hT2,hF2⟩:=hp
    cases e with
    | normal =>
      cases he
      obtain ⟨j,hj,hIj⟩:=hq
      exact ⟨j,hj,T2,z,hw,hIj,hz,hT2,hF2⟩
    |ret=>cases he; exact ⟨.ret,T2,z,rfl,hw,hq,hz,hT2,hF2⟩
    |exit id=>cases he; exact ⟨.exit id,T2,z,rfl,hw,hq,hz,hT2,hF2⟩
    |goto l=>cases he
    |panic l=>obtain ⟨c,rfl⟩:=lF he; exact ⟨.pan c,T2,z,he,hw,hq,hz,hT2,hF2⟩
    |outgrown=>cases he
  |_=>intro s hs; cases hs
end
end Go.Proofs.YtmnnhjhkaepbaaaGreat


namespace Go.Proofs.YtmnnhjhkaepbaaaGreat
open Go
def aM (P : Program) (op : Opt) (fn : Func) : Option SF :=
  match fn.body with
  |none=>none
  | some c => match xK P op fn.ntmps c, fL (tQ P fn.ntmps) fn.results.toList with
    |some s,some r=>some ⟨fn.ntmps,r,s⟩
    |_,_=>none
def gP:V:=.raw undef
def T0 (args:List V):Nat→V:=fun i=>args.getD i gP
def nQ (T:Nat→V) (H:aF):SRes→Option V
  | .tmp t=>some (T t)
  | .cell t g m=>(ptr H (T t)).bind (ldV g m)
def nN (res:List SRes) (T:Nat→V) (H:aF):Option V:=match fL (nQ T H) res with
  |some [v]=>some v
  |some vs=>some (.tup vs)
  |none=>none
def Ret (res:List SRes) (K:V→aF→Prop):Ex→(Nat→V)→aF→Prop:=fun e T H=>match e with
  | .exit _=>False
  | .pan _=>False
  |_=>onS (nN res T H) fun v=>K v H
section
variable {P:Program} {k0:Nat} {op:Opt}
theorem aE7 {α β:Type} {f:α→Sem β} {w:World}: ∀ (l:List α) (r:List β),l.length=r.length→(∀ (j:Nat) (a:α) (b:β),l[j]?=some a→r[j]?=some b→(f a).run P w=.ok b w)→(l.mapM f).run P w=.ok r w
  | [], r, h, _ => by cases r with
    |nil=>simp
    |cons b r=>simp at h
  | a :: l, r, h, hf => by
    cases r with
    |nil=>simp at h
    | cons b r =>
      have h1:=hf 0 a b rfl rfl
      have h2:=aE7 l r (by simpa using h) fun j a' b' ha hb=>hf (j+1) a' b' (by simpa using ha) (by simpa using hb)
      simp only [List.mapM_cons,Sem.run_bind,h1,Result.andThen_ok,h2,Sem.run_pure]
def oR (tmps:Array Value):ResultVar→Sem Value
  | .tmp t=>pure (tmps.getD t undef)
  | .cell ad t=>do loadVar t (← asAddr (tmps.getD ad undef))
theorem uP (fn:Func) (tmps:Array Value):results fn tmps=(do
    let vs ← fn.results.mapM (oR tmps)
    pure (if h:vs.size=1 then vs[0] else .tuple vs)):=rfl
theorem aI6 {D : List Deferred} {n : Nat} {rv : ResultVar} {s : SRes} (hs : tQ P n rv = some s) {x : Cx} (hx : Inv x) {T : Nat → V} {a : Act} (hT : TRel D n x T a) {v : V} (hv : nQ T x.H s = some v) :
    ∃ c,(oR a.tmps rv).run P x.w=.ok c x.w∧R x v c:=by
  unfold tQ at hs
  split at hs
  · rename_i t
    split at hs
    · cases hs; cases hv
      exact ⟨_,rfl,hT.tmps t⟩
    · cases hs
  · rename_i t ty
    split at hs
    · rename_i g m hg hm
      split at hs
      · rename_i hc
        cases hs
        obtain ⟨c,h1,h2⟩:=aB9 (P:=P) hx hv (hT.tmps t) hg hm hc.2
        refine ⟨c,?_,h2⟩
        obtain ⟨cs,hp,_⟩:=mG hv
        obtain ⟨ad,f,he,_⟩:=yV hx hp (hT.tmps t)
        simp only [oR]
        rw [he] at h1 ⊢
        simpa [Instr.loadAt,Instr.sureAddr,asAddr] using h1
      · cases hs
    · cases hs
theorem aBJ {D : List Deferred} {fn : Func} {n : Nat} {res : List SRes} (hs : fL (tQ P n) fn.results.toList = some res) {x : Cx} (hx : Inv x) {T : Nat → V} {a : Act} (hT : TRel D n x T a) {v : V} (hv : nN res T x.H = some v) :
    ∃ c,(results fn a.tmps).run P x.w=.ok c x.w∧R x v c:=by
  obtain ⟨g1,g2⟩:=fH hs
  unfold nN at hv
  have key: ∀ (vs:List V),fL (nQ T x.H) res=some vs→ ∃ cs:List Value,RL x vs cs∧(fn.results.mapM (oR a.tmps)).run P x.w=.ok cs.toArray x.w:=by
    intro vs hvs
    obtain ⟨g3,g4⟩:=fH hvs
    have ex: ∀ j,j < vs.length→ ∃ c,R x (vs.getD j gP) c∧ ∀ rv,fn.results.toList[j]?=some rv→(oR a.tmps rv).run P x.w=.ok c x.w:=fun j hj=>by
      obtain ⟨s,hs1,hs2⟩:=g4 j vs[j] (List.getElem?_eq_getElem hj)
      obtain ⟨rv,hr1,hr2⟩:=g2 j s hs1
      obtain ⟨c,hc1,hc2⟩:=aI6 hr2 hx hT hs2
      refine ⟨c,by simpa [hj] using hc2,fun rv' hrv'=>?_⟩
      have:rv'=rv:=by have:=hrv'.symm.trans hr1; simpa using this
      subst this; exact hc1
    have choice: ∃ f:Nat→Value,∀ j,j < vs.length→R x (vs.getD j gP) (f j)∧ ∀ rv,fn.results.toList[j]?=some rv→(oR a.tmps rv).run P x.w=.ok (f j) x.w:=
      ⟨fun j=>if h:j < vs.length then Classical.choose (ex j h) else undef,fun j hj=>by
        simp only [hj,dif_pos]; exact Classical.choose_spec (ex j hj)⟩
    obtain ⟨f,hf⟩:=choice
    refine ⟨(List.range vs.length).map f,⟨by simp,fun j v hj=>?_⟩,?_⟩
    · have hlt:=(List.getElem?_eq_some_iff.1 hj).1
      have h1:=(hf j hlt).1
      have e1:vs.getD j gP=v:=by rw [List.getD_eq_getElem?_getD,hj]; rfl
      have e2:((List.range vs.length).map f).getD j undef=f j:=by simp [hlt]
      rw [e2,← e1]; exact h1
    · rw [Array.mapM_eq_mapM_toList]
      have:=aE7 (P:=P) (w:=x.w) (f:=oR a.tmps) fn.results.toList ((List.range vs.length).map f) (by simp [g3,g1]) (fun j rv b h1 h2=>by
          have hlt:j < vs.length:=by have:=(List.getElem?_eq_some_iff.1 h2).1; simpa using this
          have e2:b=f j:=by simp [hlt] at h2; exact h2.symm
          subst e2
          exact (hf j hlt).2 rv h1)
      simp only [Sem.run_map,this,Result.andThen_ok]
  cases hm:fL (nQ T x.H) res with
  |none=>rw [hm] at hv; cases hv
  | some vs =>
    obtain ⟨cs,hR,hrun⟩:=key vs hm
    have hsz:cs.toArray.size=vs.length:=by simp [hR.1]
    rw [hm] at hv
    by_cases h1:vs.length=1
    · obtain ⟨u,rfl⟩: ∃ u,vs=[u]:=by
        cases vs with
        |nil=>simp at h1
        | cons u l => cases l with
          |nil=>exact ⟨u,rfl⟩
          |cons u' l=>simp at h1
      cases hv
      obtain ⟨c,rfl⟩: ∃ c,cs=[c]:=by
        have:=hR.1
        cases cs with
        |nil=>simp at this
        | cons u l => cases l with
          |nil=>exact ⟨u,rfl⟩
          |cons u' l=>simp at this
      refine ⟨c,?_,hR.2 0 _ rfl⟩
      rw [uP]
      simp only [Sem.run_bind,hrun]
      rfl
    · have hv':V.tup vs=v:=by
        cases vs with
        |nil=>simpa using hv
        | cons u l => cases l with
          |nil=>simp at h1
          |cons u' l=>simpa using hv
      subst hv'
      refine ⟨.tuple cs.toArray,?_,.tup vs _ hsz fun j u hj=>?_⟩
      · rw [uP]
        simp only [Sem.run_bind,hrun,Result.andThen_ok,Sem.run_pure]
        rw [dif_neg (by rw [hsz]; exact h1)]
      · have:=hR.2 j u hj
        rw [Array.getD_eq_getD_getElem?,List.getElem?_toArray,← List.getD_eq_getElem?_getD]
        exact this
theorem aCV {x:Cx} {n:Nat} {args:List V} {cs:List Value} (h:RL x args cs) (hl:args.length≤n):
    TRel [] n x (T0 args) {tmps:=cs.toArray++Array.replicate (n - cs.toArray.size) undef,defers:=[]}:=by
  refine ⟨fun i=>?_,rfl,by simp [h.1]; omega⟩
  have hsz:cs.toArray.size=args.length:=by simp [h.1]
  simp only [T0]
  rw [Array.getD_eq_getD_getElem?,Array.getElem?_append]
  by_cases hi:i < args.length
  · rw [if_pos (by omega)]
    have:=h.2 i args[i] (List.getElem?_eq_getElem hi)
    rw [List.getD_eq_getElem?_getD,List.getElem?_eq_getElem hi,List.getElem?_toArray,← List.getD_eq_getElem?_getD]
    exact this
  · rw [if_neg (by omega),List.getD_eq_getElem?_getD,List.getElem?_eq_none (by omega),Array.getElem?_replicate]
    simp only [Option.getD_none]
    split
    · exact .raw undef rfl
    · exact .raw undef rfl
theorem oP {f : Nat} {fn : Func} {s : SF} (hf : P.funcs[f]? = some fn) (hs : aM P op fn = some s) {x : Cx} {args : List V} {cs : List Value} {K : V → aF → Prop}
    (hl:args.length≤s.n) (hW:W P k0 s.body (Ret s.res K) (T0 args) x.H) (hx:Inv x) (hr:RL x args cs):
    Calls P f cs.toArray x.w fun e w'=> ∃ c v y,e=.returned c∧y.w=w'∧K v y.H∧Inv y∧R y v c∧Frame x y:=by
  unfold aM at hs
  split at hs
  · cases hs
  · rename_i c hc
    split at hs
    · rename_i sb r h1 h2
      cases hs
      refine calls_of_wp hf hc (wp_mono (aKN c sb h1 _ x x (T0 args) _ hW hx (aCV hr hl) (Frame.refl x)) ?_)
      intro e a' w' hp
      obtain ⟨e',T',y,he,hw,hq,hy,hT',hF'⟩:=hp
      have fin:onS (nN r T' y.H) (fun v=>K v y.H)→a'.defers=[]∧ ∃ v,(results fn a'.tmps).run P w'=.ok v w'∧(∃ c u z,Ending.returned v=.returned c∧z.w=w'∧K u z.H∧Inv z∧R z u c∧Frame x z):=by
        intro h
        obtain ⟨v,h3,h4⟩:=aN.1 h
        obtain ⟨c,h5,h6⟩:=aBJ h2 hy hT' h3
        exact ⟨hT'.defers,c,by rw [← hw]; exact h5,c,v,y,rfl,hw,h4,hy,h6,hF'⟩
      cases e with
      |normal=>cases he; exact fin hq
      |ret=>cases he; exact fin hq
      |exit id=>cases he; exact hq.elim
      |goto l=>cases he
      |panic l=>obtain ⟨c,rfl⟩:=lF he; exact hq.elim
      |outgrown=>cases he
    · cases hs
theorem jR {f : Nat} {fn : Func} {s : SF} (hf : P.funcs[f]? = some fn) (hs : aM P op fn = some s) (hn : (fn.name == "runtime.NumGoroutine") = false) : cG P f := by
  refine ⟨fn,hf,?_,hn⟩
  unfold aM at hs
  split at hs
  · cases hs
  · rename_i c hc; rw [hc]; rfl
theorem aBk {f : Nat} {fn : Func} {s : SF} (hf : P.funcs[f]? = some fn) (hs : aM P op fn = some s) (hn : (fn.name == "runtime.NumGoroutine") = false) {args : List V} {H H' : aF} {v : V}
    (hl:args.length≤s.n) (hW:W P k0 s.body (Ret s.res fun u G=>u=v∧G=H') (T0 args) H):dB P f args H v H':=by
  refine ⟨jR hf hs hn,fun x cs hxH hx hr=>?_⟩
  subst hxH
  refine (oP hf hs hl hW hx hr).mono fun e w' h=>?_
  obtain ⟨c,u,y,h1,h2,⟨rfl,h4⟩,h5,h6,h7⟩:=h
  exact ⟨c,y,h1,h2,h4,h5,h6,h7⟩
end
end Go.Proofs.YtmnnhjhkaepbaaaGreat


namespace Go.Proofs.YtmnnhjhkaepbaaaGreat
open Go
mutual
def V.pure:V→Bool
  | .sl rows=>eK rows
  | .pp cells=>cM cells
  | .agg cells=>cM cells
  | .tup vs=>cM vs
  | .fn _ a b=>cM a&&cM b
  | .ms _ _ _ _=>false
  | .mp _ _ _ _=>false
  | .mm _ _=>false
  | .int _ _=>true
  | .bool _=>true
  | .str _=>true
  | .nilsl=>true
  | .nilp=>true
  | .raw _=>true
def cM:List V→Bool
  |[]=>true
  |v::l=>v.pure&&cM l
def eK:List (List V)→Bool
  |[]=>true
  |r::l=>cM r&&eK l
end
theorem cA {l:List V}:cM l=true↔ ∀ v∈l,v.pure=true:=by
  induction l with
  |nil=>simp [cM]
  |cons v l ih=>simp [cM,ih]
theorem gE {l:List (List V)}:eK l=true↔ ∀ r∈l,cM r=true:=by
  induction l with
  |nil=>simp [eK]
  |cons v l ih=>simp [eK,ih]
theorem R.pure_at {x y:Cx} {v:V} {c:Value} (h:R x v c) (hp:v.pure=true) (hw:y.w=x.w) (hz: ∀ b,x.Z b→y.Z b):R y v c:=by
  induction h with
  |int k n=>exact .int k n
  |bool b=>exact .bool b
  |str s=>exact .str s
  |nilsl=>exact .nilsl
  |slnil=>exact .slnil
  | sl rows a cap sz cs hc hm hzz hsz hcell _ ih =>
    simp only [V.pure] at hp
    refine .sl rows a cap sz cs hc hm (fun hne=>hz _ (hzz hne)) hsz (fun r row j v hr hj=>by rw [hw]; exact hcell r row j v hr hj) fun r row j v hr hj=>ih r row j v hr hj ?_
    exact cA.1 (gE.1 hp row (List.mem_of_getElem? hr)) v (List.mem_of_getElem? hj)
  |ms=>simp [V.pure] at hp
  | pp cells a cs hzz hcell _ ih =>
    simp only [V.pure] at hp
    exact .pp cells a cs (fun hne=>hz _ (hzz hne)) (fun j v hj=>by rw [hw]; exact hcell j v hj) fun j v hj=>ih j v hj (cA.1 hp v (List.mem_of_getElem? hj))
  |nilp=>exact .nilp
  |mp=>simp [V.pure] at hp
  |mm=>simp [V.pure] at hp
  | agg cells cs hs _ ih =>
    simp only [V.pure] at hp
    exact .agg cells cs hs fun j v hj=>ih j v hj (cA.1 hp v (List.mem_of_getElem? hj))
  | tup vs cs hs _ ih =>
    simp only [V.pure] at hp
    exact .tup vs cs hs fun j v hj=>ih j v hj (cA.1 hp v (List.mem_of_getElem? hj))
  | fn f first caps fs cs hfs hcs _ _ ih1 ih2 =>
    simp only [V.pure,Bool.and_eq_true] at hp
    exact .fn f first caps fs cs hfs hcs (fun j v hj=>ih1 j v hj (cA.1 hp.1 v (List.mem_of_getElem? hj))) fun j v hj=>ih2 j v hj (cA.1 hp.2 v (List.mem_of_getElem? hj))
  |raw c hh=>exact .raw c hh
theorem RL.pure_at {x y:Cx} {vs:List V} {cs:List Value} (h:RL x vs cs) (hp:cM vs=true) (hw:y.w=x.w) (hz: ∀ b,x.Z b→y.Z b):RL y vs cs:=
  ⟨h.1,fun j v hj=>(h.2 j v hj).pure_at (cA.1 hp v (List.mem_of_getElem? hj)) hw hz⟩
def fz0 (H:aF):V→V
  | .ms id ver off len=>if (H id).live&&decide ((H id).ver=ver) then .sl (((H id).rows.drop off).take len) else .ms id ver off len
  |v=>v
def fz1 (H:aF):V→V
  | .agg cs=>.agg (cs.map (fz0 H))
  |v=>fz0 H v
def fz2 (H:aF):V→V
  | .tup vs=>.tup (vs.map (fz1 H))
  |v=>fz1 H v
def oV (x:Cx):Cx:={x with Z:=fun b=>x.Z b∨ ∃ id,(x.H id).own=true∧x.σ id=b,H:=fun id=>{x.H id with live:=false}}
theorem aA8 {x:Cx} (hx:Inv x):Inv (oV x)∧Frame x (oV x):=by
  have hno: ∀ id,((oV x).H id).own=true→False:=fun id h=>by simp [oV,Blk.own] at h
  refine ⟨⟨fun b h=>?_,fun b id _ h=>(hno id h).elim,fun id h=>(hno id h).elim,fun i j h=>(hno i h).elim,fun p hp=>⟨.inl (hx.tab p hp).1,(hx.tab p hp).2⟩⟩,⟨rfl,rfl,rfl,Nat.le_refl _,fun _ _ _=>rfl,fun b h=>.inl h,fun b h=>?_,fun id=>⟨Nat.le_refl _,fun h=>by simp [oV] at h⟩,fun id h=>(hno id h).elim,Nat.le_refl _,fun id h=>by simp [oV] at h⟩⟩
  · rcases h with h|⟨id,h,rfl⟩
    · exact hx.zlt b h
    · exact hx.lt h
  · rcases h with h|h
    · exact .inl h
    · exact .inr (.inr h)
def H0:aF:=fun _=>⟨0,false,false,0,0,[]⟩
def start (x:Cx) (Z:Nat→Prop):Cx:={w:=x.w,Z:=Z,σ:=fun _=>0,H:=H0}
theorem oN (id:Nat):(H0 id).own=true→False:=fun h=>by simp [H0,Blk.own] at h
theorem mT {x:Cx} {Z:Nat→Prop} (hZ: ∀ b,Z b→b < x.w.heap.size) (ht:aJD x.w Z):Inv (start x Z):=
  ⟨hZ,fun _ id _ h=>(oN id h).elim,fun id h=>(oN id h).elim,fun i _ h=>(oN i h).elim,ht⟩
theorem back {x y:Cx} (hx:Inv x) {Z:Nat→Prop} (hf:Frame (start x Z) y) (_hy:Inv y) {Z':Nat→Prop} (h1: ∀ b,x.Z b→Z' b) (h2: ∀ b,Z' b→x.Z b∨(x.w.heap.size≤b∧b < y.w.heap.size)):
    let z:Cx:={w:=y.w,Z:=Z',σ:=x.σ,H:=x.H}
    Inv z∧Frame x z:=by
  intro z
  have hkeep: ∀ b,b < x.w.heap.size→y.w.heap[b]?=x.w.heap[b]?:=fun b hb=>hf.keep b hb fun id h=>(oN id h).elim
  have hF:Frame x z:=by
    refine ⟨hf.os,hf.tape,hf.output,hf.size,fun b hb _=>hkeep b hb,h1,fun b hb=>?_,fun id=>⟨Nat.le_refl _,fun h _=>⟨h,rfl,rfl,fun _=>rfl,fun ho=>⟨rfl,?_⟩⟩⟩,fun id h=>.inl ⟨h,rfl⟩,hf.drawn,fun _ _ _=>rfl⟩
    · rcases h2 b hb with h|h
      · exact .inl h
      · exact .inr (.inl h.1)
    · unfold bQ
      rw [show z.w.heap[x.σ id]?=x.w.heap[x.σ id]? from hkeep _ (hx.lt ho)]
  have hs:x.w.heap.size≤y.w.heap.size:=hf.size
  refine ⟨⟨fun b hb=>?_,fun b id hb ho=>?_,fun id ho=>?_,hx.inj,hx.tab_of hF⟩,hF⟩
  · rcases h2 b hb with h|h
    · have:=hx.zlt b h; show b < y.w.heap.size; omega
    · exact h.2
  · rcases h2 b hb with h|h
    · exact hx.zown b id h ho
    · have:=hx.lt ho
      intro e
      have e':x.σ id=b:=e
      omega
  · obtain ⟨cc,g1,g2,g3,g4⟩:=hx.blk id ho
    exact ⟨cc,by rw [show z.w.heap[x.σ id]?=x.w.heap[x.σ id]? from hkeep _ (hx.lt ho)]; exact g1,g2,g3,fun r row j v hr hj=>(g4 r row j v hr hj).frame hx hF⟩
def aS (P:Program) (f:Nat) (args:List V) (v:V):Prop:= ∀ H,dB P f args H v H
section
variable {P:Program} {op:Opt}
theorem aS.roc {f:Nat} {args:List V} {v:V} (h:aS P f args v) (H:aF):ROC P f args H v:=fun H' _=>h H'
def V.scalar : V → Bool
  | .int _ _=>true
  | .bool _=>true
  | .str _=>true
  | .agg cs => cs.all fun v => match v with
    | .int _ _=>true
    | .bool _=>true
    | .str _=>true
    |_=>false
  | .tup cs => cs.all fun v => match v with
    | .int _ _=>true
    | .bool _=>true
    | .str _=>true
    |_=>false
  |_=>false
theorem aGn {x y:Cx} {v:V} {c:Value} (h:R x v c) (hs:v.scalar=true):R y v c:=by
  have one: ∀ {u:V} {d:Value},R x u d→(match u with| .int _ _=>true| .bool _=>true| .str _=>true|_=>false)=true→R y u d:=by
    intro u d hu hb
    cases hu <;> first|(simp at hb; done)|exact .int _ _|exact .bool _|exact .str _
  cases h with
  |int k n=>exact .int k n
  |bool b=>exact .bool b
  |str s=>exact .str s
  | agg cells cs hl hr =>
    simp only [V.scalar,List.all_eq_true] at hs
    exact .agg cells cs hl fun j v hj=>one (hr j v hj) (hs v (List.mem_of_getElem? hj))
  | tup cells cs hl hr =>
    simp only [V.scalar,List.all_eq_true] at hs
    exact .tup cells cs hl fun j v hj=>one (hr j v hj) (hs v (List.mem_of_getElem? hj))
  |_=>simp [V.scalar] at hs
end
end Go.Proofs.YtmnnhjhkaepbaaaGreat


namespace Go.Proofs.YtmnnhjhkaepbaaaGreat
open Go
def fzv (z : Bool) (H : aF) : Nat → V → V
  |0,v=>v
  | n + 1, v => match v with
    | .nilsl=>if z then .sl [] else .nilsl
    | .ms id ver off len=>if (H id).live&&decide ((H id).ver=ver) then .sl ((((H id).rows.drop off).take len).map fun r=>r.map (fzv z H n)) else .ms id ver off len
    | .mp id ver row off => if (H id).own && decide ((H id).ver = ver) then match (H id).rows[row]? with
        |some r=>.pp ((r.drop off).map (fzv z H n))
        |none=>.mp id ver row off
      else .mp id ver row off
    | .agg cs=>.agg (cs.map (fzv z H n))
    | .tup vs=>.tup (vs.map (fzv z H n))
    | .fn f a b=>.fn f (a.map (fzv z H n)) (b.map (fzv z H n))
    | .sl rows=>.sl (rows.map fun r=>r.map (fzv z H n))
    | .pp cells=>.pp (cells.map (fzv z H n))
    |v=>v
theorem map_get {α β:Type} {f:α→β} {l:List α} {j:Nat} {b:β} (h:(l.map f)[j]?=some b): ∃ a,l[j]?=some a∧b=f a:=by
  rw [List.getElem?_map] at h
  obtain ⟨a,h1,h2⟩:=map_some h
  exact ⟨a,h1,by first|exact h2|exact h2.symm⟩
variable {z:Bool}
theorem aGZ {x : Cx} (hx : Inv x) : ∀ (n : Nat) {v : V} {c : Value}, R x v c → R (oV x) (fzv z x.H n v) c := by
  have hf:=(aA8 hx).2
  intro n
  induction n with
  |zero=>intro v c h; exact h.frame hx hf
  | succ n ih =>
    intro v c h
    cases h with
    |int k n=>exact .int k n
    |bool b=>exact .bool b
    |str s=>exact .str s
    |nilsl=>cases z <;> simp only [fzv] <;> first|exact .nilsl|exact .slnil
    |slnil=>exact .slnil
    |nilp=>exact .nilp
    |raw c hh=>exact .raw c hh
    |mm id ver b hv hh=>exact (R.mm id ver b hv hh).frame hx hf
    | agg cells cs hs hr =>
      refine .agg _ cs (by simpa using hs) fun j v hj=>?_
      obtain ⟨u,hu,rfl⟩:=map_get hj
      exact ih (hr j u hu)
    | tup vs cs hs hr =>
      refine .tup _ cs (by simpa using hs) fun j v hj=>?_
      obtain ⟨u,hu,rfl⟩:=map_get hj
      exact ih (hr j u hu)
    | fn f first caps fs cs hfs hcs hff hc =>
      refine .fn f _ _ fs cs (by simpa using hfs) (by simpa using hcs) (fun j v hj=>?_) fun j v hj=>?_
      · obtain ⟨u,hu,rfl⟩:=map_get hj
        exact ih (hff j u hu)
      · obtain ⟨u,hu,rfl⟩:=map_get hj
        exact ih (hc j u hu)
    | sl rows a cap sz cs hc hm hz hsz hcell hh =>
      have key:=R.sl (x:=oV x) (rows.map fun r=>r.map (fzv z x.H n)) a cap sz cs (by simpa using hc) hm (fun hne=>.inl (hz (by simpa using hne)))
        (fun r hr=>by obtain ⟨r',hr',rfl⟩:=List.mem_map.1 hr; simpa using hsz r' hr')
        (fun r row j v hr hj=>by
          obtain ⟨row',h1,rfl⟩:=map_get hr
          obtain ⟨v',h2,rfl⟩:=map_get hj
          exact hcell r row' j v' h1 h2)
        (fun r row j v hr hj=>by
          obtain ⟨row',h1,rfl⟩:=map_get hr
          obtain ⟨v',h2,rfl⟩:=map_get hj
          exact ih (hh r row' j v' h1 h2))
      simpa [fzv] using key
    | pp cells a cs hz hcell hh =>
      refine .pp _ a cs (fun hne=>.inl (hz (by simpa using hne))) (fun j v hj=>?_) fun j v hj=>?_
      · obtain ⟨u,hu,rfl⟩:=map_get hj
        exact hcell j u hu
      · obtain ⟨u,hu,rfl⟩:=map_get hj
        exact ih (hh j u hu)
    | mp id ver row off p hv hh hm =>
      simp only [fzv]
      split
      · rename_i hc
        simp only [Bool.and_eq_true,decide_eq_true_eq] at hc
        split
        · rename_i r hr
          obtain ⟨cc,g1,g2,g3,g4⟩:=hx.cel id hc.1 (hm hc.2 hc.1)
          have e:=hh hc.2 hc.1
          subst e
          have hrow:=g2 r (List.mem_of_getElem? hr)
          have hlt:=(List.getElem?_eq_some_iff.1 hr).1
          refine .pp _ _ (fun j=>cc.getD (row*(x.H id).sz+off+j) undef) (fun _=>.inr ⟨id,hc.1,rfl⟩) (fun j v hj=>?_) fun j v hj=>?_
          · obtain ⟨u,hu,rfl⟩:=map_get hj
            rw [List.getElem?_drop] at hu
            have h9:=(dW g2 g3 hr hu).1
            rw [Addr.add_lit]
            exact gR g1 (by omega)
          · obtain ⟨u,hu,rfl⟩:=map_get hj
            rw [List.getElem?_drop] at hu
            have h10:=g4 _ _ _ _ hr hu
            rw [← Nat.add_assoc] at h10
            exact ih h10
        · exact (R.mp id ver row off p hv hh hm).frame hx hf
      · exact (R.mp id ver row off p hv hh hm).frame hx hf
    | ms id ver off len b m cap hv hh hm =>
      simp only [fzv]
      split
      · rename_i hc
        simp only [Bool.and_eq_true,decide_eq_true_eq] at hc
        obtain ⟨e1,e2,e3,e4,e5,e6⟩:=hh hc.2 hc.1
        subst e1
        have hlen:(((x.H id).rows.drop off).take m).length=m:=by simp; omega
        cases ho:(x.H id).own with
        | false =>
          have e8:=e6 ho
          have hm0:m=0:=by omega
          subst hm0; subst e8
          simpa using R.sl0 _
        | true =>
          obtain ⟨e7,e8⟩:=e5 ho
          subst e7
          obtain ⟨cc,h1,h2,h3,h4⟩:=hx.cel id ho (hm hc.2 hc.1)
          have hidx: ∀ (r:Nat) (row:List V),(((x.H id).rows.drop off).take m)[r]?=some row→(x.H id).rows[off+r]?=some row:=by
            intro r row hr
            simp only [List.getElem?_take,List.getElem?_drop] at hr
            split at hr
            · exact hr
            · cases hr
          have key:=R.sl (x:=oV x) ((((x.H id).rows.drop off).take m).map fun r=>r.map (fzv z x.H n)) ⟨x.σ id,off*(x.H id).sz,none⟩ cap (x.H id).sz
            (fun k=>cc.getD (off*(x.H id).sz+k) undef) (by rw [List.length_map]; omega) e3 (fun _=>.inr ⟨id,ho,rfl⟩)
            (fun r hr=>by
              obtain ⟨r',hr',rfl⟩:=List.mem_map.1 hr
              rw [List.length_map]
              exact h2 r' (List.mem_of_mem_drop (List.mem_of_mem_take hr')))
            (fun r row q v hr hj=>by
              obtain ⟨row',g1,rfl⟩:=map_get hr
              obtain ⟨v',g2,rfl⟩:=map_get hj
              have h8:=hidx _ _ g1
              have h9:=(dW h2 h3 h8 g2).1
              rw [Nat.add_mul] at h9
              rw [Addr.add_lit]
              exact gR h1 (by omega))
            (fun r row q v hr hj=>by
              obtain ⟨row',g1,rfl⟩:=map_get hr
              obtain ⟨v',g2,rfl⟩:=map_get hj
              have h8:=hidx _ _ g1
              have h10:=h4 _ _ _ _ h8 g2
              rw [show (off+r)*(x.H id).sz+q=off*(x.H id).sz+(r*(x.H id).sz+q) by rw [Nat.add_mul]; omega] at h10
              exact ih h10)
          rw [List.length_map,hlen] at key
          exact key
      · exact (R.ms id ver off len b m cap hv hh hm).frame hx hf
section
variable {P:Program} {op:Opt}
theorem uY (z : Bool) (n : Nat) {f : Nat} {fn : Func} {s : SF} (hf : P.funcs[f]? = some fn) (hs : aM P op fn = some s) (hn : (fn.name == "runtime.NumGoroutine") = false) {args : List V} {v : V}
    (hl:args.length≤s.n) (ha:cM args=true) (hv:v.pure=true) (hW:W P 0 s.body (Ret s.res fun u G=>fzv z G n u=v) (T0 args) H0):aS P f args v:=by
  intro H
  refine ⟨jR hf hs hn,fun x cs hxH hx hr=>?_⟩
  subst hxH
  have hI:=mT (x:=x) (Z:=x.Z) hx.zlt hx.tab
  refine (oP (x:=start x x.Z) hf hs hl hW hI (hr.pure_at ha rfl fun _ h=>h)).mono fun e w' h=>?_
  obtain ⟨c,u,y,h1,h2,h4,h5,h6,h7⟩:=h
  obtain ⟨sI,sF⟩:=aA8 h5
  have hR:=aGZ (z:=z) h5 n h6
  rw [h4] at hR
  obtain ⟨zI,zF⟩:=back hx h7 h5 (Z':=(oV y).Z) (fun b hb=>.inl (h7.zone b hb)) (fun b hb=>by
    have hlt:b < y.w.heap.size:=sI.zlt b hb
    rcases hb with hb|⟨id,ho,rfl⟩
    · rcases h7.zold b hb with h|h|⟨id,h,_⟩
      · exact .inl h
      · exact .inr ⟨h,hlt⟩
      · exact (oN id h).elim
    · rcases h7.fresh id ho with ⟨h,_⟩|h
      · exact (oN id h).elim
      · exact .inr ⟨h,hlt⟩)
  exact ⟨c,{w:=y.w,Z:=(oV y).Z,σ:=x.σ,H:=x.H},h1,h2,rfl,zI,hR.pure_at hv rfl fun _ h=>h,zF⟩
theorem aJy {H H' : aF} (hext : Ext H H') : ∀ (n : Nat) (v : V), (fzv z H n v).pure = true → fzv z H' n v = fzv z H n v := by
  intro n
  induction n with
  |zero=>intro v _; rfl
  | succ n ih =>
    have il: ∀ l:List V,cM (l.map (fzv z H n))=true→l.map (fzv z H' n)=l.map (fzv z H n):=fun l hp=>
      List.map_congr_left fun a ha=>ih a (cA.1 hp _ (List.mem_map_of_mem ha))
    have ill: ∀ l:List (List V),eK (l.map fun r=>r.map (fzv z H n))=true→(l.map fun r=>r.map (fzv z H' n))=l.map fun r=>r.map (fzv z H n):=fun l hp=>
      List.map_congr_left fun a ha=>il a (gE.1 hp _ (List.mem_map_of_mem ha))
    intro v hp
    cases v with
    | ms id ver off len =>
      simp only [fzv] at hp ⊢
      split at hp
      · rename_i hc
        have hl:(H id).live=true:=by simp at hc; exact hc.1
        rw [hext id hl]
        rw [if_pos hc,if_pos hc]
        simp only [V.pure] at hp
        rw [ill _ hp]
      · simp [V.pure] at hp
    | mp id ver row off =>
      simp only [fzv] at hp ⊢
      split at hp
      · rename_i hc
        have hl:(H id).live=true:=by simp [Blk.own] at hc; exact hc.1.1
        rw [hext id hl,if_pos hc,if_pos hc]
        split at hp
        · rename_i r hr
          simp only [V.pure] at hp
          first|rw [hr]|skip
          show V.pp _=V.pp _
          rw [il _ hp]
        · simp [V.pure] at hp
      · simp [V.pure] at hp
    |agg cs=>simp only [fzv,V.pure] at hp ⊢; rw [il _ hp]
    |tup cs=>simp only [fzv,V.pure] at hp ⊢; rw [il _ hp]
    |pp cs=>simp only [fzv,V.pure] at hp ⊢; rw [il _ hp]
    |sl cs=>simp only [fzv,V.pure] at hp ⊢; rw [ill _ hp]
    | fn f a b =>
      simp only [fzv,V.pure,Bool.and_eq_true] at hp ⊢
      rw [il _ hp.1,il _ hp.2]
    |_=>rfl
theorem aS.lendz (z:Bool) (n:Nat) {f:Nat} {args:List V} {H:aF} {v:V} (h:aS P f (args.map (fzv z H n)) v) (hp:cM (args.map (fzv z H n))=true) (hs:v.scalar=true):ROC P f args H v:=by
  intro H' hext
  have h':=h H0
  refine ⟨h'.1,fun x cs hxH hx hr=>?_⟩
  subst hxH
  obtain ⟨sI,sF⟩:=aA8 hx
  have hI:=mT (x:=x) (Z:=(oV x).Z) sI.zlt sI.tab
  have hrr:RL (start x (oV x).Z) (args.map (fzv z H n)) cs:=by
    refine ⟨by simpa using hr.1,fun j v hj=>?_⟩
    have hvp:=cA.1 hp v (List.mem_of_getElem? hj)
    obtain ⟨u,hu,rfl⟩:=map_get hj
    have:=aGZ (z:=z) hx n (hr.2 j u hu)
    rw [aJy hext n u hvp] at this
    exact this.pure_at hvp rfl fun _ h=>h
  refine (h'.2 (start x (oV x).Z) cs rfl hI hrr).mono fun e w' hq=>?_
  obtain ⟨c,y,h1,h2,h3,h4,h5,h6⟩:=hq
  obtain ⟨zI,zF⟩:=back hx h6 h4 (Z':=x.Z) (fun _ h=>h) (fun b h=>.inl h)
  exact ⟨c,{w:=y.w,Z:=x.Z,σ:=x.σ,H:=x.H},h1,h2,rfl,zI,aGn h5 hs,zF⟩
theorem yM {H H':aF}: ∀ (n:Nat) (v:V),v.pure=true→fzv z H' n v=fzv z H n v∧(fzv z H n v).pure=true:=by
  intro n
  induction n with
  |zero=>intro v h; exact ⟨rfl,h⟩
  | succ n ih =>
    have il: ∀ l:List V,cM l=true→l.map (fzv z H' n)=l.map (fzv z H n)∧cM (l.map (fzv z H n))=true:=fun l hp=>
      ⟨List.map_congr_left fun a ha=>(ih a (cA.1 hp _ ha)).1,cA.2 fun v hv=>by obtain ⟨a,ha,rfl⟩:=List.mem_map.1 hv; exact (ih a (cA.1 hp _ ha)).2⟩
    have ill: ∀ l:List (List V),eK l=true→(l.map fun r=>r.map (fzv z H' n))=(l.map fun r=>r.map (fzv z H n))∧eK (l.map fun r=>r.map (fzv z H n))=true:=fun l hp=>
      ⟨List.map_congr_left fun a ha=>(il a (gE.1 hp _ ha)).1,gE.2 fun v hv=>by obtain ⟨a,ha,rfl⟩:=List.mem_map.1 hv; exact (il a (gE.1 hp _ ha)).2⟩
    intro v hv
    cases v <;> simp only [V.pure,Bool.and_eq_true] at hv <;> simp only [fzv,V.pure,Bool.and_eq_true,and_self]
    case nilsl=>cases z <;> simp [V.pure,eK]
    case ms=>cases hv
    case mp=>cases hv
    case mm=>cases hv
    case agg=>exact ⟨by rw [(il _ hv).1],(il _ hv).2⟩
    case tup=>exact ⟨by rw [(il _ hv).1],(il _ hv).2⟩
    case pp=>exact ⟨by rw [(il _ hv).1],(il _ hv).2⟩
    case sl=>exact ⟨by rw [(ill _ hv).1],(ill _ hv).2⟩
    case fn=>exact ⟨by rw [(il _ hv.1).1,(il _ hv.2).1],(il _ hv.1).2,(il _ hv.2).2⟩
theorem aS.argz (z:Bool) (n:Nat) {f:Nat} {args:List V} {H:aF} {v:V} (h:aS P f (args.map (fzv z H n)) v) (hp:cM args=true):aS P f args v:=by
  intro H1
  have h':=h H1
  refine ⟨h'.1,fun x cs hxH hx hr=>h'.2 x cs hxH hx ⟨by simpa using hr.1,fun j v hj=>?_⟩⟩
  obtain ⟨u,hu,rfl⟩:=map_get hj
  have hup:=cA.1 hp u (List.mem_of_getElem? hu)
  have h1:R (start x x.Z) u (cs.getD j undef):=(hr.2 j u hu).pure_at hup rfl fun _ h=>h
  have h2:=aGZ (z:=z) (mT (x:=x) (Z:=x.Z) hx.zlt hx.tab) n h1
  rw [(yM n u hup).1] at h2
  refine h2.pure_at (yM (H':=H) n u hup).2 rfl fun b hb=>?_
  rcases hb with hb|⟨id,ho,_⟩
  · exact hb
  · exact (oN id ho).elim
theorem aD9 (z:Bool) (n:Nat) {f:Nat} {args us:List V} {H:aF} {v:V} {k:V→aF→Prop} (h:aS P f us v) (ha:args.map (fzv z H n)=us) (hp:cM us=true) (hs:cM args=true∨v.scalar=true)
    (hk:k v H):jT P false f args H k:=by
  subst ha
  rcases hs with hs|hs
  · exact ⟨v,(h.argz z n hs).roc H,hk⟩
  · exact ⟨v,h.lendz z n hp hs,hk⟩
end
mutual
def V.canon:V→Bool
  | .sl rows=>cX rows
  | .pp cells=>cJ cells
  | .agg cells=>cJ cells
  | .tup vs=>cJ vs
  | .fn _ a b=>cJ a&&cJ b
  | .ms _ _ _ _=>false
  | .mp _ _ _ _=>false
  | .mm _ _=>false
  | .int _ _=>true
  | .bool _=>true
  | .str _=>true
  | .nilsl=>false
  | .nilp=>true
  | .raw _=>true
def cJ:List V→Bool
  |[]=>true
  |v::l=>v.canon&&cJ l
def cX:List (List V)→Bool
  |[]=>true
  |r::l=>cJ r&&cX l
end
theorem uK {l:List V}:cJ l=true↔ ∀ v∈l,v.canon=true:=by
  induction l with
  |nil=>simp [cJ]
  |cons v l ih=>simp [cJ,ih]
theorem sD {l:List (List V)}:cX l=true↔ ∀ r∈l,cJ r=true:=by
  induction l with
  |nil=>simp [cX]
  |cons v l ih=>simp [cX,ih]
theorem dC {H:aF}: ∀ (n:Nat) (v:V),v.canon=true→fzv z H n v=v:=by
  intro n
  induction n with
  |zero=>intro v _; rfl
  | succ n ih =>
    have il: ∀ l:List V,cJ l=true→l.map (fzv z H n)=l:=fun l hp=>by
      conv=>rhs; rw [← List.map_id l]
      exact List.map_congr_left fun a ha=>ih a (uK.1 hp _ ha)
    have ill: ∀ l:List (List V),cX l=true→(l.map fun r=>r.map (fzv z H n))=l:=fun l hp=>by
      conv=>rhs; rw [← List.map_id l]
      exact List.map_congr_left fun a ha=>il a (sD.1 hp _ ha)
    intro v hv
    cases v <;> simp only [V.canon,Bool.and_eq_true] at hv <;> simp only [fzv]
    case nilsl=>cases hv
    case ms=>cases hv
    case mp=>cases hv
    case agg=>rw [il _ hv]
    case tup=>rw [il _ hv]
    case pp=>rw [il _ hv]
    case sl=>rw [ill _ hv]
    case fn=>rw [il _ hv.1,il _ hv.2]
theorem eC {H:aF} (n:Nat) (l:List V) (h:cJ l=true):l.map (fzv z H n)=l:=by
  conv=>rhs; rw [← List.map_id l]
  exact List.map_congr_left fun a ha=>dC n a (uK.1 h _ ha)
end Go.Proofs.YtmnnhjhkaepbaaaGreat


namespace Go.Proofs.YtmnnhjhkaepbaaaGreat
open Go
section
variable {P:Program} {k0:Nat} {Q:Ex→(Nat→V)→aF→Prop} {T:Nat→V} {H:aF}
theorem kK {ops:List SO} {b:SC} (h: ∀ K:(Nat→V)→aF→Prop,(∀ T H,W P k0 b Q T H→K T H)→Ops P k0 ops T H K):W P k0 (.seq (.reg ops) b) Q T H:=
  ⟨k0,h _ fun _ _ h=>.done h⟩
theorem aBr {ops:List SO} {b:SC} (h: ∀ K:(Nat→V)→aF→Prop,(∀ T H,G (W P k0 b Q) T H→K T H)→Ops P k0 ops T H K):W P k0 (.seq (.reg ops) b) Q T H:=
  ⟨k0,h _ fun _ _ h=>h⟩
theorem aB {a b c:SC} (h:W P k0 (.seq a (.seq b c)) Q T H):W P k0 (.seq (.seq a b) c) Q T H:=by
  simp only [W] at h ⊢
  refine Eq.mp (congrArg (fun q=>W P k0 a q T H) (funext fun e=>funext fun T=>funext fun H=>?_)) h
  cases e <;> rfl
theorem fK (h:Q .norm T H):W P k0 .skip Q T H:=h
theorem bH (h:Q .ret T H):W P k0 .ret Q T H:=h
theorem vC {f:Nat} {args:List V} {v:V} {k:V→aF→Prop} (h:aS P f args v) (hk:k v H):jT P false f args H k:=⟨v,h.roc H,hk⟩
theorem aFm {f:Nat} {args:List V} {v:V} {k:V→aF→Prop} (h:ROC P f args H v) (hk:k v H):jT P false f args H k:=⟨v,h,hk⟩
theorem aAc {f:Nat} {args:List V} {v:V} {H':aF} {k:V→aF→Prop} (h:dB P f args H v H') (hk:k v H'):jT P true f args H k:=⟨v,H',h,hk⟩
theorem aG {b:SC} (h:W P k0 b Q T H):W P k0 (.seq .skip b) Q T H:=.done h
theorem bC {b:SC} (h:Q .ret T H):W P k0 (.seq .ret b) Q T H:=h
theorem aP {b:SC} {n:Nat} (h:Q (.exit n) T H):W P k0 (.seq (.exit n) b) Q T H:=h
theorem uH {c:SX} {a b r:SC} {bb:Bool} (hc:asB (ev T c)=some bb) (h1:bb=true→W P k0 (.seq a r) Q T H) (h2:bb=false→W P k0 (.seq b r) Q T H):W P k0 (.seq (.cond c a b) r) Q T H:=by
  simp only [W,hc,cQ] at h1 h2 ⊢
  exact ⟨h1,h2⟩
theorem aIy {c:SX} {a b:SC} {bb:Bool} (hc:asB (ev T c)=some bb) (h1:bb=true→W P k0 a Q T H) (h2:bb=false→W P k0 b Q T H):W P k0 (.cond c a b) Q T H:=by
  simp only [W,hc,cQ]
  exact ⟨h1,h2⟩
theorem kA {id:Nat} {a:SC} (h: ∀ Q':Ex→(Nat→V)→aF→Prop,(∀ T H,Q .norm T H→Q' .norm T H)→(∀ T H,Q .norm T H→Q' (.exit id) T H)→(∀ T H,Q .ret T H→Q' .ret T H)→
    (∀ n T H,n≠id→Q (.exit n) T H→Q' (.exit n) T H)→W P k0 a Q' T H):W P k0 (.block id a) Q T H:=by
  simp only [W]
  refine h _ (fun T H h=>h) (fun T H h=>?_) (fun T H h=>h) (fun n T H hn h=>?_)
  · simp only [if_true]; exact h
  · simp only [if_neg hn]; exact h
theorem bP {a:SC} (I:Nat→(Nat→V)→aF→Prop) (h0: ∃ n,I n T H)
    (h: ∀ n T H,I n T H→ ∀ Q':Ex→(Nat→V)→aF→Prop,(∀ m T H,m < n→I m T H→Q' .norm T H)→(∀ T H,Q .ret T H→Q' .ret T H)→(∀ n T H,Q (.exit n) T H→Q' (.exit n) T H)→W P k0 a Q' T H):W P k0 (.loop a) Q T H:=by
  simp only [W]
  obtain ⟨n,h0⟩:=h0
  exact ⟨I,n,h0,fun n T H hI=>h n T H hI _ (fun m T H h1 h2=>⟨m,h1,h2⟩) (fun _ _ h=>h) (fun _ _ _ h=>h)⟩
theorem aLL {a:SC} (I:Nat→(Nat→V)→aF→Prop) (h0: ∃ n,I n T H)
    (h: ∀ n T H,I n T H→ ∀ Q':Ex→(Nat→V)→aF→Prop,(∀ m T H,m < n→I m T H→Q' .norm T H)→(∀ T H,Q .ret T H→Q' .ret T H)→(∀ n T H,Q (.exit n) T H→Q' (.exit n) T H)→(∀ c T H,Q (.pan c) T H→Q' (.pan c) T H)→W P k0 a Q' T H):W P k0 (.loop a) Q T H:=by
  simp only [W]
  obtain ⟨n,h0⟩:=h0
  exact ⟨I,n,h0,fun n T H hI=>h n T H hI _ (fun m T H h1 h2=>⟨m,h1,h2⟩) (fun _ _ h=>h) (fun _ _ _ h=>h) (fun _ _ _ h=>h)⟩
end
attribute [simp] hJ eY asB gd ev evs Ops St gF qX nE unV wX aAa sR aDi dM aFP zJ mnV mxV ptr ldV xQ jN nQ nN fL V.cells V.one ok Ret T0 gP fz2 fz1 fz0 V.pure cM eK
def nth {α:Type} [Inhabited α] (l:List α) (k:Nat):α:=l.getD k default
theorem wP {α:Type} [Inhabited α] {l:List α} {k:Nat} (h:k < l.length):l[k]?=some (nth l k):=by
  simp [nth,h]
theorem aO {α:Type} [Inhabited α] {l:List α} {k:Nat} (h:k < l.length):l[k]=nth l k:=by
  simp [nth,h]
theorem aHy {α:Type} [Inhabited α] {l:List α} {k:Nat} (h:k < l.length):l.drop k=nth l k::l.drop (k+1):=by
  rw [← aO h]; exact List.drop_eq_getElem_cons h
abbrev iV (n:Int):V:=.int .i64 n
abbrev cI (n:Int):List V:=[.int .i64 n]
abbrev aH (l:List Int):V:=.sl (l.map cI)
abbrev cL (l:List Int):List V:=[aH l]
abbrev aD (l:List (List Int)):V:=.sl (l.map cL)
@[simp] theorem rT {α : Type} [Inhabited α] (f : α → List V) (l : List α) (k : Int) (h0 : 0 ≤ k) (h : k < l.length) : aEo (l.map f) k = some (f (nth l k.toNat)) := by
  have:k.toNat < l.length:=by omega
  simp [aEo,h0,wP this]
@[simp] theorem aUb {α : Type} [Inhabited α] (H : aF) (e : Nat) (f : α → List V) (l : List α) (kd : IntKind) (k : Int) (h0 : 0 ≤ k) (h : k < l.length) (he : ∀ a, (f a).length = e) :
    nP H e (.sl (l.map f)) (.int kd k)=some (.pp (f (nth l k.toNat))):=by
  simp [nP,rT f l k h0 h,he]
@[simp] theorem aEl {n:Int} (h1: -9223372036854775808≤n) (h2:n < 9223372036854775808):IntKind.i64.wrap n=n:=IntWalk.i64_in n ⟨by omega,by omega⟩
@[simp] theorem fQ {α : Type} (f : α → List V) (l : List α) (h : ∀ a, cM (f a) = true) : eK (l.map f) = true := by
  rw [gE]; intro r hr; obtain ⟨a,_,rfl⟩:=List.mem_map.1 hr; exact h a
@[simp] theorem aIb (r:List (List V)):(V.sl r).canon=cX r:=by rw [V.canon]
@[simp] theorem aTn (r:List V):(V.pp r).canon=cJ r:=by rw [V.canon]
@[simp] theorem aRs (r:List V):(V.agg r).canon=cJ r:=by rw [V.canon]
@[simp] theorem aRy (r:List V):(V.tup r).canon=cJ r:=by rw [V.canon]
@[simp] theorem aSN (f:Nat) (a b:List V):(V.fn f a b).canon=(cJ a&&cJ b):=by rw [V.canon]
@[simp] theorem aSo (a b c d:Nat):(V.ms a b c d).canon=false:=by rw [V.canon]
@[simp] theorem aSy (a b c d:Nat):(V.mp a b c d).canon=false:=by rw [V.canon]
@[simp] theorem aRu (k:IntKind) (n:Int):(V.int k n).canon=true:=by rw [V.canon]
@[simp] theorem aP9 (b:Bool):(V.bool b).canon=true:=by rw [V.canon]
@[simp] theorem aRt (s:List UInt8):(V.str s).canon=true:=by rw [V.canon]
@[simp] theorem aMj:V.nilsl.canon=false:=by rw [V.canon]
@[simp] theorem aQq:V.nilp.canon=true:=by rw [V.canon]
@[simp] theorem aRv (c:Value):(V.raw c).canon=true:=by rw [V.canon]
@[simp] theorem aPp:cJ []=true:=by rw [cJ]
@[simp] theorem aMv (v:V) (l:List V):cJ (v::l)=(v.canon&&cJ l):=by rw [cJ]
@[simp] theorem aMw:cX []=true:=by rw [cX]
@[simp] theorem aJw (v:List V) (l:List (List V)):cX (v::l)=(cJ v&&cX l):=by rw [cX]
@[simp] theorem aNx {z:Bool} {H:aF} {n:Nat} {v:V} (h:v.canon=true):fzv z H n v=v:=dC n v h
theorem dQ {α:Type} (f:α→List V) (l:List α) (h: ∀ a,cJ (f a)=true):cX (l.map f)=true:=by
  rw [sD]; intro r hr; obtain ⟨a,_,rfl⟩:=List.mem_map.1 hr; exact h a
@[simp] theorem aKe (l:List Int):cX (l.map cI)=true:=dQ _ _ fun a=>by simp [cI]
@[simp] theorem aII (l:List (List Int)):cX (l.map cL)=true:=dQ _ _ fun a=>by simp [cL]
end Go.Proofs.YtmnnhjhkaepbaaaGreat


namespace Go.Proofs.YtmnnhjhkaepbaaaGreat
open Go
structure XF where
  s:SF
  fz:List (Nat×Nat)
abbrev iX:=Bool→Nat→List V→aF→Option (V×aF)
structure PrimA where
  a:Nat→Nat→List V→aF→Option (V×Blk)
  p:Nat→List V→Option V
def eG (P:Program) (qa:PrimA):Prop:=(∀ id f args H v b,qa.a id f args H=some (v,b)→b.live=true∧ ∀ H2:aF,H2 id=H id→dB P f args H2 v (upd H2 id b))∧ ∀ f args v,qa.p f args=some v→aS P f args v
def exX (call : iX) (qa : PrimA) (id : Nat) (x : X) (T : Nat → V) (H : aF) : Option (V × aF) :=
  match x with
  | .mv a=>some (ev T a,H)
  | .lazy ty sz=>some (.ms id ((H id).ver+1) 0 0,upd H id ⟨(H id).ver+1,true,true,ty,sz,[]⟩)
  | .pick c a b => match asB (ev T c) with
    |some bb=>some (if bb then ev T a else ev T b,H)
    |none=>none
  | .alloc ty z=>some (.mp id ((H id).ver+1) 0 0,upd H id ⟨(H id).ver+1,true,false,ty,z.length,[z]⟩)
  | .box ty _ a=>some (.mp id ((H id).ver+1) 0 0,upd H id ⟨(H id).ver+1,true,false,ty,(ev T a).cells.length,[(ev T a).cells]⟩)
  | .build z ps=>(bld z (ps.map fun p=>(p.1,p.2.1,ev T p.2.2))).map fun cs=>(.agg cs,H)
  | .bslice ty esz own z len ps=>(lT esz (List.replicate len z) (ps.map fun p=>(p.1,ev T p.2))).map fun rows=>
      if own then (.ms id ((H id).ver+1) 0 rows.length,upd H id ⟨(H id).ver+1,true,false,ty,esz,rows⟩) else (.sl rows,H)
  | .load agg n a=>((ptr H (ev T a)).bind (ldV agg n)).map fun v=>(v,H)
  | .ldp agg n a=>((aIu (ev T a)).bind (ldV agg n)).map fun v=>(v,H)
  | .store n a b=>(stP H n (ev T b).cells (ev T a)).map fun H'=>(.raw undef,H')
  | .bin op a b=>(gF op (ev T a) (ev T b)).map fun v=>(v,H)
  | .sbin op a b=>(qX op (ev T a) (ev T b)).map fun v=>(v,H)
  | .bbin op a b=>(nE op (ev T a) (ev T b)).map fun v=>(v,H)
  | .abin neg q a b=>(qW neg q (ev T a) (ev T b)).map fun v=>(v,H)
  | .un op a=>(unV op (ev T a)).map fun v=>(v,H)
  | .conv kd a=>(wX kd (ev T a)).map fun v=>(v,H)
  | .fld off a=>(aAa off (ev T a)).map fun v=>(v,H)
  | .part agg off n a=>(sR agg off n (ev T a)).map fun v=>(v,H)
  | .idx esz a i=>(nP H esz (ev T a) (ev T i)).map fun v=>(v,H)
  | .sidx a i=>(aBS (ev T a) (ev T i)).map fun v=>(v,H)
  | .aidx agg n len a i=>(aBq agg n len (ev T a) (ev T i)).map fun v=>(v,H)
  | .apos n len a i=>(xD n len (ev T a) (ev T i)).map fun v=>(v,H)
  | .slice esz a lo hi=>(iR H esz (lo.map (ev T)) (hi.map (ev T)) (ev T a)).map fun v=>(v,H)
  | .sslice a lo hi=>(pQ (lo.map (ev T)) (hi.map (ev T)) (ev T a)).map fun v=>(v,H)
  | .mks ty esz bytes z l c=>(rP bytes (ev T l) (ev T c)).map fun n=>
      (.ms id ((H id).ver+1) 0 n.1,upd H id ⟨(H id).ver+1,true,false,ty,esz,List.replicate n.1 z⟩)
  | .ext a i=>(aFP i (ev T a)).map fun v=>(v,H)
  | .mkf f caps=>some (.fn f [] (evs T caps),H)
  | .bstr a=>(yF (ev T a)).map fun v=>(v,H)
  | .mkm f a b=>some (.fn f (evs T a) (evs T b),H)
  | .mki ty a=>(aGA (ev T a)).map fun c=>(.raw (.iface ty c),H)
  | .tas ty a=>(aHs ty (ev T a)).map fun v=>(v,H)
  | .nilck a=>(aAh (ev T a)).map fun v=>(v,H)
  | .len a=>(xQ H (ev T a)).map fun v=>(v,H)
  | .clr z a=>(aFI H z (ev T a)).map fun H'=>(.tup [],H')
  | .cpy n a b=>(aIh H n (ev T b) (ev T a)).map fun p=>(.int .i64 p.1,p.2)
  | .slen a=>(zJ (ev T a)).map fun v=>(v,H)
  | .mn a b=>(mnV (ev T a) (ev T b)).map fun v=>(v,H)
  | .mn3 a b c=>((mnV (ev T a) (ev T b)).bind fun u=>mnV u (ev T c)).map fun v=>(v,H)
  | .mx a b=>(mxV (ev T a) (ev T b)).map fun v=>(v,H)
  | .append ty esz bytes s a => match ev T s with
    | .ms i ver off len => if (H i).live && decide ((H i).ver = ver) then if off = 0 then if len = (H i).rows.length then if (H i).ty = ty then if (H i).sz = esz then
        match pN H (ev T a) with
        | some new => if cK esz new = true then if (len + new.length) * bytes ≤ 140737488355328 then if len + new.length ≤ 9223372036854775807 then
            some (.ms i (ver+1) 0 (len+new.length),upd H i {H i with ver:=ver+1,rows:=(H i).rows++new})
          else none else none else none
        |none=>none
        else none else none else none else none else none
    |_=>none
  | .call true f args=>call true f (evs T args) H
  | .call false f args => match qa.p f (evs T args) with
    |some v=>some (v,H)
    |none=>call false f (evs T args) H
  | .callA f args=>(qa.a id f (evs T args) H).map fun p=>(p.1,upd H id p.2)
  | .callv e g args => match ev T g with
    | .fn f first caps=>call e f (first++evs T args++caps) H
    |_=>none
  | .isnil neg a => match ev T a with
    | .nilsl=>some (.bool (!neg),H)
    | .sl (_::_)=>some (.bool neg,H)
    |_=>none
  | .mkmap=>some (.mm id ((H id).ver+1),upd H id ⟨(H id).ver+1,true,true,bL,2,[[.nilp,.nilp]]⟩)
  | .mlook kd ok z m x=>(vH H kd z (ev T m) (ev T x)).map fun p=>(if ok then .tup [p.1,.bool p.2] else p.1,H)
  | .mset kd m x v=>(uV H kd (ev T m) (ev T x) (ev T v)).map fun H'=>(.raw undef,H')
  | .mlen a=>(yK H (ev T a)).map fun v=>(v,H)
  | .bad=>none
theorem aH8 {P : Program} {call : iX} (hc : ∀ e f args H v H', call e f args H = some (v, H') → ∀ k : V → aF → Prop, k v H' → jT P e f args H k)
    {qa:PrimA} (hqa:eG P qa)
    {id:Nat} {x:X} {T:Nat→V} {H:aF} {v:V} {H':aF} (h:exX call qa id x T H=some (v,H')) {k:V→aF→Prop} (hk:k v H'):St P id x T H k:=by
  have hm: ∀ {α:Type} {o:Option α} {g:α→V×aF},o.map g=some (v,H')→onS o fun a=>k (g a).1 (g a).2:=by
    intro α o g h
    cases o with
    |none=>cases h
    |some a=>simp only [Option.map_some,Option.some.injEq] at h; simp [h,hk]
  cases x <;> simp only [exX] at h <;> simp only [St]
  case mv a=>cases h; exact hk
  case lazy=>cases h; exact hk
  case alloc=>cases h; exact hk
  case box=>cases h; exact hk
  case mkf=>cases h; exact hk
  case mkm=>cases h; exact hk
  case pick c a b=>
    split at h
    · rename_i bb hb; cases h; rw [hb]; exact hk
    · cases h
  case bslice ty esz own z len ps=>
    have:=hm h
    rw [aN] at this ⊢
    obtain ⟨rows,h1,h2⟩:=this
    refine ⟨rows,h1,?_⟩
    cases own <;> exact h2
  case append ty esz bytes s a =>
    split at h
    · rename_i i ver off len he
      rw [he]
      split at h
      · rename_i c1
        split at h
        · rename_i c2
          split at h
          · rename_i c3
            split at h
            · rename_i c4
              split at h
              · rename_i c5
                split at h
                · rename_i new hn
                  split at h
                  · rename_i c6
                    split at h
                    · rename_i c7
                      split at h
                      · rename_i c8
                        cases h
                        simp only
                        rw [if_pos c1,if_pos c2,if_pos c3,if_pos c4,if_pos c5,hn,cQ,if_pos c6,if_pos c7,if_pos c8]
                        exact hk
                      · cases h
                    · cases h
                  · cases h
                · cases h
              · cases h
            · cases h
          · cases h
        · cases h
      · cases h
    · cases h
  case call e f args=>
    cases e with
    |true=>exact hc _ _ _ _ _ _ h _ hk
    | false =>
      simp only at h
      split at h
      · rename_i v0 h1
        cases h
        exact vC (hqa.2 _ _ _ h1) hk
      · exact hc _ _ _ _ _ _ h _ hk
  case callA f args=>
    rw [Option.map_eq_some_iff] at h
    obtain ⟨p,h1,h2⟩:=h
    cases h2
    obtain ⟨h3,h4⟩:=hqa.1 _ _ _ _ _ _ h1
    exact ⟨_,_,h3,h4,hk⟩
  case callv e g args=>
    split at h
    · rename_i f first caps he; rw [he]; exact hc _ _ _ _ _ _ h _ hk
    · cases h
  case isnil neg a=>
    split at h
    · rename_i he; rw [he]; cases h; exact hk
    · rename_i r l he; rw [he]; cases h; exact ⟨fun h=>(List.cons_ne_nil _ _ h).elim,hk⟩
    · cases h
  case mkmap=>cases h; exact hk
  case bad=>cases h
  all_goals exact hm h
def lR (call : iX) (qa : PrimA) (k0 : Nat) : List SO → (Nat → V) → aF → Option ((Nat → V) × aF)
  |[],T,H=>some (T,H)
  | o :: r, T, H => match o.g with
    | none => match exX call qa (k0 + o.d.getD 0) o.x T H with
      |some (v,H')=>lR call qa k0 r (eY T o.d v) H'
      |none=>none
    | some (t, want) => match gd want (T t) with
      |true=>match exX call qa (k0+o.d.getD 0) o.x T H with
          |some (v,H')=>lR call qa k0 r (eY T o.d v) H'
          |none=>none
      |false=>lR call qa k0 r (eY T o.d (.raw undef)) H
theorem rG {P : Program} {call : iX} (hc : ∀ e f args H v H', call e f args H = some (v, H') → ∀ k : V → aF → Prop, k v H' → jT P e f args H k) {qa : PrimA} (hqa : eG P qa) {k0 : Nat} :
    ∀ (ops:List SO) (T:Nat→V) (H:aF) (T':Nat→V) (H':aF),lR call qa k0 ops T H=some (T',H')→ ∀ K:(Nat→V)→aF→Prop,K T' H'→Ops P k0 ops T H K:=by
  intro ops
  induction ops with
  |nil=>intro T H T' H' h K hK; cases h; exact hK
  | cons o r ih =>
    intro T H T' H' h K hK
    simp only [lR] at h
    simp only [Ops]
    split at h
    · rename_i hg
      split at h
      · rename_i v H1 h1
        rw [hg]
        exact aH8 hc hqa h1 (ih _ _ _ _ h K hK)
      · cases h
    · rename_i t want hg
      rw [hg]
      split at h
      · rename_i hb
        simp only [hb]
        split at h
        · rename_i v H1 h1
          exact ⟨fun _=>aH8 hc hqa h1 (ih _ _ _ _ h K hK),fun hn=>(by cases hn)⟩
        · cases h
      · rename_i hb
        simp only [hb]
        exact ⟨fun hn=>(by cases hn),fun _=>ih _ _ _ _ h K hK⟩
def aL4 (H:aF) (d k0:Nat):Nat→Nat
  |0=>k0
  |n+1=>if (H (k0+d)).live then aL4 H d (k0+65536) n else k0
def kOf (k0:Nat) (fz:List (Nat×Nat)) (H:aF) (ops:List SO):Nat:=match fz.find? (fun p=>decide (1000003≤p.2)&&decide (p.2 < 1000000000)&&ops.any fun o=>o.d==some p.1) with
  |some p=>aL4 H (p.2 - 1000003) k0 200
  |none=>k0
structure LzA where
  id':Nat
  ty:Nat
  sz:Nat
  id:Nat
  off:Nat
def aRE (k0 c:Nat):Nat ⊕ LzA:=if c < 1000000000 then .inl (k0+c) else
  .inr ⟨k0+(c - 1000000000) / 1000000000,(c / 1000000) % 1000,(c / 100000) % 10,k0+(c / 100) % 1000,c % 100⟩
def aB5 (k0 : Nat) (fz : List (Nat × Nat)) : SC → List (Nat ⊕ LzA)
  | .reg ops | .dreg _ ops | .xreg _ ops => ops.foldr (fun o l => match o.d with
    |some d=>(fz.filter (fun p=>p.1==d&& !(decide (1000003≤p.2)&&decide (p.2 < 1000000000)))).map (fun p=>aRE k0 p.2)++l
    |none=>l) []
  | .seq a _=>aB5 k0 fz a
  |_=>[]
inductive LzR where
  |no
  |nl (H:aF)
  |fc (id:Nat) (H:aF)
  |fp (s:Nat) (v:V) (H:aF)
def aC5 (a : LzA) (T : Nat → V) (H : aF) : LzR := match Nat.beq a.ty 999 with
  | true => match T (a.id' - a.id) with
    | .mp id ver row off => if (H id).ver = ver ∧ (H id).own = true then match (H id).rows[row]? with
        |some r=>.fp (a.id' - a.id) (.pp (r.drop off)) (iT id H)
        |none=>.no
      else .no
    |_=>.no
  | false => match (H a.id).rows with
    | r :: _ => match r[a.off]? with
      |some .nilsl=>if a.id'≠a.id∧(H a.id).own=true∧a.ty < 4294967296 then
          .nl (upd (upd H a.id' ⟨(H a.id').ver+1,true,true,a.ty,a.sz,[]⟩) a.id {H a.id with rows:=(H a.id).rows.set 0 (r.set a.off (.ms a.id' ((H a.id').ver+1) 0 0))}) else .no
      |some (.ms i ver 0 len)=>if i≠a.id'∧a.id≠i∧(H i).live=true∧(H i).ver=ver∧(H a.id).own=true then
          .fc i (upd (iT i H) a.id {H a.id with rows:=(H a.id).rows.set 0 (r.set a.off (.sl ((H i).rows.take len)))}) else .no
      |_=>.no
    |[]=>.no
def lzC (a : LzA) (T : Nat → V) (H : aF) : LzR := match Nat.beq a.ty 998 with
  | true => match (H a.id).rows[(H a.id).rows.length - 1]? with
    | some r => match r[a.off]? with
      |some (.ms i ver 0 len)=>if a.id≠i∧(H i).live=true∧(H i).ver=ver∧(H a.id).own=true then
          .fc i (upd (iT i H) a.id {H a.id with rows:=(H a.id).rows.set ((H a.id).rows.length - 1) (r.set a.off (.sl ((H i).rows.take len)))}) else .no
      |_=>.no
    |none=>.no
  |false=>aC5 a T H
def frz : List (Nat ⊕ LzA) → (Nat → V) → aF → (Nat → V) × aF
  |[],T,H=>(T,H)
  | .inl id::l,T,H=>frz l (fzT id H T) (iT id H)
  | .inr a :: l, T, H => match lzC a T H with
    | .no=>frz l T H
    | .nl H'=>frz l T H'
    | .fc i H'=>frz l (fzT i H T) H'
    | .fp s v H'=>frz l (upd T s v) H'
theorem aO2 {K : (Nat → V) → aF → Prop} {a : LzA} {T : Nat → V} {H : aF} :
    (∀ H',aC5 a T H=.nl H'→G K T H'→G K T H)∧(∀ i H',aC5 a T H=.fc i H'→G K (fzT i H T) H'→G K T H)∧ ∀ s v H',aC5 a T H=.fp s v H'→G K (upd T s v) H'→G K T H:=by
  unfold aC5
  split
  · split
    · rename_i id ver row off ht
      split
      · rename_i hc
        split
        · rename_i r hr
          exact ⟨fun _ h=>(by cases h),fun _ _ h=>(by cases h),fun s v H' h hk=>by
            cases h
            exact .freezeP id _ ver row off r ht hc.1 hc.2 hr hk⟩
        · exact ⟨fun _ h=>(by cases h),fun _ _ h=>(by cases h),fun _ _ _ h=>(by cases h)⟩
      · exact ⟨fun _ h=>(by cases h),fun _ _ h=>(by cases h),fun _ _ _ h=>(by cases h)⟩
    · exact ⟨fun _ h=>(by cases h),fun _ _ h=>(by cases h),fun _ _ _ h=>(by cases h)⟩
  · split
    · rename_i r rs hr
      split
      · rename_i hc
        split
        · rename_i hg
          exact ⟨fun H' h hk=>by
            cases h
            exact .lazyCell a.id' a.ty a.sz a.id 0 a.off r hg.1 hg.2.1 (by rw [hr]; rfl) hc hk hg.2.2,fun _ _ h=>(by cases h),fun _ _ _ h=>(by cases h)⟩
        · exact ⟨fun _ h=>(by cases h),fun _ _ h=>(by cases h),fun _ _ _ h=>(by cases h)⟩
      · rename_i i ver len hc
        split
        · rename_i hg
          exact ⟨fun _ h=>(by cases h),fun j H' h hk=>by
            cases h
            exact .frzCell i ver len a.id 0 a.off r hg.2.1 hg.2.2.1 hg.2.2.2.1 hg.2.2.2.2 (by rw [hr]; rfl) hc hk,fun _ _ _ h=>(by cases h)⟩
        · exact ⟨fun _ h=>(by cases h),fun _ _ h=>(by cases h),fun _ _ _ h=>(by cases h)⟩
      · exact ⟨fun _ h=>(by cases h),fun _ _ h=>(by cases h),fun _ _ _ h=>(by cases h)⟩
    · exact ⟨fun _ h=>(by cases h),fun _ _ h=>(by cases h),fun _ _ _ h=>(by cases h)⟩
theorem aGS {K : (Nat → V) → aF → Prop} {a : LzA} {T : Nat → V} {H : aF} :
    (∀ H',lzC a T H=.nl H'→G K T H'→G K T H)∧(∀ i H',lzC a T H=.fc i H'→G K (fzT i H T) H'→G K T H)∧ ∀ s v H',lzC a T H=.fp s v H'→G K (upd T s v) H'→G K T H:=by
  unfold lzC
  split
  · split
    · rename_i r hr
      split
      · rename_i i ver len hc
        split
        · rename_i hg
          exact ⟨fun _ h=>(by cases h),fun j H' h hk=>by
            cases h
            exact .frzCell i ver len a.id ((H a.id).rows.length - 1) a.off r hg.1 hg.2.1 hg.2.2.1 hg.2.2.2 hr hc hk,fun _ _ _ h=>(by cases h)⟩
        · exact ⟨fun _ h=>(by cases h),fun _ _ h=>(by cases h),fun _ _ _ h=>(by cases h)⟩
      · exact ⟨fun _ h=>(by cases h),fun _ _ h=>(by cases h),fun _ _ _ h=>(by cases h)⟩
    · exact ⟨fun _ h=>(by cases h),fun _ _ h=>(by cases h),fun _ _ _ h=>(by cases h)⟩
  · exact aO2
theorem yW {K:(Nat→V)→aF→Prop}: ∀ (l:List (Nat ⊕ LzA)) (T:Nat→V) (H:aF),K (frz l T H).1 (frz l T H).2→G K T H
  |[],_,_,h=>.done h
  | .inl id::l,_T,H,h=>.freeze id (yW l _ _ h)
  | .inr a :: l, T, H, h => by
    simp only [frz] at h
    cases hz:lzC a T H with
    |no=>rw [hz] at h; exact yW l _ _ h
    |nl H'=>rw [hz] at h; exact aGS.1 _ hz (yW l _ _ h)
    |fc i H'=>rw [hz] at h; exact aGS.2.1 _ _ hz (yW l _ _ h)
    |fp s v H'=>rw [hz] at h; exact aGS.2.2 _ _ _ hz (yW l _ _ h)
abbrev xU:=Nat→Nat→List (Nat×Nat)→SC→(Nat→V)→aF→Option (Ex×(Nat→V)×aF)
abbrev jJ:=Nat→List V→aF→Option (V×aF)
def rN (F : Nat → Option XF) (run : xU) (k1 : Nat) : iX := fun e f args H => match F f with
  |none=>none
  | some g => if args.length ≤ g.s.n then match e with
    | true => match run k1 g.s.n g.fz g.s.body (T0 args) H with
      |some (.exit _,_,_)=>none
      |some (.pan _,_,_)=>none
      |some (_,T',H')=>(nN g.s.res T' H').map fun v=>(v,H')
      |none=>none
    | false => if cM (args.map (fzv false H 4)) then match run 0 g.s.n g.fz g.s.body (T0 (args.map (fzv false H 4))) H0 with
        |some (.exit _,_,_)=>none
        |some (.pan _,_,_)=>none
        | some (_, T', H') => match nN g.s.res T' H' with
          |some u=>if (fzv false H' 6 u).pure then if cM args||(fzv false H' 6 u).scalar then some (fzv false H' 6 u,H) else none else none
          |none=>none
        |none=>none
      else none
    else none
def mU (q : jJ) (F : Nat → Option XF) (run : xU) (k1 : Nat) : iX := fun e f args H => match e with
  | true => match q f args H with
    |some r=>some r
    |none=>rN F run k1 true f args H
  |false=>rN F run k1 false f args H
def aHe (q : jJ) (qa : PrimA) (F : Nat → Option XF) (run : xU) : xU := fun k0 n fz c T H => match c with
  | .skip=>some (.norm,T,H)
  | .ret=>some (.ret,T,H)
  | .exit j=>some (.exit j,T,H)
  | .pop _ _=>none
  | .reg ops=>(lR (mU q F run (kOf k0 fz H ops+n)) qa (kOf k0 fz H ops) ops T H).map fun p=>(.norm,p.1,p.2)
  | .dreg kW ops=>if kW.all (fun d=> !(H (kOf k0 fz H ops+d)).live) then (lR (mU q F run (kOf k0 fz H ops+n)) qa (kOf k0 fz H ops) ops T H).map fun p=>(.norm,p.1,p.2) else none
  | .xreg ps ops => match lR (mU q F run (kOf k0 fz H ops + n)) qa (kOf k0 fz H ops) ops T H with
    |some (T',H')=>if ddB ps ops T'=true then some (.norm,T',H') else none
    |none=>none
  | .seq a b => match run k0 n fz a T H with
    |some (.norm,T',H')=>run k0 n fz b (frz (aB5 k0 fz b) T' H').1 (frz (aB5 k0 fz b) T' H').2
    |r=>r
  | .cond c a b => match asB (ev T c) with
    |some true=>run k0 n fz a T H
    |some false=>run k0 n fz b T H
    |none=>none
  | .block id a => match run k0 n fz a T H with
    |some (.exit j,T',H')=>if j=id then some (.norm,T',H') else some (.exit j,T',H')
    |r=>r
  | .loop a => match run k0 n fz a T H with
    |some (.norm,T',H')=>run k0 n fz (.loop a) T' H'
    |r=>r
def run (q:jJ) (qa:PrimA) (F:Nat→Option XF) (m:Nat):xU:=Nat.rec (fun _ _ _ _ _ _=>none) (fun _ ih=>aHe q qa F ih) m
theorem aCK (q:jJ) (qa:PrimA) (F:Nat→Option XF):run q qa F 0=fun _ _ _ _ _ _=>none:=rfl
theorem pJ (q:jJ) (qa:PrimA) (F:Nat→Option XF) (m:Nat):run q qa F (m+1)=aHe q qa F (run q qa F m):=rfl
def aBW (P : Program) (F : Nat → Option XF) : Prop := ∀ f g, F f = some g → ∃ fn op, P.funcs[f]? = some fn ∧ aM P op fn = some g.s ∧ (fn.name == "runtime.NumGoroutine") = false
section
variable {P:Program} {F:Nat→Option XF} {q:jJ} {qa:PrimA}
def fU (P:Program) (q:jJ):Prop:= ∀ f args H v H',q f args H=some (v,H')→dB P f args H v H'
def vJ (P:Program) (r:xU):Prop:= ∀ k0 n fz c T H e T' H',r k0 n fz c T H=some (e,T',H')→ ∀ Q:Ex→(Nat→V)→aF→Prop,Q e T' H'→W P k0 c Q T H
theorem uQ (hF : aBW P F) {r : xU} (hr : vJ P r) {k1 f : Nat} {args : List V} {H : aF} {v : V} {H' : aF} (h : mU q F r k1 false f args H = some (v, H')) :
    H'=H∧aS P f (args.map (fzv false H 4)) v∧cM (args.map (fzv false H 4))=true∧(cM args=true∨v.scalar=true):=by
  simp only [mU,rN] at h
  split at h
  · cases h
  · rename_i g hg
    obtain ⟨fn,op,h1,h2,h3⟩:=hF _ _ hg
    split at h
    · rename_i hl
      split at h
      · rename_i hp
        split at h
        · cases h
        · cases h
        · rename_i e T1 H1 hne hne2 hrun
          split at h
          · rename_i u hu
            split at h
            · rename_i hpu
              split at h
              · rename_i hs
                cases h
                refine ⟨rfl,uY false 6 h1 h2 h3 (by simpa using hl) hp hpu (hr _ _ _ _ _ _ _ _ _ hrun _ ?_),hp,by simpa using hs⟩
                cases e with
                |norm=>simp only [Ret,hu,cQ]
                |ret=>simp only [Ret,hu,cQ]
                |exit j=>exact (hne _ rfl).elim
                |pan c=>exact (hne2 _ rfl).elim
              · cases h
            · cases h
          · cases h
        · cases h
      · cases h
    · cases h
theorem uL (hq : fU P q) (hF : aBW P F) {r : xU} (hr : vJ P r) {k1 : Nat} (e : Bool) (f : Nat) (args : List V) (H : aF) (v : V) (H' : aF) (h : mU q F r k1 e f args H = some (v, H')) (k : V → aF → Prop) (hk : k v H') : jT P e f args H k := by
  cases e with
  | false =>
    obtain ⟨rfl,h1,h2,h3⟩:=uQ hF hr h
    by_cases hp:cM args=true
    · have h1:=h1.argz false 4 hp
      exact vC h1 hk
    · have hs:v.scalar=true:=h3.resolve_left hp
      exact aFm (h1.lendz false 4 h2 hs) hk
  | true =>
    simp only [mU] at h
    split at h
    · rename_i r1 hr1
      cases h
      exact aAc (hq _ _ _ _ _ hr1) hk
    simp only [rN] at h
    split at h
    · cases h
    · rename_i g hg
      obtain ⟨fn,op,h1,h2,h3⟩:=hF _ _ hg
      split at h
      · rename_i hl
        split at h
        · cases h
        · cases h
        · rename_i e T1 H1 hne hne2 hrun
          rw [Option.map_eq_some_iff] at h
          obtain ⟨u,hu,he⟩:=h
          cases he
          refine aAc (aBk (k0:=k1) h1 h2 h3 hl (hr _ _ _ _ _ _ _ _ _ hrun _ ?_)) hk
          cases e with
          |norm=>simp only [Ret,hu,cQ,and_self]
          |ret=>simp only [Ret,hu,cQ,and_self]
          |exit j=>exact (hne _ rfl).elim
          |pan c=>exact (hne2 _ rfl).elim
        · cases h
      · cases h
theorem aN8 (hq : fU P q) (hqa : eG P qa) (hF : aBW P F) : ∀ m, (∀ j, j < m → vJ P (run q qa F j)) → vJ P (run q qa F m) := by
  intro m hm
  cases m with
  |zero=>intro k0 n fz c T H e T' H' h; rw [aCK] at h; cases h
  | succ m =>
    intro k0 n fz c T H e T' H' h Q hQ
    have hr:vJ P (run q qa F m):=hm m (Nat.lt_succ_self m)
    rw [pJ] at h
    cases c <;> simp only [aHe] at h
    case skip=>cases h; exact hQ
    case ret=>cases h; exact hQ
    case exit=>cases h; exact hQ
    case pop=>cases h
    case reg ops=>
      rw [Option.map_eq_some_iff] at h
      obtain ⟨p,hp,he⟩:=h
      cases he
      exact ⟨_,rG (fun e f args H v H' h k hk=>uL hq hF hr e f args H v H' h k hk) hqa _ _ _ _ _ hp _ hQ⟩
    case xreg ps ops=>
      split at h
      · rename_i T1 H1 h1
        split at h
        · rename_i hd
          cases h
          exact ⟨_,rG (fun e f args H v H' h k hk=>uL hq hF hr e f args H v H' h k hk) hqa _ _ _ _ _ h1 _ ⟨hd,hQ⟩⟩
        · cases h
      · cases h
    case dreg kW ops=>
      split at h
      · rename_i hl
        rw [Option.map_eq_some_iff] at h
        obtain ⟨p,hp,he⟩:=h
        cases he
        refine ⟨_,fun d hd=>?_,rG (fun e f args H v H' h k hk=>uL hq hF hr e f args H v H' h k hk) hqa _ _ _ _ _ hp _ hQ⟩
        have:=List.all_eq_true.1 hl d hd
        simpa using this
      · cases h
    case seq a b=>
      simp only [W]
      split at h
      · rename_i T1 H1 h1
        refine hr _ _ _ _ _ _ _ _ _ h1 _ ?_
        exact yW _ _ _ (hr _ _ _ _ _ _ _ _ _ h Q hQ)
      · rename_i r hne
        refine hr _ _ _ _ _ _ _ _ _ h _ ?_
        cases e with
        |norm=>exact (hne _ _ h).elim
        |ret=>exact hQ
        |exit j=>exact hQ
        |pan c=>exact hQ
    case cond c a b=>
      simp only [W]
      split at h
      · rename_i hb; simp only [hb,cQ]; exact ⟨fun _=>hr _ _ _ _ _ _ _ _ _ h Q hQ,fun hn=>by cases hn⟩
      · rename_i hb; simp only [hb,cQ]; exact ⟨fun hn=>(by cases hn),fun _=>hr _ _ _ _ _ _ _ _ _ h Q hQ⟩
      · cases h
    case block id a=>
      simp only [W]
      split at h
      · rename_i j T1 H1 h1
        refine hr _ _ _ _ _ _ _ _ _ h1 _ ?_
        simp only
        split at h
        · rename_i hj; cases h; rw [if_pos hj]; exact hQ
        · rename_i hj; cases h; rw [if_neg hj]; exact hQ
      · rename_i r hne
        refine hr _ _ _ _ _ _ _ _ _ h _ ?_
        cases e with
        |norm=>exact hQ
        |ret=>exact hQ
        |exit j=>exact (hne _ _ _ h).elim
        |pan c=>exact hQ
    case loop a=>
      refine aLL (fun j T H=>j≤m+1∧run q qa F j k0 n fz (.loop a) T H=some (e,T',H')) ⟨m+1,Nat.le_refl _,by rw [pJ]; exact h⟩ ?_
      intro j T2 H2 ⟨hj,h2⟩ Q' p1 p2 p3 p4
      cases j with
      |zero=>rw [aCK] at h2; cases h2
      | succ j =>
        rw [pJ] at h2
        simp only [aHe] at h2
        have hrj:vJ P (run q qa F j):=hm j (by omega)
        split at h2
        · rename_i T1 H1 h1
          exact hrj _ _ _ _ _ _ _ _ _ h1 _ (p1 j T1 H1 (by omega) ⟨by omega,h2⟩)
        · rename_i r hne
          refine hrj _ _ _ _ _ _ _ _ _ h2 _ ?_
          cases e with
          |norm=>exact (hne _ _ h2).elim
          |ret=>exact p2 _ _ hQ
          |exit q=>exact p3 _ _ _ hQ
          |pan c=>exact p4 _ _ _ hQ
theorem aFp (hq:fU P q) (hqa:eG P qa) (hF:aBW P F) (m:Nat):vJ P (run q qa F m):=by
  induction m using Nat.strongRecOn with
  |_ m ih=>exact aN8 hq hqa hF m ih
theorem zV (hq:fU P q) (hqa:eG P qa) (hF:aBW P F) (m:Nat) {f:Nat} {args:List V} {v:V} (hp:cM args=true) (h:(mU q F (run q qa F m) 0 false f args H0).map (·.1)=some v):aS P f args v:=by
  rw [Option.map_eq_some_iff] at h
  obtain ⟨⟨v',H'⟩,h,he⟩:=h
  cases he
  obtain ⟨_,h1,h2,h3⟩:=uQ hF (aFp hq hqa hF m) h
  exact h1.argz false 4 hp
def aTp (P : Program) (p : Nat × XF) : Prop := ∃ fn op, P.funcs[p.1]? = some fn ∧ aM P op fn = some p.2.s ∧ (fn.name == "runtime.NumGoroutine") = false
end
end Go.Proofs.YtmnnhjhkaepbaaaGreat


namespace Go.Proofs.YtmnnhjhkaepbaaaGreat
open Go
def ldB (agg:Bool) (n:Nat) (B:Blk) (ver row off:Nat):Option V:=if (B.own&&decide (B.ver=ver))=true then (B.rows[row]?).bind fun r=>ldV agg n (r.drop off) else none
def okB (B:Blk) (ver:Nat):Bool:=B.own&&decide (B.ver=ver)
def stB (B : Blk) (ver row off n : Nat) (vs : List V) : Option Blk := if okB B ver = true then if vs.length = n then if vs.all V.one = true then match B.rows[row]? with
    |some r=>if off+n≤r.length then some {B with rows:=B.rows.set row (dZ r off vs)} else none
    |none=>none
  else none else none else none
section
variable {P:Program} {k0:Nat} {K:(Nat→V)→aF→Prop} {T:Nat→V} {H:aF} {r:List SO} {d:Nat} {a b c:SX} {v u:V}
theorem iQ (h:K T H):Ops P k0 [] T H K:=h
theorem aA (ha:ev T a=v) (h:Ops P k0 r (upd T d v) H K):Ops P k0 (⟨none,some d,.mv a⟩::r) T H K:=by subst ha; exact h
theorem fF {i n ty sz:Nat} (hi:k0+d=i) (hv:(H i).ver=n) (h:Ops P k0 r (upd T d (.ms i (n+1) 0 0)) (upd H i ⟨n+1,true,true,ty,sz,[]⟩) K):Ops P k0 (⟨none,some d,.lazy ty sz⟩::r) T H K:=by
  subst hi; subst hv; exact h
theorem eR {i n ty m:Nat} {z:List V} (hi:k0+d=i) (hv:(H i).ver=n) (hm:z.length=m) (h:Ops P k0 r (upd T d (.mp i (n+1) 0 0)) (upd H i ⟨n+1,true,false,ty,m,[z]⟩) K):Ops P k0 (⟨none,some d,.alloc ty z⟩::r) T H K:=by
  subst hi; subst hv; subst hm; exact h
theorem eU {i n ty q m:Nat} {cs:List V} (hi:k0+d=i) (hv:(H i).ver=n) (ha:ev T a=v) (hc:v.cells=cs) (hm:cs.length=m) (h:Ops P k0 r (upd T d (.mp i (n+1) 0 0)) (upd H i ⟨n+1,true,false,ty,m,[cs]⟩) K):
    Ops P k0 (⟨none,some d,.box ty q a⟩::r) T H K:=by
  subst hi; subst hv; subst ha; subst hc; subst hm; exact h
theorem nL {α:Type} {o:Option α} {x:α} {k:α→Prop} (ho:o=some x) (h:k x):onS o k:=by rw [ho]; exact h
theorem stp {q:X} {o:Option V} (hS: ∀ k:V→aF→Prop,St P (k0+d) q T H k=onS o fun v=>k v H) (ho:o=some v) (h:Ops P k0 r (upd T d v) H K):Ops P k0 (⟨none,some d,q⟩::r) T H K:=by
  simp only [Ops,Option.getD_some,hS,ho,cQ]; exact h
theorem aI {agg:Bool} {n:Nat} {cs:List V} (ha:ev T a=.pp cs) (hg:ldV agg n cs=some v) (h:Ops P k0 r (upd T d v) H K):Ops P k0 (⟨none,some d,.load agg n a⟩::r) T H K:=by
  refine stp (v:=v) (fun _=>rfl) ?_ h
  rw [ha]; exact hg
theorem bT {agg:Bool} {n id ver row off:Nat} {B:Blk} (ha:ev T a=.mp id ver row off) (hH:H id=B) (hg:ldB agg n B ver row off=some v) (h:Ops P k0 r (upd T d v) H K):Ops P k0 (⟨none,some d,.load agg n a⟩::r) T H K:=by
  subst hH
  refine stp (v:=v) (fun _=>rfl) ?_ h
  rw [ha]
  simp only [ptr]
  unfold ldB at hg
  split at hg
  · rename_i hc
    rw [if_pos (show ok H id ver=true from hc)]
    cases hr:(H id).rows[row]? with
    |none=>rw [hr] at hg; cases hg
    |some w=>rw [hr] at hg; exact hg
  · cases hg
theorem vV {off:Nat} {cs cs':List V} (ha:ev T a=.pp cs) (hd:cs.drop off=cs') (h:Ops P k0 r (upd T d (.pp cs')) H K):Ops P k0 (⟨none,some d,.fld off a⟩::r) T H K:=by
  subst hd
  refine stp (v:=.pp (cs.drop off)) (fun _=>rfl) ?_ h
  rw [ha]; rfl
theorem aHr {off id ver row o o':Nat} {B:Blk} (ha:ev T a=.mp id ver row o) (hH:H id=B) (hok:okB B ver=true) (ho:o+off=o') (h:Ops P k0 r (upd T d (.mp id ver row o')) H K):Ops P k0 (⟨none,some d,.fld off a⟩::r) T H K:=by
  subst ho; subst hH
  refine stp (v:=.mp id ver row (o+off)) (fun _=>rfl) ?_ h
  rw [ha]; rfl
theorem bJ {n id ver row off : Nat} {B B' : Blk} {vs : List V} (ha : ev T a = .mp id ver row off) (hb : ev T b = v) (hc : v.cells = vs) (hH : H id = B) (hst : stB B ver row off n vs = some B') (h : Ops P k0 r T (upd H id B') K) :
    Ops P k0 (⟨none,none,.store n a b⟩::r) T H K:=by
  subst hH; subst hc; subst hb
  simp only [Ops,St]
  refine nL (x:=upd H id B') ?_ h
  rw [ha]
  unfold stB at hst
  simp only [stP]
  by_cases h1:ok H id ver=true
  · rw [if_pos (show okB (H id) ver = true from h1)] at hst
    rw [if_pos h1]
    by_cases h2:(ev T b).cells.length=n
    · rw [if_pos h2] at hst ⊢
      by_cases h3:(ev T b).cells.all V.one=true
      · rw [if_pos h3] at hst ⊢
        cases hw:(H id).rows[row]? with
        |none=>rw [hw] at hst; cases hst
        | some w =>
          rw [hw] at hst
          simp only at hst ⊢
          by_cases h4:off+n≤w.length
          · rw [if_pos h4] at hst ⊢; cases hst; rfl
          · rw [if_neg h4] at hst; cases hst
      · rw [if_neg h3] at hst; cases hst
    · rw [if_neg h2] at hst; cases hst
  · rw [if_neg (show ¬okB (H id) ver=true from h1)] at hst; cases hst
theorem kV {id ver row o:Nat} {B:Blk} (ha:ev T a=.mp id ver row o) (hH:H id=B) (hok:okB B ver=true) (h:Ops P k0 r (upd T d (.mp id ver row o)) H K):Ops P k0 (⟨none,some d,.nilck a⟩::r) T H K:=by
  subst hH
  refine stp (v:=.mp id ver row o) (fun _=>rfl) ?_ h
  rw [ha]; rfl
variable {x y:Int}
theorem sX {op:BinOp} {w:V} (ha:ev T a=u) (hb:ev T b=w) (hg:gF op u w=some v) (h:Ops P k0 r (upd T d v) H K):Ops P k0 (⟨none,some d,.bin op a b⟩::r) T H K:=by
  refine stp (v:=v) (fun _=>rfl) ?_ h
  rw [ha,hb]; exact hg
theorem aLN (ha:ev T a=iV x) (hb:ev T b=iV y) (h1: -9223372036854775808≤x+y) (h2:x+y < 9223372036854775808) (h:Ops P k0 r (upd T d (iV (x+y))) H K):Ops P k0 (⟨none,some d,.bin .add a b⟩::r) T H K:=
  sX ha hb (by simp only [gF,if_true,aEl h1 h2]) h
theorem bA {m n:Nat} (ha:ev T a=iV (m:Nat)) (hb:ev T b=iV (n:Nat)) (h2:m+n < 9223372036854775808) (h:Ops P k0 r (upd T d (iV ((m+n:Nat):Int))) H K):Ops P k0 (⟨none,some d,.bin .add a b⟩::r) T H K:=
  aLN ha hb (by omega) (by omega) (by rw [← Int.natCast_add]; exact h)
theorem uJ (ha:ev T a=iV x) (hb:ev T b=iV y) (h1: -9223372036854775808≤x - y) (h2:x - y < 9223372036854775808) (h:Ops P k0 r (upd T d (iV (x - y))) H K):Ops P k0 (⟨none,some d,.bin .sub a b⟩::r) T H K:=
  sX ha hb (by simp only [gF,if_true,aEl h1 h2]) h
theorem bO (ha:ev T a=iV x) (hb:ev T b=iV y) (h:Ops P k0 r (upd T d (.bool (decide (x < y)))) H K):Ops P k0 (⟨none,some d,.bin .lss a b⟩::r) T H K:=sX ha hb (by simp only [gF,if_true]) h
theorem aRM (ha:ev T a=iV x) (hb:ev T b=iV y) (h:Ops P k0 r (upd T d (.bool (decide (x≤y)))) H K):Ops P k0 (⟨none,some d,.bin .leq a b⟩::r) T H K:=sX ha hb (by simp only [gF,if_true]) h
theorem jV (ha:ev T a=iV x) (hb:ev T b=iV y) (h:Ops P k0 r (upd T d (.bool (decide (y < x)))) H K):Ops P k0 (⟨none,some d,.bin .gtr a b⟩::r) T H K:=sX ha hb (by simp only [gF,if_true]) h
theorem mM (ha:ev T a=iV x) (hb:ev T b=iV y) (h:Ops P k0 r (upd T d (.bool (decide (y≤x)))) H K):Ops P k0 (⟨none,some d,.bin .geq a b⟩::r) T H K:=sX ha hb (by simp only [gF,if_true]) h
theorem gT (ha:ev T a=iV x) (hb:ev T b=iV y) (h:Ops P k0 r (upd T d (.bool (decide (x=y)))) H K):Ops P k0 (⟨none,some d,.bin .eql a b⟩::r) T H K:=sX ha hb (by simp only [gF,if_true]; rfl) h
theorem fB (ha:ev T a=iV x) (hb:ev T b=iV y) (h:Ops P k0 r (upd T d (.bool (decide (x≠y)))) H K):Ops P k0 (⟨none,some d,.bin .neq a b⟩::r) T H K:=sX ha hb (by simp only [gF,if_true]; by_cases e:x=y <;> simp [e,bne]) h
theorem aBP {p:Prop} [Decidable p] (ha:ev T a=.bool (decide p)) (h:Ops P k0 r (upd T d (.bool (decide (¬p)))) H K):Ops P k0 (⟨none,some d,.un .not a⟩::r) T H K:=by
  refine stp (v:=.bool (decide (¬p))) (fun _=>rfl) ?_ h
  rw [ha]; simp [unV]
theorem aAX {q:Bool} (ha:ev T a=.bool q) (h:Ops P k0 r (upd T d (.bool (!q))) H K):Ops P k0 (⟨none,some d,.un .not a⟩::r) T H K:=by
  refine stp (v:=.bool (!q)) (fun _=>rfl) ?_ h
  rw [ha]; rfl
theorem aE6 {m n:Nat} (ha:ev T a=iV (m:Nat)) (hb:ev T b=iV (n:Nat)) (h:Ops P k0 r (upd T d (iV ((min m n:Nat):Int))) H K):Ops P k0 (⟨none,some d,.mn a b⟩::r) T H K:=by
  refine stp (v:=iV ((min m n:Nat):Int)) (fun _=>rfl) ?_ h
  rw [ha,hb]
  simp only [mnV]
  congr 2
  split <;> omega
theorem bZ (hc:ev T c=.bool true) (ha:ev T a=v) (h:Ops P k0 r (upd T d v) H K):Ops P k0 (⟨none,some d,.pick c a b⟩::r) T H K:=by
  subst ha
  simp only [Ops,St,hc,asB,cQ]; exact h
theorem cD (hc:ev T c=.bool false) (hb:ev T b=v) (h:Ops P k0 r (upd T d v) H K):Ops P k0 (⟨none,some d,.pick c a b⟩::r) T H K:=by
  subst hb
  simp only [Ops,St,hc,asB,cQ]; exact h
theorem bY {α:Type} [Inhabited α] {e:Nat} {l:List α} {f:α→List V} {k:IntKind} {i:Nat} (ha:ev T a=.sl (l.map f)) (hb:ev T b=.int k (i:Nat)) (hi:i < l.length) (he:(f (nth l i)).length=e)
    (h:Ops P k0 r (upd T d (.pp (f (nth l i)))) H K):Ops P k0 (⟨none,some d,.idx e a b⟩::r) T H K:=by
  refine stp (v:=.pp (f (nth l i))) (fun _=>rfl) ?_ h
  rw [ha,hb]
  simp only [nP]
  rw [rT f l i (by omega) (by omega)]
  simp [he]
theorem dX {α:Type} [Inhabited α] {e:Nat} {l:List α} {f:α→List V} {k:IntKind} {i:Int} (ha:ev T a=.sl (l.map f)) (hb:ev T b=.int k i) (h0:0≤i) (hi:i < l.length) (he:(f (nth l i.toNat)).length=e)
    (h:Ops P k0 r (upd T d (.pp (f (nth l i.toNat)))) H K):Ops P k0 (⟨none,some d,.idx e a b⟩::r) T H K:=by
  refine stp (v:=.pp (f (nth l i.toNat))) (fun _=>rfl) ?_ h
  rw [ha,hb]
  simp only [nP]
  rw [rT f l i h0 hi]
  simp [he]
theorem mE {e id ver off len i:Nat} {B:Blk} {k:IntKind} (ha:ev T a=.ms id ver off len) (hb:ev T b=.int k (i:Nat)) (hH:H id=B) (hok:okB B ver=true) (hs:B.sz=e) (hi:i < len)
    (h:Ops P k0 r (upd T d (.mp id ver (off+i) 0)) H K):Ops P k0 (⟨none,some d,.idx e a b⟩::r) T H K:=by
  subst hH
  refine stp (v:=.mp id ver (off+i) 0) (fun _=>rfl) ?_ h
  rw [ha,hb]
  simp only [nP]
  rw [if_pos (show ok H id ver=true from hok),if_pos hs,if_pos (by omega)]
  simp
theorem bI {α:Type} {l:List α} {f:α→List V} (ha:ev T a=.sl (l.map f)) (h:Ops P k0 r (upd T d (iV (l.length:Nat))) H K):Ops P k0 (⟨none,some d,.len a⟩::r) T H K:=by
  refine stp (v:=iV (l.length:Nat)) (fun _=>rfl) ?_ h
  rw [ha]; simp [xQ]
theorem dK {id ver off len:Nat} {B:Blk} (ha:ev T a=.ms id ver off len) (hH:H id=B) (hok:(B.live&&decide (B.ver=ver))=true) (h:Ops P k0 r (upd T d (iV (len:Nat))) H K):Ops P k0 (⟨none,some d,.len a⟩::r) T H K:=by
  subst hH
  refine stp (v:=iV (len:Nat)) (fun _=>rfl) ?_ h
  rw [ha]; exact if_pos hok
theorem aKc {α:Type} {f:α→List V} {e:Nat} (he: ∀ x,(f x).length=e) (l:List α):(l.map f).all (fun r=>r.length==e)=true:=by
  rw [List.all_eq_true]; intro r hr; obtain ⟨x,_,rfl⟩:=List.mem_map.1 hr; simp [he]
theorem aJs {α:Type} {f:α→List V} {e:Nat} (he: ∀ x,(f x).length=e) (l:List α) {lo hi:Nat} {olo ohi:Option V} (h1:dM 0 olo=some lo) (h2:dM l.length ohi=some hi) (h3:lo≤hi) (h4:hi≤l.length):
    iR H e olo ohi (.sl (l.map f))=some (.sl (((l.take hi).drop lo).map f)):=by
  simp only [iR]
  rw [List.length_map,h1,h2]
  simp only [Option.bind_some]
  rw [if_pos h3,if_pos (by simpa using h4),if_pos (aKc he l),List.map_drop,List.map_take]
theorem aGc {o:Option V} {dd n:Nat} {k:IntKind} {w:V} (ho:o=some w) (hw:w=.int k (n:Nat)):dM dd o=some n:=by
  subst ho; subst hw
  simp only [dM,aDi]
  rw [if_pos (by omega)]; simp
theorem aDN {α:Type} {e n:Nat} {l:List α} {f:α→List V} {k:IntKind} {x:SX} (ha:ev T a=.sl (l.map f)) (hx:ev T x=.int k (n:Nat)) (hn:n≤l.length) (he: ∀ x,(f x).length=e)
    (h:Ops P k0 r (upd T d (.sl ((l.take n).map f))) H K):Ops P k0 (⟨none,some d,.slice e a none (some x)⟩::r) T H K:=by
  refine stp (v:=.sl ((l.take n).map f)) (fun _=>rfl) ?_ h
  rw [ha]
  simp only [Option.map_some,Option.map_none]
  rw [aJs he l (lo:=0) (hi:=n) (by simp [dM]) (aGc rfl hx) (Nat.zero_le _) hn,List.drop_zero]
theorem fY {z cs:List V} {ps:List (Nat×Nat×SX)} {qs:List (Nat×Nat×V)} (hq:ps.map (fun p=>(p.1,p.2.1,ev T p.2.2))=qs) (hb:bld z qs=some cs) (h:Ops P k0 r (upd T d (.agg cs)) H K):Ops P k0 (⟨none,some d,.build z ps⟩::r) T H K:=by
  simp only [Ops,St]
  rw [hq,hb]; exact h
theorem cO {ty e len:Nat} {z:List V} {ps:List (Nat×SX)} {qs:List (Nat×V)} {rows:List (List V)} (hq:ps.map (fun p=>(p.1,ev T p.2))=qs) (hb:lT e (List.replicate len z) qs=some rows) (h:Ops P k0 r (upd T d (.sl rows)) H K):
    Ops P k0 (⟨none,some d,.bslice ty e false z len ps⟩::r) T H K:=by
  simp only [Ops,St]
  rw [hq,hb]; exact h
theorem kZ {ty e len i n:Nat} {z:List V} {ps:List (Nat×SX)} {qs:List (Nat×V)} {rows:List (List V)} (hi:k0+d=i) (hv:(H i).ver=n) (hq:ps.map (fun p=>(p.1,ev T p.2))=qs) (hb:lT e (List.replicate len z) qs=some rows)
    (h:Ops P k0 r (upd T d (.ms i (n+1) 0 rows.length)) (upd H i ⟨n+1,true,false,ty,e,rows⟩) K):Ops P k0 (⟨none,some d,.bslice ty e true z len ps⟩::r) T H K:=by
  subst hi; subst hv
  simp only [Ops,St]
  rw [hq,hb]; exact h
theorem aRQ {ty e bytes i n:Nat} {z:List V} {m q:Nat} (hi:k0+d=i) (hv:(H i).ver=n) (ha:ev T a=iV (m:Nat)) (hb:ev T b=iV (q:Nat)) (h1:m≤q) (h2:q*bytes≤281474976710656) (h3:q≤9223372036854775807)
    (h:Ops P k0 r (upd T d (.ms i (n+1) 0 m)) (upd H i ⟨n+1,true,false,ty,e,List.replicate m z⟩) K):Ops P k0 (⟨none,some d,.mks ty e bytes z a b⟩::r) T H K:=by
  subst hi; subst hv
  have e:rP bytes (iV (m:Nat)) (iV (q:Nat))=some (m,q):=by
    unfold rP
    have h2':(q:Int)*(bytes:Int)≤281474976710656:=by have:=Int.ofNat_le.2 h2; simpa using this
    exact (if_pos (by omega)).trans ((if_pos (by omega)).trans ((if_pos h2').trans ((if_pos (by omega)).trans rfl)))
  simp only [Ops,St]
  rw [ha,hb,e]; exact h
theorem aHg {H:aF} {v:V} {new:List (List V)} (h:jN H v=some new):pN H v=some new:=by
  cases v <;> first|exact h|(simp [jN] at h)
theorem xF {ty e bytes id ver len:Nat} {lz:Bool} {rows new:List (List V)} (ha:ev T a=.ms id ver 0 len) (hH:H id=⟨ver,true,lz,ty,e,rows⟩) (hl:len=rows.length) (hn:jN H (ev T b)=some new) (hf:cK e new=true)
    (h1:(len+new.length)*bytes≤140737488355328) (h2:len+new.length≤9223372036854775807)
    (h:Ops P k0 r (upd T d (.ms id (ver+1) 0 (len+new.length))) (upd H id ⟨ver+1,true,lz,ty,e,rows++new⟩) K):Ops P k0 (⟨none,some d,.append ty e bytes a b⟩::r) T H K:=by
  simp only [Ops,St]
  rw [ha]
  simp only [hH]
  rw [if_pos (by simp),if_pos trivial,if_pos hl,if_pos trivial,if_pos trivial,aHg hn,cQ,if_pos hf,if_pos h1,if_pos h2]
  exact h
theorem aLt {α:Type} {f:α→List V} {e:Nat} {x:α} (he:(f x).length=e) (h1:(f x).all V.one=true):cK e [f x]=true:=by simp [cK,he,h1]
theorem cH {α:Type} {ty e bytes id ver n:Nat} {lz:Bool} {l:List α} {f:α→List V} {x:α} (ha:ev T a=.ms id ver 0 n) (hH:H id=⟨ver,true,lz,ty,e,l.map f⟩) (hn:n=l.length) (hb:ev T b=.sl [f x]) (he:(f x).length=e) (h1:(f x).all V.one=true)
    (h2:(n+1)*bytes≤140737488355328) (h3:n+1≤9223372036854775807)
    (h:Ops P k0 r (upd T d (.ms id (ver+1) 0 (n+1))) (upd H id ⟨ver+1,true,lz,ty,e,(l++[x]).map f⟩) K):Ops P k0 (⟨none,some d,.append ty e bytes a b⟩::r) T H K:=by
  refine xF ha hH (by simpa using hn) (new:=[f x]) (by rw [hb]; rfl) (aLt he h1) (by simpa using h2) (by simpa using h3) ?_
  rw [List.map_append] at h
  exact h
theorem jG {α:Type} {ty e bytes id ver n:Nat} {lz:Bool} {l m:List α} {f:α→List V} (ha:ev T a=.ms id ver 0 n) (hH:H id=⟨ver,true,lz,ty,e,l.map f⟩) (hn:n=l.length) (hb:ev T b=.sl (m.map f)) (he: ∀ x,(f x).length=e) (h1: ∀ x,(f x).all V.one=true)
    (h2:(n+m.length)*bytes≤140737488355328) (h3:n+m.length≤9223372036854775807)
    (h:Ops P k0 r (upd T d (.ms id (ver+1) 0 (n+m.length))) (upd H id ⟨ver+1,true,lz,ty,e,(l++m).map f⟩) K):Ops P k0 (⟨none,some d,.append ty e bytes a b⟩::r) T H K:=by
  refine xF ha hH (by simpa using hn) (new:=m.map f) (by rw [hb]; rfl) ?_ (by simpa using h2) (by simpa using h3) ?_
  · simp only [cK,List.all_eq_true]
    intro r hr
    obtain ⟨x,_,rfl⟩:=List.mem_map.1 hr
    simp only [he,beq_self_eq_true,Bool.true_and]
    exact h1 x
  · rw [List.map_append,show m.length=(m.map f).length by simp] at h
    exact h
theorem aDI {f:Nat} {args:List SX} {as0 us:List V} (he:evs T args=as0) (hc:aS P f us v) (ha:as0.map (fzv true H 6)=us) (hp:cM us=true) (hs:cM as0=true∨v.scalar=true) (h:Ops P k0 r (upd T d v) H K):
    Ops P k0 (⟨none,some d,.call false f args⟩::r) T H K:=by
  subst he
  exact aD9 true 6 (k:=fun v H'=>Ops P k0 r (upd T d v) H' K) hc ha hp hs h
theorem jY {f:Nat} {first caps:List V} {g:SX} {args:List SX} {as0 us:List V} (hg:ev T g=.fn f first caps) (he:evs T args=as0) (hc:aS P f us v) (ha:(first++as0++caps).map (fzv true H 6)=us) (hp:cM us=true)
    (hs:cM (first++as0++caps)=true∨v.scalar=true) (h:Ops P k0 r (upd T d v) H K):Ops P k0 (⟨none,some d,.callv false g args⟩::r) T H K:=by
  subst he
  simp only [Ops,St]
  rw [hg]
  exact aD9 true 6 hc ha hp hs h
theorem jA {f:Nat} {args:List SX} {as0:List V} {H':aF} (he:evs T args=as0) (hc:dB P f as0 H v H') (h:Ops P k0 r (upd T d v) H' K):Ops P k0 (⟨none,some d,.call true f args⟩::r) T H K:=by
  subst he
  exact aAc hc h
theorem cR {i:Nat} {vs:List V} (ha:ev T a=.tup vs) (hi:vs[i]?=some v) (h:Ops P k0 r (upd T d v) H K):Ops P k0 (⟨none,some d,.ext a i⟩::r) T H K:=by
  refine stp (v:=v) (fun _=>rfl) ?_ h
  rw [ha]; exact hi
theorem aE5 {f:Nat} {caps:List SX} {cs:List V} (he:evs T caps=cs) (h:Ops P k0 r (upd T d (.fn f [] cs)) H K):Ops P k0 (⟨none,some d,.mkf f caps⟩::r) T H K:=by
  subst he; exact h
theorem oD {neg:Bool} {rows:List (List V)} (ha:ev T a=.sl rows) (h1:rows=[]→Ops P k0 r (upd T d (.bool (!neg))) H K) (h2:Ops P k0 r (upd T d (.bool neg)) H K):Ops P k0 (⟨none,some d,.isnil neg a⟩::r) T H K:=by
  simp only [Ops,St]; rw [ha]; exact ⟨h1,h2⟩
theorem aT {t:Nat} {w:Bool} {od:Option Nat} {q:X} (ht:T t=.bool w) (h:Ops P k0 (⟨none,od,q⟩::r) T H K):Ops P k0 (⟨some (t,w),od,q⟩::r) T H K:=by
  simp only [Ops,ht,gd] at h ⊢
  exact ⟨fun _=>h,fun hn=>(by simp at hn)⟩
theorem aUm {t:Nat} {w w':Bool} {q:X} (ht:T t=.bool w') (hw:w'≠w) (h:Ops P k0 r (upd T d (.raw undef)) H K):Ops P k0 (⟨some (t,w),some d,q⟩::r) T H K:=by
  simp only [Ops,ht,gd] at h ⊢
  exact ⟨fun hn=>(hw (by simpa using hn)).elim,fun _=>h⟩
theorem aDL (a b:List SO):Ops P k0 (a++b) T H K↔Ops P k0 a T H fun T H=>Ops P k0 b T H K:=by
  induction a generalizing T H with
  |nil=>exact Iff.rfl
  | cons o a ih =>
    simp only [List.cons_append,Ops]
    cases o.g with
    |none=>simp only; rw [show (fun v H'=>Ops P k0 (a++b) (eY T o.d v) H' K)=fun v H'=>Ops P k0 a (eY T o.d v) H' fun T H=>Ops P k0 b T H K from funext fun v=>funext fun H'=>propext ih]
    |some p=>simp only [ih]
theorem cC (n:Nat) {ops:List SO} (R:(Nat→V)→aF→Prop) (h1:Ops P k0 (ops.take n) T H R) (h2: ∀ T' H',R T' H'→Ops P k0 (ops.drop n) T' H' K):Ops P k0 ops T H K:=by
  rw [← List.take_append_drop n ops,aDL]
  exact lX h2 h1
theorem dE {α:Type} {T A:Nat→α} {l:List Nat} (h: ∀ j,j∉l→A j=T j) {d:Nat} {v:α} (hd:d∈l): ∀ j,j∉l→upd A d v j=T j:=by
  intro j hj
  rw [aQ _ _ fun e=>hj (by rw [e]; exact hd)]
  exact h j hj
theorem aT3 {p:Prop} [Decidable p] (hp:p):V.bool true=V.bool (decide p):=by simp [hp]
theorem aSG {p:Prop} [Decidable p] (hp: ¬p):V.bool false=V.bool (decide p):=by simp [hp]
theorem eQ {p q:Prop} [Decidable p] [Decidable q] (hp:p):V.bool true=V.bool (decide (p∨q)):=by simp [hp]
theorem eO {p q:Prop} [Decidable p] [Decidable q] (hp: ¬p):V.bool (decide q)=V.bool (decide (p∨q)):=by simp [hp]
theorem aCL {p q:Prop} [Decidable p] [Decidable q] (hp: ¬p):V.bool false=V.bool (decide (p∧q)):=by simp [hp]
theorem aCJ {p q:Prop} [Decidable p] [Decidable q] (hp:p):V.bool (decide q)=V.bool (decide (p∧q)):=by simp [hp]
end
section
variable {P:Program} {k0:Nat} {Q:Ex→(Nat→V)→aF→Prop} {T:Nat→V} {H:aF}
theorem aJ {c:SX} {a b r:SC} {p:Prop} [Decidable p] (hc:ev T c=.bool (decide p)) (h1:p→W P k0 (.seq a r) Q T H) (h2: ¬p→W P k0 (.seq b r) Q T H):W P k0 (.seq (.cond c a b) r) Q T H:=
  uH (bb:=decide p) (by rw [hc]; rfl) (fun h=>h1 (of_decide_eq_true h)) fun h=>h2 (of_decide_eq_false h)
theorem kI {c:SX} {a b:SC} {p:Prop} [Decidable p] (hc:ev T c=.bool (decide p)) (h1:p→W P k0 a Q T H) (h2: ¬p→W P k0 b Q T H):W P k0 (.cond c a b) Q T H:=
  aIy (bb:=decide p) (by rw [hc]; rfl) (fun h=>h1 (of_decide_eq_true h)) fun h=>h2 (of_decide_eq_false h)
theorem dR {c:SX} {a b r:SC} {q:Bool} (hc:ev T c=.bool q) (h1:q=true→W P k0 (.seq a r) Q T H) (h2:q=false→W P k0 (.seq b r) Q T H):W P k0 (.seq (.cond c a b) r) Q T H:=
  uH (bb:=q) (by rw [hc]; rfl) h1 h2
theorem aEy {c:SX} {a b:SC} {q:Bool} (hc:ev T c=.bool q) (h1:q=true→W P k0 a Q T H) (h2:q=false→W P k0 b Q T H):W P k0 (.cond c a b) Q T H:=
  aIy (bb:=q) (by rw [hc]; rfl) h1 h2
theorem oI {ops:List SO} {b:SC} (R:(Nat→V)→aF→Prop) (h:Ops P k0 ops T H R) (hk: ∀ T H,R T H→W P k0 b Q T H):W P k0 (.seq (.reg ops) b) Q T H:=
  kK fun _ hK=>lX (fun T H hr=>hK T H (hk T H hr)) h
theorem bS {t:Nat} {u v:V} {n:Nat} (h1:T t=u) (h2:fzv true H n u=v):Ret [.tmp t] (fun u G=>fzv true G n u=v) .ret T H:=by
  simp only [Ret,nN,fL,nQ,cQ,h1]; exact h2
theorem lV {t1 t2:Nat} {u1 u2 v1 v2:V} {n:Nat} (h1:T t1=u1) (h2:T t2=u2) (g1:fzv true H n u1=v1) (g2:fzv true H n u2=v2):Ret [.tmp t1,.tmp t2] (fun u G=>fzv true G (n+1) u=.tup [v1,v2]) .ret T H:=by
  simp only [Ret,nN,fL,nQ,cQ,h1,h2,fzv,List.map_cons,List.map_nil,g1,g2]
theorem pP {t1 t2 t3:Nat} {u1 u2 u3 v1 v2 v3:V} {n:Nat} (h1:T t1=u1) (h2:T t2=u2) (h3:T t3=u3) (g1:fzv true H n u1=v1) (g2:fzv true H n u2=v2) (g3:fzv true H n u3=v3):
    Ret [.tmp t1,.tmp t2,.tmp t3] (fun u G=>fzv true G (n+1) u=.tup [v1,v2,v3]) .ret T H:=by
  simp only [Ret,nN,fL,nQ,cQ,h1,h2,h3,fzv,List.map_cons,List.map_nil,g1,g2,g3]
theorem aW {n:Nat} {x y:Int} (h:x=y):fzv true H n (iV x)=iV y:=by rw [dC n _ (by simp),h]
theorem eM {n:Nat} {x y:Bool} (h:x=y):fzv true H n (.bool x)=.bool y:=by rw [dC n _ (by simp),h]
theorem sA {α:Type} {n:Nat} {f:α→List V} {l m:List α} (h:l=m) (hc: ∀ a,cJ (f a)=true):fzv true H n (.sl (l.map f))=.sl (m.map f):=by
  rw [dC n _ (by rw [aIb]; exact dQ _ _ hc),h]
theorem gG {α:Type} {n:Nat} {f:α→List V} {m:List α} (h:m=[]):fzv true H (n+1) .nilsl=.sl (m.map f):=by subst h; rfl
theorem kN {α:Type} {n id ver len:Nat} {B:Blk} {f:α→List V} {l m:List α} (hH:H id=B) (hok:(B.live&&decide (B.ver=ver))=true) (hr:B.rows=l.map f) (hl:len=l.length) (hc: ∀ a,cJ (f a)=true) (h:l=m):
    fzv true H (n+1) (.ms id ver 0 len)=.sl (m.map f):=by
  subst hH; subst hl; subst h
  have hx:List.take l.length (List.map f l)=List.map f l:=by rw [show l.length=(l.map f).length by simp,List.take_length]
  simp only [fzv]
  rw [if_pos hok,hr,List.drop_zero,hx]
  congr 1
  rw [List.map_map]
  refine List.map_congr_left fun a _=>eC n _ (hc a)
theorem eD {n:Nat} {u v:V} (hc:u.canon=true) (h:u=v):fzv true H n u=v:=by rw [dC n _ hc,h]
end
theorem bF {R:(Nat→V)→aF→Prop} {K:(Nat→V)→aF→Prop} {T:Nat→V} {H:aF} (h:R T H) (hk: ∀ T H,R T H→K T H):K T H:=hk T H h
theorem cY {α β:Type} {g:α→β} {a:α} {b:β} {l:List α} {m:List β} (h1:g a=b) (h2:l.map g=m):(a::l).map g=b::m:=by subst h1; subst h2; rfl
theorem bV {T:Nat→V} {a:SX} {v:V} {l:List SX} {m:List V} (h1:ev T a=v) (h2:evs T l=m):evs T (a::l)=v::m:=by subst h1; subst h2; rfl
theorem fP {T:Nat→V}:evs T []=[]:=rfl
end Go.Proofs.YtmnnhjhkaepbaaaGreat


namespace Go.Proofs.YtmnnhjhkaepbaaaGreat
open Go
section
variable {P:Program} {k0:Nat} {Q:Ex→(Nat→V)→aF→Prop} {T:Nat→V} {H:aF}
theorem mY {ops:List SO} {b:SC} (R:(Nat→V)→aF→Prop) (h:Ops P k0 ops T H R) (hk: ∀ T H,R T H→G (W P k0 b Q) T H):W P k0 (.seq (.reg ops) b) Q T H:=
  aBr fun _ hK=>lX (fun T H hr=>hK T H (hk T H hr)) h
theorem aE {id:Nat} {a r:SC} (h: ∀ Q':Ex→(Nat→V)→aF→Prop,(∀ T H,G (W P k0 r Q) T H→Q' .norm T H)→(∀ T H,G (W P k0 r Q) T H→Q' (.exit id) T H)→(∀ T H,Q .ret T H→Q' .ret T H)→
    (∀ n T H,n≠id→Q (.exit n) T H→Q' (.exit n) T H)→W P k0 a Q' T H):W P k0 (.seq (.block id a) r) Q T H:=by
  simp only [W]
  refine h _ (fun T H h=>h) (fun T H h=>?_) (fun T H h=>h) (fun n T H hn h=>?_)
  · simp only [if_true]; exact h
  · simp only [if_neg hn]; exact h
end
section
variable {P:Program} {k0:Nat} {K:(Nat→V)→aF→Prop} {T:Nat→V} {H:aF} {r:List SO} {d:Nat} {a b:SX}
theorem aL9 {m n:Nat} (ha:ev T a=iV (m:Nat)) (hb:ev T b=iV (n:Nat)) (h:Ops P k0 r (upd T d (iV ((max m n:Nat):Int))) H K):Ops P k0 (⟨none,some d,.mx a b⟩::r) T H K:=by
  refine stp (v:=iV ((max m n:Nat):Int)) (fun _=>rfl) ?_ h
  rw [ha,hb]
  simp only [mxV]
  congr 2
  split <;> omega
theorem rL {e id ver off len:Nat} {i:Int} {B:Blk} {k:IntKind} (ha:ev T a=.ms id ver off len) (hb:ev T b=.int k i) (hH:H id=B) (hok:okB B ver=true) (hs:B.sz=e) (h0:0≤i) (hi:i < len)
    (h:Ops P k0 r (upd T d (.mp id ver (off+i.toNat) 0)) H K):Ops P k0 (⟨none,some d,.idx e a b⟩::r) T H K:=by
  subst hH
  refine stp (v:=.mp id ver (off+i.toNat) 0) (fun _=>rfl) ?_ h
  rw [ha,hb]
  simp only [nP]
  rw [if_pos (show ok H id ver=true from hok),if_pos hs,if_pos ⟨h0,hi⟩]
end
theorem cW {α:Type} {ver ty sz:Nat} {lz:Bool} {f:α→List V} {l:List α} (h:0 < l.length):okB ⟨ver,true,lz,ty,sz,l.map f⟩ ver=true:=by
  cases l with
  |nil=>simp at h
  |cons a l=>simp [okB,Blk.own]
theorem dY {α:Type} [Inhabited α] {agg:Bool} {n ver ty sz i off:Nat} {lz:Bool} {f:α→List V} {l:List α} {v:V} (h:i < l.length) (hg:ldV agg n ((f (nth l i)).drop off)=some v):
    ldB agg n ⟨ver,true,lz,ty,sz,l.map f⟩ ver i off=some v:=by
  unfold ldB
  rw [if_pos (show (_&&_)=true from cW (by omega))]
  simp only [List.getElem?_map,wP h,Option.map_some,Option.bind_some]
  exact hg
theorem aGJ {x:Int} (h:0≤x):iV x=iV ((x.toNat:Nat):Int):=by rw [Int.toNat_of_nonneg h]
theorem aC7 {x y:Bool} (h:x=true):V.bool true=V.bool (x||y):=by rw [h]; rfl
theorem aDx {x y:Bool} (h: ¬x=true):V.bool y=V.bool (x||y):=by rw [Bool.eq_false_iff.2 h]; rfl
theorem aS2 {p:Prop} [Decidable p] {y:Bool} (h:p):V.bool true=V.bool (decide p||y):=by simp [h]
theorem aRC {p:Prop} [Decidable p] {y:Bool} (h: ¬p):V.bool y=V.bool (decide p||y):=by simp [h]
def fzq (id:Nat) (H:aF):V→V
  | .ms j ver off len=>if j=id∧(H id).live=true∧(H id).ver=ver then .sl (((H id).rows.drop off).take len) else .ms j ver off len
  |v=>v
theorem aK {id:Nat} {H:aF} {T:Nat→V} {i:Nat} {v u:V} (h:T i=v) (hu:fzq id H v=u):fzT id H T i=u:=by
  subst hu; subst h
  unfold fzT fzq
  cases hT:T i <;> simp only
theorem kC {α:Type} {id ver len:Nat} {H:aF} {B:Blk} {f:α→List V} {l:List α} (hH:H id=B) (hok:(B.live&&decide (B.ver=ver))=true) (hr:B.rows=l.map f) (hl:len=l.length):
    fzq id H (.ms id ver 0 len)=.sl (l.map f):=by
  subst hH
  simp only [Bool.and_eq_true,decide_eq_true_eq] at hok
  simp only [fzq]
  rw [if_pos ⟨trivial,hok.1,hok.2⟩,hr,List.drop_zero,hl]
  congr 1
  rw [show l.length=(l.map f).length by simp,List.take_length]
theorem cP {id j ver off len:Nat} {H:aF} (h:j≠id):fzq id H (.ms j ver off len)=.ms j ver off len:=by
  simp only [fzq]; rw [if_neg (fun e=>h e.1)]
theorem aL {id j:Nat} {H:aF} {B:Blk} (h:H j=B) (hn:j≠id):iT id H j=B:=by subst h; simp [iT,hn]
mutual
def V.bnd:V→Bool
  | .sl rows=>decide (rows.length≤9223372036854775807)&&wK rows
  | .pp cells=>iN cells
  | .agg cells=>iN cells
  | .tup vs=>iN vs
  | .fn _ a b=>iN a&&iN b
  | .ms _ _ _ _=>true
  | .mp _ _ _ _=>true
  | .mm _ _=>true
  | .int _ _=>true
  | .bool _=>true
  | .str _=>true
  | .nilsl=>true
  | .nilp=>true
  | .raw _=>true
def iN:List V→Bool
  |[]=>true
  |v::l=>v.bnd&&iN l
def wK:List (List V)→Bool
  |[]=>true
  |r::l=>iN r&&wK l
end
theorem aBx {l:List V}:iN l=true↔ ∀ v∈l,v.bnd=true:=by
  induction l with
  |nil=>simp [iN]
  |cons v l ih=>simp [iN,ih]
theorem xW {l:List (List V)}:wK l=true↔ ∀ r∈l,iN r=true:=by
  induction l with
  |nil=>simp [wK]
  |cons v l ih=>simp [wK,ih]
theorem R.bnd {x:Cx} {v:V} {c:Value} (h:R x v c):v.bnd=true:=by
  have all: ∀ {l:List V},(∀ (j:Nat) (v:V),l[j]?=some v→v.bnd=true)→iN l=true:=fun {l} h=>
    aBx.2 fun v hv=>by obtain ⟨j,hj⟩:=List.getElem?_of_mem hv; exact h j v hj
  induction h with
  | sl rows a cap sz cs hc hm hz hsz hcell _ ih =>
    simp only [V.bnd,Bool.and_eq_true,decide_eq_true_eq]
    have:maxLen=9223372036854775807:=rfl
    refine ⟨by omega,xW.2 fun r hr=>?_⟩
    obtain ⟨k,hk⟩:=List.getElem?_of_mem hr
    exact all fun j v hj=>ih k r j v hk hj
  |slnil=>simp [V.bnd,wK]
  |pp cells a cs hzz hcell _ ih=>simp only [V.bnd]; exact all ih
  |agg cells cs hs _ ih=>simp only [V.bnd]; exact all ih
  |tup cells cs hs _ ih=>simp only [V.bnd]; exact all ih
  |fn f first caps fs cs hfs hcs _ _ ih1 ih2=>simp only [V.bnd,Bool.and_eq_true]; exact ⟨all ih1,all ih2⟩
  |_=>simp [V.bnd]
theorem RL.bnd {x:Cx} {vs:List V} {cs:List Value} (h:RL x vs cs):iN vs=true:=
  aBx.2 fun v hv=>by obtain ⟨j,hj⟩:=List.getElem?_of_mem hv; exact (h.2 j v hj).bnd
theorem oM {P : Program} {op : Opt} (z : Bool) (n : Nat) {f : Nat} {fn : Func} {s : SF} (hf : P.funcs[f]? = some fn) (hs : aM P op fn = some s) (hn : (fn.name == "runtime.NumGoroutine") = false) {args : List V} {v : V}
    (hl:args.length≤s.n) (ha:cM args=true) (hv:v.pure=true) (hW:iN args=true→W P 0 s.body (Ret s.res fun u G=>fzv z G n u=v) (T0 args) H0):aS P f args v:=fun H=>
  ⟨jR hf hs hn,fun x cs hxH hx hr=>(uY z n hf hs hn hl ha hv (hW hr.bnd) H).2 x cs hxH hx hr⟩
theorem aF1 {α:Type} [Inhabited α] {f:α→List V} {l:List α}:wK (l.map f)=true↔ ∀ k,k < l.length→iN (f (nth l k))=true:=by
  rw [xW]
  constructor
  · intro h k hk; exact h _ (List.mem_map_of_mem (by rw [← aO hk]; exact List.getElem_mem hk))
  · intro h r hr
    obtain ⟨a,ha,rfl⟩:=List.mem_map.1 hr
    obtain ⟨k,hk,rfl⟩:=List.getElem_of_mem ha
    rw [aO hk]; exact h k hk
theorem tV {α:Type} [Inhabited α] {f:α→List V} {l:List α}:(V.sl (l.map f)).bnd=true↔l.length≤9223372036854775807∧ ∀ k,k < l.length→iN (f (nth l k))=true:=by
  simp only [V.bnd,Bool.and_eq_true,decide_eq_true_eq,List.length_map,aF1]
theorem tN (k:IntKind) (n:Int):(V.int k n).bnd=true:=by simp [V.bnd]
theorem pF (b:Bool):(V.bool b).bnd=true:=by simp [V.bnd]
theorem tK (s:List UInt8):(V.str s).bnd=true:=by simp [V.bnd]
theorem tX {l:List V}:(V.agg l).bnd=iN l:=by simp [V.bnd]
theorem aBb {l:List V}:(V.pp l).bnd=iN l:=by simp [V.bnd]
theorem tR:iN []=true:=by simp [iN]
theorem oU {v:V} {l:List V}:iN (v::l)=true↔v.bnd=true∧iN l=true:=by simp [iN]
end Go.Proofs.YtmnnhjhkaepbaaaGreat


namespace Go.Proofs.YtmnnhjhkaepbaaaGreat
open Go
theorem aLg {α : Type} {n : Nat} {p : Nat → α → Prop} (h : ∀ i, i < n → ∃ a, p i a) : ∃ l : List α, l.length = n ∧ ∀ i a, l[i]? = some a → p i a := by
  induction n with
  |zero=>exact ⟨[],rfl,fun i a h=>by simp at h⟩
  | succ n ih =>
    obtain ⟨l,h1,h2⟩:=ih fun i hi=>h i (by omega)
    obtain ⟨b,hb⟩:=h n (by omega)
    refine ⟨l++[b],by simp [h1],fun i a hi=>?_⟩
    rw [List.getElem?_append] at hi
    split at hi
    · exact h2 i a hi
    · rename_i hlt
      have e:i=n:=by
        have:=(List.getElem?_eq_some_iff.1 hi).1
        simp at this; omega
      subst e
      simp [h1] at hi
      subst hi
      exact hb
def aCB (P:Program) (all:Nat):Nat→List Field→Bool
  |off,[]=>decide (off=all)
  |off,f::r=>decide (f.offset=off)&&aCB P all (off+P.cellsOf f.type) r
def okT (P : Program) : Nat → TypeId → Bool
  |0,_=>false
  | n + 1, t => match P.underlying t with
    |some .bool=>true
    |some (.int _)=>true
    |some .string=>true
    |some (.slice e)=>okT P n e&&decide (P.cellsOf e≠0)
    |some (.struct fs)=>fs.toList.all (fun f=>okT P n f.type)&&aCB P (P.cellsOf t) 0 fs.toList
    |some (.array m e)=>okT P n e&&decide (m*P.cellsOf e=P.cellsOf t)
    |_=>false
def aCY (S:TypeId→List V→Prop):List Field→List V→Prop
  |[],vs=>vs=[]
  |f::r,vs=> ∃ a b,vs=a++b∧S f.type a∧aCY S r b
def aRg (S:List V→Prop):Nat→List V→Prop
  |0,vs=>vs=[]
  |k+1,vs=> ∃ a b,vs=a++b∧S a∧aRg S k b
def Shp (P : Program) : Nat → TypeId → List V → Prop
  |0,_,_=>False
  | n + 1, t, vs => match P.underlying t with
    |some .bool=> ∃ b,vs=[.bool b]
    |some (.int k)=> ∃ m,vs=[.int k m]∧(Lit.int k m).wf=true
    |some .string=> ∃ s,vs=[.str s]
    |some (.slice e)=> ∃ rows,vs=[.sl rows]∧ ∀ r∈rows,Shp P n e r
    |some (.struct fs)=>aCY (Shp P n) fs.toList vs
    |some (.array m e)=>aRg (Shp P n e) m vs
    |_=>False
def RC (x:Cx) (vs:List V) (cs:List Value):Prop:=vs.length=cs.length∧ ∀ j v,vs[j]?=some v→R x v (cs.getD j undef)
theorem yC {x:Cx} {a b:List V} {c d:List Value} (h1:RC x a c) (h2:RC x b d):RC x (a++b) (c++d):=by
  refine ⟨by simp [h1.1,h2.1],fun j v hj=>?_⟩
  rw [List.getElem?_append] at hj
  rw [List.getD_eq_getElem?_getD,List.getElem?_append,← h1.1]
  split at hj
  · rename_i hlt
    rw [if_pos hlt,← List.getD_eq_getElem?_getD]; exact h1.2 j v hj
  · rename_i hlt
    rw [if_neg hlt,← List.getD_eq_getElem?_getD]; exact h2.2 _ v hj
section
variable {H:Type} {enc:TypeId×Value→H} {P:Program} {base:Nat} {spare:Nat→Bool} {held:Bool}
theorem aOk {x : Cx} (hZ : ∀ b, b < x.w.heap.size → x.Z b) : ∀ (n : Nat) (t : TypeId), okT P n t = true → ∀ (fuel : Nat) (cs : List Value) (y : DataW H × List MemPlace), DataW.trod enc P x.w base spare held fuel t cs = some y →
    ∃ vs,Shp P n t vs∧RC x vs cs:=by
  intro n
  induction n with
  |zero=>intro t h; cases h
  | succ n ih =>
    intro t hok fuel cs y hy
    have one: ∀ {v:V} {c:Value},R x v c→RC x [v] [c]:=fun {v c} h=>⟨rfl,fun j u hj=>by
      cases j with
      |zero=>simp at hj; subst hj; exact h
      |succ j=>simp at hj⟩
    simp only [okT] at hok
    simp only [Shp]
    split at hok
    · rename_i ht
      obtain ⟨b,rfl,_⟩:=DataW.trod_bool ht hy
      exact ⟨[.bool b],⟨b,rfl⟩,one (.bool b)⟩
    · rename_i k ht
      obtain ⟨m,rfl,_,hw⟩:=DataW.trod_int ht hy
      exact ⟨[.int k m],⟨m,rfl,hw⟩,one (.int k m)⟩
    · rename_i ht
      obtain ⟨s,rfl,_⟩:=DataW.trod_string ht hy
      exact ⟨[.str s.data.toList],⟨_,rfl⟩,one (R.str s.data.toList)⟩
    · rename_i e ht
      simp only [Bool.and_eq_true,decide_eq_true_eq] at hok
      obtain ⟨hok,hnz⟩:=hok
      rcases DataW.trod_slice ht hy with ⟨rfl,_⟩|⟨a,len,cap,elems,rest,m,_,rfl,_,hb,hl,hc,hlen,hel,_,_⟩
      · exact ⟨[.sl []],⟨[],rfl,fun r hr=>by cases hr⟩,one .slnil⟩
      · have hall : ∀ i, i < len → ∃ r : List V, Shp P n e r ∧ ∃ ci : List Value, x.w.cells? base (a.add (i * P.cellsOf e)) (P.cellsOf e) = some ci ∧ RC x r ci := by
          intro i hi
          have h1:=hel i hi
          rw [List.getElem?_eq_getElem (by omega)] at h1
          cases h2:x.w.cells? base (a.add (i*P.cellsOf e)) (P.cellsOf e) with
          |none=>rw [h2] at h1; cases h1
          | some ci =>
            rw [h2] at h1
            obtain ⟨vs,h3,h4⟩:=ih e hok m ci _ h1
            exact ⟨vs,h3,ci,rfl,h4⟩
        obtain ⟨rows,hrl,hrows⟩:=aLg hall
        have hcell: ∀ (r:Nat) (row:List V) (j:Nat) (v:V),rows[r]?=some row→row[j]?=some v→
            ∃ c,x.w.cell? (a.add (r*P.cellsOf e+j))=some c∧R x v c:=by
          intro r row j v hr hj
          obtain ⟨_,ci,g1,g2⟩:=hrows r row hr
          obtain ⟨_,g4,g5⟩:=World.cells?_some g1
          have hjlt:j < ci.length:=by have:=(List.getElem?_eq_some_iff.1 hj).1; rw [← g2.1]; exact this
          have g6:=g5 j (by omega)
          rw [List.getElem?_eq_getElem hjlt,Addr.add_add] at g6
          refine ⟨_,g6,?_⟩
          have:=g2.2 j v hj
          rw [List.getD_eq_getElem?_getD,List.getElem?_eq_getElem hjlt] at this
          exact this
        have key:=R.sl (x:=x) rows a cap (P.cellsOf e) (fun k=>(x.w.cell? (a.add k)).getD undef) (by omega) hc ?_ ?_ ?_ ?_
        · rw [hrl] at key
          exact ⟨[.sl rows],⟨rows,rfl,fun r hr=>by obtain ⟨i,hi⟩:=List.getElem?_of_mem hr; exact (hrows i r hi).1⟩,one key⟩
        · intro hne
          cases hrr:rows with
          |nil=>exact (hne hrr).elim
          | cons r0 rs =>
            obtain ⟨_,ci,g1,g2⟩:=hrows 0 r0 (by rw [hrr]; rfl)
            · obtain ⟨_,g4,g5⟩:=World.cells?_some g1
              have g6:=g5 0 (by omega)
              rw [List.getElem?_eq_getElem (by omega),Addr.add_add] at g6
              have hlt:(a.add (0*P.cellsOf e+0)).block < x.w.heap.size:=by
                unfold World.cell? at g6
                split at g6
                · rename_i hh
                  exact (Array.getElem?_eq_some_iff.1 hh).1
                · cases g6
              exact hZ _ (by simpa [Addr.add] using hlt)
        · intro r hr
          obtain ⟨i,hi⟩:=List.getElem?_of_mem hr
          obtain ⟨_,ci,g1,g2⟩:=hrows i r hi
          rw [g2.1]
          exact (World.cells?_some g1).2.1
        · intro r row j v hr hj
          obtain ⟨c,g1,_⟩:=hcell r row j v hr hj
          rw [g1]; rfl
        · intro r row j v hr hj
          obtain ⟨c,g1,g2⟩:=hcell r row j v hr hj
          simp only [g1,Option.getD_some]
          exact g2
    · rename_i fs ht
      simp only [Bool.and_eq_true] at hok
      obtain ⟨xs,m,_,_,hl,hxl,hf⟩:=DataW.trod_struct ht hy
      have hfs: ∀ f∈fs.toList,∃ z,DataW.trod enc P x.w base spare held m f.type ((cs.drop f.offset).take (P.cellsOf f.type))=some z:=by
        intro f hm
        obtain ⟨i,hi⟩:=List.getElem?_of_mem hm
        have hi':fs[i]?=some f:=by simpa using hi
        have hlt:i < xs.length:=by
          have:=(Array.getElem?_eq_some_iff.1 hi').1
          omega
        exact ⟨xs[i],by rw [hf i f hi',List.getElem?_eq_getElem hlt]⟩
      have hok':=List.all_eq_true.1 hok.1
      have main: ∀ (l:List Field) (off:Nat),(∀ f∈l,f∈fs.toList)→aCB P (P.cellsOf t) off l=true→off≤cs.length→ ∃ vs,aCY (Shp P n) l vs∧RC x vs (cs.drop off):=by
        intro l
        induction l with
        | nil =>
          intro off _ htl hle
          simp only [aCB,decide_eq_true_eq] at htl
          refine ⟨[],rfl,?_⟩
          rw [List.drop_of_length_le (by omega)]
          exact ⟨rfl,fun j v hj=>by simp at hj⟩
        | cons f r ihr =>
          intro off hsub htl hle
          simp only [aCB,Bool.and_eq_true,decide_eq_true_eq] at htl
          obtain ⟨z,hz⟩:=hfs f (hsub f (List.mem_cons_self ..))
          obtain ⟨va,g1,g2⟩:=ih f.type (hok' f (hsub f (List.mem_cons_self ..))) _ _ _ hz
          have hoff:off+P.cellsOf f.type≤cs.length:=by
            rw [hl]
            have: ∀ (l:List Field) (o:Nat),aCB P (P.cellsOf t) o l=true→o≤P.cellsOf t:=by
              intro l
              induction l with
              |nil=>intro o h; simp only [aCB,decide_eq_true_eq] at h; omega
              |cons f r ih=>intro o h; simp only [aCB,Bool.and_eq_true,decide_eq_true_eq] at h; have:=ih _ h.2; omega
            exact this _ _ htl.2
          obtain ⟨vb,g3,g4⟩:=ihr (off+P.cellsOf f.type) (fun q hq=>hsub q (List.mem_cons_of_mem _ hq)) htl.2 hoff
          refine ⟨va++vb,⟨va,vb,rfl,g1,g3⟩,?_⟩
          have hsplit:cs.drop off=(cs.drop off).take (P.cellsOf f.type)++cs.drop (off+P.cellsOf f.type):=by
            rw [← List.drop_drop,List.take_append_drop]
          rw [hsplit]
          rw [htl.1] at g2
          exact yC g2 g4
      obtain ⟨vs,g1,g2⟩:=main fs.toList 0 (fun _ h=>h) hok.2 (Nat.zero_le _)
      exact ⟨vs,g1,by simpa using g2⟩
    · rename_i m e ht
      simp only [Bool.and_eq_true,decide_eq_true_eq] at hok
      obtain ⟨xs,f,_,_,hl,hxl,hf⟩:=DataW.trod_array ht hy
      have main: ∀ (k i:Nat),i+k=m→ ∃ vs,aRg (Shp P n e) k vs∧RC x vs (cs.drop (i*P.cellsOf e)):=by
        intro k
        induction k with
        | zero =>
          intro i hi
          refine ⟨[],rfl,?_⟩
          rw [List.drop_of_length_le (by rw [hl,← hok.2,show i=m by omega]; exact Nat.le_refl _)]
          exact ⟨rfl,fun j v hj=>by simp at hj⟩
        | succ k ihk =>
          intro i hi
          have hlt:i < m:=by omega
          have hz:=hf i hlt
          rw [List.getElem?_eq_getElem (by omega)] at hz
          obtain ⟨va,g1,g2⟩:=ih e hok.1 _ _ _ hz
          obtain ⟨vb,g3,g4⟩:=ihk (i+1) (by omega)
          refine ⟨va++vb,⟨va,vb,rfl,g1,g3⟩,?_⟩
          have hsplit:cs.drop (i*P.cellsOf e)=(cs.drop (i*P.cellsOf e)).take (P.cellsOf e)++cs.drop ((i+1)*P.cellsOf e):=by
            rw [Nat.add_mul,Nat.one_mul,← List.drop_drop,List.take_append_drop]
          rw [hsplit]
          exact yC g2 g4
      obtain ⟨vs,g1,g2⟩:=main m 0 (by omega)
      exact ⟨vs,g1,by simpa using g2⟩
    · cases hok
end
end Go.Proofs.YtmnnhjhkaepbaaaGreat


namespace Go.Proofs.YtmnnhjhkaepbaaaGreat
open Go Go.ChangeShapes Go.WideShapes Go.ChangeAt Go.RowKit
section
variable {H:Type} {enc:TypeId×Value→H} {P:Program}
theorem xS {f:Func} {s:ChangeSpec} {apart fresh handsOn again:Bool} {W W':World} {args:Array Value} {v:Value} {ds gs:List (DataW H)} {before pa pv:List MemPlace}
    (hW:DataW.Whole enc P f.params.toList s.vars apart W args.toList ds gs before)
    (hres: ∀ (b:Nat) (sp:Nat→Bool) (hd:Bool),DataW.TrodAll enc P W' b sp hd f.resultTypes.toList (v.resultList f.resultTypes.size) (s.fn H (ds++gs)).results [])
    (hargs: ∀ sp:Nat→Bool,(∀ p∈before,sp p.block=true)→DataW.TrodAll enc P W' 0 sp true f.params.toList args.toList (s.fn H (ds++gs)).args pa)
    (hvars: ∀ sp:Nat→Bool,(∀ p∈before,sp p.block=true)→DataW.TrodVars enc P W' sp s.vars (s.fn H (ds++gs)).vars pv)
    (hps:before=pa++pv) (hb:Below W.heap.size W W')
    (hok: ∀ (j:Nat) (t:TypeId) (r:Value),f.resultTypes[j]?=some t→(v.resultList f.resultTypes.size)[j]?=some r→Value.okWide P W' .any 0 t r):
    s.post enc P f apart fresh handsOn again W args v W':=by
  have hold: ∀ p∈before,(fun b=>decide (b < W.heap.size)) p.block=true:=fun p hp=>by simpa using hW.lt p hp
  refine ⟨ds,gs,before,[],pa,pv,hW,hres _ _ _,hargs _ hold,hvars _ hold,World.keptBut_mono (fun p hp=>⟨hp,?_⟩) (hb.frame (· ∈before)),fun _=>?_⟩
  · rw [hps,List.mem_append] at hp
    exact Or.inr hp
  · have hlt:=hW.lt
    obtain ⟨_,_,_,_,_,hz,hn⟩:=hW
    refine ⟨hok,_,_,([]++pa)++pv,⟨[]++pa,pv,trodAll_append (hargs _ (fun _ _=>rfl)) (hres _ _ _),hvars _ (fun _ _=>rfl),rfl,?_,?_⟩,?_⟩
    · intro b off hp
      have hp':MemPlace.cell b off∈before:=by rw [hps]; simpa using hp
      rw [hb.frozen (hlt _ hp')]
      exact hz b off hp'
    · intro ha
      have:=hn ha
      rw [hps] at this
      simpa using this
    · intro p hp _
      rw [hps]
      simpa using hp
theorem uO {x y:Cx} {w:World} (h:Frame x y) (hx: ∀ id,(x.H id).own=false) (hw:x.w=w):Below w.heap.size w y.w:=by
  subst hw
  exact ⟨h.os,h.tape,h.output,h.size,fun k hk=>h.keep k hk fun id ho=>by rw [hx id] at ho; cases ho⟩
def lS (P:Program) (t:TypeId) (vs:List V):V:=match P.underlying t with
  |some (.struct _)=>.agg vs
  |some (.array _ _)=>.agg vs
  |_=>vs.headD gP
theorem aAP {x:Cx} {vs:List V} {c:Value} (h:RC x vs [c]):R x (vs.headD gP) c:=by
  obtain ⟨h1,h2⟩:=h
  cases vs with
  |nil=>simp at h1
  |cons u l=>exact h2 0 u rfl
theorem aQU {x:Cx} (hZ: ∀ b,b < x.w.heap.size→x.Z b) {n:Nat} {t:TypeId} (hok:okT P n t=true) {r:Reach} {b0 base:Nat} {spare:Nat→Bool} {held:Bool} {v:Value} {d:DataW H} {ps:List MemPlace}
    (tH:Value.okWide P x.w r b0 t v) (hd:DataW.Trod enc P x.w base spare held t v d ps): ∃ vs,Shp P n t vs∧R x (lS P t vs) v:=by
  obtain ⟨fuel,hf⟩:=hd
  obtain ⟨vs,h1,h2⟩:=aOk hZ n t hok fuel _ _ hf
  refine ⟨vs,h1,?_⟩
  unfold lS
  cases n with
  |zero=>cases hok
  | succ n =>
    simp only [okT] at hok
    split at hok
    · rename_i ht
      obtain ⟨b,rfl⟩:=okWide_bool ht tH
      rw [ht]; exact aAP h2
    · rename_i k ht
      obtain ⟨m,rfl⟩:=okWide_int ht tH
      rw [ht]; exact aAP h2
    · rename_i ht
      obtain ⟨s,rfl⟩:=okWide_string ht tH
      rw [ht]; exact aAP h2
    · rename_i e ht
      obtain ⟨a,l,c,rfl⟩:=okWide_slice ht tH
      rw [ht]; exact aAP h2
    · rename_i fs ht
      obtain ⟨cs,rfl,_⟩:=okWide_struct ht tH
      rw [ht]
      refine .agg vs cs (by have:=h2.1; simp [Value.cells] at this; omega) fun j u hj=>?_
      have:=h2.2 j u hj
      rw [List.getD_eq_getElem?_getD] at this
      rw [Array.getD_eq_getD_getElem?,← Array.getElem?_toList]
      exact this
    · rename_i m e ht
      have hval2:=tH
      simp only [Value.okWide,ht] at hval2
      obtain ⟨cs,rfl,_⟩:=hval2
      rw [ht]
      refine .agg vs cs (by have:=h2.1; simp [Value.cells] at this; omega) fun j u hj=>?_
      have:=h2.2 j u hj
      rw [List.getD_eq_getElem?_getD] at this
      rw [Array.getD_eq_getD_getElem?,← Array.getElem?_toList]
      exact this
    · cases hok
def aDr (P:Program) (n:Nat):List TypeId→List V→Prop
  |[],vs=>vs=[]
  |t::ts,vs=> ∃ a b,vs=lS P t a::b∧Shp P n t a∧aDr P n ts b
theorem aBs {x:Cx} (hZ: ∀ b,b < x.w.heap.size→x.Z b) {n:Nat} {r:Reach} {b0 base:Nat} {spare:Nat→Bool} {held:Bool}: ∀ (ts:List TypeId) (vs:List Value) (ds:List (DataW H)) (ps:List MemPlace),
    (∀ t∈ts,okT P n t=true)→(∀ (j:Nat) t v,ts[j]?=some t→vs[j]?=some v→Value.okWide P x.w r b0 t v)→DataW.TrodAll enc P x.w base spare held ts vs ds ps→
    ∃ us,aDr P n ts us∧RL x us vs
  | [], vs, ds, ps, _, _, h => by
    obtain ⟨rfl,rfl,rfl⟩:=trodAll_nil h
    exact ⟨[],rfl,rfl,fun j v hj=>by simp at hj⟩
  | t :: ts, vs, ds, ps, hok, tH, h => by
    obtain ⟨v,vs1,d,ds1,a,b,rfl,rfl,rfl,h1,h2⟩:=trodAll_cons h
    obtain ⟨ws,g1,g2⟩:=aQU hZ (hok t (List.mem_cons_self ..)) (tH 0 t v rfl rfl) h1
    obtain ⟨us,g3,g4⟩:=aBs hZ ts vs1 ds1 b (fun q hq=>hok q (List.mem_cons_of_mem _ hq)) (fun j q u hq hu=>tH (j+1) q u (by simpa using hq) (by simpa using hu)) h2
    refine ⟨lS P t ws::us,⟨ws,us,rfl,g1,g3⟩,by simp [g4.1],fun j u hj=>?_⟩
    cases j with
    |zero=>simp at hj; subst hj; exact g2
    |succ j=>exact g4.2 j u (by simpa using hj)
theorem nU (hl:laidOutB P=true) {W W':World} (hb:Below W.heap.size W W') {sp:Nat→Bool}: ∀ (ts:List TypeId) (vs:List Value) (ds:List (DataW H)) (ps:List MemPlace),
    (∀ t∈ts,P.readableRec t=true∧t < P.types.size)→DataW.TrodAll enc P W 0 (fun _=>true) true ts vs ds ps→(∀ p∈ps,p.block < W.heap.size)→(∀ p∈ps,sp p.block=true)→DataW.TrodAll enc P W' 0 sp true ts vs ds ps
  | [], vs, ds, ps, _, h, _, _ => by
    obtain ⟨rfl,rfl,rfl⟩:=trodAll_nil h
    exact h
  | t :: ts, vs, ds, ps, hr, h, hlt, hsp => by
    obtain ⟨v,vs1,d,ds1,a,b,rfl,rfl,rfl,h1,h2⟩:=trodAll_cons h
    refine ⟨a,b,WideElems.Trod_stays hl (hr t (List.mem_cons_self ..)).1 (hr t (List.mem_cons_self ..)).2 h1 (fun p hp=>hb.same (hlt p (List.mem_append_left _ hp))) (fun p hp=>hsp p (List.mem_append_left _ hp)),
      nU hl hb ts vs1 ds1 b (fun q hq=>hr q (List.mem_cons_of_mem _ hq)) h2 (fun p hp=>hlt p (List.mem_append_right _ hp)) (fun p hp=>hsp p (List.mem_append_right _ hp)),rfl⟩
theorem aIk {f:FuncId} {fn:Func} {s:ChangeSpec} {apart fresh handsOn again:Bool} {n tb:Nat} {W:World} {args:Array Value} {ds gs:List (DataW H)} {before:List MemPlace}
    (hl:laidOutB P=true) (hres:fn.resultTypes=#[tb]) (htb:P.underlying tb=some .bool) (hts: ∀ t∈fn.params.toList,okT P n t=true∧P.readableRec t=true∧t < P.types.size)
    (hvars:s.vars=[]) (hs:s.fn H (ds++gs)={results:=[.lit (.bool true)],args:=ds})
    (hlaw: ∀ us,aDr P n fn.params.toList us→aS P f us (.bool true))
    (tH: ∀ (j:Nat) t v,fn.params[j]?=some t→args[j]?=some v→Value.okWide P W .any 0 t v)
    (hW:DataW.Whole enc P fn.params.toList s.vars apart W args.toList ds gs before) (htab:aJD W (fun b=>b < W.heap.size):=by intro p hp; simp [aR1] at hp):
    Calls P f args W fun e W'=> ∃ v,e=.returned v∧s.post enc P fn apart fresh handsOn again W args v W':=by
  have hW':=hW
  obtain ⟨p,q,hA,hV,rfl,hfz,hnd⟩:=hW
  rw [hvars] at hV
  obtain ⟨rfl,rfl⟩:=trodVars_none hV
  have hlt:=hW'.lt
  let x:Cx:=start {w:=W,Z:=fun b=>b < W.heap.size,σ:=fun _=>0,H:=H0} (fun b=>b < W.heap.size)
  have hx:Inv x:=mT (fun b hb=>hb) htab
  obtain ⟨us,g1,g2⟩:=aBs (x:=x) (fun b hb=>hb) fn.params.toList args.toList ds p (fun t ht=>(hts t ht).1) (fun j t v h1 h2=>tH j t v (by simpa using h1) (by simpa using h2)) hA
  have hc:=(hlaw us g1 H0).2 x args.toList rfl hx g2
  rw [Array.toArray_toList] at hc
  refine Calls.mono (show Calls P f args W _ from hc) fun e W' h=>?_
  obtain ⟨c,y,rfl,rfl,h3,h4,h5,h6⟩:=h
  cases h5
  have hb:Below W.heap.size W y.w:=uO h6 (fun _=>rfl) rfl
  refine ⟨_,rfl,xS (pa:=p) (pv:=[]) hW' (fun b sp hd=>?_) (fun sp hsp=>?_) (fun sp _=>?_) (by simp) hb ?_⟩
  · rw [hs,hres]
    exact trodAll_mk1 (shut_bool htb true)
  · rw [hs]
    exact nU hl hb _ _ _ _ (fun t ht=>(hts t ht).2) hA (fun z hz=>hlt z (by simpa using hz)) (fun z hz=>hsp z (by simpa using hz))
  · rw [hs,hvars]; rfl
  · exact ok_one hres rfl (okWide_bool_mk htb true)
end
end Go.Proofs.YtmnnhjhkaepbaaaGreat


