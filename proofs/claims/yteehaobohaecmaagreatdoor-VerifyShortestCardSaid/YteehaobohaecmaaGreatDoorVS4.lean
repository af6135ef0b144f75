/- Contracts of the functions that the law VS reaches, and the law itself, for every input; no condition. -/
import Derived.KernelRfl
import Derived.Test.YteehaobohaecmaaGreatDoorRows
import Derived.LaidSub
import Derived.LaidMore
import Derived.Lib.LaidTab
import Derived.Test.YteehaobohaecmaaGreatDoorTie
import Derived.Test.YteehaobohaecmaaGreatDoorCards
import Derived.OpenShut
import Derived.Stop.Joined
import Derived.SevenTiedAt
import Derived.Test.YteehaobohaecmaaGreatDoorVS3
set_option linter.unusedSimpArgs false
set_option linter.unusedVariables false
namespace Go.Proofs.YteehaobohaecmaaGreatDoor
open Go
inductive K where
  |L (p:Int→Int→Bool) (q:Bool)
  |X (w:Bool) (k:K)
  |N (u:Bool) (i s:K)
  |A (a b:K)
  |O (a b:K)
section
variable (n:Nat) (lt:Nat→Int×Int)
def ks:K→Nat→Bool
  | .L p q,i=>if i < n then p (lt i).1 (lt i).2 else q
  | .X w k,i=>if i < n then ks k (i+1) else w
  | .N u i s,j=>if u=true then jB (ks i) (ks s) (n - j) j else jD (ks s) (ks i) (n - j) j
  | .A a b,i=>ks a i&&ks b i
  | .O a b,i=>ks a i||ks b i
end
section
variable {n:Nat} {lt:Nat→Int×Int} {i s:K} {j:Nat}
theorem tJ (h:j < n):ks n lt (.N true i s) j=(ks n lt s j||(ks n lt i j&&ks n lt (.N true i s) (j+1))):=by
  simp only [ks,if_true]
  rw [show n - j=(n - (j+1))+1 by omega,jB]
theorem aBg:ks n lt (.N true i s) n=ks n lt s n:=by
  simp only [ks,if_true]
  rw [Nat.sub_self,jB]
theorem tI (h:j < n):ks n lt (.N false i s) j=(ks n lt i j&&(ks n lt s j||ks n lt (.N false i s) (j+1))):=by
  simp only [ks,Bool.false_eq_true,if_false]
  rw [show n - j=(n - (j+1))+1 by omega,jD]
theorem aFk:ks n lt (.N false i s) n=ks n lt i n:=by
  simp only [ks,Bool.false_eq_true,if_false]
  rw [Nat.sub_self,jD]
end
inductive DD where
  |L
  |X (σ:Nat→Bool) (d:DD)
  |N (v:Nat→Bool) (d e:DD)
  |P (d e:DD)
def pat:DD→Nat→List Bool
  | .L,_=>[]
  | .X σ d,q=>σ q::pat d q
  | .N v d e,q=>v q::(pat d q++pat e q)
  | .P d e,q=>pat d q++pat e q
def DD.ln:DD→Nat
  | .L=>0
  | .X _ d=>d.ln+1
  | .N _ d e=>d.ln+e.ln+1
  | .P d e=>d.ln+e.ln
theorem gO: ∀ (d:DD) (q:Nat),(pat d q).length=d.ln
  | .L,_=>rfl
  | .X _ d,q=>by simp [pat,DD.ln,gO d q]
  | .N _ d e,q=>by simp [pat,DD.ln,gO d q,gO e q]
  | .P d e,q=>by simp [pat,DD.ln,gO d q,gO e q]
structure NR (u:Bool) (n:Nat) (r v x y c:Nat→Bool):Prop where
  z:v 0=r 0
  s: ∀ j,j < n→v (j+1)=(r (j+1)||c j)
  off: ∀ j,j≤n→v j=false→x j=false∧y j=false∧c j=false
  con: ∀ j,j < n→v j=true→c j=true→x j=true∧y j=false
  dis: ∀ j,j < n→v j=true→c j=false→y j=true∧x j= !u
  fin:v n=true→x n= !u∧y n=u
section
variable (n:Nat) (lt:Nat→Int×Int)
def Gs:K→(Nat→Bool)→DD→Prop
  | .L p q,r,d=>d=.L∧ ∀ i,i≤n→r i=true→ks n lt (.L p q) i=true
  | .X w k,r,d=> ∃ σ d',d=.X σ d'∧(∀ i,i < n→σ (i+1)=r i)∧(r n=true→w=true)∧Gs k σ d'
  | .N u i s,r,d=> ∃ v x y c d1 d2,d=.N v d1 d2∧NR u n r v x y c∧Gs i x d1∧Gs s y d2
  | .A a b,r,d=> ∃ d1 d2,d=.P d1 d2∧Gs a r d1∧Gs b r d2
  | .O a b,r,d=> ∃ x y d1 d2,d=.P d1 d2∧(∀ i,i≤n→(x i||y i)=r i)∧Gs a x d1∧Gs b y d2
end
section
variable {n:Nat} {lt:Nat→Int×Int}
theorem NR.all {u:Bool} {r v x y c:Nat→Bool} {i s:K} (h:NR u n r v x y c) (hx: ∀ p,p≤n→x p=true→ks n lt i p=true) (hy: ∀ p,p≤n→y p=true→ks n lt s p=true): ∀ (m p:Nat),p+m=n→v p=true→ks n lt (.N u i s) p=true:=by
  intro m
  induction m with
  | zero =>
    intro p hp hv
    have e:p=n:=by omega
    subst e
    have hf:=h.fin hv
    cases u with
    |true=>rw [aBg]; exact hy p (Nat.le_refl _) hf.2
    |false=>rw [aFk]; exact hx p (Nat.le_refl _) hf.1
  | succ m ih =>
    intro p hp hv
    have hpn:p < n:=by omega
    cases hc:c p with
    | true =>
      have q:=h.con p hpn hv hc
      have hv2:v (p+1)=true:=by rw [h.s p hpn,hc,Bool.or_true]
      have a:=ih (p+1) (by omega) hv2
      have b:=hx p (by omega) q.1
      cases u with
      |true=>rw [tJ hpn,a,b]; simp
      |false=>rw [tI hpn,a,b]; simp
    | false =>
      have q:=h.dis p hpn hv hc
      have a:=hy p (by omega) q.1
      cases u with
      |true=>rw [tJ hpn,a]; simp
      |false=>rw [tI hpn,a,hx p (by omega) q.2]; simp
theorem Gs.sound: ∀ {k:K} {r:Nat→Bool} {d:DD},Gs n lt k r d→ ∀ p,p≤n→r p=true→ks n lt k p=true
  | .L _ _,_,_,h=>h.2
  | .X w k, r, d, h => by
    obtain ⟨σ,d',_,h1,h2,h3⟩:=h
    intro p hp hr
    simp only [ks]
    by_cases e:p < n
    · rw [if_pos e]; exact Gs.sound h3 (p+1) (by omega) (by rw [h1 p e]; exact hr)
    · rw [if_neg e]; exact h2 (by rw [show n=p by omega]; exact hr)
  | .N u i s, r, d, h => by
    obtain ⟨v,x,y,c,d1,d2,_,h1,h2,h3⟩:=h
    intro p hp hr
    refine h1.all (Gs.sound h2) (Gs.sound h3) (n - p) p (by omega) ?_
    cases p with
    |zero=>rw [h1.z]; exact hr
    |succ p=>rw [h1.s p (by omega),hr]; rfl
  | .A a b, r, d, h => by
    obtain ⟨d1,d2,_,h1,h2⟩:=h
    intro p hp hr
    simp only [ks]
    rw [Gs.sound h1 p hp hr,Gs.sound h2 p hp hr]; rfl
  | .O a b, r, d, h => by
    obtain ⟨x,y,d1,d2,_,h0,h1,h2⟩:=h
    intro p hp hr
    simp only [ks]
    have e:=h0 p hp
    rw [hr] at e
    cases hx:x p with
    |true=>rw [Gs.sound h1 p hp hx]; rfl
    |false=>rw [hx,Bool.false_or] at e; rw [Gs.sound h2 p hp e,Bool.or_true]
def vN (r h:Nat→Bool):Nat→Bool
  |0=>r 0
  |j+1=>r (j+1)||(vN r h j&& !h j)
theorem aMD {u:Bool} {i s:K} {r:Nat→Bool} (hr: ∀ p,p≤n→r p=true→ks n lt (.N u i s) p=true): ∀ p,p≤n→vN r (ks n lt s) p=true→ks n lt (.N u i s) p=true
  |0,hp,h=>hr 0 hp h
  | p + 1, hp, h => by
    rw [vN,Bool.or_eq_true,Bool.and_eq_true] at h
    rcases h with h|⟨h1,h2⟩
    · exact hr _ hp h
    · have ih:=aMD hr p (by omega) h1
      have hs:ks n lt s p=false:=by simpa using h2
      cases u with
      |true=>rw [tJ (by omega),hs,Bool.false_or,Bool.and_eq_true] at ih; exact ih.2
      |false=>rw [tI (by omega),hs,Bool.false_or,Bool.and_eq_true] at ih; exact ih.2
theorem Gs.make : ∀ (k : K) (r : Nat → Bool), (∀ p, p ≤ n → r p = true → ks n lt k p = true) → ∃ d, Gs n lt k r d
  | .L p q,r,h=>⟨.L,rfl,h⟩
  | .X w k, r, h => by
    have hk: ∀ p,p≤n→(fun p=>match p with|0=>false|p+1=>r p) p=true→ks n lt k p=true:=by
      intro p hp e
      cases p with
      |zero=>cases e
      | succ p =>
        have:=h p (by omega) e
        simp only [ks] at this
        rw [if_pos (by omega)] at this; exact this
    obtain ⟨d,hd⟩:=Gs.make k _ hk
    exact ⟨.X _ d,_,d,rfl,fun i _=>rfl,fun e=>by have:=h n (Nat.le_refl _) e; simp only [ks] at this; rw [if_neg (by omega)] at this; exact this,hd⟩
  | .N u i s, r, h => by
    have hv:=aMD h
    have hc: ∀ p,p≤n→vN r (ks n lt s) p=true→ks n lt s p=false→p < n∨u=false:=by
      intro p hp h1 h2
      by_cases e:p < n
      · exact .inl e
      · right
        have e2:p=n:=by omega
        subst e2
        cases u with
        |true=>have:=hv p (Nat.le_refl _) h1; rw [aBg,h2] at this; cases this
        |false=>rfl
    cases u with
    | true =>
      obtain ⟨d1,g1⟩:=Gs.make i (fun p=>vN r (ks n lt s) p&& !ks n lt s p) fun p hp e=>by
        rw [Bool.and_eq_true] at e
        have e2:ks n lt s p=false:=by simpa using e.2
        have:=hv p hp e.1
        rw [tJ ((hc p hp e.1 e2).resolve_right (by decide)),e2,Bool.false_or,Bool.and_eq_true] at this
        exact this.1
      obtain ⟨d2,g2⟩:=Gs.make s (fun p=>vN r (ks n lt s) p&&ks n lt s p) fun p hp e=>by rw [Bool.and_eq_true] at e; exact e.2
      refine ⟨.N (vN r (ks n lt s)) d1 d2,vN r (ks n lt s),_,_,(fun p=>vN r (ks n lt s) p&& !ks n lt s p),d1,d2,rfl,⟨rfl,fun j _=>rfl,fun j _ e=>by simp [e],fun j hj e e2=>?_,fun j hj e e2=>?_,fun e=>?_⟩,g1,g2⟩
      · rw [e,Bool.true_and] at e2
        have e3:ks n lt s j=false:=by simpa using e2
        simp [e,e3]
      · rw [e,Bool.true_and] at e2
        have e3:ks n lt s j=true:=by simpa using e2
        simp [e,e3]
      · have e3:ks n lt s n=true:=by have:=hv n (Nat.le_refl _) e; rw [aBg] at this; exact this
        simp [e,e3]
    | false =>
      obtain ⟨d1,g1⟩:=Gs.make i (vN r (ks n lt s)) fun p hp e=>by
        have:=hv p hp e
        by_cases q:p < n
        · rw [tI q,Bool.and_eq_true] at this; exact this.1
        · rw [show p=n by omega] at this ⊢; rw [aFk] at this; exact this
      obtain ⟨d2,g2⟩:=Gs.make s (fun p=>vN r (ks n lt s) p&&ks n lt s p&&decide (p < n)) fun p hp e=>by rw [Bool.and_eq_true,Bool.and_eq_true] at e; exact e.1.2
      refine ⟨.N (vN r (ks n lt s)) d1 d2,vN r (ks n lt s),_,_,(fun p=>vN r (ks n lt s) p&& !ks n lt s p),d1,d2,rfl,⟨rfl,fun j _=>rfl,fun j _ e=>by simp [e],fun j hj e e2=>?_,fun j hj e e2=>?_,fun e=>?_⟩,g1,g2⟩
      · rw [e,Bool.true_and] at e2
        have e3:ks n lt s j=false:=by simpa using e2
        simp [e,e3]
      · rw [e,Bool.true_and] at e2
        have e3:ks n lt s j=true:=by simpa using e2
        simp [e,e3,hj]
      · simp [e]
  | .A a b, r, h => by
    obtain ⟨d1,g1⟩:=Gs.make a r fun p hp e=>by have:=h p hp e; simp only [ks,Bool.and_eq_true] at this; exact this.1
    obtain ⟨d2,g2⟩:=Gs.make b r fun p hp e=>by have:=h p hp e; simp only [ks,Bool.and_eq_true] at this; exact this.2
    exact ⟨.P d1 d2,d1,d2,rfl,g1,g2⟩
  | .O a b, r, h => by
    obtain ⟨d1,g1⟩:=Gs.make a (fun p=>r p&&ks n lt a p) fun p hp e=>by rw [Bool.and_eq_true] at e; exact e.2
    obtain ⟨d2,g2⟩:=Gs.make b (fun p=>r p&& !ks n lt a p) fun p hp e=>by
      rw [Bool.and_eq_true] at e
      have e2:ks n lt a p=false:=by simpa using e.2
      have:=h p hp e.1
      simp only [ks] at this
      rw [e2,Bool.false_or] at this; exact this
    exact ⟨.P d1 d2,_,_,d1,d2,rfl,fun i _=>by cases r i <;> cases ks n lt a i <;> rfl,g1,g2⟩
end
def ltC (lt:Nat→Int×Int) (i j p:Nat):Int×Int:=if p < i then lt p else lt (p+(j - i))
section
variable {n:Nat} {lt:Nat→Int×Int} {i j:Nat}
theorem vY {g h g' h':Nat→Bool}: ∀ {m p q:Nat},(∀ k,k≤m→g (p+k)=g' (q+k))→(∀ k,k≤m→h (p+k)=h' (q+k))→jB g h m p=jB g' h' m q
  |0,p,q,_,h2=>h2 0 (Nat.le_refl _)
  | m + 1, p, q, h1, h2 => by
    have a:=h1 0 (by omega); have b:=h2 0 (by omega)
    simp only [Nat.add_zero] at a b
    rw [jB,jB,a,b,vY (g':=g') (h':=h') (q:=q+1) (fun k hk=>by have:=h1 (k+1) (by omega); rw [show p+1+k=p+(k+1) by omega,show q+1+k=q+(k+1) by omega]; exact this) (fun k hk=>by have:=h2 (k+1) (by omega); rw [show p+1+k=p+(k+1) by omega,show q+1+k=q+(k+1) by omega]; exact this)]
theorem vW {g h g' h':Nat→Bool}: ∀ {m p q:Nat},(∀ k,k≤m→g (p+k)=g' (q+k))→(∀ k,k≤m→h (p+k)=h' (q+k))→jD g h m p=jD g' h' m q
  |0,p,q,_,h2=>h2 0 (Nat.le_refl _)
  | m + 1, p, q, h1, h2 => by
    have a:=h1 0 (by omega); have b:=h2 0 (by omega)
    simp only [Nat.add_zero] at a b
    rw [jD,jD,a,b,vW (g':=g') (h':=h') (q:=q+1) (fun k hk=>by have:=h1 (k+1) (by omega); rw [show p+1+k=p+(k+1) by omega,show q+1+k=q+(k+1) by omega]; exact this) (fun k hk=>by have:=h2 (k+1) (by omega); rw [show p+1+k=p+(k+1) by omega,show q+1+k=q+(k+1) by omega]; exact this)]
theorem gE (hij:i≤j) (hj:j≤n): ∀ (k:K) (p:Nat),i≤p→p≤n - (j - i)→ks (n - (j - i)) (ltC lt i j) k p=ks n lt k (p+(j - i))
  | .L a b, p, h1, h2 => by
    simp only [ks]
    by_cases e:p < n - (j - i)
    · rw [if_pos e,if_pos (by omega)]; unfold ltC; rw [if_neg (by omega)]
    · rw [if_neg e,if_neg (by omega)]
  | .X w k, p, h1, h2 => by
    simp only [ks]
    by_cases e:p < n - (j - i)
    · rw [if_pos e,if_pos (by omega),gE hij hj k (p+1) (by omega) (by omega)]; congr 1; omega
    · rw [if_neg e,if_neg (by omega)]
  | .N u a b, p, h1, h2 => by
    simp only [ks]
    have e:n - (p+(j - i))=n - (j - i) - p:=by omega
    rw [e]
    have ha: ∀ k,k≤n - (j - i) - p→ks (n - (j - i)) (ltC lt i j) a (p+k)=ks n lt a (p+(j - i)+k):=fun k hk=>by rw [gE hij hj a (p+k) (by omega) (by omega)]; congr 1; omega
    have hb: ∀ k,k≤n - (j - i) - p→ks (n - (j - i)) (ltC lt i j) b (p+k)=ks n lt b (p+(j - i)+k):=fun k hk=>by rw [gE hij hj b (p+k) (by omega) (by omega)]; congr 1; omega
    cases u with
    |true=>rw [if_pos rfl,if_pos rfl]; exact vY ha hb
    |false=>rw [if_neg (by decide),if_neg (by decide)]; exact vW hb ha
  | .A a b,p,h1,h2=>by simp only [ks]; rw [gE hij hj a p h1 h2,gE hij hj b p h1 h2]
  | .O a b,p,h1,h2=>by simp only [ks]; rw [gE hij hj a p h1 h2,gE hij hj b p h1 h2]
theorem aA1 {d e:DD} (h:pat d i++pat e i=pat d j++pat e j):pat d i=pat d j∧pat e i=pat e j:=
  List.append_inj h (by rw [gO,gO])
theorem Gs.cut (hij : i < j) (hj : j ≤ n) : ∀ {k : K} {r : Nat → Bool} {d : DD}, Gs n lt k r d → pat d i = pat d j → ∀ p, p < i → r p = true → ks (n - (j - i)) (ltC lt i j) k p = true
  | .L a b, r, d, h, _ => by
    intro p hp hr
    have:=h.2 p (by omega) hr
    simp only [ks] at this ⊢
    rw [if_pos (by omega)] at this ⊢
    unfold ltC; rw [if_pos hp]; exact this
  | .X w k, r, d, h, e => by
    obtain ⟨σ,d',rfl,h1,h2,h3⟩:=h
    intro p hp hr
    simp only [pat,List.cons.injEq] at e
    simp only [ks]
    rw [if_pos (by omega)]
    have hs:σ (p+1)=true:=by rw [h1 p (by omega)]; exact hr
    by_cases q:p+1 < i
    · exact Gs.cut hij hj h3 e.2 (p+1) q hs
    · have q2:p+1=i:=by omega
      rw [q2] at hs ⊢
      rw [gE (by omega) hj k i (Nat.le_refl _) (by omega),show i+(j - i)=j by omega]
      exact Gs.sound h3 j hj (by rw [← e.1]; exact hs)
  | .N u a b, r, d, h, e => by
    obtain ⟨v,x,y,c,d1,d2,rfl,h1,h2,h3⟩:=h
    simp only [pat,List.cons.injEq] at e
    obtain ⟨e1,e2⟩:=e
    obtain ⟨e2,e3⟩:=aA1 e2
    have ca:=Gs.cut hij hj h2 e2
    have cb:=Gs.cut hij hj h3 e3
    have key: ∀ m p,p+m=i→v p=true→ks (n - (j - i)) (ltC lt i j) (.N u a b) p=true:=by
      intro m
      induction m with
      | zero =>
        intro p hp hv
        have q:p=i:=by omega
        subst q
        rw [gE (by omega) hj _ p (Nat.le_refl _) (by omega),show p+(j - p)=j by omega]
        exact h1.all (Gs.sound h2) (Gs.sound h3) (n - j) j (by omega) (by rw [← e1]; exact hv)
      | succ m ih =>
        intro p hp hv
        have hpn:p < n:=by omega
        have hpm:p < n - (j - i):=by omega
        cases hc:c p with
        | true =>
          have q:=h1.con p hpn hv hc
          have hv2:v (p+1)=true:=by rw [h1.s p hpn,hc,Bool.or_true]
          have z1:=ih (p+1) (by omega) hv2
          have z2:=ca p (by omega) q.1
          cases u with
          |true=>rw [tJ hpm,z1,z2]; simp
          |false=>rw [tI hpm,z1,z2]; simp
        | false =>
          have q:=h1.dis p hpn hv hc
          have z1:=cb p (by omega) q.1
          cases u with
          |true=>rw [tJ hpm,z1]; simp
          |false=>rw [tI hpm,z1,ca p (by omega) q.2]; simp
    intro p hp hr
    refine key (i - p) p (by omega) ?_
    cases p with
    |zero=>rw [h1.z]; exact hr
    |succ p=>rw [h1.s p (by omega),hr]; rfl
  | .A a b, r, d, h, e => by
    obtain ⟨d1,d2,rfl,h1,h2⟩:=h
    obtain ⟨e1,e2⟩:=aA1 e
    intro p hp hr
    simp only [ks]
    rw [Gs.cut hij hj h1 e1 p hp hr,Gs.cut hij hj h2 e2 p hp hr]; rfl
  | .O a b, r, d, h, e => by
    obtain ⟨x,y,d1,d2,rfl,h0,h1,h2⟩:=h
    obtain ⟨e1,e2⟩:=aA1 e
    intro p hp hr
    simp only [ks]
    have z:=h0 p (by omega)
    rw [hr] at z
    cases hx:x p with
    |true=>rw [Gs.cut hij hj h1 e1 p hp hx]; rfl
    |false=>rw [hx,Bool.false_or] at z; rw [Gs.cut hij hj h2 e2 p hp z,Bool.or_true]
end
end Go.Proofs.YteehaobohaecmaaGreatDoor
namespace Go.Proofs.YteehaobohaecmaaGreatDoor
open Go
inductive Sh where
  |L
  |X (k:Sh)
  |N (i s:Sh)
  |A (a b:Sh)
  |O (a b:Sh)
def K.sh:K→Sh
  | .L _ _=>.L
  | .X _ k=>.X k.sh
  | .N _ i s=>.N i.sh s.sh
  | .A a b=>.A a.sh b.sh
  | .O a b=>.O a.sh b.sh
def Sh.e:Sh→Nat
  | .L=>0
  | .X k=>k.e+1
  | .N i s=>i.e+s.e+1
  | .A a b=>a.e+b.e
  | .O a b=>a.e+b.e
def Sh.z:Sh→Nat
  | .L=>1
  | .X k=>k.z+1
  | .N i s=>i.z+s.z+1
  | .A a b=>a.z+b.z+1
  | .O a b=>a.z+b.z+1
theorem Gs.len {n:Nat} {lt:Nat→Int×Int}: ∀ {k:K} {r:Nat→Bool} {d:DD},Gs n lt k r d→d.ln=k.sh.e
  | .L _ _,_,_,h=>by rw [h.1]; rfl
  | .X _ k,_,_,h=>by obtain ⟨σ,d',rfl,_,_,h3⟩:=h; simp only [DD.ln,K.sh,Sh.e]; rw [Gs.len h3]
  | .N _ _ _,_,_,h=>by obtain ⟨v,x,y,c,d1,d2,rfl,_,h2,h3⟩:=h; simp only [DD.ln,K.sh,Sh.e]; rw [Gs.len h2,Gs.len h3]
  | .A _ _,_,_,h=>by obtain ⟨d1,d2,rfl,h2,h3⟩:=h; simp only [DD.ln,K.sh,Sh.e]; rw [Gs.len h2,Gs.len h3]
  | .O _ _,_,_,h=>by obtain ⟨x,y,d1,d2,rfl,_,h2,h3⟩:=h; simp only [DD.ln,K.sh,Sh.e]; rw [Gs.len h2,Gs.len h3]
def Bq (S:Nat):Nat→Nat→List (Sh×Bool)→Nat
  |0,f,_=>S*2 ^ f
  |_+1,f,[]=>S*2 ^ f
  |k+1,f,(.L,_)::r=>Bq S k f r
  |k+1,f,(.X c,m)::r=>Bq S k f ((c,m)::r)+1
  |k+1,f,(.A a b,m)::r=>Bq S k f ((a,m)::(b,m)::r)
  |k+1,f,(.O a b,true)::r=>Bq S k (f+(a.e+b.e)) r
  |k+1,f,(.O a b,false)::r=>Bq S k f ((a,false)::(b,false)::r)
  |k+1,f,(.N i s,true)::r=>Bq S k (f+(i.e+s.e)) r
  |k+1,f,(.N i s,false)::r=>Bq S k f ((i,true)::(s,false)::r)+1+Bq S k f ((i,false)::(s,false)::r)
theorem aHA {α:Type} [DecidableEq α]: ∀ {l m:List α},l.Nodup→(∀ a∈l,a∈m)→l.length≤m.length
  |[],_,_,_=>Nat.zero_le _
  | a :: l, m, hn, hs => by
    obtain ⟨h1,h2⟩:=List.nodup_cons.1 hn
    have ha:=hs a (List.mem_cons_self ..)
    have ih:=aHA (m:=m.erase a) h2 fun b hb=>(List.mem_erase_of_ne (fun e=>h1 (by rw [← e]; exact hb))).2 (hs b (List.mem_cons_of_mem _ hb))
    rw [List.length_erase_of_mem ha] at ih
    have:=List.length_pos_of_mem ha
    rw [List.length_cons]; omega
def bls:Nat→List (List Bool)
  |0=>[[]]
  |n+1=>(bls n).map (false:: ·)++(bls n).map (true:: ·)
theorem aEG: ∀ n,(bls n).length=2 ^ n
  |0=>rfl
  |n+1=>by rw [bls,List.length_append,List.length_map,List.length_map,aEG n,Nat.pow_succ]; omega
theorem aFq: ∀ {n:Nat} {l:List Bool},l.length=n→l∈bls n
  |0,l,h=>by rw [List.length_eq_zero_iff] at h; rw [h]; exact List.mem_singleton.2 rfl
  |n+1,[],h=>by cases h
  | n + 1, b :: l, h => by
    have:=aFq (n:=n) (l:=l) (by simpa using h)
    rw [bls,List.mem_append]
    cases b with
    |false=>exact .inl (List.mem_map.2 ⟨l,this,rfl⟩)
    |true=>exact .inr (List.mem_map.2 ⟨l,this,rfl⟩)
theorem pig {S:List Int} {st:Nat→Int} {x:Nat→List Bool} {f a T:Nat} (hx: ∀ q,(x q).length=f) (hs: ∀ q,a≤q→q < a+T→st q∈S) (hd: ∀ q q',a≤q→q < q'→q' < a+T→st q=st q'→x q=x q'→False):T≤S.length*2 ^ f:=by
  have h:=aHA (l:=(List.range T).map fun q=>(st (a+q),x (a+q))) (m:=S.flatMap fun s=>(bls f).map fun b=>(s,b)) (by
    rw [List.nodup_iff_pairwise_ne,List.pairwise_map]
    refine List.Pairwise.imp_of_mem (R:=fun i j=>i < j) (fun {i j} hi hj hij e=>?_) List.pairwise_lt_range
    injection e with e1 e2
    exact hd (a+i) (a+j) (by omega) (by omega) (by have:=List.mem_range.1 hj; omega) e1 e2) (by
    intro p hp
    obtain ⟨q,hq,rfl⟩:=List.mem_map.1 hp
    have hq:=List.mem_range.1 hq
    exact List.mem_flatMap.2 ⟨st (a+q),hs _ (by omega) (by omega),List.mem_map.2 ⟨x (a+q),aFq (hx _),rfl⟩⟩)
  rw [List.length_map,List.length_range,List.length_flatMap] at h
  have e:(S.map fun s=>((bls f).map fun b=>(s,b)).length)=S.map fun _=>2 ^ f:=List.map_congr_left fun s _=>by rw [List.length_map,aEG]
  rw [e] at h
  have e2: ∀ l:List Int,(l.map fun _=>2 ^ f).sum=l.length*2 ^ f:=by
    intro l
    induction l with
    |nil=>simp
    |cons a l ih=>rw [List.map_cons,List.sum_cons,ih,List.length_cons,Nat.succ_mul]; omega
  rw [e2] at h; exact h
structure Cm where
  k:K
  m:Bool
  r:Nat→Bool
  d:DD
structure Cm.OK (n:Nat) (lt:Nat→Int×Int) (a T:Nat) (c:Cm):Prop where
  g:Gs n lt c.k c.r c.d
  t: ∀ q,a≤q→q < a+T→c.r q=c.m
def qV:List Cm→Nat→List Bool
  |[],_=>[]
  |c::l,q=>pat c.d q++qV l q
def wtC (l:List Cm):Nat:=(l.map fun c=>c.k.sh.z).sum
theorem fR (c:Cm) (l:List Cm):wtC (c::l)=c.k.sh.z+wtC l:=by simp [wtC]
abbrev shC (c:Cm):Sh×Bool:=(c.k.sh,c.m)
theorem wK {v : Nat → Bool} {a : Nat} : ∀ {T : Nat}, (∀ q, a ≤ q → q + 1 < a + T → v q = false → v (q + 1) = false) → ∃ l, l ≤ T ∧ (∀ q, a ≤ q → q < a + l → v q = true) ∧ ∀ q, a + l ≤ q → q < a + T → v q = false
  |0,_=>⟨0,Nat.le_refl _,fun q h1 h2=>by omega,fun q h1 h2=>by omega⟩
  | T + 1, h => by
    obtain ⟨l,h1,h2,h3⟩:=wK (v:=v) (a:=a) (T:=T) fun q a1 a2=>h q a1 (by omega)
    by_cases e:l=T
    · subst e
      cases hv:v (a+l) with
      |true=>exact ⟨l+1,Nat.le_refl _,fun q a1 a2=>by by_cases z:q=a+l; (rw [z]; exact hv); exact h2 q a1 (by omega),fun q a1 a2=>by omega⟩
      |false=>exact ⟨l,by omega,h2,fun q a1 a2=>by rw [show q=a+l by omega]; exact hv⟩
    · refine ⟨l,by omega,h2,fun q a1 a2=>?_⟩
      by_cases z:q < a+T
      · exact h3 q a1 z
      · have:=h3 (a+T - 1) (by omega) (by omega)
        have w:=h (a+T - 1) (by omega) (by omega) this
        rw [show q=a+T - 1+1 by omega]; exact w
section
variable {n:Nat} {lt:Nat→Int×Int} {S:List Int} {st:Nat→Int}
theorem Cm.OK.sub {a T b U:Nat} {c:Cm} (h:c.OK n lt a T) (h1:a≤b) (h2:b+U≤a+T):c.OK n lt b U:=⟨h.g,fun q q1 q2=>h.t q (by omega) (by omega)⟩
theorem cnt : ∀ (k : Nat) (l : List Cm) (f : Nat) (x : Nat → List Bool) (a T : Nat), wtC l ≤ k → (∀ c ∈ l, c.OK n lt a T) → a + T ≤ n + 1 → (∀ q, (x q).length = f) → (∀ q, a ≤ q → q < a + T → st q ∈ S) →
    (∀ q q',a≤q→q < q'→q' < a+T→st q=st q'→x q=x q'→qV l q=qV l q'→False)→T≤Bq S.length k f (l.map shC):=by
  intro k
  induction k with
  | zero =>
    intro l f x a T hw _ _ hx hs hd
    cases l with
    |nil=>exact pig hx hs fun q q' h1 h2 h3 h4 h5=>hd q q' h1 h2 h3 h4 h5 rfl
    | cons c l =>
      rw [fR] at hw
      have:1≤c.k.sh.z:=by cases c.k.sh <;> simp only [Sh.z] <;> omega
      omega
  | succ k ih =>
    intro l f x a T hw ho hn hx hs hd
    cases l with
    |nil=>exact pig hx hs fun q q' h1 h2 h3 h4 h5=>hd q q' h1 h2 h3 h4 h5 rfl
    | cons c l =>
      obtain ⟨kk,m,r,d⟩:=c
      have hc:=ho _ (List.mem_cons_self ..)
      have hl: ∀ c∈l,c.OK n lt a T:=fun c h=>ho c (List.mem_cons_of_mem _ h)
      obtain ⟨hg,ht⟩:=hc
      simp only at hg ht
      rw [fR] at hw
      simp only at hw
      cases kk with
      | L p0 q0 =>
        simp only [K.sh,Sh.z] at hw
        have hdl:d=.L:=hg.1
        subst hdl
        exact ih l f x a T (by omega) hl hn hx hs fun q q' h1 h2 h3 h4 h5 h6=>hd q q' h1 h2 h3 h4 h5 (by simp only [qV,pat,h6])
      | X w k' =>
        simp only [K.sh,Sh.z] at hw
        obtain ⟨σ,d',rfl,g1,g2,g3⟩:=hg
        show T≤Bq S.length k f ((k'.sh,m)::l.map shC)+1
        by_cases hT:T=0
        · omega
        have hσ: ∀ q,a+1≤q→q < a+T→σ q=m:=fun q q1 q2=>by
          have:=g1 (q - 1) (by omega)
          rw [show q - 1+1=q by omega] at this
          rw [this]; exact ht (q - 1) (by omega) (by omega)
        have:=ih (⟨k',m,σ,d'⟩::l) f x (a+1) (T - 1) (by rw [fR]; simp only; omega) (fun c hc=>by
          rcases List.mem_cons.1 hc with e|e
          · subst e; exact ⟨g3,fun q q1 q2=>hσ q q1 (by omega)⟩
          · exact (hl c e).sub (by omega) (by omega)) (by omega) hx (fun q q1 q2=>hs q (by omega) (by omega)) fun q q' h1 h2 h3 h4 h5 h6=>hd q q' (by omega) h2 (by omega) h4 h5 (by
            simp only [qV,pat] at h6 ⊢
            rw [hσ q (by omega) (by omega),hσ q' (by omega) (by omega),List.cons_append,List.cons_append,h6])
        have e:((⟨k',m,σ,d'⟩::l:List Cm).map shC)=(k'.sh,m)::l.map shC:=rfl
        rw [e] at this; omega
      | A p q =>
        simp only [K.sh,Sh.z] at hw
        obtain ⟨d1,d2,rfl,g1,g2⟩:=hg
        exact ih (⟨p,m,r,d1⟩::⟨q,m,r,d2⟩::l) f x a T (by rw [fR,fR]; simp only; omega) (fun c hc=>by
          rcases List.mem_cons.1 hc with e|e
          · subst e; exact ⟨g1,ht⟩
          rcases List.mem_cons.1 e with e|e
          · subst e; exact ⟨g2,ht⟩
          · exact hl c e) hn hx hs fun q q' h1 h2 h3 h4 h5 h6=>hd q q' h1 h2 h3 h4 h5 (by simp only [qV,pat] at h6 ⊢; rw [List.append_assoc,List.append_assoc]; exact h6)
      | O p q =>
        simp only [K.sh,Sh.z] at hw
        obtain ⟨u,v,d1,d2,rfl,g0,g1,g2⟩:=hg
        cases m with
        | true =>
          refine ih l (f+(p.sh.e+q.sh.e)) (fun j=>x j++(pat d1 j++pat d2 j)) a T (by omega) hl hn (fun j=>by rw [List.length_append,List.length_append,hx,gO,gO,g1.len,g2.len]) hs fun j j' h1 h2 h3 h4 h5 h6=>?_
          have:=List.append_inj h5 (by rw [hx,hx])
          exact hd j j' h1 h2 h3 h4 this.1 (by simp only [qV,pat]; rw [this.2,h6])
        | false =>
          have hz: ∀ j,a≤j→j < a+T→u j=false∧v j=false:=fun j j1 j2=>by
            have:=g0 j (by omega)
            rw [ht j j1 j2] at this
            simpa using this
          exact ih (⟨p,false,u,d1⟩::⟨q,false,v,d2⟩::l) f x a T (by rw [fR,fR]; simp only; omega) (fun c hc=>by
            rcases List.mem_cons.1 hc with e|e
            · subst e; exact ⟨g1,fun j j1 j2=>(hz j j1 j2).1⟩
            rcases List.mem_cons.1 e with e|e
            · subst e; exact ⟨g2,fun j j1 j2=>(hz j j1 j2).2⟩
            · exact hl c e) hn hx hs fun j j' h1 h2 h3 h4 h5 h6=>hd j j' h1 h2 h3 h4 h5 (by simp only [qV,pat] at h6 ⊢; rw [List.append_assoc,List.append_assoc]; exact h6)
      | N w i s =>
        simp only [K.sh,Sh.z] at hw
        obtain ⟨v,u,y,c,d1,d2,rfl,g0,g1,g2⟩:=hg
        cases m with
        | true =>
          have hv: ∀ j,a≤j→j < a+T→v j=true:=fun j j1 j2=>by
            cases j with
            |zero=>rw [g0.z]; exact ht 0 j1 j2
            |succ j=>rw [g0.s j (by omega),ht (j+1) j1 j2]; rfl
          refine ih l (f+(i.sh.e+s.sh.e)) (fun j=>x j++(pat d1 j++pat d2 j)) a T (by omega) hl hn (fun j=>by rw [List.length_append,List.length_append,hx,gO,gO,g1.len,g2.len]) hs fun j j' h1 h2 h3 h4 h5 h6=>?_
          have:=List.append_inj h5 (by rw [hx,hx])
          exact hd j j' h1 h2 h3 h4 this.1 (by simp only [qV,pat]; rw [hv j (by omega) (by omega),hv j' (by omega) (by omega),this.2,h6])
        | false =>
          have hvc: ∀ j,a≤j→j+1 < a+T→v (j+1)=c j:=fun j j1 j2=>by rw [g0.s j (by omega),ht (j+1) (by omega) (by omega),Bool.false_or]
          obtain ⟨b,b1,b2,b3⟩:=wK (v:=v) (a:=a) (T:=T) fun j j1 j2 e=>by rw [hvc j j1 j2]; exact (g0.off j (by omega) e).2.2
          have w1:=ih (⟨i,true,u,d1⟩::⟨s,false,y,d2⟩::l) f x a (b - 1) (by rw [fR,fR]; simp only; omega) (fun cc hc=>by
            have hcon: ∀ j,a≤j→j < a+(b - 1)→u j=true∧y j=false:=fun j j1 j2=>g0.con j (by omega) (b2 j j1 (by omega)) (by rw [← hvc j j1 (by omega)]; exact b2 (j+1) (by omega) (by omega))
            rcases List.mem_cons.1 hc with e|e
            · subst e; exact ⟨g1,fun j j1 j2=>(hcon j j1 j2).1⟩
            rcases List.mem_cons.1 e with e|e
            · subst e; exact ⟨g2,fun j j1 j2=>(hcon j j1 j2).2⟩
            · exact (hl cc e).sub (Nat.le_refl _) (by omega)) (by omega) hx (fun q q1 q2=>hs q q1 (by omega)) fun j j' h1 h2 h3 h4 h5 h6=>hd j j' h1 h2 (by omega) h4 h5 (by
              simp only [qV,pat] at h6 ⊢
              rw [b2 j h1 (by omega),b2 j' (by omega) (by omega),List.cons_append,List.cons_append,List.append_assoc,List.append_assoc,h6])
          have w2:=ih (⟨i,false,u,d1⟩::⟨s,false,y,d2⟩::l) f x (a+b) (T - b) (by rw [fR,fR]; simp only; omega) (fun cc hc=>by
            have hoff: ∀ j,a+b≤j→j < a+b+(T - b)→u j=false∧y j=false:=fun j j1 j2=>by
              have:=g0.off j (by omega) (b3 j j1 (by omega))
              exact ⟨this.1,this.2.1⟩
            rcases List.mem_cons.1 hc with e|e
            · subst e; exact ⟨g1,fun j j1 j2=>(hoff j j1 j2).1⟩
            rcases List.mem_cons.1 e with e|e
            · subst e; exact ⟨g2,fun j j1 j2=>(hoff j j1 j2).2⟩
            · exact (hl cc e).sub (by omega) (by omega)) (by omega) hx (fun q q1 q2=>hs q (by omega) (by omega)) fun j j' h1 h2 h3 h4 h5 h6=>hd j j' (by omega) h2 (by omega) h4 h5 (by
              simp only [qV,pat] at h6 ⊢
              rw [b3 j h1 (by omega),b3 j' (by omega) (by omega),List.cons_append,List.cons_append,List.append_assoc,List.append_assoc,h6])
          have e1:((⟨i,true,u,d1⟩::⟨s,false,y,d2⟩::l:List Cm).map shC)=(i.sh,true)::(s.sh,false)::l.map shC:=rfl
          have e2:((⟨i,false,u,d1⟩::⟨s,false,y,d2⟩::l:List Cm).map shC)=(i.sh,false)::(s.sh,false)::l.map shC:=rfl
          rw [e1] at w1; rw [e2] at w2
          show T≤Bq S.length k f ((i.sh,true)::(s.sh,false)::l.map shC)+1+Bq S.length k f ((i.sh,false)::(s.sh,false)::l.map shC)
          omega
end
end Go.Proofs.YteehaobohaecmaaGreatDoor
namespace Go.Proofs.YteehaobohaecmaaGreatDoor
open Go
def st8:List Int:=[0,1,2,3,4,5,6,7]
def aHi (h:Sh):Nat:=if h.e≤7 then 8*2 ^ h.e else match h with
  | .N i s=>Bq 7 h.z 0 [(i,true),(s,false)]+1+Bq 8 h.z 0 [(i,false),(s,false)]
  |h=>Bq 8 h.z 0 [(h,false)]
theorem aG7 {s:Int} (h:s∈st8):(st8.erase s).length=7:=by rw [List.length_erase_of_mem h]; rfl
theorem aIL {g : K} {n : Nat} {lt : Nat → Int × Int} {st : Nat → Int} (hs : ∀ q, q ≤ n → st q ∈ st8) (hg : ks n lt g 0 = true)
    (min: ∀ i j,i < j→j≤n→st i=st j→ks (n - (j - i)) (ltC lt i j) g 0=false):n≤aHi g.sh:=by
  obtain ⟨d,hd⟩:=Gs.make (n:=n) (lt:=lt) g (fun p=>decide (p=0)) fun p _ e=>by rw [of_decide_eq_true e]; exact hg
  have inj: ∀ q q',1≤q→q < q'→q' < 1+n→st q=st q'→pat d q=pat d q'→False:=fun q q' h1 h2 h3 h4 h5=>by
    have:=Gs.cut h2 (by omega) hd h5 0 (by omega) rfl
    rw [min q q' h2 (by omega) h4] at this; cases this
  unfold aHi
  by_cases he:g.sh.e≤7
  · rw [if_pos he]
    exact pig (S:=st8) (st:=st) (x:=pat d) (f:=g.sh.e) (a:=1) (T:=n) (fun q=>by rw [gO,hd.len]) (fun q _ q2=>hs q (by omega)) inj
  rw [if_neg he]
  have hr: ∀ q,1≤q→q < 1+n→(fun p=>decide (p=0)) q=false:=fun q q1 _=>decide_eq_false (by omega)
  have gen:n≤Bq 8 g.sh.z 0 [(g.sh,false)]:=by
    refine cnt (S:=st8) (st:=st) (n:=n) (lt:=lt) g.sh.z [⟨g,false,fun p=>decide (p=0),d⟩] 0 (fun _=>[]) 1 n (by simp [wtC]) (fun c hc=>?_) (by omega) (fun _=>rfl) (fun q _ q2=>hs q (by omega)) fun q q' h1 h2 h3 h4 _ h6=>inj q q' h1 h2 h3 h4 (by simpa [qV] using h6)
    rw [List.mem_singleton] at hc
    subst hc
    exact ⟨hd,hr⟩
  cases g with
  |L p q=>exact gen
  |X w k=>exact gen
  |A a b=>exact gen
  |O a b=>exact gen
  | N w i s =>
    obtain ⟨v,u,y,c,d1,d2,rfl,g0,g1,g2⟩:=hd
    show n≤Bq 7 _ 0 [(i.sh,true),(s.sh,false)]+1+Bq 8 _ 0 [(i.sh,false),(s.sh,false)]
    have hvc: ∀ j,1≤j→j+1 < 1+n→v (j+1)=c j:=fun j j1 j2=>by rw [g0.s j (by omega)]; simp
    obtain ⟨b,b1,b2,b3⟩:=wK (v:=v) (a:=1) (T:=n) fun j j1 j2 e=>by rw [hvc j j1 j2]; exact (g0.off j (by omega) e).2.2
    have hne: ∀ q,1≤q→q < 1+b→st q≠st 0:=fun q q1 q2 e=>by
      have hk:=g0.all (Gs.sound g1) (Gs.sound g2) (n - q) q (by omega) (b2 q q1 q2)
      have:=min 0 q (by omega) (by omega) e.symm
      rw [gE (Nat.zero_le _) (by omega) _ 0 (Nat.le_refl _) (Nat.zero_le _),show 0+(q - 0)=q by omega,hk] at this
      cases this
    have w1:=cnt (S:=st8.erase (st 0)) (st:=st) (n:=n) (lt:=lt) (K.N w i s).sh.z [⟨i,true,u,d1⟩,⟨s,false,y,d2⟩] 0 (fun _=>[]) 1 (b - 1) (by simp only [wtC,List.map_cons,List.map_nil,List.sum_cons,List.sum_nil,K.sh,Sh.z]; omega) (fun cc hc=>by
      have hcon: ∀ j,1≤j→j < 1+(b - 1)→u j=true∧y j=false:=fun j j1 j2=>g0.con j (by omega) (b2 j j1 (by omega)) (by rw [← hvc j j1 (by omega)]; exact b2 (j+1) (by omega) (by omega))
      rcases List.mem_cons.1 hc with e|e
      · subst e; exact ⟨g1,fun j j1 j2=>(hcon j j1 j2).1⟩
      · rw [List.mem_singleton] at e; subst e; exact ⟨g2,fun j j1 j2=>(hcon j j1 j2).2⟩) (by omega) (fun _=>rfl) (fun q q1 q2=>(List.mem_erase_of_ne (hne q q1 (by omega))).2 (hs q (by omega))) fun q q' h1 h2 h3 h4 _ h6=>inj q q' h1 h2 (by omega) h4 (by
        simp only [qV,pat,List.append_nil] at h6 ⊢
        rw [b2 q h1 (by omega),b2 q' (by omega) (by omega),h6])
    have w2:=cnt (S:=st8) (st:=st) (n:=n) (lt:=lt) (K.N w i s).sh.z [⟨i,false,u,d1⟩,⟨s,false,y,d2⟩] 0 (fun _=>[]) (1+b) (n - b) (by simp only [wtC,List.map_cons,List.map_nil,List.sum_cons,List.sum_nil,K.sh,Sh.z]; omega) (fun cc hc=>by
      have hoff: ∀ j,1+b≤j→j < 1+b+(n - b)→u j=false∧y j=false:=fun j j1 j2=>by
        have:=g0.off j (by omega) (b3 j j1 (by omega))
        exact ⟨this.1,this.2.1⟩
      rcases List.mem_cons.1 hc with e|e
      · subst e; exact ⟨g1,fun j j1 j2=>(hoff j j1 j2).1⟩
      · rw [List.mem_singleton] at e; subst e; exact ⟨g2,fun j j1 j2=>(hoff j j1 j2).2⟩) (by omega) (fun _=>rfl) (fun q q1 q2=>hs q (by omega)) fun q q' h1 h2 h3 h4 _ h6=>inj q q' (by omega) h2 (by omega) h4 (by
        simp only [qV,pat,List.append_nil] at h6 ⊢
        rw [b3 q h1 (by omega),b3 q' (by omega) (by omega),h6])
    rw [aG7 (hs 0 (Nat.zero_le _))] at w1
    have w2':n - b≤Bq 8 (K.N w i s).sh.z 0 [(i.sh,false),(s.sh,false)]:=w2
    have w1':b - 1≤Bq 7 (K.N w i s).sh.z 0 [(i.sh,true),(s.sh,false)]:=w1
    simp only [K.sh] at w1' w2' ⊢
    omega
def Sh.r:Sh→Nat
  | .L=>0| .X k=>k.r| .N i s=>i.r+s.r+1| .A a b=>a.r+b.r| .O a b=>a.r+b.r
def Sh.x:Sh→Nat
  | .L=>0| .X k=>k.x+1| .N i s=>i.x+s.x| .A a b=>a.x+b.x| .O a b=>a.x+b.x
def Sh.b:Sh→Nat
  | .L=>0| .X k=>k.b| .N i s=>i.b+s.b| .A a b=>a.b+b.b+1| .O a b=>a.b+b.b+1
theorem Sh.e_eq: ∀ h:Sh,h.e=h.r+h.x
  | .L=>rfl
  | .X k=>by simp only [Sh.e,Sh.r,Sh.x]; rw [Sh.e_eq k]; omega
  | .N i s=>by simp only [Sh.e,Sh.r,Sh.x]; rw [Sh.e_eq i,Sh.e_eq s]; omega
  | .A i s=>by simp only [Sh.e,Sh.r,Sh.x]; rw [Sh.e_eq i,Sh.e_eq s]; omega
  | .O i s=>by simp only [Sh.e,Sh.r,Sh.x]; rw [Sh.e_eq i,Sh.e_eq s]; omega
def aLB (g:Nat→Nat→Nat→List Sh) (c:Sh→Sh→List Sh) (r b x:Nat):List Sh:=
  (List.range (r+1)).flatMap fun r1=>(List.range (b+1)).flatMap fun b1=>(List.range (x+1)).flatMap fun x1=>(g r1 b1 x1).flatMap fun p=>(g (r - r1) (b - b1) (x - x1)).flatMap fun q=>c p q
def gSh:Nat→Nat→Nat→Nat→List Sh
  |0,_,_,_=>[.L]
  |k+1,r,b,x=>(if r+b+x=0 then [.L] else [])++(if x=0 then [] else (gSh k r b (x - 1)).map .X)++(if r=0 then [] else aLB (gSh k) (fun p q=>[.N p q]) (r - 1) b x)++(if b=0 then [] else aLB (gSh k) (fun p q=>[.A p q,.O p q]) r (b - 1) x)
theorem xY {g:Nat→Nat→Nat→List Sh} {c:Sh→Sh→List Sh} {p q h:Sh} (hp:p∈g p.r p.b p.x) (hq:q∈g q.r q.b q.x) (hc:h∈c p q):h∈aLB g c (p.r+q.r) (p.b+q.b) (p.x+q.x):=by
  unfold aLB
  refine List.mem_flatMap.2 ⟨p.r,List.mem_range.2 (by omega),List.mem_flatMap.2 ⟨p.b,List.mem_range.2 (by omega),List.mem_flatMap.2 ⟨p.x,List.mem_range.2 (by omega),List.mem_flatMap.2 ⟨p,hp,List.mem_flatMap.2 ⟨q,?_,hc⟩⟩⟩⟩⟩
  rw [Nat.add_sub_cancel_left,Nat.add_sub_cancel_left,Nat.add_sub_cancel_left]; exact hq
theorem kR: ∀ (k:Nat) (h:Sh),h.r+h.b+h.x≤k→h∈gSh k h.r h.b h.x
  |0,.L,_=>List.mem_singleton.2 rfl
  |0,.X _,e=>by simp only [Sh.r,Sh.b,Sh.x] at e; omega
  |0,.N _ _,e=>by simp only [Sh.r,Sh.b,Sh.x] at e; omega
  |0,.A _ _,e=>by simp only [Sh.r,Sh.b,Sh.x] at e; omega
  |0,.O _ _,e=>by simp only [Sh.r,Sh.b,Sh.x] at e; omega
  |k+1,.L,_=>by simp [gSh,Sh.r,Sh.b,Sh.x]
  | k + 1, .X h, e => by
    simp only [Sh.r,Sh.b,Sh.x] at e ⊢
    have:=kR k h (by omega)
    unfold gSh
    rw [List.mem_append,List.mem_append,List.mem_append]
    refine .inl (.inl (.inr ?_))
    rw [if_neg (by omega)]
    exact List.mem_map.2 ⟨h,this,rfl⟩
  | k + 1, .N i s, e => by
    simp only [Sh.r,Sh.b,Sh.x] at e ⊢
    unfold gSh
    rw [List.mem_append,List.mem_append,List.mem_append]
    refine .inl (.inr ?_)
    rw [if_neg (by omega)]
    exact xY (kR k i (by omega)) (kR k s (by omega)) (List.mem_singleton.2 rfl)
  | k + 1, .A i s, e => by
    simp only [Sh.r,Sh.b,Sh.x] at e ⊢
    unfold gSh
    rw [List.mem_append]
    refine .inr ?_
    rw [if_neg (by omega)]
    exact xY (kR k i (by omega)) (kR k s (by omega)) (List.mem_cons_self ..)
  | k + 1, .O i s, e => by
    simp only [Sh.r,Sh.b,Sh.x] at e ⊢
    unfold gSh
    rw [List.mem_append]
    refine .inr ?_
    rw [if_neg (by omega)]
    exact xY (kR k i (by omega)) (kR k s (by omega)) (List.mem_cons_of_mem _ (List.mem_cons_self ..))
def aCs (r b x:Nat):Bool:=(gSh (r+b+x) r b x).all fun h=>Nat.ble (aHi h) 1024
theorem aSj:([(0,0,8),(0,0,9),(0,0,10),(0,0,11),(1,0,7),(1,0,8),(1,0,9),(0,1,8),(0,1,9)].all fun p:Nat×Nat×Nat=>aCs p.1 p.2.1 p.2.2)=true:=by kernel_rfl
theorem aSt:aCs 2 0 6=true:=by kernel_rfl
theorem aSi:aCs 2 0 7=true:=by kernel_rfl
theorem aSk:aCs 3 0 5=true:=by kernel_rfl
theorem aSm:aCs 1 1 7=true:=by kernel_rfl
theorem aR2:aCs 0 2 8=true:=by kernel_rfl
end Go.Proofs.YteehaobohaecmaaGreatDoor
namespace Go.Proofs.YteehaobohaecmaaGreatDoor
open Go
instance:Inhabited K:=⟨.L (fun _ _=>true) true⟩
def pQ:List K→K
  |[]=>.L (fun _ _=>true) true
  |[x]=>x
  |x::y::l=>.A x (pQ (y::l))
def qD:List K→K
  |[]=>.L (fun _ _=>false) false
  |[x]=>x
  |x::y::l=>.O x (qD (y::l))
def ndK (o a:Int) (b:Bool) (l:List K):K:=
  if o=1 then .L (fun _ _=> !b) (!b)
  else if o=2 then .L (fun x _=>decide (x=a) ^^ b) b
  else if o=3 then .L (fun _ y=>decide (y=a) ^^ b) b
  else if o=4 then nth l 0
  else if o=7∨o=9 then .X (decide (o=9) ^^ b) (nth l 0)
  else if o=8∨o=10 then (if (decide (o=8) ^^ b)=true then .N true (nth l 0) (nth l 1) else .N false (nth l 1) (nth l 0))
  else if (decide (o=5) ^^ b)=true then pQ l else qD l
mutual
def kF:Fm→Bool→K
  | .nd o a k,b=>ndK o a b (kFs k (if o=4 then !b else b))
def kFs:List Fm→Bool→List K
  |[],_=>[]
  |f::l,b=>kF f b::kFs l b
end
theorem aE3: ∀ (l:List Fm) (b:Bool),kFs l b=l.map fun f=>kF f b
  |[],b=>by rw [kFs]; rfl
  |f::l,b=>by rw [kFs,aE3 l b]; rfl
theorem aMN (f:Fm) (b:Bool):kF f b=ndK f.op f.arg b (f.kids.map fun g=>kF g (if f.op=4 then !b else b)):=by
  cases f; rw [kF,aE3]; rfl
section
variable {n:Nat} {lt:Nat→Int×Int}
theorem aEu: ∀ (l:List K) (i:Nat),ks n lt (pQ l) i=l.all fun k=>ks n lt k i
  |[],i=>by simp [pQ,ks]
  |[x],i=>by simp [pQ]
  |x::y::l,i=>by rw [pQ,ks,aEu (y::l) i]; rfl
theorem aDT: ∀ (l:List K) (i:Nat),ks n lt (qD l) i=l.any fun k=>ks n lt k i
  |[],i=>by simp [qD,ks]
  |[x],i=>by simp [qD]
  |x::y::l,i=>by rw [qD,ks,aDT (y::l) i]; rfl
theorem aNo {t:Tr} (hn:t.ni.length=n) (hl: ∀ p,p < n→lt p=(nth t.ni p,nth t.no p)) (f:Fm):okF f=true→ ∀ b i,i≤n→ks n lt (kF f b) i=(sat t f i ^^ b):=by
  refine fH (p:=fun f=>okF f=true→ ∀ b i,i≤n→ks n lt (kF f b) i=(sat t f i ^^ b)) (fun f ih hf b i hi=>?_) f
  obtain ⟨hr,hk⟩:=bJ hf
  obtain ⟨r1,r2,r3,r4,r5,r6,r7,r8,r9⟩:=cP hr
  have K0: ∀ c,0 < f.kids.length→ ∀ j,j≤n→ks n lt (nth (f.kids.map fun g=>kF g c) 0) j=(nth (f.kids.map (sat t)) 0 j ^^ c):=fun c h j hj=>by rw [eU h,eU h]; exact ih 0 h (hk 0 h) c j hj
  have K1: ∀ c,1 < f.kids.length→ ∀ j,j≤n→ks n lt (nth (f.kids.map fun g=>kF g c) 1) j=(nth (f.kids.map (sat t)) 1 j ^^ c):=fun c h j hj=>by rw [eU h,eU h]; exact ih 1 h (hk 1 h) c j hj
  have KA: ∀ c,((f.kids.map fun g=>kF g c).all fun k=>ks n lt k i)=f.kids.all fun g=>sat t g i ^^ c:=fun c=>by
    rw [List.all_map,Bool.eq_iff_iff,List.all_eq_true,List.all_eq_true]
    refine ⟨fun h x hx=>?_,fun h x hx=>?_⟩ <;> obtain ⟨j,hj,rfl⟩:=dJ hx
    · rw [← ih j hj (hk j hj) c i hi]; exact h _ hx
    · show ks n lt (kF (nth f.kids j) c) i=true
      rw [ih j hj (hk j hj) c i hi]; exact h _ hx
  have KO: ∀ c,((f.kids.map fun g=>kF g c).any fun k=>ks n lt k i)=f.kids.any fun g=>sat t g i ^^ c:=fun c=>by
    rw [List.any_map,Bool.eq_iff_iff,List.any_eq_true,List.any_eq_true]
    constructor
    · rintro ⟨x,hx,h⟩
      obtain ⟨j,hj,rfl⟩:=dJ hx
      exact ⟨_,hx,by rw [← ih j hj (hk j hj) c i hi]; exact h⟩
    · rintro ⟨x,hx,h⟩
      obtain ⟨j,hj,rfl⟩:=dJ hx
      exact ⟨_,hx,by show ks n lt (kF (nth f.kids j) c) i=true; rw [ih j hj (hk j hj) c i hi]; exact h⟩
  rw [aMN,bT]
  have e:f.op=1∨f.op=2∨f.op=3∨f.op=4∨f.op=5∨f.op=6∨f.op=7∨f.op=8∨f.op=9∨f.op=10:=by omega
  rcases e with e|e|e|e|e|e|e|e|e|e
  · rw [e]; show ks n lt (.L (fun _ _=> !b) (!b)) i=(true ^^ b)
    simp only [ks]; split <;> simp
  · rw [e]; show ks n lt (.L (fun x _=>decide (x=f.arg) ^^ b) b) i=((decide (i < t.ni.length)&&decide (nth t.ni i=f.arg)) ^^ b)
    simp only [ks]
    by_cases q:i < n
    · rw [if_pos q,hl i q,decide_eq_true (show i < t.ni.length by omega),Bool.true_and]
    · rw [if_neg q,decide_eq_false (show ¬i < t.ni.length by omega)]; simp
  · rw [e]; show ks n lt (.L (fun _ x=>decide (x=f.arg) ^^ b) b) i=((decide (i < t.ni.length)&&decide (nth t.no i=f.arg)) ^^ b)
    simp only [ks]
    by_cases q:i < n
    · rw [if_pos q,hl i q,decide_eq_true (show i < t.ni.length by omega),Bool.true_and]
    · rw [if_neg q,decide_eq_false (show ¬i < t.ni.length by omega)]; simp
  · rw [e]; show ks n lt (nth (f.kids.map fun g=>kF g (!b)) 0) i=(!(nth (f.kids.map (sat t)) 0 i) ^^ b)
    rw [K0 _ (by omega) i hi]; cases nth (f.kids.map (sat t)) 0 i <;> cases b <;> rfl
  · rw [e]; show ks n lt (if (true ^^ b)=true then pQ (f.kids.map fun g=>kF g b) else qD (f.kids.map fun g=>kF g b)) i=((f.kids.map (sat t)).all (fun g=>g i) ^^ b)
    rw [List.all_map]
    cases b with
    |false=>rw [if_pos (by decide),aEu,KA]; simp; rfl
    |true=>rw [if_neg (by decide),aDT,KO]; simp only [Bool.xor_true]; rw [aA9]; rfl
  · rw [e]; show ks n lt (if (false ^^ b)=true then pQ (f.kids.map fun g=>kF g b) else qD (f.kids.map fun g=>kF g b)) i=((f.kids.map (sat t)).any (fun g=>g i) ^^ b)
    rw [List.any_map]
    cases b with
    |false=>rw [if_neg (by decide),aDT,KO]; simp; rfl
    |true=>rw [if_pos (by decide),aEu,KA]; simp only [Bool.xor_true]; rw [aBG]; rfl
  · rw [e]; show ks n lt (.X (false ^^ b) (nth (f.kids.map fun g=>kF g b) 0)) i=((decide (i < t.ni.length)&&nth (f.kids.map (sat t)) 0 (i+1)) ^^ b)
    simp only [ks]
    by_cases q:i < n
    · rw [if_pos q,decide_eq_true (show i < t.ni.length by omega),Bool.true_and,K0 _ (by omega) (i+1) q]
    · rw [if_neg q,decide_eq_false (show ¬i < t.ni.length by omega)]; simp
  · have hu:jB (nth (f.kids.map (sat t)) 0) (nth (f.kids.map (sat t)) 1) (n - i) i=vE t 8 f.arg (f.kids.map (sat t)) i:=by rw [← hn]; rfl
    rw [e,← hu]
    show ks n lt (if (true ^^ b)=true then .N true (nth (f.kids.map fun g=>kF g b) 0) (nth (f.kids.map fun g=>kF g b) 1) else .N false (nth (f.kids.map fun g=>kF g b) 1) (nth (f.kids.map fun g=>kF g b) 0)) i=_
    cases b with
    | false =>
      rw [if_pos (by decide)]; simp only [ks,if_true,Bool.xor_false]
      exact vY (fun k hk=>by rw [K0 _ (by omega) _ (by omega)]; simp) (fun k hk=>by rw [K1 _ (by omega) _ (by omega)]; simp)
    | true =>
      rw [if_neg (by decide)]; simp only [ks,Bool.false_eq_true,if_false,Bool.xor_true]
      rw [← yD]
      exact vW (fun k hk=>by rw [K0 _ (by omega) _ (by omega)]; simp) (fun k hk=>by rw [K1 _ (by omega) _ (by omega)]; simp)
  · rw [e]; show ks n lt (.X (true ^^ b) (nth (f.kids.map fun g=>kF g b) 0)) i=((decide (¬i < t.ni.length)||nth (f.kids.map (sat t)) 0 (i+1)) ^^ b)
    simp only [ks]
    by_cases q:i < n
    · rw [if_pos q,decide_eq_false (show ¬¬i < t.ni.length by omega),Bool.false_or,K0 _ (by omega) (i+1) q]
    · rw [if_neg q,decide_eq_true (show ¬i < t.ni.length by omega)]; simp
  · have hu:jD (nth (f.kids.map (sat t)) 0) (nth (f.kids.map (sat t)) 1) (n - i) i=vE t 10 f.arg (f.kids.map (sat t)) i:=by rw [← hn]; rfl
    rw [e,← hu]
    show ks n lt (if (false ^^ b)=true then .N true (nth (f.kids.map fun g=>kF g b) 0) (nth (f.kids.map fun g=>kF g b) 1) else .N false (nth (f.kids.map fun g=>kF g b) 1) (nth (f.kids.map fun g=>kF g b) 0)) i=_
    cases b with
    | true =>
      rw [if_pos (by decide)]; simp only [ks,if_true,Bool.xor_true]
      rw [← wT]
      exact vY (fun k hk=>by rw [K0 _ (by omega) _ (by omega)]; simp) (fun k hk=>by rw [K1 _ (by omega) _ (by omega)]; simp)
    | false =>
      rw [if_neg (by decide)]; simp only [ks,Bool.false_eq_true,if_false,Bool.xor_false]
      exact vW (fun k hk=>by rw [K0 _ (by omega) _ (by omega)]; simp) (fun k hk=>by rw [K1 _ (by omega) _ (by omega)]; simp)
end
def Sh.w0 (h:Sh):Nat:=1+2*h.r+h.x+h.b
def Sh.wt (h:Sh):Nat:=h.w0+if h.b=0 then 0 else 1
theorem aHd: ∀ l:List K,l≠[]→(pQ l).sh.w0≤(l.map fun k=>k.sh.w0).sum
  |[],h=>absurd rfl h
  |[x],_=>by simp [pQ]
  | x :: y :: l, _ => by
    have:=aHd (y::l) (by simp)
    simp only [pQ,K.sh,Sh.w0,Sh.r,Sh.x,Sh.b,List.map_cons,List.sum_cons] at this ⊢
    omega
theorem aJE: ∀ l:List K,l≠[]→(qD l).sh.w0≤(l.map fun k=>k.sh.w0).sum
  |[],h=>absurd rfl h
  |[x],_=>by simp [qD]
  | x :: y :: l, _ => by
    have:=aJE (y::l) (by simp)
    simp only [qD,K.sh,Sh.w0,Sh.r,Sh.x,Sh.b,List.map_cons,List.sum_cons] at this ⊢
    omega
theorem aM1 {b:Bool}: ∀ {l:List Fm},(∀ j,j < l.length→(kF (nth l j) b).sh.wt≤(nth l j).sz)→((l.map fun g=>kF g b).map fun k=>k.sh.w0).sum≤Fm.szs l
  |[],_=>by simp [Fm.szs]
  | f :: l, h => by
    have h0:=h 0 (by simp)
    have:=aM1 (l:=l) (b:=b) fun j hj=>h (j+1) (by simpa using hj)
    have e:nth (f::l) 0=f:=rfl
    rw [e] at h0
    rw [List.map_cons,List.map_cons,List.sum_cons,Fm.szs]
    unfold Sh.wt at h0
    omega
theorem aSd (f:Fm):okF f=true→ ∀ b,(kF f b).sh.wt≤f.sz:=by
  refine fH (p:=fun f=>okF f=true→ ∀ b,(kF f b).sh.wt≤f.sz) (fun f ih hf b=>?_) f
  obtain ⟨hr,hk⟩:=bJ hf
  obtain ⟨r1,r2,r3,r4,r5,r6,r7,r8,r9⟩:=cP hr
  have hz:f.sz=Fm.szs f.kids+1:=by cases f; rw [Fm.sz]; rfl
  have S0: ∀ c,0 < f.kids.length→(nth (f.kids.map fun g=>kF g c) 0).sh.wt≤Fm.szs f.kids:=fun c h=>by
    rw [eU h]; exact Nat.le_trans (ih 0 h (hk 0 h) c) (Fm.szs_nth h)
  have SS: ∀ c,((f.kids.map fun g=>kF g c).map fun k=>k.sh.w0).sum≤Fm.szs f.kids:=fun c=>aM1 fun j hj=>ih j hj (hk j hj) c
  have S2: ∀ c,f.kids.length=2→(nth (f.kids.map fun g=>kF g c) 0).sh.wt+(nth (f.kids.map fun g=>kF g c) 1).sh.wt≤Fm.szs f.kids:=fun c h=>by
    have i0:=ih 0 (by omega) (hk 0 (by omega)) c
    have i1:=ih 1 (by omega) (hk 1 (by omega)) c
    rw [eU (by omega),eU (by omega)]
    generalize f.kids=l at*
    match l,h with
    | [x, y], _ =>
      have e0:nth [x,y] 0=x:=rfl
      have e1:nth [x,y] 1=y:=rfl
      rw [e0] at i0; rw [e1] at i1
      rw [e0,e1]; simp only [Fm.szs]; omega
  have hne: ∀ c,2≤f.kids.length→(f.kids.map fun g=>kF g c)≠[]:=fun c h e=>by
    have:=congrArg List.length e
    rw [List.length_map,List.length_nil] at this; omega
  have hw: ∀ s:Sh,s.wt≤s.w0+1:=fun s=>by unfold Sh.wt; split <;> omega
  rw [aMN,hz]
  have e:f.op=1∨f.op=2∨f.op=3∨f.op=4∨f.op=5∨f.op=6∨f.op=7∨f.op=8∨f.op=9∨f.op=10:=by omega
  rcases e with e|e|e|e|e|e|e|e|e|e
  · rw [e]; show Sh.wt .L≤_; simp [Sh.wt,Sh.w0,Sh.r,Sh.x,Sh.b]
  · rw [e]; show Sh.wt .L≤_; simp [Sh.wt,Sh.w0,Sh.r,Sh.x,Sh.b]
  · rw [e]; show Sh.wt .L≤_; simp [Sh.wt,Sh.w0,Sh.r,Sh.x,Sh.b]
  · rw [e]; show (nth (f.kids.map fun g=>kF g (!b)) 0).sh.wt≤_
    have:=S0 (!b) (by omega); omega
  · rw [e]; show (if (true ^^ b)=true then pQ (f.kids.map fun g=>kF g b) else qD (f.kids.map fun g=>kF g b)).sh.wt≤_
    have:=SS b
    split
    · have h1:=aHd _ (hne b (by omega)); have h2:=hw (pQ (f.kids.map fun g=>kF g b)).sh; omega
    · have h1:=aJE _ (hne b (by omega)); have h2:=hw (qD (f.kids.map fun g=>kF g b)).sh; omega
  · rw [e]; show (if (false ^^ b)=true then pQ (f.kids.map fun g=>kF g b) else qD (f.kids.map fun g=>kF g b)).sh.wt≤_
    have:=SS b
    split
    · have h1:=aHd _ (hne b (by omega)); have h2:=hw (pQ (f.kids.map fun g=>kF g b)).sh; omega
    · have h1:=aJE _ (hne b (by omega)); have h2:=hw (qD (f.kids.map fun g=>kF g b)).sh; omega
  · rw [e]; show (K.X _ (nth (f.kids.map fun g=>kF g b) 0)).sh.wt≤_
    have:=S0 b (by omega)
    simp only [K.sh,Sh.wt,Sh.w0,Sh.r,Sh.x,Sh.b] at this ⊢
    omega
  · rw [e]; show (if (true ^^ b)=true then K.N true (nth (f.kids.map fun g=>kF g b) 0) (nth (f.kids.map fun g=>kF g b) 1) else K.N false (nth (f.kids.map fun g=>kF g b) 1) (nth (f.kids.map fun g=>kF g b) 0)).sh.wt≤_
    have:=S2 b (by omega)
    split <;> simp only [K.sh,Sh.wt,Sh.w0,Sh.r,Sh.x,Sh.b] at this ⊢ <;> (repeat' split at this) <;> (repeat' split) <;> omega
  · rw [e]; show (K.X _ (nth (f.kids.map fun g=>kF g b) 0)).sh.wt≤_
    have:=S0 b (by omega)
    simp only [K.sh,Sh.wt,Sh.w0,Sh.r,Sh.x,Sh.b] at this ⊢
    omega
  · rw [e]; show (if (false ^^ b)=true then K.N true (nth (f.kids.map fun g=>kF g b) 0) (nth (f.kids.map fun g=>kF g b) 1) else K.N false (nth (f.kids.map fun g=>kF g b) 1) (nth (f.kids.map fun g=>kF g b) 0)).sh.wt≤_
    have:=S2 b (by omega)
    split <;> simp only [K.sh,Sh.wt,Sh.w0,Sh.r,Sh.x,Sh.b] at this ⊢ <;> (repeat' split at this) <;> (repeat' split) <;> omega
theorem aMn {r b x:Nat} (h1:8≤r+x) (h2:1+2*r+x+b≤12) (h3:b≠0→2+2*r+x+b≤12):aCs r b x=true:=by
  have ha:=fun p hp=>List.all_eq_true.1 aSj p hp
  have hr:r=0∨r=1∨r=2∨r=3:=by omega
  have hb:b=0∨b=1∨b=2:=by omega
  rcases hb with rfl|rfl|rfl
  · rcases hr with rfl|rfl|rfl|rfl
    · have hx:x=8∨x=9∨x=10∨x=11:=by omega
      rcases hx with rfl|rfl|rfl|rfl
      · exact ha (0,0,8) (by simp)
      · exact ha (0,0,9) (by simp)
      · exact ha (0,0,10) (by simp)
      · exact ha (0,0,11) (by simp)
    · have hx:x=7∨x=8∨x=9:=by omega
      rcases hx with rfl|rfl|rfl
      · exact ha (1,0,7) (by simp)
      · exact ha (1,0,8) (by simp)
      · exact ha (1,0,9) (by simp)
    · have hx:x=6∨x=7:=by omega
      rcases hx with rfl|rfl
      · exact aSt
      · exact aSi
    · obtain rfl:x=5:=by omega
      exact aSk
  · have h4:=h3 (by decide)
    rcases hr with rfl|rfl|rfl|rfl
    · have hx:x=8∨x=9:=by omega
      rcases hx with rfl|rfl
      · exact ha (0,1,8) (by simp)
      · exact ha (0,1,9) (by simp)
    · obtain rfl:x=7:=by omega
      exact aSm
    · omega
    · omega
  · have h4:=h3 (by decide)
    obtain ⟨rfl,rfl⟩:r=0∧x=8:=by omega
    exact aR2
theorem aSl {h:Sh} (hw:h.wt≤12):aHi h≤1024:=by
  by_cases q:h.e≤7
  · unfold aHi
    rw [if_pos q]
    have:2 ^ h.e≤2 ^ 7:=Nat.pow_le_pow_right (by decide) q
    omega
  · have he:=h.e_eq
    have hm:=kR (h.r+h.b+h.x) h (Nat.le_refl _)
    unfold Sh.wt Sh.w0 at hw
    have hc:aCs h.r h.b h.x=true:=aMn (by omega) (by omega) fun e=>by rw [if_neg e] at hw; omega
    exact Nat.le_of_ble_eq_true (List.all_eq_true.1 hc h hm)
theorem aMl {s:Int} (h0:0≤s) (h1:s < 8):s∈st8:=by unfold st8; simp only [List.mem_cons,List.not_mem_nil,or_false]; omega
def aJN (t:Tr) (i j:Nat):Tr:=⟨t.ni.take i++t.ni.drop j,t.no.take i++t.no.drop j⟩
theorem aAI {l:List Int} {i j p:Nat} (hij:i≤j) (hj:j≤l.length) (hp:p < l.length - (j - i)):nth (l.take i++l.drop j) p=if p < i then nth l p else nth l (p+(j - i)):=by
  unfold nth
  rw [List.getD_eq_getElem?_getD,List.getD_eq_getElem?_getD,List.getD_eq_getElem?_getD]
  split
  · rename_i q
    rw [List.getElem?_append_left (by rw [List.length_take]; omega),List.getElem?_take_of_lt q]
  · rename_i q
    rw [List.getElem?_append_right (by rw [List.length_take]; omega),List.length_take,List.getElem?_drop]
    congr 2; omega
theorem aEa {f:Fm} {t:Tr} {st:Nat→Int} {n:Nat} (hok:okF f=true) (hz:f.sz≤12) (hn:t.ni.length=n) (ho:t.no.length=n) (hs: ∀ q,q≤n→0≤st q∧st q < 8)
    (hbad:sat t f 0=false) (hmin: ∀ i j,i < j→j≤n→st i=st j→sat (aJN t i j) f 0=true):n≤1024:=by
  let lt:Nat→Int×Int:=fun p=>(nth t.ni p,nth t.no p)
  have h1:ks n lt (kF f true) 0=true:=by rw [aNo hn (fun p _=>rfl) f hok true 0 (Nat.zero_le _),hbad]; rfl
  have:=aIL (g:=kF f true) (lt:=lt) (fun q hq=>aMl (hs q hq).1 (hs q hq).2) h1 fun i j hij hj e=>by
    rw [aNo (t:=aJN t i j) (by simp [aJN]; omega) (fun p hp=>?_) f hok true 0 (Nat.zero_le _),hmin i j hij hj e]; rfl
    show ltC lt i j p=(nth (t.ni.take i++t.ni.drop j) p,nth (t.no.take i++t.no.drop j) p)
    rw [aAI (by omega) (by omega) (by omega),aAI (by omega) (by omega) (by omega)]
    unfold ltC
    split <;> rfl
  have hb:=aSl (h:=(kF f true).sh) (Nat.le_trans (aSd f hok true) hz)
  omega
end Go.Proofs.YteehaobohaecmaaGreatDoor
namespace Go.Proofs.YteehaobohaecmaaGreatDoor
open Go
def WdM (m:M) (u:List Int):Prop:= ∀ k,k < u.length→0≤nth u k∧nth u k < m.i
def vTr (m:M) (u:List Int):Tr:=⟨u,fB m m.s u⟩
theorem aEM {l r:List Int} {k:Nat} (h:k < l.length):nth (l++r) k=nth l k:=by
  unfold nth; rw [List.getD_eq_getElem?_getD,List.getD_eq_getElem?_getD,List.getElem?_append_left h]
theorem aFd {l:List Int} {x:Int}:nth (l++[x]) l.length=x:=by
  unfold nth; simp
theorem rB {l r:List Pl} {k:Nat} (h:k < l.length):nth (l++r) k=nth l k:=by
  unfold nth; rw [List.getD_eq_getElem?_getD,List.getD_eq_getElem?_getD,List.getElem?_append_left h]
theorem aCD {l:List Pl} {x:Pl}:nth (l++[x]) l.length=x:=by
  unfold nth; simp
theorem WdM.snoc {m:M} {u:List Int} {a:Int} (h:WdM m u) (h0:0≤a) (h1:a < m.i):WdM m (u++[a]):=fun k hk=>by
  rw [List.length_append,List.length_singleton] at hk
  by_cases q:k < u.length
  · rw [aEM q]; exact h k q
  · rw [show k=u.length by omega,aFd]; exact ⟨h0,h1⟩
theorem WdM.left {m:M} {u v:List Int} (h:WdM m (u++v)):WdM m u:=fun k hk=>by
  have:=h k (by rw [List.length_append]; omega)
  rwa [aEM hk] at this
theorem WdM.last {m:M} {u:List Int} {a:Int} (h:WdM m (u++[a])):0≤a∧a < m.i:=by
  have:=h u.length (by simp)
  rwa [aFd] at this
structure SyM (m:M) (f:Fm) (u:List Int) (g:Fm):Prop where
  r:Run 13 g
  s: ∀ t:Tr,u.length≤t.ni.length→(∀ k,k < u.length→nth t.ni k=nth u k∧nth t.no k=nth (fB m m.s u) k)→sat t g u.length=sat t f 0
section
variable {m:M} {f g:Fm} {u:List Int} {a:Nat} {l:List Pl} {p q:Pl} {i:Nat}
theorem SyM.step (hm:dY m=0) (hu:WdM m u) (h:SyM m f u g) (ha:(a:Int) < m.i) (he:(stM g a (nth (nth m.ot (eC m m.s u).toNat) a)).2=0):SyM m f (u++[(a:Int)]) (stM g a (nth (nth m.ot (eC m m.s u).toNat) a)).1:=by
  have mo:=fO hm
  have hg:=sM hm u m.s mo.2.2.2.2.1 mo.2.2.2.2.2.1 hu
  have hr:=(mo.2.2.2.2.2.2.2 (eC m m.s u).toNat (by omega)).2.2 a ha
  rcases aKf h.r (by decide) (a:=(a:Int)) (o:=nth (nth m.ot (eC m m.s u).toNat) a) ⟨by omega,by omega⟩ ⟨hr.2.2.1,hr.2.2.2⟩ with e|⟨g',e,e1,e2⟩
  · rw [e] at he; exact absurd he (by decide)
  · rw [e]
    refine ⟨e1,fun t h1 h2=>?_⟩
    rw [List.length_append,List.length_singleton] at h1 h2 ⊢
    have ho:fB m m.s (u++[(a:Int)])=fB m m.s u++[nth (nth m.ot (eC m m.s u).toNat) a]:=by rw [hJ]; rfl
    have h3:=h2 u.length (by omega)
    have ho2:nth (fB m m.s u++[nth (nth m.ot (eC m m.s u).toNat) a]) u.length=nth (nth m.ot (eC m m.s u).toNat) a:=by
      have:=aFd (l:=fB m m.s u) (x:=nth (nth m.ot (eC m m.s u).toNat) a)
      rwa [iJ] at this
    rw [aFd,ho,ho2] at h3
    rw [show u.length+1=u.length+1 from rfl,e2 t u.length (by omega) h3.1 h3.2]
    refine h.s t (by omega) fun k hk=>?_
    have h4:=h2 k (by omega)
    rwa [aEM hk,ho,aEM (by rw [iJ]; exact hk)] at h4
theorem SyM.fin (h:SyM m f u g):sat (vTr m u) f 0=enB g:=by
  rw [← h.s (vTr m u) (Nat.le_refl _) fun k _=>⟨rfl,rfl⟩,show u.length=(vTr m u).ni.length from rfl,aKN g (eN h.r.v)]
  unfold enB
  rw [aBi h.r.v (by decide) rfl]
structure BfM (m:M) (f:Fm) (l:List Pl) (i a:Nat):Prop where
  len:l.length≤4096
  mono: ∀ j k,j≤k→k < l.length→(nth l j).w.length≤(nth l k).w.length
  near: ∀ j,j < l.length→i < l.length→(nth l j).w.length≤(nth l i).w.length+1
  good: ∀ j,j < l.length→WdM m (nth l j).w∧eC m m.s (nth l j).w=(nth l j).s∧SyM m f (nth l j).w (nth l j).f∧enB (nth l j).f=true
  first:0 < l.length∧(nth l 0).w=[]
  done: ∀ j b,(j < i∨(j=i∧b < a))→j < l.length→(b:Int) < m.i→vEr m (nth l j) b=0∧ ∃ k,k < l.length∧(nth l k).s=(vNx m (nth l j) b).s∧(nth l k).f=(vNx m (nth l j) b).f∧(nth l k).w.length≤(nth l j).w.length+1
theorem aCE (p:Pl) (a:Nat):(vNx m p a).w=p.w++[(a:Int)]:=by simp [vNx,cat]
theorem BfM.nxt {i a:Nat} (hm:dY m=0) (h:BfM m f l i a) (hi:i < l.length) (ha:(a:Int) < m.i) (he:vEr m (nth l i) a=0):WdM m (vNx m (nth l i) a).w∧eC m m.s (vNx m (nth l i) a).w=(vNx m (nth l i) a).s∧SyM m f (vNx m (nth l i) a).w (vNx m (nth l i) a).f:=by
  obtain ⟨g1,g2,g3,_⟩:=h.good i hi
  rw [aCE]
  refine ⟨g1.snoc (by omega) ha,by rw [kX,g2]; rfl,?_⟩
  have:=g3.step hm g1 ha (by rw [g2]; exact he)
  rwa [g2] at this
theorem BfM.put {i a : Nat} (hm : dY m = 0) (h : BfM m f l i a) (hi : i < l.length) (ha : (a : Int) < m.i) (he : vEr m (nth l i) a = 0) (h2 : ¬(fnd l (vNx m (nth l i) a)).2 ≠ 0) (h3 : ¬(fnd l (vNx m (nth l i) a)).1 = true) : BfM m f (lL l (vNx m (nth l i) a)) i (a + 1) := by
  obtain ⟨n1,n2,n3⟩:=h.nxt hm hi ha he
  have hw:(vNx m (nth l i) a).w.length=(nth l i).w.length+1:=by rw [aCE]; simp
  generalize hq:vNx m (nth l i) a=q at*
  by_cases hn:mM l q
  · rw [(eR hn).2]
    unfold mM at hn
    have hE:enB q.f=true:=by cases e:enB q.f with
      |true=>rfl
      |false=>exact absurd (.inr (.inr (.inl e))) hn
    have hl:=h.len
    have hl2:l.length≠4096:=fun e=>hn (.inr (.inr (.inr e)))
    have hL:(l++[q]).length=l.length+1:=by simp
    have cs: ∀ j,j < (l++[q]).length→(j < l.length∧nth (l++[q]) j=nth l j)∨(j=l.length∧nth (l++[q]) j=q):=fun j hj=>by
      rw [hL] at hj
      by_cases e:j < l.length
      · exact .inl ⟨e,rB e⟩
      · have e2:j=l.length:=by omega
        subst e2; exact .inr ⟨rfl,aCD⟩
    refine ⟨by omega,fun j k hjk hk=>?_,fun j hj _=>?_,fun j hj=>?_,⟨by omega,by rw [rB (by omega)]; exact h.first.2⟩,fun j b hjb hj hb=>?_⟩
    · rcases cs k hk with ⟨k1,k2⟩|⟨k1,k2⟩
      · rw [k2,rB (by omega)]; exact h.mono j k hjk k1
      · rw [k2,hw]
        rcases cs j (by omega) with ⟨j1,j2⟩|⟨j1,j2⟩
        · rw [j2]; exact h.near j j1 hi
        · rw [j2,hw]; omega
    · rw [rB hi]
      rcases cs j hj with ⟨j1,j2⟩|⟨j1,j2⟩
      · rw [j2]; exact h.near j j1 hi
      · rw [j2,hw]; omega
    · rcases cs j hj with ⟨j1,j2⟩|⟨j1,j2⟩
      · rw [j2]; exact h.good j j1
      · rw [j2]; exact ⟨n1,n2,n3,hE⟩
    · have hji:j < l.length:=by omega
      rw [rB hji]
      by_cases e:j < i∨(j=i∧b < a)
      · obtain ⟨d1,k,d2,d3,d4,d5⟩:=h.done j b e hji hb
        exact ⟨d1,k,by omega,by rw [rB d2]; exact d3,by rw [rB d2]; exact d4,by rw [rB d2]; exact d5⟩
      · obtain ⟨rfl,rfl⟩:j=i∧b=a:=by omega
        exact ⟨he,l.length,by omega,by rw [aCD,hq],by rw [aCD,hq],by rw [aCD]; omega⟩
  · have hold:lL l q=l:=oL hn
    rw [hold]
    have hin:jN l q.s q.f=true:=by
      by_cases q1:jN l q.s q.f=true
      · exact q1
      · by_cases q2:enE q.f≠0∨enB q.f=false
        · rw [aAz q1 q2] at h2 h3
          rcases q2 with q2|q2
          · exact absurd q2 h2
          · simp only [decide_eq_true_eq] at h3; omega
        · by_cases q3:l.length=4096
          · rw [aEQ q1 q2 q3] at h2; exact absurd (by decide) h2
          · exact absurd (aAm q1 q2 q3) hn
    refine ⟨h.len,h.mono,h.near,h.good,h.first,fun j b hjb hj hb=>?_⟩
    by_cases e:j < i∨(j=i∧b < a)
    · exact h.done j b e hj hb
    · obtain ⟨rfl,rfl⟩:j=i∧b=a:=by omega
      unfold jN at hin
      rw [List.any_eq_true] at hin
      obtain ⟨x,hx,hx2⟩:=hin
      rw [Bool.and_eq_true] at hx2
      obtain ⟨k,hk,rfl⟩:=dJ hx
      rw [hq]
      exact ⟨he,k,hk,of_decide_eq_true hx2.1,of_decide_eq_true hx2.2,h.near k hk hi⟩
theorem BfM.row {i:Nat} (h:BfM m f l i m.i.toNat) (hi:i < l.length):BfM m f l (i+1) 0:=
  ⟨h.len,h.mono,fun j hj h1=>by have:=h.near j hj hi; have:=h.mono i (i+1) (by omega) h1; omega,h.good,h.first,fun j b hjb hj hb=>h.done j b (by omega) hj hb⟩
theorem BfM.cover {i a : Nat} (hm : dY m = 0) (h : BfM m f l i a) {N : Nat} (hN : ∀ k, k < l.length → (nth l k).w.length < N → k < i) : ∀ (n : Nat) (u : List Int), u.length = n → WdM m u → u.length ≤ N → ∃ k, k < l.length ∧ (nth l k).s = eC m m.s u ∧ (nth l k).w.length ≤ u.length ∧ SyM m f u (nth l k).f := by
  intro n
  induction n with
  | zero =>
    intro u hu _ _
    have:u=[]:=List.length_eq_zero_iff.1 hu
    subst this
    obtain ⟨g1,g2,g3,g4⟩:=h.good 0 h.first.1
    rw [h.first.2] at g2 g3
    exact ⟨0,h.first.1,g2.symm,by rw [h.first.2]; exact Nat.le_refl _,g3⟩
  | succ n ih =>
    intro u hu hw hl
    rcases List.eq_nil_or_concat u with rfl|⟨v,b,e⟩
    · cases hu
    · rw [List.concat_eq_append] at e
      subst e
      rw [List.length_append,List.length_singleton] at hu hl
      obtain ⟨k,k1,k2,k3,k4⟩:=ih v (by omega) hw.left (by omega)
      have hb:=hw.last
      obtain ⟨c,rfl⟩: ∃ c:Nat,b=c:=⟨b.toNat,by omega⟩
      obtain ⟨d1,j,d2,d3,d4,d5⟩:=h.done k c (.inl (hN k k1 (by omega))) k1 hb.2
      refine ⟨j,d2,?_,?_,?_⟩
      · rw [d3,kX,← k2]; rfl
      · rw [List.length_append,List.length_singleton]; omega
      · have:=k4.step hm hw.left hb.2 (by rw [← k2]; exact d1)
        rw [← k2] at this
        rw [d4]; exact this
theorem BfM.all {i a:Nat} (hm:dY m=0) (h:BfM m f l i a) {N:Nat} (hN: ∀ k,k < l.length→(nth l k).w.length < N→k < i) {u:List Int} (hw:WdM m u) (hu:u.length≤N):sat (vTr m u) f 0=true:=by
  obtain ⟨k,k1,_,_,k4⟩:=h.cover hm hN u.length u rfl hw hu
  rw [k4.fin]; exact (h.good k k1).2.2.2
inductive VSp (m:M) (f:Fm) (r:Tr×Bool×Int):Prop where
  |err (e:Int) (h:e≠0) (h1:r=(zT,false,e))
  |no (h1:r=(zT,false,0)) (h2: ∀ u,WdM m u→sat (vTr m u) f 0=true)
  |bad (w:List Int) (h1:r=aGX m w) (h2:WdM m w) (h3:sat (vTr m w) f 0=false) (h4: ∀ u,WdM m u→u.length < w.length→sat (vTr m u) f 0=true)
theorem aFH (hm : dY m = 0) (hp : p = nth l i) (hi : i < l.length) : ∀ (n a : Nat) (l2 : List Pl), n + a = m.i.toNat → BfM m f l2 i a → i < l2.length → nth l2 i = p →
    (∃ r,lE m p n a l2=(some r,[])∧VSp m f r)∨ ∃ l3,lE m p n a l2=(none,l3)∧BfM m f l3 i m.i.toNat∧i < l3.length
  |0,a,l2,e,h,hi2,_=>.inr ⟨l2,by rw [lE],by rw [show m.i.toNat=a by omega]; exact h,hi2⟩
  | n + 1, a, l2, e, h, hi2, hp2 => by
    have hmo:=fO hm
    have ha:(a:Int) < m.i:=by omega
    rw [lE]
    by_cases q1:vEr m p a≠0
    · rw [if_pos q1]; exact .inl ⟨_,rfl,.err _ q1 rfl⟩
    rw [if_neg q1]
    by_cases q2:(fnd l2 (vNx m p a)).2≠0
    · rw [if_pos q2]; exact .inl ⟨_,rfl,.err _ q2 rfl⟩
    rw [if_neg q2]
    have he:vEr m (nth l2 i) a=0:=by rw [hp2]; exact Decidable.of_not_not q1
    by_cases q3:(fnd l2 (vNx m p a)).1=true
    · rw [if_pos q3]
      obtain ⟨n1,n2,n3⟩:=h.nxt hm hi2 ha he
      rw [hp2] at n1 n2 n3
      refine .inl ⟨_,rfl,.bad _ rfl n1 ?_ fun u hu hl=>?_⟩
      · rw [n3.fin]
        by_cases c1:jN l2 (vNx m p a).s (vNx m p a).f=true
        · rw [aI5 c1] at q3; cases q3
        by_cases c2:enE (vNx m p a).f≠0∨enB (vNx m p a).f=false
        · rw [aAz c1 c2] at q2 q3
          rcases c2 with c2|c2
          · exact absurd c2 q2
          · exact c2
        · by_cases c3:l2.length=4096
          · rw [aEQ c1 c2 c3] at q3; cases q3
          · rw [(eR (aAm c1 c2 c3)).1] at q3; cases q3
      · refine h.all hm (N:=p.w.length) (fun k hk hkl=>?_) hu (by rw [aCE,List.length_append,List.length_singleton] at hl; omega)
        by_cases c:k < i
        · exact c
        · have:=h.mono i k (by omega) hk
          rw [hp2] at this; omega
    · rw [if_neg q3]
      have hput:=h.put hm hi2 ha he (by rw [hp2]; exact q2) (by rw [hp2]; exact q3)
      rw [hp2] at hput
      refine aFH hm hp hi n (a+1) _ (by omega) hput ?_ ?_
      · have:=aJu l2 (vNx m p a); omega
      · rw [aJV hi2]; exact hp2
theorem aFL (hm:dY m=0): ∀ (n i:Nat) (l:List Pl),4097≤n+i→BfM m f l i 0→VSp m f (pD m n i l)
  | 0, i, l, e, h => by
    have:=h.len
    rw [pD]
    exact .no rfl fun u hu=>h.all hm (N:=u.length) (fun k hk _=>by omega) hu (Nat.le_refl _)
  | n + 1, i, l, e, h => by
    rw [pD]
    by_cases hi:i < l.length
    · rw [if_pos hi]
      rcases aFH (f:=f) hm rfl hi m.i.toNat 0 l (by omega) h hi rfl with ⟨r,r1,r2⟩|⟨l3,r1,r2,r3⟩
      · rw [r1]; exact r2
      · rw [r1]; exact aFL hm n (i+1) l3 (by omega) (r2.row r3)
    · rw [if_neg hi]
      exact .no rfl fun u hu=>h.all hm (N:=u.length) (fun k hk _=>by omega) hu (Nat.le_refl _)
theorem aHx (hm:dY m=0) (hv:cE f=0) (hz:f.sz≤12):VSp m f (vck m f):=by
  by_cases q:(aM f).2≠0
  · rw [aMJ (by omega) (by omega) q]; exact .err _ q rfl
  rcases aGd hv hz (by decide) with e|⟨g,e,e1,e2⟩
  · rw [e] at q; exact absurd (by decide) q
  have hS:SyM m f [] g:=⟨e1,fun t _ _=>e2 t 0⟩
  have hf:(vS m f).f=g:=by unfold vS; rw [e]
  have hE:enE g=0:=by unfold enE hoE; rw [if_neg (fun x=>x e1.v)]; rfl
  have hi: ¬jN [] (vS m f).s (vS m f).f=true:=by simp [jN]
  have mo:=fO hm
  have hw0:WdM m []:=fun k hk=>absurd hk (Nat.not_lt_zero _)
  cases hb:enB g with
  | false =>
    have hfd:fnd [] (vS m f)=(true,0):=by rw [aAz hi (.inr (by rw [hf]; exact hb)),hf,hE]; rfl
    rw [aMw (by omega) (by omega) q (.inr (by rw [hfd])),hfd]
    refine .bad [] ?_ hw0 (by rw [hS.fin]; exact hb) fun u _ hl=>absurd hl (Nat.not_lt_zero _)
    have h0:frE m m.s []=0:=by rw [wA hm]; exact aAC ⟨by omega,by omega⟩ (by simp) fun k hk=>absurd hk (Nat.not_lt_zero _)
    unfold aGX dP
    rw [h0]; rfl
  | true =>
    have hn:mM [] (vS m f):=aAm hi (by rw [hf]; rintro (x|x); exact x hE; rw [hb] at x; cases x) (by simp)
    rw [aMQ (by omega) (by omega) q (by rw [(eR hn).1]; simp),(eR hn).2]
    have n0:nth ([]++[vS m f]) 0=vS m f:=rfl
    have only: ∀ j,j < ([]++[vS m f]).length→j=0:=fun j hj=>by simp at hj; exact hj
    refine aFL hm _ _ _ (by decide) ⟨by simp,fun j k hjk hk=>?_,fun j hj _=>?_,fun j hj=>?_,⟨by simp,rfl⟩,fun j b hjb=>by omega⟩
    · rw [only k hk,only j (by omega)]; exact Nat.le_refl _
    · rw [only j hj]; omega
    · rw [only j hj,n0,hf]
      exact ⟨hw0,rfl,hS,hb⟩
theorem aII {i j:Nat} {w:List Int} {s:Int} (hij:i≤j) (hj:j≤w.length) (e:eC m s (w.take i)=eC m s (w.take j)):fB m s (w.take i++w.drop j)=(fB m s w).take i++(fB m s w).drop j:=by
  have h1:fB m s w=fB m s (w.take i)++fB m (eC m s (w.take i)) (w.drop i):=by rw [← hJ,List.take_append_drop]
  have h2:fB m s w=fB m s (w.take j)++fB m (eC m s (w.take j)) (w.drop j):=by rw [← hJ,List.take_append_drop]
  have l1:(fB m s (w.take i)).length=i:=by rw [iJ,List.length_take]; omega
  have l2:(fB m s (w.take j)).length=j:=by rw [iJ,List.length_take]; omega
  have t1:(fB m s w).take i=fB m s (w.take i):=by rw [h1]; exact List.take_left' l1
  have t2:(fB m s w).drop j=fB m (eC m s (w.take j)) (w.drop j):=by rw [h2]; exact List.drop_left' l2
  rw [hJ,t1,t2,e]
theorem aBW {w:List Int} (hm:dY m=0) (hv:cE f=0) (hz:f.sz≤12) (h8:m.nx.length≤8) (h2:WdM m w) (h3:sat (vTr m w) f 0=false) (h4: ∀ u,WdM m u→u.length < w.length→sat (vTr m u) f 0=true):w.length≤1024:=by
  have mo:=fO hm
  have htk: ∀ q,WdM m (w.take q):=fun q=>WdM.left (v:=w.drop q) (by rw [List.take_append_drop]; exact h2)
  refine aEa (t:=vTr m w) (st:=fun q=>eC m m.s (w.take q)) (eN hv) hz rfl (iJ m w m.s) (fun q _=>?_) h3 fun i j hij hj e=>?_
  · have:=sM hm (w.take q) m.s mo.2.2.2.2.1 mo.2.2.2.2.2.1 (htk q)
    exact ⟨this.1,by omega⟩
  · have hc:aJN (vTr m w) i j=vTr m (w.take i++w.drop j):=by
      unfold aJN vTr
      rw [aII (by omega) hj e]
    rw [hc]
    refine h4 _ (fun k hk=>?_) (by rw [List.length_append,List.length_take,List.length_drop]; omega)
    have hl:(w.take i++w.drop j).length=w.length - (j - i):=by rw [List.length_append,List.length_take,List.length_drop]; omega
    rw [hl] at hk
    rw [aAI (by omega) hj hk]
    split
    · exact h2 _ (by omega)
    · exact h2 _ (by omega)
theorem aFF {w:List Int} (hm:dY m=0) (h2:WdM m w) (hl:w.length≤1024):aGX m w=(vTr m w,true,0)∧frE m m.s w=0:=by
  have mo:=fO hm
  have hw:nH w m.i=0:=aAC ⟨by omega,by omega⟩ hl h2
  have h0:frE m m.s w=0:=by rw [wA hm]; exact hw
  refine ⟨?_,h0⟩
  unfold aGX vTr
  rw [h0,(aJb hm hw).2.1]; rfl
end
end Go.Proofs.YteehaobohaecmaaGreatDoor
namespace Go.Proofs.YteehaobohaecmaaGreatDoor
open Go
@[simp] theorem aOi (a:Pl):cD (cPl a)=true:=by simp [cPl]
@[simp] theorem aPX (a:Pl):cY (cPl a)=true:=by simp [cPl,cY,V.pure]
@[simp] theorem aMO (l:List Pl):dK (l.map cPl)=true:=eP _ _ fun a=>by simp [cPl]
@[simp] theorem aOo (l:List Pl):fQ (l.map cPl)=true:=xR _ _ fun a=>by simp [cPl,cY,V.pure]
section
variable {m:M} {f g:Fm} {l:List Pl} {p q:Pl} {i a k:Nat} {s:Int}
structure PlD (m:M) (l:List Pl):Prop where
  ok:PlOK m l
  wd: ∀ j,j < l.length→WdM m (nth l j).w
theorem PlD.start (hm:dY m=0) (hv:cE g=0):PlD m [⟨m.s,g,[]⟩]:=by
  have mo:=fO hm
  refine ⟨⟨by simp,fun j hj=>?_⟩,fun j hj=>?_⟩
  · have:j=0:=by simp at hj; omega
    subst this
    exact ⟨mo.2.2.2.2.1,mo.2.2.2.2.2.1,hv,Nat.le_refl _⟩
  · have:j=0:=by simp at hj; omega
    subst this
    exact fun k hk=>absurd hk (Nat.not_lt_zero _)
theorem PlD.put (hm:dY m=0) (h:PlD m l) (hk:k < l.length) (ha:(a:Int) < m.i) (he: ¬vEr m (nth l k) a≠0) (hl: ¬4096≤l.length):PlD m (l++[vNx m (nth l k) a]):=by
  obtain ⟨a1,a2,a3,a4⟩:=h.ok.at_ k hk
  have hi:=aNq (by omega: ¬dY m≠0) a1 a2 ha
  have hv:cE (vNx m (nth l k) a).f=0:=aBB he
  have cs: ∀ j,j < (l++[vNx m (nth l k) a]).length→(j < l.length∧nth (l++[vNx m (nth l k) a]) j=nth l j)∨(j=l.length∧nth (l++[vNx m (nth l k) a]) j=vNx m (nth l k) a):=fun j hj=>by
    rw [List.length_append,List.length_singleton] at hj
    by_cases e:j < l.length
    · exact .inl ⟨e,rB e⟩
    · have e2:j=l.length:=by omega
      subst e2; exact .inr ⟨rfl,aCD⟩
  refine ⟨⟨by simp; omega,fun j hj=>?_⟩,fun j hj=>?_⟩
  · rcases cs j hj with ⟨j1,j2⟩|⟨j1,j2⟩
    · rw [j2]; exact h.ok.at_ j j1
    · rw [j2]; exact ⟨hi.1,hi.2,hv,by rw [aCE,List.length_append,List.length_singleton]; omega⟩
  · rcases cs j hj with ⟨j1,j2⟩|⟨j1,j2⟩
    · rw [j2]; exact h.wd j j1
    · rw [j2,aCE]; exact (h.wd k hk).snoc (by omega) ha
section
variable {n:Nat}
end
section
variable {ck:Fm→Tr×Bool×Int} {l:List Fm} {ts:List Tr} {bs:List Bool}
end
theorem aRj (h:aDk m f=true) (he:(vck m f).2.2≠0):(vck m f).2.1=false∧(vck m f).1=zT:=by
  by_cases q1:dY m≠0
  · rw [aIY q1]; exact ⟨rfl,rfl⟩
  by_cases q2:cE f≠0
  · rw [aIP q1 q2]; exact ⟨rfl,rfl⟩
  have hm:dY m=0:=by omega
  have hv:cE f=0:=by omega
  have hz:=aH6 h
  cases aHx hm hv hz with
  |err e _ h1=>rw [h1]; exact ⟨rfl,rfl⟩
  |no h1 _=>rw [h1]; exact ⟨rfl,rfl⟩
  | bad w h1 h2 h3 h4 =>
    have hl:=aBW hm hv hz (of_decide_eq_true h).1 h2 h3 h4
    rw [h1,(aFF hm h2 hl).1] at he
    exact absurd rfl he
structure VSh (m:M) (f:Fm):Prop where
  ok:(vck m f).2.1=true→frE m m.s (vck m f).1.ni=0∧dP m m.s (vck m f).1.ni=(vck m f).1.no∧hoE (vck m f).1 f=0∧hoB (vck m f).1 f=false
  all: ∀ w,w.length≤60→frE m m.s w=0→((vck m f).2.1=true→w.length < (vck m f).1.ni.length)→hoE ⟨w,dP m m.s w⟩ f=0∧hoB ⟨w,dP m m.s w⟩ f=true
theorem aBh (hm:dY m=0) {w:List Int} (h:frE m m.s w=0):WdM m w∧(⟨w,dP m m.s w⟩:Tr)=vTr m w∧w.length≤1024:=by
  have hw:nH w m.i=0:=by rw [← wA hm]; exact h
  exact ⟨(wC hw).2,by unfold vTr; rw [(aJb hm hw).2.1],(wC hw).1⟩
theorem vsh (h:aDk m f=true) (he:(vck m f).2.2=0):VSh m f:=by
  have hm:dY m=0:=Decidable.of_not_not fun q1=>by rw [aIY q1] at he; exact q1 he
  have hv:cE f=0:=Decidable.of_not_not fun q2=>by rw [aIP (by omega) q2] at he; exact q2 he
  have hz:=aH6 h
  have hol: ∀ u,(vTr m u).no.length=(vTr m u).ni.length:=fun u=>iJ m u m.s
  cases aHx hm hv hz with
  |err e h0 h1=>rw [h1] at he; exact absurd he h0
  | no h1 h2 =>
    refine ⟨fun hb=>by rw [h1] at hb; exact absurd hb (by decide),fun w hl hw _=>?_⟩
    obtain ⟨w1,w2,w3⟩:=aBh hm hw
    rw [w2,aAW hv w3 (hol w),aBi hv w3 (hol w)]
    exact ⟨rfl,h2 w w1⟩
  | bad w0 h1 h2 h3 h4 =>
    have hl0:=aBW hm hv hz (of_decide_eq_true h).1 h2 h3 h4
    have hb:=aFF hm h2 hl0
    have h1':vck m f=(vTr m w0,true,0):=by rw [h1,hb.1]
    refine ⟨fun _=>?_,fun w hl hw hlt=>?_⟩
    · rw [h1']
      have:=aBh hm hb.2
      refine ⟨hb.2,?_,aAW hv hl0 (hol w0),by show hoB (vTr m w0) f=false; rw [aBi hv hl0 (hol w0),h3]⟩
      exact congrArg Tr.no this.2.1
    · rw [h1'] at hlt
      obtain ⟨w1,w2,w3⟩:=aBh hm hw
      rw [w2,aAW hv w3 (hol w),aBi hv w3 (hol w)]
      exact ⟨rfl,h4 w w1 (hlt rfl)⟩
end
end Go.Proofs.YteehaobohaecmaaGreatDoor
namespace Go.Proofs.YteehaobohaecmaaGreatDoor
open Go Go.Proofs
theorem aGv (m:M) (f:Fm) (ws:List (List Int)):aP Tryz.prog 8 [(V.agg [(iV m.i),(iV m.s),(aZ m.nx),(aZ m.ot)]),(V.agg [(iV f.op),(iV f.arg),(V.sl (List.map cF f.kids))]),(aZ ws)] (V.bool true):=by
 refine pW Tryz.func8 aRs fun hB=>?_
 unfold s8
 dsimp only
 refine W_r (cK (i:=3) (n:=0) (m:=4) (cs:=[(iV m.i),(iV m.s),(aZ m.nx),(aZ m.ot)]) rfl (cVq rfl) rfl rfl rfl (cK (i:=4) (n:=0) (m:=3) (cs:=[(iV f.op),(iV f.arg),(V.sl (List.map cF f.kids))]) rfl (cVq rfl) rfl rfl rfl (aA rfl (R_e (aB (W_r (aL rfl rfl rfl rfl ?_)))))))
 refine aL rfl rfl rfl rfl (aJ (aBr m f) rfl (gA rfl (aA rfl ?_)))
 refine aS 4 (fun T H=>T 2=(aZ ws)∧T 3=(mPq 3)∧T 4=(mPq 4)∧T 27=(V.bool ((!aDk m f)||decide ((30:Int) < ((ws.length:Nat):Int))))∧H 3=(bMq m)∧H 4=(bk 1 24 3 [[(iV f.op),(iV f.arg),(V.sl (List.map cF f.kids))]])∧H 7=bZq∧True) ?_ ?_
 ·
  by_cases g1:(!aDk m f)=true
  ·
   refine G_n (ebT g1 rfl) (G_n (ebT g1 rfl) (G_n (ebT g1 rfl) (aR (ebT g1 rfl) rfl ?_)))
   exact ⟨rfl,rfl,rfl,(aIs g1),rfl,rfl,rfl,trivial⟩
  ·
   refine aC (ebF g1 rfl) (aA rfl (aC (ebF g1 rfl) (bM rfl (aC (ebF g1 rfl) (gH rfl rfl (aT (ebF g1 rfl) rfl ?_))))))
   exact ⟨rfl,rfl,rfl,(aH0 g1),rfl,rfl,rfl,trivial⟩
 intro T H ⟨t2,t3,t4,t27,h3,h4,h7,_⟩
 refine R_e ?_
 refine cO t27 (fun c2=>?_) (fun c2=>?_)
 ·
  refine aB (W_r (aJ oK rfl (aA rfl (R_e (aW ?_)))))
  refine bB (rVq (V.bool true)) (cA (by simp) rfl)
 have q0:=c2
 simp only [Bool.or_eq_false_iff,Bool.not_eq_false',decide_eq_false_iff_not] at q0
 have hs:aDk m f=true:=q0.1
 refine aD (W_r (aL t3 h3 rfl rfl (aL t4 h4 rfl rfl (aJ (kS m f) rfl (aA rfl (bG rfl rfl (bG rfl rfl ?_)))))))
 refine bG rfl rfl (bE (i:=7) (n:=0) (m:=2) rfl (cVq h7) rfl (bP rfl rfl rfl rfl rfl rfl rfl rfl rfl (aA rfl (aA rfl (R_e (aB (W_r ?_)))))))
 refine aA rfl (cM rfl rfl (R_e ?_))
 refine aK rfl (fun c3=>?_) fun c3=>?_
 ·
  have d1:=aRj hs c3
  refine aB (W_r (aA rfl (gA rfl (aA rfl ?_))))
  refine aS 5 (fun T H=>T 45=(V.bool ((!(vck m f).2.1)&&decide (((((vck m f).1.ni).length:Nat):Int)=(0:Int))))∧H 3=(bMq m)∧H 4=(bk 1 24 3 [[(iV f.op),(iV f.arg),(V.sl (List.map cF f.kids))]])∧H 7=(bk 1 54 2 [[(aQ ((vck m f).1.ni)),(aQ ((vck m f).1.no))]])∧True) ?_ ?_
  ·
   by_cases g4:(!(vck m f).2.1)=true
   ·
    refine aC (ebT g4 rfl) (aU rfl rfl (aC (ebT g4 rfl) (aL rfl rfl rfl rfl (aC (ebT g4 rfl) (bM rfl (aC (ebT g4 rfl) (bH rfl rfl ?_)))))))
    refine aR (ebT g4 rfl) rfl ?_
    exact ⟨(aBP g4),h3,h4,rfl,trivial⟩
   ·
    refine G_n (ebF g4 rfl) (G_n (ebF g4 rfl) (G_n (ebF g4 rfl) (G_n (ebF g4 rfl) (aT (ebF g4 rfl) rfl ?_))))
    exact ⟨(aBY g4),h3,h4,rfl,trivial⟩
  intro T H ⟨t45,h3,h4,h7,_⟩
  refine aA t45 ?_
  refine aS 2 (fun T H=>T 48=(V.bool (((!(vck m f).2.1)&&decide (((((vck m f).1.ni).length:Nat):Int)=(0:Int)))||false))∧H 3=(bMq m)∧H 4=(bk 1 24 3 [[(iV f.op),(iV f.arg),(V.sl (List.map cF f.kids))]])∧H 7=(bk 1 54 2 [[(aQ ((vck m f).1.ni)),(aQ ((vck m f).1.no))]])∧True) ?_ ?_
  ·
   by_cases g5:((!(vck m f).2.1)&&decide (((((vck m f).1.ni).length:Nat):Int)=(0:Int)))=true
   ·
    have g5x:=g5
    try simp only [Bool.and_eq_true,Bool.or_eq_true,Bool.not_eq_true',decide_eq_true_eq] at g5x
    refine aC (ebT g5 rfl) (aJ oK rfl (aR (ebT g5 rfl) rfl ?_))
    exact ⟨(aIs g5),h3,h4,h7,trivial⟩
   ·
    have g5x:=g5
    try simp only [Bool.and_eq_true,Bool.or_eq_true,Bool.not_eq_true',decide_eq_true_eq] at g5x
    refine G_n (ebF g5 rfl) (aT (ebF g5 rfl) rfl ?_)
    exact ⟨(aH0 g5),h3,h4,h7,trivial⟩
  intro T H ⟨t48,h3,h4,h7,_⟩
  refine aA t48 (R_e (aW ?_))
  refine bB (rVq (V.bool (((!(vck m f).2.1)&&decide (((((vck m f).1.ni).length:Nat):Int)=(0:Int)))||false))) (bD ?_)
  · first|rfl|(rw [d1.1,d1.2]; rfl)
 have hv:=vsh hs (by omega)
 refine aD (aB (W_r (aA rfl (R_e ?_))))
 refine cO rfl (fun c6=>?_) (fun c6=>?_)
 ·
  obtain ⟨o1,o2,o3,o4⟩:=hv.ok c6
  refine aB (W_r (aL t3 h3 rfl rfl (aU rfl rfl (aL rfl rfl rfl rfl (aJ (oW m ((vck m f).1.ni)) rfl (aA rfl (bG rfl rfl ?_)))))))
  refine bG rfl rfl (aA rfl (aA rfl (R_e (aB (W_r (aL t4 h4 rfl rfl (aL rfl rfl rfl rfl ?_)))))))
  refine aJ (qK f ((vck m f).1)) rfl (aA rfl (bG rfl rfl (bG rfl rfl (aA rfl (aA rfl (R_e (aB ?_)))))))
  refine fW (fun T H=>T 2=(aZ ws)∧T 3=(mPq 3)∧T 4=(mPq 4)∧T 7=(mPq 7)∧T 8=(V.bool ((vck m f).2.1))∧T 78=(V.bool ((decide (((frE m m.s ((vck m f).1.ni))≠(0:Int))∨((hoE ((vck m f).1) f)≠(0:Int)))||(hoB ((vck m f).1) f))||decide (¬((dP m m.s ((vck m f).1.ni))=((vck m f).1.no)))))∧H 3=(bMq m)∧H 4=(bk 1 24 3 [[(iV f.op),(iV f.arg),(V.sl (List.map cF f.kids))]])∧H 7=(bk 1 54 2 [[(aQ ((vck m f).1.ni)),(aQ ((vck m f).1.no))]])∧True) ?_ ?_
  ·
   refine aA rfl (cM rfl rfl (aA rfl ?_))
   refine aS 3 (fun T H=>T 2=(aZ ws)∧T 3=(mPq 3)∧T 4=(mPq 4)∧T 7=(mPq 7)∧T 8=(V.bool ((vck m f).2.1))∧T 10=(aQ (dP m m.s ((vck m f).1.ni)))∧T 12=(V.bool (hoB ((vck m f).1) f))∧T 68=(V.bool (decide (((frE m m.s ((vck m f).1.ni))≠(0:Int))∨((hoE ((vck m f).1) f)≠(0:Int)))))∧H 3=(bMq m)∧H 4=(bk 1 24 3 [[(iV f.op),(iV f.arg),(V.sl (List.map cF f.kids))]])∧H 7=(bk 1 54 2 [[(aQ ((vck m f).1.ni)),(aQ ((vck m f).1.no))]])∧True) ?_ ?_
   ·
    by_cases g7:(frE m m.s ((vck m f).1.ni))≠(0:Int)
    ·
     refine G_n (edT g7 rfl) (G_n (edT g7 rfl) (aR (edT g7 rfl) rfl ?_))
     exact ⟨t2,t3,t4,rfl,rfl,rfl,rfl,(dH g7),h3,h4,rfl,trivial⟩
    ·
     refine aC (edF g7 rfl) (aA rfl (aC (edF g7 rfl) (cM rfl rfl (aT (edF g7 rfl) rfl ?_))))
     exact ⟨t2,t3,t4,rfl,rfl,rfl,rfl,(dL g7),h3,h4,rfl,trivial⟩
   intro T H ⟨t2,t3,t4,t7,t8,t10,t12,t68,h3,h4,h7,_⟩
   refine aA t68 ?_
   refine aS 2 (fun T H=>T 2=(aZ ws)∧T 3=(mPq 3)∧T 4=(mPq 4)∧T 7=(mPq 7)∧T 8=(V.bool ((vck m f).2.1))∧T 10=(aQ (dP m m.s ((vck m f).1.ni)))∧T 71=(V.bool (decide (((frE m m.s ((vck m f).1.ni))≠(0:Int))∨((hoE ((vck m f).1) f)≠(0:Int)))||(hoB ((vck m f).1) f)))∧H 3=(bMq m)∧H 4=(bk 1 24 3 [[(iV f.op),(iV f.arg),(V.sl (List.map cF f.kids))]])∧H 7=(bk 1 54 2 [[(aQ ((vck m f).1.ni)),(aQ ((vck m f).1.no))]])∧True) ?_ ?_
   ·
    by_cases g8:((frE m m.s ((vck m f).1.ni))≠(0:Int))∨((hoE ((vck m f).1) f)≠(0:Int))
    ·
     refine G_n (edT g8 rfl) (aR (edT g8 rfl) rfl ?_)
     exact ⟨t2,t3,t4,t7,t8,t10,(jI g8),h3,h4,h7,trivial⟩
    ·
     refine aC (edF g8 rfl) (aA t12 (aT (edF g8 rfl) rfl ?_))
     exact ⟨t2,t3,t4,t7,t8,t10,(jF g8),h3,h4,h7,trivial⟩
   intro T H ⟨t2,t3,t4,t7,t8,t10,t71,h3,h4,h7,_⟩
   refine aA t71 ?_
   refine aS 6 (fun T H=>T 2=(aZ ws)∧T 3=(mPq 3)∧T 4=(mPq 4)∧T 7=(mPq 7)∧T 8=(V.bool ((vck m f).2.1))∧T 78=(V.bool ((decide (((frE m m.s ((vck m f).1.ni))≠(0:Int))∨((hoE ((vck m f).1) f)≠(0:Int)))||(hoB ((vck m f).1) f))||decide (¬((dP m m.s ((vck m f).1.ni))=((vck m f).1.no)))))∧H 3=(bMq m)∧H 4=(bk 1 24 3 [[(iV f.op),(iV f.arg),(V.sl (List.map cF f.kids))]])∧H 7=(bk 1 54 2 [[(aQ ((vck m f).1.ni)),(aQ ((vck m f).1.no))]])∧True) ?_ ?_
   ·
    by_cases g9:(decide (((frE m m.s ((vck m f).1.ni))≠(0:Int))∨((hoE ((vck m f).1) f)≠(0:Int)))||(hoB ((vck m f).1) f))=true
    ·
     have g9x:=g9
     try simp only [Bool.and_eq_true,Bool.or_eq_true,Bool.not_eq_true',decide_eq_true_eq] at g9x
     refine G_n (ebT g9 rfl) (G_n (ebT g9 rfl) (G_n (ebT g9 rfl) (G_n (ebT g9 rfl) (G_n (ebT g9 rfl) (aR (ebT g9 rfl) rfl ?_)))))
     exact ⟨t2,t3,t4,t7,t8,(aIs g9),h3,h4,h7,trivial⟩
    ·
     have g9x:=g9
     try simp only [Bool.and_eq_true,Bool.or_eq_true,Bool.not_eq_true',decide_eq_true_eq] at g9x
     refine aC (ebF g9 rfl) (aA t10 (aC (ebF g9 rfl) (aU t7 h7 (aC (ebF g9 rfl) (aL rfl h7 rfl rfl (aC (ebF g9 rfl) (aJ (oG (dP m m.s ((vck m f).1.ni)) ((vck m f).1.no)) rfl ?_)))))))
     refine aC (ebF g9 rfl) (rF rfl (aT (ebF g9 rfl) rfl ?_))
     exact ⟨t2,t3,t4,t7,t8,(aH0 g9),h3,h4,h7,trivial⟩
   intro T H ⟨t2,t3,t4,t7,t8,t78,h3,h4,h7,_⟩
   exact fM ⟨t2,t3,t4,t7,t8,t78,h3,h4,h7,trivial⟩
  intro T H ⟨t2,t3,t4,t7,t8,t78,h3,h4,h7,_⟩
  refine cO t78 (fun c10=>?_) (fun c10=>?_)
  · exfalso; have q:=c10; rw [o1,o2,o3,o4] at q; simp at q
  refine aD (aB (W_r (aA rfl (R_e (aE fun Q11 n11 x11 y11 z11=>?_)))))
  refine cQ (fun mm T H=> ∃ (k:Nat),mm=ws.length - k∧T 2=(aZ ws)∧T 3=(mPq 3)∧T 4=(mPq 4)∧T 7=(mPq 7)∧T 8=(V.bool ((vck m f).2.1))∧T 14=(iV ((k:Nat):Int))∧H 3=(bMq m)∧H 4=(bk 1 24 3 [[(iV f.op),(iV f.arg),(V.sl (List.map cF f.kids))]])∧H 7=(bk 1 54 2 [[(aQ ((vck m f).1.ni)),(aQ ((vck m f).1.no))]])∧(k≤ws.length)) ?_ ?_
  ·
   refine ⟨_,0,rfl,t2,t3,t4,t7,t8,(eTq (rVq (iV 0)) rfl),h3,h4,h7,?_⟩
   · omega
  intro mm T H ⟨k,hmm,t2,t3,t4,t7,t8,t14,h3,h4,h7,hk⟩ Q12 p112 p212 p312
  unfold aO2
  refine aB (W_r (aA t14 (aA t2 (bM rfl (bW rfl rfl (R_e ?_))))))
  refine aK rfl (fun c13=>?_) fun c13=>?_
  ·
   refine aD (aE fun Q14 n14 x14 y14 z14=>(W_r (aL t3 h3 rfl rfl (aA t2 (aA t14 (dE (i:=k) (rVq (aZ ws)) (rNq k) (by omega) rfl (aH rfl rfl ?_)))))))
   refine aJ (oW m (nth ws k)) rfl (aA rfl (bG rfl rfl (bG rfl rfl (aA rfl (aA rfl (R_e (aB ?_)))))))
   refine W_r (aA t2 (aA t14 (dE (i:=k) (rVq (aZ ws)) (rNq k) (by omega) rfl (aH rfl rfl (bM rfl (gH rfl rfl (aA rfl ?_)))))))
   refine aS 3 (fun T H=>T 2=(aZ ws)∧T 3=(mPq 3)∧T 4=(mPq 4)∧T 7=(mPq 7)∧T 8=(V.bool ((vck m f).2.1))∧T 14=(iV ((k:Nat):Int))∧T 15=(aQ (dP m m.s (nth ws k)))∧T 103=(V.bool (decide (((60:Int) < (((nth ws k).length:Nat):Int))∨((frE m m.s (nth ws k))≠(0:Int)))))∧H 3=(bMq m)∧H 4=(bk 1 24 3 [[(iV f.op),(iV f.arg),(V.sl (List.map cF f.kids))]])∧H 7=(bk 1 54 2 [[(aQ ((vck m f).1.ni)),(aQ ((vck m f).1.no))]])∧True) ?_ ?_
   ·
    by_cases g15:(60:Int) < (((nth ws k).length:Nat):Int)
    ·
     refine G_n (edT g15 rfl) (G_n (edT g15 rfl) (aR (edT g15 rfl) rfl ?_))
     exact ⟨t2,t3,t4,t7,t8,t14,rfl,(dH g15),h3,h4,h7,trivial⟩
    ·
     refine aC (edF g15 rfl) (aA rfl (aC (edF g15 rfl) (cM rfl rfl (aT (edF g15 rfl) rfl ?_))))
     exact ⟨t2,t3,t4,t7,t8,t14,rfl,(dL g15),h3,h4,h7,trivial⟩
   intro T H ⟨t2,t3,t4,t7,t8,t14,t15,t103,h3,h4,h7,_⟩
   refine aA t103 ?_
   refine aS 13 (fun T H=>T 2=(aZ ws)∧T 3=(mPq 3)∧T 4=(mPq 4)∧T 7=(mPq 7)∧T 8=(V.bool ((vck m f).2.1))∧T 14=(iV ((k:Nat):Int))∧T 15=(aQ (dP m m.s (nth ws k)))∧T 117=(V.bool (decide (((60:Int) < (((nth ws k).length:Nat):Int))∨((frE m m.s (nth ws k))≠(0:Int)))||(((vck m f).2.1)&&decide (((((vck m f).1.ni).length:Nat):Int)≤(((nth ws k).length:Nat):Int)))))∧H 3=(bMq m)∧H 4=(bk 1 24 3 [[(iV f.op),(iV f.arg),(V.sl (List.map cF f.kids))]])∧H 7=(bk 1 54 2 [[(aQ ((vck m f).1.ni)),(aQ ((vck m f).1.no))]])∧True) ?_ ?_
   ·
    by_cases g16:((60:Int) < (((nth ws k).length:Nat):Int))∨((frE m m.s (nth ws k))≠(0:Int))
    ·
     refine G_n (edT g16 rfl) (G_n (edT g16 rfl) (bO (rVq (V.raw undef)) (bO (rVq (V.raw undef)) (bO (rVq (V.raw undef)) (bO (rVq (V.raw undef)) (bO (rVq (V.raw undef)) (bO (rVq (V.raw undef)) ?_)))))))
     refine bO (rVq (V.raw undef)) (bO (rVq (V.raw undef)) (bO (rVq (V.raw undef)) (G_n (edT g16 rfl) (aR (edT g16 rfl) rfl ?_))))
     exact ⟨t2,t3,t4,t7,t8,t14,t15,(jI g16),h3,h4,h7,trivial⟩
    ·
     refine aC (edF g16 rfl) (aA t8 (aC (edF g16 rfl) (aA rfl ?_)))
     refine aS 10 (fun T H=>T 2=(aZ ws)∧T 3=(mPq 3)∧T 4=(mPq 4)∧T 7=(mPq 7)∧T 8=(V.bool ((vck m f).2.1))∧T 14=(iV ((k:Nat):Int))∧T 15=(aQ (dP m m.s (nth ws k)))∧T 104=(V.bool false)∧T 105=(V.bool ((vck m f).2.1))∧T 106=(V.bool ((vck m f).2.1))∧T 116=(V.bool (((vck m f).2.1)&&decide (((((vck m f).1.ni).length:Nat):Int)≤(((nth ws k).length:Nat):Int))))∧H 3=(bMq m)∧H 4=(bk 1 24 3 [[(iV f.op),(iV f.arg),(V.sl (List.map cF f.kids))]])∧H 7=(bk 1 54 2 [[(aQ ((vck m f).1.ni)),(aQ ((vck m f).1.no))]])∧True) ?_ ?_
     ·
      by_cases g17:((vck m f).2.1)=true
      ·
       refine aC (ebT g17 rfl) (aA t2 (aC (ebT g17 rfl) (aA t14 (aC (ebT g17 rfl) (dE (i:=k) (rVq (aZ ws)) (rNq k) (by omega) rfl (aC (ebT g17 rfl) (aH rfl rfl ?_)))))))
       refine aC (ebT g17 rfl) (bM rfl (aC (ebT g17 rfl) (aU t7 h7 (aC (ebT g17 rfl) (aL rfl h7 rfl rfl (aC (ebT g17 rfl) (bM rfl ?_)))))))
       refine aC (ebT g17 rfl) (lI rfl rfl (aC (edF g16 rfl) (aR (ebT g17 rfl) rfl ?_)))
       exact ⟨t2,t3,t4,t7,t8,t14,t15,(edF g16 rfl),rfl,rfl,(aBP g17),h3,h4,h7,trivial⟩
      ·
       refine G_n (ebF g17 rfl) (G_n (ebF g17 rfl) (G_n (ebF g17 rfl) (G_n (ebF g17 rfl) (G_n (ebF g17 rfl) (G_n (ebF g17 rfl) (G_n (ebF g17 rfl) (G_n (ebF g17 rfl) ?_)))))))
       refine G_n (ebF g17 rfl) (aC (edF g16 rfl) (aT (ebF g17 rfl) rfl ?_))
       exact ⟨t2,t3,t4,t7,t8,t14,t15,(edF g16 rfl),rfl,rfl,(aBY g17),h3,h4,h7,trivial⟩
     intro T H ⟨t2,t3,t4,t7,t8,t14,t15,t104,t105,t106,t116,h3,h4,h7,_⟩
     refine aT t104 t116 ?_
     exact ⟨t2,t3,t4,t7,t8,t14,t15,(jF g16),h3,h4,h7,trivial⟩
   intro T H ⟨t2,t3,t4,t7,t8,t14,t15,t117,h3,h4,h7,_⟩
   refine R_e ?_
   refine cO t117 (fun c18=>?_) (fun c18=>?_)
   ·
    refine aX (x14 _ _ (.done (W_t (aA t14 (bL rfl (rNq 1) (by omega) (aA rfl (R_e ?_)))))))
    refine p112 _ _ _ ?_ ⟨(k+1),rfl,t2,t3,t4,t7,t8,(eTq (rNq (k+1)) (by rfl)),h3,h4,h7,?_⟩
    · omega
    · omega
   have q1:=c18
   simp only [Bool.or_eq_false_iff,decide_eq_false_iff_not] at q1
   have u:=hv.all (nth ws k) (by omega) (by omega) (fun e=>by have q2:=q1.2; rw [e] at q2; simp at q2; omega)
   refine aD (W_r (aL t4 h4 rfl rfl (aA t2 (aA t14 (dE (i:=k) (rVq (aZ ws)) (rNq k) (by omega) rfl (aH rfl rfl (aA t15 ?_)))))))
   refine bI rfl rfl (aJ (qK f (⟨(nth ws k),(dP m m.s (nth ws k))⟩:Tr)) rfl (aA rfl (bG rfl rfl (bG rfl rfl (aA rfl (aA rfl (R_e ?_)))))))
   refine fW (fun T H=>T 2=(aZ ws)∧T 3=(mPq 3)∧T 4=(mPq 4)∧T 7=(mPq 7)∧T 8=(V.bool ((vck m f).2.1))∧T 14=(iV ((k:Nat):Int))∧T 134=(V.bool (decide ((hoE (⟨(nth ws k),(dP m m.s (nth ws k))⟩:Tr) f)≠(0:Int))||(!hoB (⟨(nth ws k),(dP m m.s (nth ws k))⟩:Tr) f)))∧H 3=(bMq m)∧H 4=(bk 1 24 3 [[(iV f.op),(iV f.arg),(V.sl (List.map cF f.kids))]])∧H 7=(bk 1 54 2 [[(aQ ((vck m f).1.ni)),(aQ ((vck m f).1.no))]])∧True) ?_ ?_
   ·
    refine aA rfl (cM rfl rfl (aA rfl ?_))
    refine aS 3 (fun T H=>T 2=(aZ ws)∧T 3=(mPq 3)∧T 4=(mPq 4)∧T 7=(mPq 7)∧T 8=(V.bool ((vck m f).2.1))∧T 14=(iV ((k:Nat):Int))∧T 134=(V.bool (decide ((hoE (⟨(nth ws k),(dP m m.s (nth ws k))⟩:Tr) f)≠(0:Int))||(!hoB (⟨(nth ws k),(dP m m.s (nth ws k))⟩:Tr) f)))∧H 3=(bMq m)∧H 4=(bk 1 24 3 [[(iV f.op),(iV f.arg),(V.sl (List.map cF f.kids))]])∧H 7=(bk 1 54 2 [[(aQ ((vck m f).1.ni)),(aQ ((vck m f).1.no))]])∧True) ?_ ?_
    ·
     by_cases g19:(hoE (⟨(nth ws k),(dP m m.s (nth ws k))⟩:Tr) f)≠(0:Int)
     ·
      refine G_n (edT g19 rfl) (G_n (edT g19 rfl) (aR (edT g19 rfl) rfl ?_))
      exact ⟨t2,t3,t4,t7,t8,t14,(jI g19),h3,h4,h7,trivial⟩
     ·
      refine aC (edF g19 rfl) (aA rfl (aC (edF g19 rfl) (gA rfl (aT (edF g19 rfl) rfl ?_))))
      exact ⟨t2,t3,t4,t7,t8,t14,(jF g19),h3,h4,h7,trivial⟩
    intro T H ⟨t2,t3,t4,t7,t8,t14,t134,h3,h4,h7,_⟩
    exact fM ⟨t2,t3,t4,t7,t8,t14,t134,h3,h4,h7,trivial⟩
   intro T H ⟨t2,t3,t4,t7,t8,t14,t134,h3,h4,h7,_⟩
   refine mT t134 (fun c20=>?_) (fun c20=>?_)
   · exfalso; have q:=c20; rw [u.1,u.2] at q; simp at q
   refine dA (n14 _ _ (.done (W_t (aA t14 (bL rfl (rNq 1) (by omega) (aA rfl (R_e ?_)))))))
   refine p112 _ _ _ ?_ ⟨(k+1),rfl,t2,t3,t4,t7,t8,(eTq (rNq (k+1)) (by rfl)),h3,h4,h7,?_⟩
   · omega
   · omega
  refine aX (p312 _ _ _ (x11 _ _ (.done (W_r (aJ oK rfl (aA rfl (R_e ?_)))))))
  refine aN ?_
  refine bB (rVq (V.bool true)) (cA (by simp) rfl)
 refine aD (aB (W_r (aA rfl (R_e (aE fun Q21 n21 x21 y21 z21=>?_)))))
 refine cQ (fun mm T H=> ∃ (k:Nat),mm=ws.length - k∧T 2=(aZ ws)∧T 3=(mPq 3)∧T 4=(mPq 4)∧T 7=(mPq 7)∧T 8=(V.bool ((vck m f).2.1))∧T 14=(iV ((k:Nat):Int))∧H 3=(bMq m)∧H 4=(bk 1 24 3 [[(iV f.op),(iV f.arg),(V.sl (List.map cF f.kids))]])∧H 7=(bk 1 54 2 [[(aQ ((vck m f).1.ni)),(aQ ((vck m f).1.no))]])∧(k≤ws.length)) ?_ ?_
 ·
  refine ⟨_,0,rfl,t2,t3,t4,rfl,rfl,(eTq (rVq (iV 0)) rfl),h3,h4,rfl,?_⟩
  · omega
 intro mm T H ⟨k,hmm,t2,t3,t4,t7,t8,t14,h3,h4,h7,hk⟩ Q22 p122 p222 p322
 unfold aO2
 refine aB (W_r (aA t14 (aA t2 (bM rfl (bW rfl rfl (R_e ?_))))))
 refine aK rfl (fun c23=>?_) fun c23=>?_
 ·
  refine aD (aE fun Q24 n24 x24 y24 z24=>(W_r (aL t3 h3 rfl rfl (aA t2 (aA t14 (dE (i:=k) (rVq (aZ ws)) (rNq k) (by omega) rfl (aH rfl rfl ?_)))))))
  refine aJ (oW m (nth ws k)) rfl (aA rfl (bG rfl rfl (bG rfl rfl (aA rfl (aA rfl (R_e (aB ?_)))))))
  refine W_r (aA t2 (aA t14 (dE (i:=k) (rVq (aZ ws)) (rNq k) (by omega) rfl (aH rfl rfl (bM rfl (gH rfl rfl (aA rfl ?_)))))))
  refine aS 3 (fun T H=>T 2=(aZ ws)∧T 3=(mPq 3)∧T 4=(mPq 4)∧T 7=(mPq 7)∧T 8=(V.bool ((vck m f).2.1))∧T 14=(iV ((k:Nat):Int))∧T 15=(aQ (dP m m.s (nth ws k)))∧T 103=(V.bool (decide (((60:Int) < (((nth ws k).length:Nat):Int))∨((frE m m.s (nth ws k))≠(0:Int)))))∧H 3=(bMq m)∧H 4=(bk 1 24 3 [[(iV f.op),(iV f.arg),(V.sl (List.map cF f.kids))]])∧H 7=(bk 1 54 2 [[(aQ ((vck m f).1.ni)),(aQ ((vck m f).1.no))]])∧True) ?_ ?_
  ·
   by_cases g25:(60:Int) < (((nth ws k).length:Nat):Int)
   ·
    refine G_n (edT g25 rfl) (G_n (edT g25 rfl) (aR (edT g25 rfl) rfl ?_))
    exact ⟨t2,t3,t4,t7,t8,t14,rfl,(dH g25),h3,h4,h7,trivial⟩
   ·
    refine aC (edF g25 rfl) (aA rfl (aC (edF g25 rfl) (cM rfl rfl (aT (edF g25 rfl) rfl ?_))))
    exact ⟨t2,t3,t4,t7,t8,t14,rfl,(dL g25),h3,h4,h7,trivial⟩
  intro T H ⟨t2,t3,t4,t7,t8,t14,t15,t103,h3,h4,h7,_⟩
  refine aA t103 ?_
  refine aS 13 (fun T H=>T 2=(aZ ws)∧T 3=(mPq 3)∧T 4=(mPq 4)∧T 7=(mPq 7)∧T 8=(V.bool ((vck m f).2.1))∧T 14=(iV ((k:Nat):Int))∧T 15=(aQ (dP m m.s (nth ws k)))∧T 117=(V.bool (decide (((60:Int) < (((nth ws k).length:Nat):Int))∨((frE m m.s (nth ws k))≠(0:Int)))||(((vck m f).2.1)&&decide (((((vck m f).1.ni).length:Nat):Int)≤(((nth ws k).length:Nat):Int)))))∧H 3=(bMq m)∧H 4=(bk 1 24 3 [[(iV f.op),(iV f.arg),(V.sl (List.map cF f.kids))]])∧H 7=(bk 1 54 2 [[(aQ ((vck m f).1.ni)),(aQ ((vck m f).1.no))]])∧True) ?_ ?_
  ·
   by_cases g26:((60:Int) < (((nth ws k).length:Nat):Int))∨((frE m m.s (nth ws k))≠(0:Int))
   ·
    refine G_n (edT g26 rfl) (G_n (edT g26 rfl) (bO (rVq (V.raw undef)) (bO (rVq (V.raw undef)) (bO (rVq (V.raw undef)) (bO (rVq (V.raw undef)) (bO (rVq (V.raw undef)) (bO (rVq (V.raw undef)) ?_)))))))
    refine bO (rVq (V.raw undef)) (bO (rVq (V.raw undef)) (bO (rVq (V.raw undef)) (G_n (edT g26 rfl) (aR (edT g26 rfl) rfl ?_))))
    exact ⟨t2,t3,t4,t7,t8,t14,t15,(jI g26),h3,h4,h7,trivial⟩
   ·
    refine aC (edF g26 rfl) (aA t8 (aC (edF g26 rfl) (aA rfl ?_)))
    refine aS 10 (fun T H=>T 2=(aZ ws)∧T 3=(mPq 3)∧T 4=(mPq 4)∧T 7=(mPq 7)∧T 8=(V.bool ((vck m f).2.1))∧T 14=(iV ((k:Nat):Int))∧T 15=(aQ (dP m m.s (nth ws k)))∧T 104=(V.bool false)∧T 105=(V.bool ((vck m f).2.1))∧T 106=(V.bool ((vck m f).2.1))∧T 116=(V.bool (((vck m f).2.1)&&decide (((((vck m f).1.ni).length:Nat):Int)≤(((nth ws k).length:Nat):Int))))∧H 3=(bMq m)∧H 4=(bk 1 24 3 [[(iV f.op),(iV f.arg),(V.sl (List.map cF f.kids))]])∧H 7=(bk 1 54 2 [[(aQ ((vck m f).1.ni)),(aQ ((vck m f).1.no))]])∧True) ?_ ?_
    ·
     by_cases g27:((vck m f).2.1)=true
     ·
      refine aC (ebT g27 rfl) (aA t2 (aC (ebT g27 rfl) (aA t14 (aC (ebT g27 rfl) (dE (i:=k) (rVq (aZ ws)) (rNq k) (by omega) rfl (aC (ebT g27 rfl) (aH rfl rfl ?_)))))))
      refine aC (ebT g27 rfl) (bM rfl (aC (ebT g27 rfl) (aU t7 h7 (aC (ebT g27 rfl) (aL rfl h7 rfl rfl (aC (ebT g27 rfl) (bM rfl ?_)))))))
      refine aC (ebT g27 rfl) (lI rfl rfl (aC (edF g26 rfl) (aR (ebT g27 rfl) rfl ?_)))
      exact ⟨t2,t3,t4,t7,t8,t14,t15,(edF g26 rfl),rfl,rfl,(aBP g27),h3,h4,h7,trivial⟩
     ·
      refine G_n (ebF g27 rfl) (G_n (ebF g27 rfl) (G_n (ebF g27 rfl) (G_n (ebF g27 rfl) (G_n (ebF g27 rfl) (G_n (ebF g27 rfl) (G_n (ebF g27 rfl) (G_n (ebF g27 rfl) ?_)))))))
      refine G_n (ebF g27 rfl) (aC (edF g26 rfl) (aT (ebF g27 rfl) rfl ?_))
      exact ⟨t2,t3,t4,t7,t8,t14,t15,(edF g26 rfl),rfl,rfl,(aBY g27),h3,h4,h7,trivial⟩
    intro T H ⟨t2,t3,t4,t7,t8,t14,t15,t104,t105,t106,t116,h3,h4,h7,_⟩
    refine aT t104 t116 ?_
    exact ⟨t2,t3,t4,t7,t8,t14,t15,(jF g26),h3,h4,h7,trivial⟩
  intro T H ⟨t2,t3,t4,t7,t8,t14,t15,t117,h3,h4,h7,_⟩
  refine R_e ?_
  refine cO t117 (fun c28=>?_) (fun c28=>?_)
  ·
   refine aX (x24 _ _ (.done (W_t (aA t14 (bL rfl (rNq 1) (by omega) (aA rfl (R_e ?_)))))))
   refine p122 _ _ _ ?_ ⟨(k+1),rfl,t2,t3,t4,t7,t8,(eTq (rNq (k+1)) (by rfl)),h3,h4,h7,?_⟩
   · omega
   · omega
  have q1:=c28
  simp only [Bool.or_eq_false_iff,decide_eq_false_iff_not] at q1
  have u:=hv.all (nth ws k) (by omega) (by omega) (fun e=>by have q2:=q1.2; rw [e] at q2; simp at q2; omega)
  refine aD (W_r (aL t4 h4 rfl rfl (aA t2 (aA t14 (dE (i:=k) (rVq (aZ ws)) (rNq k) (by omega) rfl (aH rfl rfl (aA t15 ?_)))))))
  refine bI rfl rfl (aJ (qK f (⟨(nth ws k),(dP m m.s (nth ws k))⟩:Tr)) rfl (aA rfl (bG rfl rfl (bG rfl rfl (aA rfl (aA rfl (R_e ?_)))))))
  refine fW (fun T H=>T 2=(aZ ws)∧T 3=(mPq 3)∧T 4=(mPq 4)∧T 7=(mPq 7)∧T 8=(V.bool ((vck m f).2.1))∧T 14=(iV ((k:Nat):Int))∧T 134=(V.bool (decide ((hoE (⟨(nth ws k),(dP m m.s (nth ws k))⟩:Tr) f)≠(0:Int))||(!hoB (⟨(nth ws k),(dP m m.s (nth ws k))⟩:Tr) f)))∧H 3=(bMq m)∧H 4=(bk 1 24 3 [[(iV f.op),(iV f.arg),(V.sl (List.map cF f.kids))]])∧H 7=(bk 1 54 2 [[(aQ ((vck m f).1.ni)),(aQ ((vck m f).1.no))]])∧True) ?_ ?_
  ·
   refine aA rfl (cM rfl rfl (aA rfl ?_))
   refine aS 3 (fun T H=>T 2=(aZ ws)∧T 3=(mPq 3)∧T 4=(mPq 4)∧T 7=(mPq 7)∧T 8=(V.bool ((vck m f).2.1))∧T 14=(iV ((k:Nat):Int))∧T 134=(V.bool (decide ((hoE (⟨(nth ws k),(dP m m.s (nth ws k))⟩:Tr) f)≠(0:Int))||(!hoB (⟨(nth ws k),(dP m m.s (nth ws k))⟩:Tr) f)))∧H 3=(bMq m)∧H 4=(bk 1 24 3 [[(iV f.op),(iV f.arg),(V.sl (List.map cF f.kids))]])∧H 7=(bk 1 54 2 [[(aQ ((vck m f).1.ni)),(aQ ((vck m f).1.no))]])∧True) ?_ ?_
   ·
    by_cases g29:(hoE (⟨(nth ws k),(dP m m.s (nth ws k))⟩:Tr) f)≠(0:Int)
    ·
     refine G_n (edT g29 rfl) (G_n (edT g29 rfl) (aR (edT g29 rfl) rfl ?_))
     exact ⟨t2,t3,t4,t7,t8,t14,(jI g29),h3,h4,h7,trivial⟩
    ·
     refine aC (edF g29 rfl) (aA rfl (aC (edF g29 rfl) (gA rfl (aT (edF g29 rfl) rfl ?_))))
     exact ⟨t2,t3,t4,t7,t8,t14,(jF g29),h3,h4,h7,trivial⟩
   intro T H ⟨t2,t3,t4,t7,t8,t14,t134,h3,h4,h7,_⟩
   exact fM ⟨t2,t3,t4,t7,t8,t14,t134,h3,h4,h7,trivial⟩
  intro T H ⟨t2,t3,t4,t7,t8,t14,t134,h3,h4,h7,_⟩
  refine mT t134 (fun c30=>?_) (fun c30=>?_)
  · exfalso; have q:=c30; rw [u.1,u.2] at q; simp at q
  refine dA (n24 _ _ (.done (W_t (aA t14 (bL rfl (rNq 1) (by omega) (aA rfl (R_e ?_)))))))
  refine p122 _ _ _ ?_ ⟨(k+1),rfl,t2,t3,t4,t7,t8,(eTq (rNq (k+1)) (by rfl)),h3,h4,h7,?_⟩
  · omega
  · omega
 refine aX (p322 _ _ _ (x21 _ _ (.done (W_r (aJ oK rfl (aA rfl (R_e ?_)))))))
 refine aN ?_
 refine bB (rVq (V.bool true)) (cA (by simp) rfl)
end Go.Proofs.YteehaobohaecmaaGreatDoor
namespace Go.Proofs.YteehaobohaecmaaGreatDoor
open Go Go.ChangeShapes Go.WideShapes Go.ChangeAt Go.RowKit
def okS (P:Program) (S:List TypeId) (t:TypeId):Bool:=match P.underlying t with
  |some .bool=>true
  |some (.int _)=>true
  |some .string=>true
  |some (.slice e)=>decide (e∈S)&&decide (P.cellsOf e≠0)
  |some (.struct fs)=>fs.toList.all (fun f=>decide (f.type∈S))&&aC3 P (P.cellsOf t) 0 fs.toList
  |some (.array m e)=>decide (e∈S)&&decide (m*P.cellsOf e=P.cellsOf t)
  |_=>false
section
variable {H:Type} {enc:TypeId×Value→H} {P:Program} {base:Nat} {spare:Nat→Bool} {held:Bool}
theorem aLc {x : Cx} (hZ : ∀ b, b < x.w.heap.size → x.Z b) {S : List TypeId} (hS : ∀ t ∈ S, okS P S t = true) : ∀ (fuel : Nat) (t : TypeId), t ∈ S → ∀ (cs : List Value) (y : DataW H × List MemPlace), DataW.trod enc P x.w base spare held fuel t cs = some y →
    ∃ vs,Shp P fuel t vs∧RC x vs cs:=by
  intro n
  induction n with
  |zero=>intro t _ cs y hy; simp [DataW.trod] at hy
  | succ n ih =>
    intro t hm cs y hy
    have hok:=hS t hm
    have one: ∀ {v:V} {c:Value},R x v c→RC x [v] [c]:=fun {v c} h=>⟨rfl,fun j u hj=>by
      cases j with
      |zero=>simp at hj; subst hj; exact h
      |succ j=>simp at hj⟩
    simp only [okS] at hok
    split at hok
    · rename_i ht
      simp only [Shp,ht]
      obtain ⟨b,rfl,_⟩:=DataW.trod_bool ht hy
      exact ⟨[.bool b],⟨b,rfl⟩,one (.bool b)⟩
    · rename_i k ht
      simp only [Shp,ht]
      obtain ⟨m,rfl,_,hw⟩:=DataW.trod_int ht hy
      exact ⟨[.int k m],⟨m,rfl,hw⟩,one (.int k m)⟩
    · rename_i ht
      simp only [Shp,ht]
      obtain ⟨s,rfl,_⟩:=DataW.trod_string ht hy
      exact ⟨[.str s.data.toList],⟨_,rfl⟩,one (R.str s.data.toList)⟩
    · rename_i e ht
      simp only [Shp,ht]
      simp only [Bool.and_eq_true,decide_eq_true_eq] at hok
      obtain ⟨hok,hnz⟩:=hok
      rcases DataW.trod_slice ht hy with ⟨rfl,_⟩|⟨a,len,cap,elems,rest,m,em,rfl,_,hb,hl,hc,hlen,hel,_,_⟩
      · exact ⟨[.sl []],⟨[],rfl,fun r hr=>by cases hr⟩,one .slnil⟩
      · obtain rfl:n=m:=by omega
        have hall: ∀ i,i < len→ ∃ r:List V,Shp P n e r∧ ∃ ci:List Value,x.w.cells? base (a.add (i*P.cellsOf e)) (P.cellsOf e)=some ci∧RC x r ci:=by
          intro i hi
          have h1:=hel i hi
          rw [List.getElem?_eq_getElem (by omega)] at h1
          cases h2:x.w.cells? base (a.add (i*P.cellsOf e)) (P.cellsOf e) with
          |none=>rw [h2] at h1; cases h1
          | some ci =>
            rw [h2] at h1
            obtain ⟨vs,h3,h4⟩:=ih e hok ci _ h1
            exact ⟨vs,h3,ci,rfl,h4⟩
        obtain ⟨rows,hrl,hrows⟩:=aLR hall
        have hcell: ∀ (r:Nat) (row:List V) (j:Nat) (v:V),rows[r]?=some row→row[j]?=some v→
            ∃ c,x.w.cell? (a.add (r*P.cellsOf e+j))=some c∧R x v c:=by
          intro r row j v hr hj
          obtain ⟨_,ci,g1,g2⟩:=hrows r row hr
          obtain ⟨_,g4,g5⟩:=World.cells?_some g1
          have hjlt:j < ci.length:=by have:=(List.getElem?_eq_some_iff.1 hj).1; rw [← g2.1]; exact this
          have g6:=g5 j (by omega)
          rw [List.getElem?_eq_getElem hjlt,Addr.add_add] at g6
          refine ⟨_,g6,?_⟩
          have:=g2.2 j v hj
          rw [List.getD_eq_getElem?_getD,List.getElem?_eq_getElem hjlt] at this
          exact this
        have key:=R.sl (x:=x) rows a cap (P.cellsOf e) (fun k=>(x.w.cell? (a.add k)).getD undef) (by omega) hc ?_ ?_ ?_ ?_
        · rw [hrl] at key
          exact ⟨[.sl rows],⟨rows,rfl,fun r hr=>by obtain ⟨i,hi⟩:=List.getElem?_of_mem hr; exact (hrows i r hi).1⟩,one key⟩
        · intro hne
          cases hrr:rows with
          |nil=>exact (hne hrr).elim
          | cons r0 rs =>
            obtain ⟨_,ci,g1,g2⟩:=hrows 0 r0 (by rw [hrr]; rfl)
            · obtain ⟨_,g4,g5⟩:=World.cells?_some g1
              have g6:=g5 0 (by omega)
              rw [List.getElem?_eq_getElem (by omega),Addr.add_add] at g6
              have hlt:(a.add (0*P.cellsOf e+0)).block < x.w.heap.size:=by
                unfold World.cell? at g6
                split at g6
                · rename_i hh
                  exact (Array.getElem?_eq_some_iff.1 hh).1
                · cases g6
              exact hZ _ (by simpa [Addr.add] using hlt)
        · intro r hr
          obtain ⟨i,hi⟩:=List.getElem?_of_mem hr
          obtain ⟨_,ci,g1,g2⟩:=hrows i r hi
          rw [g2.1]
          exact (World.cells?_some g1).2.1
        · intro r row j v hr hj
          obtain ⟨c,g1,_⟩:=hcell r row j v hr hj
          rw [g1]; rfl
        · intro r row j v hr hj
          obtain ⟨c,g1,g2⟩:=hcell r row j v hr hj
          simp only [g1,Option.getD_some]
          exact g2
    · rename_i fs ht
      simp only [Shp,ht]
      simp only [Bool.and_eq_true] at hok
      obtain ⟨xs,m,em,_,hl,hxl,hf⟩:=DataW.trod_struct ht hy
      obtain rfl:n=m:=by omega
      have hfs: ∀ f∈fs.toList,∃ z,DataW.trod enc P x.w base spare held n f.type ((cs.drop f.offset).take (P.cellsOf f.type))=some z:=by
        intro f hm
        obtain ⟨i,hi⟩:=List.getElem?_of_mem hm
        have hi':fs[i]?=some f:=by simpa using hi
        have hlt:i < xs.length:=by
          have:=(Array.getElem?_eq_some_iff.1 hi').1
          omega
        exact ⟨xs[i],by rw [hf i f hi',List.getElem?_eq_getElem hlt]⟩
      have hok':=List.all_eq_true.1 hok.1
      have main: ∀ (l:List Field) (off:Nat),(∀ f∈l,f∈fs.toList)→aC3 P (P.cellsOf t) off l=true→off≤cs.length→ ∃ vs,aCk (Shp P n) l vs∧RC x vs (cs.drop off):=by
        intro l
        induction l with
        | nil =>
          intro off _ htl hle
          simp only [aC3,decide_eq_true_eq] at htl
          refine ⟨[],rfl,?_⟩
          rw [List.drop_of_length_le (by omega)]
          exact ⟨rfl,fun j v hj=>by simp at hj⟩
        | cons f r ihr =>
          intro off hsub htl hle
          simp only [aC3,Bool.and_eq_true,decide_eq_true_eq] at htl
          obtain ⟨z,hz⟩:=hfs f (hsub f (List.mem_cons_self ..))
          obtain ⟨va,g1,g2⟩:=ih f.type (of_decide_eq_true (hok' f (hsub f (List.mem_cons_self ..)))) _ _ hz
          have hoff:off+P.cellsOf f.type≤cs.length:=by
            rw [hl]
            have: ∀ (l:List Field) (o:Nat),aC3 P (P.cellsOf t) o l=true→o≤P.cellsOf t:=by
              intro l
              induction l with
              |nil=>intro o h; simp only [aC3,decide_eq_true_eq] at h; omega
              |cons f r ih=>intro o h; simp only [aC3,Bool.and_eq_true,decide_eq_true_eq] at h; have:=ih _ h.2; omega
            exact this _ _ htl.2
          obtain ⟨vb,g3,g4⟩:=ihr (off+P.cellsOf f.type) (fun q hq=>hsub q (List.mem_cons_of_mem _ hq)) htl.2 hoff
          refine ⟨va++vb,⟨va,vb,rfl,g1,g3⟩,?_⟩
          have hsplit:cs.drop off=(cs.drop off).take (P.cellsOf f.type)++cs.drop (off+P.cellsOf f.type):=by
            rw [← List.drop_drop,List.take_append_drop]
          rw [hsplit]
          rw [htl.1] at g2
          exact aAj g2 g4
      obtain ⟨vs,g1,g2⟩:=main fs.toList 0 (fun _ h=>h) hok.2 (Nat.zero_le _)
      exact ⟨vs,g1,by simpa using g2⟩
    · rename_i m e ht
      simp only [Shp,ht]
      simp only [Bool.and_eq_true,decide_eq_true_eq] at hok
      obtain ⟨xs,f,em,_,hl,hxl,hf⟩:=DataW.trod_array ht hy
      obtain rfl:n=f:=by omega
      have main: ∀ (k i:Nat),i+k=m→ ∃ vs,aNR (Shp P n e) k vs∧RC x vs (cs.drop (i*P.cellsOf e)):=by
        intro k
        induction k with
        | zero =>
          intro i hi
          refine ⟨[],rfl,?_⟩
          rw [List.drop_of_length_le (by rw [hl,← hok.2,show i=m by omega]; exact Nat.le_refl _)]
          exact ⟨rfl,fun j v hj=>by simp at hj⟩
        | succ k ihk =>
          intro i hi
          have hlt:i < m:=by omega
          have hz:=hf i hlt
          rw [List.getElem?_eq_getElem (by omega)] at hz
          obtain ⟨va,g1,g2⟩:=ih e hok.1 _ _ hz
          obtain ⟨vb,g3,g4⟩:=ihk (i+1) (by omega)
          refine ⟨va++vb,⟨va,vb,rfl,g1,g3⟩,?_⟩
          have hsplit:cs.drop (i*P.cellsOf e)=(cs.drop (i*P.cellsOf e)).take (P.cellsOf e)++cs.drop ((i+1)*P.cellsOf e):=by
            rw [Nat.add_mul,Nat.one_mul,← List.drop_drop,List.take_append_drop]
          rw [hsplit]
          exact aAj g2 g4
      obtain ⟨vs,g1,g2⟩:=main m 0 (by omega)
      exact ⟨vs,g1,by simpa using g2⟩
    · cases hok
theorem aLx {x:Cx} (hZ: ∀ b,b < x.w.heap.size→x.Z b) {S:List TypeId} (hS: ∀ t∈S,okS P S t=true) {t:TypeId} (ht0:t∈S) {r:Reach} {b0 base:Nat} {spare:Nat→Bool} {held:Bool} {v:Value} {d:DataW H} {ps:List MemPlace}
    (vI:Value.okWide P x.w r b0 t v) (hd:DataW.Trod enc P x.w base spare held t v d ps): ∃ n vs,Shp P n t vs∧R x (mV P t vs) v:=by
  obtain ⟨fuel,hf⟩:=hd
  obtain ⟨vs,h1,h2⟩:=aLc hZ hS fuel t ht0 _ _ hf
  refine ⟨fuel,vs,h1,?_⟩
  have hok:=hS t ht0
  unfold mV
  simp only [okS] at hok
  split at hok
  · rename_i ht
    obtain ⟨b,rfl⟩:=okWide_bool ht vI
    rw [ht]; exact aAO h2
  · rename_i k ht
    obtain ⟨m,rfl⟩:=okWide_int ht vI
    rw [ht]; exact aAO h2
  · rename_i ht
    obtain ⟨s,rfl⟩:=okWide_string ht vI
    rw [ht]; exact aAO h2
  · rename_i e ht
    obtain ⟨a,l,c,rfl⟩:=okWide_slice ht vI
    rw [ht]; exact aAO h2
  · rename_i fs ht
    obtain ⟨cs,rfl,_⟩:=okWide_struct ht vI
    rw [ht]
    refine .agg vs cs (by have:=h2.1; simp [Value.cells] at this; omega) fun j u hj=>?_
    have:=h2.2 j u hj
    rw [List.getD_eq_getElem?_getD] at this
    rw [Array.getD_eq_getD_getElem?,← Array.getElem?_toList]
    exact this
  · rename_i m e ht
    have hval2:=vI
    simp only [Value.okWide,ht] at hval2
    obtain ⟨cs,rfl,_⟩:=hval2
    rw [ht]
    refine .agg vs cs (by have:=h2.1; simp [Value.cells] at this; omega) fun j u hj=>?_
    have:=h2.2 j u hj
    rw [List.getD_eq_getElem?_getD] at this
    rw [Array.getD_eq_getD_getElem?,← Array.getElem?_toList]
    exact this
  · cases hok
def aDt (P:Program):List TypeId→List V→Prop
  |[],vs=>vs=[]
  |t::ts,vs=> ∃ n a b,vs=mV P t a::b∧Shp P n t a∧aDt P ts b
theorem zR {x:Cx} (hZ: ∀ b,b < x.w.heap.size→x.Z b) {S:List TypeId} (hS: ∀ t∈S,okS P S t=true) {r:Reach} {b0 base:Nat} {spare:Nat→Bool} {held:Bool}: ∀ (ts:List TypeId) (vs:List Value) (ds:List (DataW H)) (ps:List MemPlace),
    (∀ t∈ts,t∈S)→(∀ (j:Nat) t v,ts[j]?=some t→vs[j]?=some v→Value.okWide P x.w r b0 t v)→DataW.TrodAll enc P x.w base spare held ts vs ds ps→
    ∃ us,aDt P ts us∧RL x us vs
  | [], vs, ds, ps, _, _, h => by
    obtain ⟨rfl,rfl,rfl⟩:=trodAll_nil h
    exact ⟨[],rfl,rfl,fun j v hj=>by simp at hj⟩
  | t :: ts, vs, ds, ps, hok, vI, h => by
    obtain ⟨v,vs1,d,ds1,a,b,rfl,rfl,rfl,h1,h2⟩:=trodAll_cons h
    obtain ⟨n,ws,g1,g2⟩:=aLx hZ hS (hok t (List.mem_cons_self ..)) (vI 0 t v rfl rfl) h1
    obtain ⟨us,g3,g4⟩:=zR hZ hS ts vs1 ds1 b (fun q hq=>hok q (List.mem_cons_of_mem _ hq)) (fun j q u hq hu=>vI (j+1) q u (by simpa using hq) (by simpa using hu)) h2
    refine ⟨mV P t ws::us,⟨n,ws,us,rfl,g1,g3⟩,by simp [g4.1],fun j u hj=>?_⟩
    cases j with
    |zero=>simp at hj; subst hj; exact g2
    |succ j=>exact g4.2 j u (by simpa using hj)
theorem aGC {f:FuncId} {fn:Func} {s:ChangeSpec} {apart fresh handsOn again:Bool} {tb:Nat} {S:List TypeId} {W:World} {args:Array Value} {ds gs:List (DataW H)} {before:List MemPlace}
    (hl:laidOutB P=true) (hres:fn.resultTypes=#[tb]) (htb:P.underlying tb=some .bool) (hS: ∀ t∈S,okS P S t=true) (hts: ∀ t∈fn.params.toList,t∈S∧P.readableRec t=true∧t < P.types.size)
    (hvars:s.vars=[]) (hs:s.fn H (ds++gs)={results:=[.lit (.bool true)],args:=ds})
    (hlaw: ∀ us,aDt P fn.params.toList us→aP P f us (.bool true))
    (vI: ∀ (j:Nat) t v,fn.params[j]?=some t→args[j]?=some v→Value.okWide P W .any 0 t v)
    (hW:DataW.Whole enc P fn.params.toList s.vars apart W args.toList ds gs before) (htab:aKc W (fun b=>b < W.heap.size):=by intro p hp; simp [aKZ] at hp):
    Calls P f args W fun e W'=> ∃ v,e=.returned v∧s.post enc P fn apart fresh handsOn again W args v W':=by
  have hW':=hW
  obtain ⟨p,q,hA,hV,rfl,hfz,hnd⟩:=hW
  rw [hvars] at hV
  obtain ⟨rfl,rfl⟩:=trodVars_none hV
  have hlt:=hW'.lt
  let x:Cx:=start {w:=W,Z:=fun b=>b < W.heap.size,σ:=fun _=>0,H:=H0} (fun b=>b < W.heap.size)
  have hx:Inv x:=lZ (fun b hb=>hb) htab
  obtain ⟨us,g1,g2⟩:=zR (x:=x) (fun b hb=>hb) hS fn.params.toList args.toList ds p (fun t ht=>(hts t ht).1) (fun j t v h1 h2=>vI j t v (by simpa using h1) (by simpa using h2)) hA
  have hc:=(hlaw us g1 H0).2 x args.toList rfl hx g2
  rw [Array.toArray_toList] at hc
  refine Calls.mono (show Calls P f args W _ from hc) fun e W' h=>?_
  obtain ⟨c,y,rfl,rfl,h3,h4,h5,h6⟩:=h
  cases h5
  have hb:Below W.heap.size W y.w:=yZ h6 (fun _=>rfl) rfl
  refine ⟨_,rfl,zL (pa:=p) (pv:=[]) hW' (fun b sp hd=>?_) (fun sp hsp=>?_) (fun sp _=>?_) (by simp) hb ?_⟩
  · rw [hs,hres]
    exact trodAll_mk1 (shut_bool htb true)
  · rw [hs]
    exact pI hl hb _ _ _ _ (fun t ht=>(hts t ht).2) hA (fun z hz=>hlt z (by simpa using hz)) (fun z hz=>hsp z (by simpa using hz))
  · rw [hs,hvars]; rfl
  · exact ok_one hres rfl (okWide_bool_mk htb true)
end
section
variable {P:Program} {n t:Nat} {vs:List V}
theorem aLG {k:IntKind} (ht:P.underlying t=some (.int k)) (h:Shp P n t vs): ∃ m:Int,vs=[.int k m]:=by
  cases n with
  |zero=>exact h.elim
  |succ n=>exact aKp ht h
theorem aAp {e:Nat} {α:Type} {f:α→List V} (ht:P.underlying t=some (.slice e)) (he: ∀ m vs,Shp P m e vs→ ∃ a,vs=f a) (h:Shp P n t vs): ∃ l:List α,vs=[.sl (l.map f)]:=by
  cases n with
  |zero=>exact h.elim
  |succ n=>exact zQ ht (he n) h
theorem aDd {fs:Array Field} (ht:P.underlying t=some (.struct fs)) (h:Shp P n t vs): ∃ m,n=m+1∧aCk (Shp P m) fs.toList vs:=by
  cases n with
  |zero=>exact h.elim
  |succ n=>exact ⟨n,rfl,aJ4 ht h⟩
theorem aHW {e:Nat} {α:Type} {f:α→List V} {N:Nat} (ht:P.underlying t=some (.slice e)) (he: ∀ m,m < N→ ∀ vs,Shp P m e vs→ ∃ a,vs=f a) (hn:n < N) (h:Shp P n t vs): ∃ l:List α,vs=[.sl (l.map f)]:=by
  cases n with
  |zero=>exact h.elim
  |succ n=>exact zQ ht (he n (by omega)) h
theorem sZ {ts:List TypeId} {us:List V} (h:aDt P (t::ts) us): ∃ n a b,us=mV P t a::b∧Shp P n t a∧aDt P ts b:=h
theorem aJR {us:List V} (h:aDt P [] us):us=[]:=h
end
end Go.Proofs.YteehaobohaecmaaGreatDoor
namespace Go.Proofs.YteehaobohaecmaaGreatDoor
open Go
abbrev cFm (f:Fm):List V:=[iV f.op,iV f.arg,.sl (f.kids.map cF)]
structure Tri where
  ia:List (List UInt8)
  oa:List (List UInt8)
  f:Fm
  s:List UInt8
end Go.Proofs.YteehaobohaecmaaGreatDoor
namespace Go.Proofs.YteehaobohaecmaaGreatDoor
open Go Go.Proofs Go.Proofs.YteehaobohaecmaaGreatDoor
theorem aQ5 : Tryz.prog.globalNamed "internal/strconv.uint64pow10" = some 0 := by kernel_rfl
theorem aHz (os:Os) (args:Array Value):laidMetH Tryz.prog Rows.monitorSimplifiesRow.laid ((World.doorLaid Tryz.prog 400 os).forCall (fun _ _=>0) ⟨#[],args,[]⟩).memory:=
  laidMetH_of_parts3 (fuel:=8) (laidMet_of_run' 8 (by kernel_rfl) (by kernel_rfl)) (by kernel_rfl) (by kernel_rfl)
theorem aBt {W:World} (h:laidMetH Tryz.prog Rows.monitorSimplifiesRow.laid W):aKc W (fun b=>b < W.heap.size):=by
  have h2 := laidMetH.filter (fun x => x.1 == "internal/strconv.uint64pow10") h
  rw [show Rows.monitorSimplifiesRow.laid.filter (fun x => x.1 == "internal/strconv.uint64pow10") = [("internal/strconv.uint64pow10", Lib.tabData .u64 Lib.pow10Tab)] from by kernel_rfl] at h2
  rw [MakeChecks.laidMetH_plain _ _ _ (by kernel_rfl)] at h2
  have h3 : Lib.TabIs Tryz.prog W "internal/strconv.uint64pow10" .u64 Lib.pow10Tab := Lib.tabIs_of_head (n := 20) aQ5 (show (Tryz.prog.globals[0]?).map (·.type) = some 195 from by kernel_rfl) Tryz.underlying195 Tryz.underlying177 (by kernel_rfl) (by kernel_rfl) h2
  unfold Lib.TabIs World.var? at h3
  rw [aQ5] at h3
  simp only [Option.bind_some] at h3
  intro p hp
  rw [show p=(0,aPN) from by simpa [aKZ] using hp]
  revert h3
  cases hq:W.heap[0]? with
  |none=>intro h3; cases h3
  | some o =>
    cases o with
    | cells cs ty m =>
      intro h3
      injection h3 with h3
      refine ⟨?_,ty,m,by rw [h3]; rfl⟩
      obtain ⟨hlt,_⟩:=Array.getElem?_eq_some_iff.1 hq
      exact hlt
    |_=>intro h3; cases h3
end Go.Proofs.YteehaobohaecmaaGreatDoor
namespace Go.Proofs.YteehaobohaecmaaGreatDoor
open Go Go.Proofs Go.Proofs.YteehaobohaecmaaGreatDoor Go.ChangeShapes Go.WideShapes Go.ChangeAt Go.RowKit
structure UT (P:Program):Prop where
  u3:P.underlying 3=some (.int .i64)
  u40:P.underlying 40=some (.slice 52)
  u52:P.underlying 52=some (.slice 3)
  u50: ∃ f0 f1 f2 f3:Field,P.underlying 50=some (.struct #[f0,f1,f2,f3])∧f0.type=3∧f1.type=3∧f2.type=40∧f3.type=40
  u22:P.underlying 22=some (.slice 24)
  u24: ∃ f0 f1 f2:Field,P.underlying 24=some (.struct #[f0,f1,f2])∧f0.type=3∧f1.type=3∧f2.type=22
theorem sh3 {P:Program} (U:UT P): ∀ (n:Nat) (vs:List V),Shp P n 3 vs→ ∃ a:Int,vs=cI a:=fun _ _ h=>aLG U.u3 h
theorem aSb {P:Program} (U:UT P): ∀ (n:Nat) (vs:List V),Shp P n 52 vs→ ∃ a:(List Int),vs=cL a:=fun _ _ h=>aAp (f:=cI) U.u52 (sh3 U) h
theorem aOU {P:Program} (U:UT P): ∀ (n:Nat) (vs:List V),Shp P n 40 vs→ ∃ a:(List (List Int)),vs=(fun l=>[V.sl (List.map cL l)]) a:=fun _ _ h=>aAp (f:=cL) U.u40 (aSb U) h
theorem aSe {P:Program} (U:UT P): ∀ (n:Nat) (vs:List V),Shp P n 50 vs→ ∃ a:M,vs=mC a:=by
  intro n
  induction n using Nat.strongRecOn with
  | ind n ih =>
    intro vs h
    obtain ⟨f0,f1,f2,f3,hu,k0,k1,k2,k3⟩:=U.u50
    obtain ⟨m,hm,h0⟩:=aDd hu h
    obtain ⟨x0,u0,e0,h1⟩:=iY (c:=cI) (fun vs h=>sh3 U m vs (by rw [k0] at h; exact h)) h0
    obtain ⟨x1,u1,e1,h2⟩:=iY (c:=cI) (fun vs h=>sh3 U m vs (by rw [k1] at h; exact h)) h1
    obtain ⟨x2,u2,e2,h3⟩:=iY (c:=(fun l=>[V.sl (List.map cL l)])) (fun vs h=>aOU U m vs (by rw [k2] at h; exact h)) h2
    obtain ⟨x3,u3,e3,h4⟩:=iY (c:=(fun l=>[V.sl (List.map cL l)])) (fun vs h=>aOU U m vs (by rw [k3] at h; exact h)) h3
    have e4:=aCK h4
    exact ⟨⟨x0,x1,x2,x3⟩,by rw [e0,e1,e2,e3,e4]; rfl⟩
theorem aSg {P:Program} (U:UT P): ∀ (n:Nat) (vs:List V),Shp P n 24 vs→ ∃ a:Fm,vs=cF a:=by
  intro n
  induction n using Nat.strongRecOn with
  | ind n ih =>
    intro vs h
    obtain ⟨f0,f1,f2,hu,k0,k1,k2⟩:=U.u24
    obtain ⟨m,hm,h0⟩:=aDd hu h
    obtain ⟨x0,u0,e0,h1⟩:=iY (c:=cI) (fun vs h=>sh3 U m vs (by rw [k0] at h; exact h)) h0
    obtain ⟨x1,u1,e1,h2⟩:=iY (c:=cI) (fun vs h=>sh3 U m vs (by rw [k1] at h; exact h)) h1
    obtain ⟨x2,u2,e2,h3⟩:=iY (c:=fun l:List Fm=>[V.sl (List.map cF l)]) (fun vs h=>aHW (N:=n) (n:=m) U.u22 ih (by omega) (by rw [k2] at h; exact h)) h2
    have e3:=aCK h3
    exact ⟨(Fm.nd x0 x1 x2),by rw [e0,e1,e2,e3,bX]; rfl⟩
theorem ut:UT Tryz.prog:=⟨by kernel_rfl,by kernel_rfl,by kernel_rfl,⟨_,_,_,_,Tryz.underlying50,rfl,rfl,rfl,rfl⟩,by kernel_rfl,⟨_,_,_,Tryz.underlying24,rfl,rfl,rfl⟩⟩
theorem aP7 {P:Program} (U:UT P) {us:List V} (h:aDt P [50,24,40] us): ∃ (d0:M) (d1:Fm) (d2:(List (List Int))),us=[V.agg (mC d0),V.agg (cFm d1),V.sl (List.map cL d2)]:=by
  obtain ⟨n0,a0,b0,e0,h0,h⟩:=sZ h
  obtain ⟨d0,g0⟩:=aSe U n0 a0 h0
  have q0:mV P 50 a0=V.agg (mC d0):=by obtain ⟨_,_,_,_,hu,_⟩:=U.u50; rw [g0]; exact uX hu _
  obtain ⟨n1,a1,b1,e1,h1,h⟩:=sZ h
  obtain ⟨d1,g1⟩:=aSg U n1 a1 h1
  have q1:mV P 24 a1=V.agg (cFm d1):=by obtain ⟨_,_,_,hu,_⟩:=U.u24; rw [g1,bX]; exact uX hu _
  obtain ⟨n2,a2,b2,e2,h2,h⟩:=sZ h
  obtain ⟨d2,g2⟩:=aOU U n2 a2 h2
  have q2:mV P 40 a2=V.sl (List.map cL d2):=by rw [g2]; exact aDK (fun fs h=>by rw [U.u40] at h; cases h) (fun m e h=>by rw [U.u40] at h; cases h)
  have e3:=aJR h
  exact ⟨d0,d1,d2,by rw [e0,q0,e1,q1,e2,q2,e3]⟩
theorem aR4:ownKnob Tryz.prog.godebug=none:=by kernel_rfl
theorem aSq: ∀ t∈[3,22,24,40,50,52],okS Tryz.prog [3,22,24,40,50,52] t=true:=by
  intro t ht
  simp only [List.mem_cons,List.not_mem_nil,or_false] at ht
  rcases ht with rfl|rfl|rfl|rfl|rfl|rfl
  · kernel_rfl
  · kernel_rfl
  · kernel_rfl
  · kernel_rfl
  · kernel_rfl
  · kernel_rfl
set_option maxRecDepth 100000 in
theorem aLC (os:Os) (started:os.Started) (H:Type) (enc:TypeId×Value→H):
    ReturnsInHanded {} Tryz.checked os 8 .any (fun w args=>(Rows.verifyShortestSpec.pre enc Tryz.prog Tryz.f8 [] false w args∧laidMetH Tryz.prog Rows.verifyShortestRow.laid w)∧sizedMet enc Tryz.prog Tryz.f8 (OpenSpec.ofChange Rows.verifyShortestSpec) false w args)
      (Rows.verifyShortestSpec.post enc Tryz.prog Tryz.f8 false true false false):=by
  refine returnsInHanded_of_change_and (C:=Tryz.checked) (X:=fun w _=>laidMetH Tryz.prog Rows.verifyShortestRow.laid w) (fun _ _ _ hh h=>h.of_heap hh) aR4 started (by kernel_rfl) Tryz.func8
    (ChangeSpec.witness_shaped (enc:=enc) (C:=Tryz.checked) (os:=os) (X:=fun w _=>laidMetH Tryz.prog Rows.verifyShortestRow.laid w) false (World.doorLaid Tryz.prog 400 os) #[.agg #[.int .i64 0,.int .i64 0,.slice none 0 0,.slice none 0 0],.agg #[.int .i64 0,.int .i64 0,.slice none 0 0],.slice none 0 0] 8 rfl (World.shaped_of_RefB (by kernel_rfl) (by kernel_rfl)) (by kernel_rfl) (by kernel_rfl) (by kernel_rfl) (aHz os _)) ?_
  intro W base args ds gs before hval0 hW _ _ hL _
  refine aGC (S:=[3,22,24,40,50,52]) (tb:=4) (by kernel_rfl) (by kernel_rfl) (by kernel_rfl) aSq (fun t ht=>?_) rfl ?_ (fun us hu=>?_) hval0 hW (aBt hL)
  · have h:t∈[50,24,40]:=ht
    simp only [List.mem_cons,List.not_mem_nil,or_false] at h
    rcases h with rfl|rfl|rfl
    · exact ⟨of_decide_eq_true (by kernel_rfl),by kernel_rfl,of_decide_eq_true (by kernel_rfl)⟩
    · exact ⟨of_decide_eq_true (by kernel_rfl),by kernel_rfl,of_decide_eq_true (by kernel_rfl)⟩
    · exact ⟨of_decide_eq_true (by kernel_rfl),by kernel_rfl,of_decide_eq_true (by kernel_rfl)⟩
  · obtain ⟨p,q,hA,hV,rfl,hfz,hnd⟩:=hW
    obtain ⟨rfl,rfl⟩:=trodVars_none hV
    change DataW.TrodAll enc Tryz.prog W 0 (fun _=>true) true [50,24,40] args.toList ds p at hA
    obtain ⟨v0,vs0,y0,ds0,pa0,pb0,hv0,rfl,rfl,_,hA⟩:=trodAll_cons hA
    obtain ⟨v1,vs1,y1,ds1,pa1,pb1,hv1,rfl,rfl,_,hA⟩:=trodAll_cons hA
    obtain ⟨v2,vs2,y2,ds2,pa2,pb2,hv2,rfl,rfl,_,hA⟩:=trodAll_cons hA
    obtain ⟨_,rfl,rfl⟩:=trodAll_nil hA
    rfl
  · obtain ⟨d0,d1,d2,rfl⟩:=aP7 ut hu
    exact aGv d0 d1 d2
theorem aSa:Rows.VerifyShortestSaid:=
  OpenClaim.holds_of_wide 8 Tryz.f8 rfl rfl rfl rfl rfl rfl rfl ⟨rfl,rfl,rfl,rfl,rfl⟩ rfl rfl rfl rfl rfl (by kernel_rfl) Tryz.func8 (by kernel_rfl)
    (of_decide_eq_true (by kernel_rfl)) (by unfold Func.isWrapper; first|(rw [if_pos (by decide+kernel)]; kernel_rfl)|(rw [if_neg (by decide+kernel)]; exact ⟨rfl,rfl⟩))
    (fun os started H enc _=>aLC os started H enc)
theorem proved8 : Rows.VerifyShortestCardSaid :=
  Claim7.holds_tied_plain_at .later [] [.data, .data, .data] true (true, "98a18010de341d32116933fdf51a3dd8a8f2b57aa54f69519e37bffcb02f6549") false
    aSa (fun _ h=>by cases h) (by kernel_rfl) (fun _ h=>by cases h) verifyShortest_row_tie rfl ⟨rfl,rfl⟩ (by kernel_rfl) rfl
    (fun f fn hf hfn=>by
      obtain rfl : f = 8 := Option.some.inj ((show Tryz.prog.funcNamed "learner/learnerlaw47.VerifyShortest" = some 8 by kernel_rfl).symm.trans hf) |>.symm
      obtain rfl:fn=Tryz.f8:=(Option.some.inj (Tryz.func8.symm.trans hfn)).symm
      exact ⟨by kernel_rfl,fun j t ht=>by
        rw [Tryz.params8] at ht
        have hm:t∈[50,24,40]:=by simpa using Array.mem_of_getElem? ht
        have hall:([50,24,40].all fun u=> !Tryz.prog.wantsStandIn u)=true:=by kernel_rfl
        exact (show Tryz.prog.wantsStandIn t=false by simpa using List.all_eq_true.1 hall t hm)⟩)
    (by kernel_rfl)
end Go.Proofs.YteehaobohaecmaaGreatDoor
