/- Contracts of the functions that the law VS reaches, and the law itself, for every input; no condition. -/
import Derived.Lib.ItoaNum
import Derived.KernelRfl
import Derived.Test.YteehaobohaecmaaGreatDoorProg
import Derived.Shelf.SlSortCmp.KitK
import Derived.Shelf.SlSortCmp.NoneTotal
import Derived.Shelf.Spec.SlicesGrow
import Derived.Test.YteehaobohaecmaaGreatDoorVS1
set_option linter.unusedSimpArgs false
set_option linter.unusedVariables false
namespace Go.Proofs.YteehaobohaecmaaGreatDoor
open Go
instance:DecidableEq Fm:=fun a b=>decidable_of_iff (fU a b=true) (fY a b)
def dfK (L:List Fm):Nat→List Fm
  |0=>[]
  |j+1=>if j=0∨nth L j≠nth L (j - 1) then dfK L j++[nth L j] else dfK L j
def dfL (L:List Fm) (j:Nat):List Fm:=dfK L j++L.drop (dfK L j).length
theorem aEn (L:List Fm): ∀ j,(dfK L j).length≤j
  |0=>Nat.le_refl _
  | j + 1 => by
    have:=aEn L j
    simp only [dfK]; split <;> simp <;> omega
theorem aKF {L:List Fm} {j:Nat} (h:j≤L.length):(dfL L j).length=L.length:=by
  have:=aEn L j
  unfold dfL; rw [List.length_append,List.length_drop]; omega
theorem aE4 {L:List Fm} {j k:Nat} (h:(dfK L j).length≤k):nth (dfL L j) k=nth L k:=by
  unfold dfL
  have e:nth (dfK L j++L.drop (dfK L j).length) ((dfK L j).length+(k - (dfK L j).length))=nth (L.drop (dfK L j).length) (k - (dfK L j).length):=aGr
  rw [aF7] at e
  rw [show (dfK L j).length+(k - (dfK L j).length)=k by omega] at e
  exact e
theorem jH {L:List Fm} {j:Nat} (h:j=0∨nth L j≠nth L (j - 1)):dfK L (j+1)=dfK L j++[nth L j]:=if_pos h
theorem kH {L:List Fm} {j:Nat} (h: ¬(j=0∨nth L j≠nth L (j - 1))):dfK L (j+1)=dfK L j:=if_neg h
theorem aI7 {L:List Fm} {j:Nat} (h: ¬(j=0∨nth L j≠nth L (j - 1))):dfL L (j+1)=dfL L j:=by unfold dfL; rw [kH h]
theorem aIz {L:List Fm} {j:Nat} (hj:j < L.length) (h:j=0∨nth L j≠nth L (j - 1)):(dfL L j).set (dfK L j).length (nth L j)=dfL L (j+1):=by
  have:=aEn L j
  unfold dfL
  rw [jH h,aBJ (by omega)]
  simp
theorem aBL {L:List Fm}: ∀ {j:Nat},j≤L.length→(∀ i,1≤i→i < j→nth L i≠nth L (i - 1))→dfK L j=L.take j
  |0,_,_=>by simp [dfK]
  | j + 1, hj, h => by
    rw [jH (by by_cases e:j=0; exact .inl e; exact .inr (h j (by omega) (by omega))),aBL (by omega) fun i h1 h2=>h i h1 (by omega),bZ (by omega)]
theorem aA3 {L : List Fm} : ∀ {j : Nat}, j ≤ L.length → ∀ u, u ∈ dfK L j ↔ u ∈ L.take j
  |0,_,u=>by simp [dfK]
  | j + 1, hj, u => by
    have ih:=aA3 (L:=L) (j:=j) (by omega) u
    rw [bZ (by omega),List.mem_append,List.mem_singleton]
    by_cases h:j=0∨nth L j≠nth L (j - 1)
    · rw [jH h,List.mem_append,List.mem_singleton,ih]
    · rw [kH h,ih]
      refine ⟨.inl,fun q=>q.elim id fun e=>?_⟩
      have e2:nth L j=nth L (j - 1):=by
        by_cases e3:nth L j=nth L (j - 1)
        · exact e3
        · exact (h (.inr e3)).elim
      have:nth (L.take j) (j - 1)=u:=by rw [aDi (by omega),← e2,e]
      rw [← this]
      exact cG (by rw [List.length_take]; omega)
theorem aHt {l:List Fm} (h: ∀ i,1≤i→i < l.length→nth l i≠nth l (i - 1)):dfK l l.length=l:=by
  rw [aBL (Nat.le_refl _) h,List.take_length]
theorem aJm {l:List Fm} {k:Nat} (h1:1≤k) (hk:k < l.length) (h: ∀ i,1≤i→i < k→nth l i≠nth l (i - 1)) (he:nth l k=nth l (k - 1)):(dfK l (k+1)).length=k∧dfL l (k+1)=l:=by
  have e1:dfK l (k+1)=l.take k:=by
    rw [kH (by rintro (q|q); omega; exact q he),aBL (by omega) h]
  have e2:(l.take k).length=k:=by simp; omega
  refine ⟨by rw [e1,e2],?_⟩
  unfold dfL; rw [e1,e2,List.take_append_drop]
theorem aIr {l:List Fm}: ∀ {j:Nat},0 < j→0 < (dfK l j).length
  |1,_=>by rw [show (1:Nat)=0+1 from rfl,jH (.inl rfl)]; simp
  | j + 2, _ => by
    have:=aIr (l:=l) (j:=j+1) (by omega)
    simp only [dfK] at this ⊢
    split
    · rw [List.length_append]; omega
    · exact this
theorem aQa {l:List Fm} {k j:Nat} (h:(dfK l (k+j)).length < k+j) (hj:1≤j):
    nth (dfL l (k+j)) (0+k+j)=nth l (k+j)∧nth (dfL l (k+j)) (0+k+(((j:Nat):Int) - (1:Int)).toNat)=nth l (k+j - 1):=by
  refine ⟨(aE4 (by omega)).trans (by congr 1; omega),(aE4 (by omega)).trans (by congr 1; omega)⟩
theorem aK0 {l:List Fm} {j:Nat} (h:l.length≤j) (hj:j≤l.length):(dfL l j).take (dfK l j).length=dfK l l.length:=by
  have:j=l.length:=by omega
  subst this
  unfold dfL; rw [List.take_left]
theorem lA {f g:Fm} (h1: ¬bU f g < 0) (h2: ¬bU g f < 0):f=g:=by
  have:=lR f g
  exact kG f g (by omega)
theorem aFr {L : List Fm} (hs : L.Pairwise fun a b => ¬bU b a < 0) : ∀ {j : Nat}, j ≤ L.length → gU (dfK L j)
  |0,_=>List.Pairwise.nil
  | j + 1, hj => by
    have ih:=aFr hs (j:=j) (by omega)
    by_cases h:j=0∨nth L j≠nth L (j - 1)
    · rw [jH h]
      show List.Pairwise _ _
      rw [List.pairwise_append]
      refine ⟨ih,by simp,fun a ha b hb=>?_⟩
      rw [List.mem_singleton.1 hb]
      have ha':=(aA3 (L:=L) (by omega) a).1 ha
      obtain ⟨i,hi,rfl⟩:=dJ ha'
      rw [List.length_take] at hi
      rw [aDi (by omega)]
      have le: ∀ p q,p < q→q < L.length→ ¬bU (nth L q) (nth L p) < 0:=fun p q h1 h2=>by
        have:=(List.pairwise_iff_getElem.1 hs) p q (by omega) h2 h1
        rwa [bA,bA] at this
      have h1:=le i j (by omega) (by omega)
      by_cases e:bU (nth L i) (nth L j) < 0
      · exact e
      · exfalso
        have heq:nth L i=nth L j:=lA e h1
        have h2:=le (j - 1) j (by omega) (by omega)
        have h4:nth L j=nth L (j - 1):=by
          by_cases ei:i=j - 1
          · rw [← heq,ei]
          · have h3:=le i (j - 1) (by omega) (by omega)
            rw [heq] at h3
            exact lA h2 h3
        rcases h with h|h
        · omega
        · exact h h4
    · rw [kH h]; exact ih
theorem aN0 {c d:Cl} (hc:gU c):dfK (srt bU (c++d)) (srt bU (c++d)).length=unF c d:=by
  refine tA (aFr (kK rC _) (Nat.le_refl _)) (rV hc) fun x=>?_
  rw [aA3 (Nat.le_refl _),List.take_length,(iF bU _).mem_iff,List.mem_append,pA]
def dR (l:List Cl):Cl:=l.flatten
theorem oT {l:List Cl} {k:Nat} (h:k < l.length):dR (l.take (k+1))=dR (l.take k)++nth l k:=by
  unfold dR; rw [bZ h,List.flatten_append]; simp
theorem aFX {l:List Cl} {k:Nat} (h:k < l.length):(dR (l.take k)).length+(nth l k).length≤(dR l).length:=by
  have e:dR l=dR (l.take (k+1))++dR (l.drop (k+1)):=by unfold dR; rw [← List.flatten_append,List.take_append_drop]
  rw [e,oT h]; simp
theorem aFe (c d:Cl):dR [c,d]=c++d:=by simp [dR]
end Go.Proofs.YteehaobohaecmaaGreatDoor
namespace Go.Proofs.YteehaobohaecmaaGreatDoor
open Go
abbrev gI (n:Nat) (s:List Cl):Prop:= ∀ c∈s,c.length≤n
theorem gI.at_ {n:Nat} {s:List Cl} (h:gI n s) {k:Nat} (hk:k < s.length):(nth s k).length≤n:=h _ (cG hk)
theorem aKb {n:Nat} {out:List Cl} {c:Cl} {b:List Cl} (ho:gI n out) (hb: ∀ e∈b,c.length+e.length≤n):gI n (prC out c b):=fun d hd=>by
  rcases lN hd with h|h
  · exact ho d h
  · obtain ⟨e,he,rfl⟩:=List.mem_map.1 h
    exact Nat.le_trans (vU e c) (hb e he)
theorem xM {n:Nat} {a b:List Cl} (h: ∀ c∈a,∀ e∈b,c.length+e.length≤n):gI n (prd a b):=fun d hd=>by
  obtain ⟨c,hc,e,he,rfl⟩:=aFZ hd
  exact Nat.le_trans (vU e c) (h c hc e he)
theorem aKP (a b:List Cl):(prd a b).length≤a.length*b.length:=by
  have h:(zN [] a b).length≤_:=xG b a []
  rw [List.length_nil,Nat.zero_add] at h
  exact h
theorem aKh {a b:List Cl} {k:Nat} (na:a.length≤64) (nb:b.length≤65536) (hk:k≤a.length):(prd (a.take k) b).length≤4194304:=by
  have h1:=aKP (a.take k) b
  have h2:(a.take k).length≤64:=by rw [List.length_take]; omega
  exact Nat.le_trans h1 (Nat.le_trans (Nat.mul_le_mul h2 nb) (by decide))
theorem aJw {a b:List Cl} (ha: ∀ k,k < a.length→gU (nth a k)) (k:Nat):Ant (prd (a.take k) b):=xD Ant.nil fun c hc=>by
  obtain ⟨i,hi,rfl⟩:=dJ (List.mem_of_mem_take hc)
  exact ha i hi
theorem aGF {n m:Nat} {a b:List Cl} (la: ∀ k,k < a.length→(nth a k).length≤n) (lb: ∀ k,k < b.length→(nth b k).length≤m) (k:Nat):gI (n+m) (prd (a.take k) b):=xM fun c hc e he=>by
  obtain ⟨i,hi,rfl⟩:=dJ (List.mem_of_mem_take hc)
  obtain ⟨j,hj,rfl⟩:=dJ he
  have:=la i hi; have:=lb j hj
  omega
theorem aGw {n m:Nat} {out:List Cl} {c:Cl} {b:List Cl} (ho:gI (n+m) out) (hc:c.length≤n) (lb: ∀ k,k < b.length→(nth b k).length≤m) (j:Nat):gI (n+m) (prC out c (b.take j)):=aKb ho fun e he=>by
  obtain ⟨i,hi,rfl⟩:=dJ (List.mem_of_mem_take he)
  have:=lb i hi
  omega
end Go.Proofs.YteehaobohaecmaaGreatDoor
namespace Go.Proofs.YteehaobohaecmaaGreatDoor
open Go
theorem gI.mono {n m:Nat} {s:List Cl} (h:gI n s) (hm:n≤m):gI m s:=fun c hc=>Nat.le_trans (h c hc) hm
theorem aCn: ∀ {l:List Fm} {n:Nat} {out s:List Cl},(∀ k,k < l.length→ ∀ t,cls (nth l k)=some t→gI n t)→gI n out→djL l out=some s→gI n s
  | [], n, out, s, _, h1, h => by
    rw [djL] at h
    split at h
    · cases h
    · cases h; exact h1
  | f :: l, n, out, s, hk, h1, h => by
    rw [djL] at h
    cases q:cls f with
    |none=>rw [q] at h; cases h
    | some t =>
      rw [q] at h
      refine aCn (fun k hl t ht=>hk (k+1) (by simpa using hl) t ht) (fun c hc=>?_) h
      rcases lN hc with h2|h2
      · exact h1 c h2
      · exact hk 0 (by simp) t q c h2
theorem aBT : ∀ {l : List Fm} {n : Nat} {out s : List Cl}, (∀ k, k < l.length → ∀ t, cls (nth l k) = some t → gI (nth l k).sz t) → gI n out → cjL l out = some s → gI (n + Fm.szs l) s
  |[],n,out,s,_,h1,h=>by rw [cjL] at h; cases h; exact h1.mono (Nat.le_add_right _ _)
  | f :: l, n, out, s, hk, h1, h => by
    rw [cjL] at h
    cases q:cls f with
    |none=>rw [q] at h; cases h
    | some t =>
      rw [q] at h
      simp only at h
      split at h
      · cases h
      · have h0:gI f.sz t:=hk 0 (by simp) t q
        have h2:gI (n+f.sz) (prd out t):=xM fun c hc e he=>by
          have:=h1 c hc; have:=h0 e he; omega
        have:=aBT (fun k hl t ht=>hk (k+1) (by simpa using hl) t ht) h2 h
        rw [Fm.szs]
        exact this.mono (by omega)
theorem Fm.sz_eq (f:Fm):f.sz=Fm.szs f.kids+1:=by cases f; rfl
theorem Fm.sz_pos (f:Fm):1≤f.sz:=by rw [Fm.sz_eq]; omega
theorem wM {n:Nat} {x:Fm} (h:1≤n):gI n [[x]]:=fun c hc=>by rw [List.mem_singleton.1 hc]; exact h
theorem yU (f:Fm): ∀ s,cls f=some s→gI f.sz s:=by
  refine fH (p:=fun f=> ∀ s,cls f=some s→gI f.sz s) (fun f ih s h=>?_) f
  have hp:=f.sz_pos
  rw [nD] at h
  split at h
  · cases h; exact fun c hc=>by rw [List.mem_singleton.1 hc]; exact Nat.zero_le _
  split at h
  · split at h
    · cases h; exact fun c hc=>absurd hc List.not_mem_nil
    · cases h; exact wM hp
  split at h
  · cases h; exact wM hp
  split at h
  · exact aCn (fun k hk t ht=>(ih k hk t ht).mono (Nat.le_of_lt (Fm.sz_kid hk))) (fun c hc=>absurd hc List.not_mem_nil) h
  split at h
  · have:=aBT (n:=0) (fun k hk t ht=>ih k hk t ht) (fun c hc=>by rw [List.mem_singleton.1 hc]; exact Nat.le_refl 0) h
    rw [Fm.sz_eq]
    exact this.mono (by omega)
  · split at h
    · cases h
    · cases h; exact wM hp
theorem aHr (a o:Int) (l:List Fm) (h: ∀ k,k < l.length→(mst (nth l k) a o).sz≤(nth l k).sz*(nth l k).sz*4):Fm.szs (l.map fun f=>mst f a o)≤Fm.szs l*Fm.szs l*4:=by
  induction l with
  |nil=>exact Nat.le_refl _
  | cons f l ih =>
    have h0:(mst f a o).sz≤f.sz*f.sz*4:=h 0 (by simp)
    have h1:=ih fun k hk=>h (k+1) (by simpa using hk)
    simp only [List.map_cons,Fm.szs]
    have:(f.sz+Fm.szs l)*(f.sz+Fm.szs l)*4=f.sz*f.sz*4+Fm.szs l*Fm.szs l*4+f.sz*Fm.szs l*8:=by
      rw [Nat.add_mul,Nat.mul_add,Nat.mul_add,Nat.mul_comm (Fm.szs l) f.sz]; omega
    omega
theorem aRZ {a b:Nat} (h:a≤b):a*a≤b*b:=Nat.mul_le_mul h h
theorem aPC (f:Fm) (a o:Int):okF f=true→(mst f a o).sz≤f.sz*f.sz*4:=by
  refine fH (p:=fun f=>okF f=true→(mst f a o).sz≤f.sz*f.sz*4) (fun f ih hf=>?_) f
  obtain ⟨hr,hk⟩:=bJ hf
  obtain ⟨r1,r2,r3,r4,r5,r6,r7,r8,r9⟩:=cP hr
  have hp:=f.sz_pos
  have hq:f.sz≤f.sz*f.sz:=Nat.le_mul_of_pos_left _ hp
  have ht: ∀ b,(trF b).sz≤f.sz*f.sz*4:=fun b=>by
    have:(trF b).sz≤2:=by cases b <;> decide
    omega
  have K: ∀ k,k < f.kids.length→(mst (nth f.kids k) a o).sz≤(nth f.kids k).sz*(nth f.kids k).sz*4:=fun k h=>ih k h (hk k h)
  have two:f.kids.length=2→(mst (nth f.kids 1) a o).sz+(mst (nth f.kids 0) a o).sz+f.sz+2≤f.sz*f.sz*4:=fun h2=>by
    have k0:=K 0 (by omega)
    have k1:=K 1 (by omega)
    have e:f.sz=(nth f.kids 0).sz+(nth f.kids 1).sz+1:=by
      rw [Fm.sz_eq]
      match f.kids,h2 with
      |[x,y],_=>simp [Fm.szs,aJM,xP]
    have p0:=(nth f.kids 0).sz_pos
    have p1:=(nth f.kids 1).sz_pos
    rw [e]
    generalize (nth f.kids 0).sz=u at*
    generalize (nth f.kids 1).sz=v at*
    have:(u+v+1)*(u+v+1)*4=u*u*4+v*v*4+u*v*8+u*8+v*8+4:=by
      simp only [Nat.add_mul,Nat.mul_add,Nat.mul_one,Nat.one_mul]
      rw [Nat.mul_comm v u]; omega
    omega
  by_cases h2:f.op=2
  · rw [zA h2]; exact ht _
  by_cases h3:f.op=3
  · rw [wP h3]; exact ht _
  by_cases h4:f.op=4
  · rw [yL h4]; exact ht _
  by_cases h79:f.op=7∨f.op=9
  · rw [kN h79]
    have:=Fm.sz_kid (f:=f) (k:=0) (by have:=r4 (by omega); omega)
    omega
  by_cases h8:f.op=8
  · rw [zD h8 (r6 (.inl h8))]
    have:=two (r6 (.inl h8))
    simp only [Fm.sz,Fm.szs]; omega
  by_cases h10:f.op=10
  · rw [pP h10 (r6 (.inr h10))]
    have:=two (r6 (.inr h10))
    simp only [Fm.sz,Fm.szs]; omega
  rw [uI (by omega)]
  have h:=aHr a o f.kids K
  have e:=f.sz_eq
  simp only [Fm.sz]
  rw [e]
  generalize Fm.szs f.kids=u at*
  have:(u+1)*(u+1)*4=u*u*4+u*8+4:=by
    simp only [Nat.add_mul,Nat.mul_add,Nat.mul_one,Nat.one_mul]; omega
  omega
end Go.Proofs.YteehaobohaecmaaGreatDoor
namespace Go.Proofs.YteehaobohaecmaaGreatDoor
open Go
theorem aMG {α:Type} {o:Option α} (h: ¬gC o≠0): ∃ s,o=some s:=by
  cases o with
  |none=>exact (h (show (11:Int)≠0 by decide)).elim
  |some s=>exact ⟨s,rfl⟩
theorem jL {α:Type} {o:Option α} (h:gC o≠0):o=none:=by
  cases o with
  |none=>rfl
  |some s=>exact (h rfl).elim
theorem jQ {o:Option (List Cl)} (h: ¬gC o≠0):o=some (bR o):=by
  obtain ⟨s,rfl⟩:=aMG h; rfl
theorem aGo {out z:List Cl} {j:Nat} (h:j < z.length):wths out (z.take (j+1))=wth (wths out (z.take j)) (nth z j):=by
  rw [bZ h,aB9]; rfl
theorem aAB (out z:List Cl) (j:Nat):(wths out (z.take j)).length≤out.length+z.length:=by
  have:=oA (z.take j) out
  rw [List.length_take] at this
  omega
theorem aAG {out z:List Cl} (ho:Ant out) (hz:Ant z) (j:Nat):Ant (wths out (z.take j)):=nV ho fun c hc=>hz.srt c (List.mem_of_mem_take hc)
theorem wO {n:Nat} {out z:List Cl} (ho:gI n out) (hz:gI n z) (j:Nat):gI n (wths out (z.take j)):=fun c hc=>by
  rcases lN hc with h|h
  · exact ho c h
  · exact hz c (List.mem_of_mem_take h)
theorem aIW {l:List Fm} {k:Nat} (hk:k < l.length) (hok:okF (nth l k)=true) (h: ¬gC (cls (nth l k))≠0):GdS (bR (cls (nth l k)))∧gI (Fm.szs l) (bR (cls (nth l k)))∧gI (nth l k).sz (bR (cls (nth l k))):=
  ⟨lM _ hok _ (jQ h),(yU _ _ (jQ h)).mono (Fm.szs_nth hk),yU _ _ (jQ h)⟩
theorem aKC {n:Nat} (h:(if 64 < n then (11:Int) else 0)≠0):64 < n:=by
  by_cases q:64 < n
  · exact q
  · rw [if_neg q] at h; exact (h rfl).elim
theorem aON {n:Nat} (h: ¬(if 64 < n then (11:Int) else 0)≠0): ¬64 < n:=fun q=>by
  rw [if_pos q] at h; exact h (by decide)
theorem aHo {l:List Fm} {k:Nat} (h:k < l.length):Fm.szs (l.take (k+1))=Fm.szs (l.take k)+(nth l k).sz:=by
  have app: ∀ a b:List Fm,Fm.szs (a++b)=Fm.szs a+Fm.szs b:=fun a b=>by
    induction a with
    |nil=>simp [Fm.szs]
    |cons x a ih=>simp only [List.cons_append,Fm.szs,ih]; omega
  rw [bZ h,app]; simp [Fm.szs]
theorem uL: ∀ (l:List Fm) (k:Nat),Fm.szs (l.take k)≤Fm.szs l
  |[],k=>by simp
  |f::l,0=>by simp [Fm.szs]
  | f :: l, k + 1 => by
    have:=uL l k
    simp only [List.take_succ_cons,Fm.szs]; omega
theorem aKU {out z:List Cl} (ho:GdS out) (hz:GdS z) (h: ¬64 < (prd out z).length):GdS (prd out z):=⟨aEP ho.ant,eD.prd ho.at_ hz.at_,by omega⟩
theorem aKr {l:List Fm} {k:Nat} {out z:List Cl} (hk:k < l.length) (ho:gI (Fm.szs (l.take k)) out) (hz:gI (nth l k).sz z):gI (Fm.szs (l.take (k+1))) (prd out z):=by
  rw [aHo hk]
  exact xM fun c hc e he=>Nat.add_le_add (ho c hc) (hz e he)
end Go.Proofs.YteehaobohaecmaaGreatDoor
namespace Go.Proofs.YteehaobohaecmaaGreatDoor
open Go
section
variable {f:Fm} {s:List Cl} {k:Nat} {c:Cl}
theorem aPL (h:gC (cls f)≠0):can f=none:=by unfold can; rw [jL h]; rfl
theorem aJg (h: ¬gC (cls f)≠0):can f=some (fin (bR (cls f))):=by
  have q:=jQ h
  unfold can; rw [q]; rfl
theorem aP4 (h:s.length=0):fin s=noF:=if_pos h
theorem aRi (hk:k < s.length) (h:(nth s k).length=0):fin s=aDz:=by
  unfold fin
  rw [if_neg (by omega),if_pos (List.any_eq_true.2 ⟨_,cG hk,decide_eq_true h⟩)]
theorem aEX (hn: ∀ i,i < s.length→(nth s i).length≠0): ¬s.any (fun c=>decide (c.length=0))=true:=fun q=>by
  obtain ⟨c,hc,e⟩:=List.any_eq_true.1 q
  obtain ⟨i,hi,rfl⟩:=dJ hc
  exact hn i hi (of_decide_eq_true e)
theorem aQT (hn: ∀ i,i < s.length→(nth s i).length≠0) (h1:s.length=1):fin s=nth (s.map clF) 0:=by
  unfold fin
  rw [if_neg (by omega),if_neg (aEX hn),if_pos h1,eU (by omega)]
theorem aQR (hn: ∀ i,i < s.length→(nth s i).length≠0) (h0:s.length≠0) (h1:s.length≠1):fin s=.nd 6 0 (srt bU (s.map clF)):=by
  unfold fin
  rw [if_neg h0,if_neg (aEX hn),if_neg h1]
theorem aP3 (h:c.length=1):clF c=nth c 0:=if_pos h
theorem aQB (h:c.length≠1):clF c=.nd 5 0 c:=if_neg h
theorem aRC (hk:k < s.length) (h:(nth s k).length=1):(s.take (k+1)).map clF=(s.take k).map clF++[nth (nth s k) 0]:=by
  rw [oE hk,aP3 h]
theorem aQL (hk:k < s.length) (h:(nth s k).length≠1):(s.take (k+1)).map clF=(s.take k).map clF++[.nd 5 0 (nth s k)]:=by
  rw [oE hk,aQB h]
end
theorem aDY {P:Program} {f id ver n m:Nat} {rest:List V} {H:aI} {v:V} {H':aI} (h:dW P f (.ms id ver 0 n::rest) H v H') (e:m=n):dW P f (.ms id ver 0 m::rest) H v H':=e ▸ h
mutual
theorem aAN: ∀ (f:Fm) (b:Bool),(nrm f b).sz≤2*f.sz
  | .nd o a [], b => by
    rw [nrm]
    have h:(Fm.nd o a []).sz=1:=by rw [Fm.sz,Fm.szs]
    split
    · simp [Fm.sz,Fm.szs]
    · split <;> simp [Fm.sz,Fm.szs]
  | .nd o a (f :: l), b => by
    have h1:=aAN f b
    have h2:=aAN f (!b)
    have h3:=aEw l b
    rw [nrm]
    split
    · rw [Fm.sz,Fm.szs]; omega
    · rw [Fm.sz,Fm.szs,Fm.sz,Fm.szs]
      omega
theorem aEw: ∀ (l:List Fm) (b:Bool),Fm.szs (wW l b)≤2*Fm.szs l
  |[],_=>by rw [wW,Fm.szs]; omega
  | f :: l, b => by
    have h1:=aAN f b
    have h2:=aEw l b
    rw [wW,Fm.szs,Fm.szs]; omega
end
section
variable {f:Fm} {a o:Int} {k:Nat} {g:List Fm}
theorem vZ (h: ¬gC (can f)≠0):can f=some (iM (can f)):=by
  obtain ⟨s,e⟩:=aMG h
  rw [e]; rfl
theorem aHs (h:gC (can f)≠0):chk f=(zF,gC (can f)):=by
  rw [aCC (jL h),jL h]; rfl
theorem aJt (h: ¬gC (can f)≠0) (h2:cE (iM (can f))≠0):chk f=(zF,cE (iM (can f))):=aFz (vZ h) h2
theorem aHc (h: ¬gC (can f)≠0) (h2: ¬cE (iM (can f))≠0):chk f=(iM (can f),0):=wN (vZ h) (by omega)
theorem aPl (h:cE f≠0):aM f=(zF,cE f):=if_pos h
theorem aIo (h: ¬cE f≠0):aM f=chk (nrm f false):=if_neg h
theorem aM0 (h:cE f≠0):stM f a o=(zF,cE f):=if_pos h
theorem aMI (h: ¬cE f≠0) (h2:a < 0∨64≤a∨o < 0∨1048576 < o):stM f a o=(zF,2):=by unfold stM; rw [if_neg h,if_pos h2]
theorem aMu (h: ¬cE f≠0) (h2: ¬(a < 0∨64≤a∨o < 0∨1048576 < o)) (h3:(aM f).2≠0):stM f a o=(zF,(aM f).2):=by unfold stM; rw [if_neg h,if_neg h2,if_pos h3]
theorem aNb (h: ¬cE f≠0) (h2: ¬(a < 0∨64≤a∨o < 0∨1048576 < o)) (h3: ¬(aM f).2≠0):stM f a o=chk (mst (aM f).1 a o):=by unfold stM; rw [if_neg h,if_neg h2,if_neg h3]
theorem aCG (h: ¬(aM f).2≠0):cE (aM f).1=0:=by
  unfold aM at h ⊢
  by_cases q:cE f≠0
  · rw [if_pos q] at h; exact absurd q h
  · rw [if_neg q] at h ⊢
    unfold chk at h ⊢
    split
    · rename_i e; rw [e] at h; exact absurd (by decide) h
    · rename_i g e
      rw [e] at h
      simp only at h
      split
      · rename_i q2; rw [if_pos q2] at h; exact absurd q2 h
      · rename_i q2; exact Decidable.of_not_not q2
theorem aKW (ho: ¬(f.op=1∨f.op=2∨f.op=3∨f.op=4∨f.op=5∨f.op=6)) (hc:eL f.kids=(eL (f.kids.drop k)).map fun r=>g++r) (hk:k < f.kids.length) (h:gC (can (nth f.kids k))≠0):cls f=none:=by
  rw [uY ho,hc,aMg hk (jL h)]; rfl
theorem aLW (hc:eL f.kids=(eL (f.kids.drop k)).map fun r=>g++r) (hk:k < f.kids.length) (h: ¬gC (can (nth f.kids k))≠0):eL f.kids=(eL (f.kids.drop (k+1))).map fun r=>(g++[iM (can (nth f.kids k))])++r:=by
  rw [hc,aEW hk (vZ h)]
  cases eL (f.kids.drop (k+1)) <;> simp
theorem aDr (ho: ¬(f.op=1∨f.op=2∨f.op=3∨f.op=4∨f.op=5∨f.op=6)) (hc:eL f.kids=(eL (f.kids.drop k)).map fun r=>g++r) (hk:f.kids.length≤k):cls f=some [[.nd f.op 0 g]]:=by
  rw [uY ho,hc,aJf hk]; simp
theorem aLy (h0: ¬cE f≠0) (h: ¬(aM f).2≠0):okF (aM f).1=true∧nnf (aM f).1=true:=by
  have ho:=aBw f (eN (by omega)) false
  have hn:=aBH f (eN (by omega)) false
  rw [aIo h0] at h ⊢
  by_cases q:gC (can (nrm f false))≠0
  · rw [aHs q] at h; exact absurd q h
  · by_cases q2:cE (iM (can (nrm f false)))≠0
    · rw [aJt q q2] at h; exact absurd q2 h
    · rw [aHc q q2]
      have c:=oO ho hn (vZ q)
      exact ⟨c.ok,c.nn⟩
theorem aKy (ho:okF f=true) (hz:f.sz≤4096):(mst f a o).sz≤268435456:=by
  have h:=aPC f a o ho
  have h2:=aRZ hz
  omega
end
end Go.Proofs.YteehaobohaecmaaGreatDoor
namespace Go.Proofs.YteehaobohaecmaaGreatDoor
open Go Go.Lib
theorem aA5 (u:Nat): ∀ c∈decDigits u,48≤c.toNat∧c.toNat≤57:=by
  induction u using Nat.strongRecOn with
  | _ u ih =>
    intro c hc
    have one: ∀ i,i < 10→ ∀ c,c=UInt8.ofNat (48+i)→48≤c.toNat∧c.toNat≤57:=fun i hi c e=>by
      rw [e,UInt8.toNat_ofNat']; omega
    rw [decDigits] at hc
    split at hc
    · rename_i h
      exact one u h c (by simpa using hc)
    · rename_i h
      rcases List.mem_append.1 hc with h1|h1
      · exact ih (u / 10) (Nat.div_lt_self (by omega) (by omega)) c h1
      · exact one (u % 10) (Nat.mod_lt _ (by omega)) c (by simpa using h1)
theorem aFO (u:Nat):(decDigits u).foldl (fun n c=>n*10+(c.toNat - 48)) 0=u:=by
  induction u using Nat.strongRecOn with
  | _ u ih =>
    have one: ∀ i,i < 10→(UInt8.ofNat (48+i)).toNat - 48=i:=fun i hi=>by
      rw [UInt8.toNat_ofNat']; omega
    rw [decDigits]
    split
    · rename_i h
      simp only [List.foldl_cons,List.foldl_nil,Nat.zero_mul,Nat.zero_add]
      exact one u h
    · rename_i h
      rw [List.foldl_append,ih (u / 10) (Nat.div_lt_self (by omega) (by omega))]
      simp only [List.foldl_cons,List.foldl_nil]
      rw [one (u % 10) (Nat.mod_lt _ (by omega))]
      omega
theorem aEE {u v:Nat} (h:decDigits u=decDigits v):u=v:=by rw [← aFO u,h,aFO]
theorem aOe (u:Nat):decDigits u≠[]:=fun e=>by
  have h:=decDigits_length u
  rw [e] at h
  have:=nDigits_pos u
  simp at h; omega
theorem aIk (n:Int): ∀ c∈itoa n,c.toNat=45∨(48≤c.toNat∧c.toNat≤57):=by
  intro c hc
  unfold itoa at hc
  split at hc
  · rcases List.mem_cons.1 hc with h|h
    · rw [h]; exact .inl rfl
    · exact .inr (aA5 _ c h)
  · exact .inr (aA5 _ c hc)
theorem aC4 {m n:Int} (h:itoa m=itoa n):m=n:=by
  have neg: ∀ a b:Nat,45::decDigits a≠decDigits b:=fun a b e=>by
    have:=aA5 b 45 (by rw [← e]; exact List.mem_cons_self ..)
    have h2:(45:UInt8).toNat=45:=rfl
    omega
  unfold itoa at h
  split at h <;> split at h
  · injection h with _ h
    have:=aEE h; omega
  · exact absurd h (neg _ _)
  · exact absurd h.symm (neg _ _)
  · have:=aEE h; omega
theorem aL7 (n:Int):itoa n≠[]:=by
  unfold itoa
  split
  · simp
  · exact aOe _
theorem aFl: ∀ {k u:Nat},1≤k→u < 10 ^ k→nDigits u≤k
  |0,_,h,_=>absurd h (by omega)
  |1,u,_,h=>by rw [nDigits_small (by simpa using h)]; exact Nat.le_refl _
  | k + 2, u, _, h => by
    by_cases q:u < 10
    · rw [nDigits_small q]; omega
    · rw [nDigits_big q]
      have:=aFl (k:=k+1) (u:=u / 10) (by omega) (Nat.div_lt_of_lt_mul (by rw [Nat.pow_succ] at h; omega))
      omega
theorem qX {n:Int} (h0:0≤n) (h1:n≤1048576):(itoa n).length≤7:=by
  unfold itoa
  rw [if_neg (by omega),decDigits_length]
  exact aFl (by omega) (by omega)
mutual
def kyF:Fm→List UInt8
  | .nd o a l=>itoa o++46::(itoa a++40::(kyL l++[41]))
def kyL:List Fm→List UInt8
  |[]=>[]
  |f::l=>kyF f++kyL l
end
theorem yY (f:Fm):kyF f=itoa f.op++46::(itoa f.arg++40::(kyL f.kids++[41])):=by cases f; rw [kyF]; rfl
theorem aBf: ∀ l m:List Fm,kyL (l++m)=kyL l++kyL m
  |[],_=>rfl
  |f::l,m=>by rw [List.cons_append,kyL,kyL,aBf l m,List.append_assoc]
theorem aIH {l:List Fm} {k:Nat} (h:k < l.length):kyL (l.take (k+1))=kyL (l.take k)++kyF (nth l k):=by
  rw [bZ h,aBf,kyL,kyL,List.append_nil]
theorem aDC {c:UInt8}: ∀ {a b x y:List UInt8},c∉a→c∉b→a++c::x=b++c::y→a=b∧x=y
  |[],[],x,y,_,_,h=>by injection h with _ h; exact ⟨rfl,h⟩
  |[],d::b,x,y,_,hb,h=>by injection h with h _; exact absurd (List.mem_cons.2 (.inl h)) hb
  |d::a,[],x,y,ha,_,h=>by injection h with h _; exact absurd (List.mem_cons.2 (.inl h.symm)) ha
  | d :: a, e :: b, x, y, ha, hb, h => by
    injection h with h1 h2
    obtain ⟨g1,g2⟩:=aDC (fun q=>ha (List.mem_cons_of_mem _ q)) (fun q=>hb (List.mem_cons_of_mem _ q)) h2
    exact ⟨by rw [h1,g1],g2⟩
theorem rT {n:Int} {c:UInt8} (h:c.toNat=46∨c.toNat=40∨c.toNat=41):c∉itoa n:=fun q=>by
  have:=aIk n c q; omega
theorem aHp (f:Fm) (x y:List UInt8):kyF f++x≠41::y:=fun e=>by
  rw [yY,List.append_assoc] at e
  cases q:itoa f.op with
  |nil=>exact aL7 _ q
  | cons c r =>
    rw [q] at e
    injection e with e _
    exact rT (n:=f.op) (c:=41) (.inr (.inr rfl)) (by rw [q,e]; exact List.mem_cons_self ..)
mutual
theorem aEx: ∀ (f g:Fm) (x y:List UInt8),kyF f++x=kyF g++y→f=g∧x=y
  | .nd o a l, .nd p b m, x, y, h => by
    rw [kyF,kyF] at h
    simp only [List.append_assoc,List.cons_append] at h
    obtain ⟨h1,h⟩:=aDC (rT (.inl rfl)) (rT (.inl rfl)) h
    obtain ⟨h2,h⟩:=aDC (rT (.inr (.inl rfl))) (rT (.inr (.inl rfl))) h
    obtain ⟨h3,h⟩:=aEL l m x y (by simpa using h)
    exact ⟨by rw [aC4 h1,aC4 h2,h3],h⟩
theorem aEL: ∀ (l m:List Fm) (x y:List UInt8),kyL l++41::x=kyL m++41::y→l=m∧x=y
  |[],[],x,y,h=>by injection h with _ h; exact ⟨rfl,h⟩
  | [], g :: m, x, y, h => by
    rw [kyL,kyL,List.append_assoc] at h
    exact absurd h.symm (aHp g _ _)
  | f :: l, [], x, y, h => by
    rw [kyL,kyL,List.append_assoc] at h
    exact absurd h (aHp f _ _)
  | f :: l, g :: m, x, y, h => by
    rw [kyL,kyL,List.append_assoc,List.append_assoc] at h
    obtain ⟨h1,h⟩:=aEx f g _ _ h
    obtain ⟨h2,h⟩:=aEL l m x y h
    exact ⟨by rw [h1,h2],h⟩
end
theorem aN6 {f g:Fm} (h:kyF f=kyF g):f=g:=(aEx f g [] [] (by rw [h])).1
theorem aMq {l:List Fm} (h: ∀ k,k < l.length→(kyF (nth l k)).length≤32*(nth l k).sz):(kyL l).length≤32*Fm.szs l:=by
  induction l with
  |nil=>simp [kyL,Fm.szs]
  | cons f l ih =>
    have h1:=h 0 (by simp)
    have h2:=ih fun k hk=>h (k+1) (by simpa using hk)
    rw [kyL,List.length_append,Fm.szs]
    have:nth (f::l) 0=f:=rfl
    rw [this] at h1
    omega
theorem aOj (f:Fm):okF f=true→(kyF f).length≤32*f.sz:=by
  induction hn:f.sz using Nat.strongRecOn generalizing f with
  | _ n ih =>
    intro hok
    subst hn
    have hp:=bJ hok
    have hr:=cP hp.1
    have h1:=aMq (l:=f.kids) fun k hk=>ih _ (Fm.sz_kid hk) _ rfl (hp.2 k hk)
    have h2:=qX (n:=f.op) (by omega) (by omega)
    have h3:=qX (n:=f.arg) (by omega) (by omega)
    have h4:=Fm.sz_eq f
    rw [yY]
    simp only [List.length_append,List.length_cons,List.length_nil]
    omega
theorem aFg {f:Fm} (hok:okF f=true) (hz:f.sz≤4096):(kyF f).length≤131072:=by
  have:=aOj f hok; omega
theorem aB2 (l:List Fm) (k:Nat):(kyL (l.take k)).length≤(kyL l).length:=by
  have h:kyL l=kyL (l.take k)++kyL (l.drop k):=by rw [← aBf,List.take_append_drop]
  rw [h,List.length_append]; omega
theorem aPr {f:Fm} (hok:okF f=true) (hz:f.sz≤4096) (k:Nat):(kyL (f.kids.take k)).length≤131072:=by
  have h1:=aB2 f.kids k
  have h2:=aFg hok hz
  have h3:(kyL f.kids).length≤(kyF f).length:=by
    rw [yY f]
    simp only [List.length_append,List.length_cons,List.length_nil]; omega
  omega
end Go.Proofs.YteehaobohaecmaaGreatDoor
namespace Go.Proofs.YteehaobohaecmaaGreatDoor
open Go
structure Df where
  inp:Int
  st:Int
  nx:List (List Int)
  ac:List Bool
deriving DecidableEq
section
variable {cur g:Fm} {o n k:Nat} {l:List Fm} {r:List Int}
end
section
variable {n o s:Nat} {l l2:List Fm} {r:List Int} {nx:List (List Int)} {ac:List Bool} {e:Int}
end
section
variable {f:Fm} {i o:Int}
theorem aL0 (h: ¬(chk f).2≠0):cE (chk f).1=0:=by
  by_cases q:gC (can f)≠0
  · rw [aHs q] at h; exact absurd q h
  · by_cases q2:cE (iM (can f))≠0
    · rw [aJt q q2] at h; exact absurd q2 h
    · rw [aHc q q2]; exact Decidable.of_not_not q2
theorem aBB (h: ¬(stM f i o).2≠0):cE (stM f i o).1=0:=by
  by_cases q:cE f≠0
  · rw [aM0 q] at h; exact absurd q h
  · by_cases q2:i < 0∨64≤i∨o < 0∨1048576 < o
    · rw [aMI q q2] at h; exact absurd (by decide) h
    · by_cases q3:(aM f).2≠0
      · rw [aMu q q2 q3] at h; exact absurd q3 h
      · rw [aNb q q2 q3] at h ⊢; exact aL0 h
end
section
variable {ver:Nat} {l:List Fm} {g:Fm}
end
end Go.Proofs.YteehaobohaecmaaGreatDoor
namespace Go.Proofs.YteehaobohaecmaaGreatDoor
end Go.Proofs.YteehaobohaecmaaGreatDoor
namespace Go.Proofs.YteehaobohaecmaaGreatDoor
open Go
structure PrF (f:Fm) (t:Tr):Prop where
  v:cE f=0
  z:f.sz≤30
  l:t.ni.length≤20
  e:t.no.length=t.ni.length
  r: ∀ j,j < t.ni.length→(0≤nth t.ni j∧nth t.ni j < 64∧0≤nth t.no j∧nth t.no j≤1048576)
structure RtG (f:Fm) (t:Tr):Prop where
  r:Run 31 (aM f).1
  s: ∀ i,sat t (aM f).1 i=sat t f i
  a:aM (aM f).1=((aM f).1,0)
  hb:hoB t (aM f).1=hoB t f
  he:hoE t (aM f).1=0
section
variable {f g:Fm} {t:Tr} {k:Nat}
end
structure Odr where
  f:Fm
  g:Fm
  h:Fm
  b:Bool
end Go.Proofs.YteehaobohaecmaaGreatDoor
namespace Go.Proofs.YteehaobohaecmaaGreatDoor
open Go
mutual
def szl:Fm→Int→Int
  | .nd _ _ ks,lv=>if 20 < lv∨50 < ks.length then 1000 else kP ks 1 lv
def kP:List Fm→Int→Int→Int
  |[],n,_=>n
  |g::l,n,lv=>if 1000 < n+szl g (lv+1) then 1000 else kP l (n+szl g (lv+1)) lv
end
theorem aH1 (f:Fm) (lv:Int):szl f lv=if 20 < lv∨50 < f.kids.length then 1000 else kP f.kids 1 lv:=by cases f; rw [szl]; rfl
section
variable {l:List Fm} {n lv:Int} {k:Nat}
theorem aHq (h:k < l.length) (h2:1000 < n+szl (nth l k) (lv+1)):kP (l.drop k) n lv=1000:=by rw [dG h,kP,if_pos h2]
theorem aLV (h:k < l.length) (h2: ¬1000 < n+szl (nth l k) (lv+1)):kP (l.drop k) n lv=kP (l.drop (k+1)) (n+szl (nth l k) (lv+1)) lv:=by rw [dG h,kP,if_neg h2]
theorem aJd (h:l.length≤k):kP (l.drop k) n lv=n:=by rw [List.drop_eq_nil_of_le h,kP]
end
mutual
theorem vM: ∀ (f:Fm) (lv:Int),1≤szl f lv∧szl f lv≤1000
  | .nd _ _ ks, lv => by
    rw [szl]
    split
    · omega
    · exact aB0 ks 1 lv (by omega) (by omega)
theorem aB0: ∀ (l:List Fm) (n lv:Int),1≤n→n≤1000→1≤kP l n lv∧kP l n lv≤1000
  |[],n,lv,h1,h2=>by rw [kP]; omega
  | g :: l, n, lv, h1, h2 => by
    rw [kP]
    split
    · omega
    · have:=vM g (lv+1)
      exact aB0 l _ lv (by omega) (by omega)
end
theorem aEC: ∀ (l:List Fm) (n lv:Int),n≤1000→n≤kP l n lv
  |[],n,lv,h=>by rw [kP]; omega
  | g :: l, n, lv, h => by
    rw [kP]
    split
    · exact h
    · have:=vM g (lv+1)
      have:=aEC l (n+szl g (lv+1)) lv (by omega)
      omega
mutual
theorem zV: ∀ (f:Fm) (lv:Int),szl f lv≤12→szl f lv=f.sz
  | .nd o a k, lv, h => by
    rw [szl] at h ⊢
    split at h
    · omega
    · rename_i hn
      rw [if_neg hn,yN k 1 lv (by omega) h,Fm.sz]; omega
theorem yN: ∀ (l:List Fm) (n lv:Int),0≤n→kP l n lv≤12→kP l n lv=n+Fm.szs l
  |[],n,lv,_,_=>by rw [kP,Fm.szs]; simp
  | f :: l, n, lv, h0, h => by
    rw [kP] at h ⊢
    split at h
    · omega
    · rename_i hn
      have h1:=aEC l (n+szl f (lv+1)) lv (by omega)
      have h2:=vM f (lv+1)
      rw [if_neg hn,yN l _ lv (by omega) h,zV f (lv+1) (by omega),Fm.szs]; omega
end
theorem aIe {H:aI} {n:Nat} {f:Fm}:fzv true H (n+4) (.sl [[iV 4,iV 0,.sl [[iV 1,iV 0,.nilsl]]],[iV 4,iV 0,.sl [[iV f.op,iV f.arg,.sl (f.kids.map cF)]]]])=.sl ([Fm.nd 4 0 [Fm.nd 1 0 []],Fm.nd 4 0 [f]].map cF):=by
  have e:fzv true H (n+2) (.sl (f.kids.map cF))=.sl (f.kids.map cF):=dU _ _ (by simp)
  show V.sl [[iV 4,iV 0,.sl [[iV 1,iV 0,.sl []]]],[iV 4,iV 0,.sl [[iV f.op,iV f.arg,fzv true H (n+2) (.sl (f.kids.map cF))]]]]=_
  rw [e]
  simp [bX,Fm.op,Fm.arg,Fm.kids]
structure Pl where
  s:Int
  f:Fm
  w:List Int
instance:Inhabited Pl:=⟨⟨0,default,[]⟩⟩
def cPl (p:Pl):List V:=[iV p.s,iV p.f.op,iV p.f.arg,.sl (p.f.kids.map cF),.sl (p.w.map cI)]
def plK (p:Pl):Int×List UInt8:=(p.s,kyF p.f)
def jN (l:List Pl) (s:Int) (f:Fm):Bool:=l.any fun p=>decide (p.s=s)&&decide (p.f=f)
theorem yR {l:List Pl} {s:Int} {f:Fm}:(s,kyF f)∈l.map plK↔jN l s f=true:=by
  unfold jN
  rw [List.any_eq_true,List.mem_map]
  constructor
  · rintro ⟨p,h1,h2⟩
    injection h2 with h3 h4
    exact ⟨p,h1,by rw [decide_eq_true h3,decide_eq_true (aN6 h4)]; rfl⟩
  · rintro ⟨p,h1,h2⟩
    rw [Bool.and_eq_true] at h2
    exact ⟨p,h1,by unfold plK; rw [of_decide_eq_true h2.1,of_decide_eq_true h2.2]⟩
def enE (f:Fm):Int:=hoE t0 f
def enB (f:Fm):Bool:=hoB t0 f
def fnd (l:List Pl) (q:Pl):Bool×Int:=
  if jN l q.s q.f=true then (false,0) else if enE q.f≠0 then (false,enE q.f) else if enB q.f=false then (true,0) else if l.length=4096 then (false,11) else (false,0)
def lL (l:List Pl) (q:Pl):List Pl:=if jN l q.s q.f=true∨enE q.f≠0∨enB q.f=false∨l.length=4096 then l else l++[q]
def mM (l:List Pl) (q:Pl):Prop:= ¬(jN l q.s q.f=true∨enE q.f≠0∨enB q.f=false∨l.length=4096)
instance (l:List Pl) (q:Pl):Decidable (mM l q):=by unfold mM; infer_instance
theorem eR {l:List Pl} {q:Pl} (h:mM l q):fnd l q=(false,0)∧lL l q=l++[q]:=by
  unfold mM at h
  unfold fnd lL
  refine ⟨?_,if_neg h⟩
  rw [if_neg (fun e=>h (.inl e)),if_neg (fun e=>h (.inr (.inl e))),if_neg (fun e=>h (.inr (.inr (.inl e)))),if_neg (fun e=>h (.inr (.inr (.inr e))))]
theorem oL {l:List Pl} {q:Pl} (h: ¬mM l q):lL l q=l:=if_pos (Decidable.of_not_not h)
theorem aI5 {l:List Pl} {q:Pl} (h:jN l q.s q.f=true):fnd l q=(false,0):=if_pos h
theorem aAz {l:List Pl} {q:Pl} (h: ¬jN l q.s q.f=true) (h2:enE q.f≠0∨enB q.f=false):fnd l q=(decide (enE q.f=0),enE q.f):=by
  unfold fnd
  rw [if_neg h]
  by_cases e:enE q.f≠0
  · rw [if_pos e,decide_eq_false e]
  · have e2:enB q.f=false:=h2.resolve_left e
    rw [if_neg e,if_pos e2,Decidable.of_not_not e]; rfl
theorem aEQ {l:List Pl} {q:Pl} (h: ¬jN l q.s q.f=true) (h2: ¬(enE q.f≠0∨enB q.f=false)) (h3:l.length=4096):fnd l q=(false,11):=by
  unfold fnd
  rw [if_neg h,if_neg (fun e=>h2 (.inl e)),if_neg (fun e=>h2 (.inr e)),if_pos h3]
theorem aAm {l:List Pl} {q:Pl} (h: ¬jN l q.s q.f=true) (h2: ¬(enE q.f≠0∨enB q.f=false)) (h3: ¬l.length=4096):mM l q:=by
  rintro (e|e|e|e)
  · exact h e
  · exact h2 (.inl e)
  · exact h2 (.inr e)
  · exact h3 e
theorem aAP {l:List Pl} {q:Pl} {ls:Int} {lk:List UInt8} (hk:ls=q.s→lk=kyF q.f→jN l q.s q.f=true) (h:(decide (q.s=ls∧kyF q.f=lk)||decide ((q.s,kyF q.f)∈List.map plK l))=true):jN l q.s q.f=true:=by
  simp only [Bool.or_eq_true,decide_eq_true_eq] at h
  rcases h with z|z
  · exact hk z.1.symm z.2.symm
  · exact yR.1 z
theorem aAQ {l:List Pl} {q:Pl} {ls:Int} {lk:List UInt8} (h:(decide (q.s=ls∧kyF q.f=lk)||decide ((q.s,kyF q.f)∈List.map plK l))=false): ¬jN l q.s q.f=true∧(q.s,kyF q.f)∉List.map plK l:=by
  simp only [Bool.or_eq_false_iff,decide_eq_false_iff_not] at h
  exact ⟨fun e=>h.2 (yR.2 e),h.2⟩
abbrev zT:Tr:=⟨[],[]⟩
def vNx (m:M) (p:Pl) (a:Nat):Pl:=⟨nth (nth m.nx p.s.toNat) a,(stM p.f a (nth (nth m.ot p.s.toNat) a)).1,cat [p.w,[(a:Int)]]⟩
def vEr (m:M) (p:Pl) (a:Nat):Int:=(stM p.f a (nth (nth m.ot p.s.toNat) a)).2
def aGX (m:M) (w:List Int):Tr×Bool×Int:=(⟨w,dP m m.s w⟩,decide (frE m m.s w=0),frE m m.s w)
def lE (m:M) (p:Pl):Nat→Nat→List Pl→Option (Tr×Bool×Int)×List Pl
  |0,_,l=>(none,l)
  | n + 1, a, l => if vEr m p a ≠ 0 then (some (zT, false, vEr m p a), []) else if (fnd l (vNx m p a)).2 ≠ 0 then (some (zT, false, (fnd l (vNx m p a)).2), []) else
      if (fnd l (vNx m p a)).1=true then (some (aGX m (vNx m p a).w),[]) else lE m p n (a+1) (lL l (vNx m p a))
section
variable {m:M} {p:Pl} {n a:Nat} {l:List Pl}
theorem aHQ (h:n≤a):lE m p (n - a) a l=(none,l):=by rw [show n - a=0 by omega,lE]
theorem aOC (h:a < n) (h1:vEr m p a≠0):lE m p (n - a) a l=(some (zT,false,vEr m p a),[]):=by rw [show n - a=(n - (a+1))+1 by omega,lE,if_pos h1]
theorem aPo (h:a < n) (h1: ¬vEr m p a≠0) (h2:(fnd l (vNx m p a)).2≠0):lE m p (n - a) a l=(some (zT,false,(fnd l (vNx m p a)).2),[]):=by rw [show n - a=(n - (a+1))+1 by omega,lE,if_neg h1,if_pos h2]
theorem aPa (h:a < n) (h1: ¬vEr m p a≠0) (h2: ¬(fnd l (vNx m p a)).2≠0) (h3:(fnd l (vNx m p a)).1=true):lE m p (n - a) a l=(some (aGX m (vNx m p a).w),[]):=by rw [show n - a=(n - (a+1))+1 by omega,lE,if_neg h1,if_neg h2,if_pos h3]
theorem wD (h:a < n) (h1: ¬vEr m p a≠0) (h2: ¬(fnd l (vNx m p a)).2≠0) (h3: ¬(fnd l (vNx m p a)).1=true):lE m p (n - a) a l=lE m p (n - (a+1)) (a+1) (lL l (vNx m p a)):=by rw [show n - a=(n - (a+1))+1 by omega,lE,if_neg h1,if_neg h2,if_neg h3]
end
def pD (m : M) : Nat → Nat → List Pl → Tr × Bool × Int
  |0,_,_=>(zT,false,0)
  | n + 1, i, l => if i < l.length then match lE m (nth l i) m.i.toNat 0 l with
      |(some r,_)=>r
      |(none,l2)=>pD m n (i+1) l2
    else (zT,false,0)
section
variable {m:M} {i:Nat} {l l2:List Pl} {r:Tr×Bool×Int}
theorem aJW (h:l.length≤i):pD m (4097 - i) i l=(zT,false,0):=by
  cases q:4097 - i with
  |zero=>rw [pD]
  |succ n=>rw [pD,if_neg (by omega)]
theorem tP (h:i < l.length) (hl:l.length≤4096) (hr:lE m (nth l i) m.i.toNat 0 l=(some r,l2)):pD m (4097 - i) i l=r:=by rw [show 4097 - i=(4097 - (i+1))+1 by omega,pD,if_pos h,hr]
theorem aL9 (h:i < l.length) (hl:l.length≤4096) (hr:lE m (nth l i) m.i.toNat 0 l=(none,l2)):pD m (4097 - i) i l=pD m (4097 - (i+1)) (i+1) l2:=by rw [show 4097 - i=(4097 - (i+1))+1 by omega,pD,if_pos h,hr]
end
def vS (m:M) (f:Fm):Pl:=⟨m.s,(aM f).1,[]⟩
def vck (m:M) (f:Fm):Tr×Bool×Int:=
  if dY m≠0 then (zT,false,dY m) else if cE f≠0 then (zT,false,cE f) else if (aM f).2≠0 then (zT,false,(aM f).2)
  else if (fnd [] (vS m f)).2≠0∨(fnd [] (vS m f)).1=true then (zT,fnd [] (vS m f)) else pD m 4097 0 (lL [] (vS m f))
section
variable {m:M} {f:Fm}
theorem aIY (h:dY m≠0):vck m f=(zT,false,dY m):=if_pos h
theorem aIP (h: ¬dY m≠0) (h1:cE f≠0):vck m f=(zT,false,cE f):=by unfold vck; rw [if_neg h,if_pos h1]
theorem aMJ (h: ¬dY m≠0) (h1: ¬cE f≠0) (h2:(aM f).2≠0):vck m f=(zT,false,(aM f).2):=by unfold vck; rw [if_neg h,if_neg h1,if_pos h2]
theorem aMw (h: ¬dY m≠0) (h1: ¬cE f≠0) (h2: ¬(aM f).2≠0) (h3:(fnd [] (vS m f)).2≠0∨(fnd [] (vS m f)).1=true):vck m f=(zT,fnd [] (vS m f)):=by unfold vck; rw [if_neg h,if_neg h1,if_neg h2,if_pos h3]
theorem aMQ (h: ¬dY m≠0) (h1: ¬cE f≠0) (h2: ¬(aM f).2≠0) (h3: ¬((fnd [] (vS m f)).2≠0∨(fnd [] (vS m f)).1=true)):vck m f=pD m (4097 - 0) 0 (lL [] (vS m f)):=by unfold vck; rw [if_neg h,if_neg h1,if_neg h2,if_neg h3]
end
structure PlOK (m:M) (l:List Pl):Prop where
  len:l.length≤4096
  at_: ∀ j,j < l.length→0≤(nth l j).s∧(nth l j).s < m.nx.length∧cE (nth l j).f=0∧(nth l j).w.length≤j
theorem PlOK.put {m : M} {l : List Pl} {q : Pl} (h : PlOK m l) (h0 : 0 ≤ q.s ∧ q.s < m.nx.length) (h1 : cE q.f = 0) (h2 : q.w.length ≤ l.length) : PlOK m (lL l q) := by
  by_cases hn:mM l q
  · rw [(eR hn).2]
    unfold mM at hn
    have hl:=h.len
    have hl2:l.length≠4096:=fun e=>hn (.inr (.inr (.inr e)))
    refine ⟨by simp; omega,fun j hj=>?_⟩
    rw [List.length_append,List.length_singleton] at hj
    by_cases e:j < l.length
    · have e2:nth (l++[q]) j=nth l j:=by unfold nth; simp [List.getD_eq_getElem?_getD,List.getElem?_append_left e]
      rw [e2]; exact h.at_ j e
    · have e2:nth (l++[q]) j=q:=by
        obtain rfl:j=l.length:=by omega
        unfold nth; simp
      rw [e2]
      exact ⟨h0.1,h0.2,h1,by omega⟩
  · rw [oL hn]; exact h
theorem aJu (l:List Pl) (q:Pl):l.length≤(lL l q).length:=by
  unfold lL
  split
  · exact Nat.le_refl _
  · simp
theorem aJV {l:List Pl} {q:Pl} {j:Nat} (h:j < l.length):nth (lL l q) j=nth l j:=by
  unfold lL
  split
  · rfl
  · unfold nth; simp [List.getD_eq_getElem?_getD,List.getElem?_append_left h]
def aDk (m:M) (f:Fm):Bool:=decide (m.nx.length≤8∧m.ot.length≤8∧m.i≤4∧szl f 0≤12)
theorem aMP (f:Fm):kyF f≠[]:=by rw [yY]; simp
def aA2 (l:List Pl) (ls:Int) (lk:List UInt8):Prop:= ∃ p∈l,p.s=ls∧kyF p.f=lk
theorem aFf {l:List Pl} {q:Pl} {ls:Int} {lk:List UInt8} (h:aA2 l ls lk):ls=q.s→lk=kyF q.f→jN l q.s q.f=true:=by
  rintro h1 h2
  obtain ⟨p,g1,g2,g3⟩:=h
  exact yR.1 (List.mem_map.2 ⟨p,g1,by unfold plK; rw [g2,g3,h1,h2]⟩)
theorem xQ {l:List Pl} {q:Pl}:aA2 (l++[q]) q.s (kyF q.f):=⟨q,by simp,rfl,rfl⟩
theorem aH7 {q:Pl} (h:mM [] q): ¬(decide ((fnd [] q).2≠0)||(fnd [] q).1)=true:=by rw [(eR h).1]; decide
theorem aJI {q:Pl} (h: ¬mM [] q):(decide ((fnd [] q).2≠0)||(fnd [] q).1)=true:=by
  have h1: ¬jN [] q.s q.f=true:=by simp [jN]
  by_cases h2:enE q.f≠0∨enB q.f=false
  · rw [aAz h1 h2]
    by_cases e:enE q.f=0
    · rw [decide_eq_true e]; simp
    · simp [e]
  · exact absurd (aAm h1 h2 (by simp)) h
theorem aNX {q:Pl} (h:(decide ((fnd [] q).2≠0)||(fnd [] q).1)=true):(fnd [] q).2≠0∨(fnd [] q).1=true:=by simpa using h
theorem aPu {q:Pl} (h: ¬(decide ((fnd [] q).2≠0)||(fnd [] q).1)=true): ¬((fnd [] q).2≠0∨(fnd [] q).1=true):=by simpa using h
theorem aOu {m:M} {f:Fm} (hm: ¬dY m≠0) (hs:cE (aM f).1=0):PlOK m (lL [] (vS m f)):=by
  have mo:=fO (Decidable.of_not_not hm)
  exact PlOK.put ⟨by simp,fun j hj=>absurd hj (by simp)⟩ ⟨mo.2.2.2.2.1,mo.2.2.2.2.2.1⟩ hs (by simp [vS])
theorem aRt {m:M} (hm: ¬dY m≠0) {s:Int} (h0:0≤s) (h1:s < m.nx.length):s.toNat < m.nx.length∧s.toNat < m.ot.length∧((nth m.nx s.toNat).length:Int)=m.i∧((nth m.ot s.toNat).length:Int)=m.i:=by
  have mo:=fO (Decidable.of_not_not hm)
  have:=mo.2.2.2.2.2.2.2 s.toNat (by omega)
  exact ⟨by omega,by omega,this.1,this.2.1⟩
theorem aNq {m:M} (hm: ¬dY m≠0) {s:Int} (h0:0≤s) (h1:s < m.nx.length) {a:Nat} (ha:(a:Int) < m.i):0≤nth (nth m.nx s.toNat) a∧nth (nth m.nx s.toNat) a < m.nx.length:=by
  have mo:=fO (Decidable.of_not_not hm)
  have:=mo.2.2.2.2.2.2.2 s.toNat (by omega)
  have:=this.2.2 a (by omega)
  omega
theorem aKJ {m:M} {l:List Pl} {p:Pl} {a k:Nat} (hm: ¬dY m≠0) (h:PlOK m l) (hp:0≤p.s∧p.s < m.nx.length∧cE p.f=0∧p.w.length≤k) (hk:k < l.length) (ha:(a:Int) < m.i) (he: ¬vEr m p a≠0):PlOK m (lL l (vNx m p a)):=
  h.put (aNq hm hp.1 hp.2.1 ha) (aBB he) (by simp only [vNx,cat,List.append_nil,List.length_append,List.length_singleton]; omega)
end Go.Proofs.YteehaobohaecmaaGreatDoor
namespace Go.Proofs.YteehaobohaecmaaGreatDoor
open Go Go.Proofs
theorem zK (f:Fm) (lv:Int) (hl:0≤lv∧lv≤21) (ih: ∀ (g:Fm) (lv:Int),g.sz < f.sz→0≤lv∧lv≤21→aP Tryz.prog 47 [(V.agg [(iV g.op),(iV g.arg),(V.sl (List.map cF g.kids))]),(iV lv)] (iV (szl g lv))):aP Tryz.prog 47 [(V.agg [(iV f.op),(iV f.arg),(V.sl (List.map cF f.kids))]),(iV lv)] (iV (szl f lv)):=by
 refine pW Tryz.func47 aOE fun hB=>?_
 unfold s47
 dsimp only
 refine W_r (cK (i:=2) (n:=0) (m:=3) (cs:=[(iV f.op),(iV f.arg),(V.sl (List.map cF f.kids))]) rfl (cVq rfl) rfl rfl rfl (aA rfl (R_e (aB (W_r (aA rfl (gH rfl rfl ?_)))))))
 refine aA rfl ?_
 refine aS 5 (fun T H=>T 1=(iV lv)∧T 2=(mPq 2)∧T 14=(V.bool (decide (((20:Int) < lv)∨((50:Int) < ((f.kids.length:Nat):Int)))))∧H 2=(bk 1 24 3 [[(iV f.op),(iV f.arg),(V.sl (List.map cF f.kids))]])∧True) ?_ ?_
 ·
  by_cases g1:(20:Int) < lv
  ·
   refine G_n (edT g1 rfl) (G_n (edT g1 rfl) (G_n (edT g1 rfl) (G_n (edT g1 rfl) (aR (edT g1 rfl) rfl ?_))))
   exact ⟨rfl,rfl,(dH g1),rfl,trivial⟩
  ·
   refine aC (edF g1 rfl) (aU rfl rfl (aC (edF g1 rfl) (aL rfl rfl rfl rfl (aC (edF g1 rfl) (bM rfl (aC (edF g1 rfl) (gH rfl rfl ?_)))))))
   refine aT (edF g1 rfl) rfl ?_
   exact ⟨rfl,rfl,(dL g1),rfl,trivial⟩
 intro T H ⟨t1,t2,t14,h2,_⟩
 refine R_e ?_
 refine aK t14 (fun c2=>?_) fun c2=>?_
 ·
  refine aB (W_r (aA rfl (R_e (aW ?_))))
  refine bB (rVq (iV 1000)) (aF ?_)
  · rw [aH1,if_pos (by omega)]
 refine aD (W_r (aA rfl (R_e (aB (W_r (aA rfl (R_e ?_)))))))
 refine aE fun Q3 n3 x3 y3 z3=>?_
 refine cQ (fun mm T H=> ∃ (k:Nat) (n:Int),mm=f.kids.length - k∧T 1=(iV lv)∧T 2=(mPq 2)∧T 5=(iV n)∧T 6=(iV ((k:Nat):Int))∧H 2=(bk 1 24 3 [[(iV f.op),(iV f.arg),(V.sl (List.map cF f.kids))]])∧(k≤f.kids.length)∧(1≤n∧n≤1000)∧(szl f lv=kP (f.kids.drop k) n lv)) ?_ ?_
 ·
  refine ⟨_,0,1,rfl,t1,t2,rfl,(eTq (rVq (iV 0)) rfl),h2,?_,?_,?_⟩
  · omega
  · omega
  · rw [aH1,if_neg (by omega)]; rfl
 intro mm T H ⟨k,n,hmm,t1,t2,t5,t6,h2,hk,hn,hc⟩ Q4 p14 p24 p34
 unfold aNh
 have q0:=vM (nth f.kids k) (lv+1)
 refine aB (W_r (aA t6 (aU t2 h2 (aL rfl h2 rfl rfl (bM rfl (bW rfl rfl (R_e ?_)))))))
 refine aK rfl (fun c5=>?_) fun c5=>?_
 ·
  refine aD (aE fun Q6 n6 x6 y6 z6=>(W_r (aA t5 (aU t2 h2 (aL rfl h2 rfl rfl (aA t6 (dC (i:=k) (rVq (V.sl (List.map cF f.kids))) (rNq k) (by omega) (bX _) rfl ?_)))))))
  refine aH rfl rfl (aA t1 (rO rfl rfl (by omega) (by omega) (aJ (ih (nth f.kids k) (lv+(1:Int)) (Fm.sz_kid (by omega)) (by omega)) rfl (rO rfl rfl (by omega) (by omega) (aA rfl (R_e (W_r ?_)))))))
  refine aA rfl (gH rfl rfl (R_e ?_))
  refine cW rfl (fun c7=>?_) fun c7=>?_
  ·
   refine W_r (aA rfl (R_e (aN (y6 _ _ (p24 _ _ (y3 _ _ ?_))))))
   refine bB (rVq (iV 1000)) (aF ?_)
   · rw [hc,aHq (by omega) (by omega)]
  refine dA (n6 _ _ (.done (W_t (aA t6 (bL rfl (rNq 1) (by omega) (aA rfl (R_e ?_)))))))
  refine p14 _ _ _ ?_ ⟨(k+1),(n+szl (nth f.kids k) (lv+1)),rfl,t1,t2,(eTq (rVq (iV (n+(szl (nth f.kids k) (lv+(1:Int)))))) (by rfl)),(eTq (rNq (k+1)) (by rfl)),h2,?_,?_,?_⟩
  · omega
  · omega
  · omega
  · rw [hc,aLV (by omega) (by omega)]
 refine aX (p34 _ _ _ (x3 _ _ (.done (W_r (aA t5 (aA rfl (R_e ?_)))))))
 refine aN ?_
 refine bB (rVq (iV n)) (aF ?_)
 · rw [hc,aJd (by omega)]
theorem aJo (f:Fm) (lv:Int) (hl:0≤lv∧lv≤21):aP Tryz.prog 47 [(V.agg [(iV f.op),(iV f.arg),(V.sl (List.map cF f.kids))]),(iV lv)] (iV (szl f lv)):=by
  have key: ∀ (mm:Nat) (f:Fm) (lv:Int),f.sz < mm→0≤lv∧lv≤21→aP Tryz.prog 47 [(V.agg [(iV f.op),(iV f.arg),(V.sl (List.map cF f.kids))]),(iV lv)] (iV (szl f lv)):=by
    intro mm
    induction mm with
    |zero=>intro f lv hlt; exact absurd hlt (Nat.not_lt_zero _)
    | succ mm ih =>
      intro f lv hlt hl
      exact zK f lv hl fun f2 lv2 hlt2=>ih f2 lv2 (by omega)
  exact key (f.sz+1) f lv (Nat.lt_succ_self _) hl
theorem aBr (m:M) (f:Fm):aP Tryz.prog 21 [(V.agg [(iV m.i),(iV m.s),(aZ m.nx),(aZ m.ot)]),(V.agg [(iV f.op),(iV f.arg),(V.sl (List.map cF f.kids))])] (V.bool (aDk m f)):=by
 refine pW Tryz.func21 aNu fun hB=>?_
 unfold s21
 dsimp only
 refine W_r (cK (i:=2) (n:=0) (m:=4) (cs:=[(iV m.i),(iV m.s),(aZ m.nx),(aZ m.ot)]) rfl (cVq rfl) rfl rfl rfl (cK (i:=3) (n:=0) (m:=3) (cs:=[(iV f.op),(iV f.arg),(V.sl (List.map cF f.kids))]) rfl (cVq rfl) rfl rfl rfl (aA rfl (R_e (W_r (aU rfl rfl (aL rfl rfl rfl rfl ?_)))))))
 refine bM rfl (aCc rfl rfl (aA rfl ?_))
 refine aS 5 (fun T H=>T 2=(mPq 2)∧T 3=(mPq 3)∧T 14=(V.bool (decide ((((m.nx.length:Nat):Int)≤(8:Int))∧(((m.ot.length:Nat):Int)≤(8:Int)))))∧H 2=(bMq m)∧H 3=(bk 1 24 3 [[(iV f.op),(iV f.arg),(V.sl (List.map cF f.kids))]])∧True) ?_ ?_
 ·
  by_cases g1:((m.nx.length:Nat):Int)≤(8:Int)
  ·
   refine aC (edT g1 rfl) (aU rfl rfl (aC (edT g1 rfl) (aL rfl rfl rfl rfl (aC (edT g1 rfl) (bM rfl (aC (edT g1 rfl) (aCc rfl rfl ?_)))))))
   refine aR (edT g1 rfl) rfl ?_
   exact ⟨rfl,rfl,(dM g1),rfl,rfl,trivial⟩
  ·
   refine G_n (edF g1 rfl) (G_n (edF g1 rfl) (G_n (edF g1 rfl) (G_n (edF g1 rfl) (aT (edF g1 rfl) rfl ?_))))
   exact ⟨rfl,rfl,(dO g1),rfl,rfl,trivial⟩
 intro T H ⟨t2,t3,t14,h2,h3,_⟩
 refine aA t14 ?_
 refine aS 4 (fun T H=>T 3=(mPq 3)∧T 19=(V.bool (decide (((((m.nx.length:Nat):Int)≤(8:Int))∧(((m.ot.length:Nat):Int)≤(8:Int)))∧(m.i≤(4:Int)))))∧H 2=(bMq m)∧H 3=(bk 1 24 3 [[(iV f.op),(iV f.arg),(V.sl (List.map cF f.kids))]])∧True) ?_ ?_
 ·
  by_cases g2:(((m.nx.length:Nat):Int)≤(8:Int))∧(((m.ot.length:Nat):Int)≤(8:Int))
  ·
   refine aC (edT g2 rfl) (aU t2 h2 (aC (edT g2 rfl) (aL rfl h2 rfl rfl (aC (edT g2 rfl) (aCc rfl rfl (aR (edT g2 rfl) rfl ?_))))))
   exact ⟨t3,(dM g2),h2,h3,trivial⟩
  ·
   refine G_n (edF g2 rfl) (G_n (edF g2 rfl) (G_n (edF g2 rfl) (aT (edF g2 rfl) rfl ?_)))
   exact ⟨t3,(dO g2),h2,h3,trivial⟩
 intro T H ⟨t3,t19,h2,h3,_⟩
 refine aA t19 ?_
 refine aS 4 (fun T H=>T 24=(V.bool (decide ((((((m.nx.length:Nat):Int)≤(8:Int))∧(((m.ot.length:Nat):Int)≤(8:Int)))∧(m.i≤(4:Int)))∧((szl f (0:Int))≤(12:Int)))))∧H 2=(bMq m)∧H 3=(bk 1 24 3 [[(iV f.op),(iV f.arg),(V.sl (List.map cF f.kids))]])∧True) ?_ ?_
 ·
  by_cases g3:((((m.nx.length:Nat):Int)≤(8:Int))∧(((m.ot.length:Nat):Int)≤(8:Int)))∧(m.i≤(4:Int))
  ·
   refine aC (edT g3 rfl) (aL t3 h3 rfl rfl (aC (edT g3 rfl) (aJ (aJo f (0:Int) (by decide)) rfl (aC (edT g3 rfl) (aCc rfl rfl (aR (edT g3 rfl) rfl ?_))))))
   exact ⟨(dM g3),h2,h3,trivial⟩
  ·
   refine G_n (edF g3 rfl) (G_n (edF g3 rfl) (G_n (edF g3 rfl) (aT (edF g3 rfl) rfl ?_)))
   exact ⟨(dO g3),h2,h3,trivial⟩
 intro T H ⟨t24,h2,h3,_⟩
 refine aA t24 (R_e (aN ?_))
 refine bB (rVq (V.bool (decide ((((((m.nx.length:Nat):Int)≤(8:Int))∧(((m.ot.length:Nat):Int)≤(8:Int)))∧(m.i≤(4:Int)))∧((szl f (0:Int))≤(12:Int)))))) (bD ?_)
 · unfold aDk; exact decide_eq_decide.2 (by omega)
def aQh:List SO:=[
 sO 18 (.call false 48 []),
 qL 19 3 1,
 sO 20 (.call false 49 [.t 19]),
 sO 21 (.call false 23 [.t 18,.t 20]),
 qM 17 21,
 qE 22 17 0,
 qE 23 17 1,
 qE 24 17 2,
 sO 3 (.alloc 54 [.nilsl,.nilsl]),
 sN (.store 2 (.t 3) (.t 22)),
 qM 4 23,
 qM 5 24]
def aQ0:List SO:=[
 sO 26 (.call false 48 []),
 qL 27 3 2,
 sO 28 (.call false 49 [.t 27]),
 sO 29 (.call false 23 [.t 26,.t 28]),
 qM 25 29,
 qE 30 25 0,
 qE 31 25 1,
 qE 32 25 2,
 sO 6 (.alloc 54 [.nilsl,.nilsl]),
 sN (.store 2 (.t 6) (.t 30)),
 qM 7 31,
 qM 8 32]
def aRM:List SO:=[
 sO 34 (.call false 48 []),
 sO 35 (.build [.int .i64 0,.int .i64 0,.nilsl] [(0,1,.c (.int .i64 3)),(1,1,.c (.int .i64 3))]),
 sO 36 (.call false 49 [.t 35]),
 sO 37 (.call false 23 [.t 34,.t 36]),
 qM 33 37,
 qE 38 33 0,
 qE 39 33 1,
 qE 40 33 2,
 sO 9 (.alloc 54 [.nilsl,.nilsl]),
 sN (.store 2 (.t 9) (.t 38)),
 qM 10 39,
 qM 11 40]
def aQo:List SO:=[
 qM 41 4,
 qM 42 41,
 ⟨some (42,true),some 43,.mv (.t 5)⟩,
 ⟨some (42,true),some 44,.bin .eql (.t 43) (.c (.int .i64 0))⟩,
 sO 45 (.pick (.t 42) (.t 44) (.c (.bool false))),
 qM 46 45,
 ⟨some (46,true),some 47,.fld 0 (.t 3)⟩,
 ⟨some (46,true),some 48,.load false 1 (.t 47)⟩,
 ⟨some (46,true),some 49,.bslice 3 1 false [.int .i64 0] 2 [(0,.c (.int .i64 0)),(1,.c (.int .i64 1))]⟩,
 ⟨some (46,true),some 50,.call false 32 [.t 48,.t 49]⟩,
 sO 51 (.pick (.t 46) (.t 50) (.c (.bool false))),
 qM 52 51,
 ⟨some (52,true),some 53,.fld 1 (.t 3)⟩,
 ⟨some (52,true),some 54,.load false 1 (.t 53)⟩,
 ⟨some (52,true),some 55,.bslice 3 1 false [.int .i64 0] 2 [(0,.c (.int .i64 1)),(1,.c (.int .i64 2))]⟩,
 ⟨some (52,true),some 56,.call false 32 [.t 54,.t 55]⟩,
 sO 57 (.pick (.t 52) (.t 56) (.c (.bool false))),
 qM 58 57,
 ⟨some (58,true),some 59,.mv (.t 7)⟩,
 sO 60 (.pick (.t 58) (.t 59) (.c (.bool false))),
 qM 61 60,
 ⟨some (61,true),some 62,.mv (.t 8)⟩,
 ⟨some (61,true),some 63,.bin .eql (.t 62) (.c (.int .i64 0))⟩,
 sO 64 (.pick (.t 61) (.t 63) (.c (.bool false))),
 qM 65 64,
 ⟨some (65,true),some 66,.fld 0 (.t 6)⟩,
 ⟨some (65,true),some 67,.load false 1 (.t 66)⟩,
 ⟨some (65,true),some 68,.bslice 3 1 false [.int .i64 0] 1 [(0,.c (.int .i64 1))]⟩,
 ⟨some (65,true),some 69,.call false 32 [.t 67,.t 68]⟩,
 sO 70 (.pick (.t 65) (.t 69) (.c (.bool false))),
 qM 71 70,
 ⟨some (71,true),some 72,.mv (.t 10)⟩,
 ⟨some (71,true),some 73,.un .not (.t 72)⟩,
 sO 74 (.pick (.t 71) (.t 73) (.c (.bool false))),
 qM 75 74,
 ⟨some (75,true),some 76,.mv (.t 11)⟩,
 ⟨some (75,true),some 77,.bin .eql (.t 76) (.c (.int .i64 0))⟩,
 sO 78 (.pick (.t 75) (.t 77) (.c (.bool false))),
 qM 0 78]
def s22:SF:=⟨79,[.tmp 0],.seq (.reg [sO 0 (.mv (.c (.bool false)))]) (.seq (.reg [sO 12 (.build [.int .i64 0,.int .i64 0,.nilsl] [(0,1,.c (.int .i64 3)),(1,1,.c (.int .i64 2))]),sO 1 (.alloc 24 [.int .i64 0,.int .i64 0,.nilsl]),sN (.store 3 (.t 1) (.t 12))]) (.seq (.reg [sO 13 (.build [.int .i64 0,.int .i64 0,.nilsl] [(0,1,.c (.int .i64 2)),(1,1,.c (.int .i64 1))]),sO 14 (.build [.int .i64 0,.int .i64 0,.nilsl] [(0,1,.c (.int .i64 3)),(1,1,.c (.int .i64 0))]),sO 15 (.bslice 24 3 false [.int .i64 0,.int .i64 0,.nilsl] 2 [(0,.t 13),(1,.t 14)]),sO 16 (.build [.int .i64 0,.int .i64 0,.nilsl] [(0,1,.c (.int .i64 5)),(2,1,.t 15)]),sO 2 (.alloc 24 [.int .i64 0,.int .i64 0,.nilsl]),sN (.store 3 (.t 2) (.t 16))]) (.seq (.dreg [3] aQh) (.seq (.dreg [6] aQ0) (.seq (.reg aRM) (.seq (.reg aQo) (.ret)))))))⟩
theorem aOn:bF Tryz.prog ⟨[51,59,84,90,97,109,153,154,155,160],[],[],[]⟩ Tryz.f22=some s22:=by kernel_rfl
def aP2:List SO:=[
 qL 35 3 3,
 sO 36 (.call false 11 [.t 35]),
 qM 34 36,
 qE 37 34 0,
 qE 38 34 1,
 sO 9 (.alloc 24 [.int .i64 0,.int .i64 0,.nilsl]),
 sN (.store 3 (.t 9) (.t 37)),
 qM 10 38]
def aN1:List SO:=[
 qF 46 1 2,
 ql 47 46,
 qL 48 3 9,
 sO 49 (.build [.int .i64 0,.int .i64 0,.int .i64 0,.nilsl,.nilsl] [(0,1,.t 47),(1,3,.t 48),(4,1,.c (.nilsl))]),
 sO 50 (.call true 51 [.t 11,.t 49]),
 qM 45 50,
 qE 51 45 0,
 qE 52 45 1,
 qM 12 51,
 qM 10 52]
def aOG:List SO:=[
 qF 68 1 11,
 ql 69 68,
 qM 70 13,
 qA 71 5 69 70,
 qL 72 5 71,
 sO 14 (.alloc 95 [.int .i64 0,.int .i64 0,.int .i64 0,.nilsl,.nilsl]),
 sN (.store 5 (.t 14) (.t 72))]
def aPR:List SO:=[
 qF 79 1 14,
 qL 80 3 79,
 qM 81 15,
 qF 82 3 2,
 ql 83 82,
 qF 84 0 14,
 ql 85 84,
 qA 86 1 83 85,
 ql 87 86,
 qM 88 15,
 qA 89 1 87 88,
 ql 90 89,
 sO 91 (.call false 13 [.t 80,.t 81,.t 90]),
 qM 78 91,
 qE 92 78 0,
 qE 93 78 1,
 sO 16 (.alloc 24 [.int .i64 0,.int .i64 0,.nilsl]),
 sN (.store 3 (.t 16) (.t 92)),
 qM 17 93]
def aPx:List SO:=[
 qF 98 4 14,
 ql 99 98,
 qM 100 15,
 sO 101 (.bslice 3 1 false [.int .i64 0] 1 [(0,.t 100)]),
 sO 102 (.bslice 52 1 false [.nilsl] 2 [(0,.t 99),(1,.t 101)]),
 sO 103 (.call false 52 [.t 102]),
 qM 18 103]
def aNw:List SO:=[
 qF 105 2 2,
 ql 106 105,
 qF 107 0 14,
 ql 108 107,
 qA 109 1 106 108,
 ql 110 109,
 qM 111 15,
 qA 112 1 110 111,
 ql 113 112,
 qL 114 3 16,
 qM 115 18,
 sO 116 (.build [.int .i64 0,.int .i64 0,.int .i64 0,.nilsl,.nilsl] [(0,1,.t 113),(1,3,.t 114),(4,1,.t 115)]),
 sO 117 (.call true 51 [.t 11,.t 116]),
 qM 104 117,
 qE 118 104 0,
 qE 119 104 1,
 qM 19 118,
 qM 17 119]
def aOX:List SO:=[
 qL 126 4 2,
 qM 127 18,
 sO 128 (.call false 30 [.t 126,.t 127]),
 qM 125 128,
 qE 129 125 0,
 qE 130 125 1,
 qM 20 129,
 qM 21 130]
def aN5:List SO:=[
 qM 131 18,
 qM 132 20,
 sO 133 (.build [.nilsl,.nilsl] [(0,1,.t 131),(1,1,.t 132)]),
 qM 134 21,
 qC 135 .eql 134 0,
 qM 136 21,
 sN (.store 2 (.t 4) (.t 133)),
 qM 5 135,
 qM 6 136]
def aNs:SC:=.seq (.reg [qP 76 .lss 75 74]) (.seq (.cond (.t 76) (.skip) (.exit 2)) (.seq (.block 3 (.seq (.reg [qM 77 75,qM 15 77]) (.seq (.dreg [16] aPR) (.seq (.seq (.reg [qM 94 17,qC 95 .neq 94 0]) (.cond (.t 95) (.seq (.reg [sO 96 (.build [.nilsl,.nilsl] []),qM 97 17,sN (.store 2 (.t 4) (.t 96)),sO 5 (.mv (.c (.bool false))),qM 6 97]) (.ret)) (.skip))) (.seq (.reg aPx) (.seq (.reg aNw) (.seq (.seq (.reg [qM 120 17,qC 121 .neq 120 0]) (.cond (.t 121) (.seq (.reg [sO 122 (.build [.nilsl,.nilsl] []),qM 123 17,sN (.store 2 (.t 4) (.t 122)),sO 5 (.mv (.c (.bool false))),qM 6 123]) (.ret)) (.skip))) (.seq (.reg [qM 124 19]) (.cond (.t 124) (.seq (.reg aOX) (.seq (.reg aN5) (.ret))) (.skip)))))))))) (.reg [qC 137 .add 75 1,qM 75 137])))
def aMB:SC:=.seq (.seq (.reg [qM 61 13,qF 62 1 11,ql 63 62,qN 64 63,qP 65 .lss 61 64]) (.cond (.t 65) (.skip) (.exit 0))) (.seq (.block 1 (.seq (.reg aOG) (.seq (.reg [qF 73 0 2,ql 74 73,qI 75 0]) (.block 2 (.loop aNs))))) (.reg [qM 66 13,qC 67 .add 66 1,qM 13 67]))
def s23:SF:=⟨139,[.cell 4 true 2,.tmp 5,.tmp 6],.seq (.reg [sO 2 (.box 50 4 (.t 0)),sO 3 (.box 24 3 (.t 1)),sO 4 (.alloc 54 [.nilsl,.nilsl]),sO 5 (.mv (.c (.bool false))),qI 6 0]) (.seq (.seq (.reg [qL 22 4 2,sO 23 (.call false 50 [.t 22]),qM 7 23]) (.seq (.reg [qM 24 7,qC 25 .neq 24 0]) (.cond (.t 25) (.seq (.reg [sO 26 (.build [.nilsl,.nilsl] []),qM 27 7,sN (.store 2 (.t 4) (.t 26)),sO 5 (.mv (.c (.bool false))),qM 6 27]) (.ret)) (.skip)))) (.seq (.seq (.reg [qL 28 3 3,sO 29 (.call false 35 [.t 28]),qM 8 29]) (.seq (.reg [qM 30 8,qC 31 .neq 30 0]) (.cond (.t 31) (.seq (.reg [sO 32 (.build [.nilsl,.nilsl] []),qM 33 8,sN (.store 2 (.t 4) (.t 32)),sO 5 (.mv (.c (.bool false))),qM 6 33]) (.ret)) (.skip)))) (.seq (.reg aP2) (.seq (.seq (.reg [qM 39 10,qC 40 .neq 39 0]) (.cond (.t 40) (.seq (.reg [sO 41 (.build [.nilsl,.nilsl] []),qM 42 10,sN (.store 2 (.t 4) (.t 41)),sO 5 (.mv (.c (.bool false))),qM 6 42]) (.ret)) (.skip))) (.seq (.reg [sO 43 (.mkmap),sO 44 (.build [.raw (.map none),.nilsl,.int .i64 0,.str []] [(0,1,.t 43)]),sO 11 (.alloc 92 [.raw (.map none),.nilsl,.int .i64 0,.str []]),sN (.store 4 (.t 11) (.t 44))]) (.seq (.reg aN1) (.seq (.seq (.reg [qM 53 10,qC 54 .neq 53 0,qM 55 54,⟨some (55,false),some 56,.mv (.t 12)⟩,sO 57 (.pick (.t 55) (.c (.bool true)) (.t 56))]) (.cond (.t 57) (.seq (.reg [sO 58 (.build [.nilsl,.nilsl] []),qM 59 12,qM 60 10,sN (.store 2 (.t 4) (.t 58)),qM 5 59,qM 6 60]) (.ret)) (.skip))) (.seq (.seq (.reg [qI 13 0]) (.block 0 (.loop aMB))) (.seq (.reg [sO 138 (.build [.nilsl,.nilsl] []),sN (.store 2 (.t 4) (.t 138)),sO 5 (.mv (.c (.bool false))),qI 6 0]) (.ret))))))))))⟩
theorem aNK:bF Tryz.prog ⟨[51,59,84,90,97,109,153,154,155,160],[],[],[]⟩ Tryz.f23=some s23:=by kernel_rfl
def aQ8:List SO:=[
 qL 11 3 1,
 sO 12 (.call false 37 [.t 11,.c (.bool false)]),
 sO 13 (.call false 36 [.t 12]),
 qE 14 13 0,
 qE 15 13 1,
 sN (.store 3 (.t 2) (.t 14)),
 qM 3 15]
def s11:SF:=⟨16,[.cell 2 true 3,.tmp 3],.seq (.reg [sO 1 (.box 24 3 (.t 0)),sO 2 (.alloc 24 [.int .i64 0,.int .i64 0,.nilsl]),qI 3 0]) (.seq (.seq (.reg [qL 5 3 1,sO 6 (.call false 35 [.t 5]),qM 4 6]) (.seq (.reg [qM 7 4,qC 8 .neq 7 0]) (.cond (.t 8) (.seq (.reg [sO 9 (.build [.int .i64 0,.int .i64 0,.nilsl] []),qM 10 4,sN (.store 3 (.t 2) (.t 9)),qM 3 10]) (.ret)) (.skip)))) (.seq (.reg aQ8) (.ret)))⟩
theorem aN8:bF Tryz.prog ⟨[51,59,84,90,97,109,153,154,155,160],[],[],[]⟩ Tryz.f11=some s11:=by kernel_rfl
def s35:SF:=⟨9,[.tmp 2],.seq (.reg [sO 1 (.box 24 3 (.t 0)),qI 2 0]) (.seq (.reg [sO 4 (.build [.int .i64 0] []),sO 5 (.box 105 1 (.t 4)),qM 3 5]) (.seq (.reg [qM 6 3,qL 7 3 1,sO 8 (.call true 59 [.t 6,.t 7,.c (.int .i64 1)]),qM 2 8]) (.ret)))⟩
theorem aOW:bF Tryz.prog ⟨[51,59,84,90,97,109,153,154,155,160],[],[],[]⟩ Tryz.f35=some s35:=by kernel_rfl
def aQG:List SO:=[
 qM 11 0,
 sO 12 (.nilck (.t 11)),
 qF 13 0 12,
 ql 14 13,
 qC 15 .add 14 1,
 sO 16 (.nilck (.t 11)),
 qF 17 0 16,
 sN (.store 1 (.t 17) (.t 15))]
def aM6:SC:=.seq (.reg [qP 36 .lss 35 34]) (.seq (.cond (.t 36) (.skip) (.exit 1)) (.seq (.block 2 (.seq (.reg [qA 37 3 33 35,qL 38 3 37,sO 9 (.alloc 24 [.int .i64 0,.int .i64 0,.nilsl]),sN (.store 3 (.t 9) (.t 38))]) (.seq (.reg [qM 39 0,qL 40 3 9,qM 41 2,qC 42 .add 41 1,sO 43 (.call true 59 [.t 39,.t 40,.t 42]),qM 10 43]) (.seq (.reg [qM 44 10,qC 45 .neq 44 0]) (.cond (.t 45) (.seq (.reg [qM 46 10,qM 6 46]) (.ret)) (.skip)))))) (.reg [qC 47 .add 35 1,qM 35 47])))
def s59:SF:=⟨48,[.tmp 6],.seq (.reg [sO 4 (.box 24 3 (.t 1)),qI 6 0]) (.seq (.reg aQG) (.seq (.block 0 (.seq (.reg [qM 19 0,sO 20 (.nilck (.t 19)),qF 21 0 20,ql 22 21,qC 23 .gtr 22 4096,qM 18 23]) (.cond (.t 18) (.seq (.reg [qI 6 11]) (.ret)) (.seq (.reg [qM 25 2,qC 26 .gtr 25 64,qM 24 26]) (.cond (.t 24) (.seq (.reg [qI 6 16]) (.ret)) (.skip)))))) (.seq (.seq (.reg [qL 27 3 4,sO 28 (.call false 86 [.t 27]),qM 7 28]) (.seq (.reg [qM 29 7,qC 30 .neq 29 0]) (.cond (.t 30) (.seq (.reg [qM 31 7,qM 6 31]) (.ret)) (.skip)))) (.seq (.seq (.reg [qF 32 2 4,ql 33 32,qN 34 33,qI 35 0]) (.block 1 (.loop aM6))) (.seq (.reg [qI 6 0]) (.ret))))))⟩
theorem aN2:bF Tryz.prog ⟨[51,59,84,90,97,109,153,154,155,160],[],[],[]⟩ Tryz.f59=some s59:=by kernel_rfl
def aRH:List SO:=[
 qF 8 0 1,
 ql 9 8,
 sO 10 (.call false 106 [.t 9]),
 qM 7 10,
 qE 11 7 0,
 qE 12 7 1,
 qM 3 11,
 qM 4 12]
def aQ3:List SO:=[
 qF 16 0 1,
 ql 17 16,
 qC 18 .eql 17 2,
 qM 19 18,
 ⟨some (19,false),some 20,.fld 0 (.t 1)⟩,
 ⟨some (19,false),some 21,.load false 1 (.t 20)⟩,
 ⟨some (19,false),some 22,.bin .eql (.t 21) (.c (.int .i64 3))⟩,
 sO 23 (.pick (.t 19) (.c (.bool true)) (.t 22)),
 qM 6 23]
def aQK:List SO:=[
 qF 25 0 1,
 ql 26 25,
 qC 27 .lss 26 1,
 qM 28 27,
 ⟨some (28,false),some 29,.fld 0 (.t 1)⟩,
 ⟨some (28,false),some 30,.load false 1 (.t 29)⟩,
 ⟨some (28,false),some 31,.bin .gtr (.t 30) (.c (.int .i64 10))⟩,
 sO 32 (.pick (.t 28) (.c (.bool true)) (.t 31)),
 qM 33 32,
 ⟨some (33,false),some 34,.mv (.t 5)⟩,
 ⟨some (33,false),some 35,.mv (.t 3)⟩,
 ⟨some (33,false),some 36,.bin .lss (.t 34) (.t 35)⟩,
 sO 37 (.pick (.t 33) (.c (.bool true)) (.t 36)),
 qM 38 37,
 ⟨some (38,false),some 39,.mv (.t 4)⟩,
 ⟨some (38,false),some 40,.bin .geq (.t 39) (.c (.int .i64 0))⟩,
 ⟨some (38,false),some 41,.mv (.t 40)⟩,
 ⟨some (41,true),some 42,.mv (.t 5)⟩,
 ⟨some (41,true),some 43,.mv (.t 4)⟩,
 ⟨some (41,true),some 44,.bin .gtr (.t 42) (.t 43)⟩,
 ⟨some (38,false),some 45,.pick (.t 41) (.t 44) (.c (.bool false))⟩,
 sO 46 (.pick (.t 38) (.c (.bool true)) (.t 45)),
 qM 47 46,
 ⟨some (47,false),some 48,.mv (.t 6)⟩,
 ⟨some (47,false),some 49,.un .not (.t 48)⟩,
 ⟨some (47,false),some 50,.mv (.t 49)⟩,
 ⟨some (50,true),some 51,.fld 1 (.t 1)⟩,
 ⟨some (50,true),some 52,.load false 1 (.t 51)⟩,
 ⟨some (50,true),some 53,.bin .neq (.t 52) (.c (.int .i64 0))⟩,
 ⟨some (47,false),some 54,.pick (.t 50) (.t 53) (.c (.bool false))⟩,
 sO 55 (.pick (.t 47) (.c (.bool true)) (.t 54)),
 qM 24 55]
def aQg:List SO:=[
 qF 57 0 1,
 ql 58 57,
 qC 59 .eql 58 2,
 qM 60 59,
 ⟨some (60,true),some 61,.fld 1 (.t 1)⟩,
 ⟨some (60,true),some 62,.load false 1 (.t 61)⟩,
 ⟨some (60,true),some 63,.bin .lss (.t 62) (.c (.int .i64 0))⟩,
 ⟨some (60,true),some 64,.mv (.t 63)⟩,
 ⟨some (64,false),some 65,.fld 1 (.t 1)⟩,
 ⟨some (64,false),some 66,.load false 1 (.t 65)⟩,
 ⟨some (64,false),some 67,.bin .geq (.t 66) (.c (.int .i64 64))⟩,
 ⟨some (60,true),some 68,.pick (.t 64) (.c (.bool true)) (.t 67)⟩,
 sO 69 (.pick (.t 60) (.t 68) (.c (.bool false))),
 qM 70 69,
 ⟨some (70,false),some 71,.fld 0 (.t 1)⟩,
 ⟨some (70,false),some 72,.load false 1 (.t 71)⟩,
 ⟨some (70,false),some 73,.bin .eql (.t 72) (.c (.int .i64 3))⟩,
 ⟨some (70,false),some 74,.mv (.t 73)⟩,
 ⟨some (74,true),some 75,.fld 1 (.t 1)⟩,
 ⟨some (74,true),some 76,.load false 1 (.t 75)⟩,
 ⟨some (74,true),some 77,.bin .lss (.t 76) (.c (.int .i64 0))⟩,
 ⟨some (74,true),some 78,.mv (.t 77)⟩,
 ⟨some (78,false),some 79,.fld 1 (.t 1)⟩,
 ⟨some (78,false),some 80,.load false 1 (.t 79)⟩,
 ⟨some (78,false),some 81,.bin .gtr (.t 80) (.c (.int .i64 1048576))⟩,
 ⟨some (74,true),some 82,.pick (.t 78) (.c (.bool true)) (.t 81)⟩,
 ⟨some (70,false),some 83,.pick (.t 74) (.t 82) (.c (.bool false))⟩,
 sO 84 (.pick (.t 70) (.c (.bool true)) (.t 83)),
 qM 56 84]
def s86:SF:=⟨85,[.tmp 2],.seq (.reg [sO 1 (.box 24 3 (.t 0)),qI 2 0]) (.seq (.reg aRH) (.seq (.reg [qF 13 2 1,ql 14 13,qN 15 14,qM 5 15]) (.seq (.reg aQ3) (.seq (.block 0 (.seq (.reg aQK) (.cond (.t 24) (.seq (.reg [qI 2 1]) (.ret)) (.seq (.reg aQg) (.cond (.t 56) (.seq (.reg [qI 2 2]) (.ret)) (.skip)))))) (.seq (.reg [qI 2 0]) (.ret))))))⟩
theorem aNC:bF Tryz.prog ⟨[51,59,84,90,97,109,153,154,155,160],[],[],[]⟩ Tryz.f86=some s86:=by kernel_rfl
def aRv:SF:=⟨15,[.tmp 2,.tmp 3],.seq (.reg [qI 2 0,qI 3 0]) (.seq (.seq (.reg [qM 4 0]) (.block 0 (.seq (.seq (.reg [qC 6 .eql 4 4,qM 5 6]) (.cond (.t 5) (.skip) (.seq (.reg [qC 7 .eql 4 7,qM 5 7]) (.cond (.t 5) (.skip) (.reg [qC 8 .eql 4 9,qM 5 8]))))) (.cond (.t 5) (.seq (.reg [qI 2 1,qI 3 1]) (.ret)) (.seq (.seq (.reg [qC 10 .eql 4 8,qM 9 10]) (.cond (.t 9) (.skip) (.reg [qC 11 .eql 4 10,qM 9 11]))) (.cond (.t 9) (.seq (.reg [qI 2 2,qI 3 2]) (.ret)) (.seq (.seq (.reg [qC 13 .eql 4 5,qM 12 13]) (.cond (.t 12) (.skip) (.reg [qC 14 .eql 4 6,qM 12 14]))) (.cond (.t 12) (.seq (.reg [qI 2 2,sO 3 (.mv (.c (.int .i64 (-1))))]) (.ret)) (.skip))))))))) (.seq (.reg [qI 2 0,qI 3 0]) (.ret)))⟩
theorem aKk:bF Tryz.prog ⟨[51,59,84,90,97,109,153,154,155,160],[],[],[]⟩ Tryz.f106=some aRv:=by kernel_rfl
theorem aHa (o:Int):aP Tryz.prog 106 [(iV o)] (V.tup [(iV (kLo o)),(iV (kHi o))]):=by
 refine pW Tryz.func106 aKk fun hB=>?_
 unfold aRv
 dsimp only
 refine W_r (aA rfl (aA rfl (R_e (aB (W_r (aA rfl (R_e ?_)))))))
 refine aE fun Q1 n1 x1 y1 z1=>(aB (W_r (bH rfl rfl (aA rfl (R_e ?_)))))
 refine aK rfl (fun c2=>?_) fun c2=>?_
 ·
  refine aD ?_
  refine cW rfl (fun c3=>?_) fun c3=>?_
  ·
   refine W_r (aA rfl (aA rfl (R_e (aN (y1 _ _ ?_)))))
   refine eE (rVq (iV 1)) (rVq (iV 1)) (aF ?_) (aF ?_)
   · simp only [kLo,kHi]; repeat (first|rfl|omega|split)
   · simp only [kLo,kHi]; repeat (first|rfl|omega|split)
  · exact (c3 c2).elim
 refine aB (W_r (bH rfl rfl (aA rfl (R_e ?_))))
 refine aK rfl (fun c4=>?_) fun c4=>?_
 ·
  refine aD ?_
  refine cW rfl (fun c5=>?_) fun c5=>?_
  ·
   refine W_r (aA rfl (aA rfl (R_e (aN (y1 _ _ ?_)))))
   refine eE (rVq (iV 1)) (rVq (iV 1)) (aF ?_) (aF ?_)
   · simp only [kLo,kHi]; repeat (first|rfl|omega|split)
   · simp only [kLo,kHi]; repeat (first|rfl|omega|split)
  · exact (c5 c4).elim
 refine W_r (bH rfl rfl (aA rfl (R_e ?_)))
 refine cW rfl (fun c6=>?_) fun c6=>?_
 ·
  refine W_r (aA rfl (aA rfl (R_e (aN (y1 _ _ ?_)))))
  refine eE (rVq (iV 1)) (rVq (iV 1)) (aF ?_) (aF ?_)
  · simp only [kLo,kHi]; repeat (first|rfl|omega|split)
  · simp only [kLo,kHi]; repeat (first|rfl|omega|split)
 refine aB (W_r (bH rfl rfl (aA rfl (R_e ?_))))
 refine aK rfl (fun c7=>?_) fun c7=>?_
 ·
  refine aD ?_
  refine cW rfl (fun c8=>?_) fun c8=>?_
  ·
   refine W_r (aA rfl (aA rfl (R_e (aN (y1 _ _ ?_)))))
   refine eE (rVq (iV 2)) (rVq (iV 2)) (aF ?_) (aF ?_)
   · simp only [kLo,kHi]; repeat (first|rfl|omega|split)
   · simp only [kLo,kHi]; repeat (first|rfl|omega|split)
  · exact (c8 c7).elim
 refine W_r (bH rfl rfl (aA rfl (R_e ?_)))
 refine cW rfl (fun c9=>?_) fun c9=>?_
 ·
  refine W_r (aA rfl (aA rfl (R_e (aN (y1 _ _ ?_)))))
  refine eE (rVq (iV 2)) (rVq (iV 2)) (aF ?_) (aF ?_)
  · simp only [kLo,kHi]; repeat (first|rfl|omega|split)
  · simp only [kLo,kHi]; repeat (first|rfl|omega|split)
 refine aB (W_r (bH rfl rfl (aA rfl (R_e ?_))))
 refine aK rfl (fun c10=>?_) fun c10=>?_
 ·
  refine aD ?_
  refine cW rfl (fun c11=>?_) fun c11=>?_
  ·
   refine W_r (aA rfl (aA rfl (R_e (aN (y1 _ _ ?_)))))
   refine eE (rVq (iV 2)) (rVq (iV (-1))) (aF ?_) (aF ?_)
   · simp only [kLo,kHi]; repeat (first|rfl|omega|split)
   · simp only [kLo,kHi]; repeat (first|rfl|omega|split)
  · exact (c11 c10).elim
 refine W_r (bH rfl rfl (aA rfl (R_e ?_)))
 refine cW rfl (fun c12=>?_) fun c12=>?_
 ·
  refine W_r (aA rfl (aA rfl (R_e (aN (y1 _ _ ?_)))))
  refine eE (rVq (iV 2)) (rVq (iV (-1))) (aF ?_) (aF ?_)
  · simp only [kLo,kHi]; repeat (first|rfl|omega|split)
  · simp only [kLo,kHi]; repeat (first|rfl|omega|split)
 refine dA (n1 _ _ (.done (W_r (aA rfl (aA rfl (R_e (aN ?_)))))))
 refine eE (rVq (iV 0)) (rVq (iV 0)) (aF ?_) (aF ?_)
 · simp only [kLo,kHi]; repeat (first|rfl|omega|split)
 · simp only [kLo,kHi]; repeat (first|rfl|omega|split)
theorem aEm (f:Fm):aP Tryz.prog 86 [(V.agg [(iV f.op),(iV f.arg),(V.sl (List.map cF f.kids))])] (iV (rgt f)):=by
 refine pW Tryz.func86 aNC fun hB=>?_
 unfold s86
 dsimp only
 refine W_r (cK (i:=1) (n:=0) (m:=3) (cs:=[(iV f.op),(iV f.arg),(V.sl (List.map cF f.kids))]) rfl (cVq rfl) rfl rfl rfl (aA rfl (R_e (W_r (aU rfl rfl (aL rfl rfl rfl rfl (aJ (aHa f.op) rfl ?_)))))))
 refine aA rfl (bG rfl rfl (bG rfl rfl (aA rfl (aA rfl (R_e (W_r (aU rfl rfl ?_)))))))
 refine aL rfl rfl rfl rfl (bM rfl (aA rfl (R_e (W_r (aU rfl rfl (aL rfl rfl rfl rfl (bH rfl rfl ?_)))))))
 refine aA rfl ?_
 refine aS 4 (fun T H=>T 1=(mPq 1)∧T 3=(iV (kLo f.op))∧T 4=(iV (kHi f.op))∧T 5=(iV ((f.kids.length:Nat):Int))∧T 23=(V.bool (decide ((f.op=(2:Int))∨(f.op=(3:Int)))))∧H 1=(bk 1 24 3 [[(iV f.op),(iV f.arg),(V.sl (List.map cF f.kids))]])∧True) ?_ ?_
 ·
  by_cases g1:f.op=(2:Int)
  ·
   refine G_n (edT g1 rfl) (G_n (edT g1 rfl) (G_n (edT g1 rfl) (aR (edT g1 rfl) rfl ?_)))
   exact ⟨rfl,rfl,rfl,rfl,(dH g1),rfl,trivial⟩
  ·
   refine aC (edF g1 rfl) (aU rfl rfl (aC (edF g1 rfl) (aL rfl rfl rfl rfl (aC (edF g1 rfl) (bH rfl rfl (aT (edF g1 rfl) rfl ?_))))))
   exact ⟨rfl,rfl,rfl,rfl,(dL g1),rfl,trivial⟩
 intro T H ⟨t1,t3,t4,t5,t23,h1,_⟩
 refine aA t23 (R_e (aE fun Q2 n2 x2 y2 z2=>?_))
 refine fW (fun T H=>T 1=(mPq 1)∧T 24=(V.bool (decide (((((f.op < (1:Int))∨((10:Int) < f.op))∨(((f.kids.length:Nat):Int) < (kLo f.op)))∨(((0:Int)≤(kHi f.op))∧((kHi f.op) < ((f.kids.length:Nat):Int))))∨((¬((f.op=(2:Int))∨(f.op=(3:Int))))∧(f.arg≠(0:Int))))))∧H 1=(bk 1 24 3 [[(iV f.op),(iV f.arg),(V.sl (List.map cF f.kids))]])∧True) ?_ ?_
 ·
  refine aU t1 h1 (aL rfl h1 rfl rfl (bW rfl rfl (aA rfl ?_)))
  refine aS 4 (fun T H=>T 1=(mPq 1)∧T 3=(iV (kLo f.op))∧T 4=(iV (kHi f.op))∧T 5=(iV ((f.kids.length:Nat):Int))∧T 6=(V.bool (decide ((f.op=(2:Int))∨(f.op=(3:Int)))))∧T 32=(V.bool (decide ((f.op < (1:Int))∨((10:Int) < f.op))))∧H 1=(bk 1 24 3 [[(iV f.op),(iV f.arg),(V.sl (List.map cF f.kids))]])∧True) ?_ ?_
  ·
   by_cases g3:f.op < (1:Int)
   ·
    refine G_n (edT g3 rfl) (G_n (edT g3 rfl) (G_n (edT g3 rfl) (aR (edT g3 rfl) rfl ?_)))
    exact ⟨t1,t3,t4,t5,rfl,(dH g3),h1,trivial⟩
   ·
    refine aC (edF g3 rfl) (aU t1 h1 (aC (edF g3 rfl) (aL rfl h1 rfl rfl (aC (edF g3 rfl) (gH rfl rfl (aT (edF g3 rfl) rfl ?_))))))
    exact ⟨t1,t3,t4,t5,rfl,(dL g3),h1,trivial⟩
  intro T H ⟨t1,t3,t4,t5,t6,t32,h1,_⟩
  refine aA t32 ?_
  refine aS 4 (fun T H=>T 1=(mPq 1)∧T 4=(iV (kHi f.op))∧T 5=(iV ((f.kids.length:Nat):Int))∧T 6=(V.bool (decide ((f.op=(2:Int))∨(f.op=(3:Int)))))∧T 37=(V.bool (decide (((f.op < (1:Int))∨((10:Int) < f.op))∨(((f.kids.length:Nat):Int) < (kLo f.op)))))∧H 1=(bk 1 24 3 [[(iV f.op),(iV f.arg),(V.sl (List.map cF f.kids))]])∧True) ?_ ?_
  ·
   by_cases g4:(f.op < (1:Int))∨((10:Int) < f.op)
   ·
    refine G_n (edT g4 rfl) (G_n (edT g4 rfl) (G_n (edT g4 rfl) (aR (edT g4 rfl) rfl ?_)))
    exact ⟨t1,t4,t5,t6,(dH g4),h1,trivial⟩
   ·
    refine aC (edF g4 rfl) (aA t5 (aC (edF g4 rfl) (aA t3 (aC (edF g4 rfl) (bW rfl rfl (aT (edF g4 rfl) rfl ?_))))))
    exact ⟨t1,t4,t5,t6,(dL g4),h1,trivial⟩
  intro T H ⟨t1,t4,t5,t6,t37,h1,_⟩
  refine aA t37 ?_
  refine aS 8 (fun T H=>T 1=(mPq 1)∧T 6=(V.bool (decide ((f.op=(2:Int))∨(f.op=(3:Int)))))∧T 46=(V.bool (decide ((((f.op < (1:Int))∨((10:Int) < f.op))∨(((f.kids.length:Nat):Int) < (kLo f.op)))∨(((0:Int)≤(kHi f.op))∧((kHi f.op) < ((f.kids.length:Nat):Int))))))∧H 1=(bk 1 24 3 [[(iV f.op),(iV f.arg),(V.sl (List.map cF f.kids))]])∧True) ?_ ?_
  ·
   by_cases g5:((f.op < (1:Int))∨((10:Int) < f.op))∨(((f.kids.length:Nat):Int) < (kLo f.op))
   ·
    refine G_n (edT g5 rfl) (G_n (edT g5 rfl) (G_n (edT g5 rfl) (bO (rVq (V.raw undef)) (bO (rVq (V.raw undef)) (bO (rVq (V.raw undef)) (G_n (edT g5 rfl) (aR (edT g5 rfl) rfl ?_)))))))
    exact ⟨t1,t6,(dH g5),h1,trivial⟩
   ·
    refine aC (edF g5 rfl) (aA t4 (aC (edF g5 rfl) (lI rfl rfl (aC (edF g5 rfl) (aA rfl ?_)))))
    refine aS 4 (fun T H=>T 1=(mPq 1)∧T 6=(V.bool (decide ((f.op=(2:Int))∨(f.op=(3:Int)))))∧T 38=(V.bool false)∧T 45=(V.bool (decide (((0:Int)≤(kHi f.op))∧((kHi f.op) < ((f.kids.length:Nat):Int)))))∧H 1=(bk 1 24 3 [[(iV f.op),(iV f.arg),(V.sl (List.map cF f.kids))]])∧True) ?_ ?_
    ·
     by_cases g6:(0:Int)≤(kHi f.op)
     ·
      refine aC (edT g6 rfl) (aA t5 (aC (edT g6 rfl) (aA t4 (aC (edT g6 rfl) (gH rfl rfl (aC (edF g5 rfl) (aR (edT g6 rfl) rfl ?_)))))))
      exact ⟨t1,t6,(edF g5 rfl),(dM g6),h1,trivial⟩
     ·
      refine G_n (edF g6 rfl) (G_n (edF g6 rfl) (G_n (edF g6 rfl) (aC (edF g5 rfl) (aT (edF g6 rfl) rfl ?_))))
      exact ⟨t1,t6,(edF g5 rfl),(dO g6),h1,trivial⟩
    intro T H ⟨t1,t6,t38,t45,h1,_⟩
    refine aT t38 t45 ?_
    exact ⟨t1,t6,(dL g5),h1,trivial⟩
  intro T H ⟨t1,t6,t46,h1,_⟩
  refine aA t46 ?_
  refine aS 8 (fun T H=>T 1=(mPq 1)∧T 55=(V.bool (decide (((((f.op < (1:Int))∨((10:Int) < f.op))∨(((f.kids.length:Nat):Int) < (kLo f.op)))∨(((0:Int)≤(kHi f.op))∧((kHi f.op) < ((f.kids.length:Nat):Int))))∨((¬((f.op=(2:Int))∨(f.op=(3:Int))))∧(f.arg≠(0:Int))))))∧H 1=(bk 1 24 3 [[(iV f.op),(iV f.arg),(V.sl (List.map cF f.kids))]])∧True) ?_ ?_
  ·
   by_cases g7:(((f.op < (1:Int))∨((10:Int) < f.op))∨(((f.kids.length:Nat):Int) < (kLo f.op)))∨(((0:Int)≤(kHi f.op))∧((kHi f.op) < ((f.kids.length:Nat):Int)))
   ·
    refine G_n (edT g7 rfl) (G_n (edT g7 rfl) (G_n (edT g7 rfl) (bO (rVq (V.raw undef)) (bO (rVq (V.raw undef)) (bO (rVq (V.raw undef)) (G_n (edT g7 rfl) (aR (edT g7 rfl) rfl ?_)))))))
    exact ⟨t1,(dH g7),h1,trivial⟩
   ·
    refine aC (edF g7 rfl) (aA t6 (aC (edF g7 rfl) (rF rfl (aC (edF g7 rfl) (aA rfl ?_)))))
    refine aS 4 (fun T H=>T 1=(mPq 1)∧T 47=(V.bool false)∧T 54=(V.bool (decide ((¬((f.op=(2:Int))∨(f.op=(3:Int))))∧(f.arg≠(0:Int)))))∧H 1=(bk 1 24 3 [[(iV f.op),(iV f.arg),(V.sl (List.map cF f.kids))]])∧True) ?_ ?_
    ·
     by_cases g8: ¬((f.op=(2:Int))∨(f.op=(3:Int)))
     ·
      refine aC (edT g8 rfl) (aU t1 h1 (aC (edT g8 rfl) (aL rfl h1 rfl rfl (aC (edT g8 rfl) (cM rfl rfl (aC (edF g7 rfl) (aR (edT g8 rfl) rfl ?_)))))))
      exact ⟨t1,(edF g7 rfl),(dM g8),h1,trivial⟩
     ·
      refine G_n (edF g8 rfl) (G_n (edF g8 rfl) (G_n (edF g8 rfl) (aC (edF g7 rfl) (aT (edF g8 rfl) rfl ?_))))
      exact ⟨t1,(edF g7 rfl),(dO g8),h1,trivial⟩
    intro T H ⟨t1,t47,t54,h1,_⟩
    refine aT t47 t54 ?_
    exact ⟨t1,(dL g7),h1,trivial⟩
  intro T H ⟨t1,t55,h1,_⟩
  refine aA t55 ?_
  exact fM ⟨t1,rfl,h1,trivial⟩
 intro T H ⟨t1,t24,h1,_⟩
 refine cW t24 (fun c9=>?_) fun c9=>?_
 ·
  refine W_r (aA rfl (R_e (aN (y2 _ _ ?_))))
  refine bB (rVq (iV 1)) (aF ?_)
  · simp only [rgt]; repeat (first|rfl|omega|split)
 refine W_r (aU t1 h1 (aL rfl h1 rfl rfl (bH rfl rfl (aA rfl ?_))))
 refine aS 9 (fun T H=>T 1=(mPq 1)∧T 69=(V.bool (decide ((f.op=(2:Int))∧((f.arg < (0:Int))∨((64:Int)≤f.arg)))))∧H 1=(bk 1 24 3 [[(iV f.op),(iV f.arg),(V.sl (List.map cF f.kids))]])∧True) ?_ ?_
 ·
  by_cases g10:f.op=(2:Int)
  ·
   refine aC (edT g10 rfl) (aU t1 h1 (aC (edT g10 rfl) (aL rfl h1 rfl rfl (aC (edT g10 rfl) (bW rfl rfl (aC (edT g10 rfl) (aA rfl ?_)))))))
   refine aS 4 (fun T H=>T 1=(mPq 1)∧T 60=(V.bool true)∧T 68=(V.bool (decide ((f.arg < (0:Int))∨((64:Int)≤f.arg))))∧H 1=(bk 1 24 3 [[(iV f.op),(iV f.arg),(V.sl (List.map cF f.kids))]])∧True) ?_ ?_
   ·
    by_cases g11:f.arg < (0:Int)
    ·
     refine G_n (edT g11 rfl) (G_n (edT g11 rfl) (G_n (edT g11 rfl) (aC (edT g10 rfl) (aR (edT g11 rfl) rfl ?_))))
     exact ⟨t1,(edT g10 rfl),(dH g11),h1,trivial⟩
    ·
     refine aC (edF g11 rfl) (aU t1 h1 (aC (edF g11 rfl) (aL rfl h1 rfl rfl (aC (edF g11 rfl) (lI rfl rfl (aC (edT g10 rfl) (aT (edF g11 rfl) rfl ?_)))))))
     exact ⟨t1,(edT g10 rfl),(dL g11),h1,trivial⟩
   intro T H ⟨t1,t60,t68,h1,_⟩
   refine aR t60 t68 ?_
   exact ⟨t1,(dM g10),h1,trivial⟩
  ·
   refine G_n (edF g10 rfl) (G_n (edF g10 rfl) (G_n (edF g10 rfl) (G_n (edF g10 rfl) (bO (rVq (V.raw undef)) (bO (rVq (V.raw undef)) (bO (rVq (V.raw undef)) (G_n (edF g10 rfl) ?_)))))))
   refine aT (edF g10 rfl) rfl ?_
   exact ⟨t1,(dO g10),h1,trivial⟩
 intro T H ⟨t1,t69,h1,_⟩
 refine aA t69 ?_
 refine aS 14 (fun T H=>T 84=(V.bool (decide (((f.op=(2:Int))∧((f.arg < (0:Int))∨((64:Int)≤f.arg)))∨((f.op=(3:Int))∧((f.arg < (0:Int))∨((1048576:Int) < f.arg))))))∧H 1=(bk 1 24 3 [[(iV f.op),(iV f.arg),(V.sl (List.map cF f.kids))]])∧True) ?_ ?_
 ·
  by_cases g12:(f.op=(2:Int))∧((f.arg < (0:Int))∨((64:Int)≤f.arg))
  ·
   refine G_n (edT g12 rfl) (G_n (edT g12 rfl) (G_n (edT g12 rfl) (G_n (edT g12 rfl) (bO (rVq (V.raw undef)) (bO (rVq (V.raw undef)) (bO (rVq (V.raw undef)) (bO (rVq (V.raw undef)) ?_)))))))
   refine bO (rVq (V.raw undef)) (bO (rVq (V.raw undef)) (bO (rVq (V.raw undef)) (bO (rVq (V.raw undef)) (G_n (edT g12 rfl) (aR (edT g12 rfl) rfl ?_)))))
   exact ⟨(dH g12),h1,trivial⟩
  ·
   refine aC (edF g12 rfl) (aU t1 h1 (aC (edF g12 rfl) (aL rfl h1 rfl rfl (aC (edF g12 rfl) (bH rfl rfl (aC (edF g12 rfl) (aA rfl ?_)))))))
   refine aS 9 (fun T H=>T 70=(V.bool false)∧T 83=(V.bool (decide ((f.op=(3:Int))∧((f.arg < (0:Int))∨((1048576:Int) < f.arg)))))∧H 1=(bk 1 24 3 [[(iV f.op),(iV f.arg),(V.sl (List.map cF f.kids))]])∧True) ?_ ?_
   ·
    by_cases g13:f.op=(3:Int)
    ·
     refine aC (edT g13 rfl) (aU t1 h1 (aC (edT g13 rfl) (aL rfl h1 rfl rfl (aC (edT g13 rfl) (bW rfl rfl (aC (edT g13 rfl) (aA rfl ?_)))))))
     refine aS 4 (fun T H=>T 70=(V.bool false)∧T 74=(V.bool true)∧T 82=(V.bool (decide ((f.arg < (0:Int))∨((1048576:Int) < f.arg))))∧H 1=(bk 1 24 3 [[(iV f.op),(iV f.arg),(V.sl (List.map cF f.kids))]])∧True) ?_ ?_
     ·
      by_cases g14:f.arg < (0:Int)
      ·
       refine G_n (edT g14 rfl) (G_n (edT g14 rfl) (G_n (edT g14 rfl) (aC (edT g13 rfl) (aR (edT g14 rfl) rfl ?_))))
       exact ⟨(edF g12 rfl),(edT g13 rfl),(dH g14),h1,trivial⟩
      ·
       refine aC (edF g14 rfl) (aU t1 h1 (aC (edF g14 rfl) (aL rfl h1 rfl rfl (aC (edF g14 rfl) (gH rfl rfl (aC (edT g13 rfl) (aT (edF g14 rfl) rfl ?_)))))))
       exact ⟨(edF g12 rfl),(edT g13 rfl),(dL g14),h1,trivial⟩
     intro T H ⟨t70,t74,t82,h1,_⟩
     refine aC t70 (aR t74 t82 ?_)
     exact ⟨t70,(dM g13),h1,trivial⟩
    ·
     refine G_n (edF g13 rfl) (G_n (edF g13 rfl) (G_n (edF g13 rfl) (G_n (edF g13 rfl) (bO (rVq (V.raw undef)) (bO (rVq (V.raw undef)) (bO (rVq (V.raw undef)) (G_n (edF g13 rfl) ?_)))))))
     refine aC (edF g12 rfl) (aT (edF g13 rfl) rfl ?_)
     exact ⟨(edF g12 rfl),(dO g13),h1,trivial⟩
   intro T H ⟨t70,t83,h1,_⟩
   refine aT t70 t83 ?_
   exact ⟨(dL g12),h1,trivial⟩
 intro T H ⟨t84,h1,_⟩
 refine aA t84 (R_e ?_)
 refine cW rfl (fun c15=>?_) fun c15=>?_
 ·
  refine W_r (aA rfl (R_e (aN (y2 _ _ ?_))))
  refine bB (rVq (iV 2)) (aF ?_)
  · simp only [rgt]; repeat (first|rfl|omega|split)
 refine dA (n2 _ _ (.done (W_r (aA rfl (R_e (aN ?_))))))
 refine bB (rVq (iV 0)) (aF ?_)
 · simp only [rgt]; repeat (first|rfl|omega|split)
theorem aEs (v:Nat) (f:Fm) (lv b:Int) (hb:0≤b∧b≤4096) (hl:0≤lv∧lv≤65) (ih: ∀ (v:Nat) (g:Fm) (lv b:Int),g.sz < f.sz→0≤b∧b≤4096→0≤lv∧lv≤65→zO Tryz.prog 59 1 [.mp 0 v 0 0,.agg [iV g.op,iV g.arg,.sl (g.kids.map cF)],iV lv] (hpB (bk v 105 1 [[iV b]])) (.ok (iV (exm g lv b).2) (hpB (bk v 105 1 [[iV (exm g lv b).1]])))):zO Tryz.prog 59 1 [(V.mp 0 v 0 0),(V.agg [(iV f.op),(iV f.arg),(V.sl (List.map cF f.kids))]),(iV lv)] (hpB (bk v 105 1 [[(iV b)]])) (.ok (iV (exm f lv b).2) (hpB (bk v 105 1 [[iV (exm f lv b).1]]))):=by
 refine lW (k0:=0) Tryz.func59 aN2 fun hB=>?_
 unfold s59
 dsimp only
 refine W_r (cK (i:=4) (n:=0) (m:=3) (cs:=[(iV f.op),(iV f.arg),(V.sl (List.map cF f.kids))]) rfl (cVq rfl) rfl rfl rfl (aA rfl (R_e (W_r (aA rfl (bK rfl rfl oB (aU rfl rfl ?_)))))))
 refine aL rfl rfl rfl rfl (rO rfl rfl (by omega) (by omega) (bK rfl rfl oB (aU rfl rfl (bP rfl rfl rfl rfl rfl rfl rfl rfl rfl (R_e (aE fun Q1 n1 x1 y1 z1=>(W_r ?_)))))))
 refine aA rfl (bK rfl rfl oB (aU rfl rfl (aL rfl rfl rfl rfl (gH rfl rfl (aA rfl (R_e ?_))))))
 refine cW rfl (fun c2=>?_) fun c2=>?_
 ·
  refine W_r (aA rfl (R_e (aN (y1 _ _ ?_))))
  refine rG (v:=(iV 11)) (b:=(bk v 105 1 [[(iV (b+(1:Int)))]])) (aCZ (cR (rVq (iV 11)))) ?_ (by simp) (.same (oQ 1 _) _) (@rfl Blk (bk v 105 1 [[(iV (b+(1:Int)))]])) (by simp [pX,nA])
  rw [aA7,if_pos (by omega)]
 refine W_r (aA rfl (gH rfl rfl (aA rfl (R_e ?_))))
 refine cW rfl (fun c3=>?_) fun c3=>?_
 ·
  refine W_r (aA rfl (R_e (aN (y1 _ _ ?_))))
  refine rG (v:=(iV 16)) (b:=(bk v 105 1 [[(iV (b+(1:Int)))]])) (aCZ (cR (rVq (iV 16)))) ?_ (by simp) (.same (oQ 1 _) _) (@rfl Blk (bk v 105 1 [[(iV (b+(1:Int)))]])) (by simp [pX,nA])
  rw [aA7,if_neg (by omega),if_pos (by omega)]
 refine dA (n1 _ _ (.done (aB (W_r (aL rfl rfl rfl rfl (aJ (aEm f) rfl (aA rfl ?_)))))))
 refine R_e (aB (W_r (aA rfl (cM rfl rfl (R_e ?_)))))
 refine aK rfl (fun c4=>?_) fun c4=>?_
 ·
  refine aB (W_r (aA rfl (aA rfl (R_e (aW ?_)))))
  refine rG (v:=(iV (rgt f))) (b:=(bk v 105 1 [[(iV (b+(1:Int)))]])) (aCZ (cR (rVq (iV (rgt f))))) ?_ (by simp) (.same (oQ 1 _) _) (@rfl Blk (bk v 105 1 [[(iV (b+(1:Int)))]])) (by simp [pX,nA])
  rw [aA7,if_neg (by omega),if_neg (by omega),if_pos (by omega)]
 refine aD (aB (W_r (aU rfl rfl (aL rfl rfl rfl rfl (bM rfl (aA rfl (R_e ?_)))))))
 refine aE fun Q5 n5 x5 y5 z5=>?_
 refine cQ (fun mm T H=> ∃ (k:Nat) (n:Int) (v9:Nat),mm=f.kids.length - k∧T 0=(V.mp 0 v 0 0)∧T 2=(iV lv)∧T 33=(V.sl (List.map cF f.kids))∧T 34=(iV ((f.kids.length:Nat):Int))∧T 35=(iV ((k:Nat):Int))∧H 0=(bk v 105 1 [[(iV n)]])∧H 4=(bk 1 24 3 [[(iV f.op),(iV f.arg),(V.sl (List.map cF f.kids))]])∧(H 9).ver=v9∧(k≤f.kids.length)∧(0≤n∧n≤4096)∧(exm f lv b=jM (f.kids.drop k) (lv+1) n)) ?_ ?_
 ·
  refine ⟨_,0,b+1,0,rfl,rfl,rfl,rfl,rfl,(eTq (rVq (iV 0)) rfl),(eTq (@rfl Blk (bk v 105 1 [[(iV (b+(1:Int)))]])) (by rfl)),rfl,(cVq rfl),?_,?_,?_⟩
  · omega
  · omega
  · rw [aA7,if_neg (by omega),if_neg (by omega),if_neg (by omega)]; rfl
 intro mm T H ⟨k,n,v9,hmm,t0,t2,t33,t34,t35,h0,h4,h9,hk,hn,hc⟩ Q6 p16 p26 p36
 unfold aM6
 refine W_r (bW t35 t34 (R_e ?_))
 refine aK rfl (fun c7=>?_) fun c7=>?_
 ·
  refine aD (aE fun Q8 n8 x8 y8 z8=>(W_r (dC (i:=k) t33 t35 (by omega) (bX _) rfl (aH rfl rfl (bE (i:=9) (n:=v9) (m:=3) rfl h9 rfl (bP rfl rfl rfl rfl rfl rfl rfl rfl rfl (R_e ?_)))))))
  refine W_r (aA t0 (aL rfl rfl rfl rfl (aA t2 (rO rfl rfl (by omega) (by omega) (fP (aY rfl (aY rfl (aY rfl cU))) (zO.use1 (i:=0) (ih v (nth f.kids k) (lv+(1:Int)) n (Fm.sz_kid (by omega)) (by omega) (by omega)) rfl h0 rfl rfl) (aA rfl (R_e ?_)))))))
  refine W_r (aA rfl (cM rfl rfl (R_e ?_)))
  refine cW rfl (fun c9=>?_) fun c9=>?_
  ·
   have q0:=vX (nth f.kids k) (lv+1) n
   refine W_r (aA rfl (aA rfl (R_e (aN (y8 _ _ (p26 _ _ (y5 _ _ ?_)))))))
   refine rG (v:=(iV ((exm (nth f.kids k) (lv+(1:Int)) n).2))) (b:=(bk v 105 1 [[(iV ((exm (nth f.kids k) (lv+(1:Int)) n).1))]])) (aCZ (cR (rVq (iV ((exm (nth f.kids k) (lv+(1:Int)) n).2))))) ?_ (by simp) (.same (oQ 1 _) _) (@rfl Blk (bk v 105 1 [[(iV ((exm (nth f.kids k) (lv+(1:Int)) n).1))]])) (by simp [pX,nA])
   rw [hc,aHC (by omega) (by omega)]
  have q0:=vX (nth f.kids k) (lv+1) n
  refine dA (n8 _ _ (.done (W_t (bL t35 (rNq 1) (by omega) (aA rfl (R_e ?_))))))
  refine p16 _ _ _ ?_ ⟨(k+1),(exm (nth f.kids k) (lv+1) n).1,(v9+1),rfl,t0,t2,t33,t34,(eTq (rNq (k+1)) (by rfl)),(eTq (@rfl Blk (bk v 105 1 [[(iV ((exm (nth f.kids k) (lv+(1:Int)) n).1))]])) (by rfl)),h4,(cVq rfl),?_,?_,?_⟩
  · omega
  · omega
  · exact ⟨by omega,q0.2 (by omega)⟩
  · rw [hc,aKO (by omega) (by omega)]
 refine aX (p36 _ _ _ (x5 _ _ (.done (W_r (aA rfl (R_e (aN ?_)))))))
 refine rG (v:=(iV 0)) (b:=(bk v 105 1 [[(iV n)]])) (aCZ (cR (rVq (iV 0)))) ?_ (by simp) (.same (oQ 1 _) _) h0 (by simp [pX,nA])
 rw [hc,aI9 (by omega)]
theorem aG6 (v:Nat) (f:Fm) (lv b:Int) (hb:0≤b∧b≤4096) (hl:0≤lv∧lv≤65):zO Tryz.prog 59 1 [.mp 0 v 0 0,.agg [iV f.op,iV f.arg,.sl (f.kids.map cF)],iV lv] (hpB (bk v 105 1 [[iV b]])) (.ok (iV (exm f lv b).2) (hpB (bk v 105 1 [[iV (exm f lv b).1]]))):=by
  have key: ∀ (m:Nat) (v:Nat) (g:Fm) (lv b:Int),g.sz < m→0≤b∧b≤4096→0≤lv∧lv≤65→zO Tryz.prog 59 1 [.mp 0 v 0 0,.agg [iV g.op,iV g.arg,.sl (g.kids.map cF)],iV lv] (hpB (bk v 105 1 [[iV b]])) (.ok (iV (exm g lv b).2) (hpB (bk v 105 1 [[iV (exm g lv b).1]]))):=by
    intro m
    induction m with
    |zero=>intro v g lv b h; exact absurd h (Nat.not_lt_zero _)
    | succ m ih =>
      intro v g lv b h hb hl
      exact aEs v g lv b hb hl fun v2 g2 lv2 b2 h2=>ih v2 g2 lv2 b2 (by omega)
  exact key (f.sz+1) v f lv b (Nat.lt_succ_self _) hb hl
theorem gX (f:Fm):aP Tryz.prog 35 [(V.agg [(iV f.op),(iV f.arg),(V.sl (List.map cF f.kids))])] (iV (cE f)):=by
 refine pW Tryz.func35 aOW fun hB=>?_
 unfold s35
 dsimp only
 refine W_r (cK (i:=1) (n:=0) (m:=3) (cs:=[(iV f.op),(iV f.arg),(V.sl (List.map cF f.kids))]) rfl (cVq rfl) rfl rfl rfl (aA rfl (R_e (W_r (bI rfl rfl (cK (i:=5) (n:=0) (m:=1) (cs:=[(iV 0)]) rfl (cVq rfl) rfl rfl rfl (aA rfl ?_)))))))
 refine R_e (W_r (aA rfl (aL rfl rfl rfl rfl (fP (aY rfl (aY rfl (aY rfl cU))) (zO.use1 (i:=5) (aG6 1 f (1:Int) (0:Int) (by omega) (by omega)) rfl rfl rfl rfl) (aA rfl (R_e (aN ?_)))))))
 refine bB (rVq (iV ((exm f (1:Int) (0:Int)).2))) (aF ?_)
 · rfl
def aQr:List SO:=[
 qL 7 3 1,
 sO 8 (.call false 60 [.t 7]),
 qM 6 8,
 qE 9 6 0,
 qE 10 6 1,
 sO 4 (.alloc 24 [.int .i64 0,.int .i64 0,.nilsl]),
 sN (.store 3 (.t 4) (.t 9)),
 qM 5 10]
def s36:SF:=⟨23,[.cell 2 true 3,.tmp 3],.seq (.reg [sO 1 (.box 24 3 (.t 0)),sO 2 (.alloc 24 [.int .i64 0,.int .i64 0,.nilsl]),qI 3 0]) (.seq (.reg aQr) (.seq (.seq (.reg [qM 11 5,qC 12 .neq 11 0]) (.cond (.t 12) (.seq (.reg [sO 13 (.build [.int .i64 0,.int .i64 0,.nilsl] []),qM 14 5,sN (.store 3 (.t 2) (.t 13)),qM 3 14]) (.ret)) (.skip))) (.seq (.seq (.reg [qL 15 3 4,sO 16 (.call false 35 [.t 15]),qM 5 16]) (.seq (.reg [qM 17 5,qC 18 .neq 17 0]) (.cond (.t 18) (.seq (.reg [sO 19 (.build [.int .i64 0,.int .i64 0,.nilsl] []),qM 20 5,sN (.store 3 (.t 2) (.t 19)),qM 3 20]) (.ret)) (.skip)))) (.seq (.reg [qL 21 3 4,sO 22 (.call false 61 [.t 21]),sN (.store 3 (.t 2) (.t 22)),qI 3 0]) (.ret)))))⟩
theorem aND:bF Tryz.prog ⟨[51,59,84,90,97,109,153,154,155,160],[],[],[]⟩ Tryz.f36=some s36:=by kernel_rfl
def aQ7:List SO:=[
 qL 10 3 1,
 sO 11 (.call false 87 [.t 10]),
 qM 9 11,
 qE 12 9 0,
 qE 13 9 1,
 qM 4 12,
 qM 5 13]
def aOF:List SO:=[
 qM 40 6,
 qM 41 8,
 sO 42 (.idx 3 (.t 41) (.c (.int .i64 0))),
 qL 43 3 42,
 sO 44 (.bslice 24 3 false [.int .i64 0,.int .i64 0,.nilsl] 1 [(0,.t 43)]),
 sO 45 (.append 24 3 40 (.t 40) (.t 44)),
 qM 6 45]
def aNr:SC:=.seq (.reg [qP 25 .lss 24 23]) (.seq (.cond (.t 25) (.skip) (.exit 0)) (.seq (.block 1 (.seq (.reg [qA 26 1 22 24,ql 27 26,qM 8 27]) (.seq (.reg [qM 28 8,qN 29 28]) (.block 2 (.seq (.reg [qC 36 .eql 29 0,qM 35 36]) (.cond (.t 35) (.seq (.reg [sO 37 (.call false 89 []),sN (.store 3 (.t 2) (.t 37)),qI 3 0]) (.ret)) (.seq (.reg [qC 39 .eql 29 1,qM 38 39]) (.cond (.t 38) (.reg aOF) (.reg [qM 30 6,qM 31 8,sO 32 (.call false 67 [.c (.int .i64 5),.t 31]),sO 33 (.bslice 24 3 false [.int .i64 0,.int .i64 0,.nilsl] 1 [(0,.t 32)]),sO 34 (.append 24 3 40 (.t 30) (.t 33)),qM 6 34]))))))))) (.reg [qC 46 .add 24 1,qM 24 46])))
def s60:SF:=⟨57,[.cell 2 true 3,.tmp 3],.seq (.reg [sO 1 (.box 24 3 (.t 0)),sO 2 (.alloc 24 [.int .i64 0,.int .i64 0,.nilsl]),qI 3 0]) (.seq (.reg aQ7) (.seq (.seq (.reg [qM 14 5,qC 15 .neq 14 0]) (.cond (.t 15) (.seq (.reg [sO 16 (.build [.int .i64 0,.int .i64 0,.nilsl] []),qM 17 5,sN (.store 3 (.t 2) (.t 16)),qM 3 17]) (.ret)) (.skip))) (.seq (.seq (.reg [qM 18 4,qN 19 18,qC 20 .eql 19 0]) (.cond (.t 20) (.seq (.reg [sO 21 (.call false 88 []),sN (.store 3 (.t 2) (.t 21)),qI 3 0]) (.ret)) (.skip))) (.seq (.reg [sO 6 (.lazy 24 3)]) (.seq (.seq (.reg [qM 22 4,qN 23 22,qI 24 0]) (.block 0 (.loop aNr))) (.seq (.seq (.reg [qM 47 6,qN 48 47,qC 49 .eql 48 1]) (.cond (.t 49) (.seq (.reg [qM 50 6,sO 51 (.idx 3 (.t 50) (.c (.int .i64 0))),qL 52 3 51,sN (.store 3 (.t 2) (.t 52)),qI 3 0]) (.ret)) (.skip))) (.seq (.reg [qM 53 6,sO 54 (.call true 90 [.t 53,.c (.fn 91 [] [])])]) (.seq (.reg [qM 55 6,sO 56 (.call false 67 [.c (.int .i64 6),.t 55]),sN (.store 3 (.t 2) (.t 56)),qI 3 0]) (.ret)))))))))⟩
theorem aPq:bF Tryz.prog ⟨[51,59,84,90,97,109,153,154,155,160],[6],[],[]⟩ Tryz.f60=some s60:=by kernel_rfl
def s67:SF:=⟨8,[.cell 4 true 3],.seq (.reg [sO 4 (.alloc 24 [.int .i64 0,.int .i64 0,.nilsl])]) (.seq (.reg [qM 5 0,qM 6 1,sO 7 (.build [.int .i64 0,.int .i64 0,.nilsl] [(0,1,.t 5),(2,1,.t 6)]),sN (.store 3 (.t 4) (.t 7))]) (.ret))⟩
theorem aPw:bF Tryz.prog ⟨[51,59,84,90,97,109,153,154,155,160],[],[],[]⟩ Tryz.f67=some s67:=by kernel_rfl
theorem iT (o:Int) (l:List Fm):aP Tryz.prog 67 [(iV o),(V.sl (List.map cF l))] (V.agg [(iV o),(iV 0),(V.sl (List.map cF l))]):=by
 refine pW Tryz.func67 aPw fun hB=>?_
 unfold s67
 dsimp only
 refine W_r (bE (i:=4) (n:=0) (m:=3) rfl (cVq rfl) rfl (R_e (W_r (aA rfl (aA rfl (bI rfl rfl (bP rfl rfl rfl rfl rfl rfl rfl rfl rfl ?_)))))))
 refine R_e (aN ?_)
 refine eK (bS (u:=(V.agg [(iV o),(iV 0),(V.sl (List.map cF l))])) rfl (@rfl Blk (bk 1 24 3 [[(iV o),(iV 0),(V.sl (List.map cF l))]])) (lB oB rfl rfl)) (cA (by simp) rfl)
def s88:SF:=⟨3,[.cell 0 true 3],.seq (.reg [sO 0 (.alloc 24 [.int .i64 0,.int .i64 0,.nilsl])]) (.seq (.reg [sO 1 (.call false 89 []),sO 2 (.call false 62 [.t 1]),sN (.store 3 (.t 0) (.t 2))]) (.ret))⟩
theorem aO8:bF Tryz.prog ⟨[51,59,84,90,97,109,153,154,155,160],[],[],[]⟩ Tryz.f88=some s88:=by kernel_rfl
def s62:SF:=⟨6,[.cell 2 true 3],.seq (.reg [sO 1 (.box 24 3 (.t 0)),sO 2 (.alloc 24 [.int .i64 0,.int .i64 0,.nilsl])]) (.seq (.reg [qL 3 3 1,sO 4 (.bslice 24 3 false [.int .i64 0,.int .i64 0,.nilsl] 1 [(0,.t 3)]),sO 5 (.build [.int .i64 0,.int .i64 0,.nilsl] [(0,1,.c (.int .i64 4)),(2,1,.t 4)]),sN (.store 3 (.t 2) (.t 5))]) (.ret))⟩
theorem aOb:bF Tryz.prog ⟨[51,59,84,90,97,109,153,154,155,160],[],[],[]⟩ Tryz.f62=some s62:=by kernel_rfl
theorem aAu (f:Fm):aP Tryz.prog 62 [(V.agg [(iV f.op),(iV f.arg),(V.sl (List.map cF f.kids))])] (V.agg [(iV 4),(iV 0),(V.sl (List.map cF ([f])))]):=by
 refine pW Tryz.func62 aOb fun hB=>?_
 unfold s62
 dsimp only
 refine W_r (cK (i:=1) (n:=0) (m:=3) (cs:=[(iV f.op),(iV f.arg),(V.sl (List.map cF f.kids))]) rfl (cVq rfl) rfl rfl rfl (bE (i:=2) (n:=0) (m:=3) rfl (cVq rfl) rfl (R_e (W_r (aL rfl rfl rfl rfl (bC rfl rfl (bI rfl rfl ?_)))))))
 refine bP rfl rfl rfl rfl rfl rfl rfl rfl rfl (R_e (aN ?_))
 refine eK (bS (u:=(V.agg [(iV 4),(iV 0),(V.sl [[(iV f.op),(iV f.arg),(V.sl (List.map cF f.kids))]])])) rfl (@rfl Blk (bk 1 24 3 [[(iV 4),(iV 0),(V.sl [[(iV f.op),(iV f.arg),(V.sl (List.map cF f.kids))]])]])) (lB oB rfl rfl)) (bV (cA (by simp) rfl) (cA (by simp) rfl) (cA (by simp) (aP8 (x:=f) rfl)))
def s89:SF:=⟨2,[.cell 0 true 3],.seq (.reg [sO 0 (.alloc 24 [.int .i64 0,.int .i64 0,.nilsl])]) (.seq (.reg [sO 1 (.build [.int .i64 0,.int .i64 0,.nilsl] [(0,1,.c (.int .i64 1))]),sN (.store 3 (.t 0) (.t 1))]) (.ret))⟩
theorem aOL:bF Tryz.prog ⟨[51,59,84,90,97,109,153,154,155,160],[],[],[]⟩ Tryz.f89=some s89:=by kernel_rfl
theorem tF:aP Tryz.prog 89 [] (V.agg [(iV 1),(iV 0),(V.sl (List.map cF ([])))]):=by
 refine pW Tryz.func89 aOL fun hB=>?_
 unfold s89
 dsimp only
 refine W_r (bE (i:=0) (n:=0) (m:=3) rfl (cVq rfl) rfl (R_e (W_r (bI rfl rfl (bP rfl rfl rfl rfl rfl rfl rfl rfl rfl (R_e (aN ?_)))))))
 refine eK (bS (u:=(V.agg [(iV 1),(iV 0),V.nilsl])) rfl (@rfl Blk (bk 1 24 3 [[(iV 1),(iV 0),V.nilsl]])) (lB oB rfl rfl)) (bV (cA (by simp) rfl) (cA (by simp) rfl) (dD ?_))
 · first|rfl|omega|simp_all
theorem aCJ:aP Tryz.prog 88 [] (V.agg [(iV 4),(iV 0),(V.sl (List.map cF ([Fm.nd 1 0 []])))]):=by
 refine pW Tryz.func88 aO8 fun hB=>?_
 unfold s88
 dsimp only
 refine W_r (bE (i:=0) (n:=0) (m:=3) rfl (cVq rfl) rfl (R_e (W_r (aJ tF rfl (aJ (aAu (⟨(1:Int),(0:Int),([])⟩:Fm)) rfl (bP rfl rfl rfl rfl rfl rfl rfl rfl rfl (R_e ?_)))))))
 refine aN ?_
 refine eK (bS (u:=(V.agg [(iV 4),(iV 0),(V.sl (List.map cF ([(⟨(1:Int),(0:Int),([])⟩:Fm)])))])) rfl (@rfl Blk (bk 1 24 3 [[(iV 4),(iV 0),(V.sl (List.map cF ([(⟨(1:Int),(0:Int),([])⟩:Fm)])))]])) (lB oB rfl rfl)) (bV (cA (by simp) rfl) (cA (by simp) rfl) (eI ?_ (fun _=>by simp)))
 · first|rfl|omega|simp_all
def aRY:List SO:=[
 qF 8 0 2,
 ql 9 8,
 qF 10 0 3,
 ql 11 10,
 sO 12 (.call false 112 [.t 9,.t 11]),
 qF 13 1 2,
 ql 14 13,
 qF 15 1 3,
 ql 16 15,
 sO 17 (.call false 112 [.t 14,.t 16]),
 qF 18 2 2,
 ql 19 18,
 qN 20 19,
 qF 21 2 3,
 ql 22 21,
 qN 23 22,
 sO 24 (.call false 112 [.t 20,.t 23]),
 sO 25 (.bslice 3 1 false [.int .i64 0] 3 [(0,.t 12),(1,.t 17),(2,.t 24)]),
 sO 26 (.call false 111 [.t 25]),
 qM 5 26]
def aRD:List SO:=[
 qF 36 2 2,
 ql 37 36,
 qM 38 6,
 qA 39 3 37 38,
 qL 40 3 39,
 qF 41 2 3,
 ql 42 41,
 qM 43 6,
 qA 44 3 42 43,
 qL 45 3 44,
 sO 46 (.call false 91 [.t 40,.t 45]),
 qM 7 46]
def aM2:SC:=.seq (.reg [qP 34 .lss 33 32]) (.seq (.cond (.t 34) (.skip) (.exit 0)) (.seq (.block 1 (.seq (.reg [qM 35 33,qM 6 35]) (.seq (.reg aRD) (.seq (.reg [qM 47 7,qC 48 .neq 47 0]) (.cond (.t 48) (.seq (.reg [qM 49 7,qM 4 49]) (.ret)) (.skip)))))) (.reg [qC 50 .add 33 1,qM 33 50])))
def s91:SF:=⟨51,[.tmp 4],.seq (.reg [sO 2 (.box 24 3 (.t 0)),sO 3 (.box 24 3 (.t 1)),qI 4 0]) (.seq (.seq (.reg aRY) (.seq (.reg [qM 27 5,qC 28 .neq 27 0]) (.cond (.t 28) (.seq (.reg [qM 29 5,qM 4 29]) (.ret)) (.skip)))) (.seq (.seq (.reg [qF 30 2 2,ql 31 30,qN 32 31,qI 33 0]) (.block 0 (.loop aM2))) (.seq (.reg [qI 4 0]) (.ret))))⟩
theorem aO7:bF Tryz.prog ⟨[51,59,84,90,97,109,153,154,155,160],[],[],[]⟩ Tryz.f91=some s91:=by kernel_rfl
def aHZ:SC:=.seq (.reg [qP 9 .lss 8 7]) (.seq (.cond (.t 9) (.skip) (.exit 0)) (.seq (.block 1 (.seq (.reg [qA 10 1 6 8,ql 11 10,qM 5 11]) (.seq (.reg [qM 12 5,qM 13 3,qP 14 .neq 12 13]) (.cond (.t 14) (.seq (.reg [qM 15 5,qM 2 15]) (.ret)) (.skip))))) (.reg [qC 16 .add 8 1,qM 8 16])))
def aQX:SF:=⟨18,[.tmp 2],.seq (.reg [qI 2 0]) (.seq (.reg [qI 3 0]) (.seq (.seq (.reg [qM 6 0,qN 7 6,qI 8 0]) (.block 0 (.loop aHZ))) (.seq (.reg [qM 17 3,qM 2 17]) (.ret))))⟩
theorem aKv:bF Tryz.prog ⟨[51,59,84,90,97,109,153,154,155,160],[],[],[]⟩ Tryz.f111=some aQX:=by kernel_rfl
theorem aEv (l:List Int) (hl:l.length < 4294967296):aP Tryz.prog 111 [(aQ l)] (iV (orI l)):=by
 refine pW Tryz.func111 aKv fun hB=>?_
 unfold aQX
 dsimp only
 refine W_r (aA rfl (R_e (W_r (aA rfl (R_e (aB (W_r ?_)))))))
 refine aA rfl (bM rfl (aA rfl (R_e (aE fun Q1 n1 x1 y1 z1=>?_))))
 refine cQ (fun mm T H=> ∃ (k:Nat),mm=l.length - k∧T 3=(iV 0)∧T 6=(aQ l)∧T 7=(iV ((l.length:Nat):Int))∧T 8=(iV ((k:Nat):Int))∧(k≤l.length)∧(orI l=orI (l.drop k))) ?_ ?_
 ·
  refine ⟨_,0,rfl,rfl,rfl,rfl,(eTq (rVq (iV 0)) rfl),?_,?_⟩
  · omega
  · rfl
 intro mm T H ⟨k,hmm,t3,t6,t7,t8,hk,hc⟩ Q2 p12 p22 p32
 unfold aHZ
 refine W_r (bW t8 t7 (R_e ?_))
 refine aK rfl (fun c3=>?_) fun c3=>?_
 ·
  refine aD (aE fun Q4 n4 x4 y4 z4=>(W_r (dE (i:=k) t6 t8 (by omega) rfl (aH rfl rfl (aA rfl (R_e (W_r ?_)))))))
  refine aA rfl (aA t3 (cM rfl rfl (R_e ?_)))
  refine cW rfl (fun c5=>?_) fun c5=>?_
  ·
   refine W_r (aA rfl (aA rfl (R_e (aN (y4 _ _ (p22 _ _ (y1 _ _ ?_)))))))
   refine bB (rVq (iV (nth l k))) (aF ?_)
   · rw [hc,aB3 (by omega),if_neg (by omega)]
  refine dA (n4 _ _ (.done (W_t (bL t8 (rNq 1) (by omega) (aA rfl (R_e ?_))))))
  refine p12 _ _ _ ?_ ⟨(k+1),rfl,t3,t6,t7,(eTq (rNq (k+1)) (by rfl)),?_,?_⟩
  · omega
  · omega
  · rw [hc,aB3 (by omega),if_pos (by omega)]
 refine aX (p32 _ _ _ (x1 _ _ (.done (W_r (aA t3 (aA rfl (R_e ?_)))))))
 refine aN ?_
 refine bB (rVq (iV 0)) (aF ?_)
 · rw [hc,List.drop_of_length_le (by omega)]; rfl
def aQ2:SF:=⟨20,[.tmp 4],.seq (.reg [qI 4 0]) (.seq (.reg [qM 7 0,sO 8 (.call false 132 [.t 7]),qM 5 8]) (.seq (.reg [qM 9 1,sO 10 (.call false 132 [.t 9]),qM 6 10]) (.seq (.seq (.reg [qM 11 5]) (.cond (.t 11) (.seq (.seq (.reg [qM 12 6]) (.cond (.t 12) (.seq (.reg [qI 4 0]) (.ret)) (.skip))) (.seq (.reg [sO 4 (.mv (.c (.int .i64 (-1))))]) (.ret))) (.skip))) (.seq (.seq (.reg [qM 13 6]) (.cond (.t 13) (.seq (.reg [qI 4 1]) (.ret)) (.skip))) (.seq (.seq (.reg [qM 14 0,qM 15 1,qP 16 .lss 14 15]) (.cond (.t 16) (.seq (.reg [sO 4 (.mv (.c (.int .i64 (-1))))]) (.ret)) (.skip))) (.seq (.seq (.reg [qM 17 0,qM 18 1,qP 19 .gtr 17 18]) (.cond (.t 19) (.seq (.reg [qI 4 1]) (.ret)) (.skip))) (.seq (.reg [qI 4 0]) (.ret))))))))⟩
theorem aKS:bF Tryz.prog ⟨[51,59,84,90,97,109,153,154,155,160],[],[],[]⟩ Tryz.f112=some aQ2:=by kernel_rfl
def aQW:SF:=⟨6,[.tmp 2],.seq (.reg [sO 2 (.mv (.c (.bool false)))]) (.seq (.reg [qM 3 0,qM 4 0,qP 5 .neq 3 4,qM 2 5]) (.ret))⟩
theorem aMh:bF Tryz.prog ⟨[51,59,84,90,97,109,153,154,155,160],[],[],[]⟩ Tryz.f132=some aQW:=by kernel_rfl
theorem xV (n:Int):aP Tryz.prog 132 [(iV n)] (V.bool false):=by
 refine pW Tryz.func132 aMh fun hB=>?_
 unfold aQW
 dsimp only
 refine W_r (aA rfl (R_e (W_r (aA rfl (aA rfl (cM rfl rfl (aA rfl ?_)))))))
 refine R_e (aN ?_)
 refine bB (rVq (V.bool (decide (n≠n)))) (bD ?_)
 · simp
theorem nO (x y:Int):aP Tryz.prog 112 [(iV x),(iV y)] (iV (eJ x y)):=by
 refine pW Tryz.func112 aKS fun hB=>?_
 unfold aQ2
 dsimp only
 refine W_r (aA rfl (R_e (W_r (aA rfl (aJ (xV x) rfl (aA rfl (R_e ?_)))))))
 refine W_r (aA rfl (aJ (xV y) rfl (aA rfl (R_e (aB (W_r (aA rfl ?_)))))))
 refine R_e ?_
 refine cO rfl (fun c1=>?_) (fun c1=>?_)
 · cases c1
 refine aD (aB (W_r (aA rfl (R_e ?_))))
 refine cO rfl (fun c2=>?_) (fun c2=>?_)
 · cases c2
 refine aD (aB (W_r (aA rfl (aA rfl (bW rfl rfl (R_e ?_))))))
 refine aK rfl (fun c3=>?_) fun c3=>?_
 ·
  refine aB (W_r (aA rfl (R_e (aW ?_))))
  refine bB (rVq (iV (-1))) (aF ?_)
  · unfold eJ; repeat (split <;> first|rfl|omega|skip)
 refine aD (aB (W_r (aA rfl (aA rfl (gH rfl rfl (R_e ?_))))))
 refine aK rfl (fun c4=>?_) fun c4=>?_
 ·
  refine aB (W_r (aA rfl (R_e (aW ?_))))
  refine bB (rVq (iV 1)) (aF ?_)
  · unfold eJ; repeat (split <;> first|rfl|omega|skip)
 refine aD (W_r (aA rfl (R_e (aN ?_))))
 refine bB (rVq (iV 0)) (aF ?_)
 · unfold eJ; repeat (split <;> first|rfl|omega|skip)
theorem wX (f h:Fm) (ih: ∀ (g h:Fm),g.sz < f.sz→aP Tryz.prog 91 [(V.agg [(iV g.op),(iV g.arg),(V.sl (List.map cF g.kids))]),(V.agg [(iV h.op),(iV h.arg),(V.sl (List.map cF h.kids))])] (iV (bU g h))):aP Tryz.prog 91 [(V.agg [(iV f.op),(iV f.arg),(V.sl (List.map cF f.kids))]),(V.agg [(iV h.op),(iV h.arg),(V.sl (List.map cF h.kids))])] (iV (bU f h)):=by
 refine pW Tryz.func91 aO7 fun hB=>?_
 unfold s91
 dsimp only
 refine W_r (cK (i:=2) (n:=0) (m:=3) (cs:=[(iV f.op),(iV f.arg),(V.sl (List.map cF f.kids))]) rfl (cVq rfl) rfl rfl rfl (cK (i:=3) (n:=0) (m:=3) (cs:=[(iV h.op),(iV h.arg),(V.sl (List.map cF h.kids))]) rfl (cVq rfl) rfl rfl rfl (aA rfl (R_e (aB (W_r (aU rfl rfl ?_)))))))
 refine aL rfl rfl rfl rfl (aU rfl rfl (aL rfl rfl rfl rfl (aJ (nO f.op h.op) rfl (aU rfl rfl (aL rfl rfl rfl rfl (aU rfl rfl (aL rfl rfl rfl rfl ?_)))))))
 refine aJ (nO f.arg h.arg) rfl (aU rfl rfl (aL rfl rfl rfl rfl (bM rfl (aU rfl rfl (aL rfl rfl rfl rfl (bM rfl (aJ (nO ((f.kids.length:Nat):Int) ((h.kids.length:Nat):Int)) rfl ?_)))))))
 refine bC rfl rfl (aJ (aEv ([(eJ f.op h.op),(eJ f.arg h.arg),(eJ ((f.kids.length:Nat):Int) ((h.kids.length:Nat):Int))]) (by simp)) rfl (aA rfl (R_e (aB (W_r (aA rfl (cM rfl rfl ?_)))))))
 refine R_e ?_
 refine aK rfl (fun c1=>?_) fun c1=>?_
 ·
  have d0:=c1
  refine aB (W_r (aA rfl (aA rfl (R_e (aW ?_)))))
  refine bB (rVq (iV (orI ([(eJ f.op h.op),(eJ f.arg h.arg),(eJ ((f.kids.length:Nat):Int) ((h.kids.length:Nat):Int))])))) (aF ?_)
  · exact aGG d0
 have d0:=c1
 refine aD (aB (W_r (aU rfl rfl (aL rfl rfl rfl rfl (bM rfl (aA rfl (R_e ?_)))))))
 refine aE fun Q2 n2 x2 y2 z2=>?_
 refine cQ (fun mm T H=> ∃ (k:Nat),mm=f.kids.length - k∧T 2=(mPq 2)∧T 3=(mPq 3)∧T 32=(iV ((f.kids.length:Nat):Int))∧T 33=(iV ((k:Nat):Int))∧H 2=(bk 1 24 3 [[(iV f.op),(iV f.arg),(V.sl (List.map cF f.kids))]])∧H 3=(bk 1 24 3 [[(iV h.op),(iV h.arg),(V.sl (List.map cF h.kids))]])∧(k≤f.kids.length)∧(f.kids.length=h.kids.length)∧(bU f h=lF (f.kids.drop k) (h.kids.drop k))) ?_ ?_
 ·
  refine ⟨_,0,rfl,rfl,rfl,rfl,(eTq (rVq (iV 0)) rfl),rfl,rfl,?_,?_,?_⟩
  · omega
  · exact aKG d0
  · exact aGU d0
 intro mm T H ⟨k,hmm,t2,t3,t32,t33,h2,h3,hk,hl,hc⟩ Q3 p13 p23 p33
 unfold aM2
 refine W_r (bW t33 t32 (R_e ?_))
 refine aK rfl (fun c4=>?_) fun c4=>?_
 ·
  refine aD (aE fun Q5 n5 x5 y5 z5=>(W_r (aA t33 (aA rfl (R_e (W_r (aU t2 h2 ?_)))))))
  refine aL rfl h2 rfl rfl (aA rfl (dC (i:=k) (rVq (V.sl (List.map cF f.kids))) (rNq k) (by omega) (bX _) rfl (aH rfl rfl (aU t3 h3 (aL rfl h3 rfl rfl (aA rfl (dC (i:=k) (rVq (V.sl (List.map cF h.kids))) (rNq k) (by omega) (bX _) rfl ?_)))))))
  refine aH rfl rfl (aJ (ih (nth f.kids k) (nth h.kids k) (Fm.sz_kid (by omega))) rfl (aA rfl (R_e (W_r (aA rfl (cM rfl rfl (R_e ?_)))))))
  refine cW rfl (fun c6=>?_) fun c6=>?_
  ·
   have d1:bU (nth f.kids k) (nth h.kids k)≠0:=c6
   refine W_r (aA rfl (aA rfl (R_e (aN (y5 _ _ (p23 _ _ (y2 _ _ ?_)))))))
   refine bB (rVq (iV (bU (nth f.kids k) (nth h.kids k)))) (aF ?_)
   · rw [hc,aHL (by omega) (by omega) d1]
  have d1: ¬bU (nth f.kids k) (nth h.kids k)≠0:=c6
  refine dA (n5 _ _ (.done (W_t (bL t33 (rNq 1) (by omega) (aA rfl (R_e ?_))))))
  refine p13 _ _ _ ?_ ⟨(k+1),rfl,t2,t3,t32,(eTq (rNq (k+1)) (by rfl)),h2,h3,?_,?_,?_⟩
  · omega
  · omega
  · omega
  · rw [hc,aLN (by omega) (by omega) d1]
 refine aX (p33 _ _ _ (x2 _ _ (.done (W_r (aA rfl (R_e (aN ?_)))))))
 refine bB (rVq (iV 0)) (aF ?_)
 · rw [hc,aIQ (by omega)]
theorem oP (f h:Fm):aP Tryz.prog 91 [(V.agg [(iV f.op),(iV f.arg),(V.sl (List.map cF f.kids))]),(V.agg [(iV h.op),(iV h.arg),(V.sl (List.map cF h.kids))])] (iV (bU f h)):=by
  have key: ∀ (mm:Nat) (f h:Fm),f.sz < mm→aP Tryz.prog 91 [(V.agg [(iV f.op),(iV f.arg),(V.sl (List.map cF f.kids))]),(V.agg [(iV h.op),(iV h.arg),(V.sl (List.map cF h.kids))])] (iV (bU f h)):=by
    intro mm
    induction mm with
    |zero=>intro f h hlt; exact absurd hlt (Nat.not_lt_zero _)
    | succ mm ih =>
      intro f h hlt
      exact wX f h fun f2 h2 hlt2=>ih f2 h2 (by omega)
  exact key (f.sz+1) f h (Nat.lt_succ_self _)
end Go.Proofs.YteehaobohaecmaaGreatDoor
namespace Go.Proofs.YteehaobohaecmaaGreatDoor
open Go Go.Sort Go.Proofs Go.Shelf
theorem R.pure_same {x y:Cx} {v:V} {c:Value} (h:R x v c) (hp:v.pure=true) (hw: ∀ b,x.Z b→y.w.heap[b]?=x.w.heap[b]?) (hz: ∀ b,x.Z b→y.Z b):R y v c:=by
  have keep: ∀ a:Addr,x.Z a.block→ ∀ n,y.w.cell? (a.add n)=x.w.cell? (a.add n):=fun a ha n=>by
    refine rZ ?_
    rw [eX]; exact hw _ ha
  induction h with
  |int k n=>exact .int k n
  |bool b=>exact .bool b
  |str s=>exact .str s
  |nilsl=>exact .nilsl
  |slnil=>exact .slnil
  | sl rows a cap sz cs hc hm hzz hsz hcell _ ih =>
    simp only [V.pure] at hp
    refine .sl rows a cap sz cs hc hm (fun hne=>hz _ (hzz hne)) hsz (fun r row j v hr hj=>by rw [keep a (hzz (by intro e; subst e; simp at hr))]; exact hcell r row j v hr hj) fun r row j v hr hj=>ih r row j v hr hj ?_
    exact cJ.1 (gR.1 hp row (List.mem_of_getElem? hr)) v (List.mem_of_getElem? hj)
  |ms=>simp [V.pure] at hp
  | pp cells a cs hzz hcell _ ih =>
    simp only [V.pure] at hp
    exact .pp cells a cs (fun hne=>hz _ (hzz hne)) (fun j v hj=>by rw [keep a (hzz (by intro e; subst e; simp at hj))]; exact hcell j v hj) fun j v hj=>ih j v hj (cJ.1 hp v (List.mem_of_getElem? hj))
  |nilp=>exact .nilp
  |mp=>simp [V.pure] at hp
  | agg cells cs hs _ ih =>
    simp only [V.pure] at hp
    exact .agg cells cs hs fun j v hj=>ih j v hj (cJ.1 hp v (List.mem_of_getElem? hj))
  | tup vs cs hs _ ih =>
    simp only [V.pure] at hp
    exact .tup vs cs hs fun j v hj=>ih j v hj (cJ.1 hp v (List.mem_of_getElem? hj))
  | fn f first caps fs cs hfs hcs _ _ ih1 ih2 =>
    simp only [V.pure,Bool.and_eq_true] at hp
    exact .fn f first caps fs cs hfs hcs (fun j v hj=>ih1 j v hj (cJ.1 hp.1 v (List.mem_of_getElem? hj))) fun j v hj=>ih2 j v hj (cJ.1 hp.2 v (List.mem_of_getElem? hj))
  |raw c hh=>exact .raw c hh
  |mm=>simp [V.pure] at hp
theorem aAi {x:Cx} (hx:Inv x) (os:Array Obj):let y:Cx:={x with w:=Go.Sort.grow x.w os}; Inv y∧Frame x y:=by
  intro y
  have hp: ∀ b,b < x.w.heap.size→y.w.heap[b]?=x.w.heap[b]?:=fun b hb=>by
    show (x.w.heap++os)[b]?=_
    rw [Array.getElem?_append,if_pos hb]
  have hs:x.w.heap.size≤y.w.heap.size:=by show _≤(x.w.heap++os).size; simp
  have hf:Frame x y:=by
    refine ⟨rfl,rfl,rfl,hs,fun b hb _=>hp b hb,fun _ h=>h,fun b h=>.inl h,fun id=>⟨Nat.le_refl _,fun h _=>⟨h,rfl,rfl,fun _=>rfl,fun h=>⟨rfl,?_⟩⟩⟩,fun _ h=>.inl ⟨h,rfl⟩,Nat.le_refl _,fun _ _ _=>rfl⟩
    unfold dB; rw [hp _ (hx.lt h)]
  refine ⟨⟨fun b h=>Nat.lt_of_lt_of_le (hx.zlt b h) hs,hx.zown,fun id hl=>?_,hx.inj,hx.tab_of hf⟩,hf⟩
  obtain ⟨cc,h1,h2,h3,h4⟩:=hx.blk id hl
  exact ⟨cc,by rw [hp _ (hx.lt hl)]; exact h1,h2,h3,fun r row j v hr hj=>(h4 r row j v hr hj).frame hx hf⟩
def aDh (P : Program) (f k : Nat) : Prop := ∀ {α : Type} [Inhabited α] (enc : α → List Value) (_ : ∀ x, (enc x).length = k) (_ : ∀ x, ∀ v ∈ enc x, v.oneCell' = true) (cf : α → α → Int) (_ : SWO (ltOf cf)) (g : Nat) (cb : Array Value) (blk off cap : Nat) (d : Array α) (w : World)
    (_: ∀ args w,(callFunc g args).run P w=.ok (.enter g args) w) (_:CmpLays P g cb enc k cf blk off d.size w) (_:HoldsK enc k w blk off d) (_:blk < w.heap.size) (_:d.size < 4611686018427387904),
    Calls P f #[.slice (some ⟨blk,off,none⟩) d.size cap,.func (.func g) #[] cb] w fun e w'=>
      e=.returned (.tuple #[])∧ ∃ d' n os,PermIn 0 d.size d d'∧SortedIn (ltOf cf) 0 d.size d'∧w'=sortWorldK enc k w blk off n d' os
def aDg (P:Program) (f:Nat):Prop:= ∀ (p:Option Addr) (cap:Nat) (fv:Value) (w:World),Calls P f #[.slice p 0 cap,fv] w fun e w'=>e=.returned (.tuple #[])∧w'=w
theorem mU {P:Program} {g:Nat} (h:cZ P g): ∀ args w,(callFunc g args).run P w=.ok (.enter g args) w:=by
  obtain ⟨fn,h1,h2,h3⟩:=h
  obtain ⟨c,hc⟩:=Option.isSome_iff_exists.1 h2
  exact enters_of h1 h3 hc
theorem nQ {z y:Cx} (hf:Frame z y) (hno: ∀ id,(z.H id).own=false): ∃ q os,y.w=grow (z.w.drewN q) os:=by
  refine ⟨y.w.drawn - z.w.drawn,y.w.heap.extract z.w.heap.size y.w.heap.size,?_⟩
  have e1:=hf.os; have e2:=hf.tape; have e3:=hf.output; have e4:=hf.drawn; have e5:=hf.size
  have e6:y.w.heap=z.w.heap++y.w.heap.extract z.w.heap.size y.w.heap.size:=by
    refine Array.ext_getElem? fun b=>?_
    rw [Array.getElem?_append]
    split
    · rename_i hb
      exact hf.keep b hb fun id h=>by rw [hno id] at h; cases h
    · rename_i hb
      rw [Array.getElem?_extract]
      by_cases h:b < y.w.heap.size
      · rw [if_pos (by omega)]; congr 1; omega
      · rw [if_neg (by omega),Array.getElem?_eq_none (by omega)]
  have e7:y.w.drawn=z.w.drawn+(y.w.drawn - z.w.drawn):=by omega
  unfold grow World.drewN
  cases hy:y.w with
  | mk heap tape drawn os output =>
    rw [hy] at e1 e2 e3 e6 e7
    simp only at e1 e2 e3 e6 e7 ⊢
    rw [← e6,← e7,e1,e2,e3]
section
variable {P:Program} {α:Type} [Inhabited α] {enc:α→List Value} {k:Nat} {w:World} {blk off m:Nat} {dk:Array α} {os:Array Obj}
theorem gL {b:Nat} (hb:b < w.heap.size) (hne:b≠blk):(sortWorldK enc k w blk off m dk os).heap[b]?=w.heap[b]?:=by
  unfold sortWorldK grow putRowK putRow mapBlock Sort.ahead
  simp only
  rw [Array.getElem?_append,if_pos (by simpa using hb),Array.getElem?_modify,if_neg (Ne.symm hne)]
theorem nM:w.heap.size≤(sortWorldK enc k w blk off m dk os).heap.size:=by
  unfold sortWorldK grow putRowK putRow mapBlock Sort.ahead
  simp
theorem sC {cc:Array Value} {ty:TypeId} (h:w.heap[blk]?=some (.cells cc ty (0,0))):
    sortWorldK enc k w blk off m dk os=grow {w.setRow blk (putCells id off (flatK enc k dk) cc) with drawn:=w.drawn+m} os:=by
  unfold sortWorldK putRowK putRow mapBlock Sort.ahead World.setRow
  congr 2
  refine Array.ext_getElem? fun b=>?_
  simp only [Array.getElem?_modify]
  by_cases e:blk=b
  · subst e
    simp only [if_true,h,Option.map_some,onCells]
  · simp only [if_neg e]
end
theorem iS {α:Type} [Inhabited α] (d:Array α) (i:Nat) (h:i < d.size):d[i]! =nth d.toList i:=by
  rw [getElem!_pos d i h,← bA (by simpa using h)]; rfl
section
variable {P:Program}
theorem aB4 {f g k:Nat} (hS:aDh P f k) (hN:aDg P f) (hcf:cZ P f) (hcg:cZ P g) {T:Type} [Inhabited T] {f0:T→List V} {l:List T} {cmp:T→T→Int}
    (hO:SWO fun a b=>decide (cmp a b < 0)) (hT: ∀ a∈l,∀ b∈l,¬cmp a b < 0→ ¬cmp b a < 0→a=b)
    (hc: ∀ a∈l,∀ b∈l,aP P g [.agg (f0 a),.agg (f0 b)] (iV (cmp a b))) (hp: ∀ a∈l,cY (f0 a)=true) (h1: ∀ a∈l,(f0 a).all V.one=true) (hk: ∀ a,(f0 a).length=k)
    (hl:l.length < 4611686018427387904) {id ver ty:Nat} {lz:Bool} {H:aI} (hH:H id=⟨ver,true,lz,ty,k,l.map f0⟩):
    dW P f [.ms id ver 0 l.length,.fn g [] []] H (.tup []) (upd H id ⟨ver,true,lz,ty,k,(srt cmp l).map f0⟩):=by
  refine ⟨hcf,fun x cs hxH hx hr=>?_⟩
  subst hxH
  obtain ⟨c0,c1,rfl⟩: ∃ c0 c1,cs=[c0,c1]:=by
    have:=hr.1
    match cs with
    |[a,b]=>exact ⟨a,b,rfl⟩
    |[]=>simp at this
    |[_]=>simp at this
    |_::_::_::_=>simp at this
  have r0:R x (.ms id ver 0 l.length) c0:=hr.2 0 _ rfl
  have r1:R x (.fn g [] []) c1:=hr.2 1 _ rfl
  cases r1 with
  |fn _ _ _ fs cb hfs hcs _ _=>
  have hfs':fs=#[]:=Array.eq_empty_of_size_eq_zero (by simpa using hfs)
  have hcs':cb=#[]:=Array.eq_empty_of_size_eq_zero (by simpa using hcs)
  subst hfs'; subst hcs'
  cases r0 with
  |ms _ _ _ _ b n cap hv hh hm=>
  obtain ⟨e1,e2,e3,e4,e5,e6⟩:=hh (by rw [hH]) (by rw [hH])
  subst e1
  by_cases hne:l=[]
  · subst hne
    refine (hN b cap (.func (.func g) #[] #[]) x.w).mono fun e w' h=>?_
    obtain ⟨rfl,rfl⟩:=h
    refine ⟨_,x,rfl,rfl,?_,hx,.tup [] #[] rfl (fun j v hj=>by simp at hj),Frame.refl x⟩
    funext j
    by_cases e:j=id
    · subst e; rw [aG,hH]; rfl
    · rw [aV _ _ e]
  have hpos:0 < l.length:=List.length_pos_iff.2 hne
  have ho:(x.H id).own=true:=by
    rw [hH]
    cases l with
    |nil=>exact (hne rfl).elim
    |cons a l=>simp [Blk.own]
  obtain ⟨e7,_⟩:=e5 ho
  rw [hH] at e7
  simp only [Nat.zero_mul] at e7
  subst e7
  obtain ⟨cc,b1,b2,b3,b4⟩:=hx.cel id ho (hm (by rw [hH]) (by rw [hH]))
  simp only [hH] at b1 b2 b3 b4
  rw [List.length_map] at b3
  let A:Type:={i:Nat // i < l.length}
  haveI:Inhabited A:=⟨⟨0,hpos⟩⟩
  let enc:A→List Value:=fun i=>(List.range k).map fun j=>cc.getD (i.1*k+j) undef
  let cf:A→A→Int:=fun a b=>cmp (nth l a.1) (nth l b.1)
  let d:Array A:=Array.ofFn fun i:Fin l.length=>(⟨i.1,i.2⟩:A)
  have hdn:d.size=l.length:=by simp [d]
  have hdi: ∀ i (h:i < l.length),d[i]! =⟨i,h⟩:=fun i h=>by
    rw [getElem!_pos d i (by rw [hdn]; exact h)]; simp [d]
  have hek: ∀ a,(enc a).length=k:=fun a=>by simp [enc]
  have hej: ∀ (a:A) (j:Nat),j < k→(enc a)[j]?=some (cc.getD (a.1*k+j) undef):=fun a j hj=>by simp [enc,hj]
  have hrow: ∀ i,i < l.length→(l.map f0)[i]?=some (f0 (nth l i)):=fun i hi=>by rw [List.getElem?_map,yB hi]; rfl
  have hRx: ∀ (a:A) (j:Nat) (v:V),(f0 (nth l a.1))[j]?=some v→R x v (cc.getD (a.1*k+j) undef):=fun a j v hj=>b4 a.1 _ j v (hrow a.1 a.2) hj
  have hcell: ∀ (a:A) (j:Nat),j < k→a.1*k+j < cc.size:=fun a j hj=>by
    have:(a.1+1)*k≤l.length*k:=Nat.mul_le_mul_right k a.2
    rw [Nat.add_mul,Nat.one_mul] at this
    omega
  have hO':SWO (ltOf cf):=⟨fun a=>hO.irrefl _,fun a b c=>hO.trans _ _ _,fun a b c=>hO.ntrans _ _ _⟩
  have hcmp:CmpLays P g #[] enc k cf (x.σ id) 0 d.size x.w:=by
    intro m os dk hdk a b
    let W:=sortWorldK enc k x.w (x.σ id) 0 m dk os
    let z:Cx:=start {x with w:=W} x.Z
    have hz:Inv z:=lZ (fun b hb=>Nat.lt_of_lt_of_le (hx.zlt b hb) nM) fun p hp=>⟨(hx.tab p hp).1,by
      obtain ⟨q1,q2⟩:=hx.tab p hp
      show ∃ ty m,W.heap[p.1]?=_
      rw [show W.heap[p.1]?=x.w.heap[p.1]? from gL (hx.zlt _ q1) fun e=>hx.zown _ id q1 ho e.symm]; exact q2⟩
    have hag: ∀ a:A,R z (.agg (f0 (nth l a.1))) (.agg (enc a).toArray):=fun a=>by
      refine .agg _ _ (by simp [hek,hk]) fun j v hj=>?_
      have hjk:j < k:=by rw [← hk (nth l a.1)]; exact (List.getElem?_eq_some_iff.1 hj).1
      have h:=hRx a j v hj
      have hg:(enc a).toArray.getD j undef=cc.getD (a.1*k+j) undef:=by
        rw [Array.getD_eq_getD_getElem?,List.getElem?_toArray,hej a j hjk]; rfl
      rw [hg]
      refine h.pure_same (y:=z) (cJ.1 (hp _ (cG a.2)) v (List.mem_of_getElem? hj)) (fun b hb=>?_) fun _ h=>h
      exact gL (hx.zlt b hb) fun e=>hx.zown b id hb ho e.symm
    have hrl:RL z [.agg (f0 (nth l a.1)),.agg (f0 (nth l b.1))] [.agg (enc a).toArray,.agg (enc b).toArray]:=by
      refine ⟨rfl,fun j v hj=>?_⟩
      match j,hj with
      |0,hj=>simp at hj; subst hj; exact hag a
      |1,hj=>simp at hj; subst hj; exact hag b
    refine ((hc _ (cG a.2) _ (cG b.2) H0).2 z _ rfl hz hrl).mono fun e w' h=>?_
    obtain ⟨c,y,rfl,rfl,_,_,h5,h6⟩:=h
    cases h5
    obtain ⟨q,os',hq⟩:=nQ h6 fun id=>rfl
    exact ⟨rfl,q,os',hq⟩
  have hsz:d.size < 4611686018427387904:=by rw [hdn]; exact hl
  have hH':HoldsK enc k x.w (x.σ id) 0 d:=by
    intro j hj
    rw [size_flatK,hdn] at hj
    have hk0:0 < k:=Nat.pos_of_ne_zero fun e=>by subst e; simp at hj
    have hdv:j / k < l.length:=(Nat.div_lt_iff_lt_mul hk0).2 hj
    have hmd:j % k < k:=Nat.mod_lt _ hk0
    have e:(flatK enc k d)[j]! =cc.getD j undef:=by
      rw [get_flatK _ _ _ _ (by rw [hdn]; exact hj),hdi _ hdv]
      have h:=hej ⟨j / k,hdv⟩ (j % k) hmd
      rw [List.getElem!_eq_getElem?_getD,h]
      simp only [Option.getD_some]
      rw [Nat.div_add_mod' j k]
    have hjc:j < cc.size:=by omega
    refine ⟨?_,?_⟩
    · rw [e,Nat.zero_add]; exact gG b1 hjc
    · simp [World.frozen?,b1]
  have hcall:=hS enc hek (fun a v hv=>by
      obtain ⟨j,hj⟩:=List.getElem?_of_mem hv
      have hjk:j < k:=by rw [← hek a]; exact (List.getElem?_eq_some_iff.1 hj).1
      rw [hej a j hjk] at hj
      cases hj
      have hu: ∃ u,(f0 (nth l a.1))[j]?=some u:=⟨_,List.getElem?_eq_getElem (by rw [hk]; exact hjk)⟩
      obtain ⟨u,hu⟩:=hu
      exact (hRx a j u hu).one (List.all_eq_true.1 (h1 _ (cG a.2)) u (List.mem_of_getElem? hu))) cf hO' g #[] (x.σ id) 0 cap d x.w (mU hcg) hcmp hH' (hx.lt ho) hsz
  rw [hdn] at hcall
  refine hcall.mono fun e w' h=>?_
  obtain ⟨rfl,d',n',os',hP,hSo,rfl⟩:=h
  obtain ⟨p1,_,p3⟩:=hP
  rw [hdn] at p1
  have x1:d'.extract 0 l.length=d':=by rw [← p1]; simp
  have x2:d.extract 0 l.length=d:=by rw [← hdn]; simp
  rw [x1,x2] at p3
  have hmap:d.toList.map (fun a:A=>nth l a.1)=l:=by
    refine aBz (by simp [hdn]) fun j hj=>?_
    have hj':j < l.length:=by simpa [hdn] using hj
    rw [aFb (by simpa using hj),← iS d j (by rw [hdn]; exact hj'),hdi j hj']
  have hl':d'.toList.map (fun a:A=>nth l a.1)=srt cmp l:=by
    have hperm:(d'.toList.map (fun a:A=>nth l a.1)).Perm l:=by
      have:=p3.map (fun a:A=>nth l a.1)
      rwa [hmap] at this
    refine nT (le:=fun a b=> ¬cmp b a < 0) (fun a ha b hb h1 h2=>hT a (hperm.mem_iff.1 ha) b (hperm.mem_iff.1 hb) h2 h1) (hperm.trans (iF cmp l).symm) ?_ (kK hO l)
    rw [List.pairwise_map,List.pairwise_iff_getElem]
    intro i j hi hj hij
    have h:=hSo i j (Nat.zero_le _) hij (by rw [← p1]; simpa using hj)
    rw [iS d' i (by simpa using hi),iS d' j (by simpa using hj),← bA hi,← bA hj] at h
    simpa [ltOf,cf] using h
  let cc':=putCells _root_.id 0 (flatK enc k d') cc
  have hcs:cc'.size=cc.size:=by simp [cc',putCells]
  have hg: ∀ r j,r < l.length→j < k→ ∀ (hr:r < d'.size),cc'.getD (r*k+j) undef=cc.getD ((d'[r]'hr).1*k+j) undef:=by
    intro r j hr hj hr'
    have hb:r*k+j < l.length*k:=by
      have:(r+1)*k≤l.length*k:=Nat.mul_le_mul_right k hr
      rw [Nat.add_mul,Nat.one_mul] at this; omega
    have hsz':(flatK enc k d').size=l.length*k:=by rw [size_flatK,p1]
    have e:cc'[r*k+j]?=some ((flatK enc k d')[r*k+j]!):=by
      simp only [cc',putCells,Array.getElem?_mapIdx]
      rw [Array.getElem?_eq_getElem (by omega)]
      simp [hsz',hb]
    rw [Array.getD_eq_getD_getElem?,e,get_flatK _ _ _ _ (by rw [p1]; exact hb)]
    have q1:(r*k+j) / k=r:=by rw [Nat.mul_comm,Nat.mul_add_div (by omega),Nat.div_eq_of_lt hj]; rfl
    have q2:(r*k+j) % k=j:=by rw [Nat.mul_comm,Nat.mul_add_mod]; exact Nat.mod_eq_of_lt hj
    rw [q1,q2,getElem!_pos d' r hr',List.getElem!_eq_getElem?_getD,hej _ j hj]
    rfl
  have hrows: ∀ (r:Nat) (row:List V) (j:Nat) (v:V),((srt cmp l).map f0)[r]?=some row→row[j]?=some v→R x v (cc'.getD (r*k+j) undef):=by
    intro r row j v hr hj
    rw [← hl',List.map_map,List.getElem?_map] at hr
    obtain ⟨a,ha,rfl⟩:=map_some hr
    have har:=List.getElem?_eq_some_iff.1 ha
    obtain ⟨hlt,hae⟩:=har
    have hlt':r < d'.size:=by simpa using hlt
    have hjk:j < k:=by rw [← hk (nth l a.1)]; exact (List.getElem?_eq_some_iff.1 hj).1
    rw [hg r j (by omega) hjk hlt']
    have hae':d'[r]'hlt'=a:=by simpa using hae
    rw [hae']
    exact hRx a j v hj
  have st:=lJ hx id ho cc cc' (by rw [hH]; exact b1) hcs (x.H id).ver ((srt cmp l).map f0) (Nat.le_refl _) (fun _=>by rw [hH]; simp [iH]) (by
      rw [hH]
      have:(srt cmp l).length=l.length:=by simp [iH]
      cases hq:srt cmp l with
      |nil=>rw [hq] at this; simp at this; omega
      |cons a q=>simp) (fun r hr=>by
      rw [hH]
      obtain ⟨a,_,rfl⟩:=List.mem_map.1 hr
      exact hk a) (by rw [hH]; simpa [iH] using b3) (by simp only [hH]; exact hrows)
  simp only [hH] at st
  obtain ⟨i1,f1⟩:=st
  obtain ⟨i2,f2⟩:=iU i1 (x.w.drawn+n') (Nat.le_add_right _ _)
  obtain ⟨i3,f3⟩:=aAi i2 os'
  refine ⟨.tuple #[],_,rfl,?_,?_,i3,.tup [] #[] rfl (fun j v hj=>by simp at hj),(f1.trans f2).trans f3⟩
  · rw [sC b1]
  · rfl
end
end Go.Proofs.YteehaobohaecmaaGreatDoor
namespace Go.Proofs.YteehaobohaecmaaGreatDoor
open Go Go.Proofs Go.Shelf Go.Sort
def oX:Go.Shelf.Ren:=⟨fun|6=>90|15=>110|14=>109|28=>130|29=>131|20=>122|21=>123|22=>124|23=>125|24=>126|25=>127|26=>128|27=>129|46=>142|47=>143|48=>144|49=>145|50=>146|57=>157|n=>n,fun|22=>22|24=>24|25=>137|3=>3|39=>156|0=>0|53=>175|55=>177|4=>4|46=>169|45=>168|50=>81|5=>5|9=>9|66=>188|70=>192|76=>201|77=>98|n=>n,fun n=>n⟩
theorem lO:SlLaysF0.n6 Tryz.prog oX:={
  mixed:=(by kernel_rfl),
  f6:=⟨Tryz.f90.name,by decide,Tryz.func90.trans (congrArg some (by kernel_rfl))⟩,
  f14:=⟨Tryz.f109.name,by decide,Tryz.func109.trans (congrArg some (by kernel_rfl))⟩,
  f15:=Tryz.func110.trans (congrArg some (by kernel_rfl)),
  f20:=⟨Tryz.f122.name,by decide,Tryz.func122.trans (congrArg some (by kernel_rfl))⟩,
  f21:=⟨Tryz.f123.name,by decide,Tryz.func123.trans (congrArg some (by kernel_rfl))⟩,
  f22:=⟨Tryz.f124.name,by decide,Tryz.func124.trans (congrArg some (by kernel_rfl))⟩,
  f23:=⟨Tryz.f125.name,by decide,Tryz.func125.trans (congrArg some (by kernel_rfl))⟩,
  f24:=⟨Tryz.f126.name,by decide,Tryz.func126.trans (congrArg some (by kernel_rfl))⟩,
  f25:=⟨Tryz.f127.name,by decide,Tryz.func127.trans (congrArg some (by kernel_rfl))⟩,
  f26:=⟨Tryz.f128.name,by decide,Tryz.func128.trans (congrArg some (by kernel_rfl))⟩,
  f27:=⟨Tryz.f129.name,by decide,Tryz.func129.trans (congrArg some (by kernel_rfl))⟩,
  f28:=Tryz.func130.trans (congrArg some (by kernel_rfl)),
  f29:=Tryz.func131.trans (congrArg some (by kernel_rfl)),
  f46:=⟨Tryz.f142.name,by decide,Tryz.func142.trans (congrArg some (by kernel_rfl))⟩,
  f47:=Tryz.func143.trans (congrArg some (by kernel_rfl)),
  f48:=Tryz.func144.trans (congrArg some (by kernel_rfl)),
  f49:=⟨Tryz.f145.name,by decide,Tryz.func145.trans (congrArg some (by kernel_rfl))⟩,
  f50:=⟨Tryz.f146.name,by decide,Tryz.func146.trans (congrArg some (by kernel_rfl))⟩,
  f57:=⟨Tryz.f157.name,by decide,Tryz.func157.trans (congrArg some (by kernel_rfl))⟩,
  t0:=Tryz.underlying0,
  a0:=Tryz.isAgg0,
  z0:=Tryz.sizeOf0,
  v0:=Tryz.zeroValue0,
  t3:=Tryz.underlying3,
  a3:=Tryz.isAgg3,
  z3:=Tryz.sizeOf3,
  v3:=Tryz.zeroValue3,
  t4:=Tryz.underlying4,
  a4:=Tryz.isAgg4,
  z4:=Tryz.sizeOf4,
  v4:=Tryz.zeroValue4,
  t5:=Tryz.underlying5,
  a5:=Tryz.isAgg5,
  z5:=Tryz.sizeOf5,
  v5:=Tryz.zeroValue5,
  t9:=Tryz.underlying9,
  a9:=Tryz.isAgg9,
  z9:=Tryz.sizeOf9,
  v9:=Tryz.zeroValue9,
  t22:=Tryz.underlying22,
  a22:=Tryz.isAgg22,
  z22:=Tryz.sizeOf22,
  v22:=Tryz.zeroValue22,
  t25:=Tryz.underlying137,
  a25:=Tryz.isAgg137,
  z25:=Tryz.sizeOf137,
  v25:=Tryz.zeroValue137,
  t39:=Tryz.underlying156,
  a39:=Tryz.isAgg156,
  z39:=Tryz.sizeOf156,
  v39:=Tryz.zeroValue156,
  t45:=Tryz.underlying168,
  a45:=Tryz.isAgg168,
  z45:=Tryz.sizeOf168,
  v45:=Tryz.zeroValue168,
  t46:=Tryz.underlying169,
  a46:=Tryz.isAgg169,
  z46:=Tryz.sizeOf169,
  v46:=Tryz.zeroValue169,
  t50:=Tryz.underlying81,
  a50:=Tryz.isAgg81,
  z50:=Tryz.sizeOf81,
  v50:=Tryz.zeroValue81,
  t53:=Tryz.underlying175,
  a53:=Tryz.isAgg175,
  z53:=Tryz.sizeOf175,
  v53:=Tryz.zeroValue175,
  t55:=Tryz.underlying177,
  a55:=Tryz.isAgg177,
  z55:=Tryz.sizeOf177,
  v55:=Tryz.zeroValue177,
  t66:=Tryz.underlying188,
  a66:=Tryz.isAgg188,
  z66:=Tryz.sizeOf188,
  v66:=Tryz.zeroValue188,
  t70:=Tryz.underlying192,
  a70:=Tryz.isAgg192,
  z70:=Tryz.sizeOf192,
  v70:=Tryz.zeroValue192,
  t76:=Tryz.underlying201,
  a76:=Tryz.isAgg201,
  z76:=Tryz.sizeOf201,
  v76:=Tryz.zeroValue201,
  t77:=Tryz.underlying98,
  a77:=Tryz.isAgg98,
  z77:=Tryz.sizeOf98,
  v77:=Tryz.zeroValue98}
theorem aD7:aDh Tryz.prog 90 3:=fun enc hk h1 cf hO g cb blk off cap d w eg hcmp hH hblk hsz=>
  AnyQ.slices_SortFunc lO 3 Tryz.isAgg24 Tryz.sizeOf24 enc hk h1 cf hO g cb blk off cap d w eg hcmp hH hblk hsz
theorem aDF:cZ Tryz.prog 90:=⟨_,Tryz.func90,by kernel_rfl,by kernel_rfl⟩
theorem aDE:aDg Tryz.prog 90:=fun p cap fv w=>AnyF.slices_SortFunc_none lO p cap fv w
end Go.Proofs.YteehaobohaecmaaGreatDoor
namespace Go.Proofs.YteehaobohaecmaaGreatDoor
open Go Go.Proofs
theorem aDp (f:Fm) (hok:okF f=true) (hz:f.sz≤268435456) (hq:aP Tryz.prog 87 [(V.agg [(iV f.op),(iV f.arg),(V.sl (List.map cF f.kids))])] (V.tup [(V.sl (List.map cCl (bR (cls f)))),(iV (gC (cls f)))])):aP Tryz.prog 60 [(V.agg [(iV f.op),(iV f.arg),(V.sl (List.map cF f.kids))])] (V.tup [(V.agg [(iV ((iM (can f)).op)),(iV ((iM (can f)).arg)),(V.sl (List.map cF ((iM (can f)).kids)))]),(iV (gC (can f)))]):=by
 refine pW Tryz.func60 aPq fun hB=>?_
 unfold s60
 dsimp only
 refine W_r (cK (i:=1) (n:=0) (m:=3) (cs:=[(iV f.op),(iV f.arg),(V.sl (List.map cF f.kids))]) rfl (cVq rfl) rfl rfl rfl (bE (i:=2) (n:=0) (m:=3) rfl (cVq rfl) rfl (aA rfl (R_e (W_r (aL rfl rfl rfl rfl (aJ hq rfl ?_)))))))
 refine aA rfl (bG rfl rfl (bG rfl rfl (aA rfl (aA rfl (R_e (aB (W_r ?_)))))))
 refine aA rfl (cM rfl rfl (R_e ?_))
 refine aK rfl (fun c1=>?_) fun c1=>?_
 ·
  have d1:=aPL c1
  have d0:=jL c1
  refine aB (W_r (bI rfl rfl (aA rfl (bP rfl rfl rfl rfl rfl rfl rfl rfl rfl (aA rfl (R_e (aW ?_)))))))
  refine iO (bS (u:=(V.agg [(iV 0),(iV 0),V.nilsl])) rfl (@rfl Blk (bk 1 24 3 [[(iV 0),(iV 0),V.nilsl]])) (lB oB rfl rfl)) (cR (rVq (iV (gC (cls f))))) (bV (aF ?_) (aF ?_) (dD ?_)) (aF ?_)
  · rw [d1]; rfl
  · rw [d1]; rfl
  · rw [d1]; rfl
  · rw [d1,d0]; rfl
 have d0:=jQ c1
 have d1:=aJg c1
 have g1:=lM f hok _ d0
 have g2:=yU f _ d0
 have g3:=g1.len
 refine aD (aB (W_r (aA rfl (bM rfl (bH rfl rfl (R_e ?_))))))
 refine aK rfl (fun c2=>?_) fun c2=>?_
 ·
  rw [aP4 (by omega)] at d1
  refine aB (W_r (aJ aCJ rfl (bP rfl rfl rfl rfl rfl rfl rfl rfl rfl (aA rfl (R_e (aW ?_))))))
  refine iO (bS (u:=(V.agg [(iV 4),(iV 0),(V.sl (List.map cF ([Fm.nd 1 0 []])))])) rfl (@rfl Blk (bk 1 24 3 [[(iV 4),(iV 0),(V.sl (List.map cF ([Fm.nd 1 0 []])))]])) (lB oB rfl rfl)) (cR (rVq (iV 0))) (bV (aF ?_) (aF ?_) (eI ?_ (fun _=>by simp))) (aF ?_)
  · rw [d1]; rfl
  · rw [d1]; rfl
  · rw [d1]; rfl
  · rw [d1]; rfl
 refine aD (W_r (aDx (i:=6) (n:=0) rfl (cVq rfl) (R_e (aB (W_r (aA rfl (bM rfl ?_)))))))
 refine aA rfl (R_e (aE fun Q3 n3 x3 y3 z3=>?_))
 refine cQ (fun mm T H=> ∃ (k:Nat) (v:Nat),mm=(bR (cls f)).length - k∧T 2=(mPq 2)∧T 6=(V.ms 6 v 0 k)∧T 22=(V.sl (List.map cCl (bR (cls f))))∧T 23=(iV (((bR (cls f)).length:Nat):Int))∧T 24=(iV ((k:Nat):Int))∧H 1=(bk 1 24 3 [[(iV f.op),(iV f.arg),(V.sl (List.map cF f.kids))]])∧H 2=(bk 1 24 3 [[(iV 0),(iV 0),V.nilsl]])∧H 6=(bz v 24 3 (List.map cF (((bR (cls f)).take k).map clF)))∧(k≤(bR (cls f)).length)∧(∀ i,i < k→(nth (bR (cls f)) i).length≠0)) ?_ ?_
 ·
  refine ⟨_,0,1,rfl,rfl,rfl,rfl,rfl,(eTq (rVq (iV 0)) rfl),rfl,rfl,(eTq (@rfl Blk (bz 1 24 3 [])) (by rfl)),?_,?_⟩
  · omega
  · intro i hi; omega
 intro mm T H ⟨k,v,hmm,t2,t6,t22,t23,t24,h1,h2,h6,hk,hn⟩ Q4 p14 p24 p34
 unfold aNr
 refine W_r (bW t24 t23 (R_e ?_))
 refine aK rfl (fun c5=>?_) fun c5=>?_
 ·
  refine aD (aE fun Q6 n6 x6 y6 z6=>(W_r (dE (i:=k) t22 t24 (by omega) rfl (aH rfl rfl (aA rfl (R_e (W_r ?_)))))))
  refine aA rfl (bM rfl (R_e (oR fun Q7 n7 x7 y7 z7=>(W_r (bH rfl rfl (aA rfl (R_e ?_)))))))
  refine cW rfl (fun c8=>?_) fun c8=>?_
  ·
   rw [aRi (k:=k) (by omega) (by omega)] at d1
   refine W_r (aJ tF rfl (bP t2 rfl rfl h2 rfl rfl rfl rfl rfl (aA rfl (R_e (aN (y7 _ _ (y6 _ _ ?_)))))))
   refine p24 _ _ (y3 _ _ ?_)
   refine iO (bS (u:=(V.agg [(iV 1),(iV 0),(V.sl (List.map cF ([])))])) t2 (@rfl Blk (bk 1 24 3 [[(iV 1),(iV 0),(V.sl (List.map cF ([])))]])) (lB oB rfl rfl)) (cR (rVq (iV 0))) (bV (aF ?_) (aF ?_) (eI ?_ (fun _=>by simp))) (aF ?_)
   · rw [d1]; rfl
   · rw [d1]; rfl
   · rw [d1]; rfl
   · rw [d1]; rfl
  have d2:(nth (bR (cls f)) k).length≠0:=by omega
  refine W_r (bH rfl rfl (aA rfl (R_e ?_)))
  refine cW rfl (fun c9=>?_) fun c9=>?_
  ·
   have d3:(nth (bR (cls f)) k).length=1:=by omega
   refine W_t (aA t6 (aA rfl (dC (i:=0) (rVq (V.sl (List.map cF (nth (bR (cls f)) k)))) (rNq 0) (by omega) (bX _) rfl (aH rfl rfl (bC rfl rfl (eH (l:=(((bR (cls f)).take k).map clF)) (f:=cF) (x:=(nth (nth (bR (cls f)) k) 0)) (rVq (V.ms 6 v 0 k)) h6 (by (simp [iH]; omega)) (pV (x:=(nth (nth (bR (cls f)) k) 0)) (rVq (V.sl [[(iV ((nth (nth (bR (cls f)) k) 0).op)),(iV ((nth (nth (bR (cls f)) k) 0).arg)),(V.sl (List.map cF ((nth (nth (bR (cls f)) k) 0).kids)))]]))) (kJ _) (lG _) (by omega) (by omega) (aA rfl ?_)))))))
   refine R_e (n7 _ _ (n6 _ _ (.done (W_t (bL t24 (rNq 1) (by omega) (aA rfl (R_e ?_)))))))
   refine p14 _ _ _ ?_ ⟨(k+1),(v+1),rfl,t2,(eTq (rVq (V.ms 6 (v+1) 0 (k+1))) (by rfl)),t22,t23,(eTq (rNq (k+1)) (by rfl)),h1,h2,(eTq (@rfl Blk (bz (v+1) 24 3 (List.map cF (((bR (cls f)).take k).map clF++[(nth (nth (bR (cls f)) k) 0)])))) (by (rw [aRC (by omega) d3]; done))),?_,?_⟩
   · omega
   · omega
   · intro i hi
     by_cases e:i=k
     · subst e; exact d2
     · exact hn i (by omega)
  have d3:(nth (bR (cls f)) k).length≠1:=by omega
  refine W_t (aA t6 (aA rfl (aJ (iT (5:Int) (nth (bR (cls f)) k)) rfl (bC rfl rfl (eH (l:=(((bR (cls f)).take k).map clF)) (f:=cF) (x:=(Fm.nd (5:Int) (0:Int) (nth (bR (cls f)) k))) (rVq (V.ms 6 v 0 k)) h6 (by (simp [iH]; omega)) (pV (x:=(Fm.nd (5:Int) (0:Int) (nth (bR (cls f)) k))) (rVq (V.sl [[(iV (5:Int)),(iV 0),(V.sl (List.map cF (nth (bR (cls f)) k)))]]))) (kJ _) (lG _) (by omega) (by omega) (aA rfl (R_e ?_)))))))
  refine n7 _ _ (n6 _ _ (.done (W_t (bL t24 (rNq 1) (by omega) (aA rfl (R_e ?_))))))
  refine p14 _ _ _ ?_ ⟨(k+1),(v+1),rfl,t2,(eTq (rVq (V.ms 6 (v+1) 0 (k+1))) (by rfl)),t22,t23,(eTq (rNq (k+1)) (by rfl)),h1,h2,(eTq (@rfl Blk (bz (v+1) 24 3 (List.map cF (((bR (cls f)).take k).map clF++[(Fm.nd (5:Int) (0:Int) (nth (bR (cls f)) k))])))) (by (rw [aQL (by omega) d3]; done))),?_,?_⟩
  · omega
  · omega
  · intro i hi
    by_cases e:i=k
    · subst e; exact d2
    · exact hn i (by omega)
 refine aX (p34 _ _ _ (x3 _ _ (.done (aB (W_r (aA t6 (gJ rfl h6 (by simp) ?_)))))))
 refine bH rfl rfl (R_e ?_)
 refine aK rfl (fun c10=>?_) fun c10=>?_
 ·
  have hk2:(bR (cls f)).take k=(bR (cls f)):=by rw [show k=(bR (cls f)).length by omega,List.take_length]
  have d5:iM (can f)=nth (((bR (cls f)).take k).map clF) 0:=by rw [d1,hk2]; exact aQT (fun i hi=>hn i (by omega)) (by omega)
  refine aB (W_r (aA t6 (oH (i:=0) (rVq (V.ms 6 v 0 k)) (rNq 0) h6 (gK (by (simp; omega))) rfl (by omega) (iD (v:=(V.agg [(iV ((nth (((bR (cls f)).take k).map clF) 0).op)),(iV ((nth (((bR (cls f)).take k).map clF) 0).arg)),(V.sl (List.map cF ((nth (((bR (cls f)).take k).map clF) 0).kids)))])) rfl h6 (mH (by (simp; omega)) (by (rw [bX]; rfl))) (bP t2 rfl rfl h2 rfl rfl rfl rfl rfl (aA rfl (R_e ?_)))))))
  refine aW ?_
  refine iO (bS (u:=(V.agg [(iV ((nth (((bR (cls f)).take k).map clF) 0).op)),(iV ((nth (((bR (cls f)).take k).map clF) 0).arg)),(V.sl (List.map cF ((nth (((bR (cls f)).take k).map clF) 0).kids)))])) t2 (@rfl Blk (bk 1 24 3 [[(iV ((nth (((bR (cls f)).take k).map clF) 0).op)),(iV ((nth (((bR (cls f)).take k).map clF) 0).arg)),(V.sl (List.map cF ((nth (((bR (cls f)).take k).map clF) 0).kids)))]])) (lB oB rfl rfl)) (cR (rVq (iV 0))) (bV (aF ?_) (aF ?_) (eI ?_ (fun _=>by simp))) (aF ?_)
  · rw [d5]
  · rw [d5]
  · rw [d5]
  · rw [d1]; rfl
 have hk2:(bR (cls f)).take k=(bR (cls f)):=by rw [show k=(bR (cls f)).length by omega,List.take_length]
 have d5:iM (can f)=.nd 6 0 (srt bU (((bR (cls f)).take k).map clF)):=by rw [d1,hk2]; exact aQR (fun i hi=>hn i (by omega)) (by omega) (by omega)
 refine aD ?_
 refine gP (fun T H=>T 2=(mPq 2)∧T 6=(V.ms 6 v 0 k)∧H 1=(bk 1 24 3 [[(iV f.op),(iV f.arg),(V.sl (List.map cF f.kids))]])∧H 2=(bk 1 24 3 [[(iV 0),(iV 0),V.nilsl]])∧H 6=(bz v 24 3 (List.map cF (srt bU (((bR (cls f)).take k).map clF))))∧True) ?_ ?_
 ·
  refine aA t6 (fP (aY rfl (aY rfl cU)) (aDY (aB4 (f0:=cF) (l:=(((bR (cls f)).take k).map clF)) (cmp:=bU) aD7 aDE aDF ⟨_,Tryz.func91,by kernel_rfl,by kernel_rfl⟩ rC (fun a _ b _ h1 h2=>lA h1 h2) (fun a _ b _=>by rw [bX,bX]; exact oP a b) (fun a _=>by simp) (fun a _=>lG a) kJ (by simp; omega) h6) (by simp; omega)) ?_)
  exact fM ⟨t2,t6,h1,h2,rfl,trivial⟩
 intro T H ⟨t2,t6,h1,h2,h6,_⟩
 refine .freeze 6 (.done ?_)
 refine dQ (R:=fun T H=>T 2=(mPq 2)∧T 6=(V.sl (List.map cF (srt bU (((bR (cls f)).take k).map clF))))∧H 1=(bk 1 24 3 [[(iV f.op),(iV f.arg),(V.sl (List.map cF f.kids))]])∧H 2=(bk 1 24 3 [[(iV 0),(iV 0),V.nilsl]])∧((H 6).ver=v∧(H 6).live=false)∧True) ⟨(eF t2 rfl),(eF t6 (aLT h6 (by simp) (l:=(srt bU (((bR (cls f)).take k).map clF))) rfl (by (simp [iH]; omega)))),(cH h1 (by decide)),(cH h2 (by decide)),(iZ (cVq h6)),trivial⟩ ?_
 intro T H ⟨t2,t6,h1,h2,h6,_⟩
 refine W_r (aA t6 (aJ (iT (6:Int) (srt bU (((bR (cls f)).take k).map clF))) rfl (bP t2 rfl rfl h2 rfl rfl rfl rfl rfl (aA rfl (R_e (aN ?_))))))
 refine iO (bS (u:=(V.agg [(iV (6:Int)),(iV 0),(V.sl (List.map cF (srt bU (((bR (cls f)).take k).map clF))))])) t2 (@rfl Blk (bk 1 24 3 [[(iV (6:Int)),(iV 0),(V.sl (List.map cF (srt bU (((bR (cls f)).take k).map clF))))]])) (lB oB rfl rfl)) (cR (rVq (iV 0))) (bV (aF ?_) (aF ?_) (eI ?_ (fun _=>by simp))) (aF ?_)
 · rw [d5]; rfl
 · rw [d5]; rfl
 · rw [d5]; rfl
 · rw [d1]; rfl
def aRO:List SO:=[
 qF 6 0 1,
 ql 7 6,
 qF 8 1 1,
 ql 9 8,
 sO 10 (.build [.int .i64 0,.int .i64 0,.nilsl] [(0,1,.t 7),(1,1,.t 9)]),
 sO 3 (.alloc 24 [.int .i64 0,.int .i64 0,.nilsl]),
 sN (.store 3 (.t 3) (.t 10))]
def aQP:List SO:=[
 qF 18 2 3,
 ql 19 18,
 qL 20 3 5,
 sO 21 (.call false 61 [.t 20]),
 sO 22 (.bslice 24 3 false [.int .i64 0,.int .i64 0,.nilsl] 1 [(0,.t 21)]),
 sO 23 (.append 24 3 40 (.t 19) (.t 22)),
 qF 24 2 3,
 sN (.store 1 (.t 24) (.t 23))]
def aMV:SC:=.seq (.reg [qP 15 .lss 14 13]) (.seq (.cond (.t 15) (.skip) (.exit 0)) (.seq (.block 1 (.seq (.reg [qA 16 3 12 14,qL 17 3 16,sO 5 (.alloc 24 [.int .i64 0,.int .i64 0,.nilsl]),sN (.store 3 (.t 5) (.t 17))]) (.reg aQP))) (.reg [qC 25 .add 14 1,qM 14 25])))
def s61:SF:=⟨27,[.cell 2 true 3],.seq (.reg [sO 1 (.box 24 3 (.t 0)),sO 2 (.alloc 24 [.int .i64 0,.int .i64 0,.nilsl])]) (.seq (.reg aRO) (.seq (.seq (.reg [qF 11 2 1,ql 12 11,qN 13 12,qI 14 0]) (.block 0 (.loop aMV))) (.seq (.reg [qL 26 3 3,sN (.store 3 (.t 2) (.t 26))]) (.ret))))⟩
theorem aPA:bF Tryz.prog ⟨[51,59,84,90,97,109,153,154,155,160],[],[],[]⟩ Tryz.f61=some s61:=by kernel_rfl
theorem tZ (f:Fm) (hz:f.sz≤4096) (ih: ∀ (g:Fm),g.sz < f.sz→g.sz≤4096→aP Tryz.prog 61 [(V.agg [(iV g.op),(iV g.arg),(V.sl (List.map cF g.kids))])] (V.agg [(iV g.op),(iV g.arg),(V.sl (List.map cF g.kids))])):aP Tryz.prog 61 [(V.agg [(iV f.op),(iV f.arg),(V.sl (List.map cF f.kids))])] (V.agg [(iV f.op),(iV f.arg),(V.sl (List.map cF f.kids))]):=by
 refine pW Tryz.func61 aPA fun hB=>?_
 unfold s61
 dsimp only
 have hln:=f.sz_len
 refine W_r (cK (i:=1) (n:=0) (m:=3) (cs:=[(iV f.op),(iV f.arg),(V.sl (List.map cF f.kids))]) rfl (cVq rfl) rfl rfl rfl (bE (i:=2) (n:=0) (m:=3) rfl (cVq rfl) rfl (R_e (W_r (aU rfl rfl (aL rfl rfl rfl rfl (aU rfl rfl ?_)))))))
 refine aL rfl rfl rfl rfl (bI rfl rfl (bE (i:=3) (n:=0) (m:=3) rfl (cVq rfl) rfl (bP rfl rfl rfl rfl rfl rfl rfl rfl rfl (R_e (aB ?_)))))
 refine gP (fun T H=>T 2=(mPq 2)∧T 3=(mPq 3)∧T 12=(V.sl (List.map cF f.kids))∧T 13=(iV ((f.kids.length:Nat):Int))∧T 14=(iV 0)∧H 1=(bk 1 24 3 [[(iV f.op),(iV f.arg),(V.sl (List.map cF f.kids))]])∧H 2=(bk 1 24 3 [[(iV 0),(iV 0),V.nilsl]])∧H 3=(bk 1 24 3 [[(iV f.op),(iV f.arg),V.nilsl]])∧H 5=bZq∧H 353=bZq∧True) ?_ ?_
 ·
  refine aU rfl rfl (aL rfl rfl rfl rfl (bM rfl (aA rfl ?_)))
  exact fM ⟨rfl,rfl,rfl,rfl,rfl,rfl,rfl,rfl,rfl,rfl,trivial⟩
 intro T H ⟨t2,t3,t12,t13,t14,h1,h2,h3,h5,h353,_⟩
 refine .lazyCell 353 24 3 3 0 2 [(iV f.op),(iV f.arg),V.nilsl] (by decide) (by rw [h3]; rfl) (by rw [h3]; rfl) rfl (.done ?_)
 refine dQ (R:=fun T H=>T 2=(mPq 2)∧T 3=(mPq 3)∧T 12=(V.sl (List.map cF f.kids))∧T 13=(iV ((f.kids.length:Nat):Int))∧T 14=(iV 0)∧H 1=(bk 1 24 3 [[(iV f.op),(iV f.arg),(V.sl (List.map cF f.kids))]])∧H 2=(bk 1 24 3 [[(iV 0),(iV 0),V.nilsl]])∧H 3=(bk 1 24 3 [[(iV f.op),(iV f.arg),(V.ms 353 1 0 0)]])∧H 5=bZq∧H 353=(bz 1 24 3 [])∧True) ⟨t2,t3,t12,t13,t14,(uTq (uTq h1)),(uTq (uTq h2)),(by rw [aG,h3,(cVq h353)]; rfl),(uTq (uTq h5)),(by rw [aV _ _ (by decide),aG,(cVq h353)]),trivial⟩ ?_
 intro T H ⟨t2,t3,t12,t13,t14,h1,h2,h3,h5,h353,_⟩
 refine aE fun Q1 n1 x1 y1 z1=>?_
 refine cQ (fun mm T H=> ∃ (k:Nat) (w:Nat) (v5:Nat),mm=f.kids.length - k∧T 2=(mPq 2)∧T 3=(mPq 3)∧T 12=(V.sl (List.map cF f.kids))∧T 13=(iV ((f.kids.length:Nat):Int))∧T 14=(iV ((k:Nat):Int))∧H 1=(bk 1 24 3 [[(iV f.op),(iV f.arg),(V.sl (List.map cF f.kids))]])∧H 2=(bk 1 24 3 [[(iV 0),(iV 0),V.nilsl]])∧H 3=(bk 1 24 3 [[(iV f.op),(iV f.arg),(V.ms 353 w 0 k)]])∧(H 5).ver=v5∧H 353=(bz w 24 3 (List.map cF (f.kids.take k)))∧(k≤f.kids.length)) ?_ ?_
 ·
  refine ⟨_,0,1,0,rfl,t2,t3,t12,t13,(eTq t14 rfl),h1,h2,h3,(cVq h5),(eTq h353 (by rfl)),?_⟩
  · omega
 intro mm T H ⟨k,w,v5,hmm,t2,t3,t12,t13,t14,h1,h2,h3,h5,h353,hk⟩ Q2 p12 p22 p32
 unfold aMV
 refine W_r (bW t14 t13 (R_e ?_))
 refine aK rfl (fun c3=>?_) fun c3=>?_
 ·
  refine aD (aE fun Q4 n4 x4 y4 z4=>(W_r (dC (i:=k) t12 t14 (by omega) (bX _) rfl (aH rfl rfl (bE (i:=5) (n:=v5) (m:=3) rfl h5 rfl (bP rfl rfl rfl rfl rfl rfl rfl rfl rfl (R_e ?_)))))))
  refine W_t (aU t3 h3 (aL rfl h3 rfl rfl (aL rfl rfl rfl rfl (aJ (ih (nth f.kids k) (Fm.sz_kid (by omega)) (Nat.le_trans (Nat.le_of_lt (Fm.sz_kid (by omega))) hz)) rfl (bC rfl rfl (eH (l:=(f.kids.take k)) (f:=cF) (x:=(nth f.kids k)) (rVq (V.ms 353 w 0 k)) h353 (by (simp; omega)) (pV (x:=(nth f.kids k)) (rVq (V.sl [[(iV ((nth f.kids k).op)),(iV ((nth f.kids k).arg)),(V.sl (List.map cF ((nth f.kids k).kids)))]]))) (kJ _) (lG _) (by omega) (by omega) (aU t3 h3 ?_)))))))
  refine bP rfl rfl rfl h3 rfl rfl rfl rfl rfl (R_e (n4 _ _ (.done (W_t (bL t14 (rNq 1) (by omega) (aA rfl (R_e ?_)))))))
  refine p12 _ _ _ ?_ ⟨(k+1),(w+1),(v5+1),rfl,t2,t3,t12,t13,(eTq (rNq (k+1)) (by rfl)),h1,h2,(eTq (@rfl Blk (bk 1 24 3 [[(iV f.op),(iV f.arg),(V.ms 353 (w+1) 0 (k+1))]])) (by rfl)),(cVq rfl),(eTq (@rfl Blk (bz (w+1) 24 3 (List.map cF (f.kids.take k++[(nth f.kids k)])))) (by (rw [bZ (by omega)]; done))),?_⟩
  · omega
  · omega
 refine aX (p32 _ _ _ (x1 _ _ (.done (W_r (aL t3 h3 rfl rfl (bP t2 rfl rfl h2 rfl rfl rfl rfl rfl (R_e ?_)))))))
 refine aN ?_
 refine eK (bS (u:=(V.agg [(iV f.op),(iV f.arg),(V.ms 353 w 0 k)])) t2 (@rfl Blk (bk 1 24 3 [[(iV f.op),(iV f.arg),(V.ms 353 w 0 k)]])) (lB oB rfl rfl)) (bV (cA (by simp) rfl) (cA (by simp) rfl) (yP h353 (by simp) (l:=(f.kids.take k)) rfl (by (simp; omega)) (fun _=>by simp) ?_))
 · first|rfl|(rw [show k=f.kids.length by omega,List.take_length]; done)
theorem aCL (f:Fm) (hz:f.sz≤4096):aP Tryz.prog 61 [(V.agg [(iV f.op),(iV f.arg),(V.sl (List.map cF f.kids))])] (V.agg [(iV f.op),(iV f.arg),(V.sl (List.map cF f.kids))]):=by
  have key: ∀ (mm:Nat) (f:Fm),f.sz < mm→f.sz≤4096→aP Tryz.prog 61 [(V.agg [(iV f.op),(iV f.arg),(V.sl (List.map cF f.kids))])] (V.agg [(iV f.op),(iV f.arg),(V.sl (List.map cF f.kids))]):=by
    intro mm
    induction mm with
    |zero=>intro f hlt; exact absurd hlt (Nat.not_lt_zero _)
    | succ mm ih =>
      intro f hlt hz
      exact tZ f hz fun f2 hlt2=>ih f2 (by omega)
  exact key (f.sz+1) f (Nat.lt_succ_self _) hz
def aOk:List SO:=[
 qF 33 2 1,
 ql 34 33,
 sO 35 (.call false 107 [.t 34]),
 qE 36 35 0,
 qE 37 35 1,
 qM 2 36,
 qM 3 37]
def aOP:List SO:=[
 qF 40 2 1,
 ql 41 40,
 sO 42 (.call false 108 [.t 41]),
 qE 43 42 0,
 qE 44 42 1,
 qM 2 43,
 qM 3 44]
def aPz:List SO:=[
 qL 56 3 6,
 sO 57 (.call false 60 [.t 56]),
 qM 55 57,
 qE 58 55 0,
 qE 59 55 1,
 sO 7 (.alloc 24 [.int .i64 0,.int .i64 0,.nilsl]),
 sN (.store 3 (.t 7) (.t 58)),
 qM 8 59]
def aPf:List SO:=[
 qF 63 2 4,
 ql 64 63,
 qL 65 3 7,
 sO 66 (.bslice 24 3 false [.int .i64 0,.int .i64 0,.nilsl] 1 [(0,.t 65)]),
 sO 67 (.append 24 3 40 (.t 64) (.t 66)),
 qF 68 2 4,
 sN (.store 1 (.t 68) (.t 67))]
def aME:SC:=.seq (.reg [qP 52 .lss 51 50]) (.seq (.cond (.t 52) (.skip) (.exit 1)) (.seq (.block 2 (.seq (.reg [qA 53 3 49 51,qL 54 3 53,sO 6 (.alloc 24 [.int .i64 0,.int .i64 0,.nilsl]),sN (.store 3 (.t 6) (.t 54))]) (.seq (.reg aPz) (.seq (.seq (.reg [qM 60 8,qC 61 .neq 60 0]) (.cond (.t 61) (.seq (.reg [qM 62 8,sO 2 (.mv (.c (.nilsl))),qM 3 62]) (.ret)) (.skip))) (.reg aPf))))) (.reg [qC 69 .add 51 1,qM 51 69])))
def s87:SF:=⟨73,[.tmp 2,.tmp 3],.seq (.reg [sO 1 (.box 24 3 (.t 0)),sO 2 (.mv (.c (.nilsl))),qI 3 0]) (.seq (.seq (.reg [qF 9 0 1,ql 10 9]) (.block 0 (.seq (.reg [qC 12 .eql 10 1,qM 11 12]) (.cond (.t 11) (.seq (.reg [sO 13 (.bslice 135 1 false [.nilsl] 1 [(0,.c (.nilsl))]),qM 2 13,qI 3 0]) (.ret)) (.seq (.reg [qC 15 .eql 10 4,qM 14 15]) (.cond (.t 14) (.seq (.seq (.reg [qF 16 2 1,ql 17 16,sO 18 (.idx 3 (.t 17) (.c (.int .i64 0))),qF 19 0 18,ql 20 19,qC 21 .eql 20 1]) (.cond (.t 21) (.seq (.reg [sO 2 (.mv (.c (.nilsl))),qI 3 0]) (.ret)) (.skip))) (.seq (.reg [qL 22 3 1,sO 23 (.bslice 24 3 false [.int .i64 0,.int .i64 0,.nilsl] 1 [(0,.t 22)]),sO 24 (.bslice 135 1 false [.nilsl] 1 [(0,.t 23)]),qM 2 24,qI 3 0]) (.ret))) (.seq (.seq (.reg [qC 26 .eql 10 2,qM 25 26]) (.cond (.t 25) (.skip) (.reg [qC 27 .eql 10 3,qM 25 27]))) (.cond (.t 25) (.seq (.reg [qL 28 3 1,sO 29 (.bslice 24 3 false [.int .i64 0,.int .i64 0,.nilsl] 1 [(0,.t 28)]),sO 30 (.bslice 135 1 false [.nilsl] 1 [(0,.t 29)]),qM 2 30,qI 3 0]) (.ret)) (.seq (.reg [qC 32 .eql 10 6,qM 31 32]) (.cond (.t 31) (.seq (.reg aOk) (.ret)) (.seq (.reg [qC 39 .eql 10 5,qM 38 39]) (.cond (.t 38) (.seq (.reg aOP) (.ret)) (.skip))))))))))))) (.seq (.reg [qF 45 0 1,ql 46 45,sO 47 (.build [.int .i64 0,.int .i64 0,.nilsl] [(0,1,.t 46)]),sO 4 (.alloc 24 [.int .i64 0,.int .i64 0,.nilsl]),sN (.store 3 (.t 4) (.t 47))]) (.seq (.seq (.reg [qF 48 2 1,ql 49 48,qN 50 49,qI 51 0]) (.block 1 (.loop aME))) (.seq (.reg [qL 70 3 4,sO 71 (.bslice 24 3 false [.int .i64 0,.int .i64 0,.nilsl] 1 [(0,.t 70)]),sO 72 (.bslice 135 1 false [.nilsl] 1 [(0,.t 71)]),qM 2 72,qI 3 0]) (.ret)))))⟩
theorem aNT:bF Tryz.prog ⟨[51,59,84,90,97,109,153,154,155,160],[],[],[]⟩ Tryz.f87=some s87:=by kernel_rfl
def aOM:List SO:=[
 qL 18 3 6,
 sO 19 (.call false 87 [.t 18]),
 qM 17 19,
 qE 20 17 0,
 qE 21 17 1,
 qM 7 20,
 qM 8 21]
def aJC:SC:=.seq (.reg [qP 28 .lss 27 26]) (.seq (.cond (.t 28) (.skip) (.exit 2)) (.seq (.block 3 (.seq (.reg [qA 29 1 25 27,ql 30 29,qM 10 30]) (.reg [qM 31 4,qM 32 10,sO 33 (.call false 119 [.t 31,.t 32]),qM 4 33]))) (.reg [qC 34 .add 27 1,qM 27 34])))
def aJj:SC:=.seq (.reg [qP 14 .lss 13 12]) (.seq (.cond (.t 14) (.skip) (.exit 0)) (.seq (.block 1 (.seq (.reg [qA 15 3 11 13,qL 16 3 15,sO 6 (.alloc 24 [.int .i64 0,.int .i64 0,.nilsl]),sN (.store 3 (.t 6) (.t 16))]) (.seq (.reg aOM) (.seq (.seq (.reg [qM 22 8,qC 23 .neq 22 0]) (.cond (.t 23) (.seq (.reg [qM 24 8,sO 2 (.mv (.c (.nilsl))),qM 3 24]) (.ret)) (.skip))) (.seq (.reg [qM 25 7,qN 26 25,qI 27 0]) (.block 2 (.loop aJC))))))) (.reg [qC 35 .add 13 1,qM 13 35])))
def aRm:SF:=⟨40,[.tmp 2,.tmp 3],.seq (.reg [sO 2 (.mv (.c (.nilsl))),qI 3 0]) (.seq (.reg [sO 4 (.mv (.c (.nilsl)))]) (.seq (.seq (.reg [qM 11 0,qN 12 11,qI 13 0]) (.block 0 (.loop aJj))) (.seq (.reg [qM 36 4,sO 37 (.call false 120 [.t 36]),qE 38 37 0,qE 39 37 1,qM 2 38,qM 3 39]) (.ret))))⟩
theorem aLK:bF Tryz.prog ⟨[51,59,84,90,97,109,153,154,155,160],[],[],[]⟩ Tryz.f107=some aRm:=by kernel_rfl
def aJp:SC:=.seq (.reg [qP 20 .lss 19 18]) (.seq (.cond (.t 20) (.skip) (.exit 0)) (.seq (.block 1 (.seq (.reg [qA 21 1 17 19,ql 22 21,qM 7 22]) (.seq (.reg [qM 23 7,ql 24 3,sO 25 (.call false 140 [.t 23,.t 24]),sO 26 (.un .not (.t 25))]) (.cond (.t 26) (.reg [qM 27 5,qM 28 7,sO 29 (.bslice 135 1 false [.nilsl] 1 [(0,.t 28)]),sO 30 (.append 135 1 24 (.t 27) (.t 29)),qM 5 30]) (.skip))))) (.reg [qC 31 .add 19 1,qM 19 31])))
def aRr:SF:=⟨36,[.tmp 4],.seq (.reg [sO 3 (.box 135 1 (.t 1)),sO 4 (.mv (.c (.nilsl)))]) (.seq (.seq (.reg [qM 8 0,sO 9 (.mkf 139 [.t 3]),sO 10 (.call false 138 [.t 8,.t 9]),qC 11 .gtr 10 0]) (.cond (.t 11) (.seq (.reg [qM 12 0,qM 4 12]) (.ret)) (.skip))) (.seq (.reg [qM 13 0,qN 14 13,qC 15 .add 14 1,sO 16 (.mks 135 1 24 [.nilsl] (.c (.int .i64 0)) (.t 15)),qM 5 16]) (.seq (.seq (.reg [qM 17 0,qN 18 17,qI 19 0]) (.block 0 (.loop aJp))) (.seq (.reg [qM 32 5,ql 33 3,sO 34 (.bslice 135 1 false [.nilsl] 1 [(0,.t 33)]),sO 35 (.append 135 1 24 (.t 32) (.t 34)),qM 4 35]) (.ret)))))⟩
theorem aKs:bF Tryz.prog ⟨[51,59,84,90,97,109,153,154,155,160],[],[],[]⟩ Tryz.f119=some aRr:=by kernel_rfl
def aHP:SC:=.seq (.reg [qP 11 .lss 10 9]) (.seq (.cond (.t 11) (.skip) (.exit 0)) (.seq (.block 1 (.seq (.reg [qA 12 1 8 10,ql 13 12,qM 7 13]) (.seq (.reg [qM 14 1,qM 15 7,sO 16 (.callv false (.t 14) [.t 15])]) (.cond (.t 16) (.reg [qM 17 5,qC 18 .add 17 1,qM 5 18]) (.skip))))) (.reg [qC 19 .add 10 1,qM 10 19])))
def aOm:SF:=⟨21,[.tmp 4],.seq (.reg [qI 4 0]) (.seq (.reg [qI 5 0]) (.seq (.seq (.reg [qM 8 0,qN 9 8,qI 10 0]) (.block 0 (.loop aHP))) (.seq (.reg [qM 20 5,qM 4 20]) (.ret))))⟩
theorem aK5:bF Tryz.prog ⟨[51,59,84,90,97,109,153,154,155,160],[],[],[]⟩ Tryz.f138=some aOm:=by kernel_rfl
theorem aF1 (p:Cl→Bool) (w:List Cl) (g:Nat) (caps:List V) (hca:cD caps=true) (hpu:cY caps=true) (hq: ∀ k,k < w.length→aP Tryz.prog g (V.sl ((nth w k).map cF)::caps) (.bool (p (nth w k)))) (hl:w.length≤1099511627776):aP Tryz.prog 138 [(V.sl (List.map cCl w)),(V.fn g [] caps)] (iV ((iG p w:Nat):Int)):=by
 refine gS true 6 Tryz.func138 aK5 (by kernel_rfl) (by simp [aOm]) (by simp [hpu]) (by simp) fun hB=>?_
 simp only [kA,jZ,iK,jT,jV,mI,jX,iN,implies_true,and_true,true_and] at hB
 unfold aOm
 dsimp only
 refine W_r (aA rfl (R_e (W_r (aA rfl (R_e (aB (W_r ?_)))))))
 refine aA rfl (bM rfl (aA rfl (R_e (aE fun Q1 n1 x1 y1 z1=>?_))))
 refine cQ (fun mm T H=> ∃ (k:Nat),mm=w.length - k∧T 1=(V.fn g [] caps)∧T 5=(iV ((iG p (w.take k):Nat):Int))∧T 8=(V.sl (List.map cCl w))∧T 9=(iV ((w.length:Nat):Int))∧T 10=(iV ((k:Nat):Int))∧(k≤w.length)) ?_ ?_
 ·
  refine ⟨_,0,rfl,rfl,(eTq (rVq (iV 0)) (by rfl)),rfl,rfl,(eTq (rVq (iV 0)) rfl),?_⟩
  · omega
 intro mm T H ⟨k,hmm,t1,t5,t8,t9,t10,hk⟩ Q2 p12 p22 p32
 unfold aHP
 have hq1:=aFR p (w.take k)
 have hq2:(w.take k).length=k:=by rw [List.length_take]; omega
 refine W_r (bW t10 t9 (R_e ?_))
 refine aK rfl (fun c3=>?_) fun c3=>?_
 ·
  refine aD (aE fun Q4 n4 x4 y4 z4=>(W_r (dE (i:=k) t8 t10 (by omega) rfl (aH rfl rfl (aA rfl (R_e (W_r ?_)))))))
  refine aA t1 (aA rfl (jW (rVq (V.fn g [] caps)) (aY (rVq (V.sl (List.map cF (nth w k)))) cU) (hq k (by omega)) (cC _ _ (by simp [hca])) (by simp [hpu]) (Or.inl (by simp [hpu])) (R_e ?_)))
  refine mT rfl (fun c5=>?_) (fun c5=>?_)
  ·
   have d1:=aDq (p:=p) (l:=w) (k:=k) (by omega) c5
   refine W_t (aA t5 (bL rfl (rNq 1) (by omega) (aA rfl (R_e (n4 _ _ (.done (W_t ?_)))))))
   refine bL t10 (rNq 1) (by omega) (aA rfl (R_e ?_))
   refine p12 _ _ _ ?_ ⟨(k+1),rfl,t1,(eTq (rNq ((iG p (w.take k))+1)) (by (rw [d1]; done))),t8,t9,(eTq (rNq (k+1)) (by rfl)),?_⟩
   · omega
   · omega
  have d1:=aFI (p:=p) (l:=w) (k:=k) (by omega) (by simp only [c5]; exact Bool.false_ne_true)
  refine dA (n4 _ _ (.done (W_t (bL t10 (rNq 1) (by omega) (aA rfl (R_e ?_))))))
  refine p12 _ _ _ ?_ ⟨(k+1),rfl,t1,(eTq t5 (by (rw [d1]; done))),t8,t9,(eTq (rNq (k+1)) (by rfl)),?_⟩
  · omega
  · omega
 refine aX (p32 _ _ _ (x1 _ _ (.done (W_r (aA t5 (aA rfl (R_e ?_)))))))
 refine aN ?_
 refine bB (rNq (iG p (w.take k))) (aF ?_)
 · rw [show k=w.length by omega,List.take_length]
def aRx:SF:=⟨7,[.tmp 3],.seq (.reg [sO 3 (.mv (.c (.bool false)))]) (.seq (.reg [ql 4 1,qM 5 0,sO 6 (.call false 140 [.t 4,.t 5]),qM 3 6]) (.ret))⟩
theorem aLf:bF Tryz.prog ⟨[51,59,84,90,97,109,153,154,155,160],[],[],[]⟩ Tryz.f139=some aRx:=by kernel_rfl
def aRI:SF:=⟨9,[.tmp 4],.seq (.reg [sO 2 (.box 135 1 (.t 0)),sO 4 (.mv (.c (.bool false)))]) (.seq (.reg [qM 5 1,sO 6 (.mkf 151 [.t 2]),sO 7 (.call false 69 [.t 5,.t 6]),qC 8 .eql 7 0,qM 4 8]) (.ret))⟩
theorem aMk:bF Tryz.prog ⟨[51,59,84,90,97,109,153,154,155,160],[],[],[]⟩ Tryz.f140=some aRI:=by kernel_rfl
def aNp:SC:=.seq (.reg [qP 11 .lss 10 9]) (.seq (.cond (.t 11) (.skip) (.exit 0)) (.seq (.block 1 (.seq (.reg [qA 12 3 8 10,qL 13 3 12,sO 7 (.alloc 24 [.int .i64 0,.int .i64 0,.nilsl]),sN (.store 3 (.t 7) (.t 13))]) (.seq (.reg [qM 14 1,qL 15 3 7,sO 16 (.callv false (.t 14) [.t 15])]) (.cond (.t 16) (.reg [qM 17 5,qC 18 .add 17 1,qM 5 18]) (.skip))))) (.reg [qC 19 .add 10 1,qM 10 19])))
def s69:SF:=⟨21,[.tmp 4],.seq (.reg [qI 4 0]) (.seq (.reg [qI 5 0]) (.seq (.seq (.reg [qM 8 0,qN 9 8,qI 10 0]) (.block 0 (.loop aNp))) (.seq (.reg [qM 20 5,qM 4 20]) (.ret))))⟩
theorem aPi:bF Tryz.prog ⟨[51,59,84,90,97,109,153,154,155,160],[],[],[]⟩ Tryz.f69=some s69:=by kernel_rfl
theorem sW (p:Fm→Bool) (w:List Fm) (g:Nat) (caps:List V) (hca:cD caps=true) (hpu:cY caps=true) (hq: ∀ k,k < w.length→aP Tryz.prog g (fmV (nth w k)::caps) (.bool (p (nth w k)))) (hl:w.length≤1099511627776):aP Tryz.prog 69 [(V.sl (List.map cF w)),(V.fn g [] caps)] (iV ((iG p w:Nat):Int)):=by
 refine gS true 6 Tryz.func69 aPi (by kernel_rfl) (by simp [s69]) (by simp [hpu]) (by simp) fun hB=>?_
 simp only [kA,jZ,iK,jT,jV,mI,jX,iN,implies_true,and_true,true_and] at hB
 unfold s69
 dsimp only
 refine W_r (aA rfl (R_e (W_r (aA rfl (R_e (aB (W_r ?_)))))))
 refine aA rfl (bM rfl (aA rfl (R_e (aE fun Q1 n1 x1 y1 z1=>?_))))
 refine cQ (fun mm T H=> ∃ (k:Nat) (v7:Nat),mm=w.length - k∧T 1=(V.fn g [] caps)∧T 5=(iV ((iG p (w.take k):Nat):Int))∧T 8=(V.sl (List.map cF w))∧T 9=(iV ((w.length:Nat):Int))∧T 10=(iV ((k:Nat):Int))∧(H 7).ver=v7∧(k≤w.length)) ?_ ?_
 ·
  refine ⟨_,0,0,rfl,rfl,(eTq (rVq (iV 0)) (by rfl)),rfl,rfl,(eTq (rVq (iV 0)) rfl),(cVq rfl),?_⟩
  · omega
 intro mm T H ⟨k,v7,hmm,t1,t5,t8,t9,t10,h7,hk⟩ Q2 p12 p22 p32
 unfold aNp
 have hq1:=aFR p (w.take k)
 have hq2:(w.take k).length=k:=by rw [List.length_take]; omega
 refine W_r (bW t10 t9 (R_e ?_))
 refine aK rfl (fun c3=>?_) fun c3=>?_
 ·
  refine aD (aE fun Q4 n4 x4 y4 z4=>(W_r (dC (i:=k) t8 t10 (by omega) (bX _) rfl (aH rfl rfl (bE (i:=7) (n:=v7) (m:=3) rfl h7 rfl (bP rfl rfl rfl rfl rfl rfl rfl rfl rfl (R_e ?_)))))))
  refine W_r (aA t1 (aL rfl rfl rfl rfl (jW (rVq (V.fn g [] caps)) (aY (rVq (V.agg [(iV ((nth w k).op)),(iV ((nth w k).arg)),(V.sl (List.map cF ((nth w k).kids)))])) cU) (hq k (by omega)) (cC _ _ (by simp [hca])) (by simp [hpu]) (Or.inl (by simp [hpu])) (R_e ?_))))
  refine mT rfl (fun c5=>?_) (fun c5=>?_)
  ·
   have d1:=aDq (p:=p) (l:=w) (k:=k) (by omega) c5
   refine W_t (aA t5 (bL rfl (rNq 1) (by omega) (aA rfl (R_e (n4 _ _ (.done (W_t ?_)))))))
   refine bL t10 (rNq 1) (by omega) (aA rfl (R_e ?_))
   refine p12 _ _ _ ?_ ⟨(k+1),(v7+1),rfl,t1,(eTq (rNq ((iG p (w.take k))+1)) (by (rw [d1]; done))),t8,t9,(eTq (rNq (k+1)) (by rfl)),(cVq rfl),?_⟩
   · omega
   · omega
  have d1:=aFI (p:=p) (l:=w) (k:=k) (by omega) (by simp only [c5]; exact Bool.false_ne_true)
  refine dA (n4 _ _ (.done (W_t (bL t10 (rNq 1) (by omega) (aA rfl (R_e ?_))))))
  refine p12 _ _ _ ?_ ⟨(k+1),(v7+1),rfl,t1,(eTq t5 (by (rw [d1]; done))),t8,t9,(eTq (rNq (k+1)) (by rfl)),(cVq rfl),?_⟩
  · omega
  · omega
 refine aX (p32 _ _ _ (x1 _ _ (.done (W_r (aA t5 (aA rfl (R_e ?_)))))))
 refine aN ?_
 refine bB (rNq (iG p (w.take k))) (aF ?_)
 · rw [show k=w.length by omega,List.take_length]
def aPP:List SO:=[
 ql 7 1,
 qL 8 3 2,
 sO 9 (.call false 152 [.t 7,.t 8,.c (.fn 91 [] [])]),
 qM 6 9,
 qE 10 6 0,
 qE 11 6 1,
 qM 4 10,
 qM 5 11]
def aRd:SF:=⟨14,[.tmp 3],.seq (.reg [sO 2 (.box 24 3 (.t 0)),sO 3 (.mv (.c (.bool false)))]) (.seq (.reg aPP) (.seq (.reg [qM 12 5,sO 13 (.un .not (.t 12)),qM 3 13]) (.ret)))⟩
theorem aLo:bF Tryz.prog ⟨[51,59,84,90,97,109,153,154,155,160],[],[],[]⟩ Tryz.f151=some aRd:=by kernel_rfl
def aNE:List SO:=[
 qM 18 9,
 qM 19 10,
 qP 20 .add 18 19,
 sO 21 (.conv .u64 (.t 20)),
 sO 22 (.bin .shr (.t 21) (.c (.int .u64 1))),
 sO 23 (.conv .i64 (.t 22)),
 qM 11 23]
def aNz:List SO:=[
 qM 24 2,
 qM 25 0,
 qM 26 11,
 qA 27 3 25 26,
 qL 28 3 27,
 qL 29 3 4,
 sO 30 (.callv false (.t 24) [.t 28,.t 29]),
 qC 31 .lss 30 0]
def aHH:SC:=.seq (.seq (.reg [qM 15 9,qM 16 10,qP 17 .lss 15 16]) (.cond (.t 17) (.skip) (.exit 0))) (.block 1 (.seq (.reg aNE) (.seq (.reg aNz) (.cond (.t 31) (.reg [qM 32 11,qC 33 .add 32 1,qM 9 33]) (.reg [qM 34 11,qM 10 34])))))
def aNF:List SO:=[
 qM 35 9,
 qM 36 9,
 qM 37 8,
 qP 38 .lss 36 37,
 qM 39 38,
 ⟨some (39,true),some 40,.mv (.t 2)⟩,
 ⟨some (39,true),some 41,.mv (.t 0)⟩,
 ⟨some (39,true),some 42,.mv (.t 9)⟩,
 ⟨some (39,true),some 43,.idx 3 (.t 41) (.t 42)⟩,
 ⟨some (39,true),some 44,.load true 3 (.t 43)⟩,
 ⟨some (39,true),some 45,.load true 3 (.t 4)⟩,
 ⟨some (39,true),some 46,.callv false (.t 40) [.t 44,.t 45]⟩,
 ⟨some (39,true),some 47,.bin .eql (.t 46) (.c (.int .i64 0))⟩,
 sO 48 (.pick (.t 39) (.t 47) (.c (.bool false))),
 qM 6 35,
 qM 7 48]
def aRp:SF:=⟨49,[.tmp 6,.tmp 7],.seq (.reg [sO 4 (.box 24 3 (.t 1)),qI 6 0,sO 7 (.mv (.c (.bool false)))]) (.seq (.reg [qM 12 0,qN 13 12,qM 8 13]) (.seq (.reg [qM 14 8,qI 9 0,qM 10 14]) (.seq (.block 0 (.loop aHH)) (.seq (.reg aNF) (.ret)))))⟩
theorem aMb:bF Tryz.prog ⟨[51,59,84,90,97,109,153,154,155,160],[],[],[]⟩ Tryz.f152=some aRp:=by kernel_rfl
theorem aIy (l:List Fm) (t:Fm) (hs:gU l) (hl:l.length≤4294967296):aP Tryz.prog 152 [(V.sl (List.map cF l)),(V.agg [(iV t.op),(iV t.arg),(V.sl (List.map cF t.kids))]),(V.fn 91 [] [])] (V.tup [(iV ((lbF l t:Nat):Int)),(V.bool (decide (lbF l t < l.length∧bU (nth l (lbF l t)) t=0)))]):=by
 refine pW Tryz.func152 aMb fun hB=>?_
 unfold aRp
 dsimp only
 have q0:=aIg t l
 refine W_r (cK (i:=4) (n:=0) (m:=3) (cs:=[(iV t.op),(iV t.arg),(V.sl (List.map cF t.kids))]) rfl (cVq rfl) rfl rfl rfl (aA rfl (aA rfl (R_e (W_r (aA rfl (bM rfl ?_)))))))
 refine aA rfl (R_e (W_r (aA rfl (aA rfl (aA rfl (R_e (aE fun Q1 n1 x1 y1 z1=>?_)))))))
 refine cQ (fun mm T H=> ∃ (i:Nat) (j:Nat),mm=j - i∧T 0=(V.sl (List.map cF l))∧T 2=(V.fn 91 [] [])∧T 4=(mPq 4)∧T 8=(iV ((l.length:Nat):Int))∧T 9=(iV ((i:Nat):Int))∧T 10=(iV ((j:Nat):Int))∧H 4=(bk 1 24 3 [[(iV t.op),(iV t.arg),(V.sl (List.map cF t.kids))]])∧(i≤lbF l t)∧(lbF l t≤j)∧(j≤l.length)) ?_ ?_
 ·
  refine ⟨_,0,l.length,rfl,rfl,rfl,rfl,rfl,(eTq (rVq (iV 0)) rfl),rfl,rfl,?_,?_,?_⟩
  · omega
  · omega
  · omega
 intro mm T H ⟨i,j,hmm,t0,t2,t4,t8,t9,t10,h4,h1,h2,h3⟩ Q2 p12 p22 p32
 unfold aHH
 refine aB (W_r (aA t9 (aA t10 (bW rfl rfl (R_e ?_)))))
 refine aK rfl (fun c3=>?_) fun c3=>?_
 ·
  refine aD (oR fun Q4 n4 x4 y4 z4=>(W_r (aA t9 (aA t10 (bL rfl rfl (by omega) (aFi (n:=(i+j)) (rNq (i+j)) (by omega) (aPJ (n:=(i+j)) rfl rfl ?_)))))))
  refine aLJ (n:=((i+j) / 2)) (rVq (V.int .u64 (((i+j) / 2:Nat):Int))) (by omega) (aA rfl (R_e (W_r (aA t2 (aA t0 (aA rfl (dC (i:=((i+j) / 2)) (rVq (V.sl (List.map cF l))) (rNq ((i+j) / 2)) (by omega) (bX _) rfl ?_)))))))
  refine aH rfl rfl (aL t4 h4 rfl rfl (jW (rVq (V.fn 91 [] [])) (aY (rVq (V.agg [(iV ((nth l ((i+j) / 2)).op)),(iV ((nth l ((i+j) / 2)).arg)),(V.sl (List.map cF ((nth l ((i+j) / 2)).kids)))])) (aY (rVq (V.agg [(iV t.op),(iV t.arg),(V.sl (List.map cF t.kids))])) cU)) (oP (nth l ((i+j) / 2)) t) (cC _ _ (by simp [-List.map_take,-List.map_drop,-List.map_append,-List.map_reverse])) (by simp [-List.map_take,-List.map_drop,-List.map_append,-List.map_reverse]) (Or.inl (by simp [-List.map_take,-List.map_drop,-List.map_append,-List.map_reverse])) (bW rfl rfl (R_e ?_))))
  refine cW rfl (fun c5=>?_) fun c5=>?_
  ·
   have d1:=(rP hs (by omega)).1 c5
   refine W_t (aA rfl (bL rfl (rNq 1) (by omega) (aA rfl (R_e (n4 _ _ ?_)))))
   refine p12 _ _ _ ?_ ⟨(((i+j) / 2)+1),j,rfl,t0,t2,t4,t8,(eTq (rNq (((i+j) / 2)+1)) (by rfl)),t10,h4,?_,?_,?_⟩
   · omega
   · omega
   · omega
   · omega
  have d1: ¬((i+j) / 2 < lbF l t):=fun e=>c5 ((rP hs (by omega)).2 e)
  refine W_t (aA rfl (aA rfl (R_e (n4 _ _ ?_))))
  refine p12 _ _ _ ?_ ⟨i,((i+j) / 2),rfl,t0,t2,t4,t8,t9,(eTq (rNq ((i+j) / 2)) (by rfl)),h4,?_,?_,?_⟩
  · omega
  · omega
  · omega
  · omega
 refine aX (p32 _ _ _ (x1 _ _ (.done (W_r (aA t9 (aA t9 (aA t8 ?_)))))))
 refine bW rfl rfl (aA rfl ?_)
 refine aS 9 (fun T H=>T 35=(iV ((i:Nat):Int))∧T 48=(V.bool (decide ((((i:Nat):Int) < ((l.length:Nat):Int))∧((bU (nth l i) t)=(0:Int)))))∧H 4=(bk 1 24 3 [[(iV t.op),(iV t.arg),(V.sl (List.map cF t.kids))]])∧True) ?_ ?_
 ·
  by_cases g6:((i:Nat):Int) < ((l.length:Nat):Int)
  ·
   refine aC (edT g6 rfl) (aA t2 (aC (edT g6 rfl) (aA t0 (aC (edT g6 rfl) (aA t9 (aC (edT g6 rfl) (dC (i:=i) (rVq (V.sl (List.map cF l))) (rNq i) (by omega) (bX _) rfl ?_)))))))
   refine aC (edT g6 rfl) (aH rfl rfl (aC (edT g6 rfl) (aL t4 h4 rfl rfl (aC (edT g6 rfl) (jW (rVq (V.fn 91 [] [])) (aY (rVq (V.agg [(iV ((nth l i).op)),(iV ((nth l i).arg)),(V.sl (List.map cF ((nth l i).kids)))])) (aY (rVq (V.agg [(iV t.op),(iV t.arg),(V.sl (List.map cF t.kids))])) cU)) (oP (nth l i) t) (cC _ _ (by simp [-List.map_take,-List.map_drop,-List.map_append,-List.map_reverse])) (by simp [-List.map_take,-List.map_drop,-List.map_append,-List.map_reverse]) (Or.inl (by simp [-List.map_take,-List.map_drop,-List.map_append,-List.map_reverse])) (aC (edT g6 rfl) (bH rfl rfl ?_)))))))
   refine aR (edT g6 rfl) rfl ?_
   exact ⟨rfl,(dM g6),h4,trivial⟩
  ·
   refine G_n (edF g6 rfl) (G_n (edF g6 rfl) (G_n (edF g6 rfl) (G_n (edF g6 rfl) (G_n (edF g6 rfl) (G_n (edF g6 rfl) (G_n (edF g6 rfl) (G_n (edF g6 rfl) ?_)))))))
   refine aT (edF g6 rfl) rfl ?_
   exact ⟨rfl,(dO g6),h4,trivial⟩
 intro T H ⟨t35,t48,h4,_⟩
 refine aA t35 (aA t48 (R_e (aN ?_)))
 refine eE (rNq i) (rVq (V.bool (decide ((((i:Nat):Int) < ((l.length:Nat):Int))∧((bU (nth l i) t)=(0:Int)))))) (aF ?_) (bD ?_)
 · have e:i=lbF l t:=by omega
   rw [e]
 · have e:i=lbF l t:=by omega
   rw [e]; exact decide_eq_decide.2 (by omega)
theorem aG4 (f:Fm) (c:Cl) (hs:gU c) (hl:c.length≤1073741824):aP Tryz.prog 151 [(V.agg [(iV f.op),(iV f.arg),(V.sl (List.map cF f.kids))]),(V.pp [(V.sl (List.map cF c))])] (V.bool (!(c.any fun y=>fU y f))):=by
 refine pW Tryz.func151 aLo fun hB=>?_
 unfold aRd
 dsimp only
 refine W_r (cK (i:=2) (n:=0) (m:=3) (cs:=[(iV f.op),(iV f.arg),(V.sl (List.map cF f.kids))]) rfl (cVq rfl) rfl rfl rfl (aA rfl (R_e (W_r (aH rfl rfl (aL rfl rfl rfl rfl (aJ (aIy c f hs (by omega)) rfl ?_)))))))
 refine aA rfl (bG rfl rfl (bG rfl rfl (aA rfl (aA rfl (R_e (W_r (aA rfl ?_)))))))
 refine rF rfl (aA rfl (R_e (aN ?_)))
 refine bB (rVq (V.bool (decide (¬(lbF c f < c.length∧bU (nth c (lbF c f)) f=0))))) (bD ?_)
 · rw [← aG3 hs f,decide_not]
theorem aDc (c d:Cl) (hs:gU c) (hl:c.length≤1073741824) (hd:d.length≤1073741824):aP Tryz.prog 140 [(V.sl (List.map cF c)),(V.sl (List.map cF d))] (V.bool (eS c d)):=by
 refine pW Tryz.func140 aMk fun hB=>?_
 unfold aRI
 dsimp only
 refine W_r (cK (i:=2) (n:=0) (m:=1) (cs:=[(V.sl (List.map cF c))]) rfl (cVq rfl) rfl rfl rfl (aA rfl (R_e (W_r (aA rfl (aCo (aY rfl cU) (iR (aY (rVq (V.sl (List.map cF d))) (aY (rVq (V.fn 151 [] [(mPq 2)])) cU)) (sW (fun f=> !(c.any fun y=>fU y f)) d 151 ([(V.pp [(V.sl (List.map cF c))])]) (by simp) (by simp) (fun k hk=>aG4 (nth d k) c hs hl) (by omega)) (fS (dU 6 _ (by simp [-List.map_take,-List.map_drop,-List.map_append,-List.map_reverse])) (fS (aHu (@rfl Blk (bk 1 135 1 [[(V.sl (List.map cF c))]])) (by simp [-List.map_take,-List.map_drop,-List.map_append,-List.map_reverse])) rfl)) (by simp [-List.map_take,-List.map_drop,-List.map_append,-List.map_reverse]) (Or.inr rfl) ?_)))))))
 refine bH rfl rfl (aA rfl (R_e (aN ?_)))
 refine bB (rVq (V.bool (decide (((iG (fun f=> !(c.any fun y=>fU y f)) d:Nat):Int)=(0:Int))))) (bD ?_)
 · rw [← aKm]
theorem aDu (d c:Cl) (hs:gU c) (hl:c.length≤1073741824) (hd:d.length≤1073741824):aP Tryz.prog 139 [(V.sl (List.map cF d)),(V.pp [(V.sl (List.map cF c))])] (V.bool (eS c d)):=by
 refine pW Tryz.func139 aLf fun hB=>?_
 unfold aRx
 dsimp only
 refine W_r (aA rfl (R_e (W_r (aH rfl rfl (aA rfl (aJ (aDc c d hs hl hd) rfl (aA rfl ?_)))))))
 refine R_e (aN ?_)
 refine bB (rVq (V.bool (eS c d))) (cA (by simp) rfl)
end Go.Proofs.YteehaobohaecmaaGreatDoor
namespace Go.Proofs.YteehaobohaecmaaGreatDoor
open Go Go.Proofs
attribute [local irreducible] aCx
theorem aAe (z:List Cl) (c:Cl) (ha: ∀ k,k < z.length→gU (nth z k)) (hb: ∀ k,k < z.length→(nth z k).length≤1073741824) (hz:z.length≤68719476736) (hs:gU c) (hl:c.length≤1073741824):aP Tryz.prog 119 [(V.sl (List.map cCl z)),(V.sl (List.map cF c))] (V.sl (List.map cCl (wth z c))):=by
 refine pW Tryz.func119 aKs fun hB=>?_
 unfold aRr
 dsimp only
 refine W_r (cK (i:=3) (n:=0) (m:=1) (cs:=[(V.sl (List.map cF c))]) rfl (cVq rfl) rfl rfl rfl (aA rfl (R_e (aB (W_r (aA rfl (aCo (aY rfl cU) ?_)))))))
 refine iR (aY (rVq (V.sl (List.map cCl z))) (aY (rVq (V.fn 139 [] [(mPq 3)])) cU)) (aF1 (fun d=>eS c d) z 139 ([(V.pp [(V.sl (List.map cF c))])]) (by simp) (by simp) (fun k hk=>aDu (nth z k) c hs hl (hb k hk)) (by omega)) (fS (dU 6 _ (by simp [-List.map_take,-List.map_drop,-List.map_append,-List.map_reverse])) (fS (aHu (@rfl Blk (bk 1 135 1 [[(V.sl (List.map cF c))]])) (by simp [-List.map_take,-List.map_drop,-List.map_append,-List.map_reverse])) rfl)) (by simp [-List.map_take,-List.map_drop,-List.map_append,-List.map_reverse]) (Or.inr rfl) (gH rfl rfl (R_e ?_))
 refine aK (p:=(0:Int) < ((iG (fun d=>eS c d) z:Nat):Int)) rfl (fun c1=>?_) (fun c1=>?_)
 ·
  have d0:=c1
  refine aB (W_r (aA rfl (aA rfl (R_e (aW ?_)))))
  refine bB (rVq (V.sl (List.map cCl z))) (eI ?_ (fun _=>by simp))
  · first|exact aBF d0|exact (aBF d0).symm|(rw [← aBF d0]; done)
 have d0:=c1
 refine aD (W_r (aA rfl (bM rfl (bL rfl (rNq 1) (by omega) ?_))))
 refine (aNk (i:=16) (n:=0) (m:=0) (q:=(z.length+1)) rfl (cVq rfl) (rVq (iV 0)) (rNq (z.length+1)) (by omega) (by omega) (by omega) ?_)
 refine aA rfl (R_e (aB (W_r (aA rfl (bM rfl (aA rfl (R_e ?_)))))))
 refine aE fun Q2 n2 x2 y2 z2=>?_
 refine cQ (fun mm T H=> ∃ (k:Nat) (v:Nat),mm=z.length - k∧T 3=(mPq 3)∧T 5=(V.ms 16 v 0 (((z.take k).filter (fun d=> !eS d c)).length))∧T 17=(V.sl (List.map cCl z))∧T 18=(iV ((z.length:Nat):Int))∧T 19=(iV ((k:Nat):Int))∧H 3=(bk 1 135 1 [[(V.sl (List.map cF c))]])∧H 16=(bk v 135 1 (List.map cCl ((z.take k).filter (fun d=> !eS d c))))∧(k≤z.length)) ?_ ?_
 ·
  refine ⟨_,0,1,rfl,rfl,(eTq (rVq (V.ms 16 1 0 0)) (by rfl)),rfl,rfl,(eTq (rVq (iV 0)) rfl),rfl,(eTq (@rfl Blk (bk 1 135 1 (List.replicate 0 [V.nilsl]))) (by rfl)),?_⟩
  · omega
 intro mm T H ⟨k,v,hmm,t3,t5,t17,t18,t19,h3,h16,hk⟩ Q3 p13 p23 p33
 unfold aJp
 have hq1:=aLH (fun d=> !eS d c) z k
 refine W_r (bW t19 t18 (R_e ?_))
 refine aK rfl (fun c4=>?_) fun c4=>?_
 ·
  refine aD (aE fun Q5 n5 x5 y5 z5=>(W_r (dE (i:=k) t17 t19 (by omega) rfl (aH rfl rfl (aA rfl (R_e (W_r ?_)))))))
  refine aA rfl (aL t3 h3 rfl rfl (aJ (aDc (nth z k) c (ha k (by omega)) (hb k (by omega)) hl) rfl (gA rfl (R_e ?_))))
  refine mT rfl (fun c6=>?_) (fun c6=>?_)
  ·
   have d1:(fun d=> !eS d c) (nth z k)=true:=c6
   refine W_t (aA t5 (aA rfl (bC rfl rfl (eH (l:=((z.take k).filter (fun d=> !eS d c))) (f:=cCl) (x:=(nth z k)) (rVq (V.ms 16 v 0 (((z.take k).filter (fun d=> !eS d c)).length))) h16 (by rfl) (rVq (V.sl [[(V.sl (List.map cF (nth z k)))]])) rfl rfl (by omega) (by omega) (aA rfl (R_e (n5 _ _ ?_)))))))
   refine .done (W_t (bL t19 (rNq 1) (by omega) (aA rfl (R_e ?_))))
   refine p13 _ _ _ ?_ ⟨(k+1),(v+1),rfl,t3,(eTq (rVq (V.ms 16 (v+1) 0 ((((z.take k).filter (fun d=> !eS d c)).length)+1))) (by (rw [aFU (by omega) d1,List.length_append]; rfl))),t17,t18,(eTq (rNq (k+1)) (by rfl)),h3,(eTq (@rfl Blk (bk (v+1) 135 1 (List.map cCl ((z.take k).filter (fun d=> !eS d c)++[(nth z k)])))) (by (rw [aFU (by omega) d1]; done))),?_⟩
   · omega
   · omega
  have d1: ¬(fun d=> !eS d c) (nth z k)=true:=by simpa using c6
  refine dA (n5 _ _ (.done (W_t (bL t19 (rNq 1) (by omega) (aA rfl (R_e ?_))))))
  refine p13 _ _ _ ?_ ⟨(k+1),v,rfl,t3,(eTq t5 (by (rw [aJF (by omega) d1]; done))),t17,t18,(eTq (rNq (k+1)) (by rfl)),h3,(eTq h16 (by (rw [aJF (by omega) d1]; done))),?_⟩
  · omega
  · omega
 refine aX (p33 _ _ _ (x2 _ _ (.done (W_r (aA t5 (aL t3 h3 rfl rfl (bC rfl rfl ?_)))))))
 refine eH (l:=((z.take k).filter (fun d=> !eS d c))) (f:=cCl) (x:=c) (rVq (V.ms 16 v 0 (((z.take k).filter (fun d=> !eS d c)).length))) h16 (by rfl) (rVq (V.sl [[(V.sl (List.map cF c))]])) rfl rfl (by omega) (by omega) (aA rfl (R_e (aN ?_)))
 refine bB (rVq (V.ms 16 (v+1) 0 ((((z.take k).filter (fun d=> !eS d c)).length)+1))) (yP (@rfl Blk (bk (v+1) 135 1 (List.map cCl ((z.take k).filter (fun d=> !eS d c)++[c])))) (by simp) (l:=((z.take k).filter (fun d=> !eS d c)++[c])) rfl (by simp) (fun _=>by simp) ?_)
 · rw [show k=z.length by omega,List.take_length]; first|exact aEz d0|exact (aEz d0).symm
end Go.Proofs.YteehaobohaecmaaGreatDoor
namespace Go.Proofs.YteehaobohaecmaaGreatDoor
open Go Go.Proofs
def aP5:SF:=⟨8,[.tmp 2,.tmp 3],.seq (.reg [sO 2 (.mv (.c (.nilsl))),qI 3 0]) (.seq (.seq (.reg [qM 4 0,qN 5 4,qC 6 .gtr 5 64]) (.cond (.t 6) (.seq (.reg [sO 2 (.mv (.c (.nilsl))),qI 3 11]) (.ret)) (.skip))) (.seq (.reg [qM 7 0,qM 2 7,qI 3 0]) (.ret)))⟩
theorem aLP:bF Tryz.prog ⟨[51,59,84,90,97,109,153,154,155,160],[],[],[]⟩ Tryz.f120=some aP5:=by kernel_rfl
theorem qU (z:List Cl):aP Tryz.prog 120 [(V.sl (List.map cCl z))] (V.tup [(V.sl (List.map cCl (if 64 < z.length then [] else z))),(iV (if 64 < z.length then 11 else 0))]):=by
 refine pW Tryz.func120 aLP fun hB=>?_
 unfold aP5
 dsimp only
 refine W_r (aA rfl (aA rfl (R_e (aB (W_r (aA rfl (bM rfl ?_)))))))
 refine gH rfl rfl (R_e ?_)
 refine aK rfl (fun c1=>?_) fun c1=>?_
 ·
  refine aB (W_r (aA rfl (aA rfl (R_e (aW ?_)))))
  refine eE (rVq V.nilsl) (rVq (iV 11)) (dD ?_) (aF ?_)
  · rw [if_pos (by omega)]
  · rw [if_pos (by omega)]
 refine aD (W_r (aA rfl (aA rfl (aA rfl (R_e (aN ?_))))))
 refine eE (rVq (V.sl (List.map cCl z))) (rVq (iV 0)) (eI ?_ (fun _=>by simp)) (aF ?_)
 · rw [if_neg (by omega)]
 · rw [if_neg (by omega)]
theorem aGm (l:List Fm) (hok: ∀ k,k < l.length→okF (nth l k)=true) (hz:Fm.szs l≤268435456) (hq: ∀ k,k < l.length→aP Tryz.prog 87 [(V.agg [(iV ((nth l k).op)),(iV ((nth l k).arg)),(V.sl (List.map cF ((nth l k).kids)))])] (V.tup [(V.sl (List.map cCl (bR (cls (nth l k))))),(iV (gC (cls (nth l k))))])):aP Tryz.prog 107 [(V.sl (List.map cF l))] (V.tup [(V.sl (List.map cCl (bR (djL l [])))),(iV (gC (djL l [])))]):=by
 refine pW Tryz.func107 aLK fun hB=>?_
 unfold aRm
 dsimp only
 have hln:=Fm.szs_len l
 refine W_r (aA rfl (aA rfl (R_e (W_r (aA rfl (R_e (aB ?_)))))))
 refine gP (fun T H=>T 4=V.nilsl∧T 11=(V.sl (List.map cF l))∧T 12=(iV ((l.length:Nat):Int))∧T 13=(iV 0)∧H 6=bZq∧True) ?_ ?_
 ·
  refine aA rfl (bM rfl (aA rfl ?_))
  exact fM ⟨rfl,rfl,rfl,rfl,rfl,trivial⟩
 intro T H ⟨t4,t11,t12,t13,h6,_⟩
 refine aNc t4 (dQ (R:=fun T H=>T 4=(V.sl [])∧T 11=(V.sl (List.map cF l))∧T 12=(iV ((l.length:Nat):Int))∧T 13=(iV 0)∧H 6=bZq∧True) ⟨(aG _ _ _),(uTq t11),(uTq t12),(uTq t13),h6,trivial⟩ ?_)
 intro T H ⟨t4,t11,t12,t13,h6,_⟩
 refine aE fun Q1 n1 x1 y1 z1=>?_
 refine cQ (fun mm T H=> ∃ (k:Nat) (out:List Cl) (v6:Nat),mm=l.length - k∧T 4=(V.sl (List.map cCl out))∧T 11=(V.sl (List.map cF l))∧T 12=(iV ((l.length:Nat):Int))∧T 13=(iV ((k:Nat):Int))∧(H 6).ver=v6∧(k≤l.length)∧(djL l []=djL (l.drop k) out)∧(Ant out)∧(gI (Fm.szs l) out)∧(out.length≤64*k)) ?_ ?_
 ·
  refine ⟨_,0,[],0,rfl,(eTq t4 (by rfl)),t11,t12,(eTq t13 rfl),(cVq h6),?_,?_,?_,?_,?_⟩
  · omega
  · rfl
  · exact Ant.nil
  · exact fun c hc=>absurd hc List.not_mem_nil
  · exact Nat.zero_le _
 intro mm T H ⟨k,out,v6,hmm,t4,t11,t12,t13,h6,hk,hc,hA,hL,hN⟩ Q2 p12 p22 p32
 unfold aJj
 refine W_r (bW t13 t12 (R_e ?_))
 refine aK rfl (fun c3=>?_) fun c3=>?_
 ·
  refine aD (aE fun Q4 n4 x4 y4 z4=>(W_r (dC (i:=k) t11 t13 (by omega) (bX _) rfl (aH rfl rfl (bE (i:=6) (n:=v6) (m:=3) rfl h6 rfl (bP rfl rfl rfl rfl rfl rfl rfl rfl rfl (R_e ?_)))))))
  refine W_r (aL rfl rfl rfl rfl (aJ (hq k (by omega)) rfl (aA rfl (bG rfl rfl (bG rfl rfl (aA rfl (aA rfl ?_)))))))
  refine R_e (aB (W_r (aA rfl (cM rfl rfl (R_e ?_)))))
  refine aK rfl (fun c5=>?_) fun c5=>?_
  ·
   have d1:=c5
   refine aB (W_r (aA rfl (aA rfl (aA rfl (R_e (aW (y4 _ _ ?_)))))))
   refine p22 _ _ (y1 _ _ ?_)
   refine eE (rVq V.nilsl) (rVq (iV (gC (cls (nth l k))))) (dD ?_) (aF ?_)
   · rw [hc,aIX (by omega) (jL d1)]; try rfl
   · rw [hc,aIX (by omega) (jL d1),jL d1]; try rfl
  have d1:=c5
  have g1:=aIW (by omega) (hok k (by omega)) d1
  refine aD (W_r (aA rfl (bM rfl (aA rfl (R_e (oR fun Q6 n6 x6 y6 z6=>?_))))))
  refine cQ (fun mm T H=> ∃ (j:Nat),mm=(bR (cls (nth l k))).length - j∧T 4=(V.sl (List.map cCl (wths out ((bR (cls (nth l k))).take j))))∧T 11=(V.sl (List.map cF l))∧T 12=(iV ((l.length:Nat):Int))∧T 13=(iV ((k:Nat):Int))∧T 25=(V.sl (List.map cCl (bR (cls (nth l k)))))∧T 26=(iV (((bR (cls (nth l k))).length:Nat):Int))∧T 27=(iV ((j:Nat):Int))∧H 6=(bk (v6+1) 24 3 [[(iV ((nth l k).op)),(iV ((nth l k).arg)),(V.sl (List.map cF ((nth l k).kids)))]])∧(j≤(bR (cls (nth l k))).length)) ?_ ?_
  ·
   refine ⟨_,0,rfl,(eTq t4 (by rfl)),t11,t12,t13,rfl,rfl,(eTq (rVq (iV 0)) rfl),rfl,?_⟩
   · omega
  intro mm T H ⟨j,hmm,t4,t11,t12,t13,t25,t26,t27,h6,hj⟩ Q7 p17 p27 p37
  unfold aJC
  have hW:=aAB out (bR (cls (nth l k))) j
  have hG:=g1.1.len
  refine W_r (bW t27 t26 (R_e ?_))
  refine aK rfl (fun c8=>?_) fun c8=>?_
  ·
   refine aD (aE fun Q9 n9 x9 y9 z9=>(W_r (dE (i:=j) t25 t27 (by omega) rfl (aH rfl rfl (aA rfl (R_e (W_t ?_)))))))
   refine aA t4 (aA rfl (aJ (aAe (wths out ((bR (cls (nth l k))).take j)) (nth (bR (cls (nth l k))) j) (fun q hq=>(aAG hA g1.1.ant j).at_ hq) (fun q hq=>Nat.le_trans ((wO hL g1.2.1 j).at_ hq) (by omega)) (by omega) (g1.1.ant.at_ (by omega)) (Nat.le_trans (g1.2.1.at_ (by omega)) (by omega))) rfl (aA rfl (R_e (n9 _ _ (.done (W_t ?_)))))))
   refine bL t27 (rNq 1) (by omega) (aA rfl (R_e ?_))
   refine p17 _ _ _ ?_ ⟨(j+1),rfl,(eTq (rVq (V.sl (List.map cCl (wth (wths out ((bR (cls (nth l k))).take j)) (nth (bR (cls (nth l k))) j))))) (by (rw [aGo (by omega)]; done))),t11,t12,t13,t25,t26,(eTq (rNq (j+1)) (by rfl)),h6,?_⟩
   · omega
   · omega
  refine aX (p37 _ _ _ (x6 _ _ (n4 _ _ (.done (W_t (bL t13 (rNq 1) (by omega) (aA rfl ?_)))))))
  refine R_e ?_
  refine p12 _ _ _ ?_ ⟨(k+1),(wths out (bR (cls (nth l k)))),(v6+1),rfl,(eTq t4 (by (rw [show j=(bR (cls (nth l k))).length by omega,List.take_length]; done))),t11,t12,(eTq (rNq (k+1)) (by rfl)),(cVq h6),?_,?_,?_,?_,?_⟩
  · omega
  · omega
  · rw [hc,aPb (by omega) (jQ d1)]
  · have q:=aAG hA g1.1.ant (bR (cls (nth l k))).length; rwa [List.take_length] at q
  · have q:=wO hL g1.2.1 (bR (cls (nth l k))).length; rwa [List.take_length] at q
  · have q:=aAB out (bR (cls (nth l k))) (bR (cls (nth l k))).length; rw [List.take_length] at q; have:=g1.1.len; omega
 refine aX (p32 _ _ _ (x1 _ _ (.done (W_r (aA t4 (aJ (qU out) rfl (bG rfl rfl ?_)))))))
 refine bG rfl rfl (aA rfl (aA rfl (R_e (aN ?_))))
 refine eE (rVq (V.sl (List.map cCl (if 64 < out.length then [] else out)))) (rVq (iV (if 64 < out.length then 11 else 0))) (eI ?_ (fun _=>by simp)) (aF ?_)
 · rw [hc,aEY (by omega)]; split <;> rfl
 · rw [hc,aEY (by omega)]; split <;> rfl
def aO1:List SO:=[
 qL 17 3 6,
 sO 18 (.call false 87 [.t 17]),
 qM 16 18,
 qE 19 16 0,
 qE 20 16 1,
 qM 7 19,
 qM 8 20]
def aNH:List SO:=[
 qM 25 4,
 qM 26 7,
 sO 27 (.call false 121 [.t 25,.t 26]),
 sO 28 (.call false 120 [.t 27]),
 qM 24 28,
 qE 29 24 0,
 qE 30 24 1,
 qM 4 29,
 qM 8 30]
def aHD:SC:=.seq (.reg [qP 13 .lss 12 11]) (.seq (.cond (.t 13) (.skip) (.exit 0)) (.seq (.block 1 (.seq (.reg [qA 14 3 10 12,qL 15 3 14,sO 6 (.alloc 24 [.int .i64 0,.int .i64 0,.nilsl]),sN (.store 3 (.t 6) (.t 15))]) (.seq (.reg aO1) (.seq (.seq (.reg [qM 21 8,qC 22 .neq 21 0]) (.cond (.t 22) (.seq (.reg [qM 23 8,sO 2 (.mv (.c (.nilsl))),qM 3 23]) (.ret)) (.skip))) (.seq (.reg aNH) (.seq (.reg [qM 31 8,qC 32 .neq 31 0]) (.cond (.t 32) (.seq (.reg [qM 33 8,sO 2 (.mv (.c (.nilsl))),qM 3 33]) (.ret)) (.skip)))))))) (.reg [qC 34 .add 12 1,qM 12 34])))
def aRN:SF:=⟨36,[.tmp 2,.tmp 3],.seq (.reg [sO 2 (.mv (.c (.nilsl))),qI 3 0]) (.seq (.reg [sO 9 (.bslice 135 1 false [.nilsl] 1 [(0,.c (.nilsl))]),qM 4 9]) (.seq (.seq (.reg [qM 10 0,qN 11 10,qI 12 0]) (.block 0 (.loop aHD))) (.seq (.reg [qM 35 4,qM 2 35,qI 3 0]) (.ret))))⟩
theorem aK6:bF Tryz.prog ⟨[51,59,84,90,97,109,153,154,155,160],[],[],[]⟩ Tryz.f108=some aRN:=by kernel_rfl
def aJ8:SC:=.seq (.reg [qP 19 .lss 18 17]) (.seq (.cond (.t 19) (.skip) (.exit 2)) (.seq (.block 3 (.seq (.reg [qA 20 1 16 18,ql 21 20,qM 9 21]) (.reg [qM 22 5,qM 23 7,qM 24 9,sO 25 (.call false 141 [.t 23,.t 24]),sO 26 (.call false 119 [.t 22,.t 25]),qM 5 26]))) (.reg [qC 27 .add 18 1,qM 18 27])))
def aJ7:SC:=.seq (.reg [qP 13 .lss 12 11]) (.seq (.cond (.t 13) (.skip) (.exit 0)) (.seq (.block 1 (.seq (.reg [qA 14 1 10 12,ql 15 14,qM 7 15]) (.seq (.reg [qM 16 1,qN 17 16,qI 18 0]) (.block 2 (.loop aJ8))))) (.reg [qC 28 .add 12 1,qM 12 28])))
def aQQ:SF:=⟨30,[.tmp 4],.seq (.reg [sO 4 (.mv (.c (.nilsl)))]) (.seq (.reg [sO 5 (.mv (.c (.nilsl)))]) (.seq (.seq (.reg [qM 10 0,qN 11 10,qI 12 0]) (.block 0 (.loop aJ7))) (.seq (.reg [qM 29 5,qM 4 29]) (.ret))))⟩
theorem aLt:bF Tryz.prog ⟨[51,59,84,90,97,109,153,154,155,160],[],[],[]⟩ Tryz.f121=some aQQ:=by kernel_rfl
def aQE:SF:=⟨14,[.tmp 4],.seq (.reg [sO 4 (.mv (.c (.nilsl)))]) (.seq (.reg [qM 6 0,qM 7 1,sO 8 (.bslice 135 1 false [.nilsl] 2 [(0,.t 6),(1,.t 7)]),sO 9 (.call true 153 [.t 8]),qM 5 9]) (.seq (.reg [qM 10 5,sO 11 (.call true 154 [.t 10,.c (.fn 91 [] [])])]) (.seq (.reg [qM 12 5,sO 13 (.call true 155 [.t 12,.c (.fn 156 [] [])]),qM 4 13]) (.ret))))⟩
theorem aMc:bF Tryz.prog ⟨[51,59,84,90,97,109,153,154,155,160],[],[],[]⟩ Tryz.f141=some aQE:=by kernel_rfl
def aJH:SC:=.seq (.reg [qP 12 .lss 11 10]) (.seq (.cond (.t 12) (.skip) (.exit 0)) (.seq (.block 1 (.seq (.reg [qA 13 1 9 11,ql 14 13,qM 5 14]) (.seq (.reg [qM 15 3,qM 16 5,qN 17 16,qP 18 .add 15 17,qM 3 18]) (.seq (.reg [qM 19 3,qC 20 .lss 19 0]) (.cond (.t 20) (.seq (.reg [sO 21 (.bad)]) (.seq (.pop none (.raise (.t 21))) (.reg []))) (.skip)))))) (.reg [qC 22 .add 11 1,qM 11 22])))
def aJa:SC:=.seq (.reg [qP 28 .lss 27 26]) (.seq (.cond (.t 28) (.skip) (.exit 2)) (.seq (.block 3 (.seq (.reg [qA 29 1 25 27,ql 30 29,qM 8 30]) (.reg [qM 31 6,qM 32 8,sO 33 (.append 24 3 40 (.t 31) (.t 32)),qM 6 33]))) (.reg [qC 34 .add 27 1,qM 27 34])))
def aQv:SF:=⟨36,[.tmp 2],.seq (.reg [sO 2 (.mv (.c (.nilsl)))]) (.seq (.reg [qI 3 0]) (.seq (.seq (.reg [qM 9 0,qN 10 9,qI 11 0]) (.block 0 (.loop aJH))) (.seq (.reg [qM 23 3,sO 24 (.call true 160 [.c (.nilsl),.t 23]),qM 6 24]) (.seq (.seq (.reg [qM 25 0,qN 26 25,qI 27 0]) (.block 2 (.loop aJa))) (.seq (.reg [qM 35 6,qM 2 35]) (.ret))))))⟩
theorem aLi:bF Tryz.prog ⟨[51,59,84,90,97,109,153,154,155,160],[],[],[]⟩ Tryz.f153=some aQv:=by kernel_rfl
end Go.Proofs.YteehaobohaecmaaGreatDoor
namespace Go.Proofs.YteehaobohaecmaaGreatDoor
open Go Go.Proofs Go.Shelf Go.Lib
section
variable {P:Program} {ρ:Go.Shelf.Ren}
theorem aCP (L : Lays8.n4 P ρ) (hcf : cZ P (ρ.f 4)) (i0 : TypeInfo) (z : Value) (hi0 : P.info? (ρ.t 25) = some i0) (hz0 : i0.zero = some z) (hs0 : 0 < i0.size) (hzs : z.cells.size = i0.size)
    {n:Nat} (hb:n*i0.bytes≤140737488355328) (h63:n≤4611686018427387904) (id:Nat) (H:aI) (hty:ρ.t 25 < 4294967296:=by decide):
    dW P (ρ.f 4) [.nilsl,iV (n:Nat)] H (.ms id ((H id).ver+1) 0 0) (upd H id ⟨(H id).ver+1,true,decide (n=0),ρ.t 25,i0.size,[]⟩):=by
  refine ⟨hcf,fun x cs hxH hx hr=>?_⟩
  subst hxH
  obtain ⟨c0,c1,rfl⟩: ∃ c0 c1,cs=[c0,c1]:=by
    have:=hr.1
    match cs with
    |[a,b]=>exact ⟨a,b,rfl⟩
    |[]=>simp at this
    |[_]=>simp at this
    |_::_::_::_=>simp at this
  have r0:R x .nilsl c0:=hr.2 0 _ rfl
  have r1:R x (iV (n:Nat)) c1:=hr.2 1 _ rfl
  have hc0:c0=.slice none 0 0:=by cases r0; rfl
  have hc1:c1=.int .i64 (n:Nat):=by unfold iV at r1; cases r1; rfl
  subst hc0; subst hc1
  by_cases hn:n=0
  · subst hn
    refine (Any8.slices_Grow_room L none 0 0 0 x.w (Nat.le_refl _) (by decide) (by decide) (by decide)).mono fun e w' h=>?_
    obtain ⟨rfl,rfl⟩:=h
    obtain ⟨h1,h2,h3⟩:=mA hx id (ρ.t 25) i0.size hty
    exact ⟨_,{x with H:=upd x.H id ⟨(x.H id).ver+1,true,true,ρ.t 25,i0.size,[]⟩},rfl,rfl,by simp,h1,h3 _,h2⟩
  · refine (Any8.slices_Grow_grow L i0 z hi0 hz0 hs0 none 0 0 n [] x.w (Nat.le_refl _) (by omega) (by simpa using hb) (by simpa using h63) (by simp) (fun _=>rfl) (fun a h=>by cases h)).mono fun e w' h=>?_
    obtain ⟨rfl,rfl⟩:=h
    obtain ⟨dI,dF⟩:=iU hx (x.w.drawn+1) (Nat.le_succ _)
    have hge:0+n≤grownCap x.w (0+n) 0 (ρ.t 25):=grownCap_ge x.w _ _ _
    have hle:=grownCap_le_maxLen x.w (0+n) 0 (ρ.t 25) (by unfold maxLen; omega)
    generalize hG:grownCap x.w (0+n) 0 (ρ.t 25)=G at hge hle
    have hsz:((#[]:Array Value)++Builtin.zeroCells z.cells (0+n - 0)++Builtin.zeroCells z.cells (G - (0+n))).size=G*i0.size:=by
      have zc: ∀ m,(Builtin.zeroCells z.cells m).size=m*i0.size:=fun m=>by
        rw [size_zeroCells,hzs]
      rw [Array.size_append,Array.size_append,zc,zc]
      simp only [Array.size_empty,Nat.zero_add,Nat.sub_zero]
      rw [← Nat.add_mul]; congr 1; omega
    have hrf:([].toArray:Array Value)=#[]:=rfl
    rw [hrf]
    generalize ((#[]:Array Value)++Builtin.zeroCells z.cells (0+n - 0)++Builtin.zeroCells z.cells (G - (0+n)))=cc at hsz
    obtain ⟨h1,h2⟩:=nY dI id cc false (ρ.t 25) i0.size [] (by simp) (by simp) (fun r row j v h=>by simp at h)
    refine ⟨_,_,rfl,rfl,by simp [hn],h1,?_,dF.trans h2⟩
    refine .ms _ _ _ _ _ _ _ (by simp [aG]) (fun _ _=>?_) fun _ _=>by simp only [aG]; rfl
    simp only [aG]
    refine ⟨trivial,Nat.zero_le _,hle,by simp,fun _=>⟨by simp [World.drew],?_⟩,fun h=>by simp [Blk.own] at h⟩
    simp only [Nat.zero_add]
    unfold dB
    have:(({x.w with drawn:=x.w.drawn+1}:World).alloc (.cells cc (ρ.t 25))).heap[({x.w with drawn:=x.w.drawn+1}:World).heap.size]?=some (.cells cc (ρ.t 25)):=jY _ _
    rw [this]
    exact hsz.symm
theorem aBy (L:Lays8.n4 P ρ) (hcf:cZ P (ρ.f 4)) {k b:Nat} {z:Value} (hi:(P.info? (ρ.t 25)).map (fun i=>(i.zero,i.size,i.bytes))=some (some z,k,b)) (hs0:0 < k) (hzs:z.cells.size=k)
    {n:Nat} (hb:n*b≤140737488355328) (h63:n≤4611686018427387904) (id:Nat) (H:aI) (hty:ρ.t 25 < 4294967296:=by decide):
    dW P (ρ.f 4) [.nilsl,iV (n:Nat)] H (.ms id ((H id).ver+1) 0 0) (upd H id ⟨(H id).ver+1,true,decide (n=0),ρ.t 25,k,[]⟩):=by
  obtain ⟨i0,h1,h2⟩:=Option.map_eq_some_iff.1 hi
  simp only [Prod.mk.injEq] at h2
  obtain ⟨h3,h4,h5⟩:=h2
  subst h4; subst h5
  exact aCP L hcf i0 z h1 h3 hs0 hzs hb h63 id H hty
theorem sE (L:Lays8.n4 P ρ) (hcf:cZ P (ρ.f 4)) {k b:Nat} {z:Value} (hi:(P.info? (ρ.t 25)).map (fun i=>(i.zero,i.size,i.bytes))=some (some z,k,b)) (hs0:0 < k) (hzs:z.cells.size=k)
    {n:Nat} (hb:n*b≤140737488355328) (h63:n≤4611686018427387904) (id:Nat) {H:aI} {w:Nat} (hv:(H id).ver=w) (hty:ρ.t 25 < 4294967296:=by decide):
    dW P (ρ.f 4) [.nilsl,iV (n:Nat)] H (.ms id (w+1) 0 0) (upd H id ⟨w+1,true,decide (n=0),ρ.t 25,k,[]⟩):=by
  subst hv; exact aBy L hcf hi hs0 hzs hb h63 id H hty
end
end Go.Proofs.YteehaobohaecmaaGreatDoor
namespace Go.Proofs.YteehaobohaecmaaGreatDoor
open Go Go.Proofs Go.Shelf
def aD8:Go.Shelf.Ren:=⟨fun|4=>160|n=>n,fun|22=>135|25=>24|3=>3|4=>4|9=>9|20=>20|0=>0|n=>n,fun n=>n⟩
theorem aDD:Lays8.n4 Tryz.prog aD8:={
  mixed:=(by kernel_rfl),
  f4:=⟨Tryz.f160.name,by decide,Tryz.func160.trans (congrArg some (by kernel_rfl))⟩,
  t0:=Tryz.underlying0,
  a0:=Tryz.isAgg0,
  z0:=Tryz.sizeOf0,
  v0:=Tryz.zeroValue0,
  t3:=Tryz.underlying3,
  a3:=Tryz.isAgg3,
  z3:=Tryz.sizeOf3,
  v3:=Tryz.zeroValue3,
  t4:=Tryz.underlying4,
  a4:=Tryz.isAgg4,
  z4:=Tryz.sizeOf4,
  v4:=Tryz.zeroValue4,
  t9:=Tryz.underlying9,
  a9:=Tryz.isAgg9,
  z9:=Tryz.sizeOf9,
  v9:=Tryz.zeroValue9,
  t20:=Tryz.underlying20,
  a20:=Tryz.isAgg20,
  z20:=Tryz.sizeOf20,
  v20:=Tryz.zeroValue20,
  t22:=Tryz.underlying135,
  a22:=Tryz.isAgg135,
  z22:=Tryz.sizeOf135,
  v22:=Tryz.zeroValue135}
theorem aCT:cZ Tryz.prog 160:=⟨_,Tryz.func160,by kernel_rfl,by kernel_rfl⟩
theorem aBQ:(Tryz.prog.info? 24).map (fun i=>(i.zero,i.size,i.bytes))=some (some (.agg #[.int .i64 0,.int .i64 0,.slice none 0 0]),3,40):=by kernel_rfl
end Go.Proofs.YteehaobohaecmaaGreatDoor
namespace Go.Proofs.YteehaobohaecmaaGreatDoor
open Go Go.Proofs
theorem aNY (l:List Cl) (v2:Nat) (Hi:aI) (h900:(Hi 900).ver=v2) (hs:(dR l).length≤2147483648):dW Tryz.prog 153 [(V.sl (List.map cCl l))] Hi (V.ms 900 (v2+1+l.length) 0 ((dR l).length)) (upd Hi 900 (⟨v2+1+l.length,true,decide ((dR l).length=0),24,3,(List.map cF (dR l))⟩:Blk)):=by
 refine eW (k0:=600) Tryz.func153 aLi fun hB=>?_
 unfold aQv
 dsimp only
 refine W_r (aA rfl (R_e (W_r (aA rfl (R_e (aB (W_r ?_)))))))
 refine aA rfl (bM rfl (aA rfl (R_e (eG fun Q1 n1 x1 y1 z1 w1=>?_))))
 refine vT (fun mm T H=> ∃ (k:Nat),mm=l.length - k∧T 0=(V.sl (List.map cCl l))∧T 3=(iV (((dR (l.take k)).length:Nat):Int))∧T 9=(V.sl (List.map cCl l))∧T 10=(iV ((l.length:Nat):Int))∧T 11=(iV ((k:Nat):Int))∧(∀ j,j∉[900]→H j=Hi j)∧(H 900).ver=v2∧(k≤l.length)) ?_ ?_
 ·
  refine ⟨_,0,rfl,rfl,(eTq (rVq (iV 0)) (by rfl)),rfl,rfl,(eTq (rVq (iV 0)) rfl),(fun _ _=>rfl),h900,?_⟩
  · omega
 intro mm T H ⟨k,hmm,t0,t3,t9,t10,t11,hF,h900,hk⟩ Q2 p12 p22 p32 p42
 unfold aJH
 refine W_r (bW t11 t10 (R_e ?_))
 refine aK rfl (fun c3=>?_) fun c3=>?_
 ·
  have hq:=aFX (l:=l) (k:=k) (by omega)
  refine aD (eG fun Q4 n4 x4 y4 z4 w4=>(W_r (dE (i:=k) t9 t11 (by omega) rfl (aH rfl rfl (aA rfl (R_e (W_r ?_)))))))
  refine aA t3 (aA rfl (bM rfl (bL rfl rfl (by omega) (aA rfl (R_e (W_r (aA rfl ?_)))))))
  refine bW rfl rfl (R_e ?_)
  refine cW rfl (fun c5=>?_) fun c5=>?_
  · exfalso; omega
  refine dA (n4 _ _ (.done (W_t (bL t11 (rNq 1) (by omega) (aA rfl (R_e ?_))))))
  refine p12 _ _ _ ?_ ⟨(k+1),rfl,t0,(eTq (rNq (((dR (l.take k)).length)+(nth l k).length)) (by (rw [oT (by omega),List.length_append]; done))),t9,t10,(eTq (rNq (k+1)) (by rfl)),hF,h900,?_⟩
  · omega
  · omega
 have hk2:dR (l.take k)=dR l:=by rw [show k=l.length by omega,List.take_length]
 have hk3:(dR (l.take k)).length=(dR l).length:=by rw [hk2]
 refine aX (p32 _ _ _ (x1 _ _ (.done (W_r (aA t3 (fP (aY rfl (aY rfl cU)) (sE aDD aCT aBQ (by decide) rfl (n:=((dR (l.take k)).length)) (by omega) (by omega) 900 h900) (aA rfl ?_)))))))
 refine R_e (aB (W_r (aA t0 (bM rfl (aA rfl (R_e (eG fun Q6 n6 x6 y6 z6 w6=>?_)))))))
 refine vT (fun mm T H=> ∃ (j:Nat),mm=l.length - j∧T 6=(V.ms 900 (v2+1+j) 0 ((dR (l.take j)).length))∧T 25=(V.sl (List.map cCl l))∧T 26=(iV ((l.length:Nat):Int))∧T 27=(iV ((j:Nat):Int))∧(∀ j,j∉[900]→H j=Hi j)∧H 900=(⟨v2+1+j,true,decide ((dR (l.take k)).length=0),24,3,(List.map cF (dR (l.take j)))⟩:Blk)∧(j≤l.length)) ?_ ?_
 ·
  refine ⟨_,0,rfl,(eTq (rVq (V.ms 900 (v2+1) 0 0)) (by rfl)),rfl,rfl,(eTq (rVq (iV 0)) rfl),(bN hF (by decide)),(eTq (@rfl Blk (⟨v2+1,true,decide ((dR (l.take k)).length=0),24,3,[]⟩:Blk)) (by rfl)),?_⟩
  · omega
 intro mm T H ⟨j,hmm,t6,t25,t26,t27,hF,h900,hj⟩ Q7 p17 p27 p37 p47
 unfold aJa
 refine W_r (bW t27 t26 (R_e ?_))
 refine aK rfl (fun c8=>?_) fun c8=>?_
 ·
  have hq:=aFX (l:=l) (k:=j) (by omega)
  refine aD (eG fun Q9 n9 x9 y9 z9 w9=>(W_r (dE (i:=j) t25 t27 (by omega) rfl (aH rfl rfl (aA rfl (R_e (W_t ?_)))))))
  refine aA t6 (aA rfl (aAx (l:=(dR (l.take j))) (m:=(nth l j)) (f:=cF) (rVq (V.ms 900 (v2+1+j) 0 ((dR (l.take j)).length))) h900 (by rfl) (rVq (V.sl (List.map cF (nth l j)))) kJ lG (by omega) (by omega) (aA rfl (R_e (n9 _ _ (.done (W_t ?_)))))))
  refine bL t27 (rNq 1) (by omega) (aA rfl (R_e ?_))
  refine p17 _ _ _ ?_ ⟨(j+1),rfl,(eTq (rVq (V.ms 900 (v2+1+j+1) 0 (((dR (l.take j)).length)+(nth l j).length))) (by (rw [oT (by omega),List.length_append]; rfl))),t25,t26,(eTq (rNq (j+1)) (by rfl)),(bN hF (by decide)),(eTq (@rfl Blk (⟨v2+1+j+1,true,decide ((dR (l.take k)).length=0),24,3,(List.map cF (dR (l.take j)++(nth l j)))⟩:Blk)) (by (rw [oT (by omega)]; rfl))),?_⟩
  · omega
  · omega
 refine aX (p37 _ _ _ (x6 _ _ (.done (W_r (aA t6 (aA rfl (R_e ?_)))))))
 refine aN (dQ (R:=fun T H=>T 2=(V.ms 900 (v2+1+j) 0 ((dR (l.take j)).length))∧(∀ j,j∉[900]→H j=Hi j)∧H 900=(⟨v2+1+j,true,decide ((dR (l.take k)).length=0),24,3,(List.map cF (dR (l.take j)))⟩:Blk)∧True) ⟨(rVq (V.ms 900 (v2+1+j) 0 ((dR (l.take j)).length))),hF,h900,trivial⟩ ?_)
 intro T H ⟨t2,hF,h900,_⟩
 skip
 have fh:=cX.fin (cX.put (B:=(⟨v2+1+l.length,true,decide ((dR l).length=0),24,3,(List.map cF (dR l))⟩:Blk)) (cX.start hF) h900 (kL.eq (by rw [show j=l.length by omega,List.take_length,hk2])))
 exact wI t2 fh (cV.trans_eq (cV.ms (n:=(v2+1+l.length)) fh (by simp [h900]) (by simp [h900]) rfl rfl) (by (rw [show j=l.length by omega,List.take_length]; done)))
def aOt:List SO:=[
 qM 7 0,
 qM 8 4,
 qM 9 4,
 sO 10 (.conv .u64 (.t 9)),
 sO 11 (.call false 110 [.t 10]),
 qM 12 1,
 sO 13 (.call true 109 [.t 7,.c (.int .i64 0),.t 8,.t 11,.t 12])]
def aRk:SF:=⟨14,[],.seq (.reg [qM 5 0,qN 6 5,qM 4 6]) (.reg aOt)⟩
theorem aL3:bF Tryz.prog ⟨[51,59,84,90,97,109,153,154,155,160],[],[],[]⟩ Tryz.f154=some aRk:=by kernel_rfl
end Go.Proofs.YteehaobohaecmaaGreatDoor
namespace Go.Proofs.YteehaobohaecmaaGreatDoor
open Go Go.Sort Go.Proofs Go.Shelf
def aER (P : Program) (f k : Nat) : Prop := ∀ {α : Type} [Inhabited α] (enc : α → List Value) (_ : ∀ x, (enc x).length = k) (_ : ∀ x, ∀ v ∈ enc x, v.oneCell' = true) (cf : α → α → Int) (_ : SWO (ltOf cf)) (g : Nat) (cb : Array Value) (blk off cap : Nat) (d : Array α) (w : World)
    (_: ∀ args w,(callFunc g args).run P w=.ok (.enter g args) w) (_:CmpLays P g cb enc k cf blk off d.size w) (_:HoldsK enc k w blk off d) (_:blk < w.heap.size) (_:d.size < 4611686018427387904),
    Calls P f #[.slice (some ⟨blk,off,none⟩) d.size cap,.int .i64 0,.int .i64 (d.size:Nat),.int .i64 (Lib.bitLen d.size:Nat),.func (.func g) #[] cb] w fun e w'=>
      e=.returned (.tuple #[])∧ ∃ d' n os,PermIn 0 d.size d d'∧SortedIn (ltOf cf) 0 d.size d'∧w'=sortWorldK enc k w blk off n d' os
def aFa (P:Program) (f:Nat):Prop:= ∀ (p:Option Addr) (cap:Nat) (lim:Int) (fv:Value) (w:World),Calls P f #[.slice p 0 cap,.int .i64 0,.int .i64 0,.int .i64 lim,fv] w fun e w'=>e=.returned (.tuple #[])∧w'=w
section
variable {P:Program}
theorem aEt {f g k:Nat} (hS:aER P f k) (hN:aFa P f) (hcf:cZ P f) (hcg:cZ P g) {T:Type} [Inhabited T] {f0:T→List V} {l:List T} {cmp:T→T→Int}
    (hO:SWO fun a b=>decide (cmp a b < 0)) (hT: ∀ a∈l,∀ b∈l,¬cmp a b < 0→ ¬cmp b a < 0→a=b)
    (hc: ∀ a∈l,∀ b∈l,aP P g [.agg (f0 a),.agg (f0 b)] (iV (cmp a b))) (hp: ∀ a∈l,cY (f0 a)=true) (h1: ∀ a∈l,(f0 a).all V.one=true) (hk: ∀ a,(f0 a).length=k)
    (hl:l.length < 4611686018427387904) {id ver ty:Nat} {lz:Bool} {H:aI} (hH:H id=⟨ver,true,lz,ty,k,l.map f0⟩):
    dW P f [.ms id ver 0 l.length,iV 0,iV (l.length:Nat),iV (Lib.bitLen l.length:Nat),.fn g [] []] H (.tup []) (upd H id ⟨ver,true,lz,ty,k,(srt cmp l).map f0⟩):=by
  refine ⟨hcf,fun x cs hxH hx hr=>?_⟩
  subst hxH
  obtain ⟨c0,k1,k2,k3,c1,rfl⟩: ∃ c0 k1 k2 k3 c1,cs=[c0,k1,k2,k3,c1]:=by
    have:=hr.1
    match cs with
    |[a,b,c,d,e]=>exact ⟨a,b,c,d,e,rfl⟩
    |[]=>simp at this
    |[_]=>simp at this
    |[_,_]=>simp at this
    |[_,_,_]=>simp at this
    |[_,_,_,_]=>simp at this
    |_::_::_::_::_::_::_=>simp at this
  have q1:R x (iV 0) k1:=hr.2 1 _ rfl
  have q2:R x (iV (l.length:Nat)) k2:=hr.2 2 _ rfl
  have q3:R x (iV (Lib.bitLen l.length:Nat)) k3:=hr.2 3 _ rfl
  have q1':k1=.int .i64 0:=by unfold iV at q1; cases q1; rfl
  have q2':k2=.int .i64 (l.length:Nat):=by unfold iV at q2; cases q2; rfl
  have q3':k3=.int .i64 (Lib.bitLen l.length:Nat):=by unfold iV at q3; cases q3; rfl
  subst q1'; subst q2'; subst q3'
  have r0:R x (.ms id ver 0 l.length) c0:=hr.2 0 _ rfl
  have r1:R x (.fn g [] []) c1:=hr.2 4 _ rfl
  cases r1 with
  |fn _ _ _ fs cb hfs hcs _ _=>
  have hfs':fs=#[]:=Array.eq_empty_of_size_eq_zero (by simpa using hfs)
  have hcs':cb=#[]:=Array.eq_empty_of_size_eq_zero (by simpa using hcs)
  subst hfs'; subst hcs'
  cases r0 with
  |ms _ _ _ _ b n cap hv hh hm=>
  obtain ⟨e1,e2,e3,e4,e5,e6⟩:=hh (by rw [hH]) (by rw [hH])
  subst e1
  by_cases hne:l=[]
  · subst hne
    refine (hN b cap (Lib.bitLen 0:Nat) (.func (.func g) #[] #[]) x.w).mono fun e w' h=>?_
    obtain ⟨rfl,rfl⟩:=h
    refine ⟨_,x,rfl,rfl,?_,hx,.tup [] #[] rfl (fun j v hj=>by simp at hj),Frame.refl x⟩
    funext j
    by_cases e:j=id
    · subst e; rw [aG,hH]; rfl
    · rw [aV _ _ e]
  have hpos:0 < l.length:=List.length_pos_iff.2 hne
  have ho:(x.H id).own=true:=by
    rw [hH]
    cases l with
    |nil=>exact (hne rfl).elim
    |cons a l=>simp [Blk.own]
  obtain ⟨e7,_⟩:=e5 ho
  rw [hH] at e7
  simp only [Nat.zero_mul] at e7
  subst e7
  obtain ⟨cc,b1,b2,b3,b4⟩:=hx.cel id ho (hm (by rw [hH]) (by rw [hH]))
  simp only [hH] at b1 b2 b3 b4
  rw [List.length_map] at b3
  let A:Type:={i:Nat // i < l.length}
  haveI:Inhabited A:=⟨⟨0,hpos⟩⟩
  let enc:A→List Value:=fun i=>(List.range k).map fun j=>cc.getD (i.1*k+j) undef
  let cf:A→A→Int:=fun a b=>cmp (nth l a.1) (nth l b.1)
  let d:Array A:=Array.ofFn fun i:Fin l.length=>(⟨i.1,i.2⟩:A)
  have hdn:d.size=l.length:=by simp [d]
  have hdi: ∀ i (h:i < l.length),d[i]! =⟨i,h⟩:=fun i h=>by
    rw [getElem!_pos d i (by rw [hdn]; exact h)]; simp [d]
  have hek: ∀ a,(enc a).length=k:=fun a=>by simp [enc]
  have hej: ∀ (a:A) (j:Nat),j < k→(enc a)[j]?=some (cc.getD (a.1*k+j) undef):=fun a j hj=>by simp [enc,hj]
  have hrow: ∀ i,i < l.length→(l.map f0)[i]?=some (f0 (nth l i)):=fun i hi=>by rw [List.getElem?_map,yB hi]; rfl
  have hRx: ∀ (a:A) (j:Nat) (v:V),(f0 (nth l a.1))[j]?=some v→R x v (cc.getD (a.1*k+j) undef):=fun a j v hj=>b4 a.1 _ j v (hrow a.1 a.2) hj
  have hcell: ∀ (a:A) (j:Nat),j < k→a.1*k+j < cc.size:=fun a j hj=>by
    have:(a.1+1)*k≤l.length*k:=Nat.mul_le_mul_right k a.2
    rw [Nat.add_mul,Nat.one_mul] at this
    omega
  have hO':SWO (ltOf cf):=⟨fun a=>hO.irrefl _,fun a b c=>hO.trans _ _ _,fun a b c=>hO.ntrans _ _ _⟩
  have hcmp:CmpLays P g #[] enc k cf (x.σ id) 0 d.size x.w:=by
    intro m os dk hdk a b
    let W:=sortWorldK enc k x.w (x.σ id) 0 m dk os
    let z:Cx:=start {x with w:=W} x.Z
    have hz:Inv z:=lZ (fun b hb=>Nat.lt_of_lt_of_le (hx.zlt b hb) nM) fun p hp=>⟨(hx.tab p hp).1,by
      obtain ⟨q1,q2⟩:=hx.tab p hp
      show ∃ ty m,W.heap[p.1]?=_
      rw [show W.heap[p.1]?=x.w.heap[p.1]? from gL (hx.zlt _ q1) fun e=>hx.zown _ id q1 ho e.symm]; exact q2⟩
    have hag: ∀ a:A,R z (.agg (f0 (nth l a.1))) (.agg (enc a).toArray):=fun a=>by
      refine .agg _ _ (by simp [hek,hk]) fun j v hj=>?_
      have hjk:j < k:=by rw [← hk (nth l a.1)]; exact (List.getElem?_eq_some_iff.1 hj).1
      have h:=hRx a j v hj
      have hg:(enc a).toArray.getD j undef=cc.getD (a.1*k+j) undef:=by
        rw [Array.getD_eq_getD_getElem?,List.getElem?_toArray,hej a j hjk]; rfl
      rw [hg]
      refine h.pure_same (y:=z) (cJ.1 (hp _ (cG a.2)) v (List.mem_of_getElem? hj)) (fun b hb=>?_) fun _ h=>h
      exact gL (hx.zlt b hb) fun e=>hx.zown b id hb ho e.symm
    have hrl:RL z [.agg (f0 (nth l a.1)),.agg (f0 (nth l b.1))] [.agg (enc a).toArray,.agg (enc b).toArray]:=by
      refine ⟨rfl,fun j v hj=>?_⟩
      match j,hj with
      |0,hj=>simp at hj; subst hj; exact hag a
      |1,hj=>simp at hj; subst hj; exact hag b
    refine ((hc _ (cG a.2) _ (cG b.2) H0).2 z _ rfl hz hrl).mono fun e w' h=>?_
    obtain ⟨c,y,rfl,rfl,_,_,h5,h6⟩:=h
    cases h5
    obtain ⟨q,os',hq⟩:=nQ h6 fun id=>rfl
    exact ⟨rfl,q,os',hq⟩
  have hsz:d.size < 4611686018427387904:=by rw [hdn]; exact hl
  have hH':HoldsK enc k x.w (x.σ id) 0 d:=by
    intro j hj
    rw [size_flatK,hdn] at hj
    have hk0:0 < k:=Nat.pos_of_ne_zero fun e=>by subst e; simp at hj
    have hdv:j / k < l.length:=(Nat.div_lt_iff_lt_mul hk0).2 hj
    have hmd:j % k < k:=Nat.mod_lt _ hk0
    have e:(flatK enc k d)[j]! =cc.getD j undef:=by
      rw [get_flatK _ _ _ _ (by rw [hdn]; exact hj),hdi _ hdv]
      have h:=hej ⟨j / k,hdv⟩ (j % k) hmd
      rw [List.getElem!_eq_getElem?_getD,h]
      simp only [Option.getD_some]
      rw [Nat.div_add_mod' j k]
    have hjc:j < cc.size:=by omega
    refine ⟨?_,?_⟩
    · rw [e,Nat.zero_add]; exact gG b1 hjc
    · simp [World.frozen?,b1]
  have hcall:=hS enc hek (fun a v hv=>by
      obtain ⟨j,hj⟩:=List.getElem?_of_mem hv
      have hjk:j < k:=by rw [← hek a]; exact (List.getElem?_eq_some_iff.1 hj).1
      rw [hej a j hjk] at hj
      cases hj
      have hu: ∃ u,(f0 (nth l a.1))[j]?=some u:=⟨_,List.getElem?_eq_getElem (by rw [hk]; exact hjk)⟩
      obtain ⟨u,hu⟩:=hu
      exact (hRx a j u hu).one (List.all_eq_true.1 (h1 _ (cG a.2)) u (List.mem_of_getElem? hu))) cf hO' g #[] (x.σ id) 0 cap d x.w (mU hcg) hcmp hH' (hx.lt ho) hsz
  rw [hdn] at hcall
  refine hcall.mono fun e w' h=>?_
  obtain ⟨rfl,d',n',os',hP,hSo,rfl⟩:=h
  obtain ⟨p1,_,p3⟩:=hP
  rw [hdn] at p1
  have x1:d'.extract 0 l.length=d':=by rw [← p1]; simp
  have x2:d.extract 0 l.length=d:=by rw [← hdn]; simp
  rw [x1,x2] at p3
  have hmap:d.toList.map (fun a:A=>nth l a.1)=l:=by
    refine aBz (by simp [hdn]) fun j hj=>?_
    have hj':j < l.length:=by simpa [hdn] using hj
    rw [aFb (by simpa using hj),← iS d j (by rw [hdn]; exact hj'),hdi j hj']
  have hl':d'.toList.map (fun a:A=>nth l a.1)=srt cmp l:=by
    have hperm:(d'.toList.map (fun a:A=>nth l a.1)).Perm l:=by
      have:=p3.map (fun a:A=>nth l a.1)
      rwa [hmap] at this
    refine nT (le:=fun a b=> ¬cmp b a < 0) (fun a ha b hb h1 h2=>hT a (hperm.mem_iff.1 ha) b (hperm.mem_iff.1 hb) h2 h1) (hperm.trans (iF cmp l).symm) ?_ (kK hO l)
    rw [List.pairwise_map,List.pairwise_iff_getElem]
    intro i j hi hj hij
    have h:=hSo i j (Nat.zero_le _) hij (by rw [← p1]; simpa using hj)
    rw [iS d' i (by simpa using hi),iS d' j (by simpa using hj),← bA hi,← bA hj] at h
    simpa [ltOf,cf] using h
  let cc':=putCells _root_.id 0 (flatK enc k d') cc
  have hcs:cc'.size=cc.size:=by simp [cc',putCells]
  have hg: ∀ r j,r < l.length→j < k→ ∀ (hr:r < d'.size),cc'.getD (r*k+j) undef=cc.getD ((d'[r]'hr).1*k+j) undef:=by
    intro r j hr hj hr'
    have hb:r*k+j < l.length*k:=by
      have:(r+1)*k≤l.length*k:=Nat.mul_le_mul_right k hr
      rw [Nat.add_mul,Nat.one_mul] at this; omega
    have hsz':(flatK enc k d').size=l.length*k:=by rw [size_flatK,p1]
    have e:cc'[r*k+j]?=some ((flatK enc k d')[r*k+j]!):=by
      simp only [cc',putCells,Array.getElem?_mapIdx]
      rw [Array.getElem?_eq_getElem (by omega)]
      simp [hsz',hb]
    rw [Array.getD_eq_getD_getElem?,e,get_flatK _ _ _ _ (by rw [p1]; exact hb)]
    have q1:(r*k+j) / k=r:=by rw [Nat.mul_comm,Nat.mul_add_div (by omega),Nat.div_eq_of_lt hj]; rfl
    have q2:(r*k+j) % k=j:=by rw [Nat.mul_comm,Nat.mul_add_mod]; exact Nat.mod_eq_of_lt hj
    rw [q1,q2,getElem!_pos d' r hr',List.getElem!_eq_getElem?_getD,hej _ j hj]
    rfl
  have hrows: ∀ (r:Nat) (row:List V) (j:Nat) (v:V),((srt cmp l).map f0)[r]?=some row→row[j]?=some v→R x v (cc'.getD (r*k+j) undef):=by
    intro r row j v hr hj
    rw [← hl',List.map_map,List.getElem?_map] at hr
    obtain ⟨a,ha,rfl⟩:=map_some hr
    have har:=List.getElem?_eq_some_iff.1 ha
    obtain ⟨hlt,hae⟩:=har
    have hlt':r < d'.size:=by simpa using hlt
    have hjk:j < k:=by rw [← hk (nth l a.1)]; exact (List.getElem?_eq_some_iff.1 hj).1
    rw [hg r j (by omega) hjk hlt']
    have hae':d'[r]'hlt'=a:=by simpa using hae
    rw [hae']
    exact hRx a j v hj
  have st:=lJ hx id ho cc cc' (by rw [hH]; exact b1) hcs (x.H id).ver ((srt cmp l).map f0) (Nat.le_refl _) (fun _=>by rw [hH]; simp [iH]) (by
      rw [hH]
      have:(srt cmp l).length=l.length:=by simp [iH]
      cases hq:srt cmp l with
      |nil=>rw [hq] at this; simp at this; omega
      |cons a q=>simp) (fun r hr=>by
      rw [hH]
      obtain ⟨a,_,rfl⟩:=List.mem_map.1 hr
      exact hk a) (by rw [hH]; simpa [iH] using b3) (by simp only [hH]; exact hrows)
  simp only [hH] at st
  obtain ⟨i1,f1⟩:=st
  obtain ⟨i2,f2⟩:=iU i1 (x.w.drawn+n') (Nat.le_add_right _ _)
  obtain ⟨i3,f3⟩:=aAi i2 os'
  refine ⟨.tuple #[],_,rfl,?_,?_,i3,.tup [] #[] rfl (fun j v hj=>by simp at hj),(f1.trans f2).trans f3⟩
  · rw [sC b1]
  · rfl
end
end Go.Proofs.YteehaobohaecmaaGreatDoor
namespace Go.Proofs.YteehaobohaecmaaGreatDoor
open Go Go.Proofs Go.Shelf Go.Sort
theorem aDH:aER Tryz.prog 109 3:=fun {α} _ enc hk h1 cf hO g cb blk off cap d w eg hcmp hH hblk hsz=>
  (AnyQ.pdqsortCmpFunc_all (P:=Tryz.prog) (ρ:=oX) {lO with} 3 Tryz.isAgg24 Tryz.sizeOf24 enc cf g cb hO blk off cap d w eg hcmp ⟨hk,h1,hH,hblk⟩ (d.size+1) 0 d.size (Lib.bitLen d.size) d w (by omega) rfl (SWK.start hH) (Nat.zero_le _) (Nat.le_refl _) hsz
    (Nat.lt_of_le_of_lt (Lib.bitLen_le d.size 62 (by omega) (by omega)) (by omega)) (Or.inl rfl)).mono fun _ _ ⟨he,n,os,hw⟩=>
      have h:=pdq_sorts (ltOf cf) hO d 0 d.size (Lib.bitLen d.size) true true (Nat.zero_le _) (Nat.le_refl _) (Or.inl rfl)
      ⟨he,_,n,os,h.1,h.2,hw⟩
theorem aDU:aFa Tryz.prog 109:=fun p cap lim fv w=>AnyF.pdqsortCmpFunc_none (P:=Tryz.prog) (ρ:=oX) {lO with} p cap lim fv w
theorem aEh:cZ Tryz.prog 109:=⟨_,Tryz.func109,by kernel_rfl,by kernel_rfl⟩
theorem aCw {n:Nat} (h:n < 4611686018427387904):aP Tryz.prog 110 [.int .u64 (n:Nat)] (iV (Lib.bitLen n:Nat)):=fun H=>by
  refine ⟨⟨_,Tryz.func110,by kernel_rfl,by kernel_rfl⟩,fun x cs hxH hx hr=>?_⟩
  obtain ⟨c0,rfl⟩: ∃ c0,cs=[c0]:=by
    have:=hr.1
    match cs with
    |[a]=>exact ⟨a,rfl⟩
    |[]=>simp at this
    |_::_::_=>simp at this
  have r0:R x (.int .u64 (n:Nat)) c0:=hr.2 0 _ rfl
  have hc:c0=.int .u64 (n:Nat):=by cases r0; rfl
  subst hc
  have h:=Any.bits_Len (SlLaysF0.n15.bits (P:=Tryz.prog) (ρ:=oX) {lO with}) (n:Int) x.w (by omega) (by omega)
  rw [Int.toNat_natCast] at h
  refine h.mono fun e w' hh=>?_
  obtain ⟨rfl,rfl⟩:=hh
  exact ⟨_,x,rfl,rfl,hxH,hx,.int _ _,Frame.refl x⟩
end Go.Proofs.YteehaobohaecmaaGreatDoor
namespace Go.Proofs.YteehaobohaecmaaGreatDoor
open Go Go.Proofs
theorem aKz (l:List Fm) (v2:Nat) (z:Bool) (Hi:aI) (h900:Hi 900=(⟨v2,true,z,24,3,(List.map cF l)⟩:Blk)) (hl:l.length≤2147483648):dW Tryz.prog 154 [(V.ms 900 v2 0 l.length),(V.fn 91 [] [])] Hi (V.tup []) (upd Hi 900 (⟨v2,true,z,24,3,(List.map cF (srt bU l))⟩:Blk)):=by
 refine eW (k0:=650) Tryz.func154 aL3 fun hB=>?_
 unfold aRk
 dsimp only
 refine W_r (aA rfl (gJ rfl h900 (by simp) (aA rfl (R_e (W_t (aA rfl (aA rfl ?_)))))))
 refine aA rfl (aFi (n:=l.length) (rNq l.length) (by omega) (aJ (aCw (n:=l.length) (by omega)) rfl (aA rfl (fP (aY rfl (aY rfl (aY rfl (aY rfl (aY rfl cU))))) (aEt (f0:=cF) (l:=l) (cmp:=bU) aDH aDU aEh ⟨_,Tryz.func91,by kernel_rfl,by kernel_rfl⟩ rC (fun a _ b _ h1 h2=>lA h1 h2) (fun a _ b _=>by rw [bX,bX]; exact oP a b) (fun a _=>by simp) (fun a _=>lG a) kJ (by omega) h900) (R_e (dQ (R:=fun T H=>(∀ j,j∉[900]→H j=Hi j)∧H 900=(⟨v2,true,z,24,3,(List.map cF (srt bU l))⟩:Blk)∧True) ⟨(bN (fun _ _=>rfl) (by decide)),rfl,trivial⟩ ?_))))))
 intro T H ⟨hF,h900,_⟩
 skip
 have fh:=cX.fin (cX.put (cX.start hF) h900 (kL.eq rfl))
 exact aPQ fh
def aNJ:List SO:=[
 qM 18 1,
 qM 19 0,
 qM 20 5,
 qA 21 3 19 20,
 qL 22 3 21,
 qM 23 0,
 qM 24 5,
 qC 25 .sub 24 1,
 qA 26 3 23 25,
 qL 27 3 26,
 sO 28 (.callv false (.t 18) [.t 22,.t 27])]
def aMa:List SO:=[
 qM 38 1,
 qM 39 6,
 qM 40 7,
 qA 41 3 39 40,
 qL 42 3 41,
 qM 43 6,
 qM 44 7,
 qC 45 .sub 44 1,
 qA 46 3 43 45,
 qL 47 3 46,
 sO 48 (.callv false (.t 38) [.t 42,.t 47]),
 sO 49 (.un .not (.t 48))]
def aMs:List SO:=[
 qM 50 0,
 qM 51 5,
 qM 52 6,
 qM 53 7,
 qA 54 3 52 53,
 qL 55 3 54,
 qA 56 3 50 51,
 sN (.store 3 (.t 56) (.t 55))]
def aJy:SC:=.seq (.seq (.reg [qM 32 7,qM 33 6,qN 34 33,qP 35 .lss 32 34]) (.cond (.t 35) (.skip) (.exit 2))) (.seq (.block 3 (.seq (.reg aMa) (.cond (.t 49) (.seq (.reg aMs) (.reg [qM 57 5,qC 58 .add 57 1,qM 5 58])) (.skip)))) (.reg [qM 36 7,qC 37 .add 36 1,qM 7 37]))
def aId:SC:=.seq (.seq (.reg [qM 12 5,qM 13 0,qN 14 13,qP 15 .lss 12 14]) (.cond (.t 15) (.skip) (.exit 0))) (.seq (.block 1 (.seq (.reg aNJ) (.cond (.t 28) (.seq (.reg [qM 29 0,qM 30 5,sO 31 (.slice 3 (.t 29) (some (.t 30)) none),qM 6 31]) (.seq (.seq (.reg [qI 7 1]) (.block 2 (.loop aJy))) (.seq (.reg [qM 59 0,qM 60 5,sO 61 (.slice 3 (.t 59) (some (.t 60)) none),sN (.clr [.int .i64 0,.int .i64 0,.nilsl] (.t 61))]) (.seq (.reg [qM 62 0,qM 63 5,sO 64 (.slice 3 (.t 62) none (some (.t 63))),qM 4 64]) (.ret))))) (.skip)))) (.reg [qM 16 5,qC 17 .add 16 1,qM 5 17]))
def aRa:SF:=⟨66,[.tmp 4],.seq (.reg [sO 4 (.mv (.c (.nilsl)))]) (.seq (.seq (.reg [qM 8 0,qN 9 8,qC 10 .lss 9 2]) (.cond (.t 10) (.seq (.reg [qM 11 0,qM 4 11]) (.ret)) (.skip))) (.seq (.seq (.reg [qI 5 1]) (.block 0 (.loop aId))) (.seq (.reg [qM 65 0,qM 4 65]) (.ret))))⟩
theorem aLr:bF Tryz.prog ⟨[51,59,84,90,97,109,153,154,155,160],[],[],[]⟩ Tryz.f155=some aRa:=by kernel_rfl
def aNQ:List SO:=[
 qF 5 0 2,
 ql 6 5,
 qF 7 0 3,
 ql 8 7,
 qP 9 .eql 6 8,
 qM 10 9,
 ⟨some (10,true),some 11,.fld 1 (.t 2)⟩,
 ⟨some (10,true),some 12,.load false 1 (.t 11)⟩,
 ⟨some (10,true),some 13,.fld 1 (.t 3)⟩,
 ⟨some (10,true),some 14,.load false 1 (.t 13)⟩,
 ⟨some (10,true),some 15,.bin .eql (.t 12) (.t 14)⟩,
 sO 16 (.pick (.t 10) (.t 15) (.c (.bool false))),
 qM 17 16,
 ⟨some (17,true),some 18,.fld 2 (.t 2)⟩,
 ⟨some (17,true),some 19,.load false 1 (.t 18)⟩,
 ⟨some (17,true),some 20,.fld 2 (.t 3)⟩,
 ⟨some (17,true),some 21,.load false 1 (.t 20)⟩,
 ⟨some (17,true),some 22,.call false 161 [.t 19,.t 21,.c (.fn 156 [] [])]⟩,
 sO 23 (.pick (.t 17) (.t 22) (.c (.bool false))),
 qM 4 23]
def aRP:SF:=⟨24,[.tmp 4],.seq (.reg [sO 2 (.box 24 3 (.t 0)),sO 3 (.box 24 3 (.t 1)),sO 4 (.mv (.c (.bool false)))]) (.seq (.reg aNQ) (.ret))⟩
theorem aLA:bF Tryz.prog ⟨[51,59,84,90,97,109,153,154,155,160],[],[],[]⟩ Tryz.f156=some aRP:=by kernel_rfl
def aHX:SC:=.seq (.reg [qP 18 .lss 17 16]) (.seq (.cond (.t 18) (.skip) (.exit 0)) (.seq (.block 1 (.seq (.reg [qM 19 17,qA 20 3 15 17,qL 21 3 20,sO 8 (.alloc 24 [.int .i64 0,.int .i64 0,.nilsl]),qM 7 19,sN (.store 3 (.t 8) (.t 21))]) (.seq (.reg [qM 22 1,qM 23 7,qA 24 3 22 23,qL 25 3 24,sO 9 (.alloc 24 [.int .i64 0,.int .i64 0,.nilsl]),sN (.store 3 (.t 9) (.t 25))]) (.seq (.reg [qM 26 2,qL 27 3 8,qL 28 3 9,sO 29 (.callv false (.t 26) [.t 27,.t 28]),sO 30 (.un .not (.t 29))]) (.cond (.t 30) (.seq (.reg [sO 6 (.mv (.c (.bool false)))]) (.ret)) (.skip)))))) (.reg [qC 31 .add 17 1,qM 17 31])))
def aRJ:SF:=⟨32,[.tmp 6],.seq (.reg [sO 6 (.mv (.c (.bool false)))]) (.seq (.seq (.reg [qM 10 0,qN 11 10,qM 12 1,qN 13 12,qP 14 .neq 11 13]) (.cond (.t 14) (.seq (.reg [sO 6 (.mv (.c (.bool false)))]) (.ret)) (.skip))) (.seq (.seq (.reg [qM 15 0,qN 16 15,qI 17 0]) (.block 0 (.loop aHX))) (.seq (.reg [sO 6 (.mv (.c (.bool true)))]) (.ret))))⟩
theorem aMp:bF Tryz.prog ⟨[51,59,84,90,97,109,153,154,155,160],[],[],[]⟩ Tryz.f161=some aRJ:=by kernel_rfl
theorem aJh (l m:List Fm) (hq: ∀ k,k < l.length→k < m.length→aP Tryz.prog 156 [(V.agg [(iV ((nth l k).op)),(iV ((nth l k).arg)),(V.sl (List.map cF ((nth l k).kids)))]),(V.agg [(iV ((nth m k).op)),(iV ((nth m k).arg)),(V.sl (List.map cF ((nth m k).kids)))])] (V.bool (fU (nth l k) (nth m k)))):aP Tryz.prog 161 [(V.sl (List.map cF l)),(V.sl (List.map cF m)),(V.fn 156 [] [])] (V.bool (decide (l.length=m.length)&&iQ l m)):=by
 refine pW Tryz.func161 aMp fun hB=>?_
 unfold aRJ
 dsimp only
 refine W_r (aA rfl (R_e (aB (W_r (aA rfl (bM rfl (aA rfl ?_)))))))
 refine bM rfl (cM rfl rfl (R_e ?_))
 refine aK rfl (fun c1=>?_) fun c1=>?_
 ·
  refine aB (W_r (aA rfl (R_e (aW ?_))))
  refine bB (rVq (V.bool false)) (bD ?_)
  · rw [decide_eq_false (by omega),Bool.false_and]
 refine aD (aB (W_r (aA rfl (bM rfl (aA rfl (R_e (aE fun Q2 n2 x2 y2 z2=>?_)))))))
 refine cQ (fun mm T H=> ∃ (k:Nat) (v8:Nat) (v9:Nat),mm=l.length - k∧T 1=(V.sl (List.map cF m))∧T 2=(V.fn 156 [] [])∧T 15=(V.sl (List.map cF l))∧T 16=(iV ((l.length:Nat):Int))∧T 17=(iV ((k:Nat):Int))∧(H 8).ver=v8∧(H 9).ver=v9∧(k≤l.length)∧(l.length=m.length)∧(iQ l m=iQ (l.drop k) (m.drop k))) ?_ ?_
 ·
  refine ⟨_,0,0,0,rfl,rfl,rfl,rfl,rfl,(eTq (rVq (iV 0)) rfl),(cVq rfl),(cVq rfl),?_,?_,?_⟩
  · omega
  · omega
  · rfl
 intro mm T H ⟨k,v8,v9,hmm,t1,t2,t15,t16,t17,h8,h9,hk,hl,hc⟩ Q3 p13 p23 p33
 unfold aHX
 refine W_r (bW t17 t16 (R_e ?_))
 refine aK rfl (fun c4=>?_) fun c4=>?_
 ·
  refine aD (aE fun Q5 n5 x5 y5 z5=>(W_r (aA t17 (dC (i:=k) t15 t17 (by omega) (bX _) rfl (aH rfl rfl (bE (i:=8) (n:=v8) (m:=3) rfl h8 rfl (aA rfl ?_)))))))
  refine bP rfl rfl rfl rfl rfl rfl rfl rfl rfl (R_e (W_r (aA t1 (aA rfl (dC (i:=k) (rVq (V.sl (List.map cF m))) (rNq k) (by omega) (bX _) rfl (aH rfl rfl (bE (i:=9) (n:=v9) (m:=3) rfl h9 rfl ?_)))))))
  refine bP rfl rfl rfl rfl rfl rfl rfl rfl rfl (R_e (W_r (aA t2 (aL rfl rfl rfl rfl (aL rfl rfl rfl rfl (jW (rVq (V.fn 156 [] [])) (aY (rVq (V.agg [(iV ((nth l k).op)),(iV ((nth l k).arg)),(V.sl (List.map cF ((nth l k).kids)))])) (aY (rVq (V.agg [(iV ((nth m k).op)),(iV ((nth m k).arg)),(V.sl (List.map cF ((nth m k).kids)))])) cU)) (hq k (by omega) (by omega)) (cC _ _ (by simp [-List.map_take,-List.map_drop,-List.map_append,-List.map_reverse])) (by simp [-List.map_take,-List.map_drop,-List.map_append,-List.map_reverse]) (Or.inl (by simp [-List.map_take,-List.map_drop,-List.map_append,-List.map_reverse])) (gA rfl ?_)))))))
  refine R_e ?_
  refine mT rfl (fun c6=>?_) (fun c6=>?_)
  ·
   have d1:fU (nth l k) (nth m k)=false:=by simpa using c6
   refine W_r (aA rfl (R_e (aN (y5 _ _ (p23 _ _ (y2 _ _ ?_))))))
   refine bB (rVq (V.bool false)) (bD ?_)
   · rw [hc,aHK (by omega) (by omega) d1,Bool.and_false]
  have d1:fU (nth l k) (nth m k)=true:=by simpa using c6
  refine dA (n5 _ _ (.done (W_t (bL t17 (rNq 1) (by omega) (aA rfl (R_e ?_))))))
  refine p13 _ _ _ ?_ ⟨(k+1),(v8+1),(v9+1),rfl,t1,t2,t15,t16,(eTq (rNq (k+1)) (by rfl)),(cVq rfl),(cVq rfl),?_,?_,?_⟩
  · omega
  · omega
  · omega
  · rw [hc,aG1 (by omega) (by omega) d1]
 refine aX (p33 _ _ _ (x2 _ _ (.done (W_r (aA rfl (R_e (aN ?_)))))))
 refine bB (rVq (V.bool true)) (bD ?_)
 · rw [hc,aGl (by omega),Bool.and_true,decide_eq_true (by omega)]
theorem vF (f h:Fm) (ih: ∀ (g h:Fm),g.sz < f.sz→aP Tryz.prog 156 [(V.agg [(iV g.op),(iV g.arg),(V.sl (List.map cF g.kids))]),(V.agg [(iV h.op),(iV h.arg),(V.sl (List.map cF h.kids))])] (V.bool (fU g h))):aP Tryz.prog 156 [(V.agg [(iV f.op),(iV f.arg),(V.sl (List.map cF f.kids))]),(V.agg [(iV h.op),(iV h.arg),(V.sl (List.map cF h.kids))])] (V.bool (fU f h)):=by
 refine pW Tryz.func156 aLA fun hB=>?_
 unfold aRP
 dsimp only
 refine W_r (cK (i:=2) (n:=0) (m:=3) (cs:=[(iV f.op),(iV f.arg),(V.sl (List.map cF f.kids))]) rfl (cVq rfl) rfl rfl rfl (cK (i:=3) (n:=0) (m:=3) (cs:=[(iV h.op),(iV h.arg),(V.sl (List.map cF h.kids))]) rfl (cVq rfl) rfl rfl rfl (aA rfl (R_e (W_r (aU rfl rfl (aL rfl rfl rfl rfl ?_)))))))
 refine aU rfl rfl (aL rfl rfl rfl rfl (bH rfl rfl (aA rfl ?_)))
 refine aS 6 (fun T H=>T 2=(mPq 2)∧T 3=(mPq 3)∧T 16=(V.bool (decide ((f.op=h.op)∧(f.arg=h.arg))))∧H 2=(bk 1 24 3 [[(iV f.op),(iV f.arg),(V.sl (List.map cF f.kids))]])∧H 3=(bk 1 24 3 [[(iV h.op),(iV h.arg),(V.sl (List.map cF h.kids))]])∧True) ?_ ?_
 ·
  by_cases g1:f.op=h.op
  ·
   refine aC (edT g1 rfl) (aU rfl rfl (aC (edT g1 rfl) (aL rfl rfl rfl rfl (aC (edT g1 rfl) (aU rfl rfl (aC (edT g1 rfl) (aL rfl rfl rfl rfl ?_)))))))
   refine aC (edT g1 rfl) (bH rfl rfl (aR (edT g1 rfl) rfl ?_))
   exact ⟨rfl,rfl,(dM g1),rfl,rfl,trivial⟩
  ·
   refine G_n (edF g1 rfl) (G_n (edF g1 rfl) (G_n (edF g1 rfl) (G_n (edF g1 rfl) (G_n (edF g1 rfl) (aT (edF g1 rfl) rfl ?_)))))
   exact ⟨rfl,rfl,(dO g1),rfl,rfl,trivial⟩
 intro T H ⟨t2,t3,t16,h2,h3,_⟩
 refine aA t16 ?_
 refine aS 6 (fun T H=>T 23=(V.bool (decide ((f.op=h.op)∧(f.arg=h.arg))&&(decide (f.kids.length=h.kids.length)&&iQ f.kids h.kids)))∧H 2=(bk 1 24 3 [[(iV f.op),(iV f.arg),(V.sl (List.map cF f.kids))]])∧H 3=(bk 1 24 3 [[(iV h.op),(iV h.arg),(V.sl (List.map cF h.kids))]])∧True) ?_ ?_
 ·
  by_cases g2:(f.op=h.op)∧(f.arg=h.arg)
  ·
   refine aC (edT g2 rfl) (aU t2 h2 (aC (edT g2 rfl) (aL rfl h2 rfl rfl (aC (edT g2 rfl) (aU t3 h3 (aC (edT g2 rfl) (aL rfl h3 rfl rfl ?_)))))))
   refine aC (edT g2 rfl) (aJ (aJh f.kids h.kids (fun k h1 h2=>ih (nth f.kids k) (nth h.kids k) (Fm.sz_kid h1))) rfl (aR (edT g2 rfl) rfl ?_))
   exact ⟨(aDZ g2),h2,h3,trivial⟩
  ·
   refine G_n (edF g2 rfl) (G_n (edF g2 rfl) (G_n (edF g2 rfl) (G_n (edF g2 rfl) (G_n (edF g2 rfl) (aT (edF g2 rfl) rfl ?_)))))
   exact ⟨(aD6 g2),h2,h3,trivial⟩
 intro T H ⟨t23,h2,h3,_⟩
 refine aA t23 (R_e (aN ?_))
 refine bB (rVq (V.bool (decide ((f.op=h.op)∧(f.arg=h.arg))&&(decide (f.kids.length=h.kids.length)&&iQ f.kids h.kids)))) (bD ?_)
 · rw [aIm]; simp only [Bool.and_assoc,Bool.decide_and]
theorem wR (f h:Fm):aP Tryz.prog 156 [(V.agg [(iV f.op),(iV f.arg),(V.sl (List.map cF f.kids))]),(V.agg [(iV h.op),(iV h.arg),(V.sl (List.map cF h.kids))])] (V.bool (fU f h)):=by
  have key: ∀ (mm:Nat) (f h:Fm),f.sz < mm→aP Tryz.prog 156 [(V.agg [(iV f.op),(iV f.arg),(V.sl (List.map cF f.kids))]),(V.agg [(iV h.op),(iV h.arg),(V.sl (List.map cF h.kids))])] (V.bool (fU f h)):=by
    intro mm
    induction mm with
    |zero=>intro f h hlt; exact absurd hlt (Nat.not_lt_zero _)
    | succ mm ih =>
      intro f h hlt
      exact vF f h fun f2 h2 hlt2=>ih f2 h2 (by omega)
  exact key (f.sz+1) f h (Nat.lt_succ_self _)
theorem aMd (l:List Fm) (v2 len:Nat) (z:Bool) (Hi:aI) (h900:Hi 900=(⟨v2,true,z,24,3,(List.map cF l)⟩:Blk)) (hn:len=l.length) (hl:l.length≤2147483648):dW Tryz.prog 155 [(V.ms 900 v2 0 len),(V.fn 156 [] [])] Hi (V.ms 900 v2 0 ((dfK l l.length).length)) (upd Hi 900 (⟨v2,true,z,24,3,(List.map cF (dfK l l.length)++List.replicate (l.length - (dfK l l.length).length) [iV 0,iV 0,V.nilsl])⟩:Blk)):=by
 refine eW (k0:=400) Tryz.func155 aLr fun hB=>?_
 unfold aRa
 dsimp only
 refine W_r (aA rfl (R_e (aB (W_r (aA rfl (gJ rfl h900 (by simp) (bW rfl rfl ?_)))))))
 refine R_e ?_
 refine aK rfl (fun c1=>?_) fun c1=>?_
 ·
  refine aB (W_r (aA rfl (aA rfl (R_e (aW (dQ (R:=fun T H=>T 4=(V.ms 900 v2 0 len)∧(∀ j,j∉[900]→H j=Hi j)∧H 900=(⟨v2,true,z,24,3,(List.map cF l)⟩:Blk)∧True) ⟨(rVq (V.ms 900 v2 0 len)),(fun _ _=>rfl),h900,trivial⟩ ?_))))))
  intro T H ⟨t4,hF,h900,_⟩
  have hall:=aHt (l:=l) (fun i i1 i2=>by omega)
  have fh:=cX.fin (cX.put (B:=(⟨v2,true,z,24,3,(List.map cF (dfK l l.length)++List.replicate (l.length - (dfK l l.length).length) [iV 0,iV 0,V.nilsl])⟩:Blk)) (cX.start hF) h900 (kL.eq (by (rw [hall]; simp; done))))
  exact wI t4 fh (cV.trans_eq (cV.same fh _) (by (rw [hall,hn]; done)))
 refine aD (aB (W_r (aA rfl (R_e (aE fun Q2 n2 x2 y2 z2=>?_)))))
 refine cQ (fun mm T H=> ∃ (k:Nat),mm=l.length - k∧T 0=(V.ms 900 v2 0 len)∧T 1=(V.fn 156 [] [])∧T 5=(iV ((k:Nat):Int))∧(∀ j,j∉[900]→H j=Hi j)∧H 900=(⟨v2,true,z,24,3,(List.map cF l)⟩:Blk)∧(1≤k)∧(k≤l.length)∧(∀ i,1≤i→i < k→nth l i≠nth l (i - 1))) ?_ ?_
 ·
  refine ⟨_,1,rfl,rfl,rfl,(eTq (rVq (iV 1)) rfl),(fun _ _=>rfl),h900,?_,?_,?_⟩
  · omega
  · omega
  · intro i h1 h2; omega
 intro mm T H ⟨k,hmm,t0,t1,t5,hF,h900,h1,hk,hc⟩ Q3 p13 p23 p33
 unfold aId
 refine aB (W_r (aA t5 (aA t0 (gJ rfl h900 (by simp) (bW rfl rfl (R_e ?_))))))
 refine aK rfl (fun c4=>?_) fun c4=>?_
 ·
  refine aD (aE fun Q5 n5 x5 y5 z5=>(W_r (aA t1 (aA t0 (aA t5 (oH (i:=k) (rVq (V.ms 900 v2 0 len)) (rNq k) h900 (gK (by omega)) rfl (by omega) (iD (v:=(V.agg [(iV ((nth l k).op)),(iV ((nth l k).arg)),(V.sl (List.map cF ((nth l k).kids)))])) rfl h900 (mH (by omega) (by (rw [bX]; rfl))) ?_)))))))
  refine aA t0 (aA t5 (aIS rfl rfl (by omega) (by omega) (xW (i:=(((k:Nat):Int) - (1:Int))) (rVq (V.ms 900 v2 0 len)) (rVq (iV (((k:Nat):Int) - (1:Int)))) h900 (gK (by omega)) rfl (by omega) (by omega) (iD (v:=(V.agg [(iV ((nth l ((((k:Nat):Int) - (1:Int)).toNat)).op)),(iV ((nth l ((((k:Nat):Int) - (1:Int)).toNat)).arg)),(V.sl (List.map cF ((nth l ((((k:Nat):Int) - (1:Int)).toNat)).kids)))])) rfl h900 (mH (by omega) (by (rw [bX]; rfl))) (jW (rVq (V.fn 156 [] [])) (aY (rVq (V.agg [(iV ((nth l k).op)),(iV ((nth l k).arg)),(V.sl (List.map cF ((nth l k).kids)))])) (aY (rVq (V.agg [(iV ((nth l ((((k:Nat):Int) - (1:Int)).toNat)).op)),(iV ((nth l ((((k:Nat):Int) - (1:Int)).toNat)).arg)),(V.sl (List.map cF ((nth l ((((k:Nat):Int) - (1:Int)).toNat)).kids)))])) cU)) (wR (nth l k) (nth l ((((k:Nat):Int) - (1:Int)).toNat))) (cC _ _ (by simp [-List.map_take,-List.map_drop,-List.map_append,-List.map_reverse])) (by simp [-List.map_take,-List.map_drop,-List.map_append,-List.map_reverse]) (Or.inl (by simp [-List.map_take,-List.map_drop,-List.map_append,-List.map_reverse])) (R_e ?_))))))
  refine mT rfl (fun c6=>?_) (fun c6=>?_)
  ·
   have d1:nth l k=nth l (k - 1):=by have q:=(fY _ _).1 c6; rwa [show (((k:Nat):Int) - (1:Int)).toNat=k - 1 by omega] at q
   have hd:=aJm h1 (by omega) hc d1
   refine W_r (aA t0 (aA t5 (pE (n:=k) (rVq (V.ms 900 v2 0 len)) (rNq k) h900 (gK (by omega)) rfl (by omega) (aA rfl (R_e (aB (W_r ?_)))))))
   refine aA rfl (R_e (aE fun Q7 n7 x7 y7 z7=>?_))
   refine cQ (fun mm T H=> ∃ (j:Nat),mm=l.length - (k+j)∧T 0=(V.ms 900 v2 0 len)∧T 1=(V.fn 156 [] [])∧T 5=(iV (((dfK l (k+j)).length:Nat):Int))∧T 6=(V.ms 900 v2 (0+k) (len - k))∧T 7=(iV ((j:Nat):Int))∧(∀ j,j∉[900]→H j=Hi j)∧H 900=(⟨v2,true,z,24,3,(List.map cF (dfL l (k+j)))⟩:Blk)∧(k+j≤l.length)∧(1≤j)∧((dfK l (k+j)).length < k+j)) ?_ ?_
   ·
    refine ⟨_,1,rfl,t0,t1,(eTq t5 (by (rw [hd.1]; done))),(eTq (rVq (V.ms 900 v2 (0+k) (len - k))) (by rfl)),(eTq (rVq (iV 1)) rfl),hF,(eTq h900 (by (rw [hd.2]; done))),?_,?_,?_⟩
    · omega
    · omega
    · rw [hd.1]; omega
   intro mm T H ⟨j,hmm,t0,t1,t5,t6,t7,hF,h900,hj,hj1,hlt⟩ Q8 p18 p28 p38
   unfold aJy
   have q1:=aKF (L:=l) (j:=k+j) hj
   have q5:=aQa hlt hj1
   have q6:=aIr (l:=l) (j:=k+j) (by omega)
   refine aB (W_r (aA t7 (aA t6 (gJ rfl h900 (by simp) (bW rfl rfl (R_e ?_))))))
   refine aK rfl (fun c9=>?_) fun c9=>?_
   ·
    refine aD (aE fun Q10 n10 x10 y10 z10=>(W_r (aA t1 (aA t6 (aA t7 (xO (i:=j) (rVq (V.ms 900 v2 (0+k) (len - k))) (rNq j) h900 (gK (by omega)) rfl (by omega) (iD (v:=(V.agg [(iV ((nth (dfL l (k+j)) ((0+k)+j)).op)),(iV ((nth (dfL l (k+j)) ((0+k)+j)).arg)),(V.sl (List.map cF ((nth (dfL l (k+j)) ((0+k)+j)).kids)))])) rfl h900 (mH (by omega) (by (rw [bX]; rfl))) ?_)))))))
    refine aA t6 (aA t7 (aIS rfl rfl (by omega) (by omega) (aAd (i:=(((j:Nat):Int) - (1:Int))) (rVq (V.ms 900 v2 (0+k) (len - k))) (rVq (iV (((j:Nat):Int) - (1:Int)))) h900 (gK (by omega)) rfl (by omega) (by omega) (iD (v:=(V.agg [(iV ((nth (dfL l (k+j)) ((0+k)+(((j:Nat):Int) - (1:Int)).toNat)).op)),(iV ((nth (dfL l (k+j)) ((0+k)+(((j:Nat):Int) - (1:Int)).toNat)).arg)),(V.sl (List.map cF ((nth (dfL l (k+j)) ((0+k)+(((j:Nat):Int) - (1:Int)).toNat)).kids)))])) rfl h900 (mH (by omega) (by (rw [bX]; rfl))) (jW (rVq (V.fn 156 [] [])) (aY (rVq (V.agg [(iV ((nth (dfL l (k+j)) ((0+k)+j)).op)),(iV ((nth (dfL l (k+j)) ((0+k)+j)).arg)),(V.sl (List.map cF ((nth (dfL l (k+j)) ((0+k)+j)).kids)))])) (aY (rVq (V.agg [(iV ((nth (dfL l (k+j)) ((0+k)+(((j:Nat):Int) - (1:Int)).toNat)).op)),(iV ((nth (dfL l (k+j)) ((0+k)+(((j:Nat):Int) - (1:Int)).toNat)).arg)),(V.sl (List.map cF ((nth (dfL l (k+j)) ((0+k)+(((j:Nat):Int) - (1:Int)).toNat)).kids)))])) cU)) (wR (nth (dfL l (k+j)) ((0+k)+j)) (nth (dfL l (k+j)) ((0+k)+(((j:Nat):Int) - (1:Int)).toNat))) (cC _ _ (by simp [-List.map_take,-List.map_drop,-List.map_append,-List.map_reverse])) (by simp [-List.map_take,-List.map_drop,-List.map_append,-List.map_reverse]) (Or.inl (by simp [-List.map_take,-List.map_drop,-List.map_append,-List.map_reverse])) (gA rfl (R_e ?_)))))))
    refine mT rfl (fun c11=>?_) (fun c11=>?_)
    ·
     have d5:nth l (k+j)≠nth l (k+j - 1):=fun q=>by have e:=(fY _ _).2 q; have c:=c11; rw [q5.1,q5.2,e] at c; cases c
     refine W_r (aA t0 (aA t5 (aA t6 (aA t7 (xO (i:=j) (rVq (V.ms 900 v2 (0+k) (len - k))) (rNq j) h900 (gK (by omega)) rfl (by omega) (iD (v:=(V.agg [(iV ((nth (dfL l (k+j)) ((0+k)+j)).op)),(iV ((nth (dfL l (k+j)) ((0+k)+j)).arg)),(V.sl (List.map cF ((nth (dfL l (k+j)) ((0+k)+j)).kids)))])) rfl h900 (mH (by omega) (by (rw [bX]; rfl))) (oH (i:=((dfK l (k+j)).length)) (rVq (V.ms 900 v2 0 len)) (rNq ((dfK l (k+j)).length)) h900 (gK (by omega)) rfl (by omega) ?_)))))))
     refine aAZ (vs:=[(iV ((nth (dfL l (k+j)) ((0+k)+j)).op)),(iV ((nth (dfL l (k+j)) ((0+k)+j)).arg)),(V.sl (List.map cF ((nth (dfL l (k+j)) ((0+k)+j)).kids)))]) (B':=(⟨v2,true,z,24,3,(List.map cF ((dfL l (k+j)).set ((dfK l (k+j)).length) (nth (dfL l (k+j)) ((0+k)+j))))⟩:Blk)) rfl rfl rfl h900 (aFm (x:=(nth (dfL l (k+j)) ((0+k)+j))) (i:=((dfK l (k+j)).length)) (by omega) (bX _).symm rfl (kJ _) rfl) (R_e (W_t (aA t5 (bL rfl (rNq 1) (by omega) (aA rfl (R_e (n10 _ _ ?_)))))))
     refine .done (W_t (aA t7 (bL rfl (rNq 1) (by omega) (aA rfl (R_e ?_)))))
     refine p18 _ _ _ ?_ ⟨(j+1),rfl,t0,t1,(eTq (rNq (((dfK l (k+j)).length)+1)) (by (show _=iV (((dfK l ((k+j)+1)).length:Nat):Int); rw [jH (.inr d5),List.length_append]; rfl))),(eTq t6 (by rfl)),(eTq (rNq (j+1)) (by rfl)),(bN hF (by decide)),(eTq (@rfl Blk (⟨v2,true,z,24,3,(List.map cF ((dfL l (k+j)).set ((dfK l (k+j)).length) (nth (dfL l (k+j)) ((0+k)+j))))⟩:Blk)) (by (rw [q5.1,aIz (show k+j < l.length by omega) (.inr d5)]; rfl))),?_,?_,?_⟩
     · omega
     · omega
     · omega
     · first|(show (dfK l ((k+j)+1)).length < (k+j)+1; rw [jH (.inr d5),List.length_append]; simp; omega)|(show (dfK l ((k+j)+1)).length < (k+j)+1; rw [kH (by rintro (q|q); omega; exact q d5)]; omega)
    have d5:nth l (k+j)=nth l (k+j - 1):=by have c:=c11; rw [q5.1,q5.2] at c; exact (fY _ _).1 (by simpa using c)
    refine dA (n10 _ _ (.done (W_t (aA t7 (bL rfl (rNq 1) (by omega) (aA rfl (R_e ?_)))))))
    refine p18 _ _ _ ?_ ⟨(j+1),rfl,t0,t1,(eTq t5 (by (show _=iV (((dfK l ((k+j)+1)).length:Nat):Int); rw [kH (by rintro (q|q); omega; exact q d5)]; done))),(eTq t6 (by rfl)),(eTq (rNq (j+1)) (by rfl)),hF,(eTq h900 (by (show _=(⟨_,_,_,_,_,List.map cF (dfL l ((k+j)+1))⟩:Blk); rw [aI7 (by rintro (q|q); omega; exact q d5)]; done))),?_,?_,?_⟩
    · omega
    · omega
    · omega
    · first|(show (dfK l ((k+j)+1)).length < (k+j)+1; rw [jH (.inr d5),List.length_append]; simp; omega)|(show (dfK l ((k+j)+1)).length < (k+j)+1; rw [kH (by rintro (q|q); omega; exact q d5)]; omega)
   refine aX (p38 _ _ _ (x7 _ _ (.done (W_r (aA t0 (aA t5 (pE (n:=((dfK l (k+j)).length)) (rVq (V.ms 900 v2 0 len)) (rNq ((dfK l (k+j)).length)) h900 (gK (by omega)) rfl (by omega) ?_)))))))
   refine aRE (m:=((dfK l (k+j)).length)) (n:=(len - ((dfK l (k+j)).length))) (f:=cF) (l:=(dfL l (k+j))) (eTq (rVq (V.ms 900 v2 (0+((dfK l (k+j)).length)) (len - ((dfK l (k+j)).length)))) (congrArg (fun n=>V.ms 900 v2 n (len - ((dfK l (k+j)).length))) (Nat.zero_add _))) h900 rfl (by decide) rfl (by omega) (by omega) (R_e (W_r (aA t0 (aA t5 (zM (n:=((dfK l (k+j)).length)) (rVq (V.ms 900 v2 0 len)) (rNq ((dfK l (k+j)).length)) (@rfl Blk (⟨v2,true,z,24,3,(List.map cF (List.take ((dfK l (k+j)).length) (dfL l (k+j)))++List.replicate (len - ((dfK l (k+j)).length)) [(iV 0),(iV 0),V.nilsl])⟩:Blk)) (aK2 (by (simp only [List.length_take]; omega))) rfl (by omega) (aA rfl (R_e ?_)))))))
   refine aN (y5 _ _ (p23 _ _ (y2 _ _ (dQ (R:=fun T H=>T 4=(V.ms 900 v2 0 ((dfK l (k+j)).length))∧(∀ j,j∉[900]→H j=Hi j)∧H 900=(⟨v2,true,z,24,3,(List.map cF (List.take ((dfK l (k+j)).length) (dfL l (k+j)))++List.replicate (len - ((dfK l (k+j)).length)) [(iV 0),(iV 0),V.nilsl])⟩:Blk)∧True) ⟨(rVq (V.ms 900 v2 0 ((dfK l (k+j)).length))),(bN hF (by decide)),rfl,trivial⟩ ?_))))
   intro T H ⟨t4,hF,h900,_⟩
   skip
   have fh:=cX.fin (cX.put (B:=(⟨v2,true,z,24,3,(List.map cF (dfK l l.length)++List.replicate (l.length - (dfK l l.length).length) [iV 0,iV 0,V.nilsl])⟩:Blk)) (cX.start hF) h900 (kL.eq (by (rw [aK0 (show l.length≤k+j by omega) hj,show k+j=l.length by omega,hn]; done))))
   exact wI t4 fh (cV.trans_eq (cV.same fh _) (by (rw [show k+j=l.length by omega]; done)))
  have d1:nth l k≠nth l (k - 1):=fun q=>by have e:=(fY _ _).2 q; rw [← show (((k:Nat):Int) - (1:Int)).toNat=k - 1 by omega,c6] at e; cases e
  refine dA (n5 _ _ (.done (W_t (aA t5 (bL rfl (rNq 1) (by omega) (aA rfl (R_e ?_)))))))
  refine p13 _ _ _ ?_ ⟨(k+1),rfl,t0,t1,(eTq (rNq (k+1)) (by rfl)),hF,h900,?_,?_,?_⟩
  · omega
  · omega
  · omega
  · intro i i1 i2
    by_cases e:i=k
    · subst e; exact d1
    · exact hc i i1 (by omega)
 refine aX (p33 _ _ _ (x2 _ _ (.done (W_r (aA t0 (aA rfl (R_e ?_)))))))
 refine aN (dQ (R:=fun T H=>T 4=(V.ms 900 v2 0 len)∧(∀ j,j∉[900]→H j=Hi j)∧H 900=(⟨v2,true,z,24,3,(List.map cF l)⟩:Blk)∧True) ⟨(rVq (V.ms 900 v2 0 len)),hF,h900,trivial⟩ ?_)
 intro T H ⟨t4,hF,h900,_⟩
 have hall:=aHt (l:=l) (fun i i1 i2=>hc i i1 (by omega))
 have fh:=cX.fin (cX.put (B:=(⟨v2,true,z,24,3,(List.map cF (dfK l l.length)++List.replicate (l.length - (dfK l l.length).length) [iV 0,iV 0,V.nilsl])⟩:Blk)) (cX.start hF) h900 (kL.eq (by (rw [hall]; simp; done))))
 exact wI t4 fh (cV.trans_eq (cV.same fh _) (by (rw [hall,hn]; done)))
theorem aDB (c d:Cl) (hs:gU c) (hl:c.length≤1073741824) (hd:d.length≤1073741824):aP Tryz.prog 141 [(V.sl (List.map cF c)),(V.sl (List.map cF d))] (V.sl (List.map cF (unF c d))):=by
 refine pW Tryz.func141 aMc fun hB=>?_
 unfold aQE
 dsimp only
 refine W_r (aA rfl (R_e (W_r (aA rfl (aA rfl (bC rfl rfl (fP (aY rfl cU) (aNY ([c,d]) 0 _ (cVq rfl) (by (simp only [aFe,List.length_append]; omega))) ?_)))))))
 refine aA rfl (R_e (W_r (aA rfl (fP (aY rfl (aY rfl cU)) (aKz (dR ([c,d])) (0+1+([c,d]).length) (decide ((dR ([c,d])).length=0)) _ (@rfl Blk (⟨0+1+([c,d]).length,true,decide ((dR ([c,d])).length=0),24,3,(List.map cF (dR ([c,d])))⟩:Blk)) (by simp only [aFe,List.length_append]; omega)) (R_e (W_r (aA rfl ?_)))))))
 refine fP (aY rfl (aY rfl cU)) (aMd (srt bU (dR ([c,d]))) (0+1+([c,d]).length) ((dR ([c,d])).length) (decide ((dR ([c,d])).length=0)) _ (@rfl Blk (⟨0+1+([c,d]).length,true,decide ((dR ([c,d])).length=0),24,3,(List.map cF (srt bU (dR ([c,d]))))⟩:Blk)) (by simp [iH]) (by simp only [iH,aFe,List.length_append]; omega)) (aA rfl (R_e (aN ?_)))
 refine bB (rVq (V.ms 900 (0+1+([c,d]).length) 0 ((dfK (srt bU (dR ([c,d]))) (srt bU (dR ([c,d]))).length).length))) (aKA (@rfl Blk (⟨0+1+([c,d]).length,true,decide ((dR ([c,d])).length=0),24,3,(List.map cF (dfK (srt bU (dR ([c,d]))) (srt bU (dR ([c,d]))).length)++List.replicate ((srt bU (dR ([c,d]))).length - (dfK (srt bU (dR ([c,d]))) (srt bU (dR ([c,d]))).length).length) [iV 0,iV 0,V.nilsl])⟩:Blk)) (by rfl) (aIu (l:=(dfK (srt bU (dR ([c,d]))) (srt bU (dR ([c,d]))).length)) (by rfl)) (fun _=>by simp) ?_)
 · rw [aFe,aN0 hs]
theorem aGB (a b:List Cl) (ha: ∀ k,k < a.length→gU (nth a k)) (la: ∀ k,k < a.length→(nth a k).length≤536870912) (lb: ∀ k,k < b.length→(nth b k).length≤536870912) (na:a.length≤64) (nb:b.length≤65536):aP Tryz.prog 121 [(V.sl (List.map cCl a)),(V.sl (List.map cCl b))] (V.sl (List.map cCl (prd a b))):=by
 refine pW Tryz.func121 aLt fun hB=>?_
 unfold aQQ
 dsimp only
 refine W_r (aA rfl (R_e (W_r (aA rfl (R_e (aB ?_))))))
 refine gP (fun T H=>T 1=(V.sl (List.map cCl b))∧T 5=V.nilsl∧T 10=(V.sl (List.map cCl a))∧T 11=(iV ((a.length:Nat):Int))∧T 12=(iV 0)∧True) ?_ ?_
 ·
  refine aA rfl (bM rfl (aA rfl ?_))
  exact fM ⟨rfl,rfl,rfl,rfl,rfl,trivial⟩
 intro T H ⟨t1,t5,t10,t11,t12,_⟩
 refine aNc t5 (dQ (R:=fun T H=>T 1=(V.sl (List.map cCl b))∧T 5=(V.sl [])∧T 10=(V.sl (List.map cCl a))∧T 11=(iV ((a.length:Nat):Int))∧T 12=(iV 0)∧True) ⟨(uTq t1),(aG _ _ _),(uTq t10),(uTq t11),(uTq t12),trivial⟩ ?_)
 intro T H ⟨t1,t5,t10,t11,t12,_⟩
 refine aE fun Q1 n1 x1 y1 z1=>?_
 refine cQ (fun mm T H=> ∃ (k:Nat),mm=a.length - k∧T 1=(V.sl (List.map cCl b))∧T 5=(V.sl (List.map cCl (prd (a.take k) b)))∧T 10=(V.sl (List.map cCl a))∧T 11=(iV ((a.length:Nat):Int))∧T 12=(iV ((k:Nat):Int))∧(k≤a.length)) ?_ ?_
 ·
  refine ⟨_,0,rfl,t1,(eTq t5 (by rfl)),t10,t11,(eTq t12 rfl),?_⟩
  · omega
 intro mm T H ⟨k,hmm,t1,t5,t10,t11,t12,hk⟩ Q2 p12 p22 p32
 unfold aJ7
 have hN:=aKh na nb hk
 refine W_r (bW t12 t11 (R_e ?_))
 refine aK rfl (fun c3=>?_) fun c3=>?_
 ·
  refine aD (aE fun Q4 n4 x4 y4 z4=>(W_r (dE (i:=k) t10 t12 (by omega) rfl (aH rfl rfl (aA rfl (R_e (W_r ?_)))))))
  refine aA t1 (bM rfl (aA rfl (R_e (oR fun Q5 n5 x5 y5 z5=>?_))))
  refine cQ (fun mm T H=> ∃ (j:Nat),mm=b.length - j∧T 1=(V.sl (List.map cCl b))∧T 5=(V.sl (List.map cCl (prC (prd (a.take k) b) (nth a k) (b.take j))))∧T 7=(V.sl (List.map cF (nth a k)))∧T 10=(V.sl (List.map cCl a))∧T 11=(iV ((a.length:Nat):Int))∧T 12=(iV ((k:Nat):Int))∧T 16=(V.sl (List.map cCl b))∧T 17=(iV ((b.length:Nat):Int))∧T 18=(iV ((j:Nat):Int))∧(j≤b.length)) ?_ ?_
  ·
   refine ⟨_,0,rfl,t1,(eTq t5 (by rfl)),rfl,t10,t11,t12,rfl,rfl,(eTq (rVq (iV 0)) rfl),?_⟩
   · omega
  intro mm T H ⟨j,hmm,t1,t5,t7,t10,t11,t12,t16,t17,t18,hj⟩ Q6 p16 p26 p36
  unfold aJ8
  have hM:=aKo (prd (a.take k) b) (nth a k) (b.take j)
  have hM2:(b.take j).length=j:=by rw [List.length_take]; omega
  have hU:=vU (nth b j) (nth a k)
  have hla:k < a.length→(nth a k).length≤536870912:=la k
  have hlb:j < b.length→(nth b j).length≤536870912:=lb j
  refine W_r (bW t18 t17 (R_e ?_))
  refine aK rfl (fun c7=>?_) fun c7=>?_
  ·
   refine aD (aE fun Q8 n8 x8 y8 z8=>(W_r (dE (i:=j) t16 t18 (by omega) rfl (aH rfl rfl (aA rfl (R_e (W_t ?_)))))))
   refine aA t5 (aA t7 (aA rfl (aJ (aDB (nth a k) (nth b j) (ha k (by omega)) (Nat.le_trans (la k (by omega)) (by decide)) (Nat.le_trans (lb j (by omega)) (by decide))) rfl (aJ (aAe (prC (prd (a.take k) b) (nth a k) (b.take j)) (unF (nth a k) (nth b j)) (fun q hq=>(aLF (b:=b.take j) (aJw (b:=b) ha k) (ha k (by omega))).at_ hq) (fun q hq=>(aGw (aGF la lb k) (la k (by omega)) lb j).at_ hq) (by omega) (rV (ha k (by omega))) (by omega)) rfl (aA rfl (R_e (n8 _ _ ?_)))))))
   refine .done (W_t (bL t18 (rNq 1) (by omega) (aA rfl (R_e ?_))))
   refine p16 _ _ _ ?_ ⟨(j+1),rfl,t1,(eTq (rVq (V.sl (List.map cCl (wth (prC (prd (a.take k) b) (nth a k) (b.take j)) (unF (nth a k) (nth b j)))))) (by (rw [aJB (by omega)]; done))),t7,t10,t11,t12,t16,t17,(eTq (rNq (j+1)) (by rfl)),?_⟩
   · omega
   · omega
  refine aX (p36 _ _ _ (x5 _ _ (n4 _ _ (.done (W_t (bL t12 (rNq 1) (by omega) (aA rfl ?_)))))))
  refine R_e ?_
  refine p12 _ _ _ ?_ ⟨(k+1),rfl,t1,(eTq t5 (by (rw [aI1 (by omega),show j=b.length by omega,List.take_length]; done))),t10,t11,(eTq (rNq (k+1)) (by rfl)),?_⟩
  · omega
  · omega
 refine aX (p32 _ _ _ (x1 _ _ (.done (W_r (aA t5 (aA rfl (R_e ?_)))))))
 refine aN ?_
 refine bB (rVq (V.sl (List.map cCl (prd (a.take k) b)))) (eI ?_ (fun _=>by simp))
 · rw [show k=a.length by omega,List.take_length]
theorem aGj (l:List Fm) (hok: ∀ k,k < l.length→okF (nth l k)=true) (hz:Fm.szs l≤268435456) (hq: ∀ k,k < l.length→aP Tryz.prog 87 [(V.agg [(iV ((nth l k).op)),(iV ((nth l k).arg)),(V.sl (List.map cF ((nth l k).kids)))])] (V.tup [(V.sl (List.map cCl (bR (cls (nth l k))))),(iV (gC (cls (nth l k))))])):aP Tryz.prog 108 [(V.sl (List.map cF l))] (V.tup [(V.sl (List.map cCl (bR (cjL l [[]])))),(iV (gC (cjL l [[]])))]):=by
 refine pW Tryz.func108 aK6 fun hB=>?_
 unfold aRN
 dsimp only
 have hln:=Fm.szs_len l
 refine W_r (aA rfl (aA rfl (R_e (W_r (bC rfl rfl (aA rfl (R_e ?_)))))))
 refine aB ?_
 refine gP (fun T H=>T 4=(V.sl [[V.nilsl]])∧T 10=(V.sl (List.map cF l))∧T 11=(iV ((l.length:Nat):Int))∧T 12=(iV 0)∧H 6=bZq∧True) ?_ ?_
 ·
  refine aA rfl (bM rfl (aA rfl ?_))
  exact fM ⟨rfl,rfl,rfl,rfl,rfl,trivial⟩
 intro T H ⟨t4,t10,t11,t12,h6,_⟩
 refine aNv t4 (.done ?_)
 refine dQ (R:=fun T H=>T 4=(V.sl [[(V.sl (List.map cF ([])))]])∧T 10=(V.sl (List.map cF l))∧T 11=(iV ((l.length:Nat):Int))∧T 12=(iV 0)∧H 6=bZq∧True) ⟨(aG _ _ _),(uTq t10),(uTq t11),(uTq t12),h6,trivial⟩ ?_
 intro T H ⟨t4,t10,t11,t12,h6,_⟩
 refine aE fun Q1 n1 x1 y1 z1=>?_
 refine cQ (fun mm T H=> ∃ (k:Nat) (out:List Cl) (v6:Nat),mm=l.length - k∧T 4=(V.sl (List.map cCl out))∧T 10=(V.sl (List.map cF l))∧T 11=(iV ((l.length:Nat):Int))∧T 12=(iV ((k:Nat):Int))∧(H 6).ver=v6∧(k≤l.length)∧(cjL l [[]]=cjL (l.drop k) out)∧(GdS out)∧(gI (Fm.szs (l.take k)) out)) ?_ ?_
 ·
  refine ⟨_,0,[[]],0,rfl,(eTq t4 (by rfl)),t10,t11,(eTq t12 rfl),(cVq h6),?_,?_,?_,?_⟩
  · omega
  · rfl
  · exact tW
  · exact fun c hc=>by rw [List.mem_singleton.1 hc]; exact Nat.zero_le _
 intro mm T H ⟨k,out,v6,hmm,t4,t10,t11,t12,h6,hk,hc,hG,hL⟩ Q2 p12 p22 p32
 unfold aHD
 have hT:=uL l k
 refine W_r (bW t12 t11 (R_e ?_))
 refine aK rfl (fun c3=>?_) fun c3=>?_
 ·
  refine aD (aE fun Q4 n4 x4 y4 z4=>(W_r (dC (i:=k) t10 t12 (by omega) (bX _) rfl (aH rfl rfl (bE (i:=6) (n:=v6) (m:=3) rfl h6 rfl (bP rfl rfl rfl rfl rfl rfl rfl rfl rfl (R_e ?_)))))))
  refine W_r (aL rfl rfl rfl rfl (aJ (hq k (by omega)) rfl (aA rfl (bG rfl rfl (bG rfl rfl (aA rfl (aA rfl ?_)))))))
  refine R_e (aB (W_r (aA rfl (cM rfl rfl (R_e ?_)))))
  refine aK rfl (fun c5=>?_) fun c5=>?_
  ·
   have d1:=c5
   refine aB (W_r (aA rfl (aA rfl (aA rfl (R_e (aW (y4 _ _ ?_)))))))
   refine p22 _ _ (y1 _ _ ?_)
   refine eE (rVq V.nilsl) (rVq (iV (gC (cls (nth l k))))) (dD ?_) (aF ?_)
   · rw [hc,aIi (by omega) (jL d1)]; try rfl
   · rw [hc,aIi (by omega) (jL d1),jL d1]; try rfl
  have d1:=c5
  have g1:=aIW (by omega) (hok k (by omega)) d1
  refine aD (W_r (aA t4 (aA rfl (aJ (aGB out (bR (cls (nth l k))) (fun q hq=>hG.ant.at_ hq) (fun q hq=>Nat.le_trans (hL.at_ hq) (by omega)) (fun q hq=>Nat.le_trans (g1.2.1.at_ hq) (by omega)) hG.len (Nat.le_trans g1.1.len (by decide))) rfl (aJ (qU (prd out (bR (cls (nth l k))))) rfl (aA rfl (bG rfl rfl ?_)))))))
  refine bG rfl rfl (aA rfl (aA rfl (R_e (W_r (aA rfl (cM rfl rfl (R_e ?_)))))))
  refine cW rfl (fun c6=>?_) fun c6=>?_
  ·
   have d2:=aKC c6
   refine W_r (aA rfl (aA rfl (aA rfl (R_e (aN (y4 _ _ (p22 _ _ ?_)))))))
   refine y1 _ _ ?_
   refine eE (rVq V.nilsl) (rVq (iV (if 64 < (prd out (bR (cls (nth l k)))).length then 11 else 0))) (dD ?_) (aF ?_)
   · rw [hc,aED (by omega) (jQ d1) d2]; try rfl
   · rw [hc,aED (by omega) (jQ d1) d2,if_pos d2]; try rfl
  have d2:=aON c6
  refine dA (n4 _ _ (.done (W_t (bL t12 (rNq 1) (by omega) (aA rfl (R_e ?_))))))
  refine p12 _ _ _ ?_ ⟨(k+1),(prd out (bR (cls (nth l k)))),(v6+1),rfl,(eTq (rVq (V.sl (List.map cCl (if 64 < (prd out (bR (cls (nth l k)))).length then [] else (prd out (bR (cls (nth l k)))))))) (by (rw [if_neg d2]; done))),t10,t11,(eTq (rNq (k+1)) (by rfl)),(cVq rfl),?_,?_,?_,?_⟩
  · omega
  · omega
  · rw [hc,aNy (by omega) (jQ d1) d2]
  · exact aKU hG g1.1 d2
  · exact aKr (by omega) hL g1.2.2
 refine aX (p32 _ _ _ (x1 _ _ (.done (W_r (aA t4 (aA rfl (aA rfl ?_)))))))
 refine R_e (aN ?_)
 refine eE (rVq (V.sl (List.map cCl out))) (rVq (iV 0)) (eI ?_ (fun _=>by simp)) (aF ?_)
 · rw [hc,aEJ (by omega)]; try rfl
 · rw [hc,aEJ (by omega)]; try rfl
theorem zH (f:Fm) (hok:okF f=true) (hz:f.sz≤268435456) (ih: ∀ (g:Fm),g.sz < f.sz→okF g=true→g.sz≤268435456→aP Tryz.prog 87 [(V.agg [(iV g.op),(iV g.arg),(V.sl (List.map cF g.kids))])] (V.tup [(V.sl (List.map cCl (bR (cls g)))),(iV (gC (cls g)))])):aP Tryz.prog 87 [(V.agg [(iV f.op),(iV f.arg),(V.sl (List.map cF f.kids))])] (V.tup [(V.sl (List.map cCl (bR (cls f)))),(iV (gC (cls f)))]):=by
 refine pW Tryz.func87 aNT fun hB=>?_
 unfold s87
 dsimp only
 have hp:=bJ hok
 have hr:=cP hp.1
 have hln:=f.sz_len
 refine W_r (cK (i:=1) (n:=0) (m:=3) (cs:=[(iV f.op),(iV f.arg),(V.sl (List.map cF f.kids))]) rfl (cVq rfl) rfl rfl rfl (aA rfl (aA rfl (R_e (aB (W_r (aU rfl rfl ?_)))))))
 refine aL rfl rfl rfl rfl (R_e (aE fun Q1 n1 x1 y1 z1=>(W_r (bH rfl rfl (aA rfl (R_e ?_))))))
 refine cW rfl (fun c2=>?_) fun c2=>?_
 ·
  refine W_r (bC rfl rfl (aA rfl (aA rfl (R_e (aN (y1 _ _ ?_))))))
  refine eE (rVq (V.sl [[V.nilsl]])) (rVq (iV 0)) ?_ (aF ?_)
  · rw [uH (by omega)]; simp [fzv,bR,cCl]
  · rw [uH (by omega)]; rfl
 refine W_r (bH rfl rfl (aA rfl (R_e ?_)))
 refine cW rfl (fun c3=>?_) fun c3=>?_
 ·
  refine aB (W_r (aU rfl rfl (aL rfl rfl rfl rfl (dC (i:=0) (rVq (V.sl (List.map cF f.kids))) (rNq 0) (by omega) (bX _) rfl (aIZ (cs':=[(iV ((nth f.kids 0).op)),(iV ((nth f.kids 0).arg)),(V.sl (List.map cF ((nth f.kids 0).kids)))]) rfl rfl (aH rfl rfl (bH rfl rfl ?_)))))))
  refine R_e ?_
  refine aK rfl (fun c4=>?_) fun c4=>?_
  ·
   refine aB (W_r (aA rfl (aA rfl (R_e (aW (y1 _ _ ?_))))))
   refine eE (rVq V.nilsl) (rVq (iV 0)) (dD ?_) (aF ?_)
   · rw [uJ (by omega) (by omega)]; rfl
   · rw [uJ (by omega) (by omega)]; rfl
  refine aD (W_r (aL rfl rfl rfl rfl (bC rfl rfl (bC rfl rfl (aA rfl (aA rfl (R_e ?_)))))))
  refine aN (y1 _ _ ?_)
  refine eE (rVq (V.sl [[(V.sl [[(iV f.op),(iV f.arg),(V.sl (List.map cF f.kids))]])]])) (rVq (iV 0)) (cA (by simp) ?_) (aF ?_)
  · rw [pZ (by omega) (by omega)]; simp [bR,cCl,bX]
  · rw [pZ (by omega) (by omega)]; rfl
 refine aB (W_r (bH rfl rfl (aA rfl (R_e ?_))))
 refine aK rfl (fun c5=>?_) fun c5=>?_
 ·
  refine aD ?_
  refine cW rfl (fun c6=>?_) fun c6=>?_
  ·
   refine W_r (aL rfl rfl rfl rfl (bC rfl rfl (bC rfl rfl (aA rfl (aA rfl (R_e (aN ?_)))))))
   refine y1 _ _ ?_
   refine eE (rVq (V.sl [[(V.sl [[(iV f.op),(iV f.arg),(V.sl (List.map cF f.kids))]])]])) (rVq (iV 0)) (cA (by simp) ?_) (aF ?_)
   · rw [mP (by omega)]; simp [bR,cCl,bX]
   · rw [mP (by omega)]; rfl
  · exact (c6 c5).elim
 refine W_r (bH rfl rfl (aA rfl (R_e ?_)))
 refine cW rfl (fun c7=>?_) fun c7=>?_
 ·
  refine W_r (aL rfl rfl rfl rfl (bC rfl rfl (bC rfl rfl (aA rfl (aA rfl (R_e (aN ?_)))))))
  refine y1 _ _ ?_
  refine eE (rVq (V.sl [[(V.sl [[(iV f.op),(iV f.arg),(V.sl (List.map cF f.kids))]])]])) (rVq (iV 0)) (cA (by simp) ?_) (aF ?_)
  · rw [mP (by omega)]; simp [bR,cCl,bX]
  · rw [mP (by omega)]; rfl
 refine W_r (bH rfl rfl (aA rfl (R_e ?_)))
 refine cW rfl (fun c8=>?_) fun c8=>?_
 ·
  refine W_r (aU rfl rfl (aL rfl rfl rfl rfl (aJ (aGm f.kids hp.2 (by rw [Fm.sz_eq] at hz; omega) (fun k h=>ih (nth f.kids k) (Fm.sz_kid h) (hp.2 k h) (Nat.le_trans (Nat.le_of_lt (Fm.sz_kid h)) hz))) rfl (bG rfl rfl (bG rfl rfl (aA rfl (aA rfl ?_)))))))
  refine R_e (aN (y1 _ _ ?_))
  refine eE (rVq (V.sl (List.map cCl (bR (djL f.kids []))))) (rVq (iV (gC (djL f.kids [])))) (eI ?_ (fun _=>by simp)) (aF ?_)
  · rw [rL (by omega)]
  · rw [rL (by omega)]
 refine W_r (bH rfl rfl (aA rfl (R_e ?_)))
 refine cW rfl (fun c9=>?_) fun c9=>?_
 ·
  refine W_r (aU rfl rfl (aL rfl rfl rfl rfl (aJ (aGj f.kids hp.2 (by rw [Fm.sz_eq] at hz; omega) (fun k h=>ih (nth f.kids k) (Fm.sz_kid h) (hp.2 k h) (Nat.le_trans (Nat.le_of_lt (Fm.sz_kid h)) hz))) rfl (bG rfl rfl (bG rfl rfl (aA rfl (aA rfl ?_)))))))
  refine R_e (aN (y1 _ _ ?_))
  refine eE (rVq (V.sl (List.map cCl (bR (cjL f.kids [[]]))))) (rVq (iV (gC (cjL f.kids [[]])))) (eI ?_ (fun _=>by simp)) (aF ?_)
  · rw [qW (by omega)]
  · rw [qW (by omega)]
 refine dA (n1 _ _ (.done (W_r (aU rfl rfl (aL rfl rfl rfl rfl (bI rfl rfl (bE (i:=4) (n:=0) (m:=3) rfl (cVq rfl) rfl ?_)))))))
 refine bP rfl rfl rfl rfl rfl rfl rfl rfl rfl (R_e (aB ?_))
 refine gP (fun T H=>T 4=(mPq 4)∧T 49=(V.sl (List.map cF f.kids))∧T 50=(iV ((f.kids.length:Nat):Int))∧T 51=(iV 0)∧H 1=(bk 1 24 3 [[(iV f.op),(iV f.arg),(V.sl (List.map cF f.kids))]])∧H 4=(bk 1 24 3 [[(iV f.op),(iV 0),V.nilsl]])∧H 6=bZq∧H 7=bZq∧H 704=bZq∧True) ?_ ?_
 ·
  refine aU rfl rfl (aL rfl rfl rfl rfl (bM rfl (aA rfl ?_)))
  exact fM ⟨rfl,rfl,rfl,rfl,rfl,rfl,rfl,rfl,rfl,trivial⟩
 intro T H ⟨t4,t49,t50,t51,h1,h4,h6,h7,h704,_⟩
 refine .lazyCell 704 24 3 4 0 2 [(iV f.op),(iV 0),V.nilsl] (by decide) (by rw [h4]; rfl) (by rw [h4]; rfl) rfl (.done ?_)
 refine dQ (R:=fun T H=>T 4=(mPq 4)∧T 49=(V.sl (List.map cF f.kids))∧T 50=(iV ((f.kids.length:Nat):Int))∧T 51=(iV 0)∧H 1=(bk 1 24 3 [[(iV f.op),(iV f.arg),(V.sl (List.map cF f.kids))]])∧H 4=(bk 1 24 3 [[(iV f.op),(iV 0),(V.ms 704 1 0 0)]])∧H 6=bZq∧H 7=bZq∧H 704=(bz 1 24 3 [])∧True) ⟨t4,t49,t50,t51,(uTq (uTq h1)),(by rw [aG,h4,(cVq h704)]; rfl),(uTq (uTq h6)),(uTq (uTq h7)),(by rw [aV _ _ (by decide),aG,(cVq h704)]),trivial⟩ ?_
 intro T H ⟨t4,t49,t50,t51,h1,h4,h6,h7,h704,_⟩
 refine aE fun Q10 n10 x10 y10 z10=>?_
 refine cQ (fun mm T H=> ∃ (k:Nat) (w:Nat) (g:List Fm) (v6:Nat) (v7:Nat),mm=f.kids.length - k∧T 4=(mPq 4)∧T 49=(V.sl (List.map cF f.kids))∧T 50=(iV ((f.kids.length:Nat):Int))∧T 51=(iV ((k:Nat):Int))∧H 1=(bk 1 24 3 [[(iV f.op),(iV f.arg),(V.sl (List.map cF f.kids))]])∧H 4=(bk 1 24 3 [[(iV f.op),(iV 0),(V.ms 704 w 0 k)]])∧(H 6).ver=v6∧(H 7).ver=v7∧H 704=(bz w 24 3 (List.map cF g))∧(k≤f.kids.length)∧(g.length=k)∧(eL f.kids=(eL (f.kids.drop k)).map fun r=>g++r)) ?_ ?_
 ·
  refine ⟨_,0,1,[],0,0,rfl,t4,t49,t50,(eTq t51 rfl),h1,h4,(cVq h6),(cVq h7),(eTq h704 (by rfl)),?_,?_,?_⟩
  · omega
  · rfl
  · simp
 intro mm T H ⟨k,w,g,v6,v7,hmm,t4,t49,t50,t51,h1,h4,h6,h7,h704,hk,hg,hc⟩ Q11 p111 p211 p311
 unfold aME
 refine W_r (bW t51 t50 (R_e ?_))
 refine aK rfl (fun c12=>?_) fun c12=>?_
 ·
  refine aD (aE fun Q13 n13 x13 y13 z13=>(W_r (dC (i:=k) t49 t51 (by omega) (bX _) rfl (aH rfl rfl (bE (i:=6) (n:=v6) (m:=3) rfl h6 rfl (bP rfl rfl rfl rfl rfl rfl rfl rfl rfl (R_e ?_)))))))
  refine W_r (aL rfl rfl rfl rfl (aJ (aDp (nth f.kids k) (hp.2 k (by omega)) (Nat.le_trans (Nat.le_of_lt (Fm.sz_kid (by omega))) hz) ((fun k h=>ih (nth f.kids k) (Fm.sz_kid h) (hp.2 k h) (Nat.le_trans (Nat.le_of_lt (Fm.sz_kid h)) hz)) k (by omega))) rfl (aA rfl (bG rfl rfl (bG rfl rfl (bE (i:=7) (n:=v7) (m:=3) rfl h7 rfl (bP rfl rfl rfl rfl rfl rfl rfl rfl rfl ?_)))))))
  refine aA rfl (R_e (aB (W_r (aA rfl (cM rfl rfl (R_e ?_))))))
  refine aK rfl (fun c14=>?_) fun c14=>?_
  ·
   have d1:=aKW (by omega) hc (by omega) c14
   have d0:=jL c14
   refine aB (W_r (aA rfl (aA rfl (aA rfl (R_e (aW (y13 _ _ ?_)))))))
   refine p211 _ _ (y10 _ _ ?_)
   refine eE (rVq V.nilsl) (rVq (iV (gC (can (nth f.kids k))))) (dD ?_) (aF ?_)
   · rw [d1]; rfl
   · rw [d1,d0]; rfl
  have d1:=aLW hc (by omega) c14
  refine aD (W_t (aU t4 h4 (aL rfl h4 rfl rfl (aL rfl rfl rfl rfl (bC rfl rfl (eH (l:=g) (f:=cF) (x:=(iM (can (nth f.kids k)))) (rVq (V.ms 704 w 0 k)) h704 (by exact hg.symm) (pV (x:=(iM (can (nth f.kids k)))) (rVq (V.sl [[(iV ((iM (can (nth f.kids k))).op)),(iV ((iM (can (nth f.kids k))).arg)),(V.sl (List.map cF ((iM (can (nth f.kids k))).kids)))]]))) (kJ _) (lG _) (by omega) (by omega) (aU t4 h4 ?_)))))))
  refine bP rfl rfl rfl h4 rfl rfl rfl rfl rfl (R_e (n13 _ _ (.done (W_t (bL t51 (rNq 1) (by omega) (aA rfl (R_e ?_)))))))
  refine p111 _ _ _ ?_ ⟨(k+1),(w+1),(g++[iM (can (nth f.kids k))]),(v6+1),(v7+1),rfl,t4,t49,t50,(eTq (rNq (k+1)) (by rfl)),h1,(eTq (@rfl Blk (bk 1 24 3 [[(iV f.op),(iV 0),(V.ms 704 (w+1) 0 (k+1))]])) (by rfl)),(cVq rfl),(cVq rfl),(eTq (@rfl Blk (bz (w+1) 24 3 (List.map cF (g++[(iM (can (nth f.kids k)))])))) (by rfl)),?_,?_,?_⟩
  · omega
  · omega
  · simp; exact hg
  · exact d1
 refine aX (p311 _ _ _ (x10 _ _ (dQ (R:=fun T H=>T 4=(mPq 4)∧T 49=(V.sl (List.map cF f.kids))∧T 50=(iV ((f.kids.length:Nat):Int))∧T 51=(iV ((k:Nat):Int))∧T 52=(V.bool (decide (((k:Nat):Int) < ((f.kids.length:Nat):Int))))∧H 1=(bk 1 24 3 [[(iV f.op),(iV f.arg),(V.sl (List.map cF f.kids))]])∧H 4=(bk 1 24 3 [[(iV f.op),(iV 0),(V.ms 704 w 0 k)]])∧(H 6).ver=v6∧(H 7).ver=v7∧H 704=(bz w 24 3 (List.map cF g))∧True) ⟨t4,t49,t50,t51,(rVq (V.bool (decide (((k:Nat):Int) < ((f.kids.length:Nat):Int))))),h1,h4,h6,h7,h704,trivial⟩ ?_)))
 intro T H ⟨t4,t49,t50,t51,t52,h1,h4,h6,h7,h704,_⟩
 refine aG2 (id:=704) (id2:=4) (rows:=[[(iV f.op),(iV 0),(V.ms 704 w 0 k)]]) (i:=0) (off:=2) (r:=[(iV f.op),(iV 0),(V.ms 704 w 0 k)]) (m:=g) (g:=cF) (by decide) h704 h4 (by (simp; done)) (by exact hg.symm) rfl (.done ?_)
 refine dQ (R:=fun T H=>T 4=(mPq 4)∧T 49=(V.sl (List.map cF f.kids))∧T 50=(iV ((f.kids.length:Nat):Int))∧T 51=(iV ((k:Nat):Int))∧T 52=(V.bool (decide (((k:Nat):Int) < ((f.kids.length:Nat):Int))))∧H 1=(bk 1 24 3 [[(iV f.op),(iV f.arg),(V.sl (List.map cF f.kids))]])∧H 4=(bk 1 24 3 [[(iV f.op),(iV 0),(V.sl (List.map cF g))]])∧(H 6).ver=v6∧(H 7).ver=v7∧((H 704).ver=w∧(H 704).live=false)∧True) ⟨(eF t4 rfl),(eF t49 rfl),(eF t50 rfl),(eF t51 rfl),(eF t52 rfl),(uTq (cH h1 (by decide))),(aG _ _ _),((cVq (aV _ _ (by decide))).trans (aCh h6)),((cVq (aV _ _ (by decide))).trans (aCh h7)),⟨(cVq (aV _ _ (by decide))).trans (iZ (cVq h704)).1,(congrArg Blk.live (aV _ _ (by decide))).trans (iZ (cVq h704)).2⟩,trivial⟩ ?_
 intro T H ⟨t4,t49,t50,t51,t52,h1,h4,h6,h7,h704,_⟩
 refine W_r (aL t4 h4 rfl rfl (bC rfl rfl (bC rfl rfl (aA rfl (aA rfl (R_e (aN ?_)))))))
 refine eE (rVq (V.sl [[(V.sl [[(iV f.op),(iV 0),(V.sl (List.map cF g))]])]])) (rVq (iV 0)) (cA (by simp) ?_) (aF ?_)
 · rw [aDr (by omega) hc (by omega)]; simp [bR,cCl,bX]; exact ⟨rfl,rfl,rfl⟩
 · rw [aDr (by omega) hc (by omega)]; rfl
theorem aID (f:Fm) (hok:okF f=true) (hz:f.sz≤268435456):aP Tryz.prog 87 [(V.agg [(iV f.op),(iV f.arg),(V.sl (List.map cF f.kids))])] (V.tup [(V.sl (List.map cCl (bR (cls f)))),(iV (gC (cls f)))]):=by
  have key: ∀ (mm:Nat) (f:Fm),f.sz < mm→okF f=true→f.sz≤268435456→aP Tryz.prog 87 [(V.agg [(iV f.op),(iV f.arg),(V.sl (List.map cF f.kids))])] (V.tup [(V.sl (List.map cCl (bR (cls f)))),(iV (gC (cls f)))]):=by
    intro mm
    induction mm with
    |zero=>intro f hlt; exact absurd hlt (Nat.not_lt_zero _)
    | succ mm ih =>
      intro f hlt hok hz
      exact zH f hok hz fun f2 hlt2=>ih f2 (by omega)
  exact key (f.sz+1) f (Nat.lt_succ_self _) hok hz
theorem sR (f:Fm) (hok:okF f=true) (hz:f.sz≤268435456):aP Tryz.prog 36 [(V.agg [(iV f.op),(iV f.arg),(V.sl (List.map cF f.kids))])] (V.tup [(V.agg [(iV ((chk f).1.op)),(iV ((chk f).1.arg)),(V.sl (List.map cF ((chk f).1.kids)))]),(iV ((chk f).2))]):=by
 refine pW Tryz.func36 aND fun hB=>?_
 unfold s36
 dsimp only
 refine W_r (cK (i:=1) (n:=0) (m:=3) (cs:=[(iV f.op),(iV f.arg),(V.sl (List.map cF f.kids))]) rfl (cVq rfl) rfl rfl rfl (bE (i:=2) (n:=0) (m:=3) rfl (cVq rfl) rfl (aA rfl (R_e (W_r (aL rfl rfl rfl rfl (aJ (aDp f hok hz (aID f hok hz)) rfl ?_)))))))
 refine aA rfl (bG rfl rfl (bG rfl rfl (bE (i:=4) (n:=0) (m:=3) rfl (cVq rfl) rfl (bP rfl rfl rfl rfl rfl rfl rfl rfl rfl (aA rfl (R_e (aB ?_)))))))
 refine W_r (aA rfl (cM rfl rfl (R_e ?_)))
 refine aK rfl (fun c1=>?_) fun c1=>?_
 ·
  have d1:=aHs c1
  refine aB (W_r (bI rfl rfl (aA rfl (bP rfl rfl rfl rfl rfl rfl rfl rfl rfl (aA rfl (R_e (aW ?_)))))))
  refine iO (bS (u:=(V.agg [(iV 0),(iV 0),V.nilsl])) rfl (@rfl Blk (bk 1 24 3 [[(iV 0),(iV 0),V.nilsl]])) (lB oB rfl rfl)) (cR (rVq (iV (gC (can f))))) (bV (aF ?_) (aF ?_) (dD ?_)) (aF ?_)
  · rw [d1]; rfl
  · rw [d1]; rfl
  · rw [d1]; rfl
  · rw [d1]
 have d0:=c1
 refine aD (aB (W_r (aL rfl rfl rfl rfl (aJ (gX (iM (can f))) rfl (aA rfl (R_e (aB ?_)))))))
 refine W_r (aA rfl (cM rfl rfl (R_e ?_)))
 refine aK rfl (fun c2=>?_) fun c2=>?_
 ·
  have d1:=aJt d0 c2
  refine aB (W_r (bI rfl rfl (aA rfl (bP rfl rfl rfl rfl rfl rfl rfl rfl rfl (aA rfl (R_e (aW ?_)))))))
  refine iO (bS (u:=(V.agg [(iV 0),(iV 0),V.nilsl])) rfl (@rfl Blk (bk 1 24 3 [[(iV 0),(iV 0),V.nilsl]])) (lB oB rfl rfl)) (cR (rVq (iV (cE (iM (can f)))))) (bV (aF ?_) (aF ?_) (dD ?_)) (aF ?_)
  · rw [d1]; rfl
  · rw [d1]; rfl
  · rw [d1]; rfl
  · rw [d1]
 have d1:=aHc d0 c2
 refine aD (W_r (aL rfl rfl rfl rfl (aJ (aCL (iM (can f)) (iI (by omega))) rfl (bP rfl rfl rfl rfl rfl rfl rfl rfl rfl (aA rfl (R_e (aN ?_)))))))
 refine iO (bS (u:=(V.agg [(iV ((iM (can f)).op)),(iV ((iM (can f)).arg)),(V.sl (List.map cF ((iM (can f)).kids)))])) rfl (@rfl Blk (bk 1 24 3 [[(iV ((iM (can f)).op)),(iV ((iM (can f)).arg)),(V.sl (List.map cF ((iM (can f)).kids)))]])) (lB oB rfl rfl)) (cR (rVq (iV 0))) (bV (aF ?_) (aF ?_) (eI ?_ (fun _=>by simp))) (aF ?_)
 · rw [d1]
 · rw [d1]
 · rw [d1]
 · rw [d1]
def aQf:List SO:=[
 qF 12 2 2,
 ql 13 12,
 sO 14 (.idx 3 (.t 13) (.c (.int .i64 0))),
 qL 15 3 14,
 qM 16 1,
 sO 17 (.un .not (.t 16)),
 sO 18 (.call false 37 [.t 15,.t 17]),
 sN (.store 3 (.t 4) (.t 18))]
def aRu:List SO:=[
 qF 23 0 2,
 ql 24 23,
 qF 25 1 2,
 ql 26 25,
 sO 27 (.build [.int .i64 0,.int .i64 0,.nilsl] [(0,1,.t 24),(1,1,.t 26)]),
 sO 5 (.alloc 24 [.int .i64 0,.int .i64 0,.nilsl]),
 sN (.store 3 (.t 5) (.t 27))]
def aN3:List SO:=[
 qF 47 2 6,
 ql 48 47,
 qL 49 3 8,
 qM 50 1,
 sO 51 (.call false 37 [.t 49,.t 50]),
 sO 52 (.bslice 24 3 false [.int .i64 0,.int .i64 0,.nilsl] 1 [(0,.t 51)]),
 sO 53 (.append 24 3 40 (.t 48) (.t 52)),
 qF 54 2 6,
 sN (.store 1 (.t 54) (.t 53))]
def aHB:SC:=.seq (.reg [qP 44 .lss 43 42]) (.seq (.cond (.t 44) (.skip) (.exit 0)) (.seq (.block 1 (.seq (.reg [qA 45 3 41 43,qL 46 3 45,sO 8 (.alloc 24 [.int .i64 0,.int .i64 0,.nilsl]),sN (.store 3 (.t 8) (.t 46))]) (.reg aN3))) (.reg [qC 55 .add 43 1,qM 43 55])))
def s37:SF:=⟨57,[.cell 4 true 3],.seq (.reg [sO 2 (.box 24 3 (.t 0)),sO 4 (.alloc 24 [.int .i64 0,.int .i64 0,.nilsl])]) (.seq (.seq (.reg [qF 9 0 2,ql 10 9,qC 11 .eql 10 4]) (.cond (.t 11) (.seq (.reg aQf) (.ret)) (.skip))) (.seq (.seq (.reg [qF 19 2 2,ql 20 19,qN 21 20,qC 22 .eql 21 0]) (.cond (.t 22) (.seq (.reg aRu) (.seq (.seq (.reg [qM 28 1]) (.cond (.t 28) (.seq (.reg [qL 29 3 5,sO 30 (.call false 62 [.t 29]),sN (.store 3 (.t 4) (.t 30))]) (.ret)) (.skip))) (.seq (.reg [qL 31 3 5,sN (.store 3 (.t 4) (.t 31))]) (.ret)))) (.skip))) (.seq (.reg [qF 32 0 2,ql 33 32,sO 34 (.build [.int .i64 0,.int .i64 0,.nilsl] [(0,1,.t 33)]),sO 6 (.alloc 24 [.int .i64 0,.int .i64 0,.nilsl]),sN (.store 3 (.t 6) (.t 34))]) (.seq (.seq (.reg [qM 35 1]) (.cond (.t 35) (.reg [qF 36 0 2,ql 37 36,sO 38 (.call false 63 [.t 37]),qF 39 0 6,sN (.store 1 (.t 39) (.t 38))]) (.skip))) (.seq (.seq (.reg [qF 40 2 2,ql 41 40,qN 42 41,qI 43 0]) (.block 0 (.loop aHB))) (.seq (.reg [qL 56 3 6,sN (.store 3 (.t 4) (.t 56))]) (.ret)))))))⟩
theorem aO0:bF Tryz.prog ⟨[51,59,84,90,97,109,153,154,155,160],[],[],[]⟩ Tryz.f37=some s37:=by kernel_rfl
end Go.Proofs.YteehaobohaecmaaGreatDoor
