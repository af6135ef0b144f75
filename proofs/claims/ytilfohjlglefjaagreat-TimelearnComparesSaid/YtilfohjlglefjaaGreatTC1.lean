/- Contracts of the functions that the law TC reaches, and the law itself, for every input; no condition. -/
import Derived.KernelRfl
import Derived.Test.YtilfohjlglefjaaGreatProg
import Derived.Sort.Statements
import Derived.Shelf.SlSortCmp.KitK
import Derived.Test.YtilfohjlglefjaaGreatLay3
set_option linter.unusedSimpArgs false
set_option linter.unusedVariables false
namespace Go.Proofs.YtilfohjlglefjaaGreat
open Go
def fe (e:Nat→Int) (k:Nat):Nat→Int
  |0=>0
  |n+1=>if e k=0 then fe e (k+1) n else e k
theorem iA {e:Nat→Int} {k N:Nat} (h:e k≠0) (hk:k < N):fe e k (N - k)=e k:=by
  obtain ⟨n,hn⟩: ∃ n,N - k=n+1:=⟨N - k - 1,by omega⟩
  rw [hn]; simp [fe,h]
theorem jQ {e:Nat→Int} {k N:Nat} (h:e k=0) (hk:k < N):fe e k (N - k)=fe e (k+1) (N - (k+1)):=by
  obtain ⟨n,hn⟩: ∃ n,N - k=n+1:=⟨N - k - 1,by omega⟩
  rw [hn,show N - (k+1)=n by omega]; simp [fe,h]
theorem lT {e:Nat→Int} {k N:Nat} (hk:N≤k):fe e k (N - k)=0:=by
  rw [show N - k=0 by omega]; rfl
theorem cM {e : Nat → Int} : ∀ {n k : Nat}, fe e k n = 0 ↔ ∀ j, k ≤ j → j < k + n → e j = 0 := by
  intro n
  induction n with
  |zero=>intro k; simp only [fe,true_iff]; intro j h1 h2; omega
  | succ n ih =>
    intro k
    simp only [fe]
    split
    · rename_i h
      rw [ih]
      constructor
      · intro hh j h1 h2
        by_cases hj:j=k
        · subst hj; exact h
        · exact hh j (by omega) (by omega)
      · intro hh j h1 h2; exact hh j (by omega) (by omega)
    · rename_i h
      constructor
      · intro hh; exact (h hh).elim
      · intro hh; exact hh k (Nat.le_refl _) (by omega)
def fi (p:Nat→Bool) (k:Nat):Nat→Int
  |0=> -1
  |n+1=>if p k then k else fi p (k+1) n
theorem aMd {p:Nat→Bool} {k N:Nat} (h:p k=true) (hk:k < N):fi p k (N - k)=k:=by
  obtain ⟨n,hn⟩: ∃ n,N - k=n+1:=⟨N - k - 1,by omega⟩
  rw [hn]; simp [fi,h]
theorem aJJ {p:Nat→Bool} {k N:Nat} (h:p k=false) (hk:k < N):fi p k (N - k)=fi p (k+1) (N - (k+1)):=by
  obtain ⟨n,hn⟩: ∃ n,N - k=n+1:=⟨N - k - 1,by omega⟩
  rw [hn,show N - (k+1)=n by omega]; simp [fi,h]
theorem iE {α:Type} [Inhabited α] {l:List α} {k:Nat} (h:k < l.length):l.take (k+1)=l.take k++[nth l k]:=by
  rw [← aQ h,List.take_succ_eq_append_getElem h]
def wE (w:List Int) (n:Int) (k:Nat):Int:=if nth w k < 0∨n≤nth w k then 1 else 0
def dW (w:List Int) (n:Int):Int:=
  if n < 1∨1024 < n then 2 else if 1024 < w.length then 3 else fe (wE w n) 0 w.length
structure M where
  i:Int
  s:Int
  nx:List (List Int)
  ot:List (List Int)
def cell (l:List (List Int)) (s a:Int):Int:=nth (nth l s.toNat) a.toNat
def uW (m:M) (s a:Nat):Int:=if nth (nth m.nx s) a < 0∨m.nx.length≤nth (nth m.nx s) a∨nth (nth m.ot s) a < 0∨1048576 < nth (nth m.ot s) a then 2 else 0
def oG (m:M) (s:Nat):Int:=
  if ((nth m.nx s).length:Int)≠m.i∨((nth m.ot s).length:Int)≠m.i then 1
  else fe (uW m s) 0 m.i.toNat
def dA (m:M):Int:=
  if m.i < 1∨64 < m.i then 2 else if m.nx.length=0 then 19 else if 128 < m.nx.length then 11 else if m.s < 0∨m.nx.length≤m.s then 2
  else if m.ot.length≠m.nx.length then 1 else fe (oG m) 0 m.nx.length
def bV (m:M):Int→List Int→List Int
  |_,[]=>[]
  |s,a::w=>cell m.ot s a::bV m (cell m.nx s a) w
def nY (m:M):Int→List Int→Int
  |s,[]=>s
  |s,a::w=>nY m (cell m.nx s a) w
theorem aBA (m:M): ∀ (w:List Int) (s:Int),(bV m s w).length=w.length
  |[],_=>rfl
  |a::w,s=>by simp [bV,aBA m w]
theorem jX (m:M): ∀ (u v:List Int) (s:Int),bV m s (u++v)=bV m s u++bV m (nY m s u) v
  |[],_,_=>rfl
  |a::u,v,s=>by simp [bV,nY,jX m u v]
theorem mG (m:M): ∀ (u v:List Int) (s:Int),nY m s (u++v)=nY m (nY m s u) v
  |[],_,_=>rfl
  |a::u,v,s=>by simp [nY,mG m u v]
theorem gR {m:M} (h:dA m=0):1≤m.i∧m.i≤64∧0 < m.nx.length∧m.nx.length≤128∧0≤m.s∧m.s < m.nx.length∧m.ot.length=m.nx.length∧
    (∀ s,s < m.nx.length→((nth m.nx s).length:Int)=m.i∧((nth m.ot s).length:Int)=m.i∧ ∀ a:Nat,a < m.i→0≤nth (nth m.nx s) a∧nth (nth m.nx s) a < m.nx.length∧0≤nth (nth m.ot s) a∧nth (nth m.ot s) a≤1048576):=by
  unfold dA at h
  split at h; · cases h
  rename_i h1
  split at h; · cases h
  rename_i h2
  split at h; · cases h
  rename_i h3
  split at h; · cases h
  rename_i h4
  split at h; · cases h
  rename_i h5
  refine ⟨by omega,by omega,by omega,by omega,by omega,by omega,by omega,fun s hs=>?_⟩
  have h6:=cM.1 h s (Nat.zero_le _) (by omega)
  unfold oG at h6
  split at h6; · cases h6
  rename_i h7
  refine ⟨by omega,by omega,fun a ha=>?_⟩
  have h8:=cM.1 h6 a (Nat.zero_le _) (by omega)
  unfold uW at h8
  split at h8
  · cases h8
  · omega
theorem qK {w:List Int} {n:Int} (h:dW w n=0):w.length≤1024∧ ∀ k,k < w.length→0≤nth w k∧nth w k < n:=by
  unfold dW at h
  split at h; · cases h
  split at h; · cases h
  refine ⟨by omega,fun k hk=>?_⟩
  have:=cM.1 h k (Nat.zero_le _) (by omega)
  unfold wE at this
  split at this
  · cases this
  · omega
structure Hy where
  m:M
  acc:List (List Int)
abbrev hC (h:Hy):List V:=[iV h.m.i,iV h.m.s,aB h.m.nx,aB h.m.ot,aB h.acc]
abbrev hV (h:Hy):V:=.agg (hC h)
abbrev hB (h:Hy):Blk:=⟨1,true,false,26,5,[hC h]⟩
def aSP (h:Hy) (s:Nat):Int:=
  if dW (nth h.acc s) h.m.i≠0 then dW (nth h.acc s) h.m.i else if nY h.m h.m.s (nth h.acc s)≠s then 15 else 0
def tB (h:Hy):Int:=
  if dA h.m≠0 then dA h.m else if h.acc.length≠h.m.nx.length then 1
  else if fe (aSP h) 0 h.acc.length≠0 then fe (aSP h) 0 h.acc.length else if (nth h.acc h.m.s.toNat).length≠0 then 10 else 0
end Go.Proofs.YtilfohjlglefjaaGreat
namespace Go.Proofs.YtilfohjlglefjaaGreat
open Go
def cmn:List Int→List Int→Nat
  |a::l,b::m=>if a=b then cmn l m+1 else 0
  |_,_=>0
theorem eE {α:Type} [Inhabited α] (a:α) (l:List α):nth (a::l) 0=a:=rfl
theorem kN {α:Type} [Inhabited α] (a:α) (l:List α) (k:Nat):nth (a::l) (k+1)=nth l k:=rfl
theorem dO: ∀ (a b:List Int),cmn a b≤a.length∧cmn a b≤b.length∧(∀ j,j < cmn a b→nth a j=nth b j)∧(cmn a b < a.length→cmn a b < b.length→nth a (cmn a b)≠nth b (cmn a b))
  |[],b=>by simp [cmn]
  |a::l,[]=>by simp [cmn]
  | a :: l, b :: m => by
    obtain ⟨h1,h2,h3,h4⟩:=dO l m
    by_cases e:a=b
    · subst e
      simp only [cmn,if_true,List.length_cons]
      refine ⟨by omega,by omega,fun j hj=>?_,fun g1 g2=>by simpa [kN] using h4 (by omega) (by omega)⟩
      cases j with
      |zero=>rfl
      |succ j=>simpa [kN] using h3 j (by omega)
    · simp only [cmn,if_neg e,List.length_cons]
      exact ⟨by omega,by omega,fun j hj=>by omega,fun _ _=>e⟩
theorem pP (a b:List Int):cmn a b≤a.length:=(dO a b).1
theorem wZ (a b:List Int):cmn a b≤b.length:=(dO a b).2.1
theorem mF {a b:List Int} {k:Nat} (hc:k≤cmn a b) (ha:k < a.length) (hb:k < b.length) (e:nth a k=nth b k):k+1≤cmn a b:=by
  obtain ⟨h1,h2,h3,h4⟩:=dO a b
  by_cases h:k=cmn a b
  · subst h; exact (h4 ha hb e).elim
  · omega
theorem iK {a b:List Int} {k:Nat} (hc:k≤cmn a b) (h:a.length≤k∨b.length≤k∨nth a k≠nth b k):cmn a b=k:=by
  obtain ⟨h1,h2,h3,h4⟩:=dO a b
  by_cases e:k=cmn a b
  · exact e.symm
  · have h5:=h3 k (by omega)
    rcases h with h|h|h
    · omega
    · omega
    · exact (h h5).elim
theorem gN (a b:List Int):cmn a b=cmn b a:=by
  obtain ⟨h1,h2,h3,h4⟩:=dO b a
  refine iK ?_ ?_
  · have: ∀ k,k≤cmn b a→k≤cmn a b:=by
      intro k
      induction k with
      |zero=>intro _; exact Nat.zero_le _
      |succ k ih=>intro h; exact mF (ih (by omega)) (by omega) (by omega) (h3 k (by omega)).symm
    exact this _ (Nat.le_refl _)
  · by_cases g1:a.length≤cmn b a
    · exact .inl g1
    · by_cases g2:b.length≤cmn b a
      · exact .inr (.inl g2)
      · exact .inr (.inr fun e=>h4 (by omega) (by omega) e.symm)
theorem aGt (a:List Int):cmn a a=a.length:=by
  induction a with
  |nil=>rfl
  |cons x l ih=>simp [cmn,ih]
theorem kQ {α:Type} [Inhabited α] {l:List α} {n j:Nat} (h:j < n):nth (l.take n) j=nth l j:=by
  simp only [nth,List.getD_eq_getElem?_getD,List.getElem?_take,if_pos h]
theorem rO {α:Type} [Inhabited α] {l:List α} {n j:Nat}:nth (l.drop n) j=nth l (n+j):=by
  simp only [nth,List.getD_eq_getElem?_getD,List.getElem?_drop]
theorem bT {α:Type} [Inhabited α] {l m:List α} {j:Nat} (h:j < l.length):nth (l++m) j=nth l j:=by
  simp only [nth,List.getD_eq_getElem?_getD,List.getElem?_append_left h]
theorem dJ {α:Type} [Inhabited α] {l m:List α} {j:Nat}:nth (l++m) (l.length+j)=nth m j:=by
  simp only [nth,List.getD_eq_getElem?_getD,List.getElem?_append_right (Nat.le_add_right _ _),Nat.add_sub_cancel_left]
theorem aDv {α β:Type} [Inhabited α] [Inhabited β] {f:α→β} {l:List α} {j:Nat} (h:j < l.length):nth (l.map f) j=f (nth l j):=by
  rw [← aQ (by simpa using h),← aQ h,List.getElem_map]
theorem bH {α:Type} [Inhabited α] {l:List α} {j:Nat} (h:j < l.length):nth l j∈l:=by
  rw [← aQ h]; exact List.getElem_mem h
theorem dQ {α:Type} [Inhabited α] {l:List α} {x:α} (h:x∈l): ∃ j,j < l.length∧nth l j=x:=by
  obtain ⟨j,hj,e⟩:=List.getElem_of_mem h
  exact ⟨j,hj,by rw [← aQ hj]; exact e⟩
theorem kD {α:Type} [Inhabited α] {l m:List α} (h1:l.length=m.length) (h2: ∀ j,j < l.length→nth l j=nth m j):l=m:=by
  refine List.ext_getElem h1 fun j g1 g2=>?_
  rw [aQ g1,aQ g2]; exact h2 j g1
def bC (a b:List Int):Int:=
  if cmn a b=a.length∧cmn a b=b.length then 0
  else if cmn a b=a.length∨(cmn a b < b.length∧nth a (cmn a b) < nth b (cmn a b)) then -1 else 1
def slx (a b:List Int):Int:=if a.length < b.length then -1 else if b.length < a.length then 1 else bC a b
def qO (x y:Int):Int:=if x < y then -1 else if y < x then 1 else 0
def orI:List Int→Int
  |[]=>0
  |x::l=>if x=0 then orI l else x
theorem aBF {l:List Int} {k:Nat} (h:k < l.length):orI (l.drop k)=if nth l k=0 then orI (l.drop (k+1)) else nth l k:=by
  rw [aA5 h]; rfl
theorem yG {x y:Int}:qO x y=0↔x=y:=by
  unfold qO; split
  · omega
  · split <;> omega
theorem aEx {a b:List Int} (h1:cmn a b=a.length) (h2:cmn a b=b.length):a=b:=
  kD (by omega) fun j hj=>(dO a b).2.2.1 j (by omega)
theorem cA {a b:List Int}:bC a b=0↔a=b:=by
  unfold bC
  constructor
  · intro h
    split at h
    · rename_i g; exact aEx g.1 g.2
    · split at h <;> omega
  · intro e; subst e; rw [aGt]; simp
theorem eM {a b:List Int}:slx a b=0↔a=b:=by
  unfold slx
  split
  · rename_i h; constructor
    · intro h; omega
    · intro e; subst e; omega
  · split
    · rename_i h; constructor
      · intro h; omega
      · intro e; subst e; omega
    · exact cA
theorem vW {a b:List Int} (h:bC a b < 0):0 < bC b a:=by
  unfold bC at h ⊢
  obtain ⟨h1,h2,h3,h4⟩:=dO a b
  rw [gN b a]
  split at h
  · omega
  · split at h
    · rename_i g1 g2
      rw [if_neg (by omega),if_neg (by omega)]; omega
    · omega
theorem aAr {a b:List Int} (h:slx a b < 0):0 < slx b a:=by
  unfold slx at h ⊢
  split at h
  · rw [if_neg (by omega),if_pos (by omega)]; omega
  · split at h
    · omega
    · rw [if_neg (by omega),if_neg (by omega)]; exact vW h
theorem aBl (a b:List Int):bC a b=0∨bC a b= -1∨bC a b=1:=by
  unfold bC; split
  · simp
  · split <;> simp
theorem oN {a b:List Int} (h:0 < bC a b):bC b a < 0:=by
  unfold bC at h ⊢
  obtain ⟨h1,h2,h3,h4⟩:=dO a b
  rw [gN b a]
  split at h
  · omega
  · split at h
    · omega
    · rename_i g1 g2
      rw [if_neg (by omega),if_pos]; · omega
      by_cases g3:cmn a b=b.length
      · exact .inl g3
      · have:=h4 (by omega) (by omega); right; omega
theorem aJM {a b:List Int} (h:0 < slx a b):slx b a < 0:=by
  unfold slx at h ⊢
  split at h
  · omega
  · split at h
    · rw [if_pos (by omega)]; omega
    · rw [if_neg (by omega),if_neg (by omega)]; exact oN h
theorem oW {a b c:List Int}:min (cmn a b) (cmn b c)≤cmn a c:=by
  have: ∀ k,k≤min (cmn a b) (cmn b c)→k≤cmn a c:=by
    intro k
    induction k with
    |zero=>intro _; exact Nat.zero_le _
    | succ k ih =>
      intro h
      obtain ⟨g1,g2,g3,_⟩:=dO a b
      obtain ⟨f1,f2,f3,_⟩:=dO b c
      exact mF (ih (by omega)) (by omega) (by omega) ((g3 k (by omega)).trans (f3 k (by omega)))
  exact this _ (Nat.le_refl _)
theorem jE {a b c : List Int} (h1 : bC a b < 0) (h2 : bC b c < 0) : bC a c < 0 := by
  obtain ⟨g1,g2,g3,g4⟩:=dO a b
  obtain ⟨f1,f2,f3,f4⟩:=dO b c
  obtain ⟨e1,e2,e3,e4⟩:=dO a c
  have m:=oW (a:=a) (b:=b) (c:=c)
  unfold bC at h1 h2 ⊢
  split at h1; · omega
  split at h1
  · split at h2; · omega
    split at h2
    · rename_i p1 p2 p3 p4
      by_cases q:cmn a b < cmn b c
      · -- the first difference is that of a and b
        have hb:cmn a b < b.length:=by omega
        have e:cmn a c=cmn a b:=by
          refine iK (by omega) ?_
          by_cases r:a.length≤cmn a b
          · exact .inl r
          · refine .inr (.inr ?_)
            rw [← f3 _ q]; exact g4 (by omega) hb
        rw [if_neg (by omega),if_pos]; · omega
        rw [e]
        by_cases r:cmn a b=a.length
        · exact .inl r
        · right
          refine ⟨by omega,?_⟩
          rw [← f3 _ q]
          omega
      · by_cases q':cmn b c < cmn a b
        · have e:cmn a c=cmn b c:=by
            refine iK (by omega) ?_
            by_cases r:c.length≤cmn b c
            · exact .inr (.inl r)
            · refine .inr (.inr ?_)
              rw [g3 _ q']; exact f4 (by omega) (by omega)
          rw [if_neg (by omega),if_pos]; · omega
          rw [e]; right
          refine ⟨by omega,?_⟩
          rw [g3 _ q']; omega
        · have e0:cmn a b=cmn b c:=by omega
          by_cases r:cmn a b=a.length
          · rw [if_neg,if_pos]; · omega
            · left; omega
            · intro hh
              omega
          · have hlt:nth a (cmn a b) < nth c (cmn a b):=by
              have x1:nth a (cmn a b) < nth b (cmn a b):=by omega
              have x2:nth b (cmn a b) < nth c (cmn a b):=by rw [e0] at x1 ⊢; omega
              omega
            have e:cmn a c=cmn a b:=iK (by omega) (.inr (.inr (by omega)))
            rw [if_neg (by omega),if_pos]; · omega
            right; rw [e]; exact ⟨by omega,hlt⟩
    · omega
  · omega
theorem kR {a b c : List Int} (h1 : slx a b < 0) (h2 : slx b c < 0) : slx a c < 0 := by
  unfold slx at h1 h2 ⊢
  split at h1
  · split at h2
    · rw [if_pos (by omega)]; omega
    · split at h2
      · omega
      · rw [if_pos (by omega)]; omega
  · split at h1
    · omega
    · split at h2
      · rw [if_pos (by omega)]; omega
      · split at h2
        · omega
        · rw [if_neg (by omega),if_neg (by omega)]; exact jE h1 h2
theorem aMz {a b c:List Int} (h1:slx a b≤0) (h2:slx b c≤0):slx a c≤0:=by
  by_cases e1:slx a b=0
  · rw [eM.1 e1]; exact h2
  · by_cases e2:slx b c=0
    · rw [← eM.1 e2]; exact h1
    · have:=kR (a:=a) (b:=b) (c:=c) (by omega) (by omega); omega
theorem aBU {a b:List Int} (h1:slx a b≤0) (h2:slx b a≤0):a=b:=by
  by_cases e:slx a b=0
  · exact eM.1 e
  · have:=aAr (a:=a) (b:=b) (by omega); omega
def exB (p:Nat→Bool) (k:Nat):Nat→Bool
  |0=>false
  |n+1=>exB p k n||p (k+n)
structure Tr where
  ni:List Int
  no:List Int
  deriving Inhabited
abbrev cT (t:Tr):List V:=[aY t.ni,aY t.no]
@[simp] theorem aKP (l:List Tr):cV (l.map cT)=true:=dL _ _ fun a=>by simp [cT]
structure Ob where
  i:Int
  tr:List Tr
  deriving Inhabited
def hp (w p:List Int):Bool:=decide (cmn w p=p.length)
theorem zA {w p:List Int}:hp w p=true↔ ∃ x,w=p++x:=by
  simp only [hp,decide_eq_true_eq]
  constructor
  · intro h
    refine ⟨w.drop p.length,?_⟩
    have e:w.take p.length=p:=by
      have hl:=pP w p
      refine kD (by simp; omega) fun j hj=>?_
      simp at hj
      rw [kQ (by omega)]
      exact (dO w p).2.2.1 j (by omega)
    conv=>lhs; rw [← List.take_append_drop p.length w,e]
  · rintro ⟨x,rfl⟩
    refine iK ?_ (.inr (.inl (Nat.le_refl _)))
    have: ∀ k,k≤p.length→k≤cmn (p++x) p:=by
      intro k
      induction k with
      |zero=>intro _; exact Nat.zero_le _
      |succ k ih=>intro h; exact mF (ih (by omega)) (by simp; omega) (by omega) (bT (by omega))
    exact this _ (Nat.le_refl _)
def aTS (t:Tr) (k:Nat):Int:=if nth t.no k < 0∨1048576 < nth t.no k then 2 else 0
def prE (t:Tr) (n:Int):Int:=if dW t.ni n≠0 then dW t.ni n else if t.no.length≠t.ni.length then 1 else fe (aTS t) 0 t.no.length
def dfE (a b:Tr) (k:Nat):Bool:=decide (nth a.no k≠nth b.no k)
def df (a b:Tr):Int:=fi (dfE a b) 0 (cmn a.ni b.ni)
def trE (o:Ob) (k:Nat):Int:=
  if dW (nth o.tr k).ni o.i≠0 then dW (nth o.tr k).ni o.i else if (nth o.tr k).ni.length=0 then 19 else if prE (nth o.tr k) o.i≠0 then prE (nth o.tr k) o.i
  else if 0 < k∧0≤slx (nth o.tr (k - 1)).ni (nth o.tr k).ni then 10 else 0
def aTH (o:Ob) (i k:Nat):Bool:=hp (nth o.tr k).ni (nth o.tr i).ni
def aTO (o:Ob) (i k:Nat):Bool:=decide (0≤df (nth o.tr i) (nth o.tr k))
def apE (o:Ob) (i:Nat):Int:=if exB (aTH o i) (i+1) (o.tr.length - (i+1))=true then 7 else if exB (aTO o i) (i+1) (o.tr.length - (i+1))=true then 13 else 0
def aTy (o:Ob):Int:=
  if o.i < 1∨64 < o.i then 2 else if 10000 < o.tr.length then 11 else if fe (trE o) 0 o.tr.length≠0 then fe (trE o) 0 o.tr.length else fe (apE o) 0 o.tr.length
structure Proper (t:Tr) (n:Int):Prop where
  len:t.no.length=t.ni.length
  lel:t.ni.length≤1024
  sym: ∀ k,k < t.ni.length→0≤nth t.ni k∧nth t.ni k < n
  out: ∀ k,k < t.no.length→0≤nth t.no k∧nth t.no k≤1048576
theorem aAl {p : Nat → Bool} : ∀ {n k : Nat}, 0 ≤ fi p k n ↔ ∃ j, k ≤ j ∧ j < k + n ∧ p j = true
  |0,k=>by simp [fi]; omega
  | n + 1, k => by
    simp only [fi]
    split
    · rename_i h
      constructor
      · intro _; exact ⟨k,by omega,by omega,h⟩
      · intro _; omega
    · rename_i h
      rw [aAl]
      constructor
      · rintro ⟨j,h1,h2,h3⟩; exact ⟨j,by omega,by omega,h3⟩
      · rintro ⟨j,h1,h2,h3⟩
        by_cases e:j=k
        · subst e; exact (h h3).elim
        · exact ⟨j,by omega,by omega,h3⟩
theorem aCH {p:Nat→Bool}: ∀ {n k:Nat},0≤fi p k n→k≤(fi p k n).toNat∧(fi p k n).toNat < k+n∧p (fi p k n).toNat=true∧ ∀ j,k≤j→j < (fi p k n).toNat→p j=false
  |0,k=>by simp [fi]
  | n + 1, k => by
    simp only [fi]
    split
    · rename_i h; intro _; simp only [Int.toNat_natCast]; exact ⟨by omega,by omega,h,fun j h1 h2=>by omega⟩
    · rename_i h
      intro h0
      obtain ⟨h1,h2,h3,h4⟩:=aCH h0
      refine ⟨by omega,by omega,h3,fun j g1 g2=>?_⟩
      by_cases e:j=k
      · subst e; simpa using h
      · exact h4 j (by omega) g2
theorem aCO {a b:Tr}:0≤df a b↔ ∃ j,j < cmn a.ni b.ni∧nth a.no j≠nth b.no j:=by
  unfold df
  rw [aAl]
  constructor
  · rintro ⟨j,_,h2,h3⟩; exact ⟨j,by omega,by simpa [dfE] using h3⟩
  · rintro ⟨j,h2,h3⟩; exact ⟨j,by omega,by omega,by simpa [dfE] using h3⟩
structure OK (o:Ob):Prop where
  hi:1≤o.i∧o.i≤64
  len:o.tr.length≤10000
  pr: ∀ k,k < o.tr.length→Proper (nth o.tr k) o.i∧0 < (nth o.tr k).ni.length
  ord: ∀ k,k+1 < o.tr.length→slx (nth o.tr k).ni (nth o.tr (k+1)).ni < 0
  pre: ∀ i k,i < k→k < o.tr.length→hp (nth o.tr k).ni (nth o.tr i).ni=false
  cla: ∀ i k,i < k→k < o.tr.length→df (nth o.tr i) (nth o.tr k) < 0
def aTL (o:Ob) (k:Nat):Int:=if 100 < (nth o.tr k).ni.length∨100 < (nth o.tr k).no.length then 1 else 0
def ogr (o:Ob):Prop:=60 < o.tr.length∨fe (aTL o) 0 o.tr.length≠0
instance (o:Ob):Decidable (ogr o):=inferInstanceAs (Decidable (_∨_))
def cat:List (List Int)→List Int
  |[]=>[]
  |w::l=>w++cat l
theorem nW: ∀ (l m:List (List Int)),cat (l++m)=cat l++cat m
  |[],_=>rfl
  |w::l,m=>by simp [cat,nW l m]
theorem dR {l:List (List Int)} {k:Nat} (h:k < l.length):cat (l.take (k+1))=cat (l.take k)++nth l k:=by
  rw [iE h,nW]; simp [cat]
theorem rZ {l:List (List Int)} {k:Nat} (h:k < l.length):(cat (l.take k)).length+(nth l k).length≤(cat l).length:=by
  have e:cat l=cat (l.take (k+1))++cat (l.drop (k+1)):=by rw [← nW,List.take_append_drop]
  rw [e,dR h]; simp
def aTG (a b:List Int):Nat:=if cmn a b < min a.length b.length then cmn a b else 0
theorem yB {w:List Int} {n:Int} (hn:1≤n∧n≤1024) (hl:w.length≤1024) (hs: ∀ k,k < w.length→0≤nth w k∧nth w k < n):dW w n=0:=by
  rw [dW,if_neg (by omega),if_neg (by omega)]
  exact cM.2 fun j h1 h2=>by
    have:=hs j (by omega)
    rw [wE,if_neg (by omega)]
end Go.Proofs.YtilfohjlglefjaaGreat
namespace Go.Proofs.YtilfohjlglefjaaGreat
open Go
section
variable {P:Program} {T:Nat→V} {H:aH}
theorem fT {t:Nat} {u:V} (h:T t=u):mC T H (.tmp t)=some u:=by rw [← h]; rfl
theorem hY {t m id ver row off:Nat} {g:Bool} {u:V} {B:Blk} (ha:T t=.mp id ver row off) (hH:H id=B) (hl:ldB g m B ver row off=some u):mC T H (.cell t g m)=some u:=by
  subst hH
  simp only [mC,ha,ptr]
  unfold ldB at hl
  split at hl
  · rename_i hc
    rw [if_pos (show ok H id ver=true from hc)]
    cases hr:(H id).rows[row]? with
    |none=>rw [hr] at hl; cases hl
    |some w=>rw [hr] at hl; exact hl
  · cases hl
theorem kG {s1 s2:SRes} {u1 u2 v1 v2:V} {n:Nat} (h1:mC T H s1=some u1) (h2:mC T H s2=some u2) (g1:fzv true H n u1=v1) (g2:fzv true H n u2=v2):Ret [s1,s2] (fun u G=>fzv true G (n+1) u=.tup [v1,v2]) .ret T H:=by
  simp only [Ret,nR,fL,h1,h2,dB,fzv,List.map_cons,List.map_nil,g1,g2]
theorem aCU {s1 s2 s3:SRes} {u1 u2 u3 v1 v2 v3:V} {n:Nat} (h1:mC T H s1=some u1) (h2:mC T H s2=some u2) (h3:mC T H s3=some u3) (g1:fzv true H n u1=v1) (g2:fzv true H n u2=v2) (g3:fzv true H n u3=v3):Ret [s1,s2,s3] (fun u G=>fzv true G (n+1) u=.tup [v1,v2,v3]) .ret T H:=by
  simp only [Ret,nR,fL,h1,h2,h3,dB,fzv,List.map_cons,List.map_nil,g1,g2,g3]
theorem iO {n:Nat} {l m:List V} (h:l.map (fzv true H n)=m):fzv true H (n+1) (.agg l)=.agg m:=by subst h; rfl
theorem aDb {n:Nat} {u1 u2 v1 v2:V} (g1:fzv true H n u1=v1) (g2:fzv true H n u2=v2):fzv true H (n+1) (.agg [u1,u2])=.agg [v1,v2]:=by
  simp only [fzv,List.map_cons,List.map_nil,g1,g2]
end
end Go.Proofs.YtilfohjlglefjaaGreat
namespace Go.Proofs.YtilfohjlglefjaaGreat
open Go
def jL (b b':Blk):Prop:=b.ver≤b'.ver∧(b'.live=false∨b'={b with ver:=b'.ver})
def wG (H H':aH):Prop:= ∀ j,jL (H j) (H' j)
def fA (S:List Nat) (H H':aH):Prop:= ∀ j,j∉S→jL (H j) (H' j)
theorem jL.refl (b:Blk):jL b b:=⟨Nat.le_refl _,.inr rfl⟩
theorem fA.start {S:List Nat} {H Hi:aH} (h: ∀ j,j∉S→H j=Hi j):fA S H Hi:=fun j hj=>by rw [h j hj]; exact .refl _
theorem fA.put {S:List Nat} {H H':aH} {i:Nat} {b B:Blk} (h:fA (i::S) H H') (hi:H i=b) (hB:jL b B):fA S H (upd H' i B):=fun j hj=>by
  by_cases e:j=i
  · subst e; rw [aE,hi]; exact hB
  · rw [aF _ _ e]; exact h j (by simp [e,hj])
theorem fA.fin {H H':aH} (h:fA [] H H'):wG H H':=fun j=>h j (by simp)
theorem jL.eq {b B:Blk} (h:b=B):jL b B:=h ▸ .refl _
theorem jL.up {v n:Nat} {l z:Bool} {ty:TypeId} {sz:Nat} {rows rows':List (List V)} (h:v≤n) (hr:rows=rows'):jL ⟨v,l,z,ty,sz,rows⟩ ⟨n,l,z,ty,sz,rows'⟩:=⟨h,.inr (by subst hr; rfl)⟩
theorem jL.own {b b':Blk} (h:jL b b') (ho:b'.own=true):b'={b with ver:=b'.ver}∧b.own=true:=by
  rcases h.2 with h1|h1
  · have:=dN ho; rw [h1] at this; cases this
  · refine ⟨h1,?_⟩
    rw [h1] at ho; exact ho
def wC (x:Cx) (H':aH):Cx:={x with Z:=fun b=>x.Z b∨ ∃ j,(x.H j).own=true∧(H' j).live=false∧b=x.σ j,H:=H'}
theorem pN {x : Cx} (hx : Inv x) {H' : aH} (h : wG x.H H') : Inv (wC x H') ∧ Frame x (wC x H') := by
  generalize hy:wC x H'=y
  have ew:y.w=x.w:=by rw [← hy]; rfl
  have eh:y.H=H':=by rw [← hy]; rfl
  have es:y.σ=x.σ:=by rw [← hy]; rfl
  have ez: ∀ b,y.Z b↔x.Z b∨ ∃ j,(x.H j).own=true∧(H' j).live=false∧b=x.σ j:=fun b=>by rw [← hy]; exact Iff.rfl
  have hf:Frame x y:=by
    refine ⟨by rw [ew],by rw [ew],by rw [ew],by rw [ew]; exact Nat.le_refl _,fun _ _ _=>by rw [ew],fun b h=>(ez b).2 (.inl h),fun b hb=>?_,fun i=>?_,fun i ho=>?_,by rw [ew]; exact Nat.le_refl _,fun i hl hv=>by
      have e:H' i=x.H i:=by
        rw [eh] at hl hv
        rcases (h i).2 with h1|h1
        · rw [h1] at hl; cases hl
        · rw [h1]; show ({x.H i with ver:=(H' i).ver}:Blk)=x.H i; rw [hv]
      rw [eh,e]⟩
    · rcases (ez b).1 hb with h1|⟨j,h1,_,h3⟩
      · exact .inl h1
      · exact .inr (.inr ⟨j,h1,h3.symm⟩)
    rotate_left
    · rw [eh] at ho; rw [es]; exact .inl ⟨((h i).own ho).2,rfl⟩
    rw [eh,es,ew]
    refine ⟨(h i).1,fun hl hv=>?_⟩
    have e:H' i=x.H i:=by
      rcases (h i).2 with h1|h1
      · have:(H' i).live=true:=hl
        rw [h1] at this; cases this
      · rw [h1]; show ({x.H i with ver:=(H' i).ver}:Blk)=x.H i; rw [show (H' i).ver=(x.H i).ver from hv]
    simp only [e]
    have hl':(x.H i).live=true:=by rw [← e]; exact hl
    exact ⟨hl',trivial,trivial,fun _=>trivial,fun _=>⟨trivial,trivial⟩⟩
  refine ⟨⟨fun b hb=>?_,fun b i hb ho=>?_,fun i ho=>?_,fun i j hi hj he=>?_,hx.tab_of hf⟩,hf⟩
  · rw [ew]
    rcases (ez b).1 hb with h1|⟨j,h1,_,h3⟩
    · exact hx.zlt b h1
    · rw [h3]; exact hx.lt h1
  · rw [eh] at ho; rw [es]
    have ho':=((h i).own ho).2
    rcases (ez b).1 hb with h1|⟨j,h1,h2,h3⟩
    · exact hx.zown b i h1 ho'
    · intro q
      have:=hx.inj i j ho' h1 (q.trans h3)
      subst this
      have:=dN ho; rw [h2] at this; cases this
  rotate_left
  · rw [eh] at hi hj; rw [es] at he
    exact hx.inj i j ((h i).own hi).2 ((h j).own hj).2 he
  rw [eh] at ho
  obtain ⟨e,ho'⟩:=(h i).own ho
  obtain ⟨dd,h1,h2,h3,h4⟩:=hx.blk i ho'
  have e1:(y.H i).rows=(x.H i).rows:=by rw [eh,e]
  have e2:(y.H i).sz=(x.H i).sz:=by rw [eh,e]
  have e3:(y.H i).obj dd=(x.H i).obj dd:=by rw [eh,e]; rfl
  rw [e1,e2,ew,es]
  exact ⟨dd,by rw [e3]; exact h1,h2,h3,fun r row j v hr hj=>(h4 r row j v hr hj).frame hx hf⟩
def fG (H H':aH) (v v':V):Prop:= ∀ (x:Cx) (c:Value),x.H=H→Inv x→R x v c→R (wC x H') v' c
theorem fG.same {H H':aH} (h:wG H H') (v:V):fG H H' v v:=fun x c e hx r=>by
  subst e; exact r.frame hx (pN hx h).2
theorem fG.nil {H H':aH}:fG H H' .nilsl (.sl []):=fun x c e hx r=>by
  cases r; exact .slnil
theorem fG.ms {H H':aH} (h:wG H H') {id ver n off len:Nat} (hl:(H id).live=true) (hv:(H id).ver=ver) (hl':(H' id).live=true) (hv':(H' id).ver=n):fG H H' (.ms id ver off len) (.ms id n off len):=fun x c e hx r=>by
  subst e
  have e:H' id={x.H id with ver:=n}:=by
    rcases (h id).2 with h1|h1
    · rw [h1] at hl'; cases hl'
    · rw [hv'] at h1; exact h1
  cases r with
  | ms id ver off len b m cap hv1 hh hm =>
    refine .ms _ _ _ _ _ _ _ (by rw [show (wC x H').H id=H' id from rfl,hv']; exact Nat.le_refl _) (fun _ _=>?_) fun _ _=>by
      have:=hm hv hl
      simp only [wC,e]
      exact this
    have:=hh hv hl
    simp only [wC,e]
    exact this
theorem fG.frz {H H' : aH} (h : wG H H') {id ver len : Nat} {rows : List (List V)} (hl : (H id).live = true) (hv : (H id).ver = ver) (hd : (H' id).live = false) (hr : (H id).rows.take len = rows) : fG H H' (.ms id ver 0 len) (.sl rows) := fun x c e hx r => by
  subst e
  have hf:=(pN hx h).2
  subst hr
  cases r with
  | ms id ver off len b m cap hv1 hh hnm =>
    obtain ⟨e1,e2,e3,e4,e5,e6⟩:=hh hv hl
    subst e1
    rw [Nat.zero_add] at e4
    have hlen:((x.H id).rows.take m).length=m:=by simp; omega
    cases ho:(x.H id).own with
    | false =>
      have e8:=e6 ho
      have hm:m=0:=by omega
      subst hm; subst e8
      simpa using R.sl0 _
    | true =>
      obtain ⟨e7,e8⟩:=e5 ho
      subst e7
      obtain ⟨cc,h1,h2,h3,h4⟩:=hx.cel id ho (hnm hv hl)
      have hidx: ∀ (r:Nat) (row:List V),((x.H id).rows.take m)[r]?=some row→(x.H id).rows[r]?=some row:=by
        intro r row hr
        simp only [List.getElem?_take] at hr
        split at hr
        · exact hr
        · cases hr
      have key:=R.sl (x:=wC x H') ((x.H id).rows.take m) ⟨x.σ id,0,none⟩ cap (x.H id).sz
        (fun k=>cc.getD k undef) (by omega) e3 (fun _=>.inr ⟨id,ho,hd,rfl⟩)
        (fun r hr=>h2 r (List.mem_of_mem_take hr))
        (fun r row q v hr hj=>by
          have h8:=hidx _ _ hr
          have h9:=(eF h2 h3 h8 hj).1
          rw [Addr.add_lit]
          show x.w.cell? _=_
          rw [gS h1 (by omega)]
          simp)
        (fun r row q v hr hj=>(h4 _ _ _ _ (hidx _ _ hr) hj).frame hx hf)
      rw [hlen] at key
      simpa using key
theorem fG.trans_eq {H H':aH} {a b b':V} (h:fG H H' a b) (e:b=b'):fG H H' a b':=e ▸ h
section
variable {P:Program} {op:Opt} {k0:Nat}
theorem zB {f : Nat} {fn : Func} {s : SF} (hf : P.funcs[f]? = some fn) (hs : aN P op fn = some s) (hn : (fn.name == "runtime.NumGoroutine") = false) {args : List V} {H : aH} {v : V} {H' : aH}
    (hl:args.length≤s.n) (hW:iH args=true→W P k0 s.body (Ret s.res fun u G=>wG G H'∧fG G H' u v) (T0 args) H):dM P f args H v H':=by
  refine ⟨jT hf hs hn,fun x cs hxH hx hr=>?_⟩
  subst hxH
  refine (oM hf hs hl (hW hr.bnd) hx hr).mono fun e w' h=>?_
  obtain ⟨c,u,y,h1,h2,⟨h3,h4⟩,h5,h6,h7⟩:=h
  obtain ⟨z1,z2⟩:=pN h5 h3
  exact ⟨c,wC y H',h1,h2,rfl,z1,h4 y c rfl h5 h6,h7.trans z2⟩
variable {T:Nat→V} {H H':aH}
theorem jN {t:Nat} {u v:V} (h:T t=u) (hH:wG H H') (hv:fG H H' u v):Ret [.tmp t] (fun u G=>wG G H'∧fG G H' u v) .ret T H:=by
  simp only [Ret,nR,fL,mC,h,dB]; exact ⟨hH,hv⟩
end
end Go.Proofs.YtilfohjlglefjaaGreat
namespace Go.Proofs.YtilfohjlglefjaaGreat
open Go
section
variable {P:Program} {k0:Nat} {K:(Nat→V)→aH→Prop} {T:Nat→V} {H:aH} {r:List SO} {d:Nat} {a b c:SX} {v u:V}
theorem nN {e id ver off len n:Nat} {B:Blk} {k:IntKind} {x:SX} (ha:ev T a=.ms id ver off len) (hx:ev T x=.int k (n:Nat)) (hH:H id=B) (hok:okB B ver=true) (hs:B.sz=e) (hn:n≤len)
    (h:Ops P k0 r (upd T d (.ms id ver off n)) H K):Ops P k0 (⟨none,some d,.slice e a none (some x)⟩::r) T H K:=by
  subst hH
  refine stp (v:=.ms id ver off n) (fun _=>rfl) ?_ h
  rw [ha]
  simp only [Option.map_some,Option.map_none,kH,eR,aFf,hx,Option.bind_some]
  have h0:(0:Int)≤(n:Int):=by omega
  rw [if_pos h0]
  simp only [Option.bind_some,Int.toNat_natCast]
  rw [if_pos (show ok H id ver=true from hok),if_pos hs,if_pos (Nat.zero_le _),if_pos hn]
  by_cases e:0 < n
  · rw [if_pos e]; simp
  · rw [if_neg e,if_pos trivial,show n=0 by omega]
theorem iF {e id ver off len n:Nat} {B:Blk} {k:IntKind} {x:SX} (ha:ev T a=.ms id ver off len) (hx:ev T x=.int k (n:Nat)) (hH:H id=B) (hok:okB B ver=true) (hs:B.sz=e) (hn:n < len)
    (h:Ops P k0 r (upd T d (.ms id ver (off+n) (len - n))) H K):Ops P k0 (⟨none,some d,.slice e a (some x) none⟩::r) T H K:=by
  subst hH
  refine stp (v:=.ms id ver (off+n) (len - n)) (fun _=>rfl) ?_ h
  rw [ha]
  simp only [Option.map_some,Option.map_none,kH,eR,aFf,hx,Option.bind_some]
  have h0:(0:Int)≤(n:Int):=by omega
  rw [if_pos h0]
  simp only [Option.bind_some,Int.toNat_natCast]
  rw [if_pos (show ok H id ver=true from hok),if_pos hs,if_pos (by omega),if_pos (Nat.le_refl _),if_pos hn]
theorem aKH {α:Type} {id ver ty sz m n:Nat} {lz:Bool} {f:α→List V} {l:List α} {z:List V} (ha:ev T a=.ms id ver m n) (hH:H id=⟨ver,true,lz,ty,sz,l.map f⟩) (hz:z.length=sz) (hz0:z.length≠0) (hone:z.all V.one=true)
    (hm:m < l.length) (hn:m+n=l.length)
    (h:Ops P k0 r T (upd H id ⟨ver,true,lz,ty,sz,(l.take m).map f++List.replicate n z⟩) K):Ops P k0 (⟨none,none,.clr z a⟩::r) T H K:=by
  simp only [Ops,St]
  refine tH (x:=upd H id ⟨ver,true,lz,ty,sz,(l.take m).map f++List.replicate n z⟩) ?_ h
  rw [ha]
  simp only [aEW,hH]
  rw [if_pos (by simp),if_neg (by omega),if_pos ⟨hz,hz0⟩,if_pos hone,if_pos (by simp; omega)]
  rw [hn,List.drop_eq_nil_of_le (by simp),List.append_nil,List.map_take]
theorem mZ {n len i id ver row o o':Nat} {k:IntKind} {B:Blk} (ha:ev T a=.mp id ver row o) (hb:ev T b=.int k (i:Nat)) (hH:H id=B) (hok:okB B ver=true) (hi:i < len) (ho:o+i*n=o')
    (h:Ops P k0 r (upd T d (.mp id ver row o')) H K):Ops P k0 (⟨none,some d,.apos n len a b⟩::r) T H K:=by
  subst hH
  refine stp (v:=.mp id ver row o') (fun _=>rfl) ?_ h
  rw [ha,hb]
  simp only [wU]
  rw [if_pos (by omega)]
  simp only [Int.toNat_natCast,aAD,ho]
theorem oD: ∀ (vs p r:List V),r.length=vs.length→eJ (p++r) p.length vs=p++vs
  | [], p, r, h => by cases r with
    |nil=>rfl
    |cons a r=>simp at h
  | v :: vs, p, r, h => by
    cases r with
    |nil=>simp at h
    | cons a r =>
      have e:(p++a::r).set p.length v=(p++[v])++r:=by simp
      rw [eJ,e,show p.length+1=(p++[v]).length by simp,oD vs (p++[v]) r (by simpa using h)]
      simp
theorem jS {α:Type} [Inhabited α] {n ver ty sz i:Nat} {lz:Bool} {f:α→List V} {l:List α} {vs:List V} {x:α} (h:i < l.length) (hv:vs=f x) (hn:vs.length=n) (hs:(f (nth l i)).length=n) (ho:vs.all V.one=true):
    stB ⟨ver,true,lz,ty,sz,l.map f⟩ ver i 0 n vs=some ⟨ver,true,lz,ty,sz,(l.set i x).map f⟩:=by
  subst hv
  unfold stB
  rw [if_pos (eH (by omega)),if_pos hn,if_pos ho]
  simp only [List.getElem?_map,uE h,Option.map_some]
  rw [if_pos (by omega)]
  have:=oD (f x) [] (f (nth l i)) (by omega)
  simp only [List.nil_append,List.length_nil] at this
  rw [this,List.map_set]
theorem bW {e id ver len i:Nat} {B:Blk} {k:IntKind} (ha:ev T a=.ms id ver 0 len) (hb:ev T b=.int k (i:Nat)) (hH:H id=B) (hok:okB B ver=true) (hs:B.sz=e) (hi:i < len)
    (h:Ops P k0 r (upd T d (.mp id ver i 0)) H K):Ops P k0 (⟨none,some d,.idx e a b⟩::r) T H K:=
  mM ha hb hH hok hs hi (by rw [Nat.zero_add]; exact h)
theorem eC {e id ver len:Nat} {i:Int} {B:Blk} {k:IntKind} (ha:ev T a=.ms id ver 0 len) (hb:ev T b=.int k i) (hH:H id=B) (hok:okB B ver=true) (hs:B.sz=e) (h0:0≤i) (hi:i < len)
    (h:Ops P k0 r (upd T d (.mp id ver i.toNat 0)) H K):Ops P k0 (⟨none,some d,.idx e a b⟩::r) T H K:=
  qZ ha hb hH hok hs h0 hi (by rw [Nat.zero_add]; exact h)
theorem uC {α:Type} {ty e bytes i n:Nat} {z:List V} {f:α→List V} {x:α} {m q:Nat} (hi:k0+d=i) (hv:(H i).ver=n) (ha:ev T a=iV (m:Nat)) (hb:ev T b=iV (q:Nat)) (hz:z=f x) (h1:m≤q) (h2:q*bytes≤281474976710656) (h3:q≤9223372036854775807)
    (h:Ops P k0 r (upd T d (.ms i (n+1) 0 m)) (upd H i ⟨n+1,true,false,ty,e,(List.replicate m x).map f⟩) K):Ops P k0 (⟨none,some d,.mks ty e bytes z a b⟩::r) T H K:=
  aKW hi hv ha hb h1 h2 h3 (by rw [List.map_replicate,← hz] at h; exact h)
theorem eL {id n:Nat} (h:(H id).ver=n):(jO id H id).ver=n∧(jO id H id).live=false:=by subst h; simp [jO]
theorem fS {id j n:Nat} (h:(H j).ver=n∧(H j).live=false):(jO id H j).ver=n∧(jO id H j).live=false:=by
  by_cases e:j=id
  · subst e; exact eL h.1
  · simp only [jO,aF _ _ e]; exact h
theorem aAc {α:Type} {n id ver len:Nat} {B:Blk} {f:α→List V} {l:List α} (hH:H id=B) (hok:(B.live&&decide (B.ver=ver))=true) (hr:B.rows.take len=l.map f) (hc: ∀ a,cX (f a)=true):
    fzv true H (n+1) (.ms id ver 0 len)=.sl (l.map f):=by
  subst hH
  simp only [fzv]
  rw [if_pos hok,List.drop_zero,hr]
  congr 1
  rw [List.map_map]
  refine List.map_congr_left fun a _=>gO n _ (hc a)
theorem uF {α:Type} {len:Nat} {f:α→List V} {l:List α} (h:len=l.length):(l.map f).take len=l.map f:=by
  subst h; rw [show l.length=(l.map f).length by simp,List.take_length]
theorem aAZ {α:Type} {len:Nat} {f:α→List V} {l:List α} {r:List (List V)} (h:len=l.length):(l.map f++r).take len=l.map f:=by
  subst h; rw [show l.length=(l.map f).length by simp,List.take_left]
end
theorem jZ {α:Type} {ver ty sz m:Nat} {lz:Bool} {f:α→List V} {l:List α} {z:List V} (h:0 < l.length):okB ⟨ver,true,lz,ty,sz,l.map f++List.replicate m z⟩ ver=true:=by
  cases l with
  |nil=>simp at h
  |cons a l=>simp [okB,Blk.own]
theorem aDC {α:Type} [Inhabited α] {f:α→List V} {l:List α} {m i:Nat} {z:List V} (h:i < l.length):(l.map f++List.replicate m z)[i]?=some (f (nth l i)):=by
  rw [List.getElem?_append_left (by simpa using h),List.getElem?_map,uE h]; rfl
theorem aC4 {α:Type} [Inhabited α] {agg:Bool} {n ver ty sz i off m:Nat} {lz:Bool} {f:α→List V} {l:List α} {z:List V} {v:V} (h:i < l.length) (hg:ldV agg n ((f (nth l i)).drop off)=some v):
    ldB agg n ⟨ver,true,lz,ty,sz,l.map f++List.replicate m z⟩ ver i off=some v:=by
  unfold ldB
  rw [if_pos (show (_&&_)=true from jZ (by omega))]
  simp only [aDC h,Option.bind_some]
  exact hg
theorem aDK {α:Type} [Inhabited α] {n ver ty sz i m:Nat} {lz:Bool} {f:α→List V} {l:List α} {vs:List V} {x:α} {z:List V} (h:i < l.length) (hv:vs=f x) (hn:vs.length=n) (hs:(f (nth l i)).length=n) (ho:vs.all V.one=true):
    stB ⟨ver,true,lz,ty,sz,l.map f++List.replicate m z⟩ ver i 0 n vs=some ⟨ver,true,lz,ty,sz,(l.set i x).map f++List.replicate m z⟩:=by
  subst hv
  unfold stB
  rw [if_pos (jZ (by omega)),if_pos hn,if_pos ho]
  simp only [aDC h]
  rw [if_pos (by omega)]
  have:=oD (f x) [] (f (nth l i)) (by omega)
  simp only [List.nil_append,List.length_nil] at this
  rw [this,List.map_set,List.set_append_left _ _ (by simpa using h)]
theorem aEj {H:aH} {α:Type} {n id ver len:Nat} {B:Blk} {f:α→List V} {l m:List α} (hH:H id=B) (hok:(B.live&&decide (B.ver=ver))=true) (hr:B.rows.take len=l.map f) (hc: ∀ a,cX (f a)=true) (h:l=m):
    fzv true H (n+1) (.ms id ver 0 len)=.sl (m.map f):=by
  subst h; exact aAc hH hok hr hc
theorem aE4 {H:aH} {id id2 ver v2 ty ty2 i off len sz sz2:Nat} {lz lz2:Bool} {β:Type} {rows:List (List V)} {r:List V} {m:List β} {g:β→List V} (hne:id2≠id) (h1:H id=⟨ver,true,lz,ty,sz,m.map g⟩) (h2:H id2=⟨v2,true,lz2,ty2,sz2,rows.set i r⟩)
    (hi:i < rows.length) (hl:len=m.length) (hc:r[off]?=some (.ms id ver 0 len)) {K:(Nat→V)→aH→Prop} {T:Nat→V} (h:G K (fzT id H T) (upd (jO id H) id2 ⟨v2,true,lz2,ty2,sz2,rows.set i (r.set off (.sl (m.map g)))⟩)):G K T H:=by
  subst hl
  have hr:(H id2).rows[i]?=some r:=by rw [h2]; simp [hi]
  refine .frzCell id ver m.length id2 i off r hne (by rw [h1]) (by rw [h1]) (by rw [h2]; cases rows with
    |nil=>simp at hi
    |cons a l=>cases i <;> simp [Blk.own]) hr hc ?_
  have e:({H id2 with rows:=(H id2).rows.set i (r.set off (.sl ((H id).rows.take m.length)))}:Blk)=⟨v2,true,lz2,ty2,sz2,rows.set i (r.set off (.sl (m.map g)))⟩:=by
    rw [h2,h1]
    simp only [Blk.mk.injEq,true_and,List.set_set]
    rw [show m.length=(m.map g).length by simp,List.take_length]
  rw [e]; exact h
end Go.Proofs.YtilfohjlglefjaaGreat
namespace Go.Proofs.YtilfohjlglefjaaGreat
open Go
abbrev sO (d:Nat) (x:X):SO:=⟨none,some d,x⟩
abbrev qM (d a:Nat):SO:=sO d (.mv (.t a))
abbrev qI (d:Nat) (n:Int):SO:=sO d (.mv (.c (.int .i64 n)))
abbrev qF (d n a:Nat):SO:=sO d (.fld n (.t a))
abbrev qL (d n a:Nat):SO:=sO d (.load true n (.t a))
abbrev ql (d a:Nat):SO:=sO d (.load false 1 (.t a))
abbrev qE (d a i:Nat):SO:=sO d (.ext (.t a) i)
abbrev qA (d e a i:Nat):SO:=sO d (.idx e (.t a) (.t i))
abbrev qN (d a:Nat):SO:=sO d (.len (.t a))
abbrev qP (d:Nat) (b:BinOp) (x y:Nat):SO:=sO d (.bin b (.t x) (.t y))
abbrev qC (d:Nat) (b:BinOp) (x:Nat) (n:Int):SO:=sO d (.bin b (.t x) (.c (.int .i64 n)))
abbrev sN (x:X):SO:=⟨none,none,x⟩
abbrev bk (v:Nat) (ty sz:Nat) (rows:List (List V)):Blk:=⟨v,true,false,ty,sz,rows⟩
abbrev bz (v:Nat) (ty sz:Nat) (rows:List (List V)):Blk:=⟨v,true,true,ty,sz,rows⟩
section
variable {P:Program} {k0 d:Nat} {r:List SO} {T:Nat→V} {H:aH} {K:(Nat→V)→aH→Prop} {a b:SX} {v:V}
theorem bE {f:Nat} {args:List SX} {as0:List V} (hc:aZ P f as0 v) (he:evs T args=as0) (h:Ops P k0 r (upd T d v) H K)
    (h1:cX as0=true:=by simp [-List.map_take,-List.map_drop,-List.map_append,-List.map_reverse]) (h2:dD as0=true:=by simp [-List.map_take,-List.map_drop,-List.map_append,-List.map_reverse]):
    Ops P k0 (⟨none,some d,.call false f args⟩::r) T H K:=aCd he hc (gO _ _ h1) h2 (.inl h2) h
end
def nz:V→V
  | .nilsl=>.sl []
  |v=>v
theorem aSx {x:Cx} {v:V} {c:Value} (r:R x v c):R x (nz v) c:=by
  cases v <;> first|exact r|(generalize hq:V.nilsl=q at r; cases r <;> cases hq; exact .slnil)
theorem aMT {K : (Nat → V) → aH → Prop} {T : Nat → V} {id i : Nat} {r : List V} : ∀ (j : Nat) {H : aH} {pre suf : List V}, r = pre ++ suf → suf.length = j → (H id).own = true → (H id).rows[i]? = some (pre.map nz ++ suf) →
    G K T (upd H id {H id with rows:=(H id).rows.set i (r.map nz)})→G K T H:=by
  intro j
  induction j with
  | zero =>
    intro H pre suf he hl ho hr h
    have:=List.length_eq_zero_iff.1 hl
    subst this
    have e:({H id with rows:=(H id).rows.set i (r.map nz)}:Blk)=H id:=by
      rw [he,List.append_nil]
      rw [List.append_nil] at hr
      have:(H id).rows.set i (pre.map nz)=(H id).rows:=by
        have hi:=(List.getElem?_eq_some_iff.1 hr).1
        have:=(List.getElem?_eq_some_iff.1 hr).2
        rw [← this,List.set_getElem_self]
      rw [this]
    rw [e] at h
    have e2:upd H id (H id)=H:=funext fun k=>by unfold upd; split <;> simp_all
    rw [e2] at h; exact h
  | succ j ih =>
    intro H pre suf he hl ho hr h
    cases suf with
    |nil=>simp at hl
    | cons v s =>
      refine .cell id i pre.length v (nz v) (pre.map nz++v::s) ho hr (by simp) (fun x c r=>aSx r) ?_
      have hi:=(List.getElem?_eq_some_iff.1 hr).1
      have e1:(pre.map nz++v::s).set pre.length (nz v)=(pre++[v]).map nz++s:=by
        rw [List.set_append_right _ _ (by simp)]
        simp
      have ho2:({H id with rows:=(H id).rows.set i ((pre.map nz++v::s).set pre.length (nz v))}:Blk).own=true:=by
        unfold Blk.own at ho ⊢
        cases hq:(H id).rows with
        |nil=>rw [hq] at hi; simp at hi
        |cons a l=>rw [hq] at ho; cases i <;> simpa using ho
      refine ih (H:=upd H id {H id with rows:=(H id).rows.set i ((pre.map nz++v::s).set pre.length (nz v))}) (pre:=pre++[v]) (suf:=s) (by rw [he]; simp) (by simpa using hl) (by rw [aE]; exact ho2) (by rw [aE,e1]; simp [hi]) ?_
      rw [aE]
      have e3:upd (upd H id {H id with rows:=(H id).rows.set i ((pre.map nz++v::s).set pre.length (nz v))}) id {H id with rows:=((H id).rows.set i ((pre.map nz++v::s).set pre.length (nz v))).set i (r.map nz)}=upd H id {H id with rows:=(H id).rows.set i (r.map nz)}:=by
        funext k
        by_cases e:k=id
        · subst e; simp only [aE,List.set_set]
        · simp only [aF _ _ e]
      rw [e3]; exact h
theorem aL3 {ver ty sz:Nat} {lz:Bool} {rows:List (List V)} (h:rows≠[]):(⟨ver,true,lz,ty,sz,rows⟩:Blk).own=true:=by
  cases rows with
  |nil=>exact (h rfl).elim
  |cons a l=>simp [Blk.own]
theorem aIk {K:(Nat→V)→aH→Prop} {T:Nat→V} {id ver ty sz:Nat} {lz:Bool}: ∀ {raw:List (List V)} {H:aH} {pre:List (List V)},H id=⟨ver,true,lz,ty,sz,pre++raw⟩→
    G K T (upd H id ⟨ver,true,lz,ty,sz,pre++raw.map (List.map nz)⟩)→G K T H:=by
  intro raw
  induction raw with
  | nil =>
    intro H pre hH h
    have e2:upd H id (H id)=H:=funext fun k=>by unfold upd; split <;> simp_all
    rw [List.map_nil,← hH,e2] at h; exact h
  | cons r raw ih =>
    intro H pre hH h
    refine aMT (id:=id) (i:=pre.length) (r:=r) r.length (pre:=[]) (suf:=r) rfl rfl (by rw [hH]; exact aL3 (by simp)) (by rw [hH]; simp) ?_
    refine ih (pre:=pre++[r.map nz]) (by rw [aE,hH]; simp only [Blk.mk.injEq,true_and]; rw [List.set_append_right _ _ (Nat.le_refl _)]; simp) ?_
    have e3: ∀ b c:Blk,upd (upd H id b) id c=upd H id c:=fun b c=>funext fun k=>by
      by_cases e:k=id
      · subst e; simp only [aE]
      · simp only [aF _ _ e]
    rw [e3]
    simpa using h
theorem aEa {α:Type} {K:(Nat→V)→aH→Prop} {T:Nat→V} {H:aH} {id ver ty sz:Nat} {lz:Bool} {l m:List α} {f:α→List V} {raw:List (List V)} (hH:H id=⟨ver,true,lz,ty,sz,l.map f++raw⟩) (hr:raw.map (List.map nz)=m.map f)
    (h:G K T (upd H id ⟨ver,true,lz,ty,sz,(l++m).map f⟩)):G K T H:=by
  refine aIk hH ?_
  rw [hr,← List.map_append]; exact h
end Go.Proofs.YtilfohjlglefjaaGreat
namespace Go.Proofs.YtilfohjlglefjaaGreat
open Go
section
variable {P:Program} {k0:Nat} {Q:Ex→(Nat→V)→aH→Prop} {T:Nat→V} {H:aH}
theorem W_r {ops:List SO} {b:SC} (h:Ops P k0 ops T H fun T H=>W P k0 b Q T H):W P k0 (.seq (.reg ops) b) Q T H:=
  ⟨k0,gP (fun _ _ h=>.done h) h⟩
theorem W_t {ops:List SO} (h:Ops P k0 ops T H fun T H=>Q .norm T H):W P k0 (.reg ops) Q T H:=⟨k0,h⟩
theorem W_d {ops:List SO} {b:SC} {gD:List Nat} (hl: ∀ d∈gD,(H (k0+d)).live=false) (h:Ops P k0 ops T H fun T H=>W P k0 b Q T H):W P k0 (.seq (.dreg gD ops) b) Q T H:=
  ⟨k0,hl,gP (fun _ _ h=>.done h) h⟩
end
theorem yQ {H:aH} {k0:Nat}: ∀ d∈([]:List Nat),(H (k0+d)).live=false:=fun _ h=>by simp at h
theorem uD {H:aH} {k0 d:Nat} {l:List Nat} (h:(H (k0+d)).live=false) (hl: ∀ d∈l,(H (k0+d)).live=false): ∀ x∈d::l,(H (k0+x)).live=false:=by
  intro x hx
  rcases List.mem_cons.1 hx with rfl|hx
  · exact h
  · exact hl _ hx
theorem oB {ver ty sz:Nat} {rows:List (List V)}:okB ⟨ver,true,false,ty,sz,rows⟩ ver=true:=by simp [okB,Blk.own]
theorem lB {agg:Bool} {n ver row off:Nat} {B:Blk} {r:List V} {v:V} (ho:okB B ver=true) (hr:B.rows[row]?=some r) (hv:ldV agg n (r.drop off)=some v):ldB agg n B ver row off=some v:=by
  unfold ldB; rw [if_pos (show (B.own&&decide (B.ver=ver))=true from ho),hr]; exact hv
theorem sB {n ver row off:Nat} {B B':Blk} {r vs:List V} (ho:okB B ver=true) (hn:vs.length=n) (ha:vs.all V.one=true) (hr:B.rows[row]?=some r) (hl:Nat.ble (off+n) r.length=true) (hB:{B with rows:=B.rows.set row (eJ r off vs)}=B'):stB B ver row off n vs=some B':=by
  unfold stB; rw [if_pos ho,if_pos hn,if_pos ha,hr]; dsimp only; rw [if_pos (Nat.le_of_ble_eq_true hl),hB]
section
variable {P:Program} {k0 d:Nat} {r:List SO} {T:Nat→V} {H:aH} {K:(Nat→V)→aH→Prop} {a b:SX} {v:V}
theorem aK {agg:Bool} {n id ver row off ty sz:Nat} {rows:List (List V)} {rw:List V} (ha:ev T a=.mp id ver row off) (hH:H id=⟨ver,true,false,ty,sz,rows⟩) (hr:rows[row]?=some rw) (hv:ldV agg n (rw.drop off)=some v) (h:Ops P k0 r (upd T d v) H K):
    Ops P k0 (⟨none,some d,.load agg n a⟩::r) T H K:=bF ha hH (lB oB hr hv) h
theorem aO {off id ver row o ty sz:Nat} {rows:List (List V)} (ha:ev T a=.mp id ver row o) (hH:H id=⟨ver,true,false,ty,sz,rows⟩) (h:Ops P k0 r (upd T d (.mp id ver row (o+off))) H K):Ops P k0 (⟨none,some d,.fld off a⟩::r) T H K:=
  aGL ha hH oB rfl h
theorem lL {n id ver row off ty sz:Nat} {rows:List (List V)} {B':Blk} {rw vs:List V} (ha:ev T a=.mp id ver row off) (hb:ev T b=v) (hc:v.cells=vs) (hH:H id=⟨ver,true,false,ty,sz,rows⟩) (hn:vs.length=n) (hl:vs.all V.one=true) (hr:rows[row]?=some rw)
    (hm:Nat.ble (off+n) rw.length=true) (hB:(⟨ver,true,false,ty,sz,rows.set row (eJ rw off vs)⟩:Blk)=B') (h:Ops P k0 r T (upd H id B') K):Ops P k0 (⟨none,none,.store n a b⟩::r) T H K:=
  cF ha hb hc hH (sB oB hn hl hr hm hB) h
end
theorem R_e {P:Program} {k0:Nat} {T:Nat→V} {H:aH} {K:(Nat→V)→aH→Prop} (h:K T H):Ops P k0 [] T H K:=h
end Go.Proofs.YtilfohjlglefjaaGreat
namespace Go.Proofs.YtilfohjlglefjaaGreat
open Go
theorem pW {P:Program} {op:Opt} {f:Nat} {fn:Func} {s:SF} {args:List V} {v:V} {B:Prop} (hf:P.funcs[f]?=some fn) (hs:aN P op fn=some s)
    (hW : B → W P 0 s.body (Ret s.res fun u G => fzv true G 6 u = v) (T0 args) H0) (hn : (fn.name == "runtime.NumGoroutine") = false := by kernel_rfl)
    (hl:Nat.ble args.length s.n=true:=by rfl) (ha:dD args=true:=by simp) (hv:v.pure=true:=by simp)
    (hb:iH args=true→B:=by intro hB; first|(simp only [aC0,aDi,aBv,aEl,aC7,aGO,aD9,aBc,implies_true,and_true,true_and] at hB; exact hB)|exact (fun _=>trivial) hB):aZ P f args v:=
  aCT true 6 hf hs hn (Nat.le_of_ble_eq_true hl) ha hv fun h=>hW (hb h)
theorem eW {P:Program} {op:Opt} {k0 f:Nat} {fn:Func} {s:SF} {args:List V} {H:aH} {v:V} {H':aH} {B:Prop} (hf:P.funcs[f]?=some fn) (hs:aN P op fn=some s)
    (hW : B → W P k0 s.body (Ret s.res fun u G => wG G H' ∧ fG G H' u v) (T0 args) H) (hn : (fn.name == "runtime.NumGoroutine") = false := by kernel_rfl)
    (hl:Nat.ble args.length s.n=true:=by rfl)
    (hb:iH args=true→B:=by intro hB; first|(simp only [aC0,aDi,aBv,aEl,aC7,aGO,aD9,aBc,implies_true,and_true,true_and] at hB; exact hB)|exact (fun _=>trivial) hB):dM P f args H v H':=
  zB hf hs hn (Nat.le_of_ble_eq_true hl) fun h=>hW (hb h)
theorem edT {x:V} {p:Prop} [Decidable p] (h:p) (hx:x=V.bool (decide p)):x=V.bool true:=by rw [hx]; simp [h]
theorem edF {x:V} {p:Prop} [Decidable p] (h: ¬p) (hx:x=V.bool (decide p)):x=V.bool false:=by rw [hx]; simp [h]
theorem ebT {x:V} {b:Bool} (h:b=true) (hx:x=V.bool b):x=V.bool true:=by rw [hx,h]
theorem ebF {x:V} {b:Bool} (h: ¬b=true) (hx:x=V.bool b):x=V.bool false:=by rw [hx,Bool.eq_false_iff.2 h]
theorem G_n {P:Program} {k0 d t:Nat} {r:List SO} {T:Nat→V} {H:aH} {K:(Nat→V)→aH→Prop} {w:Bool} {q:X} (ht:T t=.bool (!w)) (h:Ops P k0 r (upd T d (.raw undef)) H K):
    Ops P k0 (⟨some (t,w),some d,q⟩::r) T H K:=aTM ht (by cases w <;> decide) h
section
variable {P:Program} {k0 d:Nat} {r:List SO} {T:Nat→V} {H:aH} {K:(Nat→V)→aH→Prop} {a b:SX} {x y x' y':Int}
theorem aPh (ha:ev T a=.agg [iV x,iV y]) (hb:ev T b=.agg [iV x',iV y']) (h:Ops P k0 r (upd T d (.bool (decide (¬(x=x'∧y=y'))))) H K):Ops P k0 (⟨none,some d,.abin true [0,0] a b⟩::r) T H K:=by
  refine stp (v:=.bool (decide (¬(x=x'∧y=y')))) (fun _=>rfl) ?_ h
  rw [ha,hb]; simp only [rQ,cC,if_true,Option.map_some]
  by_cases e:x=x' <;> by_cases e2:y=y' <;> simp [e,e2]
end
section
variable {P:Program} {k0 d:Nat} {r:List SO} {T:Nat→V} {H:aH} {K:(Nat→V)→aH→Prop} {a b:SX} {u w v:V}
theorem aDr {g:Bool} {n len:Nat} (ha:ev T a=u) (hb:ev T b=w) (hg:yP g n len u w=some v) (h:Ops P k0 r (upd T d v) H K):Ops P k0 (⟨none,some d,.aidx g n len a b⟩::r) T H K:=by
  refine stp (v:=v) (fun _=>rfl) ?_ h
  rw [ha,hb]; exact hg
end
section
variable {P:Program} {k0:Nat} {Q:Ex→(Nat→V)→aH→Prop} {T:Nat→V} {H:aH}
theorem aSI (k1:Nat) {ops:List SO} {b:SC} (h:Ops P k1 ops T H fun T H=>W P k0 b Q T H):W P k0 (.seq (.reg ops) b) Q T H:=⟨k1,gP (fun _ _ h=>.done h) h⟩
theorem aTI (k1:Nat) {ops:List SO} (h:Ops P k1 ops T H fun T H=>Q .norm T H):W P k0 (.reg ops) Q T H:=⟨k1,h⟩
end
end Go.Proofs.YtilfohjlglefjaaGreat
namespace Go.Proofs.YtilfohjlglefjaaGreat
open Go
def aTQ (ρ:Nat→Nat):V→V
  | .mp id ver r o=>.mp (ρ id) ver r o
  | .ms id ver o l=>.ms (ρ id) ver o l
  |v=>v
def aRa (ρ:Nat→Nat) (b:Blk):Blk:={b with rows:=b.rows.map fun r=>r.map (aTQ ρ)}
structure View (n:Nat) (ρ:Nat→Nat) (x z:Cx):Prop where
  w:z.w=x.w
  Z: ∀ b,x.Z b→z.Z b
  H: ∀ i,i < n→z.H (ρ i)=aRa ρ (x.H i)
  σ: ∀ i,i < n→z.σ (ρ i)=x.σ i
def aRi (ρ:Nat→Nat) (HL:aH) (H:aH):Nat→aH
  |0=>H
  |n+1=>upd (aRi ρ HL H n) (ρ n) (aRa ρ (HL n))
section
variable {n:Nat} {ρ:Nat→Nat} {Hl:aH} {x:Cx}
end
inductive LOut where
  |ok (v:V) (HL:aH)
  |pan (c:Value)
def LOut.at (n:Nat) (ρ:Nat→Nat) (H:aH):LOut→Res
  | .ok v HL=>.ok v (aRi ρ HL H n)
  | .pan c=>.pan c ((List.range n).map ρ)
section
variable {P:Program} {op:Opt} {k0:Nat}
end
end Go.Proofs.YtilfohjlglefjaaGreat
namespace Go.Proofs.YtilfohjlglefjaaGreat
open Go
section
variable {P:Program} {k0 d:Nat} {r:List SO} {T:Nat→V} {H:aH} {K:(Nat→V)→aH→Prop} {a b c:SX} {v:V}
variable {k:IntKind} {x y:Int}
variable {s t:List UInt8}
end
section
variable {P:Program} {k0 f:Nat} {Q:Ex→(Nat→V)→aH→Prop} {T:Nat→V} {H:aH} {d:Option Nat} {r:SC} {i:Nat} {asq asq':List V} {args:List SX} {b b' b1 b1':Blk} {v:V} {c:Value} {out:LOut}
theorem iG {id:Nat} {a r:SC} (h: ∀ Q':Ex→(Nat→V)→aH→Prop,(∀ T H,G (W P k0 r Q) T H→Q' .norm T H)→(∀ T H,G (W P k0 r Q) T H→Q' (.exit id) T H)→(∀ T H,Q .ret T H→Q' .ret T H)→
    (∀ n T H,n≠id→Q (.exit n) T H→Q' (.exit n) T H)→(∀ c T H,Q (.pan c) T H→Q' (.pan c) T H)→W P k0 a Q' T H):W P k0 (.seq (.block id a) r) Q T H:=by
  simp only [W]
  refine h _ (fun T H h=>h) (fun T H h=>?_) (fun T H h=>h) (fun n T H hn h=>?_) (fun c T H h=>h)
  · simp only [if_true]; exact h
  · simp only [if_neg hn]; exact h
variable {res:List SRes} {HL:aH}
end
end Go.Proofs.YtilfohjlglefjaaGreat
namespace Go.Proofs.YtilfohjlglefjaaGreat
open Go
def aCW (B : Blk) (ver kd : Nat) (z key : V) : Option (V × Bool) :=
  if (B.own && decide (B.ver = ver) && B.isM && decide (B.sz = 2) && lQ kd key) = true then match B.rows with
    | _ :: es => match fK kd key es 0 with
      |some (some (_,v))=>some (v,true)
      |some none=>some (z,false)
      |none=>none
    |[]=>none
  else none
def xU (B : Blk) (ver kd : Nat) (key val : V) : Option Blk :=
  if (B.own && decide (B.ver = ver) && B.isM && decide (B.sz = 2) && lQ kd key) = true then match B.rows with
    | h :: es => match fK kd key es 0 with
      |some (some (i,_))=>some {B with rows:=h::es.set i [key,val]}
      |some none=>some {B with rows:=h::(es++[[key,val]])}
      |none=>none
    |[]=>none
  else none
section
variable {P:Program} {k0:Nat} {r:List SO} {T:Nat→V} {H:aH} {K:(Nat→V)→aH→Prop} {d:Nat} {a b c:SX} {v:V}
theorem aJC {i n:Nat} {rows:List (List V)} (hi:k0+d=i) (hv:(H i).ver=n) (hr:rows=[[.nilp,.nilp]]) (h:Ops P k0 r (upd T d (.mm i (n+1))) (upd H i (⟨n+1,true,true,gL,2,rows⟩:Blk)) K):Ops P k0 (⟨none,some d,.mkmap⟩::r) T H K:=by
  subst hi; subst hv; subst hr; exact h
theorem aKp {id ver kd:Nat} {z key u:V} {B:Blk} {f:Bool} (ha:ev T a=.mm id ver) (hb:ev T b=key) (hH:H id=B) (hl:aCW B ver kd z key=some (u,f)) (h:Ops P k0 r (upd T d (.tup [u,.bool f])) H K):
    Ops P k0 (⟨none,some d,.mlook kd true z a b⟩::r) T H K:=by
  subst hH; subst hb
  simp only [Ops,St]
  refine tH (x:=(u,f)) ?_ h
  rw [ha]; exact hl
theorem aJW {id ver kd : Nat} {key val : V} {B' : Blk} (h : xU (H id) ver kd key val = some B') : uH H kd (.mm id ver) key val = some (upd H id B') := by
  unfold xU at h
  unfold uH
  simp only
  by_cases hc:((H id).own&&decide ((H id).ver=ver)&&(H id).isM&&decide ((H id).sz=2)&&lQ kd key)=true
  · rw [if_pos hc] at h ⊢
    cases hr:(H id).rows with
    |nil=>rw [hr] at h; cases h
    | cons e es =>
      rw [hr] at h
      simp only at h ⊢
      cases hf:fK kd key es 0 with
      |none=>rw [hf] at h; cases h
      | some o =>
        rw [hf] at h
        cases o with
        |none=>cases h; rfl
        |some p=>cases h; rfl
  · rw [if_neg hc] at h; cases h
theorem aFp {id ver kd:Nat} {key val:V} {B B':Blk} (ha:ev T a=.mm id ver) (hb:ev T b=key) (hc:ev T c=val) (hH:H id=B) (hl:xU B ver kd key val=some B') (h:Ops P k0 r T (upd H id B') K):
    Ops P k0 (⟨none,none,.mset kd a b c⟩::r) T H K:=by
  subst hH; subst hb; subst hc
  simp only [Ops,St]
  refine tH (x:=upd H id B') ?_ h
  rw [ha]; exact aJW hl
end
section
variable {ver:Nat} {z:V} {t:List UInt8} {es:List (List UInt8×V)}
end
end Go.Proofs.YtilfohjlglefjaaGreat
namespace Go.Proofs.YtilfohjlglefjaaGreat
open Go
section
variable {P:Program} {k0:Nat} {r:List SO} {T:Nat→V} {H:aH} {K:(Nat→V)→aH→Prop} {d:Nat} {a b c:SX} {v:V}
end
end Go.Proofs.YtilfohjlglefjaaGreat
namespace Go.Proofs.YtilfohjlglefjaaGreat
open Go
end Go.Proofs.YtilfohjlglefjaaGreat
namespace Go.Proofs.YtilfohjlglefjaaGreat
open Go
section
variable {P:Program} {k0:Nat} {Q:Ex→(Nat→V)→aH→Prop} {T:Nat→V} {H:aH}
theorem pL {a r:SC} (J:(Nat→V)→aH→Prop) (h1: ∀ Q':Ex→(Nat→V)→aH→Prop,(∀ T H,J T H→Q' .norm T H)→(∀ T H,Q .ret T H→Q' .ret T H)→(∀ n T H,Q (.exit n) T H→Q' (.exit n) T H)→W P k0 a Q' T H)
    (h2: ∀ T H,J T H→W P k0 r Q T H):W P k0 (.seq a r) Q T H:=by
  simp only [W]
  exact h1 _ (fun T H hJ=>.done (h2 T H hJ)) (fun T H h=>h) (fun n T H h=>h)
end
end Go.Proofs.YtilfohjlglefjaaGreat
namespace Go.Proofs.YtilfohjlglefjaaGreat
open Go
section
variable {ver:Nat} {k:Int×List UInt8} {l:List (Int×List UInt8)}
end
end Go.Proofs.YtilfohjlglefjaaGreat
namespace Go.Proofs.YtilfohjlglefjaaGreat
open Go
section
variable {P:Program} {k0 d:Nat} {r:List SO} {T:Nat→V} {H:aH} {K:(Nat→V)→aH→Prop} {a b:SX} {x y:Int} {s t:List UInt8}
end
end Go.Proofs.YtilfohjlglefjaaGreat
namespace Go.Proofs.YtilfohjlglefjaaGreat
open Go
section
variable {P:Program} {k0:Nat} {r:List SO} {T:Nat→V} {H:aH} {K:(Nat→V)→aH→Prop} {d:Nat} {a b:SX}
variable {Q:Ex→(Nat→V)→aH→Prop}
theorem W_x {ps:List (Nat×Nat×Nat×Nat)} {ops:List SO} {b:SC} (h:Ops P k0 ops T H fun T H=>ddB ps ops T=true∧W P k0 b Q T H):W P k0 (.seq (.xreg ps ops) b) Q T H:=⟨k0,gP (fun _ _ h=>⟨h.1,.done h.2⟩) h⟩
theorem aTT {ps:List (Nat×Nat×Nat×Nat)} {ops:List SO} (h:Ops P k0 ops T H fun T H=>ddB ps ops T=true∧Q .norm T H):W P k0 (.xreg ps ops) Q T H:=⟨k0,h⟩
end
end Go.Proofs.YtilfohjlglefjaaGreat
namespace Go.Proofs.YtilfohjlglefjaaGreat
open Go Go.Proofs
def aTR:List SO:=[
 qL 11 6 2,
 sO 12 (.call false 14 [.t 11]),
 sO 13 (.un .not (.t 12)),
 qM 14 13,
 ⟨some (14,false),some 15,.load true 6 (.t 3)⟩,
 ⟨some (14,false),some 16,.call false 14 [.t 15]⟩,
 ⟨some (14,false),some 17,.un .not (.t 16)⟩,
 sO 18 (.pick (.t 14) (.c (.bool true)) (.t 17))]
def aTB:List SO:=[
 qL 21 6 2,
 qL 22 6 3,
 sO 23 (.call false 15 [.t 21,.t 22]),
 qM 20 23,
 qE 24 20 0,
 qE 25 20 1,
 qE 26 20 2,
 qM 5 24,
 qM 6 25,
 qM 7 26]
def aTN:List SO:=[
 qL 28 6 2,
 qL 29 6 3,
 sO 30 (.call false 16 [.t 28,.t 29]),
 qM 27 30,
 qE 31 27 0,
 qE 32 27 1,
 qE 33 27 2,
 qM 8 31,
 qM 9 32,
 qM 10 33]
def aTE:List SO:=[
 qM 34 5,
 qM 35 8,
 sO 36 (.call false 17 [.t 34,.t 35]),
 qM 37 36,
 ⟨some (37,true),some 38,.mv (.t 6)⟩,
 ⟨some (37,true),some 39,.mv (.t 9)⟩,
 ⟨some (37,true),some 40,.bbin .eql (.t 38) (.t 39)⟩,
 sO 41 (.pick (.t 37) (.t 40) (.c (.bool false))),
 qM 42 41,
 ⟨some (42,true),some 43,.mv (.t 7)⟩,
 ⟨some (42,true),some 44,.mv (.t 10)⟩,
 ⟨some (42,true),some 45,.bin .eql (.t 43) (.t 44)⟩,
 sO 46 (.pick (.t 42) (.t 45) (.c (.bool false))),
 qM 47 46,
 ⟨some (47,true),some 48,.call false 10 []⟩,
 sO 49 (.pick (.t 47) (.t 48) (.c (.bool false))),
 qM 4 49]
def s4:SF:=⟨50,[.tmp 4],.seq (.reg [sO 2 (.box 29 6 (.t 0)),sO 3 (.box 29 6 (.t 1)),sO 4 (.mv (.c (.bool false)))]) (.seq (.seq (.reg aTR) (.cond (.t 18) (.seq (.reg [sO 19 (.call false 10 []),qM 4 19]) (.ret)) (.skip))) (.seq (.reg aTB) (.seq (.reg aTN) (.seq (.reg aTE) (.ret)))))⟩
theorem aRy:aN Tryz.prog ⟨[58,129,130,131,149,155,161,182,183,185,191,192,208,209,210,224,228,231,236],[],[],[]⟩ Tryz.f4=some s4:=by kernel_rfl
end Go.Proofs.YtilfohjlglefjaaGreat
namespace Go.Proofs.YtilfohjlglefjaaGreat
open Go
inductive TT where
  |lf (v:V)
  |nd (l r:TT)
noncomputable def TT.get (t:TT):Nat→V:=TT.rec (motive:=fun _=>Nat→V) (fun v _=>v) (fun _ _ gl gr i=>cond (Nat.beq (i % 2) 0) (gl (i / 2)) (gr (i / 2))) t
theorem TT.get_nd (l r:TT) (i:Nat):(TT.nd l r).get i=cond (Nat.beq (i % 2) 0) (l.get (i / 2)) (r.get (i / 2)):=rfl
noncomputable def TT.put (t:TT):Nat→V→TT:=TT.rec (motive:=fun _=>Nat→V→TT) (fun _ _ v=>.lf v) (fun l r gl gr i v=>cond (Nat.beq (i % 2) 0) (.nd (gl (i / 2) v) r) (.nd l (gr (i / 2) v))) t
theorem TT.put_nd (l r:TT) (i:Nat) (v:V):(TT.nd l r).put i v=cond (Nat.beq (i % 2) 0) (.nd (l.put (i / 2) v) r) (.nd l (r.put (i / 2) v)):=rfl
noncomputable def TT.map (f:V→V) (t:TT):TT:=TT.rec (motive:=fun _=>TT) (fun v=>.lf (f v)) (fun _ _ gl gr=>.nd gl gr) t
theorem TT.map_nd (f:V→V) (l r:TT):(TT.nd l r).map f=.nd (l.map f) (r.map f):=rfl
def TT.full (v:V):Nat→TT
  |0=>.lf v
  |n+1=>.nd (full v n) (full v n)
def TT.Dp:Nat→TT→Prop
  |0,.lf _=>True
  |n+1,.nd l r=>l.Dp n∧r.Dp n
  |_,_=>False
noncomputable def fW (t:TT):Nat→V:=fun i=>cond (Nat.ble 512 i) gM (t.get i)
theorem TT.get_put : ∀ {d : Nat} {t : TT} {i j : Nat} {v : V}, t.Dp d → i < 2 ^ d → j < 2 ^ d → (t.put i v).get j = if j = i then v else t.get j
  | 0, .lf _, i, j, v, _, hi, hj => by
    rw [if_pos (by simp at hi hj; omega)]; rfl
  | d + 1, .nd l r, i, j, v, h, hi, hj => by
    rw [Nat.pow_succ] at hi hj
    simp only [TT.put_nd]
    cases hb:Nat.beq (i % 2) 0 with
    | true =>
      have e1:=Nat.eq_of_beq_eq_true hb
      simp only [cond_true,TT.get_nd]
      cases hc:Nat.beq (j % 2) 0 with
      | true =>
        have e2:=Nat.eq_of_beq_eq_true hc
        simp only [cond_true]
        rw [TT.get_put h.1 (by omega) (by omega)]
        by_cases e:j=i
        · rw [if_pos (by omega),if_pos e]
        · rw [if_neg (by omega),if_neg e]
      | false =>
        have e2:=Nat.ne_of_beq_eq_false hc
        simp only [cond_false]
        rw [if_neg (by intro e; rw [e] at e2; omega)]
    | false =>
      have e1:=Nat.ne_of_beq_eq_false hb
      simp only [cond_false,TT.get_nd]
      cases hc:Nat.beq (j % 2) 0 with
      | false =>
        have e2:=Nat.ne_of_beq_eq_false hc
        simp only [cond_false]
        rw [TT.get_put h.2 (by omega) (by omega)]
        by_cases e:j=i
        · rw [if_pos (by omega),if_pos e]
        · rw [if_neg (by omega),if_neg e]
      | true =>
        have e2:=Nat.eq_of_beq_eq_true hc
        simp only [cond_true]
        rw [if_neg (by intro e; rw [e] at e2; omega)]
theorem TT.put_dp: ∀ {d:Nat} {t:TT} {i:Nat} {v:V},t.Dp d→(t.put i v).Dp d
  |0,.lf _,_,_,_=>trivial
  | d + 1, .nd l r, i, v, h => by
    simp only [TT.put_nd]
    cases Nat.beq (i % 2) 0
    · exact ⟨h.1,TT.put_dp h.2⟩
    · exact ⟨TT.put_dp h.1,h.2⟩
theorem TT.map_dp {f:V→V}: ∀ {d:Nat} {t:TT},t.Dp d→(t.map f).Dp d
  |0,.lf _,_=>trivial
  |d+1,.nd l r,h=>⟨TT.map_dp h.1,TT.map_dp h.2⟩
theorem TT.full_dp {v:V}: ∀ {d:Nat},(TT.full v d).Dp d
  |0=>trivial
  |d+1=>⟨TT.full_dp,TT.full_dp⟩
theorem TT.full_get {v:V}: ∀ {d i:Nat},(TT.full v d).get i=v
  |0,_=>rfl
  | d + 1, i => by
    simp only [TT.full,TT.get_nd]
    cases Nat.beq (i % 2) 0 <;> exact TT.full_get
theorem TT.map_get {f:V→V}: ∀ {t:TT} {i:Nat},(t.map f).get i=f (t.get i)
  | .lf _,_=>rfl
  | .nd l r, i => by
    simp only [TT.map_nd,TT.get_nd]
    cases Nat.beq (i % 2) 0 <;> exact TT.map_get
theorem aAk {n i:Nat}:Nat.ble n i=false↔i < n:=by
  rw [← Bool.not_eq_true,Nat.ble_eq]; omega
theorem aAL {t:TT} (h:t.Dp 9) {i:Nat} (hi:Nat.ble 512 i=false) (v:V):fW (t.put i v)=upd (fW t) i v:=by
  have hi':=aAk.1 hi
  funext j
  unfold fW
  rw [gY]
  cases hj:Nat.ble 512 j with
  | true =>
    rw [Nat.ble_eq] at hj
    rw [if_neg (by omega)]; rfl
  | false =>
    have hj':=aAk.1 hj
    simp only [cond_false]
    exact TT.get_put h hi' hj'
def aJe (id:Nat) (H:aH) (v:V):V:=match v with
  | .ms j ver off len=>if j=id∧(H id).live=true∧(H id).ver=ver then .sl (((H id).rows.drop off).take len) else v
  |_=>v
theorem aHs (id:Nat) (H:aH) (t:TT):fW (t.map (aJe id H))=fzT id H (fW t):=by
  funext i
  have e:fzT id H (fW t) i=aJe id H (fW t i):=by unfold fzT aJe; rfl
  rw [e]
  unfold fW
  cases hi:Nat.ble 512 i with
  |true=>rfl
  |false=>simp only [cond_false]; exact TT.map_get
noncomputable def aEB:List V→Nat→TT→TT
  |[],_,t=>t
  |v::l,i,t=>aEB l (i+1) (t.put i v)
noncomputable def tt0 (args:List V):TT:=aEB args 0 (TT.full gM 9)
theorem xD: ∀ (l:List V) (i:Nat) (t:TT),t.Dp 9→i+l.length≤512→(aEB l i t).Dp 9∧ ∀ j,fW (aEB l i t) j=if i≤j∧j < i+l.length then l.getD (j - i) gM else fW t j
  |[],i,t,h,_=>⟨h,fun j=>by rw [if_neg (by simp only [List.length_nil]; omega)]; rfl⟩
  | v :: l, i, t, h, hl => by
    simp only [List.length_cons] at hl
    obtain ⟨h1,h2⟩:=xD l (i+1) (t.put i v) (TT.put_dp h) (by omega)
    refine ⟨h1,fun j=>?_⟩
    simp only [aEB]
    rw [h2,aAL h (aAk.2 (by omega))]
    simp only [List.length_cons]
    by_cases c:i+1≤j∧j < i+1+l.length
    · rw [if_pos c,if_pos (by omega)]
      obtain ⟨k,hk⟩: ∃ k,j - i=k+1:=⟨j - i - 1,by omega⟩
      rw [hk,List.getD_cons_succ,show j - (i+1)=k by omega]
    · rw [if_neg c,gY]
      by_cases e:j=i
      · rw [if_pos e,if_pos (by omega),e,Nat.sub_self]; rfl
      · rw [if_neg e,if_neg (by omega)]
theorem aBJ {args:List V} (h:args.length≤512):(tt0 args).Dp 9∧fW (tt0 args)=T0 args:=by
  obtain ⟨h1,h2⟩:=xD args 0 (TT.full gM 9) TT.full_dp (by omega)
  refine ⟨h1,funext fun j=>?_⟩
  show fW (aEB args 0 (TT.full gM 9)) j=_
  rw [h2]
  unfold T0
  split
  · rw [Nat.sub_zero]
  · rename_i hn
    have hd:args.getD j gM=gM:=by
      rw [List.getD_eq_getElem?_getD,List.getElem?_eq_none (by omega)]; rfl
    rw [hd]
    unfold fW
    rw [TT.full_get]
    cases Nat.ble 512 j <;> rfl
abbrev aBi:=Nat→Nat→List (Nat×Nat)→SC→TT→aH→Option (Ex×TT×aH)
noncomputable def aHR (T:TT) (d:Option Nat) (v:V):Option TT:=match d with
  |none=>some T
  | some i => match Nat.ble 512 i with
    |true=>none
    |false=>some (T.put i v)
theorem xX {T T':TT} {d:Option Nat} {v:V} (hd:T.Dp 9) (h:aHR T d v=some T'):T'.Dp 9∧fW T'=fB (fW T) d v:=by
  unfold aHR at h
  split at h
  · cases h; exact ⟨hd,rfl⟩
  · split at h
    · cases h
    · rename_i hi
      cases h; exact ⟨TT.put_dp hd,aAL hd hi v⟩
def exY (x : X) : iL → PrimA → Nat → (Nat → V) → aH → Option (V × aH) := match x with
  | .mv a=>fun call qa id T H=>some (ev T a,H)
  | .lazy ty sz=>fun call qa id T H=>some (.ms id ((H id).ver+1) 0 0,upd H id ⟨(H id).ver+1,true,true,ty,sz,[]⟩)
  | .pick c a b => fun call qa id T H => match asB (ev T c) with
    |some bb=>some (if bb then ev T a else ev T b,H)
    |none=>none
  | .alloc ty z=>fun call qa id T H=>some (.mp id ((H id).ver+1) 0 0,upd H id ⟨(H id).ver+1,true,false,ty,z.length,[z]⟩)
  | .box ty _ a=>fun call qa id T H=>some (.mp id ((H id).ver+1) 0 0,upd H id ⟨(H id).ver+1,true,false,ty,(ev T a).cells.length,[(ev T a).cells]⟩)
  | .build z ps=>fun call qa id T H=>(bld z (ps.map fun p=>(p.1,p.2.1,ev T p.2.2))).map fun cs=>(.agg cs,H)
  | .bslice ty esz own z len ps=>fun call qa id T H=>(lP esz (List.replicate len z) (ps.map fun p=>(p.1,ev T p.2))).map fun rows=>
      if own then (.ms id ((H id).ver+1) 0 rows.length,upd H id ⟨(H id).ver+1,true,false,ty,esz,rows⟩) else (.sl rows,H)
  | .load agg n a=>fun call qa id T H=>((ptr H (ev T a)).bind (ldV agg n)).map fun v=>(v,H)
  | .ldp agg n a=>fun call qa id T H=>((aFt (ev T a)).bind (ldV agg n)).map fun v=>(v,H)
  | .store n a b=>fun call qa id T H=>(stP H n (ev T b).cells (ev T a)).map fun H'=>(.raw undef,H')
  | .bin op a b=>fun call qa id T H=>(fU op (ev T a) (ev T b)).map fun v=>(v,H)
  | .sbin op a b=>fun call qa id T H=>(qT op (ev T a) (ev T b)).map fun v=>(v,H)
  | .bbin op a b=>fun call qa id T H=>(mT op (ev T a) (ev T b)).map fun v=>(v,H)
  | .abin neg q a b=>fun call qa id T H=>(rQ neg q (ev T a) (ev T b)).map fun v=>(v,H)
  | .un op a=>fun call qa id T H=>(unV op (ev T a)).map fun v=>(v,H)
  | .conv kd a=>fun call qa id T H=>(yM kd (ev T a)).map fun v=>(v,H)
  | .fld off a=>fun call qa id T H=>(aAD off (ev T a)).map fun v=>(v,H)
  | .part agg off n a=>fun call qa id T H=>(rU agg off n (ev T a)).map fun v=>(v,H)
  | .idx esz a i=>fun call qa id T H=>(pZ H esz (ev T a) (ev T i)).map fun v=>(v,H)
  | .sidx a i=>fun call qa id T H=>(aAW (ev T a) (ev T i)).map fun v=>(v,H)
  | .aidx agg n len a i=>fun call qa id T H=>(yP agg n len (ev T a) (ev T i)).map fun v=>(v,H)
  | .apos n len a i=>fun call qa id T H=>(wU n len (ev T a) (ev T i)).map fun v=>(v,H)
  | .slice esz a lo hi=>fun call qa id T H=>(kH H esz (lo.map (ev T)) (hi.map (ev T)) (ev T a)).map fun v=>(v,H)
  | .sslice a lo hi=>fun call qa id T H=>(oR (lo.map (ev T)) (hi.map (ev T)) (ev T a)).map fun v=>(v,H)
  | .mks ty esz bytes z l c=>fun call qa id T H=>(tY bytes (ev T l) (ev T c)).map fun n=>
      (.ms id ((H id).ver+1) 0 n.1,upd H id ⟨(H id).ver+1,true,false,ty,esz,List.replicate n.1 z⟩)
  | .ext a i=>fun call qa id T H=>(aEC i (ev T a)).map fun v=>(v,H)
  | .mkf f caps=>fun call qa id T H=>some (.fn f [] (evs T caps),H)
  | .bstr a=>fun call qa id T H=>(aB1 (ev T a)).map fun v=>(v,H)
  | .mkm f a b=>fun call qa id T H=>some (.fn f (evs T a) (evs T b),H)
  | .mki ty a=>fun call qa id T H=>(aGh (ev T a)).map fun c=>(.raw (.iface ty c),H)
  | .tas ty a=>fun call qa id T H=>(aF4 ty (ev T a)).map fun v=>(v,H)
  | .nilck a=>fun call qa id T H=>(yZ (ev T a)).map fun v=>(v,H)
  | .len a=>fun call qa id T H=>(wI H (ev T a)).map fun v=>(v,H)
  | .clr z a=>fun call qa id T H=>(aEW H z (ev T a)).map fun H'=>(.tup [],H')
  | .cpy n a b=>fun call qa id T H=>(aFn H n (ev T b) (ev T a)).map fun p=>(.int .i64 p.1,p.2)
  | .slen a=>fun call qa id T H=>(yT (ev T a)).map fun v=>(v,H)
  | .mn a b=>fun call qa id T H=>(mnV (ev T a) (ev T b)).map fun v=>(v,H)
  | .mn3 a b c=>fun call qa id T H=>((mnV (ev T a) (ev T b)).bind fun u=>mnV u (ev T c)).map fun v=>(v,H)
  | .mx a b=>fun call qa id T H=>(mxV (ev T a) (ev T b)).map fun v=>(v,H)
  | .append ty esz bytes s a => fun call qa id T H => match ev T s with
    | .ms i ver off len => if (H i).live && decide ((H i).ver = ver) then if off = 0 then if len = (H i).rows.length then if (H i).ty = ty then if (H i).sz = esz then
        match pV H (ev T a) with
        | some new => if dE esz new = true then if (len + new.length) * bytes ≤ 140737488355328 then if len + new.length ≤ 9223372036854775807 then
            some (.ms i (ver+1) 0 (len+new.length),upd H i {H i with ver:=ver+1,rows:=(H i).rows++new})
          else none else none else none
        |none=>none
        else none else none else none else none else none
    |_=>none
  | .call true f args=>fun call qa id T H=>call true f (evs T args) H
  | .call false f args => fun call qa id T H => match qa.p f (evs T args) with
    |some v=>some (v,H)
    |none=>call false f (evs T args) H
  | .callA f args=>fun call qa id T H=>(qa.a id f (evs T args) H).map fun p=>(p.1,upd H id p.2)
  | .callv e g args => fun call qa id T H => match ev T g with
    | .fn f first caps=>call e f (first++evs T args++caps) H
    |_=>none
  | .isnil neg a => fun call qa id T H => match ev T a with
    | .nilsl=>some (.bool (!neg),H)
    | .sl (_::_)=>some (.bool neg,H)
    |_=>none
  | .mkmap=>fun call qa id T H=>some (.mm id ((H id).ver+1),upd H id ⟨(H id).ver+1,true,true,gL,2,[[.nilp,.nilp]]⟩)
  | .mlook kd ok z m x=>fun call qa id T H=>(wA H kd z (ev T m) (ev T x)).map fun p=>(if ok then .tup [p.1,.bool p.2] else p.1,H)
  | .mset kd m x v=>fun call qa id T H=>(uH H kd (ev T m) (ev T x) (ev T v)).map fun H'=>(.raw undef,H')
  | .bad=>fun call qa id T H=>none
theorem aNg (call:iL) (qa:PrimA) (id:Nat) (x:X) (T:Nat→V) (H:aH):exY x call qa id T H=exX call qa id x T H:=by
  cases x <;> try rfl
  rename_i e f args; cases e <;> rfl
noncomputable def aDZ (call:iL) (qa:PrimA) (k0:Nat) (o:SO) (ih:TT→aH→Option (TT×aH)) (T:TT) (H:aH):Option (TT×aH):=match exY o.x call qa (k0+o.d.getD 0) (fW T) H with
  | some (v, H') => match aHR T o.d v with
    |some T'=>ih T' H'
    |none=>none
  |none=>none
noncomputable def aLd (o:SO) (ih:TT→aH→Option (TT×aH)) (T:TT) (H:aH):Option (TT×aH):=match aHR T o.d (.raw undef) with
  |some T'=>ih T' H
  |none=>none
noncomputable def aF2 (call:iL) (qa:PrimA) (k0:Nat) (o:SO) (ih:TT→aH→Option (TT×aH)) (T:TT) (H:aH):Option (TT×aH):=match o.g with
  |none=>aDZ call qa k0 o ih T H
  | some (t, want) => match gd want (fW T t) with
    |true=>aDZ call qa k0 o ih T H
    |false=>aLd o ih T H
noncomputable def oJ (call:iL) (qa:PrimA) (k0:Nat) (ops:List SO):TT→aH→Option (TT×aH):=
  List.rec (motive:=fun _=>TT→aH→Option (TT×aH)) (fun T H=>some (T,H)) (fun o _ ih T H=>aF2 call qa k0 o ih T H) ops
def aAe (a b:iL):Prop:= ∀ e f args H r,a e f args H=some r→b e f args H=some r
theorem aMx {c2 c1:iL} (hc:aAe c2 c1) {qa:PrimA} {id:Nat} {x:X} {T:Nat→V} {H:aH} {r:V×aH} (h:exX c2 qa id x T H=some r):exX c1 qa id x T H=some r:=by
  cases x <;> simp only [exX] at h ⊢ <;> try exact h
  case call e f args=>
    cases e with
    |true=>exact hc _ _ _ _ _ h
    | false =>
      simp only at h ⊢
      split
      · rename_i v hv; rw [hv] at h; exact h
      · rename_i hv; rw [hv] at h; exact hc _ _ _ _ _ h
  case callv e g args=>
    split
    · rename_i f first caps he; rw [he] at h; exact hc _ _ _ _ _ h
    · rename_i hn
      split at h
      · rename_i f first caps he; exact absurd he (hn f first caps)
      · exact h
theorem nQ {c2 c1 : iL} (hc : aAe c2 c1) {qa : PrimA} {k0 : Nat} : ∀ (ops : List SO) (T : TT) (H : aH) (T' : TT) (H' : aH), T.Dp 9 → oJ c2 qa k0 ops T H = some (T', H') → T'.Dp 9 ∧ lO c1 qa k0 ops (fW T) H = some (fW T', H')
  |[],T,H,T',H',hd,h=>by cases h; exact ⟨hd,rfl⟩
  | o :: r, T, H, T', H', hd, h => by
    have h:aF2 c2 qa k0 o (oJ c2 qa k0 r) T H=some (T',H'):=h
    have one:aDZ c2 qa k0 o (oJ c2 qa k0 r) T H=some (T',H')→T'.Dp 9∧ ∃ v H1,exX c1 qa (k0+o.d.getD 0) o.x (fW T) H=some (v,H1)∧lO c1 qa k0 r (fB (fW T) o.d v) H1=some (fW T',H'):=fun h=>by
      unfold aDZ at h
      rw [aNg] at h
      split at h
      · rename_i v H1 h1
        split at h
        · rename_i T1 hp
          obtain ⟨d1,e1⟩:=xX hd hp
          obtain ⟨d2,e2⟩:=nQ hc r T1 H1 T' H' d1 h
          exact ⟨d2,v,H1,aMx hc h1,by rw [← e1]; exact e2⟩
        · cases h
      · cases h
    unfold aF2 at h
    simp only [lO]
    split at h
    · rename_i hg
      obtain ⟨d2,v,H1,e1,e2⟩:=one h
      refine ⟨d2,?_⟩
      rw [hg]; simp only
      rw [e1]; exact e2
    · rename_i t want hg
      split at h
      · rename_i hb
        obtain ⟨d2,v,H1,e1,e2⟩:=one h
        refine ⟨d2,?_⟩
        rw [hg]; simp only
        rw [hb]; simp only
        rw [e1]; exact e2
      · rename_i hb
        unfold aLd at h
        split at h
        · rename_i T1 hp
          obtain ⟨d1,e1⟩:=xX hd hp
          obtain ⟨d2,e2⟩:=nQ hc r T1 H T' H' d1 h
          refine ⟨d2,?_⟩
          rw [hg]; simp only
          rw [hb]; simp only
          rw [← e1]; exact e2
        · cases h
noncomputable def vF:List (Nat ⊕ LzA)→TT→aH→TT×aH
  |[],T,H=>(T,H)
  | .inl id::l,T,H=>vF l (T.map (aJe id H)) (jO id H)
  | .inr a :: l, T, H => match (H a.id).rows with
    | r :: _ => match r[a.off]? with
      |some .nilsl=>if a.id'≠a.id∧(H a.id).own=true∧a.ty < 4294967296 then
          vF l T (upd (upd H a.id' ⟨(H a.id').ver+1,true,true,a.ty,a.sz,[]⟩) a.id {H a.id with rows:=(H a.id).rows.set 0 (r.set a.off (.ms a.id' ((H a.id').ver+1) 0 0))}) else vF l T H
      |_=>vF l T H
    |[]=>vF l T H
theorem kS : ∀ (l : List (Nat ⊕ LzA)) (T : TT) (H : aH), T.Dp 9 → (vF l T H).1.Dp 9 ∧ frz l (fW T) H = (fW (vF l T H).1, (vF l T H).2)
  |[],_,_,h=>⟨h,rfl⟩
  | .inl id :: l, T, H, h => by
    simp only [vF,frz]
    rw [← aHs]
    exact kS l _ _ (TT.map_dp h)
  | .inr a :: l, T, H, h => by
    simp only [vF,frz]
    cases hr:(H a.id).rows with
    |nil=>exact kS l _ _ h
    | cons r rs =>
      simp only
      cases hc:r[a.off]? with
      |none=>exact kS l _ _ h
      | some u =>
        cases u <;> simp only <;> try exact kS l _ _ h
        split <;> exact kS l _ _ h
noncomputable def zW (F:Nat→Option XF) (run:aBi) (k1:Nat):iL:=fun e f args H=>match F f with
  |none=>none
  | some g => if args.length ≤ g.s.n ∧ args.length ≤ 512 then match e with
    | true => match run k1 g.s.n g.fz g.s.body (tt0 args) H with
      |some (.exit _,_,_)=>none
      |some (.pan _,_,_)=>none
      |some (_,T',H')=>(nR g.s.res (fW T') H').map fun v=>(v,H')
      |none=>none
    | false => if dD (args.map (fzv false H 4)) then match run 0 g.s.n g.fz g.s.body (tt0 (args.map (fzv false H 4))) H0 with
        |some (.exit _,_,_)=>none
        |some (.pan _,_,_)=>none
        | some (_, T', H') => match nR g.s.res (fW T') H' with
          |some u=>if (fzv false H' 6 u).pure then if dD args||(fzv false H' 6 u).scalar then some (fzv false H' 6 u,H) else none else none
          |none=>none
        |none=>none
      else none
    else none
noncomputable def sD (q:jA) (F:Nat→Option XF) (run:aBi) (k1:Nat):iL:=fun e f args H=>match e with
  | true => match q f args H with
    |some r=>some r
    |none=>zW F run k1 true f args H
  |false=>zW F run k1 false f args H
noncomputable def aLi (c:SC):jA→PrimA→(Nat→Option XF)→aBi→Nat→Nat→List (Nat×Nat)→TT→aH→Option (Ex×TT×aH):=match c with
  | .skip=>fun q qa F run k0 n fz T H=>some (.norm,T,H)
  | .ret=>fun q qa F run k0 n fz T H=>some (.ret,T,H)
  | .exit j=>fun q qa F run k0 n fz T H=>some (.exit j,T,H)
  | .pop _ _=>fun q qa F run k0 n fz T H=>none
  | .reg ops => fun q qa F run k0 n fz T H => match oJ (sD q F run (kOf k0 fz H ops + n)) qa (kOf k0 fz H ops) ops T H with
    |some (T',H')=>some (.norm,T',H')
    |none=>none
  | .dreg gD ops => fun q qa F run k0 n fz T H => if gD.all (fun d => !(H (kOf k0 fz H ops + d)).live) then match oJ (sD q F run (kOf k0 fz H ops + n)) qa (kOf k0 fz H ops) ops T H with
    |some (T',H')=>some (.norm,T',H')
    |none=>none
    else none
  | .xreg ps ops => fun q qa F run k0 n fz T H => match oJ (sD q F run (kOf k0 fz H ops + n)) qa (kOf k0 fz H ops) ops T H with
    |some (T',H')=>if ddB ps ops (fW T')=true then some (.norm,T',H') else none
    |none=>none
  | .seq a b => fun q qa F run k0 n fz T H => match run k0 n fz a T H with
    | some (.norm, T', H') => match vF (aBW k0 fz b) T' H' with
      |(T2,H2)=>run k0 n fz b T2 H2
    |r=>r
  | .cond c a b => fun q qa F run k0 n fz T H => match asB (ev (fW T) c) with
    |some true=>run k0 n fz a T H
    |some false=>run k0 n fz b T H
    |none=>none
  | .block id a => fun q qa F run k0 n fz T H => match run k0 n fz a T H with
    |some (.exit j,T',H')=>if j=id then some (.norm,T',H') else some (.exit j,T',H')
    |r=>r
  | .loop a => fun q qa F run k0 n fz T H => match run k0 n fz a T H with
    |some (.norm,T',H')=>run k0 n fz (.loop a) T' H'
    |r=>r
noncomputable def aMX (q:jA) (qa:PrimA) (F:Nat→Option XF) (run:aBi):aBi:=fun k0 n fz c T H=>aLi c q qa F run k0 n fz T H
noncomputable def aAA (q:jA) (qa:PrimA) (F:Nat→Option XF) (m:Nat):aBi:=Nat.rec (fun _ _ _ _ _ _=>none) (fun _ ih=>aMX q qa F ih) m
theorem aE0 (q:jA) (qa:PrimA) (F:Nat→Option XF) (m:Nat):aAA q qa F (m+1)=aMX q qa F (aAA q qa F m):=rfl
section
variable {q:jA} {qa:PrimA} {F:Nat→Option XF}
def Sim (r2:aBi) (r:wP):Prop:= ∀ k0 n fz c T H e T' H',TT.Dp 9 T→r2 k0 n fz c T H=some (e,T',H')→TT.Dp 9 T'∧r k0 n fz c (fW T) H=some (e,fW T',H')
theorem aBh {r2 : aBi} {r : wP} (h : Sim r2 r) {k1 : Nat} : aAe (sD q F r2 k1) (mJ q F r k1) := by
  have h0 : aAe (zW F r2 k1) (rF F r k1) := by
    intro e f args H o ho
    unfold zW at ho
    unfold rF
    split at ho
    · cases ho
    · rename_i g hg
      rw [hg]; simp only
      split at ho
      · rename_i hl
        rw [if_pos hl.1]
        cases e with
        | true =>
          simp only at ho ⊢
          obtain ⟨d0,e0⟩:=aBJ hl.2
          cases hr:r2 k1 g.s.n g.fz g.s.body (tt0 args) H with
          |none=>rw [hr] at ho; cases ho
          | some p =>
            obtain ⟨x,T',H'⟩:=p
            obtain ⟨_,e1⟩:=h _ _ _ _ _ _ _ _ _ d0 hr
            rw [hr] at ho
            rw [← e0,e1]
            cases x <;> exact ho
        | false =>
          simp only at ho ⊢
          split at ho
          · rename_i hp
            rw [if_pos hp]
            obtain ⟨d0,e0⟩:=aBJ (args:=args.map (fzv false H 4)) (by rw [List.length_map]; exact hl.2)
            cases hr:r2 0 g.s.n g.fz g.s.body (tt0 (args.map (fzv false H 4))) H0 with
            |none=>rw [hr] at ho; cases ho
            | some p =>
              obtain ⟨x,T',H'⟩:=p
              obtain ⟨_,e1⟩:=h _ _ _ _ _ _ _ _ _ d0 hr
              rw [hr] at ho
              rw [← e0,e1]
              cases x <;> exact ho
          · cases ho
      · cases ho
  intro e f args H o ho
  cases e with
  |false=>exact h0 false f args H o ho
  | true =>
    simp only [sD] at ho
    simp only [mJ]
    split
    · rename_i r1 hq; rw [hq] at ho; exact ho
    · rename_i hq; rw [hq] at ho; exact h0 _ _ _ _ _ ho
theorem aHa : ∀ m, Sim (aAA q qa F m) (run q qa F m) := by
  intro m
  induction m with
  |zero=>intro k0 n fz c T H e T' H' _ h; cases h
  | succ m ih =>
    intro k0 n fz c T H e T' H' hd h
    rw [aE0] at h
    rw [oU]
    have ops: ∀ {os:List SO} {k:Nat} {T1:TT} {H1:aH},oJ (sD q F (aAA q qa F m) (k+n)) qa k os T H=some (T1,H1)→TT.Dp 9 T1∧lO (mJ q F (run q qa F m) (k+n)) qa k os (fW T) H=some (fW T1,H1):=
      fun h=>nQ (aBh ih) _ _ _ _ _ hd h
    cases c <;> simp only [aMX,aLi] at h <;> simp only [aHq]
    case skip=>cases h; exact ⟨hd,rfl⟩
    case ret=>cases h; exact ⟨hd,rfl⟩
    case exit=>cases h; exact ⟨hd,rfl⟩
    case pop=>cases h
    case reg os=>
      split at h
      · rename_i T1 H1 h1
        cases h
        obtain ⟨a,b⟩:=ops h1
        exact ⟨a,by rw [b]; rfl⟩
      · cases h
    case dreg gD os=>
      split at h
      · rename_i hl
        rw [if_pos hl]
        split at h
        · rename_i T1 H1 h1
          cases h
          obtain ⟨a,b⟩:=ops h1
          exact ⟨a,by rw [b]; rfl⟩
        · cases h
      · cases h
    case xreg ps os=>
      split at h
      · rename_i T1 H1 h1
        obtain ⟨a,b⟩:=ops h1
        split at h
        · rename_i hdd
          cases h
          exact ⟨a,by rw [b]; simp only; rw [if_pos hdd]⟩
        · cases h
      · cases h
    case seq a b=>
      cases hr:aAA q qa F m k0 n fz a T H with
      |none=>rw [hr] at h; cases h
      | some p =>
        obtain ⟨x,T1,H1⟩:=p
        rw [hr] at h
        obtain ⟨d1,e1⟩:=ih _ _ _ _ _ _ _ _ _ hd hr
        rw [e1]
        cases x with
        | norm =>
          simp only at h ⊢
          obtain ⟨d2,e2⟩:=kS (aBW k0 fz b) T1 H1 d1
          rw [e2]
          exact ih _ _ _ _ _ _ _ _ _ d2 h
        |ret=>cases h; exact ⟨d1,rfl⟩
        |exit j=>cases h; exact ⟨d1,rfl⟩
        |pan c=>cases h; exact ⟨d1,rfl⟩
    case cond c a b=>
      split at h
      · rename_i hb; rw [hb]; exact ih _ _ _ _ _ _ _ _ _ hd h
      · rename_i hb; rw [hb]; exact ih _ _ _ _ _ _ _ _ _ hd h
      · cases h
    case block id a=>
      cases hr:aAA q qa F m k0 n fz a T H with
      |none=>rw [hr] at h; cases h
      | some p =>
        obtain ⟨x,T1,H1⟩:=p
        rw [hr] at h
        obtain ⟨d1,e1⟩:=ih _ _ _ _ _ _ _ _ _ hd hr
        rw [e1]
        cases x with
        | exit j =>
          simp only at h ⊢
          split at h
          · rename_i hj; cases h; exact ⟨d1,by rw [if_pos hj]⟩
          · rename_i hj; cases h; exact ⟨d1,by rw [if_neg hj]⟩
        |norm=>cases h; exact ⟨d1,rfl⟩
        |ret=>cases h; exact ⟨d1,rfl⟩
        |pan c=>cases h; exact ⟨d1,rfl⟩
    case loop a=>
      cases hr:aAA q qa F m k0 n fz a T H with
      |none=>rw [hr] at h; cases h
      | some p =>
        obtain ⟨x,T1,H1⟩:=p
        rw [hr] at h
        obtain ⟨d1,e1⟩:=ih _ _ _ _ _ _ _ _ _ hd hr
        rw [e1]
        cases x with
        |norm=>exact ih _ _ _ _ _ _ _ _ _ d1 h
        |ret=>cases h; exact ⟨d1,rfl⟩
        |exit j=>cases h; exact ⟨d1,rfl⟩
        |pan c=>cases h; exact ⟨d1,rfl⟩
theorem aAG {P:Program} (hq:fV P q) (hqa:eO P qa) (hF:aBu P F) (m:Nat) {f:Nat} {args:List V} {v:V} (hp:dD args=true) (h:(sD q F (aAA q qa F m) 0 false f args H0).map (·.1)=some v):aZ P f args v:=by
  rw [Option.map_eq_some_iff] at h
  obtain ⟨p,h1,h2⟩:=h
  exact aAz hq hqa hF m hp (by rw [aBh (aHa m) _ _ _ _ _ h1]; exact congrArg some h2)
inductive FT where
  |lf
  |nd (k:Nat) (x:XF) (l r:FT)
def FT.find:FT→Nat→Option XF
  | .lf,_=>none
  | .nd k x l r,f=>cond (Nat.beq f k) (some x) (cond (Nat.blt f k) (l.find f) (r.find f))
def FT.list:FT→List (Nat×XF)
  | .lf=>[]
  | .nd k x l r=>(k,x)::(l.list++r.list)
theorem FT.mem: ∀ {t:FT} {f:Nat} {g:XF},t.find f=some g→(f,g)∈t.list
  | .nd k x l r, f, g, h => by
    simp only [FT.find] at h
    cases hb:Nat.beq f k with
    | true =>
      rw [hb] at h
      simp only [cond_true,Option.some.injEq] at h
      rw [Nat.eq_of_beq_eq_true hb,h]
      exact List.mem_cons_self ..
    | false =>
      rw [hb] at h
      simp only [cond_false] at h
      refine List.mem_cons_of_mem _ (List.mem_append.2 ?_)
      cases hc:Nat.blt f k with
      |true=>rw [hc] at h; exact .inl (FT.mem h)
      |false=>rw [hc] at h; exact .inr (FT.mem h)
theorem FT.good {P:Program} {t:FT} (h: ∀ p∈t.list,aR4 P p):aBu P t.find:=fun f g hg=>h _ (FT.mem hg)
end
def eqL (f:V→V→Bool):List V→List V→Bool
  |[],[]=>true
  |a::l,b::m=>f a b&&eqL f l m
  |_,_=>false
def aIr (f:V→V→Bool):List (List V)→List (List V)→Bool
  |[],[]=>true
  |a::l,b::m=>eqL f a b&&aIr f l m
  |_,_=>false
def eqV : Nat → V → V → Bool
  |0,_,_=>false
  | n + 1, u, v => match u, v with
    | .int .i64 a,.int .i64 b=>decide (a=b)
    | .bool a,.bool b=>a==b
    | .sl a,.sl b=>aIr (eqV n) a b
    | .agg a,.agg b=>eqL (eqV n) a b
    | .nilsl,.nilsl=>true
    |_,_=>false
theorem mU {f:V→V→Bool} (hf: ∀ a b,f a b=true→a=b): ∀ {l m:List V},eqL f l m=true→l=m
  |[],[],_=>rfl
  | a :: l, b :: m, h => by
    simp only [eqL,Bool.and_eq_true] at h
    rw [hf _ _ h.1,mU hf h.2]
  |[],_::_,h=>by cases h
  |_::_,[],h=>by cases h
theorem uQ {f:V→V→Bool} (hf: ∀ a b,f a b=true→a=b): ∀ {l m:List (List V)},aIr f l m=true→l=m
  |[],[],_=>rfl
  | a :: l, b :: m, h => by
    simp only [aIr,Bool.and_eq_true] at h
    rw [mU hf h.1,uQ hf h.2]
  |[],_::_,h=>by cases h
  |_::_,[],h=>by cases h
theorem rJ: ∀ (n:Nat) (u v:V),eqV n u v=true→u=v
  |0,_,_,h=>by cases h
  | n + 1, u, v, h => by
    unfold eqV at h
    split at h
    · rw [of_decide_eq_true h]
    · rw [eq_of_beq h]
    · rw [uQ (rJ n) h]
    · rw [mU (rJ n) h]
    · rfl
    · cases h
abbrev gV:=Nat×List V×V
def aSV (l:List gV):PrimA:=⟨fun _ _ _ _=>none,fun f args=>(l.find? fun p=>Nat.beq p.1 f&&eqL (eqV 12) p.2.1 args).map (·.2.2)⟩
theorem aHE {P:Program} {l:List gV} (h: ∀ p∈l,aZ P p.1 p.2.1 p.2.2):eO P (aSV l):=
  ⟨fun _ _ _ _ _ _ h=>(by cases h),fun f args v hv=>by
    obtain ⟨p,hp,rfl⟩:=Option.map_eq_some_iff.1 hv
    have h1:=List.find?_some hp
    rw [Bool.and_eq_true] at h1
    have h2:=h p (List.mem_of_find?_eq_some hp)
    rw [Nat.eq_of_beq_eq_true h1.1,mU (rJ 12) h1.2] at h2
    exact h2⟩
def orB (a b:PrimA):PrimA:=⟨fun id f args H=>match a.a id f args H with
  |some r=>some r
  |none=>b.a id f args H,fun f args=>match a.p f args with
  |some r=>some r
  |none=>b.p f args⟩
theorem aLY {P:Program} {a b:PrimA} (ha:eO P a) (hb:eO P b):eO P (orB a b):=
  ⟨fun id f args H v bb h=>by
    simp only [orB] at h
    split at h
    · rename_i r hr; cases h; exact ha.1 _ _ _ _ _ _ hr
    · exact hb.1 _ _ _ _ _ _ h,fun f args v h=>by
    simp only [orB] at h
    split at h
    · rename_i r hr; cases h; exact ha.2 _ _ _ hr
    · exact hb.2 _ _ _ h⟩
end Go.Proofs.YtilfohjlglefjaaGreat
namespace Go.Proofs.YtilfohjlglefjaaGreat
open Go Go.Proofs
def s56:SF:=⟨8,[.tmp 2],.seq (.reg [sO 2 (.lazy 3 1)]) (.seq (.seq (.reg [qM 3 0,sO 4 (.isnil false (.t 3))]) (.cond (.t 4) (.seq (.reg [sO 2 (.lazy 3 1)]) (.ret)) (.skip))) (.seq (.reg [sO 5 (.lazy 3 1),qM 6 0,sO 7 (.append 3 1 8 (.t 5) (.t 6)),qM 2 7]) (.ret)))⟩
theorem aCc:aN Tryz.prog ⟨[58,129,130,131,149,155,161,182,183,185,191,192,208,209,210,224,228,231,236],[2,5],[],[]⟩ Tryz.f56=some s56:=by kernel_rfl
theorem nX (l:List Int) (hl:l.length≤4294967296):aZ Tryz.prog 56 [(aY l)] (aY l):=by
 refine pW Tryz.func56 aCc fun hB=>?_
 unfold s56
 dsimp only
 refine W_r (hU (i:=2) (n:=0) rfl (congrArg Blk.ver rfl) (R_e (aC (mX fun K hK=>(aA rfl ?_)))))
 refine nT (@rfl V (aY l)) (fun e1=>?_) ?_
 ·
  replace e1:=List.map_eq_nil_iff.1 e1
  refine fQ (hK _ _ ?_); clear hK K
  refine cZ (R:=fun T H=>T 0=(aY l)∧T 4=(V.bool true)∧H 2=(bz 1 3 1 [])∧H 5=(⟨0,false,false,0,0,[]⟩:Blk)∧True) ⟨rfl,rfl,rfl,rfl,trivial⟩ ?_
  intro T H ⟨t0,t4,h2,h5,_⟩
  refine eB t4 (fun c4=>?_) (fun c4=>?_)
  ·
   refine aC (W_r (hU (i:=2) (n:=1) rfl (congrArg Blk.ver h2) (R_e (aR ?_))))
   refine bB (@rfl V (V.ms 2 2 0 (0))) (nI (@rfl Blk (bz 2 3 1 [])) (by first|rfl|simp) (l:=[]) rfl (by first|rfl|simp) (fun _=>by simp) ?_)
   · exact e1.symm
  · cases c4
 ·
  refine fQ (hK _ _ ?_); clear hK K
  refine cZ (R:=fun T H=>T 0=(aY l)∧T 4=(V.bool false)∧H 2=(bz 1 3 1 [])∧H 5=(⟨0,false,false,0,0,[]⟩:Blk)∧True) ⟨rfl,rfl,rfl,rfl,trivial⟩ ?_
  intro T H ⟨t0,t4,h2,h5,_⟩
  refine eB t4 (fun c7=>?_) (fun c7=>?_)
  · cases c7
  refine aG (W_r (hU (i:=5) (n:=0) rfl (congrArg Blk.ver h5) (aA t0 (kM (l:=([])) (m:=l) (f:=cI) (@rfl V (V.ms 5 1 0 (0))) (show _=(bz 1 3 1 (List.map cI ([]))) from (@rfl Blk (bz 1 3 1 []))) (by first|rfl|simp) (@rfl V (aY l)) (fun _=>rfl) (fun _=>rfl) (by omega) (by omega) (aA rfl (R_e (bI ?_)))))))
  refine bB (@rfl V (V.ms 5 2 0 (0+(l).length))) (nI (@rfl Blk (bz 2 3 1 (List.map cI ([]++l)))) (by first|rfl|simp) (l:=([]++l)) rfl (by first|rfl|simp) (fun _=>by simp) ?_)
  · rfl
theorem aGB (i:Nat) (h5:5≤i) (l:List Int) (u:Nat) (Hi:aH) (hq:(Hi i).ver=u) (hl:l.length≤4294967296):dM Tryz.prog 56 [(aY l)] Hi (V.ms i (u+3) 0 (l.length)) (upd Hi i (bz (u+3) 3 1 (List.map cI (l)))):=by
 refine eW (k0:=i - 2) Tryz.func56 aCc fun hB=>?_
 unfold s56
 dsimp only
 refine W_r (hU (i:=i) (n:=u) (by omega) hq (R_e (aC (mX fun K hK=>(aA rfl ?_)))))
 refine nT (@rfl V (aY l)) (fun e1=>?_) ?_
 ·
  replace e1:=List.map_eq_nil_iff.1 e1
  refine fQ (hK _ _ ?_); clear hK K
  refine cZ (R:=fun T H=>T 0=(aY l)∧T 4=(V.bool true)∧(∀ j,j∉[i]→H j=Hi j)∧H i=(bz (u+1) 3 1 [])∧True) ⟨rfl,rfl,(eT (fun _ _=>rfl) (by simp)),(aE _ _ _),trivial⟩ ?_
  intro T H ⟨t0,t4,hF,hi,_⟩
  refine eB t4 (fun c4=>?_) (fun c4=>?_)
  ·
   refine aC (W_r (hU (i:=i) (n:=(u+1)) (by omega) (congrArg Blk.ver hi) (R_e (aR (cZ (R:=fun T H=>T 2=(V.ms i (u+2) 0 (0))∧(∀ j,j∉[i]→H j=Hi j)∧H i=(bz (u+2) 3 1 [])∧True) ⟨(@rfl V (V.ms i (u+2) 0 (0))),(eT hF (by simp)),(aE _ _ _),trivial⟩ ?_)))))
   intro T H ⟨t2,hF,hi,_⟩
   skip
   have fh:=fA.fin (fA.put (B:=(bz (u+3) 3 1 (List.map cI (l)))) (fA.start hF) hi (jL.up (by omega) (by first|rfl|(rw [e1]; rfl)|simp)))
   exact jN t2 fh (fG.trans_eq (fG.ms (n:=(u+3)) fh (by simp [hi]) (by simp [hi]) (by simp) (by simp)) (by first|rfl|(rw [e1]; rfl)|simp))
  · cases c4
 ·
  refine fQ (hK _ _ ?_); clear hK K
  refine cZ (R:=fun T H=>T 0=(aY l)∧T 4=(V.bool false)∧(∀ j,j∉[i]→H j=Hi j)∧H i=(bz (u+1) 3 1 [])∧True) ⟨rfl,rfl,(eT (fun _ _=>rfl) (by simp)),(aE _ _ _),trivial⟩ ?_
  intro T H ⟨t0,t4,hF,hi,_⟩
  refine eB t4 (fun c7=>?_) (fun c7=>?_)
  · cases c7
  refine aG (aSI (i - 5) (hU (i:=i) (n:=(u+1)) (by omega) (congrArg Blk.ver hi) (aA t0 (kM (l:=([])) (m:=l) (f:=cI) (@rfl V (V.ms i (u+2) 0 (0))) (show _=(bz (u+2) 3 1 (List.map cI ([]))) from (aE _ _ _)) (by first|rfl|simp) (@rfl V (aY l)) (fun _=>rfl) (fun _=>rfl) (by omega) (by omega) (aA rfl (R_e (bI ?_)))))))
  refine cZ (R:=fun T H=>T 2=(V.ms i (u+3) 0 (0+(l).length))∧(∀ j,j∉[i]→H j=Hi j)∧H i=(bz (u+3) 3 1 (List.map cI ([]++l)))∧True) ⟨(@rfl V (V.ms i (u+3) 0 (0+(l).length))),(eT (eT hF (by simp)) (by simp)),(aE _ _ _),trivial⟩ ?_
  intro T H ⟨t2,hF,hi,_⟩
  skip
  have fh:=fA.fin (fA.put (B:=(bz (u+3) 3 1 (List.map cI (l)))) (fA.start hF) hi (jL.eq (by first|rfl|(rw [e1]; rfl)|simp)))
  exact jN t2 fh (fG.trans_eq (fG.same fh _) (by first|rfl|(rw [e1]; rfl)|simp))
def rN:List (List V)→Option (List Int)
  |[]=>some []
  |[.int .i64 n]::l=>(rN l).map (n:: ·)
  |_=>none
theorem mW: ∀ {rows:List (List V)} {l:List Int},rN rows=some l→rows=l.map cI
  |[],l,h=>by cases h; rfl
  | [.int .i64 n] :: r, l, h => by
    simp only [rN,Option.map_eq_some_iff] at h
    obtain ⟨m,h1,rfl⟩:=h
    rw [mW h1]; rfl
def mP : PrimA := ⟨fun id g args H => if g = 56 ∧ 5 ≤ id then match args with
    | [.sl rows] => match rN rows with
      |some l=>if l.length≤4294967296 then some (.ms id ((H id).ver+3) 0 l.length,⟨(H id).ver+3,true,true,3,1,l.map cI⟩) else none
      |none=>none
    |[.nilsl]=>some (.ms id ((H id).ver+3) 0 0,⟨(H id).ver+3,true,true,3,1,[]⟩)
    |_=>none
  else none,fun g args=>if g=56 then match args with
    | [.sl rows] => match rN rows with
      |some l=>if l.length≤4294967296 then some (.sl (l.map cI)) else none
      |none=>none
    |_=>none
  else none⟩
theorem wD {P:Program} {f:Nat} {H H':aH} {v:V} (h:dM P f [.sl []] H v H'):dM P f [.nilsl] H v H':=
  ⟨h.1,fun x cs hxH hx hr=>h.2 x cs hxH hx ⟨hr.1,fun j u hj=>by
    match j,hj with
    | 0, hj =>
      cases hj
      have q:=hr.2 0 _ rfl
      generalize hv:V.nilsl=w at q
      generalize cs.getD 0 undef=c at q ⊢
      cases q <;> cases hv
      exact .slnil
    |n+1,hj=>simp at hj⟩⟩
theorem aAg : eO Tryz.prog mP := by
  constructor
  · intro id g args H v b h
    unfold mP at h
    dsimp only at h
    split at h
    · rename_i hg
      obtain ⟨rfl,h5⟩:=hg
      split at h
      · rename_i rows
        split at h
        · rename_i l hl
          split at h
          · rename_i hn
            cases h
            refine ⟨rfl,fun H2 h2=>?_⟩
            rw [mW hl]
            exact aGB id h5 l _ H2 (by rw [h2]) hn
          · cases h
        · cases h
      · cases h
        refine ⟨rfl,fun H2 h2=>wD ?_⟩
        exact aGB id h5 [] _ H2 (by rw [h2]) (by decide)
      · cases h
    · cases h
  · intro g args v h
    unfold mP at h
    dsimp only at h
    split at h
    · rename_i hg
      subst hg
      split at h
      · rename_i rows
        split at h
        · rename_i l hl
          split at h
          · rename_i hn
            cases h
            rw [mW hl]
            exact nX l hn
          · cases h
        · cases h
      · cases h
    · cases h
def aP0:List SO:=[
 qM 16 5,
 qC 17 .add 16 1,
 qM 18 3,
 qN 19 18,
 qP 20 .eql 17 19,
 qM 21 20,
 ⟨some (21,false),some 22,.mv (.t 3)⟩,
 ⟨some (21,false),some 23,.mv (.t 5)⟩,
 ⟨some (21,false),some 24,.bin .add (.t 23) (.c (.int .i64 1))⟩,
 ⟨some (21,false),some 25,.idx 1 (.t 22) (.t 24)⟩,
 ⟨some (21,false),some 26,.load false 1 (.t 25)⟩,
 ⟨some (21,false),some 27,.mv (.t 6)⟩,
 ⟨some (21,false),some 28,.call false 170 [.t 26,.t 27]⟩,
 ⟨some (21,false),some 29,.un .not (.t 28)⟩,
 sO 30 (.pick (.t 21) (.c (.bool true)) (.t 29))]
def aFM:SC:=.seq (.reg [qP 12 .lss 11 10]) (.seq (.cond (.t 12) (.skip) (.exit 0)) (.seq (.block 1 (.seq (.reg [qM 13 11,qA 14 1 9 11,ql 15 14,qM 5 13,qM 6 15]) (.seq (.reg aP0) (.cond (.t 30) (.reg [qM 31 4,qM 32 6,sO 33 (.bslice 38 1 false [.nilsl] 1 [(0,.t 32)]),sO 34 (.append 38 1 24 (.t 31) (.t 33)),qM 4 34]) (.skip))))) (.reg [qC 35 .add 11 1,qM 11 35])))
def aSd:SF:=⟨38,[.tmp 2],.seq (.reg [sO 2 (.mv (.c (.nilsl)))]) (.seq (.reg [qM 7 0,sO 8 (.call false 168 [.t 7,.c (.fn 169 [] [])]),qM 3 8]) (.seq (.reg [sO 4 (.lazy 38 1)]) (.seq (.seq (.reg [qM 9 3,qN 10 9,qI 11 0]) (.block 0 (.loop aFM))) (.seq (.reg [qM 36 4,sO 37 (.call false 123 [.t 36]),qM 2 37]) (.ret)))))⟩
theorem aJR:aN Tryz.prog ⟨[58,129,130,131,149,155,161,182,183,185,191,192,208,209,210,224,228,231,236],[4],[],[]⟩ Tryz.f122=some aSd:=by kernel_rfl
def aSK:SF:=⟨5,[.tmp 2],.seq (.reg [sO 2 (.mv (.c (.nilsl)))]) (.seq (.reg [qM 3 0,sO 4 (.call false 168 [.t 3,.c (.fn 171 [] [])]),qM 2 4]) (.ret))⟩
theorem aJT:aN Tryz.prog ⟨[58,129,130,131,149,155,161,182,183,185,191,192,208,209,210,224,228,231,236],[],[],[]⟩ Tryz.f123=some aSK:=by kernel_rfl
def aCG:SC:=.seq (.reg [qP 19 .lss 18 17]) (.seq (.cond (.t 19) (.skip) (.exit 0)) (.seq (.block 1 (.seq (.reg [qM 20 18,qA 21 1 16 18,ql 22 21,qM 6 20,qM 7 22]) (.reg [qM 23 5,qM 24 6,qM 25 7,sO 26 (.call false 56 [.t 25]),qA 27 1 23 24,sN (.store 1 (.t 27) (.t 26))]))) (.reg [qC 28 .add 18 1,qM 18 28])))
def aNG:SF:=⟨30,[.tmp 4],.seq (.reg [sO 3 (.box 255 1 (.t 1)),sO 4 (.mv (.c (.nilsl)))]) (.seq (.reg [qM 8 0,sO 9 (.call true 208 [.t 8]),qM 5 9]) (.seq (.reg [qM 10 5,ql 11 3,sO 12 (.call true 209 [.t 10,.t 11])]) (.seq (.reg [qM 13 5,sO 14 (.mkf 211 [.t 3]),sO 15 (.call true 210 [.t 13,.t 14]),qM 5 15]) (.seq (.seq (.reg [qM 16 5,qN 17 16,qI 18 0]) (.block 0 (.loop aCG))) (.seq (.reg [qM 29 5,qM 4 29]) (.ret))))))⟩
theorem aC8:aN Tryz.prog ⟨[58,129,130,131,149,155,161,182,183,185,191,192,208,209,210,224,228,231,236],[],[],[]⟩ Tryz.f168=some aNG:=by kernel_rfl
def aHB:SF:=⟨8,[.tmp 4],.seq (.reg [qI 4 0]) (.seq (.reg [qM 5 0,qM 6 1,sO 7 (.call false 212 [.t 5,.t 6]),qM 4 7]) (.ret))⟩
theorem aEo:aN Tryz.prog ⟨[58,129,130,131,149,155,161,182,183,185,191,192,208,209,210,224,228,231,236],[],[],[]⟩ Tryz.f169=some aHB:=by kernel_rfl
def aGI:SC:=.seq (.reg [qP 12 .lss 11 10]) (.seq (.cond (.t 12) (.skip) (.exit 0)) (.seq (.block 1 (.seq (.reg [qM 13 11,qA 14 1 9 11,ql 15 14,qM 5 13,qM 6 15]) (.seq (.seq (.reg [qM 16 5,qM 17 1,qN 18 17,qP 19 .geq 16 18]) (.cond (.t 19) (.seq (.reg [qI 4 1]) (.ret)) (.skip))) (.seq (.reg [qM 20 1,qM 21 5,qA 22 1 20 21,ql 23 22,qM 7 23]) (.seq (.reg [qM 24 6,qM 25 7,sO 26 (.call false 215 [.t 24,.t 25]),qM 8 26]) (.seq (.reg [qM 27 8,qC 28 .neq 27 0]) (.cond (.t 28) (.seq (.reg [qM 29 8,qM 4 29]) (.ret)) (.skip)))))))) (.reg [qC 30 .add 11 1,qM 11 30])))
def aHF:SF:=⟨36,[.tmp 4],.seq (.reg [qI 4 0]) (.seq (.seq (.reg [qM 9 0,qN 10 9,qI 11 0]) (.block 0 (.loop aGI))) (.seq (.seq (.reg [qM 31 0,qN 32 31,qM 33 1,qN 34 33,qP 35 .lss 32 34]) (.cond (.t 35) (.seq (.reg [sO 4 (.mv (.c (.int .i64 (-1))))]) (.ret)) (.skip))) (.seq (.reg [qI 4 0]) (.ret))))⟩
theorem aDk:aN Tryz.prog ⟨[58,129,130,131,149,155,161,182,183,185,191,192,208,209,210,224,228,231,236],[],[],[]⟩ Tryz.f212=some aHF:=by kernel_rfl
def aHX:SF:=⟨20,[.tmp 4],.seq (.reg [qI 4 0]) (.seq (.reg [qM 7 0,sO 8 (.call false 233 [.t 7]),qM 5 8]) (.seq (.reg [qM 9 1,sO 10 (.call false 233 [.t 9]),qM 6 10]) (.seq (.seq (.reg [qM 11 5]) (.cond (.t 11) (.seq (.seq (.reg [qM 12 6]) (.cond (.t 12) (.seq (.reg [qI 4 0]) (.ret)) (.skip))) (.seq (.reg [sO 4 (.mv (.c (.int .i64 (-1))))]) (.ret))) (.skip))) (.seq (.seq (.reg [qM 13 6]) (.cond (.t 13) (.seq (.reg [qI 4 1]) (.ret)) (.skip))) (.seq (.seq (.reg [qM 14 0,qM 15 1,qP 16 .lss 14 15]) (.cond (.t 16) (.seq (.reg [sO 4 (.mv (.c (.int .i64 (-1))))]) (.ret)) (.skip))) (.seq (.seq (.reg [qM 17 0,qM 18 1,qP 19 .gtr 17 18]) (.cond (.t 19) (.seq (.reg [qI 4 1]) (.ret)) (.skip))) (.seq (.reg [qI 4 0]) (.ret))))))))⟩
theorem aEf:aN Tryz.prog ⟨[58,129,130,131,149,155,161,182,183,185,191,192,208,209,210,224,228,231,236],[],[],[]⟩ Tryz.f215=some aHX:=by kernel_rfl
def aJy:SF:=⟨6,[.tmp 2],.seq (.reg [sO 2 (.mv (.c (.bool false)))]) (.seq (.reg [qM 3 0,qM 4 0,qP 5 .neq 3 4,qM 2 5]) (.ret))⟩
theorem aDq:aN Tryz.prog ⟨[58,129,130,131,149,155,161,182,183,185,191,192,208,209,210,224,228,231,236],[],[],[]⟩ Tryz.f233=some aJy:=by kernel_rfl
theorem vA (n:Int):aZ Tryz.prog 233 [(iV (n))] (V.bool false):=by
 refine pW Tryz.func233 aDq fun hB=>?_
 unfold aJy
 dsimp only
 refine W_r (aA rfl (R_e (W_r (aA rfl (aA rfl (cG rfl rfl (aA rfl ?_)))))))
 refine R_e (bI ?_)
 refine bB (@rfl V (V.bool (decide ((n)≠(n))))) (bJ ?_)
 · simp
theorem sS (x y:Int):aZ Tryz.prog 215 [(iV (x)),(iV (y))] (iV (qO x y)):=by
 refine pW Tryz.func215 aEf fun hB=>?_
 unfold aHX
 dsimp only
 refine W_r (aA rfl (R_e (W_r (aA rfl (bE (vA ((x))) rfl (aA rfl (R_e ?_)))))))
 refine W_r (aA rfl (bE (vA ((y))) rfl (aA rfl (R_e (aC (W_r (aA rfl ?_)))))))
 refine R_e ?_
 refine eB rfl (fun c1=>?_) (fun c1=>?_)
 · cases c1
 refine aG (aC (W_r (aA rfl (R_e ?_))))
 refine eB rfl (fun c2=>?_) (fun c2=>?_)
 · cases c2
 refine aG (aC (W_r (aA rfl (aA rfl (bQ rfl rfl (R_e ?_))))))
 refine aL rfl (fun c3=>?_) fun c3=>?_
 ·
  refine aC (W_r (aA rfl (R_e (aR ?_))))
  refine bB (@rfl V (iV (-1:Int))) (aM ?_)
  · unfold qO; repeat (split <;> first|rfl|omega|skip)
 refine aG (aC (W_r (aA rfl (aA rfl (fP rfl rfl (R_e ?_))))))
 refine aL rfl (fun c4=>?_) fun c4=>?_
 ·
  refine aC (W_r (aA rfl (R_e (aR ?_))))
  refine bB (@rfl V (iV (1:Int))) (aM ?_)
  · unfold qO; repeat (split <;> first|rfl|omega|skip)
 refine aG (W_r (aA rfl (R_e (bI ?_))))
 refine bB (@rfl V (iV (0:Int))) (aM ?_)
 · unfold qO; repeat (split <;> first|rfl|omega|skip)
theorem nO (a b:List Int):aZ Tryz.prog 212 [(aY a),(aY b)] (iV (bC a b)):=by
 refine pW Tryz.func212 aDk fun hB=>?_
 unfold aHF
 dsimp only
 refine W_r (aA rfl (R_e (aC (W_r (aA rfl (bO rfl (aA rfl ?_)))))))
 refine R_e (aI fun Q1 n1 x1 y1 z1=>?_)
 refine cP (fun mm T H=> ∃ (k:Nat),mm=a.length - k∧T 0=(aY a)∧T 1=(aY b)∧T 9=(aY a)∧T 10=(iV ((a.length:Nat):Int))∧T 11=(iV ((k:Nat):Int))∧(k≤a.length)∧(k≤cmn a b)) ?_ ?_
 ·
  refine ⟨_,0,rfl,rfl,rfl,rfl,rfl,(Eq.trans (@rfl V (iV (0:Int))) rfl),?_,?_⟩
  · omega
  · exact Nat.zero_le _
 intro mm T H ⟨k,hmm,t0,t1,t9,t10,t11,hk,hc⟩ Q2 p12 p22 p32
 unfold aGI
 refine W_r (bQ t11 t10 (R_e ?_))
 refine aL rfl (fun c3=>?_) fun c3=>?_
 ·
  refine aG (aI fun Q4 n4 x4 y4 z4=>(W_r (aA t11 (bK (i:=k) t9 t11 (by omega) rfl (aJ rfl rfl (aA rfl (aA rfl ?_)))))))
  refine R_e (aC (W_r (aA rfl (aA t1 (bO rfl (jV rfl rfl (R_e ?_)))))))
  refine aL rfl (fun c5=>?_) fun c5=>?_
  ·
   refine aC (W_r (aA rfl (R_e (aR (y4 _ _ (p22 _ _ (y1 _ _ ?_)))))))
   refine bB (@rfl V (iV (1:Int))) (aM ?_)
   · have g1:=pP a b
     have g2:=wZ a b
     have g3:=iK hc (by omega)
     simp only [bC,qO,g3] at*; repeat (split <;> first|rfl|omega|skip)
  refine aG (W_r (aA t1 (aA rfl (bK (i:=k) (@rfl V (aY b)) (@rfl V (iV ((k:Nat):Int))) (by omega) rfl (aJ rfl rfl (aA rfl (R_e ?_)))))))
  refine W_r (aA rfl (aA rfl (bE (sS (((nth (a) (k)))) (((nth (b) (k))))) rfl (aA rfl (R_e (W_r (aA rfl ?_)))))))
  refine cG rfl rfl (R_e ?_)
  refine fO rfl (fun c6=>?_) fun c6=>?_
  ·
   have c9:nth a k≠nth b k:=fun e=>c6 (yG.2 e)
   refine W_r (aA rfl (aA rfl (R_e (bI (y4 _ _ (p22 _ _ (y1 _ _ ?_)))))))
   refine bB (@rfl V (iV (qO (((nth (a) (k)))) (((nth (b) (k))))))) (aM ?_)
   · have g1:=pP a b
     have g2:=wZ a b
     have g3:=iK hc (by omega)
     simp only [bC,qO,g3] at*; repeat (split <;> first|rfl|omega|skip)
  refine dC (n4 _ _ (.done (W_t (bS t11 (@rfl V (iV ((1:Nat):Int))) (by omega) (aA rfl (R_e ?_))))))
  refine p12 _ _ _ ?_ ⟨(k+1),rfl,t0,t1,t9,t10,(Eq.trans (@rfl V (iV ((k+1:Nat):Int))) (by first|rfl|simp)),?_,?_⟩
  · omega
  · omega
  · exact mF hc (by omega) (by omega) (yG.1 (by omega))
 refine aT (p32 _ _ _ (x1 _ _ (.done (aC (W_r (aA t0 (bO rfl ?_)))))))
 refine aA t1 (bO rfl (bQ rfl rfl (R_e ?_)))
 refine aL rfl (fun c7=>?_) fun c7=>?_
 ·
  refine aC (W_r (aA rfl (R_e (aR ?_))))
  refine bB (@rfl V (iV (-1:Int))) (aM ?_)
  · have g1:=pP a b
    have g2:=wZ a b
    have g3:=iK hc (by omega)
    simp only [bC,qO,g3] at*; repeat (split <;> first|rfl|omega|skip)
 refine aG (W_r (aA rfl (R_e (bI ?_))))
 refine bB (@rfl V (iV (0:Int))) (aM ?_)
 · have g1:=pP a b
   have g2:=wZ a b
   have g3:=iK hc (by omega)
   simp only [bC,qO,g3] at*; repeat (split <;> first|rfl|omega|skip)
theorem aCa (a b:List Int):aZ Tryz.prog 169 [(aY a),(aY b)] (iV (bC a b)):=by
 refine pW Tryz.func169 aEo fun hB=>?_
 unfold aHB
 dsimp only
 refine W_r (aA rfl (R_e (W_r (aA rfl (aA rfl (bE (nO a b) rfl (aA rfl ?_)))))))
 refine R_e (bI ?_)
 refine bB (@rfl V (iV (bC a b))) (mD (by simp) rfl)
def aNL:List SO:=[
 qM 5 0,
 qN 6 5,
 qM 7 1,
 qN 8 7,
 sO 9 (.call false 215 [.t 6,.t 8]),
 qM 10 0,
 qM 11 1,
 sO 12 (.call false 212 [.t 10,.t 11]),
 sO 13 (.bslice 3 1 false [.int .i64 0] 2 [(0,.t 9),(1,.t 12)]),
 sO 14 (.call false 214 [.t 13]),
 qM 4 14]
def aIy:SF:=⟨15,[.tmp 4],.seq (.reg [qI 4 0]) (.seq (.reg aNL) (.ret))⟩
theorem aDE:aN Tryz.prog ⟨[58,129,130,131,149,155,161,182,183,185,191,192,208,209,210,224,228,231,236],[],[],[]⟩ Tryz.f171=some aIy:=by kernel_rfl
def aGz:SC:=.seq (.reg [qP 9 .lss 8 7]) (.seq (.cond (.t 9) (.skip) (.exit 0)) (.seq (.block 1 (.seq (.reg [qA 10 1 6 8,ql 11 10,qM 5 11]) (.seq (.reg [qM 12 5,qM 13 3,qP 14 .neq 12 13]) (.cond (.t 14) (.seq (.reg [qM 15 5,qM 2 15]) (.ret)) (.skip))))) (.reg [qC 16 .add 8 1,qM 8 16])))
def aIt:SF:=⟨18,[.tmp 2],.seq (.reg [qI 2 0]) (.seq (.reg [qI 3 0]) (.seq (.seq (.reg [qM 6 0,qN 7 6,qI 8 0]) (.block 0 (.loop aGz))) (.seq (.reg [qM 17 3,qM 2 17]) (.ret))))⟩
theorem aD3:aN Tryz.prog ⟨[58,129,130,131,149,155,161,182,183,185,191,192,208,209,210,224,228,231,236],[],[],[]⟩ Tryz.f214=some aIt:=by kernel_rfl
theorem aCm (l:List Int) (hl:l.length < 4294967296):aZ Tryz.prog 214 [(aY l)] (iV (orI l)):=by
 refine pW Tryz.func214 aD3 fun hB=>?_
 unfold aIt
 dsimp only
 refine W_r (aA rfl (R_e (W_r (aA rfl (R_e (aC (W_r ?_)))))))
 refine aA rfl (bO rfl (aA rfl (R_e (aI fun Q1 n1 x1 y1 z1=>?_))))
 refine cP (fun mm T H=> ∃ (k:Nat),mm=l.length - k∧T 3=(iV (0:Int))∧T 6=(aY l)∧T 7=(iV ((l.length:Nat):Int))∧T 8=(iV ((k:Nat):Int))∧(k≤l.length)∧(orI l=orI (l.drop k))) ?_ ?_
 ·
  refine ⟨_,0,rfl,rfl,rfl,rfl,(Eq.trans (@rfl V (iV (0:Int))) rfl),?_,?_⟩
  · omega
  · rfl
 intro mm T H ⟨k,hmm,t3,t6,t7,t8,hk,hc⟩ Q2 p12 p22 p32
 unfold aGz
 refine W_r (bQ t8 t7 (R_e ?_))
 refine aL rfl (fun c3=>?_) fun c3=>?_
 ·
  refine aG (aI fun Q4 n4 x4 y4 z4=>(W_r (bK (i:=k) t6 t8 (by omega) rfl (aJ rfl rfl (aA rfl (R_e (W_r ?_)))))))
  refine aA rfl (aA t3 (cG rfl rfl (R_e ?_)))
  refine fO rfl (fun c5=>?_) fun c5=>?_
  ·
   refine W_r (aA rfl (aA rfl (R_e (bI (y4 _ _ (p22 _ _ (y1 _ _ ?_)))))))
   refine bB (@rfl V (iV ((nth (l) (k))))) (aM ?_)
   · rw [hc,aBF (by omega),if_neg (by omega)]
  refine dC (n4 _ _ (.done (W_t (bS t8 (@rfl V (iV ((1:Nat):Int))) (by omega) (aA rfl (R_e ?_))))))
  refine p12 _ _ _ ?_ ⟨(k+1),rfl,t3,t6,t7,(Eq.trans (@rfl V (iV ((k+1:Nat):Int))) (by first|rfl|simp)),?_,?_⟩
  · omega
  · omega
  · rw [hc,aBF (by omega),if_pos (by omega)]
 refine aT (p32 _ _ _ (x1 _ _ (.done (W_r (aA t3 (aA rfl (R_e ?_)))))))
 refine bI ?_
 refine bB (@rfl V (iV (0:Int))) (aM ?_)
 · rw [hc,List.drop_of_length_le (by omega)]; rfl
theorem pM (a b:List Int):aZ Tryz.prog 171 [(aY a),(aY b)] (iV (slx a b)):=by
 refine pW Tryz.func171 aDE fun hB=>?_
 unfold aIy
 dsimp only
 refine W_r (aA rfl (R_e (W_r (aA rfl (bO rfl (aA rfl (bO rfl ?_)))))))
 refine bE (sS (((a.length:Nat):Int)) (((b.length:Nat):Int))) rfl (aA rfl (aA rfl (bE (nO a b) rfl (cQ rfl rfl (bE (aCm ([(qO (((a.length:Nat):Int)) (((b.length:Nat):Int))),(bC a b)]) (by simp)) rfl (aA rfl (R_e ?_)))))))
 refine bI ?_
 refine bB (@rfl V (iV (orI ([(qO (((a.length:Nat):Int)) (((b.length:Nat):Int))),(bC a b)])))) (aM ?_)
 · simp only [orI,qO,slx]; repeat (split <;> first|rfl|omega|skip)
def aRK:SF:=⟨8,[.tmp 2],.seq (.reg [sO 2 (.lazy 38 1)]) (.seq (.seq (.reg [qM 3 0,sO 4 (.isnil false (.t 3))]) (.cond (.t 4) (.seq (.reg [sO 2 (.lazy 38 1)]) (.ret)) (.skip))) (.seq (.reg [sO 5 (.lazy 38 1),qM 6 0,sO 7 (.append 38 1 24 (.t 5) (.t 6)),qM 2 7]) (.ret)))⟩
theorem aIC:aN Tryz.prog ⟨[58,129,130,131,149,155,161,182,183,185,191,192,208,209,210,224,228,231,236],[2,5],[],[]⟩ Tryz.f208=some aRK:=by kernel_rfl
theorem aAT (l:List (List Int)) (v2:Nat) (Hi:aH) (h202:(Hi 202).ver=v2) (hl:l.length≤1073741824):dM Tryz.prog 208 [(aB l)] Hi (V.ms 202 (v2+3) 0 (l.length)) (upd Hi 202 (bz (v2+3) 38 1 (List.map cL (l)))):=by
 refine eW (k0:=200) Tryz.func208 aIC fun hB=>?_
 unfold aRK
 dsimp only
 refine W_r (hU (i:=202) (n:=v2) (by rfl) h202 (R_e (aC (mX fun K hK=>(aA rfl ?_)))))
 refine nT (@rfl V (aB l)) (fun e1=>?_) ?_
 ·
  replace e1:=List.map_eq_nil_iff.1 e1
  refine fQ (hK _ _ ?_); clear hK K
  refine cZ (R:=fun T H=>T 0=(aB l)∧T 4=(V.bool true)∧(∀ j,j∉[202]→H j=Hi j)∧H 202=(bz (v2+1) 38 1 [])∧True) ⟨rfl,rfl,(eT (fun _ _=>rfl) (by decide)),rfl,trivial⟩ ?_
  intro T H ⟨t0,t4,hF,h202,_⟩
  refine eB t4 (fun c4=>?_) (fun c4=>?_)
  ·
   refine aC (W_r (hU (i:=202) (n:=(v2+1)) (by rfl) (congrArg Blk.ver h202) (R_e (aR (cZ (R:=fun T H=>T 2=(V.ms 202 (v2+2) 0 (0))∧(∀ j,j∉[202]→H j=Hi j)∧H 202=(bz (v2+2) 38 1 [])∧True) ⟨(@rfl V (V.ms 202 (v2+2) 0 (0))),(eT hF (by decide)),rfl,trivial⟩ ?_)))))
   intro T H ⟨t2,hF,h202,_⟩
   have fh:=fA.fin (fA.put (B:=(bz (v2+3) 38 1 (List.map cL (l)))) (fA.start hF) h202 (jL.up (by omega) (by first|rfl|(rw [e1]; rfl)|simp)))
   exact jN t2 fh (fG.trans_eq (fG.ms (n:=(v2+3)) fh (by simp [h202]) (by simp [h202]) rfl rfl) (by first|rfl|(rw [e1]; rfl)|simp))
  · cases c4
 ·
  refine fQ (hK _ _ ?_); clear hK K
  refine cZ (R:=fun T H=>T 0=(aB l)∧T 4=(V.bool false)∧(∀ j,j∉[202]→H j=Hi j)∧H 202=(bz (v2+1) 38 1 [])∧True) ⟨rfl,rfl,(eT (fun _ _=>rfl) (by decide)),rfl,trivial⟩ ?_
  intro T H ⟨t0,t4,hF,h202,_⟩
  refine eB t4 (fun c7=>?_) (fun c7=>?_)
  · cases c7
  refine aG (aSI 197 (hU (i:=202) (n:=(v2+1)) (by rfl) (congrArg Blk.ver h202) (aA t0 (kM (l:=([])) (m:=l) (f:=cL) (@rfl V (V.ms 202 (v2+2) 0 (0))) (show _=(bz (v2+2) 38 1 (List.map cL ([]))) from (@rfl Blk (bz (v2+2) 38 1 []))) (by first|rfl|simp) (@rfl V (aB l)) (fun _=>rfl) (fun _=>rfl) (by omega) (by omega) (aA rfl (R_e (bI ?_)))))))
  refine cZ (R:=fun T H=>T 2=(V.ms 202 (v2+3) 0 (0+(l).length))∧(∀ j,j∉[202]→H j=Hi j)∧H 202=(bz (v2+3) 38 1 (List.map cL ([]++l)))∧True) ⟨(@rfl V (V.ms 202 (v2+3) 0 (0+(l).length))),(eT (eT hF (by decide)) (by decide)),rfl,trivial⟩ ?_
  intro T H ⟨t2,hF,h202,_⟩
  have fh:=fA.fin (fA.put (B:=(bz (v2+3) 38 1 (List.map cL (l)))) (fA.start hF) h202 (jL.eq (by first|rfl|(rw [e1]; rfl)|simp)))
  exact jN t2 fh (fG.trans_eq (fG.same fh _) (by first|rfl|(rw [e1]; rfl)|simp))
def aMW:List SO:=[
 qM 18 1,
 qM 19 0,
 qM 20 5,
 qA 21 1 19 20,
 ql 22 21,
 qM 23 0,
 qM 24 5,
 qC 25 .sub 24 1,
 qA 26 1 23 25,
 ql 27 26,
 sO 28 (.callv false (.t 18) [.t 22,.t 27])]
def aIe:List SO:=[
 qM 38 1,
 qM 39 6,
 qM 40 7,
 qA 41 1 39 40,
 ql 42 41,
 qM 43 6,
 qM 44 7,
 qC 45 .sub 44 1,
 qA 46 1 43 45,
 ql 47 46,
 sO 48 (.callv false (.t 38) [.t 42,.t 47]),
 sO 49 (.un .not (.t 48))]
def aJc:List SO:=[
 qM 50 0,
 qM 51 5,
 qM 52 6,
 qM 53 7,
 qA 54 1 52 53,
 ql 55 54,
 qA 56 1 50 51,
 sN (.store 1 (.t 56) (.t 55))]
def aCy:SC:=.seq (.seq (.reg [qM 32 7,qM 33 6,qN 34 33,qP 35 .lss 32 34]) (.cond (.t 35) (.skip) (.exit 2))) (.seq (.block 3 (.seq (.reg aIe) (.cond (.t 49) (.seq (.reg aJc) (.reg [qM 57 5,qC 58 .add 57 1,qM 5 58])) (.skip)))) (.reg [qM 36 7,qC 37 .add 36 1,qM 7 37]))
def aCr:SC:=.seq (.seq (.reg [qM 12 5,qM 13 0,qN 14 13,qP 15 .lss 12 14]) (.cond (.t 15) (.skip) (.exit 0))) (.seq (.block 1 (.seq (.reg aMW) (.cond (.t 28) (.seq (.reg [qM 29 0,qM 30 5,sO 31 (.slice 1 (.t 29) (some (.t 30)) none),qM 6 31]) (.seq (.seq (.reg [qI 7 1]) (.block 2 (.loop aCy))) (.seq (.reg [qM 59 0,qM 60 5,sO 61 (.slice 1 (.t 59) (some (.t 60)) none),sN (.clr [.nilsl] (.t 61))]) (.seq (.reg [qM 62 0,qM 63 5,sO 64 (.slice 1 (.t 62) none (some (.t 63))),qM 4 64]) (.ret))))) (.skip)))) (.reg [qM 16 5,qC 17 .add 16 1,qM 5 17]))
def aPN:SF:=⟨66,[.tmp 4],.seq (.reg [sO 4 (.mv (.c (.nilsl)))]) (.seq (.seq (.reg [qM 8 0,qN 9 8,qC 10 .lss 9 2]) (.cond (.t 10) (.seq (.reg [qM 11 0,qM 4 11]) (.ret)) (.skip))) (.seq (.seq (.reg [qI 5 1]) (.block 0 (.loop aCr))) (.seq (.reg [qM 65 0,qM 4 65]) (.ret))))⟩
theorem aDR:aN Tryz.prog ⟨[58,129,130,131,149,155,161,182,183,185,191,192,208,209,210,224,228,231,236],[],[],[]⟩ Tryz.f210=some aPN:=by kernel_rfl
def aL8:SF:=⟨11,[.tmp 5],.seq (.reg [sO 5 (.mv (.c (.bool false)))]) (.seq (.reg [ql 6 2,qM 7 0,qM 8 1,sO 9 (.callv false (.t 6) [.t 7,.t 8]),qC 10 .eql 9 0,qM 5 10]) (.ret))⟩
theorem aEm:aN Tryz.prog ⟨[58,129,130,131,149,155,161,182,183,185,191,192,208,209,210,224,228,231,236],[],[],[]⟩ Tryz.f211=some aL8:=by kernel_rfl
end Go.Proofs.YtilfohjlglefjaaGreat
namespace Go.Proofs.YtilfohjlglefjaaGreat
open Go
theorem aGW {a p:List Int} (h:hp a p=true):p.length≤a.length:=by
  simp only [hp,decide_eq_true_eq] at h
  have:=pP a p; omega
def aJN:List Tr→List Int→Option (List Int)
  |[],_=>none
  |t::l,w=>if hp t.ni w then some (t.no.take w.length) else aJN l w
def ans (o:Ob) (w:List Int):Option (List Int):=if w=[] then some [] else aJN o.tr w
theorem xM {w x:List Int}: ∀ {l:List Tr},aJN l w=some x→ ∃ t∈l,hp t.ni w=true∧x=t.no.take w.length
  |[],h=>by cases h
  | t :: l, h => by
    simp only [aJN] at h
    split at h
    · rename_i g; exact ⟨t,List.mem_cons_self ..,g,by simpa using h.symm⟩
    · obtain ⟨s,h1,h2⟩:=xM h; exact ⟨s,List.mem_cons_of_mem _ h1,h2⟩
theorem OK.mem {o:Ob} (ok:OK o) {t:Tr} (ht:t∈o.tr):Proper t o.i∧0 < t.ni.length:=by
  obtain ⟨k,hk,rfl⟩:=dQ ht; exact ok.pr k hk
abbrev fdA (a b:Tr):List Int:=a.no.take (cmn a.ni b.ni)
abbrev fdB (a b:Tr):List Int:=b.no.take (cmn a.ni b.ni)
def fd (a b:Tr):List (List Int):=if cmn (fdA a b) (fdB a b) < min (fdA a b).length (fdB a b).length then [a.ni.take (aTG (fdA a b) (fdB a b)+1)] else []
theorem OK.same {o:Ob} (ok:OK o) {s t:Tr} (hs:s∈o.tr) (ht:t∈o.tr) {j:Nat} (hj:j < cmn s.ni t.ni):nth s.no j=nth t.no j:=by
  obtain ⟨a,ha,rfl⟩:=dQ hs
  obtain ⟨b,hb,rfl⟩:=dQ ht
  have key: ∀ a b,a < b→b < o.tr.length→ ∀ j,j < cmn (nth o.tr a).ni (nth o.tr b).ni→nth (nth o.tr a).no j=nth (nth o.tr b).no j:=by
    intro a b hab hb j hj
    by_cases e:nth (nth o.tr a).no j=nth (nth o.tr b).no j
    · exact e
    · have h1:=ok.cla a b hab hb
      have h2:=aCO.2 ⟨j,hj,e⟩
      omega
  by_cases e:a=b
  · subst e; rfl
  · by_cases h:a < b
    · exact key a b h hb j hj
    · rw [gN] at hj
      exact (key b a (by omega) ha j hj).symm
theorem aIq {p x y:List Int}:cmn (p++x) (p++y)=p.length+cmn x y:=by
  induction p with
  |nil=>simp
  |cons a p ih=>simp [cmn,ih]; omega
def Ap (o:Ob) (u v x:List Int):Prop:=
  x≠[]∧ ∃ s∈o.tr,∃ t∈o.tr,hp s.ni (u++x)=true∧hp t.ni (v++x)=true∧nth s.no (u.length+x.length - 1)≠nth t.no (v.length+x.length - 1)
theorem Ap.symm {o:Ob} {u v x:List Int} (h:Ap o u v x):Ap o v u x:=by
  obtain ⟨h1,s,hs,t,ht,h2,h3,h4⟩:=h
  exact ⟨h1,t,ht,s,hs,h3,h2,fun e=>h4 e.symm⟩
structure Covers (o:Ob) (u v:List Int) (l:List (List Int)):Prop where
  sound: ∀ x∈l,Ap o u v x
  full: ∀ x,Ap o u v x→ ∃ y∈l,slx y x≤0
theorem aHu {x y:List Int} (h:hp y x=true):slx x y≤0:=by
  obtain ⟨z,rfl⟩:=zA.1 h
  cases z with
  |nil=>rw [List.append_nil,eM.2 rfl]; omega
  |cons a z=>unfold slx; rw [if_pos (by simp)]; omega
theorem Covers.swap {o:Ob} {u v:List Int} {l:List (List Int)} (h:Covers o u v l):Covers o v u l:=
  ⟨fun x hx=>(h.sound x hx).symm,fun x hx=>h.full x hx.symm⟩
end Go.Proofs.YtilfohjlglefjaaGreat
namespace Go.Proofs.YtilfohjlglefjaaGreat
open Go Go.Sort
theorem sA {α : Type} {le : α → α → Prop} : ∀ {l m : List α}, (∀ a ∈ l, ∀ b ∈ l, le a b → le b a → a = b) → l.Perm m → l.Pairwise le → m.Pairwise le → l = m
  |[],m,_,hp,_,_=>(List.perm_nil.1 hp.symm).symm
  |a::l,[],_,hp,_,_=>(List.cons_ne_nil _ _ (List.perm_nil.1 hp)).elim
  | a :: l, b :: m, anti, hp, h1, h2 => by
    have hb:b∈a::l:=hp.mem_iff.2 (List.mem_cons_self ..)
    have ha:a∈b::m:=hp.mem_iff.1 (List.mem_cons_self ..)
    have e:a=b:=by
      rcases List.mem_cons.1 hb with e|hb'
      · exact e.symm
      · rcases List.mem_cons.1 ha with e|ha'
        · exact e
        · exact anti a (List.mem_cons_self ..) b hb ((List.pairwise_cons.1 h1).1 b hb') ((List.pairwise_cons.1 h2).1 a ha')
    subst e
    rw [sA (fun x hx y hy=>anti x (List.mem_cons_of_mem _ hx) y (List.mem_cons_of_mem _ hy)) (List.Perm.cons_inv hp) (List.pairwise_cons.1 h1).2 (List.pairwise_cons.1 h2).2]
def aEA {α:Type} (cmp:α→α→Int) (a:α):List α→List α
  |[]=>[a]
  |b::l=>if cmp b a < 0 then b::aEA cmp a l else a::b::l
def srt {α:Type} (cmp:α→α→Int) (l:List α):List α:=l.foldr (aEA cmp) []
theorem rG {α:Type} (cmp:α→α→Int) (a:α): ∀ l:List α,(aEA cmp a l).Perm (a::l)
  |[]=>List.Perm.refl _
  | b :: l => by
    rw [aEA]
    split
    · exact ((rG cmp a l).cons b).trans (List.Perm.swap a b l)
    · exact List.Perm.refl _
theorem lV {α:Type} (cmp:α→α→Int): ∀ l:List α,(srt cmp l).Perm l
  |[]=>List.Perm.refl _
  |a::l=>(rG cmp a (srt cmp l)).trans ((lV cmp l).cons a)
theorem iT {α:Type} (cmp:α→α→Int) (l:List α):(srt cmp l).length=l.length:=(lV cmp l).length_eq
theorem rY {α : Type} {cmp : α → α → Int} (hO : SWO fun a b => decide (cmp a b < 0)) (a : α) : ∀ {l : List α}, (l.Pairwise fun a b => ¬cmp b a < 0) → (aEA cmp a l).Pairwise fun a b => ¬cmp b a < 0
  |[],_=>List.pairwise_singleton _ _
  | b :: l, h => by
    obtain ⟨h1,h2⟩:=List.pairwise_cons.1 h
    rw [aEA]
    split
    · rename_i q
      refine List.pairwise_cons.2 ⟨fun x hx=>?_,rY hO a h2⟩
      rcases List.mem_cons.1 ((rG cmp a l).mem_iff.1 hx) with e|e
      · rw [e]; intro q2
        have:=hO.trans a b a (by simpa using q2) (by simpa using q)
        rw [hO.irrefl a] at this; cases this
      · exact h1 x e
    · rename_i q
      refine List.pairwise_cons.2 ⟨fun x hx=>?_,h⟩
      rcases List.mem_cons.1 hx with e|e
      · rw [e]; exact q
      · have:=hO.ntrans x b a (by simpa using h1 x e) (by simpa using q)
        simpa using this
theorem lF {α:Type} {cmp:α→α→Int} (hO:SWO fun a b=>decide (cmp a b < 0)): ∀ l:List α,(srt cmp l).Pairwise fun a b=> ¬cmp b a < 0
  |[]=>List.Pairwise.nil
  |a::l=>rY hO a (lF hO l)
end Go.Proofs.YtilfohjlglefjaaGreat
namespace Go.Proofs.YtilfohjlglefjaaGreat
open Go Go.Sort
theorem kW {a b:List Int}: ¬bC a b < 0↔bC b a≤0:=by
  constructor
  · intro h
    by_cases e:bC a b=0
    · rw [cA.2 (cA.1 e).symm]; omega
    · have:=oN (a:=a) (b:=b) (by omega); omega
  · intro h g
    have:=vW g; omega
theorem aJf {a b c:List Int} (h1:bC a b≤0) (h2:bC b c≤0):bC a c≤0:=by
  by_cases e1:bC a b=0
  · rw [cA.1 e1]; exact h2
  · by_cases e2:bC b c=0
    · rw [← cA.1 e2]; exact h1
    · have:=jE (a:=a) (b:=b) (c:=c) (by omega) (by omega); omega
theorem OK.lt_of {o:Ob} (h: ∀ k,k+1 < o.tr.length→slx (nth o.tr k).ni (nth o.tr (k+1)).ni < 0): ∀ {i k:Nat},i < k→k < o.tr.length→slx (nth o.tr i).ni (nth o.tr k).ni < 0:=by
  intro i k hik hk
  induction k with
  |zero=>omega
  | succ k ih =>
    by_cases e:i=k
    · subst e; exact h i hk
    · exact kR (ih (by omega) (by omega)) (h k hk)
theorem aBB {a b c : List Int} (h1 : bC a b ≤ 0) (h2 : bC b c ≤ 0) : cmn a c ≤ cmn a b ∧ cmn a c ≤ cmn b c := by
  have s1:=dO a b
  have s2:=dO b c
  have s3:=dO a c
  have m:=oW (a:=a) (b:=c) (c:=b)
  have m2:=oW (a:=b) (b:=a) (c:=c)
  have e1:=gN c b
  have e2:=gN b a
  have key:cmn a c≤cmn a b:=by
    by_cases g:cmn a c≤cmn a b
    · exact g
    · exfalso
      have hlt:cmn a b < cmn a c:=by omega
      have hbc:cmn b c=cmn a b:=by
        rw [gN b c]
        refine iK ?_ ?_
        · have:=oW (a:=c) (b:=a) (c:=b); rw [gN c a] at this; omega
        · by_cases q:b.length≤cmn a b
          · exact .inr (.inl q)
          · refine .inr (.inr ?_)
            rw [← s3.2.2.1 _ hlt]
            exact s1.2.2.2 (by omega) (by omega)
      unfold bC at h1 h2
      rw [hbc] at h2
      have hca:=s3.2.2.1 _ hlt
      by_cases q:cmn a b=b.length
      · rw [if_neg (by omega),if_neg (by omega)] at h1; omega
      · have hne:=s1.2.2.2 (by omega) (by omega)
        rw [if_neg (by omega)] at h1
        rw [if_neg (by omega)] at h2
        split at h1
        · rename_i g1
          split at h2
          · rename_i g2
            rw [hca] at g1; omega
          · omega
        · omega
  have m3:=oW (a:=b) (b:=a) (c:=c)
  exact ⟨key,by omega⟩
theorem yC (m:M): ∀ (w:List Int) (s:Int) (k:Nat),bV m s (w.take k)=(bV m s w).take k
  |[],s,k=>by simp [bV]
  |a::w,s,0=>by simp [bV]
  |a::w,s,k+1=>by simp [bV,yC m w]
end Go.Proofs.YtilfohjlglefjaaGreat
namespace Go.Proofs.YtilfohjlglefjaaGreat
open Go.Sort
theorem zC {a b:List Int}: ¬slx a b < 0↔slx b a≤0:=by
  constructor
  · intro h
    by_cases e:slx a b=0
    · rw [eM.1 e,eM.2 rfl]; omega
    · have:=aJM (a:=a) (b:=b) (by omega); omega
  · intro h q
    have:=aAr q; omega
theorem aDt:SWO fun a b:List Int=>decide (slx a b < 0) where
  irrefl a:=by rw [eM.2 rfl]; decide
  trans a b c h1 h2:=by simp only [decide_eq_true_eq] at*; exact kR h1 h2
  ntrans a b c h1 h2:=by
    simp only [decide_eq_false_iff_not,zC] at*
    exact aMz h2 h1
theorem aBz {a b:List Int} (h1: ¬slx a b < 0) (h2: ¬slx b a < 0):a=b:=aBU (zC.1 h2) (zC.1 h1)
theorem tF (a:List Int): ¬slx a a < 0:=by rw [eM.2 rfl]; omega
def pG (l:List (List Int)):Prop:=l.Pairwise fun a b=>slx a b < 0
theorem qH : ∀ {l m : List (List Int)}, pG l → pG m → (∀ u, u ∈ l ↔ u ∈ m) → l = m
  |[],[],_,_,_=>rfl
  |[],b::m,_,_,h=>by have:=(h b).2 (by simp); simp at this
  |a::l,[],_,_,h=>by have:=(h a).1 (by simp); simp at this
  | a :: l, b :: m, hl, hm, h => by
    obtain ⟨l1,l2⟩:=List.pairwise_cons.1 hl
    obtain ⟨m1,m2⟩:=List.pairwise_cons.1 hm
    have e:a=b:=by
      rcases List.mem_cons.1 ((h a).1 (by simp)) with e|e
      · exact e
      · rcases List.mem_cons.1 ((h b).2 (by simp)) with g|g
        · exact g.symm
        · exact (tF a (kR (l1 b g) (m1 a e))).elim
    subst e
    rw [qH l2 m2 fun u=>?_]
    constructor
    · intro hu
      rcases List.mem_cons.1 ((h u).1 (List.mem_cons_of_mem _ hu)) with e|e
      · subst e; exact (tF _ (l1 _ hu)).elim
      · exact e
    · intro hu
      rcases List.mem_cons.1 ((h u).2 (List.mem_cons_of_mem _ hu)) with e|e
      · subst e; exact (tF _ (m1 _ hu)).elim
      · exact e
def plP (w u:List Int):Bool:=decide (slx u w < 0)
def plN (l:List (List Int)) (w:List Int):Nat:=(l.takeWhile (plP w)).length
theorem aDA {w a:List Int} {l:List (List Int)}:plN (a::l) w=if plP w a=true then plN l w+1 else 0:=by
  unfold plN; rw [List.takeWhile_cons]; split <;> rfl
theorem aKq {w:List Int}: ∀ l:List (List Int),plN l w≤l.length
  |[]=>Nat.le_refl _
  |a::l=>by rw [aDA]; have:=aKq (w:=w) l; split <;> simp <;> omega
theorem aAq {w : List Int} : ∀ {l : List (List Int)} (_ : pG l) {k : Nat}, k < l.length → (slx (nth l k) w < 0 ↔ k < plN l w)
  |[],_,k,hk=>by simp at hk
  | a :: l, h, k, hk => by
    rw [aDA]
    obtain ⟨h1,h2⟩:=List.pairwise_cons.1 h
    by_cases e:plP w a=true
    · rw [if_pos e]
      cases k with
      |zero=>rw [eE]; simp only [plP,decide_eq_true_eq] at e; exact ⟨fun _=>by omega,fun _=>e⟩
      |succ k=>rw [kN,aAq h2 (by simpa using hk)]; omega
    · rw [if_neg e]
      simp only [plP,decide_eq_true_eq] at e
      refine ⟨fun h3=>?_,fun h3=>by omega⟩
      cases k with
      |zero=>exact (e h3).elim
      | succ k =>
        rw [kN] at h3
        exact (e (kR (h1 _ (bH (by simpa using hk))) h3)).elim
def wiH (l:List (List Int)) (w:List Int):Prop:=plN l w < l.length∧nth l (plN l w)=w
instance (l:List (List Int)) (w:List Int):Decidable (wiH l w):=inferInstanceAs (Decidable (_∧_))
def wiW (l:List (List Int)) (w:List Int):List (List Int):=if wiH l w then l else l.take (plN l w)++w::l.drop (plN l w)
def sdW (l:List (List Int)):List (List Int):=l.foldl wiW []
theorem aIR {l:List (List Int)} {w u:List Int}:u∈wiW l w↔u∈l∨u=w:=by
  unfold wiW
  split
  · rename_i h
    refine ⟨.inl,fun q=>q.elim id fun e=>?_⟩
    rw [e]
    have:=bH h.1
    rwa [h.2] at this
  · have e: ∀ u,u∈l↔u∈l.take (plN l w)∨u∈l.drop (plN l w):=fun u=>by rw [← List.mem_append,List.take_append_drop]
    rw [List.mem_append,List.mem_cons,e]
    exact ⟨fun h=>h.elim (fun h=>.inl (.inl h)) fun h=>h.elim .inr fun h=>.inl (.inr h),fun h=>h.elim (fun h=>h.elim .inl fun h=>.inr (.inr h)) fun h=>.inr (.inl h)⟩
theorem aIp {l : List (List Int)} (h : pG l) (w : List Int) : pG (wiW l w) := by
  unfold wiW
  split
  · exact h
  · rename_i hn
    have hsp:=h
    unfold pG at hsp
    rw [← List.take_append_drop (plN l w) l,List.pairwise_append] at hsp
    obtain ⟨p1,p2,p3⟩:=hsp
    have hle:=aKq (w:=w) l
    have lo: ∀ a∈l.take (plN l w),slx a w < 0:=fun a ha=>by
      obtain ⟨j,hj,rfl⟩:=dQ ha
      rw [List.length_take] at hj
      rw [kQ (by omega)]
      exact (aAq h (by omega)).2 (by omega)
    have hi : ∀ b ∈ l.drop (plN l w), slx w b < 0 := fun b hb => by
      obtain ⟨j,hj,rfl⟩:=dQ hb
      rw [List.length_drop] at hj
      rw [rO]
      have h1: ¬slx (nth l (plN l w+j)) w < 0:=fun q=>by
        have:=(aAq h (show plN l w+j < l.length by omega)).1 q; omega
      by_cases e:slx w (nth l (plN l w+j)) < 0
      · exact e
      · exfalso
        have heq:=aBz h1 e
        have h0:plN l w < l.length:=by omega
        by_cases ej:j=0
        · subst ej; exact hn ⟨h0,by simpa using heq⟩
        · have hlt:slx (nth l (plN l w)) (nth l (plN l w+j)) < 0:=by
            have:=(List.pairwise_iff_getElem.1 h) (plN l w) (plN l w+j) h0 (by omega) (by omega)
            rwa [aQ,aQ] at this
          rw [heq] at hlt
          have:=(aAq h h0).1 hlt; omega
    rw [pG,List.pairwise_append]
    refine ⟨p1,List.pairwise_cons.2 ⟨hi,p2⟩,fun a ha b hb=>?_⟩
    rcases List.mem_cons.1 hb with rfl|hb
    · exact lo a ha
    · exact p3 a ha b hb
theorem vP: ∀ (l kept:List (List Int)),pG kept→pG (l.foldl wiW kept)∧ ∀ u,u∈l.foldl wiW kept↔u∈kept∨u∈l
  |[],kept,h=>⟨h,fun u=>by simp⟩
  | w :: l, kept, h => by
    obtain ⟨h1,h2⟩:=vP l (wiW kept w) (aIp h w)
    refine ⟨h1,fun u=>?_⟩
    rw [List.foldl_cons,h2,aIR,List.mem_cons]
    exact or_assoc
theorem lE (l:List (List Int)):pG (sdW l):=(vP l [] List.Pairwise.nil).1
theorem eS (l:List (List Int)) (u:List Int):u∈sdW l↔u∈l:=by
  unfold sdW; rw [(vP l [] List.Pairwise.nil).2 u]; simp
def ddK (L:List (List Int)):Nat→List (List Int)
  |0=>[]
  |j+1=>if j=0∨nth L j≠nth L (j - 1) then ddK L j++[nth L j] else ddK L j
def ddL (L:List (List Int)) (j:Nat):List (List Int):=ddK L j++L.drop (ddK L j).length
theorem vY (L:List (List Int)): ∀ j,(ddK L j).length≤j
  |0=>Nat.le_refl _
  | j + 1 => by
    have:=vY L j
    simp only [ddK]; split <;> simp <;> omega
theorem aD1 {L:List (List Int)} {j:Nat} (h:j≤L.length):(ddL L j).length=L.length:=by
  have:=vY L j
  unfold ddL; rw [List.length_append,List.length_drop]; omega
theorem aEg {L:List (List Int)} {j k:Nat} (h:(ddK L j).length≤k):nth (ddL L j) k=nth L k:=by
  unfold ddL
  have e:nth (ddK L j++L.drop (ddK L j).length) ((ddK L j).length+(k - (ddK L j).length))=nth (L.drop (ddK L j).length) (k - (ddK L j).length):=dJ
  rw [rO] at e
  rw [show (ddK L j).length+(k - (ddK L j).length)=k by omega] at e
  exact e
theorem bL {L:List (List Int)} {j:Nat} (h:j=0∨nth L j≠nth L (j - 1)):ddK L (j+1)=ddK L j++[nth L j]:=if_pos h
theorem bP {L:List (List Int)} {j:Nat} (h: ¬(j=0∨nth L j≠nth L (j - 1))):ddK L (j+1)=ddK L j:=if_neg h
theorem fH {L:List (List Int)} {j:Nat} (h: ¬(j=0∨nth L j≠nth L (j - 1))):ddL L (j+1)=ddL L j:=by unfold ddL; rw [bP h]
theorem aAp {α:Type} {a l:List α} {x:α} (h:a.length < l.length):(a++l.drop a.length).set a.length x=a++[x]++l.drop (a.length+1):=by
  rw [List.drop_eq_getElem_cons h]
  rw [List.set_append_right _ _ (Nat.le_refl _),Nat.sub_self,List.set_cons_zero]; simp
theorem cK {L:List (List Int)} {j:Nat} (hj:j < L.length) (h:j=0∨nth L j≠nth L (j - 1)):(ddL L j).set (ddK L j).length (nth L j)=ddL L (j+1):=by
  have:=vY L j
  unfold ddL
  rw [bL h,aAp (by omega)]
  simp
theorem aAa {L:List (List Int)}: ∀ {j:Nat},j≤L.length→(∀ i,1≤i→i < j→nth L i≠nth L (i - 1))→ddK L j=L.take j
  |0,_,_=>by simp [ddK]
  | j + 1, hj, h => by
    rw [bL (by by_cases e:j=0; exact .inl e; exact .inr (h j (by omega) (by omega))),aAa (by omega) fun i h1 h2=>h i h1 (by omega),iE (by omega)]
theorem oX {L : List (List Int)} : ∀ {j : Nat}, j ≤ L.length → ∀ u, u ∈ ddK L j ↔ u ∈ L.take j
  |0,_,u=>by simp [ddK]
  | j + 1, hj, u => by
    have ih:=oX (L:=L) (j:=j) (by omega) u
    rw [iE (by omega),List.mem_append,List.mem_singleton]
    by_cases h:j=0∨nth L j≠nth L (j - 1)
    · rw [bL h,List.mem_append,List.mem_singleton,ih]
    · rw [bP h,ih]
      refine ⟨.inl,fun q=>q.elim id fun e=>?_⟩
      have e2:nth L j=nth L (j - 1):=by
        by_cases e3:nth L j=nth L (j - 1)
        · exact e3
        · exact (h (.inr e3)).elim
      have:nth (L.take j) (j - 1)=u:=by rw [kQ (by omega),← e2,e]
      rw [← this]
      exact bH (by rw [List.length_take]; omega)
theorem aDX {L : List (List Int)} (hs : L.Pairwise fun a b => ¬slx b a < 0) : ∀ {j : Nat}, j ≤ L.length → pG (ddK L j)
  |0,_=>List.Pairwise.nil
  | j + 1, hj => by
    have ih:=aDX hs (j:=j) (by omega)
    by_cases h:j=0∨nth L j≠nth L (j - 1)
    · rw [bL h, pG, List.pairwise_append]
      refine ⟨ih,by simp,fun a ha b hb=>?_⟩
      rw [List.mem_singleton.1 hb]
      have ha':=(oX (L:=L) (by omega) a).1 ha
      obtain ⟨i,hi,rfl⟩:=dQ ha'
      rw [List.length_take] at hi
      rw [kQ (by omega)]
      have le: ∀ p q,p < q→q < L.length→slx (nth L p) (nth L q)≤0:=fun p q h1 h2=>by
        have:=(List.pairwise_iff_getElem.1 hs) p q (by omega) h2 h1
        rw [aQ,aQ] at this
        exact zC.1 this
      have h1:=le i j (by omega) (by omega)
      by_cases e:slx (nth L i) (nth L j) < 0
      · exact e
      · exfalso
        have heq:=eM.1 (show slx (nth L i) (nth L j)=0 by omega)
        have h2:slx (nth L (j - 1)) (nth L j)≤0:=le (j - 1) j (by omega) (by omega)
        have h3:slx (nth L j) (nth L (j - 1))≤0:=by
          rw [← heq]
          by_cases ei:i=j - 1
          · rw [ei,eM.2 rfl]; omega
          · exact le i (j - 1) (by omega) (by omega)
        have:=aBU h2 h3
        rcases h with h|h
        · omega
        · exact h this.symm
    · rw [bP h]; exact ih
def sdP (l:List (List Int)):List (List Int):=ddK (srt slx l) (srt slx l).length
theorem aAC (l:List (List Int)):sdP l=sdW l:=by
  refine qH (aDX (lF aDt l) (Nat.le_refl _)) (lE l) fun u=>?_
  unfold sdP
  rw [oX (Nat.le_refl _),List.take_length,eS]
  exact (lV slx l).mem_iff
theorem aH6 (l:List (List Int)):(sdW l).length≤l.length:=by
  rw [← aAC]
  have:=vY (srt slx l) (srt slx l).length
  unfold sdP; rw [iT] at this ⊢; exact this
end Go.Proofs.YtilfohjlglefjaaGreat
namespace Go.Proofs.YtilfohjlglefjaaGreat
open Go
theorem aGl {p:Nat→Bool}: ∀ n k,-1≤fi p k n∧(0≤fi p k n→fi p k n < ((k+n:Nat):Int))
  |0,k=>⟨Int.le_refl _,fun h=>by simp [fi] at h⟩
  | n + 1, k => by
    simp only [fi]
    split
    · exact ⟨by omega,fun _=>by omega⟩
    · have h:=aGl (p:=p) n (k+1)
      exact ⟨h.1,fun h0=>by have:=h.2 h0; omega⟩
def clA (l:List Tr) (t:Tr):Nat→Nat×Int
  |0=>(t.ni.length,0)
  |n+1=>if 0≤df (nth l n) t∧df (nth l n) t < ((clA l t n).1:Nat) then ((df (nth l n) t).toNat,nth (nth l n).no (df (nth l n) t).toNat) else clA l t n
def clB (o:Ob) (t:Tr):Prop:=prE t o.i=0∧(clA o.tr t o.tr.length).1≠t.ni.length
instance (o:Ob) (t:Tr):Decidable (clB o t):=by unfold clB; infer_instance
end Go.Proofs.YtilfohjlglefjaaGreat
namespace Go.Proofs.YtilfohjlglefjaaGreat
def Srt (l:List Tr):Prop:=l.Pairwise fun a b=>slx a.ni b.ni < 0
def inP (l:List Tr) (t:Tr) (j:Nat):Bool:=hp (nth l j).ni t.ni
def inL (l:List Tr) (t:Tr):Prop:=exB (inP l t) 0 l.length=true∨t.ni.length=0
instance (l:List Tr) (t:Tr):Decidable (inL l t):=inferInstanceAs (Decidable (_∨_))
theorem OK.srt {o:Ob} (h:OK o):Srt o.tr:=by
  rw [Srt,List.pairwise_iff_getElem]
  intro i j hi hj hij
  rw [aQ hi,aQ hj]
  exact OK.lt_of h.ord hij hj
def okR (a b:Tr):Prop:=slx a.ni b.ni < 0∧hp b.ni a.ni=false∧df a b < 0
theorem OK.of {i:Int} {l:List Tr} (hi:1≤i∧i≤64) (hl:l.length≤10000) (hm: ∀ t∈l,Proper t i∧0 < t.ni.length) (h:l.Pairwise okR):OK ⟨i,l⟩:=by
  rw [List.pairwise_iff_getElem] at h
  have h': ∀ a b,a < b→b < l.length→okR (nth l a) (nth l b):=fun a b hab hb=>by
    have:=h a b (by omega) hb hab
    rwa [aQ,aQ] at this
  exact ⟨hi,hl,fun k hk=>hm _ (bH hk),fun k hk=>(h' k (k+1) (by omega) hk).1,fun a b hab hb=>(h' a b hab hb).2.1,fun a b hab hb=>(h' a b hab hb).2.2⟩
section
variable {l:List Tr} {t:Tr} {k:Nat}
end
theorem aFQ {a b:List Int} (h1:hp a b=true) (h2:a.length≤b.length):a=b:=by
  obtain ⟨x,rfl⟩:=zA.1 h1
  have:x=[]:=by cases x with
    |nil=>rfl
    |cons c x=>simp at h2; omega
  simp [this]
end Go.Proofs.YtilfohjlglefjaaGreat
namespace Go.Proofs.YtilfohjlglefjaaGreat
theorem Tr.eq_iff {a b:Tr}:a=b↔a.ni=b.ni∧a.no=b.no:=by cases a; cases b; simp
theorem Ob.eq_iff {a b:Ob}:a=b↔a.i=b.i∧a.tr=b.tr:=by cases a; cases b; simp
instance:DecidableEq Tr:=fun _ _=>decidable_of_iff _ Tr.eq_iff.symm
instance:DecidableEq Ob:=fun _ _=>decidable_of_iff _ Ob.eq_iff.symm
end Go.Proofs.YtilfohjlglefjaaGreat
namespace Go.Proofs.YtilfohjlglefjaaGreat
theorem OK.anti {o:Ob} (h:OK o) {u v:Tr} (hu:u∈o.tr) (hv:v∈o.tr) (e:hp v.ni u.ni=true):v=u:=by
  obtain ⟨a,ha,rfl⟩:=dQ hu
  obtain ⟨b,hb,rfl⟩:=dQ hv
  rcases Nat.lt_trichotomy a b with q|q|q
  · rw [h.pre a b q hb] at e; cases e
  · rw [q]
  · have h1:=OK.lt_of h.ord q ha
    have h2:=aGW e
    unfold slx at h1
    split at h1
    · omega
    · split at h1
      · omega
      · rw [aFQ e (by omega),cA.2 rfl] at h1; omega
theorem aLq {a b:Tr}:df a b < 0↔ ∀ j,j < cmn a.ni b.ni→nth a.no j=nth b.no j:=by
  constructor
  · intro h j hj
    by_cases e:nth a.no j=nth b.no j
    · exact e
    · have:=aCO.2 ⟨j,hj,e⟩; omega
  · intro h
    by_cases e:df a b < 0
    · exact e
    · obtain ⟨j,hj,q⟩:=aCO.1 (show 0≤df a b by omega)
      exact (q (h j hj)).elim
theorem OK.cl {o:Ob} (h:OK o) {u v:Tr} (hu:u∈o.tr) (hv:v∈o.tr):df u v < 0:=aLq.2 fun _ hj=>h.same hu hv hj
end Go.Proofs.YtilfohjlglefjaaGreat
namespace Go.Proofs.YtilfohjlglefjaaGreat
theorem aBC: ∀ {l m:List Int},l.Nodup→(∀ a∈l,a∈m)→l.length≤m.length
  |[],_,_,_=>Nat.zero_le _
  | a :: l, m, hn, hs => by
    obtain ⟨h1,h2⟩:=List.nodup_cons.1 hn
    have ha:a∈m:=hs a (by simp)
    have:=aBC (m:=m.erase a) h2 fun b hb=>(List.mem_erase_of_ne (fun e=>h1 (by rw [← e]; exact hb))).2 (hs b (List.mem_cons_of_mem _ hb))
    rw [List.length_erase_of_mem ha] at this
    have:=List.length_pos_of_mem ha
    simp only [List.length_cons]; omega
def cB (b:Bool):List V:=[.bool b]
abbrev RS:=List Int×List Bool
def aIM (P:RS) (a:Int):RS:=if nth P.2 a.toNat=true then P else (P.1++[a],P.2.set a.toNat true)
def aRe (m:M) (P:RS) (k:Nat):RS:=(nth m.nx (nth P.1 k).toNat).foldl aIM P
def aRz (m:M):Nat→Nat→RS→RS
  |0,_,P=>P
  |n+1,k,P=>if k < P.1.length then aRz m n (k+1) (aRe m P k) else P
def aTA (m:M):RS:=([m.s],(List.replicate m.nx.length false).set m.s.toNat true)
def rch (m:M):List Int:=if dA m≠0 then [] else (aRz m m.nx.length 0 (aTA m)).1
structure RI (n:Nat) (P:RS):Prop where
  blen:P.2.length=n
  rng: ∀ a∈P.1,0≤a∧a < n
  mem: ∀ a:Int,0≤a→a < n→(nth P.2 a.toNat=true↔a∈P.1)
  nd:P.1.Nodup
theorem qJ {α:Type} [Inhabited α] {l:List α} {i j:Nat} {x:α} (hi:i < l.length):nth (l.set i x) j=if i=j then x else nth l j:=by
  unfold nth
  by_cases e:i=j
  · subst e; simp [hi]
  · rw [if_neg e]
    simp [List.getElem?_set,e]
theorem RI.step {n : Nat} {P : RS} (h : RI n P) {a : Int} (h0 : 0 ≤ a) (h1 : a < n) : RI n (aIM P a) := by
  unfold aIM
  split
  · exact h
  · rename_i g
    have hna:a∉P.1:=fun q=>g ((h.mem a h0 h1).2 q)
    have hlt:a.toNat < P.2.length:=by rw [h.blen]; omega
    refine ⟨by simp [h.blen],fun b hb=>?_,fun b b0 b1=>?_,?_⟩
    · rcases List.mem_append.1 hb with hb|hb
      · exact h.rng b hb
      · rw [List.mem_singleton.1 hb]; exact ⟨h0,h1⟩
    · rw [qJ hlt,List.mem_append,List.mem_singleton]
      by_cases e:a.toNat=b.toNat
      · rw [if_pos e]; exact ⟨fun _=>.inr (by omega),fun _=>rfl⟩
      · rw [if_neg e,h.mem b b0 b1]
        exact ⟨.inl,fun q=>q.resolve_right fun q=>e (by rw [q])⟩
    · rw [List.nodup_append]
      refine ⟨h.nd,by simp,fun x hx y hy=>?_⟩
      rw [List.mem_singleton.1 hy]; intro e; exact hna (e ▸ hx)
theorem RI.fold {n:Nat}: ∀ {w:List Int} {P:RS},RI n P→(∀ a∈w,0≤a∧a < n)→RI n (w.foldl aIM P)
  |[],_,h,_=>h
  | a :: w, P, h, hw => by
    rw [List.foldl_cons]
    exact RI.fold (h.step (hw a (by simp)).1 (hw a (by simp)).2) fun b hb=>hw b (List.mem_cons_of_mem _ hb)
theorem RI.len {n:Nat} {P:RS} (h:RI n P):P.1.length≤n:=by
  have:=aBC (m:=(List.range n).map Int.ofNat) h.nd fun a ha=>by
    obtain ⟨h0,h1⟩:=h.rng a ha
    exact List.mem_map.2 ⟨a.toNat,List.mem_range.2 (by omega),by simp; omega⟩
  simpa using this
theorem aPs {m:M} (h:dA m=0) {s:Int} (h0:0≤s) (h1:s < m.nx.length): ∀ a∈nth m.nx s.toNat,0≤a∧a < m.nx.length:=fun a ha=>by
  obtain ⟨j,hj,rfl⟩:=dQ ha
  obtain ⟨g1,_,g3⟩:=(gR h).2.2.2.2.2.2.2 s.toNat (by omega)
  have:=g3 j (by omega)
  exact ⟨this.1,this.2.1⟩
theorem RI.row {m:M} (h:dA m=0) {P:RS} (hP:RI m.nx.length P) {k:Nat} (hk:k < P.1.length):RI m.nx.length (aRe m P k):=by
  obtain ⟨h0,h1⟩:=hP.rng _ (bH hk)
  exact RI.fold hP (aPs h h0 h1)
end Go.Proofs.YtilfohjlglefjaaGreat
namespace Go.Proofs.YtilfohjlglefjaaGreat
structure Nd where
  lf:Bool
  ac:List Int
  sf:List Int
  ou:List (List Int)
  kd:List Int
  deriving Inhabited
abbrev cN (x:Nd):List V:=[.bool x.lf,aY x.ac,aY x.sf,aB x.ou,aY x.kd]
structure Dt where
  nd:List Nd
  deriving Inhabited
@[simp] theorem aLj (l:List Nd):cV (l.map cN)=true:=dL _ _ fun a=>by simp [cN]
theorem Nd.eq_iff {a b:Nd}:a=b↔a.lf=b.lf∧a.ac=b.ac∧a.sf=b.sf∧a.ou=b.ou∧a.kd=b.kd:=by cases a; cases b; simp
theorem Dt.eq_iff {a b:Dt}:a=b↔a.nd=b.nd:=by cases a; cases b; simp
instance:DecidableEq Nd:=fun _ _=>decidable_of_iff _ Nd.eq_iff.symm
instance:DecidableEq Dt:=fun _ _=>decidable_of_iff _ Dt.eq_iff.symm
def ouE (w:List Int) (k:Nat):Int:=if nth w k < 0∨1048576 < nth w k then 2 else 0
def vlE (bV suffix:List Int):Int:=if bV.length≠suffix.length then 1 else fe (ouE bV) 0 bV.length
def lfE (x:Nd):Int:=if 0 < x.sf.length+x.ou.length+x.kd.length then 1 else dW x.ac 64
def chE (x:Nd) (n:Nat) (k:Nat):Int:=if vlE (nth x.ou k) x.sf≠0 then vlE (nth x.ou k) x.sf else if 0 < k∧0≤bC (nth x.ou (k - 1)) (nth x.ou k) then 10 else if nth x.kd k < 0∨(n:Int)≤nth x.kd k then 2 else 0
def aF6 (x:Nd) (n:Nat):Int:=
  if 0 < x.ac.length then 1 else if x.sf.length=0 then 19 else if dW x.sf 64≠0 then dW x.sf 64 else if x.ou.length≠x.kd.length then 1 else fe (chE x n) 0 x.ou.length
def ndE (x:Nd) (n:Nat):Int:=if x.lf=true then lfE x else aF6 x n
def acL (l:List Nd):List (List Int):=(l.filter (·.lf)).map (·.ac)
def qS (t:Dt) (P:List Int) (i:Nat):List Int:=P++(nth t.nd (nth P i).toNat).kd
structure KI (t:Dt):Prop where
  pos:0 < t.nd.length
  rng: ∀ k,k < t.nd.length→ ∀ a∈(nth t.nd k).kd,0≤a∧a < t.nd.length
def whI:RS→List Int→Option RS
  |P,[]=>some P
  |P,a::w=>if nth P.2 a.toNat=true then none else whI (P.1++[a],P.2.set a.toNat true) w
def whN (t:Dt):Nat→Nat→RS→Option RS
  |0,_,P=>some P
  |n+1,i,P=>if i < P.1.length then (whI P (nth t.nd (nth P.1 i).toNat).kd).bind (whN t n (i+1)) else some P
def wh0 (t:Dt):RS:=([0],(List.replicate t.nd.length false).set 0 true)
def whB (t:Dt):Bool:=match whN t t.nd.length 0 (wh0 t) with
  |some P=>decide (P.1.length=t.nd.length)
  |none=>false
inductive Ln (t:Dt):Nat→List Int→Prop where
  |zero:Ln t 0 [0]
  |step {i:Nat} {P:List Int} (h:Ln t i P) (hi:i < P.length):Ln t (i+1) (qS t P i)
theorem Ln.rng {t:Dt} (hk:KI t): ∀ {i:Nat} {P:List Int},Ln t i P→ ∀ a∈P,0≤a∧a < t.nd.length:=by
  intro i P h
  induction h with
  |zero=>intro a ha; rw [List.mem_singleton.1 ha]; have:=hk.pos; omega
  | step h hi ih =>
    intro a ha
    rcases List.mem_append.1 ha with ha|ha
    · exact ih a ha
    · have:=ih _ (bH hi)
      exact hk.rng _ (by omega) a ha
theorem Ln.le {t:Dt}: ∀ {i:Nat} {P:List Int},Ln t i P→i≤P.length:=by
  intro i P h
  induction h with
  |zero=>simp
  |step h hi ih=>unfold qS; rw [List.length_append]; omega
def Whole (t:Dt):Prop:= ∃ P:List Int,Ln t P.length P∧P.Nodup∧P.length=t.nd.length
theorem Ln.uniq {t:Dt}: ∀ {i:Nat} {P Q:List Int},Ln t i P→Ln t i Q→P=Q:=by
  intro i P Q h
  induction h generalizing Q with
  |zero=>intro h; cases h; rfl
  | step h hi ih =>
    intro h'
    cases h' with
    |step h2 hi2=>rw [ih h2]
theorem Ln.pre {t:Dt}: ∀ {i:Nat} {P:List Int},Ln t i P→ ∀ {j:Nat} {Q:List Int},Ln t j Q→i≤j→ ∃ x,Q=P++x:=by
  intro i P h j Q h2 hij
  induction h2 with
  | zero =>
    have:i=0:=by omega
    subst this; exact ⟨[],by rw [h.uniq .zero]; rfl⟩
  | step h3 hi ih =>
    rename_i j Q
    by_cases e:i=j+1
    · subst e; exact ⟨[],by rw [h.uniq (.step h3 hi)]; simp⟩
    · obtain ⟨x,hx⟩:=ih (by omega)
      exact ⟨x++(nth t.nd (nth Q j).toNat).kd,by unfold qS; rw [hx,List.append_assoc]⟩
theorem oY {t:Dt} {P:List Int} (h: ∀ a∈P,0≤a∧a < t.nd.length) (hn:P.Nodup):P.length≤t.nd.length:=by
  have:=aBC (m:=(List.range t.nd.length).map Int.ofNat) hn fun a ha=>by
    obtain ⟨h0,h1⟩:=h a ha
    exact List.mem_map.2 ⟨a.toNat,List.mem_range.2 (by omega),by simp; omega⟩
  simpa using this
def Mk (n:Nat) (B:List Bool) (l:List Int):Prop:=B.length=n∧ ∀ a:Int,0≤a→a < n→(nth B a.toNat=true↔a∈l)
theorem Mk.set {n:Nat} {B:List Bool} {l:List Int} (h:Mk n B l) {a:Int} (h0:0≤a) (h1:a < n):Mk n (B.set a.toNat true) (l++[a]):=by
  refine ⟨by simp [h.1],fun b b0 b1=>?_⟩
  rw [qJ (by rw [h.1]; omega),List.mem_append,List.mem_singleton]
  by_cases e:a.toNat=b.toNat
  · rw [if_pos e]; exact ⟨fun _=>.inr (by omega),fun _=>rfl⟩
  · rw [if_neg e,h.2 b b0 b1]
    exact ⟨.inl,fun q=>q.resolve_right fun q=>e (by rw [q])⟩
theorem Mk.none (n:Nat):Mk n (List.replicate n false) []:=by
  refine ⟨by simp,fun a h0 h1=>?_⟩
  have:nth (List.replicate n false) a.toNat=false:=by
    rw [← aQ (by simp; omega)]; simp
  rw [this]; simp
theorem aBp {n : Nat} : ∀ {w : List Int} {P : RS}, Mk n P.2 P.1 → P.1.Nodup → (∀ a ∈ w, 0 ≤ a ∧ a < n) →
    match whI P w with
    |some Q=>Q.1=P.1++w∧Mk n Q.2 Q.1∧Q.1.Nodup
    |none=> ¬(P.1++w).Nodup
  |[],P,h,hn,_=>by simp only [whI]; exact ⟨by simp,h,hn⟩
  | a :: w, P, h, hn, hw => by
    obtain ⟨h0,h1⟩:=hw a (by simp)
    simp only [whI]
    by_cases e:nth P.2 a.toNat=true
    · rw [if_pos e]
      intro q
      have:=(h.2 a h0 h1).1 e
      rw [List.nodup_append] at q
      exact q.2.2 a this a (by simp) rfl
    · rw [if_neg e]
      have hna:a∉P.1:=fun q=>e ((h.2 a h0 h1).2 q)
      have hnd:(P.1++[a]).Nodup:=by
        rw [List.nodup_append]
        exact ⟨hn,by simp,fun x hx y hy=>by rw [List.mem_singleton.1 hy]; intro q; exact hna (q ▸ hx)⟩
      have ih:=aBp (w:=w) (P:=(P.1++[a],P.2.set a.toNat true)) (h.set h0 h1) hnd fun b hb=>hw b (List.mem_cons_of_mem _ hb)
      have ea:P.1++[a]++w=P.1++a::w:=by simp
      simp only [ea] at ih
      exact ih
theorem uM {t : Dt} (hk : KI t) : ∀ (n i : Nat) (P : RS), Ln t i P.1 → Mk t.nd.length P.2 P.1 → P.1.Nodup → t.nd.length ≤ i + n →
    match whN t n i P with
    |some Q=>Ln t Q.1.length Q.1∧Q.1.Nodup
    |none=> ∃ j L,Ln t j L∧ ¬L.Nodup
  | 0, i, P, hl, hm, hn, hi => by
    simp only [whN]
    have h1:=hl.le
    have h2:=oY (hl.rng hk) hn
    have:P.1.length=i:=by omega
    exact ⟨by rw [this]; exact hl,hn⟩
  | n + 1, i, P, hl, hm, hn, hi => by
    simp only [whN]
    by_cases h:i < P.1.length
    · rw [if_pos h]
      have hr:=hl.rng hk _ (bH h)
      have hw:=aBp (w:=(nth t.nd (nth P.1 i).toNat).kd) hm hn (hk.rng _ (by omega))
      cases hq:whI P (nth t.nd (nth P.1 i).toNat).kd with
      | none =>
        rw [hq] at hw
        simp only [Option.bind_none]
        exact ⟨i+1,_,.step hl h,hw⟩
      | some Q =>
        rw [hq] at hw
        simp only [Option.bind_some]
        obtain ⟨g1,g2,g3⟩:=hw
        exact uM hk n (i+1) Q (by rw [g1]; exact .step hl h) g2 g3 (by omega)
    · rw [if_neg h]
      have:=hl.le
      have:P.1.length=i:=by omega
      exact ⟨by rw [this]; exact hl,hn⟩
theorem aJp {t : Dt} (hk : KI t) : whB t = true ↔ Whole t := by
  have h0:Mk t.nd.length (wh0 t).2 (wh0 t).1:=by
    have:=(Mk.none t.nd.length).set (a:=0) (by omega) (by have:=hk.pos; omega)
    exact this
  have h:=uM hk t.nd.length 0 (wh0 t) .zero h0 (by simp [wh0]) (by omega)
  unfold whB
  cases hq:whN t t.nd.length 0 (wh0 t) with
  | none =>
    rw [hq] at h
    obtain ⟨j,L,g1,g2⟩:=h
    simp only [Bool.false_eq_true,false_iff]
    rintro ⟨P,p1,p2,p3⟩
    have hj : j ≤ P.length := by
      have:=g1.le
      by_cases e:j≤P.length
      · exact e
      · exfalso
        obtain ⟨x,hx⟩:=p1.pre g1 (by omega)
        -- the line ends with P:no step leads beyond it
        have key: ∀ {j:Nat} {L:List Int},Ln t j L→P.length < j→False:=by
          intro j L hL
          induction hL with
          |zero=>intro q; omega
          | step h2 hi ih =>
            rename_i a b
            intro q
            by_cases e2:P.length < a
            · exact ih e2
            · have:a=P.length:=by omega
              subst this
              rw [h2.uniq p1] at hi; omega
        exact key g1 (by omega)
    obtain ⟨x,hx⟩:=g1.pre p1 hj
    rw [hx,List.nodup_append] at p2
    exact g2 p2.1
  | some Q =>
    rw [hq] at h
    obtain ⟨g1,g2⟩:=h
    simp only [decide_eq_true_eq]
    constructor
    · intro e; exact ⟨Q.1,g1,g2,e⟩
    · rintro ⟨P,p1,p2,p3⟩
      have key: ∀ {j:Nat} {L:List Int},Ln t j L→ ∀ {P:List Int},Ln t P.length P→j≤P.length:=by
        intro j L hL P p1
        induction hL with
        |zero=>omega
        | step h2 hi ih =>
          rename_i a b
          by_cases e:a=P.length
          · subst e; rw [h2.uniq p1] at hi; omega
          · omega
      have a1:=key g1 p1
      have a2:=key p1 g1
      omega
def dvE (t : Dt) : Int :=
  if t.nd.length=0 then 19 else if 4096 < t.nd.length then 11 else if fe (fun k=>ndE (nth t.nd k) t.nd.length) 0 t.nd.length≠0 then fe (fun k=>ndE (nth t.nd k) t.nd.length) 0 t.nd.length else
    if whB t=false then 1 else if (sdW (acL t.nd)).length≠(acL t.nd).length then 7 else 0
end Go.Proofs.YtilfohjlglefjaaGreat
namespace Go.Proofs.YtilfohjlglefjaaGreat
def pF (l:List (List Int)):Prop:=l.Pairwise fun a b=>bC a b < 0
def lxP (w u:List Int):Bool:=decide (bC u w < 0)
def lxN (l:List (List Int)) (w:List Int):Nat:=(l.takeWhile (lxP w)).length
theorem aFB (a:List Int): ¬bC a a < 0:=by rw [cA.2 rfl]; omega
theorem aDS {w a:List Int} {l:List (List Int)}:lxN (a::l) w=if lxP w a=true then lxN l w+1 else 0:=by
  unfold lxN; rw [List.takeWhile_cons]; split <;> rfl
theorem aKs {w:List Int}: ∀ l:List (List Int),lxN l w≤l.length
  |[]=>Nat.le_refl _
  |a::l=>by rw [aDS]; have:=aKs (w:=w) l; split <;> simp <;> omega
theorem vH {w : List Int} : ∀ {l : List (List Int)} (_ : pF l) {k : Nat}, k < l.length → (bC (nth l k) w < 0 ↔ k < lxN l w)
  |[],_,k,hk=>by simp at hk
  | a :: l, h, k, hk => by
    rw [aDS]
    obtain ⟨h1,h2⟩:=List.pairwise_cons.1 h
    by_cases e:lxP w a=true
    · rw [if_pos e]
      cases k with
      |zero=>rw [eE]; simp only [lxP,decide_eq_true_eq] at e; exact ⟨fun _=>by omega,fun _=>e⟩
      |succ k=>rw [kN,vH h2 (by simpa using hk)]; omega
    · rw [if_neg e]
      simp only [lxP,decide_eq_true_eq] at e
      refine ⟨fun h3=>?_,fun h3=>by omega⟩
      cases k with
      |zero=>exact (e h3).elim
      | succ k =>
        rw [kN] at h3
        exact (e (jE (h1 _ (bH (by simpa using hk))) h3)).elim
def lxH (l:List (List Int)) (w:List Int):Prop:=lxN l w < l.length∧bC (nth l (lxN l w)) w=0
instance (l:List (List Int)) (w:List Int):Decidable (lxH l w):=inferInstanceAs (Decidable (_∧_))
theorem aKl {l:List (List Int)} {w:List Int} (h:lxH l w):nth l (lxN l w)=w:=cA.1 h.2
theorem pI {l:List (List Int)} (h:pF l) {i j:Nat} (hij:i < j) (hj:j < l.length):bC (nth l i) (nth l j) < 0:=by
  have:=(List.pairwise_iff_getElem.1 h) i j (by omega) hj hij
  rwa [aQ,aQ] at this
theorem aEk {l:List (List Int)} (hs:pF l) {w:List Int} {k:Nat} (hk:k < l.length) (h:nth l k=w):lxN l w=k∧lxH l w:=by
  have h1: ¬k < lxN l w:=fun q=>aFB w (by have:=(vH hs hk).2 q; rwa [h] at this)
  have h2: ¬lxN l w < k:=fun q=>by
    have g:=pI hs q hk
    rw [h] at g
    have:=(vH hs (show lxN l w < l.length by omega)).1 g; omega
  have e:lxN l w=k:=by omega
  exact ⟨e,by rw [lxH,e]; exact ⟨hk,cA.2 h⟩⟩
end Go.Proofs.YtilfohjlglefjaaGreat
namespace Go.Proofs.YtilfohjlglefjaaGreat
theorem oC {α:Type} [Inhabited α] {l:List α} {a:α} (h:a∈l): ∃ k,k < l.length∧nth l k=a:=by
  obtain ⟨k,hk,e⟩:=List.mem_iff_getElem.1 h
  exact ⟨k,hk,by rw [← aQ hk]; exact e⟩
theorem aFF {l:List Int} (h:l.Nodup) {i j:Nat} (hi:i < l.length) (hj:j < l.length) (e:nth l i=nth l j):i=j:=by
  have hp:=List.pairwise_iff_getElem.1 h
  rcases Nat.lt_trichotomy i j with q|q|q
  · exact (hp i j hi hj q (by rw [aQ,aQ]; exact e)).elim
  · exact q
  · exact (hp j i hj hi q (by rw [aQ,aQ]; exact e.symm)).elim
theorem aJ7 {l:List (List Int)} (h: ∀ a b,a < b→b < l.length→bC (nth l a) (nth l b) < 0):pF l:=
  List.pairwise_iff_getElem.2 fun i j hi hj hij=>by rw [aQ,aQ]; exact h i j hij hj
theorem mL {t : Dt} (h : dvE t = 0) : 0 < t.nd.length ∧ t.nd.length ≤ 4096 ∧ (∀ k, k < t.nd.length → ndE (nth t.nd k) t.nd.length = 0) ∧ whB t = true ∧ (sdW (acL t.nd)).length = (acL t.nd).length := by
  unfold dvE at h
  split at h
  · omega
  · split at h
    · omega
    · split at h
      · rename_i q; exact (q h).elim
      · rename_i q
        split at h
        · omega
        · rename_i w
          split at h
          · omega
          · refine ⟨by omega,by omega,fun k hk=>?_,by simpa using w,by omega⟩
            have:=cM.1 (Decidable.not_not.1 q) k (Nat.zero_le _) (by omega)
            exact this
structure InOk (x:Nd) (n:Nat):Prop where
  ac:x.ac=[]
  s0:0 < x.sf.length
  sw:dW x.sf 64=0
  len:x.ou.length=x.kd.length
  ov: ∀ k,k < x.ou.length→vlE (nth x.ou k) x.sf=0
  srt:pF x.ou
  kr: ∀ a∈x.kd,0≤a∧a < n
structure LfOk (x:Nd):Prop where
  sf:x.sf=[]
  ou:x.ou=[]
  kd:x.kd=[]
  aw:dW x.ac 64=0
theorem aGf {x:Nd} {n k:Nat} (h:chE x n k=0):vlE (nth x.ou k) x.sf=0∧(0 < k→bC (nth x.ou (k - 1)) (nth x.ou k) < 0)∧0≤nth x.kd k∧nth x.kd k < n:=by
  unfold chE at h
  split at h
  · rename_i q; exact (q h).elim
  · split at h
    · omega
    · split at h
      · omega
      · exact ⟨by omega,fun hk=>by omega,by omega,by omega⟩
theorem aSw {x:Nd} {n:Nat}: ∀ {i:Nat},(∀ j,j < i→chE x n j=0)→ ∀ a b,a < b→b < i→bC (nth x.ou a) (nth x.ou b) < 0:=by
  intro i h a b
  induction b with
  |zero=>intro q; omega
  | succ b ih =>
    intro q hb
    have h1:=(aGf (h (b+1) hb)).2.1 (by omega)
    rw [Nat.add_sub_cancel] at h1
    rcases Nat.lt_or_ge a b with g|g
    · exact jE (ih g (by omega)) h1
    · rw [show a=b by omega]; exact h1
theorem aFA {x : Nd} {n : Nat} (h : aF6 x n = 0) : InOk x n := by
  unfold aF6 at h
  split at h
  · omega
  · split at h
    · omega
    · split at h
      · rename_i q; exact (q h).elim
      · split at h
        · omega
        · rename_i h1 h2 h3 h4
          have hc:=cM.1 h
          have hc': ∀ j,j < x.ou.length→chE x n j=0:=fun j hj=>hc j (Nat.zero_le _) (by omega)
          refine ⟨List.eq_nil_of_length_eq_zero (by omega),by omega,by omega,by omega,fun k hk=>(aGf (hc' k hk)).1,aJ7 fun a b hab hb=>aSw hc' a b hab hb,fun a ha=>?_⟩
          obtain ⟨k,hk,rfl⟩:=oC ha
          exact (aGf (hc' k (by omega))).2.2
theorem aKF {x:Nd} (h:lfE x=0):LfOk x:=by
  unfold lfE at h
  split at h
  · omega
  · exact ⟨List.eq_nil_of_length_eq_zero (by omega),List.eq_nil_of_length_eq_zero (by omega),List.eq_nil_of_length_eq_zero (by omega),h⟩
theorem yO {t:Dt} (h:dvE t=0) {k:Nat} (hk:k < t.nd.length) (hl:(nth t.nd k).lf=false):InOk (nth t.nd k) t.nd.length:=by
  have:=(mL h).2.2.1 k hk
  unfold ndE at this
  rw [hl,if_neg (by simp)] at this
  exact aFA this
theorem aGj {t:Dt} (h:dvE t=0) {k:Nat} (hk:k < t.nd.length) (hl:(nth t.nd k).lf=true):LfOk (nth t.nd k):=by
  have:=(mL h).2.2.1 k hk
  unfold ndE at this
  rw [hl,if_pos rfl] at this
  exact aKF this
theorem aGq {t:Dt} (h0:0 < t.nd.length) (h: ∀ k,k < t.nd.length→ndE (nth t.nd k) t.nd.length=0):KI t:=by
  refine ⟨h0,fun k hk a ha=>?_⟩
  have:=h k hk
  unfold ndE at this
  split at this
  · rw [(aKF this).kd] at ha; cases ha
  · exact (aFA this).kr a ha
theorem jU {t:Dt} (h:dvE t=0):KI t:=aGq (mL h).1 (mL h).2.2.1
def Plc (t:Dt) (P:List Int):Prop:=Ln t P.length P∧P.Nodup∧P.length=t.nd.length
theorem kE {t:Dt} (h:dvE t=0): ∃ P,Plc t P:=(aJp (jU h)).1 (mL h).2.2.2.1
theorem Ln.kid {t:Dt}: ∀ {i:Nat} {P:List Int},Ln t i P→ ∀ {a:Int} {j:Nat},j < i→a∈(nth t.nd (nth P j).toNat).kd→ ∃ s,j < s∧s < P.length∧nth P s=a:=by
  intro i P h
  induction h with
  |zero=>intro a j hj; omega
  | step h hi ih =>
    rename_i i P
    intro a j hj ha
    have hle:=h.le
    have e:nth (qS t P i) j=nth P j:=by unfold qS; exact bT (by omega)
    rw [e] at ha
    have hl:(qS t P i).length=P.length+(nth t.nd (nth P i).toNat).kd.length:=by unfold qS; rw [List.length_append]
    rcases Nat.lt_or_ge j i with q|q
    · obtain ⟨s,h1,h2,h3⟩:=ih q ha
      exact ⟨s,h1,by omega,by unfold qS; rw [bT h2]; exact h3⟩
    · have:j=i:=by omega
      subst this
      obtain ⟨c,hc,hv⟩:=oC ha
      exact ⟨P.length+c,by omega,by omega,by unfold qS; rw [dJ]; exact hv⟩
theorem Ln.par {t:Dt}: ∀ {i:Nat} {P:List Int},Ln t i P→ ∀ {s:Nat},0 < s→s < P.length→ ∃ j,j < s∧nth P s∈(nth t.nd (nth P j).toNat).kd:=by
  intro i P h
  induction h with
  |zero=>intro s h0 h1; simp at h1; omega
  | step h hi ih =>
    rename_i i P
    intro s h0 h1
    have hl:(qS t P i).length=P.length+(nth t.nd (nth P i).toNat).kd.length:=by unfold qS; rw [List.length_append]
    rcases Nat.lt_or_ge s P.length with q|q
    · obtain ⟨j,g1,g2⟩:=ih h0 q
      refine ⟨j,g1,?_⟩
      unfold qS; rw [bT q,bT (by omega)]; exact g2
    · refine ⟨i,by omega,?_⟩
      have e:s=P.length+(s - P.length):=by omega
      unfold qS
      rw [bT hi,e,dJ]
      exact bH (by omega)
theorem Plc.head {t:Dt} {P:List Int} (h:Plc t P):nth P 0=0∧(0 < t.nd.length→0 < P.length):=by
  have: ∀ {i:Nat} {P:List Int},Ln t i P→nth P 0=0:=by
    intro i P h
    induction h with
    |zero=>rfl
    |step h hi ih=>unfold qS; rw [bT (by omega)]; exact ih
  exact ⟨this h.1,fun q=>by rw [h.2.2]; exact q⟩
theorem Plc.kid {t:Dt} {P:List Int} (h:Plc t P) {s:Nat} (hs:s < P.length) {a:Int} (ha:a∈(nth t.nd (nth P s).toNat).kd): ∃ s',s < s'∧s' < P.length∧nth P s'=a:=h.1.kid hs ha
theorem Plc.all {t:Dt} (hk:KI t) {P:List Int} (h:Plc t P) {a:Int} (h0:0≤a) (h1:a < t.nd.length): ∃ s,s < P.length∧nth P s=a:=by
  by_cases e:a∈P
  · exact oC e
  · have:=oY (t:=t) (P:=a::P) (fun b hb=>by
      rcases List.mem_cons.1 hb with rfl|hb
      · exact ⟨h0,h1⟩
      · exact h.1.rng hk b hb) (List.nodup_cons.2 ⟨e,h.2.1⟩)
    have:=h.2.2
    simp at*; omega
theorem Plc.one {t : Dt} (hk : KI t) {P : List Int} (h : Plc t P) : ∀ {m m' a : Int}, 0 ≤ m → m < t.nd.length → 0 ≤ m' → m' < t.nd.length → a ∈ (nth t.nd m.toNat).kd → a ∈ (nth t.nd m'.toNat).kd → m = m' := by
  intro m m' a h0 h1 h2 h3 ha hb
  obtain ⟨i,hi,ei⟩:=h.all hk h0 h1
  obtain ⟨j,hj,ej⟩:=h.all hk h2 h3
  have key: ∀ {n:Nat} {Q:List Int},Ln t n Q→Q.Nodup→ ∀ {i j:Nat},i < j→j < n→a∈(nth t.nd (nth Q i).toNat).kd→a∈(nth t.nd (nth Q j).toNat).kd→False:=by
    intro n Q hq
    induction hq with
    |zero=>intro _ i j _ hj; omega
    | step h hi ih =>
      rename_i n Q
      intro hnd i j hij hj ha hb
      have hle:=h.le
      have e1:nth (qS t Q n) i=nth Q i:=by unfold qS; exact bT (by omega)
      have e2:nth (qS t Q n) j=nth Q j:=by unfold qS; exact bT (by omega)
      rw [e1] at ha; rw [e2] at hb
      have hn2:(Q++(nth t.nd (nth Q n).toNat).kd).Nodup:=hnd
      rw [List.nodup_append] at hn2
      rcases Nat.lt_or_ge j n with q|q
      · exact ih hn2.1 hij q ha hb
      · have:j=n:=by omega
        subst this
        obtain ⟨s,_,g2,g3⟩:=h.kid hij ha
        exact hn2.2.2 a (g3 ▸ bH g2) a hb rfl
  rw [← ei] at ha; rw [← ej] at hb
  rcases Nat.lt_trichotomy i j with q|q|q
  · exact (key h.1 h.2.1 q hj ha hb).elim
  · rw [← ei,← ej,q]
  · exact (key h.1 h.2.1 q hi hb ha).elim
def jP (t:Dt) (o:Ob) (w:List Int):Nat→Nat→Int×List Int×Int
  |0,n=>(n,[],0)
  | f + 1, n => if (nth t.nd n).lf = true then (n, [], 0) else if dW (cat [w, (nth t.nd n).sf]) o.i ≠ 0 then (0, [], dW (cat [w, (nth t.nd n).sf]) o.i) else
      if (ans o (cat [w,(nth t.nd n).sf])).isSome=false then (0,cat [w,(nth t.nd n).sf],0) else
      if lxH (nth t.nd n).ou (((ans o (cat [w,(nth t.nd n).sf])).getD []).drop w.length) then jP t o w f (nth (nth t.nd n).kd (lxN (nth t.nd n).ou (((ans o (cat [w,(nth t.nd n).sf])).getD []).drop w.length))).toNat else (n,[],0)
def bX (t:Dt) (o:Ob) (w:List Int):Int×List Int×Int:=
  if dvE t≠0 then (0,[],dvE t) else if dW w o.i≠0 then (0,[],dW w o.i) else jP t o w t.nd.length 0
def Rk (t:Dt) (f n:Nat):Prop:= ∃ P s,Plc t P∧s < P.length∧nth P s=(n:Int)∧t.nd.length≤f+s
theorem rk0 {t:Dt} (h:dvE t=0):Rk t t.nd.length 0:=by
  obtain ⟨P,hP⟩:=kE h
  exact ⟨P,0,hP,hP.head.2 (mL h).1,hP.head.1,by omega⟩
theorem Rk.pos {t:Dt} {f n:Nat} (h:Rk t f n):0 < f:=by
  obtain ⟨P,s,hP,hs,_,h3⟩:=h
  have:=hP.2.2; omega
theorem Rk.lt {t:Dt} (hv:dvE t=0) {f n:Nat} (h:Rk t f n):n < t.nd.length:=by
  obtain ⟨P,s,hP,hs,h2,_⟩:=h
  have:=hP.1.rng (jU hv) _ (bH hs)
  omega
theorem Rk.step {t:Dt} {f n:Nat} (h:Rk t f n) {a:Int} (ha:a∈(nth t.nd n).kd) (h0:0≤a):Rk t (f - 1) a.toNat:=by
  have hp:=h.pos
  obtain ⟨P,s,hP,hs,h2,h3⟩:=h
  obtain ⟨s',g1,g2,g3⟩:=hP.kid hs (a:=a) (by rw [h2]; simpa using ha)
  exact ⟨P,s',hP,g2,by rw [g3]; omega,by omega⟩
section
variable {t:Dt} {o:Ob} {w:List Int} {f n:Nat}
theorem aA3 (hf:0 < f) (h:(nth t.nd n).lf=true):jP t o w f n=((n:Int),[],0):=by
  obtain ⟨f,rfl⟩: ∃ g,f=g+1:=⟨f - 1,by omega⟩
  rw [jP,if_pos h]
theorem aEe (hf:0 < f) (h:(nth t.nd n).lf=false) (h1:dW (cat [w,(nth t.nd n).sf]) o.i≠0):jP t o w f n=(0,[],dW (cat [w,(nth t.nd n).sf]) o.i):=by
  obtain ⟨f,rfl⟩: ∃ g,f=g+1:=⟨f - 1,by omega⟩
  rw [jP,if_neg (by simp [h]),if_pos h1]
theorem aDj (hf:0 < f) (h:(nth t.nd n).lf=false) (h1: ¬dW (cat [w,(nth t.nd n).sf]) o.i≠0) (h2:(ans o (cat [w,(nth t.nd n).sf])).isSome=false):jP t o w f n=(0,cat [w,(nth t.nd n).sf],0):=by
  obtain ⟨f,rfl⟩: ∃ g,f=g+1:=⟨f - 1,by omega⟩
  rw [jP,if_neg (by simp [h]),if_neg h1,if_pos h2]
theorem aHr (hf:0 < f) (h:(nth t.nd n).lf=false) (h1: ¬dW (cat [w,(nth t.nd n).sf]) o.i≠0) (h2:(ans o (cat [w,(nth t.nd n).sf])).isSome=true) (h3:lxH (nth t.nd n).ou (((ans o (cat [w,(nth t.nd n).sf])).getD []).drop w.length)):
    jP t o w f n=jP t o w (f - 1) (nth (nth t.nd n).kd (lxN (nth t.nd n).ou (((ans o (cat [w,(nth t.nd n).sf])).getD []).drop w.length))).toNat:=by
  obtain ⟨f,rfl⟩: ∃ g,f=g+1:=⟨f - 1,by omega⟩
  rw [jP,if_neg (by simp [h]),if_neg h1,if_neg (by simp [h2]),if_pos h3,Nat.add_sub_cancel]
theorem aFo (hf:0 < f) (h:(nth t.nd n).lf=false) (h1: ¬dW (cat [w,(nth t.nd n).sf]) o.i≠0) (h2:(ans o (cat [w,(nth t.nd n).sf])).isSome=true) (h3: ¬lxH (nth t.nd n).ou (((ans o (cat [w,(nth t.nd n).sf])).getD []).drop w.length)):
    jP t o w f n=((n:Int),[],0):=by
  obtain ⟨f,rfl⟩: ∃ g,f=g+1:=⟨f - 1,by omega⟩
  rw [jP,if_neg (by simp [h]),if_neg h1,if_neg (by simp [h2]),if_neg h3]
end
def par (t:Dt) (n:Int):Int:=fi (fun k=>decide (n∈(nth t.nd k).kd)) 0 t.nd.length
def Up (t:Dt) (f:Nat) (n:Int):Prop:= ∃ P s,Plc t P∧s < P.length∧nth P s=n∧s≤f
theorem Up.of {t:Dt} (h:dvE t=0) {n:Int} (h0:0≤n) (h1:n < t.nd.length):Up t t.nd.length n:=by
  obtain ⟨P,hP⟩:=kE h
  obtain ⟨s,hs,e⟩:=hP.all (jU h) h0 h1
  exact ⟨P,s,hP,hs,e,by have:=hP.2.2; omega⟩
theorem Up.pos {t:Dt} {f:Nat} {n:Int} (h:Up t f n) (hn:n≠0):0 < f:=by
  obtain ⟨P,s,hP,hs,h2,h3⟩:=h
  rcases Nat.eq_zero_or_pos s with e|e
  · subst e; rw [hP.head.1] at h2; exact (hn h2.symm).elim
  · omega
theorem Up.rng {t:Dt} (hv:dvE t=0) {f:Nat} {n:Int} (h:Up t f n):0≤n∧n < t.nd.length:=by
  obtain ⟨P,s,hP,hs,h2,_⟩:=h
  rw [← h2]; exact hP.1.rng (jU hv) _ (bH hs)
theorem aNN {t:Dt} (hv:dvE t=0) {m n:Int} (h0:0≤m) (h1:m < t.nd.length) (h:n∈(nth t.nd m.toNat).kd):par t n=m:=by
  obtain ⟨P,hP⟩:=kE hv
  have hn:0≤par t n:=aAl.2 ⟨m.toNat,Nat.zero_le _,by omega,decide_eq_true h⟩
  obtain ⟨_,g2,g3,_⟩:=aCH hn
  refine hP.one (jU hv) hn ?_ h0 h1 (of_decide_eq_true g3) h
  have:(par t n).toNat < 0+t.nd.length:=g2
  omega
theorem Up.par {t:Dt} (hv:dvE t=0) {f:Nat} {n:Int} (h:Up t f n) (hn:n≠0):Up t (f - 1) (par t n)∧0≤par t n∧par t n < t.nd.length∧n∈(nth t.nd (par t n).toNat).kd:=by
  have hp:=h.pos hn
  have h':=h
  obtain ⟨P,s,hP,hs,h2,h3⟩:=h
  have hs0:0 < s:=by
    rcases Nat.eq_zero_or_pos s with e|e
    · subst e; rw [hP.head.1] at h2; exact (hn h2.symm).elim
    · exact e
  obtain ⟨j,g1,g2⟩:=hP.1.par hs0 hs
  rw [h2] at g2
  have hr:=hP.1.rng (jU hv) _ (bH (show j < P.length by omega))
  have e:=aNN hv hr.1 hr.2 g2
  rw [e]
  exact ⟨⟨P,j,hP,by omega,rfl,by omega⟩,hr.1,hr.2,g2⟩
end Go.Proofs.YtilfohjlglefjaaGreat
namespace Go.Proofs.YtilfohjlglefjaaGreat
set_option linter.unusedSectionVars false
section
variable {α:Type} [Inhabited α]
def inW (p:Nat) (x:α) (l:List α):List α:=l.take p++x::l.drop p
theorem aDP (p:Nat) (x:α) (l:List α):(inW p x l).length=l.length+1:=by
  unfold inW; simp; omega
theorem zE {p:Nat} {x y:α} {l:List α}:y∈inW p x l↔y=x∨y∈l:=by
  have e:l=l.take p++l.drop p:=(List.take_append_drop p l).symm
  unfold inW
  constructor
  · intro h
    rcases List.mem_append.1 h with h|h
    · exact .inr (List.mem_of_mem_take h)
    · rcases List.mem_cons.1 h with h|h
      · exact .inl h
      · exact .inr (List.mem_of_mem_drop h)
  · intro h
    rcases h with h|h
    · subst h; exact List.mem_append_right _ (by simp)
    · rw [e] at h
      rcases List.mem_append.1 h with h|h
      · exact List.mem_append_left _ h
      · exact List.mem_append_right _ (List.mem_cons_of_mem _ h)
end
def gNd (x:Nd) (bV:List Int) (kid:Int):Nd:=⟨x.lf,x.ac,x.sf,inW (lxN x.ou bV) bV x.ou,inW (lxN x.ou bV) kid x.kd⟩
def noE (t:Dt) (n:Int) (leaf:Bool):Int:=if n < 0∨(t.nd.length:Int)≤n then 2 else if (nth t.nd n.toNat).lf≠leaf then 10 else 0
def fsE (t:Dt) (w:List Int):Int:=if dW w 64≠0 then dW w 64 else if w∈acL t.nd then 7 else 0
def grE (t:Dt) (n:Int) (bV w:List Int):Int:=
  if dvE t≠0 then dvE t else if noE t n false≠0 then noE t n false else if vlE bV (nth t.nd n.toNat).sf≠0 then vlE bV (nth t.nd n.toNat).sf else
  if lxH (nth t.nd n.toNat).ou bV then 7 else if fsE t w≠0 then fsE t w else if 4096≤t.nd.length then 11 else 0
def lfN (w:List Int):Nd:=⟨true,w,[],[],[]⟩
def grT (t:Dt) (n:Int) (bV w:List Int):Dt:=if grE t n bV w=0 then ⟨t.nd.set n.toNat (gNd (nth t.nd n.toNat) bV t.nd.length)++[lfN w]⟩ else t
structure Ct where
  lf:Int
  sf:List Int
  ou:List Int
  ac:List Int
  ot:List Int
  deriving Inhabited
def aQN (t:Dt) (n:Int) (sf bV w other:List Int):Int:=
  if noE t n true≠0 then noE t n true else if sf.length=0 then 19 else if dW sf 64≠0 then dW sf 64 else if vlE bV sf≠0 then vlE bV sf else
  if fsE t w≠0 then fsE t w else if vlE other sf≠0 then vlE other sf else if bV=other then 15 else if 4094 < t.nd.length then 11 else 0
def spE (t:Dt) (n:Int) (sf bV w other:List Int):Int:=if dvE t≠0 then dvE t else aQN t n sf bV w other
def spO (bV other:List Int):List (List Int):=if 0 < bC bV other then [other,bV] else [bV,other]
def spK (bV other:List Int) (n:Nat):List Int:=if 0 < bC bV other then [(n:Int)+1,n] else [(n:Int),(n:Int)+1]
def spN (sf bV other:List Int) (n:Nat):Nd:=⟨false,[],sf,spO bV other,spK bV other n⟩
def spT (t:Dt) (n:Int) (sf bV w other:List Int):Dt:=
  if spE t n sf bV w other=0 then ⟨t.nd.set n.toNat (spN sf bV other t.nd.length)++[nth t.nd n.toNat,lfN w]⟩ else t
end Go.Proofs.YtilfohjlglefjaaGreat
namespace Go.Proofs.YtilfohjlglefjaaGreat
structure Tree (t:Dt):Prop where
  d1: ∀ k,k < t.nd.length→(nth t.nd k).kd.Nodup
  d2: ∀ j k,j < t.nd.length→k < t.nd.length→j≠k→ ∀ a∈(nth t.nd j).kd,a∉(nth t.nd k).kd
  d3: ∀ k,k < t.nd.length→(0:Int)∉(nth t.nd k).kd
  d4: ∀ a:Int,0 < a→a < t.nd.length→ ∃ k,k < t.nd.length∧a∈(nth t.nd k).kd
  rk: ∃ r:Int→Nat,∀ k:Nat,k < t.nd.length→ ∀ a∈(nth t.nd k).kd,r k < r a
def kO (t:Dt) (a:Int):List Int:=(nth t.nd a.toNat).kd
theorem aDG {t:Dt}: ∀ {i:Nat} {P:List Int},Ln t i P→P=0::(P.take i).flatMap (kO t):=by
  intro i P h
  induction h with
  |zero=>rfl
  | step h hi ih =>
    rename_i i P
    have e:(qS t P i).take (i+1)=P.take i++[nth P i]:=by
      unfold qS; rw [List.take_append_of_le_length (by omega),iE hi]
    rw [e,List.flatMap_append,← List.cons_append,← ih]
    simp [qS,kO]
theorem oI {t:Dt} (hk:KI t) (h:Whole t):Tree t:=by
  obtain ⟨P,hP⟩:=h
  have hP:Plc t P:=hP
  have hf:=aDG hP.1
  rw [List.take_length] at hf
  have hn:=hP.2.1
  rw [hf,List.nodup_cons] at hn
  have hn2:(P.flatMap (kO t)).Pairwise (· ≠ ·):=hn.2
  rw [List.pairwise_flatMap] at hn2
  have hall: ∀ k:Nat,k < t.nd.length→ ∃ s,s < P.length∧nth P s=(k:Int):=fun k hk'=>hP.all hk (by omega) (by omega)
  refine ⟨fun k hk'=>?_,fun j k hj hk' hne a ha hb=>?_,fun k hk' h0=>?_,fun a h0 h1=>?_,?_⟩
  · obtain ⟨s,hs,e⟩:=hall k hk'
    have:=hn2.1 (k:Int) (e ▸ bH hs)
    have h2:(kO t (k:Int)).Nodup:=this
    simpa only [kO,Int.toNat_natCast] using h2
  · have:=hP.one hk (m:=(j:Int)) (m':=(k:Int)) (by omega) (by omega) (by omega) (by omega) (by simpa using ha) (by simpa using hb)
    omega
  · obtain ⟨s,hs,e⟩:=hall k hk'
    obtain ⟨s',g1,g2,g3⟩:=hP.kid hs (a:=0) (by rw [e]; simpa using h0)
    have:=aFF hP.2.1 g2 (show 0 < P.length by omega) (by rw [g3,hP.head.1])
    omega
  · obtain ⟨s,hs,e⟩:=hP.all hk (a:=a) (by omega) h1
    have hs0:0 < s:=by
      rcases Nat.eq_zero_or_pos s with q|q
      · subst q; rw [hP.head.1] at e; omega
      · exact q
    obtain ⟨j,g1,g2⟩:=hP.1.par hs0 hs
    have:=hP.1.rng hk _ (bH (show j < P.length by omega))
    exact ⟨(nth P j).toNat,by omega,e ▸ g2⟩
  · refine ⟨fun a=>if h: ∃ s,s < P.length∧nth P s=a then h.choose else 0,fun k hk' a ha=>?_⟩
    have h1:=hall k hk'
    obtain ⟨s',g1,g2,g3⟩:=hP.kid h1.choose_spec.1 (a:=a) (by rw [h1.choose_spec.2]; simpa using ha)
    have h2: ∃ s,s < P.length∧nth P s=a:=⟨s',g2,g3⟩
    have e:=aFF hP.2.1 h2.choose_spec.1 g2 (by rw [h2.choose_spec.2,g3])
    show (if h: ∃ s,s < P.length∧nth P s=(k:Int) then h.choose else 0) < (if h: ∃ s,s < P.length∧nth P s=a then h.choose else 0)
    rw [dif_pos h1,dif_pos h2,e]
    exact g1
theorem aIL {t : Dt} (hk : KI t) (h : Tree t) : ∀ {i : Nat} {L : List Int}, Ln t i L → L.Nodup := by
  intro i L hl
  induction hl with
  |zero=>simp
  | step hl hi ih =>
    rename_i i L
    have hstep:Ln t (i+1) (qS t L i):=.step hl hi
    have e:(qS t L i).take (i+1)=L.take (i+1):=by
      unfold qS; rw [List.take_append_of_le_length (by omega)]
    have hf:=aDG hstep
    rw [e] at hf
    rw [hf,List.nodup_cons]
    have hr:=hl.rng hk
    have hm: ∀ a∈L.take (i+1),0≤a∧a < t.nd.length:=fun a ha=>hr a (List.mem_of_mem_take ha)
    constructor
    · intro h0
      obtain ⟨a,ha,hb⟩:=List.mem_flatMap.1 h0
      have:=hm a ha
      exact h.d3 a.toNat (by omega) hb
    · show ((L.take (i+1)).flatMap (kO t)).Pairwise (· ≠ ·)
      rw [List.pairwise_flatMap]
      refine ⟨fun a ha=>?_,?_⟩
      · have:=hm a ha
        exact h.d1 a.toNat (by omega)
      · have hs:(L.take (i+1)).Nodup:=ih.sublist (List.take_sublist _ _)
        refine List.pairwise_iff_getElem.2 fun p q hp hq hpq x hx y hy e=>?_
        subst e
        have hne:=(List.pairwise_iff_getElem.1 hs) p q hp hq hpq
        have h1:=hm _ (List.getElem_mem hp)
        have h2:=hm _ (List.getElem_mem hq)
        exact h.d2 _ _ (by omega) (by omega) (fun e=>hne (by omega)) x hx hy
theorem aCC {t : Dt} (hk : KI t) (h : Tree t) : whB t = true := by
  have hs:=uM hk t.nd.length 0 (wh0 t) .zero ((Mk.none t.nd.length).set (a:=0) (by omega) (by have:=hk.pos; omega)) (by simp [wh0]) (by omega)
  unfold whB
  cases hq:whN t t.nd.length 0 (wh0 t) with
  | none =>
    rw [hq] at hs
    obtain ⟨j,L,g1,g2⟩:=hs
    exact (g2 (aIL hk h g1)).elim
  | some Q =>
    rw [hq] at hs
    obtain ⟨g1,g2⟩:=hs
    simp only [decide_eq_true_eq]
    have hle:=oY (g1.rng hk) g2
    obtain ⟨r,hr⟩:=h.rk
    have h0:nth Q.1 0=0∧0 < Q.1.length:=by
      have hd: ∀ {i:Nat} {P:List Int},Ln t i P→nth P 0=0∧0 < P.length:=by
        intro i P h
        induction h with
        |zero=>exact ⟨rfl,by simp⟩
        |step h hi ih=>exact ⟨by unfold qS; rw [bT ih.2]; exact ih.1,by unfold qS; rw [List.length_append]; omega⟩
      exact hd g1
    have hall: ∀ n:Nat,∀ a:Int,r a < n→0≤a→a < t.nd.length→a∈Q.1:=by
      intro n
      induction n with
      |zero=>intro a h1; omega
      | succ n ih =>
        intro a h1 h2 h3
        by_cases e:a=0
        · rw [e,← h0.1]; exact bH h0.2
        · obtain ⟨k,k1,k2⟩:=h.d4 a (by omega) h3
          have hk2:=hr k k1 a k2
          obtain ⟨s,s1,s2⟩:=oC (ih (k:Int) (by omega) (by omega) (by omega))
          obtain ⟨s',_,s4,s5⟩:=g1.kid s1 (a:=a) (by rw [s2]; simpa using k2)
          rw [← s5]; exact bH s4
    have hge:=aBC (l:=(List.range t.nd.length).map Int.ofNat) (m:=Q.1) (by
        rw [List.Nodup,List.pairwise_map]
        exact List.nodup_range.imp fun hab e=>hab (by have q:(_:Int)=_:=e; exact Int.ofNat.inj q)) (fun a ha=>by
        obtain ⟨k,k1,rfl⟩:=List.mem_map.1 ha
        exact hall (r (Int.ofNat k)+1) _ (by omega) (by simp) (by have:=List.mem_range.1 k1; simp; omega))
    simp at hge
    omega
theorem aDm {α:Type} [BEq α] [LawfulBEq α]: ∀ {A L:List α},A.Nodup→(∀ a∈A,a∈L)→L.length≤A.length→A.Perm L
  | [], L, _, _, h => by
    have:L=[]:=List.eq_nil_of_length_eq_zero (by simpa using h)
    rw [this]
  | a :: A, L, hn, hs, hl => by
    obtain ⟨h1,h2⟩:=List.nodup_cons.1 hn
    have ha:=hs a (by simp)
    have hp:=List.perm_cons_erase ha
    have hlen:=hp.length_eq
    simp only [List.length_cons] at hlen hl
    refine List.Perm.trans (List.Perm.cons a (aDm h2 (fun b hb=>?_) (by omega))) hp.symm
    have:=hp.mem_iff.1 (hs b (List.mem_cons_of_mem _ hb))
    rcases List.mem_cons.1 this with e|e
    · exact (h1 (e ▸ hb)).elim
    · exact e
theorem aCn (l:List (List Int)):(sdW l).Nodup:=List.Pairwise.imp (fun {a b} (h:slx a b < 0) (e:a=b)=>tF b (by rw [e] at h; exact h)) (lE l)
theorem aBf {l:List (List Int)}:(sdW l).length=l.length↔l.Nodup:=by
  constructor
  · intro h
    exact (aDm (aCn l) (fun a ha=>(eS l a).1 ha) (by omega)).nodup (aCn l)
  · intro h
    exact ((List.perm_ext_iff_of_nodup (aCn l) h).2 fun a=>eS l a).length_eq
theorem aIF {l m:List (List Int)} (h: ∀ u,u∈l↔u∈m):sdW l=sdW m:=
  qH (lE l) (lE m) fun u=>by rw [eS,eS]; exact h u
theorem aAU {l:List Nd} {n:Nat} (h:n < l.length):l=l.take n++nth l n::l.drop (n+1):=by
  rw [← aA5 h,List.take_append_drop]
theorem aFK {l:List Nd} {n:Nat} (h:n < l.length) (x:Nd):l.set n x=l.take n++x::l.drop (n+1):=by
  rw [List.set_eq_take_append_cons_drop,if_pos h]
theorem nB (l m:List Nd):acL (l++m)=acL l++acL m:=by simp [acL]
theorem lZ (x:Nd) (l:List Nd):acL (x::l)=(if x.lf=true then [x.ac] else [])++acL l:=by
  unfold acL; cases h:x.lf <;> simp [List.filter_cons,h]
theorem aGu {l:List Nd} {n:Nat} (h:n < l.length) (hl:(nth l n).lf=false) {x:Nd} (hx:x.lf=false) (w:List Int):acL (l.set n x++[lfN w])=acL l++[w]:=by
  rw [aFK h,nB,nB,lZ,hx]
  conv=>rhs; rw [aAU h,nB,lZ,hl]
  simp [acL,lfN]
theorem aEY {l:List Nd} {n:Nat} (h:n < l.length) (hl:(nth l n).lf=true) {x:Nd} (hx:x.lf=false) (w:List Int):(acL (l.set n x++[nth l n,lfN w])).Perm (acL l++[w]):=by
  have e1:acL (l.set n x++[nth l n,lfN w])=acL (l.take n)++(acL (l.drop (n+1))++[(nth l n).ac])++[w]:=by
    rw [aFK h,nB,nB,lZ,hx,lZ,hl]; simp [acL,lfN]
  have e2:acL l=acL (l.take n)++((nth l n).ac::acL (l.drop (n+1))):=by
    conv=>lhs; rw [aAU h,nB,lZ,hl]
    simp
  rw [e1,e2]
  refine List.Perm.append_right _ (List.Perm.append_left _ ?_)
  exact List.perm_append_comm (l₁:=acL (l.drop (n+1))) (l₂:=[(nth l n).ac])
theorem aG9 {x:Nd} {n:Nat} (h:InOk x n):aF6 x n=0:=by
  unfold aF6
  have h0:=h.s0
  rw [if_neg (by rw [h.ac]; simp),if_neg (by omega),if_neg (by rw [h.sw]; simp),if_neg (by rw [h.len]; simp)]
  refine cM.2 fun k _ hk=>?_
  have hk:k < x.ou.length:=by omega
  have hr:=h.kr _ (bH (show k < x.kd.length by rw [← h.len]; exact hk))
  unfold chE
  rw [if_neg (by rw [h.ov k hk]; simp),if_neg,if_neg (by omega)]
  rintro ⟨q1,q2⟩
  have:=pI h.srt (show k - 1 < k by omega) hk
  omega
theorem aRA {x:Nd} {n:Nat} (h:InOk x n) {m:Nat} (hm:n≤m):InOk x m:=
  ⟨h.ac,h.s0,h.sw,h.len,h.ov,h.srt,fun a ha=>by have:=h.kr a ha; omega⟩
theorem zD {x:Nd} {n m:Nat} (h:ndE x n=0) (hm:n≤m):ndE x m=0:=by
  unfold ndE at h ⊢
  split at h
  · rename_i q; rw [if_pos q]; exact h
  · rename_i q; rw [if_neg q]; exact aG9 (aRA (aFA h) hm)
theorem aIh {l:List (List Int)} (hs:pF l) {w:List Int} (hx: ¬lxH l w):pF (inW (lxN l w) w l):=by
  unfold pF inW
  have hs':(l.take (lxN l w)++l.drop (lxN l w)).Pairwise fun a b=>bC a b < 0:=by rw [List.take_append_drop]; exact hs
  rw [List.pairwise_append] at hs' ⊢
  have hlow: ∀ a∈l.take (lxN l w),bC a w < 0:=fun a ha=>by
    obtain ⟨k,hk,rfl⟩:=oC ha
    have hk':k < lxN l w∧k < l.length:=by simp at hk; omega
    rw [kQ hk'.1]
    exact (vH hs hk'.2).2 hk'.1
  have hup: ∀ b∈l.drop (lxN l w),bC w b < 0:=fun b hb=>by
    obtain ⟨k,hk,rfl⟩:=oC hb
    have hk':lxN l w+k < l.length:=by simp at hk; omega
    rw [rO]
    have h1: ¬bC (nth l (lxN l w+k)) w < 0:=fun q=>by have:=(vH hs hk').1 q; omega
    rcases aBl (nth l (lxN l w+k)) w with e|e|e
    · have:=aEk hs hk' (cA.1 e); exact (hx this.2).elim
    · omega
    · exact oN (by omega)
  refine ⟨hs'.1,List.pairwise_cons.2 ⟨hup,hs'.2.1⟩,fun a ha b hb=>?_⟩
  rcases List.mem_cons.1 hb with rfl|hb
  · exact hlow a ha
  · exact hs'.2.2 a ha b hb
theorem aAP {l:List Nd} {n:Nat} (hn:n < l.length) (x:Nd) (m:List Nd) (k:Nat):nth (l.set n x++m) k=if k < l.length then (if n=k then x else nth l k) else nth m (k - l.length):=by
  by_cases h:k < l.length
  · rw [if_pos h,bT (by simpa using h),qJ hn]
  · rw [if_neg h]
    have e:k=(l.set n x).length+(k - l.length):=by rw [List.length_set]; omega
    rw [e,dJ,List.length_set]; congr 1; omega
end Go.Proofs.YtilfohjlglefjaaGreat
namespace Go.Proofs.YtilfohjlglefjaaGreat
theorem aGi {t t':Dt} (hk:KI t) (h:Tree t) {n m:Nat} (hn:n < t.nd.length) (hN:t'.nd.length=t.nd.length+m)
    (hkd: ∀ k,k < t.nd.length+m→ ∀ a,a∈(nth t'.nd k).kd↔(k < t.nd.length∧a∈(nth t.nd k).kd)∨(k=n∧(t.nd.length:Int)≤a∧a < ((t.nd.length+m:Nat):Int)))
    (hd: ∀ k,k < t.nd.length+m→(nth t'.nd k).kd.Nodup):Tree t':=by
  have hr: ∀ k a,k < t.nd.length→a∈(nth t.nd k).kd→0≤a∧a < t.nd.length:=fun k a h1 h2=>hk.rng k h1 a h2
  refine ⟨fun k hk'=>hd k (by omega),fun j k hj hk' hne a ha hb=>?_,fun k hk' h0=>?_,fun a h0 h1=>?_,?_⟩
  · rcases (hkd j (by omega) a).1 ha with q|q <;> rcases (hkd k (by omega) a).1 hb with p|p
    · exact h.d2 j k q.1 p.1 hne a q.2 p.2
    · have:=hr _ _ q.1 q.2; omega
    · have:=hr _ _ p.1 p.2; omega
    · omega
  · rcases (hkd k (by omega) 0).1 h0 with q|q
    · exact h.d3 k q.1 q.2
    · have:=hk.pos; omega
  · by_cases e:a < t.nd.length
    · obtain ⟨k,k1,k2⟩:=h.d4 a h0 e
      exact ⟨k,by omega,(hkd k (by omega) a).2 (.inl ⟨k1,k2⟩)⟩
    · exact ⟨n,by omega,(hkd n (by omega) a).2 (.inr ⟨rfl,by omega,by omega⟩)⟩
  · obtain ⟨r,hr2⟩:=h.rk
    refine ⟨fun a=>if a < t.nd.length then r a else r n+1,fun k hk' a ha=>?_⟩
    rcases (hkd k (by omega) a).1 ha with q|q
    · have:=hr _ _ q.1 q.2
      simp only
      rw [if_pos (by omega),if_pos this.2]
      exact hr2 k q.1 a q.2
    · obtain ⟨rfl,q2,q3⟩:=q
      simp only
      rw [if_pos (by omega),if_neg (by omega)]
      omega
theorem aPS {p:Nat} {x:Int} {l:List Int} (h:l.Nodup) (hx:x∉l):(inW p x l).Nodup:=by
  unfold inW
  have h':(l.take p++l.drop p).Nodup:=by rw [List.take_append_drop]; exact h
  rw [List.nodup_append] at h' ⊢
  refine ⟨h'.1,List.nodup_cons.2 ⟨fun q=>hx (List.mem_of_mem_drop q),h'.2.1⟩,fun a ha b hb=>?_⟩
  rcases List.mem_cons.1 hb with rfl|hb
  · intro e; exact hx (e ▸ List.mem_of_mem_take ha)
  · exact h'.2.2 a ha b hb
theorem aGP {t t':Dt} (hv:dvE t=0) {n m:Nat} (hn:n < t.nd.length) (hN:t'.nd.length=t.nd.length+m) (hl:t.nd.length+m≤4096)
    (hkd: ∀ k,k < t.nd.length+m→ ∀ a,a∈(nth t'.nd k).kd↔(k < t.nd.length∧a∈(nth t.nd k).kd)∨(k=n∧(t.nd.length:Int)≤a∧a < ((t.nd.length+m:Nat):Int)))
    (hd: ∀ k,k < t.nd.length+m→(nth t'.nd k).kd.Nodup) (he: ∀ k,k < t.nd.length+m→ndE (nth t'.nd k) (t.nd.length+m)=0) {w:List Int} (hw:w∉acL t.nd) (hp:(acL t'.nd).Perm (acL t.nd++[w])):
    dvE t'=0∧sdW (acL t'.nd)=sdW (sdW (acL t.nd)++[w])∧(sdW (acL t'.nd)).length=(sdW (acL t.nd)).length+1:=by
  have h1:=mL hv
  have hki:KI t':=aGq (by omega) fun k hk=>by rw [hN] at hk ⊢; exact he k hk
  have htr:Tree t':=aGi (jU hv) (oI (jU hv) (kE hv)) hn hN hkd hd
  have hwh:=aCC hki htr
  have hnd0:(acL t.nd).Nodup:=aBf.1 h1.2.2.2.2
  have hnd:(acL t'.nd).Nodup:=by
    refine hp.symm.nodup ?_
    rw [List.nodup_append]
    exact ⟨hnd0,by simp,fun a ha b hb=>by rw [List.mem_singleton.1 hb]; intro e; exact hw (e ▸ ha)⟩
  have hlen:=aBf.2 hnd
  refine ⟨?_,aIF fun u=>?_,?_⟩
  · unfold dvE
    have hf:fe (fun k=>ndE (nth t'.nd k) t'.nd.length) 0 t'.nd.length=0:=cM.2 fun k _ hk=>by
      have:=he k (by omega)
      rw [hN]; exact this
    rw [if_neg (by omega),if_neg (by omega),if_neg (by rw [hf]; simp),if_neg (by rw [hwh]; simp),if_neg (by rw [hlen]; simp)]
  · rw [hp.mem_iff,List.mem_append,List.mem_append,eS]
  · rw [hlen,hp.length_eq,List.length_append,h1.2.2.2.2]; rfl
theorem aGa {t:Dt} {n:Int} {b:Bool} (h:noE t n b=0):0≤n∧n < t.nd.length∧(nth t.nd n.toNat).lf=b:=by
  unfold noE at h
  split at h
  · omega
  · split at h
    · omega
    · rename_i q; exact ⟨by omega,by omega,Decidable.not_not.1 q⟩
theorem aEc {t:Dt} {w:List Int} (h:fsE t w=0):dW w 64=0∧w∉acL t.nd:=by
  unfold fsE at h
  split at h
  · rename_i q; exact (q h).elim
  · split at h
    · omega
    · rename_i q1 q2; exact ⟨by omega,q2⟩
theorem aKw {t : Dt} {n : Int} {bV w : List Int} (h : grE t n bV w = 0) : dvE t = 0 ∧ noE t n false = 0 ∧ vlE bV (nth t.nd n.toNat).sf = 0 ∧ ¬lxH (nth t.nd n.toNat).ou bV ∧ fsE t w = 0 ∧ t.nd.length < 4096 := by
  unfold grE at h
  split at h
  · rename_i q; exact (q h).elim
  · split at h
    · rename_i q; exact (q h).elim
    · split at h
      · rename_i q; exact (q h).elim
      · split at h
        · omega
        · split at h
          · rename_i q; exact (q h).elim
          · split at h
            · omega
            · rename_i q1 q2 q3 q4 q5 q6
              exact ⟨by omega,by omega,by omega,q4,by omega,by omega⟩
theorem aK8 {w:List Int} (h:dW w 64=0) (n:Nat):ndE (lfN w) n=0:=by
  unfold ndE lfN lfE; simpa using h
theorem aI2 {t : Dt} {n : Int} {bV w : List Int} (h : grE t n bV w = 0) :
    dvE (grT t n bV w)=0∧sdW (acL (grT t n bV w).nd)=sdW (sdW (acL t.nd)++[w])∧(sdW (acL (grT t n bV w).nd)).length=(sdW (acL t.nd)).length+1:=by
  obtain ⟨hv,h1,h2,h3,h4,h5⟩:=aKw h
  obtain ⟨n0,n1,hl⟩:=aGa h1
  obtain ⟨w1,w2⟩:=aEc h4
  have hn:n.toNat < t.nd.length:=by omega
  have hin:=yO hv hn hl
  have hlx:=aKs (w:=bV) (nth t.nd n.toNat).ou
  have hg:InOk (gNd (nth t.nd n.toNat) bV t.nd.length) (t.nd.length+1):=by
    refine ⟨hin.ac,hin.s0,hin.sw,?_,fun k hk=>?_,aIh hin.srt h3,fun a ha=>?_⟩
    · simp only [gNd]; rw [aDP,aDP,hin.len]
    · have hm:nth (gNd (nth t.nd n.toNat) bV t.nd.length).ou k∈inW (lxN (nth t.nd n.toNat).ou bV) bV (nth t.nd n.toNat).ou:=bH hk
      rcases zE.1 hm with e|e
      · rw [e]; exact h2
      · obtain ⟨j,hj,e2⟩:=oC e
        rw [← e2]; exact hin.ov j hj
    · rcases zE.1 ha with e|e
      · rw [e]; omega
      · have:=hin.kr a e; omega
  have hglf:(gNd (nth t.nd n.toNat) bV t.nd.length).lf=false:=hl
  unfold grT
  rw [if_pos h]
  have hnth:=aAP hn (gNd (nth t.nd n.toNat) bV t.nd.length) [lfN w]
  refine aGP hv hn (m:=1) (by simp) (by omega) (fun k hk a=>?_) (fun k hk=>?_) (fun k hk=>?_) w2 (by rw [aGu hn hl hglf])
  · rw [hnth]
    by_cases e:k < t.nd.length
    · rw [if_pos e]
      by_cases e2:n.toNat=k
      · rw [if_pos e2,← e2]
        show a∈inW _ _ _↔_
        rw [zE]
        constructor
        · rintro (q|q)
          · exact .inr ⟨rfl,by omega,by omega⟩
          · exact .inl ⟨hn,q⟩
        · rintro (q|q)
          · exact .inr q.2
          · exact .inl (by omega)
      · rw [if_neg e2]
        exact ⟨fun q=>.inl ⟨e,q⟩,fun q=>q.elim (fun p=>p.2) fun p=>(e2 p.1.symm).elim⟩
    · rw [if_neg e,show k - t.nd.length=0 by omega]
      show a∈([]:List Int)↔_
      constructor
      · intro q; cases q
      · rintro (q|q)
        · exact (e q.1).elim
        · omega
  · rw [hnth]
    have htr:=oI (jU hv) (kE hv)
    split
    · split
      · exact aPS (htr.d1 _ hn) fun q=>by have:=hin.kr _ q; omega
      · exact htr.d1 k (by omega)
    · rw [show k - t.nd.length=0 by omega]; exact List.nodup_nil
  · rw [hnth]
    split
    · split
      · unfold ndE; rw [hglf,if_neg (by simp)]; exact aG9 hg
      · exact zD ((mL hv).2.2.1 k (by omega)) (by omega)
    · rw [show k - t.nd.length=0 by omega]; exact aK8 w1 _
theorem aKt {t : Dt} {n : Int} {sf bV w other : List Int} (h : spE t n sf bV w other = 0) :
    dvE t=0∧noE t n true=0∧0 < sf.length∧dW sf 64=0∧vlE bV sf=0∧fsE t w=0∧vlE other sf=0∧bV≠other∧t.nd.length≤4094:=by
  unfold spE at h
  split at h
  · rename_i q; exact (q h).elim
  · rename_i q0
    unfold aQN at h
    split at h
    · rename_i q; exact (q h).elim
    · split at h
      · omega
      · split at h
        · rename_i q; exact (q h).elim
        · split at h
          · rename_i q; exact (q h).elim
          · split at h
            · rename_i q; exact (q h).elim
            · split at h
              · rename_i q; exact (q h).elim
              · split at h
                · omega
                · split at h
                  · omega
                  · rename_i q1 q2 q3 q4 q5 q6 q7 q8
                    exact ⟨by omega,by omega,by omega,by omega,by omega,by omega,by omega,q7,by omega⟩
theorem aDc {bV other:List Int} {n:Nat} {a:Int}:a∈spK bV other n↔(n:Int)≤a∧a < ((n+2:Nat):Int):=by
  unfold spK; split <;> simp <;> omega
theorem aGX {t : Dt} {n : Int} {sf bV w other : List Int} (h : spE t n sf bV w other = 0) :
    dvE (spT t n sf bV w other)=0∧sdW (acL (spT t n sf bV w other).nd)=sdW (sdW (acL t.nd)++[w])∧(sdW (acL (spT t n sf bV w other).nd)).length=(sdW (acL t.nd)).length+1:=by
  obtain ⟨hv,h1,s0,s1,h2,h4,h3,hne,h5⟩:=aKt h
  obtain ⟨n0,n1,hl⟩:=aGa h1
  obtain ⟨w1,w2⟩:=aEc h4
  have hn:n.toNat < t.nd.length:=by omega
  have hlf:=aGj hv hn hl
  have hg:InOk (spN sf bV other t.nd.length) (t.nd.length+2):=by
    refine ⟨rfl,s0,s1,?_,fun k hk=>?_,?_,fun a ha=>?_⟩
    · simp only [spN,spO,spK]; split <;> rfl
    · have hm:nth (spO bV other) k∈spO bV other:=bH hk
      have:nth (spO bV other) k=bV∨nth (spO bV other) k=other:=by
        unfold spO at hm ⊢; split at hm
        · rename_i q; rw [if_pos q]; simp at hm; exact hm.symm
        · rename_i q; rw [if_neg q]; simp at hm; exact hm
      show vlE (nth (spO bV other) k) sf=0
      rcases this with e|e
      · rw [e]; exact h2
      · rw [e]; exact h3
    · show pF (spO bV other)
      unfold spO pF
      split
      · rename_i q; simp; exact oN q
      · rename_i q
        simp
        rcases aBl bV other with e|e|e
        · exact (hne (cA.1 e)).elim
        · omega
        · omega
    · have:=aDc.1 ha; omega
  unfold spT
  rw [if_pos h]
  have hnth:=aAP hn (spN sf bV other t.nd.length) [nth t.nd n.toNat,lfN w]
  have hm: ∀ k,k < t.nd.length+2→ ¬k < t.nd.length→nth [nth t.nd n.toNat,lfN w] (k - t.nd.length)=nth t.nd n.toNat∨nth [nth t.nd n.toNat,lfN w] (k - t.nd.length)=lfN w:=fun k hk e=>by
    rcases Nat.lt_or_ge k (t.nd.length+1) with q|q
    · rw [show k - t.nd.length=0 by omega]; exact .inl rfl
    · rw [show k - t.nd.length=0+1 by omega]; exact .inr rfl
  refine aGP hv hn (m:=2) (by simp) (by omega) (fun k hk a=>?_) (fun k hk=>?_) (fun k hk=>?_) w2 (aEY hn hl rfl w)
  · rw [hnth]
    by_cases e:k < t.nd.length
    · rw [if_pos e]
      by_cases e2:n.toNat=k
      · rw [if_pos e2,← e2,hlf.kd]
        show a∈spK _ _ _↔_
        rw [aDc]
        constructor
        · intro q; exact .inr ⟨rfl,q⟩
        · rintro (q|q)
          · cases q.2
          · exact q.2
      · rw [if_neg e2]
        exact ⟨fun q=>.inl ⟨e,q⟩,fun q=>q.elim (fun p=>p.2) fun p=>(e2 p.1.symm).elim⟩
    · rw [if_neg e]
      have hkd:(nth [nth t.nd n.toNat,lfN w] (k - t.nd.length)).kd=[]:=by
        rcases hm k hk e with q|q
        · rw [q,hlf.kd]
        · rw [q]; rfl
      rw [hkd]
      constructor
      · intro q; cases q
      · rintro (q|q)
        · exact (e q.1).elim
        · omega
  · rw [hnth]
    have htr:=oI (jU hv) (kE hv)
    split
    · split
      · show (spK _ _ _).Nodup
        unfold spK; split <;> simp <;> omega
      · exact htr.d1 k (by omega)
    · rename_i e
      rcases hm k hk e with q|q
      · rw [q,hlf.kd]; exact List.nodup_nil
      · rw [q]; exact List.nodup_nil
  · rw [hnth]
    split
    · split
      · unfold ndE; rw [if_neg (by simp [spN])]; exact aG9 hg
      · exact zD ((mL hv).2.2.1 k (by omega)) (by omega)
    · rename_i e
      rcases hm k hk e with q|q
      · rw [q]; exact zD ((mL hv).2.2.1 _ hn) (by omega)
      · rw [q]; exact aK8 w1 _
end Go.Proofs.YtilfohjlglefjaaGreat
namespace Go.Proofs.YtilfohjlglefjaaGreat
structure Bd (t:Dt):Prop where
  n:t.nd.length≤4096
  ac: ∀ k,k < t.nd.length→(nth t.nd k).ac.length≤1048576
  sf: ∀ k,k < t.nd.length→(nth t.nd k).sf.length≤1048576
  ou: ∀ k,k < t.nd.length→(nth t.nd k).ou.length≤1048576
  kd: ∀ k,k < t.nd.length→(nth t.nd k).kd.length≤1048576
  ol: ∀ k,k < t.nd.length→ ∀ j,j < (nth t.nd k).ou.length→(nth (nth t.nd k).ou j).length≤1048576
structure WI (t:Dt) (P:RS):Prop where
  mr:Mk t.nd.length P.2 P.1
  nd:P.1.Nodup
  rg: ∀ a∈P.1,0≤a∧a < t.nd.length
theorem WI.len {t:Dt} {P:RS} (h:WI t P):P.1.length≤t.nd.length∧P.2.length=t.nd.length:=⟨oY h.rg h.nd,h.mr.1⟩
def wS (P:RS) (a:Int):RS:=(P.1++[a],P.2.set a.toNat true)
theorem WI.step {t:Dt} {P:RS} (h:WI t P) {a:Int} (h0:0≤a) (h1:a < t.nd.length) (hn:nth P.2 a.toNat=false):WI t (wS P a):=by
  refine ⟨h.mr.set h0 h1,?_,fun b hb=>?_⟩
  · show (P.1++[a]).Nodup
    rw [List.nodup_append]
    refine ⟨h.nd,by simp,fun x hx y hy e=>?_⟩
    rw [List.mem_singleton.1 hy] at e
    subst e
    have:=(h.mr.2 x h0 h1).2 hx
    rw [hn] at this; cases this
  · rcases List.mem_append.1 hb with hb|hb
    · exact h.rg b hb
    · rw [List.mem_singleton.1 hb]; exact ⟨h0,h1⟩
structure CI (t:Dt) (P:RS):Prop where
  l2:P.2.length=t.nd.length
  l1:P.1.length≤t.nd.length
  rg: ∀ a∈P.1,0≤a∧a < t.nd.length
def cSt (t:Dt) (P:RS) (i:Nat):RS:=(qS t P.1 i,P.2.set (nth P.1 i).toNat true)
theorem CI.step {t:Dt} (hk:KI t) {P:RS} (h:CI t P) {i:Nat} (hi:i < P.1.length) (hl:(qS t P.1 i).length≤t.nd.length):CI t (cSt t P i):=by
  have hr:=h.rg _ (bH hi)
  refine ⟨by simp [cSt,h.l2],hl,fun a ha=>?_⟩
  rcases List.mem_append.1 ha with ha|ha
  · exact h.rg a ha
  · exact hk.rng _ (by omega) a ha
end Go.Proofs.YtilfohjlglefjaaGreat
namespace Go.Proofs.YtilfohjlglefjaaGreat
@[simp] theorem aNm (l:List Nd):fC (l.map cN)=true:=gB _ _ fun a=>by simp [cN]
theorem aJr {l:List (List Int)} {w:List Int}:w∈sdP l↔w∈l:=by rw [aAC]; exact eS l w
theorem aHG (l:List (List Int)):(sdP l).length≤l.length:=by rw [aAC]; exact aH6 l
theorem aDF {α:Type} [Inhabited α] {l:List α} {k:Nat} (h:k < l.length):l.set k (nth l k)=l:=by
  refine kD (by simp) fun m hm=>?_
  rw [List.length_set] at hm
  rw [qJ h]
  split
  · rename_i e; rw [e]
  · rfl
theorem aAd {l:List (List Int)} (h: ∀ i,1≤i→i < l.length→nth l i≠nth l (i - 1)):ddK l l.length=l:=by
  rw [aAa (Nat.le_refl _) h,List.take_length]
theorem aBq {l:List (List Int)} {k:Nat} (h1:1≤k) (hk:k < l.length) (h: ∀ i,1≤i→i < k→nth l i≠nth l (i - 1)) (he:nth l k=nth l (k - 1)):(ddK l (k+1)).length=k∧ddL l (k+1)=l:=by
  have e1:ddK l (k+1)=l.take k:=by
    rw [bP (by rintro (q|q); omega; exact q he),aAa (by omega) h]
  have e2:(l.take k).length=k:=by simp; omega
  refine ⟨by rw [e1,e2],?_⟩
  unfold ddL; rw [e1,e2,List.take_append_drop]
theorem aCN {l:List (List Int)}: ∀ {j:Nat},0 < j→0 < (ddK l j).length
  |1,_=>by rw [show (1:Nat)=0+1 from rfl,bL (.inl rfl)]; simp
  | j + 2, _ => by
    have:=aCN (l:=l) (j:=j+1) (by omega)
    simp only [ddK] at this ⊢
    split
    · rw [List.length_append]; omega
    · exact this
theorem aK6 {l:List (List Int)} {k j:Nat} (h:(ddK l (k+j)).length < k+j) (hj:1≤j):
    nth (ddL l (k+j)) (0+k+j)=nth l (k+j)∧nth (ddL l (k+j)) (0+k+(((j:Nat):Int) - (1:Int)).toNat)=nth l (k+j - 1):=by
  refine ⟨(aEg (by omega)).trans (by congr 1; omega),(aEg (by omega)).trans (by congr 1; omega)⟩
theorem cU {l:List (List Int)} {j:Nat} (h:l.length≤j) (hj:j≤l.length):(ddL l j).take (ddK l j).length=ddK l l.length:=by
  have:j=l.length:=by omega
  subst this
  unfold ddL; rw [List.take_left]
theorem aAw {H:aH} {n:Nat} {u1 u2 u3 u4 u5 v1 v2 v3 v4 v5:V} (g1:fzv true H n u1=v1) (g2:fzv true H n u2=v2) (g3:fzv true H n u3=v3) (g4:fzv true H n u4=v4) (g5:fzv true H n u5=v5):
    fzv true H (n+1) (.agg [u1,u2,u3,u4,u5])=.agg [v1,v2,v3,v4,v5]:=by
  simp only [fzv,List.map_cons,List.map_nil,g1,g2,g3,g4,g5]
end Go.Proofs.YtilfohjlglefjaaGreat
namespace Go.Proofs.YtilfohjlglefjaaGreat
structure Sp (t:Dt) (o:Ob) (w:List Int) (m a:Int):Prop where
  lf:(nth t.nd m.toNat).lf=false
  kn:(ans o (cat [w,(nth t.nd m.toNat).sf])).isSome=true
  ex:lxH (nth t.nd m.toNat).ou (((ans o (cat [w,(nth t.nd m.toNat).sf])).getD []).drop w.length)
  to:a=nth (nth t.nd m.toNat).kd (lxN (nth t.nd m.toNat).ou (((ans o (cat [w,(nth t.nd m.toNat).sf])).getD []).drop w.length))
inductive Bw (t:Dt) (o:Ob) (w:List Int):List Int→Prop where
  |root:Bw t o w [0]
  |step {a m:Int} {l:List Int} (h:Bw t o w (m::l)) (hs:Sp t o w m a):Bw t o w (a::m::l)
section
variable {t:Dt} {o:Ob} {w:List Int}
theorem Sp.kid (hv:dvE t=0) {m a:Int} (h0:0≤m) (h1:m < t.nd.length) (h:Sp t o w m a):a∈(nth t.nd m.toNat).kd:=by
  rw [h.to]
  exact bH (by have:=(yO hv (show m.toNat < t.nd.length by omega) h.lf).len; have:=h.ex.1; omega)
theorem Bw.rng (hv:dvE t=0): ∀ {l:List Int},Bw t o w l→ ∀ a∈l,0≤a∧a < t.nd.length:=by
  intro l h
  induction h with
  |root=>intro a ha; rw [List.mem_singleton.1 ha]; have:=(mL hv).1; omega
  | step h hs ih =>
    rename_i a m l
    intro b hb
    rcases List.mem_cons.1 hb with rfl|hb
    · have hm:=ih m (by simp)
      exact (jU hv).rng m.toNat (by omega) _ (hs.kid hv hm.1 hm.2)
    · exact ih b hb
end
end Go.Proofs.YtilfohjlglefjaaGreat
namespace Go.Proofs.YtilfohjlglefjaaGreat
open Go
abbrev cLL (l:List (List Int)):List V:=[aB l]
@[simp] theorem aQn (l:List (List (List Int))):cV (l.map cLL)=true:=dL _ _ fun a=>by simp [cLL]
@[simp] theorem aQD (l:List (List (List Int))):fC (l.map cLL)=true:=gB _ _ fun a=>by simp [cLL]
structure Sm (x:Nd):Prop where
  ac:x.ac.length≤1048576
  sf:x.sf.length≤1048576
  ou:x.ou.length≤1048576
  kd:x.kd.length≤1048576
  ol: ∀ w∈x.ou,w.length≤1048576
end Go.Proofs.YtilfohjlglefjaaGreat
namespace Go.Proofs.YtilfohjlglefjaaGreat
open Go Go.Sort
theorem aBN:SWO fun a b:List Int=>decide (bC a b < 0) where
  irrefl a:=decide_eq_false (by rw [cA.2 rfl]; omega)
  trans a b c h1 h2:=decide_eq_true (jE (of_decide_eq_true h1) (of_decide_eq_true h2))
  ntrans a b c h1 h2:=decide_eq_false (kW.2 (aJf (kW.1 (of_decide_eq_false h2)) (kW.1 (of_decide_eq_false h1))))
theorem xK {a b:List Int} (h1: ¬bC a b < 0) (h2: ¬bC b a < 0):a=b:=by
  have q2:bC a b≤0:=kW.1 h2
  exact cA.1 (by omega)
def sdX (l:List (List Int)):List (List Int):=ddK (srt bC l) (srt bC l).length
theorem nD {l:List (List Int)} {w:List Int}:w∈sdX l↔w∈l:=by
  unfold sdX
  rw [oX (Nat.le_refl _),List.take_length]
  exact (lV bC l).mem_iff
theorem aDV (l:List (List Int)):(sdX l).length≤l.length:=by
  have:=vY (srt bC l) (srt bC l).length
  unfold sdX; rw [iT] at this ⊢; exact this
theorem aDM {L : List (List Int)} (hs : L.Pairwise fun a b => ¬bC b a < 0) : ∀ {j : Nat}, j ≤ L.length → pF (ddK L j)
  |0,_=>List.Pairwise.nil
  | j + 1, hj => by
    have ih:=aDM hs (j:=j) (by omega)
    by_cases h:j=0∨nth L j≠nth L (j - 1)
    · rw [bL h, pF, List.pairwise_append]
      refine ⟨ih,by simp,fun a ha b hb=>?_⟩
      rw [List.mem_singleton.1 hb]
      have ha':=(oX (L:=L) (by omega) a).1 ha
      obtain ⟨i,hi,rfl⟩:=dQ ha'
      rw [List.length_take] at hi
      rw [kQ (by omega)]
      have le: ∀ p q,p < q→q < L.length→bC (nth L p) (nth L q)≤0:=fun p q h1 h2=>by
        have:=(List.pairwise_iff_getElem.1 hs) p q (by omega) h2 h1
        rw [aQ,aQ] at this
        exact kW.1 this
      have h1:=le i j (by omega) (by omega)
      by_cases e:bC (nth L i) (nth L j) < 0
      · exact e
      · exfalso
        have heq:=cA.1 (show bC (nth L i) (nth L j)=0 by omega)
        have h2:bC (nth L (j - 1)) (nth L j)≤0:=le (j - 1) j (by omega) (by omega)
        have h3:bC (nth L j) (nth L (j - 1))≤0:=by
          rw [← heq]
          by_cases ei:i=j - 1
          · rw [ei,cA.2 rfl]; omega
          · exact le i (j - 1) (by omega) (by omega)
        have:=xK (kW.2 h3) (kW.2 h2)
        rcases h with h|h
        · omega
        · exact h this.symm
    · rw [bP h]; exact ih
theorem aJ8 (l:List (List Int)):pF (sdX l):=aDM (lF aBN l) (Nat.le_refl _)
def mxC (L:List (List Int)) (k:Nat):Bool:=decide (((k+1:Nat):Int)=((L.length:Nat):Int))|| !hp (nth L (k+1)) (nth L k)
def mxO (L:List (List Int)):Nat→List (List Int)
  |0=>[]
  |k+1=>if mxC L k=true then mxO L k++[nth L k] else mxO L k
theorem iR {L:List (List Int)} {k:Nat} (h:mxC L k=true):mxO L (k+1)=mxO L k++[nth L k]:=if_pos h
theorem lA {L:List (List Int)} {k:Nat} (h:mxC L k=false):mxO L (k+1)=mxO L k:=if_neg (by rw [h]; decide)
theorem aC3 (L:List (List Int)): ∀ k,(mxO L k).length≤k
  |0=>Nat.le_refl _
  |k+1=>by have:=aC3 L k; simp only [mxO]; split <;> simp <;> omega
theorem yV {L : List (List Int)} {w : List Int} : ∀ {k : Nat}, w ∈ mxO L k ↔ ∃ i, i < k ∧ mxC L i = true ∧ nth L i = w
  |0=>by simp [mxO]
  | k + 1 => by
    have ih:=yV (L:=L) (w:=w) (k:=k)
    by_cases h:mxC L k=true
    · rw [iR h,List.mem_append,List.mem_singleton,ih]
      constructor
      · rintro (⟨i,i1,i2,i3⟩|e)
        · exact ⟨i,by omega,i2,i3⟩
        · exact ⟨k,by omega,h,e.symm⟩
      · rintro ⟨i,i1,i2,i3⟩
        by_cases e:i=k
        · subst e; exact .inr i3.symm
        · exact .inl ⟨i,by omega,i2,i3⟩
    · rw [lA (by simpa using h),ih]
      constructor
      · rintro ⟨i,i1,i2,i3⟩; exact ⟨i,by omega,i2,i3⟩
      · rintro ⟨i,i1,i2,i3⟩
        by_cases e:i=k
        · subst e; exact (h i2).elim
        · exact ⟨i,by omega,i2,i3⟩
def tpB (L:List (List Int)) (k:Nat):Nat→Bool
  |0=>true
  |j+1=>if k < j then tpB L k j&&(decide (((nth L j).length:Int)=((nth L k).length:Int))|| !hp (nth L j) (nth L k)) else true
theorem aGV {L:List (List Int)} {k j:Nat} (h:j≤k+1):tpB L k j=true:=by
  cases j with
  |zero=>rfl
  |succ j=>exact if_neg (by omega)
theorem aJX {L:List (List Int)} {k j:Nat} (h:k < j):tpB L k (j+1)=(tpB L k j&&(decide (((nth L j).length:Int)=((nth L k).length:Int))|| !hp (nth L j) (nth L k))):=if_pos h
theorem aCh {L : List (List Int)} {k : Nat} : ∀ {j : Nat}, tpB L k j = true ↔ ∀ i, k < i → i < j → (nth L i).length = (nth L k).length ∨ hp (nth L i) (nth L k) = false
  |0=>by simp [tpB]
  | j + 1 => by
    by_cases h:k < j
    · rw [aJX h,Bool.and_eq_true,aCh (j:=j),Bool.or_eq_true,decide_eq_true_eq,Int.ofNat_inj,Bool.not_eq_true']
      constructor
      · rintro ⟨a,b⟩ i h1 h2
        by_cases e:i=j
        · subst e; exact b
        · exact a i h1 (by omega)
      · intro a; exact ⟨fun i h1 h2=>a i h1 (by omega),a j h (by omega)⟩
    · rw [aGV (by omega)]
      exact ⟨fun _ i h1 h2=>by omega,fun _=>rfl⟩
def mxT (l:List (List Int)):Nat→List (List Int)
  |0=>[]
  |k+1=>if tpB (sdW l) k (sdW l).length=true then mxT l k++[nth (sdW l) k] else mxT l k
def mxW (l:List (List Int)):List (List Int):=mxT l (sdW l).length
theorem aAh {l : List (List Int)} {w : List Int} : ∀ {k : Nat}, w ∈ mxT l k ↔ ∃ i, i < k ∧ tpB (sdW l) i (sdW l).length = true ∧ nth (sdW l) i = w
  |0=>by simp [mxT]
  | k + 1 => by
    have ih:=aAh (l:=l) (w:=w) (k:=k)
    simp only [mxT]
    split
    · rename_i h
      rw [List.mem_append,List.mem_singleton,ih]
      constructor
      · rintro (⟨i,i1,i2,i3⟩|e)
        · exact ⟨i,by omega,i2,i3⟩
        · exact ⟨k,by omega,h,e.symm⟩
      · rintro ⟨i,i1,i2,i3⟩
        by_cases e:i=k
        · subst e; exact .inr i3.symm
        · exact .inl ⟨i,by omega,i2,i3⟩
    · rename_i h
      rw [ih]
      constructor
      · rintro ⟨i,i1,i2,i3⟩; exact ⟨i,by omega,i2,i3⟩
      · rintro ⟨i,i1,i2,i3⟩
        by_cases e:i=k
        · subst e; exact (h i2).elim
        · exact ⟨i,by omega,i2,i3⟩
theorem aDI {l:List (List Int)}: ∀ {k:Nat},k≤(sdW l).length→pG (mxT l k)
  |0,_=>List.Pairwise.nil
  | k + 1, hk => by
    have ih:=aDI (l:=l) (k:=k) (by omega)
    simp only [mxT]
    split
    · rw [pG,List.pairwise_append]
      refine ⟨ih,by simp,fun a ha b hb=>?_⟩
      rw [List.mem_singleton.1 hb]
      obtain ⟨i,i1,_,rfl⟩:=aAh.1 ha
      have:=(List.pairwise_iff_getElem.1 (lE l)) i k (by omega) (by omega) i1
      rw [aQ,aQ] at this
      exact this
    · exact ih
def MxP (l:List (List Int)) (w:List Int):Prop:=w∈l∧ ∀ u∈l,hp u w=true→u=w
theorem aDo {l:List (List Int)} {w:List Int}:w∈mxW l↔MxP l w:=by
  unfold mxW
  rw [aAh]
  constructor
  · rintro ⟨i,i1,i2,rfl⟩
    refine ⟨(eS _ _).1 (bH i1),fun u hu hh=>?_⟩
    obtain ⟨j,hj,rfl⟩:=dQ ((eS l u).2 hu)
    have hlen:=aGW hh
    rcases Nat.lt_trichotomy i j with q|q|q
    · rcases aCh.1 i2 j q hj with e|e
      · exact aFQ hh (by omega)
      · rw [hh] at e; cases e
    · subst q; rfl
    · have:=(List.pairwise_iff_getElem.1 (lE l)) j i hj i1 q
      rw [aQ,aQ] at this
      have h2:=aHu hh
      have:=aAr this
      omega
  · rintro ⟨h1,h2⟩
    obtain ⟨i,hi,rfl⟩:=dQ ((eS l w).2 h1)
    refine ⟨i,hi,aCh.2 fun j hij hj=>?_,rfl⟩
    by_cases e:hp (nth (sdW l) j) (nth (sdW l) i)=true
    · have:=h2 _ ((eS _ _).1 (bH hj)) e
      exact .inl (by rw [this])
    · exact .inr (by simpa using e)
theorem aJK {a b:List Int} (h:hp b a=true):bC a b≤0:=by
  obtain ⟨x,rfl⟩:=zA.1 h
  have e:cmn a (a++x)=a.length:=by
    have:=aIq (p:=a) (x:=[]) (y:=x)
    rw [List.append_nil] at this
    rw [this]; simp [cmn]
  unfold bC
  rw [e]
  simp
  try split <;> omega
theorem aSZ (l : List (List Int)) : sdW (mxO (sdX l) (sdX l).length) = mxW l := by
  refine qH (lE _) (aDI (Nat.le_refl _)) fun w=>?_
  rw [eS,yV]
  show _↔w∈mxW l
  rw [aDo]
  have lt: ∀ {i j:Nat},i < j→j < (sdX l).length→bC (nth (sdX l) i) (nth (sdX l) j) < 0:=fun h1 h2=>pI (aJ8 l) h1 h2
  constructor
  · rintro ⟨i,i1,i2,rfl⟩
    refine ⟨nD.1 (bH i1),fun u hu hh=>?_⟩
    obtain ⟨j,hj,rfl⟩:=dQ (nD.2 hu)
    rcases Nat.lt_trichotomy i j with q|q|q
    · exfalso
      unfold mxC at i2
      rw [Bool.or_eq_true,decide_eq_true_eq,Bool.not_eq_true'] at i2
      rcases i2 with e|e
      · omega
      · have h1:=lt (show i < i+1 by omega) (by omega)
        have hle:bC (nth (sdX l) (i+1)) (nth (sdX l) j)≤0:=by
          by_cases ej:i+1=j
          · rw [ej,cA.2 rfl]; omega
          · have:=lt (show i+1 < j by omega) hj; omega
        have hb:=aBB (Int.le_of_lt h1) hle
        have hc:cmn (nth (sdX l) i) (nth (sdX l) j)=(nth (sdX l) i).length:=by
          have:cmn (nth (sdX l) j) (nth (sdX l) i)=(nth (sdX l) i).length:=by simpa [hp] using hh
          rw [gN]; exact this
        have h3:=pP (nth (sdX l) i) (nth (sdX l) (i+1))
        have:hp (nth (sdX l) (i+1)) (nth (sdX l) i)=true:=by
          unfold hp; rw [gN]; exact decide_eq_true (by omega)
        rw [this] at e; cases e
    · subst q; rfl
    · have h1:=lt q i1
      have h2:=aJK hh
      have:=vW h1
      omega
  · rintro ⟨h1,h2⟩
    obtain ⟨i,hi,rfl⟩:=dQ (nD.2 h1)
    refine ⟨i,hi,?_,rfl⟩
    unfold mxC
    rw [Bool.or_eq_true,decide_eq_true_eq,Bool.not_eq_true']
    by_cases e:i+1=(sdX l).length
    · exact .inl (by omega)
    · refine .inr ?_
      by_cases hh:hp (nth (sdX l) (i+1)) (nth (sdX l) i)=true
      · exfalso
        have hq:=h2 _ (nD.1 (bH (show i+1 < (sdX l).length by omega))) hh
        have:=lt (show i < i+1 by omega) (by omega)
        rw [hq,cA.2 rfl] at this
        omega
      · simpa using hh
end Go.Proofs.YtilfohjlglefjaaGreat
namespace Go.Proofs.YtilfohjlglefjaaGreat
open Go Go.Proofs
theorem xO (a b:List Int):aZ Tryz.prog 211 [(aY a),(aY b),(V.pp [(V.fn 171 [] [])])] (V.bool (decide (slx a b=0))):=by
 refine pW Tryz.func211 aEm fun hB=>?_
 unfold aL8
 dsimp only
 refine W_r (aA rfl (R_e (W_r (aJ rfl rfl (aA rfl (aA rfl (mV (@rfl V (V.fn 171 [] [])) (cW (@rfl V (aY a)) (cW (@rfl V (aY b)) gT)) (pM a b) (gO _ _ (by simp [-List.map_take,-List.map_drop,-List.map_append,-List.map_reverse])) (by simp [-List.map_take,-List.map_drop,-List.map_append,-List.map_reverse]) (Or.inl (by simp [-List.map_take,-List.map_drop,-List.map_append,-List.map_reverse])) ?_)))))))
 refine gU rfl rfl (aA rfl (R_e (bI ?_)))
 refine bB (@rfl V (V.bool (decide ((slx a b)=(0:Int))))) (bJ ?_)
 · rfl
theorem tT (a b:List Int):aZ Tryz.prog 211 [(aY a),(aY b),(V.pp [(V.fn 169 [] [])])] (V.bool (decide (bC a b=0))):=by
 refine pW Tryz.func211 aEm fun hB=>?_
 unfold aL8
 dsimp only
 refine W_r (aA rfl (R_e (W_r (aJ rfl rfl (aA rfl (aA rfl (mV (@rfl V (V.fn 169 [] [])) (cW (@rfl V (aY a)) (cW (@rfl V (aY b)) gT)) (aCa a b) (gO _ _ (by simp [-List.map_take,-List.map_drop,-List.map_append,-List.map_reverse])) (by simp [-List.map_take,-List.map_drop,-List.map_append,-List.map_reverse]) (Or.inl (by simp [-List.map_take,-List.map_drop,-List.map_append,-List.map_reverse])) ?_)))))))
 refine gU rfl rfl (aA rfl (R_e (bI ?_)))
 refine bB (@rfl V (V.bool (decide ((bC a b)=(0:Int))))) (bJ ?_)
 · rfl
theorem aHW (l:List (List Int)) (v2 v3 len:Nat) (Hi:aH) (h202:Hi 202=(bz v2 38 1 (List.map cL (l)))) (h3:Hi 3=(bk v3 255 1 [[(V.fn 171 [] [])]])) (hn:len=l.length) (hl:l.length≤1073741824):dM Tryz.prog 210 [(V.ms 202 v2 0 (len)),(V.fn 211 [] [(V.mp 3 v3 0 0)])] Hi (V.ms 202 v2 0 ((ddK l l.length).length)) (upd Hi 202 (bz v2 38 1 (List.map cL (ddK l l.length)++List.replicate (l.length - (ddK l l.length).length) [V.nilsl]))):=by
 refine eW (k0:=400) Tryz.func210 aDR fun hB=>?_
 unfold aPN
 dsimp only
 refine W_r (aA rfl (R_e (aC (W_r (aA rfl (dX rfl h202 (by first|rfl|simp) (bQ rfl rfl ?_)))))))
 refine R_e ?_
 refine aL rfl (fun c1=>?_) fun c1=>?_
 ·
  refine aC (W_r (aA rfl (aA rfl (R_e (aR (cZ (R:=fun T H=>T 4=(V.ms 202 v2 0 (len))∧(∀ j,j∉[202]→H j=Hi j)∧H 3=(bk v3 255 1 [[(V.fn 171 [] [])]])∧H 202=(bz v2 38 1 (List.map cL (l)))∧True) ⟨(@rfl V (V.ms 202 v2 0 (len))),(fun _ _=>rfl),h3,h202,trivial⟩ ?_))))))
  intro T H ⟨t4,hF,h3,h202,_⟩
  have hall:=aAd (l:=l) (fun i i1 i2=>by omega)
  have fh:=fA.fin (fA.put (B:=(bz v2 38 1 (List.map cL (ddK l l.length)++List.replicate (l.length - (ddK l l.length).length) [V.nilsl]))) (fA.start hF) h202 (jL.eq (by first|rfl|(rw [hd.2]; done)|(rw [hall]; simp; done)|(rw [q5.1,cK (show k+j < l.length by omega) (.inr d5)]; rfl)|(rw [q5.1,cK (show k+j < l.length by omega) (.inr d5)]; done)|(show _=(⟨_,_,_,_,_,List.map cL (ddL l ((k+j)+1))⟩:Blk); rw [fH (by rintro (q|q); omega; exact q d5)]; done)|(rw [cU (show l.length≤k+j by omega) hj,show k+j=l.length by omega]; done)|(rw [cU (show l.length≤k+j by omega) hj,show k+j=l.length by omega,hn]; done))))
  exact jN t4 fh (fG.trans_eq (fG.same fh _) (by first|rfl|(rw [hd.1]; done)|(rw [hall,hn]; done)|(rw [hall]; done)|(show _=iV (((ddK l ((k+j)+1)).length:Nat):Int); rw [bL (.inr d5),List.length_append]; rfl)|(show _=iV (((ddK l ((k+j)+1)).length:Nat):Int); rw [bP (by rintro (q|q); omega; exact q d5)]; done)|(rw [show k+j=l.length by omega]; done)))
 refine aG (aC (W_r (aA rfl (R_e (aI fun Q2 n2 x2 y2 z2=>?_)))))
 refine cP (fun mm T H=> ∃ (k:Nat),mm=l.length - k∧T 0=(V.ms 202 v2 0 (len))∧T 1=(V.fn 211 [] [(V.mp 3 v3 0 0)])∧T 5=(iV ((k:Nat):Int))∧(∀ j,j∉[202]→H j=Hi j)∧H 3=(bk v3 255 1 [[(V.fn 171 [] [])]])∧H 202=(bz v2 38 1 (List.map cL (l)))∧(1≤k)∧(k≤l.length)∧(∀ i,1≤i→i < k→nth l i≠nth l (i - 1))) ?_ ?_
 ·
  refine ⟨_,1,rfl,rfl,rfl,(Eq.trans (@rfl V (iV (1:Int))) rfl),(fun _ _=>rfl),h3,h202,?_,?_,?_⟩
  · omega
  · omega
  · intro i h1 h2; omega
 intro mm T H ⟨k,hmm,t0,t1,t5,hF,h3,h202,h1,hk,hc⟩ Q3 p13 p23 p33
 unfold aCr
 refine aC (W_r (aA t5 (aA t0 (dX rfl h202 (by first|rfl|simp) (bQ rfl rfl (R_e ?_))))))
 refine aL rfl (fun c4=>?_) fun c4=>?_
 ·
  refine aG (aI fun Q5 n5 x5 y5 z5=>(W_r (aA t1 (aA t0 (aA t5 (bW (i:=k) (@rfl V (V.ms 202 v2 0 (len))) (@rfl V (iV ((k:Nat):Int))) h202 (eH (by first|omega|(simp only [List.length_take]; omega))) rfl (by first|omega|(simp only [List.length_take]; omega)) (bF (v:=(aY ((nth (l) (k))))) rfl h202 (cD (by first|omega|(simp only [List.length_take]; omega)) (by first|rfl|(rw [cF_eq]; rfl)|simp [ldV,V.one])) ?_)))))))
  refine aA t0 (aA t5 (vI rfl rfl (by first|omega|(simp only [List.length_take]; omega)) (by first|omega|(simp only [List.length_take]; omega)) (eC (i:=(((k:Nat):Int) - (1:Int))) (@rfl V (V.ms 202 v2 0 (len))) (@rfl V (iV (((k:Nat):Int) - (1:Int)))) h202 (eH (by first|omega|(simp only [List.length_take]; omega))) rfl (by first|omega|(simp only [List.length_take]; omega)) (by first|omega|(simp only [List.length_take]; omega)) (bF (v:=(aY ((nth (l) (((((k:Nat):Int) - (1:Int))).toNat))))) rfl h202 (cD (by first|omega|(simp only [List.length_take]; omega)) (by first|rfl|(rw [cF_eq]; rfl)|simp [ldV,V.one])) (mV (@rfl V (V.fn 211 [] [(V.mp 3 v3 0 0)])) (cW (@rfl V (aY ((nth (l) (k))))) (cW (@rfl V (aY ((nth (l) (((((k:Nat):Int) - (1:Int))).toNat))))) gT)) (xO ((nth (l) (k))) ((nth (l) (((((k:Nat):Int) - (1:Int))).toNat)))) (bZ (cS 6 _ (by simp [-List.map_take,-List.map_drop,-List.map_append,-List.map_reverse])) (bZ (cS 6 _ (by simp [-List.map_take,-List.map_drop,-List.map_append,-List.map_reverse])) (bZ (by first|rfl|simp [fzv,Blk.own,h3,h202]) rfl))) (by simp [-List.map_take,-List.map_drop,-List.map_append,-List.map_reverse]) (Or.inr rfl) (R_e ?_))))))
  refine fO rfl (fun c6=>?_) fun c6=>?_
  ·
   have d1:nth l k=nth l (k - 1):=by have q:=eM.1 c6; rwa [show (((k:Nat):Int) - (1:Int)).toNat=k - 1 by omega] at q
   have hd:=aBq h1 (by omega) hc d1
   refine W_r (aA t0 (aA t5 (iF (n:=k) (@rfl V (V.ms 202 v2 0 (len))) (@rfl V (iV ((k:Nat):Int))) h202 (eH (by first|omega|(simp only [List.length_take]; omega))) rfl (by first|omega|(simp only [List.length_take]; omega)) (aA rfl (R_e (aC (W_r ?_)))))))
   refine aA rfl (R_e (aI fun Q7 n7 x7 y7 z7=>?_))
   refine cP (fun mm T H=> ∃ (j:Nat),mm=l.length - (k+j)∧T 0=(V.ms 202 v2 0 (len))∧T 1=(V.fn 211 [] [(V.mp 3 v3 0 0)])∧T 5=(iV (((ddK l (k+j)).length:Nat):Int))∧T 6=(V.ms 202 v2 (0+k) (len - k))∧T 7=(iV ((j:Nat):Int))∧(∀ j,j∉[202]→H j=Hi j)∧H 3=(bk v3 255 1 [[(V.fn 171 [] [])]])∧H 202=(bz v2 38 1 (List.map cL (ddL l (k+j))))∧(k+j≤l.length)∧(1≤j)∧((ddK l (k+j)).length < k+j)) ?_ ?_
   ·
    refine ⟨_,1,rfl,t0,t1,(Eq.trans t5 (by first|rfl|(rw [hd.1]; done)|(rw [hall,hn]; done)|(rw [hall]; done)|(show _=iV (((ddK l ((k+j)+1)).length:Nat):Int); rw [bL (.inr d5),List.length_append]; rfl)|(show _=iV (((ddK l ((k+j)+1)).length:Nat):Int); rw [bP (by rintro (q|q); omega; exact q d5)]; done)|(rw [show k+j=l.length by omega]; done))),(Eq.trans (@rfl V (V.ms 202 v2 (0+k) (len - k))) (by first|rfl|(rw [hd.1]; done)|(rw [hall,hn]; done)|(rw [hall]; done)|(show _=iV (((ddK l ((k+j)+1)).length:Nat):Int); rw [bL (.inr d5),List.length_append]; rfl)|(show _=iV (((ddK l ((k+j)+1)).length:Nat):Int); rw [bP (by rintro (q|q); omega; exact q d5)]; done)|(rw [show k+j=l.length by omega]; done))),(Eq.trans (@rfl V (iV (1:Int))) rfl),hF,h3,(Eq.trans h202 (by first|rfl|(rw [hd.2]; done)|(rw [hall]; simp; done)|(rw [q5.1,cK (show k+j < l.length by omega) (.inr d5)]; rfl)|(rw [q5.1,cK (show k+j < l.length by omega) (.inr d5)]; done)|(show _=(⟨_,_,_,_,_,List.map cL (ddL l ((k+j)+1))⟩:Blk); rw [fH (by rintro (q|q); omega; exact q d5)]; done)|(rw [cU (show l.length≤k+j by omega) hj,show k+j=l.length by omega]; done)|(rw [cU (show l.length≤k+j by omega) hj,show k+j=l.length by omega,hn]; done))),?_,?_,?_⟩
    · omega
    · omega
    · rw [hd.1]; omega
   intro mm T H ⟨j,hmm,t0,t1,t5,t6,t7,hF,h3,h202,hj,hj1,hlt⟩ Q8 p18 p28 p38
   unfold aCy
   have q1:=aD1 (L:=l) (j:=k+j) hj
   have q5:=aK6 hlt hj1
   have q6:=aCN (l:=l) (j:=k+j) (by omega)
   refine aC (W_r (aA t7 (aA t6 (dX rfl h202 (by first|rfl|simp) (bQ rfl rfl (R_e ?_))))))
   refine aL rfl (fun c9=>?_) fun c9=>?_
   ·
    refine aG (aI fun Q10 n10 x10 y10 z10=>(W_r (aA t1 (aA t6 (aA t7 (mM (i:=j) (@rfl V (V.ms 202 v2 (0+k) (len - k))) (@rfl V (iV ((j:Nat):Int))) h202 (eH (by first|omega|(simp only [List.length_take]; omega))) rfl (by first|omega|(simp only [List.length_take]; omega)) (bF (v:=(aY ((nth (ddL l (k+j)) ((0+k)+(j)))))) rfl h202 (cD (by first|omega|(simp only [List.length_take]; omega)) (by first|rfl|(rw [cF_eq]; rfl)|simp [ldV,V.one])) ?_)))))))
    refine aA t6 (aA t7 (vI rfl rfl (by first|omega|(simp only [List.length_take]; omega)) (by first|omega|(simp only [List.length_take]; omega)) (qZ (i:=(((j:Nat):Int) - (1:Int))) (@rfl V (V.ms 202 v2 (0+k) (len - k))) (@rfl V (iV (((j:Nat):Int) - (1:Int)))) h202 (eH (by first|omega|(simp only [List.length_take]; omega))) rfl (by first|omega|(simp only [List.length_take]; omega)) (by first|omega|(simp only [List.length_take]; omega)) (bF (v:=(aY ((nth (ddL l (k+j)) ((0+k)+((((j:Nat):Int) - (1:Int))).toNat))))) rfl h202 (cD (by first|omega|(simp only [List.length_take]; omega)) (by first|rfl|(rw [cF_eq]; rfl)|simp [ldV,V.one])) (mV (@rfl V (V.fn 211 [] [(V.mp 3 v3 0 0)])) (cW (@rfl V (aY ((nth (ddL l (k+j)) ((0+k)+(j)))))) (cW (@rfl V (aY ((nth (ddL l (k+j)) ((0+k)+((((j:Nat):Int) - (1:Int))).toNat))))) gT)) (xO ((nth (ddL l (k+j)) ((0+k)+(j)))) ((nth (ddL l (k+j)) ((0+k)+((((j:Nat):Int) - (1:Int))).toNat)))) (bZ (cS 6 _ (by simp [-List.map_take,-List.map_drop,-List.map_append,-List.map_reverse])) (bZ (cS 6 _ (by simp [-List.map_take,-List.map_drop,-List.map_append,-List.map_reverse])) (bZ (by first|rfl|simp [fzv,Blk.own,h3,h202]) rfl))) (by simp [-List.map_take,-List.map_drop,-List.map_append,-List.map_reverse]) (Or.inr rfl) (aFz rfl (R_e ?_)))))))
    refine fO rfl (fun c11=>?_) fun c11=>?_
    ·
     have d5:nth l (k+j)≠nth l (k+j - 1):=fun q=>c11 (eM.2 (by rw [q5.1,q5.2]; exact q))
     refine W_r (aA t0 (aA t5 (aA t6 (aA t7 (mM (i:=j) (@rfl V (V.ms 202 v2 (0+k) (len - k))) (@rfl V (iV ((j:Nat):Int))) h202 (eH (by first|omega|(simp only [List.length_take]; omega))) rfl (by first|omega|(simp only [List.length_take]; omega)) (bF (v:=(aY ((nth (ddL l (k+j)) ((0+k)+(j)))))) rfl h202 (cD (by first|omega|(simp only [List.length_take]; omega)) (by first|rfl|(rw [cF_eq]; rfl)|simp [ldV,V.one])) (bW (i:=((ddK l (k+j)).length)) (@rfl V (V.ms 202 v2 0 (len))) (@rfl V (iV (((ddK l (k+j)).length:Nat):Int))) h202 (eH (by first|omega|(simp only [List.length_take]; omega))) rfl (by first|omega|(simp only [List.length_take]; omega)) ?_)))))))
     refine cF (vs:=[(aY ((nth (ddL l (k+j)) ((0+k)+(j)))))]) (B':=(bz v2 38 1 (List.map cL ((ddL l (k+j)).set ((ddK l (k+j)).length) ((nth (ddL l (k+j)) ((0+k)+(j)))))))) rfl rfl rfl h202 (jS (x:=((nth (ddL l (k+j)) ((0+k)+(j))))) (i:=((ddK l (k+j)).length)) (by first|omega|(simp only [List.length_take]; omega)) rfl rfl rfl rfl) (R_e (W_t (aA t5 (bS rfl (@rfl V (iV ((1:Nat):Int))) (by first|omega|(simp only [List.length_take]; omega)) (aA rfl (R_e (n10 _ _ ?_)))))))
     refine .done (W_t (aA t7 (bS rfl (@rfl V (iV ((1:Nat):Int))) (by first|omega|(simp only [List.length_take]; omega)) (aA rfl (R_e ?_)))))
     refine p18 _ _ _ ?_ ⟨(j+1),rfl,t0,t1,(Eq.trans (@rfl V (iV ((((ddK l (k+j)).length)+1:Nat):Int))) (by first|rfl|(rw [hd.1]; done)|(rw [hall,hn]; done)|(rw [hall]; done)|(show _=iV (((ddK l ((k+j)+1)).length:Nat):Int); rw [bL (.inr d5),List.length_append]; rfl)|(show _=iV (((ddK l ((k+j)+1)).length:Nat):Int); rw [bP (by rintro (q|q); omega; exact q d5)]; done)|(rw [show k+j=l.length by omega]; done))),(Eq.trans t6 (by first|rfl|(rw [hd.1]; done)|(rw [hall,hn]; done)|(rw [hall]; done)|(show _=iV (((ddK l ((k+j)+1)).length:Nat):Int); rw [bL (.inr d5),List.length_append]; rfl)|(show _=iV (((ddK l ((k+j)+1)).length:Nat):Int); rw [bP (by rintro (q|q); omega; exact q d5)]; done)|(rw [show k+j=l.length by omega]; done))),(Eq.trans (@rfl V (iV ((j+1:Nat):Int))) (by first|rfl|(rw [hd.1]; done)|(rw [hall,hn]; done)|(rw [hall]; done)|(show _=iV (((ddK l ((k+j)+1)).length:Nat):Int); rw [bL (.inr d5),List.length_append]; rfl)|(show _=iV (((ddK l ((k+j)+1)).length:Nat):Int); rw [bP (by rintro (q|q); omega; exact q d5)]; done)|(rw [show k+j=l.length by omega]; done))),(eT hF (by decide)),h3,(Eq.trans (@rfl Blk (bz v2 38 1 (List.map cL ((ddL l (k+j)).set ((ddK l (k+j)).length) ((nth (ddL l (k+j)) ((0+k)+(j)))))))) (by first|rfl|(rw [hd.2]; done)|(rw [hall]; simp; done)|(rw [q5.1,cK (show k+j < l.length by omega) (.inr d5)]; rfl)|(rw [q5.1,cK (show k+j < l.length by omega) (.inr d5)]; done)|(show _=(⟨_,_,_,_,_,List.map cL (ddL l ((k+j)+1))⟩:Blk); rw [fH (by rintro (q|q); omega; exact q d5)]; done)|(rw [cU (show l.length≤k+j by omega) hj,show k+j=l.length by omega]; done)|(rw [cU (show l.length≤k+j by omega) hj,show k+j=l.length by omega,hn]; done))),?_,?_,?_⟩
     · omega
     · omega
     · omega
     · first|(show (ddK l ((k+j)+1)).length < (k+j)+1; rw [bL (.inr d5),List.length_append]; simp; omega)|(show (ddK l ((k+j)+1)).length < (k+j)+1; rw [bP (by rintro (q|q); omega; exact q d5)]; omega)
    have d5:nth l (k+j)=nth l (k+j - 1):=by have q:=eM.1 (Decidable.not_not.1 c11); rwa [q5.1,q5.2] at q
    refine dC (n10 _ _ (.done (W_t (aA t7 (bS rfl (@rfl V (iV ((1:Nat):Int))) (by first|omega|(simp only [List.length_take]; omega)) (aA rfl (R_e ?_)))))))
    refine p18 _ _ _ ?_ ⟨(j+1),rfl,t0,t1,(Eq.trans t5 (by first|rfl|(rw [hd.1]; done)|(rw [hall,hn]; done)|(rw [hall]; done)|(show _=iV (((ddK l ((k+j)+1)).length:Nat):Int); rw [bL (.inr d5),List.length_append]; rfl)|(show _=iV (((ddK l ((k+j)+1)).length:Nat):Int); rw [bP (by rintro (q|q); omega; exact q d5)]; done)|(rw [show k+j=l.length by omega]; done))),(Eq.trans t6 (by first|rfl|(rw [hd.1]; done)|(rw [hall,hn]; done)|(rw [hall]; done)|(show _=iV (((ddK l ((k+j)+1)).length:Nat):Int); rw [bL (.inr d5),List.length_append]; rfl)|(show _=iV (((ddK l ((k+j)+1)).length:Nat):Int); rw [bP (by rintro (q|q); omega; exact q d5)]; done)|(rw [show k+j=l.length by omega]; done))),(Eq.trans (@rfl V (iV ((j+1:Nat):Int))) (by first|rfl|(rw [hd.1]; done)|(rw [hall,hn]; done)|(rw [hall]; done)|(show _=iV (((ddK l ((k+j)+1)).length:Nat):Int); rw [bL (.inr d5),List.length_append]; rfl)|(show _=iV (((ddK l ((k+j)+1)).length:Nat):Int); rw [bP (by rintro (q|q); omega; exact q d5)]; done)|(rw [show k+j=l.length by omega]; done))),hF,h3,(Eq.trans h202 (by first|rfl|(rw [hd.2]; done)|(rw [hall]; simp; done)|(rw [q5.1,cK (show k+j < l.length by omega) (.inr d5)]; rfl)|(rw [q5.1,cK (show k+j < l.length by omega) (.inr d5)]; done)|(show _=(⟨_,_,_,_,_,List.map cL (ddL l ((k+j)+1))⟩:Blk); rw [fH (by rintro (q|q); omega; exact q d5)]; done)|(rw [cU (show l.length≤k+j by omega) hj,show k+j=l.length by omega]; done)|(rw [cU (show l.length≤k+j by omega) hj,show k+j=l.length by omega,hn]; done))),?_,?_,?_⟩
    · omega
    · omega
    · omega
    · first|(show (ddK l ((k+j)+1)).length < (k+j)+1; rw [bL (.inr d5),List.length_append]; simp; omega)|(show (ddK l ((k+j)+1)).length < (k+j)+1; rw [bP (by rintro (q|q); omega; exact q d5)]; omega)
   refine aT (p38 _ _ _ (x7 _ _ (.done (W_r (aA t0 (aA t5 (iF (n:=((ddK l (k+j)).length)) (@rfl V (V.ms 202 v2 0 (len))) (@rfl V (iV (((ddK l (k+j)).length:Nat):Int))) h202 (eH (by first|omega|(simp only [List.length_take]; omega))) rfl (by first|omega|(simp only [List.length_take]; omega)) ?_)))))))
   refine aKH (m:=(((ddK l (k+j)).length))) (n:=(len - ((ddK l (k+j)).length))) (f:=cL) (l:=(ddL l (k+j))) (Eq.trans (@rfl V (V.ms 202 v2 (0+((ddK l (k+j)).length)) (len - ((ddK l (k+j)).length)))) (congrArg (fun n=>V.ms 202 v2 n (len - ((ddK l (k+j)).length))) (Nat.zero_add _))) h202 rfl (by decide) rfl (by first|omega|(simp only [List.length_take]; omega)) (by first|omega|(simp only [List.length_take]; omega)) (R_e (W_r (aA t0 (aA t5 (nN (n:=((ddK l (k+j)).length)) (@rfl V (V.ms 202 v2 0 (len))) (@rfl V (iV (((ddK l (k+j)).length:Nat):Int))) (@rfl Blk (bz v2 38 1 (List.map cL (List.take (((ddK l (k+j)).length)) (ddL l (k+j)))++List.replicate (len - ((ddK l (k+j)).length)) [V.nilsl]))) (jZ (by first|omega|(simp only [List.length_take]; omega))) rfl (by first|omega|(simp only [List.length_take]; omega)) (aA rfl (R_e ?_)))))))
   refine bI (y5 _ _ (p23 _ _ (y2 _ _ (cZ (R:=fun T H=>T 4=(V.ms 202 v2 0 ((ddK l (k+j)).length))∧(∀ j,j∉[202]→H j=Hi j)∧H 3=(bk v3 255 1 [[(V.fn 171 [] [])]])∧H 202=(bz v2 38 1 (List.map cL (List.take (((ddK l (k+j)).length)) (ddL l (k+j)))++List.replicate (len - ((ddK l (k+j)).length)) [V.nilsl]))∧True) ⟨(@rfl V (V.ms 202 v2 0 ((ddK l (k+j)).length))),(eT hF (by decide)),h3,rfl,trivial⟩ ?_))))
   intro T H ⟨t4,hF,h3,h202,_⟩
   skip
   have fh:=fA.fin (fA.put (B:=(bz v2 38 1 (List.map cL (ddK l l.length)++List.replicate (l.length - (ddK l l.length).length) [V.nilsl]))) (fA.start hF) h202 (jL.eq (by first|rfl|(rw [hd.2]; done)|(rw [hall]; simp; done)|(rw [q5.1,cK (show k+j < l.length by omega) (.inr d5)]; rfl)|(rw [q5.1,cK (show k+j < l.length by omega) (.inr d5)]; done)|(show _=(⟨_,_,_,_,_,List.map cL (ddL l ((k+j)+1))⟩:Blk); rw [fH (by rintro (q|q); omega; exact q d5)]; done)|(rw [cU (show l.length≤k+j by omega) hj,show k+j=l.length by omega]; done)|(rw [cU (show l.length≤k+j by omega) hj,show k+j=l.length by omega,hn]; done))))
   exact jN t4 fh (fG.trans_eq (fG.same fh _) (by first|rfl|(rw [hd.1]; done)|(rw [hall,hn]; done)|(rw [hall]; done)|(show _=iV (((ddK l ((k+j)+1)).length:Nat):Int); rw [bL (.inr d5),List.length_append]; rfl)|(show _=iV (((ddK l ((k+j)+1)).length:Nat):Int); rw [bP (by rintro (q|q); omega; exact q d5)]; done)|(rw [show k+j=l.length by omega]; done)))
  have d1:nth l k≠nth l (k - 1):=fun q=>c6 (eM.2 (by rw [show (((k:Nat):Int) - (1:Int)).toNat=k - 1 by omega]; exact q))
  refine dC (n5 _ _ (.done (W_t (aA t5 (bS rfl (@rfl V (iV ((1:Nat):Int))) (by first|omega|(simp only [List.length_take]; omega)) (aA rfl (R_e ?_)))))))
  refine p13 _ _ _ ?_ ⟨(k+1),rfl,t0,t1,(Eq.trans (@rfl V (iV ((k+1:Nat):Int))) (by first|rfl|(rw [hd.1]; done)|(rw [hall,hn]; done)|(rw [hall]; done)|(show _=iV (((ddK l ((k+j)+1)).length:Nat):Int); rw [bL (.inr d5),List.length_append]; rfl)|(show _=iV (((ddK l ((k+j)+1)).length:Nat):Int); rw [bP (by rintro (q|q); omega; exact q d5)]; done)|(rw [show k+j=l.length by omega]; done))),hF,h3,h202,?_,?_,?_⟩
  · omega
  · omega
  · omega
  · intro i i1 i2
    by_cases e:i=k
    · subst e; exact d1
    · exact hc i i1 (by omega)
 refine aT (p33 _ _ _ (x2 _ _ (.done (W_r (aA t0 (aA rfl (R_e ?_)))))))
 refine bI (cZ (R:=fun T H=>T 4=(V.ms 202 v2 0 (len))∧(∀ j,j∉[202]→H j=Hi j)∧H 3=(bk v3 255 1 [[(V.fn 171 [] [])]])∧H 202=(bz v2 38 1 (List.map cL (l)))∧True) ⟨(@rfl V (V.ms 202 v2 0 (len))),hF,h3,h202,trivial⟩ ?_)
 intro T H ⟨t4,hF,h3,h202,_⟩
 have hall:=aAd (l:=l) (fun i i1 i2=>hc i i1 (by omega))
 have fh:=fA.fin (fA.put (B:=(bz v2 38 1 (List.map cL (ddK l l.length)++List.replicate (l.length - (ddK l l.length).length) [V.nilsl]))) (fA.start hF) h202 (jL.eq (by first|rfl|(rw [hd.2]; done)|(rw [hall]; simp; done)|(rw [q5.1,cK (show k+j < l.length by omega) (.inr d5)]; rfl)|(rw [q5.1,cK (show k+j < l.length by omega) (.inr d5)]; done)|(show _=(⟨_,_,_,_,_,List.map cL (ddL l ((k+j)+1))⟩:Blk); rw [fH (by rintro (q|q); omega; exact q d5)]; done)|(rw [cU (show l.length≤k+j by omega) hj,show k+j=l.length by omega]; done)|(rw [cU (show l.length≤k+j by omega) hj,show k+j=l.length by omega,hn]; done))))
 exact jN t4 fh (fG.trans_eq (fG.same fh _) (by first|rfl|(rw [hd.1]; done)|(rw [hall,hn]; done)|(rw [hall]; done)|(show _=iV (((ddK l ((k+j)+1)).length:Nat):Int); rw [bL (.inr d5),List.length_append]; rfl)|(show _=iV (((ddK l ((k+j)+1)).length:Nat):Int); rw [bP (by rintro (q|q); omega; exact q d5)]; done)|(rw [show k+j=l.length by omega]; done)))
theorem aHf (l:List (List Int)) (v2 v3 len:Nat) (Hi:aH) (h202:Hi 202=(bz v2 38 1 (List.map cL (l)))) (h3:Hi 3=(bk v3 255 1 [[(V.fn 169 [] [])]])) (hn:len=l.length) (hl:l.length≤1073741824):dM Tryz.prog 210 [(V.ms 202 v2 0 (len)),(V.fn 211 [] [(V.mp 3 v3 0 0)])] Hi (V.ms 202 v2 0 ((ddK l l.length).length)) (upd Hi 202 (bz v2 38 1 (List.map cL (ddK l l.length)++List.replicate (l.length - (ddK l l.length).length) [V.nilsl]))):=by
 refine eW (k0:=400) Tryz.func210 aDR fun hB=>?_
 unfold aPN
 dsimp only
 refine W_r (aA rfl (R_e (aC (W_r (aA rfl (dX rfl h202 (by first|rfl|simp) (bQ rfl rfl ?_)))))))
 refine R_e ?_
 refine aL rfl (fun c1=>?_) fun c1=>?_
 ·
  refine aC (W_r (aA rfl (aA rfl (R_e (aR (cZ (R:=fun T H=>T 4=(V.ms 202 v2 0 (len))∧(∀ j,j∉[202]→H j=Hi j)∧H 3=(bk v3 255 1 [[(V.fn 169 [] [])]])∧H 202=(bz v2 38 1 (List.map cL (l)))∧True) ⟨(@rfl V (V.ms 202 v2 0 (len))),(fun _ _=>rfl),h3,h202,trivial⟩ ?_))))))
  intro T H ⟨t4,hF,h3,h202,_⟩
  have hall:=aAd (l:=l) (fun i i1 i2=>by omega)
  have fh:=fA.fin (fA.put (B:=(bz v2 38 1 (List.map cL (ddK l l.length)++List.replicate (l.length - (ddK l l.length).length) [V.nilsl]))) (fA.start hF) h202 (jL.eq (by first|rfl|(rw [hd.2]; done)|(rw [hall]; simp; done)|(rw [q5.1,cK (show k+j < l.length by omega) (.inr d5)]; rfl)|(rw [q5.1,cK (show k+j < l.length by omega) (.inr d5)]; done)|(show _=(⟨_,_,_,_,_,List.map cL (ddL l ((k+j)+1))⟩:Blk); rw [fH (by rintro (q|q); omega; exact q d5)]; done)|(rw [cU (show l.length≤k+j by omega) hj,show k+j=l.length by omega]; done)|(rw [cU (show l.length≤k+j by omega) hj,show k+j=l.length by omega,hn]; done))))
  exact jN t4 fh (fG.trans_eq (fG.same fh _) (by first|rfl|(rw [hd.1]; done)|(rw [hall,hn]; done)|(rw [hall]; done)|(show _=iV (((ddK l ((k+j)+1)).length:Nat):Int); rw [bL (.inr d5),List.length_append]; rfl)|(show _=iV (((ddK l ((k+j)+1)).length:Nat):Int); rw [bP (by rintro (q|q); omega; exact q d5)]; done)|(rw [show k+j=l.length by omega]; done)))
 refine aG (aC (W_r (aA rfl (R_e (aI fun Q2 n2 x2 y2 z2=>?_)))))
 refine cP (fun mm T H=> ∃ (k:Nat),mm=l.length - k∧T 0=(V.ms 202 v2 0 (len))∧T 1=(V.fn 211 [] [(V.mp 3 v3 0 0)])∧T 5=(iV ((k:Nat):Int))∧(∀ j,j∉[202]→H j=Hi j)∧H 3=(bk v3 255 1 [[(V.fn 169 [] [])]])∧H 202=(bz v2 38 1 (List.map cL (l)))∧(1≤k)∧(k≤l.length)∧(∀ i,1≤i→i < k→nth l i≠nth l (i - 1))) ?_ ?_
 ·
  refine ⟨_,1,rfl,rfl,rfl,(Eq.trans (@rfl V (iV (1:Int))) rfl),(fun _ _=>rfl),h3,h202,?_,?_,?_⟩
  · omega
  · omega
  · intro i h1 h2; omega
 intro mm T H ⟨k,hmm,t0,t1,t5,hF,h3,h202,h1,hk,hc⟩ Q3 p13 p23 p33
 unfold aCr
 refine aC (W_r (aA t5 (aA t0 (dX rfl h202 (by first|rfl|simp) (bQ rfl rfl (R_e ?_))))))
 refine aL rfl (fun c4=>?_) fun c4=>?_
 ·
  refine aG (aI fun Q5 n5 x5 y5 z5=>(W_r (aA t1 (aA t0 (aA t5 (bW (i:=k) (@rfl V (V.ms 202 v2 0 (len))) (@rfl V (iV ((k:Nat):Int))) h202 (eH (by first|omega|(simp only [List.length_take]; omega))) rfl (by first|omega|(simp only [List.length_take]; omega)) (bF (v:=(aY ((nth (l) (k))))) rfl h202 (cD (by first|omega|(simp only [List.length_take]; omega)) (by first|rfl|(rw [cF_eq]; rfl)|simp [ldV,V.one])) ?_)))))))
  refine aA t0 (aA t5 (vI rfl rfl (by first|omega|(simp only [List.length_take]; omega)) (by first|omega|(simp only [List.length_take]; omega)) (eC (i:=(((k:Nat):Int) - (1:Int))) (@rfl V (V.ms 202 v2 0 (len))) (@rfl V (iV (((k:Nat):Int) - (1:Int)))) h202 (eH (by first|omega|(simp only [List.length_take]; omega))) rfl (by first|omega|(simp only [List.length_take]; omega)) (by first|omega|(simp only [List.length_take]; omega)) (bF (v:=(aY ((nth (l) (((((k:Nat):Int) - (1:Int))).toNat))))) rfl h202 (cD (by first|omega|(simp only [List.length_take]; omega)) (by first|rfl|(rw [cF_eq]; rfl)|simp [ldV,V.one])) (mV (@rfl V (V.fn 211 [] [(V.mp 3 v3 0 0)])) (cW (@rfl V (aY ((nth (l) (k))))) (cW (@rfl V (aY ((nth (l) (((((k:Nat):Int) - (1:Int))).toNat))))) gT)) (tT ((nth (l) (k))) ((nth (l) (((((k:Nat):Int) - (1:Int))).toNat)))) (bZ (cS 6 _ (by simp [-List.map_take,-List.map_drop,-List.map_append,-List.map_reverse])) (bZ (cS 6 _ (by simp [-List.map_take,-List.map_drop,-List.map_append,-List.map_reverse])) (bZ (by first|rfl|simp [fzv,Blk.own,h3,h202]) rfl))) (by simp [-List.map_take,-List.map_drop,-List.map_append,-List.map_reverse]) (Or.inr rfl) (R_e ?_))))))
  refine fO rfl (fun c6=>?_) fun c6=>?_
  ·
   have d1:nth l k=nth l (k - 1):=by have q:=cA.1 c6; rwa [show (((k:Nat):Int) - (1:Int)).toNat=k - 1 by omega] at q
   have hd:=aBq h1 (by omega) hc d1
   refine W_r (aA t0 (aA t5 (iF (n:=k) (@rfl V (V.ms 202 v2 0 (len))) (@rfl V (iV ((k:Nat):Int))) h202 (eH (by first|omega|(simp only [List.length_take]; omega))) rfl (by first|omega|(simp only [List.length_take]; omega)) (aA rfl (R_e (aC (W_r ?_)))))))
   refine aA rfl (R_e (aI fun Q7 n7 x7 y7 z7=>?_))
   refine cP (fun mm T H=> ∃ (j:Nat),mm=l.length - (k+j)∧T 0=(V.ms 202 v2 0 (len))∧T 1=(V.fn 211 [] [(V.mp 3 v3 0 0)])∧T 5=(iV (((ddK l (k+j)).length:Nat):Int))∧T 6=(V.ms 202 v2 (0+k) (len - k))∧T 7=(iV ((j:Nat):Int))∧(∀ j,j∉[202]→H j=Hi j)∧H 3=(bk v3 255 1 [[(V.fn 169 [] [])]])∧H 202=(bz v2 38 1 (List.map cL (ddL l (k+j))))∧(k+j≤l.length)∧(1≤j)∧((ddK l (k+j)).length < k+j)) ?_ ?_
   ·
    refine ⟨_,1,rfl,t0,t1,(Eq.trans t5 (by first|rfl|(rw [hd.1]; done)|(rw [hall,hn]; done)|(rw [hall]; done)|(show _=iV (((ddK l ((k+j)+1)).length:Nat):Int); rw [bL (.inr d5),List.length_append]; rfl)|(show _=iV (((ddK l ((k+j)+1)).length:Nat):Int); rw [bP (by rintro (q|q); omega; exact q d5)]; done)|(rw [show k+j=l.length by omega]; done))),(Eq.trans (@rfl V (V.ms 202 v2 (0+k) (len - k))) (by first|rfl|(rw [hd.1]; done)|(rw [hall,hn]; done)|(rw [hall]; done)|(show _=iV (((ddK l ((k+j)+1)).length:Nat):Int); rw [bL (.inr d5),List.length_append]; rfl)|(show _=iV (((ddK l ((k+j)+1)).length:Nat):Int); rw [bP (by rintro (q|q); omega; exact q d5)]; done)|(rw [show k+j=l.length by omega]; done))),(Eq.trans (@rfl V (iV (1:Int))) rfl),hF,h3,(Eq.trans h202 (by first|rfl|(rw [hd.2]; done)|(rw [hall]; simp; done)|(rw [q5.1,cK (show k+j < l.length by omega) (.inr d5)]; rfl)|(rw [q5.1,cK (show k+j < l.length by omega) (.inr d5)]; done)|(show _=(⟨_,_,_,_,_,List.map cL (ddL l ((k+j)+1))⟩:Blk); rw [fH (by rintro (q|q); omega; exact q d5)]; done)|(rw [cU (show l.length≤k+j by omega) hj,show k+j=l.length by omega]; done)|(rw [cU (show l.length≤k+j by omega) hj,show k+j=l.length by omega,hn]; done))),?_,?_,?_⟩
    · omega
    · omega
    · rw [hd.1]; omega
   intro mm T H ⟨j,hmm,t0,t1,t5,t6,t7,hF,h3,h202,hj,hj1,hlt⟩ Q8 p18 p28 p38
   unfold aCy
   have q1:=aD1 (L:=l) (j:=k+j) hj
   have q5:=aK6 hlt hj1
   have q6:=aCN (l:=l) (j:=k+j) (by omega)
   refine aC (W_r (aA t7 (aA t6 (dX rfl h202 (by first|rfl|simp) (bQ rfl rfl (R_e ?_))))))
   refine aL rfl (fun c9=>?_) fun c9=>?_
   ·
    refine aG (aI fun Q10 n10 x10 y10 z10=>(W_r (aA t1 (aA t6 (aA t7 (mM (i:=j) (@rfl V (V.ms 202 v2 (0+k) (len - k))) (@rfl V (iV ((j:Nat):Int))) h202 (eH (by first|omega|(simp only [List.length_take]; omega))) rfl (by first|omega|(simp only [List.length_take]; omega)) (bF (v:=(aY ((nth (ddL l (k+j)) ((0+k)+(j)))))) rfl h202 (cD (by first|omega|(simp only [List.length_take]; omega)) (by first|rfl|(rw [cF_eq]; rfl)|simp [ldV,V.one])) ?_)))))))
    refine aA t6 (aA t7 (vI rfl rfl (by first|omega|(simp only [List.length_take]; omega)) (by first|omega|(simp only [List.length_take]; omega)) (qZ (i:=(((j:Nat):Int) - (1:Int))) (@rfl V (V.ms 202 v2 (0+k) (len - k))) (@rfl V (iV (((j:Nat):Int) - (1:Int)))) h202 (eH (by first|omega|(simp only [List.length_take]; omega))) rfl (by first|omega|(simp only [List.length_take]; omega)) (by first|omega|(simp only [List.length_take]; omega)) (bF (v:=(aY ((nth (ddL l (k+j)) ((0+k)+((((j:Nat):Int) - (1:Int))).toNat))))) rfl h202 (cD (by first|omega|(simp only [List.length_take]; omega)) (by first|rfl|(rw [cF_eq]; rfl)|simp [ldV,V.one])) (mV (@rfl V (V.fn 211 [] [(V.mp 3 v3 0 0)])) (cW (@rfl V (aY ((nth (ddL l (k+j)) ((0+k)+(j)))))) (cW (@rfl V (aY ((nth (ddL l (k+j)) ((0+k)+((((j:Nat):Int) - (1:Int))).toNat))))) gT)) (tT ((nth (ddL l (k+j)) ((0+k)+(j)))) ((nth (ddL l (k+j)) ((0+k)+((((j:Nat):Int) - (1:Int))).toNat)))) (bZ (cS 6 _ (by simp [-List.map_take,-List.map_drop,-List.map_append,-List.map_reverse])) (bZ (cS 6 _ (by simp [-List.map_take,-List.map_drop,-List.map_append,-List.map_reverse])) (bZ (by first|rfl|simp [fzv,Blk.own,h3,h202]) rfl))) (by simp [-List.map_take,-List.map_drop,-List.map_append,-List.map_reverse]) (Or.inr rfl) (aFz rfl (R_e ?_)))))))
    refine fO rfl (fun c11=>?_) fun c11=>?_
    ·
     have d5:nth l (k+j)≠nth l (k+j - 1):=fun q=>c11 (cA.2 (by rw [q5.1,q5.2]; exact q))
     refine W_r (aA t0 (aA t5 (aA t6 (aA t7 (mM (i:=j) (@rfl V (V.ms 202 v2 (0+k) (len - k))) (@rfl V (iV ((j:Nat):Int))) h202 (eH (by first|omega|(simp only [List.length_take]; omega))) rfl (by first|omega|(simp only [List.length_take]; omega)) (bF (v:=(aY ((nth (ddL l (k+j)) ((0+k)+(j)))))) rfl h202 (cD (by first|omega|(simp only [List.length_take]; omega)) (by first|rfl|(rw [cF_eq]; rfl)|simp [ldV,V.one])) (bW (i:=((ddK l (k+j)).length)) (@rfl V (V.ms 202 v2 0 (len))) (@rfl V (iV (((ddK l (k+j)).length:Nat):Int))) h202 (eH (by first|omega|(simp only [List.length_take]; omega))) rfl (by first|omega|(simp only [List.length_take]; omega)) ?_)))))))
     refine cF (vs:=[(aY ((nth (ddL l (k+j)) ((0+k)+(j)))))]) (B':=(bz v2 38 1 (List.map cL ((ddL l (k+j)).set ((ddK l (k+j)).length) ((nth (ddL l (k+j)) ((0+k)+(j)))))))) rfl rfl rfl h202 (jS (x:=((nth (ddL l (k+j)) ((0+k)+(j))))) (i:=((ddK l (k+j)).length)) (by first|omega|(simp only [List.length_take]; omega)) rfl rfl rfl rfl) (R_e (W_t (aA t5 (bS rfl (@rfl V (iV ((1:Nat):Int))) (by first|omega|(simp only [List.length_take]; omega)) (aA rfl (R_e (n10 _ _ ?_)))))))
     refine .done (W_t (aA t7 (bS rfl (@rfl V (iV ((1:Nat):Int))) (by first|omega|(simp only [List.length_take]; omega)) (aA rfl (R_e ?_)))))
     refine p18 _ _ _ ?_ ⟨(j+1),rfl,t0,t1,(Eq.trans (@rfl V (iV ((((ddK l (k+j)).length)+1:Nat):Int))) (by first|rfl|(rw [hd.1]; done)|(rw [hall,hn]; done)|(rw [hall]; done)|(show _=iV (((ddK l ((k+j)+1)).length:Nat):Int); rw [bL (.inr d5),List.length_append]; rfl)|(show _=iV (((ddK l ((k+j)+1)).length:Nat):Int); rw [bP (by rintro (q|q); omega; exact q d5)]; done)|(rw [show k+j=l.length by omega]; done))),(Eq.trans t6 (by first|rfl|(rw [hd.1]; done)|(rw [hall,hn]; done)|(rw [hall]; done)|(show _=iV (((ddK l ((k+j)+1)).length:Nat):Int); rw [bL (.inr d5),List.length_append]; rfl)|(show _=iV (((ddK l ((k+j)+1)).length:Nat):Int); rw [bP (by rintro (q|q); omega; exact q d5)]; done)|(rw [show k+j=l.length by omega]; done))),(Eq.trans (@rfl V (iV ((j+1:Nat):Int))) (by first|rfl|(rw [hd.1]; done)|(rw [hall,hn]; done)|(rw [hall]; done)|(show _=iV (((ddK l ((k+j)+1)).length:Nat):Int); rw [bL (.inr d5),List.length_append]; rfl)|(show _=iV (((ddK l ((k+j)+1)).length:Nat):Int); rw [bP (by rintro (q|q); omega; exact q d5)]; done)|(rw [show k+j=l.length by omega]; done))),(eT hF (by decide)),h3,(Eq.trans (@rfl Blk (bz v2 38 1 (List.map cL ((ddL l (k+j)).set ((ddK l (k+j)).length) ((nth (ddL l (k+j)) ((0+k)+(j)))))))) (by first|rfl|(rw [hd.2]; done)|(rw [hall]; simp; done)|(rw [q5.1,cK (show k+j < l.length by omega) (.inr d5)]; rfl)|(rw [q5.1,cK (show k+j < l.length by omega) (.inr d5)]; done)|(show _=(⟨_,_,_,_,_,List.map cL (ddL l ((k+j)+1))⟩:Blk); rw [fH (by rintro (q|q); omega; exact q d5)]; done)|(rw [cU (show l.length≤k+j by omega) hj,show k+j=l.length by omega]; done)|(rw [cU (show l.length≤k+j by omega) hj,show k+j=l.length by omega,hn]; done))),?_,?_,?_⟩
     · omega
     · omega
     · omega
     · first|(show (ddK l ((k+j)+1)).length < (k+j)+1; rw [bL (.inr d5),List.length_append]; simp; omega)|(show (ddK l ((k+j)+1)).length < (k+j)+1; rw [bP (by rintro (q|q); omega; exact q d5)]; omega)
    have d5:nth l (k+j)=nth l (k+j - 1):=by have q:=cA.1 (Decidable.not_not.1 c11); rwa [q5.1,q5.2] at q
    refine dC (n10 _ _ (.done (W_t (aA t7 (bS rfl (@rfl V (iV ((1:Nat):Int))) (by first|omega|(simp only [List.length_take]; omega)) (aA rfl (R_e ?_)))))))
    refine p18 _ _ _ ?_ ⟨(j+1),rfl,t0,t1,(Eq.trans t5 (by first|rfl|(rw [hd.1]; done)|(rw [hall,hn]; done)|(rw [hall]; done)|(show _=iV (((ddK l ((k+j)+1)).length:Nat):Int); rw [bL (.inr d5),List.length_append]; rfl)|(show _=iV (((ddK l ((k+j)+1)).length:Nat):Int); rw [bP (by rintro (q|q); omega; exact q d5)]; done)|(rw [show k+j=l.length by omega]; done))),(Eq.trans t6 (by first|rfl|(rw [hd.1]; done)|(rw [hall,hn]; done)|(rw [hall]; done)|(show _=iV (((ddK l ((k+j)+1)).length:Nat):Int); rw [bL (.inr d5),List.length_append]; rfl)|(show _=iV (((ddK l ((k+j)+1)).length:Nat):Int); rw [bP (by rintro (q|q); omega; exact q d5)]; done)|(rw [show k+j=l.length by omega]; done))),(Eq.trans (@rfl V (iV ((j+1:Nat):Int))) (by first|rfl|(rw [hd.1]; done)|(rw [hall,hn]; done)|(rw [hall]; done)|(show _=iV (((ddK l ((k+j)+1)).length:Nat):Int); rw [bL (.inr d5),List.length_append]; rfl)|(show _=iV (((ddK l ((k+j)+1)).length:Nat):Int); rw [bP (by rintro (q|q); omega; exact q d5)]; done)|(rw [show k+j=l.length by omega]; done))),hF,h3,(Eq.trans h202 (by first|rfl|(rw [hd.2]; done)|(rw [hall]; simp; done)|(rw [q5.1,cK (show k+j < l.length by omega) (.inr d5)]; rfl)|(rw [q5.1,cK (show k+j < l.length by omega) (.inr d5)]; done)|(show _=(⟨_,_,_,_,_,List.map cL (ddL l ((k+j)+1))⟩:Blk); rw [fH (by rintro (q|q); omega; exact q d5)]; done)|(rw [cU (show l.length≤k+j by omega) hj,show k+j=l.length by omega]; done)|(rw [cU (show l.length≤k+j by omega) hj,show k+j=l.length by omega,hn]; done))),?_,?_,?_⟩
    · omega
    · omega
    · omega
    · first|(show (ddK l ((k+j)+1)).length < (k+j)+1; rw [bL (.inr d5),List.length_append]; simp; omega)|(show (ddK l ((k+j)+1)).length < (k+j)+1; rw [bP (by rintro (q|q); omega; exact q d5)]; omega)
   refine aT (p38 _ _ _ (x7 _ _ (.done (W_r (aA t0 (aA t5 (iF (n:=((ddK l (k+j)).length)) (@rfl V (V.ms 202 v2 0 (len))) (@rfl V (iV (((ddK l (k+j)).length:Nat):Int))) h202 (eH (by first|omega|(simp only [List.length_take]; omega))) rfl (by first|omega|(simp only [List.length_take]; omega)) ?_)))))))
   refine aKH (m:=(((ddK l (k+j)).length))) (n:=(len - ((ddK l (k+j)).length))) (f:=cL) (l:=(ddL l (k+j))) (Eq.trans (@rfl V (V.ms 202 v2 (0+((ddK l (k+j)).length)) (len - ((ddK l (k+j)).length)))) (congrArg (fun n=>V.ms 202 v2 n (len - ((ddK l (k+j)).length))) (Nat.zero_add _))) h202 rfl (by decide) rfl (by first|omega|(simp only [List.length_take]; omega)) (by first|omega|(simp only [List.length_take]; omega)) (R_e (W_r (aA t0 (aA t5 (nN (n:=((ddK l (k+j)).length)) (@rfl V (V.ms 202 v2 0 (len))) (@rfl V (iV (((ddK l (k+j)).length:Nat):Int))) (@rfl Blk (bz v2 38 1 (List.map cL (List.take (((ddK l (k+j)).length)) (ddL l (k+j)))++List.replicate (len - ((ddK l (k+j)).length)) [V.nilsl]))) (jZ (by first|omega|(simp only [List.length_take]; omega))) rfl (by first|omega|(simp only [List.length_take]; omega)) (aA rfl (R_e ?_)))))))
   refine bI (y5 _ _ (p23 _ _ (y2 _ _ (cZ (R:=fun T H=>T 4=(V.ms 202 v2 0 ((ddK l (k+j)).length))∧(∀ j,j∉[202]→H j=Hi j)∧H 3=(bk v3 255 1 [[(V.fn 169 [] [])]])∧H 202=(bz v2 38 1 (List.map cL (List.take (((ddK l (k+j)).length)) (ddL l (k+j)))++List.replicate (len - ((ddK l (k+j)).length)) [V.nilsl]))∧True) ⟨(@rfl V (V.ms 202 v2 0 ((ddK l (k+j)).length))),(eT hF (by decide)),h3,rfl,trivial⟩ ?_))))
   intro T H ⟨t4,hF,h3,h202,_⟩
   skip
   have fh:=fA.fin (fA.put (B:=(bz v2 38 1 (List.map cL (ddK l l.length)++List.replicate (l.length - (ddK l l.length).length) [V.nilsl]))) (fA.start hF) h202 (jL.eq (by first|rfl|(rw [hd.2]; done)|(rw [hall]; simp; done)|(rw [q5.1,cK (show k+j < l.length by omega) (.inr d5)]; rfl)|(rw [q5.1,cK (show k+j < l.length by omega) (.inr d5)]; done)|(show _=(⟨_,_,_,_,_,List.map cL (ddL l ((k+j)+1))⟩:Blk); rw [fH (by rintro (q|q); omega; exact q d5)]; done)|(rw [cU (show l.length≤k+j by omega) hj,show k+j=l.length by omega]; done)|(rw [cU (show l.length≤k+j by omega) hj,show k+j=l.length by omega,hn]; done))))
   exact jN t4 fh (fG.trans_eq (fG.same fh _) (by first|rfl|(rw [hd.1]; done)|(rw [hall,hn]; done)|(rw [hall]; done)|(show _=iV (((ddK l ((k+j)+1)).length:Nat):Int); rw [bL (.inr d5),List.length_append]; rfl)|(show _=iV (((ddK l ((k+j)+1)).length:Nat):Int); rw [bP (by rintro (q|q); omega; exact q d5)]; done)|(rw [show k+j=l.length by omega]; done)))
  have d1:nth l k≠nth l (k - 1):=fun q=>c6 (cA.2 (by rw [show (((k:Nat):Int) - (1:Int)).toNat=k - 1 by omega]; exact q))
  refine dC (n5 _ _ (.done (W_t (aA t5 (bS rfl (@rfl V (iV ((1:Nat):Int))) (by first|omega|(simp only [List.length_take]; omega)) (aA rfl (R_e ?_)))))))
  refine p13 _ _ _ ?_ ⟨(k+1),rfl,t0,t1,(Eq.trans (@rfl V (iV ((k+1:Nat):Int))) (by first|rfl|(rw [hd.1]; done)|(rw [hall,hn]; done)|(rw [hall]; done)|(show _=iV (((ddK l ((k+j)+1)).length:Nat):Int); rw [bL (.inr d5),List.length_append]; rfl)|(show _=iV (((ddK l ((k+j)+1)).length:Nat):Int); rw [bP (by rintro (q|q); omega; exact q d5)]; done)|(rw [show k+j=l.length by omega]; done))),hF,h3,h202,?_,?_,?_⟩
  · omega
  · omega
  · omega
  · intro i i1 i2
    by_cases e:i=k
    · subst e; exact d1
    · exact hc i i1 (by omega)
 refine aT (p33 _ _ _ (x2 _ _ (.done (W_r (aA t0 (aA rfl (R_e ?_)))))))
 refine bI (cZ (R:=fun T H=>T 4=(V.ms 202 v2 0 (len))∧(∀ j,j∉[202]→H j=Hi j)∧H 3=(bk v3 255 1 [[(V.fn 169 [] [])]])∧H 202=(bz v2 38 1 (List.map cL (l)))∧True) ⟨(@rfl V (V.ms 202 v2 0 (len))),hF,h3,h202,trivial⟩ ?_)
 intro T H ⟨t4,hF,h3,h202,_⟩
 have hall:=aAd (l:=l) (fun i i1 i2=>hc i i1 (by omega))
 have fh:=fA.fin (fA.put (B:=(bz v2 38 1 (List.map cL (ddK l l.length)++List.replicate (l.length - (ddK l l.length).length) [V.nilsl]))) (fA.start hF) h202 (jL.eq (by first|rfl|(rw [hd.2]; done)|(rw [hall]; simp; done)|(rw [q5.1,cK (show k+j < l.length by omega) (.inr d5)]; rfl)|(rw [q5.1,cK (show k+j < l.length by omega) (.inr d5)]; done)|(show _=(⟨_,_,_,_,_,List.map cL (ddL l ((k+j)+1))⟩:Blk); rw [fH (by rintro (q|q); omega; exact q d5)]; done)|(rw [cU (show l.length≤k+j by omega) hj,show k+j=l.length by omega]; done)|(rw [cU (show l.length≤k+j by omega) hj,show k+j=l.length by omega,hn]; done))))
 exact jN t4 fh (fG.trans_eq (fG.same fh _) (by first|rfl|(rw [hd.1]; done)|(rw [hall,hn]; done)|(rw [hall]; done)|(show _=iV (((ddK l ((k+j)+1)).length:Nat):Int); rw [bL (.inr d5),List.length_append]; rfl)|(show _=iV (((ddK l ((k+j)+1)).length:Nat):Int); rw [bP (by rintro (q|q); omega; exact q d5)]; done)|(rw [show k+j=l.length by omega]; done)))
end Go.Proofs.YtilfohjlglefjaaGreat
namespace Go.Proofs.YtilfohjlglefjaaGreat
open Go Go.Sort Go.Proofs Go.Shelf
theorem R.pure_same {x y:Cx} {v:V} {c:Value} (h:R x v c) (hp:v.pure=true) (hw: ∀ b,x.Z b→y.w.heap[b]?=x.w.heap[b]?) (hz: ∀ b,x.Z b→y.Z b):R y v c:=by
  have keep: ∀ a:Addr,x.Z a.block→ ∀ n,y.w.cell? (a.add n)=x.w.cell? (a.add n):=fun a ha n=>by
    refine qB ?_
    rw [eU]; exact hw _ ha
  induction h with
  |int k n=>exact .int k n
  |bool b=>exact .bool b
  |str s=>exact .str s
  |nilsl=>exact .nilsl
  |slnil=>exact .slnil
  | sl rows a cap sz cs hc hm hzz hsz hcell _ ih =>
    simp only [V.pure] at hp
    refine .sl rows a cap sz cs hc hm (fun hne=>hz _ (hzz hne)) hsz (fun r row j v hr hj=>by rw [keep a (hzz (by intro e; subst e; simp at hr))]; exact hcell r row j v hr hj) fun r row j v hr hj=>ih r row j v hr hj ?_
    exact cO.1 (gC.1 hp row (List.mem_of_getElem? hr)) v (List.mem_of_getElem? hj)
  |ms=>simp [V.pure] at hp
  | pp cells a cs hzz hcell _ ih =>
    simp only [V.pure] at hp
    exact .pp cells a cs (fun hne=>hz _ (hzz hne)) (fun j v hj=>by rw [keep a (hzz (by intro e; subst e; simp at hj))]; exact hcell j v hj) fun j v hj=>ih j v hj (cO.1 hp v (List.mem_of_getElem? hj))
  |nilp=>exact .nilp
  |mp=>simp [V.pure] at hp
  | agg cells cs hs _ ih =>
    simp only [V.pure] at hp
    exact .agg cells cs hs fun j v hj=>ih j v hj (cO.1 hp v (List.mem_of_getElem? hj))
  | tup vs cs hs _ ih =>
    simp only [V.pure] at hp
    exact .tup vs cs hs fun j v hj=>ih j v hj (cO.1 hp v (List.mem_of_getElem? hj))
  | fn f first caps fs cs hfs hcs _ _ ih1 ih2 =>
    simp only [V.pure,Bool.and_eq_true] at hp
    exact .fn f first caps fs cs hfs hcs (fun j v hj=>ih1 j v hj (cO.1 hp.1 v (List.mem_of_getElem? hj))) fun j v hj=>ih2 j v hj (cO.1 hp.2 v (List.mem_of_getElem? hj))
  |raw c hh=>exact .raw c hh
  |mm=>simp [V.pure] at hp
theorem aE3 {x:Cx} (hx:Inv x) (os:Array Obj):let y:Cx:={x with w:=Go.Sort.grow x.w os}; Inv y∧Frame x y:=by
  intro y
  have hp: ∀ b,b < x.w.heap.size→y.w.heap[b]?=x.w.heap[b]?:=fun b hb=>by
    show (x.w.heap++os)[b]?=_
    rw [Array.getElem?_append,if_pos hb]
  have hs:x.w.heap.size≤y.w.heap.size:=by show _≤(x.w.heap++os).size; simp
  have hf:Frame x y:=by
    refine ⟨rfl,rfl,rfl,hs,fun b hb _=>hp b hb,fun _ h=>h,fun b h=>.inl h,fun id=>⟨Nat.le_refl _,fun h _=>⟨h,rfl,rfl,fun _=>rfl,fun h=>⟨rfl,?_⟩⟩⟩,fun _ h=>.inl ⟨h,rfl⟩,Nat.le_refl _,fun _ _ _=>rfl⟩
    unfold bY; rw [hp _ (hx.lt h)]
  refine ⟨⟨fun b h=>Nat.lt_of_lt_of_le (hx.zlt b h) hs,hx.zown,fun id hl=>?_,hx.inj,hx.tab_of hf⟩,hf⟩
  obtain ⟨cc,h1,h2,h3,h4⟩:=hx.blk id hl
  exact ⟨cc,by rw [hp _ (hx.lt hl)]; exact h1,h2,h3,fun r row j v hr hj=>(h4 r row j v hr hj).frame hx hf⟩
def aB5 (P:Program) (f:Nat):Prop:= ∀ (p:Option Addr) (cap:Nat) (fv:Value) (w:World),Calls P f #[.slice p 0 cap,fv] w fun e w'=>e=.returned (.tuple #[])∧w'=w
theorem tC {P:Program} {g:Nat} (h:cJ P g): ∀ args w,(callFunc g args).run P w=.ok (.enter g args) w:=by
  obtain ⟨fn,h1,h2,h3⟩:=h
  obtain ⟨c,hc⟩:=Option.isSome_iff_exists.1 h2
  exact enters_of h1 h3 hc
theorem uU {z y:Cx} (hf:Frame z y) (hno: ∀ id,(z.H id).own=false): ∃ q os,y.w=grow (z.w.drewN q) os:=by
  refine ⟨y.w.drawn - z.w.drawn,y.w.heap.extract z.w.heap.size y.w.heap.size,?_⟩
  have e1:=hf.os; have e2:=hf.tape; have e3:=hf.output; have e4:=hf.drawn; have e5:=hf.size
  have e6:y.w.heap=z.w.heap++y.w.heap.extract z.w.heap.size y.w.heap.size:=by
    refine Array.ext_getElem? fun b=>?_
    rw [Array.getElem?_append]
    split
    · rename_i hb
      exact hf.keep b hb fun id h=>by rw [hno id] at h; cases h
    · rename_i hb
      rw [Array.getElem?_extract]
      by_cases h:b < y.w.heap.size
      · rw [if_pos (by omega)]; congr 1; omega
      · rw [if_neg (by omega),Array.getElem?_eq_none (by omega)]
  have e7:y.w.drawn=z.w.drawn+(y.w.drawn - z.w.drawn):=by omega
  unfold grow World.drewN
  cases hy:y.w with
  | mk heap tape drawn os output =>
    rw [hy] at e1 e2 e3 e6 e7
    simp only at e1 e2 e3 e6 e7 ⊢
    rw [← e6,← e7,e1,e2,e3]
section
variable {P:Program} {α:Type} [Inhabited α] {enc:α→List Value} {k:Nat} {w:World} {blk off m:Nat} {dk:Array α} {os:Array Obj}
end
theorem nZ {α:Type} [Inhabited α] (d:Array α) (i:Nat) (h:i < d.size):d[i]! =nth d.toList i:=by
  rw [getElem!_pos d i h,← aQ (by simpa using h)]; rfl
section
variable {P:Program}
end
end Go.Proofs.YtilfohjlglefjaaGreat
