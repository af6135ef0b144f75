/- Contracts of the functions that the law TA reaches, and the law itself, for every input; no condition. -/
import Derived.KernelRfl
import Derived.Test.YtilfohjlglefjaaGreatProg
import Derived.Sort.Statements
import Derived.Shelf.SlSortCmp.KitK
import Derived.Test.YtilfohjlglefjaaGreatLay3
set_option linter.unusedSimpArgs false
set_option linter.unusedVariables false
namespace Go.Proofs.YtilfohjlglefjaaGreat
open Go
def fe (e:Nat→Int) (k:Nat):Nat→Int
  |0=>0
  |n+1=>if e k=0 then fe e (k+1) n else e k
theorem gW {e:Nat→Int} {k N:Nat} (h:e k≠0) (hk:k < N):fe e k (N - k)=e k:=by
  obtain ⟨n,hn⟩: ∃ n,N - k=n+1:=⟨N - k - 1,by omega⟩
  rw [hn]; simp [fe,h]
theorem lS {e:Nat→Int} {k N:Nat} (h:e k=0) (hk:k < N):fe e k (N - k)=fe e (k+1) (N - (k+1)):=by
  obtain ⟨n,hn⟩: ∃ n,N - k=n+1:=⟨N - k - 1,by omega⟩
  rw [hn,show N - (k+1)=n by omega]; simp [fe,h]
theorem oW {e:Nat→Int} {k N:Nat} (hk:N≤k):fe e k (N - k)=0:=by
  rw [show N - k=0 by omega]; rfl
theorem cE {e : Nat → Int} : ∀ {n k : Nat}, fe e k n = 0 ↔ ∀ j, k ≤ j → j < k + n → e j = 0 := by
  intro n
  induction n with
  |zero=>intro k; simp only [fe,true_iff]; intro j h1 h2; omega
  | succ n ih =>
    intro k
    simp only [fe]
    split
    · rename_i h
      rw [ih]
      constructor
      · intro hh j h1 h2
        by_cases hj:j=k
        · subst hj; exact h
        · exact hh j (by omega) (by omega)
      · intro hh j h1 h2; exact hh j (by omega) (by omega)
    · rename_i h
      constructor
      · intro hh; exact (h hh).elim
      · intro hh; exact hh k (Nat.le_refl _) (by omega)
def fi (p:Nat→Bool) (k:Nat):Nat→Int
  |0=> -1
  |n+1=>if p k then k else fi p (k+1) n
theorem aQp {p:Nat→Bool} {k N:Nat} (h:p k=true) (hk:k < N):fi p k (N - k)=k:=by
  obtain ⟨n,hn⟩: ∃ n,N - k=n+1:=⟨N - k - 1,by omega⟩
  rw [hn]; simp [fi,h]
theorem aIv {p:Nat→Bool} {k N:Nat} (h:p k=false) (hk:k < N):fi p k (N - k)=fi p (k+1) (N - (k+1)):=by
  obtain ⟨n,hn⟩: ∃ n,N - k=n+1:=⟨N - k - 1,by omega⟩
  rw [hn,show N - (k+1)=n by omega]; simp [fi,h]
theorem iG {α:Type} [Inhabited α] {l:List α} {k:Nat} (h:k < l.length):l.take (k+1)=l.take k++[nth l k]:=by
  rw [← aM h,List.take_succ_eq_append_getElem h]
def wE (w:List Int) (n:Int) (k:Nat):Int:=if nth w k < 0∨n≤nth w k then 1 else 0
def dX (w:List Int) (n:Int):Int:=
  if n < 1∨1024 < n then 2 else if 1024 < w.length then 3 else fe (wE w n) 0 w.length
structure M where
  i:Int
  s:Int
  nx:List (List Int)
  ot:List (List Int)
def cell (l:List (List Int)) (s a:Int):Int:=nth (nth l s.toNat) a.toNat
def aDb (m:M) (s a:Nat):Int:=if nth (nth m.nx s) a < 0∨m.nx.length≤nth (nth m.nx s) a∨nth (nth m.ot s) a < 0∨1048576 < nth (nth m.ot s) a then 2 else 0
def aAK (m:M) (s:Nat):Int:=
  if ((nth m.nx s).length:Int)≠m.i∨((nth m.ot s).length:Int)≠m.i then 1
  else fe (aDb m s) 0 m.i.toNat
def dU (m:M):Int:=
  if m.i < 1∨64 < m.i then 2 else if m.nx.length=0 then 19 else if 128 < m.nx.length then 11 else if m.s < 0∨m.nx.length≤m.s then 2
  else if m.ot.length≠m.nx.length then 1 else fe (aAK m) 0 m.nx.length
def bI (m:M):Int→List Int→List Int
  |_,[]=>[]
  |s,a::w=>cell m.ot s a::bI m (cell m.nx s a) w
def oR (m:M):Int→List Int→Int
  |s,[]=>s
  |s,a::w=>oR m (cell m.nx s a) w
theorem aBs (m:M): ∀ (w:List Int) (s:Int),(bI m s w).length=w.length
  |[],_=>rfl
  |a::w,s=>by simp [bI,aBs m w]
theorem gH (m:M): ∀ (u v:List Int) (s:Int),bI m s (u++v)=bI m s u++bI m (oR m s u) v
  |[],_,_=>rfl
  |a::u,v,s=>by simp [bI,oR,gH m u v]
theorem mR (m:M): ∀ (u v:List Int) (s:Int),oR m s (u++v)=oR m (oR m s u) v
  |[],_,_=>rfl
  |a::u,v,s=>by simp [oR,mR m u v]
theorem iW {m:M} (h:dU m=0):1≤m.i∧m.i≤64∧0 < m.nx.length∧m.nx.length≤128∧0≤m.s∧m.s < m.nx.length∧m.ot.length=m.nx.length∧
    (∀ s,s < m.nx.length→((nth m.nx s).length:Int)=m.i∧((nth m.ot s).length:Int)=m.i∧ ∀ a:Nat,a < m.i→0≤nth (nth m.nx s) a∧nth (nth m.nx s) a < m.nx.length∧0≤nth (nth m.ot s) a∧nth (nth m.ot s) a≤1048576):=by
  unfold dU at h
  split at h; · cases h
  rename_i h1
  split at h; · cases h
  rename_i h2
  split at h; · cases h
  rename_i h3
  split at h; · cases h
  rename_i h4
  split at h; · cases h
  rename_i h5
  refine ⟨by omega,by omega,by omega,by omega,by omega,by omega,by omega,fun s hs=>?_⟩
  have h6:=cE.1 h s (Nat.zero_le _) (by omega)
  unfold aAK at h6
  split at h6; · cases h6
  rename_i h7
  refine ⟨by omega,by omega,fun a ha=>?_⟩
  have h8:=cE.1 h6 a (Nat.zero_le _) (by omega)
  unfold aDb at h8
  split at h8
  · cases h8
  · omega
theorem qB {w:List Int} {n:Int} (h:dX w n=0):w.length≤1024∧ ∀ k,k < w.length→0≤nth w k∧nth w k < n:=by
  unfold dX at h
  split at h; · cases h
  split at h; · cases h
  refine ⟨by omega,fun k hk=>?_⟩
  have:=cE.1 h k (Nat.zero_le _) (by omega)
  unfold wE at this
  split at this
  · cases this
  · omega
structure Hy where
  m:M
  acc:List (List Int)
abbrev hC (h:Hy):List V:=[iV h.m.i,iV h.m.s,aB h.m.nx,aB h.m.ot,aB h.acc]
abbrev hV (h:Hy):V:=.agg (hC h)
abbrev hB (h:Hy):Blk:=⟨1,true,false,26,5,[hC h]⟩
def aRx (h:Hy) (s:Nat):Int:=
  if dX (nth h.acc s) h.m.i≠0 then dX (nth h.acc s) h.m.i else if oR h.m h.m.s (nth h.acc s)≠s then 15 else 0
def tK (h:Hy):Int:=
  if dU h.m≠0 then dU h.m else if h.acc.length≠h.m.nx.length then 1
  else if fe (aRx h) 0 h.acc.length≠0 then fe (aRx h) 0 h.acc.length else if (nth h.acc h.m.s.toNat).length≠0 then 10 else 0
end Go.Proofs.YtilfohjlglefjaaGreat
namespace Go.Proofs.YtilfohjlglefjaaGreat
open Go
def cmn:List Int→List Int→Nat
  |a::l,b::m=>if a=b then cmn l m+1 else 0
  |_,_=>0
theorem eA {α:Type} [Inhabited α] (a:α) (l:List α):nth (a::l) 0=a:=rfl
theorem jU {α:Type} [Inhabited α] (a:α) (l:List α) (k:Nat):nth (a::l) (k+1)=nth l k:=rfl
theorem dJ: ∀ (a b:List Int),cmn a b≤a.length∧cmn a b≤b.length∧(∀ j,j < cmn a b→nth a j=nth b j)∧(cmn a b < a.length→cmn a b < b.length→nth a (cmn a b)≠nth b (cmn a b))
  |[],b=>by simp [cmn]
  |a::l,[]=>by simp [cmn]
  | a :: l, b :: m => by
    obtain ⟨h1,h2,h3,h4⟩:=dJ l m
    by_cases e:a=b
    · subst e
      simp only [cmn,if_true,List.length_cons]
      refine ⟨by omega,by omega,fun j hj=>?_,fun g1 g2=>by simpa [jU] using h4 (by omega) (by omega)⟩
      cases j with
      |zero=>rfl
      |succ j=>simpa [jU] using h3 j (by omega)
    · simp only [cmn,if_neg e,List.length_cons]
      exact ⟨by omega,by omega,fun j hj=>by omega,fun _ _=>e⟩
theorem rD (a b:List Int):cmn a b≤a.length:=(dJ a b).1
theorem zB (a b:List Int):cmn a b≤b.length:=(dJ a b).2.1
theorem mK {a b:List Int} {k:Nat} (hc:k≤cmn a b) (ha:k < a.length) (hb:k < b.length) (e:nth a k=nth b k):k+1≤cmn a b:=by
  obtain ⟨h1,h2,h3,h4⟩:=dJ a b
  by_cases h:k=cmn a b
  · subst h; exact (h4 ha hb e).elim
  · omega
theorem iS {a b:List Int} {k:Nat} (hc:k≤cmn a b) (h:a.length≤k∨b.length≤k∨nth a k≠nth b k):cmn a b=k:=by
  obtain ⟨h1,h2,h3,h4⟩:=dJ a b
  by_cases e:k=cmn a b
  · exact e.symm
  · have h5:=h3 k (by omega)
    rcases h with h|h|h
    · omega
    · omega
    · exact (h h5).elim
theorem gK (a b:List Int):cmn a b=cmn b a:=by
  obtain ⟨h1,h2,h3,h4⟩:=dJ b a
  refine iS ?_ ?_
  · have: ∀ k,k≤cmn b a→k≤cmn a b:=by
      intro k
      induction k with
      |zero=>intro _; exact Nat.zero_le _
      |succ k ih=>intro h; exact mK (ih (by omega)) (by omega) (by omega) (h3 k (by omega)).symm
    exact this _ (Nat.le_refl _)
  · by_cases g1:a.length≤cmn b a
    · exact .inl g1
    · by_cases g2:b.length≤cmn b a
      · exact .inr (.inl g2)
      · exact .inr (.inr fun e=>h4 (by omega) (by omega) e.symm)
theorem aHf (a:List Int):cmn a a=a.length:=by
  induction a with
  |nil=>rfl
  |cons x l ih=>simp [cmn,ih]
theorem kX {α:Type} [Inhabited α] {l:List α} {n j:Nat} (h:j < n):nth (l.take n) j=nth l j:=by
  simp only [nth,List.getD_eq_getElem?_getD,List.getElem?_take,if_pos h]
theorem rH {α:Type} [Inhabited α] {l:List α} {n j:Nat}:nth (l.drop n) j=nth l (n+j):=by
  simp only [nth,List.getD_eq_getElem?_getD,List.getElem?_drop]
theorem bD {α:Type} [Inhabited α] {l m:List α} {j:Nat} (h:j < l.length):nth (l++m) j=nth l j:=by
  simp only [nth,List.getD_eq_getElem?_getD,List.getElem?_append_left h]
theorem cO {α:Type} [Inhabited α] {l m:List α} {j:Nat}:nth (l++m) (l.length+j)=nth m j:=by
  simp only [nth,List.getD_eq_getElem?_getD,List.getElem?_append_right (Nat.le_add_right _ _),Nat.add_sub_cancel_left]
theorem aEi {α β:Type} [Inhabited α] [Inhabited β] {f:α→β} {l:List α} {j:Nat} (h:j < l.length):nth (l.map f) j=f (nth l j):=by
  rw [← aM (by simpa using h),← aM h,List.getElem_map]
theorem bF {α:Type} [Inhabited α] {l:List α} {j:Nat} (h:j < l.length):nth l j∈l:=by
  rw [← aM h]; exact List.getElem_mem h
theorem dP {α:Type} [Inhabited α] {l:List α} {x:α} (h:x∈l): ∃ j,j < l.length∧nth l j=x:=by
  obtain ⟨j,hj,e⟩:=List.getElem_of_mem h
  exact ⟨j,hj,by rw [← aM hj]; exact e⟩
theorem jC {α:Type} [Inhabited α] {l m:List α} (h1:l.length=m.length) (h2: ∀ j,j < l.length→nth l j=nth m j):l=m:=by
  refine List.ext_getElem h1 fun j g1 g2=>?_
  rw [aM g1,aM g2]; exact h2 j g1
def aZ (a b:List Int):Int:=
  if cmn a b=a.length∧cmn a b=b.length then 0
  else if cmn a b=a.length∨(cmn a b < b.length∧nth a (cmn a b) < nth b (cmn a b)) then -1 else 1
def slx (a b:List Int):Int:=if a.length < b.length then -1 else if b.length < a.length then 1 else aZ a b
def pN (x y:Int):Int:=if x < y then -1 else if y < x then 1 else 0
def orI:List Int→Int
  |[]=>0
  |x::l=>if x=0 then orI l else x
theorem aBC {l:List Int} {k:Nat} (h:k < l.length):orI (l.drop k)=if nth l k=0 then orI (l.drop (k+1)) else nth l k:=by
  rw [aBF h]; rfl
theorem yU {x y:Int}:pN x y=0↔x=y:=by
  unfold pN; split
  · omega
  · split <;> omega
theorem aE7 {a b:List Int} (h1:cmn a b=a.length) (h2:cmn a b=b.length):a=b:=
  jC (by omega) fun j hj=>(dJ a b).2.2.1 j (by omega)
theorem bZ {a b:List Int}:aZ a b=0↔a=b:=by
  unfold aZ
  constructor
  · intro h
    split at h
    · rename_i g; exact aE7 g.1 g.2
    · split at h <;> omega
  · intro e; subst e; rw [aHf]; simp
theorem eL {a b:List Int}:slx a b=0↔a=b:=by
  unfold slx
  split
  · rename_i h; constructor
    · intro h; omega
    · intro e; subst e; omega
  · split
    · rename_i h; constructor
      · intro h; omega
      · intro e; subst e; omega
    · exact bZ
theorem vK {a b:List Int} (h:aZ a b < 0):0 < aZ b a:=by
  unfold aZ at h ⊢
  obtain ⟨h1,h2,h3,h4⟩:=dJ a b
  rw [gK b a]
  split at h
  · omega
  · split at h
    · rename_i g1 g2
      rw [if_neg (by omega),if_neg (by omega)]; omega
    · omega
theorem aAW {a b:List Int} (h:slx a b < 0):0 < slx b a:=by
  unfold slx at h ⊢
  split at h
  · rw [if_neg (by omega),if_pos (by omega)]; omega
  · split at h
    · omega
    · rw [if_neg (by omega),if_neg (by omega)]; exact vK h
theorem aBI (a b:List Int):aZ a b=0∨aZ a b= -1∨aZ a b=1:=by
  unfold aZ; split
  · simp
  · split <;> simp
theorem rC {a b:List Int} (h:0 < aZ a b):aZ b a < 0:=by
  unfold aZ at h ⊢
  obtain ⟨h1,h2,h3,h4⟩:=dJ a b
  rw [gK b a]
  split at h
  · omega
  · split at h
    · omega
    · rename_i g1 g2
      rw [if_neg (by omega),if_pos]; · omega
      by_cases g3:cmn a b=b.length
      · exact .inl g3
      · have:=h4 (by omega) (by omega); right; omega
theorem aJs {a b:List Int} (h:0 < slx a b):slx b a < 0:=by
  unfold slx at h ⊢
  split at h
  · omega
  · split at h
    · rw [if_pos (by omega)]; omega
    · rw [if_neg (by omega),if_neg (by omega)]; exact rC h
theorem pS {a b c:List Int}:min (cmn a b) (cmn b c)≤cmn a c:=by
  have: ∀ k,k≤min (cmn a b) (cmn b c)→k≤cmn a c:=by
    intro k
    induction k with
    |zero=>intro _; exact Nat.zero_le _
    | succ k ih =>
      intro h
      obtain ⟨g1,g2,g3,_⟩:=dJ a b
      obtain ⟨f1,f2,f3,_⟩:=dJ b c
      exact mK (ih (by omega)) (by omega) (by omega) ((g3 k (by omega)).trans (f3 k (by omega)))
  exact this _ (Nat.le_refl _)
theorem jJ {a b c : List Int} (h1 : aZ a b < 0) (h2 : aZ b c < 0) : aZ a c < 0 := by
  obtain ⟨g1,g2,g3,g4⟩:=dJ a b
  obtain ⟨f1,f2,f3,f4⟩:=dJ b c
  obtain ⟨e1,e2,e3,e4⟩:=dJ a c
  have m:=pS (a:=a) (b:=b) (c:=c)
  unfold aZ at h1 h2 ⊢
  split at h1; · omega
  split at h1
  · split at h2; · omega
    split at h2
    · rename_i p1 p2 p3 p4
      by_cases q:cmn a b < cmn b c
      · -- the first difference is that of a and b
        have hb:cmn a b < b.length:=by omega
        have e:cmn a c=cmn a b:=by
          refine iS (by omega) ?_
          by_cases r:a.length≤cmn a b
          · exact .inl r
          · refine .inr (.inr ?_)
            rw [← f3 _ q]; exact g4 (by omega) hb
        rw [if_neg (by omega),if_pos]; · omega
        rw [e]
        by_cases r:cmn a b=a.length
        · exact .inl r
        · right
          refine ⟨by omega,?_⟩
          rw [← f3 _ q]
          omega
      · by_cases q':cmn b c < cmn a b
        · have e:cmn a c=cmn b c:=by
            refine iS (by omega) ?_
            by_cases r:c.length≤cmn b c
            · exact .inr (.inl r)
            · refine .inr (.inr ?_)
              rw [g3 _ q']; exact f4 (by omega) (by omega)
          rw [if_neg (by omega),if_pos]; · omega
          rw [e]; right
          refine ⟨by omega,?_⟩
          rw [g3 _ q']; omega
        · have e0:cmn a b=cmn b c:=by omega
          by_cases r:cmn a b=a.length
          · rw [if_neg,if_pos]; · omega
            · left; omega
            · intro hh
              omega
          · have hlt:nth a (cmn a b) < nth c (cmn a b):=by
              have x1:nth a (cmn a b) < nth b (cmn a b):=by omega
              have x2:nth b (cmn a b) < nth c (cmn a b):=by rw [e0] at x1 ⊢; omega
              omega
            have e:cmn a c=cmn a b:=iS (by omega) (.inr (.inr (by omega)))
            rw [if_neg (by omega),if_pos]; · omega
            right; rw [e]; exact ⟨by omega,hlt⟩
    · omega
  · omega
theorem kY {a b c : List Int} (h1 : slx a b < 0) (h2 : slx b c < 0) : slx a c < 0 := by
  unfold slx at h1 h2 ⊢
  split at h1
  · split at h2
    · rw [if_pos (by omega)]; omega
    · split at h2
      · omega
      · rw [if_pos (by omega)]; omega
  · split at h1
    · omega
    · split at h2
      · rw [if_pos (by omega)]; omega
      · split at h2
        · omega
        · rw [if_neg (by omega),if_neg (by omega)]; exact jJ h1 h2
theorem aMH {a b c:List Int} (h1:slx a b≤0) (h2:slx b c≤0):slx a c≤0:=by
  by_cases e1:slx a b=0
  · rw [eL.1 e1]; exact h2
  · by_cases e2:slx b c=0
    · rw [← eL.1 e2]; exact h1
    · have:=kY (a:=a) (b:=b) (c:=c) (by omega) (by omega); omega
theorem aCs {a b:List Int} (h1:slx a b≤0) (h2:slx b a≤0):a=b:=by
  by_cases e:slx a b=0
  · exact eL.1 e
  · have:=aAW (a:=a) (b:=b) (by omega); omega
def exB (p:Nat→Bool) (k:Nat):Nat→Bool
  |0=>false
  |n+1=>exB p k n||p (k+n)
structure Tr where
  ni:List Int
  no:List Int
  deriving Inhabited
abbrev cT (t:Tr):List V:=[aS t.ni,aS t.no]
@[simp] theorem aLn (l:List Tr):cP (l.map cT)=true:=cS _ _ fun a=>by simp [cT]
structure Ob where
  i:Int
  tr:List Tr
  deriving Inhabited
def hp (w p:List Int):Bool:=decide (cmn w p=p.length)
theorem aAc {w p:List Int}:hp w p=true↔ ∃ x,w=p++x:=by
  simp only [hp,decide_eq_true_eq]
  constructor
  · intro h
    refine ⟨w.drop p.length,?_⟩
    have e:w.take p.length=p:=by
      have hl:=rD w p
      refine jC (by simp; omega) fun j hj=>?_
      simp at hj
      rw [kX (by omega)]
      exact (dJ w p).2.2.1 j (by omega)
    conv=>lhs; rw [← List.take_append_drop p.length w,e]
  · rintro ⟨x,rfl⟩
    refine iS ?_ (.inr (.inl (Nat.le_refl _)))
    have: ∀ k,k≤p.length→k≤cmn (p++x) p:=by
      intro k
      induction k with
      |zero=>intro _; exact Nat.zero_le _
      |succ k ih=>intro h; exact mK (ih (by omega)) (by simp; omega) (by omega) (bD (by omega))
    exact this _ (Nat.le_refl _)
def aUh (t:Tr) (k:Nat):Int:=if nth t.no k < 0∨1048576 < nth t.no k then 2 else 0
def prE (t:Tr) (n:Int):Int:=if dX t.ni n≠0 then dX t.ni n else if t.no.length≠t.ni.length then 1 else fe (aUh t) 0 t.no.length
def dfE (a b:Tr) (k:Nat):Bool:=decide (nth a.no k≠nth b.no k)
def df (a b:Tr):Int:=fi (dfE a b) 0 (cmn a.ni b.ni)
def trE (o:Ob) (k:Nat):Int:=
  if dX (nth o.tr k).ni o.i≠0 then dX (nth o.tr k).ni o.i else if (nth o.tr k).ni.length=0 then 19 else if prE (nth o.tr k) o.i≠0 then prE (nth o.tr k) o.i
  else if 0 < k∧0≤slx (nth o.tr (k - 1)).ni (nth o.tr k).ni then 10 else 0
def aUk (o:Ob) (i k:Nat):Bool:=hp (nth o.tr k).ni (nth o.tr i).ni
def aUq (o:Ob) (i k:Nat):Bool:=decide (0≤df (nth o.tr i) (nth o.tr k))
def apE (o:Ob) (i:Nat):Int:=if exB (aUk o i) (i+1) (o.tr.length - (i+1))=true then 7 else if exB (aUq o i) (i+1) (o.tr.length - (i+1))=true then 13 else 0
def aT4 (o:Ob):Int:=
  if o.i < 1∨64 < o.i then 2 else if 10000 < o.tr.length then 11 else if fe (trE o) 0 o.tr.length≠0 then fe (trE o) 0 o.tr.length else fe (apE o) 0 o.tr.length
structure Proper (t:Tr) (n:Int):Prop where
  len:t.no.length=t.ni.length
  lel:t.ni.length≤1024
  sym: ∀ k,k < t.ni.length→0≤nth t.ni k∧nth t.ni k < n
  out: ∀ k,k < t.no.length→0≤nth t.no k∧nth t.no k≤1048576
theorem uO {p : Nat → Bool} : ∀ {n k : Nat}, 0 ≤ fi p k n ↔ ∃ j, k ≤ j ∧ j < k + n ∧ p j = true
  |0,k=>by simp [fi]; omega
  | n + 1, k => by
    simp only [fi]
    split
    · rename_i h
      constructor
      · intro _; exact ⟨k,by omega,by omega,h⟩
      · intro _; omega
    · rename_i h
      rw [uO]
      constructor
      · rintro ⟨j,h1,h2,h3⟩; exact ⟨j,by omega,by omega,h3⟩
      · rintro ⟨j,h1,h2,h3⟩
        by_cases e:j=k
        · subst e; exact (h h3).elim
        · exact ⟨j,by omega,by omega,h3⟩
theorem zZ {p:Nat→Bool}: ∀ {n k:Nat},0≤fi p k n→k≤(fi p k n).toNat∧(fi p k n).toNat < k+n∧p (fi p k n).toNat=true∧ ∀ j,k≤j→j < (fi p k n).toNat→p j=false
  |0,k=>by simp [fi]
  | n + 1, k => by
    simp only [fi]
    split
    · rename_i h; intro _; simp only [Int.toNat_natCast]; exact ⟨by omega,by omega,h,fun j h1 h2=>by omega⟩
    · rename_i h
      intro h0
      obtain ⟨h1,h2,h3,h4⟩:=zZ h0
      refine ⟨by omega,by omega,h3,fun j g1 g2=>?_⟩
      by_cases e:j=k
      · subst e; simpa using h
      · exact h4 j (by omega) g2
theorem aCH {a b:Tr}:0≤df a b↔ ∃ j,j < cmn a.ni b.ni∧nth a.no j≠nth b.no j:=by
  unfold df
  rw [uO]
  constructor
  · rintro ⟨j,_,h2,h3⟩; exact ⟨j,by omega,by simpa [dfE] using h3⟩
  · rintro ⟨j,h2,h3⟩; exact ⟨j,by omega,by omega,by simpa [dfE] using h3⟩
structure OK (o:Ob):Prop where
  hi:1≤o.i∧o.i≤64
  len:o.tr.length≤10000
  pr: ∀ k,k < o.tr.length→Proper (nth o.tr k) o.i∧0 < (nth o.tr k).ni.length
  ord: ∀ k,k+1 < o.tr.length→slx (nth o.tr k).ni (nth o.tr (k+1)).ni < 0
  pre: ∀ i k,i < k→k < o.tr.length→hp (nth o.tr k).ni (nth o.tr i).ni=false
  cla: ∀ i k,i < k→k < o.tr.length→df (nth o.tr i) (nth o.tr k) < 0
def aUm (o:Ob) (k:Nat):Int:=if 100 < (nth o.tr k).ni.length∨100 < (nth o.tr k).no.length then 1 else 0
def ogr (o:Ob):Prop:=60 < o.tr.length∨fe (aUm o) 0 o.tr.length≠0
instance (o:Ob):Decidable (ogr o):=inferInstanceAs (Decidable (_∨_))
def cat:List (List Int)→List Int
  |[]=>[]
  |w::l=>w++cat l
theorem oZ: ∀ (l m:List (List Int)),cat (l++m)=cat l++cat m
  |[],_=>rfl
  |w::l,m=>by simp [cat,oZ l m]
theorem dR {l:List (List Int)} {k:Nat} (h:k < l.length):cat (l.take (k+1))=cat (l.take k)++nth l k:=by
  rw [iG h,oZ]; simp [cat]
theorem sK {l:List (List Int)} {k:Nat} (h:k < l.length):(cat (l.take k)).length+(nth l k).length≤(cat l).length:=by
  have e:cat l=cat (l.take (k+1))++cat (l.drop (k+1)):=by rw [← oZ,List.take_append_drop]
  rw [e,dR h]; simp
def aUd (a b:List Int):Nat:=if cmn a b < min a.length b.length then cmn a b else 0
theorem xX {w:List Int} {n:Int} (hn:1≤n∧n≤1024) (hl:w.length≤1024) (hs: ∀ k,k < w.length→0≤nth w k∧nth w k < n):dX w n=0:=by
  rw [dX,if_neg (by omega),if_neg (by omega)]
  exact cE.2 fun j h1 h2=>by
    have:=hs j (by omega)
    rw [wE,if_neg (by omega)]
end Go.Proofs.YtilfohjlglefjaaGreat
namespace Go.Proofs.YtilfohjlglefjaaGreat
open Go
section
variable {P:Program} {T:Nat→V} {H:aF}
theorem iQ {t:Nat} {u:V} (h:T t=u):mS T H (.tmp t)=some u:=by rw [← h]; rfl
theorem jO {t m id ver row off:Nat} {g:Bool} {u:V} {B:Blk} (ha:T t=.mp id ver row off) (hH:H id=B) (hl:ldB g m B ver row off=some u):mS T H (.cell t g m)=some u:=by
  subst hH
  simp only [mS,ha,ptr]
  unfold ldB at hl
  split at hl
  · rename_i hc
    rw [if_pos (show ok H id ver=true from hc)]
    cases hr:(H id).rows[row]? with
    |none=>rw [hr] at hl; cases hl
    |some w=>rw [hr] at hl; exact hl
  · cases hl
theorem oJ {s1 s2:SRes} {u1 u2 v1 v2:V} {n:Nat} (h1:mS T H s1=some u1) (h2:mS T H s2=some u2) (g1:fzv true H n u1=v1) (g2:fzv true H n u2=v2):Ret [s1,s2] (fun u G=>fzv true G (n+1) u=.tup [v1,v2]) .ret T H:=by
  simp only [Ret,oD,fQ,h1,h2,dA,fzv,List.map_cons,List.map_nil,g1,g2]
theorem aCv {s1 s2 s3:SRes} {u1 u2 u3 v1 v2 v3:V} {n:Nat} (h1:mS T H s1=some u1) (h2:mS T H s2=some u2) (h3:mS T H s3=some u3) (g1:fzv true H n u1=v1) (g2:fzv true H n u2=v2) (g3:fzv true H n u3=v3):Ret [s1,s2,s3] (fun u G=>fzv true G (n+1) u=.tup [v1,v2,v3]) .ret T H:=by
  simp only [Ret,oD,fQ,h1,h2,h3,dA,fzv,List.map_cons,List.map_nil,g1,g2,g3]
theorem qD {n:Nat} {l m:List V} (h:l.map (fzv true H n)=m):fzv true H (n+1) (.agg l)=.agg m:=by subst h; rfl
theorem aDz {n:Nat} {u1 u2 v1 v2:V} (g1:fzv true H n u1=v1) (g2:fzv true H n u2=v2):fzv true H (n+1) (.agg [u1,u2])=.agg [v1,v2]:=by
  simp only [fzv,List.map_cons,List.map_nil,g1,g2]
theorem aEI {n:Nat} {u1 u2 u3 v1 v2 v3:V} (g1:fzv true H n u1=v1) (g2:fzv true H n u2=v2) (g3:fzv true H n u3=v3):fzv true H (n+1) (.agg [u1,u2,u3])=.agg [v1,v2,v3]:=by
  simp only [fzv,List.map_cons,List.map_nil,g1,g2,g3]
end
end Go.Proofs.YtilfohjlglefjaaGreat
namespace Go.Proofs.YtilfohjlglefjaaGreat
open Go
def jQ (b b':Blk):Prop:=b.ver≤b'.ver∧(b'.live=false∨b'={b with ver:=b'.ver})
def wY (H H':aF):Prop:= ∀ j,jQ (H j) (H' j)
def fE (S:List Nat) (H H':aF):Prop:= ∀ j,j∉S→jQ (H j) (H' j)
theorem jQ.refl (b:Blk):jQ b b:=⟨Nat.le_refl _,.inr rfl⟩
theorem fE.start {S:List Nat} {H Hi:aF} (h: ∀ j,j∉S→H j=Hi j):fE S H Hi:=fun j hj=>by rw [h j hj]; exact .refl _
theorem fE.put {S:List Nat} {H H':aF} {i:Nat} {b B:Blk} (h:fE (i::S) H H') (hi:H i=b) (hB:jQ b B):fE S H (upd H' i B):=fun j hj=>by
  by_cases e:j=i
  · subst e; rw [aE,hi]; exact hB
  · rw [aG _ _ e]; exact h j (by simp [e,hj])
theorem fE.fin {H H':aF} (h:fE [] H H'):wY H H':=fun j=>h j (by simp)
theorem jQ.eq {b B:Blk} (h:b=B):jQ b B:=h ▸ .refl _
theorem jQ.up {v n:Nat} {l z:Bool} {ty:TypeId} {sz:Nat} {rows rows':List (List V)} (h:v≤n) (hr:rows=rows'):jQ ⟨v,l,z,ty,sz,rows⟩ ⟨n,l,z,ty,sz,rows'⟩:=⟨h,.inr (by subst hr; rfl)⟩
theorem jQ.own {b b':Blk} (h:jQ b b') (ho:b'.own=true):b'={b with ver:=b'.ver}∧b.own=true:=by
  rcases h.2 with h1|h1
  · have:=dL ho; rw [h1] at this; cases this
  · refine ⟨h1,?_⟩
    rw [h1] at ho; exact ho
def xC (x:Cx) (H':aF):Cx:={x with Z:=fun b=>x.Z b∨ ∃ j,(x.H j).own=true∧(H' j).live=false∧b=x.σ j,H:=H'}
theorem rB {x : Cx} (hx : Inv x) {H' : aF} (h : wY x.H H') : Inv (xC x H') ∧ Frame x (xC x H') := by
  generalize hy:xC x H'=y
  have ew:y.w=x.w:=by rw [← hy]; rfl
  have eh:y.H=H':=by rw [← hy]; rfl
  have es:y.σ=x.σ:=by rw [← hy]; rfl
  have ez: ∀ b,y.Z b↔x.Z b∨ ∃ j,(x.H j).own=true∧(H' j).live=false∧b=x.σ j:=fun b=>by rw [← hy]; exact Iff.rfl
  have hf:Frame x y:=by
    refine ⟨by rw [ew],by rw [ew],by rw [ew],by rw [ew]; exact Nat.le_refl _,fun _ _ _=>by rw [ew],fun b h=>(ez b).2 (.inl h),fun b hb=>?_,fun i=>?_,fun i ho=>?_,by rw [ew]; exact Nat.le_refl _,fun i hl hv=>by
      have e:H' i=x.H i:=by
        rw [eh] at hl hv
        rcases (h i).2 with h1|h1
        · rw [h1] at hl; cases hl
        · rw [h1]; show ({x.H i with ver:=(H' i).ver}:Blk)=x.H i; rw [hv]
      rw [eh,e]⟩
    · rcases (ez b).1 hb with h1|⟨j,h1,_,h3⟩
      · exact .inl h1
      · exact .inr (.inr ⟨j,h1,h3.symm⟩)
    rotate_left
    · rw [eh] at ho; rw [es]; exact .inl ⟨((h i).own ho).2,rfl⟩
    rw [eh,es,ew]
    refine ⟨(h i).1,fun hl hv=>?_⟩
    have e:H' i=x.H i:=by
      rcases (h i).2 with h1|h1
      · have:(H' i).live=true:=hl
        rw [h1] at this; cases this
      · rw [h1]; show ({x.H i with ver:=(H' i).ver}:Blk)=x.H i; rw [show (H' i).ver=(x.H i).ver from hv]
    simp only [e]
    have hl':(x.H i).live=true:=by rw [← e]; exact hl
    exact ⟨hl',trivial,trivial,fun _=>trivial,fun _=>⟨trivial,trivial⟩⟩
  refine ⟨⟨fun b hb=>?_,fun b i hb ho=>?_,fun i ho=>?_,fun i j hi hj he=>?_,hx.tab_of hf⟩,hf⟩
  · rw [ew]
    rcases (ez b).1 hb with h1|⟨j,h1,_,h3⟩
    · exact hx.zlt b h1
    · rw [h3]; exact hx.lt h1
  · rw [eh] at ho; rw [es]
    have ho':=((h i).own ho).2
    rcases (ez b).1 hb with h1|⟨j,h1,h2,h3⟩
    · exact hx.zown b i h1 ho'
    · intro q
      have:=hx.inj i j ho' h1 (q.trans h3)
      subst this
      have:=dL ho; rw [h2] at this; cases this
  rotate_left
  · rw [eh] at hi hj; rw [es] at he
    exact hx.inj i j ((h i).own hi).2 ((h j).own hj).2 he
  rw [eh] at ho
  obtain ⟨e,ho'⟩:=(h i).own ho
  obtain ⟨dd,h1,h2,h3,h4⟩:=hx.blk i ho'
  have e1:(y.H i).rows=(x.H i).rows:=by rw [eh,e]
  have e2:(y.H i).sz=(x.H i).sz:=by rw [eh,e]
  have e3:(y.H i).obj dd=(x.H i).obj dd:=by rw [eh,e]; rfl
  rw [e1,e2,ew,es]
  exact ⟨dd,by rw [e3]; exact h1,h2,h3,fun r row j v hr hj=>(h4 r row j v hr hj).frame hx hf⟩
def fK (H H':aF) (v v':V):Prop:= ∀ (x:Cx) (c:Value),x.H=H→Inv x→R x v c→R (xC x H') v' c
theorem fK.same {H H':aF} (h:wY H H') (v:V):fK H H' v v:=fun x c e hx r=>by
  subst e; exact r.frame hx (rB hx h).2
theorem fK.nil {H H':aF}:fK H H' .nilsl (.sl []):=fun x c e hx r=>by
  cases r; exact .slnil
theorem fK.ms {H H':aF} (h:wY H H') {id ver n off len:Nat} (hl:(H id).live=true) (hv:(H id).ver=ver) (hl':(H' id).live=true) (hv':(H' id).ver=n):fK H H' (.ms id ver off len) (.ms id n off len):=fun x c e hx r=>by
  subst e
  have e:H' id={x.H id with ver:=n}:=by
    rcases (h id).2 with h1|h1
    · rw [h1] at hl'; cases hl'
    · rw [hv'] at h1; exact h1
  cases r with
  | ms id ver off len b m cap hv1 hh hm =>
    refine .ms _ _ _ _ _ _ _ (by rw [show (xC x H').H id=H' id from rfl,hv']; exact Nat.le_refl _) (fun _ _=>?_) fun _ _=>by
      have:=hm hv hl
      simp only [xC,e]
      exact this
    have:=hh hv hl
    simp only [xC,e]
    exact this
theorem fK.frz {H H' : aF} (h : wY H H') {id ver len : Nat} {rows : List (List V)} (hl : (H id).live = true) (hv : (H id).ver = ver) (hd : (H' id).live = false) (hr : (H id).rows.take len = rows) : fK H H' (.ms id ver 0 len) (.sl rows) := fun x c e hx r => by
  subst e
  have hf:=(rB hx h).2
  subst hr
  cases r with
  | ms id ver off len b m cap hv1 hh hnm =>
    obtain ⟨e1,e2,e3,e4,e5,e6⟩:=hh hv hl
    subst e1
    rw [Nat.zero_add] at e4
    have hlen:((x.H id).rows.take m).length=m:=by simp; omega
    cases ho:(x.H id).own with
    | false =>
      have e8:=e6 ho
      have hm:m=0:=by omega
      subst hm; subst e8
      simpa using R.sl0 _
    | true =>
      obtain ⟨e7,e8⟩:=e5 ho
      subst e7
      obtain ⟨cc,h1,h2,h3,h4⟩:=hx.cel id ho (hnm hv hl)
      have hidx: ∀ (r:Nat) (row:List V),((x.H id).rows.take m)[r]?=some row→(x.H id).rows[r]?=some row:=by
        intro r row hr
        simp only [List.getElem?_take] at hr
        split at hr
        · exact hr
        · cases hr
      have key:=R.sl (x:=xC x H') ((x.H id).rows.take m) ⟨x.σ id,0,none⟩ cap (x.H id).sz
        (fun k=>cc.getD k undef) (by omega) e3 (fun _=>.inr ⟨id,ho,hd,rfl⟩)
        (fun r hr=>h2 r (List.mem_of_mem_take hr))
        (fun r row q v hr hj=>by
          have h8:=hidx _ _ hr
          have h9:=(eD h2 h3 h8 hj).1
          rw [Addr.add_lit]
          show x.w.cell? _=_
          rw [gP h1 (by omega)]
          simp)
        (fun r row q v hr hj=>(h4 _ _ _ _ (hidx _ _ hr) hj).frame hx hf)
      rw [hlen] at key
      simpa using key
theorem fK.trans_eq {H H':aF} {a b b':V} (h:fK H H' a b) (e:b=b'):fK H H' a b':=e ▸ h
section
variable {P:Program} {op:Opt} {k0:Nat}
theorem aAa {f : Nat} {fn : Func} {s : SF} (hf : P.funcs[f]? = some fn) (hs : aL P op fn = some s) (hn : (fn.name == "runtime.NumGoroutine") = false) {args : List V} {H : aF} {v : V} {H' : aF}
    (hl:args.length≤s.n) (hW:iL args=true→W P k0 s.body (Ret s.res fun u G=>wY G H'∧fK G H' u v) (T0 args) H):dG P f args H v H':=by
  refine ⟨kG hf hs hn,fun x cs hxH hx hr=>?_⟩
  subst hxH
  refine (oG hf hs hl (hW hr.bnd) hx hr).mono fun e w' h=>?_
  obtain ⟨c,u,y,h1,h2,⟨h3,h4⟩,h5,h6,h7⟩:=h
  obtain ⟨z1,z2⟩:=rB h5 h3
  exact ⟨c,xC y H',h1,h2,rfl,z1,h4 y c rfl h5 h6,h7.trans z2⟩
variable {T:Nat→V} {H H':aF}
theorem jP {t:Nat} {u v:V} (h:T t=u) (hH:wY H H') (hv:fK H H' u v):Ret [.tmp t] (fun u G=>wY G H'∧fK G H' u v) .ret T H:=by
  simp only [Ret,oD,fQ,mS,h,dA]; exact ⟨hH,hv⟩
end
end Go.Proofs.YtilfohjlglefjaaGreat
namespace Go.Proofs.YtilfohjlglefjaaGreat
open Go
section
variable {P:Program} {k0:Nat} {K:(Nat→V)→aF→Prop} {T:Nat→V} {H:aF} {r:List SO} {d:Nat} {a b c:SX} {v u:V}
theorem nU {e id ver off len n:Nat} {B:Blk} {k:IntKind} {x:SX} (ha:ev T a=.ms id ver off len) (hx:ev T x=.int k (n:Nat)) (hH:H id=B) (hok:okB B ver=true) (hs:B.sz=e) (hn:n≤len)
    (h:Ops P k0 r (upd T d (.ms id ver off n)) H K):Ops P k0 (⟨none,some d,.slice e a none (some x)⟩::r) T H K:=by
  subst hH
  refine stp (v:=.ms id ver off n) (fun _=>rfl) ?_ h
  rw [ha]
  simp only [Option.map_some,Option.map_none,kM,eS,aEW,hx,Option.bind_some]
  have h0:(0:Int)≤(n:Int):=by omega
  rw [if_pos h0]
  simp only [Option.bind_some,Int.toNat_natCast]
  rw [if_pos (show ok H id ver=true from hok),if_pos hs,if_pos (Nat.zero_le _),if_pos hn]
  by_cases e:0 < n
  · rw [if_pos e]; simp
  · rw [if_neg e,if_pos trivial,show n=0 by omega]
theorem iB {e id ver off len n:Nat} {B:Blk} {k:IntKind} {x:SX} (ha:ev T a=.ms id ver off len) (hx:ev T x=.int k (n:Nat)) (hH:H id=B) (hok:okB B ver=true) (hs:B.sz=e) (hn:n < len)
    (h:Ops P k0 r (upd T d (.ms id ver (off+n) (len - n))) H K):Ops P k0 (⟨none,some d,.slice e a (some x) none⟩::r) T H K:=by
  subst hH
  refine stp (v:=.ms id ver (off+n) (len - n)) (fun _=>rfl) ?_ h
  rw [ha]
  simp only [Option.map_some,Option.map_none,kM,eS,aEW,hx,Option.bind_some]
  have h0:(0:Int)≤(n:Int):=by omega
  rw [if_pos h0]
  simp only [Option.bind_some,Int.toNat_natCast]
  rw [if_pos (show ok H id ver=true from hok),if_pos hs,if_pos (by omega),if_pos (Nat.le_refl _),if_pos hn]
theorem aLK {α:Type} {id ver ty sz m n:Nat} {lz:Bool} {f:α→List V} {l:List α} {z:List V} (ha:ev T a=.ms id ver m n) (hH:H id=⟨ver,true,lz,ty,sz,l.map f⟩) (hz:z.length=sz) (hz0:z.length≠0) (hone:z.all V.one=true)
    (hm:m < l.length) (hn:m+n=l.length)
    (h:Ops P k0 r T (upd H id ⟨ver,true,lz,ty,sz,(l.take m).map f++List.replicate n z⟩) K):Ops P k0 (⟨none,none,.clr z a⟩::r) T H K:=by
  simp only [Ops,St]
  refine tR (x:=upd H id ⟨ver,true,lz,ty,sz,(l.take m).map f++List.replicate n z⟩) ?_ h
  rw [ha]
  simp only [aE3,hH]
  rw [if_pos (by simp),if_neg (by omega),if_pos ⟨hz,hz0⟩,if_pos hone,if_pos (by simp; omega)]
  rw [hn,List.drop_eq_nil_of_le (by simp),List.append_nil,List.map_take]
theorem mX {n len i id ver row o o':Nat} {k:IntKind} {B:Blk} (ha:ev T a=.mp id ver row o) (hb:ev T b=.int k (i:Nat)) (hH:H id=B) (hok:okB B ver=true) (hi:i < len) (ho:o+i*n=o')
    (h:Ops P k0 r (upd T d (.mp id ver row o')) H K):Ops P k0 (⟨none,some d,.apos n len a b⟩::r) T H K:=by
  subst hH
  refine stp (v:=.mp id ver row o') (fun _=>rfl) ?_ h
  rw [ha,hb]
  simp only [xI]
  rw [if_pos (by omega)]
  simp only [Int.toNat_natCast,aAg,ho]
theorem oA: ∀ (vs p r:List V),r.length=vs.length→eJ (p++r) p.length vs=p++vs
  | [], p, r, h => by cases r with
    |nil=>rfl
    |cons a r=>simp at h
  | v :: vs, p, r, h => by
    cases r with
    |nil=>simp at h
    | cons a r =>
      have e:(p++a::r).set p.length v=(p++[v])++r:=by simp
      rw [eJ,e,show p.length+1=(p++[v]).length by simp,oA vs (p++[v]) r (by simpa using h)]
      simp
theorem iE {α:Type} [Inhabited α] {n ver ty sz i:Nat} {lz:Bool} {f:α→List V} {l:List α} {vs:List V} {x:α} (h:i < l.length) (hv:vs=f x) (hn:vs.length=n) (hs:(f (nth l i)).length=n) (ho:vs.all V.one=true):
    stB ⟨ver,true,lz,ty,sz,l.map f⟩ ver i 0 n vs=some ⟨ver,true,lz,ty,sz,(l.set i x).map f⟩:=by
  subst hv
  unfold stB
  rw [if_pos (eH (by omega)),if_pos hn,if_pos ho]
  simp only [List.getElem?_map,vG h,Option.map_some]
  rw [if_pos (by omega)]
  have:=oA (f x) [] (f (nth l i)) (by omega)
  simp only [List.nil_append,List.length_nil] at this
  rw [this,List.map_set]
theorem dB {e id ver len i:Nat} {B:Blk} {k:IntKind} (ha:ev T a=.ms id ver 0 len) (hb:ev T b=.int k (i:Nat)) (hH:H id=B) (hok:okB B ver=true) (hs:B.sz=e) (hi:i < len)
    (h:Ops P k0 r (upd T d (.mp id ver i 0)) H K):Ops P k0 (⟨none,some d,.idx e a b⟩::r) T H K:=
  mJ ha hb hH hok hs hi (by rw [Nat.zero_add]; exact h)
theorem dY {e id ver len:Nat} {i:Int} {B:Blk} {k:IntKind} (ha:ev T a=.ms id ver 0 len) (hb:ev T b=.int k i) (hH:H id=B) (hok:okB B ver=true) (hs:B.sz=e) (h0:0≤i) (hi:i < len)
    (h:Ops P k0 r (upd T d (.mp id ver i.toNat 0)) H K):Ops P k0 (⟨none,some d,.idx e a b⟩::r) T H K:=
  rS ha hb hH hok hs h0 hi (by rw [Nat.zero_add]; exact h)
theorem oY {α:Type} {ty e bytes i n:Nat} {z:List V} {f:α→List V} {x:α} {m q:Nat} (hi:k0+d=i) (hv:(H i).ver=n) (ha:ev T a=iV (m:Nat)) (hb:ev T b=iV (q:Nat)) (hz:z=f x) (h1:m≤q) (h2:q*bytes≤281474976710656) (h3:q≤9223372036854775807)
    (h:Ops P k0 r (upd T d (.ms i (n+1) 0 m)) (upd H i ⟨n+1,true,false,ty,e,(List.replicate m x).map f⟩) K):Ops P k0 (⟨none,some d,.mks ty e bytes z a b⟩::r) T H K:=
  aLD hi hv ha hb h1 h2 h3 (by rw [List.map_replicate,← hz] at h; exact h)
theorem dM {id n:Nat} (h:(H id).ver=n):(jZ id H id).ver=n∧(jZ id H id).live=false:=by subst h; simp [jZ]
theorem cA {id j n:Nat} (h:(H j).ver=n∧(H j).live=false):(jZ id H j).ver=n∧(jZ id H j).live=false:=by
  by_cases e:j=id
  · subst e; exact dM h.1
  · simp only [jZ,aG _ _ e]; exact h
theorem aDc {α:Type} {n id ver len:Nat} {B:Blk} {f:α→List V} {l:List α} (hH:H id=B) (hok:(B.live&&decide (B.ver=ver))=true) (hr:B.rows.take len=l.map f) (hc: ∀ a,cV (f a)=true):
    fzv true H (n+1) (.ms id ver 0 len)=.sl (l.map f):=by
  subst hH
  simp only [fzv]
  rw [if_pos hok,List.drop_zero,hr]
  congr 1
  rw [List.map_map]
  refine List.map_congr_left fun a _=>gM n _ (hc a)
theorem aA3 {α:Type} {len:Nat} {f:α→List V} {l:List α} (h:len=l.length):(l.map f).take len=l.map f:=by
  subst h; rw [show l.length=(l.map f).length by simp,List.take_length]
theorem aBn {α:Type} {len:Nat} {f:α→List V} {l:List α} {r:List (List V)} (h:len=l.length):(l.map f++r).take len=l.map f:=by
  subst h; rw [show l.length=(l.map f).length by simp,List.take_left]
end
theorem kB {α:Type} {ver ty sz m:Nat} {lz:Bool} {f:α→List V} {l:List α} {z:List V} (h:0 < l.length):okB ⟨ver,true,lz,ty,sz,l.map f++List.replicate m z⟩ ver=true:=by
  cases l with
  |nil=>simp at h
  |cons a l=>simp [okB,Blk.own]
theorem aEv {α:Type} [Inhabited α] {f:α→List V} {l:List α} {m i:Nat} {z:List V} (h:i < l.length):(l.map f++List.replicate m z)[i]?=some (f (nth l i)):=by
  rw [List.getElem?_append_left (by simpa using h),List.getElem?_map,vG h]; rfl
theorem aDs {α:Type} [Inhabited α] {agg:Bool} {n ver ty sz i off m:Nat} {lz:Bool} {f:α→List V} {l:List α} {z:List V} {v:V} (h:i < l.length) (hg:ldV agg n ((f (nth l i)).drop off)=some v):
    ldB agg n ⟨ver,true,lz,ty,sz,l.map f++List.replicate m z⟩ ver i off=some v:=by
  unfold ldB
  rw [if_pos (show (_&&_)=true from kB (by omega))]
  simp only [aEv h,Option.bind_some]
  exact hg
theorem aD6 {α:Type} [Inhabited α] {n ver ty sz i m:Nat} {lz:Bool} {f:α→List V} {l:List α} {vs:List V} {x:α} {z:List V} (h:i < l.length) (hv:vs=f x) (hn:vs.length=n) (hs:(f (nth l i)).length=n) (ho:vs.all V.one=true):
    stB ⟨ver,true,lz,ty,sz,l.map f++List.replicate m z⟩ ver i 0 n vs=some ⟨ver,true,lz,ty,sz,(l.set i x).map f++List.replicate m z⟩:=by
  subst hv
  unfold stB
  rw [if_pos (kB (by omega)),if_pos hn,if_pos ho]
  simp only [aEv h]
  rw [if_pos (by omega)]
  have:=oA (f x) [] (f (nth l i)) (by omega)
  simp only [List.nil_append,List.length_nil] at this
  rw [this,List.map_set,List.set_append_left _ _ (by simpa using h)]
theorem aEA {H:aF} {α:Type} {n id ver len:Nat} {B:Blk} {f:α→List V} {l m:List α} (hH:H id=B) (hok:(B.live&&decide (B.ver=ver))=true) (hr:B.rows.take len=l.map f) (hc: ∀ a,cV (f a)=true) (h:l=m):
    fzv true H (n+1) (.ms id ver 0 len)=.sl (m.map f):=by
  subst h; exact aDc hH hok hr hc
theorem yG {H:aF} {id id2 ver v2 ty ty2 i off len sz sz2:Nat} {lz lz2:Bool} {β:Type} {rows:List (List V)} {r:List V} {m:List β} {g:β→List V} (hne:id2≠id) (h1:H id=⟨ver,true,lz,ty,sz,m.map g⟩) (h2:H id2=⟨v2,true,lz2,ty2,sz2,rows.set i r⟩)
    (hi:i < rows.length) (hl:len=m.length) (hc:r[off]?=some (.ms id ver 0 len)) {K:(Nat→V)→aF→Prop} {T:Nat→V} (h:G K (fzT id H T) (upd (jZ id H) id2 ⟨v2,true,lz2,ty2,sz2,rows.set i (r.set off (.sl (m.map g)))⟩)):G K T H:=by
  subst hl
  have hr:(H id2).rows[i]?=some r:=by rw [h2]; simp [hi]
  refine .frzCell id ver m.length id2 i off r hne (by rw [h1]) (by rw [h1]) (by rw [h2]; cases rows with
    |nil=>simp at hi
    |cons a l=>cases i <;> simp [Blk.own]) hr hc ?_
  have e:({H id2 with rows:=(H id2).rows.set i (r.set off (.sl ((H id).rows.take m.length)))}:Blk)=⟨v2,true,lz2,ty2,sz2,rows.set i (r.set off (.sl (m.map g)))⟩:=by
    rw [h2,h1]
    simp only [Blk.mk.injEq,true_and,List.set_set]
    rw [show m.length=(m.map g).length by simp,List.take_length]
  rw [e]; exact h
end Go.Proofs.YtilfohjlglefjaaGreat
namespace Go.Proofs.YtilfohjlglefjaaGreat
open Go
abbrev sO (d:Nat) (x:X):SO:=⟨none,some d,x⟩
abbrev qM (d a:Nat):SO:=sO d (.mv (.t a))
abbrev qI (d:Nat) (n:Int):SO:=sO d (.mv (.c (.int .i64 n)))
abbrev qF (d n a:Nat):SO:=sO d (.fld n (.t a))
abbrev qL (d n a:Nat):SO:=sO d (.load true n (.t a))
abbrev ql (d a:Nat):SO:=sO d (.load false 1 (.t a))
abbrev qE (d a i:Nat):SO:=sO d (.ext (.t a) i)
abbrev qA (d e a i:Nat):SO:=sO d (.idx e (.t a) (.t i))
abbrev qN (d a:Nat):SO:=sO d (.len (.t a))
abbrev qP (d:Nat) (b:BinOp) (x y:Nat):SO:=sO d (.bin b (.t x) (.t y))
abbrev qC (d:Nat) (b:BinOp) (x:Nat) (n:Int):SO:=sO d (.bin b (.t x) (.c (.int .i64 n)))
abbrev sN (x:X):SO:=⟨none,none,x⟩
abbrev bk (v:Nat) (ty sz:Nat) (rows:List (List V)):Blk:=⟨v,true,false,ty,sz,rows⟩
abbrev bz (v:Nat) (ty sz:Nat) (rows:List (List V)):Blk:=⟨v,true,true,ty,sz,rows⟩
section
variable {P:Program} {k0 d:Nat} {r:List SO} {T:Nat→V} {H:aF} {K:(Nat→V)→aF→Prop} {a b:SX} {v:V}
theorem bG {f:Nat} {args:List SX} {as0:List V} (hc:bB P f as0 v) (he:evs T args=as0) (h:Ops P k0 r (upd T d v) H K)
    (h1:cV as0=true:=by simp [-List.map_take,-List.map_drop,-List.map_append,-List.map_reverse]) (h2:cY as0=true:=by simp [-List.map_take,-List.map_drop,-List.map_append,-List.map_reverse]):
    Ops P k0 (⟨none,some d,.call false f args⟩::r) T H K:=aHK he hc (gM _ _ h1) h2 (.inl h2) h
end
def nz:V→V
  | .nilsl=>.sl []
  |v=>v
theorem aRV {x:Cx} {v:V} {c:Value} (r:R x v c):R x (nz v) c:=by
  cases v <;> first|exact r|(generalize hq:V.nilsl=q at r; cases r <;> cases hq; exact .slnil)
theorem aQx {K : (Nat → V) → aF → Prop} {T : Nat → V} {id i : Nat} {r : List V} : ∀ (j : Nat) {H : aF} {pre suf : List V}, r = pre ++ suf → suf.length = j → (H id).own = true → (H id).rows[i]? = some (pre.map nz ++ suf) →
    G K T (upd H id {H id with rows:=(H id).rows.set i (r.map nz)})→G K T H:=by
  intro j
  induction j with
  | zero =>
    intro H pre suf he hl ho hr h
    have:=List.length_eq_zero_iff.1 hl
    subst this
    have e:({H id with rows:=(H id).rows.set i (r.map nz)}:Blk)=H id:=by
      rw [he,List.append_nil]
      rw [List.append_nil] at hr
      have:(H id).rows.set i (pre.map nz)=(H id).rows:=by
        have hi:=(List.getElem?_eq_some_iff.1 hr).1
        have:=(List.getElem?_eq_some_iff.1 hr).2
        rw [← this,List.set_getElem_self]
      rw [this]
    rw [e] at h
    have e2:upd H id (H id)=H:=funext fun k=>by unfold upd; split <;> simp_all
    rw [e2] at h; exact h
  | succ j ih =>
    intro H pre suf he hl ho hr h
    cases suf with
    |nil=>simp at hl
    | cons v s =>
      refine .cell id i pre.length v (nz v) (pre.map nz++v::s) ho hr (by simp) (fun x c r=>aRV r) ?_
      have hi:=(List.getElem?_eq_some_iff.1 hr).1
      have e1:(pre.map nz++v::s).set pre.length (nz v)=(pre++[v]).map nz++s:=by
        rw [List.set_append_right _ _ (by simp)]
        simp
      have ho2:({H id with rows:=(H id).rows.set i ((pre.map nz++v::s).set pre.length (nz v))}:Blk).own=true:=by
        unfold Blk.own at ho ⊢
        cases hq:(H id).rows with
        |nil=>rw [hq] at hi; simp at hi
        |cons a l=>rw [hq] at ho; cases i <;> simpa using ho
      refine ih (H:=upd H id {H id with rows:=(H id).rows.set i ((pre.map nz++v::s).set pre.length (nz v))}) (pre:=pre++[v]) (suf:=s) (by rw [he]; simp) (by simpa using hl) (by rw [aE]; exact ho2) (by rw [aE,e1]; simp [hi]) ?_
      rw [aE]
      have e3:upd (upd H id {H id with rows:=(H id).rows.set i ((pre.map nz++v::s).set pre.length (nz v))}) id {H id with rows:=((H id).rows.set i ((pre.map nz++v::s).set pre.length (nz v))).set i (r.map nz)}=upd H id {H id with rows:=(H id).rows.set i (r.map nz)}:=by
        funext k
        by_cases e:k=id
        · subst e; simp only [aE,List.set_set]
        · simp only [aG _ _ e]
      rw [e3]; exact h
theorem aMB {ver ty sz:Nat} {lz:Bool} {rows:List (List V)} (h:rows≠[]):(⟨ver,true,lz,ty,sz,rows⟩:Blk).own=true:=by
  cases rows with
  |nil=>exact (h rfl).elim
  |cons a l=>simp [Blk.own]
theorem aI4 {K:(Nat→V)→aF→Prop} {T:Nat→V} {id ver ty sz:Nat} {lz:Bool}: ∀ {raw:List (List V)} {H:aF} {pre:List (List V)},H id=⟨ver,true,lz,ty,sz,pre++raw⟩→
    G K T (upd H id ⟨ver,true,lz,ty,sz,pre++raw.map (List.map nz)⟩)→G K T H:=by
  intro raw
  induction raw with
  | nil =>
    intro H pre hH h
    have e2:upd H id (H id)=H:=funext fun k=>by unfold upd; split <;> simp_all
    rw [List.map_nil,← hH,e2] at h; exact h
  | cons r raw ih =>
    intro H pre hH h
    refine aQx (id:=id) (i:=pre.length) (r:=r) r.length (pre:=[]) (suf:=r) rfl rfl (by rw [hH]; exact aMB (by simp)) (by rw [hH]; simp) ?_
    refine ih (pre:=pre++[r.map nz]) (by rw [aE,hH]; simp only [Blk.mk.injEq,true_and]; rw [List.set_append_right _ _ (Nat.le_refl _)]; simp) ?_
    have e3: ∀ b c:Blk,upd (upd H id b) id c=upd H id c:=fun b c=>funext fun k=>by
      by_cases e:k=id
      · subst e; simp only [aE]
      · simp only [aG _ _ e]
    rw [e3]
    simpa using h
theorem aJw {α:Type} {K:(Nat→V)→aF→Prop} {T:Nat→V} {H:aF} {id ver ty sz:Nat} {lz:Bool} {l m:List α} {f:α→List V} {raw:List (List V)} (hH:H id=⟨ver,true,lz,ty,sz,l.map f++raw⟩) (hr:raw.map (List.map nz)=m.map f)
    (h:G K T (upd H id ⟨ver,true,lz,ty,sz,(l++m).map f⟩)):G K T H:=by
  refine aI4 hH ?_
  rw [hr,← List.map_append]; exact h
end Go.Proofs.YtilfohjlglefjaaGreat
namespace Go.Proofs.YtilfohjlglefjaaGreat
open Go
section
variable {P:Program} {k0:Nat} {Q:Ex→(Nat→V)→aF→Prop} {T:Nat→V} {H:aF}
theorem W_r {ops:List SO} {b:SC} (h:Ops P k0 ops T H fun T H=>W P k0 b Q T H):W P k0 (.seq (.reg ops) b) Q T H:=
  ⟨k0,gJ (fun _ _ h=>.done h) h⟩
theorem W_t {ops:List SO} (h:Ops P k0 ops T H fun T H=>Q .norm T H):W P k0 (.reg ops) Q T H:=⟨k0,h⟩
theorem W_d {ops:List SO} {b:SC} {fY:List Nat} (hl: ∀ d∈fY,(H (k0+d)).live=false) (h:Ops P k0 ops T H fun T H=>W P k0 b Q T H):W P k0 (.seq (.dreg fY ops) b) Q T H:=
  ⟨k0,hl,gJ (fun _ _ h=>.done h) h⟩
end
theorem wM {H:aF} {k0:Nat}: ∀ d∈([]:List Nat),(H (k0+d)).live=false:=fun _ h=>by simp at h
theorem lV {H:aF} {k0 d:Nat} {l:List Nat} (h:(H (k0+d)).live=false) (hl: ∀ d∈l,(H (k0+d)).live=false): ∀ x∈d::l,(H (k0+x)).live=false:=by
  intro x hx
  rcases List.mem_cons.1 hx with rfl|hx
  · exact h
  · exact hl _ hx
theorem oB {ver ty sz:Nat} {rows:List (List V)}:okB ⟨ver,true,false,ty,sz,rows⟩ ver=true:=by simp [okB,Blk.own]
theorem lB {agg:Bool} {n ver row off:Nat} {B:Blk} {r:List V} {v:V} (ho:okB B ver=true) (hr:B.rows[row]?=some r) (hv:ldV agg n (r.drop off)=some v):ldB agg n B ver row off=some v:=by
  unfold ldB; rw [if_pos (show (B.own&&decide (B.ver=ver))=true from ho),hr]; exact hv
theorem sB {n ver row off:Nat} {B B':Blk} {r vs:List V} (ho:okB B ver=true) (hn:vs.length=n) (ha:vs.all V.one=true) (hr:B.rows[row]?=some r) (hl:Nat.ble (off+n) r.length=true) (hB:{B with rows:=B.rows.set row (eJ r off vs)}=B'):stB B ver row off n vs=some B':=by
  unfold stB; rw [if_pos ho,if_pos hn,if_pos ha,hr]; dsimp only; rw [if_pos (Nat.le_of_ble_eq_true hl),hB]
section
variable {P:Program} {k0 d:Nat} {r:List SO} {T:Nat→V} {H:aF} {K:(Nat→V)→aF→Prop} {a b:SX} {v:V}
theorem aK {agg:Bool} {n id ver row off ty sz:Nat} {rows:List (List V)} {rw:List V} (ha:ev T a=.mp id ver row off) (hH:H id=⟨ver,true,false,ty,sz,rows⟩) (hr:rows[row]?=some rw) (hv:ldV agg n (rw.drop off)=some v) (h:Ops P k0 r (upd T d v) H K):
    Ops P k0 (⟨none,some d,.load agg n a⟩::r) T H K:=bT ha hH (lB oB hr hv) h
theorem aP {off id ver row o ty sz:Nat} {rows:List (List V)} (ha:ev T a=.mp id ver row o) (hH:H id=⟨ver,true,false,ty,sz,rows⟩) (h:Ops P k0 r (upd T d (.mp id ver row (o+off))) H K):Ops P k0 (⟨none,some d,.fld off a⟩::r) T H K:=
  aHi ha hH oB rfl h
theorem mM {n id ver row off ty sz:Nat} {rows:List (List V)} {B':Blk} {rw vs:List V} (ha:ev T a=.mp id ver row off) (hb:ev T b=v) (hc:v.cells=vs) (hH:H id=⟨ver,true,false,ty,sz,rows⟩) (hn:vs.length=n) (hl:vs.all V.one=true) (hr:rows[row]?=some rw)
    (hm:Nat.ble (off+n) rw.length=true) (hB:(⟨ver,true,false,ty,sz,rows.set row (eJ rw off vs)⟩:Blk)=B') (h:Ops P k0 r T (upd H id B') K):Ops P k0 (⟨none,none,.store n a b⟩::r) T H K:=
  bQ ha hb hc hH (sB oB hn hl hr hm hB) h
end
theorem R_e {P:Program} {k0:Nat} {T:Nat→V} {H:aF} {K:(Nat→V)→aF→Prop} (h:K T H):Ops P k0 [] T H K:=h
end Go.Proofs.YtilfohjlglefjaaGreat
namespace Go.Proofs.YtilfohjlglefjaaGreat
open Go
theorem pW {P:Program} {op:Opt} {f:Nat} {fn:Func} {s:SF} {args:List V} {v:V} {B:Prop} (hf:P.funcs[f]?=some fn) (hs:aL P op fn=some s)
    (hW : B → W P 0 s.body (Ret s.res fun u G => fzv true G 6 u = v) (T0 args) H0) (hn : (fn.name == "runtime.NumGoroutine") = false := by kernel_rfl)
    (hl:Nat.ble args.length s.n=true:=by rfl) (ha:cY args=true:=by simp) (hv:v.pure=true:=by simp)
    (hb:iL args=true→B:=by intro hB; first|(simp only [aD5,aEj,aBv,aDR,aEc,aHA,aDD,aBc,implies_true,and_true,true_and] at hB; exact hB)|exact (fun _=>trivial) hB):bB P f args v:=
  aCU true 6 hf hs hn (Nat.le_of_ble_eq_true hl) ha hv fun h=>hW (hb h)
theorem eW {P:Program} {op:Opt} {k0 f:Nat} {fn:Func} {s:SF} {args:List V} {H:aF} {v:V} {H':aF} {B:Prop} (hf:P.funcs[f]?=some fn) (hs:aL P op fn=some s)
    (hW : B → W P k0 s.body (Ret s.res fun u G => wY G H' ∧ fK G H' u v) (T0 args) H) (hn : (fn.name == "runtime.NumGoroutine") = false := by kernel_rfl)
    (hl:Nat.ble args.length s.n=true:=by rfl)
    (hb:iL args=true→B:=by intro hB; first|(simp only [aD5,aEj,aBv,aDR,aEc,aHA,aDD,aBc,implies_true,and_true,true_and] at hB; exact hB)|exact (fun _=>trivial) hB):dG P f args H v H':=
  aAa hf hs hn (Nat.le_of_ble_eq_true hl) fun h=>hW (hb h)
theorem edT {x:V} {p:Prop} [Decidable p] (h:p) (hx:x=V.bool (decide p)):x=V.bool true:=by rw [hx]; simp [h]
theorem edF {x:V} {p:Prop} [Decidable p] (h: ¬p) (hx:x=V.bool (decide p)):x=V.bool false:=by rw [hx]; simp [h]
theorem ebT {x:V} {b:Bool} (h:b=true) (hx:x=V.bool b):x=V.bool true:=by rw [hx,h]
theorem ebF {x:V} {b:Bool} (h: ¬b=true) (hx:x=V.bool b):x=V.bool false:=by rw [hx,Bool.eq_false_iff.2 h]
theorem G_n {P:Program} {k0 d t:Nat} {r:List SO} {T:Nat→V} {H:aF} {K:(Nat→V)→aF→Prop} {w:Bool} {q:X} (ht:T t=.bool (!w)) (h:Ops P k0 r (upd T d (.raw undef)) H K):
    Ops P k0 (⟨some (t,w),some d,q⟩::r) T H K:=aT7 ht (by cases w <;> decide) h
section
variable {P:Program} {k0 d:Nat} {r:List SO} {T:Nat→V} {H:aF} {K:(Nat→V)→aF→Prop} {a b:SX} {x y x' y':Int}
theorem aOz (ha:ev T a=.agg [iV x,iV y]) (hb:ev T b=.agg [iV x',iV y']) (h:Ops P k0 r (upd T d (.bool (decide (¬(x=x'∧y=y'))))) H K):Ops P k0 (⟨none,some d,.abin true [0,0] a b⟩::r) T H K:=by
  refine stp (v:=.bool (decide (¬(x=x'∧y=y')))) (fun _=>rfl) ?_ h
  rw [ha,hb]; simp only [oQ,bY,if_true,Option.map_some]
  by_cases e:x=x' <;> by_cases e2:y=y' <;> simp [e,e2]
end
section
variable {P:Program} {k0 d:Nat} {r:List SO} {T:Nat→V} {H:aF} {K:(Nat→V)→aF→Prop} {a b:SX} {u w v:V}
theorem aDh {g:Bool} {n len:Nat} (ha:ev T a=u) (hb:ev T b=w) (hg:yN g n len u w=some v) (h:Ops P k0 r (upd T d v) H K):Ops P k0 (⟨none,some d,.aidx g n len a b⟩::r) T H K:=by
  refine stp (v:=v) (fun _=>rfl) ?_ h
  rw [ha,hb]; exact hg
end
section
variable {P:Program} {k0:Nat} {Q:Ex→(Nat→V)→aF→Prop} {T:Nat→V} {H:aF}
theorem aRo (k1:Nat) {ops:List SO} {b:SC} (h:Ops P k1 ops T H fun T H=>W P k0 b Q T H):W P k0 (.seq (.reg ops) b) Q T H:=⟨k1,gJ (fun _ _ h=>.done h) h⟩
theorem aUf (k1:Nat) {ops:List SO} (h:Ops P k1 ops T H fun T H=>Q .norm T H):W P k0 (.reg ops) Q T H:=⟨k1,h⟩
end
end Go.Proofs.YtilfohjlglefjaaGreat
namespace Go.Proofs.YtilfohjlglefjaaGreat
open Go
def aUp (ρ:Nat→Nat):V→V
  | .mp id ver r o=>.mp (ρ id) ver r o
  | .ms id ver o l=>.ms (ρ id) ver o l
  |v=>v
def aR3 (ρ:Nat→Nat) (b:Blk):Blk:={b with rows:=b.rows.map fun r=>r.map (aUp ρ)}
structure View (n:Nat) (ρ:Nat→Nat) (x z:Cx):Prop where
  w:z.w=x.w
  Z: ∀ b,x.Z b→z.Z b
  H: ∀ i,i < n→z.H (ρ i)=aR3 ρ (x.H i)
  σ: ∀ i,i < n→z.σ (ρ i)=x.σ i
def aSi (ρ:Nat→Nat) (HL:aF) (H:aF):Nat→aF
  |0=>H
  |n+1=>upd (aSi ρ HL H n) (ρ n) (aR3 ρ (HL n))
section
variable {n:Nat} {ρ:Nat→Nat} {Hl:aF} {x:Cx}
end
inductive LOut where
  |ok (v:V) (HL:aF)
  |pan (c:Value)
def LOut.at (n:Nat) (ρ:Nat→Nat) (H:aF):LOut→Res
  | .ok v HL=>.ok v (aSi ρ HL H n)
  | .pan c=>.pan c ((List.range n).map ρ)
section
variable {P:Program} {op:Opt} {k0:Nat}
end
end Go.Proofs.YtilfohjlglefjaaGreat
namespace Go.Proofs.YtilfohjlglefjaaGreat
open Go
section
variable {P:Program} {k0 d:Nat} {r:List SO} {T:Nat→V} {H:aF} {K:(Nat→V)→aF→Prop} {a b c:SX} {v:V}
variable {k:IntKind} {x y:Int}
variable {s t:List UInt8}
end
section
variable {P:Program} {k0 f:Nat} {Q:Ex→(Nat→V)→aF→Prop} {T:Nat→V} {H:aF} {d:Option Nat} {r:SC} {i:Nat} {asq asq':List V} {args:List SX} {b b' b1 b1':Blk} {v:V} {c:Value} {out:LOut}
theorem iC {id:Nat} {a r:SC} (h: ∀ Q':Ex→(Nat→V)→aF→Prop,(∀ T H,G (W P k0 r Q) T H→Q' .norm T H)→(∀ T H,G (W P k0 r Q) T H→Q' (.exit id) T H)→(∀ T H,Q .ret T H→Q' .ret T H)→
    (∀ n T H,n≠id→Q (.exit n) T H→Q' (.exit n) T H)→(∀ c T H,Q (.pan c) T H→Q' (.pan c) T H)→W P k0 a Q' T H):W P k0 (.seq (.block id a) r) Q T H:=by
  simp only [W]
  refine h _ (fun T H h=>h) (fun T H h=>?_) (fun T H h=>h) (fun n T H hn h=>?_) (fun c T H h=>h)
  · simp only [if_true]; exact h
  · simp only [if_neg hn]; exact h
variable {res:List SRes} {HL:aF}
end
end Go.Proofs.YtilfohjlglefjaaGreat
namespace Go.Proofs.YtilfohjlglefjaaGreat
open Go
def aCw (B : Blk) (ver kd : Nat) (z key : V) : Option (V × Bool) :=
  if (B.own && decide (B.ver = ver) && B.isM && decide (B.sz = 2) && lY kd key) = true then match B.rows with
    | _ :: es => match fP kd key es 0 with
      |some (some (_,v))=>some (v,true)
      |some none=>some (z,false)
      |none=>none
    |[]=>none
  else none
def xN (B : Blk) (ver kd : Nat) (key val : V) : Option Blk :=
  if (B.own && decide (B.ver = ver) && B.isM && decide (B.sz = 2) && lY kd key) = true then match B.rows with
    | h :: es => match fP kd key es 0 with
      |some (some (i,_))=>some {B with rows:=h::es.set i [key,val]}
      |some none=>some {B with rows:=h::(es++[[key,val]])}
      |none=>none
    |[]=>none
  else none
section
variable {P:Program} {k0:Nat} {r:List SO} {T:Nat→V} {H:aF} {K:(Nat→V)→aF→Prop} {d:Nat} {a b c:SX} {v:V}
theorem aKr {i n:Nat} {rows:List (List V)} (hi:k0+d=i) (hv:(H i).ver=n) (hr:rows=[[.nilp,.nilp]]) (h:Ops P k0 r (upd T d (.mm i (n+1))) (upd H i (⟨n+1,true,true,gI,2,rows⟩:Blk)) K):Ops P k0 (⟨none,some d,.mkmap⟩::r) T H K:=by
  subst hi; subst hv; subst hr; exact h
theorem aJ7 {id ver kd:Nat} {z key u:V} {B:Blk} {f:Bool} (ha:ev T a=.mm id ver) (hb:ev T b=key) (hH:H id=B) (hl:aCw B ver kd z key=some (u,f)) (h:Ops P k0 r (upd T d (.tup [u,.bool f])) H K):
    Ops P k0 (⟨none,some d,.mlook kd true z a b⟩::r) T H K:=by
  subst hH; subst hb
  simp only [Ops,St]
  refine tR (x:=(u,f)) ?_ h
  rw [ha]; exact hl
theorem aH4 {id ver kd : Nat} {key val : V} {B' : Blk} (h : xN (H id) ver kd key val = some B') : wF H kd (.mm id ver) key val = some (upd H id B') := by
  unfold xN at h
  unfold wF
  simp only
  by_cases hc:((H id).own&&decide ((H id).ver=ver)&&(H id).isM&&decide ((H id).sz=2)&&lY kd key)=true
  · rw [if_pos hc] at h ⊢
    cases hr:(H id).rows with
    |nil=>rw [hr] at h; cases h
    | cons e es =>
      rw [hr] at h
      simp only at h ⊢
      cases hf:fP kd key es 0 with
      |none=>rw [hf] at h; cases h
      | some o =>
        rw [hf] at h
        cases o with
        |none=>cases h; rfl
        |some p=>cases h; rfl
  · rw [if_neg hc] at h; cases h
theorem aGW {id ver kd:Nat} {key val:V} {B B':Blk} (ha:ev T a=.mm id ver) (hb:ev T b=key) (hc:ev T c=val) (hH:H id=B) (hl:xN B ver kd key val=some B') (h:Ops P k0 r T (upd H id B') K):
    Ops P k0 (⟨none,none,.mset kd a b c⟩::r) T H K:=by
  subst hH; subst hb; subst hc
  simp only [Ops,St]
  refine tR (x:=upd H id B') ?_ h
  rw [ha]; exact aH4 hl
end
section
variable {ver:Nat} {z:V} {t:List UInt8} {es:List (List UInt8×V)}
end
end Go.Proofs.YtilfohjlglefjaaGreat
namespace Go.Proofs.YtilfohjlglefjaaGreat
open Go
section
variable {P:Program} {k0:Nat} {r:List SO} {T:Nat→V} {H:aF} {K:(Nat→V)→aF→Prop} {d:Nat} {a b c:SX} {v:V}
end
end Go.Proofs.YtilfohjlglefjaaGreat
namespace Go.Proofs.YtilfohjlglefjaaGreat
open Go
end Go.Proofs.YtilfohjlglefjaaGreat
namespace Go.Proofs.YtilfohjlglefjaaGreat
open Go
section
variable {P:Program} {k0:Nat} {Q:Ex→(Nat→V)→aF→Prop} {T:Nat→V} {H:aF}
theorem nA {a r:SC} (J:(Nat→V)→aF→Prop) (h1: ∀ Q':Ex→(Nat→V)→aF→Prop,(∀ T H,J T H→Q' .norm T H)→(∀ T H,Q .ret T H→Q' .ret T H)→(∀ n T H,Q (.exit n) T H→Q' (.exit n) T H)→W P k0 a Q' T H)
    (h2: ∀ T H,J T H→W P k0 r Q T H):W P k0 (.seq a r) Q T H:=by
  simp only [W]
  exact h1 _ (fun T H hJ=>.done (h2 T H hJ)) (fun T H h=>h) (fun n T H h=>h)
end
end Go.Proofs.YtilfohjlglefjaaGreat
namespace Go.Proofs.YtilfohjlglefjaaGreat
open Go
section
variable {ver:Nat} {k:Int×List UInt8} {l:List (Int×List UInt8)}
end
end Go.Proofs.YtilfohjlglefjaaGreat
namespace Go.Proofs.YtilfohjlglefjaaGreat
open Go
section
variable {P:Program} {k0 d:Nat} {r:List SO} {T:Nat→V} {H:aF} {K:(Nat→V)→aF→Prop} {a b:SX} {x y:Int} {s t:List UInt8}
end
end Go.Proofs.YtilfohjlglefjaaGreat
namespace Go.Proofs.YtilfohjlglefjaaGreat
open Go
section
variable {P:Program} {k0:Nat} {r:List SO} {T:Nat→V} {H:aF} {K:(Nat→V)→aF→Prop} {d:Nat} {a b:SX}
variable {Q:Ex→(Nat→V)→aF→Prop}
theorem W_x {ps:List (Nat×Nat×Nat×Nat)} {ops:List SO} {b:SC} (h:Ops P k0 ops T H fun T H=>ddB ps ops T=true∧W P k0 b Q T H):W P k0 (.seq (.xreg ps ops) b) Q T H:=⟨k0,gJ (fun _ _ h=>⟨h.1,.done h.2⟩) h⟩
theorem aT2 {ps:List (Nat×Nat×Nat×Nat)} {ops:List SO} (h:Ops P k0 ops T H fun T H=>ddB ps ops T=true∧Q .norm T H):W P k0 (.xreg ps ops) Q T H:=⟨k0,h⟩
end
end Go.Proofs.YtilfohjlglefjaaGreat
namespace Go.Proofs.YtilfohjlglefjaaGreat
open Go Go.Proofs
def aUc:List SO:=[
 qF 10 0 1,
 qL 11 6 10,
 sO 12 (.call false 14 [.t 11]),
 sO 13 (.un .not (.t 12)),
 qM 14 13,
 ⟨some (14,false),some 15,.fld 6 (.t 1)⟩,
 ⟨some (14,false),some 16,.load true 6 (.t 15)⟩,
 ⟨some (14,false),some 17,.call false 14 [.t 16]⟩,
 ⟨some (14,false),some 18,.un .not (.t 17)⟩,
 sO 19 (.pick (.t 14) (.c (.bool true)) (.t 18)),
 qM 20 19,
 ⟨some (20,false),some 21,.fld 12 (.t 1)⟩,
 ⟨some (20,false),some 22,.load false 1 (.t 21)⟩,
 ⟨some (20,false),some 23,.len (.t 22)⟩,
 ⟨some (20,false),some 24,.bin .gtr (.t 23) (.c (.int .i64 60))⟩,
 sO 25 (.pick (.t 20) (.c (.bool true)) (.t 24))]
def aT3:List SO:=[
 qF 28 0 1,
 qL 29 6 28,
 qF 30 6 1,
 qL 31 6 30,
 sO 32 (.call false 15 [.t 29,.t 31]),
 qM 27 32,
 qE 33 27 0,
 qE 34 27 1,
 qE 35 27 2,
 qM 3 33,
 qM 4 34,
 qM 5 35]
def aUt:List SO:=[
 qM 41 5,
 qC 42 .eql 41 0,
 qM 43 3,
 qN 44 43,
 qC 45 .gtr 44 0,
 sO 46 (.bbin .eql (.t 42) (.t 45)),
 qM 47 46,
 ⟨some (47,true),some 48,.call false 10 []⟩,
 sO 49 (.pick (.t 47) (.t 48) (.c (.bool false))),
 qM 2 49]
def aUg:List SO:=[
 qF 51 0 1,
 qL 52 6 51,
 qF 53 12 1,
 ql 54 53,
 qF 55 13 1,
 ql 56 55,
 sO 57 (.call false 24 [.t 52,.t 54,.t 56]),
 qM 50 57,
 qE 58 50 0,
 qE 59 50 1,
 qM 6 58,
 qM 7 59]
def aUr:List SO:=[
 qF 61 6 1,
 qL 62 6 61,
 qF 63 12 1,
 ql 64 63,
 qF 65 13 1,
 ql 66 65,
 sO 67 (.call false 24 [.t 62,.t 64,.t 66]),
 qM 60 67,
 qE 68 60 0,
 qE 69 60 1,
 qM 8 68,
 qM 9 69]
def aT9:List SO:=[
 qM 70 3,
 qN 71 70,
 qC 72 .eql 71 0,
 qM 73 72,
 ⟨some (73,true),some 74,.mv (.t 7)⟩,
 ⟨some (73,true),some 75,.mv (.t 9)⟩,
 ⟨some (73,true),some 76,.bin .eql (.t 74) (.t 75)⟩,
 sO 77 (.pick (.t 73) (.t 76) (.c (.bool false))),
 qM 78 77,
 ⟨some (78,true),some 79,.mv (.t 6)⟩,
 ⟨some (78,true),some 80,.mv (.t 8)⟩,
 ⟨some (78,true),some 81,.call false 25 [.t 79,.t 80]⟩,
 sO 82 (.pick (.t 78) (.t 81) (.c (.bool false))),
 qM 83 82,
 ⟨some (83,true),some 84,.call false 10 []⟩,
 sO 85 (.pick (.t 83) (.t 84) (.c (.bool false))),
 qM 2 85]
def s7:SF:=⟨86,[.tmp 2],.seq (.reg [sO 1 (.box 52 14 (.t 0)),sO 2 (.mv (.c (.bool false)))]) (.seq (.seq (.reg aUc) (.cond (.t 25) (.seq (.reg [sO 26 (.call false 10 []),qM 2 26]) (.ret)) (.skip))) (.seq (.reg aT3) (.seq (.seq (.reg [qM 36 5,qC 37 .neq 36 0,qM 38 37,⟨some (38,false),some 39,.mv (.t 4)⟩,sO 40 (.pick (.t 38) (.c (.bool true)) (.t 39))]) (.cond (.t 40) (.seq (.reg aUt) (.ret)) (.skip))) (.seq (.reg aUg) (.seq (.reg aUr) (.seq (.reg aT9) (.ret)))))))⟩
theorem aTZ:aL Tryz.prog ⟨[58,129,130,131,149,155,161,182,183,185,191,192,208,209,210,224,228,231,236],[],[],[]⟩ Tryz.f7=some s7:=by kernel_rfl
end Go.Proofs.YtilfohjlglefjaaGreat
namespace Go.Proofs.YtilfohjlglefjaaGreat
open Go
inductive TT where
  |lf (v:V)
  |nd (l r:TT)
noncomputable def TT.get (t:TT):Nat→V:=TT.rec (motive:=fun _=>Nat→V) (fun v _=>v) (fun _ _ gl gr i=>cond (Nat.beq (i % 2) 0) (gl (i / 2)) (gr (i / 2))) t
theorem TT.get_nd (l r:TT) (i:Nat):(TT.nd l r).get i=cond (Nat.beq (i % 2) 0) (l.get (i / 2)) (r.get (i / 2)):=rfl
noncomputable def TT.put (t:TT):Nat→V→TT:=TT.rec (motive:=fun _=>Nat→V→TT) (fun _ _ v=>.lf v) (fun l r gl gr i v=>cond (Nat.beq (i % 2) 0) (.nd (gl (i / 2) v) r) (.nd l (gr (i / 2) v))) t
theorem TT.put_nd (l r:TT) (i:Nat) (v:V):(TT.nd l r).put i v=cond (Nat.beq (i % 2) 0) (.nd (l.put (i / 2) v) r) (.nd l (r.put (i / 2) v)):=rfl
noncomputable def TT.map (f:V→V) (t:TT):TT:=TT.rec (motive:=fun _=>TT) (fun v=>.lf (f v)) (fun _ _ gl gr=>.nd gl gr) t
theorem TT.map_nd (f:V→V) (l r:TT):(TT.nd l r).map f=.nd (l.map f) (r.map f):=rfl
def TT.full (v:V):Nat→TT
  |0=>.lf v
  |n+1=>.nd (full v n) (full v n)
def TT.Dp:Nat→TT→Prop
  |0,.lf _=>True
  |n+1,.nd l r=>l.Dp n∧r.Dp n
  |_,_=>False
noncomputable def fW (t:TT):Nat→V:=fun i=>cond (Nat.ble 512 i) gL (t.get i)
theorem TT.get_put : ∀ {d : Nat} {t : TT} {i j : Nat} {v : V}, t.Dp d → i < 2 ^ d → j < 2 ^ d → (t.put i v).get j = if j = i then v else t.get j
  | 0, .lf _, i, j, v, _, hi, hj => by
    rw [if_pos (by simp at hi hj; omega)]; rfl
  | d + 1, .nd l r, i, j, v, h, hi, hj => by
    rw [Nat.pow_succ] at hi hj
    simp only [TT.put_nd]
    cases hb:Nat.beq (i % 2) 0 with
    | true =>
      have e1:=Nat.eq_of_beq_eq_true hb
      simp only [cond_true,TT.get_nd]
      cases hc:Nat.beq (j % 2) 0 with
      | true =>
        have e2:=Nat.eq_of_beq_eq_true hc
        simp only [cond_true]
        rw [TT.get_put h.1 (by omega) (by omega)]
        by_cases e:j=i
        · rw [if_pos (by omega),if_pos e]
        · rw [if_neg (by omega),if_neg e]
      | false =>
        have e2:=Nat.ne_of_beq_eq_false hc
        simp only [cond_false]
        rw [if_neg (by intro e; rw [e] at e2; omega)]
    | false =>
      have e1:=Nat.ne_of_beq_eq_false hb
      simp only [cond_false,TT.get_nd]
      cases hc:Nat.beq (j % 2) 0 with
      | false =>
        have e2:=Nat.ne_of_beq_eq_false hc
        simp only [cond_false]
        rw [TT.get_put h.2 (by omega) (by omega)]
        by_cases e:j=i
        · rw [if_pos (by omega),if_pos e]
        · rw [if_neg (by omega),if_neg e]
      | true =>
        have e2:=Nat.eq_of_beq_eq_true hc
        simp only [cond_true]
        rw [if_neg (by intro e; rw [e] at e2; omega)]
theorem TT.put_dp: ∀ {d:Nat} {t:TT} {i:Nat} {v:V},t.Dp d→(t.put i v).Dp d
  |0,.lf _,_,_,_=>trivial
  | d + 1, .nd l r, i, v, h => by
    simp only [TT.put_nd]
    cases Nat.beq (i % 2) 0
    · exact ⟨h.1,TT.put_dp h.2⟩
    · exact ⟨TT.put_dp h.1,h.2⟩
theorem TT.map_dp {f:V→V}: ∀ {d:Nat} {t:TT},t.Dp d→(t.map f).Dp d
  |0,.lf _,_=>trivial
  |d+1,.nd l r,h=>⟨TT.map_dp h.1,TT.map_dp h.2⟩
theorem TT.full_dp {v:V}: ∀ {d:Nat},(TT.full v d).Dp d
  |0=>trivial
  |d+1=>⟨TT.full_dp,TT.full_dp⟩
theorem TT.full_get {v:V}: ∀ {d i:Nat},(TT.full v d).get i=v
  |0,_=>rfl
  | d + 1, i => by
    simp only [TT.full,TT.get_nd]
    cases Nat.beq (i % 2) 0 <;> exact TT.full_get
theorem TT.map_get {f:V→V}: ∀ {t:TT} {i:Nat},(t.map f).get i=f (t.get i)
  | .lf _,_=>rfl
  | .nd l r, i => by
    simp only [TT.map_nd,TT.get_nd]
    cases Nat.beq (i % 2) 0 <;> exact TT.map_get
theorem aA0 {n i:Nat}:Nat.ble n i=false↔i < n:=by
  rw [← Bool.not_eq_true,Nat.ble_eq]; omega
theorem aB2 {t:TT} (h:t.Dp 9) {i:Nat} (hi:Nat.ble 512 i=false) (v:V):fW (t.put i v)=upd (fW t) i v:=by
  have hi':=aA0.1 hi
  funext j
  unfold fW
  rw [gT]
  cases hj:Nat.ble 512 j with
  | true =>
    rw [Nat.ble_eq] at hj
    rw [if_neg (by omega)]; rfl
  | false =>
    have hj':=aA0.1 hj
    simp only [cond_false]
    exact TT.get_put h hi' hj'
def aJh (id:Nat) (H:aF) (v:V):V:=match v with
  | .ms j ver off len=>if j=id∧(H id).live=true∧(H id).ver=ver then .sl (((H id).rows.drop off).take len) else v
  |_=>v
theorem aGJ (id:Nat) (H:aF) (t:TT):fW (t.map (aJh id H))=fzT id H (fW t):=by
  funext i
  have e:fzT id H (fW t) i=aJh id H (fW t i):=by unfold fzT aJh; rfl
  rw [e]
  unfold fW
  cases hi:Nat.ble 512 i with
  |true=>rfl
  |false=>simp only [cond_false]; exact TT.map_get
noncomputable def aFc:List V→Nat→TT→TT
  |[],_,t=>t
  |v::l,i,t=>aFc l (i+1) (t.put i v)
noncomputable def tt0 (args:List V):TT:=aFc args 0 (TT.full gL 9)
theorem yK: ∀ (l:List V) (i:Nat) (t:TT),t.Dp 9→i+l.length≤512→(aFc l i t).Dp 9∧ ∀ j,fW (aFc l i t) j=if i≤j∧j < i+l.length then l.getD (j - i) gL else fW t j
  |[],i,t,h,_=>⟨h,fun j=>by rw [if_neg (by simp only [List.length_nil]; omega)]; rfl⟩
  | v :: l, i, t, h, hl => by
    simp only [List.length_cons] at hl
    obtain ⟨h1,h2⟩:=yK l (i+1) (t.put i v) (TT.put_dp h) (by omega)
    refine ⟨h1,fun j=>?_⟩
    simp only [aFc]
    rw [h2,aB2 h (aA0.2 (by omega))]
    simp only [List.length_cons]
    by_cases c:i+1≤j∧j < i+1+l.length
    · rw [if_pos c,if_pos (by omega)]
      obtain ⟨k,hk⟩: ∃ k,j - i=k+1:=⟨j - i - 1,by omega⟩
      rw [hk,List.getD_cons_succ,show j - (i+1)=k by omega]
    · rw [if_neg c,gT]
      by_cases e:j=i
      · rw [if_pos e,if_pos (by omega),e,Nat.sub_self]; rfl
      · rw [if_neg e,if_neg (by omega)]
theorem aBp {args:List V} (h:args.length≤512):(tt0 args).Dp 9∧fW (tt0 args)=T0 args:=by
  obtain ⟨h1,h2⟩:=yK args 0 (TT.full gL 9) TT.full_dp (by omega)
  refine ⟨h1,funext fun j=>?_⟩
  show fW (aFc args 0 (TT.full gL 9)) j=_
  rw [h2]
  unfold T0
  split
  · rw [Nat.sub_zero]
  · rename_i hn
    have hd:args.getD j gL=gL:=by
      rw [List.getD_eq_getElem?_getD,List.getElem?_eq_none (by omega)]; rfl
    rw [hd]
    unfold fW
    rw [TT.full_get]
    cases Nat.ble 512 j <;> rfl
abbrev aBi:=Nat→Nat→List (Nat×Nat)→SC→TT→aF→Option (Ex×TT×aF)
noncomputable def aJB (T:TT) (d:Option Nat) (v:V):Option TT:=match d with
  |none=>some T
  | some i => match Nat.ble 512 i with
    |true=>none
    |false=>some (T.put i v)
theorem xM {T T':TT} {d:Option Nat} {v:V} (hd:T.Dp 9) (h:aJB T d v=some T'):T'.Dp 9∧fW T'=fF (fW T) d v:=by
  unfold aJB at h
  split at h
  · cases h; exact ⟨hd,rfl⟩
  · split at h
    · cases h
    · rename_i hi
      cases h; exact ⟨TT.put_dp hd,aB2 hd hi v⟩
def exY (x : X) : iT → PrimA → Nat → (Nat → V) → aF → Option (V × aF) := match x with
  | .mv a=>fun call qa id T H=>some (ev T a,H)
  | .lazy ty sz=>fun call qa id T H=>some (.ms id ((H id).ver+1) 0 0,upd H id ⟨(H id).ver+1,true,true,ty,sz,[]⟩)
  | .pick c a b => fun call qa id T H => match asB (ev T c) with
    |some bb=>some (if bb then ev T a else ev T b,H)
    |none=>none
  | .alloc ty z=>fun call qa id T H=>some (.mp id ((H id).ver+1) 0 0,upd H id ⟨(H id).ver+1,true,false,ty,z.length,[z]⟩)
  | .box ty _ a=>fun call qa id T H=>some (.mp id ((H id).ver+1) 0 0,upd H id ⟨(H id).ver+1,true,false,ty,(ev T a).cells.length,[(ev T a).cells]⟩)
  | .build z ps=>fun call qa id T H=>(bld z (ps.map fun p=>(p.1,p.2.1,ev T p.2.2))).map fun cs=>(.agg cs,H)
  | .bslice ty esz own z len ps=>fun call qa id T H=>(lU esz (List.replicate len z) (ps.map fun p=>(p.1,ev T p.2))).map fun rows=>
      if own then (.ms id ((H id).ver+1) 0 rows.length,upd H id ⟨(H id).ver+1,true,false,ty,esz,rows⟩) else (.sl rows,H)
  | .load agg n a=>fun call qa id T H=>((ptr H (ev T a)).bind (ldV agg n)).map fun v=>(v,H)
  | .ldp agg n a=>fun call qa id T H=>((aHB (ev T a)).bind (ldV agg n)).map fun v=>(v,H)
  | .store n a b=>fun call qa id T H=>(stP H n (ev T b).cells (ev T a)).map fun H'=>(.raw undef,H')
  | .bin op a b=>fun call qa id T H=>(fV op (ev T a) (ev T b)).map fun v=>(v,H)
  | .sbin op a b=>fun call qa id T H=>(sH op (ev T a) (ev T b)).map fun v=>(v,H)
  | .bbin op a b=>fun call qa id T H=>(nB op (ev T a) (ev T b)).map fun v=>(v,H)
  | .abin neg q a b=>fun call qa id T H=>(oQ neg q (ev T a) (ev T b)).map fun v=>(v,H)
  | .un op a=>fun call qa id T H=>(unV op (ev T a)).map fun v=>(v,H)
  | .conv kd a=>fun call qa id T H=>(yD kd (ev T a)).map fun v=>(v,H)
  | .fld off a=>fun call qa id T H=>(aAg off (ev T a)).map fun v=>(v,H)
  | .part agg off n a=>fun call qa id T H=>(sV agg off n (ev T a)).map fun v=>(v,H)
  | .idx esz a i=>fun call qa id T H=>(qK H esz (ev T a) (ev T i)).map fun v=>(v,H)
  | .sidx a i=>fun call qa id T H=>(aB5 (ev T a) (ev T i)).map fun v=>(v,H)
  | .aidx agg n len a i=>fun call qa id T H=>(yN agg n len (ev T a) (ev T i)).map fun v=>(v,H)
  | .apos n len a i=>fun call qa id T H=>(xI n len (ev T a) (ev T i)).map fun v=>(v,H)
  | .slice esz a lo hi=>fun call qa id T H=>(kM H esz (lo.map (ev T)) (hi.map (ev T)) (ev T a)).map fun v=>(v,H)
  | .sslice a lo hi=>fun call qa id T H=>(qU (lo.map (ev T)) (hi.map (ev T)) (ev T a)).map fun v=>(v,H)
  | .mks ty esz bytes z l c=>fun call qa id T H=>(tN bytes (ev T l) (ev T c)).map fun n=>
      (.ms id ((H id).ver+1) 0 n.1,upd H id ⟨(H id).ver+1,true,false,ty,esz,List.replicate n.1 z⟩)
  | .ext a i=>fun call qa id T H=>(aFz i (ev T a)).map fun v=>(v,H)
  | .mkf f caps=>fun call qa id T H=>some (.fn f [] (evs T caps),H)
  | .bstr a=>fun call qa id T H=>(aBu (ev T a)).map fun v=>(v,H)
  | .mkm f a b=>fun call qa id T H=>some (.fn f (evs T a) (evs T b),H)
  | .mki ty a=>fun call qa id T H=>(aF8 (ev T a)).map fun c=>(.raw (.iface ty c),H)
  | .tas ty a=>fun call qa id T H=>(aGv ty (ev T a)).map fun v=>(v,H)
  | .nilck a=>fun call qa id T H=>(zL (ev T a)).map fun v=>(v,H)
  | .len a=>fun call qa id T H=>(xE H (ev T a)).map fun v=>(v,H)
  | .clr z a=>fun call qa id T H=>(aE3 H z (ev T a)).map fun H'=>(.tup [],H')
  | .cpy n a b=>fun call qa id T H=>(aGi H n (ev T b) (ev T a)).map fun p=>(.int .i64 p.1,p.2)
  | .slen a=>fun call qa id T H=>(xU (ev T a)).map fun v=>(v,H)
  | .mn a b=>fun call qa id T H=>(mnV (ev T a) (ev T b)).map fun v=>(v,H)
  | .mn3 a b c=>fun call qa id T H=>((mnV (ev T a) (ev T b)).bind fun u=>mnV u (ev T c)).map fun v=>(v,H)
  | .mx a b=>fun call qa id T H=>(mxV (ev T a) (ev T b)).map fun v=>(v,H)
  | .append ty esz bytes s a => fun call qa id T H => match ev T s with
    | .ms i ver off len => if (H i).live && decide ((H i).ver = ver) then if off = 0 then if len = (H i).rows.length then if (H i).ty = ty then if (H i).sz = esz then
        match pV H (ev T a) with
        | some new => if cZ esz new = true then if (len + new.length) * bytes ≤ 140737488355328 then if len + new.length ≤ 9223372036854775807 then
            some (.ms i (ver+1) 0 (len+new.length),upd H i {H i with ver:=ver+1,rows:=(H i).rows++new})
          else none else none else none
        |none=>none
        else none else none else none else none else none
    |_=>none
  | .call true f args=>fun call qa id T H=>call true f (evs T args) H
  | .call false f args => fun call qa id T H => match qa.p f (evs T args) with
    |some v=>some (v,H)
    |none=>call false f (evs T args) H
  | .callA f args=>fun call qa id T H=>(qa.a id f (evs T args) H).map fun p=>(p.1,upd H id p.2)
  | .callv e g args => fun call qa id T H => match ev T g with
    | .fn f first caps=>call e f (first++evs T args++caps) H
    |_=>none
  | .isnil neg a => fun call qa id T H => match ev T a with
    | .nilsl=>some (.bool (!neg),H)
    | .sl (_::_)=>some (.bool neg,H)
    |_=>none
  | .mkmap=>fun call qa id T H=>some (.mm id ((H id).ver+1),upd H id ⟨(H id).ver+1,true,true,gI,2,[[.nilp,.nilp]]⟩)
  | .mlook kd ok z m x=>fun call qa id T H=>(uQ H kd z (ev T m) (ev T x)).map fun p=>(if ok then .tup [p.1,.bool p.2] else p.1,H)
  | .mset kd m x v=>fun call qa id T H=>(wF H kd (ev T m) (ev T x) (ev T v)).map fun H'=>(.raw undef,H')
  | .bad=>fun call qa id T H=>none
theorem aN2 (call:iT) (qa:PrimA) (id:Nat) (x:X) (T:Nat→V) (H:aF):exY x call qa id T H=exX call qa id x T H:=by
  cases x <;> try rfl
  rename_i e f args; cases e <;> rfl
noncomputable def aEH (call:iT) (qa:PrimA) (k0:Nat) (o:SO) (ih:TT→aF→Option (TT×aF)) (T:TT) (H:aF):Option (TT×aF):=match exY o.x call qa (k0+o.d.getD 0) (fW T) H with
  | some (v, H') => match aJB T o.d v with
    |some T'=>ih T' H'
    |none=>none
  |none=>none
noncomputable def aLx (o:SO) (ih:TT→aF→Option (TT×aF)) (T:TT) (H:aF):Option (TT×aF):=match aJB T o.d (.raw undef) with
  |some T'=>ih T' H
  |none=>none
noncomputable def aFO (call:iT) (qa:PrimA) (k0:Nat) (o:SO) (ih:TT→aF→Option (TT×aF)) (T:TT) (H:aF):Option (TT×aF):=match o.g with
  |none=>aEH call qa k0 o ih T H
  | some (t, want) => match gd want (fW T t) with
    |true=>aEH call qa k0 o ih T H
    |false=>aLx o ih T H
noncomputable def nZ (call:iT) (qa:PrimA) (k0:Nat) (ops:List SO):TT→aF→Option (TT×aF):=
  List.rec (motive:=fun _=>TT→aF→Option (TT×aF)) (fun T H=>some (T,H)) (fun o _ ih T H=>aFO call qa k0 o ih T H) ops
def aAj (a b:iT):Prop:= ∀ e f args H r,a e f args H=some r→b e f args H=some r
theorem aQ0 {c2 c1:iT} (hc:aAj c2 c1) {qa:PrimA} {id:Nat} {x:X} {T:Nat→V} {H:aF} {r:V×aF} (h:exX c2 qa id x T H=some r):exX c1 qa id x T H=some r:=by
  cases x <;> simp only [exX] at h ⊢ <;> try exact h
  case call e f args=>
    cases e with
    |true=>exact hc _ _ _ _ _ h
    | false =>
      simp only at h ⊢
      split
      · rename_i v hv; rw [hv] at h; exact h
      · rename_i hv; rw [hv] at h; exact hc _ _ _ _ _ h
  case callv e g args=>
    split
    · rename_i f first caps he; rw [he] at h; exact hc _ _ _ _ _ h
    · rename_i hn
      split at h
      · rename_i f first caps he; exact absurd he (hn f first caps)
      · exact h
theorem oE {c2 c1 : iT} (hc : aAj c2 c1) {qa : PrimA} {k0 : Nat} : ∀ (ops : List SO) (T : TT) (H : aF) (T' : TT) (H' : aF), T.Dp 9 → nZ c2 qa k0 ops T H = some (T', H') → T'.Dp 9 ∧ lX c1 qa k0 ops (fW T) H = some (fW T', H')
  |[],T,H,T',H',hd,h=>by cases h; exact ⟨hd,rfl⟩
  | o :: r, T, H, T', H', hd, h => by
    have h:aFO c2 qa k0 o (nZ c2 qa k0 r) T H=some (T',H'):=h
    have one:aEH c2 qa k0 o (nZ c2 qa k0 r) T H=some (T',H')→T'.Dp 9∧ ∃ v H1,exX c1 qa (k0+o.d.getD 0) o.x (fW T) H=some (v,H1)∧lX c1 qa k0 r (fF (fW T) o.d v) H1=some (fW T',H'):=fun h=>by
      unfold aEH at h
      rw [aN2] at h
      split at h
      · rename_i v H1 h1
        split at h
        · rename_i T1 hp
          obtain ⟨d1,e1⟩:=xM hd hp
          obtain ⟨d2,e2⟩:=oE hc r T1 H1 T' H' d1 h
          exact ⟨d2,v,H1,aQ0 hc h1,by rw [← e1]; exact e2⟩
        · cases h
      · cases h
    unfold aFO at h
    simp only [lX]
    split at h
    · rename_i hg
      obtain ⟨d2,v,H1,e1,e2⟩:=one h
      refine ⟨d2,?_⟩
      rw [hg]; simp only
      rw [e1]; exact e2
    · rename_i t want hg
      split at h
      · rename_i hb
        obtain ⟨d2,v,H1,e1,e2⟩:=one h
        refine ⟨d2,?_⟩
        rw [hg]; simp only
        rw [hb]; simp only
        rw [e1]; exact e2
      · rename_i hb
        unfold aLx at h
        split at h
        · rename_i T1 hp
          obtain ⟨d1,e1⟩:=xM hd hp
          obtain ⟨d2,e2⟩:=oE hc r T1 H T' H' d1 h
          refine ⟨d2,?_⟩
          rw [hg]; simp only
          rw [hb]; simp only
          rw [← e1]; exact e2
        · cases h
noncomputable def vR:List (Nat ⊕ LzA)→TT→aF→TT×aF
  |[],T,H=>(T,H)
  | .inl id::l,T,H=>vR l (T.map (aJh id H)) (jZ id H)
  | .inr a :: l, T, H => match (H a.id).rows with
    | r :: _ => match r[a.off]? with
      |some .nilsl=>if a.id'≠a.id∧(H a.id).own=true∧a.ty < 4294967296 then
          vR l T (upd (upd H a.id' ⟨(H a.id').ver+1,true,true,a.ty,a.sz,[]⟩) a.id {H a.id with rows:=(H a.id).rows.set 0 (r.set a.off (.ms a.id' ((H a.id').ver+1) 0 0))}) else vR l T H
      |_=>vR l T H
    |[]=>vR l T H
theorem kV : ∀ (l : List (Nat ⊕ LzA)) (T : TT) (H : aF), T.Dp 9 → (vR l T H).1.Dp 9 ∧ frz l (fW T) H = (fW (vR l T H).1, (vR l T H).2)
  |[],_,_,h=>⟨h,rfl⟩
  | .inl id :: l, T, H, h => by
    simp only [vR,frz]
    rw [← aGJ]
    exact kV l _ _ (TT.map_dp h)
  | .inr a :: l, T, H, h => by
    simp only [vR,frz]
    cases hr:(H a.id).rows with
    |nil=>exact kV l _ _ h
    | cons r rs =>
      simp only
      cases hc:r[a.off]? with
      |none=>exact kV l _ _ h
      | some u =>
        cases u <;> simp only <;> try exact kV l _ _ h
        split <;> exact kV l _ _ h
noncomputable def aAM (F:Nat→Option XF) (run:aBi) (k1:Nat):iT:=fun e f args H=>match F f with
  |none=>none
  | some g => if args.length ≤ g.s.n ∧ args.length ≤ 512 then match e with
    | true => match run k1 g.s.n g.fz g.s.body (tt0 args) H with
      |some (.exit _,_,_)=>none
      |some (.pan _,_,_)=>none
      |some (_,T',H')=>(oD g.s.res (fW T') H').map fun v=>(v,H')
      |none=>none
    | false => if cY (args.map (fzv false H 4)) then match run 0 g.s.n g.fz g.s.body (tt0 (args.map (fzv false H 4))) H0 with
        |some (.exit _,_,_)=>none
        |some (.pan _,_,_)=>none
        | some (_, T', H') => match oD g.s.res (fW T') H' with
          |some u=>if (fzv false H' 6 u).pure then if cY args||(fzv false H' 6 u).scalar then some (fzv false H' 6 u,H) else none else none
          |none=>none
        |none=>none
      else none
    else none
noncomputable def sM (q:jR) (F:Nat→Option XF) (run:aBi) (k1:Nat):iT:=fun e f args H=>match e with
  | true => match q f args H with
    |some r=>some r
    |none=>aAM F run k1 true f args H
  |false=>aAM F run k1 false f args H
noncomputable def aLP (c:SC):jR→PrimA→(Nat→Option XF)→aBi→Nat→Nat→List (Nat×Nat)→TT→aF→Option (Ex×TT×aF):=match c with
  | .skip=>fun q qa F run k0 n fz T H=>some (.norm,T,H)
  | .ret=>fun q qa F run k0 n fz T H=>some (.ret,T,H)
  | .exit j=>fun q qa F run k0 n fz T H=>some (.exit j,T,H)
  | .pop _ _=>fun q qa F run k0 n fz T H=>none
  | .reg ops => fun q qa F run k0 n fz T H => match nZ (sM q F run (kOf k0 fz H ops + n)) qa (kOf k0 fz H ops) ops T H with
    |some (T',H')=>some (.norm,T',H')
    |none=>none
  | .dreg fY ops => fun q qa F run k0 n fz T H => if fY.all (fun d => !(H (kOf k0 fz H ops + d)).live) then match nZ (sM q F run (kOf k0 fz H ops + n)) qa (kOf k0 fz H ops) ops T H with
    |some (T',H')=>some (.norm,T',H')
    |none=>none
    else none
  | .xreg ps ops => fun q qa F run k0 n fz T H => match nZ (sM q F run (kOf k0 fz H ops + n)) qa (kOf k0 fz H ops) ops T H with
    |some (T',H')=>if ddB ps ops (fW T')=true then some (.norm,T',H') else none
    |none=>none
  | .seq a b => fun q qa F run k0 n fz T H => match run k0 n fz a T H with
    | some (.norm, T', H') => match vR (aBb k0 fz b) T' H' with
      |(T2,H2)=>run k0 n fz b T2 H2
    |r=>r
  | .cond c a b => fun q qa F run k0 n fz T H => match asB (ev (fW T) c) with
    |some true=>run k0 n fz a T H
    |some false=>run k0 n fz b T H
    |none=>none
  | .block id a => fun q qa F run k0 n fz T H => match run k0 n fz a T H with
    |some (.exit j,T',H')=>if j=id then some (.norm,T',H') else some (.exit j,T',H')
    |r=>r
  | .loop a => fun q qa F run k0 n fz T H => match run k0 n fz a T H with
    |some (.norm,T',H')=>run k0 n fz (.loop a) T' H'
    |r=>r
noncomputable def aNR (q:jR) (qa:PrimA) (F:Nat→Option XF) (run:aBi):aBi:=fun k0 n fz c T H=>aLP c q qa F run k0 n fz T H
noncomputable def aAs (q:jR) (qa:PrimA) (F:Nat→Option XF) (m:Nat):aBi:=Nat.rec (fun _ _ _ _ _ _=>none) (fun _ ih=>aNR q qa F ih) m
theorem aFt (q:jR) (qa:PrimA) (F:Nat→Option XF) (m:Nat):aAs q qa F (m+1)=aNR q qa F (aAs q qa F m):=rfl
section
variable {q:jR} {qa:PrimA} {F:Nat→Option XF}
def Sim (r2:aBi) (r:wT):Prop:= ∀ k0 n fz c T H e T' H',TT.Dp 9 T→r2 k0 n fz c T H=some (e,T',H')→TT.Dp 9 T'∧r k0 n fz c (fW T) H=some (e,fW T',H')
theorem aCr {r2 : aBi} {r : wT} (h : Sim r2 r) {k1 : Nat} : aAj (sM q F r2 k1) (mE q F r k1) := by
  have h0 : aAj (aAM F r2 k1) (rY F r k1) := by
    intro e f args H o ho
    unfold aAM at ho
    unfold rY
    split at ho
    · cases ho
    · rename_i g hg
      rw [hg]; simp only
      split at ho
      · rename_i hl
        rw [if_pos hl.1]
        cases e with
        | true =>
          simp only at ho ⊢
          obtain ⟨d0,e0⟩:=aBp hl.2
          cases hr:r2 k1 g.s.n g.fz g.s.body (tt0 args) H with
          |none=>rw [hr] at ho; cases ho
          | some p =>
            obtain ⟨x,T',H'⟩:=p
            obtain ⟨_,e1⟩:=h _ _ _ _ _ _ _ _ _ d0 hr
            rw [hr] at ho
            rw [← e0,e1]
            cases x <;> exact ho
        | false =>
          simp only at ho ⊢
          split at ho
          · rename_i hp
            rw [if_pos hp]
            obtain ⟨d0,e0⟩:=aBp (args:=args.map (fzv false H 4)) (by rw [List.length_map]; exact hl.2)
            cases hr:r2 0 g.s.n g.fz g.s.body (tt0 (args.map (fzv false H 4))) H0 with
            |none=>rw [hr] at ho; cases ho
            | some p =>
              obtain ⟨x,T',H'⟩:=p
              obtain ⟨_,e1⟩:=h _ _ _ _ _ _ _ _ _ d0 hr
              rw [hr] at ho
              rw [← e0,e1]
              cases x <;> exact ho
          · cases ho
      · cases ho
  intro e f args H o ho
  cases e with
  |false=>exact h0 false f args H o ho
  | true =>
    simp only [sM] at ho
    simp only [mE]
    split
    · rename_i r1 hq; rw [hq] at ho; exact ho
    · rename_i hq; rw [hq] at ho; exact h0 _ _ _ _ _ ho
theorem aFQ : ∀ m, Sim (aAs q qa F m) (run q qa F m) := by
  intro m
  induction m with
  |zero=>intro k0 n fz c T H e T' H' _ h; cases h
  | succ m ih =>
    intro k0 n fz c T H e T' H' hd h
    rw [aFt] at h
    rw [qQ]
    have ops: ∀ {os:List SO} {k:Nat} {T1:TT} {H1:aF},nZ (sM q F (aAs q qa F m) (k+n)) qa k os T H=some (T1,H1)→TT.Dp 9 T1∧lX (mE q F (run q qa F m) (k+n)) qa k os (fW T) H=some (fW T1,H1):=
      fun h=>oE (aCr ih) _ _ _ _ _ hd h
    cases c <;> simp only [aNR,aLP] at h <;> simp only [aHd]
    case skip=>cases h; exact ⟨hd,rfl⟩
    case ret=>cases h; exact ⟨hd,rfl⟩
    case exit=>cases h; exact ⟨hd,rfl⟩
    case pop=>cases h
    case reg os=>
      split at h
      · rename_i T1 H1 h1
        cases h
        obtain ⟨a,b⟩:=ops h1
        exact ⟨a,by rw [b]; rfl⟩
      · cases h
    case dreg fY os=>
      split at h
      · rename_i hl
        rw [if_pos hl]
        split at h
        · rename_i T1 H1 h1
          cases h
          obtain ⟨a,b⟩:=ops h1
          exact ⟨a,by rw [b]; rfl⟩
        · cases h
      · cases h
    case xreg ps os=>
      split at h
      · rename_i T1 H1 h1
        obtain ⟨a,b⟩:=ops h1
        split at h
        · rename_i hdd
          cases h
          exact ⟨a,by rw [b]; simp only; rw [if_pos hdd]⟩
        · cases h
      · cases h
    case seq a b=>
      cases hr:aAs q qa F m k0 n fz a T H with
      |none=>rw [hr] at h; cases h
      | some p =>
        obtain ⟨x,T1,H1⟩:=p
        rw [hr] at h
        obtain ⟨d1,e1⟩:=ih _ _ _ _ _ _ _ _ _ hd hr
        rw [e1]
        cases x with
        | norm =>
          simp only at h ⊢
          obtain ⟨d2,e2⟩:=kV (aBb k0 fz b) T1 H1 d1
          rw [e2]
          exact ih _ _ _ _ _ _ _ _ _ d2 h
        |ret=>cases h; exact ⟨d1,rfl⟩
        |exit j=>cases h; exact ⟨d1,rfl⟩
        |pan c=>cases h; exact ⟨d1,rfl⟩
    case cond c a b=>
      split at h
      · rename_i hb; rw [hb]; exact ih _ _ _ _ _ _ _ _ _ hd h
      · rename_i hb; rw [hb]; exact ih _ _ _ _ _ _ _ _ _ hd h
      · cases h
    case block id a=>
      cases hr:aAs q qa F m k0 n fz a T H with
      |none=>rw [hr] at h; cases h
      | some p =>
        obtain ⟨x,T1,H1⟩:=p
        rw [hr] at h
        obtain ⟨d1,e1⟩:=ih _ _ _ _ _ _ _ _ _ hd hr
        rw [e1]
        cases x with
        | exit j =>
          simp only at h ⊢
          split at h
          · rename_i hj; cases h; exact ⟨d1,by rw [if_pos hj]⟩
          · rename_i hj; cases h; exact ⟨d1,by rw [if_neg hj]⟩
        |norm=>cases h; exact ⟨d1,rfl⟩
        |ret=>cases h; exact ⟨d1,rfl⟩
        |pan c=>cases h; exact ⟨d1,rfl⟩
    case loop a=>
      cases hr:aAs q qa F m k0 n fz a T H with
      |none=>rw [hr] at h; cases h
      | some p =>
        obtain ⟨x,T1,H1⟩:=p
        rw [hr] at h
        obtain ⟨d1,e1⟩:=ih _ _ _ _ _ _ _ _ _ hd hr
        rw [e1]
        cases x with
        |norm=>exact ih _ _ _ _ _ _ _ _ _ d1 h
        |ret=>cases h; exact ⟨d1,rfl⟩
        |exit j=>cases h; exact ⟨d1,rfl⟩
        |pan c=>cases h; exact ⟨d1,rfl⟩
theorem aAk {P:Program} (hq:fU P q) (hqa:eQ P qa) (hF:aBL P F) (m:Nat) {f:Nat} {args:List V} {v:V} (hp:cY args=true) (h:(sM q F (aAs q qa F m) 0 false f args H0).map (·.1)=some v):bB P f args v:=by
  rw [Option.map_eq_some_iff] at h
  obtain ⟨p,h1,h2⟩:=h
  exact aAT hq hqa hF m hp (by rw [aCr (aFQ m) _ _ _ _ _ h1]; exact congrArg some h2)
inductive FT where
  |lf
  |nd (k:Nat) (x:XF) (l r:FT)
def FT.find:FT→Nat→Option XF
  | .lf,_=>none
  | .nd k x l r,f=>cond (Nat.beq f k) (some x) (cond (Nat.blt f k) (l.find f) (r.find f))
def FT.list:FT→List (Nat×XF)
  | .lf=>[]
  | .nd k x l r=>(k,x)::(l.list++r.list)
theorem FT.mem: ∀ {t:FT} {f:Nat} {g:XF},t.find f=some g→(f,g)∈t.list
  | .nd k x l r, f, g, h => by
    simp only [FT.find] at h
    cases hb:Nat.beq f k with
    | true =>
      rw [hb] at h
      simp only [cond_true,Option.some.injEq] at h
      rw [Nat.eq_of_beq_eq_true hb,h]
      exact List.mem_cons_self ..
    | false =>
      rw [hb] at h
      simp only [cond_false] at h
      refine List.mem_cons_of_mem _ (List.mem_append.2 ?_)
      cases hc:Nat.blt f k with
      |true=>rw [hc] at h; exact .inl (FT.mem h)
      |false=>rw [hc] at h; exact .inr (FT.mem h)
theorem FT.good {P:Program} {t:FT} (h: ∀ p∈t.list,aTq P p):aBL P t.find:=fun f g hg=>h _ (FT.mem hg)
end
def eqL (f:V→V→Bool):List V→List V→Bool
  |[],[]=>true
  |a::l,b::m=>f a b&&eqL f l m
  |_,_=>false
def aKC (f:V→V→Bool):List (List V)→List (List V)→Bool
  |[],[]=>true
  |a::l,b::m=>eqL f a b&&aKC f l m
  |_,_=>false
def eqV : Nat → V → V → Bool
  |0,_,_=>false
  | n + 1, u, v => match u, v with
    | .int .i64 a,.int .i64 b=>decide (a=b)
    | .bool a,.bool b=>a==b
    | .sl a,.sl b=>aKC (eqV n) a b
    | .agg a,.agg b=>eqL (eqV n) a b
    | .nilsl,.nilsl=>true
    |_,_=>false
theorem mV {f:V→V→Bool} (hf: ∀ a b,f a b=true→a=b): ∀ {l m:List V},eqL f l m=true→l=m
  |[],[],_=>rfl
  | a :: l, b :: m, h => by
    simp only [eqL,Bool.and_eq_true] at h
    rw [hf _ _ h.1,mV hf h.2]
  |[],_::_,h=>by cases h
  |_::_,[],h=>by cases h
theorem vU {f:V→V→Bool} (hf: ∀ a b,f a b=true→a=b): ∀ {l m:List (List V)},aKC f l m=true→l=m
  |[],[],_=>rfl
  | a :: l, b :: m, h => by
    simp only [aKC,Bool.and_eq_true] at h
    rw [mV hf h.1,vU hf h.2]
  |[],_::_,h=>by cases h
  |_::_,[],h=>by cases h
theorem rU: ∀ (n:Nat) (u v:V),eqV n u v=true→u=v
  |0,_,_,h=>by cases h
  | n + 1, u, v, h => by
    unfold eqV at h
    split at h
    · rw [of_decide_eq_true h]
    · rw [eq_of_beq h]
    · rw [vU (rU n) h]
    · rw [mV (rU n) h]
    · rfl
    · cases h
abbrev gV:=Nat×List V×V
def aRF (l:List gV):PrimA:=⟨fun _ _ _ _=>none,fun f args=>(l.find? fun p=>Nat.beq p.1 f&&eqL (eqV 12) p.2.1 args).map (·.2.2)⟩
theorem aIp {P:Program} {l:List gV} (h: ∀ p∈l,bB P p.1 p.2.1 p.2.2):eQ P (aRF l):=
  ⟨fun _ _ _ _ _ _ h=>(by cases h),fun f args v hv=>by
    obtain ⟨p,hp,rfl⟩:=Option.map_eq_some_iff.1 hv
    have h1:=List.find?_some hp
    rw [Bool.and_eq_true] at h1
    have h2:=h p (List.mem_of_find?_eq_some hp)
    rw [Nat.eq_of_beq_eq_true h1.1,mV (rU 12) h1.2] at h2
    exact h2⟩
def orB (a b:PrimA):PrimA:=⟨fun id f args H=>match a.a id f args H with
  |some r=>some r
  |none=>b.a id f args H,fun f args=>match a.p f args with
  |some r=>some r
  |none=>b.p f args⟩
theorem aPd {P:Program} {a b:PrimA} (ha:eQ P a) (hb:eQ P b):eQ P (orB a b):=
  ⟨fun id f args H v bb h=>by
    simp only [orB] at h
    split at h
    · rename_i r hr; cases h; exact ha.1 _ _ _ _ _ _ hr
    · exact hb.1 _ _ _ _ _ _ h,fun f args v h=>by
    simp only [orB] at h
    split at h
    · rename_i r hr; cases h; exact ha.2 _ _ _ hr
    · exact hb.2 _ _ _ h⟩
end Go.Proofs.YtilfohjlglefjaaGreat
namespace Go.Proofs.YtilfohjlglefjaaGreat
open Go Go.Proofs
def s56:SF:=⟨8,[.tmp 2],.seq (.reg [sO 2 (.lazy 3 1)]) (.seq (.seq (.reg [qM 3 0,sO 4 (.isnil false (.t 3))]) (.cond (.t 4) (.seq (.reg [sO 2 (.lazy 3 1)]) (.ret)) (.skip))) (.seq (.reg [sO 5 (.lazy 3 1),qM 6 0,sO 7 (.append 3 1 8 (.t 5) (.t 6)),qM 2 7]) (.ret)))⟩
theorem aCP:aL Tryz.prog ⟨[58,129,130,131,149,155,161,182,183,185,191,192,208,209,210,224,228,231,236],[2,5],[],[]⟩ Tryz.f56=some s56:=by kernel_rfl
theorem oC (l:List Int) (hl:l.length≤4294967296):bB Tryz.prog 56 [(aS l)] (aS l):=by
 refine pW Tryz.func56 aCP fun hB=>?_
 unfold s56
 dsimp only
 refine W_r (iP (i:=2) (n:=0) rfl (congrArg Blk.ver rfl) (R_e (aC (mW fun K hK=>(aA rfl ?_)))))
 refine pA (@rfl V (aS l)) (fun e1=>?_) ?_
 ·
  replace e1:=List.map_eq_nil_iff.1 e1
  refine iK (hK _ _ ?_); clear hK K
  refine dE (R:=fun T H=>T 0=(aS l)∧T 4=(V.bool true)∧H 2=(bz 1 3 1 [])∧H 5=(⟨0,false,false,0,0,[]⟩:Blk)∧True) ⟨rfl,rfl,rfl,rfl,trivial⟩ ?_
  intro T H ⟨t0,t4,h2,h5,_⟩
  refine eC t4 (fun c4=>?_) (fun c4=>?_)
  ·
   refine aC (W_r (iP (i:=2) (n:=1) rfl (congrArg Blk.ver h2) (R_e (aU ?_))))
   refine bH (@rfl V (V.ms 2 2 0 (0))) (nS (@rfl Blk (bz 2 3 1 [])) (by first|rfl|simp) (l:=[]) rfl (by first|rfl|simp) (fun _=>by simp) ?_)
   · exact e1.symm
  · cases c4
 ·
  refine iK (hK _ _ ?_); clear hK K
  refine dE (R:=fun T H=>T 0=(aS l)∧T 4=(V.bool false)∧H 2=(bz 1 3 1 [])∧H 5=(⟨0,false,false,0,0,[]⟩:Blk)∧True) ⟨rfl,rfl,rfl,rfl,trivial⟩ ?_
  intro T H ⟨t0,t4,h2,h5,_⟩
  refine eC t4 (fun c7=>?_) (fun c7=>?_)
  · cases c7
  refine aH (W_r (iP (i:=5) (n:=0) rfl (congrArg Blk.ver h5) (aA t0 (nG (l:=([])) (m:=l) (f:=cI) (@rfl V (V.ms 5 1 0 (0))) (show _=(bz 1 3 1 (List.map cI ([]))) from (@rfl Blk (bz 1 3 1 []))) (by first|rfl|simp) (@rfl V (aS l)) (fun _=>rfl) (fun _=>rfl) (by omega) (by omega) (aA rfl (R_e (bK ?_)))))))
  refine bH (@rfl V (V.ms 5 2 0 (0+(l).length))) (nS (@rfl Blk (bz 2 3 1 (List.map cI ([]++l)))) (by first|rfl|simp) (l:=([]++l)) rfl (by first|rfl|simp) (fun _=>by simp) ?_)
  · rfl
theorem aGn (i:Nat) (h5:5≤i) (l:List Int) (u:Nat) (Hi:aF) (hq:(Hi i).ver=u) (hl:l.length≤4294967296):dG Tryz.prog 56 [(aS l)] Hi (V.ms i (u+3) 0 (l.length)) (upd Hi i (bz (u+3) 3 1 (List.map cI (l)))):=by
 refine eW (k0:=i - 2) Tryz.func56 aCP fun hB=>?_
 unfold s56
 dsimp only
 refine W_r (iP (i:=i) (n:=u) (by omega) hq (R_e (aC (mW fun K hK=>(aA rfl ?_)))))
 refine pA (@rfl V (aS l)) (fun e1=>?_) ?_
 ·
  replace e1:=List.map_eq_nil_iff.1 e1
  refine iK (hK _ _ ?_); clear hK K
  refine dE (R:=fun T H=>T 0=(aS l)∧T 4=(V.bool true)∧(∀ j,j∉[i]→H j=Hi j)∧H i=(bz (u+1) 3 1 [])∧True) ⟨rfl,rfl,(eX (fun _ _=>rfl) (by simp)),(aE _ _ _),trivial⟩ ?_
  intro T H ⟨t0,t4,hF,hi,_⟩
  refine eC t4 (fun c4=>?_) (fun c4=>?_)
  ·
   refine aC (W_r (iP (i:=i) (n:=(u+1)) (by omega) (congrArg Blk.ver hi) (R_e (aU (dE (R:=fun T H=>T 2=(V.ms i (u+2) 0 (0))∧(∀ j,j∉[i]→H j=Hi j)∧H i=(bz (u+2) 3 1 [])∧True) ⟨(@rfl V (V.ms i (u+2) 0 (0))),(eX hF (by simp)),(aE _ _ _),trivial⟩ ?_)))))
   intro T H ⟨t2,hF,hi,_⟩
   skip
   have fh:=fE.fin (fE.put (B:=(bz (u+3) 3 1 (List.map cI (l)))) (fE.start hF) hi (jQ.up (by omega) (by first|rfl|(rw [e1]; rfl)|simp)))
   exact jP t2 fh (fK.trans_eq (fK.ms (n:=(u+3)) fh (by simp [hi]) (by simp [hi]) (by simp) (by simp)) (by first|rfl|(rw [e1]; rfl)|simp))
  · cases c4
 ·
  refine iK (hK _ _ ?_); clear hK K
  refine dE (R:=fun T H=>T 0=(aS l)∧T 4=(V.bool false)∧(∀ j,j∉[i]→H j=Hi j)∧H i=(bz (u+1) 3 1 [])∧True) ⟨rfl,rfl,(eX (fun _ _=>rfl) (by simp)),(aE _ _ _),trivial⟩ ?_
  intro T H ⟨t0,t4,hF,hi,_⟩
  refine eC t4 (fun c7=>?_) (fun c7=>?_)
  · cases c7
  refine aH (aRo (i - 5) (iP (i:=i) (n:=(u+1)) (by omega) (congrArg Blk.ver hi) (aA t0 (nG (l:=([])) (m:=l) (f:=cI) (@rfl V (V.ms i (u+2) 0 (0))) (show _=(bz (u+2) 3 1 (List.map cI ([]))) from (aE _ _ _)) (by first|rfl|simp) (@rfl V (aS l)) (fun _=>rfl) (fun _=>rfl) (by omega) (by omega) (aA rfl (R_e (bK ?_)))))))
  refine dE (R:=fun T H=>T 2=(V.ms i (u+3) 0 (0+(l).length))∧(∀ j,j∉[i]→H j=Hi j)∧H i=(bz (u+3) 3 1 (List.map cI ([]++l)))∧True) ⟨(@rfl V (V.ms i (u+3) 0 (0+(l).length))),(eX (eX hF (by simp)) (by simp)),(aE _ _ _),trivial⟩ ?_
  intro T H ⟨t2,hF,hi,_⟩
  skip
  have fh:=fE.fin (fE.put (B:=(bz (u+3) 3 1 (List.map cI (l)))) (fE.start hF) hi (jQ.eq (by first|rfl|(rw [e1]; rfl)|simp)))
  exact jP t2 fh (fK.trans_eq (fK.same fh _) (by first|rfl|(rw [e1]; rfl)|simp))
def rW:List (List V)→Option (List Int)
  |[]=>some []
  |[.int .i64 n]::l=>(rW l).map (n:: ·)
  |_=>none
theorem nM: ∀ {rows:List (List V)} {l:List Int},rW rows=some l→rows=l.map cI
  |[],l,h=>by cases h; rfl
  | [.int .i64 n] :: r, l, h => by
    simp only [rW,Option.map_eq_some_iff] at h
    obtain ⟨m,h1,rfl⟩:=h
    rw [nM h1]; rfl
def nE : PrimA := ⟨fun id g args H => if g = 56 ∧ 5 ≤ id then match args with
    | [.sl rows] => match rW rows with
      |some l=>if l.length≤4294967296 then some (.ms id ((H id).ver+3) 0 l.length,⟨(H id).ver+3,true,true,3,1,l.map cI⟩) else none
      |none=>none
    |[.nilsl]=>some (.ms id ((H id).ver+3) 0 0,⟨(H id).ver+3,true,true,3,1,[]⟩)
    |_=>none
  else none,fun g args=>if g=56 then match args with
    | [.sl rows] => match rW rows with
      |some l=>if l.length≤4294967296 then some (.sl (l.map cI)) else none
      |none=>none
    |_=>none
  else none⟩
theorem xF {P:Program} {f:Nat} {H H':aF} {v:V} (h:dG P f [.sl []] H v H'):dG P f [.nilsl] H v H':=
  ⟨h.1,fun x cs hxH hx hr=>h.2 x cs hxH hx ⟨hr.1,fun j u hj=>by
    match j,hj with
    | 0, hj =>
      cases hj
      have q:=hr.2 0 _ rfl
      generalize hv:V.nilsl=w at q
      generalize cs.getD 0 undef=c at q ⊢
      cases q <;> cases hv
      exact .slnil
    |n+1,hj=>simp at hj⟩⟩
theorem aAZ : eQ Tryz.prog nE := by
  constructor
  · intro id g args H v b h
    unfold nE at h
    dsimp only at h
    split at h
    · rename_i hg
      obtain ⟨rfl,h5⟩:=hg
      split at h
      · rename_i rows
        split at h
        · rename_i l hl
          split at h
          · rename_i hn
            cases h
            refine ⟨rfl,fun H2 h2=>?_⟩
            rw [nM hl]
            exact aGn id h5 l _ H2 (by rw [h2]) hn
          · cases h
        · cases h
      · cases h
        refine ⟨rfl,fun H2 h2=>xF ?_⟩
        exact aGn id h5 [] _ H2 (by rw [h2]) (by decide)
      · cases h
    · cases h
  · intro g args v h
    unfold nE at h
    dsimp only at h
    split at h
    · rename_i hg
      subst hg
      split at h
      · rename_i rows
        split at h
        · rename_i l hl
          split at h
          · rename_i hn
            cases h
            rw [nM hl]
            exact oC l hn
          · cases h
        · cases h
      · cases h
    · cases h
def aOT:List SO:=[
 qM 16 5,
 qC 17 .add 16 1,
 qM 18 3,
 qN 19 18,
 qP 20 .eql 17 19,
 qM 21 20,
 ⟨some (21,false),some 22,.mv (.t 3)⟩,
 ⟨some (21,false),some 23,.mv (.t 5)⟩,
 ⟨some (21,false),some 24,.bin .add (.t 23) (.c (.int .i64 1))⟩,
 ⟨some (21,false),some 25,.idx 1 (.t 22) (.t 24)⟩,
 ⟨some (21,false),some 26,.load false 1 (.t 25)⟩,
 ⟨some (21,false),some 27,.mv (.t 6)⟩,
 ⟨some (21,false),some 28,.call false 170 [.t 26,.t 27]⟩,
 ⟨some (21,false),some 29,.un .not (.t 28)⟩,
 sO 30 (.pick (.t 21) (.c (.bool true)) (.t 29))]
def aHT:SC:=.seq (.reg [qP 12 .lss 11 10]) (.seq (.cond (.t 12) (.skip) (.exit 0)) (.seq (.block 1 (.seq (.reg [qM 13 11,qA 14 1 9 11,ql 15 14,qM 5 13,qM 6 15]) (.seq (.reg aOT) (.cond (.t 30) (.reg [qM 31 4,qM 32 6,sO 33 (.bslice 38 1 false [.nilsl] 1 [(0,.t 32)]),sO 34 (.append 38 1 24 (.t 31) (.t 33)),qM 4 34]) (.skip))))) (.reg [qC 35 .add 11 1,qM 11 35])))
def aS1:SF:=⟨38,[.tmp 2],.seq (.reg [sO 2 (.mv (.c (.nilsl)))]) (.seq (.reg [qM 7 0,sO 8 (.call false 168 [.t 7,.c (.fn 169 [] [])]),qM 3 8]) (.seq (.reg [sO 4 (.lazy 38 1)]) (.seq (.seq (.reg [qM 9 3,qN 10 9,qI 11 0]) (.block 0 (.loop aHT))) (.seq (.reg [qM 36 4,sO 37 (.call false 123 [.t 36]),qM 2 37]) (.ret)))))⟩
theorem aJ5:aL Tryz.prog ⟨[58,129,130,131,149,155,161,182,183,185,191,192,208,209,210,224,228,231,236],[4],[],[]⟩ Tryz.f122=some aS1:=by kernel_rfl
def aSJ:SF:=⟨5,[.tmp 2],.seq (.reg [sO 2 (.mv (.c (.nilsl)))]) (.seq (.reg [qM 3 0,sO 4 (.call false 168 [.t 3,.c (.fn 171 [] [])]),qM 2 4]) (.ret))⟩
theorem aJF:aL Tryz.prog ⟨[58,129,130,131,149,155,161,182,183,185,191,192,208,209,210,224,228,231,236],[],[],[]⟩ Tryz.f123=some aSJ:=by kernel_rfl
def aCN:SC:=.seq (.reg [qP 19 .lss 18 17]) (.seq (.cond (.t 19) (.skip) (.exit 0)) (.seq (.block 1 (.seq (.reg [qM 20 18,qA 21 1 16 18,ql 22 21,qM 6 20,qM 7 22]) (.reg [qM 23 5,qM 24 6,qM 25 7,sO 26 (.call false 56 [.t 25]),qA 27 1 23 24,sN (.store 1 (.t 27) (.t 26))]))) (.reg [qC 28 .add 18 1,qM 18 28])))
def aQy:SF:=⟨30,[.tmp 4],.seq (.reg [sO 3 (.box 255 1 (.t 1)),sO 4 (.mv (.c (.nilsl)))]) (.seq (.reg [qM 8 0,sO 9 (.call true 208 [.t 8]),qM 5 9]) (.seq (.reg [qM 10 5,ql 11 3,sO 12 (.call true 209 [.t 10,.t 11])]) (.seq (.reg [qM 13 5,sO 14 (.mkf 211 [.t 3]),sO 15 (.call true 210 [.t 13,.t 14]),qM 5 15]) (.seq (.seq (.reg [qM 16 5,qN 17 16,qI 18 0]) (.block 0 (.loop aCN))) (.seq (.reg [qM 29 5,qM 4 29]) (.ret))))))⟩
theorem aEt:aL Tryz.prog ⟨[58,129,130,131,149,155,161,182,183,185,191,192,208,209,210,224,228,231,236],[],[],[]⟩ Tryz.f168=some aQy:=by kernel_rfl
def aII:SF:=⟨8,[.tmp 4],.seq (.reg [qI 4 0]) (.seq (.reg [qM 5 0,qM 6 1,sO 7 (.call false 212 [.t 5,.t 6]),qM 4 7]) (.ret))⟩
theorem aDo:aL Tryz.prog ⟨[58,129,130,131,149,155,161,182,183,185,191,192,208,209,210,224,228,231,236],[],[],[]⟩ Tryz.f169=some aII:=by kernel_rfl
def aGL:SC:=.seq (.reg [qP 12 .lss 11 10]) (.seq (.cond (.t 12) (.skip) (.exit 0)) (.seq (.block 1 (.seq (.reg [qM 13 11,qA 14 1 9 11,ql 15 14,qM 5 13,qM 6 15]) (.seq (.seq (.reg [qM 16 5,qM 17 1,qN 18 17,qP 19 .geq 16 18]) (.cond (.t 19) (.seq (.reg [qI 4 1]) (.ret)) (.skip))) (.seq (.reg [qM 20 1,qM 21 5,qA 22 1 20 21,ql 23 22,qM 7 23]) (.seq (.reg [qM 24 6,qM 25 7,sO 26 (.call false 215 [.t 24,.t 25]),qM 8 26]) (.seq (.reg [qM 27 8,qC 28 .neq 27 0]) (.cond (.t 28) (.seq (.reg [qM 29 8,qM 4 29]) (.ret)) (.skip)))))))) (.reg [qC 30 .add 11 1,qM 11 30])))
def aKz:SF:=⟨36,[.tmp 4],.seq (.reg [qI 4 0]) (.seq (.seq (.reg [qM 9 0,qN 10 9,qI 11 0]) (.block 0 (.loop aGL))) (.seq (.seq (.reg [qM 31 0,qN 32 31,qM 33 1,qN 34 33,qP 35 .lss 32 34]) (.cond (.t 35) (.seq (.reg [sO 4 (.mv (.c (.int .i64 (-1))))]) (.ret)) (.skip))) (.seq (.reg [qI 4 0]) (.ret))))⟩
theorem aDn:aL Tryz.prog ⟨[58,129,130,131,149,155,161,182,183,185,191,192,208,209,210,224,228,231,236],[],[],[]⟩ Tryz.f212=some aKz:=by kernel_rfl
def aIa:SF:=⟨20,[.tmp 4],.seq (.reg [qI 4 0]) (.seq (.reg [qM 7 0,sO 8 (.call false 233 [.t 7]),qM 5 8]) (.seq (.reg [qM 9 1,sO 10 (.call false 233 [.t 9]),qM 6 10]) (.seq (.seq (.reg [qM 11 5]) (.cond (.t 11) (.seq (.seq (.reg [qM 12 6]) (.cond (.t 12) (.seq (.reg [qI 4 0]) (.ret)) (.skip))) (.seq (.reg [sO 4 (.mv (.c (.int .i64 (-1))))]) (.ret))) (.skip))) (.seq (.seq (.reg [qM 13 6]) (.cond (.t 13) (.seq (.reg [qI 4 1]) (.ret)) (.skip))) (.seq (.seq (.reg [qM 14 0,qM 15 1,qP 16 .lss 14 15]) (.cond (.t 16) (.seq (.reg [sO 4 (.mv (.c (.int .i64 (-1))))]) (.ret)) (.skip))) (.seq (.seq (.reg [qM 17 0,qM 18 1,qP 19 .gtr 17 18]) (.cond (.t 19) (.seq (.reg [qI 4 1]) (.ret)) (.skip))) (.seq (.reg [qI 4 0]) (.ret))))))))⟩
theorem aEF:aL Tryz.prog ⟨[58,129,130,131,149,155,161,182,183,185,191,192,208,209,210,224,228,231,236],[],[],[]⟩ Tryz.f215=some aIa:=by kernel_rfl
def aJS:SF:=⟨6,[.tmp 2],.seq (.reg [sO 2 (.mv (.c (.bool false)))]) (.seq (.reg [qM 3 0,qM 4 0,qP 5 .neq 3 4,qM 2 5]) (.ret))⟩
theorem aDU:aL Tryz.prog ⟨[58,129,130,131,149,155,161,182,183,185,191,192,208,209,210,224,228,231,236],[],[],[]⟩ Tryz.f233=some aJS:=by kernel_rfl
theorem uX (n:Int):bB Tryz.prog 233 [(iV (n))] (V.bool false):=by
 refine pW Tryz.func233 aDU fun hB=>?_
 unfold aJS
 dsimp only
 refine W_r (aA rfl (R_e (W_r (aA rfl (aA rfl (dQ rfl rfl (aA rfl ?_)))))))
 refine R_e (bK ?_)
 refine bH (@rfl V (V.bool (decide ((n)≠(n))))) (bU ?_)
 · simp
theorem tJ (x y:Int):bB Tryz.prog 215 [(iV (x)),(iV (y))] (iV (pN x y)):=by
 refine pW Tryz.func215 aEF fun hB=>?_
 unfold aIa
 dsimp only
 refine W_r (aA rfl (R_e (W_r (aA rfl (bG (uX ((x))) rfl (aA rfl (R_e ?_)))))))
 refine W_r (aA rfl (bG (uX ((y))) rfl (aA rfl (R_e (aC (W_r (aA rfl ?_)))))))
 refine R_e ?_
 refine eC rfl (fun c1=>?_) (fun c1=>?_)
 · cases c1
 refine aH (aC (W_r (aA rfl (R_e ?_))))
 refine eC rfl (fun c2=>?_) (fun c2=>?_)
 · cases c2
 refine aH (aC (W_r (aA rfl (aA rfl (bR rfl rfl (R_e ?_))))))
 refine aO rfl (fun c3=>?_) fun c3=>?_
 ·
  refine aC (W_r (aA rfl (R_e (aU ?_))))
  refine bH (@rfl V (iV (-1:Int))) (aQ ?_)
  · unfold pN; repeat (split <;> first|rfl|omega|skip)
 refine aH (aC (W_r (aA rfl (aA rfl (eU rfl rfl (R_e ?_))))))
 refine aO rfl (fun c4=>?_) fun c4=>?_
 ·
  refine aC (W_r (aA rfl (R_e (aU ?_))))
  refine bH (@rfl V (iV (1:Int))) (aQ ?_)
  · unfold pN; repeat (split <;> first|rfl|omega|skip)
 refine aH (W_r (aA rfl (R_e (bK ?_))))
 refine bH (@rfl V (iV (0:Int))) (aQ ?_)
 · unfold pN; repeat (split <;> first|rfl|omega|skip)
theorem nW (a b:List Int):bB Tryz.prog 212 [(aS a),(aS b)] (iV (aZ a b)):=by
 refine pW Tryz.func212 aDn fun hB=>?_
 unfold aKz
 dsimp only
 refine W_r (aA rfl (R_e (aC (W_r (aA rfl (bN rfl (aA rfl ?_)))))))
 refine R_e (aI fun Q1 n1 x1 y1 z1=>?_)
 refine cW (fun mm T H=> ∃ (k:Nat),mm=a.length - k∧T 0=(aS a)∧T 1=(aS b)∧T 9=(aS a)∧T 10=(iV ((a.length:Nat):Int))∧T 11=(iV ((k:Nat):Int))∧(k≤a.length)∧(k≤cmn a b)) ?_ ?_
 ·
  refine ⟨_,0,rfl,rfl,rfl,rfl,rfl,(Eq.trans (@rfl V (iV (0:Int))) rfl),?_,?_⟩
  · omega
  · exact Nat.zero_le _
 intro mm T H ⟨k,hmm,t0,t1,t9,t10,t11,hk,hc⟩ Q2 p12 p22 p32
 unfold aGL
 refine W_r (bR t11 t10 (R_e ?_))
 refine aO rfl (fun c3=>?_) fun c3=>?_
 ·
  refine aH (aI fun Q4 n4 x4 y4 z4=>(W_r (aA t11 (bL (i:=k) t9 t11 (by omega) rfl (aJ rfl rfl (aA rfl (aA rfl ?_)))))))
  refine R_e (aC (W_r (aA rfl (aA t1 (bN rfl (jL rfl rfl (R_e ?_)))))))
  refine aO rfl (fun c5=>?_) fun c5=>?_
  ·
   refine aC (W_r (aA rfl (R_e (aU (y4 _ _ (p22 _ _ (y1 _ _ ?_)))))))
   refine bH (@rfl V (iV (1:Int))) (aQ ?_)
   · have g1:=rD a b
     have g2:=zB a b
     have g3:=iS hc (by omega)
     simp only [aZ,pN,g3] at*; repeat (split <;> first|rfl|omega|skip)
  refine aH (W_r (aA t1 (aA rfl (bL (i:=k) (@rfl V (aS b)) (@rfl V (iV ((k:Nat):Int))) (by omega) rfl (aJ rfl rfl (aA rfl (R_e ?_)))))))
  refine W_r (aA rfl (aA rfl (bG (tJ (((nth (a) (k)))) (((nth (b) (k))))) rfl (aA rfl (R_e (W_r (aA rfl ?_)))))))
  refine dQ rfl rfl (R_e ?_)
  refine fR rfl (fun c6=>?_) fun c6=>?_
  ·
   have c9:nth a k≠nth b k:=fun e=>c6 (yU.2 e)
   refine W_r (aA rfl (aA rfl (R_e (bK (y4 _ _ (p22 _ _ (y1 _ _ ?_)))))))
   refine bH (@rfl V (iV (pN (((nth (a) (k)))) (((nth (b) (k))))))) (aQ ?_)
   · have g1:=rD a b
     have g2:=zB a b
     have g3:=iS hc (by omega)
     simp only [aZ,pN,g3] at*; repeat (split <;> first|rfl|omega|skip)
  refine cX (n4 _ _ (.done (W_t (bV t11 (@rfl V (iV ((1:Nat):Int))) (by omega) (aA rfl (R_e ?_))))))
  refine p12 _ _ _ ?_ ⟨(k+1),rfl,t0,t1,t9,t10,(Eq.trans (@rfl V (iV ((k+1:Nat):Int))) (by first|rfl|simp)),?_,?_⟩
  · omega
  · omega
  · exact mK hc (by omega) (by omega) (yU.1 (by omega))
 refine bA (p32 _ _ _ (x1 _ _ (.done (aC (W_r (aA t0 (bN rfl ?_)))))))
 refine aA t1 (bN rfl (bR rfl rfl (R_e ?_)))
 refine aO rfl (fun c7=>?_) fun c7=>?_
 ·
  refine aC (W_r (aA rfl (R_e (aU ?_))))
  refine bH (@rfl V (iV (-1:Int))) (aQ ?_)
  · have g1:=rD a b
    have g2:=zB a b
    have g3:=iS hc (by omega)
    simp only [aZ,pN,g3] at*; repeat (split <;> first|rfl|omega|skip)
 refine aH (W_r (aA rfl (R_e (bK ?_))))
 refine bH (@rfl V (iV (0:Int))) (aQ ?_)
 · have g1:=rD a b
   have g2:=zB a b
   have g3:=iS hc (by omega)
   simp only [aZ,pN,g3] at*; repeat (split <;> first|rfl|omega|skip)
theorem aCe (a b:List Int):bB Tryz.prog 169 [(aS a),(aS b)] (iV (aZ a b)):=by
 refine pW Tryz.func169 aDo fun hB=>?_
 unfold aII
 dsimp only
 refine W_r (aA rfl (R_e (W_r (aA rfl (aA rfl (bG (nW a b) rfl (aA rfl ?_)))))))
 refine R_e (bK ?_)
 refine bH (@rfl V (iV (aZ a b))) (iO (by simp) rfl)
def aNA:List SO:=[
 qM 5 0,
 qN 6 5,
 qM 7 1,
 qN 8 7,
 sO 9 (.call false 215 [.t 6,.t 8]),
 qM 10 0,
 qM 11 1,
 sO 12 (.call false 212 [.t 10,.t 11]),
 sO 13 (.bslice 3 1 false [.int .i64 0] 2 [(0,.t 9),(1,.t 12)]),
 sO 14 (.call false 214 [.t 13]),
 qM 4 14]
def aKm:SF:=⟨15,[.tmp 4],.seq (.reg [qI 4 0]) (.seq (.reg aNA) (.ret))⟩
theorem aD7:aL Tryz.prog ⟨[58,129,130,131,149,155,161,182,183,185,191,192,208,209,210,224,228,231,236],[],[],[]⟩ Tryz.f171=some aKm:=by kernel_rfl
def aHL:SC:=.seq (.reg [qP 9 .lss 8 7]) (.seq (.cond (.t 9) (.skip) (.exit 0)) (.seq (.block 1 (.seq (.reg [qA 10 1 6 8,ql 11 10,qM 5 11]) (.seq (.reg [qM 12 5,qM 13 3,qP 14 .neq 12 13]) (.cond (.t 14) (.seq (.reg [qM 15 5,qM 2 15]) (.ret)) (.skip))))) (.reg [qC 16 .add 8 1,qM 8 16])))
def aKN:SF:=⟨18,[.tmp 2],.seq (.reg [qI 2 0]) (.seq (.reg [qI 3 0]) (.seq (.seq (.reg [qM 6 0,qN 7 6,qI 8 0]) (.block 0 (.loop aHL))) (.seq (.reg [qM 17 3,qM 2 17]) (.ret))))⟩
theorem aDq:aL Tryz.prog ⟨[58,129,130,131,149,155,161,182,183,185,191,192,208,209,210,224,228,231,236],[],[],[]⟩ Tryz.f214=some aKN:=by kernel_rfl
theorem aCY (l:List Int) (hl:l.length < 4294967296):bB Tryz.prog 214 [(aS l)] (iV (orI l)):=by
 refine pW Tryz.func214 aDq fun hB=>?_
 unfold aKN
 dsimp only
 refine W_r (aA rfl (R_e (W_r (aA rfl (R_e (aC (W_r ?_)))))))
 refine aA rfl (bN rfl (aA rfl (R_e (aI fun Q1 n1 x1 y1 z1=>?_))))
 refine cW (fun mm T H=> ∃ (k:Nat),mm=l.length - k∧T 3=(iV (0:Int))∧T 6=(aS l)∧T 7=(iV ((l.length:Nat):Int))∧T 8=(iV ((k:Nat):Int))∧(k≤l.length)∧(orI l=orI (l.drop k))) ?_ ?_
 ·
  refine ⟨_,0,rfl,rfl,rfl,rfl,(Eq.trans (@rfl V (iV (0:Int))) rfl),?_,?_⟩
  · omega
  · rfl
 intro mm T H ⟨k,hmm,t3,t6,t7,t8,hk,hc⟩ Q2 p12 p22 p32
 unfold aHL
 refine W_r (bR t8 t7 (R_e ?_))
 refine aO rfl (fun c3=>?_) fun c3=>?_
 ·
  refine aH (aI fun Q4 n4 x4 y4 z4=>(W_r (bL (i:=k) t6 t8 (by omega) rfl (aJ rfl rfl (aA rfl (R_e (W_r ?_)))))))
  refine aA rfl (aA t3 (dQ rfl rfl (R_e ?_)))
  refine fR rfl (fun c5=>?_) fun c5=>?_
  ·
   refine W_r (aA rfl (aA rfl (R_e (bK (y4 _ _ (p22 _ _ (y1 _ _ ?_)))))))
   refine bH (@rfl V (iV ((nth (l) (k))))) (aQ ?_)
   · rw [hc,aBC (by omega),if_neg (by omega)]
  refine cX (n4 _ _ (.done (W_t (bV t8 (@rfl V (iV ((1:Nat):Int))) (by omega) (aA rfl (R_e ?_))))))
  refine p12 _ _ _ ?_ ⟨(k+1),rfl,t3,t6,t7,(Eq.trans (@rfl V (iV ((k+1:Nat):Int))) (by first|rfl|simp)),?_,?_⟩
  · omega
  · omega
  · rw [hc,aBC (by omega),if_pos (by omega)]
 refine bA (p32 _ _ _ (x1 _ _ (.done (W_r (aA t3 (aA rfl (R_e ?_)))))))
 refine bK ?_
 refine bH (@rfl V (iV (0:Int))) (aQ ?_)
 · rw [hc,List.drop_of_length_le (by omega)]; rfl
theorem rG (a b:List Int):bB Tryz.prog 171 [(aS a),(aS b)] (iV (slx a b)):=by
 refine pW Tryz.func171 aD7 fun hB=>?_
 unfold aKm
 dsimp only
 refine W_r (aA rfl (R_e (W_r (aA rfl (bN rfl (aA rfl (bN rfl ?_)))))))
 refine bG (tJ (((a.length:Nat):Int)) (((b.length:Nat):Int))) rfl (aA rfl (aA rfl (bG (nW a b) rfl (eF rfl rfl (bG (aCY ([(pN (((a.length:Nat):Int)) (((b.length:Nat):Int))),(aZ a b)]) (by simp)) rfl (aA rfl (R_e ?_)))))))
 refine bK ?_
 refine bH (@rfl V (iV (orI ([(pN (((a.length:Nat):Int)) (((b.length:Nat):Int))),(aZ a b)])))) (aQ ?_)
 · simp only [orI,pN,slx]; repeat (split <;> first|rfl|omega|skip)
def aRk:SF:=⟨8,[.tmp 2],.seq (.reg [sO 2 (.lazy 38 1)]) (.seq (.seq (.reg [qM 3 0,sO 4 (.isnil false (.t 3))]) (.cond (.t 4) (.seq (.reg [sO 2 (.lazy 38 1)]) (.ret)) (.skip))) (.seq (.reg [sO 5 (.lazy 38 1),qM 6 0,sO 7 (.append 38 1 24 (.t 5) (.t 6)),qM 2 7]) (.ret)))⟩
theorem aKL:aL Tryz.prog ⟨[58,129,130,131,149,155,161,182,183,185,191,192,208,209,210,224,228,231,236],[2,5],[],[]⟩ Tryz.f208=some aRk:=by kernel_rfl
theorem aCp (l:List (List Int)) (v2:Nat) (Hi:aF) (h202:(Hi 202).ver=v2) (hl:l.length≤1073741824):dG Tryz.prog 208 [(aB l)] Hi (V.ms 202 (v2+3) 0 (l.length)) (upd Hi 202 (bz (v2+3) 38 1 (List.map cL (l)))):=by
 refine eW (k0:=200) Tryz.func208 aKL fun hB=>?_
 unfold aRk
 dsimp only
 refine W_r (iP (i:=202) (n:=v2) (by rfl) h202 (R_e (aC (mW fun K hK=>(aA rfl ?_)))))
 refine pA (@rfl V (aB l)) (fun e1=>?_) ?_
 ·
  replace e1:=List.map_eq_nil_iff.1 e1
  refine iK (hK _ _ ?_); clear hK K
  refine dE (R:=fun T H=>T 0=(aB l)∧T 4=(V.bool true)∧(∀ j,j∉[202]→H j=Hi j)∧H 202=(bz (v2+1) 38 1 [])∧True) ⟨rfl,rfl,(eX (fun _ _=>rfl) (by decide)),rfl,trivial⟩ ?_
  intro T H ⟨t0,t4,hF,h202,_⟩
  refine eC t4 (fun c4=>?_) (fun c4=>?_)
  ·
   refine aC (W_r (iP (i:=202) (n:=(v2+1)) (by rfl) (congrArg Blk.ver h202) (R_e (aU (dE (R:=fun T H=>T 2=(V.ms 202 (v2+2) 0 (0))∧(∀ j,j∉[202]→H j=Hi j)∧H 202=(bz (v2+2) 38 1 [])∧True) ⟨(@rfl V (V.ms 202 (v2+2) 0 (0))),(eX hF (by decide)),rfl,trivial⟩ ?_)))))
   intro T H ⟨t2,hF,h202,_⟩
   have fh:=fE.fin (fE.put (B:=(bz (v2+3) 38 1 (List.map cL (l)))) (fE.start hF) h202 (jQ.up (by omega) (by first|rfl|(rw [e1]; rfl)|simp)))
   exact jP t2 fh (fK.trans_eq (fK.ms (n:=(v2+3)) fh (by simp [h202]) (by simp [h202]) rfl rfl) (by first|rfl|(rw [e1]; rfl)|simp))
  · cases c4
 ·
  refine iK (hK _ _ ?_); clear hK K
  refine dE (R:=fun T H=>T 0=(aB l)∧T 4=(V.bool false)∧(∀ j,j∉[202]→H j=Hi j)∧H 202=(bz (v2+1) 38 1 [])∧True) ⟨rfl,rfl,(eX (fun _ _=>rfl) (by decide)),rfl,trivial⟩ ?_
  intro T H ⟨t0,t4,hF,h202,_⟩
  refine eC t4 (fun c7=>?_) (fun c7=>?_)
  · cases c7
  refine aH (aRo 197 (iP (i:=202) (n:=(v2+1)) (by rfl) (congrArg Blk.ver h202) (aA t0 (nG (l:=([])) (m:=l) (f:=cL) (@rfl V (V.ms 202 (v2+2) 0 (0))) (show _=(bz (v2+2) 38 1 (List.map cL ([]))) from (@rfl Blk (bz (v2+2) 38 1 []))) (by first|rfl|simp) (@rfl V (aB l)) (fun _=>rfl) (fun _=>rfl) (by omega) (by omega) (aA rfl (R_e (bK ?_)))))))
  refine dE (R:=fun T H=>T 2=(V.ms 202 (v2+3) 0 (0+(l).length))∧(∀ j,j∉[202]→H j=Hi j)∧H 202=(bz (v2+3) 38 1 (List.map cL ([]++l)))∧True) ⟨(@rfl V (V.ms 202 (v2+3) 0 (0+(l).length))),(eX (eX hF (by decide)) (by decide)),rfl,trivial⟩ ?_
  intro T H ⟨t2,hF,h202,_⟩
  have fh:=fE.fin (fE.put (B:=(bz (v2+3) 38 1 (List.map cL (l)))) (fE.start hF) h202 (jQ.eq (by first|rfl|(rw [e1]; rfl)|simp)))
  exact jP t2 fh (fK.trans_eq (fK.same fh _) (by first|rfl|(rw [e1]; rfl)|simp))
def aMR:List SO:=[
 qM 18 1,
 qM 19 0,
 qM 20 5,
 qA 21 1 19 20,
 ql 22 21,
 qM 23 0,
 qM 24 5,
 qC 25 .sub 24 1,
 qA 26 1 23 25,
 ql 27 26,
 sO 28 (.callv false (.t 18) [.t 22,.t 27])]
def aJy:List SO:=[
 qM 38 1,
 qM 39 6,
 qM 40 7,
 qA 41 1 39 40,
 ql 42 41,
 qM 43 6,
 qM 44 7,
 qC 45 .sub 44 1,
 qA 46 1 43 45,
 ql 47 46,
 sO 48 (.callv false (.t 38) [.t 42,.t 47]),
 sO 49 (.un .not (.t 48))]
def aJO:List SO:=[
 qM 50 0,
 qM 51 5,
 qM 52 6,
 qM 53 7,
 qA 54 1 52 53,
 ql 55 54,
 qA 56 1 50 51,
 sN (.store 1 (.t 56) (.t 55))]
def aCu:SC:=.seq (.seq (.reg [qM 32 7,qM 33 6,qN 34 33,qP 35 .lss 32 34]) (.cond (.t 35) (.skip) (.exit 2))) (.seq (.block 3 (.seq (.reg aJy) (.cond (.t 49) (.seq (.reg aJO) (.reg [qM 57 5,qC 58 .add 57 1,qM 5 58])) (.skip)))) (.reg [qM 36 7,qC 37 .add 36 1,qM 7 37]))
def aCQ:SC:=.seq (.seq (.reg [qM 12 5,qM 13 0,qN 14 13,qP 15 .lss 12 14]) (.cond (.t 15) (.skip) (.exit 0))) (.seq (.block 1 (.seq (.reg aMR) (.cond (.t 28) (.seq (.reg [qM 29 0,qM 30 5,sO 31 (.slice 1 (.t 29) (some (.t 30)) none),qM 6 31]) (.seq (.seq (.reg [qI 7 1]) (.block 2 (.loop aCu))) (.seq (.reg [qM 59 0,qM 60 5,sO 61 (.slice 1 (.t 59) (some (.t 60)) none),sN (.clr [.nilsl] (.t 61))]) (.seq (.reg [qM 62 0,qM 63 5,sO 64 (.slice 1 (.t 62) none (some (.t 63))),qM 4 64]) (.ret))))) (.skip)))) (.reg [qM 16 5,qC 17 .add 16 1,qM 5 17]))
def aOK:SF:=⟨66,[.tmp 4],.seq (.reg [sO 4 (.mv (.c (.nilsl)))]) (.seq (.seq (.reg [qM 8 0,qN 9 8,qC 10 .lss 9 2]) (.cond (.t 10) (.seq (.reg [qM 11 0,qM 4 11]) (.ret)) (.skip))) (.seq (.seq (.reg [qI 5 1]) (.block 0 (.loop aCQ))) (.seq (.reg [qM 65 0,qM 4 65]) (.ret))))⟩
theorem aDE:aL Tryz.prog ⟨[58,129,130,131,149,155,161,182,183,185,191,192,208,209,210,224,228,231,236],[],[],[]⟩ Tryz.f210=some aOK:=by kernel_rfl
def aMa:SF:=⟨11,[.tmp 5],.seq (.reg [sO 5 (.mv (.c (.bool false)))]) (.seq (.reg [ql 6 2,qM 7 0,qM 8 1,sO 9 (.callv false (.t 6) [.t 7,.t 8]),qC 10 .eql 9 0,qM 5 10]) (.ret))⟩
theorem aDk:aL Tryz.prog ⟨[58,129,130,131,149,155,161,182,183,185,191,192,208,209,210,224,228,231,236],[],[],[]⟩ Tryz.f211=some aMa:=by kernel_rfl
end Go.Proofs.YtilfohjlglefjaaGreat
namespace Go.Proofs.YtilfohjlglefjaaGreat
open Go
theorem aF9 {a p:List Int} (h:hp a p=true):p.length≤a.length:=by
  simp only [hp,decide_eq_true_eq] at h
  have:=rD a p; omega
def aIS:List Tr→List Int→Option (List Int)
  |[],_=>none
  |t::l,w=>if hp t.ni w then some (t.no.take w.length) else aIS l w
def ans (o:Ob) (w:List Int):Option (List Int):=if w=[] then some [] else aIS o.tr w
theorem yA {w x:List Int}: ∀ {l:List Tr},aIS l w=some x→ ∃ t∈l,hp t.ni w=true∧x=t.no.take w.length
  |[],h=>by cases h
  | t :: l, h => by
    simp only [aIS] at h
    split at h
    · rename_i g; exact ⟨t,List.mem_cons_self ..,g,by simpa using h.symm⟩
    · obtain ⟨s,h1,h2⟩:=yA h; exact ⟨s,List.mem_cons_of_mem _ h1,h2⟩
theorem OK.mem {o:Ob} (ok:OK o) {t:Tr} (ht:t∈o.tr):Proper t o.i∧0 < t.ni.length:=by
  obtain ⟨k,hk,rfl⟩:=dP ht; exact ok.pr k hk
abbrev fdA (a b:Tr):List Int:=a.no.take (cmn a.ni b.ni)
abbrev fdB (a b:Tr):List Int:=b.no.take (cmn a.ni b.ni)
def fd (a b:Tr):List (List Int):=if cmn (fdA a b) (fdB a b) < min (fdA a b).length (fdB a b).length then [a.ni.take (aUd (fdA a b) (fdB a b)+1)] else []
theorem OK.same {o:Ob} (ok:OK o) {s t:Tr} (hs:s∈o.tr) (ht:t∈o.tr) {j:Nat} (hj:j < cmn s.ni t.ni):nth s.no j=nth t.no j:=by
  obtain ⟨a,ha,rfl⟩:=dP hs
  obtain ⟨b,hb,rfl⟩:=dP ht
  have key: ∀ a b,a < b→b < o.tr.length→ ∀ j,j < cmn (nth o.tr a).ni (nth o.tr b).ni→nth (nth o.tr a).no j=nth (nth o.tr b).no j:=by
    intro a b hab hb j hj
    by_cases e:nth (nth o.tr a).no j=nth (nth o.tr b).no j
    · exact e
    · have h1:=ok.cla a b hab hb
      have h2:=aCH.2 ⟨j,hj,e⟩
      omega
  by_cases e:a=b
  · subst e; rfl
  · by_cases h:a < b
    · exact key a b h hb j hj
    · rw [gK] at hj
      exact (key b a (by omega) ha j hj).symm
theorem aJL {p x y:List Int}:cmn (p++x) (p++y)=p.length+cmn x y:=by
  induction p with
  |nil=>simp
  |cons a p ih=>simp [cmn,ih]; omega
def Ap (o:Ob) (u v x:List Int):Prop:=
  x≠[]∧ ∃ s∈o.tr,∃ t∈o.tr,hp s.ni (u++x)=true∧hp t.ni (v++x)=true∧nth s.no (u.length+x.length - 1)≠nth t.no (v.length+x.length - 1)
theorem Ap.symm {o:Ob} {u v x:List Int} (h:Ap o u v x):Ap o v u x:=by
  obtain ⟨h1,s,hs,t,ht,h2,h3,h4⟩:=h
  exact ⟨h1,t,ht,s,hs,h3,h2,fun e=>h4 e.symm⟩
structure Covers (o:Ob) (u v:List Int) (l:List (List Int)):Prop where
  sound: ∀ x∈l,Ap o u v x
  full: ∀ x,Ap o u v x→ ∃ y∈l,slx y x≤0
theorem aGh {x y:List Int} (h:hp y x=true):slx x y≤0:=by
  obtain ⟨z,rfl⟩:=aAc.1 h
  cases z with
  |nil=>rw [List.append_nil,eL.2 rfl]; omega
  |cons a z=>unfold slx; rw [if_pos (by simp)]; omega
theorem Covers.swap {o:Ob} {u v:List Int} {l:List (List Int)} (h:Covers o u v l):Covers o v u l:=
  ⟨fun x hx=>(h.sound x hx).symm,fun x hx=>h.full x hx.symm⟩
end Go.Proofs.YtilfohjlglefjaaGreat
namespace Go.Proofs.YtilfohjlglefjaaGreat
open Go Go.Sort
theorem tD {α : Type} {le : α → α → Prop} : ∀ {l m : List α}, (∀ a ∈ l, ∀ b ∈ l, le a b → le b a → a = b) → l.Perm m → l.Pairwise le → m.Pairwise le → l = m
  |[],m,_,hp,_,_=>(List.perm_nil.1 hp.symm).symm
  |a::l,[],_,hp,_,_=>(List.cons_ne_nil _ _ (List.perm_nil.1 hp)).elim
  | a :: l, b :: m, anti, hp, h1, h2 => by
    have hb:b∈a::l:=hp.mem_iff.2 (List.mem_cons_self ..)
    have ha:a∈b::m:=hp.mem_iff.1 (List.mem_cons_self ..)
    have e:a=b:=by
      rcases List.mem_cons.1 hb with e|hb'
      · exact e.symm
      · rcases List.mem_cons.1 ha with e|ha'
        · exact e
        · exact anti a (List.mem_cons_self ..) b hb ((List.pairwise_cons.1 h1).1 b hb') ((List.pairwise_cons.1 h2).1 a ha')
    subst e
    rw [tD (fun x hx y hy=>anti x (List.mem_cons_of_mem _ hx) y (List.mem_cons_of_mem _ hy)) (List.Perm.cons_inv hp) (List.pairwise_cons.1 h1).2 (List.pairwise_cons.1 h2).2]
def aFx {α:Type} (cmp:α→α→Int) (a:α):List α→List α
  |[]=>[a]
  |b::l=>if cmp b a < 0 then b::aFx cmp a l else a::b::l
def srt {α:Type} (cmp:α→α→Int) (l:List α):List α:=l.foldr (aFx cmp) []
theorem rM {α:Type} (cmp:α→α→Int) (a:α): ∀ l:List α,(aFx cmp a l).Perm (a::l)
  |[]=>List.Perm.refl _
  | b :: l => by
    rw [aFx]
    split
    · exact ((rM cmp a l).cons b).trans (List.Perm.swap a b l)
    · exact List.Perm.refl _
theorem mH {α:Type} (cmp:α→α→Int): ∀ l:List α,(srt cmp l).Perm l
  |[]=>List.Perm.refl _
  |a::l=>(rM cmp a (srt cmp l)).trans ((mH cmp l).cons a)
theorem iY {α:Type} (cmp:α→α→Int) (l:List α):(srt cmp l).length=l.length:=(mH cmp l).length_eq
theorem sX {α : Type} {cmp : α → α → Int} (hO : SWO fun a b => decide (cmp a b < 0)) (a : α) : ∀ {l : List α}, (l.Pairwise fun a b => ¬cmp b a < 0) → (aFx cmp a l).Pairwise fun a b => ¬cmp b a < 0
  |[],_=>List.pairwise_singleton _ _
  | b :: l, h => by
    obtain ⟨h1,h2⟩:=List.pairwise_cons.1 h
    rw [aFx]
    split
    · rename_i q
      refine List.pairwise_cons.2 ⟨fun x hx=>?_,sX hO a h2⟩
      rcases List.mem_cons.1 ((rM cmp a l).mem_iff.1 hx) with e|e
      · rw [e]; intro q2
        have:=hO.trans a b a (by simpa using q2) (by simpa using q)
        rw [hO.irrefl a] at this; cases this
      · exact h1 x e
    · rename_i q
      refine List.pairwise_cons.2 ⟨fun x hx=>?_,h⟩
      rcases List.mem_cons.1 hx with e|e
      · rw [e]; exact q
      · have:=hO.ntrans x b a (by simpa using h1 x e) (by simpa using q)
        simpa using this
theorem lD {α:Type} {cmp:α→α→Int} (hO:SWO fun a b=>decide (cmp a b < 0)): ∀ l:List α,(srt cmp l).Pairwise fun a b=> ¬cmp b a < 0
  |[]=>List.Pairwise.nil
  |a::l=>sX hO a (lD hO l)
end Go.Proofs.YtilfohjlglefjaaGreat
namespace Go.Proofs.YtilfohjlglefjaaGreat
open Go Go.Sort
theorem lH {a b:List Int}: ¬aZ a b < 0↔aZ b a≤0:=by
  constructor
  · intro h
    by_cases e:aZ a b=0
    · rw [bZ.2 (bZ.1 e).symm]; omega
    · have:=rC (a:=a) (b:=b) (by omega); omega
  · intro h g
    have:=vK g; omega
theorem aIs {a b c:List Int} (h1:aZ a b≤0) (h2:aZ b c≤0):aZ a c≤0:=by
  by_cases e1:aZ a b=0
  · rw [bZ.1 e1]; exact h2
  · by_cases e2:aZ b c=0
    · rw [← bZ.1 e2]; exact h1
    · have:=jJ (a:=a) (b:=b) (c:=c) (by omega) (by omega); omega
theorem OK.lt_of {o:Ob} (h: ∀ k,k+1 < o.tr.length→slx (nth o.tr k).ni (nth o.tr (k+1)).ni < 0): ∀ {i k:Nat},i < k→k < o.tr.length→slx (nth o.tr i).ni (nth o.tr k).ni < 0:=by
  intro i k hik hk
  induction k with
  |zero=>omega
  | succ k ih =>
    by_cases e:i=k
    · subst e; exact h i hk
    · exact kY (ih (by omega) (by omega)) (h k hk)
theorem aCb {a b c : List Int} (h1 : aZ a b ≤ 0) (h2 : aZ b c ≤ 0) : cmn a c ≤ cmn a b ∧ cmn a c ≤ cmn b c := by
  have s1:=dJ a b
  have s2:=dJ b c
  have s3:=dJ a c
  have m:=pS (a:=a) (b:=c) (c:=b)
  have m2:=pS (a:=b) (b:=a) (c:=c)
  have e1:=gK c b
  have e2:=gK b a
  have key:cmn a c≤cmn a b:=by
    by_cases g:cmn a c≤cmn a b
    · exact g
    · exfalso
      have hlt:cmn a b < cmn a c:=by omega
      have hbc:cmn b c=cmn a b:=by
        rw [gK b c]
        refine iS ?_ ?_
        · have:=pS (a:=c) (b:=a) (c:=b); rw [gK c a] at this; omega
        · by_cases q:b.length≤cmn a b
          · exact .inr (.inl q)
          · refine .inr (.inr ?_)
            rw [← s3.2.2.1 _ hlt]
            exact s1.2.2.2 (by omega) (by omega)
      unfold aZ at h1 h2
      rw [hbc] at h2
      have hca:=s3.2.2.1 _ hlt
      by_cases q:cmn a b=b.length
      · rw [if_neg (by omega),if_neg (by omega)] at h1; omega
      · have hne:=s1.2.2.2 (by omega) (by omega)
        rw [if_neg (by omega)] at h1
        rw [if_neg (by omega)] at h2
        split at h1
        · rename_i g1
          split at h2
          · rename_i g2
            rw [hca] at g1; omega
          · omega
        · omega
  have m3:=pS (a:=b) (b:=a) (c:=c)
  exact ⟨key,by omega⟩
theorem yP (m:M): ∀ (w:List Int) (s:Int) (k:Nat),bI m s (w.take k)=(bI m s w).take k
  |[],s,k=>by simp [bI]
  |a::w,s,0=>by simp [bI]
  |a::w,s,k+1=>by simp [bI,yP m w]
end Go.Proofs.YtilfohjlglefjaaGreat
namespace Go.Proofs.YtilfohjlglefjaaGreat
open Go.Sort
theorem aAq {a b:List Int}: ¬slx a b < 0↔slx b a≤0:=by
  constructor
  · intro h
    by_cases e:slx a b=0
    · rw [eL.1 e,eL.2 rfl]; omega
    · have:=aJs (a:=a) (b:=b) (by omega); omega
  · intro h q
    have:=aAW q; omega
theorem aDw:SWO fun a b:List Int=>decide (slx a b < 0) where
  irrefl a:=by rw [eL.2 rfl]; decide
  trans a b c h1 h2:=by simp only [decide_eq_true_eq] at*; exact kY h1 h2
  ntrans a b c h1 h2:=by
    simp only [decide_eq_false_iff_not,aAq] at*
    exact aMH h2 h1
theorem aBP {a b:List Int} (h1: ¬slx a b < 0) (h2: ¬slx b a < 0):a=b:=aCs (aAq.1 h2) (aAq.1 h1)
theorem tW (a:List Int): ¬slx a a < 0:=by rw [eL.2 rfl]; omega
def pO (l:List (List Int)):Prop:=l.Pairwise fun a b=>slx a b < 0
theorem pL : ∀ {l m : List (List Int)}, pO l → pO m → (∀ u, u ∈ l ↔ u ∈ m) → l = m
  |[],[],_,_,_=>rfl
  |[],b::m,_,_,h=>by have:=(h b).2 (by simp); simp at this
  |a::l,[],_,_,h=>by have:=(h a).1 (by simp); simp at this
  | a :: l, b :: m, hl, hm, h => by
    obtain ⟨l1,l2⟩:=List.pairwise_cons.1 hl
    obtain ⟨m1,m2⟩:=List.pairwise_cons.1 hm
    have e:a=b:=by
      rcases List.mem_cons.1 ((h a).1 (by simp)) with e|e
      · exact e
      · rcases List.mem_cons.1 ((h b).2 (by simp)) with g|g
        · exact g.symm
        · exact (tW a (kY (l1 b g) (m1 a e))).elim
    subst e
    rw [pL l2 m2 fun u=>?_]
    constructor
    · intro hu
      rcases List.mem_cons.1 ((h u).1 (List.mem_cons_of_mem _ hu)) with e|e
      · subst e; exact (tW _ (l1 _ hu)).elim
      · exact e
    · intro hu
      rcases List.mem_cons.1 ((h u).2 (List.mem_cons_of_mem _ hu)) with e|e
      · subst e; exact (tW _ (m1 _ hu)).elim
      · exact e
def plP (w u:List Int):Bool:=decide (slx u w < 0)
def plN (l:List (List Int)) (w:List Int):Nat:=(l.takeWhile (plP w)).length
theorem aDV {w a:List Int} {l:List (List Int)}:plN (a::l) w=if plP w a=true then plN l w+1 else 0:=by
  unfold plN; rw [List.takeWhile_cons]; split <;> rfl
theorem aLB {w:List Int}: ∀ l:List (List Int),plN l w≤l.length
  |[]=>Nat.le_refl _
  |a::l=>by rw [aDV]; have:=aLB (w:=w) l; split <;> simp <;> omega
theorem aAN {w : List Int} : ∀ {l : List (List Int)} (_ : pO l) {k : Nat}, k < l.length → (slx (nth l k) w < 0 ↔ k < plN l w)
  |[],_,k,hk=>by simp at hk
  | a :: l, h, k, hk => by
    rw [aDV]
    obtain ⟨h1,h2⟩:=List.pairwise_cons.1 h
    by_cases e:plP w a=true
    · rw [if_pos e]
      cases k with
      |zero=>rw [eA]; simp only [plP,decide_eq_true_eq] at e; exact ⟨fun _=>by omega,fun _=>e⟩
      |succ k=>rw [jU,aAN h2 (by simpa using hk)]; omega
    · rw [if_neg e]
      simp only [plP,decide_eq_true_eq] at e
      refine ⟨fun h3=>?_,fun h3=>by omega⟩
      cases k with
      |zero=>exact (e h3).elim
      | succ k =>
        rw [jU] at h3
        exact (e (kY (h1 _ (bF (by simpa using hk))) h3)).elim
def wiH (l:List (List Int)) (w:List Int):Prop:=plN l w < l.length∧nth l (plN l w)=w
instance (l:List (List Int)) (w:List Int):Decidable (wiH l w):=inferInstanceAs (Decidable (_∧_))
def wiW (l:List (List Int)) (w:List Int):List (List Int):=if wiH l w then l else l.take (plN l w)++w::l.drop (plN l w)
def sdW (l:List (List Int)):List (List Int):=l.foldl wiW []
theorem aKx {l:List (List Int)} {w u:List Int}:u∈wiW l w↔u∈l∨u=w:=by
  unfold wiW
  split
  · rename_i h
    refine ⟨.inl,fun q=>q.elim id fun e=>?_⟩
    rw [e]
    have:=bF h.1
    rwa [h.2] at this
  · have e: ∀ u,u∈l↔u∈l.take (plN l w)∨u∈l.drop (plN l w):=fun u=>by rw [← List.mem_append,List.take_append_drop]
    rw [List.mem_append,List.mem_cons,e]
    exact ⟨fun h=>h.elim (fun h=>.inl (.inl h)) fun h=>h.elim .inr fun h=>.inl (.inr h),fun h=>h.elim (fun h=>h.elim .inl fun h=>.inr (.inr h)) fun h=>.inr (.inl h)⟩
theorem aKs {l : List (List Int)} (h : pO l) (w : List Int) : pO (wiW l w) := by
  unfold wiW
  split
  · exact h
  · rename_i hn
    have hsp:=h
    unfold pO at hsp
    rw [← List.take_append_drop (plN l w) l,List.pairwise_append] at hsp
    obtain ⟨p1,p2,p3⟩:=hsp
    have hle:=aLB (w:=w) l
    have lo: ∀ a∈l.take (plN l w),slx a w < 0:=fun a ha=>by
      obtain ⟨j,hj,rfl⟩:=dP ha
      rw [List.length_take] at hj
      rw [kX (by omega)]
      exact (aAN h (by omega)).2 (by omega)
    have hi : ∀ b ∈ l.drop (plN l w), slx w b < 0 := fun b hb => by
      obtain ⟨j,hj,rfl⟩:=dP hb
      rw [List.length_drop] at hj
      rw [rH]
      have h1: ¬slx (nth l (plN l w+j)) w < 0:=fun q=>by
        have:=(aAN h (show plN l w+j < l.length by omega)).1 q; omega
      by_cases e:slx w (nth l (plN l w+j)) < 0
      · exact e
      · exfalso
        have heq:=aBP h1 e
        have h0:plN l w < l.length:=by omega
        by_cases ej:j=0
        · subst ej; exact hn ⟨h0,by simpa using heq⟩
        · have hlt:slx (nth l (plN l w)) (nth l (plN l w+j)) < 0:=by
            have:=(List.pairwise_iff_getElem.1 h) (plN l w) (plN l w+j) h0 (by omega) (by omega)
            rwa [aM,aM] at this
          rw [heq] at hlt
          have:=(aAN h h0).1 hlt; omega
    rw [pO,List.pairwise_append]
    refine ⟨p1,List.pairwise_cons.2 ⟨hi,p2⟩,fun a ha b hb=>?_⟩
    rcases List.mem_cons.1 hb with rfl|hb
    · exact lo a ha
    · exact p3 a ha b hb
theorem vE: ∀ (l kept:List (List Int)),pO kept→pO (l.foldl wiW kept)∧ ∀ u,u∈l.foldl wiW kept↔u∈kept∨u∈l
  |[],kept,h=>⟨h,fun u=>by simp⟩
  | w :: l, kept, h => by
    obtain ⟨h1,h2⟩:=vE l (wiW kept w) (aKs h w)
    refine ⟨h1,fun u=>?_⟩
    rw [List.foldl_cons,h2,aKx,List.mem_cons]
    exact or_assoc
theorem kZ (l:List (List Int)):pO (sdW l):=(vE l [] List.Pairwise.nil).1
theorem eV (l:List (List Int)) (u:List Int):u∈sdW l↔u∈l:=by
  unfold sdW; rw [(vE l [] List.Pairwise.nil).2 u]; simp
def ddK (L:List (List Int)):Nat→List (List Int)
  |0=>[]
  |j+1=>if j=0∨nth L j≠nth L (j - 1) then ddK L j++[nth L j] else ddK L j
def ddL (L:List (List Int)) (j:Nat):List (List Int):=ddK L j++L.drop (ddK L j).length
theorem uY (L:List (List Int)): ∀ j,(ddK L j).length≤j
  |0=>Nat.le_refl _
  | j + 1 => by
    have:=uY L j
    simp only [ddK]; split <;> simp <;> omega
theorem aD0 {L:List (List Int)} {j:Nat} (h:j≤L.length):(ddL L j).length=L.length:=by
  have:=uY L j
  unfold ddL; rw [List.length_append,List.length_drop]; omega
theorem aEf {L:List (List Int)} {j k:Nat} (h:(ddK L j).length≤k):nth (ddL L j) k=nth L k:=by
  unfold ddL
  have e:nth (ddK L j++L.drop (ddK L j).length) ((ddK L j).length+(k - (ddK L j).length))=nth (L.drop (ddK L j).length) (k - (ddK L j).length):=cO
  rw [rH] at e
  rw [show (ddK L j).length+(k - (ddK L j).length)=k by omega] at e
  exact e
theorem bJ {L:List (List Int)} {j:Nat} (h:j=0∨nth L j≠nth L (j - 1)):ddK L (j+1)=ddK L j++[nth L j]:=if_pos h
theorem bM {L:List (List Int)} {j:Nat} (h: ¬(j=0∨nth L j≠nth L (j - 1))):ddK L (j+1)=ddK L j:=if_neg h
theorem fJ {L:List (List Int)} {j:Nat} (h: ¬(j=0∨nth L j≠nth L (j - 1))):ddL L (j+1)=ddL L j:=by unfold ddL; rw [bM h]
theorem aAB {α:Type} {a l:List α} {x:α} (h:a.length < l.length):(a++l.drop a.length).set a.length x=a++[x]++l.drop (a.length+1):=by
  rw [List.drop_eq_getElem_cons h]
  rw [List.set_append_right _ _ (Nat.le_refl _),Nat.sub_self,List.set_cons_zero]; simp
theorem cH {L:List (List Int)} {j:Nat} (hj:j < L.length) (h:j=0∨nth L j≠nth L (j - 1)):(ddL L j).set (ddK L j).length (nth L j)=ddL L (j+1):=by
  have:=uY L j
  unfold ddL
  rw [bJ h,aAB (by omega)]
  simp
theorem aAp {L:List (List Int)}: ∀ {j:Nat},j≤L.length→(∀ i,1≤i→i < j→nth L i≠nth L (i - 1))→ddK L j=L.take j
  |0,_,_=>by simp [ddK]
  | j + 1, hj, h => by
    rw [bJ (by by_cases e:j=0; exact .inl e; exact .inr (h j (by omega) (by omega))),aAp (by omega) fun i h1 h2=>h i h1 (by omega),iG (by omega)]
theorem qR {L : List (List Int)} : ∀ {j : Nat}, j ≤ L.length → ∀ u, u ∈ ddK L j ↔ u ∈ L.take j
  |0,_,u=>by simp [ddK]
  | j + 1, hj, u => by
    have ih:=qR (L:=L) (j:=j) (by omega) u
    rw [iG (by omega),List.mem_append,List.mem_singleton]
    by_cases h:j=0∨nth L j≠nth L (j - 1)
    · rw [bJ h,List.mem_append,List.mem_singleton,ih]
    · rw [bM h,ih]
      refine ⟨.inl,fun q=>q.elim id fun e=>?_⟩
      have e2:nth L j=nth L (j - 1):=by
        by_cases e3:nth L j=nth L (j - 1)
        · exact e3
        · exact (h (.inr e3)).elim
      have:nth (L.take j) (j - 1)=u:=by rw [kX (by omega),← e2,e]
      rw [← this]
      exact bF (by rw [List.length_take]; omega)
theorem aEn {L : List (List Int)} (hs : L.Pairwise fun a b => ¬slx b a < 0) : ∀ {j : Nat}, j ≤ L.length → pO (ddK L j)
  |0,_=>List.Pairwise.nil
  | j + 1, hj => by
    have ih:=aEn hs (j:=j) (by omega)
    by_cases h:j=0∨nth L j≠nth L (j - 1)
    · rw [bJ h, pO, List.pairwise_append]
      refine ⟨ih,by simp,fun a ha b hb=>?_⟩
      rw [List.mem_singleton.1 hb]
      have ha':=(qR (L:=L) (by omega) a).1 ha
      obtain ⟨i,hi,rfl⟩:=dP ha'
      rw [List.length_take] at hi
      rw [kX (by omega)]
      have le: ∀ p q,p < q→q < L.length→slx (nth L p) (nth L q)≤0:=fun p q h1 h2=>by
        have:=(List.pairwise_iff_getElem.1 hs) p q (by omega) h2 h1
        rw [aM,aM] at this
        exact aAq.1 this
      have h1:=le i j (by omega) (by omega)
      by_cases e:slx (nth L i) (nth L j) < 0
      · exact e
      · exfalso
        have heq:=eL.1 (show slx (nth L i) (nth L j)=0 by omega)
        have h2:slx (nth L (j - 1)) (nth L j)≤0:=le (j - 1) j (by omega) (by omega)
        have h3:slx (nth L j) (nth L (j - 1))≤0:=by
          rw [← heq]
          by_cases ei:i=j - 1
          · rw [ei,eL.2 rfl]; omega
          · exact le i (j - 1) (by omega) (by omega)
        have:=aCs h2 h3
        rcases h with h|h
        · omega
        · exact h this.symm
    · rw [bM h]; exact ih
def sdP (l:List (List Int)):List (List Int):=ddK (srt slx l) (srt slx l).length
theorem aAL (l:List (List Int)):sdP l=sdW l:=by
  refine pL (aEn (lD aDw l) (Nat.le_refl _)) (kZ l) fun u=>?_
  unfold sdP
  rw [qR (Nat.le_refl _),List.take_length,eV]
  exact (mH slx l).mem_iff
theorem aKO (l:List (List Int)):(sdW l).length≤l.length:=by
  rw [← aAL]
  have:=uY (srt slx l) (srt slx l).length
  unfold sdP; rw [iY] at this ⊢; exact this
end Go.Proofs.YtilfohjlglefjaaGreat
namespace Go.Proofs.YtilfohjlglefjaaGreat
open Go
theorem aHv {p:Nat→Bool}: ∀ n k,-1≤fi p k n∧(0≤fi p k n→fi p k n < ((k+n:Nat):Int))
  |0,k=>⟨Int.le_refl _,fun h=>by simp [fi] at h⟩
  | n + 1, k => by
    simp only [fi]
    split
    · exact ⟨by omega,fun _=>by omega⟩
    · have h:=aHv (p:=p) n (k+1)
      exact ⟨h.1,fun h0=>by have:=h.2 h0; omega⟩
def clA (l:List Tr) (t:Tr):Nat→Nat×Int
  |0=>(t.ni.length,0)
  |n+1=>if 0≤df (nth l n) t∧df (nth l n) t < ((clA l t n).1:Nat) then ((df (nth l n) t).toNat,nth (nth l n).no (df (nth l n) t).toNat) else clA l t n
def clB (o:Ob) (t:Tr):Prop:=prE t o.i=0∧(clA o.tr t o.tr.length).1≠t.ni.length
instance (o:Ob) (t:Tr):Decidable (clB o t):=by unfold clB; infer_instance
end Go.Proofs.YtilfohjlglefjaaGreat
namespace Go.Proofs.YtilfohjlglefjaaGreat
def Srt (l:List Tr):Prop:=l.Pairwise fun a b=>slx a.ni b.ni < 0
def inP (l:List Tr) (t:Tr) (j:Nat):Bool:=hp (nth l j).ni t.ni
def inL (l:List Tr) (t:Tr):Prop:=exB (inP l t) 0 l.length=true∨t.ni.length=0
instance (l:List Tr) (t:Tr):Decidable (inL l t):=inferInstanceAs (Decidable (_∨_))
theorem OK.srt {o:Ob} (h:OK o):Srt o.tr:=by
  rw [Srt,List.pairwise_iff_getElem]
  intro i j hi hj hij
  rw [aM hi,aM hj]
  exact OK.lt_of h.ord hij hj
def okR (a b:Tr):Prop:=slx a.ni b.ni < 0∧hp b.ni a.ni=false∧df a b < 0
theorem OK.of {i:Int} {l:List Tr} (hi:1≤i∧i≤64) (hl:l.length≤10000) (hm: ∀ t∈l,Proper t i∧0 < t.ni.length) (h:l.Pairwise okR):OK ⟨i,l⟩:=by
  rw [List.pairwise_iff_getElem] at h
  have h': ∀ a b,a < b→b < l.length→okR (nth l a) (nth l b):=fun a b hab hb=>by
    have:=h a b (by omega) hb hab
    rwa [aM,aM] at this
  exact ⟨hi,hl,fun k hk=>hm _ (bF hk),fun k hk=>(h' k (k+1) (by omega) hk).1,fun a b hab hb=>(h' a b hab hb).2.1,fun a b hab hb=>(h' a b hab hb).2.2⟩
section
variable {l:List Tr} {t:Tr} {k:Nat}
end
theorem aGr {a b:List Int} (h1:hp a b=true) (h2:a.length≤b.length):a=b:=by
  obtain ⟨x,rfl⟩:=aAc.1 h1
  have:x=[]:=by cases x with
    |nil=>rfl
    |cons c x=>simp at h2; omega
  simp [this]
end Go.Proofs.YtilfohjlglefjaaGreat
namespace Go.Proofs.YtilfohjlglefjaaGreat
theorem Tr.eq_iff {a b:Tr}:a=b↔a.ni=b.ni∧a.no=b.no:=by cases a; cases b; simp
theorem Ob.eq_iff {a b:Ob}:a=b↔a.i=b.i∧a.tr=b.tr:=by cases a; cases b; simp
instance:DecidableEq Tr:=fun _ _=>decidable_of_iff _ Tr.eq_iff.symm
instance:DecidableEq Ob:=fun _ _=>decidable_of_iff _ Ob.eq_iff.symm
end Go.Proofs.YtilfohjlglefjaaGreat
namespace Go.Proofs.YtilfohjlglefjaaGreat
theorem OK.anti {o:Ob} (h:OK o) {u v:Tr} (hu:u∈o.tr) (hv:v∈o.tr) (e:hp v.ni u.ni=true):v=u:=by
  obtain ⟨a,ha,rfl⟩:=dP hu
  obtain ⟨b,hb,rfl⟩:=dP hv
  rcases Nat.lt_trichotomy a b with q|q|q
  · rw [h.pre a b q hb] at e; cases e
  · rw [q]
  · have h1:=OK.lt_of h.ord q ha
    have h2:=aF9 e
    unfold slx at h1
    split at h1
    · omega
    · split at h1
      · omega
      · rw [aGr e (by omega),bZ.2 rfl] at h1; omega
theorem aQS {a b:Tr}:df a b < 0↔ ∀ j,j < cmn a.ni b.ni→nth a.no j=nth b.no j:=by
  constructor
  · intro h j hj
    by_cases e:nth a.no j=nth b.no j
    · exact e
    · have:=aCH.2 ⟨j,hj,e⟩; omega
  · intro h
    by_cases e:df a b < 0
    · exact e
    · obtain ⟨j,hj,q⟩:=aCH.1 (show 0≤df a b by omega)
      exact (q (h j hj)).elim
theorem OK.cl {o:Ob} (h:OK o) {u v:Tr} (hu:u∈o.tr) (hv:v∈o.tr):df u v < 0:=aQS.2 fun _ hj=>h.same hu hv hj
end Go.Proofs.YtilfohjlglefjaaGreat
namespace Go.Proofs.YtilfohjlglefjaaGreat
theorem aA9: ∀ {l m:List Int},l.Nodup→(∀ a∈l,a∈m)→l.length≤m.length
  |[],_,_,_=>Nat.zero_le _
  | a :: l, m, hn, hs => by
    obtain ⟨h1,h2⟩:=List.nodup_cons.1 hn
    have ha:a∈m:=hs a (by simp)
    have:=aA9 (m:=m.erase a) h2 fun b hb=>(List.mem_erase_of_ne (fun e=>h1 (by rw [← e]; exact hb))).2 (hs b (List.mem_cons_of_mem _ hb))
    rw [List.length_erase_of_mem ha] at this
    have:=List.length_pos_of_mem ha
    simp only [List.length_cons]; omega
def cB (b:Bool):List V:=[.bool b]
abbrev RS:=List Int×List Bool
def aIY (P:RS) (a:Int):RS:=if nth P.2 a.toNat=true then P else (P.1++[a],P.2.set a.toNat true)
def aSC (m:M) (P:RS) (k:Nat):RS:=(nth m.nx (nth P.1 k).toNat).foldl aIY P
def aTm (m:M):Nat→Nat→RS→RS
  |0,_,P=>P
  |n+1,k,P=>if k < P.1.length then aTm m n (k+1) (aSC m P k) else P
def aUs (m:M):RS:=([m.s],(List.replicate m.nx.length false).set m.s.toNat true)
def rch (m:M):List Int:=if dU m≠0 then [] else (aTm m m.nx.length 0 (aUs m)).1
structure RI (n:Nat) (P:RS):Prop where
  blen:P.2.length=n
  rng: ∀ a∈P.1,0≤a∧a < n
  mem: ∀ a:Int,0≤a→a < n→(nth P.2 a.toNat=true↔a∈P.1)
  nd:P.1.Nodup
theorem nH {α:Type} [Inhabited α] {l:List α} {i j:Nat} {x:α} (hi:i < l.length):nth (l.set i x) j=if i=j then x else nth l j:=by
  unfold nth
  by_cases e:i=j
  · subst e; simp [hi]
  · rw [if_neg e]
    simp [List.getElem?_set,e]
theorem RI.step {n : Nat} {P : RS} (h : RI n P) {a : Int} (h0 : 0 ≤ a) (h1 : a < n) : RI n (aIY P a) := by
  unfold aIY
  split
  · exact h
  · rename_i g
    have hna:a∉P.1:=fun q=>g ((h.mem a h0 h1).2 q)
    have hlt:a.toNat < P.2.length:=by rw [h.blen]; omega
    refine ⟨by simp [h.blen],fun b hb=>?_,fun b b0 b1=>?_,?_⟩
    · rcases List.mem_append.1 hb with hb|hb
      · exact h.rng b hb
      · rw [List.mem_singleton.1 hb]; exact ⟨h0,h1⟩
    · rw [nH hlt,List.mem_append,List.mem_singleton]
      by_cases e:a.toNat=b.toNat
      · rw [if_pos e]; exact ⟨fun _=>.inr (by omega),fun _=>rfl⟩
      · rw [if_neg e,h.mem b b0 b1]
        exact ⟨.inl,fun q=>q.resolve_right fun q=>e (by rw [q])⟩
    · rw [List.nodup_append]
      refine ⟨h.nd,by simp,fun x hx y hy=>?_⟩
      rw [List.mem_singleton.1 hy]; intro e; exact hna (e ▸ hx)
theorem RI.fold {n:Nat}: ∀ {w:List Int} {P:RS},RI n P→(∀ a∈w,0≤a∧a < n)→RI n (w.foldl aIY P)
  |[],_,h,_=>h
  | a :: w, P, h, hw => by
    rw [List.foldl_cons]
    exact RI.fold (h.step (hw a (by simp)).1 (hw a (by simp)).2) fun b hb=>hw b (List.mem_cons_of_mem _ hb)
theorem RI.len {n:Nat} {P:RS} (h:RI n P):P.1.length≤n:=by
  have:=aA9 (m:=(List.range n).map Int.ofNat) h.nd fun a ha=>by
    obtain ⟨h0,h1⟩:=h.rng a ha
    exact List.mem_map.2 ⟨a.toNat,List.mem_range.2 (by omega),by simp; omega⟩
  simpa using this
theorem aPN {m:M} (h:dU m=0) {s:Int} (h0:0≤s) (h1:s < m.nx.length): ∀ a∈nth m.nx s.toNat,0≤a∧a < m.nx.length:=fun a ha=>by
  obtain ⟨j,hj,rfl⟩:=dP ha
  obtain ⟨g1,_,g3⟩:=(iW h).2.2.2.2.2.2.2 s.toNat (by omega)
  have:=g3 j (by omega)
  exact ⟨this.1,this.2.1⟩
theorem RI.row {m:M} (h:dU m=0) {P:RS} (hP:RI m.nx.length P) {k:Nat} (hk:k < P.1.length):RI m.nx.length (aSC m P k):=by
  obtain ⟨h0,h1⟩:=hP.rng _ (bF hk)
  exact RI.fold hP (aPN h h0 h1)
end Go.Proofs.YtilfohjlglefjaaGreat
namespace Go.Proofs.YtilfohjlglefjaaGreat
structure Nd where
  lf:Bool
  ac:List Int
  sf:List Int
  ou:List (List Int)
  kd:List Int
  deriving Inhabited
abbrev cN (x:Nd):List V:=[.bool x.lf,aS x.ac,aS x.sf,aB x.ou,aS x.kd]
structure Dt where
  nd:List Nd
  deriving Inhabited
@[simp] theorem aK5 (l:List Nd):cP (l.map cN)=true:=cS _ _ fun a=>by simp [cN]
theorem Nd.eq_iff {a b:Nd}:a=b↔a.lf=b.lf∧a.ac=b.ac∧a.sf=b.sf∧a.ou=b.ou∧a.kd=b.kd:=by cases a; cases b; simp
theorem Dt.eq_iff {a b:Dt}:a=b↔a.nd=b.nd:=by cases a; cases b; simp
instance:DecidableEq Nd:=fun _ _=>decidable_of_iff _ Nd.eq_iff.symm
instance:DecidableEq Dt:=fun _ _=>decidable_of_iff _ Dt.eq_iff.symm
def ouE (w:List Int) (k:Nat):Int:=if nth w k < 0∨1048576 < nth w k then 2 else 0
def vlE (bI suffix:List Int):Int:=if bI.length≠suffix.length then 1 else fe (ouE bI) 0 bI.length
def lfE (x:Nd):Int:=if 0 < x.sf.length+x.ou.length+x.kd.length then 1 else dX x.ac 64
def chE (x:Nd) (n:Nat) (k:Nat):Int:=if vlE (nth x.ou k) x.sf≠0 then vlE (nth x.ou k) x.sf else if 0 < k∧0≤aZ (nth x.ou (k - 1)) (nth x.ou k) then 10 else if nth x.kd k < 0∨(n:Int)≤nth x.kd k then 2 else 0
def aGj (x:Nd) (n:Nat):Int:=
  if 0 < x.ac.length then 1 else if x.sf.length=0 then 19 else if dX x.sf 64≠0 then dX x.sf 64 else if x.ou.length≠x.kd.length then 1 else fe (chE x n) 0 x.ou.length
def ndE (x:Nd) (n:Nat):Int:=if x.lf=true then lfE x else aGj x n
def acL (l:List Nd):List (List Int):=(l.filter (·.lf)).map (·.ac)
def qS (t:Dt) (P:List Int) (i:Nat):List Int:=P++(nth t.nd (nth P i).toNat).kd
structure KI (t:Dt):Prop where
  pos:0 < t.nd.length
  rng: ∀ k,k < t.nd.length→ ∀ a∈(nth t.nd k).kd,0≤a∧a < t.nd.length
def whI:RS→List Int→Option RS
  |P,[]=>some P
  |P,a::w=>if nth P.2 a.toNat=true then none else whI (P.1++[a],P.2.set a.toNat true) w
def whN (t:Dt):Nat→Nat→RS→Option RS
  |0,_,P=>some P
  |n+1,i,P=>if i < P.1.length then (whI P (nth t.nd (nth P.1 i).toNat).kd).bind (whN t n (i+1)) else some P
def wh0 (t:Dt):RS:=([0],(List.replicate t.nd.length false).set 0 true)
def whB (t:Dt):Bool:=match whN t t.nd.length 0 (wh0 t) with
  |some P=>decide (P.1.length=t.nd.length)
  |none=>false
inductive Ln (t:Dt):Nat→List Int→Prop where
  |zero:Ln t 0 [0]
  |step {i:Nat} {P:List Int} (h:Ln t i P) (hi:i < P.length):Ln t (i+1) (qS t P i)
theorem Ln.rng {t:Dt} (hk:KI t): ∀ {i:Nat} {P:List Int},Ln t i P→ ∀ a∈P,0≤a∧a < t.nd.length:=by
  intro i P h
  induction h with
  |zero=>intro a ha; rw [List.mem_singleton.1 ha]; have:=hk.pos; omega
  | step h hi ih =>
    intro a ha
    rcases List.mem_append.1 ha with ha|ha
    · exact ih a ha
    · have:=ih _ (bF hi)
      exact hk.rng _ (by omega) a ha
theorem Ln.le {t:Dt}: ∀ {i:Nat} {P:List Int},Ln t i P→i≤P.length:=by
  intro i P h
  induction h with
  |zero=>simp
  |step h hi ih=>unfold qS; rw [List.length_append]; omega
def Whole (t:Dt):Prop:= ∃ P:List Int,Ln t P.length P∧P.Nodup∧P.length=t.nd.length
theorem Ln.uniq {t:Dt}: ∀ {i:Nat} {P Q:List Int},Ln t i P→Ln t i Q→P=Q:=by
  intro i P Q h
  induction h generalizing Q with
  |zero=>intro h; cases h; rfl
  | step h hi ih =>
    intro h'
    cases h' with
    |step h2 hi2=>rw [ih h2]
theorem Ln.pre {t:Dt}: ∀ {i:Nat} {P:List Int},Ln t i P→ ∀ {j:Nat} {Q:List Int},Ln t j Q→i≤j→ ∃ x,Q=P++x:=by
  intro i P h j Q h2 hij
  induction h2 with
  | zero =>
    have:i=0:=by omega
    subst this; exact ⟨[],by rw [h.uniq .zero]; rfl⟩
  | step h3 hi ih =>
    rename_i j Q
    by_cases e:i=j+1
    · subst e; exact ⟨[],by rw [h.uniq (.step h3 hi)]; simp⟩
    · obtain ⟨x,hx⟩:=ih (by omega)
      exact ⟨x++(nth t.nd (nth Q j).toNat).kd,by unfold qS; rw [hx,List.append_assoc]⟩
theorem qG {t:Dt} {P:List Int} (h: ∀ a∈P,0≤a∧a < t.nd.length) (hn:P.Nodup):P.length≤t.nd.length:=by
  have:=aA9 (m:=(List.range t.nd.length).map Int.ofNat) hn fun a ha=>by
    obtain ⟨h0,h1⟩:=h a ha
    exact List.mem_map.2 ⟨a.toNat,List.mem_range.2 (by omega),by simp; omega⟩
  simpa using this
def Mk (n:Nat) (B:List Bool) (l:List Int):Prop:=B.length=n∧ ∀ a:Int,0≤a→a < n→(nth B a.toNat=true↔a∈l)
theorem Mk.set {n:Nat} {B:List Bool} {l:List Int} (h:Mk n B l) {a:Int} (h0:0≤a) (h1:a < n):Mk n (B.set a.toNat true) (l++[a]):=by
  refine ⟨by simp [h.1],fun b b0 b1=>?_⟩
  rw [nH (by rw [h.1]; omega),List.mem_append,List.mem_singleton]
  by_cases e:a.toNat=b.toNat
  · rw [if_pos e]; exact ⟨fun _=>.inr (by omega),fun _=>rfl⟩
  · rw [if_neg e,h.2 b b0 b1]
    exact ⟨.inl,fun q=>q.resolve_right fun q=>e (by rw [q])⟩
theorem Mk.none (n:Nat):Mk n (List.replicate n false) []:=by
  refine ⟨by simp,fun a h0 h1=>?_⟩
  have:nth (List.replicate n false) a.toNat=false:=by
    rw [← aM (by simp; omega)]; simp
  rw [this]; simp
theorem aCm {n : Nat} : ∀ {w : List Int} {P : RS}, Mk n P.2 P.1 → P.1.Nodup → (∀ a ∈ w, 0 ≤ a ∧ a < n) →
    match whI P w with
    |some Q=>Q.1=P.1++w∧Mk n Q.2 Q.1∧Q.1.Nodup
    |none=> ¬(P.1++w).Nodup
  |[],P,h,hn,_=>by simp only [whI]; exact ⟨by simp,h,hn⟩
  | a :: w, P, h, hn, hw => by
    obtain ⟨h0,h1⟩:=hw a (by simp)
    simp only [whI]
    by_cases e:nth P.2 a.toNat=true
    · rw [if_pos e]
      intro q
      have:=(h.2 a h0 h1).1 e
      rw [List.nodup_append] at q
      exact q.2.2 a this a (by simp) rfl
    · rw [if_neg e]
      have hna:a∉P.1:=fun q=>e ((h.2 a h0 h1).2 q)
      have hnd:(P.1++[a]).Nodup:=by
        rw [List.nodup_append]
        exact ⟨hn,by simp,fun x hx y hy=>by rw [List.mem_singleton.1 hy]; intro q; exact hna (q ▸ hx)⟩
      have ih:=aCm (w:=w) (P:=(P.1++[a],P.2.set a.toNat true)) (h.set h0 h1) hnd fun b hb=>hw b (List.mem_cons_of_mem _ hb)
      have ea:P.1++[a]++w=P.1++a::w:=by simp
      simp only [ea] at ih
      exact ih
theorem uE {t : Dt} (hk : KI t) : ∀ (n i : Nat) (P : RS), Ln t i P.1 → Mk t.nd.length P.2 P.1 → P.1.Nodup → t.nd.length ≤ i + n →
    match whN t n i P with
    |some Q=>Ln t Q.1.length Q.1∧Q.1.Nodup
    |none=> ∃ j L,Ln t j L∧ ¬L.Nodup
  | 0, i, P, hl, hm, hn, hi => by
    simp only [whN]
    have h1:=hl.le
    have h2:=qG (hl.rng hk) hn
    have:P.1.length=i:=by omega
    exact ⟨by rw [this]; exact hl,hn⟩
  | n + 1, i, P, hl, hm, hn, hi => by
    simp only [whN]
    by_cases h:i < P.1.length
    · rw [if_pos h]
      have hr:=hl.rng hk _ (bF h)
      have hw:=aCm (w:=(nth t.nd (nth P.1 i).toNat).kd) hm hn (hk.rng _ (by omega))
      cases hq:whI P (nth t.nd (nth P.1 i).toNat).kd with
      | none =>
        rw [hq] at hw
        simp only [Option.bind_none]
        exact ⟨i+1,_,.step hl h,hw⟩
      | some Q =>
        rw [hq] at hw
        simp only [Option.bind_some]
        obtain ⟨g1,g2,g3⟩:=hw
        exact uE hk n (i+1) Q (by rw [g1]; exact .step hl h) g2 g3 (by omega)
    · rw [if_neg h]
      have:=hl.le
      have:P.1.length=i:=by omega
      exact ⟨by rw [this]; exact hl,hn⟩
theorem aIx {t : Dt} (hk : KI t) : whB t = true ↔ Whole t := by
  have h0:Mk t.nd.length (wh0 t).2 (wh0 t).1:=by
    have:=(Mk.none t.nd.length).set (a:=0) (by omega) (by have:=hk.pos; omega)
    exact this
  have h:=uE hk t.nd.length 0 (wh0 t) .zero h0 (by simp [wh0]) (by omega)
  unfold whB
  cases hq:whN t t.nd.length 0 (wh0 t) with
  | none =>
    rw [hq] at h
    obtain ⟨j,L,g1,g2⟩:=h
    simp only [Bool.false_eq_true,false_iff]
    rintro ⟨P,p1,p2,p3⟩
    have hj : j ≤ P.length := by
      have:=g1.le
      by_cases e:j≤P.length
      · exact e
      · exfalso
        obtain ⟨x,hx⟩:=p1.pre g1 (by omega)
        -- the line ends with P:no step leads beyond it
        have key: ∀ {j:Nat} {L:List Int},Ln t j L→P.length < j→False:=by
          intro j L hL
          induction hL with
          |zero=>intro q; omega
          | step h2 hi ih =>
            rename_i a b
            intro q
            by_cases e2:P.length < a
            · exact ih e2
            · have:a=P.length:=by omega
              subst this
              rw [h2.uniq p1] at hi; omega
        exact key g1 (by omega)
    obtain ⟨x,hx⟩:=g1.pre p1 hj
    rw [hx,List.nodup_append] at p2
    exact g2 p2.1
  | some Q =>
    rw [hq] at h
    obtain ⟨g1,g2⟩:=h
    simp only [decide_eq_true_eq]
    constructor
    · intro e; exact ⟨Q.1,g1,g2,e⟩
    · rintro ⟨P,p1,p2,p3⟩
      have key: ∀ {j:Nat} {L:List Int},Ln t j L→ ∀ {P:List Int},Ln t P.length P→j≤P.length:=by
        intro j L hL P p1
        induction hL with
        |zero=>omega
        | step h2 hi ih =>
          rename_i a b
          by_cases e:a=P.length
          · subst e; rw [h2.uniq p1] at hi; omega
          · omega
      have a1:=key g1 p1
      have a2:=key p1 g1
      omega
def dvE (t : Dt) : Int :=
  if t.nd.length=0 then 19 else if 4096 < t.nd.length then 11 else if fe (fun k=>ndE (nth t.nd k) t.nd.length) 0 t.nd.length≠0 then fe (fun k=>ndE (nth t.nd k) t.nd.length) 0 t.nd.length else
    if whB t=false then 1 else if (sdW (acL t.nd)).length≠(acL t.nd).length then 7 else 0
end Go.Proofs.YtilfohjlglefjaaGreat
namespace Go.Proofs.YtilfohjlglefjaaGreat
def qO (l:List (List Int)):Prop:=l.Pairwise fun a b=>aZ a b < 0
def lxP (w u:List Int):Bool:=decide (aZ u w < 0)
def lxN (l:List (List Int)) (w:List Int):Nat:=(l.takeWhile (lxP w)).length
theorem aHy (a:List Int): ¬aZ a a < 0:=by rw [bZ.2 rfl]; omega
theorem aEa {w a:List Int} {l:List (List Int)}:lxN (a::l) w=if lxP w a=true then lxN l w+1 else 0:=by
  unfold lxN; rw [List.takeWhile_cons]; split <;> rfl
theorem aLi {w:List Int}: ∀ l:List (List Int),lxN l w≤l.length
  |[]=>Nat.le_refl _
  |a::l=>by rw [aEa]; have:=aLi (w:=w) l; split <;> simp <;> omega
theorem vY {w : List Int} : ∀ {l : List (List Int)} (_ : qO l) {k : Nat}, k < l.length → (aZ (nth l k) w < 0 ↔ k < lxN l w)
  |[],_,k,hk=>by simp at hk
  | a :: l, h, k, hk => by
    rw [aEa]
    obtain ⟨h1,h2⟩:=List.pairwise_cons.1 h
    by_cases e:lxP w a=true
    · rw [if_pos e]
      cases k with
      |zero=>rw [eA]; simp only [lxP,decide_eq_true_eq] at e; exact ⟨fun _=>by omega,fun _=>e⟩
      |succ k=>rw [jU,vY h2 (by simpa using hk)]; omega
    · rw [if_neg e]
      simp only [lxP,decide_eq_true_eq] at e
      refine ⟨fun h3=>?_,fun h3=>by omega⟩
      cases k with
      |zero=>exact (e h3).elim
      | succ k =>
        rw [jU] at h3
        exact (e (jJ (h1 _ (bF (by simpa using hk))) h3)).elim
def lxH (l:List (List Int)) (w:List Int):Prop:=lxN l w < l.length∧aZ (nth l (lxN l w)) w=0
instance (l:List (List Int)) (w:List Int):Decidable (lxH l w):=inferInstanceAs (Decidable (_∧_))
theorem aIl {l:List (List Int)} {w:List Int} (h:lxH l w):nth l (lxN l w)=w:=bZ.1 h.2
theorem qJ {l:List (List Int)} (h:qO l) {i j:Nat} (hij:i < j) (hj:j < l.length):aZ (nth l i) (nth l j) < 0:=by
  have:=(List.pairwise_iff_getElem.1 h) i j (by omega) hj hij
  rwa [aM,aM] at this
theorem aDC {l:List (List Int)} (hs:qO l) {w:List Int} {k:Nat} (hk:k < l.length) (h:nth l k=w):lxN l w=k∧lxH l w:=by
  have h1: ¬k < lxN l w:=fun q=>aHy w (by have:=(vY hs hk).2 q; rwa [h] at this)
  have h2: ¬lxN l w < k:=fun q=>by
    have g:=qJ hs q hk
    rw [h] at g
    have:=(vY hs (show lxN l w < l.length by omega)).1 g; omega
  have e:lxN l w=k:=by omega
  exact ⟨e,by rw [lxH,e]; exact ⟨hk,bZ.2 h⟩⟩
end Go.Proofs.YtilfohjlglefjaaGreat
namespace Go.Proofs.YtilfohjlglefjaaGreat
theorem oT {α:Type} [Inhabited α] {l:List α} {a:α} (h:a∈l): ∃ k,k < l.length∧nth l k=a:=by
  obtain ⟨k,hk,e⟩:=List.mem_iff_getElem.1 h
  exact ⟨k,hk,by rw [← aM hk]; exact e⟩
theorem aFM {l:List Int} (h:l.Nodup) {i j:Nat} (hi:i < l.length) (hj:j < l.length) (e:nth l i=nth l j):i=j:=by
  have hp:=List.pairwise_iff_getElem.1 h
  rcases Nat.lt_trichotomy i j with q|q|q
  · exact (hp i j hi hj q (by rw [aM,aM]; exact e)).elim
  · exact q
  · exact (hp j i hj hi q (by rw [aM,aM]; exact e.symm)).elim
theorem aIw {l:List (List Int)} (h: ∀ a b,a < b→b < l.length→aZ (nth l a) (nth l b) < 0):qO l:=
  List.pairwise_iff_getElem.2 fun i j hi hj hij=>by rw [aM,aM]; exact h i j hij hj
theorem mB {t : Dt} (h : dvE t = 0) : 0 < t.nd.length ∧ t.nd.length ≤ 4096 ∧ (∀ k, k < t.nd.length → ndE (nth t.nd k) t.nd.length = 0) ∧ whB t = true ∧ (sdW (acL t.nd)).length = (acL t.nd).length := by
  unfold dvE at h
  split at h
  · omega
  · split at h
    · omega
    · split at h
      · rename_i q; exact (q h).elim
      · rename_i q
        split at h
        · omega
        · rename_i w
          split at h
          · omega
          · refine ⟨by omega,by omega,fun k hk=>?_,by simpa using w,by omega⟩
            have:=cE.1 (Decidable.not_not.1 q) k (Nat.zero_le _) (by omega)
            exact this
structure InOk (x:Nd) (n:Nat):Prop where
  ac:x.ac=[]
  s0:0 < x.sf.length
  sw:dX x.sf 64=0
  len:x.ou.length=x.kd.length
  ov: ∀ k,k < x.ou.length→vlE (nth x.ou k) x.sf=0
  srt:qO x.ou
  kr: ∀ a∈x.kd,0≤a∧a < n
structure LfOk (x:Nd):Prop where
  sf:x.sf=[]
  ou:x.ou=[]
  kd:x.kd=[]
  aw:dX x.ac 64=0
theorem aHb {x:Nd} {n k:Nat} (h:chE x n k=0):vlE (nth x.ou k) x.sf=0∧(0 < k→aZ (nth x.ou (k - 1)) (nth x.ou k) < 0)∧0≤nth x.kd k∧nth x.kd k < n:=by
  unfold chE at h
  split at h
  · rename_i q; exact (q h).elim
  · split at h
    · omega
    · split at h
      · omega
      · exact ⟨by omega,fun hk=>by omega,by omega,by omega⟩
theorem aTt {x:Nd} {n:Nat}: ∀ {i:Nat},(∀ j,j < i→chE x n j=0)→ ∀ a b,a < b→b < i→aZ (nth x.ou a) (nth x.ou b) < 0:=by
  intro i h a b
  induction b with
  |zero=>intro q; omega
  | succ b ih =>
    intro q hb
    have h1:=(aHb (h (b+1) hb)).2.1 (by omega)
    rw [Nat.add_sub_cancel] at h1
    rcases Nat.lt_or_ge a b with g|g
    · exact jJ (ih g (by omega)) h1
    · rw [show a=b by omega]; exact h1
theorem aHF {x : Nd} {n : Nat} (h : aGj x n = 0) : InOk x n := by
  unfold aGj at h
  split at h
  · omega
  · split at h
    · omega
    · split at h
      · rename_i q; exact (q h).elim
      · split at h
        · omega
        · rename_i h1 h2 h3 h4
          have hc:=cE.1 h
          have hc': ∀ j,j < x.ou.length→chE x n j=0:=fun j hj=>hc j (Nat.zero_le _) (by omega)
          refine ⟨List.eq_nil_of_length_eq_zero (by omega),by omega,by omega,by omega,fun k hk=>(aHb (hc' k hk)).1,aIw fun a b hab hb=>aTt hc' a b hab hb,fun a ha=>?_⟩
          obtain ⟨k,hk,rfl⟩:=oT ha
          exact (aHb (hc' k (by omega))).2.2
theorem aLz {x:Nd} (h:lfE x=0):LfOk x:=by
  unfold lfE at h
  split at h
  · omega
  · exact ⟨List.eq_nil_of_length_eq_zero (by omega),List.eq_nil_of_length_eq_zero (by omega),List.eq_nil_of_length_eq_zero (by omega),h⟩
theorem yX {t:Dt} (h:dvE t=0) {k:Nat} (hk:k < t.nd.length) (hl:(nth t.nd k).lf=false):InOk (nth t.nd k) t.nd.length:=by
  have:=(mB h).2.2.1 k hk
  unfold ndE at this
  rw [hl,if_neg (by simp)] at this
  exact aHF this
theorem aGg {t:Dt} (h:dvE t=0) {k:Nat} (hk:k < t.nd.length) (hl:(nth t.nd k).lf=true):LfOk (nth t.nd k):=by
  have:=(mB h).2.2.1 k hk
  unfold ndE at this
  rw [hl,if_pos rfl] at this
  exact aLz this
theorem aF6 {t:Dt} (h0:0 < t.nd.length) (h: ∀ k,k < t.nd.length→ndE (nth t.nd k) t.nd.length=0):KI t:=by
  refine ⟨h0,fun k hk a ha=>?_⟩
  have:=h k hk
  unfold ndE at this
  split at this
  · rw [(aLz this).kd] at ha; cases ha
  · exact (aHF this).kr a ha
theorem kH {t:Dt} (h:dvE t=0):KI t:=aF6 (mB h).1 (mB h).2.2.1
def Plc (t:Dt) (P:List Int):Prop:=Ln t P.length P∧P.Nodup∧P.length=t.nd.length
theorem kC {t:Dt} (h:dvE t=0): ∃ P,Plc t P:=(aIx (kH h)).1 (mB h).2.2.2.1
theorem Ln.kid {t:Dt}: ∀ {i:Nat} {P:List Int},Ln t i P→ ∀ {a:Int} {j:Nat},j < i→a∈(nth t.nd (nth P j).toNat).kd→ ∃ s,j < s∧s < P.length∧nth P s=a:=by
  intro i P h
  induction h with
  |zero=>intro a j hj; omega
  | step h hi ih =>
    rename_i i P
    intro a j hj ha
    have hle:=h.le
    have e:nth (qS t P i) j=nth P j:=by unfold qS; exact bD (by omega)
    rw [e] at ha
    have hl:(qS t P i).length=P.length+(nth t.nd (nth P i).toNat).kd.length:=by unfold qS; rw [List.length_append]
    rcases Nat.lt_or_ge j i with q|q
    · obtain ⟨s,h1,h2,h3⟩:=ih q ha
      exact ⟨s,h1,by omega,by unfold qS; rw [bD h2]; exact h3⟩
    · have:j=i:=by omega
      subst this
      obtain ⟨c,hc,hv⟩:=oT ha
      exact ⟨P.length+c,by omega,by omega,by unfold qS; rw [cO]; exact hv⟩
theorem Ln.par {t:Dt}: ∀ {i:Nat} {P:List Int},Ln t i P→ ∀ {s:Nat},0 < s→s < P.length→ ∃ j,j < s∧nth P s∈(nth t.nd (nth P j).toNat).kd:=by
  intro i P h
  induction h with
  |zero=>intro s h0 h1; simp at h1; omega
  | step h hi ih =>
    rename_i i P
    intro s h0 h1
    have hl:(qS t P i).length=P.length+(nth t.nd (nth P i).toNat).kd.length:=by unfold qS; rw [List.length_append]
    rcases Nat.lt_or_ge s P.length with q|q
    · obtain ⟨j,g1,g2⟩:=ih h0 q
      refine ⟨j,g1,?_⟩
      unfold qS; rw [bD q,bD (by omega)]; exact g2
    · refine ⟨i,by omega,?_⟩
      have e:s=P.length+(s - P.length):=by omega
      unfold qS
      rw [bD hi,e,cO]
      exact bF (by omega)
theorem Plc.head {t:Dt} {P:List Int} (h:Plc t P):nth P 0=0∧(0 < t.nd.length→0 < P.length):=by
  have: ∀ {i:Nat} {P:List Int},Ln t i P→nth P 0=0:=by
    intro i P h
    induction h with
    |zero=>rfl
    |step h hi ih=>unfold qS; rw [bD (by omega)]; exact ih
  exact ⟨this h.1,fun q=>by rw [h.2.2]; exact q⟩
theorem Plc.kid {t:Dt} {P:List Int} (h:Plc t P) {s:Nat} (hs:s < P.length) {a:Int} (ha:a∈(nth t.nd (nth P s).toNat).kd): ∃ s',s < s'∧s' < P.length∧nth P s'=a:=h.1.kid hs ha
theorem Plc.all {t:Dt} (hk:KI t) {P:List Int} (h:Plc t P) {a:Int} (h0:0≤a) (h1:a < t.nd.length): ∃ s,s < P.length∧nth P s=a:=by
  by_cases e:a∈P
  · exact oT e
  · have:=qG (t:=t) (P:=a::P) (fun b hb=>by
      rcases List.mem_cons.1 hb with rfl|hb
      · exact ⟨h0,h1⟩
      · exact h.1.rng hk b hb) (List.nodup_cons.2 ⟨e,h.2.1⟩)
    have:=h.2.2
    simp at*; omega
theorem Plc.one {t : Dt} (hk : KI t) {P : List Int} (h : Plc t P) : ∀ {m m' a : Int}, 0 ≤ m → m < t.nd.length → 0 ≤ m' → m' < t.nd.length → a ∈ (nth t.nd m.toNat).kd → a ∈ (nth t.nd m'.toNat).kd → m = m' := by
  intro m m' a h0 h1 h2 h3 ha hb
  obtain ⟨i,hi,ei⟩:=h.all hk h0 h1
  obtain ⟨j,hj,ej⟩:=h.all hk h2 h3
  have key: ∀ {n:Nat} {Q:List Int},Ln t n Q→Q.Nodup→ ∀ {i j:Nat},i < j→j < n→a∈(nth t.nd (nth Q i).toNat).kd→a∈(nth t.nd (nth Q j).toNat).kd→False:=by
    intro n Q hq
    induction hq with
    |zero=>intro _ i j _ hj; omega
    | step h hi ih =>
      rename_i n Q
      intro hnd i j hij hj ha hb
      have hle:=h.le
      have e1:nth (qS t Q n) i=nth Q i:=by unfold qS; exact bD (by omega)
      have e2:nth (qS t Q n) j=nth Q j:=by unfold qS; exact bD (by omega)
      rw [e1] at ha; rw [e2] at hb
      have hn2:(Q++(nth t.nd (nth Q n).toNat).kd).Nodup:=hnd
      rw [List.nodup_append] at hn2
      rcases Nat.lt_or_ge j n with q|q
      · exact ih hn2.1 hij q ha hb
      · have:j=n:=by omega
        subst this
        obtain ⟨s,_,g2,g3⟩:=h.kid hij ha
        exact hn2.2.2 a (g3 ▸ bF g2) a hb rfl
  rw [← ei] at ha; rw [← ej] at hb
  rcases Nat.lt_trichotomy i j with q|q|q
  · exact (key h.1 h.2.1 q hj ha hb).elim
  · rw [← ei,← ej,q]
  · exact (key h.1 h.2.1 q hi hb ha).elim
def jY (t:Dt) (o:Ob) (w:List Int):Nat→Nat→Int×List Int×Int
  |0,n=>(n,[],0)
  | f + 1, n => if (nth t.nd n).lf = true then (n, [], 0) else if dX (cat [w, (nth t.nd n).sf]) o.i ≠ 0 then (0, [], dX (cat [w, (nth t.nd n).sf]) o.i) else
      if (ans o (cat [w,(nth t.nd n).sf])).isSome=false then (0,cat [w,(nth t.nd n).sf],0) else
      if lxH (nth t.nd n).ou (((ans o (cat [w,(nth t.nd n).sf])).getD []).drop w.length) then jY t o w f (nth (nth t.nd n).kd (lxN (nth t.nd n).ou (((ans o (cat [w,(nth t.nd n).sf])).getD []).drop w.length))).toNat else (n,[],0)
def bW (t:Dt) (o:Ob) (w:List Int):Int×List Int×Int:=
  if dvE t≠0 then (0,[],dvE t) else if dX w o.i≠0 then (0,[],dX w o.i) else jY t o w t.nd.length 0
def Rk (t:Dt) (f n:Nat):Prop:= ∃ P s,Plc t P∧s < P.length∧nth P s=(n:Int)∧t.nd.length≤f+s
theorem rk0 {t:Dt} (h:dvE t=0):Rk t t.nd.length 0:=by
  obtain ⟨P,hP⟩:=kC h
  exact ⟨P,0,hP,hP.head.2 (mB h).1,hP.head.1,by omega⟩
theorem Rk.pos {t:Dt} {f n:Nat} (h:Rk t f n):0 < f:=by
  obtain ⟨P,s,hP,hs,_,h3⟩:=h
  have:=hP.2.2; omega
theorem Rk.lt {t:Dt} (hv:dvE t=0) {f n:Nat} (h:Rk t f n):n < t.nd.length:=by
  obtain ⟨P,s,hP,hs,h2,_⟩:=h
  have:=hP.1.rng (kH hv) _ (bF hs)
  omega
theorem Rk.step {t:Dt} {f n:Nat} (h:Rk t f n) {a:Int} (ha:a∈(nth t.nd n).kd) (h0:0≤a):Rk t (f - 1) a.toNat:=by
  have hp:=h.pos
  obtain ⟨P,s,hP,hs,h2,h3⟩:=h
  obtain ⟨s',g1,g2,g3⟩:=hP.kid hs (a:=a) (by rw [h2]; simpa using ha)
  exact ⟨P,s',hP,g2,by rw [g3]; omega,by omega⟩
section
variable {t:Dt} {o:Ob} {w:List Int} {f n:Nat}
theorem aBA (hf:0 < f) (h:(nth t.nd n).lf=true):jY t o w f n=((n:Int),[],0):=by
  obtain ⟨f,rfl⟩: ∃ g,f=g+1:=⟨f - 1,by omega⟩
  rw [jY,if_pos h]
theorem aEC (hf:0 < f) (h:(nth t.nd n).lf=false) (h1:dX (cat [w,(nth t.nd n).sf]) o.i≠0):jY t o w f n=(0,[],dX (cat [w,(nth t.nd n).sf]) o.i):=by
  obtain ⟨f,rfl⟩: ∃ g,f=g+1:=⟨f - 1,by omega⟩
  rw [jY,if_neg (by simp [h]),if_pos h1]
theorem aDG (hf:0 < f) (h:(nth t.nd n).lf=false) (h1: ¬dX (cat [w,(nth t.nd n).sf]) o.i≠0) (h2:(ans o (cat [w,(nth t.nd n).sf])).isSome=false):jY t o w f n=(0,cat [w,(nth t.nd n).sf],0):=by
  obtain ⟨f,rfl⟩: ∃ g,f=g+1:=⟨f - 1,by omega⟩
  rw [jY,if_neg (by simp [h]),if_neg h1,if_pos h2]
theorem aF4 (hf:0 < f) (h:(nth t.nd n).lf=false) (h1: ¬dX (cat [w,(nth t.nd n).sf]) o.i≠0) (h2:(ans o (cat [w,(nth t.nd n).sf])).isSome=true) (h3:lxH (nth t.nd n).ou (((ans o (cat [w,(nth t.nd n).sf])).getD []).drop w.length)):
    jY t o w f n=jY t o w (f - 1) (nth (nth t.nd n).kd (lxN (nth t.nd n).ou (((ans o (cat [w,(nth t.nd n).sf])).getD []).drop w.length))).toNat:=by
  obtain ⟨f,rfl⟩: ∃ g,f=g+1:=⟨f - 1,by omega⟩
  rw [jY,if_neg (by simp [h]),if_neg h1,if_neg (by simp [h2]),if_pos h3,Nat.add_sub_cancel]
theorem aGw (hf:0 < f) (h:(nth t.nd n).lf=false) (h1: ¬dX (cat [w,(nth t.nd n).sf]) o.i≠0) (h2:(ans o (cat [w,(nth t.nd n).sf])).isSome=true) (h3: ¬lxH (nth t.nd n).ou (((ans o (cat [w,(nth t.nd n).sf])).getD []).drop w.length)):
    jY t o w f n=((n:Int),[],0):=by
  obtain ⟨f,rfl⟩: ∃ g,f=g+1:=⟨f - 1,by omega⟩
  rw [jY,if_neg (by simp [h]),if_neg h1,if_neg (by simp [h2]),if_neg h3]
end
def par (t:Dt) (n:Int):Int:=fi (fun k=>decide (n∈(nth t.nd k).kd)) 0 t.nd.length
def Up (t:Dt) (f:Nat) (n:Int):Prop:= ∃ P s,Plc t P∧s < P.length∧nth P s=n∧s≤f
theorem Up.of {t:Dt} (h:dvE t=0) {n:Int} (h0:0≤n) (h1:n < t.nd.length):Up t t.nd.length n:=by
  obtain ⟨P,hP⟩:=kC h
  obtain ⟨s,hs,e⟩:=hP.all (kH h) h0 h1
  exact ⟨P,s,hP,hs,e,by have:=hP.2.2; omega⟩
theorem Up.pos {t:Dt} {f:Nat} {n:Int} (h:Up t f n) (hn:n≠0):0 < f:=by
  obtain ⟨P,s,hP,hs,h2,h3⟩:=h
  rcases Nat.eq_zero_or_pos s with e|e
  · subst e; rw [hP.head.1] at h2; exact (hn h2.symm).elim
  · omega
theorem Up.rng {t:Dt} (hv:dvE t=0) {f:Nat} {n:Int} (h:Up t f n):0≤n∧n < t.nd.length:=by
  obtain ⟨P,s,hP,hs,h2,_⟩:=h
  rw [← h2]; exact hP.1.rng (kH hv) _ (bF hs)
theorem aPC {t:Dt} (hv:dvE t=0) {m n:Int} (h0:0≤m) (h1:m < t.nd.length) (h:n∈(nth t.nd m.toNat).kd):par t n=m:=by
  obtain ⟨P,hP⟩:=kC hv
  have hn:0≤par t n:=uO.2 ⟨m.toNat,Nat.zero_le _,by omega,decide_eq_true h⟩
  obtain ⟨_,g2,g3,_⟩:=zZ hn
  refine hP.one (kH hv) hn ?_ h0 h1 (of_decide_eq_true g3) h
  have:(par t n).toNat < 0+t.nd.length:=g2
  omega
theorem Up.par {t:Dt} (hv:dvE t=0) {f:Nat} {n:Int} (h:Up t f n) (hn:n≠0):Up t (f - 1) (par t n)∧0≤par t n∧par t n < t.nd.length∧n∈(nth t.nd (par t n).toNat).kd:=by
  have hp:=h.pos hn
  have h':=h
  obtain ⟨P,s,hP,hs,h2,h3⟩:=h
  have hs0:0 < s:=by
    rcases Nat.eq_zero_or_pos s with e|e
    · subst e; rw [hP.head.1] at h2; exact (hn h2.symm).elim
    · exact e
  obtain ⟨j,g1,g2⟩:=hP.1.par hs0 hs
  rw [h2] at g2
  have hr:=hP.1.rng (kH hv) _ (bF (show j < P.length by omega))
  have e:=aPC hv hr.1 hr.2 g2
  rw [e]
  exact ⟨⟨P,j,hP,by omega,rfl,by omega⟩,hr.1,hr.2,g2⟩
end Go.Proofs.YtilfohjlglefjaaGreat
namespace Go.Proofs.YtilfohjlglefjaaGreat
set_option linter.unusedSectionVars false
section
variable {α:Type} [Inhabited α]
def inW (p:Nat) (x:α) (l:List α):List α:=l.take p++x::l.drop p
theorem aDH (p:Nat) (x:α) (l:List α):(inW p x l).length=l.length+1:=by
  unfold inW; simp; omega
theorem aAf {p:Nat} {x y:α} {l:List α}:y∈inW p x l↔y=x∨y∈l:=by
  have e:l=l.take p++l.drop p:=(List.take_append_drop p l).symm
  unfold inW
  constructor
  · intro h
    rcases List.mem_append.1 h with h|h
    · exact .inr (List.mem_of_mem_take h)
    · rcases List.mem_cons.1 h with h|h
      · exact .inl h
      · exact .inr (List.mem_of_mem_drop h)
  · intro h
    rcases h with h|h
    · subst h; exact List.mem_append_right _ (by simp)
    · rw [e] at h
      rcases List.mem_append.1 h with h|h
      · exact List.mem_append_left _ h
      · exact List.mem_append_right _ (List.mem_cons_of_mem _ h)
end
def gNd (x:Nd) (bI:List Int) (kid:Int):Nd:=⟨x.lf,x.ac,x.sf,inW (lxN x.ou bI) bI x.ou,inW (lxN x.ou bI) kid x.kd⟩
def noE (t:Dt) (n:Int) (leaf:Bool):Int:=if n < 0∨(t.nd.length:Int)≤n then 2 else if (nth t.nd n.toNat).lf≠leaf then 10 else 0
def fsE (t:Dt) (w:List Int):Int:=if dX w 64≠0 then dX w 64 else if w∈acL t.nd then 7 else 0
def grE (t:Dt) (n:Int) (bI w:List Int):Int:=
  if dvE t≠0 then dvE t else if noE t n false≠0 then noE t n false else if vlE bI (nth t.nd n.toNat).sf≠0 then vlE bI (nth t.nd n.toNat).sf else
  if lxH (nth t.nd n.toNat).ou bI then 7 else if fsE t w≠0 then fsE t w else if 4096≤t.nd.length then 11 else 0
def lfN (w:List Int):Nd:=⟨true,w,[],[],[]⟩
def grT (t:Dt) (n:Int) (bI w:List Int):Dt:=if grE t n bI w=0 then ⟨t.nd.set n.toNat (gNd (nth t.nd n.toNat) bI t.nd.length)++[lfN w]⟩ else t
structure Ct where
  lf:Int
  sf:List Int
  ou:List Int
  ac:List Int
  ot:List Int
  deriving Inhabited
def aTo (t:Dt) (n:Int) (sf bI w other:List Int):Int:=
  if noE t n true≠0 then noE t n true else if sf.length=0 then 19 else if dX sf 64≠0 then dX sf 64 else if vlE bI sf≠0 then vlE bI sf else
  if fsE t w≠0 then fsE t w else if vlE other sf≠0 then vlE other sf else if bI=other then 15 else if 4094 < t.nd.length then 11 else 0
def spE (t:Dt) (n:Int) (sf bI w other:List Int):Int:=if dvE t≠0 then dvE t else aTo t n sf bI w other
def spO (bI other:List Int):List (List Int):=if 0 < aZ bI other then [other,bI] else [bI,other]
def spK (bI other:List Int) (n:Nat):List Int:=if 0 < aZ bI other then [(n:Int)+1,n] else [(n:Int),(n:Int)+1]
def spN (sf bI other:List Int) (n:Nat):Nd:=⟨false,[],sf,spO bI other,spK bI other n⟩
def spT (t:Dt) (n:Int) (sf bI w other:List Int):Dt:=
  if spE t n sf bI w other=0 then ⟨t.nd.set n.toNat (spN sf bI other t.nd.length)++[nth t.nd n.toNat,lfN w]⟩ else t
end Go.Proofs.YtilfohjlglefjaaGreat
namespace Go.Proofs.YtilfohjlglefjaaGreat
structure Tree (t:Dt):Prop where
  d1: ∀ k,k < t.nd.length→(nth t.nd k).kd.Nodup
  d2: ∀ j k,j < t.nd.length→k < t.nd.length→j≠k→ ∀ a∈(nth t.nd j).kd,a∉(nth t.nd k).kd
  d3: ∀ k,k < t.nd.length→(0:Int)∉(nth t.nd k).kd
  d4: ∀ a:Int,0 < a→a < t.nd.length→ ∃ k,k < t.nd.length∧a∈(nth t.nd k).kd
  rk: ∃ r:Int→Nat,∀ k:Nat,k < t.nd.length→ ∀ a∈(nth t.nd k).kd,r k < r a
def kO (t:Dt) (a:Int):List Int:=(nth t.nd a.toNat).kd
theorem aEM {t:Dt}: ∀ {i:Nat} {P:List Int},Ln t i P→P=0::(P.take i).flatMap (kO t):=by
  intro i P h
  induction h with
  |zero=>rfl
  | step h hi ih =>
    rename_i i P
    have e:(qS t P i).take (i+1)=P.take i++[nth P i]:=by
      unfold qS; rw [List.take_append_of_le_length (by omega),iG hi]
    rw [e,List.flatMap_append,← List.cons_append,← ih]
    simp [qS,kO]
theorem oV {t:Dt} (hk:KI t) (h:Whole t):Tree t:=by
  obtain ⟨P,hP⟩:=h
  have hP:Plc t P:=hP
  have hf:=aEM hP.1
  rw [List.take_length] at hf
  have hn:=hP.2.1
  rw [hf,List.nodup_cons] at hn
  have hn2:(P.flatMap (kO t)).Pairwise (· ≠ ·):=hn.2
  rw [List.pairwise_flatMap] at hn2
  have hall: ∀ k:Nat,k < t.nd.length→ ∃ s,s < P.length∧nth P s=(k:Int):=fun k hk'=>hP.all hk (by omega) (by omega)
  refine ⟨fun k hk'=>?_,fun j k hj hk' hne a ha hb=>?_,fun k hk' h0=>?_,fun a h0 h1=>?_,?_⟩
  · obtain ⟨s,hs,e⟩:=hall k hk'
    have:=hn2.1 (k:Int) (e ▸ bF hs)
    have h2:(kO t (k:Int)).Nodup:=this
    simpa only [kO,Int.toNat_natCast] using h2
  · have:=hP.one hk (m:=(j:Int)) (m':=(k:Int)) (by omega) (by omega) (by omega) (by omega) (by simpa using ha) (by simpa using hb)
    omega
  · obtain ⟨s,hs,e⟩:=hall k hk'
    obtain ⟨s',g1,g2,g3⟩:=hP.kid hs (a:=0) (by rw [e]; simpa using h0)
    have:=aFM hP.2.1 g2 (show 0 < P.length by omega) (by rw [g3,hP.head.1])
    omega
  · obtain ⟨s,hs,e⟩:=hP.all hk (a:=a) (by omega) h1
    have hs0:0 < s:=by
      rcases Nat.eq_zero_or_pos s with q|q
      · subst q; rw [hP.head.1] at e; omega
      · exact q
    obtain ⟨j,g1,g2⟩:=hP.1.par hs0 hs
    have:=hP.1.rng hk _ (bF (show j < P.length by omega))
    exact ⟨(nth P j).toNat,by omega,e ▸ g2⟩
  · refine ⟨fun a=>if h: ∃ s,s < P.length∧nth P s=a then h.choose else 0,fun k hk' a ha=>?_⟩
    have h1:=hall k hk'
    obtain ⟨s',g1,g2,g3⟩:=hP.kid h1.choose_spec.1 (a:=a) (by rw [h1.choose_spec.2]; simpa using ha)
    have h2: ∃ s,s < P.length∧nth P s=a:=⟨s',g2,g3⟩
    have e:=aFM hP.2.1 h2.choose_spec.1 g2 (by rw [h2.choose_spec.2,g3])
    show (if h: ∃ s,s < P.length∧nth P s=(k:Int) then h.choose else 0) < (if h: ∃ s,s < P.length∧nth P s=a then h.choose else 0)
    rw [dif_pos h1,dif_pos h2,e]
    exact g1
theorem aIM {t : Dt} (hk : KI t) (h : Tree t) : ∀ {i : Nat} {L : List Int}, Ln t i L → L.Nodup := by
  intro i L hl
  induction hl with
  |zero=>simp
  | step hl hi ih =>
    rename_i i L
    have hstep:Ln t (i+1) (qS t L i):=.step hl hi
    have e:(qS t L i).take (i+1)=L.take (i+1):=by
      unfold qS; rw [List.take_append_of_le_length (by omega)]
    have hf:=aEM hstep
    rw [e] at hf
    rw [hf,List.nodup_cons]
    have hr:=hl.rng hk
    have hm: ∀ a∈L.take (i+1),0≤a∧a < t.nd.length:=fun a ha=>hr a (List.mem_of_mem_take ha)
    constructor
    · intro h0
      obtain ⟨a,ha,hb⟩:=List.mem_flatMap.1 h0
      have:=hm a ha
      exact h.d3 a.toNat (by omega) hb
    · show ((L.take (i+1)).flatMap (kO t)).Pairwise (· ≠ ·)
      rw [List.pairwise_flatMap]
      refine ⟨fun a ha=>?_,?_⟩
      · have:=hm a ha
        exact h.d1 a.toNat (by omega)
      · have hs:(L.take (i+1)).Nodup:=ih.sublist (List.take_sublist _ _)
        refine List.pairwise_iff_getElem.2 fun p q hp hq hpq x hx y hy e=>?_
        subst e
        have hne:=(List.pairwise_iff_getElem.1 hs) p q hp hq hpq
        have h1:=hm _ (List.getElem_mem hp)
        have h2:=hm _ (List.getElem_mem hq)
        exact h.d2 _ _ (by omega) (by omega) (fun e=>hne (by omega)) x hx hy
theorem aCF {t : Dt} (hk : KI t) (h : Tree t) : whB t = true := by
  have hs:=uE hk t.nd.length 0 (wh0 t) .zero ((Mk.none t.nd.length).set (a:=0) (by omega) (by have:=hk.pos; omega)) (by simp [wh0]) (by omega)
  unfold whB
  cases hq:whN t t.nd.length 0 (wh0 t) with
  | none =>
    rw [hq] at hs
    obtain ⟨j,L,g1,g2⟩:=hs
    exact (g2 (aIM hk h g1)).elim
  | some Q =>
    rw [hq] at hs
    obtain ⟨g1,g2⟩:=hs
    simp only [decide_eq_true_eq]
    have hle:=qG (g1.rng hk) g2
    obtain ⟨r,hr⟩:=h.rk
    have h0:nth Q.1 0=0∧0 < Q.1.length:=by
      have hd: ∀ {i:Nat} {P:List Int},Ln t i P→nth P 0=0∧0 < P.length:=by
        intro i P h
        induction h with
        |zero=>exact ⟨rfl,by simp⟩
        |step h hi ih=>exact ⟨by unfold qS; rw [bD ih.2]; exact ih.1,by unfold qS; rw [List.length_append]; omega⟩
      exact hd g1
    have hall: ∀ n:Nat,∀ a:Int,r a < n→0≤a→a < t.nd.length→a∈Q.1:=by
      intro n
      induction n with
      |zero=>intro a h1; omega
      | succ n ih =>
        intro a h1 h2 h3
        by_cases e:a=0
        · rw [e,← h0.1]; exact bF h0.2
        · obtain ⟨k,k1,k2⟩:=h.d4 a (by omega) h3
          have hk2:=hr k k1 a k2
          obtain ⟨s,s1,s2⟩:=oT (ih (k:Int) (by omega) (by omega) (by omega))
          obtain ⟨s',_,s4,s5⟩:=g1.kid s1 (a:=a) (by rw [s2]; simpa using k2)
          rw [← s5]; exact bF s4
    have hge:=aA9 (l:=(List.range t.nd.length).map Int.ofNat) (m:=Q.1) (by
        rw [List.Nodup,List.pairwise_map]
        exact List.nodup_range.imp fun hab e=>hab (by have q:(_:Int)=_:=e; exact Int.ofNat.inj q)) (fun a ha=>by
        obtain ⟨k,k1,rfl⟩:=List.mem_map.1 ha
        exact hall (r (Int.ofNat k)+1) _ (by omega) (by simp) (by have:=List.mem_range.1 k1; simp; omega))
    simp at hge
    omega
theorem aDP {α:Type} [BEq α] [LawfulBEq α]: ∀ {A L:List α},A.Nodup→(∀ a∈A,a∈L)→L.length≤A.length→A.Perm L
  | [], L, _, _, h => by
    have:L=[]:=List.eq_nil_of_length_eq_zero (by simpa using h)
    rw [this]
  | a :: A, L, hn, hs, hl => by
    obtain ⟨h1,h2⟩:=List.nodup_cons.1 hn
    have ha:=hs a (by simp)
    have hp:=List.perm_cons_erase ha
    have hlen:=hp.length_eq
    simp only [List.length_cons] at hlen hl
    refine List.Perm.trans (List.Perm.cons a (aDP h2 (fun b hb=>?_) (by omega))) hp.symm
    have:=hp.mem_iff.1 (hs b (List.mem_cons_of_mem _ hb))
    rcases List.mem_cons.1 this with e|e
    · exact (h1 (e ▸ hb)).elim
    · exact e
theorem aCx (l:List (List Int)):(sdW l).Nodup:=List.Pairwise.imp (fun {a b} (h:slx a b < 0) (e:a=b)=>tW b (by rw [e] at h; exact h)) (kZ l)
theorem aB0 {l:List (List Int)}:(sdW l).length=l.length↔l.Nodup:=by
  constructor
  · intro h
    exact (aDP (aCx l) (fun a ha=>(eV l a).1 ha) (by omega)).nodup (aCx l)
  · intro h
    exact ((List.perm_ext_iff_of_nodup (aCx l) h).2 fun a=>eV l a).length_eq
theorem aIk {l m:List (List Int)} (h: ∀ u,u∈l↔u∈m):sdW l=sdW m:=
  pL (kZ l) (kZ m) fun u=>by rw [eV,eV]; exact h u
theorem aCo {l:List Nd} {n:Nat} (h:n < l.length):l=l.take n++nth l n::l.drop (n+1):=by
  rw [← aBF h,List.take_append_drop]
theorem aHE {l:List Nd} {n:Nat} (h:n < l.length) (x:Nd):l.set n x=l.take n++x::l.drop (n+1):=by
  rw [List.set_eq_take_append_cons_drop,if_pos h]
theorem nN (l m:List Nd):acL (l++m)=acL l++acL m:=by simp [acL]
theorem mF (x:Nd) (l:List Nd):acL (x::l)=(if x.lf=true then [x.ac] else [])++acL l:=by
  unfold acL; cases h:x.lf <;> simp [List.filter_cons,h]
theorem aHr {l:List Nd} {n:Nat} (h:n < l.length) (hl:(nth l n).lf=false) {x:Nd} (hx:x.lf=false) (w:List Int):acL (l.set n x++[lfN w])=acL l++[w]:=by
  rw [aHE h,nN,nN,mF,hx]
  conv=>rhs; rw [aCo h,nN,mF,hl]
  simp [acL,lfN]
theorem aE2 {l:List Nd} {n:Nat} (h:n < l.length) (hl:(nth l n).lf=true) {x:Nd} (hx:x.lf=false) (w:List Int):(acL (l.set n x++[nth l n,lfN w])).Perm (acL l++[w]):=by
  have e1:acL (l.set n x++[nth l n,lfN w])=acL (l.take n)++(acL (l.drop (n+1))++[(nth l n).ac])++[w]:=by
    rw [aHE h,nN,nN,mF,hx,mF,hl]; simp [acL,lfN]
  have e2:acL l=acL (l.take n)++((nth l n).ac::acL (l.drop (n+1))):=by
    conv=>lhs; rw [aCo h,nN,mF,hl]
    simp
  rw [e1,e2]
  refine List.Perm.append_right _ (List.Perm.append_left _ ?_)
  exact List.perm_append_comm (l₁:=acL (l.drop (n+1))) (l₂:=[(nth l n).ac])
theorem aGm {x:Nd} {n:Nat} (h:InOk x n):aGj x n=0:=by
  unfold aGj
  have h0:=h.s0
  rw [if_neg (by rw [h.ac]; simp),if_neg (by omega),if_neg (by rw [h.sw]; simp),if_neg (by rw [h.len]; simp)]
  refine cE.2 fun k _ hk=>?_
  have hk:k < x.ou.length:=by omega
  have hr:=h.kr _ (bF (show k < x.kd.length by rw [← h.len]; exact hk))
  unfold chE
  rw [if_neg (by rw [h.ov k hk]; simp),if_neg,if_neg (by omega)]
  rintro ⟨q1,q2⟩
  have:=qJ h.srt (show k - 1 < k by omega) hk
  omega
theorem aSt {x:Nd} {n:Nat} (h:InOk x n) {m:Nat} (hm:n≤m):InOk x m:=
  ⟨h.ac,h.s0,h.sw,h.len,h.ov,h.srt,fun a ha=>by have:=h.kr a ha; omega⟩
theorem zY {x:Nd} {n m:Nat} (h:ndE x n=0) (hm:n≤m):ndE x m=0:=by
  unfold ndE at h ⊢
  split at h
  · rename_i q; rw [if_pos q]; exact h
  · rename_i q; rw [if_neg q]; exact aGm (aSt (aHF h) hm)
theorem aIZ {l:List (List Int)} (hs:qO l) {w:List Int} (hx: ¬lxH l w):qO (inW (lxN l w) w l):=by
  unfold qO inW
  have hs':(l.take (lxN l w)++l.drop (lxN l w)).Pairwise fun a b=>aZ a b < 0:=by rw [List.take_append_drop]; exact hs
  rw [List.pairwise_append] at hs' ⊢
  have hlow: ∀ a∈l.take (lxN l w),aZ a w < 0:=fun a ha=>by
    obtain ⟨k,hk,rfl⟩:=oT ha
    have hk':k < lxN l w∧k < l.length:=by simp at hk; omega
    rw [kX hk'.1]
    exact (vY hs hk'.2).2 hk'.1
  have hup: ∀ b∈l.drop (lxN l w),aZ w b < 0:=fun b hb=>by
    obtain ⟨k,hk,rfl⟩:=oT hb
    have hk':lxN l w+k < l.length:=by simp at hk; omega
    rw [rH]
    have h1: ¬aZ (nth l (lxN l w+k)) w < 0:=fun q=>by have:=(vY hs hk').1 q; omega
    rcases aBI (nth l (lxN l w+k)) w with e|e|e
    · have:=aDC hs hk' (bZ.1 e); exact (hx this.2).elim
    · omega
    · exact rC (by omega)
  refine ⟨hs'.1,List.pairwise_cons.2 ⟨hup,hs'.2.1⟩,fun a ha b hb=>?_⟩
  rcases List.mem_cons.1 hb with rfl|hb
  · exact hlow a ha
  · exact hs'.2.2 a ha b hb
theorem aCa {l:List Nd} {n:Nat} (hn:n < l.length) (x:Nd) (m:List Nd) (k:Nat):nth (l.set n x++m) k=if k < l.length then (if n=k then x else nth l k) else nth m (k - l.length):=by
  by_cases h:k < l.length
  · rw [if_pos h,bD (by simpa using h),nH hn]
  · rw [if_neg h]
    have e:k=(l.set n x).length+(k - l.length):=by rw [List.length_set]; omega
    rw [e,cO,List.length_set]; congr 1; omega
end Go.Proofs.YtilfohjlglefjaaGreat
namespace Go.Proofs.YtilfohjlglefjaaGreat
theorem aHm {t t':Dt} (hk:KI t) (h:Tree t) {n m:Nat} (hn:n < t.nd.length) (hN:t'.nd.length=t.nd.length+m)
    (hkd: ∀ k,k < t.nd.length+m→ ∀ a,a∈(nth t'.nd k).kd↔(k < t.nd.length∧a∈(nth t.nd k).kd)∨(k=n∧(t.nd.length:Int)≤a∧a < ((t.nd.length+m:Nat):Int)))
    (hd: ∀ k,k < t.nd.length+m→(nth t'.nd k).kd.Nodup):Tree t':=by
  have hr: ∀ k a,k < t.nd.length→a∈(nth t.nd k).kd→0≤a∧a < t.nd.length:=fun k a h1 h2=>hk.rng k h1 a h2
  refine ⟨fun k hk'=>hd k (by omega),fun j k hj hk' hne a ha hb=>?_,fun k hk' h0=>?_,fun a h0 h1=>?_,?_⟩
  · rcases (hkd j (by omega) a).1 ha with q|q <;> rcases (hkd k (by omega) a).1 hb with p|p
    · exact h.d2 j k q.1 p.1 hne a q.2 p.2
    · have:=hr _ _ q.1 q.2; omega
    · have:=hr _ _ p.1 p.2; omega
    · omega
  · rcases (hkd k (by omega) 0).1 h0 with q|q
    · exact h.d3 k q.1 q.2
    · have:=hk.pos; omega
  · by_cases e:a < t.nd.length
    · obtain ⟨k,k1,k2⟩:=h.d4 a h0 e
      exact ⟨k,by omega,(hkd k (by omega) a).2 (.inl ⟨k1,k2⟩)⟩
    · exact ⟨n,by omega,(hkd n (by omega) a).2 (.inr ⟨rfl,by omega,by omega⟩)⟩
  · obtain ⟨r,hr2⟩:=h.rk
    refine ⟨fun a=>if a < t.nd.length then r a else r n+1,fun k hk' a ha=>?_⟩
    rcases (hkd k (by omega) a).1 ha with q|q
    · have:=hr _ _ q.1 q.2
      simp only
      rw [if_pos (by omega),if_pos this.2]
      exact hr2 k q.1 a q.2
    · obtain ⟨rfl,q2,q3⟩:=q
      simp only
      rw [if_pos (by omega),if_neg (by omega)]
      omega
theorem aL8 {p:Nat} {x:Int} {l:List Int} (h:l.Nodup) (hx:x∉l):(inW p x l).Nodup:=by
  unfold inW
  have h':(l.take p++l.drop p).Nodup:=by rw [List.take_append_drop]; exact h
  rw [List.nodup_append] at h' ⊢
  refine ⟨h'.1,List.nodup_cons.2 ⟨fun q=>hx (List.mem_of_mem_drop q),h'.2.1⟩,fun a ha b hb=>?_⟩
  rcases List.mem_cons.1 hb with rfl|hb
  · intro e; exact hx (e ▸ List.mem_of_mem_take ha)
  · exact h'.2.2 a ha b hb
theorem aHO {t t':Dt} (hv:dvE t=0) {n m:Nat} (hn:n < t.nd.length) (hN:t'.nd.length=t.nd.length+m) (hl:t.nd.length+m≤4096)
    (hkd: ∀ k,k < t.nd.length+m→ ∀ a,a∈(nth t'.nd k).kd↔(k < t.nd.length∧a∈(nth t.nd k).kd)∨(k=n∧(t.nd.length:Int)≤a∧a < ((t.nd.length+m:Nat):Int)))
    (hd: ∀ k,k < t.nd.length+m→(nth t'.nd k).kd.Nodup) (he: ∀ k,k < t.nd.length+m→ndE (nth t'.nd k) (t.nd.length+m)=0) {w:List Int} (hw:w∉acL t.nd) (hp:(acL t'.nd).Perm (acL t.nd++[w])):
    dvE t'=0∧sdW (acL t'.nd)=sdW (sdW (acL t.nd)++[w])∧(sdW (acL t'.nd)).length=(sdW (acL t.nd)).length+1:=by
  have h1:=mB hv
  have hki:KI t':=aF6 (by omega) fun k hk=>by rw [hN] at hk ⊢; exact he k hk
  have htr:Tree t':=aHm (kH hv) (oV (kH hv) (kC hv)) hn hN hkd hd
  have hwh:=aCF hki htr
  have hnd0:(acL t.nd).Nodup:=aB0.1 h1.2.2.2.2
  have hnd:(acL t'.nd).Nodup:=by
    refine hp.symm.nodup ?_
    rw [List.nodup_append]
    exact ⟨hnd0,by simp,fun a ha b hb=>by rw [List.mem_singleton.1 hb]; intro e; exact hw (e ▸ ha)⟩
  have hlen:=aB0.2 hnd
  refine ⟨?_,aIk fun u=>?_,?_⟩
  · unfold dvE
    have hf:fe (fun k=>ndE (nth t'.nd k) t'.nd.length) 0 t'.nd.length=0:=cE.2 fun k _ hk=>by
      have:=he k (by omega)
      rw [hN]; exact this
    rw [if_neg (by omega),if_neg (by omega),if_neg (by rw [hf]; simp),if_neg (by rw [hwh]; simp),if_neg (by rw [hlen]; simp)]
  · rw [hp.mem_iff,List.mem_append,List.mem_append,eV]
  · rw [hlen,hp.length_eq,List.length_append,h1.2.2.2.2]; rfl
theorem aFV {t:Dt} {n:Int} {b:Bool} (h:noE t n b=0):0≤n∧n < t.nd.length∧(nth t.nd n.toNat).lf=b:=by
  unfold noE at h
  split at h
  · omega
  · split at h
    · omega
    · rename_i q; exact ⟨by omega,by omega,Decidable.not_not.1 q⟩
theorem aDN {t:Dt} {w:List Int} (h:fsE t w=0):dX w 64=0∧w∉acL t.nd:=by
  unfold fsE at h
  split at h
  · rename_i q; exact (q h).elim
  · split at h
    · omega
    · rename_i q1 q2; exact ⟨by omega,q2⟩
theorem aKZ {t : Dt} {n : Int} {bI w : List Int} (h : grE t n bI w = 0) : dvE t = 0 ∧ noE t n false = 0 ∧ vlE bI (nth t.nd n.toNat).sf = 0 ∧ ¬lxH (nth t.nd n.toNat).ou bI ∧ fsE t w = 0 ∧ t.nd.length < 4096 := by
  unfold grE at h
  split at h
  · rename_i q; exact (q h).elim
  · split at h
    · rename_i q; exact (q h).elim
    · split at h
      · rename_i q; exact (q h).elim
      · split at h
        · omega
        · split at h
          · rename_i q; exact (q h).elim
          · split at h
            · omega
            · rename_i q1 q2 q3 q4 q5 q6
              exact ⟨by omega,by omega,by omega,q4,by omega,by omega⟩
theorem aLA {w:List Int} (h:dX w 64=0) (n:Nat):ndE (lfN w) n=0:=by
  unfold ndE lfN lfE; simpa using h
theorem aIJ {t : Dt} {n : Int} {bI w : List Int} (h : grE t n bI w = 0) :
    dvE (grT t n bI w)=0∧sdW (acL (grT t n bI w).nd)=sdW (sdW (acL t.nd)++[w])∧(sdW (acL (grT t n bI w).nd)).length=(sdW (acL t.nd)).length+1:=by
  obtain ⟨hv,h1,h2,h3,h4,h5⟩:=aKZ h
  obtain ⟨n0,n1,hl⟩:=aFV h1
  obtain ⟨w1,w2⟩:=aDN h4
  have hn:n.toNat < t.nd.length:=by omega
  have hin:=yX hv hn hl
  have hlx:=aLi (w:=bI) (nth t.nd n.toNat).ou
  have hg:InOk (gNd (nth t.nd n.toNat) bI t.nd.length) (t.nd.length+1):=by
    refine ⟨hin.ac,hin.s0,hin.sw,?_,fun k hk=>?_,aIZ hin.srt h3,fun a ha=>?_⟩
    · simp only [gNd]; rw [aDH,aDH,hin.len]
    · have hm:nth (gNd (nth t.nd n.toNat) bI t.nd.length).ou k∈inW (lxN (nth t.nd n.toNat).ou bI) bI (nth t.nd n.toNat).ou:=bF hk
      rcases aAf.1 hm with e|e
      · rw [e]; exact h2
      · obtain ⟨j,hj,e2⟩:=oT e
        rw [← e2]; exact hin.ov j hj
    · rcases aAf.1 ha with e|e
      · rw [e]; omega
      · have:=hin.kr a e; omega
  have hglf:(gNd (nth t.nd n.toNat) bI t.nd.length).lf=false:=hl
  unfold grT
  rw [if_pos h]
  have hnth:=aCa hn (gNd (nth t.nd n.toNat) bI t.nd.length) [lfN w]
  refine aHO hv hn (m:=1) (by simp) (by omega) (fun k hk a=>?_) (fun k hk=>?_) (fun k hk=>?_) w2 (by rw [aHr hn hl hglf])
  · rw [hnth]
    by_cases e:k < t.nd.length
    · rw [if_pos e]
      by_cases e2:n.toNat=k
      · rw [if_pos e2,← e2]
        show a∈inW _ _ _↔_
        rw [aAf]
        constructor
        · rintro (q|q)
          · exact .inr ⟨rfl,by omega,by omega⟩
          · exact .inl ⟨hn,q⟩
        · rintro (q|q)
          · exact .inr q.2
          · exact .inl (by omega)
      · rw [if_neg e2]
        exact ⟨fun q=>.inl ⟨e,q⟩,fun q=>q.elim (fun p=>p.2) fun p=>(e2 p.1.symm).elim⟩
    · rw [if_neg e,show k - t.nd.length=0 by omega]
      show a∈([]:List Int)↔_
      constructor
      · intro q; cases q
      · rintro (q|q)
        · exact (e q.1).elim
        · omega
  · rw [hnth]
    have htr:=oV (kH hv) (kC hv)
    split
    · split
      · exact aL8 (htr.d1 _ hn) fun q=>by have:=hin.kr _ q; omega
      · exact htr.d1 k (by omega)
    · rw [show k - t.nd.length=0 by omega]; exact List.nodup_nil
  · rw [hnth]
    split
    · split
      · unfold ndE; rw [hglf,if_neg (by simp)]; exact aGm hg
      · exact zY ((mB hv).2.2.1 k (by omega)) (by omega)
    · rw [show k - t.nd.length=0 by omega]; exact aLA w1 _
theorem aK9 {t : Dt} {n : Int} {sf bI w other : List Int} (h : spE t n sf bI w other = 0) :
    dvE t=0∧noE t n true=0∧0 < sf.length∧dX sf 64=0∧vlE bI sf=0∧fsE t w=0∧vlE other sf=0∧bI≠other∧t.nd.length≤4094:=by
  unfold spE at h
  split at h
  · rename_i q; exact (q h).elim
  · rename_i q0
    unfold aTo at h
    split at h
    · rename_i q; exact (q h).elim
    · split at h
      · omega
      · split at h
        · rename_i q; exact (q h).elim
        · split at h
          · rename_i q; exact (q h).elim
          · split at h
            · rename_i q; exact (q h).elim
            · split at h
              · rename_i q; exact (q h).elim
              · split at h
                · omega
                · split at h
                  · omega
                  · rename_i q1 q2 q3 q4 q5 q6 q7 q8
                    exact ⟨by omega,by omega,by omega,by omega,by omega,by omega,by omega,q7,by omega⟩
theorem aDX {bI other:List Int} {n:Nat} {a:Int}:a∈spK bI other n↔(n:Int)≤a∧a < ((n+2:Nat):Int):=by
  unfold spK; split <;> simp <;> omega
theorem aFK {t : Dt} {n : Int} {sf bI w other : List Int} (h : spE t n sf bI w other = 0) :
    dvE (spT t n sf bI w other)=0∧sdW (acL (spT t n sf bI w other).nd)=sdW (sdW (acL t.nd)++[w])∧(sdW (acL (spT t n sf bI w other).nd)).length=(sdW (acL t.nd)).length+1:=by
  obtain ⟨hv,h1,s0,s1,h2,h4,h3,hne,h5⟩:=aK9 h
  obtain ⟨n0,n1,hl⟩:=aFV h1
  obtain ⟨w1,w2⟩:=aDN h4
  have hn:n.toNat < t.nd.length:=by omega
  have hlf:=aGg hv hn hl
  have hg:InOk (spN sf bI other t.nd.length) (t.nd.length+2):=by
    refine ⟨rfl,s0,s1,?_,fun k hk=>?_,?_,fun a ha=>?_⟩
    · simp only [spN,spO,spK]; split <;> rfl
    · have hm:nth (spO bI other) k∈spO bI other:=bF hk
      have:nth (spO bI other) k=bI∨nth (spO bI other) k=other:=by
        unfold spO at hm ⊢; split at hm
        · rename_i q; rw [if_pos q]; simp at hm; exact hm.symm
        · rename_i q; rw [if_neg q]; simp at hm; exact hm
      show vlE (nth (spO bI other) k) sf=0
      rcases this with e|e
      · rw [e]; exact h2
      · rw [e]; exact h3
    · show qO (spO bI other)
      unfold spO qO
      split
      · rename_i q; simp; exact rC q
      · rename_i q
        simp
        rcases aBI bI other with e|e|e
        · exact (hne (bZ.1 e)).elim
        · omega
        · omega
    · have:=aDX.1 ha; omega
  unfold spT
  rw [if_pos h]
  have hnth:=aCa hn (spN sf bI other t.nd.length) [nth t.nd n.toNat,lfN w]
  have hm: ∀ k,k < t.nd.length+2→ ¬k < t.nd.length→nth [nth t.nd n.toNat,lfN w] (k - t.nd.length)=nth t.nd n.toNat∨nth [nth t.nd n.toNat,lfN w] (k - t.nd.length)=lfN w:=fun k hk e=>by
    rcases Nat.lt_or_ge k (t.nd.length+1) with q|q
    · rw [show k - t.nd.length=0 by omega]; exact .inl rfl
    · rw [show k - t.nd.length=0+1 by omega]; exact .inr rfl
  refine aHO hv hn (m:=2) (by simp) (by omega) (fun k hk a=>?_) (fun k hk=>?_) (fun k hk=>?_) w2 (aE2 hn hl rfl w)
  · rw [hnth]
    by_cases e:k < t.nd.length
    · rw [if_pos e]
      by_cases e2:n.toNat=k
      · rw [if_pos e2,← e2,hlf.kd]
        show a∈spK _ _ _↔_
        rw [aDX]
        constructor
        · intro q; exact .inr ⟨rfl,q⟩
        · rintro (q|q)
          · cases q.2
          · exact q.2
      · rw [if_neg e2]
        exact ⟨fun q=>.inl ⟨e,q⟩,fun q=>q.elim (fun p=>p.2) fun p=>(e2 p.1.symm).elim⟩
    · rw [if_neg e]
      have hkd:(nth [nth t.nd n.toNat,lfN w] (k - t.nd.length)).kd=[]:=by
        rcases hm k hk e with q|q
        · rw [q,hlf.kd]
        · rw [q]; rfl
      rw [hkd]
      constructor
      · intro q; cases q
      · rintro (q|q)
        · exact (e q.1).elim
        · omega
  · rw [hnth]
    have htr:=oV (kH hv) (kC hv)
    split
    · split
      · show (spK _ _ _).Nodup
        unfold spK; split <;> simp <;> omega
      · exact htr.d1 k (by omega)
    · rename_i e
      rcases hm k hk e with q|q
      · rw [q,hlf.kd]; exact List.nodup_nil
      · rw [q]; exact List.nodup_nil
  · rw [hnth]
    split
    · split
      · unfold ndE; rw [if_neg (by simp [spN])]; exact aGm hg
      · exact zY ((mB hv).2.2.1 k (by omega)) (by omega)
    · rename_i e
      rcases hm k hk e with q|q
      · rw [q]; exact zY ((mB hv).2.2.1 _ hn) (by omega)
      · rw [q]; exact aLA w1 _
end Go.Proofs.YtilfohjlglefjaaGreat
namespace Go.Proofs.YtilfohjlglefjaaGreat
structure Bd (t:Dt):Prop where
  n:t.nd.length≤4096
  ac: ∀ k,k < t.nd.length→(nth t.nd k).ac.length≤1048576
  sf: ∀ k,k < t.nd.length→(nth t.nd k).sf.length≤1048576
  ou: ∀ k,k < t.nd.length→(nth t.nd k).ou.length≤1048576
  kd: ∀ k,k < t.nd.length→(nth t.nd k).kd.length≤1048576
  ol: ∀ k,k < t.nd.length→ ∀ j,j < (nth t.nd k).ou.length→(nth (nth t.nd k).ou j).length≤1048576
structure WI (t:Dt) (P:RS):Prop where
  mr:Mk t.nd.length P.2 P.1
  nd:P.1.Nodup
  rg: ∀ a∈P.1,0≤a∧a < t.nd.length
theorem WI.len {t:Dt} {P:RS} (h:WI t P):P.1.length≤t.nd.length∧P.2.length=t.nd.length:=⟨qG h.rg h.nd,h.mr.1⟩
def wS (P:RS) (a:Int):RS:=(P.1++[a],P.2.set a.toNat true)
theorem WI.step {t:Dt} {P:RS} (h:WI t P) {a:Int} (h0:0≤a) (h1:a < t.nd.length) (hn:nth P.2 a.toNat=false):WI t (wS P a):=by
  refine ⟨h.mr.set h0 h1,?_,fun b hb=>?_⟩
  · show (P.1++[a]).Nodup
    rw [List.nodup_append]
    refine ⟨h.nd,by simp,fun x hx y hy e=>?_⟩
    rw [List.mem_singleton.1 hy] at e
    subst e
    have:=(h.mr.2 x h0 h1).2 hx
    rw [hn] at this; cases this
  · rcases List.mem_append.1 hb with hb|hb
    · exact h.rg b hb
    · rw [List.mem_singleton.1 hb]; exact ⟨h0,h1⟩
structure CI (t:Dt) (P:RS):Prop where
  l2:P.2.length=t.nd.length
  l1:P.1.length≤t.nd.length
  rg: ∀ a∈P.1,0≤a∧a < t.nd.length
def cSt (t:Dt) (P:RS) (i:Nat):RS:=(qS t P.1 i,P.2.set (nth P.1 i).toNat true)
theorem CI.step {t:Dt} (hk:KI t) {P:RS} (h:CI t P) {i:Nat} (hi:i < P.1.length) (hl:(qS t P.1 i).length≤t.nd.length):CI t (cSt t P i):=by
  have hr:=h.rg _ (bF hi)
  refine ⟨by simp [cSt,h.l2],hl,fun a ha=>?_⟩
  rcases List.mem_append.1 ha with ha|ha
  · exact h.rg a ha
  · exact hk.rng _ (by omega) a ha
end Go.Proofs.YtilfohjlglefjaaGreat
namespace Go.Proofs.YtilfohjlglefjaaGreat
@[simp] theorem aNQ (l:List Nd):eZ (l.map cN)=true:=fS _ _ fun a=>by simp [cN]
theorem aJv {l:List (List Int)} {w:List Int}:w∈sdP l↔w∈l:=by rw [aAL]; exact eV l w
theorem aI7 (l:List (List Int)):(sdP l).length≤l.length:=by rw [aAL]; exact aKO l
theorem aDY {α:Type} [Inhabited α] {l:List α} {k:Nat} (h:k < l.length):l.set k (nth l k)=l:=by
  refine jC (by simp) fun m hm=>?_
  rw [List.length_set] at hm
  rw [nH h]
  split
  · rename_i e; rw [e]
  · rfl
theorem aAC {l:List (List Int)} (h: ∀ i,1≤i→i < l.length→nth l i≠nth l (i - 1)):ddK l l.length=l:=by
  rw [aAp (Nat.le_refl _) h,List.take_length]
theorem aBt {l:List (List Int)} {k:Nat} (h1:1≤k) (hk:k < l.length) (h: ∀ i,1≤i→i < k→nth l i≠nth l (i - 1)) (he:nth l k=nth l (k - 1)):(ddK l (k+1)).length=k∧ddL l (k+1)=l:=by
  have e1:ddK l (k+1)=l.take k:=by
    rw [bM (by rintro (q|q); omega; exact q he),aAp (by omega) h]
  have e2:(l.take k).length=k:=by simp; omega
  refine ⟨by rw [e1,e2],?_⟩
  unfold ddL; rw [e1,e2,List.take_append_drop]
theorem aDa {l:List (List Int)}: ∀ {j:Nat},0 < j→0 < (ddK l j).length
  |1,_=>by rw [show (1:Nat)=0+1 from rfl,bJ (.inl rfl)]; simp
  | j + 2, _ => by
    have:=aDa (l:=l) (j:=j+1) (by omega)
    simp only [ddK] at this ⊢
    split
    · rw [List.length_append]; omega
    · exact this
theorem aK1 {l:List (List Int)} {k j:Nat} (h:(ddK l (k+j)).length < k+j) (hj:1≤j):
    nth (ddL l (k+j)) (0+k+j)=nth l (k+j)∧nth (ddL l (k+j)) (0+k+(((j:Nat):Int) - (1:Int)).toNat)=nth l (k+j - 1):=by
  refine ⟨(aEf (by omega)).trans (by congr 1; omega),(aEf (by omega)).trans (by congr 1; omega)⟩
theorem cU {l:List (List Int)} {j:Nat} (h:l.length≤j) (hj:j≤l.length):(ddL l j).take (ddK l j).length=ddK l l.length:=by
  have:j=l.length:=by omega
  subst this
  unfold ddL; rw [List.take_left]
theorem zJ {H:aF} {n:Nat} {u1 u2 u3 u4 u5 v1 v2 v3 v4 v5:V} (g1:fzv true H n u1=v1) (g2:fzv true H n u2=v2) (g3:fzv true H n u3=v3) (g4:fzv true H n u4=v4) (g5:fzv true H n u5=v5):
    fzv true H (n+1) (.agg [u1,u2,u3,u4,u5])=.agg [v1,v2,v3,v4,v5]:=by
  simp only [fzv,List.map_cons,List.map_nil,g1,g2,g3,g4,g5]
end Go.Proofs.YtilfohjlglefjaaGreat
namespace Go.Proofs.YtilfohjlglefjaaGreat
structure Sp (t:Dt) (o:Ob) (w:List Int) (m a:Int):Prop where
  lf:(nth t.nd m.toNat).lf=false
  kn:(ans o (cat [w,(nth t.nd m.toNat).sf])).isSome=true
  ex:lxH (nth t.nd m.toNat).ou (((ans o (cat [w,(nth t.nd m.toNat).sf])).getD []).drop w.length)
  to:a=nth (nth t.nd m.toNat).kd (lxN (nth t.nd m.toNat).ou (((ans o (cat [w,(nth t.nd m.toNat).sf])).getD []).drop w.length))
inductive Bw (t:Dt) (o:Ob) (w:List Int):List Int→Prop where
  |root:Bw t o w [0]
  |step {a m:Int} {l:List Int} (h:Bw t o w (m::l)) (hs:Sp t o w m a):Bw t o w (a::m::l)
section
variable {t:Dt} {o:Ob} {w:List Int}
theorem Sp.kid (hv:dvE t=0) {m a:Int} (h0:0≤m) (h1:m < t.nd.length) (h:Sp t o w m a):a∈(nth t.nd m.toNat).kd:=by
  rw [h.to]
  exact bF (by have:=(yX hv (show m.toNat < t.nd.length by omega) h.lf).len; have:=h.ex.1; omega)
theorem Bw.rng (hv:dvE t=0): ∀ {l:List Int},Bw t o w l→ ∀ a∈l,0≤a∧a < t.nd.length:=by
  intro l h
  induction h with
  |root=>intro a ha; rw [List.mem_singleton.1 ha]; have:=(mB hv).1; omega
  | step h hs ih =>
    rename_i a m l
    intro b hb
    rcases List.mem_cons.1 hb with rfl|hb
    · have hm:=ih m (by simp)
      exact (kH hv).rng m.toNat (by omega) _ (hs.kid hv hm.1 hm.2)
    · exact ih b hb
end
end Go.Proofs.YtilfohjlglefjaaGreat
namespace Go.Proofs.YtilfohjlglefjaaGreat
open Go
abbrev cLL (l:List (List Int)):List V:=[aB l]
@[simp] theorem aLY (l:List (List (List Int))):cP (l.map cLL)=true:=cS _ _ fun a=>by simp [cLL]
@[simp] theorem aRa (l:List (List (List Int))):eZ (l.map cLL)=true:=fS _ _ fun a=>by simp [cLL]
structure Sm (x:Nd):Prop where
  ac:x.ac.length≤1048576
  sf:x.sf.length≤1048576
  ou:x.ou.length≤1048576
  kd:x.kd.length≤1048576
  ol: ∀ w∈x.ou,w.length≤1048576
end Go.Proofs.YtilfohjlglefjaaGreat
namespace Go.Proofs.YtilfohjlglefjaaGreat
open Go Go.Sort
theorem aA4:SWO fun a b:List Int=>decide (aZ a b < 0) where
  irrefl a:=decide_eq_false (by rw [bZ.2 rfl]; omega)
  trans a b c h1 h2:=decide_eq_true (jJ (of_decide_eq_true h1) (of_decide_eq_true h2))
  ntrans a b c h1 h2:=decide_eq_false (lH.2 (aIs (lH.1 (of_decide_eq_false h2)) (lH.1 (of_decide_eq_false h1))))
theorem yL {a b:List Int} (h1: ¬aZ a b < 0) (h2: ¬aZ b a < 0):a=b:=by
  have q2:aZ a b≤0:=lH.1 h2
  exact bZ.1 (by omega)
def sdX (l:List (List Int)):List (List Int):=ddK (srt aZ l) (srt aZ l).length
theorem nK {l:List (List Int)} {w:List Int}:w∈sdX l↔w∈l:=by
  unfold sdX
  rw [qR (Nat.le_refl _),List.take_length]
  exact (mH aZ l).mem_iff
theorem aEu (l:List (List Int)):(sdX l).length≤l.length:=by
  have:=uY (srt aZ l) (srt aZ l).length
  unfold sdX; rw [iY] at this ⊢; exact this
theorem aEe {L : List (List Int)} (hs : L.Pairwise fun a b => ¬aZ b a < 0) : ∀ {j : Nat}, j ≤ L.length → qO (ddK L j)
  |0,_=>List.Pairwise.nil
  | j + 1, hj => by
    have ih:=aEe hs (j:=j) (by omega)
    by_cases h:j=0∨nth L j≠nth L (j - 1)
    · rw [bJ h, qO, List.pairwise_append]
      refine ⟨ih,by simp,fun a ha b hb=>?_⟩
      rw [List.mem_singleton.1 hb]
      have ha':=(qR (L:=L) (by omega) a).1 ha
      obtain ⟨i,hi,rfl⟩:=dP ha'
      rw [List.length_take] at hi
      rw [kX (by omega)]
      have le: ∀ p q,p < q→q < L.length→aZ (nth L p) (nth L q)≤0:=fun p q h1 h2=>by
        have:=(List.pairwise_iff_getElem.1 hs) p q (by omega) h2 h1
        rw [aM,aM] at this
        exact lH.1 this
      have h1:=le i j (by omega) (by omega)
      by_cases e:aZ (nth L i) (nth L j) < 0
      · exact e
      · exfalso
        have heq:=bZ.1 (show aZ (nth L i) (nth L j)=0 by omega)
        have h2:aZ (nth L (j - 1)) (nth L j)≤0:=le (j - 1) j (by omega) (by omega)
        have h3:aZ (nth L j) (nth L (j - 1))≤0:=by
          rw [← heq]
          by_cases ei:i=j - 1
          · rw [ei,bZ.2 rfl]; omega
          · exact le i (j - 1) (by omega) (by omega)
        have:=yL (lH.2 h3) (lH.2 h2)
        rcases h with h|h
        · omega
        · exact h this.symm
    · rw [bM h]; exact ih
theorem aIE (l:List (List Int)):qO (sdX l):=aEe (lD aA4 l) (Nat.le_refl _)
def mxC (L:List (List Int)) (k:Nat):Bool:=decide (((k+1:Nat):Int)=((L.length:Nat):Int))|| !hp (nth L (k+1)) (nth L k)
def mxO (L:List (List Int)):Nat→List (List Int)
  |0=>[]
  |k+1=>if mxC L k=true then mxO L k++[nth L k] else mxO L k
theorem iU {L:List (List Int)} {k:Nat} (h:mxC L k=true):mxO L (k+1)=mxO L k++[nth L k]:=if_pos h
theorem lN {L:List (List Int)} {k:Nat} (h:mxC L k=false):mxO L (k+1)=mxO L k:=if_neg (by rw [h]; decide)
theorem aDI (L:List (List Int)): ∀ k,(mxO L k).length≤k
  |0=>Nat.le_refl _
  |k+1=>by have:=aDI L k; simp only [mxO]; split <;> simp <;> omega
theorem aAx {L : List (List Int)} {w : List Int} : ∀ {k : Nat}, w ∈ mxO L k ↔ ∃ i, i < k ∧ mxC L i = true ∧ nth L i = w
  |0=>by simp [mxO]
  | k + 1 => by
    have ih:=aAx (L:=L) (w:=w) (k:=k)
    by_cases h:mxC L k=true
    · rw [iU h,List.mem_append,List.mem_singleton,ih]
      constructor
      · rintro (⟨i,i1,i2,i3⟩|e)
        · exact ⟨i,by omega,i2,i3⟩
        · exact ⟨k,by omega,h,e.symm⟩
      · rintro ⟨i,i1,i2,i3⟩
        by_cases e:i=k
        · subst e; exact .inr i3.symm
        · exact .inl ⟨i,by omega,i2,i3⟩
    · rw [lN (by simpa using h),ih]
      constructor
      · rintro ⟨i,i1,i2,i3⟩; exact ⟨i,by omega,i2,i3⟩
      · rintro ⟨i,i1,i2,i3⟩
        by_cases e:i=k
        · subst e; exact (h i2).elim
        · exact ⟨i,by omega,i2,i3⟩
def tpB (L:List (List Int)) (k:Nat):Nat→Bool
  |0=>true
  |j+1=>if k < j then tpB L k j&&(decide (((nth L j).length:Int)=((nth L k).length:Int))|| !hp (nth L j) (nth L k)) else true
theorem aGx {L:List (List Int)} {k j:Nat} (h:j≤k+1):tpB L k j=true:=by
  cases j with
  |zero=>rfl
  |succ j=>exact if_neg (by omega)
theorem aKB {L:List (List Int)} {k j:Nat} (h:k < j):tpB L k (j+1)=(tpB L k j&&(decide (((nth L j).length:Int)=((nth L k).length:Int))|| !hp (nth L j) (nth L k))):=if_pos h
theorem aC5 {L : List (List Int)} {k : Nat} : ∀ {j : Nat}, tpB L k j = true ↔ ∀ i, k < i → i < j → (nth L i).length = (nth L k).length ∨ hp (nth L i) (nth L k) = false
  |0=>by simp [tpB]
  | j + 1 => by
    by_cases h:k < j
    · rw [aKB h,Bool.and_eq_true,aC5 (j:=j),Bool.or_eq_true,decide_eq_true_eq,Int.ofNat_inj,Bool.not_eq_true']
      constructor
      · rintro ⟨a,b⟩ i h1 h2
        by_cases e:i=j
        · subst e; exact b
        · exact a i h1 (by omega)
      · intro a; exact ⟨fun i h1 h2=>a i h1 (by omega),a j h (by omega)⟩
    · rw [aGx (by omega)]
      exact ⟨fun _ i h1 h2=>by omega,fun _=>rfl⟩
def mxT (l:List (List Int)):Nat→List (List Int)
  |0=>[]
  |k+1=>if tpB (sdW l) k (sdW l).length=true then mxT l k++[nth (sdW l) k] else mxT l k
def mxW (l:List (List Int)):List (List Int):=mxT l (sdW l).length
theorem aAl {l : List (List Int)} {w : List Int} : ∀ {k : Nat}, w ∈ mxT l k ↔ ∃ i, i < k ∧ tpB (sdW l) i (sdW l).length = true ∧ nth (sdW l) i = w
  |0=>by simp [mxT]
  | k + 1 => by
    have ih:=aAl (l:=l) (w:=w) (k:=k)
    simp only [mxT]
    split
    · rename_i h
      rw [List.mem_append,List.mem_singleton,ih]
      constructor
      · rintro (⟨i,i1,i2,i3⟩|e)
        · exact ⟨i,by omega,i2,i3⟩
        · exact ⟨k,by omega,h,e.symm⟩
      · rintro ⟨i,i1,i2,i3⟩
        by_cases e:i=k
        · subst e; exact .inr i3.symm
        · exact .inl ⟨i,by omega,i2,i3⟩
    · rename_i h
      rw [ih]
      constructor
      · rintro ⟨i,i1,i2,i3⟩; exact ⟨i,by omega,i2,i3⟩
      · rintro ⟨i,i1,i2,i3⟩
        by_cases e:i=k
        · subst e; exact (h i2).elim
        · exact ⟨i,by omega,i2,i3⟩
theorem aEL {l:List (List Int)}: ∀ {k:Nat},k≤(sdW l).length→pO (mxT l k)
  |0,_=>List.Pairwise.nil
  | k + 1, hk => by
    have ih:=aEL (l:=l) (k:=k) (by omega)
    simp only [mxT]
    split
    · rw [pO,List.pairwise_append]
      refine ⟨ih,by simp,fun a ha b hb=>?_⟩
      rw [List.mem_singleton.1 hb]
      obtain ⟨i,i1,_,rfl⟩:=aAl.1 ha
      have:=(List.pairwise_iff_getElem.1 (kZ l)) i k (by omega) (by omega) i1
      rw [aM,aM] at this
      exact this
    · exact ih
def MxP (l:List (List Int)) (w:List Int):Prop:=w∈l∧ ∀ u∈l,hp u w=true→u=w
theorem aDL {l:List (List Int)} {w:List Int}:w∈mxW l↔MxP l w:=by
  unfold mxW
  rw [aAl]
  constructor
  · rintro ⟨i,i1,i2,rfl⟩
    refine ⟨(eV _ _).1 (bF i1),fun u hu hh=>?_⟩
    obtain ⟨j,hj,rfl⟩:=dP ((eV l u).2 hu)
    have hlen:=aF9 hh
    rcases Nat.lt_trichotomy i j with q|q|q
    · rcases aC5.1 i2 j q hj with e|e
      · exact aGr hh (by omega)
      · rw [hh] at e; cases e
    · subst q; rfl
    · have:=(List.pairwise_iff_getElem.1 (kZ l)) j i hj i1 q
      rw [aM,aM] at this
      have h2:=aGh hh
      have:=aAW this
      omega
  · rintro ⟨h1,h2⟩
    obtain ⟨i,hi,rfl⟩:=dP ((eV l w).2 h1)
    refine ⟨i,hi,aC5.2 fun j hij hj=>?_,rfl⟩
    by_cases e:hp (nth (sdW l) j) (nth (sdW l) i)=true
    · have:=h2 _ ((eV _ _).1 (bF hj)) e
      exact .inl (by rw [this])
    · exact .inr (by simpa using e)
theorem aKE {a b:List Int} (h:hp b a=true):aZ a b≤0:=by
  obtain ⟨x,rfl⟩:=aAc.1 h
  have e:cmn a (a++x)=a.length:=by
    have:=aJL (p:=a) (x:=[]) (y:=x)
    rw [List.append_nil] at this
    rw [this]; simp [cmn]
  unfold aZ
  rw [e]
  simp
  try split <;> omega
theorem aTF (l : List (List Int)) : sdW (mxO (sdX l) (sdX l).length) = mxW l := by
  refine pL (kZ _) (aEL (Nat.le_refl _)) fun w=>?_
  rw [eV,aAx]
  show _↔w∈mxW l
  rw [aDL]
  have lt: ∀ {i j:Nat},i < j→j < (sdX l).length→aZ (nth (sdX l) i) (nth (sdX l) j) < 0:=fun h1 h2=>qJ (aIE l) h1 h2
  constructor
  · rintro ⟨i,i1,i2,rfl⟩
    refine ⟨nK.1 (bF i1),fun u hu hh=>?_⟩
    obtain ⟨j,hj,rfl⟩:=dP (nK.2 hu)
    rcases Nat.lt_trichotomy i j with q|q|q
    · exfalso
      unfold mxC at i2
      rw [Bool.or_eq_true,decide_eq_true_eq,Bool.not_eq_true'] at i2
      rcases i2 with e|e
      · omega
      · have h1:=lt (show i < i+1 by omega) (by omega)
        have hle:aZ (nth (sdX l) (i+1)) (nth (sdX l) j)≤0:=by
          by_cases ej:i+1=j
          · rw [ej,bZ.2 rfl]; omega
          · have:=lt (show i+1 < j by omega) hj; omega
        have hb:=aCb (Int.le_of_lt h1) hle
        have hc:cmn (nth (sdX l) i) (nth (sdX l) j)=(nth (sdX l) i).length:=by
          have:cmn (nth (sdX l) j) (nth (sdX l) i)=(nth (sdX l) i).length:=by simpa [hp] using hh
          rw [gK]; exact this
        have h3:=rD (nth (sdX l) i) (nth (sdX l) (i+1))
        have:hp (nth (sdX l) (i+1)) (nth (sdX l) i)=true:=by
          unfold hp; rw [gK]; exact decide_eq_true (by omega)
        rw [this] at e; cases e
    · subst q; rfl
    · have h1:=lt q i1
      have h2:=aKE hh
      have:=vK h1
      omega
  · rintro ⟨h1,h2⟩
    obtain ⟨i,hi,rfl⟩:=dP (nK.2 h1)
    refine ⟨i,hi,?_,rfl⟩
    unfold mxC
    rw [Bool.or_eq_true,decide_eq_true_eq,Bool.not_eq_true']
    by_cases e:i+1=(sdX l).length
    · exact .inl (by omega)
    · refine .inr ?_
      by_cases hh:hp (nth (sdX l) (i+1)) (nth (sdX l) i)=true
      · exfalso
        have hq:=h2 _ (nK.1 (bF (show i+1 < (sdX l).length by omega))) hh
        have:=lt (show i < i+1 by omega) (by omega)
        rw [hq,bZ.2 rfl] at this
        omega
      · simpa using hh
end Go.Proofs.YtilfohjlglefjaaGreat
namespace Go.Proofs.YtilfohjlglefjaaGreat
open Go Go.Proofs
theorem yJ (a b:List Int):bB Tryz.prog 211 [(aS a),(aS b),(V.pp [(V.fn 171 [] [])])] (V.bool (decide (slx a b=0))):=by
 refine pW Tryz.func211 aDk fun hB=>?_
 unfold aMa
 dsimp only
 refine W_r (aA rfl (R_e (W_r (aJ rfl rfl (aA rfl (aA rfl (nD (@rfl V (V.fn 171 [] [])) (dH (@rfl V (aS a)) (dH (@rfl V (aS b)) iH)) (rG a b) (gM _ _ (by simp [-List.map_take,-List.map_drop,-List.map_append,-List.map_reverse])) (by simp [-List.map_take,-List.map_drop,-List.map_append,-List.map_reverse]) (Or.inl (by simp [-List.map_take,-List.map_drop,-List.map_append,-List.map_reverse])) ?_)))))))
 refine kD rfl rfl (aA rfl (R_e (bK ?_)))
 refine bH (@rfl V (V.bool (decide ((slx a b)=(0:Int))))) (bU ?_)
 · rfl
theorem uV (a b:List Int):bB Tryz.prog 211 [(aS a),(aS b),(V.pp [(V.fn 169 [] [])])] (V.bool (decide (aZ a b=0))):=by
 refine pW Tryz.func211 aDk fun hB=>?_
 unfold aMa
 dsimp only
 refine W_r (aA rfl (R_e (W_r (aJ rfl rfl (aA rfl (aA rfl (nD (@rfl V (V.fn 169 [] [])) (dH (@rfl V (aS a)) (dH (@rfl V (aS b)) iH)) (aCe a b) (gM _ _ (by simp [-List.map_take,-List.map_drop,-List.map_append,-List.map_reverse])) (by simp [-List.map_take,-List.map_drop,-List.map_append,-List.map_reverse]) (Or.inl (by simp [-List.map_take,-List.map_drop,-List.map_append,-List.map_reverse])) ?_)))))))
 refine kD rfl rfl (aA rfl (R_e (bK ?_)))
 refine bH (@rfl V (V.bool (decide ((aZ a b)=(0:Int))))) (bU ?_)
 · rfl
theorem aKi (l:List (List Int)) (v2 v3 len:Nat) (Hi:aF) (h202:Hi 202=(bz v2 38 1 (List.map cL (l)))) (h3:Hi 3=(bk v3 255 1 [[(V.fn 171 [] [])]])) (hn:len=l.length) (hl:l.length≤1073741824):dG Tryz.prog 210 [(V.ms 202 v2 0 (len)),(V.fn 211 [] [(V.mp 3 v3 0 0)])] Hi (V.ms 202 v2 0 ((ddK l l.length).length)) (upd Hi 202 (bz v2 38 1 (List.map cL (ddK l l.length)++List.replicate (l.length - (ddK l l.length).length) [V.nilsl]))):=by
 refine eW (k0:=400) Tryz.func210 aDE fun hB=>?_
 unfold aOK
 dsimp only
 refine W_r (aA rfl (R_e (aC (W_r (aA rfl (eP rfl h202 (by first|rfl|simp) (bR rfl rfl ?_)))))))
 refine R_e ?_
 refine aO rfl (fun c1=>?_) fun c1=>?_
 ·
  refine aC (W_r (aA rfl (aA rfl (R_e (aU (dE (R:=fun T H=>T 4=(V.ms 202 v2 0 (len))∧(∀ j,j∉[202]→H j=Hi j)∧H 3=(bk v3 255 1 [[(V.fn 171 [] [])]])∧H 202=(bz v2 38 1 (List.map cL (l)))∧True) ⟨(@rfl V (V.ms 202 v2 0 (len))),(fun _ _=>rfl),h3,h202,trivial⟩ ?_))))))
  intro T H ⟨t4,hF,h3,h202,_⟩
  have hall:=aAC (l:=l) (fun i i1 i2=>by omega)
  have fh:=fE.fin (fE.put (B:=(bz v2 38 1 (List.map cL (ddK l l.length)++List.replicate (l.length - (ddK l l.length).length) [V.nilsl]))) (fE.start hF) h202 (jQ.eq (by first|rfl|(rw [hd.2]; done)|(rw [hall]; simp; done)|(rw [q5.1,cH (show k+j < l.length by omega) (.inr d5)]; rfl)|(rw [q5.1,cH (show k+j < l.length by omega) (.inr d5)]; done)|(show _=(⟨_,_,_,_,_,List.map cL (ddL l ((k+j)+1))⟩:Blk); rw [fJ (by rintro (q|q); omega; exact q d5)]; done)|(rw [cU (show l.length≤k+j by omega) hj,show k+j=l.length by omega]; done)|(rw [cU (show l.length≤k+j by omega) hj,show k+j=l.length by omega,hn]; done))))
  exact jP t4 fh (fK.trans_eq (fK.same fh _) (by first|rfl|(rw [hd.1]; done)|(rw [hall,hn]; done)|(rw [hall]; done)|(show _=iV (((ddK l ((k+j)+1)).length:Nat):Int); rw [bJ (.inr d5),List.length_append]; rfl)|(show _=iV (((ddK l ((k+j)+1)).length:Nat):Int); rw [bM (by rintro (q|q); omega; exact q d5)]; done)|(rw [show k+j=l.length by omega]; done)))
 refine aH (aC (W_r (aA rfl (R_e (aI fun Q2 n2 x2 y2 z2=>?_)))))
 refine cW (fun mm T H=> ∃ (k:Nat),mm=l.length - k∧T 0=(V.ms 202 v2 0 (len))∧T 1=(V.fn 211 [] [(V.mp 3 v3 0 0)])∧T 5=(iV ((k:Nat):Int))∧(∀ j,j∉[202]→H j=Hi j)∧H 3=(bk v3 255 1 [[(V.fn 171 [] [])]])∧H 202=(bz v2 38 1 (List.map cL (l)))∧(1≤k)∧(k≤l.length)∧(∀ i,1≤i→i < k→nth l i≠nth l (i - 1))) ?_ ?_
 ·
  refine ⟨_,1,rfl,rfl,rfl,(Eq.trans (@rfl V (iV (1:Int))) rfl),(fun _ _=>rfl),h3,h202,?_,?_,?_⟩
  · omega
  · omega
  · intro i h1 h2; omega
 intro mm T H ⟨k,hmm,t0,t1,t5,hF,h3,h202,h1,hk,hc⟩ Q3 p13 p23 p33
 unfold aCQ
 refine aC (W_r (aA t5 (aA t0 (eP rfl h202 (by first|rfl|simp) (bR rfl rfl (R_e ?_))))))
 refine aO rfl (fun c4=>?_) fun c4=>?_
 ·
  refine aH (aI fun Q5 n5 x5 y5 z5=>(W_r (aA t1 (aA t0 (aA t5 (dB (i:=k) (@rfl V (V.ms 202 v2 0 (len))) (@rfl V (iV ((k:Nat):Int))) h202 (eH (by first|omega|(simp only [List.length_take]; omega))) rfl (by first|omega|(simp only [List.length_take]; omega)) (bT (v:=(aS ((nth (l) (k))))) rfl h202 (dW (by first|omega|(simp only [List.length_take]; omega)) (by first|rfl|(rw [cF_eq]; rfl)|simp [ldV,V.one])) ?_)))))))
  refine aA t0 (aA t5 (yQ rfl rfl (by first|omega|(simp only [List.length_take]; omega)) (by first|omega|(simp only [List.length_take]; omega)) (dY (i:=(((k:Nat):Int) - (1:Int))) (@rfl V (V.ms 202 v2 0 (len))) (@rfl V (iV (((k:Nat):Int) - (1:Int)))) h202 (eH (by first|omega|(simp only [List.length_take]; omega))) rfl (by first|omega|(simp only [List.length_take]; omega)) (by first|omega|(simp only [List.length_take]; omega)) (bT (v:=(aS ((nth (l) (((((k:Nat):Int) - (1:Int))).toNat))))) rfl h202 (dW (by first|omega|(simp only [List.length_take]; omega)) (by first|rfl|(rw [cF_eq]; rfl)|simp [ldV,V.one])) (nD (@rfl V (V.fn 211 [] [(V.mp 3 v3 0 0)])) (dH (@rfl V (aS ((nth (l) (k))))) (dH (@rfl V (aS ((nth (l) (((((k:Nat):Int) - (1:Int))).toNat))))) iH)) (yJ ((nth (l) (k))) ((nth (l) (((((k:Nat):Int) - (1:Int))).toNat)))) (dS (dC 6 _ (by simp [-List.map_take,-List.map_drop,-List.map_append,-List.map_reverse])) (dS (dC 6 _ (by simp [-List.map_take,-List.map_drop,-List.map_append,-List.map_reverse])) (dS (by first|rfl|simp [fzv,Blk.own,h3,h202]) rfl))) (by simp [-List.map_take,-List.map_drop,-List.map_append,-List.map_reverse]) (Or.inr rfl) (R_e ?_))))))
  refine fR rfl (fun c6=>?_) fun c6=>?_
  ·
   have d1:nth l k=nth l (k - 1):=by have q:=eL.1 c6; rwa [show (((k:Nat):Int) - (1:Int)).toNat=k - 1 by omega] at q
   have hd:=aBt h1 (by omega) hc d1
   refine W_r (aA t0 (aA t5 (iB (n:=k) (@rfl V (V.ms 202 v2 0 (len))) (@rfl V (iV ((k:Nat):Int))) h202 (eH (by first|omega|(simp only [List.length_take]; omega))) rfl (by first|omega|(simp only [List.length_take]; omega)) (aA rfl (R_e (aC (W_r ?_)))))))
   refine aA rfl (R_e (aI fun Q7 n7 x7 y7 z7=>?_))
   refine cW (fun mm T H=> ∃ (j:Nat),mm=l.length - (k+j)∧T 0=(V.ms 202 v2 0 (len))∧T 1=(V.fn 211 [] [(V.mp 3 v3 0 0)])∧T 5=(iV (((ddK l (k+j)).length:Nat):Int))∧T 6=(V.ms 202 v2 (0+k) (len - k))∧T 7=(iV ((j:Nat):Int))∧(∀ j,j∉[202]→H j=Hi j)∧H 3=(bk v3 255 1 [[(V.fn 171 [] [])]])∧H 202=(bz v2 38 1 (List.map cL (ddL l (k+j))))∧(k+j≤l.length)∧(1≤j)∧((ddK l (k+j)).length < k+j)) ?_ ?_
   ·
    refine ⟨_,1,rfl,t0,t1,(Eq.trans t5 (by first|rfl|(rw [hd.1]; done)|(rw [hall,hn]; done)|(rw [hall]; done)|(show _=iV (((ddK l ((k+j)+1)).length:Nat):Int); rw [bJ (.inr d5),List.length_append]; rfl)|(show _=iV (((ddK l ((k+j)+1)).length:Nat):Int); rw [bM (by rintro (q|q); omega; exact q d5)]; done)|(rw [show k+j=l.length by omega]; done))),(Eq.trans (@rfl V (V.ms 202 v2 (0+k) (len - k))) (by first|rfl|(rw [hd.1]; done)|(rw [hall,hn]; done)|(rw [hall]; done)|(show _=iV (((ddK l ((k+j)+1)).length:Nat):Int); rw [bJ (.inr d5),List.length_append]; rfl)|(show _=iV (((ddK l ((k+j)+1)).length:Nat):Int); rw [bM (by rintro (q|q); omega; exact q d5)]; done)|(rw [show k+j=l.length by omega]; done))),(Eq.trans (@rfl V (iV (1:Int))) rfl),hF,h3,(Eq.trans h202 (by first|rfl|(rw [hd.2]; done)|(rw [hall]; simp; done)|(rw [q5.1,cH (show k+j < l.length by omega) (.inr d5)]; rfl)|(rw [q5.1,cH (show k+j < l.length by omega) (.inr d5)]; done)|(show _=(⟨_,_,_,_,_,List.map cL (ddL l ((k+j)+1))⟩:Blk); rw [fJ (by rintro (q|q); omega; exact q d5)]; done)|(rw [cU (show l.length≤k+j by omega) hj,show k+j=l.length by omega]; done)|(rw [cU (show l.length≤k+j by omega) hj,show k+j=l.length by omega,hn]; done))),?_,?_,?_⟩
    · omega
    · omega
    · rw [hd.1]; omega
   intro mm T H ⟨j,hmm,t0,t1,t5,t6,t7,hF,h3,h202,hj,hj1,hlt⟩ Q8 p18 p28 p38
   unfold aCu
   have q1:=aD0 (L:=l) (j:=k+j) hj
   have q5:=aK1 hlt hj1
   have q6:=aDa (l:=l) (j:=k+j) (by omega)
   refine aC (W_r (aA t7 (aA t6 (eP rfl h202 (by first|rfl|simp) (bR rfl rfl (R_e ?_))))))
   refine aO rfl (fun c9=>?_) fun c9=>?_
   ·
    refine aH (aI fun Q10 n10 x10 y10 z10=>(W_r (aA t1 (aA t6 (aA t7 (mJ (i:=j) (@rfl V (V.ms 202 v2 (0+k) (len - k))) (@rfl V (iV ((j:Nat):Int))) h202 (eH (by first|omega|(simp only [List.length_take]; omega))) rfl (by first|omega|(simp only [List.length_take]; omega)) (bT (v:=(aS ((nth (ddL l (k+j)) ((0+k)+(j)))))) rfl h202 (dW (by first|omega|(simp only [List.length_take]; omega)) (by first|rfl|(rw [cF_eq]; rfl)|simp [ldV,V.one])) ?_)))))))
    refine aA t6 (aA t7 (yQ rfl rfl (by first|omega|(simp only [List.length_take]; omega)) (by first|omega|(simp only [List.length_take]; omega)) (rS (i:=(((j:Nat):Int) - (1:Int))) (@rfl V (V.ms 202 v2 (0+k) (len - k))) (@rfl V (iV (((j:Nat):Int) - (1:Int)))) h202 (eH (by first|omega|(simp only [List.length_take]; omega))) rfl (by first|omega|(simp only [List.length_take]; omega)) (by first|omega|(simp only [List.length_take]; omega)) (bT (v:=(aS ((nth (ddL l (k+j)) ((0+k)+((((j:Nat):Int) - (1:Int))).toNat))))) rfl h202 (dW (by first|omega|(simp only [List.length_take]; omega)) (by first|rfl|(rw [cF_eq]; rfl)|simp [ldV,V.one])) (nD (@rfl V (V.fn 211 [] [(V.mp 3 v3 0 0)])) (dH (@rfl V (aS ((nth (ddL l (k+j)) ((0+k)+(j)))))) (dH (@rfl V (aS ((nth (ddL l (k+j)) ((0+k)+((((j:Nat):Int) - (1:Int))).toNat))))) iH)) (yJ ((nth (ddL l (k+j)) ((0+k)+(j)))) ((nth (ddL l (k+j)) ((0+k)+((((j:Nat):Int) - (1:Int))).toNat)))) (dS (dC 6 _ (by simp [-List.map_take,-List.map_drop,-List.map_append,-List.map_reverse])) (dS (dC 6 _ (by simp [-List.map_take,-List.map_drop,-List.map_append,-List.map_reverse])) (dS (by first|rfl|simp [fzv,Blk.own,h3,h202]) rfl))) (by simp [-List.map_take,-List.map_drop,-List.map_append,-List.map_reverse]) (Or.inr rfl) (aGP rfl (R_e ?_)))))))
    refine fR rfl (fun c11=>?_) fun c11=>?_
    ·
     have d5:nth l (k+j)≠nth l (k+j - 1):=fun q=>c11 (eL.2 (by rw [q5.1,q5.2]; exact q))
     refine W_r (aA t0 (aA t5 (aA t6 (aA t7 (mJ (i:=j) (@rfl V (V.ms 202 v2 (0+k) (len - k))) (@rfl V (iV ((j:Nat):Int))) h202 (eH (by first|omega|(simp only [List.length_take]; omega))) rfl (by first|omega|(simp only [List.length_take]; omega)) (bT (v:=(aS ((nth (ddL l (k+j)) ((0+k)+(j)))))) rfl h202 (dW (by first|omega|(simp only [List.length_take]; omega)) (by first|rfl|(rw [cF_eq]; rfl)|simp [ldV,V.one])) (dB (i:=((ddK l (k+j)).length)) (@rfl V (V.ms 202 v2 0 (len))) (@rfl V (iV (((ddK l (k+j)).length:Nat):Int))) h202 (eH (by first|omega|(simp only [List.length_take]; omega))) rfl (by first|omega|(simp only [List.length_take]; omega)) ?_)))))))
     refine bQ (vs:=[(aS ((nth (ddL l (k+j)) ((0+k)+(j)))))]) (B':=(bz v2 38 1 (List.map cL ((ddL l (k+j)).set ((ddK l (k+j)).length) ((nth (ddL l (k+j)) ((0+k)+(j)))))))) rfl rfl rfl h202 (iE (x:=((nth (ddL l (k+j)) ((0+k)+(j))))) (i:=((ddK l (k+j)).length)) (by first|omega|(simp only [List.length_take]; omega)) rfl rfl rfl rfl) (R_e (W_t (aA t5 (bV rfl (@rfl V (iV ((1:Nat):Int))) (by first|omega|(simp only [List.length_take]; omega)) (aA rfl (R_e (n10 _ _ ?_)))))))
     refine .done (W_t (aA t7 (bV rfl (@rfl V (iV ((1:Nat):Int))) (by first|omega|(simp only [List.length_take]; omega)) (aA rfl (R_e ?_)))))
     refine p18 _ _ _ ?_ ⟨(j+1),rfl,t0,t1,(Eq.trans (@rfl V (iV ((((ddK l (k+j)).length)+1:Nat):Int))) (by first|rfl|(rw [hd.1]; done)|(rw [hall,hn]; done)|(rw [hall]; done)|(show _=iV (((ddK l ((k+j)+1)).length:Nat):Int); rw [bJ (.inr d5),List.length_append]; rfl)|(show _=iV (((ddK l ((k+j)+1)).length:Nat):Int); rw [bM (by rintro (q|q); omega; exact q d5)]; done)|(rw [show k+j=l.length by omega]; done))),(Eq.trans t6 (by first|rfl|(rw [hd.1]; done)|(rw [hall,hn]; done)|(rw [hall]; done)|(show _=iV (((ddK l ((k+j)+1)).length:Nat):Int); rw [bJ (.inr d5),List.length_append]; rfl)|(show _=iV (((ddK l ((k+j)+1)).length:Nat):Int); rw [bM (by rintro (q|q); omega; exact q d5)]; done)|(rw [show k+j=l.length by omega]; done))),(Eq.trans (@rfl V (iV ((j+1:Nat):Int))) (by first|rfl|(rw [hd.1]; done)|(rw [hall,hn]; done)|(rw [hall]; done)|(show _=iV (((ddK l ((k+j)+1)).length:Nat):Int); rw [bJ (.inr d5),List.length_append]; rfl)|(show _=iV (((ddK l ((k+j)+1)).length:Nat):Int); rw [bM (by rintro (q|q); omega; exact q d5)]; done)|(rw [show k+j=l.length by omega]; done))),(eX hF (by decide)),h3,(Eq.trans (@rfl Blk (bz v2 38 1 (List.map cL ((ddL l (k+j)).set ((ddK l (k+j)).length) ((nth (ddL l (k+j)) ((0+k)+(j)))))))) (by first|rfl|(rw [hd.2]; done)|(rw [hall]; simp; done)|(rw [q5.1,cH (show k+j < l.length by omega) (.inr d5)]; rfl)|(rw [q5.1,cH (show k+j < l.length by omega) (.inr d5)]; done)|(show _=(⟨_,_,_,_,_,List.map cL (ddL l ((k+j)+1))⟩:Blk); rw [fJ (by rintro (q|q); omega; exact q d5)]; done)|(rw [cU (show l.length≤k+j by omega) hj,show k+j=l.length by omega]; done)|(rw [cU (show l.length≤k+j by omega) hj,show k+j=l.length by omega,hn]; done))),?_,?_,?_⟩
     · omega
     · omega
     · omega
     · first|(show (ddK l ((k+j)+1)).length < (k+j)+1; rw [bJ (.inr d5),List.length_append]; simp; omega)|(show (ddK l ((k+j)+1)).length < (k+j)+1; rw [bM (by rintro (q|q); omega; exact q d5)]; omega)
    have d5:nth l (k+j)=nth l (k+j - 1):=by have q:=eL.1 (Decidable.not_not.1 c11); rwa [q5.1,q5.2] at q
    refine cX (n10 _ _ (.done (W_t (aA t7 (bV rfl (@rfl V (iV ((1:Nat):Int))) (by first|omega|(simp only [List.length_take]; omega)) (aA rfl (R_e ?_)))))))
    refine p18 _ _ _ ?_ ⟨(j+1),rfl,t0,t1,(Eq.trans t5 (by first|rfl|(rw [hd.1]; done)|(rw [hall,hn]; done)|(rw [hall]; done)|(show _=iV (((ddK l ((k+j)+1)).length:Nat):Int); rw [bJ (.inr d5),List.length_append]; rfl)|(show _=iV (((ddK l ((k+j)+1)).length:Nat):Int); rw [bM (by rintro (q|q); omega; exact q d5)]; done)|(rw [show k+j=l.length by omega]; done))),(Eq.trans t6 (by first|rfl|(rw [hd.1]; done)|(rw [hall,hn]; done)|(rw [hall]; done)|(show _=iV (((ddK l ((k+j)+1)).length:Nat):Int); rw [bJ (.inr d5),List.length_append]; rfl)|(show _=iV (((ddK l ((k+j)+1)).length:Nat):Int); rw [bM (by rintro (q|q); omega; exact q d5)]; done)|(rw [show k+j=l.length by omega]; done))),(Eq.trans (@rfl V (iV ((j+1:Nat):Int))) (by first|rfl|(rw [hd.1]; done)|(rw [hall,hn]; done)|(rw [hall]; done)|(show _=iV (((ddK l ((k+j)+1)).length:Nat):Int); rw [bJ (.inr d5),List.length_append]; rfl)|(show _=iV (((ddK l ((k+j)+1)).length:Nat):Int); rw [bM (by rintro (q|q); omega; exact q d5)]; done)|(rw [show k+j=l.length by omega]; done))),hF,h3,(Eq.trans h202 (by first|rfl|(rw [hd.2]; done)|(rw [hall]; simp; done)|(rw [q5.1,cH (show k+j < l.length by omega) (.inr d5)]; rfl)|(rw [q5.1,cH (show k+j < l.length by omega) (.inr d5)]; done)|(show _=(⟨_,_,_,_,_,List.map cL (ddL l ((k+j)+1))⟩:Blk); rw [fJ (by rintro (q|q); omega; exact q d5)]; done)|(rw [cU (show l.length≤k+j by omega) hj,show k+j=l.length by omega]; done)|(rw [cU (show l.length≤k+j by omega) hj,show k+j=l.length by omega,hn]; done))),?_,?_,?_⟩
    · omega
    · omega
    · omega
    · first|(show (ddK l ((k+j)+1)).length < (k+j)+1; rw [bJ (.inr d5),List.length_append]; simp; omega)|(show (ddK l ((k+j)+1)).length < (k+j)+1; rw [bM (by rintro (q|q); omega; exact q d5)]; omega)
   refine bA (p38 _ _ _ (x7 _ _ (.done (W_r (aA t0 (aA t5 (iB (n:=((ddK l (k+j)).length)) (@rfl V (V.ms 202 v2 0 (len))) (@rfl V (iV (((ddK l (k+j)).length:Nat):Int))) h202 (eH (by first|omega|(simp only [List.length_take]; omega))) rfl (by first|omega|(simp only [List.length_take]; omega)) ?_)))))))
   refine aLK (m:=(((ddK l (k+j)).length))) (n:=(len - ((ddK l (k+j)).length))) (f:=cL) (l:=(ddL l (k+j))) (Eq.trans (@rfl V (V.ms 202 v2 (0+((ddK l (k+j)).length)) (len - ((ddK l (k+j)).length)))) (congrArg (fun n=>V.ms 202 v2 n (len - ((ddK l (k+j)).length))) (Nat.zero_add _))) h202 rfl (by decide) rfl (by first|omega|(simp only [List.length_take]; omega)) (by first|omega|(simp only [List.length_take]; omega)) (R_e (W_r (aA t0 (aA t5 (nU (n:=((ddK l (k+j)).length)) (@rfl V (V.ms 202 v2 0 (len))) (@rfl V (iV (((ddK l (k+j)).length:Nat):Int))) (@rfl Blk (bz v2 38 1 (List.map cL (List.take (((ddK l (k+j)).length)) (ddL l (k+j)))++List.replicate (len - ((ddK l (k+j)).length)) [V.nilsl]))) (kB (by first|omega|(simp only [List.length_take]; omega))) rfl (by first|omega|(simp only [List.length_take]; omega)) (aA rfl (R_e ?_)))))))
   refine bK (y5 _ _ (p23 _ _ (y2 _ _ (dE (R:=fun T H=>T 4=(V.ms 202 v2 0 ((ddK l (k+j)).length))∧(∀ j,j∉[202]→H j=Hi j)∧H 3=(bk v3 255 1 [[(V.fn 171 [] [])]])∧H 202=(bz v2 38 1 (List.map cL (List.take (((ddK l (k+j)).length)) (ddL l (k+j)))++List.replicate (len - ((ddK l (k+j)).length)) [V.nilsl]))∧True) ⟨(@rfl V (V.ms 202 v2 0 ((ddK l (k+j)).length))),(eX hF (by decide)),h3,rfl,trivial⟩ ?_))))
   intro T H ⟨t4,hF,h3,h202,_⟩
   skip
   have fh:=fE.fin (fE.put (B:=(bz v2 38 1 (List.map cL (ddK l l.length)++List.replicate (l.length - (ddK l l.length).length) [V.nilsl]))) (fE.start hF) h202 (jQ.eq (by first|rfl|(rw [hd.2]; done)|(rw [hall]; simp; done)|(rw [q5.1,cH (show k+j < l.length by omega) (.inr d5)]; rfl)|(rw [q5.1,cH (show k+j < l.length by omega) (.inr d5)]; done)|(show _=(⟨_,_,_,_,_,List.map cL (ddL l ((k+j)+1))⟩:Blk); rw [fJ (by rintro (q|q); omega; exact q d5)]; done)|(rw [cU (show l.length≤k+j by omega) hj,show k+j=l.length by omega]; done)|(rw [cU (show l.length≤k+j by omega) hj,show k+j=l.length by omega,hn]; done))))
   exact jP t4 fh (fK.trans_eq (fK.same fh _) (by first|rfl|(rw [hd.1]; done)|(rw [hall,hn]; done)|(rw [hall]; done)|(show _=iV (((ddK l ((k+j)+1)).length:Nat):Int); rw [bJ (.inr d5),List.length_append]; rfl)|(show _=iV (((ddK l ((k+j)+1)).length:Nat):Int); rw [bM (by rintro (q|q); omega; exact q d5)]; done)|(rw [show k+j=l.length by omega]; done)))
  have d1:nth l k≠nth l (k - 1):=fun q=>c6 (eL.2 (by rw [show (((k:Nat):Int) - (1:Int)).toNat=k - 1 by omega]; exact q))
  refine cX (n5 _ _ (.done (W_t (aA t5 (bV rfl (@rfl V (iV ((1:Nat):Int))) (by first|omega|(simp only [List.length_take]; omega)) (aA rfl (R_e ?_)))))))
  refine p13 _ _ _ ?_ ⟨(k+1),rfl,t0,t1,(Eq.trans (@rfl V (iV ((k+1:Nat):Int))) (by first|rfl|(rw [hd.1]; done)|(rw [hall,hn]; done)|(rw [hall]; done)|(show _=iV (((ddK l ((k+j)+1)).length:Nat):Int); rw [bJ (.inr d5),List.length_append]; rfl)|(show _=iV (((ddK l ((k+j)+1)).length:Nat):Int); rw [bM (by rintro (q|q); omega; exact q d5)]; done)|(rw [show k+j=l.length by omega]; done))),hF,h3,h202,?_,?_,?_⟩
  · omega
  · omega
  · omega
  · intro i i1 i2
    by_cases e:i=k
    · subst e; exact d1
    · exact hc i i1 (by omega)
 refine bA (p33 _ _ _ (x2 _ _ (.done (W_r (aA t0 (aA rfl (R_e ?_)))))))
 refine bK (dE (R:=fun T H=>T 4=(V.ms 202 v2 0 (len))∧(∀ j,j∉[202]→H j=Hi j)∧H 3=(bk v3 255 1 [[(V.fn 171 [] [])]])∧H 202=(bz v2 38 1 (List.map cL (l)))∧True) ⟨(@rfl V (V.ms 202 v2 0 (len))),hF,h3,h202,trivial⟩ ?_)
 intro T H ⟨t4,hF,h3,h202,_⟩
 have hall:=aAC (l:=l) (fun i i1 i2=>hc i i1 (by omega))
 have fh:=fE.fin (fE.put (B:=(bz v2 38 1 (List.map cL (ddK l l.length)++List.replicate (l.length - (ddK l l.length).length) [V.nilsl]))) (fE.start hF) h202 (jQ.eq (by first|rfl|(rw [hd.2]; done)|(rw [hall]; simp; done)|(rw [q5.1,cH (show k+j < l.length by omega) (.inr d5)]; rfl)|(rw [q5.1,cH (show k+j < l.length by omega) (.inr d5)]; done)|(show _=(⟨_,_,_,_,_,List.map cL (ddL l ((k+j)+1))⟩:Blk); rw [fJ (by rintro (q|q); omega; exact q d5)]; done)|(rw [cU (show l.length≤k+j by omega) hj,show k+j=l.length by omega]; done)|(rw [cU (show l.length≤k+j by omega) hj,show k+j=l.length by omega,hn]; done))))
 exact jP t4 fh (fK.trans_eq (fK.same fh _) (by first|rfl|(rw [hd.1]; done)|(rw [hall,hn]; done)|(rw [hall]; done)|(show _=iV (((ddK l ((k+j)+1)).length:Nat):Int); rw [bJ (.inr d5),List.length_append]; rfl)|(show _=iV (((ddK l ((k+j)+1)).length:Nat):Int); rw [bM (by rintro (q|q); omega; exact q d5)]; done)|(rw [show k+j=l.length by omega]; done)))
theorem aGf (l:List (List Int)) (v2 v3 len:Nat) (Hi:aF) (h202:Hi 202=(bz v2 38 1 (List.map cL (l)))) (h3:Hi 3=(bk v3 255 1 [[(V.fn 169 [] [])]])) (hn:len=l.length) (hl:l.length≤1073741824):dG Tryz.prog 210 [(V.ms 202 v2 0 (len)),(V.fn 211 [] [(V.mp 3 v3 0 0)])] Hi (V.ms 202 v2 0 ((ddK l l.length).length)) (upd Hi 202 (bz v2 38 1 (List.map cL (ddK l l.length)++List.replicate (l.length - (ddK l l.length).length) [V.nilsl]))):=by
 refine eW (k0:=400) Tryz.func210 aDE fun hB=>?_
 unfold aOK
 dsimp only
 refine W_r (aA rfl (R_e (aC (W_r (aA rfl (eP rfl h202 (by first|rfl|simp) (bR rfl rfl ?_)))))))
 refine R_e ?_
 refine aO rfl (fun c1=>?_) fun c1=>?_
 ·
  refine aC (W_r (aA rfl (aA rfl (R_e (aU (dE (R:=fun T H=>T 4=(V.ms 202 v2 0 (len))∧(∀ j,j∉[202]→H j=Hi j)∧H 3=(bk v3 255 1 [[(V.fn 169 [] [])]])∧H 202=(bz v2 38 1 (List.map cL (l)))∧True) ⟨(@rfl V (V.ms 202 v2 0 (len))),(fun _ _=>rfl),h3,h202,trivial⟩ ?_))))))
  intro T H ⟨t4,hF,h3,h202,_⟩
  have hall:=aAC (l:=l) (fun i i1 i2=>by omega)
  have fh:=fE.fin (fE.put (B:=(bz v2 38 1 (List.map cL (ddK l l.length)++List.replicate (l.length - (ddK l l.length).length) [V.nilsl]))) (fE.start hF) h202 (jQ.eq (by first|rfl|(rw [hd.2]; done)|(rw [hall]; simp; done)|(rw [q5.1,cH (show k+j < l.length by omega) (.inr d5)]; rfl)|(rw [q5.1,cH (show k+j < l.length by omega) (.inr d5)]; done)|(show _=(⟨_,_,_,_,_,List.map cL (ddL l ((k+j)+1))⟩:Blk); rw [fJ (by rintro (q|q); omega; exact q d5)]; done)|(rw [cU (show l.length≤k+j by omega) hj,show k+j=l.length by omega]; done)|(rw [cU (show l.length≤k+j by omega) hj,show k+j=l.length by omega,hn]; done))))
  exact jP t4 fh (fK.trans_eq (fK.same fh _) (by first|rfl|(rw [hd.1]; done)|(rw [hall,hn]; done)|(rw [hall]; done)|(show _=iV (((ddK l ((k+j)+1)).length:Nat):Int); rw [bJ (.inr d5),List.length_append]; rfl)|(show _=iV (((ddK l ((k+j)+1)).length:Nat):Int); rw [bM (by rintro (q|q); omega; exact q d5)]; done)|(rw [show k+j=l.length by omega]; done)))
 refine aH (aC (W_r (aA rfl (R_e (aI fun Q2 n2 x2 y2 z2=>?_)))))
 refine cW (fun mm T H=> ∃ (k:Nat),mm=l.length - k∧T 0=(V.ms 202 v2 0 (len))∧T 1=(V.fn 211 [] [(V.mp 3 v3 0 0)])∧T 5=(iV ((k:Nat):Int))∧(∀ j,j∉[202]→H j=Hi j)∧H 3=(bk v3 255 1 [[(V.fn 169 [] [])]])∧H 202=(bz v2 38 1 (List.map cL (l)))∧(1≤k)∧(k≤l.length)∧(∀ i,1≤i→i < k→nth l i≠nth l (i - 1))) ?_ ?_
 ·
  refine ⟨_,1,rfl,rfl,rfl,(Eq.trans (@rfl V (iV (1:Int))) rfl),(fun _ _=>rfl),h3,h202,?_,?_,?_⟩
  · omega
  · omega
  · intro i h1 h2; omega
 intro mm T H ⟨k,hmm,t0,t1,t5,hF,h3,h202,h1,hk,hc⟩ Q3 p13 p23 p33
 unfold aCQ
 refine aC (W_r (aA t5 (aA t0 (eP rfl h202 (by first|rfl|simp) (bR rfl rfl (R_e ?_))))))
 refine aO rfl (fun c4=>?_) fun c4=>?_
 ·
  refine aH (aI fun Q5 n5 x5 y5 z5=>(W_r (aA t1 (aA t0 (aA t5 (dB (i:=k) (@rfl V (V.ms 202 v2 0 (len))) (@rfl V (iV ((k:Nat):Int))) h202 (eH (by first|omega|(simp only [List.length_take]; omega))) rfl (by first|omega|(simp only [List.length_take]; omega)) (bT (v:=(aS ((nth (l) (k))))) rfl h202 (dW (by first|omega|(simp only [List.length_take]; omega)) (by first|rfl|(rw [cF_eq]; rfl)|simp [ldV,V.one])) ?_)))))))
  refine aA t0 (aA t5 (yQ rfl rfl (by first|omega|(simp only [List.length_take]; omega)) (by first|omega|(simp only [List.length_take]; omega)) (dY (i:=(((k:Nat):Int) - (1:Int))) (@rfl V (V.ms 202 v2 0 (len))) (@rfl V (iV (((k:Nat):Int) - (1:Int)))) h202 (eH (by first|omega|(simp only [List.length_take]; omega))) rfl (by first|omega|(simp only [List.length_take]; omega)) (by first|omega|(simp only [List.length_take]; omega)) (bT (v:=(aS ((nth (l) (((((k:Nat):Int) - (1:Int))).toNat))))) rfl h202 (dW (by first|omega|(simp only [List.length_take]; omega)) (by first|rfl|(rw [cF_eq]; rfl)|simp [ldV,V.one])) (nD (@rfl V (V.fn 211 [] [(V.mp 3 v3 0 0)])) (dH (@rfl V (aS ((nth (l) (k))))) (dH (@rfl V (aS ((nth (l) (((((k:Nat):Int) - (1:Int))).toNat))))) iH)) (uV ((nth (l) (k))) ((nth (l) (((((k:Nat):Int) - (1:Int))).toNat)))) (dS (dC 6 _ (by simp [-List.map_take,-List.map_drop,-List.map_append,-List.map_reverse])) (dS (dC 6 _ (by simp [-List.map_take,-List.map_drop,-List.map_append,-List.map_reverse])) (dS (by first|rfl|simp [fzv,Blk.own,h3,h202]) rfl))) (by simp [-List.map_take,-List.map_drop,-List.map_append,-List.map_reverse]) (Or.inr rfl) (R_e ?_))))))
  refine fR rfl (fun c6=>?_) fun c6=>?_
  ·
   have d1:nth l k=nth l (k - 1):=by have q:=bZ.1 c6; rwa [show (((k:Nat):Int) - (1:Int)).toNat=k - 1 by omega] at q
   have hd:=aBt h1 (by omega) hc d1
   refine W_r (aA t0 (aA t5 (iB (n:=k) (@rfl V (V.ms 202 v2 0 (len))) (@rfl V (iV ((k:Nat):Int))) h202 (eH (by first|omega|(simp only [List.length_take]; omega))) rfl (by first|omega|(simp only [List.length_take]; omega)) (aA rfl (R_e (aC (W_r ?_)))))))
   refine aA rfl (R_e (aI fun Q7 n7 x7 y7 z7=>?_))
   refine cW (fun mm T H=> ∃ (j:Nat),mm=l.length - (k+j)∧T 0=(V.ms 202 v2 0 (len))∧T 1=(V.fn 211 [] [(V.mp 3 v3 0 0)])∧T 5=(iV (((ddK l (k+j)).length:Nat):Int))∧T 6=(V.ms 202 v2 (0+k) (len - k))∧T 7=(iV ((j:Nat):Int))∧(∀ j,j∉[202]→H j=Hi j)∧H 3=(bk v3 255 1 [[(V.fn 169 [] [])]])∧H 202=(bz v2 38 1 (List.map cL (ddL l (k+j))))∧(k+j≤l.length)∧(1≤j)∧((ddK l (k+j)).length < k+j)) ?_ ?_
   ·
    refine ⟨_,1,rfl,t0,t1,(Eq.trans t5 (by first|rfl|(rw [hd.1]; done)|(rw [hall,hn]; done)|(rw [hall]; done)|(show _=iV (((ddK l ((k+j)+1)).length:Nat):Int); rw [bJ (.inr d5),List.length_append]; rfl)|(show _=iV (((ddK l ((k+j)+1)).length:Nat):Int); rw [bM (by rintro (q|q); omega; exact q d5)]; done)|(rw [show k+j=l.length by omega]; done))),(Eq.trans (@rfl V (V.ms 202 v2 (0+k) (len - k))) (by first|rfl|(rw [hd.1]; done)|(rw [hall,hn]; done)|(rw [hall]; done)|(show _=iV (((ddK l ((k+j)+1)).length:Nat):Int); rw [bJ (.inr d5),List.length_append]; rfl)|(show _=iV (((ddK l ((k+j)+1)).length:Nat):Int); rw [bM (by rintro (q|q); omega; exact q d5)]; done)|(rw [show k+j=l.length by omega]; done))),(Eq.trans (@rfl V (iV (1:Int))) rfl),hF,h3,(Eq.trans h202 (by first|rfl|(rw [hd.2]; done)|(rw [hall]; simp; done)|(rw [q5.1,cH (show k+j < l.length by omega) (.inr d5)]; rfl)|(rw [q5.1,cH (show k+j < l.length by omega) (.inr d5)]; done)|(show _=(⟨_,_,_,_,_,List.map cL (ddL l ((k+j)+1))⟩:Blk); rw [fJ (by rintro (q|q); omega; exact q d5)]; done)|(rw [cU (show l.length≤k+j by omega) hj,show k+j=l.length by omega]; done)|(rw [cU (show l.length≤k+j by omega) hj,show k+j=l.length by omega,hn]; done))),?_,?_,?_⟩
    · omega
    · omega
    · rw [hd.1]; omega
   intro mm T H ⟨j,hmm,t0,t1,t5,t6,t7,hF,h3,h202,hj,hj1,hlt⟩ Q8 p18 p28 p38
   unfold aCu
   have q1:=aD0 (L:=l) (j:=k+j) hj
   have q5:=aK1 hlt hj1
   have q6:=aDa (l:=l) (j:=k+j) (by omega)
   refine aC (W_r (aA t7 (aA t6 (eP rfl h202 (by first|rfl|simp) (bR rfl rfl (R_e ?_))))))
   refine aO rfl (fun c9=>?_) fun c9=>?_
   ·
    refine aH (aI fun Q10 n10 x10 y10 z10=>(W_r (aA t1 (aA t6 (aA t7 (mJ (i:=j) (@rfl V (V.ms 202 v2 (0+k) (len - k))) (@rfl V (iV ((j:Nat):Int))) h202 (eH (by first|omega|(simp only [List.length_take]; omega))) rfl (by first|omega|(simp only [List.length_take]; omega)) (bT (v:=(aS ((nth (ddL l (k+j)) ((0+k)+(j)))))) rfl h202 (dW (by first|omega|(simp only [List.length_take]; omega)) (by first|rfl|(rw [cF_eq]; rfl)|simp [ldV,V.one])) ?_)))))))
    refine aA t6 (aA t7 (yQ rfl rfl (by first|omega|(simp only [List.length_take]; omega)) (by first|omega|(simp only [List.length_take]; omega)) (rS (i:=(((j:Nat):Int) - (1:Int))) (@rfl V (V.ms 202 v2 (0+k) (len - k))) (@rfl V (iV (((j:Nat):Int) - (1:Int)))) h202 (eH (by first|omega|(simp only [List.length_take]; omega))) rfl (by first|omega|(simp only [List.length_take]; omega)) (by first|omega|(simp only [List.length_take]; omega)) (bT (v:=(aS ((nth (ddL l (k+j)) ((0+k)+((((j:Nat):Int) - (1:Int))).toNat))))) rfl h202 (dW (by first|omega|(simp only [List.length_take]; omega)) (by first|rfl|(rw [cF_eq]; rfl)|simp [ldV,V.one])) (nD (@rfl V (V.fn 211 [] [(V.mp 3 v3 0 0)])) (dH (@rfl V (aS ((nth (ddL l (k+j)) ((0+k)+(j)))))) (dH (@rfl V (aS ((nth (ddL l (k+j)) ((0+k)+((((j:Nat):Int) - (1:Int))).toNat))))) iH)) (uV ((nth (ddL l (k+j)) ((0+k)+(j)))) ((nth (ddL l (k+j)) ((0+k)+((((j:Nat):Int) - (1:Int))).toNat)))) (dS (dC 6 _ (by simp [-List.map_take,-List.map_drop,-List.map_append,-List.map_reverse])) (dS (dC 6 _ (by simp [-List.map_take,-List.map_drop,-List.map_append,-List.map_reverse])) (dS (by first|rfl|simp [fzv,Blk.own,h3,h202]) rfl))) (by simp [-List.map_take,-List.map_drop,-List.map_append,-List.map_reverse]) (Or.inr rfl) (aGP rfl (R_e ?_)))))))
    refine fR rfl (fun c11=>?_) fun c11=>?_
    ·
     have d5:nth l (k+j)≠nth l (k+j - 1):=fun q=>c11 (bZ.2 (by rw [q5.1,q5.2]; exact q))
     refine W_r (aA t0 (aA t5 (aA t6 (aA t7 (mJ (i:=j) (@rfl V (V.ms 202 v2 (0+k) (len - k))) (@rfl V (iV ((j:Nat):Int))) h202 (eH (by first|omega|(simp only [List.length_take]; omega))) rfl (by first|omega|(simp only [List.length_take]; omega)) (bT (v:=(aS ((nth (ddL l (k+j)) ((0+k)+(j)))))) rfl h202 (dW (by first|omega|(simp only [List.length_take]; omega)) (by first|rfl|(rw [cF_eq]; rfl)|simp [ldV,V.one])) (dB (i:=((ddK l (k+j)).length)) (@rfl V (V.ms 202 v2 0 (len))) (@rfl V (iV (((ddK l (k+j)).length:Nat):Int))) h202 (eH (by first|omega|(simp only [List.length_take]; omega))) rfl (by first|omega|(simp only [List.length_take]; omega)) ?_)))))))
     refine bQ (vs:=[(aS ((nth (ddL l (k+j)) ((0+k)+(j)))))]) (B':=(bz v2 38 1 (List.map cL ((ddL l (k+j)).set ((ddK l (k+j)).length) ((nth (ddL l (k+j)) ((0+k)+(j)))))))) rfl rfl rfl h202 (iE (x:=((nth (ddL l (k+j)) ((0+k)+(j))))) (i:=((ddK l (k+j)).length)) (by first|omega|(simp only [List.length_take]; omega)) rfl rfl rfl rfl) (R_e (W_t (aA t5 (bV rfl (@rfl V (iV ((1:Nat):Int))) (by first|omega|(simp only [List.length_take]; omega)) (aA rfl (R_e (n10 _ _ ?_)))))))
     refine .done (W_t (aA t7 (bV rfl (@rfl V (iV ((1:Nat):Int))) (by first|omega|(simp only [List.length_take]; omega)) (aA rfl (R_e ?_)))))
     refine p18 _ _ _ ?_ ⟨(j+1),rfl,t0,t1,(Eq.trans (@rfl V (iV ((((ddK l (k+j)).length)+1:Nat):Int))) (by first|rfl|(rw [hd.1]; done)|(rw [hall,hn]; done)|(rw [hall]; done)|(show _=iV (((ddK l ((k+j)+1)).length:Nat):Int); rw [bJ (.inr d5),List.length_append]; rfl)|(show _=iV (((ddK l ((k+j)+1)).length:Nat):Int); rw [bM (by rintro (q|q); omega; exact q d5)]; done)|(rw [show k+j=l.length by omega]; done))),(Eq.trans t6 (by first|rfl|(rw [hd.1]; done)|(rw [hall,hn]; done)|(rw [hall]; done)|(show _=iV (((ddK l ((k+j)+1)).length:Nat):Int); rw [bJ (.inr d5),List.length_append]; rfl)|(show _=iV (((ddK l ((k+j)+1)).length:Nat):Int); rw [bM (by rintro (q|q); omega; exact q d5)]; done)|(rw [show k+j=l.length by omega]; done))),(Eq.trans (@rfl V (iV ((j+1:Nat):Int))) (by first|rfl|(rw [hd.1]; done)|(rw [hall,hn]; done)|(rw [hall]; done)|(show _=iV (((ddK l ((k+j)+1)).length:Nat):Int); rw [bJ (.inr d5),List.length_append]; rfl)|(show _=iV (((ddK l ((k+j)+1)).length:Nat):Int); rw [bM (by rintro (q|q); omega; exact q d5)]; done)|(rw [show k+j=l.length by omega]; done))),(eX hF (by decide)),h3,(Eq.trans (@rfl Blk (bz v2 38 1 (List.map cL ((ddL l (k+j)).set ((ddK l (k+j)).length) ((nth (ddL l (k+j)) ((0+k)+(j)))))))) (by first|rfl|(rw [hd.2]; done)|(rw [hall]; simp; done)|(rw [q5.1,cH (show k+j < l.length by omega) (.inr d5)]; rfl)|(rw [q5.1,cH (show k+j < l.length by omega) (.inr d5)]; done)|(show _=(⟨_,_,_,_,_,List.map cL (ddL l ((k+j)+1))⟩:Blk); rw [fJ (by rintro (q|q); omega; exact q d5)]; done)|(rw [cU (show l.length≤k+j by omega) hj,show k+j=l.length by omega]; done)|(rw [cU (show l.length≤k+j by omega) hj,show k+j=l.length by omega,hn]; done))),?_,?_,?_⟩
     · omega
     · omega
     · omega
     · first|(show (ddK l ((k+j)+1)).length < (k+j)+1; rw [bJ (.inr d5),List.length_append]; simp; omega)|(show (ddK l ((k+j)+1)).length < (k+j)+1; rw [bM (by rintro (q|q); omega; exact q d5)]; omega)
    have d5:nth l (k+j)=nth l (k+j - 1):=by have q:=bZ.1 (Decidable.not_not.1 c11); rwa [q5.1,q5.2] at q
    refine cX (n10 _ _ (.done (W_t (aA t7 (bV rfl (@rfl V (iV ((1:Nat):Int))) (by first|omega|(simp only [List.length_take]; omega)) (aA rfl (R_e ?_)))))))
    refine p18 _ _ _ ?_ ⟨(j+1),rfl,t0,t1,(Eq.trans t5 (by first|rfl|(rw [hd.1]; done)|(rw [hall,hn]; done)|(rw [hall]; done)|(show _=iV (((ddK l ((k+j)+1)).length:Nat):Int); rw [bJ (.inr d5),List.length_append]; rfl)|(show _=iV (((ddK l ((k+j)+1)).length:Nat):Int); rw [bM (by rintro (q|q); omega; exact q d5)]; done)|(rw [show k+j=l.length by omega]; done))),(Eq.trans t6 (by first|rfl|(rw [hd.1]; done)|(rw [hall,hn]; done)|(rw [hall]; done)|(show _=iV (((ddK l ((k+j)+1)).length:Nat):Int); rw [bJ (.inr d5),List.length_append]; rfl)|(show _=iV (((ddK l ((k+j)+1)).length:Nat):Int); rw [bM (by rintro (q|q); omega; exact q d5)]; done)|(rw [show k+j=l.length by omega]; done))),(Eq.trans (@rfl V (iV ((j+1:Nat):Int))) (by first|rfl|(rw [hd.1]; done)|(rw [hall,hn]; done)|(rw [hall]; done)|(show _=iV (((ddK l ((k+j)+1)).length:Nat):Int); rw [bJ (.inr d5),List.length_append]; rfl)|(show _=iV (((ddK l ((k+j)+1)).length:Nat):Int); rw [bM (by rintro (q|q); omega; exact q d5)]; done)|(rw [show k+j=l.length by omega]; done))),hF,h3,(Eq.trans h202 (by first|rfl|(rw [hd.2]; done)|(rw [hall]; simp; done)|(rw [q5.1,cH (show k+j < l.length by omega) (.inr d5)]; rfl)|(rw [q5.1,cH (show k+j < l.length by omega) (.inr d5)]; done)|(show _=(⟨_,_,_,_,_,List.map cL (ddL l ((k+j)+1))⟩:Blk); rw [fJ (by rintro (q|q); omega; exact q d5)]; done)|(rw [cU (show l.length≤k+j by omega) hj,show k+j=l.length by omega]; done)|(rw [cU (show l.length≤k+j by omega) hj,show k+j=l.length by omega,hn]; done))),?_,?_,?_⟩
    · omega
    · omega
    · omega
    · first|(show (ddK l ((k+j)+1)).length < (k+j)+1; rw [bJ (.inr d5),List.length_append]; simp; omega)|(show (ddK l ((k+j)+1)).length < (k+j)+1; rw [bM (by rintro (q|q); omega; exact q d5)]; omega)
   refine bA (p38 _ _ _ (x7 _ _ (.done (W_r (aA t0 (aA t5 (iB (n:=((ddK l (k+j)).length)) (@rfl V (V.ms 202 v2 0 (len))) (@rfl V (iV (((ddK l (k+j)).length:Nat):Int))) h202 (eH (by first|omega|(simp only [List.length_take]; omega))) rfl (by first|omega|(simp only [List.length_take]; omega)) ?_)))))))
   refine aLK (m:=(((ddK l (k+j)).length))) (n:=(len - ((ddK l (k+j)).length))) (f:=cL) (l:=(ddL l (k+j))) (Eq.trans (@rfl V (V.ms 202 v2 (0+((ddK l (k+j)).length)) (len - ((ddK l (k+j)).length)))) (congrArg (fun n=>V.ms 202 v2 n (len - ((ddK l (k+j)).length))) (Nat.zero_add _))) h202 rfl (by decide) rfl (by first|omega|(simp only [List.length_take]; omega)) (by first|omega|(simp only [List.length_take]; omega)) (R_e (W_r (aA t0 (aA t5 (nU (n:=((ddK l (k+j)).length)) (@rfl V (V.ms 202 v2 0 (len))) (@rfl V (iV (((ddK l (k+j)).length:Nat):Int))) (@rfl Blk (bz v2 38 1 (List.map cL (List.take (((ddK l (k+j)).length)) (ddL l (k+j)))++List.replicate (len - ((ddK l (k+j)).length)) [V.nilsl]))) (kB (by first|omega|(simp only [List.length_take]; omega))) rfl (by first|omega|(simp only [List.length_take]; omega)) (aA rfl (R_e ?_)))))))
   refine bK (y5 _ _ (p23 _ _ (y2 _ _ (dE (R:=fun T H=>T 4=(V.ms 202 v2 0 ((ddK l (k+j)).length))∧(∀ j,j∉[202]→H j=Hi j)∧H 3=(bk v3 255 1 [[(V.fn 169 [] [])]])∧H 202=(bz v2 38 1 (List.map cL (List.take (((ddK l (k+j)).length)) (ddL l (k+j)))++List.replicate (len - ((ddK l (k+j)).length)) [V.nilsl]))∧True) ⟨(@rfl V (V.ms 202 v2 0 ((ddK l (k+j)).length))),(eX hF (by decide)),h3,rfl,trivial⟩ ?_))))
   intro T H ⟨t4,hF,h3,h202,_⟩
   skip
   have fh:=fE.fin (fE.put (B:=(bz v2 38 1 (List.map cL (ddK l l.length)++List.replicate (l.length - (ddK l l.length).length) [V.nilsl]))) (fE.start hF) h202 (jQ.eq (by first|rfl|(rw [hd.2]; done)|(rw [hall]; simp; done)|(rw [q5.1,cH (show k+j < l.length by omega) (.inr d5)]; rfl)|(rw [q5.1,cH (show k+j < l.length by omega) (.inr d5)]; done)|(show _=(⟨_,_,_,_,_,List.map cL (ddL l ((k+j)+1))⟩:Blk); rw [fJ (by rintro (q|q); omega; exact q d5)]; done)|(rw [cU (show l.length≤k+j by omega) hj,show k+j=l.length by omega]; done)|(rw [cU (show l.length≤k+j by omega) hj,show k+j=l.length by omega,hn]; done))))
   exact jP t4 fh (fK.trans_eq (fK.same fh _) (by first|rfl|(rw [hd.1]; done)|(rw [hall,hn]; done)|(rw [hall]; done)|(show _=iV (((ddK l ((k+j)+1)).length:Nat):Int); rw [bJ (.inr d5),List.length_append]; rfl)|(show _=iV (((ddK l ((k+j)+1)).length:Nat):Int); rw [bM (by rintro (q|q); omega; exact q d5)]; done)|(rw [show k+j=l.length by omega]; done)))
  have d1:nth l k≠nth l (k - 1):=fun q=>c6 (bZ.2 (by rw [show (((k:Nat):Int) - (1:Int)).toNat=k - 1 by omega]; exact q))
  refine cX (n5 _ _ (.done (W_t (aA t5 (bV rfl (@rfl V (iV ((1:Nat):Int))) (by first|omega|(simp only [List.length_take]; omega)) (aA rfl (R_e ?_)))))))
  refine p13 _ _ _ ?_ ⟨(k+1),rfl,t0,t1,(Eq.trans (@rfl V (iV ((k+1:Nat):Int))) (by first|rfl|(rw [hd.1]; done)|(rw [hall,hn]; done)|(rw [hall]; done)|(show _=iV (((ddK l ((k+j)+1)).length:Nat):Int); rw [bJ (.inr d5),List.length_append]; rfl)|(show _=iV (((ddK l ((k+j)+1)).length:Nat):Int); rw [bM (by rintro (q|q); omega; exact q d5)]; done)|(rw [show k+j=l.length by omega]; done))),hF,h3,h202,?_,?_,?_⟩
  · omega
  · omega
  · omega
  · intro i i1 i2
    by_cases e:i=k
    · subst e; exact d1
    · exact hc i i1 (by omega)
 refine bA (p33 _ _ _ (x2 _ _ (.done (W_r (aA t0 (aA rfl (R_e ?_)))))))
 refine bK (dE (R:=fun T H=>T 4=(V.ms 202 v2 0 (len))∧(∀ j,j∉[202]→H j=Hi j)∧H 3=(bk v3 255 1 [[(V.fn 169 [] [])]])∧H 202=(bz v2 38 1 (List.map cL (l)))∧True) ⟨(@rfl V (V.ms 202 v2 0 (len))),hF,h3,h202,trivial⟩ ?_)
 intro T H ⟨t4,hF,h3,h202,_⟩
 have hall:=aAC (l:=l) (fun i i1 i2=>hc i i1 (by omega))
 have fh:=fE.fin (fE.put (B:=(bz v2 38 1 (List.map cL (ddK l l.length)++List.replicate (l.length - (ddK l l.length).length) [V.nilsl]))) (fE.start hF) h202 (jQ.eq (by first|rfl|(rw [hd.2]; done)|(rw [hall]; simp; done)|(rw [q5.1,cH (show k+j < l.length by omega) (.inr d5)]; rfl)|(rw [q5.1,cH (show k+j < l.length by omega) (.inr d5)]; done)|(show _=(⟨_,_,_,_,_,List.map cL (ddL l ((k+j)+1))⟩:Blk); rw [fJ (by rintro (q|q); omega; exact q d5)]; done)|(rw [cU (show l.length≤k+j by omega) hj,show k+j=l.length by omega]; done)|(rw [cU (show l.length≤k+j by omega) hj,show k+j=l.length by omega,hn]; done))))
 exact jP t4 fh (fK.trans_eq (fK.same fh _) (by first|rfl|(rw [hd.1]; done)|(rw [hall,hn]; done)|(rw [hall]; done)|(show _=iV (((ddK l ((k+j)+1)).length:Nat):Int); rw [bJ (.inr d5),List.length_append]; rfl)|(show _=iV (((ddK l ((k+j)+1)).length:Nat):Int); rw [bM (by rintro (q|q); omega; exact q d5)]; done)|(rw [show k+j=l.length by omega]; done)))
end Go.Proofs.YtilfohjlglefjaaGreat
namespace Go.Proofs.YtilfohjlglefjaaGreat
open Go Go.Sort Go.Proofs Go.Shelf
theorem R.pure_same {x y:Cx} {v:V} {c:Value} (h:R x v c) (hp:v.pure=true) (hw: ∀ b,x.Z b→y.w.heap[b]?=x.w.heap[b]?) (hz: ∀ b,x.Z b→y.Z b):R y v c:=by
  have keep: ∀ a:Addr,x.Z a.block→ ∀ n,y.w.cell? (a.add n)=x.w.cell? (a.add n):=fun a ha n=>by
    refine pI ?_
    rw [fD]; exact hw _ ha
  induction h with
  |int k n=>exact .int k n
  |bool b=>exact .bool b
  |str s=>exact .str s
  |nilsl=>exact .nilsl
  |slnil=>exact .slnil
  | sl rows a cap sz cs hc hm hzz hsz hcell _ ih =>
    simp only [V.pure] at hp
    refine .sl rows a cap sz cs hc hm (fun hne=>hz _ (hzz hne)) hsz (fun r row j v hr hj=>by rw [keep a (hzz (by intro e; subst e; simp at hr))]; exact hcell r row j v hr hj) fun r row j v hr hj=>ih r row j v hr hj ?_
    exact cM.1 (gB.1 hp row (List.mem_of_getElem? hr)) v (List.mem_of_getElem? hj)
  |ms=>simp [V.pure] at hp
  | pp cells a cs hzz hcell _ ih =>
    simp only [V.pure] at hp
    exact .pp cells a cs (fun hne=>hz _ (hzz hne)) (fun j v hj=>by rw [keep a (hzz (by intro e; subst e; simp at hj))]; exact hcell j v hj) fun j v hj=>ih j v hj (cM.1 hp v (List.mem_of_getElem? hj))
  |nilp=>exact .nilp
  |mp=>simp [V.pure] at hp
  | agg cells cs hs _ ih =>
    simp only [V.pure] at hp
    exact .agg cells cs hs fun j v hj=>ih j v hj (cM.1 hp v (List.mem_of_getElem? hj))
  | tup vs cs hs _ ih =>
    simp only [V.pure] at hp
    exact .tup vs cs hs fun j v hj=>ih j v hj (cM.1 hp v (List.mem_of_getElem? hj))
  | fn f first caps fs cs hfs hcs _ _ ih1 ih2 =>
    simp only [V.pure,Bool.and_eq_true] at hp
    exact .fn f first caps fs cs hfs hcs (fun j v hj=>ih1 j v hj (cM.1 hp.1 v (List.mem_of_getElem? hj))) fun j v hj=>ih2 j v hj (cM.1 hp.2 v (List.mem_of_getElem? hj))
  |raw c hh=>exact .raw c hh
  |mm=>simp [V.pure] at hp
theorem aFg {x:Cx} (hx:Inv x) (os:Array Obj):let y:Cx:={x with w:=Go.Sort.grow x.w os}; Inv y∧Frame x y:=by
  intro y
  have hp: ∀ b,b < x.w.heap.size→y.w.heap[b]?=x.w.heap[b]?:=fun b hb=>by
    show (x.w.heap++os)[b]?=_
    rw [Array.getElem?_append,if_pos hb]
  have hs:x.w.heap.size≤y.w.heap.size:=by show _≤(x.w.heap++os).size; simp
  have hf:Frame x y:=by
    refine ⟨rfl,rfl,rfl,hs,fun b hb _=>hp b hb,fun _ h=>h,fun b h=>.inl h,fun id=>⟨Nat.le_refl _,fun h _=>⟨h,rfl,rfl,fun _=>rfl,fun h=>⟨rfl,?_⟩⟩⟩,fun _ h=>.inl ⟨h,rfl⟩,Nat.le_refl _,fun _ _ _=>rfl⟩
    unfold bX; rw [hp _ (hx.lt h)]
  refine ⟨⟨fun b h=>Nat.lt_of_lt_of_le (hx.zlt b h) hs,hx.zown,fun id hl=>?_,hx.inj,hx.tab_of hf⟩,hf⟩
  obtain ⟨cc,h1,h2,h3,h4⟩:=hx.blk id hl
  exact ⟨cc,by rw [hp _ (hx.lt hl)]; exact h1,h2,h3,fun r row j v hr hj=>(h4 r row j v hr hj).frame hx hf⟩
def aBS (P:Program) (f:Nat):Prop:= ∀ (p:Option Addr) (cap:Nat) (fv:Value) (w:World),Calls P f #[.slice p 0 cap,fv] w fun e w'=>e=.returned (.tuple #[])∧w'=w
theorem tO {P:Program} {g:Nat} (h:cG P g): ∀ args w,(callFunc g args).run P w=.ok (.enter g args) w:=by
  obtain ⟨fn,h1,h2,h3⟩:=h
  obtain ⟨c,hc⟩:=Option.isSome_iff_exists.1 h2
  exact enters_of h1 h3 hc
theorem wI {z y:Cx} (hf:Frame z y) (hno: ∀ id,(z.H id).own=false): ∃ q os,y.w=grow (z.w.drewN q) os:=by
  refine ⟨y.w.drawn - z.w.drawn,y.w.heap.extract z.w.heap.size y.w.heap.size,?_⟩
  have e1:=hf.os; have e2:=hf.tape; have e3:=hf.output; have e4:=hf.drawn; have e5:=hf.size
  have e6:y.w.heap=z.w.heap++y.w.heap.extract z.w.heap.size y.w.heap.size:=by
    refine Array.ext_getElem? fun b=>?_
    rw [Array.getElem?_append]
    split
    · rename_i hb
      exact hf.keep b hb fun id h=>by rw [hno id] at h; cases h
    · rename_i hb
      rw [Array.getElem?_extract]
      by_cases h:b < y.w.heap.size
      · rw [if_pos (by omega)]; congr 1; omega
      · rw [if_neg (by omega),Array.getElem?_eq_none (by omega)]
  have e7:y.w.drawn=z.w.drawn+(y.w.drawn - z.w.drawn):=by omega
  unfold grow World.drewN
  cases hy:y.w with
  | mk heap tape drawn os output =>
    rw [hy] at e1 e2 e3 e6 e7
    simp only at e1 e2 e3 e6 e7 ⊢
    rw [← e6,← e7,e1,e2,e3]
section
variable {P:Program} {α:Type} [Inhabited α] {enc:α→List Value} {k:Nat} {w:World} {blk off m:Nat} {dk:Array α} {os:Array Obj}
end
theorem oF {α:Type} [Inhabited α] (d:Array α) (i:Nat) (h:i < d.size):d[i]! =nth d.toList i:=by
  rw [getElem!_pos d i h,← aM (by simpa using h)]; rfl
section
variable {P:Program}
end
end Go.Proofs.YtilfohjlglefjaaGreat
