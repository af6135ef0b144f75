/- Contracts of the functions that the law VS reaches, and the law itself, for every input; no condition. -/
import Derived.KernelRfl
import Derived.Test.YteehaobohaecmaaGreatDoorProg
import Derived.Sort.Statements
import Derived.Lib.Bytealg
import Derived.Test.YteehaobohaecmaaGreatDoorLay3
set_option linter.unusedSimpArgs false
set_option linter.unusedVariables false
namespace Go.Proofs.YteehaobohaecmaaGreatDoor
open Go
def fe (e:Nat→Int) (k:Nat):Nat→Int
  |0=>0
  |n+1=>if e k=0 then fe e (k+1) n else e k
theorem aEe {e:Nat→Int} {k N:Nat} (h:e k≠0) (hk:k < N):fe e k (N - k)=e k:=by
  obtain ⟨n,hn⟩: ∃ n,N - k=n+1:=⟨N - k - 1,by omega⟩
  rw [hn]; simp [fe,h]
theorem aFA {e:Nat→Int} {k N:Nat} (h:e k=0) (hk:k < N):fe e k (N - k)=fe e (k+1) (N - (k+1)):=by
  obtain ⟨n,hn⟩: ∃ n,N - k=n+1:=⟨N - k - 1,by omega⟩
  rw [hn,show N - (k+1)=n by omega]; simp [fe,h]
theorem aIt {e:Nat→Int} {k N:Nat} (hk:N≤k):fe e k (N - k)=0:=by
  rw [show N - k=0 by omega]; rfl
theorem kT {e : Nat → Int} : ∀ {n k : Nat}, fe e k n = 0 ↔ ∀ j, k ≤ j → j < k + n → e j = 0 := by
  intro n
  induction n with
  |zero=>intro k; simp only [fe,true_iff]; intro j h1 h2; omega
  | succ n ih =>
    intro k
    simp only [fe]
    split
    · rename_i h
      rw [ih]
      constructor
      · intro hh j h1 h2
        by_cases hj:j=k
        · subst hj; exact h
        · exact hh j (by omega) (by omega)
      · intro hh j h1 h2; exact hh j (by omega) (by omega)
    · rename_i h
      constructor
      · intro hh; exact (h hh).elim
      · intro hh; exact hh k (Nat.le_refl _) (by omega)
def fi (p:Nat→Bool) (k:Nat):Nat→Int
  |0=> -1
  |n+1=>if p k then k else fi p (k+1) n
theorem aJU {p:Nat→Bool} {k N:Nat} (h:p k=true) (hk:k < N):fi p k (N - k)=k:=by
  obtain ⟨n,hn⟩: ∃ n,N - k=n+1:=⟨N - k - 1,by omega⟩
  rw [hn]; simp [fi,h]
theorem aFE {p:Nat→Bool} {k N:Nat} (h:p k=false) (hk:k < N):fi p k (N - k)=fi p (k+1) (N - (k+1)):=by
  obtain ⟨n,hn⟩: ∃ n,N - k=n+1:=⟨N - k - 1,by omega⟩
  rw [hn,show N - (k+1)=n by omega]; simp [fi,h]
theorem aJD {p:Nat→Bool} {k N:Nat} (hk:N≤k):fi p k (N - k)= -1:=by
  rw [show N - k=0 by omega]; rfl
theorem aP1 (p:Nat→Bool) (c:Int) (hc:c≠0): ∀ n k,decide (0≤fi p k n)=decide (fe (fun j=>if p j then c else 0) k n=c)∧(fe (fun j=>if p j then c else 0) k n=0∨fe (fun j=>if p j then c else 0) k n=c):=by
  intro n
  induction n with
  |zero=>intro k; simp [fi,fe,Ne.symm hc]
  | succ n ih =>
    intro k
    simp only [fi,fe]
    by_cases h:p k=true
    · simp [h,hc]
    · simp only [h,if_false,if_true]
      simpa using ih (k+1)
theorem bZ {α:Type} [Inhabited α] {l:List α} {k:Nat} (h:k < l.length):l.take (k+1)=l.take k++[nth l k]:=by
  rw [← bA h,List.take_succ_eq_append_getElem h]
def wE (w:List Int) (n:Int) (k:Nat):Int:=if nth w k < 0∨n≤nth w k then 1 else 0
def nH (w:List Int) (n:Int):Int:=
  if n < 1∨1024 < n then 2 else if 1024 < w.length then 3 else fe (wE w n) 0 w.length
structure M where
  i:Int
  s:Int
  nx:List (List Int)
  ot:List (List Int)
abbrev mC (m:M):List V:=[iV m.i,iV m.s,aZ m.nx,aZ m.ot]
def cell (l:List (List Int)) (s a:Int):Int:=nth (nth l s.toNat) a.toNat
def aGW (m:M) (s a:Nat):Int:=if nth (nth m.nx s) a < 0∨m.nx.length≤nth (nth m.nx s) a∨nth (nth m.ot s) a < 0∨1048576 < nth (nth m.ot s) a then 2 else 0
def aC5 (m:M) (s:Nat):Int:=
  if ((nth m.nx s).length:Int)≠m.i∨((nth m.ot s).length:Int)≠m.i then 1
  else fe (aGW m s) 0 m.i.toNat
def dY (m:M):Int:=
  if m.i < 1∨64 < m.i then 2 else if m.nx.length=0 then 19 else if 128 < m.nx.length then 11 else if m.s < 0∨m.nx.length≤m.s then 2
  else if m.ot.length≠m.nx.length then 1 else fe (aC5 m) 0 m.nx.length
def fB (m:M):Int→List Int→List Int
  |_,[]=>[]
  |s,a::w=>cell m.ot s a::fB m (cell m.nx s a) w
def eC (m:M):Int→List Int→Int
  |s,[]=>s
  |s,a::w=>eC m (cell m.nx s a) w
theorem iJ (m:M): ∀ (w:List Int) (s:Int),(fB m s w).length=w.length
  |[],_=>rfl
  |a::w,s=>by simp [fB,iJ m w]
theorem hJ (m:M): ∀ (u v:List Int) (s:Int),fB m s (u++v)=fB m s u++fB m (eC m s u) v
  |[],_,_=>rfl
  |a::u,v,s=>by simp [fB,eC,hJ m u v]
theorem kX (m:M): ∀ (u v:List Int) (s:Int),eC m s (u++v)=eC m (eC m s u) v
  |[],_,_=>rfl
  |a::u,v,s=>by simp [eC,kX m u v]
theorem aGH (m:M) (s:Int) {w:List Int} {k:Nat} (h:k < w.length):fB m s (w.take (k+1))=fB m s (w.take k)++[cell m.ot (eC m s (w.take k)) (nth w k)]:=by
  rw [bZ h,hJ]; rfl
theorem aF5 (m:M) (s:Int) {w:List Int} {k:Nat} (h:k < w.length):eC m s (w.take (k+1))=cell m.nx (eC m s (w.take k)) (nth w k):=by
  rw [bZ h,kX]; rfl
theorem fO {m:M} (h:dY m=0):1≤m.i∧m.i≤64∧0 < m.nx.length∧m.nx.length≤128∧0≤m.s∧m.s < m.nx.length∧m.ot.length=m.nx.length∧
    (∀ s,s < m.nx.length→((nth m.nx s).length:Int)=m.i∧((nth m.ot s).length:Int)=m.i∧ ∀ a:Nat,a < m.i→0≤nth (nth m.nx s) a∧nth (nth m.nx s) a < m.nx.length∧0≤nth (nth m.ot s) a∧nth (nth m.ot s) a≤1048576):=by
  unfold dY at h
  split at h; · cases h
  rename_i h1
  split at h; · cases h
  rename_i h2
  split at h; · cases h
  rename_i h3
  split at h; · cases h
  rename_i h4
  split at h; · cases h
  rename_i h5
  refine ⟨by omega,by omega,by omega,by omega,by omega,by omega,by omega,fun s hs=>?_⟩
  have h6:=kT.1 h s (Nat.zero_le _) (by omega)
  unfold aC5 at h6
  split at h6; · cases h6
  rename_i h7
  refine ⟨by omega,by omega,fun a ha=>?_⟩
  have h8:=kT.1 h6 a (Nat.zero_le _) (by omega)
  unfold aGW at h8
  split at h8
  · cases h8
  · omega
theorem wC {w:List Int} {n:Int} (h:nH w n=0):w.length≤1024∧ ∀ k,k < w.length→0≤nth w k∧nth w k < n:=by
  unfold nH at h
  split at h; · cases h
  split at h; · cases h
  refine ⟨by omega,fun k hk=>?_⟩
  have:=kT.1 h k (Nat.zero_le _) (by omega)
  unfold wE at this
  split at this
  · cases this
  · omega
theorem sM {m:M} (h:dY m=0): ∀ (w:List Int) (s:Int),0≤s→s < m.nx.length→(∀ k,k < w.length→0≤nth w k∧nth w k < m.i)→0≤eC m s w∧eC m s w < m.nx.length
  |[],s,h0,h1,_=>⟨h0,h1⟩
  | a :: w, s, h0, h1, hw => by
    have ha:0≤a∧a < m.i:=by simpa [nth] using hw 0 (by simp)
    have hc:=(fO h).2.2.2.2.2.2.2 s.toNat (by omega)
    have hr:=hc.2.2 a.toNat (by omega)
    refine sM h w (cell m.nx s a) ?_ ?_ fun k hk=>by simpa [nth] using hw (k+1) (by simp; omega)
    · exact hr.1
    · exact hr.2.1
theorem aF3 {m:M} (h:dY m=0) {w:List Int} {s:Int} (h0:0≤s) (h1:s < m.nx.length) (hw: ∀ k,k < w.length→0≤nth w k∧nth w k < m.i) (k:Nat):0≤eC m s (w.take k)∧eC m s (w.take k) < m.nx.length:=by
  refine sM h _ s h0 h1 fun j hj=>?_
  have:nth (w.take k) j=nth w j:=by
    simp only [List.length_take] at hj
    rw [← bA (by simp; omega),← bA (by omega),List.getElem_take]
  rw [this]; exact hw j (by simp at hj; omega)
def stE (m:M) (s:Int):Int:=if dY m≠0 then dY m else if s < 0∨(m.nx.length:Int)≤s then 2 else 0
def inE (w:List Int) (n:Int) (k:Nat):Bool:=decide (nth w k < 0∨n≤nth w k)
theorem aRn (w:List Int) (n:Int):wE w n=fun j=>if inE w n j then 1 else 0:=by
  funext j; simp [wE,inE]
theorem aNm (w:List Int) (n:Int) (c k:Nat):(0≤fi (inE w n) k c↔fe (wE w n) k c=1)∧(fe (wE w n) k c=0∨fe (wE w n) k c=1):=by
  rw [aRn]
  have h:=aP1 (inE w n) 1 (by decide) c k
  exact ⟨by simpa using decide_eq_decide.1 h.1,h.2⟩
theorem aPj {m:M} {s:Int} (h:stE m s=0):dY m=0∧0≤s∧s < m.nx.length:=by
  unfold stE at h
  split at h
  · contradiction
  · split at h
    · cases h
    · omega
def frE (m:M) (s:Int) (w:List Int):Int:=if stE m s≠0 then stE m s else nH w m.i
def dP (m:M) (s:Int) (w:List Int):List Int:=if frE m s w≠0 then [] else fB m s w
def aAE (m:M) (s:Int) (w:List Int):Int:=if frE m s w≠0 then 0 else eC m s w
theorem aNA {m:M} (hm:dY m=0) {s:Int} (hs:0≤s∧s < m.nx.length) {w:List Int} (hw: ∀ k,k < w.length→0≤nth w k∧nth w k < m.i) {k:Nat} (hk:k < w.length):
    (0≤eC m s (w.take k)∧eC m s (w.take k) < m.nx.length∧m.ot.length=m.nx.length)∧0≤nth w k∧nth w k < (nth m.nx (eC m s (w.take k)).toNat).length∧nth w k < (nth m.ot (eC m s (w.take k)).toNat).length:=by
  have h1:=aF3 hm hs.1 hs.2 hw k
  have h2:=fO hm
  have h3:=h2.2.2.2.2.2.2.2 (eC m s (w.take k)).toNat (by omega)
  have h4:=hw k hk
  omega
structure Hy where
  m:M
  acc:List (List Int)
abbrev hC (h:Hy):List V:=[iV h.m.i,iV h.m.s,aZ h.m.nx,aZ h.m.ot,aZ h.acc]
abbrev hV (h:Hy):V:=.agg (hC h)
abbrev hB (h:Hy):Blk:=⟨1,true,false,26,5,[hC h]⟩
def aRW (h:Hy) (s:Nat):Int:=
  if nH (nth h.acc s) h.m.i≠0 then nH (nth h.acc s) h.m.i else if eC h.m h.m.s (nth h.acc s)≠s then 15 else 0
def vI (h:Hy):Int:=
  if dY h.m≠0 then dY h.m else if h.acc.length≠h.m.nx.length then 1
  else if fe (aRW h) 0 h.acc.length≠0 then fe (aRW h) 0 h.acc.length else if (nth h.acc h.m.s.toNat).length≠0 then 10 else 0
end Go.Proofs.YteehaobohaecmaaGreatDoor
namespace Go.Proofs.YteehaobohaecmaaGreatDoor
open Go
def cmn:List Int→List Int→Nat
  |a::l,b::m=>if a=b then cmn l m+1 else 0
  |_,_=>0
theorem aJM {α:Type} [Inhabited α] (a:α) (l:List α):nth (a::l) 0=a:=rfl
theorem xP {α:Type} [Inhabited α] (a:α) (l:List α) (k:Nat):nth (a::l) (k+1)=nth l k:=rfl
theorem rS: ∀ (a b:List Int),cmn a b≤a.length∧cmn a b≤b.length∧(∀ j,j < cmn a b→nth a j=nth b j)∧(cmn a b < a.length→cmn a b < b.length→nth a (cmn a b)≠nth b (cmn a b))
  |[],b=>by simp [cmn]
  |a::l,[]=>by simp [cmn]
  | a :: l, b :: m => by
    obtain ⟨h1,h2,h3,h4⟩:=rS l m
    by_cases e:a=b
    · subst e
      simp only [cmn,if_true,List.length_cons]
      refine ⟨by omega,by omega,fun j hj=>?_,fun g1 g2=>by simpa [xP] using h4 (by omega) (by omega)⟩
      cases j with
      |zero=>rfl
      |succ j=>simpa [xP] using h3 j (by omega)
    · simp only [cmn,if_neg e,List.length_cons]
      exact ⟨by omega,by omega,fun j hj=>by omega,fun _ _=>e⟩
theorem aHy {a b:List Int} {k:Nat} (hc:k≤cmn a b) (ha:k < a.length) (hb:k < b.length) (e:nth a k=nth b k):k+1≤cmn a b:=by
  obtain ⟨h1,h2,h3,h4⟩:=rS a b
  by_cases h:k=cmn a b
  · subst h; exact (h4 ha hb e).elim
  · omega
theorem aO6 {a b:List Int} {k:Nat} (hc:k≤cmn a b) (h:a.length≤k∨b.length≤k∨nth a k≠nth b k):cmn a b=k:=by
  obtain ⟨h1,h2,h3,h4⟩:=rS a b
  by_cases e:k=cmn a b
  · exact e.symm
  · have h5:=h3 k (by omega)
    rcases h with h|h|h
    · omega
    · omega
    · exact (h h5).elim
theorem aJ2 (a b:List Int):cmn a b=cmn b a:=by
  obtain ⟨h1,h2,h3,h4⟩:=rS b a
  refine aO6 ?_ ?_
  · have: ∀ k,k≤cmn b a→k≤cmn a b:=by
      intro k
      induction k with
      |zero=>intro _; exact Nat.zero_le _
      |succ k ih=>intro h; exact aHy (ih (by omega)) (by omega) (by omega) (h3 k (by omega)).symm
    exact this _ (Nat.le_refl _)
  · by_cases g1:a.length≤cmn b a
    · exact .inl g1
    · by_cases g2:b.length≤cmn b a
      · exact .inr (.inl g2)
      · exact .inr (.inr fun e=>h4 (by omega) (by omega) e.symm)
theorem aDi {α:Type} [Inhabited α] {l:List α} {n j:Nat} (h:j < n):nth (l.take n) j=nth l j:=by
  simp only [nth,List.getD_eq_getElem?_getD,List.getElem?_take,if_pos h]
theorem aF7 {α:Type} [Inhabited α] {l:List α} {n j:Nat}:nth (l.drop n) j=nth l (n+j):=by
  simp only [nth,List.getD_eq_getElem?_getD,List.getElem?_drop]
theorem aGr {α:Type} [Inhabited α] {l m:List α} {j:Nat}:nth (l++m) (l.length+j)=nth m j:=by
  simp only [nth,List.getD_eq_getElem?_getD,List.getElem?_append_right (Nat.le_add_right _ _),Nat.add_sub_cancel_left]
theorem aFb {α β:Type} [Inhabited α] [Inhabited β] {f:α→β} {l:List α} {j:Nat} (h:j < l.length):nth (l.map f) j=f (nth l j):=by
  rw [← bA (by simpa using h),← bA h,List.getElem_map]
theorem cG {α:Type} [Inhabited α] {l:List α} {j:Nat} (h:j < l.length):nth l j∈l:=by
  rw [← bA h]; exact List.getElem_mem h
theorem dJ {α:Type} [Inhabited α] {l:List α} {x:α} (h:x∈l): ∃ j,j < l.length∧nth l j=x:=by
  obtain ⟨j,hj,e⟩:=List.getElem_of_mem h
  exact ⟨j,hj,by rw [← bA hj]; exact e⟩
theorem aBz {α:Type} [Inhabited α] {l m:List α} (h1:l.length=m.length) (h2: ∀ j,j < l.length→nth l j=nth m j):l=m:=by
  refine List.ext_getElem h1 fun j g1 g2=>?_
  rw [bA g1,bA g2]; exact h2 j g1
def aR3 (a b:List Int):Int:=
  if cmn a b=a.length∧cmn a b=b.length then 0
  else if cmn a b=a.length∨(cmn a b < b.length∧nth a (cmn a b) < nth b (cmn a b)) then -1 else 1
def slx (a b:List Int):Int:=if a.length < b.length then -1 else if b.length < a.length then 1 else aR3 a b
def eJ (x y:Int):Int:=if x < y then -1 else if y < x then 1 else 0
def orI:List Int→Int
  |[]=>0
  |x::l=>if x=0 then orI l else x
theorem aB3 {l:List Int} {k:Nat} (h:k < l.length):orI (l.drop k)=if nth l k=0 then orI (l.drop (k+1)) else nth l k:=by
  rw [dG h]; rfl
structure Tr where
  ni:List Int
  no:List Int
  deriving Inhabited
abbrev cT (t:Tr):List V:=[aQ t.ni,aQ t.no]
@[simp] theorem aNg (l:List Tr):dK (l.map cT)=true:=eP _ _ fun a=>by simp [cT]
structure Ob where
  i:Int
  tr:List Tr
  deriving Inhabited
def hp (w p:List Int):Bool:=decide (cmn w p=p.length)
def dfE (a b:Tr) (k:Nat):Bool:=decide (nth a.no k≠nth b.no k)
def df (a b:Tr):Int:=fi (dfE a b) 0 (cmn a.ni b.ni)
structure Proper (t:Tr) (n:Int):Prop where
  len:t.no.length=t.ni.length
  lel:t.ni.length≤1024
  sym: ∀ k,k < t.ni.length→0≤nth t.ni k∧nth t.ni k < n
  out: ∀ k,k < t.no.length→0≤nth t.no k∧nth t.no k≤1048576
theorem aD5 {p : Nat → Bool} : ∀ {n k : Nat}, 0 ≤ fi p k n ↔ ∃ j, k ≤ j ∧ j < k + n ∧ p j = true
  |0,k=>by simp [fi]; omega
  | n + 1, k => by
    simp only [fi]
    split
    · rename_i h
      constructor
      · intro _; exact ⟨k,by omega,by omega,h⟩
      · intro _; omega
    · rename_i h
      rw [aD5]
      constructor
      · rintro ⟨j,h1,h2,h3⟩; exact ⟨j,by omega,by omega,h3⟩
      · rintro ⟨j,h1,h2,h3⟩
        by_cases e:j=k
        · subst e; exact (h h3).elim
        · exact ⟨j,by omega,by omega,h3⟩
theorem aPO {a b:Tr}:0≤df a b↔ ∃ j,j < cmn a.ni b.ni∧nth a.no j≠nth b.no j:=by
  unfold df
  rw [aD5]
  constructor
  · rintro ⟨j,_,h2,h3⟩; exact ⟨j,by omega,by simpa [dfE] using h3⟩
  · rintro ⟨j,h2,h3⟩; exact ⟨j,by omega,by omega,by simpa [dfE] using h3⟩
structure OK (o:Ob):Prop where
  hi:1≤o.i∧o.i≤64
  len:o.tr.length≤10000
  pr: ∀ k,k < o.tr.length→Proper (nth o.tr k) o.i∧0 < (nth o.tr k).ni.length
  ord: ∀ k,k+1 < o.tr.length→slx (nth o.tr k).ni (nth o.tr (k+1)).ni < 0
  pre: ∀ i k,i < k→k < o.tr.length→hp (nth o.tr k).ni (nth o.tr i).ni=false
  cla: ∀ i k,i < k→k < o.tr.length→df (nth o.tr i) (nth o.tr k) < 0
def aR6 (o:Ob) (k:Nat):Int:=if 100 < (nth o.tr k).ni.length∨100 < (nth o.tr k).no.length then 1 else 0
def ogr (o:Ob):Prop:=60 < o.tr.length∨fe (aR6 o) 0 o.tr.length≠0
instance (o:Ob):Decidable (ogr o):=inferInstanceAs (Decidable (_∨_))
def cat:List (List Int)→List Int
  |[]=>[]
  |w::l=>w++cat l
theorem pS: ∀ (l m:List (List Int)),cat (l++m)=cat l++cat m
  |[],_=>rfl
  |w::l,m=>by simp [cat,pS l m]
theorem sJ {l:List (List Int)} {k:Nat} (h:k < l.length):cat (l.take (k+1))=cat (l.take k)++nth l k:=by
  rw [bZ h,pS]; simp [cat]
theorem uR {l:List (List Int)} {k:Nat} (h:k < l.length):(cat (l.take k)).length+(nth l k).length≤(cat l).length:=by
  have e:cat l=cat (l.take (k+1))++cat (l.drop (k+1)):=by rw [← pS,List.take_append_drop]
  rw [e,sJ h]; simp
def aR1 (a b:List Int):Nat:=if cmn a b < min a.length b.length then cmn a b else 0
theorem wA {m:M} {w:List Int} (hm:dY m=0):frE m m.s w=nH w m.i:=by
  have h:=fO hm
  rw [frE,if_neg]
  rw [stE,if_neg (by omega),if_neg (by omega)]; simp
theorem aJb {m:M} {w:List Int} (hm:dY m=0) (h:nH w m.i=0):aAE m m.s w=eC m m.s w∧dP m m.s w=fB m m.s w∧0≤eC m m.s w∧eC m m.s w < m.nx.length:=by
  have hv:=fO hm
  have hw:=wC h
  have e:=wA (w:=w) hm
  have hg:=sM hm w m.s (by omega) (by omega) hw.2
  exact ⟨by rw [aAE,if_neg (by omega)],by rw [dP,if_neg (by omega)],hg⟩
theorem aAC {w:List Int} {n:Int} (hn:1≤n∧n≤1024) (hl:w.length≤1024) (hs: ∀ k,k < w.length→0≤nth w k∧nth w k < n):nH w n=0:=by
  rw [nH,if_neg (by omega),if_neg (by omega)]
  exact kT.2 fun j h1 h2=>by
    have:=hs j (by omega)
    rw [wE,if_neg (by omega)]
end Go.Proofs.YteehaobohaecmaaGreatDoor
namespace Go.Proofs.YteehaobohaecmaaGreatDoor
open Go
section
variable {P:Program} {T:Nat→V} {H:aI}
theorem cR {t:Nat} {u:V} (h:T t=u):lK T H (.tmp t)=some u:=by rw [← h]; rfl
theorem bS {t m id ver row off:Nat} {g:Bool} {u:V} {B:Blk} (ha:T t=.mp id ver row off) (hH:H id=B) (hl:ldB g m B ver row off=some u):lK T H (.cell t g m)=some u:=by
  subst hH
  simp only [lK,ha,ptr]
  unfold ldB at hl
  split at hl
  · rename_i hc
    rw [if_pos (show ok H id ver=true from hc)]
    cases hr:(H id).rows[row]? with
    |none=>rw [hr] at hl; cases hl
    |some w=>rw [hr] at hl; exact hl
  · cases hl
theorem eK {s1:SRes} {u v:V} {n:Nat} (h1:lK T H s1=some u) (h2:fzv true H n u=v):Ret [s1] (fun u G=>fzv true G n u=v) .ret T H:=by
  simp only [Ret,kO,fA,h1,dX]; exact h2
theorem iO {s1 s2:SRes} {u1 u2 v1 v2:V} {n:Nat} (h1:lK T H s1=some u1) (h2:lK T H s2=some u2) (g1:fzv true H n u1=v1) (g2:fzv true H n u2=v2):Ret [s1,s2] (fun u G=>fzv true G (n+1) u=.tup [v1,v2]) .ret T H:=by
  simp only [Ret,kO,fA,h1,h2,dX,fzv,List.map_cons,List.map_nil,g1,g2]
theorem nR {s1 s2 s3:SRes} {u1 u2 u3 v1 v2 v3:V} {n:Nat} (h1:lK T H s1=some u1) (h2:lK T H s2=some u2) (h3:lK T H s3=some u3) (g1:fzv true H n u1=v1) (g2:fzv true H n u2=v2) (g3:fzv true H n u3=v3):Ret [s1,s2,s3] (fun u G=>fzv true G (n+1) u=.tup [v1,v2,v3]) .ret T H:=by
  simp only [Ret,kO,fA,h1,h2,h3,dX,fzv,List.map_cons,List.map_nil,g1,g2,g3]
theorem aLh {n:Nat} {l m:List V} (h:l.map (fzv true H n)=m):fzv true H (n+1) (.agg l)=.agg m:=by subst h; rfl
theorem kW {n:Nat} {u1 u2 v1 v2:V} (g1:fzv true H n u1=v1) (g2:fzv true H n u2=v2):fzv true H (n+1) (.agg [u1,u2])=.agg [v1,v2]:=by
  simp only [fzv,List.map_cons,List.map_nil,g1,g2]
theorem bV {n:Nat} {u1 u2 u3 v1 v2 v3:V} (g1:fzv true H n u1=v1) (g2:fzv true H n u2=v2) (g3:fzv true H n u3=v3):fzv true H (n+1) (.agg [u1,u2,u3])=.agg [v1,v2,v3]:=by
  simp only [fzv,List.map_cons,List.map_nil,g1,g2,g3]
end
end Go.Proofs.YteehaobohaecmaaGreatDoor
namespace Go.Proofs.YteehaobohaecmaaGreatDoor
open Go
def kL (b b':Blk):Prop:=b.ver≤b'.ver∧(b'.live=false∨b'={b with ver:=b'.ver})
def qO (H H':aI):Prop:= ∀ j,kL (H j) (H' j)
def cX (S:List Nat) (H H':aI):Prop:= ∀ j,j∉S→kL (H j) (H' j)
theorem kL.refl (b:Blk):kL b b:=⟨Nat.le_refl _,.inr rfl⟩
theorem cX.start {S:List Nat} {H Hi:aI} (h: ∀ j,j∉S→H j=Hi j):cX S H Hi:=fun j hj=>by rw [h j hj]; exact .refl _
theorem cX.put {S:List Nat} {H H':aI} {i:Nat} {b B:Blk} (h:cX (i::S) H H') (hi:H i=b) (hB:kL b B):cX S H (upd H' i B):=fun j hj=>by
  by_cases e:j=i
  · subst e; rw [aG,hi]; exact hB
  · rw [aV _ _ e]; exact h j (by simp [e,hj])
theorem cX.putv {S:List Nat} {H H':aI} {i n:Nat} {B:Blk} (h:cX (i::S) H H') (hi:(H i).ver=n) (hn:n≤B.ver) (hd:B.live=false):cX S H (upd H' i B):=h.put rfl ⟨by omega,.inl hd⟩
theorem cX.fin {H H':aI} (h:cX [] H H'):qO H H':=fun j=>h j (by simp)
theorem kL.eq {b B:Blk} (h:b=B):kL b B:=h ▸ .refl _
theorem kL.gone {b B:Blk} (h:b.ver≤B.ver) (hd:B.live=false):kL b B:=⟨h,.inl hd⟩
theorem kL.own {b b':Blk} (h:kL b b') (ho:b'.own=true):b'={b with ver:=b'.ver}∧b.own=true:=by
  rcases h.2 with h1|h1
  · have:=dS ho; rw [h1] at this; cases this
  · refine ⟨h1,?_⟩
    rw [h1] at ho; exact ho
def mZ (x:Cx) (H':aI):Cx:={x with Z:=fun b=>x.Z b∨ ∃ j,(x.H j).own=true∧(H' j).live=false∧b=x.σ j,H:=H'}
theorem nJ {x : Cx} (hx : Inv x) {H' : aI} (h : qO x.H H') : Inv (mZ x H') ∧ Frame x (mZ x H') := by
  generalize hy:mZ x H'=y
  have ew:y.w=x.w:=by rw [← hy]; rfl
  have eh:y.H=H':=by rw [← hy]; rfl
  have es:y.σ=x.σ:=by rw [← hy]; rfl
  have ez: ∀ b,y.Z b↔x.Z b∨ ∃ j,(x.H j).own=true∧(H' j).live=false∧b=x.σ j:=fun b=>by rw [← hy]; exact Iff.rfl
  have hf:Frame x y:=by
    refine ⟨by rw [ew],by rw [ew],by rw [ew],by rw [ew]; exact Nat.le_refl _,fun _ _ _=>by rw [ew],fun b h=>(ez b).2 (.inl h),fun b hb=>?_,fun i=>?_,fun i ho=>?_,by rw [ew]; exact Nat.le_refl _,fun i hl hv=>by
      have e:H' i=x.H i:=by
        rw [eh] at hl hv
        rcases (h i).2 with h1|h1
        · rw [h1] at hl; cases hl
        · rw [h1]; show ({x.H i with ver:=(H' i).ver}:Blk)=x.H i; rw [hv]
      rw [eh,e]⟩
    · rcases (ez b).1 hb with h1|⟨j,h1,_,h3⟩
      · exact .inl h1
      · exact .inr (.inr ⟨j,h1,h3.symm⟩)
    rotate_left
    · rw [eh] at ho; rw [es]; exact .inl ⟨((h i).own ho).2,rfl⟩
    rw [eh,es,ew]
    refine ⟨(h i).1,fun hl hv=>?_⟩
    have e:H' i=x.H i:=by
      rcases (h i).2 with h1|h1
      · have:(H' i).live=true:=hl
        rw [h1] at this; cases this
      · rw [h1]; show ({x.H i with ver:=(H' i).ver}:Blk)=x.H i; rw [show (H' i).ver=(x.H i).ver from hv]
    simp only [e]
    have hl':(x.H i).live=true:=by rw [← e]; exact hl
    exact ⟨hl',trivial,trivial,fun _=>trivial,fun _=>⟨trivial,trivial⟩⟩
  refine ⟨⟨fun b hb=>?_,fun b i hb ho=>?_,fun i ho=>?_,fun i j hi hj he=>?_,hx.tab_of hf⟩,hf⟩
  · rw [ew]
    rcases (ez b).1 hb with h1|⟨j,h1,_,h3⟩
    · exact hx.zlt b h1
    · rw [h3]; exact hx.lt h1
  · rw [eh] at ho; rw [es]
    have ho':=((h i).own ho).2
    rcases (ez b).1 hb with h1|⟨j,h1,h2,h3⟩
    · exact hx.zown b i h1 ho'
    · intro q
      have:=hx.inj i j ho' h1 (q.trans h3)
      subst this
      have:=dS ho; rw [h2] at this; cases this
  rotate_left
  · rw [eh] at hi hj; rw [es] at he
    exact hx.inj i j ((h i).own hi).2 ((h j).own hj).2 he
  rw [eh] at ho
  obtain ⟨e,ho'⟩:=(h i).own ho
  obtain ⟨dd,h1,h2,h3,h4⟩:=hx.blk i ho'
  have e1:(y.H i).rows=(x.H i).rows:=by rw [eh,e]
  have e2:(y.H i).sz=(x.H i).sz:=by rw [eh,e]
  have e3:(y.H i).obj dd=(x.H i).obj dd:=by rw [eh,e]; rfl
  rw [e1,e2,ew,es]
  exact ⟨dd,by rw [e3]; exact h1,h2,h3,fun r row j v hr hj=>(h4 r row j v hr hj).frame hx hf⟩
def cV (H H':aI) (v v':V):Prop:= ∀ (x:Cx) (c:Value),x.H=H→Inv x→R x v c→R (mZ x H') v' c
theorem cV.same {H H':aI} (h:qO H H') (v:V):cV H H' v v:=fun x c e hx r=>by
  subst e; exact r.frame hx (nJ hx h).2
theorem cV.nil {H H':aI}:cV H H' .nilsl (.sl []):=fun x c e hx r=>by
  cases r; exact .slnil
theorem cV.ms {H H':aI} (h:qO H H') {id ver n off len:Nat} (hl:(H id).live=true) (hv:(H id).ver=ver) (hl':(H' id).live=true) (hv':(H' id).ver=n):cV H H' (.ms id ver off len) (.ms id n off len):=fun x c e hx r=>by
  subst e
  have e:H' id={x.H id with ver:=n}:=by
    rcases (h id).2 with h1|h1
    · rw [h1] at hl'; cases hl'
    · rw [hv'] at h1; exact h1
  cases r with
  | ms id ver off len b m cap hv1 hh hm =>
    refine .ms _ _ _ _ _ _ _ (by rw [show (mZ x H').H id=H' id from rfl,hv']; exact Nat.le_refl _) (fun _ _=>?_) fun _ _=>by
      have:=hm hv hl
      simp only [mZ,e]
      exact this
    have:=hh hv hl
    simp only [mZ,e]
    exact this
theorem cV.frz {H H' : aI} (h : qO H H') {id ver len : Nat} {rows : List (List V)} (hl : (H id).live = true) (hv : (H id).ver = ver) (hd : (H' id).live = false) (hr : (H id).rows.take len = rows) : cV H H' (.ms id ver 0 len) (.sl rows) := fun x c e hx r => by
  subst e
  have hf:=(nJ hx h).2
  subst hr
  cases r with
  | ms id ver off len b m cap hv1 hh hnm =>
    obtain ⟨e1,e2,e3,e4,e5,e6⟩:=hh hv hl
    subst e1
    rw [Nat.zero_add] at e4
    have hlen:((x.H id).rows.take m).length=m:=by simp; omega
    cases ho:(x.H id).own with
    | false =>
      have e8:=e6 ho
      have hm:m=0:=by omega
      subst hm; subst e8
      simpa using R.sl0 _
    | true =>
      obtain ⟨e7,e8⟩:=e5 ho
      subst e7
      obtain ⟨cc,h1,h2,h3,h4⟩:=hx.cel id ho (hnm hv hl)
      have hidx: ∀ (r:Nat) (row:List V),((x.H id).rows.take m)[r]?=some row→(x.H id).rows[r]?=some row:=by
        intro r row hr
        simp only [List.getElem?_take] at hr
        split at hr
        · exact hr
        · cases hr
      have key:=R.sl (x:=mZ x H') ((x.H id).rows.take m) ⟨x.σ id,0,none⟩ cap (x.H id).sz
        (fun k=>cc.getD k undef) (by omega) e3 (fun _=>.inr ⟨id,ho,hd,rfl⟩)
        (fun r hr=>h2 r (List.mem_of_mem_take hr))
        (fun r row q v hr hj=>by
          have h8:=hidx _ _ hr
          have h9:=(fK h2 h3 h8 hj).1
          rw [Addr.add_lit]
          show x.w.cell? _=_
          rw [gG h1 (by omega)]
          simp)
        (fun r row q v hr hj=>(h4 _ _ _ _ (hidx _ _ hr) hj).frame hx hf)
      rw [hlen] at key
      simpa using key
theorem cV.tup2 {H H':aI} {a b a' b':V} (h1:cV H H' a a') (h2:cV H H' b b'):cV H H' (.tup [a,b]) (.tup [a',b']):=fun x c e hx r=>by
  cases r with
  | tup vs cs hs hr =>
    refine .tup _ cs (by simpa using hs) fun j v hj=>?_
    match j,hj with
    |0,hj=>cases hj; exact h1 x _ e hx (hr 0 a rfl)
    |1,hj=>cases hj; exact h2 x _ e hx (hr 1 b rfl)
    |n+2,hj=>simp at hj
theorem cV.trans_eq {H H':aI} {a b b':V} (h:cV H H' a b) (e:b=b'):cV H H' a b':=e ▸ h
section
variable {P:Program} {op:Opt} {k0:Nat}
theorem aBk {f : Nat} {fn : Func} {s : SF} (hf : P.funcs[f]? = some fn) (hs : bF P op fn = some s) (hn : (fn.name == "runtime.NumGoroutine") = false) {args : List V} {H : aI} {v : V} {H' : aI}
    (hl:args.length≤s.n) (hW:iP args=true→W P k0 s.body (Ret s.res fun u G=>qO G H'∧cV G H' u v) (T0 args) H):dW P f args H v H':=by
  refine ⟨kQ hf hs hn,fun x cs hxH hx hr=>?_⟩
  subst hxH
  refine (wS hf hs hl (hW hr.bnd) hx hr).mono fun e w' h=>?_
  obtain ⟨c,u,y,h1,h2,⟨h3,h4⟩,h5,h6,h7⟩:=h
  obtain ⟨z1,z2⟩:=nJ h5 h3
  exact ⟨c,mZ y H',h1,h2,rfl,z1,h4 y c rfl h5 h6,h7.trans z2⟩
variable {T:Nat→V} {H H':aI}
theorem wI {t:Nat} {u v:V} (h:T t=u) (hH:qO H H') (hv:cV H H' u v):Ret [.tmp t] (fun u G=>qO G H'∧cV G H' u v) .ret T H:=by
  simp only [Ret,kO,fA,lK,h,dX]; exact ⟨hH,hv⟩
theorem nB {t1 t2:Nat} {u1 u2 v1 v2:V} (h1:T t1=u1) (h2:T t2=u2) (hH:qO H H') (hv1:cV H H' u1 v1) (hv2:cV H H' u2 v2):Ret [.tmp t1,.tmp t2] (fun u G=>qO G H'∧cV G H' u (.tup [v1,v2])) .ret T H:=by
  simp only [Ret,kO,fA,lK,h1,h2,dX]; exact ⟨hH,hv1.tup2 hv2⟩
theorem aPQ (hH:qO H H'):Ret [] (fun u G=>qO G H'∧cV G H' u (.tup [])) .ret T H:=by
  simp only [Ret,kO,fA,dX]; exact ⟨hH,.same hH _⟩
end
end Go.Proofs.YteehaobohaecmaaGreatDoor
namespace Go.Proofs.YteehaobohaecmaaGreatDoor
open Go
section
variable {P:Program} {k0:Nat} {K:(Nat→V)→aI→Prop} {T:Nat→V} {H:aI} {r:List SO} {d:Nat} {a b c:SX} {v u:V}
theorem zM {e id ver off len n:Nat} {B:Blk} {k:IntKind} {x:SX} (ha:ev T a=.ms id ver off len) (hx:ev T x=.int k (n:Nat)) (hH:H id=B) (hok:okB B ver=true) (hs:B.sz=e) (hn:n≤len)
    (h:Ops P k0 r (upd T d (.ms id ver off n)) H K):Ops P k0 (⟨none,some d,.slice e a none (some x)⟩::r) T H K:=by
  subst hH
  refine stp (v:=.ms id ver off n) (fun _=>rfl) ?_ h
  rw [ha]
  simp only [Option.map_some,Option.map_none,mJ,eQ,aGJ,hx,Option.bind_some]
  have h0:(0:Int)≤(n:Int):=by omega
  rw [if_pos h0]
  simp only [Option.bind_some,Int.toNat_natCast]
  rw [if_pos (show ok H id ver=true from hok),if_pos hs,if_pos (Nat.zero_le _),if_pos hn]
  by_cases e:0 < n
  · rw [if_pos e]; simp
  · rw [if_neg e,if_pos trivial,show n=0 by omega]
theorem pE {e id ver off len n:Nat} {B:Blk} {k:IntKind} {x:SX} (ha:ev T a=.ms id ver off len) (hx:ev T x=.int k (n:Nat)) (hH:H id=B) (hok:okB B ver=true) (hs:B.sz=e) (hn:n < len)
    (h:Ops P k0 r (upd T d (.ms id ver (off+n) (len - n))) H K):Ops P k0 (⟨none,some d,.slice e a (some x) none⟩::r) T H K:=by
  subst hH
  refine stp (v:=.ms id ver (off+n) (len - n)) (fun _=>rfl) ?_ h
  rw [ha]
  simp only [Option.map_some,Option.map_none,mJ,eQ,aGJ,hx,Option.bind_some]
  have h0:(0:Int)≤(n:Int):=by omega
  rw [if_pos h0]
  simp only [Option.bind_some,Int.toNat_natCast]
  rw [if_pos (show ok H id ver=true from hok),if_pos hs,if_pos (by omega),if_pos (Nat.le_refl _),if_pos hn]
theorem aRE {α:Type} {id ver ty sz m n:Nat} {lz:Bool} {f:α→List V} {l:List α} {z:List V} (ha:ev T a=.ms id ver m n) (hH:H id=⟨ver,true,lz,ty,sz,l.map f⟩) (hz:z.length=sz) (hz0:z.length≠0) (hone:z.all V.one=true)
    (hm:m < l.length) (hn:m+n=l.length)
    (h:Ops P k0 r T (upd H id ⟨ver,true,lz,ty,sz,(l.take m).map f++List.replicate n z⟩) K):Ops P k0 (⟨none,none,.clr z a⟩::r) T H K:=by
  simp only [Ops,St]
  refine vR (x:=upd H id ⟨ver,true,lz,ty,sz,(l.take m).map f++List.replicate n z⟩) ?_ h
  rw [ha]
  simp only [aHj,hH]
  rw [if_pos (by simp),if_neg (by omega),if_pos ⟨hz,hz0⟩,if_pos hone,if_pos (by simp; omega)]
  rw [hn,List.drop_eq_nil_of_le (by simp),List.append_nil,List.map_take]
theorem xJ: ∀ (vs p r:List V),r.length=vs.length→eM (p++r) p.length vs=p++vs
  | [], p, r, h => by cases r with
    |nil=>rfl
    |cons a r=>simp at h
  | v :: vs, p, r, h => by
    cases r with
    |nil=>simp at h
    | cons a r =>
      have e:(p++a::r).set p.length v=(p++[v])++r:=by simp
      rw [eM,e,show p.length+1=(p++[v]).length by simp,xJ vs (p++[v]) r (by simpa using h)]
      simp
theorem aFm {α:Type} [Inhabited α] {n ver ty sz i:Nat} {lz:Bool} {f:α→List V} {l:List α} {vs:List V} {x:α} (h:i < l.length) (hv:vs=f x) (hn:vs.length=n) (hs:(f (nth l i)).length=n) (ho:vs.all V.one=true):
    stB ⟨ver,true,lz,ty,sz,l.map f⟩ ver i 0 n vs=some ⟨ver,true,lz,ty,sz,(l.set i x).map f⟩:=by
  subst hv
  unfold stB
  rw [if_pos (gK (by omega)),if_pos hn,if_pos ho]
  simp only [List.getElem?_map,yB h,Option.map_some]
  rw [if_pos (by omega)]
  have:=xJ (f x) [] (f (nth l i)) (by omega)
  simp only [List.nil_append,List.length_nil] at this
  rw [this,List.map_set]
theorem aJ6 {n:Int} (h0:0≤n) (h:n < 18446744073709551616):IntKind.u64.wrap n=n:=by
  simp [IntKind.wrap,IntKind.bits,IntKind.signed]
  omega
theorem aFi {kd:IntKind} {n:Nat} (ha:ev T a=.int kd (n:Nat)) (hn:n < 9223372036854775808) (h:Ops P k0 r (upd T d (.int .u64 (n:Nat))) H K):Ops P k0 (⟨none,some d,.conv .u64 a⟩::r) T H K:=by
  refine stp (v:=.int .u64 (n:Nat)) (fun _=>rfl) ?_ h
  rw [ha]; simp only [xE,aJ6 (Int.natCast_nonneg n) (by omega)]
theorem aLJ {kd:IntKind} {n:Nat} (ha:ev T a=.int kd (n:Nat)) (hn:n < 9223372036854775808) (h:Ops P k0 r (upd T d (iV (n:Nat))) H K):Ops P k0 (⟨none,some d,.conv .i64 a⟩::r) T H K:=by
  refine stp (v:=iV (n:Nat)) (fun _=>rfl) ?_ h
  rw [ha]; simp only [xE]; rw [aBs (by omega) (by omega)]
theorem aPJ {n:Nat} (ha:ev T a=.int .u64 (n:Nat)) (hb:ev T b=.int .u64 1) (h:Ops P k0 r (upd T d (.int .u64 ((n / 2:Nat):Int))) H K):Ops P k0 (⟨none,some d,.bin .shr a b⟩::r) T H K:=by
  refine rY ha hb ?_ h
  simp only [gT,if_true]
  rw [if_neg (by decide)]
  congr 2
  show ((n:Nat):Int).fdiv 2=_
  rw [Int.fdiv_eq_ediv_of_nonneg _ (by decide)]
  omega
theorem oH {e id ver len i:Nat} {B:Blk} {k:IntKind} (ha:ev T a=.ms id ver 0 len) (hb:ev T b=.int k (i:Nat)) (hH:H id=B) (hok:okB B ver=true) (hs:B.sz=e) (hi:i < len)
    (h:Ops P k0 r (upd T d (.mp id ver i 0)) H K):Ops P k0 (⟨none,some d,.idx e a b⟩::r) T H K:=
  xO ha hb hH hok hs hi (by rw [Nat.zero_add]; exact h)
theorem xW {e id ver len:Nat} {i:Int} {B:Blk} {k:IntKind} (ha:ev T a=.ms id ver 0 len) (hb:ev T b=.int k i) (hH:H id=B) (hok:okB B ver=true) (hs:B.sz=e) (h0:0≤i) (hi:i < len)
    (h:Ops P k0 r (upd T d (.mp id ver i.toNat 0)) H K):Ops P k0 (⟨none,some d,.idx e a b⟩::r) T H K:=
  aAd ha hb hH hok hs h0 hi (by rw [Nat.zero_add]; exact h)
theorem aNS {α:Type} {ty e bytes i n:Nat} {z:List V} {f:α→List V} {x:α} {m q:Nat} (hi:k0+d=i) (hv:(H i).ver=n) (ha:ev T a=iV (m:Nat)) (hb:ev T b=iV (q:Nat)) (hz:z=f x) (h1:m≤q) (h2:q*bytes≤281474976710656) (h3:q≤9223372036854775807)
    (h:Ops P k0 r (upd T d (.ms i (n+1) 0 m)) (upd H i ⟨n+1,true,false,ty,e,(List.replicate m x).map f⟩) K):Ops P k0 (⟨none,some d,.mks ty e bytes z a b⟩::r) T H K:=
  aNk hi hv ha hb h1 h2 h3 (by rw [List.map_replicate,← hz] at h; exact h)
theorem iZ {id n:Nat} (h:(H id).ver=n):(jK id H id).ver=n∧(jK id H id).live=false:=by subst h; simp [jK]
theorem sS {id j n:Nat} (h:(H j).ver=n∧(H j).live=false):(jK id H j).ver=n∧(jK id H j).live=false:=by
  by_cases e:j=id
  · subst e; exact iZ h.1
  · simp only [jK,aV _ _ e]; exact h
theorem aEr {α:Type} {n id ver len:Nat} {B:Blk} {f:α→List V} {l:List α} (hH:H id=B) (hok:(B.live&&decide (B.ver=ver))=true) (hr:B.rows.take len=l.map f) (hc: ∀ a,cD (f a)=true):
    fzv true H (n+1) (.ms id ver 0 len)=.sl (l.map f):=by
  subst hH
  simp only [fzv]
  rw [if_pos hok,List.drop_zero,hr]
  congr 1
  rw [List.map_map]
  refine List.map_congr_left fun a _=>cC n _ (hc a)
theorem xB {α:Type} {len:Nat} {f:α→List V} {l:List α} (h:len=l.length):(l.map f).take len=l.map f:=by
  subst h; rw [show l.length=(l.map f).length by simp,List.take_length]
theorem aIu {α:Type} {len:Nat} {f:α→List V} {l:List α} {r:List (List V)} (h:len=l.length):(l.map f++r).take len=l.map f:=by
  subst h; rw [show l.length=(l.map f).length by simp,List.take_left]
end
theorem aK2 {α:Type} {ver ty sz m:Nat} {lz:Bool} {f:α→List V} {l:List α} {z:List V} (h:0 < l.length):okB ⟨ver,true,lz,ty,sz,l.map f++List.replicate m z⟩ ver=true:=by
  cases l with
  |nil=>simp at h
  |cons a l=>simp [okB,Blk.own]
theorem aKA {H:aI} {α:Type} {n id ver len:Nat} {B:Blk} {f:α→List V} {l m:List α} (hH:H id=B) (hok:(B.live&&decide (B.ver=ver))=true) (hr:B.rows.take len=l.map f) (hc: ∀ a,cD (f a)=true) (h:l=m):
    fzv true H (n+1) (.ms id ver 0 len)=.sl (m.map f):=by
  subst h; exact aEr hH hok hr hc
theorem aG2 {H:aI} {id id2 ver v2 ty ty2 i off len sz sz2:Nat} {lz lz2:Bool} {β:Type} {rows:List (List V)} {r:List V} {m:List β} {g:β→List V} (hne:id2≠id) (h1:H id=⟨ver,true,lz,ty,sz,m.map g⟩) (h2:H id2=⟨v2,true,lz2,ty2,sz2,rows.set i r⟩)
    (hi:i < rows.length) (hl:len=m.length) (hc:r[off]?=some (.ms id ver 0 len)) {K:(Nat→V)→aI→Prop} {T:Nat→V} (h:G K (fzT id H T) (upd (jK id H) id2 ⟨v2,true,lz2,ty2,sz2,rows.set i (r.set off (.sl (m.map g)))⟩)):G K T H:=by
  subst hl
  have hr:(H id2).rows[i]?=some r:=by rw [h2]; simp [hi]
  refine .frzCell id ver m.length id2 i off r hne (by rw [h1]) (by rw [h1]) (by rw [h2]; cases rows with
    |nil=>simp at hi
    |cons a l=>cases i <;> simp [Blk.own]) hr hc ?_
  have e:({H id2 with rows:=(H id2).rows.set i (r.set off (.sl ((H id).rows.take m.length)))}:Blk)=⟨v2,true,lz2,ty2,sz2,rows.set i (r.set off (.sl (m.map g)))⟩:=by
    rw [h2,h1]
    simp only [Blk.mk.injEq,true_and,List.set_set]
    rw [show m.length=(m.map g).length by simp,List.take_length]
  rw [e]; exact h
end Go.Proofs.YteehaobohaecmaaGreatDoor
namespace Go.Proofs.YteehaobohaecmaaGreatDoor
open Go
abbrev sO (d:Nat) (x:X):SO:=⟨none,some d,x⟩
abbrev qM (d a:Nat):SO:=sO d (.mv (.t a))
abbrev qI (d:Nat) (n:Int):SO:=sO d (.mv (.c (.int .i64 n)))
abbrev qF (d n a:Nat):SO:=sO d (.fld n (.t a))
abbrev qL (d n a:Nat):SO:=sO d (.load true n (.t a))
abbrev ql (d a:Nat):SO:=sO d (.load false 1 (.t a))
abbrev qE (d a i:Nat):SO:=sO d (.ext (.t a) i)
abbrev qA (d e a i:Nat):SO:=sO d (.idx e (.t a) (.t i))
abbrev qN (d a:Nat):SO:=sO d (.len (.t a))
abbrev qP (d:Nat) (b:BinOp) (x y:Nat):SO:=sO d (.bin b (.t x) (.t y))
abbrev qC (d:Nat) (b:BinOp) (x:Nat) (n:Int):SO:=sO d (.bin b (.t x) (.c (.int .i64 n)))
abbrev sN (x:X):SO:=⟨none,none,x⟩
abbrev bk (v:Nat) (ty sz:Nat) (rows:List (List V)):Blk:=⟨v,true,false,ty,sz,rows⟩
abbrev bz (v:Nat) (ty sz:Nat) (rows:List (List V)):Blk:=⟨v,true,true,ty,sz,rows⟩
section
variable {P:Program} {k0 d:Nat} {r:List SO} {T:Nat→V} {H:aI} {K:(Nat→V)→aI→Prop} {a b:SX} {v:V}
theorem aJ {f:Nat} {args:List SX} {as0:List V} (hc:aP P f as0 v) (he:evs T args=as0) (h:Ops P k0 r (upd T d v) H K)
    (h1:cD as0=true:=by simp [-List.map_take,-List.map_drop,-List.map_append,-List.map_reverse]) (h2:cY as0=true:=by simp [-List.map_take,-List.map_drop,-List.map_append,-List.map_reverse]):
    Ops P k0 (⟨none,some d,.call false f args⟩::r) T H K:=iR he hc (cC _ _ h1) h2 (.inl h2) h
end
def nz:V→V
  | .nilsl=>.sl []
  |v=>v
theorem aQZ {x:Cx} {v:V} {c:Value} (r:R x v c):R x (nz v) c:=by
  cases v <;> first|exact r|(generalize hq:V.nilsl=q at r; cases r <;> cases hq; exact .slnil)
theorem aOa {K : (Nat → V) → aI → Prop} {T : Nat → V} {id i : Nat} {r : List V} : ∀ (j : Nat) {H : aI} {pre suf : List V}, r = pre ++ suf → suf.length = j → (H id).own = true → (H id).rows[i]? = some (pre.map nz ++ suf) →
    G K T (upd H id {H id with rows:=(H id).rows.set i (r.map nz)})→G K T H:=by
  intro j
  induction j with
  | zero =>
    intro H pre suf he hl ho hr h
    have:=List.length_eq_zero_iff.1 hl
    subst this
    have e:({H id with rows:=(H id).rows.set i (r.map nz)}:Blk)=H id:=by
      rw [he,List.append_nil]
      rw [List.append_nil] at hr
      have:(H id).rows.set i (pre.map nz)=(H id).rows:=by
        have hi:=(List.getElem?_eq_some_iff.1 hr).1
        have:=(List.getElem?_eq_some_iff.1 hr).2
        rw [← this,List.set_getElem_self]
      rw [this]
    rw [e] at h
    have e2:upd H id (H id)=H:=funext fun k=>by unfold upd; split <;> simp_all
    rw [e2] at h; exact h
  | succ j ih =>
    intro H pre suf he hl ho hr h
    cases suf with
    |nil=>simp at hl
    | cons v s =>
      refine .cell id i pre.length v (nz v) (pre.map nz++v::s) ho hr (by simp) (fun x c r=>aQZ r) ?_
      have hi:=(List.getElem?_eq_some_iff.1 hr).1
      have e1:(pre.map nz++v::s).set pre.length (nz v)=(pre++[v]).map nz++s:=by
        rw [List.set_append_right _ _ (by simp)]
        simp
      have ho2:({H id with rows:=(H id).rows.set i ((pre.map nz++v::s).set pre.length (nz v))}:Blk).own=true:=by
        unfold Blk.own at ho ⊢
        cases hq:(H id).rows with
        |nil=>rw [hq] at hi; simp at hi
        |cons a l=>rw [hq] at ho; cases i <;> simpa using ho
      refine ih (H:=upd H id {H id with rows:=(H id).rows.set i ((pre.map nz++v::s).set pre.length (nz v))}) (pre:=pre++[v]) (suf:=s) (by rw [he]; simp) (by simpa using hl) (by rw [aG]; exact ho2) (by rw [aG,e1]; simp [hi]) ?_
      rw [aG]
      have e3:upd (upd H id {H id with rows:=(H id).rows.set i ((pre.map nz++v::s).set pre.length (nz v))}) id {H id with rows:=((H id).rows.set i ((pre.map nz++v::s).set pre.length (nz v))).set i (r.map nz)}=upd H id {H id with rows:=(H id).rows.set i (r.map nz)}:=by
        funext k
        by_cases e:k=id
        · subst e; simp only [aG,List.set_set]
        · simp only [aV _ _ e]
      rw [e3]; exact h
theorem aOY {ver ty sz:Nat} {lz:Bool} {rows:List (List V)} (h:rows≠[]):(⟨ver,true,lz,ty,sz,rows⟩:Blk).own=true:=by
  cases rows with
  |nil=>exact (h rfl).elim
  |cons a l=>simp [Blk.own]
theorem aK7 {K:(Nat→V)→aI→Prop} {T:Nat→V} {H:aI} {id i ver ty sz:Nat} {lz:Bool} {rows:List (List V)} {r r':List V} (hH:H id=⟨ver,true,lz,ty,sz,rows.set i r⟩) (hi:i < rows.length) (hr:r.map nz=r')
    (h:G K T (upd H id ⟨ver,true,lz,ty,sz,rows.set i r'⟩)):G K T H:=by
  refine aOa (id:=id) (i:=i) (r:=r) r.length (pre:=[]) (suf:=r) rfl rfl ?_ ?_ ?_
  · rw [hH]
    refine aOY fun e=>?_
    have:=congrArg List.length e
    simp at this; subst this; simp at hi
  · rw [hH]; simp [hi]
  · rw [hH]; simp only [List.set_set]; rw [hr]; exact h
end Go.Proofs.YteehaobohaecmaaGreatDoor
namespace Go.Proofs.YteehaobohaecmaaGreatDoor
open Go
section
variable {P:Program} {k0:Nat} {Q:Ex→(Nat→V)→aI→Prop} {T:Nat→V} {H:aI}
theorem W_r {ops:List SO} {b:SC} (h:Ops P k0 ops T H fun T H=>W P k0 b Q T H):W P k0 (.seq (.reg ops) b) Q T H:=
  ⟨k0,nE (fun _ _ h=>.done h) h⟩
theorem W_t {ops:List SO} (h:Ops P k0 ops T H fun T H=>Q .norm T H):W P k0 (.reg ops) Q T H:=⟨k0,h⟩
theorem W_d {ops:List SO} {b:SC} {mW:List Nat} (hl: ∀ d∈mW,(H (k0+d)).live=false) (h:Ops P k0 ops T H fun T H=>W P k0 b Q T H):W P k0 (.seq (.dreg mW ops) b) Q T H:=
  ⟨k0,hl,nE (fun _ _ h=>.done h) h⟩
end
theorem xX {H:aI} {k0:Nat}: ∀ d∈([]:List Nat),(H (k0+d)).live=false:=fun _ h=>by simp at h
theorem yQ {H:aI} {k0 d:Nat} {l:List Nat} (h:(H (k0+d)).live=false) (hl: ∀ d∈l,(H (k0+d)).live=false): ∀ x∈d::l,(H (k0+x)).live=false:=by
  intro x hx
  rcases List.mem_cons.1 hx with rfl|hx
  · exact h
  · exact hl _ hx
theorem oB {ver ty sz:Nat} {rows:List (List V)}:okB ⟨ver,true,false,ty,sz,rows⟩ ver=true:=by simp [okB,Blk.own]
theorem lB {agg:Bool} {n ver row off:Nat} {B:Blk} {r:List V} {v:V} (ho:okB B ver=true) (hr:B.rows[row]?=some r) (hv:ldV agg n (r.drop off)=some v):ldB agg n B ver row off=some v:=by
  unfold ldB; rw [if_pos (show (B.own&&decide (B.ver=ver))=true from ho),hr]; exact hv
theorem sB {n ver row off:Nat} {B B':Blk} {r vs:List V} (ho:okB B ver=true) (hn:vs.length=n) (ha:vs.all V.one=true) (hr:B.rows[row]?=some r) (hl:Nat.ble (off+n) r.length=true) (hB:{B with rows:=B.rows.set row (eM r off vs)}=B'):stB B ver row off n vs=some B':=by
  unfold stB; rw [if_pos ho,if_pos hn,if_pos ha,hr]; dsimp only; rw [if_pos (Nat.le_of_ble_eq_true hl),hB]
section
variable {P:Program} {k0 d:Nat} {r:List SO} {T:Nat→V} {H:aI} {K:(Nat→V)→aI→Prop} {a b:SX} {v:V}
theorem aL {agg:Bool} {n id ver row off ty sz:Nat} {rows:List (List V)} {rw:List V} (ha:ev T a=.mp id ver row off) (hH:H id=⟨ver,true,false,ty,sz,rows⟩) (hr:rows[row]?=some rw) (hv:ldV agg n (rw.drop off)=some v) (h:Ops P k0 r (upd T d v) H K):
    Ops P k0 (⟨none,some d,.load agg n a⟩::r) T H K:=iD ha hH (lB oB hr hv) h
theorem aU {off id ver row o ty sz:Nat} {rows:List (List V)} (ha:ev T a=.mp id ver row o) (hH:H id=⟨ver,true,false,ty,sz,rows⟩) (h:Ops P k0 r (upd T d (.mp id ver row (o+off))) H K):Ops P k0 (⟨none,some d,.fld off a⟩::r) T H K:=
  aH5 ha hH oB rfl h
theorem bP {n id ver row off ty sz:Nat} {rows:List (List V)} {B':Blk} {rw vs:List V} (ha:ev T a=.mp id ver row off) (hb:ev T b=v) (hc:v.cells=vs) (hH:H id=⟨ver,true,false,ty,sz,rows⟩) (hn:vs.length=n) (hl:vs.all V.one=true) (hr:rows[row]?=some rw)
    (hm:Nat.ble (off+n) rw.length=true) (hB:(⟨ver,true,false,ty,sz,rows.set row (eM rw off vs)⟩:Blk)=B') (h:Ops P k0 r T (upd H id B') K):Ops P k0 (⟨none,none,.store n a b⟩::r) T H K:=
  aAZ ha hb hc hH (sB oB hn hl hr hm hB) h
end
theorem R_e {P:Program} {k0:Nat} {T:Nat→V} {H:aI} {K:(Nat→V)→aI→Prop} (h:K T H):Ops P k0 [] T H K:=h
end Go.Proofs.YteehaobohaecmaaGreatDoor
namespace Go.Proofs.YteehaobohaecmaaGreatDoor
open Go
theorem pW {P:Program} {op:Opt} {f:Nat} {fn:Func} {s:SF} {args:List V} {v:V} {B:Prop} (hf:P.funcs[f]?=some fn) (hs:bF P op fn=some s)
    (hW : B → W P 0 s.body (Ret s.res fun u G => fzv true G 6 u = v) (T0 args) H0) (hn : (fn.name == "runtime.NumGoroutine") = false := by kernel_rfl)
    (hl:Nat.ble args.length s.n=true:=by rfl) (ha:cY args=true:=by simp) (hv:v.pure=true:=by simp)
    (hb:iP args=true→B:=by intro hB; first|(simp only [kA,jZ,iK,jT,jV,mI,jX,iN,implies_true,and_true,true_and] at hB; exact hB)|exact (fun _=>trivial) hB):aP P f args v:=
  gS true 6 hf hs hn (Nat.le_of_ble_eq_true hl) ha hv fun h=>hW (hb h)
theorem eW {P:Program} {op:Opt} {k0 f:Nat} {fn:Func} {s:SF} {args:List V} {H:aI} {v:V} {H':aI} {B:Prop} (hf:P.funcs[f]?=some fn) (hs:bF P op fn=some s)
    (hW : B → W P k0 s.body (Ret s.res fun u G => qO G H' ∧ cV G H' u v) (T0 args) H) (hn : (fn.name == "runtime.NumGoroutine") = false := by kernel_rfl)
    (hl:Nat.ble args.length s.n=true:=by rfl)
    (hb:iP args=true→B:=by intro hB; first|(simp only [kA,jZ,iK,jT,jV,mI,jX,iN,implies_true,and_true,true_and] at hB; exact hB)|exact (fun _=>trivial) hB):dW P f args H v H':=
  aBk hf hs hn (Nat.le_of_ble_eq_true hl) fun h=>hW (hb h)
theorem edT {x:V} {p:Prop} [Decidable p] (h:p) (hx:x=V.bool (decide p)):x=V.bool true:=by rw [hx]; simp [h]
theorem edF {x:V} {p:Prop} [Decidable p] (h: ¬p) (hx:x=V.bool (decide p)):x=V.bool false:=by rw [hx]; simp [h]
theorem ebT {x:V} {b:Bool} (h:b=true) (hx:x=V.bool b):x=V.bool true:=by rw [hx,h]
theorem ebF {x:V} {b:Bool} (h: ¬b=true) (hx:x=V.bool b):x=V.bool false:=by rw [hx,Bool.eq_false_iff.2 h]
theorem G_n {P:Program} {k0 d t:Nat} {r:List SO} {T:Nat→V} {H:aI} {K:(Nat→V)→aI→Prop} {w:Bool} {q:X} (ht:T t=.bool (!w)) (h:Ops P k0 r (upd T d (.raw undef)) H K):
    Ops P k0 (⟨some (t,w),some d,q⟩::r) T H K:=aSc ht (by cases w <;> decide) h
section
variable {P:Program} {k0 d:Nat} {r:List SO} {T:Nat→V} {H:aI} {K:(Nat→V)→aI→Prop} {a b:SX} {x y x' y':Int}
end
section
variable {P:Program} {k0 d:Nat} {r:List SO} {T:Nat→V} {H:aI} {K:(Nat→V)→aI→Prop} {a b:SX} {u w v:V}
end
section
variable {P:Program} {k0:Nat} {Q:Ex→(Nat→V)→aI→Prop} {T:Nat→V} {H:aI}
end
end Go.Proofs.YteehaobohaecmaaGreatDoor
namespace Go.Proofs.YteehaobohaecmaaGreatDoor
open Go
def aAL (ρ:Nat→Nat):V→V
  | .mp id ver r o=>.mp (ρ id) ver r o
  | .ms id ver o l=>.ms (ρ id) ver o l
  |v=>v
def ren (ρ:Nat→Nat):V→V
  | .fn f a b=>.fn f (a.map (aAL ρ)) (b.map (aAL ρ))
  |v=>aAL ρ v
def nA (n:Nat):V→Bool
  | .mp id _ _ _=>decide (id < n)
  | .ms id _ _ _=>decide (id < n)
  |v=>v.pure
def loc (n:Nat):V→Bool
  | .fn _ a b=>a.all (nA n)&&b.all (nA n)
  |v=>nA n v
def jG (ρ:Nat→Nat) (b:Blk):Blk:={b with rows:=b.rows.map fun r=>r.map (aAL ρ)}
def pX (n:Nat) (b:Blk):Bool:=b.rows.all fun r=>r.all (nA n)
theorem lQ {ρ:Nat→Nat} {b:Blk}:(jG ρ b).isM=b.isM:=rfl
theorem aCB {ρ:Nat→Nat} {b:Blk} {cc:Array Value}:(jG ρ b).obj cc=b.obj cc:=by unfold Blk.obj; rw [lQ]; simp [jG]
theorem dN {ρ:Nat→Nat} {b:Blk}:(jG ρ b).own=b.own:=by simp [jG,Blk.own]
structure View (n:Nat) (ρ:Nat→Nat) (x z:Cx):Prop where
  w:z.w=x.w
  Z: ∀ b,x.Z b→z.Z b
  H: ∀ i,i < n→z.H (ρ i)=jG ρ (x.H i)
  σ: ∀ i,i < n→z.σ (ρ i)=x.σ i
theorem aOs {n:Nat} {ρ:Nat→Nat} {x z:Cx} (hv:View n ρ x z) {v:V} {c:Value} (hl:nA n v=true) (h:R x v c):R z (aAL ρ v) c:=by
  cases v with
  | mp id ver row off =>
    simp only [nA,decide_eq_true_eq] at hl
    cases h with
    |mp _ _ _ _ p hver hh hm=>
    refine .mp _ _ _ _ _ (by rw [hv.H id hl]; exact hver) (fun e ho=>?_) fun e ho=>by
      rw [hv.H id hl] at e ho ⊢
      rw [dN] at ho
      rw [lQ]; exact hm e ho
    rw [hv.H id hl] at e ho
    rw [dN] at ho
    rw [hh e ho,hv.σ id hl,hv.H id hl]; rfl
  | ms id ver off len =>
    simp only [nA,decide_eq_true_eq] at hl
    cases h with
    |ms _ _ _ _ b m cap hver hh hm=>
    refine .ms _ _ _ _ _ _ _ (by rw [hv.H id hl]; exact hver) (fun e ho=>?_) fun e ho=>by
      rw [hv.H id hl] at e ho ⊢
      rw [lQ]; exact hm e ho
    rw [hv.H id hl] at e ho
    obtain ⟨e1,e2,e3,e4,e5,e6⟩:=hh e ho
    refine ⟨e1,e2,e3,by rw [hv.H id hl]; simpa [jG] using e4,fun q=>?_,fun q=>?_⟩
    · rw [hv.H id hl,dN] at q
      rw [hv.σ id hl,hv.H id hl,hv.w]
      exact e5 q
    · rw [hv.H id hl,dN] at q
      exact e6 q
  |_=>exact h.pure_at hl hv.w hv.Z
theorem vQ {n:Nat} {ρ:Nat→Nat} {x z:Cx} (hv:View n ρ x z) (hZ: ∀ b,z.Z b→x.Z b) {v:V} {c:Value} (hl:nA n v=true) (h:R z (aAL ρ v) c):R x v c:=by
  cases v with
  | mp id ver row off =>
    simp only [nA,decide_eq_true_eq] at hl
    cases h with
    |mp _ _ _ _ p hver hh hm=>
    rw [hv.H id hl] at hver hh hm
    refine .mp _ _ _ _ _ hver (fun e ho=>?_) fun e ho=>hm e (by rw [dN]; exact ho)
    rw [hh e (by rw [dN]; exact ho),hv.σ id hl]; rfl
  | ms id ver off len =>
    simp only [nA,decide_eq_true_eq] at hl
    cases h with
    |ms _ _ _ _ b m cap hver hh hm=>
    rw [hv.H id hl] at hver hh hm
    refine .ms _ _ _ _ _ _ _ hver (fun e ho=>?_) fun e ho=>hm e ho
    obtain ⟨e1,e2,e3,e4,e5,e6⟩:=hh e ho
    refine ⟨e1,e2,e3,by simpa [jG] using e4,fun q=>?_,fun q=>?_⟩
    · have:=e5 (by rw [dN]; exact q)
      rw [hv.σ id hl,hv.w] at this
      exact this
    · exact e6 (by rw [dN]; exact q)
  |_=>exact R.pure_at h hl hv.w.symm hZ
theorem aPe {n:Nat} {ρ:Nat→Nat} {x z:Cx} (hv:View n ρ x z) (hZ: ∀ b,z.Z b→x.Z b) {v:V} {c:Value} (hl:loc n v=true) (h:R z (ren ρ v) c):R x v c:=by
  cases v with
  | fn f a b =>
    simp only [loc,Bool.and_eq_true,List.all_eq_true] at hl
    cases h with
    |fn _ _ _ fs cs h1 h2 h3 h4=>
    refine .fn f a b fs cs (by simpa using h1) (by simpa using h2) (fun j v hj=>?_) (fun j v hj=>?_)
    · exact vQ hv hZ (hl.1 v (List.mem_of_getElem? hj)) (h3 j _ (by rw [List.getElem?_map,hj]; rfl))
    · exact vQ hv hZ (hl.2 v (List.mem_of_getElem? hj)) (h4 j _ (by rw [List.getElem?_map,hj]; rfl))
  |_=>exact vQ hv hZ hl h
def tV (ρ:Nat→Nat) (HL:aI) (H:aI):Nat→aI
  |0=>H
  |n+1=>upd (tV ρ HL H n) (ρ n) (jG ρ (HL n))
def aBX (ρ:Nat→Nat) (s σ:Nat→Nat):Nat→Nat→Nat
  |0=>σ
  |n+1=>upd (aBX ρ s σ n) (ρ n) (s n)
theorem aFT {ρ:Nat→Nat} {HL H:aI}: ∀ {n:Nat},(∀ i j,i < n→j < n→ρ i=ρ j→i=j)→ ∀ i,i < n→tV ρ HL H n (ρ i)=jG ρ (HL i)
  |0,_,i,h=>absurd h (Nat.not_lt_zero i)
  | n + 1, hi, i, h => by
    simp only [tV]
    by_cases e:i=n
    · subst e; rw [aG]
    · rw [aV _ _ (fun q=>e (hi i n h (Nat.lt_succ_self n) q))]
      exact aFT (fun i j h1 h2=>hi i j (by omega) (by omega)) i (by omega)
theorem aAM {ρ:Nat→Nat} {HL H:aI}: ∀ {n j:Nat},(∀ i,i < n→ρ i≠j)→tV ρ HL H n j=H j
  |0,_,_=>rfl
  | n + 1, j, h => by
    simp only [tV]
    rw [aV _ _ (Ne.symm (h n (Nat.lt_succ_self n)))]
    exact aAM fun i hi=>h i (by omega)
theorem aEB {ρ s σ:Nat→Nat}: ∀ {n:Nat},(∀ i j,i < n→j < n→ρ i=ρ j→i=j)→ ∀ i,i < n→aBX ρ s σ n (ρ i)=s i
  |0,_,i,h=>absurd h (Nat.not_lt_zero i)
  | n + 1, hi, i, h => by
    simp only [aBX]
    by_cases e:i=n
    · subst e; rw [aG]
    · rw [aV _ _ (fun q=>e (hi i n h (Nat.lt_succ_self n) q))]
      exact aEB (fun i j h1 h2=>hi i j (by omega) (by omega)) i (by omega)
theorem aFN {ρ s σ:Nat→Nat}: ∀ {n j:Nat},(∀ i,i < n→ρ i≠j)→aBX ρ s σ n j=σ j
  |0,_,_=>rfl
  | n + 1, j, h => by
    simp only [aBX]
    rw [aV _ _ (Ne.symm (h n (Nat.lt_succ_self n)))]
    exact aFN fun i hi=>h i (by omega)
section
variable {n:Nat} {ρ:Nat→Nat} {Hl:aI} {x:Cx}
def nI (x:Cx) (ρ:Nat→Nat) (Hl:aI):Cx:={w:=x.w,Z:=x.Z,σ:=fun i=>x.σ (ρ i),H:=Hl}
theorem uV (hH: ∀ i,i < n→x.H (ρ i)=jG ρ (Hl i)):View n ρ (nI x ρ Hl) x:=⟨rfl,fun _ h=>h,hH,fun _ _=>rfl⟩
theorem aGT (hx:Inv x) (hρ: ∀ i j,i < n→j < n→ρ i=ρ j→i=j) (hH: ∀ i,i < n→x.H (ρ i)=jG ρ (Hl i)) (hloc: ∀ i,i < n→pX n (Hl i)=true) (hd: ∀ i,n≤i→(Hl i).own=false):Inv (nI x ρ Hl):=by
  have lt: ∀ i,(Hl i).own=true→i < n:=fun i h=>by
    rcases Nat.lt_or_ge i n with q|q
    · exact q
    · rw [hd i q] at h; cases h
  have ow: ∀ i,(Hl i).own=true→(x.H (ρ i)).own=true:=fun i h=>by rw [hH i (lt i h),dN]; exact h
  refine ⟨hx.zlt,fun b id hb ho=>hx.zown b (ρ id) hb (ow id ho),fun id ho=>?_,fun i j hi hj he=>hρ i j (lt i hi) (lt j hj) (hx.inj _ _ (ow i hi) (ow j hj) he),hx.tab⟩
  obtain ⟨cc,h1,h2,h3,h4⟩:=hx.blk (ρ id) (ow id ho)
  have e:=hH id (lt id ho)
  rw [e] at h1 h2 h3 h4
  rw [aCB] at h1
  refine ⟨cc,h1,fun r hr=>?_,by simpa [jG,nI] using h3,fun r row j v hr hj=>?_⟩
  · have:=h2 (r.map (aAL ρ)) (by simp only [jG]; exact List.mem_map_of_mem hr)
    simpa [jG,nI] using this
  · have h5:=h4 r (row.map (aAL ρ)) j (aAL ρ v) (by simp only [jG]; rw [List.getElem?_map,show (Hl id).rows[r]?=some row from hr]; rfl) (by rw [List.getElem?_map,hj]; rfl)
    refine vQ (uV hH) (fun _ h=>h) ?_ h5
    have:=hloc id (lt id ho)
    simp only [pX,List.all_eq_true] at this
    exact this row (List.mem_of_getElem? hr) v (List.mem_of_getElem? hj)
theorem aNd (hx : Inv x) (hρ : ∀ i j, i < n → j < n → ρ i = ρ j → i = j) (hH : ∀ i, i < n → x.H (ρ i) = jG ρ (Hl i)) (hd : ∀ i, n ≤ i → (Hl i).own = false) {y : Cx} (hf : Frame (nI x ρ Hl) y) (hy : Inv y)
    (hloc: ∀ i,i < n→(y.H i).own=true→pX n (y.H i)=true) (_hyd: ∀ i,n≤i→(y.H i).own=false):
    let z:Cx:={w:=y.w,Z:=y.Z,σ:=aBX ρ y.σ x.σ n,H:=tV ρ y.H x.H n}
    Inv z∧Frame x z∧View n ρ y z:=by
  intro z
  have hv:View n ρ y z:=⟨rfl,fun _ h=>h,fun i hi=>aFT hρ i hi,fun i hi=>aEB hρ i hi⟩
  have cas: ∀ j,(∃ i,i < n∧ρ i=j)∨((∀ i,i < n→ρ i≠j)∧z.H j=x.H j∧z.σ j=x.σ j):=fun j=>by
    by_cases h: ∃ i,i < n∧ρ i=j
    · exact .inl h
    · have h': ∀ i,i < n→ρ i≠j:=fun i hi e=>h ⟨i,hi,e⟩
      exact .inr ⟨h',aAM h',aFN h'⟩
  have lt: ∀ i,(Hl i).own=true→i < n:=fun i h=>by
    rcases Nat.lt_or_ge i n with q|q
    · exact q
    · rw [hd i q] at h; cases h
  have ow: ∀ i,(Hl i).own=true→(x.H (ρ i)).own=true:=fun i h=>by rw [hH i (lt i h),dN]; exact h
  have hkeep: ∀ b,b < x.w.heap.size→(∀ i,(Hl i).own=true→x.σ (ρ i)≠b)→y.w.heap[b]?=x.w.heap[b]?:=fun b hb h=>hf.keep b hb h
  have hko: ∀ j,(x.H j).own=true→(∀ i,i < n→ρ i≠j)→y.w.heap[x.σ j]?=x.w.heap[x.σ j]?:=fun j ho hj=>hkeep _ (hx.lt ho) fun i hi e=>hj i (lt i hi) (hx.inj _ _ (ow i hi) ho e)
  have hF:Frame x z:=by
    refine ⟨hf.os,hf.tape,hf.output,hf.size,fun b hb h=>hkeep b hb fun i hi=>h _ (ow i hi),fun b hb=>hf.zone b hb,fun b hb=>?_,fun j=>?_,fun j ho=>?_,hf.drawn,fun j hl hve=>?_⟩
    · rcases hf.zold b hb with h|h|⟨i,h1,h2⟩
      · exact .inl h
      · exact .inr (.inl h)
      · exact .inr (.inr ⟨ρ i,ow i h1,h2⟩)
    · rcases cas j with ⟨i,hi,rfl⟩|⟨h1,h2,h3⟩
      · rw [hv.H i hi,hH i hi]
        obtain ⟨g1,g2⟩:=hf.ids i
        refine ⟨g1,fun hl hve=>?_⟩
        obtain ⟨a1,a2,a3,a4,a5⟩:=g2 hl hve
        refine ⟨a1,by rw [dN,dN]; exact a2,a3,fun q=>by simpa [jG,nI] using a4 (by rw [lQ] at q; exact q),fun ho=>?_⟩
        rw [dN] at ho
        rw [hv.σ i hi]
        exact a5 ho
      · rw [h2,h3]
        exact ⟨Nat.le_refl _,fun hl _=>⟨hl,rfl,rfl,fun _=>rfl,fun ho=>⟨rfl,by unfold dB; rw [show z.w.heap[x.σ j]?=x.w.heap[x.σ j]? from hko j ho h1]⟩⟩⟩
    · rcases cas j with ⟨i,hi,rfl⟩|⟨h1,h2,h3⟩
      · rw [hv.H i hi,dN] at ho
        rw [hv.σ i hi]
        rcases hf.fresh i ho with ⟨g1,g2⟩|g1
        · exact .inl ⟨ow i g1,g2⟩
        · exact .inr g1
      · rw [h2] at ho
        rw [h3]; exact .inl ⟨ho,rfl⟩
    · rcases cas j with ⟨i,hi,rfl⟩|⟨h1,h2,h3⟩
      · rw [hv.H i hi] at hl hve ⊢
        rw [hH i hi] at hve ⊢
        rw [lQ,lQ]
        exact hf.ism i hl hve
      · rw [h2]
  refine ⟨⟨hy.zlt,fun b j hb ho=>?_,fun j ho=>?_,fun j k hj hk he=>?_,hx.tab_of hF⟩,hF,hv⟩
  · rcases cas j with ⟨i,hi,rfl⟩|⟨h1,h2,h3⟩
    · rw [hv.H i hi,dN] at ho
      rw [hv.σ i hi]
      exact hy.zown b i hb ho
    · rw [h2] at ho
      rw [h3]
      rcases hf.zold b hb with h|h|⟨i,g1,g2⟩
      · exact hx.zown b j h ho
      · have:=hx.lt ho
        intro e
        have:x.w.heap.size≤b:=h
        omega
      · intro e
        exact h1 i (lt i g1) (hx.inj _ _ (ow i g1) ho (g2.trans e.symm))
  · rcases cas j with ⟨i,hi,rfl⟩|⟨h1,h2,h3⟩
    · have ho':=ho
      rw [hv.H i hi,dN] at ho'
      obtain ⟨cc,g1,g2,g3,g4⟩:=hy.blk i ho'
      rw [hv.H i hi,hv.σ i hi]
      refine ⟨cc,by rw [aCB]; exact g1,fun r hr=>?_,by simpa [jG] using g3,fun r row j v hr hj=>?_⟩
      · simp only [jG,List.mem_map] at hr
        obtain ⟨r',hr',rfl⟩:=hr
        rw [List.length_map]; exact g2 r' hr'
      · simp only [jG] at hr
        obtain ⟨row',q1,rfl⟩:=eA hr
        obtain ⟨v',q2,rfl⟩:=eA hj
        refine aOs hv ?_ (g4 r row' j v' q1 q2)
        have:=hloc i hi ho'
        simp only [pX,List.all_eq_true] at this
        exact this row' (List.mem_of_getElem? q1) v' (List.mem_of_getElem? q2)
    · have ho':=ho
      rw [h2] at ho'
      obtain ⟨cc,g1,g2,g3,g4⟩:=hx.blk j ho'
      rw [h2,h3]
      exact ⟨cc,by rw [show z.w.heap[x.σ j]?=x.w.heap[x.σ j]? from hko j ho' h1]; exact g1,g2,g3,fun r row j v hr hj=>(g4 r row j v hr hj).frame hx hF⟩
  · rcases cas j with ⟨i,hi,rfl⟩|⟨h1,h2,h3⟩
    · rw [hv.H i hi, dN] at hj
      rw [hv.σ i hi] at he
      rcases cas k with ⟨i',hi',rfl⟩|⟨k1,k2,k3⟩
      · rw [hv.H i' hi',dN] at hk
        rw [hv.σ i' hi'] at he
        rw [hy.inj i i' hj hk he]
      · rw [k2] at hk
        rw [k3] at he
        rcases hf.fresh i hj with ⟨g1,g2⟩|g1
        · exact absurd (hx.inj _ _ (ow i g1) hk (g2.symm.trans he)) (k1 i hi)
        · have:=hx.lt hk
          have:x.w.heap.size≤y.σ i:=g1
          omega
    · rw [h2] at hj
      rw [h3] at he
      rcases cas k with ⟨i',hi',rfl⟩|⟨k1,k2,k3⟩
      · rw [hv.H i' hi',dN] at hk
        rw [hv.σ i' hi'] at he
        rcases hf.fresh i' hk with ⟨g1,g2⟩|g1
        · exact absurd (hx.inj _ _ (ow i' g1) hj (g2.symm.trans he.symm)) (h1 i' hi')
        · have:=hx.lt hj
          have:x.w.heap.size≤y.σ i':=g1
          omega
      · rw [k2] at hk
        rw [k3] at he
        exact hx.inj j k hj hk he
end
inductive LOut where
  |ok (v:V) (HL:aI)
  |pan (c:Value)
def LOut.at (n:Nat) (ρ:Nat→Nat) (H:aI):LOut→Res
  | .ok v HL=>.ok v (tV ρ HL H n)
  | .pan c=>.pan c ((List.range n).map ρ)
def zO (P:Program) (f n:Nat) (args:List V) (Hl:aI) (out:LOut):Prop:=
  ∀ (H:aI) (ρ:Nat→Nat),(∀ i j,i < n→j < n→ρ i=ρ j→i=j)→(∀ i,i < n→H (ρ i)=jG ρ (Hl i))→aM7 P f (args.map (ren ρ)) H (out.at n ρ H)
def cut (n:Nat) (H:aI):aI:=fun j=>if j < n then H j else {H j with live:=false}
theorem oQ (n:Nat) (H:aI):qO H (cut n H):=fun j=>by
  unfold cut
  split
  · exact .refl _
  · exact .gone (Nat.le_refl _) rfl
def aKd (res:List SRes) (n:Nat) (out:LOut):Ex→(Nat→V)→aI→Prop:=fun e T H=>match e with
  | .exit _=>False
  | .pan c=>out=.pan c
  |_=>onS (kO res T H) fun u=> ∃ v HL,out=.ok v HL∧v.pure=true∧cV H (cut n H) u v∧ ∀ i,i < n→H i=HL i∧((HL i).own=true→pX n (HL i)=true)
section
variable {P:Program} {op:Opt} {k0:Nat}
theorem aCl {f : Nat} {fn : Func} {s : SF} (hf : P.funcs[f]? = some fn) (hs : bF P op fn = some s) {x : Cx} {args : List V} {cs : List Value} {Q : Ex → (Nat → V) → aI → Prop}
    {K:V→aI→Prop} {Kp:Value→aI→Prop} (hQ: ∀ e T H,Q e T H→match e with
      | .exit _=>False
      | .pan c=>Kp c H
      |_=>onS (kO s.res T H) fun v=>K v H)
    (hl:args.length≤s.n) (hW:W P k0 s.body Q (T0 args) x.H) (hx:Inv x) (hr:RL x args cs):
    Calls P f cs.toArray x.w fun e w'=> ∃ y,y.w=w'∧Inv y∧Frame x y∧((∃ c v,e=.returned c∧K v y.H∧R y v c)∨(∃ c,e=.panicked [{v:=c,recovered:=false}]∧Kp c y.H)):=by
  unfold bF at hs
  split at hs
  · cases hs
  · rename_i c hc
    split at hs
    · rename_i sb r h1 h2
      cases hs
      refine calls_of_wp hf hc (wp_mono (aES c sb h1 _ x x (T0 args) _ hW hx (xT hr hl) (Frame.refl x)) ?_)
      intro e a' w' hp
      obtain ⟨e',T',y,he,hw,hq,hy,hT',hF'⟩:=hp
      have hq:=hQ _ _ _ hq
      have fin:onS (kO r T' y.H) (fun v=>K v y.H)→a'.defers=[]∧ ∃ v,(results fn a'.tmps).run P w'=.ok v w'∧(∃ z:Cx,z.w=w'∧Inv z∧Frame x z∧((∃ c v',Ending.returned v=.returned c∧K v' z.H∧R z v' c)∨(∃ c,Ending.returned v=.panicked [{v:=c,recovered:=false}]∧Kp c z.H))):=by
        intro h
        obtain ⟨v,h3,h4⟩:=aO.1 h
        obtain ⟨c,h5,h6⟩:=uC h2 hy hT' h3
        exact ⟨hT'.defers,c,by rw [← hw]; exact h5,y,hw,hy,hF',.inl ⟨c,v,rfl,h4,h6⟩⟩
      cases e with
      |normal=>cases he; exact fin hq
      |ret=>cases he; exact fin hq
      |exit id=>cases he; exact hq.elim
      |goto l=>cases he
      | panic l =>
        simp only [aLz] at he
        split at he
        · rename_i c
          cases he
          exact ⟨hT'.defers,y,hw,hy,hF',.inr ⟨c,rfl,hq⟩⟩
        · cases he
      |outgrown=>cases he
    · cases hs
theorem aHe {f : Nat} {fn : Func} {s : SF} (hf : P.funcs[f]? = some fn) (hs : bF P op fn = some s) (hn : (fn.name == "runtime.NumGoroutine") = false) {n : Nat} {args : List V} {Hl : aI} {out : LOut}
    (hl:args.length≤s.n) (ha:args.all (loc n)=true) (hHl: ∀ i,i < n→pX n (Hl i)=true) (hd: ∀ i,n≤i→(Hl i).own=false)
    (hW:iP args=true→W P k0 s.body (aKd s.res n out) (T0 args) Hl):zO P f n args Hl out:=by
  intro H ρ hρ hH
  have main: ∀ (x:Cx) (cs:List Value),x.H=H→Inv x→RL x (args.map (ren ρ)) cs→Calls P f cs.toArray x.w fun e w'=>
      (∃ c v HL y,out=.ok v HL∧e=.returned c∧y.w=w'∧y.H=tV ρ HL H n∧Inv y∧R y v c∧Frame x y)∨(∃ c y,out=.pan c∧e=.panicked [{v:=c,recovered:=false}]∧y.w=w'∧(∀ j,j∉(List.range n).map ρ→y.H j=H j)∧Inv y∧Frame x y):=by
    intro x cs hxH hx hr
    subst hxH
    have hI:=aGT hx hρ hH hHl hd
    have hr0:RL (nI x ρ Hl) args cs:=by
      refine ⟨by simpa using hr.1,fun j v hj=>?_⟩
      refine aPe (uV hH) (fun _ h=>h) (List.all_eq_true.1 ha v (List.mem_of_getElem? hj)) (hr.2 j _ (by rw [List.getElem?_map,hj]; rfl))
    refine (aCl (x:=nI x ρ Hl) (Q:=aKd s.res n out) (Kp:=fun c _=>out=.pan c) (K:=fun u H=> ∃ v HL,out=.ok v HL∧v.pure=true∧cV H (cut n H) u v∧ ∀ i,i < n→H i=HL i∧((HL i).own=true→pX n (HL i)=true)) hf hs (fun e T H h=>?_) hl (hW hr0.bnd) hI hr0).mono fun e w' h=>?_
    · cases e <;> exact h
    obtain ⟨y,hw,hy,hF,h⟩:=h
    rcases h with ⟨c,u,he,⟨v,HL,ho,hvp,hfin,hHL⟩,hR⟩|⟨c,he,ho⟩
    · left
      obtain ⟨f1,f2⟩:=nJ hy (oQ n y.H)
      have hR':=hfin y c rfl hy hR
      obtain ⟨b1,b2,b3⟩:=aNd (y:=mZ y (cut n y.H)) hx hρ hH hd (hF.trans f2) f1
        (fun i hi ho'=>by
          have e:(mZ y (cut n y.H)).H i=y.H i:=by simp [mZ,cut,hi]
          rw [e] at ho' ⊢
          rw [(hHL i hi).1] at ho' ⊢
          exact (hHL i hi).2 ho')
        (fun i hi=>by simp [mZ,cut,Nat.not_lt.2 hi,Blk.own])
      generalize hY:mZ y (cut n y.H)=Y at b1 b2 b3 hR'
      have hYH:Y.H=cut n y.H:=by rw [← hY]; rfl
      refine ⟨c,v,HL,{w:=Y.w,Z:=Y.Z,σ:=aBX ρ Y.σ x.σ n,H:=tV ρ Y.H x.H n},ho,he,by rw [← hY]; exact hw,?_,b1,hR'.pure_at hvp rfl fun _ h=>h,b2⟩
      have: ∀ m,m≤n→tV ρ Y.H x.H m=tV ρ HL x.H m:=by
        intro m
        induction m with
        |zero=>intro _; rfl
        | succ m ih =>
          intro hm
          simp only [tV,ih (by omega)]
          congr 2
          have e:Y.H m=y.H m:=by rw [hYH]; simp [cut]; omega
          rw [e,(hHL m (by omega)).1]
      exact this n (Nat.le_refl n)
    · right
      have hall:qO y.H fun j=>{y.H j with live:=false}:=fun j=>.gone (Nat.le_refl _) rfl
      obtain ⟨f1,f2⟩:=nJ hy hall
      obtain ⟨b1,b2,b3⟩:=aNd (y:=mZ y fun j=>{y.H j with live:=false}) hx hρ hH hd (hF.trans f2) f1 (fun i hi ho'=>by simp [mZ,Blk.own] at ho') (fun i hi=>by simp [mZ,Blk.own])
      generalize hY:mZ y (fun j=>{y.H j with live:=false})=Y at b1 b2 b3
      refine ⟨c,{w:=Y.w,Z:=Y.Z,σ:=aBX ρ Y.σ x.σ n,H:=tV ρ Y.H x.H n},ho,he,by rw [← hY]; exact hw,fun j hj=>?_,b1,b2⟩
      refine aAM fun i hi e=>hj ?_
      exact List.mem_map.2 ⟨i,List.mem_range.2 hi,e⟩
  have hcl:=kQ hf hs hn
  cases ho:out with
  | ok v HL =>
    refine ⟨hcl,fun x cs h1 h2 h3=>(main x cs h1 h2 h3).mono fun e w' h=>?_⟩
    rcases h with ⟨c,v',HL',y,e1,e2,e3,e4,e5,e6,e7⟩|⟨c,y,e1,_⟩
    · rw [ho] at e1; cases e1; exact ⟨c,y,e2,e3,e4,e5,e6,e7⟩
    · rw [ho] at e1; cases e1
  | pan c =>
    refine ⟨hcl,fun x cs h1 h2 h3=>(main x cs h1 h2 h3).mono fun e w' h=>?_⟩
    rcases h with ⟨c',v',HL',y,e1,_⟩|⟨c',y,e1,e2,e3,e4,e5,e6⟩
    · rw [ho] at e1; cases e1
    · rw [ho] at e1; cases e1; exact ⟨y,e2,e3,e4,e5,e6⟩
end
end Go.Proofs.YteehaobohaecmaaGreatDoor
namespace Go.Proofs.YteehaobohaecmaaGreatDoor
open Go
section
variable {P:Program} {k0 d:Nat} {r:List SO} {T:Nat→V} {H:aI} {K:(Nat→V)→aI→Prop} {a b c:SX} {v:V}
theorem dC {α:Type} [Inhabited α] {e:Nat} {l:List α} {f:α→List V} {k:IntKind} {i:Nat} {cs:List V} (ha:ev T a=.sl (l.map f)) (hb:ev T b=.int k (i:Nat)) (hi:i < l.length) (hu:f (nth l i)=cs) (he:cs.length=e)
    (h:Ops P k0 r (upd T d (.pp cs)) H K):Ops P k0 (⟨none,some d,.idx e a b⟩::r) T H K:=
  dE ha hb hi (by rw [hu]; exact he) (by rw [hu]; exact h)
variable {k:IntKind} {x y:Int}
variable {s t:List UInt8}
abbrev cS (s:List UInt8):List V:=[.str s]
theorem yH (ha:ev T a=.str s) (hb:ev T b=.str t) (hl:s.length+t.length≤9223372036854775807) (h:Ops P k0 r (upd T d (.str (s++t))) H K):Ops P k0 (⟨none,some d,.sbin .add a b⟩::r) T H K:=by
  refine stp (v:=.str (s++t)) (fun _=>rfl) ?_ h
  rw [ha,hb]; simp only [tL,if_pos hl]
end
def hpB (b:Blk):aI:=upd H0 0 b
section
variable {P:Program} {k0 f:Nat} {Q:Ex→(Nat→V)→aI→Prop} {T:Nat→V} {H:aI} {d:Option Nat} {r:SC} {i:Nat} {asq asq':List V} {args:List SX} {b b' b1 b1':Blk} {v:V} {c:Value} {out:LOut}
theorem aL6 (i:Nat): ∀ j k,j < 1→k < 1→(fun _:Nat=>i) j=(fun _:Nat=>i) k→j=k:=fun j k h1 h2 _=>by omega
theorem aNZ (h:b1=jG (fun _=>i) b) (hb:H i=b1): ∀ j,j < 1→H ((fun _:Nat=>i) j)=jG (fun _=>i) (hpB b j):=fun j hj=>by
  have:j=0:=by omega
  subst this
  show H i=_
  rw [hb,h]; rfl
theorem zO.use1 (hc:zO P f 1 asq (hpB b) (.ok v (hpB b'))) (ha:asq.map (ren fun _=>i)=asq') (hb:H i=b1) (h1:b1=jG (fun _=>i) b) (h2:b1'=jG (fun _=>i) b'):dW P f asq' H v (upd H i b1'):=by
  subst ha; subst h2
  exact hc H (fun _=>i) (aL6 i) (aNZ h1 hb)
theorem eG {id:Nat} {a r:SC} (h: ∀ Q':Ex→(Nat→V)→aI→Prop,(∀ T H,G (W P k0 r Q) T H→Q' .norm T H)→(∀ T H,G (W P k0 r Q) T H→Q' (.exit id) T H)→(∀ T H,Q .ret T H→Q' .ret T H)→
    (∀ n T H,n≠id→Q (.exit n) T H→Q' (.exit n) T H)→(∀ c T H,Q (.pan c) T H→Q' (.pan c) T H)→W P k0 a Q' T H):W P k0 (.seq (.block id a) r) Q T H:=by
  simp only [W]
  refine h _ (fun T H h=>h) (fun T H h=>?_) (fun T H h=>h) (fun n T H hn h=>?_) (fun c T H h=>h)
  · simp only [if_true]; exact h
  · simp only [if_neg hn]; exact h
theorem lW {op:Opt} {fn:Func} {s:SF} {B:Prop} (hf:P.funcs[f]?=some fn) (hs:bF P op fn=some s)
    (hW : B → W P k0 s.body (aKd s.res 1 out) (T0 asq) (hpB b)) (hn : (fn.name == "runtime.NumGoroutine") = false := by kernel_rfl)
    (hl:Nat.ble asq.length s.n=true:=by rfl) (ha:asq.all (loc 1)=true:=by simp [loc,nA]) (hlb:pX 1 b=true:=by simp [pX,nA])
    (hb:iP asq=true→B:=by intro hB; first|(simp only [kA,jZ,iK,jT,jV,mI,jX,iN,implies_true,and_true,true_and] at hB; exact hB)|exact (fun _=>trivial) hB):zO P f 1 asq (hpB b) out:=
  aHe hf hs hn (Nat.le_of_ble_eq_true hl) ha (fun i hi=>by
    have:i=0:=by omega
    subst this; exact hlb) (fun i hi=>by
    have:hpB b i=H0 i:=aV _ _ (by omega)
    rw [this]; rfl) fun h=>hW (hb h)
variable {res:List SRes} {HL:aI}
theorem rG {u:V} (hr:kO res T H=some u) (ho:out=.ok v (hpB b)) (hp':v.pure=true) (hf:cV H (cut 1 H) u v) (hb:H 0=b) (hlb:pX 1 b=true):aKd res 1 out .ret T H:=by
  simp only [aKd,hr,dX]
  refine ⟨v,hpB b,ho,hp',hf,fun i hi=>?_⟩
  have:i=0:=by omega
  subst this
  exact ⟨by rw [hb]; rfl,fun _=>hlb⟩
theorem aCZ {s1:SRes} {u:V} (h1:lK T H s1=some u):kO [s1] T H=some u:=by simp only [kO,fA,h1]
end
end Go.Proofs.YteehaobohaecmaaGreatDoor
namespace Go.Proofs.YteehaobohaecmaaGreatDoor
open Go
theorem aHu {z:Bool} {H:aI} {n f id ver ty sz:Nat} {cells:List V} (hH:H id=bk ver ty sz [cells]) (hc:cD cells=true):fzv z H (n+2) (.fn f [] [.mp id ver 0 0])=.fn f [] [.pp cells]:=by
  simp only [fzv,hH,Blk.own,List.map_nil,List.map_cons]
  simp [cC _ _ hc]
theorem aPp {x:Cx} {c:Value} (h:R x (.sl [[.nilsl]]) c):R x (.sl [[.sl []]]) c:=by
  cases h with
  |sl _ a cap sz cs hc hm hz hsz hcell h=>
  refine .sl [[.sl []]] a cap sz cs hc hm (fun _=>hz (by simp)) (fun r hr=>by rw [List.mem_singleton.1 hr]; exact hsz [V.nilsl] (List.mem_singleton.2 rfl)) (fun r row j v h1 h2=>?_) fun r row j v h1 h2=>?_
  · match r,j,h1,h2 with
    |0,0,h1,h2=>exact hcell 0 _ 0 _ rfl rfl
    |0,j+1,h1,h2=>simp at h1; subst h1; simp at h2
    |r+1,_,h1,_=>simp at h1
  · match r,j,h1,h2 with
    | 0, 0, h1, h2 =>
      simp at h1; subst h1; simp at h2; subst h2
      have:=h 0 _ 0 _ rfl rfl
      generalize cs (0*sz+0)=cv at this ⊢
      generalize hq:V.nilsl=q at this
      cases this <;> cases hq
      exact .slnil
    |0,j+1,h1,h2=>simp at h1; subst h1; simp at h2
    |r+1,_,h1,_=>simp at h1
theorem aNv {K:(Nat→V)→aI→Prop} {T:Nat→V} {H:aI} {i:Nat} (ht:T i=.sl [[.nilsl]]) (h:G K (upd T i (.sl [[.sl []]])) H):G K T H:=
  .slot i _ (fun x c _ _ hr=>aPp (by rw [ht] at hr; exact hr)) h
end Go.Proofs.YteehaobohaecmaaGreatDoor
namespace Go.Proofs.YteehaobohaecmaaGreatDoor
open Go
def aDS (B : Blk) (ver kd : Nat) (z key : V) : Option (V × Bool) :=
  if (B.own && decide (B.ver = ver) && B.isM && decide (B.sz = 2) && mS kd key) = true then match B.rows with
    | _ :: es => match fN kd key es 0 with
      |some (some (_,v))=>some (v,true)
      |some none=>some (z,false)
      |none=>none
    |[]=>none
  else none
def aC9 (B : Blk) (ver kd : Nat) (key val : V) : Option Blk :=
  if (B.own && decide (B.ver = ver) && B.isM && decide (B.sz = 2) && mS kd key) = true then match B.rows with
    | h :: es => match fN kd key es 0 with
      |some (some (i,_))=>some {B with rows:=h::es.set i [key,val]}
      |some none=>some {B with rows:=h::(es++[[key,val]])}
      |none=>none
    |[]=>none
  else none
section
variable {P:Program} {k0:Nat} {r:List SO} {T:Nat→V} {H:aI} {K:(Nat→V)→aI→Prop} {d:Nat} {a b c:SX} {v:V}
theorem aKq {i n:Nat} {rows:List (List V)} (hi:k0+d=i) (hv:(H i).ver=n) (hr:rows=[[.nilp,.nilp]]) (h:Ops P k0 r (upd T d (.mm i (n+1))) (upd H i (⟨n+1,true,true,dV,2,rows⟩:Blk)) K):Ops P k0 (⟨none,some d,.mkmap⟩::r) T H K:=by
  subst hi; subst hv; subst hr; exact h
theorem rX {id ver kd:Nat} {z key u:V} {B:Blk} {f:Bool} (ha:ev T a=.mm id ver) (hb:ev T b=key) (hH:H id=B) (hl:aDS B ver kd z key=some (u,f)) (h:Ops P k0 r (upd T d u) H K):
    Ops P k0 (⟨none,some d,.mlook kd false z a b⟩::r) T H K:=by
  subst hH; subst hb
  simp only [Ops,St]
  refine vR (x:=(u,f)) ?_ h
  rw [ha]; exact hl
theorem aLQ {id ver kd : Nat} {key val : V} {B' : Blk} (h : aC9 (H id) ver kd key val = some B') : zX H kd (.mm id ver) key val = some (upd H id B') := by
  unfold aC9 at h
  unfold zX
  simp only
  by_cases hc:((H id).own&&decide ((H id).ver=ver)&&(H id).isM&&decide ((H id).sz=2)&&mS kd key)=true
  · rw [if_pos hc] at h ⊢
    cases hr:(H id).rows with
    |nil=>rw [hr] at h; cases h
    | cons e es =>
      rw [hr] at h
      simp only at h ⊢
      cases hf:fN kd key es 0 with
      |none=>rw [hf] at h; cases h
      | some o =>
        rw [hf] at h
        cases o with
        |none=>cases h; rfl
        |some p=>cases h; rfl
  · rw [if_neg hc] at h; cases h
theorem aKa {id ver kd:Nat} {key val:V} {B B':Blk} (ha:ev T a=.mm id ver) (hb:ev T b=key) (hc:ev T c=val) (hH:H id=B) (hl:aC9 B ver kd key val=some B') (h:Ops P k0 r T (upd H id B') K):
    Ops P k0 (⟨none,none,.mset kd a b c⟩::r) T H K:=by
  subst hH; subst hb; subst hc
  simp only [Ops,St]
  refine vR (x:=upd H id B') ?_ h
  rw [ha]; exact aLQ hl
end
section
variable {ver:Nat} {z:V} {t:List UInt8} {es:List (List UInt8×V)}
end
end Go.Proofs.YteehaobohaecmaaGreatDoor
namespace Go.Proofs.YteehaobohaecmaaGreatDoor
open Go
section
variable {P:Program} {k0:Nat} {r:List SO} {T:Nat→V} {H:aI} {K:(Nat→V)→aI→Prop} {d:Nat} {a b c:SX} {v:V}
end
end Go.Proofs.YteehaobohaecmaaGreatDoor
namespace Go.Proofs.YteehaobohaecmaaGreatDoor
open Go
theorem aIl {K:(Nat→V)→aI→Prop} {T:Nat→V} {H:aI} {id ver ty sz:Nat} {lz:Bool} {r r':List V} (hH:H id=⟨ver,true,lz,ty,sz,[r]⟩) (hr:r.map nz=r')
    (h:G K T (upd H id ⟨ver,true,lz,ty,sz,[r']⟩)):G K T H:=
  aK7 (rows:=[r]) (i:=0) (r:=r) hH (Nat.zero_lt_one) hr h
end Go.Proofs.YteehaobohaecmaaGreatDoor
namespace Go.Proofs.YteehaobohaecmaaGreatDoor
open Go
section
variable {P:Program} {k0:Nat} {Q:Ex→(Nat→V)→aI→Prop} {T:Nat→V} {H:aI}
end
end Go.Proofs.YteehaobohaecmaaGreatDoor
namespace Go.Proofs.YteehaobohaecmaaGreatDoor
open Go
def aCp (p:Int×List UInt8):V:=.agg [iV p.1,.str p.2]
def dZ (l:List (Int×List UInt8)):List (List V):=[.nilp,.nilp]::l.map fun p=>[aCp p,.bool true]
theorem aAX (p q:Int×List UInt8):yF 12 (aCp p) (aCp q)=some (decide (p=q)):=by
  show bY (tT 300 9) _ _=_
  rw [show tT 300 9=[0,1] by decide]
  obtain ⟨a,b⟩:=p
  obtain ⟨c,d⟩:=q
  simp only [bY,if_true,Option.map_some]
  congr 1
  refine Bool.eq_iff_iff.2 ?_
  simp [iV]
theorem aJA (p:Int×List UInt8):mS 12 (aCp p)=true:=by
  show (bY (tT 300 9) _ _==some true)=true
  have:=aAX p p
  rw [decide_eq_true rfl] at this
  rw [show bY (tT 300 9) [iV p.1,.str p.2] [iV p.1,.str p.2]=some true from this]; rfl
theorem aHv (k:Int×List UInt8): ∀ (l:List (Int×List UInt8)) (i:Nat),∃ j,fN 12 (aCp k) (l.map fun p=>[aCp p,.bool true]) i=some (if k∈l then some (j,.bool true) else none)
  |[],i=>⟨0,rfl⟩
  | p :: l, i => by
    by_cases e:k=p
    · refine ⟨i,?_⟩
      rw [List.map_cons,fN,aAX,decide_eq_true e,if_pos (by rw [e]; exact List.mem_cons_self ..)]
    · obtain ⟨j,h⟩:=aHv k l (i+1)
      refine ⟨j,?_⟩
      rw [List.map_cons,fN,aAX,decide_eq_false e]
      simp only
      rw [h]
      by_cases q:k∈l
      · rw [if_pos q,if_pos (List.mem_cons_of_mem _ q)]
      · rw [if_neg q,if_neg (fun h=>(List.mem_cons.1 h).elim e q)]
section
variable {ver:Nat} {k:Int×List UInt8} {l:List (Int×List UInt8)}
theorem aEK:aDS ⟨ver,true,true,dV,2,dZ l⟩ ver 12 (.bool false) (aCp k)=some (.bool (decide (k∈l)),decide (k∈l)):=by
  obtain ⟨j,h⟩:=aHv k l 0
  unfold aDS
  rw [if_pos (by simp [Blk.own,Blk.isM,dV,dZ,aJA])]
  simp only [dZ]
  rw [h]
  by_cases q:k∈l
  · rw [if_pos q]; simp [q]
  · rw [if_neg q]; simp [q]
theorem aQN (h:k∉l):aC9 ⟨ver,true,true,dV,2,dZ l⟩ ver 12 (aCp k) (.bool true)=some ⟨ver,true,true,dV,2,dZ (l++[k])⟩:=by
  obtain ⟨j,g⟩:=aHv k l 0
  unfold aC9
  rw [if_pos (by simp [Blk.own,Blk.isM,dV,dZ,aJA])]
  simp only [dZ]
  rw [g,if_neg h]
  simp
end
end Go.Proofs.YteehaobohaecmaaGreatDoor
namespace Go.Proofs.YteehaobohaecmaaGreatDoor
open Go
section
variable {P:Program} {k0 d:Nat} {r:List SO} {T:Nat→V} {H:aI} {K:(Nat→V)→aI→Prop} {a b:SX} {x y:Int} {s t:List UInt8}
theorem aAS (ha:ev T a=.agg [iV x,.str s]) (hb:ev T b=.agg [iV y,.str t]) (h:Ops P k0 r (upd T d (.bool (decide (x=y∧s=t)))) H K):Ops P k0 (⟨none,some d,.abin false [0,1] a b⟩::r) T H K:=by
  refine stp (v:=.bool (decide (x=y∧s=t))) (fun _=>rfl) ?_ h
  rw [ha,hb]; simp only [xZ,bY,if_true,Option.map_some,Bool.false_eq_true,if_false,dX]
  by_cases e:x=y <;> by_cases e2:s=t <;> simp [e,e2]
end
end Go.Proofs.YteehaobohaecmaaGreatDoor
namespace Go.Proofs.YteehaobohaecmaaGreatDoor
open Go
theorem rVq (v:V):v=v:=rfl
theorem rNq (n:Nat):iV (n:Int)=iV (n:Int):=rfl
abbrev bZq:Blk:=⟨0,false,false,0,0,[]⟩
abbrev bMq (m:M):Blk:=bk 1 50 4 [[iV m.i,iV m.s,aZ m.nx,aZ m.ot]]
abbrev mPq (n:Nat):V:=.mp n 1 0 0
theorem uTq {α:Type} {f:Nat→α} {i j:Nat} {v w:α} (g:f j=w) (h:j≠i:=by decide):upd f i v j=w:=(aV _ _ h).trans g
theorem eTq {α:Sort _} {a b c:α} (h:a=b) (g:b=c):a=c:=h.trans g
theorem cVq {a b:Blk} (h:a=b):a.ver=b.ver:=congrArg Blk.ver h
end Go.Proofs.YteehaobohaecmaaGreatDoor
namespace Go.Proofs.YteehaobohaecmaaGreatDoor
open Go Go.Proofs
def aR8:List SO:=[
 qL 19 4 3,
 qL 20 3 4,
 sO 21 (.call false 21 [.t 19,.t 20]),
 sO 22 (.un .not (.t 21)),
 qM 23 22,
 ⟨some (23,false),some 24,.mv (.t 2)⟩,
 ⟨some (23,false),some 25,.len (.t 24)⟩,
 ⟨some (23,false),some 26,.bin .gtr (.t 25) (.c (.int .i64 30))⟩,
 sO 27 (.pick (.t 23) (.c (.bool true)) (.t 26))]
def aSo:List SO:=[
 qL 30 4 3,
 qL 31 3 4,
 sO 32 (.call false 23 [.t 30,.t 31]),
 qM 29 32,
 qE 33 29 0,
 qE 34 29 1,
 qE 35 29 2,
 sO 7 (.alloc 54 [.nilsl,.nilsl]),
 sN (.store 2 (.t 7) (.t 33)),
 qM 8 34,
 qM 9 35]
def aR5:List SO:=[
 qM 38 8,
 sO 39 (.un .not (.t 38)),
 qM 40 39,
 ⟨some (40,true),some 41,.fld 0 (.t 7)⟩,
 ⟨some (40,true),some 42,.load false 1 (.t 41)⟩,
 ⟨some (40,true),some 43,.len (.t 42)⟩,
 ⟨some (40,true),some 44,.bin .eql (.t 43) (.c (.int .i64 0))⟩,
 sO 45 (.pick (.t 40) (.t 44) (.c (.bool false))),
 qM 46 45,
 ⟨some (46,true),some 47,.call false 22 []⟩,
 sO 48 (.pick (.t 46) (.t 47) (.c (.bool false))),
 qM 6 48]
def aSp:List SO:=[
 qL 51 4 3,
 qF 52 0 7,
 ql 53 52,
 sO 54 (.call false 30 [.t 51,.t 53]),
 qM 50 54,
 qE 55 50 0,
 qE 56 50 1,
 qM 10 55,
 qM 11 56]
def aSr:List SO:=[
 qL 58 3 4,
 qL 59 2 7,
 sO 60 (.call false 31 [.t 58,.t 59]),
 qM 57 60,
 qE 61 57 0,
 qE 62 57 1,
 qM 12 61,
 qM 13 62]
def aSf:List SO:=[
 qM 63 11,
 qC 64 .neq 63 0,
 qM 65 64,
 ⟨some (65,false),some 66,.mv (.t 13)⟩,
 ⟨some (65,false),some 67,.bin .neq (.t 66) (.c (.int .i64 0))⟩,
 sO 68 (.pick (.t 65) (.c (.bool true)) (.t 67)),
 qM 69 68,
 ⟨some (69,false),some 70,.mv (.t 12)⟩,
 sO 71 (.pick (.t 69) (.c (.bool true)) (.t 70)),
 qM 72 71,
 ⟨some (72,false),some 73,.mv (.t 10)⟩,
 ⟨some (72,false),some 74,.fld 1 (.t 7)⟩,
 ⟨some (72,false),some 75,.load false 1 (.t 74)⟩,
 ⟨some (72,false),some 76,.call false 32 [.t 73,.t 75]⟩,
 ⟨some (72,false),some 77,.un .not (.t 76)⟩,
 sO 78 (.pick (.t 72) (.c (.bool true)) (.t 77))]
def aQU:List SO:=[
 qL 86 4 3,
 qM 87 2,
 qM 88 14,
 qA 89 1 87 88,
 ql 90 89,
 sO 91 (.call false 30 [.t 86,.t 90]),
 qM 85 91,
 qE 92 85 0,
 qE 93 85 1,
 qM 15 92,
 qM 16 93]
def aRb:List SO:=[
 qM 94 2,
 qM 95 14,
 qA 96 1 94 95,
 ql 97 96,
 qN 98 97,
 qC 99 .gtr 98 60,
 qM 100 99,
 ⟨some (100,false),some 101,.mv (.t 16)⟩,
 ⟨some (100,false),some 102,.bin .neq (.t 101) (.c (.int .i64 0))⟩,
 sO 103 (.pick (.t 100) (.c (.bool true)) (.t 102)),
 qM 104 103,
 ⟨some (104,false),some 105,.mv (.t 8)⟩,
 ⟨some (104,false),some 106,.mv (.t 105)⟩,
 ⟨some (106,true),some 107,.mv (.t 2)⟩,
 ⟨some (106,true),some 108,.mv (.t 14)⟩,
 ⟨some (106,true),some 109,.idx 1 (.t 107) (.t 108)⟩,
 ⟨some (106,true),some 110,.load false 1 (.t 109)⟩,
 ⟨some (106,true),some 111,.len (.t 110)⟩,
 ⟨some (106,true),some 112,.fld 0 (.t 7)⟩,
 ⟨some (106,true),some 113,.load false 1 (.t 112)⟩,
 ⟨some (106,true),some 114,.len (.t 113)⟩,
 ⟨some (106,true),some 115,.bin .geq (.t 111) (.t 114)⟩,
 ⟨some (104,false),some 116,.pick (.t 106) (.t 115) (.c (.bool false))⟩,
 sO 117 (.pick (.t 104) (.c (.bool true)) (.t 116))]
def aQ1:List SO:=[
 qL 119 3 4,
 qM 120 2,
 qM 121 14,
 qA 122 1 120 121,
 ql 123 122,
 qM 124 15,
 sO 125 (.build [.nilsl,.nilsl] [(0,1,.t 123),(1,1,.t 124)]),
 sO 126 (.call false 31 [.t 119,.t 125]),
 qM 118 126,
 qE 127 118 0,
 qE 128 118 1,
 qM 17 127,
 qM 18 128]
def aO2:SC:=.seq (.seq (.reg [qM 79 14,qM 80 2,qN 81 80,qP 82 .lss 79 81]) (.cond (.t 82) (.skip) (.exit 0))) (.seq (.block 1 (.seq (.reg aQU) (.seq (.seq (.reg aRb) (.cond (.t 117) (.exit 1) (.skip))) (.seq (.reg aQ1) (.seq (.reg [qM 129 18,qC 130 .neq 129 0,qM 131 130,⟨some (131,false),some 132,.mv (.t 17)⟩,⟨some (131,false),some 133,.un .not (.t 132)⟩,sO 134 (.pick (.t 131) (.c (.bool true)) (.t 133))]) (.cond (.t 134) (.seq (.reg [sO 6 (.mv (.c (.bool false)))]) (.ret)) (.skip))))))) (.reg [qM 83 14,qC 84 .add 83 1,qM 14 84]))
def s8:SF:=⟨136,[.tmp 6],.seq (.reg [sO 3 (.box 50 4 (.t 0)),sO 4 (.box 24 3 (.t 1)),sO 6 (.mv (.c (.bool false)))]) (.seq (.seq (.reg aR8) (.cond (.t 27) (.seq (.reg [sO 28 (.call false 22 []),qM 6 28]) (.ret)) (.skip))) (.seq (.reg aSo) (.seq (.seq (.reg [qM 36 9,qC 37 .neq 36 0]) (.cond (.t 37) (.seq (.reg aR5) (.ret)) (.skip))) (.seq (.seq (.reg [qM 49 8]) (.cond (.t 49) (.seq (.reg aSp) (.seq (.reg aSr) (.seq (.reg aSf) (.cond (.t 78) (.seq (.reg [sO 6 (.mv (.c (.bool false)))]) (.ret)) (.skip))))) (.skip))) (.seq (.seq (.reg [qI 14 0]) (.block 0 (.loop aO2))) (.seq (.reg [sO 135 (.call false 22 []),qM 6 135]) (.ret)))))))⟩
theorem aRs:bF Tryz.prog ⟨[51,59,84,90,97,109,153,154,155,160],[],[],[]⟩ Tryz.f8=some s8:=by kernel_rfl
def aQe:List SO:=[
 qF 5 2 2,
 ql 6 5,
 qN 7 6,
 qC 8 .leq 7 8,
 qM 9 8,
 ⟨some (9,true),some 10,.fld 3 (.t 2)⟩,
 ⟨some (9,true),some 11,.load false 1 (.t 10)⟩,
 ⟨some (9,true),some 12,.len (.t 11)⟩,
 ⟨some (9,true),some 13,.bin .leq (.t 12) (.c (.int .i64 8))⟩,
 sO 14 (.pick (.t 9) (.t 13) (.c (.bool false))),
 qM 15 14,
 ⟨some (15,true),some 16,.fld 0 (.t 2)⟩,
 ⟨some (15,true),some 17,.load false 1 (.t 16)⟩,
 ⟨some (15,true),some 18,.bin .leq (.t 17) (.c (.int .i64 4))⟩,
 sO 19 (.pick (.t 15) (.t 18) (.c (.bool false))),
 qM 20 19,
 ⟨some (20,true),some 21,.load true 3 (.t 3)⟩,
 ⟨some (20,true),some 22,.call false 47 [.t 21,.c (.int .i64 0)]⟩,
 ⟨some (20,true),some 23,.bin .leq (.t 22) (.c (.int .i64 12))⟩,
 sO 24 (.pick (.t 20) (.t 23) (.c (.bool false))),
 qM 4 24]
def s21:SF:=⟨25,[.tmp 4],.seq (.reg [sO 2 (.box 50 4 (.t 0)),sO 3 (.box 24 3 (.t 1)),sO 4 (.mv (.c (.bool false)))]) (.seq (.reg aQe) (.ret))⟩
theorem aNu:bF Tryz.prog ⟨[51,59,84,90,97,109,153,154,155,160],[],[],[]⟩ Tryz.f21=some s21:=by kernel_rfl
def aQc:List SO:=[
 qM 7 1,
 qC 8 .gtr 7 20,
 qM 9 8,
 ⟨some (9,false),some 10,.fld 2 (.t 2)⟩,
 ⟨some (9,false),some 11,.load false 1 (.t 10)⟩,
 ⟨some (9,false),some 12,.len (.t 11)⟩,
 ⟨some (9,false),some 13,.bin .gtr (.t 12) (.c (.int .i64 50))⟩,
 sO 14 (.pick (.t 9) (.c (.bool true)) (.t 13))]
def aRq:List SO:=[
 qM 22 5,
 qF 23 2 2,
 ql 24 23,
 qM 25 6,
 qA 26 3 24 25,
 qL 27 3 26,
 qM 28 1,
 qC 29 .add 28 1,
 sO 30 (.call false 47 [.t 27,.t 29]),
 qP 31 .add 22 30,
 qM 5 31]
def aNh:SC:=.seq (.seq (.reg [qM 15 6,qF 16 2 2,ql 17 16,qN 18 17,qP 19 .lss 15 18]) (.cond (.t 19) (.skip) (.exit 0))) (.seq (.block 1 (.seq (.reg aRq) (.seq (.reg [qM 32 5,qC 33 .gtr 32 1000]) (.cond (.t 33) (.seq (.reg [qI 4 1000]) (.ret)) (.skip))))) (.reg [qM 20 6,qC 21 .add 20 1,qM 6 21]))
def s47:SF:=⟨35,[.tmp 4],.seq (.reg [sO 2 (.box 24 3 (.t 0)),qI 4 0]) (.seq (.seq (.reg aQc) (.cond (.t 14) (.seq (.reg [qI 4 1000]) (.ret)) (.skip))) (.seq (.reg [qI 5 1]) (.seq (.seq (.reg [qI 6 0]) (.block 0 (.loop aNh))) (.seq (.reg [qM 34 5,qM 4 34]) (.ret)))))⟩
theorem aOE:bF Tryz.prog ⟨[51,59,84,90,97,109,153,154,155,160],[],[],[]⟩ Tryz.f47=some s47:=by kernel_rfl
end Go.Proofs.YteehaobohaecmaaGreatDoor
namespace Go.Proofs.YteehaobohaecmaaGreatDoor
open Go
inductive Fm where
  |nd (op arg:Int) (kids:List Fm)
instance:Inhabited Fm:=⟨.nd 0 0 []⟩
def Fm.op:Fm→Int| .nd o _ _=>o
def Fm.arg:Fm→Int| .nd _ a _=>a
def Fm.kids:Fm→List Fm| .nd _ _ k=>k
theorem Fm.eta (f:Fm):Fm.nd f.op f.arg f.kids=f:=by cases f; rfl
mutual
def cF:Fm→List V
  | .nd o a k=>[iV o,iV a,.sl (cFs k)]
def cFs:List Fm→List (List V)
  |[]=>[]
  |f::l=>cF f::cFs l
end
theorem wG: ∀ l:List Fm,cFs l=l.map cF
  |[]=>rfl
  |f::l=>by rw [cFs,wG l]; rfl
theorem bX (f:Fm):cF f=[iV f.op,iV f.arg,.sl (f.kids.map cF)]:=by
  cases f with
  |nd o a k=>rw [cF,wG]; rfl
mutual
theorem aCm: ∀ f:Fm,cY (cF f)=true
  | .nd o a k=>by rw [cF]; simp [cY,V.pure,qH k]
theorem qH: ∀ l:List Fm,fQ (cFs l)=true
  |[]=>rfl
  |f::l=>by rw [cFs,fQ,aCm f,qH l]; rfl
end
mutual
theorem aAy: ∀ f:Fm,cD (cF f)=true
  | .nd o a k=>by rw [cF]; simp [nU k]
theorem nU: ∀ l:List Fm,dK (cFs l)=true
  |[]=>by simp [cFs]
  |f::l=>by rw [cFs,aAV,aAy f,nU l]; rfl
end
attribute [simp] aCm aAy
@[simp] theorem aPY (l:List Fm):fQ (l.map cF)=true:=by rw [← wG]; exact qH l
@[simp] theorem aPy (l:List Fm):dK (l.map cF)=true:=by rw [← wG]; exact nU l
theorem kJ (f:Fm):(cF f).length=3:=by rw [bX]; rfl
theorem lG (f:Fm):(cF f).all V.one=true:=by rw [bX]; rfl
theorem aP8 {u:V} {x:Fm} (h:u=.sl [[iV x.op,iV x.arg,.sl (x.kids.map cF)]]):u=.sl ([x].map cF):=by rw [h]; simp [bX x]
theorem aEy {u:V} {x y:Fm} (h:u=.sl [[iV x.op,iV x.arg,.sl (x.kids.map cF)],[iV y.op,iV y.arg,.sl (y.kids.map cF)]]):u=.sl ([x,y].map cF):=by rw [h]; simp [bX x,bX y]
theorem pV {u:V} {x:Fm} (h:u=.sl [[iV x.op,iV x.arg,.sl (x.kids.map cF)]]):u=.sl [cF x]:=by rw [h,bX x]
@[simp] theorem aLu (l:List (List UInt8)):dK (l.map cS)=true:=eP _ _ fun a=>by simp [cS]
mutual
def Fm.sz:Fm→Nat
  | .nd _ _ k=>Fm.szs k+1
def Fm.szs:List Fm→Nat
  |[]=>0
  |f::l=>f.sz+Fm.szs l
end
theorem Fm.szs_nth: ∀ {l:List Fm} {k:Nat},k < l.length→(nth l k).sz≤Fm.szs l
  |[],k,h=>absurd h (Nat.not_lt_zero k)
  |f::l,0,_=>by show f.sz≤_; rw [Fm.szs]; omega
  | f :: l, k + 1, h => by
    have:=Fm.szs_nth (l:=l) (k:=k) (by simpa using h)
    show (nth l k).sz≤_
    rw [Fm.szs]; omega
theorem Fm.sz_kid {f:Fm} {k:Nat} (h:k < f.kids.length):(nth f.kids k).sz < f.sz:=by
  cases f with
  | nd o a l =>
    have:=Fm.szs_nth (l:=l) h
    rw [Fm.sz]; show (nth l k).sz < _; omega
def kLo (o:Int):Int:=if o=4∨o=7∨o=9 then 1 else if o=8∨o=10 then 2 else if o=5∨o=6 then 2 else 0
def kHi (o:Int):Int:=if o=4∨o=7∨o=9 then 1 else if o=8∨o=10 then 2 else if o=5∨o=6 then -1 else 0
def rgt (f:Fm):Int:=
  if f.op < 1∨10 < f.op∨(f.kids.length:Int) < kLo f.op∨(0≤kHi f.op∧kHi f.op < f.kids.length)∨(¬(f.op=2∨f.op=3)∧f.arg≠0) then 1
  else if (f.op=2∧(f.arg < 0∨64≤f.arg))∨(f.op=3∧(f.arg < 0∨1048576 < f.arg)) then 2 else 0
mutual
def exm:Fm→Int→Int→Int×Int
  | .nd o a k,lv,b=>if 4096 < b+1 then (b+1,11) else if 64 < lv then (b+1,16) else if rgt (.nd o a k)≠0 then (b+1,rgt (.nd o a k)) else jM k (lv+1) (b+1)
def jM:List Fm→Int→Int→Int×Int
  |[],_,n=>(n,0)
  |f::l,lv,n=>if (exm f lv n).2≠0 then exm f lv n else jM l lv (exm f lv n).1
end
theorem aA7 (f:Fm) (lv b:Int):exm f lv b=if 4096 < b+1 then (b+1,11) else if 64 < lv then (b+1,16) else if rgt f≠0 then (b+1,rgt f) else jM f.kids (lv+1) (b+1):=by
  cases f; rw [exm]; rfl
def cE (f:Fm):Int:=(exm f 1 0).2
theorem aHC {l:List Fm} {lv n:Int} {k:Nat} (h:k < l.length) (he:(exm (nth l k) lv n).2≠0):jM (l.drop k) lv n=exm (nth l k) lv n:=by rw [dG h,jM,if_pos he]
theorem aKO {l:List Fm} {lv n:Int} {k:Nat} (h:k < l.length) (he: ¬(exm (nth l k) lv n).2≠0):jM (l.drop k) lv n=jM (l.drop (k+1)) lv (exm (nth l k) lv n).1:=by rw [dG h,jM,if_neg he]
theorem aI9 {l:List Fm} {lv n:Int} {k:Nat} (h:l.length≤k):jM (l.drop k) lv n=(n,0):=by rw [List.drop_eq_nil_of_le h,jM]
mutual
theorem vX : ∀ (f : Fm) (lv b : Int), (exm f lv b).1 ≥ b + 1 ∧ ((exm f lv b).2 = 0 → (exm f lv b).1 ≤ 4096)
  | .nd o a k, lv, b => by
    rw [exm]
    split
    · exact ⟨by simp,fun h=>by simp at h⟩
    · split
      · exact ⟨by simp,fun h=>by simp at h⟩
      · split
        · rename_i h; exact ⟨by simp,fun h'=>absurd h' h⟩
        · have:=aC8 k (lv+1) (b+1) (by omega)
          exact ⟨this.1,this.2⟩
theorem aC8: ∀ (l:List Fm) (lv n:Int),n≤4096→(jM l lv n).1≥n∧((jM l lv n).2=0→(jM l lv n).1≤4096)
  |[],lv,n,h=>by rw [jM]; exact ⟨Int.le_refl _,fun _=>h⟩
  | f :: l, lv, n, h => by
    have h1:=vX f lv n
    rw [jM]
    split
    · rename_i he; exact ⟨by omega,fun h'=>absurd h' he⟩
    · rename_i he
      have he':(exm f lv n).2=0:=by omega
      have h2:=aC8 l lv (exm f lv n).1 (h1.2 he')
      exact ⟨by omega,h2.2⟩
end
mutual
def fU:Fm→Fm→Bool
  | .nd o a k,.nd o' a' k'=>decide (o=o')&&decide (a=a')&&decide (k.length=k'.length)&&iQ k k'
def iQ:List Fm→List Fm→Bool
  |f::l,g::m=>fU f g&&iQ l m
  |_,_=>true
end
theorem aIm (f g:Fm):fU f g=(decide (f.op=g.op)&&decide (f.arg=g.arg)&&decide (f.kids.length=g.kids.length)&&iQ f.kids g.kids):=by cases f; cases g; rw [fU]; rfl
theorem aG1 {l m:List Fm} {k:Nat} (h1:k < l.length) (h2:k < m.length) (h:fU (nth l k) (nth m k)=true):iQ (l.drop k) (m.drop k)=iQ (l.drop (k+1)) (m.drop (k+1)):=by rw [dG h1,dG h2,iQ,h,Bool.true_and]
theorem aHK {l m:List Fm} {k:Nat} (h1:k < l.length) (h2:k < m.length) (h:fU (nth l k) (nth m k)=false):iQ (l.drop k) (m.drop k)=false:=by rw [dG h1,dG h2,iQ,h,Bool.false_and]
theorem aGl {l m:List Fm} {k:Nat} (h1:l.length≤k):iQ (l.drop k) (m.drop k)=true:=by rw [List.drop_eq_nil_of_le h1]; rw [iQ]; intro f l' g m' h; cases h
mutual
theorem fY: ∀ f g:Fm,fU f g=true↔f=g
  | .nd o a k, .nd o' a' k' => by
    rw [fU]
    simp only [Bool.and_eq_true,decide_eq_true_eq]
    constructor
    · rintro ⟨⟨⟨rfl,rfl⟩,h⟩,h2⟩
      rw [(tM k k' h).1 h2]
    · rintro h
      cases h
      exact ⟨⟨⟨rfl,rfl⟩,rfl⟩,(tM k k rfl).2 rfl⟩
theorem tM: ∀ l m:List Fm,l.length=m.length→(iQ l m=true↔l=m)
  | [], [], _ => by
    rw [iQ]
    · simp
    · intro f l' g m' h; cases h
  |[],g::m,h=>by simp at h
  |f::l,[],h=>by simp at h
  | f :: l, g :: m, h => by
    rw [iQ]
    simp only [Bool.and_eq_true,fY f g,tM l m (by simpa using h)]
    constructor
    · rintro ⟨rfl,rfl⟩; rfl
    · rintro h'; cases h'; exact ⟨rfl,rfl⟩
end
theorem wL (f:Fm):fU f f=true:=(fY f f).2 rfl
def jP (o:Int):Int:=if o=5 then 6 else if o=6 then 5 else if o=7 then 9 else if o=9 then 7 else if o=8 then 10 else 8
def nop (o:Int) (b:Bool):Int:=if b=true then jP o else o
mutual
def nrm:Fm→Bool→Fm
  | .nd o a [],b=>if o=4 then .nd 0 0 [] else if b=true then .nd 4 0 [.nd o a []] else .nd o a []
  | .nd o _ (f::l),b=>if o=4 then nrm f (!b) else .nd (nop o b) 0 (nrm f b::wW l b)
def wW:List Fm→Bool→List Fm
  |[],_=>[]
  |f::l,b=>nrm f b::wW l b
end
theorem aB8: ∀ (l:List Fm) (b:Bool),wW l b=l.map fun f=>nrm f b
  |[],b=>by rw [wW]; rfl
  |f::l,b=>by rw [wW,aB8 l b]; rfl
theorem mE {f:Fm} {b:Bool} (h:f.op=4) (hk:0 < f.kids.length):nrm f b=nrm (nth f.kids 0) (!b):=by
  cases f with
  | nd o a k =>
    cases k with
    |nil=>exact absurd hk (Nat.lt_irrefl _)
    |cons g l=>simp only [Fm.op] at h; rw [nrm,if_pos h]; rfl
theorem oS {f:Fm} (h: ¬f.op=4) (hk:f.kids.length=0):nrm f true=.nd 4 0 [.nd f.op f.arg []]:=by
  cases f with
  | nd o a k =>
    cases k with
    |nil=>simp only [Fm.op] at h; rw [nrm,if_neg h,if_pos rfl]; rfl
    |cons g l=>simp [Fm.kids] at hk
theorem oZ {f:Fm} (h: ¬f.op=4) (hk:f.kids.length=0):nrm f false=.nd f.op f.arg []:=by
  cases f with
  | nd o a k =>
    cases k with
    |nil=>simp only [Fm.op] at h; rw [nrm,if_neg h,if_neg (by simp)]; rfl
    |cons g l=>simp [Fm.kids] at hk
theorem gF {f:Fm} {b:Bool} (h: ¬f.op=4) (hk:f.kids.length≠0):nrm f b=.nd (nop f.op b) 0 (f.kids.map fun g=>nrm g b):=by
  cases f with
  | nd o a k =>
    cases k with
    |nil=>exact absurd rfl hk
    |cons g l=>simp only [Fm.op] at h; rw [nrm,if_neg h,aB8]; rfl
mutual
def okF:Fm→Bool
  | .nd o a k=>decide (rgt (.nd o a k)=0)&&okL k
def okL:List Fm→Bool
  |[]=>true
  |f::l=>okF f&&okL l
end
theorem aHg (f:Fm):okF f=(decide (rgt f=0)&&okL f.kids):=by cases f; rw [okF]; rfl
theorem aEA: ∀ {l:List Fm} {k:Nat},okL l=true→k < l.length→okF (nth l k)=true
  |[],k,_,h=>absurd h (Nat.not_lt_zero k)
  |f::l,0,h,_=>by rw [okL,Bool.and_eq_true] at h; exact h.1
  |f::l,k+1,h,hk=>by rw [okL,Bool.and_eq_true] at h; exact aEA (k:=k) h.2 (by simpa using hk)
theorem bJ {f:Fm} (h:okF f=true):rgt f=0∧ ∀ k,k < f.kids.length→okF (nth f.kids k)=true:=by
  rw [aHg,Bool.and_eq_true,decide_eq_true_eq] at h
  exact ⟨h.1,fun k hk=>aEA h.2 hk⟩
mutual
theorem aHY : ∀ (f : Fm) (lv b : Int), (exm f lv b).2 = 0 → okF f = true
  | .nd o a k, lv, b, h => by
    rw [exm] at h
    split at h
    · simp at h
    · split at h
      · simp at h
      · split at h
        · rename_i h'; exact absurd h h'
        · rename_i h'
          rw [okF,aFC k _ _ h,Bool.and_true]
          exact decide_eq_true (by omega)
theorem aFC: ∀ (l:List Fm) (lv n:Int),(jM l lv n).2=0→okL l=true
  |[],_,_,_=>by rw [okL]
  | f :: l, lv, n, h => by
    rw [jM] at h
    split at h
    · rename_i h'; exact absurd h h'
    · rename_i h'
      rw [okL,aHY f lv n (by omega),aFC l lv _ h]; rfl
end
theorem eN {f:Fm} (h:cE f=0):okF f=true:=aHY f 1 0 h
theorem cP {f:Fm} (h:rgt f=0):1≤f.op∧f.op≤10∧((f.op=1∨f.op=2∨f.op=3)→f.kids.length=0)∧((f.op=4∨f.op=7∨f.op=9)→f.kids.length=1)∧((f.op=5∨f.op=6)→2≤f.kids.length)∧
    ((f.op=8∨f.op=10)→f.kids.length=2)∧(¬(f.op=2∨f.op=3)→f.arg=0)∧(f.op=2→0≤f.arg∧f.arg < 64)∧(f.op=3→0≤f.arg∧f.arg≤1048576):=by
  unfold rgt at h
  generalize f.kids.length=n at*
  generalize f.op=o at*
  generalize f.arg=a at*
  split at h
  · simp at h
  · rename_i h1
    split at h
    · simp at h
    · rename_i h2
      have e:o=1∨o=2∨o=3∨o=4∨o=5∨o=6∨o=7∨o=8∨o=9∨o=10:=by omega
      rcases e with e|e|e|e|e|e|e|e|e|e <;> subst e <;> simp [kLo,kHi] at h1 h2 ⊢ <;> omega
def zF:Fm:=.nd 0 0 []
theorem Fm.leaf {f:Fm} (h:f.kids.length=0):Fm.nd f.op f.arg []=f:=by
  cases f with
  | nd o a k => cases k with
    |nil=>rfl
    |cons g l=>simp [Fm.kids] at h
theorem aFB {f:Fm} (h: ¬f.op=4) (hk:f.kids.length=0):nrm f true=.nd 4 0 [f]:=by rw [oS h hk,Fm.leaf hk]
theorem aFc {f:Fm} (h: ¬f.op=4) (hk:f.kids.length=0):nrm f false=f:=by rw [oZ h hk,Fm.leaf hk]
theorem oE {α β:Type} [Inhabited α] {g:α→β} {l:List α} {k:Nat} (h:k < l.length):(l.take (k+1)).map g=(l.take k).map g++[g (nth l k)]:=by
  rw [← bA h,List.take_succ_eq_append_getElem h,List.map_append]; rfl
theorem aNl {v ty:Nat} {x y:Int} {a b:V} (h:x=y):bk v ty 3 [[iV x,a,b]]=bk v ty 3 [[iV y,a,b]]:=by rw [h]
mutual
theorem aH8 : ∀ (f : Fm) (lv b : Int), (exm f lv b).2 = 0 → (exm f lv b).1 = b + f.sz
  | .nd o a k, lv, b, h => by
    rw [exm] at h ⊢
    split at h
    · simp at h
    · split at h
      · simp at h
      · split at h
        · rename_i h'; exact absurd h h'
        · rename_i h1 h2 h3
          rw [if_neg h1,if_neg h2,if_neg h3,aFD k _ _ h,Fm.sz]; omega
theorem aFD: ∀ (l:List Fm) (lv n:Int),(jM l lv n).2=0→(jM l lv n).1=n+Fm.szs l
  |[],_,n,_=>by rw [jM,Fm.szs]; simp
  | f :: l, lv, n, h => by
    rw [jM] at h ⊢
    split at h
    · rename_i h'; exact absurd h h'
    · rename_i h'
      rw [if_neg h',aFD l lv _ h,aH8 f lv n (by omega),Fm.szs]; omega
end
theorem iI {f:Fm} (h:cE f=0):f.sz≤4096:=by
  have h1:=aH8 f 1 0 h
  have h2:=(vX f 1 0).2 h
  omega
theorem Fm.szs_len: ∀ l:List Fm,l.length≤Fm.szs l
  |[]=>Nat.le_refl _
  | f :: l => by
    have:=Fm.szs_len l
    have h:1≤f.sz:=by cases f; rw [Fm.sz]; omega
    rw [Fm.szs,List.length_cons]; omega
theorem Fm.sz_len (f:Fm):f.kids.length < f.sz:=by
  cases f with
  |nd o a k=>have:=Fm.szs_len k; rw [Fm.sz]; show k.length < _; omega
end Go.Proofs.YteehaobohaecmaaGreatDoor
namespace Go.Proofs.YteehaobohaecmaaGreatDoor
open Go
abbrev cB (b:Bool):List V:=[.bool b]
abbrev cBL (l:List Bool):List V:=[.sl (l.map cB)]
@[simp] theorem aKi (l:List Bool):dK (l.map cB)=true:=eP _ _ fun a=>by simp [cB]
@[simp] theorem aIT (l:List (List Bool)):dK (l.map cBL)=true:=eP _ _ fun a=>by simp
def jB (g h:Nat→Bool):Nat→Nat→Bool
  |0,i=>h i
  |m+1,i=>h i||(g i&&jB g h m (i+1))
def jD (g h:Nat→Bool):Nat→Nat→Bool
  |0,i=>h i
  |m+1,i=>h i&&(g i||jD g h m (i+1))
def vE (t:Tr) (o a:Int) (K:List (Nat→Bool)) (i:Nat):Bool:=
  if o=1 then true
  else if o=2 then decide (i < t.ni.length)&&decide (nth t.ni i=a)
  else if o=3 then decide (i < t.ni.length)&&decide (nth t.no i=a)
  else if o=4 then !(nth K 0 i)
  else if o=7 then decide (i < t.ni.length)&&nth K 0 (i+1)
  else if o=9 then decide (¬i < t.ni.length)||nth K 0 (i+1)
  else if o=8 then jB (nth K 0) (nth K 1) (t.ni.length - i) i
  else if o=10 then jD (nth K 0) (nth K 1) (t.ni.length - i) i
  else if o=5 then K.all fun g=>g i
  else K.any fun g=>g i
mutual
def sat (t:Tr):Fm→Nat→Bool
  | .nd o a k,i=>vE t o a (aLs t k) i
def aLs (t:Tr):List Fm→List (Nat→Bool)
  |[]=>[]
  |f::l=>sat t f::aLs t l
end
theorem aCR (t:Tr): ∀ l:List Fm,aLs t l=l.map (sat t)
  |[]=>rfl
  |f::l=>by rw [aLs,aCR t l]; rfl
theorem bT (t:Tr) (f:Fm) (i:Nat):sat t f i=vE t f.op f.arg (f.kids.map (sat t)) i:=by cases f; rw [sat,aCR]; rfl
def rst (t:Tr) (f:Fm):List Bool:=(List.range (t.ni.length+1)).map (sat t f)
theorem aAU (t:Tr) (f:Fm):(rst t f).length=t.ni.length+1:=by simp [rst]
theorem qY {t:Tr} {f:Fm} {i:Nat} (h:i≤t.ni.length):nth (rst t f) i=sat t f i:=by
  have:i < (rst t f).length:=by rw [aAU]; omega
  rw [← bA this]; simp [rst]
theorem eU {α β:Type} [Inhabited α] [Inhabited β] {g:α→β} {l:List α} {k:Nat} (h:k < l.length):nth (l.map g) k=g (nth l k):=by
  have h':k < (l.map g).length:=by simpa using h
  rw [← bA h',List.getElem_map,bA h]
def gD (t:Tr) (f:Fm) (i:Int):List Bool:=(List.range (t.ni.length+1)).map fun j:Nat=>decide (i < (j:Int))&&sat t f j
theorem oC (t:Tr) (f:Fm) (i:Int):(gD t f i).length=t.ni.length+1:=by simp [gD]
theorem aDX (t:Tr) (f:Fm):gD t f t.ni.length=List.replicate (t.ni.length+1) false:=by
  apply List.ext_getElem
  · simp [gD]
  · intro j h1 h2
    simp only [gD,List.length_map,List.length_range] at h1
    simp only [gD,List.getElem_map,List.getElem_range,List.getElem_replicate]
    rw [decide_eq_false (by omega),Bool.false_and]
theorem aJX (t:Tr) (f:Fm):gD t f (-1)=rst t f:=by
  apply List.ext_getElem
  · simp [gD,rst]
  · intro j h1 h2
    simp only [gD,rst,List.getElem_map,List.getElem_range]
    rw [decide_eq_true (by omega),Bool.true_and]
theorem aJT {t:Tr} {f:Fm} {i:Nat} {b:Bool} (h:i≤t.ni.length) (hb:b=sat t f i):(gD t f i).set i b=gD t f ((i:Int) - 1):=by
  apply List.ext_getElem
  · simp [gD]
  · intro j h1 h2
    rw [List.getElem_set]
    simp only [gD,List.length_map,List.length_range] at h2
    simp only [gD,List.getElem_map,List.getElem_range]
    split
    · rename_i e; subst e; rw [hb,decide_eq_true (by omega),Bool.true_and]
    · rename_i e
      by_cases q:i < j
      · rw [decide_eq_true (by omega),decide_eq_true (by omega)]
      · rw [decide_eq_false (by omega),decide_eq_false (by omega)]
theorem aIA {t:Tr} {f:Fm} {i:Int} {j:Nat} (h:i < j) (hj:j≤t.ni.length):nth (gD t f i) j=sat t f j:=by
  have h1:j < (gD t f i).length:=by rw [oC]; omega
  rw [← bA h1]
  simp only [gD,List.getElem_map,List.getElem_range]
  rw [decide_eq_true h,Bool.true_and]
def mX (t:Tr) (f:Fm) (K:List (List Bool)) (B:List Bool) (i:Nat):Bool:=
  if f.op=1 then true
  else if f.op=2 then decide (i < t.ni.length)&&decide (nth t.ni i=f.arg)
  else if f.op=3 then decide (i < t.ni.length)&&decide (nth t.no i=f.arg)
  else if f.op=4 then !(nth (nth K 0) i)
  else if f.op=5 then K.all fun r=>nth r i
  else if f.op=6 then K.any fun r=>nth r i
  else if f.op=7 then decide (i < t.ni.length)&&nth (nth K 0) (i+1)
  else if f.op=9 then decide (¬i < t.ni.length)||nth (nth K 0) (i+1)
  else if f.op=8 then nth (nth K 1) i||(decide (i < t.ni.length)&&nth (nth K 0) i&&nth B (i+1))
  else nth (nth K 1) i&&(decide (¬i < t.ni.length)||nth (nth K 0) i||nth B (i+1))
theorem aEI {g h:Nat→Bool} {n i:Nat} (hi:i≤n):jB g h (n - i) i=(h i||(decide (i < n)&&g i&&jB g h (n - (i+1)) (i+1))):=by
  by_cases e:i < n
  · obtain ⟨m,hm⟩: ∃ m,n - i=m+1:=⟨n - i - 1,by omega⟩
    rw [hm,jB,show n - (i+1)=m by omega,decide_eq_true e,Bool.true_and]
  · rw [show n - i=0 by omega,jB,decide_eq_false e,Bool.false_and,Bool.false_and,Bool.or_false]
theorem aFw {g h:Nat→Bool} {n i:Nat} (hi:i≤n):jD g h (n - i) i=(h i&&(decide (¬i < n)||g i||jD g h (n - (i+1)) (i+1))):=by
  by_cases e:i < n
  · obtain ⟨m,hm⟩: ∃ m,n - i=m+1:=⟨n - i - 1,by omega⟩
    rw [hm,jD,show n - (i+1)=m by omega,decide_eq_false (by omega),Bool.false_or]
  · rw [show n - i=0 by omega,jD,decide_eq_true e,Bool.true_or,Bool.true_or,Bool.and_true]
theorem aIE {t:Tr} {f:Fm} {i:Nat} (hf:rgt f=0) (hi:i≤t.ni.length):mX t f (f.kids.map (rst t)) (gD t f i) i=sat t f i:=by
  obtain ⟨h1,h2,h3,h4,h5,h6,h7,h8,h9⟩:=cP hf
  have k0:0 < f.kids.length→ ∀ j,j≤t.ni.length→nth (nth (f.kids.map (rst t)) 0) j=nth (f.kids.map (sat t)) 0 j:=fun h j hj=>by rw [eU h,eU h,qY hj]
  have k1:1 < f.kids.length→ ∀ j,j≤t.ni.length→nth (nth (f.kids.map (rst t)) 1) j=nth (f.kids.map (sat t)) 1 j:=fun h j hj=>by rw [eU h,eU h,qY hj]
  have hall: ∀ j,j≤t.ni.length→((f.kids.map (rst t)).all fun r=>nth r j)=(f.kids.map (sat t)).all fun g=>g j:=fun j hj=>by
    rw [List.all_map,List.all_map]; congr 1; funext g; exact qY hj
  have hany: ∀ j,j≤t.ni.length→((f.kids.map (rst t)).any fun r=>nth r j)=(f.kids.map (sat t)).any fun g=>g j:=fun j hj=>by
    rw [List.any_map,List.any_map]; congr 1; funext g; exact qY hj
  rw [bT]
  unfold mX vE
  by_cases e1:f.op=1
  · rw [if_pos e1,if_pos e1]
  rw [if_neg e1,if_neg e1]
  by_cases e2:f.op=2
  · rw [if_pos e2,if_pos e2]
  rw [if_neg e2,if_neg e2]
  by_cases e3:f.op=3
  · rw [if_pos e3,if_pos e3]
  rw [if_neg e3,if_neg e3]
  by_cases e4:f.op=4
  · rw [if_pos e4,if_pos e4,k0 (by omega) i hi]
  rw [if_neg e4,if_neg e4]
  by_cases e5:f.op=5
  · rw [if_pos e5,if_neg (by omega),if_neg (by omega),if_neg (by omega),if_neg (by omega),if_pos e5,hall i hi]
  rw [if_neg e5]
  by_cases e6:f.op=6
  · rw [if_pos e6,if_neg (by omega),if_neg (by omega),if_neg (by omega),if_neg (by omega),if_neg e5,hany i hi]
  rw [if_neg e6]
  by_cases e7:f.op=7
  · rw [if_pos e7,if_pos e7]
    by_cases q:i < t.ni.length
    · rw [k0 (by omega) (i+1) q]
    · rw [decide_eq_false q,Bool.false_and,Bool.false_and]
  rw [if_neg e7,if_neg e7]
  by_cases e9:f.op=9
  · rw [if_pos e9,if_pos e9]
    by_cases q:i < t.ni.length
    · rw [k0 (by omega) (i+1) q]
    · rw [decide_eq_true q,Bool.true_or,Bool.true_or]
  rw [if_neg e9,if_neg e9]
  have hs:i < t.ni.length→nth (gD t f i) (i+1)=sat t f (i+1):=fun q=>aIA (by omega) q
  by_cases e8:f.op=8
  · rw [if_pos e8,if_pos e8,aEI hi,k0 (by omega) i hi,k1 (by omega) i hi]
    by_cases q:i < t.ni.length
    · rw [hs q,bT,vE,if_neg e1,if_neg e2,if_neg e3,if_neg e4,if_neg e7,if_neg e9,if_pos e8]
    · rw [decide_eq_false q]; simp
  · rw [if_neg e8,if_neg e8,if_pos (by omega),aFw hi,k0 (by omega) i hi,k1 (by omega) i hi]
    by_cases q:i < t.ni.length
    · rw [hs q,bT,vE,if_neg e1,if_neg e2,if_neg e3,if_neg e4,if_neg e7,if_neg e9,if_neg e8,if_pos (by omega)]
    · rw [decide_eq_true q]; simp
def hoE (t:Tr) (f:Fm):Int:=if cE f≠0 then cE f else if 1024 < t.ni.length then 3 else if t.no.length≠t.ni.length then 1 else 0
def hoB (t:Tr) (f:Fm):Bool:=decide (hoE t f=0)&&sat t f 0
theorem aI4 {α:Type} [Inhabited α] {p:α→Bool} {l:List α}:decide (0≤fi (fun j=>p (nth l j)) 0 l.length)=l.any p:=by
  have h:0≤fi (fun j=>p (nth l j)) 0 l.length↔l.any p=true:=by
    rw [aD5,List.any_eq_true]
    constructor
    · rintro ⟨j,_,h2,h3⟩
      exact ⟨nth l j,by rw [← bA (by omega)]; exact List.getElem_mem (by omega),h3⟩
    · rintro ⟨x,hx,hp⟩
      obtain ⟨j,hj,rfl⟩:=List.getElem_of_mem hx
      exact ⟨j,Nat.zero_le _,by omega,by show p (nth l j)=true; rw [← bA hj]; exact hp⟩
  cases hq:l.any p with
  |true=>exact decide_eq_true (h.2 hq)
  |false=>exact decide_eq_false fun q=>by rw [h.1 q] at hq; cases hq
theorem aNG {α:Type} [Inhabited α] {p:α→Bool} {l:List α}:(!decide (0≤fi (fun j=> !p (nth l j)) 0 l.length))=l.all p:=by
  rw [aI4 (p:=fun x=> !p x)]
  induction l with
  |nil=>rfl
  |cons a l ih=>simp only [List.any_cons,List.all_cons,Bool.not_or,Bool.not_not,ih]
theorem aGY {t:Tr} {f:Fm} {i:Int} (hf:rgt f=0) (h0:0≤i) (hi:i≤t.ni.length):(gD t f i).set i.toNat (mX t f (f.kids.map (rst t)) (gD t f i) i.toNat)=gD t f (i - 1):=by
  obtain ⟨j,rfl⟩: ∃ j:Nat,i=j:=⟨i.toNat,by omega⟩
  exact aJT (by omega) (aIE hf (by omega))
end Go.Proofs.YteehaobohaecmaaGreatDoor
namespace Go.Proofs.YteehaobohaecmaaGreatDoor
open Go
def ltr (c:UInt8):Bool:=decide ((97≤c.toNat∧c.toNat≤122)∨(65≤c.toNat∧c.toNat≤90)∨(48≤c.toNat∧c.toNat≤57)∨c.toNat=95∨c.toNat=45∨c.toNat=46)
def wby (c:UInt8):Bool:=ltr c||decide (c.toNat=58)
def aNP (l:List (List UInt8)) (s:List UInt8):Int:=fi (fun j=>decide (nth l j=s)) 0 l.length
def ixV (l:List (List UInt8)) (s:List UInt8):Int:=if 0≤aNP l s then aNP l s else 0
def ixB (l:List (List UInt8)) (s:List UInt8):Bool:=decide (0≤aNP l s)
def prB (s p:List UInt8):Bool:=decide (p.length≤s.length∧s.take p.length=p)
mutual
def nnf:Fm→Bool
  | .nd o _ k=>aIJ o k
def aIJ (o:Int):List Fm→Bool
  |[]=>true
  |f::l=> !(decide (o=4∧3 < f.op)|| !nnf f)&&aIJ o l
end
theorem aCN (o:Int): ∀ l:List Fm,aIJ o l=l.all fun f=> !(decide (o=4∧3 < f.op)|| !nnf f)
  |[]=>by rw [aIJ]; rfl
  |f::l=>by rw [aIJ,aCN o l]; rfl
theorem aJ5 (f:Fm):nnf f=f.kids.all fun g=> !(decide (f.op=4∧3 < g.op)|| !nnf g):=by cases f; rw [nnf,aCN]; rfl
end Go.Proofs.YteehaobohaecmaaGreatDoor
namespace Go.Proofs.YteehaobohaecmaaGreatDoor
open Go
theorem fH {p:Fm→Prop} (h: ∀ f,(∀ k,k < f.kids.length→p (nth f.kids k))→p f) (f:Fm):p f:=by
  have key: ∀ (m:Nat) (g:Fm),g.sz < m→p g:=by
    intro m
    induction m with
    |zero=>intro g hg; omega
    |succ m ih=>intro g hg; exact h g fun k hk=>ih _ (by have:=Fm.sz_kid hk; omega)
  exact key _ f (Nat.lt_succ_self _)
theorem aBl: ∀ l:List Fm,okL l=l.all okF
  |[]=>rfl
  |f::l=>by rw [okL,aBl l]; rfl
theorem aHM {f:Fm} (h:rgt f=0) (hk: ∀ k,k < f.kids.length→okF (nth f.kids k)=true):okF f=true:=by
  rw [aHg,decide_eq_true h,aBl,Bool.true_and,List.all_eq_true]
  intro x hx
  obtain ⟨j,hj,rfl⟩:=dJ hx
  exact hk j hj
theorem yT {o:Int} {l:List Fm} (h:((o=4∨o=7∨o=9)∧l.length=1)∨((o=8∨o=10)∧l.length=2)∨((o=5∨o=6)∧2≤l.length)):rgt (.nd o 0 l)=0:=by
  unfold rgt
  show (if o < 1∨10 < o∨((l.length:Nat):Int) < kLo o∨(0≤kHi o∧kHi o < ((l.length:Nat):Int))∨(¬(o=2∨o=3)∧(0:Int)≠0) then (1:Int) else if (o=2∧((0:Int) < 0∨64≤(0:Int)))∨(o=3∧((0:Int) < 0∨1048576 < (0:Int))) then 2 else 0)=0
  generalize l.length=n at*
  have e:o=4∨o=5∨o=6∨o=7∨o=8∨o=9∨o=10:=by omega
  rcases e with e|e|e|e|e|e|e <;> subst e <;> simp [kLo,kHi] <;> omega
theorem opK {f:Fm} (h:rgt f=0):(f.kids.length=0∧(f.op=1∨f.op=2∨f.op=3))∨(f.kids.length≠0∧f.arg=0∧(f.op=4∨f.op=5∨f.op=6∨f.op=7∨f.op=8∨f.op=9∨f.op=10)):=by
  obtain ⟨r1,r2,r3,r4,r5,r6,r7,r8,r9⟩:=cP h
  by_cases q:f.op=1∨f.op=2∨f.op=3
  · exact .inl ⟨r3 q,q⟩
  · refine .inr ⟨by omega,r7 (by omega),by omega⟩
theorem aHJ {f:Fm} (h:rgt f=0) (hk:f.kids.length≠0) (h4: ¬f.op=4) (b:Bool):rgt (.nd (nop f.op b) 0 (f.kids.map fun g=>nrm g b))=0:=by
  obtain ⟨r1,r2,r3,r4,r5,r6,r7,r8,r9⟩:=cP h
  refine yT ?_
  rw [List.length_map]
  unfold nop jP
  split
  · generalize f.kids.length=n at*
    generalize f.op=o at*
    have e:o=5∨o=6∨o=7∨o=8∨o=9∨o=10:=by omega
    rcases e with e|e|e|e|e|e <;> subst e <;> simp at* <;> omega
  · omega
theorem aBw (f : Fm) : okF f = true → ∀ b, okF (nrm f b) = true := by
  refine fH (p:=fun f=>okF f=true→ ∀ b,okF (nrm f b)=true) (fun f ih hf b=>?_) f
  obtain ⟨hr,hk⟩:=bJ hf
  by_cases h4:f.op=4
  · have:=(cP hr).2.2.2.1 (.inl h4)
    rw [mE h4 (by omega)]
    exact ih 0 (by omega) (hk 0 (by omega)) _
  · rcases opK hr with ⟨h0, ho⟩ | ⟨h0, _, _⟩
    · cases b with
      |true=>rw [aFB h4 h0]; exact aHM (yT (.inl ⟨.inl rfl,rfl⟩)) fun k h=>by
                  have:k=0:=by simp [Fm.kids] at h; omega
                  subst this; exact hf
      |false=>rw [aFc h4 h0]; exact hf
    · rw [gF h4 h0]
      refine aHM (aHJ hr h0 h4 b) fun k h=>?_
      have h':k < f.kids.length:=by simpa [Fm.kids] using h
      show okF (nth (f.kids.map fun g=>nrm g b) k)=true
      rw [eU h']
      exact ih k h' (hk k h') b
theorem pM {f:Fm} (h: ∀ k,k < f.kids.length→(f.op=4→(nth f.kids k).op≤3)∧nnf (nth f.kids k)=true):nnf f=true:=by
  rw [aJ5,List.all_eq_true]
  intro x hx
  obtain ⟨j,hj,rfl⟩:=dJ hx
  obtain ⟨h1,h2⟩:=h j hj
  rw [h2,decide_eq_false (by omega)]; rfl
theorem aBH (f : Fm) : okF f = true → ∀ b, nnf (nrm f b) = true := by
  refine fH (p:=fun f=>okF f=true→ ∀ b,nnf (nrm f b)=true) (fun f ih hf b=>?_) f
  obtain ⟨hr,hk⟩:=bJ hf
  by_cases h4:f.op=4
  · have:=(cP hr).2.2.2.1 (.inl h4)
    rw [mE h4 (by omega)]
    exact ih 0 (by omega) (hk 0 (by omega)) _
  · rcases opK hr with ⟨h0,ho⟩|⟨h0,_,_⟩
    · have hl:nnf f=true:=pM fun k h=>by omega
      cases b with
      | true =>
        rw [aFB h4 h0]
        refine pM fun k h=>?_
        have:k=0:=by simp [Fm.kids] at h; omega
        subst this
        exact ⟨fun _=>by show f.op≤3; omega,hl⟩
      |false=>rw [aFc h4 h0]; exact hl
    · rw [gF h4 h0]
      refine pM fun k h=>?_
      have h':k < f.kids.length:=by simpa [Fm.kids] using h
      refine ⟨fun e=>?_,?_⟩
      · have e':nop f.op b=4:=e
        have:=aHJ hr h0 h4 b
        exfalso
        unfold nop jP at e'
        obtain ⟨r1,r2,_⟩:=cP hr
        revert e'
        repeat (first|omega|split)
      · show nnf (nth (f.kids.map fun g=>nrm g b) k)=true
        rw [eU h']
        exact ih k h' (hk k h') b
theorem yD {g h:Nat→Bool}: ∀ {m i:Nat},jD (fun j=> !g j) (fun j=> !h j) m i= !jB g h m i
  |0,i=>rfl
  |m+1,i=>by rw [jD,jB,yD (m:=m)]; cases h i <;> cases g i <;> simp
theorem wT {g h:Nat→Bool}: ∀ {m i:Nat},jB (fun j=> !g j) (fun j=> !h j) m i= !jD g h m i
  |0,i=>rfl
  |m+1,i=>by rw [jD,jB,wT (m:=m)]; cases h i <;> cases g i <;> simp
theorem aA9 {α:Type} {p:α→Bool}: ∀ l:List α,(l.any fun g=> !p g)= !(l.all p)
  |[]=>rfl
  |a::l=>by rw [List.any_cons,List.all_cons,aA9 l,Bool.not_and]
theorem aBG {α:Type} {p:α→Bool}: ∀ l:List α,(l.all fun g=> !p g)= !(l.any p)
  |[]=>rfl
  |a::l=>by rw [List.any_cons,List.all_cons,aBG l,Bool.not_or]
theorem aG0 {t:Tr} {f:Fm} (hr:rgt f=0) (h4: ¬f.op=4) (h0:f.kids.length≠0) (i:Nat):vE t (jP f.op) 0 (f.kids.map fun g j=> !sat t g j) i= !vE t f.op f.arg (f.kids.map (sat t)) i:=by
  obtain ⟨r1,r2,r3,r4,r5,r6,r7,r8,r9⟩:=cP hr
  have k0:0 < f.kids.length→nth (f.kids.map fun g j=> !sat t g j) 0=fun j=> !nth (f.kids.map (sat t)) 0 j:=fun h=>by rw [eU h,eU h]
  have k1:1 < f.kids.length→nth (f.kids.map fun g j=> !sat t g j) 1=fun j=> !nth (f.kids.map (sat t)) 1 j:=fun h=>by rw [eU h,eU h]
  have e:f.op=5∨f.op=6∨f.op=7∨f.op=8∨f.op=9∨f.op=10:=by omega
  rcases e with e|e|e|e|e|e
  · rw [e]; show (List.map _ _).any _= !(List.map _ _).all _
    rw [List.any_map,List.all_map]
    exact aA9 (p:=fun g=>sat t g i) _
  · rw [e]; show (List.map _ _).all _= !(List.map _ _).any _
    rw [List.any_map,List.all_map]
    exact aBG (p:=fun g=>sat t g i) _
  · rw [e]; show (decide (¬i < t.ni.length)||nth (f.kids.map fun g j=> !sat t g j) 0 (i+1))= !(decide (i < t.ni.length)&&nth (f.kids.map (sat t)) 0 (i+1))
    rw [k0 (by omega),decide_not,Bool.not_and]
  · rw [e]; show jD (nth (f.kids.map fun g j=> !sat t g j) 0) (nth (f.kids.map fun g j=> !sat t g j) 1) _ i= !jB _ _ _ i
    rw [k0 (by omega),k1 (by omega),yD]
  · rw [e]; show (decide (i < t.ni.length)&&nth (f.kids.map fun g j=> !sat t g j) 0 (i+1))= !(decide (¬i < t.ni.length)||nth (f.kids.map (sat t)) 0 (i+1))
    rw [k0 (by omega),decide_not,Bool.not_or,Bool.not_not]
  · rw [e]; show jB (nth (f.kids.map fun g j=> !sat t g j) 0) (nth (f.kids.map fun g j=> !sat t g j) 1) _ i= !jD _ _ _ i
    rw [k0 (by omega),k1 (by omega),wT]
theorem aRF {α:Type} {p q:Fm→α} {l:List Fm} (h: ∀ k,k < l.length→p (nth l k)=q (nth l k)):l.map p=l.map q:=
  List.map_congr_left fun x hx=>by obtain ⟨j,hj,rfl⟩:=dJ hx; exact h j hj
theorem aLY (t : Tr) (f : Fm) : okF f = true → ∀ b i, sat t (nrm f b) i = (sat t f i ^^ b) := by
  refine fH (p:=fun f=>okF f=true→ ∀ b i,sat t (nrm f b) i=(sat t f i ^^ b)) (fun f ih hf b i=>?_) f
  obtain ⟨hr,hk⟩:=bJ hf
  by_cases h4:f.op=4
  · have hl:=(cP hr).2.2.2.1 (.inl h4)
    rw [mE h4 (by omega),ih 0 (by omega) (hk 0 (by omega)),bT t f,h4]
    show (sat t (nth f.kids 0) i ^^ !b)=(!(nth (f.kids.map (sat t)) 0 i) ^^ b)
    rw [eU (by omega)]
    cases sat t (nth f.kids 0) i <;> cases b <;> rfl
  · rcases opK hr with ⟨h0,ho⟩|⟨h0,ha,_⟩
    · cases b with
      |true=>rw [aFB h4 h0,bT t (.nd 4 0 [f])]; show (!sat t f i)=_; simp
      |false=>rw [aFc h4 h0]; simp
    · rw [gF h4 h0,bT]
      show vE t (nop f.op b) 0 ((f.kids.map fun g=>nrm g b).map (sat t)) i=_
      rw [List.map_map,aRF (q:=fun g j=>sat t g j ^^ b) fun k hk'=>funext fun j=>ih k hk' (hk k hk') b j]
      cases b with
      | true =>
        simp only [nop,if_true,Bool.xor_true]
        rw [aG0 hr h4 h0,← bT]
      | false =>
        simp only [nop,Bool.false_eq_true,if_false,Bool.xor_false]
        rw [bT t f,ha]
theorem aAW {f:Fm} {t:Tr} (h:cE f=0) (h1:t.ni.length≤1024) (h2:t.no.length=t.ni.length):hoE t f=0:=by
  unfold hoE; rw [if_neg (by omega),if_neg (by omega),if_neg (by omega)]
theorem aBi {f:Fm} {t:Tr} (h:cE f=0) (h1:t.ni.length≤1024) (h2:t.no.length=t.ni.length):hoB t f=sat t f 0:=by
  unfold hoB; rw [aAW h h1 h2]; rfl
end Go.Proofs.YteehaobohaecmaaGreatDoor
namespace Go.Proofs.YteehaobohaecmaaGreatDoor
open Go
mutual
def dp:Fm→Nat
  | .nd _ _ k=>dpL k+1
def dpL:List Fm→Nat
  |[]=>0
  |f::l=>max (dp f) (dpL l)
end
theorem sY {o:Int} {l:List Fm} (h:((o=4∨o=7∨o=9)∧l.length=1)∨((o=8∨o=10)∧l.length=2)∨((o=5∨o=6)∧2≤l.length)) (hk:l.all okF=true):okF (.nd o 0 l)=true:=by
  rw [okF,decide_eq_true (yT h),aBl,hk]; rfl
section
variable {f g:Fm} {t:Tr}
abbrev uF (f g:Fm):Fm:=.nd 8 0 [f,g]
abbrev rF' (f g:Fm):Fm:=.nd 10 0 [f,g]
abbrev WF (f g:Fm):Fm:=.nd 6 0 [g,.nd 5 0 [f,.nd 7 0 [uF f g]]]
abbrev VF (f g:Fm):Fm:=.nd 5 0 [g,.nd 6 0 [f,.nd 9 0 [rF' f g]]]
abbrev tlT (t:Tr):Tr:=⟨t.ni.drop 1,t.no.drop 1⟩
@[simp] theorem aML (l : List Int) : dK (l.map cI).tail = true := by
  cases l with
  |nil=>simp
  |cons a l=>simp
@[simp] theorem aOO (l : List Int) : fQ (l.map cI).tail = true := by
  cases l with
  |nil=>simp
  |cons a l=>simp
structure Exp (f g:Fm) (t:Tr):Prop where
  e1:hoE t (uF f g)=0
  e2:hoE t (rF' f g)=0
  e3:hoE t (WF f g)=0
  e4:hoE t (VF f g)=0
  e5:hoE t (.nd 5 0 [f,g,f])=0
  e6:hoE t (.nd 6 0 [f,g,f])=0
  e7:hoE t (.nd 7 0 [f])=0
  e8:hoE t (.nd 9 0 [f])=0
  b1:hoB t (uF f g)=hoB t (WF f g)
  b2:hoB t (rF' f g)=hoB t (VF f g)
  b3:hoB t (.nd 5 0 [f,g,f])=(hoB t f&&hoB t g)
  b4:hoB t (.nd 6 0 [f,g,f])=(hoB t f||hoB t g)
  n1:t.ni.length=0→hoB t (.nd 7 0 [f])=false∧hoB t (.nd 9 0 [f])=true
  n2:t.ni.length≠0→hoE (tlT t) f=0∧hoB t (.nd 7 0 [f])=hoB (tlT t) f∧hoB t (.nd 9 0 [f])=hoB (tlT t) f
end
end Go.Proofs.YteehaobohaecmaaGreatDoor
namespace Go.Proofs.YteehaobohaecmaaGreatDoor
open Go Go.Sort
theorem nT {α : Type} {le : α → α → Prop} : ∀ {l m : List α}, (∀ a ∈ l, ∀ b ∈ l, le a b → le b a → a = b) → l.Perm m → l.Pairwise le → m.Pairwise le → l = m
  |[],m,_,hp,_,_=>(List.perm_nil.1 hp.symm).symm
  |a::l,[],_,hp,_,_=>(List.cons_ne_nil _ _ (List.perm_nil.1 hp)).elim
  | a :: l, b :: m, anti, hp, h1, h2 => by
    have hb:b∈a::l:=hp.mem_iff.2 (List.mem_cons_self ..)
    have ha:a∈b::m:=hp.mem_iff.1 (List.mem_cons_self ..)
    have e:a=b:=by
      rcases List.mem_cons.1 hb with e|hb'
      · exact e.symm
      · rcases List.mem_cons.1 ha with e|ha'
        · exact e
        · exact anti a (List.mem_cons_self ..) b hb ((List.pairwise_cons.1 h1).1 b hb') ((List.pairwise_cons.1 h2).1 a ha')
    subst e
    rw [nT (fun x hx y hy=>anti x (List.mem_cons_of_mem _ hx) y (List.mem_cons_of_mem _ hy)) (List.Perm.cons_inv hp) (List.pairwise_cons.1 h1).2 (List.pairwise_cons.1 h2).2]
def aGx {α:Type} (cmp:α→α→Int) (a:α):List α→List α
  |[]=>[a]
  |b::l=>if cmp b a < 0 then b::aGx cmp a l else a::b::l
def srt {α:Type} (cmp:α→α→Int) (l:List α):List α:=l.foldr (aGx cmp) []
theorem tD {α:Type} (cmp:α→α→Int) (a:α): ∀ l:List α,(aGx cmp a l).Perm (a::l)
  |[]=>List.Perm.refl _
  | b :: l => by
    rw [aGx]
    split
    · exact ((tD cmp a l).cons b).trans (List.Perm.swap a b l)
    · exact List.Perm.refl _
theorem iF {α:Type} (cmp:α→α→Int): ∀ l:List α,(srt cmp l).Perm l
  |[]=>List.Perm.refl _
  |a::l=>(tD cmp a (srt cmp l)).trans ((iF cmp l).cons a)
theorem iH {α:Type} (cmp:α→α→Int) (l:List α):(srt cmp l).length=l.length:=(iF cmp l).length_eq
theorem vA {α : Type} {cmp : α → α → Int} (hO : SWO fun a b => decide (cmp a b < 0)) (a : α) : ∀ {l : List α}, (l.Pairwise fun a b => ¬cmp b a < 0) → (aGx cmp a l).Pairwise fun a b => ¬cmp b a < 0
  |[],_=>List.pairwise_singleton _ _
  | b :: l, h => by
    obtain ⟨h1,h2⟩:=List.pairwise_cons.1 h
    rw [aGx]
    split
    · rename_i q
      refine List.pairwise_cons.2 ⟨fun x hx=>?_,vA hO a h2⟩
      rcases List.mem_cons.1 ((tD cmp a l).mem_iff.1 hx) with e|e
      · rw [e]; intro q2
        have:=hO.trans a b a (by simpa using q2) (by simpa using q)
        rw [hO.irrefl a] at this; cases this
      · exact h1 x e
    · rename_i q
      refine List.pairwise_cons.2 ⟨fun x hx=>?_,h⟩
      rcases List.mem_cons.1 hx with e|e
      · rw [e]; exact q
      · have:=hO.ntrans x b a (by simpa using h1 x e) (by simpa using q)
        simpa using this
theorem kK {α:Type} {cmp:α→α→Int} (hO:SWO fun a b=>decide (cmp a b < 0)): ∀ l:List α,(srt cmp l).Pairwise fun a b=> ¬cmp b a < 0
  |[]=>List.Pairwise.nil
  |a::l=>vA hO a (kK hO l)
end Go.Proofs.YteehaobohaecmaaGreatDoor
namespace Go.Proofs.YteehaobohaecmaaGreatDoor
open Go
def lxR:List Int→List Int→Int
  |[],[]=>0
  |[],_::_=> -1
  |_::_,[]=>1
  |a::l,b::m=>if a < b then -1 else if b < a then 1 else lxR l m
theorem aDb: ∀ l:List Int,lxR l l=0
  |[]=>rfl
  |a::l=>by rw [lxR,if_neg (by omega),if_neg (by omega),aDb l]
theorem aBU: ∀ l m:List Int,lxR m l= -lxR l m
  |[],[]=>rfl
  |[],_::_=>rfl
  |_::_,[]=>rfl
  | a :: l, b :: m => by
    rw [lxR,lxR]
    by_cases h:a < b
    · rw [if_neg (by omega),if_pos h,if_pos h]; rfl
    · rw [if_neg h]
      by_cases h2:b < a
      · rw [if_pos h2,if_neg h,if_pos h2]
      · rw [if_neg h2,if_neg h,if_neg h2,aBU l m]
theorem aAF : ∀ l m k : List Int, lxR l m < 0 → lxR m k < 0 → lxR l k < 0
  |[],[],_,h,_=>by simp [lxR] at h
  |[],_::_,[],_,h=>by simp [lxR] at h
  |[],_::_,_::_,_,_=>by simp [lxR]
  |_::_,[],_,h,_=>by simp [lxR] at h
  |_::_,_::_,[],_,h=>by simp [lxR] at h
  | a :: l, b :: m, c :: k, h1, h2 => by
    rw [lxR] at h1 h2 ⊢
    by_cases p:a < b
    · by_cases q:b < c
      · rw [if_pos (by omega)]; decide
      · rw [if_neg q] at h2
        by_cases q2:c < b
        · rw [if_pos q2] at h2; omega
        · rw [if_pos (by omega)]; decide
    · rw [if_neg p] at h1
      by_cases p2:b < a
      · rw [if_pos p2] at h1; omega
      · rw [if_neg p2] at h1
        by_cases q:b < c
        · rw [if_pos (by omega)]; decide
        · rw [if_neg q] at h2
          by_cases q2:c < b
          · rw [if_pos q2] at h2; omega
          · rw [if_neg q2] at h2
            rw [if_neg (by omega),if_neg (by omega)]
            exact aAF l m k h1 h2
def cp3 (a b c:Int):Int:=if a≠0 then a else if b≠0 then b else c
mutual
def bU:Fm→Fm→Int
  | .nd o a k,.nd o' a' k'=>cp3 (cp3 (eJ o o') (eJ a a') (eJ k.length k'.length)) (lF k k') 0
def lF:List Fm→List Fm→Int
  |f::l,g::m=>if bU f g≠0 then bU f g else lF l m
  |_,_=>0
end
theorem aKI (f g:Fm):bU f g=cp3 (cp3 (eJ f.op g.op) (eJ f.arg g.arg) (eJ f.kids.length g.kids.length)) (lF f.kids g.kids) 0:=by cases f; cases g; rw [bU]; rfl
theorem aHL {l m:List Fm} {k:Nat} (h1:k < l.length) (h2:k < m.length) (h:bU (nth l k) (nth m k)≠0):lF (l.drop k) (m.drop k)=bU (nth l k) (nth m k):=by rw [dG h1,dG h2,lF,if_pos h]
theorem aLN {l m:List Fm} {k:Nat} (h1:k < l.length) (h2:k < m.length) (h: ¬bU (nth l k) (nth m k)≠0):lF (l.drop k) (m.drop k)=lF (l.drop (k+1)) (m.drop (k+1)):=by rw [dG h1,dG h2,lF,if_neg h]
theorem aIQ {l m:List Fm} {k:Nat} (h1:l.length≤k):lF (l.drop k) (m.drop k)=0:=by rw [List.drop_eq_nil_of_le h1]; rw [lF]; intro f l' g m' h; cases h
mutual
def flF:Fm→List Int
  | .nd o a k=>o::a::(k.length:Int)::flL k
def flL:List Fm→List Int
  |[]=>[]
  |f::l=>flF f++flL l
end
theorem lS (a b:Int):(a < b∧eJ a b= -1)∨(b < a∧eJ a b=1)∨(a=b∧eJ a b=0):=by
  unfold eJ
  by_cases h:a < b
  · exact .inl ⟨h,if_pos h⟩
  · by_cases h2:b < a
    · exact .inr (.inl ⟨h2,by rw [if_neg h,if_pos h2]⟩)
    · exact .inr (.inr ⟨by omega,by rw [if_neg h,if_neg h2]⟩)
theorem xK (a b:Int) (l m:List Int):lxR (a::l) (b::m)=if eJ a b≠0 then eJ a b else lxR l m:=by
  rw [lxR]
  rcases lS a b with ⟨h,e⟩|⟨h,e⟩|⟨h,e⟩
  · rw [e,if_pos h]; rfl
  · rw [e,if_neg (by omega),if_pos h]; rfl
  · rw [e,if_neg (by omega),if_neg (by omega)]; rfl
mutual
theorem aFS : ∀ (f g : Fm) (x y : List Int), lxR (flF f ++ x) (flF g ++ y) = if bU f g ≠ 0 then bU f g else lxR x y
  | .nd o a k, .nd o' a' k', x, y => by
    rw [flF,flF,bU]
    show lxR (o::a::(k.length:Int)::(flL k++x)) (o'::a'::(k'.length:Int)::(flL k'++y))=_
    rw [xK,xK,xK]
    unfold cp3
    by_cases h1:eJ o o'≠0
    · rw [if_pos h1]; simp only [if_pos h1]
    · rw [if_neg h1]
      simp only [if_neg h1]
      by_cases h2:eJ a a'≠0
      · rw [if_pos h2]; simp only [if_pos h2]
      · rw [if_neg h2]
        simp only [if_neg h2]
        by_cases h3:eJ (k.length:Int) k'.length≠0
        · rw [if_pos h3]; simp only [if_pos h3]
        · rw [if_neg h3]
          simp only [if_neg h3]
          have hl:k.length=k'.length:=by
            rcases lS (k.length:Int) k'.length with ⟨h,e⟩|⟨h,e⟩|⟨h,e⟩ <;> omega
          rw [aET k k' x y hl]
          by_cases h4:lF k k'≠0
          · simp only [if_pos h4]
          · simp only [if_neg h4]; rfl
theorem aET: ∀ (l m:List Fm) (x y:List Int),l.length=m.length→lxR (flL l++x) (flL m++y)=if lF l m≠0 then lF l m else lxR x y
  | [], [], x, y, _ => by
    rw [flL,lF]
    · simp
    · intro f l' g m' h; cases h
  |[],g::m,_,_,h=>by simp at h
  |f::l,[],_,_,h=>by simp at h
  | f :: l, g :: m, x, y, h => by
    rw [flL,flL,List.append_assoc,List.append_assoc,aFS f g,aET l m x y (by simpa using h),lF]
    by_cases h1:bU f g≠0
    · simp only [if_pos h1]
    · simp only [if_neg h1]
end
theorem rI (f g:Fm):bU f g=lxR (flF f) (flF g):=by
  have h:=aFS f g [] []
  rw [List.append_nil,List.append_nil] at h
  rw [h]
  split
  · rfl
  · rename_i q; show bU f g=0; omega
mutual
theorem kG : ∀ f g : Fm, bU f g = 0 → f = g
  | .nd o a k, .nd o' a' k', h => by
    rw [bU] at h
    unfold cp3 at h
    by_cases h1:eJ o o'≠0
    · simp only [if_pos h1] at h; exact absurd h h1
    · simp only [if_neg h1] at h
      by_cases h2:eJ a a'≠0
      · simp only [if_pos h2] at h; exact absurd h h2
      · simp only [if_neg h2] at h
        by_cases h3:eJ (k.length:Int) k'.length≠0
        · simp only [if_pos h3] at h; exact absurd h h3
        · simp only [if_neg h3] at h
          by_cases h4:lF k k'≠0
          · rw [if_pos h4] at h; exact absurd h h4
          · have e1:o=o':=by rcases lS o o' with ⟨p,e⟩|⟨p,e⟩|⟨p,e⟩ <;> omega
            have e2:a=a':=by rcases lS a a' with ⟨p,e⟩|⟨p,e⟩|⟨p,e⟩ <;> omega
            have e3:k.length=k'.length:=by rcases lS (k.length:Int) k'.length with ⟨p,e⟩|⟨p,e⟩|⟨p,e⟩ <;> omega
            rw [e1,e2,aAt k k' e3 (by omega)]
theorem aAt: ∀ l m:List Fm,l.length=m.length→lF l m=0→l=m
  |[],[],_,_=>rfl
  |[],g::m,h,_=>by simp at h
  |f::l,[],h,_=>by simp at h
  | f :: l, g :: m, h, h2 => by
    rw [lF] at h2
    by_cases h1:bU f g≠0
    · rw [if_pos h1] at h2; exact absurd h2 h1
    · rw [if_neg h1] at h2
      rw [kG f g (by omega),aAt l m (by simpa using h) h2]
end
theorem lP (f:Fm):bU f f=0:=by rw [rI,aDb]
theorem lR (f g:Fm):bU g f= -bU f g:=by rw [rI,rI,aBU]
theorem mR {f g h:Fm} (h1:bU f g < 0) (h2:bU g h < 0):bU f h < 0:=by
  rw [rI] at*; exact aAF _ _ _ h1 h2
theorem aLI {f g h:Fm} (h1: ¬bU g f < 0) (h2: ¬bU h g < 0): ¬bU h f < 0:=by
  intro q
  by_cases e:bU f g=0
  · rw [kG _ _ e] at q; exact h2 q
  · have:=lR f g
    exact h2 (mR q (by omega))
theorem rC:Go.Sort.SWO fun a b:Fm=>decide (bU a b < 0) where
  irrefl x:=by rw [lP]; rfl
  trans x y z h1 h2:=decide_eq_true (mR (of_decide_eq_true h1) (of_decide_eq_true h2))
  ntrans x y z h1 h2:=decide_eq_false (aLI (f:=z) (g:=y) (h:=x) (of_decide_eq_false h2) (of_decide_eq_false h1))
abbrev gU (l:List Fm):Prop:=l.Pairwise fun a b=>bU a b < 0
theorem tA {l m : List Fm} (h1 : gU l) (h2 : gU m) (h : ∀ x, x ∈ l ↔ x ∈ m) : l = m := by
  induction l generalizing m with
  | nil =>
    cases m with
    |nil=>rfl
    |cons b m=>exact absurd ((h b).2 (List.mem_cons_self ..)) (List.not_mem_nil)
  | cons a l ih =>
    cases m with
    |nil=>exact absurd ((h a).1 (List.mem_cons_self ..)) (List.not_mem_nil)
    | cons b m =>
      obtain ⟨a1,a2⟩:=List.pairwise_cons.1 h1
      obtain ⟨b1,b2⟩:=List.pairwise_cons.1 h2
      have hab:a=b:=by
        rcases List.mem_cons.1 ((h a).1 (List.mem_cons_self ..)) with e|e
        · exact e
        · rcases List.mem_cons.1 ((h b).2 (List.mem_cons_self ..)) with e2|e2
          · exact e2.symm
          · have q1:=b1 a e
            have q2:=a1 b e2
            have:=lR a b
            omega
      subst hab
      rw [ih a2 b2 fun x=>?_]
      have na:a∉l:=fun q=>by have:=a1 a q; rw [lP] at this; omega
      have nb:a∉m:=fun q=>by have:=b1 a q; rw [lP] at this; omega
      constructor
      · intro hx
        rcases List.mem_cons.1 ((h x).1 (List.mem_cons_of_mem _ hx)) with e|e
        · subst e; exact absurd hx na
        · exact e
      · intro hx
        rcases List.mem_cons.1 ((h x).2 (List.mem_cons_of_mem _ hx)) with e|e
        · subst e; exact absurd hx nb
        · exact e
def tX (f:Fm):List Fm→List Fm
  |[]=>[f]
  |g::l=>if bU f g < 0 then f::g::l else if bU f g=0 then g::l else g::tX f l
theorem xS {f x : Fm} : ∀ {l : List Fm}, x ∈ tX f l ↔ x = f ∨ x ∈ l
  |[]=>by simp [tX]
  | g :: l => by
    rw [tX]
    split
    · simp
    · split
      · rename_i h; have:=kG _ _ h; subst this; simp
      · simp only [List.mem_cons,xS (l:=l)]
        constructor
        · rintro (h|h|h)
          · exact .inr (.inl h)
          · exact .inl h
          · exact .inr (.inr h)
        · rintro (h|h|h)
          · exact .inr (.inl h)
          · exact .inl h
          · exact .inr (.inr h)
theorem aCd {f : Fm} : ∀ {l : List Fm}, gU l → gU (tX f l)
  |[],_=>List.pairwise_singleton _ _
  | g :: l, h => by
    obtain ⟨h1,h2⟩:=List.pairwise_cons.1 h
    rw [tX]
    split
    · rename_i q
      refine List.pairwise_cons.2 ⟨fun x hx=>?_,h⟩
      rcases List.mem_cons.1 hx with e|e
      · rw [e]; exact q
      · exact mR q (h1 x e)
    · split
      · exact h
      · rename_i q q2
        refine List.pairwise_cons.2 ⟨fun x hx=>?_,aCd h2⟩
        rcases xS.1 hx with e|e
        · rw [e]; have:=lR f g; omega
        · exact h1 x e
theorem aCM {f:Fm}: ∀ l:List Fm,(tX f l).length≤l.length+1
  |[]=>by simp [tX]
  | g :: l => by
    rw [tX]
    split
    · simp
    · split
      · simp
      · have:=aCM (f:=f) l; simp; omega
def unF (c d:List Fm):List Fm:=d.foldl (fun l f=>tX f l) c
theorem pA {x:Fm}: ∀ {d c:List Fm},x∈unF c d↔x∈c∨x∈d
  |[],c=>by simp [unF]
  | f :: d, c => by
    show x∈unF (tX f c) d↔_
    rw [pA (d:=d),xS,List.mem_cons]
    constructor
    · rintro ((h|h)|h)
      · exact .inr (.inl h)
      · exact .inl h
      · exact .inr (.inr h)
    · rintro (h|h|h)
      · exact .inl (.inr h)
      · exact .inl (.inl h)
      · exact .inr h
theorem rV: ∀ {d c:List Fm},gU c→gU (unF c d)
  |[],_,h=>h
  |f::d,c,h=>rV (d:=d) (aCd h)
theorem vU: ∀ (d c:List Fm),(unF c d).length≤c.length+d.length
  |[],c=>by simp [unF]
  | f :: d, c => by
    have h1:=vU d (tX f c)
    have h2:=aCM (f:=f) c
    show (unF (tX f c) d).length≤_
    rw [List.length_cons]; omega
abbrev sF (l:List Fm):List Fm:=srt bU l
theorem qB {l:List Fm} {x:Fm}:x∈sF l↔x∈l:=(iF bU l).mem_iff
theorem aJ3 (l:List Fm):(sF l).length=l.length:=(iF bU l).length_eq
theorem aIO {l:List Fm} (h:l.Nodup):gU (sF l):=by
  have h1:=kK rC l
  have h2:(sF l).Nodup:=(iF bU l).nodup_iff.2 h
  exact (h1.and h2).imp fun {a b} ⟨q1,q2⟩=>by
    have:=lR a b
    by_cases e:bU a b=0
    · exact absurd (kG _ _ e) q2
    · omega
end Go.Proofs.YteehaobohaecmaaGreatDoor
namespace Go.Proofs.YteehaobohaecmaaGreatDoor
open Go
abbrev Cl:=List Fm
def eS (c d:Cl):Bool:=d.all fun x=>c.any fun y=>fU y x
theorem jE {c d:Cl}:eS c d=true↔ ∀ x∈d,x∈c:=by
  unfold eS
  rw [List.all_eq_true]
  constructor
  · intro h x hx
    obtain ⟨y,hy,e⟩:=List.any_eq_true.1 (h x hx)
    rw [(fY y x).1 e] at hy; exact hy
  · intro h x hx
    exact List.any_eq_true.2 ⟨x,h x hx,wL x⟩
theorem tH (c:Cl):eS c c=true:=jE.2 fun _ h=>h
def wth (s:List Cl) (c:Cl):List Cl:=if s.any (fun d=>eS c d)=true then s else s.filter (fun d=> !eS d c)++[c]
theorem aKR (s:List Cl) (c:Cl):(wth s c).length≤s.length+1:=by
  unfold wth
  split
  · omega
  · rw [List.length_append]; have:=List.length_filter_le (fun d=> !eS d c) s; simp; omega
def wths (s t:List Cl):List Cl:=t.foldl wth s
theorem oA: ∀ (t s:List Cl),(wths s t).length≤s.length+t.length
  |[],s=>Nat.le_refl _
  | c :: t, s => by
    have h1:=oA t (wth s c)
    have h2:=aKR s c
    show (wths (wth s c) t).length≤_
    rw [List.length_cons]; omega
theorem aB9 (s t u:List Cl):wths s (t++u)=wths (wths s t) u:=List.foldl_append
def prC (out:List Cl) (c:Cl) (b:List Cl):List Cl:=wths out (b.map (unF c))
def prd (a b:List Cl):List Cl:=a.foldl (fun out c=>prC out c b) []
def zN (out a b:List Cl):List Cl:=a.foldl (fun out c=>prC out c b) out
theorem xG (b:List Cl): ∀ (a out:List Cl),(zN out a b).length≤out.length+a.length*b.length
  |[],out=>by simp [zN]
  | c :: a, out => by
    have h1:=xG b a (prC out c b)
    have h2:=oA (b.map (unF c)) out
    rw [List.length_map] at h2
    show (zN (prC out c b) a b).length≤_
    have h3:(prC out c b).length≤out.length+b.length:=h2
    rw [List.length_cons,Nat.succ_mul]; omega
def evC (S:Fm→Bool) (c:Cl):Bool:=c.all S
def evS (S:Fm→Bool) (s:List Cl):Bool:=s.any (evC S)
theorem kU {S:Fm→Bool} {c:Cl}:evC S c=true↔ ∀ x∈c,S x=true:=List.all_eq_true
theorem fL {S:Fm→Bool} {s:List Cl}:evS S s=true↔ ∃ c∈s,evC S c=true:=List.any_eq_true
theorem aFh {S:Fm→Bool} {c d:Cl} (h:eS c d=true) (hc:evC S c=true):evC S d=true:=kU.2 fun x hx=>kU.1 hc x (jE.1 h x hx)
theorem fI {a b:Bool} (h:a=true↔b=true):a=b:=by cases a <;> cases b <;> simp_all
theorem aKV (S : Fm → Bool) (s : List Cl) (c : Cl) : evS S (wth s c) = (evS S s || evC S c) := by
  refine fI ?_
  rw [Bool.or_eq_true]
  unfold wth
  split
  · rename_i h
    constructor
    · exact .inl
    · rintro (q|q)
      · exact q
      · obtain ⟨d,hd,e⟩:=List.any_eq_true.1 h
        exact fL.2 ⟨d,hd,aFh e q⟩
  · constructor
    · intro q
      obtain ⟨d,hd,e⟩:=fL.1 q
      rcases List.mem_append.1 hd with hd|hd
      · exact .inl (fL.2 ⟨d,(List.mem_filter.1 hd).1,e⟩)
      · rw [List.mem_singleton.1 hd] at e; exact .inr e
    · rintro (q|q)
      · obtain ⟨d,hd,e⟩:=fL.1 q
        by_cases k:eS d c=true
        · exact fL.2 ⟨c,List.mem_append_right _ (List.mem_singleton.2 rfl),aFh k e⟩
        · exact fL.2 ⟨d,List.mem_append_left _ (List.mem_filter.2 ⟨hd,by simpa using k⟩),e⟩
      · exact fL.2 ⟨c,List.mem_append_right _ (List.mem_singleton.2 rfl),q⟩
theorem yX (S:Fm→Bool): ∀ (t s:List Cl),evS S (wths s t)=(evS S s||evS S t)
  |[],s=>by simp [wths,evS]
  | c :: t, s => by
    show evS S (wths (wth s c) t)=_
    rw [yX S t,aKV,Bool.or_assoc]; rfl
theorem aPD (S:Fm→Bool) (c d:Cl):evC S (unF c d)=(evC S c&&evC S d):=by
  refine fI ?_
  rw [Bool.and_eq_true,kU,kU,kU]
  constructor
  · intro h; exact ⟨fun x hx=>h x (pA.2 (.inl hx)),fun x hx=>h x (pA.2 (.inr hx))⟩
  · rintro ⟨h1,h2⟩ x hx
    rcases pA.1 hx with q|q
    · exact h1 x q
    · exact h2 x q
theorem aFp (S:Fm→Bool) (c:Cl): ∀ b:List Cl,evS S (b.map (unF c))=(evC S c&&evS S b)
  |[]=>by simp [evS]
  | d :: b => by
    show (evC S (unF c d)||evS S (b.map (unF c)))=(evC S c&&(evC S d||evS S b))
    rw [aPD,aFp S c b,Bool.and_or_distrib_left]
theorem aBZ (S:Fm→Bool) (b:List Cl): ∀ (a out:List Cl),evS S (zN out a b)=(evS S out||(evS S a&&evS S b))
  |[],out=>by simp [zN,evS]
  | c :: a, out => by
    show evS S (zN (prC out c b) a b)=(evS S out||((evC S c||evS S a)&&evS S b))
    rw [aBZ S b a,prC,yX,aFp]
    cases evS S out <;> cases evC S c <;> cases evS S a <;> cases evS S b <;> rfl
theorem aMf (S:Fm→Bool) (a b:List Cl):evS S (prd a b)=(evS S a&&evS S b):=by
  have h:prd a b=zN [] a b:=rfl
  rw [h,aBZ]
  rfl
structure Ant (s:List Cl):Prop where
  srt: ∀ c∈s,gU c
  two:s.Pairwise fun c d=>eS c d=false∧eS d c=false
theorem Ant.nil:Ant []:=⟨fun _ h=>absurd h List.not_mem_nil,List.Pairwise.nil⟩
theorem Ant.one {c:Cl} (h:gU c):Ant [c]:=⟨fun d hd=>by rw [List.mem_singleton.1 hd]; exact h,List.pairwise_singleton _ _⟩
theorem aLd {s:List Cl} {c:Cl} (h:Ant s) (hc:gU c):Ant (wth s c):=by
  unfold wth
  split
  · exact h
  · rename_i q
    refine ⟨fun d hd=>?_,List.pairwise_append.2 ⟨h.two.filter _,List.pairwise_singleton _ _,fun d hd e he=>?_⟩⟩
    · rcases List.mem_append.1 hd with hd|hd
      · exact h.srt d (List.mem_filter.1 hd).1
      · rw [List.mem_singleton.1 hd]; exact hc
    · rw [List.mem_singleton.1 he]
      obtain ⟨h1,h2⟩:=List.mem_filter.1 hd
      refine ⟨by simpa using h2,?_⟩
      cases k:eS c d with
      |false=>rfl
      |true=>exact absurd (List.any_eq_true.2 ⟨d,h1,k⟩) q
theorem nV: ∀ {t s:List Cl},Ant s→(∀ c∈t,gU c)→Ant (wths s t)
  |[],_,h,_=>h
  |c::t,s,h,ht=>nV (t:=t) (s:=wth s c) (aLd h (ht c (List.mem_cons_self ..))) fun d hd=>ht d (List.mem_cons_of_mem _ hd)
theorem xD {b:List Cl}: ∀ {a out:List Cl},Ant out→(∀ c∈a,gU c)→Ant (zN out a b)
  |[],_,h,_=>h
  | c :: a, out, h, ha => xD (a := a) (out := prC out c b) (nV h fun d hd => by
      obtain ⟨e,_,rfl⟩:=List.mem_map.1 hd; exact rV (ha c (List.mem_cons_self ..))) fun d hd=>ha d (List.mem_cons_of_mem _ hd)
theorem aEP {a b:List Cl} (ha:Ant a):Ant (prd a b):=xD Ant.nil ha.srt
theorem Ant.nodup {s:List Cl} (h:Ant s):s.Nodup:=h.two.imp fun {a b} q e=>by
  subst e; rw [tH] at q; cases q.1
theorem aNI {c d:Cl} (hc:gU c) (hd:gU d) (h1:eS c d=true) (h2:eS d c=true):c=d:=
  tA hc hd fun x=>⟨fun h=>jE.1 h2 x h,fun h=>jE.1 h1 x h⟩
theorem aIq {α:Type} {R:α→α→Prop}: ∀ {l:List α},l.Pairwise R→(∀ a b,R a b→R b a)→ ∀ {a b:α},a∈l→b∈l→a≠b→R a b
  |[],_,_,_,_,h,_,_=>absurd h List.not_mem_nil
  | x :: l, h, hs, a, b, ha, hb, hne => by
    obtain ⟨h1,h2⟩:=List.pairwise_cons.1 h
    rcases List.mem_cons.1 ha with e|e
    · rcases List.mem_cons.1 hb with e2|e2
      · exact absurd (e.trans e2.symm) hne
      · rw [e]; exact h1 b e2
    · rcases List.mem_cons.1 hb with e2|e2
      · rw [e2]; exact hs _ _ (h1 a e)
      · exact aIq h2 hs e e2 hne
theorem aFP {s t:List Cl} (hs:Ant s) (ht:Ant t) (h: ∀ S,evS S s=evS S t) {c:Cl} (hc:c∈s):c∈t:=by
  let S:Cl→Fm→Bool:=fun c x=>c.any fun y=>fU y x
  have key: ∀ c d:Cl,evC (S c) d=eS c d:=fun _ _=>rfl
  have h1:evS (S c) s=true:=fL.2 ⟨c,hc,by rw [key]; exact tH c⟩
  rw [h] at h1
  obtain ⟨d,hd,e⟩:=fL.1 h1
  rw [key] at e
  have h2:evS (S d) t=true:=fL.2 ⟨d,hd,by rw [key]; exact tH d⟩
  rw [← h] at h2
  obtain ⟨c',hc',e'⟩:=fL.1 h2
  rw [key] at e'
  have e2:eS c c'=true:=jE.2 fun x hx=>jE.1 e x (jE.1 e' x hx)
  have hcc:c=c':=by
    refine Classical.byContradiction fun hne=>?_
    have:=(aIq hs.two (fun a b q=>⟨q.2,q.1⟩) hc hc' hne).1
    rw [e2] at this; cases this
  subst hcc
  rw [aNI (hs.srt c hc) (ht.srt d hd) e e']; exact hd
theorem aKe {s t:List Cl} (hs:Ant s) (ht:Ant t) (h: ∀ S,evS S s=evS S t):s.Perm t:=
  (List.perm_ext_iff_of_nodup hs.nodup ht.nodup).2 fun c=>⟨aFP hs ht h,aFP ht hs fun S=>(h S).symm⟩
def noF:Fm:=.nd 4 0 [.nd 1 0 []]
def aDz:Fm:=.nd 1 0 []
def clF (c:Cl):Fm:=if c.length=1 then nth c 0 else .nd 5 0 c
def fin (s:List Cl):Fm:=
  if s.length=0 then noF else if s.any (fun c=>decide (c.length=0))=true then aDz else if s.length=1 then clF (nth s 0) else .nd 6 0 (sF (s.map clF))
def AtS (s:List Cl):Prop:= ∀ c∈s,∀ x∈c,x.op≠5
theorem aLD {c d:Cl} (hc: ∀ x∈c,x.op≠5) (hd: ∀ x∈d,x.op≠5) (h:clF c=clF d):c=d:=by
  unfold clF at h
  by_cases h1:c.length=1
  · rw [if_pos h1] at h
    have m1:nth c 0∈c:=cG (by omega)
    by_cases h2:d.length=1
    · rw [if_pos h2] at h
      match c,d,h1,h2,h with
      |[x],[y],_,_,h=>have h':x=y:=h; rw [h']
    · rw [if_neg h2] at h
      exact absurd (by rw [h]; rfl) (hc _ m1)
  · rw [if_neg h1] at h
    by_cases h2:d.length=1
    · rw [if_pos h2] at h
      have m1:nth d 0∈d:=cG (by omega)
      exact absurd (by rw [← h]; rfl) (hd _ m1)
    · rw [if_neg h2] at h
      injection h
theorem uE {s:List Cl} (hs:s.Nodup) (ha:AtS s):(s.map clF).Nodup:=by
  induction s with
  |nil=>exact List.nodup_nil
  | cons c s ih =>
    obtain ⟨h1,h2⟩:=List.nodup_cons.1 hs
    rw [List.map_cons,List.nodup_cons]
    refine ⟨fun q=>?_,ih h2 fun d hd=>ha d (List.mem_cons_of_mem _ hd)⟩
    obtain ⟨d,hd,e⟩:=List.mem_map.1 q
    have:=aLD (ha d (List.mem_cons_of_mem _ hd)) (ha c (List.mem_cons_self ..)) e
    rw [this] at hd; exact h1 hd
theorem aHh {s t : List Cl} (hp : s.Perm t) (hs : Ant s) (ht : Ant t) (ha : AtS s) : fin s = fin t := by
  have hat:AtS t:=fun c hc=>ha c (hp.mem_iff.2 hc)
  have hl:=hp.length_eq
  unfold fin
  rw [hl]
  by_cases h0:t.length=0
  · rw [if_pos h0,if_pos h0]
  · rw [if_neg h0, if_neg h0]
    have hany:s.any (fun c=>decide (c.length=0))=t.any (fun c=>decide (c.length=0)):=by
      refine fI ?_
      rw [List.any_eq_true,List.any_eq_true]
      exact ⟨fun ⟨c,h,e⟩=>⟨c,hp.mem_iff.1 h,e⟩,fun ⟨c,h,e⟩=>⟨c,hp.mem_iff.2 h,e⟩⟩
    rw [hany]
    by_cases h1:t.any (fun c=>decide (c.length=0))=true
    · rw [if_pos h1,if_pos h1]
    · rw [if_neg h1,if_neg h1]
      by_cases h2:t.length=1
      · rw [if_pos h2,if_pos h2]
        obtain ⟨c,rfl⟩:=List.length_eq_one_iff.1 (hl.trans h2)
        obtain ⟨d,rfl⟩:=List.length_eq_one_iff.1 h2
        have:c∈[d]:=hp.mem_iff.1 (List.mem_singleton.2 rfl)
        rw [List.mem_singleton.1 this]
      · rw [if_neg h2,if_neg h2]
        congr 1
        refine tA (aIO (uE hs.nodup ha)) (aIO (uE ht.nodup hat)) fun x=>?_
        rw [qB,qB]
        exact (hp.map clF).mem_iff
end Go.Proofs.YteehaobohaecmaaGreatDoor
namespace Go.Proofs.YteehaobohaecmaaGreatDoor
open Go
mutual
def cls : Fm → Option (List Cl)
  | .nd o a k => if o = 1 then some [[]] else if o = 4 then (if (nth k 0).op = 1 then some [] else some [[.nd o a k]])
    else if o=2∨o=3 then some [[.nd o a k]] else if o=6 then djL k [] else if o=5 then cjL k [[]]
    else match eL k with
      |none=>none
      |some l=>some [[.nd o 0 l]]
def djL : List Fm → List Cl → Option (List Cl)
  |[],out=>if 64 < out.length then none else some out
  | f :: l, out => match cls f with
    |none=>none
    |some s=>djL l (wths out s)
def cjL : List Fm → List Cl → Option (List Cl)
  |[],out=>some out
  | f :: l, out => match cls f with
    |none=>none
    |some s=>if 64 < (prd out s).length then none else cjL l (prd out s)
def eL : List Fm → Option (List Fm)
  |[]=>some []
  | f :: l => match cls f with
    |none=>none
    | some s => match eL l with
      |none=>none
      |some r=>some (fin s::r)
end
def can (f:Fm):Option Fm:=(cls f).map fin
theorem nD (f:Fm):cls f=if f.op=1 then some [[]] else if f.op=4 then (if (nth f.kids 0).op=1 then some [] else some [[f]])
    else if f.op=2∨f.op=3 then some [[f]] else if f.op=6 then djL f.kids [] else if f.op=5 then cjL f.kids [[]]
    else match eL f.kids with
      |none=>none
      |some l=>some [[.nd f.op 0 l]]:=by cases f; rw [cls]; rfl
section
variable {f:Fm} {l:List Fm} {out s:List Cl} {k:Nat}
theorem uH (h:f.op=1):cls f=some [[]]:=by rw [nD,if_pos h]
theorem uJ (h:f.op=4) (h2:(nth f.kids 0).op=1):cls f=some []:=by rw [nD,if_neg (by omega),if_pos h,if_pos h2]
theorem pZ (h:f.op=4) (h2: ¬(nth f.kids 0).op=1):cls f=some [[f]]:=by rw [nD,if_neg (by omega),if_pos h,if_neg h2]
theorem mP (h:f.op=2∨f.op=3):cls f=some [[f]]:=by rw [nD,if_neg (by omega),if_neg (by omega),if_pos h]
theorem rL (h:f.op=6):cls f=djL f.kids []:=by rw [nD,if_neg (by omega),if_neg (by omega),if_neg (by omega),if_pos h]
theorem qW (h:f.op=5):cls f=cjL f.kids [[]]:=by rw [nD,if_neg (by omega),if_neg (by omega),if_neg (by omega),if_neg (by omega),if_pos h]
theorem uY (h: ¬(f.op=1∨f.op=2∨f.op=3∨f.op=4∨f.op=5∨f.op=6)):cls f=(eL f.kids).map fun l=>[[.nd f.op 0 l]]:=by
  rw [nD,if_neg (by omega),if_neg (by omega),if_neg (by omega),if_neg (by omega),if_neg (by omega)]
  cases eL f.kids <;> rfl
theorem aEY (h:l.length≤k):djL (l.drop k) out=if 64 < out.length then none else some out:=by rw [List.drop_eq_nil_of_le h,djL]
theorem aIX (h:k < l.length) (e:cls (nth l k)=none):djL (l.drop k) out=none:=by rw [dG h,djL,e]
theorem aPb (h:k < l.length) (e:cls (nth l k)=some s):djL (l.drop k) out=djL (l.drop (k+1)) (wths out s):=by rw [dG h,djL,e]
theorem aEJ (h:l.length≤k):cjL (l.drop k) out=some out:=by rw [List.drop_eq_nil_of_le h,cjL]
theorem aIi (h:k < l.length) (e:cls (nth l k)=none):cjL (l.drop k) out=none:=by rw [dG h,cjL,e]
theorem aED (h:k < l.length) (e:cls (nth l k)=some s) (e2:64 < (prd out s).length):cjL (l.drop k) out=none:=by rw [dG h,cjL,e]; exact if_pos e2
theorem aNy (h:k < l.length) (e:cls (nth l k)=some s) (e2: ¬64 < (prd out s).length):cjL (l.drop k) out=cjL (l.drop (k+1)) (prd out s):=by rw [dG h,cjL,e]; exact if_neg e2
theorem aJf (h:l.length≤k):eL (l.drop k)=some []:=by rw [List.drop_eq_nil_of_le h,eL]
theorem aMg (h:k < l.length) (e:can (nth l k)=none):eL (l.drop k)=none:=by
  rw [dG h,eL]
  unfold can at e
  cases q:cls (nth l k) with
  |none=>rfl
  |some s=>rw [q] at e; cases e
theorem aEW {g:Fm} (h:k < l.length) (e:can (nth l k)=some g):eL (l.drop k)=(eL (l.drop (k+1))).map fun r=>g::r:=by
  rw [dG h,eL]
  unfold can at e
  cases q:cls (nth l k) with
  |none=>rw [q] at e; cases e
  | some s =>
    rw [q] at e
    injection e with e
    subst e
    cases eL (l.drop (k+1)) <;> rfl
end
theorem sD: ∀ {l r:List Fm},eL l=some r→r.length=l.length
  |[],_,h=>by rw [eL] at h; cases h; rfl
  | f :: l, r, h => by
    rw [eL] at h
    cases q:cls f with
    |none=>rw [q] at h; cases h
    | some s =>
      rw [q] at h
      simp only at h
      cases q2:eL l with
      |none=>rw [q2] at h; cases h
      |some r'=>rw [q2] at h; cases h; simp [sD q2]
theorem nX : ∀ {l r : List Fm} {k : Nat}, eL l = some r → k < l.length → can (nth l k) = some (nth r k)
  |[],_,_,_,h=>absurd h (Nat.not_lt_zero _)
  | f :: l, r, k, h, hk => by
    rw [eL] at h
    cases q:cls f with
    |none=>rw [q] at h; cases h
    | some s =>
      rw [q] at h
      simp only at h
      cases q2:eL l with
      |none=>rw [q2] at h; cases h
      | some r' =>
        rw [q2] at h
        cases h
        cases k with
        |zero=>show (cls f).map fin=_; rw [q]; rfl
        |succ k=>exact nX (k:=k) q2 (by simpa using hk)
def atB (o:Int):Prop:=o=2∨o=3∨o=4∨o=7∨o=8∨o=9∨o=10
def AtL (s:List Cl):Prop:= ∀ c∈s,∀ x∈c,atB x.op
theorem AtL.ats {s:List Cl} (h:AtL s):AtS s:=fun c hc x hx=>by have:=h c hc x hx; unfold atB at this; omega
theorem aKD {s:List Cl} {c d:Cl} (h:d∈wth s c):d∈s∨d=c:=by
  unfold wth at h
  split at h
  · exact .inl h
  · rcases List.mem_append.1 h with h|h
    · exact .inl (List.mem_filter.1 h).1
    · exact .inr (List.mem_singleton.1 h)
theorem lN {d:Cl}: ∀ {t s:List Cl},d∈wths s t→d∈s∨d∈t
  |[],_,h=>.inl h
  | c :: t, s, h => by
    rcases lN (t:=t) (s:=wth s c) h with h|h
    · rcases aKD h with h|h
      · exact .inl h
      · rw [h]; exact .inr (List.mem_cons_self ..)
    · exact .inr (List.mem_cons_of_mem _ h)
theorem aCO {b : List Cl} {d : Cl} : ∀ {a out : List Cl}, d ∈ zN out a b → d ∈ out ∨ ∃ c ∈ a, ∃ e ∈ b, d = unF c e
  |[],_,h=>.inl h
  | c :: a, out, h => by
    rcases aCO (a:=a) (out:=prC out c b) h with h|⟨c',h1,e,h2,h3⟩
    · rcases lN h with h|h
      · exact .inl h
      · obtain ⟨e,he,rfl⟩:=List.mem_map.1 h
        exact .inr ⟨c,List.mem_cons_self ..,e,he,rfl⟩
    · exact .inr ⟨c',List.mem_cons_of_mem _ h1,e,h2,h3⟩
theorem aFZ {a b:List Cl} {d:Cl} (h:d∈prd a b): ∃ c∈a,∃ e∈b,d=unF c e:=by
  rcases aCO (out:=[]) h with h|h
  · exact absurd h List.not_mem_nil
  · exact h
def eD (p:Fm→Prop) (s:List Cl):Prop:= ∀ c∈s,∀ x∈c,p x
theorem eD.wths {p:Fm→Prop} {s t:List Cl} (hs:eD p s) (ht:eD p t):eD p (wths s t):=fun c hc=>by
  rcases lN hc with h|h
  · exact hs c h
  · exact ht c h
theorem eD.prd {p:Fm→Prop} {s t:List Cl} (hs:eD p s) (ht:eD p t):eD p (prd s t):=fun c hc x hx=>by
  obtain ⟨d,hd,e,he,rfl⟩:=aFZ hc
  rcases pA.1 hx with q|q
  · exact hs d hd x q
  · exact ht e he x q
structure GdS (s:List Cl):Prop where
  ant:Ant s
  at_:AtL s
  len:s.length≤64
theorem aDm: ∀ {l:List Fm} {out s:List Cl},(∀ k,k < l.length→ ∀ t,cls (nth l k)=some t→GdS t)→Ant out→AtL out→djL l out=some s→GdS s
  | [], out, s, _, h1, h2, h => by
    rw [djL] at h
    split at h
    · cases h
    · cases h; exact ⟨h1,h2,by omega⟩
  | f :: l, out, s, hk, h1, h2, h => by
    rw [djL] at h
    cases q:cls f with
    |none=>rw [q] at h; cases h
    | some t =>
      rw [q] at h
      have g:=hk 0 (by simp) t q
      exact aDm (fun k hl t ht=>hk (k+1) (by simpa using hl) t ht) (nV h1 g.ant.srt) (eD.wths h2 g.at_) h
theorem aC1 : ∀ {l : List Fm} {out s : List Cl}, (∀ k, k < l.length → ∀ t, cls (nth l k) = some t → GdS t) → GdS out → cjL l out = some s → GdS s
  |[],out,s,_,h1,h=>by rw [cjL] at h; cases h; exact h1
  | f :: l, out, s, hk, h1, h => by
    rw [cjL] at h
    cases q:cls f with
    |none=>rw [q] at h; cases h
    | some t =>
      rw [q] at h
      simp only at h
      split at h
      · cases h
      · rename_i hl
        have g:=hk 0 (by simp) t q
        exact aC1 (fun k hl t ht=>hk (k+1) (by simpa using hl) t ht) ⟨aEP h1.ant,eD.prd h1.at_ g.at_,by omega⟩ h
theorem xC {x:Fm} (h:atB x.op):GdS [[x]]:=⟨Ant.one (List.pairwise_singleton _ _),fun c hc y hy=>by rw [List.mem_singleton.1 hc] at hy; rw [List.mem_singleton.1 hy]; exact h,by simp⟩
theorem tW:GdS [[]]:=⟨Ant.one List.Pairwise.nil,fun c hc y hy=>by rw [List.mem_singleton.1 hc] at hy; exact absurd hy List.not_mem_nil,by simp⟩
theorem lM (f:Fm):okF f=true→ ∀ s,cls f=some s→GdS s:=by
  refine fH (p:=fun f=>okF f=true→ ∀ s,cls f=some s→GdS s) (fun f ih hf s hs=>?_) f
  obtain ⟨hr,hk⟩:=bJ hf
  obtain ⟨r1,r2,_⟩:=cP hr
  have K: ∀ k,k < f.kids.length→ ∀ t,cls (nth f.kids k)=some t→GdS t:=fun k h=>ih k h (hk k h)
  by_cases h1:f.op=1
  · rw [uH h1] at hs; cases hs; exact tW
  by_cases h4:f.op=4
  · by_cases q:(nth f.kids 0).op=1
    · rw [uJ h4 q] at hs; cases hs; exact ⟨Ant.nil,fun c hc=>absurd hc List.not_mem_nil,by simp⟩
    · rw [pZ h4 q] at hs; cases hs; exact xC (by unfold atB; omega)
  by_cases h23:f.op=2∨f.op=3
  · rw [mP h23] at hs; cases hs; exact xC (by unfold atB; omega)
  by_cases h6:f.op=6
  · rw [rL h6] at hs; exact aDm K Ant.nil (fun c hc=>absurd hc List.not_mem_nil) hs
  by_cases h5:f.op=5
  · rw [qW h5] at hs; exact aC1 K tW hs
  rw [uY (by omega)] at hs
  cases q:eL f.kids with
  |none=>rw [q] at hs; cases hs
  |some l=>rw [q] at hs; cases hs; exact xC (show atB f.op by unfold atB; omega)
mutual
def evF (S : Fm → Bool) : Fm → Bool
  | .nd o a k => if o = 1 then true else if o = 4 then (if (nth k 0).op = 1 then false else S (.nd o a k)) else if o = 2 ∨ o = 3 then S (.nd o a k)
    else if o=6 then sP S k else if o=5 then rK S k else S (.nd o 0 ((eL k).getD []))
def sP (S:Fm→Bool):List Fm→Bool
  |[]=>false
  |f::l=>evF S f||sP S l
def rK (S:Fm→Bool):List Fm→Bool
  |[]=>true
  |f::l=>evF S f&&rK S l
end
theorem tC (S:Fm→Bool) (f:Fm):evF S f=if f.op=1 then true else if f.op=4 then (if (nth f.kids 0).op=1 then false else S f) else if f.op=2∨f.op=3 then S f
    else if f.op=6 then sP S f.kids else if f.op=5 then rK S f.kids else S (.nd f.op 0 ((eL f.kids).getD [])):=by cases f; rw [evF]; rfl
theorem sU (S:Fm→Bool): ∀ l:List Fm,sP S l=l.any (evF S)
  |[]=>by rw [sP]; rfl
  |f::l=>by rw [sP,sU S l]; rfl
theorem oU (S:Fm→Bool): ∀ l:List Fm,rK S l=l.all (evF S)
  |[]=>by rw [rK]; rfl
  |f::l=>by rw [rK,oU S l]; rfl
theorem aHI {S:Fm→Bool}: ∀ {l:List Fm} {out s:List Cl},(∀ k,k < l.length→ ∀ t,cls (nth l k)=some t→evS S t=evF S (nth l k))→djL l out=some s→evS S s=(evS S out||sP S l)
  | [], out, s, _, h => by
    rw [djL] at h
    split at h
    · cases h
    · cases h; rw [sP,Bool.or_false]
  | f :: l, out, s, hk, h => by
    rw [djL] at h
    cases q:cls f with
    |none=>rw [q] at h; cases h
    | some t =>
      rw [q] at h
      have g:=hk 0 (by simp) t q
      rw [aHI (fun k hl t ht=>hk (k+1) (by simpa using hl) t ht) h,yX,g,sP,Bool.or_assoc]; rfl
theorem aEo {S : Fm → Bool} : ∀ {l : List Fm} {out s : List Cl}, (∀ k, k < l.length → ∀ t, cls (nth l k) = some t → evS S t = evF S (nth l k)) → cjL l out = some s → evS S s = (evS S out && rK S l)
  |[],out,s,_,h=>by rw [cjL] at h; cases h; rw [rK,Bool.and_true]
  | f :: l, out, s, hk, h => by
    rw [cjL] at h
    cases q:cls f with
    |none=>rw [q] at h; cases h
    | some t =>
      rw [q] at h
      simp only at h
      split at h
      · cases h
      · have g:=hk 0 (by simp) t q
        rw [aEo (fun k hl t ht=>hk (k+1) (by simpa using hl) t ht) h,aMf,g,rK,Bool.and_assoc]; rfl
theorem aA8 (S:Fm→Bool) (f:Fm):okF f=true→ ∀ s,cls f=some s→evS S s=evF S f:=by
  refine fH (p:=fun f=>okF f=true→ ∀ s,cls f=some s→evS S s=evF S f) (fun f ih hf s hs=>?_) f
  obtain ⟨hr,hk⟩:=bJ hf
  have K: ∀ k,k < f.kids.length→ ∀ t,cls (nth f.kids k)=some t→evS S t=evF S (nth f.kids k):=fun k h=>ih k h (hk k h)
  have one: ∀ x:Fm,evS S [[x]]=S x:=fun x=>by simp [evS,evC]
  rw [tC]
  by_cases h1:f.op=1
  · rw [uH h1] at hs; cases hs; rw [if_pos h1]; rfl
  rw [if_neg h1]
  by_cases h4:f.op=4
  · rw [if_pos h4]
    by_cases q:(nth f.kids 0).op=1
    · rw [uJ h4 q] at hs; cases hs; rw [if_pos q]; rfl
    · rw [pZ h4 q] at hs; cases hs; rw [if_neg q]; exact one f
  rw [if_neg h4]
  by_cases h23:f.op=2∨f.op=3
  · rw [mP h23] at hs; cases hs; rw [if_pos h23]; exact one f
  rw [if_neg h23]
  by_cases h6:f.op=6
  · rw [rL h6] at hs; rw [if_pos h6,aHI K hs]; rfl
  rw [if_neg h6]
  by_cases h5:f.op=5
  · rw [qW h5] at hs; rw [if_pos h5,aEo K hs]; rfl
  rw [if_neg h5]
  rw [uY (by omega)] at hs
  cases q:eL f.kids with
  |none=>rw [q] at hs; cases hs
  |some l=>rw [q] at hs; cases hs; exact one _
end Go.Proofs.YteehaobohaecmaaGreatDoor
namespace Go.Proofs.YteehaobohaecmaaGreatDoor
open Go
theorem aH4 {α:Type} {p:α→Bool} {l m:List α} (h:l.Perm m):l.any p=m.any p:=fI (by
  rw [List.any_eq_true,List.any_eq_true]
  exact ⟨fun ⟨x,hx,e⟩=>⟨x,h.mem_iff.1 hx,e⟩,fun ⟨x,hx,e⟩=>⟨x,h.mem_iff.2 hx,e⟩⟩)
theorem kC (s:List Cl):(s=[]∧fin s=noF)∨([]∈s∧fin s=aDz)∨(∃ c,c≠[]∧s=[c]∧fin s=clF c)∨(2≤s.length∧[]∉s∧fin s=.nd 6 0 (sF (s.map clF))):=by
  unfold fin
  by_cases h0:s.length=0
  · exact .inl ⟨List.length_eq_zero_iff.1 h0,if_pos h0⟩
  rw [if_neg h0]
  by_cases h1:s.any (fun c=>decide (c.length=0))=true
  · refine .inr (.inl ⟨?_,if_pos h1⟩)
    obtain ⟨c,hc,e⟩:=List.any_eq_true.1 h1
    rw [List.length_eq_zero_iff.1 (of_decide_eq_true e)] at hc; exact hc
  rw [if_neg h1]
  have hn:[]∉s:=fun q=>h1 (List.any_eq_true.2 ⟨[],q,rfl⟩)
  by_cases h2:s.length=1
  · obtain ⟨c,rfl⟩:=List.length_eq_one_iff.1 h2
    exact .inr (.inr (.inl ⟨c,fun e=>hn (by rw [e]; exact List.mem_singleton.2 rfl),rfl,if_pos h2⟩))
  · exact .inr (.inr (.inr ⟨by omega,hn,if_neg h2⟩))
theorem aE9 {v:Fm→Bool} (h1:v aDz=true) (h0:v noF=false) (h5: ∀ l,v (.nd 5 0 l)=l.all v) (h6: ∀ l,v (.nd 6 0 l)=l.any v) (s:List Cl):v (fin s)=evS v s:=by
  have hc: ∀ c:Cl,c≠[]→v (clF c)=evC v c:=fun c hc=>by
    unfold clF
    split
    · rename_i q
      obtain ⟨x,rfl⟩:=List.length_eq_one_iff.1 q
      simp [evC]
      rfl
    · exact h5 c
  rcases kC s with ⟨rfl,e⟩|⟨hm,e⟩|⟨c,hne,rfl,e⟩|⟨h2,hn,e⟩
  · rw [e,h0]; rfl
  · rw [e,h1]; exact (fL.2 ⟨[],hm,rfl⟩).symm
  · rw [e,hc c hne]; simp [evS]
  · rw [e,h6,aH4 (iF bU _),List.any_map]
    refine fI ?_
    rw [List.any_eq_true]
    unfold evS
    rw [List.any_eq_true]
    constructor
    · rintro ⟨c,h,q⟩; exact ⟨c,h,by rw [← hc c (fun k=>hn (k ▸ h))]; exact q⟩
    · rintro ⟨c,h,q⟩; exact ⟨c,h,by show v (clF c)=true; rw [hc c (fun k=>hn (k ▸ h))]; exact q⟩
theorem aEU (t:Tr) (i:Nat) (s:List Cl):sat t (fin s) i=evS (fun x=>sat t x i) s:=by
  refine aE9 (v:=fun x=>sat t x i) (by rw [bT]; rfl) (by rw [bT]; rfl) (fun l=>?_) (fun l=>?_) s
  · show sat t (.nd 5 0 l) i=_
    rw [bT]; show List.all _ _=_; rw [List.all_map]; rfl
  · show sat t (.nd 6 0 l) i=_
    rw [bT]; show List.any _ _=_; rw [List.any_map]; rfl
theorem aCe: ∀ {l:List Fm} {out s:List Cl},djL l out=some s→ ∀ k,k < l.length→ ∃ t,cls (nth l k)=some t
  |[],_,_,_,k,h=>absurd h (Nat.not_lt_zero k)
  | f :: l, out, s, h, k, hk => by
    rw [djL] at h
    cases q:cls f with
    |none=>rw [q] at h; cases h
    | some t =>
      rw [q] at h
      cases k with
      |zero=>exact ⟨t,q⟩
      |succ k=>exact aCe (k:=k) h (by simpa using hk)
theorem aCv : ∀ {l : List Fm} {out s : List Cl}, cjL l out = some s → ∀ k, k < l.length → ∃ t, cls (nth l k) = some t
  |[],_,_,_,k,h=>absurd h (Nat.not_lt_zero k)
  | f :: l, out, s, h, k, hk => by
    rw [cjL] at h
    cases q:cls f with
    |none=>rw [q] at h; cases h
    | some t =>
      rw [q] at h
      simp only at h
      split at h
      · cases h
      · cases k with
        |zero=>exact ⟨t,q⟩
        |succ k=>exact aCv (k:=k) h (by simpa using hk)
theorem aBx {p q:Fm→Bool} {l:List Fm} (h: ∀ k,k < l.length→p (nth l k)=q (nth l k)):l.any p=l.any q:=by
  refine fI ?_
  rw [List.any_eq_true,List.any_eq_true]
  constructor <;> rintro ⟨x,hx,e⟩ <;> obtain ⟨j,hj,rfl⟩:=dJ hx
  · exact ⟨_,hx,by rw [← h j hj]; exact e⟩
  · exact ⟨_,hx,by rw [h j hj]; exact e⟩
theorem aA0 {p q:Fm→Bool} {l:List Fm} (h: ∀ k,k < l.length→p (nth l k)=q (nth l k)):l.all p=l.all q:=by
  refine fI ?_
  rw [List.all_eq_true,List.all_eq_true]
  constructor <;> intro g x hx <;> obtain ⟨j,hj,rfl⟩:=dJ hx
  · rw [← h j hj]; exact g _ hx
  · rw [h j hj]; exact g _ hx
theorem aOd (t:Tr) (f:Fm):okF f=true→ ∀ s,cls f=some s→ ∀ i,evF (fun x=>sat t x i) f=sat t f i:=by
  refine fH (p:=fun f=>okF f=true→ ∀ s,cls f=some s→ ∀ i,evF (fun x=>sat t x i) f=sat t f i) (fun f ih hf s hs i=>?_) f
  obtain ⟨hr,hk⟩:=bJ hf
  obtain ⟨r1,r2,r3,r4,r5,r6,r7,r8,r9⟩:=cP hr
  rw [tC]
  by_cases h1:f.op=1
  · rw [if_pos h1,bT,h1]; rfl
  rw [if_neg h1]
  by_cases h4:f.op=4
  · rw [if_pos h4]
    by_cases q:(nth f.kids 0).op=1
    · rw [if_pos q,bT,h4]
      show _= !(nth (f.kids.map (sat t)) 0 i)
      rw [eU (by have:=r4 (.inl h4); omega),bT,q]; rfl
    · rw [if_neg q]
  rw [if_neg h4]
  by_cases h23:f.op=2∨f.op=3
  · rw [if_pos h23]
  rw [if_neg h23]
  by_cases h6:f.op=6
  · rw [rL h6] at hs
    rw [if_pos h6,sU,bT,h6]
    show _=List.any _ _
    rw [List.any_map]
    exact aBx fun k h=>by obtain ⟨u,hu⟩:=aCe hs k h; exact ih k h (hk k h) u hu i
  rw [if_neg h6]
  by_cases h5:f.op=5
  · rw [qW h5] at hs
    rw [if_pos h5,oU,bT,h5]
    show _=List.all _ _
    rw [List.all_map]
    exact aA0 fun k h=>by obtain ⟨u,hu⟩:=aCv hs k h; exact ih k h (hk k h) u hu i
  rw [if_neg h5]
  rw [uY (by omega)] at hs
  cases q:eL f.kids with
  |none=>rw [q] at hs; cases hs
  | some l =>
    have hl:=sD q
    rw [Option.getD_some,bT,bT t f,r7 (by omega)]
    show vE t f.op 0 (l.map (sat t)) i=_
    congr 1
    refine List.ext_getElem (by simpa using hl) fun k p1 p2=>?_
    rw [List.length_map] at p1 p2
    rw [List.getElem_map,List.getElem_map,bA p1,bA p2]
    have hc:=nX q p2
    unfold can at hc
    cases q2:cls (nth f.kids k) with
    |none=>rw [q2] at hc; cases hc
    | some u =>
      rw [q2] at hc
      injection hc with hc
      rw [← hc]
      funext j
      rw [aEU,aA8 _ _ (hk k p2) u q2]
      exact ih k p2 (hk k p2) u q2 j
theorem aFV {t:Tr} {f g:Fm} (hf:okF f=true) (h:can f=some g) (i:Nat):sat t g i=sat t f i:=by
  unfold can at h
  cases q:cls f with
  |none=>rw [q] at h; cases h
  | some s =>
    rw [q] at h
    injection h with h
    rw [← h,aEU,aA8 _ _ hf s q]
    exact aOd t f hf s q i
structure CA (x:Fm):Prop where
  ok:okF x=true
  nn:nnf x=true
  sh:(x.op=2∨x.op=3)∨(x.op=4∧(nth x.kids 0).op≠1)∨((x.op=7∨x.op=8∨x.op=9∨x.op=10)∧eL x.kids=some x.kids)
theorem CA.at_ {x:Fm} (h:CA x):atB x.op:=by
  unfold atB
  rcases h.sh with h|⟨h,_⟩|⟨h,_⟩ <;> omega
theorem CA.cls {x:Fm} (h:CA x):cls x=some [[x]]:=by
  rcases h.sh with q|⟨q,q2⟩|⟨q,q2⟩
  · exact mP q
  · exact pZ q q2
  · rw [uY (by omega),q2]
    have ha:x.arg=0:=(cP (bJ h.ok).1).2.2.2.2.2.2.1 (by omega)
    have e:Fm.nd x.op 0 x.kids=x:=by rw [← ha]; exact x.eta
    show some [[Fm.nd x.op 0 x.kids]]=_
    rw [e]
theorem CA.ev {x:Fm} (h:CA x) (S:Fm→Bool):evF S x=S x:=by
  have:=aA8 S x h.ok _ h.cls
  rw [← this]; simp [evS,evC]
theorem sA {s:List Cl} (ha:eD CA s):okF (fin s)=true∧nnf (fin s)=true:=by
  have hcl: ∀ c∈s,c≠[]→okF (clF c)=true∧nnf (clF c)=true∧(clF c).op≠1:=fun c hc hne=>by
    unfold clF
    split
    · rename_i q
      have hm:nth c 0∈c:=cG (by omega)
      have:=(ha c hc _ hm).at_
      exact ⟨(ha c hc _ hm).ok,(ha c hc _ hm).nn,by unfold atB at this; omega⟩
    · rename_i q
      have hl:c.length≠0:=fun e=>hne (List.length_eq_zero_iff.1 e)
      refine ⟨sY (.inr (.inr ⟨.inl rfl,by omega⟩)) (List.all_eq_true.2 fun x hx=>(ha c hc x hx).ok),pM fun k hk=>⟨fun e=>absurd (show (5:Int)=4 from e) (by decide),?_⟩,(by decide:(5:Int)≠1)⟩
      exact (ha c hc _ (cG hk)).nn
  rcases kC s with ⟨rfl,e⟩|⟨hm,e⟩|⟨c,hne,rfl,e⟩|⟨h2,hn,e⟩
  · rw [e]; exact ⟨by decide+kernel,by decide+kernel⟩
  · rw [e]; exact ⟨by decide+kernel,by decide+kernel⟩
  · rw [e]; exact ⟨(hcl c (List.mem_singleton.2 rfl) hne).1,(hcl c (List.mem_singleton.2 rfl) hne).2.1⟩
  · rw [e]
    have hl:(sF (s.map clF)).length=s.length:=by rw [aJ3,List.length_map]
    have hk: ∀ x∈sF (s.map clF),okF x=true∧nnf x=true:=fun x hx=>by
      obtain ⟨c,hc,rfl⟩:=List.mem_map.1 (qB.1 hx)
      have:=hcl c hc (fun k=>hn (k ▸ hc))
      exact ⟨this.1,this.2.1⟩
    refine ⟨sY (.inr (.inr ⟨.inr rfl,by omega⟩)) (List.all_eq_true.2 fun x hx=>(hk x hx).1),pM fun k hk2=>⟨fun e=>absurd (show (6:Int)=4 from e) (by decide),(hk _ (cG hk2)).2⟩⟩
theorem aHN: ∀ {l:List Fm} {out:List Cl},(∀ k,k < l.length→ ∃ c,cls (nth l k)=some [c])→out.length+l.length≤64→ ∃ s,djL l out=some s
  |[],out,_,h=>⟨out,by rw [djL,if_neg (by simpa using h)]⟩
  | f :: l, out, hk, h => by
    obtain ⟨c,hc⟩:=hk 0 (by simp)
    have h1:=oA [c] out
    have e:cls f=some [c]:=hc
    obtain ⟨s,hs⟩:=aHN (l:=l) (out:=wths out [c]) (fun k hl=>hk (k+1) (by simpa using hl)) (by simp only [List.length_cons,List.length_nil] at h h1; omega)
    exact ⟨s,by rw [djL,e]; exact hs⟩
theorem aHm: ∀ {l:List Fm} {out:List Cl},(∀ k,k < l.length→ ∃ c,cls (nth l k)=some [c])→out.length≤1→ ∃ s,cjL l out=some s∧s.length≤1
  |[],out,_,h=>⟨out,by rw [cjL],h⟩
  | f :: l, out, hk, h => by
    obtain ⟨c,hc⟩:=hk 0 (by simp)
    have h1:(prd out [c]).length≤0+out.length*1:=xG [c] out []
    have e:cls f=some [c]:=hc
    obtain ⟨s,hs,hl⟩:=aHm (l:=l) (out:=prd out [c]) (fun k hl=>hk (k+1) (by simpa using hl)) (by omega)
    exact ⟨s,by rw [cjL,e]; show (if _ then _ else _)=_; rw [if_neg (by omega)]; exact hs,hl⟩
theorem aE7 {c:Cl} (hc:gU c) (ha: ∀ x∈c,CA x) (hne:c≠[]): ∃ d,cls (clF c)=some [d]:=by
  have hl:c.length≠0:=fun e=>hne (List.length_eq_zero_iff.1 e)
  by_cases q:c.length=1
  · unfold clF
    rw [if_pos q]
    exact ⟨_,(ha _ (cG (show 0 < c.length by omega))).cls⟩
  · have e:clF c=.nd 5 0 c:=if_neg q
    obtain ⟨s,hs,hl2⟩:=aHm (l:=c) (out:=[[]]) (fun k hk=>⟨_,(ha _ (cG hk)).cls⟩) (by simp)
    rw [e,qW rfl]
    show ∃ d,cjL c [[]]=some [d]
    rw [hs]
    match s,hl2 with
    |[d],_=>exact ⟨d,rfl⟩
    | [], _ =>
      exfalso
      have h1:=aEo (S:=fun _=>true) (fun k hk t ht=>by rw [(ha _ (cG hk)).cls] at ht; cases ht; rw [(ha _ (cG hk)).ev]; simp [evS,evC]) hs
      rw [oU] at h1
      have h2:c.all (evF fun _=>true)=true:=List.all_eq_true.2 fun x hx=>(ha x hx).ev _
      rw [h2] at h1
      cases h1
theorem aQl {s : List Cl} (hs : GdS s) (ha : eD CA s) : can (fin s) = some (fin s) := by
  obtain ⟨hok,_⟩:=sA ha
  have hsome: ∃ u,cls (fin s)=some u:=by
    rcases kC s with ⟨rfl,e⟩|⟨hm,e⟩|⟨c,hne,rfl,e⟩|⟨h2,hn,e⟩
    · rw [e]; exact ⟨[],uJ rfl rfl⟩
    · rw [e]; exact ⟨[[]],uH rfl⟩
    · rw [e]
      obtain ⟨d,hd⟩:=aE7 (hs.ant.srt c (List.mem_singleton.2 rfl)) (ha c (List.mem_singleton.2 rfl)) hne
      exact ⟨_,hd⟩
    · rw [e,rL rfl]
      refine aHN (fun k hk=>?_) ?_
      · obtain ⟨c,hc,e2⟩:=List.mem_map.1 (qB.1 (cG hk))
        show ∃ c,cls (nth (sF (s.map clF)) k)=some [c]
        rw [show nth (sF (s.map clF)) k=clF c from e2.symm]
        exact aE7 (hs.ant.srt c hc) (ha c hc) fun q=>hn (q ▸ hc)
      · show 0+(sF (s.map clF)).length≤64
        rw [aJ3,List.length_map]; have:=hs.len; omega
  obtain ⟨u,hu⟩:=hsome
  have gu:=lM _ hok u hu
  have he: ∀ S,evS S u=evS S s:=fun S=>by
    rw [aA8 S _ hok u hu]
    have:=aE9 (v:=evF S) (by rw [tC]; rfl) (by rw [tC]; rfl) (fun l=>by rw [tC]; exact oU S l) (fun l=>by rw [tC]; exact sU S l) s
    rw [this]
    refine fI ?_
    rw [fL,fL]
    constructor <;> rintro ⟨c,hc,q⟩ <;> refine ⟨c,hc,kU.2 fun x hx=>?_⟩
    · have:=kU.1 q x hx; rwa [(ha c hc x hx).ev] at this
    · rw [(ha c hc x hx).ev]; exact kU.1 q x hx
  unfold can
  rw [hu]
  show some (fin u)=_
  rw [aHh (aKe gu.ant hs.ant he) gu.ant hs.ant gu.at_.ats]
theorem aIF: ∀ {l:List Fm} {out s:List Cl},(∀ k,k < l.length→ ∀ t,cls (nth l k)=some t→eD CA t)→eD CA out→djL l out=some s→eD CA s
  | [], out, s, _, h1, h => by
    rw [djL] at h
    split at h
    · cases h
    · cases h; exact h1
  | f :: l, out, s, hk, h1, h => by
    rw [djL] at h
    cases q:cls f with
    |none=>rw [q] at h; cases h
    | some t =>
      rw [q] at h
      exact aIF (fun k hl t ht=>hk (k+1) (by simpa using hl) t ht) (eD.wths h1 (hk 0 (by simp) t q)) h
theorem aI6: ∀ {l:List Fm} {out s:List Cl},(∀ k,k < l.length→ ∀ t,cls (nth l k)=some t→eD CA t)→eD CA out→cjL l out=some s→eD CA s
  |[],out,s,_,h1,h=>by rw [cjL] at h; cases h; exact h1
  | f :: l, out, s, hk, h1, h => by
    rw [cjL] at h
    cases q:cls f with
    |none=>rw [q] at h; cases h
    | some t =>
      rw [q] at h
      simp only at h
      split at h
      · cases h
      · exact aI6 (fun k hl t ht=>hk (k+1) (by simpa using hl) t ht) (eD.prd h1 (hk 0 (by simp) t q)) h
theorem fG {f:Fm} (h:nnf f=true) {k:Nat} (hk:k < f.kids.length):nnf (nth f.kids k)=true∧(f.op=4→(nth f.kids k).op≤3):=by
  rw [aJ5,List.all_eq_true] at h
  have:=h _ (cG hk)
  rw [Bool.not_eq_true',Bool.or_eq_false_iff,Bool.not_eq_false',decide_eq_false_iff_not] at this
  exact ⟨this.2,by have:=this.1; omega⟩
theorem aBO {x:Fm} (h:CA x):eD CA [[x]]:=fun c hc y hy=>by rw [List.mem_singleton.1 hc] at hy; rw [List.mem_singleton.1 hy]; exact h
theorem aAJ (f : Fm) : okF f = true → nnf f = true → ∀ s, cls f = some s → eD CA s := by
  refine fH (p:=fun f=>okF f=true→nnf f=true→ ∀ s,cls f=some s→eD CA s) (fun f ih hf hn s hs=>?_) f
  obtain ⟨hr,hk⟩:=bJ hf
  obtain ⟨r1,r2,r3,r4,r5,r6,r7,r8,r9⟩:=cP hr
  have K: ∀ k,k < f.kids.length→ ∀ t,cls (nth f.kids k)=some t→eD CA t:=fun k h=>ih k h (hk k h) (fG hn h).1
  by_cases h1:f.op=1
  · rw [uH h1] at hs; cases hs; exact fun c hc x hx=>by rw [List.mem_singleton.1 hc] at hx; exact absurd hx List.not_mem_nil
  by_cases h4:f.op=4
  · by_cases q:(nth f.kids 0).op=1
    · rw [uJ h4 q] at hs; cases hs; exact fun c hc=>absurd hc List.not_mem_nil
    · rw [pZ h4 q] at hs; cases hs; exact aBO ⟨hf,hn,.inr (.inl ⟨h4,q⟩)⟩
  by_cases h23:f.op=2∨f.op=3
  · rw [mP h23] at hs; cases hs; exact aBO ⟨hf,hn,.inl h23⟩
  by_cases h6:f.op=6
  · rw [rL h6] at hs; exact aIF K (fun c hc=>absurd hc List.not_mem_nil) hs
  by_cases h5:f.op=5
  · rw [qW h5] at hs; exact aI6 K (fun c hc x hx=>by rw [List.mem_singleton.1 hc] at hx; exact absurd hx List.not_mem_nil) hs
  rw [uY (by omega)] at hs
  cases q:eL f.kids with
  |none=>rw [q] at hs; cases hs
  | some l =>
    rw [q] at hs
    cases hs
    have hl:=sD q
    have kid: ∀ k,k < l.length→okF (nth l k)=true∧nnf (nth l k)=true∧can (nth l k)=some (nth l k):=fun k h=>by
      have hc:=nX q (k:=k) (by omega)
      unfold can at hc
      cases q2:cls (nth f.kids k) with
      |none=>rw [q2] at hc; cases hc
      | some u =>
        rw [q2] at hc
        injection hc with hc
        have ca:=K k (by omega) u q2
        rw [← hc]
        exact ⟨(sA ca).1,(sA ca).2,aQl (lM _ (hk k (by omega)) u q2) ca⟩
    refine aBO ⟨sY ?_ (List.all_eq_true.2 fun x hx=>by obtain ⟨j,hj,rfl⟩:=dJ hx; exact (kid j hj).1),pM fun k h=>⟨fun e=>absurd (show f.op=4 from e) h4,(kid k h).2.1⟩,.inr (.inr ⟨show f.op=7∨f.op=8∨f.op=9∨f.op=10 by omega,?_⟩)⟩
    · rw [hl]
      by_cases a:f.op=7∨f.op=9
      · exact .inl ⟨.inr a,r4 (by omega)⟩
      · exact .inr (.inl ⟨by omega,r6 (by omega)⟩)
    · show eL l=some l
      have key: ∀ m:List Fm,(∀ k,k < m.length→can (nth m k)=some (nth m k))→eL m=some m:=by
        intro m
        induction m with
        |nil=>intro _; rw [eL]
        | cons g m ihm =>
          intro h
          have h0:can g=some g:=h 0 (by simp)
          have:=aEW (l:=g::m) (k:=0) (by simp) h0
          rw [List.drop_zero] at this
          rw [this]
          show (eL m).map _=_
          rw [ihm fun k hk=>h (k+1) (by simpa using hk)]; rfl
      exact key l fun k h=>(kid k h).2.2
theorem aO4 (g : Fm) : okF g = true → nnf g = true → nrm g false = g := by
  refine fH (p:=fun g=>okF g=true→nnf g=true→nrm g false=g) (fun g ih hg hn=>?_) g
  obtain ⟨hr,hk⟩:=bJ hg
  obtain ⟨r1,r2,r3,r4,r5,r6,r7,r8,r9⟩:=cP hr
  by_cases h4:g.op=4
  · have hl:=r4 (.inl h4)
    have h3:=(fG hn (k:=0) (by omega)).2 h4
    have hrk:=(bJ (hk 0 (by omega))).1
    rw [mE h4 (by omega)]
    have hz:(nth g.kids 0).kids.length=0:=by
      obtain ⟨q1,q2,q3,_⟩:=cP hrk
      exact q3 (by omega)
    rw [show (!false)=true from rfl,aFB (by omega) hz]
    have e:g.kids=[nth g.kids 0]:=by
      match hq:g.kids,hl with
      |[a],_=>rfl
    have ha:=r7 (by omega)
    rw [← e,← h4,← ha]; exact g.eta
  · rcases opK hr with ⟨h0,_⟩|⟨h0,ha,_⟩
    · exact aFc h4 h0
    · rw [gF h4 h0]
      have e:(g.kids.map fun k=>nrm k false)=g.kids:=by
        rw [aRF (q:=id) fun k h=>ih k h (hk k h) (fG hn h).1]; simp
      rw [e,← ha]; exact g.eta
structure Canon (g:Fm):Prop where
  ok:okF g=true
  nn:nnf g=true
  id:can g=some g
theorem oO {f g:Fm} (hf:okF f=true) (hn:nnf f=true) (h:can f=some g):Canon g:=by
  unfold can at h
  cases q:cls f with
  |none=>rw [q] at h; cases h
  | some s =>
    rw [q] at h
    injection h with h
    have ca:=aAJ f hf hn s q
    rw [← h]
    exact ⟨(sA ca).1,(sA ca).2,aQl (lM f hf s q) ca⟩
end Go.Proofs.YteehaobohaecmaaGreatDoor
namespace Go.Proofs.YteehaobohaecmaaGreatDoor
open Go
structure PE where
  ia:List (List UInt8)
  oa:List (List UInt8)
  src:List UInt8
structure PS where
  pos:Nat
  wd:List UInt8
  dep:Nat
instance:Inhabited PS:=⟨⟨0,[],0⟩⟩
inductive PR (α:Type) where
  |ok (a:α) (s:PS)
  |er (pos:Nat) (e:Int)
def aQD (ty:TypeId) (a:Nat) (e:Int):Value:=.iface ty (.agg #[.int .i64 ((a:Nat):Int),.int .i64 e])
def aPc (e:PE) (s:PS):List V:=[.sl (e.ia.map cS),.sl (e.oa.map cS),.str e.src,iV (s.pos:Nat),.str s.wd,iV (s.dep:Nat)]
def PR.out {α:Type} (ty tf v:Nat) (e:PE) (fv:α→V):PR α→LOut
  | .ok a s=>.ok (fv a) (hpB (bk v ty 6 [aPc e s]))
  | .er p x=>.pan (aQD tf p x)
abbrev fmV (f:Fm):V:=.agg [iV f.op,iV f.arg,.sl (f.kids.map cF)]
def skp:List UInt8→Nat→Nat
  |[],p=>p
  |c::l,p=>if c=32 then skp l (p+1) else p
def aLb:List UInt8→Nat
  |[]=>0
  |c::l=>if wby c=true then aLb l+1 else 0
def tok (r:List UInt8):List UInt8:=
  if r=[] then [] else if prB r [45,62]=true then [45,62] else if 0≤Lib.indexByte [33,38,124,40,41] (nth r 0) then r.take 1 else r.take (aLb r)
def fT (e:PE) (s:PS):PR Unit:=
  let p:=skp (e.src.drop (s.pos+s.wd.length)) (s.pos+s.wd.length)
  if e.src.drop p≠[]∧tok (e.src.drop p)=[] then .er p 5 else .ok () ⟨p,tok (e.src.drop p),s.dep⟩
theorem aBq: ∀ (l:List UInt8) (p:Nat),p≤skp l p∧skp l p≤p+l.length
  |[],p=>⟨Nat.le_refl _,Nat.le_refl _⟩
  | c :: l, p => by
    simp only [skp]
    split
    · have:=aBq l (p+1); simp; omega
    · simp
def gW (e : PE) (rd : PS → Option (PR Fm)) (s : PS) : Option (PR Fm) :=
  match fT e s with
  | .er a x=>some (.er a x)
  | .ok _ s1 => if 128 < s1.dep + 1 then some (.er s1.pos 16) else match rd { s1 with dep := s1.dep + 1 } with
    |none=>none
    |some (.er a x)=>some (.er a x)
    |some (.ok f s2)=>some (.ok f {s2 with dep:=s2.dep - 1})
def jO (e : PE) (w : List UInt8) (rd : PS → Option (PR Fm)) : Nat → List Fm → PS → Option (PR (List Fm))
  |0,_,_=>none
  | k + 1, l, s => if s.wd = w then match fT e s with
      | .er a x=>some (.er a x)
      | .ok _ s1 => match rd s1 with
        |none=>none
        |some (.er a x)=>some (.er a x)
        |some (.ok f s2)=>jO e w rd k (l++[f]) s2
    else some (.ok l s)
def aM4 (op:Int) (l:List Fm):Fm:=if l.length=1 then nth l 0 else .nd op 0 l
def aJQ (op:Int):Option (PR (List Fm))→Option (PR Fm)
  |none=>none
  |some (.er a x)=>some (.er a x)
  |some (.ok l s)=>some (.ok (aM4 op l) s)
def tK (e:PE) (w:List UInt8) (op:Int) (rd:PS→Option (PR Fm)) (k:Nat) (s:PS):Option (PR Fm):=
  match rd s with
  |none=>none
  |some (.er a x)=>some (.er a x)
  |some (.ok f s1)=>aJQ op (jO e w rd k [f] s1)
def pC (p s:List UInt8):List UInt8:=if prB s p=true then s.drop p.length else s
def gV (e : PE) (s : PS) : PR Fm :=
  let r:Option (PR Fm):=
    if prB s.wd [105,110,58]=true then (if ixB e.ia (pC [105,110,58] s.wd)=true then none else some (.er s.pos 8))
    else if prB s.wd [111,117,116,58]=true then (if ixB e.oa (pC [111,117,116,58] s.wd)=true then none else some (.er s.pos 8))
    else if s.wd=[102,97,108,115,101] then none
    else if s.wd=[116,114,117,101] then none else some (.er s.pos 5)
  let f:Fm:=
    if prB s.wd [105,110,58]=true then .nd 2 (ixV e.ia (pC [105,110,58] s.wd)) []
    else if prB s.wd [111,117,116,58]=true then .nd 3 (ixV e.oa (pC [111,117,116,58] s.wd)) []
    else if s.wd=[102,97,108,115,101] then .nd 4 0 [.nd 1 0 []] else .nd 1 0 []
  match r with
  |some q=>q
  | none => match fT e s with
    | .er a x=>.er a x
    | .ok _ s1=>.ok f s1
inductive PK where
  |form|conj|bin|un
def vG (g:Fm→Fm):Option (PR Fm)→Option (PR Fm)
  |none=>none
  |some (.er a x)=>some (.er a x)
  |some (.ok f s)=>some (.ok (g f) s)
def pF (e : PE) : Nat → PK → PS → Option (PR Fm)
  |0,_,_=>none
  | k + 1, .form, s => match tK e [124] 6 (pF e k .conj) k s with
    |none=>none
    |some (.er a x)=>some (.er a x)
    |some (.ok f s1)=>if s1.wd=[45,62] then vG (fun g=>.nd 6 0 [.nd 4 0 [f],g]) (gW e (pF e k .form) s1) else some (.ok f s1)
  |k+1,.conj,s=>tK e [38] 5 (pF e k .bin) k s
  | k + 1, .bin, s => match pF e k .un s with
    |none=>none
    |some (.er a x)=>some (.er a x)
    |some (.ok f s1)=>if s1.wd=[85] then vG (fun g=>.nd 8 0 [f,g]) (gW e (pF e k .bin) s1) else if s1.wd=[82] then vG (fun g=>.nd 10 0 [f,g]) (gW e (pF e k .bin) s1) else some (.ok f s1)
  | k + 1, .un, s =>
    if s.wd=[33] then vG (fun g=>.nd 4 0 [g]) (gW e (pF e k .un) s)
    else if s.wd=[88] then vG (fun g=>.nd 7 0 [g]) (gW e (pF e k .un) s)
    else if s.wd=[78] then vG (fun g=>.nd 9 0 [g]) (gW e (pF e k .un) s)
    else if s.wd=[70] then vG (fun g=>.nd 8 0 [.nd 1 0 [],g]) (gW e (pF e k .un) s)
    else if s.wd=[71] then vG (fun g=>.nd 10 0 [.nd 4 0 [.nd 1 0 []],g]) (gW e (pF e k .un) s)
    else if s.wd=[40] then match gW e (pF e k .form) s with
      |none=>none
      |some (.er a x)=>some (.er a x)
      | some (.ok f s1) => if s1.wd = [41] then match fT e s1 with
          | .er a x=>some (.er a x)
          | .ok _ s2=>some (.ok f s2)
        else some (.er s1.pos 5)
    else some (gV e s)
structure OkS (e:PE) (s:PS):Prop where
  len:e.src.length≤1048576
  pos:s.pos+s.wd.length≤e.src.length
  dep:s.dep≤128
theorem aPB (r:List UInt8):(tok r).length≤r.length:=by
  unfold tok
  split
  · simp
  · split
    · rename_i h; exact (of_decide_eq_true h).1
    · split
      · simp; omega
      · simp; omega
theorem iE {e:PE} {s s1:PS} {u:Unit} (hs:OkS e s) (h:fT e s=.ok u s1):OkS e s1∧s1.dep=s.dep∧s.pos+s.wd.length≤s1.pos:=by
  unfold fT at h
  simp only at h
  have h1:=aBq (e.src.drop (s.pos+s.wd.length)) (s.pos+s.wd.length)
  rw [List.length_drop] at h1
  split at h
  · cases h
  · cases h
    have h2:=aPB (e.src.drop (skp (e.src.drop (s.pos+s.wd.length)) (s.pos+s.wd.length)))
    rw [List.length_drop] at h2
    have:=hs.pos
    refine ⟨⟨hs.len,?_,hs.dep⟩,rfl,h1.1⟩
    simp only
    omega
theorem aLM {r:List UInt8} (h:r≠[]) (h1: ¬prB r [45,62]=true) (h2:0≤Lib.indexByte [33,38,124,40,41] (nth r 0)):tok r=r.take 1:=by unfold tok; rw [if_neg h,if_neg h1,if_pos h2]
theorem aIU {r:List UInt8} {n:Nat} (h:r≠[]) (h1: ¬prB r [45,62]=true) (h2: ¬0≤Lib.indexByte [33,38,124,40,41] (nth r 0)) (hn:aLb r=n):tok r=r.take n:=by unfold tok; rw [if_neg h,if_neg h1,if_neg h2,hn]
def pK (e:PE) (R:PS→Option (PR Fm)):Prop:= ∀ s f s1,OkS e s→R s=some (.ok f s1)→OkS e s1∧s1.dep=s.dep
theorem gZ {e : PE} {R : PS → Option (PR Fm)} (hR : pK e R) : pK e (gW e R) := by
  intro s f s1 hs h
  unfold gW at h
  cases hx:fT e s with
  |er a x=>rw [hx] at h; cases h
  | ok u s2 =>
    rw [hx] at h
    obtain ⟨k1,k2,_⟩:=iE hs hx
    simp only at h
    split at h
    · cases h
    · rename_i hd
      have k3:OkS e {s2 with dep:=s2.dep+1}:=⟨k1.len,k1.pos,by show s2.dep+1≤128; omega⟩
      cases hy:R {s2 with dep:=s2.dep+1} with
      |none=>rw [hy] at h; cases h
      | some r =>
        rw [hy] at h
        cases r with
        |er a x=>cases h
        | ok g s3 =>
          cases h
          obtain ⟨k4,k5⟩:=hR _ _ _ k3 hy
          have k6:s3.dep=s2.dep+1:=k5
          exact ⟨⟨k4.len,k4.pos,by show s3.dep - 1≤128; omega⟩,by show s3.dep - 1=_; omega⟩
theorem uK {e : PE} {w : List UInt8} {R : PS → Option (PR Fm)} (hR : pK e R) : ∀ (k : Nat) (l : List Fm) (s : PS) (l1 : List Fm) (s1 : PS), OkS e s → jO e w R k l s = some (.ok l1 s1) → OkS e s1 ∧ s1.dep = s.dep
  |0,_,_,_,_,_,h=>by cases h
  | k + 1, l, s, l1, s1, hs, h => by
    rw [jO] at h
    split at h
    · cases hx : fT e s with
      |er a x=>rw [hx] at h; cases h
      | ok u s2 =>
        rw [hx] at h
        obtain ⟨k1,k2,_⟩:=iE hs hx
        simp only at h
        cases hy:R s2 with
        |none=>rw [hy] at h; cases h
        | some r =>
          rw [hy] at h
          cases r with
          |er a x=>cases h
          | ok g s3 =>
            obtain ⟨k3,k4⟩:=hR _ _ _ k1 hy
            obtain ⟨k5,k6⟩:=uK hR k _ _ _ _ k3 h
            exact ⟨k5,by omega⟩
    · cases h; exact ⟨hs,rfl⟩
theorem qG {e : PE} {w : List UInt8} {op : Int} {R : PS → Option (PR Fm)} {k : Nat} (hR : pK e R) : pK e (tK e w op R k) := by
  intro s f s1 hs h
  unfold tK at h
  cases hx:R s with
  |none=>rw [hx] at h; cases h
  | some r =>
    rw [hx] at h
    cases r with
    |er a x=>cases h
    | ok g s2 =>
      obtain ⟨k1,k2⟩:=hR _ _ _ hs hx
      simp only at h
      cases hy:jO e w R k [g] s2 with
      |none=>rw [hy] at h; cases h
      | some r =>
        rw [hy] at h
        cases r with
        |er a x=>cases h
        | ok l s3 =>
          cases h
          obtain ⟨k3,k4⟩:=uK hR k _ _ _ _ k1 hy
          exact ⟨k3,by omega⟩
theorem fV {e:PE} {g:Fm→Fm} {R:PS→Option (PR Fm)} (hR:pK e R):pK e fun s=>vG g (R s):=by
  intro s f s1 hs h
  simp only at h
  cases hx:R s with
  |none=>rw [hx] at h; cases h
  | some r =>
    rw [hx] at h
    cases r with
    |er a x=>cases h
    |ok q s2=>cases h; exact hR _ _ _ hs hx
theorem aCQ {e : PE} {s s1 : PS} {f : Fm} (hs : OkS e s) (h : gV e s = .ok f s1) : OkS e s1 ∧ s1.dep = s.dep := by
  unfold gV at h
  simp only at h
  split at h
  · rename_i q hq
    subst h
    split at hq
    · split at hq <;> cases hq
    · split at hq
      · split at hq <;> cases hq
      · split at hq
        · cases hq
        · split at hq <;> cases hq
  · cases hx:fT e s with
    |er a x=>rw [hx] at h; cases h
    |ok u s2=>rw [hx] at h; cases h; obtain ⟨k1,k2,_⟩:=iE hs hx; exact ⟨k1,k2⟩
theorem eV (e : PE) : ∀ (k : Nat) (K : PK), pK e (pF e k K)
  |0,_=>fun _ _ _ _ h=>by cases h
  | k + 1, .form => fun s f s1 hs h => by
    rw [pF] at h
    cases hx:tK e [124] 6 (pF e k .conj) k s with
    |none=>rw [hx] at h; cases h
    | some r =>
      rw [hx] at h
      cases r with
      |er a x=>cases h
      | ok g s2 =>
        obtain ⟨k1,k2⟩:=qG (eV e k .conj) _ _ _ hs hx
        simp only at h
        split at h
        · obtain ⟨k3,k4⟩:=fV (gZ (eV e k .form)) _ _ _ k1 h
          exact ⟨k3,by omega⟩
        · cases h; exact ⟨k1,k2⟩
  |k+1,.conj=>fun s f s1 hs h=>by rw [pF] at h; exact qG (eV e k .bin) _ _ _ hs h
  | k + 1, .bin => fun s f s1 hs h => by
    rw [pF] at h
    cases hx:pF e k .un s with
    |none=>rw [hx] at h; cases h
    | some r =>
      rw [hx] at h
      cases r with
      |er a x=>cases h
      | ok g s2 =>
        obtain ⟨k1,k2⟩:=eV e k .un _ _ _ hs hx
        simp only at h
        split at h
        · obtain ⟨k3,k4⟩:=fV (gZ (eV e k .bin)) _ _ _ k1 h
          exact ⟨k3,by omega⟩
        · split at h
          · obtain ⟨k3,k4⟩:=fV (gZ (eV e k .bin)) _ _ _ k1 h
            exact ⟨k3,by omega⟩
          · cases h; exact ⟨k1,k2⟩
  | k + 1, .un => fun s f s1 hs h => by
    rw [pF] at h
    have hu:=gZ (eV e k .un)
    split at h
    · exact fV hu _ _ _ hs h
    · split at h
      · exact fV hu _ _ _ hs h
      · split at h
        · exact fV hu _ _ _ hs h
        · split at h
          · exact fV hu _ _ _ hs h
          · split at h
            · exact fV hu _ _ _ hs h
            · split at h
              · cases hx : gW e (pF e k .form) s with
                |none=>rw [hx] at h; cases h
                | some r =>
                  rw [hx] at h
                  cases r with
                  |er a x=>cases h
                  | ok g s2 =>
                    obtain ⟨k1,k2⟩:=gZ (eV e k .form) _ _ _ hs hx
                    simp only at h
                    split at h
                    · cases hy:fT e s2 with
                      |er a x=>rw [hy] at h; cases h
                      |ok u s3=>rw [hy] at h; cases h; obtain ⟨k3,k4,_⟩:=iE k1 hy; exact ⟨k3,by omega⟩
                    · cases h
              · injection h with h; exact aCQ hs h
end Go.Proofs.YteehaobohaecmaaGreatDoor
namespace Go.Proofs.YteehaobohaecmaaGreatDoor
open Go
abbrev wIn:List UInt8:=[105,110,58]
abbrev sV:List UInt8:=[111,117,116,58]
abbrev wFa:List UInt8:=[102,97,108,115,101]
abbrev wTr:List UInt8:=[116,114,117,101]
def aft (e:PE) (s:PS) (f:Fm):PR Fm:=match fT e s with
  | .er a x=>.er a x
  | .ok _ s1=>.ok f s1
theorem aCF {e:PE} {s:PS} (q1:prB s.wd wIn=true):gV e s=if ixB e.ia (pC wIn s.wd)=true then aft e s (.nd 2 (ixV e.ia (pC wIn s.wd)) []) else .er s.pos 8:=by
  unfold gV
  simp only [if_pos q1]
  split
  · rename_i q h
    split at h
    · cases h
    · cases h; rename_i h; rw [if_neg h]
  · rename_i h
    split at h
    · rename_i h2; rw [if_pos h2]; rfl
    · cases h
theorem aAc {e:PE} {s:PS} (q1: ¬prB s.wd wIn=true) (q2:prB s.wd sV=true):gV e s=if ixB e.oa (pC sV s.wd)=true then aft e s (.nd 3 (ixV e.oa (pC sV s.wd)) []) else .er s.pos 8:=by
  unfold gV
  simp only [if_neg q1,if_pos q2]
  split
  · rename_i q h
    split at h
    · cases h
    · cases h; rename_i h; rw [if_neg h]
  · rename_i h
    split at h
    · rename_i h2; rw [if_pos h2]; rfl
    · cases h
theorem aIh {e:PE} {s:PS} (q1: ¬prB s.wd wIn=true) (q2: ¬prB s.wd sV=true) (q3:s.wd=wFa):gV e s=aft e s (.nd 4 0 [.nd 1 0 []]):=by
  unfold gV; simp only [if_neg q1,if_neg q2,if_pos q3]; rfl
theorem aJi {e:PE} {s:PS} (q1: ¬prB s.wd wIn=true) (q2: ¬prB s.wd sV=true) (q3: ¬s.wd=wFa) (q4:s.wd=wTr):gV e s=aft e s (.nd 1 0 []):=by
  unfold gV; simp only [if_neg q1,if_neg q2,if_neg q3,if_pos q4]; rfl
theorem aHV {e:PE} {s:PS} (q1: ¬prB s.wd wIn=true) (q2: ¬prB s.wd sV=true) (q3: ¬s.wd=wFa) (q4: ¬s.wd=wTr):gV e s=.er s.pos 5:=by
  unfold gV; simp only [if_neg q1,if_neg q2,if_neg q3,if_neg q4]
theorem aGS {e:PE} {s:PS} (q1:prB s.wd wIn=true) (d: ¬ixB e.ia (pC wIn s.wd)=true):gV e s=.er s.pos 8:=by rw [aCF q1,if_neg d]
theorem aGb {e:PE} {s:PS} (q1:prB s.wd wIn=true) (d:ixB e.ia (pC wIn s.wd)=true):gV e s=aft e s (.nd 2 (ixV e.ia (pC wIn s.wd)) []):=by rw [aCF q1,if_pos d]
theorem aEd {e:PE} {s:PS} (q1: ¬prB s.wd wIn=true) (q2:prB s.wd sV=true) (d: ¬ixB e.oa (pC sV s.wd)=true):gV e s=.er s.pos 8:=by rw [aAc q1 q2,if_neg d]
theorem aDV {e:PE} {s:PS} (q1: ¬prB s.wd wIn=true) (q2:prB s.wd sV=true) (d:ixB e.oa (pC sV s.wd)=true):gV e s=aft e s (.nd 3 (ixV e.oa (pC sV s.wd)) []):=by rw [aAc q1 q2,if_pos d]
theorem aPT {e:PE} {s s1:PS} {u:Unit} {f:Fm} (h:fT e s=.ok u s1):aft e s f=.ok f s1:=by unfold aft; rw [h]
theorem aPF {e:PE} {s:PS} {a:Nat} {x:Int} {f:Fm} (h:fT e s=.er a x):aft e s f=.er a x:=by unfold aft; rw [h]
theorem aHO (e : PE) (s : PS) : (∃ f, gV e s = aft e s f) ∨ ∃ x, gV e s = .er s.pos x := by
  by_cases q1:prB s.wd wIn=true
  · by_cases d:ixB e.ia (pC wIn s.wd)=true
    · exact .inl ⟨_,aGb q1 d⟩
    · exact .inr ⟨_,aGS q1 d⟩
  · by_cases q2:prB s.wd sV=true
    · by_cases d:ixB e.oa (pC sV s.wd)=true
      · exact .inl ⟨_,aDV q1 q2 d⟩
      · exact .inr ⟨_,aEd q1 q2 d⟩
    · by_cases q3:s.wd=wFa
      · exact .inl ⟨_,aIh q1 q2 q3⟩
      · by_cases q4:s.wd=wTr
        · exact .inl ⟨_,aJi q1 q2 q3 q4⟩
        · exact .inr ⟨_,aHV q1 q2 q3 q4⟩
def aCY (s:PS) (o:Option (PR Fm)):Prop:= ∃ r,o=some r∧ ∀ f s1,r=.ok f s1→s.pos≤s1.pos
def Tot (e:PE) (n:Nat) (R:PS→Option (PR Fm)):Prop:= ∀ s,OkS e s→e.src.length - s.pos < n→aCY s (R s)
theorem oY {e : PE} {n : Nat} {R : PS → Option (PR Fm)} (hR : Tot e n R) {s : PS} (hs : OkS e s) (hw : s.wd ≠ []) (hn : e.src.length - s.pos < n + 1) : aCY s (gW e R s) := by
  have hl:0 < s.wd.length:=List.length_pos_iff.2 hw
  unfold gW
  cases hx:fT e s with
  |er a x=>exact ⟨_,rfl,fun _ _ h=>by cases h⟩
  | ok u s2 =>
    obtain ⟨k1,k2,k3⟩:=iE hs hx
    simp only
    split
    · exact ⟨_,rfl,fun _ _ h=>by cases h⟩
    · rename_i hd
      have k4:OkS e {s2 with dep:=s2.dep+1}:=⟨k1.len,k1.pos,by show s2.dep+1≤128; omega⟩
      have:=hs.pos
      obtain ⟨r,h1,h2⟩:=hR _ k4 (by show e.src.length - s2.pos < n; omega)
      rw [h1]
      cases r with
      |er a x=>exact ⟨_,rfl,fun _ _ h=>by cases h⟩
      | ok f s3 =>
        refine ⟨_,rfl,fun _ _ h=>?_⟩
        cases h
        have:=h2 _ _ rfl
        show s.pos≤s3.pos
        have:s2.pos≤s3.pos:=this
        omega
theorem zU {e : PE} {n : Nat} {w : List UInt8} {R : PS → Option (PR Fm)} (hw : w ≠ []) (hR : Tot e n R) (hK : pK e R) : ∀ (k : Nat) (l : List Fm) (s : PS), OkS e s → e.src.length - s.pos < k → e.src.length - s.pos < n + 1 →
    ∃ r,jO e w R k l s=some r∧ ∀ l1 s1,r=.ok l1 s1→s.pos≤s1.pos
  |0,_,_,_,h,_=>by omega
  | k + 1, l, s, hs, hk, hn => by
    rw [jO]
    split
    · rename_i e1
      have hl:0 < s.wd.length:=List.length_pos_iff.2 (by rw [e1]; exact hw)
      cases hx:fT e s with
      |er a x=>exact ⟨_,rfl,fun _ _ h=>by cases h⟩
      | ok u s2 =>
        obtain ⟨k1,k2,k3⟩:=iE hs hx
        have:=hs.pos
        obtain ⟨r,h1,h2⟩:=hR s2 k1 (by omega)
        simp only
        rw [h1]
        cases r with
        |er a x=>exact ⟨_,rfl,fun _ _ h=>by cases h⟩
        | ok f s3 =>
          have h3:=h2 _ _ rfl
          obtain ⟨k4,_⟩:=hK _ _ _ k1 h1
          obtain ⟨r,h4,h5⟩:=zU hw hR hK k (l++[f]) s3 k4 (by omega) (by omega)
          exact ⟨r,h4,fun _ _ h=>by have:=h5 _ _ h; omega⟩
    · exact ⟨_,rfl,fun _ _ h=>by cases h; exact Nat.le_refl _⟩
theorem aC2 {e:PE} {n:Nat} {w:List UInt8} {op:Int} {R:PS→Option (PR Fm)} {k:Nat} (hw:w≠[]) (hR:Tot e n R) (hK:pK e R) (hk:n≤k):Tot e n (tK e w op R k):=by
  intro s hs hn
  obtain ⟨r,h1,h2⟩:=hR s hs hn
  unfold tK
  rw [h1]
  cases r with
  |er a x=>exact ⟨_,rfl,fun _ _ h=>by cases h⟩
  | ok f s1 =>
    have h3:=h2 _ _ rfl
    obtain ⟨k4,_⟩:=hK _ _ _ hs h1
    obtain ⟨r,h4,h5⟩:=zU hw hR hK k [f] s1 k4 (by omega) (by omega)
    simp only
    rw [h4]
    cases r with
    |er a x=>exact ⟨_,rfl,fun _ _ h=>by cases h⟩
    |ok l s2=>exact ⟨_,rfl,fun _ _ h=>by cases h; have:=h5 _ _ rfl; omega⟩
theorem jJ {s:PS} {g:Fm→Fm} {o:Option (PR Fm)} (h:aCY s o):aCY s (vG g o):=by
  obtain ⟨r,rfl,h2⟩:=h
  cases r with
  |er a x=>exact ⟨_,rfl,fun _ _ h=>by cases h⟩
  |ok f s1=>exact ⟨_,rfl,fun _ _ h=>by cases h; exact h2 _ _ rfl⟩
theorem aCY.le {s s1:PS} {o:Option (PR Fm)} (h:aCY s1 o) (hl:s.pos≤s1.pos):aCY s o:=by
  obtain ⟨r,h1,h2⟩:=h
  exact ⟨r,h1,fun f s2 h3=>Nat.le_trans hl (h2 f s2 h3)⟩
theorem aLq {e:PE} {s:PS} (hs:OkS e s) (f:Fm):aCY s (some (aft e s f)):=by
  cases hx:fT e s with
  |er a x=>rw [aPF hx]; exact ⟨_,rfl,fun _ _ h=>by cases h⟩
  | ok u s2 =>
    obtain ⟨_,_,k3⟩:=iE hs hx
    rw [aPT hx]; exact ⟨_,rfl,fun _ _ h=>by cases h; omega⟩
theorem wZ (e : PE) : ∀ n k, (4 * n ≤ k → Tot e n (pF e k .un)) ∧ (4 * n + 1 ≤ k → Tot e n (pF e k .bin)) ∧ (4 * n + 2 ≤ k → Tot e n (pF e k .conj)) ∧ (4 * n + 3 ≤ k → Tot e n (pF e k .form))
  |0,_=>⟨fun _ _ _ h=>by omega,fun _ _ _ h=>by omega,fun _ _ _ h=>by omega,fun _ _ _ h=>by omega⟩
  | n + 1, k => by
    have U : ∀ k, 4 * (n + 1) ≤ k → Tot e (n + 1) (pF e k .un) := by
      intro k hk s hs hn
      obtain ⟨k,rfl⟩: ∃ j,k=j+1:=⟨k - 1,by omega⟩
      have hu:=fun hw=>oY ((wZ e n k).1 (by omega)) hs hw hn
      rw [pF]
      split
      · rename_i h; exact jJ (hu (by rw [h]; simp))
      · split
        · rename_i h; exact jJ (hu (by rw [h]; simp))
        · split
          · rename_i h; exact jJ (hu (by rw [h]; simp))
          · split
            · rename_i h; exact jJ (hu (by rw [h]; simp))
            · split
              · rename_i h; exact jJ (hu (by rw [h]; simp))
              · split
                · rename_i h
                  obtain ⟨r,h1,h2⟩:=oY ((wZ e n k).2.2.2 (by omega)) hs (by rw [h]; simp) hn
                  rw [h1]
                  cases r with
                  |er a x=>exact ⟨_,rfl,fun _ _ h=>by cases h⟩
                  | ok f s1 =>
                    have h3:=h2 _ _ rfl
                    obtain ⟨k1,_⟩:=gZ (eV e k .form) _ _ _ hs h1
                    simp only
                    split
                    · cases hx:fT e s1 with
                      |er a x=>exact ⟨_,rfl,fun _ _ h=>by cases h⟩
                      | ok u s2 =>
                        obtain ⟨_,_,k3⟩:=iE k1 hx
                        exact ⟨_,rfl,fun _ _ h=>by cases h; omega⟩
                    · exact ⟨_,rfl,fun _ _ h=>by cases h⟩
                · rcases aHO e s with ⟨f,h⟩|⟨x,h⟩
                  · rw [h]; exact aLq hs f
                  · rw [h]; exact ⟨_,rfl,fun _ _ h=>by cases h⟩
    have B: ∀ k,4*(n+1)+1≤k→Tot e (n+1) (pF e k .bin):=by
      intro k hk s hs hn
      obtain ⟨k,rfl⟩: ∃ j,k=j+1:=⟨k - 1,by omega⟩
      obtain ⟨r,h1,h2⟩:=U k (by omega) s hs hn
      rw [pF,h1]
      cases r with
      |er a x=>exact ⟨_,rfl,fun _ _ h=>by cases h⟩
      | ok f s1 =>
        have h3:=h2 _ _ rfl
        obtain ⟨k1,_⟩:=eV e k .un _ _ _ hs h1
        have hb:=fun hw=>(oY ((wZ e n k).2.1 (by omega)) k1 hw (by omega)).le h3
        simp only
        split
        · rename_i h; exact jJ (hb (by rw [h]; simp))
        · split
          · rename_i h; exact jJ (hb (by rw [h]; simp))
          · exact ⟨_,rfl,fun _ _ h=>by cases h; exact h3⟩
    have Cj: ∀ k,4*(n+1)+2≤k→Tot e (n+1) (pF e k .conj):=by
      intro k hk s hs hn
      obtain ⟨k,rfl⟩: ∃ j,k=j+1:=⟨k - 1,by omega⟩
      rw [pF]
      exact aC2 (by simp) (B k (by omega)) (eV e k .bin) (by omega) s hs hn
    refine ⟨U k,B k,Cj k,fun hk s hs hn=>?_⟩
    obtain ⟨k,rfl⟩: ∃ j,k=j+1:=⟨k - 1,by omega⟩
    obtain ⟨r,h1,h2⟩:=aC2 (w:=[124]) (op:=6) (k:=k) (by simp) (Cj k (by omega)) (eV e k .conj) (by omega) s hs hn
    rw [pF,h1]
    cases r with
    |er a x=>exact ⟨_,rfl,fun _ _ h=>by cases h⟩
    | ok f s1 =>
      have h3:=h2 _ _ rfl
      obtain ⟨k1,_⟩:=qG (eV e k .conj) _ _ _ hs h1
      simp only
      split
      · rename_i h; exact jJ ((oY ((wZ e n k).2.2.2 (by omega)) k1 (by rw [h]; simp) (by omega)).le h3)
      · exact ⟨_,rfl,fun _ _ h=>by cases h; exact h3⟩
def fuE (e:PE):Nat:=4*e.src.length+7
theorem aPt {e:PE} {s:PS} (hs:OkS e s): ∃ r,pF e (fuE e) .form s=some r:=by
  obtain ⟨r,h,_⟩:=(wZ e (e.src.length+1) (fuE e)).2.2.2 (by unfold fuE; omega) s hs (by omega)
  exact ⟨r,h⟩
end Go.Proofs.YteehaobohaecmaaGreatDoor
namespace Go.Proofs.YteehaobohaecmaaGreatDoor
open Go
structure RS where
  pos:Nat
  dep:Int
  er:Int
  wh:Nat
instance:Inhabited RS:=⟨⟨0,0,0,0⟩⟩
def lV (e:PE) (s:RS):Nat:=skp (e.src.drop s.pos) s.pos
def nS (e:PE) (s:RS):List UInt8×RS:=
  if s.er≠0∨lV e s=e.src.length then ([],{s with pos:=lV e s})
  else if tok (e.src.drop (lV e s))=[] then ([],{s with pos:=lV e s,er:=5,wh:=lV e s})
  else (tok (e.src.drop (lV e s)),{s with pos:=lV e s})
def aFW (e:PE) (w:List UInt8) (s:RS):Bool×RS:=
  if (nS e s).1≠w∨(nS e s).2.er≠0 then (false,(nS e s).2) else (true,{(nS e s).2 with pos:=(nS e s).2.pos+w.length})
inductive RK where
  |form|disj|conj|bin|un|bel
structure OkR (e:PE) (s:RS):Prop where
  len:e.src.length≤1048576
  pos:s.pos≤e.src.length
  d0:0≤s.dep
  d1:s.dep≤129
  d2:s.er=0→s.dep≤128
end Go.Proofs.YteehaobohaecmaaGreatDoor
namespace Go.Proofs.YteehaobohaecmaaGreatDoor
open Go
structure Rel (e:PE) (s:PS) (r:RS):Prop where
  er:r.er=0
  dep:r.dep=(s.dep:Int)
  pos:lV e r=s.pos
  tk:tok (e.src.drop s.pos)=s.wd
  nb:e.src.drop s.pos=[]∨s.wd≠[]
def aGk (a:Nat) (x:Int) (r:RS):Prop:=r.er=x∧r.wh=a∧x≠0
def aSn (e:PE) (a:Nat) (x:Int) (r:RS):Prop:=r.er=0∧x=5∧lV e r=a∧e.src.drop a≠[]∧tok (e.src.drop a)=[]
def Bad (e:PE) (a:Nat) (x:Int) (r:RS):Prop:=aGk a x r∨aSn e a x r
section
variable {e:PE} {s s1:PS} {r:RS} {a:Nat} {x:Int}
theorem rH (hp:s.pos≤e.src.length):e.src.drop s.pos=[]↔s.pos=e.src.length:=by
  rw [List.drop_eq_nil_iff]; omega
theorem aKt: ∀ (l:List UInt8) (p q:Nat),skp l p=p+q→skp (l.drop q) (p+q)=p+q:=by
  intro l
  induction l with
  |nil=>intro p q h; simp [skp]
  | cons c l ih =>
    intro p q h
    rw [skp] at h
    split at h
    · rename_i hc
      have h1:=aBq l (p+1)
      obtain ⟨q',rfl⟩: ∃ q',q=q'+1:=⟨q - 1,by omega⟩
      have:=ih (p+1) q' (by rw [h]; omega)
      rw [List.drop_succ_cons,show p+(q'+1)=p+1+q' by omega]; exact this
    · rename_i hc
      have:q=0:=by omega
      subst this
      rw [List.drop_zero,Nat.add_zero,skp,if_neg hc]
theorem aHn {r':RS} (h:r'.pos=lV e r):lV e r'=lV e r:=by
  have h1:=(aBq (e.src.drop r.pos) r.pos).1
  obtain ⟨q,hq⟩: ∃ q,lV e r=r.pos+q:=⟨lV e r - r.pos,by unfold lV; omega⟩
  have:=aKt (e.src.drop r.pos) r.pos q hq
  rw [List.drop_drop,← hq] at this
  unfold lV at*
  rw [h]; exact this
theorem Rel.next (h:Rel e s r) (hs:OkS e s):nS e r=(s.wd,{r with pos:=s.pos}):=by
  have hp:s.pos≤e.src.length:=by have:=hs.pos; omega
  unfold nS
  rw [h.pos]
  by_cases hl:s.pos=e.src.length
  · rw [if_pos (.inr hl),← h.tk,(rH hp).2 hl]; rfl
  · have hn:s.wd≠[]:=by
      rcases h.nb with q|q
      · exact absurd ((rH hp).1 q) hl
      · exact q
    rw [if_neg (by rintro (q|q); exact q h.er; exact hl q),h.tk,if_neg hn]
theorem Rel.same (h:Rel e s r):Rel e s {r with pos:=s.pos}:=
  ⟨h.er,h.dep,by rw [aHn (r:=r) (by rw [h.pos]),h.pos],h.tk,h.nb⟩
theorem Rel.take (h:Rel e s r) (hs:OkS e s) (w:List UInt8):aFW e w r=if s.wd=w then (true,{r with pos:=s.pos+w.length}) else (false,{r with pos:=s.pos}):=by
  unfold aFW
  rw [h.next hs]
  by_cases q:s.wd=w
  · rw [if_pos q,if_neg (by rintro (q'|q'); exact q' q; exact q' h.er)]
  · rw [if_neg q,if_pos (.inl q)]
theorem aGk.next (h:aGk a x r): ∃ r',nS e r=([],r')∧aGk a x r'∧r'.dep=r.dep:=by
  refine ⟨{r with pos:=lV e r},?_,h,rfl⟩
  unfold nS
  rw [if_pos (.inl (by rw [h.1]; exact h.2.2))]
theorem Bad.next (h:Bad e a x r) (hp:r.pos≤e.src.length): ∃ r',nS e r=([],r')∧aGk a x r'∧r'.dep=r.dep:=by
  rcases h with h|⟨h1,h2,h3,h4,h5⟩
  · exact h.next
  · refine ⟨{r with pos:=lV e r,er:=5,wh:=lV e r},?_,⟨h2.symm,h3,by rw [h2]; decide⟩,rfl⟩
    unfold nS
    have:lV e r≠e.src.length:=fun q=>h4 (by rw [← h3,q]; simp)
    rw [if_neg (by rintro (q|q); exact q h1; exact this q),h3,if_pos h5,← h3]
theorem Bad.take (h:Bad e a x r) (hp:r.pos≤e.src.length) (w:List UInt8): ∃ r',aFW e w r=(false,r')∧aGk a x r'∧r'.dep=r.dep:=by
  obtain ⟨r',h1,h2,h3⟩:=h.next hp
  refine ⟨r',?_,h2,h3⟩
  unfold aFW
  rw [h1,if_pos (.inr (by rw [h2.1]; exact h2.2.2))]
end
end Go.Proofs.YteehaobohaecmaaGreatDoor
namespace Go.Proofs.YteehaobohaecmaaGreatDoor
open Go
def Le1 {α:Type} (R R':PS→Option (PR α)):Prop:= ∀ s r,R s=some r→R' s=some r
theorem nP {e:PE} {R R':PS→Option (PR Fm)} (h:Le1 R R'):Le1 (gW e R) (gW e R'):=by
  intro s r
  unfold gW
  cases hx:fT e s with
  |er a x=>exact id
  | ok u s1 =>
    simp only
    split
    · exact id
    · intro hr
      cases hy:R {s1 with dep:=s1.dep+1} with
      |none=>rw [hy] at hr; cases hr
      |some q=>rw [hy] at hr; rw [h _ _ hy]; exact hr
theorem kZ {g:Fm→Fm} {R R':PS→Option (PR Fm)} (h:Le1 R R'):Le1 (fun s=>vG g (R s)) (fun s=>vG g (R' s)):=by
  intro s r hr
  simp only at hr ⊢
  cases hy:R s with
  |none=>rw [hy] at hr; cases hr
  |some q=>rw [hy] at hr; rw [h _ _ hy]; exact hr
theorem aB1 {e : PE} {w : List UInt8} {R R' : PS → Option (PR Fm)} (h : Le1 R R') : ∀ {k k' : Nat} {l : List Fm}, k ≤ k' → ∀ s r, jO e w R k l s = some r → jO e w R' k' l s = some r
  |0,_,_,_=>fun _ _ hr=>by cases hr
  | k + 1, k', l, hk => fun s r hr => by
    obtain ⟨k2,rfl⟩: ∃ j,k'=j+1:=⟨k' - 1,by omega⟩
    rw [jO] at hr ⊢
    split
    · rename_i e1
      rw [if_pos e1] at hr
      cases hx:fT e s with
      |er a x=>rw [hx] at hr; exact hr
      | ok u s1 =>
        rw [hx] at hr
        simp only at hr ⊢
        cases hy:R s1 with
        |none=>rw [hy] at hr; cases hr
        | some q =>
          rw [hy] at hr; rw [h _ _ hy]
          cases q with
          |er a x=>exact hr
          |ok f s2=>exact aB1 h (k:=k) (by omega) _ _ hr
    · rename_i e1
      rw [if_neg e1] at hr; exact hr
theorem aFj {e:PE} {w:List UInt8} {op:Int} {R R':PS→Option (PR Fm)} (h:Le1 R R') {k k':Nat} (hk:k≤k'):Le1 (tK e w op R k) (tK e w op R' k'):=by
  intro s r hr
  unfold tK at hr ⊢
  cases hy:R s with
  |none=>rw [hy] at hr; cases hr
  | some q =>
    rw [hy] at hr; rw [h _ _ hy]
    cases q with
    |er a x=>exact hr
    | ok f s1 =>
      simp only at hr ⊢
      cases hz:jO e w R k [f] s1 with
      |none=>rw [hz] at hr; cases hr
      |some q=>rw [hz] at hr; rw [aB1 h hk _ _ hz]; exact hr
theorem rQ (e : PE) : ∀ (k : Nat) (K : PK), Le1 (pF e k K) (pF e (k + 1) K)
  |0,_=>fun _ _ h=>by cases h
  | k + 1, .form => fun s r hr => by
    rw [pF] at hr ⊢
    cases hy:tK e [124] 6 (pF e k .conj) k s with
    |none=>rw [hy] at hr; cases hr
    | some q =>
      rw [hy] at hr; rw [aFj (rQ e k .conj) (Nat.le_succ k) _ _ hy]
      cases q with
      |er a x=>exact hr
      | ok f s1 =>
        simp only at hr ⊢
        split
        · rename_i e1; rw [if_pos e1] at hr; exact kZ (nP (rQ e k .form)) _ _ hr
        · rename_i e1; rw [if_neg e1] at hr; exact hr
  | k + 1, .conj => fun s r hr => by
    rw [pF] at hr ⊢; exact aFj (rQ e k .bin) (Nat.le_succ k) _ _ hr
  | k + 1, .bin => fun s r hr => by
    rw [pF] at hr ⊢
    cases hy:pF e k .un s with
    |none=>rw [hy] at hr; cases hr
    | some q =>
      rw [hy] at hr; rw [rQ e k .un _ _ hy]
      cases q with
      |er a x=>exact hr
      | ok f s1 =>
        simp only at hr ⊢
        split
        · rename_i e1; rw [if_pos e1] at hr; exact kZ (nP (rQ e k .bin)) _ _ hr
        · rename_i e1; rw [if_neg e1] at hr
          split
          · rename_i e2; rw [if_pos e2] at hr; exact kZ (nP (rQ e k .bin)) _ _ hr
          · rename_i e2; rw [if_neg e2] at hr; exact hr
  | k + 1, .un => fun s r hr => by
    have hu:=nP (e:=e) (rQ e k .un)
    rw [pF] at hr ⊢
    split
    · rename_i e1; rw [if_pos e1] at hr; exact kZ hu _ _ hr
    · rename_i e1; rw [if_neg e1] at hr
      split
      · rename_i e1; rw [if_pos e1] at hr; exact kZ hu _ _ hr
      · rename_i e1; rw [if_neg e1] at hr
        split
        · rename_i e1; rw [if_pos e1] at hr; exact kZ hu _ _ hr
        · rename_i e1; rw [if_neg e1] at hr
          split
          · rename_i e1; rw [if_pos e1] at hr; exact kZ hu _ _ hr
          · rename_i e1; rw [if_neg e1] at hr
            split
            · rename_i e1; rw [if_pos e1] at hr; exact kZ hu _ _ hr
            · rename_i e1; rw [if_neg e1] at hr
              split
              · rename_i e1; rw [if_pos e1] at hr
                cases hy:gW e (pF e k .form) s with
                |none=>rw [hy] at hr; cases hr
                |some q=>rw [hy] at hr; rw [nP (rQ e k .form) _ _ hy]; exact hr
              · rename_i e1; rw [if_neg e1] at hr; exact hr
theorem aMy {e:PE} {K:PK} {s:PS} {r:PR Fm} {k:Nat} (h:pF e k K s=some r): ∀ m,pF e (k+m) K s=some r
  |0=>h
  |m+1=>rQ e (k+m) K s r (aMy h m)
def EvR (e:PE) (K:PK) (s:PS) (r:PR Fm):Prop:= ∃ k0,∀ k,k0≤k→pF e k K s=some r
theorem EvR.at {e:PE} {s:PS} {r:PR Fm} (hs:OkS e s) (h:EvR e .form s r):pF e (fuE e) .form s=some r:=by
  obtain ⟨k0,hk⟩:=h
  obtain ⟨q,hq⟩:=aPt hs
  have h1:=aMy hq k0
  have h2:=hk (fuE e+k0) (by omega)
  rw [h1] at h2; rw [hq,h2]
section
variable {e:PE} {s s1 s2 s3:PS} {f g:Fm} {u:Unit}
theorem EvR.bin (h:EvR e .un s (.ok f s1)) (h1:s1.wd≠[85]) (h2:s1.wd≠[82]):EvR e .bin s (.ok f s1):=by
  obtain ⟨k0,hk⟩:=h
  refine ⟨k0+1,fun k hl=>?_⟩
  obtain ⟨k,rfl⟩: ∃ j,k=j+1:=⟨k - 1,by omega⟩
  rw [pF,hk k (by omega)]
  simp only [if_neg h1,if_neg h2]
theorem EvR.conj (h:EvR e .bin s (.ok f s1)) (h1:s1.wd≠[38]):EvR e .conj s (.ok f s1):=by
  obtain ⟨k0,hk⟩:=h
  refine ⟨k0+2,fun k hl=>?_⟩
  obtain ⟨k,rfl⟩: ∃ j,k=j+2:=⟨k - 2,by omega⟩
  rw [pF,tK,hk (k+1) (by omega)]
  simp only [jO,if_neg h1]
  rfl
theorem EvR.form (h:EvR e .conj s (.ok f s1)) (h1:s1.wd≠[124]) (h2:s1.wd≠[45,62]):EvR e .form s (.ok f s1):=by
  obtain ⟨k0,hk⟩:=h
  refine ⟨k0+2,fun k hl=>?_⟩
  obtain ⟨k,rfl⟩: ∃ j,k=j+2:=⟨k - 2,by omega⟩
  rw [pF,tK,hk (k+1) (by omega)]
  simp only [jO,if_neg h1,aJQ,aM4,List.length_cons,List.length_nil,if_true,if_neg h2]
  rfl
theorem aCy {R:PS→Option (PR Fm)} (hn:fT e s=.ok u s1) (hd:s1.dep+1≤128) (hr:R {s1 with dep:=s1.dep+1}=some (.ok f s2)):gW e R s=some (.ok f {s2 with dep:=s2.dep - 1}):=by
  unfold gW; rw [hn]; simp only; rw [if_neg (by omega),hr]
theorem EvR.u1 {c:UInt8} {op:Int} (hw:s.wd=[c]) (hc:(c=33∧op=4)∨(c=88∧op=7)∨(c=78∧op=9)) (hn:fT e s=.ok u s1) (hd:s1.dep+1≤128) (h:EvR e .un {s1 with dep:=s1.dep+1} (.ok f s2)):
    EvR e .un s (.ok (.nd op 0 [f]) {s2 with dep:=s2.dep - 1}):=by
  obtain ⟨k0,hk⟩:=h
  refine ⟨k0+1,fun k hl=>?_⟩
  obtain ⟨k,rfl⟩: ∃ j,k=j+1:=⟨k - 1,by omega⟩
  have hp:=aCy hn hd (hk k (by omega))
  rw [pF]
  rcases hc with ⟨rfl,rfl⟩|⟨rfl,rfl⟩|⟨rfl,rfl⟩
  · rw [if_pos hw,hp]; rfl
  · rw [if_neg (by rw [hw]; decide),if_pos hw,hp]; rfl
  · rw [if_neg (by rw [hw]; decide),if_neg (by rw [hw]; decide),if_pos hw,hp]; rfl
theorem EvR.two {c:UInt8} {op:Int} (h0:EvR e .un s (.ok f s1)) (hw:s1.wd=[c]) (hc:(c=85∧op=8)∨(c=82∧op=10)) (hn:fT e s1=.ok u s2) (hd:s2.dep+1≤128) (h:EvR e .bin {s2 with dep:=s2.dep+1} (.ok g s3)):
    EvR e .bin s (.ok (.nd op 0 [f,g]) {s3 with dep:=s3.dep - 1}):=by
  obtain ⟨k0,hk⟩:=h
  obtain ⟨k1,hk1⟩:=h0
  refine ⟨k0+k1+1,fun k hl=>?_⟩
  obtain ⟨k,rfl⟩: ∃ j,k=j+1:=⟨k - 1,by omega⟩
  have hp:=aCy hn hd (hk k (by omega))
  rw [pF,hk1 k (by omega)]
  simp only
  rcases hc with ⟨rfl,rfl⟩|⟨rfl,rfl⟩
  · rw [if_pos hw,hp]; rfl
  · rw [if_neg (by rw [hw]; decide),if_pos hw,hp]; rfl
def EvM (e:PE) (w:List UInt8) (K:PK) (l:List Fm) (s:PS) (r:PR (List Fm)):Prop:= ∃ k0,∀ k k',k0≤k→k0≤k'→jO e w (pF e k K) k' l s=some r
theorem EvM.end {w:List UInt8} {K:PK} {l:List Fm} (h:s.wd≠w):EvM e w K l s (.ok l s):=by
  refine ⟨1,fun k k' _ hl=>?_⟩
  obtain ⟨k',rfl⟩: ∃ j,k'=j+1:=⟨k' - 1,by omega⟩
  rw [jO,if_neg h]
theorem EvM.step {w:List UInt8} {K:PK} {l:List Fm} {r:PR (List Fm)} (hw:s.wd=w) (hn:fT e s=.ok u s1) (h:EvR e K s1 (.ok f s2)) (hm:EvM e w K (l++[f]) s2 r):EvM e w K l s r:=by
  obtain ⟨k0,hk⟩:=h
  obtain ⟨k1,hk1⟩:=hm
  refine ⟨k0+k1+1,fun k k' h1 hl=>?_⟩
  obtain ⟨k',rfl⟩: ∃ j,k'=j+1:=⟨k' - 1,by omega⟩
  rw [jO,if_pos hw,hn]
  simp only
  rw [hk k (by omega)]
  exact hk1 k k' (by omega) (by omega)
theorem EvR.atom (h1: ∀ c:UInt8,s.wd≠[c]):EvR e .un s (gV e s):=by
  refine ⟨1,fun k hl=>?_⟩
  obtain ⟨k,rfl⟩: ∃ j,k=j+1:=⟨k - 1,by omega⟩
  rw [pF,if_neg (h1 _),if_neg (h1 _),if_neg (h1 _),if_neg (h1 _),if_neg (h1 _),if_neg (h1 _)]
end
end Go.Proofs.YteehaobohaecmaaGreatDoor
namespace Go.Proofs.YteehaobohaecmaaGreatDoor
open Go
def sk:List UInt8→List UInt8
  |[]=>[]
  |c::l=>if c=32 then sk l else c::l
def tk (l:List UInt8):List UInt8:=tok (sk l)
def tlk (l:List UInt8):List UInt8:=(sk l).drop (tk l).length
def Lx (l:List UInt8):Prop:=sk l=[]∨tk l≠[]
section
variable {e:PE} {l r:List UInt8} {d:Nat}
theorem aIM {c:UInt8} (h:c≠32):sk (c::l)=c::l:=by simp [sk,h]
theorem aJc {c:UInt8} (h:c≠45): ¬prB (c::l) [45,62]=true:=by
  unfold prB
  rw [decide_eq_true_eq]
  rintro ⟨_,h2⟩
  rw [List.length_cons,List.take_succ_cons] at h2
  injection h2 with h2 _
  exact h h2
abbrev spc:List UInt8:=[33,38,124,40,41]
theorem aSs {c:UInt8} (h1:c≠45) (h0:c≠32) (h2:0≤Lib.indexByte spc c):tk (c::l)=[c]∧tlk (c::l)=l:=by
  have h:tk (c::l)=[c]:=by
    unfold tk
    rw [aIM h0,aLM (by simp) (aJc h1) (by exact h2)]; rfl
  refine ⟨h,?_⟩
  unfold tlk
  rw [h,aIM h0]; rfl
def Sta (l:List UInt8):Prop:= ∃ c l',l=c::l'∧c≠45∧c≠32∧(wby c=true∨0≤Lib.indexByte spc c)
theorem Sta.app (h:Sta l) (r:List UInt8):Sta (l++r):=by
  obtain ⟨c,l',rfl,h⟩:=h; exact ⟨c,l'++r,rfl,h⟩
theorem Sta.lx (h:Sta l):Lx l:=by
  obtain ⟨c,l',rfl,h1,h2,h3⟩:=h
  refine .inr ?_
  by_cases q:0≤Lib.indexByte spc c
  · rw [(aSs h1 h2 q).1]; simp
  · unfold tk
    rw [aIM h2,aIU (by simp) (aJc h1) (by exact q) rfl,aLb,if_pos (h3.resolve_right q)]; simp
theorem Sta.c {c:UInt8} (l:List UInt8) (h:c≠45∧c≠32∧(wby c=true∨0≤Lib.indexByte spc c)):Sta (c::l):=⟨c,l,rfl,h⟩
end
section
variable {ia oa:List (List UInt8)} {f:Fm}
def Cn (lv:Int) (w:List UInt8):Prop:=(lv≤3→w≠[85]∧w≠[82])∧(lv≤2→w≠[38])∧(lv≤1→w≠[124]∧w≠[45,62])
theorem Cn.mono {lv lv':Int} {w:List UInt8} (h:Cn lv w) (hl:lv≤lv'):Cn lv' w:=⟨fun q=>h.1 (by omega),fun q=>h.2.1 (by omega),fun q=>h.2.2 (by omega)⟩
end
end Go.Proofs.YteehaobohaecmaaGreatDoor
namespace Go.Proofs.YteehaobohaecmaaGreatDoor
open Go
theorem aBm: ∀ {l:List Fm} {k:Nat},k < l.length→dp (nth l k)≤dpL l
  |[],k,h=>absurd h (Nat.not_lt_zero k)
  |f::l,0,_=>by rw [dpL]; exact Nat.le_max_left _ _
  |f::l,k+1,h=>by rw [dpL]; exact Nat.le_trans (aBm (l:=l) (k:=k) (by simpa using h)) (Nat.le_max_right _ _)
theorem aOv {f:Fm} {k:Nat} (h:k < f.kids.length):dp (nth f.kids k)+1≤dp f:=by
  cases f with
  |nd o a l=>rw [dp]; exact Nat.succ_le_succ (aBm h)
theorem aQt {α:Type} [Inhabited α] {l:List α} (h:l.length=1):l=[nth l 0]:=by
  match l,h with
  |[a],_=>rfl
section
variable {e:PE} {f:Fm}
end
end Go.Proofs.YteehaobohaecmaaGreatDoor
namespace Go.Proofs.YteehaobohaecmaaGreatDoor
open Go
mutual
theorem aDa : ∀ (f : Fm) (lv b : Int), okF f = true → lv + dp f ≤ 65 → (exm f lv b).2 = 0 ∨ (exm f lv b).2 = 11
  | .nd o a k, lv, b, h, hd => by
    rw [okF,Bool.and_eq_true,decide_eq_true_eq] at h
    rw [dp] at hd
    rw [exm]
    split
    · exact .inr rfl
    · split
      · omega
      · split
        · rename_i q; exact absurd h.1 q
        · exact aAb k _ _ h.2 (by omega)
theorem aAb: ∀ (l:List Fm) (lv n:Int),okL l=true→lv+dpL l≤65→(jM l lv n).2=0∨(jM l lv n).2=11
  |[],_,_,_,_=>.inl rfl
  | f :: l, lv, n, h, hd => by
    rw [okL,Bool.and_eq_true] at h
    rw [dpL] at hd
    rw [jM]
    split
    · exact aDa f lv n h.1 (by omega)
    · exact aAb l _ _ h.2 (by omega)
end
theorem aGa {f:Fm} (h:okF f=true) (hd:dp f≤64):cE f=0∨cE f=11:=aDa f 1 0 h (by omega)
theorem aBc: ∀ {l:List Fm} {n:Nat},(∀ x∈l,dp x≤n)→dpL l≤n
  |[],_,_=>by rw [dpL]; exact Nat.zero_le _
  | f :: l, n, h => by
    rw [dpL]
    have h1:=h f (List.mem_cons_self ..)
    have h2:=aBc (l:=l) fun x hx=>h x (List.mem_cons_of_mem _ hx)
    omega
theorem aJS {l:List Fm} {x:Fm} (h:x∈l):dp x≤dpL l:=by
  obtain ⟨j,hj,rfl⟩:=dJ h
  exact aBm hj
abbrev DA (D:Nat) (x:Fm):Prop:=dp x≤D
theorem aIB {s:List Cl} {D:Nat} (h:eD (DA D) s):dp (fin s)≤D+2:=by
  have hc: ∀ c∈s,dp (clF c)≤D+1:=fun c hc=>by
    unfold clF
    split
    · rename_i q; have:=h c hc _ (cG (show 0 < c.length by omega)); unfold DA at this; omega
    · rw [dp]; have:=aBc (l:=c) (n:=D) fun x hx=>h c hc x hx; omega
  rcases kC s with ⟨rfl,e⟩|⟨hm,e⟩|⟨c,hne,rfl,e⟩|⟨h2,hn,e⟩
  · rw [e]; have:dp noF=2:=by decide+kernel
    omega
  · rw [e]; have:dp aDz=1:=by decide+kernel
    omega
  · rw [e]; have:=hc c (List.mem_singleton.2 rfl); omega
  · rw [e,dp]
    have:=aBc (l:=sF (s.map clF)) (n:=D+1) fun x hx=>by obtain ⟨c,q,rfl⟩:=List.mem_map.1 (qB.1 hx); exact hc c q
    omega
mutual
def wz:Fm→Nat
  | .nd o _ k=>if o=4 then 1 else wzs k+1
def wzs:List Fm→Nat
  |[]=>0
  |f::l=>wz f+wzs l
end
theorem aMM (f:Fm):wz f=if f.op=4 then 1 else wzs f.kids+1:=by cases f; rw [wz]; rfl
theorem aEi (f:Fm):1≤wz f:=by rw [aMM]; split <;> omega
theorem aBj: ∀ {l:List Fm} {k:Nat},k < l.length→wz (nth l k)≤wzs l
  |[],k,h=>absurd h (Nat.not_lt_zero k)
  |f::l,0,_=>by show wz f≤_; rw [wzs]; omega
  | f :: l, k + 1, h => by
    have:=aBj (l:=l) (k:=k) (by simpa using h)
    show wz (nth l k)≤_
    rw [wzs]; omega
theorem aE1: ∀ {l:List Fm} {k:Nat},2≤l.length→k < l.length→wz (nth l k)+1≤wzs l
  |[],_,h,_=>by simp at h
  |[f],_,h,_=>by simp at h
  | f :: g :: l, 0, _, _ => by
    have:=aEi g
    rw [wzs,wzs]; show wz f+1≤_; omega
  | f :: g :: l, k + 1, _, hk => by
    have:=aEi f
    have:=aBj (l:=g::l) (k:=k) (by simpa using hk)
    rw [wzs]; show wz (nth (g::l) k)+1≤_; omega
theorem aBb {p:Fm→Prop}: ∀ {l:List Fm} {out s:List Cl},(∀ k,k < l.length→ ∀ t,cls (nth l k)=some t→eD p t)→eD p out→djL l out=some s→eD p s
  | [], out, s, _, h1, h => by
    rw [djL] at h
    split at h
    · cases h
    · cases h; exact h1
  | f :: l, out, s, hk, h1, h => by
    rw [djL] at h
    cases q:cls f with
    |none=>rw [q] at h; cases h
    | some t =>
      rw [q] at h
      exact aBb (fun k hl t ht=>hk (k+1) (by simpa using hl) t ht) (eD.wths h1 (hk 0 (by simp) t q)) h
theorem aBd {p:Fm→Prop}: ∀ {l:List Fm} {out s:List Cl},(∀ k,k < l.length→ ∀ t,cls (nth l k)=some t→eD p t)→eD p out→cjL l out=some s→eD p s
  |[],out,s,_,h1,h=>by rw [cjL] at h; cases h; exact h1
  | f :: l, out, s, hk, h1, h => by
    rw [cjL] at h
    cases q:cls f with
    |none=>rw [q] at h; cases h
    | some t =>
      rw [q] at h
      simp only at h
      split at h
      · cases h
      · exact aBd (fun k hl t ht=>hk (k+1) (by simpa using hl) t ht) (eD.prd h1 (hk 0 (by simp) t q)) h
theorem rR {p:Fm→Prop}:eD p [[]]:=fun c hc x hx=>by rw [List.mem_singleton.1 hc] at hx; exact absurd hx List.not_mem_nil
theorem rJ {p:Fm→Prop}:eD p []:=fun c hc=>absurd hc List.not_mem_nil
theorem aDj {p:Fm→Prop} {x:Fm} (h:p x):eD p [[x]]:=fun c hc y hy=>by rw [List.mem_singleton.1 hc] at hy; rw [List.mem_singleton.1 hy]; exact h
theorem eD.mono {p q:Fm→Prop} {s:List Cl} (h:eD p s) (hq: ∀ x,p x→q x):eD q s:=fun c hc x hx=>hq x (h c hc x hx)
theorem aJZ (f : Fm) : okF f = true → nnf f = true → ∀ s, cls f = some s → eD (DA (wz f + 1)) s ∧ dp (fin s) ≤ wz f + 1 := by
  refine fH (p:=fun f=>okF f=true→nnf f=true→ ∀ s,cls f=some s→eD (DA (wz f+1)) s∧dp (fin s)≤wz f+1) (fun f ih hf hn s hs=>?_) f
  obtain ⟨hr,hk⟩:=bJ hf
  obtain ⟨r1,r2,r3,r4,r5,r6,r7,r8,r9⟩:=cP hr
  have hw:=aEi f
  have leaf: ∀ g:Fm,g.kids.length=0→dp g=1:=fun g h=>by
    cases g with
    |nd o a k=>rw [dp,show k=[] from List.length_eq_zero_iff.1 h,dpL]
  have one: ∀ x:Fm,dp x≤wz f+1→eD (DA (wz f+1)) [[x]]∧dp (fin [[x]])≤wz f+1:=fun x h=>⟨aDj h,by
    have e:fin [[x]]=x:=rfl
    rw [e]; exact h⟩
  by_cases h1:f.op=1
  · rw [uH h1] at hs; cases hs
    have e:dp (fin [[]])=1:=by decide+kernel
    exact ⟨rR,by omega⟩
  by_cases h4:f.op=4
  · by_cases q:(nth f.kids 0).op=1
    · rw [uJ h4 q] at hs; cases hs
      have e:dp (fin [])=2:=by decide+kernel
      exact ⟨rJ,by omega⟩
    · rw [pZ h4 q] at hs; cases hs
      have hl:=r4 (.inl h4)
      have h3:=(fG hn (k:=0) (by omega)).2 h4
      have hrk:=(bJ (hk 0 (by omega))).1
      have hz:(nth f.kids 0).kids.length=0:=by
        obtain ⟨q1,q2,q3,_⟩:=cP hrk
        exact q3 (by omega)
      have hd:=leaf _ hz
      have e:f.kids=[nth f.kids 0]:=aQt hl
      refine one f ?_
      have:dp f=dpL f.kids+1:=by cases f; rw [dp]; rfl
      rw [this,e,dpL,dpL,hd]
      omega
  by_cases h23:f.op=2∨f.op=3
  · rw [mP h23] at hs; cases hs
    have:=leaf f (r3 (by omega))
    exact one f (by omega)
  have hwz:wz f=wzs f.kids+1:=by rw [aMM,if_neg h4]
  have big:2≤f.kids.length→eD (DA (wz f - 1)) s→eD (DA (wz f+1)) s∧dp (fin s)≤wz f+1:=fun h2 ha=>by
    have:=aIB ha
    exact ⟨ha.mono fun x q=>by unfold DA at*; omega,by omega⟩
  by_cases h6:f.op=6
  · have h2:=r5 (.inr h6)
    rw [rL h6] at hs
    exact big h2 (aBb (fun k h t ht=>(ih k h (hk k h) (fG hn h).1 t ht).1.mono fun x q=>by have:=aE1 h2 h; unfold DA at*; omega) rJ hs)
  by_cases h5:f.op=5
  · have h2:=r5 (.inl h5)
    rw [qW h5] at hs
    exact big h2 (aBd (fun k h t ht=>(ih k h (hk k h) (fG hn h).1 t ht).1.mono fun x q=>by have:=aE1 h2 h; unfold DA at*; omega) rR hs)
  rw [uY (by omega)] at hs
  cases q:eL f.kids with
  |none=>rw [q] at hs; cases hs
  | some l =>
    rw [q] at hs
    cases hs
    have hl:=sD q
    refine one _ ?_
    rw [dp,hwz]
    have:dpL l≤wzs f.kids+1:=aBc fun x hx=>by
      obtain ⟨j,hj,rfl⟩:=dJ hx
      have hc:=nX q (k:=j) (by omega)
      unfold can at hc
      cases q2:cls (nth f.kids j) with
      |none=>rw [q2] at hc; cases hc
      | some u =>
        rw [q2] at hc
        injection hc with hc
        rw [← hc]
        have h1:=(ih j (by omega) (hk j (by omega)) (fG hn (by omega)).1 u q2).2
        have h2:=aBj (l:=f.kids) (k:=j) (by omega)
        omega
    omega
mutual
theorem xI: ∀ (f:Fm) (b:Bool),wz (nrm f b)≤f.sz
  | .nd o a [], b => by
    rw [nrm]
    have h:1≤(Fm.nd o a []).sz:=by rw [Fm.sz]; omega
    split
    · rw [wz]; simp [wzs]; exact h
    · split
      · rw [wz]; simp; exact h
      · rename_i q _; rw [wz,if_neg q,wzs]; exact h
  | .nd o a (f :: l), b => by
    have h1:=xI f b
    have h2:=xI f (!b)
    have h3:=aFu l b
    rw [nrm]
    split
    · rw [Fm.sz,Fm.szs]; omega
    · rw [Fm.sz,Fm.szs,wz,wzs]
      split <;> omega
theorem aFu: ∀ (l:List Fm) (b:Bool),wzs (wW l b)≤Fm.szs l
  |[],_=>by rw [wW,Fm.szs,wzs]; omega
  | f :: l, b => by
    have h1:=xI f b
    have h2:=aFu l b
    rw [wW,Fm.szs,wzs]; omega
end
def chk (f:Fm):Fm×Int:=match can f with
  |none=>(zF,11)
  |some g=>if cE g≠0 then (zF,cE g) else (g,0)
def aM (f:Fm):Fm×Int:=if cE f≠0 then (zF,cE f) else chk (nrm f false)
theorem aCC {f:Fm} (h:can f=none):chk f=(zF,11):=by unfold chk; rw [h]
theorem aFz {f g:Fm} (h:can f=some g) (h2:cE g≠0):chk f=(zF,cE g):=by unfold chk; rw [h]; exact if_pos h2
theorem wN {f g:Fm} (h:can f=some g) (h2:cE g=0):chk f=(g,0):=by unfold chk; rw [h]; exact if_neg (by omega)
theorem aFo {f:Fm} (hf:okF f=true) (hn:nnf f=true) (hd: ∀ s,cls f=some s→dp (fin s)≤64):(chk f=(zF,11))∨ ∃ g,can f=some g∧cE g=0∧chk f=(g,0):=by
  cases q:cls f with
  |none=>exact .inl (aCC (by unfold can; rw [q]; rfl))
  | some s =>
    have hc:can f=some (fin s):=by unfold can; rw [q]; rfl
    have c:=oO hf hn hc
    rcases aGa c.ok (hd s q) with h|h
    · exact .inr ⟨_,hc,h,wN hc h⟩
    · exact .inl (by rw [aFz hc (by omega),h])
theorem aHk {f:Fm} (hv:cE f=0) (hs:f.sz≤63):aM f=(zF,11)∨ ∃ g,can (nrm f false)=some g∧cE g=0∧aM f=(g,0):=by
  have ho:=aBw f (eN hv) false
  have hn:=aBH f (eN hv) false
  unfold aM
  rw [if_neg (by omega)]
  refine aFo ho hn fun s q=>?_
  have h1:=(aJZ _ ho hn s q).2
  have h2:=xI f false
  omega
end Go.Proofs.YteehaobohaecmaaGreatDoor
namespace Go.Proofs.YteehaobohaecmaaGreatDoor
open Go
def trF (b:Bool):Fm:=if b=true then aDz else noF
def ntB (g:Fm) (a o:Int):Bool:=decide ((g.op=2∧g.arg≠a)∨(g.op=3∧g.arg≠o))
def stO (f:Fm) (a o:Int) (K:List Fm):Fm:=
  if f.op=2 then trF (decide (f.arg=a)) else if f.op=3 then trF (decide (f.arg=o)) else if f.op=4 then trF (ntB (nth f.kids 0) a o)
  else if f.op=7∨f.op=9 then nth f.kids 0 else if f.op=8 then .nd 6 0 [nth K 1,.nd 5 0 [nth K 0,f]] else if f.op=10 then .nd 5 0 [nth K 1,.nd 6 0 [nth K 0,f]]
  else .nd f.op 0 K
mutual
def mst:Fm→Int→Int→Fm
  | .nd p r k,a,o=>stO (.nd p r k) a o (aJn k a o)
def aJn:List Fm→Int→Int→List Fm
  |[],_,_=>[]
  |f::l,a,o=>mst f a o::aJn l a o
end
theorem aCU (a o:Int): ∀ l:List Fm,aJn l a o=l.map fun f=>mst f a o
  |[]=>by rw [aJn]; rfl
  |f::l=>by rw [aJn,aCU a o l]; rfl
theorem pT (f:Fm) (a o:Int):mst f a o=stO f a o (f.kids.map fun g=>mst g a o):=by cases f; rw [mst,aCU]; rfl
section
variable {f:Fm} {a o:Int}
theorem zA (h:f.op=2):mst f a o=trF (decide (f.arg=a)):=by rw [pT,stO,if_pos h]
theorem wP (h:f.op=3):mst f a o=trF (decide (f.arg=o)):=by rw [pT,stO,if_neg (by omega),if_pos h]
theorem yL (h:f.op=4):mst f a o=trF (ntB (nth f.kids 0) a o):=by rw [pT,stO,if_neg (by omega),if_neg (by omega),if_pos h]
theorem kN (h:f.op=7∨f.op=9):mst f a o=nth f.kids 0:=by rw [pT,stO,if_neg (by omega),if_neg (by omega),if_neg (by omega),if_pos h]
theorem zD (h:f.op=8) (hk:f.kids.length=2):mst f a o=.nd 6 0 [mst (nth f.kids 1) a o,.nd 5 0 [mst (nth f.kids 0) a o,f]]:=by
  rw [pT,stO,if_neg (by omega),if_neg (by omega),if_neg (by omega),if_neg (by omega),if_pos h,eU (by omega),eU (by omega)]
theorem pP (h:f.op=10) (hk:f.kids.length=2):mst f a o=.nd 5 0 [mst (nth f.kids 1) a o,.nd 6 0 [mst (nth f.kids 0) a o,f]]:=by
  rw [pT,stO,if_neg (by omega),if_neg (by omega),if_neg (by omega),if_neg (by omega),if_neg (by omega),if_pos h,eU (by omega),eU (by omega)]
theorem uI (h: ¬(f.op=2∨f.op=3∨f.op=4∨f.op=7∨f.op=8∨f.op=9∨f.op=10)):mst f a o=.nd f.op 0 (f.kids.map fun g=>mst g a o):=by
  rw [pT,stO,if_neg (by omega),if_neg (by omega),if_neg (by omega),if_neg (by omega),if_neg (by omega),if_neg (by omega)]
end
theorem aGV (b:Bool):okF (trF b)=true∧nnf (trF b)=true∧(trF b).op≤4:=by cases b <;> exact ⟨by decide+kernel,by decide+kernel,by decide+kernel⟩
theorem aDA {o:Int} {l:List Fm} (h:o≠4) (hk: ∀ x∈l,nnf x=true):nnf (.nd o 0 l)=true:=
  pM fun k hl=>⟨fun e=>absurd (show o=4 from e) h,hk _ (cG hl)⟩
theorem aHF (f:Fm) (a o:Int):okF f=true→nnf f=true→okF (mst f a o)=true∧nnf (mst f a o)=true:=by
  refine fH (p:=fun f=>okF f=true→nnf f=true→okF (mst f a o)=true∧nnf (mst f a o)=true) (fun f ih hf hn=>?_) f
  obtain ⟨hr,hk⟩:=bJ hf
  obtain ⟨r1,r2,r3,r4,r5,r6,r7,r8,r9⟩:=cP hr
  have K: ∀ k,k < f.kids.length→okF (mst (nth f.kids k) a o)=true∧nnf (mst (nth f.kids k) a o)=true:=fun k h=>ih k h (hk k h) (fG hn h).1
  by_cases h2:f.op=2
  · rw [zA h2]; exact ⟨(aGV _).1,(aGV _).2.1⟩
  by_cases h3:f.op=3
  · rw [wP h3]; exact ⟨(aGV _).1,(aGV _).2.1⟩
  by_cases h4:f.op=4
  · rw [yL h4]; exact ⟨(aGV _).1,(aGV _).2.1⟩
  by_cases h79:f.op=7∨f.op=9
  · rw [kN h79]; have:=r4 (by omega); exact ⟨hk 0 (by omega),(fG hn (by omega)).1⟩
  have bin: ∀ (p q:Int),(p=6∧q=5)∨(p=5∧q=6)→f.kids.length=2→okF (.nd p 0 [mst (nth f.kids 1) a o,.nd q 0 [mst (nth f.kids 0) a o,f]])=true∧nnf (.nd p 0 [mst (nth f.kids 1) a o,.nd q 0 [mst (nth f.kids 0) a o,f]])=true:=fun p q hpq h=>by
    have k0:=K 0 (by omega)
    have k1:=K 1 (by omega)
    have i1:okF (.nd q 0 [mst (nth f.kids 0) a o,f])=true:=sY (.inr (.inr ⟨by omega,by simp⟩)) (by simp [k0.1,hf])
    have i2:nnf (.nd q 0 [mst (nth f.kids 0) a o,f])=true:=aDA (by omega) (by simp [k0.2,hn])
    exact ⟨sY (.inr (.inr ⟨by omega,by simp⟩)) (by simp [k1.1,i1]),aDA (by omega) (by simp [k1.2,i2])⟩
  by_cases h8:f.op=8
  · rw [zD h8 (r6 (.inl h8))]; exact bin 6 5 (.inl ⟨rfl,rfl⟩) (r6 (.inl h8))
  by_cases h10:f.op=10
  · rw [pP h10 (r6 (.inr h10))]; exact bin 5 6 (.inr ⟨rfl,rfl⟩) (r6 (.inr h10))
  rw [uI (by omega)]
  by_cases h1:f.op=1
  · have e:f.kids=[]:=List.length_eq_zero_iff.1 (r3 (.inl h1))
    rw [e,h1]; exact (show okF (Fm.nd 1 0 [])=true∧nnf (Fm.nd 1 0 [])=true from ⟨by decide+kernel,by decide+kernel⟩)
  · have hl:=r5 (by omega)
    refine ⟨sY (.inr (.inr ⟨by omega,by simpa using hl⟩)) (List.all_eq_true.2 fun x hx=>?_),aDA h4 fun x hx=>?_⟩
    · obtain ⟨y,hy,rfl⟩:=List.mem_map.1 hx
      obtain ⟨j,hj,rfl⟩:=dJ hy
      exact (K j hj).1
    · obtain ⟨y,hy,rfl⟩:=List.mem_map.1 hx
      obtain ⟨j,hj,rfl⟩:=dJ hy
      exact (K j hj).2
theorem aD1 (t:Tr) (b:Bool) (i:Nat):sat t (trF b) i=b:=by
  cases b
  · show sat t noF i=false; rw [bT]; rfl
  · show sat t aDz i=true; rw [bT]; rfl
theorem aFv (t:Tr) (x y:Fm) (i:Nat):sat t (.nd 6 0 [x,y]) i=(sat t x i||sat t y i):=by
  rw [bT]; show List.any [sat t x,sat t y] (fun g=>g i)=_; simp
theorem aDf (t:Tr) (x y:Fm) (i:Nat):sat t (.nd 5 0 [x,y]) i=(sat t x i&&sat t y i):=by
  rw [bT]; show List.all [sat t x,sat t y] (fun g=>g i)=_; simp
theorem aLE {t:Tr} {i:Nat} (hi:i < t.ni.length) (f:Fm):okF f=true→nnf f=true→sat t (mst f (nth t.ni i) (nth t.no i)) (i+1)=sat t f i:=by
  refine fH (p:=fun f=>okF f=true→nnf f=true→sat t (mst f (nth t.ni i) (nth t.no i)) (i+1)=sat t f i) (fun f ih hf hn=>?_) f
  obtain ⟨hr,hk⟩:=bJ hf
  obtain ⟨r1,r2,r3,r4,r5,r6,r7,r8,r9⟩:=cP hr
  have K: ∀ k,k < f.kids.length→sat t (mst (nth f.kids k) (nth t.ni i) (nth t.no i)) (i+1)=sat t (nth f.kids k) i:=fun k h=>ih k h (hk k h) (fG hn h).1
  have hd:decide (i < t.ni.length)=true:=decide_eq_true hi
  have hd':decide (¬i < t.ni.length)=false:=decide_eq_false fun q=>q hi
  by_cases h2:f.op=2
  · rw [zA h2,aD1,bT,h2]
    show _=(decide (i < t.ni.length)&&decide (nth t.ni i=f.arg))
    rw [hd,Bool.true_and]; exact decide_eq_decide.2 eq_comm
  by_cases h3:f.op=3
  · rw [wP h3,aD1,bT,h3]
    show _=(decide (i < t.ni.length)&&decide (nth t.no i=f.arg))
    rw [hd,Bool.true_and]; exact decide_eq_decide.2 eq_comm
  by_cases h4:f.op=4
  · have hl:=r4 (.inl h4)
    have h5:=(fG hn (k:=0) (by omega)).2 h4
    rw [yL h4,aD1,bT t f,h4]
    show ntB (nth f.kids 0) _ _= !(nth (f.kids.map (sat t)) 0 i)
    rw [eU (by omega),bT]
    have hr0:=cP (bJ (hk 0 (by omega))).1
    unfold ntB
    have e:(nth f.kids 0).op=1∨(nth f.kids 0).op=2∨(nth f.kids 0).op=3:=by omega
    rcases e with e|e|e
    · rw [e]; show decide _= !true; exact decide_eq_false (by omega)
    · rw [e]
      show decide _= !(decide (i < t.ni.length)&&decide (nth t.ni i=(nth f.kids 0).arg))
      rw [hd,Bool.true_and]
      by_cases q:nth t.ni i=(nth f.kids 0).arg
      · rw [decide_eq_true q,decide_eq_false (by rintro (⟨_,z⟩|⟨z,_⟩); exact z q.symm; omega)]; rfl
      · rw [decide_eq_false q,decide_eq_true (.inl ⟨rfl,fun z=>q z.symm⟩)]; rfl
    · rw [e]
      show decide _= !(decide (i < t.ni.length)&&decide (nth t.no i=(nth f.kids 0).arg))
      rw [hd,Bool.true_and]
      by_cases q:nth t.no i=(nth f.kids 0).arg
      · rw [decide_eq_true q,decide_eq_false (by rintro (⟨z,_⟩|⟨_,z⟩); omega; exact z q.symm)]; rfl
      · rw [decide_eq_false q,decide_eq_true (.inr ⟨rfl,fun z=>q z.symm⟩)]; rfl
  by_cases h7:f.op=7
  · have hl:=r4 (.inr (.inl h7))
    rw [kN (.inl h7),bT t f,h7]
    show _=(decide (i < t.ni.length)&&nth (f.kids.map (sat t)) 0 (i+1))
    rw [hd,Bool.true_and,eU (by omega)]
  by_cases h9:f.op=9
  · have hl:=r4 (.inr (.inr h9))
    rw [kN (.inr h9),bT t f,h9]
    show _=(decide (¬i < t.ni.length)||nth (f.kids.map (sat t)) 0 (i+1))
    rw [hd',Bool.false_or,eU (by omega)]
  by_cases h8:f.op=8
  · have hl:=r6 (.inl h8)
    have e1:=bT t f (i+1)
    have e2:=bT t f i
    rw [h8] at e1 e2
    rw [zD h8 hl,aFv,aDf,K 1 (by omega),K 0 (by omega),e1,e2]
    show (_||(_&&jB (nth (f.kids.map (sat t)) 0) (nth (f.kids.map (sat t)) 1) (t.ni.length - (i+1)) (i+1)))=jB (nth (f.kids.map (sat t)) 0) (nth (f.kids.map (sat t)) 1) (t.ni.length - i) i
    rw [aEI (n:=t.ni.length) (i:=i) (by omega),eU (by omega),eU (by omega),hd,Bool.true_and]
  by_cases h10:f.op=10
  · have hl:=r6 (.inr h10)
    have e1:=bT t f (i+1)
    have e2:=bT t f i
    rw [h10] at e1 e2
    rw [pP h10 hl,aDf,aFv,K 1 (by omega),K 0 (by omega),e1,e2]
    show (_&&(_||jD (nth (f.kids.map (sat t)) 0) (nth (f.kids.map (sat t)) 1) (t.ni.length - (i+1)) (i+1)))=jD (nth (f.kids.map (sat t)) 0) (nth (f.kids.map (sat t)) 1) (t.ni.length - i) i
    rw [aFw (n:=t.ni.length) (i:=i) (by omega),eU (by omega),eU (by omega),hd',Bool.false_or]
  rw [uI (by omega),bT,bT t f]
  show vE t f.op 0 ((f.kids.map fun g=>mst g (nth t.ni i) (nth t.no i)).map (sat t)) (i+1)=_
  rw [List.map_map]
  have e:f.op=1∨f.op=5∨f.op=6:=by omega
  rcases e with e|e|e
  · rw [e]; rfl
  · rw [e]; show List.all _ _=List.all _ _
    rw [List.all_map,List.all_map]; exact aA0 fun k h=>K k h
  · rw [e]; show List.any _ _=List.any _ _
    rw [List.any_map,List.any_map]; exact aBx fun k h=>K k h
abbrev t0:Tr:=⟨[],[]⟩
theorem aKN {t:Tr} (f:Fm):okF f=true→sat t f t.ni.length=sat t0 f 0:=by
  have far: ∀ (f:Fm),okF f=true→ ∀ i,t.ni.length≤i→sat t f i=sat t0 f 0:=by
    intro f
    refine fH (p:=fun f=>okF f=true→ ∀ i,t.ni.length≤i→sat t f i=sat t0 f 0) (fun f ih hf i hi=>?_) f
    obtain ⟨hr,hk⟩:=bJ hf
    obtain ⟨r1,r2,r3,r4,r5,r6,r7,r8,r9⟩:=cP hr
    have K: ∀ k,k < f.kids.length→sat t (nth f.kids k) i=sat t0 (nth f.kids k) 0:=fun k h=>ih k h (hk k h) i hi
    have hd:decide (i < t.ni.length)=false:=decide_eq_false (by omega)
    have hd':decide (¬i < t.ni.length)=true:=decide_eq_true (by omega)
    rw [bT,bT t0]
    have e:f.op=1∨f.op=2∨f.op=3∨f.op=4∨f.op=5∨f.op=6∨f.op=7∨f.op=8∨f.op=9∨f.op=10:=by omega
    rcases e with e|e|e|e|e|e|e|e|e|e <;> rw [e]
    · rfl
    · show (decide (i < t.ni.length)&&decide (nth t.ni i=f.arg))=(decide (0 < t0.ni.length)&&decide (nth t0.ni 0=f.arg)); rw [hd]; rfl
    · show (decide (i < t.ni.length)&&decide (nth t.no i=f.arg))=(decide (0 < t0.ni.length)&&decide (nth t0.no 0=f.arg)); rw [hd]; rfl
    · have hl:=r4 (.inl e)
      show (!nth (f.kids.map (sat t)) 0 i)= !nth (f.kids.map (sat t0)) 0 0
      rw [eU (by omega),eU (by omega),K 0 (by omega)]
    · show List.all _ _=List.all _ _; rw [List.all_map,List.all_map]; exact aA0 fun k h=>K k h
    · show List.any _ _=List.any _ _; rw [List.any_map,List.any_map]; exact aBx fun k h=>K k h
    · show (decide (i < t.ni.length)&&nth (f.kids.map (sat t)) 0 (i+1))=(decide (0 < t0.ni.length)&&nth (f.kids.map (sat t0)) 0 (0+1)); rw [hd]; rfl
    · have hl:=r6 (.inl e)
      show jB _ (nth (f.kids.map (sat t)) 1) (t.ni.length - i) i=nth (f.kids.map (sat t0)) 1 0
      rw [show t.ni.length - i=0 by omega,jB,eU (by omega),eU (by omega),K 1 (by omega)]
    · show (decide (¬i < t.ni.length)||nth (f.kids.map (sat t)) 0 (i+1))=(decide (¬0 < t0.ni.length)||nth (f.kids.map (sat t0)) 0 (0+1)); rw [hd']; rfl
    · have hl:=r6 (.inr e)
      show jD _ (nth (f.kids.map (sat t)) 1) (t.ni.length - i) i=nth (f.kids.map (sat t0)) 1 0
      rw [show t.ni.length - i=0 by omega,jD,eU (by omega),eU (by omega),K 1 (by omega)]
  exact fun h=>far f h _ (Nat.le_refl _)
mutual
def WD (D:Nat):Fm→Prop
  | .nd o a k=>if o=5∨o=6 then WDL D k else if o=1∨(o=4∧(nth k 0).op=1) then True else CA (.nd o a k)∧dp (.nd o a k)≤D
def WDL (D:Nat):List Fm→Prop
  |[]=>True
  |f::l=>WD D f∧WDL D l
end
theorem aEO (D:Nat): ∀ l:List Fm,WDL D l↔ ∀ x∈l,WD D x
  |[]=>by rw [WDL]; simp
  |f::l=>by rw [WDL,aEO D l]; simp
theorem pJ (D:Nat) (f:Fm):WD D f↔if f.op=5∨f.op=6 then ∀ x∈f.kids,WD D x else if f.op=1∨(f.op=4∧(nth f.kids 0).op=1) then True else CA f∧dp f≤D:=by
  cases f; rw [WD,aEO]; rfl
theorem WD.atom {D:Nat} {x:Fm} (h:CA x) (hd:dp x≤D):WD D x:=by
  rw [pJ]
  have:=h.at_
  unfold atB at this
  rw [if_neg (by omega)]
  split
  · trivial
  · exact ⟨h,hd⟩
theorem WD.nd {D:Nat} {o:Int} {l:List Fm} (ho:o=5∨o=6) (h: ∀ x∈l,WD D x):WD D (.nd o 0 l):=by
  rw [pJ,if_pos (show (Fm.nd o 0 l).op=5∨(Fm.nd o 0 l).op=6 from ho)]
  exact h
theorem WD.fin {D:Nat} {s:List Cl} (ha:eD CA s) (hd:eD (DA D) s):WD D (fin s):=by
  have hat: ∀ c∈s,∀ x∈c,WD D x:=fun c hc x hx=>WD.atom (ha c hc x hx) (hd c hc x hx)
  have hcl: ∀ c∈s,c≠[]→WD D (clF c):=fun c hc hne=>by
    unfold clF
    split
    · rename_i q; exact hat c hc _ (cG (by omega))
    · exact WD.nd (.inl rfl) (hat c hc)
  rcases kC s with ⟨rfl,e⟩|⟨hm,e⟩|⟨c,hne,rfl,e⟩|⟨h2,hn,e⟩
  · rw [e,pJ]; show if _ then _ else _; rw [if_neg (by decide),if_pos (.inr ⟨rfl,rfl⟩)]; trivial
  · rw [e,pJ]; show if _ then _ else _; rw [if_neg (by decide),if_pos (.inl rfl)]; trivial
  · rw [e]; exact hcl c (List.mem_singleton.2 rfl) hne
  · rw [e]
    refine WD.nd (.inr rfl) fun x hx=>?_
    obtain ⟨c,hc,rfl⟩:=List.mem_map.1 (qB.1 hx)
    exact hcl c hc fun k=>hn (k ▸ hc)
theorem aIR {D:Nat} (f:Fm):okF f=true→WD D f→ ∀ s,cls f=some s→eD (DA D) s:=by
  refine fH (p:=fun f=>okF f=true→WD D f→ ∀ s,cls f=some s→eD (DA D) s) (fun f ih hf hw s hs=>?_) f
  obtain ⟨hr,hk⟩:=bJ hf
  rw [pJ] at hw
  by_cases h56:f.op=5∨f.op=6
  · rw [if_pos h56] at hw
    have K: ∀ k,k < f.kids.length→ ∀ t,cls (nth f.kids k)=some t→eD (DA D) t:=fun k h=>ih k h (hk k h) (hw _ (cG h))
    rcases h56 with h|h
    · rw [qW h] at hs; exact aBd K rR hs
    · rw [rL h] at hs; exact aBb K rJ hs
  · rw [if_neg h56] at hw
    by_cases h1:f.op=1∨(f.op=4∧(nth f.kids 0).op=1)
    · rcases h1 with h1|⟨h1,h2⟩
      · rw [uH h1] at hs; cases hs; exact rR
      · rw [uJ h1 h2] at hs; cases hs; exact rJ
    · rw [if_neg h1] at hw
      rw [hw.1.cls] at hs; cases hs; exact aDj hw.2
theorem aJJ {D:Nat} {f g:Fm} (hf:okF f=true) (hn:nnf f=true) (hw:WD D f) (h:can f=some g):WD D g∧dp g≤D+2:=by
  unfold can at h
  cases q:cls f with
  |none=>rw [q] at h; cases h
  | some s =>
    rw [q] at h
    injection h with h
    rw [← h]
    exact ⟨WD.fin (aAJ f hf hn s q) (aIR f hf hw s q),aIB (aIR f hf hw s q)⟩
theorem aKn: ∀ {l:List Fm},eL l=some l→ ∀ k,k < l.length→can (nth l k)=some (nth l k):=fun h k hk=>nX h hk
theorem aJk {g : Fm} (h : Canon g) : WD (dp g) g := by
  have hc:=h.id
  unfold can at hc
  cases q:cls g with
  |none=>rw [q] at hc; cases hc
  | some s =>
    rw [q] at hc
    injection hc with hc
    have ca:=aAJ g h.ok h.nn s q
    have key:eD (DA (dp (fin s))) s:=fun c hc2 x hx=>by
      show dp x≤dp (fin s)
      have hcl:dp x≤dp (clF c):=by
        unfold clF
        split
        · rename_i q; obtain ⟨y,rfl⟩:=List.length_eq_one_iff.1 q
          rw [List.mem_singleton.1 hx]; exact Nat.le_refl _
        · rw [dp]; have:=aJS hx; omega
      rcases kC s with ⟨e0,e⟩|⟨hm,e⟩|⟨d,hne,e0,e⟩|⟨h2,hn2,e⟩
      · rw [e0] at hc2; exact absurd hc2 List.not_mem_nil
      · have g1:=lM g h.ok s q
        by_cases z:c=[]
        · rw [z] at hx; exact absurd hx List.not_mem_nil
        · have:=(aIq g1.ant.two (fun a b q=>⟨q.2,q.1⟩) hc2 hm z).1
          rw [jE.2 (fun y hy=>absurd hy List.not_mem_nil)] at this; cases this
      · rw [e0] at hc2; rw [List.mem_singleton.1 hc2] at hcl; rw [e]; exact hcl
      · rw [e,dp]
        have hm:clF c∈sF (s.map clF):=qB.2 (List.mem_map.2 ⟨c,hc2,rfl⟩)
        have:=aJS hm
        omega
    have:=WD.fin ca key
    rw [hc] at this; exact this
theorem WD.mono {D E:Nat} (hDE:D≤E) (f:Fm):WD D f→WD E f:=by
  refine fH (p:=fun f=>WD D f→WD E f) (fun f ih h=>?_) f
  rw [pJ] at h ⊢
  split
  · rename_i q
    rw [if_pos q] at h
    intro x hx
    obtain ⟨j,hj,rfl⟩:=dJ hx
    exact ih j hj (h _ hx)
  · rename_i q
    rw [if_neg q] at h
    split
    · trivial
    · rename_i q2; rw [if_neg q2] at h; exact ⟨h.1,Nat.le_trans h.2 hDE⟩
theorem WD.tr {D:Nat} (b:Bool):WD D (trF b):=by
  cases b
  · rw [pJ]; show if _ then _ else _; rw [if_neg (by decide),if_pos (.inr ⟨rfl,rfl⟩)]; trivial
  · rw [pJ]; show if _ then _ else _; rw [if_neg (by decide),if_pos (.inl rfl)]; trivial
theorem aPH {D:Nat} {a o:Int} (f:Fm):okF f=true→nnf f=true→WD D f→WD D (mst f a o):=by
  refine fH (p:=fun f=>okF f=true→nnf f=true→WD D f→WD D (mst f a o)) (fun f ih hf hn hw=>?_) f
  obtain ⟨hr,hk⟩:=bJ hf
  obtain ⟨r1,r2,r3,r4,r5,r6,r7,r8,r9⟩:=cP hr
  by_cases h2:f.op=2
  · rw [zA h2]; exact WD.tr _
  by_cases h3:f.op=3
  · rw [wP h3]; exact WD.tr _
  by_cases h4:f.op=4
  · rw [yL h4]; exact WD.tr _
  by_cases h1:f.op=1
  · rw [uI (by omega),List.length_eq_zero_iff.1 (r3 (.inl h1)),h1]; exact WD.tr true
  by_cases h56:f.op=5∨f.op=6
  · rw [uI (by omega)]
    rw [pJ,if_pos h56] at hw
    refine WD.nd h56 fun x hx=>?_
    obtain ⟨y,hy,rfl⟩:=List.mem_map.1 hx
    obtain ⟨j,hj,rfl⟩:=dJ hy
    exact ih j hj (hk j hj) (fG hn hj).1 (hw _ (cG hj))
  rw [pJ,if_neg h56,if_neg (by omega)] at hw
  obtain ⟨ca,hd⟩:=hw
  have hc:eL f.kids=some f.kids:=by
    rcases ca.sh with h|h|h
    · omega
    · omega
    · exact h.2
  have kid: ∀ k,k < f.kids.length→WD D (nth f.kids k):=fun k h=>by
    have c:Canon (nth f.kids k):=⟨hk k h,(fG hn h).1,aKn hc k h⟩
    have:=aOv h
    exact WD.mono (by omega) _ (aJk c)
  have bin: ∀ (p q:Int),(p=6∧q=5)∨(p=5∧q=6)→f.kids.length=2→WD D (.nd p 0 [mst (nth f.kids 1) a o,.nd q 0 [mst (nth f.kids 0) a o,f]]):=fun p q hpq h=>by
    have k0:=ih 0 (by omega) (hk 0 (by omega)) (fG hn (by omega)).1 (kid 0 (by omega))
    have k1:=ih 1 (by omega) (hk 1 (by omega)) (fG hn (by omega)).1 (kid 1 (by omega))
    refine WD.nd (by omega) fun x hx=>?_
    simp only [List.mem_cons,List.not_mem_nil,or_false] at hx
    rcases hx with rfl|rfl
    · exact k1
    · refine WD.nd (by omega) fun y hy=>?_
      simp only [List.mem_cons,List.not_mem_nil,or_false] at hy
      rcases hy with rfl|rfl
      · exact k0
      · exact WD.atom ca hd
  by_cases h79:f.op=7∨f.op=9
  · rw [kN h79]; exact kid 0 (by have:=r4 (by omega); omega)
  by_cases h8:f.op=8
  · rw [zD h8 (r6 (.inl h8))]; exact bin 6 5 (.inl ⟨rfl,rfl⟩) (r6 (.inl h8))
  · have h10:f.op=10:=by omega
    rw [pP h10 (r6 (.inr h10))]; exact bin 5 6 (.inr ⟨rfl,rfl⟩) (r6 (.inr h10))
end Go.Proofs.YteehaobohaecmaaGreatDoor
namespace Go.Proofs.YteehaobohaecmaaGreatDoor
open Go
def stM (f:Fm) (a o:Int):Fm×Int:=if cE f≠0 then (zF,cE f) else if a < 0∨64≤a∨o < 0∨1048576 < o then (zF,2) else if (aM f).2≠0 then (zF,(aM f).2) else chk (mst (aM f).1 a o)
theorem aGZ {f g:Fm} (hv:cE f=0) (h:can (nrm f false)=some g) (hg:cE g=0):aM f=(g,0):=by
  unfold aM; rw [if_neg (by omega)]; exact wN h hg
theorem aDL {g:Fm} (h:Canon g) (hg:cE g=0):aM g=(g,0):=aGZ hg (by rw [aO4 g h.ok h.nn]; exact h.id) hg
structure Run (D:Nat) (g:Fm):Prop where
  c:Canon g
  v:cE g=0
  w:WD D g
theorem aGd {f : Fm} {D : Nat} (hv : cE f = 0) (hs : f.sz ≤ D) (hD : D ≤ 60) : aM f = (zF, 11) ∨ ∃ g, aM f = (g, 0) ∧ Run (D + 1) g ∧ ∀ t i, sat t g i = sat t f i := by
  have ho:=aBw f (eN hv) false
  have hn:=aBH f (eN hv) false
  rcases aHk hv (by omega) with h|⟨g,h1,h2,h3⟩
  · exact .inl h
  · refine .inr ⟨g,h3,⟨oO ho hn h1,h2,?_⟩,fun t i=>?_⟩
    · unfold can at h1
      cases q:cls (nrm f false) with
      |none=>rw [q] at h1; cases h1
      | some s =>
        rw [q] at h1
        injection h1 with h1
        have h4:=(aJZ _ ho hn s q).1
        have h5:=xI f false
        rw [← h1]
        exact WD.fin (aAJ _ ho hn s q) (h4.mono fun x hx=>by unfold DA at*; omega)
    · rw [aFV ho h1,aLY t f (eN hv)]; simp
theorem aKf {g:Fm} {D:Nat} {a o:Int} (h:Run D g) (hD:D≤62) (ha:0≤a∧a < 64) (ho:0≤o∧o≤1048576):
    stM g a o=(zF,11)∨ ∃ g',stM g a o=(g',0)∧Run D g'∧ ∀ (t:Tr) (i:Nat),i < t.ni.length→nth t.ni i=a→nth t.no i=o→sat t g' (i+1)=sat t g i:=by
  have e:stM g a o=chk (mst g a o):=by
    unfold stM
    rw [aDL h.c h.v,if_neg (by have:=h.v; omega),if_neg (by omega),if_neg (by omega)]
  rw [e]
  obtain ⟨o1,n1⟩:=aHF g a o h.c.ok h.c.nn
  have w1:=aPH (a:=a) (o:=o) g h.c.ok h.c.nn h.w
  rcases aFo o1 n1 (fun s q=>by
    have:can (mst g a o)=some (fin s):=by unfold can; rw [q]; rfl
    have:=(aJJ o1 n1 w1 this).2
    omega) with q|⟨g',q1,q2,q3⟩
  · exact .inl q
  · refine .inr ⟨g',q3,⟨oO o1 n1 q1,q2,(aJJ o1 n1 w1 q1).1⟩,fun t i hi e1 e2=>?_⟩
    rw [aFV o1 q1,← e1,← e2]
    exact aLE hi g h.c.ok h.c.nn
section
variable {S:Fm→Bool} {o d:Int}
end
structure Ordr (f g h:Fm) (p d:Int):Prop where
  ea:(aM (.nd p 0 [f,g,h])).2=0∨(aM (.nd p 0 [f,g,h])).2=11
  eb:(aM (.nd p 0 [h,.nd p 0 [g,f,g]])).2=0∨(aM (.nd p 0 [h,.nd p 0 [g,f,g]])).2=11
  ec:(aM (.nd p 0 [.nd p 0 [f,h],g,.nd 4 0 [.nd 4 0 [h]]])).2=0∨(aM (.nd p 0 [.nd p 0 [f,h],g,.nd 4 0 [.nd 4 0 [h]]])).2=11
  ed:(aM (.nd p 0 [f,.nd d 0 [f,g]])).2=0∨(aM (.nd p 0 [f,.nd d 0 [f,g]])).2=11
  ex:(aM f).2=0∨(aM f).2=11
  all:(aM (.nd p 0 [f,g,h])).2=0→(aM (.nd p 0 [h,.nd p 0 [g,f,g]])).2=0→(aM (.nd p 0 [.nd p 0 [f,h],g,.nd 4 0 [.nd 4 0 [h]]])).2=0→(aM (.nd p 0 [f,.nd d 0 [f,g]])).2=0→(aM f).2=0→
    (aM (.nd p 0 [f,g,h])).1=(aM (.nd p 0 [h,.nd p 0 [g,f,g]])).1∧(aM (.nd p 0 [f,g,h])).1=(aM (.nd p 0 [.nd p 0 [f,h],g,.nd 4 0 [.nd 4 0 [h]]])).1∧(aM (.nd p 0 [f,.nd d 0 [f,g]])).1=(aM f).1
end Go.Proofs.YteehaobohaecmaaGreatDoor
namespace Go.Proofs.YteehaobohaecmaaGreatDoor
open Go
theorem aRT (a b c:Int):orI [a,b,c]=cp3 a b c:=by
  unfold cp3
  simp only [orI]
  by_cases h:a=0
  · by_cases h2:b=0
    · by_cases h3:c=0 <;> simp [h,h2,h3]
    · simp [h,h2]
  · simp [h]
theorem aFY (f h:Fm):bU f h=cp3 (orI [eJ f.op h.op,eJ f.arg h.arg,eJ f.kids.length h.kids.length]) (lF f.kids h.kids) 0:=by rw [aKI,aRT]
theorem aGG {f h:Fm} (d:orI [eJ f.op h.op,eJ f.arg h.arg,eJ f.kids.length h.kids.length]≠0):orI [eJ f.op h.op,eJ f.arg h.arg,eJ f.kids.length h.kids.length]=bU f h:=by
  rw [aFY]; unfold cp3; rw [if_pos d]
theorem aIG {a b:Int} (h:eJ a b=0):a=b:=by
  have:=lS a b
  omega
theorem aKG {f h:Fm} (d: ¬orI [eJ f.op h.op,eJ f.arg h.arg,eJ f.kids.length h.kids.length]≠0):f.kids.length=h.kids.length:=by
  rw [aRT] at d
  unfold cp3 at d
  have:eJ f.kids.length h.kids.length=0:=by
    split at d
    · rename_i q; exact (d q).elim
    · split at d
      · rename_i q; exact (d q).elim
      · exact Decidable.not_not.1 d
  have:=aIG this
  omega
theorem aGU {f h:Fm} (d: ¬orI [eJ f.op h.op,eJ f.arg h.arg,eJ f.kids.length h.kids.length]≠0):bU f h=lF f.kids h.kids:=by
  rw [aFY]; unfold cp3; rw [if_neg d]
  split
  · rfl
  · rename_i q; exact (Decidable.not_not.1 q).symm
theorem aMA {f:Fm} (e:f.op=1∨f.op=9):sat t0 f 0=true:=by
  rw [bT]
  rcases e with e|e <;> rw [e] <;> rfl
theorem aQS {f:Fm} (hf:okF f=true) (e:f.op=4):sat t0 f 0= !(sat t0 (nth f.kids 0) 0):=by
  obtain ⟨hr,hk⟩:=bJ hf
  obtain ⟨r1,r2,r3,r4,r5,r6,r7,r8,r9⟩:=cP hr
  have hl:=r4 (.inl e)
  rw [bT,e]
  show (!nth (f.kids.map (sat t0)) 0 0)=_
  rw [eU (by omega)]
theorem aQm {f:Fm} (e:f.op=5):sat t0 f 0=f.kids.all fun g=>sat t0 g 0:=by
  rw [bT,e]; show List.all _ _=_; rw [List.all_map]; rfl
theorem aQn {f:Fm} (e:f.op=6):sat t0 f 0=f.kids.any fun g=>sat t0 g 0:=by
  rw [bT,e]; show List.any _ _=_; rw [List.any_map]; rfl
theorem aNi {f:Fm} (hf:okF f=true) (e:f.op=8∨f.op=10):sat t0 f 0=sat t0 (nth f.kids 1) 0:=by
  obtain ⟨hr,hk⟩:=bJ hf
  obtain ⟨r1,r2,r3,r4,r5,r6,r7,r8,r9⟩:=cP hr
  have hl:=r6 e
  rw [bT]
  rcases e with e|e <;> rw [e]
  · show jB (nth (f.kids.map (sat t0)) 0) (nth (f.kids.map (sat t0)) 1) 0 0=_
    rw [jB,eU (by omega)]
  · show jD (nth (f.kids.map (sat t0)) 0) (nth (f.kids.map (sat t0)) 1) 0 0=_
    rw [jD,eU (by omega)]
theorem aQz {f:Fm} (hf:okF f=true) (h1: ¬(f.op=1∨f.op=9)) (h4: ¬f.op=4) (h5: ¬f.op=5) (h6: ¬f.op=6) (hu: ¬(f.op=8∨f.op=10)):sat t0 f 0=false:=by
  obtain ⟨hr,hk⟩:=bJ hf
  obtain ⟨r1,r2,r3,r4,r5,r6,r7,r8,r9⟩:=cP hr
  have e:f.op=2∨f.op=3∨f.op=7:=by omega
  rw [bT]
  rcases e with e|e|e <;> rw [e] <;> rfl
abbrev cCl (c:Cl):List V:=[.sl (c.map cF)]
@[simp] theorem aOz (l:List Cl):fQ (l.map cCl)=true:=xR _ _ fun a=>by simp
@[simp] theorem aMC (l:List Cl):dK (l.map cCl)=true:=eP _ _ fun a=>by simp
def iG {α:Type} (p:α→Bool) (l:List α):Nat:=(l.filter p).length
theorem aFR {α:Type} (p:α→Bool) (l:List α):iG p l≤l.length:=List.length_filter_le _ _
theorem aAv {α:Type} [Inhabited α] {p:α→Bool} {l:List α} {k:Nat} (h:k < l.length):iG p (l.take (k+1))=iG p (l.take k)+(if p (nth l k)=true then 1 else 0):=by
  unfold iG
  rw [List.take_succ_eq_append_getElem h,List.filter_append,List.length_append,bA h]
  congr 1
  by_cases e:p (nth l k)=true
  · rw [if_pos e,List.filter_cons_of_pos e]; rfl
  · rw [if_neg e,List.filter_cons_of_neg e]; rfl
theorem aDq {α:Type} [Inhabited α] {p:α→Bool} {l:List α} {k:Nat} (h:k < l.length) (e:p (nth l k)=true):iG p (l.take (k+1))=iG p (l.take k)+1:=by rw [aAv h,if_pos e]
theorem aFI {α:Type} [Inhabited α] {p:α→Bool} {l:List α} {k:Nat} (h:k < l.length) (e: ¬p (nth l k)=true):iG p (l.take (k+1))=iG p (l.take k):=by rw [aAv h,if_neg e]; rfl
theorem aJ0 {α:Type} (p:α→Bool) (l:List α):decide ((iG p l:Int)=(l.length:Nat))=l.all p:=by
  refine fI ?_
  rw [decide_eq_true_eq,List.all_eq_true]
  unfold iG
  constructor
  · intro h x hx
    have:l.filter p=l:=List.filter_eq_self.2 fun y hy=>by
      have:=List.length_filter_eq_length_iff.1 (show (l.filter p).length=l.length by omega)
      exact this y hy
    exact List.filter_eq_self.1 this x hx
  · intro h
    rw [List.filter_eq_self.2 h]
theorem xF {α:Type} (p:α→Bool) (l:List α):decide ((0:Int) < (iG p l:Nat))=l.any p:=by
  refine fI ?_
  rw [decide_eq_true_eq,List.any_eq_true]
  unfold iG
  constructor
  · intro h
    have:0 < (l.filter p).length:=by omega
    obtain ⟨x,hx⟩:=List.exists_mem_of_length_pos this
    rw [List.mem_filter] at hx
    exact ⟨x,hx.1,hx.2⟩
  · rintro ⟨x,hx,hp⟩
    have:=List.length_pos_of_mem (List.mem_filter.2 ⟨hx,hp⟩)
    omega
theorem aGD {α:Type} (p:α→Bool) (l:List α):decide ((iG p l:Int)=0)=l.all fun x=> !p x:=by
  refine fI ?_
  rw [decide_eq_true_eq,List.all_eq_true]
  unfold iG
  constructor
  · intro h x hx
    cases e:p x with
    |false=>rfl
    | true =>
      have:=List.length_pos_of_mem (List.mem_filter.2 ⟨hx,e⟩)
      omega
  · intro h
    rw [List.filter_eq_nil_iff.2 fun x hx=>by have:=h x hx; simp at this; simp [this]]
    rfl
end Go.Proofs.YteehaobohaecmaaGreatDoor
namespace Go.Proofs.YteehaobohaecmaaGreatDoor
open Go
def lbF:List Fm→Fm→Nat
  |[],_=>0
  |x::l,f=>if bU x f < 0 then lbF l f+1 else 0
theorem aIg (f:Fm): ∀ l:List Fm,lbF l f≤l.length
  |[]=>Nat.le_refl _
  | x :: l => by
    rw [lbF]
    have:=aIg f l
    split <;> simp <;> omega
theorem rP {f:Fm}: ∀ {l:List Fm} {i:Nat},gU l→i < l.length→(bU (nth l i) f < 0↔i < lbF l f)
  |[],i,_,h=>absurd h (Nat.not_lt_zero _)
  | x :: l, 0, _, _ => by
    rw [lbF]
    show bU x f < 0↔_
    split <;> rename_i q
    · exact ⟨fun _=>Nat.succ_pos _,fun _=>q⟩
    · exact ⟨fun e=>(q e).elim,fun e=>absurd e (Nat.lt_irrefl _)⟩
  | x :: l, i + 1, hs, h => by
    have hs':=List.pairwise_cons.1 hs
    have hi:i < l.length:=by simpa using h
    have ih:=rP (f:=f) hs'.2 hi
    rw [lbF]
    show bU (nth l i) f < 0↔_
    split <;> rename_i q
    · rw [ih]; omega
    · refine ⟨fun e=>(q (mR (hs'.1 _ (cG hi)) e)).elim,fun e=>absurd e (Nat.not_lt_zero _)⟩
theorem aLe {l:List Fm} (hs:gU l) {i j:Nat} (h:i < j) (hj:j < l.length):bU (nth l i) (nth l j) < 0:=by
  have:=List.pairwise_iff_getElem.1 hs i j (by omega) hj h
  rwa [bA,bA] at this
theorem aG3 {l:List Fm} (hs:gU l) (f:Fm):decide (lbF l f < l.length∧bU (nth l (lbF l f)) f=0)=l.any fun y=>fU y f:=by
  refine fI ?_
  rw [decide_eq_true_eq,List.any_eq_true]
  constructor
  · rintro ⟨h1,h2⟩
    exact ⟨_,cG h1,by rw [kG _ _ h2]; exact wL f⟩
  · rintro ⟨y,hy,he⟩
    have:=(fY _ _).1 he
    subst this
    obtain ⟨i,hi,e⟩:=List.getElem_of_mem hy
    rw [bA hi] at e
    have h1: ¬i < lbF l y:=fun q=>by
      have:=(rP hs hi).2 q
      rw [e,lP] at this; omega
    have h2: ¬lbF l y < i:=fun q=>by
      have h3:=aLe hs q hi
      rw [e] at h3
      have:=(rP hs (by omega)).1 h3
      omega
    have h3:lbF l y=i:=by omega
    rw [h3,e]
    exact ⟨hi,lP y⟩
theorem aKm (c d:Cl):decide ((iG (fun x=> !(c.any fun y=>fU y x)) d:Int)=0)=eS c d:=by
  rw [aGD]; unfold eS; congr 1; funext x; simp
theorem aFU {α:Type} [Inhabited α] {p:α→Bool} {l:List α} {k:Nat} (h:k < l.length) (e:p (nth l k)=true):(l.take (k+1)).filter p=(l.take k).filter p++[nth l k]:=by
  rw [bZ h,List.filter_append,List.filter_cons_of_pos e]; rfl
theorem aJF {α:Type} [Inhabited α] {p:α→Bool} {l:List α} {k:Nat} (h:k < l.length) (e: ¬p (nth l k)=true):(l.take (k+1)).filter p=(l.take k).filter p:=by
  rw [bZ h,List.filter_append,List.filter_cons_of_neg e,List.filter_nil,List.append_nil]
theorem aLH {α:Type} (p:α→Bool) (l:List α) (k:Nat):((l.take k).filter p).length≤l.length:=Nat.le_trans (List.length_filter_le _ _) (by rw [List.length_take]; omega)
theorem aBF {s:List Cl} {c:Cl} (h:0 < (iG (fun d=>eS c d) s:Int)):s=wth s c:=by
  have:=xF (fun d=>eS c d) s
  rw [decide_eq_true h] at this
  unfold wth; rw [if_pos this.symm]
theorem aEz {s:List Cl} {c:Cl} (h: ¬0 < (iG (fun d=>eS c d) s:Int)):s.filter (fun d=> !eS d c)++[c]=wth s c:=by
  have:=xF (fun d=>eS c d) s
  rw [decide_eq_false h] at this
  unfold wth; rw [if_neg (by rw [← this]; exact Bool.false_ne_true)]
theorem aJB {out:List Cl} {c:Cl} {b:List Cl} {j:Nat} (h:j < b.length):prC out c (b.take (j+1))=wth (prC out c (b.take j)) (unF c (nth b j)):=by
  unfold prC
  rw [bZ h,List.map_append,aB9]; rfl
theorem aI1 {a b:List Cl} {k:Nat} (h:k < a.length):prd (a.take (k+1)) b=prC (prd (a.take k) b) (nth a k) b:=by
  unfold prd
  rw [bZ h,List.foldl_append]; rfl
theorem aLF {out:List Cl} {c:Cl} {b:List Cl} (h:Ant out) (hc:gU c):Ant (prC out c b):=nV h fun d hd=>by
  obtain ⟨e,_,rfl⟩:=List.mem_map.1 hd
  exact rV hc
theorem aKo (out:List Cl) (c:Cl) (b:List Cl):(prC out c b).length≤out.length+b.length:=by
  have:=oA (b.map (unF c)) out
  rw [List.length_map] at this
  exact this
theorem Ant.at_ {s:List Cl} (h:Ant s) {k:Nat} (hk:k < s.length):gU (nth s k):=h.srt _ (cG hk)
def bR (o:Option (List Cl)):List Cl:=o.getD []
def gC {α:Type} (o:Option α):Int:=match o with
  |some _=>0
  |none=>11
def iM (o:Option Fm):Fm:=o.getD zF
end Go.Proofs.YteehaobohaecmaaGreatDoor
namespace Go.Proofs.YteehaobohaecmaaGreatDoor
open Go
abbrev fdA (a b:Tr):List Int:=a.no.take (cmn a.ni b.ni)
abbrev fdB (a b:Tr):List Int:=b.no.take (cmn a.ni b.ni)
def fd (a b:Tr):List (List Int):=if cmn (fdA a b) (fdB a b) < min (fdA a b).length (fdB a b).length then [a.ni.take (aR1 (fdA a b) (fdB a b)+1)] else []
theorem OK.same {o:Ob} (ok:OK o) {s t:Tr} (hs:s∈o.tr) (ht:t∈o.tr) {j:Nat} (hj:j < cmn s.ni t.ni):nth s.no j=nth t.no j:=by
  obtain ⟨a,ha,rfl⟩:=dJ hs
  obtain ⟨b,hb,rfl⟩:=dJ ht
  have key: ∀ a b,a < b→b < o.tr.length→ ∀ j,j < cmn (nth o.tr a).ni (nth o.tr b).ni→nth (nth o.tr a).no j=nth (nth o.tr b).no j:=by
    intro a b hab hb j hj
    by_cases e:nth (nth o.tr a).no j=nth (nth o.tr b).no j
    · exact e
    · have h1:=ok.cla a b hab hb
      have h2:=aPO.2 ⟨j,hj,e⟩
      omega
  by_cases e:a=b
  · subst e; rfl
  · by_cases h:a < b
    · exact key a b h hb j hj
    · rw [aJ2] at hj
      exact (key b a (by omega) ha j hj).symm
def Ap (o:Ob) (u v x:List Int):Prop:=
  x≠[]∧ ∃ s∈o.tr,∃ t∈o.tr,hp s.ni (u++x)=true∧hp t.ni (v++x)=true∧nth s.no (u.length+x.length - 1)≠nth t.no (v.length+x.length - 1)
theorem Ap.symm {o:Ob} {u v x:List Int} (h:Ap o u v x):Ap o v u x:=by
  obtain ⟨h1,s,hs,t,ht,h2,h3,h4⟩:=h
  exact ⟨h1,t,ht,s,hs,h3,h2,fun e=>h4 e.symm⟩
structure Covers (o:Ob) (u v:List Int) (l:List (List Int)):Prop where
  sound: ∀ x∈l,Ap o u v x
  full: ∀ x,Ap o u v x→ ∃ y∈l,slx y x≤0
theorem Covers.swap {o:Ob} {u v:List Int} {l:List (List Int)} (h:Covers o u v l):Covers o v u l:=
  ⟨fun x hx=>(h.sound x hx).symm,fun x hx=>h.full x hx.symm⟩
end Go.Proofs.YteehaobohaecmaaGreatDoor
namespace Go.Proofs.YteehaobohaecmaaGreatDoor
open Go.Sort
def plP (w u:List Int):Bool:=decide (slx u w < 0)
def plN (l:List (List Int)) (w:List Int):Nat:=(l.takeWhile (plP w)).length
def wiH (l:List (List Int)) (w:List Int):Prop:=plN l w < l.length∧nth l (plN l w)=w
instance (l:List (List Int)) (w:List Int):Decidable (wiH l w):=inferInstanceAs (Decidable (_∧_))
theorem aBJ {α:Type} {a l:List α} {x:α} (h:a.length < l.length):(a++l.drop a.length).set a.length x=a++[x]++l.drop (a.length+1):=by
  rw [List.drop_eq_getElem_cons h]
  rw [List.set_append_right _ _ (Nat.le_refl _),Nat.sub_self,List.set_cons_zero]; simp
end Go.Proofs.YteehaobohaecmaaGreatDoor
