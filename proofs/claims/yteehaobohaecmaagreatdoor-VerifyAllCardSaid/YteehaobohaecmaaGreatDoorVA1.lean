/- Contracts of the functions that the law VA reaches, and the law itself, for every input; no condition. -/
import Derived.KernelRfl
import Derived.Test.YteehaobohaecmaaGreatDoorProg
import Derived.Sort.Statements
import Derived.Lib.Bytealg
import Derived.Lib.ItoaNum
import Derived.Test.YteehaobohaecmaaGreatDoorLay3
set_option linter.unusedSimpArgs false
set_option linter.unusedVariables false
namespace Go.Proofs.YteehaobohaecmaaGreatDoor
open Go
def fe (e:Nat→Int) (k:Nat):Nat→Int
  |0=>0
  |n+1=>if e k=0 then fe e (k+1) n else e k
theorem xA {e:Nat→Int} {k N:Nat} (h:e k≠0) (hk:k < N):fe e k (N - k)=e k:=by
  obtain ⟨n,hn⟩: ∃ n,N - k=n+1:=⟨N - k - 1,by omega⟩
  rw [hn]; simp [fe,h]
theorem wG {e:Nat→Int} {k N:Nat} (h:e k=0) (hk:k < N):fe e k (N - k)=fe e (k+1) (N - (k+1)):=by
  obtain ⟨n,hn⟩: ∃ n,N - k=n+1:=⟨N - k - 1,by omega⟩
  rw [hn,show N - (k+1)=n by omega]; simp [fe,h]
theorem aBZ {e:Nat→Int} {k N:Nat} (hk:N≤k):fe e k (N - k)=0:=by
  rw [show N - k=0 by omega]; rfl
theorem lH {e : Nat → Int} : ∀ {n k : Nat}, fe e k n = 0 ↔ ∀ j, k ≤ j → j < k + n → e j = 0 := by
  intro n
  induction n with
  |zero=>intro k; simp only [fe,true_iff]; intro j h1 h2; omega
  | succ n ih =>
    intro k
    simp only [fe]
    split
    · rename_i h
      rw [ih]
      constructor
      · intro hh j h1 h2
        by_cases hj:j=k
        · subst hj; exact h
        · exact hh j (by omega) (by omega)
      · intro hh j h1 h2; exact hh j (by omega) (by omega)
    · rename_i h
      constructor
      · intro hh; exact (h hh).elim
      · intro hh; exact hh k (Nat.le_refl _) (by omega)
def fi (p:Nat→Bool) (k:Nat):Nat→Int
  |0=> -1
  |n+1=>if p k then k else fi p (k+1) n
theorem aON {p:Nat→Bool} {k N:Nat} (h:p k=true) (hk:k < N):fi p k (N - k)=k:=by
  obtain ⟨n,hn⟩: ∃ n,N - k=n+1:=⟨N - k - 1,by omega⟩
  rw [hn]; simp [fi,h]
theorem aNb {p:Nat→Bool} {k N:Nat} (h:p k=false) (hk:k < N):fi p k (N - k)=fi p (k+1) (N - (k+1)):=by
  obtain ⟨n,hn⟩: ∃ n,N - k=n+1:=⟨N - k - 1,by omega⟩
  rw [hn,show N - (k+1)=n by omega]; simp [fi,h]
theorem aOB {p:Nat→Bool} {k N:Nat} (hk:N≤k):fi p k (N - k)= -1:=by
  rw [show N - k=0 by omega]; rfl
theorem aTR (p:Nat→Bool) (c:Int) (hc:c≠0): ∀ n k,decide (0≤fi p k n)=decide (fe (fun j=>if p j then c else 0) k n=c)∧(fe (fun j=>if p j then c else 0) k n=0∨fe (fun j=>if p j then c else 0) k n=c):=by
  intro n
  induction n with
  |zero=>intro k; simp [fi,fe,Ne.symm hc]
  | succ n ih =>
    intro k
    simp only [fi,fe]
    by_cases h:p k=true
    · simp [h,hc]
    · simp only [h,if_false,if_true]
      simpa using ih (k+1)
theorem cU {α:Type} [Inhabited α] {l:List α} {k:Nat} (h:k < l.length):l.take (k+1)=l.take k++[nth l k]:=by
  rw [← bR h,List.take_succ_eq_append_getElem h]
def wE (w:List Int) (n:Int) (k:Nat):Int:=if nth w k < 0∨n≤nth w k then 1 else 0
def qB (w:List Int) (n:Int):Int:=
  if n < 1∨1024 < n then 2 else if 1024 < w.length then 3 else fe (wE w n) 0 w.length
structure M where
  i:Int
  s:Int
  nx:List (List Int)
  ot:List (List Int)
abbrev mC (m:M):List V:=[iV m.i,iV m.s,aX m.nx,aX m.ot]
def cell (l:List (List Int)) (s a:Int):Int:=nth (nth l s.toNat) a.toNat
def aAi (m:M) (s a:Nat):Int:=if nth (nth m.nx s) a < 0∨m.nx.length≤nth (nth m.nx s) a∨nth (nth m.ot s) a < 0∨1048576 < nth (nth m.ot s) a then 2 else 0
def sR (m:M) (s:Nat):Int:=
  if ((nth m.nx s).length:Int)≠m.i∨((nth m.ot s).length:Int)≠m.i then 1
  else fe (aAi m s) 0 m.i.toNat
def dM (m:M):Int:=
  if m.i < 1∨64 < m.i then 2 else if m.nx.length=0 then 19 else if 128 < m.nx.length then 11 else if m.s < 0∨m.nx.length≤m.s then 2
  else if m.ot.length≠m.nx.length then 1 else fe (sR m) 0 m.nx.length
def eY (m:M):Int→List Int→List Int
  |_,[]=>[]
  |s,a::w=>cell m.ot s a::eY m (cell m.nx s a) w
def dW (m:M):Int→List Int→Int
  |s,[]=>s
  |s,a::w=>dW m (cell m.nx s a) w
theorem iC (m:M): ∀ (w:List Int) (s:Int),(eY m s w).length=w.length
  |[],_=>rfl
  |a::w,s=>by simp [eY,iC m w]
theorem iN (m:M): ∀ (u v:List Int) (s:Int),eY m s (u++v)=eY m s u++eY m (dW m s u) v
  |[],_,_=>rfl
  |a::u,v,s=>by simp [eY,dW,iN m u v]
theorem lD (m:M): ∀ (u v:List Int) (s:Int),dW m s (u++v)=dW m (dW m s u) v
  |[],_,_=>rfl
  |a::u,v,s=>by simp [dW,lD m u v]
theorem aAS (m:M) (s:Int) {w:List Int} {k:Nat} (h:k < w.length):eY m s (w.take (k+1))=eY m s (w.take k)++[cell m.ot (dW m s (w.take k)) (nth w k)]:=by
  rw [cU h,iN]; rfl
theorem aAt (m:M) (s:Int) {w:List Int} {k:Nat} (h:k < w.length):dW m s (w.take (k+1))=cell m.nx (dW m s (w.take k)) (nth w k):=by
  rw [cU h,lD]; rfl
theorem fK {m:M} (h:dM m=0):1≤m.i∧m.i≤64∧0 < m.nx.length∧m.nx.length≤128∧0≤m.s∧m.s < m.nx.length∧m.ot.length=m.nx.length∧
    (∀ s,s < m.nx.length→((nth m.nx s).length:Int)=m.i∧((nth m.ot s).length:Int)=m.i∧ ∀ a:Nat,a < m.i→0≤nth (nth m.nx s) a∧nth (nth m.nx s) a < m.nx.length∧0≤nth (nth m.ot s) a∧nth (nth m.ot s) a≤1048576):=by
  unfold dM at h
  split at h; · cases h
  rename_i h1
  split at h; · cases h
  rename_i h2
  split at h; · cases h
  rename_i h3
  split at h; · cases h
  rename_i h4
  split at h; · cases h
  rename_i h5
  refine ⟨by omega,by omega,by omega,by omega,by omega,by omega,by omega,fun s hs=>?_⟩
  have h6:=lH.1 h s (Nat.zero_le _) (by omega)
  unfold sR at h6
  split at h6; · cases h6
  rename_i h7
  refine ⟨by omega,by omega,fun a ha=>?_⟩
  have h8:=lH.1 h6 a (Nat.zero_le _) (by omega)
  unfold aAi at h8
  split at h8
  · cases h8
  · omega
theorem aGM {w:List Int} {n:Int} (h:qB w n=0):w.length≤1024∧ ∀ k,k < w.length→0≤nth w k∧nth w k < n:=by
  unfold qB at h
  split at h; · cases h
  split at h; · cases h
  refine ⟨by omega,fun k hk=>?_⟩
  have:=lH.1 h k (Nat.zero_le _) (by omega)
  unfold wE at this
  split at this
  · cases this
  · omega
theorem tJ {m:M} (h:dM m=0): ∀ (w:List Int) (s:Int),0≤s→s < m.nx.length→(∀ k,k < w.length→0≤nth w k∧nth w k < m.i)→0≤dW m s w∧dW m s w < m.nx.length
  |[],s,h0,h1,_=>⟨h0,h1⟩
  | a :: w, s, h0, h1, hw => by
    have ha:0≤a∧a < m.i:=by simpa [nth] using hw 0 (by simp)
    have hc:=(fK h).2.2.2.2.2.2.2 s.toNat (by omega)
    have hr:=hc.2.2 a.toNat (by omega)
    refine tJ h w (cell m.nx s a) ?_ ?_ fun k hk=>by simpa [nth] using hw (k+1) (by simp; omega)
    · exact hr.1
    · exact hr.2.1
theorem aGX {m:M} (h:dM m=0) {w:List Int} {s:Int} (h0:0≤s) (h1:s < m.nx.length) (hw: ∀ k,k < w.length→0≤nth w k∧nth w k < m.i) (k:Nat):0≤dW m s (w.take k)∧dW m s (w.take k) < m.nx.length:=by
  refine tJ h _ s h0 h1 fun j hj=>?_
  have:nth (w.take k) j=nth w j:=by
    simp only [List.length_take] at hj
    rw [← bR (by simp; omega),← bR (by omega),List.getElem_take]
  rw [this]; exact hw j (by simp at hj; omega)
def stE (m:M) (s:Int):Int:=if dM m≠0 then dM m else if s < 0∨(m.nx.length:Int)≤s then 2 else 0
def inE (w:List Int) (n:Int) (k:Nat):Bool:=decide (nth w k < 0∨n≤nth w k)
theorem aTK (w:List Int) (n:Int):wE w n=fun j=>if inE w n j then 1 else 0:=by
  funext j; simp [wE,inE]
theorem aNP (w:List Int) (n:Int) (c k:Nat):(0≤fi (inE w n) k c↔fe (wE w n) k c=1)∧(fe (wE w n) k c=0∨fe (wE w n) k c=1):=by
  rw [aTK]
  have h:=aTR (inE w n) 1 (by decide) c k
  exact ⟨by simpa using decide_eq_decide.1 h.1,h.2⟩
theorem aQv {m:M} {s:Int} (h:stE m s=0):dM m=0∧0≤s∧s < m.nx.length:=by
  unfold stE at h
  split at h
  · contradiction
  · split at h
    · cases h
    · omega
def frE (m:M) (s:Int) (w:List Int):Int:=if stE m s≠0 then stE m s else qB w m.i
def nN (m:M) (s:Int) (w:List Int):List Int:=if frE m s w≠0 then [] else eY m s w
def aAU (m:M) (s:Int) (w:List Int):Int:=if frE m s w≠0 then 0 else dW m s w
theorem aKr {m:M} (hm:dM m=0) {s:Int} (hs:0≤s∧s < m.nx.length) {w:List Int} (hw: ∀ k,k < w.length→0≤nth w k∧nth w k < m.i) {k:Nat} (hk:k < w.length):
    (0≤dW m s (w.take k)∧dW m s (w.take k) < m.nx.length∧m.ot.length=m.nx.length)∧0≤nth w k∧nth w k < (nth m.nx (dW m s (w.take k)).toNat).length∧nth w k < (nth m.ot (dW m s (w.take k)).toNat).length:=by
  have h1:=aGX hm hs.1 hs.2 hw k
  have h2:=fK hm
  have h3:=h2.2.2.2.2.2.2.2 (dW m s (w.take k)).toNat (by omega)
  have h4:=hw k hk
  omega
structure Hy where
  m:M
  acc:List (List Int)
def aTU (h:Hy) (s:Nat):Int:=
  if qB (nth h.acc s) h.m.i≠0 then qB (nth h.acc s) h.m.i else if dW h.m h.m.s (nth h.acc s)≠s then 15 else 0
def wA (h:Hy):Int:=
  if dM h.m≠0 then dM h.m else if h.acc.length≠h.m.nx.length then 1
  else if fe (aTU h) 0 h.acc.length≠0 then fe (aTU h) 0 h.acc.length else if (nth h.acc h.m.s.toNat).length≠0 then 10 else 0
end Go.Proofs.YteehaobohaecmaaGreatDoor
namespace Go.Proofs.YteehaobohaecmaaGreatDoor
open Go
def cmn:List Int→List Int→Nat
  |a::l,b::m=>if a=b then cmn l m+1 else 0
  |_,_=>0
theorem aHU {α:Type} [Inhabited α] (a:α) (l:List α):nth (a::l) 0=a:=rfl
theorem zA {α:Type} [Inhabited α] (a:α) (l:List α) (k:Nat):nth (a::l) (k+1)=nth l k:=rfl
theorem sD: ∀ (a b:List Int),cmn a b≤a.length∧cmn a b≤b.length∧(∀ j,j < cmn a b→nth a j=nth b j)∧(cmn a b < a.length→cmn a b < b.length→nth a (cmn a b)≠nth b (cmn a b))
  |[],b=>by simp [cmn]
  |a::l,[]=>by simp [cmn]
  | a :: l, b :: m => by
    obtain ⟨h1,h2,h3,h4⟩:=sD l m
    by_cases e:a=b
    · subst e
      simp only [cmn,if_true,List.length_cons]
      refine ⟨by omega,by omega,fun j hj=>?_,fun g1 g2=>by simpa [zA] using h4 (by omega) (by omega)⟩
      cases j with
      |zero=>rfl
      |succ j=>simpa [zA] using h3 j (by omega)
    · simp only [cmn,if_neg e,List.length_cons]
      exact ⟨by omega,by omega,fun j hj=>by omega,fun _ _=>e⟩
theorem aIM {a b:List Int} {k:Nat} (hc:k≤cmn a b) (ha:k < a.length) (hb:k < b.length) (e:nth a k=nth b k):k+1≤cmn a b:=by
  obtain ⟨h1,h2,h3,h4⟩:=sD a b
  by_cases h:k=cmn a b
  · subst h; exact (h4 ha hb e).elim
  · omega
theorem aOw {a b:List Int} {k:Nat} (hc:k≤cmn a b) (h:a.length≤k∨b.length≤k∨nth a k≠nth b k):cmn a b=k:=by
  obtain ⟨h1,h2,h3,h4⟩:=sD a b
  by_cases e:k=cmn a b
  · exact e.symm
  · have h5:=h3 k (by omega)
    rcases h with h|h|h
    · omega
    · omega
    · exact (h h5).elim
theorem aJb (a b:List Int):cmn a b=cmn b a:=by
  obtain ⟨h1,h2,h3,h4⟩:=sD b a
  refine aOw ?_ ?_
  · have: ∀ k,k≤cmn b a→k≤cmn a b:=by
      intro k
      induction k with
      |zero=>intro _; exact Nat.zero_le _
      |succ k ih=>intro h; exact aIM (ih (by omega)) (by omega) (by omega) (h3 k (by omega)).symm
    exact this _ (Nat.le_refl _)
  · by_cases g1:a.length≤cmn b a
    · exact .inl g1
    · by_cases g2:b.length≤cmn b a
      · exact .inr (.inl g2)
      · exact .inr (.inr fun e=>h4 (by omega) (by omega) e.symm)
theorem aDU {α:Type} [Inhabited α] {l:List α} {n j:Nat} (h:j < n):nth (l.take n) j=nth l j:=by
  simp only [nth,List.getD_eq_getElem?_getD,List.getElem?_take,if_pos h]
theorem aG3 {α:Type} [Inhabited α] {l:List α} {n j:Nat}:nth (l.drop n) j=nth l (n+j):=by
  simp only [nth,List.getD_eq_getElem?_getD,List.getElem?_drop]
theorem aGS {α:Type} [Inhabited α] {l m:List α} {j:Nat}:nth (l++m) (l.length+j)=nth m j:=by
  simp only [nth,List.getD_eq_getElem?_getD,List.getElem?_append_right (Nat.le_add_right _ _),Nat.add_sub_cancel_left]
theorem aFz {α β:Type} [Inhabited α] [Inhabited β] {f:α→β} {l:List α} {j:Nat} (h:j < l.length):nth (l.map f) j=f (nth l j):=by
  rw [← bR (by simpa using h),← bR h,List.getElem_map]
theorem dJ {α:Type} [Inhabited α] {l:List α} {j:Nat} (h:j < l.length):nth l j∈l:=by
  rw [← bR h]; exact List.getElem_mem h
theorem dY {α:Type} [Inhabited α] {l:List α} {x:α} (h:x∈l): ∃ j,j < l.length∧nth l j=x:=by
  obtain ⟨j,hj,e⟩:=List.getElem_of_mem h
  exact ⟨j,hj,by rw [← bR hj]; exact e⟩
theorem wV {α:Type} [Inhabited α] {l m:List α} (h1:l.length=m.length) (h2: ∀ j,j < l.length→nth l j=nth m j):l=m:=by
  refine List.ext_getElem h1 fun j g1 g2=>?_
  rw [bR g1,bR g2]; exact h2 j g1
def aUE (a b:List Int):Int:=
  if cmn a b=a.length∧cmn a b=b.length then 0
  else if cmn a b=a.length∨(cmn a b < b.length∧nth a (cmn a b) < nth b (cmn a b)) then -1 else 1
def slx (a b:List Int):Int:=if a.length < b.length then -1 else if b.length < a.length then 1 else aUE a b
def fG (x y:Int):Int:=if x < y then -1 else if y < x then 1 else 0
def orI:List Int→Int
  |[]=>0
  |x::l=>if x=0 then orI l else x
theorem aDt {l:List Int} {k:Nat} (h:k < l.length):orI (l.drop k)=if nth l k=0 then orI (l.drop (k+1)) else nth l k:=by
  rw [cW h]; rfl
structure Tr where
  ni:List Int
  no:List Int
  deriving Inhabited
abbrev cT (t:Tr):List V:=[aZ t.ni,aZ t.no]
@[simp] theorem aOb (l:List Tr):eH (l.map cT)=true:=fY _ _ fun a=>by simp [cT]
structure Ob where
  i:Int
  tr:List Tr
  deriving Inhabited
def hp (w p:List Int):Bool:=decide (cmn w p=p.length)
def dfE (a b:Tr) (k:Nat):Bool:=decide (nth a.no k≠nth b.no k)
def df (a b:Tr):Int:=fi (dfE a b) 0 (cmn a.ni b.ni)
structure Proper (t:Tr) (n:Int):Prop where
  len:t.no.length=t.ni.length
  lel:t.ni.length≤1024
  sym: ∀ k,k < t.ni.length→0≤nth t.ni k∧nth t.ni k < n
  out: ∀ k,k < t.no.length→0≤nth t.no k∧nth t.no k≤1048576
theorem aKB {p : Nat → Bool} : ∀ {n k : Nat}, 0 ≤ fi p k n ↔ ∃ j, k ≤ j ∧ j < k + n ∧ p j = true
  |0,k=>by simp [fi]; omega
  | n + 1, k => by
    simp only [fi]
    split
    · rename_i h
      constructor
      · intro _; exact ⟨k,by omega,by omega,h⟩
      · intro _; omega
    · rename_i h
      rw [aKB]
      constructor
      · rintro ⟨j,h1,h2,h3⟩; exact ⟨j,by omega,by omega,h3⟩
      · rintro ⟨j,h1,h2,h3⟩
        by_cases e:j=k
        · subst e; exact (h h3).elim
        · exact ⟨j,by omega,by omega,h3⟩
theorem aOG {a b:Tr}:0≤df a b↔ ∃ j,j < cmn a.ni b.ni∧nth a.no j≠nth b.no j:=by
  unfold df
  rw [aKB]
  constructor
  · rintro ⟨j,_,h2,h3⟩; exact ⟨j,by omega,by simpa [dfE] using h3⟩
  · rintro ⟨j,h2,h3⟩; exact ⟨j,by omega,by omega,by simpa [dfE] using h3⟩
structure OK (o:Ob):Prop where
  hi:1≤o.i∧o.i≤64
  len:o.tr.length≤10000
  pr: ∀ k,k < o.tr.length→Proper (nth o.tr k) o.i∧0 < (nth o.tr k).ni.length
  ord: ∀ k,k+1 < o.tr.length→slx (nth o.tr k).ni (nth o.tr (k+1)).ni < 0
  pre: ∀ i k,i < k→k < o.tr.length→hp (nth o.tr k).ni (nth o.tr i).ni=false
  cla: ∀ i k,i < k→k < o.tr.length→df (nth o.tr i) (nth o.tr k) < 0
def cat:List (List Int)→List Int
  |[]=>[]
  |w::l=>w++cat l
theorem qV: ∀ (l m:List (List Int)),cat (l++m)=cat l++cat m
  |[],_=>rfl
  |w::l,m=>by simp [cat,qV l m]
theorem mE {l:List (List Int)} {k:Nat} (h:k < l.length):cat (l.take (k+1))=cat (l.take k)++nth l k:=by
  rw [cU h,qV]; simp [cat]
theorem oR {l:List (List Int)} {k:Nat} (h:k < l.length):(cat (l.take k)).length+(nth l k).length≤(cat l).length:=by
  have e:cat l=cat (l.take (k+1))++cat (l.drop (k+1)):=by rw [← qV,List.take_append_drop]
  rw [e,mE h]; simp
def aUY (a b:List Int):Nat:=if cmn a b < min a.length b.length then cmn a b else 0
theorem aBJ {m:M} {w:List Int} (hm:dM m=0):frE m m.s w=qB w m.i:=by
  have h:=fK hm
  rw [frE,if_neg]
  rw [stE,if_neg (by omega),if_neg (by omega)]; simp
theorem aPx {m:M} {w:List Int} (hm:dM m=0) (h:qB w m.i=0):aAU m m.s w=dW m m.s w∧nN m m.s w=eY m m.s w∧0≤dW m m.s w∧dW m m.s w < m.nx.length:=by
  have hv:=fK hm
  have hw:=aGM h
  have e:=aBJ (w:=w) hm
  have hg:=tJ hm w m.s (by omega) (by omega) hw.2
  exact ⟨by rw [aAU,if_neg (by omega)],by rw [nN,if_neg (by omega)],hg⟩
theorem aAC {w:List Int} {n:Int} (hn:1≤n∧n≤1024) (hl:w.length≤1024) (hs: ∀ k,k < w.length→0≤nth w k∧nth w k < n):qB w n=0:=by
  rw [qB,if_neg (by omega),if_neg (by omega)]
  exact lH.2 fun j h1 h2=>by
    have:=hs j (by omega)
    rw [wE,if_neg (by omega)]
end Go.Proofs.YteehaobohaecmaaGreatDoor
namespace Go.Proofs.YteehaobohaecmaaGreatDoor
open Go
section
variable {P:Program} {T:Nat→V} {H:aP}
theorem bV {t:Nat} {u:V} (h:T t=u):mD T H (.tmp t)=some u:=by rw [← h]; rfl
theorem bC {t m id ver row off:Nat} {g:Bool} {u:V} {B:Blk} (ha:T t=.mp id ver row off) (hH:H id=B) (hl:ldB g m B ver row off=some u):mD T H (.cell t g m)=some u:=by
  subst hH
  simp only [mD,ha,ptr]
  unfold ldB at hl
  split at hl
  · rename_i hc
    rw [if_pos (show ok H id ver=true from hc)]
    cases hr:(H id).rows[row]? with
    |none=>rw [hr] at hl; cases hl
    |some w=>rw [hr] at hl; exact hl
  · cases hl
theorem cP {s1:SRes} {u v:V} {n:Nat} (h1:mD T H s1=some u) (h2:fzv true H n u=v):Ret [s1] (fun u G=>fzv true G n u=v) .ret T H:=by
  simp only [Ret,mF,fX,h1,eQ]; exact h2
theorem eM {s1 s2:SRes} {u1 u2 v1 v2:V} {n:Nat} (h1:mD T H s1=some u1) (h2:mD T H s2=some u2) (g1:fzv true H n u1=v1) (g2:fzv true H n u2=v2):Ret [s1,s2] (fun u G=>fzv true G (n+1) u=.tup [v1,v2]) .ret T H:=by
  simp only [Ret,mF,fX,h1,h2,eQ,fzv,List.map_cons,List.map_nil,g1,g2]
theorem gG {s1 s2 s3:SRes} {u1 u2 u3 v1 v2 v3:V} {n:Nat} (h1:mD T H s1=some u1) (h2:mD T H s2=some u2) (h3:mD T H s3=some u3) (g1:fzv true H n u1=v1) (g2:fzv true H n u2=v2) (g3:fzv true H n u3=v3):Ret [s1,s2,s3] (fun u G=>fzv true G (n+1) u=.tup [v1,v2,v3]) .ret T H:=by
  simp only [Ret,mF,fX,h1,h2,h3,eQ,fzv,List.map_cons,List.map_nil,g1,g2,g3]
theorem aNc {n:Nat} {l m:List V} (h:l.map (fzv true H n)=m):fzv true H (n+1) (.agg l)=.agg m:=by subst h; rfl
theorem fD {n:Nat} {u1 u2 v1 v2:V} (g1:fzv true H n u1=v1) (g2:fzv true H n u2=v2):fzv true H (n+1) (.agg [u1,u2])=.agg [v1,v2]:=by
  simp only [fzv,List.map_cons,List.map_nil,g1,g2]
theorem bE {n:Nat} {u1 u2 u3 v1 v2 v3:V} (g1:fzv true H n u1=v1) (g2:fzv true H n u2=v2) (g3:fzv true H n u3=v3):fzv true H (n+1) (.agg [u1,u2,u3])=.agg [v1,v2,v3]:=by
  simp only [fzv,List.map_cons,List.map_nil,g1,g2,g3]
end
end Go.Proofs.YteehaobohaecmaaGreatDoor
namespace Go.Proofs.YteehaobohaecmaaGreatDoor
open Go
def kL (b b':Blk):Prop:=b.ver≤b'.ver∧(b'.live=false∨b'={b with ver:=b'.ver})
def rF (H H':aP):Prop:= ∀ j,kL (H j) (H' j)
def dU (S:List Nat) (H H':aP):Prop:= ∀ j,j∉S→kL (H j) (H' j)
theorem kL.refl (b:Blk):kL b b:=⟨Nat.le_refl _,.inr rfl⟩
theorem dU.start {S:List Nat} {H Hi:aP} (h: ∀ j,j∉S→H j=Hi j):dU S H Hi:=fun j hj=>by rw [h j hj]; exact .refl _
theorem dU.put {S:List Nat} {H H':aP} {i:Nat} {b B:Blk} (h:dU (i::S) H H') (hi:H i=b) (hB:kL b B):dU S H (upd H' i B):=fun j hj=>by
  by_cases e:j=i
  · subst e; rw [aK,hi]; exact hB
  · rw [bD _ _ e]; exact h j (by simp [e,hj])
theorem dU.putv {S:List Nat} {H H':aP} {i n:Nat} {B:Blk} (h:dU (i::S) H H') (hi:(H i).ver=n) (hn:n≤B.ver) (hd:B.live=false):dU S H (upd H' i B):=h.put rfl ⟨by omega,.inl hd⟩
theorem dU.fin {H H':aP} (h:dU [] H H'):rF H H':=fun j=>h j (by simp)
theorem kL.eq {b B:Blk} (h:b=B):kL b B:=h ▸ .refl _
theorem kL.gone {b B:Blk} (h:b.ver≤B.ver) (hd:B.live=false):kL b B:=⟨h,.inl hd⟩
theorem kL.own {b b':Blk} (h:kL b b') (ho:b'.own=true):b'={b with ver:=b'.ver}∧b.own=true:=by
  rcases h.2 with h1|h1
  · have:=eL ho; rw [h1] at this; cases this
  · refine ⟨h1,?_⟩
    rw [h1] at ho; exact ho
def nO (x:Cx) (H':aP):Cx:={x with Z:=fun b=>x.Z b∨ ∃ j,(x.H j).own=true∧(H' j).live=false∧b=x.σ j,H:=H'}
theorem oS {x : Cx} (hx : Inv x) {H' : aP} (h : rF x.H H') : Inv (nO x H') ∧ Frame x (nO x H') := by
  generalize hy:nO x H'=y
  have ew:y.w=x.w:=by rw [← hy]; rfl
  have eh:y.H=H':=by rw [← hy]; rfl
  have es:y.σ=x.σ:=by rw [← hy]; rfl
  have ez: ∀ b,y.Z b↔x.Z b∨ ∃ j,(x.H j).own=true∧(H' j).live=false∧b=x.σ j:=fun b=>by rw [← hy]; exact Iff.rfl
  have hf:Frame x y:=by
    refine ⟨by rw [ew],by rw [ew],by rw [ew],by rw [ew]; exact Nat.le_refl _,fun _ _ _=>by rw [ew],fun b h=>(ez b).2 (.inl h),fun b hb=>?_,fun i=>?_,fun i ho=>?_,by rw [ew]; exact Nat.le_refl _,fun i hl hv=>by
      have e:H' i=x.H i:=by
        rw [eh] at hl hv
        rcases (h i).2 with h1|h1
        · rw [h1] at hl; cases hl
        · rw [h1]; show ({x.H i with ver:=(H' i).ver}:Blk)=x.H i; rw [hv]
      rw [eh,e]⟩
    · rcases (ez b).1 hb with h1|⟨j,h1,_,h3⟩
      · exact .inl h1
      · exact .inr (.inr ⟨j,h1,h3.symm⟩)
    rotate_left
    · rw [eh] at ho; rw [es]; exact .inl ⟨((h i).own ho).2,rfl⟩
    rw [eh,es,ew]
    refine ⟨(h i).1,fun hl hv=>?_⟩
    have e:H' i=x.H i:=by
      rcases (h i).2 with h1|h1
      · have:(H' i).live=true:=hl
        rw [h1] at this; cases this
      · rw [h1]; show ({x.H i with ver:=(H' i).ver}:Blk)=x.H i; rw [show (H' i).ver=(x.H i).ver from hv]
    simp only [e]
    have hl':(x.H i).live=true:=by rw [← e]; exact hl
    exact ⟨hl',trivial,trivial,fun _=>trivial,fun _=>⟨trivial,trivial⟩⟩
  refine ⟨⟨fun b hb=>?_,fun b i hb ho=>?_,fun i ho=>?_,fun i j hi hj he=>?_,hx.tab_of hf⟩,hf⟩
  · rw [ew]
    rcases (ez b).1 hb with h1|⟨j,h1,_,h3⟩
    · exact hx.zlt b h1
    · rw [h3]; exact hx.lt h1
  · rw [eh] at ho; rw [es]
    have ho':=((h i).own ho).2
    rcases (ez b).1 hb with h1|⟨j,h1,h2,h3⟩
    · exact hx.zown b i h1 ho'
    · intro q
      have:=hx.inj i j ho' h1 (q.trans h3)
      subst this
      have:=eL ho; rw [h2] at this; cases this
  rotate_left
  · rw [eh] at hi hj; rw [es] at he
    exact hx.inj i j ((h i).own hi).2 ((h j).own hj).2 he
  rw [eh] at ho
  obtain ⟨e,ho'⟩:=(h i).own ho
  obtain ⟨dd,h1,h2,h3,h4⟩:=hx.blk i ho'
  have e1:(y.H i).rows=(x.H i).rows:=by rw [eh,e]
  have e2:(y.H i).sz=(x.H i).sz:=by rw [eh,e]
  have e3:(y.H i).obj dd=(x.H i).obj dd:=by rw [eh,e]; rfl
  rw [e1,e2,ew,es]
  exact ⟨dd,by rw [e3]; exact h1,h2,h3,fun r row j v hr hj=>(h4 r row j v hr hj).frame hx hf⟩
def dS (H H':aP) (v v':V):Prop:= ∀ (x:Cx) (c:Value),x.H=H→Inv x→R x v c→R (nO x H') v' c
theorem dS.same {H H':aP} (h:rF H H') (v:V):dS H H' v v:=fun x c e hx r=>by
  subst e; exact r.frame hx (oS hx h).2
theorem dS.nil {H H':aP}:dS H H' .nilsl (.sl []):=fun x c e hx r=>by
  cases r; exact .slnil
theorem dS.ms {H H':aP} (h:rF H H') {id ver n off len:Nat} (hl:(H id).live=true) (hv:(H id).ver=ver) (hl':(H' id).live=true) (hv':(H' id).ver=n):dS H H' (.ms id ver off len) (.ms id n off len):=fun x c e hx r=>by
  subst e
  have e:H' id={x.H id with ver:=n}:=by
    rcases (h id).2 with h1|h1
    · rw [h1] at hl'; cases hl'
    · rw [hv'] at h1; exact h1
  cases r with
  | ms id ver off len b m cap hv1 hh hm =>
    refine .ms _ _ _ _ _ _ _ (by rw [show (nO x H').H id=H' id from rfl,hv']; exact Nat.le_refl _) (fun _ _=>?_) fun _ _=>by
      have:=hm hv hl
      simp only [nO,e]
      exact this
    have:=hh hv hl
    simp only [nO,e]
    exact this
theorem dS.frz {H H' : aP} (h : rF H H') {id ver len : Nat} {rows : List (List V)} (hl : (H id).live = true) (hv : (H id).ver = ver) (hd : (H' id).live = false) (hr : (H id).rows.take len = rows) : dS H H' (.ms id ver 0 len) (.sl rows) := fun x c e hx r => by
  subst e
  have hf:=(oS hx h).2
  subst hr
  cases r with
  | ms id ver off len b m cap hv1 hh hnm =>
    obtain ⟨e1,e2,e3,e4,e5,e6⟩:=hh hv hl
    subst e1
    rw [Nat.zero_add] at e4
    have hlen:((x.H id).rows.take m).length=m:=by simp; omega
    cases ho:(x.H id).own with
    | false =>
      have e8:=e6 ho
      have hm:m=0:=by omega
      subst hm; subst e8
      simpa using R.sl0 _
    | true =>
      obtain ⟨e7,e8⟩:=e5 ho
      subst e7
      obtain ⟨cc,h1,h2,h3,h4⟩:=hx.cel id ho (hnm hv hl)
      have hidx: ∀ (r:Nat) (row:List V),((x.H id).rows.take m)[r]?=some row→(x.H id).rows[r]?=some row:=by
        intro r row hr
        simp only [List.getElem?_take] at hr
        split at hr
        · exact hr
        · cases hr
      have key:=R.sl (x:=nO x H') ((x.H id).rows.take m) ⟨x.σ id,0,none⟩ cap (x.H id).sz
        (fun k=>cc.getD k undef) (by omega) e3 (fun _=>.inr ⟨id,ho,hd,rfl⟩)
        (fun r hr=>h2 r (List.mem_of_mem_take hr))
        (fun r row q v hr hj=>by
          have h8:=hidx _ _ hr
          have h9:=(gH h2 h3 h8 hj).1
          rw [Addr.add_lit]
          show x.w.cell? _=_
          rw [hC h1 (by omega)]
          simp)
        (fun r row q v hr hj=>(h4 _ _ _ _ (hidx _ _ hr) hj).frame hx hf)
      rw [hlen] at key
      simpa using key
theorem dS.tup2 {H H':aP} {a b a' b':V} (h1:dS H H' a a') (h2:dS H H' b b'):dS H H' (.tup [a,b]) (.tup [a',b']):=fun x c e hx r=>by
  cases r with
  | tup vs cs hs hr =>
    refine .tup _ cs (by simpa using hs) fun j v hj=>?_
    match j,hj with
    |0,hj=>cases hj; exact h1 x _ e hx (hr 0 a rfl)
    |1,hj=>cases hj; exact h2 x _ e hx (hr 1 b rfl)
    |n+2,hj=>simp at hj
theorem dS.trans_eq {H H':aP} {a b b':V} (h:dS H H' a b) (e:b=b'):dS H H' a b':=e ▸ h
section
variable {P:Program} {op:Opt} {k0:Nat}
theorem aCc {f : Nat} {fn : Func} {s : SF} (hf : P.funcs[f]? = some fn) (hs : bJ P op fn = some s) (hn : (fn.name == "runtime.NumGoroutine") = false) {args : List V} {H : aP} {v : V} {H' : aP}
    (hl:args.length≤s.n) (hW:jC args=true→W P k0 s.body (Ret s.res fun u G=>rF G H'∧dS G H' u v) (T0 args) H):eR P f args H v H':=by
  refine ⟨lA hf hs hn,fun x cs hxH hx hr=>?_⟩
  subst hxH
  refine (yH hf hs hl (hW hr.bnd) hx hr).mono fun e w' h=>?_
  obtain ⟨c,u,y,h1,h2,⟨h3,h4⟩,h5,h6,h7⟩:=h
  obtain ⟨z1,z2⟩:=oS h5 h3
  exact ⟨c,nO y H',h1,h2,rfl,z1,h4 y c rfl h5 h6,h7.trans z2⟩
variable {T:Nat→V} {H H':aP}
theorem zU {t:Nat} {u v:V} (h:T t=u) (hH:rF H H') (hv:dS H H' u v):Ret [.tmp t] (fun u G=>rF G H'∧dS G H' u v) .ret T H:=by
  simp only [Ret,mF,fX,mD,h,eQ]; exact ⟨hH,hv⟩
theorem oC {t1 t2:Nat} {u1 u2 v1 v2:V} (h1:T t1=u1) (h2:T t2=u2) (hH:rF H H') (hv1:dS H H' u1 v1) (hv2:dS H H' u2 v2):Ret [.tmp t1,.tmp t2] (fun u G=>rF G H'∧dS G H' u (.tup [v1,v2])) .ret T H:=by
  simp only [Ret,mF,fX,mD,h1,h2,eQ]; exact ⟨hH,hv1.tup2 hv2⟩
theorem aP4 (hH:rF H H'):Ret [] (fun u G=>rF G H'∧dS G H' u (.tup [])) .ret T H:=by
  simp only [Ret,mF,fX,eQ]; exact ⟨hH,.same hH _⟩
end
end Go.Proofs.YteehaobohaecmaaGreatDoor
namespace Go.Proofs.YteehaobohaecmaaGreatDoor
open Go
section
variable {P:Program} {k0:Nat} {K:(Nat→V)→aP→Prop} {T:Nat→V} {H:aP} {r:List SO} {d:Nat} {a b c:SX} {v u:V}
theorem aAh {e id ver off len n:Nat} {B:Blk} {k:IntKind} {x:SX} (ha:ev T a=.ms id ver off len) (hx:ev T x=.int k (n:Nat)) (hH:H id=B) (hok:okB B ver=true) (hs:B.sz=e) (hn:n≤len)
    (h:Ops P k0 r (upd T d (.ms id ver off n)) H K):Ops P k0 (⟨none,some d,.slice e a none (some x)⟩::r) T H K:=by
  subst hH
  refine stp (v:=.ms id ver off n) (fun _=>rfl) ?_ h
  rw [ha]
  simp only [Option.map_some,Option.map_none,oQ,fN,aGW,hx,Option.bind_some]
  have h0:(0:Int)≤(n:Int):=by omega
  rw [if_pos h0]
  simp only [Option.bind_some,Int.toNat_natCast]
  rw [if_pos (show ok H id ver=true from hok),if_pos hs,if_pos (Nat.zero_le _),if_pos hn]
  by_cases e:0 < n
  · rw [if_pos e]; simp
  · rw [if_neg e,if_pos trivial,show n=0 by omega]
theorem qJ {e id ver off len n:Nat} {B:Blk} {k:IntKind} {x:SX} (ha:ev T a=.ms id ver off len) (hx:ev T x=.int k (n:Nat)) (hH:H id=B) (hok:okB B ver=true) (hs:B.sz=e) (hn:n < len)
    (h:Ops P k0 r (upd T d (.ms id ver (off+n) (len - n))) H K):Ops P k0 (⟨none,some d,.slice e a (some x) none⟩::r) T H K:=by
  subst hH
  refine stp (v:=.ms id ver (off+n) (len - n)) (fun _=>rfl) ?_ h
  rw [ha]
  simp only [Option.map_some,Option.map_none,oQ,fN,aGW,hx,Option.bind_some]
  have h0:(0:Int)≤(n:Int):=by omega
  rw [if_pos h0]
  simp only [Option.bind_some,Int.toNat_natCast]
  rw [if_pos (show ok H id ver=true from hok),if_pos hs,if_pos (by omega),if_pos (Nat.le_refl _),if_pos hn]
theorem aUe {α:Type} {id ver ty sz m n:Nat} {lz:Bool} {f:α→List V} {l:List α} {z:List V} (ha:ev T a=.ms id ver m n) (hH:H id=⟨ver,true,lz,ty,sz,l.map f⟩) (hz:z.length=sz) (hz0:z.length≠0) (hone:z.all V.one=true)
    (hm:m < l.length) (hn:m+n=l.length)
    (h:Ops P k0 r T (upd H id ⟨ver,true,lz,ty,sz,(l.take m).map f++List.replicate n z⟩) K):Ops P k0 (⟨none,none,.clr z a⟩::r) T H K:=by
  simp only [Ops,St]
  refine wK (x:=upd H id ⟨ver,true,lz,ty,sz,(l.take m).map f++List.replicate n z⟩) ?_ h
  rw [ha]
  simp only [aLC,hH]
  rw [if_pos (by simp),if_neg (by omega),if_pos ⟨hz,hz0⟩,if_pos hone,if_pos (by simp; omega)]
  rw [hn,List.drop_eq_nil_of_le (by simp),List.append_nil,List.map_take]
theorem pL {n len i id ver row o o':Nat} {k:IntKind} {B:Blk} (ha:ev T a=.mp id ver row o) (hb:ev T b=.int k (i:Nat)) (hH:H id=B) (hok:okB B ver=true) (hi:i < len) (ho:o+i*n=o')
    (h:Ops P k0 r (upd T d (.mp id ver row o')) H K):Ops P k0 (⟨none,some d,.apos n len a b⟩::r) T H K:=by
  subst hH
  refine stp (v:=.mp id ver row o') (fun _=>rfl) ?_ h
  rw [ha,hb]
  simp only [aF5]
  rw [if_pos (by omega)]
  simp only [Int.toNat_natCast,aEE,ho]
theorem xZ: ∀ (vs p r:List V),r.length=vs.length→jX (p++r) p.length vs=p++vs
  | [], p, r, h => by cases r with
    |nil=>rfl
    |cons a r=>simp at h
  | v :: vs, p, r, h => by
    cases r with
    |nil=>simp at h
    | cons a r =>
      have e:(p++a::r).set p.length v=(p++[v])++r:=by simp
      rw [jX,e,show p.length+1=(p++[v]).length by simp,xZ vs (p++[v]) r (by simpa using h)]
      simp
theorem gT {α:Type} [Inhabited α] {n ver ty sz i:Nat} {lz:Bool} {f:α→List V} {l:List α} {vs:List V} {x:α} (h:i < l.length) (hv:vs=f x) (hn:vs.length=n) (hs:(f (nth l i)).length=n) (ho:vs.all V.one=true):
    stB ⟨ver,true,lz,ty,sz,l.map f⟩ ver i 0 n vs=some ⟨ver,true,lz,ty,sz,(l.set i x).map f⟩:=by
  subst hv
  unfold stB
  rw [if_pos (eO (by omega)),if_pos hn,if_pos ho]
  simp only [List.getElem?_map,yT h,Option.map_some]
  rw [if_pos (by omega)]
  have:=xZ (f x) [] (f (nth l i)) (by omega)
  simp only [List.nil_append,List.length_nil] at this
  rw [this,List.map_set]
theorem aJa {n:Int} (h0:0≤n) (h:n < 18446744073709551616):IntKind.u64.wrap n=n:=by
  simp [IntKind.wrap,IntKind.bits,IntKind.signed]
  omega
theorem aGP {kd:IntKind} {n:Nat} (ha:ev T a=.int kd (n:Nat)) (hn:n < 9223372036854775808) (h:Ops P k0 r (upd T d (.int .u64 (n:Nat))) H K):Ops P k0 (⟨none,some d,.conv .u64 a⟩::r) T H K:=by
  refine stp (v:=.int .u64 (n:Nat)) (fun _=>rfl) ?_ h
  rw [ha]; simp only [aAT,aJa (Int.natCast_nonneg n) (by omega)]
theorem aLN {kd:IntKind} {n:Nat} (ha:ev T a=.int kd (n:Nat)) (hn:n < 9223372036854775808) (h:Ops P k0 r (upd T d (iV (n:Nat))) H K):Ops P k0 (⟨none,some d,.conv .i64 a⟩::r) T H K:=by
  refine stp (v:=iV (n:Nat)) (fun _=>rfl) ?_ h
  rw [ha]; simp only [aAT]; rw [aBA (by omega) (by omega)]
theorem aQV {n:Nat} (ha:ev T a=.int .u64 (n:Nat)) (hb:ev T b=.int .u64 1) (h:Ops P k0 r (upd T d (.int .u64 ((n / 2:Nat):Int))) H K):Ops P k0 (⟨none,some d,.bin .shr a b⟩::r) T H K:=by
  refine tO ha hb ?_ h
  simp only [iT,if_true]
  rw [if_neg (by decide)]
  congr 2
  show ((n:Nat):Int).fdiv 2=_
  rw [Int.fdiv_eq_ediv_of_nonneg _ (by decide)]
  omega
theorem eJ {e id ver len i:Nat} {B:Blk} {k:IntKind} (ha:ev T a=.ms id ver 0 len) (hb:ev T b=.int k (i:Nat)) (hH:H id=B) (hok:okB B ver=true) (hs:B.sz=e) (hi:i < len)
    (h:Ops P k0 r (upd T d (.mp id ver i 0)) H K):Ops P k0 (⟨none,some d,.idx e a b⟩::r) T H K:=
  zY ha hb hH hok hs hi (by rw [Nat.zero_add]; exact h)
theorem dP {e id ver len:Nat} {i:Int} {B:Blk} {k:IntKind} (ha:ev T a=.ms id ver 0 len) (hb:ev T b=.int k i) (hH:H id=B) (hok:okB B ver=true) (hs:B.sz=e) (h0:0≤i) (hi:i < len)
    (h:Ops P k0 r (upd T d (.mp id ver i.toNat 0)) H K):Ops P k0 (⟨none,some d,.idx e a b⟩::r) T H K:=
  aAB ha hb hH hok hs h0 hi (by rw [Nat.zero_add]; exact h)
theorem aP5 {α:Type} {ty e bytes i n:Nat} {z:List V} {f:α→List V} {x:α} {m q:Nat} (hi:k0+d=i) (hv:(H i).ver=n) (ha:ev T a=iV (m:Nat)) (hb:ev T b=iV (q:Nat)) (hz:z=f x) (h1:m≤q) (h2:q*bytes≤281474976710656) (h3:q≤9223372036854775807)
    (h:Ops P k0 r (upd T d (.ms i (n+1) 0 m)) (upd H i ⟨n+1,true,false,ty,e,(List.replicate m x).map f⟩) K):Ops P k0 (⟨none,some d,.mks ty e bytes z a b⟩::r) T H K:=
  aN3 hi hv ha hb h1 h2 h3 (by rw [List.map_replicate,← hz] at h; exact h)
theorem dZ {id n:Nat} (h:(H id).ver=n):(lM id H id).ver=n∧(lM id H id).live=false:=by subst h; simp [lM]
theorem iQ {id j n:Nat} (h:(H j).ver=n∧(H j).live=false):(lM id H j).ver=n∧(lM id H j).live=false:=by
  by_cases e:j=id
  · subst e; exact dZ h.1
  · simp only [lM,bD _ _ e]; exact h
theorem aKd {α:Type} {n id ver len:Nat} {B:Blk} {f:α→List V} {l:List α} (hH:H id=B) (hok:(B.live&&decide (B.ver=ver))=true) (hr:B.rows.take len=l.map f) (hc: ∀ a,dL (f a)=true):
    fzv true H (n+1) (.ms id ver 0 len)=.sl (l.map f):=by
  subst hH
  simp only [fzv]
  rw [if_pos hok,List.drop_zero,hr]
  congr 1
  rw [List.map_map]
  refine List.map_congr_left fun a _=>dR n _ (hc a)
theorem aCY {α:Type} {len:Nat} {f:α→List V} {l:List α} (h:len=l.length):(l.map f).take len=l.map f:=by
  subst h; rw [show l.length=(l.map f).length by simp,List.take_length]
theorem aJH {α:Type} {len:Nat} {f:α→List V} {l:List α} {r:List (List V)} (h:len=l.length):(l.map f++r).take len=l.map f:=by
  subst h; rw [show l.length=(l.map f).length by simp,List.take_left]
end
theorem aMY {α:Type} {ver ty sz m:Nat} {lz:Bool} {f:α→List V} {l:List α} {z:List V} (h:0 < l.length):okB ⟨ver,true,lz,ty,sz,l.map f++List.replicate m z⟩ ver=true:=by
  cases l with
  |nil=>simp at h
  |cons a l=>simp [okB,Blk.own]
theorem aLi {H:aP} {α:Type} {n id ver len:Nat} {B:Blk} {f:α→List V} {l m:List α} (hH:H id=B) (hok:(B.live&&decide (B.ver=ver))=true) (hr:B.rows.take len=l.map f) (hc: ∀ a,dL (f a)=true) (h:l=m):
    fzv true H (n+1) (.ms id ver 0 len)=.sl (m.map f):=by
  subst h; exact aKd hH hok hr hc
theorem aA4 {H:aP} {id id2 ver v2 ty ty2 i off len sz sz2:Nat} {lz lz2:Bool} {β:Type} {rows:List (List V)} {r:List V} {m:List β} {g:β→List V} (hne:id2≠id) (h1:H id=⟨ver,true,lz,ty,sz,m.map g⟩) (h2:H id2=⟨v2,true,lz2,ty2,sz2,rows.set i r⟩)
    (hi:i < rows.length) (hl:len=m.length) (hc:r[off]?=some (.ms id ver 0 len)) {K:(Nat→V)→aP→Prop} {T:Nat→V} (h:G K (fzT id H T) (upd (lM id H) id2 ⟨v2,true,lz2,ty2,sz2,rows.set i (r.set off (.sl (m.map g)))⟩)):G K T H:=by
  subst hl
  have hr:(H id2).rows[i]?=some r:=by rw [h2]; simp [hi]
  refine .frzCell id ver m.length id2 i off r hne (by rw [h1]) (by rw [h1]) (by rw [h2]; cases rows with
    |nil=>simp at hi
    |cons a l=>cases i <;> simp [Blk.own]) hr hc ?_
  have e:({H id2 with rows:=(H id2).rows.set i (r.set off (.sl ((H id).rows.take m.length)))}:Blk)=⟨v2,true,lz2,ty2,sz2,rows.set i (r.set off (.sl (m.map g)))⟩:=by
    rw [h2,h1]
    simp only [Blk.mk.injEq,true_and,List.set_set]
    rw [show m.length=(m.map g).length by simp,List.take_length]
  rw [e]; exact h
end Go.Proofs.YteehaobohaecmaaGreatDoor
namespace Go.Proofs.YteehaobohaecmaaGreatDoor
open Go
abbrev sO (d:Nat) (x:X):SO:=⟨none,some d,x⟩
abbrev qM (d a:Nat):SO:=sO d (.mv (.t a))
abbrev qI (d:Nat) (n:Int):SO:=sO d (.mv (.c (.int .i64 n)))
abbrev qF (d n a:Nat):SO:=sO d (.fld n (.t a))
abbrev qL (d n a:Nat):SO:=sO d (.load true n (.t a))
abbrev ql (d a:Nat):SO:=sO d (.load false 1 (.t a))
abbrev qE (d a i:Nat):SO:=sO d (.ext (.t a) i)
abbrev qA (d e a i:Nat):SO:=sO d (.idx e (.t a) (.t i))
abbrev qN (d a:Nat):SO:=sO d (.len (.t a))
abbrev qP (d:Nat) (b:BinOp) (x y:Nat):SO:=sO d (.bin b (.t x) (.t y))
abbrev qC (d:Nat) (b:BinOp) (x:Nat) (n:Int):SO:=sO d (.bin b (.t x) (.c (.int .i64 n)))
abbrev sN (x:X):SO:=⟨none,none,x⟩
abbrev bk (v:Nat) (ty sz:Nat) (rows:List (List V)):Blk:=⟨v,true,false,ty,sz,rows⟩
abbrev bz (v:Nat) (ty sz:Nat) (rows:List (List V)):Blk:=⟨v,true,true,ty,sz,rows⟩
section
variable {P:Program} {k0 d:Nat} {r:List SO} {T:Nat→V} {H:aP} {K:(Nat→V)→aP→Prop} {a b:SX} {v:V}
theorem aI {f:Nat} {args:List SX} {as0:List V} (hc:aQ P f as0 v) (he:evs T args=as0) (h:Ops P k0 r (upd T d v) H K)
    (h1:dL as0=true:=by simp [-List.map_take,-List.map_drop,-List.map_append,-List.map_reverse]) (h2:eE as0=true:=by simp [-List.map_take,-List.map_drop,-List.map_append,-List.map_reverse]):
    Ops P k0 (⟨none,some d,.call false f args⟩::r) T H K:=kN he hc (dR _ _ h1) h2 (.inl h2) h
end
def nz:V→V
  | .nilsl=>.sl []
  |v=>v
theorem aTY {x:Cx} {v:V} {c:Value} (r:R x v c):R x (nz v) c:=by
  cases v <;> first|exact r|(generalize hq:V.nilsl=q at r; cases r <;> cases hq; exact .slnil)
theorem aH9 {K : (Nat → V) → aP → Prop} {T : Nat → V} {id i : Nat} {r : List V} : ∀ (j : Nat) {H : aP} {pre suf : List V}, r = pre ++ suf → suf.length = j → (H id).own = true → (H id).rows[i]? = some (pre.map nz ++ suf) →
    G K T (upd H id {H id with rows:=(H id).rows.set i (r.map nz)})→G K T H:=by
  intro j
  induction j with
  | zero =>
    intro H pre suf he hl ho hr h
    have:=List.length_eq_zero_iff.1 hl
    subst this
    have e:({H id with rows:=(H id).rows.set i (r.map nz)}:Blk)=H id:=by
      rw [he,List.append_nil]
      rw [List.append_nil] at hr
      have:(H id).rows.set i (pre.map nz)=(H id).rows:=by
        have hi:=(List.getElem?_eq_some_iff.1 hr).1
        have:=(List.getElem?_eq_some_iff.1 hr).2
        rw [← this,List.set_getElem_self]
      rw [this]
    rw [e] at h
    have e2:upd H id (H id)=H:=funext fun k=>by unfold upd; split <;> simp_all
    rw [e2] at h; exact h
  | succ j ih =>
    intro H pre suf he hl ho hr h
    cases suf with
    |nil=>simp at hl
    | cons v s =>
      refine .cell id i pre.length v (nz v) (pre.map nz++v::s) ho hr (by simp) (fun x c r=>aTY r) ?_
      have hi:=(List.getElem?_eq_some_iff.1 hr).1
      have e1:(pre.map nz++v::s).set pre.length (nz v)=(pre++[v]).map nz++s:=by
        rw [List.set_append_right _ _ (by simp)]
        simp
      have ho2:({H id with rows:=(H id).rows.set i ((pre.map nz++v::s).set pre.length (nz v))}:Blk).own=true:=by
        unfold Blk.own at ho ⊢
        cases hq:(H id).rows with
        |nil=>rw [hq] at hi; simp at hi
        |cons a l=>rw [hq] at ho; cases i <;> simpa using ho
      refine ih (H:=upd H id {H id with rows:=(H id).rows.set i ((pre.map nz++v::s).set pre.length (nz v))}) (pre:=pre++[v]) (suf:=s) (by rw [he]; simp) (by simpa using hl) (by rw [aK]; exact ho2) (by rw [aK,e1]; simp [hi]) ?_
      rw [aK]
      have e3:upd (upd H id {H id with rows:=(H id).rows.set i ((pre.map nz++v::s).set pre.length (nz v))}) id {H id with rows:=((H id).rows.set i ((pre.map nz++v::s).set pre.length (nz v))).set i (r.map nz)}=upd H id {H id with rows:=(H id).rows.set i (r.map nz)}:=by
        funext k
        by_cases e:k=id
        · subst e; simp only [aK,List.set_set]
        · simp only [bD _ _ e]
      rw [e3]; exact h
theorem aKG {ver ty sz:Nat} {lz:Bool} {rows:List (List V)} (h:rows≠[]):(⟨ver,true,lz,ty,sz,rows⟩:Blk).own=true:=by
  cases rows with
  |nil=>exact (h rfl).elim
  |cons a l=>simp [Blk.own]
theorem aLV {K:(Nat→V)→aP→Prop} {T:Nat→V} {H:aP} {id i ver ty sz:Nat} {lz:Bool} {rows:List (List V)} {r r':List V} (hH:H id=⟨ver,true,lz,ty,sz,rows.set i r⟩) (hi:i < rows.length) (hr:r.map nz=r')
    (h:G K T (upd H id ⟨ver,true,lz,ty,sz,rows.set i r'⟩)):G K T H:=by
  refine aH9 (id:=id) (i:=i) (r:=r) r.length (pre:=[]) (suf:=r) rfl rfl ?_ ?_ ?_
  · rw [hH]
    refine aKG fun e=>?_
    have:=congrArg List.length e
    simp at this; subst this; simp at hi
  · rw [hH]; simp [hi]
  · rw [hH]; simp only [List.set_set]; rw [hr]; exact h
theorem aMn {K:(Nat→V)→aP→Prop} {T:Nat→V} {id ver ty sz:Nat} {lz:Bool}: ∀ {raw:List (List V)} {H:aP} {pre:List (List V)},H id=⟨ver,true,lz,ty,sz,pre++raw⟩→
    G K T (upd H id ⟨ver,true,lz,ty,sz,pre++raw.map (List.map nz)⟩)→G K T H:=by
  intro raw
  induction raw with
  | nil =>
    intro H pre hH h
    have e2:upd H id (H id)=H:=funext fun k=>by unfold upd; split <;> simp_all
    rw [List.map_nil,← hH,e2] at h; exact h
  | cons r raw ih =>
    intro H pre hH h
    refine aH9 (id:=id) (i:=pre.length) (r:=r) r.length (pre:=[]) (suf:=r) rfl rfl (by rw [hH]; exact aKG (by simp)) (by rw [hH]; simp) ?_
    refine ih (pre:=pre++[r.map nz]) (by rw [aK,hH]; simp only [Blk.mk.injEq,true_and]; rw [List.set_append_right _ _ (Nat.le_refl _)]; simp) ?_
    have e3: ∀ b c:Blk,upd (upd H id b) id c=upd H id c:=fun b c=>funext fun k=>by
      by_cases e:k=id
      · subst e; simp only [aK]
      · simp only [bD _ _ e]
    rw [e3]
    simpa using h
theorem aLu {α:Type} {K:(Nat→V)→aP→Prop} {T:Nat→V} {H:aP} {id ver ty sz:Nat} {lz:Bool} {l m:List α} {f:α→List V} {raw:List (List V)} (hH:H id=⟨ver,true,lz,ty,sz,l.map f++raw⟩) (hr:raw.map (List.map nz)=m.map f)
    (h:G K T (upd H id ⟨ver,true,lz,ty,sz,(l++m).map f⟩)):G K T H:=by
  refine aMn hH ?_
  rw [hr,← List.map_append]; exact h
end Go.Proofs.YteehaobohaecmaaGreatDoor
namespace Go.Proofs.YteehaobohaecmaaGreatDoor
open Go
section
variable {P:Program} {k0:Nat} {Q:Ex→(Nat→V)→aP→Prop} {T:Nat→V} {H:aP}
theorem W_r {ops:List SO} {b:SC} (h:Ops P k0 ops T H fun T H=>W P k0 b Q T H):W P k0 (.seq (.reg ops) b) Q T H:=
  ⟨k0,lU (fun _ _ h=>.done h) h⟩
theorem W_t {ops:List SO} (h:Ops P k0 ops T H fun T H=>Q .norm T H):W P k0 (.reg ops) Q T H:=⟨k0,h⟩
theorem W_d {ops:List SO} {b:SC} {kZ:List Nat} (hl: ∀ d∈kZ,(H (k0+d)).live=false) (h:Ops P k0 ops T H fun T H=>W P k0 b Q T H):W P k0 (.seq (.dreg kZ ops) b) Q T H:=
  ⟨k0,hl,lU (fun _ _ h=>.done h) h⟩
end
theorem lV {H:aP} {k0:Nat}: ∀ d∈([]:List Nat),(H (k0+d)).live=false:=fun _ h=>by simp at h
theorem jY {H:aP} {k0 d:Nat} {l:List Nat} (h:(H (k0+d)).live=false) (hl: ∀ d∈l,(H (k0+d)).live=false): ∀ x∈d::l,(H (k0+x)).live=false:=by
  intro x hx
  rcases List.mem_cons.1 hx with rfl|hx
  · exact h
  · exact hl _ hx
theorem oB {ver ty sz:Nat} {rows:List (List V)}:okB ⟨ver,true,false,ty,sz,rows⟩ ver=true:=by simp [okB,Blk.own]
theorem lB {agg:Bool} {n ver row off:Nat} {B:Blk} {r:List V} {v:V} (ho:okB B ver=true) (hr:B.rows[row]?=some r) (hv:ldV agg n (r.drop off)=some v):ldB agg n B ver row off=some v:=by
  unfold ldB; rw [if_pos (show (B.own&&decide (B.ver=ver))=true from ho),hr]; exact hv
theorem sB {n ver row off:Nat} {B B':Blk} {r vs:List V} (ho:okB B ver=true) (hn:vs.length=n) (ha:vs.all V.one=true) (hr:B.rows[row]?=some r) (hl:Nat.ble (off+n) r.length=true) (hB:{B with rows:=B.rows.set row (jX r off vs)}=B'):stB B ver row off n vs=some B':=by
  unfold stB; rw [if_pos ho,if_pos hn,if_pos ha,hr]; dsimp only; rw [if_pos (Nat.le_of_ble_eq_true hl),hB]
section
variable {P:Program} {k0 d:Nat} {r:List SO} {T:Nat→V} {H:aP} {K:(Nat→V)→aP→Prop} {a b:SX} {v:V}
theorem aJ {agg:Bool} {n id ver row off ty sz:Nat} {rows:List (List V)} {rw:List V} (ha:ev T a=.mp id ver row off) (hH:H id=⟨ver,true,false,ty,sz,rows⟩) (hr:rows[row]?=some rw) (hv:ldV agg n (rw.drop off)=some v) (h:Ops P k0 r (upd T d v) H K):
    Ops P k0 (⟨none,some d,.load agg n a⟩::r) T H K:=cN ha hH (lB oB hr hv) h
theorem aM {off id ver row o ty sz:Nat} {rows:List (List V)} (ha:ev T a=.mp id ver row o) (hH:H id=⟨ver,true,false,ty,sz,rows⟩) (h:Ops P k0 r (upd T d (.mp id ver row (o+off))) H K):Ops P k0 (⟨none,some d,.fld off a⟩::r) T H K:=
  aIo ha hH oB rfl h
theorem bF {n id ver row off ty sz:Nat} {rows:List (List V)} {B':Blk} {rw vs:List V} (ha:ev T a=.mp id ver row off) (hb:ev T b=v) (hc:v.cells=vs) (hH:H id=⟨ver,true,false,ty,sz,rows⟩) (hn:vs.length=n) (hl:vs.all V.one=true) (hr:rows[row]?=some rw)
    (hm:Nat.ble (off+n) rw.length=true) (hB:(⟨ver,true,false,ty,sz,rows.set row (jX rw off vs)⟩:Blk)=B') (h:Ops P k0 r T (upd H id B') K):Ops P k0 (⟨none,none,.store n a b⟩::r) T H K:=
  gJ ha hb hc hH (sB oB hn hl hr hm hB) h
end
theorem R_e {P:Program} {k0:Nat} {T:Nat→V} {H:aP} {K:(Nat→V)→aP→Prop} (h:K T H):Ops P k0 [] T H K:=h
end Go.Proofs.YteehaobohaecmaaGreatDoor
namespace Go.Proofs.YteehaobohaecmaaGreatDoor
open Go
theorem pW {P:Program} {op:Opt} {f:Nat} {fn:Func} {s:SF} {args:List V} {v:V} {B:Prop} (hf:P.funcs[f]?=some fn) (hs:bJ P op fn=some s)
    (hW : B → W P 0 s.body (Ret s.res fun u G => fzv true G 6 u = v) (T0 args) H0) (hn : (fn.name == "runtime.NumGoroutine") = false := by kernel_rfl)
    (hl:Nat.ble args.length s.n=true:=by rfl) (ha:eE args=true:=by simp) (hv:v.pure=true:=by simp)
    (hb:jC args=true→B:=by intro hB; first|(simp only [nG,mR,kQ,mX,mO,qZ,mS,kV,implies_true,and_true,true_and] at hB; exact hB)|exact (fun _=>trivial) hB):aQ P f args v:=
  kT true 6 hf hs hn (Nat.le_of_ble_eq_true hl) ha hv fun h=>hW (hb h)
theorem eW {P:Program} {op:Opt} {k0 f:Nat} {fn:Func} {s:SF} {args:List V} {H:aP} {v:V} {H':aP} {B:Prop} (hf:P.funcs[f]?=some fn) (hs:bJ P op fn=some s)
    (hW : B → W P k0 s.body (Ret s.res fun u G => rF G H' ∧ dS G H' u v) (T0 args) H) (hn : (fn.name == "runtime.NumGoroutine") = false := by kernel_rfl)
    (hl:Nat.ble args.length s.n=true:=by rfl)
    (hb:jC args=true→B:=by intro hB; first|(simp only [nG,mR,kQ,mX,mO,qZ,mS,kV,implies_true,and_true,true_and] at hB; exact hB)|exact (fun _=>trivial) hB):eR P f args H v H':=
  aCc hf hs hn (Nat.le_of_ble_eq_true hl) fun h=>hW (hb h)
theorem edT {x:V} {p:Prop} [Decidable p] (h:p) (hx:x=V.bool (decide p)):x=V.bool true:=by rw [hx]; simp [h]
theorem edF {x:V} {p:Prop} [Decidable p] (h: ¬p) (hx:x=V.bool (decide p)):x=V.bool false:=by rw [hx]; simp [h]
theorem ebT {x:V} {b:Bool} (h:b=true) (hx:x=V.bool b):x=V.bool true:=by rw [hx,h]
theorem ebF {x:V} {b:Bool} (h: ¬b=true) (hx:x=V.bool b):x=V.bool false:=by rw [hx,Bool.eq_false_iff.2 h]
theorem G_n {P:Program} {k0 d t:Nat} {r:List SO} {T:Nat→V} {H:aP} {K:(Nat→V)→aP→Prop} {w:Bool} {q:X} (ht:T t=.bool (!w)) (h:Ops P k0 r (upd T d (.raw undef)) H K):
    Ops P k0 (⟨some (t,w),some d,q⟩::r) T H K:=aUR ht (by cases w <;> decide) h
end Go.Proofs.YteehaobohaecmaaGreatDoor
namespace Go.Proofs.YteehaobohaecmaaGreatDoor
open Go
def aCg (ρ:Nat→Nat):V→V
  | .mp id ver r o=>.mp (ρ id) ver r o
  | .ms id ver o l=>.ms (ρ id) ver o l
  |v=>v
def ren (ρ:Nat→Nat):V→V
  | .fn f a b=>.fn f (a.map (aCg ρ)) (b.map (aCg ρ))
  |v=>aCg ρ v
def nX (n:Nat):V→Bool
  | .mp id _ _ _=>decide (id < n)
  | .ms id _ _ _=>decide (id < n)
  |v=>v.pure
def loc (n:Nat):V→Bool
  | .fn _ a b=>a.all (nX n)&&b.all (nX n)
  |v=>nX n v
def jQ (ρ:Nat→Nat) (b:Blk):Blk:={b with rows:=b.rows.map fun r=>r.map (aCg ρ)}
def rG (n:Nat) (b:Blk):Bool:=b.rows.all fun r=>r.all (nX n)
theorem lZ {ρ:Nat→Nat} {b:Blk}:(jQ ρ b).isM=b.isM:=rfl
theorem aDc {ρ:Nat→Nat} {b:Blk} {cc:Array Value}:(jQ ρ b).obj cc=b.obj cc:=by unfold Blk.obj; rw [lZ]; simp [jQ]
theorem eI {ρ:Nat→Nat} {b:Blk}:(jQ ρ b).own=b.own:=by simp [jQ,Blk.own]
structure View (n:Nat) (ρ:Nat→Nat) (x z:Cx):Prop where
  w:z.w=x.w
  Z: ∀ b,x.Z b→z.Z b
  H: ∀ i,i < n→z.H (ρ i)=jQ ρ (x.H i)
  σ: ∀ i,i < n→z.σ (ρ i)=x.σ i
theorem aRS {n:Nat} {ρ:Nat→Nat} {x z:Cx} (hv:View n ρ x z) {v:V} {c:Value} (hl:nX n v=true) (h:R x v c):R z (aCg ρ v) c:=by
  cases v with
  | mp id ver row off =>
    simp only [nX,decide_eq_true_eq] at hl
    cases h with
    |mp _ _ _ _ p hver hh hm=>
    refine .mp _ _ _ _ _ (by rw [hv.H id hl]; exact hver) (fun e ho=>?_) fun e ho=>by
      rw [hv.H id hl] at e ho ⊢
      rw [eI] at ho
      rw [lZ]; exact hm e ho
    rw [hv.H id hl] at e ho
    rw [eI] at ho
    rw [hh e ho,hv.σ id hl,hv.H id hl]; rfl
  | ms id ver off len =>
    simp only [nX,decide_eq_true_eq] at hl
    cases h with
    |ms _ _ _ _ b m cap hver hh hm=>
    refine .ms _ _ _ _ _ _ _ (by rw [hv.H id hl]; exact hver) (fun e ho=>?_) fun e ho=>by
      rw [hv.H id hl] at e ho ⊢
      rw [lZ]; exact hm e ho
    rw [hv.H id hl] at e ho
    obtain ⟨e1,e2,e3,e4,e5,e6⟩:=hh e ho
    refine ⟨e1,e2,e3,by rw [hv.H id hl]; simpa [jQ] using e4,fun q=>?_,fun q=>?_⟩
    · rw [hv.H id hl,eI] at q
      rw [hv.σ id hl,hv.H id hl,hv.w]
      exact e5 q
    · rw [hv.H id hl,eI] at q
      exact e6 q
  |_=>exact h.pure_at hl hv.w hv.Z
theorem wN {n:Nat} {ρ:Nat→Nat} {x z:Cx} (hv:View n ρ x z) (hZ: ∀ b,z.Z b→x.Z b) {v:V} {c:Value} (hl:nX n v=true) (h:R z (aCg ρ v) c):R x v c:=by
  cases v with
  | mp id ver row off =>
    simp only [nX,decide_eq_true_eq] at hl
    cases h with
    |mp _ _ _ _ p hver hh hm=>
    rw [hv.H id hl] at hver hh hm
    refine .mp _ _ _ _ _ hver (fun e ho=>?_) fun e ho=>hm e (by rw [eI]; exact ho)
    rw [hh e (by rw [eI]; exact ho),hv.σ id hl]; rfl
  | ms id ver off len =>
    simp only [nX,decide_eq_true_eq] at hl
    cases h with
    |ms _ _ _ _ b m cap hver hh hm=>
    rw [hv.H id hl] at hver hh hm
    refine .ms _ _ _ _ _ _ _ hver (fun e ho=>?_) fun e ho=>hm e ho
    obtain ⟨e1,e2,e3,e4,e5,e6⟩:=hh e ho
    refine ⟨e1,e2,e3,by simpa [jQ] using e4,fun q=>?_,fun q=>?_⟩
    · have:=e5 (by rw [eI]; exact q)
      rw [hv.σ id hl,hv.w] at this
      exact this
    · exact e6 (by rw [eI]; exact q)
  |_=>exact R.pure_at h hl hv.w.symm hZ
theorem aPV {n:Nat} {ρ:Nat→Nat} {x z:Cx} (hv:View n ρ x z) (hZ: ∀ b,z.Z b→x.Z b) {v:V} {c:Value} (hl:loc n v=true) (h:R z (ren ρ v) c):R x v c:=by
  cases v with
  | fn f a b =>
    simp only [loc,Bool.and_eq_true,List.all_eq_true] at hl
    cases h with
    |fn _ _ _ fs cs h1 h2 h3 h4=>
    refine .fn f a b fs cs (by simpa using h1) (by simpa using h2) (fun j v hj=>?_) (fun j v hj=>?_)
    · exact wN hv hZ (hl.1 v (List.mem_of_getElem? hj)) (h3 j _ (by rw [List.getElem?_map,hj]; rfl))
    · exact wN hv hZ (hl.2 v (List.mem_of_getElem? hj)) (h4 j _ (by rw [List.getElem?_map,hj]; rfl))
  |_=>exact wN hv hZ hl h
def uJ (ρ:Nat→Nat) (HL:aP) (H:aP):Nat→aP
  |0=>H
  |n+1=>upd (uJ ρ HL H n) (ρ n) (jQ ρ (HL n))
def aCI (ρ:Nat→Nat) (s σ:Nat→Nat):Nat→Nat→Nat
  |0=>σ
  |n+1=>upd (aCI ρ s σ n) (ρ n) (s n)
theorem aFv {ρ:Nat→Nat} {HL H:aP}: ∀ {n:Nat},(∀ i j,i < n→j < n→ρ i=ρ j→i=j)→ ∀ i,i < n→uJ ρ HL H n (ρ i)=jQ ρ (HL i)
  |0,_,i,h=>absurd h (Nat.not_lt_zero i)
  | n + 1, hi, i, h => by
    simp only [uJ]
    by_cases e:i=n
    · subst e; rw [aK]
    · rw [bD _ _ (fun q=>e (hi i n h (Nat.lt_succ_self n) q))]
      exact aFv (fun i j h1 h2=>hi i j (by omega) (by omega)) i (by omega)
theorem aBr {ρ:Nat→Nat} {HL H:aP}: ∀ {n j:Nat},(∀ i,i < n→ρ i≠j)→uJ ρ HL H n j=H j
  |0,_,_=>rfl
  | n + 1, j, h => by
    simp only [uJ]
    rw [bD _ _ (Ne.symm (h n (Nat.lt_succ_self n)))]
    exact aBr fun i hi=>h i (by omega)
theorem aGr {ρ s σ:Nat→Nat}: ∀ {n:Nat},(∀ i j,i < n→j < n→ρ i=ρ j→i=j)→ ∀ i,i < n→aCI ρ s σ n (ρ i)=s i
  |0,_,i,h=>absurd h (Nat.not_lt_zero i)
  | n + 1, hi, i, h => by
    simp only [aCI]
    by_cases e:i=n
    · subst e; rw [aK]
    · rw [bD _ _ (fun q=>e (hi i n h (Nat.lt_succ_self n) q))]
      exact aGr (fun i j h1 h2=>hi i j (by omega) (by omega)) i (by omega)
theorem aGD {ρ s σ:Nat→Nat}: ∀ {n j:Nat},(∀ i,i < n→ρ i≠j)→aCI ρ s σ n j=σ j
  |0,_,_=>rfl
  | n + 1, j, h => by
    simp only [aCI]
    rw [bD _ _ (Ne.symm (h n (Nat.lt_succ_self n)))]
    exact aGD fun i hi=>h i (by omega)
section
variable {n:Nat} {ρ:Nat→Nat} {Hl:aP} {x:Cx}
def oY (x:Cx) (ρ:Nat→Nat) (Hl:aP):Cx:={w:=x.w,Z:=x.Z,σ:=fun i=>x.σ (ρ i),H:=Hl}
theorem vD (hH: ∀ i,i < n→x.H (ρ i)=jQ ρ (Hl i)):View n ρ (oY x ρ Hl) x:=⟨rfl,fun _ h=>h,hH,fun _ _=>rfl⟩
theorem aHD (hx:Inv x) (hρ: ∀ i j,i < n→j < n→ρ i=ρ j→i=j) (hH: ∀ i,i < n→x.H (ρ i)=jQ ρ (Hl i)) (hloc: ∀ i,i < n→rG n (Hl i)=true) (hd: ∀ i,n≤i→(Hl i).own=false):Inv (oY x ρ Hl):=by
  have lt: ∀ i,(Hl i).own=true→i < n:=fun i h=>by
    rcases Nat.lt_or_ge i n with q|q
    · exact q
    · rw [hd i q] at h; cases h
  have ow: ∀ i,(Hl i).own=true→(x.H (ρ i)).own=true:=fun i h=>by rw [hH i (lt i h),eI]; exact h
  refine ⟨hx.zlt,fun b id hb ho=>hx.zown b (ρ id) hb (ow id ho),fun id ho=>?_,fun i j hi hj he=>hρ i j (lt i hi) (lt j hj) (hx.inj _ _ (ow i hi) (ow j hj) he),hx.tab⟩
  obtain ⟨cc,h1,h2,h3,h4⟩:=hx.blk (ρ id) (ow id ho)
  have e:=hH id (lt id ho)
  rw [e] at h1 h2 h3 h4
  rw [aDc] at h1
  refine ⟨cc,h1,fun r hr=>?_,by simpa [jQ,oY] using h3,fun r row j v hr hj=>?_⟩
  · have:=h2 (r.map (aCg ρ)) (by simp only [jQ]; exact List.mem_map_of_mem hr)
    simpa [jQ,oY] using this
  · have h5:=h4 r (row.map (aCg ρ)) j (aCg ρ v) (by simp only [jQ]; rw [List.getElem?_map,show (Hl id).rows[r]?=some row from hr]; rfl) (by rw [List.getElem?_map,hj]; rfl)
    refine wN (vD hH) (fun _ h=>h) ?_ h5
    have:=hloc id (lt id ho)
    simp only [rG,List.all_eq_true] at this
    exact this row (List.mem_of_getElem? hr) v (List.mem_of_getElem? hj)
theorem aN8 (hx : Inv x) (hρ : ∀ i j, i < n → j < n → ρ i = ρ j → i = j) (hH : ∀ i, i < n → x.H (ρ i) = jQ ρ (Hl i)) (hd : ∀ i, n ≤ i → (Hl i).own = false) {y : Cx} (hf : Frame (oY x ρ Hl) y) (hy : Inv y)
    (hloc: ∀ i,i < n→(y.H i).own=true→rG n (y.H i)=true) (_hyd: ∀ i,n≤i→(y.H i).own=false):
    let z:Cx:={w:=y.w,Z:=y.Z,σ:=aCI ρ y.σ x.σ n,H:=uJ ρ y.H x.H n}
    Inv z∧Frame x z∧View n ρ y z:=by
  intro z
  have hv:View n ρ y z:=⟨rfl,fun _ h=>h,fun i hi=>aFv hρ i hi,fun i hi=>aGr hρ i hi⟩
  have cas: ∀ j,(∃ i,i < n∧ρ i=j)∨((∀ i,i < n→ρ i≠j)∧z.H j=x.H j∧z.σ j=x.σ j):=fun j=>by
    by_cases h: ∃ i,i < n∧ρ i=j
    · exact .inl h
    · have h': ∀ i,i < n→ρ i≠j:=fun i hi e=>h ⟨i,hi,e⟩
      exact .inr ⟨h',aBr h',aGD h'⟩
  have lt: ∀ i,(Hl i).own=true→i < n:=fun i h=>by
    rcases Nat.lt_or_ge i n with q|q
    · exact q
    · rw [hd i q] at h; cases h
  have ow: ∀ i,(Hl i).own=true→(x.H (ρ i)).own=true:=fun i h=>by rw [hH i (lt i h),eI]; exact h
  have hkeep: ∀ b,b < x.w.heap.size→(∀ i,(Hl i).own=true→x.σ (ρ i)≠b)→y.w.heap[b]?=x.w.heap[b]?:=fun b hb h=>hf.keep b hb h
  have hko: ∀ j,(x.H j).own=true→(∀ i,i < n→ρ i≠j)→y.w.heap[x.σ j]?=x.w.heap[x.σ j]?:=fun j ho hj=>hkeep _ (hx.lt ho) fun i hi e=>hj i (lt i hi) (hx.inj _ _ (ow i hi) ho e)
  have hF:Frame x z:=by
    refine ⟨hf.os,hf.tape,hf.output,hf.size,fun b hb h=>hkeep b hb fun i hi=>h _ (ow i hi),fun b hb=>hf.zone b hb,fun b hb=>?_,fun j=>?_,fun j ho=>?_,hf.drawn,fun j hl hve=>?_⟩
    · rcases hf.zold b hb with h|h|⟨i,h1,h2⟩
      · exact .inl h
      · exact .inr (.inl h)
      · exact .inr (.inr ⟨ρ i,ow i h1,h2⟩)
    · rcases cas j with ⟨i,hi,rfl⟩|⟨h1,h2,h3⟩
      · rw [hv.H i hi,hH i hi]
        obtain ⟨g1,g2⟩:=hf.ids i
        refine ⟨g1,fun hl hve=>?_⟩
        obtain ⟨a1,a2,a3,a4,a5⟩:=g2 hl hve
        refine ⟨a1,by rw [eI,eI]; exact a2,a3,fun q=>by simpa [jQ,oY] using a4 (by rw [lZ] at q; exact q),fun ho=>?_⟩
        rw [eI] at ho
        rw [hv.σ i hi]
        exact a5 ho
      · rw [h2,h3]
        exact ⟨Nat.le_refl _,fun hl _=>⟨hl,rfl,rfl,fun _=>rfl,fun ho=>⟨rfl,by unfold dX; rw [show z.w.heap[x.σ j]?=x.w.heap[x.σ j]? from hko j ho h1]⟩⟩⟩
    · rcases cas j with ⟨i,hi,rfl⟩|⟨h1,h2,h3⟩
      · rw [hv.H i hi,eI] at ho
        rw [hv.σ i hi]
        rcases hf.fresh i ho with ⟨g1,g2⟩|g1
        · exact .inl ⟨ow i g1,g2⟩
        · exact .inr g1
      · rw [h2] at ho
        rw [h3]; exact .inl ⟨ho,rfl⟩
    · rcases cas j with ⟨i,hi,rfl⟩|⟨h1,h2,h3⟩
      · rw [hv.H i hi] at hl hve ⊢
        rw [hH i hi] at hve ⊢
        rw [lZ,lZ]
        exact hf.ism i hl hve
      · rw [h2]
  refine ⟨⟨hy.zlt,fun b j hb ho=>?_,fun j ho=>?_,fun j k hj hk he=>?_,hx.tab_of hF⟩,hF,hv⟩
  · rcases cas j with ⟨i,hi,rfl⟩|⟨h1,h2,h3⟩
    · rw [hv.H i hi,eI] at ho
      rw [hv.σ i hi]
      exact hy.zown b i hb ho
    · rw [h2] at ho
      rw [h3]
      rcases hf.zold b hb with h|h|⟨i,g1,g2⟩
      · exact hx.zown b j h ho
      · have:=hx.lt ho
        intro e
        have:x.w.heap.size≤b:=h
        omega
      · intro e
        exact h1 i (lt i g1) (hx.inj _ _ (ow i g1) ho (g2.trans e.symm))
  · rcases cas j with ⟨i,hi,rfl⟩|⟨h1,h2,h3⟩
    · have ho':=ho
      rw [hv.H i hi,eI] at ho'
      obtain ⟨cc,g1,g2,g3,g4⟩:=hy.blk i ho'
      rw [hv.H i hi,hv.σ i hi]
      refine ⟨cc,by rw [aDc]; exact g1,fun r hr=>?_,by simpa [jQ] using g3,fun r row j v hr hj=>?_⟩
      · simp only [jQ,List.mem_map] at hr
        obtain ⟨r',hr',rfl⟩:=hr
        rw [List.length_map]; exact g2 r' hr'
      · simp only [jQ] at hr
        obtain ⟨row',q1,rfl⟩:=eT hr
        obtain ⟨v',q2,rfl⟩:=eT hj
        refine aRS hv ?_ (g4 r row' j v' q1 q2)
        have:=hloc i hi ho'
        simp only [rG,List.all_eq_true] at this
        exact this row' (List.mem_of_getElem? q1) v' (List.mem_of_getElem? q2)
    · have ho':=ho
      rw [h2] at ho'
      obtain ⟨cc,g1,g2,g3,g4⟩:=hx.blk j ho'
      rw [h2,h3]
      exact ⟨cc,by rw [show z.w.heap[x.σ j]?=x.w.heap[x.σ j]? from hko j ho' h1]; exact g1,g2,g3,fun r row j v hr hj=>(g4 r row j v hr hj).frame hx hF⟩
  · rcases cas j with ⟨i,hi,rfl⟩|⟨h1,h2,h3⟩
    · rw [hv.H i hi, eI] at hj
      rw [hv.σ i hi] at he
      rcases cas k with ⟨i',hi',rfl⟩|⟨k1,k2,k3⟩
      · rw [hv.H i' hi',eI] at hk
        rw [hv.σ i' hi'] at he
        rw [hy.inj i i' hj hk he]
      · rw [k2] at hk
        rw [k3] at he
        rcases hf.fresh i hj with ⟨g1,g2⟩|g1
        · exact absurd (hx.inj _ _ (ow i g1) hk (g2.symm.trans he)) (k1 i hi)
        · have:=hx.lt hk
          have:x.w.heap.size≤y.σ i:=g1
          omega
    · rw [h2] at hj
      rw [h3] at he
      rcases cas k with ⟨i',hi',rfl⟩|⟨k1,k2,k3⟩
      · rw [hv.H i' hi',eI] at hk
        rw [hv.σ i' hi'] at he
        rcases hf.fresh i' hk with ⟨g1,g2⟩|g1
        · exact absurd (hx.inj _ _ (ow i' g1) hj (g2.symm.trans he.symm)) (h1 i' hi')
        · have:=hx.lt hj
          have:x.w.heap.size≤y.σ i':=g1
          omega
      · rw [k2] at hk
        rw [k3] at he
        exact hx.inj j k hj hk he
end
inductive LOut where
  |ok (v:V) (HL:aP)
  |pan (c:Value)
def LOut.at (n:Nat) (ρ:Nat→Nat) (H:aP):LOut→Res
  | .ok v HL=>.ok v (uJ ρ HL H n)
  | .pan c=>.pan c ((List.range n).map ρ)
def aAk (P:Program) (f n:Nat) (args:List V) (Hl:aP) (out:LOut):Prop:=
  ∀ (H:aP) (ρ:Nat→Nat),(∀ i j,i < n→j < n→ρ i=ρ j→i=j)→(∀ i,i < n→H (ρ i)=jQ ρ (Hl i))→aOn P f (args.map (ren ρ)) H (out.at n ρ H)
def cut (n:Nat) (H:aP):aP:=fun j=>if j < n then H j else {H j with live:=false}
theorem pJ (n:Nat) (H:aP):rF H (cut n H):=fun j=>by
  unfold cut
  split
  · exact .refl _
  · exact .gone (Nat.le_refl _) rfl
def aJW (res:List SRes) (n:Nat) (out:LOut):Ex→(Nat→V)→aP→Prop:=fun e T H=>match e with
  | .exit _=>False
  | .pan c=>out=.pan c
  |_=>onS (mF res T H) fun u=> ∃ v HL,out=.ok v HL∧v.pure=true∧dS H (cut n H) u v∧ ∀ i,i < n→H i=HL i∧((HL i).own=true→rG n (HL i)=true)
section
variable {P:Program} {op:Opt} {k0:Nat}
theorem aCA {f : Nat} {fn : Func} {s : SF} (hf : P.funcs[f]? = some fn) (hs : bJ P op fn = some s) {x : Cx} {args : List V} {cs : List Value} {Q : Ex → (Nat → V) → aP → Prop}
    {K:V→aP→Prop} {Kp:Value→aP→Prop} (hQ: ∀ e T H,Q e T H→match e with
      | .exit _=>False
      | .pan c=>Kp c H
      |_=>onS (mF s.res T H) fun v=>K v H)
    (hl:args.length≤s.n) (hW:W P k0 s.body Q (T0 args) x.H) (hx:Inv x) (hr:RL x args cs):
    Calls P f cs.toArray x.w fun e w'=> ∃ y,y.w=w'∧Inv y∧Frame x y∧((∃ c v,e=.returned c∧K v y.H∧R y v c)∨(∃ c,e=.panicked [{v:=c,recovered:=false}]∧Kp c y.H)):=by
  unfold bJ at hs
  split at hs
  · cases hs
  · rename_i c hc
    split at hs
    · rename_i sb r h1 h2
      cases hs
      refine calls_of_wp hf hc (wp_mono (aFo c sb h1 _ x x (T0 args) _ hW hx (yE hr hl) (Frame.refl x)) ?_)
      intro e a' w' hp
      obtain ⟨e',T',y,he,hw,hq,hy,hT',hF'⟩:=hp
      have hq:=hQ _ _ _ hq
      have fin:onS (mF r T' y.H) (fun v=>K v y.H)→a'.defers=[]∧ ∃ v,(results fn a'.tmps).run P w'=.ok v w'∧(∃ z:Cx,z.w=w'∧Inv z∧Frame x z∧((∃ c v',Ending.returned v=.returned c∧K v' z.H∧R z v' c)∨(∃ c,Ending.returned v=.panicked [{v:=c,recovered:=false}]∧Kp c z.H))):=by
        intro h
        obtain ⟨v,h3,h4⟩:=bO.1 h
        obtain ⟨c,h5,h6⟩:=vI h2 hy hT' h3
        exact ⟨hT'.defers,c,by rw [← hw]; exact h5,y,hw,hy,hF',.inl ⟨c,v,rfl,h4,h6⟩⟩
      cases e with
      |normal=>cases he; exact fin hq
      |ret=>cases he; exact fin hq
      |exit id=>cases he; exact hq.elim
      |goto l=>cases he
      | panic l =>
        simp only [aMR] at he
        split at he
        · rename_i c
          cases he
          exact ⟨hT'.defers,y,hw,hy,hF',.inr ⟨c,rfl,hq⟩⟩
        · cases he
      |outgrown=>cases he
    · cases hs
theorem aJQ {f : Nat} {fn : Func} {s : SF} (hf : P.funcs[f]? = some fn) (hs : bJ P op fn = some s) (hn : (fn.name == "runtime.NumGoroutine") = false) {n : Nat} {args : List V} {Hl : aP} {out : LOut}
    (hl:args.length≤s.n) (ha:args.all (loc n)=true) (hHl: ∀ i,i < n→rG n (Hl i)=true) (hd: ∀ i,n≤i→(Hl i).own=false)
    (hW:jC args=true→W P k0 s.body (aJW s.res n out) (T0 args) Hl):aAk P f n args Hl out:=by
  intro H ρ hρ hH
  have main: ∀ (x:Cx) (cs:List Value),x.H=H→Inv x→RL x (args.map (ren ρ)) cs→Calls P f cs.toArray x.w fun e w'=>
      (∃ c v HL y,out=.ok v HL∧e=.returned c∧y.w=w'∧y.H=uJ ρ HL H n∧Inv y∧R y v c∧Frame x y)∨(∃ c y,out=.pan c∧e=.panicked [{v:=c,recovered:=false}]∧y.w=w'∧(∀ j,j∉(List.range n).map ρ→y.H j=H j)∧Inv y∧Frame x y):=by
    intro x cs hxH hx hr
    subst hxH
    have hI:=aHD hx hρ hH hHl hd
    have hr0:RL (oY x ρ Hl) args cs:=by
      refine ⟨by simpa using hr.1,fun j v hj=>?_⟩
      refine aPV (vD hH) (fun _ h=>h) (List.all_eq_true.1 ha v (List.mem_of_getElem? hj)) (hr.2 j _ (by rw [List.getElem?_map,hj]; rfl))
    refine (aCA (x:=oY x ρ Hl) (Q:=aJW s.res n out) (Kp:=fun c _=>out=.pan c) (K:=fun u H=> ∃ v HL,out=.ok v HL∧v.pure=true∧dS H (cut n H) u v∧ ∀ i,i < n→H i=HL i∧((HL i).own=true→rG n (HL i)=true)) hf hs (fun e T H h=>?_) hl (hW hr0.bnd) hI hr0).mono fun e w' h=>?_
    · cases e <;> exact h
    obtain ⟨y,hw,hy,hF,h⟩:=h
    rcases h with ⟨c,u,he,⟨v,HL,ho,hvp,hfin,hHL⟩,hR⟩|⟨c,he,ho⟩
    · left
      obtain ⟨f1,f2⟩:=oS hy (pJ n y.H)
      have hR':=hfin y c rfl hy hR
      obtain ⟨b1,b2,b3⟩:=aN8 (y:=nO y (cut n y.H)) hx hρ hH hd (hF.trans f2) f1
        (fun i hi ho'=>by
          have e:(nO y (cut n y.H)).H i=y.H i:=by simp [nO,cut,hi]
          rw [e] at ho' ⊢
          rw [(hHL i hi).1] at ho' ⊢
          exact (hHL i hi).2 ho')
        (fun i hi=>by simp [nO,cut,Nat.not_lt.2 hi,Blk.own])
      generalize hY:nO y (cut n y.H)=Y at b1 b2 b3 hR'
      have hYH:Y.H=cut n y.H:=by rw [← hY]; rfl
      refine ⟨c,v,HL,{w:=Y.w,Z:=Y.Z,σ:=aCI ρ Y.σ x.σ n,H:=uJ ρ Y.H x.H n},ho,he,by rw [← hY]; exact hw,?_,b1,hR'.pure_at hvp rfl fun _ h=>h,b2⟩
      have: ∀ m,m≤n→uJ ρ Y.H x.H m=uJ ρ HL x.H m:=by
        intro m
        induction m with
        |zero=>intro _; rfl
        | succ m ih =>
          intro hm
          simp only [uJ,ih (by omega)]
          congr 2
          have e:Y.H m=y.H m:=by rw [hYH]; simp [cut]; omega
          rw [e,(hHL m (by omega)).1]
      exact this n (Nat.le_refl n)
    · right
      have hall:rF y.H fun j=>{y.H j with live:=false}:=fun j=>.gone (Nat.le_refl _) rfl
      obtain ⟨f1,f2⟩:=oS hy hall
      obtain ⟨b1,b2,b3⟩:=aN8 (y:=nO y fun j=>{y.H j with live:=false}) hx hρ hH hd (hF.trans f2) f1 (fun i hi ho'=>by simp [nO,Blk.own] at ho') (fun i hi=>by simp [nO,Blk.own])
      generalize hY:nO y (fun j=>{y.H j with live:=false})=Y at b1 b2 b3
      refine ⟨c,{w:=Y.w,Z:=Y.Z,σ:=aCI ρ Y.σ x.σ n,H:=uJ ρ Y.H x.H n},ho,he,by rw [← hY]; exact hw,fun j hj=>?_,b1,b2⟩
      refine aBr fun i hi e=>hj ?_
      exact List.mem_map.2 ⟨i,List.mem_range.2 hi,e⟩
  have hcl:=lA hf hs hn
  cases ho:out with
  | ok v HL =>
    refine ⟨hcl,fun x cs h1 h2 h3=>(main x cs h1 h2 h3).mono fun e w' h=>?_⟩
    rcases h with ⟨c,v',HL',y,e1,e2,e3,e4,e5,e6,e7⟩|⟨c,y,e1,_⟩
    · rw [ho] at e1; cases e1; exact ⟨c,y,e2,e3,e4,e5,e6,e7⟩
    · rw [ho] at e1; cases e1
  | pan c =>
    refine ⟨hcl,fun x cs h1 h2 h3=>(main x cs h1 h2 h3).mono fun e w' h=>?_⟩
    rcases h with ⟨c',v',HL',y,e1,_⟩|⟨c',y,e1,e2,e3,e4,e5,e6⟩
    · rw [ho] at e1; cases e1
    · rw [ho] at e1; cases e1; exact ⟨y,e2,e3,e4,e5,e6⟩
end
end Go.Proofs.YteehaobohaecmaaGreatDoor
namespace Go.Proofs.YteehaobohaecmaaGreatDoor
open Go
section
variable {P:Program} {k0 d:Nat} {r:List SO} {T:Nat→V} {H:aP} {K:(Nat→V)→aP→Prop} {a b c:SX} {v:V}
theorem bU {α:Type} [Inhabited α] {e:Nat} {l:List α} {f:α→List V} {k:IntKind} {i:Nat} {cs:List V} (ha:ev T a=.sl (l.map f)) (hb:ev T b=.int k (i:Nat)) (hi:i < l.length) (hu:f (nth l i)=cs) (he:cs.length=e)
    (h:Ops P k0 r (upd T d (.pp cs)) H K):Ops P k0 (⟨none,some d,.idx e a b⟩::r) T H K:=
  cY ha hb hi (by rw [hu]; exact he) (by rw [hu]; exact h)
variable {k:IntKind} {x y:Int}
variable {s t:List UInt8}
theorem zD (ha:ev T a=.str s) (hb:ev T b=.str t) (hl:s.length+t.length≤9223372036854775807) (h:Ops P k0 r (upd T d (.str (s++t))) H K):Ops P k0 (⟨none,some d,.sbin .add a b⟩::r) T H K:=by
  refine stp (v:=.str (s++t)) (fun _=>rfl) ?_ h
  rw [ha,hb]; simp only [yU,if_pos hl]
end
def hpB (b:Blk):aP:=upd H0 0 b
section
variable {P:Program} {k0 f:Nat} {Q:Ex→(Nat→V)→aP→Prop} {T:Nat→V} {H:aP} {d:Option Nat} {r:SC} {i:Nat} {asq asq':List V} {args:List SX} {b b' b1 b1':Blk} {v:V} {c:Value} {out:LOut}
theorem aLo (i:Nat): ∀ j k,j < 1→k < 1→(fun _:Nat=>i) j=(fun _:Nat=>i) k→j=k:=fun j k h1 h2 _=>by omega
theorem aRf (h:b1=jQ (fun _=>i) b) (hb:H i=b1): ∀ j,j < 1→H ((fun _:Nat=>i) j)=jQ (fun _=>i) (hpB b j):=fun j hj=>by
  have:j=0:=by omega
  subst this
  show H i=_
  rw [hb,h]; rfl
theorem aAk.use1 (hc:aAk P f 1 asq (hpB b) (.ok v (hpB b'))) (ha:asq.map (ren fun _=>i)=asq') (hb:H i=b1) (h1:b1=jQ (fun _=>i) b) (h2:b1'=jQ (fun _=>i) b'):eR P f asq' H v (upd H i b1'):=by
  subst ha; subst h2
  exact hc H (fun _=>i) (aLo i) (aRf h1 hb)
theorem fH {id:Nat} {a r:SC} (h: ∀ Q':Ex→(Nat→V)→aP→Prop,(∀ T H,G (W P k0 r Q) T H→Q' .norm T H)→(∀ T H,G (W P k0 r Q) T H→Q' (.exit id) T H)→(∀ T H,Q .ret T H→Q' .ret T H)→
    (∀ n T H,n≠id→Q (.exit n) T H→Q' (.exit n) T H)→(∀ c T H,Q (.pan c) T H→Q' (.pan c) T H)→W P k0 a Q' T H):W P k0 (.seq (.block id a) r) Q T H:=by
  simp only [W]
  refine h _ (fun T H h=>h) (fun T H h=>?_) (fun T H h=>h) (fun n T H hn h=>?_) (fun c T H h=>h)
  · simp only [if_true]; exact h
  · simp only [if_neg hn]; exact h
theorem lW {op:Opt} {fn:Func} {s:SF} {B:Prop} (hf:P.funcs[f]?=some fn) (hs:bJ P op fn=some s)
    (hW : B → W P k0 s.body (aJW s.res 1 out) (T0 asq) (hpB b)) (hn : (fn.name == "runtime.NumGoroutine") = false := by kernel_rfl)
    (hl:Nat.ble asq.length s.n=true:=by rfl) (ha:asq.all (loc 1)=true:=by simp [loc,nX]) (hlb:rG 1 b=true:=by simp [rG,nX])
    (hb:jC asq=true→B:=by intro hB; first|(simp only [nG,mR,kQ,mX,mO,qZ,mS,kV,implies_true,and_true,true_and] at hB; exact hB)|exact (fun _=>trivial) hB):aAk P f 1 asq (hpB b) out:=
  aJQ hf hs hn (Nat.le_of_ble_eq_true hl) ha (fun i hi=>by
    have:i=0:=by omega
    subst this; exact hlb) (fun i hi=>by
    have:hpB b i=H0 i:=bD _ _ (by omega)
    rw [this]; rfl) fun h=>hW (hb h)
variable {res:List SRes} {HL:aP}
theorem rT {u:V} (hr:mF res T H=some u) (ho:out=.ok v (hpB b)) (hp':v.pure=true) (hf:dS H (cut 1 H) u v) (hb:H 0=b) (hlb:rG 1 b=true):aJW res 1 out .ret T H:=by
  simp only [aJW,hr,eQ]
  refine ⟨v,hpB b,ho,hp',hf,fun i hi=>?_⟩
  have:i=0:=by omega
  subst this
  exact ⟨by rw [hb]; rfl,fun _=>hlb⟩
theorem aC7 {s1:SRes} {u:V} (h1:mD T H s1=some u):mF [s1] T H=some u:=by simp only [mF,fX,h1]
end
end Go.Proofs.YteehaobohaecmaaGreatDoor
namespace Go.Proofs.YteehaobohaecmaaGreatDoor
open Go
theorem aH3 {z:Bool} {H:aP} {n f id ver ty sz:Nat} {cells:List V} (hH:H id=bk ver ty sz [cells]) (hc:dL cells=true):fzv z H (n+2) (.fn f [] [.mp id ver 0 0])=.fn f [] [.pp cells]:=by
  simp only [fzv,hH,Blk.own,List.map_nil,List.map_cons]
  simp [dR _ _ hc]
theorem aQN {x:Cx} {c:Value} (h:R x (.sl [[.nilsl]]) c):R x (.sl [[.sl []]]) c:=by
  cases h with
  |sl _ a cap sz cs hc hm hz hsz hcell h=>
  refine .sl [[.sl []]] a cap sz cs hc hm (fun _=>hz (by simp)) (fun r hr=>by rw [List.mem_singleton.1 hr]; exact hsz [V.nilsl] (List.mem_singleton.2 rfl)) (fun r row j v h1 h2=>?_) fun r row j v h1 h2=>?_
  · match r,j,h1,h2 with
    |0,0,h1,h2=>exact hcell 0 _ 0 _ rfl rfl
    |0,j+1,h1,h2=>simp at h1; subst h1; simp at h2
    |r+1,_,h1,_=>simp at h1
  · match r,j,h1,h2 with
    | 0, 0, h1, h2 =>
      simp at h1; subst h1; simp at h2; subst h2
      have:=h 0 _ 0 _ rfl rfl
      generalize cs (0*sz+0)=cv at this ⊢
      generalize hq:V.nilsl=q at this
      cases this <;> cases hq
      exact .slnil
    |0,j+1,h1,h2=>simp at h1; subst h1; simp at h2
    |r+1,_,h1,_=>simp at h1
theorem aQE {K:(Nat→V)→aP→Prop} {T:Nat→V} {H:aP} {i:Nat} (ht:T i=.sl [[.nilsl]]) (h:G K (upd T i (.sl [[.sl []]])) H):G K T H:=
  .slot i _ (fun x c _ _ hr=>aQN (by rw [ht] at hr; exact hr)) h
end Go.Proofs.YteehaobohaecmaaGreatDoor
namespace Go.Proofs.YteehaobohaecmaaGreatDoor
open Go
def aEs (B : Blk) (ver kd : Nat) (z key : V) : Option (V × Bool) :=
  if (B.own && decide (B.ver = ver) && B.isM && decide (B.sz = 2) && nI kd key) = true then match B.rows with
    | _ :: es => match gK kd key es 0 with
      |some (some (_,v))=>some (v,true)
      |some none=>some (z,false)
      |none=>none
    |[]=>none
  else none
def aDE (B : Blk) (ver kd : Nat) (key val : V) : Option Blk :=
  if (B.own && decide (B.ver = ver) && B.isM && decide (B.sz = 2) && nI kd key) = true then match B.rows with
    | h :: es => match gK kd key es 0 with
      |some (some (i,_))=>some {B with rows:=h::es.set i [key,val]}
      |some none=>some {B with rows:=h::(es++[[key,val]])}
      |none=>none
    |[]=>none
  else none
section
variable {P:Program} {k0:Nat} {r:List SO} {T:Nat→V} {H:aP} {K:(Nat→V)→aP→Prop} {d:Nat} {a b c:SX} {v:V}
theorem aLb {i n:Nat} {rows:List (List V)} (hi:k0+d=i) (hv:(H i).ver=n) (hr:rows=[[.nilp,.nilp]]) (h:Ops P k0 r (upd T d (.mm i (n+1))) (upd H i (⟨n+1,true,true,eP,2,rows⟩:Blk)) K):Ops P k0 (⟨none,some d,.mkmap⟩::r) T H K:=by
  subst hi; subst hv; subst hr; exact h
theorem sC {id ver kd:Nat} {z key u:V} {B:Blk} {f:Bool} (ha:ev T a=.mm id ver) (hb:ev T b=key) (hH:H id=B) (hl:aEs B ver kd z key=some (u,f)) (h:Ops P k0 r (upd T d u) H K):
    Ops P k0 (⟨none,some d,.mlook kd false z a b⟩::r) T H K:=by
  subst hH; subst hb
  simp only [Ops,St]
  refine wK (x:=(u,f)) ?_ h
  rw [ha]; exact hl
theorem aK2 {id ver kd : Nat} {key val : V} {B' : Blk} (h : aDE (H id) ver kd key val = some B') : aC4 H kd (.mm id ver) key val = some (upd H id B') := by
  unfold aDE at h
  unfold aC4
  simp only
  by_cases hc:((H id).own&&decide ((H id).ver=ver)&&(H id).isM&&decide ((H id).sz=2)&&nI kd key)=true
  · rw [if_pos hc] at h ⊢
    cases hr:(H id).rows with
    |nil=>rw [hr] at h; cases h
    | cons e es =>
      rw [hr] at h
      simp only at h ⊢
      cases hf:gK kd key es 0 with
      |none=>rw [hf] at h; cases h
      | some o =>
        rw [hf] at h
        cases o with
        |none=>cases h; rfl
        |some p=>cases h; rfl
  · rw [if_neg hc] at h; cases h
theorem aKc {id ver kd:Nat} {key val:V} {B B':Blk} (ha:ev T a=.mm id ver) (hb:ev T b=key) (hc:ev T c=val) (hH:H id=B) (hl:aDE B ver kd key val=some B') (h:Ops P k0 r T (upd H id B') K):
    Ops P k0 (⟨none,none,.mset kd a b c⟩::r) T H K:=by
  subst hH; subst hb; subst hc
  simp only [Ops,St]
  refine wK (x:=upd H id B') ?_ h
  rw [ha]; exact aK2 hl
end
end Go.Proofs.YteehaobohaecmaaGreatDoor
namespace Go.Proofs.YteehaobohaecmaaGreatDoor
open Go
end Go.Proofs.YteehaobohaecmaaGreatDoor
namespace Go.Proofs.YteehaobohaecmaaGreatDoor
open Go
theorem aCd {K:(Nat→V)→aP→Prop} {T:Nat→V} {H:aP} {id ver ty sz:Nat} {lz:Bool} {r r':List V} (hH:H id=⟨ver,true,lz,ty,sz,[r]⟩) (hr:r.map nz=r')
    (h:G K T (upd H id ⟨ver,true,lz,ty,sz,[r']⟩)):G K T H:=
  aLV (rows:=[r]) (i:=0) (r:=r) hH (Nat.zero_lt_one) hr h
end Go.Proofs.YteehaobohaecmaaGreatDoor
namespace Go.Proofs.YteehaobohaecmaaGreatDoor
open Go
section
variable {P:Program} {k0:Nat} {Q:Ex→(Nat→V)→aP→Prop} {T:Nat→V} {H:aP}
theorem aBX {id:Nat} {a r:SC} (J:(Nat→V)→aP→Prop) (h1: ∀ Q':Ex→(Nat→V)→aP→Prop,(∀ T H,J T H→Q' .norm T H)→(∀ T H,J T H→Q' (.exit id) T H)→(∀ T H,Q .ret T H→Q' .ret T H)→
    (∀ n T H,n≠id→Q (.exit n) T H→Q' (.exit n) T H)→W P k0 a Q' T H) (h2: ∀ T H,J T H→W P k0 r Q T H):W P k0 (.seq (.block id a) r) Q T H:=
  aD fun Q' n x y z=>h1 Q' (fun T H hJ=>n T H (.done (h2 T H hJ))) (fun T H hJ=>x T H (.done (h2 T H hJ))) y z
end
end Go.Proofs.YteehaobohaecmaaGreatDoor
namespace Go.Proofs.YteehaobohaecmaaGreatDoor
open Go
def aDo (p:Int×List UInt8):V:=.agg [iV p.1,.str p.2]
def eS (l:List (Int×List UInt8)):List (List V):=[.nilp,.nilp]::l.map fun p=>[aDo p,.bool true]
theorem aBR (p q:Int×List UInt8):aAa 12 (aDo p) (aDo q)=some (decide (p=q)):=by
  show dD (uS 300 9) _ _=_
  rw [show uS 300 9=[0,1] by decide]
  obtain ⟨a,b⟩:=p
  obtain ⟨c,d⟩:=q
  simp only [dD,if_true,Option.map_some]
  congr 1
  refine Bool.eq_iff_iff.2 ?_
  simp [iV]
theorem aJt (p:Int×List UInt8):nI 12 (aDo p)=true:=by
  show (dD (uS 300 9) _ _==some true)=true
  have:=aBR p p
  rw [decide_eq_true rfl] at this
  rw [show dD (uS 300 9) [iV p.1,.str p.2] [iV p.1,.str p.2]=some true from this]; rfl
theorem aIY (k:Int×List UInt8): ∀ (l:List (Int×List UInt8)) (i:Nat),∃ j,gK 12 (aDo k) (l.map fun p=>[aDo p,.bool true]) i=some (if k∈l then some (j,.bool true) else none)
  |[],i=>⟨0,rfl⟩
  | p :: l, i => by
    by_cases e:k=p
    · refine ⟨i,?_⟩
      rw [List.map_cons,gK,aBR,decide_eq_true e,if_pos (by rw [e]; exact List.mem_cons_self ..)]
    · obtain ⟨j,h⟩:=aIY k l (i+1)
      refine ⟨j,?_⟩
      rw [List.map_cons,gK,aBR,decide_eq_false e]
      simp only
      rw [h]
      by_cases q:k∈l
      · rw [if_pos q,if_pos (List.mem_cons_of_mem _ q)]
      · rw [if_neg q,if_neg (fun h=>(List.mem_cons.1 h).elim e q)]
section
variable {ver:Nat} {k:Int×List UInt8} {l:List (Int×List UInt8)}
theorem aGu:aEs ⟨ver,true,true,eP,2,eS l⟩ ver 12 (.bool false) (aDo k)=some (.bool (decide (k∈l)),decide (k∈l)):=by
  obtain ⟨j,h⟩:=aIY k l 0
  unfold aEs
  rw [if_pos (by simp [Blk.own,Blk.isM,eP,eS,aJt])]
  simp only [eS]
  rw [h]
  by_cases q:k∈l
  · rw [if_pos q]; simp [q]
  · rw [if_neg q]; simp [q]
theorem aUp (h:k∉l):aDE ⟨ver,true,true,eP,2,eS l⟩ ver 12 (aDo k) (.bool true)=some ⟨ver,true,true,eP,2,eS (l++[k])⟩:=by
  obtain ⟨j,g⟩:=aIY k l 0
  unfold aDE
  rw [if_pos (by simp [Blk.own,Blk.isM,eP,eS,aJt])]
  simp only [eS]
  rw [g,if_neg h]
  simp
end
end Go.Proofs.YteehaobohaecmaaGreatDoor
namespace Go.Proofs.YteehaobohaecmaaGreatDoor
open Go
section
variable {P:Program} {k0 d:Nat} {r:List SO} {T:Nat→V} {H:aP} {K:(Nat→V)→aP→Prop} {a b:SX} {x y:Int} {s t:List UInt8}
theorem aBg (ha:ev T a=.agg [iV x,.str s]) (hb:ev T b=.agg [iV y,.str t]) (h:Ops P k0 r (upd T d (.bool (decide (x=y∧s=t)))) H K):Ops P k0 (⟨none,some d,.abin false [0,1] a b⟩::r) T H K:=by
  refine stp (v:=.bool (decide (x=y∧s=t))) (fun _=>rfl) ?_ h
  rw [ha,hb]; simp only [aBB,dD,if_true,Option.map_some,Bool.false_eq_true,if_false,eQ]
  by_cases e:x=y <;> by_cases e2:s=t <;> simp [e,e2]
end
end Go.Proofs.YteehaobohaecmaaGreatDoor
namespace Go.Proofs.YteehaobohaecmaaGreatDoor
open Go
theorem rVq (v:V):v=v:=rfl
theorem rNq (n:Nat):iV (n:Int)=iV (n:Int):=rfl
abbrev bZq:Blk:=⟨0,false,false,0,0,[]⟩
abbrev bMq (m:M):Blk:=bk 1 50 4 [[iV m.i,iV m.s,aX m.nx,aX m.ot]]
abbrev mPq (n:Nat):V:=.mp n 1 0 0
theorem uTq {α:Type} {f:Nat→α} {i j:Nat} {v w:α} (g:f j=w) (h:j≠i:=by decide):upd f i v j=w:=(bD _ _ h).trans g
theorem eTq {α:Sort _} {a b c:α} (h:a=b) (g:b=c):a=c:=h.trans g
theorem cVq {a b:Blk} (h:a=b):a.ver=b.ver:=congrArg Blk.ver h
end Go.Proofs.YteehaobohaecmaaGreatDoor
namespace Go.Proofs.YteehaobohaecmaaGreatDoor
open Go
abbrev oEq:List Nat:=[51,59,84,90,97,109,153,154,155,160]
end Go.Proofs.YteehaobohaecmaaGreatDoor
namespace Go.Proofs.YteehaobohaecmaaGreatDoor
open Go Go.Proofs
def aUG:List SO:=[
 qL 23 4 2,
 qM 24 1,
 qM 25 5,
 qA 26 3 24 25,
 qL 27 3 26,
 sO 28 (.call false 21 [.t 23,.t 27]),
 sO 29 (.un .not (.t 28))]
def aUa:SC:=.seq (.seq (.reg [qM 17 5,qM 18 1,qN 19 18,qP 20 .lss 17 19]) (.cond (.t 20) (.skip) (.exit 0))) (.seq (.block 1 (.seq (.reg aUG) (.cond (.t 29) (.seq (.reg [sO 30 (.call false 22 []),qM 4 30]) (.ret)) (.skip)))) (.reg [qM 21 5,qC 22 .add 21 1,qM 5 22]))
def aUF:List SO:=[
 qL 32 4 2,
 qM 33 1,
 sO 34 (.call false 26 [.t 32,.t 33]),
 qM 31 34,
 qE 35 31 0,
 qE 36 31 1,
 qE 37 31 2,
 qM 6 35,
 qM 7 36,
 qM 8 37]
def aUL:List SO:=[
 qL 39 4 2,
 qM 40 1,
 sO 41 (.call false 27 [.t 39,.t 40]),
 qM 38 41,
 qE 42 38 0,
 qE 43 38 1,
 qE 44 38 2,
 qM 9 42,
 qM 10 43,
 qM 11 44]
def aT7:List SO:=[
 qM 45 6,
 qM 46 9,
 sO 47 (.call false 25 [.t 45,.t 46]),
 sO 48 (.un .not (.t 47)),
 qM 49 48,
 ⟨some (49,false),some 50,.mv (.t 7)⟩,
 ⟨some (49,false),some 51,.len (.t 50)⟩,
 ⟨some (49,false),some 52,.mv (.t 10)⟩,
 ⟨some (49,false),some 53,.len (.t 52)⟩,
 ⟨some (49,false),some 54,.bin .neq (.t 51) (.t 53)⟩,
 sO 55 (.pick (.t 49) (.c (.bool true)) (.t 54)),
 qM 56 55,
 ⟨some (56,false),some 57,.mv (.t 8)⟩,
 ⟨some (56,false),some 58,.mv (.t 11)⟩,
 ⟨some (56,false),some 59,.bin .neq (.t 57) (.t 58)⟩,
 sO 60 (.pick (.t 56) (.c (.bool true)) (.t 59))]
def aTH:List SO:=[
 qM 67 7,
 qM 68 12,
 qA 69 1 67 68,
 ql 70 69,
 qM 71 10,
 qM 72 12,
 qA 73 1 71 72,
 ql 74 73,
 sO 75 (.bbin .neq (.t 70) (.t 74))]
def aUd:SC:=.seq (.seq (.reg [qM 61 12,qM 62 7,qN 63 62,qP 64 .lss 61 63]) (.cond (.t 64) (.skip) (.exit 2))) (.seq (.block 3 (.seq (.reg aTH) (.cond (.t 75) (.seq (.reg [sO 4 (.mv (.c (.bool false)))]) (.ret)) (.skip)))) (.reg [qM 65 12,qC 66 .add 65 1,qM 12 66]))
def s6:SF:=⟨77,[.tmp 4],.seq (.reg [sO 2 (.box 50 4 (.t 0)),sO 4 (.mv (.c (.bool false)))]) (.seq (.seq (.reg [qM 13 1,qN 14 13,qC 15 .gtr 14 4]) (.cond (.t 15) (.seq (.reg [sO 16 (.call false 22 []),qM 4 16]) (.ret)) (.skip))) (.seq (.seq (.reg [qI 5 0]) (.block 0 (.loop aUa))) (.seq (.reg aUF) (.seq (.reg aUL) (.seq (.seq (.reg aT7) (.cond (.t 60) (.seq (.reg [sO 4 (.mv (.c (.bool false)))]) (.ret)) (.skip))) (.seq (.seq (.reg [qI 12 0]) (.block 2 (.loop aUd))) (.seq (.reg [sO 76 (.call false 22 []),qM 4 76]) (.ret))))))))⟩
theorem aTu:bJ Tryz.prog ⟨oEq,[],[],[]⟩ Tryz.f6=some s6:=by kernel_rfl
def aUm:List SO:=[
 qF 5 2 2,
 ql 6 5,
 qN 7 6,
 qC 8 .leq 7 8,
 qM 9 8,
 ⟨some (9,true),some 10,.fld 3 (.t 2)⟩,
 ⟨some (9,true),some 11,.load false 1 (.t 10)⟩,
 ⟨some (9,true),some 12,.len (.t 11)⟩,
 ⟨some (9,true),some 13,.bin .leq (.t 12) (.c (.int .i64 8))⟩,
 sO 14 (.pick (.t 9) (.t 13) (.c (.bool false))),
 qM 15 14,
 ⟨some (15,true),some 16,.fld 0 (.t 2)⟩,
 ⟨some (15,true),some 17,.load false 1 (.t 16)⟩,
 ⟨some (15,true),some 18,.bin .leq (.t 17) (.c (.int .i64 4))⟩,
 sO 19 (.pick (.t 15) (.t 18) (.c (.bool false))),
 qM 20 19,
 ⟨some (20,true),some 21,.load true 3 (.t 3)⟩,
 ⟨some (20,true),some 22,.call false 47 [.t 21,.c (.int .i64 0)]⟩,
 ⟨some (20,true),some 23,.bin .leq (.t 22) (.c (.int .i64 12))⟩,
 sO 24 (.pick (.t 20) (.t 23) (.c (.bool false))),
 qM 4 24]
def s21:SF:=⟨25,[.tmp 4],.seq (.reg [sO 2 (.box 50 4 (.t 0)),sO 3 (.box 24 3 (.t 1)),sO 4 (.mv (.c (.bool false)))]) (.seq (.reg aUm) (.ret))⟩
theorem aOQ:bJ Tryz.prog ⟨oEq,[],[],[]⟩ Tryz.f21=some s21:=by kernel_rfl
def aSJ:List SO:=[
 qM 7 1,
 qC 8 .gtr 7 20,
 qM 9 8,
 ⟨some (9,false),some 10,.fld 2 (.t 2)⟩,
 ⟨some (9,false),some 11,.load false 1 (.t 10)⟩,
 ⟨some (9,false),some 12,.len (.t 11)⟩,
 ⟨some (9,false),some 13,.bin .gtr (.t 12) (.c (.int .i64 50))⟩,
 sO 14 (.pick (.t 9) (.c (.bool true)) (.t 13))]
def aTC:List SO:=[
 qM 22 5,
 qF 23 2 2,
 ql 24 23,
 qM 25 6,
 qA 26 3 24 25,
 qL 27 3 26,
 qM 28 1,
 qC 29 .add 28 1,
 sO 30 (.call false 47 [.t 27,.t 29]),
 qP 31 .add 22 30,
 qM 5 31]
def aNg:SC:=.seq (.seq (.reg [qM 15 6,qF 16 2 2,ql 17 16,qN 18 17,qP 19 .lss 15 18]) (.cond (.t 19) (.skip) (.exit 0))) (.seq (.block 1 (.seq (.reg aTC) (.seq (.reg [qM 32 5,qC 33 .gtr 32 1000]) (.cond (.t 33) (.seq (.reg [qI 4 1000]) (.ret)) (.skip))))) (.reg [qM 20 6,qC 21 .add 20 1,qM 6 21]))
def s47:SF:=⟨35,[.tmp 4],.seq (.reg [sO 2 (.box 24 3 (.t 0)),qI 4 0]) (.seq (.seq (.reg aSJ) (.cond (.t 14) (.seq (.reg [qI 4 1000]) (.ret)) (.skip))) (.seq (.reg [qI 5 1]) (.seq (.seq (.reg [qI 6 0]) (.block 0 (.loop aNg))) (.seq (.reg [qM 34 5,qM 4 34]) (.ret)))))⟩
theorem aPA:bJ Tryz.prog ⟨oEq,[],[],[]⟩ Tryz.f47=some s47:=by kernel_rfl
end Go.Proofs.YteehaobohaecmaaGreatDoor
namespace Go.Proofs.YteehaobohaecmaaGreatDoor
open Go
inductive Fm where
  |nd (op arg:Int) (kids:List Fm)
instance:Inhabited Fm:=⟨.nd 0 0 []⟩
def Fm.op:Fm→Int| .nd o _ _=>o
def Fm.arg:Fm→Int| .nd _ a _=>a
def Fm.kids:Fm→List Fm| .nd _ _ k=>k
theorem Fm.eta (f:Fm):Fm.nd f.op f.arg f.kids=f:=by cases f; rfl
mutual
def cF:Fm→List V
  | .nd o a k=>[iV o,iV a,.sl (cFs k)]
def cFs:List Fm→List (List V)
  |[]=>[]
  |f::l=>cF f::cFs l
end
theorem wO: ∀ l:List Fm,cFs l=l.map cF
  |[]=>rfl
  |f::l=>by rw [cFs,wO l]; rfl
theorem bN (f:Fm):cF f=[iV f.op,iV f.arg,.sl (f.kids.map cF)]:=by
  cases f with
  |nd o a k=>rw [cF,wO]; rfl
mutual
theorem aDi: ∀ f:Fm,eE (cF f)=true
  | .nd o a k=>by rw [cF]; simp [eE,V.pure,rH k]
theorem rH: ∀ l:List Fm,gN (cFs l)=true
  |[]=>rfl
  |f::l=>by rw [cFs,gN,aDi f,rH l]; rfl
end
mutual
theorem aAs: ∀ f:Fm,dL (cF f)=true
  | .nd o a k=>by rw [cF]; simp [oP k]
theorem oP: ∀ l:List Fm,eH (cFs l)=true
  |[]=>by simp [cFs]
  |f::l=>by rw [cFs,aBV,aAs f,oP l]; rfl
end
attribute [simp] aDi aAs
@[simp] theorem aSa (l:List Fm):gN (l.map cF)=true:=by rw [← wO]; exact rH l
@[simp] theorem aO9 (l:List Fm):eH (l.map cF)=true:=by rw [← wO]; exact oP l
theorem eV (f:Fm):(cF f).length=3:=by rw [bN]; rfl
theorem fC (f:Fm):(cF f).all V.one=true:=by rw [bN]; rfl
theorem aFa {u:V} {x:Fm} (h:u=.sl [[iV x.op,iV x.arg,.sl (x.kids.map cF)]]):u=.sl ([x].map cF):=by rw [h]; simp [bN x]
theorem aFX {u:V} {x y:Fm} (h:u=.sl [[iV x.op,iV x.arg,.sl (x.kids.map cF)],[iV y.op,iV y.arg,.sl (y.kids.map cF)]]):u=.sl ([x,y].map cF):=by rw [h]; simp [bN x,bN y]
theorem fU {u:V} {x:Fm} (h:u=.sl [[iV x.op,iV x.arg,.sl (x.kids.map cF)]]):u=.sl [cF x]:=by rw [h,bN x]
mutual
def Fm.sz:Fm→Nat
  | .nd _ _ k=>Fm.szs k+1
def Fm.szs:List Fm→Nat
  |[]=>0
  |f::l=>f.sz+Fm.szs l
end
theorem Fm.szs_nth: ∀ {l:List Fm} {k:Nat},k < l.length→(nth l k).sz≤Fm.szs l
  |[],k,h=>absurd h (Nat.not_lt_zero k)
  |f::l,0,_=>by show f.sz≤_; rw [Fm.szs]; omega
  | f :: l, k + 1, h => by
    have:=Fm.szs_nth (l:=l) (k:=k) (by simpa using h)
    show (nth l k).sz≤_
    rw [Fm.szs]; omega
theorem Fm.sz_kid {f:Fm} {k:Nat} (h:k < f.kids.length):(nth f.kids k).sz < f.sz:=by
  cases f with
  | nd o a l =>
    have:=Fm.szs_nth (l:=l) h
    rw [Fm.sz]; show (nth l k).sz < _; omega
def kLo (o:Int):Int:=if o=4∨o=7∨o=9 then 1 else if o=8∨o=10 then 2 else if o=5∨o=6 then 2 else 0
def kHi (o:Int):Int:=if o=4∨o=7∨o=9 then 1 else if o=8∨o=10 then 2 else if o=5∨o=6 then -1 else 0
def rgt (f:Fm):Int:=
  if f.op < 1∨10 < f.op∨(f.kids.length:Int) < kLo f.op∨(0≤kHi f.op∧kHi f.op < f.kids.length)∨(¬(f.op=2∨f.op=3)∧f.arg≠0) then 1
  else if (f.op=2∧(f.arg < 0∨64≤f.arg))∨(f.op=3∧(f.arg < 0∨1048576 < f.arg)) then 2 else 0
mutual
def exm:Fm→Int→Int→Int×Int
  | .nd o a k,lv,b=>if 4096 < b+1 then (b+1,11) else if 64 < lv then (b+1,16) else if rgt (.nd o a k)≠0 then (b+1,rgt (.nd o a k)) else jO k (lv+1) (b+1)
def jO:List Fm→Int→Int→Int×Int
  |[],_,n=>(n,0)
  |f::l,lv,n=>if (exm f lv n).2≠0 then exm f lv n else jO l lv (exm f lv n).1
end
theorem kP (f:Fm) (lv b:Int):exm f lv b=if 4096 < b+1 then (b+1,11) else if 64 < lv then (b+1,16) else if rgt f≠0 then (b+1,rgt f) else jO f.kids (lv+1) (b+1):=by
  cases f; rw [exm]; rfl
def cX (f:Fm):Int:=(exm f 1 0).2
theorem zM {l:List Fm} {lv n:Int} {k:Nat} (h:k < l.length) (he:(exm (nth l k) lv n).2≠0):jO (l.drop k) lv n=exm (nth l k) lv n:=by rw [cW h,jO,if_pos he]
theorem aGq {l:List Fm} {lv n:Int} {k:Nat} (h:k < l.length) (he: ¬(exm (nth l k) lv n).2≠0):jO (l.drop k) lv n=jO (l.drop (k+1)) lv (exm (nth l k) lv n).1:=by rw [cW h,jO,if_neg he]
theorem zH {l:List Fm} {lv n:Int} {k:Nat} (h:l.length≤k):jO (l.drop k) lv n=(n,0):=by rw [List.drop_eq_nil_of_le h,jO]
mutual
theorem pG : ∀ (f : Fm) (lv b : Int), (exm f lv b).1 ≥ b + 1 ∧ ((exm f lv b).2 = 0 → (exm f lv b).1 ≤ 4096)
  | .nd o a k, lv, b => by
    rw [exm]
    split
    · exact ⟨by simp,fun h=>by simp at h⟩
    · split
      · exact ⟨by simp,fun h=>by simp at h⟩
      · split
        · rename_i h; exact ⟨by simp,fun h'=>absurd h' h⟩
        · have:=aC3 k (lv+1) (b+1) (by omega)
          exact ⟨this.1,this.2⟩
theorem aC3: ∀ (l:List Fm) (lv n:Int),n≤4096→(jO l lv n).1≥n∧((jO l lv n).2=0→(jO l lv n).1≤4096)
  |[],lv,n,h=>by rw [jO]; exact ⟨Int.le_refl _,fun _=>h⟩
  | f :: l, lv, n, h => by
    have h1:=pG f lv n
    rw [jO]
    split
    · rename_i he; exact ⟨by omega,fun h'=>absurd h' he⟩
    · rename_i he
      have he':(exm f lv n).2=0:=by omega
      have h2:=aC3 l lv (exm f lv n).1 (h1.2 he')
      exact ⟨by omega,h2.2⟩
end
mutual
def eA:Fm→Fm→Bool
  | .nd o a k,.nd o' a' k'=>decide (o=o')&&decide (a=a')&&decide (k.length=k'.length)&&iM k k'
def iM:List Fm→List Fm→Bool
  |f::l,g::m=>eA f g&&iM l m
  |_,_=>true
end
theorem tD (f g:Fm):eA f g=(decide (f.op=g.op)&&decide (f.arg=g.arg)&&decide (f.kids.length=g.kids.length)&&iM f.kids g.kids):=by cases f; cases g; rw [eA]; rfl
theorem aAL {l m:List Fm} {k:Nat} (h1:k < l.length) (h2:k < m.length) (h:eA (nth l k) (nth m k)=true):iM (l.drop k) (m.drop k)=iM (l.drop (k+1)) (m.drop (k+1)):=by rw [cW h1,cW h2,iM,h,Bool.true_and]
theorem aDq {l m:List Fm} {k:Nat} (h1:k < l.length) (h2:k < m.length) (h:eA (nth l k) (nth m k)=false):iM (l.drop k) (m.drop k)=false:=by rw [cW h1,cW h2,iM,h,Bool.false_and]
theorem aAZ {l m:List Fm} {k:Nat} (h1:l.length≤k):iM (l.drop k) (m.drop k)=true:=by rw [List.drop_eq_nil_of_le h1]; rw [iM]; intro f l' g m' h; cases h
mutual
theorem fS: ∀ f g:Fm,eA f g=true↔f=g
  | .nd o a k, .nd o' a' k' => by
    rw [eA]
    simp only [Bool.and_eq_true,decide_eq_true_eq]
    constructor
    · rintro ⟨⟨⟨rfl,rfl⟩,h⟩,h2⟩
      rw [(uN k k' h).1 h2]
    · rintro h
      cases h
      exact ⟨⟨⟨rfl,rfl⟩,rfl⟩,(uN k k rfl).2 rfl⟩
theorem uN: ∀ l m:List Fm,l.length=m.length→(iM l m=true↔l=m)
  | [], [], _ => by
    rw [iM]
    · simp
    · intro f l' g m' h; cases h
  |[],g::m,h=>by simp at h
  |f::l,[],h=>by simp at h
  | f :: l, g :: m, h => by
    rw [iM]
    simp only [Bool.and_eq_true,fS f g,uN l m (by simpa using h)]
    constructor
    · rintro ⟨rfl,rfl⟩; rfl
    · rintro h'; cases h'; exact ⟨rfl,rfl⟩
end
theorem xI (f:Fm):eA f f=true:=(fS f f).2 rfl
def gQ (o:Int):Int:=if o=5 then 6 else if o=6 then 5 else if o=7 then 9 else if o=9 then 7 else if o=8 then 10 else 8
def nop (o:Int) (b:Bool):Int:=if b=true then gQ o else o
mutual
def nrm:Fm→Bool→Fm
  | .nd o a [],b=>if o=4 then .nd 0 0 [] else if b=true then .nd 4 0 [.nd o a []] else .nd o a []
  | .nd o _ (f::l),b=>if o=4 then nrm f (!b) else .nd (nop o b) 0 (nrm f b::xS l b)
def xS:List Fm→Bool→List Fm
  |[],_=>[]
  |f::l,b=>nrm f b::xS l b
end
theorem aDT: ∀ (l:List Fm) (b:Bool),xS l b=l.map fun f=>nrm f b
  |[],b=>by rw [xS]; rfl
  |f::l,b=>by rw [xS,aDT l b]; rfl
theorem jM {f:Fm} {b:Bool} (h:f.op=4) (hk:0 < f.kids.length):nrm f b=nrm (nth f.kids 0) (!b):=by
  cases f with
  | nd o a k =>
    cases k with
    |nil=>exact absurd hk (Nat.lt_irrefl _)
    |cons g l=>simp only [Fm.op] at h; rw [nrm,if_pos h]; rfl
theorem pY {f:Fm} (h: ¬f.op=4) (hk:f.kids.length=0):nrm f true=.nd 4 0 [.nd f.op f.arg []]:=by
  cases f with
  | nd o a k =>
    cases k with
    |nil=>simp only [Fm.op] at h; rw [nrm,if_neg h,if_pos rfl]; rfl
    |cons g l=>simp [Fm.kids] at hk
theorem pS {f:Fm} (h: ¬f.op=4) (hk:f.kids.length=0):nrm f false=.nd f.op f.arg []:=by
  cases f with
  | nd o a k =>
    cases k with
    |nil=>simp only [Fm.op] at h; rw [nrm,if_neg h,if_neg (by simp)]; rfl
    |cons g l=>simp [Fm.kids] at hk
theorem cS {f:Fm} {b:Bool} (h: ¬f.op=4) (hk:f.kids.length≠0):nrm f b=.nd (nop f.op b) 0 (f.kids.map fun g=>nrm g b):=by
  cases f with
  | nd o a k =>
    cases k with
    |nil=>exact absurd rfl hk
    |cons g l=>simp only [Fm.op] at h; rw [nrm,if_neg h,aDT]; rfl
mutual
def okF:Fm→Bool
  | .nd o a k=>decide (rgt (.nd o a k)=0)&&okL k
def okL:List Fm→Bool
  |[]=>true
  |f::l=>okF f&&okL l
end
theorem aI6 (f:Fm):okF f=(decide (rgt f=0)&&okL f.kids):=by cases f; rw [okF]; rfl
theorem aFV: ∀ {l:List Fm} {k:Nat},okL l=true→k < l.length→okF (nth l k)=true
  |[],k,_,h=>absurd h (Nat.not_lt_zero k)
  |f::l,0,h,_=>by rw [okL,Bool.and_eq_true] at h; exact h.1
  |f::l,k+1,h,hk=>by rw [okL,Bool.and_eq_true] at h; exact aFV (k:=k) h.2 (by simpa using hk)
theorem bP {f:Fm} (h:okF f=true):rgt f=0∧ ∀ k,k < f.kids.length→okF (nth f.kids k)=true:=by
  rw [aI6,Bool.and_eq_true,decide_eq_true_eq] at h
  exact ⟨h.1,fun k hk=>aFV h.2 hk⟩
mutual
theorem aI1 : ∀ (f : Fm) (lv b : Int), (exm f lv b).2 = 0 → okF f = true
  | .nd o a k, lv, b, h => by
    rw [exm] at h
    split at h
    · simp at h
    · split at h
      · simp at h
      · split at h
        · rename_i h'; exact absurd h h'
        · rename_i h'
          rw [okF,aFb k _ _ h,Bool.and_true]
          exact decide_eq_true (by omega)
theorem aFb: ∀ (l:List Fm) (lv n:Int),(jO l lv n).2=0→okL l=true
  |[],_,_,_=>by rw [okL]
  | f :: l, lv, n, h => by
    rw [jO] at h
    split at h
    · rename_i h'; exact absurd h h'
    · rename_i h'
      rw [okL,aI1 f lv n (by omega),aFb l lv _ h]; rfl
end
theorem fB {f:Fm} (h:cX f=0):okF f=true:=aI1 f 1 0 h
theorem dE {f:Fm} (h:rgt f=0):1≤f.op∧f.op≤10∧((f.op=1∨f.op=2∨f.op=3)→f.kids.length=0)∧((f.op=4∨f.op=7∨f.op=9)→f.kids.length=1)∧((f.op=5∨f.op=6)→2≤f.kids.length)∧
    ((f.op=8∨f.op=10)→f.kids.length=2)∧(¬(f.op=2∨f.op=3)→f.arg=0)∧(f.op=2→0≤f.arg∧f.arg < 64)∧(f.op=3→0≤f.arg∧f.arg≤1048576):=by
  unfold rgt at h
  generalize f.kids.length=n at*
  generalize f.op=o at*
  generalize f.arg=a at*
  split at h
  · simp at h
  · rename_i h1
    split at h
    · simp at h
    · rename_i h2
      have e:o=1∨o=2∨o=3∨o=4∨o=5∨o=6∨o=7∨o=8∨o=9∨o=10:=by omega
      rcases e with e|e|e|e|e|e|e|e|e|e <;> subst e <;> simp [kLo,kHi] at h1 h2 ⊢ <;> omega
def zF:Fm:=.nd 0 0 []
theorem Fm.leaf {f:Fm} (h:f.kids.length=0):Fm.nd f.op f.arg []=f:=by
  cases f with
  | nd o a k => cases k with
    |nil=>rfl
    |cons g l=>simp [Fm.kids] at h
theorem zR {f:Fm} (h: ¬f.op=4) (hk:f.kids.length=0):nrm f true=.nd 4 0 [f]:=by rw [pY h hk,Fm.leaf hk]
theorem yO {f:Fm} (h: ¬f.op=4) (hk:f.kids.length=0):nrm f false=f:=by rw [pS h hk,Fm.leaf hk]
theorem gD {α β:Type} [Inhabited α] {g:α→β} {l:List α} {k:Nat} (h:k < l.length):(l.take (k+1)).map g=(l.take k).map g++[g (nth l k)]:=by
  rw [← bR h,List.take_succ_eq_append_getElem h,List.map_append]; rfl
theorem rP {v ty:Nat} {x y:Int} {a b:V} (h:x=y):bk v ty 3 [[iV x,a,b]]=bk v ty 3 [[iV y,a,b]]:=by rw [h]
mutual
theorem aJO : ∀ (f : Fm) (lv b : Int), (exm f lv b).2 = 0 → (exm f lv b).1 = b + f.sz
  | .nd o a k, lv, b, h => by
    rw [exm] at h ⊢
    split at h
    · simp at h
    · split at h
      · simp at h
      · split at h
        · rename_i h'; exact absurd h h'
        · rename_i h1 h2 h3
          rw [if_neg h1,if_neg h2,if_neg h3,aGx k _ _ h,Fm.sz]; omega
theorem aGx: ∀ (l:List Fm) (lv n:Int),(jO l lv n).2=0→(jO l lv n).1=n+Fm.szs l
  |[],_,n,_=>by rw [jO,Fm.szs]; simp
  | f :: l, lv, n, h => by
    rw [jO] at h ⊢
    split at h
    · rename_i h'; exact absurd h h'
    · rename_i h'
      rw [if_neg h',aGx l lv _ h,aJO f lv n (by omega),Fm.szs]; omega
end
theorem gA {f:Fm} (h:cX f=0):f.sz≤4096:=by
  have h1:=aJO f 1 0 h
  have h2:=(pG f 1 0).2 h
  omega
theorem Fm.szs_len: ∀ l:List Fm,l.length≤Fm.szs l
  |[]=>Nat.le_refl _
  | f :: l => by
    have:=Fm.szs_len l
    have h:1≤f.sz:=by cases f; rw [Fm.sz]; omega
    rw [Fm.szs,List.length_cons]; omega
theorem Fm.sz_len (f:Fm):f.kids.length < f.sz:=by
  cases f with
  |nd o a k=>have:=Fm.szs_len k; rw [Fm.sz]; show k.length < _; omega
end Go.Proofs.YteehaobohaecmaaGreatDoor
namespace Go.Proofs.YteehaobohaecmaaGreatDoor
open Go
abbrev rFq (f:Fm):List V:=[iV f.op,iV f.arg,.sl (f.kids.map cF)]
abbrev bFq (f:Fm):Blk:=bk 1 24 3 [rFq f]
abbrev zFq:List V:=[.int .i64 0,.int .i64 0,.nilsl]
abbrev bYq:Blk:=bk 1 24 3 [[iV 0,iV 0,V.nilsl]]
abbrev bTq:Blk:=bk 1 54 2 [[V.nilsl,V.nilsl]]
theorem szq {f:Fm} {k n:Nat} (hz:f.sz≤n) (h:k < f.kids.length:=by omega):(nth f.kids k).sz≤n:=Nat.le_trans (Nat.le_of_lt (Fm.sz_kid h)) hz
theorem skq {f:Fm} {k:Nat} (h:k < f.kids.length:=by omega):(nth f.kids k).sz < f.sz:=Fm.sz_kid h
end Go.Proofs.YteehaobohaecmaaGreatDoor
namespace Go.Proofs.YteehaobohaecmaaGreatDoor
open Go
abbrev cB (b:Bool):List V:=[.bool b]
abbrev cBL (l:List Bool):List V:=[.sl (l.map cB)]
@[simp] theorem aKY (l:List Bool):eH (l.map cB)=true:=fY _ _ fun a=>by simp [cB]
@[simp] theorem aJK (l:List (List Bool)):eH (l.map cBL)=true:=fY _ _ fun a=>by simp
def iB (g h:Nat→Bool):Nat→Nat→Bool
  |0,i=>h i
  |m+1,i=>h i||(g i&&iB g h m (i+1))
def iD (g h:Nat→Bool):Nat→Nat→Bool
  |0,i=>h i
  |m+1,i=>h i&&(g i||iD g h m (i+1))
def mQ (t:Tr) (o a:Int) (K:List (Nat→Bool)) (i:Nat):Bool:=
  if o=1 then true
  else if o=2 then decide (i < t.ni.length)&&decide (nth t.ni i=a)
  else if o=3 then decide (i < t.ni.length)&&decide (nth t.no i=a)
  else if o=4 then !(nth K 0 i)
  else if o=7 then decide (i < t.ni.length)&&nth K 0 (i+1)
  else if o=9 then decide (¬i < t.ni.length)||nth K 0 (i+1)
  else if o=8 then iB (nth K 0) (nth K 1) (t.ni.length - i) i
  else if o=10 then iD (nth K 0) (nth K 1) (t.ni.length - i) i
  else if o=5 then K.all fun g=>g i
  else K.any fun g=>g i
mutual
def sat (t:Tr):Fm→Nat→Bool
  | .nd o a k,i=>mQ t o a (aLr t k) i
def aLr (t:Tr):List Fm→List (Nat→Bool)
  |[]=>[]
  |f::l=>sat t f::aLr t l
end
theorem aDk (t:Tr): ∀ l:List Fm,aLr t l=l.map (sat t)
  |[]=>rfl
  |f::l=>by rw [aLr,aDk t l]; rfl
theorem cH (t:Tr) (f:Fm) (i:Nat):sat t f i=mQ t f.op f.arg (f.kids.map (sat t)) i:=by cases f; rw [sat,aDk]; rfl
def rst (t:Tr) (f:Fm):List Bool:=(List.range (t.ni.length+1)).map (sat t f)
theorem sQ (t:Tr) (f:Fm):(rst t f).length=t.ni.length+1:=by simp [rst]
theorem wX {t:Tr} {f:Fm} {i:Nat} (h:i≤t.ni.length):nth (rst t f) i=sat t f i:=by
  have:i < (rst t f).length:=by rw [sQ]; omega
  rw [← bR this]; simp [rst]
theorem fT {α β:Type} [Inhabited α] [Inhabited β] {g:α→β} {l:List α} {k:Nat} (h:k < l.length):nth (l.map g) k=g (nth l k):=by
  have h':k < (l.map g).length:=by simpa using h
  rw [← bR h',List.getElem_map,bR h]
def dA (t:Tr) (f:Fm) (i:Int):List Bool:=(List.range (t.ni.length+1)).map fun j:Nat=>decide (i < (j:Int))&&sat t f j
theorem cO (t:Tr) (f:Fm) (i:Int):(dA t f i).length=t.ni.length+1:=by simp [dA]
theorem aEU (t:Tr) (f:Fm):dA t f t.ni.length=List.replicate (t.ni.length+1) false:=by
  apply List.ext_getElem
  · simp [dA]
  · intro j h1 h2
    simp only [dA,List.length_map,List.length_range] at h1
    simp only [dA,List.getElem_map,List.getElem_range,List.getElem_replicate]
    rw [decide_eq_false (by omega),Bool.false_and]
theorem aKy (t:Tr) (f:Fm):dA t f (-1)=rst t f:=by
  apply List.ext_getElem
  · simp [dA,rst]
  · intro j h1 h2
    simp only [dA,rst,List.getElem_map,List.getElem_range]
    rw [decide_eq_true (by omega),Bool.true_and]
theorem aJR {t:Tr} {f:Fm} {i:Nat} {b:Bool} (h:i≤t.ni.length) (hb:b=sat t f i):(dA t f i).set i b=dA t f ((i:Int) - 1):=by
  apply List.ext_getElem
  · simp [dA]
  · intro j h1 h2
    rw [List.getElem_set]
    simp only [dA,List.length_map,List.length_range] at h2
    simp only [dA,List.getElem_map,List.getElem_range]
    split
    · rename_i e; subst e; rw [hb,decide_eq_true (by omega),Bool.true_and]
    · rename_i e
      by_cases q:i < j
      · rw [decide_eq_true (by omega),decide_eq_true (by omega)]
      · rw [decide_eq_false (by omega),decide_eq_false (by omega)]
theorem aFH {g h:Nat→Bool} {n i:Nat} (hi:i≤n):iB g h (n - i) i=(h i||(decide (i < n)&&g i&&iB g h (n - (i+1)) (i+1))):=by
  by_cases e:i < n
  · obtain ⟨m,hm⟩: ∃ m,n - i=m+1:=⟨n - i - 1,by omega⟩
    rw [hm,iB,show n - (i+1)=m by omega,decide_eq_true e,Bool.true_and]
  · rw [show n - i=0 by omega,iB,decide_eq_false e,Bool.false_and,Bool.false_and,Bool.or_false]
theorem aFk {g h:Nat→Bool} {n i:Nat} (hi:i≤n):iD g h (n - i) i=(h i&&(decide (¬i < n)||g i||iD g h (n - (i+1)) (i+1))):=by
  by_cases e:i < n
  · obtain ⟨m,hm⟩: ∃ m,n - i=m+1:=⟨n - i - 1,by omega⟩
    rw [hm,iD,show n - (i+1)=m by omega,decide_eq_false (by omega),Bool.false_or]
  · rw [show n - i=0 by omega,iD,decide_eq_true e,Bool.true_or,Bool.true_or,Bool.and_true]
def hoE (t:Tr) (f:Fm):Int:=if cX f≠0 then cX f else if 1024 < t.ni.length then 3 else if t.no.length≠t.ni.length then 1 else 0
def hoB (t:Tr) (f:Fm):Bool:=decide (hoE t f=0)&&sat t f 0
end Go.Proofs.YteehaobohaecmaaGreatDoor
namespace Go.Proofs.YteehaobohaecmaaGreatDoor
open Go
mutual
def nnf:Fm→Bool
  | .nd o _ k=>aKU o k
def aKU (o:Int):List Fm→Bool
  |[]=>true
  |f::l=> !(decide (o=4∧3 < f.op)|| !nnf f)&&aKU o l
end
theorem aCD (o:Int): ∀ l:List Fm,aKU o l=l.all fun f=> !(decide (o=4∧3 < f.op)|| !nnf f)
  |[]=>by rw [aKU]; rfl
  |f::l=>by rw [aKU,aCD o l]; rfl
theorem aKi (f:Fm):nnf f=f.kids.all fun g=> !(decide (f.op=4∧3 < g.op)|| !nnf g):=by cases f; rw [nnf,aCD]; rfl
end Go.Proofs.YteehaobohaecmaaGreatDoor
namespace Go.Proofs.YteehaobohaecmaaGreatDoor
open Go
theorem gC {p:Fm→Prop} (h: ∀ f,(∀ k,k < f.kids.length→p (nth f.kids k))→p f) (f:Fm):p f:=by
  have key: ∀ (m:Nat) (g:Fm),g.sz < m→p g:=by
    intro m
    induction m with
    |zero=>intro g hg; omega
    |succ m ih=>intro g hg; exact h g fun k hk=>ih _ (by have:=Fm.sz_kid hk; omega)
  exact key _ f (Nat.lt_succ_self _)
theorem aCa: ∀ l:List Fm,okL l=l.all okF
  |[]=>rfl
  |f::l=>by rw [okL,aCa l]; rfl
theorem aIk {f:Fm} (h:rgt f=0) (hk: ∀ k,k < f.kids.length→okF (nth f.kids k)=true):okF f=true:=by
  rw [aI6,decide_eq_true h,aCa,Bool.true_and,List.all_eq_true]
  intro x hx
  obtain ⟨j,hj,rfl⟩:=dY hx
  exact hk j hj
theorem xU {o:Int} {l:List Fm} (h:((o=4∨o=7∨o=9)∧l.length=1)∨((o=8∨o=10)∧l.length=2)∨((o=5∨o=6)∧2≤l.length)):rgt (.nd o 0 l)=0:=by
  unfold rgt
  show (if o < 1∨10 < o∨((l.length:Nat):Int) < kLo o∨(0≤kHi o∧kHi o < ((l.length:Nat):Int))∨(¬(o=2∨o=3)∧(0:Int)≠0) then (1:Int) else if (o=2∧((0:Int) < 0∨64≤(0:Int)))∨(o=3∧((0:Int) < 0∨1048576 < (0:Int))) then 2 else 0)=0
  generalize l.length=n at*
  have e:o=4∨o=5∨o=6∨o=7∨o=8∨o=9∨o=10:=by omega
  rcases e with e|e|e|e|e|e|e <;> subst e <;> simp [kLo,kHi] <;> omega
theorem opK {f:Fm} (h:rgt f=0):(f.kids.length=0∧(f.op=1∨f.op=2∨f.op=3))∨(f.kids.length≠0∧f.arg=0∧(f.op=4∨f.op=5∨f.op=6∨f.op=7∨f.op=8∨f.op=9∨f.op=10)):=by
  obtain ⟨r1,r2,r3,r4,r5,r6,r7,r8,r9⟩:=dE h
  by_cases q:f.op=1∨f.op=2∨f.op=3
  · exact .inl ⟨r3 q,q⟩
  · refine .inr ⟨by omega,r7 (by omega),by omega⟩
theorem aIz {f:Fm} (h:rgt f=0) (hk:f.kids.length≠0) (h4: ¬f.op=4) (b:Bool):rgt (.nd (nop f.op b) 0 (f.kids.map fun g=>nrm g b))=0:=by
  obtain ⟨r1,r2,r3,r4,r5,r6,r7,r8,r9⟩:=dE h
  refine xU ?_
  rw [List.length_map]
  unfold nop gQ
  split
  · generalize f.kids.length=n at*
    generalize f.op=o at*
    have e:o=5∨o=6∨o=7∨o=8∨o=9∨o=10:=by omega
    rcases e with e|e|e|e|e|e <;> subst e <;> simp at* <;> omega
  · omega
theorem xQ (f : Fm) : okF f = true → ∀ b, okF (nrm f b) = true := by
  refine gC (p:=fun f=>okF f=true→ ∀ b,okF (nrm f b)=true) (fun f ih hf b=>?_) f
  obtain ⟨hr,hk⟩:=bP hf
  by_cases h4:f.op=4
  · have:=(dE hr).2.2.2.1 (.inl h4)
    rw [jM h4 (by omega)]
    exact ih 0 (by omega) (hk 0 (by omega)) _
  · rcases opK hr with ⟨h0, ho⟩ | ⟨h0, _, _⟩
    · cases b with
      |true=>rw [zR h4 h0]; exact aIk (xU (.inl ⟨.inl rfl,rfl⟩)) fun k h=>by
                  have:k=0:=by simp [Fm.kids] at h; omega
                  subst this; exact hf
      |false=>rw [yO h4 h0]; exact hf
    · rw [cS h4 h0]
      refine aIk (aIz hr h0 h4 b) fun k h=>?_
      have h':k < f.kids.length:=by simpa [Fm.kids] using h
      show okF (nth (f.kids.map fun g=>nrm g b) k)=true
      rw [fT h']
      exact ih k h' (hk k h') b
theorem rB {f:Fm} (h: ∀ k,k < f.kids.length→(f.op=4→(nth f.kids k).op≤3)∧nnf (nth f.kids k)=true):nnf f=true:=by
  rw [aKi,List.all_eq_true]
  intro x hx
  obtain ⟨j,hj,rfl⟩:=dY hx
  obtain ⟨h1,h2⟩:=h j hj
  rw [h2,decide_eq_false (by omega)]; rfl
theorem aBW (f : Fm) : okF f = true → ∀ b, nnf (nrm f b) = true := by
  refine gC (p:=fun f=>okF f=true→ ∀ b,nnf (nrm f b)=true) (fun f ih hf b=>?_) f
  obtain ⟨hr,hk⟩:=bP hf
  by_cases h4:f.op=4
  · have:=(dE hr).2.2.2.1 (.inl h4)
    rw [jM h4 (by omega)]
    exact ih 0 (by omega) (hk 0 (by omega)) _
  · rcases opK hr with ⟨h0,ho⟩|⟨h0,_,_⟩
    · have hl:nnf f=true:=rB fun k h=>by omega
      cases b with
      | true =>
        rw [zR h4 h0]
        refine rB fun k h=>?_
        have:k=0:=by simp [Fm.kids] at h; omega
        subst this
        exact ⟨fun _=>by show f.op≤3; omega,hl⟩
      |false=>rw [yO h4 h0]; exact hl
    · rw [cS h4 h0]
      refine rB fun k h=>?_
      have h':k < f.kids.length:=by simpa [Fm.kids] using h
      refine ⟨fun e=>?_,?_⟩
      · have e':nop f.op b=4:=e
        have:=aIz hr h0 h4 b
        exfalso
        unfold nop gQ at e'
        obtain ⟨r1,r2,_⟩:=dE hr
        revert e'
        repeat (first|omega|split)
      · show nnf (nth (f.kids.map fun g=>nrm g b) k)=true
        rw [fT h']
        exact ih k h' (hk k h') b
theorem zC {g h:Nat→Bool}: ∀ {m i:Nat},iD (fun j=> !g j) (fun j=> !h j) m i= !iB g h m i
  |0,i=>rfl
  |m+1,i=>by rw [iD,iB,zC (m:=m)]; cases h i <;> cases g i <;> simp
theorem yM {g h:Nat→Bool}: ∀ {m i:Nat},iB (fun j=> !g j) (fun j=> !h j) m i= !iD g h m i
  |0,i=>rfl
  |m+1,i=>by rw [iD,iB,yM (m:=m)]; cases h i <;> cases g i <;> simp
theorem aB6 {α:Type} {p:α→Bool}: ∀ l:List α,(l.any fun g=> !p g)= !(l.all p)
  |[]=>rfl
  |a::l=>by rw [List.any_cons,List.all_cons,aB6 l,Bool.not_and]
theorem aCi {α:Type} {p:α→Bool}: ∀ l:List α,(l.all fun g=> !p g)= !(l.any p)
  |[]=>rfl
  |a::l=>by rw [List.any_cons,List.all_cons,aCi l,Bool.not_or]
theorem aHp {t:Tr} {f:Fm} (hr:rgt f=0) (h4: ¬f.op=4) (h0:f.kids.length≠0) (i:Nat):mQ t (gQ f.op) 0 (f.kids.map fun g j=> !sat t g j) i= !mQ t f.op f.arg (f.kids.map (sat t)) i:=by
  obtain ⟨r1,r2,r3,r4,r5,r6,r7,r8,r9⟩:=dE hr
  have k0:0 < f.kids.length→nth (f.kids.map fun g j=> !sat t g j) 0=fun j=> !nth (f.kids.map (sat t)) 0 j:=fun h=>by rw [fT h,fT h]
  have k1:1 < f.kids.length→nth (f.kids.map fun g j=> !sat t g j) 1=fun j=> !nth (f.kids.map (sat t)) 1 j:=fun h=>by rw [fT h,fT h]
  have e:f.op=5∨f.op=6∨f.op=7∨f.op=8∨f.op=9∨f.op=10:=by omega
  rcases e with e|e|e|e|e|e
  · rw [e]; show (List.map _ _).any _= !(List.map _ _).all _
    rw [List.any_map,List.all_map]
    exact aB6 (p:=fun g=>sat t g i) _
  · rw [e]; show (List.map _ _).all _= !(List.map _ _).any _
    rw [List.any_map,List.all_map]
    exact aCi (p:=fun g=>sat t g i) _
  · rw [e]; show (decide (¬i < t.ni.length)||nth (f.kids.map fun g j=> !sat t g j) 0 (i+1))= !(decide (i < t.ni.length)&&nth (f.kids.map (sat t)) 0 (i+1))
    rw [k0 (by omega),decide_not,Bool.not_and]
  · rw [e]; show iD (nth (f.kids.map fun g j=> !sat t g j) 0) (nth (f.kids.map fun g j=> !sat t g j) 1) _ i= !iB _ _ _ i
    rw [k0 (by omega),k1 (by omega),zC]
  · rw [e]; show (decide (i < t.ni.length)&&nth (f.kids.map fun g j=> !sat t g j) 0 (i+1))= !(decide (¬i < t.ni.length)||nth (f.kids.map (sat t)) 0 (i+1))
    rw [k0 (by omega),decide_not,Bool.not_or,Bool.not_not]
  · rw [e]; show iB (nth (f.kids.map fun g j=> !sat t g j) 0) (nth (f.kids.map fun g j=> !sat t g j) 1) _ i= !iD _ _ _ i
    rw [k0 (by omega),k1 (by omega),yM]
theorem aTv {α:Type} {p q:Fm→α} {l:List Fm} (h: ∀ k,k < l.length→p (nth l k)=q (nth l k)):l.map p=l.map q:=
  List.map_congr_left fun x hx=>by obtain ⟨j,hj,rfl⟩:=dY hx; exact h j hj
theorem aL7 (t : Tr) (f : Fm) : okF f = true → ∀ b i, sat t (nrm f b) i = (sat t f i ^^ b) := by
  refine gC (p:=fun f=>okF f=true→ ∀ b i,sat t (nrm f b) i=(sat t f i ^^ b)) (fun f ih hf b i=>?_) f
  obtain ⟨hr,hk⟩:=bP hf
  by_cases h4:f.op=4
  · have hl:=(dE hr).2.2.2.1 (.inl h4)
    rw [jM h4 (by omega),ih 0 (by omega) (hk 0 (by omega)),cH t f,h4]
    show (sat t (nth f.kids 0) i ^^ !b)=(!(nth (f.kids.map (sat t)) 0 i) ^^ b)
    rw [fT (by omega)]
    cases sat t (nth f.kids 0) i <;> cases b <;> rfl
  · rcases opK hr with ⟨h0,ho⟩|⟨h0,ha,_⟩
    · cases b with
      |true=>rw [zR h4 h0,cH t (.nd 4 0 [f])]; show (!sat t f i)=_; simp
      |false=>rw [yO h4 h0]; simp
    · rw [cS h4 h0,cH]
      show mQ t (nop f.op b) 0 ((f.kids.map fun g=>nrm g b).map (sat t)) i=_
      rw [List.map_map,aTv (q:=fun g j=>sat t g j ^^ b) fun k hk'=>funext fun j=>ih k hk' (hk k hk') b j]
      cases b with
      | true =>
        simp only [nop,if_true,Bool.xor_true]
        rw [aHp hr h4 h0,← cH]
      | false =>
        simp only [nop,Bool.false_eq_true,if_false,Bool.xor_false]
        rw [cH t f,ha]
theorem aPS {f:Fm} {t:Tr} (h:cX f=0) (h1:t.ni.length≤1024) (h2:t.no.length=t.ni.length):hoE t f=0:=by
  unfold hoE; rw [if_neg (by omega),if_neg (by omega),if_neg (by omega)]
theorem aPJ {f:Fm} {t:Tr} (h:cX f=0) (h1:t.ni.length≤1024) (h2:t.no.length=t.ni.length):hoB t f=sat t f 0:=by
  unfold hoB; rw [aPS h h1 h2]; rfl
end Go.Proofs.YteehaobohaecmaaGreatDoor
namespace Go.Proofs.YteehaobohaecmaaGreatDoor
open Go
mutual
def dp:Fm→Nat
  | .nd _ _ k=>dpL k+1
def dpL:List Fm→Nat
  |[]=>0
  |f::l=>max (dp f) (dpL l)
end
theorem uK {o:Int} {l:List Fm} (h:((o=4∨o=7∨o=9)∧l.length=1)∨((o=8∨o=10)∧l.length=2)∨((o=5∨o=6)∧2≤l.length)) (hk:l.all okF=true):okF (.nd o 0 l)=true:=by
  rw [okF,decide_eq_true (xU h),aCa,hk]; rfl
section
variable {f g:Fm} {t:Tr}
@[simp] theorem aNY (l : List Int) : eH (l.map cI).tail = true := by
  cases l with
  |nil=>simp
  |cons a l=>simp
@[simp] theorem aP6 (l : List Int) : gN (l.map cI).tail = true := by
  cases l with
  |nil=>simp
  |cons a l=>simp
end
end Go.Proofs.YteehaobohaecmaaGreatDoor
namespace Go.Proofs.YteehaobohaecmaaGreatDoor
open Go Go.Sort
theorem oU {α : Type} {le : α → α → Prop} : ∀ {l m : List α}, (∀ a ∈ l, ∀ b ∈ l, le a b → le b a → a = b) → l.Perm m → l.Pairwise le → m.Pairwise le → l = m
  |[],m,_,hp,_,_=>(List.perm_nil.1 hp.symm).symm
  |a::l,[],_,hp,_,_=>(List.cons_ne_nil _ _ (List.perm_nil.1 hp)).elim
  | a :: l, b :: m, anti, hp, h1, h2 => by
    have hb:b∈a::l:=hp.mem_iff.2 (List.mem_cons_self ..)
    have ha:a∈b::m:=hp.mem_iff.1 (List.mem_cons_self ..)
    have e:a=b:=by
      rcases List.mem_cons.1 hb with e|hb'
      · exact e.symm
      · rcases List.mem_cons.1 ha with e|ha'
        · exact e
        · exact anti a (List.mem_cons_self ..) b hb ((List.pairwise_cons.1 h1).1 b hb') ((List.pairwise_cons.1 h2).1 a ha')
    subst e
    rw [oU (fun x hx y hy=>anti x (List.mem_cons_of_mem _ hx) y (List.mem_cons_of_mem _ hy)) (List.Perm.cons_inv hp) (List.pairwise_cons.1 h1).2 (List.pairwise_cons.1 h2).2]
def aG2 {α:Type} (cmp:α→α→Int) (a:α):List α→List α
  |[]=>[a]
  |b::l=>if cmp b a < 0 then b::aG2 cmp a l else a::b::l
def srt {α:Type} (cmp:α→α→Int) (l:List α):List α:=l.foldr (aG2 cmp) []
theorem uR {α:Type} (cmp:α→α→Int) (a:α): ∀ l:List α,(aG2 cmp a l).Perm (a::l)
  |[]=>List.Perm.refl _
  | b :: l => by
    rw [aG2]
    split
    · exact ((uR cmp a l).cons b).trans (List.Perm.swap a b l)
    · exact List.Perm.refl _
theorem jA {α:Type} (cmp:α→α→Int): ∀ l:List α,(srt cmp l).Perm l
  |[]=>List.Perm.refl _
  |a::l=>(uR cmp a (srt cmp l)).trans ((jA cmp l).cons a)
theorem iZ {α:Type} (cmp:α→α→Int) (l:List α):(srt cmp l).length=l.length:=(jA cmp l).length_eq
theorem vU {α : Type} {cmp : α → α → Int} (hO : SWO fun a b => decide (cmp a b < 0)) (a : α) : ∀ {l : List α}, (l.Pairwise fun a b => ¬cmp b a < 0) → (aG2 cmp a l).Pairwise fun a b => ¬cmp b a < 0
  |[],_=>List.pairwise_singleton _ _
  | b :: l, h => by
    obtain ⟨h1,h2⟩:=List.pairwise_cons.1 h
    rw [aG2]
    split
    · rename_i q
      refine List.pairwise_cons.2 ⟨fun x hx=>?_,vU hO a h2⟩
      rcases List.mem_cons.1 ((uR cmp a l).mem_iff.1 hx) with e|e
      · rw [e]; intro q2
        have:=hO.trans a b a (by simpa using q2) (by simpa using q)
        rw [hO.irrefl a] at this; cases this
      · exact h1 x e
    · rename_i q
      refine List.pairwise_cons.2 ⟨fun x hx=>?_,h⟩
      rcases List.mem_cons.1 hx with e|e
      · rw [e]; exact q
      · have:=hO.ntrans x b a (by simpa using h1 x e) (by simpa using q)
        simpa using this
theorem kW {α:Type} {cmp:α→α→Int} (hO:SWO fun a b=>decide (cmp a b < 0)): ∀ l:List α,(srt cmp l).Pairwise fun a b=> ¬cmp b a < 0
  |[]=>List.Pairwise.nil
  |a::l=>vU hO a (kW hO l)
end Go.Proofs.YteehaobohaecmaaGreatDoor
namespace Go.Proofs.YteehaobohaecmaaGreatDoor
open Go
def lxR:List Int→List Int→Int
  |[],[]=>0
  |[],_::_=> -1
  |_::_,[]=>1
  |a::l,b::m=>if a < b then -1 else if b < a then 1 else lxR l m
theorem aDf: ∀ l:List Int,lxR l l=0
  |[]=>rfl
  |a::l=>by rw [lxR,if_neg (by omega),if_neg (by omega),aDf l]
theorem aCl: ∀ l m:List Int,lxR m l= -lxR l m
  |[],[]=>rfl
  |[],_::_=>rfl
  |_::_,[]=>rfl
  | a :: l, b :: m => by
    rw [lxR,lxR]
    by_cases h:a < b
    · rw [if_neg (by omega),if_pos h,if_pos h]; rfl
    · rw [if_neg h]
      by_cases h2:b < a
      · rw [if_pos h2,if_neg h,if_pos h2]
      · rw [if_neg h2,if_neg h,if_neg h2,aCl l m]
theorem aAp : ∀ l m k : List Int, lxR l m < 0 → lxR m k < 0 → lxR l k < 0
  |[],[],_,h,_=>by simp [lxR] at h
  |[],_::_,[],_,h=>by simp [lxR] at h
  |[],_::_,_::_,_,_=>by simp [lxR]
  |_::_,[],_,h,_=>by simp [lxR] at h
  |_::_,_::_,[],_,h=>by simp [lxR] at h
  | a :: l, b :: m, c :: k, h1, h2 => by
    rw [lxR] at h1 h2 ⊢
    by_cases p:a < b
    · by_cases q:b < c
      · rw [if_pos (by omega)]; decide
      · rw [if_neg q] at h2
        by_cases q2:c < b
        · rw [if_pos q2] at h2; omega
        · rw [if_pos (by omega)]; decide
    · rw [if_neg p] at h1
      by_cases p2:b < a
      · rw [if_pos p2] at h1; omega
      · rw [if_neg p2] at h1
        by_cases q:b < c
        · rw [if_pos (by omega)]; decide
        · rw [if_neg q] at h2
          by_cases q2:c < b
          · rw [if_pos q2] at h2; omega
          · rw [if_neg q2] at h2
            rw [if_neg (by omega),if_neg (by omega)]
            exact aAp l m k h1 h2
def cp3 (a b c:Int):Int:=if a≠0 then a else if b≠0 then b else c
mutual
def bY:Fm→Fm→Int
  | .nd o a k,.nd o' a' k'=>cp3 (cp3 (fG o o') (fG a a') (fG k.length k'.length)) (kU k k') 0
def kU:List Fm→List Fm→Int
  |f::l,g::m=>if bY f g≠0 then bY f g else kU l m
  |_,_=>0
end
theorem aB4 (f g:Fm):bY f g=cp3 (cp3 (fG f.op g.op) (fG f.arg g.arg) (fG f.kids.length g.kids.length)) (kU f.kids g.kids) 0:=by cases f; cases g; rw [bY]; rfl
theorem aDZ {l m:List Fm} {k:Nat} (h1:k < l.length) (h2:k < m.length) (h:bY (nth l k) (nth m k)≠0):kU (l.drop k) (m.drop k)=bY (nth l k) (nth m k):=by rw [cW h1,cW h2,kU,if_pos h]
theorem aFL {l m:List Fm} {k:Nat} (h1:k < l.length) (h2:k < m.length) (h: ¬bY (nth l k) (nth m k)≠0):kU (l.drop k) (m.drop k)=kU (l.drop (k+1)) (m.drop (k+1)):=by rw [cW h1,cW h2,kU,if_neg h]
theorem aDY {l m:List Fm} {k:Nat} (h1:l.length≤k):kU (l.drop k) (m.drop k)=0:=by rw [List.drop_eq_nil_of_le h1]; rw [kU]; intro f l' g m' h; cases h
mutual
def flF:Fm→List Int
  | .nd o a k=>o::a::(k.length:Int)::flL k
def flL:List Fm→List Int
  |[]=>[]
  |f::l=>flF f++flL l
end
theorem lX (a b:Int):(a < b∧fG a b= -1)∨(b < a∧fG a b=1)∨(a=b∧fG a b=0):=by
  unfold fG
  by_cases h:a < b
  · exact .inl ⟨h,if_pos h⟩
  · by_cases h2:b < a
    · exact .inr (.inl ⟨h2,by rw [if_neg h,if_pos h2]⟩)
    · exact .inr (.inr ⟨by omega,by rw [if_neg h,if_neg h2]⟩)
theorem yF (a b:Int) (l m:List Int):lxR (a::l) (b::m)=if fG a b≠0 then fG a b else lxR l m:=by
  rw [lxR]
  rcases lX a b with ⟨h,e⟩|⟨h,e⟩|⟨h,e⟩
  · rw [e,if_pos h]; rfl
  · rw [e,if_neg (by omega),if_pos h]; rfl
  · rw [e,if_neg (by omega),if_neg (by omega)]; rfl
mutual
theorem aGw : ∀ (f g : Fm) (x y : List Int), lxR (flF f ++ x) (flF g ++ y) = if bY f g ≠ 0 then bY f g else lxR x y
  | .nd o a k, .nd o' a' k', x, y => by
    rw [flF,flF,bY]
    show lxR (o::a::(k.length:Int)::(flL k++x)) (o'::a'::(k'.length:Int)::(flL k'++y))=_
    rw [yF,yF,yF]
    unfold cp3
    by_cases h1:fG o o'≠0
    · rw [if_pos h1]; simp only [if_pos h1]
    · rw [if_neg h1]
      simp only [if_neg h1]
      by_cases h2:fG a a'≠0
      · rw [if_pos h2]; simp only [if_pos h2]
      · rw [if_neg h2]
        simp only [if_neg h2]
        by_cases h3:fG (k.length:Int) k'.length≠0
        · rw [if_pos h3]; simp only [if_pos h3]
        · rw [if_neg h3]
          simp only [if_neg h3]
          have hl:k.length=k'.length:=by
            rcases lX (k.length:Int) k'.length with ⟨h,e⟩|⟨h,e⟩|⟨h,e⟩ <;> omega
          rw [aGl k k' x y hl]
          by_cases h4:kU k k'≠0
          · simp only [if_pos h4]
          · simp only [if_neg h4]; rfl
theorem aGl: ∀ (l m:List Fm) (x y:List Int),l.length=m.length→lxR (flL l++x) (flL m++y)=if kU l m≠0 then kU l m else lxR x y
  | [], [], x, y, _ => by
    rw [flL,kU]
    · simp
    · intro f l' g m' h; cases h
  |[],g::m,_,_,h=>by simp at h
  |f::l,[],_,_,h=>by simp at h
  | f :: l, g :: m, x, y, h => by
    rw [flL,flL,List.append_assoc,List.append_assoc,aGw f g,aGl l m x y (by simpa using h),kU]
    by_cases h1:bY f g≠0
    · simp only [if_pos h1]
    · simp only [if_neg h1]
end
theorem sL (f g:Fm):bY f g=lxR (flF f) (flF g):=by
  have h:=aGw f g [] []
  rw [List.append_nil,List.append_nil] at h
  rw [h]
  split
  · rfl
  · rename_i q; show bY f g=0; omega
mutual
theorem jF : ∀ f g : Fm, bY f g = 0 → f = g
  | .nd o a k, .nd o' a' k', h => by
    rw [bY] at h
    unfold cp3 at h
    by_cases h1:fG o o'≠0
    · simp only [if_pos h1] at h; exact absurd h h1
    · simp only [if_neg h1] at h
      by_cases h2:fG a a'≠0
      · simp only [if_pos h2] at h; exact absurd h h2
      · simp only [if_neg h2] at h
        by_cases h3:fG (k.length:Int) k'.length≠0
        · simp only [if_pos h3] at h; exact absurd h h3
        · simp only [if_neg h3] at h
          by_cases h4:kU k k'≠0
          · rw [if_pos h4] at h; exact absurd h h4
          · have e1:o=o':=by rcases lX o o' with ⟨p,e⟩|⟨p,e⟩|⟨p,e⟩ <;> omega
            have e2:a=a':=by rcases lX a a' with ⟨p,e⟩|⟨p,e⟩|⟨p,e⟩ <;> omega
            have e3:k.length=k'.length:=by rcases lX (k.length:Int) k'.length with ⟨p,e⟩|⟨p,e⟩|⟨p,e⟩ <;> omega
            rw [e1,e2,aAV k k' e3 (by omega)]
theorem aAV: ∀ l m:List Fm,l.length=m.length→kU l m=0→l=m
  |[],[],_,_=>rfl
  |[],g::m,h,_=>by simp at h
  |f::l,[],h,_=>by simp at h
  | f :: l, g :: m, h, h2 => by
    rw [kU] at h2
    by_cases h1:bY f g≠0
    · rw [if_pos h1] at h2; exact absurd h2 h1
    · rw [if_neg h1] at h2
      rw [jF f g (by omega),aAV l m (by simpa using h) h2]
end
theorem mB (f:Fm):bY f f=0:=by rw [sL,aDf]
theorem jE (f g:Fm):bY g f= -bY f g:=by rw [sL,sL,aCl]
theorem kO {f g h:Fm} (h1:bY f g < 0) (h2:bY g h < 0):bY f h < 0:=by
  rw [sL] at*; exact aAp _ _ _ h1 h2
theorem aMZ {f g h:Fm} (h1: ¬bY g f < 0) (h2: ¬bY h g < 0): ¬bY h f < 0:=by
  intro q
  by_cases e:bY f g=0
  · rw [jF _ _ e] at q; exact h2 q
  · have:=jE f g
    exact h2 (kO q (by omega))
theorem rX:Go.Sort.SWO fun a b:Fm=>decide (bY a b < 0) where
  irrefl x:=by rw [mB]; rfl
  trans x y z h1 h2:=decide_eq_true (kO (of_decide_eq_true h1) (of_decide_eq_true h2))
  ntrans x y z h1 h2:=decide_eq_false (aMZ (f:=z) (g:=y) (h:=x) (of_decide_eq_false h2) (of_decide_eq_false h1))
abbrev gO (l:List Fm):Prop:=l.Pairwise fun a b=>bY a b < 0
theorem pT {l m : List Fm} (h1 : gO l) (h2 : gO m) (h : ∀ x, x ∈ l ↔ x ∈ m) : l = m := by
  induction l generalizing m with
  | nil =>
    cases m with
    |nil=>rfl
    |cons b m=>exact absurd ((h b).2 (List.mem_cons_self ..)) (List.not_mem_nil)
  | cons a l ih =>
    cases m with
    |nil=>exact absurd ((h a).1 (List.mem_cons_self ..)) (List.not_mem_nil)
    | cons b m =>
      obtain ⟨a1,a2⟩:=List.pairwise_cons.1 h1
      obtain ⟨b1,b2⟩:=List.pairwise_cons.1 h2
      have hab:a=b:=by
        rcases List.mem_cons.1 ((h a).1 (List.mem_cons_self ..)) with e|e
        · exact e
        · rcases List.mem_cons.1 ((h b).2 (List.mem_cons_self ..)) with e2|e2
          · exact e2.symm
          · have q1:=b1 a e
            have q2:=a1 b e2
            have:=jE a b
            omega
      subst hab
      rw [ih a2 b2 fun x=>?_]
      have na:a∉l:=fun q=>by have:=a1 a q; rw [mB] at this; omega
      have nb:a∉m:=fun q=>by have:=b1 a q; rw [mB] at this; omega
      constructor
      · intro hx
        rcases List.mem_cons.1 ((h x).1 (List.mem_cons_of_mem _ hx)) with e|e
        · subst e; exact absurd hx na
        · exact e
      · intro hx
        rcases List.mem_cons.1 ((h x).2 (List.mem_cons_of_mem _ hx)) with e|e
        · subst e; exact absurd hx nb
        · exact e
def kK (f:Fm):List Fm→List Fm
  |[]=>[f]
  |g::l=>if bY f g < 0 then f::g::l else if bY f g=0 then g::l else g::kK f l
theorem yI {f x : Fm} : ∀ {l : List Fm}, x ∈ kK f l ↔ x = f ∨ x ∈ l
  |[]=>by simp [kK]
  | g :: l => by
    rw [kK]
    split
    · simp
    · split
      · rename_i h; have:=jF _ _ h; subst this; simp
      · simp only [List.mem_cons,yI (l:=l)]
        constructor
        · rintro (h|h|h)
          · exact .inr (.inl h)
          · exact .inl h
          · exact .inr (.inr h)
        · rintro (h|h|h)
          · exact .inr (.inl h)
          · exact .inl h
          · exact .inr (.inr h)
theorem aDI {f : Fm} : ∀ {l : List Fm}, gO l → gO (kK f l)
  |[],_=>List.pairwise_singleton _ _
  | g :: l, h => by
    obtain ⟨h1,h2⟩:=List.pairwise_cons.1 h
    rw [kK]
    split
    · rename_i q
      refine List.pairwise_cons.2 ⟨fun x hx=>?_,h⟩
      rcases List.mem_cons.1 hx with e|e
      · rw [e]; exact q
      · exact kO q (h1 x e)
    · split
      · exact h
      · rename_i q q2
        refine List.pairwise_cons.2 ⟨fun x hx=>?_,aDI h2⟩
        rcases yI.1 hx with e|e
        · rw [e]; have:=jE f g; omega
        · exact h1 x e
theorem aCU {f:Fm}: ∀ l:List Fm,(kK f l).length≤l.length+1
  |[]=>by simp [kK]
  | g :: l => by
    rw [kK]
    split
    · simp
    · split
      · simp
      · have:=aCU (f:=f) l; simp; omega
def unF (c d:List Fm):List Fm:=d.foldl (fun l f=>kK f l) c
theorem nA {x:Fm}: ∀ {d c:List Fm},x∈unF c d↔x∈c∨x∈d
  |[],c=>by simp [unF]
  | f :: d, c => by
    show x∈unF (kK f c) d↔_
    rw [nA (d:=d),yI,List.mem_cons]
    constructor
    · rintro ((h|h)|h)
      · exact .inr (.inl h)
      · exact .inl h
      · exact .inr (.inr h)
    · rintro (h|h|h)
      · exact .inl (.inr h)
      · exact .inl (.inl h)
      · exact .inr h
theorem lL: ∀ {d c:List Fm},gO c→gO (unF c d)
  |[],_,h=>h
  |f::d,c,h=>lL (d:=d) (aDI h)
theorem pM: ∀ (d c:List Fm),(unF c d).length≤c.length+d.length
  |[],c=>by simp [unF]
  | f :: d, c => by
    have h1:=pM d (kK f c)
    have h2:=aCU (f:=f) c
    show (unF (kK f c) d).length≤_
    rw [List.length_cons]; omega
abbrev sF (l:List Fm):List Fm:=srt bY l
theorem oT {l:List Fm} {x:Fm}:x∈sF l↔x∈l:=(jA bY l).mem_iff
theorem aD4 (l:List Fm):(sF l).length=l.length:=(jA bY l).length_eq
theorem aE8 {l:List Fm} (h:l.Nodup):gO (sF l):=by
  have h1:=kW rX l
  have h2:(sF l).Nodup:=(jA bY l).nodup_iff.2 h
  exact (h1.and h2).imp fun {a b} ⟨q1,q2⟩=>by
    have:=jE a b
    by_cases e:bY a b=0
    · exact absurd (jF _ _ e) q2
    · omega
end Go.Proofs.YteehaobohaecmaaGreatDoor
namespace Go.Proofs.YteehaobohaecmaaGreatDoor
open Go
abbrev Cl:=List Fm
def dQ (c d:Cl):Bool:=d.all fun x=>c.any fun y=>eA y x
theorem jP {c d:Cl}:dQ c d=true↔ ∀ x∈d,x∈c:=by
  unfold dQ
  rw [List.all_eq_true]
  constructor
  · intro h x hx
    obtain ⟨y,hy,e⟩:=List.any_eq_true.1 (h x hx)
    rw [(fS y x).1 e] at hy; exact hy
  · intro h x hx
    exact List.any_eq_true.2 ⟨x,h x hx,xI x⟩
theorem uG (c:Cl):dQ c c=true:=jP.2 fun _ h=>h
def wth (s:List Cl) (c:Cl):List Cl:=if s.any (fun d=>dQ c d)=true then s else s.filter (fun d=> !dQ d c)++[c]
theorem aLn (s:List Cl) (c:Cl):(wth s c).length≤s.length+1:=by
  unfold wth
  split
  · omega
  · rw [List.length_append]; have:=List.length_filter_le (fun d=> !dQ d c) s; simp; omega
def wths (s t:List Cl):List Cl:=t.foldl wth s
theorem oE: ∀ (t s:List Cl),(wths s t).length≤s.length+t.length
  |[],s=>Nat.le_refl _
  | c :: t, s => by
    have h1:=oE t (wth s c)
    have h2:=aLn s c
    show (wths (wth s c) t).length≤_
    rw [List.length_cons]; omega
theorem aCS (s t u:List Cl):wths s (t++u)=wths (wths s t) u:=List.foldl_append
def prC (out:List Cl) (c:Cl) (b:List Cl):List Cl:=wths out (b.map (unF c))
def prd (a b:List Cl):List Cl:=a.foldl (fun out c=>prC out c b) []
def yW (out a b:List Cl):List Cl:=a.foldl (fun out c=>prC out c b) out
theorem rS (b:List Cl): ∀ (a out:List Cl),(yW out a b).length≤out.length+a.length*b.length
  |[],out=>by simp [yW]
  | c :: a, out => by
    have h1:=rS b a (prC out c b)
    have h2:=oE (b.map (unF c)) out
    rw [List.length_map] at h2
    show (yW (prC out c b) a b).length≤_
    have h3:(prC out c b).length≤out.length+b.length:=h2
    rw [List.length_cons,Nat.succ_mul]; omega
def evC (S:Fm→Bool) (c:Cl):Bool:=c.all S
def evS (S:Fm→Bool) (s:List Cl):Bool:=s.any (evC S)
theorem lG {S:Fm→Bool} {c:Cl}:evC S c=true↔ ∀ x∈c,S x=true:=List.all_eq_true
theorem gM {S:Fm→Bool} {s:List Cl}:evS S s=true↔ ∃ c∈s,evC S c=true:=List.any_eq_true
theorem aGe {S:Fm→Bool} {c d:Cl} (h:dQ c d=true) (hc:evC S c=true):evC S d=true:=lG.2 fun x hx=>lG.1 hc x (jP.1 h x hx)
theorem gE {a b:Bool} (h:a=true↔b=true):a=b:=by cases a <;> cases b <;> simp_all
theorem aLZ (S : Fm → Bool) (s : List Cl) (c : Cl) : evS S (wth s c) = (evS S s || evC S c) := by
  refine gE ?_
  rw [Bool.or_eq_true]
  unfold wth
  split
  · rename_i h
    constructor
    · exact .inl
    · rintro (q|q)
      · exact q
      · obtain ⟨d,hd,e⟩:=List.any_eq_true.1 h
        exact gM.2 ⟨d,hd,aGe e q⟩
  · constructor
    · intro q
      obtain ⟨d,hd,e⟩:=gM.1 q
      rcases List.mem_append.1 hd with hd|hd
      · exact .inl (gM.2 ⟨d,(List.mem_filter.1 hd).1,e⟩)
      · rw [List.mem_singleton.1 hd] at e; exact .inr e
    · rintro (q|q)
      · obtain ⟨d,hd,e⟩:=gM.1 q
        by_cases k:dQ d c=true
        · exact gM.2 ⟨c,List.mem_append_right _ (List.mem_singleton.2 rfl),aGe k e⟩
        · exact gM.2 ⟨d,List.mem_append_left _ (List.mem_filter.2 ⟨hd,by simpa using k⟩),e⟩
      · exact gM.2 ⟨c,List.mem_append_right _ (List.mem_singleton.2 rfl),q⟩
theorem yL (S:Fm→Bool): ∀ (t s:List Cl),evS S (wths s t)=(evS S s||evS S t)
  |[],s=>by simp [wths,evS]
  | c :: t, s => by
    show evS S (wths (wth s c) t)=_
    rw [yL S t,aLZ,Bool.or_assoc]; rfl
theorem aRC (S:Fm→Bool) (c d:Cl):evC S (unF c d)=(evC S c&&evC S d):=by
  refine gE ?_
  rw [Bool.and_eq_true,lG,lG,lG]
  constructor
  · intro h; exact ⟨fun x hx=>h x (nA.2 (.inl hx)),fun x hx=>h x (nA.2 (.inr hx))⟩
  · rintro ⟨h1,h2⟩ x hx
    rcases nA.1 hx with q|q
    · exact h1 x q
    · exact h2 x q
theorem aFj (S:Fm→Bool) (c:Cl): ∀ b:List Cl,evS S (b.map (unF c))=(evC S c&&evS S b)
  |[]=>by simp [evS]
  | d :: b => by
    show (evC S (unF c d)||evS S (b.map (unF c)))=(evC S c&&(evC S d||evS S b))
    rw [aRC,aFj S c b,Bool.and_or_distrib_left]
theorem aCx (S:Fm→Bool) (b:List Cl): ∀ (a out:List Cl),evS S (yW out a b)=(evS S out||(evS S a&&evS S b))
  |[],out=>by simp [yW,evS]
  | c :: a, out => by
    show evS S (yW (prC out c b) a b)=(evS S out||((evC S c||evS S a)&&evS S b))
    rw [aCx S b a,prC,yL,aFj]
    cases evS S out <;> cases evC S c <;> cases evS S a <;> cases evS S b <;> rfl
theorem aLa (S:Fm→Bool) (a b:List Cl):evS S (prd a b)=(evS S a&&evS S b):=by
  have h:prd a b=yW [] a b:=rfl
  rw [h,aCx]
  rfl
structure Ant (s:List Cl):Prop where
  srt: ∀ c∈s,gO c
  two:s.Pairwise fun c d=>dQ c d=false∧dQ d c=false
theorem Ant.nil:Ant []:=⟨fun _ h=>absurd h List.not_mem_nil,List.Pairwise.nil⟩
theorem Ant.one {c:Cl} (h:gO c):Ant [c]:=⟨fun d hd=>by rw [List.mem_singleton.1 hd]; exact h,List.pairwise_singleton _ _⟩
theorem aM6 {s:List Cl} {c:Cl} (h:Ant s) (hc:gO c):Ant (wth s c):=by
  unfold wth
  split
  · exact h
  · rename_i q
    refine ⟨fun d hd=>?_,List.pairwise_append.2 ⟨h.two.filter _,List.pairwise_singleton _ _,fun d hd e he=>?_⟩⟩
    · rcases List.mem_append.1 hd with hd|hd
      · exact h.srt d (List.mem_filter.1 hd).1
      · rw [List.mem_singleton.1 hd]; exact hc
    · rw [List.mem_singleton.1 he]
      obtain ⟨h1,h2⟩:=List.mem_filter.1 hd
      refine ⟨by simpa using h2,?_⟩
      cases k:dQ c d with
      |false=>rfl
      |true=>exact absurd (List.any_eq_true.2 ⟨d,h1,k⟩) q
theorem nW: ∀ {t s:List Cl},Ant s→(∀ c∈t,gO c)→Ant (wths s t)
  |[],_,h,_=>h
  |c::t,s,h,ht=>nW (t:=t) (s:=wth s c) (aM6 h (ht c (List.mem_cons_self ..))) fun d hd=>ht d (List.mem_cons_of_mem _ hd)
theorem xY {b:List Cl}: ∀ {a out:List Cl},Ant out→(∀ c∈a,gO c)→Ant (yW out a b)
  |[],_,h,_=>h
  | c :: a, out, h, ha => xY (a := a) (out := prC out c b) (nW h fun d hd => by
      obtain ⟨e,_,rfl⟩:=List.mem_map.1 hd; exact lL (ha c (List.mem_cons_self ..))) fun d hd=>ha d (List.mem_cons_of_mem _ hd)
theorem aFD {a b:List Cl} (ha:Ant a):Ant (prd a b):=xY Ant.nil ha.srt
theorem aL6 {s:List Cl} {c:Cl} (h: ∀ d∈s,dQ d c=false∧dQ c d=false):wth s c=s++[c]:=by
  unfold wth
  rw [if_neg]
  · congr 1
    rw [List.filter_eq_self]
    intro d hd
    rw [(h d hd).1]; rfl
  · intro q
    obtain ⟨d,hd,e⟩:=List.any_eq_true.1 q
    rw [(h d hd).2] at e; cases e
theorem uC: ∀ {t s:List Cl},Ant (s++t)→wths s t=s++t
  |[],s,_=>by simp [wths]
  | c :: t, s, h => by
    have h1:=(List.pairwise_append.1 h.two).2.2
    show wths (wth s c) t=_
    rw [aL6 fun d hd=>⟨(h1 d hd c (List.mem_cons_self ..)).1,(h1 d hd c (List.mem_cons_self ..)).2⟩]
    have e:s++[c]++t=s++c::t:=by simp
    rw [uC (by rw [e]; exact h),e]
theorem aAu {f:Fm}: ∀ {l:List Fm},(∀ x∈l,bY x f < 0)→kK f l=l++[f]
  |[],_=>rfl
  | g :: l, h => by
    have h1:=h g (List.mem_cons_self ..)
    have h2:=jE f g
    rw [kK,if_neg (by omega),if_neg (by omega),aAu fun x hx=>h x (List.mem_cons_of_mem _ hx)]; rfl
theorem aDS: ∀ {d c:List Fm},gO (c++d)→unF c d=c++d
  |[],c,_=>by simp [unF]
  | f :: d, c, h => by
    have h1:=(List.pairwise_append.1 h).2.2
    show unF (kK f c) d=_
    rw [aAu fun x hx=>h1 x hx f (List.mem_cons_self ..)]
    have e:c++[f]++d=c++f::d:=by simp
    rw [aDS (by rw [e]; exact h),e]
theorem aCT {s:List Cl} (h:Ant s):prd [[]] s=s:=by
  show wths [] (s.map (unF []))=s
  have:s.map (unF [])=s:=by
    rw [List.map_congr_left (g:=id) fun c hc=>by
      have:=aDS (c:=[]) (d:=c) (by simpa using h.srt c hc)
      simpa using this]
    simp
  rw [this]
  have:=uC (s:=[]) (t:=s) (by simpa using h)
  simpa using this
theorem Ant.nodup {s:List Cl} (h:Ant s):s.Nodup:=h.two.imp fun {a b} q e=>by
  subst e; rw [uG] at q; cases q.1
theorem aRG {c d:Cl} (hc:gO c) (hd:gO d) (h1:dQ c d=true) (h2:dQ d c=true):c=d:=
  pT hc hd fun x=>⟨fun h=>jP.1 h2 x h,fun h=>jP.1 h1 x h⟩
theorem aHV {α:Type} {R:α→α→Prop}: ∀ {l:List α},l.Pairwise R→(∀ a b,R a b→R b a)→ ∀ {a b:α},a∈l→b∈l→a≠b→R a b
  |[],_,_,_,_,h,_,_=>absurd h List.not_mem_nil
  | x :: l, h, hs, a, b, ha, hb, hne => by
    obtain ⟨h1,h2⟩:=List.pairwise_cons.1 h
    rcases List.mem_cons.1 ha with e|e
    · rcases List.mem_cons.1 hb with e2|e2
      · exact absurd (e.trans e2.symm) hne
      · rw [e]; exact h1 b e2
    · rcases List.mem_cons.1 hb with e2|e2
      · rw [e2]; exact hs _ _ (h1 a e)
      · exact aHV h2 hs e e2 hne
theorem aGA {s t:List Cl} (hs:Ant s) (ht:Ant t) (h: ∀ S,evS S s=evS S t) {c:Cl} (hc:c∈s):c∈t:=by
  let S:Cl→Fm→Bool:=fun c x=>c.any fun y=>eA y x
  have key: ∀ c d:Cl,evC (S c) d=dQ c d:=fun _ _=>rfl
  have h1:evS (S c) s=true:=gM.2 ⟨c,hc,by rw [key]; exact uG c⟩
  rw [h] at h1
  obtain ⟨d,hd,e⟩:=gM.1 h1
  rw [key] at e
  have h2:evS (S d) t=true:=gM.2 ⟨d,hd,by rw [key]; exact uG d⟩
  rw [← h] at h2
  obtain ⟨c',hc',e'⟩:=gM.1 h2
  rw [key] at e'
  have e2:dQ c c'=true:=jP.2 fun x hx=>jP.1 e x (jP.1 e' x hx)
  have hcc:c=c':=by
    refine Classical.byContradiction fun hne=>?_
    have:=(aHV hs.two (fun a b q=>⟨q.2,q.1⟩) hc hc' hne).1
    rw [e2] at this; cases this
  subst hcc
  rw [aRG (hs.srt c hc) (ht.srt d hd) e e']; exact hd
theorem aJ5 {s t:List Cl} (hs:Ant s) (ht:Ant t) (h: ∀ S,evS S s=evS S t):s.Perm t:=
  (List.perm_ext_iff_of_nodup hs.nodup ht.nodup).2 fun c=>⟨aGA hs ht h,aGA ht hs fun S=>(h S).symm⟩
def noF:Fm:=.nd 4 0 [.nd 1 0 []]
def aEO:Fm:=.nd 1 0 []
def clF (c:Cl):Fm:=if c.length=1 then nth c 0 else .nd 5 0 c
def fin (s:List Cl):Fm:=
  if s.length=0 then noF else if s.any (fun c=>decide (c.length=0))=true then aEO else if s.length=1 then clF (nth s 0) else .nd 6 0 (sF (s.map clF))
def AtS (s:List Cl):Prop:= ∀ c∈s,∀ x∈c,x.op≠5
theorem aLv {c d:Cl} (hc: ∀ x∈c,x.op≠5) (hd: ∀ x∈d,x.op≠5) (h:clF c=clF d):c=d:=by
  unfold clF at h
  by_cases h1:c.length=1
  · rw [if_pos h1] at h
    have m1:nth c 0∈c:=dJ (by omega)
    by_cases h2:d.length=1
    · rw [if_pos h2] at h
      match c,d,h1,h2,h with
      |[x],[y],_,_,h=>have h':x=y:=h; rw [h']
    · rw [if_neg h2] at h
      exact absurd (by rw [h]; rfl) (hc _ m1)
  · rw [if_neg h1] at h
    by_cases h2:d.length=1
    · rw [if_pos h2] at h
      have m1:nth d 0∈d:=dJ (by omega)
      exact absurd (by rw [← h]; rfl) (hd _ m1)
    · rw [if_neg h2] at h
      injection h
theorem nZ {s:List Cl} (hs:s.Nodup) (ha:AtS s):(s.map clF).Nodup:=by
  induction s with
  |nil=>exact List.nodup_nil
  | cons c s ih =>
    obtain ⟨h1,h2⟩:=List.nodup_cons.1 hs
    rw [List.map_cons,List.nodup_cons]
    refine ⟨fun q=>?_,ih h2 fun d hd=>ha d (List.mem_cons_of_mem _ hd)⟩
    obtain ⟨d,hd,e⟩:=List.mem_map.1 q
    have:=aLv (ha d (List.mem_cons_of_mem _ hd)) (ha c (List.mem_cons_self ..)) e
    rw [this] at hd; exact h1 hd
theorem aIx {s t : List Cl} (hp : s.Perm t) (hs : Ant s) (ht : Ant t) (ha : AtS s) : fin s = fin t := by
  have hat:AtS t:=fun c hc=>ha c (hp.mem_iff.2 hc)
  have hl:=hp.length_eq
  unfold fin
  rw [hl]
  by_cases h0:t.length=0
  · rw [if_pos h0,if_pos h0]
  · rw [if_neg h0, if_neg h0]
    have hany:s.any (fun c=>decide (c.length=0))=t.any (fun c=>decide (c.length=0)):=by
      refine gE ?_
      rw [List.any_eq_true,List.any_eq_true]
      exact ⟨fun ⟨c,h,e⟩=>⟨c,hp.mem_iff.1 h,e⟩,fun ⟨c,h,e⟩=>⟨c,hp.mem_iff.2 h,e⟩⟩
    rw [hany]
    by_cases h1:t.any (fun c=>decide (c.length=0))=true
    · rw [if_pos h1,if_pos h1]
    · rw [if_neg h1,if_neg h1]
      by_cases h2:t.length=1
      · rw [if_pos h2,if_pos h2]
        obtain ⟨c,rfl⟩:=List.length_eq_one_iff.1 (hl.trans h2)
        obtain ⟨d,rfl⟩:=List.length_eq_one_iff.1 h2
        have:c∈[d]:=hp.mem_iff.1 (List.mem_singleton.2 rfl)
        rw [List.mem_singleton.1 this]
      · rw [if_neg h2,if_neg h2]
        congr 1
        refine pT (aE8 (nZ hs.nodup ha)) (aE8 (nZ ht.nodup hat)) fun x=>?_
        rw [oT,oT]
        exact (hp.map clF).mem_iff
end Go.Proofs.YteehaobohaecmaaGreatDoor
namespace Go.Proofs.YteehaobohaecmaaGreatDoor
open Go
mutual
def cls : Fm → Option (List Cl)
  | .nd o a k => if o = 1 then some [[]] else if o = 4 then (if (nth k 0).op = 1 then some [] else some [[.nd o a k]])
    else if o=2∨o=3 then some [[.nd o a k]] else if o=6 then djL k [] else if o=5 then cjL k [[]]
    else match fA k with
      |none=>none
      |some l=>some [[.nd o 0 l]]
def djL : List Fm → List Cl → Option (List Cl)
  |[],out=>if 64 < out.length then none else some out
  | f :: l, out => match cls f with
    |none=>none
    |some s=>djL l (wths out s)
def cjL : List Fm → List Cl → Option (List Cl)
  |[],out=>some out
  | f :: l, out => match cls f with
    |none=>none
    |some s=>if 64 < (prd out s).length then none else cjL l (prd out s)
def fA : List Fm → Option (List Fm)
  |[]=>some []
  | f :: l => match cls f with
    |none=>none
    | some s => match fA l with
      |none=>none
      |some r=>some (fin s::r)
end
def can (f:Fm):Option Fm:=(cls f).map fin
theorem oD (f:Fm):cls f=if f.op=1 then some [[]] else if f.op=4 then (if (nth f.kids 0).op=1 then some [] else some [[f]])
    else if f.op=2∨f.op=3 then some [[f]] else if f.op=6 then djL f.kids [] else if f.op=5 then cjL f.kids [[]]
    else match fA f.kids with
      |none=>none
      |some l=>some [[.nd f.op 0 l]]:=by cases f; rw [cls]; rfl
section
variable {f:Fm} {l:List Fm} {out s:List Cl} {k:Nat}
theorem qK (h:f.op=1):cls f=some [[]]:=by rw [oD,if_pos h]
theorem qT (h:f.op=4) (h2:(nth f.kids 0).op=1):cls f=some []:=by rw [oD,if_neg (by omega),if_pos h,if_pos h2]
theorem nD (h:f.op=4) (h2: ¬(nth f.kids 0).op=1):cls f=some [[f]]:=by rw [oD,if_neg (by omega),if_pos h,if_neg h2]
theorem lN (h:f.op=2∨f.op=3):cls f=some [[f]]:=by rw [oD,if_neg (by omega),if_neg (by omega),if_pos h]
theorem nJ (h:f.op=6):cls f=djL f.kids []:=by rw [oD,if_neg (by omega),if_neg (by omega),if_neg (by omega),if_pos h]
theorem nL (h:f.op=5):cls f=cjL f.kids [[]]:=by rw [oD,if_neg (by omega),if_neg (by omega),if_neg (by omega),if_neg (by omega),if_pos h]
theorem vJ (h: ¬(f.op=1∨f.op=2∨f.op=3∨f.op=4∨f.op=5∨f.op=6)):cls f=(fA f.kids).map fun l=>[[.nd f.op 0 l]]:=by
  rw [oD,if_neg (by omega),if_neg (by omega),if_neg (by omega),if_neg (by omega),if_neg (by omega)]
  cases fA f.kids <;> rfl
theorem aF8 (h:l.length≤k):djL (l.drop k) out=if 64 < out.length then none else some out:=by rw [List.drop_eq_nil_of_le h,djL]
theorem aJ0 (h:k < l.length) (e:cls (nth l k)=none):djL (l.drop k) out=none:=by rw [cW h,djL,e]
theorem aQm (h:k < l.length) (e:cls (nth l k)=some s):djL (l.drop k) out=djL (l.drop (k+1)) (wths out s):=by rw [cW h,djL,e]
theorem aBG (h:l.length≤k):cjL (l.drop k) out=some out:=by rw [List.drop_eq_nil_of_le h,cjL]
theorem aBj (h:k < l.length) (e:cls (nth l k)=none):cjL (l.drop k) out=none:=by rw [cW h,cjL,e]
theorem aB2 (h:k < l.length) (e:cls (nth l k)=some s) (e2:64 < (prd out s).length):cjL (l.drop k) out=none:=by rw [cW h,cjL,e]; exact if_pos e2
theorem aEj (h:k < l.length) (e:cls (nth l k)=some s) (e2: ¬64 < (prd out s).length):cjL (l.drop k) out=cjL (l.drop (k+1)) (prd out s):=by rw [cW h,cjL,e]; exact if_neg e2
theorem aKT (h:l.length≤k):fA (l.drop k)=some []:=by rw [List.drop_eq_nil_of_le h,fA]
theorem aLg (h:k < l.length) (e:can (nth l k)=none):fA (l.drop k)=none:=by
  rw [cW h,fA]
  unfold can at e
  cases q:cls (nth l k) with
  |none=>rfl
  |some s=>rw [q] at e; cases e
theorem aF6 {g:Fm} (h:k < l.length) (e:can (nth l k)=some g):fA (l.drop k)=(fA (l.drop (k+1))).map fun r=>g::r:=by
  rw [cW h,fA]
  unfold can at e
  cases q:cls (nth l k) with
  |none=>rw [q] at e; cases e
  | some s =>
    rw [q] at e
    injection e with e
    subst e
    cases fA (l.drop (k+1)) <;> rfl
end
theorem tB: ∀ {l r:List Fm},fA l=some r→r.length=l.length
  |[],_,h=>by rw [fA] at h; cases h; rfl
  | f :: l, r, h => by
    rw [fA] at h
    cases q:cls f with
    |none=>rw [q] at h; cases h
    | some s =>
      rw [q] at h
      simp only at h
      cases q2:fA l with
      |none=>rw [q2] at h; cases h
      |some r'=>rw [q2] at h; cases h; simp [tB q2]
theorem nY : ∀ {l r : List Fm} {k : Nat}, fA l = some r → k < l.length → can (nth l k) = some (nth r k)
  |[],_,_,_,h=>absurd h (Nat.not_lt_zero _)
  | f :: l, r, k, h, hk => by
    rw [fA] at h
    cases q:cls f with
    |none=>rw [q] at h; cases h
    | some s =>
      rw [q] at h
      simp only at h
      cases q2:fA l with
      |none=>rw [q2] at h; cases h
      | some r' =>
        rw [q2] at h
        cases h
        cases k with
        |zero=>show (cls f).map fin=_; rw [q]; rfl
        |succ k=>exact nY (k:=k) q2 (by simpa using hk)
def atB (o:Int):Prop:=o=2∨o=3∨o=4∨o=7∨o=8∨o=9∨o=10
def AtL (s:List Cl):Prop:= ∀ c∈s,∀ x∈c,atB x.op
theorem AtL.ats {s:List Cl} (h:AtL s):AtS s:=fun c hc x hx=>by have:=h c hc x hx; unfold atB at this; omega
theorem aMP {s:List Cl} {c d:Cl} (h:d∈wth s c):d∈s∨d=c:=by
  unfold wth at h
  split at h
  · exact .inl h
  · rcases List.mem_append.1 h with h|h
    · exact .inl (List.mem_filter.1 h).1
    · exact .inr (List.mem_singleton.1 h)
theorem mL {d:Cl}: ∀ {t s:List Cl},d∈wths s t→d∈s∨d∈t
  |[],_,h=>.inl h
  | c :: t, s, h => by
    rcases mL (t:=t) (s:=wth s c) h with h|h
    · rcases aMP h with h|h
      · exact .inl h
      · rw [h]; exact .inr (List.mem_cons_self ..)
    · exact .inr (List.mem_cons_of_mem _ h)
theorem aCF {b : List Cl} {d : Cl} : ∀ {a out : List Cl}, d ∈ yW out a b → d ∈ out ∨ ∃ c ∈ a, ∃ e ∈ b, d = unF c e
  |[],_,h=>.inl h
  | c :: a, out, h => by
    rcases aCF (a:=a) (out:=prC out c b) h with h|⟨c',h1,e,h2,h3⟩
    · rcases mL h with h|h
      · exact .inl h
      · obtain ⟨e,he,rfl⟩:=List.mem_map.1 h
        exact .inr ⟨c,List.mem_cons_self ..,e,he,rfl⟩
    · exact .inr ⟨c',List.mem_cons_of_mem _ h1,e,h2,h3⟩
theorem aFP {a b:List Cl} {d:Cl} (h:d∈prd a b): ∃ c∈a,∃ e∈b,d=unF c e:=by
  rcases aCF (out:=[]) h with h|h
  · exact absurd h List.not_mem_nil
  · exact h
def eU (p:Fm→Prop) (s:List Cl):Prop:= ∀ c∈s,∀ x∈c,p x
theorem eU.wths {p:Fm→Prop} {s t:List Cl} (hs:eU p s) (ht:eU p t):eU p (wths s t):=fun c hc=>by
  rcases mL hc with h|h
  · exact hs c h
  · exact ht c h
theorem eU.prd {p:Fm→Prop} {s t:List Cl} (hs:eU p s) (ht:eU p t):eU p (prd s t):=fun c hc x hx=>by
  obtain ⟨d,hd,e,he,rfl⟩:=aFP hc
  rcases nA.1 hx with q|q
  · exact hs d hd x q
  · exact ht e he x q
structure GdS (s:List Cl):Prop where
  ant:Ant s
  at_:AtL s
  len:s.length≤64
theorem aCB: ∀ {l:List Fm} {out s:List Cl},(∀ k,k < l.length→ ∀ t,cls (nth l k)=some t→GdS t)→Ant out→AtL out→djL l out=some s→GdS s
  | [], out, s, _, h1, h2, h => by
    rw [djL] at h
    split at h
    · cases h
    · cases h; exact ⟨h1,h2,by omega⟩
  | f :: l, out, s, hk, h1, h2, h => by
    rw [djL] at h
    cases q:cls f with
    |none=>rw [q] at h; cases h
    | some t =>
      rw [q] at h
      have g:=hk 0 (by simp) t q
      exact aCB (fun k hl t ht=>hk (k+1) (by simpa using hl) t ht) (nW h1 g.ant.srt) (eU.wths h2 g.at_) h
theorem aDe : ∀ {l : List Fm} {out s : List Cl}, (∀ k, k < l.length → ∀ t, cls (nth l k) = some t → GdS t) → GdS out → cjL l out = some s → GdS s
  |[],out,s,_,h1,h=>by rw [cjL] at h; cases h; exact h1
  | f :: l, out, s, hk, h1, h => by
    rw [cjL] at h
    cases q:cls f with
    |none=>rw [q] at h; cases h
    | some t =>
      rw [q] at h
      simp only at h
      split at h
      · cases h
      · rename_i hl
        have g:=hk 0 (by simp) t q
        exact aDe (fun k hl t ht=>hk (k+1) (by simpa using hl) t ht) ⟨aFD h1.ant,eU.prd h1.at_ g.at_,by omega⟩ h
theorem zZ {x:Fm} (h:atB x.op):GdS [[x]]:=⟨Ant.one (List.pairwise_singleton _ _),fun c hc y hy=>by rw [List.mem_singleton.1 hc] at hy; rw [List.mem_singleton.1 hy]; exact h,by simp⟩
theorem tT:GdS [[]]:=⟨Ant.one List.Pairwise.nil,fun c hc y hy=>by rw [List.mem_singleton.1 hc] at hy; exact absurd hy List.not_mem_nil,by simp⟩
theorem jS (f:Fm):okF f=true→ ∀ s,cls f=some s→GdS s:=by
  refine gC (p:=fun f=>okF f=true→ ∀ s,cls f=some s→GdS s) (fun f ih hf s hs=>?_) f
  obtain ⟨hr,hk⟩:=bP hf
  obtain ⟨r1,r2,_⟩:=dE hr
  have K: ∀ k,k < f.kids.length→ ∀ t,cls (nth f.kids k)=some t→GdS t:=fun k h=>ih k h (hk k h)
  by_cases h1:f.op=1
  · rw [qK h1] at hs; cases hs; exact tT
  by_cases h4:f.op=4
  · by_cases q:(nth f.kids 0).op=1
    · rw [qT h4 q] at hs; cases hs; exact ⟨Ant.nil,fun c hc=>absurd hc List.not_mem_nil,by simp⟩
    · rw [nD h4 q] at hs; cases hs; exact zZ (by unfold atB; omega)
  by_cases h23:f.op=2∨f.op=3
  · rw [lN h23] at hs; cases hs; exact zZ (by unfold atB; omega)
  by_cases h6:f.op=6
  · rw [nJ h6] at hs; exact aCB K Ant.nil (fun c hc=>absurd hc List.not_mem_nil) hs
  by_cases h5:f.op=5
  · rw [nL h5] at hs; exact aDe K tT hs
  rw [vJ (by omega)] at hs
  cases q:fA f.kids with
  |none=>rw [q] at hs; cases hs
  |some l=>rw [q] at hs; cases hs; exact zZ (show atB f.op by unfold atB; omega)
mutual
def evF (S : Fm → Bool) : Fm → Bool
  | .nd o a k => if o = 1 then true else if o = 4 then (if (nth k 0).op = 1 then false else S (.nd o a k)) else if o = 2 ∨ o = 3 then S (.nd o a k)
    else if o=6 then sV S k else if o=5 then tE S k else S (.nd o 0 ((fA k).getD []))
def sV (S:Fm→Bool):List Fm→Bool
  |[]=>false
  |f::l=>evF S f||sV S l
def tE (S:Fm→Bool):List Fm→Bool
  |[]=>true
  |f::l=>evF S f&&tE S l
end
theorem uU (S:Fm→Bool) (f:Fm):evF S f=if f.op=1 then true else if f.op=4 then (if (nth f.kids 0).op=1 then false else S f) else if f.op=2∨f.op=3 then S f
    else if f.op=6 then sV S f.kids else if f.op=5 then tE S f.kids else S (.nd f.op 0 ((fA f.kids).getD [])):=by cases f; rw [evF]; rfl
theorem uL (S:Fm→Bool): ∀ l:List Fm,sV S l=l.any (evF S)
  |[]=>by rw [sV]; rfl
  |f::l=>by rw [sV,uL S l]; rfl
theorem pR (S:Fm→Bool): ∀ l:List Fm,tE S l=l.all (evF S)
  |[]=>by rw [tE]; rfl
  |f::l=>by rw [tE,pR S l]; rfl
theorem aKX {S:Fm→Bool}: ∀ {l:List Fm} {out s:List Cl},(∀ k,k < l.length→ ∀ t,cls (nth l k)=some t→evS S t=evF S (nth l k))→djL l out=some s→evS S s=(evS S out||sV S l)
  | [], out, s, _, h => by
    rw [djL] at h
    split at h
    · cases h
    · cases h; rw [sV,Bool.or_false]
  | f :: l, out, s, hk, h => by
    rw [djL] at h
    cases q:cls f with
    |none=>rw [q] at h; cases h
    | some t =>
      rw [q] at h
      have g:=hk 0 (by simp) t q
      rw [aKX (fun k hl t ht=>hk (k+1) (by simpa using hl) t ht) h,yL,g,sV,Bool.or_assoc]; rfl
theorem aD1 {S : Fm → Bool} : ∀ {l : List Fm} {out s : List Cl}, (∀ k, k < l.length → ∀ t, cls (nth l k) = some t → evS S t = evF S (nth l k)) → cjL l out = some s → evS S s = (evS S out && tE S l)
  |[],out,s,_,h=>by rw [cjL] at h; cases h; rw [tE,Bool.and_true]
  | f :: l, out, s, hk, h => by
    rw [cjL] at h
    cases q:cls f with
    |none=>rw [q] at h; cases h
    | some t =>
      rw [q] at h
      simp only at h
      split at h
      · cases h
      · have g:=hk 0 (by simp) t q
        rw [aD1 (fun k hl t ht=>hk (k+1) (by simpa using hl) t ht) h,aLa,g,tE,Bool.and_assoc]; rfl
theorem aBT (S:Fm→Bool) (f:Fm):okF f=true→ ∀ s,cls f=some s→evS S s=evF S f:=by
  refine gC (p:=fun f=>okF f=true→ ∀ s,cls f=some s→evS S s=evF S f) (fun f ih hf s hs=>?_) f
  obtain ⟨hr,hk⟩:=bP hf
  have K: ∀ k,k < f.kids.length→ ∀ t,cls (nth f.kids k)=some t→evS S t=evF S (nth f.kids k):=fun k h=>ih k h (hk k h)
  have one: ∀ x:Fm,evS S [[x]]=S x:=fun x=>by simp [evS,evC]
  rw [uU]
  by_cases h1:f.op=1
  · rw [qK h1] at hs; cases hs; rw [if_pos h1]; rfl
  rw [if_neg h1]
  by_cases h4:f.op=4
  · rw [if_pos h4]
    by_cases q:(nth f.kids 0).op=1
    · rw [qT h4 q] at hs; cases hs; rw [if_pos q]; rfl
    · rw [nD h4 q] at hs; cases hs; rw [if_neg q]; exact one f
  rw [if_neg h4]
  by_cases h23:f.op=2∨f.op=3
  · rw [lN h23] at hs; cases hs; rw [if_pos h23]; exact one f
  rw [if_neg h23]
  by_cases h6:f.op=6
  · rw [nJ h6] at hs; rw [if_pos h6,aKX K hs]; rfl
  rw [if_neg h6]
  by_cases h5:f.op=5
  · rw [nL h5] at hs; rw [if_pos h5,aD1 K hs]; rfl
  rw [if_neg h5]
  rw [vJ (by omega)] at hs
  cases q:fA f.kids with
  |none=>rw [q] at hs; cases hs
  |some l=>rw [q] at hs; cases hs; exact one _
end Go.Proofs.YteehaobohaecmaaGreatDoor
namespace Go.Proofs.YteehaobohaecmaaGreatDoor
open Go
theorem aJD {α:Type} {p:α→Bool} {l m:List α} (h:l.Perm m):l.any p=m.any p:=gE (by
  rw [List.any_eq_true,List.any_eq_true]
  exact ⟨fun ⟨x,hx,e⟩=>⟨x,h.mem_iff.1 hx,e⟩,fun ⟨x,hx,e⟩=>⟨x,h.mem_iff.2 hx,e⟩⟩)
theorem kG (s:List Cl):(s=[]∧fin s=noF)∨([]∈s∧fin s=aEO)∨(∃ c,c≠[]∧s=[c]∧fin s=clF c)∨(2≤s.length∧[]∉s∧fin s=.nd 6 0 (sF (s.map clF))):=by
  unfold fin
  by_cases h0:s.length=0
  · exact .inl ⟨List.length_eq_zero_iff.1 h0,if_pos h0⟩
  rw [if_neg h0]
  by_cases h1:s.any (fun c=>decide (c.length=0))=true
  · refine .inr (.inl ⟨?_,if_pos h1⟩)
    obtain ⟨c,hc,e⟩:=List.any_eq_true.1 h1
    rw [List.length_eq_zero_iff.1 (of_decide_eq_true e)] at hc; exact hc
  rw [if_neg h1]
  have hn:[]∉s:=fun q=>h1 (List.any_eq_true.2 ⟨[],q,rfl⟩)
  by_cases h2:s.length=1
  · obtain ⟨c,rfl⟩:=List.length_eq_one_iff.1 h2
    exact .inr (.inr (.inl ⟨c,fun e=>hn (by rw [e]; exact List.mem_singleton.2 rfl),rfl,if_pos h2⟩))
  · exact .inr (.inr (.inr ⟨by omega,hn,if_neg h2⟩))
theorem aFt {v:Fm→Bool} (h1:v aEO=true) (h0:v noF=false) (h5: ∀ l,v (.nd 5 0 l)=l.all v) (h6: ∀ l,v (.nd 6 0 l)=l.any v) (s:List Cl):v (fin s)=evS v s:=by
  have hc: ∀ c:Cl,c≠[]→v (clF c)=evC v c:=fun c hc=>by
    unfold clF
    split
    · rename_i q
      obtain ⟨x,rfl⟩:=List.length_eq_one_iff.1 q
      simp [evC]
      rfl
    · exact h5 c
  rcases kG s with ⟨rfl,e⟩|⟨hm,e⟩|⟨c,hne,rfl,e⟩|⟨h2,hn,e⟩
  · rw [e,h0]; rfl
  · rw [e,h1]; exact (gM.2 ⟨[],hm,rfl⟩).symm
  · rw [e,hc c hne]; simp [evS]
  · rw [e,h6,aJD (jA bY _),List.any_map]
    refine gE ?_
    rw [List.any_eq_true]
    unfold evS
    rw [List.any_eq_true]
    constructor
    · rintro ⟨c,h,q⟩; exact ⟨c,h,by rw [← hc c (fun k=>hn (k ▸ h))]; exact q⟩
    · rintro ⟨c,h,q⟩; exact ⟨c,h,by show v (clF c)=true; rw [hc c (fun k=>hn (k ▸ h))]; exact q⟩
theorem aGp (t:Tr) (i:Nat) (s:List Cl):sat t (fin s) i=evS (fun x=>sat t x i) s:=by
  refine aFt (v:=fun x=>sat t x i) (by rw [cH]; rfl) (by rw [cH]; rfl) (fun l=>?_) (fun l=>?_) s
  · show sat t (.nd 5 0 l) i=_
    rw [cH]; show List.all _ _=_; rw [List.all_map]; rfl
  · show sat t (.nd 6 0 l) i=_
    rw [cH]; show List.any _ _=_; rw [List.any_map]; rfl
theorem aDp: ∀ {l:List Fm} {out s:List Cl},djL l out=some s→ ∀ k,k < l.length→ ∃ t,cls (nth l k)=some t
  |[],_,_,_,k,h=>absurd h (Nat.not_lt_zero k)
  | f :: l, out, s, h, k, hk => by
    rw [djL] at h
    cases q:cls f with
    |none=>rw [q] at h; cases h
    | some t =>
      rw [q] at h
      cases k with
      |zero=>exact ⟨t,q⟩
      |succ k=>exact aDp (k:=k) h (by simpa using hk)
theorem aDP : ∀ {l : List Fm} {out s : List Cl}, cjL l out = some s → ∀ k, k < l.length → ∃ t, cls (nth l k) = some t
  |[],_,_,_,k,h=>absurd h (Nat.not_lt_zero k)
  | f :: l, out, s, h, k, hk => by
    rw [cjL] at h
    cases q:cls f with
    |none=>rw [q] at h; cases h
    | some t =>
      rw [q] at h
      simp only at h
      split at h
      · cases h
      · cases k with
        |zero=>exact ⟨t,q⟩
        |succ k=>exact aDP (k:=k) h (by simpa using hk)
theorem aBE {p q:Fm→Bool} {l:List Fm} (h: ∀ k,k < l.length→p (nth l k)=q (nth l k)):l.any p=l.any q:=by
  refine gE ?_
  rw [List.any_eq_true,List.any_eq_true]
  constructor <;> rintro ⟨x,hx,e⟩ <;> obtain ⟨j,hj,rfl⟩:=dY hx
  · exact ⟨_,hx,by rw [← h j hj]; exact e⟩
  · exact ⟨_,hx,by rw [h j hj]; exact e⟩
theorem aBw {p q:Fm→Bool} {l:List Fm} (h: ∀ k,k < l.length→p (nth l k)=q (nth l k)):l.all p=l.all q:=by
  refine gE ?_
  rw [List.all_eq_true,List.all_eq_true]
  constructor <;> intro g x hx <;> obtain ⟨j,hj,rfl⟩:=dY hx
  · rw [← h j hj]; exact g _ hx
  · rw [h j hj]; exact g _ hx
theorem aPL (t:Tr) (f:Fm):okF f=true→ ∀ s,cls f=some s→ ∀ i,evF (fun x=>sat t x i) f=sat t f i:=by
  refine gC (p:=fun f=>okF f=true→ ∀ s,cls f=some s→ ∀ i,evF (fun x=>sat t x i) f=sat t f i) (fun f ih hf s hs i=>?_) f
  obtain ⟨hr,hk⟩:=bP hf
  obtain ⟨r1,r2,r3,r4,r5,r6,r7,r8,r9⟩:=dE hr
  rw [uU]
  by_cases h1:f.op=1
  · rw [if_pos h1,cH,h1]; rfl
  rw [if_neg h1]
  by_cases h4:f.op=4
  · rw [if_pos h4]
    by_cases q:(nth f.kids 0).op=1
    · rw [if_pos q,cH,h4]
      show _= !(nth (f.kids.map (sat t)) 0 i)
      rw [fT (by have:=r4 (.inl h4); omega),cH,q]; rfl
    · rw [if_neg q]
  rw [if_neg h4]
  by_cases h23:f.op=2∨f.op=3
  · rw [if_pos h23]
  rw [if_neg h23]
  by_cases h6:f.op=6
  · rw [nJ h6] at hs
    rw [if_pos h6,uL,cH,h6]
    show _=List.any _ _
    rw [List.any_map]
    exact aBE fun k h=>by obtain ⟨u,hu⟩:=aDp hs k h; exact ih k h (hk k h) u hu i
  rw [if_neg h6]
  by_cases h5:f.op=5
  · rw [nL h5] at hs
    rw [if_pos h5,pR,cH,h5]
    show _=List.all _ _
    rw [List.all_map]
    exact aBw fun k h=>by obtain ⟨u,hu⟩:=aDP hs k h; exact ih k h (hk k h) u hu i
  rw [if_neg h5]
  rw [vJ (by omega)] at hs
  cases q:fA f.kids with
  |none=>rw [q] at hs; cases hs
  | some l =>
    have hl:=tB q
    rw [Option.getD_some,cH,cH t f,r7 (by omega)]
    show mQ t f.op 0 (l.map (sat t)) i=_
    congr 1
    refine List.ext_getElem (by simpa using hl) fun k p1 p2=>?_
    rw [List.length_map] at p1 p2
    rw [List.getElem_map,List.getElem_map,bR p1,bR p2]
    have hc:=nY q p2
    unfold can at hc
    cases q2:cls (nth f.kids k) with
    |none=>rw [q2] at hc; cases hc
    | some u =>
      rw [q2] at hc
      injection hc with hc
      rw [← hc]
      funext j
      rw [aGp,aBT _ _ (hk k p2) u q2]
      exact ih k p2 (hk k p2) u q2 j
theorem aGE {t:Tr} {f g:Fm} (hf:okF f=true) (h:can f=some g) (i:Nat):sat t g i=sat t f i:=by
  unfold can at h
  cases q:cls f with
  |none=>rw [q] at h; cases h
  | some s =>
    rw [q] at h
    injection h with h
    rw [← h,aGp,aBT _ _ hf s q]
    exact aPL t f hf s q i
structure CA (x:Fm):Prop where
  ok:okF x=true
  nn:nnf x=true
  sh:(x.op=2∨x.op=3)∨(x.op=4∧(nth x.kids 0).op≠1)∨((x.op=7∨x.op=8∨x.op=9∨x.op=10)∧fA x.kids=some x.kids)
theorem CA.at_ {x:Fm} (h:CA x):atB x.op:=by
  unfold atB
  rcases h.sh with h|⟨h,_⟩|⟨h,_⟩ <;> omega
theorem CA.cls {x:Fm} (h:CA x):cls x=some [[x]]:=by
  rcases h.sh with q|⟨q,q2⟩|⟨q,q2⟩
  · exact lN q
  · exact nD q q2
  · rw [vJ (by omega),q2]
    have ha:x.arg=0:=(dE (bP h.ok).1).2.2.2.2.2.2.1 (by omega)
    have e:Fm.nd x.op 0 x.kids=x:=by rw [← ha]; exact x.eta
    show some [[Fm.nd x.op 0 x.kids]]=_
    rw [e]
theorem CA.ev {x:Fm} (h:CA x) (S:Fm→Bool):evF S x=S x:=by
  have:=aBT S x h.ok _ h.cls
  rw [← this]; simp [evS,evC]
theorem rY {s:List Cl} (ha:eU CA s):okF (fin s)=true∧nnf (fin s)=true:=by
  have hcl: ∀ c∈s,c≠[]→okF (clF c)=true∧nnf (clF c)=true∧(clF c).op≠1:=fun c hc hne=>by
    unfold clF
    split
    · rename_i q
      have hm:nth c 0∈c:=dJ (by omega)
      have:=(ha c hc _ hm).at_
      exact ⟨(ha c hc _ hm).ok,(ha c hc _ hm).nn,by unfold atB at this; omega⟩
    · rename_i q
      have hl:c.length≠0:=fun e=>hne (List.length_eq_zero_iff.1 e)
      refine ⟨uK (.inr (.inr ⟨.inl rfl,by omega⟩)) (List.all_eq_true.2 fun x hx=>(ha c hc x hx).ok),rB fun k hk=>⟨fun e=>absurd (show (5:Int)=4 from e) (by decide),?_⟩,(by decide:(5:Int)≠1)⟩
      exact (ha c hc _ (dJ hk)).nn
  rcases kG s with ⟨rfl,e⟩|⟨hm,e⟩|⟨c,hne,rfl,e⟩|⟨h2,hn,e⟩
  · rw [e]; exact ⟨by decide+kernel,by decide+kernel⟩
  · rw [e]; exact ⟨by decide+kernel,by decide+kernel⟩
  · rw [e]; exact ⟨(hcl c (List.mem_singleton.2 rfl) hne).1,(hcl c (List.mem_singleton.2 rfl) hne).2.1⟩
  · rw [e]
    have hl:(sF (s.map clF)).length=s.length:=by rw [aD4,List.length_map]
    have hk: ∀ x∈sF (s.map clF),okF x=true∧nnf x=true:=fun x hx=>by
      obtain ⟨c,hc,rfl⟩:=List.mem_map.1 (oT.1 hx)
      have:=hcl c hc (fun k=>hn (k ▸ hc))
      exact ⟨this.1,this.2.1⟩
    refine ⟨uK (.inr (.inr ⟨.inr rfl,by omega⟩)) (List.all_eq_true.2 fun x hx=>(hk x hx).1),rB fun k hk2=>⟨fun e=>absurd (show (6:Int)=4 from e) (by decide),(hk _ (dJ hk2)).2⟩⟩
theorem aKx: ∀ {l:List Fm} {out:List Cl},(∀ k,k < l.length→ ∃ c,cls (nth l k)=some [c])→out.length+l.length≤64→ ∃ s,djL l out=some s
  |[],out,_,h=>⟨out,by rw [djL,if_neg (by simpa using h)]⟩
  | f :: l, out, hk, h => by
    obtain ⟨c,hc⟩:=hk 0 (by simp)
    have h1:=oE [c] out
    have e:cls f=some [c]:=hc
    obtain ⟨s,hs⟩:=aKx (l:=l) (out:=wths out [c]) (fun k hl=>hk (k+1) (by simpa using hl)) (by simp only [List.length_cons,List.length_nil] at h h1; omega)
    exact ⟨s,by rw [djL,e]; exact hs⟩
theorem aKq: ∀ {l:List Fm} {out:List Cl},(∀ k,k < l.length→ ∃ c,cls (nth l k)=some [c])→out.length≤1→ ∃ s,cjL l out=some s∧s.length≤1
  |[],out,_,h=>⟨out,by rw [cjL],h⟩
  | f :: l, out, hk, h => by
    obtain ⟨c,hc⟩:=hk 0 (by simp)
    have h1:(prd out [c]).length≤0+out.length*1:=rS [c] out []
    have e:cls f=some [c]:=hc
    obtain ⟨s,hs,hl⟩:=aKq (l:=l) (out:=prd out [c]) (fun k hl=>hk (k+1) (by simpa using hl)) (by omega)
    exact ⟨s,by rw [cjL,e]; show (if _ then _ else _)=_; rw [if_neg (by omega)]; exact hs,hl⟩
theorem aGI {c:Cl} (hc:gO c) (ha: ∀ x∈c,CA x) (hne:c≠[]): ∃ d,cls (clF c)=some [d]:=by
  have hl:c.length≠0:=fun e=>hne (List.length_eq_zero_iff.1 e)
  by_cases q:c.length=1
  · unfold clF
    rw [if_pos q]
    exact ⟨_,(ha _ (dJ (show 0 < c.length by omega))).cls⟩
  · have e:clF c=.nd 5 0 c:=if_neg q
    obtain ⟨s,hs,hl2⟩:=aKq (l:=c) (out:=[[]]) (fun k hk=>⟨_,(ha _ (dJ hk)).cls⟩) (by simp)
    rw [e,nL rfl]
    show ∃ d,cjL c [[]]=some [d]
    rw [hs]
    match s,hl2 with
    |[d],_=>exact ⟨d,rfl⟩
    | [], _ =>
      exfalso
      have h1:=aD1 (S:=fun _=>true) (fun k hk t ht=>by rw [(ha _ (dJ hk)).cls] at ht; cases ht; rw [(ha _ (dJ hk)).ev]; simp [evS,evC]) hs
      rw [pR] at h1
      have h2:c.all (evF fun _=>true)=true:=List.all_eq_true.2 fun x hx=>(ha x hx).ev _
      rw [h2] at h1
      cases h1
theorem aTt {s : List Cl} (hs : GdS s) (ha : eU CA s) : can (fin s) = some (fin s) := by
  obtain ⟨hok,_⟩:=rY ha
  have hsome: ∃ u,cls (fin s)=some u:=by
    rcases kG s with ⟨rfl,e⟩|⟨hm,e⟩|⟨c,hne,rfl,e⟩|⟨h2,hn,e⟩
    · rw [e]; exact ⟨[],qT rfl rfl⟩
    · rw [e]; exact ⟨[[]],qK rfl⟩
    · rw [e]
      obtain ⟨d,hd⟩:=aGI (hs.ant.srt c (List.mem_singleton.2 rfl)) (ha c (List.mem_singleton.2 rfl)) hne
      exact ⟨_,hd⟩
    · rw [e,nJ rfl]
      refine aKx (fun k hk=>?_) ?_
      · obtain ⟨c,hc,e2⟩:=List.mem_map.1 (oT.1 (dJ hk))
        show ∃ c,cls (nth (sF (s.map clF)) k)=some [c]
        rw [show nth (sF (s.map clF)) k=clF c from e2.symm]
        exact aGI (hs.ant.srt c hc) (ha c hc) fun q=>hn (q ▸ hc)
      · show 0+(sF (s.map clF)).length≤64
        rw [aD4,List.length_map]; have:=hs.len; omega
  obtain ⟨u,hu⟩:=hsome
  have gu:=jS _ hok u hu
  have he: ∀ S,evS S u=evS S s:=fun S=>by
    rw [aBT S _ hok u hu]
    have:=aFt (v:=evF S) (by rw [uU]; rfl) (by rw [uU]; rfl) (fun l=>by rw [uU]; exact pR S l) (fun l=>by rw [uU]; exact uL S l) s
    rw [this]
    refine gE ?_
    rw [gM,gM]
    constructor <;> rintro ⟨c,hc,q⟩ <;> refine ⟨c,hc,lG.2 fun x hx=>?_⟩
    · have:=lG.1 q x hx; rwa [(ha c hc x hx).ev] at this
    · rw [(ha c hc x hx).ev]; exact lG.1 q x hx
  unfold can
  rw [hu]
  show some (fin u)=_
  rw [aIx (aJ5 gu.ant hs.ant he) gu.ant hs.ant gu.at_.ats]
theorem aJ3: ∀ {l:List Fm} {out s:List Cl},(∀ k,k < l.length→ ∀ t,cls (nth l k)=some t→eU CA t)→eU CA out→djL l out=some s→eU CA s
  | [], out, s, _, h1, h => by
    rw [djL] at h
    split at h
    · cases h
    · cases h; exact h1
  | f :: l, out, s, hk, h1, h => by
    rw [djL] at h
    cases q:cls f with
    |none=>rw [q] at h; cases h
    | some t =>
      rw [q] at h
      exact aJ3 (fun k hl t ht=>hk (k+1) (by simpa using hl) t ht) (eU.wths h1 (hk 0 (by simp) t q)) h
theorem aKM: ∀ {l:List Fm} {out s:List Cl},(∀ k,k < l.length→ ∀ t,cls (nth l k)=some t→eU CA t)→eU CA out→cjL l out=some s→eU CA s
  |[],out,s,_,h1,h=>by rw [cjL] at h; cases h; exact h1
  | f :: l, out, s, hk, h1, h => by
    rw [cjL] at h
    cases q:cls f with
    |none=>rw [q] at h; cases h
    | some t =>
      rw [q] at h
      simp only at h
      split at h
      · cases h
      · exact aKM (fun k hl t ht=>hk (k+1) (by simpa using hl) t ht) (eU.prd h1 (hk 0 (by simp) t q)) h
theorem eC {f:Fm} (h:nnf f=true) {k:Nat} (hk:k < f.kids.length):nnf (nth f.kids k)=true∧(f.op=4→(nth f.kids k).op≤3):=by
  rw [aKi,List.all_eq_true] at h
  have:=h _ (dJ hk)
  rw [Bool.not_eq_true',Bool.or_eq_false_iff,Bool.not_eq_false',decide_eq_false_iff_not] at this
  exact ⟨this.2,by have:=this.1; omega⟩
theorem aBF {x:Fm} (h:CA x):eU CA [[x]]:=fun c hc y hy=>by rw [List.mem_singleton.1 hc] at hy; rw [List.mem_singleton.1 hy]; exact h
theorem aBl (f : Fm) : okF f = true → nnf f = true → ∀ s, cls f = some s → eU CA s := by
  refine gC (p:=fun f=>okF f=true→nnf f=true→ ∀ s,cls f=some s→eU CA s) (fun f ih hf hn s hs=>?_) f
  obtain ⟨hr,hk⟩:=bP hf
  obtain ⟨r1,r2,r3,r4,r5,r6,r7,r8,r9⟩:=dE hr
  have K: ∀ k,k < f.kids.length→ ∀ t,cls (nth f.kids k)=some t→eU CA t:=fun k h=>ih k h (hk k h) (eC hn h).1
  by_cases h1:f.op=1
  · rw [qK h1] at hs; cases hs; exact fun c hc x hx=>by rw [List.mem_singleton.1 hc] at hx; exact absurd hx List.not_mem_nil
  by_cases h4:f.op=4
  · by_cases q:(nth f.kids 0).op=1
    · rw [qT h4 q] at hs; cases hs; exact fun c hc=>absurd hc List.not_mem_nil
    · rw [nD h4 q] at hs; cases hs; exact aBF ⟨hf,hn,.inr (.inl ⟨h4,q⟩)⟩
  by_cases h23:f.op=2∨f.op=3
  · rw [lN h23] at hs; cases hs; exact aBF ⟨hf,hn,.inl h23⟩
  by_cases h6:f.op=6
  · rw [nJ h6] at hs; exact aJ3 K (fun c hc=>absurd hc List.not_mem_nil) hs
  by_cases h5:f.op=5
  · rw [nL h5] at hs; exact aKM K (fun c hc x hx=>by rw [List.mem_singleton.1 hc] at hx; exact absurd hx List.not_mem_nil) hs
  rw [vJ (by omega)] at hs
  cases q:fA f.kids with
  |none=>rw [q] at hs; cases hs
  | some l =>
    rw [q] at hs
    cases hs
    have hl:=tB q
    have kid: ∀ k,k < l.length→okF (nth l k)=true∧nnf (nth l k)=true∧can (nth l k)=some (nth l k):=fun k h=>by
      have hc:=nY q (k:=k) (by omega)
      unfold can at hc
      cases q2:cls (nth f.kids k) with
      |none=>rw [q2] at hc; cases hc
      | some u =>
        rw [q2] at hc
        injection hc with hc
        have ca:=K k (by omega) u q2
        rw [← hc]
        exact ⟨(rY ca).1,(rY ca).2,aTt (jS _ (hk k (by omega)) u q2) ca⟩
    refine aBF ⟨uK ?_ (List.all_eq_true.2 fun x hx=>by obtain ⟨j,hj,rfl⟩:=dY hx; exact (kid j hj).1),rB fun k h=>⟨fun e=>absurd (show f.op=4 from e) h4,(kid k h).2.1⟩,.inr (.inr ⟨show f.op=7∨f.op=8∨f.op=9∨f.op=10 by omega,?_⟩)⟩
    · rw [hl]
      by_cases a:f.op=7∨f.op=9
      · exact .inl ⟨.inr a,r4 (by omega)⟩
      · exact .inr (.inl ⟨by omega,r6 (by omega)⟩)
    · show fA l=some l
      have key: ∀ m:List Fm,(∀ k,k < m.length→can (nth m k)=some (nth m k))→fA m=some m:=by
        intro m
        induction m with
        |nil=>intro _; rw [fA]
        | cons g m ihm =>
          intro h
          have h0:can g=some g:=h 0 (by simp)
          have:=aF6 (l:=g::m) (k:=0) (by simp) h0
          rw [List.drop_zero] at this
          rw [this]
          show (fA m).map _=_
          rw [ihm fun k hk=>h (k+1) (by simpa using hk)]; rfl
      exact key l fun k h=>(kid k h).2.2
theorem aRP (g : Fm) : okF g = true → nnf g = true → nrm g false = g := by
  refine gC (p:=fun g=>okF g=true→nnf g=true→nrm g false=g) (fun g ih hg hn=>?_) g
  obtain ⟨hr,hk⟩:=bP hg
  obtain ⟨r1,r2,r3,r4,r5,r6,r7,r8,r9⟩:=dE hr
  by_cases h4:g.op=4
  · have hl:=r4 (.inl h4)
    have h3:=(eC hn (k:=0) (by omega)).2 h4
    have hrk:=(bP (hk 0 (by omega))).1
    rw [jM h4 (by omega)]
    have hz:(nth g.kids 0).kids.length=0:=by
      obtain ⟨q1,q2,q3,_⟩:=dE hrk
      exact q3 (by omega)
    rw [show (!false)=true from rfl,zR (by omega) hz]
    have e:g.kids=[nth g.kids 0]:=by
      match hq:g.kids,hl with
      |[a],_=>rfl
    have ha:=r7 (by omega)
    rw [← e,← h4,← ha]; exact g.eta
  · rcases opK hr with ⟨h0,_⟩|⟨h0,ha,_⟩
    · exact yO h4 h0
    · rw [cS h4 h0]
      have e:(g.kids.map fun k=>nrm k false)=g.kids:=by
        rw [aTv (q:=id) fun k h=>ih k h (hk k h) (eC hn h).1]; simp
      rw [e,← ha]; exact g.eta
structure Canon (g:Fm):Prop where
  ok:okF g=true
  nn:nnf g=true
  id:can g=some g
theorem pH {f g:Fm} (hf:okF f=true) (hn:nnf f=true) (h:can f=some g):Canon g:=by
  unfold can at h
  cases q:cls f with
  |none=>rw [q] at h; cases h
  | some s =>
    rw [q] at h
    injection h with h
    have ca:=aBl f hf hn s q
    rw [← h]
    exact ⟨(rY ca).1,(rY ca).2,aTt (jS f hf s q) ca⟩
end Go.Proofs.YteehaobohaecmaaGreatDoor
namespace Go.Proofs.YteehaobohaecmaaGreatDoor
open Go
abbrev fmV (f:Fm):V:=.agg [iV f.op,iV f.arg,.sl (f.kids.map cF)]
end Go.Proofs.YteehaobohaecmaaGreatDoor
namespace Go.Proofs.YteehaobohaecmaaGreatDoor
open Go
theorem aB3: ∀ {l:List Fm} {k:Nat},k < l.length→dp (nth l k)≤dpL l
  |[],k,h=>absurd h (Nat.not_lt_zero k)
  |f::l,0,_=>by rw [dpL]; exact Nat.le_max_left _ _
  |f::l,k+1,h=>by rw [dpL]; exact Nat.le_trans (aB3 (l:=l) (k:=k) (by simpa using h)) (Nat.le_max_right _ _)
theorem aP9 {f:Fm} {k:Nat} (h:k < f.kids.length):dp (nth f.kids k)+1≤dp f:=by
  cases f with
  |nd o a l=>rw [dp]; exact Nat.succ_le_succ (aB3 h)
theorem aSf {α:Type} [Inhabited α] {l:List α} (h:l.length=1):l=[nth l 0]:=by
  match l,h with
  |[a],_=>rfl
end Go.Proofs.YteehaobohaecmaaGreatDoor
namespace Go.Proofs.YteehaobohaecmaaGreatDoor
open Go
mutual
theorem aD0 : ∀ (f : Fm) (lv b : Int), okF f = true → lv + dp f ≤ 65 → (exm f lv b).2 = 0 ∨ (exm f lv b).2 = 11
  | .nd o a k, lv, b, h, hd => by
    rw [okF,Bool.and_eq_true,decide_eq_true_eq] at h
    rw [dp] at hd
    rw [exm]
    split
    · exact .inr rfl
    · split
      · omega
      · split
        · rename_i q; exact absurd h.1 q
        · exact aAy k _ _ h.2 (by omega)
theorem aAy: ∀ (l:List Fm) (lv n:Int),okL l=true→lv+dpL l≤65→(jO l lv n).2=0∨(jO l lv n).2=11
  |[],_,_,_,_=>.inl rfl
  | f :: l, lv, n, h, hd => by
    rw [okL,Bool.and_eq_true] at h
    rw [dpL] at hd
    rw [jO]
    split
    · exact aD0 f lv n h.1 (by omega)
    · exact aAy l _ _ h.2 (by omega)
end
theorem aG5 {f:Fm} (h:okF f=true) (hd:dp f≤64):cX f=0∨cX f=11:=aD0 f 1 0 h (by omega)
theorem aBS: ∀ {l:List Fm} {n:Nat},(∀ x∈l,dp x≤n)→dpL l≤n
  |[],_,_=>by rw [dpL]; exact Nat.zero_le _
  | f :: l, n, h => by
    rw [dpL]
    have h1:=h f (List.mem_cons_self ..)
    have h2:=aBS (l:=l) fun x hx=>h x (List.mem_cons_of_mem _ hx)
    omega
theorem aIv {l:List Fm} {x:Fm} (h:x∈l):dp x≤dpL l:=by
  obtain ⟨j,hj,rfl⟩:=dY h
  exact aB3 hj
abbrev DA (D:Nat) (x:Fm):Prop:=dp x≤D
theorem aJY {s:List Cl} {D:Nat} (h:eU (DA D) s):dp (fin s)≤D+2:=by
  have hc: ∀ c∈s,dp (clF c)≤D+1:=fun c hc=>by
    unfold clF
    split
    · rename_i q; have:=h c hc _ (dJ (show 0 < c.length by omega)); unfold DA at this; omega
    · rw [dp]; have:=aBS (l:=c) (n:=D) fun x hx=>h c hc x hx; omega
  rcases kG s with ⟨rfl,e⟩|⟨hm,e⟩|⟨c,hne,rfl,e⟩|⟨h2,hn,e⟩
  · rw [e]; have:dp noF=2:=by decide+kernel
    omega
  · rw [e]; have:dp aEO=1:=by decide+kernel
    omega
  · rw [e]; have:=hc c (List.mem_singleton.2 rfl); omega
  · rw [e,dp]
    have:=aBS (l:=sF (s.map clF)) (n:=D+1) fun x hx=>by obtain ⟨c,q,rfl⟩:=List.mem_map.1 (oT.1 hx); exact hc c q
    omega
mutual
def wz:Fm→Nat
  | .nd o _ k=>if o=4 then 1 else wzs k+1
def wzs:List Fm→Nat
  |[]=>0
  |f::l=>wz f+wzs l
end
theorem aN5 (f:Fm):wz f=if f.op=4 then 1 else wzs f.kids+1:=by cases f; rw [wz]; rfl
theorem aET (f:Fm):1≤wz f:=by rw [aN5]; split <;> omega
theorem aB5: ∀ {l:List Fm} {k:Nat},k < l.length→wz (nth l k)≤wzs l
  |[],k,h=>absurd h (Nat.not_lt_zero k)
  |f::l,0,_=>by show wz f≤_; rw [wzs]; omega
  | f :: l, k + 1, h => by
    have:=aB5 (l:=l) (k:=k) (by simpa using h)
    show wz (nth l k)≤_
    rw [wzs]; omega
theorem aFT: ∀ {l:List Fm} {k:Nat},2≤l.length→k < l.length→wz (nth l k)+1≤wzs l
  |[],_,h,_=>by simp at h
  |[f],_,h,_=>by simp at h
  | f :: g :: l, 0, _, _ => by
    have:=aET g
    rw [wzs,wzs]; show wz f+1≤_; omega
  | f :: g :: l, k + 1, _, hk => by
    have:=aET f
    have:=aB5 (l:=g::l) (k:=k) (by simpa using hk)
    rw [wzs]; show wz (nth (g::l) k)+1≤_; omega
theorem aBz {p:Fm→Prop}: ∀ {l:List Fm} {out s:List Cl},(∀ k,k < l.length→ ∀ t,cls (nth l k)=some t→eU p t)→eU p out→djL l out=some s→eU p s
  | [], out, s, _, h1, h => by
    rw [djL] at h
    split at h
    · cases h
    · cases h; exact h1
  | f :: l, out, s, hk, h1, h => by
    rw [djL] at h
    cases q:cls f with
    |none=>rw [q] at h; cases h
    | some t =>
      rw [q] at h
      exact aBz (fun k hl t ht=>hk (k+1) (by simpa using hl) t ht) (eU.wths h1 (hk 0 (by simp) t q)) h
theorem aBC {p:Fm→Prop}: ∀ {l:List Fm} {out s:List Cl},(∀ k,k < l.length→ ∀ t,cls (nth l k)=some t→eU p t)→eU p out→cjL l out=some s→eU p s
  |[],out,s,_,h1,h=>by rw [cjL] at h; cases h; exact h1
  | f :: l, out, s, hk, h1, h => by
    rw [cjL] at h
    cases q:cls f with
    |none=>rw [q] at h; cases h
    | some t =>
      rw [q] at h
      simp only at h
      split at h
      · cases h
      · exact aBC (fun k hl t ht=>hk (k+1) (by simpa using hl) t ht) (eU.prd h1 (hk 0 (by simp) t q)) h
theorem sS {p:Fm→Prop}:eU p [[]]:=fun c hc x hx=>by rw [List.mem_singleton.1 hc] at hx; exact absurd hx List.not_mem_nil
theorem rU {p:Fm→Prop}:eU p []:=fun c hc=>absurd hc List.not_mem_nil
theorem aCH {p:Fm→Prop} {x:Fm} (h:p x):eU p [[x]]:=fun c hc y hy=>by rw [List.mem_singleton.1 hc] at hy; rw [List.mem_singleton.1 hy]; exact h
theorem eU.mono {p q:Fm→Prop} {s:List Cl} (h:eU p s) (hq: ∀ x,p x→q x):eU q s:=fun c hc x hx=>hq x (h c hc x hx)
theorem aJC (f : Fm) : okF f = true → nnf f = true → ∀ s, cls f = some s → eU (DA (wz f + 1)) s ∧ dp (fin s) ≤ wz f + 1 := by
  refine gC (p:=fun f=>okF f=true→nnf f=true→ ∀ s,cls f=some s→eU (DA (wz f+1)) s∧dp (fin s)≤wz f+1) (fun f ih hf hn s hs=>?_) f
  obtain ⟨hr,hk⟩:=bP hf
  obtain ⟨r1,r2,r3,r4,r5,r6,r7,r8,r9⟩:=dE hr
  have hw:=aET f
  have leaf: ∀ g:Fm,g.kids.length=0→dp g=1:=fun g h=>by
    cases g with
    |nd o a k=>rw [dp,show k=[] from List.length_eq_zero_iff.1 h,dpL]
  have one: ∀ x:Fm,dp x≤wz f+1→eU (DA (wz f+1)) [[x]]∧dp (fin [[x]])≤wz f+1:=fun x h=>⟨aCH h,by
    have e:fin [[x]]=x:=rfl
    rw [e]; exact h⟩
  by_cases h1:f.op=1
  · rw [qK h1] at hs; cases hs
    have e:dp (fin [[]])=1:=by decide+kernel
    exact ⟨sS,by omega⟩
  by_cases h4:f.op=4
  · by_cases q:(nth f.kids 0).op=1
    · rw [qT h4 q] at hs; cases hs
      have e:dp (fin [])=2:=by decide+kernel
      exact ⟨rU,by omega⟩
    · rw [nD h4 q] at hs; cases hs
      have hl:=r4 (.inl h4)
      have h3:=(eC hn (k:=0) (by omega)).2 h4
      have hrk:=(bP (hk 0 (by omega))).1
      have hz:(nth f.kids 0).kids.length=0:=by
        obtain ⟨q1,q2,q3,_⟩:=dE hrk
        exact q3 (by omega)
      have hd:=leaf _ hz
      have e:f.kids=[nth f.kids 0]:=aSf hl
      refine one f ?_
      have:dp f=dpL f.kids+1:=by cases f; rw [dp]; rfl
      rw [this,e,dpL,dpL,hd]
      omega
  by_cases h23:f.op=2∨f.op=3
  · rw [lN h23] at hs; cases hs
    have:=leaf f (r3 (by omega))
    exact one f (by omega)
  have hwz:wz f=wzs f.kids+1:=by rw [aN5,if_neg h4]
  have big:2≤f.kids.length→eU (DA (wz f - 1)) s→eU (DA (wz f+1)) s∧dp (fin s)≤wz f+1:=fun h2 ha=>by
    have:=aJY ha
    exact ⟨ha.mono fun x q=>by unfold DA at*; omega,by omega⟩
  by_cases h6:f.op=6
  · have h2:=r5 (.inr h6)
    rw [nJ h6] at hs
    exact big h2 (aBz (fun k h t ht=>(ih k h (hk k h) (eC hn h).1 t ht).1.mono fun x q=>by have:=aFT h2 h; unfold DA at*; omega) rU hs)
  by_cases h5:f.op=5
  · have h2:=r5 (.inl h5)
    rw [nL h5] at hs
    exact big h2 (aBC (fun k h t ht=>(ih k h (hk k h) (eC hn h).1 t ht).1.mono fun x q=>by have:=aFT h2 h; unfold DA at*; omega) sS hs)
  rw [vJ (by omega)] at hs
  cases q:fA f.kids with
  |none=>rw [q] at hs; cases hs
  | some l =>
    rw [q] at hs
    cases hs
    have hl:=tB q
    refine one _ ?_
    rw [dp,hwz]
    have:dpL l≤wzs f.kids+1:=aBS fun x hx=>by
      obtain ⟨j,hj,rfl⟩:=dY hx
      have hc:=nY q (k:=j) (by omega)
      unfold can at hc
      cases q2:cls (nth f.kids j) with
      |none=>rw [q2] at hc; cases hc
      | some u =>
        rw [q2] at hc
        injection hc with hc
        rw [← hc]
        have h1:=(ih j (by omega) (hk j (by omega)) (eC hn (by omega)).1 u q2).2
        have h2:=aB5 (l:=f.kids) (k:=j) (by omega)
        omega
    omega
mutual
theorem xW: ∀ (f:Fm) (b:Bool),wz (nrm f b)≤f.sz
  | .nd o a [], b => by
    rw [nrm]
    have h:1≤(Fm.nd o a []).sz:=by rw [Fm.sz]; omega
    split
    · rw [wz]; simp [wzs]; exact h
    · split
      · rw [wz]; simp; exact h
      · rename_i q _; rw [wz,if_neg q,wzs]; exact h
  | .nd o a (f :: l), b => by
    have h1:=xW f b
    have h2:=xW f (!b)
    have h3:=aFc l b
    rw [nrm]
    split
    · rw [Fm.sz,Fm.szs]; omega
    · rw [Fm.sz,Fm.szs,wz,wzs]
      split <;> omega
theorem aFc: ∀ (l:List Fm) (b:Bool),wzs (xS l b)≤Fm.szs l
  |[],_=>by rw [xS,Fm.szs,wzs]; omega
  | f :: l, b => by
    have h1:=xW f b
    have h2:=aFc l b
    rw [xS,Fm.szs,wzs]; omega
end
def chk (f:Fm):Fm×Int:=match can f with
  |none=>(zF,11)
  |some g=>if cX g≠0 then (zF,cX g) else (g,0)
def bK (f:Fm):Fm×Int:=if cX f≠0 then (zF,cX f) else chk (nrm f false)
theorem aC9 {f:Fm} (h:can f=none):chk f=(zF,11):=by unfold chk; rw [h]
theorem aF7 {f g:Fm} (h:can f=some g) (h2:cX g≠0):chk f=(zF,cX g):=by unfold chk; rw [h]; exact if_pos h2
theorem yX {f g:Fm} (h:can f=some g) (h2:cX g=0):chk f=(g,0):=by unfold chk; rw [h]; exact if_neg (by omega)
theorem aE9 {f:Fm} (hf:okF f=true) (hn:nnf f=true) (hd: ∀ s,cls f=some s→dp (fin s)≤64):(chk f=(zF,11))∨ ∃ g,can f=some g∧cX g=0∧chk f=(g,0):=by
  cases q:cls f with
  |none=>exact .inl (aC9 (by unfold can; rw [q]; rfl))
  | some s =>
    have hc:can f=some (fin s):=by unfold can; rw [q]; rfl
    have c:=pH hf hn hc
    rcases aG5 c.ok (hd s q) with h|h
    · exact .inr ⟨_,hc,h,yX hc h⟩
    · exact .inl (by rw [aF7 hc (by omega),h])
theorem aIh {f:Fm} (hv:cX f=0) (hs:f.sz≤63):bK f=(zF,11)∨ ∃ g,can (nrm f false)=some g∧cX g=0∧bK f=(g,0):=by
  have ho:=xQ f (fB hv) false
  have hn:=aBW f (fB hv) false
  unfold bK
  rw [if_neg (by omega)]
  refine aE9 ho hn fun s q=>?_
  have h1:=(aJC _ ho hn s q).2
  have h2:=xW f false
  omega
end Go.Proofs.YteehaobohaecmaaGreatDoor
namespace Go.Proofs.YteehaobohaecmaaGreatDoor
open Go
def trF (b:Bool):Fm:=if b=true then aEO else noF
def ntB (g:Fm) (a o:Int):Bool:=decide ((g.op=2∧g.arg≠a)∨(g.op=3∧g.arg≠o))
def stO (f:Fm) (a o:Int) (K:List Fm):Fm:=
  if f.op=2 then trF (decide (f.arg=a)) else if f.op=3 then trF (decide (f.arg=o)) else if f.op=4 then trF (ntB (nth f.kids 0) a o)
  else if f.op=7∨f.op=9 then nth f.kids 0 else if f.op=8 then .nd 6 0 [nth K 1,.nd 5 0 [nth K 0,f]] else if f.op=10 then .nd 5 0 [nth K 1,.nd 6 0 [nth K 0,f]]
  else .nd f.op 0 K
mutual
def mst:Fm→Int→Int→Fm
  | .nd p r k,a,o=>stO (.nd p r k) a o (aJg k a o)
def aJg:List Fm→Int→Int→List Fm
  |[],_,_=>[]
  |f::l,a,o=>mst f a o::aJg l a o
end
theorem aCp (a o:Int): ∀ l:List Fm,aJg l a o=l.map fun f=>mst f a o
  |[]=>by rw [aJg]; rfl
  |f::l=>by rw [aJg,aCp a o l]; rfl
theorem rL (f:Fm) (a o:Int):mst f a o=stO f a o (f.kids.map fun g=>mst g a o):=by cases f; rw [mst,aCp]; rfl
section
variable {f:Fm} {a o:Int}
theorem pE (h:f.op=2):mst f a o=trF (decide (f.arg=a)):=by rw [rL,stO,if_pos h]
theorem oL (h:f.op=3):mst f a o=trF (decide (f.arg=o)):=by rw [rL,stO,if_neg (by omega),if_pos h]
theorem oI (h:f.op=4):mst f a o=trF (ntB (nth f.kids 0) a o):=by rw [rL,stO,if_neg (by omega),if_neg (by omega),if_pos h]
theorem gR (h:f.op=7∨f.op=9):mst f a o=nth f.kids 0:=by rw [rL,stO,if_neg (by omega),if_neg (by omega),if_neg (by omega),if_pos h]
theorem qS (h:f.op=8) (hk:f.kids.length=2):mst f a o=.nd 6 0 [mst (nth f.kids 1) a o,.nd 5 0 [mst (nth f.kids 0) a o,f]]:=by
  rw [rL,stO,if_neg (by omega),if_neg (by omega),if_neg (by omega),if_neg (by omega),if_pos h,fT (by omega),fT (by omega)]
theorem lP (h:f.op=10) (hk:f.kids.length=2):mst f a o=.nd 5 0 [mst (nth f.kids 1) a o,.nd 6 0 [mst (nth f.kids 0) a o,f]]:=by
  rw [rL,stO,if_neg (by omega),if_neg (by omega),if_neg (by omega),if_neg (by omega),if_neg (by omega),if_pos h,fT (by omega),fT (by omega)]
theorem nT (h: ¬(f.op=2∨f.op=3∨f.op=4∨f.op=7∨f.op=8∨f.op=9∨f.op=10)):mst f a o=.nd f.op 0 (f.kids.map fun g=>mst g a o):=by
  rw [rL,stO,if_neg (by omega),if_neg (by omega),if_neg (by omega),if_neg (by omega),if_neg (by omega),if_neg (by omega)]
end
theorem aHc (b:Bool):okF (trF b)=true∧nnf (trF b)=true∧(trF b).op≤4:=by cases b <;> exact ⟨by decide+kernel,by decide+kernel,by decide+kernel⟩
theorem aEh {o:Int} {l:List Fm} (h:o≠4) (hk: ∀ x∈l,nnf x=true):nnf (.nd o 0 l)=true:=
  rB fun k hl=>⟨fun e=>absurd (show o=4 from e) h,hk _ (dJ hl)⟩
theorem aD7 (f:Fm) (a o:Int):okF f=true→nnf f=true→okF (mst f a o)=true∧nnf (mst f a o)=true:=by
  refine gC (p:=fun f=>okF f=true→nnf f=true→okF (mst f a o)=true∧nnf (mst f a o)=true) (fun f ih hf hn=>?_) f
  obtain ⟨hr,hk⟩:=bP hf
  obtain ⟨r1,r2,r3,r4,r5,r6,r7,r8,r9⟩:=dE hr
  have K: ∀ k,k < f.kids.length→okF (mst (nth f.kids k) a o)=true∧nnf (mst (nth f.kids k) a o)=true:=fun k h=>ih k h (hk k h) (eC hn h).1
  by_cases h2:f.op=2
  · rw [pE h2]; exact ⟨(aHc _).1,(aHc _).2.1⟩
  by_cases h3:f.op=3
  · rw [oL h3]; exact ⟨(aHc _).1,(aHc _).2.1⟩
  by_cases h4:f.op=4
  · rw [oI h4]; exact ⟨(aHc _).1,(aHc _).2.1⟩
  by_cases h79:f.op=7∨f.op=9
  · rw [gR h79]; have:=r4 (by omega); exact ⟨hk 0 (by omega),(eC hn (by omega)).1⟩
  have bin: ∀ (p q:Int),(p=6∧q=5)∨(p=5∧q=6)→f.kids.length=2→okF (.nd p 0 [mst (nth f.kids 1) a o,.nd q 0 [mst (nth f.kids 0) a o,f]])=true∧nnf (.nd p 0 [mst (nth f.kids 1) a o,.nd q 0 [mst (nth f.kids 0) a o,f]])=true:=fun p q hpq h=>by
    have k0:=K 0 (by omega)
    have k1:=K 1 (by omega)
    have i1:okF (.nd q 0 [mst (nth f.kids 0) a o,f])=true:=uK (.inr (.inr ⟨by omega,by simp⟩)) (by simp [k0.1,hf])
    have i2:nnf (.nd q 0 [mst (nth f.kids 0) a o,f])=true:=aEh (by omega) (by simp [k0.2,hn])
    exact ⟨uK (.inr (.inr ⟨by omega,by simp⟩)) (by simp [k1.1,i1]),aEh (by omega) (by simp [k1.2,i2])⟩
  by_cases h8:f.op=8
  · rw [qS h8 (r6 (.inl h8))]; exact bin 6 5 (.inl ⟨rfl,rfl⟩) (r6 (.inl h8))
  by_cases h10:f.op=10
  · rw [lP h10 (r6 (.inr h10))]; exact bin 5 6 (.inr ⟨rfl,rfl⟩) (r6 (.inr h10))
  rw [nT (by omega)]
  by_cases h1:f.op=1
  · have e:f.kids=[]:=List.length_eq_zero_iff.1 (r3 (.inl h1))
    rw [e,h1]; exact (show okF (Fm.nd 1 0 [])=true∧nnf (Fm.nd 1 0 [])=true from ⟨by decide+kernel,by decide+kernel⟩)
  · have hl:=r5 (by omega)
    refine ⟨uK (.inr (.inr ⟨by omega,by simpa using hl⟩)) (List.all_eq_true.2 fun x hx=>?_),aEh h4 fun x hx=>?_⟩
    · obtain ⟨y,hy,rfl⟩:=List.mem_map.1 hx
      obtain ⟨j,hj,rfl⟩:=dY hy
      exact (K j hj).1
    · obtain ⟨y,hy,rfl⟩:=List.mem_map.1 hx
      obtain ⟨j,hj,rfl⟩:=dY hy
      exact (K j hj).2
theorem aEi (t:Tr) (b:Bool) (i:Nat):sat t (trF b) i=b:=by
  cases b
  · show sat t noF i=false; rw [cH]; rfl
  · show sat t aEO i=true; rw [cH]; rfl
theorem aFq (t:Tr) (x y:Fm) (i:Nat):sat t (.nd 6 0 [x,y]) i=(sat t x i||sat t y i):=by
  rw [cH]; show List.any [sat t x,sat t y] (fun g=>g i)=_; simp
theorem aCw (t:Tr) (x y:Fm) (i:Nat):sat t (.nd 5 0 [x,y]) i=(sat t x i&&sat t y i):=by
  rw [cH]; show List.all [sat t x,sat t y] (fun g=>g i)=_; simp
theorem aK4 {t:Tr} {i:Nat} (hi:i < t.ni.length) (f:Fm):okF f=true→nnf f=true→sat t (mst f (nth t.ni i) (nth t.no i)) (i+1)=sat t f i:=by
  refine gC (p:=fun f=>okF f=true→nnf f=true→sat t (mst f (nth t.ni i) (nth t.no i)) (i+1)=sat t f i) (fun f ih hf hn=>?_) f
  obtain ⟨hr,hk⟩:=bP hf
  obtain ⟨r1,r2,r3,r4,r5,r6,r7,r8,r9⟩:=dE hr
  have K: ∀ k,k < f.kids.length→sat t (mst (nth f.kids k) (nth t.ni i) (nth t.no i)) (i+1)=sat t (nth f.kids k) i:=fun k h=>ih k h (hk k h) (eC hn h).1
  have hd:decide (i < t.ni.length)=true:=decide_eq_true hi
  have hd':decide (¬i < t.ni.length)=false:=decide_eq_false fun q=>q hi
  by_cases h2:f.op=2
  · rw [pE h2,aEi,cH,h2]
    show _=(decide (i < t.ni.length)&&decide (nth t.ni i=f.arg))
    rw [hd,Bool.true_and]; exact decide_eq_decide.2 eq_comm
  by_cases h3:f.op=3
  · rw [oL h3,aEi,cH,h3]
    show _=(decide (i < t.ni.length)&&decide (nth t.no i=f.arg))
    rw [hd,Bool.true_and]; exact decide_eq_decide.2 eq_comm
  by_cases h4:f.op=4
  · have hl:=r4 (.inl h4)
    have h5:=(eC hn (k:=0) (by omega)).2 h4
    rw [oI h4,aEi,cH t f,h4]
    show ntB (nth f.kids 0) _ _= !(nth (f.kids.map (sat t)) 0 i)
    rw [fT (by omega),cH]
    have hr0:=dE (bP (hk 0 (by omega))).1
    unfold ntB
    have e:(nth f.kids 0).op=1∨(nth f.kids 0).op=2∨(nth f.kids 0).op=3:=by omega
    rcases e with e|e|e
    · rw [e]; show decide _= !true; exact decide_eq_false (by omega)
    · rw [e]
      show decide _= !(decide (i < t.ni.length)&&decide (nth t.ni i=(nth f.kids 0).arg))
      rw [hd,Bool.true_and]
      by_cases q:nth t.ni i=(nth f.kids 0).arg
      · rw [decide_eq_true q,decide_eq_false (by rintro (⟨_,z⟩|⟨z,_⟩); exact z q.symm; omega)]; rfl
      · rw [decide_eq_false q,decide_eq_true (.inl ⟨rfl,fun z=>q z.symm⟩)]; rfl
    · rw [e]
      show decide _= !(decide (i < t.ni.length)&&decide (nth t.no i=(nth f.kids 0).arg))
      rw [hd,Bool.true_and]
      by_cases q:nth t.no i=(nth f.kids 0).arg
      · rw [decide_eq_true q,decide_eq_false (by rintro (⟨z,_⟩|⟨_,z⟩); omega; exact z q.symm)]; rfl
      · rw [decide_eq_false q,decide_eq_true (.inr ⟨rfl,fun z=>q z.symm⟩)]; rfl
  by_cases h7:f.op=7
  · have hl:=r4 (.inr (.inl h7))
    rw [gR (.inl h7),cH t f,h7]
    show _=(decide (i < t.ni.length)&&nth (f.kids.map (sat t)) 0 (i+1))
    rw [hd,Bool.true_and,fT (by omega)]
  by_cases h9:f.op=9
  · have hl:=r4 (.inr (.inr h9))
    rw [gR (.inr h9),cH t f,h9]
    show _=(decide (¬i < t.ni.length)||nth (f.kids.map (sat t)) 0 (i+1))
    rw [hd',Bool.false_or,fT (by omega)]
  by_cases h8:f.op=8
  · have hl:=r6 (.inl h8)
    have e1:=cH t f (i+1)
    have e2:=cH t f i
    rw [h8] at e1 e2
    rw [qS h8 hl,aFq,aCw,K 1 (by omega),K 0 (by omega),e1,e2]
    show (_||(_&&iB (nth (f.kids.map (sat t)) 0) (nth (f.kids.map (sat t)) 1) (t.ni.length - (i+1)) (i+1)))=iB (nth (f.kids.map (sat t)) 0) (nth (f.kids.map (sat t)) 1) (t.ni.length - i) i
    rw [aFH (n:=t.ni.length) (i:=i) (by omega),fT (by omega),fT (by omega),hd,Bool.true_and]
  by_cases h10:f.op=10
  · have hl:=r6 (.inr h10)
    have e1:=cH t f (i+1)
    have e2:=cH t f i
    rw [h10] at e1 e2
    rw [lP h10 hl,aCw,aFq,K 1 (by omega),K 0 (by omega),e1,e2]
    show (_&&(_||iD (nth (f.kids.map (sat t)) 0) (nth (f.kids.map (sat t)) 1) (t.ni.length - (i+1)) (i+1)))=iD (nth (f.kids.map (sat t)) 0) (nth (f.kids.map (sat t)) 1) (t.ni.length - i) i
    rw [aFk (n:=t.ni.length) (i:=i) (by omega),fT (by omega),fT (by omega),hd',Bool.false_or]
  rw [nT (by omega),cH,cH t f]
  show mQ t f.op 0 ((f.kids.map fun g=>mst g (nth t.ni i) (nth t.no i)).map (sat t)) (i+1)=_
  rw [List.map_map]
  have e:f.op=1∨f.op=5∨f.op=6:=by omega
  rcases e with e|e|e
  · rw [e]; rfl
  · rw [e]; show List.all _ _=List.all _ _
    rw [List.all_map,List.all_map]; exact aBw fun k h=>K k h
  · rw [e]; show List.any _ _=List.any _ _
    rw [List.any_map,List.any_map]; exact aBE fun k h=>K k h
abbrev t0:Tr:=⟨[],[]⟩
theorem aMJ {t:Tr} (f:Fm):okF f=true→sat t f t.ni.length=sat t0 f 0:=by
  have far: ∀ (f:Fm),okF f=true→ ∀ i,t.ni.length≤i→sat t f i=sat t0 f 0:=by
    intro f
    refine gC (p:=fun f=>okF f=true→ ∀ i,t.ni.length≤i→sat t f i=sat t0 f 0) (fun f ih hf i hi=>?_) f
    obtain ⟨hr,hk⟩:=bP hf
    obtain ⟨r1,r2,r3,r4,r5,r6,r7,r8,r9⟩:=dE hr
    have K: ∀ k,k < f.kids.length→sat t (nth f.kids k) i=sat t0 (nth f.kids k) 0:=fun k h=>ih k h (hk k h) i hi
    have hd:decide (i < t.ni.length)=false:=decide_eq_false (by omega)
    have hd':decide (¬i < t.ni.length)=true:=decide_eq_true (by omega)
    rw [cH,cH t0]
    have e:f.op=1∨f.op=2∨f.op=3∨f.op=4∨f.op=5∨f.op=6∨f.op=7∨f.op=8∨f.op=9∨f.op=10:=by omega
    rcases e with e|e|e|e|e|e|e|e|e|e <;> rw [e]
    · rfl
    · show (decide (i < t.ni.length)&&decide (nth t.ni i=f.arg))=(decide (0 < t0.ni.length)&&decide (nth t0.ni 0=f.arg)); rw [hd]; rfl
    · show (decide (i < t.ni.length)&&decide (nth t.no i=f.arg))=(decide (0 < t0.ni.length)&&decide (nth t0.no 0=f.arg)); rw [hd]; rfl
    · have hl:=r4 (.inl e)
      show (!nth (f.kids.map (sat t)) 0 i)= !nth (f.kids.map (sat t0)) 0 0
      rw [fT (by omega),fT (by omega),K 0 (by omega)]
    · show List.all _ _=List.all _ _; rw [List.all_map,List.all_map]; exact aBw fun k h=>K k h
    · show List.any _ _=List.any _ _; rw [List.any_map,List.any_map]; exact aBE fun k h=>K k h
    · show (decide (i < t.ni.length)&&nth (f.kids.map (sat t)) 0 (i+1))=(decide (0 < t0.ni.length)&&nth (f.kids.map (sat t0)) 0 (0+1)); rw [hd]; rfl
    · have hl:=r6 (.inl e)
      show iB _ (nth (f.kids.map (sat t)) 1) (t.ni.length - i) i=nth (f.kids.map (sat t0)) 1 0
      rw [show t.ni.length - i=0 by omega,iB,fT (by omega),fT (by omega),K 1 (by omega)]
    · show (decide (¬i < t.ni.length)||nth (f.kids.map (sat t)) 0 (i+1))=(decide (¬0 < t0.ni.length)||nth (f.kids.map (sat t0)) 0 (0+1)); rw [hd']; rfl
    · have hl:=r6 (.inr e)
      show iD _ (nth (f.kids.map (sat t)) 1) (t.ni.length - i) i=nth (f.kids.map (sat t0)) 1 0
      rw [show t.ni.length - i=0 by omega,iD,fT (by omega),fT (by omega),K 1 (by omega)]
  exact fun h=>far f h _ (Nat.le_refl _)
mutual
def WD (D:Nat):Fm→Prop
  | .nd o a k=>if o=5∨o=6 then WDL D k else if o=1∨(o=4∧(nth k 0).op=1) then True else CA (.nd o a k)∧dp (.nd o a k)≤D
def WDL (D:Nat):List Fm→Prop
  |[]=>True
  |f::l=>WD D f∧WDL D l
end
theorem aGa (D:Nat): ∀ l:List Fm,WDL D l↔ ∀ x∈l,WD D x
  |[]=>by rw [WDL]; simp
  |f::l=>by rw [WDL,aGa D l]; simp
theorem qH (D:Nat) (f:Fm):WD D f↔if f.op=5∨f.op=6 then ∀ x∈f.kids,WD D x else if f.op=1∨(f.op=4∧(nth f.kids 0).op=1) then True else CA f∧dp f≤D:=by
  cases f; rw [WD,aGa]; rfl
theorem WD.atom {D:Nat} {x:Fm} (h:CA x) (hd:dp x≤D):WD D x:=by
  rw [qH]
  have:=h.at_
  unfold atB at this
  rw [if_neg (by omega)]
  split
  · trivial
  · exact ⟨h,hd⟩
theorem WD.nd {D:Nat} {o:Int} {l:List Fm} (ho:o=5∨o=6) (h: ∀ x∈l,WD D x):WD D (.nd o 0 l):=by
  rw [qH,if_pos (show (Fm.nd o 0 l).op=5∨(Fm.nd o 0 l).op=6 from ho)]
  exact h
theorem WD.fin {D:Nat} {s:List Cl} (ha:eU CA s) (hd:eU (DA D) s):WD D (fin s):=by
  have hat: ∀ c∈s,∀ x∈c,WD D x:=fun c hc x hx=>WD.atom (ha c hc x hx) (hd c hc x hx)
  have hcl: ∀ c∈s,c≠[]→WD D (clF c):=fun c hc hne=>by
    unfold clF
    split
    · rename_i q; exact hat c hc _ (dJ (by omega))
    · exact WD.nd (.inl rfl) (hat c hc)
  rcases kG s with ⟨rfl,e⟩|⟨hm,e⟩|⟨c,hne,rfl,e⟩|⟨h2,hn,e⟩
  · rw [e,qH]; show if _ then _ else _; rw [if_neg (by decide),if_pos (.inr ⟨rfl,rfl⟩)]; trivial
  · rw [e,qH]; show if _ then _ else _; rw [if_neg (by decide),if_pos (.inl rfl)]; trivial
  · rw [e]; exact hcl c (List.mem_singleton.2 rfl) hne
  · rw [e]
    refine WD.nd (.inr rfl) fun x hx=>?_
    obtain ⟨c,hc,rfl⟩:=List.mem_map.1 (oT.1 hx)
    exact hcl c hc fun k=>hn (k ▸ hc)
theorem aJS {D:Nat} (f:Fm):okF f=true→WD D f→ ∀ s,cls f=some s→eU (DA D) s:=by
  refine gC (p:=fun f=>okF f=true→WD D f→ ∀ s,cls f=some s→eU (DA D) s) (fun f ih hf hw s hs=>?_) f
  obtain ⟨hr,hk⟩:=bP hf
  rw [qH] at hw
  by_cases h56:f.op=5∨f.op=6
  · rw [if_pos h56] at hw
    have K: ∀ k,k < f.kids.length→ ∀ t,cls (nth f.kids k)=some t→eU (DA D) t:=fun k h=>ih k h (hk k h) (hw _ (dJ h))
    rcases h56 with h|h
    · rw [nL h] at hs; exact aBC K sS hs
    · rw [nJ h] at hs; exact aBz K rU hs
  · rw [if_neg h56] at hw
    by_cases h1:f.op=1∨(f.op=4∧(nth f.kids 0).op=1)
    · rcases h1 with h1|⟨h1,h2⟩
      · rw [qK h1] at hs; cases hs; exact sS
      · rw [qT h1 h2] at hs; cases hs; exact rU
    · rw [if_neg h1] at hw
      rw [hw.1.cls] at hs; cases hs; exact aCH hw.2
theorem aIV {D:Nat} {f g:Fm} (hf:okF f=true) (hn:nnf f=true) (hw:WD D f) (h:can f=some g):WD D g∧dp g≤D+2:=by
  unfold can at h
  cases q:cls f with
  |none=>rw [q] at h; cases h
  | some s =>
    rw [q] at h
    injection h with h
    rw [← h]
    exact ⟨WD.fin (aBl f hf hn s q) (aJS f hf hw s q),aJY (aJS f hf hw s q)⟩
theorem aLW: ∀ {l:List Fm},fA l=some l→ ∀ k,k < l.length→can (nth l k)=some (nth l k):=fun h k hk=>nY h hk
theorem aKA {g : Fm} (h : Canon g) : WD (dp g) g := by
  have hc:=h.id
  unfold can at hc
  cases q:cls g with
  |none=>rw [q] at hc; cases hc
  | some s =>
    rw [q] at hc
    injection hc with hc
    have ca:=aBl g h.ok h.nn s q
    have key:eU (DA (dp (fin s))) s:=fun c hc2 x hx=>by
      show dp x≤dp (fin s)
      have hcl:dp x≤dp (clF c):=by
        unfold clF
        split
        · rename_i q; obtain ⟨y,rfl⟩:=List.length_eq_one_iff.1 q
          rw [List.mem_singleton.1 hx]; exact Nat.le_refl _
        · rw [dp]; have:=aIv hx; omega
      rcases kG s with ⟨e0,e⟩|⟨hm,e⟩|⟨d,hne,e0,e⟩|⟨h2,hn2,e⟩
      · rw [e0] at hc2; exact absurd hc2 List.not_mem_nil
      · have g1:=jS g h.ok s q
        by_cases z:c=[]
        · rw [z] at hx; exact absurd hx List.not_mem_nil
        · have:=(aHV g1.ant.two (fun a b q=>⟨q.2,q.1⟩) hc2 hm z).1
          rw [jP.2 (fun y hy=>absurd hy List.not_mem_nil)] at this; cases this
      · rw [e0] at hc2; rw [List.mem_singleton.1 hc2] at hcl; rw [e]; exact hcl
      · rw [e,dp]
        have hm:clF c∈sF (s.map clF):=oT.2 (List.mem_map.2 ⟨c,hc2,rfl⟩)
        have:=aIv hm
        omega
    have:=WD.fin ca key
    rw [hc] at this; exact this
theorem WD.mono {D E:Nat} (hDE:D≤E) (f:Fm):WD D f→WD E f:=by
  refine gC (p:=fun f=>WD D f→WD E f) (fun f ih h=>?_) f
  rw [qH] at h ⊢
  split
  · rename_i q
    rw [if_pos q] at h
    intro x hx
    obtain ⟨j,hj,rfl⟩:=dY hx
    exact ih j hj (h _ hx)
  · rename_i q
    rw [if_neg q] at h
    split
    · trivial
    · rename_i q2; rw [if_neg q2] at h; exact ⟨h.1,Nat.le_trans h.2 hDE⟩
theorem WD.tr {D:Nat} (b:Bool):WD D (trF b):=by
  cases b
  · rw [qH]; show if _ then _ else _; rw [if_neg (by decide),if_pos (.inr ⟨rfl,rfl⟩)]; trivial
  · rw [qH]; show if _ then _ else _; rw [if_neg (by decide),if_pos (.inl rfl)]; trivial
theorem aQQ {D:Nat} {a o:Int} (f:Fm):okF f=true→nnf f=true→WD D f→WD D (mst f a o):=by
  refine gC (p:=fun f=>okF f=true→nnf f=true→WD D f→WD D (mst f a o)) (fun f ih hf hn hw=>?_) f
  obtain ⟨hr,hk⟩:=bP hf
  obtain ⟨r1,r2,r3,r4,r5,r6,r7,r8,r9⟩:=dE hr
  by_cases h2:f.op=2
  · rw [pE h2]; exact WD.tr _
  by_cases h3:f.op=3
  · rw [oL h3]; exact WD.tr _
  by_cases h4:f.op=4
  · rw [oI h4]; exact WD.tr _
  by_cases h1:f.op=1
  · rw [nT (by omega),List.length_eq_zero_iff.1 (r3 (.inl h1)),h1]; exact WD.tr true
  by_cases h56:f.op=5∨f.op=6
  · rw [nT (by omega)]
    rw [qH,if_pos h56] at hw
    refine WD.nd h56 fun x hx=>?_
    obtain ⟨y,hy,rfl⟩:=List.mem_map.1 hx
    obtain ⟨j,hj,rfl⟩:=dY hy
    exact ih j hj (hk j hj) (eC hn hj).1 (hw _ (dJ hj))
  rw [qH,if_neg h56,if_neg (by omega)] at hw
  obtain ⟨ca,hd⟩:=hw
  have hc:fA f.kids=some f.kids:=by
    rcases ca.sh with h|h|h
    · omega
    · omega
    · exact h.2
  have kid: ∀ k,k < f.kids.length→WD D (nth f.kids k):=fun k h=>by
    have c:Canon (nth f.kids k):=⟨hk k h,(eC hn h).1,aLW hc k h⟩
    have:=aP9 h
    exact WD.mono (by omega) _ (aKA c)
  have bin: ∀ (p q:Int),(p=6∧q=5)∨(p=5∧q=6)→f.kids.length=2→WD D (.nd p 0 [mst (nth f.kids 1) a o,.nd q 0 [mst (nth f.kids 0) a o,f]]):=fun p q hpq h=>by
    have k0:=ih 0 (by omega) (hk 0 (by omega)) (eC hn (by omega)).1 (kid 0 (by omega))
    have k1:=ih 1 (by omega) (hk 1 (by omega)) (eC hn (by omega)).1 (kid 1 (by omega))
    refine WD.nd (by omega) fun x hx=>?_
    simp only [List.mem_cons,List.not_mem_nil,or_false] at hx
    rcases hx with rfl|rfl
    · exact k1
    · refine WD.nd (by omega) fun y hy=>?_
      simp only [List.mem_cons,List.not_mem_nil,or_false] at hy
      rcases hy with rfl|rfl
      · exact k0
      · exact WD.atom ca hd
  by_cases h79:f.op=7∨f.op=9
  · rw [gR h79]; exact kid 0 (by have:=r4 (by omega); omega)
  by_cases h8:f.op=8
  · rw [qS h8 (r6 (.inl h8))]; exact bin 6 5 (.inl ⟨rfl,rfl⟩) (r6 (.inl h8))
  · have h10:f.op=10:=by omega
    rw [lP h10 (r6 (.inr h10))]; exact bin 5 6 (.inr ⟨rfl,rfl⟩) (r6 (.inr h10))
end Go.Proofs.YteehaobohaecmaaGreatDoor
namespace Go.Proofs.YteehaobohaecmaaGreatDoor
open Go
def stM (f:Fm) (a o:Int):Fm×Int:=if cX f≠0 then (zF,cX f) else if a < 0∨64≤a∨o < 0∨1048576 < o then (zF,2) else if (bK f).2≠0 then (zF,(bK f).2) else chk (mst (bK f).1 a o)
theorem aG6 {f g:Fm} (hv:cX f=0) (h:can (nrm f false)=some g) (hg:cX g=0):bK f=(g,0):=by
  unfold bK; rw [if_neg (by omega)]; exact yX h hg
theorem aEK {g:Fm} (h:Canon g) (hg:cX g=0):bK g=(g,0):=aG6 hg (by rw [aRP g h.ok h.nn]; exact h.id) hg
structure Run (D:Nat) (g:Fm):Prop where
  c:Canon g
  v:cX g=0
  w:WD D g
theorem aHE {f : Fm} {D : Nat} (hv : cX f = 0) (hs : f.sz ≤ D) (hD : D ≤ 60) : bK f = (zF, 11) ∨ ∃ g, bK f = (g, 0) ∧ Run (D + 1) g ∧ ∀ t i, sat t g i = sat t f i := by
  have ho:=xQ f (fB hv) false
  have hn:=aBW f (fB hv) false
  rcases aIh hv (by omega) with h|⟨g,h1,h2,h3⟩
  · exact .inl h
  · refine .inr ⟨g,h3,⟨pH ho hn h1,h2,?_⟩,fun t i=>?_⟩
    · unfold can at h1
      cases q:cls (nrm f false) with
      |none=>rw [q] at h1; cases h1
      | some s =>
        rw [q] at h1
        injection h1 with h1
        have h4:=(aJC _ ho hn s q).1
        have h5:=xW f false
        rw [← h1]
        exact WD.fin (aBl _ ho hn s q) (h4.mono fun x hx=>by unfold DA at*; omega)
    · rw [aGE ho h1,aL7 t f (fB hv)]; simp
theorem aIe {g:Fm} {D:Nat} {a o:Int} (h:Run D g) (hD:D≤62) (ha:0≤a∧a < 64) (ho:0≤o∧o≤1048576):
    stM g a o=(zF,11)∨ ∃ g',stM g a o=(g',0)∧Run D g'∧ ∀ (t:Tr) (i:Nat),i < t.ni.length→nth t.ni i=a→nth t.no i=o→sat t g' (i+1)=sat t g i:=by
  have e:stM g a o=chk (mst g a o):=by
    unfold stM
    rw [aEK h.c h.v,if_neg (by have:=h.v; omega),if_neg (by omega),if_neg (by omega)]
  rw [e]
  obtain ⟨o1,n1⟩:=aD7 g a o h.c.ok h.c.nn
  have w1:=aQQ (a:=a) (o:=o) g h.c.ok h.c.nn h.w
  rcases aE9 o1 n1 (fun s q=>by
    have:can (mst g a o)=some (fin s):=by unfold can; rw [q]; rfl
    have:=(aIV o1 n1 w1 this).2
    omega) with q|⟨g',q1,q2,q3⟩
  · exact .inl q
  · refine .inr ⟨g',q3,⟨pH o1 n1 q1,q2,(aIV o1 n1 w1 q1).1⟩,fun t i hi e1 e2=>?_⟩
    rw [aGE o1 q1,← e1,← e2]
    exact aK4 hi g h.c.ok h.c.nn
end Go.Proofs.YteehaobohaecmaaGreatDoor
namespace Go.Proofs.YteehaobohaecmaaGreatDoor
open Go
theorem aTJ (a b c:Int):orI [a,b,c]=cp3 a b c:=by
  unfold cp3
  simp only [orI]
  by_cases h:a=0
  · by_cases h2:b=0
    · by_cases h3:c=0 <;> simp [h,h2,h3]
    · simp [h,h2]
  · simp [h]
theorem aGz (f h:Fm):bY f h=cp3 (orI [fG f.op h.op,fG f.arg h.arg,fG f.kids.length h.kids.length]) (kU f.kids h.kids) 0:=by rw [aB4,aTJ]
theorem aGU {f h:Fm} (d:orI [fG f.op h.op,fG f.arg h.arg,fG f.kids.length h.kids.length]≠0):orI [fG f.op h.op,fG f.arg h.arg,fG f.kids.length h.kids.length]=bY f h:=by
  rw [aGz]; unfold cp3; rw [if_pos d]
theorem aKn {a b:Int} (h:fG a b=0):a=b:=by
  have:=lX a b
  omega
theorem aMb {f h:Fm} (d: ¬orI [fG f.op h.op,fG f.arg h.arg,fG f.kids.length h.kids.length]≠0):f.kids.length=h.kids.length:=by
  rw [aTJ] at d
  unfold cp3 at d
  have:fG f.kids.length h.kids.length=0:=by
    split at d
    · rename_i q; exact (d q).elim
    · split at d
      · rename_i q; exact (d q).elim
      · exact Decidable.not_not.1 d
  have:=aKn this
  omega
theorem aHz {f h:Fm} (d: ¬orI [fG f.op h.op,fG f.arg h.arg,fG f.kids.length h.kids.length]≠0):bY f h=kU f.kids h.kids:=by
  rw [aGz]; unfold cp3; rw [if_neg d]
  split
  · rfl
  · rename_i q; exact (Decidable.not_not.1 q).symm
theorem aNQ {f:Fm} (e:f.op=1∨f.op=9):sat t0 f 0=true:=by
  rw [cH]
  rcases e with e|e <;> rw [e] <;> rfl
theorem aTo {f:Fm} (hf:okF f=true) (e:f.op=4):sat t0 f 0= !(sat t0 (nth f.kids 0) 0):=by
  obtain ⟨hr,hk⟩:=bP hf
  obtain ⟨r1,r2,r3,r4,r5,r6,r7,r8,r9⟩:=dE hr
  have hl:=r4 (.inl e)
  rw [cH,e]
  show (!nth (f.kids.map (sat t0)) 0 0)=_
  rw [fT (by omega)]
theorem aS7 {f:Fm} (e:f.op=5):sat t0 f 0=f.kids.all fun g=>sat t0 g 0:=by
  rw [cH,e]; show List.all _ _=_; rw [List.all_map]; rfl
theorem aSZ {f:Fm} (e:f.op=6):sat t0 f 0=f.kids.any fun g=>sat t0 g 0:=by
  rw [cH,e]; show List.any _ _=_; rw [List.any_map]; rfl
theorem aNG {f:Fm} (hf:okF f=true) (e:f.op=8∨f.op=10):sat t0 f 0=sat t0 (nth f.kids 1) 0:=by
  obtain ⟨hr,hk⟩:=bP hf
  obtain ⟨r1,r2,r3,r4,r5,r6,r7,r8,r9⟩:=dE hr
  have hl:=r6 e
  rw [cH]
  rcases e with e|e <;> rw [e]
  · show iB (nth (f.kids.map (sat t0)) 0) (nth (f.kids.map (sat t0)) 1) 0 0=_
    rw [iB,fT (by omega)]
  · show iD (nth (f.kids.map (sat t0)) 0) (nth (f.kids.map (sat t0)) 1) 0 0=_
    rw [iD,fT (by omega)]
theorem aTl {f:Fm} (hf:okF f=true) (h1: ¬(f.op=1∨f.op=9)) (h4: ¬f.op=4) (h5: ¬f.op=5) (h6: ¬f.op=6) (hu: ¬(f.op=8∨f.op=10)):sat t0 f 0=false:=by
  obtain ⟨hr,hk⟩:=bP hf
  obtain ⟨r1,r2,r3,r4,r5,r6,r7,r8,r9⟩:=dE hr
  have e:f.op=2∨f.op=3∨f.op=7:=by omega
  rw [cH]
  rcases e with e|e|e <;> rw [e] <;> rfl
abbrev cCl (c:Cl):List V:=[.sl (c.map cF)]
@[simp] theorem aRo (l:List Cl):gN (l.map cCl)=true:=zP _ _ fun a=>by simp
@[simp] theorem aNh (l:List Cl):eH (l.map cCl)=true:=fY _ _ fun a=>by simp
def iX {α:Type} (p:α→Bool) (l:List α):Nat:=(l.filter p).length
theorem aGn {α:Type} (p:α→Bool) (l:List α):iX p l≤l.length:=List.length_filter_le _ _
theorem aAM {α:Type} [Inhabited α] {p:α→Bool} {l:List α} {k:Nat} (h:k < l.length):iX p (l.take (k+1))=iX p (l.take k)+(if p (nth l k)=true then 1 else 0):=by
  unfold iX
  rw [List.take_succ_eq_append_getElem h,List.filter_append,List.length_append,bR h]
  congr 1
  by_cases e:p (nth l k)=true
  · rw [if_pos e,List.filter_cons_of_pos e]; rfl
  · rw [if_neg e,List.filter_cons_of_neg e]; rfl
theorem aCy {α:Type} [Inhabited α] {p:α→Bool} {l:List α} {k:Nat} (h:k < l.length) (e:p (nth l k)=true):iX p (l.take (k+1))=iX p (l.take k)+1:=by rw [aAM h,if_pos e]
theorem aFG {α:Type} [Inhabited α] {p:α→Bool} {l:List α} {k:Nat} (h:k < l.length) (e: ¬p (nth l k)=true):iX p (l.take (k+1))=iX p (l.take k):=by rw [aAM h,if_neg e]; rfl
theorem aJz {α:Type} (p:α→Bool) (l:List α):decide ((iX p l:Int)=(l.length:Nat))=l.all p:=by
  refine gE ?_
  rw [decide_eq_true_eq,List.all_eq_true]
  unfold iX
  constructor
  · intro h x hx
    have:l.filter p=l:=List.filter_eq_self.2 fun y hy=>by
      have:=List.length_filter_eq_length_iff.1 (show (l.filter p).length=l.length by omega)
      exact this y hy
    exact List.filter_eq_self.1 this x hx
  · intro h
    rw [List.filter_eq_self.2 h]
theorem yJ {α:Type} (p:α→Bool) (l:List α):decide ((0:Int) < (iX p l:Nat))=l.any p:=by
  refine gE ?_
  rw [decide_eq_true_eq,List.any_eq_true]
  unfold iX
  constructor
  · intro h
    have:0 < (l.filter p).length:=by omega
    obtain ⟨x,hx⟩:=List.exists_mem_of_length_pos this
    rw [List.mem_filter] at hx
    exact ⟨x,hx.1,hx.2⟩
  · rintro ⟨x,hx,hp⟩
    have:=List.length_pos_of_mem (List.mem_filter.2 ⟨hx,hp⟩)
    omega
theorem aHH {α:Type} (p:α→Bool) (l:List α):decide ((iX p l:Int)=0)=l.all fun x=> !p x:=by
  refine gE ?_
  rw [decide_eq_true_eq,List.all_eq_true]
  unfold iX
  constructor
  · intro h x hx
    cases e:p x with
    |false=>rfl
    | true =>
      have:=List.length_pos_of_mem (List.mem_filter.2 ⟨hx,e⟩)
      omega
  · intro h
    rw [List.filter_eq_nil_iff.2 fun x hx=>by have:=h x hx; simp at this; simp [this]]
    rfl
end Go.Proofs.YteehaobohaecmaaGreatDoor
namespace Go.Proofs.YteehaobohaecmaaGreatDoor
open Go
def lbF:List Fm→Fm→Nat
  |[],_=>0
  |x::l,f=>if bY x f < 0 then lbF l f+1 else 0
theorem aIB (f:Fm): ∀ l:List Fm,lbF l f≤l.length
  |[]=>Nat.le_refl _
  | x :: l => by
    rw [lbF]
    have:=aIB f l
    split <;> simp <;> omega
theorem rR {f:Fm}: ∀ {l:List Fm} {i:Nat},gO l→i < l.length→(bY (nth l i) f < 0↔i < lbF l f)
  |[],i,_,h=>absurd h (Nat.not_lt_zero _)
  | x :: l, 0, _, _ => by
    rw [lbF]
    show bY x f < 0↔_
    split <;> rename_i q
    · exact ⟨fun _=>Nat.succ_pos _,fun _=>q⟩
    · exact ⟨fun e=>(q e).elim,fun e=>absurd e (Nat.lt_irrefl _)⟩
  | x :: l, i + 1, hs, h => by
    have hs':=List.pairwise_cons.1 hs
    have hi:i < l.length:=by simpa using h
    have ih:=rR (f:=f) hs'.2 hi
    rw [lbF]
    show bY (nth l i) f < 0↔_
    split <;> rename_i q
    · rw [ih]; omega
    · refine ⟨fun e=>(q (kO (hs'.1 _ (dJ hi)) e)).elim,fun e=>absurd e (Nat.not_lt_zero _)⟩
theorem aMQ {l:List Fm} (hs:gO l) {i j:Nat} (h:i < j) (hj:j < l.length):bY (nth l i) (nth l j) < 0:=by
  have:=List.pairwise_iff_getElem.1 hs i j (by omega) hj h
  rwa [bR,bR] at this
theorem aHy {l:List Fm} (hs:gO l) (f:Fm):decide (lbF l f < l.length∧bY (nth l (lbF l f)) f=0)=l.any fun y=>eA y f:=by
  refine gE ?_
  rw [decide_eq_true_eq,List.any_eq_true]
  constructor
  · rintro ⟨h1,h2⟩
    exact ⟨_,dJ h1,by rw [jF _ _ h2]; exact xI f⟩
  · rintro ⟨y,hy,he⟩
    have:=(fS _ _).1 he
    subst this
    obtain ⟨i,hi,e⟩:=List.getElem_of_mem hy
    rw [bR hi] at e
    have h1: ¬i < lbF l y:=fun q=>by
      have:=(rR hs hi).2 q
      rw [e,mB] at this; omega
    have h2: ¬lbF l y < i:=fun q=>by
      have h3:=aMQ hs q hi
      rw [e] at h3
      have:=(rR hs (by omega)).1 h3
      omega
    have h3:lbF l y=i:=by omega
    rw [h3,e]
    exact ⟨hi,mB y⟩
theorem aMB (c d:Cl):decide ((iX (fun x=> !(c.any fun y=>eA y x)) d:Int)=0)=dQ c d:=by
  rw [aHH]; unfold dQ; congr 1; funext x; simp
theorem wP {α:Type} [Inhabited α] {p:α→Bool} {l:List α} {k:Nat} (h:k < l.length) (e:p (nth l k)=true):(l.take (k+1)).filter p=(l.take k).filter p++[nth l k]:=by
  rw [cU h,List.filter_append,List.filter_cons_of_pos e]; rfl
theorem aBx {α:Type} [Inhabited α] {p:α→Bool} {l:List α} {k:Nat} (h:k < l.length) (e: ¬p (nth l k)=true):(l.take (k+1)).filter p=(l.take k).filter p:=by
  rw [cU h,List.filter_append,List.filter_cons_of_neg e,List.filter_nil,List.append_nil]
theorem aFS {α:Type} (p:α→Bool) (l:List α) (k:Nat):((l.take k).filter p).length≤l.length:=Nat.le_trans (List.length_filter_le _ _) (by rw [List.length_take]; omega)
theorem aBm {s:List Cl} {c:Cl} (h:0 < (iX (fun d=>dQ c d) s:Int)):s=wth s c:=by
  have:=yJ (fun d=>dQ c d) s
  rw [decide_eq_true h] at this
  unfold wth; rw [if_pos this.symm]
theorem aGg {s:List Cl} {c:Cl} (h: ¬0 < (iX (fun d=>dQ c d) s:Int)):s.filter (fun d=> !dQ d c)++[c]=wth s c:=by
  have:=yJ (fun d=>dQ c d) s
  rw [decide_eq_false h] at this
  unfold wth; rw [if_neg (by rw [← this]; exact Bool.false_ne_true)]
theorem aDK {out:List Cl} {c:Cl} {b:List Cl} {j:Nat} (h:j < b.length):prC out c (b.take (j+1))=wth (prC out c (b.take j)) (unF c (nth b j)):=by
  unfold prC
  rw [cU h,List.map_append,aCS]; rfl
theorem aCz {a b:List Cl} {k:Nat} (h:k < a.length):prd (a.take (k+1)) b=prC (prd (a.take k) b) (nth a k) b:=by
  unfold prd
  rw [cU h,List.foldl_append]; rfl
theorem aLD {out:List Cl} {c:Cl} {b:List Cl} (h:Ant out) (hc:gO c):Ant (prC out c b):=nW h fun d hd=>by
  obtain ⟨e,_,rfl⟩:=List.mem_map.1 hd
  exact lL hc
theorem aGk (out:List Cl) (c:Cl) (b:List Cl):(prC out c b).length≤out.length+b.length:=by
  have:=oE (b.map (unF c)) out
  rw [List.length_map] at this
  exact this
theorem Ant.at_ {s:List Cl} (h:Ant s) {k:Nat} (hk:k < s.length):gO (nth s k):=h.srt _ (dJ hk)
def cZ (o:Option (List Cl)):List Cl:=o.getD []
def gU {α:Type} (o:Option α):Int:=match o with
  |some _=>0
  |none=>11
def gV (o:Option Fm):Fm:=o.getD zF
end Go.Proofs.YteehaobohaecmaaGreatDoor
namespace Go.Proofs.YteehaobohaecmaaGreatDoor
open Go
abbrev fdA (a b:Tr):List Int:=a.no.take (cmn a.ni b.ni)
abbrev fdB (a b:Tr):List Int:=b.no.take (cmn a.ni b.ni)
def fd (a b:Tr):List (List Int):=if cmn (fdA a b) (fdB a b) < min (fdA a b).length (fdB a b).length then [a.ni.take (aUY (fdA a b) (fdB a b)+1)] else []
theorem OK.same {o:Ob} (ok:OK o) {s t:Tr} (hs:s∈o.tr) (ht:t∈o.tr) {j:Nat} (hj:j < cmn s.ni t.ni):nth s.no j=nth t.no j:=by
  obtain ⟨a,ha,rfl⟩:=dY hs
  obtain ⟨b,hb,rfl⟩:=dY ht
  have key: ∀ a b,a < b→b < o.tr.length→ ∀ j,j < cmn (nth o.tr a).ni (nth o.tr b).ni→nth (nth o.tr a).no j=nth (nth o.tr b).no j:=by
    intro a b hab hb j hj
    by_cases e:nth (nth o.tr a).no j=nth (nth o.tr b).no j
    · exact e
    · have h1:=ok.cla a b hab hb
      have h2:=aOG.2 ⟨j,hj,e⟩
      omega
  by_cases e:a=b
  · subst e; rfl
  · by_cases h:a < b
    · exact key a b h hb j hj
    · rw [aJb] at hj
      exact (key b a (by omega) ha j hj).symm
end Go.Proofs.YteehaobohaecmaaGreatDoor
namespace Go.Proofs.YteehaobohaecmaaGreatDoor
open Go.Sort
theorem aBM {α:Type} {a l:List α} {x:α} (h:a.length < l.length):(a++l.drop a.length).set a.length x=a++[x]++l.drop (a.length+1):=by
  rw [List.drop_eq_getElem_cons h]
  rw [List.set_append_right _ _ (Nat.le_refl _),Nat.sub_self,List.set_cons_zero]; simp
end Go.Proofs.YteehaobohaecmaaGreatDoor
namespace Go.Proofs.YteehaobohaecmaaGreatDoor
open Go
instance:DecidableEq Fm:=fun a b=>decidable_of_iff (eA a b=true) (fS a b)
def dfK (L:List Fm):Nat→List Fm
  |0=>[]
  |j+1=>if j=0∨nth L j≠nth L (j - 1) then dfK L j++[nth L j] else dfK L j
def dfL (L:List Fm) (j:Nat):List Fm:=dfK L j++L.drop (dfK L j).length
theorem aEn (L:List Fm): ∀ j,(dfK L j).length≤j
  |0=>Nat.le_refl _
  | j + 1 => by
    have:=aEn L j
    simp only [dfK]; split <;> simp <;> omega
theorem aMX {L:List Fm} {j:Nat} (h:j≤L.length):(dfL L j).length=L.length:=by
  have:=aEn L j
  unfold dfL; rw [List.length_append,List.length_drop]; omega
theorem aFF {L:List Fm} {j k:Nat} (h:(dfK L j).length≤k):nth (dfL L j) k=nth L k:=by
  unfold dfL
  have e:nth (dfK L j++L.drop (dfK L j).length) ((dfK L j).length+(k - (dfK L j).length))=nth (L.drop (dfK L j).length) (k - (dfK L j).length):=aGS
  rw [aG3] at e
  rw [show (dfK L j).length+(k - (dfK L j).length)=k by omega] at e
  exact e
theorem jT {L:List Fm} {j:Nat} (h:j=0∨nth L j≠nth L (j - 1)):dfK L (j+1)=dfK L j++[nth L j]:=if_pos h
theorem kM {L:List Fm} {j:Nat} (h: ¬(j=0∨nth L j≠nth L (j - 1))):dfK L (j+1)=dfK L j:=if_neg h
theorem aI7 {L:List Fm} {j:Nat} (h: ¬(j=0∨nth L j≠nth L (j - 1))):dfL L (j+1)=dfL L j:=by unfold dfL; rw [kM h]
theorem aKW {L:List Fm} {j:Nat} (hj:j < L.length) (h:j=0∨nth L j≠nth L (j - 1)):(dfL L j).set (dfK L j).length (nth L j)=dfL L (j+1):=by
  have:=aEn L j
  unfold dfL
  rw [jT h,aBM (by omega)]
  simp
theorem aB0 {L:List Fm}: ∀ {j:Nat},j≤L.length→(∀ i,1≤i→i < j→nth L i≠nth L (i - 1))→dfK L j=L.take j
  |0,_,_=>by simp [dfK]
  | j + 1, hj, h => by
    rw [jT (by by_cases e:j=0; exact .inl e; exact .inr (h j (by omega) (by omega))),aB0 (by omega) fun i h1 h2=>h i h1 (by omega),cU (by omega)]
theorem aBH {L : List Fm} : ∀ {j : Nat}, j ≤ L.length → ∀ u, u ∈ dfK L j ↔ u ∈ L.take j
  |0,_,u=>by simp [dfK]
  | j + 1, hj, u => by
    have ih:=aBH (L:=L) (j:=j) (by omega) u
    rw [cU (by omega),List.mem_append,List.mem_singleton]
    by_cases h:j=0∨nth L j≠nth L (j - 1)
    · rw [jT h,List.mem_append,List.mem_singleton,ih]
    · rw [kM h,ih]
      refine ⟨.inl,fun q=>q.elim id fun e=>?_⟩
      have e2:nth L j=nth L (j - 1):=by
        by_cases e3:nth L j=nth L (j - 1)
        · exact e3
        · exact (h (.inr e3)).elim
      have:nth (L.take j) (j - 1)=u:=by rw [aDU (by omega),← e2,e]
      rw [← this]
      exact dJ (by rw [List.length_take]; omega)
theorem aKg {l:List Fm} (h: ∀ i,1≤i→i < l.length→nth l i≠nth l (i - 1)):dfK l l.length=l:=by
  rw [aB0 (Nat.le_refl _) h,List.take_length]
theorem aIK {l:List Fm} {k:Nat} (h1:1≤k) (hk:k < l.length) (h: ∀ i,1≤i→i < k→nth l i≠nth l (i - 1)) (he:nth l k=nth l (k - 1)):(dfK l (k+1)).length=k∧dfL l (k+1)=l:=by
  have e1:dfK l (k+1)=l.take k:=by
    rw [kM (by rintro (q|q); omega; exact q he),aB0 (by omega) h]
  have e2:(l.take k).length=k:=by simp; omega
  refine ⟨by rw [e1,e2],?_⟩
  unfold dfL; rw [e1,e2,List.take_append_drop]
theorem aIw {l:List Fm}: ∀ {j:Nat},0 < j→0 < (dfK l j).length
  |1,_=>by rw [show (1:Nat)=0+1 from rfl,jT (.inl rfl)]; simp
  | j + 2, _ => by
    have:=aIw (l:=l) (j:=j+1) (by omega)
    simp only [dfK] at this ⊢
    split
    · rw [List.length_append]; omega
    · exact this
theorem aTO {l:List Fm} {k j:Nat} (h:(dfK l (k+j)).length < k+j) (hj:1≤j):
    nth (dfL l (k+j)) (0+k+j)=nth l (k+j)∧nth (dfL l (k+j)) (0+k+(((j:Nat):Int) - (1:Int)).toNat)=nth l (k+j - 1):=by
  refine ⟨(aFF (by omega)).trans (by congr 1; omega),(aFF (by omega)).trans (by congr 1; omega)⟩
theorem aLO {l:List Fm} {j:Nat} (h:l.length≤j) (hj:j≤l.length):(dfL l j).take (dfK l j).length=dfK l l.length:=by
  have:j=l.length:=by omega
  subst this
  unfold dfL; rw [List.take_left]
theorem lK {f g:Fm} (h1: ¬bY f g < 0) (h2: ¬bY g f < 0):f=g:=by
  have:=jE f g
  exact jF f g (by omega)
theorem aFn {L : List Fm} (hs : L.Pairwise fun a b => ¬bY b a < 0) : ∀ {j : Nat}, j ≤ L.length → gO (dfK L j)
  |0,_=>List.Pairwise.nil
  | j + 1, hj => by
    have ih:=aFn hs (j:=j) (by omega)
    by_cases h:j=0∨nth L j≠nth L (j - 1)
    · rw [jT h]
      show List.Pairwise _ _
      rw [List.pairwise_append]
      refine ⟨ih,by simp,fun a ha b hb=>?_⟩
      rw [List.mem_singleton.1 hb]
      have ha':=(aBH (L:=L) (by omega) a).1 ha
      obtain ⟨i,hi,rfl⟩:=dY ha'
      rw [List.length_take] at hi
      rw [aDU (by omega)]
      have le: ∀ p q,p < q→q < L.length→ ¬bY (nth L q) (nth L p) < 0:=fun p q h1 h2=>by
        have:=(List.pairwise_iff_getElem.1 hs) p q (by omega) h2 h1
        rwa [bR,bR] at this
      have h1:=le i j (by omega) (by omega)
      by_cases e:bY (nth L i) (nth L j) < 0
      · exact e
      · exfalso
        have heq:nth L i=nth L j:=lK e h1
        have h2:=le (j - 1) j (by omega) (by omega)
        have h4:nth L j=nth L (j - 1):=by
          by_cases ei:i=j - 1
          · rw [← heq,ei]
          · have h3:=le i (j - 1) (by omega) (by omega)
            rw [heq] at h3
            exact lK h2 h3
        rcases h with h|h
        · omega
        · exact h h4
    · rw [kM h]; exact ih
theorem aQR {c d:Cl} (hc:gO c):dfK (srt bY (c++d)) (srt bY (c++d)).length=unF c d:=by
  refine pT (aFn (kW rX _) (Nat.le_refl _)) (lL hc) fun x=>?_
  rw [aBH (Nat.le_refl _),List.take_length,(jA bY _).mem_iff,List.mem_append,nA]
def eK (l:List Cl):Cl:=l.flatten
theorem pQ {l:List Cl} {k:Nat} (h:k < l.length):eK (l.take (k+1))=eK (l.take k)++nth l k:=by
  unfold eK; rw [cU h,List.flatten_append]; simp
theorem aGN {l:List Cl} {k:Nat} (h:k < l.length):(eK (l.take k)).length+(nth l k).length≤(eK l).length:=by
  have e:eK l=eK (l.take (k+1))++eK (l.drop (k+1)):=by unfold eK; rw [← List.flatten_append,List.take_append_drop]
  rw [e,pQ h]; simp
theorem aGs (c d:Cl):eK [c,d]=c++d:=by simp [eK]
end Go.Proofs.YteehaobohaecmaaGreatDoor
namespace Go.Proofs.YteehaobohaecmaaGreatDoor
open Go
abbrev fP (n:Nat) (s:List Cl):Prop:= ∀ c∈s,c.length≤n
theorem fP.at_ {n:Nat} {s:List Cl} (h:fP n s) {k:Nat} (hk:k < s.length):(nth s k).length≤n:=h _ (dJ hk)
theorem aJs {n:Nat} {out:List Cl} {c:Cl} {b:List Cl} (ho:fP n out) (hb: ∀ e∈b,c.length+e.length≤n):fP n (prC out c b):=fun d hd=>by
  rcases mL hd with h|h
  · exact ho d h
  · obtain ⟨e,he,rfl⟩:=List.mem_map.1 h
    exact Nat.le_trans (pM e c) (hb e he)
theorem xE {n:Nat} {a b:List Cl} (h: ∀ c∈a,∀ e∈b,c.length+e.length≤n):fP n (prd a b):=fun d hd=>by
  obtain ⟨c,hc,e,he,rfl⟩:=aFP hd
  exact Nat.le_trans (pM e c) (h c hc e he)
theorem aM8 (a b:List Cl):(prd a b).length≤a.length*b.length:=by
  have h:(yW [] a b).length≤_:=rS b a []
  rw [List.length_nil,Nat.zero_add] at h
  exact h
theorem aDJ {a b:List Cl} {k:Nat} (na:a.length≤64) (nb:b.length≤65536) (hk:k≤a.length):(prd (a.take k) b).length≤4194304:=by
  have h1:=aM8 (a.take k) b
  have h2:(a.take k).length≤64:=by rw [List.length_take]; omega
  exact Nat.le_trans h1 (Nat.le_trans (Nat.mul_le_mul h2 nb) (by decide))
theorem aKJ {a b:List Cl} (ha: ∀ k,k < a.length→gO (nth a k)) (k:Nat):Ant (prd (a.take k) b):=xY Ant.nil fun c hc=>by
  obtain ⟨i,hi,rfl⟩:=dY (List.mem_of_mem_take hc)
  exact ha i hi
theorem aHT {n m:Nat} {a b:List Cl} (la: ∀ k,k < a.length→(nth a k).length≤n) (lb: ∀ k,k < b.length→(nth b k).length≤m) (k:Nat):fP (n+m) (prd (a.take k) b):=xE fun c hc e he=>by
  obtain ⟨i,hi,rfl⟩:=dY (List.mem_of_mem_take hc)
  obtain ⟨j,hj,rfl⟩:=dY he
  have:=la i hi; have:=lb j hj
  omega
theorem aHK {n m:Nat} {out:List Cl} {c:Cl} {b:List Cl} (ho:fP (n+m) out) (hc:c.length≤n) (lb: ∀ k,k < b.length→(nth b k).length≤m) (j:Nat):fP (n+m) (prC out c (b.take j)):=aJs ho fun e he=>by
  obtain ⟨i,hi,rfl⟩:=dY (List.mem_of_mem_take he)
  have:=lb i hi
  omega
end Go.Proofs.YteehaobohaecmaaGreatDoor
namespace Go.Proofs.YteehaobohaecmaaGreatDoor
open Go
theorem fP.mono {n m:Nat} {s:List Cl} (h:fP n s) (hm:n≤m):fP m s:=fun c hc=>Nat.le_trans (h c hc) hm
theorem aDx: ∀ {l:List Fm} {n:Nat} {out s:List Cl},(∀ k,k < l.length→ ∀ t,cls (nth l k)=some t→fP n t)→fP n out→djL l out=some s→fP n s
  | [], n, out, s, _, h1, h => by
    rw [djL] at h
    split at h
    · cases h
    · cases h; exact h1
  | f :: l, n, out, s, hk, h1, h => by
    rw [djL] at h
    cases q:cls f with
    |none=>rw [q] at h; cases h
    | some t =>
      rw [q] at h
      refine aDx (fun k hl t ht=>hk (k+1) (by simpa using hl) t ht) (fun c hc=>?_) h
      rcases mL hc with h2|h2
      · exact h1 c h2
      · exact hk 0 (by simp) t q c h2
theorem aCN : ∀ {l : List Fm} {n : Nat} {out s : List Cl}, (∀ k, k < l.length → ∀ t, cls (nth l k) = some t → fP (nth l k).sz t) → fP n out → cjL l out = some s → fP (n + Fm.szs l) s
  |[],n,out,s,_,h1,h=>by rw [cjL] at h; cases h; exact h1.mono (Nat.le_add_right _ _)
  | f :: l, n, out, s, hk, h1, h => by
    rw [cjL] at h
    cases q:cls f with
    |none=>rw [q] at h; cases h
    | some t =>
      rw [q] at h
      simp only at h
      split at h
      · cases h
      · have h0:fP f.sz t:=hk 0 (by simp) t q
        have h2:fP (n+f.sz) (prd out t):=xE fun c hc e he=>by
          have:=h1 c hc; have:=h0 e he; omega
        have:=aCN (fun k hl t ht=>hk (k+1) (by simpa using hl) t ht) h2 h
        rw [Fm.szs]
        exact this.mono (by omega)
theorem Fm.sz_eq (f:Fm):f.sz=Fm.szs f.kids+1:=by cases f; rfl
theorem Fm.sz_pos (f:Fm):1≤f.sz:=by rw [Fm.sz_eq]; omega
theorem yC {n:Nat} {x:Fm} (h:1≤n):fP n [[x]]:=fun c hc=>by rw [List.mem_singleton.1 hc]; exact h
theorem oW (f:Fm): ∀ s,cls f=some s→fP f.sz s:=by
  refine gC (p:=fun f=> ∀ s,cls f=some s→fP f.sz s) (fun f ih s h=>?_) f
  have hp:=f.sz_pos
  rw [oD] at h
  split at h
  · cases h; exact fun c hc=>by rw [List.mem_singleton.1 hc]; exact Nat.zero_le _
  split at h
  · split at h
    · cases h; exact fun c hc=>absurd hc List.not_mem_nil
    · cases h; exact yC hp
  split at h
  · cases h; exact yC hp
  split at h
  · exact aDx (fun k hk t ht=>(ih k hk t ht).mono (Nat.le_of_lt (Fm.sz_kid hk))) (fun c hc=>absurd hc List.not_mem_nil) h
  split at h
  · have:=aCN (n:=0) (fun k hk t ht=>ih k hk t ht) (fun c hc=>by rw [List.mem_singleton.1 hc]; exact Nat.le_refl 0) h
    rw [Fm.sz_eq]
    exact this.mono (by omega)
  · split at h
    · cases h
    · cases h; exact yC hp
theorem aJd (a o:Int) (l:List Fm) (h: ∀ k,k < l.length→(mst (nth l k) a o).sz≤(nth l k).sz*(nth l k).sz*4):Fm.szs (l.map fun f=>mst f a o)≤Fm.szs l*Fm.szs l*4:=by
  induction l with
  |nil=>exact Nat.le_refl _
  | cons f l ih =>
    have h0:(mst f a o).sz≤f.sz*f.sz*4:=h 0 (by simp)
    have h1:=ih fun k hk=>h (k+1) (by simpa using hk)
    simp only [List.map_cons,Fm.szs]
    have:(f.sz+Fm.szs l)*(f.sz+Fm.szs l)*4=f.sz*f.sz*4+Fm.szs l*Fm.szs l*4+f.sz*Fm.szs l*8:=by
      rw [Nat.add_mul,Nat.mul_add,Nat.mul_add,Nat.mul_comm (Fm.szs l) f.sz]; omega
    omega
theorem aTF {a b:Nat} (h:a≤b):a*a≤b*b:=Nat.mul_le_mul h h
theorem aP1 (f:Fm) (a o:Int):okF f=true→(mst f a o).sz≤f.sz*f.sz*4:=by
  refine gC (p:=fun f=>okF f=true→(mst f a o).sz≤f.sz*f.sz*4) (fun f ih hf=>?_) f
  obtain ⟨hr,hk⟩:=bP hf
  obtain ⟨r1,r2,r3,r4,r5,r6,r7,r8,r9⟩:=dE hr
  have hp:=f.sz_pos
  have hq:f.sz≤f.sz*f.sz:=Nat.le_mul_of_pos_left _ hp
  have ht: ∀ b,(trF b).sz≤f.sz*f.sz*4:=fun b=>by
    have:(trF b).sz≤2:=by cases b <;> decide
    omega
  have K: ∀ k,k < f.kids.length→(mst (nth f.kids k) a o).sz≤(nth f.kids k).sz*(nth f.kids k).sz*4:=fun k h=>ih k h (hk k h)
  have two:f.kids.length=2→(mst (nth f.kids 1) a o).sz+(mst (nth f.kids 0) a o).sz+f.sz+2≤f.sz*f.sz*4:=fun h2=>by
    have k0:=K 0 (by omega)
    have k1:=K 1 (by omega)
    have e:f.sz=(nth f.kids 0).sz+(nth f.kids 1).sz+1:=by
      rw [Fm.sz_eq]
      match f.kids,h2 with
      |[x,y],_=>simp [Fm.szs,aHU,zA]
    have p0:=(nth f.kids 0).sz_pos
    have p1:=(nth f.kids 1).sz_pos
    rw [e]
    generalize (nth f.kids 0).sz=u at*
    generalize (nth f.kids 1).sz=v at*
    have:(u+v+1)*(u+v+1)*4=u*u*4+v*v*4+u*v*8+u*8+v*8+4:=by
      simp only [Nat.add_mul,Nat.mul_add,Nat.mul_one,Nat.one_mul]
      rw [Nat.mul_comm v u]; omega
    omega
  by_cases h2:f.op=2
  · rw [pE h2]; exact ht _
  by_cases h3:f.op=3
  · rw [oL h3]; exact ht _
  by_cases h4:f.op=4
  · rw [oI h4]; exact ht _
  by_cases h79:f.op=7∨f.op=9
  · rw [gR h79]
    have:=Fm.sz_kid (f:=f) (k:=0) (by have:=r4 (by omega); omega)
    omega
  by_cases h8:f.op=8
  · rw [qS h8 (r6 (.inl h8))]
    have:=two (r6 (.inl h8))
    simp only [Fm.sz,Fm.szs]; omega
  by_cases h10:f.op=10
  · rw [lP h10 (r6 (.inr h10))]
    have:=two (r6 (.inr h10))
    simp only [Fm.sz,Fm.szs]; omega
  rw [nT (by omega)]
  have h:=aJd a o f.kids K
  have e:=f.sz_eq
  simp only [Fm.sz]
  rw [e]
  generalize Fm.szs f.kids=u at*
  have:(u+1)*(u+1)*4=u*u*4+u*8+4:=by
    simp only [Nat.add_mul,Nat.mul_add,Nat.mul_one,Nat.one_mul]; omega
  omega
end Go.Proofs.YteehaobohaecmaaGreatDoor
namespace Go.Proofs.YteehaobohaecmaaGreatDoor
open Go
theorem aN1 {α:Type} {o:Option α} (h: ¬gU o≠0): ∃ s,o=some s:=by
  cases o with
  |none=>exact (h (show (11:Int)≠0 by decide)).elim
  |some s=>exact ⟨s,rfl⟩
theorem jI {α:Type} {o:Option α} (h:gU o≠0):o=none:=by
  cases o with
  |none=>rfl
  |some s=>exact (h rfl).elim
theorem kA {o:Option (List Cl)} (h: ¬gU o≠0):o=some (cZ o):=by
  obtain ⟨s,rfl⟩:=aN1 h; rfl
theorem aA1 {out z:List Cl} {j:Nat} (h:j < z.length):wths out (z.take (j+1))=wth (wths out (z.take j)) (nth z j):=by
  rw [cU h,aCS]; rfl
theorem tY (out z:List Cl) (j:Nat):(wths out (z.take j)).length≤out.length+z.length:=by
  have:=oE (z.take j) out
  rw [List.length_take] at this
  omega
theorem aAX {out z:List Cl} (ho:Ant out) (hz:Ant z) (j:Nat):Ant (wths out (z.take j)):=nW ho fun c hc=>hz.srt c (List.mem_of_mem_take hc)
theorem yN {n:Nat} {out z:List Cl} (ho:fP n out) (hz:fP n z) (j:Nat):fP n (wths out (z.take j)):=fun c hc=>by
  rcases mL hc with h|h
  · exact ho c h
  · exact hz c (List.mem_of_mem_take h)
theorem aKK {l:List Fm} {k:Nat} (hk:k < l.length) (hok:okF (nth l k)=true) (h: ¬gU (cls (nth l k))≠0):GdS (cZ (cls (nth l k)))∧fP (Fm.szs l) (cZ (cls (nth l k)))∧fP (nth l k).sz (cZ (cls (nth l k))):=
  ⟨jS _ hok _ (kA h),(oW _ _ (kA h)).mono (Fm.szs_nth hk),oW _ _ (kA h)⟩
theorem aLM {n:Nat} (h:(if 64 < n then (11:Int) else 0)≠0):64 < n:=by
  by_cases q:64 < n
  · exact q
  · rw [if_neg q] at h; exact (h rfl).elim
theorem aRs {n:Nat} (h: ¬(if 64 < n then (11:Int) else 0)≠0): ¬64 < n:=fun q=>by
  rw [if_pos q] at h; exact h (by decide)
theorem aDb {l:List Fm} {k:Nat} (h:k < l.length):Fm.szs (l.take (k+1))=Fm.szs (l.take k)+(nth l k).sz:=by
  have app: ∀ a b:List Fm,Fm.szs (a++b)=Fm.szs a+Fm.szs b:=fun a b=>by
    induction a with
    |nil=>simp [Fm.szs]
    |cons x a ih=>simp only [List.cons_append,Fm.szs,ih]; omega
  rw [cU h,app]; simp [Fm.szs]
theorem nV: ∀ (l:List Fm) (k:Nat),Fm.szs (l.take k)≤Fm.szs l
  |[],k=>by simp
  |f::l,0=>by simp [Fm.szs]
  | f :: l, k + 1 => by
    have:=nV l k
    simp only [List.take_succ_cons,Fm.szs]; omega
theorem aFe {out z:List Cl} (ho:GdS out) (hz:GdS z) (h: ¬64 < (prd out z).length):GdS (prd out z):=⟨aFD ho.ant,eU.prd ho.at_ hz.at_,by omega⟩
theorem aFI {l:List Fm} {k:Nat} {out z:List Cl} (hk:k < l.length) (ho:fP (Fm.szs (l.take k)) out) (hz:fP (nth l k).sz z):fP (Fm.szs (l.take (k+1))) (prd out z):=by
  rw [aDb hk]
  exact xE fun c hc e he=>Nat.add_le_add (ho c hc) (hz e he)
end Go.Proofs.YteehaobohaecmaaGreatDoor
namespace Go.Proofs.YteehaobohaecmaaGreatDoor
open Go
section
variable {f:Fm} {s:List Cl} {k:Nat} {c:Cl}
theorem aPY (h:gU (cls f)≠0):can f=none:=by unfold can; rw [jI h]; rfl
theorem aKF (h: ¬gU (cls f)≠0):can f=some (fin (cZ (cls f))):=by
  have q:=kA h
  unfold can; rw [q]; rfl
theorem aOg (h:s.length=0):fin s=noF:=if_pos h
theorem aNy (hk:k < s.length) (h:(nth s k).length=0):fin s=aEO:=by
  unfold fin
  rw [if_neg (by omega),if_pos (List.any_eq_true.2 ⟨_,dJ hk,decide_eq_true h⟩)]
theorem aF3 (hn: ∀ i,i < s.length→(nth s i).length≠0): ¬s.any (fun c=>decide (c.length=0))=true:=fun q=>by
  obtain ⟨c,hc,e⟩:=List.any_eq_true.1 q
  obtain ⟨i,hi,rfl⟩:=dY hc
  exact hn i hi (of_decide_eq_true e)
theorem aND (hn: ∀ i,i < s.length→(nth s i).length≠0) (h1:s.length=1):fin s=nth (s.map clF) 0:=by
  unfold fin
  rw [if_neg (by omega),if_neg (aF3 hn),if_pos h1,fT (by omega)]
theorem aNL (hn: ∀ i,i < s.length→(nth s i).length≠0) (h0:s.length≠0) (h1:s.length≠1):fin s=.nd 6 0 (srt bY (s.map clF)):=by
  unfold fin
  rw [if_neg h0,if_neg (aF3 hn),if_neg h1]
theorem aUx (h:c.length=1):clF c=nth c 0:=if_pos h
theorem aSz (h:c.length≠1):clF c=.nd 5 0 c:=if_neg h
theorem aTd (hk:k < s.length) (h:(nth s k).length=1):(s.take (k+1)).map clF=(s.take k).map clF++[nth (nth s k) 0]:=by
  rw [gD hk,aUx h]
theorem aSy (hk:k < s.length) (h:(nth s k).length≠1):(s.take (k+1)).map clF=(s.take k).map clF++[.nd 5 0 (nth s k)]:=by
  rw [gD hk,aSz h]
end
theorem aEN {P:Program} {f id ver n m:Nat} {rest:List V} {H:aP} {v:V} {H':aP} (h:eR P f (.ms id ver 0 n::rest) H v H') (e:m=n):eR P f (.ms id ver 0 m::rest) H v H':=e ▸ h
mutual
theorem xO: ∀ (f:Fm) (b:Bool),(nrm f b).sz≤2*f.sz
  | .nd o a [], b => by
    rw [nrm]
    have h:(Fm.nd o a []).sz=1:=by rw [Fm.sz,Fm.szs]
    split
    · simp [Fm.sz,Fm.szs]
    · split <;> simp [Fm.sz,Fm.szs]
  | .nd o a (f :: l), b => by
    have h1:=xO f b
    have h2:=xO f (!b)
    have h3:=aFi l b
    rw [nrm]
    split
    · rw [Fm.sz,Fm.szs]; omega
    · rw [Fm.sz,Fm.szs,Fm.sz,Fm.szs]
      omega
theorem aFi: ∀ (l:List Fm) (b:Bool),Fm.szs (xS l b)≤2*Fm.szs l
  |[],_=>by rw [xS,Fm.szs]; omega
  | f :: l, b => by
    have h1:=xO f b
    have h2:=aFi l b
    rw [xS,Fm.szs,Fm.szs]; omega
end
section
variable {f:Fm} {a o:Int} {k:Nat} {g:List Fm}
theorem wH (h: ¬gU (can f)≠0):can f=some (gV (can f)):=by
  obtain ⟨s,e⟩:=aN1 h
  rw [e]; rfl
theorem aGF (h:gU (can f)≠0):chk f=(zF,gU (can f)):=by
  rw [aC9 (jI h),jI h]; rfl
theorem aGb (h: ¬gU (can f)≠0) (h2:cX (gV (can f))≠0):chk f=(zF,cX (gV (can f))):=aF7 (wH h) h2
theorem aGy (h: ¬gU (can f)≠0) (h2: ¬cX (gV (can f))≠0):chk f=(gV (can f),0):=yX (wH h) (by omega)
theorem aJM (h:cX f≠0):bK f=(zF,cX f):=if_pos h
theorem aEr (h: ¬cX f≠0):bK f=chk (nrm f false):=if_neg h
theorem aIi (h:cX f≠0):stM f a o=(zF,cX f):=if_pos h
theorem aIS (h: ¬cX f≠0) (h2:a < 0∨64≤a∨o < 0∨1048576 < o):stM f a o=(zF,2):=by unfold stM; rw [if_neg h,if_pos h2]
theorem aJk (h: ¬cX f≠0) (h2: ¬(a < 0∨64≤a∨o < 0∨1048576 < o)) (h3:(bK f).2≠0):stM f a o=(zF,(bK f).2):=by unfold stM; rw [if_neg h,if_neg h2,if_pos h3]
theorem aKu (h: ¬cX f≠0) (h2: ¬(a < 0∨64≤a∨o < 0∨1048576 < o)) (h3: ¬(bK f).2≠0):stM f a o=chk (mst (bK f).1 a o):=by unfold stM; rw [if_neg h,if_neg h2,if_neg h3]
theorem rV (h: ¬(bK f).2≠0):cX (bK f).1=0:=by
  unfold bK at h ⊢
  by_cases q:cX f≠0
  · rw [if_pos q] at h; exact absurd q h
  · rw [if_neg q] at h ⊢
    unfold chk at h ⊢
    split
    · rename_i e; rw [e] at h; exact absurd (by decide) h
    · rename_i g e
      rw [e] at h
      simp only at h
      split
      · rename_i q2; rw [if_pos q2] at h; exact absurd q2 h
      · rename_i q2; exact Decidable.of_not_not q2
theorem aGC (ho: ¬(f.op=1∨f.op=2∨f.op=3∨f.op=4∨f.op=5∨f.op=6)) (hc:fA f.kids=(fA (f.kids.drop k)).map fun r=>g++r) (hk:k < f.kids.length) (h:gU (can (nth f.kids k))≠0):cls f=none:=by
  rw [vJ ho,hc,aLg hk (jI h)]; rfl
theorem aFy (hc:fA f.kids=(fA (f.kids.drop k)).map fun r=>g++r) (hk:k < f.kids.length) (h: ¬gU (can (nth f.kids k))≠0):fA f.kids=(fA (f.kids.drop (k+1))).map fun r=>(g++[gV (can (nth f.kids k))])++r:=by
  rw [hc,aF6 hk (wH h)]
  cases fA (f.kids.drop (k+1)) <;> simp
theorem aAb (ho: ¬(f.op=1∨f.op=2∨f.op=3∨f.op=4∨f.op=5∨f.op=6)) (hc:fA f.kids=(fA (f.kids.drop k)).map fun r=>g++r) (hk:f.kids.length≤k):cls f=some [[.nd f.op 0 g]]:=by
  rw [vJ ho,hc,aKT hk]; simp
theorem aF2 (h0: ¬cX f≠0) (h: ¬(bK f).2≠0):okF (bK f).1=true∧nnf (bK f).1=true:=by
  have ho:=xQ f (fB (by omega)) false
  have hn:=aBW f (fB (by omega)) false
  rw [aEr h0] at h ⊢
  by_cases q:gU (can (nrm f false))≠0
  · rw [aGF q] at h; exact absurd q h
  · by_cases q2:cX (gV (can (nrm f false)))≠0
    · rw [aGb q q2] at h; exact absurd q2 h
    · rw [aGy q q2]
      have c:=pH ho hn (wH q)
      exact ⟨c.ok,c.nn⟩
theorem aGv (ho:okF f=true) (hz:f.sz≤4096):(mst f a o).sz≤268435456:=by
  have h:=aP1 f a o ho
  have h2:=aTF hz
  omega
end
end Go.Proofs.YteehaobohaecmaaGreatDoor
namespace Go.Proofs.YteehaobohaecmaaGreatDoor
open Go Go.Lib
theorem aBc (u:Nat): ∀ c∈decDigits u,48≤c.toNat∧c.toNat≤57:=by
  induction u using Nat.strongRecOn with
  | _ u ih =>
    intro c hc
    have one: ∀ i,i < 10→ ∀ c,c=UInt8.ofNat (48+i)→48≤c.toNat∧c.toNat≤57:=fun i hi c e=>by
      rw [e,UInt8.toNat_ofNat']; omega
    rw [decDigits] at hc
    split at hc
    · rename_i h
      exact one u h c (by simpa using hc)
    · rename_i h
      rcases List.mem_append.1 hc with h1|h1
      · exact ih (u / 10) (Nat.div_lt_self (by omega) (by omega)) c h1
      · exact one (u % 10) (Nat.mod_lt _ (by omega)) c (by simpa using h1)
theorem aGo (u:Nat):(decDigits u).foldl (fun n c=>n*10+(c.toNat - 48)) 0=u:=by
  induction u using Nat.strongRecOn with
  | _ u ih =>
    have one: ∀ i,i < 10→(UInt8.ofNat (48+i)).toNat - 48=i:=fun i hi=>by
      rw [UInt8.toNat_ofNat']; omega
    rw [decDigits]
    split
    · rename_i h
      simp only [List.foldl_cons,List.foldl_nil,Nat.zero_mul,Nat.zero_add]
      exact one u h
    · rename_i h
      rw [List.foldl_append,ih (u / 10) (Nat.div_lt_self (by omega) (by omega))]
      simp only [List.foldl_cons,List.foldl_nil]
      rw [one (u % 10) (Nat.mod_lt _ (by omega))]
      omega
theorem aF9 {u v:Nat} (h:decDigits u=decDigits v):u=v:=by rw [← aGo u,h,aGo]
theorem aRy (u:Nat):decDigits u≠[]:=fun e=>by
  have h:=decDigits_length u
  rw [e] at h
  have:=nDigits_pos u
  simp at h; omega
theorem aIC (n:Int): ∀ c∈itoa n,c.toNat=45∨(48≤c.toNat∧c.toNat≤57):=by
  intro c hc
  unfold itoa at hc
  split at hc
  · rcases List.mem_cons.1 hc with h|h
    · rw [h]; exact .inl rfl
    · exact .inr (aBc _ c h)
  · exact .inr (aBc _ c hc)
theorem aDn {m n:Int} (h:itoa m=itoa n):m=n:=by
  have neg: ∀ a b:Nat,45::decDigits a≠decDigits b:=fun a b e=>by
    have:=aBc b 45 (by rw [← e]; exact List.mem_cons_self ..)
    have h2:(45:UInt8).toNat=45:=rfl
    omega
  unfold itoa at h
  split at h <;> split at h
  · injection h with _ h
    have:=aF9 h; omega
  · exact absurd h (neg _ _)
  · exact absurd h.symm (neg _ _)
  · have:=aF9 h; omega
theorem aK9 (n:Int):itoa n≠[]:=by
  unfold itoa
  split
  · simp
  · exact aRy _
theorem aFB: ∀ {k u:Nat},1≤k→u < 10 ^ k→nDigits u≤k
  |0,_,h,_=>absurd h (by omega)
  |1,u,_,h=>by rw [nDigits_small (by simpa using h)]; exact Nat.le_refl _
  | k + 2, u, _, h => by
    by_cases q:u < 10
    · rw [nDigits_small q]; omega
    · rw [nDigits_big q]
      have:=aFB (k:=k+1) (u:=u / 10) (by omega) (Nat.div_lt_of_lt_mul (by rw [Nat.pow_succ] at h; omega))
      omega
theorem sX {n:Int} (h0:0≤n) (h1:n≤1048576):(itoa n).length≤7:=by
  unfold itoa
  rw [if_neg (by omega),decDigits_length]
  exact aFB (by omega) (by omega)
mutual
def kyF:Fm→List UInt8
  | .nd o a l=>itoa o++46::(itoa a++40::(kyL l++[41]))
def kyL:List Fm→List UInt8
  |[]=>[]
  |f::l=>kyF f++kyL l
end
theorem xR (f:Fm):kyF f=itoa f.op++46::(itoa f.arg++40::(kyL f.kids++[41])):=by cases f; rw [kyF]; rfl
theorem aBd: ∀ l m:List Fm,kyL (l++m)=kyL l++kyL m
  |[],_=>rfl
  |f::l,m=>by rw [List.cons_append,kyL,kyL,aBd l m,List.append_assoc]
theorem aJ2 {l:List Fm} {k:Nat} (h:k < l.length):kyL (l.take (k+1))=kyL (l.take k)++kyF (nth l k):=by
  rw [cU h,aBd,kyL,kyL,List.append_nil]
theorem aEF {c:UInt8}: ∀ {a b x y:List UInt8},c∉a→c∉b→a++c::x=b++c::y→a=b∧x=y
  |[],[],x,y,_,_,h=>by injection h with _ h; exact ⟨rfl,h⟩
  |[],d::b,x,y,_,hb,h=>by injection h with h _; exact absurd (List.mem_cons.2 (.inl h)) hb
  |d::a,[],x,y,ha,_,h=>by injection h with h _; exact absurd (List.mem_cons.2 (.inl h.symm)) ha
  | d :: a, e :: b, x, y, ha, hb, h => by
    injection h with h1 h2
    obtain ⟨g1,g2⟩:=aEF (fun q=>ha (List.mem_cons_of_mem _ q)) (fun q=>hb (List.mem_cons_of_mem _ q)) h2
    exact ⟨by rw [h1,g1],g2⟩
theorem sY {n:Int} {c:UInt8} (h:c.toNat=46∨c.toNat=40∨c.toNat=41):c∉itoa n:=fun q=>by
  have:=aIC n c q; omega
theorem aKR (f:Fm) (x y:List UInt8):kyF f++x≠41::y:=fun e=>by
  rw [xR,List.append_assoc] at e
  cases q:itoa f.op with
  |nil=>exact aK9 _ q
  | cons c r =>
    rw [q] at e
    injection e with e _
    exact sY (n:=f.op) (c:=41) (.inr (.inr rfl)) (by rw [q,e]; exact List.mem_cons_self ..)
mutual
theorem aGi: ∀ (f g:Fm) (x y:List UInt8),kyF f++x=kyF g++y→f=g∧x=y
  | .nd o a l, .nd p b m, x, y, h => by
    rw [kyF,kyF] at h
    simp only [List.append_assoc,List.cons_append] at h
    obtain ⟨h1,h⟩:=aEF (sY (.inl rfl)) (sY (.inl rfl)) h
    obtain ⟨h2,h⟩:=aEF (sY (.inr (.inl rfl))) (sY (.inr (.inl rfl))) h
    obtain ⟨h3,h⟩:=aFU l m x y (by simpa using h)
    exact ⟨by rw [aDn h1,aDn h2,h3],h⟩
theorem aFU: ∀ (l m:List Fm) (x y:List UInt8),kyL l++41::x=kyL m++41::y→l=m∧x=y
  |[],[],x,y,h=>by injection h with _ h; exact ⟨rfl,h⟩
  | [], g :: m, x, y, h => by
    rw [kyL,kyL,List.append_assoc] at h
    exact absurd h.symm (aKR g _ _)
  | f :: l, [], x, y, h => by
    rw [kyL,kyL,List.append_assoc] at h
    exact absurd h (aKR f _ _)
  | f :: l, g :: m, x, y, h => by
    rw [kyL,kyL,List.append_assoc,List.append_assoc] at h
    obtain ⟨h1,h⟩:=aGi f g _ _ h
    obtain ⟨h2,h⟩:=aFU l m x y h
    exact ⟨by rw [h1,h2],h⟩
end
theorem aRU {f g:Fm} (h:kyF f=kyF g):f=g:=(aGi f g [] [] (by rw [h])).1
theorem aLY {l:List Fm} (h: ∀ k,k < l.length→(kyF (nth l k)).length≤32*(nth l k).sz):(kyL l).length≤32*Fm.szs l:=by
  induction l with
  |nil=>simp [kyL,Fm.szs]
  | cons f l ih =>
    have h1:=h 0 (by simp)
    have h2:=ih fun k hk=>h (k+1) (by simpa using hk)
    rw [kyL,List.length_append,Fm.szs]
    have:nth (f::l) 0=f:=rfl
    rw [this] at h1
    omega
theorem aPz (f:Fm):okF f=true→(kyF f).length≤32*f.sz:=by
  induction hn:f.sz using Nat.strongRecOn generalizing f with
  | _ n ih =>
    intro hok
    subst hn
    have hp:=bP hok
    have hr:=dE hp.1
    have h1:=aLY (l:=f.kids) fun k hk=>ih _ (Fm.sz_kid hk) _ rfl (hp.2 k hk)
    have h2:=sX (n:=f.op) (by omega) (by omega)
    have h3:=sX (n:=f.arg) (by omega) (by omega)
    have h4:=Fm.sz_eq f
    rw [xR]
    simp only [List.length_append,List.length_cons,List.length_nil]
    omega
theorem aFm {f:Fm} (hok:okF f=true) (hz:f.sz≤4096):(kyF f).length≤131072:=by
  have:=aPz f hok; omega
theorem aCu (l:List Fm) (k:Nat):(kyL (l.take k)).length≤(kyL l).length:=by
  have h:kyL l=kyL (l.take k)++kyL (l.drop k):=by rw [← aBd,List.take_append_drop]
  rw [h,List.length_append]; omega
theorem aQD {f:Fm} (hok:okF f=true) (hz:f.sz≤4096) (k:Nat):(kyL (f.kids.take k)).length≤131072:=by
  have h1:=aCu f.kids k
  have h2:=aFm hok hz
  have h3:(kyL f.kids).length≤(kyF f).length:=by
    rw [xR f]
    simp only [List.length_append,List.length_cons,List.length_nil]; omega
  omega
end Go.Proofs.YteehaobohaecmaaGreatDoor
namespace Go.Proofs.YteehaobohaecmaaGreatDoor
open Go
section
variable {f:Fm} {i o:Int}
theorem aLk (h: ¬(chk f).2≠0):cX (chk f).1=0:=by
  by_cases q:gU (can f)≠0
  · rw [aGF q] at h; exact absurd q h
  · by_cases q2:cX (gV (can f))≠0
    · rw [aGb q q2] at h; exact absurd q2 h
    · rw [aGy q q2]; exact Decidable.of_not_not q2
theorem wQ (h: ¬(stM f i o).2≠0):cX (stM f i o).1=0:=by
  by_cases q:cX f≠0
  · rw [aIi q] at h; exact absurd q h
  · by_cases q2:i < 0∨64≤i∨o < 0∨1048576 < o
    · rw [aIS q q2] at h; exact absurd (by decide) h
    · by_cases q3:(bK f).2≠0
      · rw [aJk q q2 q3] at h; exact absurd q3 h
      · rw [aKu q q2 q3] at h ⊢; exact aLk h
end
end Go.Proofs.YteehaobohaecmaaGreatDoor
namespace Go.Proofs.YteehaobohaecmaaGreatDoor
end Go.Proofs.YteehaobohaecmaaGreatDoor
namespace Go.Proofs.YteehaobohaecmaaGreatDoor
open Go
mutual
def szl:Fm→Int→Int
  | .nd _ _ ks,lv=>if 20 < lv∨50 < ks.length then 1000 else kY ks 1 lv
def kY:List Fm→Int→Int→Int
  |[],n,_=>n
  |g::l,n,lv=>if 1000 < n+szl g (lv+1) then 1000 else kY l (n+szl g (lv+1)) lv
end
theorem aJT (f:Fm) (lv:Int):szl f lv=if 20 < lv∨50 < f.kids.length then 1000 else kY f.kids 1 lv:=by cases f; rw [szl]; rfl
section
variable {l:List Fm} {n lv:Int} {k:Nat}
theorem aJl (h:k < l.length) (h2:1000 < n+szl (nth l k) (lv+1)):kY (l.drop k) n lv=1000:=by rw [cW h,kY,if_pos h2]
theorem aL9 (h:k < l.length) (h2: ¬1000 < n+szl (nth l k) (lv+1)):kY (l.drop k) n lv=kY (l.drop (k+1)) (n+szl (nth l k) (lv+1)) lv:=by rw [cW h,kY,if_neg h2]
theorem aIN (h:l.length≤k):kY (l.drop k) n lv=n:=by rw [List.drop_eq_nil_of_le h,kY]
end
mutual
theorem wI: ∀ (f:Fm) (lv:Int),1≤szl f lv∧szl f lv≤1000
  | .nd _ _ ks, lv => by
    rw [szl]
    split
    · omega
    · exact aDO ks 1 lv (by omega) (by omega)
theorem aDO: ∀ (l:List Fm) (n lv:Int),1≤n→n≤1000→1≤kY l n lv∧kY l n lv≤1000
  |[],n,lv,h1,h2=>by rw [kY]; omega
  | g :: l, n, lv, h1, h2 => by
    rw [kY]
    split
    · omega
    · have:=wI g (lv+1)
      exact aDO l _ lv (by omega) (by omega)
end
theorem aGQ: ∀ (l:List Fm) (n lv:Int),n≤1000→n≤kY l n lv
  |[],n,lv,h=>by rw [kY]; omega
  | g :: l, n, lv, h => by
    rw [kY]
    split
    · exact h
    · have:=wI g (lv+1)
      have:=aGQ l (n+szl g (lv+1)) lv (by omega)
      omega
mutual
theorem aAD: ∀ (f:Fm) (lv:Int),szl f lv≤12→szl f lv=f.sz
  | .nd o a k, lv, h => by
    rw [szl] at h ⊢
    split at h
    · omega
    · rename_i hn
      rw [if_neg hn,yB k 1 lv (by omega) h,Fm.sz]; omega
theorem yB: ∀ (l:List Fm) (n lv:Int),0≤n→kY l n lv≤12→kY l n lv=n+Fm.szs l
  |[],n,lv,_,_=>by rw [kY,Fm.szs]; simp
  | f :: l, n, lv, h0, h => by
    rw [kY] at h ⊢
    split at h
    · omega
    · rename_i hn
      have h1:=aGQ l (n+szl f (lv+1)) lv (by omega)
      have h2:=wI f (lv+1)
      rw [if_neg hn,yB l _ lv (by omega) h,aAD f (lv+1) (by omega),Fm.szs]; omega
end
theorem aKP {H:aP} {n:Nat} {f:Fm}:fzv true H (n+4) (.sl [[iV 4,iV 0,.sl [[iV 1,iV 0,.nilsl]]],[iV 4,iV 0,.sl [[iV f.op,iV f.arg,.sl (f.kids.map cF)]]]])=.sl ([Fm.nd 4 0 [Fm.nd 1 0 []],Fm.nd 4 0 [f]].map cF):=by
  have e:fzv true H (n+2) (.sl (f.kids.map cF))=.sl (f.kids.map cF):=fI _ _ (by simp)
  show V.sl [[iV 4,iV 0,.sl [[iV 1,iV 0,.sl []]]],[iV 4,iV 0,.sl [[iV f.op,iV f.arg,fzv true H (n+2) (.sl (f.kids.map cF))]]]]=_
  rw [e]
  simp [bN,Fm.op,Fm.arg,Fm.kids]
structure Pl where
  s:Int
  f:Fm
  w:List Int
instance:Inhabited Pl:=⟨⟨0,default,[]⟩⟩
def cPl (p:Pl):List V:=[iV p.s,iV p.f.op,iV p.f.arg,.sl (p.f.kids.map cF),.sl (p.w.map cI)]
def plK (p:Pl):Int×List UInt8:=(p.s,kyF p.f)
def fM (l:List Pl) (s:Int) (f:Fm):Bool:=l.any fun p=>decide (p.s=s)&&decide (p.f=f)
theorem yD {l:List Pl} {s:Int} {f:Fm}:(s,kyF f)∈l.map plK↔fM l s f=true:=by
  unfold fM
  rw [List.any_eq_true,List.mem_map]
  constructor
  · rintro ⟨p,h1,h2⟩
    injection h2 with h3 h4
    exact ⟨p,h1,by rw [decide_eq_true h3,decide_eq_true (aRU h4)]; rfl⟩
  · rintro ⟨p,h1,h2⟩
    rw [Bool.and_eq_true] at h2
    exact ⟨p,h1,by unfold plK; rw [of_decide_eq_true h2.1,of_decide_eq_true h2.2]⟩
def enE (f:Fm):Int:=hoE t0 f
def enB (f:Fm):Bool:=hoB t0 f
def fnd (l:List Pl) (q:Pl):Bool×Int:=
  if fM l q.s q.f=true then (false,0) else if enE q.f≠0 then (false,enE q.f) else if enB q.f=false then (true,0) else if l.length=4096 then (false,11) else (false,0)
def lO (l:List Pl) (q:Pl):List Pl:=if fM l q.s q.f=true∨enE q.f≠0∨enB q.f=false∨l.length=4096 then l else l++[q]
def mH (l:List Pl) (q:Pl):Prop:= ¬(fM l q.s q.f=true∨enE q.f≠0∨enB q.f=false∨l.length=4096)
instance (l:List Pl) (q:Pl):Decidable (mH l q):=by unfold mH; infer_instance
theorem fF {l:List Pl} {q:Pl} (h:mH l q):fnd l q=(false,0)∧lO l q=l++[q]:=by
  unfold mH at h
  unfold fnd lO
  refine ⟨?_,if_neg h⟩
  rw [if_neg (fun e=>h (.inl e)),if_neg (fun e=>h (.inr (.inl e))),if_neg (fun e=>h (.inr (.inr (.inl e)))),if_neg (fun e=>h (.inr (.inr (.inr e))))]
theorem pP {l:List Pl} {q:Pl} (h: ¬mH l q):lO l q=l:=if_pos (Decidable.of_not_not h)
theorem aGj {l:List Pl} {q:Pl} (h:fM l q.s q.f=true):fnd l q=(false,0):=if_pos h
theorem rQ {l:List Pl} {q:Pl} (h: ¬fM l q.s q.f=true) (h2:enE q.f≠0∨enB q.f=false):fnd l q=(decide (enE q.f=0),enE q.f):=by
  unfold fnd
  rw [if_neg h]
  by_cases e:enE q.f≠0
  · rw [if_pos e,decide_eq_false e]
  · have e2:enB q.f=false:=h2.resolve_left e
    rw [if_neg e,if_pos e2,Decidable.of_not_not e]; rfl
theorem aC1 {l:List Pl} {q:Pl} (h: ¬fM l q.s q.f=true) (h2: ¬(enE q.f≠0∨enB q.f=false)) (h3:l.length=4096):fnd l q=(false,11):=by
  unfold fnd
  rw [if_neg h,if_neg (fun e=>h2 (.inl e)),if_neg (fun e=>h2 (.inr e)),if_pos h3]
theorem vL {l:List Pl} {q:Pl} (h: ¬fM l q.s q.f=true) (h2: ¬(enE q.f≠0∨enB q.f=false)) (h3: ¬l.length=4096):mH l q:=by
  rintro (e|e|e|e)
  · exact h e
  · exact h2 (.inl e)
  · exact h2 (.inr e)
  · exact h3 e
theorem aBn {l:List Pl} {q:Pl} {ls:Int} {lk:List UInt8} (hk:ls=q.s→lk=kyF q.f→fM l q.s q.f=true) (h:(decide (q.s=ls∧kyF q.f=lk)||decide ((q.s,kyF q.f)∈List.map plK l))=true):fM l q.s q.f=true:=by
  simp only [Bool.or_eq_true,decide_eq_true_eq] at h
  rcases h with z|z
  · exact hk z.1.symm z.2.symm
  · exact yD.1 z
theorem aBv {l:List Pl} {q:Pl} {ls:Int} {lk:List UInt8} (h:(decide (q.s=ls∧kyF q.f=lk)||decide ((q.s,kyF q.f)∈List.map plK l))=false): ¬fM l q.s q.f=true∧(q.s,kyF q.f)∉List.map plK l:=by
  simp only [Bool.or_eq_false_iff,decide_eq_false_iff_not] at h
  exact ⟨fun e=>h.2 (yD.2 e),h.2⟩
abbrev zT:Tr:=⟨[],[]⟩
def vNx (m:M) (p:Pl) (a:Nat):Pl:=⟨nth (nth m.nx p.s.toNat) a,(stM p.f a (nth (nth m.ot p.s.toNat) a)).1,cat [p.w,[(a:Int)]]⟩
def vEr (m:M) (p:Pl) (a:Nat):Int:=(stM p.f a (nth (nth m.ot p.s.toNat) a)).2
def aCV (m:M) (w:List Int):Tr×Bool×Int:=(⟨w,nN m m.s w⟩,decide (frE m m.s w=0),frE m m.s w)
def iS (m:M) (p:Pl):Nat→Nat→List Pl→Option (Tr×Bool×Int)×List Pl
  |0,_,l=>(none,l)
  | n + 1, a, l => if vEr m p a ≠ 0 then (some (zT, false, vEr m p a), []) else if (fnd l (vNx m p a)).2 ≠ 0 then (some (zT, false, (fnd l (vNx m p a)).2), []) else
      if (fnd l (vNx m p a)).1=true then (some (aCV m (vNx m p a).w),[]) else iS m p n (a+1) (lO l (vNx m p a))
section
variable {m:M} {p:Pl} {n a:Nat} {l:List Pl}
theorem aDh (h:n≤a):iS m p (n - a) a l=(none,l):=by rw [show n - a=0 by omega,iS]
theorem aI2 (h:a < n) (h1:vEr m p a≠0):iS m p (n - a) a l=(some (zT,false,vEr m p a),[]):=by rw [show n - a=(n - (a+1))+1 by omega,iS,if_pos h1]
theorem aEI (h:a < n) (h1: ¬vEr m p a≠0) (h2:(fnd l (vNx m p a)).2≠0):iS m p (n - a) a l=(some (zT,false,(fnd l (vNx m p a)).2),[]):=by rw [show n - a=(n - (a+1))+1 by omega,iS,if_neg h1,if_pos h2]
theorem aKm (h:a < n) (h1: ¬vEr m p a≠0) (h2: ¬(fnd l (vNx m p a)).2≠0) (h3:(fnd l (vNx m p a)).1=true):iS m p (n - a) a l=(some (aCV m (vNx m p a).w),[]):=by rw [show n - a=(n - (a+1))+1 by omega,iS,if_neg h1,if_neg h2,if_pos h3]
theorem pN (h:a < n) (h1: ¬vEr m p a≠0) (h2: ¬(fnd l (vNx m p a)).2≠0) (h3: ¬(fnd l (vNx m p a)).1=true):iS m p (n - a) a l=iS m p (n - (a+1)) (a+1) (lO l (vNx m p a)):=by rw [show n - a=(n - (a+1))+1 by omega,iS,if_neg h1,if_neg h2,if_neg h3]
end
def mJ (m : M) : Nat → Nat → List Pl → Tr × Bool × Int
  |0,_,_=>(zT,false,0)
  | n + 1, i, l => if i < l.length then match iS m (nth l i) m.i.toNat 0 l with
      |(some r,_)=>r
      |(none,l2)=>mJ m n (i+1) l2
    else (zT,false,0)
section
variable {m:M} {i:Nat} {l l2:List Pl} {r:Tr×Bool×Int}
theorem aDu (h:l.length≤i):mJ m (4097 - i) i l=(zT,false,0):=by
  cases q:4097 - i with
  |zero=>rw [mJ]
  |succ n=>rw [mJ,if_neg (by omega)]
theorem jK (h:i < l.length) (hl:l.length≤4096) (hr:iS m (nth l i) m.i.toNat 0 l=(some r,l2)):mJ m (4097 - i) i l=r:=by rw [show 4097 - i=(4097 - (i+1))+1 by omega,mJ,if_pos h,hr]
theorem aGR (h:i < l.length) (hl:l.length≤4096) (hr:iS m (nth l i) m.i.toNat 0 l=(none,l2)):mJ m (4097 - i) i l=mJ m (4097 - (i+1)) (i+1) l2:=by rw [show 4097 - i=(4097 - (i+1))+1 by omega,mJ,if_pos h,hr]
end
def vS (m:M) (f:Fm):Pl:=⟨m.s,(bK f).1,[]⟩
def vck (m:M) (f:Fm):Tr×Bool×Int:=
  if dM m≠0 then (zT,false,dM m) else if cX f≠0 then (zT,false,cX f) else if (bK f).2≠0 then (zT,false,(bK f).2)
  else if (fnd [] (vS m f)).2≠0∨(fnd [] (vS m f)).1=true then (zT,fnd [] (vS m f)) else mJ m 4097 0 (lO [] (vS m f))
section
variable {m:M} {f:Fm}
theorem aJh (h:dM m≠0):vck m f=(zT,false,dM m):=if_pos h
theorem aIt (h: ¬dM m≠0) (h1:cX f≠0):vck m f=(zT,false,cX f):=by unfold vck; rw [if_neg h,if_pos h1]
theorem aKv (h: ¬dM m≠0) (h1: ¬cX f≠0) (h2:(bK f).2≠0):vck m f=(zT,false,(bK f).2):=by unfold vck; rw [if_neg h,if_neg h1,if_pos h2]
theorem aJ6 (h: ¬dM m≠0) (h1: ¬cX f≠0) (h2: ¬(bK f).2≠0) (h3:(fnd [] (vS m f)).2≠0∨(fnd [] (vS m f)).1=true):vck m f=(zT,fnd [] (vS m f)):=by unfold vck; rw [if_neg h,if_neg h1,if_neg h2,if_pos h3]
theorem aIr (h: ¬dM m≠0) (h1: ¬cX f≠0) (h2: ¬(bK f).2≠0) (h3: ¬((fnd [] (vS m f)).2≠0∨(fnd [] (vS m f)).1=true)):vck m f=mJ m (4097 - 0) 0 (lO [] (vS m f)):=by unfold vck; rw [if_neg h,if_neg h1,if_neg h2,if_neg h3]
end
structure PlOK (m:M) (l:List Pl):Prop where
  len:l.length≤4096
  at_: ∀ j,j < l.length→0≤(nth l j).s∧(nth l j).s < m.nx.length∧cX (nth l j).f=0∧(nth l j).w.length≤j
theorem PlOK.put {m : M} {l : List Pl} {q : Pl} (h : PlOK m l) (h0 : 0 ≤ q.s ∧ q.s < m.nx.length) (h1 : cX q.f = 0) (h2 : q.w.length ≤ l.length) : PlOK m (lO l q) := by
  by_cases hn:mH l q
  · rw [(fF hn).2]
    unfold mH at hn
    have hl:=h.len
    have hl2:l.length≠4096:=fun e=>hn (.inr (.inr (.inr e)))
    refine ⟨by simp; omega,fun j hj=>?_⟩
    rw [List.length_append,List.length_singleton] at hj
    by_cases e:j < l.length
    · have e2:nth (l++[q]) j=nth l j:=by unfold nth; simp [List.getD_eq_getElem?_getD,List.getElem?_append_left e]
      rw [e2]; exact h.at_ j e
    · have e2:nth (l++[q]) j=q:=by
        obtain rfl:j=l.length:=by omega
        unfold nth; simp
      rw [e2]
      exact ⟨h0.1,h0.2,h1,by omega⟩
  · rw [pP hn]; exact h
theorem aJL (l:List Pl) (q:Pl):l.length≤(lO l q).length:=by
  unfold lO
  split
  · exact Nat.le_refl _
  · simp
theorem aHW {l:List Pl} {q:Pl} {j:Nat} (h:j < l.length):nth (lO l q) j=nth l j:=by
  unfold lO
  split
  · rfl
  · unfold nth; simp [List.getD_eq_getElem?_getD,List.getElem?_append_left h]
def aEG (m:M) (f:Fm):Bool:=decide (m.nx.length≤8∧m.ot.length≤8∧m.i≤4∧szl f 0≤12)
theorem aOm (f:Fm):kyF f≠[]:=by rw [xR]; simp
def aBq (l:List Pl) (ls:Int) (lk:List UInt8):Prop:= ∃ p∈l,p.s=ls∧kyF p.f=lk
theorem aGL {l:List Pl} {q:Pl} {ls:Int} {lk:List UInt8} (h:aBq l ls lk):ls=q.s→lk=kyF q.f→fM l q.s q.f=true:=by
  rintro h1 h2
  obtain ⟨p,g1,g2,g3⟩:=h
  exact yD.1 (List.mem_map.2 ⟨p,g1,by unfold plK; rw [g2,g3,h1,h2]⟩)
theorem zV {l:List Pl} {q:Pl}:aBq (l++[q]) q.s (kyF q.f):=⟨q,by simp,rfl,rfl⟩
theorem aIp {q:Pl} (h:mH [] q): ¬(decide ((fnd [] q).2≠0)||(fnd [] q).1)=true:=by rw [(fF h).1]; decide
theorem aJB {q:Pl} (h: ¬mH [] q):(decide ((fnd [] q).2≠0)||(fnd [] q).1)=true:=by
  have h1: ¬fM [] q.s q.f=true:=by simp [fM]
  by_cases h2:enE q.f≠0∨enB q.f=false
  · rw [rQ h1 h2]
    by_cases e:enE q.f=0
    · rw [decide_eq_true e]; simp
    · simp [e]
  · exact absurd (vL h1 h2 (by simp)) h
theorem aQ1 {q:Pl} (h:(decide ((fnd [] q).2≠0)||(fnd [] q).1)=true):(fnd [] q).2≠0∨(fnd [] q).1=true:=by simpa using h
theorem aQP {q:Pl} (h: ¬(decide ((fnd [] q).2≠0)||(fnd [] q).1)=true): ¬((fnd [] q).2≠0∨(fnd [] q).1=true):=by simpa using h
theorem aPG {m:M} {f:Fm} (hm: ¬dM m≠0) (hs:cX (bK f).1=0):PlOK m (lO [] (vS m f)):=by
  have mo:=fK (Decidable.of_not_not hm)
  exact PlOK.put ⟨by simp,fun j hj=>absurd hj (by simp)⟩ ⟨mo.2.2.2.2.1,mo.2.2.2.2.2.1⟩ hs (by simp [vS])
theorem aNR {m:M} (hm: ¬dM m≠0) {s:Int} (h0:0≤s) (h1:s < m.nx.length):s.toNat < m.nx.length∧s.toNat < m.ot.length∧((nth m.nx s.toNat).length:Int)=m.i∧((nth m.ot s.toNat).length:Int)=m.i:=by
  have mo:=fK (Decidable.of_not_not hm)
  have:=mo.2.2.2.2.2.2.2 s.toNat (by omega)
  exact ⟨by omega,by omega,this.1,this.2.1⟩
theorem aNf {m:M} (hm: ¬dM m≠0) {s:Int} (h0:0≤s) (h1:s < m.nx.length) {a:Nat} (ha:(a:Int) < m.i):0≤nth (nth m.nx s.toNat) a∧nth (nth m.nx s.toNat) a < m.nx.length:=by
  have mo:=fK (Decidable.of_not_not hm)
  have:=mo.2.2.2.2.2.2.2 s.toNat (by omega)
  have:=this.2.2 a (by omega)
  omega
theorem aLy {m:M} {l:List Pl} {p:Pl} {a k:Nat} (hm: ¬dM m≠0) (h:PlOK m l) (hp:0≤p.s∧p.s < m.nx.length∧cX p.f=0∧p.w.length≤k) (hk:k < l.length) (ha:(a:Int) < m.i) (he: ¬vEr m p a≠0):PlOK m (lO l (vNx m p a)):=
  h.put (aNf hm hp.1 hp.2.1 ha) (wQ he) (by simp only [vNx,cat,List.append_nil,List.length_append,List.length_singleton]; omega)
end Go.Proofs.YteehaobohaecmaaGreatDoor
namespace Go.Proofs.YteehaobohaecmaaGreatDoor
open Go
abbrev sNq (m:M) (p:Pl) (j:Nat):Fm×Int:=stM p.f (j:Int) (nth (nth m.ot p.s.toNat) j)
abbrev vNq (m:M) (p:Pl) (j:Nat):Pl:=⟨nth (nth m.nx p.s.toNat) j,(sNq m p j).1,cat [p.w,[(j:Int)]]⟩
end Go.Proofs.YteehaobohaecmaaGreatDoor
