/- Contracts of the functions that the law GF reaches, and the law itself, for every input; no condition. -/
import Derived.KernelRfl
import Derived.Test.YtmnnhjhkaepbaaaGreatProg
import Derived.Sort.Statements
import Derived.Test.YtmnnhjhkaepbaaaGreatLay4
set_option linter.unusedSimpArgs false
set_option linter.unusedVariables false
namespace Go.Proofs.YtmnnhjhkaepbaaaGreat
open Go
def fe (e:Nat→Int) (k:Nat):Nat→Int
  |0=>0
  |n+1=>if e k=0 then fe e (k+1) n else e k
theorem aDH {e:Nat→Int} {k N:Nat} (h:e k≠0) (hk:k < N):fe e k (N - k)=e k:=by
  obtain ⟨n,hn⟩: ∃ n,N - k=n+1:=⟨N - k - 1,by omega⟩
  rw [hn]; simp [fe,h]
theorem aDX {e:Nat→Int} {k N:Nat} (h:e k=0) (hk:k < N):fe e k (N - k)=fe e (k+1) (N - (k+1)):=by
  obtain ⟨n,hn⟩: ∃ n,N - k=n+1:=⟨N - k - 1,by omega⟩
  rw [hn,show N - (k+1)=n by omega]; simp [fe,h]
theorem aGW {e:Nat→Int} {k N:Nat} (hk:N≤k):fe e k (N - k)=0:=by
  rw [show N - k=0 by omega]; rfl
theorem cU {e : Nat → Int} : ∀ {n k : Nat}, fe e k n = 0 ↔ ∀ j, k ≤ j → j < k + n → e j = 0 := by
  intro n
  induction n with
  |zero=>intro k; simp only [fe,true_iff]; intro j h1 h2; omega
  | succ n ih =>
    intro k
    simp only [fe]
    split
    · rename_i h
      rw [ih]
      constructor
      · intro hh j h1 h2
        by_cases hj:j=k
        · subst hj; exact h
        · exact hh j (by omega) (by omega)
      · intro hh j h1 h2; exact hh j (by omega) (by omega)
    · rename_i h
      constructor
      · intro hh; exact (h hh).elim
      · intro hh; exact hh k (Nat.le_refl _) (by omega)
def fi (p:Nat→Bool) (k:Nat):Nat→Int
  |0=> -1
  |n+1=>if p k then k else fi p (k+1) n
theorem aDg {p:Nat→Bool} {k N:Nat} (h:p k=true) (hk:k < N):fi p k (N - k)=k:=by
  obtain ⟨n,hn⟩: ∃ n,N - k=n+1:=⟨N - k - 1,by omega⟩
  rw [hn]; simp [fi,h]
theorem aAi {p:Nat→Bool} {k N:Nat} (h:p k=false) (hk:k < N):fi p k (N - k)=fi p (k+1) (N - (k+1)):=by
  obtain ⟨n,hn⟩: ∃ n,N - k=n+1:=⟨N - k - 1,by omega⟩
  rw [hn,show N - (k+1)=n by omega]; simp [fi,h]
theorem aCP {p:Nat→Bool} {k N:Nat} (hk:N≤k):fi p k (N - k)= -1:=by
  rw [show N - k=0 by omega]; rfl
theorem aTt (p:Nat→Bool) (c:Int) (hc:c≠0): ∀ n k,decide (0≤fi p k n)=decide (fe (fun j=>if p j then c else 0) k n=c)∧(fe (fun j=>if p j then c else 0) k n=0∨fe (fun j=>if p j then c else 0) k n=c):=by
  intro n
  induction n with
  |zero=>intro k; simp [fi,fe,Ne.symm hc]
  | succ n ih =>
    intro k
    simp only [fi,fe]
    by_cases h:p k=true
    · simp [h,hc]
    · simp only [h,if_false,if_true]
      simpa using ih (k+1)
theorem bG {α:Type} [Inhabited α] {l:List α} {k:Nat} (h:k < l.length):l.take (k+1)=l.take k++[nth l k]:=by
  rw [← aO h,List.take_succ_eq_append_getElem h]
def wE (w:List Int) (n:Int) (k:Nat):Int:=if nth w k < 0∨n≤nth w k then 1 else 0
def gX (w:List Int) (n:Int):Int:=
  if n < 1∨1024 < n then 2 else if 1024 < w.length then 3 else fe (wE w n) 0 w.length
structure M where
  i:Int
  s:Int
  nx:List (List Int)
  ot:List (List Int)
abbrev mC (m:M):List V:=[iV m.i,iV m.s,aD m.nx,aD m.ot]
def cell (l:List (List Int)) (s a:Int):Int:=nth (nth l s.toNat) a.toNat
def aAT (m:M) (s a:Nat):Int:=if nth (nth m.nx s) a < 0∨m.nx.length≤nth (nth m.nx s) a∨nth (nth m.ot s) a < 0∨1048576 < nth (nth m.ot s) a then 2 else 0
def wT (m:M) (s:Nat):Int:=
  if ((nth m.nx s).length:Int)≠m.i∨((nth m.ot s).length:Int)≠m.i then 1
  else fe (aAT m s) 0 m.i.toNat
def aV (m:M):Int:=
  if m.i < 1∨64 < m.i then 2 else if m.nx.length=0 then 19 else if 128 < m.nx.length then 11 else if m.s < 0∨m.nx.length≤m.s then 2
  else if m.ot.length≠m.nx.length then 1 else fe (wT m) 0 m.nx.length
def eA (m:M):Int→List Int→List Int
  |_,[]=>[]
  |s,a::w=>cell m.ot s a::eA m (cell m.nx s a) w
def eJ (m:M):Int→List Int→Int
  |s,[]=>s
  |s,a::w=>eJ m (cell m.nx s a) w
theorem kO (m:M): ∀ (w:List Int) (s:Int),(eA m s w).length=w.length
  |[],_=>rfl
  |a::w,s=>by simp [eA,kO m w]
theorem iO (m:M): ∀ (u v:List Int) (s:Int),eA m s (u++v)=eA m s u++eA m (eJ m s u) v
  |[],_,_=>rfl
  |a::u,v,s=>by simp [eA,eJ,iO m u v]
theorem jW (m:M): ∀ (u v:List Int) (s:Int),eJ m s (u++v)=eJ m (eJ m s u) v
  |[],_,_=>rfl
  |a::u,v,s=>by simp [eJ,jW m u v]
theorem aFG (m:M) (s:Int) {w:List Int} {k:Nat} (h:k < w.length):eA m s (w.take (k+1))=eA m s (w.take k)++[cell m.ot (eJ m s (w.take k)) (nth w k)]:=by
  rw [bG h,iO]; rfl
theorem aFn (m:M) (s:Int) {w:List Int} {k:Nat} (h:k < w.length):eJ m s (w.take (k+1))=cell m.nx (eJ m s (w.take k)) (nth w k):=by
  rw [bG h,jW]; rfl
theorem bK {m:M} (h:aV m=0):1≤m.i∧m.i≤64∧0 < m.nx.length∧m.nx.length≤128∧0≤m.s∧m.s < m.nx.length∧m.ot.length=m.nx.length∧
    (∀ s,s < m.nx.length→((nth m.nx s).length:Int)=m.i∧((nth m.ot s).length:Int)=m.i∧ ∀ a:Nat,a < m.i→0≤nth (nth m.nx s) a∧nth (nth m.nx s) a < m.nx.length∧0≤nth (nth m.ot s) a∧nth (nth m.ot s) a≤1048576):=by
  unfold aV at h
  split at h; · cases h
  rename_i h1
  split at h; · cases h
  rename_i h2
  split at h; · cases h
  rename_i h3
  split at h; · cases h
  rename_i h4
  split at h; · cases h
  rename_i h5
  refine ⟨by omega,by omega,by omega,by omega,by omega,by omega,by omega,fun s hs=>?_⟩
  have h6:=cU.1 h s (Nat.zero_le _) (by omega)
  unfold wT at h6
  split at h6; · cases h6
  rename_i h7
  refine ⟨by omega,by omega,fun a ha=>?_⟩
  have h8:=cU.1 h6 a (Nat.zero_le _) (by omega)
  unfold aAT at h8
  split at h8
  · cases h8
  · omega
theorem aAd {w:List Int} {n:Int} (h:gX w n=0):w.length≤1024∧ ∀ k,k < w.length→0≤nth w k∧nth w k < n:=by
  unfold gX at h
  split at h; · cases h
  split at h; · cases h
  refine ⟨by omega,fun k hk=>?_⟩
  have:=cU.1 h k (Nat.zero_le _) (by omega)
  unfold wE at this
  split at this
  · cases this
  · omega
theorem aAF {m:M} (h:aV m=0): ∀ (w:List Int) (s:Int),0≤s→s < m.nx.length→(∀ k,k < w.length→0≤nth w k∧nth w k < m.i)→0≤eJ m s w∧eJ m s w < m.nx.length
  |[],s,h0,h1,_=>⟨h0,h1⟩
  | a :: w, s, h0, h1, hw => by
    have ha:0≤a∧a < m.i:=by simpa [nth] using hw 0 (by simp)
    have hc:=(bK h).2.2.2.2.2.2.2 s.toNat (by omega)
    have hr:=hc.2.2 a.toNat (by omega)
    refine aAF h w (cell m.nx s a) ?_ ?_ fun k hk=>by simpa [nth] using hw (k+1) (by simp; omega)
    · exact hr.1
    · exact hr.2.1
theorem aF3 {m:M} (h:aV m=0) {w:List Int} {s:Int} (h0:0≤s) (h1:s < m.nx.length) (hw: ∀ k,k < w.length→0≤nth w k∧nth w k < m.i) (k:Nat):0≤eJ m s (w.take k)∧eJ m s (w.take k) < m.nx.length:=by
  refine aAF h _ s h0 h1 fun j hj=>?_
  have:nth (w.take k) j=nth w j:=by
    simp only [List.length_take] at hj
    rw [← aO (by simp; omega),← aO (by omega),List.getElem_take]
  rw [this]; exact hw j (by simp at hj; omega)
def stE (m:M) (s:Int):Int:=if aV m≠0 then aV m else if s < 0∨(m.nx.length:Int)≤s then 2 else 0
def inE (w:List Int) (n:Int) (k:Nat):Bool:=decide (nth w k < 0∨n≤nth w k)
theorem aTM (w:List Int) (n:Int):wE w n=fun j=>if inE w n j then 1 else 0:=by
  funext j; simp [wE,inE]
theorem aMD (w:List Int) (n:Int) (c k:Nat):(0≤fi (inE w n) k c↔fe (wE w n) k c=1)∧(fe (wE w n) k c=0∨fe (wE w n) k c=1):=by
  rw [aTM]
  have h:=aTt (inE w n) 1 (by decide) c k
  exact ⟨by simpa using decide_eq_decide.1 h.1,h.2⟩
theorem aNA {m:M} {s:Int} (h:stE m s=0):aV m=0∧0≤s∧s < m.nx.length:=by
  unfold stE at h
  split at h
  · contradiction
  · split at h
    · cases h
    · omega
def frE (m:M) (s:Int) (w:List Int):Int:=if stE m s≠0 then stE m s else gX w m.i
def cE (m:M) (s:Int) (w:List Int):List Int:=if frE m s w≠0 then [] else eA m s w
def zK (m:M) (s:Int) (w:List Int):Int:=if frE m s w≠0 then 0 else eJ m s w
theorem aOF {m:M} (hm:aV m=0) {s:Int} (hs:0≤s∧s < m.nx.length) {w:List Int} (hw: ∀ k,k < w.length→0≤nth w k∧nth w k < m.i) {k:Nat} (hk:k < w.length):
    (0≤eJ m s (w.take k)∧eJ m s (w.take k) < m.nx.length∧m.ot.length=m.nx.length)∧0≤nth w k∧nth w k < (nth m.nx (eJ m s (w.take k)).toNat).length∧nth w k < (nth m.ot (eJ m s (w.take k)).toNat).length:=by
  have h1:=aF3 hm hs.1 hs.2 hw k
  have h2:=bK hm
  have h3:=h2.2.2.2.2.2.2.2 (eJ m s (w.take k)).toNat (by omega)
  have h4:=hw k hk
  omega
structure Hy where
  m:M
  acc:List (List Int)
abbrev hC (h:Hy):List V:=[iV h.m.i,iV h.m.s,aD h.m.nx,aD h.m.ot,aD h.acc]
abbrev hV (h:Hy):V:=.agg (hC h)
abbrev hB (h:Hy):Blk:=⟨1,true,false,26,5,[hC h]⟩
def aTW (h:Hy) (s:Nat):Int:=
  if gX (nth h.acc s) h.m.i≠0 then gX (nth h.acc s) h.m.i else if eJ h.m h.m.s (nth h.acc s)≠s then 15 else 0
def tH (h:Hy):Int:=
  if aV h.m≠0 then aV h.m else if h.acc.length≠h.m.nx.length then 1
  else if fe (aTW h) 0 h.acc.length≠0 then fe (aTW h) 0 h.acc.length else if (nth h.acc h.m.s.toNat).length≠0 then 10 else 0
end Go.Proofs.YtmnnhjhkaepbaaaGreat
namespace Go.Proofs.YtmnnhjhkaepbaaaGreat
open Go
def cmn:List Int→List Int→Nat
  |a::l,b::m=>if a=b then cmn l m+1 else 0
  |_,_=>0
theorem mJ {α:Type} [Inhabited α] (a:α) (l:List α):nth (a::l) 0=a:=rfl
theorem pY {α:Type} [Inhabited α] (a:α) (l:List α) (k:Nat):nth (a::l) (k+1)=nth l k:=rfl
theorem cZ: ∀ (a b:List Int),cmn a b≤a.length∧cmn a b≤b.length∧(∀ j,j < cmn a b→nth a j=nth b j)∧(cmn a b < a.length→cmn a b < b.length→nth a (cmn a b)≠nth b (cmn a b))
  |[],b=>by simp [cmn]
  |a::l,[]=>by simp [cmn]
  | a :: l, b :: m => by
    obtain ⟨h1,h2,h3,h4⟩:=cZ l m
    by_cases e:a=b
    · subst e
      simp only [cmn,if_true,List.length_cons]
      refine ⟨by omega,by omega,fun j hj=>?_,fun g1 g2=>by simpa [pY] using h4 (by omega) (by omega)⟩
      cases j with
      |zero=>rfl
      |succ j=>simpa [pY] using h3 j (by omega)
    · simp only [cmn,if_neg e,List.length_cons]
      exact ⟨by omega,by omega,fun j hj=>by omega,fun _ _=>e⟩
theorem pA (a b:List Int):cmn a b≤a.length:=(cZ a b).1
theorem xX (a b:List Int):cmn a b≤b.length:=(cZ a b).2.1
theorem mL {a b:List Int} {k:Nat} (hc:k≤cmn a b) (ha:k < a.length) (hb:k < b.length) (e:nth a k=nth b k):k+1≤cmn a b:=by
  obtain ⟨h1,h2,h3,h4⟩:=cZ a b
  by_cases h:k=cmn a b
  · subst h; exact (h4 ha hb e).elim
  · omega
theorem iU {a b:List Int} {k:Nat} (hc:k≤cmn a b) (h:a.length≤k∨b.length≤k∨nth a k≠nth b k):cmn a b=k:=by
  obtain ⟨h1,h2,h3,h4⟩:=cZ a b
  by_cases e:k=cmn a b
  · exact e.symm
  · have h5:=h3 k (by omega)
    rcases h with h|h|h
    · omega
    · omega
    · exact (h h5).elim
theorem gS (a b:List Int):cmn a b=cmn b a:=by
  obtain ⟨h1,h2,h3,h4⟩:=cZ b a
  refine iU ?_ ?_
  · have: ∀ k,k≤cmn b a→k≤cmn a b:=by
      intro k
      induction k with
      |zero=>intro _; exact Nat.zero_le _
      |succ k ih=>intro h; exact mL (ih (by omega)) (by omega) (by omega) (h3 k (by omega)).symm
    exact this _ (Nat.le_refl _)
  · by_cases g1:a.length≤cmn b a
    · exact .inl g1
    · by_cases g2:b.length≤cmn b a
      · exact .inr (.inl g2)
      · exact .inr (.inr fun e=>h4 (by omega) (by omega) e.symm)
theorem aHT (a:List Int):cmn a a=a.length:=by
  induction a with
  |nil=>rfl
  |cons x l ih=>simp [cmn,ih]
theorem lY {α:Type} [Inhabited α] {l:List α} {n j:Nat} (h:j < n):nth (l.take n) j=nth l j:=by
  simp only [nth,List.getD_eq_getElem?_getD,List.getElem?_take,if_pos h]
theorem zE {α:Type} [Inhabited α] {l:List α} {n j:Nat}:nth (l.drop n) j=nth l (n+j):=by
  simp only [nth,List.getD_eq_getElem?_getD,List.getElem?_drop]
theorem bE {α:Type} [Inhabited α] {l m:List α} {j:Nat} (h:j < l.length):nth (l++m) j=nth l j:=by
  simp only [nth,List.getD_eq_getElem?_getD,List.getElem?_append_left h]
theorem eX {α:Type} [Inhabited α] {l m:List α} {j:Nat}:nth (l++m) (l.length+j)=nth m j:=by
  simp only [nth,List.getD_eq_getElem?_getD,List.getElem?_append_right (Nat.le_add_right _ _),Nat.add_sub_cancel_left]
theorem eP {α β:Type} [Inhabited α] [Inhabited β] {f:α→β} {l:List α} {j:Nat} (h:j < l.length):nth (l.map f) j=f (nth l j):=by
  rw [← aO (by simpa using h),← aO h,List.getElem_map]
theorem aR {α:Type} [Inhabited α] {l:List α} {j:Nat} (h:j < l.length):nth l j∈l:=by
  rw [← aO h]; exact List.getElem_mem h
theorem dN {α:Type} [Inhabited α] {l:List α} {x:α} (h:x∈l): ∃ j,j < l.length∧nth l j=x:=by
  obtain ⟨j,hj,e⟩:=List.getElem_of_mem h
  exact ⟨j,hj,by rw [← aO hj]; exact e⟩
theorem fZ {α:Type} [Inhabited α] {l m:List α} (h1:l.length=m.length) (h2: ∀ j,j < l.length→nth l j=nth m j):l=m:=by
  refine List.ext_getElem h1 fun j g1 g2=>?_
  rw [aO g1,aO g2]; exact h2 j g1
def aZ (a b:List Int):Int:=
  if cmn a b=a.length∧cmn a b=b.length then 0
  else if cmn a b=a.length∨(cmn a b < b.length∧nth a (cmn a b) < nth b (cmn a b)) then -1 else 1
def slx (a b:List Int):Int:=if a.length < b.length then -1 else if b.length < a.length then 1 else aZ a b
def pB (x y:Int):Int:=if x < y then -1 else if y < x then 1 else 0
def orI:List Int→Int
  |[]=>0
  |x::l=>if x=0 then orI l else x
theorem aCo {l:List Int} {k:Nat} (h:k < l.length):orI (l.drop k)=if nth l k=0 then orI (l.drop (k+1)) else nth l k:=by
  rw [aHy h]; rfl
theorem yB {x y:Int}:pB x y=0↔x=y:=by
  unfold pB; split
  · omega
  · split <;> omega
theorem aGd {a b:List Int} (h1:cmn a b=a.length) (h2:cmn a b=b.length):a=b:=
  fZ (by omega) fun j hj=>(cZ a b).2.2.1 j (by omega)
theorem cS {a b:List Int}:aZ a b=0↔a=b:=by
  unfold aZ
  constructor
  · intro h
    split at h
    · rename_i g; exact aGd g.1 g.2
    · split at h <;> omega
  · intro e; subst e; rw [aHT]; simp
theorem eH {a b:List Int}:slx a b=0↔a=b:=by
  unfold slx
  split
  · rename_i h; constructor
    · intro h; omega
    · intro e; subst e; omega
  · split
    · rename_i h; constructor
      · intro h; omega
      · intro e; subst e; omega
    · exact cS
theorem wR {a b:List Int} (h:aZ a b < 0):0 < aZ b a:=by
  unfold aZ at h ⊢
  obtain ⟨h1,h2,h3,h4⟩:=cZ a b
  rw [gS b a]
  split at h
  · omega
  · split at h
    · rename_i g1 g2
      rw [if_neg (by omega),if_neg (by omega)]; omega
    · omega
theorem aAr {a b:List Int} (h:slx a b < 0):0 < slx b a:=by
  unfold slx at h ⊢
  split at h
  · rw [if_neg (by omega),if_pos (by omega)]; omega
  · split at h
    · omega
    · rw [if_neg (by omega),if_neg (by omega)]; exact wR h
theorem aBH {a b:List Int} (h:0 < aZ a b):aZ b a < 0:=by
  unfold aZ at h ⊢
  obtain ⟨h1,h2,h3,h4⟩:=cZ a b
  rw [gS b a]
  split at h
  · omega
  · split at h
    · omega
    · rename_i g1 g2
      rw [if_neg (by omega),if_pos]; · omega
      by_cases g3:cmn a b=b.length
      · exact .inl g3
      · have:=h4 (by omega) (by omega); right; omega
theorem aIS {a b:List Int} (h:0 < slx a b):slx b a < 0:=by
  unfold slx at h ⊢
  split at h
  · omega
  · split at h
    · rw [if_pos (by omega)]; omega
    · rw [if_neg (by omega),if_neg (by omega)]; exact aBH h
theorem pC {a b c:List Int}:min (cmn a b) (cmn b c)≤cmn a c:=by
  have: ∀ k,k≤min (cmn a b) (cmn b c)→k≤cmn a c:=by
    intro k
    induction k with
    |zero=>intro _; exact Nat.zero_le _
    | succ k ih =>
      intro h
      obtain ⟨g1,g2,g3,_⟩:=cZ a b
      obtain ⟨f1,f2,f3,_⟩:=cZ b c
      exact mL (ih (by omega)) (by omega) (by omega) ((g3 k (by omega)).trans (f3 k (by omega)))
  exact this _ (Nat.le_refl _)
theorem lH {a b c : List Int} (h1 : aZ a b < 0) (h2 : aZ b c < 0) : aZ a c < 0 := by
  obtain ⟨g1,g2,g3,g4⟩:=cZ a b
  obtain ⟨f1,f2,f3,f4⟩:=cZ b c
  obtain ⟨e1,e2,e3,e4⟩:=cZ a c
  have m:=pC (a:=a) (b:=b) (c:=c)
  unfold aZ at h1 h2 ⊢
  split at h1; · omega
  split at h1
  · split at h2; · omega
    split at h2
    · rename_i p1 p2 p3 p4
      by_cases q:cmn a b < cmn b c
      · -- the first difference is that of a and b
        have hb:cmn a b < b.length:=by omega
        have e:cmn a c=cmn a b:=by
          refine iU (by omega) ?_
          by_cases r:a.length≤cmn a b
          · exact .inl r
          · refine .inr (.inr ?_)
            rw [← f3 _ q]; exact g4 (by omega) hb
        rw [if_neg (by omega),if_pos]; · omega
        rw [e]
        by_cases r:cmn a b=a.length
        · exact .inl r
        · right
          refine ⟨by omega,?_⟩
          rw [← f3 _ q]
          omega
      · by_cases q':cmn b c < cmn a b
        · have e:cmn a c=cmn b c:=by
            refine iU (by omega) ?_
            by_cases r:c.length≤cmn b c
            · exact .inr (.inl r)
            · refine .inr (.inr ?_)
              rw [g3 _ q']; exact f4 (by omega) (by omega)
          rw [if_neg (by omega),if_pos]; · omega
          rw [e]; right
          refine ⟨by omega,?_⟩
          rw [g3 _ q']; omega
        · have e0:cmn a b=cmn b c:=by omega
          by_cases r:cmn a b=a.length
          · rw [if_neg,if_pos]; · omega
            · left; omega
            · intro hh
              omega
          · have hlt:nth a (cmn a b) < nth c (cmn a b):=by
              have x1:nth a (cmn a b) < nth b (cmn a b):=by omega
              have x2:nth b (cmn a b) < nth c (cmn a b):=by rw [e0] at x1 ⊢; omega
              omega
            have e:cmn a c=cmn a b:=iU (by omega) (.inr (.inr (by omega)))
            rw [if_neg (by omega),if_pos]; · omega
            right; rw [e]; exact ⟨by omega,hlt⟩
    · omega
  · omega
theorem kM {a b c : List Int} (h1 : slx a b < 0) (h2 : slx b c < 0) : slx a c < 0 := by
  unfold slx at h1 h2 ⊢
  split at h1
  · split at h2
    · rw [if_pos (by omega)]; omega
    · split at h2
      · omega
      · rw [if_pos (by omega)]; omega
  · split at h1
    · omega
    · split at h2
      · rw [if_pos (by omega)]; omega
      · split at h2
        · omega
        · rw [if_neg (by omega),if_neg (by omega)]; exact lH h1 h2
theorem aOj {a b c:List Int} (h1:slx a b≤0) (h2:slx b c≤0):slx a c≤0:=by
  by_cases e1:slx a b=0
  · rw [eH.1 e1]; exact h2
  · by_cases e2:slx b c=0
    · rw [← eH.1 e2]; exact h1
    · have:=kM (a:=a) (b:=b) (c:=c) (by omega) (by omega); omega
theorem aBN {a b:List Int} (h1:slx a b≤0) (h2:slx b a≤0):a=b:=by
  by_cases e:slx a b=0
  · exact eH.1 e
  · have:=aAr (a:=a) (b:=b) (by omega); omega
def exB (p:Nat→Bool) (k:Nat):Nat→Bool
  |0=>false
  |n+1=>exB p k n||p (k+n)
structure Tr where
  ni:List Int
  no:List Int
  deriving Inhabited
abbrev cT (t:Tr):List V:=[aH t.ni,aH t.no]
@[simp] theorem aL2 (l:List Tr):cX (l.map cT)=true:=dQ _ _ fun a=>by simp [cT]
structure Ob where
  i:Int
  tr:List Tr
  deriving Inhabited
def hp (w p:List Int):Bool:=decide (cmn w p=p.length)
theorem aCN {w p:List Int}:hp w p=true↔ ∃ x,w=p++x:=by
  simp only [hp,decide_eq_true_eq]
  constructor
  · intro h
    refine ⟨w.drop p.length,?_⟩
    have e:w.take p.length=p:=by
      have hl:=pA w p
      refine fZ (by simp; omega) fun j hj=>?_
      simp at hj
      rw [lY (by omega)]
      exact (cZ w p).2.2.1 j (by omega)
    conv=>lhs; rw [← List.take_append_drop p.length w,e]
  · rintro ⟨x,rfl⟩
    refine iU ?_ (.inr (.inl (Nat.le_refl _)))
    have: ∀ k,k≤p.length→k≤cmn (p++x) p:=by
      intro k
      induction k with
      |zero=>intro _; exact Nat.zero_le _
      |succ k ih=>intro h; exact mL (ih (by omega)) (by simp; omega) (by omega) (bE (by omega))
    exact this _ (Nat.le_refl _)
def aUc (t:Tr) (k:Nat):Int:=if nth t.no k < 0∨1048576 < nth t.no k then 2 else 0
def prE (t:Tr) (n:Int):Int:=if gX t.ni n≠0 then gX t.ni n else if t.no.length≠t.ni.length then 1 else fe (aUc t) 0 t.no.length
def dfE (a b:Tr) (k:Nat):Bool:=decide (nth a.no k≠nth b.no k)
def df (a b:Tr):Int:=fi (dfE a b) 0 (cmn a.ni b.ni)
structure Proper (t:Tr) (n:Int):Prop where
  len:t.no.length=t.ni.length
  lel:t.ni.length≤1024
  sym: ∀ k,k < t.ni.length→0≤nth t.ni k∧nth t.ni k < n
  out: ∀ k,k < t.no.length→0≤nth t.no k∧nth t.no k≤1048576
theorem aC4 {p : Nat → Bool} : ∀ {n k : Nat}, 0 ≤ fi p k n ↔ ∃ j, k ≤ j ∧ j < k + n ∧ p j = true
  |0,k=>by simp [fi]; omega
  | n + 1, k => by
    simp only [fi]
    split
    · rename_i h
      constructor
      · intro _; exact ⟨k,by omega,by omega,h⟩
      · intro _; omega
    · rename_i h
      rw [aC4]
      constructor
      · rintro ⟨j,h1,h2,h3⟩; exact ⟨j,by omega,by omega,h3⟩
      · rintro ⟨j,h1,h2,h3⟩
        by_cases e:j=k
        · subst e; exact (h h3).elim
        · exact ⟨j,by omega,by omega,h3⟩
theorem aDG {a b:Tr}:0≤df a b↔ ∃ j,j < cmn a.ni b.ni∧nth a.no j≠nth b.no j:=by
  unfold df
  rw [aC4]
  constructor
  · rintro ⟨j,_,h2,h3⟩; exact ⟨j,by omega,by simpa [dfE] using h3⟩
  · rintro ⟨j,h2,h3⟩; exact ⟨j,by omega,by omega,by simpa [dfE] using h3⟩
structure OK (o:Ob):Prop where
  hi:1≤o.i∧o.i≤64
  len:o.tr.length≤10000
  pr: ∀ k,k < o.tr.length→Proper (nth o.tr k) o.i∧0 < (nth o.tr k).ni.length
  ord: ∀ k,k+1 < o.tr.length→slx (nth o.tr k).ni (nth o.tr (k+1)).ni < 0
  pre: ∀ i k,i < k→k < o.tr.length→hp (nth o.tr k).ni (nth o.tr i).ni=false
  cla: ∀ i k,i < k→k < o.tr.length→df (nth o.tr i) (nth o.tr k) < 0
def aUe (o:Ob) (k:Nat):Int:=if 100 < (nth o.tr k).ni.length∨100 < (nth o.tr k).no.length then 1 else 0
def ogr (o:Ob):Prop:=60 < o.tr.length∨fe (aUe o) 0 o.tr.length≠0
instance (o:Ob):Decidable (ogr o):=inferInstanceAs (Decidable (_∨_))
def cat:List (List Int)→List Int
  |[]=>[]
  |w::l=>w++cat l
def aUt (a b:List Int):Nat:=if cmn a b < min a.length b.length then cmn a b else 0
theorem aA6 {m:M} {w:List Int} (hm:aV m=0):frE m m.s w=gX w m.i:=by
  have h:=bK hm
  rw [frE,if_neg]
  rw [stE,if_neg (by omega),if_neg (by omega)]; simp
theorem aH1 {m:M} {w:List Int} (hm:aV m=0) (h:gX w m.i=0):zK m m.s w=eJ m m.s w∧cE m m.s w=eA m m.s w∧0≤eJ m m.s w∧eJ m m.s w < m.nx.length:=by
  have hv:=bK hm
  have hw:=aAd h
  have e:=aA6 (w:=w) hm
  have hg:=aAF hm w m.s (by omega) (by omega) hw.2
  exact ⟨by rw [zK,if_neg (by omega)],by rw [cE,if_neg (by omega)],hg⟩
theorem aFF {w:List Int} {n:Int} (hn:1≤n∧n≤1024) (hl:w.length≤1024) (hs: ∀ k,k < w.length→0≤nth w k∧nth w k < n):gX w n=0:=by
  rw [gX,if_neg (by omega),if_neg (by omega)]
  exact cU.2 fun j h1 h2=>by
    have:=hs j (by omega)
    rw [wE,if_neg (by omega)]
end Go.Proofs.YtmnnhjhkaepbaaaGreat
namespace Go.Proofs.YtmnnhjhkaepbaaaGreat
open Go
section
variable {P:Program} {T:Nat→V} {H:aF}
theorem rB {t:Nat} {u:V} (h:T t=u):nQ T H (.tmp t)=some u:=by rw [← h]; rfl
theorem lW {t m id ver row off:Nat} {g:Bool} {u:V} {B:Blk} (ha:T t=.mp id ver row off) (hH:H id=B) (hl:ldB g m B ver row off=some u):nQ T H (.cell t g m)=some u:=by
  subst hH
  simp only [nQ,ha,ptr]
  unfold ldB at hl
  split at hl
  · rename_i hc
    rw [if_pos (show ok H id ver=true from hc)]
    cases hr:(H id).rows[row]? with
    |none=>rw [hr] at hl; cases hl
    |some w=>rw [hr] at hl; exact hl
  · cases hl
theorem aHQ {s1:SRes} {u v:V} {n:Nat} (h1:nQ T H s1=some u) (h2:fzv true H n u=v):Ret [s1] (fun u G=>fzv true G n u=v) .ret T H:=by
  simp only [Ret,nN,fL,h1,cQ]; exact h2
theorem rO {s1 s2:SRes} {u1 u2 v1 v2:V} {n:Nat} (h1:nQ T H s1=some u1) (h2:nQ T H s2=some u2) (g1:fzv true H n u1=v1) (g2:fzv true H n u2=v2):Ret [s1,s2] (fun u G=>fzv true G (n+1) u=.tup [v1,v2]) .ret T H:=by
  simp only [Ret,nN,fL,h1,h2,cQ,fzv,List.map_cons,List.map_nil,g1,g2]
theorem qV {n:Nat} {l m:List V} (h:l.map (fzv true H n)=m):fzv true H (n+1) (.agg l)=.agg m:=by subst h; rfl
theorem aK1 {n:Nat} {u1 u2 v1 v2:V} (g1:fzv true H n u1=v1) (g2:fzv true H n u2=v2):fzv true H (n+1) (.agg [u1,u2])=.agg [v1,v2]:=by
  simp only [fzv,List.map_cons,List.map_nil,g1,g2]
theorem aI1 {n:Nat} {u1 u2 u3 v1 v2 v3:V} (g1:fzv true H n u1=v1) (g2:fzv true H n u2=v2) (g3:fzv true H n u3=v3):fzv true H (n+1) (.agg [u1,u2,u3])=.agg [v1,v2,v3]:=by
  simp only [fzv,List.map_cons,List.map_nil,g1,g2,g3]
end
end Go.Proofs.YtmnnhjhkaepbaaaGreat
namespace Go.Proofs.YtmnnhjhkaepbaaaGreat
open Go
def jB (b b':Blk):Prop:=b.ver≤b'.ver∧(b'.live=false∨b'={b with ver:=b'.ver})
def tE (H H':aF):Prop:= ∀ j,jB (H j) (H' j)
def dJ (S:List Nat) (H H':aF):Prop:= ∀ j,j∉S→jB (H j) (H' j)
theorem jB.refl (b:Blk):jB b b:=⟨Nat.le_refl _,.inr rfl⟩
theorem dJ.start {S:List Nat} {H Hi:aF} (h: ∀ j,j∉S→H j=Hi j):dJ S H Hi:=fun j hj=>by rw [h j hj]; exact .refl _
theorem dJ.put {S:List Nat} {H H':aF} {i:Nat} {b B:Blk} (h:dJ (i::S) H H') (hi:H i=b) (hB:jB b B):dJ S H (upd H' i B):=fun j hj=>by
  by_cases e:j=i
  · subst e; rw [aC,hi]; exact hB
  · rw [aQ _ _ e]; exact h j (by simp [e,hj])
theorem dJ.putv {S:List Nat} {H H':aF} {i n:Nat} {B:Blk} (h:dJ (i::S) H H') (hi:(H i).ver=n) (hn:n≤B.ver) (hd:B.live=false):dJ S H (upd H' i B):=h.put rfl ⟨by omega,.inl hd⟩
theorem dJ.fin {H H':aF} (h:dJ [] H H'):tE H H':=fun j=>h j (by simp)
theorem jB.eq {b B:Blk} (h:b=B):jB b B:=h ▸ .refl _
theorem jB.up {v n:Nat} {l z:Bool} {ty:TypeId} {sz:Nat} {rows rows':List (List V)} (h:v≤n) (hr:rows=rows'):jB ⟨v,l,z,ty,sz,rows⟩ ⟨n,l,z,ty,sz,rows'⟩:=⟨h,.inr (by subst hr; rfl)⟩
theorem jB.own {b b':Blk} (h:jB b b') (ho:b'.own=true):b'={b with ver:=b'.ver}∧b.own=true:=by
  rcases h.2 with h1|h1
  · have:=dA ho; rw [h1] at this; cases this
  · refine ⟨h1,?_⟩
    rw [h1] at ho; exact ho
def xJ (x:Cx) (H':aF):Cx:={x with Z:=fun b=>x.Z b∨ ∃ j,(x.H j).own=true∧(H' j).live=false∧b=x.σ j,H:=H'}
theorem pO {x : Cx} (hx : Inv x) {H' : aF} (h : tE x.H H') : Inv (xJ x H') ∧ Frame x (xJ x H') := by
  generalize hy:xJ x H'=y
  have ew:y.w=x.w:=by rw [← hy]; rfl
  have eh:y.H=H':=by rw [← hy]; rfl
  have es:y.σ=x.σ:=by rw [← hy]; rfl
  have ez: ∀ b,y.Z b↔x.Z b∨ ∃ j,(x.H j).own=true∧(H' j).live=false∧b=x.σ j:=fun b=>by rw [← hy]; exact Iff.rfl
  have hf:Frame x y:=by
    refine ⟨by rw [ew],by rw [ew],by rw [ew],by rw [ew]; exact Nat.le_refl _,fun _ _ _=>by rw [ew],fun b h=>(ez b).2 (.inl h),fun b hb=>?_,fun i=>?_,fun i ho=>?_,by rw [ew]; exact Nat.le_refl _,fun i hl hv=>by
      have e:H' i=x.H i:=by
        rw [eh] at hl hv
        rcases (h i).2 with h1|h1
        · rw [h1] at hl; cases hl
        · rw [h1]; show ({x.H i with ver:=(H' i).ver}:Blk)=x.H i; rw [hv]
      rw [eh,e]⟩
    · rcases (ez b).1 hb with h1|⟨j,h1,_,h3⟩
      · exact .inl h1
      · exact .inr (.inr ⟨j,h1,h3.symm⟩)
    rotate_left
    · rw [eh] at ho; rw [es]; exact .inl ⟨((h i).own ho).2,rfl⟩
    rw [eh,es,ew]
    refine ⟨(h i).1,fun hl hv=>?_⟩
    have e:H' i=x.H i:=by
      rcases (h i).2 with h1|h1
      · have:(H' i).live=true:=hl
        rw [h1] at this; cases this
      · rw [h1]; show ({x.H i with ver:=(H' i).ver}:Blk)=x.H i; rw [show (H' i).ver=(x.H i).ver from hv]
    simp only [e]
    have hl':(x.H i).live=true:=by rw [← e]; exact hl
    exact ⟨hl',trivial,trivial,fun _=>trivial,fun _=>⟨trivial,trivial⟩⟩
  refine ⟨⟨fun b hb=>?_,fun b i hb ho=>?_,fun i ho=>?_,fun i j hi hj he=>?_,hx.tab_of hf⟩,hf⟩
  · rw [ew]
    rcases (ez b).1 hb with h1|⟨j,h1,_,h3⟩
    · exact hx.zlt b h1
    · rw [h3]; exact hx.lt h1
  · rw [eh] at ho; rw [es]
    have ho':=((h i).own ho).2
    rcases (ez b).1 hb with h1|⟨j,h1,h2,h3⟩
    · exact hx.zown b i h1 ho'
    · intro q
      have:=hx.inj i j ho' h1 (q.trans h3)
      subst this
      have:=dA ho; rw [h2] at this; cases this
  rotate_left
  · rw [eh] at hi hj; rw [es] at he
    exact hx.inj i j ((h i).own hi).2 ((h j).own hj).2 he
  rw [eh] at ho
  obtain ⟨e,ho'⟩:=(h i).own ho
  obtain ⟨dd,h1,h2,h3,h4⟩:=hx.blk i ho'
  have e1:(y.H i).rows=(x.H i).rows:=by rw [eh,e]
  have e2:(y.H i).sz=(x.H i).sz:=by rw [eh,e]
  have e3:(y.H i).obj dd=(x.H i).obj dd:=by rw [eh,e]; rfl
  rw [e1,e2,ew,es]
  exact ⟨dd,by rw [e3]; exact h1,h2,h3,fun r row j v hr hj=>(h4 r row j v hr hj).frame hx hf⟩
def cV (H H':aF) (v v':V):Prop:= ∀ (x:Cx) (c:Value),x.H=H→Inv x→R x v c→R (xJ x H') v' c
theorem cV.same {H H':aF} (h:tE H H') (v:V):cV H H' v v:=fun x c e hx r=>by
  subst e; exact r.frame hx (pO hx h).2
theorem cV.nil {H H':aF}:cV H H' .nilsl (.sl []):=fun x c e hx r=>by
  cases r; exact .slnil
theorem cV.ms {H H':aF} (h:tE H H') {id ver n off len:Nat} (hl:(H id).live=true) (hv:(H id).ver=ver) (hl':(H' id).live=true) (hv':(H' id).ver=n):cV H H' (.ms id ver off len) (.ms id n off len):=fun x c e hx r=>by
  subst e
  have e:H' id={x.H id with ver:=n}:=by
    rcases (h id).2 with h1|h1
    · rw [h1] at hl'; cases hl'
    · rw [hv'] at h1; exact h1
  cases r with
  | ms id ver off len b m cap hv1 hh hm =>
    refine .ms _ _ _ _ _ _ _ (by rw [show (xJ x H').H id=H' id from rfl,hv']; exact Nat.le_refl _) (fun _ _=>?_) fun _ _=>by
      have:=hm hv hl
      simp only [xJ,e]
      exact this
    have:=hh hv hl
    simp only [xJ,e]
    exact this
theorem cV.frz {H H' : aF} (h : tE H H') {id ver len : Nat} {rows : List (List V)} (hl : (H id).live = true) (hv : (H id).ver = ver) (hd : (H' id).live = false) (hr : (H id).rows.take len = rows) : cV H H' (.ms id ver 0 len) (.sl rows) := fun x c e hx r => by
  subst e
  have hf:=(pO hx h).2
  subst hr
  cases r with
  | ms id ver off len b m cap hv1 hh hnm =>
    obtain ⟨e1,e2,e3,e4,e5,e6⟩:=hh hv hl
    subst e1
    rw [Nat.zero_add] at e4
    have hlen:((x.H id).rows.take m).length=m:=by simp; omega
    cases ho:(x.H id).own with
    | false =>
      have e8:=e6 ho
      have hm:m=0:=by omega
      subst hm; subst e8
      simpa using R.sl0 _
    | true =>
      obtain ⟨e7,e8⟩:=e5 ho
      subst e7
      obtain ⟨cc,h1,h2,h3,h4⟩:=hx.cel id ho (hnm hv hl)
      have hidx: ∀ (r:Nat) (row:List V),((x.H id).rows.take m)[r]?=some row→(x.H id).rows[r]?=some row:=by
        intro r row hr
        simp only [List.getElem?_take] at hr
        split at hr
        · exact hr
        · cases hr
      have key:=R.sl (x:=xJ x H') ((x.H id).rows.take m) ⟨x.σ id,0,none⟩ cap (x.H id).sz
        (fun k=>cc.getD k undef) (by omega) e3 (fun _=>.inr ⟨id,ho,hd,rfl⟩)
        (fun r hr=>h2 r (List.mem_of_mem_take hr))
        (fun r row q v hr hj=>by
          have h8:=hidx _ _ hr
          have h9:=(dW h2 h3 h8 hj).1
          rw [Addr.add_lit]
          show x.w.cell? _=_
          rw [gR h1 (by omega)]
          simp)
        (fun r row q v hr hj=>(h4 _ _ _ _ (hidx _ _ hr) hj).frame hx hf)
      rw [hlen] at key
      simpa using key
theorem cV.tup2 {H H':aF} {a b a' b':V} (h1:cV H H' a a') (h2:cV H H' b b'):cV H H' (.tup [a,b]) (.tup [a',b']):=fun x c e hx r=>by
  cases r with
  | tup vs cs hs hr =>
    refine .tup _ cs (by simpa using hs) fun j v hj=>?_
    match j,hj with
    |0,hj=>cases hj; exact h1 x _ e hx (hr 0 a rfl)
    |1,hj=>cases hj; exact h2 x _ e hx (hr 1 b rfl)
    |n+2,hj=>simp at hj
theorem cV.trans_eq {H H':aF} {a b b':V} (h:cV H H' a b) (e:b=b'):cV H H' a b':=e ▸ h
section
variable {P:Program} {op:Opt} {k0:Nat}
theorem zQ {f : Nat} {fn : Func} {s : SF} (hf : P.funcs[f]? = some fn) (hs : aM P op fn = some s) (hn : (fn.name == "runtime.NumGoroutine") = false) {args : List V} {H : aF} {v : V} {H' : aF}
    (hl:args.length≤s.n) (hW:iN args=true→W P k0 s.body (Ret s.res fun u G=>tE G H'∧cV G H' u v) (T0 args) H):dB P f args H v H':=by
  refine ⟨jR hf hs hn,fun x cs hxH hx hr=>?_⟩
  subst hxH
  refine (oP hf hs hl (hW hr.bnd) hx hr).mono fun e w' h=>?_
  obtain ⟨c,u,y,h1,h2,⟨h3,h4⟩,h5,h6,h7⟩:=h
  obtain ⟨z1,z2⟩:=pO h5 h3
  exact ⟨c,xJ y H',h1,h2,rfl,z1,h4 y c rfl h5 h6,h7.trans z2⟩
variable {T:Nat→V} {H H':aF}
theorem jL {t:Nat} {u v:V} (h:T t=u) (hH:tE H H') (hv:cV H H' u v):Ret [.tmp t] (fun u G=>tE G H'∧cV G H' u v) .ret T H:=by
  simp only [Ret,nN,fL,nQ,h,cQ]; exact ⟨hH,hv⟩
theorem aCU {t1 t2:Nat} {u1 u2 v1 v2:V} (h1:T t1=u1) (h2:T t2=u2) (hH:tE H H') (hv1:cV H H' u1 v1) (hv2:cV H H' u2 v2):Ret [.tmp t1,.tmp t2] (fun u G=>tE G H'∧cV G H' u (.tup [v1,v2])) .ret T H:=by
  simp only [Ret,nN,fL,nQ,h1,h2,cQ]; exact ⟨hH,hv1.tup2 hv2⟩
end
end Go.Proofs.YtmnnhjhkaepbaaaGreat
namespace Go.Proofs.YtmnnhjhkaepbaaaGreat
open Go
section
variable {P:Program} {k0:Nat} {K:(Nat→V)→aF→Prop} {T:Nat→V} {H:aF} {r:List SO} {d:Nat} {a b c:SX} {v u:V}
theorem nW {e id ver off len n:Nat} {B:Blk} {k:IntKind} {x:SX} (ha:ev T a=.ms id ver off len) (hx:ev T x=.int k (n:Nat)) (hH:H id=B) (hok:okB B ver=true) (hs:B.sz=e) (hn:n≤len)
    (h:Ops P k0 r (upd T d (.ms id ver off n)) H K):Ops P k0 (⟨none,some d,.slice e a none (some x)⟩::r) T H K:=by
  subst hH
  refine stp (v:=.ms id ver off n) (fun _=>rfl) ?_ h
  rw [ha]
  simp only [Option.map_some,Option.map_none,iR,dM,aDi,hx,Option.bind_some]
  have h0:(0:Int)≤(n:Int):=by omega
  rw [if_pos h0]
  simp only [Option.bind_some,Int.toNat_natCast]
  rw [if_pos (show ok H id ver=true from hok),if_pos hs,if_pos (Nat.zero_le _),if_pos hn]
  by_cases e:0 < n
  · rw [if_pos e]; simp
  · rw [if_neg e,if_pos trivial,show n=0 by omega]
theorem iJ {e id ver off len n:Nat} {B:Blk} {k:IntKind} {x:SX} (ha:ev T a=.ms id ver off len) (hx:ev T x=.int k (n:Nat)) (hH:H id=B) (hok:okB B ver=true) (hs:B.sz=e) (hn:n < len)
    (h:Ops P k0 r (upd T d (.ms id ver (off+n) (len - n))) H K):Ops P k0 (⟨none,some d,.slice e a (some x) none⟩::r) T H K:=by
  subst hH
  refine stp (v:=.ms id ver (off+n) (len - n)) (fun _=>rfl) ?_ h
  rw [ha]
  simp only [Option.map_some,Option.map_none,iR,dM,aDi,hx,Option.bind_some]
  have h0:(0:Int)≤(n:Int):=by omega
  rw [if_pos h0]
  simp only [Option.bind_some,Int.toNat_natCast]
  rw [if_pos (show ok H id ver=true from hok),if_pos hs,if_pos (by omega),if_pos (Nat.le_refl _),if_pos hn]
theorem aMa {α:Type} {id ver ty sz m n:Nat} {lz:Bool} {f:α→List V} {l:List α} {z:List V} (ha:ev T a=.ms id ver m n) (hH:H id=⟨ver,true,lz,ty,sz,l.map f⟩) (hz:z.length=sz) (hz0:z.length≠0) (hone:z.all V.one=true)
    (hm:m < l.length) (hn:m+n=l.length)
    (h:Ops P k0 r T (upd H id ⟨ver,true,lz,ty,sz,(l.take m).map f++List.replicate n z⟩) K):Ops P k0 (⟨none,none,.clr z a⟩::r) T H K:=by
  simp only [Ops,St]
  refine nL (x:=upd H id ⟨ver,true,lz,ty,sz,(l.take m).map f++List.replicate n z⟩) ?_ h
  rw [ha]
  simp only [aFI,hH]
  rw [if_pos (by simp),if_neg (by omega),if_pos ⟨hz,hz0⟩,if_pos hone,if_pos (by simp; omega)]
  rw [hn,List.drop_eq_nil_of_le (by simp),List.append_nil,List.map_take]
theorem zD {n len i id ver row o o':Nat} {k:IntKind} {B:Blk} (ha:ev T a=.mp id ver row o) (hb:ev T b=.int k (i:Nat)) (hH:H id=B) (hok:okB B ver=true) (hi:i < len) (ho:o+i*n=o')
    (h:Ops P k0 r (upd T d (.mp id ver row o')) H K):Ops P k0 (⟨none,some d,.apos n len a b⟩::r) T H K:=by
  subst hH
  refine stp (v:=.mp id ver row o') (fun _=>rfl) ?_ h
  rw [ha,hb]
  simp only [xD]
  rw [if_pos (by omega)]
  simp only [Int.toNat_natCast,aAa,ho]
theorem oC: ∀ (vs p r:List V),r.length=vs.length→dZ (p++r) p.length vs=p++vs
  | [], p, r, h => by cases r with
    |nil=>rfl
    |cons a r=>simp at h
  | v :: vs, p, r, h => by
    cases r with
    |nil=>simp at h
    | cons a r =>
      have e:(p++a::r).set p.length v=(p++[v])++r:=by simp
      rw [dZ,e,show p.length+1=(p++[v]).length by simp,oC vs (p++[v]) r (by simpa using h)]
      simp
theorem gB {α:Type} [Inhabited α] {n ver ty sz i:Nat} {lz:Bool} {f:α→List V} {l:List α} {vs:List V} {x:α} (h:i < l.length) (hv:vs=f x) (hn:vs.length=n) (hs:(f (nth l i)).length=n) (ho:vs.all V.one=true):
    stB ⟨ver,true,lz,ty,sz,l.map f⟩ ver i 0 n vs=some ⟨ver,true,lz,ty,sz,(l.set i x).map f⟩:=by
  subst hv
  unfold stB
  rw [if_pos (cW (by omega)),if_pos hn,if_pos ho]
  simp only [List.getElem?_map,wP h,Option.map_some]
  rw [if_pos (by omega)]
  have:=oC (f x) [] (f (nth l i)) (by omega)
  simp only [List.nil_append,List.length_nil] at this
  rw [this,List.map_set]
theorem bW {e id ver len i:Nat} {B:Blk} {k:IntKind} (ha:ev T a=.ms id ver 0 len) (hb:ev T b=.int k (i:Nat)) (hH:H id=B) (hok:okB B ver=true) (hs:B.sz=e) (hi:i < len)
    (h:Ops P k0 r (upd T d (.mp id ver i 0)) H K):Ops P k0 (⟨none,some d,.idx e a b⟩::r) T H K:=
  mE ha hb hH hok hs hi (by rw [Nat.zero_add]; exact h)
theorem gC {e id ver len:Nat} {i:Int} {B:Blk} {k:IntKind} (ha:ev T a=.ms id ver 0 len) (hb:ev T b=.int k i) (hH:H id=B) (hok:okB B ver=true) (hs:B.sz=e) (h0:0≤i) (hi:i < len)
    (h:Ops P k0 r (upd T d (.mp id ver i.toNat 0)) H K):Ops P k0 (⟨none,some d,.idx e a b⟩::r) T H K:=
  rL ha hb hH hok hs h0 hi (by rw [Nat.zero_add]; exact h)
theorem oK {α:Type} {ty e bytes i n:Nat} {z:List V} {f:α→List V} {x:α} {m q:Nat} (hi:k0+d=i) (hv:(H i).ver=n) (ha:ev T a=iV (m:Nat)) (hb:ev T b=iV (q:Nat)) (hz:z=f x) (h1:m≤q) (h2:q*bytes≤281474976710656) (h3:q≤9223372036854775807)
    (h:Ops P k0 r (upd T d (.ms i (n+1) 0 m)) (upd H i ⟨n+1,true,false,ty,e,(List.replicate m x).map f⟩) K):Ops P k0 (⟨none,some d,.mks ty e bytes z a b⟩::r) T H K:=
  aRQ hi hv ha hb h1 h2 h3 (by rw [List.map_replicate,← hz] at h; exact h)
theorem bN {id n:Nat} (h:(H id).ver=n):(iT id H id).ver=n∧(iT id H id).live=false:=by subst h; simp [iT]
theorem eB {id j n:Nat} (h:(H j).ver=n∧(H j).live=false):(iT id H j).ver=n∧(iT id H j).live=false:=by
  by_cases e:j=id
  · subst e; exact bN h.1
  · simp only [iT,aQ _ _ e]; exact h
theorem aNL {α:Type} {n id ver len:Nat} {B:Blk} {f:α→List V} {l:List α} (hH:H id=B) (hok:(B.live&&decide (B.ver=ver))=true) (hr:B.rows.take len=l.map f) (hc: ∀ a,cJ (f a)=true):
    fzv true H (n+1) (.ms id ver 0 len)=.sl (l.map f):=by
  subst hH
  simp only [fzv]
  rw [if_pos hok,List.drop_zero,hr]
  congr 1
  rw [List.map_map]
  refine List.map_congr_left fun a _=>eC n _ (hc a)
theorem aHh {α:Type} {len:Nat} {f:α→List V} {l:List α} (h:len=l.length):(l.map f).take len=l.map f:=by
  subst h; rw [show l.length=(l.map f).length by simp,List.take_length]
theorem aCE {α:Type} {len:Nat} {f:α→List V} {l:List α} {r:List (List V)} (h:len=l.length):(l.map f++r).take len=l.map f:=by
  subst h; rw [show l.length=(l.map f).length by simp,List.take_left]
end
theorem jS {α:Type} {ver ty sz m:Nat} {lz:Bool} {f:α→List V} {l:List α} {z:List V} (h:0 < l.length):okB ⟨ver,true,lz,ty,sz,l.map f++List.replicate m z⟩ ver=true:=by
  cases l with
  |nil=>simp at h
  |cons a l=>simp [okB,Blk.own]
theorem aDW {α:Type} [Inhabited α] {f:α→List V} {l:List α} {m i:Nat} {z:List V} (h:i < l.length):(l.map f++List.replicate m z)[i]?=some (f (nth l i)):=by
  rw [List.getElem?_append_left (by simpa using h),List.getElem?_map,wP h]; rfl
theorem aD6 {α:Type} [Inhabited α] {agg:Bool} {n ver ty sz i off m:Nat} {lz:Bool} {f:α→List V} {l:List α} {z:List V} {v:V} (h:i < l.length) (hg:ldV agg n ((f (nth l i)).drop off)=some v):
    ldB agg n ⟨ver,true,lz,ty,sz,l.map f++List.replicate m z⟩ ver i off=some v:=by
  unfold ldB
  rw [if_pos (show (_&&_)=true from jS (by omega))]
  simp only [aDW h,Option.bind_some]
  exact hg
theorem aEE {α:Type} [Inhabited α] {n ver ty sz i m:Nat} {lz:Bool} {f:α→List V} {l:List α} {vs:List V} {x:α} {z:List V} (h:i < l.length) (hv:vs=f x) (hn:vs.length=n) (hs:(f (nth l i)).length=n) (ho:vs.all V.one=true):
    stB ⟨ver,true,lz,ty,sz,l.map f++List.replicate m z⟩ ver i 0 n vs=some ⟨ver,true,lz,ty,sz,(l.set i x).map f++List.replicate m z⟩:=by
  subst hv
  unfold stB
  rw [if_pos (jS (by omega)),if_pos hn,if_pos ho]
  simp only [aDW h]
  rw [if_pos (by omega)]
  have:=oC (f x) [] (f (nth l i)) (by omega)
  simp only [List.nil_append,List.length_nil] at this
  rw [this,List.map_set,List.set_append_left _ _ (by simpa using h)]
theorem aEs {H:aF} {α:Type} {n id ver len:Nat} {B:Blk} {f:α→List V} {l m:List α} (hH:H id=B) (hok:(B.live&&decide (B.ver=ver))=true) (hr:B.rows.take len=l.map f) (hc: ∀ a,cJ (f a)=true) (h:l=m):
    fzv true H (n+1) (.ms id ver 0 len)=.sl (m.map f):=by
  subst h; exact aNL hH hok hr hc
theorem aF7 {H:aF} {id id2 ver v2 ty ty2 i off len sz sz2:Nat} {lz lz2:Bool} {β:Type} {rows:List (List V)} {r:List V} {m:List β} {g:β→List V} (hne:id2≠id) (h1:H id=⟨ver,true,lz,ty,sz,m.map g⟩) (h2:H id2=⟨v2,true,lz2,ty2,sz2,rows.set i r⟩)
    (hi:i < rows.length) (hl:len=m.length) (hc:r[off]?=some (.ms id ver 0 len)) {K:(Nat→V)→aF→Prop} {T:Nat→V} (h:G K (fzT id H T) (upd (iT id H) id2 ⟨v2,true,lz2,ty2,sz2,rows.set i (r.set off (.sl (m.map g)))⟩)):G K T H:=by
  subst hl
  have hr:(H id2).rows[i]?=some r:=by rw [h2]; simp [hi]
  refine .frzCell id ver m.length id2 i off r hne (by rw [h1]) (by rw [h1]) (by rw [h2]; cases rows with
    |nil=>simp at hi
    |cons a l=>cases i <;> simp [Blk.own]) hr hc ?_
  have e:({H id2 with rows:=(H id2).rows.set i (r.set off (.sl ((H id).rows.take m.length)))}:Blk)=⟨v2,true,lz2,ty2,sz2,rows.set i (r.set off (.sl (m.map g)))⟩:=by
    rw [h2,h1]
    simp only [Blk.mk.injEq,true_and,List.set_set]
    rw [show m.length=(m.map g).length by simp,List.take_length]
  rw [e]; exact h
end Go.Proofs.YtmnnhjhkaepbaaaGreat
namespace Go.Proofs.YtmnnhjhkaepbaaaGreat
open Go
abbrev sO (d:Nat) (x:X):SO:=⟨none,some d,x⟩
abbrev qM (d a:Nat):SO:=sO d (.mv (.t a))
abbrev qI (d:Nat) (n:Int):SO:=sO d (.mv (.c (.int .i64 n)))
abbrev qF (d n a:Nat):SO:=sO d (.fld n (.t a))
abbrev qL (d n a:Nat):SO:=sO d (.load true n (.t a))
abbrev ql (d a:Nat):SO:=sO d (.load false 1 (.t a))
abbrev qE (d a i:Nat):SO:=sO d (.ext (.t a) i)
abbrev qA (d e a i:Nat):SO:=sO d (.idx e (.t a) (.t i))
abbrev qN (d a:Nat):SO:=sO d (.len (.t a))
abbrev qP (d:Nat) (b:BinOp) (x y:Nat):SO:=sO d (.bin b (.t x) (.t y))
abbrev qC (d:Nat) (b:BinOp) (x:Nat) (n:Int):SO:=sO d (.bin b (.t x) (.c (.int .i64 n)))
abbrev sN (x:X):SO:=⟨none,none,x⟩
abbrev bk (v:Nat) (ty sz:Nat) (rows:List (List V)):Blk:=⟨v,true,false,ty,sz,rows⟩
abbrev bz (v:Nat) (ty sz:Nat) (rows:List (List V)):Blk:=⟨v,true,true,ty,sz,rows⟩
section
variable {P:Program} {k0 d:Nat} {r:List SO} {T:Nat→V} {H:aF} {K:(Nat→V)→aF→Prop} {a b:SX} {v:V}
theorem aX {f:Nat} {args:List SX} {as0:List V} (hc:aS P f as0 v) (he:evs T args=as0) (h:Ops P k0 r (upd T d v) H K)
    (h1:cJ as0=true:=by simp [-List.map_take,-List.map_drop,-List.map_append,-List.map_reverse]) (h2:cM as0=true:=by simp [-List.map_take,-List.map_drop,-List.map_append,-List.map_reverse]):
    Ops P k0 (⟨none,some d,.call false f args⟩::r) T H K:=aDI he hc (eC _ _ h1) h2 (.inl h2) h
theorem aF8 {α:Type} {ty e bytes id ver n:Nat} {lz:Bool} {l:List α} {f:α→List V} {z:List (List V)} (ha:ev T a=.ms id ver 0 n) (hH:H id=⟨ver,true,lz,ty,e,l.map f⟩) (hn:n=l.length) (hb:ev T b=.sl z) (hz:cK e z=true)
    (h2:(n+z.length)*bytes≤140737488355328) (h3:n+z.length≤9223372036854775807)
    (h:Ops P k0 r (upd T d (.ms id (ver+1) 0 (n+z.length))) (upd H id ⟨ver+1,true,lz,ty,e,l.map f++z⟩) K):Ops P k0 (⟨none,some d,.append ty e bytes a b⟩::r) T H K:=
  xF ha hH (by simpa using hn) (new:=z) (by rw [hb]; rfl) hz h2 h3 h
end
def nz:V→V
  | .nilsl=>.sl []
  |v=>v
theorem aTL {x:Cx} {v:V} {c:Value} (r:R x v c):R x (nz v) c:=by
  cases v <;> first|exact r|(generalize hq:V.nilsl=q at r; cases r <;> cases hq; exact .slnil)
theorem aQS {K : (Nat → V) → aF → Prop} {T : Nat → V} {id i : Nat} {r : List V} : ∀ (j : Nat) {H : aF} {pre suf : List V}, r = pre ++ suf → suf.length = j → (H id).own = true → (H id).rows[i]? = some (pre.map nz ++ suf) →
    G K T (upd H id {H id with rows:=(H id).rows.set i (r.map nz)})→G K T H:=by
  intro j
  induction j with
  | zero =>
    intro H pre suf he hl ho hr h
    have:=List.length_eq_zero_iff.1 hl
    subst this
    have e:({H id with rows:=(H id).rows.set i (r.map nz)}:Blk)=H id:=by
      rw [he,List.append_nil]
      rw [List.append_nil] at hr
      have:(H id).rows.set i (pre.map nz)=(H id).rows:=by
        have hi:=(List.getElem?_eq_some_iff.1 hr).1
        have:=(List.getElem?_eq_some_iff.1 hr).2
        rw [← this,List.set_getElem_self]
      rw [this]
    rw [e] at h
    have e2:upd H id (H id)=H:=funext fun k=>by unfold upd; split <;> simp_all
    rw [e2] at h; exact h
  | succ j ih =>
    intro H pre suf he hl ho hr h
    cases suf with
    |nil=>simp at hl
    | cons v s =>
      refine .cell id i pre.length v (nz v) (pre.map nz++v::s) ho hr (by simp) (fun x c r=>aTL r) ?_
      have hi:=(List.getElem?_eq_some_iff.1 hr).1
      have e1:(pre.map nz++v::s).set pre.length (nz v)=(pre++[v]).map nz++s:=by
        rw [List.set_append_right _ _ (by simp)]
        simp
      have ho2:({H id with rows:=(H id).rows.set i ((pre.map nz++v::s).set pre.length (nz v))}:Blk).own=true:=by
        unfold Blk.own at ho ⊢
        cases hq:(H id).rows with
        |nil=>rw [hq] at hi; simp at hi
        |cons a l=>rw [hq] at ho; cases i <;> simpa using ho
      refine ih (H:=upd H id {H id with rows:=(H id).rows.set i ((pre.map nz++v::s).set pre.length (nz v))}) (pre:=pre++[v]) (suf:=s) (by rw [he]; simp) (by simpa using hl) (by rw [aC]; exact ho2) (by rw [aC,e1]; simp [hi]) ?_
      rw [aC]
      have e3:upd (upd H id {H id with rows:=(H id).rows.set i ((pre.map nz++v::s).set pre.length (nz v))}) id {H id with rows:=((H id).rows.set i ((pre.map nz++v::s).set pre.length (nz v))).set i (r.map nz)}=upd H id {H id with rows:=(H id).rows.set i (r.map nz)}:=by
        funext k
        by_cases e:k=id
        · subst e; simp only [aC,List.set_set]
        · simp only [aQ _ _ e]
      rw [e3]; exact h
theorem aPD {ver ty sz:Nat} {lz:Bool} {rows:List (List V)} (h:rows≠[]):(⟨ver,true,lz,ty,sz,rows⟩:Blk).own=true:=by
  cases rows with
  |nil=>exact (h rfl).elim
  |cons a l=>simp [Blk.own]
theorem aJg {K:(Nat→V)→aF→Prop} {T:Nat→V} {H:aF} {id i ver ty sz:Nat} {lz:Bool} {rows:List (List V)} {r r':List V} (hH:H id=⟨ver,true,lz,ty,sz,rows.set i r⟩) (hi:i < rows.length) (hr:r.map nz=r')
    (h:G K T (upd H id ⟨ver,true,lz,ty,sz,rows.set i r'⟩)):G K T H:=by
  refine aQS (id:=id) (i:=i) (r:=r) r.length (pre:=[]) (suf:=r) rfl rfl ?_ ?_ ?_
  · rw [hH]
    refine aPD fun e=>?_
    have:=congrArg List.length e
    simp at this; subst this; simp at hi
  · rw [hH]; simp [hi]
  · rw [hH]; simp only [List.set_set]; rw [hr]; exact h
end Go.Proofs.YtmnnhjhkaepbaaaGreat
namespace Go.Proofs.YtmnnhjhkaepbaaaGreat
open Go
section
variable {P:Program} {k0:Nat} {Q:Ex→(Nat→V)→aF→Prop} {T:Nat→V} {H:aF}
theorem W_r {ops:List SO} {b:SC} (h:Ops P k0 ops T H fun T H=>W P k0 b Q T H):W P k0 (.seq (.reg ops) b) Q T H:=
  ⟨k0,lX (fun _ _ h=>.done h) h⟩
theorem W_t {ops:List SO} (h:Ops P k0 ops T H fun T H=>Q .norm T H):W P k0 (.reg ops) Q T H:=⟨k0,h⟩
end
theorem oB {ver ty sz:Nat} {rows:List (List V)}:okB ⟨ver,true,false,ty,sz,rows⟩ ver=true:=by simp [okB,Blk.own]
theorem lB {agg:Bool} {n ver row off:Nat} {B:Blk} {r:List V} {v:V} (ho:okB B ver=true) (hr:B.rows[row]?=some r) (hv:ldV agg n (r.drop off)=some v):ldB agg n B ver row off=some v:=by
  unfold ldB; rw [if_pos (show (B.own&&decide (B.ver=ver))=true from ho),hr]; exact hv
theorem sB {n ver row off:Nat} {B B':Blk} {r vs:List V} (ho:okB B ver=true) (hn:vs.length=n) (ha:vs.all V.one=true) (hr:B.rows[row]?=some r) (hl:Nat.ble (off+n) r.length=true) (hB:{B with rows:=B.rows.set row (dZ r off vs)}=B'):stB B ver row off n vs=some B':=by
  unfold stB; rw [if_pos ho,if_pos hn,if_pos ha,hr]; dsimp only; rw [if_pos (Nat.le_of_ble_eq_true hl),hB]
section
variable {P:Program} {k0 d:Nat} {r:List SO} {T:Nat→V} {H:aF} {K:(Nat→V)→aF→Prop} {a b:SX} {v:V}
theorem bD {agg:Bool} {n id ver row off ty sz:Nat} {rows:List (List V)} {rw:List V} (ha:ev T a=.mp id ver row off) (hH:H id=⟨ver,true,false,ty,sz,rows⟩) (hr:rows[row]?=some rw) (hv:ldV agg n (rw.drop off)=some v) (h:Ops P k0 r (upd T d v) H K):
    Ops P k0 (⟨none,some d,.load agg n a⟩::r) T H K:=bT ha hH (lB oB hr hv) h
theorem bR {off id ver row o ty sz:Nat} {rows:List (List V)} (ha:ev T a=.mp id ver row o) (hH:H id=⟨ver,true,false,ty,sz,rows⟩) (h:Ops P k0 r (upd T d (.mp id ver row (o+off))) H K):Ops P k0 (⟨none,some d,.fld off a⟩::r) T H K:=
  aHr ha hH oB rfl h
theorem aOp {n id ver row off ty sz:Nat} {rows:List (List V)} {B':Blk} {rw vs:List V} (ha:ev T a=.mp id ver row off) (hb:ev T b=v) (hc:v.cells=vs) (hH:H id=⟨ver,true,false,ty,sz,rows⟩) (hn:vs.length=n) (hl:vs.all V.one=true) (hr:rows[row]?=some rw)
    (hm:Nat.ble (off+n) rw.length=true) (hB:(⟨ver,true,false,ty,sz,rows.set row (dZ rw off vs)⟩:Blk)=B') (h:Ops P k0 r T (upd H id B') K):Ops P k0 (⟨none,none,.store n a b⟩::r) T H K:=
  bJ ha hb hc hH (sB oB hn hl hr hm hB) h
end
theorem R_e {P:Program} {k0:Nat} {T:Nat→V} {H:aF} {K:(Nat→V)→aF→Prop} (h:K T H):Ops P k0 [] T H K:=h
end Go.Proofs.YtmnnhjhkaepbaaaGreat
namespace Go.Proofs.YtmnnhjhkaepbaaaGreat
open Go
theorem pW {P:Program} {op:Opt} {f:Nat} {fn:Func} {s:SF} {args:List V} {v:V} {B:Prop} (hf:P.funcs[f]?=some fn) (hs:aM P op fn=some s)
    (hW : B → W P 0 s.body (Ret s.res fun u G => fzv true G 6 u = v) (T0 args) H0) (hn : (fn.name == "runtime.NumGoroutine") = false := by kernel_rfl)
    (hl:Nat.ble args.length s.n=true:=by rfl) (ha:cM args=true:=by simp) (hv:v.pure=true:=by simp)
    (hb:iN args=true→B:=by intro hB; first|(simp only [tV,tN,pF,tK,tX,aBb,tR,oU,implies_true,and_true,true_and] at hB; exact hB)|exact (fun _=>trivial) hB):aS P f args v:=
  oM true 6 hf hs hn (Nat.le_of_ble_eq_true hl) ha hv fun h=>hW (hb h)
theorem eW {P:Program} {op:Opt} {k0 f:Nat} {fn:Func} {s:SF} {args:List V} {H:aF} {v:V} {H':aF} {B:Prop} (hf:P.funcs[f]?=some fn) (hs:aM P op fn=some s)
    (hW : B → W P k0 s.body (Ret s.res fun u G => tE G H' ∧ cV G H' u v) (T0 args) H) (hn : (fn.name == "runtime.NumGoroutine") = false := by kernel_rfl)
    (hl:Nat.ble args.length s.n=true:=by rfl)
    (hb:iN args=true→B:=by intro hB; first|(simp only [tV,tN,pF,tK,tX,aBb,tR,oU,implies_true,and_true,true_and] at hB; exact hB)|exact (fun _=>trivial) hB):dB P f args H v H':=
  zQ hf hs hn (Nat.le_of_ble_eq_true hl) fun h=>hW (hb h)
theorem edT {x:V} {p:Prop} [Decidable p] (h:p) (hx:x=V.bool (decide p)):x=V.bool true:=by rw [hx]; simp [h]
theorem edF {x:V} {p:Prop} [Decidable p] (h: ¬p) (hx:x=V.bool (decide p)):x=V.bool false:=by rw [hx]; simp [h]
theorem ebT {x:V} {b:Bool} (h:b=true) (hx:x=V.bool b):x=V.bool true:=by rw [hx,h]
theorem ebF {x:V} {b:Bool} (h: ¬b=true) (hx:x=V.bool b):x=V.bool false:=by rw [hx,Bool.eq_false_iff.2 h]
theorem G_n {P:Program} {k0 d t:Nat} {r:List SO} {T:Nat→V} {H:aF} {K:(Nat→V)→aF→Prop} {w:Bool} {q:X} (ht:T t=.bool (!w)) (h:Ops P k0 r (upd T d (.raw undef)) H K):
    Ops P k0 (⟨some (t,w),some d,q⟩::r) T H K:=aUm ht (by cases w <;> decide) h
section
variable {P:Program} {k0 d:Nat} {r:List SO} {T:Nat→V} {H:aF} {K:(Nat→V)→aF→Prop} {a b:SX} {x y x' y':Int}
theorem aQy (ha:ev T a=.agg [iV x,iV y]) (hb:ev T b=.agg [iV x',iV y']) (h:Ops P k0 r (upd T d (.bool (decide (¬(x=x'∧y=y'))))) H K):Ops P k0 (⟨none,some d,.abin true [0,0] a b⟩::r) T H K:=by
  refine stp (v:=.bool (decide (¬(x=x'∧y=y')))) (fun _=>rfl) ?_ h
  rw [ha,hb]; simp only [qW,bU,if_true,Option.map_some]
  by_cases e:x=x' <;> by_cases e2:y=y' <;> simp [e,e2]
end
section
variable {P:Program} {k0 d:Nat} {r:List SO} {T:Nat→V} {H:aF} {K:(Nat→V)→aF→Prop} {a b:SX} {u w v:V}
end
section
variable {P:Program} {k0:Nat} {Q:Ex→(Nat→V)→aF→Prop} {T:Nat→V} {H:aF}
theorem aSb (k1:Nat) {ops:List SO} {b:SC} (h:Ops P k1 ops T H fun T H=>W P k0 b Q T H):W P k0 (.seq (.reg ops) b) Q T H:=⟨k1,lX (fun _ _ h=>.done h) h⟩
end
end Go.Proofs.YtmnnhjhkaepbaaaGreat
namespace Go.Proofs.YtmnnhjhkaepbaaaGreat
open Go
def aUE (ρ:Nat→Nat):V→V
  | .mp id ver r o=>.mp (ρ id) ver r o
  | .ms id ver o l=>.ms (ρ id) ver o l
  |v=>v
def aSg (ρ:Nat→Nat) (b:Blk):Blk:={b with rows:=b.rows.map fun r=>r.map (aUE ρ)}
structure View (n:Nat) (ρ:Nat→Nat) (x z:Cx):Prop where
  w:z.w=x.w
  Z: ∀ b,x.Z b→z.Z b
  H: ∀ i,i < n→z.H (ρ i)=aSg ρ (x.H i)
  σ: ∀ i,i < n→z.σ (ρ i)=x.σ i
def aSn (ρ:Nat→Nat) (HL:aF) (H:aF):Nat→aF
  |0=>H
  |n+1=>upd (aSn ρ HL H n) (ρ n) (aSg ρ (HL n))
section
variable {n:Nat} {ρ:Nat→Nat} {Hl:aF} {x:Cx}
end
inductive LOut where
  |ok (v:V) (HL:aF)
  |pan (c:Value)
def LOut.at (n:Nat) (ρ:Nat→Nat) (H:aF):LOut→Res
  | .ok v HL=>.ok v (aSn ρ HL H n)
  | .pan c=>.pan c ((List.range n).map ρ)
section
variable {P:Program} {op:Opt} {k0:Nat}
end
end Go.Proofs.YtmnnhjhkaepbaaaGreat
namespace Go.Proofs.YtmnnhjhkaepbaaaGreat
open Go
section
variable {P:Program} {k0 d:Nat} {r:List SO} {T:Nat→V} {H:aF} {K:(Nat→V)→aF→Prop} {a b c:SX} {v:V}
variable {k:IntKind} {x y:Int}
variable {s t:List UInt8}
abbrev u8V (c:UInt8):V:=.int .u8 ((c.toNat:Nat):Int)
end
section
variable {P:Program} {k0 f:Nat} {Q:Ex→(Nat→V)→aF→Prop} {T:Nat→V} {H:aF} {d:Option Nat} {r:SC} {i:Nat} {asq asq':List V} {args:List SX} {b b' b1 b1':Blk} {v:V} {c:Value} {out:LOut}
variable {res:List SRes} {HL:aF}
end
end Go.Proofs.YtmnnhjhkaepbaaaGreat
namespace Go.Proofs.YtmnnhjhkaepbaaaGreat
open Go
def bB (b:UInt8):List V:=[u8V b]
section
variable {P:Program} {k0:Nat} {K:(Nat→V)→aF→Prop} {T:Nat→V} {H:aF} {d:Nat} {r:List SO} {a b:SX}
end
section
variable {P:Program} {k0 f:Nat} {Q:Ex→(Nat→V)→aF→Prop} {T:Nat→V} {H:aF} {i j:Nat} {asq asq':List V} {a a' a1 a1' b b' b1 b1':Blk} {v:V} {c:Value} {out:LOut}
variable {res:List SRes}
end
end Go.Proofs.YtmnnhjhkaepbaaaGreat
namespace Go.Proofs.YtmnnhjhkaepbaaaGreat
open Go
def hU (B : Blk) (ver kd : Nat) (z key : V) : Option (V × Bool) :=
  if (B.own && decide (B.ver = ver) && B.isM && decide (B.sz = 2) && iW kd key) = true then match B.rows with
    | _ :: es => match eL kd key es 0 with
      |some (some (_,v))=>some (v,true)
      |some none=>some (z,false)
      |none=>none
    |[]=>none
  else none
def lQ (B : Blk) (ver kd : Nat) (key val : V) : Option Blk :=
  if (B.own && decide (B.ver = ver) && B.isM && decide (B.sz = 2) && iW kd key) = true then match B.rows with
    | h :: es => match eL kd key es 0 with
      |some (some (i,_))=>some {B with rows:=h::es.set i [key,val]}
      |some none=>some {B with rows:=h::(es++[[key,val]])}
      |none=>none
    |[]=>none
  else none
section
variable {P:Program} {k0:Nat} {r:List SO} {T:Nat→V} {H:aF} {K:(Nat→V)→aF→Prop} {d:Nat} {a b c:SX} {v:V}
theorem tL {i n:Nat} {rows:List (List V)} (hi:k0+d=i) (hv:(H i).ver=n) (hr:rows=[[.nilp,.nilp]]) (h:Ops P k0 r (upd T d (.mm i (n+1))) (upd H i (⟨n+1,true,true,bL,2,rows⟩:Blk)) K):Ops P k0 (⟨none,some d,.mkmap⟩::r) T H K:=by
  subst hi; subst hv; subst hr; exact h
theorem aBa {id ver kd:Nat} {z key u:V} {B:Blk} {f:Bool} (ha:ev T a=.mm id ver) (hb:ev T b=key) (hH:H id=B) (hl:hU B ver kd z key=some (u,f)) (h:Ops P k0 r (upd T d (.tup [u,.bool f])) H K):
    Ops P k0 (⟨none,some d,.mlook kd true z a b⟩::r) T H K:=by
  subst hH; subst hb
  simp only [Ops,St]
  refine nL (x:=(u,f)) ?_ h
  rw [ha]; exact hl
theorem aBC {id ver kd:Nat} {z key u:V} {B:Blk} {f:Bool} (ha:ev T a=.mm id ver) (hb:ev T b=key) (hH:H id=B) (hl:hU B ver kd z key=some (u,f)) (h:Ops P k0 r (upd T d u) H K):
    Ops P k0 (⟨none,some d,.mlook kd false z a b⟩::r) T H K:=by
  subst hH; subst hb
  simp only [Ops,St]
  refine nL (x:=(u,f)) ?_ h
  rw [ha]; exact hl
theorem aKk {id ver kd : Nat} {key val : V} {B' : Blk} (h : lQ (H id) ver kd key val = some B') : uV H kd (.mm id ver) key val = some (upd H id B') := by
  unfold lQ at h
  unfold uV
  simp only
  by_cases hc:((H id).own&&decide ((H id).ver=ver)&&(H id).isM&&decide ((H id).sz=2)&&iW kd key)=true
  · rw [if_pos hc] at h ⊢
    cases hr:(H id).rows with
    |nil=>rw [hr] at h; cases h
    | cons e es =>
      rw [hr] at h
      simp only at h ⊢
      cases hf:eL kd key es 0 with
      |none=>rw [hf] at h; cases h
      | some o =>
        rw [hf] at h
        cases o with
        |none=>cases h; rfl
        |some p=>cases h; rfl
  · rw [if_neg hc] at h; cases h
theorem vR {id ver kd:Nat} {key val:V} {B B':Blk} (ha:ev T a=.mm id ver) (hb:ev T b=key) (hc:ev T c=val) (hH:H id=B) (hl:lQ B ver kd key val=some B') (h:Ops P k0 r T (upd H id B') K):
    Ops P k0 (⟨none,none,.mset kd a b c⟩::r) T H K:=by
  subst hH; subst hb; subst hc
  simp only [Ops,St]
  refine nL (x:=upd H id B') ?_ h
  rw [ha]; exact aKk hl
end
def gV (es:List (List UInt8×V)):List (List V):=[.nilp,.nilp]::es.map fun p=>[.str p.1,p.2]
def aDq:List (List UInt8×V)→List UInt8→V→List (List UInt8×V)
  |[],t,v=>[(t,v)]
  |p::es,t,v=>if p.1=t then (t,v)::es else p::aDq es t v
theorem aIa (t : List UInt8) : ∀ (es : List (List UInt8 × V)) (i : Nat), ∃ j, eL 0 (.str t) (es.map fun p => [.str p.1, p.2]) i = some ((es.find? fun p => decide (p.1 = t)).map fun p => (i + j, p.2)) ∧
    ∀ v,(es.find? (fun p=>decide (p.1=t))).isSome=true→j < es.length∧(es.map fun p=>[V.str p.1,p.2]).set j [.str t,v]=(aDq es t v).map fun p=>[.str p.1,p.2]
  |[],i=>⟨0,rfl,fun v h=>by cases h⟩
  | p :: es, i => by
    by_cases e:p.1=t
    · refine ⟨0,?_,fun v _=>⟨Nat.zero_lt_succ _,?_⟩⟩
      · rw [List.map_cons,eL,nV,beq_iff_eq.2 e.symm,List.find?_cons_of_pos (by exact decide_eq_true e)]; rfl
      · rw [aDq,if_pos e]; rfl
    · obtain ⟨j,h1,h2⟩:=aIa t es (i+1)
      refine ⟨j+1,?_,fun v hs=>?_⟩
      · rw [List.map_cons,eL,nV,show (t==p.1)=false from by simpa using fun q=>e q.symm,List.find?_cons_of_neg (by simpa using e)]
        simp only
        rw [h1,show i+1+j=i+(j+1) by omega]
      · rw [List.find?_cons_of_neg (by simpa using e)] at hs
        obtain ⟨g1,g2⟩:=h2 v hs
        refine ⟨by simp; exact g1,?_⟩
        rw [aDq,if_neg e,List.map_cons,List.set_cons_succ,g2]; rfl
theorem vU {t:List UInt8} {v:V}: ∀ {es:List (List UInt8×V)},(es.find? fun p=>decide (p.1=t))=none→aDq es t v=es++[(t,v)]
  |[],_=>rfl
  | p :: es, h => by
    by_cases e:p.1=t
    · rw [List.find?_cons_of_pos (by exact decide_eq_true e)] at h; cases h
    · rw [List.find?_cons_of_neg (by simpa using e)] at h
      rw [aDq,if_neg e,vU h]; rfl
section
variable {ver:Nat} {z:V} {t:List UInt8} {es:List (List UInt8×V)}
theorem aLX:hU ⟨ver,true,true,bL,2,gV es⟩ ver 0 z (.str t)=some (match es.find? fun p=>decide (p.1=t) with
    |some p=>(p.2,true)
    |none=>(z,false)):=by
  obtain ⟨j,h,_⟩:=aIa t es 0
  unfold hU
  rw [if_pos (by simp [Blk.own,Blk.isM,bL,gV,iW])]
  simp only [gV]
  rw [h]
  cases es.find? fun p=>decide (p.1=t) <;> rfl
theorem aDp {v:V} {s:List UInt8} (h:(es.find? fun p=>decide (p.1=t))=some (s,v)):hU ⟨ver,true,true,bL,2,gV es⟩ ver 0 z (.str t)=some (v,true):=by rw [aLX,h]
theorem aDA (h:(es.find? fun p=>decide (p.1=t))=none):hU ⟨ver,true,true,bL,2,gV es⟩ ver 0 z (.str t)=some (z,false):=by rw [aLX,h]
theorem aUy {v:V}:lQ ⟨ver,true,true,bL,2,gV es⟩ ver 0 (.str t) v=some ⟨ver,true,true,bL,2,gV (aDq es t v)⟩:=by
  obtain ⟨j,h,h2⟩:=aIa t es 0
  unfold lQ
  rw [if_pos (by simp [Blk.own,Blk.isM,bL,gV,iW])]
  simp only [gV]
  rw [h]
  cases q:es.find? fun p=>decide (p.1=t) with
  |none=>simp only [Option.map_none]; rw [vU q]; simp
  |some p=>simp only [Option.map_some]; rw [Nat.zero_add,(h2 v (by rw [q]; rfl)).2]
theorem aBo {v:V} (h:(es.find? fun p=>decide (p.1=t))=none):lQ ⟨ver,true,true,bL,2,gV es⟩ ver 0 (.str t) v=some ⟨ver,true,true,bL,2,gV (es++[(t,v)])⟩:=by rw [aUy,vU h]
end
end Go.Proofs.YtmnnhjhkaepbaaaGreat
namespace Go.Proofs.YtmnnhjhkaepbaaaGreat
open Go
section
variable {P:Program} {k0:Nat} {r:List SO} {T:Nat→V} {H:aF} {K:(Nat→V)→aF→Prop} {d:Nat} {a b c:SX} {v:V}
end
end Go.Proofs.YtmnnhjhkaepbaaaGreat
namespace Go.Proofs.YtmnnhjhkaepbaaaGreat
open Go
theorem aOR {K:(Nat→V)→aF→Prop} {T:Nat→V} {H:aF} {id ver ty sz:Nat} {lz:Bool} {r r':List V} (hH:H id=⟨ver,true,lz,ty,sz,[r]⟩) (hr:r.map nz=r')
    (h:G K T (upd H id ⟨ver,true,lz,ty,sz,[r']⟩)):G K T H:=
  aJg (rows:=[r]) (i:=0) (r:=r) hH (Nat.zero_lt_one) hr h
end Go.Proofs.YtmnnhjhkaepbaaaGreat
namespace Go.Proofs.YtmnnhjhkaepbaaaGreat
open Go
section
variable {P:Program} {k0:Nat} {Q:Ex→(Nat→V)→aF→Prop} {T:Nat→V} {H:aF}
end
end Go.Proofs.YtmnnhjhkaepbaaaGreat
namespace Go.Proofs.YtmnnhjhkaepbaaaGreat
open Go
section
variable {ver:Nat} {k:Int×List UInt8} {l:List (Int×List UInt8)}
end
end Go.Proofs.YtmnnhjhkaepbaaaGreat
namespace Go.Proofs.YtmnnhjhkaepbaaaGreat
open Go
section
variable {P:Program} {k0 d:Nat} {r:List SO} {T:Nat→V} {H:aF} {K:(Nat→V)→aF→Prop} {a b:SX} {x y:Int} {s t:List UInt8}
end
end Go.Proofs.YtmnnhjhkaepbaaaGreat
namespace Go.Proofs.YtmnnhjhkaepbaaaGreat
open Go
section
variable {P:Program} {k0:Nat} {r:List SO} {T:Nat→V} {H:aF} {K:(Nat→V)→aF→Prop} {d:Nat} {a b:SX}
variable {Q:Ex→(Nat→V)→aF→Prop}
theorem aUC {ps:List (Nat×Nat×Nat×Nat)} {ops:List SO} (h:Ops P k0 ops T H fun T H=>ddB ps ops T=true∧Q .norm T H):W P k0 (.xreg ps ops) Q T H:=⟨k0,h⟩
end
end Go.Proofs.YtmnnhjhkaepbaaaGreat
namespace Go.Proofs.YtmnnhjhkaepbaaaGreat
open Go
def uZ (B:Blk) (ver:Nat):Option Nat:=if (B.own&&decide (B.ver=ver)&&B.isM&&decide (B.sz=2))=true then match B.rows with
  |_::es=>some es.length
  |[]=>none
  else none
section
variable {P:Program} {k0 d:Nat} {r:List SO} {T:Nat→V} {H:aF} {K:(Nat→V)→aF→Prop} {a:SX}
theorem aAS {id ver n:Nat} {B:Blk} (ha:ev T a=.mm id ver) (hH:H id=B) (hl:uZ B ver=some n) (h:Ops P k0 r (upd T d (iV ((n:Nat):Int))) H K):Ops P k0 (⟨none,some d,.mlen a⟩::r) T H K:=by
  subst hH
  simp only [Ops,St]
  refine nL (x:=iV ((n:Nat):Int)) ?_ h
  rw [ha]
  unfold uZ at hl
  unfold yK
  simp only
  by_cases hc:((H id).own&&decide ((H id).ver=ver)&&(H id).isM&&decide ((H id).sz=2))=true
  · rw [if_pos hc] at hl ⊢
    cases hr:(H id).rows with
    |nil=>rw [hr] at hl; cases hl
    |cons e es=>rw [hr] at hl; cases hl; rfl
  · rw [if_neg hc] at hl; cases hl
end
end Go.Proofs.YtmnnhjhkaepbaaaGreat
namespace Go.Proofs.YtmnnhjhkaepbaaaGreat
open Go
theorem rVq (v:V):v=v:=rfl
theorem rNq (n:Nat):iV (n:Int)=iV (n:Int):=rfl
abbrev bZq:Blk:=⟨0,false,false,0,0,[]⟩
abbrev bMq (m:M):Blk:=bk 1 24 4 [[iV m.i,iV m.s,aD m.nx,aD m.ot]]
abbrev bNq:Blk:=bk 1 24 4 [[iV 0,iV 0,V.nilsl,V.nilsl]]
abbrev mPq (n:Nat):V:=.mp n 1 0 0
theorem uTq {α:Type} {f:Nat→α} {i j:Nat} {v w:α} (g:f j=w) (h:j≠i:=by decide):upd f i v j=w:=(aQ _ _ h).trans g
theorem eTq {α:Sort _} {a b c:α} (h:a=b) (g:b=c):a=c:=h.trans g
abbrev gAq:V:=.sl [[.sl [[iV 1],[iV 0]]],[.sl [[iV 1],[iV 0]]]]
abbrev gBq:V:=.sl [[.sl [[iV 257],[iV 0]]],[.sl [[iV 257],[iV 512]]]]
abbrev gCq:V:=.sl [[.sl [[iV 1],[iV 0]]],[.sl [[iV 1],[iV 2]]]]
theorem nFq {α:Type} {p:α→Prop} (x:α) (h:x∈([]:List α)):p x:=by cases h
theorem cVq {a b:Blk} (h:a=b):a.ver=b.ver:=congrArg Blk.ver h
end Go.Proofs.YtmnnhjhkaepbaaaGreat
namespace Go.Proofs.YtmnnhjhkaepbaaaGreat
open Go Go.Proofs
def aUq:List SO:=[
 qL 17 4 3,
 sO 18 (.call false 8 [.t 17]),
 qM 19 18,
 ⟨some (19,false),some 20,.mv (.t 1)⟩,
 ⟨some (19,false),some 21,.len (.t 20)⟩,
 ⟨some (19,false),some 22,.bin .gtr (.t 21) (.c (.int .i64 4))⟩,
 sO 23 (.pick (.t 19) (.c (.bool true)) (.t 22)),
 qM 24 23,
 ⟨some (24,false),some 25,.mv (.t 2)⟩,
 ⟨some (24,false),some 26,.len (.t 25)⟩,
 ⟨some (24,false),some 27,.bin .gtr (.t 26) (.c (.int .i64 60))⟩,
 sO 28 (.pick (.t 24) (.c (.bool true)) (.t 27)),
 qM 29 28,
 ⟨some (29,false),some 30,.mv (.t 2)⟩,
 ⟨some (29,false),some 31,.len (.t 30)⟩,
 ⟨some (29,false),some 32,.bin .eql (.t 31) (.c (.int .i64 0))⟩,
 sO 33 (.pick (.t 29) (.c (.bool true)) (.t 32))]
def aUv:List SO:=[
 qL 36 4 3,
 qM 37 1,
 sO 38 (.call false 20 [.t 36,.t 37]),
 qM 35 38,
 qE 39 35 0,
 qE 40 35 1,
 qM 7 39,
 qM 8 40]
def aUD:List SO:=[
 qL 42 4 3,
 qM 43 2,
 sO 44 (.call false 23 [.t 42,.t 43]),
 qM 41 44,
 qE 45 41 0,
 qE 46 41 1,
 qM 9 45,
 qM 10 46]
def aUp:List SO:=[
 qM 54 9,
 qN 55 54,
 qM 56 2,
 qN 57 56,
 qP 58 .neq 55 57,
 qM 59 58,
 ⟨some (59,false),some 60,.mv (.t 7)⟩,
 ⟨some (59,false),some 61,.len (.t 60)⟩,
 ⟨some (59,false),some 62,.mv (.t 1)⟩,
 ⟨some (59,false),some 63,.len (.t 62)⟩,
 ⟨some (59,false),some 64,.bin .neq (.t 61) (.t 63)⟩,
 sO 65 (.pick (.t 59) (.c (.bool true)) (.t 64))]
def aUw:List SO:=[
 qM 66 1,
 qM 67 2,
 qM 68 2,
 qN 69 68,
 qC 70 .sub 69 1,
 qA 71 1 67 70,
 ql 72 71,
 sO 73 (.call false 24 [.t 66,.t 72]),
 qM 11 73]
def aTZ:List SO:=[
 qM 82 14,
 qM 83 1,
 qM 84 11,
 qA 85 1 83 84,
 ql 86 85,
 qN 87 86,
 qP 88 .lss 82 87]
def aR7:List SO:=[
 qM 91 1,
 qM 92 11,
 qA 93 1 91 92,
 ql 94 93,
 qM 95 14,
 qA 96 1 94 95,
 ql 97 96,
 qM 98 2,
 qM 99 13,
 qA 100 1 98 99,
 ql 101 100,
 qP 102 .eql 97 101]
def aSM:SC:=.seq (.seq (.reg aTZ) (.cond (.t 88) (.skip) (.exit 2))) (.seq (.block 3 (.seq (.reg aR7) (.cond (.t 102) (.reg [qM 103 12,qM 104 14,sO 105 (.bslice 3 1 false [.int .i64 0] 1 [(0,.t 104)]),sO 106 (.append 3 1 8 (.t 103) (.t 105)),qM 12 106]) (.skip)))) (.reg [qM 89 14,qC 90 .add 89 1,qM 14 90]))
def aT5:SC:=.seq (.seq (.reg [qM 76 13,qM 77 2,qN 78 77,qP 79 .lss 76 78]) (.cond (.t 79) (.skip) (.exit 0))) (.seq (.block 1 (.seq (.reg [qI 14 0]) (.block 2 (.loop aSM)))) (.reg [qM 80 13,qC 81 .add 80 1,qM 13 81]))
def aSu:List SO:=[
 qM 108 7,
 qM 109 11,
 qA 110 4 108 109,
 qL 111 4 110,
 qM 112 12,
 sO 113 (.call false 23 [.t 111,.t 112]),
 qM 107 113,
 qE 114 107 0,
 qE 115 107 1,
 qM 15 114,
 qM 16 115]
def aRY:List SO:=[
 qM 116 16,
 qC 117 .neq 116 0,
 qM 118 117,
 ⟨some (118,false),some 119,.mv (.t 15)⟩,
 ⟨some (118,false),some 120,.len (.t 119)⟩,
 ⟨some (118,false),some 121,.bin .eql (.t 120) (.c (.int .i64 0))⟩,
 sO 122 (.pick (.t 118) (.c (.bool true)) (.t 121))]
def aSK:List SO:=[
 qM 123 15,
 qM 124 15,
 qN 125 124,
 qC 126 .sub 125 1,
 qA 127 1 123 126,
 ql 128 127,
 qM 129 9,
 qM 130 9,
 qN 131 130,
 qC 132 .sub 131 1,
 qA 133 1 129 132,
 ql 134 133,
 qP 135 .eql 128 134,
 qM 136 135,
 ⟨some (136,true),some 137,.call false 9 []⟩,
 sO 138 (.pick (.t 136) (.t 137) (.c (.bool false))),
 qM 6 138]
def s6:SF:=⟨139,[.tmp 6],.seq (.reg [sO 3 (.box 24 4 (.t 0)),sO 6 (.mv (.c (.bool false)))]) (.seq (.seq (.reg aUq) (.cond (.t 33) (.seq (.reg [sO 34 (.call false 9 []),qM 6 34]) (.ret)) (.skip))) (.seq (.reg aUv) (.seq (.reg aUD) (.seq (.seq (.reg [qM 47 8,qC 48 .neq 47 0,qM 49 48,⟨some (49,false),some 50,.mv (.t 10)⟩,⟨some (49,false),some 51,.bin .neq (.t 50) (.c (.int .i64 0))⟩,sO 52 (.pick (.t 49) (.c (.bool true)) (.t 51))]) (.cond (.t 52) (.seq (.reg [sO 53 (.call false 9 []),qM 6 53]) (.ret)) (.skip))) (.seq (.seq (.reg aUp) (.cond (.t 65) (.seq (.reg [sO 6 (.mv (.c (.bool false)))]) (.ret)) (.skip))) (.seq (.reg aUw) (.seq (.seq (.reg [qM 74 11,qC 75 .lss 74 0]) (.cond (.t 75) (.seq (.reg [sO 6 (.mv (.c (.bool false)))]) (.ret)) (.skip))) (.seq (.reg [sO 12 (.lazy 3 1)]) (.seq (.seq (.reg [qI 13 0]) (.block 0 (.loop aT5))) (.seq (.reg aSu) (.seq (.seq (.reg aRY) (.cond (.t 122) (.seq (.reg [sO 6 (.mv (.c (.bool false)))]) (.ret)) (.skip))) (.seq (.reg aSK) (.ret)))))))))))))⟩
theorem aSp:aM Tryz.prog ⟨[39,75,135,136,137,155,161,186,188,194,195,196,211,212,213,226,230,233,238],[12],[],[]⟩ Tryz.f6=some s6:=by kernel_rfl
def aUk:List SO:=[
 qF 3 2 1,
 ql 4 3,
 qN 5 4,
 qC 6 .gtr 5 12,
 qM 7 6,
 ⟨some (7,false),some 8,.fld 3 (.t 1)⟩,
 ⟨some (7,false),some 9,.load false 1 (.t 8)⟩,
 ⟨some (7,false),some 10,.len (.t 9)⟩,
 ⟨some (7,false),some 11,.bin .gtr (.t 10) (.c (.int .i64 12))⟩,
 sO 12 (.pick (.t 7) (.c (.bool true)) (.t 11)),
 qM 13 12,
 ⟨some (13,false),some 14,.fld 0 (.t 1)⟩,
 ⟨some (13,false),some 15,.load false 1 (.t 14)⟩,
 ⟨some (13,false),some 16,.bin .gtr (.t 15) (.c (.int .i64 6))⟩,
 sO 17 (.pick (.t 13) (.c (.bool true)) (.t 16)),
 qM 2 17]
def s8:SF:=⟨18,[.tmp 2],.seq (.reg [sO 1 (.box 24 4 (.t 0)),sO 2 (.mv (.c (.bool false)))]) (.seq (.reg aUk) (.ret))⟩
theorem aTl:aM Tryz.prog ⟨[39,75,135,136,137,155,161,186,188,194,195,196,211,212,213,226,230,233,238],[],[],[]⟩ Tryz.f8=some s8:=by kernel_rfl
end Go.Proofs.YtmnnhjhkaepbaaaGreat
namespace Go.Proofs.YtmnnhjhkaepbaaaGreat
open Go
theorem aIs {a p:List Int} (h:hp a p=true):p.length≤a.length:=by
  simp only [hp,decide_eq_true_eq] at h
  have:=pA a p; omega
def aS1:List Tr→List Int→Option (List Int)
  |[],_=>none
  |t::l,w=>if hp t.ni w then some (t.no.take w.length) else aS1 l w
def ans (o:Ob) (w:List Int):Option (List Int):=if w=[] then some [] else aS1 o.tr w
theorem OK.mem {o:Ob} (ok:OK o) {t:Tr} (ht:t∈o.tr):Proper t o.i∧0 < t.ni.length:=by
  obtain ⟨k,hk,rfl⟩:=dN ht; exact ok.pr k hk
abbrev fdA (a b:Tr):List Int:=a.no.take (cmn a.ni b.ni)
abbrev fdB (a b:Tr):List Int:=b.no.take (cmn a.ni b.ni)
def fd (a b:Tr):List (List Int):=if cmn (fdA a b) (fdB a b) < min (fdA a b).length (fdB a b).length then [a.ni.take (aUt (fdA a b) (fdB a b)+1)] else []
theorem OK.same {o:Ob} (ok:OK o) {s t:Tr} (hs:s∈o.tr) (ht:t∈o.tr) {j:Nat} (hj:j < cmn s.ni t.ni):nth s.no j=nth t.no j:=by
  obtain ⟨a,ha,rfl⟩:=dN hs
  obtain ⟨b,hb,rfl⟩:=dN ht
  have key: ∀ a b,a < b→b < o.tr.length→ ∀ j,j < cmn (nth o.tr a).ni (nth o.tr b).ni→nth (nth o.tr a).no j=nth (nth o.tr b).no j:=by
    intro a b hab hb j hj
    by_cases e:nth (nth o.tr a).no j=nth (nth o.tr b).no j
    · exact e
    · have h1:=ok.cla a b hab hb
      have h2:=aDG.2 ⟨j,hj,e⟩
      omega
  by_cases e:a=b
  · subst e; rfl
  · by_cases h:a < b
    · exact key a b h hb j hj
    · rw [gS] at hj
      exact (key b a (by omega) ha j hj).symm
theorem aK4 {p x y:List Int}:cmn (p++x) (p++y)=p.length+cmn x y:=by
  induction p with
  |nil=>simp
  |cons a p ih=>simp [cmn,ih]; omega
def Ap (o:Ob) (u v x:List Int):Prop:=
  x≠[]∧ ∃ s∈o.tr,∃ t∈o.tr,hp s.ni (u++x)=true∧hp t.ni (v++x)=true∧nth s.no (u.length+x.length - 1)≠nth t.no (v.length+x.length - 1)
theorem Ap.symm {o:Ob} {u v x:List Int} (h:Ap o u v x):Ap o v u x:=by
  obtain ⟨h1,s,hs,t,ht,h2,h3,h4⟩:=h
  exact ⟨h1,t,ht,s,hs,h3,h2,fun e=>h4 e.symm⟩
structure Covers (o:Ob) (u v:List Int) (l:List (List Int)):Prop where
  sound: ∀ x∈l,Ap o u v x
  full: ∀ x,Ap o u v x→ ∃ y∈l,slx y x≤0
theorem aHF {x y:List Int} (h:hp y x=true):slx x y≤0:=by
  obtain ⟨z,rfl⟩:=aCN.1 h
  cases z with
  |nil=>rw [List.append_nil,eH.2 rfl]; omega
  |cons a z=>unfold slx; rw [if_pos (by simp)]; omega
theorem Covers.swap {o:Ob} {u v:List Int} {l:List (List Int)} (h:Covers o u v l):Covers o v u l:=
  ⟨fun x hx=>(h.sound x hx).symm,fun x hx=>h.full x hx.symm⟩
end Go.Proofs.YtmnnhjhkaepbaaaGreat
namespace Go.Proofs.YtmnnhjhkaepbaaaGreat
open Go Go.Sort
theorem sU {α : Type} {le : α → α → Prop} : ∀ {l m : List α}, (∀ a ∈ l, ∀ b ∈ l, le a b → le b a → a = b) → l.Perm m → l.Pairwise le → m.Pairwise le → l = m
  |[],m,_,hp,_,_=>(List.perm_nil.1 hp.symm).symm
  |a::l,[],_,hp,_,_=>(List.cons_ne_nil _ _ (List.perm_nil.1 hp)).elim
  | a :: l, b :: m, anti, hp, h1, h2 => by
    have hb:b∈a::l:=hp.mem_iff.2 (List.mem_cons_self ..)
    have ha:a∈b::m:=hp.mem_iff.1 (List.mem_cons_self ..)
    have e:a=b:=by
      rcases List.mem_cons.1 hb with e|hb'
      · exact e.symm
      · rcases List.mem_cons.1 ha with e|ha'
        · exact e
        · exact anti a (List.mem_cons_self ..) b hb ((List.pairwise_cons.1 h1).1 b hb') ((List.pairwise_cons.1 h2).1 a ha')
    subst e
    rw [sU (fun x hx y hy=>anti x (List.mem_cons_of_mem _ hx) y (List.mem_cons_of_mem _ hy)) (List.Perm.cons_inv hp) (List.pairwise_cons.1 h1).2 (List.pairwise_cons.1 h2).2]
def aFT {α:Type} (cmp:α→α→Int) (a:α):List α→List α
  |[]=>[a]
  |b::l=>if cmp b a < 0 then b::aFT cmp a l else a::b::l
def srt {α:Type} (cmp:α→α→Int) (l:List α):List α:=l.foldr (aFT cmp) []
theorem rR {α:Type} (cmp:α→α→Int) (a:α): ∀ l:List α,(aFT cmp a l).Perm (a::l)
  |[]=>List.Perm.refl _
  | b :: l => by
    rw [aFT]
    split
    · exact ((rR cmp a l).cons b).trans (List.Perm.swap a b l)
    · exact List.Perm.refl _
theorem mA {α:Type} (cmp:α→α→Int): ∀ l:List α,(srt cmp l).Perm l
  |[]=>List.Perm.refl _
  |a::l=>(rR cmp a (srt cmp l)).trans ((mA cmp l).cons a)
theorem iZ {α:Type} (cmp:α→α→Int) (l:List α):(srt cmp l).length=l.length:=(mA cmp l).length_eq
theorem sC {α : Type} {cmp : α → α → Int} (hO : SWO fun a b => decide (cmp a b < 0)) (a : α) : ∀ {l : List α}, (l.Pairwise fun a b => ¬cmp b a < 0) → (aFT cmp a l).Pairwise fun a b => ¬cmp b a < 0
  |[],_=>List.pairwise_singleton _ _
  | b :: l, h => by
    obtain ⟨h1,h2⟩:=List.pairwise_cons.1 h
    rw [aFT]
    split
    · rename_i q
      refine List.pairwise_cons.2 ⟨fun x hx=>?_,sC hO a h2⟩
      rcases List.mem_cons.1 ((rR cmp a l).mem_iff.1 hx) with e|e
      · rw [e]; intro q2
        have:=hO.trans a b a (by simpa using q2) (by simpa using q)
        rw [hO.irrefl a] at this; cases this
      · exact h1 x e
    · rename_i q
      refine List.pairwise_cons.2 ⟨fun x hx=>?_,h⟩
      rcases List.mem_cons.1 hx with e|e
      · rw [e]; exact q
      · have:=hO.ntrans x b a (by simpa using h1 x e) (by simpa using q)
        simpa using this
theorem lJ {α:Type} {cmp:α→α→Int} (hO:SWO fun a b=>decide (cmp a b < 0)): ∀ l:List α,(srt cmp l).Pairwise fun a b=> ¬cmp b a < 0
  |[]=>List.Pairwise.nil
  |a::l=>sC hO a (lJ hO l)
end Go.Proofs.YtmnnhjhkaepbaaaGreat
namespace Go.Proofs.YtmnnhjhkaepbaaaGreat
open Go Go.Sort
theorem lA {a b:List Int}: ¬aZ a b < 0↔aZ b a≤0:=by
  constructor
  · intro h
    by_cases e:aZ a b=0
    · rw [cS.2 (cS.1 e).symm]; omega
    · have:=aBH (a:=a) (b:=b) (by omega); omega
  · intro h g
    have:=wR g; omega
theorem aLn {a b c:List Int} (h1:aZ a b≤0) (h2:aZ b c≤0):aZ a c≤0:=by
  by_cases e1:aZ a b=0
  · rw [cS.1 e1]; exact h2
  · by_cases e2:aZ b c=0
    · rw [← cS.1 e2]; exact h1
    · have:=lH (a:=a) (b:=b) (c:=c) (by omega) (by omega); omega
theorem OK.lt_of {o:Ob} (h: ∀ k,k+1 < o.tr.length→slx (nth o.tr k).ni (nth o.tr (k+1)).ni < 0): ∀ {i k:Nat},i < k→k < o.tr.length→slx (nth o.tr i).ni (nth o.tr k).ni < 0:=by
  intro i k hik hk
  induction k with
  |zero=>omega
  | succ k ih =>
    by_cases e:i=k
    · subst e; exact h i hk
    · exact kM (ih (by omega) (by omega)) (h k hk)
theorem aBT {a b c : List Int} (h1 : aZ a b ≤ 0) (h2 : aZ b c ≤ 0) : cmn a c ≤ cmn a b ∧ cmn a c ≤ cmn b c := by
  have s1:=cZ a b
  have s2:=cZ b c
  have s3:=cZ a c
  have m:=pC (a:=a) (b:=c) (c:=b)
  have m2:=pC (a:=b) (b:=a) (c:=c)
  have e1:=gS c b
  have e2:=gS b a
  have key:cmn a c≤cmn a b:=by
    by_cases g:cmn a c≤cmn a b
    · exact g
    · exfalso
      have hlt:cmn a b < cmn a c:=by omega
      have hbc:cmn b c=cmn a b:=by
        rw [gS b c]
        refine iU ?_ ?_
        · have:=pC (a:=c) (b:=a) (c:=b); rw [gS c a] at this; omega
        · by_cases q:b.length≤cmn a b
          · exact .inr (.inl q)
          · refine .inr (.inr ?_)
            rw [← s3.2.2.1 _ hlt]
            exact s1.2.2.2 (by omega) (by omega)
      unfold aZ at h1 h2
      rw [hbc] at h2
      have hca:=s3.2.2.1 _ hlt
      by_cases q:cmn a b=b.length
      · rw [if_neg (by omega),if_neg (by omega)] at h1; omega
      · have hne:=s1.2.2.2 (by omega) (by omega)
        rw [if_neg (by omega)] at h1
        rw [if_neg (by omega)] at h2
        split at h1
        · rename_i g1
          split at h2
          · rename_i g2
            rw [hca] at g1; omega
          · omega
        · omega
  have m3:=pC (a:=b) (b:=a) (c:=c)
  exact ⟨key,by omega⟩
end Go.Proofs.YtmnnhjhkaepbaaaGreat
namespace Go.Proofs.YtmnnhjhkaepbaaaGreat
open Go
theorem aH5 {p:Nat→Bool}: ∀ n k,-1≤fi p k n∧(0≤fi p k n→fi p k n < ((k+n:Nat):Int))
  |0,k=>⟨Int.le_refl _,fun h=>by simp [fi] at h⟩
  | n + 1, k => by
    simp only [fi]
    split
    · exact ⟨by omega,fun _=>by omega⟩
    · have h:=aH5 (p:=p) n (k+1)
      exact ⟨h.1,fun h0=>by have:=h.2 h0; omega⟩
def clA (l:List Tr) (t:Tr):Nat→Nat×Int
  |0=>(t.ni.length,0)
  |n+1=>if 0≤df (nth l n) t∧df (nth l n) t < ((clA l t n).1:Nat) then ((df (nth l n) t).toNat,nth (nth l n).no (df (nth l n) t).toNat) else clA l t n
def clB (o:Ob) (t:Tr):Prop:=prE t o.i=0∧(clA o.tr t o.tr.length).1≠t.ni.length
instance (o:Ob) (t:Tr):Decidable (clB o t):=by unfold clB; infer_instance
end Go.Proofs.YtmnnhjhkaepbaaaGreat
namespace Go.Proofs.YtmnnhjhkaepbaaaGreat
def lbP (t u:Tr):Bool:=decide (slx u.ni t.ni < 0)
def Srt (l:List Tr):Prop:=l.Pairwise fun a b=>slx a.ni b.ni < 0
def inP (l:List Tr) (t:Tr) (j:Nat):Bool:=hp (nth l j).ni t.ni
def ins (l:List Tr) (t:Tr):List Tr:=l.filter (lbP t)++t::l.filter fun u=> !lbP t u
def inL (l:List Tr) (t:Tr):Prop:=exB (inP l t) 0 l.length=true∨t.ni.length=0
instance (l:List Tr) (t:Tr):Decidable (inL l t):=inferInstanceAs (Decidable (_∨_))
theorem OK.srt {o:Ob} (h:OK o):Srt o.tr:=by
  rw [Srt,List.pairwise_iff_getElem]
  intro i j hi hj hij
  rw [aO hi,aO hj]
  exact OK.lt_of h.ord hij hj
def okR (a b:Tr):Prop:=slx a.ni b.ni < 0∧hp b.ni a.ni=false∧df a b < 0
theorem OK.of {i:Int} {l:List Tr} (hi:1≤i∧i≤64) (hl:l.length≤10000) (hm: ∀ t∈l,Proper t i∧0 < t.ni.length) (h:l.Pairwise okR):OK ⟨i,l⟩:=by
  rw [List.pairwise_iff_getElem] at h
  have h': ∀ a b,a < b→b < l.length→okR (nth l a) (nth l b):=fun a b hab hb=>by
    have:=h a b (by omega) hb hab
    rwa [aO,aO] at this
  exact ⟨hi,hl,fun k hk=>hm _ (aR hk),fun k hk=>(h' k (k+1) (by omega) hk).1,fun a b hab hb=>(h' a b hab hb).2.1,fun a b hab hb=>(h' a b hab hb).2.2⟩
section
variable {l:List Tr} {t:Tr} {k:Nat}
end
theorem aMH {a b:List Int} (h1:hp a b=true) (h2:a.length≤b.length):a=b:=by
  obtain ⟨x,rfl⟩:=aCN.1 h1
  have:x=[]:=by cases x with
    |nil=>rfl
    |cons c x=>simp at h2; omega
  simp [this]
end Go.Proofs.YtmnnhjhkaepbaaaGreat
namespace Go.Proofs.YtmnnhjhkaepbaaaGreat
theorem Tr.eq_iff {a b:Tr}:a=b↔a.ni=b.ni∧a.no=b.no:=by cases a; cases b; simp
theorem Ob.eq_iff {a b:Ob}:a=b↔a.i=b.i∧a.tr=b.tr:=by cases a; cases b; simp
instance:DecidableEq Tr:=fun _ _=>decidable_of_iff _ Tr.eq_iff.symm
instance:DecidableEq Ob:=fun _ _=>decidable_of_iff _ Ob.eq_iff.symm
end Go.Proofs.YtmnnhjhkaepbaaaGreat
namespace Go.Proofs.YtmnnhjhkaepbaaaGreat
theorem OK.anti {o:Ob} (h:OK o) {u v:Tr} (hu:u∈o.tr) (hv:v∈o.tr) (e:hp v.ni u.ni=true):v=u:=by
  obtain ⟨a,ha,rfl⟩:=dN hu
  obtain ⟨b,hb,rfl⟩:=dN hv
  rcases Nat.lt_trichotomy a b with q|q|q
  · rw [h.pre a b q hb] at e; cases e
  · rw [q]
  · have h1:=OK.lt_of h.ord q ha
    have h2:=aIs e
    unfold slx at h1
    split at h1
    · omega
    · split at h1
      · omega
      · rw [aMH e (by omega),cS.2 rfl] at h1; omega
theorem aQm {a b:Tr}:df a b < 0↔ ∀ j,j < cmn a.ni b.ni→nth a.no j=nth b.no j:=by
  constructor
  · intro h j hj
    by_cases e:nth a.no j=nth b.no j
    · exact e
    · have:=aDG.2 ⟨j,hj,e⟩; omega
  · intro h
    by_cases e:df a b < 0
    · exact e
    · obtain ⟨j,hj,q⟩:=aDG.1 (show 0≤df a b by omega)
      exact (q (h j hj)).elim
theorem OK.cl {o:Ob} (h:OK o) {u v:Tr} (hu:u∈o.tr) (hv:v∈o.tr):df u v < 0:=aQm.2 fun _ hj=>h.same hu hv hj
end Go.Proofs.YtmnnhjhkaepbaaaGreat
namespace Go.Proofs.YtmnnhjhkaepbaaaGreat
theorem aDV: ∀ {l m:List Int},l.Nodup→(∀ a∈l,a∈m)→l.length≤m.length
  |[],_,_,_=>Nat.zero_le _
  | a :: l, m, hn, hs => by
    obtain ⟨h1,h2⟩:=List.nodup_cons.1 hn
    have ha:a∈m:=hs a (by simp)
    have:=aDV (m:=m.erase a) h2 fun b hb=>(List.mem_erase_of_ne (fun e=>h1 (by rw [← e]; exact hb))).2 (hs b (List.mem_cons_of_mem _ hb))
    rw [List.length_erase_of_mem ha] at this
    have:=List.length_pos_of_mem ha
    simp only [List.length_cons]; omega
def cB (b:Bool):List V:=[.bool b]
abbrev RS:=List Int×List Bool
def fT (P:RS) (a:Int):RS:=if nth P.2 a.toNat=true then P else (P.1++[a],P.2.set a.toNat true)
def iM (m:M) (P:RS) (k:Nat):RS:=(nth m.nx (nth P.1 k).toNat).foldl fT P
def gY (m:M):Nat→Nat→RS→RS
  |0,_,P=>P
  |n+1,k,P=>if k < P.1.length then gY m n (k+1) (iM m P k) else P
def kX (m:M):RS:=([m.s],(List.replicate m.nx.length false).set m.s.toNat true)
def rch (m:M):List Int:=if aV m≠0 then [] else (gY m m.nx.length 0 (kX m)).1
theorem tZ {P:RS} {a:Int} (h:nth P.2 a.toNat=true):fT P a=P:=if_pos h
theorem zU {P:RS} {a:Int} (h:nth P.2 a.toNat=false):fT P a=(P.1++[a],P.2.set a.toNat true):=if_neg (by rw [h]; decide)
theorem qZ {P:RS} {w:List Int} {j:Nat} (h:j < w.length):(w.take (j+1)).foldl fT P=fT ((w.take j).foldl fT P) (nth w j):=by
  rw [bG h,List.foldl_append]; rfl
structure RI (n:Nat) (P:RS):Prop where
  blen:P.2.length=n
  rng: ∀ a∈P.1,0≤a∧a < n
  mem: ∀ a:Int,0≤a→a < n→(nth P.2 a.toNat=true↔a∈P.1)
  nd:P.1.Nodup
theorem fX {α:Type} [Inhabited α] {l:List α} {i j:Nat} {x:α} (hi:i < l.length):nth (l.set i x) j=if i=j then x else nth l j:=by
  unfold nth
  by_cases e:i=j
  · subst e; simp [hi]
  · rw [if_neg e]
    simp [List.getElem?_set,e]
theorem RI.step {n : Nat} {P : RS} (h : RI n P) {a : Int} (h0 : 0 ≤ a) (h1 : a < n) : RI n (fT P a) := by
  unfold fT
  split
  · exact h
  · rename_i g
    have hna:a∉P.1:=fun q=>g ((h.mem a h0 h1).2 q)
    have hlt:a.toNat < P.2.length:=by rw [h.blen]; omega
    refine ⟨by simp [h.blen],fun b hb=>?_,fun b b0 b1=>?_,?_⟩
    · rcases List.mem_append.1 hb with hb|hb
      · exact h.rng b hb
      · rw [List.mem_singleton.1 hb]; exact ⟨h0,h1⟩
    · rw [fX hlt,List.mem_append,List.mem_singleton]
      by_cases e:a.toNat=b.toNat
      · rw [if_pos e]; exact ⟨fun _=>.inr (by omega),fun _=>rfl⟩
      · rw [if_neg e,h.mem b b0 b1]
        exact ⟨.inl,fun q=>q.resolve_right fun q=>e (by rw [q])⟩
    · rw [List.nodup_append]
      refine ⟨h.nd,by simp,fun x hx y hy=>?_⟩
      rw [List.mem_singleton.1 hy]; intro e; exact hna (e ▸ hx)
theorem RI.fold {n:Nat}: ∀ {w:List Int} {P:RS},RI n P→(∀ a∈w,0≤a∧a < n)→RI n (w.foldl fT P)
  |[],_,h,_=>h
  | a :: w, P, h, hw => by
    rw [List.foldl_cons]
    exact RI.fold (h.step (hw a (by simp)).1 (hw a (by simp)).2) fun b hb=>hw b (List.mem_cons_of_mem _ hb)
theorem RI.len {n:Nat} {P:RS} (h:RI n P):P.1.length≤n:=by
  have:=aDV (m:=(List.range n).map Int.ofNat) h.nd fun a ha=>by
    obtain ⟨h0,h1⟩:=h.rng a ha
    exact List.mem_map.2 ⟨a.toNat,List.mem_range.2 (by omega),by simp; omega⟩
  simpa using this
theorem iE: ∀ (w:List Int) (P:RS),∃ x,(w.foldl fT P).1=P.1++x
  |[],P=>⟨[],by simp⟩
  | a :: w, P => by
    obtain ⟨x,hx⟩:=iE w (fT P a)
    have: ∃ y,(fT P a).1=P.1++y:=by
      unfold fT; split
      · exact ⟨[],by simp⟩
      · exact ⟨[a],rfl⟩
    obtain ⟨y,hy⟩:=this
    exact ⟨y++x,by rw [List.foldl_cons,hx,hy,List.append_assoc]⟩
theorem aB4 {n:Nat}: ∀ {w:List Int} {P:RS},RI n P→(∀ a∈w,0≤a∧a < n)→ ∀ a∈w,a∈(w.foldl fT P).1
  | b :: w, P, h, hw, a, ha => by
    have hs:=h.step (hw b (by simp)).1 (hw b (by simp)).2
    rcases List.mem_cons.1 ha with rfl|ha
    · obtain ⟨x,hx⟩:=iE w (fT P a)
      rw [List.foldl_cons,hx]
      refine List.mem_append_left _ ?_
      unfold fT
      split
      · rename_i g; exact (h.mem a (hw a (by simp)).1 (hw a (by simp)).2).1 g
      · simp
    · exact aB4 hs (fun c hc=>hw c (List.mem_cons_of_mem _ hc)) a ha
theorem aAg {m:M} (h:aV m=0):RI m.nx.length (kX m):=by
  have hm:=bK h
  refine ⟨by simp [kX],fun a ha=>?_,fun a h0 h1=>?_,by simp [kX]⟩
  · simp only [kX,List.mem_singleton] at ha; subst ha; omega
  · simp only [kX,List.mem_singleton]
    rw [fX (by simp; omega)]
    by_cases e:m.s.toNat=a.toNat
    · rw [if_pos e]; exact ⟨fun _=>by omega,fun _=>rfl⟩
    · rw [if_neg e]
      refine ⟨fun q=>?_,fun q=>(e (by rw [q])).elim⟩
      rw [← aO (by simp; omega)] at q
      simp at q
theorem zP {m:M} (h:aV m=0) {s:Int} (h0:0≤s) (h1:s < m.nx.length): ∀ a∈nth m.nx s.toNat,0≤a∧a < m.nx.length:=fun a ha=>by
  obtain ⟨j,hj,rfl⟩:=dN ha
  obtain ⟨g1,_,g3⟩:=(bK h).2.2.2.2.2.2.2 s.toNat (by omega)
  have:=g3 j (by omega)
  exact ⟨this.1,this.2.1⟩
theorem RI.row {m:M} (h:aV m=0) {P:RS} (hP:RI m.nx.length P) {k:Nat} (hk:k < P.1.length):RI m.nx.length (iM m P k):=by
  obtain ⟨h0,h1⟩:=hP.rng _ (aR hk)
  exact RI.fold hP (zP h h0 h1)
def Clo (m:M) (P:RS) (k:Nat):Prop:= ∀ j,j < k→ ∀ a∈nth m.nx (nth P.1 j).toNat,a∈P.1
theorem aCI {m:M} (h:aV m=0): ∀ (n k:Nat) (P:RS),RI m.nx.length P→k≤P.1.length→m.nx.length≤k+n→Clo m P k→(m.s∈P.1)→
    RI m.nx.length (gY m n k P)∧Clo m (gY m n k P) (gY m n k P).1.length∧m.s∈(gY m n k P).1
  | 0, k, P, hP, hk, hn, hc, hs => by
    have:=hP.len
    rw [gY]
    exact ⟨hP,by rw [show P.1.length=k by omega]; exact hc,hs⟩
  | n + 1, k, P, hP, hk, hn, hc, hs => by
    rw [gY]
    split
    · rename_i hlt
      obtain ⟨x,hx⟩:=iE (nth m.nx (nth P.1 k).toNat) P
      have hg:(iM m P k).1=P.1++x:=hx
      obtain ⟨h0,h1⟩:=hP.rng _ (aR hlt)
      refine aCI h n (k+1) _ (hP.row h hlt) (by rw [hg]; simp; omega) (by omega) (fun j hj a ha=>?_) (by rw [hg]; exact List.mem_append_left _ hs)
      have e:nth (iM m P k).1 j=nth P.1 j:=by rw [hg,bE (by omega)]
      rw [e] at ha
      by_cases ej:j=k
      · subst ej; exact aB4 hP (zP h h0 h1) a ha
      · rw [hg]; exact List.mem_append_left _ (hc j (by omega) a ha)
    · rename_i hlt
      exact ⟨hP,by rw [show P.1.length=k by omega]; exact hc,hs⟩
theorem aAp {m:M} {n k:Nat} {P:RS} (h:P.1.length≤k):gY m n k P=P:=by
  cases n with
  |zero=>rfl
  |succ n=>rw [gY,if_neg (by omega)]
theorem aCT {m:M} {n k:Nat} {P:RS} (h:k < P.1.length) (hn:k < n):gY m (n - k) k P=gY m (n - (k+1)) (k+1) (iM m P k):=by
  rw [show n - k=(n - (k+1))+1 by omega,gY,if_pos h]
end Go.Proofs.YtmnnhjhkaepbaaaGreat
namespace Go.Proofs.YtmnnhjhkaepbaaaGreat
open Go.Sort
theorem zS {a b:List Int}: ¬slx a b < 0↔slx b a≤0:=by
  constructor
  · intro h
    by_cases e:slx a b=0
    · rw [eH.1 e,eH.2 rfl]; omega
    · have:=aIS (a:=a) (b:=b) (by omega); omega
  · intro h q
    have:=aAr q; omega
theorem aEL:SWO fun a b:List Int=>decide (slx a b < 0) where
  irrefl a:=by rw [eH.2 rfl]; decide
  trans a b c h1 h2:=by simp only [decide_eq_true_eq] at*; exact kM h1 h2
  ntrans a b c h1 h2:=by
    simp only [decide_eq_false_iff_not,zS] at*
    exact aOj h2 h1
theorem aBn {a b:List Int} (h1: ¬slx a b < 0) (h2: ¬slx b a < 0):a=b:=aBN (zS.1 h2) (zS.1 h1)
theorem zZ (a:List Int): ¬slx a a < 0:=by rw [eH.2 rfl]; omega
def pD (l:List (List Int)):Prop:=l.Pairwise fun a b=>slx a b < 0
theorem vK : ∀ {l m : List (List Int)}, pD l → pD m → (∀ u, u ∈ l ↔ u ∈ m) → l = m
  |[],[],_,_,_=>rfl
  |[],b::m,_,_,h=>by have:=(h b).2 (by simp); simp at this
  |a::l,[],_,_,h=>by have:=(h a).1 (by simp); simp at this
  | a :: l, b :: m, hl, hm, h => by
    obtain ⟨l1,l2⟩:=List.pairwise_cons.1 hl
    obtain ⟨m1,m2⟩:=List.pairwise_cons.1 hm
    have e:a=b:=by
      rcases List.mem_cons.1 ((h a).1 (by simp)) with e|e
      · exact e
      · rcases List.mem_cons.1 ((h b).2 (by simp)) with g|g
        · exact g.symm
        · exact (zZ a (kM (l1 b g) (m1 a e))).elim
    subst e
    rw [vK l2 m2 fun u=>?_]
    constructor
    · intro hu
      rcases List.mem_cons.1 ((h u).1 (List.mem_cons_of_mem _ hu)) with e|e
      · subst e; exact (zZ _ (l1 _ hu)).elim
      · exact e
    · intro hu
      rcases List.mem_cons.1 ((h u).2 (List.mem_cons_of_mem _ hu)) with e|e
      · subst e; exact (zZ _ (m1 _ hu)).elim
      · exact e
def plP (w u:List Int):Bool:=decide (slx u w < 0)
def plN (l:List (List Int)) (w:List Int):Nat:=(l.takeWhile (plP w)).length
theorem aEC {w a:List Int} {l:List (List Int)}:plN (a::l) w=if plP w a=true then plN l w+1 else 0:=by
  unfold plN; rw [List.takeWhile_cons]; split <;> rfl
theorem aL3 {w:List Int}: ∀ l:List (List Int),plN l w≤l.length
  |[]=>Nat.le_refl _
  |a::l=>by rw [aEC]; have:=aL3 (w:=w) l; split <;> simp <;> omega
theorem aAj {w : List Int} : ∀ {l : List (List Int)} (_ : pD l) {k : Nat}, k < l.length → (slx (nth l k) w < 0 ↔ k < plN l w)
  |[],_,k,hk=>by simp at hk
  | a :: l, h, k, hk => by
    rw [aEC]
    obtain ⟨h1,h2⟩:=List.pairwise_cons.1 h
    by_cases e:plP w a=true
    · rw [if_pos e]
      cases k with
      |zero=>rw [mJ]; simp only [plP,decide_eq_true_eq] at e; exact ⟨fun _=>by omega,fun _=>e⟩
      |succ k=>rw [pY,aAj h2 (by simpa using hk)]; omega
    · rw [if_neg e]
      simp only [plP,decide_eq_true_eq] at e
      refine ⟨fun h3=>?_,fun h3=>by omega⟩
      cases k with
      |zero=>exact (e h3).elim
      | succ k =>
        rw [pY] at h3
        exact (e (kM (h1 _ (aR (by simpa using hk))) h3)).elim
def wiH (l:List (List Int)) (w:List Int):Prop:=plN l w < l.length∧nth l (plN l w)=w
instance (l:List (List Int)) (w:List Int):Decidable (wiH l w):=inferInstanceAs (Decidable (_∧_))
def wiW (l:List (List Int)) (w:List Int):List (List Int):=if wiH l w then l else l.take (plN l w)++w::l.drop (plN l w)
def sdW (l:List (List Int)):List (List Int):=l.foldl wiW []
theorem aIR {l:List (List Int)} {w u:List Int}:u∈wiW l w↔u∈l∨u=w:=by
  unfold wiW
  split
  · rename_i h
    refine ⟨.inl,fun q=>q.elim id fun e=>?_⟩
    rw [e]
    have:=aR h.1
    rwa [h.2] at this
  · have e: ∀ u,u∈l↔u∈l.take (plN l w)∨u∈l.drop (plN l w):=fun u=>by rw [← List.mem_append,List.take_append_drop]
    rw [List.mem_append,List.mem_cons,e]
    exact ⟨fun h=>h.elim (fun h=>.inl (.inl h)) fun h=>h.elim .inr fun h=>.inl (.inr h),fun h=>h.elim (fun h=>h.elim .inl fun h=>.inr (.inr h)) fun h=>.inr (.inl h)⟩
theorem aJp {l : List (List Int)} (h : pD l) (w : List Int) : pD (wiW l w) := by
  unfold wiW
  split
  · exact h
  · rename_i hn
    have hsp:=h
    unfold pD at hsp
    rw [← List.take_append_drop (plN l w) l,List.pairwise_append] at hsp
    obtain ⟨p1,p2,p3⟩:=hsp
    have hle:=aL3 (w:=w) l
    have lo: ∀ a∈l.take (plN l w),slx a w < 0:=fun a ha=>by
      obtain ⟨j,hj,rfl⟩:=dN ha
      rw [List.length_take] at hj
      rw [lY (by omega)]
      exact (aAj h (by omega)).2 (by omega)
    have hi : ∀ b ∈ l.drop (plN l w), slx w b < 0 := fun b hb => by
      obtain ⟨j,hj,rfl⟩:=dN hb
      rw [List.length_drop] at hj
      rw [zE]
      have h1: ¬slx (nth l (plN l w+j)) w < 0:=fun q=>by
        have:=(aAj h (show plN l w+j < l.length by omega)).1 q; omega
      by_cases e:slx w (nth l (plN l w+j)) < 0
      · exact e
      · exfalso
        have heq:=aBn h1 e
        have h0:plN l w < l.length:=by omega
        by_cases ej:j=0
        · subst ej; exact hn ⟨h0,by simpa using heq⟩
        · have hlt:slx (nth l (plN l w)) (nth l (plN l w+j)) < 0:=by
            have:=(List.pairwise_iff_getElem.1 h) (plN l w) (plN l w+j) h0 (by omega) (by omega)
            rwa [aO,aO] at this
          rw [heq] at hlt
          have:=(aAj h h0).1 hlt; omega
    rw [pD,List.pairwise_append]
    refine ⟨p1,List.pairwise_cons.2 ⟨hi,p2⟩,fun a ha b hb=>?_⟩
    rcases List.mem_cons.1 hb with rfl|hb
    · exact lo a ha
    · exact p3 a ha b hb
theorem vG: ∀ (l kept:List (List Int)),pD kept→pD (l.foldl wiW kept)∧ ∀ u,u∈l.foldl wiW kept↔u∈kept∨u∈l
  |[],kept,h=>⟨h,fun u=>by simp⟩
  | w :: l, kept, h => by
    obtain ⟨h1,h2⟩:=vG l (wiW kept w) (aJp h w)
    refine ⟨h1,fun u=>?_⟩
    rw [List.foldl_cons,h2,aIR,List.mem_cons]
    exact or_assoc
theorem uE (l:List (List Int)):pD (sdW l):=(vG l [] List.Pairwise.nil).1
theorem lG (l:List (List Int)) (u:List Int):u∈sdW l↔u∈l:=by
  unfold sdW; rw [(vG l [] List.Pairwise.nil).2 u]; simp
def ddK (L:List (List Int)):Nat→List (List Int)
  |0=>[]
  |j+1=>if j=0∨nth L j≠nth L (j - 1) then ddK L j++[nth L j] else ddK L j
def ddL (L:List (List Int)) (j:Nat):List (List Int):=ddK L j++L.drop (ddK L j).length
theorem vB (L:List (List Int)): ∀ j,(ddK L j).length≤j
  |0=>Nat.le_refl _
  | j + 1 => by
    have:=vB L j
    simp only [ddK]; split <;> simp <;> omega
theorem aFf {L:List (List Int)} {j:Nat} (h:j≤L.length):(ddL L j).length=L.length:=by
  have:=vB L j
  unfold ddL; rw [List.length_append,List.length_drop]; omega
theorem aEr {L:List (List Int)} {j k:Nat} (h:(ddK L j).length≤k):nth (ddL L j) k=nth L k:=by
  unfold ddL
  have e:nth (ddK L j++L.drop (ddK L j).length) ((ddK L j).length+(k - (ddK L j).length))=nth (L.drop (ddK L j).length) (k - (ddK L j).length):=eX
  rw [zE] at e
  rw [show (ddK L j).length+(k - (ddK L j).length)=k by omega] at e
  exact e
theorem fG {L:List (List Int)} {j:Nat} (h:j=0∨nth L j≠nth L (j - 1)):ddK L (j+1)=ddK L j++[nth L j]:=if_pos h
theorem fO {L:List (List Int)} {j:Nat} (h: ¬(j=0∨nth L j≠nth L (j - 1))):ddK L (j+1)=ddK L j:=if_neg h
theorem aCu {L:List (List Int)} {j:Nat} (h: ¬(j=0∨nth L j≠nth L (j - 1))):ddL L (j+1)=ddL L j:=by unfold ddL; rw [fO h]
theorem aAf {α:Type} {a l:List α} {x:α} (h:a.length < l.length):(a++l.drop a.length).set a.length x=a++[x]++l.drop (a.length+1):=by
  rw [List.drop_eq_getElem_cons h]
  rw [List.set_append_right _ _ (Nat.le_refl _),Nat.sub_self,List.set_cons_zero]; simp
theorem aCe {L:List (List Int)} {j:Nat} (hj:j < L.length) (h:j=0∨nth L j≠nth L (j - 1)):(ddL L j).set (ddK L j).length (nth L j)=ddL L (j+1):=by
  have:=vB L j
  unfold ddL
  rw [fG h,aAf (by omega)]
  simp
theorem zO {L:List (List Int)}: ∀ {j:Nat},j≤L.length→(∀ i,1≤i→i < j→nth L i≠nth L (i - 1))→ddK L j=L.take j
  |0,_,_=>by simp [ddK]
  | j + 1, hj, h => by
    rw [fG (by by_cases e:j=0; exact .inl e; exact .inr (h j (by omega) (by omega))),zO (by omega) fun i h1 h2=>h i h1 (by omega),bG (by omega)]
theorem pV {L : List (List Int)} : ∀ {j : Nat}, j ≤ L.length → ∀ u, u ∈ ddK L j ↔ u ∈ L.take j
  |0,_,u=>by simp [ddK]
  | j + 1, hj, u => by
    have ih:=pV (L:=L) (j:=j) (by omega) u
    rw [bG (by omega),List.mem_append,List.mem_singleton]
    by_cases h:j=0∨nth L j≠nth L (j - 1)
    · rw [fG h,List.mem_append,List.mem_singleton,ih]
    · rw [fO h,ih]
      refine ⟨.inl,fun q=>q.elim id fun e=>?_⟩
      have e2:nth L j=nth L (j - 1):=by
        by_cases e3:nth L j=nth L (j - 1)
        · exact e3
        · exact (h (.inr e3)).elim
      have:nth (L.take j) (j - 1)=u:=by rw [lY (by omega),← e2,e]
      rw [← this]
      exact aR (by rw [List.length_take]; omega)
theorem aEw {L : List (List Int)} (hs : L.Pairwise fun a b => ¬slx b a < 0) : ∀ {j : Nat}, j ≤ L.length → pD (ddK L j)
  |0,_=>List.Pairwise.nil
  | j + 1, hj => by
    have ih:=aEw hs (j:=j) (by omega)
    by_cases h:j=0∨nth L j≠nth L (j - 1)
    · rw [fG h, pD, List.pairwise_append]
      refine ⟨ih,by simp,fun a ha b hb=>?_⟩
      rw [List.mem_singleton.1 hb]
      have ha':=(pV (L:=L) (by omega) a).1 ha
      obtain ⟨i,hi,rfl⟩:=dN ha'
      rw [List.length_take] at hi
      rw [lY (by omega)]
      have le: ∀ p q,p < q→q < L.length→slx (nth L p) (nth L q)≤0:=fun p q h1 h2=>by
        have:=(List.pairwise_iff_getElem.1 hs) p q (by omega) h2 h1
        rw [aO,aO] at this
        exact zS.1 this
      have h1:=le i j (by omega) (by omega)
      by_cases e:slx (nth L i) (nth L j) < 0
      · exact e
      · exfalso
        have heq:=eH.1 (show slx (nth L i) (nth L j)=0 by omega)
        have h2:slx (nth L (j - 1)) (nth L j)≤0:=le (j - 1) j (by omega) (by omega)
        have h3:slx (nth L j) (nth L (j - 1))≤0:=by
          rw [← heq]
          by_cases ei:i=j - 1
          · rw [ei,eH.2 rfl]; omega
          · exact le i (j - 1) (by omega) (by omega)
        have:=aBN h2 h3
        rcases h with h|h
        · omega
        · exact h this.symm
    · rw [fO h]; exact ih
def sdP (l:List (List Int)):List (List Int):=ddK (srt slx l) (srt slx l).length
theorem aA9 (l:List (List Int)):sdP l=sdW l:=by
  refine vK (aEw (lJ aEL l) (Nat.le_refl _)) (uE l) fun u=>?_
  unfold sdP
  rw [pV (Nat.le_refl _),List.take_length,lG]
  exact (mA slx l).mem_iff
theorem aI8 (l:List (List Int)):(sdW l).length≤l.length:=by
  rw [← aA9]
  have:=vB (srt slx l) (srt slx l).length
  unfold sdP; rw [iZ] at this ⊢; exact this
end Go.Proofs.YtmnnhjhkaepbaaaGreat
namespace Go.Proofs.YtmnnhjhkaepbaaaGreat
structure Nd where
  lf:Bool
  ac:List Int
  sf:List Int
  ou:List (List Int)
  kd:List Int
  deriving Inhabited
abbrev cN (x:Nd):List V:=[.bool x.lf,aH x.ac,aH x.sf,aD x.ou,aH x.kd]
structure Dt where
  nd:List Nd
  deriving Inhabited
@[simp] theorem aMM (l:List Nd):cX (l.map cN)=true:=dQ _ _ fun a=>by simp [cN]
theorem Nd.eq_iff {a b:Nd}:a=b↔a.lf=b.lf∧a.ac=b.ac∧a.sf=b.sf∧a.ou=b.ou∧a.kd=b.kd:=by cases a; cases b; simp
theorem Dt.eq_iff {a b:Dt}:a=b↔a.nd=b.nd:=by cases a; cases b; simp
instance:DecidableEq Nd:=fun _ _=>decidable_of_iff _ Nd.eq_iff.symm
instance:DecidableEq Dt:=fun _ _=>decidable_of_iff _ Dt.eq_iff.symm
def ouE (w:List Int) (k:Nat):Int:=if nth w k < 0∨1048576 < nth w k then 2 else 0
def vlE (eA suffix:List Int):Int:=if eA.length≠suffix.length then 1 else fe (ouE eA) 0 eA.length
def lfE (x:Nd):Int:=if 0 < x.sf.length+x.ou.length+x.kd.length then 1 else gX x.ac 64
def chE (x:Nd) (n:Nat) (k:Nat):Int:=if vlE (nth x.ou k) x.sf≠0 then vlE (nth x.ou k) x.sf else if 0 < k∧0≤aZ (nth x.ou (k - 1)) (nth x.ou k) then 10 else if nth x.kd k < 0∨(n:Int)≤nth x.kd k then 2 else 0
def aOx (x:Nd) (n:Nat):Int:=
  if 0 < x.ac.length then 1 else if x.sf.length=0 then 19 else if gX x.sf 64≠0 then gX x.sf 64 else if x.ou.length≠x.kd.length then 1 else fe (chE x n) 0 x.ou.length
def ndE (x:Nd) (n:Nat):Int:=if x.lf=true then lfE x else aOx x n
def acL (l:List Nd):List (List Int):=(l.filter (·.lf)).map (·.ac)
def qS (t:Dt) (P:List Int) (i:Nat):List Int:=P++(nth t.nd (nth P i).toNat).kd
structure KI (t:Dt):Prop where
  pos:0 < t.nd.length
  rng: ∀ k,k < t.nd.length→ ∀ a∈(nth t.nd k).kd,0≤a∧a < t.nd.length
def whI:RS→List Int→Option RS
  |P,[]=>some P
  |P,a::w=>if nth P.2 a.toNat=true then none else whI (P.1++[a],P.2.set a.toNat true) w
def whN (t:Dt):Nat→Nat→RS→Option RS
  |0,_,P=>some P
  |n+1,i,P=>if i < P.1.length then (whI P (nth t.nd (nth P.1 i).toNat).kd).bind (whN t n (i+1)) else some P
def wh0 (t:Dt):RS:=([0],(List.replicate t.nd.length false).set 0 true)
def whB (t:Dt):Bool:=match whN t t.nd.length 0 (wh0 t) with
  |some P=>decide (P.1.length=t.nd.length)
  |none=>false
inductive Ln (t:Dt):Nat→List Int→Prop where
  |zero:Ln t 0 [0]
  |step {i:Nat} {P:List Int} (h:Ln t i P) (hi:i < P.length):Ln t (i+1) (qS t P i)
theorem Ln.rng {t:Dt} (hk:KI t): ∀ {i:Nat} {P:List Int},Ln t i P→ ∀ a∈P,0≤a∧a < t.nd.length:=by
  intro i P h
  induction h with
  |zero=>intro a ha; rw [List.mem_singleton.1 ha]; have:=hk.pos; omega
  | step h hi ih =>
    intro a ha
    rcases List.mem_append.1 ha with ha|ha
    · exact ih a ha
    · have:=ih _ (aR hi)
      exact hk.rng _ (by omega) a ha
theorem Ln.le {t:Dt}: ∀ {i:Nat} {P:List Int},Ln t i P→i≤P.length:=by
  intro i P h
  induction h with
  |zero=>simp
  |step h hi ih=>unfold qS; rw [List.length_append]; omega
def Whole (t:Dt):Prop:= ∃ P:List Int,Ln t P.length P∧P.Nodup∧P.length=t.nd.length
theorem Ln.uniq {t:Dt}: ∀ {i:Nat} {P Q:List Int},Ln t i P→Ln t i Q→P=Q:=by
  intro i P Q h
  induction h generalizing Q with
  |zero=>intro h; cases h; rfl
  | step h hi ih =>
    intro h'
    cases h' with
    |step h2 hi2=>rw [ih h2]
theorem Ln.pre {t:Dt}: ∀ {i:Nat} {P:List Int},Ln t i P→ ∀ {j:Nat} {Q:List Int},Ln t j Q→i≤j→ ∃ x,Q=P++x:=by
  intro i P h j Q h2 hij
  induction h2 with
  | zero =>
    have:i=0:=by omega
    subst this; exact ⟨[],by rw [h.uniq .zero]; rfl⟩
  | step h3 hi ih =>
    rename_i j Q
    by_cases e:i=j+1
    · subst e; exact ⟨[],by rw [h.uniq (.step h3 hi)]; simp⟩
    · obtain ⟨x,hx⟩:=ih (by omega)
      exact ⟨x++(nth t.nd (nth Q j).toNat).kd,by unfold qS; rw [hx,List.append_assoc]⟩
theorem vT {t:Dt} {P:List Int} (h: ∀ a∈P,0≤a∧a < t.nd.length) (hn:P.Nodup):P.length≤t.nd.length:=by
  have:=aDV (m:=(List.range t.nd.length).map Int.ofNat) hn fun a ha=>by
    obtain ⟨h0,h1⟩:=h a ha
    exact List.mem_map.2 ⟨a.toNat,List.mem_range.2 (by omega),by simp; omega⟩
  simpa using this
def Mk (n:Nat) (B:List Bool) (l:List Int):Prop:=B.length=n∧ ∀ a:Int,0≤a→a < n→(nth B a.toNat=true↔a∈l)
theorem Mk.set {n:Nat} {B:List Bool} {l:List Int} (h:Mk n B l) {a:Int} (h0:0≤a) (h1:a < n):Mk n (B.set a.toNat true) (l++[a]):=by
  refine ⟨by simp [h.1],fun b b0 b1=>?_⟩
  rw [fX (by rw [h.1]; omega),List.mem_append,List.mem_singleton]
  by_cases e:a.toNat=b.toNat
  · rw [if_pos e]; exact ⟨fun _=>.inr (by omega),fun _=>rfl⟩
  · rw [if_neg e,h.2 b b0 b1]
    exact ⟨.inl,fun q=>q.resolve_right fun q=>e (by rw [q])⟩
theorem Mk.none (n:Nat):Mk n (List.replicate n false) []:=by
  refine ⟨by simp,fun a h0 h1=>?_⟩
  have:nth (List.replicate n false) a.toNat=false:=by
    rw [← aO (by simp; omega)]; simp
  rw [this]; simp
theorem aB1 {n : Nat} : ∀ {w : List Int} {P : RS}, Mk n P.2 P.1 → P.1.Nodup → (∀ a ∈ w, 0 ≤ a ∧ a < n) →
    match whI P w with
    |some Q=>Q.1=P.1++w∧Mk n Q.2 Q.1∧Q.1.Nodup
    |none=> ¬(P.1++w).Nodup
  |[],P,h,hn,_=>by simp only [whI]; exact ⟨by simp,h,hn⟩
  | a :: w, P, h, hn, hw => by
    obtain ⟨h0,h1⟩:=hw a (by simp)
    simp only [whI]
    by_cases e:nth P.2 a.toNat=true
    · rw [if_pos e]
      intro q
      have:=(h.2 a h0 h1).1 e
      rw [List.nodup_append] at q
      exact q.2.2 a this a (by simp) rfl
    · rw [if_neg e]
      have hna:a∉P.1:=fun q=>e ((h.2 a h0 h1).2 q)
      have hnd:(P.1++[a]).Nodup:=by
        rw [List.nodup_append]
        exact ⟨hn,by simp,fun x hx y hy=>by rw [List.mem_singleton.1 hy]; intro q; exact hna (q ▸ hx)⟩
      have ih:=aB1 (w:=w) (P:=(P.1++[a],P.2.set a.toNat true)) (h.set h0 h1) hnd fun b hb=>hw b (List.mem_cons_of_mem _ hb)
      have ea:P.1++[a]++w=P.1++a::w:=by simp
      simp only [ea] at ih
      exact ih
theorem aCi {t : Dt} (hk : KI t) : ∀ (n i : Nat) (P : RS), Ln t i P.1 → Mk t.nd.length P.2 P.1 → P.1.Nodup → t.nd.length ≤ i + n →
    match whN t n i P with
    |some Q=>Ln t Q.1.length Q.1∧Q.1.Nodup
    |none=> ∃ j L,Ln t j L∧ ¬L.Nodup
  | 0, i, P, hl, hm, hn, hi => by
    simp only [whN]
    have h1:=hl.le
    have h2:=vT (hl.rng hk) hn
    have:P.1.length=i:=by omega
    exact ⟨by rw [this]; exact hl,hn⟩
  | n + 1, i, P, hl, hm, hn, hi => by
    simp only [whN]
    by_cases h:i < P.1.length
    · rw [if_pos h]
      have hr:=hl.rng hk _ (aR h)
      have hw:=aB1 (w:=(nth t.nd (nth P.1 i).toNat).kd) hm hn (hk.rng _ (by omega))
      cases hq:whI P (nth t.nd (nth P.1 i).toNat).kd with
      | none =>
        rw [hq] at hw
        simp only [Option.bind_none]
        exact ⟨i+1,_,.step hl h,hw⟩
      | some Q =>
        rw [hq] at hw
        simp only [Option.bind_some]
        obtain ⟨g1,g2,g3⟩:=hw
        exact aCi hk n (i+1) Q (by rw [g1]; exact .step hl h) g2 g3 (by omega)
    · rw [if_neg h]
      have:=hl.le
      have:P.1.length=i:=by omega
      exact ⟨by rw [this]; exact hl,hn⟩
theorem aKY {t : Dt} (hk : KI t) : whB t = true ↔ Whole t := by
  have h0:Mk t.nd.length (wh0 t).2 (wh0 t).1:=by
    have:=(Mk.none t.nd.length).set (a:=0) (by omega) (by have:=hk.pos; omega)
    exact this
  have h:=aCi hk t.nd.length 0 (wh0 t) .zero h0 (by simp [wh0]) (by omega)
  unfold whB
  cases hq:whN t t.nd.length 0 (wh0 t) with
  | none =>
    rw [hq] at h
    obtain ⟨j,L,g1,g2⟩:=h
    simp only [Bool.false_eq_true,false_iff]
    rintro ⟨P,p1,p2,p3⟩
    have hj : j ≤ P.length := by
      have:=g1.le
      by_cases e:j≤P.length
      · exact e
      · exfalso
        obtain ⟨x,hx⟩:=p1.pre g1 (by omega)
        -- the line ends with P:no step leads beyond it
        have key: ∀ {j:Nat} {L:List Int},Ln t j L→P.length < j→False:=by
          intro j L hL
          induction hL with
          |zero=>intro q; omega
          | step h2 hi ih =>
            rename_i a b
            intro q
            by_cases e2:P.length < a
            · exact ih e2
            · have:a=P.length:=by omega
              subst this
              rw [h2.uniq p1] at hi; omega
        exact key g1 (by omega)
    obtain ⟨x,hx⟩:=g1.pre p1 hj
    rw [hx,List.nodup_append] at p2
    exact g2 p2.1
  | some Q =>
    rw [hq] at h
    obtain ⟨g1,g2⟩:=h
    simp only [decide_eq_true_eq]
    constructor
    · intro e; exact ⟨Q.1,g1,g2,e⟩
    · rintro ⟨P,p1,p2,p3⟩
      have key: ∀ {j:Nat} {L:List Int},Ln t j L→ ∀ {P:List Int},Ln t P.length P→j≤P.length:=by
        intro j L hL P p1
        induction hL with
        |zero=>omega
        | step h2 hi ih =>
          rename_i a b
          by_cases e:a=P.length
          · subst e; rw [h2.uniq p1] at hi; omega
          · omega
      have a1:=key g1 p1
      have a2:=key p1 g1
      omega
def dvE (t : Dt) : Int :=
  if t.nd.length=0 then 19 else if 4096 < t.nd.length then 11 else if fe (fun k=>ndE (nth t.nd k) t.nd.length) 0 t.nd.length≠0 then fe (fun k=>ndE (nth t.nd k) t.nd.length) 0 t.nd.length else
    if whB t=false then 1 else if (sdW (acL t.nd)).length≠(acL t.nd).length then 7 else 0
end Go.Proofs.YtmnnhjhkaepbaaaGreat
namespace Go.Proofs.YtmnnhjhkaepbaaaGreat
def aGg (l:List (List Int)):Prop:=l.Pairwise fun a b=>aZ a b < 0
def lxP (w u:List Int):Bool:=decide (aZ u w < 0)
def lxN (l:List (List Int)) (w:List Int):Nat:=(l.takeWhile (lxP w)).length
def lxH (l:List (List Int)) (w:List Int):Prop:=lxN l w < l.length∧aZ (nth l (lxN l w)) w=0
instance (l:List (List Int)) (w:List Int):Decidable (lxH l w):=inferInstanceAs (Decidable (_∧_))
theorem aLp {l:List (List Int)} (h:aGg l) {i j:Nat} (hij:i < j) (hj:j < l.length):aZ (nth l i) (nth l j) < 0:=by
  have:=(List.pairwise_iff_getElem.1 h) i j (by omega) hj hij
  rwa [aO,aO] at this
end Go.Proofs.YtmnnhjhkaepbaaaGreat
namespace Go.Proofs.YtmnnhjhkaepbaaaGreat
theorem iD {α:Type} [Inhabited α] {l:List α} {a:α} (h:a∈l): ∃ k,k < l.length∧nth l k=a:=by
  obtain ⟨k,hk,e⟩:=List.mem_iff_getElem.1 h
  exact ⟨k,hk,by rw [← aO hk]; exact e⟩
theorem aJW {l:List (List Int)} (h: ∀ a b,a < b→b < l.length→aZ (nth l a) (nth l b) < 0):aGg l:=
  List.pairwise_iff_getElem.2 fun i j hi hj hij=>by rw [aO,aO]; exact h i j hij hj
theorem aBL {t : Dt} (h : dvE t = 0) : 0 < t.nd.length ∧ t.nd.length ≤ 4096 ∧ (∀ k, k < t.nd.length → ndE (nth t.nd k) t.nd.length = 0) ∧ whB t = true ∧ (sdW (acL t.nd)).length = (acL t.nd).length := by
  unfold dvE at h
  split at h
  · omega
  · split at h
    · omega
    · split at h
      · rename_i q; exact (q h).elim
      · rename_i q
        split at h
        · omega
        · rename_i w
          split at h
          · omega
          · refine ⟨by omega,by omega,fun k hk=>?_,by simpa using w,by omega⟩
            have:=cU.1 (Decidable.not_not.1 q) k (Nat.zero_le _) (by omega)
            exact this
structure InOk (x:Nd) (n:Nat):Prop where
  ac:x.ac=[]
  s0:0 < x.sf.length
  sw:gX x.sf 64=0
  len:x.ou.length=x.kd.length
  ov: ∀ k,k < x.ou.length→vlE (nth x.ou k) x.sf=0
  srt:aGg x.ou
  kr: ∀ a∈x.kd,0≤a∧a < n
structure LfOk (x:Nd):Prop where
  sf:x.sf=[]
  ou:x.ou=[]
  kd:x.kd=[]
  aw:gX x.ac 64=0
theorem aIl {x:Nd} {n k:Nat} (h:chE x n k=0):vlE (nth x.ou k) x.sf=0∧(0 < k→aZ (nth x.ou (k - 1)) (nth x.ou k) < 0)∧0≤nth x.kd k∧nth x.kd k < n:=by
  unfold chE at h
  split at h
  · rename_i q; exact (q h).elim
  · split at h
    · omega
    · split at h
      · omega
      · exact ⟨by omega,fun hk=>by omega,by omega,by omega⟩
theorem aSO {x:Nd} {n:Nat}: ∀ {i:Nat},(∀ j,j < i→chE x n j=0)→ ∀ a b,a < b→b < i→aZ (nth x.ou a) (nth x.ou b) < 0:=by
  intro i h a b
  induction b with
  |zero=>intro q; omega
  | succ b ih =>
    intro q hb
    have h1:=(aIl (h (b+1) hb)).2.1 (by omega)
    rw [Nat.add_sub_cancel] at h1
    rcases Nat.lt_or_ge a b with g|g
    · exact lH (ih g (by omega)) h1
    · rw [show a=b by omega]; exact h1
theorem aL7 {x : Nd} {n : Nat} (h : aOx x n = 0) : InOk x n := by
  unfold aOx at h
  split at h
  · omega
  · split at h
    · omega
    · split at h
      · rename_i q; exact (q h).elim
      · split at h
        · omega
        · rename_i h1 h2 h3 h4
          have hc:=cU.1 h
          have hc': ∀ j,j < x.ou.length→chE x n j=0:=fun j hj=>hc j (Nat.zero_le _) (by omega)
          refine ⟨List.eq_nil_of_length_eq_zero (by omega),by omega,by omega,by omega,fun k hk=>(aIl (hc' k hk)).1,aJW fun a b hab hb=>aSO hc' a b hab hb,fun a ha=>?_⟩
          obtain ⟨k,hk,rfl⟩:=iD ha
          exact (aIl (hc' k (by omega))).2.2
theorem aTv {x:Nd} (h:lfE x=0):LfOk x:=by
  unfold lfE at h
  split at h
  · omega
  · exact ⟨List.eq_nil_of_length_eq_zero (by omega),List.eq_nil_of_length_eq_zero (by omega),List.eq_nil_of_length_eq_zero (by omega),h⟩
theorem aS0 {t:Dt} (h:dvE t=0) {k:Nat} (hk:k < t.nd.length) (hl:(nth t.nd k).lf=false):InOk (nth t.nd k) t.nd.length:=by
  have:=(aBL h).2.2.1 k hk
  unfold ndE at this
  rw [hl,if_neg (by simp)] at this
  exact aL7 this
theorem aO9 {t:Dt} (h0:0 < t.nd.length) (h: ∀ k,k < t.nd.length→ndE (nth t.nd k) t.nd.length=0):KI t:=by
  refine ⟨h0,fun k hk a ha=>?_⟩
  have:=h k hk
  unfold ndE at this
  split at this
  · rw [(aTv this).kd] at ha; cases ha
  · exact (aL7 this).kr a ha
theorem aBV {t:Dt} (h:dvE t=0):KI t:=aO9 (aBL h).1 (aBL h).2.2.1
def Plc (t:Dt) (P:List Int):Prop:=Ln t P.length P∧P.Nodup∧P.length=t.nd.length
theorem aKH {t:Dt} (h:dvE t=0): ∃ P,Plc t P:=(aKY (aBV h)).1 (aBL h).2.2.2.1
theorem Ln.kid {t:Dt}: ∀ {i:Nat} {P:List Int},Ln t i P→ ∀ {a:Int} {j:Nat},j < i→a∈(nth t.nd (nth P j).toNat).kd→ ∃ s,j < s∧s < P.length∧nth P s=a:=by
  intro i P h
  induction h with
  |zero=>intro a j hj; omega
  | step h hi ih =>
    rename_i i P
    intro a j hj ha
    have hle:=h.le
    have e:nth (qS t P i) j=nth P j:=by unfold qS; exact bE (by omega)
    rw [e] at ha
    have hl:(qS t P i).length=P.length+(nth t.nd (nth P i).toNat).kd.length:=by unfold qS; rw [List.length_append]
    rcases Nat.lt_or_ge j i with q|q
    · obtain ⟨s,h1,h2,h3⟩:=ih q ha
      exact ⟨s,h1,by omega,by unfold qS; rw [bE h2]; exact h3⟩
    · have:j=i:=by omega
      subst this
      obtain ⟨c,hc,hv⟩:=iD ha
      exact ⟨P.length+c,by omega,by omega,by unfold qS; rw [eX]; exact hv⟩
theorem Plc.head {t:Dt} {P:List Int} (h:Plc t P):nth P 0=0∧(0 < t.nd.length→0 < P.length):=by
  have: ∀ {i:Nat} {P:List Int},Ln t i P→nth P 0=0:=by
    intro i P h
    induction h with
    |zero=>rfl
    |step h hi ih=>unfold qS; rw [bE (by omega)]; exact ih
  exact ⟨this h.1,fun q=>by rw [h.2.2]; exact q⟩
theorem Plc.kid {t:Dt} {P:List Int} (h:Plc t P) {s:Nat} (hs:s < P.length) {a:Int} (ha:a∈(nth t.nd (nth P s).toNat).kd): ∃ s',s < s'∧s' < P.length∧nth P s'=a:=h.1.kid hs ha
theorem Plc.all {t:Dt} (hk:KI t) {P:List Int} (h:Plc t P) {a:Int} (h0:0≤a) (h1:a < t.nd.length): ∃ s,s < P.length∧nth P s=a:=by
  by_cases e:a∈P
  · exact iD e
  · have:=vT (t:=t) (P:=a::P) (fun b hb=>by
      rcases List.mem_cons.1 hb with rfl|hb
      · exact ⟨h0,h1⟩
      · exact h.1.rng hk b hb) (List.nodup_cons.2 ⟨e,h.2.1⟩)
    have:=h.2.2
    simp at*; omega
theorem Plc.one {t : Dt} (hk : KI t) {P : List Int} (h : Plc t P) : ∀ {m m' a : Int}, 0 ≤ m → m < t.nd.length → 0 ≤ m' → m' < t.nd.length → a ∈ (nth t.nd m.toNat).kd → a ∈ (nth t.nd m'.toNat).kd → m = m' := by
  intro m m' a h0 h1 h2 h3 ha hb
  obtain ⟨i,hi,ei⟩:=h.all hk h0 h1
  obtain ⟨j,hj,ej⟩:=h.all hk h2 h3
  have key: ∀ {n:Nat} {Q:List Int},Ln t n Q→Q.Nodup→ ∀ {i j:Nat},i < j→j < n→a∈(nth t.nd (nth Q i).toNat).kd→a∈(nth t.nd (nth Q j).toNat).kd→False:=by
    intro n Q hq
    induction hq with
    |zero=>intro _ i j _ hj; omega
    | step h hi ih =>
      rename_i n Q
      intro hnd i j hij hj ha hb
      have hle:=h.le
      have e1:nth (qS t Q n) i=nth Q i:=by unfold qS; exact bE (by omega)
      have e2:nth (qS t Q n) j=nth Q j:=by unfold qS; exact bE (by omega)
      rw [e1] at ha; rw [e2] at hb
      have hn2:(Q++(nth t.nd (nth Q n).toNat).kd).Nodup:=hnd
      rw [List.nodup_append] at hn2
      rcases Nat.lt_or_ge j n with q|q
      · exact ih hn2.1 hij q ha hb
      · have:j=n:=by omega
        subst this
        obtain ⟨s,_,g2,g3⟩:=h.kid hij ha
        exact hn2.2.2 a (g3 ▸ aR g2) a hb rfl
  rw [← ei] at ha; rw [← ej] at hb
  rcases Nat.lt_trichotomy i j with q|q|q
  · exact (key h.1 h.2.1 q hj ha hb).elim
  · rw [← ei,← ej,q]
  · exact (key h.1 h.2.1 q hi hb ha).elim
def aTA (t:Dt) (o:Ob) (w:List Int):Nat→Nat→Int×List Int×Int
  |0,n=>(n,[],0)
  | f + 1, n => if (nth t.nd n).lf = true then (n, [], 0) else if gX (cat [w, (nth t.nd n).sf]) o.i ≠ 0 then (0, [], gX (cat [w, (nth t.nd n).sf]) o.i) else
      if (ans o (cat [w,(nth t.nd n).sf])).isSome=false then (0,cat [w,(nth t.nd n).sf],0) else
      if lxH (nth t.nd n).ou (((ans o (cat [w,(nth t.nd n).sf])).getD []).drop w.length) then aTA t o w f (nth (nth t.nd n).kd (lxN (nth t.nd n).ou (((ans o (cat [w,(nth t.nd n).sf])).getD []).drop w.length))).toNat else (n,[],0)
def aUd (t:Dt) (o:Ob) (w:List Int):Int×List Int×Int:=
  if dvE t≠0 then (0,[],dvE t) else if gX w o.i≠0 then (0,[],gX w o.i) else aTA t o w t.nd.length 0
def Rk (t:Dt) (f n:Nat):Prop:= ∃ P s,Plc t P∧s < P.length∧nth P s=(n:Int)∧t.nd.length≤f+s
theorem Rk.pos {t:Dt} {f n:Nat} (h:Rk t f n):0 < f:=by
  obtain ⟨P,s,hP,hs,_,h3⟩:=h
  have:=hP.2.2; omega
theorem Rk.lt {t:Dt} (hv:dvE t=0) {f n:Nat} (h:Rk t f n):n < t.nd.length:=by
  obtain ⟨P,s,hP,hs,h2,_⟩:=h
  have:=hP.1.rng (aBV hv) _ (aR hs)
  omega
theorem Rk.step {t:Dt} {f n:Nat} (h:Rk t f n) {a:Int} (ha:a∈(nth t.nd n).kd) (h0:0≤a):Rk t (f - 1) a.toNat:=by
  have hp:=h.pos
  obtain ⟨P,s,hP,hs,h2,h3⟩:=h
  obtain ⟨s',g1,g2,g3⟩:=hP.kid hs (a:=a) (by rw [h2]; simpa using ha)
  exact ⟨P,s',hP,g2,by rw [g3]; omega,by omega⟩
section
variable {t:Dt} {o:Ob} {w:List Int} {f n:Nat}
end
def Up (t:Dt) (f:Nat) (n:Int):Prop:= ∃ P s,Plc t P∧s < P.length∧nth P s=n∧s≤f
theorem Up.of {t:Dt} (h:dvE t=0) {n:Int} (h0:0≤n) (h1:n < t.nd.length):Up t t.nd.length n:=by
  obtain ⟨P,hP⟩:=aKH h
  obtain ⟨s,hs,e⟩:=hP.all (aBV h) h0 h1
  exact ⟨P,s,hP,hs,e,by have:=hP.2.2; omega⟩
theorem Up.pos {t:Dt} {f:Nat} {n:Int} (h:Up t f n) (hn:n≠0):0 < f:=by
  obtain ⟨P,s,hP,hs,h2,h3⟩:=h
  rcases Nat.eq_zero_or_pos s with e|e
  · subst e; rw [hP.head.1] at h2; exact (hn h2.symm).elim
  · omega
theorem Up.rng {t:Dt} (hv:dvE t=0) {f:Nat} {n:Int} (h:Up t f n):0≤n∧n < t.nd.length:=by
  obtain ⟨P,s,hP,hs,h2,_⟩:=h
  rw [← h2]; exact hP.1.rng (aBV hv) _ (aR hs)
end Go.Proofs.YtmnnhjhkaepbaaaGreat
namespace Go.Proofs.YtmnnhjhkaepbaaaGreat
set_option linter.unusedSectionVars false
section
variable {α:Type} [Inhabited α]
end
structure Ct where
  lf:Int
  sf:List Int
  ou:List Int
  ac:List Int
  ot:List Int
  deriving Inhabited
end Go.Proofs.YtmnnhjhkaepbaaaGreat
namespace Go.Proofs.YtmnnhjhkaepbaaaGreat
structure Tree (t:Dt):Prop where
  d1: ∀ k,k < t.nd.length→(nth t.nd k).kd.Nodup
  d2: ∀ j k,j < t.nd.length→k < t.nd.length→j≠k→ ∀ a∈(nth t.nd j).kd,a∉(nth t.nd k).kd
  d3: ∀ k,k < t.nd.length→(0:Int)∉(nth t.nd k).kd
  d4: ∀ a:Int,0 < a→a < t.nd.length→ ∃ k,k < t.nd.length∧a∈(nth t.nd k).kd
  rk: ∃ r:Int→Nat,∀ k:Nat,k < t.nd.length→ ∀ a∈(nth t.nd k).kd,r k < r a
end Go.Proofs.YtmnnhjhkaepbaaaGreat
namespace Go.Proofs.YtmnnhjhkaepbaaaGreat
structure Bd (t:Dt):Prop where
  n:t.nd.length≤4096
  ac: ∀ k,k < t.nd.length→(nth t.nd k).ac.length≤1048576
  sf: ∀ k,k < t.nd.length→(nth t.nd k).sf.length≤1048576
  ou: ∀ k,k < t.nd.length→(nth t.nd k).ou.length≤1048576
  kd: ∀ k,k < t.nd.length→(nth t.nd k).kd.length≤1048576
  ol: ∀ k,k < t.nd.length→ ∀ j,j < (nth t.nd k).ou.length→(nth (nth t.nd k).ou j).length≤1048576
structure WI (t:Dt) (P:RS):Prop where
  mr:Mk t.nd.length P.2 P.1
  nd:P.1.Nodup
  rg: ∀ a∈P.1,0≤a∧a < t.nd.length
theorem WI.len {t:Dt} {P:RS} (h:WI t P):P.1.length≤t.nd.length∧P.2.length=t.nd.length:=⟨vT h.rg h.nd,h.mr.1⟩
def wS (P:RS) (a:Int):RS:=(P.1++[a],P.2.set a.toNat true)
theorem WI.step {t:Dt} {P:RS} (h:WI t P) {a:Int} (h0:0≤a) (h1:a < t.nd.length) (hn:nth P.2 a.toNat=false):WI t (wS P a):=by
  refine ⟨h.mr.set h0 h1,?_,fun b hb=>?_⟩
  · show (P.1++[a]).Nodup
    rw [List.nodup_append]
    refine ⟨h.nd,by simp,fun x hx y hy e=>?_⟩
    rw [List.mem_singleton.1 hy] at e
    subst e
    have:=(h.mr.2 x h0 h1).2 hx
    rw [hn] at this; cases this
  · rcases List.mem_append.1 hb with hb|hb
    · exact h.rg b hb
    · rw [List.mem_singleton.1 hb]; exact ⟨h0,h1⟩
structure CI (t:Dt) (P:RS):Prop where
  l2:P.2.length=t.nd.length
  l1:P.1.length≤t.nd.length
  rg: ∀ a∈P.1,0≤a∧a < t.nd.length
def cSt (t:Dt) (P:RS) (i:Nat):RS:=(qS t P.1 i,P.2.set (nth P.1 i).toNat true)
theorem CI.step {t:Dt} (hk:KI t) {P:RS} (h:CI t P) {i:Nat} (hi:i < P.1.length) (hl:(qS t P.1 i).length≤t.nd.length):CI t (cSt t P i):=by
  have hr:=h.rg _ (aR hi)
  refine ⟨by simp [cSt,h.l2],hl,fun a ha=>?_⟩
  rcases List.mem_append.1 ha with ha|ha
  · exact h.rg a ha
  · exact hk.rng _ (by omega) a ha
end Go.Proofs.YtmnnhjhkaepbaaaGreat
namespace Go.Proofs.YtmnnhjhkaepbaaaGreat
@[simp] theorem aQi (l:List Nd):eK (l.map cN)=true:=fQ _ _ fun a=>by simp [cN]
theorem aIZ {l:List (List Int)} {w:List Int}:w∈sdP l↔w∈l:=by rw [aA9]; exact lG l w
theorem aKC (l:List (List Int)):(sdP l).length≤l.length:=by rw [aA9]; exact aI8 l
theorem aEx {α:Type} [Inhabited α] {l:List α} {k:Nat} (h:k < l.length):l.set k (nth l k)=l:=by
  refine fZ (by simp) fun m hm=>?_
  rw [List.length_set] at hm
  rw [fX h]
  split
  · rename_i e; rw [e]
  · rfl
theorem aAR {l:List (List Int)} (h: ∀ i,1≤i→i < l.length→nth l i≠nth l (i - 1)):ddK l l.length=l:=by
  rw [zO (Nat.le_refl _) h,List.take_length]
theorem aBu {l:List (List Int)} {k:Nat} (h1:1≤k) (hk:k < l.length) (h: ∀ i,1≤i→i < k→nth l i≠nth l (i - 1)) (he:nth l k=nth l (k - 1)):(ddK l (k+1)).length=k∧ddL l (k+1)=l:=by
  have e1:ddK l (k+1)=l.take k:=by
    rw [fO (by rintro (q|q); omega; exact q he),zO (by omega) h]
  have e2:(l.take k).length=k:=by simp; omega
  refine ⟨by rw [e1,e2],?_⟩
  unfold ddL; rw [e1,e2,List.take_append_drop]
theorem aDf {l:List (List Int)}: ∀ {j:Nat},0 < j→0 < (ddK l j).length
  |1,_=>by rw [show (1:Nat)=0+1 from rfl,fG (.inl rfl)]; simp
  | j + 2, _ => by
    have:=aDf (l:=l) (j:=j+1) (by omega)
    simp only [ddK] at this ⊢
    split
    · rw [List.length_append]; omega
    · exact this
theorem aMe {l:List (List Int)} {k j:Nat} (h:(ddK l (k+j)).length < k+j) (hj:1≤j):
    nth (ddL l (k+j)) (0+k+j)=nth l (k+j)∧nth (ddL l (k+j)) (0+k+(((j:Nat):Int) - (1:Int)).toNat)=nth l (k+j - 1):=by
  refine ⟨(aEr (by omega)).trans (by congr 1; omega),(aEr (by omega)).trans (by congr 1; omega)⟩
theorem aEW {l:List (List Int)} {j:Nat} (h:l.length≤j) (hj:j≤l.length):(ddL l j).take (ddK l j).length=ddK l l.length:=by
  have:j=l.length:=by omega
  subst this
  unfold ddL; rw [List.take_left]
theorem aJq {l:List Int} {n:Int}:0≤fi (fun j=>decide (n=nth l j)) 0 l.length↔n∈l:=by
  rw [aC4]
  constructor
  · rintro ⟨j,_,h1,h2⟩
    have:n=nth l j:=by simpa using h2
    rw [this]; exact aR (by omega)
  · intro h
    obtain ⟨k,hk,e⟩:=iD h
    exact ⟨k,Nat.zero_le _,by omega,by simp [e]⟩
end Go.Proofs.YtmnnhjhkaepbaaaGreat
namespace Go.Proofs.YtmnnhjhkaepbaaaGreat
structure Sp (t:Dt) (o:Ob) (w:List Int) (m a:Int):Prop where
  lf:(nth t.nd m.toNat).lf=false
  kn:(ans o (cat [w,(nth t.nd m.toNat).sf])).isSome=true
  ex:lxH (nth t.nd m.toNat).ou (((ans o (cat [w,(nth t.nd m.toNat).sf])).getD []).drop w.length)
  to:a=nth (nth t.nd m.toNat).kd (lxN (nth t.nd m.toNat).ou (((ans o (cat [w,(nth t.nd m.toNat).sf])).getD []).drop w.length))
inductive Bw (t:Dt) (o:Ob) (w:List Int):List Int→Prop where
  |root:Bw t o w [0]
  |step {a m:Int} {l:List Int} (h:Bw t o w (m::l)) (hs:Sp t o w m a):Bw t o w (a::m::l)
section
variable {t:Dt} {o:Ob} {w:List Int}
theorem Sp.kid (hv:dvE t=0) {m a:Int} (h0:0≤m) (h1:m < t.nd.length) (h:Sp t o w m a):a∈(nth t.nd m.toNat).kd:=by
  rw [h.to]
  exact aR (by have:=(aS0 hv (show m.toNat < t.nd.length by omega) h.lf).len; have:=h.ex.1; omega)
theorem Bw.rng (hv:dvE t=0): ∀ {l:List Int},Bw t o w l→ ∀ a∈l,0≤a∧a < t.nd.length:=by
  intro l h
  induction h with
  |root=>intro a ha; rw [List.mem_singleton.1 ha]; have:=(aBL hv).1; omega
  | step h hs ih =>
    rename_i a m l
    intro b hb
    rcases List.mem_cons.1 hb with rfl|hb
    · have hm:=ih m (by simp)
      exact (aBV hv).rng m.toNat (by omega) _ (hs.kid hv hm.1 hm.2)
    · exact ih b hb
end
end Go.Proofs.YtmnnhjhkaepbaaaGreat
namespace Go.Proofs.YtmnnhjhkaepbaaaGreat
open Go
abbrev cLL (l:List (List Int)):List V:=[aD l]
@[simp] theorem aQd (l:List (List (List Int))):cX (l.map cLL)=true:=dQ _ _ fun a=>by simp [cLL]
@[simp] theorem aRw (l:List (List (List Int))):eK (l.map cLL)=true:=fQ _ _ fun a=>by simp [cLL]
structure Sm (x:Nd):Prop where
  ac:x.ac.length≤1048576
  sf:x.sf.length≤1048576
  ou:x.ou.length≤1048576
  kd:x.kd.length≤1048576
  ol: ∀ w∈x.ou,w.length≤1048576
end Go.Proofs.YtmnnhjhkaepbaaaGreat
namespace Go.Proofs.YtmnnhjhkaepbaaaGreat
open Go Go.Sort
theorem aBE:SWO fun a b:List Int=>decide (aZ a b < 0) where
  irrefl a:=decide_eq_false (by rw [cS.2 rfl]; omega)
  trans a b c h1 h2:=decide_eq_true (lH (of_decide_eq_true h1) (of_decide_eq_true h2))
  ntrans a b c h1 h2:=decide_eq_false (lA.2 (aLn (lA.1 (of_decide_eq_false h2)) (lA.1 (of_decide_eq_false h1))))
theorem yG {a b:List Int} (h1: ¬aZ a b < 0) (h2: ¬aZ b a < 0):a=b:=by
  have q2:aZ a b≤0:=lA.1 h2
  exact cS.1 (by omega)
def sdX (l:List (List Int)):List (List Int):=ddK (srt aZ l) (srt aZ l).length
theorem nA {l:List (List Int)} {w:List Int}:w∈sdX l↔w∈l:=by
  unfold sdX
  rw [pV (Nat.le_refl _),List.take_length]
  exact (mA aZ l).mem_iff
theorem aEQ (l:List (List Int)):(sdX l).length≤l.length:=by
  have:=vB (srt aZ l) (srt aZ l).length
  unfold sdX; rw [iZ] at this ⊢; exact this
theorem aEB {L : List (List Int)} (hs : L.Pairwise fun a b => ¬aZ b a < 0) : ∀ {j : Nat}, j ≤ L.length → aGg (ddK L j)
  |0,_=>List.Pairwise.nil
  | j + 1, hj => by
    have ih:=aEB hs (j:=j) (by omega)
    by_cases h:j=0∨nth L j≠nth L (j - 1)
    · rw [fG h, aGg, List.pairwise_append]
      refine ⟨ih,by simp,fun a ha b hb=>?_⟩
      rw [List.mem_singleton.1 hb]
      have ha':=(pV (L:=L) (by omega) a).1 ha
      obtain ⟨i,hi,rfl⟩:=dN ha'
      rw [List.length_take] at hi
      rw [lY (by omega)]
      have le: ∀ p q,p < q→q < L.length→aZ (nth L p) (nth L q)≤0:=fun p q h1 h2=>by
        have:=(List.pairwise_iff_getElem.1 hs) p q (by omega) h2 h1
        rw [aO,aO] at this
        exact lA.1 this
      have h1:=le i j (by omega) (by omega)
      by_cases e:aZ (nth L i) (nth L j) < 0
      · exact e
      · exfalso
        have heq:=cS.1 (show aZ (nth L i) (nth L j)=0 by omega)
        have h2:aZ (nth L (j - 1)) (nth L j)≤0:=le (j - 1) j (by omega) (by omega)
        have h3:aZ (nth L j) (nth L (j - 1))≤0:=by
          rw [← heq]
          by_cases ei:i=j - 1
          · rw [ei,cS.2 rfl]; omega
          · exact le i (j - 1) (by omega) (by omega)
        have:=yG (lA.2 h3) (lA.2 h2)
        rcases h with h|h
        · omega
        · exact h this.symm
    · rw [fO h]; exact ih
theorem aKz (l:List (List Int)):aGg (sdX l):=aEB (lJ aBE l) (Nat.le_refl _)
def mxC (L:List (List Int)) (k:Nat):Bool:=decide (((k+1:Nat):Int)=((L.length:Nat):Int))|| !hp (nth L (k+1)) (nth L k)
def mxO (L:List (List Int)):Nat→List (List Int)
  |0=>[]
  |k+1=>if mxC L k=true then mxO L k++[nth L k] else mxO L k
theorem aAn {L:List (List Int)} {k:Nat} (h:mxC L k=true):mxO L (k+1)=mxO L k++[nth L k]:=if_pos h
theorem aDv {L:List (List Int)} {k:Nat} (h:mxC L k=false):mxO L (k+1)=mxO L k:=if_neg (by rw [h]; decide)
theorem aEb (L:List (List Int)): ∀ k,(mxO L k).length≤k
  |0=>Nat.le_refl _
  |k+1=>by have:=aEb L k; simp only [mxO]; split <;> simp <;> omega
theorem aAM {L : List (List Int)} {w : List Int} : ∀ {k : Nat}, w ∈ mxO L k ↔ ∃ i, i < k ∧ mxC L i = true ∧ nth L i = w
  |0=>by simp [mxO]
  | k + 1 => by
    have ih:=aAM (L:=L) (w:=w) (k:=k)
    by_cases h:mxC L k=true
    · rw [aAn h,List.mem_append,List.mem_singleton,ih]
      constructor
      · rintro (⟨i,i1,i2,i3⟩|e)
        · exact ⟨i,by omega,i2,i3⟩
        · exact ⟨k,by omega,h,e.symm⟩
      · rintro ⟨i,i1,i2,i3⟩
        by_cases e:i=k
        · subst e; exact .inr i3.symm
        · exact .inl ⟨i,by omega,i2,i3⟩
    · rw [aDv (by simpa using h),ih]
      constructor
      · rintro ⟨i,i1,i2,i3⟩; exact ⟨i,by omega,i2,i3⟩
      · rintro ⟨i,i1,i2,i3⟩
        by_cases e:i=k
        · subst e; exact (h i2).elim
        · exact ⟨i,by omega,i2,i3⟩
def tpB (L:List (List Int)) (k:Nat):Nat→Bool
  |0=>true
  |j+1=>if k < j then tpB L k j&&(decide (((nth L j).length:Int)=((nth L k).length:Int))|| !hp (nth L j) (nth L k)) else true
theorem aIe {L:List (List Int)} {k j:Nat} (h:j≤k+1):tpB L k j=true:=by
  cases j with
  |zero=>rfl
  |succ j=>exact if_neg (by omega)
theorem aKB {L:List (List Int)} {k j:Nat} (h:k < j):tpB L k (j+1)=(tpB L k j&&(decide (((nth L j).length:Int)=((nth L k).length:Int))|| !hp (nth L j) (nth L k))):=if_pos h
theorem aDt {L : List (List Int)} {k : Nat} : ∀ {j : Nat}, tpB L k j = true ↔ ∀ i, k < i → i < j → (nth L i).length = (nth L k).length ∨ hp (nth L i) (nth L k) = false
  |0=>by simp [tpB]
  | j + 1 => by
    by_cases h:k < j
    · rw [aKB h,Bool.and_eq_true,aDt (j:=j),Bool.or_eq_true,decide_eq_true_eq,Int.ofNat_inj,Bool.not_eq_true']
      constructor
      · rintro ⟨a,b⟩ i h1 h2
        by_cases e:i=j
        · subst e; exact b
        · exact a i h1 (by omega)
      · intro a; exact ⟨fun i h1 h2=>a i h1 (by omega),a j h (by omega)⟩
    · rw [aIe (by omega)]
      exact ⟨fun _ i h1 h2=>by omega,fun _=>rfl⟩
def mxT (l:List (List Int)):Nat→List (List Int)
  |0=>[]
  |k+1=>if tpB (sdW l) k (sdW l).length=true then mxT l k++[nth (sdW l) k] else mxT l k
def mxW (l:List (List Int)):List (List Int):=mxT l (sdW l).length
theorem aAu {l : List (List Int)} {w : List Int} : ∀ {k : Nat}, w ∈ mxT l k ↔ ∃ i, i < k ∧ tpB (sdW l) i (sdW l).length = true ∧ nth (sdW l) i = w
  |0=>by simp [mxT]
  | k + 1 => by
    have ih:=aAu (l:=l) (w:=w) (k:=k)
    simp only [mxT]
    split
    · rename_i h
      rw [List.mem_append,List.mem_singleton,ih]
      constructor
      · rintro (⟨i,i1,i2,i3⟩|e)
        · exact ⟨i,by omega,i2,i3⟩
        · exact ⟨k,by omega,h,e.symm⟩
      · rintro ⟨i,i1,i2,i3⟩
        by_cases e:i=k
        · subst e; exact .inr i3.symm
        · exact .inl ⟨i,by omega,i2,i3⟩
    · rename_i h
      rw [ih]
      constructor
      · rintro ⟨i,i1,i2,i3⟩; exact ⟨i,by omega,i2,i3⟩
      · rintro ⟨i,i1,i2,i3⟩
        by_cases e:i=k
        · subst e; exact (h i2).elim
        · exact ⟨i,by omega,i2,i3⟩
theorem aD5 {l:List (List Int)}: ∀ {k:Nat},k≤(sdW l).length→pD (mxT l k)
  |0,_=>List.Pairwise.nil
  | k + 1, hk => by
    have ih:=aD5 (l:=l) (k:=k) (by omega)
    simp only [mxT]
    split
    · rw [pD,List.pairwise_append]
      refine ⟨ih,by simp,fun a ha b hb=>?_⟩
      rw [List.mem_singleton.1 hb]
      obtain ⟨i,i1,_,rfl⟩:=aAu.1 ha
      have:=(List.pairwise_iff_getElem.1 (uE l)) i k (by omega) (by omega) i1
      rw [aO,aO] at this
      exact this
    · exact ih
def MxP (l:List (List Int)) (w:List Int):Prop:=w∈l∧ ∀ u∈l,hp u w=true→u=w
theorem aKi {l:List (List Int)} {w:List Int}:w∈mxW l↔MxP l w:=by
  unfold mxW
  rw [aAu]
  constructor
  · rintro ⟨i,i1,i2,rfl⟩
    refine ⟨(lG _ _).1 (aR i1),fun u hu hh=>?_⟩
    obtain ⟨j,hj,rfl⟩:=dN ((lG l u).2 hu)
    have hlen:=aIs hh
    rcases Nat.lt_trichotomy i j with q|q|q
    · rcases aDt.1 i2 j q hj with e|e
      · exact aMH hh (by omega)
      · rw [hh] at e; cases e
    · subst q; rfl
    · have:=(List.pairwise_iff_getElem.1 (uE l)) j i hj i1 q
      rw [aO,aO] at this
      have h2:=aHF hh
      have:=aAr this
      omega
  · rintro ⟨h1,h2⟩
    obtain ⟨i,hi,rfl⟩:=dN ((lG l w).2 h1)
    refine ⟨i,hi,aDt.2 fun j hij hj=>?_,rfl⟩
    by_cases e:hp (nth (sdW l) j) (nth (sdW l) i)=true
    · have:=h2 _ ((lG _ _).1 (aR hj)) e
      exact .inl (by rw [this])
    · exact .inr (by simpa using e)
theorem aJC {a b:List Int} (h:hp b a=true):aZ a b≤0:=by
  obtain ⟨x,rfl⟩:=aCN.1 h
  have e:cmn a (a++x)=a.length:=by
    have:=aK4 (p:=a) (x:=[]) (y:=x)
    rw [List.append_nil] at this
    rw [this]; simp [cmn]
  unfold aZ
  rw [e]
  simp
  try split <;> omega
theorem aSY (l : List (List Int)) : sdW (mxO (sdX l) (sdX l).length) = mxW l := by
  refine vK (uE _) (aD5 (Nat.le_refl _)) fun w=>?_
  rw [lG,aAM]
  show _↔w∈mxW l
  rw [aKi]
  have lt: ∀ {i j:Nat},i < j→j < (sdX l).length→aZ (nth (sdX l) i) (nth (sdX l) j) < 0:=fun h1 h2=>aLp (aKz l) h1 h2
  constructor
  · rintro ⟨i,i1,i2,rfl⟩
    refine ⟨nA.1 (aR i1),fun u hu hh=>?_⟩
    obtain ⟨j,hj,rfl⟩:=dN (nA.2 hu)
    rcases Nat.lt_trichotomy i j with q|q|q
    · exfalso
      unfold mxC at i2
      rw [Bool.or_eq_true,decide_eq_true_eq,Bool.not_eq_true'] at i2
      rcases i2 with e|e
      · omega
      · have h1:=lt (show i < i+1 by omega) (by omega)
        have hle:aZ (nth (sdX l) (i+1)) (nth (sdX l) j)≤0:=by
          by_cases ej:i+1=j
          · rw [ej,cS.2 rfl]; omega
          · have:=lt (show i+1 < j by omega) hj; omega
        have hb:=aBT (Int.le_of_lt h1) hle
        have hc:cmn (nth (sdX l) i) (nth (sdX l) j)=(nth (sdX l) i).length:=by
          have:cmn (nth (sdX l) j) (nth (sdX l) i)=(nth (sdX l) i).length:=by simpa [hp] using hh
          rw [gS]; exact this
        have h3:=pA (nth (sdX l) i) (nth (sdX l) (i+1))
        have:hp (nth (sdX l) (i+1)) (nth (sdX l) i)=true:=by
          unfold hp; rw [gS]; exact decide_eq_true (by omega)
        rw [this] at e; cases e
    · subst q; rfl
    · have h1:=lt q i1
      have h2:=aJC hh
      have:=wR h1
      omega
  · rintro ⟨h1,h2⟩
    obtain ⟨i,hi,rfl⟩:=dN (nA.2 h1)
    refine ⟨i,hi,?_,rfl⟩
    unfold mxC
    rw [Bool.or_eq_true,decide_eq_true_eq,Bool.not_eq_true']
    by_cases e:i+1=(sdX l).length
    · exact .inl (by omega)
    · refine .inr ?_
      by_cases hh:hp (nth (sdX l) (i+1)) (nth (sdX l) i)=true
      · exfalso
        have hq:=h2 _ (nA.1 (aR (show i+1 < (sdX l).length by omega))) hh
        have:=lt (show i < i+1 by omega) (by omega)
        rw [hq,cS.2 rfl] at this
        omega
      · simpa using hh
end Go.Proofs.YtmnnhjhkaepbaaaGreat
namespace Go.Proofs.YtmnnhjhkaepbaaaGreat
open Go
structure Ts where
  i:Int
  t:Dt
  deriving Inhabited
structure Xt where
  w:List Int
  n:Int
  deriving Inhabited
structure Spl where
  p:List Int
  a:Int
  x:List Int
  deriving Inhabited
abbrev cXt (e:Xt):List V:=[aH e.w,iV e.n]
theorem Ts.eq_iff {a b:Ts}:a=b↔a.i=b.i∧a.t=b.t:=by cases a; cases b; simp
instance:DecidableEq Ts:=fun _ _=>decidable_of_iff _ Ts.eq_iff.symm
@[simp] theorem aNu (l:List Xt):eK (l.map cXt)=true:=fQ _ _ fun a=>by simp [cXt]
def lvs (t:Dt):List (List Int):=if dvE t=0 then sdW (acL t.nd) else []
def ex1 (i:Int) (p:List Int):List (List Int):=(List.range i.toNat).map fun (a:Nat)=>cat [p,[(a:Int)]]
def exs (l:Ts):List (List Int):=(lvs l.t).flatMap (ex1 l.i)
def bho (o:Ob) (w x:List Int):List Int:=((ans o (cat [w,x])).getD []).drop w.length
section
variable {l:Ts} {o:Ob}
variable {k:Nat}
end
end Go.Proofs.YtmnnhjhkaepbaaaGreat
namespace Go.Proofs.YtmnnhjhkaepbaaaGreat
open Go
def tbl {α:Type} (f:Nat→α) (n:Nat):List α:=(List.range n).map f
theorem aU {α:Type} (f:Nat→α) (n:Nat):(tbl f n).length=n:=by simp [tbl]
theorem fW {α:Type} (f:Nat→α) (n:Nat):tbl f (n+1)=tbl f n++[f n]:=by simp [tbl,List.range_succ]
theorem aY {α:Type} [Inhabited α] {f:Nat→α} {n k:Nat} (h:k < n):nth (tbl f n) k=f k:=by
  unfold tbl
  rw [eP (by simpa using h)]
  congr 1
  rw [← aO (by simpa using h)]; simp
def plI (L:List (List Int)) (w:List Int):Int:=fi (fun j=>decide (nth L j=w)) 0 L.length
def hyA (l:Ts) (o:Ob) (k:Nat):List Int:=(nth l.t.nd (aUd l.t o (nth (exs l) k)).1.toNat).ac
def hyN (l:Ts) (o:Ob) (k:Nat):Int:=plI (lvs l.t) (hyA l o k)
def exI (l:Ts) (m:Nat):List Int:=(nth (exs l) m).take ((nth (exs l) m).length - 1)
def exL (l:Ts) (m:Nat):List Int:=(nth (exs l) m).drop ((nth (exs l) m).length - 1)
def hyO (l:Ts) (o:Ob) (m:Nat):Int:=nth (bho o (exI l m) (exL l m)) 0
def aLO (f:Nat→Int) (i k:Nat):List Int:=tbl (fun a=>f (k*i+a)) i
def hyM (l:Ts) (o:Ob):M:=⟨l.i,0,tbl (aLO (hyN l o) l.i.toNat) (lvs l.t).length,tbl (aLO (hyO l o) l.i.toNat) (lvs l.t).length⟩
def hyH (l:Ts) (o:Ob):Hy:=⟨hyM l o,lvs l.t⟩
def zM:M:=⟨0,0,[],[]⟩
section
variable {l:Ts} {o:Ob}
end
theorem Hy.eq_iff {a b:Hy}:a=b↔a.m.i=b.m.i∧a.m.s=b.m.s∧a.m.nx=b.m.nx∧a.m.ot=b.m.ot∧a.acc=b.acc:=by
  rcases a with ⟨⟨a1,a2,a3,a4⟩,a5⟩; rcases b with ⟨⟨b1,b2,b3,b4⟩,b5⟩; simp [and_assoc]
theorem M.eq_iff {a b:M}:a=b↔a.i=b.i∧a.s=b.s∧a.nx=b.nx∧a.ot=b.ot:=by
  rcases a with ⟨a1,a2,a3,a4⟩; rcases b with ⟨b1,b2,b3,b4⟩; simp
instance:DecidableEq M:=fun _ _=>decidable_of_iff _ M.eq_iff.symm
instance:DecidableEq Hy:=fun _ _=>decidable_of_iff _ Hy.eq_iff.symm
end Go.Proofs.YtmnnhjhkaepbaaaGreat
namespace Go.Proofs.YtmnnhjhkaepbaaaGreat
open Go
abbrev Sg:=Int×Int
structure TM where
  i:Int
  tm:Int
  s:Int
  nx:List (List Int)
  ot:List (List Int)
  st:List (List Sg)
theorem TM.eq_iff {a b:TM}:a=b↔a.i=b.i∧a.tm=b.tm∧a.s=b.s∧a.nx=b.nx∧a.ot=b.ot∧a.st=b.st:=by
  cases a; cases b; simp
instance:DecidableEq TM:=fun _ _=>decidable_of_iff _ TM.eq_iff.symm
abbrev cSg (p:Sg):List V:=[iV p.1,iV p.2]
abbrev cSr (l:List Sg):List V:=[.sl (l.map cSg)]
@[simp] theorem aMp {l:List Sg}:cX (l.map cSg)=true:=dQ _ _ fun a=>by simp [cSg]
@[simp] theorem aML {l:List (List Sg)}:cX (l.map cSr)=true:=dQ _ _ fun a=>by simp [cSr]
@[simp] theorem aFK {l:List Bool}:eK (l.map cB)=true:=fQ _ _ fun a=>by simp [cB]
@[simp] theorem aN7 {l:List Bool}:cX (l.map cB)=true:=dQ _ _ fun a=>by simp [cB]
attribute [simp] cB
@[simp] theorem aMC {l : List Bool} {i : Nat} {b : Bool} : eK ((l.map cB).set i [V.bool b]) = true := by
  have e:(l.map cB).set i [V.bool b]=(l.set i b).map cB:=by rw [List.map_set]; rfl
  rw [e]; exact aFK
def idL (l:List Int) (n:Int):Int:=fi (fun j=>decide (nth l j=n)) 0 l.length
def trm (m:M):M:=⟨m.i,0,(rch m).map fun s=>(nth m.nx s.toNat).map (idL (rch m)),(rch m).map fun s=>nth m.ot s.toNat⟩
theorem gQ {p:Nat→Bool}: ∀ {n k:Nat},0≤fi p k n→ ∃ j:Nat,fi p k n=j∧k≤j∧j < k+n∧p j=true∧ ∀ i,k≤i→i < j→p i=false
  |0,k,h=>by simp [fi] at h
  | n + 1, k, h => by
    unfold fi at h ⊢
    split
    · rename_i hp; exact ⟨k,rfl,Nat.le_refl _,by omega,hp,fun i h1 h2=>by omega⟩
    · rename_i hp
      rw [if_neg hp] at h
      obtain ⟨j,h1,h2,h3,h4,h5⟩:=gQ h
      refine ⟨j,h1,by omega,by omega,h4,fun i h6 h7=>?_⟩
      by_cases e:i=k
      · subst e; simpa using hp
      · exact h5 i (by omega) h7
theorem lE {p:Nat→Bool}: ∀ {n k j:Nat},k≤j→j < k+n→p j=true→0≤fi p k n
  |0,k,j,h1,h2,_=>by omega
  | n + 1, k, j, h1, h2, h3 => by
    unfold fi
    split
    · omega
    · rename_i hp
      by_cases e:j=k
      · subst e; exact (hp h3).elim
      · exact lE (show k+1≤j by omega) (by omega) h3
theorem aAv {l:List Int} {n:Int} (h:n∈l):0≤idL l n∧idL l n < l.length∧nth l (idL l n).toNat=n:=by
  obtain ⟨j,hj,e⟩:=dN h
  have h0:0≤idL l n:=lE (j:=j) (Nat.zero_le _) (by omega) (decide_eq_true e)
  obtain ⟨i,h1,_,h3,h4,_⟩:=gQ h0
  have h1':idL l n=i:=h1
  rw [h1']
  exact ⟨by omega,by omega,by simpa using h4⟩
theorem aA2 {l:List Int} (hn:l.Nodup) {k:Nat} (hk:k < l.length):idL l (nth l k)=k:=by
  obtain ⟨h1,h2,h3⟩:=aAv (aR hk)
  have key: ∀ i:Nat,i < l.length→nth l i=nth l k→i=k:=fun i hi e=>by
    rw [← aO hi,← aO hk] at e
    rcases Nat.lt_trichotomy i k with q|q|q
    · exact absurd e (List.pairwise_iff_getElem.1 hn i k hi hk q)
    · exact q
    · exact absurd e.symm (List.pairwise_iff_getElem.1 hn k i hk hi q)
  have:=key _ (by omega) h3
  omega
theorem tO (m:M): ∀ (n k:Nat) (P:RS),∃ x,(gY m n k P).1=P.1++x
  |0,_,P=>⟨[],by rw [gY,List.append_nil]⟩
  | n + 1, k, P => by
    rw [gY]
    split
    · obtain ⟨x,hx⟩:=iE (nth m.nx (nth P.1 k).toNat) P
      obtain ⟨y,hy⟩:=tO m n (k+1) (iM m P k)
      exact ⟨x++y,by rw [hy,show (iM m P k).1=P.1++x from hx,List.append_assoc]⟩
    · exact ⟨[],by rw [List.append_nil]⟩
structure RcM (m:M):Prop where
  rng: ∀ k,k < (rch m).length→0≤nth (rch m) k∧nth (rch m) k < m.nx.length
  nd:(rch m).Nodup
  first:nth (rch m) 0=m.s
  pos:0 < (rch m).length
  len:(rch m).length≤m.nx.length
  clo: ∀ k,k < (rch m).length→ ∀ a∈nth m.nx (nth (rch m) k).toNat,a∈rch m
theorem iA {m:M} (h:aV m=0):RcM m:=by
  obtain ⟨h1,h2,h3⟩:=aCI h m.nx.length 0 (kX m) (aAg h) (Nat.zero_le _) (by omega) (fun j hj=>by omega) (by simp [kX])
  have e:rch m=(gY m m.nx.length 0 (kX m)).1:=if_neg (by omega)
  obtain ⟨x,hx⟩:=tO m m.nx.length 0 (kX m)
  have hx2:rch m=m.s::x:=by rw [e,hx]; rfl
  refine ⟨fun k hk=>?_,by rw [e]; exact h1.nd,by rw [hx2]; rfl,by rw [hx2]; simp,by rw [e]; exact h1.len,fun k hk=>?_⟩
  · exact h1.rng _ (e ▸ aR hk)
  · rw [e] at hk ⊢; exact h2 k hk
def dG (m:M) (k a:Nat):Int:=idL (rch m) (nth (nth m.nx (nth (rch m) k).toNat) a)
def jM (m:M) (k a:Nat):Int:=nth (nth m.ot (nth (rch m) k).toNat) a
def tNx (m:M) (k:Nat):List Int:=tbl (dG m k) m.i.toNat
def tOt (m:M) (k:Nat):List Int:=tbl (jM m k) m.i.toNat
theorem fM {m:M} (h:aV m=0):trm m=⟨m.i,0,tbl (tNx m) (rch m).length,tbl (tOt m) (rch m).length⟩:=by
  have hc:=iA h
  have mo:=bK h
  unfold trm
  congr 1
  · refine fZ (by rw [aU,List.length_map]) fun k hk=>?_
    rw [List.length_map] at hk
    have hr:=hc.rng k hk
    have g:=mo.2.2.2.2.2.2.2 (nth (rch m) k).toNat (by omega)
    rw [eP hk,aY hk]
    refine fZ (by rw [List.length_map,tNx,aU]; omega) fun j hj=>?_
    rw [List.length_map] at hj
    rw [eP hj,tNx,aY (by omega)]; rfl
  · refine fZ (by rw [aU,List.length_map]) fun k hk=>?_
    rw [List.length_map] at hk
    have hr:=hc.rng k hk
    have g:=mo.2.2.2.2.2.2.2 (nth (rch m) k).toNat (by omega)
    rw [eP hk,aY hk]
    refine fZ (by rw [tOt,aU]; omega) fun j hj=>?_
    rw [tOt,aY (by omega)]; rfl
def dL {α:Type} (f:Nat→α) (z:α) (n j:Nat):List α:=(List.range n).map fun a=>if a < j then f a else z
section
variable {α:Type} {f:Nat→α} {z:α} {n j:Nat}
theorem gO:(dL f z n j).length=n:=by simp [dL]
theorem aA5:List.replicate n z=dL f z n 0:=by
  refine List.ext_getElem (by simp [dL]) fun k h1 h2=>?_
  simp [dL]
theorem oT (hj:j < n):(dL f z n j).set j (f j)=dL f z n (j+1):=by
  refine List.ext_getElem (by simp [dL]) fun k h1 h2=>?_
  rw [List.getElem_set]
  simp only [dL,List.getElem_map,List.getElem_range]
  by_cases e:j=k
  · subst e; rw [if_pos rfl,if_pos (by omega)]
  · rw [if_neg e]
    by_cases c:k < j
    · rw [if_pos c,if_pos (by omega)]
    · rw [if_neg c,if_neg (by omega)]
theorem mR (hj:n≤j):dL f z n j=tbl f n:=by
  unfold dL tbl
  refine List.map_congr_left fun x hx=>?_
  rw [if_pos (by have:=List.mem_range.1 hx; omega)]
end
theorem RcM.inj {m:M} (h:RcM m) {i j:Nat} (hi:i < (rch m).length) (hj:j < (rch m).length) (e:nth (rch m) i=nth (rch m) j):i=j:=by
  have h1:=aA2 h.nd hi
  have h2:=aA2 h.nd hj
  rw [e] at h1
  omega
theorem aH3 {m:M} (h:RcM m) {k:Nat} {N:List Int} (hk:k < (rch m).length) (hN:N.length=m.nx.length) (hP: ∀ j,j < k→nth N (nth (rch m) j).toNat=(j:Int)): ∀ j,j < k+1→nth (N.set (nth (rch m) k).toNat ((k:Nat):Int)) (nth (rch m) j).toNat=(j:Int):=fun j hj=>by
  have r1:=h.rng k hk
  have r2:=h.rng j (by omega)
  rw [fX (by omega)]
  by_cases e:j=k
  · subst e; rw [if_pos rfl]
  · rw [if_neg fun q=>e (h.inj (by omega) hk (by omega)),hP j (by omega)]
theorem aKI {m:M} (h:RcM m) {N:List Int} (hP: ∀ j,j < (rch m).length→nth N (nth (rch m) j).toNat=(j:Int)): ∀ a∈rch m,nth N a.toNat=idL (rch m) a:=fun a ha=>by
  obtain ⟨j,hj,rfl⟩:=dN ha
  rw [hP j hj,aA2 h.nd hj]
theorem aIX {m:M} (h:aV m=0) {k:Nat} (hk:k < (rch m).length):tOt m k=nth m.ot (nth (rch m) k).toNat:=by
  have hr:=(iA h).rng k hk
  have g:=(bK h).2.2.2.2.2.2.2 (nth (rch m) k).toNat (by omega)
  refine fZ (by rw [tOt,aU]; omega) fun j hj=>?_
  rw [tOt,aU] at hj
  rw [tOt,aY hj]; rfl
def MOK (m:M):Prop:=1≤m.i∧m.i≤64∧0 < m.nx.length∧m.nx.length≤128∧m.ot.length=m.nx.length∧
  (∀ s,s < m.nx.length→((nth m.nx s).length:Int)=m.i∧((nth m.ot s).length:Int)=m.i∧ ∀ a:Nat,a < m.i→0≤nth (nth m.nx s) a∧nth (nth m.nx s) a < m.nx.length∧0≤nth (nth m.ot s) a∧nth (nth m.ot s) a≤1048576)
theorem aP8 {m:M} (h:aV m=0):MOK (trm m):=by
  have hc:=iA h
  have mo:=bK h
  have e:=fM h
  have en:(trm m).nx.length=(rch m).length:=List.length_map ..
  have eo:(trm m).ot.length=(rch m).length:=List.length_map ..
  refine ⟨mo.1,mo.2.1,by rw [en]; exact hc.pos,by rw [en]; have:=hc.len; omega,by rw [en,eo],fun s hs=>?_⟩
  rw [en] at hs ⊢
  have hr:=hc.rng s hs
  obtain ⟨g1,g2,g3⟩:=mo.2.2.2.2.2.2.2 (nth (rch m) s).toNat (by omega)
  have h1:nth (trm m).nx s=(nth m.nx (nth (rch m) s).toNat).map (idL (rch m)):=eP hs
  have h2:nth (trm m).ot s=nth m.ot (nth (rch m) s).toNat:=eP hs
  refine ⟨by rw [h1,List.length_map]; exact g1,by rw [h2]; exact g2,fun a ha=>?_⟩
  have ha':(a:Int) < m.i:=ha
  have hin:=hc.clo s hs _ (aR (show a < (nth m.nx (nth (rch m) s).toNat).length by omega))
  obtain ⟨q1,q2,q3⟩:=aAv hin
  rw [h1,h2,eP (by omega)]
  have:=g3 a ha'
  exact ⟨q1,q2,this.2.2.1,this.2.2.2⟩
def trR (m:M):M:=if aV m=0 then trm m else zM
theorem aNf {m:M} {k:Nat} (hk:k < (rch m).length):nth (trm m).ot k=nth m.ot (nth (rch m) k).toNat:=eP hk
theorem aQr {m:M} {k i:Nat} (hk:k < (rch m).length) (hi:i < (nth m.nx (nth (rch m) k).toNat).length):nth (nth (trm m).nx k) i=idL (rch m) (nth (nth m.nx (nth (rch m) k).toNat) i):=by
  rw [show nth (trm m).nx k=(nth m.nx (nth (rch m) k).toNat).map (idL (rch m)) from eP hk,eP hi]
section
variable {m:M} {inp tm:Int} {y:Sg} {s t i x:Nat}
end
section
variable {m:M} {inp tm:Int}
end
section
variable {m:M} {inp tm:Int} {s i k:Nat}
end
section
variable {m:M} {inp tm:Int}
end
end Go.Proofs.YtmnnhjhkaepbaaaGreat
namespace Go.Proofs.YtmnnhjhkaepbaaaGreat
open Go
structure Pr where
  s:Int
  t:Int
  w:List Int
  deriving Inhabited
abbrev cPr (p:Pr):List V:=[iV p.s,iV p.t,aH p.w]
@[simp] theorem aRi (l:List Pr):eK (l.map cPr)=true:=fQ _ _ fun a=>by simp [cPr]
@[simp] theorem aMo (l:List Pr):cX (l.map cPr)=true:=dQ _ _ fun a=>by simp [cPr]
def knK (L:List Pr) (u v:Int):Nat→Bool
  |0=>false
  |k+1=>knK L u v k||decide ((nth L k).s=u∧(nth L k).t=v)
theorem qG {L:List Pr} {u v:Int}: ∀ {k:Nat},knK L u v k=true↔ ∃ j,j < k∧(nth L j).s=u∧(nth L j).t=v
  |0=>by simp [knK]
  | k + 1 => by
    simp only [knK,Bool.or_eq_true,decide_eq_true_eq,qG (k:=k)]
    constructor
    · rintro (⟨j,h1,h2⟩|h)
      · exact ⟨j,by omega,h2⟩
      · exact ⟨k,by omega,h⟩
    · rintro ⟨j,h1,h2⟩
      by_cases e:j=k
      · subst e; exact .inr h2
      · exact .inl ⟨j,by omega,h2⟩
def nxS (m:M) (s:Int) (x:Nat):Int:=nth (nth m.nx s.toNat) x
def otS (m:M) (s:Int) (x:Nat):Int:=nth (nth m.ot s.toNat) x
def bqS (a b:M) (p:Pr) (L:List Pr) (x:Nat):List Pr:=
  if knK L (nxS a p.s x) (nxS b p.t x) L.length=true then L else L++[⟨nxS a p.s x,nxS b p.t x,p.w++[(x:Int)]⟩]
def bqR (a b:M) (p:Pr) (L:List Pr):Nat→List Pr
  |0=>L
  |x+1=>bqS a b p (bqR a b p L x) x
def bqD (a b:M) (p:Pr) (x:Nat):Bool:=decide (otS a p.s x≠otS b p.t x)
def bq (a b:M):Nat→Nat→List Pr→Option (List Int)
  |0,_,_=>none
  |n+1,i,L=>if i < L.length then (if 0≤fi (bqD a b (nth L i)) 0 a.i.toNat then some ((nth L i).w++[fi (bqD a b (nth L i)) 0 a.i.toNat]) else bq a b n (i+1) (bqR a b (nth L i) L a.i.toNat)) else none
def dst (a b:M) (s t:Int):Option (List Int):=bq a b (a.nx.length*b.nx.length+1) 0 [⟨s,t,[]⟩]
theorem aE9 (a b:M) (p:Pr) (L:List Pr) (x:Nat): ∃ y,bqS a b p L x=L++y:=by
  unfold bqS; split
  · exact ⟨[],by simp⟩
  · exact ⟨_,rfl⟩
theorem tU (a b:M) (p:Pr) (L:List Pr): ∀ x,∃ y,bqR a b p L x=L++y
  |0=>⟨[],by simp [bqR]⟩
  | x + 1 => by
    obtain ⟨y,hy⟩:=tU a b p L x
    obtain ⟨z,hz⟩:=aE9 a b p (bqR a b p L x) x
    exact ⟨y++z,by rw [bqR,hz,hy,List.append_assoc]⟩
theorem aA0 {a b:M} {p:Pr} {L:List Pr} {x i:Nat} (h:i < L.length):nth (bqR a b p L x) i=nth L i:=by
  obtain ⟨y,hy⟩:=tU a b p L x
  rw [hy,bE h]
theorem aJT {a b:M} {p:Pr} {L:List Pr} {x:Nat}:L.length≤(bqR a b p L x).length:=by
  obtain ⟨y,hy⟩:=tU a b p L x
  rw [hy,List.length_append]; omega
def InW (n:Int) (w:List Int):Prop:= ∀ k,k < w.length→0≤nth w k∧nth w k < n
theorem InW.snoc {n:Int} {w:List Int} (h:InW n w) {x:Int} (h0:0≤x) (h1:x < n):InW n (w++[x]):=by
  intro k hk
  rw [List.length_append,List.length_singleton] at hk
  by_cases e:k < w.length
  · rw [bE e]; exact h k e
  · have q:nth (w++[x]) (w.length+(k - w.length))=nth [x] (k - w.length):=eX
    rw [show w.length+(k - w.length)=k by omega,show k - w.length=0 by omega,mJ] at q
    rw [q]; exact ⟨h0,h1⟩
theorem nT {m:M} (h:aV m=0) {s:Int} {x:Nat} (h0:0≤s) (h1:s < m.nx.length) (hx:x < m.i.toNat):0≤nxS m s x∧nxS m s x < m.nx.length∧0≤otS m s x∧otS m s x≤1048576:=by
  have:=((bK h).2.2.2.2.2.2.2 s.toNat (by omega)).2.2 x (by omega)
  exact this
theorem aAz {m:M} (h:aV m=0) {s:Int} (h0:0≤s) (h1:s < m.nx.length):(nth m.nx s.toNat).length=m.i.toNat∧(nth m.ot s.toNat).length=m.i.toNat∧m.ot.length=m.nx.length:=by
  have q:=bK h
  have:=q.2.2.2.2.2.2.2 s.toNat (by omega)
  omega
theorem aEV (m:M) (s:Int) (x:Nat):cell m.ot s (x:Int)=otS m s x:=rfl
structure BI (a b:M) (s0 t0:Int) (L:List Pr):Prop where
  rg: ∀ p∈L,0≤p.s∧p.s < a.nx.length∧0≤p.t∧p.t < b.nx.length
  nd:L.Pairwise fun p q=> ¬(p.s=q.s∧p.t=q.t)
  st: ∀ p∈L,eJ a s0 p.w=p.s∧eJ b t0 p.w=p.t∧eA a s0 p.w=eA b t0 p.w∧InW a.i p.w
  ln: ∀ k,k < L.length→(nth L k).w.length≤k
  hd:0 < L.length∧(nth L 0).s=s0∧(nth L 0).t=t0
section
variable {a b:M} {s0 t0:Int}
theorem BI.start (h1:0≤s0) (h2:s0 < a.nx.length) (h3:0≤t0) (h4:t0 < b.nx.length):BI a b s0 t0 [⟨s0,t0,[]⟩]:=by
  refine ⟨fun p hp=>?_,List.pairwise_singleton _ _,fun p hp=>?_,fun k hk=>?_,by simp,rfl,rfl⟩
  · rw [List.mem_singleton.1 hp]; exact ⟨h1,h2,h3,h4⟩
  · rw [List.mem_singleton.1 hp]; exact ⟨rfl,rfl,rfl,fun k hk=>by simp at hk⟩
  · have:k=0:=by simpa using hk
    subst this; simp [mJ]
theorem BI.step (ha : aV a = 0) (hb : aV b = 0) (hi : a.i = b.i) {L : List Pr} (h : BI a b s0 t0 L) {i x : Nat} (hk : i < L.length) (hx : x < a.i.toNat) {q : Pr} (hq : q = nth L i) (hd : bqD a b q x = false) : BI a b s0 t0 (bqS a b q L x) := by
  unfold bqS
  split
  · exact h
  · rename_i hn
    have hm:nth L i∈L:=aR hk
    have r:=h.rg _ hm
    have s:=h.st _ hm
    rw [← hq] at r s
    have n1:=nT ha r.1 r.2.1 hx
    have n2:=nT hb r.2.2.1 r.2.2.2 (show x < b.i.toNat by rw [← hi]; exact hx)
    refine ⟨fun p hp=>?_,?_,fun p hp=>?_,fun k hk2=>?_,?_⟩
    · rcases List.mem_append.1 hp with e|e
      · exact h.rg p e
      · rw [List.mem_singleton.1 e]; exact ⟨n1.1,n1.2.1,n2.1,n2.2.1⟩
    · rw [List.pairwise_append]
      refine ⟨h.nd,List.pairwise_singleton _ _,fun p hp r hr e=>?_⟩
      rw [List.mem_singleton.1 hr] at e
      obtain ⟨j,hj,rfl⟩:=dN hp
      exact hn (qG.2 ⟨j,hj,e⟩)
    · rcases List.mem_append.1 hp with e|e
      · exact h.st p e
      · rw [List.mem_singleton.1 e]
        have e1:otS a q.s x=otS b q.t x:=by simpa [bqD] using hd
        refine ⟨by rw [jW,s.1]; rfl,by rw [jW,s.2.1]; rfl,?_,s.2.2.2.snoc (by omega) (by omega)⟩
        rw [iO,iO,s.1,s.2.1,s.2.2.1]
        show _++[cell a.ot q.s (x:Int)]=_++[cell b.ot q.t (x:Int)]
        rw [aEV,aEV,e1]
    · rw [List.length_append,List.length_singleton] at hk2
      by_cases e:k < L.length
      · rw [bE e]; exact h.ln k e
      · have z:nth (L++[(⟨nxS a q.s x,nxS b q.t x,q.w++[(x:Int)]⟩:Pr)]) (L.length+(k - L.length))=_:=eX
        rw [show L.length+(k - L.length)=k by omega,show k - L.length=0 by omega,mJ] at z
        rw [z]
        have:=h.ln i hk
        rw [← hq] at this
        show (q.w++[(x:Int)]).length≤k
        rw [List.length_append,List.length_singleton]; omega
    · refine ⟨by rw [List.length_append]; have:=h.hd.1; omega,?_⟩
      rw [bE h.hd.1]; exact h.hd.2
theorem BI.row (ha:aV a=0) (hb:aV b=0) (hi:a.i=b.i) {L:List Pr} (h:BI a b s0 t0 L) {i:Nat} (hk:i < L.length): ∀ {x:Nat},x≤a.i.toNat→(∀ j,j < x→bqD a b (nth L i) j=false)→BI a b s0 t0 (bqR a b (nth L i) L x)
  |0,_,_=>h
  | x + 1, hx, hd => by
    have ih:=BI.row ha hb hi h hk (x:=x) (by omega) fun j hj=>hd j (by omega)
    exact ih.step ha hb hi (i:=i) (Nat.lt_of_lt_of_le hk aJT) (by omega) (aA0 hk).symm (hd x (by omega))
theorem aFV {n s s' t t':Int} (h1:0≤t) (h2:t < n) (h3:0≤t') (h4:t' < n) (e:s*n+t=s'*n+t'):s=s'∧t=t':=by
  have hd: ∀ {u v:Int},0≤v→v < n→(u*n+v) / n=u:=fun {u v} hv hv'=>by
    rw [Int.add_comm,Int.add_mul_ediv_right _ _ (by omega),Int.ediv_eq_zero_of_lt hv hv']; omega
  have:=hd (u:=s) h1 h2
  rw [e,hd h3 h4] at this
  subst this
  exact ⟨rfl,by omega⟩
theorem BI.len {L:List Pr} (h:BI a b s0 t0 L):L.length≤a.nx.length*b.nx.length:=by
  have key:(L.map fun p=>p.s*(b.nx.length:Int)+p.t).length≤((List.range (a.nx.length*b.nx.length)).map fun (n:Nat)=>(n:Int)).length:=by
    refine aDV ?_ fun z hz=>?_
    · rw [List.nodup_iff_pairwise_ne,List.pairwise_map]
      refine List.Pairwise.imp_of_mem ?_ h.nd
      intro p q hp hq hn e
      have r1:=h.rg p hp; have r2:=h.rg q hq
      exact hn (aFV r1.2.2.1 r1.2.2.2 r2.2.2.1 r2.2.2.2 e)
    · obtain ⟨p,hp,rfl⟩:=List.mem_map.1 hz
      have r:=h.rg p hp
      have u1:p.s*(b.nx.length:Int)≤((a.nx.length:Int) - 1)*(b.nx.length:Int):=Int.mul_le_mul_of_nonneg_right (by omega) (by omega)
      have u2:0≤p.s*(b.nx.length:Int):=Int.mul_nonneg r.1 (by omega)
      rw [Int.sub_mul] at u1
      have u3:((a.nx.length*b.nx.length:Nat):Int)=(a.nx.length:Int)*(b.nx.length:Int):=Int.natCast_mul _ _
      exact List.mem_map.2 ⟨(p.s*(b.nx.length:Int)+p.t).toNat,List.mem_range.2 (by omega),by omega⟩
  simpa using key
def Cl (a b:M) (L:List Pr) (i:Nat):Prop:= ∀ j,j < i→ ∀ x,x < a.i.toNat→bqD a b (nth L j) x=false∧knK L (nxS a (nth L j).s x) (nxS b (nth L j).t x) L.length=true
theorem aB7 {L y:List Pr} {u v:Int} (h:knK L u v L.length=true):knK (L++y) u v (L++y).length=true:=by
  obtain ⟨j,h1,h2⟩:=qG.1 h
  exact qG.2 ⟨j,by rw [List.length_append]; omega,by rw [bE h1]; exact h2⟩
theorem aEK {p : Pr} {L : List Pr} : ∀ {x j : Nat}, j < x → knK (bqR a b p L x) (nxS a p.s j) (nxS b p.t j) (bqR a b p L x).length = true
  | x + 1, j, h => by
    obtain ⟨y,hy⟩:=aE9 a b p (bqR a b p L x) x
    rw [bqR]
    by_cases e:j=x
    · subst e
      unfold bqS
      split
      · rename_i q; exact q
      · refine qG.2 ⟨(bqR a b p L j).length,by simp,?_⟩
        have z:nth (bqR a b p L j++[(⟨nxS a p.s j,nxS b p.t j,p.w++[(j:Int)]⟩:Pr)]) ((bqR a b p L j).length+0)=_:=eX
        rw [Nat.add_zero,mJ] at z
        rw [z]; exact ⟨rfl,rfl⟩
    · rw [hy]; exact aB7 (aEK (x:=x) (j:=j) (by omega))
theorem Cl.next {L:List Pr} {i:Nat} (h:Cl a b L i) (hi:i < L.length) (hd: ∀ x,x < a.i.toNat→bqD a b (nth L i) x=false):Cl a b (bqR a b (nth L i) L a.i.toNat) (i+1):=by
  intro j hj x hx
  by_cases e:j=i
  · subst e
    rw [aA0 hi]
    exact ⟨hd x hx,aEK hx⟩
  · rw [aA0 (by omega)]
    obtain ⟨y,hy⟩:=tU a b (nth L i) L a.i.toNat
    have q:=h j (by omega) x hx
    exact ⟨q.1,by rw [hy]; exact aB7 q.2⟩
end
end Go.Proofs.YtmnnhjhkaepbaaaGreat
namespace Go.Proofs.YtmnnhjhkaepbaaaGreat
open Go
section
variable (f:Nat→List Int)
def lsf (s:Nat):Nat:=if 0≤fi (fun t=>decide (f s=f t)) 0 s then (fi (fun t=>decide (f s=f t)) 0 s).toNat else s
def cnf:Nat→Nat
  |0=>0
  |s+1=>cnf s+(if lsf f s=s then 1 else 0)
def nmf (s:Nat):Int:=(cnf f (lsf f s):Nat)
end
section
variable {f g:Nat→List Int} {s t n:Nat}
theorem cF (f:Nat→List Int) (s:Nat):lsf f s≤s∧f (lsf f s)=f s∧ ∀ t,t < lsf f s→f t≠f s:=by
  unfold lsf
  split
  · rename_i h
    obtain ⟨j,h1,h2,h3,h4,h5⟩:=gQ h
    rw [h1,Int.toNat_natCast]
    refine ⟨by omega,(of_decide_eq_true h4).symm,fun t ht e=>?_⟩
    have:=h5 t (Nat.zero_le _) ht
    rw [decide_eq_true e.symm] at this; cases this
  · rename_i h
    refine ⟨Nat.le_refl _,rfl,fun t ht e=>h ?_⟩
    exact lE (Nat.zero_le t) (by omega) (decide_eq_true e.symm)
theorem mX (h:f s=f t):lsf f s=lsf f t:=by
  obtain ⟨a1,a2,a3⟩:=cF f s
  obtain ⟨b1,b2,b3⟩:=cF f t
  rcases Nat.lt_trichotomy (lsf f s) (lsf f t) with q|q|q
  · exact absurd (a2.trans h) (b3 _ q)
  · exact q
  · exact absurd (b2.trans h.symm) (a3 _ q)
theorem jU:lsf f (lsf f s)=lsf f s:=mX (cF f s).2.1
theorem aGr (h:s≤t):cnf f s≤cnf f t:=by
  induction t with
  |zero=>rw [show s=0 by omega]; exact Nat.le_refl _
  | succ t ih =>
    by_cases e:s=t+1
    · subst e; exact Nat.le_refl _
    · rw [cnf]; have:=ih (by omega); omega
theorem aAE (h:s < t) (hs:lsf f s=s):cnf f s < cnf f t:=by
  have:=aGr (f:=f) (show s+1≤t from h)
  rw [cnf,if_pos hs] at this; omega
theorem rU: ∀ n,cnf f n≤n
  |0=>Nat.le_refl 0
  |n+1=>by rw [cnf]; have:=rU n; split <;> omega
theorem lM:nmf f s=nmf f t↔f s=f t:=by
  constructor
  · intro h
    have h:cnf f (lsf f s)=cnf f (lsf f t):=by unfold nmf at h; omega
    have e:lsf f s=lsf f t:=by
      rcases Nat.lt_trichotomy (lsf f s) (lsf f t) with q|q|q
      · have:=aAE q jU; omega
      · exact q
      · have:=aAE q jU; omega
    rw [← (cF f s).2.1,← (cF f t).2.1,e]
  · intro h; unfold nmf; rw [mX h]
theorem rD (h:lsf f s=s):nmf f s=(cnf f s:Nat):=by unfold nmf; rw [h]
theorem aJm (h:lsf f s≠s):0≤nmf f s∧nmf f s < (cnf f s:Nat):=by
  have:=aAE (f:=f) (show lsf f s < s by have:=(cF f s).1; omega) jU
  unfold nmf; omega
theorem aBf (h:s < n):0≤nmf f s∧nmf f s < (cnf f n:Nat):=by
  have:=aAE (f:=f) (show lsf f s < n by have:=(cF f s).1; omega) jU
  unfold nmf; omega
theorem aEd (h: ∀ s t,s < n→t < n→(f s=f t↔g s=g t)) (hs:s < n):lsf f s=lsf g s:=by
  obtain ⟨a1,a2,a3⟩:=cF f s
  obtain ⟨b1,b2,b3⟩:=cF g s
  rcases Nat.lt_trichotomy (lsf f s) (lsf g s) with q|q|q
  · exact absurd ((h _ _ (by omega) hs).1 a2) (b3 _ q)
  · exact q
  · exact absurd ((h _ _ (by omega) hs).2 b2) (a3 _ q)
theorem uB (h: ∀ s t,s < n→t < n→(f s=f t↔g s=g t)): ∀ {s},s≤n→cnf f s=cnf g s
  |0,_=>rfl
  |s+1,hs=>by rw [cnf,cnf,uB h (by omega),aEd h (by omega)]
theorem uF (h: ∀ s t,s < n→t < n→(f s=f t↔g s=g t)) (hs:s < n):nmf f s=nmf g s:=by
  have:=(cF g s).1
  unfold nmf; rw [aEd h hs,uB h (by omega)]
theorem aHv (h: ∀ s t,s < n→t < n→g s=g t→f s=f t) (hs:s < n) (e:lsf f s=s):lsf g s=s:=by
  obtain ⟨a1,a2,a3⟩:=cF g s
  by_cases q:lsf g s=s
  · exact q
  · have:=(cF f s).2.2 (lsf g s) (by omega)
    exact absurd (h _ _ (by omega) hs a2) this
theorem wC (h : ∀ s t, s < n → t < n → g s = g t → f s = f t) : ∀ {k}, k ≤ n → cnf f k ≤ cnf g k ∧ (cnf f k = cnf g k → ∀ s, s < k → lsf g s = s → lsf f s = s)
  |0,_=>⟨Nat.le_refl 0,fun _ s hs=>absurd hs (Nat.not_lt_zero _)⟩
  | k + 1, hk => by
    obtain ⟨h1,h2⟩:=wC h (k:=k) (by omega)
    have h3:=aHv h (s:=k) (by omega)
    rw [cnf,cnf]
    by_cases e:lsf f k=k
    · rw [if_pos e,if_pos (h3 e)]
      refine ⟨by omega,fun q s hs hg=>?_⟩
      by_cases z:s=k
      · subst z; exact e
      · exact h2 (by omega) s (by omega) hg
    · rw [if_neg e]
      by_cases e2:lsf g k=k
      · rw [if_pos e2]; exact ⟨by omega,fun q=>by omega⟩
      · rw [if_neg e2]
        refine ⟨by omega,fun q s hs hg=>?_⟩
        by_cases z:s=k
        · subst z; exact absurd hg e2
        · exact h2 (by omega) s (by omega) hg
theorem aFz (h: ∀ s t,s < n→t < n→g s=g t→f s=f t) (hc:cnf f n=cnf g n) (hs:s < n) (ht:t < n) (e:f s=f t):g s=g t:=by
  obtain ⟨a1,a2,a3⟩:=cF g s
  obtain ⟨b1,b2,b3⟩:=cF g t
  have h2:=(wC h (Nat.le_refl n)).2 hc
  have p:=h2 (lsf g s) (by omega) jU
  have q:=h2 (lsf g t) (by omega) jU
  have r:f (lsf g s)=f (lsf g t):=((h _ _ (by omega) hs a2).trans e).trans (h _ _ (by omega) ht b2).symm
  have:=mX r
  rw [← a2,← b2,← p,this,q]
end
end Go.Proofs.YtmnnhjhkaepbaaaGreat
namespace Go.Proofs.YtmnnhjhkaepbaaaGreat
open Go
def rC (m:M) (c:List Int) (s:Nat):List Int:=tbl (otS m s) m.i.toNat++tbl (fun a=>nth c (nxS m s a).toNat) m.i.toNat
def fgC (m:M) (c:List Int) (s:Nat):List Int:=nth c s::rC m c s
def clK (m:M):Nat→List Int
  |0=>tbl (fun _=>0) m.nx.length
  |k+1=>tbl (nmf (rC m (clK m k))) m.nx.length
def eqk (m:M):Nat→Int→Int→Prop
  |0,_,_=>True
  |k+1,s,t=> ∀ a,a < m.i.toNat→otS m s a=otS m t a∧eqk m k (nxS m s a) (nxS m t a)
theorem oZ {m:M}: ∀ {k:Nat} {s t:Int},eqk m (k+1) s t→eqk m k s t
  |0,_,_,_=>trivial
  |k+1,_,_,h=>fun a ha=>⟨(h a ha).1,oZ (h a ha).2⟩
theorem aLJ {a b c d:List Int} (h:a.length=b.length):a++c=b++d↔a=b∧c=d:=by
  constructor
  · exact fun e=>List.append_inj e h
  · rintro ⟨rfl,rfl⟩; rfl
theorem oW {f g:Nat→Int} {n:Nat}:tbl f n=tbl g n↔ ∀ k,k < n→f k=g k:=by
  constructor
  · intro h k hk
    have:nth (tbl f n) k=nth (tbl g n) k:=by rw [h]
    rwa [aY hk,aY hk] at this
  · intro h
    refine fZ (by rw [aU,aU]) fun k hk=>?_
    rw [aU] at hk
    rw [aY hk,aY hk]; exact h k hk
theorem aC3 {m:M} {c:List Int} {s t:Nat}:rC m c s=rC m c t↔ ∀ a,a < m.i.toNat→otS m s a=otS m t a∧nth c (nxS m s a).toNat=nth c (nxS m t a).toNat:=by
  unfold rC
  rw [aLJ (by rw [aU,aU]),oW,oW]
  exact ⟨fun h a ha=>⟨h.1 a ha,h.2 a ha⟩,fun h=>⟨fun a ha=>(h a ha).1,fun a ha=>(h a ha).2⟩⟩
theorem aDE {m:M} (k:Nat):(clK m k).length=m.nx.length:=by cases k <;> exact aU _ _
theorem lN {m:M} (h:aV m=0): ∀ (k:Nat) {s t:Nat},s < m.nx.length→t < m.nx.length→(nth (clK m k) s=nth (clK m k) t↔eqk m k s t)
  | 0, s, t, hs, ht => by
    unfold clK
    rw [aY hs,aY ht]
    exact ⟨fun _=>trivial,fun _=>rfl⟩
  | k + 1, s, t, hs, ht => by
    rw [clK,aY hs,aY ht,lM,aC3]
    have key: ∀ a,a < m.i.toNat→((nth (clK m k) (nxS m s a).toNat=nth (clK m k) (nxS m t a).toNat)↔eqk m k (nxS m s a) (nxS m t a)):=fun a ha=>by
      have h1:=nT h (s:=(s:Int)) (x:=a) (by omega) (by omega) ha
      have h2:=nT h (s:=(t:Int)) (x:=a) (by omega) (by omega) ha
      have:=lN h k (s:=(nxS m s a).toNat) (t:=(nxS m t a).toNat) (by omega) (by omega)
      rwa [show (((nxS m s a).toNat:Nat):Int)=nxS m s a by omega,show (((nxS m t a).toNat:Nat):Int)=nxS m t a by omega] at this
    exact ⟨fun q a ha=>⟨(q a ha).1,(key a ha).1 (q a ha).2⟩,fun q a ha=>⟨(q a ha).1,(key a ha).2 (q a ha).2⟩⟩
theorem aL6 {m:M} (h:aV m=0) (k:Nat) {s t:Nat} (hs:s < m.nx.length) (ht:t < m.nx.length):fgC m (clK m k) s=fgC m (clK m k) t↔rC m (clK m k) s=rC m (clK m k) t:=by
  constructor
  · exact fun e=>(List.cons.inj e).2
  · intro e
    have e1:nth (clK m (k+1)) s=nth (clK m (k+1)) t:=by rw [clK,aY hs,aY ht,lM]; exact e
    have e2:=(lN h k hs ht).2 (oZ ((lN h (k+1) hs ht).1 e1))
    unfold fgC; rw [e,e2]
theorem aNg {m:M} (h:aV m=0) (k:Nat):tbl (nmf (fgC m (clK m k))) m.nx.length=clK m (k+1):=by
  rw [clK,oW]
  exact fun s hs=>uF (fun s t hs ht=>aL6 h k hs ht) hs
def ctK (m:M) (k:Nat):Nat:=cnf (fun s=>[nth (clK m k) s]) m.nx.length
theorem aKy {m:M} (k:Nat):ctK m (k+1)=cnf (rC m (clK m k)) m.nx.length:=by
  unfold ctK
  refine uB (fun s t hs ht=>?_) (Nat.le_refl _)
  rw [clK,aY hs,aY ht]
  constructor
  · exact fun e=>lM.1 (List.cons.inj e).1
  · exact fun e=>by rw [lM.2 e]
theorem aET {m:M} (h:aV m=0) (k:Nat) {s t:Nat} (hs:s < m.nx.length) (ht:t < m.nx.length) (e:[nth (clK m (k+1)) s]=[nth (clK m (k+1)) t]):[nth (clK m k) s]=[nth (clK m k) t]:=by
  rw [(lN h k hs ht).2 (oZ ((lN h (k+1) hs ht).1 (List.cons.inj e).1))]
theorem aK9 {m:M} (h:aV m=0) (k:Nat):ctK m k≤ctK m (k+1):=(wC (fun s t hs ht=>aET h k hs ht) (Nat.le_refl _)).1
theorem aSd {m : M} (h : aV m = 0) : ctK m 0 = 1 := by
  have hp:=(bK h).2.2.1
  have: ∀ n,0 < n→n≤m.nx.length→cnf (fun s=>[nth (clK m 0) s]) n=1:=by
    intro n
    induction n with
    |zero=>intro q; omega
    | succ n ih =>
      intro _ hn
      rw [cnf]
      by_cases z:n=0
      · subst z
        have:=(cF (fun s=>[nth (clK m 0) s]) 0).1
        rw [if_pos (by omega)]; rfl
      · rw [ih (by omega) (by omega),if_neg fun q=>?_]
        have h3:=(cF (fun s=>[nth (clK m 0) s]) n).2.2 0 (by omega)
        refine h3 ?_
        show [nth (clK m 0) 0]=[nth (clK m 0) n]
        unfold clK
        rw [aY (by omega),aY (by omega)]
  exact this _ hp (Nat.le_refl _)
theorem aRW {m:M} (k:Nat):ctK m k≤m.nx.length:=rU _
theorem aDZ {m:M} (h:aV m=0) {k:Nat} (hc:ctK m k=ctK m (k+1)) {s t:Int} (hs:0≤s∧s < m.nx.length) (ht:0≤t∧t < m.nx.length):eqk m k s t→eqk m (k+1) s t:=fun e=>by
  have e1:=(lN h k (s:=s.toNat) (t:=t.toNat) (by omega) (by omega)).2 (by rw [Int.toNat_of_nonneg hs.1,Int.toNat_of_nonneg ht.1]; exact e)
  have:=aFz (fun s t hs ht=>aET h k hs ht) hc (s:=s.toNat) (t:=t.toNat) (by omega) (by omega) (by show [nth (clK m k) s.toNat]=_; rw [e1])
  have:=(lN h (k+1) (s:=s.toNat) (t:=t.toNat) (by omega) (by omega)).1 (List.cons.inj this).1
  rwa [Int.toNat_of_nonneg hs.1,Int.toNat_of_nonneg ht.1] at this
theorem qQ {m:M} (h:aV m=0) {k:Nat} (hc:ctK m k=ctK m (k+1)): ∀ (d:Nat) {s t:Int},0≤s∧s < m.nx.length→0≤t∧t < m.nx.length→eqk m k s t→eqk m (k+d) s t
  |0,_,_,_,_,e=>e
  | d + 1, s, t, hs, ht, e => fun a ha => by
    have e1:=aDZ h hc hs ht e a ha
    have h1:=nT h (s:=s) (x:=a) hs.1 hs.2 ha
    have h2:=nT h (s:=t) (x:=a) ht.1 ht.2 ha
    exact ⟨e1.1,qQ h hc d ⟨h1.1,h1.2.1⟩ ⟨h2.1,h2.2.1⟩ e1.2⟩
theorem wN {m:M} {k:Nat}: ∀ (d:Nat) {s t:Int},eqk m (k+d) s t→eqk m k s t
  |0,_,_,e=>e
  |d+1,_,_,e=>wN d (oZ e)
def eqv (m:M) (s t:Int):Prop:=eqk m m.nx.length s t
theorem aEX {m:M} (h:aV m=0): ∀ k,(∀ j,j < k→ctK m j≠ctK m (j+1))→k+1≤ctK m k
  |0,_=>by rw [aSd h]; exact Nat.le_refl _
  | k + 1, hn => by
    have:=aEX h k fun j hj=>hn j (by omega)
    have:=aK9 h k
    have:=hn k (by omega)
    omega
theorem uD {m:M} (h:aV m=0): ∃ k,k < m.nx.length∧ctK m k=ctK m (k+1):=by
  refine Decidable.byContradiction fun q=>?_
  have:=aEX h m.nx.length fun j hj e=>q ⟨j,hj,e⟩
  have:=aRW (m:=m) m.nx.length
  omega
theorem wA {m:M} (h:aV m=0) {k:Nat} (hc:ctK m k=ctK m (k+1)) {s t:Int} (hs:0≤s∧s < m.nx.length) (ht:0≤t∧t < m.nx.length):eqk m k s t↔eqv m s t:=by
  unfold eqv
  by_cases q:k≤m.nx.length
  · constructor
    · intro e
      have:=qQ h hc (m.nx.length - k) hs ht e
      rwa [show k+(m.nx.length - k)=m.nx.length by omega] at this
    · intro e
      exact wN (m.nx.length - k) (by rw [show k+(m.nx.length - k)=m.nx.length by omega]; exact e)
  · constructor
    · intro e
      exact wN (k - m.nx.length) (by rw [show m.nx.length+(k - m.nx.length)=k by omega]; exact e)
    · intro e
      obtain ⟨j,hj,hcj⟩:=uD h
      have e1:eqk m j s t:=wN (m.nx.length - j) (by rw [show j+(m.nx.length - j)=m.nx.length by omega]; exact e)
      have:=qQ h hcj (k - j) hs ht e1
      rwa [show j+(k - j)=k by omega] at this
theorem aBz {m:M} (h:aV m=0) {s t:Int} (hs:0≤s∧s < m.nx.length) (ht:0≤t∧t < m.nx.length) (e:eqv m s t) {a:Nat} (ha:a < m.i.toNat):otS m s a=otS m t a∧eqv m (nxS m s a) (nxS m t a):=by
  obtain ⟨j,hj,hcj⟩:=uD h
  have e1:=aDZ h hcj hs ht ((wA h hcj hs ht).2 e) a ha
  have h1:=nT h (s:=s) (x:=a) hs.1 hs.2 ha
  have h2:=nT h (s:=t) (x:=a) ht.1 ht.2 ha
  exact ⟨e1.1,(wA h hcj ⟨h1.1,h1.2.1⟩ ⟨h2.1,h2.2.1⟩).1 e1.2⟩
end Go.Proofs.YtmnnhjhkaepbaaaGreat
namespace Go.Proofs.YtmnnhjhkaepbaaaGreat
open Go
def idO (cc:Int→Int) (O:List Int) (t:Int):Int:=fi (fun j=>decide (cc (nth O j)=cc t)) 0 O.length
def stO (cc:Int→Int) (O:List Int) (t:Int):List Int:=if 0≤idO cc O t then O else O++[t]
section
variable {cc:Int→Int} {O A:List Int} {t:Int}
theorem qO:0≤idO cc O t↔ ∃ o∈O,cc o=cc t:=by
  constructor
  · intro h
    obtain ⟨j,h1,_,h3,h4,_⟩:=gQ h
    exact ⟨nth O j,aR (by omega),of_decide_eq_true h4⟩
  · rintro ⟨o,ho,e⟩
    obtain ⟨j,hj,rfl⟩:=dN ho
    exact lE (Nat.zero_le j) (by omega) (decide_eq_true e)
theorem aAB (h:0≤idO cc O t): ∃ j:Nat,idO cc O t=j∧j < O.length∧cc (nth O j)=cc t∧ ∀ i,i < j→cc (nth O i)≠cc t:=by
  obtain ⟨j,h1,_,h3,h4,h5⟩:=gQ h
  refine ⟨j,h1,by omega,of_decide_eq_true h4,fun i hi e=>?_⟩
  have:=h5 i (Nat.zero_le _) hi
  rw [decide_eq_true e] at this; cases this
theorem aIF (h: ¬0≤idO cc O t):idO cc O t= -1:=by
  have:=(aH5 (p:=fun j=>decide (cc (nth O j)=cc t)) O.length 0).1
  unfold idO at*; omega
theorem aIx {j:Nat} (hj:j < O.length) (h1:cc (nth O j)=cc t) (h2: ∀ i,i < j→cc (nth O i)≠cc t):idO cc O t=j:=by
  obtain ⟨i,g1,g2,g3,g4⟩:=aAB (qO.2 ⟨_,aR hj,h1⟩)
  rw [g1]
  rcases Nat.lt_trichotomy i j with q|q|q
  · exact absurd g3 (h2 i q)
  · rw [q]
  · exact absurd h1 (g4 j q)
theorem tJ (h:0≤idO cc O t):idO cc (O++A) t=idO cc O t:=by
  obtain ⟨j,g1,g2,g3,g4⟩:=aAB h
  rw [g1]
  exact aIx (by rw [List.length_append]; omega) (by rw [bE g2]; exact g3) fun i hi=>by rw [bE (by omega)]; exact g4 i hi
theorem aAA (h: ¬0≤idO cc O t):idO cc (O++[t]) t=O.length:=by
  refine aIx (by simp) (by
    have:=eX (l:=O) (m:=[t]) (j:=0)
    rw [Nat.add_zero] at this
    rw [this]; rfl) fun i hi e=>h (qO.2 ⟨nth O i,aR hi,by rwa [bE hi] at e⟩)
theorem rY {u:Int} (e:cc t=cc u):idO cc O t=idO cc O u:=by unfold idO; rw [e]
theorem aFa (O:List Int) (t:Int): ∃ y,stO cc O t=O++y:=by
  unfold stO; split
  · exact ⟨[],by simp⟩
  · exact ⟨_,rfl⟩
theorem aAl (O:List Int) (t:Int):0≤idO cc (stO cc O t) t:=by
  unfold stO; split
  · assumption
  · rename_i h; rw [aAA h]; omega
theorem fS: ∀ (w O:List Int),∃ y,w.foldl (stO cc) O=O++y
  |[],O=>⟨[],by simp⟩
  | a :: w, O => by
    obtain ⟨x,hx⟩:=fS w (stO cc O a)
    obtain ⟨y,hy⟩:=aFa (cc:=cc) O a
    exact ⟨y++x,by rw [List.foldl_cons,hx,hy,List.append_assoc]⟩
theorem lL: ∀ (w O:List Int),∀ a∈w,0≤idO cc (w.foldl (stO cc) O) a
  | b :: w, O, a, ha => by
    rcases List.mem_cons.1 ha with rfl|ha
    · obtain ⟨y,hy⟩:=fS (cc:=cc) w (stO cc O a)
      rw [List.foldl_cons,hy,tJ (aAl O a)]; exact aAl O a
    · exact lL w (stO cc O b) a ha
theorem nY: ∀ (w O:List Int),(∀ a∈w,0≤idO cc O a)→w.foldl (stO cc) O=O
  |[],O,_=>rfl
  | a :: w, O, h => by
    rw [List.foldl_cons,show stO cc O a=O from if_pos (h a (by simp))]
    exact nY w O fun b hb=>h b (List.mem_cons_of_mem _ hb)
theorem aJt (w:List Int): ∀ O,(w.foldl (stO cc) O).length≤O.length+w.length:=by
  induction w with
  |nil=>intro O; simp
  | cons a w ih =>
    intro O
    rw [List.foldl_cons]
    have h1:=ih (stO cc O a)
    have h2:(stO cc O a).length≤O.length+1:=by unfold stO; split <;> simp
    simp; omega
def ddM (cc:Int→Int) (L:List Int):List Int:=L.foldl (stO cc) []
theorem oY (L R:List Int):ddM cc (L++R)=R.foldl (stO cc) (ddM cc L):=List.foldl_append
theorem aEI {L : List Int} {t : Int} : 0 ≤ idO cc (ddM cc L) t ↔ ∃ o ∈ L, cc o = cc t := by
  constructor
  · intro h
    have key: ∀ (w O:List Int),(∃ o∈w.foldl (stO cc) O,cc o=cc t)→(∃ o∈O,cc o=cc t)∨ ∃ o∈w,cc o=cc t:=by
      intro w
      induction w with
      |nil=>intro O h; exact .inl h
      | cons a w ih =>
        intro O h
        rcases ih (stO cc O a) h with ⟨o,ho,e⟩|⟨o,ho,e⟩
        · unfold stO at ho
          split at ho
          · exact .inl ⟨o,ho,e⟩
          · rcases List.mem_append.1 ho with ho|ho
            · exact .inl ⟨o,ho,e⟩
            · rw [List.mem_singleton.1 ho] at e; exact .inr ⟨a,by simp,e⟩
        · exact .inr ⟨o,List.mem_cons_of_mem _ ho,e⟩
    rcases key L [] (qO.1 h) with ⟨o,ho,_⟩|h
    · cases ho
    · exact h
  · rintro ⟨o,ho,e⟩
    rw [← rY e]
    exact lL L [] o ho
end
def rwO (m:M) (cc:Int→Int) (O:List Int) (i:Nat):List Int:=(nth m.nx (nth O i).toNat).foldl (stO cc) O
def bfO (m:M) (cc:Int→Int):Nat→Nat→List Int→List Int
  |0,_,O=>O
  |n+1,i,O=>if i < O.length then bfO m cc n (i+1) (rwO m cc O i) else O
section
variable {m:M} {cc:Int→Int}
theorem aAe {n i:Nat} {O:List Int} (h:O.length≤i):bfO m cc n i O=O:=by
  cases n with
  |zero=>rfl
  |succ n=>rw [bfO,if_neg (by omega)]
theorem aGu {n i:Nat} {O:List Int} (h:i < O.length) (hn:i < n):bfO m cc (n - i) i O=bfO m cc (n - (i+1)) (i+1) (rwO m cc O i):=by
  rw [show n - i=(n - (i+1))+1 by omega,bfO,if_pos h]
theorem aAH: ∀ (n i:Nat) (O:List Int),∃ y,bfO m cc n i O=O++y
  |0,i,O=>⟨[],by simp [bfO]⟩
  | n + 1, i, O => by
    rw [bfO]; split
    · obtain ⟨x,hx⟩:=aAH n (i+1) (rwO m cc O i)
      obtain ⟨y,hy⟩:=fS (cc:=cc) (nth m.nx (nth O i).toNat) O
      exact ⟨y++x,by rw [hx]; show (nth m.nx (nth O i).toNat).foldl (stO cc) O++x=_; rw [hy,List.append_assoc]⟩
    · exact ⟨[],by simp⟩
theorem aBU {n:Nat}: ∀ {w:List Int} {P:RS},RI n P→(∀ a∈w,0≤a∧a < n)→ddM cc (w.foldl fT P).1=w.foldl (stO cc) (ddM cc P.1)
  |[],_,_,_=>rfl
  | a :: w, P, h, hw => by
    have ha:=hw a (by simp)
    rw [List.foldl_cons,List.foldl_cons,aBU (h.step ha.1 ha.2) fun b hb=>hw b (List.mem_cons_of_mem _ hb)]
    congr 1
    unfold fT
    split
    · rename_i q
      have:=(h.mem a ha.1 ha.2).1 q
      exact (if_pos (aEI.2 ⟨a,this,rfl⟩)).symm
    · rw [show ddM cc (P.1++[a],P.2.set a.toNat true).1=[a].foldl (stO cc) (ddM cc P.1) from oY P.1 [a]]; rfl
theorem aBi {L:List Int} {k:Nat} (hk:k≤L.length): ∃ y,ddM cc L=ddM cc (L.take k)++y:=by
  obtain ⟨y,hy⟩:=fS (cc:=cc) (L.drop k) (ddM cc (L.take k))
  exact ⟨y,by rw [← hy,← oY,List.take_append_drop]⟩
theorem aDd (h : aV m = 0) (hcc : ∀ s t : Int, 0 ≤ s → s < m.nx.length → 0 ≤ t → t < m.nx.length → cc s = cc t → ∀ a, a < m.i.toNat → cc (nxS m s a) = cc (nxS m t a)) : ∀ (n k i n' : Nat) (P : RS),
    RI m.nx.length P→k≤P.1.length→m.nx.length≤k+n→m.nx.length≤i+n'→i=(ddM cc (P.1.take k)).length→(∀ x,x < i→ ∀ a,a < m.i.toNat→0≤idO cc (ddM cc P.1) (nxS m (nth (ddM cc P.1) x) a))→
    bfO m cc n' i (ddM cc P.1)=ddM cc (gY m n k P).1
  | 0, k, i, n', P, hP, hk, hn, hn', hi, hcl => by
    have hPl:=hP.len
    have hkk:k=P.1.length:=by omega
    rw [gY]
    exact aAe (by rw [hi,hkk,List.take_length]; exact Nat.le_refl _)
  | n + 1, k, i, n', P, hP, hk, hn, hn', hi, hcl => by
    have hPl:=hP.len
    by_cases hkl:k < P.1.length
    · rw [gY, if_pos hkl]
      have hs:=hP.rng _ (aR hkl)
      have hrow:=zP h hs.1 hs.2
      have hR:RI m.nx.length (iM m P k):=hP.row h hkl
      have hf:ddM cc (iM m P k).1=(nth m.nx (nth P.1 k).toNat).foldl (stO cc) (ddM cc P.1):=aBU hP hrow
      obtain ⟨x,hx⟩:=iE (nth m.nx (nth P.1 k).toNat) P
      have hx:(iM m P k).1=P.1++x:=hx
      have htk:(iM m P k).1.take (k+1)=P.1.take k++[nth P.1 k]:=by
        rw [hx,List.take_append_of_le_length (by omega),bG hkl]
      have hddk:ddM cc ((iM m P k).1.take (k+1))=stO cc (ddM cc (P.1.take k)) (nth P.1 k):=by rw [htk,oY]; rfl
      obtain ⟨y,hy⟩:=aBi (cc:=cc) (L:=P.1) (k:=k) (by omega)
      by_cases hnew:0≤idO cc (ddM cc (P.1.take k)) (nth P.1 k)
      · -- the class came before
        obtain ⟨j,j1,j2,j3,_⟩:=aAB hnew
        have hO:nth (ddM cc P.1) j=nth (ddM cc (P.1.take k)) j:=by rw [hy,bE j2]
        have hj:j < i:=by omega
        have hsame:ddM cc (iM m P k).1=ddM cc P.1:=by
          rw [hf]
          refine nY _ _ fun a ha=>?_
          obtain ⟨b,hb,rfl⟩:=dN ha
          have hr:=(aAz h hs.1 hs.2).1
          have h1:=hcl j hj b (by omega)
          have hjm:nth (ddM cc P.1) j∈P.1:=by
            have key: ∀ (w O:List Int),(∀ z∈O,z∈P.1)→(∀ z∈w,z∈P.1)→ ∀ z∈w.foldl (stO cc) O,z∈P.1:=by
              intro w
              induction w with
              |nil=>intro O hO _ z hz; exact hO z hz
              | cons a w ih =>
                intro O hO hw z hz
                refine ih (stO cc O a) (fun z hz=>?_) (fun z hz=>hw z (List.mem_cons_of_mem _ hz)) z hz
                unfold stO at hz
                split at hz
                · exact hO z hz
                · rcases List.mem_append.1 hz with hz|hz
                  · exact hO z hz
                  · rw [List.mem_singleton.1 hz]; exact hw a (by simp)
            exact key P.1 [] (fun z hz=>by cases hz) (fun z hz=>hz) _ (aR (l:=ddM cc P.1) (by rw [hy,List.length_append]; omega))
          have hjr:=hP.rng _ hjm
          have e:=hcc _ _ hjr.1 hjr.2 hs.1 hs.2 (by rw [hO]; exact j3) b (by omega)
          rw [rY (show cc (nth (nth m.nx (nth P.1 k).toNat) b)=cc (nxS m (nth (ddM cc P.1) j) b) from e.symm)]
          exact h1
        rw [← hsame]
        refine aDd h hcc n (k+1) i n' (iM m P k) hR ?_ (by omega) hn' ?_ ?_
        · rw [hx,List.length_append]; omega
        · rw [hddk,show stO cc (ddM cc (P.1.take k)) (nth P.1 k)=ddM cc (P.1.take k) from if_pos hnew]; exact hi
        · rw [hsame]; exact hcl
      · have hst:stO cc (ddM cc (P.1.take k)) (nth P.1 k)=ddM cc (P.1.take k)++[nth P.1 k]:=if_neg hnew
        have hkk:ddM cc (P.1.take (k+1))=ddM cc (P.1.take k)++[nth P.1 k]:=by rw [bG hkl,oY]; exact hst
        obtain ⟨z,hz⟩:=aBi (cc:=cc) (L:=P.1) (k:=k+1) (by omega)
        have hil:i < (ddM cc P.1).length:=by rw [hz,hkk]; simp; omega
        have hOi:nth (ddM cc P.1) i=nth P.1 k:=by
          rw [hz,hkk,bE (by simp; omega),hi]
          have:=eX (l:=ddM cc (P.1.take k)) (m:=[nth P.1 k]) (j:=0)
          rw [Nat.add_zero] at this
          rw [this]; rfl
        have hlen:(ddM cc P.1).length≤P.1.length:=by have:=aJt (cc:=cc) P.1 []; simp only [List.length_nil,Nat.zero_add] at this; exact this
        obtain ⟨n',rfl⟩: ∃ z,n'=z+1:=⟨n' - 1,by omega⟩
        rw [bfO,if_pos hil]
        have hrw:rwO m cc (ddM cc P.1) i=ddM cc (iM m P k).1:=by rw [hf]; unfold rwO; rw [hOi]
        rw [hrw]
        refine aDd h hcc n (k+1) (i+1) n' (iM m P k) hR ?_ (by omega) (by omega) ?_ ?_
        · rw [hx,List.length_append]; omega
        · rw [hddk,hst]; simp; omega
        · intro x0 hx0 a ha
          rw [hf]
          obtain ⟨u,hu⟩:=fS (cc:=cc) (nth m.nx (nth P.1 k).toNat) (ddM cc P.1)
          by_cases e:x0 < i
          · have h1:=hcl x0 e a ha
            rw [hu,bE (by omega),tJ h1]; exact h1
          · have e:x0=i:=by omega
            subst e
            have hr:=(aAz h hs.1 hs.2).1
            have hmem:nxS m (nth P.1 k) a∈nth m.nx (nth P.1 k).toNat:=aR (by omega)
            have h2:=lL (cc:=cc) _ (ddM cc P.1) _ hmem
            rw [hu] at h2 ⊢
            rw [bE hil,hOi]; exact h2
    · have hkk:k=P.1.length:=by omega
      have hE:(gY m (n+1) k P)=P:=aAp (by omega)
      rw [hE]
      exact aAe (by rw [hi,hkk,List.take_length]; exact Nat.le_refl _)
end
end Go.Proofs.YtmnnhjhkaepbaaaGreat
namespace Go.Proofs.YtmnnhjhkaepbaaaGreat
open Go
def cCl (m:M) (t:Int):Int:=nth (clK m m.nx.length) t.toNat
def cRc (m:M) (k:Nat):List Int:=[cCl m (nth (rch m) k)]
def FK (m:M) (j:Nat):List Nat:=(List.range j).filter fun k=>decide (lsf (cRc m) k=k)
def oFn (m:M):List Int:=ddM (cCl m) (rch m)
def lO (m:M) (k:Nat):List Int:=tbl (fun a=>nmf (cRc m) (dG m k a).toNat) m.i.toNat
def mnM (m:M):M:=⟨m.i,0,(FK m (rch m).length).map (lO m),(FK m (rch m).length).map (tOt m)⟩
def mnR (m:M):M:=if aV m=0 then mnM m else zM
section
variable {m:M}
theorem tM (h:aV m=0) {s t:Int} (hs:0≤s∧s < m.nx.length) (ht:0≤t∧t < m.nx.length):cCl m s=cCl m t↔eqv m s t:=by
  have:=lN h m.nx.length (s:=s.toNat) (t:=t.toNat) (by omega) (by omega)
  rwa [Int.toNat_of_nonneg hs.1,Int.toNat_of_nonneg ht.1] at this
theorem aCp (h:aV m=0) (s t:Int) (s0:0≤s) (s1:s < m.nx.length) (t0:0≤t) (t1:t < m.nx.length) (e:cCl m s=cCl m t) (a:Nat) (ha:a < m.i.toNat):cCl m (nxS m s a)=cCl m (nxS m t a):=by
  have h1:=nT h (s:=s) (x:=a) s0 s1 ha
  have h2:=nT h (s:=t) (x:=a) t0 t1 ha
  exact (tM h ⟨h1.1,h1.2.1⟩ ⟨h2.1,h2.2.1⟩).2 (aBz h ⟨s0,s1⟩ ⟨t0,t1⟩ ((tM h ⟨s0,s1⟩ ⟨t0,t1⟩).1 e) ha).2
theorem pG (j:Nat):FK m (j+1)=if lsf (cRc m) j=j then FK m j++[j] else FK m j:=by
  unfold FK
  rw [List.range_succ,List.filter_append]
  split
  · rename_i e; simp [e]
  · rename_i e; simp [e]
theorem mS: ∀ j,(FK m j).length=cnf (cRc m) j
  |0=>rfl
  | j + 1 => by
    rw [pG,cnf]
    split
    · rw [List.length_append,mS j]; rfl
    · exact mS j
theorem aQ8 {j k:Nat}:k∈FK m j↔k < j∧lsf (cRc m) k=k:=by
  unfold FK; simp
theorem aLR: ∀ {j k:Nat},k < j→lsf (cRc m) k=k→cnf (cRc m) k < (FK m j).length∧nth (FK m j) (cnf (cRc m) k)=k
  |0,k,h,_=>by omega
  | j + 1, k, h, e => by
    rw [pG]
    by_cases q:k=j
    · subst q
      rw [if_pos e,← mS k]
      refine ⟨by simp,?_⟩
      have:=eX (l:=FK m k) (m:=[k]) (j:=0)
      rw [Nat.add_zero] at this
      rw [this]; rfl
    · obtain ⟨h1,h2⟩:=aLR (j:=j) (by omega) e
      split
      · exact ⟨by rw [List.length_append]; omega,by rw [bE h1]; exact h2⟩
      · exact ⟨h1,h2⟩
theorem aMd : ∀ {j : Nat}, j ≤ (rch m).length → ddM (cCl m) ((rch m).take j) = (FK m j).map (nth (rch m))
  |0,_=>rfl
  | j + 1, hj => by
    have ih:=aMd (j:=j) (by omega)
    rw [bG (by omega),oY]
    show stO (cCl m) (ddM (cCl m) ((rch m).take j)) (nth (rch m) j)=_
    have key:(0≤idO (cCl m) (ddM (cCl m) ((rch m).take j)) (nth (rch m) j))↔lsf (cRc m) j≠j:=by
      rw [aEI]
      obtain ⟨l1,l2,l3⟩:=cF (cRc m) j
      constructor
      · rintro ⟨o,ho,e⟩ q
        obtain ⟨x,hx,rfl⟩:=dN ho
        rw [List.length_take] at hx
        have hx:x < j:=by omega
        refine l3 x (by omega) ?_
        unfold cRc
        rw [← aO (by rw [List.length_take]; omega),List.getElem_take,aO] at e
        rw [e]
      · intro q
        refine ⟨nth (rch m) (lsf (cRc m) j),?_,(List.cons.inj l2).1⟩
        have:=aR (l:=(rch m).take j) (j:=lsf (cRc m) j) (by rw [List.length_take]; omega)
        rwa [← aO (by rw [List.length_take]; omega),List.getElem_take,aO] at this
    rw [pG]
    unfold stO
    by_cases q:lsf (cRc m) j=j
    · rw [if_neg (fun z=>key.1 z q),if_pos q,ih,List.map_append]; rfl
    · rw [if_pos (key.2 q),if_neg q,ih]
theorem aQl:oFn m=(FK m (rch m).length).map (nth (rch m)):=by
  unfold oFn
  have:=aMd (m:=m) (j:=(rch m).length) (Nat.le_refl _)
  rwa [List.take_length] at this
theorem aK5:(oFn m).length=cnf (cRc m) (rch m).length:=by rw [aQl,List.length_map,mS]
theorem aA4 (h:aV m=0):bfO m (cCl m) m.nx.length 0 [m.s]=oFn m:=by
  have e:rch m=(gY m m.nx.length 0 (kX m)).1:=if_neg (by omega)
  have e0:ddM (cCl m) (kX m).1=[m.s]:=rfl
  have:=aDd (cc:=cCl m) h (fun s t s0 s1 t0 t1 e a ha=>aCp h s t s0 s1 t0 t1 e a ha) m.nx.length 0 0 m.nx.length (kX m) (aAg h) (Nat.zero_le _) (by omega) (by omega) rfl (fun x hx=>absurd hx (Nat.not_lt_zero _))
  rw [e0] at this
  rw [this]; unfold oFn; rw [e]
def aK7 (m:M) (x a:Nat):Int:=idO (cCl m) (oFn m) (nxS m (nth (oFn m) x) a)
def aT0 (m:M) (x a:Nat):Int:=otS m (nth (oFn m) x) a
theorem tY (h:aV m=0):aV (trm m)=0:=by
  obtain ⟨h1,h2,h3,h4,h5,h6⟩:=aP8 h
  unfold aV
  have e:(trm m).s=0:=rfl
  rw [if_neg (by omega),if_neg (by omega),if_neg (by omega),if_neg (by omega),if_neg (by omega)]
  refine cU.2 fun s _ hs=>?_
  obtain ⟨g1,g2,g3⟩:=h6 s (by omega)
  unfold wT
  rw [if_neg (by omega)]
  refine cU.2 fun a _ ha=>?_
  have:=g3 a (by omega)
  unfold aAT
  rw [if_neg (by omega)]
theorem iG:(trm m).nx.length=(rch m).length:=List.length_map ..
theorem jD (h:aV m=0) {k a:Nat} (hk:k < (rch m).length) (ha:a < m.i.toNat):nxS (trm m) (k:Int) a=dG m k a∧(dG m k a).toNat < (rch m).length∧0≤dG m k a∧nth (rch m) (dG m k a).toNat=nxS m (nth (rch m) k) a:=by
  have hc:=iA h
  have hr:=hc.rng _ hk
  have hrow:=(aAz h hr.1 hr.2).1
  have hin:=hc.clo _ hk _ (aR (l:=nth m.nx (nth (rch m) k).toNat) (j:=a) (by omega))
  obtain ⟨q1,q2,q3⟩:=aAv hin
  exact ⟨aQr hk (show a < (nth m.nx (nth (rch m) k).toNat).length by omega),by show (idL _ _).toNat < _; omega,q1,q3⟩
theorem pM {k a:Nat} (hk:k < (rch m).length):otS (trm m) (k:Int) a=otS m (nth (rch m) k) a:=by
  unfold otS
  rw [Int.toNat_natCast,aNf hk]
theorem aAQ (h:aV m=0): ∀ (j:Nat) {x y:Nat},x < (rch m).length→y < (rch m).length→(eqk (trm m) j x y↔eqk m j (nth (rch m) x) (nth (rch m) y))
  |0,_,_,_,_=>Iff.rfl
  | j + 1, x, y, hx, hy => by
    have ei:(trm m).i=m.i:=rfl
    constructor
    · intro e a ha
      obtain ⟨e1,e2⟩:=e a (by rw [ei]; exact ha)
      obtain ⟨a1,a2,a3,a4⟩:=jD h hx ha
      obtain ⟨b1,b2,b3,b4⟩:=jD h hy ha
      rw [pM hx,pM hy] at e1
      rw [a1,b1,← Int.toNat_of_nonneg a3,← Int.toNat_of_nonneg b3] at e2
      refine ⟨e1,?_⟩
      rw [← a4,← b4]
      exact (aAQ h j a2 b2).1 e2
    · intro e a ha
      have ha:a < m.i.toNat:=ha
      obtain ⟨e1,e2⟩:=e a ha
      obtain ⟨a1,a2,a3,a4⟩:=jD h hx ha
      obtain ⟨b1,b2,b3,b4⟩:=jD h hy ha
      rw [pM hx,pM hy,a1,b1,← Int.toNat_of_nonneg a3,← Int.toNat_of_nonneg b3]
      refine ⟨e1,(aAQ h j a2 b2).2 ?_⟩
      rw [a4,b4]; exact e2
theorem aLu (h:aV m=0) {x y:Nat} (hx:x < (rch m).length) (hy:y < (rch m).length):eqv (trm m) x y↔eqv m (nth (rch m) x) (nth (rch m) y):=by
  have ht:=tY h
  have hl:=(iA h).len
  obtain ⟨k,hk,hc⟩:=uD ht
  rw [iG] at hk
  have hX:0≤(x:Int)∧(x:Int) < (trm m).nx.length:=by rw [iG]; omega
  have hY:0≤(y:Int)∧(y:Int) < (trm m).nx.length:=by rw [iG]; omega
  show _↔eqk m m.nx.length _ _
  rw [← aAQ h m.nx.length hx hy]
  constructor
  · intro e
    have e1:=(wA ht hc hX hY).2 e
    have:=qQ ht hc (m.nx.length - k) hX hY e1
    rwa [show k+(m.nx.length - k)=m.nx.length by omega] at this
  · intro e
    exact (wA ht hc hX hY).1 (wN (m.nx.length - k) (by rw [show k+(m.nx.length - k)=m.nx.length by omega]; exact e))
theorem aJ8 {m:M} (h:aV m=0): ∀ (j:Nat) {s:Nat},s < m.nx.length→nth (clK m j) s=nmf (fun x=>[nth (clK m j) x]) s
  | 0, s, hs => by
    have e:lsf (fun x=>[nth (clK m 0) x]) s=0:=by
      refine Decidable.byContradiction fun q=>?_
      refine (cF (fun x=>[nth (clK m 0) x]) s).2.2 0 (by omega) ?_
      show [nth (clK m 0) 0]=[nth (clK m 0) s]
      unfold clK
      rw [aY (by omega),aY hs]
    unfold nmf
    rw [e]
    unfold clK
    rw [aY hs]; rfl
  | j + 1, s, hs => by
    have e:nth (clK m (j+1)) s=nmf (rC m (clK m j)) s:=by rw [clK,aY hs]
    rw [e]
    refine uF (n:=m.nx.length) (fun s t hs ht=>?_) hs
    rw [clK,aY hs,aY ht]
    exact ⟨fun e=>by rw [lM.2 e],fun e=>lM.1 (List.cons.inj e).1⟩
theorem aK0 (h:aV m=0) {j:Nat} (hc:ctK (trm m) j=ctK (trm m) (j+1)):clK (trm m) j=tbl (nmf (cRc m)) (rch m).length:=by
  have ht:=tY h
  refine fZ (by rw [aDE,aU,iG]) fun s hs=>?_
  rw [aDE,iG] at hs
  rw [aY hs,aJ8 ht j (by rw [iG]; exact hs)]
  refine uF (n:=(rch m).length) (fun x y hx hy=>?_) hs
  have hr:=iA h
  have hX:0≤(x:Int)∧(x:Int) < (trm m).nx.length:=by rw [iG]; omega
  have hY:0≤(y:Int)∧(y:Int) < (trm m).nx.length:=by rw [iG]; omega
  have e1:=lN ht j (s:=x) (t:=y) (by rw [iG]; exact hx) (by rw [iG]; exact hy)
  have e2:=wA ht hc hX hY
  have e3:=aLu h hx hy
  have e4:=tM h (hr.rng x hx) (hr.rng y hy)
  have e5:[nth (clK (trm m) j) x]=[nth (clK (trm m) j) y]↔nth (clK (trm m) j) x=nth (clK (trm m) j) y:=⟨fun e=>(List.cons.inj e).1,fun e=>by rw [e]⟩
  have e6:cRc m x=cRc m y↔cCl m (nth (rch m) x)=cCl m (nth (rch m) y):=⟨fun e=>(List.cons.inj e).1,fun e=>by unfold cRc; rw [e]⟩
  rw [e5,e6,e1,e2,e3,e4]
end
end Go.Proofs.YtmnnhjhkaepbaaaGreat
namespace Go.Proofs.YtmnnhjhkaepbaaaGreat
open Go
abbrev KR:Nat:=38597363079105398474523661669562635951089994888546854679819194669304376546648
def oQ (k:List Int):V:=.agg (k.map iV)
def jP (l:List (List Int×Int)):List (List V):=[.nilp,.nilp]::l.map fun p=>[oQ p.1,iV p.2]
theorem aMz:tA 300 (KR - 3)=List.replicate 128 0:=by kernel_rfl
theorem wG: ∀ (n:Nat) {a b:List Int},a.length=n→b.length=n→bU (List.replicate n 0) (a.map iV) (b.map iV)=some (decide (a=b))
  |0,[],[],_,_=>rfl
  | n + 1, x :: a, y :: b, ha, hb => by
    have h:=wG n (a:=a) (b:=b) (by simpa using ha) (by simpa using hb)
    show (if IntKind.i64=IntKind.i64 then (bU (List.replicate n 0) (a.map iV) (b.map iV)).map (x==y&& ·) else none)=_
    rw [if_pos rfl,h,Option.map_some]
    congr 1
    refine Bool.eq_iff_iff.2 ?_
    simp
theorem aLz {a b:List Int} (ha:a.length=128) (hb:b.length=128):nV KR (oQ a) (oQ b)=some (decide (a=b)):=by
  show bU (tA 300 (KR - 3)) _ _=_
  rw [aMz,wG 128 ha hb]
theorem aHD {a:List Int} (ha:a.length=128):iW KR (oQ a)=true:=by
  show (bU (tA 300 (KR - 3)) _ _==some true)=true
  rw [aMz,wG 128 ha ha,decide_eq_true rfl]; rfl
theorem aG3 {k:List Int} (hk:k.length=128): ∀ (l:List (List Int×Int)) (_: ∀ p∈l,p.1.length=128) (i:Nat),∃ j,eL KR (oQ k) (l.map fun p=>[oQ p.1,iV p.2]) i=some ((l.find? fun p=>decide (k=p.1)).map fun p=>(j,iV p.2))
  |[],_,i=>⟨0,rfl⟩
  | p :: l, hl, i => by
    rw [List.map_cons,eL,aLz hk (hl p (List.mem_cons_self ..)),List.find?_cons]
    by_cases e:k=p.1
    · rw [decide_eq_true e]; exact ⟨i,rfl⟩
    · rw [decide_eq_false e]; exact aG3 hk l (fun q hq=>hl q (List.mem_cons_of_mem _ hq)) (i+1)
section
variable {ver:Nat} {k:List Int} {l:List (List Int×Int)}
theorem aTD (hk:k.length=128) (hl: ∀ p∈l,p.1.length=128):hU ⟨ver,true,true,bL,2,jP l⟩ ver KR (iV 0) (oQ k)=some (match l.find? fun p=>decide (k=p.1) with|some p=>(iV p.2,true)|none=>(iV 0,false)):=by
  obtain ⟨j,h⟩:=aG3 hk l hl 0
  unfold hU
  rw [if_pos (by simp [Blk.own,Blk.isM,bL,jP,aHD hk])]
  simp only [jP]
  rw [h]
  cases l.find? fun p=>decide (k=p.1) <;> rfl
theorem aUs {v:Int} (hk:k.length=128) (hl: ∀ p∈l,p.1.length=128) (h:(l.find? fun p=>decide (k=p.1))=none):lQ ⟨ver,true,true,bL,2,jP l⟩ ver KR (oQ k) (iV v)=some ⟨ver,true,true,bL,2,jP (l++[(k,v)])⟩:=by
  obtain ⟨j,g⟩:=aG3 hk l hl 0
  unfold lQ
  rw [if_pos (by simp [Blk.own,Blk.isM,bL,jP,aHD hk])]
  simp only [jP]
  rw [g,h]
  simp
theorem aUB:uZ ⟨ver,true,true,bL,2,jP l⟩ ver=some l.length:=by
  unfold uZ
  rw [if_pos (by simp [Blk.own,Blk.isM,bL,jP])]
  simp [jP]
end
def fE (f:Nat→List Int):Nat→List (List Int×Int)
  |0=>[]
  |s+1=>if lsf f s=s then fE f s++[(f s,((cnf f s:Nat):Int))] else fE f s
section
variable {f:Nat→List Int}
theorem aDc: ∀ s,(fE f s).length=cnf f s
  |0=>rfl
  | s + 1 => by
    rw [fE,cnf]
    split
    · rw [List.length_append,aDc s]; rfl
    · exact aDc s
theorem rF {p:List Int×Int}: ∀ {s},p∈fE f s→ ∃ t,t < s∧lsf f t=t∧p=(f t,((cnf f t:Nat):Int))
  |0,h=>by cases h
  | s + 1, h => by
    rw [fE] at h
    split at h
    · rename_i e
      rcases List.mem_append.1 h with h|h
      · obtain ⟨t,a,b⟩:=rF h; exact ⟨t,by omega,b⟩
      · rw [List.mem_singleton] at h; exact ⟨s,by omega,e,h⟩
    · obtain ⟨t,a,b⟩:=rF h; exact ⟨t,by omega,b⟩
theorem aHl: ∀ {s t:Nat},t < s→lsf f t=t→(f t,((cnf f t:Nat):Int))∈fE f s
  |0,_,h,_=>by omega
  | s + 1, t, h, e => by
    rw [fE]
    by_cases q:t=s
    · subst q; rw [if_pos e]; simp
    · have:=aHl (s:=s) (t:=t) (by omega) e
      split
      · exact List.mem_append_left _ this
      · exact this
theorem aDR (s:Nat):(fE f s).find? (fun p=>decide (f s=p.1))=if lsf f s=s then none else some (f s,nmf f s):=by
  obtain ⟨l1,l2,l3⟩:=cF f s
  split
  · rename_i e
    rw [List.find?_eq_none]
    intro p hp
    obtain ⟨t,a,b,rfl⟩:=rF hp
    simp only [decide_eq_true_eq]
    intro h
    exact l3 t (by omega) h.symm
  · rename_i e
    cases h:(fE f s).find? (fun p=>decide (f s=p.1)) with
    | none =>
      rw [List.find?_eq_none] at h
      have:=h _ (aHl (f:=f) (s:=s) (t:=lsf f s) (by omega) jU)
      simp [l2] at this
    | some p =>
      have h1:=List.find?_some h
      have h2:=List.mem_of_find?_eq_some h
      obtain ⟨t,a,b,rfl⟩:=rF h2
      have h3:f s=f t:=of_decide_eq_true h1
      have h4:lsf f s=lsf f t:=mX h3
      rw [← h3]
      unfold nmf
      rw [h4,b]
variable {ver:Nat}
theorem aTo {s:Nat} (hf: ∀ t,(f t).length=128):hU ⟨ver,true,true,bL,2,jP (fE f s)⟩ ver KR (iV 0) (oQ (f s))=some (iV (if lsf f s=s then 0 else nmf f s),decide (lsf f s≠s)):=by
  rw [aTD (hf s) (fun p hp=>by obtain ⟨t,_,_,rfl⟩:=rF hp; exact hf t),aDR]
  by_cases e:lsf f s=s
  · simp [e]
  · simp [e]
theorem aUo {s:Nat} (hf: ∀ t,(f t).length=128) (e:lsf f s=s):lQ ⟨ver,true,true,bL,2,jP (fE f s)⟩ ver KR (oQ (f s)) (iV ((cnf f s:Nat):Int))=some ⟨ver,true,true,bL,2,jP (fE f (s+1))⟩:=by
  rw [aUs (hf s) (fun p hp=>by obtain ⟨t,_,_,rfl⟩:=rF hp; exact hf t) (by rw [aDR,if_pos e]),fE,if_pos e]
theorem aQg {s:Nat} (e:lsf f s≠s):fE f (s+1)=fE f s:=by rw [fE,if_neg e]
theorem aT1 {s:Nat}:uZ ⟨ver,true,true,bL,2,jP (fE f s)⟩ ver=some (cnf f s):=by rw [aUB,aDc]
end
def sgA (m:M) (c:List Int) (s a k:Nat):Int:=if k < a then otS m s k else if 64≤k∧k < 64+a then nth c (nxS m s ((k - 64:Nat))).toNat else 0
def sgP (m:M) (c:List Int) (s a:Nat):List Int:=tbl (sgA m c s a) 128
def sgF (m:M) (c:List Int) (s:Nat):List Int:=sgP m c s m.i.toNat
def kF (l:List Int):List V:=l.map iV
theorem tI {m:M} {c:List Int} {s a:Nat}:(sgP m c s a).length=128:=aU _ _
theorem tW {m:M} {c:List Int} (s:Nat):(sgF m c s).length=128:=aU _ _
theorem aRA {m:M} {c:List Int} {s:Nat}:sgP m c s 0=List.replicate 128 0:=by
  refine List.ext_getElem (by rw [tI,List.length_replicate]) fun k h1 h2=>?_
  rw [List.getElem_replicate]
  have:(sgP m c s 0)[k]=nth (sgP m c s 0) k:=by unfold nth; rw [List.getD_eq_getElem?_getD,List.getElem?_eq_getElem h1]; rfl
  refine this.trans ?_
  unfold sgP
  rw [tI] at h1
  rw [aY h1]
  unfold sgA
  rw [if_neg (by omega),if_neg (by omega)]
theorem aE2 {f g:Nat→Int} {n k:Nat} {v:Int} (hk:k < n) (hv:g k=v) (h: ∀ j,j < n→j≠k→g j=f j):(tbl f n).set k v=tbl g n:=by
  refine List.ext_getElem (by rw [List.length_set,aU,aU]) fun j h1 h2=>?_
  rw [aU] at h2
  have e2:(tbl g n)[j]'(by rw [aU]; exact h2)=g j:=by
    have:=aY (f:=g) h2
    unfold nth at this
    rwa [List.getD_eq_getElem?_getD,List.getElem?_eq_getElem (by rw [aU]; exact h2)] at this
  have e1:(tbl f n)[j]'(by rw [aU]; exact h2)=f j:=by
    have:=aY (f:=f) h2
    unfold nth at this
    rwa [List.getD_eq_getElem?_getD,List.getElem?_eq_getElem (by rw [aU]; exact h2)] at this
  rw [List.getElem_set,e2]
  split
  · rename_i e; subst e; exact hv.symm
  · rename_i e; rw [e1,h j h2 (fun x=>e x.symm)]
theorem aIi {m : M} {c : List Int} {s a : Nat} (ha : a < 64) : ((sgP m c s a).set a (otS m s a)).set (64 + a) (nth c (nxS m s a).toNat) = sgP m c s (a + 1) := by
  unfold sgP
  rw [aE2 (f:=sgA m c s a) (g:=fun k=>if k=a then otS m s a else sgA m c s a k) (by omega) (if_pos rfl) (fun j _ hj=>if_neg hj)]
  refine aE2 (by omega) ?_ fun j hj hne=>?_
  · unfold sgA
    rw [if_neg (by omega),if_pos (by omega),show (64+a - 64:Nat)=a by omega]
  · unfold sgA
    by_cases e:j=a
    · subst e; rw [if_pos (by omega),if_pos rfl]
    · by_cases q:j < a
      · rw [if_pos (by omega),if_neg e,if_pos q]
      · rw [if_neg (by omega),if_neg e,if_neg q]
        by_cases z:64≤j∧j < 64+a
        · rw [if_pos (by omega),if_pos z]
        · rw [if_neg (by omega),if_neg z]
theorem aD0 {m:M} {c:List Int} (hi:m.i.toNat≤64) {s t:Nat}:sgF m c s=sgF m c t↔rC m c s=rC m c t:=by
  rw [aC3]
  unfold sgF sgP
  rw [oW]
  constructor
  · intro h a ha
    have h1:=h a (by omega)
    have h2:=h (64+a) (by omega)
    unfold sgA at h1 h2
    rw [if_pos ha,if_pos ha] at h1
    rw [if_neg (by omega),if_pos (by omega),if_neg (by omega),if_pos (by omega),show (64+a - 64:Nat)=a by omega] at h2
    exact ⟨h1,h2⟩
  · intro h k hk
    unfold sgA
    by_cases q:k < m.i.toNat
    · rw [if_pos q,if_pos q]; exact (h k q).1
    · rw [if_neg q,if_neg q]
      by_cases z:64≤k∧k < 64+m.i.toNat
      · rw [if_pos z,if_pos z]; exact (h (k - 64) (by omega)).2
      · rw [if_neg z,if_neg z]
theorem aJR {m:M} (h:aV m=0) (hi:m.i.toNat≤64) (k:Nat):tbl (nmf (sgF m (clK m k))) m.nx.length=clK m (k+1)∧cnf (sgF m (clK m k)) m.nx.length=ctK m (k+1):=by
  refine ⟨?_,?_⟩
  · rw [← aNg h k]
    refine oW.2 fun s hs=>uF (n:=m.nx.length) (fun s t hs ht=>?_) hs
    rw [aD0 hi,aL6 h k hs ht]
  · rw [aKy]
    exact uB (n:=m.nx.length) (fun s t hs ht=>aD0 hi) (Nat.le_refl _)
def aCb (m:M):Nat→Nat→Nat
  |0,k=>k
  |n+1,k=>if ctK m k=ctK m (k+1) then k else aCb m n (k+1)
def tB (m:M):Nat:=aCb m m.nx.length 0
theorem aEJ {m:M}: ∀ {n k j:Nat},k≤j→j < k+n→ctK m j=ctK m (j+1)→ctK m (aCb m n k)=ctK m (aCb m n k+1)∧aCb m n k≤j∧k≤aCb m n k∧ ∀ i,k≤i→i < aCb m n k→ctK m i≠ctK m (i+1)
  |0,k,j,h1,h2,_=>by omega
  | n + 1, k, j, h1, h2, hj => by
    unfold aCb
    by_cases e:ctK m k=ctK m (k+1)
    · rw [if_pos e]; exact ⟨e,h1,Nat.le_refl _,fun i a b=>by omega⟩
    · rw [if_neg e]
      have hne:k≠j:=fun q=>e (q ▸ hj)
      obtain ⟨a,b,c,d⟩:=aEJ (n:=n) (k:=k+1) (j:=j) (by omega) (by omega) hj
      refine ⟨a,b,by omega,fun i hi hi2=>?_⟩
      by_cases q:i=k
      · subst q; exact e
      · exact d i (by omega) hi2
theorem aGV {m:M} (h:aV m=0):tB m < m.nx.length∧ctK m (tB m)=ctK m (tB m+1)∧ ∀ i,i < tB m→ctK m i≠ctK m (i+1):=by
  obtain ⟨j,hj,hc⟩:=uD h
  obtain ⟨a,b,_,d⟩:=aEJ (m:=m) (n:=m.nx.length) (k:=0) (j:=j) (by omega) (by omega) hc
  exact ⟨by unfold tB; omega,a,fun i hi=>d i (by omega) hi⟩
end Go.Proofs.YtmnnhjhkaepbaaaGreat
namespace Go.Proofs.YtmnnhjhkaepbaaaGreat
open Go
section
variable {P:Program} {k0:Nat} {K:(Nat→V)→aF→Prop} {T:Nat→V} {H:aF} {r:List SO} {d:Nat}
theorem aGt {i n ty m:Nat} {z:List V} {rows:List (List V)} (hi:k0+d=i) (hv:(H i).ver=n) (hm:z.length=m) (hz:[z]=rows) (h:Ops P k0 r (upd T d (.mp i (n+1) 0 0)) (upd H i ⟨n+1,true,false,ty,m,rows⟩) K):Ops P k0 (⟨none,some d,.alloc ty z⟩::r) T H K:=by
  subst hi; subst hv; subst hm; subst hz; exact h
end
theorem ldR {ver ty:Nat} {l:List Int} (h:l.length=128):ldB true 128 ⟨ver,true,false,ty,128,[l].map kF⟩ ver 0 0=some (oQ l):=by
  unfold ldB
  rw [if_pos (by simp [Blk.own])]
  simp only [List.map_cons,List.map_nil,List.getElem?_cons_zero,Option.bind_some,List.drop_zero,ldV]
  have e:(kF l).length=128:=by rw [kF,List.length_map,h]
  rw [if_pos (by omega),← e,List.take_length,if_pos (by simp [kF,iV,V.one]),if_pos trivial]; rfl
theorem stR {ver ty a:Nat} {l:List Int} {n:Int} (ha:a < l.length):stB ⟨ver,true,false,ty,128,[l].map kF⟩ ver 0 a 1 [iV n]=some ⟨ver,true,false,ty,128,[l.set a n].map kF⟩:=by
  unfold stB
  rw [if_pos (by simp [okB,Blk.own]),if_pos (show [iV n].length=1 from rfl),if_pos (show [iV n].all V.one=true from rfl)]
  simp only [List.map_cons,List.map_nil,List.getElem?_cons_zero]
  rw [if_pos (by rw [kF,List.length_map]; omega)]
  simp [dZ,kF,List.map_set]
theorem aUi {ver ty:Nat} {m:M} {c:List Int} {k j:Nat} (hj:j < 64):stB ⟨ver,true,false,ty,128,[(sgP m c k j).set j (nth (nth m.ot k) j)].map kF⟩ ver 0 (64+j) 1 [iV (nth c (nth (nth m.nx k) j).toNat)]=some ⟨ver,true,false,ty,128,[sgP m c k (j+1)].map kF⟩:=by
  rw [stR (by rw [List.length_set,tI]; omega),← aIi hj]; rfl
theorem aTb {m:M}:clK m 0=List.replicate m.nx.length 0:=by
  show tbl (fun _=>(0:Int)) m.nx.length=_
  unfold tbl
  rw [List.map_const',List.length_range]
def clP (m:M):List Int:=if aV m=0 then clK m (tB m) else []
def clR (m:M):List Int:=if aV m=0 then clK m m.nx.length else []
def FnQ (f:Nat→List Int) (k i:Nat) (q:Int):Prop:=(q= -1∧ ∀ t,i≤t→t < k→f t≠f k)∨(q=nmf f k∧ ∃ t,t < k∧f t=f k)
theorem FnQ.no {f:Nat→List Int} {k i:Nat} {q:Int} (hq:FnQ f k i q) (h:f (i - 1)≠f k) (hi:1≤i∧i≤k):FnQ f k (i - 1) q:=by
  rcases hq with ⟨a,b⟩|⟨a,b⟩
  · refine .inl ⟨a,fun t h1 h2=>?_⟩
    by_cases e:t=i - 1
    · rw [e]; exact h
    · exact b t (by omega) h2
  · exact .inr ⟨a,b⟩
theorem FnQ.new {f:Nat→List Int} {k:Nat} {q:Int} (hq:FnQ f k 0 q) (h:q < 0):lsf f k=k∧nmf f k=((cnf f k:Nat):Int):=by
  have e:lsf f k=k:=by
    obtain ⟨l1,l2,_⟩:=cF f k
    rcases hq with ⟨_,b⟩|⟨a,_⟩
    · refine Classical.byContradiction fun z=>b (lsf f k) (Nat.zero_le _) (by omega) l2
    · have:=(aBf (f:=f) (show k < k+1 by omega)).1
      omega
  exact ⟨e,rD e⟩
def FnB (m:M) (c:List Int) (k t j:Nat) (b:Bool):Prop:=b=true↔nth c k=nth c t∧ ∀ a,a < j→otS m k a=otS m t a∧nth c (nxS m k a).toNat=nth c (nxS m t a).toNat
theorem FnB.fin {m:M} {c:List Int} {k t j:Nat} {b:Bool} (hb:FnB m c k t j b) (h:m.i.toNat≤j∨b=false) (hj:j≤m.i.toNat):b=true↔fgC m c t=fgC m c k:=by
  unfold FnB at hb
  rw [hb]
  unfold fgC
  rw [List.cons.injEq,aC3]
  constructor
  · intro z
    rcases h with h|h
    · exact ⟨z.1.symm,fun a ha=>by obtain ⟨p,q⟩:=z.2 a (by omega); exact ⟨p.symm,q.symm⟩⟩
    · exact absurd (hb.2 z) (by rw [h]; decide)
  · intro z
    exact ⟨z.1.symm,fun a ha=>by obtain ⟨p,q⟩:=z.2 a (by omega); exact ⟨p.symm,q.symm⟩⟩
theorem aJd {H:aF} {id id2 ver v2 ty ty2 off len sz sz2:Nat} {lz lz2:Bool} {β:Type} {rows0:List (List V)} {r:List V} {m:List β} {g:β→List V} (hne:id2≠id) (h1:H id=⟨ver,true,lz,ty,sz,m.map g⟩) (h2:H id2=⟨v2,true,lz2,ty2,sz2,rows0++[r]⟩)
    (hl:len=m.length) (hc:r[off]?=some (.ms id ver 0 len)) {K:(Nat→V)→aF→Prop} {T:Nat→V} (h:G K (fzT id H T) (upd (iT id H) id2 ⟨v2,true,lz2,ty2,sz2,rows0++[r.set off (.sl (m.map g))]⟩)):G K T H:=by
  subst hl
  have hr:(H id2).rows[rows0.length]?=some r:=by rw [h2]; simp
  refine .frzCell id ver m.length id2 rows0.length off r hne (by rw [h1]) (by rw [h1]) (by rw [h2]; cases rows0 <;> simp [Blk.own]) hr hc ?_
  have e:({H id2 with rows:=(H id2).rows.set rows0.length (r.set off (.sl ((H id).rows.take m.length)))}:Blk)=⟨v2,true,lz2,ty2,sz2,rows0++[r.set off (.sl (m.map g))]⟩:=by
    rw [h2,h1]
    simp only [List.set_append_right _ _ (Nat.le_refl _),Nat.sub_self,List.set_cons_zero]
    rw [show m.length=(m.map g).length from (List.length_map ..).symm,List.take_length]
  rw [e]
  exact h
theorem aKR {v ty sz:Nat} {lz:Bool} {α:Type} {f:α→List V} {l:List α} {x:α} {r:List V} (h:f x=r):(⟨v,true,lz,ty,sz,l.map f++[r]⟩:Blk)=⟨v,true,lz,ty,sz,(l++[x]).map f⟩:=by rw [List.map_append,← h]; rfl
end Go.Proofs.YtmnnhjhkaepbaaaGreat
namespace Go.Proofs.YtmnnhjhkaepbaaaGreat
open Go
theorem aSR {m:M}: ∀ (k:Nat) {s:Nat},s < m.nx.length→0≤nth (clK m k) s∧nth (clK m k) s < m.nx.length
  | 0, s, hs => by
    unfold clK
    rw [aY hs]
    exact ⟨by omega,by omega⟩
  | k + 1, s, hs => by
    unfold clK
    rw [aY hs]
    have h1:=aBf (f:=rC m (clK m k)) hs
    have h2:=rU (f:=rC m (clK m k)) m.nx.length
    omega
def NmI (m:M) (O N:List Int):Prop:=N.length=m.nx.length∧ ∀ t:Int,0≤t→t < m.nx.length→nth N (nth (clR m) t.toNat).toNat=idO (cCl m) O t
section
variable {m:M} {O N:List Int}
theorem vA (h:aV m=0) (t:Int):nth (clR m) t.toNat=cCl m t:=by unfold clR cCl; rw [if_pos h]
theorem aAO (h:aV m=0) {t:Int} (h0:0≤t) (h1:t < m.nx.length):0≤nth (clR m) t.toNat∧nth (clR m) t.toNat < m.nx.length:=by
  rw [vA h]
  exact aSR _ (by omega)
theorem aFj {cc:Int→Int} {t u:Int} (h:cc t≠cc u):idO cc (O++[t]) u=idO cc O u:=by
  by_cases q:0≤idO cc O u
  · exact tJ q
  · rw [aIF q]
    refine aIF fun z=>?_
    obtain ⟨o,ho,e⟩:=qO.1 z
    rcases List.mem_append.1 ho with ho|ho
    · exact q (qO.2 ⟨o,ho,e⟩)
    · rw [List.mem_singleton] at ho; subst ho; exact h e
theorem aI3 (hm:aV m=0) (h:NmI m O N) {t:Int} (h0:0≤t) (h1:t < m.nx.length) (hn: ¬0≤idO (cCl m) O t):NmI m (O++[t]) (N.set (nth (clR m) t.toNat).toNat ((O.length:Nat):Int)):=by
  obtain ⟨hl,hv⟩:=h
  have rt:=aAO hm h0 h1
  refine ⟨by rw [List.length_set]; exact hl,fun u u0 u1=>?_⟩
  have ru:=aAO hm u0 u1
  rw [fX (by omega)]
  by_cases e:cCl m t=cCl m u
  · rw [if_pos (by rw [vA hm,vA hm,e]),← rY e,aAA hn]
  · rw [aFj e,← hv u u0 u1]
    refine if_neg fun z=>e ?_
    rw [← vA hm,← vA hm]
    omega
def ROI (m:M) (i:Nat) (O N:List Int):Prop:=i≤O.length∧(∀ t∈O,0≤t∧t < m.nx.length)∧NmI m O N∧(∃ y,oFn m=O++y)∧bfO m (cCl m) m.nx.length 0 [m.s]=bfO m (cCl m) (m.nx.length - i) i O
theorem aHd (hm:aV m=0):(rch m).length≤m.nx.length:=(iA hm).len
theorem aIH (hm:aV m=0):(oFn m).length≤m.nx.length:=by
  rw [aK5]
  exact Nat.le_trans (rU _) (aHd hm)
theorem ROI.len (hm:aV m=0) {i:Nat} (h:ROI m i O N):O.length≤m.nx.length:=by
  obtain ⟨y,hy⟩:=h.2.2.2.1
  have:=aIH hm
  rw [hy,List.length_append] at this
  omega
theorem ROI.at (hm:aV m=0) {i:Nat} (h:ROI m i O N) (hi:i < O.length):nth (oFn m) i=nth O i∧0≤nth O i∧nth O i < m.nx.length:=by
  obtain ⟨y,hy⟩:=h.2.2.2.1
  exact ⟨by rw [hy,bE hi],h.2.1 _ (aR hi)⟩
def RQI (m:M) (i j:Nat) (O Q N:List Int):Prop:=Q=((nth m.nx (nth O i).toNat).take j).foldl (stO (cCl m)) O∧(∀ t∈Q,0≤t∧t < m.nx.length)∧NmI m Q N∧O.length≤Q.length∧nth Q i=nth O i
variable {i j:Nat} {Q N2:List Int}
theorem RQI.step (hm:aV m=0) (hO:ROI m i O N) (hi:i < O.length) (h:RQI m i j O Q N2) (hj:(j:Int) < m.i):
    let t:=nth (nth m.nx (nth Q i).toNat) j
    let x:=(nth (clR m) t.toNat).toNat
    (nth N2 x < 0→RQI m i (j+1) O (Q++[t]) (N2.set x ((Q.length:Nat):Int))∧nth (N2.set x ((Q.length:Nat):Int)) x=aK7 m i j)∧
    (¬nth N2 x < 0→RQI m i (j+1) O Q N2∧nth N2 x=aK7 m i j)∧Q.length≤m.nx.length:=by
  intro t x
  have mo:=bK hm
  obtain ⟨a1,a2,a3⟩:=hO.at hm hi
  obtain ⟨q1,q2,q3,q4,q5⟩:=h
  have rr:=mo.2.2.2.2.2.2.2 (nth O i).toNat (by omega)
  have et:t=nxS m (nth O i) j:=by show nth (nth m.nx (nth Q i).toNat) j=_; rw [q5]; rfl
  have e0:t=nth (nth m.nx (nth O i).toNat) j:=et
  have tr:0≤t∧t < m.nx.length:=by rw [e0]; have z:=rr.2.2 j hj; omega
  have xr:=aAO hm tr.1 tr.2
  have hx:nth N2 x=idO (cCl m) Q t:=q3.2 t tr.1 tr.2
  have st:((nth m.nx (nth O i).toNat).take (j+1)).foldl (stO (cCl m)) O=stO (cCl m) Q t:=by
    rw [bG (by omega),List.foldl_append,← q1,← e0]; rfl
  obtain ⟨y,hy⟩: ∃ y,oFn m=stO (cCl m) Q t++y:=by
    have g:oFn m=bfO m (cCl m) (m.nx.length - (i+1)) (i+1) (rwO m (cCl m) O i):=by
      rw [← aA4 hm,hO.2.2.2.2,aGu hi (by have:=hO.len hm; omega)]
    obtain ⟨y1,h1⟩:=aAH (m:=m) (cc:=cCl m) (m.nx.length - (i+1)) (i+1) (rwO m (cCl m) O i)
    have h2: ∃ y2,rwO m (cCl m) O i=stO (cCl m) Q t++y2:=by
      unfold rwO
      rw [← List.take_append_drop (j+1) (nth m.nx (nth O i).toNat),List.foldl_append,st]
      exact fS _ _
    obtain ⟨y2,h2⟩:=h2
    exact ⟨y2++y1,by rw [g,h1,h2,List.append_assoc]⟩
  have hr:aK7 m i j=idO (cCl m) (stO (cCl m) Q t) t:=by
    unfold aK7
    rw [a1,← et,hy,tJ (aAl _ _)]
  refine ⟨fun hn=>?_,fun hn=>?_,?_⟩
  · rw [hx] at hn
    have es:stO (cCl m) Q t=Q++[t]:=by unfold stO; rw [if_neg (by omega)]
    refine ⟨⟨by rw [st,es],fun u hu=>?_,aI3 hm q3 tr.1 tr.2 (by omega),by rw [List.length_append]; omega,by rw [bE (by omega)]; exact q5⟩,?_⟩
    · rcases List.mem_append.1 hu with hu|hu
      · exact q2 u hu
      · rw [List.mem_singleton] at hu; subst hu; exact tr
    · rw [fX (by rw [q3.1]; show (nth (clR m) t.toNat).toNat < _; omega),if_pos rfl,hr,es,aAA (by omega)]
  · rw [hx] at hn
    have es:stO (cCl m) Q t=Q:=by unfold stO; rw [if_pos (by omega)]
    exact ⟨⟨by rw [st,es],q2,q3,q4,q5⟩,by rw [hx,hr,es]⟩
  · obtain ⟨z,hz⟩:=aFa (cc:=cCl m) Q t
    have h1:=aIH hm
    rw [hy,hz,List.length_append,List.length_append] at h1
    omega
theorem RQI.out (hm:aV m=0) (hO:ROI m i O N) (hi:i < O.length) (h:RQI m i j O Q N2):nth (nth m.ot (nth Q i).toNat) j=aT0 m i j:=by
  obtain ⟨a1,_⟩:=hO.at hm hi
  unfold aT0 otS
  rw [a1,h.2.2.2.2]
theorem RQI.fin (hm:aV m=0) (hO:ROI m i O N) (hi:i < O.length) (h:RQI m i j O Q N2) (hj: ¬(j:Int) < m.i):ROI m (i+1) Q N2:=by
  have mo:=bK hm
  obtain ⟨a1,a2,a3⟩:=hO.at hm hi
  obtain ⟨q1,q2,q3,q4,q5⟩:=h
  have rr:=mo.2.2.2.2.2.2.2 (nth O i).toNat (by omega)
  have e:Q=rwO m (cCl m) O i:=by rw [q1]; unfold rwO; rw [List.take_of_length_le (by omega)]
  have g:=hO.2.2.2.2
  rw [aGu hi (by have:=hO.len hm; omega),← e] at g
  refine ⟨by omega,q2,q3,?_,g⟩
  obtain ⟨y,hy⟩:=aAH (m:=m) (cc:=cCl m) (m.nx.length - (i+1)) (i+1) Q
  exact ⟨y,by rw [← aA4 hm,g,hy]⟩
theorem ROI.end (hm:aV m=0) (h:ROI m i O N) (hi:O.length≤i):i=(oFn m).length:=by
  have e:i=O.length:=Nat.le_antisymm h.1 hi
  have g:=h.2.2.2.2
  rw [aAe hi,aA4 hm] at g
  rw [g]; exact e
end
def kQ (m:M) (k a:Nat):Int:=nmf (cRc m) (dG m k a).toNat
theorem aNl {m:M} {k:Nat} (h:nmf (cRc m) k < ((cnf (cRc m) k:Nat):Int)):FK m (k+1)=FK m k:=by
  rw [pG,if_neg fun e=>by rw [rD e] at h; omega]
theorem aQY {m:M} {k:Nat} (h: ¬nmf (cRc m) k < ((cnf (cRc m) k:Nat):Int)):FK m (k+1)=FK m k++[k]:=by
  rw [pG]
  by_cases e:lsf (cRc m) k=k
  · rw [if_pos e]
  · exact absurd (aJm e).2 h
theorem aGb {m:M} (hm:aV m=0):aV (trR m)=0∧(trR m).i=m.i∧(clP (trR m)).length=(rch m).length∧(trR m).nx.length=(rch m).length∧(trR m).ot.length=(rch m).length∧
    ∀ k, k < (rch m).length → nth (clP (trR m)) k = nmf (cRc m) k ∧ nth (trR m).nx k = tNx m k ∧ nth (trR m).ot k = tOt m k ∧ (tNx m k).length = m.i.toNat ∧ (tOt m k).length = m.i.toNat ∧
      ∀ a,a < m.i.toNat→nth (tNx m k) a=dG m k a∧0≤dG m k a∧(dG m k a).toNat < (rch m).length:=by
  have ht:trR m=trm m:=by unfold trR; rw [if_pos hm]
  have hv:=tY hm
  have hc:clP (trm m)=tbl (nmf (cRc m)) (rch m).length:=by
    unfold clP
    rw [if_pos hv]
    exact aK0 hm (aGV hv).2.1
  rw [ht]
  refine ⟨hv,by rw [fM hm],by rw [hc,aU],by rw [fM hm]; exact aU _ _,by rw [fM hm]; exact aU _ _,fun k hk=>⟨by rw [hc,aY hk],by rw [fM hm]; exact aY hk,by rw [fM hm]; exact aY hk,aU _ _,aU _ _,fun a ha=>?_⟩⟩
  obtain ⟨h1,h2,h3,_⟩:=jD hm hk ha
  exact ⟨aY ha,h3,h2⟩
end Go.Proofs.YtmnnhjhkaepbaaaGreat
namespace Go.Proofs.YtmnnhjhkaepbaaaGreat
open Go
section
variable {m:M} {tg:List Int}
end
def ggr (m:M):Bool:=decide (12 < m.nx.length∨12 < m.ot.length∨6 < m.i)
end Go.Proofs.YtmnnhjhkaepbaaaGreat
namespace Go.Proofs.YtmnnhjhkaepbaaaGreat
open Go Go.Proofs
theorem zR (m:M):aS Tryz.prog 8 [(V.agg [(iV m.i),(iV m.s),(aD m.nx),(aD m.ot)])] (V.bool (ggr m)):=by
 refine pW Tryz.func8 aTl fun hB=>?_
 unfold s8
 dsimp only
 refine W_r (eU (i:=1) (n:=0) (m:=4) (cs:=[(iV m.i),(iV m.s),(aD m.nx),(aD m.ot)]) rfl (cVq rfl) rfl rfl rfl (aA rfl (R_e (W_r (bR rfl rfl (bD rfl rfl rfl rfl (bI rfl ?_)))))))
 refine jV rfl rfl (aA rfl ?_)
 refine cC 5 (fun T H=>T 1=(mPq 1)∧T 12=(V.bool (decide (((12:Int) < ((m.nx.length:Nat):Int))∨((12:Int) < ((m.ot.length:Nat):Int)))))∧H 1=(bMq m)∧True) ?_ ?_
 ·
  by_cases g1:(12:Int) < ((m.nx.length:Nat):Int)
  ·
   refine G_n (edT g1 rfl) (G_n (edT g1 rfl) (G_n (edT g1 rfl) (G_n (edT g1 rfl) (bZ (edT g1 rfl) rfl ?_))))
   exact ⟨rfl,(eQ g1),rfl,trivial⟩
  ·
   refine aT (edF g1 rfl) (bR rfl rfl (aT (edF g1 rfl) (bD rfl rfl rfl rfl (aT (edF g1 rfl) (bI rfl (aT (edF g1 rfl) (jV rfl rfl ?_)))))))
   refine cD (edF g1 rfl) rfl ?_
   exact ⟨rfl,(eO g1),rfl,trivial⟩
 intro T H ⟨t1,t12,h1,_⟩
 refine aA t12 ?_
 refine cC 4 (fun T H=>T 17=(V.bool (decide ((((12:Int) < ((m.nx.length:Nat):Int))∨((12:Int) < ((m.ot.length:Nat):Int)))∨((6:Int) < m.i))))∧H 1=(bMq m)∧True) ?_ ?_
 ·
  by_cases g2:((12:Int) < ((m.nx.length:Nat):Int))∨((12:Int) < ((m.ot.length:Nat):Int))
  ·
   refine G_n (edT g2 rfl) (G_n (edT g2 rfl) (G_n (edT g2 rfl) (bZ (edT g2 rfl) rfl ?_)))
   exact ⟨(eQ g2),h1,trivial⟩
  ·
   refine aT (edF g2 rfl) (bR t1 h1 (aT (edF g2 rfl) (bD rfl h1 rfl rfl (aT (edF g2 rfl) (jV rfl rfl (cD (edF g2 rfl) rfl ?_))))))
   exact ⟨(eO g2),h1,trivial⟩
 intro T H ⟨t17,h1,_⟩
 refine aA t17 (R_e (bH ?_))
 refine bS (rVq (V.bool (decide ((((12:Int) < ((m.nx.length:Nat):Int))∨((12:Int) < ((m.ot.length:Nat):Int)))∨((6:Int) < m.i))))) (eM ?_)
 · unfold ggr; exact decide_eq_decide.2 (by omega)
end Go.Proofs.YtmnnhjhkaepbaaaGreat
namespace Go.Proofs.YtmnnhjhkaepbaaaGreat
open Go
inductive TT where
  |lf (v:V)
  |nd (l r:TT)
noncomputable def TT.get (t:TT):Nat→V:=TT.rec (motive:=fun _=>Nat→V) (fun v _=>v) (fun _ _ gl gr i=>cond (Nat.beq (i % 2) 0) (gl (i / 2)) (gr (i / 2))) t
theorem TT.get_nd (l r:TT) (i:Nat):(TT.nd l r).get i=cond (Nat.beq (i % 2) 0) (l.get (i / 2)) (r.get (i / 2)):=rfl
noncomputable def TT.put (t:TT):Nat→V→TT:=TT.rec (motive:=fun _=>Nat→V→TT) (fun _ _ v=>.lf v) (fun l r gl gr i v=>cond (Nat.beq (i % 2) 0) (.nd (gl (i / 2) v) r) (.nd l (gr (i / 2) v))) t
theorem TT.put_nd (l r:TT) (i:Nat) (v:V):(TT.nd l r).put i v=cond (Nat.beq (i % 2) 0) (.nd (l.put (i / 2) v) r) (.nd l (r.put (i / 2) v)):=rfl
noncomputable def TT.map (f:V→V) (t:TT):TT:=TT.rec (motive:=fun _=>TT) (fun v=>.lf (f v)) (fun _ _ gl gr=>.nd gl gr) t
theorem TT.map_nd (f:V→V) (l r:TT):(TT.nd l r).map f=.nd (l.map f) (r.map f):=rfl
def TT.full (v:V):Nat→TT
  |0=>.lf v
  |n+1=>.nd (full v n) (full v n)
def TT.Dp:Nat→TT→Prop
  |0,.lf _=>True
  |n+1,.nd l r=>l.Dp n∧r.Dp n
  |_,_=>False
noncomputable def fJ (t:TT):Nat→V:=fun i=>cond (Nat.ble 512 i) gP (t.get i)
theorem TT.get_put : ∀ {d : Nat} {t : TT} {i j : Nat} {v : V}, t.Dp d → i < 2 ^ d → j < 2 ^ d → (t.put i v).get j = if j = i then v else t.get j
  | 0, .lf _, i, j, v, _, hi, hj => by
    rw [if_pos (by simp at hi hj; omega)]; rfl
  | d + 1, .nd l r, i, j, v, h, hi, hj => by
    rw [Nat.pow_succ] at hi hj
    simp only [TT.put_nd]
    cases hb:Nat.beq (i % 2) 0 with
    | true =>
      have e1:=Nat.eq_of_beq_eq_true hb
      simp only [cond_true,TT.get_nd]
      cases hc:Nat.beq (j % 2) 0 with
      | true =>
        have e2:=Nat.eq_of_beq_eq_true hc
        simp only [cond_true]
        rw [TT.get_put h.1 (by omega) (by omega)]
        by_cases e:j=i
        · rw [if_pos (by omega),if_pos e]
        · rw [if_neg (by omega),if_neg e]
      | false =>
        have e2:=Nat.ne_of_beq_eq_false hc
        simp only [cond_false]
        rw [if_neg (by intro e; rw [e] at e2; omega)]
    | false =>
      have e1:=Nat.ne_of_beq_eq_false hb
      simp only [cond_false,TT.get_nd]
      cases hc:Nat.beq (j % 2) 0 with
      | false =>
        have e2:=Nat.ne_of_beq_eq_false hc
        simp only [cond_false]
        rw [TT.get_put h.2 (by omega) (by omega)]
        by_cases e:j=i
        · rw [if_pos (by omega),if_pos e]
        · rw [if_neg (by omega),if_neg e]
      | true =>
        have e2:=Nat.eq_of_beq_eq_true hc
        simp only [cond_true]
        rw [if_neg (by intro e; rw [e] at e2; omega)]
theorem TT.put_dp: ∀ {d:Nat} {t:TT} {i:Nat} {v:V},t.Dp d→(t.put i v).Dp d
  |0,.lf _,_,_,_=>trivial
  | d + 1, .nd l r, i, v, h => by
    simp only [TT.put_nd]
    cases Nat.beq (i % 2) 0
    · exact ⟨h.1,TT.put_dp h.2⟩
    · exact ⟨TT.put_dp h.1,h.2⟩
theorem TT.map_dp {f:V→V}: ∀ {d:Nat} {t:TT},t.Dp d→(t.map f).Dp d
  |0,.lf _,_=>trivial
  |d+1,.nd l r,h=>⟨TT.map_dp h.1,TT.map_dp h.2⟩
theorem TT.full_dp {v:V}: ∀ {d:Nat},(TT.full v d).Dp d
  |0=>trivial
  |d+1=>⟨TT.full_dp,TT.full_dp⟩
theorem TT.full_get {v:V}: ∀ {d i:Nat},(TT.full v d).get i=v
  |0,_=>rfl
  | d + 1, i => by
    simp only [TT.full,TT.get_nd]
    cases Nat.beq (i % 2) 0 <;> exact TT.full_get
theorem TT.map_get {f:V→V}: ∀ {t:TT} {i:Nat},(t.map f).get i=f (t.get i)
  | .lf _,_=>rfl
  | .nd l r, i => by
    simp only [TT.map_nd,TT.get_nd]
    cases Nat.beq (i % 2) 0 <;> exact TT.map_get
theorem aBe {n i:Nat}:Nat.ble n i=false↔i < n:=by
  rw [← Bool.not_eq_true,Nat.ble_eq]; omega
theorem vW {t:TT} (h:t.Dp 9) {i:Nat} (hi:Nat.ble 512 i=false) (v:V):fJ (t.put i v)=upd (fJ t) i v:=by
  have hi':=aBe.1 hi
  funext j
  unfold fJ
  rw [hJ]
  cases hj:Nat.ble 512 j with
  | true =>
    rw [Nat.ble_eq] at hj
    rw [if_neg (by omega)]; rfl
  | false =>
    have hj':=aBe.1 hj
    simp only [cond_false]
    exact TT.get_put h hi' hj'
def aHL (id:Nat) (H:aF) (v:V):V:=match v with
  | .ms j ver off len=>if j=id∧(H id).live=true∧(H id).ver=ver then .sl (((H id).rows.drop off).take len) else v
  |_=>v
theorem aCa (id:Nat) (H:aF) (t:TT):fJ (t.map (aHL id H))=fzT id H (fJ t):=by
  funext i
  have e:fzT id H (fJ t) i=aHL id H (fJ t i):=by unfold fzT aHL; rfl
  rw [e]
  unfold fJ
  cases hi:Nat.ble 512 i with
  |true=>rfl
  |false=>simp only [cond_false]; exact TT.map_get
noncomputable def aF6:List V→Nat→TT→TT
  |[],_,t=>t
  |v::l,i,t=>aF6 l (i+1) (t.put i v)
noncomputable def tt0 (args:List V):TT:=aF6 args 0 (TT.full gP 9)
theorem yA: ∀ (l:List V) (i:Nat) (t:TT),t.Dp 9→i+l.length≤512→(aF6 l i t).Dp 9∧ ∀ j,fJ (aF6 l i t) j=if i≤j∧j < i+l.length then l.getD (j - i) gP else fJ t j
  |[],i,t,h,_=>⟨h,fun j=>by rw [if_neg (by simp only [List.length_nil]; omega)]; rfl⟩
  | v :: l, i, t, h, hl => by
    simp only [List.length_cons] at hl
    obtain ⟨h1,h2⟩:=yA l (i+1) (t.put i v) (TT.put_dp h) (by omega)
    refine ⟨h1,fun j=>?_⟩
    simp only [aF6]
    rw [h2,vW h (aBe.2 (by omega))]
    simp only [List.length_cons]
    by_cases c:i+1≤j∧j < i+1+l.length
    · rw [if_pos c,if_pos (by omega)]
      obtain ⟨k,hk⟩: ∃ k,j - i=k+1:=⟨j - i - 1,by omega⟩
      rw [hk,List.getD_cons_succ,show j - (i+1)=k by omega]
    · rw [if_neg c,hJ]
      by_cases e:j=i
      · rw [if_pos e,if_pos (by omega),e,Nat.sub_self]; rfl
      · rw [if_neg e,if_neg (by omega)]
theorem aBh {args:List V} (h:args.length≤512):(tt0 args).Dp 9∧fJ (tt0 args)=T0 args:=by
  obtain ⟨h1,h2⟩:=yA args 0 (TT.full gP 9) TT.full_dp (by omega)
  refine ⟨h1,funext fun j=>?_⟩
  show fJ (aF6 args 0 (TT.full gP 9)) j=_
  rw [h2]
  unfold T0
  split
  · rw [Nat.sub_zero]
  · rename_i hn
    have hd:args.getD j gP=gP:=by
      rw [List.getD_eq_getElem?_getD,List.getElem?_eq_none (by omega)]; rfl
    rw [hd]
    unfold fJ
    rw [TT.full_get]
    cases Nat.ble 512 j <;> rfl
abbrev aCl:=Nat→Nat→List (Nat×Nat)→SC→TT→aF→Option (Ex×TT×aF)
noncomputable def aJF (T:TT) (d:Option Nat) (v:V):Option TT:=match d with
  |none=>some T
  | some i => match Nat.ble 512 i with
    |true=>none
    |false=>some (T.put i v)
theorem yE {T T':TT} {d:Option Nat} {v:V} (hd:T.Dp 9) (h:aJF T d v=some T'):T'.Dp 9∧fJ T'=eY (fJ T) d v:=by
  unfold aJF at h
  split at h
  · cases h; exact ⟨hd,rfl⟩
  · split at h
    · cases h
    · rename_i hi
      cases h; exact ⟨TT.put_dp hd,vW hd hi v⟩
def exY (x : X) : iX → PrimA → Nat → (Nat → V) → aF → Option (V × aF) := match x with
  | .mv a=>fun call qa id T H=>some (ev T a,H)
  | .lazy ty sz=>fun call qa id T H=>some (.ms id ((H id).ver+1) 0 0,upd H id ⟨(H id).ver+1,true,true,ty,sz,[]⟩)
  | .pick c a b => fun call qa id T H => match asB (ev T c) with
    |some bb=>some (if bb then ev T a else ev T b,H)
    |none=>none
  | .alloc ty z=>fun call qa id T H=>some (.mp id ((H id).ver+1) 0 0,upd H id ⟨(H id).ver+1,true,false,ty,z.length,[z]⟩)
  | .box ty _ a=>fun call qa id T H=>some (.mp id ((H id).ver+1) 0 0,upd H id ⟨(H id).ver+1,true,false,ty,(ev T a).cells.length,[(ev T a).cells]⟩)
  | .build z ps=>fun call qa id T H=>(bld z (ps.map fun p=>(p.1,p.2.1,ev T p.2.2))).map fun cs=>(.agg cs,H)
  | .bslice ty esz own z len ps=>fun call qa id T H=>(lT esz (List.replicate len z) (ps.map fun p=>(p.1,ev T p.2))).map fun rows=>
      if own then (.ms id ((H id).ver+1) 0 rows.length,upd H id ⟨(H id).ver+1,true,false,ty,esz,rows⟩) else (.sl rows,H)
  | .load agg n a=>fun call qa id T H=>((ptr H (ev T a)).bind (ldV agg n)).map fun v=>(v,H)
  | .ldp agg n a=>fun call qa id T H=>((aIu (ev T a)).bind (ldV agg n)).map fun v=>(v,H)
  | .store n a b=>fun call qa id T H=>(stP H n (ev T b).cells (ev T a)).map fun H'=>(.raw undef,H')
  | .bin op a b=>fun call qa id T H=>(gF op (ev T a) (ev T b)).map fun v=>(v,H)
  | .sbin op a b=>fun call qa id T H=>(qX op (ev T a) (ev T b)).map fun v=>(v,H)
  | .bbin op a b=>fun call qa id T H=>(nE op (ev T a) (ev T b)).map fun v=>(v,H)
  | .abin neg q a b=>fun call qa id T H=>(qW neg q (ev T a) (ev T b)).map fun v=>(v,H)
  | .un op a=>fun call qa id T H=>(unV op (ev T a)).map fun v=>(v,H)
  | .conv kd a=>fun call qa id T H=>(wX kd (ev T a)).map fun v=>(v,H)
  | .fld off a=>fun call qa id T H=>(aAa off (ev T a)).map fun v=>(v,H)
  | .part agg off n a=>fun call qa id T H=>(sR agg off n (ev T a)).map fun v=>(v,H)
  | .idx esz a i=>fun call qa id T H=>(nP H esz (ev T a) (ev T i)).map fun v=>(v,H)
  | .sidx a i=>fun call qa id T H=>(aBS (ev T a) (ev T i)).map fun v=>(v,H)
  | .aidx agg n len a i=>fun call qa id T H=>(aBq agg n len (ev T a) (ev T i)).map fun v=>(v,H)
  | .apos n len a i=>fun call qa id T H=>(xD n len (ev T a) (ev T i)).map fun v=>(v,H)
  | .slice esz a lo hi=>fun call qa id T H=>(iR H esz (lo.map (ev T)) (hi.map (ev T)) (ev T a)).map fun v=>(v,H)
  | .sslice a lo hi=>fun call qa id T H=>(pQ (lo.map (ev T)) (hi.map (ev T)) (ev T a)).map fun v=>(v,H)
  | .mks ty esz bytes z l c=>fun call qa id T H=>(rP bytes (ev T l) (ev T c)).map fun n=>
      (.ms id ((H id).ver+1) 0 n.1,upd H id ⟨(H id).ver+1,true,false,ty,esz,List.replicate n.1 z⟩)
  | .ext a i=>fun call qa id T H=>(aFP i (ev T a)).map fun v=>(v,H)
  | .mkf f caps=>fun call qa id T H=>some (.fn f [] (evs T caps),H)
  | .bstr a=>fun call qa id T H=>(yF (ev T a)).map fun v=>(v,H)
  | .mkm f a b=>fun call qa id T H=>some (.fn f (evs T a) (evs T b),H)
  | .mki ty a=>fun call qa id T H=>(aGA (ev T a)).map fun c=>(.raw (.iface ty c),H)
  | .tas ty a=>fun call qa id T H=>(aHs ty (ev T a)).map fun v=>(v,H)
  | .nilck a=>fun call qa id T H=>(aAh (ev T a)).map fun v=>(v,H)
  | .len a=>fun call qa id T H=>(xQ H (ev T a)).map fun v=>(v,H)
  | .clr z a=>fun call qa id T H=>(aFI H z (ev T a)).map fun H'=>(.tup [],H')
  | .cpy n a b=>fun call qa id T H=>(aIh H n (ev T b) (ev T a)).map fun p=>(.int .i64 p.1,p.2)
  | .slen a=>fun call qa id T H=>(zJ (ev T a)).map fun v=>(v,H)
  | .mn a b=>fun call qa id T H=>(mnV (ev T a) (ev T b)).map fun v=>(v,H)
  | .mn3 a b c=>fun call qa id T H=>((mnV (ev T a) (ev T b)).bind fun u=>mnV u (ev T c)).map fun v=>(v,H)
  | .mx a b=>fun call qa id T H=>(mxV (ev T a) (ev T b)).map fun v=>(v,H)
  | .append ty esz bytes s a => fun call qa id T H => match ev T s with
    | .ms i ver off len => if (H i).live && decide ((H i).ver = ver) then if off = 0 then if len = (H i).rows.length then if (H i).ty = ty then if (H i).sz = esz then
        match pN H (ev T a) with
        | some new => if cK esz new = true then if (len + new.length) * bytes ≤ 140737488355328 then if len + new.length ≤ 9223372036854775807 then
            some (.ms i (ver+1) 0 (len+new.length),upd H i {H i with ver:=ver+1,rows:=(H i).rows++new})
          else none else none else none
        |none=>none
        else none else none else none else none else none
    |_=>none
  | .call true f args=>fun call qa id T H=>call true f (evs T args) H
  | .call false f args => fun call qa id T H => match qa.p f (evs T args) with
    |some v=>some (v,H)
    |none=>call false f (evs T args) H
  | .callA f args=>fun call qa id T H=>(qa.a id f (evs T args) H).map fun p=>(p.1,upd H id p.2)
  | .callv e g args => fun call qa id T H => match ev T g with
    | .fn f first caps=>call e f (first++evs T args++caps) H
    |_=>none
  | .isnil neg a => fun call qa id T H => match ev T a with
    | .nilsl=>some (.bool (!neg),H)
    | .sl (_::_)=>some (.bool neg,H)
    |_=>none
  | .mkmap=>fun call qa id T H=>some (.mm id ((H id).ver+1),upd H id ⟨(H id).ver+1,true,true,bL,2,[[.nilp,.nilp]]⟩)
  | .mlook kd ok z m x=>fun call qa id T H=>(vH H kd z (ev T m) (ev T x)).map fun p=>(if ok then .tup [p.1,.bool p.2] else p.1,H)
  | .mset kd m x v=>fun call qa id T H=>(uV H kd (ev T m) (ev T x) (ev T v)).map fun H'=>(.raw undef,H')
  | .mlen a=>fun call qa id T H=>(yK H (ev T a)).map fun v=>(v,H)
  | .bad=>fun call qa id T H=>none
theorem aPb (call:iX) (qa:PrimA) (id:Nat) (x:X) (T:Nat→V) (H:aF):exY x call qa id T H=exX call qa id x T H:=by
  cases x <;> try rfl
  rename_i e f args; cases e <;> rfl
noncomputable def aFd (call:iX) (qa:PrimA) (k0:Nat) (o:SO) (ih:TT→aF→Option (TT×aF)) (T:TT) (H:aF):Option (TT×aF):=match exY o.x call qa (k0+o.d.getD 0) (fJ T) H with
  | some (v, H') => match aJF T o.d v with
    |some T'=>ih T' H'
    |none=>none
  |none=>none
noncomputable def aMs (o:SO) (ih:TT→aF→Option (TT×aF)) (T:TT) (H:aF):Option (TT×aF):=match aJF T o.d (.raw undef) with
  |some T'=>ih T' H
  |none=>none
noncomputable def aHU (call:iX) (qa:PrimA) (k0:Nat) (o:SO) (ih:TT→aF→Option (TT×aF)) (T:TT) (H:aF):Option (TT×aF):=match o.g with
  |none=>aFd call qa k0 o ih T H
  | some (t, want) => match gd want (fJ T t) with
    |true=>aFd call qa k0 o ih T H
    |false=>aMs o ih T H
noncomputable def oO (call:iX) (qa:PrimA) (k0:Nat) (ops:List SO):TT→aF→Option (TT×aF):=
  List.rec (motive:=fun _=>TT→aF→Option (TT×aF)) (fun T H=>some (T,H)) (fun o _ ih T H=>aHU call qa k0 o ih T H) ops
def aBc (a b:iX):Prop:= ∀ e f args H r,a e f args H=some r→b e f args H=some r
theorem aP4 {c2 c1:iX} (hc:aBc c2 c1) {qa:PrimA} {id:Nat} {x:X} {T:Nat→V} {H:aF} {r:V×aF} (h:exX c2 qa id x T H=some r):exX c1 qa id x T H=some r:=by
  cases x <;> simp only [exX] at h ⊢ <;> try exact h
  case call e f args=>
    cases e with
    |true=>exact hc _ _ _ _ _ h
    | false =>
      simp only at h ⊢
      split
      · rename_i v hv; rw [hv] at h; exact h
      · rename_i hv; rw [hv] at h; exact hc _ _ _ _ _ h
  case callv e g args=>
    split
    · rename_i f first caps he; rw [he] at h; exact hc _ _ _ _ _ h
    · rename_i hn
      split at h
      · rename_i f first caps he; exact absurd he (hn f first caps)
      · exact h
theorem oS {c2 c1 : iX} (hc : aBc c2 c1) {qa : PrimA} {k0 : Nat} : ∀ (ops : List SO) (T : TT) (H : aF) (T' : TT) (H' : aF), T.Dp 9 → oO c2 qa k0 ops T H = some (T', H') → T'.Dp 9 ∧ lR c1 qa k0 ops (fJ T) H = some (fJ T', H')
  |[],T,H,T',H',hd,h=>by cases h; exact ⟨hd,rfl⟩
  | o :: r, T, H, T', H', hd, h => by
    have h:aHU c2 qa k0 o (oO c2 qa k0 r) T H=some (T',H'):=h
    have one:aFd c2 qa k0 o (oO c2 qa k0 r) T H=some (T',H')→T'.Dp 9∧ ∃ v H1,exX c1 qa (k0+o.d.getD 0) o.x (fJ T) H=some (v,H1)∧lR c1 qa k0 r (eY (fJ T) o.d v) H1=some (fJ T',H'):=fun h=>by
      unfold aFd at h
      rw [aPb] at h
      split at h
      · rename_i v H1 h1
        split at h
        · rename_i T1 hp
          obtain ⟨d1,e1⟩:=yE hd hp
          obtain ⟨d2,e2⟩:=oS hc r T1 H1 T' H' d1 h
          exact ⟨d2,v,H1,aP4 hc h1,by rw [← e1]; exact e2⟩
        · cases h
      · cases h
    unfold aHU at h
    simp only [lR]
    split at h
    · rename_i hg
      obtain ⟨d2,v,H1,e1,e2⟩:=one h
      refine ⟨d2,?_⟩
      rw [hg]; simp only
      rw [e1]; exact e2
    · rename_i t want hg
      split at h
      · rename_i hb
        obtain ⟨d2,v,H1,e1,e2⟩:=one h
        refine ⟨d2,?_⟩
        rw [hg]; simp only
        rw [hb]; simp only
        rw [e1]; exact e2
      · rename_i hb
        unfold aMs at h
        split at h
        · rename_i T1 hp
          obtain ⟨d1,e1⟩:=yE hd hp
          obtain ⟨d2,e2⟩:=oS hc r T1 H T' H' d1 h
          refine ⟨d2,?_⟩
          rw [hg]; simp only
          rw [hb]; simp only
          rw [← e1]; exact e2
        · cases h
noncomputable def vN:List (Nat ⊕ LzA)→TT→aF→TT×aF
  |[],T,H=>(T,H)
  | .inl id::l,T,H=>vN l (T.map (aHL id H)) (iT id H)
  | .inr a :: l, T, H => match lzC a (fJ T) H with
    | .no=>vN l T H
    | .nl H'=>vN l T H'
    | .fc i H'=>vN l (T.map (aHL i H)) H'
    | .fp s v H'=>vN l (T.put s v) H'
theorem aLs {a : LzA} {t : TT} {H : aF} {s : Nat} {v : V} {H' : aF} (h : aC5 a (fJ t) H = .fp s v H') : Nat.ble 512 s = false := by
  unfold aC5 at h
  split at h
  · split at h
    · rename_i id ver row off ht
      split at h
      · split at h
        · cases h
          cases hb:Nat.ble 512 (a.id' - a.id) with
          |false=>rfl
          |true=>unfold fJ at ht; rw [hb] at ht; cases ht
        · cases h
      · cases h
    · cases h
  · split at h
    · split at h
      · split at h <;> cases h
      · split at h <;> cases h
      · cases h
    · cases h
theorem aON {a:LzA} {t:TT} {H:aF} {s:Nat} {v:V} {H':aF} (h:lzC a (fJ t) H=.fp s v H'):Nat.ble 512 s=false:=by
  unfold lzC at h
  split at h
  · split at h
    · split at h
      · split at h <;> cases h
      · cases h
    · cases h
  · exact aLs h
theorem kR: ∀ (l:List (Nat ⊕ LzA)) (T:TT) (H:aF),T.Dp 9→(vN l T H).1.Dp 9∧frz l (fJ T) H=(fJ (vN l T H).1,(vN l T H).2)
  |[],_,_,h=>⟨h,rfl⟩
  | .inl id :: l, T, H, h => by
    simp only [vN,frz]
    rw [← aCa]
    exact kR l _ _ (TT.map_dp h)
  | .inr a :: l, T, H, h => by
    simp only [vN,frz]
    cases hz:lzC a (fJ T) H with
    |no=>exact kR l _ _ h
    |nl H'=>exact kR l _ _ h
    |fc i H'=>simp only; rw [← aCa]; exact kR l _ _ (TT.map_dp h)
    |fp s v H'=>simp only; rw [← vW h (aON hz)]; exact kR l _ _ (TT.put_dp h)
noncomputable def aAL (F:Nat→Option XF) (run:aCl) (k1:Nat):iX:=fun e f args H=>match F f with
  |none=>none
  | some g => if args.length ≤ g.s.n ∧ args.length ≤ 512 then match e with
    | true => match run k1 g.s.n g.fz g.s.body (tt0 args) H with
      |some (.exit _,_,_)=>none
      |some (.pan _,_,_)=>none
      |some (_,T',H')=>(nN g.s.res (fJ T') H').map fun v=>(v,H')
      |none=>none
    | false => if cM (args.map (fzv false H 4)) then match run 0 g.s.n g.fz g.s.body (tt0 (args.map (fzv false H 4))) H0 with
        |some (.exit _,_,_)=>none
        |some (.pan _,_,_)=>none
        | some (_, T', H') => match nN g.s.res (fJ T') H' with
          |some u=>if (fzv false H' 6 u).pure then if cM args||(fzv false H' 6 u).scalar then some (fzv false H' 6 u,H) else none else none
          |none=>none
        |none=>none
      else none
    else none
noncomputable def sV (q:jJ) (F:Nat→Option XF) (run:aCl) (k1:Nat):iX:=fun e f args H=>match e with
  | true => match q f args H with
    |some r=>some r
    |none=>aAL F run k1 true f args H
  |false=>aAL F run k1 false f args H
noncomputable def aL5 (c:SC):jJ→PrimA→(Nat→Option XF)→aCl→Nat→Nat→List (Nat×Nat)→TT→aF→Option (Ex×TT×aF):=match c with
  | .skip=>fun q qa F run k0 n fz T H=>some (.norm,T,H)
  | .ret=>fun q qa F run k0 n fz T H=>some (.ret,T,H)
  | .exit j=>fun q qa F run k0 n fz T H=>some (.exit j,T,H)
  | .pop _ _=>fun q qa F run k0 n fz T H=>none
  | .reg ops => fun q qa F run k0 n fz T H => match oO (sV q F run (kOf k0 fz H ops + n)) qa (kOf k0 fz H ops) ops T H with
    |some (T',H')=>some (.norm,T',H')
    |none=>none
  | .dreg kW ops => fun q qa F run k0 n fz T H => if kW.all (fun d => !(H (kOf k0 fz H ops + d)).live) then match oO (sV q F run (kOf k0 fz H ops + n)) qa (kOf k0 fz H ops) ops T H with
    |some (T',H')=>some (.norm,T',H')
    |none=>none
    else none
  | .xreg ps ops => fun q qa F run k0 n fz T H => match oO (sV q F run (kOf k0 fz H ops + n)) qa (kOf k0 fz H ops) ops T H with
    |some (T',H')=>if ddB ps ops (fJ T')=true then some (.norm,T',H') else none
    |none=>none
  | .seq a b => fun q qa F run k0 n fz T H => match run k0 n fz a T H with
    | some (.norm, T', H') => match vN (aB5 k0 fz b) T' H' with
      |(T2,H2)=>run k0 n fz b T2 H2
    |r=>r
  | .cond c a b => fun q qa F run k0 n fz T H => match asB (ev (fJ T) c) with
    |some true=>run k0 n fz a T H
    |some false=>run k0 n fz b T H
    |none=>none
  | .block id a => fun q qa F run k0 n fz T H => match run k0 n fz a T H with
    |some (.exit j,T',H')=>if j=id then some (.norm,T',H') else some (.exit j,T',H')
    |r=>r
  | .loop a => fun q qa F run k0 n fz T H => match run k0 n fz a T H with
    |some (.norm,T',H')=>run k0 n fz (.loop a) T' H'
    |r=>r
noncomputable def aOq (q:jJ) (qa:PrimA) (F:Nat→Option XF) (run:aCl):aCl:=fun k0 n fz c T H=>aL5 c q qa F run k0 n fz T H
noncomputable def zN (q:jJ) (qa:PrimA) (F:Nat→Option XF) (m:Nat):aCl:=Nat.rec (fun _ _ _ _ _ _=>none) (fun _ ih=>aOq q qa F ih) m
theorem aFv (q:jJ) (qa:PrimA) (F:Nat→Option XF) (m:Nat):zN q qa F (m+1)=aOq q qa F (zN q qa F m):=rfl
section
variable {q:jJ} {qa:PrimA} {F:Nat→Option XF}
def Sim (r2:aCl) (r:xU):Prop:= ∀ k0 n fz c T H e T' H',TT.Dp 9 T→r2 k0 n fz c T H=some (e,T',H')→TT.Dp 9 T'∧r k0 n fz c (fJ T) H=some (e,fJ T',H')
theorem aCF {r2 : aCl} {r : xU} (h : Sim r2 r) {k1 : Nat} : aBc (sV q F r2 k1) (mU q F r k1) := by
  have h0 : aBc (aAL F r2 k1) (rN F r k1) := by
    intro e f args H o ho
    unfold aAL at ho
    unfold rN
    split at ho
    · cases ho
    · rename_i g hg
      rw [hg]; simp only
      split at ho
      · rename_i hl
        rw [if_pos hl.1]
        cases e with
        | true =>
          simp only at ho ⊢
          obtain ⟨d0,e0⟩:=aBh hl.2
          cases hr:r2 k1 g.s.n g.fz g.s.body (tt0 args) H with
          |none=>rw [hr] at ho; cases ho
          | some p =>
            obtain ⟨x,T',H'⟩:=p
            obtain ⟨_,e1⟩:=h _ _ _ _ _ _ _ _ _ d0 hr
            rw [hr] at ho
            rw [← e0,e1]
            cases x <;> exact ho
        | false =>
          simp only at ho ⊢
          split at ho
          · rename_i hp
            rw [if_pos hp]
            obtain ⟨d0,e0⟩:=aBh (args:=args.map (fzv false H 4)) (by rw [List.length_map]; exact hl.2)
            cases hr:r2 0 g.s.n g.fz g.s.body (tt0 (args.map (fzv false H 4))) H0 with
            |none=>rw [hr] at ho; cases ho
            | some p =>
              obtain ⟨x,T',H'⟩:=p
              obtain ⟨_,e1⟩:=h _ _ _ _ _ _ _ _ _ d0 hr
              rw [hr] at ho
              rw [← e0,e1]
              cases x <;> exact ho
          · cases ho
      · cases ho
  intro e f args H o ho
  cases e with
  |false=>exact h0 false f args H o ho
  | true =>
    simp only [sV] at ho
    simp only [mU]
    split
    · rename_i r1 hq; rw [hq] at ho; exact ho
    · rename_i hq; rw [hq] at ho; exact h0 _ _ _ _ _ ho
theorem aHP : ∀ m, Sim (zN q qa F m) (run q qa F m) := by
  intro m
  induction m with
  |zero=>intro k0 n fz c T H e T' H' _ h; cases h
  | succ m ih =>
    intro k0 n fz c T H e T' H' hd h
    rw [aFv] at h
    rw [pJ]
    have ops: ∀ {os:List SO} {k:Nat} {T1:TT} {H1:aF},oO (sV q F (zN q qa F m) (k+n)) qa k os T H=some (T1,H1)→TT.Dp 9 T1∧lR (mU q F (run q qa F m) (k+n)) qa k os (fJ T) H=some (fJ T1,H1):=
      fun h=>oS (aCF ih) _ _ _ _ _ hd h
    cases c <;> simp only [aOq,aL5] at h <;> simp only [aHe]
    case skip=>cases h; exact ⟨hd,rfl⟩
    case ret=>cases h; exact ⟨hd,rfl⟩
    case exit=>cases h; exact ⟨hd,rfl⟩
    case pop=>cases h
    case reg os=>
      split at h
      · rename_i T1 H1 h1
        cases h
        obtain ⟨a,b⟩:=ops h1
        exact ⟨a,by rw [b]; rfl⟩
      · cases h
    case dreg kW os=>
      split at h
      · rename_i hl
        rw [if_pos hl]
        split at h
        · rename_i T1 H1 h1
          cases h
          obtain ⟨a,b⟩:=ops h1
          exact ⟨a,by rw [b]; rfl⟩
        · cases h
      · cases h
    case xreg ps os=>
      split at h
      · rename_i T1 H1 h1
        obtain ⟨a,b⟩:=ops h1
        split at h
        · rename_i hdd
          cases h
          exact ⟨a,by rw [b]; simp only; rw [if_pos hdd]⟩
        · cases h
      · cases h
    case seq a b=>
      cases hr:zN q qa F m k0 n fz a T H with
      |none=>rw [hr] at h; cases h
      | some p =>
        obtain ⟨x,T1,H1⟩:=p
        rw [hr] at h
        obtain ⟨d1,e1⟩:=ih _ _ _ _ _ _ _ _ _ hd hr
        rw [e1]
        cases x with
        | norm =>
          simp only at h ⊢
          obtain ⟨d2,e2⟩:=kR (aB5 k0 fz b) T1 H1 d1
          rw [e2]
          exact ih _ _ _ _ _ _ _ _ _ d2 h
        |ret=>cases h; exact ⟨d1,rfl⟩
        |exit j=>cases h; exact ⟨d1,rfl⟩
        |pan c=>cases h; exact ⟨d1,rfl⟩
    case cond c a b=>
      split at h
      · rename_i hb; rw [hb]; exact ih _ _ _ _ _ _ _ _ _ hd h
      · rename_i hb; rw [hb]; exact ih _ _ _ _ _ _ _ _ _ hd h
      · cases h
    case block id a=>
      cases hr:zN q qa F m k0 n fz a T H with
      |none=>rw [hr] at h; cases h
      | some p =>
        obtain ⟨x,T1,H1⟩:=p
        rw [hr] at h
        obtain ⟨d1,e1⟩:=ih _ _ _ _ _ _ _ _ _ hd hr
        rw [e1]
        cases x with
        | exit j =>
          simp only at h ⊢
          split at h
          · rename_i hj; cases h; exact ⟨d1,by rw [if_pos hj]⟩
          · rename_i hj; cases h; exact ⟨d1,by rw [if_neg hj]⟩
        |norm=>cases h; exact ⟨d1,rfl⟩
        |ret=>cases h; exact ⟨d1,rfl⟩
        |pan c=>cases h; exact ⟨d1,rfl⟩
    case loop a=>
      cases hr:zN q qa F m k0 n fz a T H with
      |none=>rw [hr] at h; cases h
      | some p =>
        obtain ⟨x,T1,H1⟩:=p
        rw [hr] at h
        obtain ⟨d1,e1⟩:=ih _ _ _ _ _ _ _ _ _ hd hr
        rw [e1]
        cases x with
        |norm=>exact ih _ _ _ _ _ _ _ _ _ d1 h
        |ret=>cases h; exact ⟨d1,rfl⟩
        |exit j=>cases h; exact ⟨d1,rfl⟩
        |pan c=>cases h; exact ⟨d1,rfl⟩
theorem aAJ {P:Program} (hq:fU P q) (hqa:eG P qa) (hF:aBW P F) (m:Nat) {f:Nat} {args:List V} {v:V} (hp:cM args=true) (h:(sV q F (zN q qa F m) 0 false f args H0).map (·.1)=some v):aS P f args v:=by
  rw [Option.map_eq_some_iff] at h
  obtain ⟨p,h1,h2⟩:=h
  exact zV hq hqa hF m hp (by rw [aCF (aHP m) _ _ _ _ _ h1]; exact congrArg some h2)
inductive FT where
  |lf
  |nd (k:Nat) (x:XF) (l r:FT)
def FT.find:FT→Nat→Option XF
  | .lf,_=>none
  | .nd k x l r,f=>cond (Nat.beq f k) (some x) (cond (Nat.blt f k) (l.find f) (r.find f))
def FT.list:FT→List (Nat×XF)
  | .lf=>[]
  | .nd k x l r=>(k,x)::(l.list++r.list)
theorem FT.mem: ∀ {t:FT} {f:Nat} {g:XF},t.find f=some g→(f,g)∈t.list
  | .nd k x l r, f, g, h => by
    simp only [FT.find] at h
    cases hb:Nat.beq f k with
    | true =>
      rw [hb] at h
      simp only [cond_true,Option.some.injEq] at h
      rw [Nat.eq_of_beq_eq_true hb,h]
      exact List.mem_cons_self ..
    | false =>
      rw [hb] at h
      simp only [cond_false] at h
      refine List.mem_cons_of_mem _ (List.mem_append.2 ?_)
      cases hc:Nat.blt f k with
      |true=>rw [hc] at h; exact .inl (FT.mem h)
      |false=>rw [hc] at h; exact .inr (FT.mem h)
theorem FT.good {P:Program} {t:FT} (h: ∀ p∈t.list,aTp P p):aBW P t.find:=fun f g hg=>h _ (FT.mem hg)
end
def eqL (f:V→V→Bool):List V→List V→Bool
  |[],[]=>true
  |a::l,b::m=>f a b&&eqL f l m
  |_,_=>false
def aJi (f:V→V→Bool):List (List V)→List (List V)→Bool
  |[],[]=>true
  |a::l,b::m=>eqL f a b&&aJi f l m
  |_,_=>false
def eqV : Nat → V → V → Bool
  |0,_,_=>false
  | n + 1, u, v => match u, v with
    | .int .i64 a,.int .i64 b=>decide (a=b)
    | .bool a,.bool b=>a==b
    | .sl a,.sl b=>aJi (eqV n) a b
    | .agg a,.agg b=>eqL (eqV n) a b
    | .nilsl,.nilsl=>true
    |_,_=>false
theorem nI {f:V→V→Bool} (hf: ∀ a b,f a b=true→a=b): ∀ {l m:List V},eqL f l m=true→l=m
  |[],[],_=>rfl
  | a :: l, b :: m, h => by
    simp only [eqL,Bool.and_eq_true] at h
    rw [hf _ _ h.1,nI hf h.2]
  |[],_::_,h=>by cases h
  |_::_,[],h=>by cases h
theorem wZ {f:V→V→Bool} (hf: ∀ a b,f a b=true→a=b): ∀ {l m:List (List V)},aJi f l m=true→l=m
  |[],[],_=>rfl
  | a :: l, b :: m, h => by
    simp only [aJi,Bool.and_eq_true] at h
    rw [nI hf h.1,wZ hf h.2]
  |[],_::_,h=>by cases h
  |_::_,[],h=>by cases h
theorem qY: ∀ (n:Nat) (u v:V),eqV n u v=true→u=v
  |0,_,_,h=>by cases h
  | n + 1, u, v, h => by
    unfold eqV at h
    split at h
    · rw [of_decide_eq_true h]
    · rw [eq_of_beq h]
    · rw [wZ (qY n) h]
    · rw [nI (qY n) h]
    · rfl
    · cases h
abbrev gW:=Nat×List V×V
def aTu (l:List gW):PrimA:=⟨fun _ _ _ _=>none,fun f args=>(l.find? fun p=>Nat.beq p.1 f&&eqL (eqV 12) p.2.1 args).map (·.2.2)⟩
theorem aJe {P:Program} {l:List gW} (h: ∀ p∈l,aS P p.1 p.2.1 p.2.2):eG P (aTu l):=
  ⟨fun _ _ _ _ _ _ h=>(by cases h),fun f args v hv=>by
    obtain ⟨p,hp,rfl⟩:=Option.map_eq_some_iff.1 hv
    have h1:=List.find?_some hp
    rw [Bool.and_eq_true] at h1
    have h2:=h p (List.mem_of_find?_eq_some hp)
    rw [Nat.eq_of_beq_eq_true h1.1,nI (qY 12) h1.2] at h2
    exact h2⟩
def orB (a b:PrimA):PrimA:=⟨fun id f args H=>match a.a id f args H with
  |some r=>some r
  |none=>b.a id f args H,fun f args=>match a.p f args with
  |some r=>some r
  |none=>b.p f args⟩
theorem aQN {P:Program} {a b:PrimA} (ha:eG P a) (hb:eG P b):eG P (orB a b):=
  ⟨fun id f args H v bb h=>by
    simp only [orB] at h
    split at h
    · rename_i r hr; cases h; exact ha.1 _ _ _ _ _ _ hr
    · exact hb.1 _ _ _ _ _ _ h,fun f args v h=>by
    simp only [orB] at h
    split at h
    · rename_i r hr; cases h; exact ha.2 _ _ _ hr
    · exact hb.2 _ _ _ h⟩
end Go.Proofs.YtmnnhjhkaepbaaaGreat
namespace Go.Proofs.YtmnnhjhkaepbaaaGreat
open Go Go.Proofs
def s77:SF:=⟨8,[.tmp 2],.seq (.reg [sO 2 (.lazy 3 1)]) (.seq (.seq (.reg [qM 3 0,sO 4 (.isnil false (.t 3))]) (.cond (.t 4) (.seq (.reg [sO 2 (.lazy 3 1)]) (.ret)) (.skip))) (.seq (.reg [sO 5 (.lazy 3 1),qM 6 0,sO 7 (.append 3 1 8 (.t 5) (.t 6)),qM 2 7]) (.ret)))⟩
theorem aCZ:aM Tryz.prog ⟨[39,75,135,136,137,155,161,186,188,194,195,196,211,212,213,226,230,233,238],[2,5],[],[]⟩ Tryz.f77=some s77:=by kernel_rfl
theorem lD (l:List Int) (hl:l.length≤4294967296):aS Tryz.prog 77 [(aH l)] (aH l):=by
 refine pW Tryz.func77 aCZ fun hB=>?_
 unfold s77
 dsimp only
 refine W_r (fF (i:=2) (n:=0) rfl (cVq rfl) (R_e (aB (kK fun K hK=>(aA rfl ?_)))))
 refine oD (rVq (aH l)) (fun e1=>?_) ?_
 ·
  replace e1:=List.map_eq_nil_iff.1 e1
  refine iQ (hK _ _ ?_); clear hK K
  refine bF (R:=fun T H=>T 0=(aH l)∧T 4=(V.bool true)∧H 2=(bz 1 3 1 [])∧H 5=bZq∧True) ⟨rfl,rfl,rfl,rfl,trivial⟩ ?_
  intro T H ⟨t0,t4,h2,h5,_⟩
  refine dR t4 (fun c4=>?_) (fun c4=>?_)
  ·
   refine aB (W_r (fF (i:=2) (n:=1) rfl (cVq h2) (R_e (bC ?_))))
   refine bS (rVq (V.ms 2 2 0 0)) (kN (@rfl Blk (bz 2 3 1 [])) (by rfl) (l:=[]) rfl (by rfl) (fun _=>by simp) ?_)
   · exact e1.symm
  · cases c4
 ·
  refine iQ (hK _ _ ?_); clear hK K
  refine bF (R:=fun T H=>T 0=(aH l)∧T 4=(V.bool false)∧H 2=(bz 1 3 1 [])∧H 5=bZq∧True) ⟨rfl,rfl,rfl,rfl,trivial⟩ ?_
  intro T H ⟨t0,t4,h2,h5,_⟩
  refine dR t4 (fun c7=>?_) (fun c7=>?_)
  · cases c7
  refine aG (W_r (fF (i:=5) (n:=0) rfl (cVq h5) (aA t0 (jG (l:=([])) (m:=l) (f:=cI) (rVq (V.ms 5 1 0 0)) (show _=(bz 1 3 1 (List.map cI ([]))) from (@rfl Blk (bz 1 3 1 []))) (by rfl) (rVq (aH l)) (fun _=>rfl) (fun _=>rfl) (by omega) (by omega) (aA rfl (R_e (bH ?_)))))))
  refine bS (rVq (V.ms 5 2 0 (0+l.length))) (kN (@rfl Blk (bz 2 3 1 (List.map cI ([]++l)))) (by rfl) (l:=([]++l)) rfl (by simp) (fun _=>by simp) ?_)
  · rfl
theorem aIB (i:Nat) (h5:5≤i) (l:List Int) (u:Nat) (Hi:aF) (hq:(Hi i).ver=u) (hl:l.length≤4294967296):dB Tryz.prog 77 [(aH l)] Hi (V.ms i (u+3) 0 l.length) (upd Hi i (bz (u+3) 3 1 (List.map cI l))):=by
 refine eW (k0:=i - 2) Tryz.func77 aCZ fun hB=>?_
 unfold s77
 dsimp only
 refine W_r (fF (i:=i) (n:=u) (by omega) hq (R_e (aB (kK fun K hK=>(aA rfl ?_)))))
 refine oD (rVq (aH l)) (fun e1=>?_) ?_
 ·
  replace e1:=List.map_eq_nil_iff.1 e1
  refine iQ (hK _ _ ?_); clear hK K
  refine bF (R:=fun T H=>T 0=(aH l)∧T 4=(V.bool true)∧(∀ j,j∉[i]→H j=Hi j)∧H i=(bz (u+1) 3 1 [])∧True) ⟨rfl,rfl,(dE (fun _ _=>rfl) (by simp)),(aC _ _ _),trivial⟩ ?_
  intro T H ⟨t0,t4,hF,hi,_⟩
  refine dR t4 (fun c4=>?_) (fun c4=>?_)
  ·
   refine aB (W_r (fF (i:=i) (n:=(u+1)) (by omega) (cVq hi) (R_e (bC (bF (R:=fun T H=>T 2=(V.ms i (u+2) 0 0)∧(∀ j,j∉[i]→H j=Hi j)∧H i=(bz (u+2) 3 1 [])∧True) ⟨(rVq (V.ms i (u+2) 0 0)),(dE hF (by simp)),(aC _ _ _),trivial⟩ ?_)))))
   intro T H ⟨t2,hF,hi,_⟩
   skip
   have fh:=dJ.fin (dJ.put (B:=(bz (u+3) 3 1 (List.map cI l))) (dJ.start hF) hi (jB.up (by omega) (by (rw [e1]; rfl))))
   exact jL t2 fh (cV.trans_eq (cV.ms (n:=(u+3)) fh (by simp [hi]) (by simp [hi]) (by simp) (by simp)) (by (rw [e1]; rfl)))
  · cases c4
 ·
  refine iQ (hK _ _ ?_); clear hK K
  refine bF (R:=fun T H=>T 0=(aH l)∧T 4=(V.bool false)∧(∀ j,j∉[i]→H j=Hi j)∧H i=(bz (u+1) 3 1 [])∧True) ⟨rfl,rfl,(dE (fun _ _=>rfl) (by simp)),(aC _ _ _),trivial⟩ ?_
  intro T H ⟨t0,t4,hF,hi,_⟩
  refine dR t4 (fun c7=>?_) (fun c7=>?_)
  · cases c7
  refine aG (aSb (i - 5) (fF (i:=i) (n:=(u+1)) (by omega) (cVq hi) (aA t0 (jG (l:=([])) (m:=l) (f:=cI) (rVq (V.ms i (u+2) 0 0)) (show _=(bz (u+2) 3 1 (List.map cI ([]))) from (aC _ _ _)) (by rfl) (rVq (aH l)) (fun _=>rfl) (fun _=>rfl) (by omega) (by omega) (aA rfl (R_e (bH ?_)))))))
  refine bF (R:=fun T H=>T 2=(V.ms i (u+3) 0 (0+l.length))∧(∀ j,j∉[i]→H j=Hi j)∧H i=(bz (u+3) 3 1 (List.map cI ([]++l)))∧True) ⟨(rVq (V.ms i (u+3) 0 (0+l.length))),(dE (dE hF (by simp)) (by simp)),(aC _ _ _),trivial⟩ ?_
  intro T H ⟨t2,hF,hi,_⟩
  skip
  have fh:=dJ.fin (dJ.put (B:=(bz (u+3) 3 1 (List.map cI l))) (dJ.start hF) hi (jB.eq (by rfl)))
  exact jL t2 fh (cV.trans_eq (cV.same fh _) (by simp))
def rW:List (List V)→Option (List Int)
  |[]=>some []
  |[.int .i64 n]::l=>(rW l).map (n:: ·)
  |_=>none
theorem nB: ∀ {rows:List (List V)} {l:List Int},rW rows=some l→rows=l.map cI
  |[],l,h=>by cases h; rfl
  | [.int .i64 n] :: r, l, h => by
    simp only [rW,Option.map_eq_some_iff] at h
    obtain ⟨m,h1,rfl⟩:=h
    rw [nB h1]; rfl
def nM : PrimA := ⟨fun id g args H => if g = 77 ∧ 5 ≤ id then match args with
    | [.sl rows] => match rW rows with
      |some l=>if l.length≤4294967296 then some (.ms id ((H id).ver+3) 0 l.length,⟨(H id).ver+3,true,true,3,1,l.map cI⟩) else none
      |none=>none
    |[.nilsl]=>some (.ms id ((H id).ver+3) 0 0,⟨(H id).ver+3,true,true,3,1,[]⟩)
    |_=>none
  else none,fun g args=>if g=77 then match args with
    | [.sl rows] => match rW rows with
      |some l=>if l.length≤4294967296 then some (.sl (l.map cI)) else none
      |none=>none
    |_=>none
  else none⟩
theorem xT {P:Program} {f:Nat} {H H':aF} {v:V} (h:dB P f [.sl []] H v H'):dB P f [.nilsl] H v H':=
  ⟨h.1,fun x cs hxH hx hr=>h.2 x cs hxH hx ⟨hr.1,fun j u hj=>by
    match j,hj with
    | 0, hj =>
      cases hj
      have q:=hr.2 0 _ rfl
      generalize hv:V.nilsl=w at q
      generalize cs.getD 0 undef=c at q ⊢
      cases q <;> cases hv
      exact .slnil
    |n+1,hj=>simp at hj⟩⟩
theorem aAt : eG Tryz.prog nM := by
  constructor
  · intro id g args H v b h
    unfold nM at h
    dsimp only at h
    split at h
    · rename_i hg
      obtain ⟨rfl,h5⟩:=hg
      split at h
      · rename_i rows
        split at h
        · rename_i l hl
          split at h
          · rename_i hn
            cases h
            refine ⟨rfl,fun H2 h2=>?_⟩
            rw [nB hl]
            exact aIB id h5 l _ H2 (by rw [h2]) hn
          · cases h
        · cases h
      · cases h
        refine ⟨rfl,fun H2 h2=>xT ?_⟩
        exact aIB id h5 [] _ H2 (by rw [h2]) (by decide)
      · cases h
    · cases h
  · intro g args v h
    unfold nM at h
    dsimp only at h
    split at h
    · rename_i hg
      subst hg
      split at h
      · rename_i rows
        split at h
        · rename_i l hl
          split at h
          · rename_i hn
            cases h
            rw [nB hl]
            exact lD l hn
          · cases h
        · cases h
      · cases h
    · cases h
def aQ9:List SO:=[
 qM 16 5,
 qC 17 .add 16 1,
 qM 18 3,
 qN 19 18,
 qP 20 .eql 17 19,
 qM 21 20,
 ⟨some (21,false),some 22,.mv (.t 3)⟩,
 ⟨some (21,false),some 23,.mv (.t 5)⟩,
 ⟨some (21,false),some 24,.bin .add (.t 23) (.c (.int .i64 1))⟩,
 ⟨some (21,false),some 25,.idx 1 (.t 22) (.t 24)⟩,
 ⟨some (21,false),some 26,.load false 1 (.t 25)⟩,
 ⟨some (21,false),some 27,.mv (.t 6)⟩,
 ⟨some (21,false),some 28,.call false 175 [.t 26,.t 27]⟩,
 ⟨some (21,false),some 29,.un .not (.t 28)⟩,
 sO 30 (.pick (.t 21) (.c (.bool true)) (.t 29))]
def aG4:SC:=.seq (.reg [qP 12 .lss 11 10]) (.seq (.cond (.t 12) (.skip) (.exit 0)) (.seq (.block 1 (.seq (.reg [qM 13 11,qA 14 1 9 11,ql 15 14,qM 5 13,qM 6 15]) (.seq (.reg aQ9) (.cond (.t 30) (.reg [qM 31 4,qM 32 6,sO 33 (.bslice 25 1 false [.nilsl] 1 [(0,.t 32)]),sO 34 (.append 25 1 24 (.t 31) (.t 33)),qM 4 34]) (.skip))))) (.reg [qC 35 .add 11 1,qM 11 35])))
def aRZ:SF:=⟨38,[.tmp 2],.seq (.reg [sO 2 (.mv (.c (.nilsl)))]) (.seq (.reg [qM 7 0,sO 8 (.call false 173 [.t 7,.c (.fn 174 [] [])]),qM 3 8]) (.seq (.reg [sO 4 (.lazy 25 1)]) (.seq (.seq (.reg [qM 9 3,qN 10 9,qI 11 0]) (.block 0 (.loop aG4))) (.seq (.reg [qM 36 4,sO 37 (.call false 129 [.t 36]),qM 2 37]) (.ret)))))⟩
theorem aJ2:aM Tryz.prog ⟨[39,75,135,136,137,155,161,186,188,194,195,196,211,212,213,226,230,233,238],[4],[],[]⟩ Tryz.f128=some aRZ:=by kernel_rfl
def aSm:SF:=⟨5,[.tmp 2],.seq (.reg [sO 2 (.mv (.c (.nilsl)))]) (.seq (.reg [qM 3 0,sO 4 (.call false 173 [.t 3,.c (.fn 176 [] [])]),qM 2 4]) (.ret))⟩
theorem aLf:aM Tryz.prog ⟨[39,75,135,136,137,155,161,186,188,194,195,196,211,212,213,226,230,233,238],[],[],[]⟩ Tryz.f129=some aSm:=by kernel_rfl
def aC2:SC:=.seq (.reg [qP 19 .lss 18 17]) (.seq (.cond (.t 19) (.skip) (.exit 0)) (.seq (.block 1 (.seq (.reg [qM 20 18,qA 21 1 16 18,ql 22 21,qM 6 20,qM 7 22]) (.reg [qM 23 5,qM 24 6,qM 25 7,sO 26 (.call false 77 [.t 25]),qA 27 1 23 24,sN (.store 1 (.t 27) (.t 26))]))) (.reg [qC 28 .add 18 1,qM 18 28])))
def aQ0:SF:=⟨30,[.tmp 4],.seq (.reg [sO 3 (.box 240 1 (.t 1)),sO 4 (.mv (.c (.nilsl)))]) (.seq (.reg [qM 8 0,sO 9 (.call true 211 [.t 8]),qM 5 9]) (.seq (.reg [qM 10 5,ql 11 3,sO 12 (.call true 212 [.t 10,.t 11])]) (.seq (.reg [qM 13 5,sO 14 (.mkf 214 [.t 3]),sO 15 (.call true 213 [.t 13,.t 14]),qM 5 15]) (.seq (.seq (.reg [qM 16 5,qN 17 16,qI 18 0]) (.block 0 (.loop aC2))) (.seq (.reg [qM 29 5,qM 4 29]) (.ret))))))⟩
theorem aEt:aM Tryz.prog ⟨[39,75,135,136,137,155,161,186,188,194,195,196,211,212,213,226,230,233,238],[],[],[]⟩ Tryz.f173=some aQ0:=by kernel_rfl
def aKr:SF:=⟨8,[.tmp 4],.seq (.reg [qI 4 0]) (.seq (.reg [qM 5 0,qM 6 1,sO 7 (.call false 215 [.t 5,.t 6]),qM 4 7]) (.ret))⟩
theorem aER:aM Tryz.prog ⟨[39,75,135,136,137,155,161,186,188,194,195,196,211,212,213,226,230,233,238],[],[],[]⟩ Tryz.f174=some aKr:=by kernel_rfl
def aIo:SC:=.seq (.reg [qP 12 .lss 11 10]) (.seq (.cond (.t 12) (.skip) (.exit 0)) (.seq (.block 1 (.seq (.reg [qM 13 11,qA 14 1 9 11,ql 15 14,qM 5 13,qM 6 15]) (.seq (.seq (.reg [qM 16 5,qM 17 1,qN 18 17,qP 19 .geq 16 18]) (.cond (.t 19) (.seq (.reg [qI 4 1]) (.ret)) (.skip))) (.seq (.reg [qM 20 1,qM 21 5,qA 22 1 20 21,ql 23 22,qM 7 23]) (.seq (.reg [qM 24 6,qM 25 7,sO 26 (.call false 218 [.t 24,.t 25]),qM 8 26]) (.seq (.reg [qM 27 8,qC 28 .neq 27 0]) (.cond (.t 28) (.seq (.reg [qM 29 8,qM 4 29]) (.ret)) (.skip)))))))) (.reg [qC 30 .add 11 1,qM 11 30])))
def aI7:SF:=⟨36,[.tmp 4],.seq (.reg [qI 4 0]) (.seq (.seq (.reg [qM 9 0,qN 10 9,qI 11 0]) (.block 0 (.loop aIo))) (.seq (.seq (.reg [qM 31 0,qN 32 31,qM 33 1,qN 34 33,qP 35 .lss 32 34]) (.cond (.t 35) (.seq (.reg [sO 4 (.mv (.c (.int .i64 (-1))))]) (.ret)) (.skip))) (.seq (.reg [qI 4 0]) (.ret))))⟩
theorem aEv:aM Tryz.prog ⟨[39,75,135,136,137,155,161,186,188,194,195,196,211,212,213,226,230,233,238],[],[],[]⟩ Tryz.f215=some aI7:=by kernel_rfl
def aJ0:SF:=⟨20,[.tmp 4],.seq (.reg [qI 4 0]) (.seq (.reg [qM 7 0,sO 8 (.call false 235 [.t 7]),qM 5 8]) (.seq (.reg [qM 9 1,sO 10 (.call false 235 [.t 9]),qM 6 10]) (.seq (.seq (.reg [qM 11 5]) (.cond (.t 11) (.seq (.seq (.reg [qM 12 6]) (.cond (.t 12) (.seq (.reg [qI 4 0]) (.ret)) (.skip))) (.seq (.reg [sO 4 (.mv (.c (.int .i64 (-1))))]) (.ret))) (.skip))) (.seq (.seq (.reg [qM 13 6]) (.cond (.t 13) (.seq (.reg [qI 4 1]) (.ret)) (.skip))) (.seq (.seq (.reg [qM 14 0,qM 15 1,qP 16 .lss 14 15]) (.cond (.t 16) (.seq (.reg [sO 4 (.mv (.c (.int .i64 (-1))))]) (.ret)) (.skip))) (.seq (.seq (.reg [qM 17 0,qM 18 1,qP 19 .gtr 17 18]) (.cond (.t 19) (.seq (.reg [qI 4 1]) (.ret)) (.skip))) (.seq (.reg [qI 4 0]) (.ret))))))))⟩
theorem aEh:aM Tryz.prog ⟨[39,75,135,136,137,155,161,186,188,194,195,196,211,212,213,226,230,233,238],[],[],[]⟩ Tryz.f218=some aJ0:=by kernel_rfl
def aLF:SF:=⟨6,[.tmp 2],.seq (.reg [sO 2 (.mv (.c (.bool false)))]) (.seq (.reg [qM 3 0,qM 4 0,qP 5 .neq 3 4,qM 2 5]) (.ret))⟩
theorem aEF:aM Tryz.prog ⟨[39,75,135,136,137,155,161,186,188,194,195,196,211,212,213,226,230,233,238],[],[],[]⟩ Tryz.f235=some aLF:=by kernel_rfl
theorem wD (n:Int):aS Tryz.prog 235 [(iV n)] (V.bool false):=by
 refine pW Tryz.func235 aEF fun hB=>?_
 unfold aLF
 dsimp only
 refine W_r (aA rfl (R_e (W_r (aA rfl (aA rfl (fB rfl rfl (aA rfl ?_)))))))
 refine R_e (bH ?_)
 refine bS (rVq (V.bool (decide (n≠n)))) (eM ?_)
 · simp
theorem sG (x y:Int):aS Tryz.prog 218 [(iV x),(iV y)] (iV (pB x y)):=by
 refine pW Tryz.func218 aEh fun hB=>?_
 unfold aJ0
 dsimp only
 refine W_r (aA rfl (R_e (W_r (aA rfl (aX (wD x) rfl (aA rfl (R_e ?_)))))))
 refine W_r (aA rfl (aX (wD y) rfl (aA rfl (R_e (aB (W_r (aA rfl ?_)))))))
 refine R_e ?_
 refine dR rfl (fun c1=>?_) (fun c1=>?_)
 · cases c1
 refine aG (aB (W_r (aA rfl (R_e ?_))))
 refine dR rfl (fun c2=>?_) (fun c2=>?_)
 · cases c2
 refine aG (aB (W_r (aA rfl (aA rfl (bO rfl rfl (R_e ?_))))))
 refine aJ rfl (fun c3=>?_) fun c3=>?_
 ·
  refine aB (W_r (aA rfl (R_e (bC ?_))))
  refine bS (rVq (iV (-1))) (aW ?_)
  · unfold pB; repeat (split <;> first|rfl|omega|skip)
 refine aG (aB (W_r (aA rfl (aA rfl (jV rfl rfl (R_e ?_))))))
 refine aJ rfl (fun c4=>?_) fun c4=>?_
 ·
  refine aB (W_r (aA rfl (R_e (bC ?_))))
  refine bS (rVq (iV 1)) (aW ?_)
  · unfold pB; repeat (split <;> first|rfl|omega|skip)
 refine aG (W_r (aA rfl (R_e (bH ?_))))
 refine bS (rVq (iV 0)) (aW ?_)
 · unfold pB; repeat (split <;> first|rfl|omega|skip)
end Go.Proofs.YtmnnhjhkaepbaaaGreat
