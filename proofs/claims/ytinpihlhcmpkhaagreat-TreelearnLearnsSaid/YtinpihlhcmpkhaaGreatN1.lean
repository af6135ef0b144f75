/- Contracts of the functions that the law N reaches, and the law itself, for every input; no condition. -/
import Derived.KernelRfl
import Derived.Sort.Statements
import Derived.Test.YtinpihlhcmpkhaaGreatProg
import Derived.Test.YtinpihlhcmpkhaaGreatLay3
set_option linter.unusedSimpArgs false
set_option linter.unusedVariables false
set_option maxRecDepth 20000
set_option maxHeartbeats 1000000
namespace Go.Proofs.YtinpihlhcmpkhaaGreat
section
open Go
def fe (e:Nat->Int) (k:Nat):Nat->Int
  |0=>0
  |n+1=>if e k=0 then fe e (k+1) n else e k
theorem gH {e:Nat->Int} {k N:Nat} (h:e k≠0) (hk:k < N):fe e k (N - k)=e k:=by
  obtain ⟨n,hn⟩: ∃ n,N - k=n+1:=⟨N - k - 1,OM⟩;rw [hn]; simp [fe,h]
theorem gW {e:Nat->Int} {k N:Nat} (h:e k=0) (hk:k < N):fe e k (N - k)=fe e (k+1) (N - (k+1)):=by
  obtain ⟨n,hn⟩: ∃ n,N - k=n+1:=⟨N - k - 1,OM⟩
  grind [fe]
theorem jK {e:Nat->Int} {k N:Nat} (hk:N<=k):fe e k (N - k)=0:=by rw [show N - k=0 by omega]; rfl
theorem cW {e:Nat->Int}: ∀ {n k:Nat},fe e k n=0↔ ∀ j,k<=j->j < k+n->e j=0:=by
  intro n
  induction n <;> grind [fe]
def fi (p:Nat->Bool) (k:Nat):Nat->Int
  |0=> -1
  |n+1=>if p k then k else fi p (k+1) n
theorem qZ {p:Nat->Bool} {k N:Nat} (h:p k=true) (hk:k < N):fi p k (N - k)=k:=by
  obtain ⟨n,hn⟩: ∃ n,N - k=n+1:=⟨N - k - 1,OM⟩;rw [hn]; simp [fi,h]
theorem mX {p:Nat->Bool} {k N:Nat} (h:p k=false) (hk:k < N):fi p k (N - k)=fi p (k+1) (N - (k+1)):=by
  obtain ⟨n,hn⟩: ∃ n,N - k=n+1:=⟨N - k - 1,OM⟩
  grind [fi]
theorem pF {p:Nat->Bool} {k N:Nat} (hk:N<=k):fi p k (N - k)= -1:=by rw [show N - k=0 by omega]; rfl
theorem aQn (p:Nat->Bool) (c:Int) (hc:c≠0): ∀ n k,decide (0<=fi p k n)=decide (fe (λj=>if p j then c else 0) k n=c)/\(fe (λj=>if p j then c else 0) k n=0\/fe (λj=>if p j then c else 0) k n=c):=by
  intro n
  induction n <;> grind [fi,fe]
theorem cV {α:Type} [Inhabited α] {l:List α} {k:Nat} (h:k < l.length):l.take (k+1)=l.take k++[aA l k]:=by grind [bL,List.take_succ_eq_append_getElem]
def wE (w:List Int) (n:Int) (k:Nat):Int:=if aA w k < 0\/n<=aA w k then 1 else 0
def cP (w:List Int) (n:Int):Int:=
  if n < 1\/1024 < n then 2 else if 1024 < w.length then 3 else fe (wE w n) 0 w.length
structure M where
  i:Int
  s:Int
  nx:List (List Int)
  ot:List (List Int)
abbrev mC (m:M):List V:=[iV m.i,iV m.s,aC m.nx,aC m.ot]
def cell (l:List (List Int)) (s a:Int):Int:=aA (aA l s.toNat) a.toNat
def aB7 (m:M) (s a:Nat):Int:=if aA (aA m.nx s) a < 0\/m.nx.length<=aA (aA m.nx s) a\/aA (aA m.ot s) a < 0\/1048576 < aA (aA m.ot s) a then 2 else 0
def wP (m:M) (s:Nat):Int:=
  if ((aA m.nx s).length:Int)≠m.i\/((aA m.ot s).length:Int)≠m.i then 1
  else fe (aB7 m s) 0 m.i.toNat
def bK (m:M):Int:=
  if m.i < 1\/64 < m.i then 2 else if m.nx.length=0 then 19 else if 128 < m.nx.length then 11 else if m.s < 0\/m.nx.length<=m.s then 2
  else if m.ot.length≠m.nx.length then 1 else fe (wP m) 0 m.nx.length
def aV (m:M):Int->List Int->List Int
  |_,[]=>[]
  |s,a::w=>cell m.ot s a::aV m (cell m.nx s a) w
def eJ (m:M):Int->List Int->Int
  |s,[]=>s
  |s,a::w=>eJ m (cell m.nx s a) w
theorem gI (m:M): ∀ (w:List Int) (s:Int),(aV m s w).length=w.length
  |[],_=>rfl
  |a::w,s=>by simp [aV,gI m w]
theorem gP (m:M): ∀ (u v:List Int) (s:Int),aV m s (u++v)=aV m s u++aV m (eJ m s u) v
  |[],_,_=>rfl
  |a::u,v,s=>by simp [aV,eJ,gP m u v]
theorem kW (m:M): ∀ (u v:List Int) (s:Int),eJ m s (u++v)=eJ m (eJ m s u) v
  |[],_,_=>rfl
  |a::u,v,s=>by simp [eJ,kW m u v]
theorem aAG (m:M) (s:Int) {w:List Int} {k:Nat} (h:k < w.length):aV m s (w.take (k+1))=aV m s (w.take k)++[cell m.ot (eJ m s (w.take k)) (aA w k)]:=by rw [cV h,gP]; rfl
theorem aAu (m:M) (s:Int) {w:List Int} {k:Nat} (h:k < w.length):eJ m s (w.take (k+1))=cell m.nx (eJ m s (w.take k)) (aA w k):=by rw [cV h,kW]; rfl
theorem cY {m:M} (h:bK m=0):1<=m.i/\m.i<=64/\0 < m.nx.length/\m.nx.length<=128/\0<=m.s/\m.s < m.nx.length/\m.ot.length=m.nx.length/\
    (∀ s,s < m.nx.length->((aA m.nx s).length:Int)=m.i/\((aA m.ot s).length:Int)=m.i/\ ∀ a:Nat,a < m.i->0<=aA (aA m.nx s) a/\aA (aA m.nx s) a < m.nx.length/\0<=aA (aA m.ot s) a/\aA (aA m.ot s) a<=1048576):=by
  unfold bK at h;split at h; · cases h
  rename_i h1;split at h; · cases h
  rename_i h2;split at h; · cases h
  rename_i h3;split at h; · cases h
  rename_i h4;split at h; · cases h
  rename_i h5;refine ⟨OM,OM,OM,OM,OM,OM,OM,λs hs=>?_⟩;have h6:=cW.1 h s (Nat.zero_le _) OM;unfold wP at h6;split at h6; · cases h6
  simp_all [cW,aB7]
theorem dO {w:List Int} {n:Int} (h:cP w n=0):w.length<=1024/\ ∀ k,k < w.length->0<=aA w k/\aA w k < n:=by grind [cP,cW,wE]
theorem qR {m:M} (h:bK m=0): ∀ (w:List Int) (s:Int),0<=s->s < m.nx.length->(∀ k,k < w.length->0<=aA w k/\aA w k < m.i)->0<=eJ m s w/\eJ m s w < m.nx.length
  |[],s,h0,h1,_=>⟨h0,h1⟩
  | a :: w, s, h0, h1, hw => by
    have ha:0<=a/\a < m.i:=by simpa [aA] using hw 0 SI
    have hc:=(cY h).2.2.2.2.2.2.2 s.toNat OM;have hr:=hc.2.2 a.toNat OM;refine qR h w (cell m.nx s a) ?_ ?_ λk hk=>by simpa [aA] using hw (k+1) (by simp; omega)
    . exact hr.1
    . exact hr.2.1
theorem aJ7 {m:M} (h:bK m=0) {w:List Int} {s:Int} (h0:0<=s) (h1:s < m.nx.length) (hw: ∀ k,k < w.length->0<=aA w k/\aA w k < m.i) (k:Nat):0<=eJ m s (w.take k)/\eJ m s (w.take k) < m.nx.length:=by
  refine qR h _ s h0 h1 λj hj=>?_
  grind [aA]
def stE (m:M) (s:Int):Int:=if bK m≠0 then bK m else if s < 0\/(m.nx.length:Int)<=s then 2 else 0
def inE (w:List Int) (n:Int) (k:Nat):Bool:=decide (aA w k < 0\/n<=aA w k)
theorem aSq (w:List Int) (n:Int):wE w n=λj=>if inE w n j then 1 else 0:=by funext j; simp [wE,inE]
theorem aP5 (w:List Int) (n:Int) (c k:Nat):(0<=fi (inE w n) k c↔fe (wE w n) k c=1)/\(fe (wE w n) k c=0\/fe (wE w n) k c=1):=by
  rw [aSq];have h:=aQn (inE w n) 1 DE c k
  grind
theorem aQR {m:M} {s:Int} (h:stE m s=0):bK m=0/\0<=s/\s < m.nx.length:=by grind [stE]
def wX (m:M) (s:Int) (w:List Int):Int:=if stE m s≠0 then stE m s else cP w m.i
def gQ (m:M) (s:Int) (w:List Int):List Int:=if wX m s w≠0 then [] else aV m s w
def aAK (m:M) (s:Int) (w:List Int):Int:=if wX m s w≠0 then 0 else eJ m s w
theorem aNx {m:M} (hm:bK m=0) {s:Int} (hs:0<=s/\s < m.nx.length) {w:List Int} (hw: ∀ k,k < w.length->0<=aA w k/\aA w k < m.i) {k:Nat} (hk:k < w.length):
    (0<=eJ m s (w.take k)/\eJ m s (w.take k) < m.nx.length/\m.ot.length=m.nx.length)/\0<=aA w k/\aA w k < (aA m.nx (eJ m s<|w.take k).toNat).length/\aA w k < (aA m.ot (eJ m s<|w.take k).toNat).length:=by simp_all [aJ7,cY]
structure Hy where
  m:M
  acc:List (List Int)
def mG (h:Hy) (s:Nat):Int:=
  if cP (aA h.acc s) h.m.i≠0 then cP (aA h.acc s) h.m.i else if eJ h.m h.m.s (aA h.acc s)≠s then 15 else 0
def gG (h:Hy):Int:=
  if bK h.m≠0 then bK h.m else if h.acc.length≠h.m.nx.length then 1
  else if fe (mG h) 0 h.acc.length≠0 then fe (mG h) 0 h.acc.length else if (aA h.acc h.m.s.toNat).length≠0 then 10 else 0
theorem aE6 {h:Hy} (hv:bK h.m=0) (k:Nat):mG h k=if wX h.m h.m.s (aA h.acc k)≠0 then wX h.m h.m.s (aA h.acc k) else if aAK h.m h.m.s (aA h.acc k)≠k then 15 else 0:=by simp_all [cY,wX,stE,aAK,mG]
end
section
open Go
def gC:List Int->List Int->Nat
  |a::l,b::m=>if a=b then gC l m+1 else 0
  |_,_=>0
theorem fX {α:Type} [Inhabited α] (a:α) (l:List α):aA (a::l) 0=a:=J
theorem jD {α:Type} [Inhabited α] (a:α) (l:List α) (k:Nat):aA (a::l) (k+1)=aA l k:=J
theorem gR: ∀ (a b:List Int),gC a b<=a.length/\gC a b<=b.length/\(∀ j,j < gC a b->aA a j=aA b j)/\(gC a b < a.length->gC a b < b.length->aA a (gC a b)≠aA b (gC a b))
  |[],b=>by simp [gC]
  |a::l,[]=>by simp [gC]
  | a :: l, b :: m => by
    obtain ⟨h1,h2,h3,h4⟩:=gR l m;by_cases e:a=b
    . subst e
      simp only [gC,if_true,List.length_cons];refine ⟨OM,OM,λj hj=>?_,λg1 g2=>by simpa [jD] using h4 OM OM⟩;cases j with
      |zero=>rfl
      |succ j=>grind [jD]
    . simp only [gC,if_neg e,List.length_cons]
      exact ⟨OM,OM,λj hj=>by omega,λ_ _=>e⟩
theorem kJ (a b:List Int):gC a b<=a.length:=(gR a b).1
theorem mJ (a b:List Int):gC a b<=b.length:=(gR a b).2.1
theorem yE {a b:List Int} {k:Nat} (hc:k<=gC a b) (ha:k < a.length) (hb:k < b.length) (e:aA a k=aA b k):k+1<=gC a b:=by grind [gR]
theorem tO {a b:List Int} {k:Nat} (hc:k<=gC a b) (h:a.length<=k\/b.length<=k\/aA a k≠aA b k):gC a b=k:=by grind [gR]
theorem xZ (a b:List Int):gC a b=gC b a:=by grind [gR]
theorem aFx (a:List Int):gC a a=a.length:=by induction a <;> grind [gC]
theorem jU {α:Type} [Inhabited α] {l:List α} {n j:Nat} (h:j < n):aA (l.take n) j=aA l j:=by grind [aA]
theorem vD {α:Type} [Inhabited α] {l:List α} {n j:Nat}:aA (l.drop n) j=aA l (n+j):=by grind [aA]
theorem dB {α:Type} [Inhabited α] {l m:List α} {j:Nat} (h:j < l.length):aA (l++m) j=aA l j:=by grind [aA]
theorem iC {α:Type} [Inhabited α] {l m:List α} {j:Nat}:aA (l++m) (l.length+j)=aA m j:=by grind [aA]
theorem lO {α β:Type} [Inhabited α] [Inhabited β] {f:α->β} {l:List α} {j:Nat} (h:j < l.length):aA (l.map f) j=f (aA l j):=by rw [<- bL (by simpa using h),<- bL h,List.getElem_map]
theorem bC {α:Type} [Inhabited α] {l:List α} {j:Nat} (h:j < l.length):aA l j∈l:=by rw [<- bL h]; exact List.getElem_mem h
theorem dZ {α:Type} [Inhabited α] {l:List α} {x:α} (h:x∈l): ∃ j,j < l.length/\aA l j=x:=by grind [List.getElem_of_mem,bL]
theorem fU {α:Type} [Inhabited α] {l m:List α} (h1:l.length=m.length) (h2: ∀ j,j < l.length->aA l j=aA m j):l=m:=by grind [List.ext_getElem,bL]
def cX (a b:List Int):Int:=
  if gC a b=a.length/\gC a b=b.length then 0
  else if gC a b=a.length\/(gC a b < b.length/\aA a (gC a b) < aA b (gC a b)) then -1 else 1
def fV (a b:List Int):Int:=if a.length < b.length then -1 else if b.length < a.length then 1 else cX a b
def aAi (x y:Int):Int:=if x < y then -1 else if y < x then 1 else 0
def orI:List Int->Int
  |[]=>0
  |x::l=>if x=0 then orI l else x
theorem aGK {l:List Int} {k:Nat} (h:k < l.length):orI (l.drop k)=if aA l k=0 then orI (l.drop (k+1)) else aA l k:=by rw [tY h]; rfl
theorem aDP {x y:Int}:aAi x y=0↔x=y:=by
  unfold aAi; split
  . omega
  . split <;> omega
theorem aKo {a b:List Int} (h1:gC a b=a.length) (h2:gC a b=b.length):a=b:=by grind [fU,gR]
theorem fI {a b:List Int}:cX a b=0↔a=b:=by grind [cX,aKo,aFx]
theorem iT {a b:List Int}:fV a b=0↔a=b:=by grind [fV,fI]
theorem aCo {a b:List Int} (h:cX a b < 0):0 < cX b a:=by grind [cX,xZ]
theorem uX {a b:List Int} (h:fV a b < 0):0 < fV b a:=by
  unfold fV at h ⊢;split at h
  . omega
  . split at h
    . omega
    simp_all [if_neg,aCo]
theorem aAd {a b:List Int} (h:0 < cX a b):cX b a < 0:=by grind [cX,gR]
theorem aJf {a b:List Int} (h:0 < fV a b):fV b a < 0:=by
  unfold fV at h ⊢;split at h
  . omega
  . split at h
    all_goals (simp_all [if_neg,aAd])
theorem aPw {a b c:List Int}:min (gC a b) (gC b c)<=gC a c:=by grind [gR]
theorem oS {a b c : List Int} (h1 : cX a b < 0) (h2 : cX b c < 0) : cX a c < 0 := by
  obtain ⟨g1,g2,g3,g4⟩:=gR a b;obtain ⟨f1,f2,f3,f4⟩:=gR b c;obtain ⟨e1,e2,e3,e4⟩:=gR a c;have m:=aPw (a:=a) (b:=b) (c:=c);unfold cX at h1 h2 ⊢;split at h1; · omega
  split at h1
  . split at h2; · omega
    split at h2
    . rename_i p1 p2 p3 p4
      by_cases q:gC a b < gC b c
      . grind
      . by_cases q':gC b c < gC a b
        . grind
        grind
    . omega
  . omega
theorem kU {a b c : List Int} (h1 : fV a b < 0) (h2 : fV b c < 0) : fV a c < 0 := by
  unfold fV at h1 h2 ⊢;split at h1
  . omega
  . split at h1
    . omega
    . split at h2
      . rw [if_pos OM]; omega
      . split at h2
        . omega
        . rw [if_neg OM,if_neg OM]; exact oS h1 h2
theorem aRb {a b c:List Int} (h1:fV a b<=0) (h2:fV b c<=0):fV a c<=0:=by
  by_cases e1:fV a b=0
  . rw [iT.1 e1]; exact h2
  . by_cases e2:fV b c=0
    . rw [<- iT.1 e2]; exact h1
    . have:=kU (a:=a) (b:=b) (c:=c) OM OM; omega
theorem aGE {a b:List Int} (h1:fV a b<=0) (h2:fV b a<=0):a=b:=by
  by_cases e:fV a b=0
  . exact iT.1 e
  . have:=uX (a:=a) (b:=b) OM; omega
def vK (p:Nat->Bool) (k:Nat):Nat->Bool
  |0=>false
  |n+1=>vK p k n||p (k+n)
theorem pV {p:Nat->Bool} {k:Nat}: ∀ {n:Nat},vK p k n=true↔ ∃ j,j < n/\p (k+j)=true
  |0=>by simp [vK]
  | n + 1 => by
    simp only [vK,Bool.or_eq_true,pV (n:=n)];constructor
    . rintro (⟨j,h1,h2⟩|h)
      . exact ⟨j,OM,h2⟩
      . exact ⟨n,OM,h⟩
    . rintro ⟨j,h1,h2⟩
      by_cases e:j=n
      . subst e; exact .inr h2
      . exact .inl ⟨j,OM,h2⟩
structure Tr where
  ni:List Int
  no:List Int
  deriving Inhabited
abbrev cT (t:Tr):List V:=[aD t.ni,aD t.no]
abbrev tV (t:Tr):V:=.agg (cT t)
@[simp] theorem aQc (l:List Tr):hY (l.map cT)=true:=by simp_all [iW]
structure Ob where
  i:Int
  tr:List Tr
  deriving Inhabited
def hp (w p:List Int):Bool:=decide (gC w p=p.length)
theorem kN {w p:List Int}:hp w p=true↔ ∃ x,w=p++x:=by
  simp only [hp,decide_eq_true_eq];constructor
  . intro h
    refine ⟨w.drop p.length,?_⟩
    have e:w.take p.length=p:=by
      have hl:=kJ w p;refine fU (by simp; omega) λj hj=>?_
      grind [jU,gR]
    grind [List.take_append_drop]
  . rintro ⟨x,rfl⟩
    refine tO ?_ (.inr (.inl (Nat.le_refl _)))
    have: ∀ k,k<=p.length->k<=gC (p++x) p:=by
      intro k
      induction k with
      |zero=>grind
      |succ k ih=>intro h; exact yE (ih OM) (by simp; omega) OM (dB OM)
    exact this _<|Nat.le_refl _
def tA (t:Tr) (k:Nat):Int:=if aA t.no k < 0\/1048576 < aA t.no k then 2 else 0
def vY (t:Tr) (n:Int):Int:=if cP t.ni n≠0 then cP t.ni n else if t.no.length≠t.ni.length then 1 else fe (tA t) 0 t.no.length
def dfE (a b:Tr) (k:Nat):Bool:=decide (aA a.no k≠aA b.no k)
def df (a b:Tr):Int:=fi (dfE a b) 0 (gC a.ni b.ni)
def trE (o:Ob) (k:Nat):Int:=
  if cP (aA o.tr k).ni o.i≠0 then cP (aA o.tr k).ni o.i else if (aA o.tr k).ni.length=0 then 19 else if vY (aA o.tr k) o.i≠0 then vY (aA o.tr k) o.i
  else if 0 < k/\0<=fV (aA o.tr<|k - 1).ni (aA o.tr k).ni then 10 else 0
def aD6 (o:Ob) (i k:Nat):Bool:=hp (aA o.tr k).ni (aA o.tr i).ni
def aBK (o:Ob) (i k:Nat):Bool:=decide (0<=df (aA o.tr i) (aA o.tr k))
def apE (o:Ob) (i:Nat):Int:=if vK (aD6 o i) (i+1) (o.tr.length - (i+1))=true then 7 else if vK (aBK o i) (i+1) (o.tr.length - (i+1))=true then 13 else 0
def jE (o:Ob):Int:=
  if o.i < 1\/64 < o.i then 2 else if 10000 < o.tr.length then 11 else if fe (trE o) 0 o.tr.length≠0 then fe (trE o) 0 o.tr.length else fe (apE o) 0 o.tr.length
structure Proper (t:Tr) (n:Int):Prop where
  len:t.no.length=t.ni.length
  lel:t.ni.length<=1024
  sym: ∀ k,k < t.ni.length->0<=aA t.ni k/\aA t.ni k < n
  out: ∀ k,k < t.no.length->0<=aA t.no k/\aA t.no k<=1048576
theorem aCn {t:Tr} {n:Int} (h:vY t n=0):Proper t n:=by
  unfold vY at h;split at h
  . contradiction
  . rename_i h1
    split at h
    . cases h
    . rename_i h2
      have h3:=dO (w:=t.ni) (n:=n) OM;refine ⟨OM,h3.1,h3.2,λk hk=>?_⟩
      grind [cW,tA]
theorem nT {p : Nat -> Bool} : ∀ {n k : Nat}, 0 <= fi p k n ↔ ∃ j, k <= j /\ j < k + n /\ p j = true
  |0,k=>by simp [fi]; omega
  | n + 1, k => by
    simp only [fi];split
    . rename_i h
      constructor
      . intro _; exact ⟨k,OM,OM,h⟩
      . intro _; omega
    . rename_i h
      rw [nT];constructor
      . rintro ⟨j,h1,h2,h3⟩; exact ⟨j,OM,OM,h3⟩
      . rintro ⟨j,h1,h2,h3⟩
        by_cases e:j=k
        . subst e; exact (h h3).elim
        . exact ⟨j,OM,OM,h3⟩
theorem qY {p:Nat->Bool}: ∀ {n k:Nat},0<=fi p k n->k<=(fi p k n).toNat/\(fi p k n).toNat < k+n/\p (fi p k n).toNat=true/\ ∀ j,k<=j->j < (fi p k n).toNat->p j=false
  |0,k=>by simp [fi]
  | n + 1, k => by
    simp only [fi];split
    . grind
    . rename_i h
      intro h0;obtain ⟨h1,h2,h3,h4⟩:=qY h0
      grind
theorem aHj {a b:Tr}:0<=df a b↔ ∃ j,j < gC a.ni b.ni/\aA a.no j≠aA b.no j:=by simp_all [df,nT,dfE]
theorem aPa (a b:Tr):df a b=df b a:=by
  unfold df;rw [xZ];congr 1
  grind [dfE]
structure OK (o:Ob):Prop where
  hi:1<=o.i/\o.i<=64
  len:o.tr.length<=10000
  pr: ∀ k,k < o.tr.length->Proper (aA o.tr k) o.i/\0 < (aA o.tr k).ni.length
  ord: ∀ k,k+1 < o.tr.length->fV (aA o.tr k).ni (aA o.tr<|k+1).ni < 0
  pre: ∀ i k,i < k->k < o.tr.length->hp (aA o.tr k).ni (aA o.tr i).ni=false
  cla: ∀ i k,i < k->k < o.tr.length->df (aA o.tr i) (aA o.tr k) < 0
theorem lR {o:Ob} (h:jE o=0):OK o:=by
  unfold jE at h;split at h; · cases h
  rename_i h1;split at h; · cases h
  rename_i h2;split at h; · contradiction
  rename_i h3;have h3:=cW.1 (show fe (trE o) 0 o.tr.length=0 by omega);have h4:=cW.1 h
  have ht: ∀ k,k < o.tr.length->(aA o.tr k).ni.length≠0/\vY (aA o.tr k) o.i=0/\(0 < k->fV (aA o.tr<|k - 1).ni (aA o.tr k).ni < 0):=by
    grind [trE]
  have ha: ∀ i k,i < k->k < o.tr.length->aD6 o i k=false/\aBK o i k=false:=by
    intro i k h5 h6;have:=h4 i (Nat.zero_le _) OM;unfold apE at this;split at this; · cases this
    rename_i g1;split at this; · cases this
    rename_i g2;rw [pV] at g1 g2;constructor
    . by_cases e:aD6 o i k=true
      . exact (g1 ⟨k - (i+1),OM,by rw [show i+1+(k - (i+1))=k by omega]; exact e⟩).elim
      . simpa using e
    . by_cases e:aBK o i k=true
      . exact (g2 ⟨k - (i+1),OM,by rw [show i+1+(k - (i+1))=k by omega]; exact e⟩).elim
      . simpa using e
  refine ⟨OM,OM,λk hk=>⟨aCn (ht k hk).2.1,by have:=(ht k hk).1; omega⟩,λk hk=>?_,λi k h5 h6=>(ha i k h5 h6).1,λi k h5 h6=>?_⟩
  . grind
  grind [aBK]
def bH:List (List Int)->List Int
  |[]=>[]
  |w::l=>w++bH l
theorem wS: ∀ (l m:List (List Int)),bH (l++m)=bH l++bH m
  |[],_=>rfl
  |w::l,m=>by simp [bH,wS l m]
theorem zQ {l:List (List Int)} {k:Nat} (h:k < l.length):bH (l.take (k+1))=bH (l.take k)++aA l k:=by grind [cV,wS,bH]
theorem aA3 {l:List (List Int)} {k:Nat} (h:k < l.length):(bH (l.take k)).length+(aA l k).length<=(bH l).length:=by
  have e:bH l=bH (l.take<|k+1)++bH (l.drop<|k+1):=by rw [<- wS,List.take_append_drop]
  rw [e,zQ h]; simp
theorem aKP {α β:Type} [Inhabited α] {f:α->List β} {l:List α} {k:Nat} (h:k < l.length):(l.take (k+1)).flatMap f=(l.take k).flatMap f++f (aA l k):=by grind [cV]
def aSV (a b:List Int):Nat:=if gC a b < min a.length b.length then gC a b else 0
theorem aOa {h:Hy} (hh:gG h=0):bK h.m=0/\h.acc.length=h.m.nx.length/\ ∀ k,k < h.acc.length->cP (aA h.acc k) h.m.i=0/\eJ h.m h.m.s (aA h.acc k)=k:=by grind [gG,cW,mG]
theorem aJI {m:M} {w:List Int} (hm:bK m=0):wX m m.s w=cP w m.i:=by simp_all [cY,wX,stE]
theorem aMT {m:M} {w:List Int} (hm:bK m=0) (h:cP w m.i=0):aAK m m.s w=eJ m m.s w/\gQ m m.s w=aV m m.s w/\0<=eJ m m.s w/\eJ m m.s w < m.nx.length:=by
  have hv:=cY hm;have hw:=dO h
  simp_all [aJI,qR,aAK,gQ]
theorem iS {w:List Int} {n:Int} (hn:1<=n/\n<=1024) (hl:w.length<=1024) (hs: ∀ k,k < w.length->0<=aA w k/\aA w k < n):cP w n=0:=by grind [cP,cW,wE]
end
section
open Go
section
variable {P:Program} {T:Nat->V} {H:aT}
theorem bM {t:Nat} {u:V} (h:T t=u):pM T H (.tmp t)=some u:=by rw [<- h]; rfl
theorem cH {t m id ver row off:Nat} {g:Bool} {u:V} {B:Blk} (ha:T t=.mp id ver row off) (hH:H id=B) (hl:ldB g m B ver row off=some u):pM T H (.cell t g m)=some u:=by
  subst hH;simp only [pM,ha,ptr];unfold ldB at hl;split at hl
  . rename_i hc
    rw [if_pos (show ok H id ver=true from hc)];cases hr:(H id).rows[row]? with
    |none=>rw [hr] at hl; cases hl
    |some w=>rw [hr] at hl; exact hl
  . cases hl
theorem aK9 {s1:SRes} {u v:V} {n:Nat} (h1:pM T H s1=some u) (h2:fR true H n u=v):xN [s1] (λu G=>fR true G n u=v) .ret T H:=by
  simp only [xN,vZ,jA,h1,jG]; exact h2
theorem fF {s1 s2:SRes} {u1 u2 v1 v2:V} {n:Nat} (h1:pM T H s1=some u1) (h2:pM T H s2=some u2) (g1:fR true H n u1=v1) (g2:fR true H n u2=v2):xN [s1,s2] (λu G=>fR true G (n+1) u=.tup [v1,v2]) .ret T H:=by
  simp only [xN,vZ,jA,h1,h2,jG,fR,List.map_cons,List.map_nil,g1,g2]
theorem kE {s1 s2 s3:SRes} {u1 u2 u3 v1 v2 v3:V} {n:Nat} (h1:pM T H s1=some u1) (h2:pM T H s2=some u2) (h3:pM T H s3=some u3) (g1:fR true H n u1=v1) (g2:fR true H n u2=v2) (g3:fR true H n u3=v3):xN [s1,s2,s3] (λu G=>fR true G (n+1) u=.tup [v1,v2,v3]) .ret T H:=by
  simp only [xN,vZ,jA,h1,h2,h3,jG,fR,List.map_cons,List.map_nil,g1,g2,g3]
theorem lK {s1 s2 s3 s4:SRes} {u1 u2 u3 u4 v1 v2 v3 v4:V} {n:Nat} (h1:pM T H s1=some u1) (h2:pM T H s2=some u2) (h3:pM T H s3=some u3) (h4:pM T H s4=some u4) (g1:fR true H n u1=v1) (g2:fR true H n u2=v2) (g3:fR true H n u3=v3) (g4:fR true H n u4=v4):
    xN [s1,s2,s3,s4] (λu G=>fR true G (n+1) u=.tup [v1,v2,v3,v4]) .ret T H:=by
  simp only [xN,vZ,jA,h1,h2,h3,h4,jG,fR,List.map_cons,List.map_nil,g1,g2,g3,g4]
theorem mA {n:Nat} {l m:List V} (h:l.map (fR true H n)=m):fR true H (n+1) (.agg l)=.agg m:=by subst h; rfl
theorem eU {n:Nat} {u1 u2 v1 v2:V} (g1:fR true H n u1=v1) (g2:fR true H n u2=v2):fR true H (n+1) (.agg [u1,u2])=.agg [v1,v2]:=by
  simp only [fR,List.map_cons,List.map_nil,g1,g2]
theorem vH {n:Nat} {u1 u2 u3 v1 v2 v3:V} (g1:fR true H n u1=v1) (g2:fR true H n u2=v2) (g3:fR true H n u3=v3):fR true H (n+1) (.agg [u1,u2,u3])=.agg [v1,v2,v3]:=by
  simp only [fR,List.map_cons,List.map_nil,g1,g2,g3]
end
end
section
open Go
def jN (b b':Blk):Prop:=b.ver<=b'.ver/\(b'.live=false\/b'={b with ver:=b'.ver})
def tK (H H':aT):Prop:= ∀ j,jN (H j) (H' j)
def dK (S:List Nat) (H H':aT):Prop:= ∀ j,j∉S->jN (H j) (H' j)
theorem jN.refl (b:Blk):jN b b:=⟨Nat.le_refl _,.inr J⟩
theorem dK.start {S:List Nat} {H Hi:aT} (h: ∀ j,j∉S->H j=Hi j):dK S H Hi:=λj hj=>by rw [h j hj]; exact .refl _
theorem dK.put {S:List Nat} {H H':aT} {i:Nat} {b B:Blk} (h:dK (i::S) H H') (hi:H i=b) (hB:jN b B):dK S H (cU H' i B):=λj hj=>by
  by_cases e:j=i
  . subst e; rw [aR,hi]; exact hB
  . rw [bT _ _ e]; exact h j (by simp [e,hj])
theorem dK.putv {S:List Nat} {H H':aT} {i n:Nat} {B:Blk} (h:dK (i::S) H H') (hi:(H i).ver=n) (hn:n<=B.ver) (hd:B.live=false):dK S H (cU H' i B):=h.put J ⟨OM,.inl hd⟩
theorem dK.fin {H H':aT} (h:dK [] H H'):tK H H':=λj=>h j SI
theorem jN.eq {b B:Blk} (h:b=B):jN b B:=h ▸ .refl _
theorem jN.up {v n:Nat} {l z:Bool} {ty:TypeId} {sz:Nat} {rows rows':List (List V)} (h:v<=n) (hr:rows=rows'):jN ⟨v,l,z,ty,sz,rows⟩ ⟨n,l,z,ty,sz,rows'⟩:=⟨h,.inr (by subst hr; rfl)⟩
theorem jN.own {b b':Blk} (h:jN b b') (ho:b'.own=true):b'={b with ver:=b'.ver}/\b.own=true:=by
  rcases h.2 with h1|h1
  . have:=iK ho; rw [h1] at this; cases this
  . refine ⟨h1,?_⟩
    rw [h1] at ho; exact ho
def aC3 (x:Cx) (H':aT):Cx:={x with Z:=λb=>x.Z b\/ ∃ j,(x.H j).own=true/\(H' j).live=false/\b=x.σ j,H:=H'}
theorem yI {x : Cx} (hx : Inv x) {H' : aT} (h : tK x.H H') : Inv (aC3 x H') /\ Frame x (aC3 x H') := by
  generalize hy:aC3 x H'=y;have ew:y.w=x.w:=by rw [<- hy]; rfl
  have eh:y.H=H':=by rw [<- hy]; rfl
  have es:y.σ=x.σ:=by rw [<- hy]; rfl
  have ez: ∀ b,y.Z b↔x.Z b\/ ∃ j,(x.H j).own=true/\(H' j).live=false/\b=x.σ j:=λb=>by rw [<- hy]; exact Iff.rfl
  have hf:Frame x y:=by
    refine ⟨by rw [ew],by rw [ew],by rw [ew],by rw [ew]; exact Nat.le_refl _,λ_ _ _=>by rw [ew],λb h=>(ez b).2 (.inl h),λb hb=>?_,λi=>?_,λi ho=>?_,by rw [ew]; exact Nat.le_refl _,λi hl hv=>by
      have e:H' i=x.H i:=by
        rw [eh] at hl hv;rcases (h i).2 with h1|h1
        . rw [h1] at hl; cases hl
        . rw [h1]; show ({x.H i with ver:=(H' i).ver}:Blk)=x.H i; rw [hv]
      rw [eh,e]⟩
    . rcases (ez b).1 hb with h1|⟨j,h1,_,h3⟩
      . exact .inl h1
      . exact .inr (.inr ⟨j,h1,h3.symm⟩)
    rotate_left
    . rw [eh] at ho; rw [es]; exact .inl ⟨((h i).own ho).2,J⟩
    rw [eh,es,ew];refine ⟨(h i).1,λhl hv=>?_⟩
    have e:H' i=x.H i:=by
      rcases (h i).2 with h1|h1
      . have:(H' i).live=true:=hl
        rw [h1] at this; cases this
      . rw [h1]; show ({x.H i with ver:=(H' i).ver}:Blk)=x.H i; rw [show (H' i).ver=(x.H i).ver from hv]
    simp only [e];have hl':(x.H i).live=true:=by rw [<- e]; exact hl
    exact ⟨hl',trivial,trivial,λ_=>trivial,λ_=>⟨trivial,trivial⟩⟩
  refine ⟨⟨λb hb=>?_,λb i hb ho=>?_,λi ho=>?_,λi j hi hj he=>?_,hx.tab_of hf⟩,hf⟩
  . rw [ew]
    rcases (ez b).1 hb with h1|⟨j,h1,_,h3⟩
    . exact hx.zlt b h1
    . rw [h3]; exact hx.lt h1
  . rw [eh] at ho; rw [es]
    have ho':=((h i).own ho).2;rcases (ez b).1 hb with h1|⟨j,h1,h2,h3⟩
    . exact hx.zown b i h1 ho'
    . intro q
      have:=hx.inj i j ho' h1<|q.trans h3
      subst this;have:=iK ho; rw [h2] at this; cases this
  rotate_left
  . rw [eh] at hi hj; rw [es] at he
    exact hx.inj i j ((h i).own hi).2 ((h j).own hj).2 he
  rw [eh] at ho;obtain ⟨e,ho'⟩:=(h i).own ho;obtain ⟨dd,h1,h2,h3,h4⟩:=hx.blk i ho';have e1:(y.H i).rows=(x.H i).rows:=by rw [eh,e]
  have e2:(y.H i).sz=(x.H i).sz:=by rw [eh,e]
  have e3:(y.H i).obj dd=(x.H i).obj dd:=by rw [eh,e]; rfl
  rw [e1,e2,ew,es];exact ⟨dd,by rw [e3]; exact h1,h2,h3,λr row j v hr hj=>(h4 r row j v hr hj).frame hx hf⟩
def fD (H H':aT) (v v':V):Prop:= ∀ (x:Cx) (c:Value),x.H=H->Inv x->R x v c->R (aC3 x H') v' c
theorem fD.same {H H':aT} (h:tK H H') (v:V):fD H H' v v:=λx c e hx r=>by
  subst e; exact r.frame hx (yI hx h).2
theorem fD.nil {H H':aT}:fD H H' .nilsl (.sl []):=λx c e hx r=>by
  cases r; exact .slnil
theorem fD.ms {H H':aT} (h:tK H H') {id ver n off len:Nat} (hl:(H id).live=true) (hv:(H id).ver=ver) (hl':(H' id).live=true) (hv':(H' id).ver=n):fD H H' (.ms id ver off len) (.ms id n off len):=λx c e hx r=>by
  subst e
  have e:H' id={x.H id with ver:=n}:=by
    rcases (h id).2 with h1|h1
    . rw [h1] at hl'; cases hl'
    . rw [hv'] at h1; exact h1
  cases r with
  | ms id ver off len b m cap hv1 hh hm =>
    refine .ms _ _ _ _ _ _ _ (by rw [show (aC3 x H').H id=H' id from J,hv']; exact Nat.le_refl _) (λ_ _=>?_) λ_ _=>by
      have:=hm hv hl;simp only [aC3,e];exact this
    have:=hh hv hl;simp only [aC3,e];exact this
theorem fD.frz {H H' : aT} (h : tK H H') {id ver len : Nat} {rows : List (List V)} (hl : (H id).live = true) (hv : (H id).ver = ver) (hd : (H' id).live = false) (hr : (H id).rows.take len = rows) : fD H H' (.ms id ver 0 len) (.sl rows) := λx c e hx r => by
  subst e;have hf:=(yI hx h).2;subst hr;cases r with
  | ms id ver off len b m cap hv1 hh hnm =>
    obtain ⟨e1,e2,e3,e4,e5,e6⟩:=hh hv hl;subst e1;rw [Nat.zero_add] at e4;have hlen:((x.H id).rows.take m).length=m:=by simp; omega
    cases ho:(x.H id).own with
    | false =>
      have e8:=e6 ho;have hm:m=0:=OM
      subst hm; subst e8;simpa using R.sl0 _
    | true =>
      obtain ⟨e7,e8⟩:=e5 ho;subst e7;obtain ⟨cc,h1,h2,h3,h4⟩:=hx.cel id ho<|hnm hv hl
      have hidx: ∀ (r:Nat) (row:List V),((x.H id).rows.take m)[r]?=some row->(x.H id).rows[r]?=some row:=by
        intro r row hr;simp only [List.getElem?_take] at hr;split at hr
        . exact hr
        . cases hr
      have key:=R.sl (x:=aC3 x H') ((x.H id).rows.take m) ⟨x.σ id,0,none⟩ cap (x.H id).sz
        (λk=>cc.getD k undef) OM e3 (λ_=>.inr ⟨id,ho,hd,J⟩)
        (λr hr=>h2 r<|List.mem_of_mem_take hr)
        (λr row q v hr hj=>by
          have h8:=hidx _ _ hr;have h9:=(iH h2 h3 h8 hj).1;rw [Addr.add_lit];show x.w.cell? _=_;rw [lL h1 OM];simp)
        (λr row q v hr hj=>(h4 _ _ _ _ (hidx _ _ hr) hj).frame hx hf)
      rw [hlen] at key;simpa using key
theorem fD.tup2 {H H':aT} {a b a' b':V} (h1:fD H H' a a') (h2:fD H H' b b'):fD H H' (.tup [a,b]) (.tup [a',b']):=λx c e hx r=>by
  cases r with
  | tup vs cs hs hr =>
    refine .tup _ cs (by simpa using hs) λj v hj=>?_
    match j,hj with
    |0,hj=>cases hj; exact h1 x _ e hx (hr 0 a rfl)
    |1,hj=>cases hj; exact h2 x _ e hx (hr 1 b rfl)
    |n+2,hj=>simp at hj
theorem fD.trans_eq {H H':aT} {a b b':V} (h:fD H H' a b) (e:b=b'):fD H H' a b':=e ▸ h
section
variable {P:Program} {op:Opt} {k0:Nat}
theorem aE9 {f : Nat} {fn : Func} {s : SF} (hf : P.funcs[f]? = some fn) (hs : lX P op fn = some s) (hn : (fn.name == "runtime.NumGoroutine") = false) {args : List V} {H : aT} {v : V} {H' : aT}
    (hl:args.length<=s.n) (hW:lI args=true->W P k0 s.body (xN s.res λu G=>tK G H'/\fD G H' u v) (T0 args) H):fH P f args H v H':=by
  refine ⟨uU hf hs hn,λx cs hxH hx hr=>?_⟩;subst hxH;refine (aBG hf hs hl (hW hr.bnd) hx hr).mono λe w' h=>?_;obtain ⟨c,u,y,h1,h2,⟨h3,h4⟩,h5,h6,h7⟩:=h;obtain ⟨z1,z2⟩:=yI h5 h3;exact ⟨c,aC3 y H',h1,h2,J,z1,h4 y c J h5 h6,h7.trans z2⟩
variable {T:Nat->V} {H H':aT}
theorem lU {t:Nat} {u v:V} (h:T t=u) (hH:tK H H') (hv:fD H H' u v):xN [.tmp t] (λu G=>tK G H'/\fD G H' u v) .ret T H:=by
  simp only [xN,vZ,jA,pM,h,jG]; exact ⟨hH,hv⟩
theorem aEU {t1 t2:Nat} {u1 u2 v1 v2:V} (h1:T t1=u1) (h2:T t2=u2) (hH:tK H H') (hv1:fD H H' u1 v1) (hv2:fD H H' u2 v2):xN [.tmp t1,.tmp t2] (λu G=>tK G H'/\fD G H' u (.tup [v1,v2])) .ret T H:=by
  simp only [xN,vZ,jA,pM,h1,h2,jG]; exact ⟨hH,hv1.tup2 hv2⟩
theorem aLY (hH:tK H H'):xN [] (λu G=>tK G H'/\fD G H' u (.tup [])) .ret T H:=by
  simp only [xN,vZ,jA,jG]; exact ⟨hH,.same hH _⟩
end
end
section
open Go
section
variable {P:Program} {k0:Nat} {K:(Nat->V)->aT->Prop} {T:Nat->V} {H:aT} {r:List SO} {d:Nat} {a b c:SX} {v u:V}
theorem qU {e id ver off len n:Nat} {B:Blk} {k:IntKind} {x:SX} (ha:ev T a=.ms id ver off len) (hx:ev T x=.int k (n:Nat)) (hH:H id=B) (hok:okB B ver=true) (hs:B.sz=e) (hn:n<=len)
    (h:dE P k0 r (cU T d (.ms id ver off n)) H K):dE P k0 (⟨none,some d,.slice e a none (some x)⟩::r) T H K:=by
  subst hH;refine stp (v:=.ms id ver off n) (λ_=>J) ?_ h;rw [ha];simp only [Option.map_some,Option.map_none,oX,iE,aK1,hx,Option.bind_some];have h0:(0:Int)<=(n:Int):=OM
  rw [if_pos h0];simp only [Option.bind_some,Int.toNat_natCast];rw [if_pos (show ok H id ver=true from hok),if_pos hs,if_pos (Nat.zero_le _),if_pos hn]
  grind
theorem kL {e id ver off len n:Nat} {B:Blk} {k:IntKind} {x:SX} (ha:ev T a=.ms id ver off len) (hx:ev T x=.int k (n:Nat)) (hH:H id=B) (hok:okB B ver=true) (hs:B.sz=e) (hn:n < len)
    (h:dE P k0 r (cU T d (.ms id ver (off+n) (len - n))) H K):dE P k0 (⟨none,some d,.slice e a (some x) none⟩::r) T H K:=by
  subst hH;refine stp (v:=.ms id ver (off+n) (len - n)) (λ_=>J) ?_ h;rw [ha];simp only [Option.map_some,Option.map_none,oX,iE,aK1,hx,Option.bind_some];have h0:(0:Int)<=(n:Int):=OM
  rw [if_pos h0];simp only [Option.bind_some,Int.toNat_natCast];rw [if_pos (show ok H id ver=true from hok),if_pos hs,if_pos OM,if_pos (Nat.le_refl _),if_pos hn]
theorem aMA {α:Type} {id ver ty sz m n:Nat} {lz:Bool} {f:α->List V} {l:List α} {z:List V} (ha:ev T a=.ms id ver m n) (hH:H id=⟨ver,true,lz,ty,sz,l.map f⟩) (hz:z.length=sz) (hz0:z.length≠0) (hone:z.all V.one=true)
    (hm:m < l.length) (hn:m+n=l.length)
    (h:dE P k0 r T (cU H id ⟨ver,true,lz,ty,sz,(l.take m).map f++List.replicate n z⟩) K):dE P k0 (⟨none,none,.clr z a⟩::r) T H K:=by
  simp only [dE,St];refine aEb (x:=cU H id ⟨ver,true,lz,ty,sz,(l.take m).map f++List.replicate n z⟩) ?_ h
  grind [aMh,List.map_take]
theorem pB: ∀ (vs p r:List V),r.length=vs.length->iO (p++r) p.length vs=p++vs
  | [], p, r, h => by cases r with
    |nil=>rfl
    |cons a r=>simp at h
  | v :: vs, p, r, h => by
    cases r with
    |nil=>simp at h
    | cons a r =>
      have e:(p++a::r).set p.length v=(p++[v])++r:=by simp
      rw [iO,e,show p.length+1=(p++[v]).length by simp,pB vs (p++[v]) r (by simpa using h)];simp
theorem jM {α:Type} [Inhabited α] {n ver ty sz i:Nat} {lz:Bool} {f:α->List V} {l:List α} {vs:List V} {x:α} (h:i < l.length) (hv:vs=f x) (hn:vs.length=n) (hs:(f (aA l i)).length=n) (ho:vs.all V.one=true):
    stB ⟨ver,true,lz,ty,sz,l.map f⟩ ver i 0 n vs=some ⟨ver,true,lz,ty,sz,(l.set i x).map f⟩:=by
  subst hv;unfold stB;rw [if_pos (fJ OM),if_pos hn,if_pos ho];simp only [List.getElem?_map,xA h,Option.map_some];rw [if_pos OM];have:=pB (f x) [] (f<|aA l i) OM
  grind [List.map_set]
theorem aMd {n:Int} (h0:0<=n) (h:n < 18446744073709551616):IntKind.u64.wrap n=n:=by grind [IntKind.wrap,IntKind.bits,IntKind.signed]
theorem aJv {kd:IntKind} {n:Nat} (ha:ev T a=.int kd (n:Nat)) (hn:n < 9223372036854775808) (h:dE P k0 r (cU T d (.int .u64 (n:Nat))) H K):dE P k0 (⟨none,some d,.conv .u64 a⟩::r) T H K:=by
  refine stp (v:=.int .u64 (n:Nat)) (λ_=>J) ?_ h
  grind [aCH,aMd]
theorem aI5 {kd:IntKind} {n:Nat} (ha:ev T a=.int kd (n:Nat)) (hn:n < 9223372036854775808) (h:dE P k0 r (cU T d (iV (n:Nat))) H K):dE P k0 (⟨none,some d,.conv .i64 a⟩::r) T H K:=by
  refine stp (v:=iV (n:Nat)) (λ_=>J) ?_ h
  grind [aCH,aIN]
theorem aNb {n:Nat} (ha:ev T a=.int .u64 (n:Nat)) (hb:ev T b=.int .u64 1) (h:dE P k0 r (cU T d (.int .u64 ((n / 2:Nat):Int))) H K):dE P k0 (⟨none,some d,.bin .shr a b⟩::r) T H K:=by
  refine aLk ha hb ?_ h;simp only [qV,if_true];rw [if_neg DE];congr 2;show ((n:Nat):Int).fdiv 2=_
  grind
theorem dG {e id ver len i:Nat} {B:Blk} {k:IntKind} (ha:ev T a=.ms id ver 0 len) (hb:ev T b=.int k (i:Nat)) (hH:H id=B) (hok:okB B ver=true) (hs:B.sz=e) (hi:i < len)
    (h:dE P k0 r (cU T d (.mp id ver i 0)) H K):dE P k0 (⟨none,some d,.idx e a b⟩::r) T H K:=by grind [pE]
theorem dS {e id ver len:Nat} {i:Int} {B:Blk} {k:IntKind} (ha:ev T a=.ms id ver 0 len) (hb:ev T b=.int k i) (hH:H id=B) (hok:okB B ver=true) (hs:B.sz=e) (h0:0<=i) (hi:i < len)
    (h:dE P k0 r (cU T d (.mp id ver i.toNat 0)) H K):dE P k0 (⟨none,some d,.idx e a b⟩::r) T H K:=by grind [aAr]
theorem aCk {α:Type} {ty e bytes i n:Nat} {z:List V} {f:α->List V} {x:α} {m q:Nat} (hi:k0+d=i) (hv:(H i).ver=n) (ha:ev T a=iV (m:Nat)) (hb:ev T b=iV (q:Nat)) (hz:z=f x) (h1:m<=q) (h2:q*bytes<=281474976710656) (h3:q<=9223372036854775807)
    (h:dE P k0 r (cU T d (.ms i (n+1) 0 m)) (cU H i ⟨n+1,true,false,ty,e,(List.replicate m x).map f⟩) K):dE P k0 (⟨none,some d,.mks ty e bytes z a b⟩::r) T H K:=by grind [aAS,List.map_replicate]
theorem fW {id n:Nat} (h:(H id).ver=n):(mF id H id).ver=n/\(mF id H id).live=false:=by subst h; simp [mF]
theorem gV {id j n:Nat} (h:(H j).ver=n/\(H j).live=false):(mF id H j).ver=n/\(mF id H j).live=false:=by
  by_cases e:j=id
  all_goals (simp_all [mF])
theorem wW {α:Type} {n id ver len:Nat} {B:Blk} {f:α->List V} {l:List α} (hH:H id=B) (hok:(B.live&&decide (B.ver=ver))=true) (hr:B.rows.take len=l.map f) (hc: ∀ a,fG (f a)=true):
    fR true H (n+1) (.ms id ver 0 len)=.sl (l.map f):=by grind [fR,List.map_congr_left,eD]
theorem uJ {α:Type} {len:Nat} {f:α->List V} {l:List α} (h:len=l.length):(l.map f).take len=l.map f:=by subst h; rw [show l.length=(l.map f).length by simp,List.take_length]
theorem uW {α:Type} {len:Nat} {f:α->List V} {l:List α} {r:List (List V)} (h:len=l.length):(l.map f++r).take len=l.map f:=by grind
end
theorem kM {H:aT} {n:Nat} {u1 v1:V} (g1:fR true H n u1=v1):fR true H (n+1) (.agg [u1])=.agg [v1]:=by grind [fR]
theorem pU {α:Type} {ver ty sz m:Nat} {lz:Bool} {f:α->List V} {l:List α} {z:List V} (h:0 < l.length):okB ⟨ver,true,lz,ty,sz,l.map f++List.replicate m z⟩ ver=true:=by cases l <;> grind [okB,Blk.own]
theorem aIr {α:Type} [Inhabited α] {f:α->List V} {l:List α} {m i:Nat} {z:List V} (h:i < l.length):(l.map f++List.replicate m z)[i]?=some (f (aA l i)):=by grind [xA]
theorem aIU {α:Type} [Inhabited α] {agg:Bool} {n ver ty sz i off m:Nat} {lz:Bool} {f:α->List V} {l:List α} {z:List V} {v:V} (h:i < l.length) (hg:ldV agg n ((f (aA l i)).drop off)=some v):
    ldB agg n ⟨ver,true,lz,ty,sz,l.map f++List.replicate m z⟩ ver i off=some v:=by
  unfold ldB;rw [if_pos (show (_&&_)=true from pU OM)]
  grind [aIr]
theorem aIh {α:Type} [Inhabited α] {n ver ty sz i m:Nat} {lz:Bool} {f:α->List V} {l:List α} {vs:List V} {x:α} {z:List V} (h:i < l.length) (hv:vs=f x) (hn:vs.length=n) (hs:(f (aA l i)).length=n) (ho:vs.all V.one=true):
    stB ⟨ver,true,lz,ty,sz,l.map f++List.replicate m z⟩ ver i 0 n vs=some ⟨ver,true,lz,ty,sz,(l.set i x).map f++List.replicate m z⟩:=by
  subst hv;unfold stB;rw [if_pos (pU OM),if_pos hn,if_pos ho];simp only [aIr h];rw [if_pos OM];have:=pB (f x) [] (f<|aA l i) OM
  grind [List.map_set]
theorem aIw {H:aT} {α:Type} {n id ver len:Nat} {B:Blk} {f:α->List V} {l m:List α} (hH:H id=B) (hok:(B.live&&decide (B.ver=ver))=true) (hr:B.rows.take len=l.map f) (hc: ∀ a,fG (f a)=true) (h:l=m):
    fR true H (n+1) (.ms id ver 0 len)=.sl (m.map f):=by grind [wW]
theorem tN {α:Type} [Inhabited α] {n ver ty sz i:Nat} {lz:Bool} {f:α->List V} {l:List α} {vs:List V} (h:i < l.length) (hn:vs.length=n) (hs:(f (aA l i)).length=n) (ho:vs.all V.one=true):
    stB ⟨ver,true,lz,ty,sz,l.map f⟩ ver i 0 n vs=some ⟨ver,true,lz,ty,sz,(l.map f).set i vs⟩:=by
  unfold stB;rw [if_pos (fJ OM),if_pos hn,if_pos ho];simp only [List.getElem?_map,xA h,Option.map_some];rw [if_pos OM];have:=pB vs [] (f<|aA l i) OM
  grind
theorem aQT {P:Program} {k0:Nat} {K:(Nat->V)->aT->Prop} {T:Nat->V} {H:aT} {r:List SO} {d:Nat} {a b:SX} {n:Nat} (ha:ev T a=iV (n:Nat)) (hb:ev T b=iV 2) (hn:n < 9223372036854775808)
    (h:dE P k0 r (cU T d<|iV ((n / 2:Nat):Int)) H K):dE P k0 (⟨none,some d,.bin .quo a b⟩::r) T H K:=by
  refine stp (v:=iV ((n / 2:Nat):Int)) (λ_=>J) ?_ h
  grind [qV,aIN]
theorem gU {K:(Nat->V)->aT->Prop} {T:Nat->V} {H:aT} {id id2 ver v2 ty ty2 i off len sz sz2:Nat} {lz lz2:Bool} {β:Type} {rows:List (List V)} {r:List V} {m:List β} {g:β->List V} (hne:id2≠id) (h1:H id=⟨ver,true,lz,ty,sz,m.map g⟩) (h2:H id2=⟨v2,true,lz2,ty2,sz2,rows.set i r⟩)
    (hi:i < rows.length) (hl:len=m.length) (hc:r[off]?=some (.ms id ver 0 len)) (h:G K (fzT id H T) (cU (mF id H) id2 ⟨v2,true,lz2,ty2,sz2,rows.set i (r.set off (.sl (m.map g)))⟩)):G K T H:=by
  subst hl;have hr:(H id2).rows[i]?=some r:=by rw [h2]; simp [hi]
  refine .frzCell id ver m.length id2 i off r hne (by rw [h1]) (by rw [h1]) (by rw [h2]; cases rows with
    |nil=>simp at hi
    |cons a l=>cases i <;> simp [Blk.own]) hr hc ?_
  have e:({H id2 with rows:=(H id2).rows.set i (r.set off (.sl ((H id).rows.take m.length)))}:Blk)=⟨v2,true,lz2,ty2,sz2,rows.set i (r.set off (.sl (m.map g)))⟩:=by
    rw [h2,h1];simp only [Blk.mk.injEq,true_and,List.set_set];rw [show m.length=(m.map g).length by simp,List.take_length]
  rw [e]; exact h
theorem aBW {α:Type} [Inhabited α] {f:α->List V} {l:List α} {i j:Nat} {r:List V} (h:i < l.length) (hne:i≠j):((l.map f).set j r)[i]?=some (f (aA l i)):=by grind [xA]
theorem aL2 {α:Type} {ver ty sz j:Nat} {lz:Bool} {f:α->List V} {l:List α} {r:List V} (h:0 < l.length):okB ⟨ver,true,lz,ty,sz,(l.map f).set j r⟩ ver=true:=by cases l <;> simp_all [okB,Blk.own]
theorem aK8 {α:Type} [Inhabited α] {agg:Bool} {n ver ty sz i j off:Nat} {lz:Bool} {f:α->List V} {l:List α} {r:List V} {v:V} (h:i < l.length) (hne:i≠j) (hg:ldV agg n ((f (aA l i)).drop off)=some v):
    ldB agg n ⟨ver,true,lz,ty,sz,(l.map f).set j r⟩ ver i off=some v:=by
  unfold ldB;rw [if_pos (show (_&&_)=true from aL2 OM)]
  grind [aBW]
theorem aGP {agg:Bool} {n ver ty sz i off:Nat} {lz:Bool} {rows:List (List V)} {r:List V} {v:V} (h:i < rows.length) (hg:ldV agg n (r.drop off)=some v):
    ldB agg n ⟨ver,true,lz,ty,sz,rows.set i r⟩ ver i off=some v:=by grind [Blk.own,ldB,List.getElem?_set_self]
theorem aGg {n ver ty sz i off:Nat} {lz:Bool} {rows:List (List V)} {r vs:List V} (h:i < rows.length) (hn:vs.length=n) (ho:vs.all V.one=true) (hf:off+n<=r.length):
    stB ⟨ver,true,lz,ty,sz,rows.set i r⟩ ver i off n vs=some ⟨ver,true,lz,ty,sz,rows.set i (iO r off vs)⟩:=by grind [okB,Blk.own,stB,List.getElem?_set_self,List.set_set]
theorem aI2 {T:Nat->V} {H H':aT} {s1:SRes} {u v:V} (h1:pM T H s1=some u) (hH:tK H H') (hv:fD H H' u v):xN [s1] (λu G=>tK G H'/\fD G H' u v) .ret T H:=by grind [xN,vZ,jA,jG]
theorem fD.agg1 {H H':aT} {a a':V} (h1:fD H H' a a'):fD H H' (.agg [a]) (.agg [a']):=λx c e hx r=>by
  cases r with
  | agg _ cs hs hr =>
    refine .agg _ cs (by simpa using hs) λj v hj=>?_
    match j,hj with
    |0,hj=>cases hj; exact h1 x _ e hx (hr 0 a rfl)
    |n+1,hj=>simp at hj
end
section
open Go
abbrev sO (d:Nat) (x:X):SO:=⟨none,some d,x⟩
abbrev qM (d a:Nat):SO:=sO d (.mv (.t a))
abbrev qI (d:Nat) (n:Int):SO:=sO d (.mv (.c (.int .i64 n)))
abbrev qL (d n a:Nat):SO:=sO d (.load true n (.t a))
abbrev ql (d a:Nat):SO:=sO d (.load false 1 (.t a))
abbrev qE (d a i:Nat):SO:=sO d (.ext (.t a) i)
abbrev qA (d e a i:Nat):SO:=sO d (.idx e (.t a) (.t i))
abbrev qN (d a:Nat):SO:=sO d (.len (.t a))
abbrev qP (d:Nat) (b:BinOp) (x y:Nat):SO:=sO d (.bin b (.t x) (.t y))
abbrev qC (d:Nat) (b:BinOp) (x:Nat) (n:Int):SO:=sO d (.bin b (.t x) (.c (.int .i64 n)))
abbrev bk (v:Nat) (ty sz:Nat) (rows:List (List V)):Blk:=⟨v,true,false,ty,sz,rows⟩
abbrev bz (v:Nat) (ty sz:Nat) (rows:List (List V)):Blk:=⟨v,true,true,ty,sz,rows⟩
section
variable {P:Program} {k0 d:Nat} {r:List SO} {T:Nat->V} {H:aT} {K:(Nat->V)->aT->Prop} {a b:SX} {v:V}
theorem aEu {f:Nat} {args:List SX} {as0:List V} (he:uF T args=as0) (hc:bJ P f as0 v) (h:dE P k0 r (cU T d v) H K)
    (h1:fG as0=true:=by simp [-List.map_take,-List.map_drop,-List.map_append,-List.map_reverse]) (h2:gB as0=true:=by simp [-List.map_take,-List.map_drop,-List.map_append,-List.map_reverse]):
    dE P k0 (⟨none,some d,.call false f args⟩::r) T H K:=kS he hc (eD _ _ h1) h2 (.inl h2) h
theorem aL {f:Nat} {args:List SX} {as0:List V} (hc:bJ P f as0 v) (he:uF T args=as0) (h:dE P k0 r (cU T d v) H K)
    (h1:fG as0=true:=by simp [-List.map_take,-List.map_drop,-List.map_append,-List.map_reverse]) (h2:gB as0=true:=by simp [-List.map_take,-List.map_drop,-List.map_append,-List.map_reverse]):
    dE P k0 (⟨none,some d,.call false f args⟩::r) T H K:=kS he hc (eD _ _ h1) h2 (.inl h2) h
theorem aMm {α:Type} {n id ver ty:Nat} {lz:Bool} {rows:List (List V)} {f:α->List V} {l:List α} (ha:ev T a=.ms id ver 0 l.length) (hb:ev T b=.sl (l.map f)) (hH:H id=⟨ver,true,lz,ty,n,rows⟩) (hlen:rows.length=l.length)
    (hf: ∀ q,(f q).length=n/\(f q).all V.one=true)
    (h:dE P k0 r (cU T d<|iV l.length) (cU H id ⟨ver,true,lz,ty,n,l.map f⟩) K):dE P k0 (⟨none,some d,.cpy n a b⟩::r) T H K:=by
  simp only [dE,St];refine aEb (x:=(l.length,cU H id ⟨ver,true,lz,ty,n,l.map f⟩)) ?_ h;rw [ha,hb]
  have hft:eV n (l.map f)=true:=by
    unfold eV;rw [List.all_eq_true];intro q hq;obtain ⟨p,_,rfl⟩:=List.mem_map.1 hq;simp [(hf p).1,(hf p).2]
  simp only [aLe,hH,nS];rw [if_pos SI,if_pos hft,if_pos trivial];rw [List.length_map,Nat.min_self,List.take_zero,List.nil_append,Nat.zero_add,List.take_of_length_le SI,List.drop_eq_nil_of_le OM,List.append_nil]
theorem aAC {α:Type} {ty e bytes id ver n:Nat} {lz:Bool} {l:List α} {f:α->List V} {z:List (List V)} (ha:ev T a=.ms id ver 0 n) (hH:H id=⟨ver,true,lz,ty,e,l.map f⟩) (hn:n=l.length) (hb:ev T b=.sl z) (hz:eV e z=true)
    (h2:(n+z.length)*bytes<=140737488355328) (h3:n+z.length<=9223372036854775807)
    (h:dE P k0 r (cU T d (.ms id (ver+1) 0 (n+z.length))) (cU H id ⟨ver+1,true,lz,ty,e,l.map f++z⟩) K):dE P k0 (⟨none,some d,.append ty e bytes a b⟩::r) T H K:=
  aB1 ha hH (by simpa using hn) (new:=z) (by rw [hb]; rfl) hz h2 h3 h
end
def nz:V->V
  | .nilsl=>.sl []
  |v=>v
theorem aR3 {x:Cx} {v:V} {c:Value} (r:R x v c):R x (nz v) c:=by
  cases v <;> first|exact r|(generalize hq:V.nilsl=q at r; cases r <;> cases hq; exact .slnil)
theorem aMq {K : (Nat -> V) -> aT -> Prop} {T : Nat -> V} {id i : Nat} {r : List V} : ∀ (j : Nat) {H : aT} {pre suf : List V}, r = pre ++ suf -> suf.length = j -> (H id).own = true -> (H id).rows[i]? = some (pre.map nz ++ suf) ->
    G K T (cU H id {H id with rows:=(H id).rows.set i (r.map nz)})->G K T H:=by
  intro j
  induction j with
  | zero =>
    intro H pre suf he hl ho hr h;have:=List.length_eq_zero_iff.1 hl;subst this
    have e:({H id with rows:=(H id).rows.set i (r.map nz)}:Blk)=H id:=by
      rw [he,List.append_nil];rw [List.append_nil] at hr
      have:(H id).rows.set i (pre.map nz)=(H id).rows:=by
        have hi:=(List.getElem?_eq_some_iff.1 hr).1;have:=(List.getElem?_eq_some_iff.1 hr).2;rw [<- this,List.set_getElem_self]
      rw [this]
    rw [e] at h;have e2:cU H id (H id)=H:=funext λk=>by unfold cU; split <;> simp_all
    rw [e2] at h; exact h
  | succ j ih =>
    intro H pre suf he hl ho hr h;cases suf with
    |nil=>simp at hl
    | cons v s =>
      refine .cell id i pre.length v (nz v) (pre.map nz++v::s) ho hr SI (λx c r=>aR3 r) ?_;have hi:=(List.getElem?_eq_some_iff.1 hr).1
      have e1:(pre.map nz++v::s).set pre.length (nz v)=(pre++[v]).map nz++s:=by
        rw [List.set_append_right _ _ SI];simp
      have ho2:({H id with rows:=(H id).rows.set i ((pre.map nz++v::s).set pre.length (nz v))}:Blk).own=true:=by
        unfold Blk.own at ho ⊢;cases hq:(H id).rows with
        |nil=>rw [hq] at hi; simp at hi
        |cons a l=>rw [hq] at ho; cases i <;> simpa using ho
      refine ih (H:=cU H id {H id with rows:=(H id).rows.set i ((pre.map nz++v::s).set pre.length (nz v))}) (pre:=pre++[v]) (suf:=s) (by rw [he]; simp) (by simpa using hl) (by rw [aR]; exact ho2) (by rw [aR,e1]; simp [hi]) ?_;rw [aR]
      have e3:cU (cU H id {H id with rows:=(H id).rows.set i ((pre.map nz++v::s).set pre.length (nz v))}) id {H id with rows:=((H id).rows.set i ((pre.map nz++v::s).set pre.length (nz v))).set i (r.map nz)}=cU H id {H id with rows:=(H id).rows.set i (r.map nz)}:=by
        funext k;by_cases e:k=id
        . subst e; simp only [aR,List.set_set]
        . simp only [bT _ _ e]
      rw [e3]; exact h
theorem aK6 {ver ty sz:Nat} {lz:Bool} {rows:List (List V)} (h:rows≠[]):(⟨ver,true,lz,ty,sz,rows⟩:Blk).own=true:=by
  cases rows with
  |nil=>exact (h rfl).elim
  |cons a l=>simp [Blk.own]
theorem aEr {K:(Nat->V)->aT->Prop} {T:Nat->V} {H:aT} {id i ver ty sz:Nat} {lz:Bool} {rows:List (List V)} {r r':List V} (hH:H id=⟨ver,true,lz,ty,sz,rows.set i r⟩) (hi:i < rows.length) (hr:r.map nz=r')
    (h:G K T (cU H id ⟨ver,true,lz,ty,sz,rows.set i r'⟩)):G K T H:=by
  refine aMq (id:=id) (i:=i) (r:=r) r.length (pre:=[]) (suf:=r) J J ?_ ?_ ?_
  . rw [hH]
    refine aK6 λe=>?_;have:=congrArg List.length e;simp at this; subst this; simp at hi
  . rw [hH]; simp [hi]
  . rw [hH]; simp only [List.set_set]; rw [hr]; exact h
theorem aOb {K:(Nat->V)->aT->Prop} {T:Nat->V} {id ver ty sz:Nat} {lz:Bool}: ∀ {raw:List (List V)} {H:aT} {pre:List (List V)},H id=⟨ver,true,lz,ty,sz,pre++raw⟩->
    G K T (cU H id ⟨ver,true,lz,ty,sz,pre++raw.map (List.map nz)⟩)->G K T H:=by
  intro raw
  induction raw with
  | nil =>
    intro H pre hH h;have e2:cU H id (H id)=H:=funext λk=>by unfold cU; split <;> simp_all
    rw [List.map_nil,<- hH,e2] at h; exact h
  | cons r raw ih =>
    intro H pre hH h;refine aMq (id:=id) (i:=pre.length) (r:=r) r.length (pre:=[]) (suf:=r) J J (by rw [hH]; exact aK6 SI) (by rw [hH]; simp) ?_;refine ih (pre:=pre++[r.map nz]) (by rw [aR,hH]; simp only [Blk.mk.injEq,true_and]; rw [List.set_append_right _ _ (Nat.le_refl _)]; simp) ?_
    have e3: ∀ b c:Blk,cU (cU H id b) id c=cU H id c:=λb c=>funext λk=>by
      by_cases e:k=id
      . subst e; simp only [aR]
      . simp only [bT _ _ e]
    rw [e3];simpa using h
theorem aBu {α:Type} {K:(Nat->V)->aT->Prop} {T:Nat->V} {H:aT} {id ver ty sz:Nat} {lz:Bool} {l m:List α} {f:α->List V} {raw:List (List V)} (hH:H id=⟨ver,true,lz,ty,sz,l.map f++raw⟩) (hr:raw.map (List.map nz)=m.map f)
    (h:G K T (cU H id ⟨ver,true,lz,ty,sz,(l++m).map f⟩)):G K T H:=by
  refine aOb hH ?_;rw [hr,<- List.map_append]; exact h
end
section
open Go
section
variable {P:Program} {k0:Nat} {Q:Ex->(Nat->V)->aT->Prop} {T:Nat->V} {H:aT}
theorem aU {ops:List SO} {b:SC} (h:dE P k0 ops T H λT H=>W P k0 b Q T H):W P k0 (.seq (.reg ops) b) Q T H:=
  ⟨k0,kK (λ_ _ h=>.done h) h⟩
theorem fO {ops:List SO} (h:dE P k0 ops T H λT H=>Q .norm T H):W P k0 (.reg ops) Q T H:=⟨k0,h⟩
theorem W_d {ops:List SO} {b:SC} {late:List Nat} (hl: ∀ d∈late,(H (k0+d)).live=false) (h:dE P k0 ops T H λT H=>W P k0 b Q T H):W P k0 (.seq (.dreg late ops) b) Q T H:=
  ⟨k0,hl,kK (λ_ _ h=>.done h) h⟩
theorem aRI {ops:List SO} {late:List Nat} (hl: ∀ d∈late,(H (k0+d)).live=false) (h:dE P k0 ops T H λT H=>Q .norm T H):W P k0 (.dreg late ops) Q T H:=⟨k0,hl,h⟩
end
theorem wD {H:aT} {k0:Nat}: ∀ d∈([]:List Nat),(H (k0+d)).live=false:=λ_ h=>by simp at h
theorem tD {H:aT} {k0 d:Nat} {l:List Nat} (h:(H (k0+d)).live=false) (hl: ∀ d∈l,(H (k0+d)).live=false): ∀ x∈d::l,(H (k0+x)).live=false:=by
  intro x hx;rcases List.mem_cons.1 hx with rfl|hx
  . exact h
  . exact hl _ hx
theorem oB {ver ty sz:Nat} {rows:List (List V)}:okB ⟨ver,true,false,ty,sz,rows⟩ ver=true:=by simp [okB,Blk.own]
theorem lB {agg:Bool} {n ver row off:Nat} {B:Blk} {r:List V} {v:V} (ho:okB B ver=true) (hr:B.rows[row]?=some r) (hv:ldV agg n (r.drop off)=some v):ldB agg n B ver row off=some v:=by
  unfold ldB; rw [if_pos (show (B.own&&decide (B.ver=ver))=true from ho),hr]; exact hv
theorem sB {n ver row off:Nat} {B B':Blk} {r vs:List V} (ho:okB B ver=true) (hn:vs.length=n) (ha:vs.all V.one=true) (hr:B.rows[row]?=some r) (hl:Nat.ble (off+n) r.length=true) (hB:{B with rows:=B.rows.set row (iO r off vs)}=B'):stB B ver row off n vs=some B':=by
  unfold stB; rw [if_pos ho,if_pos hn,if_pos ha,hr]; dsimp only; rw [if_pos (Nat.le_of_ble_eq_true hl),hB]
section
variable {P:Program} {k0 d:Nat} {r:List SO} {T:Nat->V} {H:aT} {K:(Nat->V)->aT->Prop} {a b:SX} {v:V}
theorem bB {agg:Bool} {n id ver row off ty sz:Nat} {rows:List (List V)} {rw:List V} (ha:ev T a=.mp id ver row off) (hH:H id=⟨ver,true,false,ty,sz,rows⟩) (hr:rows[row]?=some rw) (hv:ldV agg n (rw.drop off)=some v) (h:dE P k0 r (cU T d v) H K):
    dE P k0 (⟨none,some d,.load agg n a⟩::r) T H K:=cG ha hH (lB oB hr hv) h
theorem cQ {off id ver row o ty sz:Nat} {rows:List (List V)} (ha:ev T a=.mp id ver row o) (hH:H id=⟨ver,true,false,ty,sz,rows⟩) (h:dE P k0 r (cU T d (.mp id ver row (o+off))) H K):dE P k0 (⟨none,some d,.fld off a⟩::r) T H K:=
  aNM ha hH oB J h
theorem dA {n id ver row off ty sz:Nat} {rows:List (List V)} {B':Blk} {rw vs:List V} (ha:ev T a=.mp id ver row off) (hb:ev T b=v) (hc:v.cells=vs) (hH:H id=⟨ver,true,false,ty,sz,rows⟩) (hn:vs.length=n) (hl:vs.all V.one=true) (hr:rows[row]?=some rw)
    (hm:Nat.ble (off+n) rw.length=true) (hB:(⟨ver,true,false,ty,sz,rows.set row (iO rw off vs)⟩:Blk)=B') (h:dE P k0 r T (cU H id B') K):dE P k0 (⟨none,none,.store n a b⟩::r) T H K:=
  cZ ha hb hc hH (sB oB hn hl hr hm hB) h
end
theorem cE {P:Program} {k0:Nat} {T:Nat->V} {H:aT} {K:(Nat->V)->aT->Prop} (h:K T H):dE P k0 [] T H K:=h
end
section
open Go
theorem pW {P:Program} {op:Opt} {f:Nat} {fn:Func} {s:SF} {args:List V} {v:V} {B:Prop} (hf:P.funcs[f]?=some fn) (hs:lX P op fn=some s)
    (hW : B -> W P 0 s.body (xN s.res λu G => fR true G 6 u = v) (T0 args) H0) (hn : (fn.name == "runtime.NumGoroutine") = false := by kernel_rfl)
    (hl:Nat.ble args.length s.n=true:=by rfl) (ha:gB args=true:=by simp) (hv:v.pure=true:=by simp)
    (hb:lI args=true->B:=by intro hB; first|(simp only [mD,lP,jO,lV,mB,pC,lT,jR,implies_true,and_true,true_and] at hB; exact hB)|exact (λ_=>trivial) hB):bJ P f args v:=
  mL true 6 hf hs hn (Nat.le_of_ble_eq_true hl) ha hv λh=>hW<|hb h
theorem eW {P:Program} {op:Opt} {k0 f:Nat} {fn:Func} {s:SF} {args:List V} {H:aT} {v:V} {H':aT} {B:Prop} (hf:P.funcs[f]?=some fn) (hs:lX P op fn=some s)
    (hW : B -> W P k0 s.body (xN s.res λu G => tK G H' /\ fD G H' u v) (T0 args) H) (hn : (fn.name == "runtime.NumGoroutine") = false := by kernel_rfl)
    (hl:Nat.ble args.length s.n=true:=by rfl)
    (hb:lI args=true->B:=by intro hB; first|(simp only [mD,lP,jO,lV,mB,pC,lT,jR,implies_true,and_true,true_and] at hB; exact hB)|exact (λ_=>trivial) hB):fH P f args H v H':=
  aE9 hf hs hn (Nat.le_of_ble_eq_true hl) λh=>hW<|hb h
theorem bU {x:V} {p:Prop} [Decidable p] (h:p) (hx:x=V.bool (decide p)):x=V.bool true:=by rw [hx]; simp [h]
theorem bV {x:V} {p:Prop} [Decidable p] (h: ¬p) (hx:x=V.bool (decide p)):x=V.bool false:=by rw [hx]; simp [h]
theorem gZ {x:V} {b:Bool} (h:b=true) (hx:x=V.bool b):x=V.bool true:=by rw [hx,h]
theorem hC {x:V} {b:Bool} (h: ¬b=true) (hx:x=V.bool b):x=V.bool false:=by rw [hx,Bool.eq_false_iff.2 h]
theorem bQ {P:Program} {k0 d t:Nat} {r:List SO} {T:Nat->V} {H:aT} {K:(Nat->V)->aT->Prop} {w:Bool} {q:X} (ht:T t=.bool (!w)) (h:dE P k0 r (cU T d (.raw undef)) H K):
    dE P k0 (⟨some (t,w),some d,q⟩::r) T H K:=aSX ht (by cases w <;> decide) h
theorem aLG {n ver ty sz i:Nat} {lz:Bool} {rows:List (List V)} {r vs:List V} (hi:rows[i]?=some r) (hr:r.length=n) (hn:vs.length=n) (ho:vs.all V.one=true):
    stB ⟨ver,true,lz,ty,sz,rows⟩ ver i 0 n vs=some ⟨ver,true,lz,ty,sz,rows.set i vs⟩:=by
  have hok:okB ⟨ver,true,lz,ty,sz,rows⟩ ver=true:=by
    cases rows with
    |nil=>simp at hi
    |cons a l=>simp [okB,Blk.own]
  have hp:iO r 0 vs=vs:=pB vs [] r (by rw [hr,hn]);unfold stB;rw [if_pos hok,if_pos hn,if_pos ho,hi];dsimp only;rw [if_pos OM,hp]
theorem aKW {α:Type} [Inhabited α] {f:α->List V} {l:List α} {i j:Nat} {r s:List V} (hi:i < l.length) (hne:i≠j) (hs:s=f (aA l i)):((l.map f).set j r).set i s=(l.map f).set j r:=by
  have h:=aBW (f:=f) (r:=r) hi hne;obtain ⟨h1,h2⟩:=List.getElem?_eq_some_iff.1 h;rw [hs,<- h2,List.set_getElem_self]
section
variable {P:Program} {k0 d:Nat} {r:List SO} {T:Nat->V} {H:aT} {K:(Nat->V)->aT->Prop} {a b:SX} {x y x' y':Int}
theorem aQL (ha:ev T a=.agg [iV x,iV y]) (hb:ev T b=.agg [iV x',iV y']) (h:dE P k0 r (cU T d (.bool (decide (¬(x=x'/\y=y'))))) H K):dE P k0 (⟨none,some d,.abin true [0,0] a b⟩::r) T H K:=by
  refine stp (v:=.bool (decide (¬(x=x'/\y=y')))) (λ_=>J) ?_ h;rw [ha,hb]; simp only [aBQ,gT,if_true,Option.map_some];by_cases e:x=x' <;> by_cases e2:y=y' <;> simp [e,e2]
end
section
variable {P:Program} {k0 d:Nat} {r:List SO} {T:Nat->V} {H:aT} {K:(Nat->V)->aT->Prop} {a b:SX} {u w v:V}
theorem aOt {g:Bool} {n len:Nat} (ha:ev T a=u) (hb:ev T b=w) (hg:aFU g n len u w=some v) (h:dE P k0 r (cU T d v) H K):dE P k0 (⟨none,some d,.aidx g n len a b⟩::r) T H K:=by
  refine stp (v:=v) (λ_=>J) ?_ h;rw [ha,hb]; exact hg
end
section
variable {P:Program} {k0:Nat} {Q:Ex->(Nat->V)->aT->Prop} {T:Nat->V} {H:aT}
theorem aQ8 (k1:Nat) {ops:List SO} {b:SC} (h:dE P k1 ops T H λT H=>W P k0 b Q T H):W P k0 (.seq (.reg ops) b) Q T H:=⟨k1,kK (λ_ _ h=>.done h) h⟩
theorem aSR (k1:Nat) {ops:List SO} (h:dE P k1 ops T H λT H=>Q .norm T H):W P k0 (.reg ops) Q T H:=⟨k1,h⟩
theorem aSN (k1:Nat) {ops:List SO} {late:List Nat} (hl: ∀ d∈late,(H (k1+d)).live=false) (h:dE P k1 ops T H λT H=>Q .norm T H):W P k0 (.dreg late ops) Q T H:=⟨k1,hl,h⟩
theorem W_g {ops:List SO} {b:SC} (h:dE P k0 ops T H λT H=>G (W P k0 b Q) T H):W P k0 (.seq (.reg ops) b) Q T H:=⟨k0,h⟩
end
end
section
open Go
def aSW (ρ:Nat->Nat):V->V
  | .mp id ver r o=>.mp (ρ id) ver r o
  | .ms id ver o l=>.ms (ρ id) ver o l
  |v=>v
def aS1 (ρ:Nat->Nat) (b:Blk):Blk:={b with rows:=b.rows.map λr=>r.map (aSW ρ)}
def aSi (ρ:Nat->Nat) (HL:aT) (H:aT):Nat->aT
  |0=>H
  |n+1=>cU (aSi ρ HL H n) (ρ n) (aS1 ρ (HL n))
inductive LOut where
  |ok (v:V) (HL:aT)
  |pan (c:Value)
def LOut.at (n:Nat) (ρ:Nat->Nat) (H:aT):LOut->Res
  | .ok v HL=>.ok v (aSi ρ HL H n)
  | .pan c=>.pan c ((List.range n).map ρ)
end
section
open Go
section
variable {P:Program} {k0 f:Nat} {Q:Ex->(Nat->V)->aT->Prop} {T:Nat->V} {H:aT} {d:Option Nat} {r:SC} {i:Nat} {asq asq':List V} {args:List SX} {b b' b1 b1':Blk} {v:V} {c:Value} {out:LOut}
theorem mV {id:Nat} {a r:SC} (h: ∀ Q':Ex->(Nat->V)->aT->Prop,(∀ T H,G (W P k0 r Q) T H->Q' .norm T H)->(∀ T H,G (W P k0 r Q) T H->Q' (.exit id) T H)->(∀ T H,Q .ret T H->Q' .ret T H)->
    (∀ n T H,n≠id->Q (.exit n) T H->Q' (.exit n) T H)->(∀ c T H,Q (.pan c) T H->Q' (.pan c) T H)->W P k0 a Q' T H):W P k0 (.seq (.block id a) r) Q T H:=by
  simp only [W];refine h _ (λT H h=>h) (λT H h=>?_) (λT H h=>h) (λn T H hn h=>?_) (λc T H h=>h)
  . simp only [if_true]; exact h
  . simp only [if_neg hn]; exact h
variable {res:List SRes} {HL:aT}
end
end
section
open Go
theorem aEz {z:Bool} {H:aT} {n f id ver ty sz:Nat} {cells:List V} (hH:H id=bk ver ty sz [cells]) (hc:fG cells=true):fR z H (n+2) (.fn f [] [.mp id ver 0 0])=.fn f [] [.pp cells]:=by
  simp only [fR,hH,Blk.own,List.map_nil,List.map_cons];simp [eD _ _ hc]
end
section
open Go
end
section
open Go
end
section
open Go
theorem aQ6 {K:(Nat->V)->aT->Prop} {T:Nat->V} {H:aT} {id ver ty sz:Nat} {lz:Bool} {r r':List V} (hH:H id=⟨ver,true,lz,ty,sz,[r]⟩) (hr:r.map nz=r')
    (h:G K T (cU H id ⟨ver,true,lz,ty,sz,[r']⟩)):G K T H:=
  aEr (rows:=[r]) (i:=0) (r:=r) hH (Nat.zero_lt_one) hr h
end
section
open Go
end
section
open Go
end
section
open Go
end
section
open Go
section
variable {P:Program} {k0:Nat} {r:List SO} {T:Nat->V} {H:aT} {K:(Nat->V)->aT->Prop} {d:Nat} {a b:SX}
variable {Q:Ex->(Nat->V)->aT->Prop}
theorem W_x {ps:List (Nat×Nat×Nat×Nat)} {ops:List SO} {b:SC} (h:dE P k0 ops T H λT H=>ddB ps ops T=true/\W P k0 b Q T H):W P k0 (.seq (.xreg ps ops) b) Q T H:=⟨k0,kK (λ_ _ h=>⟨h.1,.done h.2⟩) h⟩
end
end
section
open Go
end
section
open Go
theorem aEJ {a p:List Int} (h:hp a p=true):p.length<=a.length:=by grind [hp,kJ]
def aAf:List Tr->List Int->Option (List Int)
  |[],_=>none
  |t::l,w=>if hp t.ni w then some (t.no.take w.length) else aAf l w
def dP (o:Ob) (w:List Int):Option (List Int):=if w=[] then some [] else aAf o.tr w
theorem rT {w x:List Int}: ∀ {l:List Tr},aAf l w=some x-> ∃ t∈l,hp t.ni w=true/\x=t.no.take w.length
  |[],h=>by cases h
  | t :: l, h => by
    simp only [aAf] at h;split at h
    . grind
    . obtain ⟨s,h1,h2⟩:=rT h; exact ⟨s,List.mem_cons_of_mem _ h1,h2⟩
theorem aDT {w:List Int}: ∀ {l:List Tr},aAf l w=none-> ∀ t∈l,hp t.ni w=false
  |[],_,t,ht=>by cases ht
  | t :: l, h, s, hs => by
    simp only [aAf] at h;split at h
    . cases h
    . rename_i g
      rcases List.mem_cons.1 hs with rfl|hs
      . simpa using g
      . exact aDT h s hs
theorem OK.mem {o:Ob} (ok:OK o) {t:Tr} (ht:t∈o.tr):Proper t o.i/\0 < t.ni.length:=by obtain ⟨k,hk,rfl⟩:=dZ ht; exact ok.pr k hk
theorem vO {o:Ob} (ok:OK o) {w:List Int} (h:(dP o w).isSome=true):((dP o w).getD []).length=w.length:=by
  obtain ⟨x,hx⟩:=Option.isSome_iff_exists.1 h;rw [hx];unfold dP at hx;split at hx
  . rename_i e; subst e; cases hx; rfl
  . obtain ⟨t,h1,h2,rfl⟩:=rT hx
    have:=aEJ h2;have:=(ok.mem h1).1.len;simp; omega
abbrev fdA (a b:Tr):List Int:=a.no.take (gC a.ni b.ni)
abbrev fdB (a b:Tr):List Int:=b.no.take (gC a.ni b.ni)
def fd (a b:Tr):List (List Int):=if gC (fdA a b) (fdB a b) < min (fdA a b).length (fdB a b).length then [a.ni.take (aSV (fdA a b) (fdB a b)+1)] else []
theorem OK.same {o:Ob} (ok:OK o) {s t:Tr} (hs:s∈o.tr) (ht:t∈o.tr) {j:Nat} (hj:j < gC s.ni t.ni):aA s.no j=aA t.no j:=by
  obtain ⟨a,ha,rfl⟩:=dZ hs;obtain ⟨b,hb,rfl⟩:=dZ ht
  have key: ∀ a b,a < b->b < o.tr.length-> ∀ j,j < gC (aA o.tr a).ni (aA o.tr b).ni->aA (aA o.tr a).no j=aA (aA o.tr b).no j:=by
    intro a b hab hb j hj;by_cases e:aA (aA o.tr a).no j=aA (aA o.tr b).no j
    . exact e
    . have h1:=ok.cla a b hab hb
      have h2:=aHj.2 ⟨j,hj,e⟩;omega
  grind [xZ]
theorem aPx {p x y:List Int}:gC (p++x) (p++y)=p.length+gC x y:=by induction p <;> grind [gC]
theorem aF7 {x y:List Int} (h:hp y x=true):fV x y<=0:=by
  obtain ⟨z,rfl⟩:=kN.1 h;cases z <;> grind [iT,fV]
end
section
open Go Go.Sort
theorem aA2 {α : Type} {le : α -> α -> Prop} : ∀ {l m : List α}, (∀ a ∈ l, ∀ b ∈ l, le a b -> le b a -> a = b) -> l.Perm m -> l.Pairwise le -> m.Pairwise le -> l = m
  |[],m,_,hp,_,_=>(List.perm_nil.1 hp.symm).symm
  |a::l,[],_,hp,_,_=>(List.cons_ne_nil _ _ (List.perm_nil.1 hp)).elim
  | a :: l, b :: m, anti, hp, h1, h2 => by
    have hb:b∈a::l:=hp.mem_iff.2<|List.mem_cons_self ..
    have ha:a∈b::m:=hp.mem_iff.1<|List.mem_cons_self ..
    have e:a=b:=by
      rcases List.mem_cons.1 hb with e|hb'
      . exact e.symm
      . rcases List.mem_cons.1 ha with e|ha'
        . exact e
        . exact anti a (List.mem_cons_self ..) b hb ((List.pairwise_cons.1 h1).1 b hb')<|(List.pairwise_cons.1 h2).1 a ha'
    subst e;rw [aA2 (λx hx y hy=>anti x (List.mem_cons_of_mem _ hx) y<|List.mem_cons_of_mem _ hy) (List.Perm.cons_inv hp) (List.pairwise_cons.1 h1).2 (List.pairwise_cons.1 h2).2]
def aK2 {α:Type} (cmp:α->α->Int) (a:α):List α->List α
  |[]=>[a]
  |b::l=>if cmp b a < 0 then b::aK2 cmp a l else a::b::l
def srt {α:Type} (cmp:α->α->Int) (l:List α):List α:=l.foldr (aK2 cmp) []
theorem aAF {α:Type} (cmp:α->α->Int) (a:α): ∀ l:List α,(aK2 cmp a l).Perm (a::l)
  |[]=>List.Perm.refl _
  | b :: l => by
    rw [aK2];split
    . exact ((aAF cmp a l).cons b).trans (List.Perm.swap a b l)
    . exact List.Perm.refl _
theorem uS {α:Type} (cmp:α->α->Int): ∀ l:List α,(srt cmp l).Perm l
  |[]=>List.Perm.refl _
  |a::l=>(aAF cmp a (srt cmp l)).trans ((uS cmp l).cons a)
theorem oF {α:Type} (cmp:α->α->Int) (l:List α):(srt cmp l).length=l.length:=(uS cmp l).length_eq
theorem aAL {α : Type} {cmp : α -> α -> Int} (hO : SWO λa b => decide (cmp a b < 0)) (a : α) : ∀ {l : List α}, (l.Pairwise λa b => ¬cmp b a < 0) -> (aK2 cmp a l).Pairwise λa b => ¬cmp b a < 0
  |[],_=>List.pairwise_singleton _ _
  | b :: l, h => by
    obtain ⟨h1,h2⟩:=List.pairwise_cons.1 h;rw [aK2];split
    . rename_i q
      refine List.pairwise_cons.2 ⟨λx hx=>?_,aAL hO a h2⟩;rcases List.mem_cons.1 ((aAF cmp a l).mem_iff.1 hx) with e|e
      . rw [e]; intro q2
        have:=hO.trans a b a (by simpa using q2) (by simpa using q);rw [hO.irrefl a] at this; cases this
      . exact h1 x e
    . rename_i q
      refine List.pairwise_cons.2 ⟨λx hx=>?_,h⟩;rcases List.mem_cons.1 hx with e|e
      . rw [e]; exact q
      . have:=hO.ntrans x b a (by simpa using h1 x e) (by simpa using q)
        simpa using this
theorem sG {α:Type} {cmp:α->α->Int} (hO:SWO λa b=>decide (cmp a b < 0)): ∀ l:List α,(srt cmp l).Pairwise λa b=> ¬cmp b a < 0
  |[]=>List.Pairwise.nil
  |a::l=>aAL hO a (sG hO l)
end
section
open Go Go.Sort
theorem aBv {a b:List Int}: ¬cX a b < 0↔cX b a<=0:=by grind [aAd,aCo]
theorem aOw {a b c:List Int} (h1:cX a b<=0) (h2:cX b c<=0):cX a c<=0:=by
  by_cases e1:cX a b=0
  . rw [fI.1 e1]; exact h2
  . by_cases e2:cX b c=0
    . rw [<- fI.1 e2]; exact h1
    . have:=oS (a:=a) (b:=b) (c:=c) OM OM; omega
theorem OK.lt_of {o:Ob} (h: ∀ k,k+1 < o.tr.length->fV (aA o.tr k).ni (aA o.tr (k+1)).ni < 0): ∀ {i k:Nat},i < k->k < o.tr.length->fV (aA o.tr i).ni (aA o.tr k).ni < 0:=by
  intro i k hik hk
  induction k with
  |zero=>omega
  | succ k ih =>
    by_cases e:i=k
    . subst e; exact h i hk
    . exact kU (ih OM OM)<|h k hk
theorem aGv {a b c:List Int} (h1:cX a b<=0) (h2:cX b c<=0):gC a c<=gC a b/\gC a c<=gC b c:=by grind [gR,cX]
theorem aIe (t:Tr): ∀ (n k:Nat),(0<=fi (λj=>decide (aA t.no j < 0\/1048576 < aA t.no j)) k n↔fe (tA t) k n=2)/\(fe (tA t) k n=0\/fe (tA t) k n=2)
  |0,k=>by simp [fi,fe]
  | n + 1, k => by
    simp only [fi,fe,tA];by_cases h:aA t.no k < 0\/1048576 < aA t.no k
    . simp [h]
    . simp only [h,decide_false,if_false,if_true]
      simpa using aIe t n (k+1)
theorem aIQ {a b : Tr} (ha : a.no.length = a.ni.length) (hb : b.no.length = b.ni.length) :
    (if gC (a.no.take<|gC a.ni b.ni) (b.no.take<|gC a.ni b.ni) < gC a.ni b.ni then ((gC (a.no.take<|gC a.ni b.ni) (b.no.take<|gC a.ni b.ni):Nat):Int) else -1)=df a b:=by
  have h1:=kJ a.ni b.ni;have h2:=mJ a.ni b.ni;generalize hn:gC a.ni b.ni=n at*;have s:=gR (a.no.take n)<|b.no.take n
  have la:(a.no.take n).length=n:=by simp; omega
  have lb:(b.no.take n).length=n:=by simp; omega
  generalize hc:gC (a.no.take n) (b.no.take n)=c at*;unfold df;rw [hn];by_cases g:c < n
  . rw [if_pos g]
    have hd:dfE a b c=true:=by
      grind [jU,dfE]
    have hz: ∀ j,j < c->dfE a b j=false:=λj hj=>by
      grind [jU,dfE]
    grind [nT,qY]
  . rw [if_neg g]
    by_cases h0:0<=fi (dfE a b) 0 n
    . grind [qY,dfE,jU]
    . have: ∀ {p:Nat->Bool} {m k:Nat},¬0<=fi p k m->fi p k m= -1:=by
        intro p m
        induction m <;> grind [fi]
      rw [this h0]
theorem aKG {w:List Int}: ∀ {l:List Tr},fi (λj=>(λt:Tr=>hp t.ni w) (aA l j)) 0 l.length < 0->aAf l w=none:=by
  intro l h;cases hq:aAf l w with
  |none=>rfl
  | some x =>
    exfalso;obtain ⟨t,ht,h2,_⟩:=rT hq;obtain ⟨j,hj,rfl⟩:=dZ ht;have:=(nT (p:=λj=>(λt:Tr=>hp t.ni w) (aA l j)) (n:=l.length) (k:=0)).2 ⟨j,OM,OM,h2⟩;omega
theorem aCg {w:List Int}: ∀ {l:List Tr} {k:Nat},k < l.length->hp (aA l k).ni w=true->(∀ j,j < k->hp (aA l j).ni w=false)->aAf l w=some ((aA l k).no.take w.length)
  |[],k,h,_,_=>by simp at h
  |t::l,0,_,h2,_=>by simp only [aAf]; rw [if_pos (show hp t.ni w=true from h2)]; rfl
  | t :: l, k + 1, h1, h2, h3 => by
    simp only [aAf];rw [if_neg (by have:=h3 0 OM; simpa [fX] using this)];exact aCg (by simpa using h1) h2 λj hj=>h3 (j+1) OM
theorem aMV {w:List Int} {l:List Tr} (h:0<=fi (λj=>(λt:Tr=>hp t.ni w) (aA l j)) 0 l.length):
    (fi (λj=>(λt:Tr=>hp t.ni w) (aA l j)) 0 l.length).toNat < l.length/\hp (aA l (fi (λj=>(λt:Tr=>hp t.ni w) (aA l j)) 0 l.length).toNat).ni w=true/\
    aAf l w=some ((aA l (fi (λj=>(λt:Tr=>hp t.ni w) (aA l j)) 0 l.length).toNat).no.take w.length):=by grind [qY,aCg]
theorem oL (m:M): ∀ (w:List Int) (s:Int) (k:Nat),aV m s (w.take k)=(aV m s w).take k
  |[],s,k=>by simp [aV]
  |a::w,s,0=>by simp [aV]
  |a::w,s,k+1=>by simp [aV,oL m w]
end
section
open Go.Sort
theorem aD0 {a b:List Int}: ¬fV a b < 0↔fV b a<=0:=by grind [aJf,uX]
theorem aI3:SWO λa b:List Int=>decide (fV a b < 0) where
  irrefl a:=by rw [iT.2 J]; decide
  trans a b c h1 h2:=by simp only [decide_eq_true_eq] at*; exact kU h1 h2
  ntrans a b c h1 h2:=by
    simp only [decide_eq_false_iff_not,aD0] at*;exact aRb h2 h1
theorem aGL {a b:List Int} (h1: ¬fV a b < 0) (h2: ¬fV b a < 0):a=b:=aGE (aD0.1 h2) (aD0.1 h1)
theorem aBc (a:List Int): ¬fV a a < 0:=by grind [iT]
def xG (l:List (List Int)):Prop:=l.Pairwise λa b=>fV a b < 0
theorem yO : ∀ {l m : List (List Int)}, xG l -> xG m -> (∀ u, u ∈ l ↔ u ∈ m) -> l = m
  |[],[],_,_,_=>rfl
  |[],b::m,_,_,h=>by have:=(h b).2 SI; simp at this
  |a::l,[],_,_,h=>by have:=(h a).1 SI; simp at this
  | a :: l, b :: m, hl, hm, h => by
    obtain ⟨l1,l2⟩:=List.pairwise_cons.1 hl;obtain ⟨m1,m2⟩:=List.pairwise_cons.1 hm
    have e:a=b:=by
      rcases List.mem_cons.1 ((h a).1 SI) with e|e
      . exact e
      . rcases List.mem_cons.1 ((h b).2 SI) with g|g
        . exact g.symm
        . exact (aBc a<|kU (l1 b g)<|m1 a e).elim
    subst e;rw [yO l2 m2 λu=>?_];constructor
    . intro hu
      rcases List.mem_cons.1 ((h u).1 (List.mem_cons_of_mem _ hu)) with e|e
      . subst e; exact (aBc _<|l1 _ hu).elim
      . exact e
    . intro hu
      rcases List.mem_cons.1 ((h u).2 (List.mem_cons_of_mem _ hu)) with e|e
      . subst e; exact (aBc _<|m1 _ hu).elim
      . exact e
def plP (w u:List Int):Bool:=decide (fV u w < 0)
def plN (l:List (List Int)) (w:List Int):Nat:=(l.takeWhile (plP w)).length
theorem aIT {w a:List Int} {l:List (List Int)}:plN (a::l) w=if plP w a=true then plN l w+1 else 0:=by grind [plN,List.takeWhile_cons]
theorem aP3 {w:List Int}: ∀ l:List (List Int),plN l w<=l.length
  |[]=>Nat.le_refl _
  |a::l=>by rw [aIT]; have:=aP3 (w:=w) l; split <;> simp <;> omega
theorem aFs {w:List Int}: ∀ {l:List (List Int)} (_:xG l) {k:Nat},k < l.length->(fV (aA l k) w < 0↔k < plN l w)
  |[],_,k,hk=>by simp at hk
  | a :: l, h, k, hk => by
    rw [aIT];obtain ⟨h1,h2⟩:=List.pairwise_cons.1 h;by_cases e:plP w a=true
    . rw [if_pos e]
      cases k with
      |zero=>grind [fX,plP]
      |succ k=>rw [jD,aFs h2 (by simpa using hk)]; omega
    grind [plP,kU,bC]
def wiH (l:List (List Int)) (w:List Int):Prop:=plN l w < l.length/\aA l (plN l w)=w
instance (l:List (List Int)) (w:List Int):Decidable (wiH l w):=inferInstanceAs (Decidable (_/\_))
def wiW (l:List (List Int)) (w:List Int):List (List Int):=if wiH l w then l else l.take (plN l w)++w::l.drop (plN l w)
def mH (l:List (List Int)):List (List Int):=l.foldl wiW []
theorem aNU {l:List (List Int)} {w u:List Int}:u∈wiW l w↔u∈l\/u=w:=by
  unfold wiW;split
  . rename_i h
    refine ⟨.inl,λq=>q.elim id λe=>?_⟩;rw [e];have:=bC h.1
    rwa [h.2] at this
  grind [List.take_append_drop]
theorem aPD {l : List (List Int)} (h : xG l) (w : List Int) : xG (wiW l w) := by
  unfold wiW;split
  . exact h
  . rename_i hn
    have hsp:=h;unfold xG at hsp;rw [<- List.take_append_drop (plN l w) l,List.pairwise_append] at hsp;obtain ⟨p1,p2,p3⟩:=hsp;have hle:=aP3 (w:=w) l
    have lo: ∀ a∈l.take (plN l w),fV a w < 0:=λa ha=>by
      grind [dZ,jU,aFs]
    have hi: ∀ b∈l.drop (plN l w),fV w b < 0:=λb hb=>by
      obtain ⟨j,hj,rfl⟩:=dZ hb;rw [List.length_drop] at hj;rw [vD]
      have h1: ¬fV (aA l<|plN l w+j) w < 0:=λq=>by
        grind [aFs]
      by_cases e:fV w (aA l<|plN l w+j) < 0
      . exact e
      . exfalso
        have heq:=aGL h1 e;have h0:plN l w < l.length:=OM
        by_cases ej:j=0
        . subst ej; exact hn ⟨h0,by simpa using heq⟩
        grind [List.pairwise_iff_getElem,bL,aFs]
    grind [xG,List.pairwise_cons]
theorem aCA: ∀ (l kept:List (List Int)),xG kept->xG (l.foldl wiW kept)/\ ∀ u,u∈l.foldl wiW kept↔u∈kept\/u∈l
  |[],kept,h=>⟨h,λu=>by simp⟩
  | w :: l, kept, h => by
    obtain ⟨h1,h2⟩:=aCA l (wiW kept w)<|aPD h w
    grind [aNU]
theorem sY (l:List (List Int)):xG (mH l):=(aCA l [] List.Pairwise.nil).1
theorem iA (l:List (List Int)) (u:List Int):u∈mH l↔u∈l:=by unfold mH; rw [(aCA l [] List.Pairwise.nil).2 u]; simp
def fA (L:List (List Int)):Nat->List (List Int)
  |0=>[]
  |j+1=>if j=0\/aA L j≠aA L (j - 1) then fA L j++[aA L j] else fA L j
def nQ (L:List (List Int)) (j:Nat):List (List Int):=fA L j++L.drop (fA L j).length
theorem aCQ (L:List (List Int)): ∀ j,(fA L j).length<=j
  |0=>Nat.le_refl _
  | j + 1 => by
    have:=aCQ L j
    grind [fA]
theorem aJt {L:List (List Int)} {j:Nat} (h:j<=L.length):(nQ L j).length=L.length:=by grind [aCQ,nQ]
theorem aPu {L:List (List Int)} {j k:Nat} (h:(fA L j).length<=k):aA (nQ L j) k=aA L k:=by grind [nQ,aA]
theorem jC {L:List (List Int)} {j:Nat} (h:j=0\/aA L j≠aA L (j - 1)):fA L (j+1)=fA L j++[aA L j]:=if_pos h
theorem jT {L:List (List Int)} {j:Nat} (h: ¬(j=0\/aA L j≠aA L (j - 1))):fA L (j+1)=fA L j:=if_neg h
theorem aGG {L:List (List Int)} {j:Nat} (h: ¬(j=0\/aA L j≠aA L (j - 1))):nQ L (j+1)=nQ L j:=by grind [nQ,jT]
theorem aDY {α:Type} {a l:List α} {x:α} (h:a.length < l.length):(a++l.drop a.length).set a.length x=a++[x]++l.drop (a.length+1):=by grind [List.drop_eq_getElem_cons]
theorem aGH {L:List (List Int)} {j:Nat} (hj:j < L.length) (h:j=0\/aA L j≠aA L (j - 1)):(nQ L j).set (fA L j).length (aA L j)=nQ L (j+1):=by grind [aCQ,nQ,jC,aDY]
theorem aEN {L:List (List Int)}: ∀ {j:Nat},j<=L.length->(∀ i,1<=i->i < j->aA L i≠aA L (i - 1))->fA L j=L.take j
  |0,_,_=>by simp [fA]
  | j + 1, hj, h => by
    rw [jC (by by_cases e:j=0; exact .inl e; exact .inr (h j OM OM)),aEN OM λi h1 h2=>h i h1 OM,cV OM]
theorem zO {L : List (List Int)} : ∀ {j : Nat}, j <= L.length -> ∀ u, u ∈ fA L j ↔ u ∈ L.take j
  |0,_,u=>by simp [fA]
  | j + 1, hj, u => by
    have ih:=zO (L:=L) (j:=j) OM u;rw [cV OM,List.mem_append,List.mem_singleton];by_cases h:j=0\/aA L j≠aA L (j - 1)
    . grind [jC]
    . rw [jT h,ih]
      refine ⟨.inl,λq=>q.elim id λe=>?_⟩
      have e2:aA L j=aA L (j - 1):=by
        grind
      have:aA (L.take j) (j - 1)=u:=by grind [jU]
      grind [bC]
theorem aIj {L:List (List Int)} (hs:L.Pairwise λa b=> ¬fV b a < 0): ∀ {j:Nat},j<=L.length->xG (fA L j)
  |0,_=>List.Pairwise.nil
  | j + 1, hj => by
    have ih:=aIj hs (j:=j) OM;by_cases h:j=0\/aA L j≠aA L (j - 1)
    . rw [jC h,xG,List.pairwise_append]
      refine ⟨ih,SI,λa ha b hb=>?_⟩;rw [List.mem_singleton.1 hb];have ha':=(zO (L:=L) OM a).1 ha;obtain ⟨i,hi,rfl⟩:=dZ ha'
      grind [aA,List.pairwise_iff_getElem,aD0,aGE]
    . rw [jT h]; exact ih
def sdP (l:List (List Int)):List (List Int):=fA (srt fV l) (srt fV l).length
theorem aFc (l:List (List Int)):sdP l=mH l:=by grind [yO,aIj,sG,aI3,sY,sdP,zO,iA,uS]
theorem aJb (l:List (List Int)):(mH l).length<=l.length:=by
  rw [<- aFc]
  grind [aCQ,sdP,oF]
end
section
open Go
theorem aEj {p:Nat->Bool}: ∀ n k,-1<=fi p k n/\(0<=fi p k n->fi p k n < ((k+n:Nat):Int))
  |0,k=>⟨Int.le_refl _,λh=>by simp [fi] at h⟩
  | n + 1, k => by
    simp only [fi];split
    . exact ⟨OM,λ_=>by omega⟩
    . have h:=aEj (p:=p) n<|k+1
      exact ⟨h.1,λh0=>by have:=h.2 h0; omega⟩
end
section
def lbP (t u:Tr):Bool:=decide (fV u.ni t.ni < 0)
def lbN (l:List Tr) (t:Tr):Nat:=(l.takeWhile (lbP t)).length
def Srt (l:List Tr):Prop:=l.Pairwise λa b=>fV a.ni b.ni < 0
theorem aEA {t a:Tr} {l:List Tr}:lbN (a::l) t=if lbP t a=true then lbN l t+1 else 0:=by grind [lbN,List.takeWhile_cons]
theorem aLN {t:Tr}: ∀ l:List Tr,lbN l t<=l.length
  |[]=>Nat.le_refl _
  |a::l=>by rw [aEA]; have:=aLN (t:=t) l; split <;> simp <;> omega
theorem aHL {t:Tr}: ∀ {l:List Tr} (_:Srt l) {k:Nat},k < l.length->(fV (aA l k).ni t.ni < 0↔k < lbN l t)
  |[],_,k,hk=>by simp at hk
  | a :: l, h, k, hk => by
    rw [aEA];obtain ⟨h1,h2⟩:=List.pairwise_cons.1 h;by_cases e:lbP t a=true
    . rw [if_pos e]
      cases k with
      |zero=>grind [fX,lbP]
      |succ k=>rw [jD,aHL h2 (by simpa using hk)]; omega
    grind [lbP,kU,bC]
theorem aGp {t:Tr}: ∀ {l:List Tr} (_:Srt l),l.take (lbN l t)=l.filter (lbP t)/\l.drop (lbN l t)=l.filter λu=> !lbP t u
  |[],_=>⟨rfl,rfl⟩
  | a :: l, h => by
    obtain ⟨h1,h2⟩:=List.pairwise_cons.1 h;rw [aEA];by_cases e:lbP t a=true
    . obtain ⟨g1,g2⟩:=aGp (t:=t) h2
      rw [if_pos e]; simp [e,g1,g2]
    grind [lbP,kU,List.filter_eq_nil_iff,List.filter_eq_self]
def kp (t u:Tr):Bool:= !hp t.ni u.ni
def rI (t:Tr) (l:List Tr) (k:Nat):List Tr:=(l.take k).filter (kp t)
def xV (t:Tr) (l:List Tr) (k:Nat):List Tr:=rI t l k++l.drop (rI t l k).length
theorem aLJ (t:Tr) (l:List Tr) (k:Nat):(rI t l k).length<=k/\(rI t l k).length<=l.length:=by grind [rI]
theorem aOZ (t:Tr) (l:List Tr) (k:Nat):(xV t l k).length=l.length:=by grind [aLJ,xV]
theorem aFa {t:Tr} {l:List Tr} {k:Nat}:aA (xV t l k) k=aA l k:=by grind [xV,aA,rI]
theorem yU {t:Tr} {l:List Tr} {k:Nat} (hk:k < l.length) (h:kp t (aA l k)=true):rI t l (k+1)=rI t l k++[aA l k]:=by grind [rI,cV]
theorem uP {t:Tr} {l:List Tr} {k:Nat} (hk:k < l.length) (h: ¬kp t (aA l k)=true):rI t l (k+1)=rI t l k:=by grind [rI,cV]
theorem aMx {t:Tr} {l:List Tr} {k:Nat} (hk:k < l.length) (h: ¬kp t (aA l k)=true):xV t l (k+1)=xV t l k:=by unfold xV; rw [uP hk h]
theorem aA8 {α:Type} {a l:List α} {x:α} (h:a.length < l.length):(a++l.drop a.length).set a.length x=a++[x]++l.drop (a.length+1):=by grind [List.drop_eq_getElem_cons]
theorem aLE {t:Tr} {l:List Tr} {k:Nat} (hk:k < l.length) (h:kp t (aA l k)=true):(xV t l k).set (rI t l k).length (aA l k)=xV t l (k+1):=by grind [aLJ,xV,yU,aA8]
theorem aIW {t:Tr} {l:List Tr} (h:fi (λj=>(λu:Tr=>hp t.ni u.ni) (aA l j)) 0 l.length < 0):l.filter (kp t)=l:=by
  replace h:fi (λj=>hp t.ni (aA l j).ni) 0 l.length < 0:=h;refine List.filter_eq_self.2 λu hu=>?_;obtain ⟨j,hj,rfl⟩:=dZ hu;unfold kp;cases e:hp t.ni (aA l j).ni with
  |false=>rfl
  | true =>
    have:=nT (p:=λj=>hp t.ni (aA l j).ni) (n:=l.length) (k:=0)|>.2 ⟨j,Nat.zero_le _,OM,e⟩
    omega
theorem aLm {t:Tr} {l:List Tr} (h:0<=fi (λj=>(λu:Tr=>hp t.ni u.ni) (aA l j)) 0 l.length):
    ∃ i:Nat,fi (λj=>(λu:Tr=>hp t.ni u.ni) (aA l j)) 0 l.length=i/\i < l.length/\(rI t l<|i+1).length=i/\xV t l (i+1)=l:=by
  show ∃ i:Nat,fi (λj=>hp t.ni (aA l j).ni) 0 l.length=i/\i < l.length/\(rI t l<|i+1).length=i/\xV t l (i+1)=l;replace h:0<=fi (λj=>hp t.ni (aA l j).ni) 0 l.length:=h;obtain ⟨_,h2,h3,h4⟩:=qY h;refine ⟨(fi (λj=>hp t.ni (aA l j).ni) 0 l.length).toNat,OM,OM,?_⟩;generalize (fi (λj=>hp t.ni (aA l j).ni) 0 l.length).toNat=i at h2 h3 h4
  have e1:rI t l i=l.take i:=List.filter_eq_self.2 λu hu=>by
    grind [dZ,jU,kp]
  grind [uP,kp,xV,List.take_append_drop]
def inP (l:List Tr) (t:Tr) (j:Nat):Bool:=hp (aA l j).ni t.ni
def ndP (l:List Tr) (t:Tr) (j:Nat):Bool:=decide (0<=df (aA l j) t)
def ins (l:List Tr) (t:Tr):List Tr:=l.filter (lbP t)++t::l.filter λu=> !lbP t u
def inL (l:List Tr) (t:Tr):Prop:=vK (inP l t) 0 l.length=true\/t.ni.length=0
instance (l:List Tr) (t:Tr):Decidable (inL l t):=inferInstanceAs (Decidable (_\/_))
def lH (l:List Tr) (t:Tr):List Tr:=if inL l t then l else ins (l.filter (kp t)) t
def nJ (l:List Tr) (t:Tr):Int:=if 0<=fi (ndP l t) 0 l.length then 13 else if inL l t then 0 else if (l.filter (kp t)).length=10000 then 11 else 0
theorem aJl (l:List Tr) (t:Tr):(ins l t).length=l.length+1:=by
  unfold ins;rw [List.length_append,List.length_cons]
  have: ∀ m:List Tr,(m.filter<|lbP t).length+(m.filter λu=> !lbP t u).length=m.length:=λm=>by
    induction m <;> grind
  have:=this l;omega
theorem OK.srt {o:Ob} (h:OK o):Srt o.tr:=by
  rw [Srt,List.pairwise_iff_getElem];intro i j hi hj hij;rw [bL hi,bL hj];exact OK.lt_of h.ord hij hj
theorem aCG {l:List Tr} (h:Srt l) (p:Tr->Bool):Srt (l.filter p):=h.filter p
theorem aQD {l:List Tr} {t:Tr} (h:Srt l):l.take (lbN l t)++t::l.drop (lbN l t)=ins l t:=by grind [aGp,ins]
def okR (a b:Tr):Prop:=fV a.ni b.ni < 0/\hp b.ni a.ni=false/\df a b < 0
theorem OK.pair {o:Ob} (h:OK o):o.tr.Pairwise okR:=by
  rw [List.pairwise_iff_getElem];intro i j hi hj hij;rw [bL hi,bL hj];exact ⟨OK.lt_of h.ord hij hj,h.pre i j hij hj,h.cla i j hij hj⟩
theorem OK.of {i:Int} {l:List Tr} (hi:1<=i/\i<=64) (hl:l.length<=10000) (hm: ∀ t∈l,Proper t i/\0 < t.ni.length) (h:l.Pairwise okR):OK ⟨i,l⟩:=by
  rw [List.pairwise_iff_getElem] at h
  have h': ∀ a b,a < b->b < l.length->okR (aA l a) (aA l b):=λa b hab hb=>by
    grind [bL]
  exact ⟨hi,hl,λk hk=>hm _ (bC hk),λk hk=>(h' k (k+1) OM hk).1,λa b hab hb=>(h' a b hab hb).2.1,λa b hab hb=>(h' a b hab hb).2.2⟩
theorem aJC {l:List Tr} {t:Tr} (h: ¬inL l t) {u:Tr} (hu:u∈l):hp u.ni t.ni=false:=by
  obtain ⟨j,hj,rfl⟩:=dZ hu;cases e:hp (aA l j).ni t.ni with
  |false=>rfl
  |true=>exact (h (.inl (pV.2 ⟨j,hj,by rw [Nat.zero_add]; exact e⟩))).elim
theorem aFm (w:List Int):hp w w=true:=by grind [hp,aFx]
theorem aDH {l:List Tr} {t:Tr} (h: ¬inL l t) {u:Tr} (hu:u∈l):fV t.ni u.ni < 0↔lbP t u=false:=by
  have h1:=aJC h hu
  grind [lbP,uX,iT,aFm,aJf]
theorem aFV {l:List Tr} {t:Tr} (h: ¬0<=fi (ndP l t) 0 l.length) {u:Tr} (hu:u∈l):df u t < 0:=by
  obtain ⟨j,hj,rfl⟩:=dZ hu;by_cases e:0<=df (aA l j) t
  . simp_all [nT,ndP]
  . omega
theorem aMW {i : Int} {l : List Tr} {t : Tr} (ho : OK ⟨i, l⟩) (ht : vY t i = 0) (he : nJ l t = 0) : OK ⟨i, lH l t⟩ := by
  unfold nJ at he;split at he; · cases he
  rename_i hn;split at he
  . grind [lH]
  rename_i h1;split at he; · cases he
  rename_i h2;unfold lH; rw [if_neg h1];have hlen:=ho.len;have hfl:=List.length_filter_le (kp t) l;refine OK.of ho.hi (by grind [aJl]) (λu hu=>?_) ?_
  . simp only [ins,List.mem_append,List.mem_cons,List.mem_filter] at hu
    rcases hu with h|rfl|h
    . exact ho.mem h.1.1
    . exact ⟨aCn ht,by have: ¬u.ni.length=0:=λe=>h1 (.inr e); omega⟩
    . exact ho.mem h.1.1
  . have hp:=(ho.pair.filter<|kp t)
    simp only [ins];rw [List.pairwise_append];refine ⟨hp.filter _,List.pairwise_cons.2 ⟨λy hy=>?_,hp.filter _⟩,λx hx y hy=>?_⟩
    . simp only [List.mem_filter] at hy
      obtain ⟨⟨g1,g2⟩,g3⟩:=hy;exact ⟨(aDH h1 g1).2 (by simpa using g3),aJC h1 g1,by rw [aPa]; exact aFV hn g1⟩
    . simp only [List.mem_filter,List.mem_cons] at hx hy
      obtain ⟨⟨g1,g2⟩,g3⟩:=hx;rcases hy with rfl|⟨⟨k1,k2⟩,k3⟩
      . exact ⟨by simpa [lbP] using g3,by simpa [kp] using g2,aFV hn g1⟩
      . have hxy:fV x.ni y.ni < 0:=by
          obtain ⟨q1,q2⟩:fV x.ni t.ni < 0/\fV t.ni y.ni < 0:=⟨by simpa [lbP] using g3,(aDH h1 k1).2 (by simpa using k3)⟩;exact kU q1 q2
        obtain ⟨a,ha,rfl⟩:=dZ g1;obtain ⟨b,hb,rfl⟩:=dZ k1
        have hab:a < b:=by
          rcases Nat.lt_trichotomy a b with h|h|h
          . exact h
          . grind
          . have:=OK.lt_of ho.ord h ha; have:=uX hxy; simp only at*; omega
        exact ⟨hxy,ho.pre a b hab hb,ho.cla a b hab hb⟩
theorem aLI {a b c:List Int} (h1:hp a b=true) (h2:hp b c=true):hp a c=true:=by grind [kN]
theorem aIt {a b:List Int} (h1:hp a b=true) (h2:a.length<=b.length):a=b:=by
  obtain ⟨x,rfl⟩:=kN.1 h1
  have:x=[]:=by cases x with
    |nil=>rfl
    |cons c x=>simp at h2; omega
  simp [this]
end
section
theorem Tr.eq_iff {a b:Tr}:a=b↔a.ni=b.ni/\a.no=b.no:=by cases a; cases b; simp
theorem Ob.eq_iff {a b:Ob}:a=b↔a.i=b.i/\a.tr=b.tr:=by cases a; cases b; simp
instance:DecidableEq Tr:=λ_ _=>decidable_of_iff _ Tr.eq_iff.symm
instance:DecidableEq Ob:=λ_ _=>decidable_of_iff _ Ob.eq_iff.symm
end
section
def tJ (i:Int):List Tr->List Tr->List Tr×Int
  |acc,[]=>(acc,0)
  |acc,t::l=>if vY t i≠0 then ([],vY t i) else if nJ acc t≠0 then ([],nJ acc t) else tJ i (lH acc t) l
def vR (o:Ob) (l:List Tr):Ob:=if (tJ o.i o.tr l).2≠0 then o else ⟨o.i,(tJ o.i o.tr l).1⟩
theorem aRq {i:Int} {acc l:List Tr} {k:Nat} (hk:k < l.length) (h1:vY (aA l k) i=0) (h2:nJ acc (aA l k)=0):tJ i acc (l.drop k)=tJ i (lH acc (aA l k)) (l.drop (k+1)):=by
  rw [tY hk,tJ,if_neg OM,if_neg OM]
theorem aMH {i:Int} {acc l:List Tr} {k:Nat} (hk:k < l.length) (h1:vY (aA l k) i≠0):tJ i acc (l.drop k)=([],vY (aA l k) i):=by
  rw [tY hk,tJ,if_pos h1]
theorem aLc {i:Int} {acc l:List Tr} {k:Nat} (hk:k < l.length) (h1:vY (aA l k) i=0) (h2:nJ acc (aA l k)≠0):tJ i acc (l.drop k)=([],nJ acc (aA l k)):=by
  rw [tY hk,tJ,if_neg OM,if_pos h2]
theorem aFl {i:Int} {acc l:List Tr} {k:Nat} (hk:l.length<=k):tJ i acc (l.drop k)=(acc,0):=by
  rw [List.drop_of_length_le hk,tJ]
theorem aMS {i:Int}: ∀ {l acc:List Tr},OK ⟨i,acc⟩->(tJ i acc l).2=0->OK ⟨i,(tJ i acc l).1⟩
  |[],acc,h,_=>h
  | t :: l, acc, h, he => by
    rw [tJ] at he ⊢;split at he
    . contradiction
    rename_i h1;split at he
    . contradiction
    rename_i h2;rw [if_neg h1,if_neg h2];exact aMS (aMW h OM OM) he
theorem aD3 {o:Ob} {l:List Tr} (h:OK o):OK (vR o l):=by
  unfold vR;split
  . exact h
  . rename_i h1; exact aMS h OM
theorem aIC (o:Ob) (l:List Tr):(vR o l).i=o.i:=by unfold vR; split <;> rfl
end
section
theorem aJu (i:Int) (acc:List Tr) (t:Tr):tJ i acc [t]=if vY t i≠0 then ([],vY t i) else if nJ acc t≠0 then ([],nJ acc t) else (lH acc t,0):=by
  simp only [tJ]
end
section
theorem sX {o : Ob} (h : OK o) : jE o = 0 := by
  have hi:=h.hi;have hl:=h.len
  have h1:fe (trE o) 0 o.tr.length=0:=cW.2 λj _ hj=>by
    have hj':j < o.tr.length:=OM
    obtain ⟨p1,p2⟩:=h.pr j hj';have hw:cP (aA o.tr j).ni o.i=0:=iS ⟨hi.1,OM⟩ p1.lel p1.sym
    have hp:vY (aA o.tr j) o.i=0:=by
      rw [vY,if_neg OM,if_neg (by have:=p1.len; omega)]
      exact cW.2 λk _ hk=>by
        have:=p1.out k OM;rw [tA,if_neg OM]
    rw [trE,if_neg OM,if_neg OM,if_neg OM,if_neg];intro q;have:=h.ord (j - 1) OM
    grind
  rw [jE,if_neg OM,if_neg OM,if_neg OM];refine cW.2 λj _ hj=>?_;have hj':j < o.tr.length:=OM
  rw [apE,if_neg,if_neg]
  . intro q
    obtain ⟨k,hk,e⟩:=pV.1 q;have:=h.cla j (j+1+k) OM OM
    grind [aBK]
  . intro q
    obtain ⟨k,hk,e⟩:=pV.1 q;have:=h.pre j (j+1+k) OM OM
    grind [aD6]
theorem OK.anti {o:Ob} (h:OK o) {u v:Tr} (hu:u∈o.tr) (hv:v∈o.tr) (e:hp v.ni u.ni=true):v=u:=by
  obtain ⟨a,ha,rfl⟩:=dZ hu;obtain ⟨b,hb,rfl⟩:=dZ hv;rcases Nat.lt_trichotomy a b with q|q|q
  . rw [h.pre a b q hb] at e; cases e
  . rw [q]
  . have h1:=OK.lt_of h.ord q ha
    grind [fV,aIt,fI]
theorem aRz {a b:Tr}:df a b < 0↔ ∀ j,j < gC a.ni b.ni->aA a.no j=aA b.no j:=by
  constructor
  . intro h j hj
    by_cases e:aA a.no j=aA b.no j
    . exact e
    . have:=aHj.2 ⟨j,hj,e⟩; omega
  grind [aHj]
theorem aJd {l:List Tr} {s:Tr} (h:inL l s) (hs:0 < s.ni.length): ∃ w∈l,hp w.ni s.ni=true:=by
  rcases h with h|h
  . obtain ⟨j,hj,e⟩:=pV.1 h
    rw [Nat.zero_add] at e;exact ⟨aA l j,bC hj,e⟩
  . omega
theorem aFt {l:List Tr} {t u:Tr}:u∈ins l t↔u∈l\/u=t:=by grind [ins]
end
section
theorem aF0: ∀ {l m:List Int},l.Nodup->(∀ a∈l,a∈m)->l.length<=m.length
  |[],_,_,_=>Nat.zero_le _
  | a :: l, m, hn, hs => by
    obtain ⟨h1,h2⟩:=List.nodup_cons.1 hn;have ha:a∈m:=hs a SI;have:=aF0 (m:=m.erase a) h2 λb hb=>(List.mem_erase_of_ne (λe=>h1 (by rw [<- e]; exact hb))).2 (hs b<|List.mem_cons_of_mem _ hb)
    grind
def cB (b:Bool):List V:=[.bool b]
abbrev RS:=List Int×List Bool
def oT (P:RS) (a:Int):RS:=if aA P.2 a.toNat=true then P else (P.1++[a],P.2.set a.toNat true)
def rN (m:M) (P:RS) (k:Nat):RS:=(aA m.nx (aA P.1 k).toNat).foldl oT P
def nZ (m:M):Nat->Nat->RS->RS
  |0,_,P=>P
  |n+1,k,P=>if k < P.1.length then nZ m n (k+1) (rN m P k) else P
def wT (m:M):RS:=([m.s],(List.replicate m.nx.length false).set m.s.toNat true)
def rch (m:M):List Int:=if bK m≠0 then [] else (nZ m m.nx.length 0 (wT m)).1
theorem aIY {P:RS} {a:Int} (h:aA P.2 a.toNat=true):oT P a=P:=if_pos h
theorem aMu {P:RS} {a:Int} (h:aA P.2 a.toNat=false):oT P a=(P.1++[a],P.2.set a.toNat true):=if_neg (by rw [h]; decide)
theorem aC9 {P:RS} {w:List Int} {j:Nat} (h:j < w.length):(w.take (j+1)).foldl oT P=oT ((w.take j).foldl oT P) (aA w j):=by grind [cV]
structure RI (n:Nat) (P:RS):Prop where
  blen:P.2.length=n
  rng: ∀ a∈P.1,0<=a/\a < n
  mem: ∀ a:Int,0<=a->a < n->(aA P.2 a.toNat=true↔a∈P.1)
  nd:P.1.Nodup
theorem sQ {α:Type} [Inhabited α] {l:List α} {i j:Nat} {x:α} (hi:i < l.length):aA (l.set i x) j=if i=j then x else aA l j:=by grind [aA]
theorem RI.step {n : Nat} {P : RS} (h : RI n P) {a : Int} (h0 : 0 <= a) (h1 : a < n) : RI n (oT P a) := by
  unfold oT;split
  . exact h
  . rename_i g
    have hna:a∉P.1:=λq=>g<|(h.mem a h0 h1).2 q
    have hlt:a.toNat < P.2.length:=by rw [h.blen]; omega
    refine ⟨by simp [h.blen],λb hb=>?_,λb b0 b1=>?_,?_⟩
    . rcases List.mem_append.1 hb with hb|hb
      . exact h.rng b hb
      grind
    . rw [sQ hlt,List.mem_append,List.mem_singleton]
      by_cases e:a.toNat=b.toNat
      . grind
      . rw [if_neg e,h.mem b b0 b1]
        grind
    . rw [List.nodup_append]
      refine ⟨h.nd,SI,λx hx y hy=>?_⟩
      grind
theorem RI.fold {n:Nat}: ∀ {w:List Int} {P:RS},RI n P->(∀ a∈w,0<=a/\a < n)->RI n (w.foldl oT P)
  |[],_,h,_=>h
  | a :: w, P, h, hw => by
    rw [List.foldl_cons];exact RI.fold (h.step (hw a SI).1 (hw a SI).2) λb hb=>hw b<|List.mem_cons_of_mem _ hb
theorem RI.len {n:Nat} {P:RS} (h:RI n P):P.1.length<=n:=by
  have:=aF0 (m:=(List.range n).map Int.ofNat) h.nd λa ha=>by
    obtain ⟨h0,h1⟩:=h.rng a ha;exact List.mem_map.2 ⟨a.toNat,List.mem_range.2 OM,by simp; omega⟩
  simpa using this
theorem oM: ∀ (w:List Int) (P:RS),∃ x,(w.foldl oT P).1=P.1++x
  |[],P=>⟨[],SI⟩
  | a :: w, P => by
    obtain ⟨x,hx⟩:=oM w<|oT P a
    grind [oT]
theorem aGd {n:Nat}: ∀ {w:List Int} {P:RS},RI n P->(∀ a∈w,0<=a/\a < n)-> ∀ a∈w,a∈(w.foldl oT P).1
  | b :: w, P, h, hw, a, ha => by
    have hs:=h.step (hw b SI).1 (hw b SI).2;rcases List.mem_cons.1 ha with rfl|ha
    . obtain ⟨x,hx⟩:=oM w<|oT P a
      rw [List.foldl_cons,hx];refine List.mem_append_left _ ?_;unfold oT;split
      . rename_i g; exact (h.mem a (hw a SI).1 (hw a SI).2).1 g
      . simp
    . exact aGd hs (λc hc=>hw c<|List.mem_cons_of_mem _ hc) a ha
theorem aHQ {m:M} (h:bK m=0):RI m.nx.length (wT m):=by
  have hm:=cY h;refine ⟨by simp [wT],λa ha=>?_,λa h0 h1=>?_,by simp [wT]⟩
  . grind [wT]
  . simp only [wT,List.mem_singleton]
    rw [sQ (by simp; omega)];by_cases e:m.s.toNat=a.toNat
    . grind
    . rw [if_neg e]
      refine ⟨λq=>?_,λq=>(e (by rw [q])).elim⟩;rw [<- bL (by simp; omega)] at q;simp at q
theorem aEI {m:M} (h:bK m=0) {s:Int} (h0:0<=s) (h1:s < m.nx.length): ∀ a∈aA m.nx s.toNat,0<=a/\a < m.nx.length:=λa ha=>by
  obtain ⟨j,hj,rfl⟩:=dZ ha;obtain ⟨g1,_,g3⟩:=(cY h).2.2.2.2.2.2.2 s.toNat OM;have:=g3 j OM;exact ⟨this.1,this.2.1⟩
theorem RI.row {m:M} (h:bK m=0) {P:RS} (hP:RI m.nx.length P) {k:Nat} (hk:k < P.1.length):RI m.nx.length (rN m P k):=by
  obtain ⟨h0,h1⟩:=hP.rng _<|bC hk
  exact RI.fold hP<|aEI h h0 h1
def Clo (m:M) (P:RS) (k:Nat):Prop:= ∀ j,j < k-> ∀ a∈aA m.nx (aA P.1 j).toNat,a∈P.1
theorem aGs {m:M} (h:bK m=0): ∀ (n k:Nat) (P:RS),RI m.nx.length P->k<=P.1.length->m.nx.length<=k+n->Clo m P k->(m.s∈P.1)->
    RI m.nx.length (nZ m n k P)/\Clo m (nZ m n k P) (nZ m n k P).1.length/\m.s∈(nZ m n k P).1
  | 0, k, P, hP, hk, hn, hc, hs => by
    have:=hP.len
    grind [nZ]
  | n + 1, k, P, hP, hk, hn, hc, hs => by
    rw [nZ];split
    . rename_i hlt
      obtain ⟨x,hx⟩:=oM (aA m.nx (aA P.1 k).toNat) P;have hg:(rN m P k).1=P.1++x:=hx;obtain ⟨h0,h1⟩:=hP.rng _<|bC hlt
      refine aGs h n (k+1) _ (hP.row h hlt) (by rw [hg]; simp; omega) OM (λj hj a ha=>?_) (by grind);have e:aA (rN m P k).1 j=aA P.1 j:=by grind [dB]
      rw [e] at ha;by_cases ej:j=k
      . subst ej; exact aGd hP (aEI h h0 h1) a ha
      . rw [hg]; exact List.mem_append_left _<|hc j OM a ha
    grind
theorem aJX {m:M} {n k:Nat} {P:RS} (h:P.1.length<=k):nZ m n k P=P:=by cases n <;> grind [nZ]
theorem aRp {m:M} {n k:Nat} {P:RS} (h:k < P.1.length) (hn:k < n):nZ m (n - k) k P=nZ m (n - (k+1)) (k+1) (rN m P k):=by rw [show n - k=(n - (k+1))+1 by omega,nZ,if_pos h]
end
section
structure Nd where
  lf:Bool
  ac:List Int
  sf:List Int
  ou:List (List Int)
  kd:List Int
  deriving Inhabited
abbrev cN (x:Nd):List V:=[.bool x.lf,aD x.ac,aD x.sf,aC x.ou,aD x.kd]
structure Dt where
  nd:List Nd
  deriving Inhabited
@[simp] theorem aP7 (l:List Nd):hY (l.map cN)=true:=by simp_all [iW]
theorem Nd.eq_iff {a b:Nd}:a=b↔a.lf=b.lf/\a.ac=b.ac/\a.sf=b.sf/\a.ou=b.ou/\a.kd=b.kd:=by cases a; cases b; simp
theorem Dt.eq_iff {a b:Dt}:a=b↔a.nd=b.nd:=by cases a; cases b; simp
instance:DecidableEq Nd:=λ_ _=>decidable_of_iff _ Nd.eq_iff.symm
instance:DecidableEq Dt:=λ_ _=>decidable_of_iff _ Dt.eq_iff.symm
def ouE (w:List Int) (k:Nat):Int:=if aA w k < 0\/1048576 < aA w k then 2 else 0
def vlE (aV suffix:List Int):Int:=if aV.length≠suffix.length then 1 else fe (ouE aV) 0 aV.length
def lfE (x:Nd):Int:=if 0 < x.sf.length+x.ou.length+x.kd.length then 1 else cP x.ac 64
def chE (x:Nd) (n:Nat) (k:Nat):Int:=if vlE (aA x.ou k) x.sf≠0 then vlE (aA x.ou k) x.sf else if 0 < k/\0<=cX (aA x.ou (k - 1)) (aA x.ou k) then 10 else if aA x.kd k < 0\/(n:Int)<=aA x.kd k then 2 else 0
def wA (x:Nd) (n:Nat):Int:=
  if 0 < x.ac.length then 1 else if x.sf.length=0 then 19 else if cP x.sf 64≠0 then cP x.sf 64 else if x.ou.length≠x.kd.length then 1 else fe (chE x n) 0 x.ou.length
def tM (x:Nd) (n:Nat):Int:=if x.lf=true then lfE x else wA x n
def fT (l:List Nd):List (List Int):=(l.filter (·.lf)).map (·.ac)
theorem nN {l:List Nd} {k:Nat} (h:k < l.length):fT (l.take (k+1))=fT (l.take k)++if (aA l k).lf=true then [(aA l k).ac] else []:=by grind [fT,cV]
theorem pP (l:List Nd):(fT l).length<=l.length:=by grind [fT]
def qS (t:Dt) (P:List Int) (i:Nat):List Int:=P++(aA t.nd (aA P i).toNat).kd
structure KI (t:Dt):Prop where
  pos:0 < t.nd.length
  rng: ∀ k,k < t.nd.length-> ∀ a∈(aA t.nd k).kd,0<=a/\a < t.nd.length
def whI:RS->List Int->Option RS
  |P,[]=>some P
  |P,a::w=>if aA P.2 a.toNat=true then none else whI (P.1++[a],P.2.set a.toNat true) w
def whN (t:Dt):Nat->Nat->RS->Option RS
  |0,_,P=>some P
  |n+1,i,P=>if i < P.1.length then (whI P (aA t.nd (aA P.1 i).toNat).kd).bind (whN t n (i+1)) else some P
def wh0 (t:Dt):RS:=([0],(List.replicate t.nd.length false).set 0 true)
def whB (t:Dt):Bool:=match whN t t.nd.length 0 (wh0 t) with
  |some P=>decide (P.1.length=t.nd.length)
  |none=>false
def coN (t:Dt):Nat->Nat->RS->Option RS
  |0,_,P=>some P
  | n + 1, i, P => if i < P.1.length then if aA P.2 (aA P.1 i).toNat = true then none else if t.nd.length < (qS t P.1 i).length then none else
      coN t n (i+1) (qS t P.1 i,P.2.set (aA P.1 i).toNat true) else some P
def co0 (t:Dt):RS:=([0],List.replicate t.nd.length false)
def coB (t:Dt):Bool:=match coN t (t.nd.length+1) 0 (co0 t) with
  |some P=>decide (P.1.length=t.nd.length)
  |none=>false
inductive Ln (t:Dt):Nat->List Int->Prop where
  |zero:Ln t 0 [0]
  |step {i:Nat} {P:List Int} (h:Ln t i P) (hi:i < P.length):Ln t (i+1) (qS t P i)
theorem Ln.rng {t:Dt} (hk:KI t): ∀ {i:Nat} {P:List Int},Ln t i P-> ∀ a∈P,0<=a/\a < t.nd.length:=by
  intro i P h
  induction h with
  |zero=>intro a ha; rw [List.mem_singleton.1 ha]; have:=hk.pos; omega
  | step h hi ih =>
    intro a ha;rcases List.mem_append.1 ha with ha|ha
    . exact ih a ha
    . have:=ih _<|bC hi
      exact hk.rng _ OM a ha
theorem Ln.le {t:Dt}: ∀ {i:Nat} {P:List Int},Ln t i P->i<=P.length:=by
  intro i P h
  induction h <;> grind [qS]
def Whole (t:Dt):Prop:= ∃ P:List Int,Ln t P.length P/\P.Nodup/\P.length=t.nd.length
theorem Ln.uniq {t:Dt}: ∀ {i:Nat} {P Q:List Int},Ln t i P->Ln t i Q->P=Q:=by
  intro i P Q h
  induction h generalizing Q with
  |zero=>intro h; cases h; rfl
  | step h hi ih =>
    intro h';cases h' <;> grind
theorem Ln.pre {t:Dt}: ∀ {i:Nat} {P:List Int},Ln t i P-> ∀ {j:Nat} {Q:List Int},Ln t j Q->i<=j-> ∃ x,Q=P++x:=by
  intro i P h j Q h2 hij
  induction h2 with
  | zero =>
    have:i=0:=OM
    subst this; exact ⟨[],by rw [h.uniq .zero]; rfl⟩
  | step h3 hi ih =>
    rename_i j Q;by_cases e:i=j+1
    . subst e; exact ⟨[],by rw [h.uniq (.step h3 hi)]; simp⟩
    grind [qS]
theorem aAc {t:Dt} {P:List Int} (h: ∀ a∈P,0<=a/\a < t.nd.length) (hn:P.Nodup):P.length<=t.nd.length:=by
  have:=aF0 (m:=(List.range t.nd.length).map Int.ofNat) hn λa ha=>by
    obtain ⟨h0,h1⟩:=h a ha;exact List.mem_map.2 ⟨a.toNat,List.mem_range.2 OM,by simp; omega⟩
  simpa using this
def Mk (n:Nat) (B:List Bool) (l:List Int):Prop:=B.length=n/\ ∀ a:Int,0<=a->a < n->(aA B a.toNat=true↔a∈l)
theorem Mk.set {n:Nat} {B:List Bool} {l:List Int} (h:Mk n B l) {a:Int} (h0:0<=a) (h1:a < n):Mk n (B.set a.toNat true) (l++[a]):=by
  refine ⟨by simp [h.1],λb b0 b1=>?_⟩;rw [sQ (by rw [h.1]; omega),List.mem_append,List.mem_singleton];by_cases e:a.toNat=b.toNat
  . grind
  . rw [if_neg e,h.2 b b0 b1]
    grind
theorem Mk.none (n:Nat):Mk n (List.replicate n false) []:=by
  refine ⟨SI,λa h0 h1=>?_⟩
  grind [aA]
theorem aF1 {n : Nat} : ∀ {w : List Int} {P : RS}, Mk n P.2 P.1 -> P.1.Nodup -> (∀ a ∈ w, 0 <= a /\ a < n) ->
    match whI P w with
    |some Q=>Q.1=P.1++w/\Mk n Q.2 Q.1/\Q.1.Nodup
    |none=> ¬(P.1++w).Nodup
  |[],P,h,hn,_=>by simp only [whI]; exact ⟨SI,h,hn⟩
  | a :: w, P, h, hn, hw => by
    obtain ⟨h0,h1⟩:=hw a SI;simp only [whI];by_cases e:aA P.2 a.toNat=true
    . rw [if_pos e]
      intro q;have:=(h.2 a h0 h1).1 e
      grind
    . rw [if_neg e]
      have hna:a∉P.1:=λq=>e<|(h.2 a h0 h1).2 q
      have hnd:(P.1++[a]).Nodup:=by
        grind
      have ih:=aF1 (w:=w) (P:=(P.1++[a],P.2.set a.toNat true)) (h.set h0 h1) hnd λb hb=>hw b<|List.mem_cons_of_mem _ hb
      grind
theorem aCB {t : Dt} (hk : KI t) : ∀ (n i : Nat) (P : RS), Ln t i P.1 -> Mk t.nd.length P.2 P.1 -> P.1.Nodup -> t.nd.length <= i + n ->
    match whN t n i P with
    |some Q=>Ln t Q.1.length Q.1/\Q.1.Nodup
    |none=> ∃ j L,Ln t j L/\ ¬L.Nodup
  | 0, i, P, hl, hm, hn, hi => by
    simp only [whN];have h1:=hl.le;have h2:=aAc (hl.rng hk) hn
    grind
  | n + 1, i, P, hl, hm, hn, hi => by
    simp only [whN];by_cases h:i < P.1.length
    . rw [if_pos h]
      have hr:=hl.rng hk _<|bC h
      have hw:=aF1 (w:=(aA t.nd (aA P.1 i).toNat).kd) hm hn<|hk.rng _ OM
      cases hq:whI P (aA t.nd (aA P.1 i).toNat).kd with
      | none =>
        rw [hq] at hw;simp only [Option.bind_none];exact ⟨i+1,_,.step hl h,hw⟩
      | some Q =>
        rw [hq] at hw;simp only [Option.bind_some];obtain ⟨g1,g2,g3⟩:=hw;exact aCB hk n (i+1) Q (by rw [g1]; exact .step hl h) g2 g3 OM
    . rw [if_neg h]
      have:=hl.le
      grind
theorem aJV {t : Dt} (hk : KI t) : whB t = true ↔ Whole t := by
  have h0:Mk t.nd.length (wh0 t).2 (wh0 t).1:=by
    have:=(Mk.none t.nd.length).set (a:=0) OM (by have:=hk.pos; omega);exact this
  have h:=aCB hk t.nd.length 0 (wh0 t) .zero h0 (by simp [wh0]) OM;unfold whB;cases hq:whN t t.nd.length 0 (wh0 t) with
  | none =>
    rw [hq] at h;obtain ⟨j,L,g1,g2⟩:=h;simp only [Bool.false_eq_true,false_iff];rintro ⟨P,p1,p2,p3⟩
    have hj : j <= P.length := by
      have:=g1.le;by_cases e:j<=P.length
      . exact e
      . exfalso
        obtain ⟨x,hx⟩:=p1.pre g1 OM
        -- the line ends with P:no step leads beyond it
        have key: ∀ {j:Nat} {L:List Int},Ln t j L->P.length < j->False:=by
          intro j L hL
          induction hL with
          |zero=>intro q; omega
          | step h2 hi ih =>
            rename_i a b;intro q;by_cases e2:P.length < a
            . exact ih e2
            . have:a=P.length:=OM
              subst this;rw [h2.uniq p1] at hi; omega
        exact key g1 OM
    obtain ⟨x,hx⟩:=g1.pre p1 hj
    grind
  | some Q =>
    rw [hq] at h;obtain ⟨g1,g2⟩:=h;simp only [decide_eq_true_eq];constructor
    . intro e; exact ⟨Q.1,g1,g2,e⟩
    . rintro ⟨P,p1,p2,p3⟩
      have key: ∀ {j:Nat} {L:List Int},Ln t j L-> ∀ {P:List Int},Ln t P.length P->j<=P.length:=by
        intro j L hL P p1
        induction hL with
        |zero=>omega
        | step h2 hi ih =>
          rename_i a b;by_cases e:a=P.length
          . subst e; rw [h2.uniq p1] at hi; omega
          . omega
      have a1:=key g1 p1;have a2:=key p1 g1;omega
theorem aGI {t : Dt} (hk : KI t) : ∀ (n i : Nat) (P : RS), Ln t i P.1 -> Mk t.nd.length P.2 (P.1.take i) -> (P.1.take i).Nodup -> P.1.length <= t.nd.length -> t.nd.length < i + n ->
    match coN t n i P with
    |some Q=>Ln t Q.1.length Q.1/\Q.1.Nodup/\Q.1.length<=t.nd.length
    |none=> ∃ j L,Ln t j L/\(¬(L.take (j+1)).Nodup\/t.nd.length < L.length)
  | 0, i, P, hl, hm, hn, hb, hi => by
    have:=hl.le; omega
  | n + 1, i, P, hl, hm, hn, hb, hi => by
    simp only [coN];by_cases h:i < P.1.length
    . rw [if_pos h]
      obtain ⟨r0,r1⟩:=hl.rng hk _<|bC h
      by_cases e:aA P.2 (aA P.1 i).toNat=true
      . rw [if_pos e]
        refine ⟨i,P.1,hl,.inl ?_⟩;have hin:=(hm.2 _ r0 r1).1 e
        grind [cV]
      . rw [if_neg e]
        by_cases g:t.nd.length < (qS t P.1 i).length
        . rw [if_pos g]; exact ⟨i+1,_,.step hl h,.inr g⟩
        . rw [if_neg g]
          have hpre:(qS t P.1 i).take (i+1)=P.1.take i++[aA P.1 i]:=by
            grind [qS,cV]
          refine aGI hk n (i+1) (qS t P.1 i,P.2.set (aA P.1 i).toNat true) (.step hl h) ?_ ?_ (by simp only; omega) OM
          . simp only [hpre]; exact hm.set r0 r1
          . simp only [hpre]
            rw [List.nodup_append];refine ⟨hn,SI,λx hx y hy=>?_⟩;rw [List.mem_singleton.1 hy]; intro q;exact e<|(hm.2 _ r0 r1).2 (q ▸ hx)
    . rw [if_neg h]
      have:=hl.le
      grind
theorem aOx {t:Dt} (hk:KI t):coB t=true↔Whole t:=by
  have h:=aGI hk (t.nd.length+1) 0 (co0 t) .zero (Mk.none _) (by simp [co0]) (by have:=hk.pos; simp [co0]; omega) OM
  have key: ∀ {j:Nat} {L:List Int},Ln t j L-> ∀ {P:List Int},Ln t P.length P->j<=P.length:=by
    intro j L hL P p1
    induction hL with
    |zero=>omega
    | step h2 hi ih =>
      rename_i a b;by_cases e:a=P.length
      . subst e; rw [h2.uniq p1] at hi; omega
      . omega
  unfold coB;cases hq:coN t (t.nd.length+1) 0 (co0 t) with
  | none =>
    rw [hq] at h;obtain ⟨j,L,g1,g2⟩:=h;simp only [Bool.false_eq_true,false_iff];rintro ⟨P,p1,p2,p3⟩;obtain ⟨x,hx⟩:=g1.pre p1<|key g1 p1
    grind
  | some Q =>
    rw [hq] at h;obtain ⟨g1,g2,g3⟩:=h;simp only [decide_eq_true_eq];constructor
    . intro e; exact ⟨Q.1,g1,g2,e⟩
    . rintro ⟨P,p1,p2,p3⟩
      have a1:=key g1 p1;have a2:=key p1 g1;omega
theorem aQm {t:Dt} (hk:KI t):coB t=whB t:=by grind [aOx,aJV]
def iB (t : Dt) : Int :=
  if t.nd.length=0 then 19 else if 4096 < t.nd.length then 11 else if fe (λk=>tM (aA t.nd k) t.nd.length) 0 t.nd.length≠0 then fe (λk=>tM (aA t.nd k) t.nd.length) 0 t.nd.length else
    if whB t=false then 1 else if (mH<|fT t.nd).length≠(fT t.nd).length then 7 else 0
end
section
def xU (l:List (List Int)):Prop:=l.Pairwise λa b=>cX a b < 0
def lxP (w u:List Int):Bool:=decide (cX u w < 0)
def kD (l:List (List Int)) (w:List Int):Nat:=(l.takeWhile (lxP w)).length
theorem aLL (a:List Int): ¬cX a a < 0:=by rw [fI.2 J]; omega
theorem aJg {w a:List Int} {l:List (List Int)}:kD (a::l) w=if lxP w a=true then kD l w+1 else 0:=by
  unfold kD; rw [List.takeWhile_cons]; split <;> rfl
theorem aGJ {w:List Int}: ∀ l:List (List Int),kD l w<=l.length
  |[]=>Nat.le_refl _
  |a::l=>by rw [aJg]; have:=aGJ (w:=w) l; split <;> simp <;> omega
theorem xK {w : List Int} : ∀ {l : List (List Int)} (_ : xU l) {k : Nat}, k < l.length -> (cX (aA l k) w < 0 ↔ k < kD l w)
  |[],_,k,hk=>by simp at hk
  | a :: l, h, k, hk => by
    rw [aJg];obtain ⟨h1,h2⟩:=List.pairwise_cons.1 h;by_cases e:lxP w a=true
    . rw [if_pos e]
      cases k with
      |zero=>rw [fX]; simp only [lxP,decide_eq_true_eq] at e; exact ⟨λ_=>by omega,λ_=>e⟩
      |succ k=>rw [jD,xK h2 (by simpa using hk)]; omega
    . rw [if_neg e]
      simp only [lxP,decide_eq_true_eq] at e;refine ⟨λh3=>?_,λh3=>by omega⟩;cases k with
      |zero=>exact (e h3).elim
      | succ k =>
        rw [jD] at h3;exact (e<|oS (h1 _<|bC (by simpa using hk)) h3).elim
def lxH (l:List (List Int)) (w:List Int):Prop:=kD l w < l.length/\cX (aA l (kD l w)) w=0
instance (l:List (List Int)) (w:List Int):Decidable (lxH l w):=inferInstanceAs (Decidable (_/\_))
theorem aI8 {l:List (List Int)} {w:List Int} (h:lxH l w):aA l (kD l w)=w:=fI.1 h.2
theorem yZ {l:List (List Int)} (h:xU l) {i j:Nat} (hij:i < j) (hj:j < l.length):cX (aA l i) (aA l j) < 0:=by
  have:=(List.pairwise_iff_getElem.1 h) i j OM hj hij
  rwa [bL,bL] at this
theorem aEp {l:List (List Int)} (hs:xU l) {w:List Int} {k:Nat} (hk:k < l.length) (h:aA l k=w):kD l w=k/\lxH l w:=by
  have h1: ¬k < kD l w:=λq=>aLL w (by have:=(xK hs hk).2 q; rwa [h] at this)
  have h2: ¬kD l w < k:=λq=>by
    have g:=yZ hs q hk;rw [h] at g;have:=(xK hs (show kD l w < l.length by omega)).1 g; omega
  have e:kD l w=k:=OM
  exact ⟨e,by rw [lxH,e]; exact ⟨hk,fI.2 h⟩⟩
end
section
theorem lY {α:Type} [Inhabited α] {l:List α} {a:α} (h:a∈l): ∃ k,k < l.length/\aA l k=a:=by grind [List.mem_iff_getElem,bL]
theorem aCj {l:List Int} (h:l.Nodup) {i j:Nat} (hi:i < l.length) (hj:j < l.length) (e:aA l i=aA l j):i=j:=by grind [List.pairwise_iff_getElem,bL]
theorem aPt {l:List (List Int)} (h: ∀ a b,a < b->b < l.length->cX (aA l a) (aA l b) < 0):xU l:=
  List.pairwise_iff_getElem.2 λi j hi hj hij=>by rw [bL,bL]; exact h i j hij hj
theorem oZ {t:Dt} (h:iB t=0):0 < t.nd.length/\t.nd.length<=4096/\(∀ k,k < t.nd.length->tM (aA t.nd k) t.nd.length=0)/\whB t=true/\(mH (fT t.nd)).length=(fT t.nd).length:=by grind [iB,cW]
structure InOk (x:Nd) (n:Nat):Prop where
  ac:x.ac=[]
  s0:0 < x.sf.length
  sw:cP x.sf 64=0
  len:x.ou.length=x.kd.length
  ov: ∀ k,k < x.ou.length->vlE (aA x.ou k) x.sf=0
  srt:xU x.ou
  kr: ∀ a∈x.kd,0<=a/\a < n
structure LfOk (x:Nd):Prop where
  sf:x.sf=[]
  ou:x.ou=[]
  kd:x.kd=[]
  aw:cP x.ac 64=0
theorem aNe {x:Nd} {n k:Nat} (h:chE x n k=0):vlE (aA x.ou k) x.sf=0/\(0 < k->cX (aA x.ou (k - 1)) (aA x.ou k) < 0)/\0<=aA x.kd k/\aA x.kd k < n:=by grind [chE]
theorem aSt {x:Nd} {n:Nat}: ∀ {i:Nat},(∀ j,j < i->chE x n j=0)-> ∀ a b,a < b->b < i->cX (aA x.ou a) (aA x.ou b) < 0:=by
  intro i h a b
  induction b with
  |zero=>intro q; omega
  | succ b ih =>
    intro q hb;have h1:=(aNe<|h (b+1) hb).2.1 OM;rw [Nat.add_sub_cancel] at h1;rcases Nat.lt_or_ge a b with g|g
    . exact oS (ih g OM) h1
    grind
theorem aMt {x : Nd} {n : Nat} (h : wA x n = 0) : InOk x n := by
  unfold wA at h;split at h
  . omega
  . split at h
    . omega
    . split at h
      . rename_i q; exact (q h).elim
      . split at h
        . omega
        . rename_i h1 h2 h3 h4
          have hc:=cW.1 h;have hc': ∀ j,j < x.ou.length->chE x n j=0:=λj hj=>hc j (Nat.zero_le _) OM
          refine ⟨List.eq_nil_of_length_eq_zero OM,OM,OM,OM,λk hk=>(aNe<|hc' k hk).1,aPt λa b hab hb=>aSt hc' a b hab hb,λa ha=>?_⟩;obtain ⟨k,hk,rfl⟩:=lY ha;exact (aNe<|hc' k OM).2.2
theorem aPM {x:Nd} (h:lfE x=0):LfOk x:=by
  unfold lfE at h;split at h
  . omega
  . exact ⟨List.eq_nil_of_length_eq_zero OM,List.eq_nil_of_length_eq_zero OM,List.eq_nil_of_length_eq_zero OM,h⟩
theorem qK {t:Dt} (h:iB t=0) {k:Nat} (hk:k < t.nd.length) (hl:(aA t.nd k).lf=false):InOk (aA t.nd k) t.nd.length:=by grind [oZ,tM,aMt]
theorem aB0 {t:Dt} (h:iB t=0) {k:Nat} (hk:k < t.nd.length) (hl:(aA t.nd k).lf=true):LfOk (aA t.nd k):=by grind [oZ,tM,aPM]
theorem aIf {t:Dt} (h0:0 < t.nd.length) (h: ∀ k,k < t.nd.length->tM (aA t.nd k) t.nd.length=0):KI t:=by
  refine ⟨h0,λk hk a ha=>?_⟩;have:=h k hk;unfold tM at this;split at this
  . rw [(aPM this).kd] at ha; cases ha
  . exact (aMt this).kr a ha
theorem lC {t:Dt} (h:iB t=0):KI t:=aIf (oZ h).1 (oZ h).2.2.1
def Plc (t:Dt) (P:List Int):Prop:=Ln t P.length P/\P.Nodup/\P.length=t.nd.length
theorem mT {t:Dt} (h:iB t=0): ∃ P,Plc t P:=(aJV (lC h)).1 (oZ h).2.2.2.1
theorem Ln.kid {t:Dt}: ∀ {i:Nat} {P:List Int},Ln t i P-> ∀ {a:Int} {j:Nat},j < i->a∈(aA t.nd (aA P j).toNat).kd-> ∃ s,j < s/\s < P.length/\aA P s=a:=by
  intro i P h
  induction h with
  |zero=>intro a j hj; omega
  | step h hi ih =>
    rename_i i P;intro a j hj ha;have hle:=h.le;have e:aA (qS t P i) j=aA P j:=by grind [qS,dB]
    rw [e] at ha;have hl:(qS t P i).length=P.length+(aA t.nd (aA P i).toNat).kd.length:=by grind [qS]
    rcases Nat.lt_or_ge j i with q|q
    . obtain ⟨s,h1,h2,h3⟩:=ih q ha
      exact ⟨s,h1,OM,by unfold qS; rw [dB h2]; exact h3⟩
    . have:j=i:=OM
      subst this;obtain ⟨c,hc,hv⟩:=lY ha;exact ⟨P.length+c,OM,OM,by unfold qS; rw [iC]; exact hv⟩
theorem Ln.par {t:Dt}: ∀ {i:Nat} {P:List Int},Ln t i P-> ∀ {s:Nat},0 < s->s < P.length-> ∃ j,j < s/\aA P s∈(aA t.nd (aA P j).toNat).kd:=by
  intro i P h
  induction h with
  |zero=>grind
  | step h hi ih =>
    rename_i i P;intro s h0 h1;have hl:(qS t P i).length=P.length+(aA t.nd (aA P i).toNat).kd.length:=by grind [qS]
    rcases Nat.lt_or_ge s P.length with q|q
    . obtain ⟨j,g1,g2⟩:=ih h0 q
      refine ⟨j,g1,?_⟩
      grind [qS,dB]
    . refine ⟨i,OM,?_⟩
      have e:s=P.length+(s - P.length):=OM
      unfold qS;rw [dB hi,e,iC];exact bC OM
theorem Plc.head {t:Dt} {P:List Int} (h:Plc t P):aA P 0=0/\(0 < t.nd.length->0 < P.length):=by
  have: ∀ {i:Nat} {P:List Int},Ln t i P->aA P 0=0:=by
    intro i P h
    induction h with
    |zero=>rfl
    |step h hi ih=>grind [qS,dB]
  exact ⟨this h.1,λq=>by rw [h.2.2]; exact q⟩
theorem Plc.kid {t:Dt} {P:List Int} (h:Plc t P) {s:Nat} (hs:s < P.length) {a:Int} (ha:a∈(aA t.nd (aA P s).toNat).kd): ∃ s',s < s'/\s' < P.length/\aA P s'=a:=h.1.kid hs ha
theorem Plc.all {t:Dt} (hk:KI t) {P:List Int} (h:Plc t P) {a:Int} (h0:0<=a) (h1:a < t.nd.length): ∃ s,s < P.length/\aA P s=a:=by
  by_cases e:a∈P
  . exact lY e
  . have:=aAc (t:=t) (P:=a::P) (λb hb=>by
      rcases List.mem_cons.1 hb with rfl|hb
      . exact ⟨h0,h1⟩
      . exact h.1.rng hk b hb) (List.nodup_cons.2 ⟨e,h.2.1⟩)
    have:=h.2.2;simp at*; omega
theorem Plc.one {t : Dt} (hk : KI t) {P : List Int} (h : Plc t P) : ∀ {m m' a : Int}, 0 <= m -> m < t.nd.length -> 0 <= m' -> m' < t.nd.length -> a ∈ (aA t.nd m.toNat).kd -> a ∈ (aA t.nd m'.toNat).kd -> m = m' := by
  intro m m' a h0 h1 h2 h3 ha hb;obtain ⟨i,hi,ei⟩:=h.all hk h0 h1;obtain ⟨j,hj,ej⟩:=h.all hk h2 h3
  have key: ∀ {n:Nat} {Q:List Int},Ln t n Q->Q.Nodup-> ∀ {i j:Nat},i < j->j < n->a∈(aA t.nd (aA Q i).toNat).kd->a∈(aA t.nd (aA Q j).toNat).kd->False:=by
    intro n Q hq
    induction hq with
    |zero=>intro _ i j _ hj; omega
    | step h hi ih =>
      rename_i n Q;intro hnd i j hij hj ha hb;have hle:=h.le;have e1:aA (qS t Q n) i=aA Q i:=by grind [qS,dB]
      have e2:aA (qS t Q n) j=aA Q j:=by grind [qS,dB]
      rw [e1] at ha; rw [e2] at hb;have hn2:(Q++(aA t.nd (aA Q n).toNat).kd).Nodup:=hnd;rw [List.nodup_append] at hn2;rcases Nat.lt_or_ge j n with q|q
      . exact ih hn2.1 hij q ha hb
      . have:j=n:=OM
        subst this;obtain ⟨s,_,g2,g3⟩:=h.kid hij ha
        grind [bC]
  rw [<- ei] at ha; rw [<- ej] at hb;rcases Nat.lt_trichotomy i j with q|q|q
  . exact (key h.1 h.2.1 q hj ha hb).elim
  . rw [<- ei,<- ej,q]
  . exact (key h.1 h.2.1 q hi hb ha).elim
def gS (t:Dt) (o:Ob) (w:List Int):Nat->Nat->Int×List Int×Int
  |0,n=>(n,[],0)
  | f + 1, n => if (aA t.nd n).lf = true then (n, [], 0) else if cP (bH [w, (aA t.nd n).sf]) o.i ≠ 0 then (0, [], cP (bH [w, (aA t.nd n).sf]) o.i) else
      if (dP o<|bH [w,(aA t.nd n).sf]).isSome=false then (0,bH [w,(aA t.nd n).sf],0) else
      if lxH (aA t.nd n).ou (((dP o<|bH [w,(aA t.nd n).sf]).getD []).drop w.length) then gS t o w f (aA (aA t.nd n).kd (kD (aA t.nd n).ou (((dP o<|bH [w,(aA t.nd n).sf]).getD []).drop w.length))).toNat else (n,[],0)
def bF (t:Dt) (o:Ob) (w:List Int):Int×List Int×Int:=
  if iB t≠0 then (0,[],iB t) else if cP w o.i≠0 then (0,[],cP w o.i) else gS t o w t.nd.length 0
def Rk (t:Dt) (f n:Nat):Prop:= ∃ P s,Plc t P/\s < P.length/\aA P s=(n:Int)/\t.nd.length<=f+s
theorem rk0 {t:Dt} (h:iB t=0):Rk t t.nd.length 0:=by
  obtain ⟨P,hP⟩:=mT h;exact ⟨P,0,hP,hP.head.2 (oZ h).1,hP.head.1,OM⟩
theorem Rk.pos {t:Dt} {f n:Nat} (h:Rk t f n):0 < f:=by
  obtain ⟨P,s,hP,hs,_,h3⟩:=h;have:=hP.2.2; omega
theorem Rk.lt {t:Dt} (hv:iB t=0) {f n:Nat} (h:Rk t f n):n < t.nd.length:=by
  obtain ⟨P,s,hP,hs,h2,_⟩:=h;have:=hP.1.rng (lC hv) _<|bC hs
  omega
theorem Rk.step {t:Dt} {f n:Nat} (h:Rk t f n) {a:Int} (ha:a∈(aA t.nd n).kd) (h0:0<=a):Rk t (f - 1) a.toNat:=by
  have hp:=h.pos;obtain ⟨P,s,hP,hs,h2,h3⟩:=h;obtain ⟨s',g1,g2,g3⟩:=hP.kid hs (a:=a) (by rw [h2]; simpa using ha);exact ⟨P,s',hP,g2,by rw [g3]; omega,OM⟩
section
variable {t:Dt} {o:Ob} {w:List Int} {f n:Nat}
theorem oW (hf:0 < f) (h:(aA t.nd n).lf=true):gS t o w f n=((n:Int),[],0):=by
  obtain ⟨f,rfl⟩: ∃ g,f=g+1:=⟨f - 1,OM⟩;rw [gS,if_pos h]
theorem sP (hf:0 < f) (h:(aA t.nd n).lf=false) (h1:cP (bH [w,(aA t.nd n).sf]) o.i≠0):gS t o w f n=(0,[],cP (bH [w,(aA t.nd n).sf]) o.i):=by
  obtain ⟨f,rfl⟩: ∃ g,f=g+1:=⟨f - 1,OM⟩
  grind [gS]
theorem sK (hf:0 < f) (h:(aA t.nd n).lf=false) (h1: ¬cP (bH [w,(aA t.nd n).sf]) o.i≠0) (h2:(dP o (bH [w,(aA t.nd n).sf])).isSome=false):gS t o w f n=(0,bH [w,(aA t.nd n).sf],0):=by
  obtain ⟨f,rfl⟩: ∃ g,f=g+1:=⟨f - 1,OM⟩
  grind [gS]
theorem aCE (hf:0 < f) (h:(aA t.nd n).lf=false) (h1: ¬cP (bH [w,(aA t.nd n).sf]) o.i≠0) (h2:(dP o (bH [w,(aA t.nd n).sf])).isSome=true) (h3:lxH (aA t.nd n).ou (((dP o (bH [w,(aA t.nd n).sf])).getD []).drop w.length)):
    gS t o w f n=gS t o w (f - 1) (aA (aA t.nd n).kd (kD (aA t.nd n).ou (((dP o<|bH [w,(aA t.nd n).sf]).getD []).drop w.length))).toNat:=by
  obtain ⟨f,rfl⟩: ∃ g,f=g+1:=⟨f - 1,OM⟩
  grind [gS]
theorem wO (hf:0 < f) (h:(aA t.nd n).lf=false) (h1: ¬cP (bH [w,(aA t.nd n).sf]) o.i≠0) (h2:(dP o (bH [w,(aA t.nd n).sf])).isSome=true) (h3: ¬lxH (aA t.nd n).ou (((dP o (bH [w,(aA t.nd n).sf])).getD []).drop w.length)):
    gS t o w f n=((n:Int),[],0):=by
  obtain ⟨f,rfl⟩: ∃ g,f=g+1:=⟨f - 1,OM⟩
  grind [gS]
end
def par (t:Dt) (n:Int):Int:=fi (λk=>decide (n∈(aA t.nd k).kd)) 0 t.nd.length
end
section
set_option linter.unusedSectionVars false
section
variable {α:Type} [Inhabited α]
def nU (l:List α) (k:Nat):List α:=(List.range l.length).map λm=>if m < k\/l.length<=m+k then aA l (l.length - 1 - m) else aA l m
theorem xC (l:List α) (k:Nat):(nU l k).length=l.length:=by simp [nU]
theorem aHB {l:List α} {k m:Nat} (h:m < l.length):aA (nU l k) m=if m < k\/l.length<=m+k then aA l (l.length - 1 - m) else aA l m:=by
  unfold nU;rw [<- bL (by simpa using h)];simp
theorem aJR (l:List α):nU l 0=l:=by grind [fU,xC,aHB]
theorem aNP {l:List α} {i j:Nat} {x:α} (hi:i < l.length) (hj:j < l.length):aA (l.set i x) j=if i=j then x else aA l j:=by rw [<- bL (by simpa using hj),List.getElem_set,bL]
theorem aJM {l:List α} {k j:Nat} (hj:k+j+1=l.length) (h:k < j):((nU l k).set k (aA (nU l k) j)).set j (aA (nU l k) k)=nU l (k+1):=by
  have hl:=xC l k;refine fU (by grind [xC]) λm hm=>?_
  grind [aNP,aHB]
theorem aMI {l:List α} {k:Nat} (h:l.length<=2*k+1) (hk:2*k<=l.length+1):nU l k=l.reverse:=by
  refine fU (by grind [xC]) λm hm=>?_
  grind [xC,aA,aHB]
def tL (p:Nat) (x:α) (l:List α):List α:=l.take p++x::l.drop p
theorem aAh (p:Nat) (x:α) (l:List α):(tL p x l).length=l.length+1:=by unfold tL; simp; omega
theorem yQ {p:Nat} {x y:α} {l:List α}:y∈tL p x l↔y=x\/y∈l:=by grind [List.take_append_drop,tL]
end
def gNd (x:Nd) (aV:List Int) (kid:Int):Nd:=⟨x.lf,x.ac,x.sf,tL (kD x.ou aV) aV x.ou,tL (kD x.ou aV) kid x.kd⟩
def noE (t:Dt) (n:Int) (leaf:Bool):Int:=if n < 0\/(t.nd.length:Int)<=n then 2 else if (aA t.nd n.toNat).lf≠leaf then 10 else 0
def fsE (t:Dt) (w:List Int):Int:=if cP w 64≠0 then cP w 64 else if w∈fT t.nd then 7 else 0
def nP (t:Dt) (n:Int) (aV w:List Int):Int:=
  if iB t≠0 then iB t else if noE t n false≠0 then noE t n false else if vlE aV (aA t.nd n.toNat).sf≠0 then vlE aV (aA t.nd n.toNat).sf else
  if lxH (aA t.nd n.toNat).ou aV then 7 else if fsE t w≠0 then fsE t w else if 4096<=t.nd.length then 11 else 0
def rY (w:List Int):Nd:=⟨true,w,[],[],[]⟩
def wN (t:Dt) (n:Int) (aV w:List Int):Dt:=if nP t n aV w=0 then ⟨t.nd.set n.toNat (gNd (aA t.nd n.toNat) aV t.nd.length)++[rY w]⟩ else t
def yW (t:Dt) (n:Int) (sf aV w other:List Int):Int:=
  if noE t n true≠0 then noE t n true else if sf.length=0 then 19 else if cP sf 64≠0 then cP sf 64 else if vlE aV sf≠0 then vlE aV sf else
  if fsE t w≠0 then fsE t w else if vlE other sf≠0 then vlE other sf else if aV=other then 15 else if 4094 < t.nd.length then 11 else 0
def spE (t:Dt) (n:Int) (sf aV w other:List Int):Int:=if iB t≠0 then iB t else yW t n sf aV w other
def spO (aV other:List Int):List (List Int):=if 0 < cX aV other then [other,aV] else [aV,other]
def spK (aV other:List Int) (n:Nat):List Int:=if 0 < cX aV other then [(n:Int)+1,n] else [(n:Int),(n:Int)+1]
def spN (sf aV other:List Int) (n:Nat):Nd:=⟨false,[],sf,spO aV other,spK aV other n⟩
def xE (t:Dt) (n:Int) (sf aV w other:List Int):Dt:=
  if spE t n sf aV w other=0 then ⟨t.nd.set n.toNat (spN sf aV other t.nd.length)++[aA t.nd n.toNat,rY w]⟩ else t
end
section
structure Tree (t:Dt):Prop where
  d1: ∀ k,k < t.nd.length->(aA t.nd k).kd.Nodup
  d2: ∀ j k,j < t.nd.length->k < t.nd.length->j≠k-> ∀ a∈(aA t.nd j).kd,a∉(aA t.nd k).kd
  d3: ∀ k,k < t.nd.length->(0:Int)∉(aA t.nd k).kd
  d4: ∀ a:Int,0 < a->a < t.nd.length-> ∃ k,k < t.nd.length/\a∈(aA t.nd k).kd
  rk: ∃ r:Int->Nat,∀ k:Nat,k < t.nd.length-> ∀ a∈(aA t.nd k).kd,r k < r a
def kO (t:Dt) (a:Int):List Int:=(aA t.nd a.toNat).kd
theorem aI9 {t:Dt}: ∀ {i:Nat} {P:List Int},Ln t i P->P=0::(P.take i).flatMap (kO t):=by
  intro i P h
  induction h <;> grind [qS,cV,kO]
theorem tC {t:Dt} (hk:KI t) (h:Whole t):Tree t:=by
  obtain ⟨P,hP⟩:=h;have hP:Plc t P:=hP;have hf:=aI9 hP.1;rw [List.take_length] at hf;have hn:=hP.2.1;rw [hf,List.nodup_cons] at hn;have hn2:(P.flatMap<|kO t).Pairwise (· ≠ ·):=hn.2;rw [List.pairwise_flatMap] at hn2;have hall: ∀ k:Nat,k < t.nd.length-> ∃ s,s < P.length/\aA P s=(k:Int):=λk hk'=>hP.all hk OM OM
  refine ⟨λk hk'=>?_,λj k hj hk' hne a ha hb=>?_,λk hk' h0=>?_,λa h0 h1=>?_,?_⟩
  . obtain ⟨s,hs,e⟩:=hall k hk'
    grind [bC,kO,Int.toNat_natCast]
  . have:=hP.one hk (m:=(j:Int)) (m':=(k:Int)) OM OM OM OM (by simpa using ha) (by simpa using hb)
    omega
  . obtain ⟨s,hs,e⟩:=hall k hk'
    obtain ⟨s',g1,g2,g3⟩:=hP.kid hs (a:=0) (by rw [e]; simpa using h0);have:=aCj hP.2.1 g2 (show 0 < P.length by omega) (by rw [g3,hP.head.1]);omega
  . obtain ⟨s,hs,e⟩:=hP.all hk (a:=a) OM h1
    have hs0:0 < s:=by
      rcases Nat.eq_zero_or_pos s with q|q
      . subst q; rw [hP.head.1] at e; omega
      . exact q
    obtain ⟨j,g1,g2⟩:=hP.1.par hs0 hs;have:=hP.1.rng hk _<|bC (show j < P.length by omega)
    exact ⟨(aA P j).toNat,OM,e ▸ g2⟩
  . refine ⟨λa=>if h: ∃ s,s < P.length/\aA P s=a then h.choose else 0,λk hk' a ha=>?_⟩
    have h1:=hall k hk';obtain ⟨s',g1,g2,g3⟩:=hP.kid h1.choose_spec.1 (a:=a) (by rw [h1.choose_spec.2]; simpa using ha);have h2: ∃ s,s < P.length/\aA P s=a:=⟨s',g2,g3⟩
    have e:=aCj hP.2.1 h2.choose_spec.1 g2 (by rw [h2.choose_spec.2,g3]);show (if h: ∃ s,s < P.length/\aA P s=(k:Int) then h.choose else 0) < (if h: ∃ s,s < P.length/\aA P s=a then h.choose else 0);rw [dif_pos h1,dif_pos h2,e];exact g1
theorem aOv {t : Dt} (hk : KI t) (h : Tree t) : ∀ {i : Nat} {L : List Int}, Ln t i L -> L.Nodup := by
  intro i L hl
  induction hl with
  |zero=>simp
  | step hl hi ih =>
    rename_i i L;have hstep:Ln t (i+1) (qS t L i):=.step hl hi
    have e:(qS t L i).take (i+1)=L.take (i+1):=by
      grind [qS]
    have hf:=aI9 hstep;rw [e] at hf;rw [hf,List.nodup_cons];have hr:=hl.rng hk;have hm: ∀ a∈L.take (i+1),0<=a/\a < t.nd.length:=λa ha=>hr a<|List.mem_of_mem_take ha
    constructor
    . intro h0
      obtain ⟨a,ha,hb⟩:=List.mem_flatMap.1 h0;have:=hm a ha;exact h.d3 a.toNat OM hb
    . show ((L.take<|i+1).flatMap (kO t)).Pairwise (· ≠ ·)
      rw [List.pairwise_flatMap];refine ⟨λa ha=>?_,?_⟩
      . have:=hm a ha
        exact h.d1 a.toNat OM
      . have hs:(L.take<|i+1).Nodup:=ih.sublist<|List.take_sublist _ _
        refine List.pairwise_iff_getElem.2 λp q hp hq hpq x hx y hy e=>?_;subst e;have hne:=(List.pairwise_iff_getElem.1 hs) p q hp hq hpq;have h1:=hm _<|List.getElem_mem hp
        have h2:=hm _<|List.getElem_mem hq
        exact h.d2 _ _ OM OM (λe=>hne OM) x hx hy
theorem aHf {t : Dt} (hk : KI t) (h : Tree t) : whB t = true := by
  have hs:=aCB hk t.nd.length 0 (wh0 t) .zero ((Mk.none t.nd.length).set (a:=0) OM (by have:=hk.pos; omega)) (by simp [wh0]) OM;unfold whB;cases hq:whN t t.nd.length 0 (wh0 t) with
  | none =>
    grind [aOv]
  | some Q =>
    rw [hq] at hs;obtain ⟨g1,g2⟩:=hs;simp only [decide_eq_true_eq];have hle:=aAc (g1.rng hk) g2;obtain ⟨r,hr⟩:=h.rk
    have h0:aA Q.1 0=0/\0 < Q.1.length:=by
      have hd: ∀ {i:Nat} {P:List Int},Ln t i P->aA P 0=0/\0 < P.length:=by
        intro i P h
        induction h with
        |zero=>exact ⟨rfl,SI⟩
        |step h hi ih=>grind [qS,dB]
      exact hd g1
    have hall: ∀ n:Nat,∀ a:Int,r a < n->0<=a->a < t.nd.length->a∈Q.1:=by
      intro n
      induction n with
      |zero=>intro a h1; omega
      | succ n ih =>
        intro a h1 h2 h3;by_cases e:a=0
        . grind [bC]
        . obtain ⟨k,k1,k2⟩:=h.d4 a OM h3
          have hk2:=hr k k1 a k2;obtain ⟨s,s1,s2⟩:=lY<|ih (k:Int) OM OM OM
          obtain ⟨s',_,s4,s5⟩:=g1.kid s1 (a:=a) (by rw [s2]; simpa using k2);rw [<- s5]; exact bC s4
    have hge:=aF0 (l:=(List.range t.nd.length).map Int.ofNat) (m:=Q.1) (by
        rw [List.Nodup,List.pairwise_map];exact List.nodup_range.imp λhab e=>hab (by grind)) (λa ha=>by
        obtain ⟨k,k1,rfl⟩:=List.mem_map.1 ha;exact hall (r (Int.ofNat k)+1) _ OM SI (by grind))
    simp at hge;omega
theorem aJe {α:Type} [BEq α] [LawfulBEq α]: ∀ {A L:List α},A.Nodup->(∀ a∈A,a∈L)->L.length<=A.length->A.Perm L
  | [], L, _, _, h => by
    grind
  | a :: A, L, hn, hs, hl => by
    obtain ⟨h1,h2⟩:=List.nodup_cons.1 hn;have ha:=hs a SI;have hp:=List.perm_cons_erase ha;have hlen:=hp.length_eq;simp only [List.length_cons] at hlen hl;refine List.Perm.trans (List.Perm.cons a<|aJe h2 (λb hb=>?_) OM) hp.symm
    grind
theorem aIg (l:List (List Int)):(mH l).Nodup:=List.Pairwise.imp (λ{a b} (h:fV a b < 0) (e:a=b)=>aBc b (by rw [e] at h; exact h)) (sY l)
theorem aFB {l:List (List Int)}:(mH l).length=l.length↔l.Nodup:=by
  constructor
  . intro h
    exact (aJe (aIg l) (λa ha=>(iA l a).1 ha) OM).nodup (aIg l)
  . intro h
    exact ((List.perm_ext_iff_of_nodup (aIg l) h).2 λa=>iA l a).length_eq
theorem aO5 {l m:List (List Int)} (h: ∀ u,u∈l↔u∈m):mH l=mH m:=by grind [yO,sY,iA]
theorem aGW {l:List Nd} {n:Nat} (h:n < l.length):l=l.take n++aA l n::l.drop (n+1):=by grind [tY,List.take_append_drop]
theorem aMe {l:List Nd} {n:Nat} (h:n < l.length) (x:Nd):l.set n x=l.take n++x::l.drop (n+1):=by grind [List.set_eq_take_append_cons_drop]
theorem aNT (l m:List Nd):fT (l++m)=fT l++fT m:=by simp [fT]
theorem aFM (x:Nd) (l:List Nd):fT (x::l)=(if x.lf=true then [x.ac] else [])++fT l:=by grind [fT]
theorem aND {l:List Nd} {n:Nat} (h:n < l.length) (hl:(aA l n).lf=false) {x:Nd} (hx:x.lf=false) (w:List Int):fT (l.set n x++[rY w])=fT l++[w]:=by grind [aMe,aGW,fT,rY]
theorem aKE {l:List Nd} {n:Nat} (h:n < l.length) (hl:(aA l n).lf=true) {x:Nd} (hx:x.lf=false) (w:List Int):(fT (l.set n x++[aA l n,rY w])).Perm (fT l++[w]):=by
  have e1:fT (l.set n x++[aA l n,rY w])=fT (l.take n)++(fT (l.drop<|n+1)++[(aA l n).ac])++[w]:=by
    grind [aMe,aFM,fT,rY]
  grind [aGW,aNT,aFM]
theorem aM1 {x:Nd} {n:Nat} (h:InOk x n):wA x n=0:=by
  unfold wA;have h0:=h.s0;rw [if_neg (by rw [h.ac]; simp),if_neg OM,if_neg (by rw [h.sw]; simp),if_neg (by rw [h.len]; simp)];refine cW.2 λk _ hk=>?_;have hk:k < x.ou.length:=OM
  have hr:=h.kr _<|bC (show k < x.kd.length by rw [<- h.len]; exact hk)
  unfold chE;rw [if_neg (by rw [h.ov k hk]; simp),if_neg,if_neg OM];rintro ⟨q1,q2⟩;have:=yZ h.srt (show k - 1 < k by omega) hk;omega
theorem aSw {x:Nd} {n:Nat} (h:InOk x n) {m:Nat} (hm:n<=m):InOk x m:=
  ⟨h.ac,h.s0,h.sw,h.len,h.ov,h.srt,λa ha=>by have:=h.kr a ha; omega⟩
theorem aJx {x:Nd} {n m:Nat} (h:tM x n=0) (hm:n<=m):tM x m=0:=by grind [tM,aM1,aSw,aMt]
theorem aO4 {l:List (List Int)} (hs:xU l) {w:List Int} (hx: ¬lxH l w):xU (tL (kD l w) w l):=by
  unfold xU tL;have hs':(l.take (kD l w)++l.drop (kD l w)).Pairwise λa b=>cX a b < 0:=by rw [List.take_append_drop]; exact hs
  rw [List.pairwise_append] at hs' ⊢
  have hlow: ∀ a∈l.take (kD l w),cX a w < 0:=λa ha=>by
    grind [lY,jU,xK]
  grind [lY,vD,xK,aEp,fI,aAd,List.pairwise_cons]
theorem aAg {l:List Nd} {n:Nat} (hn:n < l.length) (x:Nd) (m:List Nd) (k:Nat):aA (l.set n x++m) k=if k < l.length then (if n=k then x else aA l k) else aA m (k - l.length):=by
  by_cases h:k < l.length
  . grind [dB,sQ]
  . rw [if_neg h]
    have e:k=(l.set n x).length+(k - l.length):=by grind
    rw [e,iC,List.length_set]; congr 1; omega
end
section
theorem aMf {t t':Dt} (hk:KI t) (h:Tree t) {n m:Nat} (hn:n < t.nd.length) (hN:t'.nd.length=t.nd.length+m)
    (hkd: ∀ k,k < t.nd.length+m-> ∀ a,a∈(aA t'.nd k).kd↔(k < t.nd.length/\a∈(aA t.nd k).kd)\/(k=n/\(t.nd.length:Int)<=a/\a < ((t.nd.length+m:Nat):Int)))
    (hd: ∀ k,k < t.nd.length+m->(aA t'.nd k).kd.Nodup):Tree t':=by
  have hr: ∀ k a,k < t.nd.length->a∈(aA t.nd k).kd->0<=a/\a < t.nd.length:=λk a h1 h2=>hk.rng k h1 a h2
  refine ⟨λk hk'=>hd k OM,λj k hj hk' hne a ha hb=>?_,λk hk' h0=>?_,λa h0 h1=>?_,?_⟩
  . rcases (hkd j OM a).1 ha with q|q <;> rcases (hkd k OM a).1 hb with p|p
    . exact h.d2 j k q.1 p.1 hne a q.2 p.2
    all_goals (grind)
  . rcases (hkd k OM 0).1 h0 with q|q
    . exact h.d3 k q.1 q.2
    . have:=hk.pos; omega
  . by_cases e:a < t.nd.length
    . obtain ⟨k,k1,k2⟩:=h.d4 a h0 e
      grind
    . exact ⟨n,OM,(hkd n OM a).2 (.inr ⟨J,OM,OM⟩)⟩
  . obtain ⟨r,hr2⟩:=h.rk
    refine ⟨λa=>if a < t.nd.length then r a else r n+1,λk hk' a ha=>?_⟩
    grind
theorem aQ4 {p:Nat} {x:Int} {l:List Int} (h:l.Nodup) (hx:x∉l):(tL p x l).Nodup:=by grind [tL,List.take_append_drop]
theorem aMP {t t':Dt} (hv:iB t=0) {n m:Nat} (hn:n < t.nd.length) (hN:t'.nd.length=t.nd.length+m) (hl:t.nd.length+m<=4096)
    (hkd: ∀ k,k < t.nd.length+m-> ∀ a,a∈(aA t'.nd k).kd↔(k < t.nd.length/\a∈(aA t.nd k).kd)\/(k=n/\(t.nd.length:Int)<=a/\a < ((t.nd.length+m:Nat):Int)))
    (hd: ∀ k,k < t.nd.length+m->(aA t'.nd k).kd.Nodup) (he: ∀ k,k < t.nd.length+m->tM (aA t'.nd k) (t.nd.length+m)=0) {w:List Int} (hw:w∉fT t.nd) (hp:(fT t'.nd).Perm (fT t.nd++[w])):
    iB t'=0/\mH (fT t'.nd)=mH (mH (fT t.nd)++[w])/\(mH<|fT t'.nd).length=(mH<|fT t.nd).length+1:=by
  have h1:=oZ hv;have hki:KI t':=aIf OM λk hk=>by rw [hN] at hk ⊢; exact he k hk
  have htr:Tree t':=aMf (lC hv) (tC (lC hv)<|mT hv) hn hN hkd hd;have hwh:=aHf hki htr;have hnd0:(fT t.nd).Nodup:=aFB.1 h1.2.2.2.2
  have hnd:(fT t'.nd).Nodup:=by
    grind
  have hlen:=aFB.2 hnd;refine ⟨?_,aO5 λu=>?_,?_⟩
  . grind [iB,cW]
  . grind [iA]
  . rw [hlen,hp.length_eq,List.length_append,h1.2.2.2.2]; rfl
theorem rH {t:Dt} {n:Int} {b:Bool} (h:noE t n b=0):0<=n/\n < t.nd.length/\(aA t.nd n.toNat).lf=b:=by grind [noE]
theorem aIA {t:Dt} {w:List Int} (h:fsE t w=0):cP w 64=0/\w∉fT t.nd:=by grind [fsE]
theorem aBI {t:Dt} {n:Int} {aV w:List Int} (h:nP t n aV w=0):iB t=0/\noE t n false=0/\vlE aV (aA t.nd n.toNat).sf=0/\ ¬lxH (aA t.nd n.toNat).ou aV/\fsE t w=0/\t.nd.length < 4096:=by
  unfold nP at h;split at h <;> grind
theorem aQk {w:List Int} (h:cP w 64=0) (n:Nat):tM (rY w) n=0:=by unfold tM rY lfE; simpa using h
theorem aEg {t : Dt} {n : Int} {aV w : List Int} (h : nP t n aV w = 0) :
    iB (wN t n aV w)=0/\mH (fT (wN t n aV w).nd)=mH (mH (fT t.nd)++[w])/\(mH<|fT (wN t n aV w).nd).length=(mH<|fT t.nd).length+1:=by
  obtain ⟨hv,h1,h2,h3,h4,h5⟩:=aBI h;obtain ⟨n0,n1,hl⟩:=rH h1;obtain ⟨w1,w2⟩:=aIA h4;have hn:n.toNat < t.nd.length:=OM
  have hin:=qK hv hn hl;have hlx:=aGJ (w:=aV) (aA t.nd n.toNat).ou
  have hg:InOk (gNd (aA t.nd n.toNat) aV t.nd.length) (t.nd.length+1):=by
    refine ⟨hin.ac,hin.s0,hin.sw,?_,λk hk=>?_,aO4 hin.srt h3,λa ha=>?_⟩
    . simp only [gNd]; rw [aAh,aAh,hin.len]
    . have hm:aA (gNd (aA t.nd n.toNat) aV t.nd.length).ou k∈tL (kD (aA t.nd n.toNat).ou aV) aV (aA t.nd n.toNat).ou:=bC hk
      rcases yQ.1 hm with e|e
      . rw [e]; exact h2
      . obtain ⟨j,hj,e2⟩:=lY e
        rw [<- e2]; exact hin.ov j hj
    . rcases yQ.1 ha with e|e
      . rw [e]; omega
      . have:=hin.kr a e; omega
  have hglf:(gNd (aA t.nd n.toNat) aV t.nd.length).lf=false:=hl;unfold wN;rw [if_pos h];have hnth:=aAg hn (gNd (aA t.nd n.toNat) aV t.nd.length) [rY w];refine aMP hv hn (m:=1) SI OM (λk hk a=>?_) (λk hk=>?_) (λk hk=>?_) w2 (by rw [aND hn hl hglf])
  . rw [hnth]
    by_cases e:k < t.nd.length
    . rw [if_pos e]
      by_cases e2:n.toNat=k
      . rw [if_pos e2,<- e2]
        show a∈tL _ _ _↔_
        grind [yQ]
      grind
    . rw [if_neg e,show k - t.nd.length=0 by omega]
      show a∈([]:List Int)↔_
      grind
  . rw [hnth]
    have htr:=tC (lC hv)<|mT hv
    split
    . split
      . exact aQ4 (htr.d1 _ hn) λq=>by have:=hin.kr _ q; omega
      . exact htr.d1 k OM
    . rw [show k - t.nd.length=0 by omega]; exact List.nodup_nil
  . rw [hnth]
    split
    . grind [tM,aM1,aJx,oZ]
    . rw [show k - t.nd.length=0 by omega]; exact aQk w1 _
theorem aAW {t:Dt} {n:Int} {sf aV w other:List Int} (h:spE t n sf aV w other=0):
    iB t=0/\noE t n true=0/\0 < sf.length/\cP sf 64=0/\vlE aV sf=0/\fsE t w=0/\vlE other sf=0/\aV≠other/\t.nd.length<=4094:=by
  unfold spE at h;split at h
  . rename_i q; exact (q h).elim
  . rename_i q0
    unfold yW at h;split at h
    . rename_i q; exact (q h).elim
    . split at h
      . omega
      . split at h <;> grind
theorem aEK {aV other:List Int} {n:Nat} {a:Int}:a∈spK aV other n↔(n:Int)<=a/\a < ((n+2:Nat):Int):=by grind [spK]
theorem aBH {t : Dt} {n : Int} {sf aV w other : List Int} (h : spE t n sf aV w other = 0) :
    iB (xE t n sf aV w other)=0/\mH (fT (xE t n sf aV w other).nd)=mH (mH (fT t.nd)++[w])/\(mH<|fT (xE t n sf aV w other).nd).length=(mH<|fT t.nd).length+1:=by
  obtain ⟨hv,h1,s0,s1,h2,h4,h3,hne,h5⟩:=aAW h;obtain ⟨n0,n1,hl⟩:=rH h1;obtain ⟨w1,w2⟩:=aIA h4;have hn:n.toNat < t.nd.length:=OM
  have hlf:=aB0 hv hn hl
  have hg:InOk (spN sf aV other t.nd.length) (t.nd.length+2):=by
    refine ⟨J,s0,s1,?_,λk hk=>?_,?_,λa ha=>?_⟩
    all_goals (grind [spN,spO,spK,bC,xU,aAd,fI])
  unfold xE;rw [if_pos h];have hnth:=aAg hn (spN sf aV other t.nd.length) [aA t.nd n.toNat,rY w]
  have hm: ∀ k,k < t.nd.length+2-> ¬k < t.nd.length->aA [aA t.nd n.toNat,rY w] (k - t.nd.length)=aA t.nd n.toNat\/aA [aA t.nd n.toNat,rY w] (k - t.nd.length)=rY w:=λk hk e=>by
    rcases Nat.lt_or_ge k (t.nd.length+1) with q|q
    . rw [show k - t.nd.length=0 by omega]; exact .inl J
    . rw [show k - t.nd.length=0+1 by omega]; exact .inr J
  refine aMP hv hn (m:=2) SI OM (λk hk a=>?_) (λk hk=>?_) (λk hk=>?_) w2<|aKE hn hl J w
  . rw [hnth]
    by_cases e:k < t.nd.length
    . rw [if_pos e]
      by_cases e2:n.toNat=k
      . rw [if_pos e2,<- e2,hlf.kd]
        show a∈spK _ _ _↔_
        grind [aEK]
      grind
    . rw [if_neg e]
      have hkd:(aA [aA t.nd n.toNat,rY w]<|k - t.nd.length).kd=[]:=by
        rcases hm k hk e with q|q
        . rw [q,hlf.kd]
        . rw [q]; rfl
      grind
  . rw [hnth]
    have htr:=tC (lC hv)<|mT hv
    split
    . split
      . show (spK _ _ _).Nodup
        grind [spK]
      . exact htr.d1 k OM
    . rename_i e
      rcases hm k hk e with q|q
      . rw [q,hlf.kd]; exact List.nodup_nil
      . rw [q]; exact List.nodup_nil
  grind [tM,spN,aM1,aJx,oZ,aQk]
end
section
def bgN (x:Nd):Int:=if 1100 < x.ac.length\/1100 < x.sf.length\/40 < x.ou.length\/40 < x.kd.length then 1 else fe (λj=>if 1100 < (aA x.ou j).length then 1 else 0) 0 x.ou.length
def bgE (t:Dt) (k:Nat):Int:=bgN (aA t.nd k)
def bgT (t:Dt):Bool:=decide (40 < t.nd.length\/fe (bgE t) 0 t.nd.length≠0)
theorem aRV {t:Dt} (h:bgT t=false):t.nd.length<=40/\ ∀ k,k < t.nd.length->(aA t.nd k).ac.length<=1100/\(aA t.nd k).sf.length<=1100/\(aA t.nd k).ou.length<=40/\(aA t.nd k).kd.length<=40/\ ∀ j,j < (aA t.nd k).ou.length->(aA (aA t.nd k).ou j).length<=1100:=by
  have h1:=of_decide_eq_false h
  grind [bgE,cW,bgN]
structure Bd (t:Dt):Prop where
  n:t.nd.length<=4096
  ac: ∀ k,k < t.nd.length->(aA t.nd k).ac.length<=1048576
  sf: ∀ k,k < t.nd.length->(aA t.nd k).sf.length<=1048576
  ou: ∀ k,k < t.nd.length->(aA t.nd k).ou.length<=1048576
  kd: ∀ k,k < t.nd.length->(aA t.nd k).kd.length<=1048576
  ol: ∀ k,k < t.nd.length-> ∀ j,j < (aA t.nd k).ou.length->(aA (aA t.nd k).ou j).length<=1048576
theorem aGu {t:Dt} (h:bgT t=false):Bd t:=by
  obtain ⟨h1,h2⟩:=aRV h
  exact ⟨OM,λk hk=>by have:=(h2 k hk).1; omega,λk hk=>by have:=(h2 k hk).2.1; omega,λk hk=>by have:=(h2 k hk).2.2.1; omega,λk hk=>by have:=(h2 k hk).2.2.2.1; omega,
    λk hk j hj=>by have:=(h2 k hk).2.2.2.2 j hj; omega⟩
theorem aQs (w:List Int):(0<=fi (λj=>(λa=>decide (a < 0\/1048576 < a)) (aA w j)) 0 w.length↔fe (ouE w) 0 w.length=2)/\(fe (ouE w) 0 w.length=0\/fe (ouE w) 0 w.length=2):=by
  have h:=aQn (λj=>(λa=>decide (a < 0\/1048576 < a)) (aA w j)) 2 DE w.length 0
  have e:(λj=>if (λj=>(λa=>decide (a < 0\/1048576 < a)) (aA w j)) j=true then (2:Int) else 0)=ouE w:=by
    funext j; simp [ouE]
  grind
theorem aR9 {aV s:List Int} (h:vlE aV s=0):aV.length=s.length/\ ∀ k,k < aV.length->0<=aA aV k/\aA aV k<=1048576:=by grind [vlE,cW,ouE]
structure CI (t:Dt) (P:RS):Prop where
  l2:P.2.length=t.nd.length
  l1:P.1.length<=t.nd.length
  rg: ∀ a∈P.1,0<=a/\a < t.nd.length
theorem ci0 {t:Dt} (hk:KI t):CI t (co0 t):=by
  have hp:=hk.pos;refine ⟨by simp [co0],by simp [co0]; omega,λa ha=>?_⟩
  grind [co0]
def cSt (t:Dt) (P:RS) (i:Nat):RS:=(qS t P.1 i,P.2.set (aA P.1 i).toNat true)
theorem CI.step {t:Dt} (hk:KI t) {P:RS} (h:CI t P) {i:Nat} (hi:i < P.1.length) (hl:(qS t P.1 i).length<=t.nd.length):CI t (cSt t P i):=by
  have hr:=h.rg _<|bC hi
  refine ⟨by simp [cSt,h.l2],hl,λa ha=>?_⟩;rcases List.mem_append.1 ha with ha|ha
  . exact h.rg a ha
  . exact hk.rng _ OM a ha
theorem aRF {t:Dt} {i:Nat} {P:RS} (hi:i < P.1.length) (hn:i<=t.nd.length) (h:aA P.2 (aA P.1 i).toNat=true):coN t (t.nd.length+1 - i) i P=none:=by rw [show t.nd.length+1 - i=(t.nd.length - i)+1 by omega,coN,if_pos hi,if_pos h]
theorem aQQ {t:Dt} {i:Nat} {P:RS} (hi:i < P.1.length) (hn:i<=t.nd.length) (h:aA P.2 (aA P.1 i).toNat=false) (hl:t.nd.length < (qS t P.1 i).length):coN t (t.nd.length+1 - i) i P=none:=by rw [show t.nd.length+1 - i=(t.nd.length - i)+1 by omega,coN,if_pos hi,if_neg (by rw [h]; simp),if_pos hl]
theorem aSL {t:Dt} {i:Nat} {P:RS} (hi:i < P.1.length) (hn:i<=t.nd.length) (h:aA P.2 (aA P.1 i).toNat=false) (hl: ¬t.nd.length < (qS t P.1 i).length):coN t (t.nd.length+1 - i) i P=coN t (t.nd.length+1 - (i+1)) (i+1) (cSt t P i):=by rw [show t.nd.length+1 - i=(t.nd.length+1 - (i+1))+1 by omega,coN,if_pos hi,if_neg (by rw [h]; simp),if_neg hl]; rfl
theorem aRC {t:Dt} {i:Nat} {P:RS} (hi:P.1.length<=i) (hn:i<=t.nd.length):coN t (t.nd.length+1 - i) i P=some P:=by rw [show t.nd.length+1 - i=(t.nd.length - i)+1 by omega,coN,if_neg OM]
theorem aMY {t:Dt} {P:RS} (h:coN t (t.nd.length+1) 0 (co0 t)=some P):coB t=decide (P.1.length=t.nd.length):=by unfold coB; rw [h]
theorem aF5 {t:Dt} (h:coN t (t.nd.length+1) 0 (co0 t)=none):coB t=false:=by unfold coB; rw [h]
end
section
theorem aNF (a b:List Int):decide ((a.length:Int)=(b.length:Int)/\(gC a b:Int)=(a.length:Int))=decide (a=b):=by
  have h:=gR a b;refine decide_eq_decide.2 ⟨λ⟨e1,e2⟩=>fU OM λj hj=>h.2.2.1 j OM,λe=>?_⟩;subst e
  have:gC a a=a.length:=by
    rcases Nat.lt_or_ge (gC a a) a.length with q|q
    . exact (h.2.2.2 q q J).elim
    . omega
  exact ⟨J,OM⟩
end
section
@[simp] theorem aQS (l:List Nd):kF (l.map cN)=true:=aHa _ _ λa=>by simp [cN]
theorem aRh {l:List (List Int)} {w:List Int}:0<=fi (λj=>(λv=>decide (v=w)) (aA l j)) 0 l.length↔w∈l:=by grind [nT,bC,lY]
theorem aNS {l:List (List Int)} {w:List Int}:w∈sdP l↔w∈l:=by grind [aFc,iA]
theorem aOQ (l:List (List Int)):(sdP l).length<=l.length:=by grind [aFc,aJb]
theorem aEW {α:Type} [Inhabited α] {l:List α} {k:Nat} (h:k < l.length):l.set k (aA l k)=l:=by grind [fU,List.length_set,sQ]
theorem aEh {l:List (List Int)} (h: ∀ i,1<=i->i < l.length->aA l i≠aA l (i - 1)):fA l l.length=l:=by grind [aEN]
theorem aG2 {l:List (List Int)} {k:Nat} (h1:1<=k) (hk:k < l.length) (h: ∀ i,1<=i->i < k->aA l i≠aA l (i - 1)) (he:aA l k=aA l (k - 1)):(fA l (k+1)).length=k/\nQ l (k+1)=l:=by
  have e1:fA l (k+1)=l.take k:=by
    grind [jT,aEN]
  grind [nQ,List.take_append_drop]
theorem aG5 {l:List (List Int)}: ∀ {j:Nat},0 < j->0 < (fA l j).length
  |1,_=>by rw [show (1:Nat)=0+1 from rfl,jC (.inl rfl)]; simp
  | j + 2, _ => by
    have:=aG5 (l:=l) (j:=j+1) OM
    grind [fA]
theorem aP2 {l:List (List Int)} {k j:Nat} (h:(fA l (k+j)).length < k+j) (hj:1<=j):
    aA (nQ l<|k+j) (0+k+j)=aA l (k+j)/\aA (nQ l<|k+j) (0+k+(((j:Nat):Int) - (1:Int)).toNat)=aA l (k+j - 1):=by grind [aPu]
theorem aIm {l:List (List Int)} {j:Nat} (h:l.length<=j) (hj:j<=l.length):(nQ l j).take (fA l j).length=fA l l.length:=by grind [nQ]
theorem aNH {t:Dt} (hb:Bd t): ∀ w∈fT t.nd,w.length<=1048576:=λw hw=>by
  unfold fT at hw;obtain ⟨x,hx,rfl⟩:=List.mem_map.1 hw;obtain ⟨k,hk,rfl⟩:=lY (List.mem_filter.1 hx).1;exact hb.ac k hk
theorem jW {H:aT} {n:Nat} {u1 u2 u3 u4 u5 v1 v2 v3 v4 v5:V} (g1:fR true H n u1=v1) (g2:fR true H n u2=v2) (g3:fR true H n u3=v3) (g4:fR true H n u4=v4) (g5:fR true H n u5=v5):
    fR true H (n+1) (.agg [u1,u2,u3,u4,u5])=.agg [v1,v2,v3,v4,v5]:=by simp_all [fR]
theorem aSM {x:Nd} {j:Nat} (h:x.ou.length<=j):(⟨x.lf,bH [x.ac],bH [x.sf],x.ou.take j,x.kd⟩:Nd)=x:=by simp_all [bH,List.take_of_length_le]
theorem aHH {l:List Nd} {k j:Nat} (hk:k < l.length) (h:(aA l k).ou.length<=j):l.set k (⟨(aA l k).lf,bH [(aA l k).ac],bH [(aA l k).sf],(aA l k).ou.take j,(aA l k).kd⟩:Nd)=l:=by rw [aSM h,aEW hk]
theorem aOq (x:List Int):bH [x]=x:=by simp [bH]
theorem yX {l:List (List Int)} {j:Nat} (h:j < l.length):l.take j++[bH [aA l j]]=l.take (j+1):=by rw [aOq,cV h]
end
section
theorem aNA {t:Dt} {n:Int} {sf aV w other:List Int} (h:spE t n sf aV w other≠0):xE t n sf aV w other=t:=if_neg h
theorem aIq {t:Dt} {n:Int} {sf aV w other:List Int} (h:spE t n sf aV w other=0):xE t n sf aV w other=⟨t.nd.set n.toNat (spN sf aV other t.nd.length)++[aA t.nd n.toNat,rY w]⟩:=if_pos h
theorem aAn {t:Dt} {n:Int} {aV w:List Int} (h:nP t n aV w≠0):wN t n aV w=t:=if_neg h
theorem aOu {t:Dt} {n:Int} {aV w:List Int} (h:nP t n aV w=0):wN t n aV w=⟨t.nd.set n.toNat (gNd (aA t.nd n.toNat) aV t.nd.length)++[rY w]⟩:=if_pos h
end
section
open Go
theorem aR0 {x:Nd} {j:Nat} (h:x.ou.length<=j):[V.bool x.lf,aD (bH [x.ac]),aD (bH [x.sf]),aC (x.ou.take j),aD x.kd]=cN x:=by
  simp only [bH,List.append_nil]; rw [List.take_of_length_le h]
end
section
open Go Go.Sort
theorem aGn:SWO λa b:List Int=>decide (cX a b < 0) where
  irrefl a:=decide_eq_false (by rw [fI.2 J]; omega)
  trans a b c h1 h2:=decide_eq_true<|oS (of_decide_eq_true h1)<|of_decide_eq_true h2
  ntrans a b c h1 h2:=decide_eq_false<|aBv.2<|aOw (aBv.1<|of_decide_eq_false h2)<|aBv.1<|of_decide_eq_false h1
theorem aDm {a b:List Int} (h1: ¬cX a b < 0) (h2: ¬cX b a < 0):a=b:=by grind [aBv,fI]
def nV (l:List (List Int)):List (List Int):=fA (srt cX l) (srt cX l).length
theorem uZ {l:List (List Int)} {w:List Int}:w∈nV l↔w∈l:=by grind [nV,zO,uS]
theorem aJq (l:List (List Int)):(nV l).length<=l.length:=by grind [aCQ,nV,oF]
theorem aJy {L:List (List Int)} (hs:L.Pairwise λa b=> ¬cX b a < 0): ∀ {j:Nat},j<=L.length->xU (fA L j)
  |0,_=>List.Pairwise.nil
  | j + 1, hj => by
    have ih:=aJy hs (j:=j) OM;by_cases h:j=0\/aA L j≠aA L (j - 1)
    . rw [jC h,xU,List.pairwise_append]
      refine ⟨ih,SI,λa ha b hb=>?_⟩;rw [List.mem_singleton.1 hb];have ha':=(zO (L:=L) OM a).1 ha
      grind [dZ,aA,List.pairwise_iff_getElem,aDm]
    . rw [jT h]; exact ih
theorem aOr (l:List (List Int)):xU (nV l):=aJy (sG aGn l) (Nat.le_refl _)
def mxC (L:List (List Int)) (k:Nat):Bool:=decide (((k+1:Nat):Int)=((L.length:Nat):Int))|| !hp (aA L (k+1)) (aA L k)
def mxO (L:List (List Int)):Nat->List (List Int)
  |0=>[]
  |k+1=>if mxC L k=true then mxO L k++[aA L k] else mxO L k
theorem aDX {L:List (List Int)} {k:Nat} (h:mxC L k=true):mxO L (k+1)=mxO L k++[aA L k]:=if_pos h
theorem aHp {L:List (List Int)} {k:Nat} (h:mxC L k=false):mxO L (k+1)=mxO L k:=if_neg (by rw [h]; decide)
theorem aII (L:List (List Int)): ∀ k,(mxO L k).length<=k
  |0=>Nat.le_refl _
  |k+1=>by have:=aII L k; simp only [mxO]; split <;> simp <;> omega
theorem aE2 {L:List (List Int)} {w:List Int}: ∀ {k:Nat},w∈mxO L k↔ ∃ i,i < k/\mxC L i=true/\aA L i=w
  |0=>by simp [mxO]
  | k + 1 => by
    have ih:=aE2 (L:=L) (w:=w) (k:=k)
    grind [mxC,aDX,aHp]
def tpB (L:List (List Int)) (k:Nat):Nat->Bool
  |0=>true
  |j+1=>if k < j then tpB L k j&&(decide (((aA L j).length:Int)=((aA L k).length:Int))|| !hp (aA L j) (aA L k)) else true
theorem aNd {L:List (List Int)} {k j:Nat} (h:j<=k+1):tpB L k j=true:=by
  cases j with
  |zero=>rfl
  |succ j=>exact if_neg OM
theorem aOW {L:List (List Int)} {k j:Nat} (h:k < j):tpB L k (j+1)=(tpB L k j&&(decide (((aA L j).length:Int)=((aA L k).length:Int))|| !hp (aA L j) (aA L k))):=if_pos h
theorem aHU {L : List (List Int)} {k : Nat} : ∀ {j : Nat}, tpB L k j = true ↔ ∀ i, k < i -> i < j -> (aA L i).length = (aA L k).length \/ hp (aA L i) (aA L k) = false
  |0=>by simp [tpB]
  | j + 1 => by
    by_cases h:k < j
    . rw [aOW h,Bool.and_eq_true,aHU (j:=j),Bool.or_eq_true,decide_eq_true_eq,Int.ofNat_inj,Bool.not_eq_true']
      constructor
      . rintro ⟨a,b⟩ i h1 h2
        by_cases e:i=j
        . subst e; exact b
        . exact a i h1 OM
      . intro a; exact ⟨λi h1 h2=>a i h1 OM,a j h OM⟩
    . rw [aNd OM]
      exact ⟨λ_ i h1 h2=>by omega,λ_=>J⟩
def mxT (l:List (List Int)):Nat->List (List Int)
  |0=>[]
  |k+1=>if tpB (mH l) k (mH l).length=true then mxT l k++[aA (mH l) k] else mxT l k
theorem aIM (l:List (List Int)): ∀ k,(mxT l k).length<=k
  |0=>Nat.le_refl _
  |k+1=>by have:=aIM l k; simp only [mxT]; split <;> simp <;> omega
def mK (l:List (List Int)):List (List Int):=mxT l (mH l).length
theorem aET {l:List (List Int)} {w:List Int}: ∀ {k:Nat},w∈mxT l k↔ ∃ i,i < k/\tpB (mH l) i (mH l).length=true/\aA (mH l) i=w
  |0=>by simp [mxT]
  | k + 1 => by
    have ih:=aET (l:=l) (w:=w) (k:=k)
    grind [mxT]
theorem aI0 {l:List (List Int)}: ∀ {k:Nat},k<=(mH l).length->xG (mxT l k)
  |0,_=>List.Pairwise.nil
  | k + 1, hk => by
    have ih:=aI0 (l:=l) (k:=k) OM;simp only [mxT];split
    . rw [xG,List.pairwise_append]
      refine ⟨ih,SI,λa ha b hb=>?_⟩;rw [List.mem_singleton.1 hb];obtain ⟨i,i1,_,rfl⟩:=aET.1 ha;have:=(List.pairwise_iff_getElem.1<|sY l) i k OM OM i1
      grind [bL]
    . exact ih
def MxP (l:List (List Int)) (w:List Int):Prop:=w∈l/\ ∀ u∈l,hp u w=true->u=w
theorem vQ {l:List (List Int)} {w:List Int}:w∈mK l↔MxP l w:=by
  unfold mK;rw [aET];constructor
  . rintro ⟨i,i1,i2,rfl⟩
    refine ⟨(iA _ _).1 (bC i1),λu hu hh=>?_⟩;obtain ⟨j,hj,rfl⟩:=dZ<|(iA l u).2 hu
    have hlen:=aEJ hh;rcases Nat.lt_trichotomy i j with q|q|q
    . grind [aHU,aIt]
    . subst q; rfl
    . have:=(List.pairwise_iff_getElem.1<|sY l) j i hj i1 q
      rw [bL,bL] at this;have h2:=aF7 hh;have:=uX this;omega
  . rintro ⟨h1,h2⟩
    obtain ⟨i,hi,rfl⟩:=dZ<|(iA l w).2 h1
    grind [aHU,iA,bC]
theorem aN2 {a b:List Int} (h:hp b a=true):cX a b<=0:=by
  obtain ⟨x,rfl⟩:=kN.1 h
  have e:gC a (a++x)=a.length:=by
    have:=aPx (p:=a) (x:=[]) (y:=x)
    grind [gC]
  grind [cX]
theorem aSH (l : List (List Int)) : mH (mxO (nV l) (nV l).length) = mK l := by
  refine yO (sY _) (aI0<|Nat.le_refl _) λw=>?_;rw [iA,aE2];show _↔w∈mK l;rw [vQ];have lt: ∀ {i j:Nat},i < j->j < (nV l).length->cX (aA (nV l) i) (aA (nV l) j) < 0:=λh1 h2=>yZ (aOr l) h1 h2
  constructor
  . rintro ⟨i,i1,i2,rfl⟩
    refine ⟨uZ.1 (bC i1),λu hu hh=>?_⟩;obtain ⟨j,hj,rfl⟩:=dZ<|uZ.2 hu
    rcases Nat.lt_trichotomy i j with q|q|q
    . exfalso
      grind [mxC,cX,fI,aGv,hp,xZ,kJ]
    . subst q; rfl
    . have h1:=lt q i1
      have h2:=aN2 hh;have:=aCo h1;omega
  . rintro ⟨h1,h2⟩
    obtain ⟨i,hi,rfl⟩:=dZ<|uZ.2 h1
    refine ⟨i,hi,?_,J⟩;unfold mxC;rw [Bool.or_eq_true,decide_eq_true_eq,Bool.not_eq_true'];by_cases e:i+1=(nV l).length
    . exact .inl OM
    . refine .inr ?_
      by_cases hh:hp (aA (nV l)<|i+1) (aA (nV l) i)=true
      . exfalso
        have hq:=h2 _ (uZ.1<|bC (show i+1 < (nV l).length by omega)) hh;have:=lt (show i < i+1 by omega) OM
        grind [fI]
      . simpa using hh
theorem aIE (l:List (List Int)):(mK l).length<=l.length:=Nat.le_trans (aIM _ _) (aJb l)
end
section
open Go
structure Ts where
  i:Int
  t:Dt
  deriving Inhabited
structure Xt where
  w:List Int
  n:Int
  deriving Inhabited
structure Spl where
  p:List Int
  a:Int
  x:List Int
  deriving Inhabited
abbrev cXt (e:Xt):List V:=[aD e.w,iV e.n]
theorem Ts.eq_iff {a b:Ts}:a=b↔a.i=b.i/\a.t=b.t:=by cases a; cases b; simp
instance:DecidableEq Ts:=λ_ _=>decidable_of_iff _ Ts.eq_iff.symm
@[simp] theorem aRB (l:List Xt):kF (l.map cXt)=true:=by simp_all
def pN (n:Int):Ts:=if n < 1\/64 < n then ⟨0,⟨[]⟩⟩ else ⟨n,⟨[rY []]⟩⟩
def nwE (n:Int):Int:=if n < 1\/64 < n then 2 else 0
def wdE (l:Ts) (k:Nat):Int:=if cP (aA l.t.nd k).ac l.i≠0 then cP (aA l.t.nd k).ac l.i else cP (aA l.t.nd k).sf l.i
def tvE (l:Ts):Int:=if l.i < 1\/64 < l.i then 2 else if iB l.t≠0 then iB l.t else if fe (wdE l) 0 l.t.nd.length≠0 then fe (wdE l) 0 l.t.nd.length else if []∉fT l.t.nd then 1 else if 128 < (fT l.t.nd).length then 11 else 0
def kH (l:Ts) (o:Ob):Int:=if tvE l≠0 then tvE l else if l.i≠o.i then 15 else 0
theorem aSp {l:Ts} (h1:l.i < 1\/64 < l.i):tvE l=2:=by unfold tvE; rw [if_pos h1]
theorem aRZ {l:Ts} (h1: ¬(l.i < 1\/64 < l.i)) (h2:iB l.t≠0):tvE l=iB l.t:=by grind [tvE]
theorem aQt {l:Ts} (h1: ¬(l.i < 1\/64 < l.i)) (h2: ¬(iB l.t≠0)) (h3:fe (wdE l) 0 l.t.nd.length≠0):tvE l=fe (wdE l) 0 l.t.nd.length:=by grind [tvE]
theorem aSu {l:Ts} (h1: ¬(l.i < 1\/64 < l.i)) (h2: ¬(iB l.t≠0)) (h3: ¬(fe (wdE l) 0 l.t.nd.length≠0)) (h4:[]∉fT l.t.nd):tvE l=1:=by grind [tvE]
theorem aSO {l:Ts} (h1: ¬(l.i < 1\/64 < l.i)) (h2: ¬(iB l.t≠0)) (h3: ¬(fe (wdE l) 0 l.t.nd.length≠0)) (h4: ¬([]∉fT l.t.nd)) (h5:128 < (fT l.t.nd).length):tvE l=11:=by grind [tvE]
theorem aNf {l:Ts} (h1: ¬(l.i < 1\/64 < l.i)) (h2: ¬(iB l.t≠0)) (h3: ¬(fe (wdE l) 0 l.t.nd.length≠0)) (h4: ¬([]∉fT l.t.nd)) (h5: ¬(128 < (fT l.t.nd).length)):tvE l=0:=by grind [tvE]
theorem nG {l:Ts} (h:tvE l=0):1<=l.i/\l.i<=64/\iB l.t=0/\(∀ k,k < l.t.nd.length->cP (aA l.t.nd k).ac l.i=0/\cP (aA l.t.nd k).sf l.i=0)/\[]∈fT l.t.nd/\(fT l.t.nd).length<=128:=by
  unfold tvE at h;split at h <;> grind [cW,wdE]
theorem aJc {l:Ts} {o:Ob} (h:kH l o=0):tvE l=0/\l.i=o.i:=by grind [kH]
def emB (t:Dt) (k:Nat):Bool:=decide ([]∈fT (t.nd.take k))
theorem aNW {t:Dt} {k:Nat} (hk:k < t.nd.length) (h:(aA t.nd k).lf=true):emB t (k+1)=(emB t k||decide (((aA t.nd k).ac.length:Int)=0)):=by grind [emB,nN,List.length_eq_zero_iff]
theorem aRD {t:Dt} {k:Nat} (hk:k < t.nd.length) (h:(aA t.nd k).lf=false):emB t (k+1)=emB t k:=by grind [emB,nN]
theorem aJN {t:Dt} {k:Nat} (hk:t.nd.length<=k):emB t k=decide ([]∈fT t.nd):=by grind [emB,List.take_of_length_le]
def eM (t:Dt):List (List Int):=if iB t=0 then mH (fT t.nd) else []
theorem pH {t:Dt} (h:iB t=0):eM t=mH (fT t.nd):=if_pos h
theorem mP {t:Dt} (h:iB t=0):(eM t).length=(fT t.nd).length:=by grind [pH,oZ]
def ex1 (i:Int) (p:List Int):List (List Int):=(List.range i.toNat).map λ(a:Nat)=>bH [p,[(a:Int)]]
def dC (l:Ts):List (List Int):=(eM l.t).flatMap (ex1 l.i)
theorem aOo (i:Int) (p:List Int):(ex1 i p).length=i.toNat:=by simp [ex1]
theorem aBN {α β:Type} {f:α->List β} {n:Nat} (h: ∀ a,(f a).length=n): ∀ l:List α,(l.flatMap f).length=l.length*n
  |[]=>by simp
  |a::l=>by rw [List.flatMap_cons,List.length_append,h,aBN h l,List.length_cons,Nat.succ_mul]; omega
theorem aFF {α β:Type} [Inhabited α] [Inhabited β] {f:α->List β} {n:Nat} (h: ∀ a,(f a).length=n): ∀ {l:List α} {k j:Nat},k < l.length->j < n->aA (l.flatMap f) (k*n+j)=aA (f (aA l k)) j
  |[],k,j,hk,_=>by simp at hk
  | a :: l, 0, j, _, hj => by
    rw [List.flatMap_cons,Nat.zero_mul,Nat.zero_add,dB (by rw [h]; exact hj)]; rfl
  | a :: l, k + 1, j, hk, hj => by
    rw [List.flatMap_cons,show (k+1)*n+j=(f a).length+(k*n+j) by rw [h,Nat.succ_mul]; omega,iC,jD];exact aFF h (by simpa using hk) hj
theorem aAe (l:Ts):(dC l).length=(eM l.t).length*l.i.toNat:=aBN (aOo l.i) _
theorem aEv {l:Ts} {k j:Nat} (hk:k < (eM l.t).length) (hj:j < l.i.toNat):aA (dC l) (k*l.i.toNat+j)=bH [aA (eM l.t) k,[(j:Int)]]:=by grind [dC,aFF,ex1,aA]
theorem aEk {l:List Nd} {w:List Int} (h:w∈fT l): ∃ k,k < l.length/\(aA l k).lf=true/\(aA l k).ac=w:=by grind [fT,dZ]
theorem aBV {l:Ts} (h:tvE l=0) {w:List Int} (hw:w∈eM l.t):w.length<=1024/\cP w l.i=0:=by
  obtain ⟨_,_,hv,hq,_,_⟩:=nG h
  grind [pH,aEk,iA,dO]
theorem aBr {l:Ts} {w:List Int} (hw:w∈dC l): ∃ p a,p∈eM l.t/\0<=a/\a < l.i/\w=p++[a]:=by grind [dC,ex1,bH]
theorem uE {l:Ts} (h:tvE l=0) {w:List Int} (hw:w∈dC l):w.length<=1025/\0 < w.length/\ ∀ k,k < w.length->0<=aA w k/\aA w k < l.i:=by grind [aBr,aBV,dO,aA]
def sqE (l:Ts) (o:Ob) (k:Nat):Int:=(bF l.t o (aA (dC l) k)).2.2
def pL (l:Ts) (o:Ob):Int:=fe (sqE l o) 0 (dC l).length
def qr1 (t:Dt) (o:Ob) (w:List Int):List (List Int):=(if (dP o w).isSome=true then [] else [w])++(if 0 < (bF t o w).2.1.length then [(bF t o w).2.1] else [])
def qrs (l:Ts) (o:Ob) (k:Nat):List (List Int):=((dC l).take k).flatMap (qr1 l.t o)
def qra (l:Ts) (o:Ob):List (List Int):=(dC l).flatMap (qr1 l.t o)
theorem aLD (t:Dt) (o:Ob) (w:List Int):(qr1 t o w).length<=2:=by grind [qr1]
theorem aBR {α β:Type} {f:α->List β} {n:Nat} (h: ∀ a,(f a).length<=n): ∀ l:List α,(l.flatMap f).length<=l.length*n
  |[]=>by simp
  | a :: l => by
    have:=aBR h l
    grind [Nat.succ_mul]
theorem aRm (l:Ts) (o:Ob) (k:Nat):(qrs l o k).length<=2*(dC l).length:=by
  have:=aBR (aLD l.t o)<|(dC l).take k
  grind [qrs]
theorem nD {l:Ts} {o:Ob} {k:Nat} (h:k < (dC l).length):qrs l o (k+1)=qrs l o k++qr1 l.t o (aA (dC l) k):=aKP h
theorem aNX {l:Ts} {o:Ob} {k:Nat} (h:(dC l).length<=k):qrs l o k=qra l o:=by unfold qrs; rw [List.take_of_length_le h]; rfl
theorem aJW {l:Ts} (o:Ob) (_:tvE l=0):(qra l o).length<=2*(dC l).length:=by
  have:=aBR (aLD l.t o)<|dC l
  unfold qra; omega
theorem aBy {t : Dt} {o : Ob} {w : List Int} : ∀ (f n : Nat), (gS t o w f n).2.1 = [] \/ cP (gS t o w f n).2.1 o.i = 0
  |0,n=>.inl rfl
  | f + 1, n => by
    unfold gS;split
    . exact .inl J
    . split
      . exact .inl J
      . split
        . rename_i h _; exact .inr (Decidable.not_not.1 h)
        . split
          . exact aBy f _
          . exact .inl J
theorem aKx {t:Dt} {o:Ob} {w:List Int}:(bF t o w).2.1=[]\/cP (bF t o w).2.1 o.i=0:=by grind [bF,aBy]
theorem aK5 (t:Dt) (o:Ob) (w:List Int):(bF t o w).2.1.length<=1024:=by grind [aKx,dO]
theorem aNt {l:Ts} {o:Ob} (h:tvE l=0) {w:List Int} (hw:w∈qra l o):w.length<=1048576:=by grind [qra,uE,aK5,qr1]
def lJ (o:Ob) (w x:List Int):List Int:=((dP o (bH [w,x])).getD []).drop w.length
theorem aLq {o:Ob} {w x:List Int} (h:(dP o (bH [w,x])).isSome=false):lJ o w x=[]:=by simp_all [lJ]
theorem aHe {o:Ob} (ho:jE o=0) (w x:List Int):(lJ o w x).length<=x.length:=by
  cases hh:(dP o<|bH [w,x]).isSome with
  |false=>rw [aLq hh]; simp
  | true =>
    grind [vO,lR,bH,lJ]
def inx (l:Ts) (o:Ob) (k:Nat):Bool:= !(aA l.t.nd (bF l.t o (aA (dC l) k)).1.toNat).lf
def nO (l:Ts) (o:Ob):Int:=fi (inx l o) 0 (dC l).length
def tsW (l:Ts) (o:Ob):List Int:=aA (dC l) (nO l o).toNat
def tsM (l:Ts) (o:Ob):Int:=(bF l.t o (tsW l o)).1
def tsO (l:Ts) (o:Ob):List Int:=lJ o (tsW l o) (aA l.t.nd (tsM l o).toNat).sf
def dJ (l:Ts) (o:Ob):Ts×List (List Int)×Bool×Int:=
  if kH l o≠0 then (l,[],false,kH l o) else if pL l o≠0 then (l,[],false,pL l o) else if 0 < (mK<|qra l o).length then (l,mK (qra l o),false,0)
  else if nO l o < 0 then (l,[],true,0) else if 128<=(fT l.t.nd).length then (l,[],false,11)
  else if nP l.t (tsM l o) (tsO l o) (tsW l o)≠0 then (l,[],false,nP l.t (tsM l o) (tsO l o) (tsW l o))
  else (⟨l.i,wN l.t (tsM l o) (tsO l o) (tsW l o)⟩,[],false,0)
section
variable {l:Ts} {o:Ob}
theorem xJ (h:kH l o≠0):dJ l o=(l,[],false,kH l o):=if_pos h
theorem xB (h: ¬kH l o≠0) (h2:pL l o≠0):dJ l o=(l,[],false,pL l o):=by grind [dJ]
theorem oC (h: ¬kH l o≠0) (h2: ¬pL l o≠0) (h3:0 < (mK (qra l o)).length):dJ l o=(l,mK (qra l o),false,0):=by grind [dJ]
theorem lQ (h: ¬kH l o≠0) (h2: ¬pL l o≠0) (h3: ¬0 < (mK (qra l o)).length) (h4:nO l o < 0):dJ l o=(l,[],true,0):=by grind [dJ]
theorem qF (h: ¬kH l o≠0) (h2: ¬pL l o≠0) (h3: ¬0 < (mK (qra l o)).length) (h4:0<=nO l o) (h5:128<=(fT l.t.nd).length):dJ l o=(l,[],false,11):=by grind [dJ]
variable {k:Nat}
theorem wV (h: ¬kH l o≠0) (h2: ¬pL l o≠0) (h3: ¬0 < (mK (qra l o)).length) (h4:nO l o=(k:Int)) (h5:(fT l.t.nd).length < 128)
    (h6:nP l.t (bF l.t o<|aA (dC l) k).1 (lJ o (aA (dC l) k) (aA l.t.nd (bF l.t o<|aA (dC l) k).1.toNat).sf) (aA (dC l) k)≠0):
    dJ l o=(l,[],false,nP l.t (bF l.t o<|aA (dC l) k).1 (lJ o (aA (dC l) k) (aA l.t.nd (bF l.t o<|aA (dC l) k).1.toNat).sf) (aA (dC l) k)):=by grind [dJ,tsO,tsM,tsW]
theorem sS (h: ¬kH l o≠0) (h2: ¬pL l o≠0) (h3: ¬0 < (mK (qra l o)).length) (h4:nO l o=(k:Int)) (h5:(fT l.t.nd).length < 128)
    (h6: ¬nP l.t (bF l.t o<|aA (dC l) k).1 (lJ o (aA (dC l) k) (aA l.t.nd (bF l.t o<|aA (dC l) k).1.toNat).sf) (aA (dC l) k)≠0):
    dJ l o=(⟨l.i,wN l.t (bF l.t o<|aA (dC l) k).1 (lJ o (aA (dC l) k) (aA l.t.nd (bF l.t o<|aA (dC l) k).1.toNat).sf) (aA (dC l) k)⟩,[],false,0):=by grind [dJ,tsO,tsM,tsW]
end
theorem aC6 {t : Dt} {o : Ob} {w : List Int} (hv : iB t = 0) : ∀ (f n : Nat), Rk t f n -> (gS t o w f n).2.2 = 0 -> (gS t o w f n).2.1 = [] ->
    0<=(gS t o w f n).1/\(gS t o w f n).1 < t.nd.length/\((aA t.nd (gS t o w f n).1.toNat).lf=false->(dP o<|bH [w,(aA t.nd (gS t o w f n).1.toNat).sf]).isSome=true/\ ¬lxH (aA t.nd (gS t o w f n).1.toNat).ou (((dP o<|bH [w,(aA t.nd (gS t o w f n).1.toNat).sf]).getD []).drop w.length))
  |0,n,hr,_,_=>absurd hr.pos OM
  | f + 1, n, hr, he, hq => by
    have hlt:=hr.lt hv;by_cases hl:(aA t.nd n).lf=true
    . grind [oW]
    . have hl:(aA t.nd n).lf=false:=by simpa using hl
      by_cases h1:cP (bH [w,(aA t.nd n).sf]) o.i≠0
      . grind [sP]
      . by_cases h2:(dP o<|bH [w,(aA t.nd n).sf]).isSome=true
        . by_cases h3:lxH (aA t.nd n).ou (((dP o<|bH [w,(aA t.nd n).sf]).getD []).drop w.length)
          . rw [aCE hr.pos hl h1 h2 h3] at he hq ⊢
            have hin:=qK hv hlt hl;have hm:aA (aA t.nd n).kd (kD (aA t.nd n).ou (((dP o<|bH [w,(aA t.nd n).sf]).getD []).drop w.length))∈(aA t.nd n).kd:=bC (by have:=h3.1; have:=hin.len; omega);exact aC6 hv f _ (hr.step hm (hin.kr _ hm).1) he hq
          grind [wO]
        grind [dP,sK]
theorem aFT {t:Dt} {o:Ob} {w:List Int} (he:(bF t o w).2.2=0) (hq:(bF t o w).2.1=[]) (hv:iB t=0):
    0<=(bF t o w).1/\(bF t o w).1 < t.nd.length/\((aA t.nd (bF t o w).1.toNat).lf=false->(dP o<|bH [w,(aA t.nd (bF t o w).1.toNat).sf]).isSome=true/\ ¬lxH (aA t.nd (bF t o w).1.toNat).ou (((dP o<|bH [w,(aA t.nd (bF t o w).1.toNat).sf]).getD []).drop w.length)):=by
  unfold bF at he hq ⊢;rw [if_neg OM] at he hq ⊢;by_cases h:cP w o.i≠0
  . grind
  simp_all [aC6,rk0]
theorem rK {l : List (List Int)} (h : (mK l).length = 0) : l = [] := by
  cases l with
  |nil=>rfl
  | cons a m =>
    exfalso
    -- a longest word is maximal
    have: ∃ w,w∈(a::m)/\ ∀ u∈(a::m),u.length<=w.length:=by
      have key: ∀ (l:List (List Int)),l≠[]-> ∃ w,w∈l/\ ∀ u∈l,u.length<=w.length:=by
        intro l
        induction l with
        |nil=>grind
        | cons b r ih =>
          intro _;by_cases hr:r=[]
          . simp_all
          grind
      exact key _ SI
    obtain ⟨w,h1,h2⟩:=this;have hm:w∈mK (a::m):=vQ.2 ⟨h1,λu hu hh=>aIt hh<|h2 u hu⟩
    grind
theorem vJ {l:Ts} {o:Ob} (h1: ¬kH l o≠0) (h2: ¬pL l o≠0) (h3: ¬0 < (mK (qra l o)).length) {k:Nat} (hk:k < (dC l).length):
    (bF l.t o<|aA (dC l) k).2.2=0/\0<=(bF l.t o<|aA (dC l) k).1/\(bF l.t o<|aA (dC l) k).1 < l.t.nd.length/\((aA l.t.nd (bF l.t o<|aA (dC l) k).1.toNat).lf=false->
      (dP o<|bH [aA (dC l) k,(aA l.t.nd (bF l.t o<|aA (dC l) k).1.toNat).sf]).isSome=true/\ ¬lxH (aA l.t.nd (bF l.t o<|aA (dC l) k).1.toNat).ou (((dP o<|bH [aA (dC l) k,(aA l.t.nd (bF l.t o<|aA (dC l) k).1.toNat).sf]).getD []).drop (aA (dC l) k).length)):=by
  have hv:=(nG (aJc<|Decidable.not_not.1 h1).1).2.2.1;have he:(bF l.t o<|aA (dC l) k).2.2=0:=cW.1 (Decidable.not_not.1 h2) k (Nat.zero_le _) OM;have hq:=rK (l:=qra l o) OM
  have hq2:(bF l.t o<|aA (dC l) k).2.1=[]:=by
    by_cases e:(bF l.t o<|aA (dC l) k).2.1=[]
    . exact e
    . exfalso
      have hp:0 < (bF l.t o<|aA (dC l) k).2.1.length:=List.length_pos_iff.2 e;have:(bF l.t o<|aA (dC l) k).2.1∈qra l o:=List.mem_flatMap.2 ⟨_,bC hk,by unfold qr1; rw [if_pos hp]; simp⟩;rw [hq] at this; cases this
  exact ⟨he,aFT he hq2 hv⟩
theorem aC5 {l:Ts} {o:Ob} (h3: ¬0 < (mK (qra l o)).length) {k:Nat} (hk:k < (dC l).length):(dP o (aA (dC l) k)).isSome=true:=by
  have hq:=rK (l:=qra l o) OM;cases e:(dP o<|aA (dC l) k).isSome with
  |true=>rfl
  | false =>
    exfalso;have:aA (dC l) k∈qra l o:=List.mem_flatMap.2 ⟨_,bC hk,by unfold qr1; rw [if_neg (by rw [e]; decide)]; simp⟩;rw [hq] at this; cases this
end
section
open Go
def eI {α:Type} (f:Nat->α) (n:Nat):List α:=(List.range n).map f
theorem bS {α:Type} (f:Nat->α) (n:Nat):(eI f n).length=n:=by simp [eI]
theorem fK {α:Type} (f:Nat->α) (n:Nat):eI f (n+1)=eI f n++[f n]:=by simp [eI,List.range_succ]
theorem eG {α:Type} [Inhabited α] {f:Nat->α} {n k:Nat} (h:k < n):aA (eI f n) k=f k:=by
  unfold eI;rw [lO (by simpa using h)];congr 1;rw [<- bL (by simpa using h)]; simp
def plI (L:List (List Int)) (w:List Int):Int:=fi (λj=>decide (aA L j=w)) 0 L.length
theorem aG3 {L:List (List Int)} {w:List Int} (h:w∈L):0<=plI L w/\plI L w < L.length/\aA L (plI L w).toNat=w:=by grind [lY,plI,nT,qY]
def hyA (l:Ts) (o:Ob) (k:Nat):List Int:=(aA l.t.nd (bF l.t o (aA (dC l) k)).1.toNat).ac
def hyN (l:Ts) (o:Ob) (k:Nat):Int:=plI (eM l.t) (hyA l o k)
def exI (l:Ts) (m:Nat):List Int:=(aA (dC l) m).take ((aA (dC l) m).length - 1)
def exL (l:Ts) (m:Nat):List Int:=(aA (dC l) m).drop ((aA (dC l) m).length - 1)
def hyO (l:Ts) (o:Ob) (m:Nat):Int:=aA (lJ o (exI l m) (exL l m)) 0
def iX (f:Nat->Int) (i k:Nat):List Int:=eI (λa=>f (k*i+a)) i
def pG (l:Ts) (o:Ob):M:=⟨l.i,0,eI (iX (hyN l o) l.i.toNat) (eM l.t).length,eI (iX (hyO l o) l.i.toNat) (eM l.t).length⟩
def gN (l:Ts) (o:Ob):Hy:=⟨pG l o,eM l.t⟩
def zM:M:=⟨0,0,[],[]⟩
def zH:Hy:=⟨zM,[]⟩
def xM (l:Ts) (o:Ob):Int:=if kH l o≠0 then kH l o else if pL l o≠0 then pL l o else if 0 < (mK (qra l o)).length then 12 else if 0<=nO l o then 10 else if gG (gN l o)≠0 then 15 else 0
def nW (l:Ts) (o:Ob):Hy:=if xM l o≠0 then zH else gN l o
section
variable {l:Ts} {o:Ob}
theorem tH (h:kH l o≠0):xM l o=kH l o:=if_pos h
theorem tF (h: ¬kH l o≠0) (h2:pL l o≠0):xM l o=pL l o:=by grind [xM]
theorem tG (h: ¬kH l o≠0) (h2: ¬pL l o≠0) (h3:0 < (mK (qra l o)).length):xM l o=12:=by grind [xM]
theorem tE (h: ¬kH l o≠0) (h2: ¬pL l o≠0) (h3: ¬0 < (mK (qra l o)).length) (h4:0<=nO l o):xM l o=10:=by grind [xM]
theorem rM (h: ¬kH l o≠0) (h2: ¬pL l o≠0) (h3: ¬0 < (mK (qra l o)).length) (h4: ¬0<=nO l o) (h5:gG (gN l o)≠0):xM l o=15:=by grind [xM]
theorem qH (h: ¬kH l o≠0) (h2: ¬pL l o≠0) (h3: ¬0 < (mK (qra l o)).length) (h4: ¬0<=nO l o) (h5: ¬gG (gN l o)≠0):xM l o=0:=by grind [xM]
theorem fY (h:xM l o≠0):nW l o=zH:=if_pos h
theorem tB (h:xM l o=0):nW l o=gN l o:=if_neg (by rw [h]; simp)
end
theorem aLf {l:Ts} {k j:Nat} (hk:k < (eM l.t).length) (hj:j < l.i.toNat):exI l (k*l.i.toNat+j)=aA (eM l.t) k/\exL l (k*l.i.toNat+j)=[(j:Int)]:=by
  unfold exI exL;rw [aEv hk hj]
  simp_all [bH]
theorem aH4 (l:Ts) (m:Nat):bH [exI l m,exL l m]=aA (dC l) m:=by simp [bH,exI,exL]
theorem aJi {l:Ts} {o:Ob} (ho:jE o=0) {m:Nat} (hn:0 < (aA (dC l) m).length) (hs:(dP o (aA (dC l) m)).isSome=true):lJ o (exI l m) (exL l m)=[hyO l o m]:=by
  have h1:=vO (lR ho) hs
  have h2:(lJ o (exI l m)<|exL l m).length=1:=by
    grind [lJ,aH4,exI]
  unfold hyO;cases hb:lJ o (exI l m) (exL l m) with
  |nil=>rw [hb] at h2; simp at h2
  | cons a r => cases r with
    |nil=>rfl
    |cons b r=>rw [hb] at h2; simp at h2
theorem aPI {l:Ts} {o:Ob} {m:Nat} (hv:iB l.t=0) (h0:(bF l.t o (aA (dC l) m)).1.toNat < l.t.nd.length) (hl:(aA l.t.nd (bF l.t o (aA (dC l) m)).1.toNat).lf=true):hyA l o m∈eM l.t:=by grind [pH,iA,fT,hyA,bC]
theorem aSd {i:Int} (h:0<=i) (k:Nat):(k:Int)*i=((k*i.toNat:Nat):Int):=by grind
theorem Hy.eq_iff {a b:Hy}:a=b↔a.m.i=b.m.i/\a.m.s=b.m.s/\a.m.nx=b.m.nx/\a.m.ot=b.m.ot/\a.acc=b.acc:=by rcases a with ⟨⟨a1,a2,a3,a4⟩,a5⟩; rcases b with ⟨⟨b1,b2,b3,b4⟩,b5⟩; simp [and_assoc]
theorem M.eq_iff {a b:M}:a=b↔a.i=b.i/\a.s=b.s/\a.nx=b.nx/\a.ot=b.ot:=by rcases a with ⟨a1,a2,a3,a4⟩; rcases b with ⟨b1,b2,b3,b4⟩; simp
instance:DecidableEq M:=λ_ _=>decidable_of_iff _ M.eq_iff.symm
instance:DecidableEq Hy:=λ_ _=>decidable_of_iff _ Hy.eq_iff.symm
def prS (s:Spl) (i:Int):Int:=if cP s.p i≠0 then cP s.p i else if s.a < 0\/i<=s.a then 2 else if s.x.length=0 then 19 else cP s.x i
def gJ (s:Spl):List Int:=bH [s.p,[s.a]]
def sC (l:Ts) (o:Ob) (s:Spl):Nd:=aA l.t.nd (bF l.t o (gJ s)).1.toNat
def vX (o:Ob) (l:List (List Int)):List (List Int):=l.filter λw=> !(dP o w).isSome
def mM (l:Ts) (o:Ob) (s:Spl):List (List Int):=[bH [(sC l o s).ac,s.x],bH [gJ s,s.x]]
def rfG (l:Ts) (o:Ob) (s:Spl):Int:=spE l.t (bF l.t o (gJ s)).1 s.x (lJ o (sC l o s).ac s.x) (gJ s) (lJ o (gJ s) s.x)
def rfT (l:Ts) (o:Ob) (s:Spl):Ts:=⟨l.i,xE l.t (bF l.t o (gJ s)).1 s.x (lJ o (sC l o s).ac s.x) (gJ s) (lJ o (gJ s) s.x)⟩
def hJ (l:Ts) (o:Ob) (s:Spl):Ts×List (List Int)×Int:=
  if kH l o≠0 then (l,[],kH l o) else if prS s l.i≠0 then (l,[],prS s l.i) else if (bF l.t o<|gJ s).2.2≠0 then (l,[],(bF l.t o<|gJ s).2.2) else if 0 < (bF l.t o<|gJ s).2.1.length then (l,[(bF l.t o<|gJ s).2.1],0) else if (sC l o s).lf=false then (l,[],10) else if 1024 < (sC l o s).ac.length+s.x.length\/1024 < (gJ s).length+s.x.length then (l,[],3) else if 0 < (vX o<|mM l o s).length then (l,mK (vX o<|mM l o s),0) else if 128<=(fT l.t.nd).length then (l,[],11) else if rfG l o s≠0 then (l,[],rfG l o s) else (rfT l o s,[],0)
theorem aDs {l:Ts} {o:Ob} {s:Spl} (h1:kH l o≠0):hJ l o s=(l,[],kH l o):=by unfold hJ; rw [if_pos h1]
theorem aDO {l:Ts} {o:Ob} {s:Spl} (h1: ¬(kH l o≠0)) (h2:prS s l.i≠0):hJ l o s=(l,[],prS s l.i):=by grind [hJ]
theorem aDU {l:Ts} {o:Ob} {s:Spl} (h1: ¬(kH l o≠0)) (h2: ¬(prS s l.i≠0)) (h3:(bF l.t o (gJ s)).2.2≠0):hJ l o s=(l,[],(bF l.t o (gJ s)).2.2):=by grind [hJ]
theorem aDJ {l:Ts} {o:Ob} {s:Spl} (h1: ¬(kH l o≠0)) (h2: ¬(prS s l.i≠0)) (h3: ¬((bF l.t o (gJ s)).2.2≠0)) (h4:0 < (bF l.t o (gJ s)).2.1.length):hJ l o s=(l,[(bF l.t o (gJ s)).2.1],0):=by grind [hJ]
theorem aDg {l:Ts} {o:Ob} {s:Spl} (h1: ¬(kH l o≠0)) (h2: ¬(prS s l.i≠0)) (h3: ¬((bF l.t o (gJ s)).2.2≠0)) (h4: ¬(0 < (bF l.t o (gJ s)).2.1.length)) (h5:(sC l o s).lf=false):hJ l o s=(l,[],10):=by grind [hJ]
theorem aCs {l:Ts} {o:Ob} {s:Spl} (h1: ¬(kH l o≠0)) (h2: ¬(prS s l.i≠0)) (h3: ¬((bF l.t o (gJ s)).2.2≠0)) (h4: ¬(0 < (bF l.t o (gJ s)).2.1.length)) (h5: ¬((sC l o s).lf=false)) (h6:1024 < (sC l o s).ac.length+s.x.length\/1024 < (gJ s).length+s.x.length):hJ l o s=(l,[],3):=by grind [hJ]
theorem aCJ {l:Ts} {o:Ob} {s:Spl} (h1: ¬(kH l o≠0)) (h2: ¬(prS s l.i≠0)) (h3: ¬((bF l.t o (gJ s)).2.2≠0)) (h4: ¬(0 < (bF l.t o (gJ s)).2.1.length)) (h5: ¬((sC l o s).lf=false)) (h6: ¬(1024 < (sC l o s).ac.length+s.x.length\/1024 < (gJ s).length+s.x.length)) (h7:0 < (vX o (mM l o s)).length):hJ l o s=(l,mK (vX o (mM l o s)),0):=by grind [hJ]
theorem aBS {l:Ts} {o:Ob} {s:Spl} (h1: ¬(kH l o≠0)) (h2: ¬(prS s l.i≠0)) (h3: ¬((bF l.t o (gJ s)).2.2≠0)) (h4: ¬(0 < (bF l.t o (gJ s)).2.1.length)) (h5: ¬((sC l o s).lf=false)) (h6: ¬(1024 < (sC l o s).ac.length+s.x.length\/1024 < (gJ s).length+s.x.length)) (h7: ¬(0 < (vX o (mM l o s)).length)) (h8:128<=(fT l.t.nd).length):hJ l o s=(l,[],11):=by grind [hJ]
theorem aDy {l:Ts} {o:Ob} {s:Spl} (h1: ¬(kH l o≠0)) (h2: ¬(prS s l.i≠0)) (h3: ¬((bF l.t o (gJ s)).2.2≠0)) (h4: ¬(0 < (bF l.t o (gJ s)).2.1.length)) (h5: ¬((sC l o s).lf=false)) (h6: ¬(1024 < (sC l o s).ac.length+s.x.length\/1024 < (gJ s).length+s.x.length)) (h7: ¬(0 < (vX o (mM l o s)).length)) (h8: ¬(128<=(fT l.t.nd).length)) (h9:rfG l o s≠0):hJ l o s=(l,[],rfG l o s):=by grind [hJ]
theorem wQ {l:Ts} {o:Ob} {s:Spl} (h1: ¬(kH l o≠0)) (h2: ¬(prS s l.i≠0)) (h3: ¬((bF l.t o (gJ s)).2.2≠0)) (h4: ¬(0 < (bF l.t o (gJ s)).2.1.length)) (h5: ¬((sC l o s).lf=false)) (h6: ¬(1024 < (sC l o s).ac.length+s.x.length\/1024 < (gJ s).length+s.x.length)) (h7: ¬(0 < (vX o (mM l o s)).length)) (h8: ¬(128<=(fT l.t.nd).length)) (h9: ¬(rfG l o s≠0)):hJ l o s=(rfT l o s,[],0):=by grind [hJ]
theorem aNE {s:Spl} {i:Int} (h: ¬prS s i≠0):cP s.p i=0/\0<=s.a/\s.a < i/\0 < s.x.length/\cP s.x i=0:=by grind [prS]
def xtK (l:Ts) (o:Ob) (m:Nat):Xt:=⟨aA (dC l) m,(bF l.t o (aA (dC l) m)).1⟩
def iU (l:Ts) (o:Ob):List Xt:=eI (xtK l o) (dC l).length
theorem aJU (l:Ts) (o:Ob):(iU l o).length=(dC l).length:=bS _ _
theorem aIF {l:Ts} {o:Ob} {k:Nat} (h:k < (dC l).length):aA (iU l o) k=⟨aA (dC l) k,(bF l.t o (aA (dC l) k)).1⟩:=eG h
def msK (o:Ob) (l:List (List Int)) (k:Nat):List (List Int):=vX o (l.take k)
theorem aIy {o:Ob} {l:List (List Int)} {k:Nat} (hk:k < l.length) (h:(dP o (aA l k)).isSome=false):msK o l (k+1)=msK o l k++[aA l k]:=by grind [msK,vX,cV]
theorem aLK {o:Ob} {l:List (List Int)} {k:Nat} (hk:k < l.length) (h:(dP o (aA l k)).isSome=true):msK o l (k+1)=msK o l k:=by grind [msK,vX,cV]
theorem aPz {o:Ob} {l:List (List Int)} {k:Nat} (hk:l.length<=k):msK o l k=vX o l:=by grind [msK,List.take_of_length_le]
theorem aPc (o:Ob) (l:List (List Int)) (k:Nat):(msK o l k).length<=l.length:=Nat.le_trans (List.length_filter_le _ _) (by grind)
theorem aIs {o:Ob} {a b:List Int}:vX o [a,b]=(if (dP o a).isSome=true then [] else [a])++(if (dP o b).isSome=true then [] else [b]):=by grind [vX]
end
section
open Go
theorem aJH (t:Dt):xG (eM t):=by
  unfold eM; split
  . exact sY _
  . exact List.Pairwise.nil
theorem aDf (l:Ts) (o:Ob):((dJ l o).1=l/\ ¬((dJ l o).2.2.2=0/\(dJ l o).2.1.length=0/\(dJ l o).2.2.1=false))\/
    ((dJ l o).2.2.2 = 0 /\ (dJ l o).2.1.length = 0 /\ (dJ l o).2.2.1 = false /\ kH l o = 0 /\ pL l o = 0 /\ (mK<|qra l o).length = 0 /\ ∃ k : Nat, k < (dC l).length /\ nO l o = k /\ inx l o k = true /\
      nP l.t (bF l.t o<|aA (dC l) k).1 (lJ o (aA (dC l) k) (aA l.t.nd (bF l.t o<|aA (dC l) k).1.toNat).sf) (aA (dC l) k)=0/\
      (dJ l o).1=⟨l.i,wN l.t (bF l.t o<|aA (dC l) k).1 (lJ o (aA (dC l) k) (aA l.t.nd (bF l.t o<|aA (dC l) k).1.toNat).sf) (aA (dC l) k)⟩):=by
  by_cases h1:kH l o≠0
  . grind [xJ]
  by_cases h2:pL l o≠0
  . grind [xB]
  by_cases h3:0 < (mK<|qra l o).length
  . grind [oC]
  by_cases h4:nO l o < 0
  . grind [lQ]
  by_cases h5:128<=(fT l.t.nd).length
  . grind [qF]
  have h4':0<=nO l o:=OM
  have hb:=(aEj (p:=inx l o) (dC l).length 0).2 h4';have hv:=qY h4';have hk:nO l o=((nO l o).toNat:Int):=OM
  by_cases h6:nP l.t (bF l.t o<|aA (dC l) (nO l o).toNat).1 (lJ o (aA (dC l) (nO l o).toNat) (aA l.t.nd (bF l.t o<|aA (dC l) (nO l o).toNat).1.toNat).sf) (aA (dC l) (nO l o).toNat)≠0
  . grind [wV]
  grind [sS,nO]
theorem uT {l:Ts} {o:Ob} (h:(dJ l o).2.2.1=true):(dJ l o).2.2.2=0/\(dJ l o).2.1=[]/\(xM l o=0\/xM l o=15)/\kH l o=0/\pL l o=0/\(mK (qra l o)).length=0/\nO l o < 0/\(dJ l o).1=l:=by
  by_cases h1:kH l o≠0
  . rw [xJ h1] at h; cases h
  by_cases h2:pL l o≠0
  . rw [xB h1 h2] at h; cases h
  by_cases h3:0 < (mK<|qra l o).length
  . grind [oC]
  by_cases h4:nO l o < 0
  . grind [lQ,rM,qH]
  by_cases h5:128<=(fT l.t.nd).length
  . grind [qF]
  have h4':0<=nO l o:=OM
  have hk:nO l o=((nO l o).toNat:Int):=OM
  by_cases h6:nP l.t (bF l.t o<|aA (dC l) (nO l o).toNat).1 (lJ o (aA (dC l) (nO l o).toNat) (aA l.t.nd (bF l.t o<|aA (dC l) (nO l o).toNat).1.toNat).sf) (aA (dC l) (nO l o).toNat)≠0
  . grind [wV]
  grind [sS]
theorem aDA (l:Ts) (o:Ob) (s:Spl):((hJ l o s).1=l/\ ¬((hJ l o s).2.2=0/\(hJ l o s).2.1.length=0))\/
    ((hJ l o s).2.2=0/\(hJ l o s).2.1.length=0/\kH l o=0/\prS s l.i=0/\(bF l.t o<|gJ s).2.2=0/\(bF l.t o<|gJ s).2.1.length=0/\(sC l o s).lf=true/\(vX o<|mM l o s).length=0/\rfG l o s=0/\(hJ l o s).1=rfT l o s):=by
  by_cases h1:kH l o≠0
  . grind [aDs]
  by_cases h2:prS s l.i≠0
  . grind [aDO]
  by_cases h3:(bF l.t o<|gJ s).2.2≠0
  . grind [aDU]
  by_cases h4:0 < (bF l.t o<|gJ s).2.1.length
  . grind [aDJ]
  by_cases h5:(sC l o s).lf=false
  . grind [aDg]
  grind [aCs,aCJ,rK,aBS,aDy,wQ]
end
section
open Go
structure Pr where
  s:Int
  t:Int
  w:List Int
  deriving Inhabited
abbrev cPr (p:Pr):List V:=[iV p.s,iV p.t,aD p.w]
@[simp] theorem aQK (l:List Pr):kF (l.map cPr)=true:=by simp_all
@[simp] theorem aP4 (l:List Pr):hY (l.map cPr)=true:=by simp_all [iW]
def knK (L:List Pr) (u v:Int):Nat->Bool
  |0=>false
  |k+1=>knK L u v k||decide ((aA L k).s=u/\(aA L k).t=v)
theorem oH {L:List Pr} {u v:Int}: ∀ {k:Nat},knK L u v k=true↔ ∃ j,j < k/\(aA L j).s=u/\(aA L j).t=v
  |0=>by simp [knK]
  | k + 1 => by
    simp only [knK,Bool.or_eq_true,decide_eq_true_eq,oH (k:=k)];constructor
    . rintro (⟨j,h1,h2⟩|h)
      . exact ⟨j,OM,h2⟩
      . exact ⟨k,OM,h⟩
    . rintro ⟨j,h1,h2⟩
      by_cases e:j=k
      . subst e; exact .inr h2
      . exact .inl ⟨j,OM,h2⟩
def kI (m:M) (s:Int) (x:Nat):Int:=aA (aA m.nx s.toNat) x
def yB (m:M) (s:Int) (x:Nat):Int:=aA (aA m.ot s.toNat) x
def bqS (a b:M) (p:Pr) (L:List Pr) (x:Nat):List Pr:=
  if knK L (kI a p.s x) (kI b p.t x) L.length=true then L else L++[⟨kI a p.s x,kI b p.t x,p.w++[(x:Int)]⟩]
def lG (a b:M) (p:Pr) (L:List Pr):Nat->List Pr
  |0=>L
  |x+1=>bqS a b p (lG a b p L x) x
def bqD (a b:M) (p:Pr) (x:Nat):Bool:=decide (yB a p.s x≠yB b p.t x)
def bq (a b:M):Nat->Nat->List Pr->Option (List Int)
  |0,_,_=>none
  |n+1,i,L=>if i < L.length then (if 0<=fi (bqD a b (aA L i)) 0 a.i.toNat then some ((aA L i).w++[fi (bqD a b (aA L i)) 0 a.i.toNat]) else bq a b n (i+1) (lG a b (aA L i) L a.i.toNat)) else none
def dst (a b:M) (s t:Int):Option (List Int):=bq a b (a.nx.length*b.nx.length+1) 0 [⟨s,t,[]⟩]
theorem aIv (a b:M) (p:Pr) (L:List Pr) (x:Nat): ∃ y,bqS a b p L x=L++y:=by
  unfold bqS; split
  all_goals (simp_all)
theorem aBx (a b:M) (p:Pr) (L:List Pr): ∀ x,∃ y,lG a b p L x=L++y
  |0=>⟨[],by simp [lG]⟩
  | x + 1 => by
    obtain ⟨y,hy⟩:=aBx a b p L x;obtain ⟨z,hz⟩:=aIv a b p (lG a b p L x) x
    grind [lG]
theorem aBw {a b:M} {p:Pr} {L:List Pr} {x i:Nat} (h:i < L.length):aA (lG a b p L x) i=aA L i:=by
  obtain ⟨y,hy⟩:=aBx a b p L x;rw [hy,dB h]
theorem aBp {a b:M} {p:Pr} {L:List Pr} {x:Nat}:L.length<=(lG a b p L x).length:=by
  obtain ⟨y,hy⟩:=aBx a b p L x
  grind
theorem aES {a b:M} {p:Pr} {L:List Pr} {x:Nat} (h:knK (lG a b p L x) (kI a p.s x) (kI b p.t x) (lG a b p L x).length=true):lG a b p L (x+1)=lG a b p L x:=if_pos h
theorem aH7 {a b:M} {p:Pr} {L:List Pr} {x:Nat} (h:knK (lG a b p L x) (kI a p.s x) (kI b p.t x) (lG a b p L x).length=false):
    lG a b p L (x+1)=lG a b p L x++[⟨kI a p.s x,kI b p.t x,p.w++[(x:Int)]⟩]:=if_neg (by rw [h]; decide)
def InW (n:Int) (w:List Int):Prop:= ∀ k,k < w.length->0<=aA w k/\aA w k < n
theorem InW.snoc {n:Int} {w:List Int} (h:InW n w) {x:Int} (h0:0<=x) (h1:x < n):InW n (w++[x]):=by
  intro k hk;rw [List.length_append,List.length_singleton] at hk;by_cases e:k < w.length
  . rw [dB e]; exact h k e
  grind [aA]
theorem aCb {n a:Int} {w:List Int} (h:InW n (a::w)):0<=a/\a < n/\InW n w:=by
  have h0:=h 0 SI;rw [fX] at h0;refine ⟨h0.1,h0.2,λk hk=>?_⟩;have:=h (k+1) (by simpa using hk)
  rwa [jD] at this
theorem nX {m:M} (h:bK m=0) {s:Int} {x:Nat} (h0:0<=s) (h1:s < m.nx.length) (hx:x < m.i.toNat):0<=kI m s x/\kI m s x < m.nx.length/\0<=yB m s x/\yB m s x<=1048576:=by
  have:=((cY h).2.2.2.2.2.2.2 s.toNat OM).2.2 x OM;exact this
theorem mQ {m:M} (h:bK m=0) {s:Int} (h0:0<=s) (h1:s < m.nx.length):(aA m.nx s.toNat).length=m.i.toNat/\(aA m.ot s.toNat).length=m.i.toNat/\m.ot.length=m.nx.length:=by
  have q:=cY h;have:=q.2.2.2.2.2.2.2 s.toNat OM;omega
theorem aBs (m:M) (s:Int) (x:Nat):cell m.nx s (x:Int)=kI m s x:=J
theorem uY (m:M) (s:Int) (x:Nat):cell m.ot s (x:Int)=yB m s x:=J
structure BI (a b:M) (s0 t0:Int) (L:List Pr):Prop where
  rg: ∀ p∈L,0<=p.s/\p.s < a.nx.length/\0<=p.t/\p.t < b.nx.length
  nd:L.Pairwise λp q=> ¬(p.s=q.s/\p.t=q.t)
  st: ∀ p∈L,eJ a s0 p.w=p.s/\eJ b t0 p.w=p.t/\aV a s0 p.w=aV b t0 p.w/\InW a.i p.w
  ln: ∀ k,k < L.length->(aA L k).w.length<=k
  hd:0 < L.length/\(aA L 0).s=s0/\(aA L 0).t=t0
section
variable {a b:M} {s0 t0:Int}
theorem BI.start (h1:0<=s0) (h2:s0 < a.nx.length) (h3:0<=t0) (h4:t0 < b.nx.length):BI a b s0 t0 [⟨s0,t0,[]⟩]:=by
  refine ⟨λp hp=>?_,List.pairwise_singleton _ _,λp hp=>?_,λk hk=>?_,SI,J,J⟩
  . grind
  . rw [List.mem_singleton.1 hp]; exact ⟨J,J,J,λk hk=>by simp at hk⟩
  simp_all [fX]
theorem BI.step (ha : bK a = 0) (hb : bK b = 0) (hi : a.i = b.i) {L : List Pr} (h : BI a b s0 t0 L) {i x : Nat} (hk : i < L.length) (hx : x < a.i.toNat) {q : Pr} (hq : q = aA L i) (hd : bqD a b q x = false) : BI a b s0 t0 (bqS a b q L x) := by
  unfold bqS;split
  . exact h
  . rename_i hn
    have hm:aA L i∈L:=bC hk;have r:=h.rg _ hm;have s:=h.st _ hm;rw [<- hq] at r s;have n1:=nX ha r.1 r.2.1 hx;have n2:=nX hb r.2.2.1 r.2.2.2 (show x < b.i.toNat by rw [<- hi]; exact hx);refine ⟨λp hp=>?_,?_,λp hp=>?_,λk hk2=>?_,?_⟩
    . rcases List.mem_append.1 hp with e|e
      . exact h.rg p e
      grind
    . rw [List.pairwise_append]
      refine ⟨h.nd,List.pairwise_singleton _ _,λp hp r hr e=>?_⟩
      grind [dZ,oH]
    . rcases List.mem_append.1 hp with e|e
      . exact h.st p e
      . rw [List.mem_singleton.1 e]
        have e1:yB a q.s x=yB b q.t x:=by simpa [bqD] using hd
        refine ⟨by rw [kW,s.1]; rfl,by rw [kW,s.2.1]; rfl,?_,s.2.2.2.snoc OM OM⟩;rw [gP,gP,s.1,s.2.1,s.2.2.1];show _++[cell a.ot q.s (x:Int)]=_++[cell b.ot q.t (x:Int)];rw [uY,uY,e1]
    . rw [List.length_append,List.length_singleton] at hk2
      by_cases e:k < L.length
      . rw [dB e]; exact h.ln k e
      . have z:aA (L++[(⟨kI a q.s x,kI b q.t x,q.w++[(x:Int)]⟩:Pr)]) (L.length+(k - L.length))=_:=iC
        rw [show L.length+(k - L.length)=k by omega,show k - L.length=0 by omega,fX] at z;rw [z];have:=h.ln i hk
        grind
    . refine ⟨by rw [List.length_append]; have:=h.hd.1; omega,?_⟩
      rw [dB h.hd.1]; exact h.hd.2
theorem BI.row (ha:bK a=0) (hb:bK b=0) (hi:a.i=b.i) {L:List Pr} (h:BI a b s0 t0 L) {i:Nat} (hk:i < L.length): ∀ {x:Nat},x<=a.i.toNat->(∀ j,j < x->bqD a b (aA L i) j=false)->BI a b s0 t0 (lG a b (aA L i) L x)
  |0,_,_=>h
  | x + 1, hx, hd => by
    have ih:=BI.row ha hb hi h hk (x:=x) OM λj hj=>hd j OM
    exact ih.step ha hb hi (i:=i) (Nat.lt_of_lt_of_le hk aBp) OM (aBw hk).symm (hd x OM)
theorem aKL {n s s' t t':Int} (h1:0<=t) (h2:t < n) (h3:0<=t') (h4:t' < n) (e:s*n+t=s'*n+t'):s=s'/\t=t':=by
  have hd: ∀ {u v:Int},0<=v->v < n->(u*n+v) / n=u:=λ{u v} hv hv'=>by
    rw [Int.add_comm,Int.add_mul_ediv_right _ _ OM,Int.ediv_eq_zero_of_lt hv hv']; omega
  grind
theorem BI.len {L:List Pr} (h:BI a b s0 t0 L):L.length<=a.nx.length*b.nx.length:=by
  have key:(L.map λp=>p.s*(b.nx.length:Int)+p.t).length<=((List.range<|a.nx.length*b.nx.length).map λ(n:Nat)=>(n:Int)).length:=by
    refine aF0 ?_ λz hz=>?_
    . rw [List.nodup_iff_pairwise_ne,List.pairwise_map]
      refine List.Pairwise.imp_of_mem ?_ h.nd;intro p q hp hq hn e;have r1:=h.rg p hp; have r2:=h.rg q hq
      grind [aKL]
    . obtain ⟨p,hp,rfl⟩:=List.mem_map.1 hz
      have r:=h.rg p hp;have u1:p.s*(b.nx.length:Int)<=((a.nx.length:Int) - 1)*(b.nx.length:Int):=Int.mul_le_mul_of_nonneg_right OM OM;have u2:0<=p.s*(b.nx.length:Int):=Int.mul_nonneg r.1 OM;rw [Int.sub_mul] at u1;have u3:((a.nx.length*b.nx.length:Nat):Int)=(a.nx.length:Int)*(b.nx.length:Int):=Int.natCast_mul _ _;exact List.mem_map.2 ⟨(p.s*(b.nx.length:Int)+p.t).toNat,List.mem_range.2 OM,OM⟩
  simpa using key
def Cl (a b:M) (L:List Pr) (i:Nat):Prop:= ∀ j,j < i-> ∀ x,x < a.i.toNat->bqD a b (aA L j) x=false/\knK L (kI a (aA L j).s x) (kI b (aA L j).t x) L.length=true
theorem aGX {L y:List Pr} {u v:Int} (h:knK L u v L.length=true):knK (L++y) u v (L++y).length=true:=by
  obtain ⟨j,h1,h2⟩:=oH.1 h;exact oH.2 ⟨j,by rw [List.length_append]; omega,by rw [dB h1]; exact h2⟩
theorem aIR {p : Pr} {L : List Pr} : ∀ {x j : Nat}, j < x -> knK (lG a b p L x) (kI a p.s j) (kI b p.t j) (lG a b p L x).length = true
  | x + 1, j, h => by
    obtain ⟨y,hy⟩:=aIv a b p (lG a b p L x) x;rw [lG];by_cases e:j=x
    . subst e
      unfold bqS;split
      . rename_i q; exact q
      . refine oH.2 ⟨(lG a b p L j).length,SI,?_⟩
        grind [aA]
    . rw [hy]; exact aGX<|aIR (x:=x) (j:=j) OM
theorem Cl.next {L:List Pr} {i:Nat} (h:Cl a b L i) (hi:i < L.length) (hd: ∀ x,x < a.i.toNat->bqD a b (aA L i) x=false):Cl a b (lG a b (aA L i) L a.i.toNat) (i+1):=by
  intro j hj x hx;by_cases e:j=i
  . grind [aBw,aIR]
  . rw [aBw OM]
    obtain ⟨y,hy⟩:=aBx a b (aA L i) L a.i.toNat;have q:=h j OM x hx
    grind [aGX]
theorem aDK (hi:a.i=b.i) {L:List Pr} (h:Cl a b L L.length): ∀ (w:List Int) (k:Nat),k < L.length->InW a.i w->aV a (aA L k).s w=aV b (aA L k).t w
  |[],_,_,_=>rfl
  | c :: w, k, hk, hw => by
    obtain ⟨c0,c1,hw'⟩:=aCb hw;have q:=h k hk c.toNat OM;obtain ⟨j,hj,e1,e2⟩:=oH.1 q.2;have e3:yB a (aA L k).s c.toNat=yB b (aA L k).t c.toNat:=by simpa [bqD] using q.1
    have ih:=aDK hi h w j hj hw';simp only [aV];have f1:cell a.nx (aA L k).s c=(aA L j).s:=e1.symm;have f2:cell b.nx (aA L k).t c=(aA L j).t:=e2.symm;have f3:cell a.ot (aA L k).s c=cell b.ot (aA L k).t c:=e3;rw [f1,f2,f3,ih]
def aPX (a b:M) (s0 t0:Int):Option (List Int)->Prop
  |some w=>aV a s0 w≠aV b t0 w/\InW a.i w/\w.length<=a.nx.length*b.nx.length/\0 < w.length
  |none=> ∀ w,InW a.i w->aV a s0 w=aV b t0 w
theorem aFy (ha : bK a = 0) (hb : bK b = 0) (hi : a.i = b.i) : ∀ (n i : Nat) (L : List Pr), BI a b s0 t0 L -> Cl a b L i -> i <= L.length -> a.nx.length * b.nx.length < n + i -> aPX a b s0 t0 (bq a b n i L)
  |0,i,L,h,_,hl,hn=>by have:=h.len; omega
  | n + 1, i, L, h, hc, hl, hn => by
    unfold bq;by_cases e:i < L.length
    . rw [if_pos e]
      by_cases d:0<=fi (bqD a b<|aA L i) 0 a.i.toNat
      . rw [if_pos d]
        have s:=h.st _<|bC e
        have hv:=qY d;have hx:(fi (bqD a b<|aA L i) 0 a.i.toNat).toNat < a.i.toNat:=by have:=hv.2.1; omega
        have hD:yB a (aA L i).s (fi (bqD a b<|aA L i) 0 a.i.toNat).toNat≠yB b (aA L i).t (fi (bqD a b<|aA L i) 0 a.i.toNat).toNat:=by simpa [bqD] using hv.2.2.1
        refine ⟨λq=>hD ?_,s.2.2.2.snoc d OM,?_,SI⟩
        . rw [gP,gP,s.1,s.2.1,s.2.2.1] at q
          have:=List.append_cancel_left q;have z:=List.head_eq_of_cons_eq this;exact z
        . have:=h.ln i e; have:=h.len
          grind
      . rw [if_neg d]
        have hd: ∀ x,x < a.i.toNat->bqD a b (aA L i) x=false:=λx hx=>by
          simp_all [nT]
        exact aFy ha hb hi n (i+1) _ (h.row ha hb hi e (Nat.le_refl _) hd) (hc.next e hd) (by grind [aBp]) OM
    . rw [if_neg e]
      intro w hw;have:=aDK hi (by grind) w 0 h.hd.1 hw
      rwa [h.hd.2.1,h.hd.2.2] at this
theorem aKq (ha:bK a=0) (hb:bK b=0) (hi:a.i=b.i) (h1:0<=s0) (h2:s0 < a.nx.length) (h3:0<=t0) (h4:t0 < b.nx.length):aPX a b s0 t0 (dst a b s0 t0):=
  aFy ha hb hi _ 0 _ (BI.start h1 h2 h3 h4) (λj hj=>by omega) (Nat.zero_le _) OM
end
theorem aO9 {a b:M} {p:Pr} {n:Nat} (h: ∀ j,j < n->bqD a b p j=false): ¬0<=fi (bqD a b p) 0 n:=by grind [nT]
theorem aRU {a b:M} {N i:Nat} {L:List Pr} (hn:i < N) (hi:i < L.length) (h: ∀ j,j < a.i.toNat->bqD a b (aA L i) j=false):bq a b (N - i) i L=bq a b (N - (i+1)) (i+1) (lG a b (aA L i) L a.i.toNat):=by
  obtain ⟨n,e⟩: ∃ n,N - i=n+1:=⟨N - i - 1,OM⟩;rw [e,show N - (i+1)=n by omega,bq,if_pos hi,if_neg (aO9 h)]
theorem aQM {a b:M} {n i:Nat} {L:List Pr} (hi:L.length<=i):bq a b n i L=none:=by cases n <;> grind [bq]
theorem aQz {a b:M} {N i x:Nat} {L:List Pr} (hi:i < L.length) (hn:i < N) (hx:x < a.i.toNat) (hd:bqD a b (aA L i) x=true) (h: ∀ j,j < x->bqD a b (aA L i) j=false):bq a b (N - i) i L=some ((aA L i).w++[(x:Int)]):=by
  obtain ⟨n,e⟩: ∃ n,N - i=n+1:=⟨N - i - 1,OM⟩
  have key: ∀ k,k<=x->fi (bqD a b<|aA L i) 0 a.i.toNat=fi (bqD a b<|aA L i) k (a.i.toNat - k):=by
    intro k
    induction k <;> grind [mX]
  have hf:fi (bqD a b<|aA L i) 0 a.i.toNat=(x:Int):=by rw [key x (Nat.le_refl _),qZ hd hx]
  grind [bq]
end
section
open Go
def aBD (m:M) (o:Ob) (k:Nat):Int:=if aV m m.s (aA o.tr k).ni=(aA o.tr k).no then 0 else 1
def lF (m:M) (o:Ob):Bool:=decide (fe (aBD m o) 0 o.tr.length=0)
def agB (o:Ob) (m:M):Bool:=decide (o.i=m.i)&&lF m o
theorem aHn {m:M} {o:Ob} (h:lF m o=true): ∀ t∈o.tr,t.no=aV m m.s t.ni:=by
  intro t ht;obtain ⟨k,hk,rfl⟩:=dZ ht;have:=cW.1 (of_decide_eq_true h) k (Nat.zero_le _) OM
  grind [aBD]
theorem zA {m:M} {o:Ob} (h:lF m o=true) {w x:List Int} (ha:dP o w=some x):x=aV m m.s w:=by
  unfold dP at ha;split at ha
  . rename_i e; subst e; cases ha; rfl
  grind [rT,aHn,kN,oL,List.take_left]
theorem iJ {m:M} {o:Ob} (h:lF m o=true) {w x:List Int} (ha:(dP o (bH [w,x])).isSome=true):lJ o w x=aV m (eJ m m.s w) x:=by
  obtain ⟨y,hy⟩:=Option.isSome_iff_exists.1 ha;have:=zA h hy
  grind [lJ,bH,gP,gI]
inductive Bel (t:Dt):Int->List Int->Prop where
  |leaf {n:Int} (h:(aA t.nd n.toNat).lf=true):Bel t n (aA t.nd n.toNat).ac
  |kid {n a:Int} {w:List Int} (h:(aA t.nd n.toNat).lf=false) (ha:a∈(aA t.nd n.toNat).kd) (hb:Bel t a w):Bel t n w
inductive Rea (t:Dt):Int->Int->Prop where
  |refl (n:Int):Rea t n n
  |kid {n a b:Int} (h:(aA t.nd n.toNat).lf=false) (ha:a∈(aA t.nd n.toNat).kd) (hb:Rea t a b):Rea t n b
def Snd (t:Dt) (m:M) (n:Int):Prop:= ∀ b,Rea t n b->(aA t.nd b.toNat).lf=false-> ∀ i,i < (aA t.nd b.toNat).kd.length-> ∀ w,Bel t (aA (aA t.nd b.toNat).kd i) w->aV m (eJ m m.s w) (aA t.nd b.toNat).sf=aA (aA t.nd b.toNat).ou i
theorem Snd.kid {t:Dt} {m:M} {n a:Int} (h:Snd t m n) (hl:(aA t.nd n.toNat).lf=false) (ha:a∈(aA t.nd n.toNat).kd):Snd t m a:=λb hb=>h b (.kid hl ha hb)
theorem aLi {t : Dt} (hv : iB t = 0) {k : Nat} (hk : k < t.nd.length) (hl : (aA t.nd k).lf = true) : Bel t 0 (aA t.nd k).ac := by
  obtain ⟨P,hP⟩:=mT hv;have hki:=lC hv
  have up : ∀ (s : Nat), s < P.length -> ∀ w, Bel t (aA P s) w -> Bel t 0 w := by
    intro s
    induction s using Nat.strongRecOn with
    | _ s ih =>
      intro hs w hw;by_cases e:s=0
      . subst e; rwa [hP.head.1] at hw
      . obtain ⟨j,hj,ha⟩:=hP.1.par (s:=s) OM hs
        have r:=hP.1.rng hki _<|bC (show j < P.length by omega)
        have hjl:(aA t.nd (aA P j).toNat).lf=false:=by
          by_cases z:(aA t.nd (aA P j).toNat).lf=true
          . have:=(aB0 hv (show (aA P j).toNat < t.nd.length by omega) z).kd
            rw [this] at ha; cases ha
          . simpa using z
        exact ih j hj OM w (.kid hjl ha hw)
  obtain ⟨s,hs,e⟩:=hP.all hki (a:=(k:Int)) OM OM
  have:Bel t (aA P s) (aA t.nd k).ac:=by
    rw [e];have z:=Bel.leaf (t:=t) (n:=(k:Int)) (by simpa using hl);simpa using z
  exact up s hs _ this
def Apt (m:M) (u v:List Int):Prop:= ∃ z,InW m.i z/\aV m (eJ m m.s u) z≠aV m (eJ m m.s v) z
theorem Apt.symm {m:M} {u v:List Int} (h:Apt m u v):Apt m v u:=by obtain ⟨z,h1,h2⟩:=h; exact ⟨z,h1,h2.symm⟩
theorem oV {w:List Int} {n:Int} (h:cP w n=0):InW n w:=(dO h).2
theorem aQY {l:List (List Int)} (hs:xU l) {i j:Nat} (hi:i < l.length) (hj:j < l.length) (e:aA l i=aA l j):i=j:=by
  rcases Nat.lt_trichotomy i j with q|q|q
  . have:=yZ hs q hj; rw [e,fI.2 J] at this; omega
  . exact q
  . have:=yZ hs q hi; rw [e,fI.2 J] at this; omega
theorem aDt {t : Dt} {o : Ob} {m : M} {w : List Int} (hv : iB t = 0) (hx : lF m o = true) (hsw : ∀ k, k < t.nd.length -> InW m.i (aA t.nd k).sf) {a : Int} : ∀ {f n : Nat}, Rk t f n -> Snd t m (n : Int) -> gS t o w f n = (a, [], 0) ->
    ∀ p,Bel t (n:Int) p->Bel t a p\/Apt m w p
  |0,n,hr,_,_=>absurd hr.pos OM
  | f + 1, n, hr, hS, he => by
    intro p hp;have hlt:=hr.lt hv;by_cases hl:(aA t.nd n).lf=true
    . grind [oW]
    have hl:(aA t.nd n).lf=false:=by simpa using hl
    have hin:=qK hv hlt hl;by_cases h1:cP (bH [w,(aA t.nd n).sf]) o.i≠0
    . grind [sP]
    by_cases h2:(dP o<|bH [w,(aA t.nd n).sf]).isSome=true
    . by_cases h3:lxH (aA t.nd n).ou (((dP o<|bH [w,(aA t.nd n).sf]).getD []).drop w.length)
      . rw [aCE hr.pos hl h1 h2 h3] at he
        have hb:((dP o<|bH [w,(aA t.nd n).sf]).getD []).drop w.length=aV m (eJ m m.s w) (aA t.nd n).sf:=iJ hx h2;have hki:kD (aA t.nd n).ou (((dP o<|bH [w,(aA t.nd n).sf]).getD []).drop w.length) < (aA t.nd n).kd.length:=by have:=h3.1; have:=hin.len; omega
        have hm:aA (aA t.nd n).kd (kD (aA t.nd n).ou (((dP o<|bH [w,(aA t.nd n).sf]).getD []).drop w.length))∈(aA t.nd n).kd:=bC hki;have h0:=(hin.kr _ hm).1;cases hp with
        |leaf h=>grind
        | kid _ ha hb2 =>
          simp only [Int.toNat_natCast] at ha;obtain ⟨j,hj,rfl⟩:=dZ ha;by_cases ej:j=kD (aA t.nd n).ou (((dP o<|bH [w,(aA t.nd n).sf]).getD []).drop w.length)
          . rw [ej] at hb2
            have hS':=hS.kid (by simpa using hl) (by simpa using hm);refine aDt hv hx hsw (hr.step hm h0) ?_ he p ?_
            . grind
            grind
          . refine .inr ⟨(aA t.nd n).sf,hsw n hlt,?_⟩
            have e1:=hS (n:Int) (.refl _) (by simpa using hl) j (by simpa using hj) p (by simpa using hb2);simp only [Int.toNat_natCast] at e1;rw [e1,<- hb];intro e2;have e3:=aI8 h3;exact ej<|aQY hin.srt (by have:=hin.len; omega) h3.1 (by rw [e3]; exact e2.symm)
      grind [wO]
    . rw [sK hr.pos hl h1 (by simpa using h2)] at he
      injection he with _ h4; injection h4 with h5 _;have:=hin.s0
      grind [bH]
def aJ1 (m:M) (l:List (List Int)):Prop:= ∀ u∈l,∀ v∈l,u≠v->Apt m u v
theorem aGo {m:M} {l k:List (List Int)} {w:List Int} (h:aJ1 m l) (hk: ∀ u∈k,u∈l\/u=w) (hw: ∀ u∈l,Apt m w u):aJ1 m k:=by
  intro u hu v hv hne;rcases hk u hu with e|e <;> rcases hk v hv with f|f
  . exact h u e v f hne
  . rw [f]; exact (hw u e).symm
  all_goals (grind)
structure Cas (l:Ts) (o:Ob) (m:M):Prop where
  ho:jE o=0
  hm:bK m=0
  hx:lF m o=true
  hl:tvE l=0
  hi:l.i=m.i
  oi:o.i=m.i
  sd:Snd l.t m 0
  ap:aJ1 m (eM l.t)
section
variable {l:Ts} {o:Ob} {m:M}
theorem Cas.inw (h:Cas l o m): ∀ w∈eM l.t,cP w m.i=0:=λw hw=>by rw [<- h.hi]; exact (aBV h.hl hw).2
theorem Cas.sft (h:Cas l o m) {w:List Int} {a:Int} (hs:bF l.t o w=(a,[],0)) {p:List Int} (hp:p∈eM l.t):Bel l.t a p\/Apt m w p:=by
  obtain ⟨_,_,hv,hq,_,_⟩:=nG h.hl;rw [pH hv] at hp;obtain ⟨k,hk,hlf,rfl⟩:=aEk<|(iA _ _).1 hp
  unfold bF at hs;rw [if_neg OM] at hs;split at hs
  . grind
  . exact aDt hv h.hx (λk hk=>oV (by rw [<- h.hi]; exact (hq k hk).2)) (rk0 hv) h.sd hs _<|aLi hv hk hlf
theorem oY {t:Dt} {w:List Int} (h1:(bF t o w).2.2=0) (h2:(bF t o w).2.1=[]):bF t o w=((bF t o w).1,[],0):=by rw [<- h1,<- h2]
theorem Cas.step (h : Cas l o m) (he : (dJ l o).2.2.2 = 0) : (∀ w ∈ eM (dJ l o).1.t, cP w m.i = 0) /\ aJ1 m (eM (dJ l o).1.t) := by
  rcases aDf l o with ⟨h1,_⟩|⟨_,_,_,g1,g2,g3,k,hk,_,gi,g4,g5⟩
  . rw [h1]; exact ⟨h.inw,h.ap⟩
  . obtain ⟨_, _, hv, hq, _, _⟩ := nG h.hl
    obtain ⟨d1,d2,_⟩:=aEg g4;obtain ⟨_,n1,v1,x1,f1,_⟩:=aBI g4;have hnd:=vJ (l:=l) (o:=o) OM OM OM hk;have hlf:(aA l.t.nd (bF l.t o<|aA (dC l) k).1.toNat).lf=false:=(rH n1).2.2;have hw:=uE h.hl<|bC hk
    have hmem: ∀ u∈eM (dJ l o).1.t,u∈eM l.t\/u=aA (dC l) k:=by
      grind [pH,iA]
    have hwc:cP (aA (dC l) k) m.i=0:=by
      have q:=dO (aIA f1).1;have r:=cY h.hm;exact iS ⟨r.1,OM⟩ q.1 λj hj=>by rw [<- h.hi]; exact hw.2.2 j hj
    have hq2:(bF l.t o<|aA (dC l) k).2.1=[]:=by
      have z:=rK (l:=qra l o) g3;by_cases e:(bF l.t o<|aA (dC l) k).2.1=[]
      . exact e
      . exfalso
        have:(bF l.t o<|aA (dC l) k).2.1∈qra l o:=List.mem_flatMap.2 ⟨_,bC hk,by unfold qr1; rw [if_pos (List.length_pos_iff.2 e)]; simp⟩;rw [z] at this; cases this
    refine ⟨λu hu=>?_,aGo h.ap hmem λu hu=>?_⟩
    . rcases hmem u hu with e|e
      . exact h.inw u e
      . rw [e]; exact hwc
    . rcases h.sft (oY hnd.1 hq2) hu with e | e
      . -- below the node where the word ends:another output
        have hin:=qK hv (show (bF l.t o<|aA (dC l) k).1.toNat < l.t.nd.length by omega) hlf;cases e with
        |leaf z=>rw [hlf] at z; cases z
        | kid _ ha hb =>
          obtain ⟨j,hj,rfl⟩:=dZ ha;have hk2:=hnd.2.2.2 hlf;refine ⟨(aA l.t.nd (bF l.t o<|aA (dC l) k).1.toNat).sf,oV (by rw [<- h.hi]; exact (hq _ OM).2),?_⟩
          have hrea : Rea l.t 0 (bF l.t o<|aA (dC l) k).1 := by
            have key: ∀ (s:Nat) (P:List Int),Plc l.t P->s < P.length->Rea l.t 0 (aA P s):=by
              intro s P hP
              induction s using Nat.strongRecOn with
              | _ s ih =>
                intro hs;by_cases e0:s=0
                . subst e0; rw [hP.head.1]; exact .refl _
                . obtain ⟨i,hi,ha⟩:=hP.1.par (s:=s) OM hs
                  have r:=hP.1.rng (lC hv) _<|bC (show i < P.length by omega)
                  have hil:(aA l.t.nd (aA P i).toNat).lf=false:=by
                    by_cases z:(aA l.t.nd (aA P i).toNat).lf=true
                    . have:=(aB0 hv (show (aA P i).toNat < l.t.nd.length by omega) z).kd
                      rw [this] at ha; cases ha
                    . simpa using z
                  have tr: ∀ {a b c:Int},Rea l.t a b->(aA l.t.nd b.toNat).lf=false->c∈(aA l.t.nd b.toNat).kd->Rea l.t a c:=by
                    intro a b c h1
                    induction h1 with
                    |refl n=>intro h2 h3; exact .kid h2 h3 (.refl _)
                    |kid g1 g2 _ ih2=>intro h2 h3; exact .kid g1 g2 (ih2 h2 h3)
                  grind
            obtain ⟨P,hP⟩:=mT hv;obtain ⟨s,hs,e⟩:=hP.all (lC hv) hnd.2.1 hnd.2.2.1;rw [<- e]; exact key s P hP hs
          have e1:=h.sd _ hrea hlf j hj u hb;rw [e1];intro e2;have e3:lJ o (aA (dC l) k) (aA l.t.nd (bF l.t o<|aA (dC l) k).1.toNat).sf=_:=iJ h.hx hk2.1;rw [e2] at e3;have e4:=aEp hin.srt (show j < (aA l.t.nd (bF l.t o<|aA (dC l) k).1.toNat).ou.length by have:=hin.len; omega) e3.symm;exact hk2.2 e4.2
      . exact e
theorem Cas.split (h : Cas l o m) {s : Spl} (he : (hJ l o s).2.2 = 0) : (∀ w ∈ eM (hJ l o s).1.t, cP w m.i = 0) /\ aJ1 m (eM (hJ l o s).1.t) := by
  rcases aDA l o s with ⟨h1,_⟩|⟨_,_,g1,g2,g3,g4,g5,g6,g7,g8⟩
  . rw [h1]; exact ⟨h.inw,h.ap⟩
  . obtain ⟨_,_,hv,hq,_,_⟩:=nG h.hl
    obtain ⟨d1,d2,_⟩:=aBH g7;obtain ⟨_,n1,_,_,v1,f1,_,hne,_⟩:=aAW g7;obtain ⟨p1,p2,p3,_,p5⟩:=aNE (s:=s) (i:=l.i) OM
    have hmem: ∀ u∈eM (hJ l o s).1.t,u∈eM l.t\/u=gJ s:=by
      grind [rfT,pH,iA]
    have hwc:cP (gJ s) m.i=0:=by
      have q:=dO (aIA f1).1;have r:=cY h.hm;have e:gJ s=s.p++[s.a]:=by simp [gJ,bH]
      refine iS ⟨r.1,OM⟩ q.1 ?_;rw [e,<- h.hi];exact InW.snoc (oV p1) p2 p3
    have q4:(bF l.t o<|gJ s).2.1=[]:=List.length_eq_zero_iff.1 g4;have m0:=List.length_eq_zero_iff.1 g6;unfold mM at m0;rw [aIs] at m0
    have k1:(dP o<|bH [(sC l o s).ac,s.x]).isSome=true:=by
      grind
    have k2:(dP o<|bH [gJ s,s.x]).isSome=true:=by
      grind
    refine ⟨λu hu=>?_,aGo h.ap hmem λu hu=>?_⟩
    . rcases hmem u hu with e|e
      . exact h.inw u e
      . rw [e]; exact hwc
    . rcases h.sft (oY g3 q4) hu with e|e
      . cases e with
        | leaf z =>
          refine ⟨s.x,oV (by rw [<- h.hi]; exact p5),?_⟩;have e1:=iJ h.hx k1;have e2:=iJ h.hx k2;intro e3;rw [e1,e2] at hne;exact hne e3.symm
        |kid z=>grind [sC]
      . exact e
end
end
section
open Go
inductive Rt (t:Dt) (n:Int):Int->Prop where
  |refl:Rt t n n
  |step {b c:Int} (h:Rt t n b) (hb:0<=b/\b < t.nd.length) (hc:c∈(aA t.nd b.toNat).kd):Rt t n c
theorem Rt.head {t:Dt} {n a b:Int} (hn:0<=n/\n < t.nd.length) (ha:a∈(aA t.nd n.toNat).kd) (h:Rt t a b):Rt t n b:=by
  induction h with
  |refl=>exact .step .refl hn ha
  |step _ hb hc ih=>exact .step ih hb hc
section
variable {t:Dt} {P:List Int}
theorem aQe (hk:KI t) (hP:Plc t P) {n a:Int} (hn:0<=n/\n < t.nd.length) (ha:a∈(aA t.nd n.toNat).kd) {s r:Nat} (hs:s < P.length/\aA P s=n) (hr:r < P.length/\aA P r=a):s < r:=by
  obtain ⟨s',h1,h2,h3⟩:=hP.kid hs.1 (a:=a) (by rw [hs.2]; exact ha);have:=aCj hP.2.1 h2 hr.1<|h3.trans hr.2.symm
  omega
theorem aR1 (hk:KI t) (hP:Plc t P) {n b:Int} (h:Rt t n b): ∀ {s r:Nat},s < P.length/\aA P s=n->r < P.length/\aA P r=b->s<=r:=by
  induction h with
  | refl =>
    intro s r hs hr;have:=aCj hP.2.1 hs.1 hr.1<|hs.2.trans hr.2.symm
    omega
  | step _ hb hc ih =>
    intro s r hs hr;obtain ⟨q,hq,e⟩:=hP.all hk hb.1 hb.2;have h1:=ih hs ⟨hq,e⟩;have h2:=aQe hk hP hb hc ⟨hq,e⟩ hr;omega
theorem uO (hk:KI t) (hP:Plc t P) {n a:Int} (hn:0<=n/\n < t.nd.length) (ha:a∈(aA t.nd n.toNat).kd) (h:Rt t a n):False:=by
  have ra:=hk.rng _ (show n.toNat < t.nd.length by omega) a ha;obtain ⟨s,hs,e⟩:=hP.all hk hn.1 hn.2;obtain ⟨r,hr,e2⟩:=hP.all hk ra.1 ra.2;have h1:=aQe hk hP hn ha ⟨hs,e⟩ ⟨hr,e2⟩;have h2:=aR1 hk hP h ⟨hr,e2⟩ ⟨hs,e⟩;omega
theorem aBO (hk:KI t) (hP:Plc t P) {n a a' b:Int} (hn:0<=n/\n < t.nd.length) (ha:a∈(aA t.nd n.toNat).kd) (ha':a'∈(aA t.nd n.toNat).kd) (h:Rt t a b) (h':Rt t a' b):a=a':=by
  induction h with
  | refl =>
    cases h' with
    |refl=>rfl
    | step h2 hb hc =>
      have:=hP.one hk hb.1 hb.2 hn.1 hn.2 hc ha
      grind [uO]
  | step h1 hb hc ih =>
    cases h' with
    | refl =>
      have:=hP.one hk hb.1 hb.2 hn.1 hn.2 hc ha'
      grind [uO]
    | step h2 hb2 hc2 =>
      have:=hP.one hk hb.1 hb.2 hb2.1 hb2.2 hc hc2;subst this;exact ih h2
theorem aNm (hP:Plc t P) {s:Nat} (hs:s < P.length):(aA t.nd (aA P s).toNat).kd.Nodup:=by
  have key: ∀ {n:Nat} {Q:List Int},Ln t n Q->Q.Nodup-> ∀ {i:Nat},i < n->(aA t.nd (aA Q i).toNat).kd.Nodup:=by
    intro n Q hq
    induction hq <;> grind [qS,dB]
  exact key hP.1 hP.2.1 hs
end
def smB (m:M):Bool:=decide ((m.nx.length<=12/\m.ot.length<=12)/\m.i<=4)
end
section
open Go
structure An where
  k:Nat
  ord:List Nat
  late:List Nat
  ps:List (Nat×Nat×Nat×Nat)
def qkO (P:Program) (op:Opt) (n:Nat) (ops:Array Oper) (o:Oper):SO:=(pO P op n ops o).getD ⟨none,none,.bad⟩
def qkR (P : Program) (op : Opt) (n : Nat) (an : List An) (k : Nat) (ops : Array Oper) (draw : Bool) : SC :=
  match an.find? λa=>a.k==k with
  |none=>.reg (ops.toList.map (qkO P op n ops))
  | some a => if a.ord.isEmpty then (aBq P op n ops draw).getD .skip else
    let L:=a.ord.filterMap λi=>(ops[i]?).map (qkO P op n ops)
    if a.ps.isEmpty then (if a.late.isEmpty then .reg L else .dreg a.late L) else .xreg a.ps L
def qkC (P:Program) (op:Opt) (n:Nat) (an:List An):Code->SC
  | .skip=>.skip
  | .ret=>.ret
  | .exit id=>.exit id
  | .region k ops draw=>qkR P op n an k ops draw
  | .seq a b=>.seq (qkC P op n an a) (qkC P op n an b)
  | .cond c a b=>.cond ((sx c).getD (.t 0)) (qkC P op n an a) (qkC P op n an b)
  | .block id a=>.block id (qkC P op n an a)
  | .loop a=>.loop (qkC P op n an a)
  |_=>.skip
def qk (tb:Tables) (op:Opt) (an:List An) (f:Func):SF:=
  ⟨f.ntmps,f.results.toList.map λr=>(yT ⟨tb,#[]⟩ f.ntmps r).getD (.tmp 0),qkC ⟨tb,#[]⟩ op f.ntmps an (f.body.getD .skip)⟩
theorem pQ {P:Program} (tb:Tables) (op:Opt) (an:List An) {f:Nat} {fn:Func} {s:SF} {args:List V} {v:V} {B:Prop} (hf:P.funcs[f]?=some fn) (hs:lX P op fn=some (qk tb op an fn)) (e:qk tb op an fn=s)
    (hW : B -> W P 0 s.body (xN s.res λu G => fR true G 6 u = v) (T0 args) H0) (hn : (fn.name == "runtime.NumGoroutine") = false := by kernel_rfl)
    (hl:Nat.ble args.length (qk tb op an fn).n=true:=by rfl) (ha:gB args=true:=by simp) (hv:v.pure=true:=by simp)
    (hb:lI args=true->B:=by intro hB; first|(simp only [mD,lP,jO,lV,mB,pC,lT,jR,implies_true,and_true,true_and] at hB; exact hB)|exact (λ_=>trivial) hB):bJ P f args v:=
  pW hf hs (by rw [e]; exact hW) hn hl ha hv hb
theorem eQ {P:Program} (tb:Tables) (op:Opt) (an:List An) {k0 f:Nat} {fn:Func} {s:SF} {args:List V} {H:aT} {v:V} {H':aT} {B:Prop} (hf:P.funcs[f]?=some fn) (hs:lX P op fn=some (qk tb op an fn)) (e:qk tb op an fn=s)
    (hW : B -> W P k0 s.body (xN s.res λu G => tK G H' /\ fD G H' u v) (T0 args) H) (hn : (fn.name == "runtime.NumGoroutine") = false := by kernel_rfl)
    (hl:Nat.ble args.length (qk tb op an fn).n=true:=by rfl)
    (hb:lI args=true->B:=by intro hB; first|(simp only [mD,lP,jO,lV,mB,pC,lT,jR,implies_true,and_true,true_and] at hB; exact hB)|exact (λ_=>trivial) hB):fH P f args H v H':=
  eW hf hs (by rw [e]; exact hW) hn hl hb
section
variable {P:Program} {k0 k1 d:Nat} {a:SX} {r:List SO} {T:Nat->V} {H:aT} {K:(Nat->V)->aT->Prop} {Q:Ex->(Nat->V)->aT->Prop} {b c:SC} {ops:List SO}
theorem aP (h:dE P k0 r (cU T d (ev T a)) H K):dE P k0 (⟨none,some d,.mv a⟩::r) T H K:=h
theorem aE (h:K (cU T d (ev T a)) H):dE P k0 [⟨none,some d,.mv a⟩] T H K:=h
theorem aO (h:dE P k0 ops T H λT H=>W P k0 (.seq b c) Q T H):W P k0 (.seq (.seq (.reg ops) b) c) Q T H:=fM (aU h)
theorem R_r (h:dE P k0 ops T H λT H=>W P k0 b Q T H):dE P k1 [] T H λT H=>W P k0 (.seq (.reg ops) b) Q T H:=aU h
theorem zL {d:SC} (h:W P k0 (.seq b (.seq c d)) Q T H):dE P k1 [] T H λT H=>W P k0 (.seq (.seq b c) d) Q T H:=fM h
theorem R_q (h:Q .ret T H):dE P k1 [] T H λT H=>W P k0 .ret Q T H:=h
theorem aRa (h:Q .ret T H):dE P k1 [] T H λT H=>W P k0 (.seq .ret b) Q T H:=h
theorem aZ {off id ver row o ty sz d' n:Nat} {g:Bool} {rows:List (List V)} {rw:List V} {v:V} (ha:ev T a=.mp id ver row o) (hH:H id=⟨ver,true,false,ty,sz,rows⟩) (hr:rows[row]?=some rw) (hv:ldV g n (rw.drop (o+off))=some v)
    (h:dE P k0 r (cU (cU T d (.mp id ver row (o+off))) d' v) H K):dE P k0 (⟨none,some d,.fld off a⟩::⟨none,some d',.load g n (.t d)⟩::r) T H K:=
  cQ ha hH (bB (aR _ _ _) hH hr hv h)
end
end
section
open Go
theorem aM (v:V):v=v:=J
theorem cS (n:Nat):iV (n:Int)=iV (n:Int):=J
abbrev iN:Blk:=⟨0,false,false,0,0,[]⟩
abbrev jV (m:M):Blk:=bk 1 24 4 [[iV m.i,iV m.s,aC m.nx,aC m.ot]]
abbrev bNq:Blk:=bk 1 24 4 [[iV 0,iV 0,V.nilsl,V.nilsl]]
abbrev cR (n:Nat):V:=.mp n 1 0 0
theorem iI {α:Type} {f:Nat->α} {i j:Nat} {v w:α} (g:f j=w) (h:j≠i:=by decide):cU f i v j=w:=(bT _ _ h).trans g
theorem bG {α:Sort _} {a b c:α} (h:a=b) (g:b=c):a=c:=h.trans g
theorem cM {a b:Blk} (h:a=b):a.ver=b.ver:=congrArg Blk.ver h
section
variable {P:Program} {k0 d:Nat} {a b:SX} {r:List SO} {T:Nat->V} {H:aT} {K:(Nat->V)->aT->Prop}
theorem cD {m:Nat} (ha:ev T a=iV (m:Nat)) (h:dE P k0 r (cU T d (iV ((m+1:Nat):Int))) H K) (h2:m+1 < 9223372036854775808:=by omega):dE P k0 (⟨none,some d,.bin .add a (.c (.int .i64 1))⟩::r) T H K:=wU ha J h2 h
theorem dL {α:Type} [Inhabited α] {e:Nat} {l:List α} {f:α->List V} {k:IntKind} {i:Nat} (ha:ev T a=.sl (l.map f)) (hb:ev T b=.int k (i:Nat))
    (h:dE P k0 r (cU T d (.pp (f<|aA l i))) H K) (hi:i < l.length:=by omega) (he:(f<|aA l i).length=e:=by rfl):dE P k0 (⟨none,some d,.idx e a b⟩::r) T H K:=aNN ha hb hi he h
theorem gF {α:Type} {ty e bytes id ver n:Nat} {lz:Bool} {l:List α} {f:α->List V} {x:α} (ha:ev T a=.ms id ver 0 n) (hH:H id=⟨ver,true,lz,ty,e,l.map f⟩) (hn:n=l.length) (hb:ev T b=.sl [f x])
    (h:dE P k0 r (cU T d (.ms id (ver+1) 0 (n+1))) (cU H id ⟨ver+1,true,lz,ty,e,(l++[x]).map f⟩) K)
    (he:(f x).length=e:=by rfl) (h1:(f x).all V.one=true:=by rfl) (h2:(n+1)*bytes<=140737488355328:=by omega) (h3:n+1<=9223372036854775807:=by omega):dE P k0 (⟨none,some d,.append ty e bytes a b⟩::r) T H K:=
  aKR ha hH hn hb he h1 h2 h3 h
end
end
section
open Go Go.Proofs
def emQ:List Nat:=[101,102,103,111,112,126,130,155,156,157,158,159,163,165,188,193,197,201]
theorem pK (own:List Nat) (an:List An) {f:Nat} {fn:Func} {s:SF} {args:List V} {v:V} {B:Prop} (hf:Tryz.prog.funcs[f]?=some fn) (e:qk Tryz.progTables ⟨emQ,own,[],[]⟩ an fn=s)
    (hW : B -> W Tryz.prog 0 s.body (xN s.res λu G => fR true G 6 u = v) (T0 args) H0) (hs : lX Tryz.prog ⟨emQ, own, [], []⟩ fn = some (qk Tryz.progTables ⟨emQ, own, [], []⟩ an fn) := by kernel_rfl) (hn : (fn.name == "runtime.NumGoroutine") = false := by kernel_rfl)
    (hl:Nat.ble args.length (qk Tryz.progTables ⟨emQ,own,[],[]⟩ an fn).n=true:=by rfl) (ha:gB args=true:=by simp) (hv:v.pure=true:=by simp)
    (hb:lI args=true->B:=by intro hB; first|(simp only [mD,lP,jO,lV,mB,pC,lT,jR,implies_true,and_true,true_and] at hB; exact hB)|exact (λ_=>trivial) hB):bJ Tryz.prog f args v:=
  pQ Tryz.progTables ⟨emQ,own,[],[]⟩ an hf hs e hW hn hl ha hv hb
theorem eK (own:List Nat) (an:List An) {k0 f:Nat} {fn:Func} {s:SF} {args:List V} {H:aT} {v:V} {H':aT} {B:Prop} (hf:Tryz.prog.funcs[f]?=some fn) (e:qk Tryz.progTables ⟨emQ,own,[],[]⟩ an fn=s)
    (hW : B -> W Tryz.prog k0 s.body (xN s.res λu G => tK G H' /\ fD G H' u v) (T0 args) H) (hs : lX Tryz.prog ⟨emQ, own, [], []⟩ fn = some (qk Tryz.progTables ⟨emQ, own, [], []⟩ an fn) := by kernel_rfl) (hn : (fn.name == "runtime.NumGoroutine") = false := by kernel_rfl)
    (hl:Nat.ble args.length (qk Tryz.progTables ⟨emQ,own,[],[]⟩ an fn).n=true:=by rfl)
    (hb:lI args=true->B:=by intro hB; first|(simp only [mD,lP,jO,lV,mB,pC,lT,jR,implies_true,and_true,true_and] at hB; exact hB)|exact (λ_=>trivial) hB):fH Tryz.prog f args H v H':=
  eQ Tryz.progTables ⟨emQ,own,[],[]⟩ an hf hs e hW hn hl hb
theorem aD2 (m:M):bJ Tryz.prog 5 [(V.agg [(iV m.i),(iV m.s),(aC m.nx),(aC m.ot)])] (V.bool (smB m)):=by
 refine' pK [] [] Tryz.func5 ?e λhB=>?_
 case e=>conv=>lhs; cbv
 dsimp only;refine aU<|cJ (i:=1) (n:=0) (m:=4) (cs:=[(iV m.i),(iV m.s),(aC m.nx),(aC m.ot)]) J (cM J) J J J<|aE<|aU<|aZ J J J J<|bA J<|aC4 J J<|aP ?_
 refine bN 5 (λT H=>T 1=(cR 1)/\T 12=(V.bool<|decide ((((m.nx.length:Nat):Int)<=(12:Int))/\(((m.ot.length:Nat):Int)<=(12:Int))))/\H 1=(jV m)/\True) ?_ ?_
 . 
  by_cases g1:((m.nx.length:Nat):Int)<=(12:Int)
  . 
   refine aK (bU g1 J)<|cQ J J<|aK (bU g1 J)<|bB J J J J<|aK (bU g1 J)<|bA J<|aK (bU g1 J)<|aC4 J J<|bP (bU g1 J) J ?_
   exact ⟨J,(eY g1),J,trivial⟩
  . 
   refine bQ (bV g1 J)<|bQ (bV g1 J)<|bQ (bV g1 J)<|bQ (bV g1 J)<|bO (bV g1 J) J ?_
   exact ⟨J,(eX g1),J,trivial⟩
 intro T H ⟨t1,t12,h1,_⟩;refine aI t12 ?_;refine bN 4 (λT H=>T 17=(V.bool<|decide (((((m.nx.length:Nat):Int)<=(12:Int))/\(((m.ot.length:Nat):Int)<=(12:Int)))/\(m.i<=(4:Int))))/\H 1=(jV m)/\True) ?_ ?_
 . 
  by_cases g2:(((m.nx.length:Nat):Int)<=(12:Int))/\(((m.ot.length:Nat):Int)<=(12:Int))
  . 
   refine aK (bU g2 J)<|cQ t1 h1<|aK (bU g2 J)<|bB J h1 J J<|aK (bU g2 J)<|aC4 J J<|bP (bU g2 J) J ?_
   exact ⟨(eY g2),h1,trivial⟩
  . 
   refine bQ (bV g2 J)<|bQ (bV g2 J)<|bQ (bV g2 J)<|bO (bV g2 J) J ?_
   exact ⟨(eX g2),h1,trivial⟩
 intro T H ⟨t17,h1,_⟩;refine aI t17<|R_q ?_
 refine aW (aM<|V.bool<|decide (((((m.nx.length:Nat):Int)<=(12:Int))/\(((m.ot.length:Nat):Int)<=(12:Int)))/\(m.i<=(4:Int))))<|cK ?_
 . unfold smB; exact decide_eq_decide.2 OM
theorem aKn:bJ Tryz.prog 46 [] (V.agg [(V.sl (List.map cN ([rY []])))]):=by
 refine' pK [] [] Tryz.func46 ?e λhB=>?_
 case e=>conv=>lhs; cbv
 dsimp only;refine aU<|bX (i:=0) (n:=0) (m:=1) J (cM J) J<|R_r<|bZ J J<|aY J J<|bZ J J<|dA J J J J J J J J J<|R_q ?_
 refine aK9 (cH (u:=(V.agg [(V.sl [[(V.bool true),V.nilsl,V.nilsl,V.nilsl,V.nilsl]])])) J (@J Blk<|bk 1 47 1 [[(V.sl [[(V.bool true),V.nilsl,V.nilsl,V.nilsl,V.nilsl]])]])<|lB oB J J)<|kM ?_
 . simp [fR,rY]
theorem aDx (n:Int):bJ Tryz.prog 19 [(iV n)] (V.tup [(V.agg [(iV ((pN n).i)),(V.sl (List.map cN ((pN n).t.nd)))]),(iV (nwE n))]):=by
 refine' pK [] [] Tryz.func19 ?e λhB=>?_
 case e=>conv=>lhs; cbv
 dsimp only;refine aU<|bX (i:=2) (n:=0) (m:=2) J (cM J) J<|aE<|aO<|aP<|bY J J<|aP ?_
 refine bN 3 (λT H=>T 0=(iV n)/\T 2=(cR 2)/\T 9=(V.bool<|decide ((n < (1:Int))\/((64:Int) < n)))/\H 2=(bk 1 49 2 [[(iV 0),V.nilsl]])/\True) ?_ ?_
 . 
  by_cases g1:n < (1:Int)
  . 
   refine bQ (bU g1 J)<|bQ (bU g1 J)<|bP (bU g1 J) J ?_
   exact ⟨J,J,(fB g1),J,trivial⟩
  . 
   refine aK (bV g1 J)<|aP<|aK (bV g1 J)<|fZ J J<|bO (bV g1 J) J ?_
   exact ⟨J,J,(fC g1),J,trivial⟩
 intro T H ⟨t0,t2,t9,h2,_⟩;refine cE ?_;refine aG t9 (λc2=>?_) λc2=>?_
 . 
  refine aO<|bZ J J<|dA t2 J J h2 J J J J J<|aE<|aN ?_
  refine fF (cH (u:=(V.agg [(iV 0),V.nilsl])) t2 (@J Blk<|bk 1 49 2 [[(iV 0),V.nilsl]])<|lB oB J J) (bM<|aM<|iV 2) (eU (aH ?_)<|cC ?_)<|aH ?_
  . unfold pN; rw [if_pos OM]
  . unfold pN; rw [if_pos OM]
  . unfold nwE; rw [if_pos OM]
 refine aB<|aU<|aI t0<|aL aKn J<|bZ J J<|dA t2 J J h2 J J J J J<|aE<|bE ?_
 refine fF (cH (u:=(V.agg [(iV n),(V.sl<|List.map cN<|[rY []])])) t2 (@J Blk<|bk 1 49 2 [[(iV n),(V.sl<|List.map cN<|[rY []])]])<|lB oB J J) (bM<|aM<|iV 0) (eU (aH ?_)<|dM ?_ (λ_=>by simp))<|aH ?_
 . unfold pN; rw [if_neg OM]
 . unfold pN; rw [if_neg OM]
 . unfold nwE; rw [if_neg OM]
theorem aCS (n:Int):bJ Tryz.prog 200 [(iV n)] (V.bool false):=by
 refine' pK [] [] Tryz.func200 ?e λhB=>?_
 case e=>conv=>lhs; cbv
 dsimp only;refine aU<|aE<|aU<|aP<|aP<|cA J J<|aE<|bE ?_
 refine aW (aM<|V.bool<|decide (n≠n))<|cK ?_
 . simp
theorem aAO (x y:Int):bJ Tryz.prog 182 [(iV x),(iV y)] (iV (aAi x y)):=by
 refine' pK [] [] Tryz.func182 ?e λhB=>?_
 case e=>conv=>lhs; cbv
 dsimp only;refine aU<|aE<|aU<|aP<|aL (aCS x) J<|aE<|aU<|aP<|aL (aCS y) J<|aE<|aO<|aP ?_
 refine cE ?_;refine dW J (λc1=>?_) (λc1=>?_)
 . cases c1
 refine aB<|aO<|aE ?_
 refine dW J (λc2=>?_) (λc2=>?_)
 . cases c2
 refine aB<|aO<|aP<|aP<|bY J J<|cE ?_
 refine aG J (λc3=>?_) λc3=>?_
 . 
  refine aO<|aE<|aN ?_
  refine aW (aM<|iV (-1))<|aH ?_
  . unfold aAi; repeat (split <;> first|rfl|omega|skip)
 refine aB<|aO<|aP<|aP<|fZ J J<|cE ?_
 refine aG J (λc4=>?_) λc4=>?_
 . 
  refine aO<|aE<|aN ?_
  refine aW (aM<|iV 1)<|aH ?_
  . unfold aAi; repeat (split <;> first|rfl|omega|skip)
 refine aB<|aU<|aE<|bE ?_
 refine aW (aM<|iV 0)<|aH ?_
 . unfold aAi; repeat (split <;> first|rfl|omega|skip)
theorem wB (a b:List Int):bJ Tryz.prog 161 [(aD a),(aD b)] (iV (cX a b)):=by
 refine' pK [] [] Tryz.func161 ?e λhB=>?_
 case e=>conv=>lhs; cbv
 dsimp only;refine aU<|aE<|aO<|aP<|bA J<|aE (aF λQ1 n1 x1 y1 z1=>?_)
 refine cF (λmm T H=> ∃ (k:Nat),mm=a.length - k/\T 0=(aD a)/\T 1=(aD b)/\T 9=(aD a)/\T 10=(iV ((a.length:Nat):Int))/\T 11=(iV ((k:Nat):Int))/\(k<=a.length)/\(k<=gC a b)) ?_ ?_
 . 
  refine ⟨_,0,J,J,J,J,J,(bG (aM<|iV 0) J),?_,?_⟩
  . omega
  . exact Nat.zero_le _
 intro mm T H ⟨k,hmm,t0,t1,t9,t10,t11,hk,hc⟩ Q2 p12 p22 p32;refine aU<|bY t11 t10<|cE ?_
 refine aG J (λc3=>?_) λc3=>?_
 . 
  refine aB (aF λQ4 n4 x4 y4 z4=>(aU<|aI t11<|dL (i:=k) t9 t11<|aJ J J<|aP<|aE<|aO<|aP<|aI t1<|bA J<|jB J J<|cE ?_));refine aG J (λc5=>?_) λc5=>?_
  . 
   refine aO<|aE<|aN<|y4 _ _<|p22 _ _<|y1 _ _ ?_
   refine aW (aM<|iV 1)<|aH ?_
   . have g1:=kJ a b
     have g2:=mJ a b;have g3:=tO hc OM;simp only [cX,aAi,g3] at*; repeat (split <;> first|rfl|omega|skip)
  refine aB<|aU<|aI t1<|aP<|dL (i:=k) (aM<|aD b) (cS k)<|aJ J J<|aE<|aU<|aP<|aP<|aL (aAO (aA a k)<|aA b k) J<|aE<|aU<|aP ?_
  refine cA J J<|cE ?_
  refine gE J (λc6=>?_) λc6=>?_
  . 
   have c9:aA a k≠aA b k:=λe=>c6<|aDP.2 e
   refine aU<|aP<|aE<|bE<|y4 _ _<|p22 _ _<|y1 _ _ ?_
   refine aW (aM<|iV<|aAi (aA a k)<|aA b k)<|aH ?_
   . have g1:=kJ a b
     have g2:=mJ a b;have g3:=tO hc OM;simp only [cX,aAi,g3] at*; repeat (split <;> first|rfl|omega|skip)
  refine dH<|n4 _ _ (.done (fO<|cD t11<|aE ?_))
  refine p12 _ _ _ ?_ ⟨(k+1),J,t0,t1,t9,t10,(bG (cS<|k+1) JR),?_,?_⟩
  . omega
  . omega
  . exact yE hc OM OM<|aDP.1 OM
 refine aS<|p32 _ _ _<|x1 _ _ (.done (aO<|aI t0<|bA J<|aI t1<|bA J<|bY J J<|cE ?_))
 refine aG J (λc7=>?_) λc7=>?_
 . 
  refine aO<|aE<|aN ?_
  refine aW (aM<|iV (-1))<|aH ?_
  . have g1:=kJ a b
    have g2:=mJ a b;have g3:=tO hc OM;simp only [cX,aAi,g3] at*; repeat (split <;> first|rfl|omega|skip)
 refine aB<|aU<|aE<|bE ?_
 refine aW (aM<|iV 0)<|aH ?_
 . have g1:=kJ a b
   have g2:=mJ a b;have g3:=tO hc OM;simp only [cX,aAi,g3] at*; repeat (split <;> first|rfl|omega|skip)
theorem rP (a b:List Int):bJ Tryz.prog 108 [(aD a),(aD b)] (iV (cX a b)):=by
 refine' pK [] [] Tryz.func108 ?e λhB=>?_
 case e=>conv=>lhs; cbv
 dsimp only;refine aU<|aE<|aU<|aP<|aP<|aL (wB a b) J<|aE<|bE ?_
 refine aW (aM<|iV<|cX a b)<|eA SI J
theorem aHw (l:List Int) (hl:l.length < 4294967296):bJ Tryz.prog 181 [(aD l)] (iV (orI l)):=by
 refine' pK [] [] Tryz.func181 ?e λhB=>?_
 case e=>conv=>lhs; cbv
 dsimp only;refine aU<|aE<|aU<|aE<|aO<|aP<|bA J<|aE (aF λQ1 n1 x1 y1 z1=>?_)
 refine cF (λmm T H=> ∃ (k:Nat),mm=l.length - k/\T 3=(iV 0)/\T 6=(aD l)/\T 7=(iV ((l.length:Nat):Int))/\T 8=(iV ((k:Nat):Int))/\(k<=l.length)/\(orI l=orI (l.drop k))) ?_ ?_
 . 
  refine ⟨_,0,J,J,J,J,(bG (aM<|iV 0) J),?_,?_⟩
  . omega
  . rfl
 intro mm T H ⟨k,hmm,t3,t6,t7,t8,hk,hc⟩ Q2 p12 p22 p32;refine aU<|bY t8 t7<|cE ?_
 refine aG J (λc3=>?_) λc3=>?_
 . 
  refine aB (aF λQ4 n4 x4 y4 z4=>(aU<|dL (i:=k) t6 t8<|aJ J J<|aE<|aU<|aP<|aI t3<|cA J J<|cE ?_));refine gE J (λc5=>?_) λc5=>?_
  . 
   refine aU<|aP<|aE<|bE<|y4 _ _<|p22 _ _<|y1 _ _ ?_
   refine aW (aM<|iV<|aA l k)<|aH ?_
   . rw [hc,aGK OM,if_neg OM]
  refine dH<|n4 _ _ (.done (fO<|cD t8<|aE ?_))
  refine p12 _ _ _ ?_ ⟨(k+1),J,t3,t6,t7,(bG (cS<|k+1) JR),?_,?_⟩
  . omega
  . omega
  . rw [hc,aGK OM,if_pos OM]
 refine aS<|p32 _ _ _<|x1 _ _ (.done (aU<|aI t3<|aE<|bE ?_))
 refine aW (aM<|iV 0)<|aH ?_
 . rw [hc,List.drop_of_length_le OM]; rfl
theorem sN (a b:List Int):bJ Tryz.prog 143 [(aD a),(aD b)] (iV (fV a b)):=by
 refine' pK [] [] Tryz.func143 ?e λhB=>?_
 case e=>conv=>lhs; cbv
 dsimp only;refine aU<|aE<|aU<|aP<|bA J<|aP<|bA J<|aL (aAO ((a.length:Nat):Int) ((b.length:Nat):Int)) J<|aP<|aP<|aL (wB a b) J<|aY J J<|aL (aHw ([(aAi ((a.length:Nat):Int) ((b.length:Nat):Int)),(cX a b)]) SI) J<|aE ?_
 refine bE ?_;refine aW (aM<|iV<|orI<|[(aAi ((a.length:Nat):Int) ((b.length:Nat):Int)),(cX a b)])<|aH ?_
 . simp only [orI,aAi,fV]; repeat (split <;> first|rfl|omega|skip)
theorem kQ (l:List Int) (hl:l.length<=4294967296):bJ Tryz.prog 147 [(aD l)] (aD l):=by
 refine' pK [2,5] [] Tryz.func147 ?e λhB=>?_
 case e=>conv=>lhs; cbv
 dsimp only;refine aU<|iD (i:=2) (n:=0) J (cM J)<|zL (rQ λK hK=>(aP ?_))
 refine wM (aM<|aD l) (λe1=>?_) ?_
 . 
  replace e1:=List.map_eq_nil_iff.1 e1;refine gD<|hK _ _ ?_; clear hK K
  refine fL (R:=λT H=>T 0=(aD l)/\T 4=(V.bool true)/\H 2=(bz 1 3 1 [])/\H 5=iN/\True) ⟨J,J,J,J,trivial⟩ ?_;intro T H ⟨t0,t4,h2,h5,_⟩;refine dW t4 (λc4=>?_) (λc4=>?_)
  . 
   refine aO<|iD (i:=2) (n:=1) J (cM h2)<|aRa ?_
   refine aW (aM<|V.ms 2 2 0 0)<|mI (@J Blk<|bz 2 3 1 []) JR (l:=[]) J JR (λ_=>by simp) ?_
   . exact e1.symm
  . cases c4
 . 
  refine gD<|hK _ _ ?_; clear hK K
  refine fL (R:=λT H=>T 0=(aD l)/\T 4=(V.bool false)/\H 2=(bz 1 3 1 [])/\H 5=iN/\True) ⟨J,J,J,J,trivial⟩ ?_;intro T H ⟨t0,t4,h2,h5,_⟩;refine dW t4 (λc7=>?_) (λc7=>?_)
  . cases c7
  refine aB<|aU<|iD (i:=5) (n:=0) J (cM h5)<|aI t0<|sA (l:=([])) (m:=l) (f:=cI) (aM<|V.ms 5 1 0 0) (show _=(bz 1 3 1<|List.map cI<|[]) from (@J Blk<|bz 1 3 1 [])) JR (aM<|aD l) (λ_=>J) (λ_=>J) OM OM<|aE<|bE ?_
  refine aW (aM<|V.ms 5 2 0<|0+l.length)<|mI (@J Blk<|bz 2 3 1<|List.map cI<|[]++l) JR (l:=([]++l)) J SI (λ_=>by simp) ?_
  . rfl
theorem aFk (i:Nat) (h5:5<=i) (l:List Int) (u:Nat) (Hi:aT) (hq:(Hi i).ver=u) (hl:l.length<=4294967296):fH Tryz.prog 147 [(aD l)] Hi (V.ms i (u+3) 0 l.length) (cU Hi i (bz (u+3) 3 1 (List.map cI l))):=by
 refine' eK [2,5] [] (k0:=i - 2) Tryz.func147 ?e λhB=>?_
 case e=>conv=>lhs; cbv
 dsimp only;refine aU<|iD (i:=i) (n:=u) OM hq<|zL (rQ λK hK=>(aP ?_))
 refine wM (aM<|aD l) (λe1=>?_) ?_
 . 
  replace e1:=List.map_eq_nil_iff.1 e1;refine gD<|hK _ _ ?_; clear hK K
  refine fL (R:=λT H=>T 0=(aD l)/\T 4=(V.bool true)/\(∀ j,j∉[i]->H j=Hi j)/\H i=(bz (u+1) 3 1 [])/\True) ⟨J,J,(bD (λ_ _=>J) SI),(aR _ _ _),trivial⟩ ?_;intro T H ⟨t0,t4,hF,hi,_⟩;refine dW t4 (λc4=>?_) (λc4=>?_)
  . 
   refine aO<|iD (i:=i) (n:=(u+1)) OM (cM hi)<|aRa<|fL (R:=λT H=>T 2=(V.ms i (u+2) 0 0)/\(∀ j,j∉[i]->H j=Hi j)/\H i=(bz (u+2) 3 1 [])/\True) ⟨(aM<|V.ms i (u+2) 0 0),(bD hF SI),(aR _ _ _),trivial⟩ ?_
   intro T H ⟨t2,hF,hi,_⟩;skip;have fh:=dK.fin<|dK.put (B:=(bz (u+3) 3 1<|List.map cI l)) (dK.start hF) hi<|jN.up OM (by (rw [e1]; rfl))
   exact lU t2 fh<|fD.trans_eq (fD.ms (n:=(u+3)) fh (by simp [hi]) (by simp [hi]) SI SI) (by (rw [e1]; rfl))
  . cases c4
 . 
  refine gD<|hK _ _ ?_; clear hK K
  refine fL (R:=λT H=>T 0=(aD l)/\T 4=(V.bool false)/\(∀ j,j∉[i]->H j=Hi j)/\H i=(bz (u+1) 3 1 [])/\True) ⟨J,J,(bD (λ_ _=>J) SI),(aR _ _ _),trivial⟩ ?_;intro T H ⟨t0,t4,hF,hi,_⟩;refine dW t4 (λc7=>?_) (λc7=>?_)
  . cases c7
  refine aB<|aQ8 (i - 5)<|iD (i:=i) (n:=(u+1)) OM (cM hi)<|aI t0<|sA (l:=([])) (m:=l) (f:=cI) (aM<|V.ms i (u+2) 0 0) (show _=(bz (u+2) 3 1<|List.map cI<|[]) from (aR _ _ _)) JR (aM<|aD l) (λ_=>J) (λ_=>J) OM OM<|aE<|bE<|fL (R:=λT H=>T 2=(V.ms i (u+3) 0<|0+l.length)/\(∀ j,j∉[i]->H j=Hi j)/\H i=(bz (u+3) 3 1<|List.map cI<|[]++l)/\True) ⟨(aM<|V.ms i (u+3) 0<|0+l.length),(bD (bD hF SI) SI),(aR _ _ _),trivial⟩ ?_
  intro T H ⟨t2,hF,hi,_⟩;skip;have fh:=dK.fin<|dK.put (B:=(bz (u+3) 3 1<|List.map cI l)) (dK.start hF) hi<|jN.eq JR
  exact lU t2 fh<|fD.trans_eq (fD.same fh _) SI
theorem aFv (l:List (List Int)) (v2:Nat) (Hi:aT) (h202:(Hi 202).ver=v2) (hl:l.length<=1073741824):fH Tryz.prog 157 [(aC l)] Hi (V.ms 202 (v2+3) 0 l.length) (cU Hi 202 (bz (v2+3) 54 1 (List.map cL l))):=by
 refine' eK [2,5] [] (k0:=200) Tryz.func157 ?e λhB=>?_
 case e=>conv=>lhs; cbv
 dsimp only;refine aU<|iD (i:=202) (n:=v2) JR h202<|zL (rQ λK hK=>(aP ?_))
 refine wM (aM<|aC l) (λe1=>?_) ?_
 . 
  replace e1:=List.map_eq_nil_iff.1 e1;refine gD<|hK _ _ ?_; clear hK K
  refine fL (R:=λT H=>T 0=(aC l)/\T 4=(V.bool true)/\(∀ j,j∉[202]->H j=Hi j)/\H 202=(bz (v2+1) 54 1 [])/\True) ⟨J,J,(bD (λ_ _=>J) DE),J,trivial⟩ ?_;intro T H ⟨t0,t4,hF,h202,_⟩;refine dW t4 (λc4=>?_) (λc4=>?_)
  . 
   refine aO<|iD (i:=202) (n:=(v2+1)) JR (cM h202)<|aRa<|fL (R:=λT H=>T 2=(V.ms 202 (v2+2) 0 0)/\(∀ j,j∉[202]->H j=Hi j)/\H 202=(bz (v2+2) 54 1 [])/\True) ⟨(aM<|V.ms 202 (v2+2) 0 0),(bD hF DE),J,trivial⟩ ?_
   intro T H ⟨t2,hF,h202,_⟩;have fh:=dK.fin<|dK.put (B:=(bz (v2+3) 54 1<|List.map cL l)) (dK.start hF) h202<|jN.up OM (by (rw [e1]; rfl))
   exact lU t2 fh<|fD.trans_eq (fD.ms (n:=(v2+3)) fh (by simp [h202]) (by simp [h202]) J J) (by (rw [e1]; rfl))
  . cases c4
 . 
  refine gD<|hK _ _ ?_; clear hK K
  refine fL (R:=λT H=>T 0=(aC l)/\T 4=(V.bool false)/\(∀ j,j∉[202]->H j=Hi j)/\H 202=(bz (v2+1) 54 1 [])/\True) ⟨J,J,(bD (λ_ _=>J) DE),J,trivial⟩ ?_;intro T H ⟨t0,t4,hF,h202,_⟩;refine dW t4 (λc7=>?_) (λc7=>?_)
  . cases c7
  refine aB<|aQ8 197<|iD (i:=202) (n:=(v2+1)) JR (cM h202)<|aI t0<|sA (l:=([])) (m:=l) (f:=cL) (aM<|V.ms 202 (v2+2) 0 0) (show _=(bz (v2+2) 54 1<|List.map cL<|[]) from (@J Blk<|bz (v2+2) 54 1 [])) JR (aM<|aC l) (λ_=>J) (λ_=>J) OM OM<|aE<|bE<|fL (R:=λT H=>T 2=(V.ms 202 (v2+3) 0<|0+l.length)/\(∀ j,j∉[202]->H j=Hi j)/\H 202=(bz (v2+3) 54 1<|List.map cL<|[]++l)/\True) ⟨(aM<|V.ms 202 (v2+3) 0<|0+l.length),(bD (bD hF DE) DE),J,trivial⟩ ?_
  intro T H ⟨t2,hF,h202,_⟩;have fh:=dK.fin<|dK.put (B:=(bz (v2+3) 54 1<|List.map cL l)) (dK.start hF) h202<|jN.eq JR
  exact lU t2 fh<|fD.trans_eq (fD.same fh _) SI
theorem aDD (a b:List Int):bJ Tryz.prog 160 [(aD a),(aD b),(V.pp [(V.fn 143 [] [])])] (V.bool (decide (fV a b=0))):=by
 refine' pK [] [] Tryz.func160 ?e λhB=>?_
 case e=>conv=>lhs; cbv
 dsimp only;refine aU<|aE<|aU<|aJ J J<|aP<|aP<|iP (aM<|V.fn 143 [] []) (bI (aM<|aD a)<|bI (aM<|aD b) dR) (sN a b) (eD _ _ (by simp [-List.map_take,-List.map_drop,-List.map_append,-List.map_reverse])) (by simp [-List.map_take,-List.map_drop,-List.map_append,-List.map_reverse]) (Or.inl (by simp [-List.map_take,-List.map_drop,-List.map_append,-List.map_reverse]))<|fP J J<|aE<|bE ?_
 refine aW (aM<|V.bool<|decide ((fV a b)=(0:Int)))<|cK ?_
 . rfl
theorem aCP (a b:List Int):bJ Tryz.prog 160 [(aD a),(aD b),(V.pp [(V.fn 108 [] [])])] (V.bool (decide (cX a b=0))):=by
 refine' pK [] [] Tryz.func160 ?e λhB=>?_
 case e=>conv=>lhs; cbv
 dsimp only;refine aU<|aE<|aU<|aJ J J<|aP<|aP<|iP (aM<|V.fn 108 [] []) (bI (aM<|aD a)<|bI (aM<|aD b) dR) (rP a b) (eD _ _ (by simp [-List.map_take,-List.map_drop,-List.map_append,-List.map_reverse])) (by simp [-List.map_take,-List.map_drop,-List.map_append,-List.map_reverse]) (Or.inl (by simp [-List.map_take,-List.map_drop,-List.map_append,-List.map_reverse]))<|fP J J<|aE<|bE ?_
 refine aW (aM<|V.bool<|decide ((cX a b)=(0:Int)))<|cK ?_
 . rfl
end
end Go.Proofs.YtinpihlhcmpkhaaGreat
