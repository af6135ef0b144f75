/- Contracts of the functions that the law R reaches, and the law itself, for every input; no condition. -/
import Derived.KernelRfl
import Derived.Sort.Statements
import Derived.Test.YtinpihlhcmpkhaaGreatProg
import Derived.Test.YtinpihlhcmpkhaaGreatLay3
set_option linter.unusedSimpArgs false
set_option linter.unusedVariables false
set_option maxRecDepth 20000
set_option maxHeartbeats 1000000
namespace Go.Proofs.YtinpihlhcmpkhaaGreat
section
open Go
def fe (e:Nat->Int) (k:Nat):Nat->Int
  |0=>0
  |n+1=>if e k=0 then fe e (k+1) n else e k
theorem fV {e:Nat->Int} {k N:Nat} (h:e k≠0) (hk:k < N):fe e k (N - k)=e k:=by
  obtain ⟨n,hn⟩: ∃ n,N - k=n+1:=⟨N - k - 1,OM⟩;rw [hn]; simp [fe,h]
theorem fW {e:Nat->Int} {k N:Nat} (h:e k=0) (hk:k < N):fe e k (N - k)=fe e (k+1) (N - (k+1)):=by
  obtain ⟨n,hn⟩: ∃ n,N - k=n+1:=⟨N - k - 1,OM⟩
  grind [fe]
theorem iM {e:Nat->Int} {k N:Nat} (hk:N<=k):fe e k (N - k)=0:=by rw [show N - k=0 by omega]; rfl
theorem eG {e:Nat->Int}: ∀ {n k:Nat},fe e k n=0↔ ∀ j,k<=j->j < k+n->e j=0:=by
  intro n
  induction n <;> grind [fe]
def fi (p:Nat->Bool) (k:Nat):Nat->Int
  |0=> -1
  |n+1=>if p k then k else fi p (k+1) n
theorem mI {p:Nat->Bool} {k N:Nat} (h:p k=true) (hk:k < N):fi p k (N - k)=k:=by
  obtain ⟨n,hn⟩: ∃ n,N - k=n+1:=⟨N - k - 1,OM⟩;rw [hn]; simp [fi,h]
theorem kL {p:Nat->Bool} {k N:Nat} (h:p k=false) (hk:k < N):fi p k (N - k)=fi p (k+1) (N - (k+1)):=by
  obtain ⟨n,hn⟩: ∃ n,N - k=n+1:=⟨N - k - 1,OM⟩
  grind [fi]
theorem kD {p:Nat->Bool} {k N:Nat} (hk:N<=k):fi p k (N - k)= -1:=by rw [show N - k=0 by omega]; rfl
theorem aOf (p:Nat->Bool) (c:Int) (hc:c≠0): ∀ n k,decide (0<=fi p k n)=decide (fe (λj=>if p j then c else 0) k n=c)/\(fe (λj=>if p j then c else 0) k n=0\/fe (λj=>if p j then c else 0) k n=c):=by
  intro n
  induction n <;> grind [fi,fe]
theorem cV {α:Type} [Inhabited α] {l:List α} {k:Nat} (h:k < l.length):l.take (k+1)=l.take k++[aA l k]:=by grind [cP,List.take_succ_eq_append_getElem]
def wE (w:List Int) (n:Int) (k:Nat):Int:=if aA w k < 0\/n<=aA w k then 1 else 0
def dG (w:List Int) (n:Int):Int:=
  if n < 1\/1024 < n then 2 else if 1024 < w.length then 3 else fe (wE w n) 0 w.length
structure M where
  i:Int
  s:Int
  nx:List (List Int)
  ot:List (List Int)
abbrev mC (m:M):List V:=[iV m.i,iV m.s,aC m.nx,aC m.ot]
def cell (l:List (List Int)) (s a:Int):Int:=aA (aA l s.toNat) a.toNat
def aCw (m:M) (s a:Nat):Int:=if aA (aA m.nx s) a < 0\/m.nx.length<=aA (aA m.nx s) a\/aA (aA m.ot s) a < 0\/1048576 < aA (aA m.ot s) a then 2 else 0
def xV (m:M) (s:Nat):Int:=
  if ((aA m.nx s).length:Int)≠m.i\/((aA m.ot s).length:Int)≠m.i then 1
  else fe (aCw m s) 0 m.i.toNat
def eO (m:M):Int:=
  if m.i < 1\/64 < m.i then 2 else if m.nx.length=0 then 19 else if 128 < m.nx.length then 11 else if m.s < 0\/m.nx.length<=m.s then 2
  else if m.ot.length≠m.nx.length then 1 else fe (xV m) 0 m.nx.length
def aQ (m:M):Int->List Int->List Int
  |_,[]=>[]
  |s,a::w=>cell m.ot s a::aQ m (cell m.nx s a) w
def gR (m:M):Int->List Int->Int
  |s,[]=>s
  |s,a::w=>gR m (cell m.nx s a) w
theorem nY (m:M): ∀ (w:List Int) (s:Int),(aQ m s w).length=w.length
  |[],_=>rfl
  |a::w,s=>by simp [aQ,nY m w]
theorem nW (m:M): ∀ (u v:List Int) (s:Int),aQ m s (u++v)=aQ m s u++aQ m (gR m s u) v
  |[],_,_=>rfl
  |a::u,v,s=>by simp [aQ,gR,nW m u v]
theorem qK (m:M): ∀ (u v:List Int) (s:Int),gR m s (u++v)=gR m (gR m s u) v
  |[],_,_=>rfl
  |a::u,v,s=>by simp [gR,qK m u v]
theorem aAo (m:M) (s:Int) {w:List Int} {k:Nat} (h:k < w.length):aQ m s (w.take (k+1))=aQ m s (w.take k)++[cell m.ot (gR m s (w.take k)) (aA w k)]:=by rw [cV h,nW]; rfl
theorem aAh (m:M) (s:Int) {w:List Int} {k:Nat} (h:k < w.length):gR m s (w.take (k+1))=cell m.nx (gR m s (w.take k)) (aA w k):=by rw [cV h,qK]; rfl
theorem gW {m:M} (h:eO m=0):1<=m.i/\m.i<=64/\0 < m.nx.length/\m.nx.length<=128/\0<=m.s/\m.s < m.nx.length/\m.ot.length=m.nx.length/\
    (∀ s,s < m.nx.length->((aA m.nx s).length:Int)=m.i/\((aA m.ot s).length:Int)=m.i/\ ∀ a:Nat,a < m.i->0<=aA (aA m.nx s) a/\aA (aA m.nx s) a < m.nx.length/\0<=aA (aA m.ot s) a/\aA (aA m.ot s) a<=1048576):=by
  unfold eO at h;split at h; · cases h
  rename_i h1;split at h; · cases h
  rename_i h2;split at h; · cases h
  rename_i h3;split at h; · cases h
  rename_i h4;split at h; · cases h
  rename_i h5;refine ⟨OM,OM,OM,OM,OM,OM,OM,λs hs=>?_⟩;have h6:=eG.1 h s (Nat.zero_le _) OM;unfold xV at h6;split at h6; · cases h6
  simp_all [eG,aCw]
theorem eL {w:List Int} {n:Int} (h:dG w n=0):w.length<=1024/\ ∀ k,k < w.length->0<=aA w k/\aA w k < n:=by grind [dG,eG,wE]
theorem aDJ {m:M} (h:eO m=0): ∀ (w:List Int) (s:Int),0<=s->s < m.nx.length->(∀ k,k < w.length->0<=aA w k/\aA w k < m.i)->0<=gR m s w/\gR m s w < m.nx.length
  |[],s,h0,h1,_=>⟨h0,h1⟩
  | a :: w, s, h0, h1, hw => by
    have ha:0<=a/\a < m.i:=by simpa [aA] using hw 0 SI
    have hc:=(gW h).2.2.2.2.2.2.2 s.toNat OM;have hr:=hc.2.2 a.toNat OM;refine aDJ h w (cell m.nx s a) ?_ ?_ λk hk=>by simpa [aA] using hw (k+1) (by simp; omega)
    . exact hr.1
    . exact hr.2.1
theorem aIT {m:M} (h:eO m=0) {w:List Int} {s:Int} (h0:0<=s) (h1:s < m.nx.length) (hw: ∀ k,k < w.length->0<=aA w k/\aA w k < m.i) (k:Nat):0<=gR m s (w.take k)/\gR m s (w.take k) < m.nx.length:=by
  refine aDJ h _ s h0 h1 λj hj=>?_
  grind [aA]
def stE (m:M) (s:Int):Int:=if eO m≠0 then eO m else if s < 0\/(m.nx.length:Int)<=s then 2 else 0
def inE (w:List Int) (n:Int) (k:Nat):Bool:=decide (aA w k < 0\/n<=aA w k)
theorem aQt (w:List Int) (n:Int):wE w n=λj=>if inE w n j then 1 else 0:=by funext j; simp [wE,inE]
theorem aOm (w:List Int) (n:Int) (c k:Nat):(0<=fi (inE w n) k c↔fe (wE w n) k c=1)/\(fe (wE w n) k c=0\/fe (wE w n) k c=1):=by
  rw [aQt];have h:=aOf (inE w n) 1 DE c k
  grind
theorem aKh {m:M} {s:Int} (h:stE m s=0):eO m=0/\0<=s/\s < m.nx.length:=by grind [stE]
def rK (m:M) (s:Int) (w:List Int):Int:=if stE m s≠0 then stE m s else dG w m.i
def fG (m:M) (s:Int) (w:List Int):List Int:=if rK m s w≠0 then [] else aQ m s w
def nX (m:M) (s:Int) (w:List Int):Int:=if rK m s w≠0 then 0 else gR m s w
theorem aKr {m:M} (hm:eO m=0) {s:Int} (hs:0<=s/\s < m.nx.length) {w:List Int} (hw: ∀ k,k < w.length->0<=aA w k/\aA w k < m.i) {k:Nat} (hk:k < w.length):
    (0<=gR m s (w.take k)/\gR m s (w.take k) < m.nx.length/\m.ot.length=m.nx.length)/\0<=aA w k/\aA w k < (aA m.nx (gR m s<|w.take k).toNat).length/\aA w k < (aA m.ot (gR m s<|w.take k).toNat).length:=by simp_all [aIT,gW]
structure Hy where
  m:M
  acc:List (List Int)
def mY (h:Hy) (s:Nat):Int:=
  if dG (aA h.acc s) h.m.i≠0 then dG (aA h.acc s) h.m.i else if gR h.m h.m.s (aA h.acc s)≠s then 15 else 0
def gY (h:Hy):Int:=
  if eO h.m≠0 then eO h.m else if h.acc.length≠h.m.nx.length then 1
  else if fe (mY h) 0 h.acc.length≠0 then fe (mY h) 0 h.acc.length else if (aA h.acc h.m.s.toNat).length≠0 then 10 else 0
theorem aEh {h:Hy} (hv:eO h.m=0) (k:Nat):mY h k=if rK h.m h.m.s (aA h.acc k)≠0 then rK h.m h.m.s (aA h.acc k) else if nX h.m h.m.s (aA h.acc k)≠k then 15 else 0:=by simp_all [gW,rK,stE,nX,mY]
end
section
open Go
def gJ:List Int->List Int->Nat
  |a::l,b::m=>if a=b then gJ l m+1 else 0
  |_,_=>0
theorem jY {α:Type} [Inhabited α] (a:α) (l:List α):aA (a::l) 0=a:=J
theorem kW {α:Type} [Inhabited α] (a:α) (l:List α) (k:Nat):aA (a::l) (k+1)=aA l k:=J
theorem hC: ∀ (a b:List Int),gJ a b<=a.length/\gJ a b<=b.length/\(∀ j,j < gJ a b->aA a j=aA b j)/\(gJ a b < a.length->gJ a b < b.length->aA a (gJ a b)≠aA b (gJ a b))
  |[],b=>by simp [gJ]
  |a::l,[]=>by simp [gJ]
  | a :: l, b :: m => by
    obtain ⟨h1,h2,h3,h4⟩:=hC l m;by_cases e:a=b
    . subst e
      simp only [gJ,if_true,List.length_cons];refine ⟨OM,OM,λj hj=>?_,λg1 g2=>by simpa [kW] using h4 OM OM⟩;cases j with
      |zero=>rfl
      |succ j=>grind [kW]
    . simp only [gJ,if_neg e,List.length_cons]
      exact ⟨OM,OM,λj hj=>by omega,λ_ _=>e⟩
theorem kX (a b:List Int):gJ a b<=a.length:=(hC a b).1
theorem mV (a b:List Int):gJ a b<=b.length:=(hC a b).2.1
theorem xX {a b:List Int} {k:Nat} (hc:k<=gJ a b) (ha:k < a.length) (hb:k < b.length) (e:aA a k=aA b k):k+1<=gJ a b:=by grind [hC]
theorem tY {a b:List Int} {k:Nat} (hc:k<=gJ a b) (h:a.length<=k\/b.length<=k\/aA a k≠aA b k):gJ a b=k:=by grind [hC]
theorem zB (a b:List Int):gJ a b=gJ b a:=by grind [hC]
theorem aFh (a:List Int):gJ a a=a.length:=by induction a <;> grind [gJ]
theorem lA {α:Type} [Inhabited α] {l:List α} {n j:Nat} (h:j < n):aA (l.take n) j=aA l j:=by grind [aA]
theorem rX {α:Type} [Inhabited α] {l:List α} {n j:Nat}:aA (l.drop n) j=aA l (n+j):=by grind [aA]
theorem fK {α:Type} [Inhabited α] {l m:List α} {j:Nat} (h:j < l.length):aA (l++m) j=aA l j:=by grind [aA]
theorem pG {α:Type} [Inhabited α] {l m:List α} {j:Nat}:aA (l++m) (l.length+j)=aA m j:=by grind [aA]
theorem aIl {α β:Type} [Inhabited α] [Inhabited β] {f:α->β} {l:List α} {j:Nat} (h:j < l.length):aA (l.map f) j=f (aA l j):=by rw [<- cP (by simpa using h),<- cP h,List.getElem_map]
theorem cW {α:Type} [Inhabited α] {l:List α} {j:Nat} (h:j < l.length):aA l j∈l:=by rw [<- cP h]; exact List.getElem_mem h
theorem gC {α:Type} [Inhabited α] {l:List α} {x:α} (h:x∈l): ∃ j,j < l.length/\aA l j=x:=by grind [List.getElem_of_mem,cP]
theorem jT {α:Type} [Inhabited α] {l m:List α} (h1:l.length=m.length) (h2: ∀ j,j < l.length->aA l j=aA m j):l=m:=by grind [List.ext_getElem,cP]
def cY (a b:List Int):Int:=
  if gJ a b=a.length/\gJ a b=b.length then 0
  else if gJ a b=a.length\/(gJ a b < b.length/\aA a (gJ a b) < aA b (gJ a b)) then -1 else 1
def fS (a b:List Int):Int:=if a.length < b.length then -1 else if b.length < a.length then 1 else cY a b
def yR (x y:Int):Int:=if x < y then -1 else if y < x then 1 else 0
def orI:List Int->Int
  |[]=>0
  |x::l=>if x=0 then orI l else x
theorem aFN {l:List Int} {k:Nat} (h:k < l.length):orI (l.drop k)=if aA l k=0 then orI (l.drop (k+1)) else aA l k:=by rw [mM h]; rfl
theorem aCQ {x y:Int}:yR x y=0↔x=y:=by
  unfold yR; split
  . omega
  . split <;> omega
theorem aJg {a b:List Int} (h1:gJ a b=a.length) (h2:gJ a b=b.length):a=b:=by grind [jT,hC]
theorem fJ {a b:List Int}:cY a b=0↔a=b:=by grind [cY,aJg,aFh]
theorem kE {a b:List Int}:fS a b=0↔a=b:=by grind [fS,fJ]
theorem uP {a b:List Int} (h:cY a b < 0):0 < cY b a:=by grind [cY,zB]
theorem vK {a b:List Int} (h:fS a b < 0):0 < fS b a:=by
  unfold fS at h ⊢;split at h
  . omega
  . split at h
    . omega
    simp_all [if_neg,uP]
theorem aEZ (a b:List Int):cY a b=0\/cY a b= -1\/cY a b=1:=by grind [cY]
theorem sH {a b:List Int} (h:0 < cY a b):cY b a < 0:=by grind [cY,hC]
theorem aIx {a b:List Int} (h:0 < fS a b):fS b a < 0:=by
  unfold fS at h ⊢;split at h
  . omega
  . split at h
    all_goals (simp_all [if_neg,sH])
theorem aMO {a b c:List Int}:min (gJ a b) (gJ b c)<=gJ a c:=by grind [hC]
theorem nC {a b c : List Int} (h1 : cY a b < 0) (h2 : cY b c < 0) : cY a c < 0 := by
  obtain ⟨g1,g2,g3,g4⟩:=hC a b;obtain ⟨f1,f2,f3,f4⟩:=hC b c;obtain ⟨e1,e2,e3,e4⟩:=hC a c;have m:=aMO (a:=a) (b:=b) (c:=c);unfold cY at h1 h2 ⊢;split at h1; · omega
  split at h1
  . split at h2; · omega
    split at h2
    . rename_i p1 p2 p3 p4
      by_cases q:gJ a b < gJ b c
      . grind
      . by_cases q':gJ b c < gJ a b
        . grind
        grind
    . omega
  . omega
theorem kP {a b c : List Int} (h1 : fS a b < 0) (h2 : fS b c < 0) : fS a c < 0 := by
  unfold fS at h1 h2 ⊢;split at h1
  . omega
  . split at h1
    . omega
    . split at h2
      . rw [if_pos OM]; omega
      . split at h2
        . omega
        . rw [if_neg OM,if_neg OM]; exact nC h1 h2
theorem aO7 {a b c:List Int} (h1:fS a b<=0) (h2:fS b c<=0):fS a c<=0:=by
  by_cases e1:fS a b=0
  . rw [kE.1 e1]; exact h2
  . by_cases e2:fS b c=0
    . rw [<- kE.1 e2]; exact h1
    . have:=kP (a:=a) (b:=b) (c:=c) OM OM; omega
theorem aFc {a b:List Int} (h1:fS a b<=0) (h2:fS b a<=0):a=b:=by
  by_cases e:fS a b=0
  . exact kE.1 e
  . have:=vK (a:=a) (b:=b) OM; omega
def exB (p:Nat->Bool) (k:Nat):Nat->Bool
  |0=>false
  |n+1=>exB p k n||p (k+n)
theorem nI {p:Nat->Bool} {k:Nat}: ∀ {n:Nat},exB p k n=true↔ ∃ j,j < n/\p (k+j)=true
  |0=>by simp [exB]
  | n + 1 => by
    simp only [exB,Bool.or_eq_true,nI (n:=n)];constructor
    . rintro (⟨j,h1,h2⟩|h)
      . exact ⟨j,OM,h2⟩
      . exact ⟨n,OM,h⟩
    . rintro ⟨j,h1,h2⟩
      by_cases e:j=n
      . subst e; exact .inr h2
      . exact .inl ⟨j,OM,h2⟩
structure Tr where
  ni:List Int
  no:List Int
  deriving Inhabited
abbrev cT (t:Tr):List V:=[aE t.ni,aE t.no]
abbrev tV (t:Tr):V:=.agg (cT t)
@[simp] theorem aOp (l:List Tr):hY (l.map cT)=true:=by simp_all [kB]
structure Ob where
  i:Int
  tr:List Tr
  deriving Inhabited
def hp (w p:List Int):Bool:=decide (gJ w p=p.length)
theorem sZ {w p:List Int}:hp w p=true↔ ∃ x,w=p++x:=by
  simp only [hp,decide_eq_true_eq];constructor
  . intro h
    refine ⟨w.drop p.length,?_⟩
    have e:w.take p.length=p:=by
      have hl:=kX w p;refine jT (by simp; omega) λj hj=>?_
      grind [lA,hC]
    grind [List.take_append_drop]
  . rintro ⟨x,rfl⟩
    refine tY ?_ (.inr (.inl (Nat.le_refl _)))
    have: ∀ k,k<=p.length->k<=gJ (p++x) p:=by
      intro k
      induction k with
      |zero=>grind
      |succ k ih=>intro h; exact xX (ih OM) (by simp; omega) OM (fK OM)
    exact this _<|Nat.le_refl _
def tT (t:Tr) (k:Nat):Int:=if aA t.no k < 0\/1048576 < aA t.no k then 2 else 0
def vZ (t:Tr) (n:Int):Int:=if dG t.ni n≠0 then dG t.ni n else if t.no.length≠t.ni.length then 1 else fe (tT t) 0 t.no.length
def dfE (a b:Tr) (k:Nat):Bool:=decide (aA a.no k≠aA b.no k)
def df (a b:Tr):Int:=fi (dfE a b) 0 (gJ a.ni b.ni)
def trE (o:Ob) (k:Nat):Int:=
  if dG (aA o.tr k).ni o.i≠0 then dG (aA o.tr k).ni o.i else if (aA o.tr k).ni.length=0 then 19 else if vZ (aA o.tr k) o.i≠0 then vZ (aA o.tr k) o.i
  else if 0 < k/\0<=fS (aA o.tr<|k - 1).ni (aA o.tr k).ni then 10 else 0
def aMV (o:Ob) (i k:Nat):Bool:=hp (aA o.tr k).ni (aA o.tr i).ni
def aKP (o:Ob) (i k:Nat):Bool:=decide (0<=df (aA o.tr i) (aA o.tr k))
def apE (o:Ob) (i:Nat):Int:=if exB (aMV o i) (i+1) (o.tr.length - (i+1))=true then 7 else if exB (aKP o i) (i+1) (o.tr.length - (i+1))=true then 13 else 0
def kS (o:Ob):Int:=
  if o.i < 1\/64 < o.i then 2 else if 10000 < o.tr.length then 11 else if fe (trE o) 0 o.tr.length≠0 then fe (trE o) 0 o.tr.length else fe (apE o) 0 o.tr.length
structure Proper (t:Tr) (n:Int):Prop where
  len:t.no.length=t.ni.length
  lel:t.ni.length<=1024
  sym: ∀ k,k < t.ni.length->0<=aA t.ni k/\aA t.ni k < n
  out: ∀ k,k < t.no.length->0<=aA t.no k/\aA t.no k<=1048576
theorem aBx {t:Tr} {n:Int} (h:vZ t n=0):Proper t n:=by
  unfold vZ at h;split at h
  . contradiction
  . rename_i h1
    split at h
    . cases h
    . rename_i h2
      have h3:=eL (w:=t.ni) (n:=n) OM;refine ⟨OM,h3.1,h3.2,λk hk=>?_⟩
      grind [eG,tT]
theorem sV {p : Nat -> Bool} : ∀ {n k : Nat}, 0 <= fi p k n ↔ ∃ j, k <= j /\ j < k + n /\ p j = true
  |0,k=>by simp [fi]; omega
  | n + 1, k => by
    simp only [fi];split
    . rename_i h
      constructor
      . intro _; exact ⟨k,OM,OM,h⟩
      . intro _; omega
    . rename_i h
      rw [sV];constructor
      . rintro ⟨j,h1,h2,h3⟩; exact ⟨j,OM,OM,h3⟩
      . rintro ⟨j,h1,h2,h3⟩
        by_cases e:j=k
        . subst e; exact (h h3).elim
        . exact ⟨j,OM,OM,h3⟩
theorem xP {p:Nat->Bool}: ∀ {n k:Nat},0<=fi p k n->k<=(fi p k n).toNat/\(fi p k n).toNat < k+n/\p (fi p k n).toNat=true/\ ∀ j,k<=j->j < (fi p k n).toNat->p j=false
  |0,k=>by simp [fi]
  | n + 1, k => by
    simp only [fi];split
    . grind
    . rename_i h
      intro h0;obtain ⟨h1,h2,h3,h4⟩:=xP h0
      grind
theorem aPe {a b:Tr}:0<=df a b↔ ∃ j,j < gJ a.ni b.ni/\aA a.no j≠aA b.no j:=by simp_all [df,sV,dfE]
theorem aNc (a b:Tr):df a b=df b a:=by
  unfold df;rw [zB];congr 1
  grind [dfE]
structure OK (o:Ob):Prop where
  hi:1<=o.i/\o.i<=64
  len:o.tr.length<=10000
  pr: ∀ k,k < o.tr.length->Proper (aA o.tr k) o.i/\0 < (aA o.tr k).ni.length
  ord: ∀ k,k+1 < o.tr.length->fS (aA o.tr k).ni (aA o.tr<|k+1).ni < 0
  pre: ∀ i k,i < k->k < o.tr.length->hp (aA o.tr k).ni (aA o.tr i).ni=false
  cla: ∀ i k,i < k->k < o.tr.length->df (aA o.tr i) (aA o.tr k) < 0
theorem lD {o:Ob} (h:kS o=0):OK o:=by
  unfold kS at h;split at h; · cases h
  rename_i h1;split at h; · cases h
  rename_i h2;split at h; · contradiction
  rename_i h3;have h3:=eG.1 (show fe (trE o) 0 o.tr.length=0 by omega);have h4:=eG.1 h
  have ht: ∀ k,k < o.tr.length->(aA o.tr k).ni.length≠0/\vZ (aA o.tr k) o.i=0/\(0 < k->fS (aA o.tr<|k - 1).ni (aA o.tr k).ni < 0):=by
    grind [trE]
  have ha: ∀ i k,i < k->k < o.tr.length->aMV o i k=false/\aKP o i k=false:=by
    intro i k h5 h6;have:=h4 i (Nat.zero_le _) OM;unfold apE at this;split at this; · cases this
    rename_i g1;split at this; · cases this
    rename_i g2;rw [nI] at g1 g2;constructor
    . by_cases e:aMV o i k=true
      . exact (g1 ⟨k - (i+1),OM,by rw [show i+1+(k - (i+1))=k by omega]; exact e⟩).elim
      . simpa using e
    . by_cases e:aKP o i k=true
      . exact (g2 ⟨k - (i+1),OM,by rw [show i+1+(k - (i+1))=k by omega]; exact e⟩).elim
      . simpa using e
  refine ⟨OM,OM,λk hk=>⟨aBx (ht k hk).2.1,by have:=(ht k hk).1; omega⟩,λk hk=>?_,λi k h5 h6=>(ha i k h5 h6).1,λi k h5 h6=>?_⟩
  . grind
  grind [aKP]
def bD:List (List Int)->List Int
  |[]=>[]
  |w::l=>w++bD l
theorem xH: ∀ (l m:List (List Int)),bD (l++m)=bD l++bD m
  |[],_=>rfl
  |w::l,m=>by simp [bD,xH l m]
theorem rP {l:List (List Int)} {k:Nat} (h:k < l.length):bD (l.take (k+1))=bD (l.take k)++aA l k:=by grind [cV,xH,bD]
theorem uC {l:List (List Int)} {k:Nat} (h:k < l.length):(bD (l.take k)).length+(aA l k).length<=(bD l).length:=by
  have e:bD l=bD (l.take<|k+1)++bD (l.drop<|k+1):=by rw [<- xH,List.take_append_drop]
  rw [e,rP h]; simp
theorem aJk {α β:Type} [Inhabited α] {f:α->List β} {l:List α} {k:Nat} (h:k < l.length):(l.take (k+1)).flatMap f=(l.take k).flatMap f++f (aA l k):=by grind [cV]
def aQD (a b:List Int):Nat:=if gJ a b < min a.length b.length then gJ a b else 0
theorem aMm {h:Hy} (hh:gY h=0):eO h.m=0/\h.acc.length=h.m.nx.length/\ ∀ k,k < h.acc.length->dG (aA h.acc k) h.m.i=0/\gR h.m h.m.s (aA h.acc k)=k:=by grind [gY,eG,mY]
theorem aME {m:M} {w:List Int} (hm:eO m=0):rK m m.s w=dG w m.i:=by simp_all [gW,rK,stE]
theorem aPm {m:M} {w:List Int} (hm:eO m=0) (h:dG w m.i=0):nX m m.s w=gR m m.s w/\fG m m.s w=aQ m m.s w/\0<=gR m m.s w/\gR m m.s w < m.nx.length:=by
  have hv:=gW hm;have hw:=eL h
  simp_all [aME,aDJ,nX,fG]
theorem aAy {w:List Int} {n:Int} (hn:1<=n/\n<=1024) (hl:w.length<=1024) (hs: ∀ k,k < w.length->0<=aA w k/\aA w k < n):dG w n=0:=by grind [dG,eG,wE]
end
section
open Go
section
variable {P:Program} {T:Nat->V} {H:bC}
theorem aY {t:Nat} {u:V} (h:T t=u):pZ T H (.tmp t)=some u:=by rw [<- h]; rfl
theorem bI {t m id ver row off:Nat} {g:Bool} {u:V} {B:Blk} (ha:T t=.mp id ver row off) (hH:H id=B) (hl:ldB g m B ver row off=some u):pZ T H (.cell t g m)=some u:=by
  subst hH;simp only [pZ,ha,ptr];unfold ldB at hl;split at hl
  . rename_i hc
    rw [if_pos (show ok H id ver=true from hc)];cases hr:(H id).rows[row]? with
    |none=>rw [hr] at hl; cases hl
    |some w=>rw [hr] at hl; exact hl
  . cases hl
theorem uI {s1:SRes} {u v:V} {n:Nat} (h1:pZ T H s1=some u) (h2:fQ true H n u=v):xN [s1] (λu G=>fQ true G n u=v) .ret T H:=by
  simp only [xN,vW,iY,h1,jI]; exact h2
theorem dJ {s1 s2:SRes} {u1 u2 v1 v2:V} {n:Nat} (h1:pZ T H s1=some u1) (h2:pZ T H s2=some u2) (g1:fQ true H n u1=v1) (g2:fQ true H n u2=v2):xN [s1,s2] (λu G=>fQ true G (n+1) u=.tup [v1,v2]) .ret T H:=by
  simp only [xN,vW,iY,h1,h2,jI,fQ,List.map_cons,List.map_nil,g1,g2]
theorem fI {s1 s2 s3:SRes} {u1 u2 u3 v1 v2 v3:V} {n:Nat} (h1:pZ T H s1=some u1) (h2:pZ T H s2=some u2) (h3:pZ T H s3=some u3) (g1:fQ true H n u1=v1) (g2:fQ true H n u2=v2) (g3:fQ true H n u3=v3):xN [s1,s2,s3] (λu G=>fQ true G (n+1) u=.tup [v1,v2,v3]) .ret T H:=by
  simp only [xN,vW,iY,h1,h2,h3,jI,fQ,List.map_cons,List.map_nil,g1,g2,g3]
theorem gO {s1 s2 s3 s4:SRes} {u1 u2 u3 u4 v1 v2 v3 v4:V} {n:Nat} (h1:pZ T H s1=some u1) (h2:pZ T H s2=some u2) (h3:pZ T H s3=some u3) (h4:pZ T H s4=some u4) (g1:fQ true H n u1=v1) (g2:fQ true H n u2=v2) (g3:fQ true H n u3=v3) (g4:fQ true H n u4=v4):
    xN [s1,s2,s3,s4] (λu G=>fQ true G (n+1) u=.tup [v1,v2,v3,v4]) .ret T H:=by
  simp only [xN,vW,iY,h1,h2,h3,h4,jI,fQ,List.map_cons,List.map_nil,g1,g2,g3,g4]
theorem qU {n:Nat} {l m:List V} (h:l.map (fQ true H n)=m):fQ true H (n+1) (.agg l)=.agg m:=by subst h; rfl
theorem cK {n:Nat} {u1 u2 v1 v2:V} (g1:fQ true H n u1=v1) (g2:fQ true H n u2=v2):fQ true H (n+1) (.agg [u1,u2])=.agg [v1,v2]:=by
  simp only [fQ,List.map_cons,List.map_nil,g1,g2]
theorem kK {n:Nat} {u1 u2 u3 v1 v2 v3:V} (g1:fQ true H n u1=v1) (g2:fQ true H n u2=v2) (g3:fQ true H n u3=v3):fQ true H (n+1) (.agg [u1,u2,u3])=.agg [v1,v2,v3]:=by
  simp only [fQ,List.map_cons,List.map_nil,g1,g2,g3]
end
end
section
open Go
def iZ (b b':Blk):Prop:=b.ver<=b'.ver/\(b'.live=false\/b'={b with ver:=b'.ver})
def tQ (H H':bC):Prop:= ∀ j,iZ (H j) (H' j)
def dK (S:List Nat) (H H':bC):Prop:= ∀ j,j∉S->iZ (H j) (H' j)
theorem iZ.refl (b:Blk):iZ b b:=⟨Nat.le_refl _,.inr J⟩
theorem dK.start {S:List Nat} {H Hi:bC} (h: ∀ j,j∉S->H j=Hi j):dK S H Hi:=λj hj=>by rw [h j hj]; exact .refl _
theorem dK.put {S:List Nat} {H H':bC} {i:Nat} {b B:Blk} (h:dK (i::S) H H') (hi:H i=b) (hB:iZ b B):dK S H (cX H' i B):=λj hj=>by
  by_cases e:j=i
  . subst e; rw [aU,hi]; exact hB
  . rw [cD _ _ e]; exact h j (by simp [e,hj])
theorem dK.putv {S:List Nat} {H H':bC} {i n:Nat} {B:Blk} (h:dK (i::S) H H') (hi:(H i).ver=n) (hn:n<=B.ver) (hd:B.live=false):dK S H (cX H' i B):=h.put J ⟨OM,.inl hd⟩
theorem dK.fin {H H':bC} (h:dK [] H H'):tQ H H':=λj=>h j SI
theorem iZ.eq {b B:Blk} (h:b=B):iZ b B:=h ▸ .refl _
theorem iZ.up {v n:Nat} {l z:Bool} {ty:TypeId} {sz:Nat} {rows rows':List (List V)} (h:v<=n) (hr:rows=rows'):iZ ⟨v,l,z,ty,sz,rows⟩ ⟨n,l,z,ty,sz,rows'⟩:=⟨h,.inr (by subst hr; rfl)⟩
theorem iZ.own {b b':Blk} (h:iZ b b') (ho:b'.own=true):b'={b with ver:=b'.ver}/\b.own=true:=by
  rcases h.2 with h1|h1
  . have:=hJ ho; rw [h1] at this; cases this
  . refine ⟨h1,?_⟩
    rw [h1] at ho; exact ho
def aCr (x:Cx) (H':bC):Cx:={x with Z:=λb=>x.Z b\/ ∃ j,(x.H j).own=true/\(H' j).live=false/\b=x.σ j,H:=H'}
theorem xY {x : Cx} (hx : Inv x) {H' : bC} (h : tQ x.H H') : Inv (aCr x H') /\ Frame x (aCr x H') := by
  generalize hy:aCr x H'=y;have ew:y.w=x.w:=by rw [<- hy]; rfl
  have eh:y.H=H':=by rw [<- hy]; rfl
  have es:y.σ=x.σ:=by rw [<- hy]; rfl
  have ez: ∀ b,y.Z b↔x.Z b\/ ∃ j,(x.H j).own=true/\(H' j).live=false/\b=x.σ j:=λb=>by rw [<- hy]; exact Iff.rfl
  have hf:Frame x y:=by
    refine ⟨by rw [ew],by rw [ew],by rw [ew],by rw [ew]; exact Nat.le_refl _,λ_ _ _=>by rw [ew],λb h=>(ez b).2 (.inl h),λb hb=>?_,λi=>?_,λi ho=>?_,by rw [ew]; exact Nat.le_refl _,λi hl hv=>by
      have e:H' i=x.H i:=by
        rw [eh] at hl hv;rcases (h i).2 with h1|h1
        . rw [h1] at hl; cases hl
        . rw [h1]; show ({x.H i with ver:=(H' i).ver}:Blk)=x.H i; rw [hv]
      rw [eh,e]⟩
    . rcases (ez b).1 hb with h1|⟨j,h1,_,h3⟩
      . exact .inl h1
      . exact .inr (.inr ⟨j,h1,h3.symm⟩)
    rotate_left
    . rw [eh] at ho; rw [es]; exact .inl ⟨((h i).own ho).2,J⟩
    rw [eh,es,ew];refine ⟨(h i).1,λhl hv=>?_⟩
    have e:H' i=x.H i:=by
      rcases (h i).2 with h1|h1
      . have:(H' i).live=true:=hl
        rw [h1] at this; cases this
      . rw [h1]; show ({x.H i with ver:=(H' i).ver}:Blk)=x.H i; rw [show (H' i).ver=(x.H i).ver from hv]
    simp only [e];have hl':(x.H i).live=true:=by rw [<- e]; exact hl
    exact ⟨hl',trivial,trivial,λ_=>trivial,λ_=>⟨trivial,trivial⟩⟩
  refine ⟨⟨λb hb=>?_,λb i hb ho=>?_,λi ho=>?_,λi j hi hj he=>?_,hx.tab_of hf⟩,hf⟩
  . rw [ew]
    rcases (ez b).1 hb with h1|⟨j,h1,_,h3⟩
    . exact hx.zlt b h1
    . rw [h3]; exact hx.lt h1
  . rw [eh] at ho; rw [es]
    have ho':=((h i).own ho).2;rcases (ez b).1 hb with h1|⟨j,h1,h2,h3⟩
    . exact hx.zown b i h1 ho'
    . intro q
      have:=hx.inj i j ho' h1<|q.trans h3
      subst this;have:=hJ ho; rw [h2] at this; cases this
  rotate_left
  . rw [eh] at hi hj; rw [es] at he
    exact hx.inj i j ((h i).own hi).2 ((h j).own hj).2 he
  rw [eh] at ho;obtain ⟨e,ho'⟩:=(h i).own ho;obtain ⟨dd,h1,h2,h3,h4⟩:=hx.blk i ho';have e1:(y.H i).rows=(x.H i).rows:=by rw [eh,e]
  have e2:(y.H i).sz=(x.H i).sz:=by rw [eh,e]
  have e3:(y.H i).obj dd=(x.H i).obj dd:=by rw [eh,e]; rfl
  rw [e1,e2,ew,es];exact ⟨dd,by rw [e3]; exact h1,h2,h3,λr row j v hr hj=>(h4 r row j v hr hj).frame hx hf⟩
def eY (H H':bC) (v v':V):Prop:= ∀ (x:Cx) (c:Value),x.H=H->Inv x->R x v c->R (aCr x H') v' c
theorem eY.same {H H':bC} (h:tQ H H') (v:V):eY H H' v v:=λx c e hx r=>by
  subst e; exact r.frame hx (xY hx h).2
theorem eY.nil {H H':bC}:eY H H' .nilsl (.sl []):=λx c e hx r=>by
  cases r; exact .slnil
theorem eY.ms {H H':bC} (h:tQ H H') {id ver n off len:Nat} (hl:(H id).live=true) (hv:(H id).ver=ver) (hl':(H' id).live=true) (hv':(H' id).ver=n):eY H H' (.ms id ver off len) (.ms id n off len):=λx c e hx r=>by
  subst e
  have e:H' id={x.H id with ver:=n}:=by
    rcases (h id).2 with h1|h1
    . rw [h1] at hl'; cases hl'
    . rw [hv'] at h1; exact h1
  cases r with
  | ms id ver off len b m cap hv1 hh hm =>
    refine .ms _ _ _ _ _ _ _ (by rw [show (aCr x H').H id=H' id from J,hv']; exact Nat.le_refl _) (λ_ _=>?_) λ_ _=>by
      have:=hm hv hl;simp only [aCr,e];exact this
    have:=hh hv hl;simp only [aCr,e];exact this
theorem eY.frz {H H' : bC} (h : tQ H H') {id ver len : Nat} {rows : List (List V)} (hl : (H id).live = true) (hv : (H id).ver = ver) (hd : (H' id).live = false) (hr : (H id).rows.take len = rows) : eY H H' (.ms id ver 0 len) (.sl rows) := λx c e hx r => by
  subst e;have hf:=(xY hx h).2;subst hr;cases r with
  | ms id ver off len b m cap hv1 hh hnm =>
    obtain ⟨e1,e2,e3,e4,e5,e6⟩:=hh hv hl;subst e1;rw [Nat.zero_add] at e4;have hlen:((x.H id).rows.take m).length=m:=by simp; omega
    cases ho:(x.H id).own with
    | false =>
      have e8:=e6 ho;have hm:m=0:=OM
      subst hm; subst e8;simpa using R.sl0 _
    | true =>
      obtain ⟨e7,e8⟩:=e5 ho;subst e7;obtain ⟨cc,h1,h2,h3,h4⟩:=hx.cel id ho<|hnm hv hl
      have hidx: ∀ (r:Nat) (row:List V),((x.H id).rows.take m)[r]?=some row->(x.H id).rows[r]?=some row:=by
        intro r row hr;simp only [List.getElem?_take] at hr;split at hr
        . exact hr
        . cases hr
      have key:=R.sl (x:=aCr x H') ((x.H id).rows.take m) ⟨x.σ id,0,none⟩ cap (x.H id).sz
        (λk=>cc.getD k undef) OM e3 (λ_=>.inr ⟨id,ho,hd,J⟩)
        (λr hr=>h2 r<|List.mem_of_mem_take hr)
        (λr row q v hr hj=>by
          have h8:=hidx _ _ hr;have h9:=(iG h2 h3 h8 hj).1;rw [Addr.add_lit];show x.w.cell? _=_;rw [mR h1 OM];simp)
        (λr row q v hr hj=>(h4 _ _ _ _ (hidx _ _ hr) hj).frame hx hf)
      rw [hlen] at key;simpa using key
theorem eY.tup2 {H H':bC} {a b a' b':V} (h1:eY H H' a a') (h2:eY H H' b b'):eY H H' (.tup [a,b]) (.tup [a',b']):=λx c e hx r=>by
  cases r with
  | tup vs cs hs hr =>
    refine .tup _ cs (by simpa using hs) λj v hj=>?_
    match j,hj with
    |0,hj=>cases hj; exact h1 x _ e hx (hr 0 a rfl)
    |1,hj=>cases hj; exact h2 x _ e hx (hr 1 b rfl)
    |n+2,hj=>simp at hj
theorem eY.trans_eq {H H':bC} {a b b':V} (h:eY H H' a b) (e:b=b'):eY H H' a b':=e ▸ h
section
variable {P:Program} {op:Opt} {k0:Nat}
theorem aDW {f : Nat} {fn : Func} {s : SF} (hf : P.funcs[f]? = some fn) (hs : mO P op fn = some s) (hn : (fn.name == "runtime.NumGoroutine") = false) {args : List V} {H : bC} {v : V} {H' : bC}
    (hl:args.length<=s.n) (hW:lU args=true->W P k0 s.body (xN s.res λu G=>tQ G H'/\eY G H' u v) (T0 args) H):fA P f args H v H':=by
  refine ⟨uF hf hs hn,λx cs hxH hx hr=>?_⟩;subst hxH;refine (aBL hf hs hl (hW hr.bnd) hx hr).mono λe w' h=>?_;obtain ⟨c,u,y,h1,h2,⟨h3,h4⟩,h5,h6,h7⟩:=h;obtain ⟨z1,z2⟩:=xY h5 h3;exact ⟨c,aCr y H',h1,h2,J,z1,h4 y c J h5 h6,h7.trans z2⟩
variable {T:Nat->V} {H H':bC}
theorem kU {t:Nat} {u v:V} (h:T t=u) (hH:tQ H H') (hv:eY H H' u v):xN [.tmp t] (λu G=>tQ G H'/\eY G H' u v) .ret T H:=by
  simp only [xN,vW,iY,pZ,h,jI]; exact ⟨hH,hv⟩
theorem aDl {t1 t2:Nat} {u1 u2 v1 v2:V} (h1:T t1=u1) (h2:T t2=u2) (hH:tQ H H') (hv1:eY H H' u1 v1) (hv2:eY H H' u2 v2):xN [.tmp t1,.tmp t2] (λu G=>tQ G H'/\eY G H' u (.tup [v1,v2])) .ret T H:=by
  simp only [xN,vW,iY,pZ,h1,h2,jI]; exact ⟨hH,hv1.tup2 hv2⟩
theorem aKM (hH:tQ H H'):xN [] (λu G=>tQ G H'/\eY G H' u (.tup [])) .ret T H:=by
  simp only [xN,vW,iY,jI]; exact ⟨hH,.same hH _⟩
end
end
section
open Go
section
variable {P:Program} {k0:Nat} {K:(Nat->V)->bC->Prop} {T:Nat->V} {H:bC} {r:List SO} {d:Nat} {a b c:SX} {v u:V}
theorem rG {e id ver off len n:Nat} {B:Blk} {k:IntKind} {x:SX} (ha:ev T a=.ms id ver off len) (hx:ev T x=.int k (n:Nat)) (hH:H id=B) (hok:okB B ver=true) (hs:B.sz=e) (hn:n<=len)
    (h:dL P k0 r (cX T d (.ms id ver off n)) H K):dL P k0 (⟨none,some d,.slice e a none (some x)⟩::r) T H K:=by
  subst hH;refine stp (v:=.ms id ver off n) (λ_=>J) ?_ h;rw [ha];simp only [Option.map_some,Option.map_none,pU,iB,aJs,hx,Option.bind_some];have h0:(0:Int)<=(n:Int):=OM
  rw [if_pos h0];simp only [Option.bind_some,Int.toNat_natCast];rw [if_pos (show ok H id ver=true from hok),if_pos hs,if_pos (Nat.zero_le _),if_pos hn]
  grind
theorem kY {e id ver off len n:Nat} {B:Blk} {k:IntKind} {x:SX} (ha:ev T a=.ms id ver off len) (hx:ev T x=.int k (n:Nat)) (hH:H id=B) (hok:okB B ver=true) (hs:B.sz=e) (hn:n < len)
    (h:dL P k0 r (cX T d (.ms id ver (off+n) (len - n))) H K):dL P k0 (⟨none,some d,.slice e a (some x) none⟩::r) T H K:=by
  subst hH;refine stp (v:=.ms id ver (off+n) (len - n)) (λ_=>J) ?_ h;rw [ha];simp only [Option.map_some,Option.map_none,pU,iB,aJs,hx,Option.bind_some];have h0:(0:Int)<=(n:Int):=OM
  rw [if_pos h0];simp only [Option.bind_some,Int.toNat_natCast];rw [if_pos (show ok H id ver=true from hok),if_pos hs,if_pos OM,if_pos (Nat.le_refl _),if_pos hn]
theorem aJV {α:Type} {id ver ty sz m n:Nat} {lz:Bool} {f:α->List V} {l:List α} {z:List V} (ha:ev T a=.ms id ver m n) (hH:H id=⟨ver,true,lz,ty,sz,l.map f⟩) (hz:z.length=sz) (hz0:z.length≠0) (hone:z.all V.one=true)
    (hm:m < l.length) (hn:m+n=l.length)
    (h:dL P k0 r T (cX H id ⟨ver,true,lz,ty,sz,(l.take m).map f++List.replicate n z⟩) K):dL P k0 (⟨none,none,.clr z a⟩::r) T H K:=by
  simp only [dL,St];refine aEg (x:=cX H id ⟨ver,true,lz,ty,sz,(l.take m).map f++List.replicate n z⟩) ?_ h
  grind [aLg,List.map_take]
theorem aJv {α:Type} {ty e bytes id ver n:Nat} {lz:Bool} {l:List α} {f:α->List V} {z:List V} (ha:ev T a=.ms id ver 0 n) (hH:H id=⟨ver,true,lz,ty,e,l.map f⟩) (hn:n=l.length) (hb:ev T b=.sl [z]) (he:z.length=e) (h1:z.all V.one=true)
    (h2:(n+1)*bytes<=140737488355328) (h3:n+1<=9223372036854775807)
    (h:dL P k0 r (cX T d (.ms id (ver+1) 0 (n+1))) (cX H id ⟨ver+1,true,lz,ty,e,l.map f++List.replicate 1 z⟩) K):dL P k0 (⟨none,some d,.append ty e bytes a b⟩::r) T H K:=
  zT ha hH (by simpa using hn) (new:=[z]) (by rw [hb]; rfl) (by simp [eH,he,h1]) (by simpa using h2) (by simpa using h3) h
theorem pJ: ∀ (vs p r:List V),r.length=vs.length->iD (p++r) p.length vs=p++vs
  | [], p, r, h => by cases r with
    |nil=>rfl
    |cons a r=>simp at h
  | v :: vs, p, r, h => by
    cases r with
    |nil=>simp at h
    | cons a r =>
      have e:(p++a::r).set p.length v=(p++[v])++r:=by simp
      rw [iD,e,show p.length+1=(p++[v]).length by simp,pJ vs (p++[v]) r (by simpa using h)];simp
theorem iQ {α:Type} [Inhabited α] {n ver ty sz i:Nat} {lz:Bool} {f:α->List V} {l:List α} {vs:List V} {x:α} (h:i < l.length) (hv:vs=f x) (hn:vs.length=n) (hs:(f (aA l i)).length=n) (ho:vs.all V.one=true):
    stB ⟨ver,true,lz,ty,sz,l.map f⟩ ver i 0 n vs=some ⟨ver,true,lz,ty,sz,(l.set i x).map f⟩:=by
  subst hv;unfold stB;rw [if_pos (eC OM),if_pos hn,if_pos ho];simp only [List.getElem?_map,xI h,Option.map_some];rw [if_pos OM];have:=pJ (f x) [] (f<|aA l i) OM
  grind [List.map_set]
theorem aLs {n:Int} (h0:0<=n) (h:n < 18446744073709551616):IntKind.u64.wrap n=n:=by grind [IntKind.wrap,IntKind.bits,IntKind.signed]
theorem aIu {kd:IntKind} {n:Nat} (ha:ev T a=.int kd (n:Nat)) (hn:n < 9223372036854775808) (h:dL P k0 r (cX T d (.int .u64 (n:Nat))) H K):dL P k0 (⟨none,some d,.conv .u64 a⟩::r) T H K:=by
  refine stp (v:=.int .u64 (n:Nat)) (λ_=>J) ?_ h
  grind [aBs,aLs]
theorem aHK {kd:IntKind} {n:Nat} (ha:ev T a=.int kd (n:Nat)) (hn:n < 9223372036854775808) (h:dL P k0 r (cX T d (iV (n:Nat))) H K):dL P k0 (⟨none,some d,.conv .i64 a⟩::r) T H K:=by
  refine stp (v:=iV (n:Nat)) (λ_=>J) ?_ h
  grind [aBs,aIp]
theorem aLz {n:Nat} (ha:ev T a=.int .u64 (n:Nat)) (hb:ev T b=.int .u64 1) (h:dL P k0 r (cX T d (.int .u64 ((n / 2:Nat):Int))) H K):dL P k0 (⟨none,some d,.bin .shr a b⟩::r) T H K:=by
  refine aKR ha hb ?_ h;simp only [rF,if_true];rw [if_neg DE];congr 2;show ((n:Nat):Int).fdiv 2=_
  grind
theorem dC {e id ver len i:Nat} {B:Blk} {k:IntKind} (ha:ev T a=.ms id ver 0 len) (hb:ev T b=.int k (i:Nat)) (hH:H id=B) (hok:okB B ver=true) (hs:B.sz=e) (hi:i < len)
    (h:dL P k0 r (cX T d (.mp id ver i 0)) H K):dL P k0 (⟨none,some d,.idx e a b⟩::r) T H K:=by grind [pR]
theorem dV {e id ver len:Nat} {i:Int} {B:Blk} {k:IntKind} (ha:ev T a=.ms id ver 0 len) (hb:ev T b=.int k i) (hH:H id=B) (hok:okB B ver=true) (hs:B.sz=e) (h0:0<=i) (hi:i < len)
    (h:dL P k0 r (cX T d (.mp id ver i.toNat 0)) H K):dL P k0 (⟨none,some d,.idx e a b⟩::r) T H K:=by grind [aAu]
theorem aD6 {α:Type} {ty e bytes i n:Nat} {z:List V} {f:α->List V} {x:α} {m q:Nat} (hi:k0+d=i) (hv:(H i).ver=n) (ha:ev T a=iV (m:Nat)) (hb:ev T b=iV (q:Nat)) (hz:z=f x) (h1:m<=q) (h2:q*bytes<=281474976710656) (h3:q<=9223372036854775807)
    (h:dL P k0 r (cX T d (.ms i (n+1) 0 m)) (cX H i ⟨n+1,true,false,ty,e,(List.replicate m x).map f⟩) K):dL P k0 (⟨none,some d,.mks ty e bytes z a b⟩::r) T H K:=by grind [aAO,List.map_replicate]
theorem gH {id n:Nat} (h:(H id).ver=n):(mT id H id).ver=n/\(mT id H id).live=false:=by subst h; simp [mT]
theorem gS {id j n:Nat} (h:(H j).ver=n/\(H j).live=false):(mT id H j).ver=n/\(mT id H j).live=false:=by
  by_cases e:j=id
  all_goals (simp_all [mT])
theorem rH {α:Type} {n id ver len:Nat} {B:Blk} {f:α->List V} {l:List α} (hH:H id=B) (hok:(B.live&&decide (B.ver=ver))=true) (hr:B.rows.take len=l.map f) (hc: ∀ a,fC (f a)=true):
    fQ true H (n+1) (.ms id ver 0 len)=.sl (l.map f):=by grind [fQ,List.map_congr_left,eF]
theorem nS {α:Type} {len:Nat} {f:α->List V} {l:List α} (h:len=l.length):(l.map f).take len=l.map f:=by subst h; rw [show l.length=(l.map f).length by simp,List.take_length]
theorem uK {α:Type} {len:Nat} {f:α->List V} {l:List α} {r:List (List V)} (h:len=l.length):(l.map f++r).take len=l.map f:=by grind
end
theorem aKw {K:(Nat->V)->bC->Prop} {T:Nat->V} {H:bC} {id ver ty:Nat} {lz:Bool} {α:Type} {l:List α} {f:α->List V} {x:α} (hH:H id=⟨ver,true,lz,ty,1,l.map f++List.replicate 1 [.nilsl]⟩) (hx:f x=[.sl []])
    (h:G K T (cX H id ⟨ver,true,lz,ty,1,(l++[x]).map f⟩)):G K T H:=by
  have hr:(H id).rows[l.length]?=some [.nilsl]:=by
    grind
  refine .cell id l.length 0 .nilsl (.sl []) [.nilsl] (by rw [hH]; simp [Blk.own]) hr rfl (λx c r=>by generalize hq:V.nilsl=q at r; cases r <;> cases hq; exact .slnil) ?_
  grind
theorem fE {H:bC} {n:Nat} {u1 v1:V} (g1:fQ true H n u1=v1):fQ true H (n+1) (.agg [u1])=.agg [v1]:=by grind [fQ]
theorem rB {α:Type} {ver ty sz m:Nat} {lz:Bool} {f:α->List V} {l:List α} {z:List V} (h:0 < l.length):okB ⟨ver,true,lz,ty,sz,l.map f++List.replicate m z⟩ ver=true:=by cases l <;> grind [okB,Blk.own]
theorem aIm {α:Type} [Inhabited α] {f:α->List V} {l:List α} {m i:Nat} {z:List V} (h:i < l.length):(l.map f++List.replicate m z)[i]?=some (f (aA l i)):=by grind [xI]
theorem aH8 {α:Type} [Inhabited α] {agg:Bool} {n ver ty sz i off m:Nat} {lz:Bool} {f:α->List V} {l:List α} {z:List V} {v:V} (h:i < l.length) (hg:ldV agg n ((f (aA l i)).drop off)=some v):
    ldB agg n ⟨ver,true,lz,ty,sz,l.map f++List.replicate m z⟩ ver i off=some v:=by
  unfold ldB;rw [if_pos (show (_&&_)=true from rB OM)]
  grind [aIm]
theorem aHz {α:Type} [Inhabited α] {n ver ty sz i m:Nat} {lz:Bool} {f:α->List V} {l:List α} {vs:List V} {x:α} {z:List V} (h:i < l.length) (hv:vs=f x) (hn:vs.length=n) (hs:(f (aA l i)).length=n) (ho:vs.all V.one=true):
    stB ⟨ver,true,lz,ty,sz,l.map f++List.replicate m z⟩ ver i 0 n vs=some ⟨ver,true,lz,ty,sz,(l.set i x).map f++List.replicate m z⟩:=by
  subst hv;unfold stB;rw [if_pos (rB OM),if_pos hn,if_pos ho];simp only [aIm h];rw [if_pos OM];have:=pJ (f x) [] (f<|aA l i) OM
  grind [List.map_set]
theorem aHx {H:bC} {α:Type} {n id ver len:Nat} {B:Blk} {f:α->List V} {l m:List α} (hH:H id=B) (hok:(B.live&&decide (B.ver=ver))=true) (hr:B.rows.take len=l.map f) (hc: ∀ a,fC (f a)=true) (h:l=m):
    fQ true H (n+1) (.ms id ver 0 len)=.sl (m.map f):=by grind [rH]
theorem rV {α:Type} [Inhabited α] {n ver ty sz i:Nat} {lz:Bool} {f:α->List V} {l:List α} {vs:List V} (h:i < l.length) (hn:vs.length=n) (hs:(f (aA l i)).length=n) (ho:vs.all V.one=true):
    stB ⟨ver,true,lz,ty,sz,l.map f⟩ ver i 0 n vs=some ⟨ver,true,lz,ty,sz,(l.map f).set i vs⟩:=by
  unfold stB;rw [if_pos (eC OM),if_pos hn,if_pos ho];simp only [List.getElem?_map,xI h,Option.map_some];rw [if_pos OM];have:=pJ vs [] (f<|aA l i) OM
  grind
theorem aGG {P:Program} {k0:Nat} {K:(Nat->V)->bC->Prop} {T:Nat->V} {H:bC} {r:List SO} {d:Nat} {a b:SX} {n:Nat} (ha:ev T a=iV (n:Nat)) (hb:ev T b=iV 2) (hn:n < 9223372036854775808)
    (h:dL P k0 r (cX T d<|iV ((n / 2:Nat):Int)) H K):dL P k0 (⟨none,some d,.bin .quo a b⟩::r) T H K:=by
  refine stp (v:=iV ((n / 2:Nat):Int)) (λ_=>J) ?_ h
  grind [rF,aIp]
theorem gI {K:(Nat->V)->bC->Prop} {T:Nat->V} {H:bC} {id id2 ver v2 ty ty2 i off len sz sz2:Nat} {lz lz2:Bool} {β:Type} {rows:List (List V)} {r:List V} {m:List β} {g:β->List V} (hne:id2≠id) (h1:H id=⟨ver,true,lz,ty,sz,m.map g⟩) (h2:H id2=⟨v2,true,lz2,ty2,sz2,rows.set i r⟩)
    (hi:i < rows.length) (hl:len=m.length) (hc:r[off]?=some (.ms id ver 0 len)) (h:G K (fzT id H T) (cX (mT id H) id2 ⟨v2,true,lz2,ty2,sz2,rows.set i (r.set off (.sl (m.map g)))⟩)):G K T H:=by
  subst hl;have hr:(H id2).rows[i]?=some r:=by rw [h2]; simp [hi]
  refine .frzCell id ver m.length id2 i off r hne (by rw [h1]) (by rw [h1]) (by rw [h2]; cases rows with
    |nil=>simp at hi
    |cons a l=>cases i <;> simp [Blk.own]) hr hc ?_
  have e:({H id2 with rows:=(H id2).rows.set i (r.set off (.sl ((H id).rows.take m.length)))}:Blk)=⟨v2,true,lz2,ty2,sz2,rows.set i (r.set off (.sl (m.map g)))⟩:=by
    rw [h2,h1];simp only [Blk.mk.injEq,true_and,List.set_set];rw [show m.length=(m.map g).length by simp,List.take_length]
  rw [e]; exact h
theorem aCb {α:Type} [Inhabited α] {f:α->List V} {l:List α} {i j:Nat} {r:List V} (h:i < l.length) (hne:i≠j):((l.map f).set j r)[i]?=some (f (aA l i)):=by grind [xI]
theorem aKx {α:Type} {ver ty sz j:Nat} {lz:Bool} {f:α->List V} {l:List α} {r:List V} (h:0 < l.length):okB ⟨ver,true,lz,ty,sz,(l.map f).set j r⟩ ver=true:=by cases l <;> simp_all [okB,Blk.own]
theorem aLU {α:Type} [Inhabited α] {agg:Bool} {n ver ty sz i j off:Nat} {lz:Bool} {f:α->List V} {l:List α} {r:List V} {v:V} (h:i < l.length) (hne:i≠j) (hg:ldV agg n ((f (aA l i)).drop off)=some v):
    ldB agg n ⟨ver,true,lz,ty,sz,(l.map f).set j r⟩ ver i off=some v:=by
  unfold ldB;rw [if_pos (show (_&&_)=true from aKx OM)]
  grind [aCb]
theorem aEv {agg:Bool} {n ver ty sz i off:Nat} {lz:Bool} {rows:List (List V)} {r:List V} {v:V} (h:i < rows.length) (hg:ldV agg n (r.drop off)=some v):
    ldB agg n ⟨ver,true,lz,ty,sz,rows.set i r⟩ ver i off=some v:=by grind [Blk.own,ldB,List.getElem?_set_self]
theorem aFd {n ver ty sz i off:Nat} {lz:Bool} {rows:List (List V)} {r vs:List V} (h:i < rows.length) (hn:vs.length=n) (ho:vs.all V.one=true) (hf:off+n<=r.length):
    stB ⟨ver,true,lz,ty,sz,rows.set i r⟩ ver i off n vs=some ⟨ver,true,lz,ty,sz,rows.set i (iD r off vs)⟩:=by grind [okB,Blk.own,stB,List.getElem?_set_self,List.set_set]
theorem aEd {T:Nat->V} {H H':bC} {s1:SRes} {u v:V} (h1:pZ T H s1=some u) (hH:tQ H H') (hv:eY H H' u v):xN [s1] (λu G=>tQ G H'/\eY G H' u v) .ret T H:=by grind [xN,vW,iY,jI]
theorem eY.agg1 {H H':bC} {a a':V} (h1:eY H H' a a'):eY H H' (.agg [a]) (.agg [a']):=λx c e hx r=>by
  cases r with
  | agg _ cs hs hr =>
    refine .agg _ cs (by simpa using hs) λj v hj=>?_
    match j,hj with
    |0,hj=>cases hj; exact h1 x _ e hx (hr 0 a rfl)
    |n+1,hj=>simp at hj
end
section
open Go
abbrev sO (d:Nat) (x:X):SO:=⟨none,some d,x⟩
abbrev qM (d a:Nat):SO:=sO d (.mv (.t a))
abbrev qI (d:Nat) (n:Int):SO:=sO d (.mv (.c (.int .i64 n)))
abbrev qL (d n a:Nat):SO:=sO d (.load true n (.t a))
abbrev ql (d a:Nat):SO:=sO d (.load false 1 (.t a))
abbrev qE (d a i:Nat):SO:=sO d (.ext (.t a) i)
abbrev qA (d e a i:Nat):SO:=sO d (.idx e (.t a) (.t i))
abbrev qN (d a:Nat):SO:=sO d (.len (.t a))
abbrev qP (d:Nat) (b:BinOp) (x y:Nat):SO:=sO d (.bin b (.t x) (.t y))
abbrev qC (d:Nat) (b:BinOp) (x:Nat) (n:Int):SO:=sO d (.bin b (.t x) (.c (.int .i64 n)))
abbrev bk (v:Nat) (ty sz:Nat) (rows:List (List V)):Blk:=⟨v,true,false,ty,sz,rows⟩
abbrev bz (v:Nat) (ty sz:Nat) (rows:List (List V)):Blk:=⟨v,true,true,ty,sz,rows⟩
section
variable {P:Program} {k0 d:Nat} {r:List SO} {T:Nat->V} {H:bC} {K:(Nat->V)->bC->Prop} {a b:SX} {v:V}
theorem sM {f:Nat} {args:List SX} {as0:List V} (he:uG T args=as0) (hc:bK P f as0 v) (h:dL P k0 r (cX T d v) H K)
    (h1:fC as0=true:=by simp [-List.map_take,-List.map_drop,-List.map_append,-List.map_reverse]) (h2:gF as0=true:=by simp [-List.map_take,-List.map_drop,-List.map_append,-List.map_reverse]):
    dL P k0 (⟨none,some d,.call false f args⟩::r) T H K:=jN he hc (eF _ _ h1) h2 (.inl h2) h
theorem aI {f:Nat} {args:List SX} {as0:List V} (hc:bK P f as0 v) (he:uG T args=as0) (h:dL P k0 r (cX T d v) H K)
    (h1:fC as0=true:=by simp [-List.map_take,-List.map_drop,-List.map_append,-List.map_reverse]) (h2:gF as0=true:=by simp [-List.map_take,-List.map_drop,-List.map_append,-List.map_reverse]):
    dL P k0 (⟨none,some d,.call false f args⟩::r) T H K:=jN he hc (eF _ _ h1) h2 (.inl h2) h
theorem aLn {α:Type} {n id ver ty:Nat} {lz:Bool} {rows:List (List V)} {f:α->List V} {l:List α} (ha:ev T a=.ms id ver 0 l.length) (hb:ev T b=.sl (l.map f)) (hH:H id=⟨ver,true,lz,ty,n,rows⟩) (hlen:rows.length=l.length)
    (hf: ∀ q,(f q).length=n/\(f q).all V.one=true)
    (h:dL P k0 r (cX T d<|iV l.length) (cX H id ⟨ver,true,lz,ty,n,l.map f⟩) K):dL P k0 (⟨none,some d,.cpy n a b⟩::r) T H K:=by
  simp only [dL,St];refine aEg (x:=(l.length,cX H id ⟨ver,true,lz,ty,n,l.map f⟩)) ?_ h;rw [ha,hb]
  have hft:eH n (l.map f)=true:=by
    unfold eH;rw [List.all_eq_true];intro q hq;obtain ⟨p,_,rfl⟩:=List.mem_map.1 hq;simp [(hf p).1,(hf p).2]
  simp only [aKT,hH,oN];rw [if_pos SI,if_pos hft,if_pos trivial];rw [List.length_map,Nat.min_self,List.take_zero,List.nil_append,Nat.zero_add,List.take_of_length_le SI,List.drop_eq_nil_of_le OM,List.append_nil]
theorem rW {α:Type} {ty e bytes id ver n:Nat} {lz:Bool} {l:List α} {f:α->List V} {z:List (List V)} (ha:ev T a=.ms id ver 0 n) (hH:H id=⟨ver,true,lz,ty,e,l.map f⟩) (hn:n=l.length) (hb:ev T b=.sl z) (hz:eH e z=true)
    (h2:(n+z.length)*bytes<=140737488355328) (h3:n+z.length<=9223372036854775807)
    (h:dL P k0 r (cX T d (.ms id (ver+1) 0 (n+z.length))) (cX H id ⟨ver+1,true,lz,ty,e,l.map f++z⟩) K):dL P k0 (⟨none,some d,.append ty e bytes a b⟩::r) T H K:=
  zT ha hH (by simpa using hn) (new:=z) (by rw [hb]; rfl) hz h2 h3 h
end
def nz:V->V
  | .nilsl=>.sl []
  |v=>v
theorem aPM {x:Cx} {v:V} {c:Value} (r:R x v c):R x (nz v) c:=by
  cases v <;> first|exact r|(generalize hq:V.nilsl=q at r; cases r <;> cases hq; exact .slnil)
theorem aLy {K : (Nat -> V) -> bC -> Prop} {T : Nat -> V} {id i : Nat} {r : List V} : ∀ (j : Nat) {H : bC} {pre suf : List V}, r = pre ++ suf -> suf.length = j -> (H id).own = true -> (H id).rows[i]? = some (pre.map nz ++ suf) ->
    G K T (cX H id {H id with rows:=(H id).rows.set i (r.map nz)})->G K T H:=by
  intro j
  induction j with
  | zero =>
    intro H pre suf he hl ho hr h;have:=List.length_eq_zero_iff.1 hl;subst this
    have e:({H id with rows:=(H id).rows.set i (r.map nz)}:Blk)=H id:=by
      rw [he,List.append_nil];rw [List.append_nil] at hr
      have:(H id).rows.set i (pre.map nz)=(H id).rows:=by
        have hi:=(List.getElem?_eq_some_iff.1 hr).1;have:=(List.getElem?_eq_some_iff.1 hr).2;rw [<- this,List.set_getElem_self]
      rw [this]
    rw [e] at h;have e2:cX H id (H id)=H:=funext λk=>by unfold cX; split <;> simp_all
    rw [e2] at h; exact h
  | succ j ih =>
    intro H pre suf he hl ho hr h;cases suf with
    |nil=>simp at hl
    | cons v s =>
      refine .cell id i pre.length v (nz v) (pre.map nz++v::s) ho hr SI (λx c r=>aPM r) ?_;have hi:=(List.getElem?_eq_some_iff.1 hr).1
      have e1:(pre.map nz++v::s).set pre.length (nz v)=(pre++[v]).map nz++s:=by
        rw [List.set_append_right _ _ SI];simp
      have ho2:({H id with rows:=(H id).rows.set i ((pre.map nz++v::s).set pre.length (nz v))}:Blk).own=true:=by
        unfold Blk.own at ho ⊢;cases hq:(H id).rows with
        |nil=>rw [hq] at hi; simp at hi
        |cons a l=>rw [hq] at ho; cases i <;> simpa using ho
      refine ih (H:=cX H id {H id with rows:=(H id).rows.set i ((pre.map nz++v::s).set pre.length (nz v))}) (pre:=pre++[v]) (suf:=s) (by rw [he]; simp) (by simpa using hl) (by rw [aU]; exact ho2) (by rw [aU,e1]; simp [hi]) ?_;rw [aU]
      have e3:cX (cX H id {H id with rows:=(H id).rows.set i ((pre.map nz++v::s).set pre.length (nz v))}) id {H id with rows:=((H id).rows.set i ((pre.map nz++v::s).set pre.length (nz v))).set i (r.map nz)}=cX H id {H id with rows:=(H id).rows.set i (r.map nz)}:=by
        funext k;by_cases e:k=id
        . subst e; simp only [aU,List.set_set]
        . simp only [cD _ _ e]
      rw [e3]; exact h
theorem aLR {ver ty sz:Nat} {lz:Bool} {rows:List (List V)} (h:rows≠[]):(⟨ver,true,lz,ty,sz,rows⟩:Blk).own=true:=by
  cases rows with
  |nil=>exact (h rfl).elim
  |cons a l=>simp [Blk.own]
theorem aDx {K:(Nat->V)->bC->Prop} {T:Nat->V} {H:bC} {id i ver ty sz:Nat} {lz:Bool} {rows:List (List V)} {r r':List V} (hH:H id=⟨ver,true,lz,ty,sz,rows.set i r⟩) (hi:i < rows.length) (hr:r.map nz=r')
    (h:G K T (cX H id ⟨ver,true,lz,ty,sz,rows.set i r'⟩)):G K T H:=by
  refine aLy (id:=id) (i:=i) (r:=r) r.length (pre:=[]) (suf:=r) J J ?_ ?_ ?_
  . rw [hH]
    refine aLR λe=>?_;have:=congrArg List.length e;simp at this; subst this; simp at hi
  . rw [hH]; simp [hi]
  . rw [hH]; simp only [List.set_set]; rw [hr]; exact h
theorem aMs {K:(Nat->V)->bC->Prop} {T:Nat->V} {id ver ty sz:Nat} {lz:Bool}: ∀ {raw:List (List V)} {H:bC} {pre:List (List V)},H id=⟨ver,true,lz,ty,sz,pre++raw⟩->
    G K T (cX H id ⟨ver,true,lz,ty,sz,pre++raw.map (List.map nz)⟩)->G K T H:=by
  intro raw
  induction raw with
  | nil =>
    intro H pre hH h;have e2:cX H id (H id)=H:=funext λk=>by unfold cX; split <;> simp_all
    rw [List.map_nil,<- hH,e2] at h; exact h
  | cons r raw ih =>
    intro H pre hH h;refine aLy (id:=id) (i:=pre.length) (r:=r) r.length (pre:=[]) (suf:=r) J J (by rw [hH]; exact aLR SI) (by rw [hH]; simp) ?_;refine ih (pre:=pre++[r.map nz]) (by rw [aU,hH]; simp only [Blk.mk.injEq,true_and]; rw [List.set_append_right _ _ (Nat.le_refl _)]; simp) ?_
    have e3: ∀ b c:Blk,cX (cX H id b) id c=cX H id c:=λb c=>funext λk=>by
      by_cases e:k=id
      . subst e; simp only [aU]
      . simp only [cD _ _ e]
    rw [e3];simpa using h
theorem sP {α:Type} {K:(Nat->V)->bC->Prop} {T:Nat->V} {H:bC} {id ver ty sz:Nat} {lz:Bool} {l m:List α} {f:α->List V} {raw:List (List V)} (hH:H id=⟨ver,true,lz,ty,sz,l.map f++raw⟩) (hr:raw.map (List.map nz)=m.map f)
    (h:G K T (cX H id ⟨ver,true,lz,ty,sz,(l++m).map f⟩)):G K T H:=by
  refine aMs hH ?_;rw [hr,<- List.map_append]; exact h
end
section
open Go
section
variable {P:Program} {k0:Nat} {Q:Ex->(Nat->V)->bC->Prop} {T:Nat->V} {H:bC}
theorem aW {ops:List SO} {b:SC} (h:dL P k0 ops T H λT H=>W P k0 b Q T H):W P k0 (.seq (.reg ops) b) Q T H:=
  ⟨k0,kZ (λ_ _ h=>.done h) h⟩
theorem eI {ops:List SO} (h:dL P k0 ops T H λT H=>Q .norm T H):W P k0 (.reg ops) Q T H:=⟨k0,h⟩
theorem W_d {ops:List SO} {b:SC} {late:List Nat} (hl: ∀ d∈late,(H (k0+d)).live=false) (h:dL P k0 ops T H λT H=>W P k0 b Q T H):W P k0 (.seq (.dreg late ops) b) Q T H:=
  ⟨k0,hl,kZ (λ_ _ h=>.done h) h⟩
theorem aPx {ops:List SO} {late:List Nat} (hl: ∀ d∈late,(H (k0+d)).live=false) (h:dL P k0 ops T H λT H=>Q .norm T H):W P k0 (.dreg late ops) Q T H:=⟨k0,hl,h⟩
end
theorem qQ {H:bC} {k0:Nat}: ∀ d∈([]:List Nat),(H (k0+d)).live=false:=λ_ h=>by simp at h
theorem oP {H:bC} {k0 d:Nat} {l:List Nat} (h:(H (k0+d)).live=false) (hl: ∀ d∈l,(H (k0+d)).live=false): ∀ x∈d::l,(H (k0+x)).live=false:=by
  intro x hx;rcases List.mem_cons.1 hx with rfl|hx
  . exact h
  . exact hl _ hx
theorem oB {ver ty sz:Nat} {rows:List (List V)}:okB ⟨ver,true,false,ty,sz,rows⟩ ver=true:=by simp [okB,Blk.own]
theorem lB {agg:Bool} {n ver row off:Nat} {B:Blk} {r:List V} {v:V} (ho:okB B ver=true) (hr:B.rows[row]?=some r) (hv:ldV agg n (r.drop off)=some v):ldB agg n B ver row off=some v:=by
  unfold ldB; rw [if_pos (show (B.own&&decide (B.ver=ver))=true from ho),hr]; exact hv
theorem sB {n ver row off:Nat} {B B':Blk} {r vs:List V} (ho:okB B ver=true) (hn:vs.length=n) (ha:vs.all V.one=true) (hr:B.rows[row]?=some r) (hl:Nat.ble (off+n) r.length=true) (hB:{B with rows:=B.rows.set row (iD r off vs)}=B'):stB B ver row off n vs=some B':=by
  unfold stB; rw [if_pos ho,if_pos hn,if_pos ha,hr]; dsimp only; rw [if_pos (Nat.le_of_ble_eq_true hl),hB]
section
variable {P:Program} {k0 d:Nat} {r:List SO} {T:Nat->V} {H:bC} {K:(Nat->V)->bC->Prop} {a b:SX} {v:V}
theorem aV {agg:Bool} {n id ver row off ty sz:Nat} {rows:List (List V)} {rw:List V} (ha:ev T a=.mp id ver row off) (hH:H id=⟨ver,true,false,ty,sz,rows⟩) (hr:rows[row]?=some rw) (hv:ldV agg n (rw.drop off)=some v) (h:dL P k0 r (cX T d v) H K):
    dL P k0 (⟨none,some d,.load agg n a⟩::r) T H K:=cQ ha hH (lB oB hr hv) h
theorem cM {off id ver row o ty sz:Nat} {rows:List (List V)} (ha:ev T a=.mp id ver row o) (hH:H id=⟨ver,true,false,ty,sz,rows⟩) (h:dL P k0 r (cX T d (.mp id ver row (o+off))) H K):dL P k0 (⟨none,some d,.fld off a⟩::r) T H K:=
  aEK ha hH oB J h
theorem bQ {n id ver row off ty sz:Nat} {rows:List (List V)} {B':Blk} {rw vs:List V} (ha:ev T a=.mp id ver row off) (hb:ev T b=v) (hc:v.cells=vs) (hH:H id=⟨ver,true,false,ty,sz,rows⟩) (hn:vs.length=n) (hl:vs.all V.one=true) (hr:rows[row]?=some rw)
    (hm:Nat.ble (off+n) rw.length=true) (hB:(⟨ver,true,false,ty,sz,rows.set row (iD rw off vs)⟩:Blk)=B') (h:dL P k0 r T (cX H id B') K):dL P k0 (⟨none,none,.store n a b⟩::r) T H K:=
  dU ha hb hc hH (sB oB hn hl hr hm hB) h
end
theorem bR {P:Program} {k0:Nat} {T:Nat->V} {H:bC} {K:(Nat->V)->bC->Prop} (h:K T H):dL P k0 [] T H K:=h
end
section
open Go
theorem pW {P:Program} {op:Opt} {f:Nat} {fn:Func} {s:SF} {args:List V} {v:V} {B:Prop} (hf:P.funcs[f]?=some fn) (hs:mO P op fn=some s)
    (hW : B -> W P 0 s.body (xN s.res λu G => fQ true G 6 u = v) (T0 args) H0) (hn : (fn.name == "runtime.NumGoroutine") = false := by kernel_rfl)
    (hl:Nat.ble args.length s.n=true:=by rfl) (ha:gF args=true:=by simp) (hv:v.pure=true:=by simp)
    (hb:lU args=true->B:=by intro hB; first|(simp only [mG,mB,jW,mF,mQ,pV,mD,kC,implies_true,and_true,true_and] at hB; exact hB)|exact (λ_=>trivial) hB):bK P f args v:=
  nB true 6 hf hs hn (Nat.le_of_ble_eq_true hl) ha hv λh=>hW<|hb h
theorem eW {P:Program} {op:Opt} {k0 f:Nat} {fn:Func} {s:SF} {args:List V} {H:bC} {v:V} {H':bC} {B:Prop} (hf:P.funcs[f]?=some fn) (hs:mO P op fn=some s)
    (hW : B -> W P k0 s.body (xN s.res λu G => tQ G H' /\ eY G H' u v) (T0 args) H) (hn : (fn.name == "runtime.NumGoroutine") = false := by kernel_rfl)
    (hl:Nat.ble args.length s.n=true:=by rfl)
    (hb:lU args=true->B:=by intro hB; first|(simp only [mG,mB,jW,mF,mQ,pV,mD,kC,implies_true,and_true,true_and] at hB; exact hB)|exact (λ_=>trivial) hB):fA P f args H v H':=
  aDW hf hs hn (Nat.le_of_ble_eq_true hl) λh=>hW<|hb h
theorem bY {x:V} {p:Prop} [Decidable p] (h:p) (hx:x=V.bool (decide p)):x=V.bool true:=by rw [hx]; simp [h]
theorem bX {x:V} {p:Prop} [Decidable p] (h: ¬p) (hx:x=V.bool (decide p)):x=V.bool false:=by rw [hx]; simp [h]
theorem gQ {x:V} {b:Bool} (h:b=true) (hx:x=V.bool b):x=V.bool true:=by rw [hx,h]
theorem gP {x:V} {b:Bool} (h: ¬b=true) (hx:x=V.bool b):x=V.bool false:=by rw [hx,Bool.eq_false_iff.2 h]
theorem bW {P:Program} {k0 d t:Nat} {r:List SO} {T:Nat->V} {H:bC} {K:(Nat->V)->bC->Prop} {w:Bool} {q:X} (ht:T t=.bool (!w)) (h:dL P k0 r (cX T d (.raw undef)) H K):
    dL P k0 (⟨some (t,w),some d,q⟩::r) T H K:=aQG ht (by cases w <;> decide) h
theorem aL2 {n ver ty sz i:Nat} {lz:Bool} {rows:List (List V)} {r vs:List V} (hi:rows[i]?=some r) (hr:r.length=n) (hn:vs.length=n) (ho:vs.all V.one=true):
    stB ⟨ver,true,lz,ty,sz,rows⟩ ver i 0 n vs=some ⟨ver,true,lz,ty,sz,rows.set i vs⟩:=by
  have hok:okB ⟨ver,true,lz,ty,sz,rows⟩ ver=true:=by
    cases rows with
    |nil=>simp at hi
    |cons a l=>simp [okB,Blk.own]
  have hp:iD r 0 vs=vs:=pJ vs [] r (by rw [hr,hn]);unfold stB;rw [if_pos hok,if_pos hn,if_pos ho,hi];dsimp only;rw [if_pos OM,hp]
theorem aJr {α:Type} [Inhabited α] {f:α->List V} {l:List α} {i j:Nat} {r s:List V} (hi:i < l.length) (hne:i≠j) (hs:s=f (aA l i)):((l.map f).set j r).set i s=(l.map f).set j r:=by
  have h:=aCb (f:=f) (r:=r) hi hne;obtain ⟨h1,h2⟩:=List.getElem?_eq_some_iff.1 h;rw [hs,<- h2,List.set_getElem_self]
section
variable {P:Program} {k0 d:Nat} {r:List SO} {T:Nat->V} {H:bC} {K:(Nat->V)->bC->Prop} {a b:SX} {x y x' y':Int}
theorem aO0 (ha:ev T a=.agg [iV x,iV y]) (hb:ev T b=.agg [iV x',iV y']) (h:dL P k0 r (cX T d (.bool (decide (¬(x=x'/\y=y'))))) H K):dL P k0 (⟨none,some d,.abin true [0,0] a b⟩::r) T H K:=by
  refine stp (v:=.bool (decide (¬(x=x'/\y=y')))) (λ_=>J) ?_ h;rw [ha,hb]; simp only [aCc,gT,if_true,Option.map_some];by_cases e:x=x' <;> by_cases e2:y=y' <;> simp [e,e2]
end
section
variable {P:Program} {k0 d:Nat} {r:List SO} {T:Nat->V} {H:bC} {K:(Nat->V)->bC->Prop} {a b:SX} {u w v:V}
theorem aNu {g:Bool} {n len:Nat} (ha:ev T a=u) (hb:ev T b=w) (hg:aE9 g n len u w=some v) (h:dL P k0 r (cX T d v) H K):dL P k0 (⟨none,some d,.aidx g n len a b⟩::r) T H K:=by
  refine stp (v:=v) (λ_=>J) ?_ h;rw [ha,hb]; exact hg
end
section
variable {P:Program} {k0:Nat} {Q:Ex->(Nat->V)->bC->Prop} {T:Nat->V} {H:bC}
theorem aOH (k1:Nat) {ops:List SO} {b:SC} (h:dL P k1 ops T H λT H=>W P k0 b Q T H):W P k0 (.seq (.reg ops) b) Q T H:=⟨k1,kZ (λ_ _ h=>.done h) h⟩
theorem aQC (k1:Nat) {ops:List SO} (h:dL P k1 ops T H λT H=>Q .norm T H):W P k0 (.reg ops) Q T H:=⟨k1,h⟩
theorem aPS (k1:Nat) {ops:List SO} {late:List Nat} (hl: ∀ d∈late,(H (k1+d)).live=false) (h:dL P k1 ops T H λT H=>Q .norm T H):W P k0 (.dreg late ops) Q T H:=⟨k1,hl,h⟩
theorem W_g {ops:List SO} {b:SC} (h:dL P k0 ops T H λT H=>G (W P k0 b Q) T H):W P k0 (.seq (.reg ops) b) Q T H:=⟨k0,h⟩
end
end
section
open Go
def aQz (ρ:Nat->Nat):V->V
  | .mp id ver r o=>.mp (ρ id) ver r o
  | .ms id ver o l=>.ms (ρ id) ver o l
  |v=>v
def aQF (ρ:Nat->Nat) (b:Blk):Blk:={b with rows:=b.rows.map λr=>r.map (aQz ρ)}
def aP4 (ρ:Nat->Nat) (HL:bC) (H:bC):Nat->bC
  |0=>H
  |n+1=>cX (aP4 ρ HL H n) (ρ n) (aQF ρ (HL n))
inductive LOut where
  |ok (v:V) (HL:bC)
  |pan (c:Value)
def LOut.at (n:Nat) (ρ:Nat->Nat) (H:bC):LOut->Res
  | .ok v HL=>.ok v (aP4 ρ HL H n)
  | .pan c=>.pan c ((List.range n).map ρ)
end
section
open Go
section
variable {P:Program} {k0 f:Nat} {Q:Ex->(Nat->V)->bC->Prop} {T:Nat->V} {H:bC} {d:Option Nat} {r:SC} {i:Nat} {asq asq':List V} {args:List SX} {b b' b1 b1':Blk} {v:V} {c:Value} {out:LOut}
theorem nD {id:Nat} {a r:SC} (h: ∀ Q':Ex->(Nat->V)->bC->Prop,(∀ T H,G (W P k0 r Q) T H->Q' .norm T H)->(∀ T H,G (W P k0 r Q) T H->Q' (.exit id) T H)->(∀ T H,Q .ret T H->Q' .ret T H)->
    (∀ n T H,n≠id->Q (.exit n) T H->Q' (.exit n) T H)->(∀ c T H,Q (.pan c) T H->Q' (.pan c) T H)->W P k0 a Q' T H):W P k0 (.seq (.block id a) r) Q T H:=by
  simp only [W];refine h _ (λT H h=>h) (λT H h=>?_) (λT H h=>h) (λn T H hn h=>?_) (λc T H h=>h)
  . simp only [if_true]; exact h
  . simp only [if_neg hn]; exact h
variable {res:List SRes} {HL:bC}
end
end
section
open Go
theorem aDK {z:Bool} {H:bC} {n f id ver ty sz:Nat} {cells:List V} (hH:H id=bk ver ty sz [cells]) (hc:fC cells=true):fQ z H (n+2) (.fn f [] [.mp id ver 0 0])=.fn f [] [.pp cells]:=by
  simp only [fQ,hH,Blk.own,List.map_nil,List.map_cons];simp [eF _ _ hc]
end
section
open Go
end
section
open Go
end
section
open Go
theorem aKi {K:(Nat->V)->bC->Prop} {T:Nat->V} {H:bC} {id ver ty sz:Nat} {lz:Bool} {r r':List V} (hH:H id=⟨ver,true,lz,ty,sz,[r]⟩) (hr:r.map nz=r')
    (h:G K T (cX H id ⟨ver,true,lz,ty,sz,[r']⟩)):G K T H:=
  aDx (rows:=[r]) (i:=0) (r:=r) hH (Nat.zero_lt_one) hr h
end
section
open Go
end
section
open Go
end
section
open Go
end
section
open Go
section
variable {P:Program} {k0:Nat} {r:List SO} {T:Nat->V} {H:bC} {K:(Nat->V)->bC->Prop} {d:Nat} {a b:SX}
variable {Q:Ex->(Nat->V)->bC->Prop}
theorem W_x {ps:List (Nat×Nat×Nat×Nat)} {ops:List SO} {b:SC} (h:dL P k0 ops T H λT H=>ddB ps ops T=true/\W P k0 b Q T H):W P k0 (.seq (.xreg ps ops) b) Q T H:=⟨k0,kZ (λ_ _ h=>⟨h.1,.done h.2⟩) h⟩
end
end
section
open Go
end
section
open Go
theorem wZ {a p:List Int} (h:hp a p=true):p.length<=a.length:=by grind [hp,kX]
def tO:List Tr->List Int->Option (List Int)
  |[],_=>none
  |t::l,w=>if hp t.ni w then some (t.no.take w.length) else tO l w
def eA (o:Ob) (w:List Int):Option (List Int):=if w=[] then some [] else tO o.tr w
theorem vR {w x:List Int}: ∀ {l:List Tr},tO l w=some x-> ∃ t∈l,hp t.ni w=true/\x=t.no.take w.length
  |[],h=>by cases h
  | t :: l, h => by
    simp only [tO] at h;split at h
    . grind
    . obtain ⟨s,h1,h2⟩:=vR h; exact ⟨s,List.mem_cons_of_mem _ h1,h2⟩
theorem aCZ {w:List Int}: ∀ {l:List Tr},tO l w=none-> ∀ t∈l,hp t.ni w=false
  |[],_,t,ht=>by cases ht
  | t :: l, h, s, hs => by
    simp only [tO] at h;split at h
    . cases h
    . rename_i g
      rcases List.mem_cons.1 hs with rfl|hs
      . simpa using g
      . exact aCZ h s hs
theorem OK.mem {o:Ob} (ok:OK o) {t:Tr} (ht:t∈o.tr):Proper t o.i/\0 < t.ni.length:=by obtain ⟨k,hk,rfl⟩:=gC ht; exact ok.pr k hk
theorem nH {o:Ob} (ok:OK o) {w:List Int} (h:(eA o w).isSome=true):((eA o w).getD []).length=w.length:=by
  obtain ⟨x,hx⟩:=Option.isSome_iff_exists.1 h;rw [hx];unfold eA at hx;split at hx
  . rename_i e; subst e; cases hx; rfl
  . obtain ⟨t,h1,h2,rfl⟩:=vR hx
    have:=wZ h2;have:=(ok.mem h1).1.len;simp; omega
abbrev fdA (a b:Tr):List Int:=a.no.take (gJ a.ni b.ni)
abbrev fdB (a b:Tr):List Int:=b.no.take (gJ a.ni b.ni)
def fd (a b:Tr):List (List Int):=if gJ (fdA a b) (fdB a b) < min (fdA a b).length (fdB a b).length then [a.ni.take (aQD (fdA a b) (fdB a b)+1)] else []
theorem OK.same {o:Ob} (ok:OK o) {s t:Tr} (hs:s∈o.tr) (ht:t∈o.tr) {j:Nat} (hj:j < gJ s.ni t.ni):aA s.no j=aA t.no j:=by
  obtain ⟨a,ha,rfl⟩:=gC hs;obtain ⟨b,hb,rfl⟩:=gC ht
  have key: ∀ a b,a < b->b < o.tr.length-> ∀ j,j < gJ (aA o.tr a).ni (aA o.tr b).ni->aA (aA o.tr a).no j=aA (aA o.tr b).no j:=by
    intro a b hab hb j hj;by_cases e:aA (aA o.tr a).no j=aA (aA o.tr b).no j
    . exact e
    . have h1:=ok.cla a b hab hb
      have h2:=aPe.2 ⟨j,hj,e⟩;omega
  grind [zB]
theorem aMN {p x y:List Int}:gJ (p++x) (p++y)=p.length+gJ x y:=by induction p <;> grind [gJ]
theorem aFF {x y:List Int} (h:hp y x=true):fS x y<=0:=by
  obtain ⟨z,rfl⟩:=sZ.1 h;cases z <;> grind [kE,fS]
end
section
open Go Go.Sort
theorem aAZ {α : Type} {le : α -> α -> Prop} : ∀ {l m : List α}, (∀ a ∈ l, ∀ b ∈ l, le a b -> le b a -> a = b) -> l.Perm m -> l.Pairwise le -> m.Pairwise le -> l = m
  |[],m,_,hp,_,_=>(List.perm_nil.1 hp.symm).symm
  |a::l,[],_,hp,_,_=>(List.cons_ne_nil _ _ (List.perm_nil.1 hp)).elim
  | a :: l, b :: m, anti, hp, h1, h2 => by
    have hb:b∈a::l:=hp.mem_iff.2<|List.mem_cons_self ..
    have ha:a∈b::m:=hp.mem_iff.1<|List.mem_cons_self ..
    have e:a=b:=by
      rcases List.mem_cons.1 hb with e|hb'
      . exact e.symm
      . rcases List.mem_cons.1 ha with e|ha'
        . exact e
        . exact anti a (List.mem_cons_self ..) b hb ((List.pairwise_cons.1 h1).1 b hb')<|(List.pairwise_cons.1 h2).1 a ha'
    subst e;rw [aAZ (λx hx y hy=>anti x (List.mem_cons_of_mem _ hx) y<|List.mem_cons_of_mem _ hy) (List.Perm.cons_inv hp) (List.pairwise_cons.1 h1).2 (List.pairwise_cons.1 h2).2]
def aIJ {α:Type} (cmp:α->α->Int) (a:α):List α->List α
  |[]=>[a]
  |b::l=>if cmp b a < 0 then b::aIJ cmp a l else a::b::l
def srt {α:Type} (cmp:α->α->Int) (l:List α):List α:=l.foldr (aIJ cmp) []
theorem aAz {α:Type} (cmp:α->α->Int) (a:α): ∀ l:List α,(aIJ cmp a l).Perm (a::l)
  |[]=>List.Perm.refl _
  | b :: l => by
    rw [aIJ];split
    . exact ((aAz cmp a l).cons b).trans (List.Perm.swap a b l)
    . exact List.Perm.refl _
theorem uN {α:Type} (cmp:α->α->Int): ∀ l:List α,(srt cmp l).Perm l
  |[]=>List.Perm.refl _
  |a::l=>(aAz cmp a (srt cmp l)).trans ((uN cmp l).cons a)
theorem pA {α:Type} (cmp:α->α->Int) (l:List α):(srt cmp l).length=l.length:=(uN cmp l).length_eq
theorem aAJ {α : Type} {cmp : α -> α -> Int} (hO : SWO λa b => decide (cmp a b < 0)) (a : α) : ∀ {l : List α}, (l.Pairwise λa b => ¬cmp b a < 0) -> (aIJ cmp a l).Pairwise λa b => ¬cmp b a < 0
  |[],_=>List.pairwise_singleton _ _
  | b :: l, h => by
    obtain ⟨h1,h2⟩:=List.pairwise_cons.1 h;rw [aIJ];split
    . rename_i q
      refine List.pairwise_cons.2 ⟨λx hx=>?_,aAJ hO a h2⟩;rcases List.mem_cons.1 ((aAz cmp a l).mem_iff.1 hx) with e|e
      . rw [e]; intro q2
        have:=hO.trans a b a (by simpa using q2) (by simpa using q);rw [hO.irrefl a] at this; cases this
      . exact h1 x e
    . rename_i q
      refine List.pairwise_cons.2 ⟨λx hx=>?_,h⟩;rcases List.mem_cons.1 hx with e|e
      . rw [e]; exact q
      . have:=hO.ntrans x b a (by simpa using h1 x e) (by simpa using q)
        simpa using this
theorem sR {α:Type} {cmp:α->α->Int} (hO:SWO λa b=>decide (cmp a b < 0)): ∀ l:List α,(srt cmp l).Pairwise λa b=> ¬cmp b a < 0
  |[]=>List.Pairwise.nil
  |a::l=>aAJ hO a (sR hO l)
end
section
open Go Go.Sort
theorem aA7 {a b:List Int}: ¬cY a b < 0↔cY b a<=0:=by grind [sH,uP]
theorem aM7 {a b c:List Int} (h1:cY a b<=0) (h2:cY b c<=0):cY a c<=0:=by
  by_cases e1:cY a b=0
  . rw [fJ.1 e1]; exact h2
  . by_cases e2:cY b c=0
    . rw [<- fJ.1 e2]; exact h1
    . have:=nC (a:=a) (b:=b) (c:=c) OM OM; omega
theorem OK.lt_of {o:Ob} (h: ∀ k,k+1 < o.tr.length->fS (aA o.tr k).ni (aA o.tr (k+1)).ni < 0): ∀ {i k:Nat},i < k->k < o.tr.length->fS (aA o.tr i).ni (aA o.tr k).ni < 0:=by
  intro i k hik hk
  induction k with
  |zero=>omega
  | succ k ih =>
    by_cases e:i=k
    . subst e; exact h i hk
    . exact kP (ih OM OM)<|h k hk
theorem aFe {a b c:List Int} (h1:cY a b<=0) (h2:cY b c<=0):gJ a c<=gJ a b/\gJ a c<=gJ b c:=by grind [hC,cY]
theorem aGY (t:Tr): ∀ (n k:Nat),(0<=fi (λj=>decide (aA t.no j < 0\/1048576 < aA t.no j)) k n↔fe (tT t) k n=2)/\(fe (tT t) k n=0\/fe (tT t) k n=2)
  |0,k=>by simp [fi,fe]
  | n + 1, k => by
    simp only [fi,fe,tT];by_cases h:aA t.no k < 0\/1048576 < aA t.no k
    . simp [h]
    . simp only [h,decide_false,if_false,if_true]
      simpa using aGY t n (k+1)
theorem aIj {a b : Tr} (ha : a.no.length = a.ni.length) (hb : b.no.length = b.ni.length) :
    (if gJ (a.no.take<|gJ a.ni b.ni) (b.no.take<|gJ a.ni b.ni) < gJ a.ni b.ni then ((gJ (a.no.take<|gJ a.ni b.ni) (b.no.take<|gJ a.ni b.ni):Nat):Int) else -1)=df a b:=by
  have h1:=kX a.ni b.ni;have h2:=mV a.ni b.ni;generalize hn:gJ a.ni b.ni=n at*;have s:=hC (a.no.take n)<|b.no.take n
  have la:(a.no.take n).length=n:=by simp; omega
  have lb:(b.no.take n).length=n:=by simp; omega
  generalize hc:gJ (a.no.take n) (b.no.take n)=c at*;unfold df;rw [hn];by_cases g:c < n
  . rw [if_pos g]
    have hd:dfE a b c=true:=by
      grind [lA,dfE]
    have hz: ∀ j,j < c->dfE a b j=false:=λj hj=>by
      grind [lA,dfE]
    grind [sV,xP]
  . rw [if_neg g]
    by_cases h0:0<=fi (dfE a b) 0 n
    . grind [xP,dfE,lA]
    . have: ∀ {p:Nat->Bool} {m k:Nat},¬0<=fi p k m->fi p k m= -1:=by
        intro p m
        induction m <;> grind [fi]
      rw [this h0]
theorem aIX {w:List Int}: ∀ {l:List Tr},fi (λj=>(λt:Tr=>hp t.ni w) (aA l j)) 0 l.length < 0->tO l w=none:=by
  intro l h;cases hq:tO l w with
  |none=>rfl
  | some x =>
    exfalso;obtain ⟨t,ht,h2,_⟩:=vR hq;obtain ⟨j,hj,rfl⟩:=gC ht;have:=(sV (p:=λj=>(λt:Tr=>hp t.ni w) (aA l j)) (n:=l.length) (k:=0)).2 ⟨j,OM,OM,h2⟩;omega
theorem aCi {w:List Int}: ∀ {l:List Tr} {k:Nat},k < l.length->hp (aA l k).ni w=true->(∀ j,j < k->hp (aA l j).ni w=false)->tO l w=some ((aA l k).no.take w.length)
  |[],k,h,_,_=>by simp at h
  |t::l,0,_,h2,_=>by simp only [tO]; rw [if_pos (show hp t.ni w=true from h2)]; rfl
  | t :: l, k + 1, h1, h2, h3 => by
    simp only [tO];rw [if_neg (by have:=h3 0 OM; simpa [jY] using this)];exact aCi (by simpa using h1) h2 λj hj=>h3 (j+1) OM
theorem aKZ {w:List Int} {l:List Tr} (h:0<=fi (λj=>(λt:Tr=>hp t.ni w) (aA l j)) 0 l.length):
    (fi (λj=>(λt:Tr=>hp t.ni w) (aA l j)) 0 l.length).toNat < l.length/\hp (aA l (fi (λj=>(λt:Tr=>hp t.ni w) (aA l j)) 0 l.length).toNat).ni w=true/\
    tO l w=some ((aA l (fi (λj=>(λt:Tr=>hp t.ni w) (aA l j)) 0 l.length).toNat).no.take w.length):=by grind [xP,aCi]
theorem aAn (m:M): ∀ (w:List Int) (s:Int) (k:Nat),aQ m s (w.take k)=(aQ m s w).take k
  |[],s,k=>by simp [aQ]
  |a::w,s,0=>by simp [aQ]
  |a::w,s,k+1=>by simp [aQ,aAn m w]
end
section
open Go.Sort
theorem aDh {a b:List Int}: ¬fS a b < 0↔fS b a<=0:=by grind [aIx,vK]
theorem aIe:SWO λa b:List Int=>decide (fS a b < 0) where
  irrefl a:=by rw [kE.2 J]; decide
  trans a b c h1 h2:=by simp only [decide_eq_true_eq] at*; exact kP h1 h2
  ntrans a b c h1 h2:=by
    simp only [decide_eq_false_iff_not,aDh] at*;exact aO7 h2 h1
theorem aFK {a b:List Int} (h1: ¬fS a b < 0) (h2: ¬fS b a < 0):a=b:=aFc (aDh.1 h2) (aDh.1 h1)
theorem aBi (a:List Int): ¬fS a a < 0:=by grind [kE]
def vY (l:List (List Int)):Prop:=l.Pairwise λa b=>fS a b < 0
theorem zK : ∀ {l m : List (List Int)}, vY l -> vY m -> (∀ u, u ∈ l ↔ u ∈ m) -> l = m
  |[],[],_,_,_=>rfl
  |[],b::m,_,_,h=>by have:=(h b).2 SI; simp at this
  |a::l,[],_,_,h=>by have:=(h a).1 SI; simp at this
  | a :: l, b :: m, hl, hm, h => by
    obtain ⟨l1,l2⟩:=List.pairwise_cons.1 hl;obtain ⟨m1,m2⟩:=List.pairwise_cons.1 hm
    have e:a=b:=by
      rcases List.mem_cons.1 ((h a).1 SI) with e|e
      . exact e
      . rcases List.mem_cons.1 ((h b).2 SI) with g|g
        . exact g.symm
        . exact (aBi a<|kP (l1 b g)<|m1 a e).elim
    subst e;rw [zK l2 m2 λu=>?_];constructor
    . intro hu
      rcases List.mem_cons.1 ((h u).1 (List.mem_cons_of_mem _ hu)) with e|e
      . subst e; exact (aBi _<|l1 _ hu).elim
      . exact e
    . intro hu
      rcases List.mem_cons.1 ((h u).2 (List.mem_cons_of_mem _ hu)) with e|e
      . subst e; exact (aBi _<|m1 _ hu).elim
      . exact e
def plP (w u:List Int):Bool:=decide (fS u w < 0)
def pO (l:List (List Int)) (w:List Int):Nat:=(l.takeWhile (plP w)).length
theorem aHD {w a:List Int} {l:List (List Int)}:pO (a::l) w=if plP w a=true then pO l w+1 else 0:=by grind [pO,List.takeWhile_cons]
theorem aIh {w:List Int}: ∀ l:List (List Int),pO l w<=l.length
  |[]=>Nat.le_refl _
  |a::l=>by rw [aHD]; have:=aIh (w:=w) l; split <;> simp <;> omega
theorem aAl {w:List Int}: ∀ {l:List (List Int)} (_:vY l) {k:Nat},k < l.length->(fS (aA l k) w < 0↔k < pO l w)
  |[],_,k,hk=>by simp at hk
  | a :: l, h, k, hk => by
    rw [aHD];obtain ⟨h1,h2⟩:=List.pairwise_cons.1 h;by_cases e:plP w a=true
    . rw [if_pos e]
      cases k with
      |zero=>grind [jY,plP]
      |succ k=>rw [kW,aAl h2 (by simpa using hk)]; omega
    grind [plP,kP,cW]
def wiH (l:List (List Int)) (w:List Int):Prop:=pO l w < l.length/\aA l (pO l w)=w
instance (l:List (List Int)) (w:List Int):Decidable (wiH l w):=inferInstanceAs (Decidable (_/\_))
def wiW (l:List (List Int)) (w:List Int):List (List Int):=if wiH l w then l else l.take (pO l w)++w::l.drop (pO l w)
def fB (l:List (List Int)):List (List Int):=l.foldl wiW []
theorem aFP {l:List (List Int)} {k:Nat} (h:k < l.length):fB (l.take (k+1))=wiW (fB (l.take k)) (aA l k):=by grind [fB,cV]
theorem aMF {l:List (List Int)} {w u:List Int}:u∈wiW l w↔u∈l\/u=w:=by
  unfold wiW;split
  . rename_i h
    refine ⟨.inl,λq=>q.elim id λe=>?_⟩;rw [e];have:=cW h.1
    rwa [h.2] at this
  grind [List.take_append_drop]
theorem aMl {l : List (List Int)} (h : vY l) (w : List Int) : vY (wiW l w) := by
  unfold wiW;split
  . exact h
  . rename_i hn
    have hsp:=h;unfold vY at hsp;rw [<- List.take_append_drop (pO l w) l,List.pairwise_append] at hsp;obtain ⟨p1,p2,p3⟩:=hsp;have hle:=aIh (w:=w) l
    have lo: ∀ a∈l.take (pO l w),fS a w < 0:=λa ha=>by
      grind [gC,lA,aAl]
    have hi: ∀ b∈l.drop (pO l w),fS w b < 0:=λb hb=>by
      obtain ⟨j,hj,rfl⟩:=gC hb;rw [List.length_drop] at hj;rw [rX]
      have h1: ¬fS (aA l<|pO l w+j) w < 0:=λq=>by
        grind [aAl]
      by_cases e:fS w (aA l<|pO l w+j) < 0
      . exact e
      . exfalso
        have heq:=aFK h1 e;have h0:pO l w < l.length:=OM
        by_cases ej:j=0
        . subst ej; exact hn ⟨h0,by simpa using heq⟩
        grind [List.pairwise_iff_getElem,cP,aAl]
    grind [vY,List.pairwise_cons]
theorem aBp: ∀ (l kept:List (List Int)),vY kept->vY (l.foldl wiW kept)/\ ∀ u,u∈l.foldl wiW kept↔u∈kept\/u∈l
  |[],kept,h=>⟨h,λu=>by simp⟩
  | w :: l, kept, h => by
    obtain ⟨h1,h2⟩:=aBp l (wiW kept w)<|aMl h w
    grind [aMF]
theorem sS (l:List (List Int)):vY (fB l):=(aBp l [] List.Pairwise.nil).1
theorem kI (l:List (List Int)) (u:List Int):u∈fB l↔u∈l:=by unfold fB; rw [(aBp l [] List.Pairwise.nil).2 u]; simp
def eZ (L:List (List Int)):Nat->List (List Int)
  |0=>[]
  |j+1=>if j=0\/aA L j≠aA L (j - 1) then eZ L j++[aA L j] else eZ L j
def oA (L:List (List Int)) (j:Nat):List (List Int):=eZ L j++L.drop (eZ L j).length
theorem aBP (L:List (List Int)): ∀ j,(eZ L j).length<=j
  |0=>Nat.le_refl _
  | j + 1 => by
    have:=aBP L j
    grind [eZ]
theorem aH6 {L:List (List Int)} {j:Nat} (h:j<=L.length):(oA L j).length=L.length:=by grind [aBP,oA]
theorem aMM {L:List (List Int)} {j k:Nat} (h:(eZ L j).length<=k):aA (oA L j) k=aA L k:=by grind [oA,aA]
theorem jE {L:List (List Int)} {j:Nat} (h:j=0\/aA L j≠aA L (j - 1)):eZ L (j+1)=eZ L j++[aA L j]:=if_pos h
theorem jX {L:List (List Int)} {j:Nat} (h: ¬(j=0\/aA L j≠aA L (j - 1))):eZ L (j+1)=eZ L j:=if_neg h
theorem aFk {L:List (List Int)} {j:Nat} (h: ¬(j=0\/aA L j≠aA L (j - 1))):oA L (j+1)=oA L j:=by grind [oA,jX]
theorem aEj {α:Type} {a l:List α} {x:α} (h:a.length < l.length):(a++l.drop a.length).set a.length x=a++[x]++l.drop (a.length+1):=by grind [List.drop_eq_getElem_cons]
theorem aEr {L:List (List Int)} {j:Nat} (hj:j < L.length) (h:j=0\/aA L j≠aA L (j - 1)):(oA L j).set (eZ L j).length (aA L j)=oA L (j+1):=by grind [aBP,oA,jE,aEj]
theorem aEl {L:List (List Int)}: ∀ {j:Nat},j<=L.length->(∀ i,1<=i->i < j->aA L i≠aA L (i - 1))->eZ L j=L.take j
  |0,_,_=>by simp [eZ]
  | j + 1, hj, h => by
    rw [jE (by by_cases e:j=0; exact .inl e; exact .inr (h j OM OM)),aEl OM λi h1 h2=>h i h1 OM,cV OM]
theorem zN {L : List (List Int)} : ∀ {j : Nat}, j <= L.length -> ∀ u, u ∈ eZ L j ↔ u ∈ L.take j
  |0,_,u=>by simp [eZ]
  | j + 1, hj, u => by
    have ih:=zN (L:=L) (j:=j) OM u;rw [cV OM,List.mem_append,List.mem_singleton];by_cases h:j=0\/aA L j≠aA L (j - 1)
    . grind [jE]
    . rw [jX h,ih]
      refine ⟨.inl,λq=>q.elim id λe=>?_⟩
      have e2:aA L j=aA L (j - 1):=by
        grind
      have:aA (L.take j) (j - 1)=u:=by grind [lA]
      grind [cW]
theorem aHv {L:List (List Int)} (hs:L.Pairwise λa b=> ¬fS b a < 0): ∀ {j:Nat},j<=L.length->vY (eZ L j)
  |0,_=>List.Pairwise.nil
  | j + 1, hj => by
    have ih:=aHv hs (j:=j) OM;by_cases h:j=0\/aA L j≠aA L (j - 1)
    . rw [jE h,vY,List.pairwise_append]
      refine ⟨ih,SI,λa ha b hb=>?_⟩;rw [List.mem_singleton.1 hb];have ha':=(zN (L:=L) OM a).1 ha;obtain ⟨i,hi,rfl⟩:=gC ha'
      grind [aA,List.pairwise_iff_getElem,aDh,aFc]
    . rw [jX h]; exact ih
def sdP (l:List (List Int)):List (List Int):=eZ (srt fS l) (srt fS l).length
theorem aDS (l:List (List Int)):sdP l=fB l:=by grind [zK,aHv,sR,aIe,sS,sdP,zN,kI,uN]
theorem yV (l:List (List Int)):(fB l).length<=l.length:=by
  rw [<- aDS]
  grind [aBP,sdP,pA]
end
section
open Go
theorem aGv {p:Nat->Bool}: ∀ n k,-1<=fi p k n/\(0<=fi p k n->fi p k n < ((k+n:Nat):Int))
  |0,k=>⟨Int.le_refl _,λh=>by simp [fi] at h⟩
  | n + 1, k => by
    simp only [fi];split
    . exact ⟨OM,λ_=>by omega⟩
    . have h:=aGv (p:=p) n<|k+1
      exact ⟨h.1,λh0=>by have:=h.2 h0; omega⟩
end
section
def lbP (t u:Tr):Bool:=decide (fS u.ni t.ni < 0)
def lbN (l:List Tr) (t:Tr):Nat:=(l.takeWhile (lbP t)).length
def Srt (l:List Tr):Prop:=l.Pairwise λa b=>fS a.ni b.ni < 0
theorem aDt {t a:Tr} {l:List Tr}:lbN (a::l) t=if lbP t a=true then lbN l t+1 else 0:=by grind [lbN,List.takeWhile_cons]
theorem aL3 {t:Tr}: ∀ l:List Tr,lbN l t<=l.length
  |[]=>Nat.le_refl _
  |a::l=>by rw [aDt]; have:=aL3 (t:=t) l; split <;> simp <;> omega
theorem aF7 {t:Tr}: ∀ {l:List Tr} (_:Srt l) {k:Nat},k < l.length->(fS (aA l k).ni t.ni < 0↔k < lbN l t)
  |[],_,k,hk=>by simp at hk
  | a :: l, h, k, hk => by
    rw [aDt];obtain ⟨h1,h2⟩:=List.pairwise_cons.1 h;by_cases e:lbP t a=true
    . rw [if_pos e]
      cases k with
      |zero=>grind [jY,lbP]
      |succ k=>rw [kW,aF7 h2 (by simpa using hk)]; omega
    grind [lbP,kP,cW]
theorem aED {t:Tr}: ∀ {l:List Tr} (_:Srt l),l.take (lbN l t)=l.filter (lbP t)/\l.drop (lbN l t)=l.filter λu=> !lbP t u
  |[],_=>⟨rfl,rfl⟩
  | a :: l, h => by
    obtain ⟨h1,h2⟩:=List.pairwise_cons.1 h;rw [aDt];by_cases e:lbP t a=true
    . obtain ⟨g1,g2⟩:=aED (t:=t) h2
      rw [if_pos e]; simp [e,g1,g2]
    grind [lbP,kP,List.filter_eq_nil_iff,List.filter_eq_self]
def kp (t u:Tr):Bool:= !hp t.ni u.ni
def rL (t:Tr) (l:List Tr) (k:Nat):List Tr:=(l.take k).filter (kp t)
def xT (t:Tr) (l:List Tr) (k:Nat):List Tr:=rL t l k++l.drop (rL t l k).length
theorem aKe (t:Tr) (l:List Tr) (k:Nat):(rL t l k).length<=k/\(rL t l k).length<=l.length:=by grind [rL]
theorem aMU (t:Tr) (l:List Tr) (k:Nat):(xT t l k).length=l.length:=by grind [aKe,xT]
theorem aDN {t:Tr} {l:List Tr} {k:Nat}:aA (xT t l k) k=aA l k:=by grind [xT,aA,rL]
theorem yQ {t:Tr} {l:List Tr} {k:Nat} (hk:k < l.length) (h:kp t (aA l k)=true):rL t l (k+1)=rL t l k++[aA l k]:=by grind [rL,cV]
theorem uO {t:Tr} {l:List Tr} {k:Nat} (hk:k < l.length) (h: ¬kp t (aA l k)=true):rL t l (k+1)=rL t l k:=by grind [rL,cV]
theorem aKf {t:Tr} {l:List Tr} {k:Nat} (hk:k < l.length) (h: ¬kp t (aA l k)=true):xT t l (k+1)=xT t l k:=by unfold xT; rw [uO hk h]
theorem aA5 {α:Type} {a l:List α} {x:α} (h:a.length < l.length):(a++l.drop a.length).set a.length x=a++[x]++l.drop (a.length+1):=by grind [List.drop_eq_getElem_cons]
theorem aLC {t:Tr} {l:List Tr} {k:Nat} (hk:k < l.length) (h:kp t (aA l k)=true):(xT t l k).set (rL t l k).length (aA l k)=xT t l (k+1):=by grind [aKe,xT,yQ,aA5]
theorem aHk {t:Tr} {l:List Tr} (h:fi (λj=>(λu:Tr=>hp t.ni u.ni) (aA l j)) 0 l.length < 0):l.filter (kp t)=l:=by
  replace h:fi (λj=>hp t.ni (aA l j).ni) 0 l.length < 0:=h;refine List.filter_eq_self.2 λu hu=>?_;obtain ⟨j,hj,rfl⟩:=gC hu;unfold kp;cases e:hp t.ni (aA l j).ni with
  |false=>rfl
  | true =>
    have:=sV (p:=λj=>hp t.ni (aA l j).ni) (n:=l.length) (k:=0)|>.2 ⟨j,Nat.zero_le _,OM,e⟩
    omega
theorem aLb {t:Tr} {l:List Tr} (h:0<=fi (λj=>(λu:Tr=>hp t.ni u.ni) (aA l j)) 0 l.length):
    ∃ i:Nat,fi (λj=>(λu:Tr=>hp t.ni u.ni) (aA l j)) 0 l.length=i/\i < l.length/\(rL t l<|i+1).length=i/\xT t l (i+1)=l:=by
  show ∃ i:Nat,fi (λj=>hp t.ni (aA l j).ni) 0 l.length=i/\i < l.length/\(rL t l<|i+1).length=i/\xT t l (i+1)=l;replace h:0<=fi (λj=>hp t.ni (aA l j).ni) 0 l.length:=h;obtain ⟨_,h2,h3,h4⟩:=xP h;refine ⟨(fi (λj=>hp t.ni (aA l j).ni) 0 l.length).toNat,OM,OM,?_⟩;generalize (fi (λj=>hp t.ni (aA l j).ni) 0 l.length).toNat=i at h2 h3 h4
  have e1:rL t l i=l.take i:=List.filter_eq_self.2 λu hu=>by
    grind [gC,lA,kp]
  grind [uO,kp,xT,List.take_append_drop]
def inP (l:List Tr) (t:Tr) (j:Nat):Bool:=hp (aA l j).ni t.ni
def ndP (l:List Tr) (t:Tr) (j:Nat):Bool:=decide (0<=df (aA l j) t)
def ins (l:List Tr) (t:Tr):List Tr:=l.filter (lbP t)++t::l.filter λu=> !lbP t u
def inL (l:List Tr) (t:Tr):Prop:=exB (inP l t) 0 l.length=true\/t.ni.length=0
instance (l:List Tr) (t:Tr):Decidable (inL l t):=inferInstanceAs (Decidable (_\/_))
def lV (l:List Tr) (t:Tr):List Tr:=if inL l t then l else ins (l.filter (kp t)) t
def oJ (l:List Tr) (t:Tr):Int:=if 0<=fi (ndP l t) 0 l.length then 13 else if inL l t then 0 else if (l.filter (kp t)).length=10000 then 11 else 0
theorem aDM (l:List Tr) (t:Tr):(ins l t).length=l.length+1:=by
  unfold ins;rw [List.length_append,List.length_cons]
  have: ∀ m:List Tr,(m.filter<|lbP t).length+(m.filter λu=> !lbP t u).length=m.length:=λm=>by
    induction m <;> grind
  have:=this l;omega
theorem OK.srt {o:Ob} (h:OK o):Srt o.tr:=by
  rw [Srt,List.pairwise_iff_getElem];intro i j hi hj hij;rw [cP hi,cP hj];exact OK.lt_of h.ord hij hj
theorem aCq {l:List Tr} (h:Srt l) (p:Tr->Bool):Srt (l.filter p):=h.filter p
theorem aPf {l:List Tr} {t:Tr} (h:Srt l):l.take (lbN l t)++t::l.drop (lbN l t)=ins l t:=by grind [aED,ins]
def okR (a b:Tr):Prop:=fS a.ni b.ni < 0/\hp b.ni a.ni=false/\df a b < 0
theorem OK.pair {o:Ob} (h:OK o):o.tr.Pairwise okR:=by
  rw [List.pairwise_iff_getElem];intro i j hi hj hij;rw [cP hi,cP hj];exact ⟨OK.lt_of h.ord hij hj,h.pre i j hij hj,h.cla i j hij hj⟩
theorem OK.of {i:Int} {l:List Tr} (hi:1<=i/\i<=64) (hl:l.length<=10000) (hm: ∀ t∈l,Proper t i/\0 < t.ni.length) (h:l.Pairwise okR):OK ⟨i,l⟩:=by
  rw [List.pairwise_iff_getElem] at h
  have h': ∀ a b,a < b->b < l.length->okR (aA l a) (aA l b):=λa b hab hb=>by
    grind [cP]
  exact ⟨hi,hl,λk hk=>hm _ (cW hk),λk hk=>(h' k (k+1) OM hk).1,λa b hab hb=>(h' a b hab hb).2.1,λa b hab hb=>(h' a b hab hb).2.2⟩
theorem aDY {l:List Tr} {t:Tr} (h: ¬inL l t) {u:Tr} (hu:u∈l):hp u.ni t.ni=false:=by
  obtain ⟨j,hj,rfl⟩:=gC hu;cases e:hp (aA l j).ni t.ni with
  |false=>rfl
  |true=>exact (h (.inl (nI.2 ⟨j,hj,by rw [Nat.zero_add]; exact e⟩))).elim
theorem aDF (w:List Int):hp w w=true:=by grind [hp,aFh]
theorem aAb {l:List Tr} {t:Tr} (h: ¬inL l t) {u:Tr} (hu:u∈l):fS t.ni u.ni < 0↔lbP t u=false:=by
  have h1:=aDY h hu
  grind [lbP,vK,kE,aDF,aIx]
theorem aFQ {l:List Tr} {t:Tr} (h: ¬0<=fi (ndP l t) 0 l.length) {u:Tr} (hu:u∈l):df u t < 0:=by
  obtain ⟨j,hj,rfl⟩:=gC hu;by_cases e:0<=df (aA l j) t
  . simp_all [sV,ndP]
  . omega
theorem aJN {i : Int} {l : List Tr} {t : Tr} (ho : OK ⟨i, l⟩) (ht : vZ t i = 0) (he : oJ l t = 0) : OK ⟨i, lV l t⟩ := by
  unfold oJ at he;split at he; · cases he
  rename_i hn;split at he
  . grind [lV]
  rename_i h1;split at he; · cases he
  rename_i h2;unfold lV; rw [if_neg h1];have hlen:=ho.len;have hfl:=List.length_filter_le (kp t) l;refine OK.of ho.hi (by grind [aDM]) (λu hu=>?_) ?_
  . simp only [ins,List.mem_append,List.mem_cons,List.mem_filter] at hu
    rcases hu with h|rfl|h
    . exact ho.mem h.1.1
    . exact ⟨aBx ht,by have: ¬u.ni.length=0:=λe=>h1 (.inr e); omega⟩
    . exact ho.mem h.1.1
  . have hp:=(ho.pair.filter<|kp t)
    simp only [ins];rw [List.pairwise_append];refine ⟨hp.filter _,List.pairwise_cons.2 ⟨λy hy=>?_,hp.filter _⟩,λx hx y hy=>?_⟩
    . simp only [List.mem_filter] at hy
      obtain ⟨⟨g1,g2⟩,g3⟩:=hy;exact ⟨(aAb h1 g1).2 (by simpa using g3),aDY h1 g1,by rw [aNc]; exact aFQ hn g1⟩
    . simp only [List.mem_filter,List.mem_cons] at hx hy
      obtain ⟨⟨g1,g2⟩,g3⟩:=hx;rcases hy with rfl|⟨⟨k1,k2⟩,k3⟩
      . exact ⟨by simpa [lbP] using g3,by simpa [kp] using g2,aFQ hn g1⟩
      . have hxy:fS x.ni y.ni < 0:=by
          obtain ⟨q1,q2⟩:fS x.ni t.ni < 0/\fS t.ni y.ni < 0:=⟨by simpa [lbP] using g3,(aAb h1 k1).2 (by simpa using k3)⟩;exact kP q1 q2
        obtain ⟨a,ha,rfl⟩:=gC g1;obtain ⟨b,hb,rfl⟩:=gC k1
        have hab:a < b:=by
          rcases Nat.lt_trichotomy a b with h|h|h
          . exact h
          . grind
          . have:=OK.lt_of ho.ord h ha; have:=vK hxy; simp only at*; omega
        exact ⟨hxy,ho.pre a b hab hb,ho.cla a b hab hb⟩
def doA (l:List Tr) (t:Tr):Nat->Bool
  |0=>decide (t.ni.length=0)
  |k+1=>doA l t k||hp (aA l k).ni t.ni
def kpR (t u:Tr):Bool:= !hp t.ni u.ni||decide (t.ni.length=u.ni.length)
def kG (l : List Tr) (t : Tr) : Nat -> List Tr × Bool
  |0=>([],doA l t l.length)
  | k + 1 =>
    let a:=if (!(kG l t k).2&&decide (fS t.ni (aA l k).ni < 0))=true then ((kG l t k).1++[t],true) else kG l t k
    if kpR t (aA l k)=true then (a.1++[aA l k],a.2) else a
def raL (l:List Tr) (t:Tr):List Tr:=if (kG l t l.length).2=true then (kG l t l.length).1 else (kG l t l.length).1++[t]
section
variable {l:List Tr} {t:Tr} {k:Nat}
theorem aG7 (h1:(!(kG l t k).2&&decide (fS t.ni (aA l k).ni < 0))=true) (h2:kpR t (aA l k)=true):kG l t (k+1)=((kG l t k).1++[t]++[aA l k],true):=by grind [kG]
theorem aGt (h1:(!(kG l t k).2&&decide (fS t.ni (aA l k).ni < 0))=true) (h2:kpR t (aA l k)=false):kG l t (k+1)=((kG l t k).1++[t],true):=by grind [kG]
theorem aGI (h1:(!(kG l t k).2&&decide (fS t.ni (aA l k).ni < 0))=false) (h2:kpR t (aA l k)=true):kG l t (k+1)=((kG l t k).1++[aA l k],(kG l t k).2):=by grind [kG]
theorem aF9 (h1:(!(kG l t k).2&&decide (fS t.ni (aA l k).ni < 0))=false) (h2:kpR t (aA l k)=false):kG l t (k+1)=kG l t k:=by grind [kG]
end
theorem aHb (l : List Tr) (t : Tr) : ∀ k, doA l t k = true ↔ t.ni.length = 0 \/ exB (inP l t) 0 k = true
  |0=>by simp [doA,exB]
  | k + 1 => by
    simp only [doA,Bool.or_eq_true,aHb l t k,nI,Nat.zero_add,inP];constructor
    . rintro ((h|⟨j,h1,h2⟩)|h)
      . exact .inl h
      . exact .inr ⟨j,OM,h2⟩
      . exact .inr ⟨k,OM,h⟩
    . rintro (h|⟨j,h1,h2⟩)
      . exact .inl (.inl h)
      . by_cases e:j=k
        . subst e; exact .inr h2
        . exact .inl (.inr ⟨j,OM,h2⟩)
theorem aJ4 (l:List Tr) (t:Tr):doA l t l.length=true↔inL l t:=by rw [aHb]; exact Or.comm
theorem aET {a b c:List Int} (h1:hp a b=true) (h2:hp b c=true):hp a c=true:=by grind [sZ]
theorem aHS {a b:List Int} (h1:hp a b=true) (h2:a.length<=b.length):a=b:=by
  obtain ⟨x,rfl⟩:=sZ.1 h1
  have:x=[]:=by cases x with
    |nil=>rfl
    |cons c x=>simp at h2; omega
  simp [this]
theorem aQr {o : Ob} (ho : OK o) {t : Tr} (h : inL o.tr t) {k : Nat} (hk : k < o.tr.length) : kpR t (aA o.tr k) = true := by
  unfold kpR;cases e:hp t.ni (aA o.tr k).ni with
  |false=>rfl
  | true =>
    simp only [Bool.not_true,Bool.false_or,decide_eq_true_eq];rcases h with h|h
    . obtain ⟨j,hj,h1⟩:=nI.1 h
      rw [Nat.zero_add] at h1;have h2:hp (aA o.tr j).ni (aA o.tr k).ni=true:=aET h1 e;have h3:=wZ h1;have h4:=wZ e;rcases Nat.lt_trichotomy j k with q|q|q
      . have h5:=OK.lt_of ho.ord q hk
        grind [fS]
      . subst q; omega
      . rw [ho.pre k j q hj] at h2; cases h2
    . have:=wZ e
      have:=(ho.pr k hk).2;omega
theorem aLh {o:Ob} (ho:OK o) {t:Tr} (h:inL o.tr t): ∀ {k:Nat},k<=o.tr.length->kG o.tr t k=(o.tr.take k,true)
  |0,_=>by simp [kG,(aJ4 o.tr t).2 h]
  | k + 1, hk => by
    simp only [kG,aLh ho h (show k<=o.tr.length by omega),aQr ho h (show k < o.tr.length by omega)];simp [cV (show k < o.tr.length by omega)]
theorem aO6 {l:List Tr} {t:Tr} (h: ¬inL l t) {u:Tr} (hu:u∈l):kpR t u=kp t u:=by grind [kpR,kp,aHS,aDY]
theorem aHG {o : Ob} (ho : OK o) {t : Tr} (h : ¬inL o.tr t) : ∀ {k : Nat}, k <= o.tr.length ->
    ((kG o.tr t k).2=false/\(kG o.tr t k).1=(o.tr.take k).filter (kp t)/\ ∀ u∈o.tr.take k,lbP t u=true)\/
    ((kG o.tr t k).2=true/\(kG o.tr t k).1=ins ((o.tr.take k).filter (kp t)) t/\ ∃ j,j < k/\lbP t (aA o.tr j)=false)
  | 0, _ => by
    grind [kG,aJ4]
  | k + 1, hk => by
    have hk':k < o.tr.length:=OM
    have hm:aA o.tr k∈o.tr:=cW hk';have ek:=aO6 h hm
    have et:(o.tr.take<|k+1).filter (kp t)=(o.tr.take k).filter (kp t)++if kp t (aA o.tr k)=true then [aA o.tr k] else []:=by
      grind [cV]
    have hlt:=aAb h hm
    have insF: ∀ (F:List Tr),(∀ u∈F,lbP t u=true)->ins F t=F++[t]:=λF hF=>by
      unfold ins; rw [List.filter_eq_self.2 hF,List.filter_eq_nil_iff.2 λu hu=>by simp [hF u hu]]
    have insA: ∀ (F:List Tr) (x:Tr),lbP t x=false->ins (F++[x]) t=ins F t++[x]:=λF x hx=>by
      grind [ins]
    rcases aHG ho h (show k<=o.tr.length by omega) with ⟨g1,g2,g3⟩|⟨g1,g2,j,g3,g4⟩
    . by_cases c:fS t.ni (aA o.tr k).ni < 0
      . have c2:=hlt.1 c
        right;have hF: ∀ u∈(o.tr.take k).filter (kp t),lbP t u=true:=λu hu=>g3 u (List.mem_filter.1 hu).1
        refine ⟨?_,?_,k,OM,c2⟩
        . grind [kG]
        . rw [et]
          simp only [kG,g1,c,ek];cases e:kp t (aA o.tr k)
          all_goals (simp_all)
      . have c2:lbP t (aA o.tr k)=true:=by
          grind
        left;refine ⟨?_,?_,λu hu=>?_⟩
        all_goals (grind [kG,cV])
    . have c2:lbP t (aA o.tr k)=false:=by
        have h5:=OK.lt_of ho.ord g3 hk'
        grind [lbP,kP]
      right;refine ⟨?_,?_,j,OM,g4⟩
      all_goals (grind [kG])
theorem aJ5 {o:Ob} (ho:OK o) (t:Tr):raL o.tr t=lV o.tr t:=by
  unfold raL lV;by_cases h:inL o.tr t
  . grind [aLh]
  grind [aHG,ins,List.filter_eq_self,List.filter_eq_nil_iff]
theorem aHi {l:List Tr} {t:Tr}: ∀ k,(kG l t k).1.length<=2*k
  |0=>by simp [kG]
  | k + 1 => by
    have:=aHi (l:=l) (t:=t) k
    grind [kG]
end
section
theorem Tr.eq_iff {a b:Tr}:a=b↔a.ni=b.ni/\a.no=b.no:=by cases a; cases b; simp
theorem Ob.eq_iff {a b:Ob}:a=b↔a.i=b.i/\a.tr=b.tr:=by cases a; cases b; simp
instance:DecidableEq Tr:=λ_ _=>decidable_of_iff _ Tr.eq_iff.symm
instance:DecidableEq Ob:=λ_ _=>decidable_of_iff _ Ob.eq_iff.symm
end
section
def rT (i:Int):List Tr->List Tr->List Tr×Int
  |acc,[]=>(acc,0)
  |acc,t::l=>if vZ t i≠0 then ([],vZ t i) else if oJ acc t≠0 then ([],oJ acc t) else rT i (lV acc t) l
def tF (o:Ob) (l:List Tr):Ob:=if (rT o.i o.tr l).2≠0 then o else ⟨o.i,(rT o.i o.tr l).1⟩
theorem aPz {i:Int} {acc l:List Tr} {k:Nat} (hk:k < l.length) (h1:vZ (aA l k) i=0) (h2:oJ acc (aA l k)=0):rT i acc (l.drop k)=rT i (lV acc (aA l k)) (l.drop (k+1)):=by
  rw [mM hk,rT,if_neg OM,if_neg OM]
theorem aJS {i:Int} {acc l:List Tr} {k:Nat} (hk:k < l.length) (h1:vZ (aA l k) i≠0):rT i acc (l.drop k)=([],vZ (aA l k) i):=by
  rw [mM hk,rT,if_pos h1]
theorem aKA {i:Int} {acc l:List Tr} {k:Nat} (hk:k < l.length) (h1:vZ (aA l k) i=0) (h2:oJ acc (aA l k)≠0):rT i acc (l.drop k)=([],oJ acc (aA l k)):=by
  rw [mM hk,rT,if_neg OM,if_pos h2]
theorem aDC {i:Int} {acc l:List Tr} {k:Nat} (hk:l.length<=k):rT i acc (l.drop k)=(acc,0):=by
  rw [List.drop_of_length_le hk,rT]
theorem aJO {i:Int}: ∀ {l acc:List Tr},OK ⟨i,acc⟩->(rT i acc l).2=0->OK ⟨i,(rT i acc l).1⟩
  |[],acc,h,_=>h
  | t :: l, acc, h, he => by
    rw [rT] at he ⊢;split at he
    . contradiction
    rename_i h1;split at he
    . contradiction
    rename_i h2;rw [if_neg h1,if_neg h2];exact aJO (aJN h OM OM) he
theorem aDr {o:Ob} {l:List Tr} (h:OK o):OK (tF o l):=by
  unfold tF;split
  . exact h
  . rename_i h1; exact aJO h OM
theorem aA1 (o:Ob) (l:List Tr):(tF o l).i=o.i:=by unfold tF; split <;> rfl
end
section
theorem aEf (i:Int) (acc:List Tr) (t:Tr):rT i acc [t]=if vZ t i≠0 then ([],vZ t i) else if oJ acc t≠0 then ([],oJ acc t) else (lV acc t,0):=by
  simp only [rT]
theorem aL7 {o:Ob} (ho:OK o) (t:Tr):(rT o.i o.tr [t]).2=if vZ t o.i≠0 then vZ t o.i else if 0<=fi (ndP o.tr t) 0 o.tr.length then 13 else if 10000 < (raL o.tr t).length then 11 else 0:=by
  rw [aEf];split
  . rfl
  rename_i h1;rw [aJ5 ho];unfold oJ lV;have h9:=ho.len;have h8:=List.length_filter_le (kp t) o.tr;by_cases h2:0<=fi (ndP o.tr t) 0 o.tr.length
  . simp [h2]
  . simp only [if_neg h2]
    by_cases h3:inL o.tr t
    . simp only [if_pos h3]
      rw [if_neg OM,if_neg OM]
    . simp only [if_neg h3,aDM]
      by_cases h4:(o.tr.filter<|kp t).length=10000
      . rw [if_pos h4,if_pos OM,if_pos OM]
      . rw [if_neg h4,if_neg OM,if_neg OM]
theorem aNQ {o:Ob} (ho:OK o) (t:Tr):(tF o [t]).tr=if (rT o.i o.tr [t]).2≠0 then o.tr else raL o.tr t:=by
  unfold tF;split
  . rfl
  rename_i h1;rw [aJ5 ho];rw [aEf] at h1 ⊢;split at h1
  . rename_i h2; exact (h1 h2).elim
  rename_i h2;rw [if_neg h2];split at h1
  . rename_i h3; exact (h1 h3).elim
  rename_i h3;rw [if_neg h3]
end
section
theorem vF {o : Ob} (h : OK o) : kS o = 0 := by
  have hi:=h.hi;have hl:=h.len
  have h1:fe (trE o) 0 o.tr.length=0:=eG.2 λj _ hj=>by
    have hj':j < o.tr.length:=OM
    obtain ⟨p1,p2⟩:=h.pr j hj';have hw:dG (aA o.tr j).ni o.i=0:=aAy ⟨hi.1,OM⟩ p1.lel p1.sym
    have hp:vZ (aA o.tr j) o.i=0:=by
      rw [vZ,if_neg OM,if_neg (by have:=p1.len; omega)]
      exact eG.2 λk _ hk=>by
        have:=p1.out k OM;rw [tT,if_neg OM]
    rw [trE,if_neg OM,if_neg OM,if_neg OM,if_neg];intro q;have:=h.ord (j - 1) OM
    grind
  rw [kS,if_neg OM,if_neg OM,if_neg OM];refine eG.2 λj _ hj=>?_;have hj':j < o.tr.length:=OM
  rw [apE,if_neg,if_neg]
  . intro q
    obtain ⟨k,hk,e⟩:=nI.1 q;have:=h.cla j (j+1+k) OM OM
    grind [aKP]
  . intro q
    obtain ⟨k,hk,e⟩:=nI.1 q;have:=h.pre j (j+1+k) OM OM
    grind [aMV]
theorem OK.anti {o:Ob} (h:OK o) {u v:Tr} (hu:u∈o.tr) (hv:v∈o.tr) (e:hp v.ni u.ni=true):v=u:=by
  obtain ⟨a,ha,rfl⟩:=gC hu;obtain ⟨b,hb,rfl⟩:=gC hv;rcases Nat.lt_trichotomy a b with q|q|q
  . rw [h.pre a b q hb] at e; cases e
  . rw [q]
  . have h1:=OK.lt_of h.ord q ha
    grind [fS,aHS,fJ]
theorem aHc {l:List Tr} {s:Tr} (h:inL l s) (hs:0 < s.ni.length): ∃ w∈l,hp w.ni s.ni=true:=by
  rcases h with h|h
  . obtain ⟨j,hj,e⟩:=nI.1 h
    rw [Nat.zero_add] at e;exact ⟨aA l j,cW hj,e⟩
  . omega
theorem aH7 {l:List Tr} {t u:Tr}:u∈ins l t↔u∈l\/u=t:=by grind [ins]
end
section
theorem aHL: ∀ {l m:List Int},l.Nodup->(∀ a∈l,a∈m)->l.length<=m.length
  |[],_,_,_=>Nat.zero_le _
  | a :: l, m, hn, hs => by
    obtain ⟨h1,h2⟩:=List.nodup_cons.1 hn;have ha:a∈m:=hs a SI;have:=aHL (m:=m.erase a) h2 λb hb=>(List.mem_erase_of_ne (λe=>h1 (by rw [<- e]; exact hb))).2 (hs b<|List.mem_cons_of_mem _ hb)
    grind
def cB (b:Bool):List V:=[.bool b]
abbrev RS:=List Int×List Bool
theorem aA8 {α:Type} [Inhabited α] {l:List α} {i j:Nat} {x:α} (hi:i < l.length):aA (l.set i x) j=if i=j then x else aA l j:=by grind [aA]
end
section
structure Nd where
  lf:Bool
  ac:List Int
  sf:List Int
  ou:List (List Int)
  kd:List Int
  deriving Inhabited
abbrev cN (x:Nd):List V:=[.bool x.lf,aE x.ac,aE x.sf,aC x.ou,aE x.kd]
structure Dt where
  nd:List Nd
  deriving Inhabited
@[simp] theorem aOs (l:List Nd):hY (l.map cN)=true:=by simp_all [kB]
theorem Nd.eq_iff {a b:Nd}:a=b↔a.lf=b.lf/\a.ac=b.ac/\a.sf=b.sf/\a.ou=b.ou/\a.kd=b.kd:=by cases a; cases b; simp
theorem Dt.eq_iff {a b:Dt}:a=b↔a.nd=b.nd:=by cases a; cases b; simp
instance:DecidableEq Nd:=λ_ _=>decidable_of_iff _ Nd.eq_iff.symm
instance:DecidableEq Dt:=λ_ _=>decidable_of_iff _ Dt.eq_iff.symm
def ouE (w:List Int) (k:Nat):Int:=if aA w k < 0\/1048576 < aA w k then 2 else 0
def sJ (aQ suffix:List Int):Int:=if aQ.length≠suffix.length then 1 else fe (ouE aQ) 0 aQ.length
def lfE (x:Nd):Int:=if 0 < x.sf.length+x.ou.length+x.kd.length then 1 else dG x.ac 64
def chE (x:Nd) (n:Nat) (k:Nat):Int:=if sJ (aA x.ou k) x.sf≠0 then sJ (aA x.ou k) x.sf else if 0 < k/\0<=cY (aA x.ou (k - 1)) (aA x.ou k) then 10 else if aA x.kd k < 0\/(n:Int)<=aA x.kd k then 2 else 0
def oO (x:Nd) (n:Nat):Int:=
  if 0 < x.ac.length then 1 else if x.sf.length=0 then 19 else if dG x.sf 64≠0 then dG x.sf 64 else if x.ou.length≠x.kd.length then 1 else fe (chE x n) 0 x.ou.length
def lW (x:Nd) (n:Nat):Int:=if x.lf=true then lfE x else oO x n
def eP (l:List Nd):List (List Int):=(l.filter (·.lf)).map (·.ac)
theorem jF {l:List Nd} {k:Nat} (h:k < l.length):eP (l.take (k+1))=eP (l.take k)++if (aA l k).lf=true then [(aA l k).ac] else []:=by grind [eP,cV]
theorem jS (l:List Nd):(eP l).length<=l.length:=by grind [eP]
def qS (t:Dt) (P:List Int) (i:Nat):List Int:=P++(aA t.nd (aA P i).toNat).kd
structure KI (t:Dt):Prop where
  pos:0 < t.nd.length
  rng: ∀ k,k < t.nd.length-> ∀ a∈(aA t.nd k).kd,0<=a/\a < t.nd.length
def whI:RS->List Int->Option RS
  |P,[]=>some P
  |P,a::w=>if aA P.2 a.toNat=true then none else whI (P.1++[a],P.2.set a.toNat true) w
def whN (t:Dt):Nat->Nat->RS->Option RS
  |0,_,P=>some P
  |n+1,i,P=>if i < P.1.length then (whI P (aA t.nd (aA P.1 i).toNat).kd).bind (whN t n (i+1)) else some P
def wh0 (t:Dt):RS:=([0],(List.replicate t.nd.length false).set 0 true)
def whB (t:Dt):Bool:=match whN t t.nd.length 0 (wh0 t) with
  |some P=>decide (P.1.length=t.nd.length)
  |none=>false
def coN (t:Dt):Nat->Nat->RS->Option RS
  |0,_,P=>some P
  | n + 1, i, P => if i < P.1.length then if aA P.2 (aA P.1 i).toNat = true then none else if t.nd.length < (qS t P.1 i).length then none else
      coN t n (i+1) (qS t P.1 i,P.2.set (aA P.1 i).toNat true) else some P
def co0 (t:Dt):RS:=([0],List.replicate t.nd.length false)
def coB (t:Dt):Bool:=match coN t (t.nd.length+1) 0 (co0 t) with
  |some P=>decide (P.1.length=t.nd.length)
  |none=>false
inductive Ln (t:Dt):Nat->List Int->Prop where
  |zero:Ln t 0 [0]
  |step {i:Nat} {P:List Int} (h:Ln t i P) (hi:i < P.length):Ln t (i+1) (qS t P i)
theorem Ln.rng {t:Dt} (hk:KI t): ∀ {i:Nat} {P:List Int},Ln t i P-> ∀ a∈P,0<=a/\a < t.nd.length:=by
  intro i P h
  induction h with
  |zero=>intro a ha; rw [List.mem_singleton.1 ha]; have:=hk.pos; omega
  | step h hi ih =>
    intro a ha;rcases List.mem_append.1 ha with ha|ha
    . exact ih a ha
    . have:=ih _<|cW hi
      exact hk.rng _ OM a ha
theorem Ln.le {t:Dt}: ∀ {i:Nat} {P:List Int},Ln t i P->i<=P.length:=by
  intro i P h
  induction h <;> grind [qS]
def Whole (t:Dt):Prop:= ∃ P:List Int,Ln t P.length P/\P.Nodup/\P.length=t.nd.length
theorem Ln.uniq {t:Dt}: ∀ {i:Nat} {P Q:List Int},Ln t i P->Ln t i Q->P=Q:=by
  intro i P Q h
  induction h generalizing Q with
  |zero=>intro h; cases h; rfl
  | step h hi ih =>
    intro h';cases h' <;> grind
theorem Ln.pre {t:Dt}: ∀ {i:Nat} {P:List Int},Ln t i P-> ∀ {j:Nat} {Q:List Int},Ln t j Q->i<=j-> ∃ x,Q=P++x:=by
  intro i P h j Q h2 hij
  induction h2 with
  | zero =>
    have:i=0:=OM
    subst this; exact ⟨[],by rw [h.uniq .zero]; rfl⟩
  | step h3 hi ih =>
    rename_i j Q;by_cases e:i=j+1
    . subst e; exact ⟨[],by rw [h.uniq (.step h3 hi)]; simp⟩
    grind [qS]
theorem uW {t:Dt} {P:List Int} (h: ∀ a∈P,0<=a/\a < t.nd.length) (hn:P.Nodup):P.length<=t.nd.length:=by
  have:=aHL (m:=(List.range t.nd.length).map Int.ofNat) hn λa ha=>by
    obtain ⟨h0,h1⟩:=h a ha;exact List.mem_map.2 ⟨a.toNat,List.mem_range.2 OM,by simp; omega⟩
  simpa using this
def Mk (n:Nat) (B:List Bool) (l:List Int):Prop:=B.length=n/\ ∀ a:Int,0<=a->a < n->(aA B a.toNat=true↔a∈l)
theorem Mk.set {n:Nat} {B:List Bool} {l:List Int} (h:Mk n B l) {a:Int} (h0:0<=a) (h1:a < n):Mk n (B.set a.toNat true) (l++[a]):=by
  refine ⟨by simp [h.1],λb b0 b1=>?_⟩;rw [aA8 (by rw [h.1]; omega),List.mem_append,List.mem_singleton];by_cases e:a.toNat=b.toNat
  . grind
  . rw [if_neg e,h.2 b b0 b1]
    grind
theorem Mk.none (n:Nat):Mk n (List.replicate n false) []:=by
  refine ⟨SI,λa h0 h1=>?_⟩
  grind [aA]
theorem aEV {n : Nat} : ∀ {w : List Int} {P : RS}, Mk n P.2 P.1 -> P.1.Nodup -> (∀ a ∈ w, 0 <= a /\ a < n) ->
    match whI P w with
    |some Q=>Q.1=P.1++w/\Mk n Q.2 Q.1/\Q.1.Nodup
    |none=> ¬(P.1++w).Nodup
  |[],P,h,hn,_=>by simp only [whI]; exact ⟨SI,h,hn⟩
  | a :: w, P, h, hn, hw => by
    obtain ⟨h0,h1⟩:=hw a SI;simp only [whI];by_cases e:aA P.2 a.toNat=true
    . rw [if_pos e]
      intro q;have:=(h.2 a h0 h1).1 e
      grind
    . rw [if_neg e]
      have hna:a∉P.1:=λq=>e<|(h.2 a h0 h1).2 q
      have hnd:(P.1++[a]).Nodup:=by
        grind
      have ih:=aEV (w:=w) (P:=(P.1++[a],P.2.set a.toNat true)) (h.set h0 h1) hnd λb hb=>hw b<|List.mem_cons_of_mem _ hb
      grind
theorem aCj {t : Dt} (hk : KI t) : ∀ (n i : Nat) (P : RS), Ln t i P.1 -> Mk t.nd.length P.2 P.1 -> P.1.Nodup -> t.nd.length <= i + n ->
    match whN t n i P with
    |some Q=>Ln t Q.1.length Q.1/\Q.1.Nodup
    |none=> ∃ j L,Ln t j L/\ ¬L.Nodup
  | 0, i, P, hl, hm, hn, hi => by
    simp only [whN];have h1:=hl.le;have h2:=uW (hl.rng hk) hn
    grind
  | n + 1, i, P, hl, hm, hn, hi => by
    simp only [whN];by_cases h:i < P.1.length
    . rw [if_pos h]
      have hr:=hl.rng hk _<|cW h
      have hw:=aEV (w:=(aA t.nd (aA P.1 i).toNat).kd) hm hn<|hk.rng _ OM
      cases hq:whI P (aA t.nd (aA P.1 i).toNat).kd with
      | none =>
        rw [hq] at hw;simp only [Option.bind_none];exact ⟨i+1,_,.step hl h,hw⟩
      | some Q =>
        rw [hq] at hw;simp only [Option.bind_some];obtain ⟨g1,g2,g3⟩:=hw;exact aCj hk n (i+1) Q (by rw [g1]; exact .step hl h) g2 g3 OM
    . rw [if_neg h]
      have:=hl.le
      grind
theorem aIw {t : Dt} (hk : KI t) : whB t = true ↔ Whole t := by
  have h0:Mk t.nd.length (wh0 t).2 (wh0 t).1:=by
    have:=(Mk.none t.nd.length).set (a:=0) OM (by have:=hk.pos; omega);exact this
  have h:=aCj hk t.nd.length 0 (wh0 t) .zero h0 (by simp [wh0]) OM;unfold whB;cases hq:whN t t.nd.length 0 (wh0 t) with
  | none =>
    rw [hq] at h;obtain ⟨j,L,g1,g2⟩:=h;simp only [Bool.false_eq_true,false_iff];rintro ⟨P,p1,p2,p3⟩
    have hj : j <= P.length := by
      have:=g1.le;by_cases e:j<=P.length
      . exact e
      . exfalso
        obtain ⟨x,hx⟩:=p1.pre g1 OM
        -- the line ends with P:no step leads beyond it
        have key: ∀ {j:Nat} {L:List Int},Ln t j L->P.length < j->False:=by
          intro j L hL
          induction hL with
          |zero=>intro q; omega
          | step h2 hi ih =>
            rename_i a b;intro q;by_cases e2:P.length < a
            . exact ih e2
            . have:a=P.length:=OM
              subst this;rw [h2.uniq p1] at hi; omega
        exact key g1 OM
    obtain ⟨x,hx⟩:=g1.pre p1 hj
    grind
  | some Q =>
    rw [hq] at h;obtain ⟨g1,g2⟩:=h;simp only [decide_eq_true_eq];constructor
    . intro e; exact ⟨Q.1,g1,g2,e⟩
    . rintro ⟨P,p1,p2,p3⟩
      have key: ∀ {j:Nat} {L:List Int},Ln t j L-> ∀ {P:List Int},Ln t P.length P->j<=P.length:=by
        intro j L hL P p1
        induction hL with
        |zero=>omega
        | step h2 hi ih =>
          rename_i a b;by_cases e:a=P.length
          . subst e; rw [h2.uniq p1] at hi; omega
          . omega
      have a1:=key g1 p1;have a2:=key p1 g1;omega
theorem aFp {t : Dt} (hk : KI t) : ∀ (n i : Nat) (P : RS), Ln t i P.1 -> Mk t.nd.length P.2 (P.1.take i) -> (P.1.take i).Nodup -> P.1.length <= t.nd.length -> t.nd.length < i + n ->
    match coN t n i P with
    |some Q=>Ln t Q.1.length Q.1/\Q.1.Nodup/\Q.1.length<=t.nd.length
    |none=> ∃ j L,Ln t j L/\(¬(L.take (j+1)).Nodup\/t.nd.length < L.length)
  | 0, i, P, hl, hm, hn, hb, hi => by
    have:=hl.le; omega
  | n + 1, i, P, hl, hm, hn, hb, hi => by
    simp only [coN];by_cases h:i < P.1.length
    . rw [if_pos h]
      obtain ⟨r0,r1⟩:=hl.rng hk _<|cW h
      by_cases e:aA P.2 (aA P.1 i).toNat=true
      . rw [if_pos e]
        refine ⟨i,P.1,hl,.inl ?_⟩;have hin:=(hm.2 _ r0 r1).1 e
        grind [cV]
      . rw [if_neg e]
        by_cases g:t.nd.length < (qS t P.1 i).length
        . rw [if_pos g]; exact ⟨i+1,_,.step hl h,.inr g⟩
        . rw [if_neg g]
          have hpre:(qS t P.1 i).take (i+1)=P.1.take i++[aA P.1 i]:=by
            grind [qS,cV]
          refine aFp hk n (i+1) (qS t P.1 i,P.2.set (aA P.1 i).toNat true) (.step hl h) ?_ ?_ (by simp only; omega) OM
          . simp only [hpre]; exact hm.set r0 r1
          . simp only [hpre]
            rw [List.nodup_append];refine ⟨hn,SI,λx hx y hy=>?_⟩;rw [List.mem_singleton.1 hy]; intro q;exact e<|(hm.2 _ r0 r1).2 (q ▸ hx)
    . rw [if_neg h]
      have:=hl.le
      grind
theorem aMz {t:Dt} (hk:KI t):coB t=true↔Whole t:=by
  have h:=aFp hk (t.nd.length+1) 0 (co0 t) .zero (Mk.none _) (by simp [co0]) (by have:=hk.pos; simp [co0]; omega) OM
  have key: ∀ {j:Nat} {L:List Int},Ln t j L-> ∀ {P:List Int},Ln t P.length P->j<=P.length:=by
    intro j L hL P p1
    induction hL with
    |zero=>omega
    | step h2 hi ih =>
      rename_i a b;by_cases e:a=P.length
      . subst e; rw [h2.uniq p1] at hi; omega
      . omega
  unfold coB;cases hq:coN t (t.nd.length+1) 0 (co0 t) with
  | none =>
    rw [hq] at h;obtain ⟨j,L,g1,g2⟩:=h;simp only [Bool.false_eq_true,false_iff];rintro ⟨P,p1,p2,p3⟩;obtain ⟨x,hx⟩:=g1.pre p1<|key g1 p1
    grind
  | some Q =>
    rw [hq] at h;obtain ⟨g1,g2,g3⟩:=h;simp only [decide_eq_true_eq];constructor
    . intro e; exact ⟨Q.1,g1,g2,e⟩
    . rintro ⟨P,p1,p2,p3⟩
      have a1:=key g1 p1;have a2:=key p1 g1;omega
theorem aN8 {t:Dt} (hk:KI t):coB t=whB t:=by grind [aMz,aIw]
def gU (t : Dt) : Int :=
  if t.nd.length=0 then 19 else if 4096 < t.nd.length then 11 else if fe (λk=>lW (aA t.nd k) t.nd.length) 0 t.nd.length≠0 then fe (λk=>lW (aA t.nd k) t.nd.length) 0 t.nd.length else
    if whB t=false then 1 else if (fB<|eP t.nd).length≠(eP t.nd).length then 7 else 0
end
section
def wB (l:List (List Int)):Prop:=l.Pairwise λa b=>cY a b < 0
def lxP (w u:List Int):Bool:=decide (cY u w < 0)
def kH (l:List (List Int)) (w:List Int):Nat:=(l.takeWhile (lxP w)).length
theorem aJR (a:List Int): ¬cY a a < 0:=by rw [fJ.2 J]; omega
theorem aHo {w a:List Int} {l:List (List Int)}:kH (a::l) w=if lxP w a=true then kH l w+1 else 0:=by
  unfold kH; rw [List.takeWhile_cons]; split <;> rfl
theorem aEQ {w:List Int}: ∀ l:List (List Int),kH l w<=l.length
  |[]=>Nat.le_refl _
  |a::l=>by rw [aHo]; have:=aEQ (w:=w) l; split <;> simp <;> omega
theorem tC {w : List Int} : ∀ {l : List (List Int)} (_ : wB l) {k : Nat}, k < l.length -> (cY (aA l k) w < 0 ↔ k < kH l w)
  |[],_,k,hk=>by simp at hk
  | a :: l, h, k, hk => by
    rw [aHo];obtain ⟨h1,h2⟩:=List.pairwise_cons.1 h;by_cases e:lxP w a=true
    . rw [if_pos e]
      cases k with
      |zero=>rw [jY]; simp only [lxP,decide_eq_true_eq] at e; exact ⟨λ_=>by omega,λ_=>e⟩
      |succ k=>rw [kW,tC h2 (by simpa using hk)]; omega
    . rw [if_neg e]
      simp only [lxP,decide_eq_true_eq] at e;refine ⟨λh3=>?_,λh3=>by omega⟩;cases k with
      |zero=>exact (e h3).elim
      | succ k =>
        rw [kW] at h3;exact (e<|nC (h1 _<|cW (by simpa using hk)) h3).elim
def wX (l:List (List Int)) (w:List Int):Prop:=kH l w < l.length/\cY (aA l (kH l w)) w=0
instance (l:List (List Int)) (w:List Int):Decidable (wX l w):=inferInstanceAs (Decidable (_/\_))
theorem aNm {l:List (List Int)} {w:List Int} (h:wX l w):aA l (kH l w)=w:=fJ.1 h.2
theorem aDI {l:List (List Int)} (h:wB l) {i j:Nat} (hij:i < j) (hj:j < l.length):cY (aA l i) (aA l j) < 0:=by
  have:=(List.pairwise_iff_getElem.1 h) i j OM hj hij
  rwa [cP,cP] at this
theorem aHg {l:List (List Int)} (hs:wB l) {w:List Int} {k:Nat} (hk:k < l.length) (h:aA l k=w):kH l w=k/\wX l w:=by
  have h1: ¬k < kH l w:=λq=>aJR w (by have:=(tC hs hk).2 q; rwa [h] at this)
  have h2: ¬kH l w < k:=λq=>by
    have g:=aDI hs q hk;rw [h] at g;have:=(tC hs (show kH l w < l.length by omega)).1 g; omega
  have e:kH l w=k:=OM
  exact ⟨e,by rw [wX,e]; exact ⟨hk,fJ.2 h⟩⟩
end
section
theorem lX {α:Type} [Inhabited α] {l:List α} {a:α} (h:a∈l): ∃ k,k < l.length/\aA l k=a:=by grind [List.mem_iff_getElem,cP]
theorem aLB {l:List Int} (h:l.Nodup) {i j:Nat} (hi:i < l.length) (hj:j < l.length) (e:aA l i=aA l j):i=j:=by grind [List.pairwise_iff_getElem,cP]
theorem aMb {l:List (List Int)} (h: ∀ a b,a < b->b < l.length->cY (aA l a) (aA l b) < 0):wB l:=
  List.pairwise_iff_getElem.2 λi j hi hj hij=>by rw [cP,cP]; exact h i j hij hj
theorem pP {t:Dt} (h:gU t=0):0 < t.nd.length/\t.nd.length<=4096/\(∀ k,k < t.nd.length->lW (aA t.nd k) t.nd.length=0)/\whB t=true/\(fB (eP t.nd)).length=(eP t.nd).length:=by grind [gU,eG]
structure InOk (x:Nd) (n:Nat):Prop where
  ac:x.ac=[]
  s0:0 < x.sf.length
  sw:dG x.sf 64=0
  len:x.ou.length=x.kd.length
  ov: ∀ k,k < x.ou.length->sJ (aA x.ou k) x.sf=0
  srt:wB x.ou
  kr: ∀ a∈x.kd,0<=a/\a < n
structure LfOk (x:Nd):Prop where
  sf:x.sf=[]
  ou:x.ou=[]
  kd:x.kd=[]
  aw:dG x.ac 64=0
theorem aLl {x:Nd} {n k:Nat} (h:chE x n k=0):sJ (aA x.ou k) x.sf=0/\(0 < k->cY (aA x.ou (k - 1)) (aA x.ou k) < 0)/\0<=aA x.kd k/\aA x.kd k < n:=by grind [chE]
theorem aOz {x:Nd} {n:Nat}: ∀ {i:Nat},(∀ j,j < i->chE x n j=0)-> ∀ a b,a < b->b < i->cY (aA x.ou a) (aA x.ou b) < 0:=by
  intro i h a b
  induction b with
  |zero=>intro q; omega
  | succ b ih =>
    intro q hb;have h1:=(aLl<|h (b+1) hb).2.1 OM;rw [Nat.add_sub_cancel] at h1;rcases Nat.lt_or_ge a b with g|g
    . exact nC (ih g OM) h1
    grind
theorem aKk {x : Nd} {n : Nat} (h : oO x n = 0) : InOk x n := by
  unfold oO at h;split at h
  . omega
  . split at h
    . omega
    . split at h
      . rename_i q; exact (q h).elim
      . split at h
        . omega
        . rename_i h1 h2 h3 h4
          have hc:=eG.1 h;have hc': ∀ j,j < x.ou.length->chE x n j=0:=λj hj=>hc j (Nat.zero_le _) OM
          refine ⟨List.eq_nil_of_length_eq_zero OM,OM,OM,OM,λk hk=>(aLl<|hc' k hk).1,aMb λa b hab hb=>aOz hc' a b hab hb,λa ha=>?_⟩;obtain ⟨k,hk,rfl⟩:=lX ha;exact (aLl<|hc' k OM).2.2
theorem aOv {x:Nd} (h:lfE x=0):LfOk x:=by
  unfold lfE at h;split at h
  . omega
  . exact ⟨List.eq_nil_of_length_eq_zero OM,List.eq_nil_of_length_eq_zero OM,List.eq_nil_of_length_eq_zero OM,h⟩
theorem aCg {t:Dt} (h:gU t=0) {k:Nat} (hk:k < t.nd.length) (hl:(aA t.nd k).lf=false):InOk (aA t.nd k) t.nd.length:=by grind [pP,lW,aKk]
theorem aKO {t:Dt} (h:gU t=0) {k:Nat} (hk:k < t.nd.length) (hl:(aA t.nd k).lf=true):LfOk (aA t.nd k):=by grind [pP,lW,aOv]
theorem aEa {t:Dt} (h0:0 < t.nd.length) (h: ∀ k,k < t.nd.length->lW (aA t.nd k) t.nd.length=0):KI t:=by
  refine ⟨h0,λk hk a ha=>?_⟩;have:=h k hk;unfold lW at this;split at this
  . rw [(aOv this).kd] at ha; cases ha
  . exact (aKk this).kr a ha
theorem aB9 {t:Dt} (h:gU t=0):KI t:=aEa (pP h).1 (pP h).2.2.1
def Plc (t:Dt) (P:List Int):Prop:=Ln t P.length P/\P.Nodup/\P.length=t.nd.length
theorem yF {t:Dt} (h:gU t=0): ∃ P,Plc t P:=(aIw (aB9 h)).1 (pP h).2.2.2.1
theorem Ln.kid {t:Dt}: ∀ {i:Nat} {P:List Int},Ln t i P-> ∀ {a:Int} {j:Nat},j < i->a∈(aA t.nd (aA P j).toNat).kd-> ∃ s,j < s/\s < P.length/\aA P s=a:=by
  intro i P h
  induction h with
  |zero=>intro a j hj; omega
  | step h hi ih =>
    rename_i i P;intro a j hj ha;have hle:=h.le;have e:aA (qS t P i) j=aA P j:=by grind [qS,fK]
    rw [e] at ha;have hl:(qS t P i).length=P.length+(aA t.nd (aA P i).toNat).kd.length:=by grind [qS]
    rcases Nat.lt_or_ge j i with q|q
    . obtain ⟨s,h1,h2,h3⟩:=ih q ha
      exact ⟨s,h1,OM,by unfold qS; rw [fK h2]; exact h3⟩
    . have:j=i:=OM
      subst this;obtain ⟨c,hc,hv⟩:=lX ha;exact ⟨P.length+c,OM,OM,by unfold qS; rw [pG]; exact hv⟩
theorem Ln.par {t:Dt}: ∀ {i:Nat} {P:List Int},Ln t i P-> ∀ {s:Nat},0 < s->s < P.length-> ∃ j,j < s/\aA P s∈(aA t.nd (aA P j).toNat).kd:=by
  intro i P h
  induction h with
  |zero=>grind
  | step h hi ih =>
    rename_i i P;intro s h0 h1;have hl:(qS t P i).length=P.length+(aA t.nd (aA P i).toNat).kd.length:=by grind [qS]
    rcases Nat.lt_or_ge s P.length with q|q
    . obtain ⟨j,g1,g2⟩:=ih h0 q
      refine ⟨j,g1,?_⟩
      grind [qS,fK]
    . refine ⟨i,OM,?_⟩
      have e:s=P.length+(s - P.length):=OM
      unfold qS;rw [fK hi,e,pG];exact cW OM
theorem Plc.head {t:Dt} {P:List Int} (h:Plc t P):aA P 0=0/\(0 < t.nd.length->0 < P.length):=by
  have: ∀ {i:Nat} {P:List Int},Ln t i P->aA P 0=0:=by
    intro i P h
    induction h with
    |zero=>rfl
    |step h hi ih=>grind [qS,fK]
  exact ⟨this h.1,λq=>by rw [h.2.2]; exact q⟩
theorem Plc.kid {t:Dt} {P:List Int} (h:Plc t P) {s:Nat} (hs:s < P.length) {a:Int} (ha:a∈(aA t.nd (aA P s).toNat).kd): ∃ s',s < s'/\s' < P.length/\aA P s'=a:=h.1.kid hs ha
theorem Plc.all {t:Dt} (hk:KI t) {P:List Int} (h:Plc t P) {a:Int} (h0:0<=a) (h1:a < t.nd.length): ∃ s,s < P.length/\aA P s=a:=by
  by_cases e:a∈P
  . exact lX e
  . have:=uW (t:=t) (P:=a::P) (λb hb=>by
      rcases List.mem_cons.1 hb with rfl|hb
      . exact ⟨h0,h1⟩
      . exact h.1.rng hk b hb) (List.nodup_cons.2 ⟨e,h.2.1⟩)
    have:=h.2.2;simp at*; omega
theorem Plc.one {t : Dt} (hk : KI t) {P : List Int} (h : Plc t P) : ∀ {m m' a : Int}, 0 <= m -> m < t.nd.length -> 0 <= m' -> m' < t.nd.length -> a ∈ (aA t.nd m.toNat).kd -> a ∈ (aA t.nd m'.toNat).kd -> m = m' := by
  intro m m' a h0 h1 h2 h3 ha hb;obtain ⟨i,hi,ei⟩:=h.all hk h0 h1;obtain ⟨j,hj,ej⟩:=h.all hk h2 h3
  have key: ∀ {n:Nat} {Q:List Int},Ln t n Q->Q.Nodup-> ∀ {i j:Nat},i < j->j < n->a∈(aA t.nd (aA Q i).toNat).kd->a∈(aA t.nd (aA Q j).toNat).kd->False:=by
    intro n Q hq
    induction hq with
    |zero=>intro _ i j _ hj; omega
    | step h hi ih =>
      rename_i n Q;intro hnd i j hij hj ha hb;have hle:=h.le;have e1:aA (qS t Q n) i=aA Q i:=by grind [qS,fK]
      have e2:aA (qS t Q n) j=aA Q j:=by grind [qS,fK]
      rw [e1] at ha; rw [e2] at hb;have hn2:(Q++(aA t.nd (aA Q n).toNat).kd).Nodup:=hnd;rw [List.nodup_append] at hn2;rcases Nat.lt_or_ge j n with q|q
      . exact ih hn2.1 hij q ha hb
      . have:j=n:=OM
        subst this;obtain ⟨s,_,g2,g3⟩:=h.kid hij ha
        grind [cW]
  rw [<- ei] at ha; rw [<- ej] at hb;rcases Nat.lt_trichotomy i j with q|q|q
  . exact (key h.1 h.2.1 q hj ha hb).elim
  . rw [<- ei,<- ej,q]
  . exact (key h.1 h.2.1 q hi hb ha).elim
def gM (t:Dt) (o:Ob) (w:List Int):Nat->Nat->Int×List Int×Int
  |0,n=>(n,[],0)
  | f + 1, n => if (aA t.nd n).lf = true then (n, [], 0) else if dG (bD [w, (aA t.nd n).sf]) o.i ≠ 0 then (0, [], dG (bD [w, (aA t.nd n).sf]) o.i) else
      if (eA o<|bD [w,(aA t.nd n).sf]).isSome=false then (0,bD [w,(aA t.nd n).sf],0) else
      if wX (aA t.nd n).ou (((eA o<|bD [w,(aA t.nd n).sf]).getD []).drop w.length) then gM t o w f (aA (aA t.nd n).kd (kH (aA t.nd n).ou (((eA o<|bD [w,(aA t.nd n).sf]).getD []).drop w.length))).toNat else (n,[],0)
def bJ (t:Dt) (o:Ob) (w:List Int):Int×List Int×Int:=
  if gU t≠0 then (0,[],gU t) else if dG w o.i≠0 then (0,[],dG w o.i) else gM t o w t.nd.length 0
def Rk (t:Dt) (f n:Nat):Prop:= ∃ P s,Plc t P/\s < P.length/\aA P s=(n:Int)/\t.nd.length<=f+s
theorem rk0 {t:Dt} (h:gU t=0):Rk t t.nd.length 0:=by
  obtain ⟨P,hP⟩:=yF h;exact ⟨P,0,hP,hP.head.2 (pP h).1,hP.head.1,OM⟩
theorem Rk.pos {t:Dt} {f n:Nat} (h:Rk t f n):0 < f:=by
  obtain ⟨P,s,hP,hs,_,h3⟩:=h;have:=hP.2.2; omega
theorem Rk.lt {t:Dt} (hv:gU t=0) {f n:Nat} (h:Rk t f n):n < t.nd.length:=by
  obtain ⟨P,s,hP,hs,h2,_⟩:=h;have:=hP.1.rng (aB9 hv) _<|cW hs
  omega
theorem Rk.step {t:Dt} {f n:Nat} (h:Rk t f n) {a:Int} (ha:a∈(aA t.nd n).kd) (h0:0<=a):Rk t (f - 1) a.toNat:=by
  have hp:=h.pos;obtain ⟨P,s,hP,hs,h2,h3⟩:=h;obtain ⟨s',g1,g2,g3⟩:=hP.kid hs (a:=a) (by rw [h2]; simpa using ha);exact ⟨P,s',hP,g2,by rw [g3]; omega,OM⟩
section
variable {t:Dt} {o:Ob} {w:List Int} {f n:Nat}
theorem pS (hf:0 < f) (h:(aA t.nd n).lf=true):gM t o w f n=((n:Int),[],0):=by
  obtain ⟨f,rfl⟩: ∃ g,f=g+1:=⟨f - 1,OM⟩;rw [gM,if_pos h]
theorem tH (hf:0 < f) (h:(aA t.nd n).lf=false) (h1:dG (bD [w,(aA t.nd n).sf]) o.i≠0):gM t o w f n=(0,[],dG (bD [w,(aA t.nd n).sf]) o.i):=by
  obtain ⟨f,rfl⟩: ∃ g,f=g+1:=⟨f - 1,OM⟩
  grind [gM]
theorem tG (hf:0 < f) (h:(aA t.nd n).lf=false) (h1: ¬dG (bD [w,(aA t.nd n).sf]) o.i≠0) (h2:(eA o (bD [w,(aA t.nd n).sf])).isSome=false):gM t o w f n=(0,bD [w,(aA t.nd n).sf],0):=by
  obtain ⟨f,rfl⟩: ∃ g,f=g+1:=⟨f - 1,OM⟩
  grind [gM]
theorem aGn (hf:0 < f) (h:(aA t.nd n).lf=false) (h1: ¬dG (bD [w,(aA t.nd n).sf]) o.i≠0) (h2:(eA o (bD [w,(aA t.nd n).sf])).isSome=true) (h3:wX (aA t.nd n).ou (((eA o (bD [w,(aA t.nd n).sf])).getD []).drop w.length)):
    gM t o w f n=gM t o w (f - 1) (aA (aA t.nd n).kd (kH (aA t.nd n).ou (((eA o<|bD [w,(aA t.nd n).sf]).getD []).drop w.length))).toNat:=by
  obtain ⟨f,rfl⟩: ∃ g,f=g+1:=⟨f - 1,OM⟩
  grind [gM]
theorem xO (hf:0 < f) (h:(aA t.nd n).lf=false) (h1: ¬dG (bD [w,(aA t.nd n).sf]) o.i≠0) (h2:(eA o (bD [w,(aA t.nd n).sf])).isSome=true) (h3: ¬wX (aA t.nd n).ou (((eA o (bD [w,(aA t.nd n).sf])).getD []).drop w.length)):
    gM t o w f n=((n:Int),[],0):=by
  obtain ⟨f,rfl⟩: ∃ g,f=g+1:=⟨f - 1,OM⟩
  grind [gM]
end
def par (t:Dt) (n:Int):Int:=fi (λk=>decide (n∈(aA t.nd k).kd)) 0 t.nd.length
end
section
set_option linter.unusedSectionVars false
section
variable {α:Type} [Inhabited α]
def oS (l:List α) (k:Nat):List α:=(List.range l.length).map λm=>if m < k\/l.length<=m+k then aA l (l.length - 1 - m) else aA l m
theorem xL (l:List α) (k:Nat):(oS l k).length=l.length:=by simp [oS]
theorem aGr {l:List α} {k m:Nat} (h:m < l.length):aA (oS l k) m=if m < k\/l.length<=m+k then aA l (l.length - 1 - m) else aA l m:=by
  unfold oS;rw [<- cP (by simpa using h)];simp
theorem aHB (l:List α):oS l 0=l:=by grind [jT,xL,aGr]
theorem aKX {l:List α} {i j:Nat} {x:α} (hi:i < l.length) (hj:j < l.length):aA (l.set i x) j=if i=j then x else aA l j:=by rw [<- cP (by simpa using hj),List.getElem_set,cP]
theorem aHy {l:List α} {k j:Nat} (hj:k+j+1=l.length) (h:k < j):((oS l k).set k (aA (oS l k) j)).set j (aA (oS l k) k)=oS l (k+1):=by
  have hl:=xL l k;refine jT (by grind [xL]) λm hm=>?_
  grind [aKX,aGr]
theorem aKj {l:List α} {k:Nat} (h:l.length<=2*k+1) (hk:2*k<=l.length+1):oS l k=l.reverse:=by
  refine jT (by grind [xL]) λm hm=>?_
  grind [xL,aA,aGr]
def lF (p:Nat) (x:α) (l:List α) (k:Nat):List α:=if p < k then l.take p++x::(l.take k).drop p else l.take k
def qD (p:Nat) (x:α) (l:List α):List α:=l.take p++x::l.drop p
theorem aLQ {p:Nat} {x:α} {l:List α} (h:p < l.length):lF p x l (p+1)=lF p x l p++[x]++[aA l p]:=by grind [lF,cV]
theorem vS {p k:Nat} {x:α} {l:List α} (h:k < l.length) (hne:k≠p):lF p x l (k+1)=lF p x l k++[aA l k]:=by grind [lF,cV]
theorem aIs {p:Nat} {x:α} {l:List α} (h:p < l.length):lF p x l l.length=qD p x l:=by grind [lF,qD]
theorem aER {p:Nat} {x:α} {l:List α} (h:l.length<=p):lF p x l l.length++[x]=qD p x l:=by grind [lF,qD]
theorem aHp {p k:Nat} {x:α} {l:List α} (h:k<=l.length):(lF p x l k).length=if p < k then k+1 else k:=by grind [lF]
theorem qZ (p:Nat) (x:α) (l:List α):(qD p x l).length=l.length+1:=by unfold qD; simp; omega
theorem aDR {p:Nat} {x y:α} {l:List α}:y∈qD p x l↔y=x\/y∈l:=by grind [List.take_append_drop,qD]
end
def pN (l:List (List Int)) (w:List Int):Nat:=(l.takeWhile λu=>decide ¬(cY w u < 0)).length
theorem aBc {w a:List Int} {l:List (List Int)}:pN (a::l) w=if cY w a < 0 then 0 else pN l w+1:=by grind [pN,List.takeWhile_cons]
theorem aNW (w:List Int): ∀ l:List (List Int),pN l w<=l.length
  |[]=>Nat.le_refl _
  |a::l=>by rw [aBc]; have:=aNW w l; split <;> simp <;> omega
theorem aKg {w:List Int}: ∀ {l:List (List Int)} {k:Nat},k < pN l w-> ¬cY w (aA l k) < 0
  |[],k,h=>by simp [pN] at h
  | a :: l, k, h => by
    rw [aBc] at h;split at h
    . omega
    . rename_i q
      cases k with
      |zero=>rw [jY]; exact q
      |succ k=>rw [kW]; exact aKg OM
theorem aJW {w:List Int}: ∀ {l:List (List Int)},pN l w < l.length->cY w (aA l (pN l w)) < 0
  |[],h=>by simp at h
  | a :: l, h => by
    rw [aBc] at h ⊢;split at h
    . rename_i q; rw [if_pos q,jY]; exact q
    . rename_i q; rw [if_neg q,kW]; exact aJW (by simpa using h)
theorem aPQ {l:List (List Int)} (hs:wB l) {w:List Int} (h: ¬wX l w):pN l w=kH l w:=by
  have h1: ¬pN l w < kH l w:=λq=>by
    have hk:pN l w < l.length:=Nat.lt_of_lt_of_le q<|aEQ l
    have g1:=(tC hs hk).2 q;have g2:=aJW hk;have:=uP g1; omega
  have h2: ¬kH l w < pN l w:=λq=>by
    have hk:kH l w < l.length:=Nat.lt_of_lt_of_le q<|aNW w l
    have g1:=aKg q;rcases aEZ w (aA l (kH l w)) with e|e|e
    . exact h ⟨hk,by rw [<- fJ.1 e]; exact fJ.2 J⟩
    . omega
    . have g2:cY (aA l<|kH l w) w < 0:=sH OM
      have:=(tC hs hk).1 g2; omega
  omega
def oM (x:Nd) (aQ:List Int) (kid:Int):Nd:=⟨false,[],x.sf,qD (pN x.ou aQ) aQ x.ou,qD (pN x.ou aQ) kid x.kd⟩
def gNd (x:Nd) (aQ:List Int) (kid:Int):Nd:=⟨x.lf,x.ac,x.sf,qD (kH x.ou aQ) aQ x.ou,qD (kH x.ou aQ) kid x.kd⟩
theorem aPE {x:Nd} {n:Nat} (h:InOk x n) (hl:x.lf=false) {aQ:List Int} (hx: ¬wX x.ou aQ) (kid:Int):oM x aQ kid=gNd x aQ kid:=by unfold oM gNd; rw [aPQ h.srt hx,hl,h.ac]
def noE (t:Dt) (n:Int) (leaf:Bool):Int:=if n < 0\/(t.nd.length:Int)<=n then 2 else if (aA t.nd n.toNat).lf≠leaf then 10 else 0
def fsE (t:Dt) (w:List Int):Int:=if dG w 64≠0 then dG w 64 else if w∈eP t.nd then 7 else 0
def jD (t:Dt) (n:Int) (aQ w:List Int):Int:=
  if gU t≠0 then gU t else if noE t n false≠0 then noE t n false else if sJ aQ (aA t.nd n.toNat).sf≠0 then sJ aQ (aA t.nd n.toNat).sf else
  if wX (aA t.nd n.toNat).ou aQ then 7 else if fsE t w≠0 then fsE t w else if 4096<=t.nd.length then 11 else 0
def vH (w:List Int):Nd:=⟨true,w,[],[],[]⟩
def grT (t:Dt) (n:Int) (aQ w:List Int):Dt:=if jD t n aQ w=0 then ⟨t.nd.set n.toNat (gNd (aA t.nd n.toNat) aQ t.nd.length)++[vH w]⟩ else t
def mE (t:Dt) (n:Int) (sf aQ w other:List Int):Int:=
  if noE t n true≠0 then noE t n true else if sf.length=0 then 19 else if dG sf 64≠0 then dG sf 64 else if sJ aQ sf≠0 then sJ aQ sf else
  if fsE t w≠0 then fsE t w else if sJ other sf≠0 then sJ other sf else if aQ=other then 15 else if 4094 < t.nd.length then 11 else 0
def nJ (t:Dt) (n:Int) (sf aQ w other:List Int):Int:=if gU t≠0 then gU t else mE t n sf aQ w other
def spO (aQ other:List Int):List (List Int):=if 0 < cY aQ other then [other,aQ] else [aQ,other]
def spK (aQ other:List Int) (n:Nat):List Int:=if 0 < cY aQ other then [(n:Int)+1,n] else [(n:Int),(n:Int)+1]
def spN (sf aQ other:List Int) (n:Nat):Nd:=⟨false,[],sf,spO aQ other,spK aQ other n⟩
def spT (t:Dt) (n:Int) (sf aQ w other:List Int):Dt:=
  if nJ t n sf aQ w other=0 then ⟨t.nd.set n.toNat (spN sf aQ other t.nd.length)++[aA t.nd n.toNat,vH w]⟩ else t
theorem aOS {sf aQ other:List Int} {n:Nat} (h:aQ≠other):oM (oM ⟨false,[],sf,[],[]⟩ aQ n) other ((n:Int)+1)=spN sf aQ other n:=by grind [oM,qD,spN,spO,spK,aBc,uP,sH]
end
section
structure Tree (t:Dt):Prop where
  d1: ∀ k,k < t.nd.length->(aA t.nd k).kd.Nodup
  d2: ∀ j k,j < t.nd.length->k < t.nd.length->j≠k-> ∀ a∈(aA t.nd j).kd,a∉(aA t.nd k).kd
  d3: ∀ k,k < t.nd.length->(0:Int)∉(aA t.nd k).kd
  d4: ∀ a:Int,0 < a->a < t.nd.length-> ∃ k,k < t.nd.length/\a∈(aA t.nd k).kd
  rk: ∃ r:Int->Nat,∀ k:Nat,k < t.nd.length-> ∀ a∈(aA t.nd k).kd,r k < r a
def kO (t:Dt) (a:Int):List Int:=(aA t.nd a.toNat).kd
theorem aHJ {t:Dt}: ∀ {i:Nat} {P:List Int},Ln t i P->P=0::(P.take i).flatMap (kO t):=by
  intro i P h
  induction h <;> grind [qS,cV,kO]
theorem tD {t:Dt} (hk:KI t) (h:Whole t):Tree t:=by
  obtain ⟨P,hP⟩:=h;have hP:Plc t P:=hP;have hf:=aHJ hP.1;rw [List.take_length] at hf;have hn:=hP.2.1;rw [hf,List.nodup_cons] at hn;have hn2:(P.flatMap<|kO t).Pairwise (· ≠ ·):=hn.2;rw [List.pairwise_flatMap] at hn2;have hall: ∀ k:Nat,k < t.nd.length-> ∃ s,s < P.length/\aA P s=(k:Int):=λk hk'=>hP.all hk OM OM
  refine ⟨λk hk'=>?_,λj k hj hk' hne a ha hb=>?_,λk hk' h0=>?_,λa h0 h1=>?_,?_⟩
  . obtain ⟨s,hs,e⟩:=hall k hk'
    grind [cW,kO,Int.toNat_natCast]
  . have:=hP.one hk (m:=(j:Int)) (m':=(k:Int)) OM OM OM OM (by simpa using ha) (by simpa using hb)
    omega
  . obtain ⟨s,hs,e⟩:=hall k hk'
    obtain ⟨s',g1,g2,g3⟩:=hP.kid hs (a:=0) (by rw [e]; simpa using h0);have:=aLB hP.2.1 g2 (show 0 < P.length by omega) (by rw [g3,hP.head.1]);omega
  . obtain ⟨s,hs,e⟩:=hP.all hk (a:=a) OM h1
    have hs0:0 < s:=by
      rcases Nat.eq_zero_or_pos s with q|q
      . subst q; rw [hP.head.1] at e; omega
      . exact q
    obtain ⟨j,g1,g2⟩:=hP.1.par hs0 hs;have:=hP.1.rng hk _<|cW (show j < P.length by omega)
    exact ⟨(aA P j).toNat,OM,e ▸ g2⟩
  . refine ⟨λa=>if h: ∃ s,s < P.length/\aA P s=a then h.choose else 0,λk hk' a ha=>?_⟩
    have h1:=hall k hk';obtain ⟨s',g1,g2,g3⟩:=hP.kid h1.choose_spec.1 (a:=a) (by rw [h1.choose_spec.2]; simpa using ha);have h2: ∃ s,s < P.length/\aA P s=a:=⟨s',g2,g3⟩
    have e:=aLB hP.2.1 h2.choose_spec.1 g2 (by rw [h2.choose_spec.2,g3]);show (if h: ∃ s,s < P.length/\aA P s=(k:Int) then h.choose else 0) < (if h: ∃ s,s < P.length/\aA P s=a then h.choose else 0);rw [dif_pos h1,dif_pos h2,e];exact g1
theorem aMr {t : Dt} (hk : KI t) (h : Tree t) : ∀ {i : Nat} {L : List Int}, Ln t i L -> L.Nodup := by
  intro i L hl
  induction hl with
  |zero=>simp
  | step hl hi ih =>
    rename_i i L;have hstep:Ln t (i+1) (qS t L i):=.step hl hi
    have e:(qS t L i).take (i+1)=L.take (i+1):=by
      grind [qS]
    have hf:=aHJ hstep;rw [e] at hf;rw [hf,List.nodup_cons];have hr:=hl.rng hk;have hm: ∀ a∈L.take (i+1),0<=a/\a < t.nd.length:=λa ha=>hr a<|List.mem_of_mem_take ha
    constructor
    . intro h0
      obtain ⟨a,ha,hb⟩:=List.mem_flatMap.1 h0;have:=hm a ha;exact h.d3 a.toNat OM hb
    . show ((L.take<|i+1).flatMap (kO t)).Pairwise (· ≠ ·)
      rw [List.pairwise_flatMap];refine ⟨λa ha=>?_,?_⟩
      . have:=hm a ha
        exact h.d1 a.toNat OM
      . have hs:(L.take<|i+1).Nodup:=ih.sublist<|List.take_sublist _ _
        refine List.pairwise_iff_getElem.2 λp q hp hq hpq x hx y hy e=>?_;subst e;have hne:=(List.pairwise_iff_getElem.1 hs) p q hp hq hpq;have h1:=hm _<|List.getElem_mem hp
        have h2:=hm _<|List.getElem_mem hq
        exact h.d2 _ _ OM OM (λe=>hne OM) x hx hy
theorem aGU {t : Dt} (hk : KI t) (h : Tree t) : whB t = true := by
  have hs:=aCj hk t.nd.length 0 (wh0 t) .zero ((Mk.none t.nd.length).set (a:=0) OM (by have:=hk.pos; omega)) (by simp [wh0]) OM;unfold whB;cases hq:whN t t.nd.length 0 (wh0 t) with
  | none =>
    grind [aMr]
  | some Q =>
    rw [hq] at hs;obtain ⟨g1,g2⟩:=hs;simp only [decide_eq_true_eq];have hle:=uW (g1.rng hk) g2;obtain ⟨r,hr⟩:=h.rk
    have h0:aA Q.1 0=0/\0 < Q.1.length:=by
      have hd: ∀ {i:Nat} {P:List Int},Ln t i P->aA P 0=0/\0 < P.length:=by
        intro i P h
        induction h with
        |zero=>exact ⟨rfl,SI⟩
        |step h hi ih=>grind [qS,fK]
      exact hd g1
    have hall: ∀ n:Nat,∀ a:Int,r a < n->0<=a->a < t.nd.length->a∈Q.1:=by
      intro n
      induction n with
      |zero=>intro a h1; omega
      | succ n ih =>
        intro a h1 h2 h3;by_cases e:a=0
        . grind [cW]
        . obtain ⟨k,k1,k2⟩:=h.d4 a OM h3
          have hk2:=hr k k1 a k2;obtain ⟨s,s1,s2⟩:=lX<|ih (k:Int) OM OM OM
          obtain ⟨s',_,s4,s5⟩:=g1.kid s1 (a:=a) (by rw [s2]; simpa using k2);rw [<- s5]; exact cW s4
    have hge:=aHL (l:=(List.range t.nd.length).map Int.ofNat) (m:=Q.1) (by
        rw [List.Nodup,List.pairwise_map];exact List.nodup_range.imp λhab e=>hab (by grind)) (λa ha=>by
        obtain ⟨k,k1,rfl⟩:=List.mem_map.1 ha;exact hall (r (Int.ofNat k)+1) _ OM SI (by grind))
    simp at hge;omega
theorem aHj {α:Type} [BEq α] [LawfulBEq α]: ∀ {A L:List α},A.Nodup->(∀ a∈A,a∈L)->L.length<=A.length->A.Perm L
  | [], L, _, _, h => by
    grind
  | a :: A, L, hn, hs, hl => by
    obtain ⟨h1,h2⟩:=List.nodup_cons.1 hn;have ha:=hs a SI;have hp:=List.perm_cons_erase ha;have hlen:=hp.length_eq;simp only [List.length_cons] at hlen hl;refine List.Perm.trans (List.Perm.cons a<|aHj h2 (λb hb=>?_) OM) hp.symm
    grind
theorem aFZ (l:List (List Int)):(fB l).Nodup:=List.Pairwise.imp (λ{a b} (h:fS a b < 0) (e:a=b)=>aBi b (by rw [e] at h; exact h)) (sS l)
theorem aEY {l:List (List Int)}:(fB l).length=l.length↔l.Nodup:=by
  constructor
  . intro h
    exact (aHj (aFZ l) (λa ha=>(kI l a).1 ha) OM).nodup (aFZ l)
  . intro h
    exact ((List.perm_ext_iff_of_nodup (aFZ l) h).2 λa=>kI l a).length_eq
theorem aNo {l m:List (List Int)} (h: ∀ u,u∈l↔u∈m):fB l=fB m:=by grind [zK,sS,kI]
theorem aFb {l:List Nd} {n:Nat} (h:n < l.length):l=l.take n++aA l n::l.drop (n+1):=by grind [mM,List.take_append_drop]
theorem aKV {l:List Nd} {n:Nat} (h:n < l.length) (x:Nd):l.set n x=l.take n++x::l.drop (n+1):=by grind [List.set_eq_take_append_cons_drop]
theorem aNP (l m:List Nd):eP (l++m)=eP l++eP m:=by simp [eP]
theorem aEE (x:Nd) (l:List Nd):eP (x::l)=(if x.lf=true then [x.ac] else [])++eP l:=by grind [eP]
theorem aKG {l:List Nd} {n:Nat} (h:n < l.length) (hl:(aA l n).lf=false) {x:Nd} (hx:x.lf=false) (w:List Int):eP (l.set n x++[vH w])=eP l++[w]:=by grind [aKV,aFb,eP,vH]
theorem aJf {l:List Nd} {n:Nat} (h:n < l.length) (hl:(aA l n).lf=true) {x:Nd} (hx:x.lf=false) (w:List Int):(eP (l.set n x++[aA l n,vH w])).Perm (eP l++[w]):=by
  have e1:eP (l.set n x++[aA l n,vH w])=eP (l.take n)++(eP (l.drop<|n+1)++[(aA l n).ac])++[w]:=by
    grind [aKV,aEE,eP,vH]
  grind [aFb,aNP,aEE]
theorem aKJ {x:Nd} {n:Nat} (h:InOk x n):oO x n=0:=by
  unfold oO;have h0:=h.s0;rw [if_neg (by rw [h.ac]; simp),if_neg OM,if_neg (by rw [h.sw]; simp),if_neg (by rw [h.len]; simp)];refine eG.2 λk _ hk=>?_;have hk:k < x.ou.length:=OM
  have hr:=h.kr _<|cW (show k < x.kd.length by rw [<- h.len]; exact hk)
  unfold chE;rw [if_neg (by rw [h.ov k hk]; simp),if_neg,if_neg OM];rintro ⟨q1,q2⟩;have:=aDI h.srt (show k - 1 < k by omega) hk;omega
theorem aP0 {x:Nd} {n:Nat} (h:InOk x n) {m:Nat} (hm:n<=m):InOk x m:=
  ⟨h.ac,h.s0,h.sw,h.len,h.ov,h.srt,λa ha=>by have:=h.kr a ha; omega⟩
theorem aHt {x:Nd} {n m:Nat} (h:lW x n=0) (hm:n<=m):lW x m=0:=by grind [lW,aKJ,aP0,aKk]
theorem aMo {l:List (List Int)} (hs:wB l) {w:List Int} (hx: ¬wX l w):wB (qD (kH l w) w l):=by
  unfold wB qD;have hs':(l.take (kH l w)++l.drop (kH l w)).Pairwise λa b=>cY a b < 0:=by rw [List.take_append_drop]; exact hs
  rw [List.pairwise_append] at hs' ⊢
  have hlow: ∀ a∈l.take (kH l w),cY a w < 0:=λa ha=>by
    grind [lX,lA,tC]
  grind [lX,rX,tC,aHg,fJ,sH,List.pairwise_cons]
theorem aFi {l:List Nd} {n:Nat} (hn:n < l.length) (x:Nd) (m:List Nd) (k:Nat):aA (l.set n x++m) k=if k < l.length then (if n=k then x else aA l k) else aA m (k - l.length):=by
  by_cases h:k < l.length
  . grind [fK,aA8]
  . rw [if_neg h]
    have e:k=(l.set n x).length+(k - l.length):=by grind
    rw [e,pG,List.length_set]; congr 1; omega
end
section
theorem aLr {t t':Dt} (hk:KI t) (h:Tree t) {n m:Nat} (hn:n < t.nd.length) (hN:t'.nd.length=t.nd.length+m)
    (hkd: ∀ k,k < t.nd.length+m-> ∀ a,a∈(aA t'.nd k).kd↔(k < t.nd.length/\a∈(aA t.nd k).kd)\/(k=n/\(t.nd.length:Int)<=a/\a < ((t.nd.length+m:Nat):Int)))
    (hd: ∀ k,k < t.nd.length+m->(aA t'.nd k).kd.Nodup):Tree t':=by
  have hr: ∀ k a,k < t.nd.length->a∈(aA t.nd k).kd->0<=a/\a < t.nd.length:=λk a h1 h2=>hk.rng k h1 a h2
  refine ⟨λk hk'=>hd k OM,λj k hj hk' hne a ha hb=>?_,λk hk' h0=>?_,λa h0 h1=>?_,?_⟩
  . rcases (hkd j OM a).1 ha with q|q <;> rcases (hkd k OM a).1 hb with p|p
    . exact h.d2 j k q.1 p.1 hne a q.2 p.2
    all_goals (grind)
  . rcases (hkd k OM 0).1 h0 with q|q
    . exact h.d3 k q.1 q.2
    . have:=hk.pos; omega
  . by_cases e:a < t.nd.length
    . obtain ⟨k,k1,k2⟩:=h.d4 a h0 e
      grind
    . exact ⟨n,OM,(hkd n OM a).2 (.inr ⟨J,OM,OM⟩)⟩
  . obtain ⟨r,hr2⟩:=h.rk
    refine ⟨λa=>if a < t.nd.length then r a else r n+1,λk hk' a ha=>?_⟩
    grind
theorem aOP {p:Nat} {x:Int} {l:List Int} (h:l.Nodup) (hx:x∉l):(qD p x l).Nodup:=by grind [qD,List.take_append_drop]
theorem aKC {t t':Dt} (hv:gU t=0) {n m:Nat} (hn:n < t.nd.length) (hN:t'.nd.length=t.nd.length+m) (hl:t.nd.length+m<=4096)
    (hkd: ∀ k,k < t.nd.length+m-> ∀ a,a∈(aA t'.nd k).kd↔(k < t.nd.length/\a∈(aA t.nd k).kd)\/(k=n/\(t.nd.length:Int)<=a/\a < ((t.nd.length+m:Nat):Int)))
    (hd: ∀ k,k < t.nd.length+m->(aA t'.nd k).kd.Nodup) (he: ∀ k,k < t.nd.length+m->lW (aA t'.nd k) (t.nd.length+m)=0) {w:List Int} (hw:w∉eP t.nd) (hp:(eP t'.nd).Perm (eP t.nd++[w])):
    gU t'=0/\fB (eP t'.nd)=fB (fB (eP t.nd)++[w])/\(fB<|eP t'.nd).length=(fB<|eP t.nd).length+1:=by
  have h1:=pP hv;have hki:KI t':=aEa OM λk hk=>by rw [hN] at hk ⊢; exact he k hk
  have htr:Tree t':=aLr (aB9 hv) (tD (aB9 hv)<|yF hv) hn hN hkd hd;have hwh:=aGU hki htr;have hnd0:(eP t.nd).Nodup:=aEY.1 h1.2.2.2.2
  have hnd:(eP t'.nd).Nodup:=by
    grind
  have hlen:=aEY.2 hnd;refine ⟨?_,aNo λu=>?_,?_⟩
  . grind [gU,eG]
  . grind [kI]
  . rw [hlen,hp.length_eq,List.length_append,h1.2.2.2.2]; rfl
theorem aCR {t:Dt} {n:Int} {b:Bool} (h:noE t n b=0):0<=n/\n < t.nd.length/\(aA t.nd n.toNat).lf=b:=by grind [noE]
theorem aN3 {t:Dt} {w:List Int} (h:fsE t w=0):dG w 64=0/\w∉eP t.nd:=by grind [fsE]
theorem aNX {t:Dt} {n:Int} {aQ w:List Int} (h:jD t n aQ w=0):gU t=0/\noE t n false=0/\sJ aQ (aA t.nd n.toNat).sf=0/\ ¬wX (aA t.nd n.toNat).ou aQ/\fsE t w=0/\t.nd.length < 4096:=by
  unfold jD at h;split at h <;> grind
theorem aNZ {w:List Int} (h:dG w 64=0) (n:Nat):lW (vH w) n=0:=by unfold lW vH lfE; simpa using h
theorem aMh {t : Dt} {n : Int} {aQ w : List Int} (h : jD t n aQ w = 0) :
    gU (grT t n aQ w)=0/\fB (eP (grT t n aQ w).nd)=fB (fB (eP t.nd)++[w])/\(fB<|eP (grT t n aQ w).nd).length=(fB<|eP t.nd).length+1:=by
  obtain ⟨hv,h1,h2,h3,h4,h5⟩:=aNX h;obtain ⟨n0,n1,hl⟩:=aCR h1;obtain ⟨w1,w2⟩:=aN3 h4;have hn:n.toNat < t.nd.length:=OM
  have hin:=aCg hv hn hl;have hlx:=aEQ (w:=aQ) (aA t.nd n.toNat).ou
  have hg:InOk (gNd (aA t.nd n.toNat) aQ t.nd.length) (t.nd.length+1):=by
    refine ⟨hin.ac,hin.s0,hin.sw,?_,λk hk=>?_,aMo hin.srt h3,λa ha=>?_⟩
    . simp only [gNd]; rw [qZ,qZ,hin.len]
    . have hm:aA (gNd (aA t.nd n.toNat) aQ t.nd.length).ou k∈qD (kH (aA t.nd n.toNat).ou aQ) aQ (aA t.nd n.toNat).ou:=cW hk
      rcases aDR.1 hm with e|e
      . rw [e]; exact h2
      . obtain ⟨j,hj,e2⟩:=lX e
        rw [<- e2]; exact hin.ov j hj
    . rcases aDR.1 ha with e|e
      . rw [e]; omega
      . have:=hin.kr a e; omega
  have hglf:(gNd (aA t.nd n.toNat) aQ t.nd.length).lf=false:=hl;unfold grT;rw [if_pos h];have hnth:=aFi hn (gNd (aA t.nd n.toNat) aQ t.nd.length) [vH w];refine aKC hv hn (m:=1) SI OM (λk hk a=>?_) (λk hk=>?_) (λk hk=>?_) w2 (by rw [aKG hn hl hglf])
  . rw [hnth]
    by_cases e:k < t.nd.length
    . rw [if_pos e]
      by_cases e2:n.toNat=k
      . rw [if_pos e2,<- e2]
        show a∈qD _ _ _↔_
        grind [aDR]
      grind
    . rw [if_neg e,show k - t.nd.length=0 by omega]
      show a∈([]:List Int)↔_
      grind
  . rw [hnth]
    have htr:=tD (aB9 hv)<|yF hv
    split
    . split
      . exact aOP (htr.d1 _ hn) λq=>by have:=hin.kr _ q; omega
      . exact htr.d1 k OM
    . rw [show k - t.nd.length=0 by omega]; exact List.nodup_nil
  . rw [hnth]
    split
    . grind [lW,aKJ,aHt,pP]
    . rw [show k - t.nd.length=0 by omega]; exact aNZ w1 _
theorem aKQ {t:Dt} {n:Int} {sf aQ w other:List Int} (h:nJ t n sf aQ w other=0):
    gU t=0/\noE t n true=0/\0 < sf.length/\dG sf 64=0/\sJ aQ sf=0/\fsE t w=0/\sJ other sf=0/\aQ≠other/\t.nd.length<=4094:=by
  unfold nJ at h;split at h
  . rename_i q; exact (q h).elim
  . rename_i q0
    unfold mE at h;split at h
    . rename_i q; exact (q h).elim
    . split at h
      . omega
      . split at h <;> grind
theorem aM6 {aQ other:List Int} {n:Nat} {a:Int}:a∈spK aQ other n↔(n:Int)<=a/\a < ((n+2:Nat):Int):=by grind [spK]
theorem aKt {t : Dt} {n : Int} {sf aQ w other : List Int} (h : nJ t n sf aQ w other = 0) :
    gU (spT t n sf aQ w other)=0/\fB (eP (spT t n sf aQ w other).nd)=fB (fB (eP t.nd)++[w])/\(fB<|eP (spT t n sf aQ w other).nd).length=(fB<|eP t.nd).length+1:=by
  obtain ⟨hv,h1,s0,s1,h2,h4,h3,hne,h5⟩:=aKQ h;obtain ⟨n0,n1,hl⟩:=aCR h1;obtain ⟨w1,w2⟩:=aN3 h4;have hn:n.toNat < t.nd.length:=OM
  have hlf:=aKO hv hn hl
  have hg:InOk (spN sf aQ other t.nd.length) (t.nd.length+2):=by
    refine ⟨J,s0,s1,?_,λk hk=>?_,?_,λa ha=>?_⟩
    all_goals (grind [spN,spO,spK,cW,wB,sH,fJ])
  unfold spT;rw [if_pos h];have hnth:=aFi hn (spN sf aQ other t.nd.length) [aA t.nd n.toNat,vH w]
  have hm: ∀ k,k < t.nd.length+2-> ¬k < t.nd.length->aA [aA t.nd n.toNat,vH w] (k - t.nd.length)=aA t.nd n.toNat\/aA [aA t.nd n.toNat,vH w] (k - t.nd.length)=vH w:=λk hk e=>by
    rcases Nat.lt_or_ge k (t.nd.length+1) with q|q
    . rw [show k - t.nd.length=0 by omega]; exact .inl J
    . rw [show k - t.nd.length=0+1 by omega]; exact .inr J
  refine aKC hv hn (m:=2) SI OM (λk hk a=>?_) (λk hk=>?_) (λk hk=>?_) w2<|aJf hn hl J w
  . rw [hnth]
    by_cases e:k < t.nd.length
    . rw [if_pos e]
      by_cases e2:n.toNat=k
      . rw [if_pos e2,<- e2,hlf.kd]
        show a∈spK _ _ _↔_
        grind [aM6]
      grind
    . rw [if_neg e]
      have hkd:(aA [aA t.nd n.toNat,vH w]<|k - t.nd.length).kd=[]:=by
        rcases hm k hk e with q|q
        . rw [q,hlf.kd]
        . rw [q]; rfl
      grind
  . rw [hnth]
    have htr:=tD (aB9 hv)<|yF hv
    split
    . split
      . show (spK _ _ _).Nodup
        grind [spK]
      . exact htr.d1 k OM
    . rename_i e
      rcases hm k hk e with q|q
      . rw [q,hlf.kd]; exact List.nodup_nil
      . rw [q]; exact List.nodup_nil
  grind [lW,spN,aKJ,aHt,pP,aNZ]
end
section
def bgN (x:Nd):Int:=if 1100 < x.ac.length\/1100 < x.sf.length\/40 < x.ou.length\/40 < x.kd.length then 1 else fe (λj=>if 1100 < (aA x.ou j).length then 1 else 0) 0 x.ou.length
def bgE (t:Dt) (k:Nat):Int:=bgN (aA t.nd k)
def bgT (t:Dt):Bool:=decide (40 < t.nd.length\/fe (bgE t) 0 t.nd.length≠0)
theorem aPY {t:Dt} (h:bgT t=false):t.nd.length<=40/\ ∀ k,k < t.nd.length->(aA t.nd k).ac.length<=1100/\(aA t.nd k).sf.length<=1100/\(aA t.nd k).ou.length<=40/\(aA t.nd k).kd.length<=40/\ ∀ j,j < (aA t.nd k).ou.length->(aA (aA t.nd k).ou j).length<=1100:=by
  have h1:=of_decide_eq_false h
  grind [bgE,eG,bgN]
structure Bd (t:Dt):Prop where
  n:t.nd.length<=4096
  ac: ∀ k,k < t.nd.length->(aA t.nd k).ac.length<=1048576
  sf: ∀ k,k < t.nd.length->(aA t.nd k).sf.length<=1048576
  ou: ∀ k,k < t.nd.length->(aA t.nd k).ou.length<=1048576
  kd: ∀ k,k < t.nd.length->(aA t.nd k).kd.length<=1048576
  ol: ∀ k,k < t.nd.length-> ∀ j,j < (aA t.nd k).ou.length->(aA (aA t.nd k).ou j).length<=1048576
theorem aE0 {t:Dt} (h:bgT t=false):Bd t:=by
  obtain ⟨h1,h2⟩:=aPY h
  exact ⟨OM,λk hk=>by have:=(h2 k hk).1; omega,λk hk=>by have:=(h2 k hk).2.1; omega,λk hk=>by have:=(h2 k hk).2.2.1; omega,λk hk=>by have:=(h2 k hk).2.2.2.1; omega,
    λk hk j hj=>by have:=(h2 k hk).2.2.2.2 j hj; omega⟩
theorem aOB (w:List Int):(0<=fi (λj=>(λa=>decide (a < 0\/1048576 < a)) (aA w j)) 0 w.length↔fe (ouE w) 0 w.length=2)/\(fe (ouE w) 0 w.length=0\/fe (ouE w) 0 w.length=2):=by
  have h:=aOf (λj=>(λa=>decide (a < 0\/1048576 < a)) (aA w j)) 2 DE w.length 0
  have e:(λj=>if (λj=>(λa=>decide (a < 0\/1048576 < a)) (aA w j)) j=true then (2:Int) else 0)=ouE w:=by
    funext j; simp [ouE]
  grind
theorem aP6 {aQ s:List Int} (h:sJ aQ s=0):aQ.length=s.length/\ ∀ k,k < aQ.length->0<=aA aQ k/\aA aQ k<=1048576:=by grind [sJ,eG,ouE]
theorem aPn {x:Nd} {n k:Nat} (h1:sJ (aA x.ou k) x.sf=0) {j:Nat} (hj:j < k) (h2:0<=cY (aA x.ou j) (aA x.ou k)) (hp: ∀ i,i < k->chE x n i=0):chE x n k=10:=by
  unfold chE;rw [if_neg OM,if_pos];refine ⟨OM,?_⟩;by_cases e:j=k - 1
  . rw [<- e]; exact h2
  . have:=aOz hp j (k - 1) OM OM
    rcases aEZ (aA x.ou (k - 1)) (aA x.ou k) with q|q|q
    . omega
    . exfalso
      have:=nC this (show cY (aA x.ou<|k - 1) (aA x.ou k) < 0 by omega);omega
    . omega
structure WI (t:Dt) (P:RS):Prop where
  mr:Mk t.nd.length P.2 P.1
  nd:P.1.Nodup
  rg: ∀ a∈P.1,0<=a/\a < t.nd.length
theorem WI.len {t:Dt} {P:RS} (h:WI t P):P.1.length<=t.nd.length/\P.2.length=t.nd.length:=⟨uW h.rg h.nd,h.mr.1⟩
theorem wi0 {t:Dt} (hk:KI t):WI t (wh0 t):=by
  have hp:=hk.pos;refine ⟨(Mk.none t.nd.length).set (a:=0) OM OM,by simp [wh0],λa ha=>?_⟩
  grind [wh0]
def wS (P:RS) (a:Int):RS:=(P.1++[a],P.2.set a.toNat true)
theorem WI.step {t:Dt} {P:RS} (h:WI t P) {a:Int} (h0:0<=a) (h1:a < t.nd.length) (hn:aA P.2 a.toNat=false):WI t (wS P a):=by
  refine ⟨h.mr.set h0 h1,?_,λb hb=>?_⟩
  . show (P.1++[a]).Nodup
    rw [List.nodup_append];refine ⟨h.nd,SI,λx hx y hy e=>?_⟩;rw [List.mem_singleton.1 hy] at e;subst e;have:=(h.mr.2 x h0 h1).2 hx;rw [hn] at this; cases this
  . rcases List.mem_append.1 hb with hb|hb
    . exact h.rg b hb
    grind
theorem aP8 {t:Dt} {i:Nat} {P:RS} (hi:i < P.1.length) (hn:i < t.nd.length):whN t (t.nd.length - i) i P=(whI P (aA t.nd (aA P.1 i).toNat).kd).bind (whN t (t.nd.length - (i+1)) (i+1)):=by rw [show t.nd.length - i=(t.nd.length - (i+1))+1 by omega,whN,if_pos hi]
theorem aO2 {t:Dt} {i:Nat} {P:RS} (hi:P.1.length<=i):whN t (t.nd.length - i) i P=some P:=by
  cases t.nd.length - i with
  |zero=>rfl
  |succ n=>grind [whN]
theorem aMq {P:RS} {w:List Int} {j:Nat} (hj:j < w.length) (h:aA P.2 (aA w j).toNat=true):whI P (w.drop j)=none:=by rw [mM hj,whI,if_pos h]
theorem aOT {P:RS} {w:List Int} {j:Nat} (hj:j < w.length) (h:aA P.2 (aA w j).toNat=false):whI P (w.drop j)=whI (wS P (aA w j)) (w.drop (j+1)):=by rw [mM hj,whI,if_neg (by rw [h]; simp)]; rfl
theorem aNA {P:RS} {w:List Int} {j:Nat} (hj:w.length<=j):whI P (w.drop j)=some P:=by rw [List.drop_eq_nil_of_le hj,whI]
theorem aJ3 {t:Dt} {P:RS} (h:whN t t.nd.length 0 (wh0 t)=some P):whB t=decide (P.1.length=t.nd.length):=by unfold whB; rw [h]
theorem aK0 {t:Dt} (h:whN t t.nd.length 0 (wh0 t)=none):whB t=false:=by unfold whB; rw [h]
structure CI (t:Dt) (P:RS):Prop where
  l2:P.2.length=t.nd.length
  l1:P.1.length<=t.nd.length
  rg: ∀ a∈P.1,0<=a/\a < t.nd.length
theorem ci0 {t:Dt} (hk:KI t):CI t (co0 t):=by
  have hp:=hk.pos;refine ⟨by simp [co0],by simp [co0]; omega,λa ha=>?_⟩
  grind [co0]
def cSt (t:Dt) (P:RS) (i:Nat):RS:=(qS t P.1 i,P.2.set (aA P.1 i).toNat true)
theorem CI.step {t:Dt} (hk:KI t) {P:RS} (h:CI t P) {i:Nat} (hi:i < P.1.length) (hl:(qS t P.1 i).length<=t.nd.length):CI t (cSt t P i):=by
  have hr:=h.rg _<|cW hi
  refine ⟨by simp [cSt,h.l2],hl,λa ha=>?_⟩;rcases List.mem_append.1 ha with ha|ha
  . exact h.rg a ha
  . exact hk.rng _ OM a ha
theorem aPF {t:Dt} {i:Nat} {P:RS} (hi:i < P.1.length) (hn:i<=t.nd.length) (h:aA P.2 (aA P.1 i).toNat=true):coN t (t.nd.length+1 - i) i P=none:=by rw [show t.nd.length+1 - i=(t.nd.length - i)+1 by omega,coN,if_pos hi,if_pos h]
theorem aOX {t:Dt} {i:Nat} {P:RS} (hi:i < P.1.length) (hn:i<=t.nd.length) (h:aA P.2 (aA P.1 i).toNat=false) (hl:t.nd.length < (qS t P.1 i).length):coN t (t.nd.length+1 - i) i P=none:=by rw [show t.nd.length+1 - i=(t.nd.length - i)+1 by omega,coN,if_pos hi,if_neg (by rw [h]; simp),if_pos hl]
theorem aPP {t:Dt} {i:Nat} {P:RS} (hi:i < P.1.length) (hn:i<=t.nd.length) (h:aA P.2 (aA P.1 i).toNat=false) (hl: ¬t.nd.length < (qS t P.1 i).length):coN t (t.nd.length+1 - i) i P=coN t (t.nd.length+1 - (i+1)) (i+1) (cSt t P i):=by rw [show t.nd.length+1 - i=(t.nd.length+1 - (i+1))+1 by omega,coN,if_pos hi,if_neg (by rw [h]; simp),if_neg hl]; rfl
theorem aPv {t:Dt} {i:Nat} {P:RS} (hi:P.1.length<=i) (hn:i<=t.nd.length):coN t (t.nd.length+1 - i) i P=some P:=by rw [show t.nd.length+1 - i=(t.nd.length - i)+1 by omega,coN,if_neg OM]
theorem aKs {t:Dt} {P:RS} (h:coN t (t.nd.length+1) 0 (co0 t)=some P):coB t=decide (P.1.length=t.nd.length):=by unfold coB; rw [h]
theorem aFg {t:Dt} (h:coN t (t.nd.length+1) 0 (co0 t)=none):coB t=false:=by unfold coB; rw [h]
def mvL (l:List (List Int)) (j:Nat):List (List Int):=l.take j++aA (l++[[]]) j::l.drop j
theorem aP3 {l:List (List Int)} {w:List Int} (h: ¬(pO l w < l.length/\aA l (pO l w)=w)):wiW l w=l.take (pO l w)++w::l.drop (pO l w):=if_neg h
theorem aPq {l:List (List Int)} {w:List Int} (h:pO l w < l.length/\aA l (pO l w)=w):wiW l w=l:=if_pos h
theorem aJK {l:List (List Int)} {j:Nat} (h:j<=l.length):(mvL l j).length=l.length+1:=by unfold mvL; simp; omega
theorem aON (l:List (List Int)):mvL l l.length=l++[[]]:=by grind [mvL,aA]
theorem aOZ {l:List (List Int)} {j m:Nat} (h:j<=l.length) (hm:m<=l.length):aA (mvL l j) m=if m<=j then aA (l++[[]]) m else aA l (m - 1):=by
  unfold mvL;by_cases e:m < j
  . grind [fK,lA]
  . have hl:(l.take j).length=j:=by simp; omega
    rw [show m=(l.take j).length+(m - j) by omega,pG];by_cases e2:m=j
    . simp_all [jY]
    . obtain ⟨d,hd⟩: ∃ d,m - j=d+1:=⟨m - j - 1,OM⟩
      grind [kW,rX]
theorem aNT {l:List (List Int)} {j:Nat} (h0:0 < j) (h:j<=l.length):(mvL l j).set j (aA (mvL l j) (j - 1))=mvL l (j - 1):=by grind [jT,List.length_set,aJK,aA8,aOZ,fK]
theorem aOY {l:List (List Int)} {k:Nat} (h:k<=l.length) (w:List Int):(mvL l k).set k w=l.take k++w::l.drop k:=by simp_all [mvL]
end
section
theorem aKq (a b:List Int):decide ((a.length:Int)=(b.length:Int)/\(gJ a b:Int)=(a.length:Int))=decide (a=b):=by
  have h:=hC a b;refine decide_eq_decide.2 ⟨λ⟨e1,e2⟩=>jT OM λj hj=>h.2.2.1 j OM,λe=>?_⟩;subst e
  have:gJ a a=a.length:=by
    rcases Nat.lt_or_ge (gJ a a) a.length with q|q
    . exact (h.2.2.2 q q J).elim
    . omega
  exact ⟨J,OM⟩
end
section
@[simp] theorem aOL (l:List Nd):mN (l.map cN)=true:=aGo _ _ λa=>by simp [cN]
theorem aPG {l:List (List Int)} {w:List Int}:0<=fi (λj=>(λv=>decide (v=w)) (aA l j)) 0 l.length↔w∈l:=by grind [sV,cW,lX]
theorem aNS {l:List (List Int)} {w:List Int}:w∈sdP l↔w∈l:=by grind [aDS,kI]
theorem aMS (l:List (List Int)):(sdP l).length<=l.length:=by grind [aDS,yV]
theorem aDL {α:Type} [Inhabited α] {l:List α} {k:Nat} (h:k < l.length):l.set k (aA l k)=l:=by grind [jT,List.length_set,aA8]
theorem aDn {l:List (List Int)} (h: ∀ i,1<=i->i < l.length->aA l i≠aA l (i - 1)):eZ l l.length=l:=by grind [aEl]
theorem aFu {l:List (List Int)} {k:Nat} (h1:1<=k) (hk:k < l.length) (h: ∀ i,1<=i->i < k->aA l i≠aA l (i - 1)) (he:aA l k=aA l (k - 1)):(eZ l (k+1)).length=k/\oA l (k+1)=l:=by
  have e1:eZ l (k+1)=l.take k:=by
    grind [jX,aEl]
  grind [oA,List.take_append_drop]
theorem aGs {l:List (List Int)}: ∀ {j:Nat},0 < j->0 < (eZ l j).length
  |1,_=>by rw [show (1:Nat)=0+1 from rfl,jE (.inl rfl)]; simp
  | j + 2, _ => by
    have:=aGs (l:=l) (j:=j+1) OM
    grind [eZ]
theorem aN2 {l:List (List Int)} {k j:Nat} (h:(eZ l (k+j)).length < k+j) (hj:1<=j):
    aA (oA l<|k+j) (0+k+j)=aA l (k+j)/\aA (oA l<|k+j) (0+k+(((j:Nat):Int) - (1:Int)).toNat)=aA l (k+j - 1):=by grind [aMM]
theorem aIv {l:List (List Int)} {j:Nat} (h:l.length<=j) (hj:j<=l.length):(oA l j).take (eZ l j).length=eZ l l.length:=by grind [oA]
theorem aP9 {l:List (List Int)} {w:List Int}:wiH l w↔pO l w < l.length/\aA l (pO l w)=w:=Iff.rfl
theorem aBU {t:Dt} (hb:Bd t): ∀ w∈eP t.nd,w.length<=1048576:=λw hw=>by
  unfold eP at hw;obtain ⟨x,hx,rfl⟩:=List.mem_map.1 hw;obtain ⟨k,hk,rfl⟩:=lX (List.mem_filter.1 hx).1;exact hb.ac k hk
theorem fH {H:bC} {n:Nat} {u1 u2 u3 u4 u5 v1 v2 v3 v4 v5:V} (g1:fQ true H n u1=v1) (g2:fQ true H n u2=v2) (g3:fQ true H n u3=v3) (g4:fQ true H n u4=v4) (g5:fQ true H n u5=v5):
    fQ true H (n+1) (.agg [u1,u2,u3,u4,u5])=.agg [v1,v2,v3,v4,v5]:=by simp_all [fQ]
theorem aQl {x:Nd} {j:Nat} (h:x.ou.length<=j):(⟨x.lf,bD [x.ac],bD [x.sf],x.ou.take j,x.kd⟩:Nd)=x:=by simp_all [bD,List.take_of_length_le]
theorem aG3 {l:List Nd} {k j:Nat} (hk:k < l.length) (h:(aA l k).ou.length<=j):l.set k (⟨(aA l k).lf,bD [(aA l k).ac],bD [(aA l k).sf],(aA l k).ou.take j,(aA l k).kd⟩:Nd)=l:=by rw [aQl h,aDL hk]
theorem aPu {x:Nd} {j:Nat} (h:x.ou.length<=j):(⟨x.lf,bD [x.ac],bD [x.sf],x.ou.take j,bD [x.kd]⟩:Nd)=x:=by simp_all [bD,List.take_of_length_le]
theorem aGN (x:List Int):bD [x]=x:=by simp [bD]
theorem uA {l:List (List Int)} {j:Nat} (h:j < l.length):l.take j++[bD [aA l j]]=l.take (j+1):=by rw [aGN,cV h]
end
section
theorem rJ {t:Dt} {n:Int} {sf aQ w other:List Int} (h:nJ t n sf aQ w other≠0):spT t n sf aQ w other=t:=if_neg h
theorem aDp {t:Dt} {n:Int} {sf aQ w other:List Int} (h:nJ t n sf aQ w other=0):spT t n sf aQ w other=⟨t.nd.set n.toNat (spN sf aQ other t.nd.length)++[aA t.nd n.toNat,vH w]⟩:=if_pos h
theorem aPr {l:List (List Int)} {w:List Int} {k:Nat} (h: ¬pN l w < k/\cY w (aA l k) < 0):pN l w=k:=by
  by_cases e:k < pN l w
  . exact (aKg e h.2).elim
  . omega
theorem aMt {l:List (List Int)} {w:List Int} {k:Nat} (hk:k < l.length) (h: ¬(¬pN l w < k/\cY w (aA l k) < 0)):k≠pN l w:=λe=>by
  have:=aJW (l:=l) (w:=w) OM;rw [<- e] at this;exact h ⟨OM,this⟩
theorem aBa {α:Type} [Inhabited α] {p k:Nat} {x:α} {l:List α} (e:p=k) (h:k < l.length):lF p x l (k+1)=lF p x l k++[x]++[aA l k]:=by
  subst e; exact aLQ h
theorem aMB {t:Dt} (hv:gU t=0) {k:Nat} (hk:k < t.nd.length) (hl:(aA t.nd k).lf=true):(⟨true,(aA t.nd k).ac,[],[],[]⟩:Nd)=aA t.nd k:=by
  have h:=aKO hv hk hl;cases hq:aA t.nd k with
  | mk a b c d e =>
    rw [hq] at h hl;have h1:=h.sf; have h2:=h.ou; have h3:=h.kd;simp only at h1 h2 h3 hl;subst h1; subst h2; subst h3; subst hl; rfl
theorem oH {t:Dt} {n:Int} {aQ w:List Int} (h:jD t n aQ w≠0):grT t n aQ w=t:=if_neg h
theorem aIf {t:Dt} {n:Int} {aQ w:List Int} (h:jD t n aQ w=0):grT t n aQ w=⟨t.nd.set n.toNat (gNd (aA t.nd n.toNat) aQ t.nd.length)++[vH w]⟩:=if_pos h
end
section
open Go
theorem aP7 {x:Nd} {j:Nat} (h:x.ou.length<=j):[V.bool x.lf,aE (bD [x.ac]),aE (bD [x.sf]),aC (x.ou.take j),aE x.kd]=cN x:=by
  simp only [bD,List.append_nil]; rw [List.take_of_length_le h]
end
section
open Go Go.Sort
theorem aEG:SWO λa b:List Int=>decide (cY a b < 0) where
  irrefl a:=decide_eq_false (by rw [fJ.2 J]; omega)
  trans a b c h1 h2:=decide_eq_true<|nC (of_decide_eq_true h1)<|of_decide_eq_true h2
  ntrans a b c h1 h2:=decide_eq_false<|aA7.2<|aM7 (aA7.1<|of_decide_eq_false h2)<|aA7.1<|of_decide_eq_false h1
theorem aC7 {a b:List Int} (h1: ¬cY a b < 0) (h2: ¬cY b a < 0):a=b:=by grind [aA7,fJ]
def oQ (l:List (List Int)):List (List Int):=eZ (srt cY l) (srt cY l).length
theorem vM {l:List (List Int)} {w:List Int}:w∈oQ l↔w∈l:=by grind [oQ,zN,uN]
theorem aHE (l:List (List Int)):(oQ l).length<=l.length:=by grind [aBP,oQ,pA]
theorem aIb {L:List (List Int)} (hs:L.Pairwise λa b=> ¬cY b a < 0): ∀ {j:Nat},j<=L.length->wB (eZ L j)
  |0,_=>List.Pairwise.nil
  | j + 1, hj => by
    have ih:=aIb hs (j:=j) OM;by_cases h:j=0\/aA L j≠aA L (j - 1)
    . rw [jE h,wB,List.pairwise_append]
      refine ⟨ih,SI,λa ha b hb=>?_⟩;rw [List.mem_singleton.1 hb];have ha':=(zN (L:=L) OM a).1 ha
      grind [gC,aA,List.pairwise_iff_getElem,aC7]
    . rw [jX h]; exact ih
theorem aMZ (l:List (List Int)):wB (oQ l):=aIb (sR aEG l) (Nat.le_refl _)
def mxC (L:List (List Int)) (k:Nat):Bool:=decide (((k+1:Nat):Int)=((L.length:Nat):Int))|| !hp (aA L (k+1)) (aA L k)
def mxO (L:List (List Int)):Nat->List (List Int)
  |0=>[]
  |k+1=>if mxC L k=true then mxO L k++[aA L k] else mxO L k
theorem aDG {L:List (List Int)} {k:Nat} (h:mxC L k=true):mxO L (k+1)=mxO L k++[aA L k]:=if_pos h
theorem aGP {L:List (List Int)} {k:Nat} (h:mxC L k=false):mxO L (k+1)=mxO L k:=if_neg (by rw [h]; decide)
theorem aHT (L:List (List Int)): ∀ k,(mxO L k).length<=k
  |0=>Nat.le_refl _
  |k+1=>by have:=aHT L k; simp only [mxO]; split <;> simp <;> omega
theorem aDA {L:List (List Int)} {w:List Int}: ∀ {k:Nat},w∈mxO L k↔ ∃ i,i < k/\mxC L i=true/\aA L i=w
  |0=>by simp [mxO]
  | k + 1 => by
    have ih:=aDA (L:=L) (w:=w) (k:=k)
    grind [mxC,aDG,aGP]
def tpB (L:List (List Int)) (k:Nat):Nat->Bool
  |0=>true
  |j+1=>if k < j then tpB L k j&&(decide (((aA L j).length:Int)=((aA L k).length:Int))|| !hp (aA L j) (aA L k)) else true
theorem aFz {L:List (List Int)} {k j:Nat} (h:j<=k+1):tpB L k j=true:=by
  cases j with
  |zero=>rfl
  |succ j=>exact if_neg OM
theorem aHn {L:List (List Int)} {k j:Nat} (h:k < j):tpB L k (j+1)=(tpB L k j&&(decide (((aA L j).length:Int)=((aA L k).length:Int))|| !hp (aA L j) (aA L k))):=if_pos h
theorem aGX {L : List (List Int)} {k : Nat} : ∀ {j : Nat}, tpB L k j = true ↔ ∀ i, k < i -> i < j -> (aA L i).length = (aA L k).length \/ hp (aA L i) (aA L k) = false
  |0=>by simp [tpB]
  | j + 1 => by
    by_cases h:k < j
    . rw [aHn h,Bool.and_eq_true,aGX (j:=j),Bool.or_eq_true,decide_eq_true_eq,Int.ofNat_inj,Bool.not_eq_true']
      constructor
      . rintro ⟨a,b⟩ i h1 h2
        by_cases e:i=j
        . subst e; exact b
        . exact a i h1 OM
      . intro a; exact ⟨λi h1 h2=>a i h1 OM,a j h OM⟩
    . rw [aFz OM]
      exact ⟨λ_ i h1 h2=>by omega,λ_=>J⟩
def zX (l:List (List Int)):Nat->List (List Int)
  |0=>[]
  |k+1=>if tpB (fB l) k (fB l).length=true then zX l k++[aA (fB l) k] else zX l k
theorem aHP {l:List (List Int)} {k:Nat} (_:k < (fB l).length) (h:tpB (fB l) k (fB l).length=true):zX l (k+1)=zX l k++[aA (fB l) k]:=if_pos h
theorem aJ9 {l:List (List Int)} {k:Nat} (_:k < (fB l).length) (h:tpB (fB l) k (fB l).length=false):zX l (k+1)=zX l k:=if_neg (by rw [h]; decide)
theorem aHm (l:List (List Int)): ∀ k,(zX l k).length<=k
  |0=>Nat.le_refl _
  |k+1=>by have:=aHm l k; simp only [zX]; split <;> simp <;> omega
def oD (l:List (List Int)):List (List Int):=zX l (fB l).length
theorem aMv {l:List (List Int)} {k:Nat} (h:k=(fB l).length):zX l k=oD l:=by rw [h]; rfl
theorem aEk {l:List (List Int)} {w:List Int}: ∀ {k:Nat},w∈zX l k↔ ∃ i,i < k/\tpB (fB l) i (fB l).length=true/\aA (fB l) i=w
  |0=>by simp [zX]
  | k + 1 => by
    have ih:=aEk (l:=l) (w:=w) (k:=k)
    grind [zX]
theorem aHR {l:List (List Int)}: ∀ {k:Nat},k<=(fB l).length->vY (zX l k)
  |0,_=>List.Pairwise.nil
  | k + 1, hk => by
    have ih:=aHR (l:=l) (k:=k) OM;simp only [zX];split
    . rw [vY,List.pairwise_append]
      refine ⟨ih,SI,λa ha b hb=>?_⟩;rw [List.mem_singleton.1 hb];obtain ⟨i,i1,_,rfl⟩:=aEk.1 ha;have:=(List.pairwise_iff_getElem.1<|sS l) i k OM OM i1
      grind [cP]
    . exact ih
def MxP (l:List (List Int)) (w:List Int):Prop:=w∈l/\ ∀ u∈l,hp u w=true->u=w
theorem aDv {l:List (List Int)} {w:List Int}:w∈oD l↔MxP l w:=by
  unfold oD;rw [aEk];constructor
  . rintro ⟨i,i1,i2,rfl⟩
    refine ⟨(kI _ _).1 (cW i1),λu hu hh=>?_⟩;obtain ⟨j,hj,rfl⟩:=gC<|(kI l u).2 hu
    have hlen:=wZ hh;rcases Nat.lt_trichotomy i j with q|q|q
    . grind [aGX,aHS]
    . subst q; rfl
    . have:=(List.pairwise_iff_getElem.1<|sS l) j i hj i1 q
      rw [cP,cP] at this;have h2:=aFF hh;have:=vK this;omega
  . rintro ⟨h1,h2⟩
    obtain ⟨i,hi,rfl⟩:=gC<|(kI l w).2 h1
    grind [aGX,kI,cW]
theorem aNi {a b:List Int} (h:hp b a=true):cY a b<=0:=by
  obtain ⟨x,rfl⟩:=sZ.1 h
  have e:gJ a (a++x)=a.length:=by
    have:=aMN (p:=a) (x:=[]) (y:=x)
    grind [gJ]
  grind [cY]
theorem aQo (l : List (List Int)) : fB (mxO (oQ l) (oQ l).length) = oD l := by
  refine zK (sS _) (aHR<|Nat.le_refl _) λw=>?_;rw [kI,aDA];show _↔w∈oD l;rw [aDv];have lt: ∀ {i j:Nat},i < j->j < (oQ l).length->cY (aA (oQ l) i) (aA (oQ l) j) < 0:=λh1 h2=>aDI (aMZ l) h1 h2
  constructor
  . rintro ⟨i,i1,i2,rfl⟩
    refine ⟨vM.1 (cW i1),λu hu hh=>?_⟩;obtain ⟨j,hj,rfl⟩:=gC<|vM.2 hu
    rcases Nat.lt_trichotomy i j with q|q|q
    . exfalso
      grind [mxC,cY,fJ,aFe,hp,zB,kX]
    . subst q; rfl
    . have h1:=lt q i1
      have h2:=aNi hh;have:=uP h1;omega
  . rintro ⟨h1,h2⟩
    obtain ⟨i,hi,rfl⟩:=gC<|vM.2 h1
    refine ⟨i,hi,?_,J⟩;unfold mxC;rw [Bool.or_eq_true,decide_eq_true_eq,Bool.not_eq_true'];by_cases e:i+1=(oQ l).length
    . exact .inl OM
    . refine .inr ?_
      by_cases hh:hp (aA (oQ l)<|i+1) (aA (oQ l) i)=true
      . exfalso
        have hq:=h2 _ (vM.1<|cW (show i+1 < (oQ l).length by omega)) hh;have:=lt (show i < i+1 by omega) OM
        grind [fJ]
      . simpa using hh
end
section
open Go
structure Ts where
  i:Int
  t:Dt
  deriving Inhabited
structure Xt where
  w:List Int
  n:Int
  deriving Inhabited
structure Spl where
  p:List Int
  a:Int
  x:List Int
  deriving Inhabited
abbrev cXt (e:Xt):List V:=[aE e.w,iV e.n]
theorem Ts.eq_iff {a b:Ts}:a=b↔a.i=b.i/\a.t=b.t:=by cases a; cases b; simp
instance:DecidableEq Ts:=λ_ _=>decidable_of_iff _ Ts.eq_iff.symm
@[simp] theorem aPa (l:List Xt):mN (l.map cXt)=true:=by simp_all
def nE (n:Int):Ts:=if n < 1\/64 < n then ⟨0,⟨[]⟩⟩ else ⟨n,⟨[vH []]⟩⟩
def nwE (n:Int):Int:=if n < 1\/64 < n then 2 else 0
def tR (l:Ts) (k:Nat):Int:=if dG (aA l.t.nd k).ac l.i≠0 then dG (aA l.t.nd k).ac l.i else dG (aA l.t.nd k).sf l.i
def vC (l:Ts):Int:=if l.i < 1\/64 < l.i then 2 else if gU l.t≠0 then gU l.t else if fe (tR l) 0 l.t.nd.length≠0 then fe (tR l) 0 l.t.nd.length else if []∉eP l.t.nd then 1 else if 128 < (eP l.t.nd).length then 11 else 0
def jL (l:Ts) (o:Ob):Int:=if vC l≠0 then vC l else if l.i≠o.i then 15 else 0
theorem aPU {l:Ts} (h1:l.i < 1\/64 < l.i):vC l=2:=by unfold vC; rw [if_pos h1]
theorem aQk {l:Ts} (h1: ¬(l.i < 1\/64 < l.i)) (h2:gU l.t≠0):vC l=gU l.t:=by grind [vC]
theorem aNU {l:Ts} (h1: ¬(l.i < 1\/64 < l.i)) (h2: ¬(gU l.t≠0)) (h3:fe (tR l) 0 l.t.nd.length≠0):vC l=fe (tR l) 0 l.t.nd.length:=by grind [vC]
theorem aQs {l:Ts} (h1: ¬(l.i < 1\/64 < l.i)) (h2: ¬(gU l.t≠0)) (h3: ¬(fe (tR l) 0 l.t.nd.length≠0)) (h4:[]∉eP l.t.nd):vC l=1:=by grind [vC]
theorem aQj {l:Ts} (h1: ¬(l.i < 1\/64 < l.i)) (h2: ¬(gU l.t≠0)) (h3: ¬(fe (tR l) 0 l.t.nd.length≠0)) (h4: ¬([]∉eP l.t.nd)) (h5:128 < (eP l.t.nd).length):vC l=11:=by grind [vC]
theorem aNY {l:Ts} (h1: ¬(l.i < 1\/64 < l.i)) (h2: ¬(gU l.t≠0)) (h3: ¬(fe (tR l) 0 l.t.nd.length≠0)) (h4: ¬([]∉eP l.t.nd)) (h5: ¬(128 < (eP l.t.nd).length)):vC l=0:=by grind [vC]
theorem tL {l:Ts} (h:vC l=0):1<=l.i/\l.i<=64/\gU l.t=0/\(∀ k,k < l.t.nd.length->dG (aA l.t.nd k).ac l.i=0/\dG (aA l.t.nd k).sf l.i=0)/\[]∈eP l.t.nd/\(eP l.t.nd).length<=128:=by
  unfold vC at h;split at h <;> grind [eG,tR]
theorem aBV {l:Ts} {o:Ob} (h:jL l o=0):vC l=0/\l.i=o.i:=by grind [jL]
def emB (t:Dt) (k:Nat):Bool:=decide ([]∈eP (t.nd.take k))
theorem aNe {t:Dt} {k:Nat} (hk:k < t.nd.length) (h:(aA t.nd k).lf=true):emB t (k+1)=(emB t k||decide (((aA t.nd k).ac.length:Int)=0)):=by grind [emB,jF,List.length_eq_zero_iff]
theorem aPh {t:Dt} {k:Nat} (hk:k < t.nd.length) (h:(aA t.nd k).lf=false):emB t (k+1)=emB t k:=by grind [emB,jF]
theorem aHA {t:Dt} {k:Nat} (hk:t.nd.length<=k):emB t k=decide ([]∈eP t.nd):=by grind [emB,List.take_of_length_le]
def fU (t:Dt):List (List Int):=if gU t=0 then fB (eP t.nd) else []
theorem xD {t:Dt} (h:gU t=0):fU t=fB (eP t.nd):=if_pos h
theorem oZ {t:Dt} (h:gU t=0):(fU t).length=(eP t.nd).length:=by grind [xD,pP]
def ex1 (i:Int) (p:List Int):List (List Int):=(List.range i.toNat).map λ(a:Nat)=>bD [p,[(a:Int)]]
def dD (l:Ts):List (List Int):=(fU l.t).flatMap (ex1 l.i)
theorem aMD (i:Int) (p:List Int):(ex1 i p).length=i.toNat:=by simp [ex1]
theorem aE2 {α β:Type} {f:α->List β} {n:Nat} (h: ∀ a,(f a).length=n): ∀ l:List α,(l.flatMap f).length=l.length*n
  |[]=>by simp
  |a::l=>by rw [List.flatMap_cons,List.length_append,h,aE2 h l,List.length_cons,Nat.succ_mul]; omega
theorem aEI {α β:Type} [Inhabited α] [Inhabited β] {f:α->List β} {n:Nat} (h: ∀ a,(f a).length=n): ∀ {l:List α} {k j:Nat},k < l.length->j < n->aA (l.flatMap f) (k*n+j)=aA (f (aA l k)) j
  |[],k,j,hk,_=>by simp at hk
  | a :: l, 0, j, _, hj => by
    rw [List.flatMap_cons,Nat.zero_mul,Nat.zero_add,fK (by rw [h]; exact hj)]; rfl
  | a :: l, k + 1, j, hk, hj => by
    rw [List.flatMap_cons,show (k+1)*n+j=(f a).length+(k*n+j) by rw [h,Nat.succ_mul]; omega,pG,kW];exact aEI h (by simpa using hk) hj
theorem vE (l:Ts):(dD l).length=(fU l.t).length*l.i.toNat:=aE2 (aMD l.i) _
theorem aD8 {l:Ts} {k j:Nat} (hk:k < (fU l.t).length) (hj:j < l.i.toNat):aA (dD l) (k*l.i.toNat+j)=bD [aA (fU l.t) k,[(j:Int)]]:=by grind [dD,aEI,ex1,aA]
theorem aLW {l:Ts} (h:gU l.t=0):(dD l).length=(fB (eP l.t.nd)).length*l.i.toNat:=by rw [vE,xD h]
theorem aJM {l:Ts} (h:gU l.t=0) {k j:Nat} (hk:k < (fB (eP l.t.nd)).length) (hj:j < l.i.toNat):aA (dD l) (k*l.i.toNat+j)=bD [aA (fB (eP l.t.nd)) k,[(j:Int)]]:=by grind [aD8,xD]
theorem aMC {l:Ts} (h:vC l=0):(dD l).length<=8192:=by
  obtain ⟨h1,h2,hv,_,_,hl⟩:=tL h;rw [vE,oZ hv];exact Nat.le_trans (Nat.mul_le_mul hl (show l.i.toNat<=64 by omega)) DE
theorem aNq {l:List Nd} {w:List Int} (h:w∈eP l): ∃ k,k < l.length/\(aA l k).lf=true/\(aA l k).ac=w:=by grind [eP,gC]
theorem zU {l:Ts} (h:vC l=0) {w:List Int} (hw:w∈fU l.t):w.length<=1024/\dG w l.i=0:=by
  obtain ⟨_,_,hv,hq,_,_⟩:=tL h
  grind [xD,aNq,kI,eL]
theorem aNn {l:Ts} {w:List Int} (hw:w∈dD l): ∃ p a,p∈fU l.t/\0<=a/\a < l.i/\w=p++[a]:=by grind [dD,ex1,bD]
theorem pL {l:Ts} (h:vC l=0) {w:List Int} (hw:w∈dD l):w.length<=1025/\0 < w.length/\ ∀ k,k < w.length->0<=aA w k/\aA w k < l.i:=by grind [aNn,zU,eL,aA]
def sqE (l:Ts) (o:Ob) (k:Nat):Int:=(bJ l.t o (aA (dD l) k)).2.2
def lE (l:Ts) (o:Ob):Int:=fe (sqE l o) 0 (dD l).length
def qr1 (t:Dt) (o:Ob) (w:List Int):List (List Int):=(if (eA o w).isSome=true then [] else [w])++(if 0 < (bJ t o w).2.1.length then [(bJ t o w).2.1] else [])
def pX (l:Ts) (o:Ob) (k:Nat):List (List Int):=((dD l).take k).flatMap (qr1 l.t o)
def rD (l:Ts) (o:Ob):List (List Int):=(dD l).flatMap (qr1 l.t o)
theorem aL4 (t:Dt) (o:Ob) (w:List Int):(qr1 t o w).length<=2:=by grind [qr1]
theorem aBH {α β:Type} {f:α->List β} {n:Nat} (h: ∀ a,(f a).length<=n): ∀ l:List α,(l.flatMap f).length<=l.length*n
  |[]=>by simp
  | a :: l => by
    have:=aBH h l
    grind [Nat.succ_mul]
theorem aKc (l:Ts) (o:Ob) (k:Nat):(pX l o k).length<=2*(dD l).length:=by
  have:=aBH (aL4 l.t o)<|(dD l).take k
  grind [pX]
theorem gZ {l:Ts} {o:Ob} {k:Nat} (h:k < (dD l).length):pX l o (k+1)=pX l o k++qr1 l.t o (aA (dD l) k):=aJk h
theorem aIc {l:Ts} {o:Ob} {k:Nat} (h:(dD l).length<=k):pX l o k=rD l o:=by unfold pX; rw [List.take_of_length_le h]; rfl
theorem aIq {l:Ts} (o:Ob) (_:vC l=0):(rD l o).length<=2*(dD l).length:=by
  have:=aBH (aL4 l.t o)<|dD l
  unfold rD; omega
theorem aBz {t : Dt} {o : Ob} {w : List Int} : ∀ (f n : Nat), (gM t o w f n).2.1 = [] \/ dG (gM t o w f n).2.1 o.i = 0
  |0,n=>.inl rfl
  | f + 1, n => by
    unfold gM;split
    . exact .inl J
    . split
      . exact .inl J
      . split
        . rename_i h _; exact .inr (Decidable.not_not.1 h)
        . split
          . exact aBz f _
          . exact .inl J
theorem aIZ {t:Dt} {o:Ob} {w:List Int}:(bJ t o w).2.1=[]\/dG (bJ t o w).2.1 o.i=0:=by grind [bJ,aBz]
theorem aJG (t:Dt) (o:Ob) (w:List Int):(bJ t o w).2.1.length<=1024:=by grind [aIZ,eL]
theorem aEt {l:Ts} {o:Ob} (h:vC l=0) {w:List Int} (hw:w∈rD l o):w.length<=1048576:=by grind [rD,pL,aJG,qr1]
def lH (o:Ob) (w x:List Int):List Int:=((eA o (bD [w,x])).getD []).drop w.length
theorem aFx {o:Ob} {w x:List Int} (h:(eA o (bD [w,x])).isSome=false):lH o w x=[]:=by simp_all [lH]
theorem aAg {o:Ob} (ho:kS o=0) (w x:List Int):(lH o w x).length<=x.length:=by
  cases hh:(eA o<|bD [w,x]).isSome with
  |false=>rw [aFx hh]; simp
  | true =>
    grind [nH,lD,bD,lH]
def wC (l:Ts) (o:Ob) (k:Nat):Bool:= !(aA l.t.nd (bJ l.t o (aA (dD l) k)).1.toNat).lf
def qF (l:Ts) (o:Ob):Int:=fi (wC l o) 0 (dD l).length
def tsW (l:Ts) (o:Ob):List Int:=aA (dD l) (qF l o).toNat
def tsM (l:Ts) (o:Ob):Int:=(bJ l.t o (tsW l o)).1
def tsO (l:Ts) (o:Ob):List Int:=lH o (tsW l o) (aA l.t.nd (tsM l o).toNat).sf
def cR (l:Ts) (o:Ob):Ts×List (List Int)×Bool×Int:=
  if jL l o≠0 then (l,[],false,jL l o) else if lE l o≠0 then (l,[],false,lE l o) else if 0 < (oD<|rD l o).length then (l,oD (rD l o),false,0)
  else if qF l o < 0 then (l,[],true,0) else if 128<=(eP l.t.nd).length then (l,[],false,11)
  else if jD l.t (tsM l o) (tsO l o) (tsW l o)≠0 then (l,[],false,jD l.t (tsM l o) (tsO l o) (tsW l o))
  else (⟨l.i,grT l.t (tsM l o) (tsO l o) (tsW l o)⟩,[],false,0)
section
variable {l:Ts} {o:Ob}
theorem oG (h:jL l o≠0):cR l o=(l,[],false,jL l o):=if_pos h
theorem oL (h: ¬jL l o≠0) (h2:lE l o≠0):cR l o=(l,[],false,lE l o):=by grind [cR]
theorem lC (h: ¬jL l o≠0) (h2: ¬lE l o≠0) (h3:0 < (oD (rD l o)).length):cR l o=(l,oD (rD l o),false,0):=by grind [cR]
theorem jH (h: ¬jL l o≠0) (h2: ¬lE l o≠0) (h3: ¬0 < (oD (rD l o)).length) (h4:qF l o < 0):cR l o=(l,[],true,0):=by grind [cR]
theorem kM (h: ¬jL l o≠0) (h2: ¬lE l o≠0) (h3: ¬0 < (oD (rD l o)).length) (h4:0<=qF l o) (h5:128<=(eP l.t.nd).length):cR l o=(l,[],false,11):=by grind [cR]
variable {k:Nat}
theorem oI (h: ¬jL l o≠0) (h2: ¬lE l o≠0) (h3: ¬0 < (oD (rD l o)).length) (h4:qF l o=(k:Int)) (h5:(eP l.t.nd).length < 128)
    (h6:jD l.t (bJ l.t o<|aA (dD l) k).1 (lH o (aA (dD l) k) (aA l.t.nd (bJ l.t o<|aA (dD l) k).1.toNat).sf) (aA (dD l) k)≠0):
    cR l o=(l,[],false,jD l.t (bJ l.t o<|aA (dD l) k).1 (lH o (aA (dD l) k) (aA l.t.nd (bJ l.t o<|aA (dD l) k).1.toNat).sf) (aA (dD l) k)):=by grind [cR,tsO,tsM,tsW]
theorem oF (h: ¬jL l o≠0) (h2: ¬lE l o≠0) (h3: ¬0 < (oD (rD l o)).length) (h4:qF l o=(k:Int)) (h5:(eP l.t.nd).length < 128)
    (h6: ¬jD l.t (bJ l.t o<|aA (dD l) k).1 (lH o (aA (dD l) k) (aA l.t.nd (bJ l.t o<|aA (dD l) k).1.toNat).sf) (aA (dD l) k)≠0):
    cR l o=(⟨l.i,grT l.t (bJ l.t o<|aA (dD l) k).1 (lH o (aA (dD l) k) (aA l.t.nd (bJ l.t o<|aA (dD l) k).1.toNat).sf) (aA (dD l) k)⟩,[],false,0):=by grind [cR,tsO,tsM,tsW]
end
theorem aCH {t : Dt} {o : Ob} {w : List Int} (hv : gU t = 0) : ∀ (f n : Nat), Rk t f n -> (gM t o w f n).2.2 = 0 -> (gM t o w f n).2.1 = [] ->
    0<=(gM t o w f n).1/\(gM t o w f n).1 < t.nd.length/\((aA t.nd (gM t o w f n).1.toNat).lf=false->(eA o<|bD [w,(aA t.nd (gM t o w f n).1.toNat).sf]).isSome=true/\ ¬wX (aA t.nd (gM t o w f n).1.toNat).ou (((eA o<|bD [w,(aA t.nd (gM t o w f n).1.toNat).sf]).getD []).drop w.length))
  |0,n,hr,_,_=>absurd hr.pos OM
  | f + 1, n, hr, he, hq => by
    have hlt:=hr.lt hv;by_cases hl:(aA t.nd n).lf=true
    . grind [pS]
    . have hl:(aA t.nd n).lf=false:=by simpa using hl
      by_cases h1:dG (bD [w,(aA t.nd n).sf]) o.i≠0
      . grind [tH]
      . by_cases h2:(eA o<|bD [w,(aA t.nd n).sf]).isSome=true
        . by_cases h3:wX (aA t.nd n).ou (((eA o<|bD [w,(aA t.nd n).sf]).getD []).drop w.length)
          . rw [aGn hr.pos hl h1 h2 h3] at he hq ⊢
            have hin:=aCg hv hlt hl;have hm:aA (aA t.nd n).kd (kH (aA t.nd n).ou (((eA o<|bD [w,(aA t.nd n).sf]).getD []).drop w.length))∈(aA t.nd n).kd:=cW (by have:=h3.1; have:=hin.len; omega);exact aCH hv f _ (hr.step hm (hin.kr _ hm).1) he hq
          grind [xO]
        grind [eA,tG]
theorem aCa {t:Dt} {o:Ob} {w:List Int} (he:(bJ t o w).2.2=0) (hq:(bJ t o w).2.1=[]) (hv:gU t=0):
    0<=(bJ t o w).1/\(bJ t o w).1 < t.nd.length/\((aA t.nd (bJ t o w).1.toNat).lf=false->(eA o<|bD [w,(aA t.nd (bJ t o w).1.toNat).sf]).isSome=true/\ ¬wX (aA t.nd (bJ t o w).1.toNat).ou (((eA o<|bD [w,(aA t.nd (bJ t o w).1.toNat).sf]).getD []).drop w.length)):=by
  unfold bJ at he hq ⊢;rw [if_neg OM] at he hq ⊢;by_cases h:dG w o.i≠0
  . grind
  simp_all [aCH,rk0]
theorem aCo {l : List (List Int)} (h : (oD l).length = 0) : l = [] := by
  cases l with
  |nil=>rfl
  | cons a m =>
    exfalso
    -- a longest word is maximal
    have: ∃ w,w∈(a::m)/\ ∀ u∈(a::m),u.length<=w.length:=by
      have key: ∀ (l:List (List Int)),l≠[]-> ∃ w,w∈l/\ ∀ u∈l,u.length<=w.length:=by
        intro l
        induction l with
        |nil=>grind
        | cons b r ih =>
          intro _;by_cases hr:r=[]
          . simp_all
          grind
      exact key _ SI
    obtain ⟨w,h1,h2⟩:=this;have hm:w∈oD (a::m):=aDv.2 ⟨h1,λu hu hh=>aHS hh<|h2 u hu⟩
    grind
theorem aBd {l:Ts} {o:Ob} (h1: ¬jL l o≠0) (h2: ¬lE l o≠0) (h3: ¬0 < (oD (rD l o)).length) {k:Nat} (hk:k < (dD l).length):
    (bJ l.t o<|aA (dD l) k).2.2=0/\0<=(bJ l.t o<|aA (dD l) k).1/\(bJ l.t o<|aA (dD l) k).1 < l.t.nd.length/\((aA l.t.nd (bJ l.t o<|aA (dD l) k).1.toNat).lf=false->
      (eA o<|bD [aA (dD l) k,(aA l.t.nd (bJ l.t o<|aA (dD l) k).1.toNat).sf]).isSome=true/\ ¬wX (aA l.t.nd (bJ l.t o<|aA (dD l) k).1.toNat).ou (((eA o<|bD [aA (dD l) k,(aA l.t.nd (bJ l.t o<|aA (dD l) k).1.toNat).sf]).getD []).drop (aA (dD l) k).length)):=by
  have hv:=(tL (aBV<|Decidable.not_not.1 h1).1).2.2.1;have he:(bJ l.t o<|aA (dD l) k).2.2=0:=eG.1 (Decidable.not_not.1 h2) k (Nat.zero_le _) OM;have hq:=aCo (l:=rD l o) OM
  have hq2:(bJ l.t o<|aA (dD l) k).2.1=[]:=by
    by_cases e:(bJ l.t o<|aA (dD l) k).2.1=[]
    . exact e
    . exfalso
      have hp:0 < (bJ l.t o<|aA (dD l) k).2.1.length:=List.length_pos_iff.2 e;have:(bJ l.t o<|aA (dD l) k).2.1∈rD l o:=List.mem_flatMap.2 ⟨_,cW hk,by unfold qr1; rw [if_pos hp]; simp⟩;rw [hq] at this; cases this
  exact ⟨he,aCa he hq2 hv⟩
theorem aCE {l:Ts} {o:Ob} (h3: ¬0 < (oD (rD l o)).length) {k:Nat} (hk:k < (dD l).length):(eA o (aA (dD l) k)).isSome=true:=by
  have hq:=aCo (l:=rD l o) OM;cases e:(eA o<|aA (dD l) k).isSome with
  |true=>rfl
  | false =>
    exfalso;have:aA (dD l) k∈rD l o:=List.mem_flatMap.2 ⟨_,cW hk,by unfold qr1; rw [if_neg (by rw [e]; decide)]; simp⟩;rw [hq] at this; cases this
end
section
open Go
def iO {α:Type} (f:Nat->α) (n:Nat):List α:=(List.range n).map f
theorem fO {α:Type} (f:Nat->α) (n:Nat):(iO f n).length=n:=by simp [iO]
theorem iS {α:Type} (f:Nat->α) (n:Nat):iO f (n+1)=iO f n++[f n]:=by simp [iO,List.range_succ]
theorem aHu {α:Type} [Inhabited α] {f:Nat->α} {n k:Nat} (h:k < n):aA (iO f n) k=f k:=by
  unfold iO;rw [aIl (by simpa using h)];congr 1;rw [<- cP (by simpa using h)]; simp
def plI (L:List (List Int)) (w:List Int):Int:=fi (λj=>decide (aA L j=w)) 0 L.length
theorem aPw {L:List (List Int)} {w:List Int} (h:w∈L):0<=plI L w/\plI L w < L.length/\aA L (plI L w).toNat=w:=by grind [lX,plI,sV,xP]
def hyA (l:Ts) (o:Ob) (k:Nat):List Int:=(aA l.t.nd (bJ l.t o (aA (dD l) k)).1.toNat).ac
def wH (l:Ts) (o:Ob) (k:Nat):Int:=plI (fU l.t) (hyA l o k)
def exI (l:Ts) (m:Nat):List Int:=(aA (dD l) m).take ((aA (dD l) m).length - 1)
def exL (l:Ts) (m:Nat):List Int:=(aA (dD l) m).drop ((aA (dD l) m).length - 1)
def pY (l:Ts) (o:Ob) (m:Nat):Int:=aA (lH o (exI l m) (exL l m)) 0
def gV (f:Nat->Int) (i k:Nat):List Int:=iO (λa=>f (k*i+a)) i
def hyM (l:Ts) (o:Ob):M:=⟨l.i,0,iO (gV (wH l o) l.i.toNat) (fU l.t).length,iO (gV (pY l o) l.i.toNat) (fU l.t).length⟩
def hyH (l:Ts) (o:Ob):Hy:=⟨hyM l o,fU l.t⟩
def zM:M:=⟨0,0,[],[]⟩
def zH:Hy:=⟨zM,[]⟩
def wQ (l:Ts) (o:Ob):Int:=if jL l o≠0 then jL l o else if lE l o≠0 then lE l o else if 0 < (oD (rD l o)).length then 12 else if 0<=qF l o then 10 else if gY (hyH l o)≠0 then 15 else 0
def iH (l:Ts) (o:Ob):Hy:=if wQ l o≠0 then zH else hyH l o
section
variable {l:Ts} {o:Ob}
theorem jR (h:jL l o≠0):wQ l o=jL l o:=if_pos h
theorem jQ (h: ¬jL l o≠0) (h2:lE l o≠0):wQ l o=lE l o:=by grind [wQ]
theorem jP (h: ¬jL l o≠0) (h2: ¬lE l o≠0) (h3:0 < (oD (rD l o)).length):wQ l o=12:=by grind [wQ]
theorem jU (h: ¬jL l o≠0) (h2: ¬lE l o≠0) (h3: ¬0 < (oD (rD l o)).length) (h4:0<=qF l o):wQ l o=10:=by grind [wQ]
theorem jG (h: ¬jL l o≠0) (h2: ¬lE l o≠0) (h3: ¬0 < (oD (rD l o)).length) (h4: ¬0<=qF l o) (h5:gY (hyH l o)≠0):wQ l o=15:=by grind [wQ]
theorem jJ (h: ¬jL l o≠0) (h2: ¬lE l o≠0) (h3: ¬0 < (oD (rD l o)).length) (h4: ¬0<=qF l o) (h5: ¬gY (hyH l o)≠0):wQ l o=0:=by grind [wQ]
theorem dO (h:wQ l o≠0):iH l o=zH:=if_pos h
theorem lG (h:wQ l o=0):iH l o=hyH l o:=if_neg (by rw [h]; simp)
end
theorem aLi {l:Ts} {k j:Nat} (hk:k < (fU l.t).length) (hj:j < l.i.toNat):exI l (k*l.i.toNat+j)=aA (fU l.t) k/\exL l (k*l.i.toNat+j)=[(j:Int)]:=by
  unfold exI exL;rw [aD8 hk hj]
  simp_all [bD]
theorem aGM (l:Ts) (m:Nat):bD [exI l m,exL l m]=aA (dD l) m:=by simp [bD,exI,exL]
theorem aIg {l:Ts} {o:Ob} (ho:kS o=0) {m:Nat} (hn:0 < (aA (dD l) m).length) (hs:(eA o (aA (dD l) m)).isSome=true):lH o (exI l m) (exL l m)=[pY l o m]:=by
  have h1:=nH (lD ho) hs
  have h2:(lH o (exI l m)<|exL l m).length=1:=by
    grind [lH,aGM,exI]
  unfold pY;cases hb:lH o (exI l m) (exL l m) with
  |nil=>rw [hb] at h2; simp at h2
  | cons a r => cases r with
    |nil=>rfl
    |cons b r=>rw [hb] at h2; simp at h2
theorem aMA {l:Ts} {o:Ob} {m:Nat} (hv:gU l.t=0) (h0:(bJ l.t o (aA (dD l) m)).1.toNat < l.t.nd.length) (hl:(aA l.t.nd (bJ l.t o (aA (dD l) m)).1.toNat).lf=true):hyA l o m∈fU l.t:=by grind [xD,kI,eP,hyA,cW]
theorem aMP {i:Int} (h:0<=i) (k:Nat):(k:Int)*i=((k*i.toNat:Nat):Int):=by grind
theorem Hy.eq_iff {a b:Hy}:a=b↔a.m.i=b.m.i/\a.m.s=b.m.s/\a.m.nx=b.m.nx/\a.m.ot=b.m.ot/\a.acc=b.acc:=by rcases a with ⟨⟨a1,a2,a3,a4⟩,a5⟩; rcases b with ⟨⟨b1,b2,b3,b4⟩,b5⟩; simp [and_assoc]
theorem M.eq_iff {a b:M}:a=b↔a.i=b.i/\a.s=b.s/\a.nx=b.nx/\a.ot=b.ot:=by rcases a with ⟨a1,a2,a3,a4⟩; rcases b with ⟨b1,b2,b3,b4⟩; simp
instance:DecidableEq M:=λ_ _=>decidable_of_iff _ M.eq_iff.symm
instance:DecidableEq Hy:=λ_ _=>decidable_of_iff _ Hy.eq_iff.symm
def wN (s:Spl) (i:Int):Int:=if dG s.p i≠0 then dG s.p i else if s.a < 0\/i<=s.a then 2 else if s.x.length=0 then 19 else dG s.x i
def dY (s:Spl):List Int:=bD [s.p,[s.a]]
def qJ (l:Ts) (o:Ob) (s:Spl):Nd:=aA l.t.nd (bJ l.t o (dY s)).1.toNat
def msW (o:Ob) (l:List (List Int)):List (List Int):=l.filter λw=> !(eA o w).isSome
def tI (l:Ts) (o:Ob) (s:Spl):List (List Int):=[bD [(qJ l o s).ac,s.x],bD [dY s,s.x]]
def rfG (l:Ts) (o:Ob) (s:Spl):Int:=nJ l.t (bJ l.t o (dY s)).1 s.x (lH o (qJ l o s).ac s.x) (dY s) (lH o (dY s) s.x)
def rfT (l:Ts) (o:Ob) (s:Spl):Ts:=⟨l.i,spT l.t (bJ l.t o (dY s)).1 s.x (lH o (qJ l o s).ac s.x) (dY s) (lH o (dY s) s.x)⟩
def fY (l:Ts) (o:Ob) (s:Spl):Ts×List (List Int)×Int:=
  if jL l o≠0 then (l,[],jL l o) else if wN s l.i≠0 then (l,[],wN s l.i) else if (bJ l.t o<|dY s).2.2≠0 then (l,[],(bJ l.t o<|dY s).2.2) else if 0 < (bJ l.t o<|dY s).2.1.length then (l,[(bJ l.t o<|dY s).2.1],0) else if (qJ l o s).lf=false then (l,[],10) else if 1024 < (qJ l o s).ac.length+s.x.length\/1024 < (dY s).length+s.x.length then (l,[],3) else if 0 < (msW o<|tI l o s).length then (l,oD (msW o<|tI l o s),0) else if 128<=(eP l.t.nd).length then (l,[],11) else if rfG l o s≠0 then (l,[],rfG l o s) else (rfT l o s,[],0)
theorem wK {l:Ts} {o:Ob} {s:Spl} (h1:jL l o≠0):fY l o s=(l,[],jL l o):=by unfold fY; rw [if_pos h1]
theorem wM {l:Ts} {o:Ob} {s:Spl} (h1: ¬(jL l o≠0)) (h2:wN s l.i≠0):fY l o s=(l,[],wN s l.i):=by grind [fY]
theorem wL {l:Ts} {o:Ob} {s:Spl} (h1: ¬(jL l o≠0)) (h2: ¬(wN s l.i≠0)) (h3:(bJ l.t o (dY s)).2.2≠0):fY l o s=(l,[],(bJ l.t o (dY s)).2.2):=by grind [fY]
theorem wO {l:Ts} {o:Ob} {s:Spl} (h1: ¬(jL l o≠0)) (h2: ¬(wN s l.i≠0)) (h3: ¬((bJ l.t o (dY s)).2.2≠0)) (h4:0 < (bJ l.t o (dY s)).2.1.length):fY l o s=(l,[(bJ l.t o (dY s)).2.1],0):=by grind [fY]
theorem wR {l:Ts} {o:Ob} {s:Spl} (h1: ¬(jL l o≠0)) (h2: ¬(wN s l.i≠0)) (h3: ¬((bJ l.t o (dY s)).2.2≠0)) (h4: ¬(0 < (bJ l.t o (dY s)).2.1.length)) (h5:(qJ l o s).lf=false):fY l o s=(l,[],10):=by grind [fY]
theorem uE {l:Ts} {o:Ob} {s:Spl} (h1: ¬(jL l o≠0)) (h2: ¬(wN s l.i≠0)) (h3: ¬((bJ l.t o (dY s)).2.2≠0)) (h4: ¬(0 < (bJ l.t o (dY s)).2.1.length)) (h5: ¬((qJ l o s).lf=false)) (h6:1024 < (qJ l o s).ac.length+s.x.length\/1024 < (dY s).length+s.x.length):fY l o s=(l,[],3):=by grind [fY]
theorem mW {l:Ts} {o:Ob} {s:Spl} (h1: ¬(jL l o≠0)) (h2: ¬(wN s l.i≠0)) (h3: ¬((bJ l.t o (dY s)).2.2≠0)) (h4: ¬(0 < (bJ l.t o (dY s)).2.1.length)) (h5: ¬((qJ l o s).lf=false)) (h6: ¬(1024 < (qJ l o s).ac.length+s.x.length\/1024 < (dY s).length+s.x.length)) (h7:0 < (msW o (tI l o s)).length):fY l o s=(l,oD (msW o (tI l o s)),0):=by grind [fY]
theorem uS {l:Ts} {o:Ob} {s:Spl} (h1: ¬(jL l o≠0)) (h2: ¬(wN s l.i≠0)) (h3: ¬((bJ l.t o (dY s)).2.2≠0)) (h4: ¬(0 < (bJ l.t o (dY s)).2.1.length)) (h5: ¬((qJ l o s).lf=false)) (h6: ¬(1024 < (qJ l o s).ac.length+s.x.length\/1024 < (dY s).length+s.x.length)) (h7: ¬(0 < (msW o (tI l o s)).length)) (h8:128<=(eP l.t.nd).length):fY l o s=(l,[],11):=by grind [fY]
theorem wU {l:Ts} {o:Ob} {s:Spl} (h1: ¬(jL l o≠0)) (h2: ¬(wN s l.i≠0)) (h3: ¬((bJ l.t o (dY s)).2.2≠0)) (h4: ¬(0 < (bJ l.t o (dY s)).2.1.length)) (h5: ¬((qJ l o s).lf=false)) (h6: ¬(1024 < (qJ l o s).ac.length+s.x.length\/1024 < (dY s).length+s.x.length)) (h7: ¬(0 < (msW o (tI l o s)).length)) (h8: ¬(128<=(eP l.t.nd).length)) (h9:rfG l o s≠0):fY l o s=(l,[],rfG l o s):=by grind [fY]
theorem rC {l:Ts} {o:Ob} {s:Spl} (h1: ¬(jL l o≠0)) (h2: ¬(wN s l.i≠0)) (h3: ¬((bJ l.t o (dY s)).2.2≠0)) (h4: ¬(0 < (bJ l.t o (dY s)).2.1.length)) (h5: ¬((qJ l o s).lf=false)) (h6: ¬(1024 < (qJ l o s).ac.length+s.x.length\/1024 < (dY s).length+s.x.length)) (h7: ¬(0 < (msW o (tI l o s)).length)) (h8: ¬(128<=(eP l.t.nd).length)) (h9: ¬(rfG l o s≠0)):fY l o s=(rfT l o s,[],0):=by grind [fY]
theorem aLX {s:Spl} {i:Int} (h: ¬wN s i≠0):dG s.p i=0/\0<=s.a/\s.a < i/\0 < s.x.length/\dG s.x i=0:=by grind [wN]
def xtK (l:Ts) (o:Ob) (m:Nat):Xt:=⟨aA (dD l) m,(bJ l.t o (aA (dD l) m)).1⟩
def iX (l:Ts) (o:Ob):List Xt:=iO (xtK l o) (dD l).length
theorem aHr (l:Ts) (o:Ob):(iX l o).length=(dD l).length:=fO _ _
theorem aHV {l:Ts} {o:Ob} {k:Nat} (h:k < (dD l).length):aA (iX l o) k=⟨aA (dD l) k,(bJ l.t o (aA (dD l) k)).1⟩:=aHu h
def msK (o:Ob) (l:List (List Int)) (k:Nat):List (List Int):=msW o (l.take k)
theorem aId {o:Ob} {l:List (List Int)} {k:Nat} (hk:k < l.length) (h:(eA o (aA l k)).isSome=false):msK o l (k+1)=msK o l k++[aA l k]:=by grind [msK,msW,cV]
theorem aLp {o:Ob} {l:List (List Int)} {k:Nat} (hk:k < l.length) (h:(eA o (aA l k)).isSome=true):msK o l (k+1)=msK o l k:=by grind [msK,msW,cV]
theorem aMa {o:Ob} {l:List (List Int)} {k:Nat} (hk:l.length<=k):msK o l k=msW o l:=by grind [msK,List.take_of_length_le]
theorem aNj (o:Ob) (l:List (List Int)) (k:Nat):(msK o l k).length<=l.length:=Nat.le_trans (List.length_filter_le _ _) (by grind)
theorem aHZ {o:Ob} {a b:List Int}:msW o [a,b]=(if (eA o a).isSome=true then [] else [a])++(if (eA o b).isSome=true then [] else [b]):=by grind [msW]
end
section
open Go
theorem aIA (l:Ts) (o:Ob):((cR l o).1=l/\ ¬((cR l o).2.2.2=0/\(cR l o).2.1.length=0/\(cR l o).2.2.1=false))\/
    ((cR l o).2.2.2 = 0 /\ (cR l o).2.1.length = 0 /\ (cR l o).2.2.1 = false /\ jL l o = 0 /\ lE l o = 0 /\ (oD<|rD l o).length = 0 /\ ∃ k : Nat, k < (dD l).length /\ qF l o = k /\ wC l o k = true /\
      jD l.t (bJ l.t o<|aA (dD l) k).1 (lH o (aA (dD l) k) (aA l.t.nd (bJ l.t o<|aA (dD l) k).1.toNat).sf) (aA (dD l) k)=0/\
      (cR l o).1=⟨l.i,grT l.t (bJ l.t o<|aA (dD l) k).1 (lH o (aA (dD l) k) (aA l.t.nd (bJ l.t o<|aA (dD l) k).1.toNat).sf) (aA (dD l) k)⟩):=by
  by_cases h1:jL l o≠0
  . grind [oG]
  by_cases h2:lE l o≠0
  . grind [oL]
  by_cases h3:0 < (oD<|rD l o).length
  . grind [lC]
  by_cases h4:qF l o < 0
  . grind [jH]
  by_cases h5:128<=(eP l.t.nd).length
  . grind [kM]
  have h4':0<=qF l o:=OM
  have hb:=(aGv (p:=wC l o) (dD l).length 0).2 h4';have hv:=xP h4';have hk:qF l o=((qF l o).toNat:Int):=OM
  by_cases h6:jD l.t (bJ l.t o<|aA (dD l) (qF l o).toNat).1 (lH o (aA (dD l) (qF l o).toNat) (aA l.t.nd (bJ l.t o<|aA (dD l) (qF l o).toNat).1.toNat).sf) (aA (dD l) (qF l o).toNat)≠0
  . grind [oI]
  grind [oF,qF]
theorem aFS {l:Ts} {o:Ob} (h:(cR l o).2.2.1=true):(cR l o).2.2.2=0/\(cR l o).2.1=[]/\(wQ l o=0\/wQ l o=15)/\jL l o=0/\lE l o=0/\(oD (rD l o)).length=0/\qF l o < 0/\(cR l o).1=l:=by
  by_cases h1:jL l o≠0
  . rw [oG h1] at h; cases h
  by_cases h2:lE l o≠0
  . rw [oL h1 h2] at h; cases h
  by_cases h3:0 < (oD<|rD l o).length
  . grind [lC]
  by_cases h4:qF l o < 0
  . grind [jH,jG,jJ]
  by_cases h5:128<=(eP l.t.nd).length
  . grind [kM]
  have h4':0<=qF l o:=OM
  have hk:qF l o=((qF l o).toNat:Int):=OM
  by_cases h6:jD l.t (bJ l.t o<|aA (dD l) (qF l o).toNat).1 (lH o (aA (dD l) (qF l o).toNat) (aA l.t.nd (bJ l.t o<|aA (dD l) (qF l o).toNat).1.toNat).sf) (aA (dD l) (qF l o).toNat)≠0
  . grind [oI]
  grind [oF]
theorem aI8 (l:Ts) (o:Ob) (s:Spl):((fY l o s).1=l/\ ¬((fY l o s).2.2=0/\(fY l o s).2.1.length=0))\/
    ((fY l o s).2.2=0/\(fY l o s).2.1.length=0/\jL l o=0/\wN s l.i=0/\(bJ l.t o<|dY s).2.2=0/\(bJ l.t o<|dY s).2.1.length=0/\(qJ l o s).lf=true/\(msW o<|tI l o s).length=0/\rfG l o s=0/\(fY l o s).1=rfT l o s):=by
  by_cases h1:jL l o≠0
  . grind [wK]
  by_cases h2:wN s l.i≠0
  . grind [wM]
  by_cases h3:(bJ l.t o<|dY s).2.2≠0
  . grind [wL]
  by_cases h4:0 < (bJ l.t o<|dY s).2.1.length
  . grind [wO]
  by_cases h5:(qJ l o s).lf=false
  . grind [wR]
  grind [uE,mW,aCo,uS,wU,rC]
end
section
open Go
structure Pr where
  s:Int
  t:Int
  w:List Int
  deriving Inhabited
abbrev cPr (p:Pr):List V:=[iV p.s,iV p.t,aE p.w]
@[simp] theorem aPy (l:List Pr):mN (l.map cPr)=true:=by simp_all
@[simp] theorem aOy (l:List Pr):hY (l.map cPr)=true:=by simp_all [kB]
def knK (L:List Pr) (u v:Int):Nat->Bool
  |0=>false
  |k+1=>knK L u v k||decide ((aA L k).s=u/\(aA L k).t=v)
theorem yN {L:List Pr} {u v:Int}: ∀ {k:Nat},knK L u v k=true↔ ∃ j,j < k/\(aA L j).s=u/\(aA L j).t=v
  |0=>by simp [knK]
  | k + 1 => by
    simp only [knK,Bool.or_eq_true,decide_eq_true_eq,yN (k:=k)];constructor
    . rintro (⟨j,h1,h2⟩|h)
      . exact ⟨j,OM,h2⟩
      . exact ⟨k,OM,h⟩
    . rintro ⟨j,h1,h2⟩
      by_cases e:j=k
      . subst e; exact .inr h2
      . exact .inl ⟨j,OM,h2⟩
def lJ (m:M) (s:Int) (x:Nat):Int:=aA (aA m.nx s.toNat) x
def otS (m:M) (s:Int) (x:Nat):Int:=aA (aA m.ot s.toNat) x
def bqS (a b:M) (p:Pr) (L:List Pr) (x:Nat):List Pr:=
  if knK L (lJ a p.s x) (lJ b p.t x) L.length=true then L else L++[⟨lJ a p.s x,lJ b p.t x,p.w++[(x:Int)]⟩]
def fP (a b:M) (p:Pr) (L:List Pr):Nat->List Pr
  |0=>L
  |x+1=>bqS a b p (fP a b p L x) x
def bqD (a b:M) (p:Pr) (x:Nat):Bool:=decide (otS a p.s x≠otS b p.t x)
def bq (a b:M):Nat->Nat->List Pr->Option (List Int)
  |0,_,_=>none
  |n+1,i,L=>if i < L.length then (if 0<=fi (bqD a b (aA L i)) 0 a.i.toNat then some ((aA L i).w++[fi (bqD a b (aA L i)) 0 a.i.toNat]) else bq a b n (i+1) (fP a b (aA L i) L a.i.toNat)) else none
def dst (a b:M) (s t:Int):Option (List Int):=bq a b (a.nx.length*b.nx.length+1) 0 [⟨s,t,[]⟩]
theorem aMH (a b:M) (p:Pr) (L:List Pr) (x:Nat): ∃ y,bqS a b p L x=L++y:=by
  unfold bqS; split
  all_goals (simp_all)
theorem aD2 (a b:M) (p:Pr) (L:List Pr): ∀ x,∃ y,fP a b p L x=L++y
  |0=>⟨[],by simp [fP]⟩
  | x + 1 => by
    obtain ⟨y,hy⟩:=aD2 a b p L x;obtain ⟨z,hz⟩:=aMH a b p (fP a b p L x) x
    grind [fP]
theorem aDT {a b:M} {p:Pr} {L:List Pr} {x i:Nat} (h:i < L.length):aA (fP a b p L x) i=aA L i:=by
  obtain ⟨y,hy⟩:=aD2 a b p L x;rw [hy,fK h]
theorem yU {a b:M} {p:Pr} {L:List Pr} {x:Nat}:L.length<=(fP a b p L x).length:=by
  obtain ⟨y,hy⟩:=aD2 a b p L x
  grind
theorem zG {a b:M} {p:Pr} {L:List Pr} {x:Nat} (h:knK (fP a b p L x) (lJ a p.s x) (lJ b p.t x) (fP a b p L x).length=true):fP a b p L (x+1)=fP a b p L x:=if_pos h
theorem aBw {a b:M} {p:Pr} {L:List Pr} {x:Nat} (h:knK (fP a b p L x) (lJ a p.s x) (lJ b p.t x) (fP a b p L x).length=false):
    fP a b p L (x+1)=fP a b p L x++[⟨lJ a p.s x,lJ b p.t x,p.w++[(x:Int)]⟩]:=if_neg (by rw [h]; decide)
def InW (n:Int) (w:List Int):Prop:= ∀ k,k < w.length->0<=aA w k/\aA w k < n
theorem InW.snoc {n:Int} {w:List Int} (h:InW n w) {x:Int} (h0:0<=x) (h1:x < n):InW n (w++[x]):=by
  intro k hk;rw [List.length_append,List.length_singleton] at hk;by_cases e:k < w.length
  . rw [fK e]; exact h k e
  grind [aA]
theorem aHf {m:M} (h:eO m=0) {s:Int} {x:Nat} (h0:0<=s) (h1:s < m.nx.length) (hx:x < m.i.toNat):0<=lJ m s x/\lJ m s x < m.nx.length/\0<=otS m s x/\otS m s x<=1048576:=by
  have:=((gW h).2.2.2.2.2.2.2 s.toNat OM).2.2 x OM;exact this
theorem tJ {m:M} (h:eO m=0) {s:Int} (h0:0<=s) (h1:s < m.nx.length):(aA m.nx s.toNat).length=m.i.toNat/\(aA m.ot s.toNat).length=m.i.toNat/\m.ot.length=m.nx.length:=by
  have q:=gW h;have:=q.2.2.2.2.2.2.2 s.toNat OM;omega
theorem aHF (m:M) (s:Int) (x:Nat):cell m.ot s (x:Int)=otS m s x:=J
structure BI (a b:M) (s0 t0:Int) (L:List Pr):Prop where
  rg: ∀ p∈L,0<=p.s/\p.s < a.nx.length/\0<=p.t/\p.t < b.nx.length
  nd:L.Pairwise λp q=> ¬(p.s=q.s/\p.t=q.t)
  st: ∀ p∈L,gR a s0 p.w=p.s/\gR b t0 p.w=p.t/\aQ a s0 p.w=aQ b t0 p.w/\InW a.i p.w
  ln: ∀ k,k < L.length->(aA L k).w.length<=k
  hd:0 < L.length/\(aA L 0).s=s0/\(aA L 0).t=t0
section
variable {a b:M} {s0 t0:Int}
theorem BI.start (h1:0<=s0) (h2:s0 < a.nx.length) (h3:0<=t0) (h4:t0 < b.nx.length):BI a b s0 t0 [⟨s0,t0,[]⟩]:=by
  refine ⟨λp hp=>?_,List.pairwise_singleton _ _,λp hp=>?_,λk hk=>?_,SI,J,J⟩
  . grind
  . rw [List.mem_singleton.1 hp]; exact ⟨J,J,J,λk hk=>by simp at hk⟩
  simp_all [jY]
theorem BI.step (ha : eO a = 0) (hb : eO b = 0) (hi : a.i = b.i) {L : List Pr} (h : BI a b s0 t0 L) {i x : Nat} (hk : i < L.length) (hx : x < a.i.toNat) {q : Pr} (hq : q = aA L i) (hd : bqD a b q x = false) : BI a b s0 t0 (bqS a b q L x) := by
  unfold bqS;split
  . exact h
  . rename_i hn
    have hm:aA L i∈L:=cW hk;have r:=h.rg _ hm;have s:=h.st _ hm;rw [<- hq] at r s;have n1:=aHf ha r.1 r.2.1 hx;have n2:=aHf hb r.2.2.1 r.2.2.2 (show x < b.i.toNat by rw [<- hi]; exact hx);refine ⟨λp hp=>?_,?_,λp hp=>?_,λk hk2=>?_,?_⟩
    . rcases List.mem_append.1 hp with e|e
      . exact h.rg p e
      grind
    . rw [List.pairwise_append]
      refine ⟨h.nd,List.pairwise_singleton _ _,λp hp r hr e=>?_⟩
      grind [gC,yN]
    . rcases List.mem_append.1 hp with e|e
      . exact h.st p e
      . rw [List.mem_singleton.1 e]
        have e1:otS a q.s x=otS b q.t x:=by simpa [bqD] using hd
        refine ⟨by rw [qK,s.1]; rfl,by rw [qK,s.2.1]; rfl,?_,s.2.2.2.snoc OM OM⟩;rw [nW,nW,s.1,s.2.1,s.2.2.1];show _++[cell a.ot q.s (x:Int)]=_++[cell b.ot q.t (x:Int)];rw [aHF,aHF,e1]
    . rw [List.length_append,List.length_singleton] at hk2
      by_cases e:k < L.length
      . rw [fK e]; exact h.ln k e
      . have z:aA (L++[(⟨lJ a q.s x,lJ b q.t x,q.w++[(x:Int)]⟩:Pr)]) (L.length+(k - L.length))=_:=pG
        rw [show L.length+(k - L.length)=k by omega,show k - L.length=0 by omega,jY] at z;rw [z];have:=h.ln i hk
        grind
    . refine ⟨by rw [List.length_append]; have:=h.hd.1; omega,?_⟩
      rw [fK h.hd.1]; exact h.hd.2
theorem BI.row (ha:eO a=0) (hb:eO b=0) (hi:a.i=b.i) {L:List Pr} (h:BI a b s0 t0 L) {i:Nat} (hk:i < L.length): ∀ {x:Nat},x<=a.i.toNat->(∀ j,j < x->bqD a b (aA L i) j=false)->BI a b s0 t0 (fP a b (aA L i) L x)
  |0,_,_=>h
  | x + 1, hx, hd => by
    have ih:=BI.row ha hb hi h hk (x:=x) OM λj hj=>hd j OM
    exact ih.step ha hb hi (i:=i) (Nat.lt_of_lt_of_le hk yU) OM (aDT hk).symm (hd x OM)
theorem aJm {n s s' t t':Int} (h1:0<=t) (h2:t < n) (h3:0<=t') (h4:t' < n) (e:s*n+t=s'*n+t'):s=s'/\t=t':=by
  have hd: ∀ {u v:Int},0<=v->v < n->(u*n+v) / n=u:=λ{u v} hv hv'=>by
    rw [Int.add_comm,Int.add_mul_ediv_right _ _ OM,Int.ediv_eq_zero_of_lt hv hv']; omega
  grind
theorem BI.len {L:List Pr} (h:BI a b s0 t0 L):L.length<=a.nx.length*b.nx.length:=by
  have key:(L.map λp=>p.s*(b.nx.length:Int)+p.t).length<=((List.range<|a.nx.length*b.nx.length).map λ(n:Nat)=>(n:Int)).length:=by
    refine aHL ?_ λz hz=>?_
    . rw [List.nodup_iff_pairwise_ne,List.pairwise_map]
      refine List.Pairwise.imp_of_mem ?_ h.nd;intro p q hp hq hn e;have r1:=h.rg p hp; have r2:=h.rg q hq
      grind [aJm]
    . obtain ⟨p,hp,rfl⟩:=List.mem_map.1 hz
      have r:=h.rg p hp;have u1:p.s*(b.nx.length:Int)<=((a.nx.length:Int) - 1)*(b.nx.length:Int):=Int.mul_le_mul_of_nonneg_right OM OM;have u2:0<=p.s*(b.nx.length:Int):=Int.mul_nonneg r.1 OM;rw [Int.sub_mul] at u1;have u3:((a.nx.length*b.nx.length:Nat):Int)=(a.nx.length:Int)*(b.nx.length:Int):=Int.natCast_mul _ _;exact List.mem_map.2 ⟨(p.s*(b.nx.length:Int)+p.t).toNat,List.mem_range.2 OM,OM⟩
  simpa using key
end
theorem aNh {a b:M} {p:Pr} {n:Nat} (h: ∀ j,j < n->bqD a b p j=false): ¬0<=fi (bqD a b p) 0 n:=by grind [sV]
theorem aOh {a b:M} {N i:Nat} {L:List Pr} (hn:i < N) (hi:i < L.length) (h: ∀ j,j < a.i.toNat->bqD a b (aA L i) j=false):bq a b (N - i) i L=bq a b (N - (i+1)) (i+1) (fP a b (aA L i) L a.i.toNat):=by
  obtain ⟨n,e⟩: ∃ n,N - i=n+1:=⟨N - i - 1,OM⟩;rw [e,show N - (i+1)=n by omega,bq,if_pos hi,if_neg (aNh h)]
theorem aLm {a b:M} {n i:Nat} {L:List Pr} (hi:L.length<=i):bq a b n i L=none:=by cases n <;> grind [bq]
theorem aKb {a b:M} {N i x:Nat} {L:List Pr} (hi:i < L.length) (hn:i < N) (hx:x < a.i.toNat) (hd:bqD a b (aA L i) x=true) (h: ∀ j,j < x->bqD a b (aA L i) j=false):bq a b (N - i) i L=some ((aA L i).w++[(x:Int)]):=by
  obtain ⟨n,e⟩: ∃ n,N - i=n+1:=⟨N - i - 1,OM⟩
  have key: ∀ k,k<=x->fi (bqD a b<|aA L i) 0 a.i.toNat=fi (bqD a b<|aA L i) k (a.i.toNat - k):=by
    intro k
    induction k <;> grind [kL]
  have hf:fi (bqD a b<|aA L i) 0 a.i.toNat=(x:Int):=by rw [key x (Nat.le_refl _),mI hd hx]
  grind [bq]
end
section
open Go
def snW (w:List Int) (a:Int):List Int:=w++[a]
def smB (m:M):Bool:=decide ((m.nx.length<=12/\m.ot.length<=12)/\m.i<=4)
end
section
open Go
structure An where
  k:Nat
  ord:List Nat
  late:List Nat
  ps:List (Nat×Nat×Nat×Nat)
def qkO (P:Program) (op:Opt) (n:Nat) (ops:Array Oper) (o:Oper):SO:=(qX P op n ops o).getD ⟨none,none,.bad⟩
def qkR (P : Program) (op : Opt) (n : Nat) (an : List An) (k : Nat) (ops : Array Oper) (draw : Bool) : SC :=
  match an.find? λa=>a.k==k with
  |none=>.reg (ops.toList.map (qkO P op n ops))
  | some a => if a.ord.isEmpty then (aBk P op n ops draw).getD .skip else
    let L:=a.ord.filterMap λi=>(ops[i]?).map (qkO P op n ops)
    if a.ps.isEmpty then (if a.late.isEmpty then .reg L else .dreg a.late L) else .xreg a.ps L
def qkC (P:Program) (op:Opt) (n:Nat) (an:List An):Code->SC
  | .skip=>.skip
  | .ret=>.ret
  | .exit id=>.exit id
  | .region k ops draw=>qkR P op n an k ops draw
  | .seq a b=>.seq (qkC P op n an a) (qkC P op n an b)
  | .cond c a b=>.cond ((sx c).getD (.t 0)) (qkC P op n an a) (qkC P op n an b)
  | .block id a=>.block id (qkC P op n an a)
  | .loop a=>.loop (qkC P op n an a)
  |_=>.skip
def qk (tb:Tables) (op:Opt) (an:List An) (f:Func):SF:=
  ⟨f.ntmps,f.results.toList.map λr=>(yX ⟨tb,#[]⟩ f.ntmps r).getD (.tmp 0),qkC ⟨tb,#[]⟩ op f.ntmps an (f.body.getD .skip)⟩
theorem pQ {P:Program} (tb:Tables) (op:Opt) (an:List An) {f:Nat} {fn:Func} {s:SF} {args:List V} {v:V} {B:Prop} (hf:P.funcs[f]?=some fn) (hs:mO P op fn=some (qk tb op an fn)) (e:qk tb op an fn=s)
    (hW : B -> W P 0 s.body (xN s.res λu G => fQ true G 6 u = v) (T0 args) H0) (hn : (fn.name == "runtime.NumGoroutine") = false := by kernel_rfl)
    (hl:Nat.ble args.length (qk tb op an fn).n=true:=by rfl) (ha:gF args=true:=by simp) (hv:v.pure=true:=by simp)
    (hb:lU args=true->B:=by intro hB; first|(simp only [mG,mB,jW,mF,mQ,pV,mD,kC,implies_true,and_true,true_and] at hB; exact hB)|exact (λ_=>trivial) hB):bK P f args v:=
  pW hf hs (by rw [e]; exact hW) hn hl ha hv hb
theorem eQ {P:Program} (tb:Tables) (op:Opt) (an:List An) {k0 f:Nat} {fn:Func} {s:SF} {args:List V} {H:bC} {v:V} {H':bC} {B:Prop} (hf:P.funcs[f]?=some fn) (hs:mO P op fn=some (qk tb op an fn)) (e:qk tb op an fn=s)
    (hW : B -> W P k0 s.body (xN s.res λu G => tQ G H' /\ eY G H' u v) (T0 args) H) (hn : (fn.name == "runtime.NumGoroutine") = false := by kernel_rfl)
    (hl:Nat.ble args.length (qk tb op an fn).n=true:=by rfl)
    (hb:lU args=true->B:=by intro hB; first|(simp only [mG,mB,jW,mF,mQ,pV,mD,kC,implies_true,and_true,true_and] at hB; exact hB)|exact (λ_=>trivial) hB):fA P f args H v H':=
  eW hf hs (by rw [e]; exact hW) hn hl hb
section
variable {P:Program} {k0 k1 d:Nat} {a:SX} {r:List SO} {T:Nat->V} {H:bC} {K:(Nat->V)->bC->Prop} {Q:Ex->(Nat->V)->bC->Prop} {b c:SC} {ops:List SO}
theorem aP (h:dL P k0 r (cX T d (ev T a)) H K):dL P k0 (⟨none,some d,.mv a⟩::r) T H K:=h
theorem aD (h:K (cX T d (ev T a)) H):dL P k0 [⟨none,some d,.mv a⟩] T H K:=h
theorem aO (h:dL P k0 ops T H λT H=>W P k0 (.seq b c) Q T H):W P k0 (.seq (.seq (.reg ops) b) c) Q T H:=cS (aW h)
theorem qV (h:dL P k0 ops T H λT H=>W P k0 b Q T H):dL P k1 [] T H λT H=>W P k0 (.seq (.reg ops) b) Q T H:=aW h
theorem tA {d:SC} (h:W P k0 (.seq b (.seq c d)) Q T H):dL P k1 [] T H λT H=>W P k0 (.seq (.seq b c) d) Q T H:=cS h
theorem R_q (h:Q .ret T H):dL P k1 [] T H λT H=>W P k0 .ret Q T H:=h
theorem aOJ (h:Q .ret T H):dL P k1 [] T H λT H=>W P k0 (.seq .ret b) Q T H:=h
theorem aX {off id ver row o ty sz d' n:Nat} {g:Bool} {rows:List (List V)} {rw:List V} {v:V} (ha:ev T a=.mp id ver row o) (hH:H id=⟨ver,true,false,ty,sz,rows⟩) (hr:rows[row]?=some rw) (hv:ldV g n (rw.drop (o+off))=some v)
    (h:dL P k0 r (cX (cX T d (.mp id ver row (o+off))) d' v) H K):dL P k0 (⟨none,some d,.fld off a⟩::⟨none,some d',.load g n (.t d)⟩::r) T H K:=
  cM ha hH (aV (aU _ _ _) hH hr hv h)
end
end
section
open Go
theorem aM (v:V):v=v:=J
theorem cO (n:Nat):iV (n:Int)=iV (n:Int):=J
abbrev fL:Blk:=⟨0,false,false,0,0,[]⟩
abbrev sA (m:M):Blk:=bk 1 24 4 [[iV m.i,iV m.s,aC m.nx,aC m.ot]]
abbrev cG (n:Nat):V:=.mp n 1 0 0
theorem gB {α:Type} {f:Nat->α} {i j:Nat} {v w:α} (g:f j=w) (h:j≠i:=by decide):cX f i v j=w:=(cD _ _ h).trans g
theorem bL {α:Sort _} {a b c:α} (h:a=b) (g:b=c):a=c:=h.trans g
theorem cE {a b:Blk} (h:a=b):a.ver=b.ver:=congrArg Blk.ver h
section
variable {P:Program} {k0 d:Nat} {a b:SX} {r:List SO} {T:Nat->V} {H:bC} {K:(Nat->V)->bC->Prop}
theorem cF {m:Nat} (ha:ev T a=iV (m:Nat)) (h:dL P k0 r (cX T d (iV ((m+1:Nat):Int))) H K) (h2:m+1 < 9223372036854775808:=by omega):dL P k0 (⟨none,some d,.bin .add a (.c (.int .i64 1))⟩::r) T H K:=oC ha J h2 h
theorem dA {α:Type} [Inhabited α] {e:Nat} {l:List α} {f:α->List V} {k:IntKind} {i:Nat} (ha:ev T a=.sl (l.map f)) (hb:ev T b=.int k (i:Nat))
    (h:dL P k0 r (cX T d (.pp (f<|aA l i))) H K) (hi:i < l.length:=by omega) (he:(f<|aA l i).length=e:=by rfl):dL P k0 (⟨none,some d,.idx e a b⟩::r) T H K:=aCX ha hb hi he h
theorem eX {α:Type} {ty e bytes id ver n:Nat} {lz:Bool} {l:List α} {f:α->List V} {x:α} (ha:ev T a=.ms id ver 0 n) (hH:H id=⟨ver,true,lz,ty,e,l.map f⟩) (hn:n=l.length) (hb:ev T b=.sl [f x])
    (h:dL P k0 r (cX T d (.ms id (ver+1) 0 (n+1))) (cX H id ⟨ver+1,true,lz,ty,e,(l++[x]).map f⟩) K)
    (he:(f x).length=e:=by rfl) (h1:(f x).all V.one=true:=by rfl) (h2:(n+1)*bytes<=140737488355328:=by omega) (h3:n+1<=9223372036854775807:=by omega):dL P k0 (⟨none,some d,.append ty e bytes a b⟩::r) T H K:=
  aJc ha hH hn hb he h1 h2 h3 h
end
end
section
open Go Go.Proofs
def emQ:List Nat:=[101,102,103,111,112,126,130,155,156,157,158,159,163,165,188,193,197,201]
theorem pK (own:List Nat) (an:List An) {f:Nat} {fn:Func} {s:SF} {args:List V} {v:V} {B:Prop} (hf:Tryz.prog.funcs[f]?=some fn) (e:qk Tryz.progTables ⟨emQ,own,[],[]⟩ an fn=s)
    (hW : B -> W Tryz.prog 0 s.body (xN s.res λu G => fQ true G 6 u = v) (T0 args) H0) (hs : mO Tryz.prog ⟨emQ, own, [], []⟩ fn = some (qk Tryz.progTables ⟨emQ, own, [], []⟩ an fn) := by kernel_rfl) (hn : (fn.name == "runtime.NumGoroutine") = false := by kernel_rfl)
    (hl:Nat.ble args.length (qk Tryz.progTables ⟨emQ,own,[],[]⟩ an fn).n=true:=by rfl) (ha:gF args=true:=by simp) (hv:v.pure=true:=by simp)
    (hb:lU args=true->B:=by intro hB; first|(simp only [mG,mB,jW,mF,mQ,pV,mD,kC,implies_true,and_true,true_and] at hB; exact hB)|exact (λ_=>trivial) hB):bK Tryz.prog f args v:=
  pQ Tryz.progTables ⟨emQ,own,[],[]⟩ an hf hs e hW hn hl ha hv hb
theorem eK (own:List Nat) (an:List An) {k0 f:Nat} {fn:Func} {s:SF} {args:List V} {H:bC} {v:V} {H':bC} {B:Prop} (hf:Tryz.prog.funcs[f]?=some fn) (e:qk Tryz.progTables ⟨emQ,own,[],[]⟩ an fn=s)
    (hW : B -> W Tryz.prog k0 s.body (xN s.res λu G => tQ G H' /\ eY G H' u v) (T0 args) H) (hs : mO Tryz.prog ⟨emQ, own, [], []⟩ fn = some (qk Tryz.progTables ⟨emQ, own, [], []⟩ an fn) := by kernel_rfl) (hn : (fn.name == "runtime.NumGoroutine") = false := by kernel_rfl)
    (hl:Nat.ble args.length (qk Tryz.progTables ⟨emQ,own,[],[]⟩ an fn).n=true:=by rfl)
    (hb:lU args=true->B:=by intro hB; first|(simp only [mG,mB,jW,mF,mQ,pV,mD,kC,implies_true,and_true,true_and] at hB; exact hB)|exact (λ_=>trivial) hB):fA Tryz.prog f args H v H':=
  eQ Tryz.progTables ⟨emQ,own,[],[]⟩ an hf hs e hW hn hl hb
theorem aDm (m:M):bK Tryz.prog 5 [(V.agg [(iV m.i),(iV m.s),(aC m.nx),(aC m.ot)])] (V.bool (smB m)):=by
 refine' pK [] [] Tryz.func5 ?e λhB=>?_
 case e=>conv=>lhs; cbv
 dsimp only;refine aW<|bS (i:=1) (n:=0) (m:=4) (cs:=[(iV m.i),(iV m.s),(aC m.nx),(aC m.ot)]) J (cE J) J J J<|aD<|aW<|aX J J J J<|bA J<|aFj J J<|aP ?_
 refine bU 5 (λT H=>T 1=(cG 1)/\T 12=(V.bool<|decide ((((m.nx.length:Nat):Int)<=(12:Int))/\(((m.ot.length:Nat):Int)<=(12:Int))))/\H 1=(sA m)/\True) ?_ ?_
 . 
  by_cases g1:((m.nx.length:Nat):Int)<=(12:Int)
  . 
   refine aN (bY g1 J)<|cM J J<|aN (bY g1 J)<|aV J J J J<|aN (bY g1 J)<|bA J<|aN (bY g1 J)<|aFj J J<|bV (bY g1 J) J ?_
   exact ⟨J,(eT g1),J,trivial⟩
  . 
   refine bW (bX g1 J)<|bW (bX g1 J)<|bW (bX g1 J)<|bW (bX g1 J)<|bT (bX g1 J) J ?_
   exact ⟨J,(eU g1),J,trivial⟩
 intro T H ⟨t1,t12,h1,_⟩;refine aJ t12 ?_;refine bU 4 (λT H=>T 17=(V.bool<|decide (((((m.nx.length:Nat):Int)<=(12:Int))/\(((m.ot.length:Nat):Int)<=(12:Int)))/\(m.i<=(4:Int))))/\H 1=(sA m)/\True) ?_ ?_
 . 
  by_cases g2:(((m.nx.length:Nat):Int)<=(12:Int))/\(((m.ot.length:Nat):Int)<=(12:Int))
  . 
   refine aN (bY g2 J)<|cM t1 h1<|aN (bY g2 J)<|aV J h1 J J<|aN (bY g2 J)<|aFj J J<|bV (bY g2 J) J ?_
   exact ⟨(eT g2),h1,trivial⟩
  . 
   refine bW (bX g2 J)<|bW (bX g2 J)<|bW (bX g2 J)<|bT (bX g2 J) J ?_
   exact ⟨(eU g2),h1,trivial⟩
 intro T H ⟨t17,h1,_⟩;refine aJ t17<|R_q ?_
 refine aZ (aM<|V.bool<|decide (((((m.nx.length:Nat):Int)<=(12:Int))/\(((m.ot.length:Nat):Int)<=(12:Int)))/\(m.i<=(4:Int))))<|cH ?_
 . unfold smB; exact decide_eq_decide.2 OM
theorem aJo:bK Tryz.prog 46 [] (V.agg [(V.sl (List.map cN ([vH []])))]):=by
 refine' pK [] [] Tryz.func46 ?e λhB=>?_
 case e=>conv=>lhs; cbv
 dsimp only;refine aW<|bM (i:=0) (n:=0) (m:=1) J (cE J) J<|qV<|bN J J<|aS J J<|bN J J<|bQ J J J J J J J J J<|R_q ?_
 refine uI (bI (u:=(V.agg [(V.sl [[(V.bool true),V.nilsl,V.nilsl,V.nilsl,V.nilsl]])])) J (@J Blk<|bk 1 47 1 [[(V.sl [[(V.bool true),V.nilsl,V.nilsl,V.nilsl,V.nilsl]])]])<|lB oB J J)<|fE ?_
 . simp [fQ,vH]
theorem aCN (n:Int):bK Tryz.prog 19 [(iV n)] (V.tup [(V.agg [(iV ((nE n).i)),(V.sl (List.map cN ((nE n).t.nd)))]),(iV (nwE n))]):=by
 refine' pK [] [] Tryz.func19 ?e λhB=>?_
 case e=>conv=>lhs; cbv
 dsimp only;refine aW<|bM (i:=2) (n:=0) (m:=2) J (cE J) J<|aD<|aO<|aP<|bZ J J<|aP ?_
 refine bU 3 (λT H=>T 0=(iV n)/\T 2=(cG 2)/\T 9=(V.bool<|decide ((n < (1:Int))\/((64:Int) < n)))/\H 2=(bk 1 49 2 [[(iV 0),V.nilsl]])/\True) ?_ ?_
 . 
  by_cases g1:n < (1:Int)
  . 
   refine bW (bY g1 J)<|bW (bY g1 J)<|bV (bY g1 J) J ?_
   exact ⟨J,J,(dZ g1),J,trivial⟩
  . 
   refine aN (bX g1 J)<|aP<|aN (bX g1 J)<|eD J J<|bT (bX g1 J) J ?_
   exact ⟨J,J,(dX g1),J,trivial⟩
 intro T H ⟨t0,t2,t9,h2,_⟩;refine bR ?_;refine aH t9 (λc2=>?_) λc2=>?_
 . 
  refine aO<|bN J J<|bQ t2 J J h2 J J J J J<|aD<|aK ?_
  refine dJ (bI (u:=(V.agg [(iV 0),V.nilsl])) t2 (@J Blk<|bk 1 49 2 [[(iV 0),V.nilsl]])<|lB oB J J) (aY<|aM<|iV 2) (cK (aF ?_)<|bH ?_)<|aF ?_
  . unfold nE; rw [if_pos OM]
  . unfold nE; rw [if_pos OM]
  . unfold nwE; rw [if_pos OM]
 refine aB<|aW<|aJ t0<|aI aJo J<|bN J J<|bQ t2 J J h2 J J J J J<|aD<|bF ?_
 refine dJ (bI (u:=(V.agg [(iV n),(V.sl<|List.map cN<|[vH []])])) t2 (@J Blk<|bk 1 49 2 [[(iV n),(V.sl<|List.map cN<|[vH []])]])<|lB oB J J) (aY<|aM<|iV 0) (cK (aF ?_)<|cA ?_ (λ_=>by simp))<|aF ?_
 . unfold nE; rw [if_neg OM]
 . unfold nE; rw [if_neg OM]
 . unfold nwE; rw [if_neg OM]
theorem aB5 (n:Int):bK Tryz.prog 200 [(iV n)] (V.bool false):=by
 refine' pK [] [] Tryz.func200 ?e λhB=>?_
 case e=>conv=>lhs; cbv
 dsimp only;refine aW<|aD<|aW<|aP<|aP<|bP J J<|aD<|bF ?_
 refine aZ (aM<|V.bool<|decide (n≠n))<|cH ?_
 . simp
theorem aAU (x y:Int):bK Tryz.prog 182 [(iV x),(iV y)] (iV (yR x y)):=by
 refine' pK [] [] Tryz.func182 ?e λhB=>?_
 case e=>conv=>lhs; cbv
 dsimp only;refine aW<|aD<|aW<|aP<|aI (aB5 x) J<|aD<|aW<|aP<|aI (aB5 y) J<|aD<|aO<|aP ?_
 refine bR ?_;refine cU J (λc1=>?_) (λc1=>?_)
 . cases c1
 refine aB<|aO<|aD ?_
 refine cU J (λc2=>?_) (λc2=>?_)
 . cases c2
 refine aB<|aO<|aP<|aP<|bZ J J<|bR ?_
 refine aH J (λc3=>?_) λc3=>?_
 . 
  refine aO<|aD<|aK ?_
  refine aZ (aM<|iV (-1))<|aF ?_
  . unfold yR; repeat (split <;> first|rfl|omega|skip)
 refine aB<|aO<|aP<|aP<|eD J J<|bR ?_
 refine aH J (λc4=>?_) λc4=>?_
 . 
  refine aO<|aD<|aK ?_
  refine aZ (aM<|iV 1)<|aF ?_
  . unfold yR; repeat (split <;> first|rfl|omega|skip)
 refine aB<|aW<|aD<|bF ?_
 refine aZ (aM<|iV 0)<|aF ?_
 . unfold yR; repeat (split <;> first|rfl|omega|skip)
theorem wI (a b:List Int):bK Tryz.prog 161 [(aE a),(aE b)] (iV (cY a b)):=by
 refine' pK [] [] Tryz.func161 ?e λhB=>?_
 case e=>conv=>lhs; cbv
 dsimp only;refine aW<|aD<|aO<|aP<|bA J<|aD (aG λQ1 n1 x1 y1 z1=>?_)
 refine cC (λmm T H=> ∃ (k:Nat),mm=a.length - k/\T 0=(aE a)/\T 1=(aE b)/\T 9=(aE a)/\T 10=(iV ((a.length:Nat):Int))/\T 11=(iV ((k:Nat):Int))/\(k<=a.length)/\(k<=gJ a b)) ?_ ?_
 . 
  refine ⟨_,0,J,J,J,J,J,(bL (aM<|iV 0) J),?_,?_⟩
  . omega
  . exact Nat.zero_le _
 intro mm T H ⟨k,hmm,t0,t1,t9,t10,t11,hk,hc⟩ Q2 p12 p22 p32;refine aW<|bZ t11 t10<|bR ?_
 refine aH J (λc3=>?_) λc3=>?_
 . 
  refine aB (aG λQ4 n4 x4 y4 z4=>(aW<|aJ t11<|dA (i:=k) t9 t11<|aL J J<|aP<|aD<|aO<|aP<|aJ t1<|bA J<|iC J J<|bR ?_));refine aH J (λc5=>?_) λc5=>?_
  . 
   refine aO<|aD<|aK<|y4 _ _<|p22 _ _<|y1 _ _ ?_
   refine aZ (aM<|iV 1)<|aF ?_
   . have g1:=kX a b
     have g2:=mV a b;have g3:=tY hc OM;simp only [cY,yR,g3] at*; repeat (split <;> first|rfl|omega|skip)
  refine aB<|aW<|aJ t1<|aP<|dA (i:=k) (aM<|aE b) (cO k)<|aL J J<|aD<|aW<|aP<|aP<|aI (aAU (aA a k)<|aA b k) J<|aD<|aW<|aP ?_
  refine bP J J<|bR ?_
  refine fN J (λc6=>?_) λc6=>?_
  . 
   have c9:aA a k≠aA b k:=λe=>c6<|aCQ.2 e
   refine aW<|aP<|aD<|bF<|y4 _ _<|p22 _ _<|y1 _ _ ?_
   refine aZ (aM<|iV<|yR (aA a k)<|aA b k)<|aF ?_
   . have g1:=kX a b
     have g2:=mV a b;have g3:=tY hc OM;simp only [cY,yR,g3] at*; repeat (split <;> first|rfl|omega|skip)
  refine dH<|n4 _ _ (.done (eI<|cF t11<|aD ?_))
  refine p12 _ _ _ ?_ ⟨(k+1),J,t0,t1,t9,t10,(bL (cO<|k+1) JR),?_,?_⟩
  . omega
  . omega
  . exact xX hc OM OM<|aCQ.1 OM
 refine aT<|p32 _ _ _<|x1 _ _ (.done (aO<|aJ t0<|bA J<|aJ t1<|bA J<|bZ J J<|bR ?_))
 refine aH J (λc7=>?_) λc7=>?_
 . 
  refine aO<|aD<|aK ?_
  refine aZ (aM<|iV (-1))<|aF ?_
  . have g1:=kX a b
    have g2:=mV a b;have g3:=tY hc OM;simp only [cY,yR,g3] at*; repeat (split <;> first|rfl|omega|skip)
 refine aB<|aW<|aD<|bF ?_
 refine aZ (aM<|iV 0)<|aF ?_
 . have g1:=kX a b
   have g2:=mV a b;have g3:=tY hc OM;simp only [cY,yR,g3] at*; repeat (split <;> first|rfl|omega|skip)
theorem rN (a b:List Int):bK Tryz.prog 108 [(aE a),(aE b)] (iV (cY a b)):=by
 refine' pK [] [] Tryz.func108 ?e λhB=>?_
 case e=>conv=>lhs; cbv
 dsimp only;refine aW<|aD<|aW<|aP<|aP<|aI (wI a b) J<|aD<|bF ?_
 refine aZ (aM<|iV<|cY a b)<|eM SI J
theorem aG4 (l:List Int) (hl:l.length < 4294967296):bK Tryz.prog 181 [(aE l)] (iV (orI l)):=by
 refine' pK [] [] Tryz.func181 ?e λhB=>?_
 case e=>conv=>lhs; cbv
 dsimp only;refine aW<|aD<|aW<|aD<|aO<|aP<|bA J<|aD (aG λQ1 n1 x1 y1 z1=>?_)
 refine cC (λmm T H=> ∃ (k:Nat),mm=l.length - k/\T 3=(iV 0)/\T 6=(aE l)/\T 7=(iV ((l.length:Nat):Int))/\T 8=(iV ((k:Nat):Int))/\(k<=l.length)/\(orI l=orI (l.drop k))) ?_ ?_
 . 
  refine ⟨_,0,J,J,J,J,(bL (aM<|iV 0) J),?_,?_⟩
  . omega
  . rfl
 intro mm T H ⟨k,hmm,t3,t6,t7,t8,hk,hc⟩ Q2 p12 p22 p32;refine aW<|bZ t8 t7<|bR ?_
 refine aH J (λc3=>?_) λc3=>?_
 . 
  refine aB (aG λQ4 n4 x4 y4 z4=>(aW<|dA (i:=k) t6 t8<|aL J J<|aD<|aW<|aP<|aJ t3<|bP J J<|bR ?_));refine fN J (λc5=>?_) λc5=>?_
  . 
   refine aW<|aP<|aD<|bF<|y4 _ _<|p22 _ _<|y1 _ _ ?_
   refine aZ (aM<|iV<|aA l k)<|aF ?_
   . rw [hc,aFN OM,if_neg OM]
  refine dH<|n4 _ _ (.done (eI<|cF t8<|aD ?_))
  refine p12 _ _ _ ?_ ⟨(k+1),J,t3,t6,t7,(bL (cO<|k+1) JR),?_,?_⟩
  . omega
  . omega
  . rw [hc,aFN OM,if_pos OM]
 refine aT<|p32 _ _ _<|x1 _ _ (.done (aW<|aJ t3<|aD<|bF ?_))
 refine aZ (aM<|iV 0)<|aF ?_
 . rw [hc,List.drop_of_length_le OM]; rfl
theorem sX (a b:List Int):bK Tryz.prog 143 [(aE a),(aE b)] (iV (fS a b)):=by
 refine' pK [] [] Tryz.func143 ?e λhB=>?_
 case e=>conv=>lhs; cbv
 dsimp only;refine aW<|aD<|aW<|aP<|bA J<|aP<|bA J<|aI (aAU ((a.length:Nat):Int) ((b.length:Nat):Int)) J<|aP<|aP<|aI (wI a b) J<|aS J J<|aI (aG4 ([(yR ((a.length:Nat):Int) ((b.length:Nat):Int)),(cY a b)]) SI) J<|aD ?_
 refine bF ?_;refine aZ (aM<|iV<|orI<|[(yR ((a.length:Nat):Int) ((b.length:Nat):Int)),(cY a b)])<|aF ?_
 . simp only [orI,yR,fS]; repeat (split <;> first|rfl|omega|skip)
theorem lI (l:List Int) (hl:l.length<=4294967296):bK Tryz.prog 147 [(aE l)] (aE l):=by
 refine' pK [2,5] [] Tryz.func147 ?e λhB=>?_
 case e=>conv=>lhs; cbv
 dsimp only;refine aW<|gG (i:=2) (n:=0) J (cE J)<|tA (rU λK hK=>(aP ?_))
 refine xM (aM<|aE l) (λe1=>?_) ?_
 . 
  replace e1:=List.map_eq_nil_iff.1 e1;refine eS<|hK _ _ ?_; clear hK K
  refine eJ (R:=λT H=>T 0=(aE l)/\T 4=(V.bool true)/\H 2=(bz 1 3 1 [])/\H 5=fL/\True) ⟨J,J,J,J,trivial⟩ ?_;intro T H ⟨t0,t4,h2,h5,_⟩;refine cU t4 (λc4=>?_) (λc4=>?_)
  . 
   refine aO<|gG (i:=2) (n:=1) J (cE h2)<|aOJ ?_
   refine aZ (aM<|V.ms 2 2 0 0)<|iK (@J Blk<|bz 2 3 1 []) JR (l:=[]) J JR (λ_=>by simp) ?_
   . exact e1.symm
  . cases c4
 . 
  refine eS<|hK _ _ ?_; clear hK K
  refine eJ (R:=λT H=>T 0=(aE l)/\T 4=(V.bool false)/\H 2=(bz 1 3 1 [])/\H 5=fL/\True) ⟨J,J,J,J,trivial⟩ ?_;intro T H ⟨t0,t4,h2,h5,_⟩;refine cU t4 (λc7=>?_) (λc7=>?_)
  . cases c7
  refine aB<|aW<|gG (i:=5) (n:=0) J (cE h5)<|aJ t0<|lQ (l:=([])) (m:=l) (f:=cI) (aM<|V.ms 5 1 0 0) (show _=(bz 1 3 1<|List.map cI<|[]) from (@J Blk<|bz 1 3 1 [])) JR (aM<|aE l) (λ_=>J) (λ_=>J) OM OM<|aD<|bF ?_
  refine aZ (aM<|V.ms 5 2 0<|0+l.length)<|iK (@J Blk<|bz 2 3 1<|List.map cI<|[]++l) JR (l:=([]++l)) J SI (λ_=>by simp) ?_
  . rfl
theorem aD9 (i:Nat) (h5:5<=i) (l:List Int) (u:Nat) (Hi:bC) (hq:(Hi i).ver=u) (hl:l.length<=4294967296):fA Tryz.prog 147 [(aE l)] Hi (V.ms i (u+3) 0 l.length) (cX Hi i (bz (u+3) 3 1 (List.map cI l))):=by
 refine' eK [2,5] [] (k0:=i - 2) Tryz.func147 ?e λhB=>?_
 case e=>conv=>lhs; cbv
 dsimp only;refine aW<|gG (i:=i) (n:=u) OM hq<|tA (rU λK hK=>(aP ?_))
 refine xM (aM<|aE l) (λe1=>?_) ?_
 . 
  replace e1:=List.map_eq_nil_iff.1 e1;refine eS<|hK _ _ ?_; clear hK K
  refine eJ (R:=λT H=>T 0=(aE l)/\T 4=(V.bool true)/\(∀ j,j∉[i]->H j=Hi j)/\H i=(bz (u+1) 3 1 [])/\True) ⟨J,J,(bG (λ_ _=>J) SI),(aU _ _ _),trivial⟩ ?_;intro T H ⟨t0,t4,hF,hi,_⟩;refine cU t4 (λc4=>?_) (λc4=>?_)
  . 
   refine aO<|gG (i:=i) (n:=(u+1)) OM (cE hi)<|aOJ<|eJ (R:=λT H=>T 2=(V.ms i (u+2) 0 0)/\(∀ j,j∉[i]->H j=Hi j)/\H i=(bz (u+2) 3 1 [])/\True) ⟨(aM<|V.ms i (u+2) 0 0),(bG hF SI),(aU _ _ _),trivial⟩ ?_
   intro T H ⟨t2,hF,hi,_⟩;skip;have fh:=dK.fin<|dK.put (B:=(bz (u+3) 3 1<|List.map cI l)) (dK.start hF) hi<|iZ.up OM (by (rw [e1]; rfl))
   exact kU t2 fh<|eY.trans_eq (eY.ms (n:=(u+3)) fh (by simp [hi]) (by simp [hi]) SI SI) (by (rw [e1]; rfl))
  . cases c4
 . 
  refine eS<|hK _ _ ?_; clear hK K
  refine eJ (R:=λT H=>T 0=(aE l)/\T 4=(V.bool false)/\(∀ j,j∉[i]->H j=Hi j)/\H i=(bz (u+1) 3 1 [])/\True) ⟨J,J,(bG (λ_ _=>J) SI),(aU _ _ _),trivial⟩ ?_;intro T H ⟨t0,t4,hF,hi,_⟩;refine cU t4 (λc7=>?_) (λc7=>?_)
  . cases c7
  refine aB<|aOH (i - 5)<|gG (i:=i) (n:=(u+1)) OM (cE hi)<|aJ t0<|lQ (l:=([])) (m:=l) (f:=cI) (aM<|V.ms i (u+2) 0 0) (show _=(bz (u+2) 3 1<|List.map cI<|[]) from (aU _ _ _)) JR (aM<|aE l) (λ_=>J) (λ_=>J) OM OM<|aD<|bF<|eJ (R:=λT H=>T 2=(V.ms i (u+3) 0<|0+l.length)/\(∀ j,j∉[i]->H j=Hi j)/\H i=(bz (u+3) 3 1<|List.map cI<|[]++l)/\True) ⟨(aM<|V.ms i (u+3) 0<|0+l.length),(bG (bG hF SI) SI),(aU _ _ _),trivial⟩ ?_
  intro T H ⟨t2,hF,hi,_⟩;skip;have fh:=dK.fin<|dK.put (B:=(bz (u+3) 3 1<|List.map cI l)) (dK.start hF) hi<|iZ.eq JR
  exact kU t2 fh<|eY.trans_eq (eY.same fh _) SI
theorem aFI (l:List (List Int)) (v2:Nat) (Hi:bC) (h202:(Hi 202).ver=v2) (hl:l.length<=1073741824):fA Tryz.prog 157 [(aC l)] Hi (V.ms 202 (v2+3) 0 l.length) (cX Hi 202 (bz (v2+3) 54 1 (List.map cL l))):=by
 refine' eK [2,5] [] (k0:=200) Tryz.func157 ?e λhB=>?_
 case e=>conv=>lhs; cbv
 dsimp only;refine aW<|gG (i:=202) (n:=v2) JR h202<|tA (rU λK hK=>(aP ?_))
 refine xM (aM<|aC l) (λe1=>?_) ?_
 . 
  replace e1:=List.map_eq_nil_iff.1 e1;refine eS<|hK _ _ ?_; clear hK K
  refine eJ (R:=λT H=>T 0=(aC l)/\T 4=(V.bool true)/\(∀ j,j∉[202]->H j=Hi j)/\H 202=(bz (v2+1) 54 1 [])/\True) ⟨J,J,(bG (λ_ _=>J) DE),J,trivial⟩ ?_;intro T H ⟨t0,t4,hF,h202,_⟩;refine cU t4 (λc4=>?_) (λc4=>?_)
  . 
   refine aO<|gG (i:=202) (n:=(v2+1)) JR (cE h202)<|aOJ<|eJ (R:=λT H=>T 2=(V.ms 202 (v2+2) 0 0)/\(∀ j,j∉[202]->H j=Hi j)/\H 202=(bz (v2+2) 54 1 [])/\True) ⟨(aM<|V.ms 202 (v2+2) 0 0),(bG hF DE),J,trivial⟩ ?_
   intro T H ⟨t2,hF,h202,_⟩;have fh:=dK.fin<|dK.put (B:=(bz (v2+3) 54 1<|List.map cL l)) (dK.start hF) h202<|iZ.up OM (by (rw [e1]; rfl))
   exact kU t2 fh<|eY.trans_eq (eY.ms (n:=(v2+3)) fh (by simp [h202]) (by simp [h202]) J J) (by (rw [e1]; rfl))
  . cases c4
 . 
  refine eS<|hK _ _ ?_; clear hK K
  refine eJ (R:=λT H=>T 0=(aC l)/\T 4=(V.bool false)/\(∀ j,j∉[202]->H j=Hi j)/\H 202=(bz (v2+1) 54 1 [])/\True) ⟨J,J,(bG (λ_ _=>J) DE),J,trivial⟩ ?_;intro T H ⟨t0,t4,hF,h202,_⟩;refine cU t4 (λc7=>?_) (λc7=>?_)
  . cases c7
  refine aB<|aOH 197<|gG (i:=202) (n:=(v2+1)) JR (cE h202)<|aJ t0<|lQ (l:=([])) (m:=l) (f:=cL) (aM<|V.ms 202 (v2+2) 0 0) (show _=(bz (v2+2) 54 1<|List.map cL<|[]) from (@J Blk<|bz (v2+2) 54 1 [])) JR (aM<|aC l) (λ_=>J) (λ_=>J) OM OM<|aD<|bF<|eJ (R:=λT H=>T 2=(V.ms 202 (v2+3) 0<|0+l.length)/\(∀ j,j∉[202]->H j=Hi j)/\H 202=(bz (v2+3) 54 1<|List.map cL<|[]++l)/\True) ⟨(aM<|V.ms 202 (v2+3) 0<|0+l.length),(bG (bG hF DE) DE),J,trivial⟩ ?_
  intro T H ⟨t2,hF,h202,_⟩;have fh:=dK.fin<|dK.put (B:=(bz (v2+3) 54 1<|List.map cL l)) (dK.start hF) h202<|iZ.eq JR
  exact kU t2 fh<|eY.trans_eq (eY.same fh _) SI
theorem aCV (a b:List Int):bK Tryz.prog 160 [(aE a),(aE b),(V.pp [(V.fn 143 [] [])])] (V.bool (decide (fS a b=0))):=by
 refine' pK [] [] Tryz.func160 ?e λhB=>?_
 case e=>conv=>lhs; cbv
 dsimp only;refine aW<|aD<|aW<|aL J J<|aP<|aP<|iP (aM<|V.fn 143 [] []) (bO (aM<|aE a)<|bO (aM<|aE b) dQ) (sX a b) (eF _ _ (by simp [-List.map_take,-List.map_drop,-List.map_append,-List.map_reverse])) (by simp [-List.map_take,-List.map_drop,-List.map_append,-List.map_reverse]) (Or.inl (by simp [-List.map_take,-List.map_drop,-List.map_append,-List.map_reverse]))<|eV J J<|aD<|bF ?_
 refine aZ (aM<|V.bool<|decide ((fS a b)=(0:Int)))<|cH ?_
 . rfl
theorem aB2 (a b:List Int):bK Tryz.prog 160 [(aE a),(aE b),(V.pp [(V.fn 108 [] [])])] (V.bool (decide (cY a b=0))):=by
 refine' pK [] [] Tryz.func160 ?e λhB=>?_
 case e=>conv=>lhs; cbv
 dsimp only;refine aW<|aD<|aW<|aL J J<|aP<|aP<|iP (aM<|V.fn 108 [] []) (bO (aM<|aE a)<|bO (aM<|aE b) dQ) (rN a b) (eF _ _ (by simp [-List.map_take,-List.map_drop,-List.map_append,-List.map_reverse])) (by simp [-List.map_take,-List.map_drop,-List.map_append,-List.map_reverse]) (Or.inl (by simp [-List.map_take,-List.map_drop,-List.map_append,-List.map_reverse]))<|eV J J<|aD<|bF ?_
 refine aZ (aM<|V.bool<|decide ((cY a b)=(0:Int)))<|cH ?_
 . rfl
theorem aMX (l:List (List Int)) (v2 v3 len:Nat) (Hi:bC) (h202:Hi 202=(bz v2 54 1 (List.map cL l))) (h3:Hi 3=(bk v3 91 1 [[(V.fn 143 [] [])]])) (hn:len=l.length) (hl:l.length<=1073741824):fA Tryz.prog 159 [(V.ms 202 v2 0 len),(V.fn 160 [] [(V.mp 3 v3 0 0)])] Hi (V.ms 202 v2 0 ((eZ l l.length).length)) (cX Hi 202 (bz v2 54 1 (List.map cL (eZ l l.length)++List.replicate (l.length - (eZ l l.length).length) [V.nilsl]))):=by
 refine' eK [] [] (k0:=400) Tryz.func159 ?e λhB=>?_
 case e=>conv=>lhs; cbv
 dsimp only;refine aW<|aD<|aO<|aP<|dW J h202 SI<|bZ J J<|bR ?_
 refine aH J (λc1=>?_) λc1=>?_
 . 
  refine aO<|aP<|aD<|aK<|eJ (R:=λT H=>T 4=(V.ms 202 v2 0 len)/\(∀ j,j∉[202]->H j=Hi j)/\H 3=(bk v3 91 1 [[(V.fn 143 [] [])]])/\H 202=(bz v2 54 1<|List.map cL l)/\True) ⟨(aM<|V.ms 202 v2 0 len),(λ_ _=>J),h3,h202,trivial⟩ ?_
  intro T H ⟨t4,hF,h3,h202,_⟩;have hall:=aDn (l:=l) (λi i1 i2=>by omega);have fh:=dK.fin<|dK.put (B:=(bz v2 54 1<|List.map cL (eZ l l.length)++List.replicate (l.length - (eZ l l.length).length) [V.nilsl])) (dK.start hF) h202<|iZ.eq (by (rw [hall]; simp; done))
  exact kU t4 fh<|eY.trans_eq (eY.same fh _) (by (rw [hall,hn]; done))
 refine aB<|aO<|aD (aG λQ2 n2 x2 y2 z2=>?_)
 refine cC (λmm T H=> ∃ (k:Nat),mm=l.length - k/\T 0=(V.ms 202 v2 0 len)/\T 1=(V.fn 160 [] [(V.mp 3 v3 0 0)])/\T 5=(iV ((k:Nat):Int))/\(∀ j,j∉[202]->H j=Hi j)/\H 3=(bk v3 91 1 [[(V.fn 143 [] [])]])/\H 202=(bz v2 54 1<|List.map cL l)/\(1<=k)/\(k<=l.length)/\(∀ i,1<=i->i < k->aA l i≠aA l (i - 1))) ?_ ?_
 . 
  refine ⟨_,1,J,J,J,(bL (aM<|iV 1) J),(λ_ _=>J),h3,h202,?_,?_,?_⟩
  . omega
  . omega
  . intro i h1 h2; omega
 intro mm T H ⟨k,hmm,t0,t1,t5,hF,h3,h202,h1,hk,hc⟩ Q3 p13 p23 p33;refine aO<|aJ t5<|aJ t0<|dW J h202 SI<|bZ J J<|bR ?_
 refine aH J (λc4=>?_) λc4=>?_
 . 
  refine aB (aG λQ5 n5 x5 y5 z5=>(aW<|aJ t1<|aJ t0<|aJ t5<|dC (i:=k) (aM<|V.ms 202 v2 0 len) (cO k) h202 (eC OM) J OM<|cQ (v:=(aE<|aA l k)) J h202 (dS OM JR)<|aJ t0<|aJ t5<|mP J J OM OM<|dV (i:=(((k:Nat):Int) - (1:Int))) (aM<|V.ms 202 v2 0 len) (aM<|iV<|((k:Nat):Int) - (1:Int)) h202 (eC OM) J OM OM<|cQ (v:=(aE<|aA l<|(((k:Nat):Int) - (1:Int)).toNat)) J h202 (dS OM JR)<|iP (aM<|V.fn 160 [] [(V.mp 3 v3 0 0)]) (bO (aM<|aE<|aA l k)<|bO (aM<|aE<|aA l<|(((k:Nat):Int) - (1:Int)).toNat) dQ) (aCV (aA l k)<|aA l<|(((k:Nat):Int) - (1:Int)).toNat) (cZ (dM 6 _ (by simp [-List.map_take,-List.map_drop,-List.map_append,-List.map_reverse]))<|cZ (dM 6 _ (by simp [-List.map_take,-List.map_drop,-List.map_append,-List.map_reverse]))<|cZ (by simp [fQ,Blk.own,h3,h202]) J) (by simp [-List.map_take,-List.map_drop,-List.map_append,-List.map_reverse]) (Or.inr J)<|bR ?_));refine fN J (λc6=>?_) λc6=>?_
  . 
   have d1:aA l k=aA l (k - 1):=by have q:=kE.1 c6; rwa [show (((k:Nat):Int) - (1:Int)).toNat=k - 1 by omega] at q
   have hd:=aFu h1 OM hc d1;refine aW<|aJ t0<|aJ t5<|kY (n:=k) (aM<|V.ms 202 v2 0 len) (cO k) h202 (eC OM) J OM<|aD<|aO<|aD (aG λQ7 n7 x7 y7 z7=>?_)
   refine cC (λmm T H=> ∃ (j:Nat),mm=l.length - (k+j)/\T 0=(V.ms 202 v2 0 len)/\T 1=(V.fn 160 [] [(V.mp 3 v3 0 0)])/\T 5=(iV (((eZ l<|k+j).length:Nat):Int))/\T 6=(V.ms 202 v2 (0+k)<|len - k)/\T 7=(iV ((j:Nat):Int))/\(∀ j,j∉[202]->H j=Hi j)/\H 3=(bk v3 91 1 [[(V.fn 143 [] [])]])/\H 202=(bz v2 54 1<|List.map cL<|oA l<|k+j)/\(k+j<=l.length)/\(1<=j)/\((eZ l<|k+j).length < k+j)) ?_ ?_
   . 
    refine ⟨_,1,J,t0,t1,(bL t5 (by (rw [hd.1]; done))),(bL (aM<|V.ms 202 v2 (0+k)<|len - k) JR),(bL (aM<|iV 1) J),hF,h3,(bL h202 (by (rw [hd.2]; done))),?_,?_,?_⟩
    . omega
    . omega
    . rw [hd.1]; omega
   intro mm T H ⟨j,hmm,t0,t1,t5,t6,t7,hF,h3,h202,hj,hj1,hlt⟩ Q8 p18 p28 p38;have q1:=aH6 (L:=l) (j:=k+j) hj;have q5:=aN2 hlt hj1;have q6:=aGs (l:=l) (j:=k+j) OM;refine aO<|aJ t7<|aJ t6<|dW J h202 SI<|bZ J J<|bR ?_
   refine aH J (λc9=>?_) λc9=>?_
   . 
    refine aB (aG λQ10 n10 x10 y10 z10=>(aW<|aJ t1<|aJ t6<|aJ t7<|pR (i:=j) (aM<|V.ms 202 v2 (0+k)<|len - k) (cO j) h202 (eC OM) J OM<|cQ (v:=(aE<|aA (oA l<|k+j)<|(0+k)+j)) J h202 (dS OM JR)<|aJ t6<|aJ t7<|mP J J OM OM<|aAu (i:=(((j:Nat):Int) - (1:Int))) (aM<|V.ms 202 v2 (0+k)<|len - k) (aM<|iV<|((j:Nat):Int) - (1:Int)) h202 (eC OM) J OM OM<|cQ (v:=(aE<|aA (oA l<|k+j)<|(0+k)+(((j:Nat):Int) - (1:Int)).toNat)) J h202 (dS OM JR)<|iP (aM<|V.fn 160 [] [(V.mp 3 v3 0 0)]) (bO (aM<|aE<|aA (oA l<|k+j)<|(0+k)+j)<|bO (aM<|aE<|aA (oA l<|k+j)<|(0+k)+(((j:Nat):Int) - (1:Int)).toNat) dQ) (aCV (aA (oA l<|k+j)<|(0+k)+j)<|aA (oA l<|k+j)<|(0+k)+(((j:Nat):Int) - (1:Int)).toNat) (cZ (dM 6 _ (by simp [-List.map_take,-List.map_drop,-List.map_append,-List.map_reverse]))<|cZ (dM 6 _ (by simp [-List.map_take,-List.map_drop,-List.map_append,-List.map_reverse]))<|cZ (by simp [fQ,Blk.own,h3,h202]) J) (by simp [-List.map_take,-List.map_drop,-List.map_append,-List.map_reverse]) (Or.inr J)<|qT J<|bR ?_));refine fN J (λc11=>?_) λc11=>?_
    . 
     have d5:aA l (k+j)≠aA l (k+j - 1):=λq=>c11<|kE.2 (by rw [q5.1,q5.2]; exact q)
     refine aW<|aJ t0<|aJ t5<|aJ t6<|aJ t7<|pR (i:=j) (aM<|V.ms 202 v2 (0+k)<|len - k) (cO j) h202 (eC OM) J OM<|cQ (v:=(aE<|aA (oA l<|k+j)<|(0+k)+j)) J h202 (dS OM JR)<|dC (i:=((eZ l<|k+j).length)) (aM<|V.ms 202 v2 0 len) (cO<|(eZ l<|k+j).length) h202 (eC OM) J OM<|dU (vs:=[(aE<|aA (oA l<|k+j)<|(0+k)+j)]) (B':=(bz v2 54 1<|List.map cL<|(oA l<|k+j).set ((eZ l<|k+j).length) (aA (oA l<|k+j)<|(0+k)+j))) J J J h202 (iQ (x:=(aA (oA l<|k+j)<|(0+k)+j)) (i:=((eZ l<|k+j).length)) OM J J J J)<|bR<|eI<|aJ t5<|cF J<|aD<|n10 _ _ ?_
     refine .done (eI<|aJ t7<|cF J<|aD ?_);refine p18 _ _ _ ?_ ⟨(j+1),J,t0,t1,(bL (cO<|((eZ l<|k+j).length)+1) (by (show _=iV (((eZ l<|(k+j)+1).length:Nat):Int); rw [jE (.inr d5),List.length_append]; rfl))),(bL t6 JR),(bL (cO<|j+1) JR),(bG hF DE),h3,(bL (@J Blk<|bz v2 54 1<|List.map cL<|(oA l<|k+j).set ((eZ l<|k+j).length) (aA (oA l<|k+j)<|(0+k)+j)) (by (rw [q5.1,aEr (show k+j < l.length by omega) (.inr d5)]; rfl))),?_,?_,?_⟩
     . omega
     . omega
     . omega
     . first|(show (eZ l<|(k+j)+1).length < (k+j)+1; rw [jE (.inr d5),List.length_append]; simp; omega)|(show (eZ l<|(k+j)+1).length < (k+j)+1; rw [jX (by rintro (q|q); omega; exact q d5)]; omega)
    have d5:aA l (k+j)=aA l (k+j - 1):=by have q:=kE.1<|Decidable.not_not.1 c11; rwa [q5.1,q5.2] at q
    refine dH<|n10 _ _ (.done (eI<|aJ t7<|cF J<|aD ?_))
    refine p18 _ _ _ ?_ ⟨(j+1),rfl,t0,t1,(bL t5 (by (show _=iV (((eZ l<|(k+j)+1).length:Nat):Int); rw [jX (by rintro (q|q); omega; exact q d5)]; done))),(bL t6 JR),(bL (cO<|j+1) JR),hF,h3,(bL h202 (by (show _=(⟨_,_,_,_,_,List.map cL (oA l<|(k+j)+1)⟩:Blk); rw [aFk (by rintro (q|q); omega; exact q d5)]; done))),?_,?_,?_⟩
    . omega
    . omega
    . omega
    . first|(show (eZ l<|(k+j)+1).length < (k+j)+1; rw [jE (.inr d5),List.length_append]; simp; omega)|(show (eZ l<|(k+j)+1).length < (k+j)+1; rw [jX (by rintro (q|q); omega; exact q d5)]; omega)
   refine aT<|p38 _ _ _<|x7 _ _ (.done (aW<|aJ t0<|aJ t5<|kY (n:=((eZ l<|k+j).length)) (aM<|V.ms 202 v2 0 len) (cO<|(eZ l<|k+j).length) h202 (eC OM) J OM<|aJV (m:=((eZ l<|k+j).length)) (n:=(len - ((eZ l<|k+j).length))) (f:=cL) (l:=(oA l<|k+j)) (bL (aM<|V.ms 202 v2 (0+((eZ l<|k+j).length))<|len - ((eZ l<|k+j).length))<|congrArg (λn=>V.ms 202 v2 n<|len - ((eZ l<|k+j).length))<|Nat.zero_add _) h202 J DE J OM OM<|qV<|aJ t0<|aJ t5<|rG (n:=((eZ l<|k+j).length)) (aM<|V.ms 202 v2 0 len) (cO<|(eZ l<|k+j).length) (@J Blk<|bz v2 54 1<|List.map cL (List.take ((eZ l<|k+j).length)<|oA l<|k+j)++List.replicate (len - ((eZ l<|k+j).length)) [V.nilsl]) (rB (by (simp only [List.length_take]; omega))) J OM<|aD ?_))
   refine bF<|y5 _ _<|p23 _ _<|y2 _ _<|eJ (R:=λT H=>T 4=(V.ms 202 v2 0<|(eZ l<|k+j).length)/\(∀ j,j∉[202]->H j=Hi j)/\H 3=(bk v3 91 1 [[(V.fn 143 [] [])]])/\H 202=(bz v2 54 1<|List.map cL (List.take ((eZ l<|k+j).length)<|oA l<|k+j)++List.replicate (len - ((eZ l<|k+j).length)) [V.nilsl])/\True) ⟨(aM<|V.ms 202 v2 0<|(eZ l<|k+j).length),(bG hF DE),h3,J,trivial⟩ ?_
   intro T H ⟨t4,hF,h3,h202,_⟩;skip;have fh:=dK.fin<|dK.put (B:=(bz v2 54 1<|List.map cL (eZ l l.length)++List.replicate (l.length - (eZ l l.length).length) [V.nilsl])) (dK.start hF) h202<|iZ.eq (by (rw [aIv (show l.length<=k+j by omega) hj,show k+j=l.length by omega,hn]; done))
   exact kU t4 fh<|eY.trans_eq (eY.same fh _) (by (rw [show k+j=l.length by omega]; done))
  have d1:aA l k≠aA l (k - 1):=λq=>c6<|kE.2 (by rw [show (((k:Nat):Int) - (1:Int)).toNat=k - 1 by omega]; exact q)
  refine dH<|n5 _ _ (.done (eI<|aJ t5<|cF J<|aD ?_))
  refine p13 _ _ _ ?_ ⟨(k+1),J,t0,t1,(bL (cO<|k+1) JR),hF,h3,h202,?_,?_,?_⟩
  . omega
  . omega
  . omega
  . intro i i1 i2
    by_cases e:i=k
    . subst e; exact d1
    . exact hc i i1 OM
 refine aT<|p33 _ _ _<|x2 _ _ (.done (aW<|aJ t0<|aD<|bF<|eJ (R:=λT H=>T 4=(V.ms 202 v2 0 len)/\(∀ j,j∉[202]->H j=Hi j)/\H 3=(bk v3 91 1 [[(V.fn 143 [] [])]])/\H 202=(bz v2 54 1<|List.map cL l)/\True) ⟨(aM<|V.ms 202 v2 0 len),hF,h3,h202,trivial⟩ ?_))
 intro T H ⟨t4,hF,h3,h202,_⟩;have hall:=aDn (l:=l) (λi i1 i2=>hc i i1 OM);have fh:=dK.fin<|dK.put (B:=(bz v2 54 1<|List.map cL (eZ l l.length)++List.replicate (l.length - (eZ l l.length).length) [V.nilsl])) (dK.start hF) h202<|iZ.eq (by (rw [hall]; simp; done))
 exact kU t4 fh<|eY.trans_eq (eY.same fh _) (by (rw [hall,hn]; done))
theorem aLk (l:List (List Int)) (v2 v3 len:Nat) (Hi:bC) (h202:Hi 202=(bz v2 54 1 (List.map cL l))) (h3:Hi 3=(bk v3 91 1 [[(V.fn 108 [] [])]])) (hn:len=l.length) (hl:l.length<=1073741824):fA Tryz.prog 159 [(V.ms 202 v2 0 len),(V.fn 160 [] [(V.mp 3 v3 0 0)])] Hi (V.ms 202 v2 0 ((eZ l l.length).length)) (cX Hi 202 (bz v2 54 1 (List.map cL (eZ l l.length)++List.replicate (l.length - (eZ l l.length).length) [V.nilsl]))):=by
 refine' eK [] [] (k0:=400) Tryz.func159 ?e λhB=>?_
 case e=>conv=>lhs; cbv
 dsimp only;refine aW<|aD<|aO<|aP<|dW J h202 SI<|bZ J J<|bR ?_
 refine aH J (λc1=>?_) λc1=>?_
 . 
  refine aO<|aP<|aD<|aK<|eJ (R:=λT H=>T 4=(V.ms 202 v2 0 len)/\(∀ j,j∉[202]->H j=Hi j)/\H 3=(bk v3 91 1 [[(V.fn 108 [] [])]])/\H 202=(bz v2 54 1<|List.map cL l)/\True) ⟨(aM<|V.ms 202 v2 0 len),(λ_ _=>J),h3,h202,trivial⟩ ?_
  intro T H ⟨t4,hF,h3,h202,_⟩;have hall:=aDn (l:=l) (λi i1 i2=>by omega);have fh:=dK.fin<|dK.put (B:=(bz v2 54 1<|List.map cL (eZ l l.length)++List.replicate (l.length - (eZ l l.length).length) [V.nilsl])) (dK.start hF) h202<|iZ.eq (by (rw [hall]; simp; done))
  exact kU t4 fh<|eY.trans_eq (eY.same fh _) (by (rw [hall,hn]; done))
 refine aB<|aO<|aD (aG λQ2 n2 x2 y2 z2=>?_)
 refine cC (λmm T H=> ∃ (k:Nat),mm=l.length - k/\T 0=(V.ms 202 v2 0 len)/\T 1=(V.fn 160 [] [(V.mp 3 v3 0 0)])/\T 5=(iV ((k:Nat):Int))/\(∀ j,j∉[202]->H j=Hi j)/\H 3=(bk v3 91 1 [[(V.fn 108 [] [])]])/\H 202=(bz v2 54 1<|List.map cL l)/\(1<=k)/\(k<=l.length)/\(∀ i,1<=i->i < k->aA l i≠aA l (i - 1))) ?_ ?_
 . 
  refine ⟨_,1,J,J,J,(bL (aM<|iV 1) J),(λ_ _=>J),h3,h202,?_,?_,?_⟩
  . omega
  . omega
  . intro i h1 h2; omega
 intro mm T H ⟨k,hmm,t0,t1,t5,hF,h3,h202,h1,hk,hc⟩ Q3 p13 p23 p33;refine aO<|aJ t5<|aJ t0<|dW J h202 SI<|bZ J J<|bR ?_
 refine aH J (λc4=>?_) λc4=>?_
 . 
  refine aB (aG λQ5 n5 x5 y5 z5=>(aW<|aJ t1<|aJ t0<|aJ t5<|dC (i:=k) (aM<|V.ms 202 v2 0 len) (cO k) h202 (eC OM) J OM<|cQ (v:=(aE<|aA l k)) J h202 (dS OM JR)<|aJ t0<|aJ t5<|mP J J OM OM<|dV (i:=(((k:Nat):Int) - (1:Int))) (aM<|V.ms 202 v2 0 len) (aM<|iV<|((k:Nat):Int) - (1:Int)) h202 (eC OM) J OM OM<|cQ (v:=(aE<|aA l<|(((k:Nat):Int) - (1:Int)).toNat)) J h202 (dS OM JR)<|iP (aM<|V.fn 160 [] [(V.mp 3 v3 0 0)]) (bO (aM<|aE<|aA l k)<|bO (aM<|aE<|aA l<|(((k:Nat):Int) - (1:Int)).toNat) dQ) (aB2 (aA l k)<|aA l<|(((k:Nat):Int) - (1:Int)).toNat) (cZ (dM 6 _ (by simp [-List.map_take,-List.map_drop,-List.map_append,-List.map_reverse]))<|cZ (dM 6 _ (by simp [-List.map_take,-List.map_drop,-List.map_append,-List.map_reverse]))<|cZ (by simp [fQ,Blk.own,h3,h202]) J) (by simp [-List.map_take,-List.map_drop,-List.map_append,-List.map_reverse]) (Or.inr J)<|bR ?_));refine fN J (λc6=>?_) λc6=>?_
  . 
   have d1:aA l k=aA l (k - 1):=by have q:=fJ.1 c6; rwa [show (((k:Nat):Int) - (1:Int)).toNat=k - 1 by omega] at q
   have hd:=aFu h1 OM hc d1;refine aW<|aJ t0<|aJ t5<|kY (n:=k) (aM<|V.ms 202 v2 0 len) (cO k) h202 (eC OM) J OM<|aD<|aO<|aD (aG λQ7 n7 x7 y7 z7=>?_)
   refine cC (λmm T H=> ∃ (j:Nat),mm=l.length - (k+j)/\T 0=(V.ms 202 v2 0 len)/\T 1=(V.fn 160 [] [(V.mp 3 v3 0 0)])/\T 5=(iV (((eZ l<|k+j).length:Nat):Int))/\T 6=(V.ms 202 v2 (0+k)<|len - k)/\T 7=(iV ((j:Nat):Int))/\(∀ j,j∉[202]->H j=Hi j)/\H 3=(bk v3 91 1 [[(V.fn 108 [] [])]])/\H 202=(bz v2 54 1<|List.map cL<|oA l<|k+j)/\(k+j<=l.length)/\(1<=j)/\((eZ l<|k+j).length < k+j)) ?_ ?_
   . 
    refine ⟨_,1,J,t0,t1,(bL t5 (by (rw [hd.1]; done))),(bL (aM<|V.ms 202 v2 (0+k)<|len - k) JR),(bL (aM<|iV 1) J),hF,h3,(bL h202 (by (rw [hd.2]; done))),?_,?_,?_⟩
    . omega
    . omega
    . rw [hd.1]; omega
   intro mm T H ⟨j,hmm,t0,t1,t5,t6,t7,hF,h3,h202,hj,hj1,hlt⟩ Q8 p18 p28 p38;have q1:=aH6 (L:=l) (j:=k+j) hj;have q5:=aN2 hlt hj1;have q6:=aGs (l:=l) (j:=k+j) OM;refine aO<|aJ t7<|aJ t6<|dW J h202 SI<|bZ J J<|bR ?_
   refine aH J (λc9=>?_) λc9=>?_
   . 
    refine aB (aG λQ10 n10 x10 y10 z10=>(aW<|aJ t1<|aJ t6<|aJ t7<|pR (i:=j) (aM<|V.ms 202 v2 (0+k)<|len - k) (cO j) h202 (eC OM) J OM<|cQ (v:=(aE<|aA (oA l<|k+j)<|(0+k)+j)) J h202 (dS OM JR)<|aJ t6<|aJ t7<|mP J J OM OM<|aAu (i:=(((j:Nat):Int) - (1:Int))) (aM<|V.ms 202 v2 (0+k)<|len - k) (aM<|iV<|((j:Nat):Int) - (1:Int)) h202 (eC OM) J OM OM<|cQ (v:=(aE<|aA (oA l<|k+j)<|(0+k)+(((j:Nat):Int) - (1:Int)).toNat)) J h202 (dS OM JR)<|iP (aM<|V.fn 160 [] [(V.mp 3 v3 0 0)]) (bO (aM<|aE<|aA (oA l<|k+j)<|(0+k)+j)<|bO (aM<|aE<|aA (oA l<|k+j)<|(0+k)+(((j:Nat):Int) - (1:Int)).toNat) dQ) (aB2 (aA (oA l<|k+j)<|(0+k)+j)<|aA (oA l<|k+j)<|(0+k)+(((j:Nat):Int) - (1:Int)).toNat) (cZ (dM 6 _ (by simp [-List.map_take,-List.map_drop,-List.map_append,-List.map_reverse]))<|cZ (dM 6 _ (by simp [-List.map_take,-List.map_drop,-List.map_append,-List.map_reverse]))<|cZ (by simp [fQ,Blk.own,h3,h202]) J) (by simp [-List.map_take,-List.map_drop,-List.map_append,-List.map_reverse]) (Or.inr J)<|qT J<|bR ?_));refine fN J (λc11=>?_) λc11=>?_
    . 
     have d5:aA l (k+j)≠aA l (k+j - 1):=λq=>c11<|fJ.2 (by rw [q5.1,q5.2]; exact q)
     refine aW<|aJ t0<|aJ t5<|aJ t6<|aJ t7<|pR (i:=j) (aM<|V.ms 202 v2 (0+k)<|len - k) (cO j) h202 (eC OM) J OM<|cQ (v:=(aE<|aA (oA l<|k+j)<|(0+k)+j)) J h202 (dS OM JR)<|dC (i:=((eZ l<|k+j).length)) (aM<|V.ms 202 v2 0 len) (cO<|(eZ l<|k+j).length) h202 (eC OM) J OM<|dU (vs:=[(aE<|aA (oA l<|k+j)<|(0+k)+j)]) (B':=(bz v2 54 1<|List.map cL<|(oA l<|k+j).set ((eZ l<|k+j).length) (aA (oA l<|k+j)<|(0+k)+j))) J J J h202 (iQ (x:=(aA (oA l<|k+j)<|(0+k)+j)) (i:=((eZ l<|k+j).length)) OM J J J J)<|bR<|eI<|aJ t5<|cF J<|aD<|n10 _ _ ?_
     refine .done (eI<|aJ t7<|cF J<|aD ?_);refine p18 _ _ _ ?_ ⟨(j+1),J,t0,t1,(bL (cO<|((eZ l<|k+j).length)+1) (by (show _=iV (((eZ l<|(k+j)+1).length:Nat):Int); rw [jE (.inr d5),List.length_append]; rfl))),(bL t6 JR),(bL (cO<|j+1) JR),(bG hF DE),h3,(bL (@J Blk<|bz v2 54 1<|List.map cL<|(oA l<|k+j).set ((eZ l<|k+j).length) (aA (oA l<|k+j)<|(0+k)+j)) (by (rw [q5.1,aEr (show k+j < l.length by omega) (.inr d5)]; rfl))),?_,?_,?_⟩
     . omega
     . omega
     . omega
     . first|(show (eZ l<|(k+j)+1).length < (k+j)+1; rw [jE (.inr d5),List.length_append]; simp; omega)|(show (eZ l<|(k+j)+1).length < (k+j)+1; rw [jX (by rintro (q|q); omega; exact q d5)]; omega)
    have d5:aA l (k+j)=aA l (k+j - 1):=by have q:=fJ.1<|Decidable.not_not.1 c11; rwa [q5.1,q5.2] at q
    refine dH<|n10 _ _ (.done (eI<|aJ t7<|cF J<|aD ?_))
    refine p18 _ _ _ ?_ ⟨(j+1),rfl,t0,t1,(bL t5 (by (show _=iV (((eZ l<|(k+j)+1).length:Nat):Int); rw [jX (by rintro (q|q); omega; exact q d5)]; done))),(bL t6 JR),(bL (cO<|j+1) JR),hF,h3,(bL h202 (by (show _=(⟨_,_,_,_,_,List.map cL (oA l<|(k+j)+1)⟩:Blk); rw [aFk (by rintro (q|q); omega; exact q d5)]; done))),?_,?_,?_⟩
    . omega
    . omega
    . omega
    . first|(show (eZ l<|(k+j)+1).length < (k+j)+1; rw [jE (.inr d5),List.length_append]; simp; omega)|(show (eZ l<|(k+j)+1).length < (k+j)+1; rw [jX (by rintro (q|q); omega; exact q d5)]; omega)
   refine aT<|p38 _ _ _<|x7 _ _ (.done (aW<|aJ t0<|aJ t5<|kY (n:=((eZ l<|k+j).length)) (aM<|V.ms 202 v2 0 len) (cO<|(eZ l<|k+j).length) h202 (eC OM) J OM<|aJV (m:=((eZ l<|k+j).length)) (n:=(len - ((eZ l<|k+j).length))) (f:=cL) (l:=(oA l<|k+j)) (bL (aM<|V.ms 202 v2 (0+((eZ l<|k+j).length))<|len - ((eZ l<|k+j).length))<|congrArg (λn=>V.ms 202 v2 n<|len - ((eZ l<|k+j).length))<|Nat.zero_add _) h202 J DE J OM OM<|qV<|aJ t0<|aJ t5<|rG (n:=((eZ l<|k+j).length)) (aM<|V.ms 202 v2 0 len) (cO<|(eZ l<|k+j).length) (@J Blk<|bz v2 54 1<|List.map cL (List.take ((eZ l<|k+j).length)<|oA l<|k+j)++List.replicate (len - ((eZ l<|k+j).length)) [V.nilsl]) (rB (by (simp only [List.length_take]; omega))) J OM<|aD ?_))
   refine bF<|y5 _ _<|p23 _ _<|y2 _ _<|eJ (R:=λT H=>T 4=(V.ms 202 v2 0<|(eZ l<|k+j).length)/\(∀ j,j∉[202]->H j=Hi j)/\H 3=(bk v3 91 1 [[(V.fn 108 [] [])]])/\H 202=(bz v2 54 1<|List.map cL (List.take ((eZ l<|k+j).length)<|oA l<|k+j)++List.replicate (len - ((eZ l<|k+j).length)) [V.nilsl])/\True) ⟨(aM<|V.ms 202 v2 0<|(eZ l<|k+j).length),(bG hF DE),h3,J,trivial⟩ ?_
   intro T H ⟨t4,hF,h3,h202,_⟩;skip;have fh:=dK.fin<|dK.put (B:=(bz v2 54 1<|List.map cL (eZ l l.length)++List.replicate (l.length - (eZ l l.length).length) [V.nilsl])) (dK.start hF) h202<|iZ.eq (by (rw [aIv (show l.length<=k+j by omega) hj,show k+j=l.length by omega,hn]; done))
   exact kU t4 fh<|eY.trans_eq (eY.same fh _) (by (rw [show k+j=l.length by omega]; done))
  have d1:aA l k≠aA l (k - 1):=λq=>c6<|fJ.2 (by rw [show (((k:Nat):Int) - (1:Int)).toNat=k - 1 by omega]; exact q)
  refine dH<|n5 _ _ (.done (eI<|aJ t5<|cF J<|aD ?_))
  refine p13 _ _ _ ?_ ⟨(k+1),J,t0,t1,(bL (cO<|k+1) JR),hF,h3,h202,?_,?_,?_⟩
  . omega
  . omega
  . omega
  . intro i i1 i2
    by_cases e:i=k
    . subst e; exact d1
    . exact hc i i1 OM
 refine aT<|p33 _ _ _<|x2 _ _ (.done (aW<|aJ t0<|aD<|bF<|eJ (R:=λT H=>T 4=(V.ms 202 v2 0 len)/\(∀ j,j∉[202]->H j=Hi j)/\H 3=(bk v3 91 1 [[(V.fn 108 [] [])]])/\H 202=(bz v2 54 1<|List.map cL l)/\True) ⟨(aM<|V.ms 202 v2 0 len),hF,h3,h202,trivial⟩ ?_))
 intro T H ⟨t4,hF,h3,h202,_⟩;have hall:=aDn (l:=l) (λi i1 i2=>hc i i1 OM);have fh:=dK.fin<|dK.put (B:=(bz v2 54 1<|List.map cL (eZ l l.length)++List.replicate (l.length - (eZ l l.length).length) [V.nilsl])) (dK.start hF) h202<|iZ.eq (by (rw [hall]; simp; done))
 exact kU t4 fh<|eY.trans_eq (eY.same fh _) (by (rw [hall,hn]; done))
end
end Go.Proofs.YtinpihlhcmpkhaaGreat
