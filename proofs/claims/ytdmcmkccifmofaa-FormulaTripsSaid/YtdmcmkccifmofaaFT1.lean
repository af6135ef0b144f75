/- Contracts of the functions that the law FT reaches, and the law itself, for every input; no condition. -/
import Derived.KernelRfl
import Derived.Test.YtdmcmkccifmofaaProg
import Derived.Recover
import Derived.Lib.Bytealg
import Derived.Lib.Strings
import Derived.Lib.Slices
import Derived.Lib.Walk
import Derived.Test.YtdmcmkccifmofaaLay3
set_option linter.unusedSimpArgs false
set_option linter.unusedVariables false
namespace Go.Proofs.Ytdmcmkccifmofaa
open Go
def fe (e:Nat→Int) (k:Nat):Nat→Int
  |0=>0
  |n+1=>if e k=0 then fe e (k+1) n else e k
theorem fe_hit {e:Nat→Int} {k N:Nat} (h:e k≠0) (hk:k < N):fe e k (N - k)=e k:=by
  obtain ⟨n,hn⟩: ∃ n,N - k=n+1:=⟨N - k - 1,by omega⟩
  rw [hn]; simp [fe,h]
theorem fe_skip {e:Nat→Int} {k N:Nat} (h:e k=0) (hk:k < N):fe e k (N - k)=fe e (k+1) (N - (k+1)):=by
  obtain ⟨n,hn⟩: ∃ n,N - k=n+1:=⟨N - k - 1,by omega⟩
  rw [hn,show N - (k+1)=n by omega]; simp [fe,h]
theorem fe_end {e:Nat→Int} {k N:Nat} (hk:N≤k):fe e k (N - k)=0:=by
  rw [show N - k=0 by omega]; rfl
theorem fe_zero_iff {e : Nat → Int} : ∀ {n k : Nat}, fe e k n = 0 ↔ ∀ j, k ≤ j → j < k + n → e j = 0 := by
  intro n
  induction n with
  |zero=>intro k; simp only [fe,true_iff]; intro j h1 h2; omega
  | succ n ih =>
    intro k
    simp only [fe]
    split
    · rename_i h
      rw [ih]
      constructor
      · intro hh j h1 h2
        by_cases hj:j=k
        · subst hj; exact h
        · exact hh j (by omega) (by omega)
      · intro hh j h1 h2; exact hh j (by omega) (by omega)
    · rename_i h
      constructor
      · intro hh; exact (h hh).elim
      · intro hh; exact hh k (Nat.le_refl _) (by omega)
def fi (p:Nat→Bool) (k:Nat):Nat→Int
  |0=> -1
  |n+1=>if p k then k else fi p (k+1) n
theorem fi_hit {p:Nat→Bool} {k N:Nat} (h:p k=true) (hk:k < N):fi p k (N - k)=k:=by
  obtain ⟨n,hn⟩: ∃ n,N - k=n+1:=⟨N - k - 1,by omega⟩
  rw [hn]; simp [fi,h]
theorem fi_skip {p:Nat→Bool} {k N:Nat} (h:p k=false) (hk:k < N):fi p k (N - k)=fi p (k+1) (N - (k+1)):=by
  obtain ⟨n,hn⟩: ∃ n,N - k=n+1:=⟨N - k - 1,by omega⟩
  rw [hn,show N - (k+1)=n by omega]; simp [fi,h]
theorem fi_end {p:Nat→Bool} {k N:Nat} (hk:N≤k):fi p k (N - k)= -1:=by
  rw [show N - k=0 by omega]; rfl
def wE (w:List Int) (n:Int) (k:Nat):Int:=if nth w k < 0∨n≤nth w k then 1 else 0
def wchk (w:List Int) (n:Int):Int:=
  if n < 1∨1024 < n then 2 else if 1024 < w.length then 3 else fe (wE w n) 0 w.length
structure M where
  i:Int
  s:Int
  nx:List (List Int)
  ot:List (List Int)
def cell (l:List (List Int)) (s a:Int):Int:=nth (nth l s.toNat) a.toNat
def celE (m:M) (s a:Nat):Int:=if nth (nth m.nx s) a < 0∨m.nx.length≤nth (nth m.nx s) a∨nth (nth m.ot s) a < 0∨1048576 < nth (nth m.ot s) a then 2 else 0
def rowE (m:M) (s:Nat):Int:=
  if ((nth m.nx s).length:Int)≠m.i∨((nth m.ot s).length:Int)≠m.i then 1
  else fe (celE m s) 0 m.i.toNat
def mval (m:M):Int:=
  if m.i < 1∨64 < m.i then 2 else if m.nx.length=0 then 19 else if 128 < m.nx.length then 11 else if m.s < 0∨m.nx.length≤m.s then 2
  else if m.ot.length≠m.nx.length then 1 else fe (rowE m) 0 m.nx.length
def goal (m:M):Int→List Int→Int
  |s,[]=>s
  |s,a::w=>goal m (cell m.nx s a) w
structure Hy where
  m:M
  acc:List (List Int)
abbrev hC (h:Hy):List V:=[iV h.m.i,iV h.m.s,intss h.m.nx,intss h.m.ot,intss h.acc]
abbrev hV (h:Hy):V:=.agg (hC h)
abbrev hB (h:Hy):Blk:=⟨1,true,false,26,5,[hC h]⟩
def accE (h:Hy) (s:Nat):Int:=
  if wchk (nth h.acc s) h.m.i≠0 then wchk (nth h.acc s) h.m.i else if goal h.m h.m.s (nth h.acc s)≠s then 15 else 0
def hval (h:Hy):Int:=
  if mval h.m≠0 then mval h.m else if h.acc.length≠h.m.nx.length then 1
  else if fe (accE h) 0 h.acc.length≠0 then fe (accE h) 0 h.acc.length else if (nth h.acc h.m.s.toNat).length≠0 then 10 else 0
end Go.Proofs.Ytdmcmkccifmofaa
namespace Go.Proofs.Ytdmcmkccifmofaa
open Go
def cmn:List Int→List Int→Nat
  |a::l,b::m=>if a=b then cmn l m+1 else 0
  |_,_=>0
theorem nth_take {α:Type} [Inhabited α] {l:List α} {n j:Nat} (h:j < n):nth (l.take n) j=nth l j:=by
  simp only [nth,List.getD_eq_getElem?_getD,List.getElem?_take,if_pos h]
def lexI (a b:List Int):Int:=
  if cmn a b=a.length∧cmn a b=b.length then 0
  else if cmn a b=a.length∨(cmn a b < b.length∧nth a (cmn a b) < nth b (cmn a b)) then -1 else 1
def slx (a b:List Int):Int:=if a.length < b.length then -1 else if b.length < a.length then 1 else lexI a b
structure Tr where
  ni:List Int
  no:List Int
  deriving Inhabited
abbrev cT (t:Tr):List V:=[ints t.ni,ints t.no]
@[simp] theorem canonLL_trs (l:List Tr):canonLL (l.map cT)=true:=canonLL_map _ _ fun a=>by simp [cT]
structure Ob where
  i:Int
  tr:List Tr
  deriving Inhabited
def hp (w p:List Int):Bool:=decide (cmn w p=p.length)
def dfE (a b:Tr) (k:Nat):Bool:=decide (nth a.no k≠nth b.no k)
def df (a b:Tr):Int:=fi (dfE a b) 0 (cmn a.ni b.ni)
structure Proper (t:Tr) (n:Int):Prop where
  len:t.no.length=t.ni.length
  lel:t.ni.length≤1024
  sym: ∀ k,k < t.ni.length→0≤nth t.ni k∧nth t.ni k < n
  out: ∀ k,k < t.no.length→0≤nth t.no k∧nth t.no k≤1048576
theorem fi_iff {p : Nat → Bool} : ∀ {n k : Nat}, 0 ≤ fi p k n ↔ ∃ j, k ≤ j ∧ j < k + n ∧ p j = true
  |0,k=>by simp [fi]; omega
  | n + 1, k => by
    simp only [fi]
    split
    · rename_i h
      constructor
      · intro _; exact ⟨k,by omega,by omega,h⟩
      · intro _; omega
    · rename_i h
      rw [fi_iff]
      constructor
      · rintro ⟨j,h1,h2,h3⟩; exact ⟨j,by omega,by omega,h3⟩
      · rintro ⟨j,h1,h2,h3⟩
        by_cases e:j=k
        · subst e; exact (h h3).elim
        · exact ⟨j,by omega,by omega,h3⟩
theorem fi_val {p:Nat→Bool}: ∀ {n k:Nat},0≤fi p k n→k≤(fi p k n).toNat∧(fi p k n).toNat < k+n∧p (fi p k n).toNat=true∧ ∀ j,k≤j→j < (fi p k n).toNat→p j=false
  |0,k=>by simp [fi]
  | n + 1, k => by
    simp only [fi]
    split
    · rename_i h; intro _; simp only [Int.toNat_natCast]; exact ⟨by omega,by omega,h,fun j h1 h2=>by omega⟩
    · rename_i h
      intro h0
      obtain ⟨h1,h2,h3,h4⟩:=fi_val h0
      refine ⟨by omega,by omega,h3,fun j g1 g2=>?_⟩
      by_cases e:j=k
      · subst e; simpa using h
      · exact h4 j (by omega) g2
structure OK (o:Ob):Prop where
  hi:1≤o.i∧o.i≤64
  len:o.tr.length≤10000
  pr: ∀ k,k < o.tr.length→Proper (nth o.tr k) o.i∧0 < (nth o.tr k).ni.length
  ord: ∀ k,k+1 < o.tr.length→slx (nth o.tr k).ni (nth o.tr (k+1)).ni < 0
  pre: ∀ i k,i < k→k < o.tr.length→hp (nth o.tr k).ni (nth o.tr i).ni=false
  cla: ∀ i k,i < k→k < o.tr.length→df (nth o.tr i) (nth o.tr k) < 0
def lngE (o:Ob) (k:Nat):Int:=if 100 < (nth o.tr k).ni.length∨100 < (nth o.tr k).no.length then 1 else 0
def ogr (o:Ob):Prop:=60 < o.tr.length∨fe (lngE o) 0 o.tr.length≠0
instance (o:Ob):Decidable (ogr o):=inferInstanceAs (Decidable (_∨_))
end Go.Proofs.Ytdmcmkccifmofaa
namespace Go.Proofs.Ytdmcmkccifmofaa
open Go
section
variable {P:Program} {T:Nat→V} {H:Heap}
theorem resV_t {t:Nat} {u:V} (h:T t=u):resV T H (.tmp t)=some u:=by rw [← h]; rfl
theorem resV_c {t m id ver row off:Nat} {g:Bool} {u:V} {B:Blk} (ha:T t=.mp id ver row off) (hH:H id=B) (hl:ldB g m B ver row off=some u):resV T H (.cell t g m)=some u:=by
  subst hH
  simp only [resV,ha,ptr]
  unfold ldB at hl
  split at hl
  · rename_i hc
    rw [if_pos (show ok H id ver=true from hc)]
    cases hr:(H id).rows[row]? with
    |none=>rw [hr] at hl; cases hl
    |some w=>rw [hr] at hl; exact hl
  · cases hl
theorem RetC_1 {s1:SRes} {u v:V} {n:Nat} (h1:resV T H s1=some u) (h2:fzv true H n u=v):Ret [s1] (fun u G=>fzv true G n u=v) .ret T H:=by
  simp only [Ret,resT,mapO,h1,onS_some]; exact h2
theorem RetC_2 {s1 s2:SRes} {u1 u2 v1 v2:V} {n:Nat} (h1:resV T H s1=some u1) (h2:resV T H s2=some u2) (g1:fzv true H n u1=v1) (g2:fzv true H n u2=v2):Ret [s1,s2] (fun u G=>fzv true G (n+1) u=.tup [v1,v2]) .ret T H:=by
  simp only [Ret,resT,mapO,h1,h2,onS_some,fzv,List.map_cons,List.map_nil,g1,g2]
theorem fz_agg3 {n:Nat} {u1 u2 u3 v1 v2 v3:V} (g1:fzv true H n u1=v1) (g2:fzv true H n u2=v2) (g3:fzv true H n u3=v3):fzv true H (n+1) (.agg [u1,u2,u3])=.agg [v1,v2,v3]:=by
  simp only [fzv,List.map_cons,List.map_nil,g1,g2,g3]
end
end Go.Proofs.Ytdmcmkccifmofaa
namespace Go.Proofs.Ytdmcmkccifmofaa
open Go
def FinB (b b':Blk):Prop:=b.ver≤b'.ver∧(b'.live=false∨b'={b with ver:=b'.ver})
def FinH (H H':Heap):Prop:= ∀ j,FinB (H j) (H' j)
def FinX (S:List Nat) (H H':Heap):Prop:= ∀ j,j∉S→FinB (H j) (H' j)
theorem FinB.refl (b:Blk):FinB b b:=⟨Nat.le_refl _,.inr rfl⟩
theorem FinX.start {S:List Nat} {H Hi:Heap} (h: ∀ j,j∉S→H j=Hi j):FinX S H Hi:=fun j hj=>by rw [h j hj]; exact .refl _
theorem FinX.put {S:List Nat} {H H':Heap} {i:Nat} {b B:Blk} (h:FinX (i::S) H H') (hi:H i=b) (hB:FinB b B):FinX S H (upd H' i B):=fun j hj=>by
  by_cases e:j=i
  · subst e; rw [upd_same,hi]; exact hB
  · rw [upd_ne _ _ e]; exact h j (by simp [e,hj])
theorem FinX.fin {H H':Heap} (h:FinX [] H H'):FinH H H':=fun j=>h j (by simp)
theorem FinB.gone {b B:Blk} (h:b.ver≤B.ver) (hd:B.live=false):FinB b B:=⟨h,.inl hd⟩
theorem FinB.own {b b':Blk} (h:FinB b b') (ho:b'.own=true):b'={b with ver:=b'.ver}∧b.own=true:=by
  rcases h.2 with h1|h1
  · have:=own_live ho; rw [h1] at this; cases this
  · refine ⟨h1,?_⟩
    rw [h1] at ho; exact ho
def finC (x:Cx) (H':Heap):Cx:={x with Z:=fun b=>x.Z b∨ ∃ j,(x.H j).own=true∧(H' j).live=false∧b=x.σ j,H:=H'}
theorem fin_step {x : Cx} (hx : Inv x) {H' : Heap} (h : FinH x.H H') : Inv (finC x H') ∧ Frame x (finC x H') := by
  generalize hy:finC x H'=y
  have ew:y.w=x.w:=by rw [← hy]; rfl
  have eh:y.H=H':=by rw [← hy]; rfl
  have es:y.σ=x.σ:=by rw [← hy]; rfl
  have ez: ∀ b,y.Z b↔x.Z b∨ ∃ j,(x.H j).own=true∧(H' j).live=false∧b=x.σ j:=fun b=>by rw [← hy]; exact Iff.rfl
  have hf:Frame x y:=by
    refine ⟨by rw [ew],by rw [ew],by rw [ew],by rw [ew]; exact Nat.le_refl _,fun _ _ _=>by rw [ew],fun b h=>(ez b).2 (.inl h),fun b hb=>?_,fun i=>?_,fun i ho=>?_,by rw [ew]; exact Nat.le_refl _⟩
    · rcases (ez b).1 hb with h1|⟨j,h1,_,h3⟩
      · exact .inl h1
      · exact .inr (.inr ⟨j,h1,h3.symm⟩)
    rotate_left
    · rw [eh] at ho; rw [es]; exact .inl ⟨((h i).own ho).2,rfl⟩
    rw [eh,es,ew]
    refine ⟨(h i).1,fun hl hv=>?_⟩
    have e:H' i=x.H i:=by
      rcases (h i).2 with h1|h1
      · have:(H' i).live=true:=hl
        rw [h1] at this; cases this
      · rw [h1]; show ({x.H i with ver:=(H' i).ver}:Blk)=x.H i; rw [show (H' i).ver=(x.H i).ver from hv]
    simp only [e]
    have hl':(x.H i).live=true:=by rw [← e]; exact hl
    exact ⟨hl',trivial,trivial,trivial,fun _=>⟨trivial,trivial⟩⟩
  refine ⟨⟨fun b hb=>?_,fun b i hb ho=>?_,fun i ho=>?_,fun i j hi hj he=>?_⟩,hf⟩
  · rw [ew]
    rcases (ez b).1 hb with h1|⟨j,h1,_,h3⟩
    · exact hx.zlt b h1
    · rw [h3]; exact hx.lt h1
  · rw [eh] at ho; rw [es]
    have ho':=((h i).own ho).2
    rcases (ez b).1 hb with h1|⟨j,h1,h2,h3⟩
    · exact hx.zown b i h1 ho'
    · intro q
      have:=hx.inj i j ho' h1 (q.trans h3)
      subst this
      have:=own_live ho; rw [h2] at this; cases this
  rotate_left
  · rw [eh] at hi hj; rw [es] at he
    exact hx.inj i j ((h i).own hi).2 ((h j).own hj).2 he
  rw [eh] at ho
  obtain ⟨e,ho'⟩:=(h i).own ho
  obtain ⟨dd,h1,h2,h3,h4⟩:=hx.blk i ho'
  have e1:(y.H i).rows=(x.H i).rows:=by rw [eh,e]
  have e2:(y.H i).sz=(x.H i).sz:=by rw [eh,e]
  have e3:(y.H i).ty=(x.H i).ty:=by rw [eh,e]
  rw [e1,e2,e3,ew,es]
  exact ⟨dd,h1,h2,h3,fun r row j v hr hj=>(h4 r row j v hr hj).frame hx hf⟩
def FinV (H H':Heap) (v v':V):Prop:= ∀ (x:Cx) (c:Value),x.H=H→Inv x→R x v c→R (finC x H') v' c
theorem FinV.same {H H':Heap} (h:FinH H H') (v:V):FinV H H' v v:=fun x c e hx r=>by
  subst e; exact r.frame hx (fin_step hx h).2
theorem FinV.nil {H H':Heap}:FinV H H' .nilsl (.sl []):=fun x c e hx r=>by
  cases r; exact .slnil
theorem FinV.ms {H H':Heap} (h:FinH H H') {id ver n off len:Nat} (hl:(H id).live=true) (hv:(H id).ver=ver) (hl':(H' id).live=true) (hv':(H' id).ver=n):FinV H H' (.ms id ver off len) (.ms id n off len):=fun x c e hx r=>by
  subst e
  have e:H' id={x.H id with ver:=n}:=by
    rcases (h id).2 with h1|h1
    · rw [h1] at hl'; cases hl'
    · rw [hv'] at h1; exact h1
  cases r with
  | ms id ver off len b m cap hv1 hh =>
    refine .ms _ _ _ _ _ _ _ (by rw [show (finC x H').H id=H' id from rfl,hv']; exact Nat.le_refl _) fun _ _=>?_
    have:=hh hv hl
    simp only [finC,e]
    exact this
theorem FinV.frz {H H' : Heap} (h : FinH H H') {id ver len : Nat} {rows : List (List V)} (hl : (H id).live = true) (hv : (H id).ver = ver) (hd : (H' id).live = false) (hr : (H id).rows.take len = rows) : FinV H H' (.ms id ver 0 len) (.sl rows) := fun x c e hx r => by
  subst e
  have hf:=(fin_step hx h).2
  subst hr
  cases r with
  | ms id ver off len b m cap hv1 hh =>
    obtain ⟨e1,e2,e3,e4,e5,e6⟩:=hh hv hl
    subst e1
    rw [Nat.zero_add] at e4
    have hlen:((x.H id).rows.take m).length=m:=by simp; omega
    cases ho:(x.H id).own with
    | false =>
      have e8:=e6 ho
      have hm:m=0:=by omega
      subst hm; subst e8
      simpa using R.sl0 _
    | true =>
      obtain ⟨e7,e8⟩:=e5 ho
      subst e7
      obtain ⟨cc,h1,h2,h3,h4⟩:=hx.blk id ho
      have hidx: ∀ (r:Nat) (row:List V),((x.H id).rows.take m)[r]?=some row→(x.H id).rows[r]?=some row:=by
        intro r row hr
        simp only [List.getElem?_take] at hr
        split at hr
        · exact hr
        · cases hr
      have key:=R.sl (x:=finC x H') ((x.H id).rows.take m) ⟨x.σ id,0,none⟩ cap (x.H id).sz
        (fun k=>cc.getD k undef) (by omega) e3 (fun _=>.inr ⟨id,ho,hd,rfl⟩)
        (fun r hr=>h2 r (List.mem_of_mem_take hr))
        (fun r row q v hr hj=>by
          have h8:=hidx _ _ hr
          have h9:=(row_lt h2 h3 h8 hj).1
          rw [Addr.add_lit]
          show x.w.cell? _=_
          rw [own_cell h1 (by omega)]
          simp)
        (fun r row q v hr hj=>(h4 _ _ _ _ (hidx _ _ hr) hj).frame hx hf)
      rw [hlen] at key
      simpa using key
theorem FinV.tup2 {H H':Heap} {a b a' b':V} (h1:FinV H H' a a') (h2:FinV H H' b b'):FinV H H' (.tup [a,b]) (.tup [a',b']):=fun x c e hx r=>by
  cases r with
  | tup vs cs hs hr =>
    refine .tup _ cs (by simpa using hs) fun j v hj=>?_
    match j,hj with
    |0,hj=>cases hj; exact h1 x _ e hx (hr 0 a rfl)
    |1,hj=>cases hj; exact h2 x _ e hx (hr 1 b rfl)
    |n+2,hj=>simp at hj
section
variable {P:Program} {op:Opt} {k0:Nat}
variable {T:Nat→V} {H H':Heap}
end
end Go.Proofs.Ytdmcmkccifmofaa
namespace Go.Proofs.Ytdmcmkccifmofaa
open Go
section
variable {P:Program} {k0:Nat} {K:(Nat→V)→Heap→Prop} {T:Nat→V} {H:Heap} {r:List SO} {d:Nat} {a b c:SX} {v u:V}
theorem putAt_full: ∀ (vs p r:List V),r.length=vs.length→putAt (p++r) p.length vs=p++vs
  | [], p, r, h => by cases r with
    |nil=>rfl
    |cons a r=>simp at h
  | v :: vs, p, r, h => by
    cases r with
    |nil=>simp at h
    | cons a r =>
      have e:(p++a::r).set p.length v=(p++[v])++r:=by simp
      rw [putAt,e,show p.length+1=(p++[v]).length by simp,putAt_full vs (p++[v]) r (by simpa using h)]
      simp
theorem stB_map {α:Type} [Inhabited α] {n ver ty sz i:Nat} {lz:Bool} {f:α→List V} {l:List α} {vs:List V} {x:α} (h:i < l.length) (hv:vs=f x) (hn:vs.length=n) (hs:(f (nth l i)).length=n) (ho:vs.all V.one=true):
    stB ⟨ver,true,lz,ty,sz,l.map f⟩ ver i 0 n vs=some ⟨ver,true,lz,ty,sz,(l.set i x).map f⟩:=by
  subst hv
  unfold stB
  rw [if_pos (okB_map (by omega)),if_pos hn,if_pos ho]
  simp only [List.getElem?_map,nth_eq h,Option.map_some]
  rw [if_pos (by omega)]
  have:=putAt_full (f x) [] (f (nth l i)) (by omega)
  simp only [List.nil_append,List.length_nil] at this
  rw [this,List.map_set]
theorem R_idxI_ms0 {e id ver len:Nat} {i:Int} {B:Blk} {k:IntKind} (ha:ev T a=.ms id ver 0 len) (hb:ev T b=.int k i) (hH:H id=B) (hok:okB B ver=true) (hs:B.sz=e) (h0:0≤i) (hi:i < len)
    (h:Ops P k0 r (upd T d (.mp id ver i.toNat 0)) H K):Ops P k0 (⟨none,some d,.idx e a b⟩::r) T H K:=
  R_idxI_ms ha hb hH hok hs h0 hi (by rw [Nat.zero_add]; exact h)
theorem R_mksm {α:Type} {ty e bytes i n:Nat} {z:List V} {f:α→List V} {x:α} {m q:Nat} (hi:k0+d=i) (hv:(H i).ver=n) (ha:ev T a=iV (m:Nat)) (hb:ev T b=iV (q:Nat)) (hz:z=f x) (h1:m≤q) (h2:q*bytes≤281474976710656) (h3:q≤9223372036854775807)
    (h:Ops P k0 r (upd T d (.ms i (n+1) 0 m)) (upd H i ⟨n+1,true,false,ty,e,(List.replicate m x).map f⟩) K):Ops P k0 (⟨none,some d,.mks ty e bytes z a b⟩::r) T H K:=
  R_mks hi hv ha hb h1 h2 h3 (by rw [List.map_replicate,← hz] at h; exact h)
theorem kill_self {id n:Nat} (h:(H id).ver=n):(kill id H id).ver=n∧(kill id H id).live=false:=by subst h; simp [kill]
theorem fz_mst {α:Type} {n id ver len:Nat} {B:Blk} {f:α→List V} {l:List α} (hH:H id=B) (hok:(B.live&&decide (B.ver=ver))=true) (hr:B.rows.take len=l.map f) (hc: ∀ a,canonL (f a)=true):
    fzv true H (n+1) (.ms id ver 0 len)=.sl (l.map f):=by
  subst hH
  simp only [fzv]
  rw [if_pos hok,List.drop_zero,hr]
  congr 1
  rw [List.map_map]
  refine List.map_congr_left fun a _=>fzv_mapcanon n _ (hc a)
theorem take_map {α:Type} {len:Nat} {f:α→List V} {l:List α} (h:len=l.length):(l.map f).take len=l.map f:=by
  subst h; rw [show l.length=(l.map f).length by simp,List.take_length]
end
theorem fz_agg1 {H:Heap} {n:Nat} {u1 v1:V} (g1:fzv true H n u1=v1):fzv true H (n+1) (.agg [u1])=.agg [v1]:=by
  simp only [fzv,List.map_cons,List.map_nil,g1]
end Go.Proofs.Ytdmcmkccifmofaa
namespace Go.Proofs.Ytdmcmkccifmofaa
open Go
abbrev sO (d:Nat) (x:X):SO:=⟨none,some d,x⟩
abbrev qM (d a:Nat):SO:=sO d (.mv (.t a))
abbrev qI (d:Nat) (n:Int):SO:=sO d (.mv (.c (.int .i64 n)))
abbrev qF (d n a:Nat):SO:=sO d (.fld n (.t a))
abbrev qL (d n a:Nat):SO:=sO d (.load true n (.t a))
abbrev ql (d a:Nat):SO:=sO d (.load false 1 (.t a))
abbrev qE (d a i:Nat):SO:=sO d (.ext (.t a) i)
abbrev qA (d e a i:Nat):SO:=sO d (.idx e (.t a) (.t i))
abbrev qN (d a:Nat):SO:=sO d (.len (.t a))
abbrev qP (d:Nat) (b:BinOp) (x y:Nat):SO:=sO d (.bin b (.t x) (.t y))
abbrev qC (d:Nat) (b:BinOp) (x:Nat) (n:Int):SO:=sO d (.bin b (.t x) (.c (.int .i64 n)))
abbrev sN (x:X):SO:=⟨none,none,x⟩
abbrev bk (v:Nat) (ty sz:Nat) (rows:List (List V)):Blk:=⟨v,true,false,ty,sz,rows⟩
abbrev bz (v:Nat) (ty sz:Nat) (rows:List (List V)):Blk:=⟨v,true,true,ty,sz,rows⟩
section
variable {P:Program} {k0 d:Nat} {r:List SO} {T:Nat→V} {H:Heap} {K:(Nat→V)→Heap→Prop} {a b:SX} {v:V}
theorem R_callc {f:Nat} {args:List SX} {as0:List V} (he:evs T args=as0) (hc:PureC P f as0 v) (h:Ops P k0 r (upd T d v) H K)
    (h1:canonL as0=true:=by simp [-List.map_take,-List.map_drop,-List.map_append,-List.map_reverse]) (h2:pureL as0=true:=by simp [-List.map_take,-List.map_drop,-List.map_append,-List.map_reverse]):
    Ops P k0 (⟨none,some d,.call false f args⟩::r) T H K:=R_call he hc (fzv_mapcanon _ _ h1) h2 (.inl h2) h
theorem R_callk {f:Nat} {args:List SX} {as0:List V} (hc:PureC P f as0 v) (he:evs T args=as0) (h:Ops P k0 r (upd T d v) H K)
    (h1:canonL as0=true:=by simp [-List.map_take,-List.map_drop,-List.map_append,-List.map_reverse]) (h2:pureL as0=true:=by simp [-List.map_take,-List.map_drop,-List.map_append,-List.map_reverse]):
    Ops P k0 (⟨none,some d,.call false f args⟩::r) T H K:=R_call he hc (fzv_mapcanon _ _ h1) h2 (.inl h2) h
end
end Go.Proofs.Ytdmcmkccifmofaa
namespace Go.Proofs.Ytdmcmkccifmofaa
open Go
section
variable {P:Program} {k0:Nat} {Q:Ex→(Nat→V)→Heap→Prop} {T:Nat→V} {H:Heap}
theorem W_r {ops:List SO} {b:SC} (h:Ops P k0 ops T H fun T H=>W P k0 b Q T H):W P k0 (.seq (.reg ops) b) Q T H:=
  ⟨k0,Ops_mono (fun _ _ h=>.done h) h⟩
theorem W_t {ops:List SO} (h:Ops P k0 ops T H fun T H=>Q .norm T H):W P k0 (.reg ops) Q T H:=⟨k0,h⟩
theorem W_d {ops:List SO} {b:SC} {late:List Nat} (hl: ∀ d∈late,(H (k0+d)).live=false) (h:Ops P k0 ops T H fun T H=>W P k0 b Q T H):W P k0 (.seq (.dreg late ops) b) Q T H:=
  ⟨k0,hl,Ops_mono (fun _ _ h=>.done h) h⟩
end
theorem lateN {H:Heap} {k0:Nat}: ∀ d∈([]:List Nat),(H (k0+d)).live=false:=fun _ h=>by simp at h
theorem lateC {H:Heap} {k0 d:Nat} {l:List Nat} (h:(H (k0+d)).live=false) (hl: ∀ d∈l,(H (k0+d)).live=false): ∀ x∈d::l,(H (k0+x)).live=false:=by
  intro x hx
  rcases List.mem_cons.1 hx with rfl|hx
  · exact h
  · exact hl _ hx
theorem oB {ver ty sz:Nat} {rows:List (List V)}:okB ⟨ver,true,false,ty,sz,rows⟩ ver=true:=by simp [okB,Blk.own]
theorem lB {agg:Bool} {n ver row off:Nat} {B:Blk} {r:List V} {v:V} (ho:okB B ver=true) (hr:B.rows[row]?=some r) (hv:ldV agg n (r.drop off)=some v):ldB agg n B ver row off=some v:=by
  unfold ldB; rw [if_pos (show (B.own&&decide (B.ver=ver))=true from ho),hr]; exact hv
theorem sB {n ver row off:Nat} {B B':Blk} {r vs:List V} (ho:okB B ver=true) (hn:vs.length=n) (ha:vs.all V.one=true) (hr:B.rows[row]?=some r) (hl:Nat.ble (off+n) r.length=true) (hB:{B with rows:=B.rows.set row (putAt r off vs)}=B'):stB B ver row off n vs=some B':=by
  unfold stB; rw [if_pos ho,if_pos hn,if_pos ha,hr]; dsimp only; rw [if_pos (Nat.le_of_ble_eq_true hl),hB]
section
variable {P:Program} {k0 d:Nat} {r:List SO} {T:Nat→V} {H:Heap} {K:(Nat→V)→Heap→Prop} {a b:SX} {v:V}
theorem R_lk {agg:Bool} {n id ver row off ty sz:Nat} {rows:List (List V)} {rw:List V} (ha:ev T a=.mp id ver row off) (hH:H id=⟨ver,true,false,ty,sz,rows⟩) (hr:rows[row]?=some rw) (hv:ldV agg n (rw.drop off)=some v) (h:Ops P k0 r (upd T d v) H K):
    Ops P k0 (⟨none,some d,.load agg n a⟩::r) T H K:=R_load_mp ha hH (lB oB hr hv) h
theorem R_fk {off id ver row o ty sz:Nat} {rows:List (List V)} (ha:ev T a=.mp id ver row o) (hH:H id=⟨ver,true,false,ty,sz,rows⟩) (h:Ops P k0 r (upd T d (.mp id ver row (o+off))) H K):Ops P k0 (⟨none,some d,.fld off a⟩::r) T H K:=
  R_fld_mp ha hH oB rfl h
theorem R_sk {n id ver row off ty sz:Nat} {rows:List (List V)} {B':Blk} {rw vs:List V} (ha:ev T a=.mp id ver row off) (hb:ev T b=v) (hc:v.cells=vs) (hH:H id=⟨ver,true,false,ty,sz,rows⟩) (hn:vs.length=n) (hl:vs.all V.one=true) (hr:rows[row]?=some rw)
    (hm:Nat.ble (off+n) rw.length=true) (hB:(⟨ver,true,false,ty,sz,rows.set row (putAt rw off vs)⟩:Blk)=B') (h:Ops P k0 r T (upd H id B') K):Ops P k0 (⟨none,none,.store n a b⟩::r) T H K:=
  R_store ha hb hc hH (sB oB hn hl hr hm hB) h
end
theorem R_e {P:Program} {k0:Nat} {T:Nat→V} {H:Heap} {K:(Nat→V)→Heap→Prop} (h:K T H):Ops P k0 [] T H K:=h
end Go.Proofs.Ytdmcmkccifmofaa
namespace Go.Proofs.Ytdmcmkccifmofaa
open Go
theorem pW {P:Program} {op:Opt} {f:Nat} {fn:Func} {s:SF} {args:List V} {v:V} {B:Prop} (hf:P.funcs[f]?=some fn) (hs:slimF P op fn=some s)
    (hW : B → W P 0 s.body (Ret s.res fun u G => fzv true G 6 u = v) (T0 args) H0) (hn : (fn.name == "runtime.NumGoroutine") = false := by kernel_rfl)
    (hl:Nat.ble args.length s.n=true:=by rfl) (ha:pureL args=true:=by simp) (hv:v.pure=true:=by simp)
    (hb:bndL args=true→B:=by intro hB; first|(simp only [bnd_map,bnd_int,bnd_bool,bnd_str,bnd_agg,bnd_pp,bnd_nil,bnd_cons,implies_true,and_true,true_and] at hB; exact hB)|exact (fun _=>trivial) hB):PureC P f args v:=
  pure_of_Wb true 6 hf hs hn (Nat.le_of_ble_eq_true hl) ha hv fun h=>hW (hb h)
theorem edT {x:V} {p:Prop} [Decidable p] (h:p) (hx:x=V.bool (decide p)):x=V.bool true:=by rw [hx]; simp [h]
theorem edF {x:V} {p:Prop} [Decidable p] (h: ¬p) (hx:x=V.bool (decide p)):x=V.bool false:=by rw [hx]; simp [h]
theorem ebT {x:V} {b:Bool} (h:b=true) (hx:x=V.bool b):x=V.bool true:=by rw [hx,h]
theorem ebF {x:V} {b:Bool} (h: ¬b=true) (hx:x=V.bool b):x=V.bool false:=by rw [hx,Bool.eq_false_iff.2 h]
theorem G_n {P:Program} {k0 d t:Nat} {r:List SO} {T:Nat→V} {H:Heap} {K:(Nat→V)→Heap→Prop} {w:Bool} {q:X} (ht:T t=.bool (!w)) (h:Ops P k0 r (upd T d (.raw undef)) H K):
    Ops P k0 (⟨some (t,w),some d,q⟩::r) T H K:=G_no ht (by cases w <;> decide) h
section
variable {P:Program} {k0 d:Nat} {r:List SO} {T:Nat→V} {H:Heap} {K:(Nat→V)→Heap→Prop} {a b:SX} {x y x' y':Int}
end
section
variable {P:Program} {k0 d:Nat} {r:List SO} {T:Nat→V} {H:Heap} {K:(Nat→V)→Heap→Prop} {a b:SX} {u w v:V}
end
section
variable {P:Program} {k0:Nat} {Q:Ex→(Nat→V)→Heap→Prop} {T:Nat→V} {H:Heap}
end
end Go.Proofs.Ytdmcmkccifmofaa
namespace Go.Proofs.Ytdmcmkccifmofaa
open Go
def ren0 (ρ:Nat→Nat):V→V
  | .mp id ver r o=>.mp (ρ id) ver r o
  | .ms id ver o l=>.ms (ρ id) ver o l
  |v=>v
def ren (ρ:Nat→Nat):V→V
  | .fn f a b=>.fn f (a.map (ren0 ρ)) (b.map (ren0 ρ))
  |v=>ren0 ρ v
def loc0 (n:Nat):V→Bool
  | .mp id _ _ _=>decide (id < n)
  | .ms id _ _ _=>decide (id < n)
  |v=>v.pure
def loc (n:Nat):V→Bool
  | .fn _ a b=>a.all (loc0 n)&&b.all (loc0 n)
  |v=>loc0 n v
def renB (ρ:Nat→Nat) (b:Blk):Blk:={b with rows:=b.rows.map fun r=>r.map (ren0 ρ)}
def locB (n:Nat) (b:Blk):Bool:=b.rows.all fun r=>r.all (loc0 n)
theorem renB_own {ρ:Nat→Nat} {b:Blk}:(renB ρ b).own=b.own:=by simp [renB,Blk.own]
structure View (n:Nat) (ρ:Nat→Nat) (x z:Cx):Prop where
  w:z.w=x.w
  Z: ∀ b,x.Z b→z.Z b
  H: ∀ i,i < n→z.H (ρ i)=renB ρ (x.H i)
  σ: ∀ i,i < n→z.σ (ρ i)=x.σ i
theorem ren0_R {n:Nat} {ρ:Nat→Nat} {x z:Cx} (hv:View n ρ x z) {v:V} {c:Value} (hl:loc0 n v=true) (h:R x v c):R z (ren0 ρ v) c:=by
  cases v with
  | mp id ver row off =>
    simp only [loc0,decide_eq_true_eq] at hl
    cases h with
    |mp _ _ _ _ p hver hh=>
    refine .mp _ _ _ _ _ (by rw [hv.H id hl]; exact hver) fun e ho=>?_
    rw [hv.H id hl] at e ho
    rw [renB_own] at ho
    rw [hh e ho,hv.σ id hl,hv.H id hl]; rfl
  | ms id ver off len =>
    simp only [loc0,decide_eq_true_eq] at hl
    cases h with
    |ms _ _ _ _ b m cap hver hh=>
    refine .ms _ _ _ _ _ _ _ (by rw [hv.H id hl]; exact hver) fun e ho=>?_
    rw [hv.H id hl] at e ho
    obtain ⟨e1,e2,e3,e4,e5,e6⟩:=hh e ho
    refine ⟨e1,e2,e3,by rw [hv.H id hl]; simpa [renB] using e4,fun q=>?_,fun q=>?_⟩
    · rw [hv.H id hl,renB_own] at q
      rw [hv.σ id hl,hv.H id hl,hv.w]
      exact e5 q
    · rw [hv.H id hl,renB_own] at q
      exact e6 q
  |_=>exact h.pure_at hl hv.w hv.Z
theorem ren0_R' {n:Nat} {ρ:Nat→Nat} {x z:Cx} (hv:View n ρ x z) (hZ: ∀ b,z.Z b→x.Z b) {v:V} {c:Value} (hl:loc0 n v=true) (h:R z (ren0 ρ v) c):R x v c:=by
  cases v with
  | mp id ver row off =>
    simp only [loc0,decide_eq_true_eq] at hl
    cases h with
    |mp _ _ _ _ p hver hh=>
    rw [hv.H id hl] at hver hh
    refine .mp _ _ _ _ _ hver fun e ho=>?_
    rw [hh e (by rw [renB_own]; exact ho),hv.σ id hl]; rfl
  | ms id ver off len =>
    simp only [loc0,decide_eq_true_eq] at hl
    cases h with
    |ms _ _ _ _ b m cap hver hh=>
    rw [hv.H id hl] at hver hh
    refine .ms _ _ _ _ _ _ _ hver fun e ho=>?_
    obtain ⟨e1,e2,e3,e4,e5,e6⟩:=hh e ho
    refine ⟨e1,e2,e3,by simpa [renB] using e4,fun q=>?_,fun q=>?_⟩
    · have:=e5 (by rw [renB_own]; exact q)
      rw [hv.σ id hl,hv.w] at this
      exact this
    · exact e6 (by rw [renB_own]; exact q)
  |_=>exact R.pure_at h hl hv.w.symm hZ
theorem ren_R' {n:Nat} {ρ:Nat→Nat} {x z:Cx} (hv:View n ρ x z) (hZ: ∀ b,z.Z b→x.Z b) {v:V} {c:Value} (hl:loc n v=true) (h:R z (ren ρ v) c):R x v c:=by
  cases v with
  | fn f a b =>
    simp only [loc,Bool.and_eq_true,List.all_eq_true] at hl
    cases h with
    |fn _ _ _ fs cs h1 h2 h3 h4=>
    refine .fn f a b fs cs (by simpa using h1) (by simpa using h2) (fun j v hj=>?_) (fun j v hj=>?_)
    · exact ren0_R' hv hZ (hl.1 v (List.mem_of_getElem? hj)) (h3 j _ (by rw [List.getElem?_map,hj]; rfl))
    · exact ren0_R' hv hZ (hl.2 v (List.mem_of_getElem? hj)) (h4 j _ (by rw [List.getElem?_map,hj]; rfl))
  |_=>exact ren0_R' hv hZ hl h
def putL (ρ:Nat→Nat) (HL:Heap) (H:Heap):Nat→Heap
  |0=>H
  |n+1=>upd (putL ρ HL H n) (ρ n) (renB ρ (HL n))
def putS (ρ:Nat→Nat) (s σ:Nat→Nat):Nat→Nat→Nat
  |0=>σ
  |n+1=>upd (putS ρ s σ n) (ρ n) (s n)
theorem putL_at {ρ:Nat→Nat} {HL H:Heap}: ∀ {n:Nat},(∀ i j,i < n→j < n→ρ i=ρ j→i=j)→ ∀ i,i < n→putL ρ HL H n (ρ i)=renB ρ (HL i)
  |0,_,i,h=>absurd h (Nat.not_lt_zero i)
  | n + 1, hi, i, h => by
    simp only [putL]
    by_cases e:i=n
    · subst e; rw [upd_same]
    · rw [upd_ne _ _ (fun q=>e (hi i n h (Nat.lt_succ_self n) q))]
      exact putL_at (fun i j h1 h2=>hi i j (by omega) (by omega)) i (by omega)
theorem putL_ne {ρ:Nat→Nat} {HL H:Heap}: ∀ {n j:Nat},(∀ i,i < n→ρ i≠j)→putL ρ HL H n j=H j
  |0,_,_=>rfl
  | n + 1, j, h => by
    simp only [putL]
    rw [upd_ne _ _ (Ne.symm (h n (Nat.lt_succ_self n)))]
    exact putL_ne fun i hi=>h i (by omega)
theorem putS_at {ρ s σ:Nat→Nat}: ∀ {n:Nat},(∀ i j,i < n→j < n→ρ i=ρ j→i=j)→ ∀ i,i < n→putS ρ s σ n (ρ i)=s i
  |0,_,i,h=>absurd h (Nat.not_lt_zero i)
  | n + 1, hi, i, h => by
    simp only [putS]
    by_cases e:i=n
    · subst e; rw [upd_same]
    · rw [upd_ne _ _ (fun q=>e (hi i n h (Nat.lt_succ_self n) q))]
      exact putS_at (fun i j h1 h2=>hi i j (by omega) (by omega)) i (by omega)
theorem putS_ne {ρ s σ:Nat→Nat}: ∀ {n j:Nat},(∀ i,i < n→ρ i≠j)→putS ρ s σ n j=σ j
  |0,_,_=>rfl
  | n + 1, j, h => by
    simp only [putS]
    rw [upd_ne _ _ (Ne.symm (h n (Nat.lt_succ_self n)))]
    exact putS_ne fun i hi=>h i (by omega)
section
variable {n:Nat} {ρ:Nat→Nat} {Hl:Heap} {x:Cx}
def startL (x:Cx) (ρ:Nat→Nat) (Hl:Heap):Cx:={w:=x.w,Z:=x.Z,σ:=fun i=>x.σ (ρ i),H:=Hl}
theorem startL_view (hH: ∀ i,i < n→x.H (ρ i)=renB ρ (Hl i)):View n ρ (startL x ρ Hl) x:=⟨rfl,fun _ h=>h,hH,fun _ _=>rfl⟩
theorem startL_ok (hx:Inv x) (hρ: ∀ i j,i < n→j < n→ρ i=ρ j→i=j) (hH: ∀ i,i < n→x.H (ρ i)=renB ρ (Hl i)) (hloc: ∀ i,i < n→locB n (Hl i)=true) (hd: ∀ i,n≤i→(Hl i).own=false):Inv (startL x ρ Hl):=by
  have lt: ∀ i,(Hl i).own=true→i < n:=fun i h=>by
    rcases Nat.lt_or_ge i n with q|q
    · exact q
    · rw [hd i q] at h; cases h
  have ow: ∀ i,(Hl i).own=true→(x.H (ρ i)).own=true:=fun i h=>by rw [hH i (lt i h),renB_own]; exact h
  refine ⟨hx.zlt,fun b id hb ho=>hx.zown b (ρ id) hb (ow id ho),fun id ho=>?_,fun i j hi hj he=>hρ i j (lt i hi) (lt j hj) (hx.inj _ _ (ow i hi) (ow j hj) he)⟩
  obtain ⟨cc,h1,h2,h3,h4⟩:=hx.blk (ρ id) (ow id ho)
  have e:=hH id (lt id ho)
  rw [e] at h1 h2 h3 h4
  refine ⟨cc,h1,fun r hr=>?_,by simpa [renB,startL] using h3,fun r row j v hr hj=>?_⟩
  · have:=h2 (r.map (ren0 ρ)) (by simp only [renB]; exact List.mem_map_of_mem hr)
    simpa [renB,startL] using this
  · have h5:=h4 r (row.map (ren0 ρ)) j (ren0 ρ v) (by simp only [renB]; rw [List.getElem?_map,show (Hl id).rows[r]?=some row from hr]; rfl) (by rw [List.getElem?_map,hj]; rfl)
    refine ren0_R' (startL_view hH) (fun _ h=>h) ?_ h5
    have:=hloc id (lt id ho)
    simp only [locB,List.all_eq_true] at this
    exact this row (List.mem_of_getElem? hr) v (List.mem_of_getElem? hj)
theorem backL (hx : Inv x) (hρ : ∀ i j, i < n → j < n → ρ i = ρ j → i = j) (hH : ∀ i, i < n → x.H (ρ i) = renB ρ (Hl i)) (hd : ∀ i, n ≤ i → (Hl i).own = false) {y : Cx} (hf : Frame (startL x ρ Hl) y) (hy : Inv y)
    (hloc: ∀ i,i < n→(y.H i).own=true→locB n (y.H i)=true) (_hyd: ∀ i,n≤i→(y.H i).own=false):
    let z:Cx:={w:=y.w,Z:=y.Z,σ:=putS ρ y.σ x.σ n,H:=putL ρ y.H x.H n}
    Inv z∧Frame x z∧View n ρ y z:=by
  intro z
  have hv:View n ρ y z:=⟨rfl,fun _ h=>h,fun i hi=>putL_at hρ i hi,fun i hi=>putS_at hρ i hi⟩
  have cas: ∀ j,(∃ i,i < n∧ρ i=j)∨((∀ i,i < n→ρ i≠j)∧z.H j=x.H j∧z.σ j=x.σ j):=fun j=>by
    by_cases h: ∃ i,i < n∧ρ i=j
    · exact .inl h
    · have h': ∀ i,i < n→ρ i≠j:=fun i hi e=>h ⟨i,hi,e⟩
      exact .inr ⟨h',putL_ne h',putS_ne h'⟩
  have lt: ∀ i,(Hl i).own=true→i < n:=fun i h=>by
    rcases Nat.lt_or_ge i n with q|q
    · exact q
    · rw [hd i q] at h; cases h
  have ow: ∀ i,(Hl i).own=true→(x.H (ρ i)).own=true:=fun i h=>by rw [hH i (lt i h),renB_own]; exact h
  have hkeep: ∀ b,b < x.w.heap.size→(∀ i,(Hl i).own=true→x.σ (ρ i)≠b)→y.w.heap[b]?=x.w.heap[b]?:=fun b hb h=>hf.keep b hb h
  have hko: ∀ j,(x.H j).own=true→(∀ i,i < n→ρ i≠j)→y.w.heap[x.σ j]?=x.w.heap[x.σ j]?:=fun j ho hj=>hkeep _ (hx.lt ho) fun i hi e=>hj i (lt i hi) (hx.inj _ _ (ow i hi) ho e)
  have hF:Frame x z:=by
    refine ⟨hf.os,hf.tape,hf.output,hf.size,fun b hb h=>hkeep b hb fun i hi=>h _ (ow i hi),fun b hb=>hf.zone b hb,fun b hb=>?_,fun j=>?_,fun j ho=>?_,hf.drawn⟩
    · rcases hf.zold b hb with h|h|⟨i,h1,h2⟩
      · exact .inl h
      · exact .inr (.inl h)
      · exact .inr (.inr ⟨ρ i,ow i h1,h2⟩)
    · rcases cas j with ⟨i,hi,rfl⟩|⟨h1,h2,h3⟩
      · rw [hv.H i hi,hH i hi]
        obtain ⟨g1,g2⟩:=hf.ids i
        refine ⟨g1,fun hl hve=>?_⟩
        obtain ⟨a1,a2,a3,a4,a5⟩:=g2 hl hve
        refine ⟨a1,by rw [renB_own,renB_own]; exact a2,a3,by simpa [renB,startL] using a4,fun ho=>?_⟩
        rw [renB_own] at ho
        rw [hv.σ i hi]
        exact a5 ho
      · rw [h2,h3]
        exact ⟨Nat.le_refl _,fun hl _=>⟨hl,rfl,rfl,rfl,fun ho=>⟨rfl,by unfold rowSize; rw [show z.w.heap[x.σ j]?=x.w.heap[x.σ j]? from hko j ho h1]⟩⟩⟩
    · rcases cas j with ⟨i,hi,rfl⟩|⟨h1,h2,h3⟩
      · rw [hv.H i hi,renB_own] at ho
        rw [hv.σ i hi]
        rcases hf.fresh i ho with ⟨g1,g2⟩|g1
        · exact .inl ⟨ow i g1,g2⟩
        · exact .inr g1
      · rw [h2] at ho
        rw [h3]; exact .inl ⟨ho,rfl⟩
  refine ⟨⟨hy.zlt,fun b j hb ho=>?_,fun j ho=>?_,fun j k hj hk he=>?_⟩,hF,hv⟩
  · rcases cas j with ⟨i,hi,rfl⟩|⟨h1,h2,h3⟩
    · rw [hv.H i hi,renB_own] at ho
      rw [hv.σ i hi]
      exact hy.zown b i hb ho
    · rw [h2] at ho
      rw [h3]
      rcases hf.zold b hb with h|h|⟨i,g1,g2⟩
      · exact hx.zown b j h ho
      · have:=hx.lt ho
        intro e
        have:x.w.heap.size≤b:=h
        omega
      · intro e
        exact h1 i (lt i g1) (hx.inj _ _ (ow i g1) ho (g2.trans e.symm))
  · rcases cas j with ⟨i,hi,rfl⟩|⟨h1,h2,h3⟩
    · have ho':=ho
      rw [hv.H i hi,renB_own] at ho'
      obtain ⟨cc,g1,g2,g3,g4⟩:=hy.blk i ho'
      rw [hv.H i hi,hv.σ i hi]
      refine ⟨cc,g1,fun r hr=>?_,by simpa [renB] using g3,fun r row j v hr hj=>?_⟩
      · simp only [renB,List.mem_map] at hr
        obtain ⟨r',hr',rfl⟩:=hr
        rw [List.length_map]; exact g2 r' hr'
      · simp only [renB] at hr
        obtain ⟨row',q1,rfl⟩:=map_get hr
        obtain ⟨v',q2,rfl⟩:=map_get hj
        refine ren0_R hv ?_ (g4 r row' j v' q1 q2)
        have:=hloc i hi ho'
        simp only [locB,List.all_eq_true] at this
        exact this row' (List.mem_of_getElem? q1) v' (List.mem_of_getElem? q2)
    · have ho':=ho
      rw [h2] at ho'
      obtain ⟨cc,g1,g2,g3,g4⟩:=hx.blk j ho'
      rw [h2,h3]
      exact ⟨cc,by rw [show z.w.heap[x.σ j]?=x.w.heap[x.σ j]? from hko j ho' h1]; exact g1,g2,g3,fun r row j v hr hj=>(g4 r row j v hr hj).frame hx hF⟩
  · rcases cas j with ⟨i,hi,rfl⟩|⟨h1,h2,h3⟩
    · rw [hv.H i hi, renB_own] at hj
      rw [hv.σ i hi] at he
      rcases cas k with ⟨i',hi',rfl⟩|⟨k1,k2,k3⟩
      · rw [hv.H i' hi',renB_own] at hk
        rw [hv.σ i' hi'] at he
        rw [hy.inj i i' hj hk he]
      · rw [k2] at hk
        rw [k3] at he
        rcases hf.fresh i hj with ⟨g1,g2⟩|g1
        · exact absurd (hx.inj _ _ (ow i g1) hk (g2.symm.trans he)) (k1 i hi)
        · have:=hx.lt hk
          have:x.w.heap.size≤y.σ i:=g1
          omega
    · rw [h2] at hj
      rw [h3] at he
      rcases cas k with ⟨i',hi',rfl⟩|⟨k1,k2,k3⟩
      · rw [hv.H i' hi',renB_own] at hk
        rw [hv.σ i' hi'] at he
        rcases hf.fresh i' hk with ⟨g1,g2⟩|g1
        · exact absurd (hx.inj _ _ (ow i' g1) hj (g2.symm.trans he.symm)) (h1 i' hi')
        · have:=hx.lt hj
          have:x.w.heap.size≤y.σ i':=g1
          omega
      · rw [k2] at hk
        rw [k3] at he
        exact hx.inj j k hj hk he
end
inductive LOut where
  |ok (v:V) (HL:Heap)
  |pan (c:Value)
def LOut.at (n:Nat) (ρ:Nat→Nat) (H:Heap):LOut→Res
  | .ok v HL=>.ok v (putL ρ HL H n)
  | .pan c=>.pan c ((List.range n).map ρ)
def LocC (P:Program) (f n:Nat) (args:List V) (Hl:Heap) (out:LOut):Prop:=
  ∀ (H:Heap) (ρ:Nat→Nat),(∀ i j,i < n→j < n→ρ i=ρ j→i=j)→(∀ i,i < n→H (ρ i)=renB ρ (Hl i))→CallX P f (args.map (ren ρ)) H (out.at n ρ H)
def cut (n:Nat) (H:Heap):Heap:=fun j=>if j < n then H j else {H j with live:=false}
theorem cut_fin (n:Nat) (H:Heap):FinH H (cut n H):=fun j=>by
  unfold cut
  split
  · exact .refl _
  · exact .gone (Nat.le_refl _) rfl
def RetL (res:List SRes) (n:Nat) (out:LOut):Ex→(Nat→V)→Heap→Prop:=fun e T H=>match e with
  | .exit _=>False
  | .pan c=>out=.pan c
  |_=>onS (resT res T H) fun u=> ∃ v HL,out=.ok v HL∧v.pure=true∧FinV H (cut n H) u v∧ ∀ i,i < n→H i=HL i∧((HL i).own=true→locB n (HL i)=true)
section
variable {P:Program} {op:Opt} {k0:Nat}
theorem calls_of_WX {f : Nat} {fn : Func} {s : SF} (hf : P.funcs[f]? = some fn) (hs : slimF P op fn = some s) {x : Cx} {args : List V} {cs : List Value} {Q : Ex → (Nat → V) → Heap → Prop}
    {K:V→Heap→Prop} {Kp:Value→Heap→Prop} (hQ: ∀ e T H,Q e T H→match e with
      | .exit _=>False
      | .pan c=>Kp c H
      |_=>onS (resT s.res T H) fun v=>K v H)
    (hl:args.length≤s.n) (hW:W P k0 s.body Q (T0 args) x.H) (hx:Inv x) (hr:RL x args cs):
    Calls P f cs.toArray x.w fun e w'=> ∃ y,y.w=w'∧Inv y∧Frame x y∧((∃ c v,e=.returned c∧K v y.H∧R y v c)∨(∃ c,e=.panicked [{v:=c,recovered:=false}]∧Kp c y.H)):=by
  unfold slimF at hs
  split at hs
  · cases hs
  · rename_i c hc
    split at hs
    · rename_i sb r h1 h2
      cases hs
      refine calls_of_wp hf hc (wp_mono (W_sound c sb h1 _ x x (T0 args) _ hW hx (TRel_start hr hl) (Frame.refl x)) ?_)
      intro e a' w' hp
      obtain ⟨e',T',y,he,hw,hq,hy,hT',hF'⟩:=hp
      have hq:=hQ _ _ _ hq
      have fin:onS (resT r T' y.H) (fun v=>K v y.H)→a'.defers=[]∧ ∃ v,(results fn a'.tmps).run P w'=.ok v w'∧(∃ z:Cx,z.w=w'∧Inv z∧Frame x z∧((∃ c v',Ending.returned v=.returned c∧K v' z.H∧R z v' c)∨(∃ c,Ending.returned v=.panicked [{v:=c,recovered:=false}]∧Kp c z.H))):=by
        intro h
        obtain ⟨v,h3,h4⟩:=onS_iff.1 h
        obtain ⟨c,h5,h6⟩:=results_run h2 hy hT' h3
        exact ⟨hT'.defers,c,by rw [← hw]; exact h5,y,hw,hy,hF',.inl ⟨c,v,rfl,h4,h6⟩⟩
      cases e with
      |normal=>cases he; exact fin hq
      |ret=>cases he; exact fin hq
      |exit id=>cases he; exact hq.elim
      |goto l=>cases he
      | panic l =>
        simp only [exOf] at he
        split at he
        · rename_i c
          cases he
          exact ⟨hT'.defers,y,hw,hy,hF',.inr ⟨c,rfl,hq⟩⟩
        · cases he
      |outgrown=>cases he
    · cases hs
theorem loc_of_W {f : Nat} {fn : Func} {s : SF} (hf : P.funcs[f]? = some fn) (hs : slimF P op fn = some s) (hn : (fn.name == "runtime.NumGoroutine") = false) {n : Nat} {args : List V} {Hl : Heap} {out : LOut}
    (hl:args.length≤s.n) (ha:args.all (loc n)=true) (hHl: ∀ i,i < n→locB n (Hl i)=true) (hd: ∀ i,n≤i→(Hl i).own=false)
    (hW:bndL args=true→W P k0 s.body (RetL s.res n out) (T0 args) Hl):LocC P f n args Hl out:=by
  intro H ρ hρ hH
  have main: ∀ (x:Cx) (cs:List Value),x.H=H→Inv x→RL x (args.map (ren ρ)) cs→Calls P f cs.toArray x.w fun e w'=>
      (∃ c v HL y,out=.ok v HL∧e=.returned c∧y.w=w'∧y.H=putL ρ HL H n∧Inv y∧R y v c∧Frame x y)∨(∃ c y,out=.pan c∧e=.panicked [{v:=c,recovered:=false}]∧y.w=w'∧(∀ j,j∉(List.range n).map ρ→y.H j=H j)∧Inv y∧Frame x y):=by
    intro x cs hxH hx hr
    subst hxH
    have hI:=startL_ok hx hρ hH hHl hd
    have hr0:RL (startL x ρ Hl) args cs:=by
      refine ⟨by simpa using hr.1,fun j v hj=>?_⟩
      refine ren_R' (startL_view hH) (fun _ h=>h) (List.all_eq_true.1 ha v (List.mem_of_getElem? hj)) (hr.2 j _ (by rw [List.getElem?_map,hj]; rfl))
    refine (calls_of_WX (x:=startL x ρ Hl) (Q:=RetL s.res n out) (Kp:=fun c _=>out=.pan c) (K:=fun u H=> ∃ v HL,out=.ok v HL∧v.pure=true∧FinV H (cut n H) u v∧ ∀ i,i < n→H i=HL i∧((HL i).own=true→locB n (HL i)=true)) hf hs (fun e T H h=>?_) hl (hW hr0.bnd) hI hr0).mono fun e w' h=>?_
    · cases e <;> exact h
    obtain ⟨y,hw,hy,hF,h⟩:=h
    rcases h with ⟨c,u,he,⟨v,HL,ho,hvp,hfin,hHL⟩,hR⟩|⟨c,he,ho⟩
    · left
      obtain ⟨f1,f2⟩:=fin_step hy (cut_fin n y.H)
      have hR':=hfin y c rfl hy hR
      obtain ⟨b1,b2,b3⟩:=backL (y:=finC y (cut n y.H)) hx hρ hH hd (hF.trans f2) f1
        (fun i hi ho'=>by
          have e:(finC y (cut n y.H)).H i=y.H i:=by simp [finC,cut,hi]
          rw [e] at ho' ⊢
          rw [(hHL i hi).1] at ho' ⊢
          exact (hHL i hi).2 ho')
        (fun i hi=>by simp [finC,cut,Nat.not_lt.2 hi,Blk.own])
      generalize hY:finC y (cut n y.H)=Y at b1 b2 b3 hR'
      have hYH:Y.H=cut n y.H:=by rw [← hY]; rfl
      refine ⟨c,v,HL,{w:=Y.w,Z:=Y.Z,σ:=putS ρ Y.σ x.σ n,H:=putL ρ Y.H x.H n},ho,he,by rw [← hY]; exact hw,?_,b1,hR'.pure_at hvp rfl fun _ h=>h,b2⟩
      have: ∀ m,m≤n→putL ρ Y.H x.H m=putL ρ HL x.H m:=by
        intro m
        induction m with
        |zero=>intro _; rfl
        | succ m ih =>
          intro hm
          simp only [putL,ih (by omega)]
          congr 2
          have e:Y.H m=y.H m:=by rw [hYH]; simp [cut]; omega
          rw [e,(hHL m (by omega)).1]
      exact this n (Nat.le_refl n)
    · right
      have hall:FinH y.H fun j=>{y.H j with live:=false}:=fun j=>.gone (Nat.le_refl _) rfl
      obtain ⟨f1,f2⟩:=fin_step hy hall
      obtain ⟨b1,b2,b3⟩:=backL (y:=finC y fun j=>{y.H j with live:=false}) hx hρ hH hd (hF.trans f2) f1 (fun i hi ho'=>by simp [finC,Blk.own] at ho') (fun i hi=>by simp [finC,Blk.own])
      generalize hY:finC y (fun j=>{y.H j with live:=false})=Y at b1 b2 b3
      refine ⟨c,{w:=Y.w,Z:=Y.Z,σ:=putS ρ Y.σ x.σ n,H:=putL ρ Y.H x.H n},ho,he,by rw [← hY]; exact hw,fun j hj=>?_,b1,b2⟩
      refine putL_ne fun i hi e=>hj ?_
      exact List.mem_map.2 ⟨i,List.mem_range.2 hi,e⟩
  have hcl:=callable_of hf hs hn
  cases ho:out with
  | ok v HL =>
    refine ⟨hcl,fun x cs h1 h2 h3=>(main x cs h1 h2 h3).mono fun e w' h=>?_⟩
    rcases h with ⟨c,v',HL',y,e1,e2,e3,e4,e5,e6,e7⟩|⟨c,y,e1,_⟩
    · rw [ho] at e1; cases e1; exact ⟨c,y,e2,e3,e4,e5,e6,e7⟩
    · rw [ho] at e1; cases e1
  | pan c =>
    refine ⟨hcl,fun x cs h1 h2 h3=>(main x cs h1 h2 h3).mono fun e w' h=>?_⟩
    rcases h with ⟨c',v',HL',y,e1,_⟩|⟨c',y,e1,e2,e3,e4,e5,e6⟩
    · rw [ho] at e1; cases e1
    · rw [ho] at e1; cases e1; exact ⟨y,e2,e3,e4,e5,e6⟩
end
end Go.Proofs.Ytdmcmkccifmofaa
namespace Go.Proofs.Ytdmcmkccifmofaa
open Go
section
variable {P:Program} {k0 d:Nat} {r:List SO} {T:Nat→V} {H:Heap} {K:(Nat→V)→Heap→Prop} {a b c:SX} {v:V}
theorem R_idxu {α:Type} [Inhabited α] {e:Nat} {l:List α} {f:α→List V} {k:IntKind} {i:Nat} {cs:List V} (ha:ev T a=.sl (l.map f)) (hb:ev T b=.int k (i:Nat)) (hi:i < l.length) (hu:f (nth l i)=cs) (he:cs.length=e)
    (h:Ops P k0 r (upd T d (.pp cs)) H K):Ops P k0 (⟨none,some d,.idx e a b⟩::r) T H K:=
  R_idx ha hb hi (by rw [hu]; exact he) (by rw [hu]; exact h)
variable {k:IntKind} {x y:Int}
theorem R_leqk (ha:ev T a=.int k x) (hb:ev T b=.int k y) (h:Ops P k0 r (upd T d (.bool (decide (x≤y)))) H K):Ops P k0 (⟨none,some d,.bin .leq a b⟩::r) T H K:=R_bin ha hb (by simp only [intBin,if_true]) h
theorem R_geqk (ha:ev T a=.int k x) (hb:ev T b=.int k y) (h:Ops P k0 r (upd T d (.bool (decide (y≤x)))) H K):Ops P k0 (⟨none,some d,.bin .geq a b⟩::r) T H K:=R_bin ha hb (by simp only [intBin,if_true]) h
theorem R_eqlk (ha:ev T a=.int k x) (hb:ev T b=.int k y) (h:Ops P k0 r (upd T d (.bool (decide (x=y)))) H K):Ops P k0 (⟨none,some d,.bin .eql a b⟩::r) T H K:=R_bin ha hb (by simp only [intBin,if_true]; rfl) h
theorem R_mxI (ha:ev T a=iV x) (hb:ev T b=iV y) (h:Ops P k0 r (upd T d (iV (if x < y then y else x))) H K):Ops P k0 (⟨none,some d,.mx a b⟩::r) T H K:=by
  refine stp (v:=iV (if x < y then y else x)) (fun _=>rfl) ?_ h
  rw [ha,hb]; rfl
variable {s t:List UInt8}
abbrev u8V (c:UInt8):V:=.int .u8 ((c.toNat:Nat):Int)
abbrev cS (s:List UInt8):List V:=[.str s]
theorem R_sidx {i:Nat} (ha:ev T a=.str s) (hb:ev T b=.int k (i:Nat)) (hi:i < s.length) (h:Ops P k0 r (upd T d (u8V (nth s i))) H K):Ops P k0 (⟨none,some d,.sidx a b⟩::r) T H K:=by
  refine stp (v:=u8V (nth s i)) (fun _=>rfl) ?_ h
  rw [ha,hb]; simp [sidxV,nth_eq hi]
theorem R_slen (ha:ev T a=.str s) (h:Ops P k0 r (upd T d (iV (s.length:Nat))) H K):Ops P k0 (⟨none,some d,.slen a⟩::r) T H K:=by
  refine stp (v:=iV (s.length:Nat)) (fun _=>rfl) ?_ h
  rw [ha]; rfl
theorem beqD:(s==t)=decide (s=t):=by
  by_cases e:s=t
  · subst e; simp
  · rw [decide_eq_false e]; exact beq_eq_false_iff_ne.2 e
theorem R_seql (ha:ev T a=.str s) (hb:ev T b=.str t) (h:Ops P k0 r (upd T d (.bool (decide (s=t)))) H K):Ops P k0 (⟨none,some d,.sbin .eql a b⟩::r) T H K:=by
  refine stp (v:=.bool (decide (s=t))) (fun _=>rfl) ?_ h
  rw [ha,hb]; simp only [strBin,beqD]
theorem R_sneq (ha:ev T a=.str s) (hb:ev T b=.str t) (h:Ops P k0 r (upd T d (.bool (decide (¬(s=t))))) H K):Ops P k0 (⟨none,some d,.sbin .neq a b⟩::r) T H K:=by
  refine stp (v:=.bool (decide (¬(s=t)))) (fun _=>rfl) ?_ h
  rw [ha,hb]; simp only [strBin,bne,beqD]; by_cases e:s=t <;> simp [e]
theorem R_sadd (ha:ev T a=.str s) (hb:ev T b=.str t) (hl:s.length+t.length≤9223372036854775807) (h:Ops P k0 r (upd T d (.str (s++t))) H K):Ops P k0 (⟨none,some d,.sbin .add a b⟩::r) T H K:=by
  refine stp (v:=.str (s++t)) (fun _=>rfl) ?_ h
  rw [ha,hb]; simp only [strBin,if_pos hl]
theorem R_sslo {m:Nat} (ha:ev T a=.str s) (hb:ev T b=.int k (m:Nat)) (hm:m≤s.length) (h:Ops P k0 r (upd T d (.str (s.drop m))) H K):Ops P k0 (⟨none,some d,.sslice a (some b) none⟩::r) T H K:=by
  refine stp (v:=.str (s.drop m)) (fun _=>rfl) ?_ h
  simp only [Option.map_some,Option.map_none,ha,hb]
  simp [ssliceV,boundV,natV,hm]
theorem R_sshi {m:Nat} (ha:ev T a=.str s) (hb:ev T b=.int k (m:Nat)) (hm:m≤s.length) (h:Ops P k0 r (upd T d (.str (s.take m))) H K):Ops P k0 (⟨none,some d,.sslice a none (some b)⟩::r) T H K:=by
  refine stp (v:=.str (s.take m)) (fun _=>rfl) ?_ h
  simp only [Option.map_some,Option.map_none,ha,hb]
  simp [ssliceV,boundV,natV,hm]
theorem R_mkm {f:Nat} {first caps:List SX} {us cs:List V} (hf:evs T first=us) (he:evs T caps=cs) (h:Ops P k0 r (upd T d (.fn f us cs)) H K):Ops P k0 (⟨none,some d,.mkm f first caps⟩::r) T H K:=by
  subst hf; subst he
  simpa only [Ops,St,putT] using h
theorem R_mki {ty:TypeId} {w:V} {q:Value} (ha:ev T a=w) (hq:rawC w=some q) (h:Ops P k0 r (upd T d (.raw (.iface ty q))) H K):Ops P k0 (⟨none,some d,.mki ty a⟩::r) T H K:=by
  refine stp (v:=.raw (.iface ty q)) (fun k=>?_) rfl h
  simp only [St,ha,hq,onS_some]
end
def hpB (b:Blk):Heap:=upd H0 0 b
section
variable {P:Program} {k0 f:Nat} {Q:Ex→(Nat→V)→Heap→Prop} {T:Nat→V} {H:Heap} {d:Option Nat} {r:SC} {i:Nat} {asq asq':List V} {args:List SX} {b b' b1 b1':Blk} {v:V} {c:Value} {out:LOut}
theorem one_inj (i:Nat): ∀ j k,j < 1→k < 1→(fun _:Nat=>i) j=(fun _:Nat=>i) k→j=k:=fun j k h1 h2 _=>by omega
theorem hpB_at (h:b1=renB (fun _=>i) b) (hb:H i=b1): ∀ j,j < 1→H ((fun _:Nat=>i) j)=renB (fun _=>i) (hpB b j):=fun j hj=>by
  have:j=0:=by omega
  subst this
  show H i=_
  rw [hb,h]; rfl
theorem LocC.use1 (hc:LocC P f 1 asq (hpB b) (.ok v (hpB b'))) (ha:asq.map (ren fun _=>i)=asq') (hb:H i=b1) (h1:b1=renB (fun _=>i) b) (h2:b1'=renB (fun _=>i) b'):CallOK P f asq' H v (upd H i b1'):=by
  subst ha; subst h2
  exact hc H (fun _=>i) (one_inj i) (hpB_at h1 hb)
theorem LocC.usep (hc:LocC P f 1 asq (hpB b) (.pan c)) (ha:asq.map (ren fun _=>i)=asq') (hb:H i=b1) (h1:b1=renB (fun _=>i) b):CallP P f asq' H c [i]:=by
  subst ha
  exact hc H (fun _=>i) (one_inj i) (hpB_at h1 hb)
theorem pop_ok (hc:LocC P f 1 asq (hpB b) (.ok v (hpB b'))) (he:evs T args=asq') (ha:asq.map (ren fun _=>i)=asq') (hb:H i=b1) (h1:b1=renB (fun _=>i) b) (h2:b1'=renB (fun _=>i) b')
    (h:W P k0 r Q (putT T d v) (upd H i b1')):W P k0 (.seq (.pop d (.call f args)) r) Q T H:=by
  subst he
  exact ⟨.ok v (upd H i b1'),hc.use1 ha hb h1 h2,.done h⟩
theorem pop_pan (hc:LocC P f 1 asq (hpB b) (.pan c)) (he:evs T args=asq') (ha:asq.map (ren fun _=>i)=asq') (hb:H i=b1) (h1:b1=renB (fun _=>i) b)
    (h: ∀ H',Q (.pan c) T H'):W P k0 (.seq (.pop d (.call f args)) r) Q T H:=by
  subst he
  exact ⟨.pan c [i],hc.usep ha hb h1,fun H' _=>h H'⟩
theorem popv_ok {g:SX} {first caps a0:List V} (hg:ev T g=.fn f first caps) (hc:LocC P f 1 asq (hpB b) (.ok v (hpB b'))) (he:evs T args=a0) (ha:asq.map (ren fun _=>i)=first++a0++caps) (hb:H i=b1) (h1:b1=renB (fun _=>i) b) (h2:b1'=renB (fun _=>i) b')
    (h:W P k0 r Q (putT T d v) (upd H i b1')):W P k0 (.seq (.pop d (.callv g args)) r) Q T H:=by
  subst he
  show W P k0 (.pop d (.callv g args)) _ T H
  simp only [W,hg]
  exact ⟨.ok v (upd H i b1'),hc.use1 ha hb h1 h2,.done h⟩
theorem popv_pan {g:SX} {first caps a0:List V} (hg:ev T g=.fn f first caps) (hc:LocC P f 1 asq (hpB b) (.pan c)) (he:evs T args=a0) (ha:asq.map (ren fun _=>i)=first++a0++caps) (hb:H i=b1) (h1:b1=renB (fun _=>i) b)
    (h: ∀ H',Q (.pan c) T H'):W P k0 (.seq (.pop d (.callv g args)) r) Q T H:=by
  subst he
  show W P k0 (.pop d (.callv g args)) _ T H
  simp only [W,hg]
  exact ⟨.pan c [i],hc.usep ha hb h1,fun H' _=>h H'⟩
theorem pop_raise {u:SX} {ty:TypeId} {w:Value} (hu:ev T u=.raw (.iface ty w)) (h:Q (.pan (.iface ty w)) T H):W P k0 (.seq (.pop d (.raise u)) r) Q T H:=by
  show W P k0 (.pop d (.raise u)) _ T H
  simp only [W,hu]; exact h
theorem W_reg0 (h:W P k0 r Q T H):W P k0 (.seq (.reg []) r) Q T H:=⟨k0,.done h⟩
theorem W_seq_blockgP {id:Nat} {a r:SC} (h: ∀ Q':Ex→(Nat→V)→Heap→Prop,(∀ T H,G (W P k0 r Q) T H→Q' .norm T H)→(∀ T H,G (W P k0 r Q) T H→Q' (.exit id) T H)→(∀ T H,Q .ret T H→Q' .ret T H)→
    (∀ n T H,n≠id→Q (.exit n) T H→Q' (.exit n) T H)→(∀ c T H,Q (.pan c) T H→Q' (.pan c) T H)→W P k0 a Q' T H):W P k0 (.seq (.block id a) r) Q T H:=by
  simp only [W]
  refine h _ (fun T H h=>h) (fun T H h=>?_) (fun T H h=>h) (fun n T H hn h=>?_) (fun c T H h=>h)
  · simp only [if_true]; exact h
  · simp only [if_neg hn]; exact h
theorem lW {op:Opt} {fn:Func} {s:SF} {B:Prop} (hf:P.funcs[f]?=some fn) (hs:slimF P op fn=some s)
    (hW : B → W P k0 s.body (RetL s.res 1 out) (T0 asq) (hpB b)) (hn : (fn.name == "runtime.NumGoroutine") = false := by kernel_rfl)
    (hl:Nat.ble asq.length s.n=true:=by rfl) (ha:asq.all (loc 1)=true:=by simp [loc,loc0]) (hlb:locB 1 b=true:=by simp [locB,loc0])
    (hb:bndL asq=true→B:=by intro hB; first|(simp only [bnd_map,bnd_int,bnd_bool,bnd_str,bnd_agg,bnd_pp,bnd_nil,bnd_cons,implies_true,and_true,true_and] at hB; exact hB)|exact (fun _=>trivial) hB):LocC P f 1 asq (hpB b) out:=
  loc_of_W hf hs hn (Nat.le_of_ble_eq_true hl) ha (fun i hi=>by
    have:i=0:=by omega
    subst this; exact hlb) (fun i hi=>by
    have:hpB b i=H0 i:=upd_ne _ _ (by omega)
    rw [this]; rfl) fun h=>hW (hb h)
variable {res:List SRes} {HL:Heap}
theorem RetL_ok {u:V} (hr:resT res T H=some u) (ho:out=.ok v (hpB b)) (hp':v.pure=true) (hf:FinV H (cut 1 H) u v) (hb:H 0=b) (hlb:locB 1 b=true):RetL res 1 out .ret T H:=by
  simp only [RetL,hr,onS_some]
  refine ⟨v,hpB b,ho,hp',hf,fun i hi=>?_⟩
  have:i=0:=by omega
  subst this
  exact ⟨by rw [hb]; rfl,fun _=>hlb⟩
theorem RetL_okn {u:V} (hr:resT res T H=some u) (ho:out=.ok v (hpB b)) (hp':v.pure=true) (hf:FinV H (cut 1 H) u v) (hb:H 0=b) (hlb:locB 1 b=true):RetL res 1 out .norm T H:=RetL_ok hr ho hp' hf hb hlb
theorem resT1 {s1:SRes} {u:V} (h1:resV T H s1=some u):resT [s1] T H=some u:=by simp only [resT,mapO,h1]
theorem resT2 {s1 s2:SRes} {u1 u2:V} (h1:resV T H s1=some u1) (h2:resV T H s2=some u2):resT [s1,s2] T H=some (.tup [u1,u2]):=by simp only [resT,mapO,h1,h2]
theorem RetL_pan (ho:out=.pan c):RetL res 1 out (.pan c) T H:=ho
end
end Go.Proofs.Ytdmcmkccifmofaa
namespace Go.Proofs.Ytdmcmkccifmofaa
open Go Go.Proofs
def r7_1:List SO:=[
 qF 20 0 1,
 qL 21 1 20,
 qF 22 1 1,
 qL 23 1 22,
 qF 24 2 1,
 qL 25 3 24,
 qF 26 5 1,
 ql 27 26,
 sO 3 (.alloc 37 [.nilsl]),
 sO 4 (.alloc 37 [.nilsl]),
 sO 5 (.alloc 24 [.int .i64 0,.int .i64 0,.nilsl]),
 sN (.store 1 (.t 3) (.t 21)),
 sN (.store 1 (.t 4) (.t 23)),
 sN (.store 3 (.t 5) (.t 25)),
 qM 6 27]
def r7_2:List SO:=[
 qL 28 1 3,
 sO 29 (.call false 18 [.t 28]),
 qM 30 29,
 ⟨some (30,false),some 31,.load true 1 (.t 4)⟩,
 ⟨some (30,false),some 32,.call false 18 [.t 31]⟩,
 sO 33 (.pick (.t 30) (.c (.bool true)) (.t 32)),
 qM 34 33,
 ⟨some (34,false),some 35,.load true 3 (.t 5)⟩,
 ⟨some (34,false),some 36,.call false 10 [.t 35,.c (.int .i64 200)]⟩,
 ⟨some (34,false),some 37,.bin .gtr (.t 36) (.c (.int .i64 200))⟩,
 sO 38 (.pick (.t 34) (.c (.bool true)) (.t 37)),
 qM 39 38,
 ⟨some (39,false),some 40,.mv (.t 6)⟩,
 ⟨some (39,false),some 41,.slen (.t 40)⟩,
 ⟨some (39,false),some 42,.bin .gtr (.t 41) (.c (.int .i64 600))⟩,
 sO 43 (.pick (.t 39) (.c (.bool true)) (.t 42))]
def r7_4:List SO:=[
 qL 46 1 3,
 qL 47 1 4,
 qL 48 3 5,
 sO 49 (.call false 21 [.t 46,.t 47,.t 48]),
 qM 45 49,
 qE 50 45 0,
 qE 51 45 1,
 qM 7 50,
 qM 8 51]
def r7_6:List SO:=[
 qL 55 1 3,
 qL 56 1 4,
 qM 57 7,
 sO 58 (.call false 19 [.t 55,.t 56,.t 57]),
 qM 54 58,
 qE 59 54 0,
 qE 60 54 1,
 qE 61 54 2,
 sO 9 (.alloc 24 [.int .i64 0,.int .i64 0,.nilsl]),
 sN (.store 3 (.t 9) (.t 59)),
 qM 10 60,
 qM 11 61]
def r7_7:List SO:=[
 qL 62 3 5,
 qL 63 3 9,
 sO 64 (.call false 17 [.t 62,.t 63]),
 sO 65 (.un .not (.t 64)),
 qM 66 65,
 ⟨some (66,false),some 67,.load true 3 (.t 5)⟩,
 ⟨some (66,false),some 68,.load true 3 (.t 9)⟩,
 ⟨some (66,false),some 69,.call false 16 [.t 67,.t 68]⟩,
 ⟨some (66,false),some 70,.un .not (.t 69)⟩,
 sO 71 (.pick (.t 66) (.c (.bool true)) (.t 70)),
 qM 72 71,
 ⟨some (72,false),some 73,.mv (.t 10)⟩,
 ⟨some (72,false),some 74,.bin .neq (.t 73) (.c (.int .i64 0))⟩,
 sO 75 (.pick (.t 72) (.c (.bool true)) (.t 74)),
 qM 76 75,
 ⟨some (76,false),some 77,.mv (.t 11)⟩,
 ⟨some (76,false),some 78,.bin .neq (.t 77) (.c (.int .i64 0))⟩,
 sO 79 (.pick (.t 76) (.c (.bool true)) (.t 78))]
def r7_9:List SO:=[
 qL 81 1 3,
 qL 82 1 4,
 qM 83 6,
 sO 84 (.call false 19 [.t 81,.t 82,.t 83]),
 qM 80 84,
 qE 85 80 0,
 qE 86 80 1,
 qE 87 80 2,
 sO 12 (.alloc 24 [.int .i64 0,.int .i64 0,.nilsl]),
 sN (.store 3 (.t 12) (.t 85)),
 qM 13 86,
 qM 14 87]
def r7_11:List SO:=[
 qL 90 3 12,
 sO 91 (.build [.int .i64 0,.int .i64 0,.nilsl] []),
 sO 92 (.call false 16 [.t 90,.t 91]),
 qM 93 92,
 ⟨some (93,true),some 94,.call false 11 []⟩,
 sO 95 (.pick (.t 93) (.t 94) (.c (.bool false))),
 qM 2 95]
def r7_12:List SO:=[
 qL 97 1 3,
 qL 98 1 4,
 qL 99 3 12,
 sO 100 (.call false 21 [.t 97,.t 98,.t 99]),
 qM 96 100,
 qE 101 96 0,
 qE 102 96 1,
 qM 15 101,
 qM 16 102]
def r7_13:List SO:=[
 qL 104 1 3,
 qL 105 1 4,
 qM 106 15,
 sO 107 (.call false 19 [.t 104,.t 105,.t 106]),
 qM 103 107,
 qE 108 103 0,
 qE 109 103 1,
 qE 110 103 2,
 sO 17 (.alloc 24 [.int .i64 0,.int .i64 0,.nilsl]),
 sN (.store 3 (.t 17) (.t 108)),
 qM 18 109,
 qM 19 110]
def r7_14:List SO:=[
 qM 111 16,
 qC 112 .eql 111 0,
 qM 113 112,
 ⟨some (113,true),some 114,.load true 3 (.t 12)⟩,
 ⟨some (113,true),some 115,.call false 14 [.t 114]⟩,
 ⟨some (113,true),some 116,.bin .eql (.t 115) (.c (.int .i64 0))⟩,
 sO 117 (.pick (.t 113) (.t 116) (.c (.bool false))),
 qM 118 117,
 ⟨some (118,true),some 119,.load true 3 (.t 12)⟩,
 ⟨some (118,true),some 120,.load true 3 (.t 17)⟩,
 ⟨some (118,true),some 121,.call false 16 [.t 119,.t 120]⟩,
 sO 122 (.pick (.t 118) (.t 121) (.c (.bool false))),
 qM 123 122,
 ⟨some (123,true),some 124,.mv (.t 18)⟩,
 ⟨some (123,true),some 125,.bin .eql (.t 124) (.c (.int .i64 0))⟩,
 sO 126 (.pick (.t 123) (.t 125) (.c (.bool false))),
 qM 127 126,
 ⟨some (127,true),some 128,.mv (.t 19)⟩,
 ⟨some (127,true),some 129,.bin .eql (.t 128) (.c (.int .i64 0))⟩,
 sO 130 (.pick (.t 127) (.t 129) (.c (.bool false))),
 qM 131 130,
 ⟨some (131,true),some 132,.call false 11 []⟩,
 sO 133 (.pick (.t 131) (.t 132) (.c (.bool false))),
 qM 2 133]
def s7:SF:=⟨134,[.tmp 2],.seq (.reg [sO 1 (.box 58 6 (.t 0)),sO 2 (.mv (.c (.bool false)))]) (.seq (.dreg [3,4,5] r7_1) (.seq (.seq (.reg r7_2) (.cond (.t 43) (.seq (.reg [sO 44 (.call false 11 []),qM 2 44]) (.ret)) (.skip))) (.seq (.reg r7_4) (.seq (.seq (.reg [qM 52 8,qC 53 .eql 52 0]) (.cond (.t 53) (.seq (.reg r7_6) (.seq (.reg r7_7) (.cond (.t 79) (.seq (.reg [sO 2 (.mv (.c (.bool false)))]) (.ret)) (.skip)))) (.skip))) (.seq (.reg r7_9) (.seq (.seq (.reg [qM 88 14,qC 89 .neq 88 0]) (.cond (.t 89) (.seq (.reg r7_11) (.ret)) (.skip))) (.seq (.reg r7_12) (.seq (.reg r7_13) (.seq (.reg r7_14) (.ret))))))))))⟩
theorem s7_ok:slimF Try.prog ⟨[31,36,37,38,40,41,42,44,45,59,60,61,65,66,67,71,72,73,81,82,84,92,93,98,99,102,104],[],[],[]⟩ Try.f7=some s7:=by kernel_rfl
def r10_3:List SO:=[
 qM 7 6,
 qF 8 2 2,
 ql 9 8,
 qN 10 9,
 qP 11 .lss 7 10,
 qM 12 11,
 ⟨some (12,true),some 13,.mv (.t 5)⟩,
 ⟨some (12,true),some 14,.mv (.t 1)⟩,
 ⟨some (12,true),some 15,.bin .leq (.t 13) (.t 14)⟩,
 sO 16 (.pick (.t 12) (.t 15) (.c (.bool false)))]
def r10_5:List SO:=[
 qM 19 5,
 qF 20 2 2,
 ql 21 20,
 qM 22 6,
 qA 23 3 21 22,
 qL 24 3 23,
 qM 25 1,
 qM 26 5,
 qP 27 .sub 25 26,
 sO 28 (.call false 10 [.t 24,.t 27]),
 qP 29 .add 19 28,
 qM 5 29]
def b10_0:SC:=.seq (.seq (.reg r10_3) (.cond (.t 16) (.skip) (.exit 0))) (.seq (.block 1 (.reg r10_5)) (.reg [qM 17 6,qC 18 .add 17 1,qM 6 18]))
def s10:SF:=⟨31,[.tmp 4],.seq (.reg [sO 2 (.box 24 3 (.t 0)),qI 4 0]) (.seq (.reg [qI 5 1]) (.seq (.seq (.reg [qI 6 0]) (.block 0 (.loop b10_0))) (.seq (.reg [qM 30 5,qM 4 30]) (.ret))))⟩
theorem s10_ok:slimF Try.prog ⟨[31,36,37,38,40,41,42,44,45,59,60,61,65,66,67,71,72,73,81,82,84,92,93,98,99,102,104],[],[],[]⟩ Try.f10=some s10:=by kernel_rfl
end Go.Proofs.Ytdmcmkccifmofaa
namespace Go.Proofs.Ytdmcmkccifmofaa
open Go
inductive Fm where
  |nd (op arg:Int) (kids:List Fm)
instance:Inhabited Fm:=⟨.nd 0 0 []⟩
def Fm.op:Fm→Int| .nd o _ _=>o
def Fm.arg:Fm→Int| .nd _ a _=>a
def Fm.kids:Fm→List Fm| .nd _ _ k=>k
theorem Fm.eta (f:Fm):Fm.nd f.op f.arg f.kids=f:=by cases f; rfl
mutual
def cF:Fm→List V
  | .nd o a k=>[iV o,iV a,.sl (cFs k)]
def cFs:List Fm→List (List V)
  |[]=>[]
  |f::l=>cF f::cFs l
end
theorem cFs_map: ∀ l:List Fm,cFs l=l.map cF
  |[]=>rfl
  |f::l=>by rw [cFs,cFs_map l]; rfl
theorem cF_eq (f:Fm):cF f=[iV f.op,iV f.arg,.sl (f.kids.map cF)]:=by
  cases f with
  |nd o a k=>rw [cF,cFs_map]; rfl
mutual
theorem pureL_cF: ∀ f:Fm,pureL (cF f)=true
  | .nd o a k=>by rw [cF]; simp [pureL,V.pure,pureLL_cFs k]
theorem pureLL_cFs: ∀ l:List Fm,pureLL (cFs l)=true
  |[]=>rfl
  |f::l=>by rw [cFs,pureLL,pureL_cF f,pureLL_cFs l]; rfl
end
mutual
theorem canonL_cF: ∀ f:Fm,canonL (cF f)=true
  | .nd o a k=>by rw [cF]; simp [canonLL_cFs k]
theorem canonLL_cFs: ∀ l:List Fm,canonLL (cFs l)=true
  |[]=>by simp [cFs]
  |f::l=>by rw [cFs,canonLL_cons,canonL_cF f,canonLL_cFs l]; rfl
end
attribute [simp] pureL_cF canonL_cF
@[simp] theorem pureLL_mF (l:List Fm):pureLL (l.map cF)=true:=by rw [← cFs_map]; exact pureLL_cFs l
@[simp] theorem canonLL_mF (l:List Fm):canonLL (l.map cF)=true:=by rw [← cFs_map]; exact canonLL_cFs l
theorem cF_len (f:Fm):(cF f).length=3:=by rw [cF_eq]; rfl
theorem cF_one (f:Fm):(cF f).all V.one=true:=by rw [cF_eq]; rfl
theorem sl_F1 {u:V} {x:Fm} (h:u=.sl [[iV x.op,iV x.arg,.sl (x.kids.map cF)]]):u=.sl ([x].map cF):=by rw [h]; simp [cF_eq x]
theorem sl_F2 {u:V} {x y:Fm} (h:u=.sl [[iV x.op,iV x.arg,.sl (x.kids.map cF)],[iV y.op,iV y.arg,.sl (y.kids.map cF)]]):u=.sl ([x,y].map cF):=by rw [h]; simp [cF_eq x,cF_eq y]
theorem row_F1 {u:V} {x:Fm} (h:u=.sl [[iV x.op,iV x.arg,.sl (x.kids.map cF)]]):u=.sl [cF x]:=by rw [h,cF_eq x]
@[simp] theorem canonLL_strs (l:List (List UInt8)):canonLL (l.map cS)=true:=canonLL_map _ _ fun a=>by simp [cS]
mutual
def Fm.sz:Fm→Nat
  | .nd _ _ k=>Fm.szs k+1
def Fm.szs:List Fm→Nat
  |[]=>0
  |f::l=>f.sz+Fm.szs l
end
theorem Fm.szs_nth: ∀ {l:List Fm} {k:Nat},k < l.length→(nth l k).sz≤Fm.szs l
  |[],k,h=>absurd h (Nat.not_lt_zero k)
  |f::l,0,_=>by show f.sz≤_; rw [Fm.szs]; omega
  | f :: l, k + 1, h => by
    have:=Fm.szs_nth (l:=l) (k:=k) (by simpa using h)
    show (nth l k).sz≤_
    rw [Fm.szs]; omega
theorem Fm.sz_kid {f:Fm} {k:Nat} (h:k < f.kids.length):(nth f.kids k).sz < f.sz:=by
  cases f with
  | nd o a l =>
    have:=Fm.szs_nth (l:=l) h
    rw [Fm.sz]; show (nth l k).sz < _; omega
mutual
def szm:Fm→Int→Int
  | .nd _ _ k,m=>szmL k 1 m
def szmL:List Fm→Int→Int→Int
  |[],n,_=>n
  |f::l,n,m=>if n≤m then szmL l (n+szm f (m - n)) m else n
end
theorem szm_eq (f:Fm) (m:Int):szm f m=szmL f.kids 1 m:=by cases f; rw [szm]; rfl
def kLo (o:Int):Int:=if o=4∨o=7∨o=9 then 1 else if o=8∨o=10 then 2 else if o=5∨o=6 then 2 else 0
def kHi (o:Int):Int:=if o=4∨o=7∨o=9 then 1 else if o=8∨o=10 then 2 else if o=5∨o=6 then -1 else 0
def rgt (f:Fm):Int:=
  if f.op < 1∨10 < f.op∨(f.kids.length:Int) < kLo f.op∨(0≤kHi f.op∧kHi f.op < f.kids.length)∨(¬(f.op=2∨f.op=3)∧f.arg≠0) then 1
  else if (f.op=2∧(f.arg < 0∨64≤f.arg))∨(f.op=3∧(f.arg < 0∨1048576 < f.arg)) then 2 else 0
mutual
def exm:Fm→Int→Int→Int×Int
  | .nd o a k,lv,b=>if 4096 < b+1 then (b+1,11) else if 64 < lv then (b+1,16) else if rgt (.nd o a k)≠0 then (b+1,rgt (.nd o a k)) else exmL k (lv+1) (b+1)
def exmL:List Fm→Int→Int→Int×Int
  |[],_,n=>(n,0)
  |f::l,lv,n=>if (exm f lv n).2≠0 then exm f lv n else exmL l lv (exm f lv n).1
end
theorem exm_eq (f:Fm) (lv b:Int):exm f lv b=if 4096 < b+1 then (b+1,11) else if 64 < lv then (b+1,16) else if rgt f≠0 then (b+1,rgt f) else exmL f.kids (lv+1) (b+1):=by
  cases f; rw [exm]; rfl
def fval (f:Fm):Int:=(exm f 1 0).2
theorem exmL_yes {l:List Fm} {lv n:Int} {k:Nat} (h:k < l.length) (he:(exm (nth l k) lv n).2≠0):exmL (l.drop k) lv n=exm (nth l k) lv n:=by rw [nth_drop h,exmL,if_pos he]
theorem exmL_no {l:List Fm} {lv n:Int} {k:Nat} (h:k < l.length) (he: ¬(exm (nth l k) lv n).2≠0):exmL (l.drop k) lv n=exmL (l.drop (k+1)) lv (exm (nth l k) lv n).1:=by rw [nth_drop h,exmL,if_neg he]
theorem exmL_end {l:List Fm} {lv n:Int} {k:Nat} (h:l.length≤k):exmL (l.drop k) lv n=(n,0):=by rw [List.drop_eq_nil_of_le h,exmL]
mutual
theorem exm_rng : ∀ (f : Fm) (lv b : Int), (exm f lv b).1 ≥ b + 1 ∧ ((exm f lv b).2 = 0 → (exm f lv b).1 ≤ 4096)
  | .nd o a k, lv, b => by
    rw [exm]
    split
    · exact ⟨by simp,fun h=>by simp at h⟩
    · split
      · exact ⟨by simp,fun h=>by simp at h⟩
      · split
        · rename_i h; exact ⟨by simp,fun h'=>absurd h' h⟩
        · have:=exmL_rng k (lv+1) (b+1) (by omega)
          exact ⟨this.1,this.2⟩
theorem exmL_rng: ∀ (l:List Fm) (lv n:Int),n≤4096→(exmL l lv n).1≥n∧((exmL l lv n).2=0→(exmL l lv n).1≤4096)
  |[],lv,n,h=>by rw [exmL]; exact ⟨Int.le_refl _,fun _=>h⟩
  | f :: l, lv, n, h => by
    have h1:=exm_rng f lv n
    rw [exmL]
    split
    · rename_i he; exact ⟨by omega,fun h'=>absurd h' he⟩
    · rename_i he
      have he':(exm f lv n).2=0:=by omega
      have h2:=exmL_rng l lv (exm f lv n).1 (h1.2 he')
      exact ⟨by omega,h2.2⟩
end
mutual
def sameF:Fm→Fm→Bool
  | .nd o a k,.nd o' a' k'=>decide (o=o')&&decide (a=a')&&decide (k.length=k'.length)&&sameL k k'
def sameL:List Fm→List Fm→Bool
  |f::l,g::m=>sameF f g&&sameL l m
  |_,_=>true
end
theorem sameF_eq (f g:Fm):sameF f g=(decide (f.op=g.op)&&decide (f.arg=g.arg)&&decide (f.kids.length=g.kids.length)&&sameL f.kids g.kids):=by cases f; cases g; rw [sameF]; rfl
theorem sameL_yes {l m:List Fm} {k:Nat} (h1:k < l.length) (h2:k < m.length) (h:sameF (nth l k) (nth m k)=true):sameL (l.drop k) (m.drop k)=sameL (l.drop (k+1)) (m.drop (k+1)):=by rw [nth_drop h1,nth_drop h2,sameL,h,Bool.true_and]
theorem sameL_no {l m:List Fm} {k:Nat} (h1:k < l.length) (h2:k < m.length) (h:sameF (nth l k) (nth m k)=false):sameL (l.drop k) (m.drop k)=false:=by rw [nth_drop h1,nth_drop h2,sameL,h,Bool.false_and]
theorem sameL_end {l m:List Fm} {k:Nat} (h1:l.length≤k):sameL (l.drop k) (m.drop k)=true:=by rw [List.drop_eq_nil_of_le h1]; rw [sameL]; intro f l' g m' h; cases h
mutual
theorem sameF_iff: ∀ f g:Fm,sameF f g=true↔f=g
  | .nd o a k, .nd o' a' k' => by
    rw [sameF]
    simp only [Bool.and_eq_true,decide_eq_true_eq]
    constructor
    · rintro ⟨⟨⟨rfl,rfl⟩,h⟩,h2⟩
      rw [(sameL_iff k k' h).1 h2]
    · rintro h
      cases h
      exact ⟨⟨⟨rfl,rfl⟩,rfl⟩,(sameL_iff k k rfl).2 rfl⟩
theorem sameL_iff: ∀ l m:List Fm,l.length=m.length→(sameL l m=true↔l=m)
  | [], [], _ => by
    rw [sameL]
    · simp
    · intro f l' g m' h; cases h
  |[],g::m,h=>by simp at h
  |f::l,[],h=>by simp at h
  | f :: l, g :: m, h => by
    rw [sameL]
    simp only [Bool.and_eq_true,sameF_iff f g,sameL_iff l m (by simpa using h)]
    constructor
    · rintro ⟨rfl,rfl⟩; rfl
    · rintro h'; cases h'; exact ⟨rfl,rfl⟩
end
theorem sameF_self (f:Fm):sameF f f=true:=(sameF_iff f f).2 rfl
theorem szmL_yes {l:List Fm} {n m:Int} {k:Nat} (h:k < l.length) (hm:n≤m):szmL (l.drop k) n m=szmL (l.drop (k+1)) (n+szm (nth l k) (m - n)) m:=by rw [nth_drop h,szmL,if_pos hm]
theorem szmL_no {l:List Fm} {n m:Int} {k:Nat} (hm: ¬n≤m):szmL (l.drop k) n m=n:=by
  cases h:l.drop k with
  |nil=>rw [szmL]
  |cons f r=>rw [szmL,if_neg hm]
theorem szmL_end {l:List Fm} {n m:Int} {k:Nat} (h:l.length≤k):szmL (l.drop k) n m=n:=by rw [List.drop_eq_nil_of_le h,szmL]
mutual
theorem szm_rng: ∀ (f:Fm) (m:Int),1≤szm f m∧(0≤m→szm f m≤m+1)
  | .nd o a k, m => by
    rw [szm]
    have:=szmL_rng k 1 m
    exact ⟨by omega,fun h=>this.2 (by omega)⟩
theorem szmL_rng: ∀ (l:List Fm) (n m:Int),n≤szmL l n m∧(n≤m+1→szmL l n m≤m+1)
  |[],n,m=>by rw [szmL]; exact ⟨Int.le_refl _,id⟩
  | f :: l, n, m => by
    rw [szmL]
    split
    · rename_i h
      have h1:=szm_rng f (m - n)
      have h2:=szmL_rng l (n+szm f (m - n)) m
      have h3:=h1.2 (by omega)
      exact ⟨by omega,fun _=>h2.2 (by omega)⟩
    · exact ⟨Int.le_refl _,id⟩
end
def dualI (o:Int):Int:=if o=5 then 6 else if o=6 then 5 else if o=7 then 9 else if o=9 then 7 else if o=8 then 10 else 8
def nop (o:Int) (b:Bool):Int:=if b=true then dualI o else o
mutual
def nrm:Fm→Bool→Fm
  | .nd o a [],b=>if o=4 then .nd 0 0 [] else if b=true then .nd 4 0 [.nd o a []] else .nd o a []
  | .nd o _ (f::l),b=>if o=4 then nrm f (!b) else .nd (nop o b) 0 (nrm f b::nrmL l b)
def nrmL:List Fm→Bool→List Fm
  |[],_=>[]
  |f::l,b=>nrm f b::nrmL l b
end
theorem nrmL_map: ∀ (l:List Fm) (b:Bool),nrmL l b=l.map fun f=>nrm f b
  |[],b=>by rw [nrmL]; rfl
  |f::l,b=>by rw [nrmL,nrmL_map l b]; rfl
theorem nrm_not {f:Fm} {b:Bool} (h:f.op=4) (hk:0 < f.kids.length):nrm f b=nrm (nth f.kids 0) (!b):=by
  cases f with
  | nd o a k =>
    cases k with
    |nil=>exact absurd hk (Nat.lt_irrefl _)
    |cons g l=>simp only [Fm.op] at h; rw [nrm,if_pos h]; rfl
theorem nrm_leafT {f:Fm} (h: ¬f.op=4) (hk:f.kids.length=0):nrm f true=.nd 4 0 [.nd f.op f.arg []]:=by
  cases f with
  | nd o a k =>
    cases k with
    |nil=>simp only [Fm.op] at h; rw [nrm,if_neg h,if_pos rfl]; rfl
    |cons g l=>simp [Fm.kids] at hk
theorem nrm_leafF {f:Fm} (h: ¬f.op=4) (hk:f.kids.length=0):nrm f false=.nd f.op f.arg []:=by
  cases f with
  | nd o a k =>
    cases k with
    |nil=>simp only [Fm.op] at h; rw [nrm,if_neg h,if_neg (by simp)]; rfl
    |cons g l=>simp [Fm.kids] at hk
theorem nrm_node {f:Fm} {b:Bool} (h: ¬f.op=4) (hk:f.kids.length≠0):nrm f b=.nd (nop f.op b) 0 (f.kids.map fun g=>nrm g b):=by
  cases f with
  | nd o a k =>
    cases k with
    |nil=>exact absurd rfl hk
    |cons g l=>simp only [Fm.op] at h; rw [nrm,if_neg h,nrmL_map]; rfl
mutual
def okF:Fm→Bool
  | .nd o a k=>decide (rgt (.nd o a k)=0)&&okL k
def okL:List Fm→Bool
  |[]=>true
  |f::l=>okF f&&okL l
end
theorem okF_eq (f:Fm):okF f=(decide (rgt f=0)&&okL f.kids):=by cases f; rw [okF]; rfl
theorem okL_nth: ∀ {l:List Fm} {k:Nat},okL l=true→k < l.length→okF (nth l k)=true
  |[],k,_,h=>absurd h (Nat.not_lt_zero k)
  |f::l,0,h,_=>by rw [okL,Bool.and_eq_true] at h; exact h.1
  |f::l,k+1,h,hk=>by rw [okL,Bool.and_eq_true] at h; exact okL_nth (k:=k) h.2 (by simpa using hk)
theorem okF_parts {f:Fm} (h:okF f=true):rgt f=0∧ ∀ k,k < f.kids.length→okF (nth f.kids k)=true:=by
  rw [okF_eq,Bool.and_eq_true,decide_eq_true_eq] at h
  exact ⟨h.1,fun k hk=>okL_nth h.2 hk⟩
mutual
theorem exm_ok : ∀ (f : Fm) (lv b : Int), (exm f lv b).2 = 0 → okF f = true
  | .nd o a k, lv, b, h => by
    rw [exm] at h
    split at h
    · simp at h
    · split at h
      · simp at h
      · split at h
        · rename_i h'; exact absurd h h'
        · rename_i h'
          rw [okF,exmL_ok k _ _ h,Bool.and_true]
          exact decide_eq_true (by omega)
theorem exmL_ok: ∀ (l:List Fm) (lv n:Int),(exmL l lv n).2=0→okL l=true
  |[],_,_,_=>by rw [okL]
  | f :: l, lv, n, h => by
    rw [exmL] at h
    split at h
    · rename_i h'; exact absurd h h'
    · rename_i h'
      rw [okL,exm_ok f lv n (by omega),exmL_ok l lv _ h]; rfl
end
theorem fval_ok {f:Fm} (h:fval f=0):okF f=true:=exm_ok f 1 0 h
theorem rgt_ok {f:Fm} (h:rgt f=0):1≤f.op∧f.op≤10∧((f.op=1∨f.op=2∨f.op=3)→f.kids.length=0)∧((f.op=4∨f.op=7∨f.op=9)→f.kids.length=1)∧((f.op=5∨f.op=6)→2≤f.kids.length)∧
    ((f.op=8∨f.op=10)→f.kids.length=2)∧(¬(f.op=2∨f.op=3)→f.arg=0)∧(f.op=2→0≤f.arg∧f.arg < 64)∧(f.op=3→0≤f.arg∧f.arg≤1048576):=by
  unfold rgt at h
  generalize f.kids.length=n at*
  generalize f.op=o at*
  generalize f.arg=a at*
  split at h
  · simp at h
  · rename_i h1
    split at h
    · simp at h
    · rename_i h2
      have e:o=1∨o=2∨o=3∨o=4∨o=5∨o=6∨o=7∨o=8∨o=9∨o=10:=by omega
      rcases e with e|e|e|e|e|e|e|e|e|e <;> subst e <;> simp [kLo,kHi] at h1 h2 ⊢ <;> omega
def zF:Fm:=.nd 0 0 []
def ngE (f:Fm):Int:=if fval f≠0 then fval f else fval (nrm f true)
def ngF (f:Fm):Fm:=if ngE f≠0 then zF else nrm f true
theorem mapTake {α β:Type} [Inhabited α] {g:α→β} {l:List α} {k:Nat} (h:k < l.length):(l.take (k+1)).map g=(l.take k).map g++[g (nth l k)]:=by
  rw [← nth_getElem h,List.take_succ_eq_append_getElem h,List.map_append]; rfl
theorem bk_op {v ty:Nat} {x y:Int} {a b:V} (h:x=y):bk v ty 3 [[iV x,a,b]]=bk v ty 3 [[iV y,a,b]]:=by rw [h]
mutual
theorem exm_sz : ∀ (f : Fm) (lv b : Int), (exm f lv b).2 = 0 → (exm f lv b).1 = b + f.sz
  | .nd o a k, lv, b, h => by
    rw [exm] at h ⊢
    split at h
    · simp at h
    · split at h
      · simp at h
      · split at h
        · rename_i h'; exact absurd h h'
        · rename_i h1 h2 h3
          rw [if_neg h1,if_neg h2,if_neg h3,exmL_sz k _ _ h,Fm.sz]; omega
theorem exmL_sz: ∀ (l:List Fm) (lv n:Int),(exmL l lv n).2=0→(exmL l lv n).1=n+Fm.szs l
  |[],_,n,_=>by rw [exmL,Fm.szs]; simp
  | f :: l, lv, n, h => by
    rw [exmL] at h ⊢
    split at h
    · rename_i h'; exact absurd h h'
    · rename_i h'
      rw [if_neg h',exmL_sz l lv _ h,exm_sz f lv n (by omega),Fm.szs]; omega
end
theorem fval_sz {f:Fm} (h:fval f=0):f.sz≤4096:=by
  have h1:=exm_sz f 1 0 h
  have h2:=(exm_rng f 1 0).2 h
  omega
theorem Fm.szs_len: ∀ l:List Fm,l.length≤Fm.szs l
  |[]=>Nat.le_refl _
  | f :: l => by
    have:=Fm.szs_len l
    have h:1≤f.sz:=by cases f; rw [Fm.sz]; omega
    rw [Fm.szs,List.length_cons]; omega
theorem Fm.sz_len (f:Fm):f.kids.length < f.sz:=by
  cases f with
  |nd o a k=>have:=Fm.szs_len k; rw [Fm.sz]; show k.length < _; omega
end Go.Proofs.Ytdmcmkccifmofaa
namespace Go.Proofs.Ytdmcmkccifmofaa
open Go Go.Proofs
theorem size_pure_step (f:Fm) (m:Int) (hm:m≤200∧ -1000000≤m) (ih: ∀ (g:Fm) (m:Int),g.sz < f.sz→m≤200∧ -1000000≤m→PureC Try.prog 10 [(V.agg [(iV (g.op)),(iV (g.arg)),(V.sl (List.map cF (g.kids)))]),(iV (m))] (iV (szm g m))):PureC Try.prog 10 [(V.agg [(iV (f.op)),(iV (f.arg)),(V.sl (List.map cF (f.kids)))]),(iV (m))] (iV (szm f m)):=by
 refine pW Try.func10 s10_ok fun hB=>?_
 unfold s10
 dsimp only
 refine W_r (R_box (i:=2) (n:=0) (m:=3) (cs:=[(iV (f.op)),(iV (f.arg)),(V.sl (List.map cF (f.kids)))]) rfl (congrArg Blk.ver rfl) rfl rfl rfl (R_mv rfl (R_e (W_r (R_mv rfl (R_e (W_seq_seq ?_)))))))
 refine W_r (R_mv rfl (R_e (W_seq_blockg fun Q1 n1 x1 y1 z1=>?_)))
 refine W_loop (fun mm T H=> ∃ (k:Nat) (n:Int),mm=f.kids.length - k∧T 1=(iV (m))∧T 2=(V.mp 2 1 0 0)∧T 5=(iV (n))∧T 6=(iV ((k:Nat):Int))∧H 2=(bk 1 24 3 [[(iV (f.op)),(iV (f.arg)),(V.sl (List.map cF (f.kids)))]])∧(k≤f.kids.length)∧(1≤n∧(n≤m+1∨n=1))∧(szm f m=szmL (f.kids.drop k) n m)) ?_ ?_
 ·
  refine ⟨_,0,1,rfl,rfl,rfl,rfl,(Eq.trans (@rfl V (iV (0:Int))) rfl),rfl,?_,?_,?_⟩
  · omega
  · omega
  · exact szm_eq f m
 intro mm T H ⟨k,n,hmm,t1,t2,t5,t6,h2,hk,hn,hc⟩ Q2 p12 p22 p32
 unfold b10_0
 refine W_seq_seq (W_r (R_mv t6 (R_fk t2 h2 (R_lk rfl h2 rfl rfl (R_len rfl (R_lss rfl rfl (R_mv rfl ?_)))))))
 refine Ops_seg 4 (fun T H=>T 1=(iV (m))∧T 2=(V.mp 2 1 0 0)∧T 5=(iV (n))∧T 6=(iV ((k:Nat):Int))∧T 16=(V.bool (decide ((((k:Nat):Int) < ((f.kids.length:Nat):Int))∧((n)≤(m)))))∧H 2=(bk 1 24 3 [[(iV (f.op)),(iV (f.arg)),(V.sl (List.map cF (f.kids)))]])∧True) ?_ ?_
 ·
  by_cases g3:((k:Nat):Int) < ((f.kids.length:Nat):Int)
  ·
   refine G_yes (edT g3 rfl) (R_mv t5 (G_yes (edT g3 rfl) (R_mv t1 (G_yes (edT g3 rfl) (R_leq rfl rfl (R_pickT (edT g3 rfl) rfl ?_))))))
   exact ⟨t1,t2,t5,t6,(dec_andT g3),h2,trivial⟩
  ·
   refine G_n (edF g3 rfl) (G_n (edF g3 rfl) (G_n (edF g3 rfl) (R_pickF (edF g3 rfl) rfl ?_)))
   exact ⟨t1,t2,t5,t6,(dec_andF g3),h2,trivial⟩
 intro T H ⟨t1,t2,t5,t6,t16,h2,_⟩
 refine R_e ?_
 refine W_seq_if t16 (fun c4=>?_) fun c4=>?_
 ·
  have q0:=szm_rng (nth f.kids k) (m - n)
  refine W_seq_skip (W_seq_blockg fun Q5 n5 x5 y5 z5=>(W_t (R_mv t5 (R_fk t2 h2 (R_lk rfl h2 rfl rfl (R_mv t6 (R_idxu (i:=k) (@rfl V (V.sl (List.map cF (f.kids)))) (@rfl V (iV ((k:Nat):Int))) (by omega) (cF_eq _) rfl ?_)))))))
  refine R_load_pp rfl rfl (R_mv t1 (R_mv t5 (R_sub rfl rfl (by omega) (by omega) (R_callk (ih (((nth (f.kids) (k)))) (((m) - (n))) (Fm.sz_kid (by omega)) (by omega)) rfl (R_add rfl rfl (by omega) (by omega) (R_mv rfl (R_e ?_)))))))
  refine n5 _ _ (.done (W_t (R_mv t6 (R_addN rfl (@rfl V (iV ((1:Nat):Int))) (by omega) (R_mv rfl (R_e ?_))))))
  refine p12 _ _ _ ?_ ⟨(k+1),n+szm (nth f.kids k) (m - n),rfl,t1,t2,(Eq.trans (@rfl V (iV ((n)+(szm (((nth (f.kids) (k)))) (((m) - (n))))))) (by rfl)),(Eq.trans (@rfl V (iV ((k+1:Nat):Int))) (by rfl)),h2,?_,?_,?_⟩
  · omega
  · omega
  · omega
  · rw [hc,szmL_yes (by omega) (by omega)]
 refine W_seq_exit (p32 _ _ _ (x1 _ _ (.done (W_r (R_mv t5 (R_mv rfl (R_e ?_)))))))
 refine W_ret ?_
 refine Ret_1 (@rfl V (iV (n))) (fz_int ?_)
 · rw [hc]; by_cases q:n≤m
   · rw [szmL_end (by omega)]
   · rw [szmL_no q]
theorem size_pure (f:Fm) (m:Int) (hm:m≤200∧ -1000000≤m):PureC Try.prog 10 [(V.agg [(iV (f.op)),(iV (f.arg)),(V.sl (List.map cF (f.kids)))]),(iV (m))] (iV (szm f m)):=by
  have key: ∀ (mm:Nat) (f:Fm) (m:Int),f.sz < mm→m≤200∧ -1000000≤m→PureC Try.prog 10 [(V.agg [(iV (f.op)),(iV (f.arg)),(V.sl (List.map cF (f.kids)))]),(iV (m))] (iV (szm f m)):=by
    intro mm
    induction mm with
    |zero=>intro f m hlt; exact absurd hlt (Nat.not_lt_zero _)
    | succ mm ih =>
      intro f m hlt hm
      exact size_pure_step f m hm fun f2 m2 hlt2=>ih f2 m2 (by omega)
  exact key (f.sz+1) f m (Nat.lt_succ_self _) hm
def r11_1:List SO:=[
 sO 25 (.call false 28 []),
 qM 24 25,
 qE 26 24 0,
 qE 27 24 1,
 sO 1 (.alloc 37 [.nilsl]),
 sO 2 (.alloc 37 [.nilsl]),
 sN (.store 1 (.t 1) (.t 26)),
 sN (.store 1 (.t 2) (.t 27))]
def r11_3:List SO:=[
 qL 31 3 3,
 sO 32 (.call false 27 [.c (.int .i64 2),.c (.int .i64 0),.c (.nilsl)]),
 sO 33 (.bslice 24 3 false [.int .i64 0,.int .i64 0,.nilsl] 1 [(0,.t 32)]),
 sO 34 (.call false 27 [.c (.int .i64 4),.c (.int .i64 0),.t 33]),
 sO 35 (.call false 27 [.c (.int .i64 3),.c (.int .i64 1),.c (.nilsl)]),
 sO 36 (.bslice 24 3 false [.int .i64 0,.int .i64 0,.nilsl] 2 [(0,.t 34),(1,.t 35)]),
 sO 37 (.call false 27 [.c (.int .i64 6),.c (.int .i64 0),.t 36]),
 sO 38 (.bslice 24 3 false [.int .i64 0,.int .i64 0,.nilsl] 2 [(0,.t 31),(1,.t 37)]),
 sO 39 (.call false 27 [.c (.int .i64 10),.c (.int .i64 0),.t 38]),
 sO 4 (.alloc 24 [.int .i64 0,.int .i64 0,.nilsl]),
 sN (.store 3 (.t 4) (.t 39))]
def r11_4:List SO:=[
 qL 41 1 1,
 qL 42 1 2,
 sO 43 (.call false 19 [.t 41,.t 42,.c (.str [71,32,40,105,110,58,99,111,105,110,32,45,62,32,111,117,116,58,111,107,41])]),
 qM 40 43,
 qE 44 40 0,
 qE 45 40 1,
 qE 46 40 2,
 sO 5 (.alloc 24 [.int .i64 0,.int .i64 0,.nilsl]),
 sN (.store 3 (.t 5) (.t 44)),
 qM 6 45,
 qM 7 46]
def r11_5:List SO:=[
 qL 48 1 1,
 qL 49 1 2,
 qL 50 3 4,
 sO 51 (.call false 21 [.t 48,.t 49,.t 50]),
 qM 47 51,
 qE 52 47 0,
 qE 53 47 1,
 qM 8 52,
 qM 9 53]
def r11_6:List SO:=[
 qL 55 3 4,
 sO 56 (.bslice 3 1 false [.int .i64 0] 2 [(0,.c (.int .i64 0)),(1,.c (.int .i64 1))]),
 sO 57 (.bslice 3 1 false [.int .i64 0] 2 [(0,.c (.int .i64 1)),(1,.c (.int .i64 0))]),
 sO 58 (.build [.nilsl,.nilsl] [(0,1,.t 56),(1,1,.t 57)]),
 sO 59 (.call false 23 [.t 55,.t 58]),
 qM 54 59,
 qE 60 54 0,
 qE 61 54 1,
 qM 10 60,
 qM 11 61]
def r11_7:List SO:=[
 qL 63 3 4,
 sO 64 (.bslice 3 1 false [.int .i64 0] 1 [(0,.c (.int .i64 0))]),
 sO 65 (.bslice 3 1 false [.int .i64 0] 1 [(0,.c (.int .i64 0))]),
 sO 66 (.build [.nilsl,.nilsl] [(0,1,.t 64),(1,1,.t 65)]),
 sO 67 (.call false 23 [.t 63,.t 66]),
 qM 62 67,
 qE 68 62 0,
 qE 69 62 1,
 qM 12 68,
 qM 13 69]
def r11_8:List SO:=[
 qL 71 3 4,
 sO 72 (.build [.nilsl,.nilsl] []),
 sO 73 (.call false 23 [.t 71,.t 72]),
 qM 70 73,
 qE 74 70 0,
 qE 75 70 1,
 qM 14 74,
 qM 15 75]
def r11_9:List SO:=[
 sO 77 (.call false 27 [.c (.int .i64 2),.c (.int .i64 0),.c (.nilsl)]),
 sO 78 (.bslice 24 3 false [.int .i64 0,.int .i64 0,.nilsl] 1 [(0,.t 77)]),
 sO 79 (.call false 27 [.c (.int .i64 7),.c (.int .i64 0),.t 78]),
 sO 80 (.call false 12 [.t 79]),
 qM 76 80,
 qE 81 76 0,
 qE 82 76 1,
 sO 16 (.alloc 24 [.int .i64 0,.int .i64 0,.nilsl]),
 sN (.store 3 (.t 16) (.t 81)),
 qM 17 82]
def r11_10:List SO:=[
 qL 84 1 1,
 qL 85 1 2,
 sO 86 (.call false 19 [.t 84,.t 85,.c (.str [105,110,58,99,111,105,110,32,85])]),
 qM 83 86,
 qE 87 83 0,
 qE 88 83 1,
 qE 89 83 2,
 sO 18 (.alloc 24 [.int .i64 0,.int .i64 0,.nilsl]),
 sN (.store 3 (.t 18) (.t 87)),
 qM 19 88,
 qM 20 89]
def r11_11:List SO:=[
 qL 91 1 1,
 qL 92 1 2,
 sO 93 (.call false 19 [.t 91,.t 92,.c (.str [105,110,58,107,105,99,107])]),
 qM 90 93,
 qE 94 90 0,
 qE 95 90 1,
 qE 96 90 2,
 sO 21 (.alloc 24 [.int .i64 0,.int .i64 0,.nilsl]),
 sN (.store 3 (.t 21) (.t 94)),
 qM 22 95,
 qM 23 96]
def r11_12:List SO:=[
 qL 97 3 5,
 qL 98 3 4,
 sO 99 (.call false 17 [.t 97,.t 98]),
 qM 100 99,
 ⟨some (100,true),some 101,.load true 3 (.t 5)⟩,
 ⟨some (100,true),some 102,.load true 3 (.t 4)⟩,
 ⟨some (100,true),some 103,.call false 16 [.t 101,.t 102]⟩,
 sO 104 (.pick (.t 100) (.t 103) (.c (.bool false))),
 qM 105 104,
 ⟨some (105,true),some 106,.mv (.t 6)⟩,
 ⟨some (105,true),some 107,.bin .eql (.t 106) (.c (.int .i64 0))⟩,
 sO 108 (.pick (.t 105) (.t 107) (.c (.bool false))),
 qM 109 108,
 ⟨some (109,true),some 110,.mv (.t 7)⟩,
 ⟨some (109,true),some 111,.bin .eql (.t 110) (.c (.int .i64 0))⟩,
 sO 112 (.pick (.t 109) (.t 111) (.c (.bool false))),
 qM 113 112,
 ⟨some (113,true),some 114,.mv (.t 8)⟩,
 ⟨some (113,true),some 115,.sbin .eql (.t 114) (.c (.str [33,116,114,117,101,32,82,32,40,33,105,110,58,99,111,105,110,32,124,32,111,117,116,58,111,107,41]))⟩,
 sO 116 (.pick (.t 113) (.t 115) (.c (.bool false))),
 qM 117 116,
 ⟨some (117,true),some 118,.mv (.t 9)⟩,
 ⟨some (117,true),some 119,.bin .eql (.t 118) (.c (.int .i64 0))⟩,
 sO 120 (.pick (.t 117) (.t 119) (.c (.bool false))),
 qM 121 120,
 ⟨some (121,true),some 122,.mv (.t 10)⟩,
 sO 123 (.pick (.t 121) (.t 122) (.c (.bool false))),
 qM 124 123,
 ⟨some (124,true),some 125,.mv (.t 11)⟩,
 ⟨some (124,true),some 126,.bin .eql (.t 125) (.c (.int .i64 0))⟩,
 sO 127 (.pick (.t 124) (.t 126) (.c (.bool false))),
 qM 128 127,
 ⟨some (128,true),some 129,.mv (.t 12)⟩,
 ⟨some (128,true),some 130,.un .not (.t 129)⟩,
 sO 131 (.pick (.t 128) (.t 130) (.c (.bool false))),
 qM 132 131,
 ⟨some (132,true),some 133,.mv (.t 13)⟩,
 ⟨some (132,true),some 134,.bin .eql (.t 133) (.c (.int .i64 0))⟩,
 sO 135 (.pick (.t 132) (.t 134) (.c (.bool false))),
 qM 136 135,
 ⟨some (136,true),some 137,.mv (.t 14)⟩,
 sO 138 (.pick (.t 136) (.t 137) (.c (.bool false))),
 qM 139 138,
 ⟨some (139,true),some 140,.mv (.t 15)⟩,
 ⟨some (139,true),some 141,.bin .eql (.t 140) (.c (.int .i64 0))⟩,
 sO 142 (.pick (.t 139) (.t 141) (.c (.bool false))),
 qM 143 142,
 ⟨some (143,true),some 144,.load true 3 (.t 16)⟩,
 ⟨some (143,true),some 145,.call false 27 [.c (.int .i64 2),.c (.int .i64 0),.c (.nilsl)]⟩,
 ⟨some (143,true),some 146,.bslice 24 3 false [.int .i64 0,.int .i64 0,.nilsl] 1 [(0,.t 145)]⟩,
 ⟨some (143,true),some 147,.call false 27 [.c (.int .i64 4),.c (.int .i64 0),.t 146]⟩,
 ⟨some (143,true),some 148,.bslice 24 3 false [.int .i64 0,.int .i64 0,.nilsl] 1 [(0,.t 147)]⟩,
 ⟨some (143,true),some 149,.call false 27 [.c (.int .i64 9),.c (.int .i64 0),.t 148]⟩,
 ⟨some (143,true),some 150,.call false 16 [.t 144,.t 149]⟩,
 sO 151 (.pick (.t 143) (.t 150) (.c (.bool false))),
 qM 152 151,
 ⟨some (152,true),some 153,.mv (.t 17)⟩,
 ⟨some (152,true),some 154,.bin .eql (.t 153) (.c (.int .i64 0))⟩,
 sO 155 (.pick (.t 152) (.t 154) (.c (.bool false))),
 qM 156 155,
 ⟨some (156,true),some 157,.mv (.t 19)⟩,
 ⟨some (156,true),some 158,.bin .eql (.t 157) (.c (.int .i64 9))⟩,
 sO 159 (.pick (.t 156) (.t 158) (.c (.bool false))),
 qM 160 159,
 ⟨some (160,true),some 161,.mv (.t 20)⟩,
 ⟨some (160,true),some 162,.bin .eql (.t 161) (.c (.int .i64 5))⟩,
 sO 163 (.pick (.t 160) (.t 162) (.c (.bool false))),
 qM 164 163,
 ⟨some (164,true),some 165,.mv (.t 22)⟩,
 ⟨some (164,true),some 166,.bin .eql (.t 165) (.c (.int .i64 0))⟩,
 sO 167 (.pick (.t 164) (.t 166) (.c (.bool false))),
 qM 168 167,
 ⟨some (168,true),some 169,.mv (.t 23)⟩,
 ⟨some (168,true),some 170,.bin .eql (.t 169) (.c (.int .i64 8))⟩,
 sO 171 (.pick (.t 168) (.t 170) (.c (.bool false))),
 qM 0 171]
def s11:SF:=⟨172,[.tmp 0],.seq (.reg [sO 0 (.mv (.c (.bool false)))]) (.seq (.reg r11_1) (.seq (.reg [sO 28 (.call false 27 [.c (.int .i64 1),.c (.int .i64 0),.c (.nilsl)]),sO 29 (.bslice 24 3 false [.int .i64 0,.int .i64 0,.nilsl] 1 [(0,.t 28)]),sO 30 (.call false 27 [.c (.int .i64 4),.c (.int .i64 0),.t 29]),sO 3 (.alloc 24 [.int .i64 0,.int .i64 0,.nilsl]),sN (.store 3 (.t 3) (.t 30))]) (.seq (.dreg [4] r11_3) (.seq (.reg r11_4) (.seq (.reg r11_5) (.seq (.reg r11_6) (.seq (.reg r11_7) (.seq (.reg r11_8) (.seq (.reg r11_9) (.seq (.reg r11_10) (.seq (.reg r11_11) (.seq (.reg r11_12) (.ret)))))))))))))⟩
theorem s11_ok:slimF Try.prog ⟨[31,36,37,38,40,41,42,44,45,59,60,61,65,66,67,71,72,73,81,82,84,92,93,98,99,102,104],[],[],[]⟩ Try.f11=some s11:=by kernel_rfl
def s12:SF:=⟨22,[.cell 2 true 3,.tmp 3],.seq (.reg [sO 1 (.box 24 3 (.t 0)),sO 2 (.alloc 24 [.int .i64 0,.int .i64 0,.nilsl]),qI 3 0]) (.seq (.seq (.reg [qL 7 3 1,sO 8 (.call false 14 [.t 7]),qM 4 8]) (.seq (.reg [qM 9 4,qC 10 .neq 9 0]) (.cond (.t 10) (.seq (.reg [sO 11 (.build [.int .i64 0,.int .i64 0,.nilsl] []),qM 12 4,sN (.store 3 (.t 2) (.t 11)),qM 3 12]) (.ret)) (.skip)))) (.seq (.reg [qL 13 3 1,sO 14 (.call false 29 [.t 13,.c (.bool true)]),sO 5 (.alloc 24 [.int .i64 0,.int .i64 0,.nilsl]),sN (.store 3 (.t 5) (.t 14))]) (.seq (.seq (.reg [qL 15 3 5,sO 16 (.call false 14 [.t 15]),qM 6 16]) (.seq (.reg [qM 17 6,qC 18 .neq 17 0]) (.cond (.t 18) (.seq (.reg [sO 19 (.build [.int .i64 0,.int .i64 0,.nilsl] []),qM 20 6,sN (.store 3 (.t 2) (.t 19)),qM 3 20]) (.ret)) (.skip)))) (.seq (.reg [qL 21 3 5,sN (.store 3 (.t 2) (.t 21)),qI 3 0]) (.ret)))))⟩
theorem s12_ok:slimF Try.prog ⟨[31,36,37,38,40,41,42,44,45,59,60,61,65,66,67,71,72,73,81,82,84,92,93,98,99,102,104],[],[],[]⟩ Try.f12=some s12:=by kernel_rfl
def s14:SF:=⟨9,[.tmp 2],.seq (.reg [sO 1 (.box 24 3 (.t 0)),qI 2 0]) (.seq (.reg [sO 4 (.build [.int .i64 0] []),sO 5 (.box 68 1 (.t 4)),qM 3 5]) (.seq (.reg [qM 6 3,qL 7 3 1,sO 8 (.call true 31 [.t 6,.t 7,.c (.int .i64 1)]),qM 2 8]) (.ret)))⟩
theorem s14_ok:slimF Try.prog ⟨[31,36,37,38,40,41,42,44,45,59,60,61,65,66,67,71,72,73,81,82,84,92,93,98,99,102,104],[],[],[]⟩ Try.f14=some s14:=by kernel_rfl
def r31_1:List SO:=[
 qM 11 0,
 sO 12 (.nilck (.t 11)),
 qF 13 0 12,
 ql 14 13,
 qC 15 .add 14 1,
 sO 16 (.nilck (.t 11)),
 qF 17 0 16,
 sN (.store 1 (.t 17) (.t 15))]
def b31_0:SC:=.seq (.reg [qP 36 .lss 35 34]) (.seq (.cond (.t 36) (.skip) (.exit 1)) (.seq (.block 2 (.seq (.reg [qA 37 3 33 35,qL 38 3 37,sO 9 (.alloc 24 [.int .i64 0,.int .i64 0,.nilsl]),sN (.store 3 (.t 9) (.t 38))]) (.seq (.reg [qM 39 0,qL 40 3 9,qM 41 2,qC 42 .add 41 1,sO 43 (.call true 31 [.t 39,.t 40,.t 42]),qM 10 43]) (.seq (.reg [qM 44 10,qC 45 .neq 44 0]) (.cond (.t 45) (.seq (.reg [qM 46 10,qM 6 46]) (.ret)) (.skip)))))) (.reg [qC 47 .add 35 1,qM 35 47])))
def s31:SF:=⟨48,[.tmp 6],.seq (.reg [sO 4 (.box 24 3 (.t 1)),qI 6 0]) (.seq (.reg r31_1) (.seq (.block 0 (.seq (.reg [qM 19 0,sO 20 (.nilck (.t 19)),qF 21 0 20,ql 22 21,qC 23 .gtr 22 4096,qM 18 23]) (.cond (.t 18) (.seq (.reg [qI 6 11]) (.ret)) (.seq (.reg [qM 25 2,qC 26 .gtr 25 64,qM 24 26]) (.cond (.t 24) (.seq (.reg [qI 6 16]) (.ret)) (.skip)))))) (.seq (.seq (.reg [qL 27 3 4,sO 28 (.call false 53 [.t 27]),qM 7 28]) (.seq (.reg [qM 29 7,qC 30 .neq 29 0]) (.cond (.t 30) (.seq (.reg [qM 31 7,qM 6 31]) (.ret)) (.skip)))) (.seq (.seq (.reg [qF 32 2 4,ql 33 32,qN 34 33,qI 35 0]) (.block 1 (.loop b31_0))) (.seq (.reg [qI 6 0]) (.ret))))))⟩
theorem s31_ok:slimF Try.prog ⟨[31,36,37,38,40,41,42,44,45,59,60,61,65,66,67,71,72,73,81,82,84,92,93,98,99,102,104],[],[],[]⟩ Try.f31=some s31:=by kernel_rfl
def r53_1:List SO:=[
 qF 8 0 1,
 ql 9 8,
 sO 10 (.call false 76 [.t 9]),
 qM 7 10,
 qE 11 7 0,
 qE 12 7 1,
 qM 3 11,
 qM 4 12]
def r53_3:List SO:=[
 qF 16 0 1,
 ql 17 16,
 qC 18 .eql 17 2,
 qM 19 18,
 ⟨some (19,false),some 20,.fld 0 (.t 1)⟩,
 ⟨some (19,false),some 21,.load false 1 (.t 20)⟩,
 ⟨some (19,false),some 22,.bin .eql (.t 21) (.c (.int .i64 3))⟩,
 sO 23 (.pick (.t 19) (.c (.bool true)) (.t 22)),
 qM 6 23]
def r53_4:List SO:=[
 qF 25 0 1,
 ql 26 25,
 qC 27 .lss 26 1,
 qM 28 27,
 ⟨some (28,false),some 29,.fld 0 (.t 1)⟩,
 ⟨some (28,false),some 30,.load false 1 (.t 29)⟩,
 ⟨some (28,false),some 31,.bin .gtr (.t 30) (.c (.int .i64 10))⟩,
 sO 32 (.pick (.t 28) (.c (.bool true)) (.t 31)),
 qM 33 32,
 ⟨some (33,false),some 34,.mv (.t 5)⟩,
 ⟨some (33,false),some 35,.mv (.t 3)⟩,
 ⟨some (33,false),some 36,.bin .lss (.t 34) (.t 35)⟩,
 sO 37 (.pick (.t 33) (.c (.bool true)) (.t 36)),
 qM 38 37,
 ⟨some (38,false),some 39,.mv (.t 4)⟩,
 ⟨some (38,false),some 40,.bin .geq (.t 39) (.c (.int .i64 0))⟩,
 ⟨some (38,false),some 41,.mv (.t 40)⟩,
 ⟨some (41,true),some 42,.mv (.t 5)⟩,
 ⟨some (41,true),some 43,.mv (.t 4)⟩,
 ⟨some (41,true),some 44,.bin .gtr (.t 42) (.t 43)⟩,
 ⟨some (38,false),some 45,.pick (.t 41) (.t 44) (.c (.bool false))⟩,
 sO 46 (.pick (.t 38) (.c (.bool true)) (.t 45)),
 qM 47 46,
 ⟨some (47,false),some 48,.mv (.t 6)⟩,
 ⟨some (47,false),some 49,.un .not (.t 48)⟩,
 ⟨some (47,false),some 50,.mv (.t 49)⟩,
 ⟨some (50,true),some 51,.fld 1 (.t 1)⟩,
 ⟨some (50,true),some 52,.load false 1 (.t 51)⟩,
 ⟨some (50,true),some 53,.bin .neq (.t 52) (.c (.int .i64 0))⟩,
 ⟨some (47,false),some 54,.pick (.t 50) (.t 53) (.c (.bool false))⟩,
 sO 55 (.pick (.t 47) (.c (.bool true)) (.t 54)),
 qM 24 55]
def r53_6:List SO:=[
 qF 57 0 1,
 ql 58 57,
 qC 59 .eql 58 2,
 qM 60 59,
 ⟨some (60,true),some 61,.fld 1 (.t 1)⟩,
 ⟨some (60,true),some 62,.load false 1 (.t 61)⟩,
 ⟨some (60,true),some 63,.bin .lss (.t 62) (.c (.int .i64 0))⟩,
 ⟨some (60,true),some 64,.mv (.t 63)⟩,
 ⟨some (64,false),some 65,.fld 1 (.t 1)⟩,
 ⟨some (64,false),some 66,.load false 1 (.t 65)⟩,
 ⟨some (64,false),some 67,.bin .geq (.t 66) (.c (.int .i64 64))⟩,
 ⟨some (60,true),some 68,.pick (.t 64) (.c (.bool true)) (.t 67)⟩,
 sO 69 (.pick (.t 60) (.t 68) (.c (.bool false))),
 qM 70 69,
 ⟨some (70,false),some 71,.fld 0 (.t 1)⟩,
 ⟨some (70,false),some 72,.load false 1 (.t 71)⟩,
 ⟨some (70,false),some 73,.bin .eql (.t 72) (.c (.int .i64 3))⟩,
 ⟨some (70,false),some 74,.mv (.t 73)⟩,
 ⟨some (74,true),some 75,.fld 1 (.t 1)⟩,
 ⟨some (74,true),some 76,.load false 1 (.t 75)⟩,
 ⟨some (74,true),some 77,.bin .lss (.t 76) (.c (.int .i64 0))⟩,
 ⟨some (74,true),some 78,.mv (.t 77)⟩,
 ⟨some (78,false),some 79,.fld 1 (.t 1)⟩,
 ⟨some (78,false),some 80,.load false 1 (.t 79)⟩,
 ⟨some (78,false),some 81,.bin .gtr (.t 80) (.c (.int .i64 1048576))⟩,
 ⟨some (74,true),some 82,.pick (.t 78) (.c (.bool true)) (.t 81)⟩,
 ⟨some (70,false),some 83,.pick (.t 74) (.t 82) (.c (.bool false))⟩,
 sO 84 (.pick (.t 70) (.c (.bool true)) (.t 83)),
 qM 56 84]
def s53:SF:=⟨85,[.tmp 2],.seq (.reg [sO 1 (.box 24 3 (.t 0)),qI 2 0]) (.seq (.reg r53_1) (.seq (.reg [qF 13 2 1,ql 14 13,qN 15 14,qM 5 15]) (.seq (.reg r53_3) (.seq (.block 0 (.seq (.reg r53_4) (.cond (.t 24) (.seq (.reg [qI 2 1]) (.ret)) (.seq (.reg r53_6) (.cond (.t 56) (.seq (.reg [qI 2 2]) (.ret)) (.skip)))))) (.seq (.reg [qI 2 0]) (.ret))))))⟩
theorem s53_ok:slimF Try.prog ⟨[31,36,37,38,40,41,42,44,45,59,60,61,65,66,67,71,72,73,81,82,84,92,93,98,99,102,104],[],[],[]⟩ Try.f53=some s53:=by kernel_rfl
def s76:SF:=⟨15,[.tmp 2,.tmp 3],.seq (.reg [qI 2 0,qI 3 0]) (.seq (.seq (.reg [qM 4 0]) (.block 0 (.seq (.seq (.reg [qC 6 .eql 4 4,qM 5 6]) (.cond (.t 5) (.skip) (.seq (.reg [qC 7 .eql 4 7,qM 5 7]) (.cond (.t 5) (.skip) (.reg [qC 8 .eql 4 9,qM 5 8]))))) (.cond (.t 5) (.seq (.reg [qI 2 1,qI 3 1]) (.ret)) (.seq (.seq (.reg [qC 10 .eql 4 8,qM 9 10]) (.cond (.t 9) (.skip) (.reg [qC 11 .eql 4 10,qM 9 11]))) (.cond (.t 9) (.seq (.reg [qI 2 2,qI 3 2]) (.ret)) (.seq (.seq (.reg [qC 13 .eql 4 5,qM 12 13]) (.cond (.t 12) (.skip) (.reg [qC 14 .eql 4 6,qM 12 14]))) (.cond (.t 12) (.seq (.reg [qI 2 2,sO 3 (.mv (.c (.int .i64 (-1))))]) (.ret)) (.skip))))))))) (.seq (.reg [qI 2 0,qI 3 0]) (.ret)))⟩
theorem s76_ok:slimF Try.prog ⟨[31,36,37,38,40,41,42,44,45,59,60,61,65,66,67,71,72,73,81,82,84,92,93,98,99,102,104],[],[],[]⟩ Try.f76=some s76:=by kernel_rfl
theorem kids_pure (o:Int):PureC Try.prog 76 [(iV (o))] (V.tup [(iV (kLo o)),(iV (kHi o))]):=by
 refine pW Try.func76 s76_ok fun hB=>?_
 unfold s76
 dsimp only
 refine W_r (R_mv rfl (R_mv rfl (R_e (W_seq_seq (W_r (R_mv rfl (R_e ?_)))))))
 refine W_seq_blockg fun Q1 n1 x1 y1 z1=>(W_seq_seq (W_r (R_eql rfl rfl (R_mv rfl (R_e ?_)))))
 refine W_seq_if rfl (fun c2=>?_) fun c2=>?_
 ·
  refine W_seq_skip ?_
  refine W_if rfl (fun c3=>?_) fun c3=>?_
  ·
   refine W_r (R_mv rfl (R_mv rfl (R_e (W_ret (y1 _ _ ?_)))))
   refine Ret_2 (@rfl V (iV (1:Int))) (@rfl V (iV (1:Int))) (fz_int ?_) (fz_int ?_)
   · simp only [kLo,kHi]; repeat (first|rfl|omega|split)
   · simp only [kLo,kHi]; repeat (first|rfl|omega|split)
  · exact (c3 c2).elim
 refine W_seq_seq (W_r (R_eql rfl rfl (R_mv rfl (R_e ?_))))
 refine W_seq_if rfl (fun c4=>?_) fun c4=>?_
 ·
  refine W_seq_skip ?_
  refine W_if rfl (fun c5=>?_) fun c5=>?_
  ·
   refine W_r (R_mv rfl (R_mv rfl (R_e (W_ret (y1 _ _ ?_)))))
   refine Ret_2 (@rfl V (iV (1:Int))) (@rfl V (iV (1:Int))) (fz_int ?_) (fz_int ?_)
   · simp only [kLo,kHi]; repeat (first|rfl|omega|split)
   · simp only [kLo,kHi]; repeat (first|rfl|omega|split)
  · exact (c5 c4).elim
 refine W_r (R_eql rfl rfl (R_mv rfl (R_e ?_)))
 refine W_if rfl (fun c6=>?_) fun c6=>?_
 ·
  refine W_r (R_mv rfl (R_mv rfl (R_e (W_ret (y1 _ _ ?_)))))
  refine Ret_2 (@rfl V (iV (1:Int))) (@rfl V (iV (1:Int))) (fz_int ?_) (fz_int ?_)
  · simp only [kLo,kHi]; repeat (first|rfl|omega|split)
  · simp only [kLo,kHi]; repeat (first|rfl|omega|split)
 refine W_seq_seq (W_r (R_eql rfl rfl (R_mv rfl (R_e ?_))))
 refine W_seq_if rfl (fun c7=>?_) fun c7=>?_
 ·
  refine W_seq_skip ?_
  refine W_if rfl (fun c8=>?_) fun c8=>?_
  ·
   refine W_r (R_mv rfl (R_mv rfl (R_e (W_ret (y1 _ _ ?_)))))
   refine Ret_2 (@rfl V (iV (2:Int))) (@rfl V (iV (2:Int))) (fz_int ?_) (fz_int ?_)
   · simp only [kLo,kHi]; repeat (first|rfl|omega|split)
   · simp only [kLo,kHi]; repeat (first|rfl|omega|split)
  · exact (c8 c7).elim
 refine W_r (R_eql rfl rfl (R_mv rfl (R_e ?_)))
 refine W_if rfl (fun c9=>?_) fun c9=>?_
 ·
  refine W_r (R_mv rfl (R_mv rfl (R_e (W_ret (y1 _ _ ?_)))))
  refine Ret_2 (@rfl V (iV (2:Int))) (@rfl V (iV (2:Int))) (fz_int ?_) (fz_int ?_)
  · simp only [kLo,kHi]; repeat (first|rfl|omega|split)
  · simp only [kLo,kHi]; repeat (first|rfl|omega|split)
 refine W_seq_seq (W_r (R_eql rfl rfl (R_mv rfl (R_e ?_))))
 refine W_seq_if rfl (fun c10=>?_) fun c10=>?_
 ·
  refine W_seq_skip ?_
  refine W_if rfl (fun c11=>?_) fun c11=>?_
  ·
   refine W_r (R_mv rfl (R_mv rfl (R_e (W_ret (y1 _ _ ?_)))))
   refine Ret_2 (@rfl V (iV (2:Int))) (@rfl V (iV (-1:Int))) (fz_int ?_) (fz_int ?_)
   · simp only [kLo,kHi]; repeat (first|rfl|omega|split)
   · simp only [kLo,kHi]; repeat (first|rfl|omega|split)
  · exact (c11 c10).elim
 refine W_r (R_eql rfl rfl (R_mv rfl (R_e ?_)))
 refine W_if rfl (fun c12=>?_) fun c12=>?_
 ·
  refine W_r (R_mv rfl (R_mv rfl (R_e (W_ret (y1 _ _ ?_)))))
  refine Ret_2 (@rfl V (iV (2:Int))) (@rfl V (iV (-1:Int))) (fz_int ?_) (fz_int ?_)
  · simp only [kLo,kHi]; repeat (first|rfl|omega|split)
  · simp only [kLo,kHi]; repeat (first|rfl|omega|split)
 refine W_skip (n1 _ _ (.done (W_r (R_mv rfl (R_mv rfl (R_e (W_ret ?_)))))))
 refine Ret_2 (@rfl V (iV (0:Int))) (@rfl V (iV (0:Int))) (fz_int ?_) (fz_int ?_)
 · simp only [kLo,kHi]; repeat (first|rfl|omega|split)
 · simp only [kLo,kHi]; repeat (first|rfl|omega|split)
theorem right_pure (f:Fm):PureC Try.prog 53 [(V.agg [(iV (f.op)),(iV (f.arg)),(V.sl (List.map cF (f.kids)))])] (iV (rgt f)):=by
 refine pW Try.func53 s53_ok fun hB=>?_
 unfold s53
 dsimp only
 refine W_r (R_box (i:=1) (n:=0) (m:=3) (cs:=[(iV (f.op)),(iV (f.arg)),(V.sl (List.map cF (f.kids)))]) rfl (congrArg Blk.ver rfl) rfl rfl rfl (R_mv rfl (R_e (W_r (R_fk rfl rfl (R_lk rfl rfl rfl rfl (R_callk (kids_pure ((f.op))) rfl ?_)))))))
 refine R_mv rfl (R_ext rfl rfl (R_ext rfl rfl (R_mv rfl (R_mv rfl (R_e (W_r (R_fk rfl rfl ?_)))))))
 refine R_lk rfl rfl rfl rfl (R_len rfl (R_mv rfl (R_e (W_r (R_fk rfl rfl (R_lk rfl rfl rfl rfl (R_eql rfl rfl ?_)))))))
 refine R_mv rfl ?_
 refine Ops_seg 4 (fun T H=>T 1=(V.mp 1 1 0 0)∧T 3=(iV (kLo ((f.op))))∧T 4=(iV (kHi ((f.op))))∧T 5=(iV ((f.kids.length:Nat):Int))∧T 23=(V.bool (decide (((f.op)=(2:Int))∨((f.op)=(3:Int)))))∧H 1=(bk 1 24 3 [[(iV (f.op)),(iV (f.arg)),(V.sl (List.map cF (f.kids)))]])∧True) ?_ ?_
 ·
  by_cases g1:(f.op)=(2:Int)
  ·
   refine G_n (edT g1 rfl) (G_n (edT g1 rfl) (G_n (edT g1 rfl) (R_pickT (edT g1 rfl) rfl ?_)))
   exact ⟨rfl,rfl,rfl,rfl,(dec_orT g1),rfl,trivial⟩
  ·
   refine G_yes (edF g1 rfl) (R_fk rfl rfl (G_yes (edF g1 rfl) (R_lk rfl rfl rfl rfl (G_yes (edF g1 rfl) (R_eql rfl rfl (R_pickF (edF g1 rfl) rfl ?_))))))
   exact ⟨rfl,rfl,rfl,rfl,(dec_orF g1),rfl,trivial⟩
 intro T H ⟨t1,t3,t4,t5,t23,h1,_⟩
 refine R_mv t23 (R_e (W_seq_blockg fun Q2 n2 x2 y2 z2=>?_))
 refine W_seq_regc (fun T H=>T 1=(V.mp 1 1 0 0)∧T 24=(V.bool (decide ((((((f.op) < (1:Int))∨((10:Int) < (f.op)))∨(((f.kids.length:Nat):Int) < (kLo ((f.op)))))∨(((0:Int)≤(kHi ((f.op))))∧((kHi ((f.op))) < ((f.kids.length:Nat):Int))))∨((¬(((f.op)=(2:Int))∨((f.op)=(3:Int))))∧((f.arg)≠(0:Int))))))∧H 1=(bk 1 24 3 [[(iV (f.op)),(iV (f.arg)),(V.sl (List.map cF (f.kids)))]])∧True) ?_ ?_
 ·
  refine R_fk t1 h1 (R_lk rfl h1 rfl rfl (R_lss rfl rfl (R_mv rfl ?_)))
  refine Ops_seg 4 (fun T H=>T 1=(V.mp 1 1 0 0)∧T 3=(iV (kLo ((f.op))))∧T 4=(iV (kHi ((f.op))))∧T 5=(iV ((f.kids.length:Nat):Int))∧T 6=(V.bool (decide (((f.op)=(2:Int))∨((f.op)=(3:Int)))))∧T 32=(V.bool (decide (((f.op) < (1:Int))∨((10:Int) < (f.op)))))∧H 1=(bk 1 24 3 [[(iV (f.op)),(iV (f.arg)),(V.sl (List.map cF (f.kids)))]])∧True) ?_ ?_
  ·
   by_cases g3:(f.op) < (1:Int)
   ·
    refine G_n (edT g3 rfl) (G_n (edT g3 rfl) (G_n (edT g3 rfl) (R_pickT (edT g3 rfl) rfl ?_)))
    exact ⟨t1,t3,t4,t5,rfl,(dec_orT g3),h1,trivial⟩
   ·
    refine G_yes (edF g3 rfl) (R_fk t1 h1 (G_yes (edF g3 rfl) (R_lk rfl h1 rfl rfl (G_yes (edF g3 rfl) (R_gtr rfl rfl (R_pickF (edF g3 rfl) rfl ?_))))))
    exact ⟨t1,t3,t4,t5,rfl,(dec_orF g3),h1,trivial⟩
  intro T H ⟨t1,t3,t4,t5,t6,t32,h1,_⟩
  refine R_mv t32 ?_
  refine Ops_seg 4 (fun T H=>T 1=(V.mp 1 1 0 0)∧T 4=(iV (kHi ((f.op))))∧T 5=(iV ((f.kids.length:Nat):Int))∧T 6=(V.bool (decide (((f.op)=(2:Int))∨((f.op)=(3:Int)))))∧T 37=(V.bool (decide ((((f.op) < (1:Int))∨((10:Int) < (f.op)))∨(((f.kids.length:Nat):Int) < (kLo ((f.op)))))))∧H 1=(bk 1 24 3 [[(iV (f.op)),(iV (f.arg)),(V.sl (List.map cF (f.kids)))]])∧True) ?_ ?_
  ·
   by_cases g4:((f.op) < (1:Int))∨((10:Int) < (f.op))
   ·
    refine G_n (edT g4 rfl) (G_n (edT g4 rfl) (G_n (edT g4 rfl) (R_pickT (edT g4 rfl) rfl ?_)))
    exact ⟨t1,t4,t5,t6,(dec_orT g4),h1,trivial⟩
   ·
    refine G_yes (edF g4 rfl) (R_mv t5 (G_yes (edF g4 rfl) (R_mv t3 (G_yes (edF g4 rfl) (R_lss rfl rfl (R_pickF (edF g4 rfl) rfl ?_))))))
    exact ⟨t1,t4,t5,t6,(dec_orF g4),h1,trivial⟩
  intro T H ⟨t1,t4,t5,t6,t37,h1,_⟩
  refine R_mv t37 ?_
  refine Ops_seg 8 (fun T H=>T 1=(V.mp 1 1 0 0)∧T 6=(V.bool (decide (((f.op)=(2:Int))∨((f.op)=(3:Int)))))∧T 46=(V.bool (decide (((((f.op) < (1:Int))∨((10:Int) < (f.op)))∨(((f.kids.length:Nat):Int) < (kLo ((f.op)))))∨(((0:Int)≤(kHi ((f.op))))∧((kHi ((f.op))) < ((f.kids.length:Nat):Int))))))∧H 1=(bk 1 24 3 [[(iV (f.op)),(iV (f.arg)),(V.sl (List.map cF (f.kids)))]])∧True) ?_ ?_
  ·
   by_cases g5:(((f.op) < (1:Int))∨((10:Int) < (f.op)))∨(((f.kids.length:Nat):Int) < (kLo ((f.op))))
   ·
    refine G_n (edT g5 rfl) (G_n (edT g5 rfl) (G_n (edT g5 rfl) (G_raw (@rfl V (V.raw undef)) (G_raw (@rfl V (V.raw undef)) (G_raw (@rfl V (V.raw undef)) (G_n (edT g5 rfl) (R_pickT (edT g5 rfl) rfl ?_)))))))
    exact ⟨t1,t6,(dec_orT g5),h1,trivial⟩
   ·
    refine G_yes (edF g5 rfl) (R_mv t4 (G_yes (edF g5 rfl) (R_geq rfl rfl (G_yes (edF g5 rfl) (R_mv rfl ?_)))))
    refine Ops_seg 4 (fun T H=>T 1=(V.mp 1 1 0 0)∧T 6=(V.bool (decide (((f.op)=(2:Int))∨((f.op)=(3:Int)))))∧T 38=(V.bool false)∧T 45=(V.bool (decide (((0:Int)≤(kHi ((f.op))))∧((kHi ((f.op))) < ((f.kids.length:Nat):Int)))))∧H 1=(bk 1 24 3 [[(iV (f.op)),(iV (f.arg)),(V.sl (List.map cF (f.kids)))]])∧True) ?_ ?_
    ·
     by_cases g6:(0:Int)≤(kHi ((f.op)))
     ·
      refine G_yes (edT g6 rfl) (R_mv t5 (G_yes (edT g6 rfl) (R_mv t4 (G_yes (edT g6 rfl) (R_gtr rfl rfl (G_yes (edF g5 rfl) (R_pickT (edT g6 rfl) rfl ?_)))))))
      exact ⟨t1,t6,(edF g5 rfl),(dec_andT g6),h1,trivial⟩
     ·
      refine G_n (edF g6 rfl) (G_n (edF g6 rfl) (G_n (edF g6 rfl) (G_yes (edF g5 rfl) (R_pickF (edF g6 rfl) rfl ?_))))
      exact ⟨t1,t6,(edF g5 rfl),(dec_andF g6),h1,trivial⟩
    intro T H ⟨t1,t6,t38,t45,h1,_⟩
    refine R_pickF t38 t45 ?_
    exact ⟨t1,t6,(dec_orF g5),h1,trivial⟩
  intro T H ⟨t1,t6,t46,h1,_⟩
  refine R_mv t46 ?_
  refine Ops_seg 8 (fun T H=>T 1=(V.mp 1 1 0 0)∧T 55=(V.bool (decide ((((((f.op) < (1:Int))∨((10:Int) < (f.op)))∨(((f.kids.length:Nat):Int) < (kLo ((f.op)))))∨(((0:Int)≤(kHi ((f.op))))∧((kHi ((f.op))) < ((f.kids.length:Nat):Int))))∨((¬(((f.op)=(2:Int))∨((f.op)=(3:Int))))∧((f.arg)≠(0:Int))))))∧H 1=(bk 1 24 3 [[(iV (f.op)),(iV (f.arg)),(V.sl (List.map cF (f.kids)))]])∧True) ?_ ?_
  ·
   by_cases g7:((((f.op) < (1:Int))∨((10:Int) < (f.op)))∨(((f.kids.length:Nat):Int) < (kLo ((f.op)))))∨(((0:Int)≤(kHi ((f.op))))∧((kHi ((f.op))) < ((f.kids.length:Nat):Int)))
   ·
    refine G_n (edT g7 rfl) (G_n (edT g7 rfl) (G_n (edT g7 rfl) (G_raw (@rfl V (V.raw undef)) (G_raw (@rfl V (V.raw undef)) (G_raw (@rfl V (V.raw undef)) (G_n (edT g7 rfl) (R_pickT (edT g7 rfl) rfl ?_)))))))
    exact ⟨t1,(dec_orT g7),h1,trivial⟩
   ·
    refine G_yes (edF g7 rfl) (R_mv t6 (G_yes (edF g7 rfl) (R_not rfl (G_yes (edF g7 rfl) (R_mv rfl ?_)))))
    refine Ops_seg 4 (fun T H=>T 1=(V.mp 1 1 0 0)∧T 47=(V.bool false)∧T 54=(V.bool (decide ((¬(((f.op)=(2:Int))∨((f.op)=(3:Int))))∧((f.arg)≠(0:Int)))))∧H 1=(bk 1 24 3 [[(iV (f.op)),(iV (f.arg)),(V.sl (List.map cF (f.kids)))]])∧True) ?_ ?_
    ·
     by_cases g8: ¬(((f.op)=(2:Int))∨((f.op)=(3:Int)))
     ·
      refine G_yes (edT g8 rfl) (R_fk t1 h1 (G_yes (edT g8 rfl) (R_lk rfl h1 rfl rfl (G_yes (edT g8 rfl) (R_neq rfl rfl (G_yes (edF g7 rfl) (R_pickT (edT g8 rfl) rfl ?_)))))))
      exact ⟨t1,(edF g7 rfl),(dec_andT g8),h1,trivial⟩
     ·
      refine G_n (edF g8 rfl) (G_n (edF g8 rfl) (G_n (edF g8 rfl) (G_yes (edF g7 rfl) (R_pickF (edF g8 rfl) rfl ?_))))
      exact ⟨t1,(edF g7 rfl),(dec_andF g8),h1,trivial⟩
    intro T H ⟨t1,t47,t54,h1,_⟩
    refine R_pickF t47 t54 ?_
    exact ⟨t1,(dec_orF g7),h1,trivial⟩
  intro T H ⟨t1,t55,h1,_⟩
  refine R_mv t55 ?_
  exact R_nil ⟨t1,rfl,h1,trivial⟩
 intro T H ⟨t1,t24,h1,_⟩
 refine W_if t24 (fun c9=>?_) fun c9=>?_
 ·
  refine W_r (R_mv rfl (R_e (W_ret (y2 _ _ ?_))))
  refine Ret_1 (@rfl V (iV (1:Int))) (fz_int ?_)
  · simp only [rgt]; repeat (first|rfl|omega|split)
 refine W_r (R_fk t1 h1 (R_lk rfl h1 rfl rfl (R_eql rfl rfl (R_mv rfl ?_))))
 refine Ops_seg 9 (fun T H=>T 1=(V.mp 1 1 0 0)∧T 69=(V.bool (decide (((f.op)=(2:Int))∧(((f.arg) < (0:Int))∨((64:Int)≤(f.arg))))))∧H 1=(bk 1 24 3 [[(iV (f.op)),(iV (f.arg)),(V.sl (List.map cF (f.kids)))]])∧True) ?_ ?_
 ·
  by_cases g10:(f.op)=(2:Int)
  ·
   refine G_yes (edT g10 rfl) (R_fk t1 h1 (G_yes (edT g10 rfl) (R_lk rfl h1 rfl rfl (G_yes (edT g10 rfl) (R_lss rfl rfl (G_yes (edT g10 rfl) (R_mv rfl ?_)))))))
   refine Ops_seg 4 (fun T H=>T 1=(V.mp 1 1 0 0)∧T 60=(V.bool true)∧T 68=(V.bool (decide (((f.arg) < (0:Int))∨((64:Int)≤(f.arg)))))∧H 1=(bk 1 24 3 [[(iV (f.op)),(iV (f.arg)),(V.sl (List.map cF (f.kids)))]])∧True) ?_ ?_
   ·
    by_cases g11:(f.arg) < (0:Int)
    ·
     refine G_n (edT g11 rfl) (G_n (edT g11 rfl) (G_n (edT g11 rfl) (G_yes (edT g10 rfl) (R_pickT (edT g11 rfl) rfl ?_))))
     exact ⟨t1,(edT g10 rfl),(dec_orT g11),h1,trivial⟩
    ·
     refine G_yes (edF g11 rfl) (R_fk t1 h1 (G_yes (edF g11 rfl) (R_lk rfl h1 rfl rfl (G_yes (edF g11 rfl) (R_geq rfl rfl (G_yes (edT g10 rfl) (R_pickF (edF g11 rfl) rfl ?_)))))))
     exact ⟨t1,(edT g10 rfl),(dec_orF g11),h1,trivial⟩
   intro T H ⟨t1,t60,t68,h1,_⟩
   refine R_pickT t60 t68 ?_
   exact ⟨t1,(dec_andT g10),h1,trivial⟩
  ·
   refine G_n (edF g10 rfl) (G_n (edF g10 rfl) (G_n (edF g10 rfl) (G_n (edF g10 rfl) (G_raw (@rfl V (V.raw undef)) (G_raw (@rfl V (V.raw undef)) (G_raw (@rfl V (V.raw undef)) (G_n (edF g10 rfl) ?_)))))))
   refine R_pickF (edF g10 rfl) rfl ?_
   exact ⟨t1,(dec_andF g10),h1,trivial⟩
 intro T H ⟨t1,t69,h1,_⟩
 refine R_mv t69 ?_
 refine Ops_seg 14 (fun T H=>T 84=(V.bool (decide ((((f.op)=(2:Int))∧(((f.arg) < (0:Int))∨((64:Int)≤(f.arg))))∨(((f.op)=(3:Int))∧(((f.arg) < (0:Int))∨((1048576:Int) < (f.arg)))))))∧H 1=(bk 1 24 3 [[(iV (f.op)),(iV (f.arg)),(V.sl (List.map cF (f.kids)))]])∧True) ?_ ?_
 ·
  by_cases g12:((f.op)=(2:Int))∧(((f.arg) < (0:Int))∨((64:Int)≤(f.arg)))
  ·
   refine G_n (edT g12 rfl) (G_n (edT g12 rfl) (G_n (edT g12 rfl) (G_n (edT g12 rfl) (G_raw (@rfl V (V.raw undef)) (G_raw (@rfl V (V.raw undef)) (G_raw (@rfl V (V.raw undef)) (G_raw (@rfl V (V.raw undef)) ?_)))))))
   refine G_raw (@rfl V (V.raw undef)) (G_raw (@rfl V (V.raw undef)) (G_raw (@rfl V (V.raw undef)) (G_raw (@rfl V (V.raw undef)) (G_n (edT g12 rfl) (R_pickT (edT g12 rfl) rfl ?_)))))
   exact ⟨(dec_orT g12),h1,trivial⟩
  ·
   refine G_yes (edF g12 rfl) (R_fk t1 h1 (G_yes (edF g12 rfl) (R_lk rfl h1 rfl rfl (G_yes (edF g12 rfl) (R_eql rfl rfl (G_yes (edF g12 rfl) (R_mv rfl ?_)))))))
   refine Ops_seg 9 (fun T H=>T 70=(V.bool false)∧T 83=(V.bool (decide (((f.op)=(3:Int))∧(((f.arg) < (0:Int))∨((1048576:Int) < (f.arg))))))∧H 1=(bk 1 24 3 [[(iV (f.op)),(iV (f.arg)),(V.sl (List.map cF (f.kids)))]])∧True) ?_ ?_
   ·
    by_cases g13:(f.op)=(3:Int)
    ·
     refine G_yes (edT g13 rfl) (R_fk t1 h1 (G_yes (edT g13 rfl) (R_lk rfl h1 rfl rfl (G_yes (edT g13 rfl) (R_lss rfl rfl (G_yes (edT g13 rfl) (R_mv rfl ?_)))))))
     refine Ops_seg 4 (fun T H=>T 70=(V.bool false)∧T 74=(V.bool true)∧T 82=(V.bool (decide (((f.arg) < (0:Int))∨((1048576:Int) < (f.arg)))))∧H 1=(bk 1 24 3 [[(iV (f.op)),(iV (f.arg)),(V.sl (List.map cF (f.kids)))]])∧True) ?_ ?_
     ·
      by_cases g14:(f.arg) < (0:Int)
      ·
       refine G_n (edT g14 rfl) (G_n (edT g14 rfl) (G_n (edT g14 rfl) (G_yes (edT g13 rfl) (R_pickT (edT g14 rfl) rfl ?_))))
       exact ⟨(edF g12 rfl),(edT g13 rfl),(dec_orT g14),h1,trivial⟩
      ·
       refine G_yes (edF g14 rfl) (R_fk t1 h1 (G_yes (edF g14 rfl) (R_lk rfl h1 rfl rfl (G_yes (edF g14 rfl) (R_gtr rfl rfl (G_yes (edT g13 rfl) (R_pickF (edF g14 rfl) rfl ?_)))))))
       exact ⟨(edF g12 rfl),(edT g13 rfl),(dec_orF g14),h1,trivial⟩
     intro T H ⟨t70,t74,t82,h1,_⟩
     refine G_yes t70 (R_pickT t74 t82 ?_)
     exact ⟨t70,(dec_andT g13),h1,trivial⟩
    ·
     refine G_n (edF g13 rfl) (G_n (edF g13 rfl) (G_n (edF g13 rfl) (G_n (edF g13 rfl) (G_raw (@rfl V (V.raw undef)) (G_raw (@rfl V (V.raw undef)) (G_raw (@rfl V (V.raw undef)) (G_n (edF g13 rfl) ?_)))))))
     refine G_yes (edF g12 rfl) (R_pickF (edF g13 rfl) rfl ?_)
     exact ⟨(edF g12 rfl),(dec_andF g13),h1,trivial⟩
   intro T H ⟨t70,t83,h1,_⟩
   refine R_pickF t70 t83 ?_
   exact ⟨(dec_orF g12),h1,trivial⟩
 intro T H ⟨t84,h1,_⟩
 refine R_mv t84 (R_e ?_)
 refine W_if rfl (fun c15=>?_) fun c15=>?_
 ·
  refine W_r (R_mv rfl (R_e (W_ret (y2 _ _ ?_))))
  refine Ret_1 (@rfl V (iV (2:Int))) (fz_int ?_)
  · simp only [rgt]; repeat (first|rfl|omega|split)
 refine W_skip (n2 _ _ (.done (W_r (R_mv rfl (R_e (W_ret ?_))))))
 refine Ret_1 (@rfl V (iV (0:Int))) (fz_int ?_)
 · simp only [rgt]; repeat (first|rfl|omega|split)
theorem check_step (v:Nat) (f:Fm) (lv b:Int) (hb:0≤b∧b≤4096) (hl:0≤lv∧lv≤65) (ih: ∀ (v:Nat) (g:Fm) (lv b:Int),g.sz < f.sz→0≤b∧b≤4096→0≤lv∧lv≤65→LocC Try.prog 31 1 [.mp 0 v 0 0,.agg [iV g.op,iV g.arg,.sl (g.kids.map cF)],iV lv] (hpB (bk v 68 1 [[iV b]])) (.ok (iV (exm g lv b).2) (hpB (bk v 68 1 [[iV (exm g lv b).1]])))):LocC Try.prog 31 1 [(V.mp 0 v 0 0),(V.agg [(iV (f.op)),(iV (f.arg)),(V.sl (List.map cF (f.kids)))]),(iV (lv))] (hpB (bk v 68 1 [[(iV (b))]])) (.ok (iV (exm f lv b).2) (hpB (bk v 68 1 [[iV (exm f lv b).1]]))):=by
 refine lW (k0:=0) Try.func31 s31_ok fun hB=>?_
 unfold s31
 dsimp only
 refine W_r (R_box (i:=4) (n:=0) (m:=3) (cs:=[(iV (f.op)),(iV (f.arg)),(V.sl (List.map cF (f.kids)))]) rfl (congrArg Blk.ver rfl) rfl rfl rfl (R_mv rfl (R_e (W_r (R_mv rfl (R_nilck_mp rfl rfl oB (R_fk rfl rfl ?_)))))))
 refine R_lk rfl rfl rfl rfl (R_add rfl rfl (by omega) (by omega) (R_nilck_mp rfl rfl oB (R_fk rfl rfl (R_sk rfl rfl rfl rfl rfl rfl rfl rfl rfl (R_e (W_seq_blockg fun Q1 n1 x1 y1 z1=>(W_r ?_)))))))
 refine R_mv rfl (R_nilck_mp rfl rfl oB (R_fk rfl rfl (R_lk rfl rfl rfl rfl (R_gtr rfl rfl (R_mv rfl (R_e ?_))))))
 refine W_if rfl (fun c2=>?_) fun c2=>?_
 ·
  refine W_r (R_mv rfl (R_e (W_ret (y1 _ _ ?_))))
  refine RetL_ok (v:=(iV (11:Int))) (b:=(bk v 68 1 [[(iV ((b)+(1:Int)))]])) (resT1 (resV_t (@rfl V (iV (11:Int))))) ?_ (by simp) (.same (cut_fin 1 _) _) (@rfl Blk (bk v 68 1 [[(iV ((b)+(1:Int)))]])) (by simp [locB,loc0])
  rw [exm_eq,if_pos (by omega)]
 refine W_r (R_mv rfl (R_gtr rfl rfl (R_mv rfl (R_e ?_))))
 refine W_if rfl (fun c3=>?_) fun c3=>?_
 ·
  refine W_r (R_mv rfl (R_e (W_ret (y1 _ _ ?_))))
  refine RetL_ok (v:=(iV (16:Int))) (b:=(bk v 68 1 [[(iV ((b)+(1:Int)))]])) (resT1 (resV_t (@rfl V (iV (16:Int))))) ?_ (by simp) (.same (cut_fin 1 _) _) (@rfl Blk (bk v 68 1 [[(iV ((b)+(1:Int)))]])) (by simp [locB,loc0])
  rw [exm_eq,if_neg (by omega),if_pos (by omega)]
 refine W_skip (n1 _ _ (.done (W_seq_seq (W_r (R_lk rfl rfl rfl rfl (R_callk (right_pure f) rfl (R_mv rfl ?_)))))))
 refine R_e (W_seq_seq (W_r (R_mv rfl (R_neq rfl rfl (R_e ?_)))))
 refine W_seq_if rfl (fun c4=>?_) fun c4=>?_
 ·
  refine W_seq_seq (W_r (R_mv rfl (R_mv rfl (R_e (W_seq_ret ?_)))))
  refine RetL_ok (v:=(iV (rgt f))) (b:=(bk v 68 1 [[(iV ((b)+(1:Int)))]])) (resT1 (resV_t (@rfl V (iV (rgt f))))) ?_ (by simp) (.same (cut_fin 1 _) _) (@rfl Blk (bk v 68 1 [[(iV ((b)+(1:Int)))]])) (by simp [locB,loc0])
  rw [exm_eq,if_neg (by omega),if_neg (by omega),if_pos (by omega)]
 refine W_seq_skip (W_seq_seq (W_r (R_fk rfl rfl (R_lk rfl rfl rfl rfl (R_len rfl (R_mv rfl (R_e ?_)))))))
 refine W_seq_blockg fun Q5 n5 x5 y5 z5=>?_
 refine W_loop (fun mm T H=> ∃ (k:Nat) (n:Int) (v9:Nat),mm=f.kids.length - k∧T 0=(V.mp 0 v 0 0)∧T 2=(iV (lv))∧T 33=(V.sl (List.map cF (f.kids)))∧T 34=(iV ((f.kids.length:Nat):Int))∧T 35=(iV ((k:Nat):Int))∧H 0=(bk v 68 1 [[(iV (n))]])∧H 4=(bk 1 24 3 [[(iV (f.op)),(iV (f.arg)),(V.sl (List.map cF (f.kids)))]])∧(H 9).ver=v9∧(k≤f.kids.length)∧(0≤n∧n≤4096)∧(exm f lv b=exmL (f.kids.drop k) (lv+1) n)) ?_ ?_
 ·
  refine ⟨_,0,b+1,0,rfl,rfl,rfl,rfl,rfl,(Eq.trans (@rfl V (iV (0:Int))) rfl),(Eq.trans (@rfl Blk (bk v 68 1 [[(iV ((b)+(1:Int)))]])) (by rfl)),rfl,(congrArg Blk.ver rfl),?_,?_,?_⟩
  · omega
  · omega
  · rw [exm_eq,if_neg (by omega),if_neg (by omega),if_neg (by omega)]; rfl
 intro mm T H ⟨k,n,v9,hmm,t0,t2,t33,t34,t35,h0,h4,h9,hk,hn,hc⟩ Q6 p16 p26 p36
 unfold b31_0
 refine W_r (R_lss t35 t34 (R_e ?_))
 refine W_seq_if rfl (fun c7=>?_) fun c7=>?_
 ·
  refine W_seq_skip (W_seq_blockg fun Q8 n8 x8 y8 z8=>(W_r (R_idxu (i:=k) t33 t35 (by omega) (cF_eq _) rfl (R_load_pp rfl rfl (R_alloc (i:=9) (n:=v9) (m:=3) rfl h9 rfl (R_sk rfl rfl rfl rfl rfl rfl rfl rfl rfl (R_e ?_)))))))
  refine W_r (R_mv t0 (R_lk rfl rfl rfl rfl (R_mv t2 (R_add rfl rfl (by omega) (by omega) (R_callE (evcons rfl (evcons rfl (evcons rfl evnil))) (LocC.use1 (i:=0) (ih v (((nth (f.kids) (k)))) (((lv)+(1:Int))) ((n)) (Fm.sz_kid (by omega)) (by omega) (by omega)) rfl h0 rfl rfl) (R_mv rfl (R_e ?_)))))))
  refine W_r (R_mv rfl (R_neq rfl rfl (R_e ?_)))
  refine W_if rfl (fun c9=>?_) fun c9=>?_
  ·
   have q0:=exm_rng (nth f.kids k) (lv+1) n
   refine W_r (R_mv rfl (R_mv rfl (R_e (W_ret (y8 _ _ (p26 _ _ (y5 _ _ ?_)))))))
   refine RetL_ok (v:=(iV ((exm (((nth (f.kids) (k)))) (((lv)+(1:Int))) ((n))).2))) (b:=(bk v 68 1 [[(iV ((exm (((nth (f.kids) (k)))) (((lv)+(1:Int))) ((n))).1))]])) (resT1 (resV_t (@rfl V (iV ((exm (((nth (f.kids) (k)))) (((lv)+(1:Int))) ((n))).2))))) ?_ (by simp) (.same (cut_fin 1 _) _) (@rfl Blk (bk v 68 1 [[(iV ((exm (((nth (f.kids) (k)))) (((lv)+(1:Int))) ((n))).1))]])) (by simp [locB,loc0])
   rw [hc,exmL_yes (by omega) (by omega)]
  have q0:=exm_rng (nth f.kids k) (lv+1) n
  refine W_skip (n8 _ _ (.done (W_t (R_addN t35 (@rfl V (iV ((1:Nat):Int))) (by omega) (R_mv rfl (R_e ?_))))))
  refine p16 _ _ _ ?_ ⟨(k+1),(exm (nth f.kids k) (lv+1) n).1,(v9+1),rfl,t0,t2,t33,t34,(Eq.trans (@rfl V (iV ((k+1:Nat):Int))) (by rfl)),(Eq.trans (@rfl Blk (bk v 68 1 [[(iV ((exm (((nth (f.kids) (k)))) (((lv)+(1:Int))) ((n))).1))]])) (by rfl)),h4,(congrArg Blk.ver rfl),?_,?_,?_⟩
  · omega
  · omega
  · exact ⟨by omega,q0.2 (by omega)⟩
  · rw [hc,exmL_no (by omega) (by omega)]
 refine W_seq_exit (p36 _ _ _ (x5 _ _ (.done (W_r (R_mv rfl (R_e (W_ret ?_)))))))
 refine RetL_ok (v:=(iV (0:Int))) (b:=(bk v 68 1 [[(iV (n))]])) (resT1 (resV_t (@rfl V (iV (0:Int))))) ?_ (by simp) (.same (cut_fin 1 _) _) h0 (by simp [locB,loc0])
 rw [hc,exmL_end (by omega)]
theorem check_loc (v:Nat) (f:Fm) (lv b:Int) (hb:0≤b∧b≤4096) (hl:0≤lv∧lv≤65):LocC Try.prog 31 1 [.mp 0 v 0 0,.agg [iV f.op,iV f.arg,.sl (f.kids.map cF)],iV lv] (hpB (bk v 68 1 [[iV b]])) (.ok (iV (exm f lv b).2) (hpB (bk v 68 1 [[iV (exm f lv b).1]]))):=by
  have key: ∀ (m:Nat) (v:Nat) (g:Fm) (lv b:Int),g.sz < m→0≤b∧b≤4096→0≤lv∧lv≤65→LocC Try.prog 31 1 [.mp 0 v 0 0,.agg [iV g.op,iV g.arg,.sl (g.kids.map cF)],iV lv] (hpB (bk v 68 1 [[iV b]])) (.ok (iV (exm g lv b).2) (hpB (bk v 68 1 [[iV (exm g lv b).1]]))):=by
    intro m
    induction m with
    |zero=>intro v g lv b h; exact absurd h (Nat.not_lt_zero _)
    | succ m ih =>
      intro v g lv b h hb hl
      exact check_step v g lv b hb hl fun v2 g2 lv2 b2 h2=>ih v2 g2 lv2 b2 (by omega)
  exact key (f.sz+1) v f lv b (Nat.lt_succ_self _) hb hl
theorem fvalid_pure (f:Fm):PureC Try.prog 14 [(V.agg [(iV (f.op)),(iV (f.arg)),(V.sl (List.map cF (f.kids)))])] (iV (fval f)):=by
 refine pW Try.func14 s14_ok fun hB=>?_
 unfold s14
 dsimp only
 refine W_r (R_box (i:=1) (n:=0) (m:=3) (cs:=[(iV (f.op)),(iV (f.arg)),(V.sl (List.map cF (f.kids)))]) rfl (congrArg Blk.ver rfl) rfl rfl rfl (R_mv rfl (R_e (W_r (R_build rfl rfl (R_box (i:=5) (n:=0) (m:=1) (cs:=[(iV (0:Int))]) rfl (congrArg Blk.ver rfl) rfl rfl rfl (R_mv rfl ?_)))))))
 refine R_e (W_r (R_mv rfl (R_lk rfl rfl rfl rfl (R_callE (evcons rfl (evcons rfl (evcons rfl evnil))) (LocC.use1 (i:=5) (check_loc 1 f ((1:Int)) ((0:Int)) (by omega) (by omega)) rfl rfl rfl rfl) (R_mv rfl (R_e (W_ret ?_)))))))
 refine Ret_1 (@rfl V (iV ((exm f ((1:Int)) ((0:Int))).2))) (fz_int ?_)
 · rfl
def r29_2:List SO:=[
 qF 12 2 2,
 ql 13 12,
 sO 14 (.idx 3 (.t 13) (.c (.int .i64 0))),
 qL 15 3 14,
 qM 16 1,
 sO 17 (.un .not (.t 16)),
 sO 18 (.call false 29 [.t 15,.t 17]),
 sN (.store 3 (.t 4) (.t 18))]
def r29_3:List SO:=[
 qF 20 2 2,
 ql 21 20,
 qN 22 21,
 qC 23 .eql 22 0,
 qM 24 23,
 ⟨some (24,true),some 25,.mv (.t 1)⟩,
 sO 26 (.pick (.t 24) (.t 25) (.c (.bool false))),
 qM 19 26]
def r29_4:List SO:=[
 qF 27 0 2,
 ql 28 27,
 qF 29 1 2,
 ql 30 29,
 sO 31 (.build [.int .i64 0,.int .i64 0,.nilsl] [(0,1,.t 28),(1,1,.t 30)]),
 sO 32 (.call false 50 [.t 31]),
 sN (.store 3 (.t 4) (.t 32))]
def r29_13:List SO:=[
 qF 58 2 5,
 ql 59 58,
 qL 60 3 7,
 qM 61 1,
 sO 62 (.call false 29 [.t 60,.t 61]),
 sO 63 (.bslice 24 3 false [.int .i64 0,.int .i64 0,.nilsl] 1 [(0,.t 62)]),
 sO 64 (.append 24 3 40 (.t 59) (.t 63)),
 qF 65 2 5,
 sN (.store 1 (.t 65) (.t 64))]
def b29_0:SC:=.seq (.reg [qP 55 .lss 54 53]) (.seq (.cond (.t 55) (.skip) (.exit 1)) (.seq (.block 2 (.seq (.reg [qA 56 3 52 54,qL 57 3 56,sO 7 (.alloc 24 [.int .i64 0,.int .i64 0,.nilsl]),sN (.store 3 (.t 7) (.t 57))]) (.reg r29_13))) (.reg [qC 66 .add 54 1,qM 54 66])))
def s29:SF:=⟨68,[.cell 4 true 3],.seq (.reg [sO 2 (.box 24 3 (.t 0)),sO 4 (.alloc 24 [.int .i64 0,.int .i64 0,.nilsl])]) (.seq (.block 0 (.seq (.reg [qF 9 0 2,ql 10 9,qC 11 .eql 10 4,qM 8 11]) (.cond (.t 8) (.seq (.reg r29_2) (.ret)) (.seq (.reg r29_3) (.cond (.t 19) (.seq (.reg r29_4) (.ret)) (.seq (.reg [qF 34 2 2,ql 35 34,qN 36 35,qC 37 .eql 36 0,qM 33 37]) (.cond (.t 33) (.seq (.reg [qF 38 0 2,ql 39 38,qF 40 1 2,ql 41 40,sO 42 (.build [.int .i64 0,.int .i64 0,.nilsl] [(0,1,.t 39),(1,1,.t 41)]),sN (.store 3 (.t 4) (.t 42))]) (.ret)) (.skip)))))))) (.seq (.reg [qF 43 0 2,ql 44 43,sO 45 (.build [.int .i64 0,.int .i64 0,.nilsl] [(0,1,.t 44)]),sO 5 (.alloc 24 [.int .i64 0,.int .i64 0,.nilsl]),sN (.store 3 (.t 5) (.t 45))]) (.seq (.seq (.reg [qM 46 1]) (.cond (.t 46) (.reg [qF 47 0 2,ql 48 47,sO 49 (.call false 51 [.t 48]),qF 50 0 5,sN (.store 1 (.t 50) (.t 49))]) (.skip))) (.seq (.seq (.reg [qF 51 2 2,ql 52 51,qN 53 52,qI 54 0]) (.block 1 (.loop b29_0))) (.seq (.reg [qL 67 3 5,sN (.store 3 (.t 4) (.t 67))]) (.ret))))))⟩
theorem s29_ok:slimF Try.prog ⟨[31,36,37,38,40,41,42,44,45,59,60,61,65,66,67,71,72,73,81,82,84,92,93,98,99,102,104],[],[],[]⟩ Try.f29=some s29:=by kernel_rfl
def s50:SF:=⟨6,[.cell 2 true 3],.seq (.reg [sO 1 (.box 24 3 (.t 0)),sO 2 (.alloc 24 [.int .i64 0,.int .i64 0,.nilsl])]) (.seq (.reg [qL 3 3 1,sO 4 (.bslice 24 3 false [.int .i64 0,.int .i64 0,.nilsl] 1 [(0,.t 3)]),sO 5 (.build [.int .i64 0,.int .i64 0,.nilsl] [(0,1,.c (.int .i64 4)),(2,1,.t 4)]),sN (.store 3 (.t 2) (.t 5))]) (.ret))⟩
theorem s50_ok:slimF Try.prog ⟨[31,36,37,38,40,41,42,44,45,59,60,61,65,66,67,71,72,73,81,82,84,92,93,98,99,102,104],[],[],[]⟩ Try.f50=some s50:=by kernel_rfl
theorem not_pure (f:Fm):PureC Try.prog 50 [(V.agg [(iV (f.op)),(iV (f.arg)),(V.sl (List.map cF (f.kids)))])] (V.agg [(iV (4:Int)),(iV (0:Int)),(V.sl (List.map cF ([f])))]):=by
 refine pW Try.func50 s50_ok fun hB=>?_
 unfold s50
 dsimp only
 refine W_r (R_box (i:=1) (n:=0) (m:=3) (cs:=[(iV (f.op)),(iV (f.arg)),(V.sl (List.map cF (f.kids)))]) rfl (congrArg Blk.ver rfl) rfl rfl rfl (R_alloc (i:=2) (n:=0) (m:=3) rfl (congrArg Blk.ver rfl) rfl (R_e (W_r (R_lk rfl rfl rfl rfl (R_bslice rfl rfl (R_build rfl rfl ?_)))))))
 refine R_sk rfl rfl rfl rfl rfl rfl rfl rfl rfl (R_e (W_ret ?_))
 refine RetC_1 (resV_c (u:=(V.agg [(iV (4:Int)),(iV (0:Int)),(V.sl [[(iV (f.op)),(iV (f.arg)),(V.sl (List.map cF (f.kids)))]])])) rfl (@rfl Blk (bk 1 24 3 [[(iV (4:Int)),(iV (0:Int)),(V.sl [[(iV (f.op)),(iV (f.arg)),(V.sl (List.map cF (f.kids)))]])]])) (lB oB rfl rfl)) (fz_agg3 (fz_canon (by simp) rfl) (fz_canon (by simp) rfl) (fz_canon (by simp) (sl_F1 (x:=f) rfl)))
def s51:SF:=⟨14,[.tmp 2],.seq (.reg [qI 2 0]) (.seq (.seq (.reg [qM 3 0]) (.block 0 (.seq (.reg [qC 5 .eql 3 5,qM 4 5]) (.cond (.t 4) (.seq (.reg [qI 2 6]) (.ret)) (.seq (.reg [qC 7 .eql 3 6,qM 6 7]) (.cond (.t 6) (.seq (.reg [qI 2 5]) (.ret)) (.seq (.reg [qC 9 .eql 3 7,qM 8 9]) (.cond (.t 8) (.seq (.reg [qI 2 9]) (.ret)) (.seq (.reg [qC 11 .eql 3 9,qM 10 11]) (.cond (.t 10) (.seq (.reg [qI 2 7]) (.ret)) (.seq (.reg [qC 13 .eql 3 8,qM 12 13]) (.cond (.t 12) (.seq (.reg [qI 2 10]) (.ret)) (.skip))))))))))))) (.seq (.reg [qI 2 8]) (.ret)))⟩
theorem s51_ok:slimF Try.prog ⟨[31,36,37,38,40,41,42,44,45,59,60,61,65,66,67,71,72,73,81,82,84,92,93,98,99,102,104],[],[],[]⟩ Try.f51=some s51:=by kernel_rfl
theorem dual_pure (o:Int):PureC Try.prog 51 [(iV (o))] (iV (dualI o)):=by
 refine pW Try.func51 s51_ok fun hB=>?_
 unfold s51
 dsimp only
 refine W_r (R_mv rfl (R_e (W_seq_seq (W_r (R_mv rfl (R_e (W_seq_blockg fun Q1 n1 x1 y1 z1=>?_)))))))
 refine W_r (R_eql rfl rfl (R_mv rfl (R_e ?_)))
 refine W_if rfl (fun c2=>?_) fun c2=>?_
 ·
  refine W_r (R_mv rfl (R_e (W_ret (y1 _ _ ?_))))
  refine Ret_1 (@rfl V (iV (6:Int))) (fz_int ?_)
  · simp only [dualI]; repeat (first|rfl|omega|split)
 refine W_r (R_eql rfl rfl (R_mv rfl (R_e ?_)))
 refine W_if rfl (fun c3=>?_) fun c3=>?_
 ·
  refine W_r (R_mv rfl (R_e (W_ret (y1 _ _ ?_))))
  refine Ret_1 (@rfl V (iV (5:Int))) (fz_int ?_)
  · simp only [dualI]; repeat (first|rfl|omega|split)
 refine W_r (R_eql rfl rfl (R_mv rfl (R_e ?_)))
 refine W_if rfl (fun c4=>?_) fun c4=>?_
 ·
  refine W_r (R_mv rfl (R_e (W_ret (y1 _ _ ?_))))
  refine Ret_1 (@rfl V (iV (9:Int))) (fz_int ?_)
  · simp only [dualI]; repeat (first|rfl|omega|split)
 refine W_r (R_eql rfl rfl (R_mv rfl (R_e ?_)))
 refine W_if rfl (fun c5=>?_) fun c5=>?_
 ·
  refine W_r (R_mv rfl (R_e (W_ret (y1 _ _ ?_))))
  refine Ret_1 (@rfl V (iV (7:Int))) (fz_int ?_)
  · simp only [dualI]; repeat (first|rfl|omega|split)
 refine W_r (R_eql rfl rfl (R_mv rfl (R_e ?_)))
 refine W_if rfl (fun c6=>?_) fun c6=>?_
 ·
  refine W_r (R_mv rfl (R_e (W_ret (y1 _ _ ?_))))
  refine Ret_1 (@rfl V (iV (10:Int))) (fz_int ?_)
  · simp only [dualI]; repeat (first|rfl|omega|split)
 refine W_skip (n1 _ _ (.done (W_r (R_mv rfl (R_e (W_ret ?_))))))
 refine Ret_1 (@rfl V (iV (8:Int))) (fz_int ?_)
 · simp only [dualI]; repeat (first|rfl|omega|split)
theorem normal_pure_step (f:Fm) (b:Bool) (hf:okF f=true) (hz:f.sz≤4096) (ih: ∀ (g:Fm) (b:Bool),g.sz < f.sz→okF g=true→g.sz≤4096→PureC Try.prog 29 [(V.agg [(iV (g.op)),(iV (g.arg)),(V.sl (List.map cF (g.kids)))]),(V.bool b)] (V.agg [(iV ((nrm g b).op)),(iV ((nrm g b).arg)),(V.sl (List.map cF ((nrm g b).kids)))])):PureC Try.prog 29 [(V.agg [(iV (f.op)),(iV (f.arg)),(V.sl (List.map cF (f.kids)))]),(V.bool b)] (V.agg [(iV ((nrm f b).op)),(iV ((nrm f b).arg)),(V.sl (List.map cF ((nrm f b).kids)))]):=by
 refine pW Try.func29 s29_ok fun hB=>?_
 unfold s29
 dsimp only
 have hp:=okF_parts hf
 have hr:=rgt_ok hp.1
 have hln:=f.sz_len
 refine W_r (R_box (i:=2) (n:=0) (m:=3) (cs:=[(iV (f.op)),(iV (f.arg)),(V.sl (List.map cF (f.kids)))]) rfl (congrArg Blk.ver rfl) rfl rfl rfl (R_alloc (i:=4) (n:=0) (m:=3) rfl (congrArg Blk.ver rfl) rfl (R_e (W_seq_blockg fun Q1 n1 x1 y1 z1=>(W_r (R_fk rfl rfl (R_lk rfl rfl rfl rfl ?_)))))))
 refine R_eql rfl rfl (R_mv rfl (R_e ?_))
 refine W_if rfl (fun c2=>?_) fun c2=>?_
 ·
  refine W_r (R_fk rfl rfl (R_lk rfl rfl rfl rfl (R_idxu (i:=0) (@rfl V (V.sl (List.map cF (f.kids)))) (@rfl V (iV ((0:Nat):Int))) (by omega) (cF_eq _) rfl (R_load_pp rfl rfl (R_mv rfl (R_notb rfl (R_callk (ih (((nth (f.kids) (0)))) ((!b)) (Fm.sz_kid (by omega)) (hp.2 _ (by omega)) (Nat.le_trans (Nat.le_of_lt (Fm.sz_kid (by omega))) hz)) rfl ?_)))))))
  refine R_sk rfl rfl rfl rfl rfl rfl rfl rfl rfl (R_e (W_ret (y1 _ _ ?_)))
  refine RetC_1 (resV_c (u:=(V.agg [(iV ((nrm (((nth (f.kids) (0)))) ((!b))).op)),(iV ((nrm (((nth (f.kids) (0)))) ((!b))).arg)),(V.sl (List.map cF ((nrm (((nth (f.kids) (0)))) ((!b))).kids)))])) rfl (@rfl Blk (bk 1 24 3 [[(iV ((nrm (((nth (f.kids) (0)))) ((!b))).op)),(iV ((nrm (((nth (f.kids) (0)))) ((!b))).arg)),(V.sl (List.map cF ((nrm (((nth (f.kids) (0)))) ((!b))).kids)))]])) (lB oB rfl rfl)) (fz_agg3 (fz_int ?_) (fz_int ?_) (fz_sl ?_ (fun _=>by simp)))
  · rw [nrm_not (f:=f) (b:=b) (by omega) (by omega)]
  · rw [nrm_not (f:=f) (b:=b) (by omega) (by omega)]
  · rw [nrm_not (f:=f) (b:=b) (by omega) (by omega)]
 refine W_r (R_fk rfl rfl (R_lk rfl rfl rfl rfl (R_len rfl (R_eql rfl rfl (R_mv rfl ?_)))))
 refine Ops_seg 2 (fun T H=>T 1=(V.bool b)∧T 2=(V.mp 2 1 0 0)∧T 4=(V.mp 4 1 0 0)∧T 26=(V.bool ((decide (((f.kids.length:Nat):Int)=(0:Int))&&b)))∧H 2=(bk 1 24 3 [[(iV (f.op)),(iV (f.arg)),(V.sl (List.map cF (f.kids)))]])∧H 4=(bk 1 24 3 [[(iV (0:Int)),(iV (0:Int)),V.nilsl]])∧H 5=(⟨0,false,false,0,0,[]⟩:Blk)∧H 7=(⟨0,false,false,0,0,[]⟩:Blk)∧H 553=(⟨0,false,false,0,0,[]⟩:Blk)∧True) ?_ ?_
 ·
  by_cases g3:((f.kids.length:Nat):Int)=(0:Int)
  ·
   refine G_yes (edT g3 rfl) (R_mv rfl (R_pickT (edT g3 rfl) rfl ?_))
   exact ⟨rfl,rfl,rfl,(dbandT g3),rfl,rfl,rfl,rfl,rfl,trivial⟩
  ·
   refine G_n (edF g3 rfl) (R_pickF (edF g3 rfl) rfl ?_)
   exact ⟨rfl,rfl,rfl,(dbandF g3),rfl,rfl,rfl,rfl,rfl,trivial⟩
 intro T H ⟨t1,t2,t4,t26,h2,h4,h5,h7,h553,_⟩
 refine R_mv t26 (R_e ?_)
 refine W_ifb rfl (fun c4=>?_) (fun c4=>?_)
 ·
  have q:=c4
  rw [Bool.and_eq_true,decide_eq_true_eq] at q
  obtain ⟨q1,hb⟩:=q
  refine W_r (R_fk t2 h2 (R_lk rfl h2 rfl rfl (R_fk t2 h2 (R_lk rfl h2 rfl rfl (R_build rfl rfl (R_call (evcons (@rfl V (V.agg [(iV (f.op)),(iV (f.arg)),V.nilsl])) evnil) (not_pure (⟨((f.op)),((f.arg)),([])⟩:Fm)) (mcons (by rfl) rfl) (by simp [-List.map_take,-List.map_drop,-List.map_append,-List.map_reverse]) (Or.inl (by simp [-List.map_take,-List.map_drop,-List.map_append,-List.map_reverse])) (R_sk t4 rfl rfl h4 rfl rfl rfl rfl rfl ?_)))))))
  refine R_e (W_ret (y1 _ _ ?_))
  refine RetC_1 (resV_c (u:=(V.agg [(iV (4:Int)),(iV (0:Int)),(V.sl (List.map cF ([(⟨((f.op)),((f.arg)),([])⟩:Fm)])))])) t4 (@rfl Blk (bk 1 24 3 [[(iV (4:Int)),(iV (0:Int)),(V.sl (List.map cF ([(⟨((f.op)),((f.arg)),([])⟩:Fm)])))]])) (lB oB rfl rfl)) (fz_agg3 (fz_int ?_) (fz_int ?_) (fz_sl ?_ (fun _=>by simp)))
  · rw [hb,nrm_leafT (by omega) (by omega)]; rfl
  · rw [hb,nrm_leafT (by omega) (by omega)]; rfl
  · rw [hb,nrm_leafT (by omega) (by omega)]; rfl
 have d0:=c4
 refine W_r (R_fk t2 h2 (R_lk rfl h2 rfl rfl (R_len rfl (R_eql rfl rfl (R_mv rfl (R_e ?_))))))
 refine W_if rfl (fun c5=>?_) fun c5=>?_
 ·
  have hb:b=false:=by cases hbb:b with
    |false=>rfl
    |true=>rw [hbb,Bool.and_true] at d0; exact absurd c5 (of_decide_eq_false d0)
  refine W_r (R_fk t2 h2 (R_lk rfl h2 rfl rfl (R_fk t2 h2 (R_lk rfl h2 rfl rfl (R_build rfl rfl (R_sk t4 rfl rfl h4 rfl rfl rfl rfl rfl (R_e ?_)))))))
  refine W_ret (y1 _ _ ?_)
  refine RetC_1 (resV_c (u:=(V.agg [(iV (f.op)),(iV (f.arg)),V.nilsl])) t4 (@rfl Blk (bk 1 24 3 [[(iV (f.op)),(iV (f.arg)),V.nilsl]])) (lB oB rfl rfl)) (fz_agg3 (fz_int ?_) (fz_int ?_) (fz_nil ?_))
  · rw [hb,nrm_leafF (by omega) (by omega)]; rfl
  · rw [hb,nrm_leafF (by omega) (by omega)]; rfl
  · rw [hb,nrm_leafF (by omega) (by omega)]; rfl
 refine W_skip (n1 _ _ (.done (W_r (R_fk t2 h2 (R_lk rfl h2 rfl rfl (R_build rfl rfl (R_alloc (i:=5) (n:=0) (m:=3) rfl (congrArg Blk.ver h5) rfl ?_)))))))
 refine R_sk rfl rfl rfl rfl rfl rfl rfl rfl rfl (R_e (W_seq_seq (W_r (R_mv t1 (R_e ?_)))))
 refine W_seq_ifb rfl (fun c6=>?_) (fun c6=>?_)
 ·
  have hb:b=true:=c6
  refine W_r (R_fk t2 h2 (R_lk rfl h2 rfl rfl (R_callk (dual_pure ((f.op))) rfl (R_fk rfl rfl (R_sk rfl rfl rfl rfl rfl rfl rfl rfl rfl (R_e (W_seq_seq ?_)))))))
  refine W_seq_g (fun T H=>T 1=(V.bool b)∧T 4=(V.mp 4 1 0 0)∧T 5=(V.mp 5 1 0 0)∧T 52=(V.sl (List.map cF (f.kids)))∧T 53=(iV ((f.kids.length:Nat):Int))∧T 54=(iV (0:Int))∧H 2=(bk 1 24 3 [[(iV (f.op)),(iV (f.arg)),(V.sl (List.map cF (f.kids)))]])∧H 4=(bk 1 24 3 [[(iV (0:Int)),(iV (0:Int)),V.nilsl]])∧H 5=(bk 1 24 3 [[(iV (dualI ((f.op)))),(iV (0:Int)),V.nilsl]])∧H 7=(⟨0,false,false,0,0,[]⟩:Blk)∧H 553=(⟨0,false,false,0,0,[]⟩:Blk)∧True) ?_ ?_
  ·
   refine R_fk t2 h2 (R_lk rfl h2 rfl rfl (R_len rfl (R_mv rfl ?_)))
   exact R_nil ⟨t1,t4,rfl,rfl,rfl,rfl,h2,h4,rfl,h7,h553,trivial⟩
  intro T H ⟨t1,t4,t5,t52,t53,t54,h2,h4,h5,h7,h553,_⟩
  refine .lazyCell 553 24 3 5 0 2 [(iV (dualI ((f.op)))),(iV (0:Int)),V.nilsl] (by decide) (by rw [h5]; rfl) (by rw [h5]; rfl) rfl (.done ?_)
  refine fork_ (R:=fun T H=>T 1=(V.bool b)∧T 4=(V.mp 4 1 0 0)∧T 5=(V.mp 5 1 0 0)∧T 52=(V.sl (List.map cF (f.kids)))∧T 53=(iV ((f.kids.length:Nat):Int))∧T 54=(iV (0:Int))∧H 2=(bk 1 24 3 [[(iV (f.op)),(iV (f.arg)),(V.sl (List.map cF (f.kids)))]])∧H 4=(bk 1 24 3 [[(iV (0:Int)),(iV (0:Int)),V.nilsl]])∧H 5=(bk 1 24 3 [[(iV (dualI ((f.op)))),(iV (0:Int)),(V.ms 553 1 0 (0))]])∧H 7=(⟨0,false,false,0,0,[]⟩:Blk)∧H 553=(bz 1 24 3 [])∧True) ⟨t1,t4,t5,t52,t53,t54,((upd_ne _ _ (by decide)).trans ((upd_ne _ _ (by decide)).trans h2)),((upd_ne _ _ (by decide)).trans ((upd_ne _ _ (by decide)).trans h4)),(by rw [upd_same,h5,(congrArg Blk.ver h553)]; rfl),((upd_ne _ _ (by decide)).trans ((upd_ne _ _ (by decide)).trans h7)),(by rw [upd_ne _ _ (by decide),upd_same,(congrArg Blk.ver h553)]),trivial⟩ ?_
  intro T H ⟨t1,t4,t5,t52,t53,t54,h2,h4,h5,h7,h553,_⟩
  refine W_seq_blockg fun Q7 n7 x7 y7 z7=>?_
  refine W_loop (fun mm T H=> ∃ (k:Nat) (w:Nat) (v7:Nat),mm=f.kids.length - k∧T 1=(V.bool b)∧T 4=(V.mp 4 1 0 0)∧T 5=(V.mp 5 1 0 0)∧T 52=(V.sl (List.map cF (f.kids)))∧T 53=(iV ((f.kids.length:Nat):Int))∧T 54=(iV ((k:Nat):Int))∧H 2=(bk 1 24 3 [[(iV (f.op)),(iV (f.arg)),(V.sl (List.map cF (f.kids)))]])∧H 4=(bk 1 24 3 [[(iV (0:Int)),(iV (0:Int)),V.nilsl]])∧H 5=(bk 1 24 3 [[(iV (nop f.op b)),(iV (0:Int)),(V.ms 553 w 0 (k))]])∧(H 7).ver=v7∧H 553=(bz w 24 3 (List.map cF ((f.kids.take k).map (fun g=>nrm g b))))∧(k≤f.kids.length)) ?_ ?_
  ·
   refine ⟨_,0,1,0,rfl,t1,t4,t5,t52,t53,(Eq.trans t54 rfl),h2,h4,(Eq.trans h5 (by (exact bk_op (by simp only [nop,dualI,hb,if_true,Bool.false_eq_true,if_false]; repeat (first|rfl|omega|split))))),(congrArg Blk.ver h7),(Eq.trans h553 (by rfl)),?_⟩
   · omega
  intro mm T H ⟨k,w,v7,hmm,t1,t4,t5,t52,t53,t54,h2,h4,h5,h7,h553,hk⟩ Q8 p18 p28 p38
  unfold b29_0
  refine W_r (R_lss t54 t53 (R_e ?_))
  refine W_seq_if rfl (fun c9=>?_) fun c9=>?_
  ·
   refine W_seq_skip (W_seq_blockg fun Q10 n10 x10 y10 z10=>(W_r (R_idxu (i:=k) t52 t54 (by omega) (cF_eq _) rfl (R_load_pp rfl rfl (R_alloc (i:=7) (n:=v7) (m:=3) rfl h7 rfl (R_sk rfl rfl rfl rfl rfl rfl rfl rfl rfl (R_e ?_)))))))
   refine W_t (R_fk t5 h5 (R_lk rfl h5 rfl rfl (R_lk rfl rfl rfl rfl (R_mv t1 (R_callk (ih (((nth (f.kids) (k)))) b (Fm.sz_kid (by omega)) (hp.2 _ (by omega)) (Nat.le_trans (Nat.le_of_lt (Fm.sz_kid (by omega))) hz)) rfl (R_bslice rfl rfl (R_append1 (l:=((f.kids.take k).map (fun g=>nrm g b))) (f:=cF) (x:=((nrm (((nth (f.kids) (k)))) b))) (@rfl V (V.ms 553 w 0 (k))) h553 (by (simp; omega)) (row_F1 (x:=((nrm (((nth (f.kids) (k)))) b))) (@rfl V (V.sl [[(iV ((nrm (((nth (f.kids) (k)))) b).op)),(iV ((nrm (((nth (f.kids) (k)))) b).arg)),(V.sl (List.map cF ((nrm (((nth (f.kids) (k)))) b).kids)))]]))) (cF_len _) (cF_one _) (by omega) (by omega) ?_)))))))
   refine R_fk t5 h5 (R_sk rfl rfl rfl h5 rfl rfl rfl rfl rfl (R_e (n10 _ _ (.done (W_t (R_addN t54 (@rfl V (iV ((1:Nat):Int))) (by omega) (R_mv rfl ?_)))))))
   refine R_e ?_
   refine p18 _ _ _ ?_ ⟨(k+1),(w+1),(v7+1),rfl,t1,t4,t5,t52,t53,(Eq.trans (@rfl V (iV ((k+1:Nat):Int))) (by rfl)),h2,h4,(Eq.trans (@rfl Blk (bk 1 24 3 [[(iV (nop f.op b)),(iV (0:Int)),(V.ms 553 (w+1) 0 (k+1))]])) (by rfl)),(congrArg Blk.ver rfl),(Eq.trans (@rfl Blk (bz (w+1) 24 3 (List.map cF ((f.kids.take k).map (fun g=>nrm g b)++[(nrm (((nth (f.kids) (k)))) b)])))) (by (rw [mapTake (by omega)]; done))),?_⟩
   · omega
   · omega
  refine W_seq_exit (p38 _ _ _ (x7 _ _ (.done (W_r (R_lk t5 h5 rfl rfl (R_sk t4 rfl rfl h4 rfl rfl rfl rfl rfl (R_e ?_)))))))
  refine W_ret ?_
  refine RetC_1 (resV_c (u:=(V.agg [(iV (nop f.op b)),(iV (0:Int)),(V.ms 553 w 0 (k))])) t4 (@rfl Blk (bk 1 24 3 [[(iV (nop f.op b)),(iV (0:Int)),(V.ms 553 w 0 (k))]])) (lB oB rfl rfl)) (fz_agg3 (fz_int ?_) (fz_int ?_) (fz_ms h553 (by simp) (l:=((f.kids.take k).map (fun g=>nrm g b))) rfl (by (simp; omega)) (fun _=>by simp) ?_))
  · rw [nrm_node (by omega) (by omega)]; rfl
  · rw [nrm_node (by omega) (by omega)]; rfl
  · rw [nrm_node (by omega) (by omega)]; first|rfl|(show _=List.map _ f.kids; rw [show k=f.kids.length by omega,List.take_length]; done)
 have hb:b=false:=by simpa using c6
 refine W_seq_skip (W_seq_seq ?_)
 refine W_seq_g (fun T H=>T 1=(V.bool b)∧T 4=(V.mp 4 1 0 0)∧T 5=(V.mp 5 1 0 0)∧T 52=(V.sl (List.map cF (f.kids)))∧T 53=(iV ((f.kids.length:Nat):Int))∧T 54=(iV (0:Int))∧H 2=(bk 1 24 3 [[(iV (f.op)),(iV (f.arg)),(V.sl (List.map cF (f.kids)))]])∧H 4=(bk 1 24 3 [[(iV (0:Int)),(iV (0:Int)),V.nilsl]])∧H 5=(bk 1 24 3 [[(iV (f.op)),(iV (0:Int)),V.nilsl]])∧H 7=(⟨0,false,false,0,0,[]⟩:Blk)∧H 553=(⟨0,false,false,0,0,[]⟩:Blk)∧True) ?_ ?_
 ·
  refine R_fk t2 h2 (R_lk rfl h2 rfl rfl (R_len rfl (R_mv rfl ?_)))
  exact R_nil ⟨t1,t4,rfl,rfl,rfl,rfl,h2,h4,rfl,h7,h553,trivial⟩
 intro T H ⟨t1,t4,t5,t52,t53,t54,h2,h4,h5,h7,h553,_⟩
 refine .lazyCell 553 24 3 5 0 2 [(iV (f.op)),(iV (0:Int)),V.nilsl] (by decide) (by rw [h5]; rfl) (by rw [h5]; rfl) rfl (.done ?_)
 refine fork_ (R:=fun T H=>T 1=(V.bool b)∧T 4=(V.mp 4 1 0 0)∧T 5=(V.mp 5 1 0 0)∧T 52=(V.sl (List.map cF (f.kids)))∧T 53=(iV ((f.kids.length:Nat):Int))∧T 54=(iV (0:Int))∧H 2=(bk 1 24 3 [[(iV (f.op)),(iV (f.arg)),(V.sl (List.map cF (f.kids)))]])∧H 4=(bk 1 24 3 [[(iV (0:Int)),(iV (0:Int)),V.nilsl]])∧H 5=(bk 1 24 3 [[(iV (f.op)),(iV (0:Int)),(V.ms 553 1 0 (0))]])∧H 7=(⟨0,false,false,0,0,[]⟩:Blk)∧H 553=(bz 1 24 3 [])∧True) ⟨t1,t4,t5,t52,t53,t54,((upd_ne _ _ (by decide)).trans ((upd_ne _ _ (by decide)).trans h2)),((upd_ne _ _ (by decide)).trans ((upd_ne _ _ (by decide)).trans h4)),(by rw [upd_same,h5,(congrArg Blk.ver h553)]; rfl),((upd_ne _ _ (by decide)).trans ((upd_ne _ _ (by decide)).trans h7)),(by rw [upd_ne _ _ (by decide),upd_same,(congrArg Blk.ver h553)]),trivial⟩ ?_
 intro T H ⟨t1,t4,t5,t52,t53,t54,h2,h4,h5,h7,h553,_⟩
 refine W_seq_blockg fun Q11 n11 x11 y11 z11=>?_
 refine W_loop (fun mm T H=> ∃ (k:Nat) (w:Nat) (v7:Nat),mm=f.kids.length - k∧T 1=(V.bool b)∧T 4=(V.mp 4 1 0 0)∧T 5=(V.mp 5 1 0 0)∧T 52=(V.sl (List.map cF (f.kids)))∧T 53=(iV ((f.kids.length:Nat):Int))∧T 54=(iV ((k:Nat):Int))∧H 2=(bk 1 24 3 [[(iV (f.op)),(iV (f.arg)),(V.sl (List.map cF (f.kids)))]])∧H 4=(bk 1 24 3 [[(iV (0:Int)),(iV (0:Int)),V.nilsl]])∧H 5=(bk 1 24 3 [[(iV (nop f.op b)),(iV (0:Int)),(V.ms 553 w 0 (k))]])∧(H 7).ver=v7∧H 553=(bz w 24 3 (List.map cF ((f.kids.take k).map (fun g=>nrm g b))))∧(k≤f.kids.length)) ?_ ?_
 ·
  refine ⟨_,0,1,0,rfl,t1,t4,t5,t52,t53,(Eq.trans t54 rfl),h2,h4,(Eq.trans h5 (by (exact bk_op (by simp only [nop,dualI,hb,if_true,Bool.false_eq_true,if_false]; repeat (first|rfl|omega|split))))),(congrArg Blk.ver h7),(Eq.trans h553 (by rfl)),?_⟩
  · omega
 intro mm T H ⟨k,w,v7,hmm,t1,t4,t5,t52,t53,t54,h2,h4,h5,h7,h553,hk⟩ Q12 p112 p212 p312
 unfold b29_0
 refine W_r (R_lss t54 t53 (R_e ?_))
 refine W_seq_if rfl (fun c13=>?_) fun c13=>?_
 ·
  refine W_seq_skip (W_seq_blockg fun Q14 n14 x14 y14 z14=>(W_r (R_idxu (i:=k) t52 t54 (by omega) (cF_eq _) rfl (R_load_pp rfl rfl (R_alloc (i:=7) (n:=v7) (m:=3) rfl h7 rfl (R_sk rfl rfl rfl rfl rfl rfl rfl rfl rfl (R_e ?_)))))))
  refine W_t (R_fk t5 h5 (R_lk rfl h5 rfl rfl (R_lk rfl rfl rfl rfl (R_mv t1 (R_callk (ih (((nth (f.kids) (k)))) b (Fm.sz_kid (by omega)) (hp.2 _ (by omega)) (Nat.le_trans (Nat.le_of_lt (Fm.sz_kid (by omega))) hz)) rfl (R_bslice rfl rfl (R_append1 (l:=((f.kids.take k).map (fun g=>nrm g b))) (f:=cF) (x:=((nrm (((nth (f.kids) (k)))) b))) (@rfl V (V.ms 553 w 0 (k))) h553 (by (simp; omega)) (row_F1 (x:=((nrm (((nth (f.kids) (k)))) b))) (@rfl V (V.sl [[(iV ((nrm (((nth (f.kids) (k)))) b).op)),(iV ((nrm (((nth (f.kids) (k)))) b).arg)),(V.sl (List.map cF ((nrm (((nth (f.kids) (k)))) b).kids)))]]))) (cF_len _) (cF_one _) (by omega) (by omega) ?_)))))))
  refine R_fk t5 h5 (R_sk rfl rfl rfl h5 rfl rfl rfl rfl rfl (R_e (n14 _ _ (.done (W_t (R_addN t54 (@rfl V (iV ((1:Nat):Int))) (by omega) (R_mv rfl ?_)))))))
  refine R_e ?_
  refine p112 _ _ _ ?_ ⟨(k+1),(w+1),(v7+1),rfl,t1,t4,t5,t52,t53,(Eq.trans (@rfl V (iV ((k+1:Nat):Int))) (by rfl)),h2,h4,(Eq.trans (@rfl Blk (bk 1 24 3 [[(iV (nop f.op b)),(iV (0:Int)),(V.ms 553 (w+1) 0 (k+1))]])) (by rfl)),(congrArg Blk.ver rfl),(Eq.trans (@rfl Blk (bz (w+1) 24 3 (List.map cF ((f.kids.take k).map (fun g=>nrm g b)++[(nrm (((nth (f.kids) (k)))) b)])))) (by (rw [mapTake (by omega)]; done))),?_⟩
  · omega
  · omega
 refine W_seq_exit (p312 _ _ _ (x11 _ _ (.done (W_r (R_lk t5 h5 rfl rfl (R_sk t4 rfl rfl h4 rfl rfl rfl rfl rfl (R_e ?_)))))))
 refine W_ret ?_
 refine RetC_1 (resV_c (u:=(V.agg [(iV (nop f.op b)),(iV (0:Int)),(V.ms 553 w 0 (k))])) t4 (@rfl Blk (bk 1 24 3 [[(iV (nop f.op b)),(iV (0:Int)),(V.ms 553 w 0 (k))]])) (lB oB rfl rfl)) (fz_agg3 (fz_int ?_) (fz_int ?_) (fz_ms h553 (by simp) (l:=((f.kids.take k).map (fun g=>nrm g b))) rfl (by (simp; omega)) (fun _=>by simp) ?_))
 · rw [nrm_node (by omega) (by omega)]; rfl
 · rw [nrm_node (by omega) (by omega)]; rfl
 · rw [nrm_node (by omega) (by omega)]; first|rfl|(show _=List.map _ f.kids; rw [show k=f.kids.length by omega,List.take_length]; done)
theorem normal_pure (f:Fm) (b:Bool) (hf:okF f=true) (hz:f.sz≤4096):PureC Try.prog 29 [(V.agg [(iV (f.op)),(iV (f.arg)),(V.sl (List.map cF (f.kids)))]),(V.bool b)] (V.agg [(iV ((nrm f b).op)),(iV ((nrm f b).arg)),(V.sl (List.map cF ((nrm f b).kids)))]):=by
  have key: ∀ (mm:Nat) (f:Fm) (b:Bool),f.sz < mm→okF f=true→f.sz≤4096→PureC Try.prog 29 [(V.agg [(iV (f.op)),(iV (f.arg)),(V.sl (List.map cF (f.kids)))]),(V.bool b)] (V.agg [(iV ((nrm f b).op)),(iV ((nrm f b).arg)),(V.sl (List.map cF ((nrm f b).kids)))]):=by
    intro mm
    induction mm with
    |zero=>intro f b hlt; exact absurd hlt (Nat.not_lt_zero _)
    | succ mm ih =>
      intro f b hlt hf hz
      exact normal_pure_step f b hf hz fun f2 b2 hlt2=>ih f2 b2 (by omega)
  exact key (f.sz+1) f b (Nat.lt_succ_self _) hf hz
theorem negate_pure (f:Fm):PureC Try.prog 12 [(V.agg [(iV (f.op)),(iV (f.arg)),(V.sl (List.map cF (f.kids)))])] (V.tup [(V.agg [(iV ((ngF f).op)),(iV ((ngF f).arg)),(V.sl (List.map cF ((ngF f).kids)))]),(iV (ngE f))]):=by
 refine pW Try.func12 s12_ok fun hB=>?_
 unfold s12
 dsimp only
 refine W_r (R_box (i:=1) (n:=0) (m:=3) (cs:=[(iV (f.op)),(iV (f.arg)),(V.sl (List.map cF (f.kids)))]) rfl (congrArg Blk.ver rfl) rfl rfl rfl (R_alloc (i:=2) (n:=0) (m:=3) rfl (congrArg Blk.ver rfl) rfl (R_mv rfl (R_e (W_seq_seq (W_r (R_lk rfl rfl rfl rfl ?_)))))))
 refine R_callk (fvalid_pure f) rfl (R_mv rfl (R_e (W_seq_seq (W_r (R_mv rfl (R_neq rfl rfl (R_e ?_)))))))
 refine W_seq_if rfl (fun c1=>?_) fun c1=>?_
 ·
  have h1:=c1
  have h2:ngE f=fval f:=if_pos h1
  have h3:ngF f=zF:=if_pos (by rw [h2]; exact h1)
  refine W_seq_seq (W_r (R_build rfl rfl (R_mv rfl (R_sk rfl rfl rfl rfl rfl rfl rfl rfl rfl (R_mv rfl (R_e (W_seq_ret ?_)))))))
  refine RetC_2 (resV_c (u:=(V.agg [(iV (0:Int)),(iV (0:Int)),V.nilsl])) rfl (@rfl Blk (bk 1 24 3 [[(iV (0:Int)),(iV (0:Int)),V.nilsl]])) (lB oB rfl rfl)) (resV_t (@rfl V (iV (fval f)))) (fz_agg3 (fz_int ?_) (fz_int ?_) (fz_nil ?_)) (fz_int ?_)
  · rw [h3]; rfl
  · rw [h3]; rfl
  · rw [h3]; rfl
  · exact h2.symm
 have h1:fval f=0:=by omega
 refine W_seq_skip (W_r (R_lk rfl rfl rfl rfl (R_callk (normal_pure f true (fval_ok h1) (fval_sz h1)) rfl (R_alloc (i:=5) (n:=0) (m:=3) rfl (congrArg Blk.ver rfl) rfl (R_sk rfl rfl rfl rfl rfl rfl rfl rfl rfl (R_e (W_seq_seq ?_)))))))
 refine W_r (R_lk rfl rfl rfl rfl (R_callk (fvalid_pure ((nrm f true))) rfl (R_mv rfl (R_e (W_seq_seq (W_r (R_mv rfl ?_)))))))
 refine R_neq rfl rfl (R_e ?_)
 refine W_seq_if rfl (fun c2=>?_) fun c2=>?_
 ·
  have h2:ngE f=fval (nrm f true):=if_neg (by omega)
  have h3:ngF f=zF:=if_pos (by rw [h2]; exact c2)
  refine W_seq_seq (W_r (R_build rfl rfl (R_mv rfl (R_sk rfl rfl rfl rfl rfl rfl rfl rfl rfl (R_mv rfl (R_e (W_seq_ret ?_)))))))
  refine RetC_2 (resV_c (u:=(V.agg [(iV (0:Int)),(iV (0:Int)),V.nilsl])) rfl (@rfl Blk (bk 1 24 3 [[(iV (0:Int)),(iV (0:Int)),V.nilsl]])) (lB oB rfl rfl)) (resV_t (@rfl V (iV (fval ((nrm f true)))))) (fz_agg3 (fz_int ?_) (fz_int ?_) (fz_nil ?_)) (fz_int ?_)
  · rw [h3]; rfl
  · rw [h3]; rfl
  · rw [h3]; rfl
  · exact h2.symm
 have h2:ngE f=fval (nrm f true):=if_neg (by omega)
 have h3:ngF f=nrm f true:=if_neg (by omega)
 refine W_seq_skip (W_r (R_lk rfl rfl rfl rfl (R_sk rfl rfl rfl rfl rfl rfl rfl rfl rfl (R_mv rfl (R_e (W_ret ?_))))))
 refine RetC_2 (resV_c (u:=(V.agg [(iV ((nrm f true).op)),(iV ((nrm f true).arg)),(V.sl (List.map cF ((nrm f true).kids)))])) rfl (@rfl Blk (bk 1 24 3 [[(iV ((nrm f true).op)),(iV ((nrm f true).arg)),(V.sl (List.map cF ((nrm f true).kids)))]])) (lB oB rfl rfl)) (resV_t (@rfl V (iV (0:Int)))) (fz_agg3 (fz_int ?_) (fz_int ?_) (fz_sl ?_ (fun _=>by simp))) (fz_int ?_)
 · rw [h3]
 · rw [h3]
 · rw [h3]
 · omega
def r16_1:List SO:=[
 qF 6 0 2,
 ql 7 6,
 qF 8 0 3,
 ql 9 8,
 qP 10 .neq 7 9,
 qM 11 10,
 ⟨some (11,false),some 12,.fld 1 (.t 2)⟩,
 ⟨some (11,false),some 13,.load false 1 (.t 12)⟩,
 ⟨some (11,false),some 14,.fld 1 (.t 3)⟩,
 ⟨some (11,false),some 15,.load false 1 (.t 14)⟩,
 ⟨some (11,false),some 16,.bin .neq (.t 13) (.t 15)⟩,
 sO 17 (.pick (.t 11) (.c (.bool true)) (.t 16)),
 qM 18 17,
 ⟨some (18,false),some 19,.fld 2 (.t 2)⟩,
 ⟨some (18,false),some 20,.load false 1 (.t 19)⟩,
 ⟨some (18,false),some 21,.len (.t 20)⟩,
 ⟨some (18,false),some 22,.fld 2 (.t 3)⟩,
 ⟨some (18,false),some 23,.load false 1 (.t 22)⟩,
 ⟨some (18,false),some 24,.len (.t 23)⟩,
 ⟨some (18,false),some 25,.bin .neq (.t 21) (.t 24)⟩,
 sO 26 (.pick (.t 18) (.c (.bool true)) (.t 25))]
def r16_6:List SO:=[
 qF 34 2 2,
 ql 35 34,
 qM 36 5,
 qA 37 3 35 36,
 qL 38 3 37,
 qF 39 2 3,
 ql 40 39,
 qM 41 5,
 qA 42 3 40 41,
 qL 43 3 42,
 sO 44 (.call false 16 [.t 38,.t 43]),
 sO 45 (.un .not (.t 44))]
def b16_0:SC:=.seq (.seq (.reg [qM 27 5,qF 28 2 2,ql 29 28,qN 30 29,qP 31 .lss 27 30]) (.cond (.t 31) (.skip) (.exit 0))) (.seq (.block 1 (.seq (.reg r16_6) (.cond (.t 45) (.seq (.reg [sO 4 (.mv (.c (.bool false)))]) (.ret)) (.skip)))) (.reg [qM 32 5,qC 33 .add 32 1,qM 5 33]))
def s16:SF:=⟨46,[.tmp 4],.seq (.reg [sO 2 (.box 24 3 (.t 0)),sO 3 (.box 24 3 (.t 1)),sO 4 (.mv (.c (.bool false)))]) (.seq (.seq (.reg r16_1) (.cond (.t 26) (.seq (.reg [sO 4 (.mv (.c (.bool false)))]) (.ret)) (.skip))) (.seq (.seq (.reg [qI 5 0]) (.block 0 (.loop b16_0))) (.seq (.reg [sO 4 (.mv (.c (.bool true)))]) (.ret))))⟩
theorem s16_ok:slimF Try.prog ⟨[31,36,37,38,40,41,42,44,45,59,60,61,65,66,67,71,72,73,81,82,84,92,93,98,99,102,104],[],[],[]⟩ Try.f16=some s16:=by kernel_rfl
theorem rsame_pure_step (f h:Fm) (ih: ∀ (g h:Fm),g.sz < f.sz→PureC Try.prog 16 [(V.agg [(iV (g.op)),(iV (g.arg)),(V.sl (List.map cF (g.kids)))]),(V.agg [(iV (h.op)),(iV (h.arg)),(V.sl (List.map cF (h.kids)))])] (V.bool (sameF g h))):PureC Try.prog 16 [(V.agg [(iV (f.op)),(iV (f.arg)),(V.sl (List.map cF (f.kids)))]),(V.agg [(iV (h.op)),(iV (h.arg)),(V.sl (List.map cF (h.kids)))])] (V.bool (sameF f h)):=by
 refine pW Try.func16 s16_ok fun hB=>?_
 unfold s16
 dsimp only
 refine W_r (R_box (i:=2) (n:=0) (m:=3) (cs:=[(iV (f.op)),(iV (f.arg)),(V.sl (List.map cF (f.kids)))]) rfl (congrArg Blk.ver rfl) rfl rfl rfl (R_box (i:=3) (n:=0) (m:=3) (cs:=[(iV (h.op)),(iV (h.arg)),(V.sl (List.map cF (h.kids)))]) rfl (congrArg Blk.ver rfl) rfl rfl rfl (R_mv rfl (R_e (W_seq_seq (W_r (R_fk rfl rfl ?_)))))))
 refine R_lk rfl rfl rfl rfl (R_fk rfl rfl (R_lk rfl rfl rfl rfl (R_neq rfl rfl (R_mv rfl ?_))))
 refine Ops_seg 6 (fun T H=>T 2=(V.mp 2 1 0 0)∧T 3=(V.mp 3 1 0 0)∧T 17=(V.bool (decide (((f.op)≠(h.op))∨((f.arg)≠(h.arg)))))∧H 2=(bk 1 24 3 [[(iV (f.op)),(iV (f.arg)),(V.sl (List.map cF (f.kids)))]])∧H 3=(bk 1 24 3 [[(iV (h.op)),(iV (h.arg)),(V.sl (List.map cF (h.kids)))]])∧True) ?_ ?_
 ·
  by_cases g1:(f.op)≠(h.op)
  ·
   refine G_n (edT g1 rfl) (G_n (edT g1 rfl) (G_n (edT g1 rfl) (G_n (edT g1 rfl) (G_n (edT g1 rfl) (R_pickT (edT g1 rfl) rfl ?_)))))
   exact ⟨rfl,rfl,(dec_orT g1),rfl,rfl,trivial⟩
  ·
   refine G_yes (edF g1 rfl) (R_fk rfl rfl (G_yes (edF g1 rfl) (R_lk rfl rfl rfl rfl (G_yes (edF g1 rfl) (R_fk rfl rfl (G_yes (edF g1 rfl) (R_lk rfl rfl rfl rfl ?_)))))))
   refine G_yes (edF g1 rfl) (R_neq rfl rfl (R_pickF (edF g1 rfl) rfl ?_))
   exact ⟨rfl,rfl,(dec_orF g1),rfl,rfl,trivial⟩
 intro T H ⟨t2,t3,t17,h2,h3,_⟩
 refine R_mv t17 ?_
 refine Ops_seg 8 (fun T H=>T 2=(V.mp 2 1 0 0)∧T 3=(V.mp 3 1 0 0)∧T 26=(V.bool (decide ((((f.op)≠(h.op))∨((f.arg)≠(h.arg)))∨(((f.kids.length:Nat):Int)≠((h.kids.length:Nat):Int)))))∧H 2=(bk 1 24 3 [[(iV (f.op)),(iV (f.arg)),(V.sl (List.map cF (f.kids)))]])∧H 3=(bk 1 24 3 [[(iV (h.op)),(iV (h.arg)),(V.sl (List.map cF (h.kids)))]])∧True) ?_ ?_
 ·
  by_cases g2:((f.op)≠(h.op))∨((f.arg)≠(h.arg))
  ·
   refine G_n (edT g2 rfl) (G_n (edT g2 rfl) (G_n (edT g2 rfl) (G_n (edT g2 rfl) (G_n (edT g2 rfl) (G_n (edT g2 rfl) (G_n (edT g2 rfl) (R_pickT (edT g2 rfl) rfl ?_)))))))
   exact ⟨t2,t3,(dec_orT g2),h2,h3,trivial⟩
  ·
   refine G_yes (edF g2 rfl) (R_fk t2 h2 (G_yes (edF g2 rfl) (R_lk rfl h2 rfl rfl (G_yes (edF g2 rfl) (R_len rfl (G_yes (edF g2 rfl) (R_fk t3 h3 ?_)))))))
   refine G_yes (edF g2 rfl) (R_lk rfl h3 rfl rfl (G_yes (edF g2 rfl) (R_len rfl (G_yes (edF g2 rfl) (R_neq rfl rfl (R_pickF (edF g2 rfl) rfl ?_))))))
   exact ⟨t2,t3,(dec_orF g2),h2,h3,trivial⟩
 intro T H ⟨t2,t3,t26,h2,h3,_⟩
 refine R_e ?_
 refine W_seq_if t26 (fun c3=>?_) fun c3=>?_
 ·
  refine W_seq_seq (W_r (R_mv rfl (R_e (W_seq_ret ?_))))
  refine Ret_1 (@rfl V (V.bool false)) (fz_bool ?_)
  · rw [sameF_eq]; symm; simp only [Bool.and_eq_false_iff,decide_eq_false_iff_not]; omega
 refine W_seq_skip (W_seq_seq (W_r (R_mv rfl (R_e (W_seq_blockg fun Q4 n4 x4 y4 z4=>?_)))))
 refine W_loop (fun mm T H=> ∃ (k:Nat),mm=f.kids.length - k∧T 2=(V.mp 2 1 0 0)∧T 3=(V.mp 3 1 0 0)∧T 5=(iV ((k:Nat):Int))∧H 2=(bk 1 24 3 [[(iV (f.op)),(iV (f.arg)),(V.sl (List.map cF (f.kids)))]])∧H 3=(bk 1 24 3 [[(iV (h.op)),(iV (h.arg)),(V.sl (List.map cF (h.kids)))]])∧(k≤f.kids.length)∧(f.kids.length=h.kids.length)∧(sameL f.kids h.kids=sameL (f.kids.drop k) (h.kids.drop k))) ?_ ?_
 ·
  refine ⟨_,0,rfl,t2,t3,(Eq.trans (@rfl V (iV (0:Int))) rfl),h2,h3,?_,?_,?_⟩
  · omega
  · omega
  · rfl
 intro mm T H ⟨k,hmm,t2,t3,t5,h2,h3,hk,hl,hc⟩ Q5 p15 p25 p35
 unfold b16_0
 refine W_seq_seq (W_r (R_mv t5 (R_fk t2 h2 (R_lk rfl h2 rfl rfl (R_len rfl (R_lss rfl rfl (R_e ?_)))))))
 refine W_seq_if rfl (fun c6=>?_) fun c6=>?_
 ·
  refine W_seq_skip (W_seq_blockg fun Q7 n7 x7 y7 z7=>(W_r (R_fk t2 h2 (R_lk rfl h2 rfl rfl (R_mv t5 (R_idxu (i:=k) (@rfl V (V.sl (List.map cF (f.kids)))) (@rfl V (iV ((k:Nat):Int))) (by omega) (cF_eq _) rfl (R_load_pp rfl rfl ?_)))))))
  refine R_fk t3 h3 (R_lk rfl h3 rfl rfl (R_mv t5 (R_idxu (i:=k) (@rfl V (V.sl (List.map cF (h.kids)))) (@rfl V (iV ((k:Nat):Int))) (by omega) (cF_eq _) rfl (R_load_pp rfl rfl (R_callk (ih (((nth (f.kids) (k)))) (((nth (h.kids) (k)))) (Fm.sz_kid (by omega))) rfl (R_notb rfl (R_e ?_)))))))
  refine W_ifb rfl (fun c8=>?_) (fun c8=>?_)
  ·
   have d1:sameF (nth f.kids k) (nth h.kids k)=false:=by simpa using c8
   refine W_r (R_mv rfl (R_e (W_ret (y7 _ _ (p25 _ _ (y4 _ _ ?_))))))
   refine Ret_1 (@rfl V (V.bool false)) (fz_bool ?_)
   · rw [sameF_eq,hc,sameL_no (by omega) (by omega) d1,Bool.and_false]
  have d1:sameF (nth f.kids k) (nth h.kids k)=true:=by simpa using c8
  refine W_skip (n7 _ _ (.done (W_t (R_mv t5 (R_addN rfl (@rfl V (iV ((1:Nat):Int))) (by omega) (R_mv rfl (R_e ?_)))))))
  refine p15 _ _ _ ?_ ⟨(k+1),rfl,t2,t3,(Eq.trans (@rfl V (iV ((k+1:Nat):Int))) (by rfl)),h2,h3,?_,?_,?_⟩
  · omega
  · omega
  · omega
  · rw [hc,sameL_yes (by omega) (by omega) d1]
 refine W_seq_exit (p35 _ _ _ (x4 _ _ (.done (W_r (R_mv rfl (R_e (W_ret ?_)))))))
 refine Ret_1 (@rfl V (V.bool true)) (fz_bool ?_)
 · rw [sameF_eq,hc,sameL_end (by omega),Bool.and_true]; symm; simp only [Bool.and_eq_true,decide_eq_true_eq]; omega
theorem rsame_pure (f h:Fm):PureC Try.prog 16 [(V.agg [(iV (f.op)),(iV (f.arg)),(V.sl (List.map cF (f.kids)))]),(V.agg [(iV (h.op)),(iV (h.arg)),(V.sl (List.map cF (h.kids)))])] (V.bool (sameF f h)):=by
  have key: ∀ (mm:Nat) (f h:Fm),f.sz < mm→PureC Try.prog 16 [(V.agg [(iV (f.op)),(iV (f.arg)),(V.sl (List.map cF (f.kids)))]),(V.agg [(iV (h.op)),(iV (h.arg)),(V.sl (List.map cF (h.kids)))])] (V.bool (sameF f h)):=by
    intro mm
    induction mm with
    |zero=>intro f h hlt; exact absurd hlt (Nat.not_lt_zero _)
    | succ mm ih =>
      intro f h hlt
      exact rsame_pure_step f h fun f2 h2 hlt2=>ih f2 h2 (by omega)
  exact key (f.sz+1) f h (Nat.lt_succ_self _)
def r17_1:List SO:=[
 qF 5 0 2,
 ql 6 5,
 qF 7 0 3,
 ql 8 7,
 qP 9 .eql 6 8,
 qM 10 9,
 ⟨some (10,true),some 11,.fld 1 (.t 2)⟩,
 ⟨some (10,true),some 12,.load false 1 (.t 11)⟩,
 ⟨some (10,true),some 13,.fld 1 (.t 3)⟩,
 ⟨some (10,true),some 14,.load false 1 (.t 13)⟩,
 ⟨some (10,true),some 15,.bin .eql (.t 12) (.t 14)⟩,
 sO 16 (.pick (.t 10) (.t 15) (.c (.bool false))),
 qM 17 16,
 ⟨some (17,true),some 18,.fld 2 (.t 2)⟩,
 ⟨some (17,true),some 19,.load false 1 (.t 18)⟩,
 ⟨some (17,true),some 20,.fld 2 (.t 3)⟩,
 ⟨some (17,true),some 21,.load false 1 (.t 20)⟩,
 ⟨some (17,true),some 22,.call false 33 [.t 19,.t 21,.c (.fn 17 [] [])]⟩,
 sO 23 (.pick (.t 17) (.t 22) (.c (.bool false))),
 qM 4 23]
def s17:SF:=⟨24,[.tmp 4],.seq (.reg [sO 2 (.box 24 3 (.t 0)),sO 3 (.box 24 3 (.t 1)),sO 4 (.mv (.c (.bool false)))]) (.seq (.reg r17_1) (.ret))⟩
theorem s17_ok:slimF Try.prog ⟨[31,36,37,38,40,41,42,44,45,59,60,61,65,66,67,71,72,73,81,82,84,92,93,98,99,102,104],[],[],[]⟩ Try.f17=some s17:=by kernel_rfl
def b33_0:SC:=.seq (.reg [qP 18 .lss 17 16]) (.seq (.cond (.t 18) (.skip) (.exit 0)) (.seq (.block 1 (.seq (.reg [qM 19 17,qA 20 3 15 17,qL 21 3 20,sO 8 (.alloc 24 [.int .i64 0,.int .i64 0,.nilsl]),qM 7 19,sN (.store 3 (.t 8) (.t 21))]) (.seq (.reg [qM 22 1,qM 23 7,qA 24 3 22 23,qL 25 3 24,sO 9 (.alloc 24 [.int .i64 0,.int .i64 0,.nilsl]),sN (.store 3 (.t 9) (.t 25))]) (.seq (.reg [qM 26 2,qL 27 3 8,qL 28 3 9,sO 29 (.callv false (.t 26) [.t 27,.t 28]),sO 30 (.un .not (.t 29))]) (.cond (.t 30) (.seq (.reg [sO 6 (.mv (.c (.bool false)))]) (.ret)) (.skip)))))) (.reg [qC 31 .add 17 1,qM 17 31])))
def s33:SF:=⟨32,[.tmp 6],.seq (.reg [sO 6 (.mv (.c (.bool false)))]) (.seq (.seq (.reg [qM 10 0,qN 11 10,qM 12 1,qN 13 12,qP 14 .neq 11 13]) (.cond (.t 14) (.seq (.reg [sO 6 (.mv (.c (.bool false)))]) (.ret)) (.skip))) (.seq (.seq (.reg [qM 15 0,qN 16 15,qI 17 0]) (.block 0 (.loop b33_0))) (.seq (.reg [sO 6 (.mv (.c (.bool true)))]) (.ret))))⟩
theorem s33_ok:slimF Try.prog ⟨[31,36,37,38,40,41,42,44,45,59,60,61,65,66,67,71,72,73,81,82,84,92,93,98,99,102,104],[],[],[]⟩ Try.f33=some s33:=by kernel_rfl
theorem eqf_pure (l m:List Fm) (hq: ∀ k,k < l.length→k < m.length→PureC Try.prog 17 [(V.agg [(iV ((nth l k).op)),(iV ((nth l k).arg)),(V.sl (List.map cF ((nth l k).kids)))]),(V.agg [(iV ((nth m k).op)),(iV ((nth m k).arg)),(V.sl (List.map cF ((nth m k).kids)))])] (V.bool (sameF (nth l k) (nth m k)))):PureC Try.prog 33 [(V.sl (List.map cF (l))),(V.sl (List.map cF (m))),(V.fn 17 [] [])] (V.bool (decide (l.length=m.length)&&sameL l m)):=by
 refine pW Try.func33 s33_ok fun hB=>?_
 unfold s33
 dsimp only
 refine W_r (R_mv rfl (R_e (W_seq_seq (W_r (R_mv rfl (R_len rfl (R_mv rfl ?_)))))))
 refine R_len rfl (R_neq rfl rfl (R_e ?_))
 refine W_seq_if rfl (fun c1=>?_) fun c1=>?_
 ·
  refine W_seq_seq (W_r (R_mv rfl (R_e (W_seq_ret ?_))))
  refine Ret_1 (@rfl V (V.bool false)) (fz_bool ?_)
  · rw [decide_eq_false (by omega),Bool.false_and]
 refine W_seq_skip (W_seq_seq (W_r (R_mv rfl (R_len rfl (R_mv rfl (R_e (W_seq_blockg fun Q2 n2 x2 y2 z2=>?_)))))))
 refine W_loop (fun mm T H=> ∃ (k:Nat) (v8:Nat) (v9:Nat),mm=l.length - k∧T 1=(V.sl (List.map cF (m)))∧T 2=(V.fn 17 [] [])∧T 15=(V.sl (List.map cF (l)))∧T 16=(iV ((l.length:Nat):Int))∧T 17=(iV ((k:Nat):Int))∧(H 8).ver=v8∧(H 9).ver=v9∧(k≤l.length)∧(l.length=m.length)∧(sameL l m=sameL (l.drop k) (m.drop k))) ?_ ?_
 ·
  refine ⟨_,0,0,0,rfl,rfl,rfl,rfl,rfl,(Eq.trans (@rfl V (iV (0:Int))) rfl),(congrArg Blk.ver rfl),(congrArg Blk.ver rfl),?_,?_,?_⟩
  · omega
  · omega
  · rfl
 intro mm T H ⟨k,v8,v9,hmm,t1,t2,t15,t16,t17,h8,h9,hk,hl,hc⟩ Q3 p13 p23 p33
 unfold b33_0
 refine W_r (R_lss t17 t16 (R_e ?_))
 refine W_seq_if rfl (fun c4=>?_) fun c4=>?_
 ·
  refine W_seq_skip (W_seq_blockg fun Q5 n5 x5 y5 z5=>(W_r (R_mv t17 (R_idxu (i:=k) t15 t17 (by omega) (cF_eq _) rfl (R_load_pp rfl rfl (R_alloc (i:=8) (n:=v8) (m:=3) rfl h8 rfl (R_mv rfl ?_)))))))
  refine R_sk rfl rfl rfl rfl rfl rfl rfl rfl rfl (R_e (W_r (R_mv t1 (R_mv rfl (R_idxu (i:=k) (@rfl V (V.sl (List.map cF (m)))) (@rfl V (iV ((k:Nat):Int))) (by omega) (cF_eq _) rfl (R_load_pp rfl rfl (R_alloc (i:=9) (n:=v9) (m:=3) rfl h9 rfl ?_)))))))
  refine R_sk rfl rfl rfl rfl rfl rfl rfl rfl rfl (R_e (W_r (R_mv t2 (R_lk rfl rfl rfl rfl (R_lk rfl rfl rfl rfl (R_callv (@rfl V (V.fn 17 [] [])) (evcons (@rfl V (V.agg [(iV (((nth (l) (k))).op)),(iV (((nth (l) (k))).arg)),(V.sl (List.map cF (((nth (l) (k))).kids)))])) (evcons (@rfl V (V.agg [(iV (((nth (m) (k))).op)),(iV (((nth (m) (k))).arg)),(V.sl (List.map cF (((nth (m) (k))).kids)))])) evnil)) (hq k (by omega) (by omega)) (fzv_mapcanon _ _ (by simp [-List.map_take,-List.map_drop,-List.map_append,-List.map_reverse])) (by simp [-List.map_take,-List.map_drop,-List.map_append,-List.map_reverse]) (Or.inl (by simp [-List.map_take,-List.map_drop,-List.map_append,-List.map_reverse])) (R_notb rfl ?_)))))))
  refine R_e ?_
  refine W_ifb rfl (fun c6=>?_) (fun c6=>?_)
  ·
   have d1:sameF (nth l k) (nth m k)=false:=by simpa using c6
   refine W_r (R_mv rfl (R_e (W_ret (y5 _ _ (p23 _ _ (y2 _ _ ?_))))))
   refine Ret_1 (@rfl V (V.bool false)) (fz_bool ?_)
   · rw [hc,sameL_no (by omega) (by omega) d1,Bool.and_false]
  have d1:sameF (nth l k) (nth m k)=true:=by simpa using c6
  refine W_skip (n5 _ _ (.done (W_t (R_addN t17 (@rfl V (iV ((1:Nat):Int))) (by omega) (R_mv rfl (R_e ?_))))))
  refine p13 _ _ _ ?_ ⟨(k+1),(v8+1),(v9+1),rfl,t1,t2,t15,t16,(Eq.trans (@rfl V (iV ((k+1:Nat):Int))) (by rfl)),(congrArg Blk.ver rfl),(congrArg Blk.ver rfl),?_,?_,?_⟩
  · omega
  · omega
  · omega
  · rw [hc,sameL_yes (by omega) (by omega) d1]
 refine W_seq_exit (p33 _ _ _ (x2 _ _ (.done (W_r (R_mv rfl (R_e (W_ret ?_)))))))
 refine Ret_1 (@rfl V (V.bool true)) (fz_bool ?_)
 · rw [hc,sameL_end (by omega),Bool.and_true,decide_eq_true (by omega)]
theorem fsame_pure_step (f h:Fm) (ih: ∀ (g h:Fm),g.sz < f.sz→PureC Try.prog 17 [(V.agg [(iV (g.op)),(iV (g.arg)),(V.sl (List.map cF (g.kids)))]),(V.agg [(iV (h.op)),(iV (h.arg)),(V.sl (List.map cF (h.kids)))])] (V.bool (sameF g h))):PureC Try.prog 17 [(V.agg [(iV (f.op)),(iV (f.arg)),(V.sl (List.map cF (f.kids)))]),(V.agg [(iV (h.op)),(iV (h.arg)),(V.sl (List.map cF (h.kids)))])] (V.bool (sameF f h)):=by
 refine pW Try.func17 s17_ok fun hB=>?_
 unfold s17
 dsimp only
 refine W_r (R_box (i:=2) (n:=0) (m:=3) (cs:=[(iV (f.op)),(iV (f.arg)),(V.sl (List.map cF (f.kids)))]) rfl (congrArg Blk.ver rfl) rfl rfl rfl (R_box (i:=3) (n:=0) (m:=3) (cs:=[(iV (h.op)),(iV (h.arg)),(V.sl (List.map cF (h.kids)))]) rfl (congrArg Blk.ver rfl) rfl rfl rfl (R_mv rfl (R_e (W_r (R_fk rfl rfl (R_lk rfl rfl rfl rfl ?_)))))))
 refine R_fk rfl rfl (R_lk rfl rfl rfl rfl (R_eql rfl rfl (R_mv rfl ?_)))
 refine Ops_seg 6 (fun T H=>T 2=(V.mp 2 1 0 0)∧T 3=(V.mp 3 1 0 0)∧T 16=(V.bool (decide (((f.op)=(h.op))∧((f.arg)=(h.arg)))))∧H 2=(bk 1 24 3 [[(iV (f.op)),(iV (f.arg)),(V.sl (List.map cF (f.kids)))]])∧H 3=(bk 1 24 3 [[(iV (h.op)),(iV (h.arg)),(V.sl (List.map cF (h.kids)))]])∧True) ?_ ?_
 ·
  by_cases g1:(f.op)=(h.op)
  ·
   refine G_yes (edT g1 rfl) (R_fk rfl rfl (G_yes (edT g1 rfl) (R_lk rfl rfl rfl rfl (G_yes (edT g1 rfl) (R_fk rfl rfl (G_yes (edT g1 rfl) (R_lk rfl rfl rfl rfl ?_)))))))
   refine G_yes (edT g1 rfl) (R_eql rfl rfl (R_pickT (edT g1 rfl) rfl ?_))
   exact ⟨rfl,rfl,(dec_andT g1),rfl,rfl,trivial⟩
  ·
   refine G_n (edF g1 rfl) (G_n (edF g1 rfl) (G_n (edF g1 rfl) (G_n (edF g1 rfl) (G_n (edF g1 rfl) (R_pickF (edF g1 rfl) rfl ?_)))))
   exact ⟨rfl,rfl,(dec_andF g1),rfl,rfl,trivial⟩
 intro T H ⟨t2,t3,t16,h2,h3,_⟩
 refine R_mv t16 ?_
 refine Ops_seg 6 (fun T H=>T 23=(V.bool ((decide (((f.op)=(h.op))∧((f.arg)=(h.arg)))&&(decide (f.kids.length=h.kids.length)&&sameL f.kids h.kids))))∧H 2=(bk 1 24 3 [[(iV (f.op)),(iV (f.arg)),(V.sl (List.map cF (f.kids)))]])∧H 3=(bk 1 24 3 [[(iV (h.op)),(iV (h.arg)),(V.sl (List.map cF (h.kids)))]])∧True) ?_ ?_
 ·
  by_cases g2:((f.op)=(h.op))∧((f.arg)=(h.arg))
  ·
   refine G_yes (edT g2 rfl) (R_fk t2 h2 (G_yes (edT g2 rfl) (R_lk rfl h2 rfl rfl (G_yes (edT g2 rfl) (R_fk t3 h3 (G_yes (edT g2 rfl) (R_lk rfl h3 rfl rfl ?_)))))))
   refine G_yes (edT g2 rfl) (R_callk (eqf_pure f.kids h.kids (fun k h1 h2=>ih (nth f.kids k) (nth h.kids k) (Fm.sz_kid h1))) rfl (R_pickT (edT g2 rfl) rfl ?_))
   exact ⟨(dbandT g2),h2,h3,trivial⟩
  ·
   refine G_n (edF g2 rfl) (G_n (edF g2 rfl) (G_n (edF g2 rfl) (G_n (edF g2 rfl) (G_n (edF g2 rfl) (R_pickF (edF g2 rfl) rfl ?_)))))
   exact ⟨(dbandF g2),h2,h3,trivial⟩
 intro T H ⟨t23,h2,h3,_⟩
 refine R_mv t23 (R_e (W_ret ?_))
 refine Ret_1 (@rfl V (V.bool ((decide (((f.op)=(h.op))∧((f.arg)=(h.arg)))&&(decide (f.kids.length=h.kids.length)&&sameL f.kids h.kids))))) (fz_bool ?_)
 · rw [sameF_eq]; simp only [Bool.and_assoc,Bool.decide_and]
theorem fsame_pure (f h:Fm):PureC Try.prog 17 [(V.agg [(iV (f.op)),(iV (f.arg)),(V.sl (List.map cF (f.kids)))]),(V.agg [(iV (h.op)),(iV (h.arg)),(V.sl (List.map cF (h.kids)))])] (V.bool (sameF f h)):=by
  have key: ∀ (mm:Nat) (f h:Fm),f.sz < mm→PureC Try.prog 17 [(V.agg [(iV (f.op)),(iV (f.arg)),(V.sl (List.map cF (f.kids)))]),(V.agg [(iV (h.op)),(iV (h.arg)),(V.sl (List.map cF (h.kids)))])] (V.bool (sameF f h)):=by
    intro mm
    induction mm with
    |zero=>intro f h hlt; exact absurd hlt (Nat.not_lt_zero _)
    | succ mm ih =>
      intro f h hlt
      exact fsame_pure_step f h fun f2 h2 hlt2=>ih f2 h2 (by omega)
  exact key (f.sz+1) f h (Nat.lt_succ_self _)
end Go.Proofs.Ytdmcmkccifmofaa
namespace Go.Proofs.Ytdmcmkccifmofaa
open Go
def bB (b:UInt8):List V:=[u8V b]
section
variable {P:Program} {k0:Nat} {K:(Nat→V)→Heap→Prop} {T:Nat→V} {H:Heap} {d:Nat} {r:List SO} {a b:SX}
theorem bB_map (m:List UInt8):rowsA H (.str m)=some (m.map bB):=rfl
theorem R_appendB {ty bytes id ver n:Nat} {lz:Bool} {l m:List UInt8} (ha:ev T a=.ms id ver 0 n) (hH:H id=⟨ver,true,lz,ty,1,l.map bB⟩) (hn:n=l.length) (hb:ev T b=.str m)
    (h2:(n+m.length)*bytes≤140737488355328∧n+m.length≤9223372036854775807)
    (h:Ops P k0 r (upd T d (.ms id (ver+1) 0 (n+m.length))) (upd H id ⟨ver+1,true,lz,ty,1,(l++m).map bB⟩) K):Ops P k0 (⟨none,some d,.append ty 1 bytes a b⟩::r) T H K:=by
  have hf:fitRows 1 (m.map bB)=true:=by
    simp only [fitRows,List.all_eq_true]
    intro r hr
    obtain ⟨x,_,rfl⟩:=List.mem_map.1 hr
    rfl
  simp only [Ops,St]
  rw [ha]
  simp only [hH]
  rw [if_pos (by simp),if_pos trivial,if_pos (by simpa using hn),if_pos trivial,if_pos trivial,hb,bB_map,onS_some,if_pos hf,if_pos (by simpa using h2.1),if_pos (by simpa using h2.2)]
  rw [List.map_append] at h
  simpa only [List.length_map,putT] using h
theorem R_ldp {cells:List V} {agg:Bool} {n:Nat} {v:V} (ha:ev T a=.pp cells) (hq:ldV agg n cells=some v) (h:Ops P k0 r (upd T d v) H K):Ops P k0 (⟨none,some d,.ldp agg n a⟩::r) T H K:=by
  refine stp (v:=v) (fun k=>?_) rfl h
  simp only [St,ha,ptrP,Option.bind_some,hq,onS_some]
theorem R_tas {ty:TypeId} {c:Value} {v:V} (ha:ev T a=.raw c) (hq:tasV ty (.raw c)=some v) (h:Ops P k0 r (upd T d v) H K):Ops P k0 (⟨none,some d,.tas ty a⟩::r) T H K:=by
  refine stp (v:=v) (fun k=>?_) rfl h
  simp only [St,ha,hq,onS_some]
end
def hpB2 (a b:Blk):Heap:=upd (upd H0 0 a) 1 b
def at2 (i j:Nat):Nat→Nat:=fun k=>if k=0 then i else j
section
variable {P:Program} {k0 f:Nat} {Q:Ex→(Nat→V)→Heap→Prop} {T:Nat→V} {H:Heap} {i j:Nat} {asq asq':List V} {a a' a1 a1' b b' b1 b1':Blk} {v:V} {c:Value} {out:LOut}
theorem LocC.use2 (hc:LocC P f 2 asq (hpB2 a b) (.ok v (hpB2 a' b'))) (hij:i≠j) (ha:asq.map (ren (at2 i j))=asq') (h0:H i=a1) (h1:H j=b1) (e0:a1=renB (at2 i j) a) (e1:b1=renB (at2 i j) b)
    (f0:a1'=renB (at2 i j) a') (f1:b1'=renB (at2 i j) b'):CallOK P f asq' H v (upd (upd H i a1') j b1'):=by
  subst ha; subst f0; subst f1
  refine hc H (at2 i j) (fun p q hp hq e=>?_) (fun p hp=>?_)
  · simp only [at2] at e
    split at e <;> split at e <;> first|omega|exact absurd e hij|exact absurd e.symm hij
  · have:p=0∨p=1:=by omega
    rcases this with rfl|rfl
    · show H i=_; rw [h0,e0]; rfl
    · show H j=_; rw [h1,e1]; rfl
theorem lW2 {op:Opt} {fn:Func} {s:SF} {B:Prop} (hf:P.funcs[f]?=some fn) (hs:slimF P op fn=some s)
    (hW : B → W P k0 s.body (RetL s.res 2 out) (T0 asq) (hpB2 a b)) (hn : (fn.name == "runtime.NumGoroutine") = false := by kernel_rfl)
    (hl:Nat.ble asq.length s.n=true:=by rfl) (ha:asq.all (loc 2)=true:=by simp [loc,loc0]) (hla:locB 2 a=true:=by simp [locB,loc0]) (hlb:locB 2 b=true:=by simp [locB,loc0])
    (hb:bndL asq=true→B:=by intro hB; first|(simp only [bnd_map,bnd_int,bnd_bool,bnd_str,bnd_agg,bnd_pp,bnd_nil,bnd_cons,implies_true,and_true,true_and] at hB; exact hB)|exact (fun _=>trivial) hB):LocC P f 2 asq (hpB2 a b) out:=
  loc_of_W hf hs hn (Nat.le_of_ble_eq_true hl) ha (fun i hi=>by
    have:i=0∨i=1:=by omega
    rcases this with rfl|rfl
    · exact hla
    · exact hlb) (fun i hi=>by
    have:hpB2 a b i=H0 i:=(upd_ne _ _ (by omega)).trans (upd_ne _ _ (by omega))
    rw [this]; rfl) fun h=>hW (hb h)
variable {res:List SRes}
theorem RetL2_ok {u:V} (hr:resT res T H=some u) (ho:out=.ok v (hpB2 a b)) (hp':v.pure=true) (hf:FinV H (cut 2 H) u v) (h0:H 0=a) (h1:H 1=b) (hla:locB 2 a=true) (hlb:locB 2 b=true):RetL res 2 out .ret T H:=by
  simp only [RetL,hr,onS_some]
  refine ⟨v,hpB2 a b,ho,hp',hf,fun i hi=>?_⟩
  have:i=0∨i=1:=by omega
  rcases this with rfl|rfl
  · exact ⟨by rw [h0]; rfl,fun _=>hla⟩
  · exact ⟨by rw [h1]; rfl,fun _=>hlb⟩
theorem RetL2_okn {u:V} (hr:resT res T H=some u) (ho:out=.ok v (hpB2 a b)) (hp':v.pure=true) (hf:FinV H (cut 2 H) u v) (h0:H 0=a) (h1:H 1=b) (hla:locB 2 a=true) (hlb:locB 2 b=true):RetL res 2 out .norm T H:=RetL2_ok hr ho hp' hf h0 h1 hla hlb
theorem bB_loc {n v ty:Nat} {lz:Bool} (l:List UInt8):locB n ⟨v,true,lz,ty,1,l.map bB⟩=true:=by
  simp only [locB,List.all_eq_true,List.mem_map]
  rintro r ⟨b,_,rfl⟩ w hw
  simp [bB,u8V] at hw; subst hw; rfl
theorem bB_ren {v ty:Nat} {lz:Bool} (ρ:Nat→Nat) (l:List UInt8):(⟨v,true,lz,ty,1,l.map bB⟩:Blk)=renB ρ ⟨v,true,lz,ty,1,l.map bB⟩:=by
  simp only [renB,List.map_map]
  congr 1
end
end Go.Proofs.Ytdmcmkccifmofaa
namespace Go.Proofs.Ytdmcmkccifmofaa
open Go
def sufC:Nat→Code→Code
  |k+1,.seq _ y=>sufC k y
  |_,c=>c
def preS (P : Program) (op : Opt) (n : Nat) : Nat → Code → Option SC
  |0,_=>some .skip
  | k + 1, .seq x y => match slim P op n x, preS P op n k y with
    |some a,some b=>some (.seq a b)
    |_,_=>none
  |_,_=>none
section
variable {P:Program} {op:Opt} {k0 n:Nat} {D:List Deferred}
theorem W_sound_pre : ∀ (k : Nat) (c : Code) (s : SC), preS P op n k c = some s → ∀ (Q : Ex → (Nat → V) → Heap → Prop) (x0 x : Cx) (T : Nat → V) (a : Act),
    W P k0 s Q T x.H→Inv x→TRel D n x T a→Frame x0 x→ ∀ (Qc:Exit→Act→World→Prop),
    (∀ (T':Nat→V) (a':Act) (y:Cx),Q .norm T' y.H→Inv y→TRel D n y T' a'→Frame x0 y→(sufC k c).wp P Qc a' y.w)→
    (∀ e a w,e≠.normal→Post D n x0 Q e a w→Qc e a w)→c.wp P Qc a x.w
  | 0, c, s, hs, Q, x0, x, T, a, hW, hx, hT, hF, Qc, h1, h2 => by
    cases hs
    exact h1 T a x hW hx hT hF
  | k + 1, .seq c1 c2, s, hs, Q, x0, x, T, a, hW, hx, hT, hF, Qc, h1, h2 => by
    simp only [preS] at hs
    split at hs
    · rename_i s1 s2 e1 e2
      cases hs
      refine wp_seq (wp_mono (W_sound c1 s1 e1 _ x0 x T a hW hx hT hF) ?_)
      intro e a' w' hp
      have hp0:=hp
      obtain ⟨e',T',y,he,hw,hq,hy,hT',hF'⟩:=hp
      cases e with
      | normal =>
        cases he
        obtain ⟨T2,z,hz,hK,hzI,hzT,hzF⟩:=G_sound hq y rfl hy hT' hF'
        simp only [Exit.then]
        rw [← hw,← hz]
        exact W_sound_pre k c2 s2 e2 Q x0 z T2 a' hK hzI hzT hzF Qc h1 h2
      |ret=>cases he; exact h2 .ret a' w' (by simp) ⟨.ret,T',y,rfl,hw,hq,hy,hT',hF'⟩
      |exit id=>cases he; exact h2 (.exit id) a' w' (by simp) ⟨.exit id,T',y,rfl,hw,hq,hy,hT',hF'⟩
      |goto l=>cases he
      | panic l =>
        obtain ⟨c,rfl⟩:=exOf_panic he
        exact h2 (.panic l) a' w' (by simp) ⟨.pan c,T',y,he,hw,hq,hy,hT',hF'⟩
      |outgrown=>cases he
    · cases hs
  |_+1,.skip,_,hs,_,_,_,_,_,_,_,_,_,_,_,_=>by cases hs
  |_+1,.ret,_,hs,_,_,_,_,_,_,_,_,_,_,_,_=>by cases hs
  |_+1,.exit _,_,hs,_,_,_,_,_,_,_,_,_,_,_,_=>by cases hs
  |_+1,.region _ _ _,_,hs,_,_,_,_,_,_,_,_,_,_,_,_=>by cases hs
  |_+1,.cond _ _ _,_,hs,_,_,_,_,_,_,_,_,_,_,_,_=>by cases hs
  |_+1,.block _ _,_,hs,_,_,_,_,_,_,_,_,_,_,_,_=>by cases hs
  |_+1,.loop _,_,hs,_,_,_,_,_,_,_,_,_,_,_,_=>by cases hs
  |_+1,.goto _,_,hs,_,_,_,_,_,_,_,_,_,_,_,_=>by cases hs
  |_+1,.refuse _,_,hs,_,_,_,_,_,_,_,_,_,_,_,_=>by cases hs
theorem pure_of_calls {f:Nat} {args:List V} {v:V} (hcl:callable P f) (ha:pureL args=true) (hv:v.pure=true)
    (hC: ∀ (x:Cx) (cs:List Value),x.H=H0→Inv x→RL x args cs→bndL args=true→Calls P f cs.toArray x.w fun e w'=> ∃ c u y,e=.returned c∧y.w=w'∧fzv true y.H 6 u=v∧Inv y∧R y u c∧Frame x y):PureC P f args v:=by
  intro H
  refine ⟨hcl,fun x cs hxH hx hr=>?_⟩
  subst hxH
  have hI:=start_ok (x:=x) (Z:=x.Z) hx.zlt
  refine (hC (start x x.Z) cs rfl hI (hr.pure_at ha rfl fun _ h=>h) hr.bnd).mono fun e w' h=>?_
  obtain ⟨c,u,y,h1,h2,h4,h5,h6,h7⟩:=h
  obtain ⟨sI,sF⟩:=shut_ok h5
  have hR:=fzv_R h5 6 h6 (z:=true)
  rw [h4] at hR
  obtain ⟨zI,zF⟩:=back hx h7 h5 (Z':=(shut y).Z) (fun b hb=>.inl (h7.zone b hb)) (fun b hb=>by
    have hlt:b < y.w.heap.size:=sI.zlt b hb
    rcases hb with hb|⟨id,ho,rfl⟩
    · rcases h7.zold b hb with h|h|⟨id,h,_⟩
      · exact .inl h
      · exact .inr ⟨h,hlt⟩
      · exact (H0_own id h).elim
    · rcases h7.fresh id ho with ⟨h,_⟩|h
      · exact (H0_own id h).elim
      · exact .inr ⟨h,hlt⟩)
  exact ⟨c,{w:=y.w,Z:=(shut y).Z,σ:=x.σ,H:=x.H},h1,h2,rfl,zI,hR.pure_at hv rfl fun _ h=>h,zF⟩
theorem wp_defer {id t g:Nat} {o0 o1:Oper} {caps:Array Operand} {tys:Array TypeId} {Q:Exit→Act→World→Prop} {a:Act} {w:World}
    (h0:o0.op=.makeFunc (.func g) #[] caps) (hd0:o0.dst=some t) (hg0:o0.guard=none) (h1:o1.op=.defer ⟨.value (.tmp t),#[],tys⟩) (hd1:o1.dst=none) (hg1:o1.guard=none) (ht:t < a.tmps.size)
    (h:Q .normal {a.put (some t) (.func (.func g) #[] (caps.map a.eval)) with defers:=⟨.fn (.func g) (caps.map a.eval),#[]⟩::a.defers} w):(Code.region id #[o0,o1] false).wp P Q a w:=by
  refine wp_region ?_
  have e:=wpOps_eq_wpList (P:=P) (ops:=#[o0,o1]) (Q:=Q) [o0,o1] 0 (fun j=>by simp)
  rw [show List.range (#[o0,o1]:Array Oper).size=List.range' 0 [o0,o1].length by rfl,e]
  simp only [wpList,Region.wanted,hg0,hg1,if_true]
  left
  have r0:(execOp a.eval o0).run P w=.ok (.value (.func (.func g) #[] (caps.map a.eval))) w:=by
    simp only [execOp,h0,Instr.makeFunc,Sem.run_bind,Sem.run_pure,Result.andThen_ok,List.map_toArray,List.map_nil,Array.map_empty]
  rw [Oper.wp,r0,Oper.upon_value,hd0]
  left
  have e1:(a.put (some t) (.func (.func g) #[] (caps.map a.eval))).eval (.tmp t)=.func (.func g) #[] (caps.map a.eval):=by
    simp only [Act.eval,Act.put]
    rw [Array.getD_eq_getD_getElem?,Array.getElem?_setIfInBounds_self_of_lt ht]; rfl
  have r1:(execOp (a.put (some t) (.func (.func g) #[] (caps.map a.eval))).eval o1).run P w=.ok (.defer ⟨.fn (.func g) (caps.map a.eval),#[]⟩) w:=by
    simp [execOp,h1,resolve,e1,Deferred.ofValue]
  rw [Oper.wp,r1,Oper.upon_defer,hd1]
  exact h
theorem eval_put {a:Act} {t:Nat} {v:Value} (ht:t < a.tmps.size):(a.put (some t) v).eval (.tmp t)=v:=by
  simp only [Act.eval,Act.put]
  rw [Array.getD_eq_getD_getElem?,Array.getElem?_setIfInBounds_self_of_lt ht]; rfl
theorem wpS_recover {id t1 t2:Nat} {o0 o1:Oper} {Q:Exit→Act→List Go.Frame→World→Prop} {a:Act} {cs cs':List Go.Frame} {w:World} {v:Value}
    (h0:o0.op=.call ⟨.builtin .recover,#[],#[]⟩) (hd0:o0.dst=some t1) (hg0:o0.guard=none) (h1:o1.op=.assign (.tmp t1)) (hd1:o1.dst=some t2) (hg1:o1.guard=none) (ht:t1 < a.tmps.size)
    (hr:recoverD cs=some (v,cs')∨(recoverD cs=none∧v=.nilIface∧cs'=cs)) (h:Q .normal ((a.put (some t1) v).put (some t2) v) cs' w):(Code.region id #[o0,o1] false).wpS P Q a cs w:=by
  refine wpS_region ?_
  have r0:(execOp a.eval o0).run P w=.ok .recover w:=by simp [execOp,h0,resolve,invoke,builtin]
  have r1: ∀ a':Act,(execOp a'.eval o1).run P w=.ok (.value (a'.eval (.tmp t1))) w:=fun a'=>by simp only [execOp,h1,Sem.run_pure]
  show wpOpsS P #[o0,o1] Q [0,1] a cs w
  have wt: ∀ f,Region.wanted o0 f=true:=fun f=>by simp [Region.wanted,hg0]
  have wt1: ∀ f,Region.wanted o1 f=true:=fun f=>by simp [Region.wanted,hg1]
  have tail: ∀ cs',Q .normal ((a.put (some t1) v).put (some t2) v) cs' w→wpOpsS P #[o0,o1] Q [1] (a.put o0.dst v) cs' w:=fun cs' h=>by
    simp only [wpOpsS,show (#[o0,o1]:Array Oper)[1]?=some o1 from rfl,wt1,if_true,r1]
    rw [Oper.upon_value,hd0,hd1,eval_put ht]
    exact h
  rw [wpOpsS]
  simp only [show (#[o0,o1]:Array Oper)[0]?=some o0 from rfl,wt,if_true,r0]
  rcases hr with hr|⟨hr,rfl,rfl⟩
  · simp only [hr]; exact tail _ h
  · simp only [hr]; exact tail _ h
theorem run_neq_nil {t:TypeId} {ms:Array (String×TypeId)} (ht:P.underlying t=some (.interface ms)) (X Y:Operand) (u:TypeId) (c:Value) (w:World):(do eqGuard .neq t X Y (.iface u c) .nilIface; binOp .neq t (.iface u c) .nilIface:Sem Value).run P w=.ok (.bool true) w:=by
  have h: ∀ d,(Op.equalIn (d+1) t (.iface u c) .nilIface).run P w=.ok false w:=fun d=>by simp only [Op.equalIn,Sem.run_bind,run_underlying ht,Result.andThen_ok,Sem.run_pure]
  have e:(Op.equal t (.iface u c) .nilIface).run P w=.ok false w:=h 9999
  have g:eqGuard .neq t X Y (.iface u c) .nilIface=pure ():=rfl
  rw [g]
  show (do let r ← Op.equal t (.iface u c) .nilIface; pure (Value.bool (!r)):Sem Value).run P w=_
  rw [Sem.run_bind,e]; rfl
theorem run_neq_nil' {t:TypeId} {ms:Array (String×TypeId)} (ht:P.underlying t=some (.interface ms)) (X:Operand) (w:World):(do eqGuard .neq t X (.const .nilIface) .nilIface .nilIface; binOp .neq t .nilIface .nilIface:Sem Value).run P w=.ok (.bool false) w:=by
  have h: ∀ d,(Op.equalIn (d+1) t .nilIface .nilIface).run P w=.ok true w:=fun d=>by simp only [Op.equalIn,Sem.run_bind,run_underlying ht,Result.andThen_ok,Sem.run_pure]
  have e:(Op.equal t .nilIface .nilIface).run P w=.ok true w:=h 9999
  have g:eqGuard .neq t X (.const .nilIface) .nilIface .nilIface=pure ():=by simp [eqGuard]
  rw [g]
  show (do let r ← Op.equal t .nilIface .nilIface; pure (Value.bool (!r)):Sem Value).run P w=_
  rw [Sem.run_bind,e]; rfl
theorem wp_nnil {id t1 t2 t3:Nat} {ty:TypeId} {ms:Array (String×TypeId)} {o0 o1:Oper} {Q:Exit→Act→World→Prop} {a:Act} {w:World} {v:Value} {b:Bool} (hty:P.underlying ty=some (.interface ms))
    (h0:o0.op=.move (.tmp t1)) (hd0:o0.dst=some t2) (hg0:o0.guard=none) (h1:o1.op=.binOp .neq ty (.tmp t2) (.const .nilIface) ty) (hd1:o1.dst=some t3) (hg1:o1.guard=none) (ht:t2 < a.tmps.size)
    (hv:a.eval (.tmp t1)=v) (hb:(∃ u c,v=.iface u c∧b=true)∨(v=.nilIface∧b=false)) (h:Q .normal ((a.put (some t2) v).put (some t3) (.bool b)) w):(Code.region id #[o0,o1] false).wp P Q a w:=by
  refine wp_region ?_
  have e:=wpOps_eq_wpList (P:=P) (ops:=#[o0,o1]) (Q:=Q) [o0,o1] 0 (fun j=>by simp)
  rw [show List.range (#[o0,o1]:Array Oper).size=List.range' 0 [o0,o1].length by rfl,e]
  simp only [wpList,Region.wanted,hg0,hg1,if_true]
  left
  have r0:(execOp a.eval o0).run P w=.ok (.value v) w:=by simp only [execOp,h0,Sem.run_pure,hv]
  rw [Oper.wp,r0,Oper.upon_value,hd0]
  left
  have r1:(execOp (a.put (some t2) v).eval o1).run P w=.ok (.value (.bool b)) w:=by
    have e1:(a.put (some t2) v).tmps.getD t2 undef=v:=eval_put (v:=v) ht
    rcases hb with ⟨u,c,rfl,rfl⟩|⟨rfl,rfl⟩
    · have:=run_neq_nil (P:=P) hty (.tmp t2) (.const .nilIface) u c w
      exact exec_val (s:=do eqGuard .neq ty (.tmp t2) (.const .nilIface) (.iface u c) .nilIface; binOp .neq ty (.iface u c) .nilIface) (by simp only [execOp,h1,Act.eval,e1]) this
    · have:=run_neq_nil' (P:=P) hty (.tmp t2) w
      exact exec_val (s:=do eqGuard .neq ty (.tmp t2) (.const .nilIface) .nilIface .nilIface; binOp .neq ty .nilIface .nilIface) (by simp only [execOp,h1,Act.eval,e1]) this
  rw [Oper.wp,r1,Oper.upon_value,hd1]
  exact h
end
end Go.Proofs.Ytdmcmkccifmofaa
namespace Go.Proofs.Ytdmcmkccifmofaa
open Go
abbrev cB (b:Bool):List V:=[.bool b]
abbrev cBL (l:List Bool):List V:=[.sl (l.map cB)]
@[simp] theorem canonLL_bools (l:List Bool):canonLL (l.map cB)=true:=canonLL_map _ _ fun a=>by simp [cB]
@[simp] theorem canonLL_boolss (l:List (List Bool)):canonLL (l.map cBL)=true:=canonLL_map _ _ fun a=>by simp
def untB (g h:Nat→Bool):Nat→Nat→Bool
  |0,i=>h i
  |m+1,i=>h i||(g i&&untB g h m (i+1))
def relB (g h:Nat→Bool):Nat→Nat→Bool
  |0,i=>h i
  |m+1,i=>h i&&(g i||relB g h m (i+1))
def satO (t:Tr) (o a:Int) (K:List (Nat→Bool)) (i:Nat):Bool:=
  if o=1 then true
  else if o=2 then decide (i < t.ni.length)&&decide (nth t.ni i=a)
  else if o=3 then decide (i < t.ni.length)&&decide (nth t.no i=a)
  else if o=4 then !(nth K 0 i)
  else if o=7 then decide (i < t.ni.length)&&nth K 0 (i+1)
  else if o=9 then decide (¬i < t.ni.length)||nth K 0 (i+1)
  else if o=8 then untB (nth K 0) (nth K 1) (t.ni.length - i) i
  else if o=10 then relB (nth K 0) (nth K 1) (t.ni.length - i) i
  else if o=5 then K.all fun g=>g i
  else K.any fun g=>g i
mutual
def sat (t:Tr):Fm→Nat→Bool
  | .nd o a k,i=>satO t o a (satL t k) i
def satL (t:Tr):List Fm→List (Nat→Bool)
  |[]=>[]
  |f::l=>sat t f::satL t l
end
theorem satL_map (t:Tr): ∀ l:List Fm,satL t l=l.map (sat t)
  |[]=>rfl
  |f::l=>by rw [satL,satL_map t l]; rfl
theorem sat_eq (t:Tr) (f:Fm) (i:Nat):sat t f i=satO t f.op f.arg (f.kids.map (sat t)) i:=by cases f; rw [sat,satL_map]; rfl
def rst (t:Tr) (f:Fm):List Bool:=(List.range (t.ni.length+1)).map (sat t f)
theorem rst_len (t:Tr) (f:Fm):(rst t f).length=t.ni.length+1:=by simp [rst]
theorem rst_nth {t:Tr} {f:Fm} {i:Nat} (h:i≤t.ni.length):nth (rst t f) i=sat t f i:=by
  have:i < (rst t f).length:=by rw [rst_len]; omega
  rw [← nth_getElem this]; simp [rst]
theorem nthM {α β:Type} [Inhabited α] [Inhabited β] {g:α→β} {l:List α} {k:Nat} (h:k < l.length):nth (l.map g) k=g (nth l k):=by
  have h':k < (l.map g).length:=by simpa using h
  rw [← nth_getElem h',List.getElem_map,nth_getElem h]
def outL (t:Tr) (f:Fm) (i:Int):List Bool:=(List.range (t.ni.length+1)).map fun j:Nat=>decide (i < (j:Int))&&sat t f j
theorem outL_len (t:Tr) (f:Fm) (i:Int):(outL t f i).length=t.ni.length+1:=by simp [outL]
theorem outL_start (t:Tr) (f:Fm):outL t f t.ni.length=List.replicate (t.ni.length+1) false:=by
  apply List.ext_getElem
  · simp [outL]
  · intro j h1 h2
    simp only [outL,List.length_map,List.length_range] at h1
    simp only [outL,List.getElem_map,List.getElem_range,List.getElem_replicate]
    rw [decide_eq_false (by omega),Bool.false_and]
theorem outL_end (t:Tr) (f:Fm):outL t f (-1)=rst t f:=by
  apply List.ext_getElem
  · simp [outL,rst]
  · intro j h1 h2
    simp only [outL,rst,List.getElem_map,List.getElem_range]
    rw [decide_eq_true (by omega),Bool.true_and]
theorem outL_set {t:Tr} {f:Fm} {i:Nat} {b:Bool} (h:i≤t.ni.length) (hb:b=sat t f i):(outL t f i).set i b=outL t f ((i:Int) - 1):=by
  apply List.ext_getElem
  · simp [outL]
  · intro j h1 h2
    rw [List.getElem_set]
    simp only [outL,List.length_map,List.length_range] at h2
    simp only [outL,List.getElem_map,List.getElem_range]
    split
    · rename_i e; subst e; rw [hb,decide_eq_true (by omega),Bool.true_and]
    · rename_i e
      by_cases q:i < j
      · rw [decide_eq_true (by omega),decide_eq_true (by omega)]
      · rw [decide_eq_false (by omega),decide_eq_false (by omega)]
theorem outL_nth {t:Tr} {f:Fm} {i:Int} {j:Nat} (h:i < j) (hj:j≤t.ni.length):nth (outL t f i) j=sat t f j:=by
  have h1:j < (outL t f i).length:=by rw [outL_len]; omega
  rw [← nth_getElem h1]
  simp only [outL,List.getElem_map,List.getElem_range]
  rw [decide_eq_true h,Bool.true_and]
def satP (t:Tr) (f:Fm) (K:List (List Bool)) (B:List Bool) (i:Nat):Bool:=
  if f.op=1 then true
  else if f.op=2 then decide (i < t.ni.length)&&decide (nth t.ni i=f.arg)
  else if f.op=3 then decide (i < t.ni.length)&&decide (nth t.no i=f.arg)
  else if f.op=4 then !(nth (nth K 0) i)
  else if f.op=5 then K.all fun r=>nth r i
  else if f.op=6 then K.any fun r=>nth r i
  else if f.op=7 then decide (i < t.ni.length)&&nth (nth K 0) (i+1)
  else if f.op=9 then decide (¬i < t.ni.length)||nth (nth K 0) (i+1)
  else if f.op=8 then nth (nth K 1) i||(decide (i < t.ni.length)&&nth (nth K 0) i&&nth B (i+1))
  else nth (nth K 1) i&&(decide (¬i < t.ni.length)||nth (nth K 0) i||nth B (i+1))
theorem untB_at {g h:Nat→Bool} {n i:Nat} (hi:i≤n):untB g h (n - i) i=(h i||(decide (i < n)&&g i&&untB g h (n - (i+1)) (i+1))):=by
  by_cases e:i < n
  · obtain ⟨m,hm⟩: ∃ m,n - i=m+1:=⟨n - i - 1,by omega⟩
    rw [hm,untB,show n - (i+1)=m by omega,decide_eq_true e,Bool.true_and]
  · rw [show n - i=0 by omega,untB,decide_eq_false e,Bool.false_and,Bool.false_and,Bool.or_false]
theorem relB_at {g h:Nat→Bool} {n i:Nat} (hi:i≤n):relB g h (n - i) i=(h i&&(decide (¬i < n)||g i||relB g h (n - (i+1)) (i+1))):=by
  by_cases e:i < n
  · obtain ⟨m,hm⟩: ∃ m,n - i=m+1:=⟨n - i - 1,by omega⟩
    rw [hm,relB,show n - (i+1)=m by omega,decide_eq_false (by omega),Bool.false_or]
  · rw [show n - i=0 by omega,relB,decide_eq_true e,Bool.true_or,Bool.true_or,Bool.and_true]
theorem satP_sat {t:Tr} {f:Fm} {i:Nat} (hf:rgt f=0) (hi:i≤t.ni.length):satP t f (f.kids.map (rst t)) (outL t f i) i=sat t f i:=by
  obtain ⟨h1,h2,h3,h4,h5,h6,h7,h8,h9⟩:=rgt_ok hf
  have k0:0 < f.kids.length→ ∀ j,j≤t.ni.length→nth (nth (f.kids.map (rst t)) 0) j=nth (f.kids.map (sat t)) 0 j:=fun h j hj=>by rw [nthM h,nthM h,rst_nth hj]
  have k1:1 < f.kids.length→ ∀ j,j≤t.ni.length→nth (nth (f.kids.map (rst t)) 1) j=nth (f.kids.map (sat t)) 1 j:=fun h j hj=>by rw [nthM h,nthM h,rst_nth hj]
  have hall: ∀ j,j≤t.ni.length→((f.kids.map (rst t)).all fun r=>nth r j)=(f.kids.map (sat t)).all fun g=>g j:=fun j hj=>by
    rw [List.all_map,List.all_map]; congr 1; funext g; exact rst_nth hj
  have hany: ∀ j,j≤t.ni.length→((f.kids.map (rst t)).any fun r=>nth r j)=(f.kids.map (sat t)).any fun g=>g j:=fun j hj=>by
    rw [List.any_map,List.any_map]; congr 1; funext g; exact rst_nth hj
  rw [sat_eq]
  unfold satP satO
  by_cases e1:f.op=1
  · rw [if_pos e1,if_pos e1]
  rw [if_neg e1,if_neg e1]
  by_cases e2:f.op=2
  · rw [if_pos e2,if_pos e2]
  rw [if_neg e2,if_neg e2]
  by_cases e3:f.op=3
  · rw [if_pos e3,if_pos e3]
  rw [if_neg e3,if_neg e3]
  by_cases e4:f.op=4
  · rw [if_pos e4,if_pos e4,k0 (by omega) i hi]
  rw [if_neg e4,if_neg e4]
  by_cases e5:f.op=5
  · rw [if_pos e5,if_neg (by omega),if_neg (by omega),if_neg (by omega),if_neg (by omega),if_pos e5,hall i hi]
  rw [if_neg e5]
  by_cases e6:f.op=6
  · rw [if_pos e6,if_neg (by omega),if_neg (by omega),if_neg (by omega),if_neg (by omega),if_neg e5,hany i hi]
  rw [if_neg e6]
  by_cases e7:f.op=7
  · rw [if_pos e7,if_pos e7]
    by_cases q:i < t.ni.length
    · rw [k0 (by omega) (i+1) q]
    · rw [decide_eq_false q,Bool.false_and,Bool.false_and]
  rw [if_neg e7,if_neg e7]
  by_cases e9:f.op=9
  · rw [if_pos e9,if_pos e9]
    by_cases q:i < t.ni.length
    · rw [k0 (by omega) (i+1) q]
    · rw [decide_eq_true q,Bool.true_or,Bool.true_or]
  rw [if_neg e9,if_neg e9]
  have hs:i < t.ni.length→nth (outL t f i) (i+1)=sat t f (i+1):=fun q=>outL_nth (by omega) q
  by_cases e8:f.op=8
  · rw [if_pos e8,if_pos e8,untB_at hi,k0 (by omega) i hi,k1 (by omega) i hi]
    by_cases q:i < t.ni.length
    · rw [hs q,sat_eq,satO,if_neg e1,if_neg e2,if_neg e3,if_neg e4,if_neg e7,if_neg e9,if_pos e8]
    · rw [decide_eq_false q]; simp
  · rw [if_neg e8,if_neg e8,if_pos (by omega),relB_at hi,k0 (by omega) i hi,k1 (by omega) i hi]
    by_cases q:i < t.ni.length
    · rw [hs q,sat_eq,satO,if_neg e1,if_neg e2,if_neg e3,if_neg e4,if_neg e7,if_neg e9,if_neg e8,if_pos (by omega)]
    · rw [decide_eq_true q]; simp
def hoE (t:Tr) (f:Fm):Int:=if fval f≠0 then fval f else if 1024 < t.ni.length then 3 else if t.no.length≠t.ni.length then 1 else 0
def hoB (t:Tr) (f:Fm):Bool:=decide (hoE t f=0)&&sat t f 0
theorem fi_any {α:Type} [Inhabited α] {p:α→Bool} {l:List α}:decide (0≤fi (fun j=>p (nth l j)) 0 l.length)=l.any p:=by
  have h:0≤fi (fun j=>p (nth l j)) 0 l.length↔l.any p=true:=by
    rw [fi_iff,List.any_eq_true]
    constructor
    · rintro ⟨j,_,h2,h3⟩
      exact ⟨nth l j,by rw [← nth_getElem (by omega)]; exact List.getElem_mem (by omega),h3⟩
    · rintro ⟨x,hx,hp⟩
      obtain ⟨j,hj,rfl⟩:=List.getElem_of_mem hx
      exact ⟨j,Nat.zero_le _,by omega,by show p (nth l j)=true; rw [← nth_getElem hj]; exact hp⟩
  cases hq:l.any p with
  |true=>exact decide_eq_true (h.2 hq)
  |false=>exact decide_eq_false fun q=>by rw [h.1 q] at hq; cases hq
theorem fi_all {α:Type} [Inhabited α] {p:α→Bool} {l:List α}:(!decide (0≤fi (fun j=> !p (nth l j)) 0 l.length))=l.all p:=by
  rw [fi_any (p:=fun x=> !p x)]
  induction l with
  |nil=>rfl
  |cons a l ih=>simp only [List.any_cons,List.all_cons,Bool.not_or,Bool.not_not,ih]
theorem outL_step {t:Tr} {f:Fm} {i:Int} (hf:rgt f=0) (h0:0≤i) (hi:i≤t.ni.length):(outL t f i).set i.toNat (satP t f (f.kids.map (rst t)) (outL t f i) i.toNat)=outL t f (i - 1):=by
  obtain ⟨j,rfl⟩: ∃ j:Nat,i=j:=⟨i.toNat,by omega⟩
  exact outL_set (by omega) (satP_sat hf (by omega))
end Go.Proofs.Ytdmcmkccifmofaa
namespace Go.Proofs.Ytdmcmkccifmofaa
open Go
def ltr (c:UInt8):Bool:=decide ((97≤c.toNat∧c.toNat≤122)∨(65≤c.toNat∧c.toNat≤90)∨(48≤c.toNat∧c.toNat≤57)∨c.toNat=95∨c.toNat=45∨c.toNat=46)
def wby (c:UInt8):Bool:=ltr c||decide (c.toNat=58)
def nmB (s:List UInt8):Bool:=s.all ltr&&decide (1≤s.length∧s.length≤32)
theorem any_step {α:Type} [Inhabited α] {p:α→Bool} {l:List α} {k:Nat} (h:k < l.length) (hp:p (nth l k)=false):(l.drop k).any p=(l.drop (k+1)).any p:=by rw [nth_drop h,List.any_cons,hp,Bool.false_or]
theorem any_yes {α:Type} [Inhabited α] {p:α→Bool} {l:List α} {k:Nat} (h:k < l.length) (hp:p (nth l k)=true):(l.drop k).any p=true:=by rw [nth_drop h,List.any_cons,hp,Bool.true_or]
theorem any_end {α:Type} {p:α→Bool} {l:List α} {k:Nat} (h:l.length≤k):(l.drop k).any p=false:=by rw [List.drop_eq_nil_of_le h]; rfl
def idxS (l:List (List UInt8)) (s:List UInt8):Int:=fi (fun j=>decide (nth l j=s)) 0 l.length
def ixV (l:List (List UInt8)) (s:List UInt8):Int:=if 0≤idxS l s then idxS l s else 0
def ixB (l:List (List UInt8)) (s:List UInt8):Bool:=decide (0≤idxS l s)
theorem idxS_hit {l:List (List UInt8)} {s:List UInt8} {k:Nat} (hc:idxS l s=fi (fun j=>decide (nth l j=s)) k (l.length - k)) (hk:k < l.length) (e:nth l k=s):idxS l s=k:=by rw [hc,fi_hit (by simpa using e) hk]
theorem idxS_skip {l:List (List UInt8)} {s:List UInt8} {k:Nat} (hc:idxS l s=fi (fun j=>decide (nth l j=s)) k (l.length - k)) (hk:k < l.length) (e: ¬nth l k=s):idxS l s=fi (fun j=>decide (nth l j=s)) (k+1) (l.length - (k+1)):=by rw [hc,fi_skip (by simpa using e) hk]
theorem idxS_end {l:List (List UInt8)} {s:List UInt8} {k:Nat} (hc:idxS l s=fi (fun j=>decide (nth l j=s)) k (l.length - k)) (hk:l.length≤k):idxS l s= -1:=by rw [hc,fi_end hk]
theorem idxS_spec {l:List (List UInt8)} {s:List UInt8}:0≤idxS l s↔s∈l:=by
  unfold idxS
  rw [fi_iff]
  constructor
  · rintro ⟨j,_,h2,h3⟩
    have h2':j < l.length:=by omega
    simp only [decide_eq_true_eq] at h3
    rw [← h3,← nth_getElem h2']; exact List.getElem_mem h2'
  · intro h
    obtain ⟨j,hj,rfl⟩:=List.getElem_of_mem h
    exact ⟨j,Nat.zero_le _,by omega,by simp [nth_getElem hj]⟩
theorem idxS_at {l:List (List UInt8)} {s:List UInt8} (h:0≤idxS l s):(idxS l s).toNat < l.length∧nth l (idxS l s).toNat=s∧ ∀ j,j < (idxS l s).toNat→nth l j≠s:=by
  have h':=fi_val h
  refine ⟨by unfold idxS; omega,by have:=h'.2.2.1; simpa [idxS] using this,fun j hj=>?_⟩
  have:=h'.2.2.2 j (Nat.zero_le _) hj
  simpa using this
def dupB (l:List (List UInt8)) (k:Nat):Bool:=decide (idxS l (nth l k) < k)
theorem dup_take {l:List (List UInt8)} {k:Nat} (hk:k < l.length):decide (0≤idxS (l.take k) (nth l k))=dupB l k:=by
  unfold dupB
  refine decide_eq_decide.2 ?_
  rw [idxS_spec]
  have hm:nth l k∈l:=by rw [← nth_getElem hk]; exact List.getElem_mem hk
  have h0:=idxS_spec.2 hm
  obtain ⟨h1,h2,h3⟩:=idxS_at h0
  constructor
  · intro h
    obtain ⟨j,hj,e⟩:=List.getElem_of_mem h
    have hj':j < k:=by simp at hj; omega
    have e':nth l j=nth l k:=by
      rw [← nth_getElem (show j < l.length by omega),← e]; simp
    have: ¬ j < (idxS l (nth l k)).toNat:=fun q=>h3 j q e'
    omega
  · intro h
    have hlt:(idxS l (nth l k)).toNat < k:=by omega
    rw [← h2,← nth_getElem h1]
    have:(l.take k)[(idxS l (nth l k)).toNat]'(by simp; omega)=l[(idxS l (nth l k)).toNat]:=by simp
    rw [nth_getElem h1,h2]
    have hh:=List.getElem_mem (l:=l.take k) (n:=(idxS l (nth l k)).toNat) (by simp; omega)
    rw [this,nth_getElem h1,h2] at hh
    exact hh
theorem dup_ix {l:List (List UInt8)} {k:Nat} (hk:k < l.length):ixV l (nth l k)=idxS l (nth l k):=by
  have hm:nth l k∈l:=by rw [← nth_getElem hk]; exact List.getElem_mem hk
  unfold ixV; rw [if_pos (idxS_spec.2 hm)]
def avE (l:List (List UInt8)) (k:Nat):Int:=if nmB (nth l k)=false then 9 else if dupB l k=true then 7 else 0
def aval (l:List (List UInt8)):Int:=if l.length=0 then 19 else if 64 < l.length then 3 else fe (avE l) 0 l.length
def avs (l m:List (List UInt8)):Int:=if aval l≠0 then aval l else aval m
def grB (l:List (List UInt8)):Bool:=(l.take 71).any (fun s=>decide (100 < s.length))||decide (70 < l.length)
theorem grB_no {l:List (List UInt8)} (h:grB l=false):l.length≤70∧ ∀ k,k < l.length→(nth l k).length≤100:=by
  unfold grB at h
  rw [Bool.or_eq_false_iff] at h
  have h1:l.length≤70:=by simpa using h.2
  refine ⟨h1,fun k hk=>?_⟩
  have:=(List.any_eq_false.1 h.1) (nth l k) (by rw [List.take_of_length_le (by omega),← nth_getElem hk]; exact List.getElem_mem hk)
  simpa using this
theorem aval_ok {l : List (List UInt8)} (h : aval l = 0) : 0 < l.length ∧ l.length ≤ 64 ∧ ∀ k, k < l.length → nmB (nth l k) = true ∧ dupB l k = false := by
  unfold aval at h
  split at h
  · simp at h
  · rename_i h1
    split at h
    · simp at h
    · rename_i h2
      refine ⟨by omega,by omega,fun k hk=>?_⟩
      have:=fe_zero_iff.1 h k (by omega) (by omega)
      unfold avE at this
      split at this
      · simp at this
      · rename_i h3
        split at this
        · simp at this
        · rename_i h4; exact ⟨by simpa using h3,by simpa using h4⟩
def prB (s p:List UInt8):Bool:=decide (p.length≤s.length∧s.take p.length=p)
mutual
def nmd (m n:Int):Fm→Bool
  | .nd o a k=> !(decide ((o=2∧m≤a)∨(o=3∧n≤a)))&&nmdL m n k
def nmdL (m n:Int):List Fm→Bool
  |[]=>true
  |f::l=>nmd m n f&&nmdL m n l
end
theorem nmdL_all (m n:Int): ∀ l:List Fm,nmdL m n l=l.all (nmd m n)
  |[]=>by rw [nmdL]; rfl
  |f::l=>by rw [nmdL,nmdL_all m n l]; rfl
theorem nmd_eq (m n:Int) (f:Fm):nmd m n f=(!(decide ((f.op=2∧m≤f.arg)∨(f.op=3∧n≤f.arg)))&&f.kids.all (nmd m n)):=by cases f; rw [nmd,nmdL_all]; rfl
theorem nmd_no {m n:Int} {f:Fm} (h:(f.op=2∧m≤f.arg)∨(f.op=3∧n≤f.arg)):nmd m n f=false:=by rw [nmd_eq,decide_eq_true h]; rfl
theorem nmd_go {m n:Int} {f:Fm} (h: ¬((f.op=2∧m≤f.arg)∨(f.op=3∧n≤f.arg))):nmd m n f=f.kids.all (nmd m n):=by rw [nmd_eq,decide_eq_false h]; rfl
end Go.Proofs.Ytdmcmkccifmofaa
namespace Go.Proofs.Ytdmcmkccifmofaa
open Go
structure PE where
  ia:List (List UInt8)
  oa:List (List UInt8)
  src:List UInt8
structure PS where
  pos:Nat
  wd:List UInt8
  dep:Nat
instance:Inhabited PS:=⟨⟨0,[],0⟩⟩
inductive PR (α:Type) where
  |ok (a:α) (s:PS)
  |er (pos:Nat) (e:Int)
def failC (ty:TypeId) (a:Nat) (e:Int):Value:=.iface ty (.agg #[.int .i64 ((a:Nat):Int),.int .i64 e])
def pCells (e:PE) (s:PS):List V:=[.sl (e.ia.map cS),.sl (e.oa.map cS),.str e.src,iV (s.pos:Nat),.str s.wd,iV (s.dep:Nat)]
def PR.out {α:Type} (ty tf v:Nat) (e:PE) (fv:α→V):PR α→LOut
  | .ok a s=>.ok (fv a) (hpB (bk v ty 6 [pCells e s]))
  | .er p x=>.pan (failC tf p x)
abbrev fmV (f:Fm):V:=.agg [iV f.op,iV f.arg,.sl (f.kids.map cF)]
abbrev unV0 (_:Unit):V:=.tup []
def skp:List UInt8→Nat→Nat
  |[],p=>p
  |c::l,p=>if c=32 then skp l (p+1) else p
def wlen:List UInt8→Nat
  |[]=>0
  |c::l=>if wby c=true then wlen l+1 else 0
def tok (r:List UInt8):List UInt8:=
  if r=[] then [] else if prB r [45,62]=true then [45,62] else if 0≤Lib.indexByte [33,38,124,40,41] (nth r 0) then r.take 1 else r.take (wlen r)
def pNext (e:PE) (s:PS):PR Unit:=
  let p:=skp (e.src.drop (s.pos+s.wd.length)) (s.pos+s.wd.length)
  if e.src.drop p≠[]∧tok (e.src.drop p)=[] then .er p 5 else .ok () ⟨p,tok (e.src.drop p),s.dep⟩
theorem skp_ge: ∀ (l:List UInt8) (p:Nat),p≤skp l p∧skp l p≤p+l.length
  |[],p=>⟨Nat.le_refl _,Nat.le_refl _⟩
  | c :: l, p => by
    simp only [skp]
    split
    · have:=skp_ge l (p+1); simp; omega
    · simp
def pPart (e : PE) (rd : PS → Option (PR Fm)) (s : PS) : Option (PR Fm) :=
  match pNext e s with
  | .er a x=>some (.er a x)
  | .ok _ s1 => if 128 < s1.dep + 1 then some (.er s1.pos 16) else match rd { s1 with dep := s1.dep + 1 } with
    |none=>none
    |some (.er a x)=>some (.er a x)
    |some (.ok f s2)=>some (.ok f {s2 with dep:=s2.dep - 1})
def pMore (e : PE) (w : List UInt8) (rd : PS → Option (PR Fm)) : Nat → List Fm → PS → Option (PR (List Fm))
  |0,_,_=>none
  | k + 1, l, s => if s.wd = w then match pNext e s with
      | .er a x=>some (.er a x)
      | .ok _ s1 => match rd s1 with
        |none=>none
        |some (.er a x)=>some (.er a x)
        |some (.ok f s2)=>pMore e w rd k (l++[f]) s2
    else some (.ok l s)
def oneOr (op:Int) (l:List Fm):Fm:=if l.length=1 then nth l 0 else .nd op 0 l
def finSev (op:Int):Option (PR (List Fm))→Option (PR Fm)
  |none=>none
  |some (.er a x)=>some (.er a x)
  |some (.ok l s)=>some (.ok (oneOr op l) s)
def pSev (e:PE) (w:List UInt8) (op:Int) (rd:PS→Option (PR Fm)) (k:Nat) (s:PS):Option (PR Fm):=
  match rd s with
  |none=>none
  |some (.er a x)=>some (.er a x)
  |some (.ok f s1)=>finSev op (pMore e w rd k [f] s1)
def cutP (p s:List UInt8):List UInt8:=if prB s p=true then s.drop p.length else s
def pAtom (e : PE) (s : PS) : PR Fm :=
  let r:Option (PR Fm):=
    if prB s.wd [105,110,58]=true then (if ixB e.ia (cutP [105,110,58] s.wd)=true then none else some (.er s.pos 8))
    else if prB s.wd [111,117,116,58]=true then (if ixB e.oa (cutP [111,117,116,58] s.wd)=true then none else some (.er s.pos 8))
    else if s.wd=[102,97,108,115,101] then none
    else if s.wd=[116,114,117,101] then none else some (.er s.pos 5)
  let f:Fm:=
    if prB s.wd [105,110,58]=true then .nd 2 (ixV e.ia (cutP [105,110,58] s.wd)) []
    else if prB s.wd [111,117,116,58]=true then .nd 3 (ixV e.oa (cutP [111,117,116,58] s.wd)) []
    else if s.wd=[102,97,108,115,101] then .nd 4 0 [.nd 1 0 []] else .nd 1 0 []
  match r with
  |some q=>q
  | none => match pNext e s with
    | .er a x=>.er a x
    | .ok _ s1=>.ok f s1
inductive PK where
  |form|conj|bin|un
def mapP (g:Fm→Fm):Option (PR Fm)→Option (PR Fm)
  |none=>none
  |some (.er a x)=>some (.er a x)
  |some (.ok f s)=>some (.ok (g f) s)
def pF (e : PE) : Nat → PK → PS → Option (PR Fm)
  |0,_,_=>none
  | k + 1, .form, s => match pSev e [124] 6 (pF e k .conj) k s with
    |none=>none
    |some (.er a x)=>some (.er a x)
    |some (.ok f s1)=>if s1.wd=[45,62] then mapP (fun g=>.nd 6 0 [.nd 4 0 [f],g]) (pPart e (pF e k .form) s1) else some (.ok f s1)
  |k+1,.conj,s=>pSev e [38] 5 (pF e k .bin) k s
  | k + 1, .bin, s => match pF e k .un s with
    |none=>none
    |some (.er a x)=>some (.er a x)
    |some (.ok f s1)=>if s1.wd=[85] then mapP (fun g=>.nd 8 0 [f,g]) (pPart e (pF e k .bin) s1) else if s1.wd=[82] then mapP (fun g=>.nd 10 0 [f,g]) (pPart e (pF e k .bin) s1) else some (.ok f s1)
  | k + 1, .un, s =>
    if s.wd=[33] then mapP (fun g=>.nd 4 0 [g]) (pPart e (pF e k .un) s)
    else if s.wd=[88] then mapP (fun g=>.nd 7 0 [g]) (pPart e (pF e k .un) s)
    else if s.wd=[78] then mapP (fun g=>.nd 9 0 [g]) (pPart e (pF e k .un) s)
    else if s.wd=[70] then mapP (fun g=>.nd 8 0 [.nd 1 0 [],g]) (pPart e (pF e k .un) s)
    else if s.wd=[71] then mapP (fun g=>.nd 10 0 [.nd 4 0 [.nd 1 0 []],g]) (pPart e (pF e k .un) s)
    else if s.wd=[40] then match pPart e (pF e k .form) s with
      |none=>none
      |some (.er a x)=>some (.er a x)
      | some (.ok f s1) => if s1.wd = [41] then match pNext e s1 with
          | .er a x=>some (.er a x)
          | .ok _ s2=>some (.ok f s2)
        else some (.er s1.pos 5)
    else some (pAtom e s)
structure OkS (e:PE) (s:PS):Prop where
  len:e.src.length≤1048576
  pos:s.pos+s.wd.length≤e.src.length
  dep:s.dep≤128
theorem tok_le (r:List UInt8):(tok r).length≤r.length:=by
  unfold tok
  split
  · simp
  · split
    · rename_i h; exact (of_decide_eq_true h).1
    · split
      · simp; omega
      · simp; omega
theorem pNext_inv {e:PE} {s s1:PS} {u:Unit} (hs:OkS e s) (h:pNext e s=.ok u s1):OkS e s1∧s1.dep=s.dep∧s.pos+s.wd.length≤s1.pos:=by
  unfold pNext at h
  simp only at h
  have h1:=skp_ge (e.src.drop (s.pos+s.wd.length)) (s.pos+s.wd.length)
  rw [List.length_drop] at h1
  split at h
  · cases h
  · cases h
    have h2:=tok_le (e.src.drop (skp (e.src.drop (s.pos+s.wd.length)) (s.pos+s.wd.length)))
    rw [List.length_drop] at h2
    have:=hs.pos
    refine ⟨⟨hs.len,?_,hs.dep⟩,rfl,h1.1⟩
    simp only
    omega
theorem pNext_ok {e:PE} {s:PS} {p:Nat} {w:List UInt8} (h:skp (e.src.drop (s.pos+s.wd.length)) (s.pos+s.wd.length)=p) (ht:tok (e.src.drop p)=w) (hn:e.src.drop p=[]∨w≠[]):pNext e s=.ok () ⟨p,w,s.dep⟩:=by
  unfold pNext
  simp only [h,ht]
  rw [if_neg (by rcases hn with hn|hn <;> simp [hn])]
theorem pNext_er {e:PE} {s:PS} {p:Nat} (h:skp (e.src.drop (s.pos+s.wd.length)) (s.pos+s.wd.length)=p) (ht:tok (e.src.drop p)=[]) (hn:e.src.drop p≠[]):pNext e s=.er p 5:=by
  unfold pNext
  simp only [h,ht]
  rw [if_pos ⟨hn,trivial⟩]
theorem skp_step {l:List UInt8} {p:Nat} (h:p < l.length) (hc:((nth l p).toNat:Int)=32):skp (l.drop p) p=skp (l.drop (p+1)) (p+1):=by
  rw [nth_drop h,skp,if_pos (UInt8.toNat_inj.1 (by show _=32; omega))]
theorem skp_stop {l:List UInt8} {p:Nat} (h: ¬((p:Int) < (l.length:Nat)∧((nth l p).toNat:Int)=32)):skp (l.drop p) p=p:=by
  by_cases hl:p < l.length
  · rw [nth_drop hl,skp,if_neg fun e=>h ⟨by omega,by rw [e]; rfl⟩]
  · rw [List.drop_eq_nil_of_le (by omega)]; rfl
theorem tok_arrow {r:List UInt8} (h:r≠[]) (h1:prB r [45,62]=true):tok r=[45,62]:=by unfold tok; rw [if_neg h,if_pos h1]
theorem tok_one {r:List UInt8} (h:r≠[]) (h1: ¬prB r [45,62]=true) (h2:0≤Lib.indexByte [33,38,124,40,41] (nth r 0)):tok r=r.take 1:=by unfold tok; rw [if_neg h,if_neg h1,if_pos h2]
theorem tok_word {r:List UInt8} {n:Nat} (h:r≠[]) (h1: ¬prB r [45,62]=true) (h2: ¬0≤Lib.indexByte [33,38,124,40,41] (nth r 0)) (hn:wlen r=n):tok r=r.take n:=by unfold tok; rw [if_neg h,if_neg h1,if_neg h2,hn]
theorem wlen_step {r:List UInt8} {n:Nat} (h:n < r.length) (hc:wby (nth r n)=true):wlen (r.drop n)=wlen (r.drop (n+1))+1:=by rw [nth_drop h,wlen,if_pos hc]
theorem wlen_stop {r:List UInt8} {n:Nat} (h: ¬(decide ((n:Int) < (r.length:Nat))&&wby (nth r n))=true):wlen (r.drop n)=0:=by
  by_cases hl:n < r.length
  · rw [nth_drop hl,wlen,if_neg]
    intro hw; exact h (by rw [hw,Bool.and_true]; exact decide_eq_true (by omega))
  · rw [List.drop_eq_nil_of_le (by omega)]; rfl
def Keeps (e:PE) (R:PS→Option (PR Fm)):Prop:= ∀ s f s1,OkS e s→R s=some (.ok f s1)→OkS e s1∧s1.dep=s.dep
theorem pPart_keeps {e : PE} {R : PS → Option (PR Fm)} (hR : Keeps e R) : Keeps e (pPart e R) := by
  intro s f s1 hs h
  unfold pPart at h
  cases hx:pNext e s with
  |er a x=>rw [hx] at h; cases h
  | ok u s2 =>
    rw [hx] at h
    obtain ⟨k1,k2,_⟩:=pNext_inv hs hx
    simp only at h
    split at h
    · cases h
    · rename_i hd
      have k3:OkS e {s2 with dep:=s2.dep+1}:=⟨k1.len,k1.pos,by show s2.dep+1≤128; omega⟩
      cases hy:R {s2 with dep:=s2.dep+1} with
      |none=>rw [hy] at h; cases h
      | some r =>
        rw [hy] at h
        cases r with
        |er a x=>cases h
        | ok g s3 =>
          cases h
          obtain ⟨k4,k5⟩:=hR _ _ _ k3 hy
          have k6:s3.dep=s2.dep+1:=k5
          exact ⟨⟨k4.len,k4.pos,by show s3.dep - 1≤128; omega⟩,by show s3.dep - 1=_; omega⟩
theorem pMore_keeps {e : PE} {w : List UInt8} {R : PS → Option (PR Fm)} (hR : Keeps e R) : ∀ (k : Nat) (l : List Fm) (s : PS) (l1 : List Fm) (s1 : PS), OkS e s → pMore e w R k l s = some (.ok l1 s1) → OkS e s1 ∧ s1.dep = s.dep
  |0,_,_,_,_,_,h=>by cases h
  | k + 1, l, s, l1, s1, hs, h => by
    rw [pMore] at h
    split at h
    · cases hx : pNext e s with
      |er a x=>rw [hx] at h; cases h
      | ok u s2 =>
        rw [hx] at h
        obtain ⟨k1,k2,_⟩:=pNext_inv hs hx
        simp only at h
        cases hy:R s2 with
        |none=>rw [hy] at h; cases h
        | some r =>
          rw [hy] at h
          cases r with
          |er a x=>cases h
          | ok g s3 =>
            obtain ⟨k3,k4⟩:=hR _ _ _ k1 hy
            obtain ⟨k5,k6⟩:=pMore_keeps hR k _ _ _ _ k3 h
            exact ⟨k5,by omega⟩
    · cases h; exact ⟨hs,rfl⟩
theorem pSev_keeps {e : PE} {w : List UInt8} {op : Int} {R : PS → Option (PR Fm)} {k : Nat} (hR : Keeps e R) : Keeps e (pSev e w op R k) := by
  intro s f s1 hs h
  unfold pSev at h
  cases hx:R s with
  |none=>rw [hx] at h; cases h
  | some r =>
    rw [hx] at h
    cases r with
    |er a x=>cases h
    | ok g s2 =>
      obtain ⟨k1,k2⟩:=hR _ _ _ hs hx
      simp only at h
      cases hy:pMore e w R k [g] s2 with
      |none=>rw [hy] at h; cases h
      | some r =>
        rw [hy] at h
        cases r with
        |er a x=>cases h
        | ok l s3 =>
          cases h
          obtain ⟨k3,k4⟩:=pMore_keeps hR k _ _ _ _ k1 hy
          exact ⟨k3,by omega⟩
theorem mapP_keeps {e:PE} {g:Fm→Fm} {R:PS→Option (PR Fm)} (hR:Keeps e R):Keeps e fun s=>mapP g (R s):=by
  intro s f s1 hs h
  simp only at h
  cases hx:R s with
  |none=>rw [hx] at h; cases h
  | some r =>
    rw [hx] at h
    cases r with
    |er a x=>cases h
    |ok q s2=>cases h; exact hR _ _ _ hs hx
theorem pAtom_keeps {e : PE} {s s1 : PS} {f : Fm} (hs : OkS e s) (h : pAtom e s = .ok f s1) : OkS e s1 ∧ s1.dep = s.dep := by
  unfold pAtom at h
  simp only at h
  split at h
  · rename_i q hq
    subst h
    split at hq
    · split at hq <;> cases hq
    · split at hq
      · split at hq <;> cases hq
      · split at hq
        · cases hq
        · split at hq <;> cases hq
  · cases hx:pNext e s with
    |er a x=>rw [hx] at h; cases h
    |ok u s2=>rw [hx] at h; cases h; obtain ⟨k1,k2,_⟩:=pNext_inv hs hx; exact ⟨k1,k2⟩
theorem pF_keeps (e : PE) : ∀ (k : Nat) (K : PK), Keeps e (pF e k K)
  |0,_=>fun _ _ _ _ h=>by cases h
  | k + 1, .form => fun s f s1 hs h => by
    rw [pF] at h
    cases hx:pSev e [124] 6 (pF e k .conj) k s with
    |none=>rw [hx] at h; cases h
    | some r =>
      rw [hx] at h
      cases r with
      |er a x=>cases h
      | ok g s2 =>
        obtain ⟨k1,k2⟩:=pSev_keeps (pF_keeps e k .conj) _ _ _ hs hx
        simp only at h
        split at h
        · obtain ⟨k3,k4⟩:=mapP_keeps (pPart_keeps (pF_keeps e k .form)) _ _ _ k1 h
          exact ⟨k3,by omega⟩
        · cases h; exact ⟨k1,k2⟩
  |k+1,.conj=>fun s f s1 hs h=>by rw [pF] at h; exact pSev_keeps (pF_keeps e k .bin) _ _ _ hs h
  | k + 1, .bin => fun s f s1 hs h => by
    rw [pF] at h
    cases hx:pF e k .un s with
    |none=>rw [hx] at h; cases h
    | some r =>
      rw [hx] at h
      cases r with
      |er a x=>cases h
      | ok g s2 =>
        obtain ⟨k1,k2⟩:=pF_keeps e k .un _ _ _ hs hx
        simp only at h
        split at h
        · obtain ⟨k3,k4⟩:=mapP_keeps (pPart_keeps (pF_keeps e k .bin)) _ _ _ k1 h
          exact ⟨k3,by omega⟩
        · split at h
          · obtain ⟨k3,k4⟩:=mapP_keeps (pPart_keeps (pF_keeps e k .bin)) _ _ _ k1 h
            exact ⟨k3,by omega⟩
          · cases h; exact ⟨k1,k2⟩
  | k + 1, .un => fun s f s1 hs h => by
    rw [pF] at h
    have hu:=pPart_keeps (pF_keeps e k .un)
    split at h
    · exact mapP_keeps hu _ _ _ hs h
    · split at h
      · exact mapP_keeps hu _ _ _ hs h
      · split at h
        · exact mapP_keeps hu _ _ _ hs h
        · split at h
          · exact mapP_keeps hu _ _ _ hs h
          · split at h
            · exact mapP_keeps hu _ _ _ hs h
            · split at h
              · cases hx : pPart e (pF e k .form) s with
                |none=>rw [hx] at h; cases h
                | some r =>
                  rw [hx] at h
                  cases r with
                  |er a x=>cases h
                  | ok g s2 =>
                    obtain ⟨k1,k2⟩:=pPart_keeps (pF_keeps e k .form) _ _ _ hs hx
                    simp only at h
                    split at h
                    · cases hy:pNext e s2 with
                      |er a x=>rw [hy] at h; cases h
                      |ok u s3=>rw [hy] at h; cases h; obtain ⟨k3,k4,_⟩:=pNext_inv k1 hy; exact ⟨k3,by omega⟩
                    · cases h
              · injection h with h; exact pAtom_keeps hs h
theorem take_ne {l:List UInt8} {n:Nat} (h:l≠[]) (hn:n≠0):l.take n≠[]:=by
  cases l with
  |nil=>exact absurd rfl h
  | cons a l => cases n with
    |zero=>exact absurd rfl hn
    |succ n=>simp
end Go.Proofs.Ytdmcmkccifmofaa
namespace Go.Proofs.Ytdmcmkccifmofaa
open Go
abbrev wIn:List UInt8:=[105,110,58]
abbrev wOut:List UInt8:=[111,117,116,58]
abbrev wFa:List UInt8:=[102,97,108,115,101]
abbrev wTr:List UInt8:=[116,114,117,101]
def aft (e:PE) (s:PS) (f:Fm):PR Fm:=match pNext e s with
  | .er a x=>.er a x
  | .ok _ s1=>.ok f s1
theorem pAtom_in {e:PE} {s:PS} (q1:prB s.wd wIn=true):pAtom e s=if ixB e.ia (cutP wIn s.wd)=true then aft e s (.nd 2 (ixV e.ia (cutP wIn s.wd)) []) else .er s.pos 8:=by
  unfold pAtom
  simp only [if_pos q1]
  split
  · rename_i q h
    split at h
    · cases h
    · cases h; rename_i h; rw [if_neg h]
  · rename_i h
    split at h
    · rename_i h2; rw [if_pos h2]; rfl
    · cases h
theorem pAtom_out {e:PE} {s:PS} (q1: ¬prB s.wd wIn=true) (q2:prB s.wd wOut=true):pAtom e s=if ixB e.oa (cutP wOut s.wd)=true then aft e s (.nd 3 (ixV e.oa (cutP wOut s.wd)) []) else .er s.pos 8:=by
  unfold pAtom
  simp only [if_neg q1,if_pos q2]
  split
  · rename_i q h
    split at h
    · cases h
    · cases h; rename_i h; rw [if_neg h]
  · rename_i h
    split at h
    · rename_i h2; rw [if_pos h2]; rfl
    · cases h
theorem pAtom_fa {e:PE} {s:PS} (q1: ¬prB s.wd wIn=true) (q2: ¬prB s.wd wOut=true) (q3:s.wd=wFa):pAtom e s=aft e s (.nd 4 0 [.nd 1 0 []]):=by
  unfold pAtom; simp only [if_neg q1,if_neg q2,if_pos q3]; rfl
theorem pAtom_tr {e:PE} {s:PS} (q1: ¬prB s.wd wIn=true) (q2: ¬prB s.wd wOut=true) (q3: ¬s.wd=wFa) (q4:s.wd=wTr):pAtom e s=aft e s (.nd 1 0 []):=by
  unfold pAtom; simp only [if_neg q1,if_neg q2,if_neg q3,if_pos q4]; rfl
theorem pAtom_no {e:PE} {s:PS} (q1: ¬prB s.wd wIn=true) (q2: ¬prB s.wd wOut=true) (q3: ¬s.wd=wFa) (q4: ¬s.wd=wTr):pAtom e s=.er s.pos 5:=by
  unfold pAtom; simp only [if_neg q1,if_neg q2,if_neg q3,if_neg q4]
theorem pAtom_in0 {e:PE} {s:PS} (q1:prB s.wd wIn=true) (d: ¬ixB e.ia (cutP wIn s.wd)=true):pAtom e s=.er s.pos 8:=by rw [pAtom_in q1,if_neg d]
theorem pAtom_in1 {e:PE} {s:PS} (q1:prB s.wd wIn=true) (d:ixB e.ia (cutP wIn s.wd)=true):pAtom e s=aft e s (.nd 2 (ixV e.ia (cutP wIn s.wd)) []):=by rw [pAtom_in q1,if_pos d]
theorem pAtom_out0 {e:PE} {s:PS} (q1: ¬prB s.wd wIn=true) (q2:prB s.wd wOut=true) (d: ¬ixB e.oa (cutP wOut s.wd)=true):pAtom e s=.er s.pos 8:=by rw [pAtom_out q1 q2,if_neg d]
theorem pAtom_out1 {e:PE} {s:PS} (q1: ¬prB s.wd wIn=true) (q2:prB s.wd wOut=true) (d:ixB e.oa (cutP wOut s.wd)=true):pAtom e s=aft e s (.nd 3 (ixV e.oa (cutP wOut s.wd)) []):=by rw [pAtom_out q1 q2,if_pos d]
theorem aft_ok {e:PE} {s s1:PS} {u:Unit} {f:Fm} (h:pNext e s=.ok u s1):aft e s f=.ok f s1:=by unfold aft; rw [h]
theorem aft_er {e:PE} {s:PS} {a:Nat} {x:Int} {f:Fm} (h:pNext e s=.er a x):aft e s f=.er a x:=by unfold aft; rw [h]
theorem pAtom_wd (e : PE) (s : PS) : (∃ f, pAtom e s = aft e s f) ∨ ∃ x, pAtom e s = .er s.pos x := by
  by_cases q1:prB s.wd wIn=true
  · by_cases d:ixB e.ia (cutP wIn s.wd)=true
    · exact .inl ⟨_,pAtom_in1 q1 d⟩
    · exact .inr ⟨_,pAtom_in0 q1 d⟩
  · by_cases q2:prB s.wd wOut=true
    · by_cases d:ixB e.oa (cutP wOut s.wd)=true
      · exact .inl ⟨_,pAtom_out1 q1 q2 d⟩
      · exact .inr ⟨_,pAtom_out0 q1 q2 d⟩
    · by_cases q3:s.wd=wFa
      · exact .inl ⟨_,pAtom_fa q1 q2 q3⟩
      · by_cases q4:s.wd=wTr
        · exact .inl ⟨_,pAtom_tr q1 q2 q3 q4⟩
        · exact .inr ⟨_,pAtom_no q1 q2 q3 q4⟩
def Fin1 (s:PS) (o:Option (PR Fm)):Prop:= ∃ r,o=some r∧ ∀ f s1,r=.ok f s1→s.pos≤s1.pos
def Tot (e:PE) (n:Nat) (R:PS→Option (PR Fm)):Prop:= ∀ s,OkS e s→e.src.length - s.pos < n→Fin1 s (R s)
theorem pPart_tot {e : PE} {n : Nat} {R : PS → Option (PR Fm)} (hR : Tot e n R) {s : PS} (hs : OkS e s) (hw : s.wd ≠ []) (hn : e.src.length - s.pos < n + 1) : Fin1 s (pPart e R s) := by
  have hl:0 < s.wd.length:=List.length_pos_iff.2 hw
  unfold pPart
  cases hx:pNext e s with
  |er a x=>exact ⟨_,rfl,fun _ _ h=>by cases h⟩
  | ok u s2 =>
    obtain ⟨k1,k2,k3⟩:=pNext_inv hs hx
    simp only
    split
    · exact ⟨_,rfl,fun _ _ h=>by cases h⟩
    · rename_i hd
      have k4:OkS e {s2 with dep:=s2.dep+1}:=⟨k1.len,k1.pos,by show s2.dep+1≤128; omega⟩
      have:=hs.pos
      obtain ⟨r,h1,h2⟩:=hR _ k4 (by show e.src.length - s2.pos < n; omega)
      rw [h1]
      cases r with
      |er a x=>exact ⟨_,rfl,fun _ _ h=>by cases h⟩
      | ok f s3 =>
        refine ⟨_,rfl,fun _ _ h=>?_⟩
        cases h
        have:=h2 _ _ rfl
        show s.pos≤s3.pos
        have:s2.pos≤s3.pos:=this
        omega
theorem pMore_tot {e : PE} {n : Nat} {w : List UInt8} {R : PS → Option (PR Fm)} (hw : w ≠ []) (hR : Tot e n R) (hK : Keeps e R) : ∀ (k : Nat) (l : List Fm) (s : PS), OkS e s → e.src.length - s.pos < k → e.src.length - s.pos < n + 1 →
    ∃ r,pMore e w R k l s=some r∧ ∀ l1 s1,r=.ok l1 s1→s.pos≤s1.pos
  |0,_,_,_,h,_=>by omega
  | k + 1, l, s, hs, hk, hn => by
    rw [pMore]
    split
    · rename_i e1
      have hl:0 < s.wd.length:=List.length_pos_iff.2 (by rw [e1]; exact hw)
      cases hx:pNext e s with
      |er a x=>exact ⟨_,rfl,fun _ _ h=>by cases h⟩
      | ok u s2 =>
        obtain ⟨k1,k2,k3⟩:=pNext_inv hs hx
        have:=hs.pos
        obtain ⟨r,h1,h2⟩:=hR s2 k1 (by omega)
        simp only
        rw [h1]
        cases r with
        |er a x=>exact ⟨_,rfl,fun _ _ h=>by cases h⟩
        | ok f s3 =>
          have h3:=h2 _ _ rfl
          obtain ⟨k4,_⟩:=hK _ _ _ k1 h1
          obtain ⟨r,h4,h5⟩:=pMore_tot hw hR hK k (l++[f]) s3 k4 (by omega) (by omega)
          exact ⟨r,h4,fun _ _ h=>by have:=h5 _ _ h; omega⟩
    · exact ⟨_,rfl,fun _ _ h=>by cases h; exact Nat.le_refl _⟩
theorem pSev_tot {e:PE} {n:Nat} {w:List UInt8} {op:Int} {R:PS→Option (PR Fm)} {k:Nat} (hw:w≠[]) (hR:Tot e n R) (hK:Keeps e R) (hk:n≤k):Tot e n (pSev e w op R k):=by
  intro s hs hn
  obtain ⟨r,h1,h2⟩:=hR s hs hn
  unfold pSev
  rw [h1]
  cases r with
  |er a x=>exact ⟨_,rfl,fun _ _ h=>by cases h⟩
  | ok f s1 =>
    have h3:=h2 _ _ rfl
    obtain ⟨k4,_⟩:=hK _ _ _ hs h1
    obtain ⟨r,h4,h5⟩:=pMore_tot hw hR hK k [f] s1 k4 (by omega) (by omega)
    simp only
    rw [h4]
    cases r with
    |er a x=>exact ⟨_,rfl,fun _ _ h=>by cases h⟩
    |ok l s2=>exact ⟨_,rfl,fun _ _ h=>by cases h; have:=h5 _ _ rfl; omega⟩
theorem mapP_fin {s:PS} {g:Fm→Fm} {o:Option (PR Fm)} (h:Fin1 s o):Fin1 s (mapP g o):=by
  obtain ⟨r,rfl,h2⟩:=h
  cases r with
  |er a x=>exact ⟨_,rfl,fun _ _ h=>by cases h⟩
  |ok f s1=>exact ⟨_,rfl,fun _ _ h=>by cases h; exact h2 _ _ rfl⟩
theorem Fin1.le {s s1:PS} {o:Option (PR Fm)} (h:Fin1 s1 o) (hl:s.pos≤s1.pos):Fin1 s o:=by
  obtain ⟨r,h1,h2⟩:=h
  exact ⟨r,h1,fun f s2 h3=>Nat.le_trans hl (h2 f s2 h3)⟩
theorem aft_fin {e:PE} {s:PS} (hs:OkS e s) (f:Fm):Fin1 s (some (aft e s f)):=by
  cases hx:pNext e s with
  |er a x=>rw [aft_er hx]; exact ⟨_,rfl,fun _ _ h=>by cases h⟩
  | ok u s2 =>
    obtain ⟨_,_,k3⟩:=pNext_inv hs hx
    rw [aft_ok hx]; exact ⟨_,rfl,fun _ _ h=>by cases h; omega⟩
theorem pF_tot (e : PE) : ∀ n k, (4 * n ≤ k → Tot e n (pF e k .un)) ∧ (4 * n + 1 ≤ k → Tot e n (pF e k .bin)) ∧ (4 * n + 2 ≤ k → Tot e n (pF e k .conj)) ∧ (4 * n + 3 ≤ k → Tot e n (pF e k .form))
  |0,_=>⟨fun _ _ _ h=>by omega,fun _ _ _ h=>by omega,fun _ _ _ h=>by omega,fun _ _ _ h=>by omega⟩
  | n + 1, k => by
    have U : ∀ k, 4 * (n + 1) ≤ k → Tot e (n + 1) (pF e k .un) := by
      intro k hk s hs hn
      obtain ⟨k,rfl⟩: ∃ j,k=j+1:=⟨k - 1,by omega⟩
      have hu:=fun hw=>pPart_tot ((pF_tot e n k).1 (by omega)) hs hw hn
      rw [pF]
      split
      · rename_i h; exact mapP_fin (hu (by rw [h]; simp))
      · split
        · rename_i h; exact mapP_fin (hu (by rw [h]; simp))
        · split
          · rename_i h; exact mapP_fin (hu (by rw [h]; simp))
          · split
            · rename_i h; exact mapP_fin (hu (by rw [h]; simp))
            · split
              · rename_i h; exact mapP_fin (hu (by rw [h]; simp))
              · split
                · rename_i h
                  obtain ⟨r,h1,h2⟩:=pPart_tot ((pF_tot e n k).2.2.2 (by omega)) hs (by rw [h]; simp) hn
                  rw [h1]
                  cases r with
                  |er a x=>exact ⟨_,rfl,fun _ _ h=>by cases h⟩
                  | ok f s1 =>
                    have h3:=h2 _ _ rfl
                    obtain ⟨k1,_⟩:=pPart_keeps (pF_keeps e k .form) _ _ _ hs h1
                    simp only
                    split
                    · cases hx:pNext e s1 with
                      |er a x=>exact ⟨_,rfl,fun _ _ h=>by cases h⟩
                      | ok u s2 =>
                        obtain ⟨_,_,k3⟩:=pNext_inv k1 hx
                        exact ⟨_,rfl,fun _ _ h=>by cases h; omega⟩
                    · exact ⟨_,rfl,fun _ _ h=>by cases h⟩
                · rcases pAtom_wd e s with ⟨f,h⟩|⟨x,h⟩
                  · rw [h]; exact aft_fin hs f
                  · rw [h]; exact ⟨_,rfl,fun _ _ h=>by cases h⟩
    have B: ∀ k,4*(n+1)+1≤k→Tot e (n+1) (pF e k .bin):=by
      intro k hk s hs hn
      obtain ⟨k,rfl⟩: ∃ j,k=j+1:=⟨k - 1,by omega⟩
      obtain ⟨r,h1,h2⟩:=U k (by omega) s hs hn
      rw [pF,h1]
      cases r with
      |er a x=>exact ⟨_,rfl,fun _ _ h=>by cases h⟩
      | ok f s1 =>
        have h3:=h2 _ _ rfl
        obtain ⟨k1,_⟩:=pF_keeps e k .un _ _ _ hs h1
        have hb:=fun hw=>(pPart_tot ((pF_tot e n k).2.1 (by omega)) k1 hw (by omega)).le h3
        simp only
        split
        · rename_i h; exact mapP_fin (hb (by rw [h]; simp))
        · split
          · rename_i h; exact mapP_fin (hb (by rw [h]; simp))
          · exact ⟨_,rfl,fun _ _ h=>by cases h; exact h3⟩
    have Cj: ∀ k,4*(n+1)+2≤k→Tot e (n+1) (pF e k .conj):=by
      intro k hk s hs hn
      obtain ⟨k,rfl⟩: ∃ j,k=j+1:=⟨k - 1,by omega⟩
      rw [pF]
      exact pSev_tot (by simp) (B k (by omega)) (pF_keeps e k .bin) (by omega) s hs hn
    refine ⟨U k,B k,Cj k,fun hk s hs hn=>?_⟩
    obtain ⟨k,rfl⟩: ∃ j,k=j+1:=⟨k - 1,by omega⟩
    obtain ⟨r,h1,h2⟩:=pSev_tot (w:=[124]) (op:=6) (k:=k) (by simp) (Cj k (by omega)) (pF_keeps e k .conj) (by omega) s hs hn
    rw [pF,h1]
    cases r with
    |er a x=>exact ⟨_,rfl,fun _ _ h=>by cases h⟩
    | ok f s1 =>
      have h3:=h2 _ _ rfl
      obtain ⟨k1,_⟩:=pSev_keeps (pF_keeps e k .conj) _ _ _ hs h1
      simp only
      split
      · rename_i h; exact mapP_fin ((pPart_tot ((pF_tot e n k).2.2.2 (by omega)) k1 (by rw [h]; simp) (by omega)).le h3)
      · exact ⟨_,rfl,fun _ _ h=>by cases h; exact h3⟩
def fuE (e:PE):Nat:=4*e.src.length+7
theorem pF_all {e:PE} {s:PS} (hs:OkS e s): ∃ r,pF e (fuE e) .form s=some r:=by
  obtain ⟨r,h,_⟩:=(pF_tot e (e.src.length+1) (fuE e)).2.2.2 (by unfold fuE; omega) s hs (by omega)
  exact ⟨r,h⟩
def prsE (e : PE) : Fm × Int × Int :=
  match pNext e ⟨0,[],0⟩ with
  | .er a x=>(.nd 0 0 [],a,x)
  | .ok _ s1 => match pF e (fuE e) .form s1 with
    |none=>(.nd 0 0 [],0,0)
    |some (.er a x)=>(.nd 0 0 [],a,x)
    |some (.ok f s2)=>if s2.wd≠[] then (.nd 0 0 [],s2.pos,5) else if fval f≠0 then (.nd 0 0 [],((e.src.length:Nat):Int),fval f) else (f,0,0)
def prs (ia oa:List (List UInt8)) (src:List UInt8):Fm×Int×Int:=
  if avs ia oa≠0 then (.nd 0 0 [],0,avs ia oa) else if 1048576 < src.length then (.nd 0 0 [],0,3) else prsE ⟨ia,oa,src⟩
end Go.Proofs.Ytdmcmkccifmofaa
namespace Go.Proofs.Ytdmcmkccifmofaa
open Go Go.Proofs
def s37:SF:=⟨24,[.cell 2 true 3],.seq (.reg [sO 2 (.alloc 24 [.int .i64 0,.int .i64 0,.nilsl])]) (.seq (.seq (.reg [qM 5 0,qM 6 0,sO 7 (.mkm 60 [.t 6] [])]) (.seq (.pop (some 8) (.call 59 [.t 5,.c (.str [124]),.c (.int .i64 6),.t 7])) (.reg [sO 3 (.alloc 24 [.int .i64 0,.int .i64 0,.nilsl]),sN (.store 3 (.t 3) (.t 8))]))) (.seq (.seq (.reg [qM 9 0,sO 10 (.nilck (.t 9)),qF 11 4 10,ql 12 11,sO 13 (.sbin .neq (.t 12) (.c (.str [45,62])))]) (.cond (.t 13) (.seq (.reg [qL 14 3 3,sN (.store 3 (.t 2) (.t 14))]) (.ret)) (.skip))) (.seq (.seq (.reg [qM 15 0,qM 16 0,sO 17 (.mkm 37 [.t 16] [])]) (.seq (.pop (some 18) (.call 61 [.t 15,.t 17])) (.reg [sO 4 (.alloc 24 [.int .i64 0,.int .i64 0,.nilsl]),sN (.store 3 (.t 4) (.t 18))]))) (.seq (.reg [qL 19 3 3,sO 20 (.call false 50 [.t 19]),qL 21 3 4,sO 22 (.bslice 24 3 false [.int .i64 0,.int .i64 0,.nilsl] 2 [(0,.t 20),(1,.t 21)]),sO 23 (.call false 62 [.c (.int .i64 6),.t 22]),sN (.store 3 (.t 2) (.t 23))]) (.ret)))))⟩
theorem s37_ok:slimF Try.prog ⟨[31,36,37,38,40,41,42,44,45,59,60,61,65,66,67,71,72,73,81,82,84,92,93,98,99,102,104],[],[36,37,38,40,41,42,59,60,61,65,66,67,81,82,92,93,98,99,102,104],[]⟩ Try.f37=some s37:=by kernel_rfl
def b59_0:SC:=.seq (.seq (.reg [qM 13 0,sO 14 (.nilck (.t 13)),qF 15 4 14,ql 16 15,qM 17 1,sO 18 (.sbin .eql (.t 16) (.t 17))]) (.cond (.t 18) (.skip) (.exit 0))) (.block 1 (.seq (.seq (.reg [qM 19 0]) (.seq (.pop (some 20) (.call 36 [.t 19])) (.reg []))) (.seq (.reg [qM 21 9,qM 22 3]) (.seq (.pop (some 23) (.callv (.t 22) [])) (.reg [sO 24 (.bslice 24 3 false [.int .i64 0,.int .i64 0,.nilsl] 1 [(0,.t 23)]),sO 25 (.append 24 3 40 (.t 21) (.t 24)),qM 9 25])))))
def s59:SF:=⟨35,[.cell 8 true 3],.seq (.reg [sO 8 (.alloc 24 [.int .i64 0,.int .i64 0,.nilsl])]) (.seq (.seq (.reg [qM 10 3]) (.seq (.pop (some 11) (.callv (.t 10) [])) (.reg [sO 12 (.bslice 24 3 true [.int .i64 0,.int .i64 0,.nilsl] 1 [(0,.t 11)]),qM 9 12]))) (.seq (.block 0 (.loop b59_0)) (.seq (.seq (.reg [qM 26 9,qN 27 26,qC 28 .eql 27 1]) (.cond (.t 28) (.seq (.reg [qM 29 9,sO 30 (.idx 3 (.t 29) (.c (.int .i64 0))),qL 31 3 30,sN (.store 3 (.t 8) (.t 31))]) (.ret)) (.skip))) (.seq (.reg [qM 32 2,qM 33 9,sO 34 (.call false 62 [.t 32,.t 33]),sN (.store 3 (.t 8) (.t 34))]) (.ret)))))⟩
theorem s59_ok:slimF Try.prog ⟨[31,36,37,38,40,41,42,44,45,59,60,61,65,66,67,71,72,73,81,82,84,92,93,98,99,102,104],[12],[36,37,38,40,41,42,59,60,61,65,66,67,81,82,92,93,98,99,102,104],[11,23]⟩ Try.f59=some s59:=by kernel_rfl
def r36_0:List SO:=[
 qM 5 0,
 sO 6 (.nilck (.t 5)),
 qF 7 3 6,
 ql 8 7,
 qM 9 0,
 sO 10 (.nilck (.t 9)),
 qF 11 4 10,
 ql 12 11,
 sO 13 (.slen (.t 12)),
 qP 14 .add 8 13,
 qM 2 14]
def r36_1:List SO:=[
 qM 15 2,
 qM 16 0,
 sO 17 (.nilck (.t 16)),
 qF 18 2 17,
 ql 19 18,
 sO 20 (.slen (.t 19)),
 qP 21 .lss 15 20,
 qM 22 21,
 ⟨some (22,true),some 23,.mv (.t 0)⟩,
 ⟨some (22,true),some 24,.nilck (.t 23)⟩,
 ⟨some (22,true),some 25,.fld 2 (.t 24)⟩,
 ⟨some (22,true),some 26,.load false 1 (.t 25)⟩,
 ⟨some (22,true),some 27,.mv (.t 2)⟩,
 ⟨some (22,true),some 28,.sidx (.t 26) (.t 27)⟩,
 ⟨some (22,true),some 29,.bin .eql (.t 28) (.c (.int .u8 32))⟩,
 sO 30 (.pick (.t 22) (.t 29) (.c (.bool false)))]
def b36_0:SC:=.seq (.seq (.reg r36_1) (.cond (.t 30) (.skip) (.exit 0))) (.block 1 (.reg [qM 31 2,qC 32 .add 31 1,qM 2 32]))
def r36_4:List SO:=[
 qM 37 0,
 sO 38 (.nilck (.t 37)),
 qF 39 2 38,
 ql 40 39,
 qM 41 2,
 sO 42 (.sslice (.t 40) (some (.t 41)) none),
 qM 3 42]
def r36_6:List SO:=[
 qM 43 4,
 qM 44 3,
 sO 45 (.slen (.t 44)),
 qP 46 .lss 43 45,
 qM 47 46,
 ⟨some (47,true),some 48,.mv (.t 3)⟩,
 ⟨some (47,true),some 49,.mv (.t 4)⟩,
 ⟨some (47,true),some 50,.sidx (.t 48) (.t 49)⟩,
 ⟨some (47,true),some 51,.call false 58 [.t 50]⟩,
 sO 52 (.pick (.t 47) (.t 51) (.c (.bool false)))]
def b36_1:SC:=.seq (.seq (.reg r36_6) (.cond (.t 52) (.skip) (.exit 3))) (.block 4 (.reg [qM 53 4,qC 54 .add 53 1,qM 4 54]))
def r36_8:List SO:=[
 qM 55 0,
 qM 56 3,
 qM 57 4,
 sO 58 (.sslice (.t 56) none (some (.t 57))),
 sO 59 (.nilck (.t 55)),
 qF 60 4 59,
 sN (.store 1 (.t 60) (.t 58))]
def s36:SF:=⟨87,[],.seq (.reg r36_0) (.seq (.block 0 (.loop b36_0)) (.seq (.reg [qM 33 0,qM 34 2,sO 35 (.nilck (.t 33)),qF 36 3 35,sN (.store 1 (.t 36) (.t 34))]) (.seq (.reg r36_4) (.block 2 (.seq (.reg [qM 66 3,sO 67 (.sbin .eql (.t 66) (.c (.str []))),qM 65 67]) (.cond (.t 65) (.reg [qM 68 0,sO 69 (.nilck (.t 68)),qF 70 4 69,sN (.store 1 (.t 70) (.c (.str [])))]) (.seq (.reg [qM 72 3,sO 73 (.call false 56 [.t 72,.c (.str [45,62])]),qM 71 73]) (.cond (.t 71) (.reg [qM 74 0,sO 75 (.nilck (.t 74)),qF 76 4 75,sN (.store 1 (.t 76) (.c (.str [45,62])))]) (.seq (.reg [qM 78 3,sO 79 (.sidx (.t 78) (.c (.int .i64 0))),sO 80 (.call false 57 [.c (.str [33,38,124,40,41]),.t 79]),qC 81 .geq 80 0,qM 77 81]) (.cond (.t 77) (.reg [qM 82 0,qM 83 3,sO 84 (.sslice (.t 83) none (some (.c (.int .i64 1)))),sO 85 (.nilck (.t 82)),qF 86 4 85,sN (.store 1 (.t 86) (.t 84))]) (.seq (.reg [qI 4 0]) (.seq (.block 3 (.loop b36_1)) (.seq (.reg r36_8) (.seq (.reg [qM 61 4,qC 62 .eql 61 0]) (.cond (.t 62) (.seq (.reg [qM 63 0]) (.seq (.pop (some 64) (.call 38 [.t 63,.c (.int .i64 5)])) (.reg []))) (.skip))))))))))))))))⟩
theorem s36_ok:slimF Try.prog ⟨[31,36,37,38,40,41,42,44,45,59,60,61,65,66,67,71,72,73,81,82,84,92,93,98,99,102,104],[],[36,37,38,40,41,42,59,60,61,65,66,67,81,82,92,93,98,99,102,104],[]⟩ Try.f36=some s36:=by kernel_rfl
def r38_1000:List SO:=[
 qM 4 0,
 sO 5 (.nilck (.t 4)),
 qF 6 3 5,
 ql 7 6,
 qM 8 1,
 sO 9 (.build [.int .i64 0,.int .i64 0] [(0,1,.t 7),(1,1,.t 8)]),
 sO 10 (.mki 75 (.t 9))]
def s38:SF:=⟨11,[],.seq (.reg r38_1000) (.seq (.pop none (.raise (.t 10))) (.reg []))⟩
theorem s38_ok:slimF Try.prog ⟨[31,36,37,38,40,41,42,44,45,59,60,61,65,66,67,71,72,73,81,82,84,92,93,98,99,102,104],[],[36,37,38,40,41,42,59,60,61,65,66,67,81,82,92,93,98,99,102,104],[]⟩ Try.f38=some s38:=by kernel_rfl
theorem pfail_loc (v:Nat) (e:PE) (s:PS) (x:Int):LocC Try.prog 38 1 [(V.mp 0 v 0 0),(iV (x))] (hpB (bk v 79 6 [[(V.sl (List.map cS (e.ia))),(V.sl (List.map cS (e.oa))),(V.str e.src),(iV ((s.pos:Nat):Int)),(V.str s.wd),(iV ((s.dep:Nat):Int))]])) (.pan (failC 75 s.pos x)):=by
 refine lW (k0:=0) Try.func38 s38_ok fun hB=>?_
 unfold s38
 dsimp only
 refine W_r (R_mv rfl (R_nilck_mp rfl rfl oB (R_fk rfl rfl (R_lk rfl rfl rfl rfl (R_mv rfl (R_build rfl rfl (R_mki (w:=(V.agg [(iV ((s.pos:Nat):Int)),(iV (x))])) (q:=(.agg #[.int .i64 ((s.pos:Nat):Int),.int .i64 (x)])) (@rfl V (V.agg [(iV ((s.pos:Nat):Int)),(iV (x))])) rfl ?_)))))))
 refine R_e (pop_raise (@rfl V (V.raw (.iface 75 (.agg #[.int .i64 ((s.pos:Nat):Int),.int .i64 (x)])))) (RetL_pan ?_))
 rfl
def s56:SF:=⟨8,[.tmp 4],.seq (.reg [sO 4 (.mv (.c (.bool false)))]) (.seq (.reg [qM 5 0,qM 6 1,sO 7 (.call false 79 [.t 5,.t 6]),qM 4 7]) (.ret))⟩
theorem s56_ok:slimF Try.prog ⟨[31,36,37,38,40,41,42,44,45,59,60,61,65,66,67,71,72,73,81,82,84,92,93,98,99,102,104],[],[],[]⟩ Try.f56=some s56:=by kernel_rfl
def r79_1:List SO:=[
 qM 5 0,
 sO 6 (.slen (.t 5)),
 qM 7 1,
 sO 8 (.slen (.t 7)),
 qP 9 .geq 6 8,
 qM 10 9,
 ⟨some (10,true),some 11,.mv (.t 0)⟩,
 ⟨some (10,true),some 12,.mv (.t 1)⟩,
 ⟨some (10,true),some 13,.slen (.t 12)⟩,
 ⟨some (10,true),some 14,.sslice (.t 11) none (some (.t 13))⟩,
 ⟨some (10,true),some 15,.mv (.t 1)⟩,
 ⟨some (10,true),some 16,.sbin .eql (.t 14) (.t 15)⟩,
 sO 17 (.pick (.t 10) (.t 16) (.c (.bool false))),
 qM 4 17]
def s79:SF:=⟨18,[.tmp 4],.seq (.reg [sO 4 (.mv (.c (.bool false)))]) (.seq (.reg r79_1) (.ret))⟩
theorem s79_ok:slimF Try.prog ⟨[31,36,37,38,40,41,42,44,45,59,60,61,65,66,67,71,72,73,81,82,84,92,93,98,99,102,104],[],[],[]⟩ Try.f79=some s79:=by kernel_rfl
theorem slhp_pure (s p:List UInt8) (hl:s.length≤1048576):PureC Try.prog 79 [(V.str s),(V.str p)] (V.bool (prB s p)):=by
 refine pW Try.func79 s79_ok fun hB=>?_
 unfold s79
 dsimp only
 refine W_r (R_mv rfl (R_e (W_r (R_mv rfl (R_slen (s:=s) rfl (R_mv rfl (R_slen (s:=p) rfl ?_)))))))
 refine R_geq rfl rfl (R_mv rfl ?_)
 refine Ops_seg 7 (fun T H=>T 17=(V.bool (decide ((((p.length:Nat):Int)≤((s.length:Nat):Int))∧(List.take p.length s=p))))∧True) ?_ ?_
 ·
  by_cases g1:((p.length:Nat):Int)≤((s.length:Nat):Int)
  ·
   refine G_yes (edT g1 rfl) (R_mv rfl (G_yes (edT g1 rfl) (R_mv rfl (G_yes (edT g1 rfl) (R_slen (s:=p) rfl (G_yes (edT g1 rfl) (R_sshi (s:=s) (m:=p.length) (@rfl V (V.str s)) (@rfl V (iV ((p.length:Nat):Int))) (by omega) ?_)))))))
   refine G_yes (edT g1 rfl) (R_mv rfl (G_yes (edT g1 rfl) (R_seql (s:=(List.take p.length s)) (t:=p) rfl rfl (R_pickT (edT g1 rfl) rfl ?_))))
   exact ⟨(dec_andT g1),trivial⟩
  ·
   refine G_n (edF g1 rfl) (G_n (edF g1 rfl) (G_n (edF g1 rfl) (G_n (edF g1 rfl) (G_n (edF g1 rfl) (G_n (edF g1 rfl) (R_pickF (edF g1 rfl) rfl ?_))))))
   exact ⟨(dec_andF g1),trivial⟩
 intro T H ⟨t17,_⟩
 refine R_mv t17 (R_e (W_ret ?_))
 refine Ret_1 (@rfl V (V.bool (decide ((((p.length:Nat):Int)≤((s.length:Nat):Int))∧(List.take p.length s=p))))) (fz_bool ?_)
 · unfold prB; exact decide_eq_decide.2 (by simp only [Int.ofNat_le])
theorem shp_pure (s p:List UInt8) (hl:s.length≤1048576):PureC Try.prog 56 [(V.str s),(V.str p)] (V.bool (prB s p)):=by
 refine pW Try.func56 s56_ok fun hB=>?_
 unfold s56
 dsimp only
 refine W_r (R_mv rfl (R_e (W_r (R_mv rfl (R_mv rfl (R_callk (slhp_pure s p (by omega)) rfl (R_mv rfl ?_)))))))
 refine R_e (W_ret ?_)
 refine Ret_1 (@rfl V (V.bool (prB s p))) (fz_canon (by simp) rfl)
def s57:SF:=⟨8,[.tmp 4],.seq (.reg [qI 4 0]) (.seq (.reg [qM 5 0,qM 6 1,sO 7 (.call false 80 [.t 5,.t 6]),qM 4 7]) (.ret))⟩
theorem s57_ok:slimF Try.prog ⟨[31,36,37,38,40,41,42,44,45,59,60,61,65,66,67,71,72,73,81,82,84,92,93,98,99,102,104],[],[],[]⟩ Try.f57=some s57:=by kernel_rfl
set_option maxHeartbeats 1000000 in
set_option maxRecDepth 100000 in
theorem ixb_calls (s:ByteArray) (c:Int) (w:World):
    Calls Try.prog 80 #[.string s,.int .u8 c] w fun e w'=>e=.returned (.int .i64 (Lib.indexByte s.data.toList c.toNat.toUInt8))∧w'=w:=by
  go_enter Try.func80,Try.ntmps80
  go_wp2
  rw [run_callFunc_extern Try.func91 (by kernel_rfl) (by kernel_rfl) (by kernel_rfl) (e:=Extern.BytealgIndexByte.indexByte) (by kernel_rfl),Lib.run_indexByteString]
  simp only [Result.andThen]
  rw [Oper.upon_value]
  go_wp2
  go_ret
  exact ⟨rfl,rfl⟩
theorem slix_pure (s:List UInt8) (c:UInt8):PureC Try.prog 80 [.str s,u8V c] (iV (Lib.indexByte s c)):=fun H=>by
  refine ⟨⟨_,Try.func80,by kernel_rfl,by kernel_rfl⟩,fun x cs hxH hx hr=>?_⟩
  obtain ⟨hl,hr⟩:=hr
  match cs,hl with
  | [c1, c2], _ =>
    have h1:=hr 0 _ rfl
    have h2:=hr 1 _ rfl
    simp only [List.getD_cons_zero,List.getD_cons_succ] at h1 h2
    cases h1; cases h2
    refine (ixb_calls ⟨s.toArray⟩ c.toNat x.w).mono fun e w' h=>?_
    refine ⟨_,x,h.1,h.2.symm,hxH,hx,?_,Frame.refl x⟩
    have e1:((c.toNat:Nat):Int).toNat.toUInt8=c:=by simp
    rw [e1]
    exact .int _ _
theorem six_pure (s:List UInt8) (c:UInt8):PureC Try.prog 57 [(V.str s),(u8V c)] (iV ((Lib.indexByte s c))):=by
 refine pW Try.func57 s57_ok fun hB=>?_
 unfold s57
 dsimp only
 refine W_r (R_mv rfl (R_e (W_r (R_mv rfl (R_mv rfl (R_callk (slix_pure s c) rfl (R_mv rfl ?_)))))))
 refine R_e (W_ret ?_)
 refine Ret_1 (@rfl V (iV ((Lib.indexByte s c)))) (fz_canon (by simp) rfl)
def r58_1:List SO:=[
 qM 3 0,
 sO 4 (.bin .geq (.t 3) (.c (.int .u8 97))),
 qM 5 4,
 ⟨some (5,true),some 6,.mv (.t 0)⟩,
 ⟨some (5,true),some 7,.bin .leq (.t 6) (.c (.int .u8 122))⟩,
 sO 8 (.pick (.t 5) (.t 7) (.c (.bool false))),
 qM 9 8,
 ⟨some (9,false),some 10,.mv (.t 0)⟩,
 ⟨some (9,false),some 11,.bin .geq (.t 10) (.c (.int .u8 65))⟩,
 ⟨some (9,false),some 12,.mv (.t 11)⟩,
 ⟨some (12,true),some 13,.mv (.t 0)⟩,
 ⟨some (12,true),some 14,.bin .leq (.t 13) (.c (.int .u8 90))⟩,
 ⟨some (9,false),some 15,.pick (.t 12) (.t 14) (.c (.bool false))⟩,
 sO 16 (.pick (.t 9) (.c (.bool true)) (.t 15)),
 qM 17 16,
 ⟨some (17,false),some 18,.mv (.t 0)⟩,
 ⟨some (17,false),some 19,.bin .geq (.t 18) (.c (.int .u8 48))⟩,
 ⟨some (17,false),some 20,.mv (.t 19)⟩,
 ⟨some (20,true),some 21,.mv (.t 0)⟩,
 ⟨some (20,true),some 22,.bin .leq (.t 21) (.c (.int .u8 57))⟩,
 ⟨some (17,false),some 23,.pick (.t 20) (.t 22) (.c (.bool false))⟩,
 sO 24 (.pick (.t 17) (.c (.bool true)) (.t 23)),
 qM 25 24,
 ⟨some (25,false),some 26,.mv (.t 0)⟩,
 ⟨some (25,false),some 27,.bin .eql (.t 26) (.c (.int .u8 95))⟩,
 sO 28 (.pick (.t 25) (.c (.bool true)) (.t 27)),
 qM 29 28,
 ⟨some (29,false),some 30,.mv (.t 0)⟩,
 ⟨some (29,false),some 31,.bin .eql (.t 30) (.c (.int .u8 45))⟩,
 sO 32 (.pick (.t 29) (.c (.bool true)) (.t 31)),
 qM 33 32,
 ⟨some (33,false),some 34,.mv (.t 0)⟩,
 ⟨some (33,false),some 35,.bin .eql (.t 34) (.c (.int .u8 46))⟩,
 sO 36 (.pick (.t 33) (.c (.bool true)) (.t 35)),
 qM 37 36,
 ⟨some (37,false),some 38,.mv (.t 0)⟩,
 ⟨some (37,false),some 39,.bin .eql (.t 38) (.c (.int .u8 58))⟩,
 sO 40 (.pick (.t 37) (.c (.bool true)) (.t 39)),
 qM 2 40]
def s58:SF:=⟨41,[.tmp 2],.seq (.reg [sO 2 (.mv (.c (.bool false)))]) (.seq (.reg r58_1) (.ret))⟩
theorem s58_ok:slimF Try.prog ⟨[31,36,37,38,40,41,42,44,45,59,60,61,65,66,67,71,72,73,81,82,84,92,93,98,99,102,104],[],[],[]⟩ Try.f58=some s58:=by kernel_rfl
theorem letter_pure (c:UInt8):PureC Try.prog 58 [(u8V c)] (V.bool (wby c)):=by
 refine pW Try.func58 s58_ok fun hB=>?_
 unfold s58
 dsimp only
 refine W_r (R_mv rfl (R_e (W_r (R_mv rfl (R_geqk (x:=(((c).toNat:Nat):Int)) (y:=(97:Int)) rfl rfl (R_mv rfl ?_))))))
 refine Ops_seg 3 (fun T H=>T 0=(u8V c)∧T 8=(V.bool (decide (((97:Int)≤(((c).toNat:Nat):Int))∧((((c).toNat:Nat):Int)≤(122:Int)))))∧True) ?_ ?_
 ·
  by_cases g1:(97:Int)≤(((c).toNat:Nat):Int)
  ·
   refine G_yes (edT g1 rfl) (R_mv rfl (G_yes (edT g1 rfl) (R_leqk (x:=(((c).toNat:Nat):Int)) (y:=(122:Int)) rfl rfl (R_pickT (edT g1 rfl) rfl ?_))))
   exact ⟨rfl,(dec_andT g1),trivial⟩
  ·
   refine G_n (edF g1 rfl) (G_n (edF g1 rfl) (R_pickF (edF g1 rfl) rfl ?_))
   exact ⟨rfl,(dec_andF g1),trivial⟩
 intro T H ⟨t0,t8,_⟩
 refine R_mv t8 ?_
 refine Ops_seg 7 (fun T H=>T 0=(u8V c)∧T 16=(V.bool (decide ((((97:Int)≤(((c).toNat:Nat):Int))∧((((c).toNat:Nat):Int)≤(122:Int)))∨(((65:Int)≤(((c).toNat:Nat):Int))∧((((c).toNat:Nat):Int)≤(90:Int))))))∧True) ?_ ?_
 ·
  by_cases g2:((97:Int)≤(((c).toNat:Nat):Int))∧((((c).toNat:Nat):Int)≤(122:Int))
  ·
   refine G_n (edT g2 rfl) (G_n (edT g2 rfl) (G_n (edT g2 rfl) (G_raw (@rfl V (V.raw undef)) (G_raw (@rfl V (V.raw undef)) (G_n (edT g2 rfl) (R_pickT (edT g2 rfl) rfl ?_))))))
   exact ⟨t0,(dec_orT g2),trivial⟩
  ·
   refine G_yes (edF g2 rfl) (R_mv t0 (G_yes (edF g2 rfl) (R_geqk (x:=(((c).toNat:Nat):Int)) (y:=(65:Int)) rfl rfl (G_yes (edF g2 rfl) (R_mv rfl ?_)))))
   refine Ops_seg 3 (fun T H=>T 0=(u8V c)∧T 9=(V.bool false)∧T 15=(V.bool (decide (((65:Int)≤(((c).toNat:Nat):Int))∧((((c).toNat:Nat):Int)≤(90:Int)))))∧True) ?_ ?_
   ·
    by_cases g3:(65:Int)≤(((c).toNat:Nat):Int)
    ·
     refine G_yes (edT g3 rfl) (R_mv t0 (G_yes (edT g3 rfl) (R_leqk (x:=(((c).toNat:Nat):Int)) (y:=(90:Int)) rfl rfl (G_yes (edF g2 rfl) (R_pickT (edT g3 rfl) rfl ?_)))))
     exact ⟨t0,(edF g2 rfl),(dec_andT g3),trivial⟩
    ·
     refine G_n (edF g3 rfl) (G_n (edF g3 rfl) (G_yes (edF g2 rfl) (R_pickF (edF g3 rfl) rfl ?_)))
     exact ⟨t0,(edF g2 rfl),(dec_andF g3),trivial⟩
   intro T H ⟨t0,t9,t15,_⟩
   refine R_pickF t9 t15 ?_
   exact ⟨t0,(dec_orF g2),trivial⟩
 intro T H ⟨t0,t16,_⟩
 refine R_mv t16 ?_
 refine Ops_seg 7 (fun T H=>T 0=(u8V c)∧T 24=(V.bool (decide (((((97:Int)≤(((c).toNat:Nat):Int))∧((((c).toNat:Nat):Int)≤(122:Int)))∨(((65:Int)≤(((c).toNat:Nat):Int))∧((((c).toNat:Nat):Int)≤(90:Int))))∨(((48:Int)≤(((c).toNat:Nat):Int))∧((((c).toNat:Nat):Int)≤(57:Int))))))∧True) ?_ ?_
 ·
  by_cases g4:(((97:Int)≤(((c).toNat:Nat):Int))∧((((c).toNat:Nat):Int)≤(122:Int)))∨(((65:Int)≤(((c).toNat:Nat):Int))∧((((c).toNat:Nat):Int)≤(90:Int)))
  ·
   refine G_n (edT g4 rfl) (G_n (edT g4 rfl) (G_n (edT g4 rfl) (G_raw (@rfl V (V.raw undef)) (G_raw (@rfl V (V.raw undef)) (G_n (edT g4 rfl) (R_pickT (edT g4 rfl) rfl ?_))))))
   exact ⟨t0,(dec_orT g4),trivial⟩
  ·
   refine G_yes (edF g4 rfl) (R_mv t0 (G_yes (edF g4 rfl) (R_geqk (x:=(((c).toNat:Nat):Int)) (y:=(48:Int)) rfl rfl (G_yes (edF g4 rfl) (R_mv rfl ?_)))))
   refine Ops_seg 3 (fun T H=>T 0=(u8V c)∧T 17=(V.bool false)∧T 23=(V.bool (decide (((48:Int)≤(((c).toNat:Nat):Int))∧((((c).toNat:Nat):Int)≤(57:Int)))))∧True) ?_ ?_
   ·
    by_cases g5:(48:Int)≤(((c).toNat:Nat):Int)
    ·
     refine G_yes (edT g5 rfl) (R_mv t0 (G_yes (edT g5 rfl) (R_leqk (x:=(((c).toNat:Nat):Int)) (y:=(57:Int)) rfl rfl (G_yes (edF g4 rfl) (R_pickT (edT g5 rfl) rfl ?_)))))
     exact ⟨t0,(edF g4 rfl),(dec_andT g5),trivial⟩
    ·
     refine G_n (edF g5 rfl) (G_n (edF g5 rfl) (G_yes (edF g4 rfl) (R_pickF (edF g5 rfl) rfl ?_)))
     exact ⟨t0,(edF g4 rfl),(dec_andF g5),trivial⟩
   intro T H ⟨t0,t17,t23,_⟩
   refine R_pickF t17 t23 ?_
   exact ⟨t0,(dec_orF g4),trivial⟩
 intro T H ⟨t0,t24,_⟩
 refine R_mv t24 ?_
 refine Ops_seg 3 (fun T H=>T 0=(u8V c)∧T 28=(V.bool (decide ((((((97:Int)≤(((c).toNat:Nat):Int))∧((((c).toNat:Nat):Int)≤(122:Int)))∨(((65:Int)≤(((c).toNat:Nat):Int))∧((((c).toNat:Nat):Int)≤(90:Int))))∨(((48:Int)≤(((c).toNat:Nat):Int))∧((((c).toNat:Nat):Int)≤(57:Int))))∨((((c).toNat:Nat):Int)=(95:Int)))))∧True) ?_ ?_
 ·
  by_cases g6:((((97:Int)≤(((c).toNat:Nat):Int))∧((((c).toNat:Nat):Int)≤(122:Int)))∨(((65:Int)≤(((c).toNat:Nat):Int))∧((((c).toNat:Nat):Int)≤(90:Int))))∨(((48:Int)≤(((c).toNat:Nat):Int))∧((((c).toNat:Nat):Int)≤(57:Int)))
  ·
   refine G_n (edT g6 rfl) (G_n (edT g6 rfl) (R_pickT (edT g6 rfl) rfl ?_))
   exact ⟨t0,(dec_orT g6),trivial⟩
  ·
   refine G_yes (edF g6 rfl) (R_mv t0 (G_yes (edF g6 rfl) (R_eqlk (x:=(((c).toNat:Nat):Int)) (y:=(95:Int)) rfl rfl (R_pickF (edF g6 rfl) rfl ?_))))
   exact ⟨t0,(dec_orF g6),trivial⟩
 intro T H ⟨t0,t28,_⟩
 refine R_mv t28 ?_
 refine Ops_seg 3 (fun T H=>T 0=(u8V c)∧T 32=(V.bool (decide (((((((97:Int)≤(((c).toNat:Nat):Int))∧((((c).toNat:Nat):Int)≤(122:Int)))∨(((65:Int)≤(((c).toNat:Nat):Int))∧((((c).toNat:Nat):Int)≤(90:Int))))∨(((48:Int)≤(((c).toNat:Nat):Int))∧((((c).toNat:Nat):Int)≤(57:Int))))∨((((c).toNat:Nat):Int)=(95:Int)))∨((((c).toNat:Nat):Int)=(45:Int)))))∧True) ?_ ?_
 ·
  by_cases g7:(((((97:Int)≤(((c).toNat:Nat):Int))∧((((c).toNat:Nat):Int)≤(122:Int)))∨(((65:Int)≤(((c).toNat:Nat):Int))∧((((c).toNat:Nat):Int)≤(90:Int))))∨(((48:Int)≤(((c).toNat:Nat):Int))∧((((c).toNat:Nat):Int)≤(57:Int))))∨((((c).toNat:Nat):Int)=(95:Int))
  ·
   refine G_n (edT g7 rfl) (G_n (edT g7 rfl) (R_pickT (edT g7 rfl) rfl ?_))
   exact ⟨t0,(dec_orT g7),trivial⟩
  ·
   refine G_yes (edF g7 rfl) (R_mv t0 (G_yes (edF g7 rfl) (R_eqlk (x:=(((c).toNat:Nat):Int)) (y:=(45:Int)) rfl rfl (R_pickF (edF g7 rfl) rfl ?_))))
   exact ⟨t0,(dec_orF g7),trivial⟩
 intro T H ⟨t0,t32,_⟩
 refine R_mv t32 ?_
 refine Ops_seg 3 (fun T H=>T 0=(u8V c)∧T 36=(V.bool (decide ((((((((97:Int)≤(((c).toNat:Nat):Int))∧((((c).toNat:Nat):Int)≤(122:Int)))∨(((65:Int)≤(((c).toNat:Nat):Int))∧((((c).toNat:Nat):Int)≤(90:Int))))∨(((48:Int)≤(((c).toNat:Nat):Int))∧((((c).toNat:Nat):Int)≤(57:Int))))∨((((c).toNat:Nat):Int)=(95:Int)))∨((((c).toNat:Nat):Int)=(45:Int)))∨((((c).toNat:Nat):Int)=(46:Int)))))∧True) ?_ ?_
 ·
  by_cases g8:((((((97:Int)≤(((c).toNat:Nat):Int))∧((((c).toNat:Nat):Int)≤(122:Int)))∨(((65:Int)≤(((c).toNat:Nat):Int))∧((((c).toNat:Nat):Int)≤(90:Int))))∨(((48:Int)≤(((c).toNat:Nat):Int))∧((((c).toNat:Nat):Int)≤(57:Int))))∨((((c).toNat:Nat):Int)=(95:Int)))∨((((c).toNat:Nat):Int)=(45:Int))
  ·
   refine G_n (edT g8 rfl) (G_n (edT g8 rfl) (R_pickT (edT g8 rfl) rfl ?_))
   exact ⟨t0,(dec_orT g8),trivial⟩
  ·
   refine G_yes (edF g8 rfl) (R_mv t0 (G_yes (edF g8 rfl) (R_eqlk (x:=(((c).toNat:Nat):Int)) (y:=(46:Int)) rfl rfl (R_pickF (edF g8 rfl) rfl ?_))))
   exact ⟨t0,(dec_orF g8),trivial⟩
 intro T H ⟨t0,t36,_⟩
 refine R_mv t36 ?_
 refine Ops_seg 3 (fun T H=>T 40=(V.bool (decide (((((((((97:Int)≤(((c).toNat:Nat):Int))∧((((c).toNat:Nat):Int)≤(122:Int)))∨(((65:Int)≤(((c).toNat:Nat):Int))∧((((c).toNat:Nat):Int)≤(90:Int))))∨(((48:Int)≤(((c).toNat:Nat):Int))∧((((c).toNat:Nat):Int)≤(57:Int))))∨((((c).toNat:Nat):Int)=(95:Int)))∨((((c).toNat:Nat):Int)=(45:Int)))∨((((c).toNat:Nat):Int)=(46:Int)))∨((((c).toNat:Nat):Int)=(58:Int)))))∧True) ?_ ?_
 ·
  by_cases g9:(((((((97:Int)≤(((c).toNat:Nat):Int))∧((((c).toNat:Nat):Int)≤(122:Int)))∨(((65:Int)≤(((c).toNat:Nat):Int))∧((((c).toNat:Nat):Int)≤(90:Int))))∨(((48:Int)≤(((c).toNat:Nat):Int))∧((((c).toNat:Nat):Int)≤(57:Int))))∨((((c).toNat:Nat):Int)=(95:Int)))∨((((c).toNat:Nat):Int)=(45:Int)))∨((((c).toNat:Nat):Int)=(46:Int))
  ·
   refine G_n (edT g9 rfl) (G_n (edT g9 rfl) (R_pickT (edT g9 rfl) rfl ?_))
   exact ⟨(dec_orT g9),trivial⟩
  ·
   refine G_yes (edF g9 rfl) (R_mv t0 (G_yes (edF g9 rfl) (R_eqlk (x:=(((c).toNat:Nat):Int)) (y:=(58:Int)) rfl rfl (R_pickF (edF g9 rfl) rfl ?_))))
   exact ⟨(dec_orF g9),trivial⟩
 intro T H ⟨t40,_⟩
 refine R_mv t40 (R_e (W_ret ?_))
 refine Ret_1 (@rfl V (V.bool (decide (((((((((97:Int)≤(((c).toNat:Nat):Int))∧((((c).toNat:Nat):Int)≤(122:Int)))∨(((65:Int)≤(((c).toNat:Nat):Int))∧((((c).toNat:Nat):Int)≤(90:Int))))∨(((48:Int)≤(((c).toNat:Nat):Int))∧((((c).toNat:Nat):Int)≤(57:Int))))∨((((c).toNat:Nat):Int)=(95:Int)))∨((((c).toNat:Nat):Int)=(45:Int)))∨((((c).toNat:Nat):Int)=(46:Int)))∨((((c).toNat:Nat):Int)=(58:Int)))))) (fz_bool ?_)
 · unfold wby ltr; rw [← Bool.decide_or]; exact decide_eq_decide.2 (by omega)
theorem pnext_loc (v:Nat) (e:PE) (s:PS) (hs:OkS e s):LocC Try.prog 36 1 [(V.mp 0 v 0 0)] (hpB (bk v 79 6 [[(V.sl (List.map cS (e.ia))),(V.sl (List.map cS (e.oa))),(V.str e.src),(iV ((s.pos:Nat):Int)),(V.str s.wd),(iV ((s.dep:Nat):Int))]])) ((pNext e s).out 79 75 v e unV0):=by
 refine lW (k0:=0) Try.func36 s36_ok fun hB=>?_
 unfold s36
 dsimp only
 have hlen:=hs.len
 have hpos:=hs.pos
 have hdep:=hs.dep
 refine W_r (R_mv rfl (R_nilck_mp rfl rfl oB (R_fk rfl rfl (R_lk rfl rfl rfl rfl (R_mv rfl (R_nilck_mp rfl rfl oB (R_fk rfl rfl ?_)))))))
 refine R_lk rfl rfl rfl rfl (R_slen (s:=s.wd) rfl (R_addN rfl rfl (by omega) (R_mv rfl (R_e (W_seq_blockgP fun Q1 n1 x1 y1 z1 w1=>?_)))))
 refine W_loopP (fun mm T H=> ∃ (p:Nat),mm=e.src.length - p∧T 0=(V.mp 0 v 0 0)∧T 2=(iV ((p:Nat):Int))∧H 0=(bk v 79 6 [[(V.sl (List.map cS (e.ia))),(V.sl (List.map cS (e.oa))),(V.str e.src),(iV ((s.pos:Nat):Int)),(V.str s.wd),(iV ((s.dep:Nat):Int))]])∧(p≤e.src.length)∧(skp (e.src.drop (s.pos+s.wd.length)) (s.pos+s.wd.length)=skp (e.src.drop p) p)) ?_ ?_
 ·
  refine ⟨_,(s.pos+s.wd.length),rfl,rfl,(Eq.trans (@rfl V (iV ((s.pos+s.wd.length:Nat):Int))) (by rfl)),rfl,?_,?_⟩
  · omega
  · rfl
 intro mm T H ⟨p,hmm,t0,t2,h0,hp,hc⟩ Q2 p12 p22 p32 p42
 unfold b36_0
 refine W_seq_seq (W_r (R_mv t2 (R_mv t0 (R_nilck_mp rfl h0 oB (R_fk rfl h0 (R_lk rfl h0 rfl rfl (R_slen (s:=e.src) rfl ?_)))))))
 refine R_lss rfl rfl (R_mv rfl ?_)
 refine Ops_seg 8 (fun T H=>T 0=(V.mp 0 v 0 0)∧T 2=(iV ((p:Nat):Int))∧T 30=(V.bool (decide ((((p:Nat):Int) < ((e.src.length:Nat):Int))∧((((nth e.src p).toNat:Nat):Int)=(32:Int)))))∧H 0=(bk v 79 6 [[(V.sl (List.map cS (e.ia))),(V.sl (List.map cS (e.oa))),(V.str e.src),(iV ((s.pos:Nat):Int)),(V.str s.wd),(iV ((s.dep:Nat):Int))]])∧True) ?_ ?_
 ·
  by_cases g3:((p:Nat):Int) < ((e.src.length:Nat):Int)
  ·
   refine G_yes (edT g3 rfl) (R_mv t0 (G_yes (edT g3 rfl) (R_nilck_mp rfl h0 oB (G_yes (edT g3 rfl) (R_fk rfl h0 (G_yes (edT g3 rfl) (R_lk rfl h0 rfl rfl ?_)))))))
   refine G_yes (edT g3 rfl) (R_mv t2 (G_yes (edT g3 rfl) (R_sidx (s:=e.src) (i:=p) rfl rfl (by omega) (G_yes (edT g3 rfl) (R_eqlk (x:=(((nth e.src p).toNat:Nat):Int)) (y:=(32:Int)) rfl rfl (R_pickT (edT g3 rfl) rfl ?_))))))
   exact ⟨t0,t2,(dec_andT g3),h0,trivial⟩
  ·
   refine G_n (edF g3 rfl) (G_n (edF g3 rfl) (G_n (edF g3 rfl) (G_n (edF g3 rfl) (G_n (edF g3 rfl) (G_n (edF g3 rfl) (G_n (edF g3 rfl) (R_pickF (edF g3 rfl) rfl ?_)))))))
   exact ⟨t0,t2,(dec_andF g3),h0,trivial⟩
 intro T H ⟨t0,t2,t30,h0,_⟩
 refine R_e ?_
 refine W_seq_if t30 (fun c4=>?_) fun c4=>?_
 ·
  have d1:=c4
  refine W_seq_skip (W_blockP fun Q5 n5 x5 y5 z5 w5=>(W_t (R_mv t2 (R_addN rfl (@rfl V (iV ((1:Nat):Int))) (by omega) (R_mv rfl (R_e (n5 _ _ ?_)))))))
  refine p12 _ _ _ ?_ ⟨(p+1),rfl,t0,(Eq.trans (@rfl V (iV ((p+1:Nat):Int))) (by rfl)),h0,?_,?_⟩
  · omega
  · omega
  · rw [hc,skp_step (by omega) d1.2]
 have hs1:skp (e.src.drop (s.pos+s.wd.length)) (s.pos+s.wd.length)=p:=by rw [hc]; exact skp_stop c4
 refine W_seq_exit (p32 _ _ _ (x1 _ _ (.done (W_r (R_mv t0 (R_mv t2 (R_nilck_mp rfl h0 oB ?_)))))))
 refine R_fk rfl h0 (R_sk rfl rfl rfl h0 rfl rfl rfl rfl rfl (R_e (W_r (R_mv t0 (R_nilck_mp rfl rfl oB (R_fk rfl rfl (R_lk rfl rfl rfl rfl ?_)))))))
 refine R_mv t2 (R_sslo (s:=e.src) (m:=p) (@rfl V (V.str e.src)) (@rfl V (iV ((p:Nat):Int))) (by omega) (R_mv rfl (R_e (W_blockP fun Q6 n6 x6 y6 z6 w6=>(W_r (R_mv rfl (R_seql (s:=(List.drop p e.src)) (t:=([])) rfl rfl ?_)))))))
 refine R_mv rfl (R_e ?_)
 refine W_if rfl (fun c7=>?_) fun c7=>?_
 ·
  have d2:e.src.drop p=[]:=c7
  refine W_t (R_mv t0 (R_nilck_mp rfl rfl oB (R_fk rfl rfl (R_sk rfl rfl rfl rfl rfl rfl rfl rfl rfl (R_e (n6 _ _ ?_))))))
  refine RetL_okn (v:=(V.tup [])) (b:=(bk v 79 6 [[(V.sl (List.map cS (e.ia))),(V.sl (List.map cS (e.oa))),(V.str e.src),(iV ((p:Nat):Int)),(V.str ([])),(iV ((s.dep:Nat):Int))]])) rfl ?_ (by simp) (.same (cut_fin 1 _) _) (@rfl Blk (bk v 79 6 [[(V.sl (List.map cS (e.ia))),(V.sl (List.map cS (e.oa))),(V.str e.src),(iV ((p:Nat):Int)),(V.str ([])),(iV ((s.dep:Nat):Int))]])) (by simp [locB,loc0])
  rw [pNext_ok hs1 (w:=[]) (by rw [d2]; rfl) (.inl d2)]; rfl
 have d2:e.src.drop p≠[]:=c7
 have hne:0 < (List.drop p e.src).length:=List.length_pos_iff.2 d2
 refine W_r (R_mv rfl (R_callk (shp_pure (List.drop p e.src) ([45,62]) (by rw [List.length_drop]; omega)) rfl (R_mv rfl (R_e ?_))))
 refine W_ifb rfl (fun c8=>?_) (fun c8=>?_)
 ·
  have d3:prB (e.src.drop p) [45,62]=true:=c8
  refine W_t (R_mv t0 (R_nilck_mp rfl rfl oB (R_fk rfl rfl (R_sk rfl rfl rfl rfl rfl rfl rfl rfl rfl (R_e (n6 _ _ ?_))))))
  refine RetL_okn (v:=(V.tup [])) (b:=(bk v 79 6 [[(V.sl (List.map cS (e.ia))),(V.sl (List.map cS (e.oa))),(V.str e.src),(iV ((p:Nat):Int)),(V.str ([45,62])),(iV ((s.dep:Nat):Int))]])) rfl ?_ (by simp) (.same (cut_fin 1 _) _) (@rfl Blk (bk v 79 6 [[(V.sl (List.map cS (e.ia))),(V.sl (List.map cS (e.oa))),(V.str e.src),(iV ((p:Nat):Int)),(V.str ([45,62])),(iV ((s.dep:Nat):Int))]])) (by simp [locB,loc0])
  rw [pNext_ok hs1 (tok_arrow d2 d3) (.inr (by simp))]; rfl
 have d3: ¬prB (e.src.drop p) [45,62]=true:=by rw [c8]; exact Bool.false_ne_true
 refine W_r (R_mv rfl (R_sidx (s:=(List.drop p e.src)) (i:=0) rfl (@rfl V (iV ((0:Nat):Int))) (by omega) (R_callk (six_pure ([33,38,124,40,41]) (nth (List.drop p e.src) 0)) rfl (R_geq rfl rfl (R_mv rfl (R_e ?_))))))
 refine W_if rfl (fun c9=>?_) fun c9=>?_
 ·
  have d4:=c9
  refine W_regc (fun T H=>H 0=(bk v 79 6 [[(V.sl (List.map cS (e.ia))),(V.sl (List.map cS (e.oa))),(V.str e.src),(iV ((p:Nat):Int)),(V.str (List.take 1 (List.drop p e.src))),(iV ((s.dep:Nat):Int))]])∧True) ?_ ?_
  ·
   refine R_mv t0 (R_mv rfl (R_sshi (s:=(List.drop p e.src)) (m:=1) (@rfl V (V.str (List.drop p e.src))) (@rfl V (iV ((1:Nat):Int))) (by omega) (R_nilck_mp rfl rfl oB (R_fk rfl rfl (R_sk rfl rfl rfl rfl rfl rfl rfl rfl rfl ?_)))))
   exact R_nil ⟨rfl,trivial⟩
  intro T H ⟨h0,_⟩
  refine n6 _ _ ?_
  refine RetL_okn (v:=(V.tup [])) (b:=(bk v 79 6 [[(V.sl (List.map cS (e.ia))),(V.sl (List.map cS (e.oa))),(V.str e.src),(iV ((p:Nat):Int)),(V.str (List.take 1 (List.drop p e.src))),(iV ((s.dep:Nat):Int))]])) rfl ?_ (by simp) (.same (cut_fin 1 _) _) h0 (by simp [locB,loc0])
  rw [pNext_ok hs1 (tok_one d2 d3 d4) (.inr (take_ne d2 (by omega)))]; rfl
 have d4:=c9
 refine W_r (R_mv rfl (R_e (W_seq_blockgP fun Q10 n10 x10 y10 z10 w10=>?_)))
 refine W_loopP (fun mm T H=> ∃ (n:Nat),mm=(List.drop p e.src).length - n∧T 0=(V.mp 0 v 0 0)∧T 3=(V.str (List.drop p e.src))∧T 4=(iV ((n:Nat):Int))∧H 0=(bk v 79 6 [[(V.sl (List.map cS (e.ia))),(V.sl (List.map cS (e.oa))),(V.str e.src),(iV ((p:Nat):Int)),(V.str s.wd),(iV ((s.dep:Nat):Int))]])∧(n≤(List.drop p e.src).length)∧(wlen (List.drop p e.src)=n+wlen ((List.drop p e.src).drop n))) ?_ ?_
 ·
  refine ⟨_,0,rfl,t0,rfl,(Eq.trans (@rfl V (iV (0:Int))) rfl),rfl,?_,?_⟩
  · omega
  · simp
 intro mm T H ⟨n,hmm,t0,t3,t4,h0,hn,hw⟩ Q11 p111 p211 p311 p411
 unfold b36_1
 refine W_seq_seq (W_r (R_mv t4 (R_mv t3 (R_slen (s:=(List.drop p e.src)) rfl (R_lss rfl rfl (R_mv rfl ?_))))))
 refine Ops_seg 5 (fun T H=>T 0=(V.mp 0 v 0 0)∧T 3=(V.str (List.drop p e.src))∧T 4=(iV ((n:Nat):Int))∧T 52=(V.bool ((decide (((n:Nat):Int) < (((List.drop p e.src).length:Nat):Int))&&(wby (nth (List.drop p e.src) n)))))∧H 0=(bk v 79 6 [[(V.sl (List.map cS (e.ia))),(V.sl (List.map cS (e.oa))),(V.str e.src),(iV ((p:Nat):Int)),(V.str s.wd),(iV ((s.dep:Nat):Int))]])∧True) ?_ ?_
 ·
  by_cases g12:((n:Nat):Int) < (((List.drop p e.src).length:Nat):Int)
  ·
   refine G_yes (edT g12 rfl) (R_mv t3 (G_yes (edT g12 rfl) (R_mv t4 (G_yes (edT g12 rfl) (R_sidx (s:=(List.drop p e.src)) (i:=n) rfl rfl (by omega) (G_yes (edT g12 rfl) (R_callk (letter_pure (nth (List.drop p e.src) n)) rfl ?_)))))))
   refine R_pickT (edT g12 rfl) rfl ?_
   exact ⟨t0,t3,t4,(dbandT g12),h0,trivial⟩
  ·
   refine G_n (edF g12 rfl) (G_n (edF g12 rfl) (G_n (edF g12 rfl) (G_n (edF g12 rfl) (R_pickF (edF g12 rfl) rfl ?_))))
   exact ⟨t0,t3,t4,(dbandF g12),h0,trivial⟩
 intro T H ⟨t0,t3,t4,t52,h0,_⟩
 refine R_e ?_
 refine W_seq_ifb t52 (fun c13=>?_) (fun c13=>?_)
 ·
  have d5:=c13
  rw [Bool.and_eq_true,decide_eq_true_eq] at d5
  refine W_seq_skip (W_blockP fun Q14 n14 x14 y14 z14 w14=>(W_t (R_mv t4 (R_addN rfl (@rfl V (iV ((1:Nat):Int))) (by (simp only [List.length_drop] at*; omega)) (R_mv rfl (R_e (n14 _ _ ?_)))))))
  refine p111 _ _ _ ?_ ⟨(n+1),rfl,t0,t3,(Eq.trans (@rfl V (iV ((n+1:Nat):Int))) (by rfl)),h0,?_,?_⟩
  · omega
  · omega
  · rw [hw,wlen_step (by omega) d5.2]; omega
 have hn1:wlen (e.src.drop p)=n:=by rw [hw,wlen_stop (by rw [c13]; exact Bool.false_ne_true)]; rfl
 refine W_seq_exit (p311 _ _ _ (x10 _ _ (.done (W_r (R_mv t0 (R_mv t3 (R_mv t4 ?_)))))))
 refine R_sshi (s:=(List.drop p e.src)) (m:=n) (@rfl V (V.str (List.drop p e.src))) (@rfl V (iV ((n:Nat):Int))) (by omega) (R_nilck_mp rfl h0 oB (R_fk rfl h0 (R_sk rfl rfl rfl h0 rfl rfl rfl rfl rfl (R_e (W_r (R_mv t4 (R_eql rfl rfl ?_)))))))
 refine R_e ?_
 refine W_if rfl (fun c15=>?_) fun c15=>?_
 ·
  have d6:=c15
  refine W_r (R_mv t0 (R_e (pop_pan (i:=0) (pfail_loc v e (⟨p,List.take n (List.drop p e.src),s.dep⟩:PS) (5:Int)) (evcons (@rfl V (V.mp 0 v 0 0)) (evcons (@rfl V (iV (5:Int))) evnil)) rfl (@rfl Blk (bk v 79 6 [[(V.sl (List.map cS (e.ia))),(V.sl (List.map cS (e.oa))),(V.str e.src),(iV ((p:Nat):Int)),(V.str (List.take n (List.drop p e.src))),(iV ((s.dep:Nat):Int))]])) rfl fun H'=>(w6 _ _ _ (RetL_pan ?_)))))
  rw [pNext_er hs1 (by rw [tok_word d2 d3 d4 hn1,show n=0 by omega]; rfl) d2]; rfl
 have d6:=c15
 refine W_skip (n6 _ _ ?_)
 refine RetL_okn (v:=(V.tup [])) (b:=(bk v 79 6 [[(V.sl (List.map cS (e.ia))),(V.sl (List.map cS (e.oa))),(V.str e.src),(iV ((p:Nat):Int)),(V.str (List.take n (List.drop p e.src))),(iV ((s.dep:Nat):Int))]])) rfl ?_ (by simp) (.same (cut_fin 1 _) _) (@rfl Blk (bk v 79 6 [[(V.sl (List.map cS (e.ia))),(V.sl (List.map cS (e.oa))),(V.str e.src),(iV ((p:Nat):Int)),(V.str (List.take n (List.drop p e.src))),(iV ((s.dep:Nat):Int))]])) (by simp [locB,loc0])
 rw [pNext_ok hs1 (tok_word d2 d3 d4 hn1) (.inr (take_ne d2 (by omega)))]; rfl
def s62:SF:=⟨8,[.cell 4 true 3],.seq (.reg [sO 4 (.alloc 24 [.int .i64 0,.int .i64 0,.nilsl])]) (.seq (.reg [qM 5 0,qM 6 1,sO 7 (.build [.int .i64 0,.int .i64 0,.nilsl] [(0,1,.t 5),(2,1,.t 6)]),sN (.store 3 (.t 4) (.t 7))]) (.ret))⟩
theorem s62_ok:slimF Try.prog ⟨[31,36,37,38,40,41,42,44,45,59,60,61,65,66,67,71,72,73,81,82,84,92,93,98,99,102,104],[],[],[]⟩ Try.f62=some s62:=by kernel_rfl
theorem node_pure (o:Int) (l:List Fm):PureC Try.prog 62 [(iV (o)),(V.sl (List.map cF (l)))] (V.agg [(iV (o)),(iV (0:Int)),(V.sl (List.map cF (l)))]):=by
 refine pW Try.func62 s62_ok fun hB=>?_
 unfold s62
 dsimp only
 refine W_r (R_alloc (i:=4) (n:=0) (m:=3) rfl (congrArg Blk.ver rfl) rfl (R_e (W_r (R_mv rfl (R_mv rfl (R_build rfl rfl (R_sk rfl rfl rfl rfl rfl rfl rfl rfl rfl ?_)))))))
 refine R_e (W_ret ?_)
 refine RetC_1 (resV_c (u:=(V.agg [(iV (o)),(iV (0:Int)),(V.sl (List.map cF (l)))])) rfl (@rfl Blk (bk 1 24 3 [[(iV (o)),(iV (0:Int)),(V.sl (List.map cF (l)))]])) (lB oB rfl rfl)) (fz_canon (by simp) rfl)
theorem psev_loc (v:Nat) (e:PE) (s:PS) (hs:OkS e s) (g:Nat) (R:PS→Option (PR Fm)) (hR: ∀ (s:PS) (r:PR Fm),OkS e s→R s=some r→LocC Try.prog g 1 [.mp 0 v 0 0] (hpB (bk v 79 6 [pCells e s])) (r.out 79 75 v e fmV)) (hK:Keeps e R) (wd:List UInt8) (op:Int) (k:Nat) (hkb:k≤4294967296) (r:PR Fm) (h:pSev e wd op R k s=some r):LocC Try.prog 59 1 [(V.mp 0 v 0 0),(V.str wd),(iV (op)),(V.fn g [(V.mp 0 v 0 0)] [])] (hpB (bk v 79 6 [[(V.sl (List.map cS (e.ia))),(V.sl (List.map cS (e.oa))),(V.str e.src),(iV ((s.pos:Nat):Int)),(V.str s.wd),(iV ((s.dep:Nat):Int))]])) (r.out 79 75 v e fmV):=by
 refine lW (k0:=0) Try.func59 s59_ok fun hB=>?_
 unfold s59
 dsimp only
 have hlen:=hs.len
 have hpos:=hs.pos
 have hdep:=hs.dep
 refine W_r (R_alloc (i:=8) (n:=0) (m:=3) rfl (congrArg Blk.ver rfl) rfl (R_e (W_seq_seq (W_r (R_mv rfl (R_e (W_seq_seq ?_)))))))
 rcases hx:R s with _|(⟨f1,s1⟩|⟨a_s1,x_s1⟩)
 ·
  exfalso; simp only [pSev,hx] at h; cases h
 ·
  obtain ⟨k1,k1d⟩:=hK _ _ _ hs hx
  have hfin:finSev op (pMore e wd R k [f1] s1)=some r:=by simpa only [pSev,hx] using h
  refine popv_ok (i:=0) (@rfl V (V.fn g [(V.mp 0 v 0 0)] [])) (hR _ _ hs hx) evnil rfl (@rfl Blk (bk v 79 6 [[(V.sl (List.map cS (e.ia))),(V.sl (List.map cS (e.oa))),(V.str e.src),(iV ((s.pos:Nat):Int)),(V.str s.wd),(iV ((s.dep:Nat):Int))]])) rfl rfl (fork_ (R:=fun T H=>T 0=(V.mp 0 v 0 0)∧T 1=(V.str wd)∧T 2=(iV (op))∧T 3=(V.fn g [(V.mp 0 v 0 0)] [])∧T 8=(V.mp 8 1 0 0)∧T 10=(V.fn g [(V.mp 0 v 0 0)] [])∧T 11=(V.agg [(iV (f1.op)),(iV (f1.arg)),(V.sl (List.map cF (f1.kids)))])∧H 0=(bk v 79 6 [[(V.sl (List.map cS (e.ia))),(V.sl (List.map cS (e.oa))),(V.str e.src),(iV ((s1.pos:Nat):Int)),(V.str s1.wd),(iV ((s1.dep:Nat):Int))]])∧H 8=(bk 1 24 3 [[(iV (0:Int)),(iV (0:Int)),V.nilsl]])∧H 12=(⟨0,false,false,0,0,[]⟩:Blk)∧True) ⟨(@rfl V (V.mp 0 v 0 0)),(@rfl V (V.str wd)),(@rfl V (iV (op))),(@rfl V (V.fn g [(V.mp 0 v 0 0)] [])),(@rfl V (V.mp 8 1 0 0)),(@rfl V (V.fn g [(V.mp 0 v 0 0)] [])),(@rfl V (V.agg [(iV (f1.op)),(iV (f1.arg)),(V.sl (List.map cF (f1.kids)))])),rfl,rfl,rfl,trivial⟩ ?_)
  intro T H ⟨t0,t1,t2,t3,t8,t10,t11,h0,h8,h12,_⟩
  refine W_r (R_bslice_own (i:=12) (n:=0) (qs:=[(0,(V.agg [(iV (f1.op)),(iV (f1.arg)),(V.sl (List.map cF (f1.kids)))]))]) (rows:=[[(iV (f1.op)),(iV (f1.arg)),(V.sl (List.map cF (f1.kids)))]]) rfl (congrArg Blk.ver h12) (mcons (congrArg (fun v=>(0,v)) t11) rfl) rfl (R_mv rfl (R_e (W_seq_blockgP fun Q1 n1 x1 y1 z1 w1=>?_))))
  refine W_loopP (fun mm T H=> ∃ (l:List Fm) (s2:PS) (n:Nat) (w:Nat),mm=n∧T 0=(V.mp 0 v 0 0)∧T 1=(V.str wd)∧T 2=(iV (op))∧T 3=(V.fn g [(V.mp 0 v 0 0)] [])∧T 8=(V.mp 8 1 0 0)∧T 9=(V.ms 12 w 0 (l.length))∧H 0=(bk v 79 6 [[(V.sl (List.map cS (e.ia))),(V.sl (List.map cS (e.oa))),(V.str e.src),(iV ((s2.pos:Nat):Int)),(V.str s2.wd),(iV ((s2.dep:Nat):Int))]])∧H 8=(bk 1 24 3 [[(iV (0:Int)),(iV (0:Int)),V.nilsl]])∧H 12=(bk w 24 3 (List.map cF (l)))∧(OkS e s2)∧(l.length+n≤1+k)∧(finSev op (pMore e wd R n l s2)=some r)) ?_ ?_
  ·
   refine ⟨_,[f1],s1,k,1,rfl,t0,t1,t2,t3,t8,(Eq.trans (@rfl V (V.ms 12 1 0 (1))) (by rfl)),h0,h8,(Eq.trans (@rfl Blk (bk 1 24 3 [[(iV (f1.op)),(iV (f1.arg)),(V.sl (List.map cF (f1.kids)))]])) (by (simp [cF_eq]; done))),?_,?_,?_⟩
   · exact k1
   · first|(simp; done)|(simp; omega)
   · exact hfin
  intro mm T H ⟨l,s2,n,w,hmm,t0,t1,t2,t3,t8,t9,h0,h8,h12,ks2,hlb,hc⟩ Q2 p12 p22 p32 p42
  unfold b59_0
  obtain ⟨n0,hn⟩: ∃ n0,n=n0+1:=by
    cases n with
    |zero=>cases hc
    |succ m=>exact ⟨m,rfl⟩
  refine W_seq_seq (W_r (R_mv t0 (R_nilck_mp rfl h0 oB (R_fk rfl h0 (R_lk rfl h0 rfl rfl (R_mv t1 (R_seql (s:=s2.wd) (t:=wd) rfl rfl ?_)))))))
  refine R_e ?_
  refine W_seq_if rfl (fun c3=>?_) fun c3=>?_
  ·
   have d1:s2.wd=wd:=c3
   refine W_seq_skip (W_blockP fun Q4 n4 x4 y4 z4 w4=>(W_seq_seq (W_r (R_mv t0 (R_e (W_seq_seq ?_))))))
   rcases hx2:pNext e s2 with ⟨u2,s3⟩|⟨a_s3,x_s3⟩
   ·
    obtain ⟨k3,k3d,k3g⟩:=pNext_inv ks2 hx2
    refine pop_ok (i:=0) (by have q:=pnext_loc v e s2 ks2; rw [hx2] at q; exact q) (evcons (@rfl V (V.mp 0 v 0 0)) evnil) rfl h0 rfl rfl (fork_ (R:=fun T H=>T 0=(V.mp 0 v 0 0)∧T 1=(V.str wd)∧T 2=(iV (op))∧T 3=(V.fn g [(V.mp 0 v 0 0)] [])∧T 8=(V.mp 8 1 0 0)∧T 9=(V.ms 12 w 0 (l.length))∧T 19=(V.mp 0 v 0 0)∧T 20=(V.tup [])∧H 0=(bk v 79 6 [[(V.sl (List.map cS (e.ia))),(V.sl (List.map cS (e.oa))),(V.str e.src),(iV ((s3.pos:Nat):Int)),(V.str s3.wd),(iV ((s3.dep:Nat):Int))]])∧H 8=(bk 1 24 3 [[(iV (0:Int)),(iV (0:Int)),V.nilsl]])∧H 12=(bk w 24 3 (List.map cF (l)))∧True) ⟨t0,t1,t2,t3,t8,t9,(@rfl V (V.mp 0 v 0 0)),(@rfl V (V.tup [])),rfl,h8,h12,trivial⟩ ?_)
    intro T H ⟨t0,t1,t2,t3,t8,t9,t19,t20,h0,h8,h12,_⟩
    refine W_reg0 (W_r (R_mv t9 (R_mv t3 (R_e ?_))))
    rcases hx3:R s3 with _|(⟨f3,s4⟩|⟨a_s4,x_s4⟩)
    ·
     exfalso; rw [hn] at hc; simp only [pMore,if_pos d1,hx2,hx3,finSev] at hc; cases hc
    ·
     obtain ⟨k4,k4d⟩:=hK _ _ _ k3 hx3
     refine popv_ok (i:=0) (@rfl V (V.fn g [(V.mp 0 v 0 0)] [])) (hR _ _ k3 hx3) evnil rfl h0 rfl rfl (fork_ (R:=fun T H=>T 0=(V.mp 0 v 0 0)∧T 1=(V.str wd)∧T 2=(iV (op))∧T 3=(V.fn g [(V.mp 0 v 0 0)] [])∧T 8=(V.mp 8 1 0 0)∧T 21=(V.ms 12 w 0 (l.length))∧T 22=(V.fn g [(V.mp 0 v 0 0)] [])∧T 23=(V.agg [(iV (f3.op)),(iV (f3.arg)),(V.sl (List.map cF (f3.kids)))])∧H 0=(bk v 79 6 [[(V.sl (List.map cS (e.ia))),(V.sl (List.map cS (e.oa))),(V.str e.src),(iV ((s4.pos:Nat):Int)),(V.str s4.wd),(iV ((s4.dep:Nat):Int))]])∧H 8=(bk 1 24 3 [[(iV (0:Int)),(iV (0:Int)),V.nilsl]])∧H 12=(bk w 24 3 (List.map cF (l)))∧True) ⟨t0,t1,t2,t3,t8,(@rfl V (V.ms 12 w 0 (l.length))),(@rfl V (V.fn g [(V.mp 0 v 0 0)] [])),(@rfl V (V.agg [(iV (f3.op)),(iV (f3.arg)),(V.sl (List.map cF (f3.kids)))])),rfl,h8,h12,trivial⟩ ?_)
     intro T H ⟨t0,t1,t2,t3,t8,t21,t22,t23,h0,h8,h12,_⟩
     refine W_t (R_bslice (mcons (congrArg (fun v=>(0,v)) t23) rfl) rfl (R_append1 (l:=l) (f:=cF) (x:=f3) t21 h12 (by rfl) (row_F1 (x:=f3) (@rfl V (V.sl [[(iV (f3.op)),(iV (f3.arg)),(V.sl (List.map cF (f3.kids)))]]))) (cF_len _) (cF_one _) (by omega) (by omega) (R_mv rfl (R_e (n4 _ _ ?_)))))
     refine p12 _ _ _ ?_ ⟨(l++[f3]),s4,n0,(w+1),rfl,t0,t1,t2,t3,t8,(Eq.trans (@rfl V (V.ms 12 (w+1) 0 (l.length+1))) (by simp)),h0,h8,(Eq.trans (@rfl Blk (bk (w+1) 24 3 (List.map cF (l++[f3])))) (by rfl)),?_,?_,?_⟩
     · omega
     · exact k4
     · first|(simp; done)|(simp; omega)
     · rw [hn] at hc; simpa only [pMore,if_pos d1,hx2,hx3] using hc
    ·
     refine popv_pan (i:=0) (@rfl V (V.fn g [(V.mp 0 v 0 0)] [])) (hR _ _ k3 hx3) evnil rfl h0 rfl fun H'=>(w4 _ _ _ (p42 _ _ _ (w1 _ _ _ (RetL_pan ?_))))
     rw [hn] at hc; simp only [pMore,if_pos d1,hx2,hx3,finSev] at hc; cases hc; rfl
   ·
    refine pop_pan (i:=0) (by have q:=pnext_loc v e s2 ks2; rw [hx2] at q; exact q) (evcons (@rfl V (V.mp 0 v 0 0)) evnil) rfl h0 rfl fun H'=>(w4 _ _ _ (p42 _ _ _ (w1 _ _ _ (RetL_pan ?_))))
    rw [hn] at hc; simp only [pMore,if_pos d1,hx2,finSev] at hc; cases hc; rfl
  have d1: ¬s2.wd=wd:=c3
  have hr:r=.ok (oneOr op l) s2:=by rw [hn] at hc; simp only [pMore,if_neg d1,finSev] at hc; cases hc; rfl
  refine W_seq_exit (p32 _ _ _ (x1 _ _ (.done (W_seq_seq ?_))))
  refine W_seq_g (fun T H=>T 2=(iV (op))∧T 8=(V.mp 8 1 0 0)∧T 9=(V.ms 12 w 0 (l.length))∧T 28=(V.bool (decide (((l.length:Nat):Int)=(1:Int))))∧H 0=(bk v 79 6 [[(V.sl (List.map cS (e.ia))),(V.sl (List.map cS (e.oa))),(V.str e.src),(iV ((s2.pos:Nat):Int)),(V.str s2.wd),(iV ((s2.dep:Nat):Int))]])∧H 8=(bk 1 24 3 [[(iV (0:Int)),(iV (0:Int)),V.nilsl]])∧H 12=(bk w 24 3 (List.map cF (l)))∧True) ?_ ?_
  ·
   refine R_mv t9 (R_len_ms rfl h12 (by simp) (R_eql rfl rfl ?_))
   exact R_nil ⟨t2,t8,t9,rfl,h0,h8,h12,trivial⟩
  intro T H ⟨t2,t8,t9,t28,h0,h8,h12,_⟩
  refine .freeze 12 (.done ?_)
  refine fork_ (R:=fun T H=>T 2=(iV (op))∧T 8=(V.mp 8 1 0 0)∧T 9=(V.sl (List.map cF (l)))∧T 28=(V.bool (decide (((l.length:Nat):Int)=(1:Int))))∧H 0=(bk v 79 6 [[(V.sl (List.map cS (e.ia))),(V.sl (List.map cS (e.oa))),(V.str e.src),(iV ((s2.pos:Nat):Int)),(V.str s2.wd),(iV ((s2.dep:Nat):Int))]])∧H 8=(bk 1 24 3 [[(iV (0:Int)),(iV (0:Int)),V.nilsl]])∧((H 12).ver=w∧(H 12).live=false)∧True) ⟨(fzT_q t2 rfl),(fzT_q t8 rfl),(fzT_q t9 (fzq_own h12 (by simp) (l:=l) rfl (by rfl))),(fzT_q t28 rfl),(kill_ne h0 (by decide)),(kill_ne h8 (by decide)),(kill_self (congrArg Blk.ver h12)),trivial⟩ ?_
  intro T H ⟨t2,t8,t9,t28,h0,h8,h12,_⟩
  refine W_seq_if t28 (fun c5=>?_) fun c5=>?_
  ·
   refine W_seq_seq (W_r (R_mv t9 (R_idxu (i:=0) (@rfl V (V.sl (List.map cF (l)))) (@rfl V (iV ((0:Nat):Int))) (by omega) (cF_eq _) rfl (R_load_pp rfl rfl (R_sk t8 rfl rfl h8 rfl rfl rfl rfl rfl (R_e (W_seq_ret ?_)))))))
   refine RetL_ok (v:=(V.agg [(iV (((nth (l) (0))).op)),(iV (((nth (l) (0))).arg)),(V.sl (List.map cF (((nth (l) (0))).kids)))])) (b:=(bk v 79 6 [[(V.sl (List.map cS (e.ia))),(V.sl (List.map cS (e.oa))),(V.str e.src),(iV ((s2.pos:Nat):Int)),(V.str s2.wd),(iV ((s2.dep:Nat):Int))]])) (resT1 (resV_c (u:=(V.agg [(iV (((nth (l) (0))).op)),(iV (((nth (l) (0))).arg)),(V.sl (List.map cF (((nth (l) (0))).kids)))])) t8 (@rfl Blk (bk 1 24 3 [[(iV (((nth (l) (0))).op)),(iV (((nth (l) (0))).arg)),(V.sl (List.map cF (((nth (l) (0))).kids)))]])) (lB oB rfl rfl))) ?_ (by simp) (.same (cut_fin 1 _) _) h0 (by simp [locB,loc0])
   rw [hr]; unfold oneOr; rw [if_pos (by omega)]; rfl
  refine W_seq_skip (W_r (R_mv t2 (R_mv t9 (R_callk (node_pure ((op)) l) rfl (R_sk t8 rfl rfl h8 rfl rfl rfl rfl rfl (R_e (W_ret ?_)))))))
  refine RetL_ok (v:=(V.agg [(iV (((op)))),(iV (0:Int)),(V.sl (List.map cF (l)))])) (b:=(bk v 79 6 [[(V.sl (List.map cS (e.ia))),(V.sl (List.map cS (e.oa))),(V.str e.src),(iV ((s2.pos:Nat):Int)),(V.str s2.wd),(iV ((s2.dep:Nat):Int))]])) (resT1 (resV_c (u:=(V.agg [(iV (((op)))),(iV (0:Int)),(V.sl (List.map cF (l)))])) t8 (@rfl Blk (bk 1 24 3 [[(iV (((op)))),(iV (0:Int)),(V.sl (List.map cF (l)))]])) (lB oB rfl rfl))) ?_ (by simp) (.same (cut_fin 1 _) _) h0 (by simp [locB,loc0])
  rw [hr]; unfold oneOr; rw [if_neg (by omega)]; rfl
 ·
  refine popv_pan (i:=0) (@rfl V (V.fn g [(V.mp 0 v 0 0)] [])) (hR _ _ hs hx) evnil rfl (@rfl Blk (bk v 79 6 [[(V.sl (List.map cS (e.ia))),(V.sl (List.map cS (e.oa))),(V.str e.src),(iV ((s.pos:Nat):Int)),(V.str s.wd),(iV ((s.dep:Nat):Int))]])) rfl fun H'=>(RetL_pan ?_)
  simp only [pSev,hx] at h; cases h; rfl
def r61_2:List SO:=[
 qM 8 0,
 sO 9 (.nilck (.t 8)),
 qF 10 5 9,
 ql 11 10,
 qC 12 .add 11 1,
 sO 13 (.nilck (.t 8)),
 qF 14 5 13,
 sN (.store 1 (.t 14) (.t 12))]
def r61_6:List SO:=[
 qM 24 0,
 sO 25 (.nilck (.t 24)),
 qF 26 5 25,
 ql 27 26,
 qC 28 .sub 27 1,
 sO 29 (.nilck (.t 24)),
 qF 30 5 29,
 sN (.store 1 (.t 30) (.t 28))]
def s61:SF:=⟨32,[.cell 4 true 3],.seq (.reg [sO 4 (.alloc 24 [.int .i64 0,.int .i64 0,.nilsl])]) (.seq (.seq (.reg [qM 6 0]) (.seq (.pop (some 7) (.call 36 [.t 6])) (.reg []))) (.seq (.reg r61_2) (.seq (.seq (.reg [qM 15 0,sO 16 (.nilck (.t 15)),qF 17 5 16,ql 18 17,qC 19 .gtr 18 128]) (.cond (.t 19) (.seq (.reg [qM 20 0]) (.seq (.pop (some 21) (.call 38 [.t 20,.c (.int .i64 16)])) (.reg []))) (.skip))) (.seq (.seq (.reg [qM 22 1]) (.seq (.pop (some 23) (.callv (.t 22) [])) (.reg [sO 5 (.alloc 24 [.int .i64 0,.int .i64 0,.nilsl]),sN (.store 3 (.t 5) (.t 23))]))) (.seq (.reg r61_6) (.seq (.reg [qL 31 3 5,sN (.store 3 (.t 4) (.t 31))]) (.ret)))))))⟩
theorem s61_ok:slimF Try.prog ⟨[31,36,37,38,40,41,42,44,45,59,60,61,65,66,67,71,72,73,81,82,84,92,93,98,99,102,104],[],[36,37,38,40,41,42,59,60,61,65,66,67,81,82,92,93,98,99,102,104],[23]⟩ Try.f61=some s61:=by kernel_rfl
end Go.Proofs.Ytdmcmkccifmofaa
