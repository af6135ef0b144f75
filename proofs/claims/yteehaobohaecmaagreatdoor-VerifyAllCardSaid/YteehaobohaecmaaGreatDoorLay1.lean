/- The layer: abstract values for memory and their soundness; no condition. -/
import Derived.WalkKit
import Derived.Lib.ItoaNum
import Derived.Laws.BytesArg
import Derived.Laws.StructEq
import Derived.ChangeKeysEq
import Derived.IntWalk
import Derived.Deep.Upon
set_option linter.unusedSimpArgs false
set_option linter.unusedVariables false
namespace Go.Proofs.YteehaobohaecmaaGreatDoor
open Go
def aPH:Array Value:=(Lib.pow10Tab.map fun z=>Value.int .u64 z).toArray
def aNa:List (Nat×Array Value):=[(0,aPH)]
end Go.Proofs.YteehaobohaecmaaGreatDoor


namespace Go.Proofs.YteehaobohaecmaaGreatDoor
open Go
inductive V where
  |int (k:IntKind) (n:Int)
  |bool (b:Bool)
  |str (s:List UInt8)
  |sl (rows:List (List V))
  |nilsl
  |ms (id ver off len:Nat)
  |pp (cells:List V)
  |nilp
  |mp (id ver row off:Nat)
  |agg (cells:List V)
  |tup (vs:List V)
  |fn (f:Nat) (first caps:List V)
  |raw (c:Value)
  |mm (id ver:Nat)
instance:Inhabited V:=⟨.nilp⟩
structure Blk where
  ver:Nat
  live:Bool
  lz:Bool
  ty:TypeId
  sz:Nat
  rows:List (List V)
def Blk.own (b:Blk):Bool:=b.live&& !(b.lz&&b.rows.isEmpty)
def Blk.isM (b:Blk):Bool:=b.lz&&decide (4294967296≤b.ty)
def gZ (n:Nat) (cc:Array Value):Obj:=.map (Array.ofFn fun i:Fin n=>⟨cc.getD (2*(i.val+1)) undef,cc.getD (2*(i.val+1)+1) undef,i.val⟩) n
def Blk.obj (b:Blk) (cc:Array Value):Obj:=if b.isM then gZ (b.rows.length - 1) cc else .cells cc b.ty (0,0)
theorem tV {b:Blk} {cc:Array Value} (h:b.isM=false):b.obj cc=.cells cc b.ty (0,0):=by unfold Blk.obj; rw [h]; rfl
theorem tC {b:Blk} {cc:Array Value} (h:b.isM=true):b.obj cc=gZ (b.rows.length - 1) cc:=by unfold Blk.obj; rw [h]; rfl
theorem aBt {b:Blk} {cc cc':Array Value} {ty:TypeId} {m:Nat×Nat} (h:b.obj cc=.cells cc' ty m):b.isM=false:=by
  cases q:b.isM with
  |false=>rfl
  |true=>rw [tC q] at h; cases h
theorem eL {b:Blk} (h:b.own=true):b.live=true:=by
  unfold Blk.own at h; cases hb:b.live <;> simp_all
abbrev aP:=Nat→Blk
structure Cx where
  w:World
  Z:Nat→Prop
  σ:Nat→Nat
  H:aP
def dX (w:World) (b:Nat):Nat:=match w.heap[b]? with|some (.cells c _ _)=>c.size|_=>0
def aJu:Value→Bool
  | .agg _=>false
  |_=>true
inductive R (x:Cx):V→Value→Prop where
  |int (k:IntKind) (n:Int):R x (.int k n) (.int k n)
  |bool (b:Bool):R x (.bool b) (.bool b)
  |str (s:List UInt8):R x (.str s) (.string ⟨s.toArray⟩)
  |nilsl:R x .nilsl (.slice none 0 0)
  |slnil:R x (.sl []) (.slice none 0 0)
  |sl (rows:List (List V)) (a:Addr) (cap sz:Nat) (cs:Nat→Value) (hc:rows.length≤cap) (hm:cap≤maxLen)
      (hz:rows≠[]→x.Z a.block) (hsz: ∀ r∈rows,r.length=sz)
      (hcell: ∀ (r:Nat) (row:List V) (j:Nat) (v:V),rows[r]?=some row→row[j]?=some v→x.w.cell? (a.add (r*sz+j))=some (cs (r*sz+j)))
      (h: ∀ (r:Nat) (row:List V) (j:Nat) (v:V),rows[r]?=some row→row[j]?=some v→R x v (cs (r*sz+j))):
      R x (.sl rows) (.slice (some a) rows.length cap)
  | ms (id ver off len : Nat) (b : Option Addr) (n cap : Nat) (hv : ver ≤ (x.H id).ver)
      (h:(x.H id).ver=ver→(x.H id).live=true→n=len∧len≤cap∧cap≤maxLen∧off+len≤(x.H id).rows.length∧
        ((x.H id).own=true→b=some ⟨x.σ id,off*(x.H id).sz,none⟩∧(off+cap)*(x.H id).sz=dX x.w (x.σ id))∧((x.H id).own=false→cap=0))
      (hm:(x.H id).ver=ver→(x.H id).live=true→(x.H id).isM=false):
      R x (.ms id ver off len) (.slice b n cap)
  |pp (cells:List V) (a:Addr) (cs:Nat→Value) (hz:cells≠[]→x.Z a.block)
      (hcell: ∀ (j:Nat) (v:V),cells[j]?=some v→x.w.cell? (a.add j)=some (cs j))
      (h: ∀ (j:Nat) (v:V),cells[j]?=some v→R x v (cs j)):R x (.pp cells) (.pointer (some a))
  |nilp:R x .nilp (.pointer none)
  |mp (id ver row off:Nat) (p:Addr) (hv:ver≤(x.H id).ver)
      (h:(x.H id).ver=ver→(x.H id).own=true→p=⟨x.σ id,row*(x.H id).sz+off,none⟩) (hm:(x.H id).ver=ver→(x.H id).own=true→(x.H id).isM=false):R x (.mp id ver row off) (.pointer (some p))
  |agg (cells:List V) (cs:Array Value) (hs:cs.size=cells.length)
      (h: ∀ (j:Nat) (v:V),cells[j]?=some v→R x v (cs.getD j undef)):R x (.agg cells) (.agg cs)
  |tup (vs:List V) (cs:Array Value) (hs:cs.size=vs.length)
      (h: ∀ (j:Nat) (v:V),vs[j]?=some v→R x v (cs.getD j undef)):R x (.tup vs) (.tuple cs)
  |fn (f:Nat) (first caps:List V) (fs cs:Array Value) (hfs:fs.size=first.length) (hcs:cs.size=caps.length)
      (hf: ∀ (j:Nat) (v:V),first[j]?=some v→R x v (fs.getD j undef))
      (hc: ∀ (j:Nat) (v:V),caps[j]?=some v→R x v (cs.getD j undef)):R x (.fn f first caps) (.func (.func f) fs cs)
  |raw (c:Value) (h:aJu c=true):R x (.raw c) c
  |mm (id ver:Nat) (b:Nat) (hv:ver≤(x.H id).ver) (h:(x.H id).ver=ver→(x.H id).own=true→(x.H id).isM=true∧b=x.σ id):R x (.mm id ver) (.map (some b))
def aIR (w:World) (Z:Nat→Prop):Prop:= ∀ p∈aNa,Z p.1∧ ∃ ty m,w.heap[p.1]?=some (.cells p.2 ty m)
structure Inv (x:Cx):Prop where
  zlt: ∀ b,x.Z b→b < x.w.heap.size
  zown: ∀ b id,x.Z b→(x.H id).own=true→x.σ id≠b
  blk: ∀ id,(x.H id).own=true→ ∃ cc,x.w.heap[x.σ id]?=some ((x.H id).obj cc)∧(∀ r∈(x.H id).rows,r.length=(x.H id).sz)∧
    (x.H id).rows.length*(x.H id).sz≤cc.size∧
    ∀ (r:Nat) (row:List V) (j:Nat) (v:V),(x.H id).rows[r]?=some row→row[j]?=some v→R x v (cc.getD (r*(x.H id).sz+j) undef)
  inj: ∀ i j,(x.H i).own=true→(x.H j).own=true→x.σ i=x.σ j→i=j
  tab:aIR x.w x.Z
structure Frame (x y:Cx):Prop where
  os:y.w.os=x.w.os
  tape:y.w.tape=x.w.tape
  output:y.w.output=x.w.output
  size:x.w.heap.size≤y.w.heap.size
  keep: ∀ b,b < x.w.heap.size→(∀ id,(x.H id).own=true→x.σ id≠b)→y.w.heap[b]?=x.w.heap[b]?
  zone: ∀ b,x.Z b→y.Z b
  zold: ∀ b,y.Z b→x.Z b∨x.w.heap.size≤b∨ ∃ id,(x.H id).own=true∧x.σ id=b
  ids: ∀ id,(x.H id).ver≤(y.H id).ver∧((y.H id).live=true→(y.H id).ver=(x.H id).ver→
    (x.H id).live=true∧(y.H id).own=(x.H id).own∧(y.H id).sz=(x.H id).sz∧((x.H id).isM=false→(y.H id).rows.length=(x.H id).rows.length)∧
    ((x.H id).own=true→y.σ id=x.σ id∧dX y.w (x.σ id)=dX x.w (x.σ id)))
  fresh: ∀ id,(y.H id).own=true→((x.H id).own=true∧y.σ id=x.σ id)∨x.w.heap.size≤y.σ id
  drawn:x.w.drawn≤y.w.drawn
  ism: ∀ id,(y.H id).live=true→(y.H id).ver=(x.H id).ver→(y.H id).isM=(x.H id).isM
theorem Inv.tab_of {x y:Cx} (hx:Inv x) (h:Frame x y):aIR y.w y.Z:=fun p hp=>by
  obtain ⟨h1,h2⟩:=hx.tab p hp
  exact ⟨h.zone _ h1,by rw [h.keep _ (hx.zlt _ h1) fun id ho=>hx.zown _ id h1 ho]; exact h2⟩
theorem Frame.refl (x:Cx):Frame x x:=
  ⟨rfl,rfl,rfl,Nat.le_refl _,fun _ _ _=>rfl,fun _ h=>h,fun _ h=>.inl h,fun _=>⟨Nat.le_refl _,fun h _=>⟨h,rfl,rfl,fun _=>rfl,fun _=>⟨rfl,rfl⟩⟩⟩,fun _ h=>.inl ⟨h,rfl⟩,Nat.le_refl _,fun _ _ _=>rfl⟩
theorem Frame.trans {x y z:Cx} (h:Frame x y) (k:Frame y z):Frame x z where
  os:=k.os.trans h.os
  tape:=k.tape.trans h.tape
  output:=k.output.trans h.output
  size:=Nat.le_trans h.size k.size
  keep:=fun b hb hn=>by
    rw [k.keep b (Nat.lt_of_lt_of_le hb h.size),h.keep b hb hn]
    intro id hl he
    rcases h.fresh id hl with ⟨h1,h2⟩|h1
    · exact hn id h1 (h2 ▸ he)
    · omega
  zone:=fun b hb=>k.zone b (h.zone b hb)
  zold:=fun b hb=>by
    rcases k.zold b hb with h1|h1|⟨id,h1,h2⟩
    · exact h.zold b h1
    · have:=h.size; exact .inr (.inl (by omega))
    · rcases h.fresh id h1 with ⟨h3,h4⟩|h3
      · exact .inr (.inr ⟨id,h3,h4 ▸ h2⟩)
      · exact .inr (.inl (h2 ▸ h3))
  ids:=fun id=>by
    obtain ⟨h1,h2⟩:=h.ids id
    obtain ⟨k1,k2⟩:=k.ids id
    refine ⟨by omega,fun hl hv=>?_⟩
    obtain ⟨a1,a2,a3,a4,a5⟩:=k2 hl (by omega)
    obtain ⟨b1,b2,b3,b4,b5⟩:=h2 a1 (by omega)
    refine ⟨b1,a2.trans b2,a3.trans b3,fun q=>(a4 (by rw [h.ism id a1 (by omega)]; exact q)).trans (b4 q),fun ho=>?_⟩
    obtain ⟨c1,c2⟩:=b5 ho
    obtain ⟨d1,d2⟩:=a5 (by rw [b2]; exact ho)
    exact ⟨d1.trans c1,by rw [← c1,d2,c1,c2]⟩
  fresh:=fun id hl=>by
    rcases k.fresh id hl with ⟨h1,h2⟩|h1
    · rw [h2]; exact h.fresh id h1
    · have:=h.size; exact .inr (by omega)
  drawn:=Nat.le_trans h.drawn k.drawn
  ism:=fun id hl hv=>by
    obtain ⟨h1,_⟩:=h.ids id
    obtain ⟨k1,k2⟩:=k.ids id
    obtain ⟨a1,_⟩:=k2 hl (by omega)
    rw [k.ism id hl (by omega),h.ism id a1 (by omega)]
theorem fO (a:Addr) (n:Nat):(a.add n).block=a.block:=by unfold Addr.add; split <;> rfl
theorem kB (a:Addr) (m n:Nat):(a.add m).add n=a.add (m+n):=by
  unfold Addr.add
  by_cases hm:m=0 <;> by_cases hn:n=0 <;> simp [hm,hn,Nat.add_assoc]
theorem tA {w w':World} {a:Addr} (h:w'.heap[a.block]?=w.heap[a.block]?):w'.cell? a=w.cell? a:=by simp [World.cell?,h]
theorem R.frame {x y:Cx} (hx:Inv x) (h:Frame x y) {v:V} {c:Value} (r:R x v c):R y v c:=by
  have keep: ∀ a:Addr,x.Z a.block→ ∀ n,y.w.cell? (a.add n)=x.w.cell? (a.add n):=fun a ha n=>by
    refine tA ?_
    rw [fO]
    exact h.keep _ (hx.zlt _ ha) fun id hl=>hx.zown _ id ha hl
  induction r with
  |int k n=>exact .int k n
  |bool b=>exact .bool b
  |str s=>exact .str s
  |nilsl=>exact .nilsl
  |slnil=>exact .slnil
  | sl rows a cap sz cs hc hm hz hsz hcell _ ih =>
    refine .sl rows a cap sz cs hc hm (fun hne=>h.zone _ (hz hne)) hsz (fun r row j v hr hj=>?_) ih
    rw [keep a (hz (by intro e; subst e; simp at hr)),hcell r row j v hr hj]
  | ms id ver off len b n cap hv hh hm =>
    obtain ⟨h1,h2⟩:=h.ids id
    refine .ms id ver off len b n cap (by omega) (fun he hl=>?_) fun he hl=>by
      obtain ⟨a1,_⟩:=h2 hl (by omega)
      rw [h.ism id hl (by omega)]; exact hm (by omega) a1
    obtain ⟨a1,a2,a3,a4,a5⟩:=h2 hl (by omega)
    obtain ⟨b2,b3,b4,b6,b7,b8⟩:=hh (by omega) a1
    refine ⟨b2,b3,b4,by rw [a4 (hm (by omega) a1)]; exact b6,fun ho=>?_,fun ho=>b8 (by rw [← a2]; exact ho)⟩
    obtain ⟨c1,c2⟩:=b7 (by rw [← a2]; exact ho)
    obtain ⟨d1,d2⟩:=a5 (by rw [← a2]; exact ho)
    exact ⟨by rw [c1,d1,a3],by rw [a3,c2,d1,d2]⟩
  | pp cells a cs hz hcell _ ih =>
    refine .pp cells a cs (fun hne=>h.zone _ (hz hne)) (fun j v hj=>?_) ih
    rw [keep a (hz (by intro e; subst e; simp at hj)),hcell j v hj]
  |nilp=>exact .nilp
  | mp id ver row off p hv hh hm =>
    obtain ⟨h1,h2⟩:=h.ids id
    refine .mp id ver row off p (by omega) (fun he ho=>?_) fun he ho=>by
      obtain ⟨a1,a2,_⟩:=h2 (eL ho) (by omega)
      rw [h.ism id (eL ho) (by omega)]; exact hm (by omega) (by rw [← a2]; exact ho)
    obtain ⟨a1,a2,a3,a4,a5⟩:=h2 (eL ho) (by omega)
    have ho':(x.H id).own=true:=by rw [← a2]; exact ho
    rw [hh (by omega) ho',(a5 ho').1,a3]
  |agg cells cs hs _ ih=>exact .agg cells cs hs ih
  |tup vs cs hs _ ih=>exact .tup vs cs hs ih
  |fn f first caps fs cs hfs hcs _ _ ih1 ih2=>exact .fn f first caps fs cs hfs hcs ih1 ih2
  |raw c hh=>exact .raw c hh
  | mm id ver b hv hh =>
    obtain ⟨h1,h2⟩:=h.ids id
    refine .mm id ver b (by omega) fun he ho=>?_
    obtain ⟨a1,a2,a3,a4,a5⟩:=h2 (eL ho) (by omega)
    have ho':(x.H id).own=true:=by rw [← a2]; exact ho
    obtain ⟨c1,c2⟩:=hh (by omega) ho'
    exact ⟨by rw [h.ism id (eL ho) (by omega)]; exact c1,by rw [c2,(a5 ho').1]⟩
def V.cells:V→List V
  | .agg cs=>cs
  |v=>[v]
def V.one:V→Bool
  | .agg _| .tup _=>false
  | .raw c=>c.oneCell'
  |_=>true
theorem R.one {x:Cx} {v:V} {c:Value} (h:R x v c) (ho:v.one=true):c.oneCell'=true:=by
  cases h <;> first|rfl|(simp [V.one] at ho; done)|(simpa [V.one] using ho)
theorem R.cells {x:Cx} {v:V} {c:Value} (h:R x v c):c.cells.size=v.cells.length∧ ∀ (j:Nat) (u:V),v.cells[j]?=some u→R x u (c.cells.getD j undef):=by
  have one: ∀ {v:V} {c:Value},R x v c→v.cells=[v]→c.cells=#[c]→c.cells.size=v.cells.length∧ ∀ (j:Nat) (u:V),v.cells[j]?=some u→R x u (c.cells.getD j undef):=by
    intro v c h e1 e2
    rw [e1,e2]
    refine ⟨rfl,fun j u hj=>?_⟩
    cases j with
    |zero=>simp at hj; subst hj; exact h
    |succ j=>simp at hj
  cases h with
  |agg cells cs hs h=>exact ⟨hs,h⟩
  |raw c hh=>exact one (.raw c hh) rfl (by cases c <;> first|rfl|simp [aJu] at hh)
  |int k n=>exact one (.int k n) rfl rfl
  |bool b=>exact one (.bool b) rfl rfl
  |str s=>exact one (.str s) rfl rfl
  |nilsl=>exact one .nilsl rfl rfl
  |slnil=>exact one .slnil rfl rfl
  |sl rows a cap sz cs hc hm hz hsz hcell h=>exact one (.sl rows a cap sz cs hc hm hz hsz hcell h) rfl rfl
  |ms id ver off len b n cap hv hh hm=>exact one (.ms id ver off len b n cap hv hh hm) rfl rfl
  |mm id ver b hv hh=>exact one (.mm id ver b hv hh) rfl rfl
  |pp cells a cs hz hcell h=>exact one (.pp cells a cs hz hcell h) rfl rfl
  |nilp=>exact one .nilp rfl rfl
  |mp id ver row off p hv hh hm=>exact one (.mp id ver row off p hv hh hm) rfl rfl
  |tup vs cs hs h=>exact one (.tup vs cs hs h) rfl rfl
  |fn f first caps fs cs hfs hcs hf hc=>exact one (.fn f first caps fs cs hfs hcs hf hc) rfl rfl
def upd {α:Type} (f:Nat→α) (i:Nat) (v:α):Nat→α:=fun j=>if j=i then v else f j
theorem aK {α:Type} (f:Nat→α) (i:Nat) (v:α):upd f i v i=v:=by simp [upd]
theorem bD {α:Type} (f:Nat→α) {i j:Nat} (v:α) (h:j≠i):upd f i v j=f j:=by simp [upd,h]
theorem aAR {α:Type} (f:Nat→α) (i:Nat) (v:α) (j:Nat):upd f i v j=if j=i then v else f j:=rfl
theorem Inv.lt {x:Cx} (hx:Inv x) {id:Nat} (h:(x.H id).own=true):x.σ id < x.w.heap.size:=by
  obtain ⟨cc,h1,_⟩:=hx.blk id h
  exact (Array.getElem?_eq_some_iff.1 h1).1
theorem Inv.cel {x:Cx} (hx:Inv x) (id:Nat) (h:(x.H id).own=true) (hm:(x.H id).isM=false): ∃ cc,x.w.heap[x.σ id]?=some (.cells cc (x.H id).ty (0,0))∧(∀ r∈(x.H id).rows,r.length=(x.H id).sz)∧
    (x.H id).rows.length*(x.H id).sz≤cc.size∧
    ∀ (r:Nat) (row:List V) (j:Nat) (v:V),(x.H id).rows[r]?=some row→row[j]?=some v→R x v (cc.getD (r*(x.H id).sz+j) undef):=by
  obtain ⟨cc,h1,h2⟩:=hx.blk id h
  rw [tV hm] at h1
  exact ⟨cc,h1,h2⟩
theorem fZ (w:World) (o:Obj) {b:Nat} (h:b < w.heap.size):(w.alloc o).heap[b]?=w.heap[b]?:=by
  show (w.heap.push o)[b]?=_
  rw [Array.getElem?_push,if_neg (by omega)]
theorem kC (w:World) (o:Obj):(w.alloc o).heap[w.heap.size]?=some o:=by
  show (w.heap.push o)[w.heap.size]?=_
  rw [Array.getElem?_push,if_pos rfl]
theorem mU (w:World) (o:Obj) {b:Nat} (h:b < w.heap.size):dX (w.alloc o) b=dX w b:=by
  simp only [dX,fZ w o h]
theorem kJ {x:Cx} (hx:Inv x) (n:Nat) (hn:x.w.drawn≤n):let y:Cx:={x with w:={x.w with drawn:=n}}; Inv y∧Frame x y:=by
  have hf:Frame x {x with w:={x.w with drawn:=n}}:=
    ⟨rfl,rfl,rfl,Nat.le_refl _,fun _ _ _=>rfl,fun _ h=>h,fun _ h=>.inl h,fun _=>⟨Nat.le_refl _,fun h _=>⟨h,rfl,rfl,fun _=>rfl,fun _=>⟨rfl,rfl⟩⟩⟩,fun _ h=>.inl ⟨h,rfl⟩,hn,fun _ _ _=>rfl⟩
  refine ⟨⟨hx.zlt,hx.zown,fun id hl=>?_,hx.inj,hx.tab_of hf⟩,hf⟩
  obtain ⟨cc,h1,h2,h3,h4⟩:=hx.blk id hl
  exact ⟨cc,h1,h2,h3,fun r row j v hr hj=>(h4 r row j v hr hj).frame hx hf⟩
theorem aHO {x:Cx} (hx:Inv x) (o:Obj):let y:Cx:={x with w:=x.w.alloc o,Z:=fun b=>x.Z b∨b=x.w.heap.size}; Inv y∧Frame x y:=by
  have hf:Frame x {x with w:=x.w.alloc o,Z:=fun b=>x.Z b∨b=x.w.heap.size}:=by
    refine ⟨rfl,rfl,rfl,by simp,fun b hb _=>fZ _ _ hb,fun _ h=>.inl h,fun b h=>?_,fun id=>⟨Nat.le_refl _,fun h _=>⟨h,rfl,rfl,fun _=>rfl,fun h=>⟨rfl,?_⟩⟩⟩,fun _ h=>.inl ⟨h,rfl⟩,Nat.le_refl _,fun _ _ _=>rfl⟩
    · rcases h with h|h
      · exact .inl h
      · exact .inr (.inl (by omega))
    · exact mU _ _ (hx.lt h)
  refine ⟨⟨fun b h=>?_,fun b id h hl=>?_,fun id hl=>?_,hx.inj,hx.tab_of hf⟩,hf⟩
  · simp only [World.size_alloc]
    rcases h with h|h
    · have:=hx.zlt b h; omega
    · omega
  · rcases h with h|h
    · exact hx.zown b id h hl
    · have:=hx.lt hl; intro e; have e':x.σ id=b:=e; omega
  · obtain ⟨cc,h1,h2,h3,h4⟩:=hx.blk id hl
    exact ⟨cc,by rw [fZ _ _ (hx.lt hl)]; exact h1,h2,h3,fun r row j v hr hj=>(h4 r row j v hr hj).frame hx hf⟩
theorem oG {x : Cx} (hx : Inv x) (id : Nat) (cc : Array Value) (lz : Bool) (ty : TypeId) (sz : Nat) (rows : List (List V))
    (hsz: ∀ r∈rows,r.length=sz) (hfit:rows.length*sz≤cc.size)
    (hR: ∀ (r:Nat) (row:List V) (j:Nat) (v:V),rows[r]?=some row→row[j]?=some v→R x v (cc.getD (r*sz+j) undef)) (hnm:(lz&&decide (4294967296≤ty))=false:=by rfl):
    let y:Cx:={x with w:=x.w.alloc (.cells cc ty),σ:=upd x.σ id x.w.heap.size,H:=upd x.H id ⟨(x.H id).ver+1,true,lz,ty,sz,rows⟩}
    Inv y∧Frame x y:=by
  intro y
  have hf:Frame x y:=by
    refine ⟨rfl,rfl,rfl,by simp [y],fun b hb _=>fZ _ _ hb,fun _ h=>h,fun b h=>.inl h,fun i=>?_,fun i h=>?_,Nat.le_refl _,fun i _ hv=>?_⟩
    · by_cases e:i=id
      · subst e; simp only [y,aK]; exact ⟨by omega,fun _ h=>by omega⟩
      · simp only [y,bD _ _ e]
        exact ⟨Nat.le_refl _,fun h _=>⟨h,trivial,trivial,fun _=>trivial,fun h=>⟨trivial,mU _ _ (hx.lt h)⟩⟩⟩
    · by_cases e:i=id
      · subst e; simp only [y,aK]; exact .inr (Nat.le_refl _)
      · simp only [y,bD _ _ e] at h ⊢; exact .inl ⟨h,trivial⟩
    · by_cases e:i=id
      · subst e; simp only [y,aK] at hv; omega
      · simp only [y,bD _ _ e]
  refine ⟨⟨fun b h=>?_,fun b i h hl=>?_,fun i hl=>?_,fun i j hi hj he=>?_,hx.tab_of hf⟩,hf⟩
  · have:=hx.zlt b h; simp only [y,World.size_alloc]; omega
  · by_cases e:i=id
    · subst e; have:=hx.zlt b h; simp only [y,aK]; omega
    · simp only [y,bD _ _ e] at hl ⊢; exact hx.zown b i h hl
  · by_cases e:i=id
    · subst e
      simp only [y,aK]
      exact ⟨cc,by rw [tV (by exact hnm)]; exact kC _ _,hsz,hfit,fun r row j v hr hj=>(hR r row j v hr hj).frame hx hf⟩
    · have hl':=hl
      simp only [y,bD _ _ e] at hl
      obtain ⟨dd,h1,h2,h3,h4⟩:=hx.blk i hl
      simp only [y,bD _ _ e]
      exact ⟨dd,by rw [fZ _ _ (hx.lt hl)]; exact h1,h2,h3,fun r row j v hr hj=>(h4 r row j v hr hj).frame hx hf⟩
  · by_cases e:i=id <;> by_cases e':j=id
    · rw [e,e']
    · subst e
      simp only [y,aK,bD _ _ e'] at he hj
      have:=hx.lt hj; omega
    · subst e'
      simp only [y,aK,bD _ _ e] at he hi
      have:=hx.lt hi; omega
    · simp only [y,bD _ _ e,bD _ _ e'] at he hi hj
      exact hx.inj i j hi hj he
theorem aCt (w:World) (g:Nat) (cs:Array Value):(w.setRow g cs).heap.size=w.heap.size:=by simp [World.setRow]
theorem mI {x : Cx} (hx : Inv x) (id : Nat) (hl : (x.H id).own = true) (cc cc' : Array Value) (hcc : x.w.heap[x.σ id]? = some (.cells cc (x.H id).ty (0, 0)))
    (hsize:cc'.size=cc.size) (ver:Nat) (rows:List (List V)) (hver:(x.H id).ver≤ver) (hsame:ver=(x.H id).ver→rows.length=(x.H id).rows.length) (hown':((x.H id).lz&&rows.isEmpty)=false)
    (hsz: ∀ r∈rows,r.length=(x.H id).sz) (hfit:rows.length*(x.H id).sz≤cc.size)
    (hR: ∀ (r:Nat) (row:List V) (j:Nat) (v:V),rows[r]?=some row→row[j]?=some v→R x v (cc'.getD (r*(x.H id).sz+j) undef)):
    let y:Cx:={x with w:=x.w.setRow (x.σ id) cc',H:=upd x.H id ⟨ver,true,(x.H id).lz,(x.H id).ty,(x.H id).sz,rows⟩}
    Inv y∧Frame x y:=by
  intro y
  have hnm:(x.H id).isM=false:=by
    obtain ⟨c0,q,_⟩:=hx.blk id hl
    rw [hcc] at q
    injection q with q
    exact aBt q.symm
  have hheap: ∀ b,b≠x.σ id→y.w.heap[b]?=x.w.heap[b]?:=fun b hb=>setRow_other x.w _ b _ hb
  have hown:y.w.heap[x.σ id]?=some (.cells cc' (x.H id).ty (0,0)):=setRow_heap x.w _ cc _ _ _ hcc
  have hrs: ∀ b,dX y.w b=dX x.w b:=fun b=>by
    by_cases e:b=x.σ id
    · subst e; simp only [dX,hown,hcc,hsize]
    · simp only [dX,hheap b e]
  have hf:Frame x y:=by
    refine ⟨rfl,rfl,rfl,by simp [y],fun b hb hn=>hheap b fun e=>hn id hl e.symm,fun _ h=>h,fun b h=>.inl h,fun i=>?_,fun i h=>?_,Nat.le_refl _,fun i _ _=>?_⟩
    · by_cases e:i=id
      · subst e; simp only [y,aK]; exact ⟨hver,fun _ he=>⟨eL hl,by rw [hl]; simp [Blk.own,hown'],trivial,fun _=>hsame he,fun _=>⟨trivial,hrs _⟩⟩⟩
      · simp only [y,bD _ _ e]
        exact ⟨Nat.le_refl _,fun h _=>⟨h,trivial,trivial,fun _=>trivial,fun _=>⟨trivial,hrs _⟩⟩⟩
    · by_cases e:i=id
      · subst e; exact .inl ⟨hl,rfl⟩
      · simp only [y,bD _ _ e] at h; exact .inl ⟨h,rfl⟩
    · by_cases e:i=id
      · subst e; simp only [y,aK]; rfl
      · simp only [y,bD _ _ e]
  have live: ∀ i,(y.H i).own=true→(x.H i).own=true:=fun i h=>by
    by_cases e:i=id
    · subst e; exact hl
    · simpa only [y,bD _ _ e] using h
  refine ⟨⟨fun b h=>?_,fun b i h hli=>hx.zown b i h (live i hli),fun i hli=>?_,fun i j hi hj he=>hx.inj i j (live i hi) (live j hj) he,hx.tab_of hf⟩,hf⟩
  · have:=hx.zlt b h; simp only [y,aCt]; omega
  · by_cases e:i=id
    · subst e
      simp only [y,aK]
      exact ⟨cc',by rw [tV (by exact hnm)]; exact hown,hsz,by omega,fun r row j v hr hj=>(hR r row j v hr hj).frame hx hf⟩
    · have hli':=live i hli
      obtain ⟨dd,h1,h2,h3,h4⟩:=hx.blk i hli'
      simp only [y,bD _ _ e]
      exact ⟨dd,by rw [← h1]; exact hheap _ (fun he=>e (hx.inj i id hli' hl he)),h2,h3,fun r row j v hr hj=>(h4 r row j v hr hj).frame hx hf⟩
theorem aLw {x : Cx} (hx : Inv x) (id : Nat) (ho : (x.H id).own = true) (rows : List (List V)) (hlen : rows.length = (x.H id).rows.length)
    (hsz: ∀ r∈rows,r.length=(x.H id).sz)
    (cc:Array Value) (h1:x.w.heap[x.σ id]?=some ((x.H id).obj cc)) (h3:(x.H id).rows.length*(x.H id).sz≤cc.size)
    (hR: ∀ (r:Nat) (row:List V) (j:Nat) (v:V),rows[r]?=some row→row[j]?=some v→R x v (cc.getD (r*(x.H id).sz+j) undef)):
    let y:Cx:={x with H:=upd x.H id {x.H id with rows:=rows}}
    Inv y∧Frame x y:=by
  intro y
  have hem:rows.isEmpty=(x.H id).rows.isEmpty:=by
    cases h1:rows <;> cases h2:(x.H id).rows <;> simp_all
  have hown:(y.H id).own=(x.H id).own:=by simp only [y,aK]; unfold Blk.own; rw [hem]
  have live: ∀ i,(y.H i).own=true→(x.H i).own=true:=fun i h=>by
    by_cases e:i=id
    · subst e; exact ho
    · simpa only [y,bD _ _ e] using h
  have hf:Frame x y:=by
    refine ⟨rfl,rfl,rfl,Nat.le_refl _,fun _ _ _=>rfl,fun _ h=>h,fun b h=>.inl h,fun i=>?_,fun i h=>.inl ⟨live i h,rfl⟩,Nat.le_refl _,fun i _ _=>?_⟩
    · by_cases e:i=id
      · subst e
        refine ⟨by simp only [y,aK]; exact Nat.le_refl _,fun _ _=>⟨eL ho,hown,by simp only [y,aK],fun _=>by simp only [y,aK]; exact hlen,fun _=>⟨rfl,rfl⟩⟩⟩
      · simp only [y,bD _ _ e]
        exact ⟨Nat.le_refl _,fun h _=>⟨h,trivial,trivial,fun _=>trivial,fun _=>⟨trivial,trivial⟩⟩⟩
    · by_cases e:i=id
      · subst e; simp only [y,aK]; rfl
      · simp only [y,bD _ _ e]
  refine ⟨⟨hx.zlt,fun b i h hli=>hx.zown b i h (live i hli),fun i hli=>?_,fun i j hi hj he=>hx.inj i j (live i hi) (live j hj) he,hx.tab_of hf⟩,hf⟩
  by_cases e:i=id
  · subst e
    simp only [y,aK]
    refine ⟨cc,?_,hsz,by rw [hlen]; exact h3,fun r row j v hr hj=>(hR r row j v hr hj).frame hx hf⟩
    rw [h1]
    unfold Blk.obj Blk.isM
    simp only [hlen]
  · obtain ⟨dd,h1,h2,h3,h4⟩:=hx.blk i (live i hli)
    simp only [y,bD _ _ e]
    exact ⟨dd,h1,h2,h3,fun r row j v hr hj=>(h4 r row j v hr hj).frame hx hf⟩
theorem pU {x : Cx} (hx : Inv x) (id : Nat) :
    let y:Cx:={x with Z:=fun b=>x.Z b∨((x.H id).own=true∧b=x.σ id),H:=upd x.H id {x.H id with live:=false}}
    Inv y∧Frame x y:=by
  intro y
  have live: ∀ i,(y.H i).own=true→i≠id∧(x.H i).own=true:=fun i h=>by
    by_cases e:i=id
    · subst e; simp [y,aK,Blk.own] at h
    · exact ⟨e,by simpa only [y,bD _ _ e] using h⟩
  have hf:Frame x y:=by
    refine ⟨rfl,rfl,rfl,Nat.le_refl _,fun _ _ _=>rfl,fun _ h=>.inl h,fun b h=>?_,fun i=>?_,fun i h=>.inl ⟨(live i h).2,rfl⟩,Nat.le_refl _,fun i hl hv=>?_⟩
    · rcases h with h|⟨h,h'⟩
      · exact .inl h
      · exact .inr (.inr ⟨id,h,h'.symm⟩)
    · by_cases e:i=id
      · subst e; simp only [y,aK]; exact ⟨Nat.le_refl _,fun h=>by simp at h⟩
      · simp only [y,bD _ _ e]
        exact ⟨Nat.le_refl _,fun h _=>⟨h,trivial,trivial,fun _=>trivial,fun _=>⟨trivial,trivial⟩⟩⟩
    · by_cases e:i=id
      · subst e; simp only [y,aK]; rfl
      · simp only [y,bD _ _ e]
  refine ⟨⟨fun b h=>?_,fun b i h hli=>?_,fun i hli=>?_,fun i j hi hj he=>hx.inj i j (live i hi).2 (live j hj).2 he,hx.tab_of hf⟩,hf⟩
  · rcases h with h|⟨h,h'⟩
    · exact hx.zlt b h
    · exact h' ▸ hx.lt h
  · rcases h with h|⟨h,h'⟩
    · exact hx.zown b i h (live i hli).2
    · exact fun he=>(live i hli).1 (hx.inj i id (live i hli).2 h (he.trans h'))
  · obtain ⟨e,hli'⟩:=live i hli
    obtain ⟨dd,h1,h2,h3,h4⟩:=hx.blk i hli'
    simp only [y,bD _ _ e]
    exact ⟨dd,h1,h2,h3,fun r row j v hr hj=>(h4 r row j v hr hj).frame hx hf⟩
theorem lY {x : Cx} (hx : Inv x) (id : Nat) (ty : TypeId) (sz : Nat) (hty : ty < 4294967296) :
    let y:Cx:={x with H:=upd x.H id ⟨(x.H id).ver+1,true,true,ty,sz,[]⟩}
    Inv y∧Frame x y∧ ∀ b,R y (.ms id ((x.H id).ver+1) 0 0) (.slice b 0 0):=by
  intro y
  have live: ∀ i,(y.H i).own=true→i≠id∧(x.H i).own=true:=fun i h=>by
    by_cases e:i=id
    · subst e; simp [y,aK,Blk.own] at h
    · exact ⟨e,by simpa only [y,bD _ _ e] using h⟩
  have hf:Frame x y:=by
    refine ⟨rfl,rfl,rfl,Nat.le_refl _,fun _ _ _=>rfl,fun _ h=>h,fun b h=>.inl h,fun i=>?_,fun i h=>.inl ⟨(live i h).2,rfl⟩,Nat.le_refl _,fun i hl hv=>?_⟩
    · by_cases e:i=id
      · subst e; simp only [y,aK]; exact ⟨by omega,fun _ h=>by omega⟩
      · simp only [y,bD _ _ e]
        exact ⟨Nat.le_refl _,fun h _=>⟨h,trivial,trivial,fun _=>trivial,fun _=>⟨trivial,trivial⟩⟩⟩
    · by_cases e:i=id
      · subst e; simp only [y,aK] at hv; omega
      · simp only [y,bD _ _ e]
  refine ⟨⟨fun b h=>hx.zlt b h,fun b i h hli=>hx.zown b i h (live i hli).2,fun i hli=>?_,fun i j hi hj he=>hx.inj i j (live i hi).2 (live j hj).2 he,hx.tab_of hf⟩,hf,?_⟩
  · obtain ⟨e,hli'⟩:=live i hli
    obtain ⟨dd,h1,h2,h3,h4⟩:=hx.blk i hli'
    simp only [y,bD _ _ e]
    exact ⟨dd,h1,h2,h3,fun r row j v hr hj=>(h4 r row j v hr hj).frame hx hf⟩
  · intro b
    refine .ms _ _ _ _ _ _ _ (by simp only [y,aK]; omega) (fun _ _=>?_) fun _ _=>by simp only [y,aK,Blk.isM,Bool.true_and]; exact decide_eq_false (Nat.not_le.2 hty)
    simp only [y,aK]
    exact ⟨trivial,Nat.le_refl _,Nat.zero_le _,Nat.le_refl _,fun h=>by simp [Blk.own] at h,fun _=>trivial⟩
theorem R.sl0 {x:Cx} (b:Option Addr):R x (.sl []) (.slice b 0 0):=by
  cases b with
  |none=>exact .slnil
  |some a=>exact .sl [] a 0 0 (fun _=>undef) (Nat.le_refl _) (Nat.zero_le _) (fun h=>(h rfl).elim) (fun r h=>by cases h) (fun r row j v h=>by simp at h) (fun r row j v h=>by simp at h)
end Go.Proofs.YteehaobohaecmaaGreatDoor


namespace Go.Proofs.YteehaobohaecmaaGreatDoor
open Go
inductive SX where
  |t (n:Nat)
  |c (v:V)
inductive X where
  |mv (x:SX)
  |lazy (ty sz:Nat)
  |pick (c a b:SX)
  |alloc (ty:TypeId) (z:List V)
  |box (ty n:Nat) (x:SX)
  |build (z:List V) (ps:List (Nat×Nat×SX))
  |bslice (ty esz:Nat) (own:Bool) (z:List V) (len:Nat) (ps:List (Nat×SX))
  |load (agg:Bool) (n:Nat) (a:SX)
  |ldp (agg:Bool) (n:Nat) (a:SX)
  |store (n:Nat) (a x:SX)
  |bin (op:BinOp) (x y:SX)
  |sbin (op:BinOp) (x y:SX)
  |bbin (op:BinOp) (x y:SX)
  |abin (neg:Bool) (q:List Nat) (x y:SX)
  |un (op:UnOp) (x:SX)
  |conv (k:IntKind) (x:SX)
  |fld (off:Nat) (x:SX)
  |part (agg:Bool) (off n:Nat) (x:SX)
  |idx (esz:Nat) (x i:SX)
  |sidx (x i:SX)
  |aidx (agg:Bool) (n len:Nat) (x i:SX)
  |apos (n len:Nat) (x i:SX)
  |slice (esz:Nat) (x:SX) (lo hi:Option SX)
  |sslice (x:SX) (lo hi:Option SX)
  |mks (ty esz bytes:Nat) (z:List V) (l c:SX)
  |ext (x:SX) (i:Nat)
  |mkf (f:Nat) (caps:List SX)
  |bstr (x:SX)
  |mkm (f:Nat) (first caps:List SX)
  |mki (ty:TypeId) (x:SX)
  |tas (ty:TypeId) (x:SX)
  |nilck (x:SX)
  |len (x:SX)
  |slen (x:SX)
  |clr (z:List V) (x:SX)
  |cpy (esz:Nat) (x y:SX)
  |mn (x y:SX)
  |mn3 (x y z:SX)
  |mx (x y:SX)
  |append (ty esz bytes:Nat) (s x:SX)
  |call (e:Bool) (f:Nat) (args:List SX)
  |callA (f:Nat) (args:List SX)
  |callv (e:Bool) (f:SX) (args:List SX)
  |isnil (neg:Bool) (x:SX)
  |mkmap
  |mlook (kd:Nat) (ok:Bool) (z:V) (m k:SX)
  |mset (kd:Nat) (m k x:SX)
  |mlen (x:SX)
  |bad
structure SO where
  g:Option (Nat×Bool)
  d:Option Nat
  x:X
inductive PX where
  |call (f:Nat) (args:List SX)
  |callv (f:SX) (args:List SX)
  |raise (x:SX)
inductive SC where
  |skip
  |ret
  |exit (n:Nat)
  |reg (ops:List SO)
  |pop (d:Option Nat) (x:PX)
  |dreg (kZ:List Nat) (ops:List SO)
  |xreg (ps:List (Nat×Nat×Nat×Nat)) (ops:List SO)
  |seq (a b:SC)
  |cond (c:SX) (a b:SC)
  |block (id:Nat) (a:SC)
  |loop (a:SC)
inductive SRes where
  |tmp (t:Nat)
  |cell (t:Nat) (agg:Bool) (n:Nat)
structure SF where
  n:Nat
  res:List SRes
  body:SC
def aKz:Value→Option V
  | .int k n=>some (.int k n)
  | .bool b=>some (.bool b)
  | .string s=>some (.str s.data.toList)
  | .pointer none=>some .nilp
  | .slice none 0 0=>some .nilsl
  | .nilFunc=>some (.raw .nilFunc)
  | .nilIface=>some (.raw .nilIface)
  | .map none=>some (.raw (.map none))
  |_=>none
def fX {α β : Type} (f : α → Option β) : List α → Option (List β)
  |[]=>some []
  | a :: l => match f a, fX f l with
    |some b,some r=>some (b::r)
    |_,_=>none
def cvt:Value→Option V
  | .agg cs=>(fX aKz cs.toList).map .agg
  |v=>aKz v
def sx:Operand→Option SX
  | .tmp t=>some (.t t)
  | .const v=>(cvt v).map .c
  | .func f=>some (.c (.fn f [] []))
  | .global _=>none
def fQ (P:Program) (t:TypeId):Option Nat:=(P.info? t).map (·.size)
def kS (P:Program) (t:TypeId):Option Bool:=(P.underlying t).map fun d=>match d with
  | .struct _| .array _ _=>true
  |_=>false
def gP (P:Program) (t:TypeId):Option (List V):=((P.info? t).bind (·.zero)).bind fun v=>(cvt v).map V.cells
def elemOf (P:Program) (t:TypeId):Option TypeId:=match P.underlying t with
  |some (.slice e)=>some e
  |_=>none
def tM (P:Program) (t:TypeId) (f:Nat):Option Field:=match P.underlying t with
  |some (.struct fs)=>fs[f]?
  |_=>none
def lQ (P:Program) (t:TypeId):Option Nat:=match P.underlying t with
  |some (.int _)=>some 0
  |some .string=>some 1
  |some .bool=>some 2
  |_=>none
def aDv (P:Program) (t:TypeId):Option (Nat×Nat):=match P.underlying t with
  |some (.array n e)=>if (fQ P e==some 1&&fQ P t==some n)=true then (lQ P e).map (n,·) else none
  |_=>none
def rA (P : Program) : List Field → Nat → Option (List Nat)
  |[],_=>some []
  | f :: r, i => if (f.name != "_" && decide (f.offset = i)) = true then match lQ P f.type with
    |some k=>(rA P r (i+1)).map (k:: ·)
    | none => match aDv P f.type with
      |some p=>(rA P r (i+p.1)).map (List.replicate p.1 p.2++ ·)
      |none=>none
    else none
def iF (P:Program) (t:TypeId):Option (List Nat):=match P.underlying t with
  |some (.struct fs)=>if (P.stoodInHeld t||P.eqGuardType P.depth t)=true then none else rA P fs.toList 0
  |some (.array _ _)=>if P.eqGuardType P.depth t=true then none else (aDv P t).map fun p=>List.replicate p.1 p.2
  |_=>none
def aLH (q:List Nat):Nat:=q.foldr (fun a n=>4*n+a+1) 0
def uS:Nat→Nat→List Nat
  |0,_=>[]
  |f+1,n=>if n=0 then [] else (n % 4 - 1)::uS f (n / 4)
def vH (P : Program) (k : TypeId) : Option Nat := match P.underlying k with
  |some .string=>some 0
  |some (.int _)=>some 1
  |some .bool=>some 2
  | some (.struct _) | some (.array _ _) => match iF P k with
    |some q=>if uS 300 (aLH q)=q then some (aLH q+3) else none
    |none=>none
  |_=>none
def aFp (P:Program) (e:TypeId):Option V:=match (P.info? e).bind (·.zero) with
  |some (.int k n)=>some (.int k n)
  |some (.bool b)=>some (.bool b)
  |some (.string s)=>some (.str s.data.toList)
  |_=>none
structure Opt where
  emut:List Nat
  own:List Nat
  pan:List Nat
  panv:List Nat
def oZ (P : Program) (op : Opt) (d : Nat) : Call → Option X
  | ⟨.value f, args, _⟩ => match sx f, fX sx args.toList with
    |some (.c (.fn k [] [])),some us=>some (if op.own.contains d&& !(op.emut.contains k) then .callA k us else .call (op.emut.contains k) k us)
    |some (.t n),some us=>some (.callv (op.own.contains d) (.t n) us)
    |_,_=>none
  | ⟨.builtin b, args, tys⟩ => match b, args.toList, tys.toList with
    | .len, [a], [t] => match P.underlying t, sx a with
      |some (.slice _),some a=>some (.len a)
      |some .string,some a=>some (.slen a)
      |some (.map _ _),some a=>some (.mlen a)
      |_,_=>none
    | .clear, [a], [t] => match elemOf P t, sx a with
      |some e,some a=>(gP P e).map fun z=>.clr z a
      |_,_=>none
    | .copy, [a, b], [t, _] => match elemOf P t, sx a, sx b with
      |some e,some a,some b=>(fQ P e).map fun n=>.cpy n a b
      |_,_,_=>none
    | .min, [a, b], _ => match sx a, sx b with
      |some a,some b=>some (.mn a b)
      |_,_=>none
    | .min, [a, b, c], _ => match sx a, sx b, sx c with
      |some a,some b,some c=>some (.mn3 a b c)
      |_,_,_=>none
    | .max, [a, b], _ => match sx a, sx b with
      |some a,some b=>some (.mx a b)
      |_,_=>none
    | .append, [s, a], [t, u] => match elemOf P t, sx s, sx a with
      | some e, some s, some a => match P.underlying u, P.info? e with
        | some (.slice _), some i => if i.size = 0 ∨ t ≠ u then none else match gP P e with
          |some z=>if z.length=i.size then some (.append e i.size i.bytes s a) else none
          |none=>none
        | some .string, some i => if i.size = 1 then match gP P e with
          |some z=>if z.length=i.size then some (.append e i.size i.bytes s a) else none
          |none=>none else none
        |_,_=>none
      |_,_,_=>none
    |_,_,_=>none
  |_=>none
def aJU:Option Operand→Option (Option SX)
  |none=>some none
  |some x=>(sx x).map some
def aFY (P : Program) (op : Opt) (d : Nat) (o : Oper) : Option X :=
  match o.op with
  | .move x=>(sx x).map .mv
  | .assign x => match x, op.own.contains d with
    | .const (.slice none 0 0), true => match elemOf P o.type with
      |some e=>if e < 4294967296 then (fQ P e).map (.lazy e) else none
      |none=>none
    |x,_=>(sx x).map .mv
  | .pick c a b => match sx c, sx a, sx b with
    |some c,some a,some b=>some (.pick c a b)
    |_,_,_=>none
  | .alloc t=>(gP P t).map (.alloc t)
  | .box t x => match sx x, fQ P t with
    |some x,some n=>some (.box t n x)
    |_,_=>none
  | .build t ps => match P.underlying t, gP P t with
    | some (.struct fs), some z => match fX (fun (p : Nat × Operand) => match fs[p.1]?, sx p.2 with
        |some f,some x=>(fQ P f.type).map fun n=>(f.offset,n,x)
        |_,_=>none) ps.toList with
      |some qs=>if fs.all fun f=>(P.info? f.type).isSome then some (.build z qs) else none
      |none=>none
    | some (.array _ e), some z => match fQ P e, fX (fun (p : Nat × Operand) => (sx p.2).map fun x => (p.1, x)) ps.toList with
      |some n,some qs=>some (.build z (qs.map fun q=>(q.1*n,n,q.2)))
      |_,_=>none
    |_,_=>none
  | .buildSlice t len ps => match elemOf P t with
    | some e => match gP P e, fQ P e, fX (fun (p : Nat × Operand) => (sx p.2).map fun x => (p.1, x)) ps.toList with
      |some z,some n,some qs=>if z.length=n∧n≠0∧len*n≤16777216 then (if len=0∧op.own.contains d=true∧qs.isEmpty=true∧e < 4294967296 then some (.lazy e n) else some (.bslice e n (op.own.contains d) z len qs)) else none
      |_,_,_=>none
    |none=>none
  | .load t a => match kS P t, fQ P t, sx a with
    |some g,some n,some a=>if g=false∧n≠1 then none else some (if op.own.contains d then .ldp g n a else .load g n a)
    |_,_,_=>none
  | .store t a x => match fQ P t, sx a, sx x with
    |some n,some a,some x=>some (.store n a x)
    |_,_,_=>none
  | .nilCheck x=>(sx x).map .nilck
  | .binOp op t x y _ => match P.underlying t, sx x, sx y with
    |some (.int _),some x,some y=>some (.bin op x y)
    |some .string,some x,some y=>some (.sbin op x y)
    |some .bool,some x,some y=>some (.bbin op x y)
    | some (.slice _), some x, some (.c .nilsl) => match op with
      | .eql=>some (.isnil false x)
      | .neq=>some (.isnil true x)
      |_=>none
    | some (.struct _), some x, some y => match op, iF P t with
      | .eql,some q=>some (.abin false q x y)
      | .neq,some q=>some (.abin true q x y)
      |_,_=>none
    |_,_,_=>none
  | .unOp op _ x=>(sx x).map (.un op)
  | .convert s t x => match P.underlying s, P.underlying t, sx x with
    |some _,some (.int k),some x=>some (.conv k x)
    | some (.slice e), some .string, some x => match P.underlying e with
      |some (.int .u8)=>some (.bstr x)
      |_=>none
    |_,_,_=>none
  | .fieldAddr t x f => match tM P t f, sx x with
    | some fd, some x => match fQ P fd.type with
      |some n=>if n=0 then none else some (.fld fd.offset x)
      |none=>none
    |_,_=>none
  | .field t x f => match tM P t f, sx x with
    | some fd, some x => match kS P fd.type, fQ P fd.type with
      |some g,some n=>if g=false∧n≠1 then none else some (.part g fd.offset n x)
      |_,_=>none
    |_,_=>none
  | .indexAddr t x i => match elemOf P t, sx x, sx i with
    |some e,some x,some i=>(fQ P e).map fun n=>.idx n x i
    | none, some x, some i => match P.underlying t with
      |some (.array len e)=>(fQ P e).map fun n=>.apos n len x i
      |_=>none
    |_,_,_=>none
  | .index t x i => match P.underlying t, sx x, sx i with
    |some .string,some x,some i=>some (.sidx x i)
    | some (.array len e), some x, some i => match kS P e, fQ P e with
      |some g,some n=>if g=false∧n≠1 then none else some (.aidx g n len x i)
      |_,_=>none
    |_,_,_=>none
  | .slice t x lo hi mx => if mx.isSome then none else match P.underlying t, sx x, aJU lo, aJU hi with
    |some .string,some x,some lo,some hi=>some (.sslice x lo hi)
    |some (.slice e),some x,some lo,some hi=>(fQ P e).map fun n=>.slice n x lo hi
    |_,_,_,_=>none
  | .makeSlice t l c => match elemOf P t, sx l, sx c with
    | some e, some l, some c => match P.info? e, gP P e with
      |some i,some z=>if z.length=i.size∧i.size≠0 then some (.mks e i.size i.bytes z l c) else none
      |_,_=>none
    |_,_,_=>none
  | .extract x i=>(sx x).map fun x=>.ext x i
  | .makeFunc (.func f) first caps => if first.size = 0 then (fX sx caps.toList).map (.mkf f) else match fX sx first.toList, fX sx caps.toList with
    |some a,some b=>some (.mkm f a b)
    |_,_=>none
  | .makeInterface t x => match P.underlying t with
    |some (.struct _)=>(sx x).map (.mki t)
    |_=>none
  | .typeAssert x _ t ok => match P.underlying t, ok with
    |some (.struct _),true=>(sx x).map (.tas t)
    |_,_=>none
  | .call c=>oZ P op d c
  | .makeMap t r => match r, P.underlying t with
    |none,some (.map k _)=>(vH P k).map fun _=>.mkmap
    |_,_=>none
  | .lookup t m x ok => match P.underlying t, sx m, sx x with
    | some (.map k e), some m, some x => match vH P k, aFp P e with
      |some kd,some z=>some (.mlook kd ok z m x)
      |_,_=>none
    |_,_,_=>none
  | .mapUpdate t m k x => match P.underlying t, sx m, sx k, sx x with
    |some (.map kt _),some m,some k,some x=>(vH P kt).map fun kd=>.mset kd m k x
    |_,_,_,_=>none
  | .insert t m k x => match P.underlying t, sx m, sx k, sx x with
    |some (.map kt _),some m,some k,some x=>(vH P kt).map fun kd=>.mset kd m k x
    |_,_,_,_=>none
  |_=>none
def aMl (n:Nat):Option Nat→Bool
  |some d=>decide (d < n)
  |none=>true
def aM3 (op : Opt) (o : Oper) : Option PX := match o.op with
  | .panic x=>(sx x).map .raise
  | .call ⟨.value f, args, _⟩ => match sx f, fX sx args.toList with
    |some (.c (.fn k [] [])),some us=>if op.pan.contains k then some (.call k us) else none
    | some (.t n), some us => match o.dst with
      |some d=>if op.panv.contains d then some (.callv (.t n) us) else none
      |none=>none
    |_,_=>none
  |_=>none
def xD (P:Program) (op:Opt) (d:Nat) (o:Oper):X:=(aFY P op d o).getD .bad
def nS (P : Program) (op : Opt) (n : Nat) (ops : Array Oper) (o : Oper) : Option SO :=
  if aMl n o.dst=true then
    match o.guard with
    |none=>some ⟨none,o.dst,xD P op (o.dst.getD 0) o⟩
    | some (j, want) => match (ops[j]?).bind (·.dst) with
      |some t=>some ⟨some (t,want),o.dst,xD P op (o.dst.getD 0) o⟩
      |none=>none
  else none
inductive Cls where
  |I|D|A|E|N
  deriving DecidableEq
def X.cls:X→Cls
  | .mv _| .pick _ _ _| .build _ _| .bin _ _ _| .sbin _ _ _| .bbin _ _ _| .abin _ _ _ _| .un _ _| .conv _ _| .part _ _ _ _| .sidx _ _| .aidx _ _ _ _ _| .fld _ _| .apos _ _ _ _| .nilck _| .sslice _ _ _| .ext _ _| .mkf _ _| .mkm _ _ _| .mki _ _| .tas _ _| .ldp _ _ _| .bstr _| .mn _ _| .mn3 _ _ _| .mx _ _| .slen _=>.I
  | .load _ _ _| .idx _ _ _| .slice _ _ _ _| .len _| .call false _ _| .callv false _ _=>.D
  | .bslice _ _ own _ _ _=>if own then .A else .D
  | .alloc _ _| .box _ _ _| .lazy _ _| .callA _ _| .mks _ _ _ _ _ _=>.A
  | .isnil _ _=>.N
  | .store _ _ _| .clr _ _| .cpy _ _ _| .append _ _ _ _ _| .call true _ _| .callv true _ _| .mkmap| .mlook _ _ _ _ _| .mset _ _ _ _| .mlen _| .bad=>.E
def wS (P : Program) (n : Nat) : ResultVar → Option SRes
  | .tmp t=>if t < n then some (.tmp t) else none
  | .cell t ty => match kS P ty, fQ P ty with
    |some g,some m=>if t < n∧ ¬ (g=false∧m≠1) then some (.cell t g m) else none
    |_,_=>none
end Go.Proofs.YteehaobohaecmaaGreatDoor


namespace Go.Proofs.YteehaobohaecmaaGreatDoor
open Go
def onS {α:Type} (o:Option α) (k:α→Prop):Prop:=match o with
  |some a=>k a
  |none=>False
@[simp] theorem eQ {α:Type} (a:α) (k:α→Prop):onS (some a) k=k a:=rfl
@[simp] theorem aUt {α:Type} (k:α→Prop):onS none k=False:=rfl
theorem zK {α:Type} {o:Option α} {k k':α→Prop} (h: ∀ a,k a→k' a) (ho:onS o k):onS o k':=by cases o <;> simp_all
theorem bO {α:Type} {o:Option α} {k:α→Prop}:onS o k↔ ∃ a,o=some a∧k a:=by cases o <;> simp
def ev (T:Nat→V):SX→V
  | .t n=>T n
  | .c v=>v
@[simp] theorem aQA (T:Nat→V) (n:Nat):ev T (.t n)=T n:=rfl
@[simp] theorem aUZ (T:Nat→V) (v:V):ev T (.c v)=v:=rfl
def evs (T:Nat→V):List SX→List V
  |[]=>[]
  |a::l=>ev T a::evs T l
theorem aJE (T:Nat→V) (l:List SX):evs T l=l.map (ev T):=by induction l <;> simp_all [evs]
def iY (T:Nat→V) (d:Option Nat) (v:V):Nat→V:=match d with
  |some d=>upd T d v
  |none=>T
def asB:V→Option Bool
  | .bool b=>some b
  |_=>none
def ok (H:aP) (id ver:Nat):Bool:=(H id).own&&decide ((H id).ver=ver)
def jX:List V→Nat→List V→List V
  |r,_,[]=>r
  |r,o,v::vs=>jX (r.set o v) (o+1) vs
def ptr (H:aP):V→Option (List V)
  | .pp cells=>some cells
  | .mp id ver row off=>if ok H id ver then ((H id).rows[row]?).map (·.drop off) else none
  |_=>none
def ldV (agg:Bool) (n:Nat) (cs:List V):Option V:=
  if n≤cs.length then if (cs.take n).all V.one then (if agg then some (.agg (cs.take n)) else cs.head?) else none else none
def stP (H : aP) (n : Nat) (vs : List V) : V → Option aP
  | .mp id ver row off => if ok H id ver then if vs.length = n then if vs.all V.one then match (H id).rows[row]? with
      |some r=>if off+n≤r.length then some (upd H id {H id with rows:=(H id).rows.set row (jX r off vs)}) else none
      |none=>none
    else none else none else none
  |_=>none
def aLC (H : aP) (z : List V) : V → Option aP
  | .nilsl=>some H
  | .sl []=>some H
  | .ms id ver off len => if (H id).live && decide ((H id).ver = ver) then if len = 0 then some H else if z.length = (H id).sz ∧ z.length ≠ 0 then if z.all V.one then
      if off+len≤(H id).rows.length then some (upd H id {H id with rows:=(H id).rows.take off++List.replicate len z++(H id).rows.drop (off+len)}) else none
    else none else none else none
  |_=>none
def bld:List V→List (Nat×Nat×V)→Option (List V)
  |z,[]=>some z
  |z,(off,n,v)::r=>if v.cells.length=n then if off+n≤z.length then bld (jX z off v.cells) r else none else none
def qQ (esz:Nat):List (List V)→List (Nat×V)→Option (List (List V))
  |rows,[]=>some rows
  |rows,(i,v)::r=>if v.cells.length=esz then if i < rows.length then qQ esz (rows.set i v.cells) r else none else none
def iT (op : BinOp) : V → V → Option V
  | .int k a, .int k' b => if k = k' then match op with
    | .add=>some (.int k (k.wrap (a+b)))
    | .sub=>some (.int k (k.wrap (a - b)))
    | .mul=>some (.int k (k.wrap (a*b)))
    | .quo=>if b=0 then none else some (.int k (k.wrap (a.tdiv b)))
    | .rem=>if b=0 then none else some (.int k (a.tmod b))
    | .eql=>some (.bool (a==b))
    | .neq=>some (.bool (a != b))
    | .lss=>some (.bool (decide (a < b)))
    | .leq=>some (.bool (decide (a≤b)))
    | .gtr=>some (.bool (decide (b < a)))
    | .geq=>some (.bool (decide (b≤a)))
    | .shr=>if b < 0 then none else some (.int k (a.fdiv (2 ^ min b.toNat k.bits)))
    |_=>none
    else none
  |_,_=>none
def yU (op : BinOp) : V → V → Option V
  | .str a, .str b => match op with
    | .eql=>some (.bool (a==b))
    | .neq=>some (.bool (a != b))
    | .lss=>some (.bool (Op.bytesLess a b))
    | .add=>if a.length+b.length≤9223372036854775807 then some (.str (a++b)) else none
    |_=>none
  |_,_=>none
def wW (op : BinOp) : V → V → Option V
  | .bool a, .bool b => match op with
    | .eql=>some (.bool (a==b))
    | .neq=>some (.bool (a != b))
    |_=>none
  |_,_=>none
def dD:List Nat→List V→List V→Option Bool
  |[],[],[]=>some true
  |0::q,.int k a::r,.int k' b::s=>if k=k' then (dD q r s).map (a==b&& ·) else none
  |1::q,.str a::r,.str b::s=>(dD q r s).map (a==b&& ·)
  |2::q,.bool a::r,.bool b::s=>(dD q r s).map (a==b&& ·)
  |_,_,_=>none
def aBB (neg:Bool) (q:List Nat):V→V→Option V
  | .agg r,.agg s=>(dD q r s).map fun b=>.bool (if neg then !b else b)
  |_,_=>none
def unV (op : UnOp) : V → Option V
  | .int k n => match op with
    | .neg=>some (.int k (k.wrap (0 - n)))
    |_=>none
  | .bool b => match op with
    | .not=>some (.bool !b)
    |_=>none
  |_=>none
def aAT (k:IntKind):V→Option V
  | .int _ n=>some (.int k (k.wrap n))
  |_=>none
def aEE (off:Nat):V→Option V
  | .pp cells=>some (.pp (cells.drop off))
  | .mp id ver row o=>some (.mp id ver row (o+off))
  |_=>none
def yQ (agg:Bool) (off n:Nat):V→Option V
  | .agg cs=>if off+n≤cs.length then (if agg then some (.agg ((cs.drop off).take n)) else cs[off]?) else none
  |_=>none
def aFr (rows:List (List V)) (i:Int):Option (List V):=if 0≤i then rows[i.toNat]? else none
def wB (H:aP) (esz:Nat):V→V→Option V
  | .sl rows,.int _ i=>(aFr rows i).bind fun r=>if r.length=esz then some (.pp r) else none
  | .ms id ver off len,.int _ i=>if ok H id ver then if (H id).sz=esz then if 0≤i∧i < len then some (.mp id ver (off+i.toNat) 0) else none else none else none
  |_,_=>none
def aJm:V→V→Option V
  | .str s,.int _ i=>if 0≤i then (s[i.toNat]?).map fun b=>.int .u8 b.toNat else none
  |_,_=>none
def aJJ (agg:Bool) (n len:Nat):V→V→Option V
  | .agg cs,.int _ i=>if 0≤i∧i < (len:Int) then yQ agg (i.toNat*n) n (.agg cs) else none
  |_,_=>none
def aF5 (n len:Nat) (u:V):V→Option V
  | .int _ i=>if 0≤i∧i < (len:Int) then aEE (i.toNat*n) u else none
  |_=>none
def aGW:V→Option Nat
  | .int _ i=>if 0≤i then some i.toNat else none
  |_=>none
def fN (d:Nat):Option V→Option Nat
  |none=>some d
  |some v=>aGW v
def oQ (H : aP) (esz : Nat) (lo hi : Option V) : V → Option V
  | .nilsl => match fN 0 hi with
    | some 0 => match fN 0 lo with
      |some 0=>some .nilsl
      |_=>none
    |_=>none
  | .sl rows=>(fN rows.length hi).bind fun h=>(fN 0 lo).bind fun l=>
      if l≤h then if h≤rows.length then if rows.all (fun r=>r.length==esz) then some (.sl ((rows.take h).drop l)) else none else none else none
  | .ms id ver off len => (fN len hi).bind fun h => (fN 0 lo).bind fun l =>
      if ok H id ver then if (H id).sz=esz then if l≤h then if h≤len then
        if l < h then some (.ms id ver (off+l) (h - l)) else if l=0 then some (.ms id ver off 0) else some (.sl []) else none else none else none else none
  |_=>none
def aBU (lo hi:Option V):V→Option V
  | .str s=>(fN s.length hi).bind fun h=>(fN 0 lo).bind fun l=>
      if l≤h then if h≤s.length then some (.str ((s.take h).drop l)) else none else none
  |_=>none
def aME:V→Option Value
  | .int k n=>some (.int k n)
  | .bool b=>some (.bool b)
  | .str s=>some (.string ⟨s.toArray⟩)
  |_=>none
def aPn:V→Option Value
  | .agg cs=>(fX aME cs).map fun l=>.agg l.toArray
  |v=>aME v
def aOV:Value→Option V
  | .int k n=>some (.int k n)
  | .bool b=>some (.bool b)
  |_=>none
def aPP (ty:TypeId):V→Option V
  | .raw (.iface t (.agg cs))=>if t=ty then (fX aOV cs.toList).map fun vs=>.tup [.agg vs,.bool true] else none
  |_=>none
def tQ:List (List V)→Option (List UInt8)
  |[]=>some []
  |[.int .u8 n]::r=>(tQ r).map (UInt8.ofNat n.toNat:: ·)
  |_=>none
def aJA:V→Option V
  | .sl rows=>(tQ rows).map .str
  | .nilsl=>some (.str [])
  |_=>none
def aOF:V→Option (List V)
  | .pp cells=>some cells
  |_=>none
theorem aKo {H:aP} {v:V} {cs:List V} (h:aOF v=some cs):ptr H v=some cs:=by
  unfold aOF at h
  split at h
  · exact h
  · cases h
def aC8 (H:aP):V→Option V
  | .sl rows=>some (.int .i64 rows.length)
  | .nilsl=>some (.int .i64 0)
  | .ms id ver _ len=>if (H id).live&&decide ((H id).ver=ver) then some (.int .i64 len) else none
  |_=>none
def aIc (H : aP) : V → Option V
  | .mm id ver => if ((H id).own && decide ((H id).ver = ver) && (H id).isM && decide ((H id).sz = 2)) = true then match (H id).rows with
      |_::es=>some (.int .i64 es.length)
      |[]=>none
    else none
  |_=>none
def aGB:V→Option V
  | .str s=>some (.int .i64 s.length)
  |_=>none
def aL2 (i:Nat):V→Option V
  | .tup vs=>vs[i]?
  |_=>none
def aKD:V→Option V
  | .pp cells=>some (.pp cells)
  | .mp id ver row off=>some (.mp id ver row off)
  | .fn f a b=>some (.fn f a b)
  |_=>none
def mnV:V→V→Option V
  | .int k a,.int _ b=>some (.int k (if b < a then b else a))
  |_,_=>none
def mxV:V→V→Option V
  | .int k a,.int _ b=>some (.int k (if b > a then b else a))
  |_,_=>none
def oV (H:aP):V→Option (List (List V))
  | .sl rows=>some rows
  | .nilsl=>some []
  | .ms id ver off len=>if (H id).live&&decide ((H id).ver=ver) then some (((H id).rows.drop off).take len) else none
  |_=>none
def aDg (H:aP):V→Option (List (List V))
  | .str s=>some (s.map fun b=>[.int .u8 (b.toNat:Nat)])
  |v=>oV H v
def iU (esz:Nat) (rows:List (List V)):Bool:=rows.all fun r=>r.length==esz&&r.all V.one
def aO6 (H : aP) (esz : Nat) (u : V) : V → Option (Nat × aP)
  | .ms id ver off len => if (H id).live && decide ((H id).ver = ver) then if off = 0 ∧ len = (H id).rows.length ∧ (H id).sz = esz then match oV H u with
      |some new=>if new.length=len then if iU esz new=true then some (len,upd H id {H id with rows:=new}) else none else none
      |none=>none
    else none else none
  |_=>none
def aE1 (bytes:Nat):V→V→Option (Nat×Nat)
  | .int _ l,.int _ c=>if 0≤l then if l≤c then if c*bytes≤281474976710656 then if c≤9223372036854775807 then some (l.toNat,c.toNat) else none else none else none else none
  |_,_=>none
def aAa:Nat→V→V→Option Bool
  |0,.str a,.str b=>some (a==b)
  |1,.int k a,.int k' b=>if k=k' then some (a==b) else none
  |2,.bool a,.bool b=>some (a==b)
  |kd+3,.agg r,.agg s=>dD (uS 300 kd) r s
  |_,_,_=>none
def gK (kd : Nat) (key : V) : List (List V) → Nat → Option (Option (Nat × V))
  |[],_=>some none
  | [kk, v] :: l, i => match aAa kd key kk with
    |some true=>some (some (i,v))
    |some false=>gK kd key l (i+1)
    |none=>none
  |_,_=>none
def eP:Nat:=4294967296
def nI:Nat→V→Bool
  |0,.str _=>true
  |1,.int _ _=>true
  |2,.bool _=>true
  |kd+3,.agg r=>dD (uS 300 kd) r r==some true
  |_,_=>false
def aD3 (H : aP) (kd : Nat) (z : V) (m key : V) : Option (V × Bool) := match m with
  | .mm id ver => if ((H id).own && decide ((H id).ver = ver) && (H id).isM && decide ((H id).sz = 2) && nI kd key) = true then match (H id).rows with
      | _ :: es => match gK kd key es 0 with
        |some (some (_,v))=>some (v,true)
        |some none=>some (z,false)
        |none=>none
      |[]=>none
    else none
  |_=>none
def aC4 (H : aP) (kd : Nat) (m key val : V) : Option aP := match m with
  | .mm id ver => if ((H id).own && decide ((H id).ver = ver) && (H id).isM && decide ((H id).sz = 2) && nI kd key) = true then match (H id).rows with
      | h :: es => match gK kd key es 0 with
        |some (some (i,_))=>some (upd H id {H id with rows:=h::es.set i [key,val]})
        |some none=>some (upd H id {H id with rows:=h::(es++[[key,val]])})
        |none=>none
      |[]=>none
    else none
  |_=>none
def RL (x:Cx) (vs:List V) (cs:List Value):Prop:=cs.length=vs.length∧ ∀ (j:Nat) (v:V),vs[j]?=some v→R x v (cs.getD j undef)
def dV (P : Program) (f : Nat) : Prop := ∃ fn, P.funcs[f]? = some fn ∧ fn.body.isSome = true ∧ (fn.name == "runtime.NumGoroutine") = false
def eR (P : Program) (f : Nat) (args : List V) (H : aP) (v : V) (H' : aP) : Prop :=
  dV P f∧ ∀ (x:Cx) (cs:List Value),x.H=H→Inv x→RL x args cs→
    Calls P f cs.toArray x.w fun e w'=> ∃ c y,e=.returned c∧y.w=w'∧y.H=H'∧Inv y∧R y v c∧Frame x y
inductive Res where
  |ok (v:V) (H:aP)
  |pan (c:Value) (S:List Nat)
def aUi (P : Program) (f : Nat) (args : List V) (H : aP) (c : Value) (S : List Nat) : Prop :=
  dV P f∧ ∀ (x:Cx) (cs:List Value),x.H=H→Inv x→RL x args cs→
    Calls P f cs.toArray x.w fun e w'=> ∃ y,e=.panicked [{v:=c,recovered:=false}]∧y.w=w'∧(∀ j,j∉S→y.H j=H j)∧Inv y∧Frame x y
def aOn (P:Program) (f:Nat) (args:List V) (H:aP):Res→Prop
  | .ok v H'=>eR P f args H v H'
  | .pan c S=>aUi P f args H c S
def Ext (H H':aP):Prop:= ∀ id,(H id).live=true→H' id=H id
def ROC (P:Program) (f:Nat) (args:List V) (H:aP) (v:V):Prop:= ∀ H',Ext H H'→eR P f args H' v H'
def tH (P:Program) (e:Bool) (f:Nat) (args:List V) (H:aP) (k:V→aP→Prop):Prop:=match e with
  |false=> ∃ v,ROC P f args H v∧k v H
  |true=> ∃ v H',eR P f args H v H'∧k v H'
def St (P : Program) (id : Nat) (x : X) (T : Nat → V) (H : aP) (k : V → aP → Prop) : Prop :=
  match x with
  | .mv a=>k (ev T a) H
  | .lazy ty sz=>k (.ms id ((H id).ver+1) 0 0) (upd H id ⟨(H id).ver+1,true,true,ty,sz,[]⟩)
  | .pick c a b=>onS (asB (ev T c)) fun bb=>k (if bb then ev T a else ev T b) H
  | .alloc ty z=>k (.mp id ((H id).ver+1) 0 0) (upd H id ⟨(H id).ver+1,true,false,ty,z.length,[z]⟩)
  | .box ty _ a=>k (.mp id ((H id).ver+1) 0 0) (upd H id ⟨(H id).ver+1,true,false,ty,(ev T a).cells.length,[(ev T a).cells]⟩)
  | .build z ps=>onS (bld z (ps.map fun p=>(p.1,p.2.1,ev T p.2.2))) fun cs=>k (.agg cs) H
  | .bslice ty esz own z len ps=>onS (qQ esz (List.replicate len z) (ps.map fun p=>(p.1,ev T p.2))) fun rows=>
      if own then k (.ms id ((H id).ver+1) 0 rows.length) (upd H id ⟨(H id).ver+1,true,false,ty,esz,rows⟩) else k (.sl rows) H
  | .load agg n a=>onS ((ptr H (ev T a)).bind (ldV agg n)) fun v=>k v H
  | .ldp agg n a=>onS ((aOF (ev T a)).bind (ldV agg n)) fun v=>k v H
  | .store n a b=>onS (stP H n (ev T b).cells (ev T a)) fun H'=>k (.raw undef) H'
  | .bin op a b=>onS (iT op (ev T a) (ev T b)) fun v=>k v H
  | .sbin op a b=>onS (yU op (ev T a) (ev T b)) fun v=>k v H
  | .bbin op a b=>onS (wW op (ev T a) (ev T b)) fun v=>k v H
  | .abin neg q a b=>onS (aBB neg q (ev T a) (ev T b)) fun v=>k v H
  | .un op a=>onS (unV op (ev T a)) fun v=>k v H
  | .conv kd a=>onS (aAT kd (ev T a)) fun v=>k v H
  | .fld off a=>onS (aEE off (ev T a)) fun v=>k v H
  | .part agg off n a=>onS (yQ agg off n (ev T a)) fun v=>k v H
  | .idx esz a i=>onS (wB H esz (ev T a) (ev T i)) fun v=>k v H
  | .sidx a i=>onS (aJm (ev T a) (ev T i)) fun v=>k v H
  | .aidx agg n len a i=>onS (aJJ agg n len (ev T a) (ev T i)) fun v=>k v H
  | .apos n len a i=>onS (aF5 n len (ev T a) (ev T i)) fun v=>k v H
  | .slice esz a lo hi=>onS (oQ H esz (lo.map (ev T)) (hi.map (ev T)) (ev T a)) fun v=>k v H
  | .sslice a lo hi=>onS (aBU (lo.map (ev T)) (hi.map (ev T)) (ev T a)) fun v=>k v H
  | .mks ty esz bytes z l c=>onS (aE1 bytes (ev T l) (ev T c)) fun n=>
      k (.ms id ((H id).ver+1) 0 n.1) (upd H id ⟨(H id).ver+1,true,false,ty,esz,List.replicate n.1 z⟩)
  | .ext a i=>onS (aL2 i (ev T a)) fun v=>k v H
  | .mkf f caps=>k (.fn f [] (evs T caps)) H
  | .bstr a=>onS (aJA (ev T a)) fun v=>k v H
  | .mkm f a b=>k (.fn f (evs T a) (evs T b)) H
  | .mki ty a=>onS (aPn (ev T a)) fun c=>k (.raw (.iface ty c)) H
  | .tas ty a=>onS (aPP ty (ev T a)) fun v=>k v H
  | .nilck a=>onS (aKD (ev T a)) fun v=>k v H
  | .len a=>onS (aC8 H (ev T a)) fun v=>k v H
  | .clr z a=>onS (aLC H z (ev T a)) fun H'=>k (.tup []) H'
  | .cpy n a b=>onS (aO6 H n (ev T b) (ev T a)) fun p=>k (.int .i64 p.1) p.2
  | .slen a=>onS (aGB (ev T a)) fun v=>k v H
  | .mn a b=>onS (mnV (ev T a) (ev T b)) fun v=>k v H
  | .mn3 a b c=>onS ((mnV (ev T a) (ev T b)).bind fun u=>mnV u (ev T c)) fun v=>k v H
  | .mx a b=>onS (mxV (ev T a) (ev T b)) fun v=>k v H
  | .append ty esz bytes s a => match ev T s with
    | .ms i ver off len => if (H i).live && decide ((H i).ver = ver) then if off = 0 then if len = (H i).rows.length then if (H i).ty = ty then if (H i).sz = esz then
        onS (aDg H (ev T a)) fun new=>if iU esz new=true then if (len+new.length)*bytes≤140737488355328 then if len+new.length≤9223372036854775807 then
          k (.ms i (ver+1) 0 (len+new.length)) (upd H i {H i with ver:=ver+1,rows:=(H i).rows++new})
        else False else False else False
        else False else False else False else False else False
    |_=>False
  | .call e f args=>tH P e f (evs T args) H k
  | .callA f args=> ∃ v b,b.live=true∧(∀ H2:aP,H2 id=H id→eR P f (evs T args) H2 v (upd H2 id b))∧k v (upd H id b)
  | .callv e g args => match ev T g with
    | .fn f first caps=>tH P e f (first++evs T args++caps) H k
    |_=>False
  | .isnil neg a => match ev T a with
    | .nilsl=>k (.bool (!neg)) H
    | .sl rows=>(rows=[]→k (.bool (!neg)) H)∧k (.bool neg) H
    |_=>False
  | .mkmap=>k (.mm id ((H id).ver+1)) (upd H id ⟨(H id).ver+1,true,true,eP,2,[[.nilp,.nilp]]⟩)
  | .mlook kd ok z m x=>onS (aD3 H kd z (ev T m) (ev T x)) fun p=>k (if ok then .tup [p.1,.bool p.2] else p.1) H
  | .mset kd m x v=>onS (aC4 H kd (ev T m) (ev T x) (ev T v)) fun H'=>k (.raw undef) H'
  | .mlen a=>onS (aIc H (ev T a)) fun v=>k v H
  | .bad=>False
def gd (want:Bool):V→Bool
  | .bool b=>b==want
  | .raw (.bool b)=>b==want
  |_=>false
def Ops (P : Program) (k0 : Nat) : List SO → (Nat → V) → aP → ((Nat → V) → aP → Prop) → Prop
  |[],T,H,K=>K T H
  | o :: r, T, H, K => match o.g with
    |none=>St P (k0+o.d.getD 0) o.x T H fun v H'=>Ops P k0 r (iY T o.d v) H' K
    | some (t, want) =>
      (gd want (T t)=true→St P (k0+o.d.getD 0) o.x T H fun v H'=>Ops P k0 r (iY T o.d v) H' K)∧
      (gd want (T t)=false→Ops P k0 r (iY T o.d (.raw undef)) H K)
inductive Ex where
  |norm
  |ret
  |exit (n:Nat)
  |pan (c:Value)
def Pop (P : Program) (d : Option Nat) (f : Nat) (args : List V) (Q : Ex → (Nat → V) → aP → Prop) (T : Nat → V) (H : aP) : Prop :=
  ∃ r, aOn P f args H r ∧ match r with
    | .ok v H'=>Q .norm (iY T d v) H'
    | .pan c S=> ∀ H',(∀ j,j∉S→H' j=H j)→Q (.pan c) T H'
def fzT (id:Nat) (H:aP) (T:Nat→V):Nat→V:=fun i=>match T i with
  | .ms j ver off len=>if j=id∧(H id).live=true∧(H id).ver=ver then .sl (((H id).rows.drop off).take len) else T i
  |_=>T i
def lM (id:Nat) (H:aP):aP:=upd H id {H id with live:=false}
inductive G (K:(Nat→V)→aP→Prop):(Nat→V)→aP→Prop where
  |done {T:Nat→V} {H:aP} (h:K T H):G K T H
  |freeze (id:Nat) {T:Nat→V} {H:aP} (h:G K (fzT id H T) (lM id H)):G K T H
  |lazyCell (id' ty sz id row off:Nat) {T:Nat→V} {H:aP} (r:List V) (hne:id'≠id) (ho:(H id).own=true) (hr:(H id).rows[row]?=some r) (hc:r[off]?=some .nilsl)
      (h:G K T (upd (upd H id' ⟨(H id').ver+1,true,true,ty,sz,[]⟩) id {H id with rows:=(H id).rows.set row (r.set off (.ms id' ((H id').ver+1) 0 0))})) (hty:ty < 4294967296:=by decide):G K T H
  |frzCell (id ver len id2 row off:Nat) {T:Nat→V} {H:aP} (r:List V) (hne:id2≠id) (hl:(H id).live=true) (hv:(H id).ver=ver) (ho:(H id2).own=true) (hr:(H id2).rows[row]?=some r) (hc:r[off]?=some (.ms id ver 0 len))
      (h:G K (fzT id H T) (upd (lM id H) id2 {H id2 with rows:=(H id2).rows.set row (r.set off (.sl ((H id).rows.take len)))})):G K T H
  |freezeP (id i ver row off:Nat) {T:Nat→V} {H:aP} (r:List V) (ht:T i=.mp id ver row off) (hv:(H id).ver=ver) (ho:(H id).own=true) (hr:(H id).rows[row]?=some r) (h:G K (upd T i (.pp (r.drop off))) (lM id H)):G K T H
  |slot (i:Nat) (u:V) {T:Nat→V} {H:aP} (hu: ∀ (x:Cx) (c:Value),x.H=H→Inv x→R x (T i) c→R x u c) (h:G K (upd T i u) H):G K T H
  |cell (id row off:Nat) (v u:V) {T:Nat→V} {H:aP} (r:List V) (ho:(H id).own=true) (hr:(H id).rows[row]?=some r) (hc:r[off]?=some v) (hu: ∀ (x:Cx) (c:Value),R x v c→R x u c)
      (h:G K T (upd H id {H id with rows:=(H id).rows.set row (r.set off u)})):G K T H
def aUW (T : Nat → V) : X → Bool
  | .append _ _ _ (.t _) (.t a) => match T a with
    | .ms _ _ _ _=>false
    |_=>true
  | .len (.t a) => match T a with
    | .ms _ _ _ _=>false
    |_=>true
  | .idx _ (.t a) _ => match T a with
    | .ms _ _ _ _=>false
    |_=>true
  |_=>true
def apV (n m:Nat):V→V→Bool
  | .pp _,_=>true
  | .mp _ _ _ _,.pp _=>true
  | .ms _ _ _ _,.pp _=>true
  | .mp i _ r o,.mp j _ r' o'=>i != j||r != r'||decide (o+n≤o')||decide (o'+m≤o)
  | .mp i _ _ _,.ms j _ _ _=>i != j
  | .ms i _ _ _,.mp j _ _ _=>i != j
  | .ms i _ _ _,.ms j _ _ _=>i != j
  |_,_=>false
abbrev Ap4:=Nat×Nat×Nat×Nat
def ddB (ps:List Ap4) (ops:List SO) (T:Nat→V):Bool:=(ps.all fun p=>apV p.2.1 p.2.2.2 (T p.1) (T p.2.2.1))&&ops.all fun o=>aUW T o.x
def W (P : Program) (k0 : Nat) : SC → (Ex → (Nat → V) → aP → Prop) → (Nat → V) → aP → Prop
  | .skip,Q,T,H=>Q .norm T H
  | .ret,Q,T,H=>Q .ret T H
  | .exit n,Q,T,H=>Q (.exit n) T H
  | .reg ops,Q,T,H=> ∃ k1,Ops P k1 ops T H (Q .norm)
  | .pop d x, Q, T, H => match x with
    | .call f args=>Pop P d f (evs T args) Q T H
    | .callv g args => match ev T g with
      | .fn f first caps=>Pop P d f (first++evs T args++caps) Q T H
      |_=>False
    | .raise u => match ev T u with
      | .raw (.iface t c)=>Q (.pan (.iface t c)) T H
      |_=>False
  | .xreg ps ops,Q,T,H=> ∃ k1,Ops P k1 ops T H fun T H=>ddB ps ops T=true∧Q .norm T H
  | .dreg kZ ops,Q,T,H=> ∃ k1,(∀ d∈kZ,(H (k1+d)).live=false)∧Ops P k1 ops T H (Q .norm)
  | .seq a b, Q, T, H => W P k0 a (fun e T H => match e with
    | .norm=>G (W P k0 b Q) T H
    |e=>Q e T H) T H
  | .cond c a b,Q,T,H=>onS (asB (ev T c)) fun bb=>(bb=true→W P k0 a Q T H)∧(bb=false→W P k0 b Q T H)
  | .block id a, Q, T, H => W P k0 a (fun e T H => match e with
    | .exit n=>if n=id then Q .norm T H else Q (.exit n) T H
    |e=>Q e T H) T H
  | .loop a, Q, T, H => ∃ (I : Nat → (Nat → V) → aP → Prop) (n : Nat), I n T H ∧ ∀ n T H, I n T H → W P k0 a (fun e T' H' => match e with
    | .norm=> ∃ m,m < n∧I m T' H'
    |e=>Q e T' H') T H
end Go.Proofs.YteehaobohaecmaaGreatDoor


namespace Go.Proofs.YteehaobohaecmaaGreatDoor
open Go
section
variable {P:Program}
theorem jD {o:Oper} {a:Act} {w w':World} {next:Act→World→Prop} {Q:Exit→Act→World→Prop} {c:Value}
    (h:(execOp a.eval o).run P w=.ok (.value c) w') (hn:next (a.put o.dst c) w'):o.wp P a w next Q:=by
  unfold Oper.wp; rw [h]; exact hn
theorem xJ {o:Oper} {a:Act} {w w':World} {next:Act→World→Prop} {Q:Exit→Act→World→Prop}
    (h:(execOp a.eval o).run P w=.ok .skip w') (hn:next (a.put o.dst undef) w'):o.wp P a w next Q:=by
  unfold Oper.wp; rw [h]; exact hn
theorem aIJ (x:Cx) {c:Value} {v:V} (h:aKz c=some v):R x v c:=by
  unfold aKz at h
  split at h <;> cases h
  · exact .int _ _
  · exact .bool _
  · exact .str _
  · exact .nilp
  · exact .nilsl
  · exact .raw _ rfl
  · exact .raw _ rfl
  · exact .raw _ rfl
theorem gF {α β:Type} {f:α→Option β}: ∀ {l:List α} {r:List β},fX f l=some r→r.length=l.length∧ ∀ (j:Nat) (b:β),r[j]?=some b→ ∃ a,l[j]?=some a∧f a=some b
  |[],r,h=>by cases h; exact ⟨rfl,fun j b hj=>by simp at hj⟩
  | a :: l, r, h => by
    simp only [fX] at h
    split at h
    · rename_i b r' hb hr'
      cases h
      obtain ⟨h1,h2⟩:=gF hr'
      refine ⟨by simp [h1],fun j c hj=>?_⟩
      cases j with
      |zero=>simp at hj; subst hj; exact ⟨a,rfl,hb⟩
      |succ j=>simpa using h2 j c (by simpa using hj)
    · cases h
theorem aOr (x : Cx) {c : Value} {v : V} (h : cvt c = some v) : R x v c := by
  unfold cvt at h
  split at h
  · rename_i cs
    cases hm:fX aKz cs.toList with
    |none=>simp [hm] at h
    | some vs =>
      simp [hm] at h
      subst h
      obtain ⟨h1,h2⟩:=gF hm
      refine .agg vs cs (by simp [h1]) fun j v hj=>?_
      obtain ⟨c,hc,hv⟩:=h2 j v hj
      have:cs.getD j undef=c:=by
        have:cs[j]?=some c:=by simpa using hc
        simp [Array.getD_eq_getD_getElem?,this]
      rw [this]
      exact aIJ x hv
  · exact aIJ x h
variable {x:Cx} {T:Nat→V} {a:Act}
theorem dN (hT: ∀ i,R x (T i) (a.tmps.getD i undef)) {o:Operand} {s:SX} (h:sx o=some s):R x (ev T s) (a.eval o):=by
  cases o with
  |tmp t=>cases h; exact hT t
  | const v =>
    simp only [sx] at h
    cases hc:cvt v with
    |none=>simp [hc] at h
    |some u=>simp [hc] at h; subst h; exact aOr x hc
  | func f =>
    cases h
    exact .fn f [] [] #[] #[] rfl rfl (fun j v hj=>by simp at hj) (fun j v hj=>by simp at hj)
  |global g=>cases h
theorem aEZ {op : BinOp} {u v r : V} {cu cv : Value} (h : iT op u v = some r) (hu : R x u cu) (hv : R x v cv) (t : TypeId) (X Y : Operand) (w : World) :
    ∃ c,(do eqGuard op t X Y cu cv; binOp op t cu cv:Sem Value).run P w=.ok c w∧R x r c:=by
  unfold iT at h
  split at h
  · rename_i k a k' b
    cases hu; cases hv
    split at h
    · subst_vars
      split at h
      case h_1=>cases h; exact ⟨_,by simp [eqGuard_at_int,binOp_add,Op.intArith],.int _ _⟩
      case h_2=>cases h; exact ⟨_,by simp [eqGuard_at_int,binOp_sub,Op.intArith],.int _ _⟩
      case h_3=>cases h; exact ⟨_,by simp [eqGuard_at_int,binOp_mul,Op.intArith],.int _ _⟩
      case h_4=>
        split at h
        · cases h
        · rename_i hb; cases h; exact ⟨_,by simp [eqGuard_at_int,binOp_quo,Op.intDiv,hb],.int _ _⟩
      case h_5=>
        split at h
        · cases h
        · rename_i hb; cases h; exact ⟨_,by simp [eqGuard_at_int,binOp_rem,Op.intDiv,hb],.int _ _⟩
      case h_6=>cases h; exact ⟨_,by simp only [eqGuard_at_int,binOp_eql]; rfl,.bool _⟩
      case h_7=>cases h; exact ⟨_,by simp only [eqGuard_at_int,binOp_neq]; rfl,.bool _⟩
      case h_8=>cases h; exact ⟨_,by simp only [eqGuard_at_int,binOp_lss]; rfl,.bool _⟩
      case h_9=>cases h; exact ⟨_,by simp only [eqGuard_at_int,binOp_leq]; rfl,.bool _⟩
      case h_10=>cases h; exact ⟨_,by simp only [eqGuard_at_int,binOp_gtr]; rfl,.bool _⟩
      case h_11=>cases h; exact ⟨_,by simp only [eqGuard_at_int,binOp_geq]; rfl,.bool _⟩
      case h_12=>
        split at h
        · cases h
        · rename_i hb; cases h; exact ⟨_,by simp [eqGuard_at_int,binOp_shr,Op.shift,hb],.int _ _⟩
      case h_13=>cases h
    · cases h
  · cases h
theorem mA (s:List UInt8):(ByteArray.mk s.toArray).toList=s:=by
  simp [ByteArray.toList_eq]
theorem aES {op : BinOp} {u v r : V} {cu cv : Value} (h : yU op u v = some r) (hu : R x u cu) (hv : R x v cv) (t : TypeId) (X Y : Operand) (w : World) :
    ∃ c,(do eqGuard op t X Y cu cv; binOp op t cu cv:Sem Value).run P w=.ok c w∧R x r c:=by
  unfold yU at h
  split at h
  · rename_i a b
    cases hu; cases hv
    split at h
    case h_1=>cases h; exact ⟨_,by simp only [eqGuard_at_string,binOp,Op.stringOp,mA]; rfl,.bool _⟩
    case h_2=>cases h; exact ⟨_,by simp only [eqGuard_at_string,binOp,Op.stringOp,mA]; rfl,.bool _⟩
    case h_3=>cases h; exact ⟨_,by simp only [eqGuard_at_string,binOp,Op.stringOp,mA]; rfl,.bool _⟩
    case h_4=>
      split at h
      · rename_i hl
        cases h
        refine ⟨.string ⟨(a++b).toArray⟩,?_,.str _⟩
        have h2: ¬ (((ByteArray.mk a.toArray).size+(ByteArray.mk b.toArray).size:Nat):Int) > IntKind.i64.max:=by
          simp [ByteArray.size]; omega
        simp only [eqGuard_at_string,binOp,Op.stringOp]
        simp only [Sem.run_bind,Sem.run_pure,Result.andThen_ok,if_neg h2]
        congr 2
        try (apply ByteArray.ext; simp)
      · cases h
    case h_5=>cases h
  · cases h
theorem aDA {op:BinOp} {u v r:V} {cu cv:Value} (h:wW op u v=some r) (hu:R x u cu) (hv:R x v cv) {t:TypeId} (ht:P.underlying t=some .bool) (X Y:Operand) (w:World):
    ∃ c,(do eqGuard op t X Y cu cv; binOp op t cu cv:Sem Value).run P w=.ok c w∧R x r c:=by
  unfold wW at h
  split at h
  · rename_i a b
    cases hu; cases hv
    split at h
    case h_1=>cases h; exact ⟨_,by simp only [eqGuard_at_bool,Sem.run_bind,Sem.run_pure,Result.andThen_ok,run_eql_bool w t a b ht],.bool _⟩
    case h_2=>cases h; exact ⟨.bool (a != b),by simp only [eqGuard_at_bool,Sem.run_bind,Sem.run_pure,Result.andThen_ok,run_neq_bool w t a b ht]; rfl,.bool _⟩
    case h_3=>cases h
  · cases h
theorem aMe {op:UnOp} {u r:V} {cu:Value} (h:unV op u=some r) (hu:R x u cu) (w:World): ∃ c,(Op.unary op cu).run P w=.ok c w∧R x r c:=by
  unfold unV at h
  split at h
  · cases hu
    split at h
    · cases h; exact ⟨_,by simp [Op.unary,Op.intArith],.int _ _⟩
    · cases h
  · cases hu
    split at h
    · cases h; exact ⟨_,by simp [Op.unary],.bool _⟩
    · cases h
  · cases h
end
end Go.Proofs.YteehaobohaecmaaGreatDoor


namespace Go.Proofs.YteehaobohaecmaaGreatDoor
open Go
section
variable {P:Program} {x:Cx} {T:Nat→V} {a:Act}
theorem fR {t n:Nat} (h:fQ P t=some n) (w:World):(sizeOf t).run P w=.ok n w:=by
  unfold fQ at h
  cases hi:P.info? t with
  |none=>simp [hi] at h
  |some i=>simp [hi] at h; simp [sizeOf,typeInfo,hi,h]
theorem kI {t:Nat} {g:Bool} (h:kS P t=some g) (w:World):(isAgg t).run P w=.ok g w:=by
  unfold kS at h
  cases hi:P.underlying t with
  |none=>simp [hi] at h
  | some d =>
    simp [hi] at h
    subst h
    cases d <;> simp [isAgg,run_underlying hi]
theorem iJ {t e:Nat} (h:YteehaobohaecmaaGreatDoor.elemOf P t=some e):P.underlying t=some (.slice e):=by
  unfold YteehaobohaecmaaGreatDoor.elemOf at h
  split at h
  · cases h; assumption
  · cases h
theorem aI4 {k:IntKind} {u r:V} {cu:Value} (h:aAT k u=some r) (hu:R x u cu) {s t:TypeId} {d:TypeDesc} (hs:P.underlying s=some d) (ht:P.underlying t=some (.int k)) (w:World):
    ∃ c,(convert s t cu).run P w=.ok c w∧R x r c:=by
  unfold aAT at h
  split at h
  · cases hu; cases h
    exact ⟨_,by simp [convert,run_underlying hs,run_underlying ht,Conv.intToInt],.int _ _⟩
  · cases h
theorem okp {H:aP} {id ver:Nat} (h:ok H id ver=true):(H id).own=true∧(H id).ver=ver:=by
  simpa [ok] using h
theorem aM5 {off:Nat} {u r:V} {cu:Value} (h:aEE off u=some r) (hu:R x u cu) {s f:Nat} {fd:Field} (hf:tM P s f=some fd) (ho:fd.offset=off) {n:Nat} (hn:fQ P fd.type=some n) (hn0:n≠0) (w:World):
    ∃ c,(Instr.fieldAt s cu f).run P w=.ok c w∧R x r c:=by
  have hfs: ∃ fs,P.underlying s=some (.struct fs)∧fs[f]?=some fd:=by
    unfold tM at hf
    split at hf
    · exact ⟨_,by assumption,hf⟩
    · cases hf
  obtain ⟨fs,hfs,hfd⟩:=hfs
  have run: ∀ ad:Addr,(Instr.fieldAt s (.pointer (some ad)) f).run P w=.ok (.pointer (some (ad.add off))) w:=fun ad=>by
    simp [Instr.fieldAt,run_underlying hfs,hfd,Instr.sureAddr,fieldPlace,fR hn,hn0,ho]
  unfold aEE at h
  split at h
  · rename_i cells
    cases h
    cases hu with
    | pp _ ad cs hz hcell hr =>
      refine ⟨_,run ad,.pp _ _ (fun j=>cs (off+j)) (fun hne=>?_) (fun j v hj=>?_) (fun j v hj=>?_)⟩
      · rw [fO]; exact hz (by intro e; subst e; simp at hne)
      · rw [kB]; exact hcell (off+j) v (by simpa using hj)
      · exact hr (off+j) v (by simpa using hj)
  · rename_i id ver row o
    cases h
    cases hu with
    | mp _ _ _ _ p hv hh hm =>
      refine ⟨_,run _,.mp _ _ _ _ _ hv (fun h1 h2=>?_) hm⟩
      have hp:=hh h1 h2
      subst hp
      simp [Addr.add_lit,Nat.add_assoc]
  · cases h
theorem sU {cs:Array Value} {j:Nat} (h:j < cs.size):cs[j]?=some (cs.getD j undef):=by
  simp [Array.getD_eq_getD_getElem?,h]
theorem fL : ∀ {q : List Nat} {r s : List V} {b : Bool}, dD q r s = some b → r.length = q.length ∧ s.length = q.length
  | q, r, s, b, h => by
    unfold dD at h
    split at h
    · exact ⟨rfl,rfl⟩
    · split at h
      · obtain ⟨_,g,_⟩:=Option.map_eq_some_iff.1 h
        simp [(fL g).1,(fL g).2]
      · cases h
    · obtain ⟨_,g,_⟩:=Option.map_eq_some_iff.1 h
      simp [(fL g).1,(fL g).2]
    · obtain ⟨_,g,_⟩:=Option.map_eq_some_iff.1 h
      simp [(fL g).1,(fL g).2]
    · cases h
theorem mT {t:TypeId} {k:Nat} (h:lQ P t=some k):kS P t=some false:=by
  unfold lQ at h; unfold kS
  split at h <;> first|(rename_i hu; rw [hu]; rfl)|cases h
theorem lS {t:TypeId} (h:kS P t=some false) {cs:Array Value} {i:Nat} (hi:i < cs.size) (w:World):(Go.part t cs i).run P w=.ok (cs.getD i undef) w:=by
  have e:cs[i]?=some (cs.getD i undef):=sU hi
  generalize cs.getD i undef=v at e ⊢
  simp [Go.part,kI h,e]
theorem xK (w : World) (d : Nat) {t : TypeId} {k : Nat} (hk : lQ P t = some k) {q : List Nat} {r s : List V} {b : Bool} (h : dD (k :: q) r s = some b) :
    ∃ u r' v s' cc c,r=u::r'∧s=v::s'∧dD q r' s'=some c∧b=(cc&&c)∧ ∀ cu cv,R x u cu→R x v cv→(Op.equalIn (d+1) t cu cv).run P w=.ok cc w:=by
  unfold lQ at hk
  unfold dD at h
  split at hk <;> first|(cases hk; done)|skip
  · rename_i hu
    cases hk
    split at h <;> try (rename_i hh; cases hh; done)
    all_goals first
      |cases h; done
      |(rename_i hh _ _; cases hh; done)
      |skip
    · rename_i k a r' k'' c s' hh
      split at h
      · rename_i hk
        subst hk
        obtain ⟨c,g2,rfl⟩:=Option.map_eq_some_iff.1 h
        cases hh
        exact ⟨_,_,_,_,_,c,rfl,rfl,g2,rfl,fun cu cv hu1 hv1=>by cases hu1; cases hv1; exact run_equalIn_int w d _ _ _ _ _ hu⟩
      · cases h
  · rename_i hu
    cases hk
    split at h <;> try (rename_i hh; cases hh; done)
    all_goals first
      |cases h; done
      |(rename_i hh _ _; cases hh; done)
      |skip
    · rename_i a r' c s' hh
      obtain ⟨c,g2,rfl⟩:=Option.map_eq_some_iff.1 h
      cases hh
      exact ⟨_,_,_,_,_,c,rfl,rfl,g2,rfl,fun cu cv hu1 hv1=>by cases hu1; cases hv1; rw [run_equalIn_string w d _ _ _ hu,mA,mA]⟩
  · rename_i hu
    cases hk
    split at h <;> try (rename_i hh; cases hh; done)
    all_goals first
      |cases h; done
      |(rename_i hh _ _; cases hh; done)
      |skip
    · rename_i a r' c s' hh
      obtain ⟨c,g2,rfl⟩:=Option.map_eq_some_iff.1 h
      cases hh
      exact ⟨_,_,_,_,_,c,rfl,rfl,g2,rfl,fun cu cv hu1 hv1=>by cases hu1; cases hv1; exact run_equalIn_bool' w d _ _ _ hu⟩
theorem pD (w:World) (d:Nat) {e:TypeId} {k:Nat} (hk:lQ P e=some k) (xs ys:Array Value): ∀ (n j:Nat) (q:List Nat) (r s:List V) (b:Bool),dD (List.replicate n k++q) r s=some b→
    j+n≤xs.size→j+n≤ys.size→(∀ (i:Nat) (v:V),i < n→r[i]?=some v→R x v (xs.getD (j+i) undef))→(∀ (i:Nat) (v:V),i < n→s[i]?=some v→R x v (ys.getD (j+i) undef))→
    ∃ cc c,(Op.eqItems (d+1) e 1 xs ys (List.range' j n)).run P w=.ok cc w∧n≤r.length∧n≤s.length∧dD q (r.drop n) (s.drop n)=some c∧b=(cc&&c)
  |0,j,q,r,s,b,h,_,_,_,_=>⟨true,b,by simp [Op.eqItems],Nat.zero_le _,Nat.zero_le _,by simpa using h,by simp⟩
  | n + 1, j, q, r, s, b, h, h1, h2, hr, hs => by
    rw [List.replicate_succ,List.cons_append] at h
    obtain ⟨u,r',v,s',cc,c,rfl,rfl,g1,rfl,g2⟩:=xK (x:=x) w d hk h
    obtain ⟨cc2,c2,k1,k2,k3,k4,rfl⟩:=pD w d hk xs ys n (j+1) q r' s' c g1 (by omega) (by omega)
      (fun i v hi hv=>by have:=hr (i+1) v (by omega) (by simpa using hv); rwa [show j+(i+1)=j+1+i from by omega] at this) (fun i v hi hv=>by have:=hs (i+1) v (by omega) (by simpa using hv); rwa [show j+(i+1)=j+1+i from by omega] at this)
    have h3:=g2 _ _ (hr 0 u (by omega) rfl) (hs 0 v (by omega) rfl)
    simp only [Nat.add_zero] at h3
    have ha:=mT hk
    refine ⟨cc&&cc2,c2,?_,by simp only [List.length_cons]; omega,by simp only [List.length_cons]; omega,by simpa using k4,by rw [Bool.and_assoc]⟩
    rw [List.range'_succ]
    unfold Op.eqItems
    simp only [Nat.mul_one,Sem.run_bind,lS ha (show j < xs.size by omega),lS ha (show j < ys.size by omega),Result.andThen_ok,h3]
    cases cc
    · simp
    · simpa using k1
theorem mV {t:TypeId} {n k:Nat} (h:aDv P t=some (n,k)): ∃ e i,P.underlying t=some (.array n e)∧lQ P e=some k∧P.info? e=some i∧P.cellsOf e=1∧fQ P t=some n∧kS P t=some true:=by
  unfold aDv at h
  split at h
  · rename_i n' e hu
    split at h
    · rename_i hc
      rw [Bool.and_eq_true] at hc
      obtain ⟨k',hk,he⟩:=Option.map_eq_some_iff.1 h
      cases he
      have h1:fQ P e=some 1:=by simpa using hc.1
      have h2:fQ P t=some n:=by simpa using hc.2
      unfold fQ at h1
      obtain ⟨i,hi,hs⟩:=Option.map_eq_some_iff.1 h1
      exact ⟨e,i,hu,hk,hi,by unfold Program.cellsOf; rw [hi]; exact hs,h2,by unfold kS; rw [hu]; rfl⟩
    · cases h
  · cases h
theorem aCj {t:TypeId} {n:Nat} (ha:kS P t=some true) (hn:fQ P t=some n) (cs:Array Value) (off:Nat) (w:World):(Go.part t cs off).run P w=.ok (.agg (cs.extract off (off+n))) w:=by
  simp [Go.part,kI ha,fR hn]
theorem aCC {cs:Array Value} {off n i:Nat} (hi:i < n):(cs.extract off (off+n)).getD i undef=cs.getD (off+i) undef:=by
  simp only [Array.getD_eq_getD_getElem?,Array.getElem?_extract]
  split
  · rfl
  · rw [Array.getElem?_eq_none (by omega)]
theorem aBP (w : World) (d : Nat) (xs ys : Array Value) : ∀ (fs : List Field) (i : Nat) (q : List Nat) (r s : List V) (b : Bool), rA P fs i = some q → dD q r s = some b →
    i+r.length=xs.size→i+s.length=ys.size→(∀ (j:Nat) (v:V),r[j]?=some v→R x v (xs.getD (i+j) undef))→(∀ (j:Nat) (v:V),s[j]?=some v→R x v (ys.getD (i+j) undef))→
    (Op.eqFields (d+2) xs ys fs).run P w=.ok b w:=by
  intro fs
  induction fs with
  | nil =>
    intro i q r s b h1 h2 _ _ _ _
    cases h1
    cases r <;> cases s <;> simp [dD] at h2
    subst h2
    simp [Op.eqFields]
  | cons f fs ih =>
    intro i q r s b h1 h2 hx hy hr hs
    simp only [rA] at h1
    split at h1
    rotate_left
    · cases h1
    rename_i hg
    simp only [Bool.and_eq_true,bne_iff_ne,ne_eq,decide_eq_true_eq] at hg
    obtain ⟨hn,ho⟩:=hg
    split at h1
    · rename_i k hk
      obtain ⟨q',g1,rfl⟩:=Option.map_eq_some_iff.1 h1
      obtain ⟨u,r',v,s',cc,c,rfl,rfl,g2,rfl,g3⟩:=xK (x:=x) w (d+1) hk h2
      simp only [List.length_cons] at hx hy
      have h3:=g3 _ _ (hr 0 u rfl) (hs 0 v rfl)
      simp only [Nat.add_zero] at h3
      have h4:=ih (i+1) q' r' s' c g1 g2 (by omega) (by omega) (fun j v hj=>by have:=hr (j+1) v (by simpa using hj); rwa [show i+(j+1)=i+1+j from by omega] at this) (fun j v hj=>by have:=hs (j+1) v (by simpa using hj); rwa [show i+(j+1)=i+1+j from by omega] at this)
      have ha:=mT hk
      unfold Op.eqFields
      simp only [ne_eq,hn,not_false_eq_true,if_true,Sem.run_bind,ho,lS ha (show i < xs.size by omega),lS ha (show i < ys.size by omega),Result.andThen_ok,h3]
      cases cc
      · simp
      · simpa using h4
    · split at h1
      · rename_i p hp
        obtain ⟨n,k⟩:=p
        obtain ⟨q',g1,rfl⟩:=Option.map_eq_some_iff.1 h1
        obtain ⟨e,ti,hu,hk,hi,hc,hn2,ha⟩:=mV hp
        have hlr:=fL h2
        have hle:n≤r.length:=by rw [hlr.1,List.length_append,List.length_replicate]; omega
        have hle2:n≤s.length:=by rw [hlr.2,List.length_append,List.length_replicate]; omega
        obtain ⟨cc,c,k1,_,_,k4,rfl⟩:=pD (x:=x) w d hk (xs.extract i (i+n)) (ys.extract i (i+n)) n 0 q' r s b h2 (by simp; omega) (by simp; omega)
          (fun j v hj hv=>by rw [Nat.zero_add,aCC hj]; exact hr j v hv) (fun j v hj hv=>by rw [Nat.zero_add,aCC hj]; exact hs j v hv)
        have h3:=run_equalIn_array (P:=P) w (d+1) (xs.extract i (i+n)) (ys.extract i (i+n)) hu hi
        rw [hc,List.range_eq_range',k1] at h3
        have h4:=ih (i+n) q' (r.drop n) (s.drop n) c g1 k4 (by simp only [List.length_drop]; omega) (by simp only [List.length_drop]; omega) (fun j v hj=>by have:=hr (n+j) v (by simpa using hj); rwa [show i+(n+j)=i+n+j from by omega] at this) (fun j v hj=>by have:=hs (n+j) v (by simpa using hj); rwa [show i+(n+j)=i+n+j from by omega] at this)
        unfold Op.eqFields
        simp only [ne_eq,hn,not_false_eq_true,if_true,Sem.run_bind,ho,aCj ha hn2,Result.andThen_ok,h3]
        cases cc
        · simp
        · simpa using h4
      · cases h1
theorem vG {q : List Nat} {t : TypeId} {r s : List V} {b : Bool} {xs ys : Array Value} (hq : iF P t = some q) (h : dD q r s = some b) (hu : R x (.agg r) (.agg xs)) (hv : R x (.agg s) (.agg ys)) (w : World) : (Op.equalIn 10000 t (.agg xs) (.agg ys)).run P w = .ok b w ∧ P.eqGuardType P.depth t = false := by
  unfold iF at hq
  cases hu with
  | agg _ xs hs1 hr1 =>
    cases hv with
    | agg _ ys hs2 hr2 =>
      split at hq
      · rename_i fs hfs
        split at hq
        · cases hq
        · rename_i hg
          simp only [Bool.or_eq_true,not_or,Bool.not_eq_true] at hg
          have hf:P.fieldsOf t=fs:=by simp [Program.fieldsOf,hfs]
          have h3:=aBP (P:=P) (x:=x) w 9997 xs ys fs.toList 0 q r s b hq h (by omega) (by omega) (fun j v hj=>by simpa using hr1 j v hj) (fun j v hj=>by simpa using hr2 j v hj)
          have h4:=run_equalIn_struct (P:=P) w 9999 t xs ys (by rw [hf]; exact hfs) hg.1
          rw [hf] at h4
          exact ⟨h4.trans h3,hg.2⟩
      · rename_i hfs
        split at hq
        · cases hq
        · rename_i hg
          obtain ⟨p,hp,rfl⟩:=Option.map_eq_some_iff.1 hq
          obtain ⟨n,k⟩:=p
          obtain ⟨e,ti,hu,hk,hi,hc,hn2,ha⟩:=mV hp
          have hlr:=fL h
          simp only [List.length_replicate] at hlr
          obtain ⟨cc,c,k1,_,_,k4,rfl⟩:=pD (x:=x) w 9998 hk xs ys n 0 [] r s b (by simpa using h) (by omega) (by omega) (fun j v hj hv=>by rw [Nat.zero_add]; exact hr1 j v hv) (fun j v hj hv=>by rw [Nat.zero_add]; exact hr2 j v hv)
          have h3:=run_equalIn_array (P:=P) w 9999 xs ys hu hi
          rw [hc,List.range_eq_range',k1] at h3
          have:c=true:=by
            rw [List.drop_of_length_le (by omega),List.drop_of_length_le (by omega)] at k4
            simpa [dD] using k4.symm
          subst this
          exact ⟨by rw [h3]; simp,by simpa using hg⟩
      · cases hq
theorem zE {neg:Bool} {q:List Nat} {t:TypeId} {u v r:V} {cu cv:Value} (hq:iF P t=some q) (h:aBB neg q u v=some r) (hu:R x u cu) (hv:R x v cv) (X Y:Operand) (w:World):
    ∃ c,(do eqGuard (if neg then .neq else .eql) t X Y cu cv; binOp (if neg then .neq else .eql) t cu cv:Sem Value).run P w=.ok c w∧R x r c:=by
  unfold aBB at h
  split at h
  · rename_i cs ds
    obtain ⟨b,h2,rfl⟩:=Option.map_eq_some_iff.1 h
    obtain ⟨xs,rfl⟩: ∃ xs,cu=.agg xs:=by cases hu with|agg _ xs _ _=>exact ⟨xs,rfl⟩
    obtain ⟨ys,rfl⟩: ∃ ys,cv=.agg ys:=by cases hv with|agg _ ys _ _=>exact ⟨ys,rfl⟩
    obtain ⟨h3,hg⟩:=vG hq h2 hu hv w
    cases neg
    · exact ⟨.bool b,by simp only [Bool.false_eq_true,if_false,Sem.run_bind,run_eqGuard_agg w .eql t X Y xs ys hg,Result.andThen_ok,run_eql_struct,h3],.bool _⟩
    · exact ⟨.bool (!b),by simp only [if_true,Sem.run_bind,run_eqGuard_agg w .neq t X Y xs ys hg,Result.andThen_ok,run_neq_struct,h3],.bool _⟩
  · cases h
theorem aDj {agg : Bool} {off n : Nat} {cells : List V} {cs : Array Value} {r : V} (h : yQ agg off n (.agg cells) = some r) (hs : cs.size = cells.length)
    (hr: ∀ (j:Nat) (v:V),cells[j]?=some v→R x v (cs.getD j undef)) {t:Nat} (hg:kS P t=some agg) (hn:fQ P t=some n) (hg1: ¬ (agg=false∧n≠1)) (w:World):
    ∃ c,(Go.part t cs off).run P w=.ok c w∧R x r c:=by
  unfold yQ at h
  simp only at h
  split at h
  · rename_i hle
    cases agg with
    | true =>
      simp at h
      subst h
      refine ⟨.agg (cs.extract off (off+n)),by simp [Go.part,kI hg,fR hn],.agg _ _ ?_ fun j v hj=>?_⟩
      · simp; omega
      · have hj':j < n∧cells[off+j]?=some v:=by
          have:=hj
          simp only [List.getElem?_take,List.getElem?_drop] at this
          split at this
          · exact ⟨by assumption,this⟩
          · cases this
        have:=hr (off+j) v hj'.2
        have e:(cs.extract off (off+n)).getD j undef=cs.getD (off+j) undef:=by
          simp only [Array.getD_eq_getD_getElem?,Array.getElem?_extract]
          rw [if_pos (by omega)]
        rw [e]; exact this
    | false =>
      simp at h
      have hn1:n=1:=by simpa using hg1
      subst hn1
      have hlt:off < cs.size:=by omega
      refine ⟨cs.getD off undef,?_,hr off r h⟩
      have e:=sU hlt
      simp only [Go.part,Sem.run_bind,kI hg,Result.andThen_ok,Bool.false_eq_true,if_false,e]
      rfl
  · cases h
theorem aLf {esz : Nat} {u i r : V} {cu ci : Value} (h : wB x.H esz u i = some r) (hu : R x u cu) (hi : R x i ci) {t e : Nat} (ht : YteehaobohaecmaaGreatDoor.elemOf P t = some e) (hn : fQ P e = some esz) (w : World) :
    ∃ c,(Instr.indexAt t cu ci).run P w=.ok c w∧R x r c:=by
  have run: ∀ (b:Option Addr) (len cap:Nat) (k:IntKind) (n:Int) (ad:Addr),b=some ad→0≤n→n < len→(Instr.indexAt t (.slice b len cap) (.int k n)).run P w=.ok (.pointer (some (ad.add (n.toNat*esz)))) w:=by
    intro b len cap k n ad hb h0 h1
    subst hb
    simp [Instr.indexAt,run_underlying (iJ ht),asIntOf,h0,h1,fR hn]
  unfold wB at h
  split at h
  · rename_i rows k n
    cases hi
    simp only [aFr] at h
    split at h
    · rename_i h0
      cases hrow:rows[n.toNat]? with
      |none=>simp [hrow] at h
      | some row =>
        simp [hrow] at h
        obtain ⟨hlen,rfl⟩:=h
        have hlt:n.toNat < rows.length:=(List.getElem?_eq_some_iff.1 hrow).1
        cases hu with
        |slnil=>simp at hrow
        | sl _ ad cap sz cs hc hm hz hsz hcell hr =>
          have hs:sz=esz:=by rw [← hlen]; exact (hsz row (List.mem_of_getElem? hrow)).symm
          subst hs
          refine ⟨_,run _ _ _ _ _ ad rfl h0 (by omega),.pp _ _ (fun j=>cs (n.toNat*sz+j)) (fun _=>?_) (fun j v hj=>?_) (fun j v hj=>?_)⟩
          · rw [fO]; exact hz (by intro e; subst e; simp at hrow)
          · rw [kB]; exact hcell _ _ _ _ hrow hj
          · exact hr _ _ _ _ hrow hj
    · simp at h
  · rename_i id ver off len k n
    cases hi
    split at h
    · rename_i hok
      split at h
      · rename_i hsz
        split at h
        · rename_i hin
          cases h
          obtain ⟨h1,h2⟩:=okp hok
          cases hu with
          | ms _ _ _ _ b m cap hv hh hm =>
            obtain ⟨e1,e2,e3,e4,e5,e6⟩:=hh h2 (eL h1)
            obtain ⟨e7,e8⟩:=e5 h1
            subst e1
            refine ⟨_,run _ _ _ _ _ _ e7 hin.1 hin.2,.mp _ _ _ _ _ hv (fun _ _=>?_) fun e ho=>hm e (eL ho)⟩
            rw [Addr.add_lit,hsz,Nat.add_mul,Nat.add_zero]
        · cases h
      · cases h
    · cases h
  · cases h
theorem aHv (s:List UInt8) (i:Nat):(ByteArray.mk s.toArray)[i]?=s[i]?:=by
  by_cases h:i < s.length
  · rw [getElem?_pos (ByteArray.mk s.toArray) i (by simpa [ByteArray.size] using h),List.getElem?_eq_getElem h]
    rfl
  · rw [getElem?_neg (ByteArray.mk s.toArray) i (by simpa [ByteArray.size] using h),List.getElem?_eq_none (by omega)]
theorem aH5 {agg : Bool} {n len : Nat} {u i r : V} {cu ci : Value} (h : aJJ agg n len u i = some r) (hu : R x u cu) (hi : R x i ci) {t e : Nat} (ht : P.underlying t = some (.array len e)) (hg : kS P e = some agg) (hn : fQ P e = some n) (hg1 : ¬ (agg = false ∧ n ≠ 1)) (w : World) :
    ∃ c,(Instr.index t cu ci).run P w=.ok c w∧R x r c:=by
  unfold aJJ at h
  split at h
  · rename_i cells kd k
    split at h
    · rename_i hk
      cases hi
      cases hu with
      | agg _ cs hs hr =>
        obtain ⟨c,h1,h2⟩:=aDj (P:=P) h hs hr hg hn hg1 w
        refine ⟨c,?_,h2⟩
        simp only [Instr.index,asIntOf,Sem.run_bind,Sem.run_pure,Result.andThen_ok,run_underlying ht,hk,and_self,if_true,fR hn,h1]
    · cases h
  · cases h
theorem aH8 {n len : Nat} {u i r : V} {cu ci : Value} (h : aF5 n len u i = some r) (hu : R x u cu) (hi : R x i ci) {t e : Nat} (ht : P.underlying t = some (.array len e)) (hn : fQ P e = some n) (w : World) :
    ∃ c,(Instr.indexAt t cu ci).run P w=.ok c w∧R x r c:=by
  unfold aF5 at h
  split at h
  · rename_i kd k
    split at h
    · rename_i hk
      cases hi
      have run: ∀ ad:Addr,(Instr.indexAt t (.pointer (some ad)) (.int kd k)).run P w=.ok (.pointer (some (ad.add (k.toNat*n)))) w:=fun ad=>by
        simp [Instr.indexAt,asIntOf,run_underlying ht,Instr.sureAddr,fR hn,hk.1,hk.2]
      generalize k.toNat*n=off at h run
      unfold aEE at h
      split at h
      · rename_i cells
        cases h
        cases hu with
        | pp _ ad cs hz hcell hr =>
          refine ⟨_,run ad,.pp _ _ (fun j=>cs (off+j)) (fun hne=>?_) (fun j v hj=>?_) (fun j v hj=>?_)⟩
          · rw [fO]; exact hz (by intro e; subst e; simp at hne)
          · rw [kB]; exact hcell (off+j) v (by simpa using hj)
          · exact hr (off+j) v (by simpa using hj)
      · rename_i id ver row o
        cases h
        cases hu with
        | mp _ _ _ _ p hv hh hm =>
          refine ⟨_,run _,.mp _ _ _ _ _ hv (fun h1 h2=>?_) hm⟩
          have hp:=hh h1 h2
          subst hp
          simp [Addr.add_lit,Nat.add_assoc]
      · cases h
    · cases h
  · cases h
theorem aKh {u i r : V} {cu ci : Value} (h : aJm u i = some r) (hu : R x u cu) (hi : R x i ci) {t : Nat} (ht : P.underlying t = some .string) (w : World) :
    ∃ c,(Instr.index t cu ci).run P w=.ok c w∧R x r c:=by
  unfold aJm at h
  split at h
  · rename_i s k n
    cases hu; cases hi
    split at h
    · rename_i h0
      cases hb:s[n.toNat]? with
      |none=>simp [hb] at h
      | some b =>
        simp [hb] at h
        subst h
        exact ⟨_,by simp [Instr.index,asIntOf,run_underlying ht,h0,aHv,hb],.int _ _⟩
    · cases h
  · cases h
theorem aLR {i:Nat} {u r:V} {cu:Value} (h:aL2 i u=some r) (hu:R x u cu) (w:World): ∃ c,(Instr.extract cu i).run P w=.ok c w∧R x r c:=by
  unfold aL2 at h
  split at h
  · rename_i vs
    cases hu with
    | tup _ cs hs hr =>
      have hlt:i < cs.size:=by have:=(List.getElem?_eq_some_iff.1 h).1; omega
      refine ⟨cs.getD i undef,?_,hr i r h⟩
      have e:=sU hlt
      simp only [Instr.extract,e]
      rfl
  · cases h
theorem aMu {u r : V} {cu : Value} (h : aC8 x.H u = some r) (hu : R x u cu) {t ty e : Nat} (he : P.underlying t = some (.slice e)) (w : World) :
    ∃ c,(Builtin.len_ #[t] ty #[cu]).run P w=.ok c w∧R x r c:=by
  unfold aC8 at h
  split at h
  · rename_i rows
    cases h
    cases hu with
    |slnil=>exact ⟨_,by simp [Builtin.len_,run_underlying he,goInt],.int _ _⟩
    |sl=>exact ⟨_,by simp [Builtin.len_,run_underlying he,goInt],.int _ _⟩
  · cases h; cases hu
    exact ⟨_,by simp [Builtin.len_,run_underlying he,goInt],.int _ _⟩
  · rename_i id ver off len
    split at h
    · rename_i hok
      simp at hok
      cases h
      cases hu with
      | ms _ _ _ _ b m cap hv hh hm =>
        obtain ⟨e1,_⟩:=hh hok.2 hok.1
        subst e1
        exact ⟨_,by simp [Builtin.len_,run_underlying he,goInt],.int _ _⟩
    · cases h
  · cases h
theorem oX: ∀ {rows:List (List V)} {s:List UInt8},tQ rows=some s→ ∃ ns:List Int,rows=ns.map (fun n=>[V.int .u8 n])∧s=ns.map fun n=>UInt8.ofNat n.toNat
  |[],s,h=>by cases h; exact ⟨[],rfl,rfl⟩
  |[]::r,s,h=>by cases h
  | [.int .u8 n] :: r, s, h => by
    simp only [tQ,Option.map_eq_some_iff] at h
    obtain ⟨s',h1,rfl⟩:=h
    obtain ⟨ns,h2,h3⟩:=oX h1
    exact ⟨n::ns,by simp [h2],by simp [h3]⟩
  | [v] :: r, s, h => by
    unfold tQ at h
    split at h
    · rename_i e; cases e
    · rename_i n r' e
      cases e
      simp only [Option.map_eq_some_iff] at h
      obtain ⟨s',h1,rfl⟩:=h
      obtain ⟨ns,h2,h3⟩:=oX h1
      exact ⟨n::ns,by simp [h2],by simp [h3]⟩
    · cases h
  |(u::v::l)::r,s,h=>by simp [tQ] at h
theorem aPp {v:Value} {u:V} (h:aOV v=some u):R x u v:=by
  unfold aOV at h
  split at h
  · cases h; exact .int _ _
  · cases h; exact .bool _
  · cases h
theorem aMy {t : TypeId} {u r : V} {cu : Value} (h : aPP t u = some r) (hu : R x u cu) (ht : ∃ fs, P.underlying t = some (.struct fs)) (t0 : TypeId) (w : World) :
    ∃ c,(Instr.typeAssert cu t0 t true).run P w=.ok c w∧R x r c:=by
  obtain ⟨fs,ht⟩:=ht
  unfold aPP at h
  split at h
  · rename_i t' cs
    split at h
    · rename_i e
      subst e
      obtain ⟨vs,h1,rfl⟩:=Option.map_eq_some_iff.1 h
      cases hu
      obtain ⟨h2,h3⟩:=gF h1
      refine ⟨_,by simp [Instr.typeAssert,run_underlying ht]; rfl,?_⟩
      refine .tup _ _ (by simp) fun j v hj=>?_
      cases j with
      | zero =>
        simp at hj; subst hj
        refine .agg _ _ (by simpa using h2.symm) fun j v hj=>?_
        obtain ⟨p,hp,hq⟩:=h3 j v hj
        have:=aPp (x:=x) hq
        rw [Array.getElem?_toList] at hp
        simpa [Array.getD_eq_getD_getElem?,hp] using this
      | succ j => cases j with
        |zero=>simp at hj; subst hj; exact .bool _
        |succ j=>simp at hj
    · cases h
  · cases h
theorem aIF {u r : V} {cu : Value} (h : aJA u = some r) (hu : R x u cu) {s t e : TypeId} (hs : P.underlying s = some (.slice e)) (he : P.underlying e = some (.int .u8)) (ht : P.underlying t = some .string) (w : World) (hw : x.w = w) :
    ∃ c,(convert s t cu).run P w=.ok c w∧R x r c:=by
  subst hw
  unfold aJA at h
  split at h
  · rename_i rows
    obtain ⟨str,hb,rfl⟩:=Option.map_eq_some_iff.1 h
    obtain ⟨ns,h2,h3⟩:=oX hb
    subst h3
    cases hu with
    | slnil =>
      have e:ns=[]:=by cases ns with
        |nil=>rfl
        |cons n l=>simp at h2
      subst e
      exact ⟨_,run_convert_bytes_nil x.w s e hs he 0 0 t ht,.str []⟩
    | sl _ a cap sz cs hc hm hz hsz hcell hh =>
      have hl:rows.length=ns.length:=by rw [h2]; simp
      have hrow: ∀ i n,ns[i]?=some n→rows[i]?=some [V.int .u8 n]:=fun i n hi=>by rw [h2,List.getElem?_map,hi]; rfl
      have hsz1: ∀ i n,ns[i]?=some n→sz=1:=fun i n hi=>by
        have:=hsz _ (List.mem_of_getElem? (hrow i n hi)); simpa using this.symm
      have hload:(loadCells a rows.length).run P x.w=.ok (ns.map (Value.int .u8)).toArray x.w:=by
        have:=run_loadCells_list (P:=P) x.w a (ns.map (Value.int .u8)) (fun j v hj=>by
          rw [List.getElem?_map] at hj
          obtain ⟨n,hn,rfl⟩:=Option.map_eq_some_iff.1 hj
          have e1:=hsz1 j n hn
          have h5:=hcell j _ 0 _ (hrow j n hn) rfl
          have h6:=hh j _ 0 _ (hrow j n hn) rfl
          rw [e1] at h5 h6
          simp only [Nat.mul_one,Nat.add_zero] at h5 h6
          rw [h5]
          generalize cs j=cv at h6
          cases h6; rfl)
        simpa [hl] using this
      refine ⟨_,by rw [run_convert_bytes_string x.w s t e _ _ cap hs he ht,run_bytesToString x.w _ _ cap ns hload,foldl_push_bytes],?_⟩
      have e2:(⟨ByteArray.empty.data++(ns.map fun n=>UInt8.ofNat n.toNat).toArray⟩:ByteArray)=⟨(ns.map fun n=>UInt8.ofNat n.toNat).toArray⟩:=by
        simp [ByteArray.empty,ByteArray.emptyWithCapacity]; rfl
      rw [e2]
      exact .str _
  · cases h; cases hu
    exact ⟨_,run_convert_bytes_nil x.w s e hs he 0 0 t ht,.str []⟩
  · cases h
theorem aBI {v:V} {c d:Value} (h:aME v=some d) (hr:R x v c):c=d:=by
  cases hr <;> simp only [aME] at h <;> first|(cases h; rfl)|(cases h; done)
theorem aOL {v:V} {c d:Value} (h:aPn v=some d) (hr:R x v c):c=d:=by
  cases hr with
  | agg cells cs hs hh =>
    simp only [aPn] at h
    obtain ⟨l,h1,rfl⟩:=Option.map_eq_some_iff.1 h
    obtain ⟨g1,g2⟩:=gF h1
    congr 1
    apply Array.ext
    · simp [hs,g1]
    · intro i hi1 hi2
      have hil:i < l.length:=by simpa using hi2
      obtain ⟨v,hv,hvr⟩:=g2 i l[i] (List.getElem?_eq_getElem hil)
      have h3:=hh i v hv
      have h4:=aBI hvr h3
      rw [Array.getD_eq_getD_getElem?,Array.getElem?_eq_getElem hi1] at h4
      simpa using h4
  |int k n=>exact aBI (x:=x) (v:=.int k n) h (.int k n)
  |bool b=>exact aBI (x:=x) (v:=.bool b) h (.bool b)
  |str s=>exact aBI (x:=x) (v:=.str s) h (.str s)
  |_=>cases h
theorem aId {u r:V} {cu:Value} (h:aGB u=some r) (hu:R x u cu) {t ty:Nat} (he:P.underlying t=some .string) (w:World):
    ∃ c,(Builtin.len_ #[t] ty #[cu]).run P w=.ok c w∧R x r c:=by
  unfold aGB at h
  split at h
  · cases h; cases hu
    exact ⟨_,by simp [Builtin.len_,run_underlying he,goInt]; rfl,.int _ _⟩
  · cases h
end
end Go.Proofs.YteehaobohaecmaaGreatDoor


namespace Go.Proofs.YteehaobohaecmaaGreatDoor
open Go
section
variable {P:Program} {x:Cx} {T:Nat→V} {a:Act}
theorem aRT {v:V} {c:Value} {n:Nat} (h:aGW v=some n) (hr:R x v c): ∃ k i,c=.int k i∧0≤i∧i.toNat=n:=by
  unfold aGW at h
  split at h
  · cases hr
    split at h
    · cases h; exact ⟨_,_,rfl,by assumption,rfl⟩
    · cases h
  · cases h
def OB (d n:Nat) (c:Option Value):Prop:=(c=none∧n=d)∨ ∃ k i,c=some (.int k i)∧0≤i∧i.toNat=n
theorem aGH {d n:Nat} {o:Option V} {c:Option Value} (h:fN d o=some n) (hs: ∀ v,o=some v→ ∃ e,c=some e∧R x v e) (hn:o=none→c=none):OB d n c:=by
  cases o with
  |none=>simp [fN] at h; exact .inl ⟨hn rfl,h.symm⟩
  | some v =>
    obtain ⟨e,he,hr⟩:=hs v rfl
    obtain ⟨k,i,rfl,h0,h1⟩:=aRT h hr
    exact .inr ⟨k,i,he,h0,h1⟩
theorem zQ (s:Bool) {l h len cap:Nat} {clo chi:Option Value} (hl:OB 0 l clo) (hh:OB len h chi)
    (h1:l≤h) (h2:h≤cap) (w:World):(Instr.sliceBounds s len cap clo chi none).run P w=.ok (l,h,cap) w:=by
  rcases hl with ⟨rfl,rfl⟩|⟨k,i,rfl,h3,h4⟩ <;> rcases hh with ⟨rfl,rfl⟩|⟨k',i',rfl,h5,h6⟩
  · simp [Instr.sliceBounds]
  · have:i'≤cap:=by omega
    simp [Instr.sliceBounds,Instr.sliceBound,asIntOf,h5,this,h6]
  · have:i≤h:=by omega
    simp [Instr.sliceBounds,Instr.sliceBound,asIntOf,h3,this,h4]
  · have e1:i'≤cap:=by omega
    have e2:i≤h:=by omega
    simp [Instr.sliceBounds,Instr.sliceBound,asIntOf,h3,h4,h5,h6,e1,e2]
theorem aHa {esz : Nat} {u r : V} {cu : Value} {lo hi : Option V} {clo chi : Option Value} (h : oQ x.H esz lo hi u = some r) (hu : R x u cu)
    (hlo: ∀ v,lo=some v→ ∃ c,clo=some c∧R x v c) (hlo':lo=none→clo=none) (hhi: ∀ v,hi=some v→ ∃ c,chi=some c∧R x v c) (hhi':hi=none→chi=none)
    {t e:Nat} (ht:P.underlying t=some (.slice e)) (hn:fQ P e=some esz) (w:World):
    ∃ c,(Instr.sliceAt t cu clo chi none).run P w=.ok c w∧R x r c:=by
  have run: ∀ (b:Option Addr) (len cap l h:Nat),fN 0 lo=some l→fN len hi=some h→l≤h→h≤cap→
      (Instr.sliceAt t (.slice b len cap) clo chi none).run P w=.ok (.slice (if cap=l then b else b.map (·.add (l*esz))) (h - l) (cap - l)) w:=by
    intro b len cap l h hl hh h1 h2
    have hb:=zQ (P:=P) true (cap:=cap) (aGH hl hlo hlo') (aGH hh hhi hhi') h1 h2 w
    simp only [Instr.sliceAt,Sem.run_bind,run_underlying ht,Result.andThen_ok,Instr.slice,hb,fR hn,Sem.run_pure]
  unfold oQ at h
  split at h
  · -- nilsl
    cases hu
    split at h
    · rename_i hh
      split at h
      · rename_i hl
        cases h
        exact ⟨_,run none 0 0 0 0 hl hh (Nat.le_refl _) (Nat.le_refl _),by simpa using R.nilsl⟩
      · cases h
    · cases h
  · rename_i rows
    cases hh:fN rows.length hi with
    |none=>simp [hh] at h
    | some hb =>
      cases hl:fN 0 lo with
      |none=>simp [hh,hl] at h
      | some l =>
        simp only [hh,hl,Option.bind_some] at h
        split at h
        · rename_i h1
          split at h
          · rename_i h2
            split at h
            · rename_i h3
              cases h
              cases hu with
              | slnil =>
                have hb0:hb=0:=by simpa using h2
                subst hb0
                have hl0:l=0:=by omega
                subst hl0
                exact ⟨_,run none 0 0 0 0 hl hh (Nat.le_refl _) (Nat.le_refl _),by simpa using R.slnil⟩
              | sl _ ad cap sz cs hc hm hz hsz hcell hr =>
                refine ⟨_,run (some ad) rows.length cap l hb hl hh h1 (by omega),?_⟩
                have hlen:((rows.take hb).drop l).length=hb - l:=by simp; omega
                have hidx: ∀ (r:Nat) (row:List V),((rows.take hb).drop l)[r]?=some row→rows[l+r]?=some row∧l+r < hb:=by
                  intro r row hr
                  simp only [List.getElem?_drop,List.getElem?_take] at hr
                  split at hr
                  · exact ⟨hr,by assumption⟩
                  · cases hr
                by_cases hcl:cap=l
                · have he:(rows.take hb).drop l=[]:=by apply List.eq_nil_of_length_eq_zero; omega
                  rw [if_pos hcl,he]
                  have e1:hb - l=([]:List (List V)).length:=by simp; omega
                  rw [e1]
                  exact .sl [] ad _ 0 (fun _=>undef) (Nat.zero_le _) (by omega) (fun h=>absurd rfl h) (fun r hr=>by simp at hr) (fun r row j v hr=>by simp at hr) (fun r row j v hr=>by simp at hr)
                · rw [if_neg hcl,← hlen]
                  have hall: ∀ r∈rows,r.length=esz:=by simpa using h3
                  refine .sl _ _ _ esz (fun k=>cs (l*sz+k)) (by omega) (by omega) (fun hne=>?_) (fun r hr=>hall r (List.mem_of_mem_take (List.mem_of_mem_drop hr))) (fun r row j v hr hj=>?_) (fun r row j v hr hj=>?_)
                  · simp only [fO]
                    exact hz (by intro e; subst e; simp at hne)
                  · obtain ⟨h5,h6⟩:=hidx r row hr
                    have hs:sz=esz:=by rw [← hsz row (List.mem_of_getElem? h5)]; exact hall row (List.mem_of_getElem? h5)
                    subst hs
                    have:=hcell _ _ _ _ h5 hj
                    rw [kB]
                    rw [show l*sz+(r*sz+j)=(l+r)*sz+j by rw [Nat.add_mul]; omega]
                    exact this
                  · obtain ⟨h5,h6⟩:=hidx r row hr
                    have hs:sz=esz:=by rw [← hsz row (List.mem_of_getElem? h5)]; exact hall row (List.mem_of_getElem? h5)
                    subst hs
                    have h7 := ‹∀ (r : Nat) (row : List V) (j : Nat) (v : V), rows[r]? = some row → row[j]? = some v → R x v (cs (r * sz + j))› _ _ _ _ h5 hj
                    show R x v (cs (l*sz+(r*sz+j)))
                    rw [show l*sz+(r*sz+j)=(l+r)*sz+j by rw [Nat.add_mul]; omega]
                    exact h7
            · cases h
          · cases h
        · cases h
  · rename_i id ver off len
    cases hh:fN len hi with
    |none=>simp [hh] at h
    | some hb =>
      cases hl:fN 0 lo with
      |none=>simp [hh,hl] at h
      | some l =>
        simp only [hh,hl,Option.bind_some] at h
        split at h
        · rename_i hok
          obtain ⟨ho,hv'⟩:=okp hok
          split at h
          · rename_i hs
            split at h
            · rename_i h1
              split at h
              · rename_i h2
                cases hu with
                | ms _ _ _ _ b m cap hv hh' hm =>
                  obtain ⟨e1,e2,e3,e4,e5,e6⟩:=hh' hv' (eL ho)
                  obtain ⟨e7,e8⟩:=e5 ho
                  subst e1
                  refine ⟨_,run b _ cap l hb hl hh h1 (by omega),?_⟩
                  split at h
                  · rename_i h3
                    cases h
                    rw [if_neg (by omega)]
                    refine .ms _ _ _ _ _ _ _ hv (fun _ _=>⟨rfl,by omega,by omega,by omega,fun _=>⟨?_,?_⟩,fun h=>by rw [ho] at h; cases h⟩) hm
                    · rw [e7,hs]; simp [Addr.add_lit,Nat.add_mul]
                    · rw [← e8]; congr 1; omega
                  · rename_i h3
                    have hlh:l=hb:=by omega
                    subst hlh
                    split at h
                    · rename_i h4
                      cases h
                      subst h4
                      have e9:(if cap=0 then b else b.map (·.add (0*esz)))=b:=by
                        split
                        · rfl
                        · rw [e7]; simp [Addr.add_zero']
                      rw [e9]
                      exact .ms _ _ _ _ _ _ _ hv (fun _ _=>⟨by omega,by omega,by omega,by omega,fun _=>⟨e7,by rw [← e8]; simp⟩,fun h=>by rw [ho] at h; cases h⟩) hm
                    · cases h
                      have hb': ∃ ad,(if cap=l then b else b.map (·.add (l*esz)))=some ad:=by rw [e7]; split <;> exact ⟨_,rfl⟩
                      obtain ⟨ad,e10⟩:=hb'
                      rw [e10]
                      have e1:l - l=([]:List (List V)).length:=by simp
                      rw [e1]
                      exact .sl [] ad _ 0 (fun _=>undef) (Nat.zero_le _) (by omega) (fun h=>absurd rfl h) (fun r hr=>by simp at hr) (fun r row j v hr=>by simp at hr) (fun r row j v hr=>by simp at hr)
              · cases h
            · cases h
          · cases h
        · cases h
  · cases h
theorem aEt (s:List UInt8) (l h:Nat):(ByteArray.mk s.toArray).extract l h=ByteArray.mk ((s.take h).drop l).toArray:=by
  apply ByteArray.ext
  rw [ByteArray.data_extract]
  simp [List.take_drop]
  rcases Nat.le_total l h with h1|h1
  · rw [show l+(h - l)=h by omega]
  · rw [show l+(h - l)=l by omega,List.drop_eq_nil_of_le (by simp; omega),List.drop_eq_nil_of_le (by simp; omega)]
theorem aE5 {u r : V} {cu : Value} {lo hi : Option V} {clo chi : Option Value} (h : aBU lo hi u = some r) (hu : R x u cu)
    (hlo: ∀ v,lo=some v→ ∃ c,clo=some c∧R x v c) (hlo':lo=none→clo=none) (hhi: ∀ v,hi=some v→ ∃ c,chi=some c∧R x v c) (hhi':hi=none→chi=none)
    {t:Nat} (ht:P.underlying t=some .string) (w:World):
    ∃ c,(Instr.sliceAt t cu clo chi none).run P w=.ok c w∧R x r c:=by
  unfold aBU at h
  split at h
  · rename_i s
    cases hu
    cases hh:fN s.length hi with
    |none=>simp [hh] at h
    | some hb =>
      cases hl:fN 0 lo with
      |none=>simp [hh,hl] at h
      | some l =>
        simp only [hh,hl,Option.bind_some] at h
        split at h
        · rename_i h1
          split at h
          · rename_i h2
            cases h
            have hsz:(ByteArray.mk s.toArray).size=s.length:=by simp [ByteArray.size]
            have hb':=zQ (P:=P) false (len:=s.length) (cap:=s.length) (aGH hl hlo hlo') (aGH hh hhi hhi') h1 h2 w
            refine ⟨_,?_,.str _⟩
            simp only [Instr.sliceAt,Sem.run_bind,run_underlying ht,Result.andThen_ok,Instr.slice,hsz,Option.isSome_none,Bool.false_eq_true,if_false,Sem.run_pure,hb',aEt]
          · cases h
        · cases h
  · cases h
end
end Go.Proofs.YteehaobohaecmaaGreatDoor


namespace Go.Proofs.YteehaobohaecmaaGreatDoor
open Go
section
variable {P:Program} {x:Cx} {T:Nat→V} {a:Act}
theorem gH {rows:List (List V)} {sz n:Nat} (hsz: ∀ r∈rows,r.length=sz) (hfit:rows.length*sz≤n) {r j:Nat} {row:List V} {v:V} (hr:rows[r]?=some row) (hj:row[j]?=some v):
    r*sz+j < n∧r < rows.length∧j < sz:=by
  have h1:=(List.getElem?_eq_some_iff.1 hr).1
  have h2:=(List.getElem?_eq_some_iff.1 hj).1
  rw [hsz row (List.mem_of_getElem? hr)] at h2
  have h3:(r+1)*sz≤rows.length*sz:=Nat.mul_le_mul_right _ h1
  rw [Nat.add_mul] at h3
  exact ⟨by omega,h1,h2⟩
theorem hC {x:Cx} {id:Nat} {cc:Array Value} {ty:TypeId} (hcc:x.w.heap[x.σ id]?=some (.cells cc ty (0,0))) {k:Nat} (hk:k < cc.size):x.w.cell? ⟨x.σ id,k,none⟩=some (cc.getD k undef):=by
  simp only [World.cell?,hcc,Option.isSome_none,Bool.false_eq_true,if_false]
  exact sU hk
theorem aAN (hx : Inv x) {u : V} {cu : Value} {cs : List V} (h : ptr x.H u = some cs) (hu : R x u cu) :
    ∃ (ad:Addr) (f:Nat→Value),cu=.pointer (some ad)∧ ∀ (j:Nat) (v:V),cs[j]?=some v→x.w.cell? (ad.add j)=some (f j)∧R x v (f j):=by
  unfold ptr at h
  split at h
  · rename_i cells
    cases h
    cases hu with
    |pp _ ad f hz hcell hr=>exact ⟨ad,f,rfl,fun j v hj=>⟨hcell j v hj,hr j v hj⟩⟩
  · rename_i id ver row off
    split at h
    · rename_i hok
      obtain ⟨ho,hv⟩:=okp hok
      cases hr:(x.H id).rows[row]? with
      |none=>simp [hr] at h
      | some r =>
        simp [hr] at h
        subst h
        cases hu with
        | mp _ _ _ _ p hv' hh hm =>
          have:=hh hv ho
          subst this
          obtain ⟨cc,h1,h2,h3,h4⟩:=hx.cel id ho (hm hv ho)
          refine ⟨_,fun j=>cc.getD (row*(x.H id).sz+(off+j)) undef,rfl,fun j v hj=>?_⟩
          have hj':r[off+j]?=some v:=by simpa using hj
          refine ⟨?_,h4 row r (off+j) v hr hj'⟩
          obtain ⟨h5,_⟩:=gH h2 h3 hr hj'
          rw [Addr.add_lit,Nat.add_assoc]
          exact hC h1 h5
    · cases h
  · cases h
theorem aCM (hx : Inv x) {agg : Bool} {n : Nat} {u r : V} {cu : Value} (h : (ptr x.H u).bind (ldV agg n) = some r) (hu : R x u cu) {t : Nat} (hg : kS P t = some agg) (hn : fQ P t = some n) (hg1 : ¬ (agg = false ∧ n ≠ 1)) :
    ∃ c,(Instr.loadAt t cu).run P x.w=.ok c x.w∧R x r c:=by
  cases hp:ptr x.H u with
  |none=>simp [hp] at h
  | some cs =>
    simp only [hp,Option.bind_some] at h
    obtain ⟨ad,f,rfl,hf⟩:=aAN hx hp hu
    unfold ldV at h
    split at h
    · rename_i hle
      split at h
      · cases agg with
        | true =>
          simp at h
          subst h
          have hl:=run_loadCells (P:=P) x.w ad n f (fun j hj=>(hf j cs[j] (List.getElem?_eq_getElem (by omega))).1)
          refine ⟨.agg ((List.range n).map f).toArray,by simp only [Instr.loadAt,Instr.sureAddr,loadVar,Sem.run_bind,Sem.run_pure,Result.andThen_ok,kI hg,if_true,fR hn,hl],.agg _ _ (by simp; omega) fun j v hj=>?_⟩
          have hj2:j < n∧cs[j]?=some v:=by
            simp only [List.getElem?_take] at hj
            split at hj
            · exact ⟨by assumption,hj⟩
            · cases hj
          have e:((List.range n).map f).toArray.getD j undef=f j:=by
            simp [hj2.1]
          rw [e]
          exact (hf j v hj2.2).2
        | false =>
          simp at h
          have hn1:n=1:=by simpa using hg1
          have h0:cs[0]?=some r:=by cases cs <;> simp_all
          obtain ⟨h1,h2⟩:=hf 0 r h0
          rw [Addr.add_zero'] at h1
          refine ⟨f 0,?_,h2⟩
          simp only [Instr.loadAt,Instr.sureAddr,loadVar,Sem.run_bind,Sem.run_pure,Result.andThen_ok,kI hg,Bool.false_eq_true,if_false,run_load,h1]
      · cases h
    · cases h
theorem sH (r:List V) (o:Nat) (vs:List V):(jX r o vs).length=r.length:=by
  induction vs generalizing r o with
  |nil=>rfl
  |cons v vs ih=>simp [jX,ih]
theorem aAm (vs : List V) : ∀ (r : List V) (o : Nat), o + vs.length ≤ r.length → ∀ j, (jX r o vs)[j]? = if o ≤ j ∧ j < o + vs.length then vs[j - o]? else r[j]? := by
  induction vs with
  |nil=>intro r o _ j; simp [jX]; intro h1 h2; omega
  | cons v vs ih =>
    intro r o h j
    simp only [List.length_cons] at h
    simp only [jX]
    rw [ih _ _ (by simp; omega) j]
    by_cases h1:o+1≤j∧j < o+1+vs.length
    · rw [if_pos h1,if_pos (by simp; omega)]
      rw [show j - o=(j - (o+1))+1 by omega]
      simp
    · rw [if_neg h1]
      by_cases h2:j=o
      · subst h2
        rw [if_pos (by simp),List.getElem?_set_self (by omega)]
        simp
      · rw [if_neg (by simp; omega),List.getElem?_set_ne (by omega)]
theorem wR {cur:Array Value} {o:Nat} {vs:List Value} (h:o+vs.length≤cur.size) (j:Nat):
    ((cur.toList.take o++vs++cur.toList.drop (o+vs.length)).toArray)[j]?=if o≤j∧j < o+vs.length then vs[j - o]? else cur[j]?:=by
  have hl:cur.toList.length=cur.size:=by simp
  simp only [List.getElem?_toArray,List.getElem?_append,List.length_take,List.length_append,List.getElem?_take,List.getElem?_drop,hl,Nat.min_eq_left (show o≤cur.size by omega)]
  by_cases h1:j < o
  · rw [if_pos (by omega),if_pos h1,if_pos h1,if_neg (by omega)]
    simp
  · by_cases h2:j < o+vs.length
    · rw [if_pos h2,if_neg h1,if_pos (by omega)]
    · rw [if_neg h2,if_neg (by omega)]
      simp
      congr 1
      omega
theorem aAE {sz r j r' j':Nat} (hj:j < sz) (hj':j' < sz) (h:r*sz+j=r'*sz+j'):r=r'∧j=j':=by
  have h1:(r*sz+j) / sz=r:=by rw [Nat.mul_comm,Nat.mul_add_div (by omega)]; simp [Nat.div_eq_of_lt hj]
  have h2:(r'*sz+j') / sz=r':=by rw [Nat.mul_comm,Nat.mul_add_div (by omega)]; simp [Nat.div_eq_of_lt hj']
  have h3:r=r':=by rw [← h1,← h2,h]
  subst h3
  exact ⟨rfl,by omega⟩
theorem aJj {b:Blk} (h:b.own=true):(b.lz&&b.rows.isEmpty)=false:=by
  unfold Blk.own at h
  cases h1:(b.lz&&b.rows.isEmpty) with
  |false=>rfl
  |true=>rw [h1] at h; simp at h
theorem aHd (hx : Inv x) {n : Nat} {u v : V} {cu cv : Value} {H' : aP} (h : stP x.H n v.cells u = some H') (hu : R x u cu) (hv : R x v cv) {t : Nat} (hn : fQ P t = some n) :
    ∃ y:Cx,(Instr.storeAt t cu cv).run P x.w=.ok () y.w∧y.H=H'∧Inv y∧Frame x y:=by
  unfold stP at h
  split at h
  · rename_i id ver row off
    split at h
    · rename_i hok
      obtain ⟨ho,hver⟩:=okp hok
      split at h
      · rename_i hlen
        split at h
        · rename_i hone
          split at h
          · rename_i r hr
            split at h
            · rename_i hfit
              cases h
              cases hu with
              | mp _ _ _ _ p hv' hh hm =>
                have:=hh hver ho
                subst this
                obtain ⟨cc,h1,h2,h3,h4⟩:=hx.cel id ho (hm hver ho)
                obtain ⟨c1,c2⟩:=hv.cells
                have hrl:r.length=(x.H id).sz:=h2 r (List.mem_of_getElem? hr)
                have hrow:row < (x.H id).rows.length:=(List.getElem?_eq_some_iff.1 hr).1
                have hmul:(row+1)*(x.H id).sz≤(x.H id).rows.length*(x.H id).sz:=Nat.mul_le_mul_right _ hrow
                rw [Nat.add_mul] at hmul
                have hvl:cv.cells.toList.length=n:=by simp [c1,hlen]
                have hst:=run_storeCells_at P (x.σ id) (row*(x.H id).sz+off) (x.H id).ty cv.cells.toList 0 cc x.w h1 (by omega) (fun e he=>by
                  obtain ⟨j,hj⟩:=List.mem_iff_getElem?.1 he
                  have hjl:j < v.cells.length:=by have:=(List.getElem?_eq_some_iff.1 hj).1; omega
                  have h5:=c2 j v.cells[j] (List.getElem?_eq_getElem hjl)
                  have h6:cv.cells.getD j undef=e:=by
                    have:cv.cells[j]?=some e:=by simpa using hj
                    simp [Array.getD_eq_getD_getElem?,this]
                  rw [h6] at h5
                  exact h5.one (List.all_eq_true.1 hone _ (List.getElem_mem hjl)))
                simp only [Nat.add_zero] at hst
                obtain ⟨hI, hF⟩ := mI hx id ho cc (cc.toList.take (row * (x.H id).sz + off) ++ cv.cells.toList ++ cc.toList.drop (row * (x.H id).sz + off + cv.cells.toList.length)).toArray h1
                  (by simp; omega) (x.H id).ver ((x.H id).rows.set row (jX r off v.cells)) (Nat.le_refl _) (fun _=>by simp)
                  (by
                    have e:((x.H id).rows.set row (jX r off v.cells)).isEmpty=(x.H id).rows.isEmpty:=by
                      cases hq:(x.H id).rows with
                      |nil=>rfl
                      |cons a l=>cases row <;> rfl
                    rw [e]
                    exact aJj ho)
                  (fun q hq=>by
                    rcases List.mem_or_eq_of_mem_set hq with hq|hq
                    · exact h2 q hq
                    · rw [hq,sH]; exact hrl)
                  (by simpa using h3)
                  (fun q qrow j w hq hj=>by
                    rw [Array.getD_eq_getD_getElem?,wR (by omega)]
                    by_cases hqr:q=row
                    · subst hqr
                      rw [List.getElem?_set_self hrow] at hq
                      cases hq
                      rw [aAm _ _ _ (by rw [hlen]; exact hfit)] at hj
                      by_cases hin:off≤j∧j < off+v.cells.length
                      · rw [if_pos hin] at hj
                        rw [if_pos (by omega)]
                        have:=c2 (j - off) w hj
                        rw [show q*(x.H id).sz+j - (q*(x.H id).sz+off)=j - off by omega]
                        simpa [Array.getD_eq_getD_getElem?] using this
                      · rw [if_neg hin] at hj
                        rw [if_neg (by omega)]
                        have:=h4 q r j w hr hj
                        rwa [Array.getD_eq_getD_getElem?] at this
                    · rw [List.getElem?_set_ne (Ne.symm hqr)] at hq
                      have h7:=gH h2 h3 hq hj
                      have:=h4 q qrow j w hq hj
                      rw [if_neg]
                      · rwa [Array.getD_eq_getD_getElem?] at this
                      · intro hc
                        have h8:q*(x.H id).sz+j=row*(x.H id).sz+(q*(x.H id).sz+j - row*(x.H id).sz):=by omega
                        exact hqr (aAE h7.2.2 (by omega) h8).1)
                refine ⟨_,?_,?_,hI,hF⟩
                · simp only [Instr.storeAt,Instr.sureAddr,storeVar,Sem.run_bind,Sem.run_pure,Result.andThen_ok,fR hn]
                  rw [if_neg (by simp [c1,hlen])]
                  exact hst
                · simp only
                  congr 1
                  have:=eL ho
                  cases hq:x.H id
                  simp_all
            · cases h
          · cases h
        · cases h
      · cases h
    · cases h
  · cases h
end
end Go.Proofs.YteehaobohaecmaaGreatDoor


namespace Go.Proofs.YteehaobohaecmaaGreatDoor
open Go
section
variable {P:Program} {x:Cx} {T:Nat→V} {a:Act}
def CR (x:Cx) (z:List V) (cc:Array Value):Prop:=cc.size=z.length∧ ∀ (j:Nat) (v:V),z[j]?=some v→R x v (cc.getD j undef)
theorem aDz {v:V} {c:Value} (h:R x v c):CR x v.cells c.cells:=h.cells
theorem aFf (hx:Inv x) (id:Nat) (ty:TypeId) {z:List V} {cc:Array Value} (h:CR x z cc):
    ∃ y:Cx,y.w=x.w.alloc (.cells cc ty)∧y.H=upd x.H id ⟨(x.H id).ver+1,true,false,ty,z.length,[z]⟩∧Inv y∧Frame x y∧R y (.mp id ((x.H id).ver+1) 0 0) (.pointer (some ⟨x.w.heap.size,0,none⟩)):=by
  obtain ⟨hI,hF⟩:=oG hx id cc false ty z.length [z] (fun r hr=>by simp at hr; rw [hr]) (by simp [h.1]) (fun r row j v hr hj=>by
    cases r with
    |zero=>simp at hr; subst hr; simpa using h.2 j v hj
    |succ r=>simp at hr)
  refine ⟨_,rfl,rfl,hI,hF,.mp _ _ _ _ _ (by simp [aK]) (fun _ _=>?_) fun _ _=>by simp [aK,Blk.isM]⟩
  simp [aK]
theorem nF (x : Cx) {t : Nat} {z : List V} (h : gP P t = some z) (w : World) : ∃ v, (zeroValue t).run P w = .ok v w ∧ (∃ i, P.info? t = some i ∧ i.zero = some v) ∧ CR x z v.cells := by
  unfold gP at h
  cases hi:P.info? t with
  |none=>simp [hi] at h
  | some i =>
    cases hz:i.zero with
    |none=>simp [hi,hz] at h
    | some v =>
      simp only [hi,hz,Option.bind_some] at h
      cases hc:cvt v with
      |none=>simp [hc] at h
      | some u =>
        simp [hc] at h
        subst h
        exact ⟨v,by simp [zeroValue,typeInfo,hi,hz],⟨i,rfl,hz⟩,aDz (aOr x hc)⟩
theorem aHr (hx:Inv x) (id:Nat) {t:Nat} {z:List V} (h:gP P t=some z):
    ∃ y c,(Instr.alloc t true (.tuple #[])).run P x.w=.ok c y.w∧y.H=upd x.H id ⟨(x.H id).ver+1,true,false,t,z.length,[z]⟩∧Inv y∧Frame x y∧R y (.mp id ((x.H id).ver+1) 0 0) c:=by
  obtain ⟨v,h1,_,h2⟩:=nF (P:=P) x h x.w
  obtain ⟨y,e,h3,h4,h5,h6⟩:=aFf hx id t h2
  refine ⟨y,_,?_,h3,h4,h5,h6⟩
  rw [e]
  simp [Instr.alloc,h1,newVar,newRow]
theorem aMp (hx:Inv x) (id t:Nat) {v:V} {c:Value} (h:R x v c):
    ∃ y c',(Instr.box t c).run P x.w=.ok c' y.w∧y.H=upd x.H id ⟨(x.H id).ver+1,true,false,t,v.cells.length,[v.cells]⟩∧Inv y∧Frame x y∧R y (.mp id ((x.H id).ver+1) 0 0) c':=by
  obtain ⟨y,e,h3,h4,h5,h6⟩:=aFf hx id t (aDz h)
  refine ⟨y,_,?_,h3,h4,h5,h6⟩
  rw [e]
  simp [Instr.box,newVar,newRow]
theorem aDD {α β:Type} {f:α→Sem β} {g:α→β} {w:World}: ∀ (l:List α),(∀ a∈l,(f a).run P w=.ok (g a) w)→(l.mapM f).run P w=.ok (l.map g) w
  |[],_=>by simp
  | a :: l, h => by
    simp only [List.mapM_cons,Sem.run_bind,h a (by simp),Result.andThen_ok,aDD l fun b hb=>h b (by simp [hb]),Sem.run_pure,List.map_cons]
theorem zB (off : Nat) : ∀ (l : List Value) (s : Nat) (cs : Array Value), off + s + l.length ≤ cs.size → ∀ k, ((l.zipIdx s).foldl (fun (cs : Array Value) (p : Value × Nat) => cs.setIfInBounds (off + p.2) p.1) cs)[k]? = (if off + s ≤ k ∧ k < off + s + l.length then l[k - (off + s)]? else cs[k]?)
    ∧((l.zipIdx s).foldl (fun (cs:Array Value) (p:Value×Nat)=>cs.setIfInBounds (off+p.2) p.1) cs).size=cs.size
  |[],s,cs,_,k=>by simp; intro h1 h2; omega
  | c :: l, s, cs, h, k => by
    simp only [List.length_cons] at h
    have ih:=zB off l (s+1) (cs.setIfInBounds (off+s) c) (by simp; omega) k
    simp only [List.zipIdx_cons,List.foldl_cons]
    refine ⟨?_,by simpa using ih.2⟩
    rw [ih.1]
    by_cases h1:off+(s+1)≤k∧k < off+(s+1)+l.length
    · rw [if_pos h1,if_pos (by simp; omega)]
      rw [show k - (off+s)=(k - (off+(s+1)))+1 by omega]
      simp
    · rw [if_neg h1]
      by_cases h2:k=off+s
      · subst h2
        rw [if_pos (by simp),Array.getElem?_setIfInBounds_self_of_lt (by omega)]
        simp
      · rw [if_neg (by simp; omega)]
        simp [Array.getElem?_setIfInBounds_ne (Ne.symm h2)]
theorem aHu {x:Cx} {z:List V} {cc:Array Value} (h:CR x z cc) {v:V} {c:Value} (hv:R x v c) {off:Nat} (hf:off+v.cells.length≤z.length):
    CR x (jX z off v.cells) (c.cells.zipIdx.foldl (fun (cs:Array Value) (p:Value×Nat)=>cs.setIfInBounds (off+p.2) p.1) cc):=by
  obtain ⟨h1,h2⟩:=hv.cells
  have hl:c.cells.toList.length=v.cells.length:=by simp [h1]
  have key:=zB off c.cells.toList 0 cc (by rw [hl,h.1]; omega)
  have e:c.cells.zipIdx.foldl (fun (cs:Array Value) (p:Value×Nat)=>cs.setIfInBounds (off+p.2) p.1) cc=(c.cells.toList.zipIdx 0).foldl (fun (cs:Array Value) (p:Value×Nat)=>cs.setIfInBounds (off+p.2) p.1) cc:=by
    rw [← Array.foldl_toList,Array.toList_zipIdx]
  rw [e]
  refine ⟨by rw [(key 0).2,h.1,sH],fun j u hj=>?_⟩
  rw [Array.getD_eq_getD_getElem?,(key j).1]
  rw [aAm _ _ _ hf] at hj
  simp only [Nat.add_zero,hl]
  by_cases hin:off≤j∧j < off+v.cells.length
  · rw [if_pos hin] at hj ⊢
    have:=h2 _ _ hj
    simpa [Array.getD_eq_getD_getElem?] using this
  · rw [if_neg hin] at hj ⊢
    have:=h.2 _ _ hj
    simpa [Array.getD_eq_getD_getElem?] using this
theorem aBs {x : Cx} {place : Nat → Option (Nat × Nat)} : ∀ (qs : List (Nat × Nat × V)) (ps : List (Nat × Value)) (z z' : List V) (cc : Array Value), ps.length = qs.length →
    (∀ (j:Nat) (q:Nat×Nat×V),qs[j]?=some q→ ∃ i c,ps[j]?=some (i,c)∧place i=some (q.1,q.2.1)∧R x q.2.2 c)→
    bld z qs=some z'→CR x z cc→ ∃ cc',Instr.fill place cc ps=some cc'∧CR x z' cc'
  | [], ps, z, z', cc, hl, _, hb, hc => by
    cases ps with
    |nil=>cases hb; exact ⟨cc,rfl,hc⟩
    |cons p ps=>simp at hl
  | (off, n, v) :: qs, ps, z, z', cc, hl, hq, hb, hc => by
    cases ps with
    |nil=>simp at hl
    | cons p ps =>
      obtain ⟨i,c,h1,h2,h3⟩:=hq 0 _ rfl
      simp at h1
      subst h1
      simp only [bld] at hb
      split at hb
      · rename_i h4
        split at hb
        · rename_i h5
          have h6:=h3.cells.1
          have hst:=aHu hc h3 (off:=off) (by rw [h4]; exact h5)
          obtain ⟨cc',h7,h8⟩:=aBs qs ps _ z' _ (by simpa using hl) (fun j q hj=>hq (j+1) q (by simpa using hj)) hb hst
          refine ⟨cc',?_,h8⟩
          simp only [Instr.fill,h2]
          rw [if_neg (by simp [h6,h4,hc.1]; omega)]
          exact h7
        · cases hb
      · cases hb
theorem aG9 {t:Nat} {fs:Array Field} {z:List V} (hfs:P.underlying t=some (.struct fs)) (hz:gP P t=some z) (hinfo:(fs.all fun f=>(P.info? f.type).isSome)=true)
    {qs:List (Nat×Nat×V)} {ps:List (Nat×Value)} (hl:ps.length=qs.length)
    (hq: ∀ (j:Nat) (q:Nat×Nat×V),qs[j]?=some q→ ∃ i c f,ps[j]?=some (i,c)∧fs[i]?=some f∧f.offset=q.1∧fQ P f.type=some q.2.1∧R x q.2.2 c)
    {z':List V} (hb:bld z qs=some z') (w:World): ∃ c,(Instr.build t ps.toArray).run P w=.ok c w∧R x (.agg z') c:=by
  obtain ⟨v,h1,_,h2⟩:=nF (P:=P) x hz w
  have hm: ∀ f∈fs.toList,(do pure (f.offset,← sizeOf f.type):Sem (Nat×Nat)).run P w=.ok (f.offset,(fQ P f.type).getD 0) w:=fun f hf=>by
    have:(P.info? f.type).isSome=true:=Array.all_eq_true_iff_forall_mem.1 hinfo f (by simpa using hf)
    obtain ⟨i,hi⟩:=Option.isSome_iff_exists.1 this
    have:fQ P f.type=some i.size:=by simp [fQ,hi]
    simp [fR this,this]
  have hmm:=aDD fs.toList hm
  have hplaces:(fs.mapM fun f=>do pure (f.offset,← sizeOf f.type):Sem (Array (Nat×Nat))).run P w=.ok (fs.toList.map fun f=>(f.offset,(fQ P f.type).getD 0)).toArray w:=by
    rw [Array.mapM_eq_mapM_toList]
    simp only [Sem.run_map,hmm,Result.andThen_ok]
  obtain ⟨cc',h3,h4⟩:=aBs (place:=fun i=>(fs.toList.map fun f=>(f.offset,(fQ P f.type).getD 0)).toArray[i]?) qs ps z z' v.cells hl (fun j q hj=>by
    obtain ⟨i,c,f,g1,g2,g3,g4,g5⟩:=hq j q hj
    refine ⟨i,c,g1,?_,g5⟩
    simp [g2,g3,g4]) hb h2
  refine ⟨.agg cc',?_,.agg _ _ h4.1 h4.2⟩
  simp only [Instr.build,Sem.run_bind,h1,Result.andThen_ok,run_underlying hfs,hplaces,h3,Sem.run_pure]
theorem aEb {t e len n:Nat} {z:List V} (ht:P.underlying t=some (.array len e)) (hz:gP P t=some z) (hn:fQ P e=some n)
    {qs:List (Nat×V)} {ps:List (Nat×Value)} (hl:ps.length=qs.length) (hq: ∀ (j:Nat) (q:Nat×V),qs[j]?=some q→ ∃ c,ps[j]?=some (q.1,c)∧R x q.2 c)
    {z':List V} (hb:bld z (qs.map fun q=>(q.1*n,n,q.2))=some z') (w:World): ∃ c,(Instr.build t ps.toArray).run P w=.ok c w∧R x (.agg z') c:=by
  obtain ⟨v,h1,_,h2⟩:=nF (P:=P) x hz w
  obtain ⟨cc',h3,h4⟩:=aBs (place:=fun i=>some (i*n,n)) (qs.map fun q=>(q.1*n,n,q.2)) ps z z' v.cells (by simpa using hl) (fun j q hj=>by
    rw [List.getElem?_map] at hj
    obtain ⟨p,hp,rfl⟩:=Option.map_eq_some_iff.1 hj
    obtain ⟨c,g1,g2⟩:=hq j p hp
    exact ⟨p.1,c,g1,rfl,g2⟩) hb h2
  refine ⟨.agg cc',?_,.agg _ _ h4.1 h4.2⟩
  simp only [Instr.build,Sem.run_bind,h1,Result.andThen_ok,run_underlying ht,fR hn,h3,Sem.run_pure]
end
end Go.Proofs.YteehaobohaecmaaGreatDoor


namespace Go.Proofs.YteehaobohaecmaaGreatDoor
open Go
section
variable {P:Program} {x:Cx} {T:Nat→V} {a:Act}
structure CRR (x:Cx) (rows:List (List V)) (sz:Nat) (cc:Array Value):Prop where
  size:rows.length*sz≤cc.size
  row: ∀ r∈rows,r.length=sz
  rel: ∀ (r:Nat) (row:List V) (j:Nat) (v:V),rows[r]?=some row→row[j]?=some v→R x v (cc.getD (r*sz+j) undef)
theorem xB {x:Cx} {z:List V} {zc:Array Value} (h:CR x z zc) (len n:Nat) (hz:z.length≠0) (hn:len*z.length≤n):
    CRR x (List.replicate len z) z.length ((Array.range n).map (zc[· % zc.size]!)):=by
  refine ⟨by simpa using hn,fun r hr=>by rw [(List.mem_replicate.1 hr).2],fun r row j v hr hj=>?_⟩
  have hlt:=(List.getElem?_eq_some_iff.1 hr).1
  simp at hlt
  have hrow:row=z:=by
    have:=List.mem_of_getElem? hr
    exact (List.mem_replicate.1 this).2
  subst hrow
  have hj2:=(List.getElem?_eq_some_iff.1 hj).1
  have hm:(r+1)*row.length≤len*row.length:=Nat.mul_le_mul_right _ hlt
  rw [Nat.add_mul] at hm
  have h1:(r*row.length+j) % zc.size=j:=by rw [h.1,Nat.mul_comm,Nat.mul_add_mod]; exact Nat.mod_eq_of_lt hj2
  have h2:=h.2 j v hj
  have h3:j < zc.size:=by rw [h.1]; exact hj2
  have e:((Array.range n).map (zc[· % zc.size]!)).getD (r*row.length+j) undef=zc.getD j undef:=by
    rw [Array.getD_eq_getD_getElem?,Array.getElem?_map,Array.getElem?_range]
    rw [if_pos (by omega)]
    simp only [Option.map_some,Option.getD_some,h1]
    rw [getElem!_pos zc j h3,Array.getD_eq_getD_getElem?,Array.getElem?_eq_getElem h3]
    rfl
  rw [e]; exact h2
theorem aAr {x : Cx} {esz : Nat} : ∀ (qs : List (Nat × V)) (ps : List (Nat × Value)) (rows rows' : List (List V)) (cc : Array Value), ps.length = qs.length →
    (∀ (j:Nat) (q:Nat×V),qs[j]?=some q→ ∃ c,ps[j]?=some (q.1,c)∧R x q.2 c)→
    qQ esz rows qs=some rows'→CRR x rows esz cc→rows'.length=rows.length∧ ∃ cc',Instr.fill (fun i=>some (i*esz,esz)) cc ps=some cc'∧cc'.size=cc.size∧CRR x rows' esz cc'
  | [], ps, rows, rows', cc, hl, _, hb, hc => by
    cases ps with
    |nil=>cases hb; exact ⟨rfl,cc,rfl,rfl,hc⟩
    |cons p ps=>simp at hl
  | (i, v) :: qs, ps, rows, rows', cc, hl, hq, hb, hc => by
    cases ps with
    |nil=>simp at hl
    | cons p ps =>
      obtain ⟨c,h1,h3⟩:=hq 0 _ rfl
      simp at h1
      subst h1
      simp only [qQ] at hb
      split at hb
      · rename_i h4
        split at hb
        · rename_i h5
          obtain ⟨h6,h7⟩:=h3.cells
          have hl2:c.cells.toList.length=v.cells.length:=by simp [h6]
          have hmul:(i+1)*esz≤rows.length*esz:=Nat.mul_le_mul_right _ h5
          rw [Nat.add_mul] at hmul
          have hfit:i*esz+esz≤cc.size:=by have:=hc.size; omega
          have key:=zB (i*esz) c.cells.toList 0 cc (by rw [hl2,h4]; omega)
          have e:c.cells.zipIdx.foldl (fun (cs:Array Value) (p:Value×Nat)=>cs.setIfInBounds (i*esz+p.2) p.1) cc=(c.cells.toList.zipIdx 0).foldl (fun (cs:Array Value) (p:Value×Nat)=>cs.setIfInBounds (i*esz+p.2) p.1) cc:=by
            rw [← Array.foldl_toList,Array.toList_zipIdx]
          have hst:CRR x (rows.set i v.cells) esz (c.cells.zipIdx.foldl (fun (cs:Array Value) (p:Value×Nat)=>cs.setIfInBounds (i*esz+p.2) p.1) cc):=by
            rw [e]
            refine ⟨by rw [(key 0).2]; simpa using hc.size,fun r hr=>?_,fun r row j u hr hj=>?_⟩
            · rcases List.mem_or_eq_of_mem_set hr with hr|hr
              · exact hc.row r hr
              · rw [hr]; exact h4
            · rw [Array.getD_eq_getD_getElem?, (key (r * esz + j)).1]
              simp only [Nat.add_zero,hl2,h4]
              by_cases hri:r=i
              · subst hri
                rw [List.getElem?_set_self h5] at hr
                cases hr
                have hj2:=(List.getElem?_eq_some_iff.1 hj).1
                rw [if_pos (by omega),show r*esz+j - r*esz=j by omega]
                have:=h7 _ _ hj
                simpa [Array.getD_eq_getD_getElem?] using this
              · rw [List.getElem?_set_ne (Ne.symm hri)] at hr
                have h8:=gH hc.row hc.size hr hj
                rw [if_neg]
                · have:=hc.rel _ _ _ _ hr hj
                  rwa [Array.getD_eq_getD_getElem?] at this
                · intro hcon
                  have h9:r*esz+j=i*esz+(r*esz+j - i*esz):=by omega
                  exact hri (aAE h8.2.2 (by omega) h9).1
          have hs0:(c.cells.zipIdx.foldl (fun (cs:Array Value) (p:Value×Nat)=>cs.setIfInBounds (i*esz+p.2) p.1) cc).size=cc.size:=by rw [e,(key 0).2]
          obtain ⟨h10,cc',h11,h12,h13⟩:=aAr qs ps _ rows' _ (by simpa using hl) (fun j q hj=>hq (j+1) q (by simpa using hj)) hb hst
          refine ⟨by simpa using h10,cc',?_,h12.trans hs0,h13⟩
          simp only [Instr.fill]
          rw [if_neg (by simp [h6,h4]; omega)]
          exact h11
        · cases hb
      · cases hb
theorem tG {t e esz len : Nat} {z : List V} (ht : P.underlying t = some (.slice e)) (hz : gP P e = some z) (hn : fQ P e = some esz) (hzl : z.length = esz) (h0 : esz ≠ 0) (hlen : len * esz ≤ 16777216)
    {qs:List (Nat×V)} {ps:List (Nat×Value)} (hl:ps.length=qs.length) (hq: ∀ (j:Nat) (q:Nat×V),qs[j]?=some q→ ∃ c,ps[j]?=some (q.1,c)∧R x q.2 c)
    {rows:List (List V)} (hb:qQ esz (List.replicate len z) qs=some rows):
    rows.length=len∧ ∃ cc,(Instr.buildSlice t len ps.toArray).run P x.w=.ok (.slice (some ⟨x.w.heap.size,0,none⟩) len len) (x.w.alloc (.cells cc e))∧cc.size=len*esz∧CRR x rows esz cc:=by
  obtain ⟨v,h1,_,h2⟩:=nF (P:=P) x hz x.w
  by_cases hl0:len=0
  · subst hl0
    have hrows:rows.length=0:=by
      have: ∀ (qs:List (Nat×V)) (r r':List (List V)),qQ esz r qs=some r'→r'.length=r.length:=by
        intro qs
        induction qs with
        |nil=>intro r r' h; cases h; rfl
        | cons q qs ih =>
          intro r r' h
          simp only [qQ] at h
          split at h
          · split at h
            · simpa using ih _ _ h
            · cases h
          · cases h
      simpa using this qs _ _ hb
    have hrn:rows=[]:=List.eq_nil_of_length_eq_zero hrows
    have hqs:qs=[]:=by
      cases qs with
      |nil=>rfl
      |cons q qs=>simp [qQ] at hb
    subst hqs
    have hps:ps=[]:=List.eq_nil_of_length_eq_zero (by simpa using hl)
    subst hps
    refine ⟨hrows,#[],?_,by simp,⟨by simp [hrows],fun r hr=>by simp [hrn] at hr,fun r row j u hr=>by simp [hrn] at hr⟩⟩
    simp [Instr.buildSlice,run_underlying ht,fR hn,Instr.fill,newRow,Array.range_zero']
  · have h3:=xB h2 len (len*esz) (by omega) (by rw [hzl]; exact Nat.le_refl _)
    rw [hzl] at h3
    obtain ⟨h4,cc,h5,h6,h7⟩:=aAr qs ps _ rows _ hl hq hb h3
    refine ⟨by simpa using h4,cc,?_,by simpa using h6,h7⟩
    have h8: ¬ len*esz > 2 ^ 24:=by omega
    have h9: ¬ len*esz=0:=Nat.mul_ne_zero hl0 h0
    simp only [Instr.buildSlice,Sem.run_bind,run_underlying ht,Result.andThen_ok,fR hn,if_neg h8,if_neg h9,h1,Sem.run_pure,h5,newRow,run_newObj,World.alloc_eq]
theorem oA (w:World) (cc:Array Value) (e:TypeId):dX (w.alloc (.cells cc e)) w.heap.size=cc.size:=by
  unfold dX; rw [kC]
theorem vA (hx:Inv x) {e esz len:Nat} {rows:List (List V)} {cc:Array Value} (hlen:rows.length=len) (hc:CRR x rows esz cc) (hcs:cc.size=len*esz) (hm:len≤maxLen):
    ∃ y:Cx,y.w=x.w.alloc (.cells cc e)∧y.H=x.H∧Inv y∧Frame x y∧R y (.sl rows) (.slice (some ⟨x.w.heap.size,0,none⟩) len len):=by
  obtain ⟨hI,hF⟩:=aHO hx (.cells cc e)
  refine ⟨{x with w:=x.w.alloc (.cells cc e),Z:=fun b=>x.Z b∨b=x.w.heap.size},rfl,rfl,hI,hF,?_⟩
  subst hlen
  refine .sl rows _ _ esz (fun k=>cc.getD k undef) (Nat.le_refl _) hm (fun _=>.inr rfl) hc.row (fun r row j v hr hj=>?_) (fun r row j v hr hj=>(hc.rel r row j v hr hj).frame hx hF)
  have h1:=(gH hc.row hc.size hr hj).1
  simp only [Addr.add_lit,Nat.zero_add,World.cell?_alloc_new]
  exact sU h1
theorem yS (hx:Inv x) (id:Nat) {e esz len cap:Nat} {rows:List (List V)} {cc:Array Value} (hlen:rows.length=len) (hc:CRR x rows esz cc) (hcs:cc.size=cap*esz) (hcap:len≤cap) (hm:cap≤maxLen):
    ∃ y:Cx,y.w=x.w.alloc (.cells cc e)∧y.H=upd x.H id ⟨(x.H id).ver+1,true,false,e,esz,rows⟩∧Inv y∧Frame x y∧R y (.ms id ((x.H id).ver+1) 0 len) (.slice (some ⟨x.w.heap.size,0,none⟩) len cap):=by
  obtain ⟨hI,hF⟩:=oG hx id cc false e esz rows hc.row hc.size hc.rel
  refine ⟨_,rfl,rfl,hI,hF,.ms _ _ _ _ _ _ _ (by simp [aK]) (fun _ _=>?_) fun _ _=>by simp [aK,Blk.isM]⟩
  simp only [aK]
  refine ⟨trivial,hcap,hm,by omega,fun _=>⟨by simp,?_⟩,fun h=>by simp [Blk.own] at h⟩
  rw [oA,hcs,Nat.zero_add]
theorem aM0 (hx : Inv x) (id : Nat) {t e esz bytes : Nat} {z : List V} {i : TypeInfo} (ht : P.underlying t = some (.slice e)) (hi : P.info? e = some i) (hz : gP P e = some z) (hs : i.size = esz) (hby : i.bytes = bytes) (hzl : z.length = esz) (h0 : esz ≠ 0)
    {l c:V} {cl cc:Value} {n:Nat×Nat} (h:aE1 bytes l c=some n) (hl:R x l cl) (hc:R x c cc):
    ∃ y r,(Instr.makeSlice t cl cc).run P x.w=.ok r y.w∧y.H=upd x.H id ⟨(x.H id).ver+1,true,false,e,esz,List.replicate n.1 z⟩∧Inv y∧Frame x y∧R y (.ms id ((x.H id).ver+1) 0 n.1) r:=by
  obtain ⟨v,h1,_,h2⟩:=nF (P:=P) x hz x.w
  unfold aE1 at h
  split at h
  · rename_i k l k' c
    cases hl; cases hc
    split at h
    · rename_i h3
      split at h
      · rename_i h4
        split at h
        · rename_i h5
          split at h
          · rename_i h6
            cases h
            have e1:IntKind.i64.wrap l=l:=IntWalk.i64_in _ ⟨by omega,by omega⟩
            have e2:IntKind.i64.wrap c=c:=IntWalk.i64_in _ ⟨by omega,by omega⟩
            have hcrr:=xB h2 l.toNat (c.toNat*esz) (by omega) (by rw [hzl]; exact Nat.mul_le_mul_right _ (by omega))
            rw [hzl] at hcrr
            obtain ⟨y,y1,y2,y3,y4,y5⟩:=yS hx id (e:=e) (cap:=c.toNat) (len:=l.toNat) (by simp) hcrr (by simp) (by omega) (by unfold maxLen; omega)
            refine ⟨y,_,?_,y2,y3,y4,y5⟩
            rw [y1]
            have h5': ¬ (2 ^ 48:Int) < (bytes:Int)*c:=by rw [Int.mul_comm]; omega
            by_cases hn:c.toNat*esz=0
            · have hc0:c.toNat=0:=by
                rcases Nat.mul_eq_zero.1 hn with h|h
                · exact h
                · exact absurd h h0
              have hc1:c=0:=by omega
              have hl1:l=0:=by omega
              subst hc1; subst hl1
              simp [Instr.makeSlice,run_underlying ht,asInt,asIntOf,typeInfo,hi,sizeOf,newRow,IntKind.wrap,IntKind.bits,IntKind.signed,Array.range_zero']
            · have hlt: ¬ c < 0:=by omega
              have hll: ¬ l < 0:=by omega
              have hlc: ¬ c < l:=by omega
              simp [Instr.makeSlice,run_underlying ht,asInt,asIntOf,typeInfo,hi,sizeOf,e1,e2,hby,hs,hlt,hll,hlc,hn,h1,newRow]
              omega
          · cases h
        · cases h
      · cases h
    · cases h
  · cases h
end
end Go.Proofs.YteehaobohaecmaaGreatDoor


namespace Go.Proofs.YteehaobohaecmaaGreatDoor
open Go
section
variable {P:Program} {x:Cx} {T:Nat→V} {a:Act}
theorem zJ {rows:List (List V)} {sz:Nat} (hsz: ∀ r∈rows,r.length=sz) {k:Nat} (hk:k < rows.length*sz):
    ∃ row v,rows[k / sz]?=some row∧row[k % sz]?=some v∧k / sz*sz+k % sz=k:=by
  have h0:0 < sz:=by
    rcases Nat.eq_zero_or_pos sz with h|h
    · subst h; simp at hk
    · exact h
  have h1:k / sz < rows.length:=(Nat.div_lt_iff_lt_mul h0).2 hk
  have h2:k % sz < (rows[k / sz]).length:=by rw [hsz _ (List.getElem_mem h1)]; exact Nat.mod_lt _ h0
  exact ⟨_,_,List.getElem?_eq_getElem h1,List.getElem?_eq_getElem h2,by rw [Nat.mul_comm]; exact Nat.div_add_mod k sz⟩
theorem iW {esz:Nat} {rows:List (List V)} (h:iU esz rows=true):(∀ r∈rows,r.length=esz)∧ ∀ r∈rows,∀ v∈r,v.one=true:=by
  unfold iU at h
  simp only [List.all_eq_true,Bool.and_eq_true,beq_iff_eq] at h
  exact ⟨fun r hr=>(h r hr).1,fun r hr v hv=>(h r hr).2 v hv⟩
theorem uM (hx : Inv x) {u : V} {cu : Value} {new : List (List V)} {esz : Nat} (h : oV x.H u = some new) (hf : iU esz new = true) (hu : R x u cu) :
    (∃ b0,cu=.slice b0 0 0∧new=[])∨ ∃ (ad:Addr) (cap:Nat) (cs:Nat→Value),cu=.slice (some ad) new.length cap∧(∀ k,k < new.length*esz→x.w.cell? (ad.add k)=some (cs k)∧(cs k).oneCell'=true)∧
      ∀ (r:Nat) (row:List V) (j:Nat) (v:V),new[r]?=some row→row[j]?=some v→R x v (cs (r*esz+j)):=by
  obtain ⟨hsz,hone⟩:=iW hf
  unfold oV at h
  split at h
  · rename_i rows
    cases h
    cases hu with
    |slnil=>exact .inl ⟨none,rfl,rfl⟩
    | sl _ ad cap sz cs hc hm hz hs hcell hr =>
      refine .inr ⟨ad,cap,cs,rfl,fun k hk=>?_,fun r row j v h1 h2=>?_⟩
      · obtain ⟨row,v,h1,h2,h3⟩:=zJ hsz hk
        have e:sz=esz:=by rw [← hs row (List.mem_of_getElem? h1)]; exact hsz row (List.mem_of_getElem? h1)
        subst e
        have h4:=hcell _ _ _ _ h1 h2
        have h5:=hr _ _ _ _ h1 h2
        rw [h3] at h4 h5
        exact ⟨h4,h5.one (hone row (List.mem_of_getElem? h1) v (List.mem_of_getElem? h2))⟩
      · have e:sz=esz:=by rw [← hs row (List.mem_of_getElem? h1)]; exact hsz row (List.mem_of_getElem? h1)
        subst e
        exact hr _ _ _ _ h1 h2
  · cases h; cases hu; exact .inl ⟨none,rfl,rfl⟩
  · rename_i id ver off len
    split at h
    · rename_i hok
      cases h
      simp only [Bool.and_eq_true,decide_eq_true_eq] at hok
      cases hu with
      | ms _ _ _ _ b m cap hv hh hm =>
        obtain ⟨e1,e2,e3,e4,e5,e6⟩:=hh hok.2 hok.1
        subst e1
        have hlen:(((x.H id).rows.drop off).take m).length=m:=by simp; omega
        cases ho:(x.H id).own with
        | false =>
          have e8:=e6 ho
          have:m=0:=by omega
          subst this
          exact .inl ⟨b,by rw [e8],by simp⟩
        | true =>
          obtain ⟨e7,e8⟩:=e5 ho
          obtain ⟨cc,h1,h2,h3,h4⟩:=hx.cel id ho (hm hok.2 hok.1)
          have hidx: ∀ (r:Nat) (row:List V),(((x.H id).rows.drop off).take m)[r]?=some row→(x.H id).rows[off+r]?=some row:=by
            intro r row hr
            simp only [List.getElem?_take,List.getElem?_drop] at hr
            split at hr
            · exact hr
            · cases hr
          refine .inr ⟨⟨x.σ id,off*(x.H id).sz,none⟩,cap,fun k=>cc.getD (off*(x.H id).sz+k) undef,?_,fun k hk=>?_,fun r row j v h5 h6=>?_⟩
          · rw [hlen,e7]
          · obtain ⟨row,v,h5,h6,h7⟩:=zJ hsz hk
            have h8:=hidx _ _ h5
            have e:(x.H id).sz=esz:=by rw [← h2 row (List.mem_of_getElem? h8)]; exact hsz row (List.mem_of_getElem? h5)
            have h9:=gH h2 h3 h8 h6
            have h10:=h4 _ _ _ _ h8 h6
            have h11:(off+k / esz)*(x.H id).sz+k % esz=off*(x.H id).sz+k:=by rw [e,Nat.add_mul]; omega
            rw [h11] at h10 h9
            refine ⟨?_,h10.one (hone row (List.mem_of_getElem? h5) v (List.mem_of_getElem? h6))⟩
            rw [Addr.add_lit]
            exact hC h1 h9.1
          · have h8:=hidx _ _ h5
            have e:(x.H id).sz=esz:=by rw [← h2 row (List.mem_of_getElem? h8)]; exact hsz row (List.mem_of_getElem? h5)
            have h10:=h4 _ _ _ _ h8 h6
            have h11:(off+r)*(x.H id).sz+j=off*(x.H id).sz+(r*esz+j):=by rw [e,Nat.add_mul]; omega
            rw [h11] at h10
            exact h10
    · cases h
  · cases h
theorem aCr {x:Cx} {rows new:List (List V)} {sz:Nat} (cc:Array Value)
    (h1: ∀ (r:Nat) (row:List V) (j:Nat) (v:V),rows[r]?=some row→row[j]?=some v→R x v (cc.getD (r*sz+j) undef))
    (h2: ∀ (r:Nat) (row:List V) (j:Nat) (v:V),new[r]?=some row→row[j]?=some v→R x v (cc.getD (rows.length*sz+(r*sz+j)) undef)):
    ∀ (r:Nat) (row:List V) (j:Nat) (v:V),(rows++new)[r]?=some row→row[j]?=some v→R x v (cc.getD (r*sz+j) undef):=by
  intro r row j v hr hj
  rw [List.getElem?_append] at hr
  split at hr
  · exact h1 r row j v hr hj
  · have:=h2 _ row j v hr hj
    rwa [show rows.length*sz+((r - rows.length)*sz+j)=r*sz+j by rw [← Nat.add_assoc,← Nat.add_mul]; congr 2; omega] at this
theorem aK6 (hx : Inv x) {t e : Nat} {z : List V} (ht : P.underlying t = some (.slice e)) (hz : gP P e = some z) {u : V} {cu : Value} {H' : aP} (h : aLC x.H z u = some H') (hu : R x u cu) (ty : TypeId) :
    ∃ y:Cx,(Builtin.clear_ #[t] ty #[cu]).run P x.w=.ok (.tuple #[]) y.w∧y.H=H'∧Inv y∧Frame x y:=by
  unfold aLC at h
  split at h
  · cases h; cases hu
    exact ⟨x,by simp [Builtin.clear_,run_underlying ht],rfl,hx,Frame.refl x⟩
  · cases h
    generalize hv:V.sl []=v at hu
    cases hu <;> cases hv
    · exact ⟨x,by simp [Builtin.clear_,run_underlying ht],rfl,hx,Frame.refl x⟩
    · exact ⟨x,by simp [Builtin.clear_,run_underlying ht],rfl,hx,Frame.refl x⟩
  · rename_i id ver off len
    split at h
    · rename_i hok
      simp only [Bool.and_eq_true,decide_eq_true_eq] at hok
      cases hu with
      |ms _ _ _ _ b n cap hv hh hm=>
      obtain ⟨e1,e2,e3,e4,e5,e6⟩:=hh hok.2 hok.1
      subst e1
      split at h
      · rename_i h0
        cases h; subst h0
        exact ⟨x,by cases b <;> simp [Builtin.clear_,run_underlying ht],rfl,hx,Frame.refl x⟩
      · rename_i h0
        split at h
        · rename_i hzs
          split at h
          · rename_i hone
            · have hfit:=e4
              cases h
              obtain ⟨zv,hz1,_,hzc⟩:=nF (P:=P) x hz x.w
              have hne:(x.H id).rows≠[]:=fun e=>by rw [e] at hfit; simp at hfit; omega
              have ho:(x.H id).own=true:=by
                unfold Blk.own
                rw [hok.1]
                cases hq:(x.H id).rows with
                |nil=>exact absurd hq hne
                |cons a l=>simp
              obtain ⟨e7,e8⟩:=e5 ho
              subst e7
              obtain ⟨cc,h1,h2,h3,h4⟩:=hx.cel id ho (hm hok.2 hok.1)
              obtain ⟨hzl,hz0⟩:=hzs
              have hsz0:(x.H id).sz≠0:=hzl ▸ hz0
              have hcrr:=xB hzc n (n*zv.cells.size) hz0 (by rw [hzc.1]; exact Nat.le_refl _)
              rw [hzl] at hcrr
              have hzcs:zv.cells.size=(x.H id).sz:=by rw [hzc.1,hzl]
              generalize hZ:Builtin.zeroCells zv.cells n=Z
              have hZ':(Array.range (n*zv.cells.size)).map (zv.cells[· % zv.cells.size]!)=Z:=hZ
              rw [hZ'] at hcrr
              have hZl:Z.toList.length=n*(x.H id).sz:=by rw [Array.length_toList,← hZ,size_zeroCells,hzcs]
              have hfitc:off*(x.H id).sz+Z.toList.length≤cc.size:=by
                rw [hZl,← Nat.add_mul]; exact Nat.le_trans (Nat.mul_le_mul_right _ hfit) h3
              have hst:=run_storeCells_at P (x.σ id) (off*(x.H id).sz) (x.H id).ty Z.toList 0 cc x.w h1 (by omega) (fun v hv=>by
                obtain ⟨q,hq⟩:=List.getElem?_of_mem hv
                have hql:q < n*(x.H id).sz:=by rw [← hZl]; exact (List.getElem?_eq_some_iff.1 hq).1
                obtain ⟨row,w,h5,h6,h7⟩:=zJ hcrr.row (k:=q) (by simpa using hql)
                have h8:=hcrr.rel _ _ _ _ h5 h6
                rw [h7,Array.getD_eq_getD_getElem?,← Array.getElem?_toList,hq] at h8
                have h9:=(List.mem_replicate.1 (List.mem_of_getElem? h5)).2
                subst h9
                exact h8.one (List.all_eq_true.1 hone _ (List.mem_of_getElem? h6)))
              simp only [Nat.add_zero] at hst
              have hseg:=wR hfitc
              have hnl:((x.H id).rows.take off++List.replicate n z++(x.H id).rows.drop (off+n)).length=(x.H id).rows.length:=by simp; omega
              obtain ⟨hI, hF⟩ := mI hx id ho cc (cc.toList.take (off * (x.H id).sz) ++ Z.toList ++ cc.toList.drop (off * (x.H id).sz + Z.toList.length)).toArray h1
                (by simp at hfitc ⊢; omega) (x.H id).ver ((x.H id).rows.take off++List.replicate n z++(x.H id).rows.drop (off+n)) (Nat.le_refl _) (fun _=>hnl)
                (by
                  have:((x.H id).rows.take off++List.replicate n z++(x.H id).rows.drop (off+n)).isEmpty=false:=by
                    cases hq:((x.H id).rows.take off++List.replicate n z++(x.H id).rows.drop (off+n)) with
                    |nil=>rw [hq] at hnl; simp at hnl; exact absurd (List.length_eq_zero_iff.1 hnl.symm) hne
                    |cons a l=>rfl
                  rw [this,Bool.and_false])
                (fun r hr=>by
                  rcases List.mem_append.1 hr with hr|hr
                  · rcases List.mem_append.1 hr with hr|hr
                    · exact h2 r (List.mem_of_mem_take hr)
                    · exact hcrr.row r hr
                  · exact h2 r (List.mem_of_mem_drop hr))
                (by rw [hnl]; exact h3)
                (fun r row j v hr hj=>by
                  rw [Array.getD_eq_getD_getElem?,hseg,hZl]
                  have hlt:((x.H id).rows.take off).length=off:=by rw [List.length_take]; omega
                  have hjl: ∀ {l:List (List V)},(∀ q∈l,q.length=(x.H id).sz)→ ∀ {q:Nat},l[q]?=some row→j < (x.H id).sz:=fun hl q hq=>by
                    rw [← hl row (List.mem_of_getElem? hq)]; exact (List.getElem?_eq_some_iff.1 hj).1
                  rw [List.append_assoc,List.getElem?_append] at hr
                  split at hr
                  · rename_i hc
                    rw [hlt] at hc
                    rw [List.getElem?_take,if_pos hc] at hr
                    have:=hjl h2 hr
                    have:(r+1)*(x.H id).sz≤off*(x.H id).sz:=Nat.mul_le_mul_right _ hc
                    rw [Nat.add_mul,Nat.one_mul] at this
                    rw [if_neg (by omega),← Array.getD_eq_getD_getElem?]
                    exact h4 r row j v hr hj
                  · rename_i hc
                    rw [hlt] at hr hc
                    rw [List.getElem?_append] at hr
                    split at hr
                    · rename_i hc2
                      rw [List.length_replicate] at hc2
                      have hj':=hjl hcrr.row hr
                      have h5:(r - off+1)*(x.H id).sz≤n*(x.H id).sz:=Nat.mul_le_mul_right _ hc2
                      rw [Nat.add_mul,Nat.one_mul] at h5
                      have h6:r*(x.H id).sz+j=off*(x.H id).sz+((r - off)*(x.H id).sz+j):=by rw [← Nat.add_assoc,← Nat.add_mul]; congr 2; omega
                      rw [h6,if_pos (by omega),Nat.add_sub_cancel_left,Array.getElem?_toList,← Array.getD_eq_getD_getElem?]
                      exact hcrr.rel _ row j v hr hj
                    · rename_i hc2
                      rw [List.length_replicate] at hr hc2
                      rw [List.getElem?_drop] at hr
                      have hrr:off+n+(r - off - n)=r:=by omega
                      rw [hrr] at hr
                      have h5:(off+n)*(x.H id).sz≤r*(x.H id).sz:=Nat.mul_le_mul_right _ (by omega)
                      rw [Nat.add_mul] at h5
                      rw [if_neg (by omega),← Array.getD_eq_getD_getElem?]
                      exact h4 r row j v hr hj)
              refine ⟨_,?_,?_,hI,hF⟩
              · obtain ⟨m,rfl⟩: ∃ m,n=m+1:=⟨n - 1,by omega⟩
                simp [Builtin.clear_,run_underlying ht,hz1,hZ,hst]
              · simp only
                congr 1
                have:=eL ho
                cases hq:x.H id
                simp_all
          · cases h
        · cases h
    · cases h
  · cases h
theorem aAc (w:World) (dT sT ty elem:TypeId) (g o dLen dCap:Nat) (a:Addr) (sLen sCap:Nat) (cur:Array Value) (t:TypeId) (cs:List Value) (k:Nat)
    (hu:P.underlying dT=some (.slice elem)) (hs:(P.info? elem).map (·.size)=some k)
    (hg:w.heap[g]?=some (.cells cur t (0,0))) (hn:cs.length=Nat.min sLen dLen*k)
    (hsrc: ∀ j v,cs[j]?=some v→w.cell? (a.add j)=some v) (hfit:o+cs.length≤cur.size) (h1: ∀ v∈cs,v.oneCell'=true):
    (Builtin.copy_ #[dT,sT] ty #[.slice (some ⟨g,o,none⟩) dLen dCap,.slice (some a) sLen sCap]).run P w=
      .ok (goInt (Nat.min sLen dLen)) (w.setRow g (cur.toList.take o++cs++cur.toList.drop (o+cs.length)).toArray):=by
  have hl:=run_loadCells_list (P:=P) w a cs hsrc
  have hst:=run_storeCells_at P g o t cs 0 cur w hg (by simpa using hfit) h1
  cases hq:P.info? elem with
  |none=>simp [hq] at hs
  | some i =>
    have hi:i.size=k:=by simpa [hq] using hs
    simp [Builtin.copy_,run_underlying hu,Builtin.lenOf,Builtin.firstCells,sizeOf,typeInfo,hq,hi,← hn,hl,hst]
theorem qG (w:World) (dT sT ty elem:TypeId) (d a:Option Addr) (dLen dCap sLen sCap k:Nat) (hu:P.underlying dT=some (.slice elem)) (hs:(P.info? elem).map (·.size)=some k) (hn:Nat.min sLen dLen=0):
    (Builtin.copy_ #[dT,sT] ty #[.slice d dLen dCap,.slice a sLen sCap]).run P w=.ok (goInt 0) w:=by
  cases hq:P.info? elem with
  |none=>simp [hq] at hs
  | some i =>
    have hl: ∀ (x:Addr),(loadCells x 0).run P w=.ok #[] w:=fun x=>by simpa using run_loadCells_list (P:=P) w x [] (by simp)
    cases d <;> cases a <;> simp [Builtin.copy_,run_underlying hu,Builtin.lenOf,Builtin.firstCells,sizeOf,typeInfo,hq,hn,storeCells,hl]
theorem aMq (hx : Inv x) {t e n : Nat} (ht : P.underlying t = some (.slice e)) (hs : fQ P e = some n) {u d : V} {cu cd : Value} {p : Nat × aP} (h : aO6 x.H n u d = some p) (hd : R x d cd) (hu : R x u cu) (t' ty : TypeId) :
    ∃ y:Cx,(Builtin.copy_ #[t,t'] ty #[cd,cu]).run P x.w=.ok (.int .i64 (p.1:Nat)) y.w∧y.H=p.2∧Inv y∧Frame x y:=by
  unfold aO6 at h
  split at h
  · rename_i id ver off len
    split at h
    · rename_i hok
      simp only [Bool.and_eq_true,decide_eq_true_eq] at hok
      split at h
      · rename_i hc
        obtain ⟨rfl,hlen,hsz⟩:=hc
        split at h
        · rename_i new hn
          split at h
          · rename_i hnl
            split at h
            · rename_i hf
              cases h
              obtain ⟨hnsz,hnone⟩:=iW hf
              have hself:new=[]→(x.H id).rows=[]→(upd x.H id {x.H id with rows:=new})=x.H:=fun e1 e2=>by
                funext j
                unfold upd
                split
                · rename_i hj; subst hj; rw [e1,← e2]
                · rfl
              cases hd with
              |ms _ _ _ _ b m cap hv hh hm=>
              obtain ⟨e1,e2,e3,e4,e5,e6⟩:=hh hok.2 hok.1
              subst e1
              have zero:m=0→ ∃ y:Cx,(Builtin.copy_ #[t,t'] ty #[.slice b m cap,cu]).run P x.w=.ok (.int .i64 (m:Nat)) y.w∧y.H=(upd x.H id {x.H id with rows:=new})∧Inv y∧Frame x y:=fun h0=>by
                subst h0
                have n0:new=[]:=List.eq_nil_of_length_eq_zero hnl
                have r0:(x.H id).rows=[]:=List.eq_nil_of_length_eq_zero hlen.symm
                refine ⟨x,?_,(hself n0 r0).symm,hx,Frame.refl x⟩
                rcases uM hx hn hf hu with ⟨b0,rfl,_⟩|⟨ad,ca,f,rfl,_,_⟩
                · exact qG x.w t t' ty e b b0 0 cap 0 0 n ht hs (Nat.min_eq_left (Nat.zero_le _))
                · exact qG x.w t t' ty e b (some ad) 0 cap _ ca n ht hs (Nat.min_eq_right (Nat.zero_le _))
              by_cases h0:m=0
              · exact zero h0
              · have hne:(x.H id).rows≠[]:=fun e=>by rw [e] at hlen; exact h0 hlen
                have ho:(x.H id).own=true:=by
                  unfold Blk.own
                  rw [hok.1]
                  cases hq:(x.H id).rows with
                  |nil=>exact absurd hq hne
                  |cons a l=>simp
                obtain ⟨e7,e8⟩:=e5 ho
                subst e7
                obtain ⟨cc,h1,h2,h3,h4⟩:=hx.cel id ho (hm hok.2 hok.1)
                rcases uM hx hn hf hu with ⟨b0,rfl,hnew⟩|⟨ad,ca,f,rfl,hcell,hrel⟩
                · rw [hnew] at hnl; exact absurd hnl.symm h0
                · have hml:m*n=new.length*n:=by rw [hnl]
                  have hL:((List.range (new.length*n)).map f).length=new.length*n:=by simp
                  have hfit:0*(x.H id).sz+((List.range (new.length*n)).map f).length≤cc.size:=by
                    rw [hL,Nat.zero_mul,Nat.zero_add,hnl,hlen,← hsz]; exact h3
                  have hr:=aAc (P:=P) x.w t t' ty e (x.σ id) (0*(x.H id).sz) m cap ad new.length ca cc (x.H id).ty ((List.range (new.length*n)).map f) n ht hs h1 (by rw [hL,hnl]; congr 1; exact (Nat.min_self m).symm) (fun j v hj=>by
                      have hlt:j < new.length*n:=by
                        rcases Nat.lt_or_ge j (new.length*n) with h|h
                        · exact h
                        · simp [h] at hj
                      simp [List.getElem?_range hlt] at hj
                      rw [← hj]; exact (hcell j hlt).1) hfit (fun u hu=>by
                      obtain ⟨k,hk,rfl⟩:=List.mem_map.1 hu
                      exact (hcell k (List.mem_range.1 hk)).2)
                  have hseg:=wR hfit
                  obtain ⟨hI,hF⟩:=mI hx id ho cc (cc.toList.take (0*(x.H id).sz)++(List.range (new.length*n)).map f++cc.toList.drop (0*(x.H id).sz+((List.range (new.length*n)).map f).length)).toArray h1
                    (by simp at hfit ⊢; omega) (x.H id).ver new (Nat.le_refl _) (fun _=>by rw [hnl,hlen])
                    (by
                      have:new.isEmpty=false:=by
                        cases hq:new with
                        |nil=>rw [hq] at hnl; exact absurd hnl.symm h0
                        |cons a l=>rfl
                      rw [this,Bool.and_false])
                    (fun r hr=>by rw [hsz]; exact hnsz r hr)
                    (by rw [hnl,hlen]; exact h3)
                    (fun r row j v hr hj=>by
                      have h5:=(gH hnsz (Nat.le_refl _) hr hj).1
                      rw [Array.getD_eq_getD_getElem?,hseg,if_pos (by simp [hsz]; exact h5),hsz]
                      simp [List.getElem?_range h5]
                      exact hrel _ _ _ _ hr hj)
                  refine ⟨_,?_,?_,hI,hF⟩
                  · rw [hr]
                    rw [hnl,show Nat.min m m=m from Nat.min_self m]; rfl
                  · simp only
                    congr 1
                    have:=eL ho
                    cases hq:x.H id
                    simp_all
            · cases h
          · cases h
        · cases h
      · cases h
    · cases h
  · cases h
end
end Go.Proofs.YteehaobohaecmaaGreatDoor


namespace Go.Proofs.YteehaobohaecmaaGreatDoor
open Go
section
variable {P:Program} {x:Cx}
theorem aK5 (hx : Inv x) {u : V} {cu : Value} {new : List (List V)} {esz : Nat} {tx : TypeId} (hk : (∃ e', P.underlying tx = some (.slice e')) ∨ P.underlying tx = some .string) (h : aDg x.H u = some new) (hf : iU esz new = true) (hu : R x u cu) :
    ∃ news:List Value,Src P esz tx cu new.length news x.w∧ ∀ (r:Nat) (row:List V) (j:Nat) (v:V),new[r]?=some row→row[j]?=some v→R x v (news.getD (r*esz+j) undef):=by
  unfold aDg at h
  split at h
  · rename_i s
    cases h
    cases hu
    cases s with
    |nil=>exact ⟨[],⟨hk,fun _=>rfl,by simp [Builtin.firstCells],by simp [Builtin.firstCells],by simp,fun _ h=>by cases h⟩,fun r row j v h=>by simp at h⟩
    | cons b l =>
      have h1:esz=1:=by
        have:=(iW hf).1 _ (List.mem_map_of_mem (List.mem_cons_self (a:=b) (l:=l)))
        simpa using this.symm
      subst h1
      generalize hs:b::l=s
      have hS:=Src.ofString (P:=P) (w:=x.w) (tx:=tx)
      have hsz:(⟨s.toArray⟩:ByteArray).size=s.length:=by simp [ByteArray.size]
      refine ⟨Go.byteCells ⟨s.toArray⟩,⟨hk,fun w'=>by simp [Builtin.lenOf,hsz],?_,?_,?_,?_⟩,fun r row j v h1 h2=>?_⟩
      · have:=firstCells_string (P:=P) ⟨s.toArray⟩ x.w; rw [hsz] at this; simpa using this
      · have:=firstCells_string (P:=P) ⟨s.toArray⟩ x.w.drew; rw [hsz] at this; simpa using this
      · rw [byteCells_length,hsz]; simp
      · intro u hu
        obtain ⟨_,_,rfl⟩:=List.mem_map.1 hu
        rfl
      · rw [List.getElem?_map] at h1
        obtain ⟨c,hc,rfl⟩:=Option.map_eq_some_iff.1 h1
        have hj:j=0:=by
          cases j with
          |zero=>rfl
          |succ j=>simp at h2
        subst hj
        simp only [List.getElem?_cons_zero,Option.some.injEq] at h2
        subst h2
        have:(Go.byteCells ⟨s.toArray⟩).getD (r*1+0) undef=.int .u8 (c.toNat:Nat):=by
          rw [List.getD_eq_getElem?_getD]
          simp [Go.byteCells,hc]
        rw [this]
        exact .int _ _
  · rcases uM hx h hf hu with ⟨b0,rfl,rfl⟩|⟨ad,ca,f,rfl,hcell,hrel⟩
    · refine ⟨[],⟨hk,fun _=>rfl,?_,?_,by simp,fun _ h=>by cases h⟩,fun r row j v h=>by simp at h⟩ <;>
        cases b0 <;> simp [Builtin.firstCells,loadCells,loadCellsFrom]
    · have hnews: ∀ (j:Nat) (v:Value),((List.range (new.length*esz)).map f)[j]?=some v→x.w.cell? (ad.add j)=some v:=fun j v hj=>by
        simp only [List.getElem?_map] at hj
        have hlt:j < new.length*esz:=by
          rcases Nat.lt_or_ge j (new.length*esz) with h|h
          · exact h
          · simp [h] at hj
        simp [List.getElem?_range hlt] at hj
        rw [← hj]; exact (hcell j hlt).1
      refine ⟨(List.range (new.length*esz)).map f,⟨hk,fun _=>rfl,run_firstCells_some x.w esz new.length ad new.length ca _ (by simp) hnews,
        run_firstCells_some x.w.drew esz new.length ad new.length ca _ (by simp) (by simpa using hnews),by simp,fun u hu=>?_⟩,fun r row j v h1 h2=>?_⟩
      · obtain ⟨k,hk,rfl⟩:=List.mem_map.1 hu
        exact (hcell k (List.mem_range.1 hk)).2
      · have h3:=(gH (iW hf).1 (Nat.le_refl _) h1 h2).1
        have:((List.range (new.length*esz)).map f).getD (r*esz+j) undef=f (r*esz+j):=by
          rw [List.getD_eq_getElem?_getD]; simp [List.getElem?_range h3]
        rw [this]
        exact hrel _ _ _ _ h1 h2
theorem qD (w:World) (t tx ty e:TypeId) (i:TypeInfo) (ht:P.underlying t=some (.slice e)) (hi:P.info? e=some i)
    (g sLen sCap:Nat) (cur:Array Value) (hg:w.heap[g]?=some (.cells cur e (0,0))) (cu:Value) (m:Nat) (news:List Value) (hs:Src P i.size tx cu m news w)
    (hroom:sLen+m≤sCap) (hfit:sLen*i.size+news.length≤cur.size):
    (Builtin.append_ #[t,tx] ty #[.slice (some ⟨g,0,none⟩) sLen sCap,cu]).run P w=
      .ok (.slice (some ⟨g,0,none⟩) (sLen+m) sCap) (w.setRow g (cur.toList.take (sLen*i.size)++news++cur.toList.drop (sLen*i.size+news.length)).toArray):=by
  have hst:=run_storeCells_at P g (sLen*i.size) e news 0 cur w hg (by simpa using hfit) hs.one
  simp only [Nat.add_zero] at hst
  rcases hs.kind with ⟨e',hk⟩|hk <;> simp [Builtin.append_,run_underlying ht,run_underlying hk,sizeOf,typeInfo,hi,hs.len,hroom,hs.cells,Addr.add_lit,hst]
theorem aDd (hx : Inv x) {t tx e esz bytes : Nat} {z : List V} {info : TypeInfo} (ht : P.underlying t = some (.slice e)) (hk : (∃ e', P.underlying tx = some (.slice e')) ∨ P.underlying tx = some .string) (hi : P.info? e = some info) (hz : gP P e = some z) (hs : info.size = esz) (hby : info.bytes = bytes) (hzl : z.length = esz) (_h0 : esz ≠ 0)
    {i ver len:Nat} {u:V} {cs cu:Value} {new:List (List V)} (hl:(x.H i).live=true) (hv:(x.H i).ver=ver) (hlen:len=(x.H i).rows.length) (hty:(x.H i).ty=e) (hsz:(x.H i).sz=esz)
    (hn:aDg x.H u=some new) (hf:iU esz new=true) (hb:(len+new.length)*bytes≤140737488355328) (hm:len+new.length≤9223372036854775807)
    (hrs:R x (.ms i ver 0 len) cs) (hu:R x u cu) (ty:TypeId):
    ∃ y c,(Builtin.append_ #[t,tx] ty #[cs,cu]).run P x.w=.ok c y.w∧y.H=upd x.H i {x.H i with ver:=ver+1,rows:=(x.H i).rows++new}∧Inv y∧Frame x y∧R y (.ms i (ver+1) 0 (len+new.length)) c:=by
  obtain ⟨zv,hz1,⟨info',hi',hzz⟩,hzc⟩:=nF (P:=P) x hz x.w
  rw [hi] at hi'; cases hi'
  obtain ⟨hnsz,hnone⟩:=iW hf
  obtain ⟨news,hS,hrel⟩:=aK5 (P:=P) hx hk hn hf hu
  have hnl:=hS.newsLen
  subst hv
  have hH: ∀ rows',(⟨(x.H i).ver+1,true,(x.H i).lz,(x.H i).ty,(x.H i).sz,rows'⟩:Blk)={x.H i with ver:=(x.H i).ver+1,rows:=rows'}:=fun rows'=>by
    cases hq:x.H i; simp_all
  have hmul:(len+new.length)*esz=len*esz+new.length*esz:=Nat.add_mul _ _ _
  have hS0:new.length=0→Src P info.size tx cu 0 [] x.w:=fun h=>by
    have e1:news=[]:=List.eq_nil_of_length_eq_zero (by rw [hnl,h,Nat.zero_mul])
    rw [h,e1] at hS; rw [hs]; exact hS
  rw [← hs] at hS
  cases hrs with
  | ms _ _ _ _ b m cap hv' hh hnm' =>
    have hnm:=hnm' rfl hl
    have hnm2:((x.H i).lz&&decide (4294967296≤e))=false:=by have q:=hnm; unfold Blk.isM at q; rw [hty] at q; exact q
    obtain ⟨e1,e2,e3,e4,e5,e6⟩:=hh rfl hl
    subst e1
    cases ho:(x.H i).own with
    | false =>
      have e8:=e6 ho
      have hm0:m=0:=by omega
      subst hm0
      subst e8
      have hrows:(x.H i).rows=[]:=List.eq_nil_of_length_eq_zero hlen.symm
      have hlz:(x.H i).lz=true:=by
        unfold Blk.own at ho
        rw [hl,hrows] at ho
        simpa using ho
      by_cases hn0:new.length=0
      · have hnew:new=[]:=List.eq_nil_of_length_eq_zero hn0
        subst hnew
        obtain ⟨hI,hF,hR⟩:=lY hx i e esz (by have q:=hnm2; rw [hlz,Bool.true_and] at q; exact Nat.not_le.1 (of_decide_eq_false q))
        refine ⟨_,_,?_,?_,hI,hF,by simpa using hR b⟩
        · exact run_append_nothing x.w t tx ty e info ht hi b 0 0 (Nat.le_refl _) cu (hS0 rfl)
        simp only; rw [hrows,← hH]; simp [hlz,hty,hsz]
      · have hr:=run_append_grow_src (P:=P) x.w t tx ty e info zv ht hi hzz b 0 0 [] (by cases b <;> simp [Builtin.firstCells,loadCells,loadCellsFrom]) cu new.length news hS (by omega) (by omega) (by rw [Nat.zero_add,nextslicecap_zero (by omega),hby]; simp at hb; omega)
        rw [List.nil_append,Nat.zero_add] at hr
        obtain ⟨dI,dF⟩:=kJ hx (x.w.drawn+1) (Nat.le_succ _)
        have hcap:=grownCap_ge x.w new.length 0 e
        have hcapm:grownCap x.w new.length 0 e≤maxLen:=grownCap_le_maxLen x.w _ _ e (by unfold maxLen; omega)
        have hzs:zv.cells.size=esz:=by rw [hzc.1,hzl]
        have hcc:(news.toArray++Builtin.zeroCells zv.cells (grownCap x.w new.length 0 e - new.length)).size=grownCap x.w new.length 0 e*esz:=by
          simp only [Array.size_append,size_zeroCells,hzs]
          simp only [List.size_toArray,hnl,← Nat.add_mul]
          congr 1; omega
        obtain ⟨hI,hF⟩:=oG dI i (news.toArray++Builtin.zeroCells zv.cells (grownCap x.w new.length 0 e - new.length)) (x.H i).lz e esz new hnsz
          (by rw [hcc]; exact Nat.mul_le_mul_right _ hcap) (fun r row j v h1 h2 => by
            have h3:=(gH hnsz (Nat.le_refl _) h1 h2).1
            have:(news.toArray++Builtin.zeroCells zv.cells (grownCap x.w new.length 0 e - new.length)).getD (r*esz+j) undef=news.getD (r*esz+j) undef:=by
              rw [Array.getD_eq_getD_getElem?,Array.getElem?_append_left (by simpa [hnl] using h3),List.getD_eq_getElem?_getD]
              simp
            rw [this]
            exact (hrel _ _ _ _ h1 h2).frame hx dF) hnm2
        refine ⟨_,_,hr,?_,hI,dF.trans hF,.ms _ _ _ _ _ _ _ (by simp [aK]) (fun _ _=>?_) fun _ _=>by simp only [aK]; first|exact hnm2|exact hnm⟩
        · simp only; rw [hrows,← hH]; simp [hty,hsz]
        · simp only [aK]
          refine ⟨by simp,by simpa using hcap,hcapm,by simp,fun _=>⟨by simp,?_⟩,fun h=>?_⟩
          · rw [oA,hcc,Nat.zero_add]
          · exfalso
            unfold Blk.own at h
            simp at h
            exact hn0 (by rw [h.2]; rfl)
    | true =>
      obtain ⟨e7,e8⟩:=e5 ho
      obtain ⟨cc,h1,h2,h3,h4⟩:=hx.cel i ho hnm
      rw [Nat.zero_mul] at e7
      subst e7
      rw [Nat.zero_add] at e8
      have hrs:dX x.w (x.σ i)=cc.size:=by unfold dX; rw [h1]
      rw [hrs,hsz] at e8
      rw [hsz] at h2 h3 h4
      rw [hty] at h1
      have hlzr:((x.H i).lz&&((x.H i).rows++new).isEmpty)=false:=by
        have:=aJj ho
        cases hq:(x.H i).lz <;> simp_all
      by_cases hroom:m+new.length≤cap
      · have hfit:m*info.size+news.length≤cc.size:=by
          rw [hnl,hs,← Nat.add_mul,← e8]; exact Nat.mul_le_mul_right _ hroom
        have hr:=qD (P:=P) x.w t tx ty e info ht hi (x.σ i) m cap cc h1 cu new.length news hS hroom hfit
        rw [hs] at hr hfit
        have hseg:=wR hfit
        obtain ⟨hI,hF⟩:=mI hx i ho cc (cc.toList.take (m*esz)++news++cc.toList.drop (m*esz+news.length)).toArray (by rw [hty]; exact h1) (by
            simp at hfit ⊢; omega) ((x.H i).ver+1) ((x.H i).rows++new) (by omega) (by omega) hlzr (by
            rw [hsz]; intro r hr; rcases List.mem_append.1 hr with hr|hr
            · exact h2 r hr
            · exact hnsz r hr) (by rw [hsz,List.length_append,← hlen,← e8]; exact Nat.mul_le_mul_right _ hroom) (by
            rw [hsz]
            refine aCr _ (fun r row j v hr hj=>?_) (fun r row j v hr hj=>?_)
            · have h5:=(gH h2 (Nat.le_refl _) hr hj).1
              rw [← hlen] at h5
              rw [Array.getD_eq_getD_getElem?,hseg,if_neg (by omega),← Array.getD_eq_getD_getElem?]
              exact h4 _ _ _ _ hr hj
            · have h5:=(gH hnsz (Nat.le_refl _) hr hj).1
              rw [← hlen,Array.getD_eq_getD_getElem?,hseg,if_pos (by rw [hnl]; omega),show m*esz+(r*esz+j) - m*esz=r*esz+j by omega,← List.getD_eq_getElem?_getD]
              exact hrel _ _ _ _ hr hj)
        refine ⟨_,_,hr,?_,hI,hF,.ms _ _ _ _ _ _ _ (by simp [aK]) (fun _ _=>?_) fun _ _=>by simp only [aK]; first|exact hnm2|exact hnm⟩
        · simp only; rw [hH]
        · simp only [aK]
          refine ⟨trivial,hroom,e3,by simp; omega,fun _=>⟨by simp,?_⟩,fun h=>?_⟩
          · have:dX (x.w.setRow (x.σ i) (cc.toList.take (m*esz)++news++cc.toList.drop (m*esz+news.length)).toArray) (x.σ i)=cc.size:=by
              unfold dX
              rw [setRow_heap x.w _ cc _ _ _ h1]
              simp at hfit ⊢; omega
            rw [this,hsz,Nat.zero_add]; exact e8
          · exfalso; unfold Blk.own at h; simp only [hlzr] at h; simp at h
      · have holds:(Builtin.firstCells info.size m (.slice (some ⟨x.σ i,0,none⟩) m cap)).run P x.w.drew=.ok (cc.toList.take (m*esz)).toArray x.w.drew:=by
          refine run_firstCells_some x.w.drew info.size m ⟨x.σ i,0,none⟩ m cap _ (by simp [hs]; rw [← e8]; exact Nat.min_eq_left (Nat.mul_le_mul_right _ e2)) fun j v hj=>?_
          simp only [List.getElem?_take] at hj
          split at hj
          · rw [Addr.add_lit,Nat.zero_add]
            have:x.w.drew.heap[x.σ i]?=some (.cells cc e (0,0)):=h1
            simp only [World.cell?,this]
            simpa using hj
          · cases hj
        have hml:m*esz≤cc.size:=by rw [← e8]; exact Nat.mul_le_mul_right _ e2
        have hr:=run_append_grow_src (P:=P) x.w t tx ty e info zv ht hi hzz (some ⟨x.σ i,0,none⟩) m cap (cc.toList.take (m*esz)) holds cu new.length news hS (by omega) (by omega) (growslice_fits (by omega) (by rw [hby]; exact hb))
        obtain ⟨dI,dF⟩:=kJ hx (x.w.drawn+1) (Nat.le_succ _)
        have hcap:=grownCap_ge x.w (m+new.length) cap e
        have hcapm:grownCap x.w (m+new.length) cap e≤maxLen:=grownCap_le_maxLen x.w _ _ e (by unfold maxLen; omega)
        have hzs:zv.cells.size=esz:=by rw [hzc.1,hzl]
        have hl1:(cc.toList.take (m*esz)).length=m*esz:=by simp; omega
        generalize hCC:(cc.toList.take (m*esz)++news).toArray++Builtin.zeroCells zv.cells (grownCap x.w (m+new.length) cap e - (m+new.length))=CC at hr
        have hcc:CC.size=grownCap x.w (m+new.length) cap e*esz:=by
          rw [← hCC]
          simp only [Array.size_append,size_zeroCells,hzs,List.size_toArray,List.length_append,hl1,hnl,← Nat.add_mul]
          congr 1; omega
        have hleft: ∀ k,k < m*esz→CC[k]?=cc[k]?:=fun k hk=>by
          rw [← hCC,Array.getElem?_append_left (by simp only [List.size_toArray,List.length_append,hl1]; omega),List.getElem?_toArray,List.getElem?_append_left (by omega)]
          simp [hk]
        have hright: ∀ k,k < new.length*esz→CC[m*esz+k]?=news[k]?:=fun k hk=>by
          rw [← hCC,Array.getElem?_append_left (by simp only [List.size_toArray,List.length_append,hl1,hnl]; omega),List.getElem?_toArray,List.getElem?_append_right (by omega),hl1]
          congr 1; omega
        obtain ⟨hI,hF⟩:=oG dI i CC (x.H i).lz e esz ((x.H i).rows++new) (by
            intro r hr; rcases List.mem_append.1 hr with hr|hr
            · exact h2 r hr
            · exact hnsz r hr) (by rw [hcc,List.length_append,← hlen]; exact Nat.mul_le_mul_right _ hcap) (by
            refine aCr _ (fun r row j v hr hj=>?_) (fun r row j v hr hj=>?_)
            · have h5:=(gH h2 (Nat.le_refl _) hr hj).1
              rw [← hlen] at h5
              rw [Array.getD_eq_getD_getElem?,hleft _ h5,← Array.getD_eq_getD_getElem?]
              exact (h4 _ _ _ _ hr hj).frame hx dF
            · have h5:=(gH hnsz (Nat.le_refl _) hr hj).1
              rw [← hlen,Array.getD_eq_getD_getElem?,hright _ h5,← List.getD_eq_getElem?_getD]
              exact (hrel _ _ _ _ hr hj).frame hx dF) hnm2
        refine ⟨_,_,hr,?_,hI,dF.trans hF,.ms _ _ _ _ _ _ _ (by simp [aK]) (fun _ _=>?_) fun _ _=>by simp only [aK]; first|exact hnm2|exact hnm⟩
        · simp only; rw [← hH]; simp [hty,hsz]
        · simp only [aK]
          refine ⟨trivial,hcap,hcapm,by simp; omega,fun _=>⟨by simp,?_⟩,fun h=>?_⟩
          · rw [oA,hcc,Nat.zero_add]
          · exfalso; unfold Blk.own at h; simp only [hlzr] at h; simp at h
end
end Go.Proofs.YteehaobohaecmaaGreatDoor


