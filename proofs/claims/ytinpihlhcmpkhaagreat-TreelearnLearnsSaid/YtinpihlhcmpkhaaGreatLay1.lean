/- The layer: abstract values for memory and their soundness; no condition. -/
import Derived.WalkKit
import Derived.Laws.BytesArg
import Derived.Laws.StructEq
import Derived.ChangeKeysEq
import Derived.IntWalk
import Derived.Deep.Upon
set_option linter.unusedSimpArgs false
set_option linter.unusedVariables false
namespace Go.Proofs.YtinpihlhcmpkhaaGreat
theorem J.{u} {α:Sort u} {a:α}:a=a:=rfl
theorem OM {p:Prop} (h:p:=by omega):p:=h
theorem DE {p:Prop} (h:p:=by decide):p:=h
theorem SI {p:Prop} (h:p:=by simp):p:=h
theorem JR {p:Prop} (h:p:=by rfl):p:=h
open Go
def aRX:List (Nat×Array Value):=[]
end Go.Proofs.YtinpihlhcmpkhaaGreat


namespace Go.Proofs.YtinpihlhcmpkhaaGreat
open Go
inductive V where
  |int (k:IntKind) (n:Int)
  |bool (b:Bool)
  |str (s:List UInt8)
  |sl (rows:List (List V))
  |nilsl
  |ms (id ver off len:Nat)
  |pp (cells:List V)
  |nilp
  |mp (id ver row off:Nat)
  |agg (cells:List V)
  |tup (vs:List V)
  |fn (f:Nat) (first caps:List V)
  |raw (c:Value)
  |mm (id ver:Nat)
instance:Inhabited V:=⟨.nilp⟩
structure Blk where
  ver:Nat
  live:Bool
  lz:Bool
  ty:TypeId
  sz:Nat
  rows:List (List V)
def Blk.own (b:Blk):Bool:=b.live&& !(b.lz&&b.rows.isEmpty)
def Blk.isM (b:Blk):Bool:=b.lz&&decide (4294967296<=b.ty)
def aMJ (n:Nat) (cc:Array Value):Obj:=.map (Array.ofFn λi:Fin n=>⟨cc.getD (2*(i.val+1)) undef,cc.getD (2*(i.val+1)+1) undef,i.val⟩) n
def Blk.obj (b:Blk) (cc:Array Value):Obj:=if b.isM then aMJ (b.rows.length - 1) cc else .cells cc b.ty (0,0)
theorem aAz {b:Blk} {cc:Array Value} (h:b.isM=false):b.obj cc=.cells cc b.ty (0,0):=by grind [Blk.obj]
theorem aOT {b:Blk} {cc:Array Value} (h:b.isM=true):b.obj cc=aMJ (b.rows.length - 1) cc:=by grind [Blk.obj]
theorem aFn {b:Blk} {cc cc':Array Value} {ty:TypeId} {m:Nat×Nat} (h:b.obj cc=.cells cc' ty m):b.isM=false:=by
  cases q:b.isM with
  |false=>rfl
  |true=>rw [aOT q] at h; cases h
theorem iK {b:Blk} (h:b.own=true):b.live=true:=by grind [Blk.own]
abbrev aT:=Nat->Blk
structure Cx where
  w:World
  Z:Nat->Prop
  σ:Nat->Nat
  H:aT
def fE (w:World) (b:Nat):Nat:=match w.heap[b]? with|some (.cells c _ _)=>c.size|_=>0
def aMR:Value->Bool
  | .agg _=>false
  |_=>true
inductive R (x:Cx):V->Value->Prop where
  |int (k:IntKind) (n:Int):R x (.int k n) (.int k n)
  |bool (b:Bool):R x (.bool b) (.bool b)
  |str (s:List UInt8):R x (.str s) (.string ⟨s.toArray⟩)
  |nilsl:R x .nilsl (.slice none 0 0)
  |slnil:R x (.sl []) (.slice none 0 0)
  |sl (rows:List (List V)) (a:Addr) (cap sz:Nat) (cs:Nat->Value) (hc:rows.length<=cap) (hm:cap<=maxLen)
      (hz:rows≠[]->x.Z a.block) (hsz: ∀ r∈rows,r.length=sz)
      (hcell: ∀ (r:Nat) (row:List V) (j:Nat) (v:V),rows[r]?=some row->row[j]?=some v->x.w.cell? (a.add<|r*sz+j)=some (cs<|r*sz+j))
      (h: ∀ (r:Nat) (row:List V) (j:Nat) (v:V),rows[r]?=some row->row[j]?=some v->R x v (cs<|r*sz+j)):
      R x (.sl rows) (.slice (some a) rows.length cap)
  | ms (id ver off len : Nat) (b : Option Addr) (n cap : Nat) (hv : ver <= (x.H id).ver)
      (h:(x.H id).ver=ver->(x.H id).live=true->n=len/\len<=cap/\cap<=maxLen/\off+len<=(x.H id).rows.length/\
        ((x.H id).own=true->b=some ⟨x.σ id,off*(x.H id).sz,none⟩/\(off+cap)*(x.H id).sz=fE x.w (x.σ id))/\((x.H id).own=false->cap=0))
      (hm:(x.H id).ver=ver->(x.H id).live=true->(x.H id).isM=false):
      R x (.ms id ver off len) (.slice b n cap)
  |pp (cells:List V) (a:Addr) (cs:Nat->Value) (hz:cells≠[]->x.Z a.block)
      (hcell: ∀ (j:Nat) (v:V),cells[j]?=some v->x.w.cell? (a.add j)=some (cs j))
      (h: ∀ (j:Nat) (v:V),cells[j]?=some v->R x v (cs j)):R x (.pp cells) (.pointer (some a))
  |nilp:R x .nilp (.pointer none)
  |mp (id ver row off:Nat) (p:Addr) (hv:ver<=(x.H id).ver)
      (h:(x.H id).ver=ver->(x.H id).own=true->p=⟨x.σ id,row*(x.H id).sz+off,none⟩) (hm:(x.H id).ver=ver->(x.H id).own=true->(x.H id).isM=false):R x (.mp id ver row off) (.pointer (some p))
  |agg (cells:List V) (cs:Array Value) (hs:cs.size=cells.length)
      (h: ∀ (j:Nat) (v:V),cells[j]?=some v->R x v (cs.getD j undef)):R x (.agg cells) (.agg cs)
  |tup (vs:List V) (cs:Array Value) (hs:cs.size=vs.length)
      (h: ∀ (j:Nat) (v:V),vs[j]?=some v->R x v (cs.getD j undef)):R x (.tup vs) (.tuple cs)
  |fn (f:Nat) (first caps:List V) (fs cs:Array Value) (hfs:fs.size=first.length) (hcs:cs.size=caps.length)
      (hf: ∀ (j:Nat) (v:V),first[j]?=some v->R x v (fs.getD j undef))
      (hc: ∀ (j:Nat) (v:V),caps[j]?=some v->R x v (cs.getD j undef)):R x (.fn f first caps) (.func (.func f) fs cs)
  |raw (c:Value) (h:aMR c=true):R x (.raw c) c
  |mm (id ver:Nat) (b:Nat) (hv:ver<=(x.H id).ver) (h:(x.H id).ver=ver->(x.H id).own=true->(x.H id).isM=true/\b=x.σ id):R x (.mm id ver) (.map (some b))
def aOp (w:World) (Z:Nat->Prop):Prop:= ∀ p∈aRX,Z p.1/\ ∃ ty m,w.heap[p.1]?=some (.cells p.2 ty m)
structure Inv (x:Cx):Prop where
  zlt: ∀ b,x.Z b->b < x.w.heap.size
  zown: ∀ b id,x.Z b->(x.H id).own=true->x.σ id≠b
  blk: ∀ id,(x.H id).own=true-> ∃ cc,x.w.heap[x.σ id]?=some ((x.H id).obj cc)/\(∀ r∈(x.H id).rows,r.length=(x.H id).sz)/\
    (x.H id).rows.length*(x.H id).sz<=cc.size/\
    ∀ (r:Nat) (row:List V) (j:Nat) (v:V),(x.H id).rows[r]?=some row->row[j]?=some v->R x v (cc.getD (r*(x.H id).sz+j) undef)
  inj: ∀ i j,(x.H i).own=true->(x.H j).own=true->x.σ i=x.σ j->i=j
  tab:aOp x.w x.Z
structure Frame (x y:Cx):Prop where
  os:y.w.os=x.w.os
  tape:y.w.tape=x.w.tape
  output:y.w.output=x.w.output
  size:x.w.heap.size<=y.w.heap.size
  keep: ∀ b,b < x.w.heap.size->(∀ id,(x.H id).own=true->x.σ id≠b)->y.w.heap[b]?=x.w.heap[b]?
  zone: ∀ b,x.Z b->y.Z b
  zold: ∀ b,y.Z b->x.Z b\/x.w.heap.size<=b\/ ∃ id,(x.H id).own=true/\x.σ id=b
  ids: ∀ id,(x.H id).ver<=(y.H id).ver/\((y.H id).live=true->(y.H id).ver=(x.H id).ver->
    (x.H id).live=true/\(y.H id).own=(x.H id).own/\(y.H id).sz=(x.H id).sz/\((x.H id).isM=false->(y.H id).rows.length=(x.H id).rows.length)/\
    ((x.H id).own=true->y.σ id=x.σ id/\fE y.w (x.σ id)=fE x.w (x.σ id)))
  fresh: ∀ id,(y.H id).own=true->((x.H id).own=true/\y.σ id=x.σ id)\/x.w.heap.size<=y.σ id
  drawn:x.w.drawn<=y.w.drawn
  ism: ∀ id,(y.H id).live=true->(y.H id).ver=(x.H id).ver->(y.H id).isM=(x.H id).isM
theorem Inv.tab_of {x y:Cx} (hx:Inv x) (h:Frame x y):aOp y.w y.Z:=λp hp=>by
  obtain ⟨h1,h2⟩:=hx.tab p hp;exact ⟨h.zone _ h1,by rw [h.keep _ (hx.zlt _ h1) λid ho=>hx.zown _ id h1 ho]; exact h2⟩
theorem Frame.refl (x:Cx):Frame x x:=
  ⟨J,J,J,Nat.le_refl _,λ_ _ _=>J,λ_ h=>h,λ_ h=>.inl h,λ_=>⟨Nat.le_refl _,λh _=>⟨h,J,J,λ_=>J,λ_=>⟨J,J⟩⟩⟩,λ_ h=>.inl ⟨h,J⟩,Nat.le_refl _,λ_ _ _=>J⟩
theorem Frame.trans {x y z:Cx} (h:Frame x y) (k:Frame y z):Frame x z where
  os:=k.os.trans h.os
  tape:=k.tape.trans h.tape
  output:=k.output.trans h.output
  size:=Nat.le_trans h.size k.size
  keep:=λb hb hn=>by
    rw [k.keep b (Nat.lt_of_lt_of_le hb h.size),h.keep b hb hn];intro id hl he;rcases h.fresh id hl with ⟨h1,h2⟩|h1
    . exact hn id h1<|h2 ▸ he
    . omega
  zone:=λb hb=>k.zone b<|h.zone b hb
  zold:=λb hb=>by
    rcases k.zold b hb with h1|h1|⟨id,h1,h2⟩
    . exact h.zold b h1
    . have:=h.size; exact .inr (.inl OM)
    . rcases h.fresh id h1 with ⟨h3,h4⟩|h3
      . exact .inr (.inr ⟨id,h3,h4 ▸ h2⟩)
      . exact .inr (.inl (h2 ▸ h3))
  ids:=λid=>by
    obtain ⟨h1,h2⟩:=h.ids id;obtain ⟨k1,k2⟩:=k.ids id;refine ⟨OM,λhl hv=>?_⟩;obtain ⟨a1,a2,a3,a4,a5⟩:=k2 hl OM;obtain ⟨b1,b2,b3,b4,b5⟩:=h2 a1 OM;refine ⟨b1,a2.trans b2,a3.trans b3,λq=>(a4 (by rw [h.ism id a1 OM]; exact q)).trans (b4 q),λho=>?_⟩;obtain ⟨c1,c2⟩:=b5 ho;obtain ⟨d1,d2⟩:=a5 (by rw [b2]; exact ho);exact ⟨d1.trans c1,by rw [<- c1,d2,c1,c2]⟩
  fresh:=λid hl=>by
    rcases k.fresh id hl with ⟨h1,h2⟩|h1
    . rw [h2]; exact h.fresh id h1
    . have:=h.size; exact .inr OM
  drawn:=Nat.le_trans h.drawn k.drawn
  ism:=λid hl hv=>by
    obtain ⟨h1,_⟩:=h.ids id;obtain ⟨k1,k2⟩:=k.ids id;obtain ⟨a1,_⟩:=k2 hl OM;rw [k.ism id hl OM,h.ism id a1 OM]
theorem iQ (a:Addr) (n:Nat):(a.add n).block=a.block:=by unfold Addr.add; split <;> rfl
theorem oG (a:Addr) (m n:Nat):(a.add m).add n=a.add (m+n):=by grind [Addr.add]
theorem yA {w w':World} {a:Addr} (h:w'.heap[a.block]?=w.heap[a.block]?):w'.cell? a=w.cell? a:=by simp [World.cell?,h]
theorem R.frame {x y:Cx} (hx:Inv x) (h:Frame x y) {v:V} {c:Value} (r:R x v c):R y v c:=by
  have keep: ∀ a:Addr,x.Z a.block-> ∀ n,y.w.cell? (a.add n)=x.w.cell? (a.add n):=λa ha n=>by
    refine yA ?_;rw [iQ];exact h.keep _ (hx.zlt _ ha) λid hl=>hx.zown _ id ha hl
  induction r with
  |int k n=>exact .int k n
  |bool b=>exact .bool b
  |str s=>exact .str s
  |nilsl=>exact .nilsl
  |slnil=>exact .slnil
  | sl rows a cap sz cs hc hm hz hsz hcell _ ih =>
    refine .sl rows a cap sz cs hc hm (λhne=>h.zone _<|hz hne) hsz (λr row j v hr hj=>?_) ih
    grind
  | ms id ver off len b n cap hv hh hm =>
    obtain ⟨h1,h2⟩:=h.ids id
    refine .ms id ver off len b n cap OM (λhe hl=>?_) λhe hl=>by
      obtain ⟨a1,_⟩:=h2 hl OM;rw [h.ism id hl OM]; exact hm OM a1
    grind
  | pp cells a cs hz hcell _ ih =>
    refine .pp cells a cs (λhne=>h.zone _<|hz hne) (λj v hj=>?_) ih
    grind
  |nilp=>exact .nilp
  | mp id ver row off p hv hh hm =>
    obtain ⟨h1,h2⟩:=h.ids id
    refine .mp id ver row off p OM (λhe ho=>?_) λhe ho=>by
      obtain ⟨a1,a2,_⟩:=h2 (iK ho) OM;rw [h.ism id (iK ho) OM]; exact hm OM (by rw [<- a2]; exact ho)
    grind [iK]
  |agg cells cs hs _ ih=>exact .agg cells cs hs ih
  |tup vs cs hs _ ih=>exact .tup vs cs hs ih
  |fn f first caps fs cs hfs hcs _ _ ih1 ih2=>exact .fn f first caps fs cs hfs hcs ih1 ih2
  |raw c hh=>exact .raw c hh
  | mm id ver b hv hh =>
    obtain ⟨h1,h2⟩:=h.ids id;refine .mm id ver b OM λhe ho=>?_;obtain ⟨a1,a2,a3,a4,a5⟩:=h2 (iK ho) OM;have ho':(x.H id).own=true:=by rw [<- a2]; exact ho
    obtain ⟨c1,c2⟩:=hh OM ho';exact ⟨by rw [h.ism id (iK ho) OM]; exact c1,by rw [c2,(a5 ho').1]⟩
def V.cells:V->List V
  | .agg cs=>cs
  |v=>[v]
def V.one:V->Bool
  | .agg _| .tup _=>false
  | .raw c=>c.oneCell'
  |_=>true
theorem R.one {x:Cx} {v:V} {c:Value} (h:R x v c) (ho:v.one=true):c.oneCell'=true:=by cases h <;> first|rfl|(simp [V.one] at ho; done)|(simpa [V.one] using ho)
theorem R.cells {x:Cx} {v:V} {c:Value} (h:R x v c):c.cells.size=v.cells.length/\ ∀ (j:Nat) (u:V),v.cells[j]?=some u->R x u (c.cells.getD j undef):=by
  have one: ∀ {v:V} {c:Value},R x v c->v.cells=[v]->c.cells=#[c]->c.cells.size=v.cells.length/\ ∀ (j:Nat) (u:V),v.cells[j]?=some u->R x u (c.cells.getD j undef):=by
    intro v c h e1 e2;rw [e1,e2];refine ⟨J,λj u hj=>?_⟩;cases j <;> simp_all
  cases h with
  |agg cells cs hs h=>exact ⟨hs,h⟩
  |raw c hh=>exact one (.raw c hh) rfl (by cases c <;> first|rfl|simp [aMR] at hh)
  |int k n=>exact one (.int k n) rfl rfl
  |bool b=>exact one (.bool b) rfl rfl
  |str s=>exact one (.str s) rfl rfl
  |nilsl=>exact one .nilsl rfl rfl
  |slnil=>exact one .slnil rfl rfl
  |sl rows a cap sz cs hc hm hz hsz hcell h=>exact one (.sl rows a cap sz cs hc hm hz hsz hcell h) rfl rfl
  |ms id ver off len b n cap hv hh hm=>exact one (.ms id ver off len b n cap hv hh hm) rfl rfl
  |mm id ver b hv hh=>exact one (.mm id ver b hv hh) rfl rfl
  |pp cells a cs hz hcell h=>exact one (.pp cells a cs hz hcell h) rfl rfl
  |nilp=>exact one .nilp rfl rfl
  |mp id ver row off p hv hh hm=>exact one (.mp id ver row off p hv hh hm) rfl rfl
  |tup vs cs hs h=>exact one (.tup vs cs hs h) rfl rfl
  |fn f first caps fs cs hfs hcs hf hc=>exact one (.fn f first caps fs cs hfs hcs hf hc) rfl rfl
def cU {α:Type} (f:Nat->α) (i:Nat) (v:α):Nat->α:=λj=>if j=i then v else f j
theorem aR {α:Type} (f:Nat->α) (i:Nat) (v:α):cU f i v i=v:=by simp [cU]
theorem bT {α:Type} (f:Nat->α) {i j:Nat} (v:α) (h:j≠i):cU f i v j=f j:=by simp [cU,h]
theorem rR {α:Type} (f:Nat->α) (i:Nat) (v:α) (j:Nat):cU f i v j=if j=i then v else f j:=J
theorem Inv.lt {x:Cx} (hx:Inv x) {id:Nat} (h:(x.H id).own=true):x.σ id < x.w.heap.size:=by
  obtain ⟨cc,h1,_⟩:=hx.blk id h
  grind
theorem Inv.cel {x:Cx} (hx:Inv x) (id:Nat) (h:(x.H id).own=true) (hm:(x.H id).isM=false): ∃ cc,x.w.heap[x.σ id]?=some (.cells cc (x.H id).ty (0,0))/\(∀ r∈(x.H id).rows,r.length=(x.H id).sz)/\
    (x.H id).rows.length*(x.H id).sz<=cc.size/\
    ∀ (r:Nat) (row:List V) (j:Nat) (v:V),(x.H id).rows[r]?=some row->row[j]?=some v->R x v (cc.getD (r*(x.H id).sz+j) undef):=by
  obtain ⟨cc,h1,h2⟩:=hx.blk id h
  grind [aAz]
theorem iY (w:World) (o:Obj) {b:Nat} (h:b < w.heap.size):(w.alloc o).heap[b]?=w.heap[b]?:=by
  show (w.heap.push o)[b]?=_
  grind
theorem kA (w:World) (o:Obj):(w.alloc o).heap[w.heap.size]?=some o:=by
  show (w.heap.push o)[w.heap.size]?=_
  grind
theorem yL (w:World) (o:Obj) {b:Nat} (h:b < w.heap.size):fE (w.alloc o) b=fE w b:=by grind [fE,iY]
theorem jH {x:Cx} (hx:Inv x) (n:Nat) (hn:x.w.drawn<=n):let y:Cx:={x with w:={x.w with drawn:=n}}; Inv y/\Frame x y:=by
  have hf:Frame x {x with w:={x.w with drawn:=n}}:=
    ⟨J,J,J,Nat.le_refl _,λ_ _ _=>J,λ_ h=>h,λ_ h=>.inl h,λ_=>⟨Nat.le_refl _,λh _=>⟨h,J,J,λ_=>J,λ_=>⟨J,J⟩⟩⟩,λ_ h=>.inl ⟨h,J⟩,hn,λ_ _ _=>J⟩
  refine ⟨⟨hx.zlt,hx.zown,λid hl=>?_,hx.inj,hx.tab_of hf⟩,hf⟩;obtain ⟨cc,h1,h2,h3,h4⟩:=hx.blk id hl;exact ⟨cc,h1,h2,h3,λr row j v hr hj=>(h4 r row j v hr hj).frame hx hf⟩
theorem aKm {x:Cx} (hx:Inv x) (o:Obj):let y:Cx:={x with w:=x.w.alloc o,Z:=λb=>x.Z b\/b=x.w.heap.size}; Inv y/\Frame x y:=by
  have hf:Frame x {x with w:=x.w.alloc o,Z:=λb=>x.Z b\/b=x.w.heap.size}:=by
    refine ⟨J,J,J,SI,λb hb _=>iY _ _ hb,λ_ h=>.inl h,λb h=>?_,λid=>⟨Nat.le_refl _,λh _=>⟨h,J,J,λ_=>J,λh=>⟨J,?_⟩⟩⟩,λ_ h=>.inl ⟨h,J⟩,Nat.le_refl _,λ_ _ _=>J⟩
    . rcases h with h|h
      . exact .inl h
      . exact .inr (.inl OM)
    . exact yL _ _<|hx.lt h
  refine ⟨⟨λb h=>?_,λb id h hl=>?_,λid hl=>?_,hx.inj,hx.tab_of hf⟩,hf⟩
  . simp only [World.size_alloc]
    rcases h with h|h
    . have:=hx.zlt b h; omega
    . omega
  . rcases h with h|h
    . exact hx.zown b id h hl
    . have:=hx.lt hl; intro e; have e':x.σ id=b:=e; omega
  . obtain ⟨cc,h1,h2,h3,h4⟩:=hx.blk id hl
    exact ⟨cc,by rw [iY _ _ (hx.lt hl)]; exact h1,h2,h3,λr row j v hr hj=>(h4 r row j v hr hj).frame hx hf⟩
theorem nH {x : Cx} (hx : Inv x) (id : Nat) (cc : Array Value) (lz : Bool) (ty : TypeId) (sz : Nat) (rows : List (List V))
    (hsz: ∀ r∈rows,r.length=sz) (hfit:rows.length*sz<=cc.size)
    (hR: ∀ (r:Nat) (row:List V) (j:Nat) (v:V),rows[r]?=some row->row[j]?=some v->R x v (cc.getD (r*sz+j) undef)) (hnm:(lz&&decide (4294967296<=ty))=false:=by rfl):
    let y:Cx:={x with w:=x.w.alloc (.cells cc ty),σ:=cU x.σ id x.w.heap.size,H:=cU x.H id ⟨(x.H id).ver+1,true,lz,ty,sz,rows⟩}
    Inv y/\Frame x y:=by
  intro y
  have hf:Frame x y:=by
    refine ⟨J,J,J,by simp [y],λb hb _=>iY _ _ hb,λ_ h=>h,λb h=>.inl h,λi=>?_,λi h=>?_,Nat.le_refl _,λi _ hv=>?_⟩
    . by_cases e:i=id
      . subst e; simp only [y,aR]; exact ⟨OM,λ_ h=>by omega⟩
      . simp only [y,bT _ _ e]
        exact ⟨Nat.le_refl _,λh _=>⟨h,trivial,trivial,λ_=>trivial,λh=>⟨trivial,yL _ _ (hx.lt h)⟩⟩⟩
    . by_cases e:i=id
      . subst e; simp only [y,aR]; exact .inr (Nat.le_refl _)
      . simp only [y,bT _ _ e] at h ⊢; exact .inl ⟨h,trivial⟩
    . by_cases e:i=id
      . subst e; simp only [y,aR] at hv; omega
      . simp only [y,bT _ _ e]
  refine ⟨⟨λb h=>?_,λb i h hl=>?_,λi hl=>?_,λi j hi hj he=>?_,hx.tab_of hf⟩,hf⟩
  . have:=hx.zlt b h; simp only [y,World.size_alloc]; omega
  . by_cases e:i=id
    . subst e; have:=hx.zlt b h; simp only [y,aR]; omega
    . simp only [y,bT _ _ e] at hl ⊢; exact hx.zown b i h hl
  . by_cases e:i=id
    . subst e
      simp only [y,aR];exact ⟨cc,by rw [aAz (by exact hnm)]; exact kA _ _,hsz,hfit,λr row j v hr hj=>(hR r row j v hr hj).frame hx hf⟩
    . have hl':=hl
      simp only [y,bT _ _ e] at hl;obtain ⟨dd,h1,h2,h3,h4⟩:=hx.blk i hl;simp only [y,bT _ _ e];exact ⟨dd,by rw [iY _ _ (hx.lt hl)]; exact h1,h2,h3,λr row j v hr hj=>(h4 r row j v hr hj).frame hx hf⟩
  . by_cases e:i=id <;> by_cases e':j=id
    . rw [e,e']
    . subst e
      simp only [y,aR,bT _ _ e'] at he hj;have:=hx.lt hj; omega
    . subst e'
      simp only [y,aR,bT _ _ e] at he hi;have:=hx.lt hi; omega
    . simp only [y,bT _ _ e,bT _ _ e'] at he hi hj
      exact hx.inj i j hi hj he
theorem aGU (w:World) (g:Nat) (cs:Array Value):(w.setRow g cs).heap.size=w.heap.size:=by simp [World.setRow]
theorem lN {x : Cx} (hx : Inv x) (id : Nat) (hl : (x.H id).own = true) (cc cc' : Array Value) (hcc : x.w.heap[x.σ id]? = some (.cells cc (x.H id).ty (0, 0)))
    (hsize:cc'.size=cc.size) (ver:Nat) (rows:List (List V)) (hver:(x.H id).ver<=ver) (hsame:ver=(x.H id).ver->rows.length=(x.H id).rows.length) (hown':((x.H id).lz&&rows.isEmpty)=false)
    (hsz: ∀ r∈rows,r.length=(x.H id).sz) (hfit:rows.length*(x.H id).sz<=cc.size)
    (hR: ∀ (r:Nat) (row:List V) (j:Nat) (v:V),rows[r]?=some row->row[j]?=some v->R x v (cc'.getD (r*(x.H id).sz+j) undef)):
    let y:Cx:={x with w:=x.w.setRow (x.σ id) cc',H:=cU x.H id ⟨ver,true,(x.H id).lz,(x.H id).ty,(x.H id).sz,rows⟩}
    Inv y/\Frame x y:=by
  intro y
  have hnm:(x.H id).isM=false:=by
    obtain ⟨c0,q,_⟩:=hx.blk id hl;rw [hcc] at q;injection q with q;exact aFn q.symm
  have hheap: ∀ b,b≠x.σ id->y.w.heap[b]?=x.w.heap[b]?:=λb hb=>setRow_other x.w _ b _ hb
  have hown:y.w.heap[x.σ id]?=some (.cells cc' (x.H id).ty (0,0)):=setRow_heap x.w _ cc _ _ _ hcc
  have hrs: ∀ b,fE y.w b=fE x.w b:=λb=>by
    by_cases e:b=x.σ id
    . subst e; simp only [fE,hown,hcc,hsize]
    . simp only [fE,hheap b e]
  have hf:Frame x y:=by
    refine ⟨J,J,J,by simp [y],λb hb hn=>hheap b λe=>hn id hl e.symm,λ_ h=>h,λb h=>.inl h,λi=>?_,λi h=>?_,Nat.le_refl _,λi _ _=>?_⟩
    . by_cases e:i=id
      . subst e; simp only [y,aR]; exact ⟨hver,λ_ he=>⟨iK hl,by rw [hl]; simp [Blk.own,hown'],trivial,λ_=>hsame he,λ_=>⟨trivial,hrs _⟩⟩⟩
      . simp only [y,bT _ _ e]
        exact ⟨Nat.le_refl _,λh _=>⟨h,trivial,trivial,λ_=>trivial,λ_=>⟨trivial,hrs _⟩⟩⟩
    . by_cases e:i=id
      . subst e; exact .inl ⟨hl,J⟩
      . simp only [y,bT _ _ e] at h; exact .inl ⟨h,J⟩
    . by_cases e:i=id
      . subst e; simp only [y,aR]; rfl
      . simp only [y,bT _ _ e]
  have live: ∀ i,(y.H i).own=true->(x.H i).own=true:=λi h=>by
    by_cases e:i=id
    . subst e; exact hl
    . simpa only [y,bT _ _ e] using h
  refine ⟨⟨λb h=>?_,λb i h hli=>hx.zown b i h (live i hli),λi hli=>?_,λi j hi hj he=>hx.inj i j (live i hi) (live j hj) he,hx.tab_of hf⟩,hf⟩
  . have:=hx.zlt b h; simp only [y,aGU]; omega
  . by_cases e:i=id
    . subst e
      simp only [y,aR];exact ⟨cc',by rw [aAz (by exact hnm)]; exact hown,hsz,OM,λr row j v hr hj=>(hR r row j v hr hj).frame hx hf⟩
    . have hli':=live i hli
      obtain ⟨dd,h1,h2,h3,h4⟩:=hx.blk i hli';simp only [y,bT _ _ e];exact ⟨dd,by rw [<- h1]; exact hheap _ (λhe=>e<|hx.inj i id hli' hl he),h2,h3,λr row j v hr hj=>(h4 r row j v hr hj).frame hx hf⟩
theorem aOe {x : Cx} (hx : Inv x) (id : Nat) (ho : (x.H id).own = true) (rows : List (List V)) (hlen : rows.length = (x.H id).rows.length)
    (hsz: ∀ r∈rows,r.length=(x.H id).sz)
    (cc:Array Value) (h1:x.w.heap[x.σ id]?=some ((x.H id).obj cc)) (h3:(x.H id).rows.length*(x.H id).sz<=cc.size)
    (hR: ∀ (r:Nat) (row:List V) (j:Nat) (v:V),rows[r]?=some row->row[j]?=some v->R x v (cc.getD (r*(x.H id).sz+j) undef)):
    let y:Cx:={x with H:=cU x.H id {x.H id with rows:=rows}}
    Inv y/\Frame x y:=by
  intro y
  have hem:rows.isEmpty=(x.H id).rows.isEmpty:=by
    cases h1:rows <;> cases h2:(x.H id).rows <;> simp_all
  have hown:(y.H id).own=(x.H id).own:=by simp only [y,aR]; unfold Blk.own; rw [hem]
  have live: ∀ i,(y.H i).own=true->(x.H i).own=true:=λi h=>by
    by_cases e:i=id
    . subst e; exact ho
    . simpa only [y,bT _ _ e] using h
  have hf:Frame x y:=by
    refine ⟨J,J,J,Nat.le_refl _,λ_ _ _=>J,λ_ h=>h,λb h=>.inl h,λi=>?_,λi h=>.inl ⟨live i h,J⟩,Nat.le_refl _,λi _ _=>?_⟩
    . by_cases e:i=id
      . subst e
        refine ⟨by simp only [y,aR]; exact Nat.le_refl _,λ_ _=>⟨iK ho,hown,by simp only [y,aR],λ_=>by simp only [y,aR]; exact hlen,λ_=>⟨J,J⟩⟩⟩
      . simp only [y,bT _ _ e]
        exact ⟨Nat.le_refl _,λh _=>⟨h,trivial,trivial,λ_=>trivial,λ_=>⟨trivial,trivial⟩⟩⟩
    . by_cases e:i=id
      . subst e; simp only [y,aR]; rfl
      . simp only [y,bT _ _ e]
  refine ⟨⟨hx.zlt,λb i h hli=>hx.zown b i h (live i hli),λi hli=>?_,λi j hi hj he=>hx.inj i j (live i hi) (live j hj) he,hx.tab_of hf⟩,hf⟩;by_cases e:i=id
  . subst e
    simp only [y,aR];refine ⟨cc,?_,hsz,by rw [hlen]; exact h3,λr row j v hr hj=>(hR r row j v hr hj).frame hx hf⟩;rw [h1];unfold Blk.obj Blk.isM;simp only [hlen]
  . obtain ⟨dd,h1,h2,h3,h4⟩:=hx.blk i<|live i hli
    simp only [y,bT _ _ e];exact ⟨dd,h1,h2,h3,λr row j v hr hj=>(h4 r row j v hr hj).frame hx hf⟩
theorem vL {x : Cx} (hx : Inv x) (id : Nat) :
    let y:Cx:={x with Z:=λb=>x.Z b\/((x.H id).own=true/\b=x.σ id),H:=cU x.H id {x.H id with live:=false}}
    Inv y/\Frame x y:=by
  intro y
  have live: ∀ i,(y.H i).own=true->i≠id/\(x.H i).own=true:=λi h=>by
    by_cases e:i=id
    . subst e; simp [y,aR,Blk.own] at h
    . exact ⟨e,by simpa only [y,bT _ _ e] using h⟩
  have hf:Frame x y:=by
    refine ⟨J,J,J,Nat.le_refl _,λ_ _ _=>J,λ_ h=>.inl h,λb h=>?_,λi=>?_,λi h=>.inl ⟨(live i h).2,J⟩,Nat.le_refl _,λi hl hv=>?_⟩
    . rcases h with h|⟨h,h'⟩
      . exact .inl h
      . exact .inr (.inr ⟨id,h,h'.symm⟩)
    . by_cases e:i=id
      . subst e; simp only [y,aR]; exact ⟨Nat.le_refl _,λh=>by simp at h⟩
      . simp only [y,bT _ _ e]
        exact ⟨Nat.le_refl _,λh _=>⟨h,trivial,trivial,λ_=>trivial,λ_=>⟨trivial,trivial⟩⟩⟩
    . by_cases e:i=id
      . subst e; simp only [y,aR]; rfl
      . simp only [y,bT _ _ e]
  refine ⟨⟨λb h=>?_,λb i h hli=>?_,λi hli=>?_,λi j hi hj he=>hx.inj i j (live i hi).2 (live j hj).2 he,hx.tab_of hf⟩,hf⟩
  . rcases h with h|⟨h,h'⟩
    . exact hx.zlt b h
    . exact h' ▸ hx.lt h
  . rcases h with h|⟨h,h'⟩
    . exact hx.zown b i h (live i hli).2
    . exact λhe=>(live i hli).1 (hx.inj i id (live i hli).2 h (he.trans h'))
  . obtain ⟨e,hli'⟩:=live i hli
    obtain ⟨dd,h1,h2,h3,h4⟩:=hx.blk i hli';simp only [y,bT _ _ e];exact ⟨dd,h1,h2,h3,λr row j v hr hj=>(h4 r row j v hr hj).frame hx hf⟩
theorem mN {x : Cx} (hx : Inv x) (id : Nat) (ty : TypeId) (sz : Nat) (hty : ty < 4294967296) :
    let y:Cx:={x with H:=cU x.H id ⟨(x.H id).ver+1,true,true,ty,sz,[]⟩}
    Inv y/\Frame x y/\ ∀ b,R y (.ms id ((x.H id).ver+1) 0 0) (.slice b 0 0):=by
  intro y
  have live: ∀ i,(y.H i).own=true->i≠id/\(x.H i).own=true:=λi h=>by
    by_cases e:i=id
    . subst e; simp [y,aR,Blk.own] at h
    . exact ⟨e,by simpa only [y,bT _ _ e] using h⟩
  have hf:Frame x y:=by
    refine ⟨J,J,J,Nat.le_refl _,λ_ _ _=>J,λ_ h=>h,λb h=>.inl h,λi=>?_,λi h=>.inl ⟨(live i h).2,J⟩,Nat.le_refl _,λi hl hv=>?_⟩
    . by_cases e:i=id
      . subst e; simp only [y,aR]; exact ⟨OM,λ_ h=>by omega⟩
      . simp only [y,bT _ _ e]
        exact ⟨Nat.le_refl _,λh _=>⟨h,trivial,trivial,λ_=>trivial,λ_=>⟨trivial,trivial⟩⟩⟩
    . by_cases e:i=id
      . subst e; simp only [y,aR] at hv; omega
      . simp only [y,bT _ _ e]
  refine ⟨⟨λb h=>hx.zlt b h,λb i h hli=>hx.zown b i h (live i hli).2,λi hli=>?_,λi j hi hj he=>hx.inj i j (live i hi).2 (live j hj).2 he,hx.tab_of hf⟩,hf,?_⟩
  . obtain ⟨e,hli'⟩:=live i hli
    obtain ⟨dd,h1,h2,h3,h4⟩:=hx.blk i hli';simp only [y,bT _ _ e];exact ⟨dd,h1,h2,h3,λr row j v hr hj=>(h4 r row j v hr hj).frame hx hf⟩
  . intro b
    refine .ms _ _ _ _ _ _ _ (by simp only [y,aR]; omega) (λ_ _=>?_) λ_ _=>by simp only [y,aR,Blk.isM,Bool.true_and]; exact decide_eq_false<|Nat.not_le.2 hty
    simp only [y,aR];exact ⟨trivial,Nat.le_refl _,Nat.zero_le _,Nat.le_refl _,λh=>by simp [Blk.own] at h,λ_=>trivial⟩
theorem R.sl0 {x:Cx} (b:Option Addr):R x (.sl []) (.slice b 0 0):=by
  cases b with
  |none=>exact .slnil
  |some a=>exact .sl [] a 0 0 (λ_=>undef) (Nat.le_refl _) (Nat.zero_le _) (λh=>(h rfl).elim) (λr h=>by cases h) (λr row j v h=>by simp at h) (λr row j v h=>by simp at h)
end Go.Proofs.YtinpihlhcmpkhaaGreat


namespace Go.Proofs.YtinpihlhcmpkhaaGreat
open Go
inductive SX where
  |t (n:Nat)
  |c (v:V)
inductive X where
  |mv (x:SX)
  |lazy (ty sz:Nat)
  |pick (c a b:SX)
  |alloc (ty:TypeId) (z:List V)
  |box (ty n:Nat) (x:SX)
  |build (z:List V) (ps:List (Nat×Nat×SX))
  |bslice (ty esz:Nat) (own:Bool) (z:List V) (len:Nat) (ps:List (Nat×SX))
  |load (agg:Bool) (n:Nat) (a:SX)
  |ldp (agg:Bool) (n:Nat) (a:SX)
  |store (n:Nat) (a x:SX)
  |bin (op:BinOp) (x y:SX)
  |sbin (op:BinOp) (x y:SX)
  |bbin (op:BinOp) (x y:SX)
  |abin (neg:Bool) (q:List Nat) (x y:SX)
  |un (op:UnOp) (x:SX)
  |conv (k:IntKind) (x:SX)
  |fld (off:Nat) (x:SX)
  |part (agg:Bool) (off n:Nat) (x:SX)
  |idx (esz:Nat) (x i:SX)
  |sidx (x i:SX)
  |aidx (agg:Bool) (n len:Nat) (x i:SX)
  |apos (n len:Nat) (x i:SX)
  |slice (esz:Nat) (x:SX) (lo hi:Option SX)
  |sslice (x:SX) (lo hi:Option SX)
  |mks (ty esz bytes:Nat) (z:List V) (l c:SX)
  |ext (x:SX) (i:Nat)
  |mkf (f:Nat) (caps:List SX)
  |bstr (x:SX)
  |mkm (f:Nat) (first caps:List SX)
  |mki (ty:TypeId) (x:SX)
  |tas (ty:TypeId) (x:SX)
  |nilck (x:SX)
  |len (x:SX)
  |slen (x:SX)
  |clr (z:List V) (x:SX)
  |cpy (esz:Nat) (x y:SX)
  |mn (x y:SX)
  |mn3 (x y z:SX)
  |mx (x y:SX)
  |append (ty esz bytes:Nat) (s x:SX)
  |call (e:Bool) (f:Nat) (args:List SX)
  |callA (f:Nat) (args:List SX)
  |callv (e:Bool) (f:SX) (args:List SX)
  |isnil (neg:Bool) (x:SX)
  |mkmap
  |mlook (kd:Nat) (ok:Bool) (z:V) (m k:SX)
  |mset (kd:Nat) (m k x:SX)
  |mlen (x:SX)
  |bad
structure SO where
  g:Option (Nat×Bool)
  d:Option Nat
  x:X
inductive PX where
  |call (f:Nat) (args:List SX)
  |callv (f:SX) (args:List SX)
  |raise (x:SX)
inductive SC where
  |skip
  |ret
  |exit (n:Nat)
  |reg (ops:List SO)
  |pop (d:Option Nat) (x:PX)
  |dreg (late:List Nat) (ops:List SO)
  |xreg (ps:List (Nat×Nat×Nat×Nat)) (ops:List SO)
  |seq (a b:SC)
  |cond (c:SX) (a b:SC)
  |block (id:Nat) (a:SC)
  |loop (a:SC)
inductive SRes where
  |tmp (t:Nat)
  |cell (t:Nat) (agg:Bool) (n:Nat)
structure SF where
  n:Nat
  res:List SRes
  body:SC
def aLW:Value->Option V
  | .int k n=>some (.int k n)
  | .bool b=>some (.bool b)
  | .string s=>some (.str s.data.toList)
  | .pointer none=>some .nilp
  | .slice none 0 0=>some .nilsl
  | .nilFunc=>some (.raw .nilFunc)
  | .nilIface=>some (.raw .nilIface)
  | .map none=>some (.raw (.map none))
  |_=>none
def jA {α β : Type} (f : α -> Option β) : List α -> Option (List β)
  |[]=>some []
  | a :: l => match f a, jA f l with
    |some b,some r=>some (b::r)
    |_,_=>none
def cvt:Value->Option V
  | .agg cs=>(jA aLW cs.toList).map .agg
  |v=>aLW v
def sx:Operand->Option SX
  | .tmp t=>some (.t t)
  | .const v=>(cvt v).map .c
  | .func f=>some (.c (.fn f [] []))
  | .global _=>none
def iM (P:Program) (t:TypeId):Option Nat:=(P.info? t).map (·.size)
def nE (P:Program) (t:TypeId):Option Bool:=(P.underlying t).map λd=>match d with
  | .struct _| .array _ _=>true
  |_=>false
def iG (P:Program) (t:TypeId):Option (List V):=((P.info? t).bind (·.zero)).bind λv=>(cvt v).map V.cells
def elemOf (P:Program) (t:TypeId):Option TypeId:=match P.underlying t with
  |some (.slice e)=>some e
  |_=>none
def aAk (P:Program) (t:TypeId) (f:Nat):Option Field:=match P.underlying t with
  |some (.struct fs)=>fs[f]?
  |_=>none
def tU (P:Program) (t:TypeId):Option Nat:=match P.underlying t with
  |some (.int _)=>some 0
  |some .string=>some 1
  |some .bool=>some 2
  |_=>none
def aBY (P:Program) (t:TypeId):Option (Nat×Nat):=match P.underlying t with
  |some (.array n e)=>if (iM P e==some 1&&iM P t==some n)=true then (tU P e).map (n,·) else none
  |_=>none
def aHE (P : Program) (t : TypeId) : Option (Nat × Nat × Nat) := match P.underlying t with
  | some (.array n e) => match aBY P e with
    |some p=>if (iM P t==some (n*p.1))=true then some (n,p) else none
    |none=>none
  |_=>none
def aAl (P : Program) : List Field -> Nat -> Option (List Nat)
  |[],_=>some []
  | f :: r, i => if (f.name != "_" && decide (f.offset = i)) = true then match tU P f.type with
    |some k=>(aAl P r (i+1)).map (k:: ·)
    | none => match aBY P f.type with
      |some p=>(aAl P r (i+p.1)).map (List.replicate p.1 p.2++ ·)
      | none => match aHE P f.type with
        |some p=>(aAl P r (i+p.1*p.2.1)).map (List.replicate (p.1*p.2.1) p.2.2++ ·)
        |none=>none
    else none
def aBn (P:Program) (t:TypeId):Option (List Nat):=match P.underlying t with
  |some (.struct fs)=>if (P.stoodInHeld t||P.eqGuardType P.depth t)=true then none else aAl P fs.toList 0
  |some (.array _ _)=>if P.eqGuardType P.depth t=true then none else (aBY P t).map λp=>List.replicate p.1 p.2
  |_=>none
def aRj:Nat->Nat->List Nat
  |0,_=>[]
  |f+1,n=>if n=0 then [] else (n % 4 - 1)::aRj f (n / 4)
structure Opt where
  emut:List Nat
  own:List Nat
  pan:List Nat
  panv:List Nat
def uA (P : Program) (op : Opt) (d : Nat) : Call -> Option X
  | ⟨.value f, args, _⟩ => match sx f, jA sx args.toList with
    |some (.c (.fn k [] [])),some us=>some (if op.own.contains d&& !(op.emut.contains k) then .callA k us else .call (op.emut.contains k) k us)
    |some (.t n),some us=>some (.callv (op.own.contains d) (.t n) us)
    |_,_=>none
  | ⟨.builtin b, args, tys⟩ => match b, args.toList, tys.toList with
    | .len, [a], [t] => match P.underlying t, sx a with
      |some (.slice _),some a=>some (.len a)
      |some .string,some a=>some (.slen a)
      |_,_=>none
    | .clear, [a], [t] => match elemOf P t, sx a with
      |some e,some a=>(iG P e).map λz=>.clr z a
      |_,_=>none
    | .copy, [a, b], [t, _] => match elemOf P t, sx a, sx b with
      |some e,some a,some b=>(iM P e).map λn=>.cpy n a b
      |_,_,_=>none
    | .min, [a, b], _ => match sx a, sx b with
      |some a,some b=>some (.mn a b)
      |_,_=>none
    | .min, [a, b, c], _ => match sx a, sx b, sx c with
      |some a,some b,some c=>some (.mn3 a b c)
      |_,_,_=>none
    | .max, [a, b], _ => match sx a, sx b with
      |some a,some b=>some (.mx a b)
      |_,_=>none
    | .append, [s, a], [t, u] => match elemOf P t, sx s, sx a with
      | some e, some s, some a => match P.underlying u, P.info? e with
        | some (.slice _), some i => if i.size = 0 \/ t ≠ u then none else match iG P e with
          |some z=>if z.length=i.size then some (.append e i.size i.bytes s a) else none
          |none=>none
        | some .string, some i => if i.size = 1 then match iG P e with
          |some z=>if z.length=i.size then some (.append e i.size i.bytes s a) else none
          |none=>none else none
        |_,_=>none
      |_,_,_=>none
    |_,_,_=>none
  |_=>none
def aMK:Option Operand->Option (Option SX)
  |none=>some none
  |some x=>(sx x).map some
def aIp (P : Program) (op : Opt) (d : Nat) (o : Oper) : Option X :=
  match o.op with
  | .move x=>(sx x).map .mv
  | .assign x => match x, op.own.contains d with
    | .const (.slice none 0 0), true => match elemOf P o.type with
      |some e=>if e < 4294967296 then (iM P e).map (.lazy e) else none
      |none=>none
    |x,_=>(sx x).map .mv
  | .pick c a b => match sx c, sx a, sx b with
    |some c,some a,some b=>some (.pick c a b)
    |_,_,_=>none
  | .alloc t=>(iG P t).map (.alloc t)
  | .box t x => match sx x, iM P t with
    |some x,some n=>some (.box t n x)
    |_,_=>none
  | .build t ps => match P.underlying t, iG P t with
    | some (.struct fs), some z => match jA (λ(p : Nat × Operand) => match fs[p.1]?, sx p.2 with
        |some f,some x=>(iM P f.type).map λn=>(f.offset,n,x)
        |_,_=>none) ps.toList with
      |some qs=>if fs.all λf=>(P.info? f.type).isSome then some (.build z qs) else none
      |none=>none
    | some (.array _ e), some z => match iM P e, jA (λ(p : Nat × Operand) => (sx p.2).map λx => (p.1, x)) ps.toList with
      |some n,some qs=>some (.build z (qs.map λq=>(q.1*n,n,q.2)))
      |_,_=>none
    |_,_=>none
  | .buildSlice t len ps => match elemOf P t with
    | some e => match iG P e, iM P e, jA (λ(p : Nat × Operand) => (sx p.2).map λx => (p.1, x)) ps.toList with
      |some z,some n,some qs=>if z.length=n/\n≠0/\len*n<=16777216 then (if len=0/\op.own.contains d=true/\qs.isEmpty=true/\e < 4294967296 then some (.lazy e n) else some (.bslice e n (op.own.contains d) z len qs)) else none
      |_,_,_=>none
    |none=>none
  | .load t a => match nE P t, iM P t, sx a with
    |some g,some n,some a=>if g=false/\n≠1 then none else some (if op.own.contains d then .ldp g n a else .load g n a)
    |_,_,_=>none
  | .store t a x => match iM P t, sx a, sx x with
    |some n,some a,some x=>some (.store n a x)
    |_,_,_=>none
  | .nilCheck x=>(sx x).map .nilck
  | .binOp op t x y _ => match P.underlying t, sx x, sx y with
    |some (.int _),some x,some y=>some (.bin op x y)
    |some .string,some x,some y=>some (.sbin op x y)
    |some .bool,some x,some y=>some (.bbin op x y)
    | some (.slice _), some x, some (.c .nilsl) => match op with
      | .eql=>some (.isnil false x)
      | .neq=>some (.isnil true x)
      |_=>none
    | some (.struct _), some x, some y => match op, aBn P t with
      | .eql,some q=>some (.abin false q x y)
      | .neq,some q=>some (.abin true q x y)
      |_,_=>none
    |_,_,_=>none
  | .unOp op _ x=>(sx x).map (.un op)
  | .convert s t x => match P.underlying s, P.underlying t, sx x with
    |some _,some (.int k),some x=>some (.conv k x)
    | some (.slice e), some .string, some x => match P.underlying e with
      |some (.int .u8)=>some (.bstr x)
      |_=>none
    |_,_,_=>none
  | .fieldAddr t x f => match aAk P t f, sx x with
    | some fd, some x => match iM P fd.type with
      |some n=>if n=0 then none else some (.fld fd.offset x)
      |none=>none
    |_,_=>none
  | .field t x f => match aAk P t f, sx x with
    | some fd, some x => match nE P fd.type, iM P fd.type with
      |some g,some n=>if g=false/\n≠1 then none else some (.part g fd.offset n x)
      |_,_=>none
    |_,_=>none
  | .indexAddr t x i => match elemOf P t, sx x, sx i with
    |some e,some x,some i=>(iM P e).map λn=>.idx n x i
    | none, some x, some i => match P.underlying t with
      |some (.array len e)=>(iM P e).map λn=>.apos n len x i
      |_=>none
    |_,_,_=>none
  | .index t x i => match P.underlying t, sx x, sx i with
    |some .string,some x,some i=>some (.sidx x i)
    | some (.array len e), some x, some i => match nE P e, iM P e with
      |some g,some n=>if g=false/\n≠1 then none else some (.aidx g n len x i)
      |_,_=>none
    |_,_,_=>none
  | .slice t x lo hi mx => if mx.isSome then none else match P.underlying t, sx x, aMK lo, aMK hi with
    |some .string,some x,some lo,some hi=>some (.sslice x lo hi)
    |some (.slice e),some x,some lo,some hi=>(iM P e).map λn=>.slice n x lo hi
    |_,_,_,_=>none
  | .makeSlice t l c => match elemOf P t, sx l, sx c with
    | some e, some l, some c => match P.info? e, iG P e with
      |some i,some z=>if z.length=i.size/\i.size≠0 then some (.mks e i.size i.bytes z l c) else none
      |_,_=>none
    |_,_,_=>none
  | .extract x i=>(sx x).map λx=>.ext x i
  | .makeFunc (.func f) first caps => if first.size = 0 then (jA sx caps.toList).map (.mkf f) else match jA sx first.toList, jA sx caps.toList with
    |some a,some b=>some (.mkm f a b)
    |_,_=>none
  | .makeInterface t x => match P.underlying t with
    |some (.struct _)=>(sx x).map (.mki t)
    |_=>none
  | .typeAssert x _ t ok => match P.underlying t, ok with
    |some (.struct _),true=>(sx x).map (.tas t)
    |_,_=>none
  | .call c=>uA P op d c
  |_=>none
def aOi (n:Nat):Option Nat->Bool
  |some d=>decide (d < n)
  |none=>true
def aOL (op : Opt) (o : Oper) : Option PX := match o.op with
  | .panic x=>(sx x).map .raise
  | .call ⟨.value f, args, _⟩ => match sx f, jA sx args.toList with
    |some (.c (.fn k [] [])),some us=>if op.pan.contains k then some (.call k us) else none
    | some (.t n), some us => match o.dst with
      |some d=>if op.panv.contains d then some (.callv (.t n) us) else none
      |none=>none
    |_,_=>none
  |_=>none
def aCC (P:Program) (op:Opt) (d:Nat) (o:Oper):X:=(aIp P op d o).getD .bad
def pO (P : Program) (op : Opt) (n : Nat) (ops : Array Oper) (o : Oper) : Option SO :=
  if aOi n o.dst=true then
    match o.guard with
    |none=>some ⟨none,o.dst,aCC P op (o.dst.getD 0) o⟩
    | some (j, want) => match (ops[j]?).bind (·.dst) with
      |some t=>some ⟨some (t,want),o.dst,aCC P op (o.dst.getD 0) o⟩
      |none=>none
  else none
inductive Cls where
  |I|D|A|E|N
  deriving DecidableEq
def X.cls:X->Cls
  | .mv _| .pick _ _ _| .build _ _| .bin _ _ _| .sbin _ _ _| .bbin _ _ _| .abin _ _ _ _| .un _ _| .conv _ _| .part _ _ _ _| .sidx _ _| .aidx _ _ _ _ _| .fld _ _| .apos _ _ _ _| .nilck _| .sslice _ _ _| .ext _ _| .mkf _ _| .mkm _ _ _| .mki _ _| .tas _ _| .ldp _ _ _| .bstr _| .mn _ _| .mn3 _ _ _| .mx _ _| .slen _=>.I
  | .load _ _ _| .idx _ _ _| .slice _ _ _ _| .len _| .call false _ _| .callv false _ _=>.D
  | .bslice _ _ own _ _ _=>if own then .A else .D
  | .alloc _ _| .box _ _ _| .lazy _ _| .callA _ _| .mks _ _ _ _ _ _=>.A
  | .isnil _ _=>.N
  | .store _ _ _| .clr _ _| .cpy _ _ _| .append _ _ _ _ _| .call true _ _| .callv true _ _| .mkmap| .mlook _ _ _ _ _| .mset _ _ _ _| .mlen _| .bad=>.E
def yT (P : Program) (n : Nat) : ResultVar -> Option SRes
  | .tmp t=>if t < n then some (.tmp t) else none
  | .cell t ty => match nE P ty, iM P ty with
    |some g,some m=>if t < n/\ ¬ (g=false/\m≠1) then some (.cell t g m) else none
    |_,_=>none
end Go.Proofs.YtinpihlhcmpkhaaGreat


namespace Go.Proofs.YtinpihlhcmpkhaaGreat
open Go
def oU {α:Type} (o:Option α) (k:α->Prop):Prop:=match o with
  |some a=>k a
  |none=>False
@[simp] theorem jG {α:Type} (a:α) (k:α->Prop):oU (some a) k=k a:=J
@[simp] theorem aSm {α:Type} (k:α->Prop):oU none k=False:=J
theorem aCi {α:Type} {o:Option α} {k k':α->Prop} (h: ∀ a,k a->k' a) (ho:oU o k):oU o k':=by cases o <;> simp_all
theorem bW {α:Type} {o:Option α} {k:α->Prop}:oU o k↔ ∃ a,o=some a/\k a:=by cases o <;> simp
def ev (T:Nat->V):SX->V
  | .t n=>T n
  | .c v=>v
@[simp] theorem aRg (T:Nat->V) (n:Nat):ev T (.t n)=T n:=J
@[simp] theorem aS3 (T:Nat->V) (v:V):ev T (.c v)=v:=J
def uF (T:Nat->V):List SX->List V
  |[]=>[]
  |a::l=>ev T a::uF T l
theorem aMB (T:Nat->V) (l:List SX):uF T l=l.map (ev T):=by induction l <;> simp_all [uF]
def jJ (T:Nat->V) (d:Option Nat) (v:V):Nat->V:=match d with
  |some d=>cU T d v
  |none=>T
def asB:V->Option Bool
  | .bool b=>some b
  |_=>none
def ok (H:aT) (id ver:Nat):Bool:=(H id).own&&decide ((H id).ver=ver)
def iO:List V->Nat->List V->List V
  |r,_,[]=>r
  |r,o,v::vs=>iO (r.set o v) (o+1) vs
def ptr (H:aT):V->Option (List V)
  | .pp cells=>some cells
  | .mp id ver row off=>if ok H id ver then ((H id).rows[row]?).map (·.drop off) else none
  |_=>none
def ldV (agg:Bool) (n:Nat) (cs:List V):Option V:=
  if n<=cs.length then if (cs.take n).all V.one then (if agg then some (.agg (cs.take n)) else cs.head?) else none else none
def stP (H : aT) (n : Nat) (vs : List V) : V -> Option aT
  | .mp id ver row off => if ok H id ver then if vs.length = n then if vs.all V.one then match (H id).rows[row]? with
      |some r=>if off+n<=r.length then some (cU H id {H id with rows:=(H id).rows.set row (iO r off vs)}) else none
      |none=>none
    else none else none else none
  |_=>none
def aMh (H : aT) (z : List V) : V -> Option aT
  | .nilsl=>some H
  | .sl []=>some H
  | .ms id ver off len => if (H id).live && decide ((H id).ver = ver) then if len = 0 then some H else if z.length = (H id).sz /\ z.length ≠ 0 then if z.all V.one then
      if off+len<=(H id).rows.length then some (cU H id {H id with rows:=(H id).rows.take off++List.replicate len z++(H id).rows.drop (off+len)}) else none
    else none else none else none
  |_=>none
def bld:List V->List (Nat×Nat×V)->Option (List V)
  |z,[]=>some z
  |z,(off,n,v)::r=>if v.cells.length=n then if off+n<=z.length then bld (iO z off v.cells) r else none else none
def uR (esz:Nat):List (List V)->List (Nat×V)->Option (List (List V))
  |rows,[]=>some rows
  |rows,(i,v)::r=>if v.cells.length=esz then if i < rows.length then uR esz (rows.set i v.cells) r else none else none
def qV (op : BinOp) : V -> V -> Option V
  | .int k a, .int k' b => if k = k' then match op with
    | .add=>some (.int k (k.wrap (a+b)))
    | .sub=>some (.int k (k.wrap (a - b)))
    | .mul=>some (.int k (k.wrap (a*b)))
    | .quo=>if b=0 then none else some (.int k (k.wrap (a.tdiv b)))
    | .rem=>if b=0 then none else some (.int k (a.tmod b))
    | .eql=>some (.bool (a==b))
    | .neq=>some (.bool (a != b))
    | .lss=>some (.bool (decide (a < b)))
    | .leq=>some (.bool (decide (a<=b)))
    | .gtr=>some (.bool (decide (b < a)))
    | .geq=>some (.bool (decide (b<=a)))
    | .shr=>if b < 0 then none else some (.int k (a.fdiv (2 ^ min b.toNat k.bits)))
    |_=>none
    else none
  |_,_=>none
def aCM (op : BinOp) : V -> V -> Option V
  | .str a, .str b => match op with
    | .eql=>some (.bool (a==b))
    | .neq=>some (.bool (a != b))
    | .lss=>some (.bool (Op.bytesLess a b))
    | .add=>if a.length+b.length<=9223372036854775807 then some (.str (a++b)) else none
    |_=>none
  |_,_=>none
def yD (op : BinOp) : V -> V -> Option V
  | .bool a, .bool b => match op with
    | .eql=>some (.bool (a==b))
    | .neq=>some (.bool (a != b))
    |_=>none
  |_,_=>none
def gT:List Nat->List V->List V->Option Bool
  |[],[],[]=>some true
  |0::q,.int k a::r,.int k' b::s=>if k=k' then (gT q r s).map (a==b&& ·) else none
  |1::q,.str a::r,.str b::s=>(gT q r s).map (a==b&& ·)
  |2::q,.bool a::r,.bool b::s=>(gT q r s).map (a==b&& ·)
  |_,_,_=>none
def aBQ (neg:Bool) (q:List Nat):V->V->Option V
  | .agg r,.agg s=>(gT q r s).map λb=>.bool (if neg then !b else b)
  |_,_=>none
def unV (op : UnOp) : V -> Option V
  | .int k n => match op with
    | .neg=>some (.int k (k.wrap (0 - n)))
    |_=>none
  | .bool b => match op with
    | .not=>some (.bool !b)
    |_=>none
  |_=>none
def aCH (k:IntKind):V->Option V
  | .int _ n=>some (.int k (k.wrap n))
  |_=>none
def aH1 (off:Nat):V->Option V
  | .pp cells=>some (.pp (cells.drop off))
  | .mp id ver row o=>some (.mp id ver row (o+off))
  |_=>none
def aCc (agg:Bool) (off n:Nat):V->Option V
  | .agg cs=>if off+n<=cs.length then (if agg then some (.agg ((cs.drop off).take n)) else cs[off]?) else none
  |_=>none
def aIV (rows:List (List V)) (i:Int):Option (List V):=if 0<=i then rows[i.toNat]? else none
def xQ (H:aT) (esz:Nat):V->V->Option V
  | .sl rows,.int _ i=>(aIV rows i).bind λr=>if r.length=esz then some (.pp r) else none
  | .ms id ver off len,.int _ i=>if ok H id ver then if (H id).sz=esz then if 0<=i/\i < len then some (.mp id ver (off+i.toNat) 0) else none else none else none
  |_,_=>none
def aJB:V->V->Option V
  | .str s,.int _ i=>if 0<=i then (s[i.toNat]?).map λb=>.int .u8 b.toNat else none
  |_,_=>none
def aFU (agg:Bool) (n len:Nat):V->V->Option V
  | .agg cs,.int _ i=>if 0<=i/\i < (len:Int) then aCc agg (i.toNat*n) n (.agg cs) else none
  |_,_=>none
def aIZ (n len:Nat) (u:V):V->Option V
  | .int _ i=>if 0<=i/\i < (len:Int) then aH1 (i.toNat*n) u else none
  |_=>none
def aK1:V->Option Nat
  | .int _ i=>if 0<=i then some i.toNat else none
  |_=>none
def iE (d:Nat):Option V->Option Nat
  |none=>some d
  |some v=>aK1 v
def oX (H : aT) (esz : Nat) (lo hi : Option V) : V -> Option V
  | .nilsl => match iE 0 hi with
    | some 0 => match iE 0 lo with
      |some 0=>some .nilsl
      |_=>none
    |_=>none
  | .sl rows=>(iE rows.length hi).bind λh=>(iE 0 lo).bind λl=>
      if l<=h then if h<=rows.length then if rows.all (λr=>r.length==esz) then some (.sl ((rows.take h).drop l)) else none else none else none
  | .ms id ver off len => (iE len hi).bind λh => (iE 0 lo).bind λl =>
      if ok H id ver then if (H id).sz=esz then if l<=h then if h<=len then
        if l < h then some (.ms id ver (off+l) (h - l)) else if l=0 then some (.ms id ver off 0) else some (.sl []) else none else none else none else none
  |_=>none
def aBl (lo hi:Option V):V->Option V
  | .str s=>(iE s.length hi).bind λh=>(iE 0 lo).bind λl=>
      if l<=h then if h<=s.length then some (.str ((s.take h).drop l)) else none else none
  |_=>none
def aPA:V->Option Value
  | .int k n=>some (.int k n)
  | .bool b=>some (.bool b)
  | .str s=>some (.string ⟨s.toArray⟩)
  |_=>none
def aPg:V->Option Value
  | .agg cs=>(jA aPA cs).map λl=>.agg l.toArray
  |v=>aPA v
def aQF:Value->Option V
  | .int k n=>some (.int k n)
  | .bool b=>some (.bool b)
  |_=>none
def aPG (ty:TypeId):V->Option V
  | .raw (.iface t (.agg cs))=>if t=ty then (jA aQF cs.toList).map λvs=>.tup [.agg vs,.bool true] else none
  |_=>none
def aAo:List (List V)->Option (List UInt8)
  |[]=>some []
  |[.int .u8 n]::r=>(aAo r).map (UInt8.ofNat n.toNat:: ·)
  |_=>none
def aIn:V->Option V
  | .sl rows=>(aAo rows).map .str
  | .nilsl=>some (.str [])
  |_=>none
def aN0:V->Option (List V)
  | .pp cells=>some cells
  |_=>none
theorem aLp {H:aT} {v:V} {cs:List V} (h:aN0 v=some cs):ptr H v=some cs:=by
  unfold aN0 at h;split at h
  . exact h
  . cases h
def aG1 (H:aT):V->Option V
  | .sl rows=>some (.int .i64 rows.length)
  | .nilsl=>some (.int .i64 0)
  | .ms id ver _ len=>if (H id).live&&decide ((H id).ver=ver) then some (.int .i64 len) else none
  |_=>none
def aP6 (H : aT) : V -> Option V
  | .mm id ver => if ((H id).own && decide ((H id).ver = ver) && (H id).isM && decide ((H id).sz = 2)) = true then match (H id).rows with
      |_::es=>some (.int .i64 es.length)
      |[]=>none
    else none
  |_=>none
def aGc:V->Option V
  | .str s=>some (.int .i64 s.length)
  |_=>none
def aL7 (i:Nat):V->Option V
  | .tup vs=>vs[i]?
  |_=>none
def aIb:V->Option V
  | .pp cells=>some (.pp cells)
  | .mp id ver row off=>some (.mp id ver row off)
  | .fn f a b=>some (.fn f a b)
  |_=>none
def mnV:V->V->Option V
  | .int k a,.int _ b=>some (.int k (if b < a then b else a))
  |_,_=>none
def mxV:V->V->Option V
  | .int k a,.int _ b=>some (.int k (if b > a then b else a))
  |_,_=>none
def nS (H:aT):V->Option (List (List V))
  | .sl rows=>some rows
  | .nilsl=>some []
  | .ms id ver off len=>if (H id).live&&decide ((H id).ver=ver) then some (((H id).rows.drop off).take len) else none
  |_=>none
def aAI (H:aT):V->Option (List (List V))
  | .str s=>some (s.map λb=>[.int .u8 (b.toNat:Nat)])
  |v=>nS H v
def eV (esz:Nat) (rows:List (List V)):Bool:=rows.all λr=>r.length==esz&&r.all V.one
def aLe (H : aT) (esz : Nat) (u : V) : V -> Option (Nat × aT)
  | .ms id ver off len => if (H id).live && decide ((H id).ver = ver) then match nS H u with
      |some new=>if eV esz new=true then if (H id).sz=esz then some (min new.length len,cU H id {H id with rows:=(H id).rows.take off++new.take (min new.length len)++(H id).rows.drop (off+min new.length len)}) else none else none
      |none=>none
    else none
  |_=>none
def aBa (bytes:Nat):V->V->Option (Nat×Nat)
  | .int _ l,.int _ c=>if 0<=l then if l<=c then if c*bytes<=281474976710656 then if c<=9223372036854775807 then some (l.toNat,c.toNat) else none else none else none else none
  |_,_=>none
def aSg:Nat->V->V->Option Bool
  |0,.str a,.str b=>some (a==b)
  |1,.int k a,.int k' b=>if k=k' then some (a==b) else none
  |2,.bool a,.bool b=>some (a==b)
  |kd+3,.agg r,.agg s=>gT (aRj 300 kd) r s
  |_,_,_=>none
def aMZ (kd : Nat) (key : V) : List (List V) -> Nat -> Option (Option (Nat × V))
  |[],_=>some none
  | [kk, v] :: l, i => match aSg kd key kk with
    |some true=>some (some (i,v))
    |some false=>aMZ kd key l (i+1)
    |none=>none
  |_,_=>none
def aSJ:Nat:=4294967296
def aPN:Nat->V->Bool
  |0,.str _=>true
  |1,.int _ _=>true
  |2,.bool _=>true
  |kd+3,.agg r=>gT (aRj 300 kd) r r==some true
  |_,_=>false
def aLF (H : aT) (kd : Nat) (z : V) (m key : V) : Option (V × Bool) := match m with
  | .mm id ver => if ((H id).own && decide ((H id).ver = ver) && (H id).isM && decide ((H id).sz = 2) && aPN kd key) = true then match (H id).rows with
      | _ :: es => match aMZ kd key es 0 with
        |some (some (_,v))=>some (v,true)
        |some none=>some (z,false)
        |none=>none
      |[]=>none
    else none
  |_=>none
def aPO (H : aT) (kd : Nat) (m key val : V) : Option aT := match m with
  | .mm id ver => if ((H id).own && decide ((H id).ver = ver) && (H id).isM && decide ((H id).sz = 2) && aPN kd key) = true then match (H id).rows with
      | h :: es => match aMZ kd key es 0 with
        |some (some (i,_))=>some (cU H id {H id with rows:=h::es.set i [key,val]})
        |some none=>some (cU H id {H id with rows:=h::(es++[[key,val]])})
        |none=>none
      |[]=>none
    else none
  |_=>none
def RL (x:Cx) (vs:List V) (cs:List Value):Prop:=cs.length=vs.length/\ ∀ (j:Nat) (v:V),vs[j]?=some v->R x v (cs.getD j undef)
def fS (P : Program) (f : Nat) : Prop := ∃ fn, P.funcs[f]? = some fn /\ fn.body.isSome = true /\ (fn.name == "runtime.NumGoroutine") = false
def fH (P : Program) (f : Nat) (args : List V) (H : aT) (v : V) (H' : aT) : Prop :=
  fS P f/\ ∀ (x:Cx) (cs:List Value),x.H=H->Inv x->RL x args cs->
    Calls P f cs.toArray x.w λe w'=> ∃ c y,e=.returned c/\y.w=w'/\y.H=H'/\Inv y/\R y v c/\Frame x y
inductive Res where
  |ok (v:V) (H:aT)
  |pan (c:Value) (S:List Nat)
def aSI (P : Program) (f : Nat) (args : List V) (H : aT) (c : Value) (S : List Nat) : Prop :=
  fS P f/\ ∀ (x:Cx) (cs:List Value),x.H=H->Inv x->RL x args cs->
    Calls P f cs.toArray x.w λe w'=> ∃ y,e=.panicked [{v:=c,recovered:=false}]/\y.w=w'/\(∀ j,j∉S->y.H j=H j)/\Inv y/\Frame x y
def aRW (P:Program) (f:Nat) (args:List V) (H:aT):Res->Prop
  | .ok v H'=>fH P f args H v H'
  | .pan c S=>aSI P f args H c S
def Ext (H H':aT):Prop:= ∀ id,(H id).live=true->H' id=H id
def ROC (P:Program) (f:Nat) (args:List V) (H:aT) (v:V):Prop:= ∀ H',Ext H H'->fH P f args H' v H'
def zP (P:Program) (e:Bool) (f:Nat) (args:List V) (H:aT) (k:V->aT->Prop):Prop:=match e with
  |false=> ∃ v,ROC P f args H v/\k v H
  |true=> ∃ v H',fH P f args H v H'/\k v H'
def St (P : Program) (id : Nat) (x : X) (T : Nat -> V) (H : aT) (k : V -> aT -> Prop) : Prop :=
  match x with
  | .mv a=>k (ev T a) H
  | .lazy ty sz=>k (.ms id ((H id).ver+1) 0 0) (cU H id ⟨(H id).ver+1,true,true,ty,sz,[]⟩)
  | .pick c a b=>oU (asB (ev T c)) λbb=>k (if bb then ev T a else ev T b) H
  | .alloc ty z=>k (.mp id ((H id).ver+1) 0 0) (cU H id ⟨(H id).ver+1,true,false,ty,z.length,[z]⟩)
  | .box ty _ a=>k (.mp id ((H id).ver+1) 0 0) (cU H id ⟨(H id).ver+1,true,false,ty,(ev T a).cells.length,[(ev T a).cells]⟩)
  | .build z ps=>oU (bld z (ps.map λp=>(p.1,p.2.1,ev T p.2.2))) λcs=>k (.agg cs) H
  | .bslice ty esz own z len ps=>oU (uR esz (List.replicate len z) (ps.map λp=>(p.1,ev T p.2))) λrows=>
      if own then k (.ms id ((H id).ver+1) 0 rows.length) (cU H id ⟨(H id).ver+1,true,false,ty,esz,rows⟩) else k (.sl rows) H
  | .load agg n a=>oU ((ptr H (ev T a)).bind (ldV agg n)) λv=>k v H
  | .ldp agg n a=>oU ((aN0 (ev T a)).bind (ldV agg n)) λv=>k v H
  | .store n a b=>oU (stP H n (ev T b).cells (ev T a)) λH'=>k (.raw undef) H'
  | .bin op a b=>oU (qV op (ev T a) (ev T b)) λv=>k v H
  | .sbin op a b=>oU (aCM op (ev T a) (ev T b)) λv=>k v H
  | .bbin op a b=>oU (yD op (ev T a) (ev T b)) λv=>k v H
  | .abin neg q a b=>oU (aBQ neg q (ev T a) (ev T b)) λv=>k v H
  | .un op a=>oU (unV op (ev T a)) λv=>k v H
  | .conv kd a=>oU (aCH kd (ev T a)) λv=>k v H
  | .fld off a=>oU (aH1 off (ev T a)) λv=>k v H
  | .part agg off n a=>oU (aCc agg off n (ev T a)) λv=>k v H
  | .idx esz a i=>oU (xQ H esz (ev T a) (ev T i)) λv=>k v H
  | .sidx a i=>oU (aJB (ev T a) (ev T i)) λv=>k v H
  | .aidx agg n len a i=>oU (aFU agg n len (ev T a) (ev T i)) λv=>k v H
  | .apos n len a i=>oU (aIZ n len (ev T a) (ev T i)) λv=>k v H
  | .slice esz a lo hi=>oU (oX H esz (lo.map (ev T)) (hi.map (ev T)) (ev T a)) λv=>k v H
  | .sslice a lo hi=>oU (aBl (lo.map (ev T)) (hi.map (ev T)) (ev T a)) λv=>k v H
  | .mks ty esz bytes z l c=>oU (aBa bytes (ev T l) (ev T c)) λn=>
      k (.ms id ((H id).ver+1) 0 n.1) (cU H id ⟨(H id).ver+1,true,false,ty,esz,List.replicate n.1 z⟩)
  | .ext a i=>oU (aL7 i (ev T a)) λv=>k v H
  | .mkf f caps=>k (.fn f [] (uF T caps)) H
  | .bstr a=>oU (aIn (ev T a)) λv=>k v H
  | .mkm f a b=>k (.fn f (uF T a) (uF T b)) H
  | .mki ty a=>oU (aPg (ev T a)) λc=>k (.raw (.iface ty c)) H
  | .tas ty a=>oU (aPG ty (ev T a)) λv=>k v H
  | .nilck a=>oU (aIb (ev T a)) λv=>k v H
  | .len a=>oU (aG1 H (ev T a)) λv=>k v H
  | .clr z a=>oU (aMh H z (ev T a)) λH'=>k (.tup []) H'
  | .cpy n a b=>oU (aLe H n (ev T b) (ev T a)) λp=>k (.int .i64 p.1) p.2
  | .slen a=>oU (aGc (ev T a)) λv=>k v H
  | .mn a b=>oU (mnV (ev T a) (ev T b)) λv=>k v H
  | .mn3 a b c=>oU ((mnV (ev T a) (ev T b)).bind λu=>mnV u (ev T c)) λv=>k v H
  | .mx a b=>oU (mxV (ev T a) (ev T b)) λv=>k v H
  | .append ty esz bytes s a => match ev T s with
    | .ms i ver off len => if (H i).live && decide ((H i).ver = ver) then if off = 0 then if len = (H i).rows.length then if (H i).ty = ty then if (H i).sz = esz then
        oU (aAI H<|ev T a) λnew=>if eV esz new=true then if (len+new.length)*bytes<=140737488355328 then if len+new.length<=9223372036854775807 then
          k (.ms i (ver+1) 0 (len+new.length)) (cU H i {H i with ver:=ver+1,rows:=(H i).rows++new})
        else False else False else False
        else False else False else False else False else False
    |_=>False
  | .call e f args=>zP P e f (uF T args) H k
  | .callA f args=> ∃ v b,b.live=true/\(∀ H2:aT,H2 id=H id->fH P f (uF T args) H2 v (cU H2 id b))/\k v (cU H id b)
  | .callv e g args => match ev T g with
    | .fn f first caps=>zP P e f (first++uF T args++caps) H k
    |_=>False
  | .isnil neg a => match ev T a with
    | .nilsl=>k (.bool (!neg)) H
    | .sl rows=>(rows=[]->k (.bool (!neg)) H)/\k (.bool neg) H
    |_=>False
  | .mkmap=>k (.mm id ((H id).ver+1)) (cU H id ⟨(H id).ver+1,true,true,aSJ,2,[[.nilp,.nilp]]⟩)
  | .mlook kd ok z m x=>oU (aLF H kd z (ev T m) (ev T x)) λp=>k (if ok then .tup [p.1,.bool p.2] else p.1) H
  | .mset kd m x v=>oU (aPO H kd (ev T m) (ev T x) (ev T v)) λH'=>k (.raw undef) H'
  | .mlen a=>oU (aP6 H (ev T a)) λv=>k v H
  | .bad=>False
def gd (want:Bool):V->Bool
  | .bool b=>b==want
  | .raw (.bool b)=>b==want
  |_=>false
def dE (P : Program) (k0 : Nat) : List SO -> (Nat -> V) -> aT -> ((Nat -> V) -> aT -> Prop) -> Prop
  |[],T,H,K=>K T H
  | o :: r, T, H, K => match o.g with
    |none=>St P (k0+o.d.getD 0) o.x T H λv H'=>dE P k0 r (jJ T o.d v) H' K
    | some (t, want) =>
      (gd want (T t)=true->St P (k0+o.d.getD 0) o.x T H λv H'=>dE P k0 r (jJ T o.d v) H' K)/\
      (gd want (T t)=false->dE P k0 r (jJ T o.d (.raw undef)) H K)
inductive Ex where
  |norm
  |ret
  |exit (n:Nat)
  |pan (c:Value)
def Pop (P : Program) (d : Option Nat) (f : Nat) (args : List V) (Q : Ex -> (Nat -> V) -> aT -> Prop) (T : Nat -> V) (H : aT) : Prop :=
  ∃ r, aRW P f args H r /\ match r with
    | .ok v H'=>Q .norm (jJ T d v) H'
    | .pan c S=> ∀ H',(∀ j,j∉S->H' j=H j)->Q (.pan c) T H'
def fzT (id:Nat) (H:aT) (T:Nat->V):Nat->V:=λi=>match T i with
  | .ms j ver off len=>if j=id/\(H id).live=true/\(H id).ver=ver then .sl (((H id).rows.drop off).take len) else T i
  |_=>T i
def mF (id:Nat) (H:aT):aT:=cU H id {H id with live:=false}
inductive G (K:(Nat->V)->aT->Prop):(Nat->V)->aT->Prop where
  |done {T:Nat->V} {H:aT} (h:K T H):G K T H
  |freeze (id:Nat) {T:Nat->V} {H:aT} (h:G K (fzT id H T) (mF id H)):G K T H
  |lazyCell (id' ty sz id row off:Nat) {T:Nat->V} {H:aT} (r:List V) (hne:id'≠id) (ho:(H id).own=true) (hr:(H id).rows[row]?=some r) (hc:r[off]?=some .nilsl)
      (h:G K T (cU (cU H id' ⟨(H id').ver+1,true,true,ty,sz,[]⟩) id {H id with rows:=(H id).rows.set row (r.set off (.ms id' ((H id').ver+1) 0 0))})) (hty:ty < 4294967296:=by decide):G K T H
  |frzCell (id ver len id2 row off:Nat) {T:Nat->V} {H:aT} (r:List V) (hne:id2≠id) (hl:(H id).live=true) (hv:(H id).ver=ver) (ho:(H id2).own=true) (hr:(H id2).rows[row]?=some r) (hc:r[off]?=some (.ms id ver 0 len))
      (h:G K (fzT id H T) (cU (mF id H) id2 {H id2 with rows:=(H id2).rows.set row (r.set off (.sl ((H id).rows.take len)))})):G K T H
  |freezeP (id i ver row off:Nat) {T:Nat->V} {H:aT} (r:List V) (ht:T i=.mp id ver row off) (hv:(H id).ver=ver) (ho:(H id).own=true) (hr:(H id).rows[row]?=some r) (h:G K (cU T i (.pp (r.drop off))) (mF id H)):G K T H
  |slot (i:Nat) (u:V) {T:Nat->V} {H:aT} (hu: ∀ (x:Cx) (c:Value),x.H=H->Inv x->R x (T i) c->R x u c) (h:G K (cU T i u) H):G K T H
  |cell (id row off:Nat) (v u:V) {T:Nat->V} {H:aT} (r:List V) (ho:(H id).own=true) (hr:(H id).rows[row]?=some r) (hc:r[off]?=some v) (hu: ∀ (x:Cx) (c:Value),R x v c->R x u c)
      (h:G K T (cU H id {H id with rows:=(H id).rows.set row (r.set off u)})):G K T H
def pJ (T : Nat -> V) : X -> Bool
  | .append _ _ _ (.t _) (.t a) => match T a with
    | .ms _ _ _ _=>false
    |_=>true
  | .len (.t a) => match T a with
    | .ms _ _ _ _=>false
    |_=>true
  | .idx _ (.t a) _ => match T a with
    | .ms _ _ _ _=>false
    |_=>true
  |_=>true
def apV (n m:Nat):V->V->Bool
  | .pp _,_=>true
  | .mp _ _ _ _,.pp _=>true
  | .ms _ _ _ _,.pp _=>true
  | .mp i _ r o,.mp j _ r' o'=>i != j||r != r'||decide (o+n<=o')||decide (o'+m<=o)
  | .mp i _ _ _,.ms j _ _ _=>i != j
  | .ms i _ _ _,.mp j _ _ _=>i != j
  | .ms i _ _ _,.ms j _ _ _=>i != j
  |_,_=>false
abbrev Ap4:=Nat×Nat×Nat×Nat
def ddB (ps:List Ap4) (ops:List SO) (T:Nat->V):Bool:=(ps.all λp=>apV p.2.1 p.2.2.2 (T p.1) (T p.2.2.1))&&ops.all λo=>pJ T o.x
def W (P : Program) (k0 : Nat) : SC -> (Ex -> (Nat -> V) -> aT -> Prop) -> (Nat -> V) -> aT -> Prop
  | .skip,Q,T,H=>Q .norm T H
  | .ret,Q,T,H=>Q .ret T H
  | .exit n,Q,T,H=>Q (.exit n) T H
  | .reg ops,Q,T,H=> ∃ k1,dE P k1 ops T H (Q .norm)
  | .pop d x, Q, T, H => match x with
    | .call f args=>Pop P d f (uF T args) Q T H
    | .callv g args => match ev T g with
      | .fn f first caps=>Pop P d f (first++uF T args++caps) Q T H
      |_=>False
    | .raise u => match ev T u with
      | .raw (.iface t c)=>Q (.pan (.iface t c)) T H
      |_=>False
  | .xreg ps ops,Q,T,H=> ∃ k1,dE P k1 ops T H λT H=>ddB ps ops T=true/\Q .norm T H
  | .dreg late ops,Q,T,H=> ∃ k1,(∀ d∈late,(H (k1+d)).live=false)/\dE P k1 ops T H (Q .norm)
  | .seq a b, Q, T, H => W P k0 a (λe T H => match e with
    | .norm=>G (W P k0 b Q) T H
    |e=>Q e T H) T H
  | .cond c a b,Q,T,H=>oU (asB (ev T c)) λbb=>(bb=true->W P k0 a Q T H)/\(bb=false->W P k0 b Q T H)
  | .block id a, Q, T, H => W P k0 a (λe T H => match e with
    | .exit n=>if n=id then Q .norm T H else Q (.exit n) T H
    |e=>Q e T H) T H
  | .loop a, Q, T, H => ∃ (I : Nat -> (Nat -> V) -> aT -> Prop) (n : Nat), I n T H /\ ∀ n T H, I n T H -> W P k0 a (λe T' H' => match e with
    | .norm=> ∃ m,m < n/\I m T' H'
    |e=>Q e T' H') T H
end Go.Proofs.YtinpihlhcmpkhaaGreat


namespace Go.Proofs.YtinpihlhcmpkhaaGreat
open Go
section
variable {P:Program}
theorem nR {o:Oper} {a:Act} {w w':World} {next:Act->World->Prop} {Q:Exit->Act->World->Prop} {c:Value}
    (h:(execOp a.eval o).run P w=.ok (.value c) w') (hn:next (a.put o.dst c) w'):o.wp P a w next Q:=by
  unfold Oper.wp; rw [h]; exact hn
theorem aMO {o:Oper} {a:Act} {w w':World} {next:Act->World->Prop} {Q:Exit->Act->World->Prop}
    (h:(execOp a.eval o).run P w=.ok .skip w') (hn:next (a.put o.dst undef) w'):o.wp P a w next Q:=by
  unfold Oper.wp; rw [h]; exact hn
theorem aMr (x:Cx) {c:Value} {v:V} (h:aLW c=some v):R x v c:=by
  unfold aLW at h;split at h <;> cases h
  . exact .int _ _
  . exact .bool _
  . exact .str _
  . exact .nilp
  . exact .nilsl
  . exact .raw _ J
  . exact .raw _ J
  . exact .raw _ J
theorem jI {α β:Type} {f:α->Option β}: ∀ {l:List α} {r:List β},jA f l=some r->r.length=l.length/\ ∀ (j:Nat) (b:β),r[j]?=some b-> ∃ a,l[j]?=some a/\f a=some b
  |[],r,h=>by cases h; exact ⟨rfl,λj b hj=>by simp at hj⟩
  | a :: l, r, h => by
    simp only [jA] at h;split at h
    . rename_i b r' hb hr'
      cases h;obtain ⟨h1,h2⟩:=jI hr';refine ⟨by simp [h1],λj c hj=>?_⟩;cases j with
      |zero=>simp at hj; subst hj; exact ⟨a,rfl,hb⟩
      |succ j=>simpa using h2 j c (by simpa using hj)
    . cases h
theorem aPR (x : Cx) {c : Value} {v : V} (h : cvt c = some v) : R x v c := by
  unfold cvt at h;split at h
  . rename_i cs
    cases hm:jA aLW cs.toList with
    |none=>simp [hm] at h
    | some vs =>
      simp [hm] at h;subst h;obtain ⟨h1,h2⟩:=jI hm;refine .agg vs cs (by simp [h1]) λj v hj=>?_;obtain ⟨c,hc,hv⟩:=h2 j v hj
      have:cs.getD j undef=c:=by
        have:cs[j]?=some c:=by simpa using hc
        simp [Array.getD_eq_getD_getElem?,this]
      rw [this];exact aMr x hv
  . exact aMr x h
variable {x:Cx} {T:Nat->V} {a:Act}
theorem fQ (hT: ∀ i,R x (T i) (a.tmps.getD i undef)) {o:Operand} {s:SX} (h:sx o=some s):R x (ev T s) (a.eval o):=by
  cases o with
  |tmp t=>cases h; exact hT t
  | const v =>
    simp only [sx] at h;cases hc:cvt v with
    |none=>simp [hc] at h
    |some u=>simp [hc] at h; subst h; exact aPR x hc
  | func f =>
    cases h;exact .fn f [] [] #[] #[] J J (λj v hj=>by simp at hj) (λj v hj=>by simp at hj)
  |global g=>cases h
theorem aHd {op : BinOp} {u v r : V} {cu cv : Value} (h : qV op u v = some r) (hu : R x u cu) (hv : R x v cv) (t : TypeId) (X Y : Operand) (w : World) :
    ∃ c,(do eqGuard op t X Y cu cv; binOp op t cu cv:Sem Value).run P w=.ok c w/\R x r c:=by
  unfold qV at h;split at h
  . rename_i k a k' b
    cases hu; cases hv;split at h
    . subst_vars
      split at h
      case h_1=>cases h; exact ⟨_,by simp [eqGuard_at_int,binOp_add,Op.intArith],.int _ _⟩
      case h_2=>cases h; exact ⟨_,by simp [eqGuard_at_int,binOp_sub,Op.intArith],.int _ _⟩
      case h_3=>cases h; exact ⟨_,by simp [eqGuard_at_int,binOp_mul,Op.intArith],.int _ _⟩
      case h_4=>
        split at h
        . cases h
        . rename_i hb; cases h; exact ⟨_,by simp [eqGuard_at_int,binOp_quo,Op.intDiv,hb],.int _ _⟩
      case h_5=>
        split at h
        . cases h
        . rename_i hb; cases h; exact ⟨_,by simp [eqGuard_at_int,binOp_rem,Op.intDiv,hb],.int _ _⟩
      case h_6=>cases h; exact ⟨_,by simp only [eqGuard_at_int,binOp_eql]; rfl,.bool _⟩
      case h_7=>cases h; exact ⟨_,by simp only [eqGuard_at_int,binOp_neq]; rfl,.bool _⟩
      case h_8=>cases h; exact ⟨_,by simp only [eqGuard_at_int,binOp_lss]; rfl,.bool _⟩
      case h_9=>cases h; exact ⟨_,by simp only [eqGuard_at_int,binOp_leq]; rfl,.bool _⟩
      case h_10=>cases h; exact ⟨_,by simp only [eqGuard_at_int,binOp_gtr]; rfl,.bool _⟩
      case h_11=>cases h; exact ⟨_,by simp only [eqGuard_at_int,binOp_geq]; rfl,.bool _⟩
      case h_12=>
        split at h
        . cases h
        . rename_i hb; cases h; exact ⟨_,by simp [eqGuard_at_int,binOp_shr,Op.shift,hb],.int _ _⟩
      case h_13=>cases h
    . cases h
  . cases h
theorem rG (s:List UInt8):(ByteArray.mk s.toArray).toList=s:=by
  simp [ByteArray.toList_eq]
theorem aHR {op : BinOp} {u v r : V} {cu cv : Value} (h : aCM op u v = some r) (hu : R x u cu) (hv : R x v cv) (t : TypeId) (X Y : Operand) (w : World) :
    ∃ c,(do eqGuard op t X Y cu cv; binOp op t cu cv:Sem Value).run P w=.ok c w/\R x r c:=by
  unfold aCM at h;split at h
  . rename_i a b
    cases hu; cases hv;split at h
    case h_1=>cases h; exact ⟨_,by simp only [eqGuard_at_string,binOp,Op.stringOp,rG]; rfl,.bool _⟩
    case h_2=>cases h; exact ⟨_,by simp only [eqGuard_at_string,binOp,Op.stringOp,rG]; rfl,.bool _⟩
    case h_3=>cases h; exact ⟨_,by simp only [eqGuard_at_string,binOp,Op.stringOp,rG]; rfl,.bool _⟩
    case h_4=>
      split at h
      . rename_i hl
        cases h;refine ⟨.string ⟨(a++b).toArray⟩,?_,.str _⟩
        have h2: ¬ (((ByteArray.mk a.toArray).size+(ByteArray.mk b.toArray).size:Nat):Int) > IntKind.i64.max:=by
          simp [ByteArray.size]; omega
        simp only [eqGuard_at_string,binOp,Op.stringOp];simp only [Sem.run_bind,Sem.run_pure,Result.andThen_ok,if_neg h2];congr 2
        try (apply ByteArray.ext; simp)
      . cases h
    case h_5=>cases h
  . cases h
theorem aFL {op:BinOp} {u v r:V} {cu cv:Value} (h:yD op u v=some r) (hu:R x u cu) (hv:R x v cv) {t:TypeId} (ht:P.underlying t=some .bool) (X Y:Operand) (w:World):
    ∃ c,(do eqGuard op t X Y cu cv; binOp op t cu cv:Sem Value).run P w=.ok c w/\R x r c:=by
  unfold yD at h;split at h
  . rename_i a b
    cases hu; cases hv;split at h
    case h_1=>cases h; exact ⟨_,by simp only [eqGuard_at_bool,Sem.run_bind,Sem.run_pure,Result.andThen_ok,run_eql_bool w t a b ht],.bool _⟩
    case h_2=>cases h; exact ⟨.bool (a != b),by simp only [eqGuard_at_bool,Sem.run_bind,Sem.run_pure,Result.andThen_ok,run_neq_bool w t a b ht]; rfl,.bool _⟩
    case h_3=>cases h
  . cases h
theorem aNZ {op:UnOp} {u r:V} {cu:Value} (h:unV op u=some r) (hu:R x u cu) (w:World): ∃ c,(Op.unary op cu).run P w=.ok c w/\R x r c:=by
  unfold unV at h;split at h
  . cases hu
    split at h
    . cases h; exact ⟨_,by simp [Op.unary,Op.intArith],.int _ _⟩
    . cases h
  . cases hu
    split at h
    . cases h; exact ⟨_,by simp [Op.unary],.bool _⟩
    . cases h
  . cases h
end
end Go.Proofs.YtinpihlhcmpkhaaGreat


namespace Go.Proofs.YtinpihlhcmpkhaaGreat
open Go
section
variable {P:Program} {x:Cx} {T:Nat->V} {a:Act}
theorem iR {t n:Nat} (h:iM P t=some n) (w:World):(sizeOf t).run P w=.ok n w:=by
  unfold iM at h;cases hi:P.info? t with
  |none=>simp [hi] at h
  |some i=>simp [hi] at h; simp [sizeOf,typeInfo,hi,h]
theorem oN {t:Nat} {g:Bool} (h:nE P t=some g) (w:World):(isAgg t).run P w=.ok g w:=by
  unfold nE at h;cases hi:P.underlying t with
  |none=>simp [hi] at h
  | some d =>
    simp [hi] at h;subst h;cases d <;> simp [isAgg,run_underlying hi]
theorem kR {t e:Nat} (h:YtinpihlhcmpkhaaGreat.elemOf P t=some e):P.underlying t=some (.slice e):=by
  unfold YtinpihlhcmpkhaaGreat.elemOf at h;split at h
  . cases h; assumption
  . cases h
theorem aNJ {k:IntKind} {u r:V} {cu:Value} (h:aCH k u=some r) (hu:R x u cu) {s t:TypeId} {d:TypeDesc} (hs:P.underlying s=some d) (ht:P.underlying t=some (.int k)) (w:World):
    ∃ c,(convert s t cu).run P w=.ok c w/\R x r c:=by
  unfold aCH at h;split at h
  . cases hu; cases h
    exact ⟨_,by simp [convert,run_underlying hs,run_underlying ht,Conv.intToInt],.int _ _⟩
  . cases h
theorem okp {H:aT} {id ver:Nat} (h:ok H id ver=true):(H id).own=true/\(H id).ver=ver:=by
  simpa [ok] using h
theorem aPj {off:Nat} {u r:V} {cu:Value} (h:aH1 off u=some r) (hu:R x u cu) {s f:Nat} {fd:Field} (hf:aAk P s f=some fd) (ho:fd.offset=off) {n:Nat} (hn:iM P fd.type=some n) (hn0:n≠0) (w:World):
    ∃ c,(Instr.fieldAt s cu f).run P w=.ok c w/\R x r c:=by
  have hfs: ∃ fs,P.underlying s=some (.struct fs)/\fs[f]?=some fd:=by
    unfold aAk at hf;split at hf
    . exact ⟨_,by assumption,hf⟩
    . cases hf
  obtain ⟨fs,hfs,hfd⟩:=hfs
  have run: ∀ ad:Addr,(Instr.fieldAt s (.pointer (some ad)) f).run P w=.ok (.pointer (some<|ad.add off)) w:=λad=>by
    simp [Instr.fieldAt,run_underlying hfs,hfd,Instr.sureAddr,fieldPlace,iR hn,hn0,ho]
  unfold aH1 at h;split at h
  . rename_i cells
    cases h;cases hu with
    | pp _ ad cs hz hcell hr =>
      refine ⟨_,run ad,.pp _ _ (λj=>cs<|off+j) (λhne=>?_) (λj v hj=>?_) (λj v hj=>?_)⟩
      . rw [iQ]; exact hz (by intro e; subst e; simp at hne)
      . rw [oG]; exact hcell (off+j) v (by simpa using hj)
      . exact hr (off+j) v (by simpa using hj)
  . rename_i id ver row o
    cases h;cases hu with
    | mp _ _ _ _ p hv hh hm =>
      refine ⟨_,run _,.mp _ _ _ _ _ hv (λh1 h2=>?_) hm⟩;have hp:=hh h1 h2;subst hp;simp [Addr.add_lit,Nat.add_assoc]
  . cases h
theorem yV {cs:Array Value} {j:Nat} (h:j < cs.size):cs[j]?=some (cs.getD j undef):=by
  simp [Array.getD_eq_getD_getElem?,h]
theorem hU : ∀ {q : List Nat} {r s : List V} {b : Bool}, gT q r s = some b -> r.length = q.length /\ s.length = q.length
  | q, r, s, b, h => by
    unfold gT at h;split at h
    . exact ⟨J,J⟩
    . split at h
      . obtain ⟨_,g,_⟩:=Option.map_eq_some_iff.1 h
        simp [(hU g).1,(hU g).2]
      . cases h
    . obtain ⟨_,g,_⟩:=Option.map_eq_some_iff.1 h
      simp [(hU g).1,(hU g).2]
    . obtain ⟨_,g,_⟩:=Option.map_eq_some_iff.1 h
      simp [(hU g).1,(hU g).2]
    . cases h
theorem aBT {t:TypeId} {k:Nat} (h:tU P t=some k):nE P t=some false:=by
  unfold tU at h; unfold nE;split at h <;> first|(rename_i hu; rw [hu]; rfl)|cases h
theorem yP {t:TypeId} (h:nE P t=some false) {cs:Array Value} {i:Nat} (hi:i < cs.size) (w:World):(Go.part t cs i).run P w=.ok (cs.getD i undef) w:=by
  have e:cs[i]?=some (cs.getD i undef):=yV hi;generalize cs.getD i undef=v at e ⊢;simp [Go.part,oN h,e]
theorem aCa (w : World) (d : Nat) {t : TypeId} {k : Nat} (hk : tU P t = some k) {q : List Nat} {r s : List V} {b : Bool} (h : gT (k :: q) r s = some b) :
    ∃ u r' v s' cc c,r=u::r'/\s=v::s'/\gT q r' s'=some c/\b=(cc&&c)/\ ∀ cu cv,R x u cu->R x v cv->(Op.equalIn (d+1) t cu cv).run P w=.ok cc w:=by
  unfold tU at hk;unfold gT at h;split at hk <;> first|(cases hk; done)|skip
  . rename_i hu
    cases hk;split at h <;> try (rename_i hh; cases hh; done)
    all_goals first
      |cases h; done
      |(rename_i hh _ _; cases hh; done)
      |skip
    . rename_i k a r' k'' c s' hh
      split at h
      . rename_i hk
        subst hk;obtain ⟨c,g2,rfl⟩:=Option.map_eq_some_iff.1 h;cases hh;exact ⟨_,_,_,_,_,c,rfl,rfl,g2,rfl,λcu cv hu1 hv1=>by cases hu1; cases hv1; exact run_equalIn_int w d _ _ _ _ _ hu⟩
      . cases h
  . rename_i hu
    cases hk;split at h <;> try (rename_i hh; cases hh; done)
    all_goals first
      |cases h; done
      |(rename_i hh _ _; cases hh; done)
      |skip
    . rename_i a r' c s' hh
      obtain ⟨c,g2,rfl⟩:=Option.map_eq_some_iff.1 h;cases hh;exact ⟨_,_,_,_,_,c,rfl,rfl,g2,rfl,λcu cv hu1 hv1=>by cases hu1; cases hv1; rw [run_equalIn_string w d _ _ _ hu,rG,rG]⟩
  . rename_i hu
    cases hk;split at h <;> try (rename_i hh; cases hh; done)
    all_goals first
      |cases h; done
      |(rename_i hh _ _; cases hh; done)
      |skip
    . rename_i a r' c s' hh
      obtain ⟨c,g2,rfl⟩:=Option.map_eq_some_iff.1 h;cases hh;exact ⟨_,_,_,_,_,c,rfl,rfl,g2,rfl,λcu cv hu1 hv1=>by cases hu1; cases hv1; exact run_equalIn_bool' w d _ _ _ hu⟩
theorem pZ (w:World) (d:Nat) {e:TypeId} {k:Nat} (hk:tU P e=some k) (xs ys:Array Value): ∀ (n j:Nat) (q:List Nat) (r s:List V) (b:Bool),gT (List.replicate n k++q) r s=some b->
    j+n<=xs.size->j+n<=ys.size->(∀ (i:Nat) (v:V),i < n->r[i]?=some v->R x v (xs.getD (j+i) undef))->(∀ (i:Nat) (v:V),i < n->s[i]?=some v->R x v (ys.getD (j+i) undef))->
    ∃ cc c,(Op.eqItems (d+1) e 1 xs ys<|List.range' j n).run P w=.ok cc w/\n<=r.length/\n<=s.length/\gT q (r.drop n) (s.drop n)=some c/\b=(cc&&c)
  |0,j,q,r,s,b,h,_,_,_,_=>⟨true,b,by simp [Op.eqItems],Nat.zero_le _,Nat.zero_le _,by simpa using h,SI⟩
  | n + 1, j, q, r, s, b, h, h1, h2, hr, hs => by
    rw [List.replicate_succ,List.cons_append] at h;obtain ⟨u,r',v,s',cc,c,rfl,rfl,g1,rfl,g2⟩:=aCa (x:=x) w d hk h
    obtain ⟨cc2,c2,k1,k2,k3,k4,rfl⟩:=pZ w d hk xs ys n (j+1) q r' s' c g1 OM OM
      (λi v hi hv=>by have:=hr (i+1) v OM (by simpa using hv); rwa [show j+(i+1)=j+1+i from by omega] at this) (λi v hi hv=>by have:=hs (i+1) v OM (by simpa using hv); rwa [show j+(i+1)=j+1+i from by omega] at this)
    have h3:=g2 _ _ (hr 0 u OM J)<|hs 0 v OM J
    simp only [Nat.add_zero] at h3;have ha:=aBT hk;refine ⟨cc&&cc2,c2,?_,by simp only [List.length_cons]; omega,by simp only [List.length_cons]; omega,by simpa using k4,by rw [Bool.and_assoc]⟩;rw [List.range'_succ];unfold Op.eqItems;simp only [Nat.mul_one,Sem.run_bind,yP ha (show j < xs.size by omega),yP ha (show j < ys.size by omega),Result.andThen_ok,h3];cases cc
    . simp
    . simpa using k1
theorem sZ {t:TypeId} {n k:Nat} (h:aBY P t=some (n,k)): ∃ e i,P.underlying t=some (.array n e)/\tU P e=some k/\P.info? e=some i/\P.cellsOf e=1/\iM P t=some n/\nE P t=some true:=by
  unfold aBY at h;split at h
  . rename_i n' e hu
    split at h
    . rename_i hc
      rw [Bool.and_eq_true] at hc;obtain ⟨k',hk,he⟩:=Option.map_eq_some_iff.1 h;cases he;have h1:iM P e=some 1:=by simpa using hc.1
      have h2:iM P t=some n:=by simpa using hc.2
      unfold iM at h1;obtain ⟨i,hi,hs⟩:=Option.map_eq_some_iff.1 h1;exact ⟨e,i,hu,hk,hi,by unfold Program.cellsOf; rw [hi]; exact hs,h2,by unfold nE; rw [hu]; rfl⟩
    . cases h
  . cases h
theorem aCz {t:TypeId} {n:Nat} (ha:nE P t=some true) (hn:iM P t=some n) (cs:Array Value) (off:Nat) (w:World):(Go.part t cs off).run P w=.ok (.agg (cs.extract off (off+n))) w:=by
  simp [Go.part,oN ha,iR hn]
theorem rZ {cs:Array Value} {off n i:Nat} (hi:i < n):(cs.extract off (off+n)).getD i undef=cs.getD (off+i) undef:=by
  simp only [Array.getD_eq_getD_getElem?,Array.getElem?_extract];split
  . rfl
  . rw [Array.getElem?_eq_none OM]
theorem aAb (w:World) (d:Nat) {e:TypeId} {m k:Nat} (he:aBY P e=some (m,k)) (xs ys:Array Value): ∀ (n j:Nat) (q:List Nat) (r s:List V) (b:Bool),gT (List.replicate (n*m) k++q) r s=some b->
    (j+n)*m<=xs.size->(j+n)*m<=ys.size->(∀ (i:Nat) (v:V),i < n*m->r[i]?=some v->R x v (xs.getD (j*m+i) undef))->(∀ (i:Nat) (v:V),i < n*m->s[i]?=some v->R x v (ys.getD (j*m+i) undef))->
    ∃ cc c,(Op.eqItems (d+2) e m xs ys<|List.range' j n).run P w=.ok cc w/\n*m<=r.length/\n*m<=s.length/\gT q (r.drop<|n*m) (s.drop<|n*m)=some c/\b=(cc&&c)
  |0,j,q,r,s,b,h,_,_,_,_=>⟨true,b,by simp [Op.eqItems],SI,SI,by simpa using h,SI⟩
  | n + 1, j, q, r, s, b, h, h1, h2, hr, hs => by
    obtain ⟨el,ti,hu,hk,hi,hc,hn2,ha⟩:=sZ he;have e1:(n+1)*m=m+n*m:=by rw [Nat.add_mul,Nat.one_mul,Nat.add_comm]
    have e2:(j+(n+1))*m=j*m+m+n*m:=by rw [<- Nat.add_assoc,Nat.add_mul,Nat.add_mul,Nat.one_mul]; omega
    have e3:(j+1)*m=j*m+m:=by rw [Nat.add_mul,Nat.one_mul]
    have e4:(j+1+n)*m=j*m+m+n*m:=by rw [Nat.add_mul,Nat.add_mul,Nat.one_mul]
    rw [e1,<- List.replicate_append_replicate,List.append_assoc] at h
    obtain ⟨cc,c,k1,k2,k3,k4,rfl⟩:=pZ (x:=x) w d hk (xs.extract (j*m)<|j*m+m) (ys.extract (j*m)<|j*m+m) m 0 _ r s b h (by simp; omega) (by simp; omega)
      (λi v hi hv=>by rw [Nat.zero_add,rZ hi]; exact hr i v OM hv) (λi v hi hv=>by rw [Nat.zero_add,rZ hi]; exact hs i v OM hv)
    obtain ⟨cc2,c2,q1,q2,q3,q4,rfl⟩:=aAb w d he xs ys n (j+1) q (r.drop m) (s.drop m) c k4 OM OM
      (λi v hi hv=>by have:=hr (m+i) v OM (by simpa using hv); rwa [show j*m+(m+i)=(j+1)*m+i from by omega] at this) (λi v hi hv=>by have:=hs (m+i) v OM (by simpa using hv); rwa [show j*m+(m+i)=(j+1)*m+i from by omega] at this)
    have h3:=run_equalIn_array (P:=P) w (d+1) (xs.extract (j*m)<|j*m+m) (ys.extract (j*m)<|j*m+m) hu hi;rw [hc,List.range_eq_range',k1] at h3;simp only [List.length_drop,List.drop_drop] at q2 q3 q4;refine ⟨cc&&cc2,c2,?_,OM,OM,by rw [e1]; first|exact q4|(rw [Nat.add_comm m]; exact q4),by rw [Bool.and_assoc]⟩;rw [List.range'_succ];unfold Op.eqItems;simp only [Sem.run_bind,aCz ha hn2,Result.andThen_ok,h3];cases cc
    . simp
    . simpa using q1
theorem aGq {t : TypeId} {n m k : Nat} (h : aHE P t = some (n, m, k)) : ∃ e i, P.underlying t = some (.array n e) /\ aBY P e = some (m, k) /\ P.info? e = some i /\ P.cellsOf e = m /\ iM P t = some (n * m) /\ nE P t = some true := by
  unfold aHE at h;split at h
  . rename_i n' e hu
    split at h
    . rename_i p hp
      split at h
      . rename_i hc
        cases h;obtain ⟨el,ti,hu2,hk,hi,hcc,hn2,ha⟩:=sZ hp;unfold iM at hn2;obtain ⟨i,hi2,hs⟩:=Option.map_eq_some_iff.1 hn2;exact ⟨e,i,hu,hp,hi2,by unfold Program.cellsOf; rw [hi2]; exact hs,by simpa using hc,by unfold nE; rw [hu]; rfl⟩
      . cases h
    . cases h
  . cases h
theorem aFj (w : World) (d : Nat) (xs ys : Array Value) : ∀ (fs : List Field) (i : Nat) (q : List Nat) (r s : List V) (b : Bool), aAl P fs i = some q -> gT q r s = some b ->
    i+r.length=xs.size->i+s.length=ys.size->(∀ (j:Nat) (v:V),r[j]?=some v->R x v (xs.getD (i+j) undef))->(∀ (j:Nat) (v:V),s[j]?=some v->R x v (ys.getD (i+j) undef))->
    (Op.eqFields (d+3) xs ys fs).run P w=.ok b w:=by
  intro fs
  induction fs with
  | nil =>
    intro i q r s b h1 h2 _ _ _ _;cases h1;cases r <;> cases s <;> simp [gT] at h2
    subst h2;simp [Op.eqFields]
  | cons f fs ih =>
    intro i q r s b h1 h2 hx hy hr hs;simp only [aAl] at h1;split at h1
    rotate_left
    . cases h1
    rename_i hg;simp only [Bool.and_eq_true,bne_iff_ne,ne_eq,decide_eq_true_eq] at hg;obtain ⟨hn,ho⟩:=hg;split at h1
    . rename_i k hk
      obtain ⟨q',g1,rfl⟩:=Option.map_eq_some_iff.1 h1;obtain ⟨u,r',v,s',cc,c,rfl,rfl,g2,rfl,g3⟩:=aCa (x:=x) w (d+2) hk h2;simp only [List.length_cons] at hx hy;have h3:=g3 _ _ (hr 0 u J)<|hs 0 v J
      simp only [Nat.add_zero] at h3;have h4:=ih (i+1) q' r' s' c g1 g2 OM OM (λj v hj=>by have:=hr (j+1) v (by simpa using hj); rwa [show i+(j+1)=i+1+j from by omega] at this) (λj v hj=>by have:=hs (j+1) v (by simpa using hj); rwa [show i+(j+1)=i+1+j from by omega] at this);have ha:=aBT hk;unfold Op.eqFields;simp only [ne_eq,hn,not_false_eq_true,if_true,Sem.run_bind,ho,yP ha (show i < xs.size by omega),yP ha (show i < ys.size by omega),Result.andThen_ok,h3];cases cc
      . simp
      . simpa using h4
    . split at h1
      . rename_i p hp
        obtain ⟨n,k⟩:=p;obtain ⟨q',g1,rfl⟩:=Option.map_eq_some_iff.1 h1;obtain ⟨e,ti,hu,hk,hi,hc,hn2,ha⟩:=sZ hp;have hlr:=hU h2;have hle:n<=r.length:=by rw [hlr.1,List.length_append,List.length_replicate]; omega
        have hle2:n<=s.length:=by rw [hlr.2,List.length_append,List.length_replicate]; omega
        obtain ⟨cc,c,k1,_,_,k4,rfl⟩:=pZ (x:=x) w (d+1) hk (xs.extract i<|i+n) (ys.extract i<|i+n) n 0 q' r s b h2 (by simp; omega) (by simp; omega)
          (λj v hj hv=>by rw [Nat.zero_add,rZ hj]; exact hr j v hv) (λj v hj hv=>by rw [Nat.zero_add,rZ hj]; exact hs j v hv)
        have h3:=run_equalIn_array (P:=P) w (d+2) (xs.extract i<|i+n) (ys.extract i<|i+n) hu hi;rw [hc,List.range_eq_range',k1] at h3;have h4:=ih (i+n) q' (r.drop n) (s.drop n) c g1 k4 (by simp only [List.length_drop]; omega) (by simp only [List.length_drop]; omega) (λj v hj=>by have:=hr (n+j) v (by simpa using hj); rwa [show i+(n+j)=i+n+j from by omega] at this) (λj v hj=>by have:=hs (n+j) v (by simpa using hj); rwa [show i+(n+j)=i+n+j from by omega] at this);unfold Op.eqFields;simp only [ne_eq,hn,not_false_eq_true,if_true,Sem.run_bind,ho,aCz ha hn2,Result.andThen_ok,h3];cases cc
        . simp
        . simpa using h4
      . split at h1
        . rename_i p hp
          obtain ⟨n,m,k⟩:=p;obtain ⟨q',g1,rfl⟩:=Option.map_eq_some_iff.1 h1;obtain ⟨e,ti,hu,hk,hi,hc,hn2,ha⟩:=aGq hp;have hlr:=hU h2;simp only [List.length_append,List.length_replicate] at hlr;have hle:n*m<=r.length:=OM
          have hle2:n*m<=s.length:=OM
          have hsz:((0+n)*m)=n*m:=by rw [Nat.zero_add]
          obtain ⟨cc,c,k1,_,_,k4,rfl⟩:=aAb (x:=x) w d hk (xs.extract i<|i+n*m) (ys.extract i<|i+n*m) n 0 q' r s b h2 (by rw [hsz]; simp; omega) (by rw [hsz]; simp; omega)
            (λj v hj hv=>by rw [Nat.zero_mul,Nat.zero_add,rZ hj]; exact hr j v hv) (λj v hj hv=>by rw [Nat.zero_mul,Nat.zero_add,rZ hj]; exact hs j v hv)
          have h3:=run_equalIn_array (P:=P) w (d+2) (xs.extract i<|i+n*m) (ys.extract i<|i+n*m) hu hi;rw [hc,List.range_eq_range',k1] at h3;have h4:=ih (i+n*m) q' (r.drop<|n*m) (s.drop<|n*m) c g1 k4 (by simp only [List.length_drop]; omega) (by simp only [List.length_drop]; omega) (λj v hj=>by have:=hr (n*m+j) v (by simpa using hj); rwa [show i+(n*m+j)=i+n*m+j from by omega] at this) (λj v hj=>by have:=hs (n*m+j) v (by simpa using hj); rwa [show i+(n*m+j)=i+n*m+j from by omega] at this);unfold Op.eqFields;simp only [ne_eq,hn,not_false_eq_true,if_true,Sem.run_bind,ho,aCz ha hn2,Result.andThen_ok,h3];cases cc
          . simp
          . simpa using h4
        . cases h1
theorem aFY {q : List Nat} {t : TypeId} {r s : List V} {b : Bool} {xs ys : Array Value} (hq : aBn P t = some q) (h : gT q r s = some b) (hu : R x (.agg r) (.agg xs)) (hv : R x (.agg s) (.agg ys)) (w : World) : (Op.equalIn 10000 t (.agg xs) (.agg ys)).run P w = .ok b w /\ P.eqGuardType P.depth t = false := by
  unfold aBn at hq;cases hu with
  | agg _ xs hs1 hr1 =>
    cases hv with
    | agg _ ys hs2 hr2 =>
      split at hq
      . rename_i fs hfs
        split at hq
        . cases hq
        . rename_i hg
          simp only [Bool.or_eq_true,not_or,Bool.not_eq_true] at hg;have hf:P.fieldsOf t=fs:=by simp [Program.fieldsOf,hfs]
          have h3:=aFj (P:=P) (x:=x) w 9996 xs ys fs.toList 0 q r s b hq h OM OM (λj v hj=>by simpa using hr1 j v hj) (λj v hj=>by simpa using hr2 j v hj);have h4:=run_equalIn_struct (P:=P) w 9999 t xs ys (by rw [hf]; exact hfs) hg.1;rw [hf] at h4;exact ⟨h4.trans h3,hg.2⟩
      . rename_i hfs
        split at hq
        . cases hq
        . rename_i hg
          obtain ⟨p,hp,rfl⟩:=Option.map_eq_some_iff.1 hq;obtain ⟨n,k⟩:=p;obtain ⟨e,ti,hu,hk,hi,hc,hn2,ha⟩:=sZ hp;have hlr:=hU h;simp only [List.length_replicate] at hlr;obtain ⟨cc,c,k1,_,_,k4,rfl⟩:=pZ (x:=x) w 9998 hk xs ys n 0 [] r s b (by simpa using h) OM OM (λj v hj hv=>by rw [Nat.zero_add]; exact hr1 j v hv) (λj v hj hv=>by rw [Nat.zero_add]; exact hr2 j v hv);have h3:=run_equalIn_array (P:=P) w 9999 xs ys hu hi;rw [hc,List.range_eq_range',k1] at h3
          have:c=true:=by
            rw [List.drop_of_length_le OM,List.drop_of_length_le OM] at k4;simpa [gT] using k4.symm
          subst this;exact ⟨by rw [h3]; simp,by simpa using hg⟩
      . cases hq
theorem aCL {neg:Bool} {q:List Nat} {t:TypeId} {u v r:V} {cu cv:Value} (hq:aBn P t=some q) (h:aBQ neg q u v=some r) (hu:R x u cu) (hv:R x v cv) (X Y:Operand) (w:World):
    ∃ c,(do eqGuard (if neg then .neq else .eql) t X Y cu cv; binOp (if neg then .neq else .eql) t cu cv:Sem Value).run P w=.ok c w/\R x r c:=by
  unfold aBQ at h;split at h
  . rename_i cs ds
    obtain ⟨b,h2,rfl⟩:=Option.map_eq_some_iff.1 h;obtain ⟨xs,rfl⟩: ∃ xs,cu=.agg xs:=by cases hu with|agg _ xs _ _=>exact ⟨xs,rfl⟩
    obtain ⟨ys,rfl⟩: ∃ ys,cv=.agg ys:=by cases hv with|agg _ ys _ _=>exact ⟨ys,rfl⟩
    obtain ⟨h3,hg⟩:=aFY hq h2 hu hv w;cases neg
    . exact ⟨.bool b,by simp only [Bool.false_eq_true,if_false,Sem.run_bind,run_eqGuard_agg w .eql t X Y xs ys hg,Result.andThen_ok,run_eql_struct,h3],.bool _⟩
    . exact ⟨.bool (!b),by simp only [if_true,Sem.run_bind,run_eqGuard_agg w .neq t X Y xs ys hg,Result.andThen_ok,run_neq_struct,h3],.bool _⟩
  . cases h
theorem aFN {agg : Bool} {off n : Nat} {cells : List V} {cs : Array Value} {r : V} (h : aCc agg off n (.agg cells) = some r) (hs : cs.size = cells.length)
    (hr: ∀ (j:Nat) (v:V),cells[j]?=some v->R x v (cs.getD j undef)) {t:Nat} (hg:nE P t=some agg) (hn:iM P t=some n) (hg1: ¬ (agg=false/\n≠1)) (w:World):
    ∃ c,(Go.part t cs off).run P w=.ok c w/\R x r c:=by
  unfold aCc at h;simp only at h;split at h
  . rename_i hle
    cases agg with
    | true =>
      simp at h;subst h;refine ⟨.agg (cs.extract off<|off+n),by simp [Go.part,oN hg,iR hn],.agg _ _ ?_ λj v hj=>?_⟩
      . simp; omega
      . have hj':j < n/\cells[off+j]?=some v:=by
          have:=hj;simp only [List.getElem?_take,List.getElem?_drop] at this;split at this
          . exact ⟨by assumption,this⟩
          . cases this
        have:=hr (off+j) v hj'.2
        have e:(cs.extract off<|off+n).getD j undef=cs.getD (off+j) undef:=by
          simp only [Array.getD_eq_getD_getElem?,Array.getElem?_extract];rw [if_pos OM]
        rw [e]; exact this
    | false =>
      simp at h;have hn1:n=1:=by simpa using hg1
      subst hn1;have hlt:off < cs.size:=OM
      refine ⟨cs.getD off undef,?_,hr off r h⟩;have e:=yV hlt;simp only [Go.part,Sem.run_bind,oN hg,Result.andThen_ok,Bool.false_eq_true,if_false,e]
      rfl
  . cases h
theorem aPE {esz : Nat} {u i r : V} {cu ci : Value} (h : xQ x.H esz u i = some r) (hu : R x u cu) (hi : R x i ci) {t e : Nat} (ht : YtinpihlhcmpkhaaGreat.elemOf P t = some e) (hn : iM P e = some esz) (w : World) :
    ∃ c,(Instr.indexAt t cu ci).run P w=.ok c w/\R x r c:=by
  have run: ∀ (b:Option Addr) (len cap:Nat) (k:IntKind) (n:Int) (ad:Addr),b=some ad->0<=n->n < len->(Instr.indexAt t (.slice b len cap) (.int k n)).run P w=.ok (.pointer (some<|ad.add<|n.toNat*esz)) w:=by
    intro b len cap k n ad hb h0 h1;subst hb;simp [Instr.indexAt,run_underlying (kR ht),asIntOf,h0,h1,iR hn]
  unfold xQ at h;split at h
  . rename_i rows k n
    cases hi;simp only [aIV] at h;split at h
    . rename_i h0
      cases hrow:rows[n.toNat]? with
      |none=>simp [hrow] at h
      | some row =>
        simp [hrow] at h;obtain ⟨hlen,rfl⟩:=h;have hlt:n.toNat < rows.length:=(List.getElem?_eq_some_iff.1 hrow).1;cases hu with
        |slnil=>simp at hrow
        | sl _ ad cap sz cs hc hm hz hsz hcell hr =>
          have hs:sz=esz:=by rw [<- hlen]; exact (hsz row<|List.mem_of_getElem? hrow).symm
          subst hs;refine ⟨_,run _ _ _ _ _ ad J h0 OM,.pp _ _ (λj=>cs<|n.toNat*sz+j) (λ_=>?_) (λj v hj=>?_) (λj v hj=>?_)⟩
          . rw [iQ]; exact hz (by intro e; subst e; simp at hrow)
          . rw [oG]; exact hcell _ _ _ _ hrow hj
          . exact hr _ _ _ _ hrow hj
    . simp at h
  . rename_i id ver off len k n
    cases hi;split at h
    . rename_i hok
      split at h
      . rename_i hsz
        split at h
        . rename_i hin
          cases h;obtain ⟨h1,h2⟩:=okp hok;cases hu with
          | ms _ _ _ _ b m cap hv hh hm =>
            obtain ⟨e1,e2,e3,e4,e5,e6⟩:=hh h2<|iK h1
            obtain ⟨e7,e8⟩:=e5 h1;subst e1;refine ⟨_,run _ _ _ _ _ _ e7 hin.1 hin.2,.mp _ _ _ _ _ hv (λ_ _=>?_) λe ho=>hm e<|iK ho⟩;rw [Addr.add_lit,hsz,Nat.add_mul,Nat.add_zero]
        . cases h
      . cases h
    . cases h
  . cases h
theorem aJ3 (s:List UInt8) (i:Nat):(ByteArray.mk s.toArray)[i]?=s[i]?:=by
  by_cases h:i < s.length
  . rw [getElem?_pos (ByteArray.mk s.toArray) i (by simpa [ByteArray.size] using h),List.getElem?_eq_getElem h]
    rfl
  . rw [getElem?_neg (ByteArray.mk s.toArray) i (by simpa [ByteArray.size] using h),List.getElem?_eq_none OM]
theorem aMp {agg : Bool} {n len : Nat} {u i r : V} {cu ci : Value} (h : aFU agg n len u i = some r) (hu : R x u cu) (hi : R x i ci) {t e : Nat} (ht : P.underlying t = some (.array len e)) (hg : nE P e = some agg) (hn : iM P e = some n) (hg1 : ¬ (agg = false /\ n ≠ 1)) (w : World) :
    ∃ c,(Instr.index t cu ci).run P w=.ok c w/\R x r c:=by
  unfold aFU at h;split at h
  . rename_i cells kd k
    split at h
    . rename_i hk
      cases hi;cases hu with
      | agg _ cs hs hr =>
        obtain ⟨c,h1,h2⟩:=aFN (P:=P) h hs hr hg hn hg1 w;refine ⟨c,?_,h2⟩;simp only [Instr.index,asIntOf,Sem.run_bind,Sem.run_pure,Result.andThen_ok,run_underlying ht,hk,and_self,if_true,iR hn,h1]
    . cases h
  . cases h
theorem aMn {n len : Nat} {u i r : V} {cu ci : Value} (h : aIZ n len u i = some r) (hu : R x u cu) (hi : R x i ci) {t e : Nat} (ht : P.underlying t = some (.array len e)) (hn : iM P e = some n) (w : World) :
    ∃ c,(Instr.indexAt t cu ci).run P w=.ok c w/\R x r c:=by
  unfold aIZ at h;split at h
  . rename_i kd k
    split at h
    . rename_i hk
      cases hi
      have run: ∀ ad:Addr,(Instr.indexAt t (.pointer (some ad)) (.int kd k)).run P w=.ok (.pointer (some<|ad.add<|k.toNat*n)) w:=λad=>by
        simp [Instr.indexAt,asIntOf,run_underlying ht,Instr.sureAddr,iR hn,hk.1,hk.2]
      generalize k.toNat*n=off at h run;unfold aH1 at h;split at h
      . rename_i cells
        cases h;cases hu with
        | pp _ ad cs hz hcell hr =>
          refine ⟨_,run ad,.pp _ _ (λj=>cs<|off+j) (λhne=>?_) (λj v hj=>?_) (λj v hj=>?_)⟩
          . rw [iQ]; exact hz (by intro e; subst e; simp at hne)
          . rw [oG]; exact hcell (off+j) v (by simpa using hj)
          . exact hr (off+j) v (by simpa using hj)
      . rename_i id ver row o
        cases h;cases hu with
        | mp _ _ _ _ p hv hh hm =>
          refine ⟨_,run _,.mp _ _ _ _ _ hv (λh1 h2=>?_) hm⟩;have hp:=hh h1 h2;subst hp;simp [Addr.add_lit,Nat.add_assoc]
      . cases h
    . cases h
  . cases h
theorem aLT {u i r : V} {cu ci : Value} (h : aJB u i = some r) (hu : R x u cu) (hi : R x i ci) {t : Nat} (ht : P.underlying t = some .string) (w : World) :
    ∃ c,(Instr.index t cu ci).run P w=.ok c w/\R x r c:=by
  unfold aJB at h;split at h
  . rename_i s k n
    cases hu; cases hi;split at h
    . rename_i h0
      cases hb:s[n.toNat]? with
      |none=>simp [hb] at h
      | some b =>
        simp [hb] at h;subst h;exact ⟨_,by simp [Instr.index,asIntOf,run_underlying ht,h0,aJ3,hb],.int _ _⟩
    . cases h
  . cases h
theorem aOg {i:Nat} {u r:V} {cu:Value} (h:aL7 i u=some r) (hu:R x u cu) (w:World): ∃ c,(Instr.extract cu i).run P w=.ok c w/\R x r c:=by
  unfold aL7 at h;split at h
  . rename_i vs
    cases hu with
    | tup _ cs hs hr =>
      have hlt:i < cs.size:=by have:=(List.getElem?_eq_some_iff.1 h).1; omega
      refine ⟨cs.getD i undef,?_,hr i r h⟩;have e:=yV hlt;simp only [Instr.extract,e]
      rfl
  . cases h
theorem aOC {u r : V} {cu : Value} (h : aG1 x.H u = some r) (hu : R x u cu) {t ty e : Nat} (he : P.underlying t = some (.slice e)) (w : World) :
    ∃ c,(Builtin.len_ #[t] ty #[cu]).run P w=.ok c w/\R x r c:=by
  unfold aG1 at h;split at h
  . rename_i rows
    cases h;cases hu with
    |slnil=>exact ⟨_,by simp [Builtin.len_,run_underlying he,goInt],.int _ _⟩
    |sl=>exact ⟨_,by simp [Builtin.len_,run_underlying he,goInt],.int _ _⟩
  . cases h; cases hu
    exact ⟨_,by simp [Builtin.len_,run_underlying he,goInt],.int _ _⟩
  . rename_i id ver off len
    split at h
    . rename_i hok
      simp at hok;cases h;cases hu with
      | ms _ _ _ _ b m cap hv hh hm =>
        obtain ⟨e1,_⟩:=hh hok.2 hok.1;subst e1;exact ⟨_,by simp [Builtin.len_,run_underlying he,goInt],.int _ _⟩
    . cases h
  . cases h
theorem uH: ∀ {rows:List (List V)} {s:List UInt8},aAo rows=some s-> ∃ ns:List Int,rows=ns.map (λn=>[V.int .u8 n])/\s=ns.map λn=>UInt8.ofNat n.toNat
  |[],s,h=>by cases h; exact ⟨[],rfl,rfl⟩
  |[]::r,s,h=>by cases h
  | [.int .u8 n] :: r, s, h => by
    simp only [aAo,Option.map_eq_some_iff] at h;obtain ⟨s',h1,rfl⟩:=h;obtain ⟨ns,h2,h3⟩:=uH h1;exact ⟨n::ns,by simp [h2],by simp [h3]⟩
  | [v] :: r, s, h => by
    unfold aAo at h;split at h
    . rename_i e; cases e
    . rename_i n r' e
      cases e;simp only [Option.map_eq_some_iff] at h;obtain ⟨s',h1,rfl⟩:=h;obtain ⟨ns,h2,h3⟩:=uH h1;exact ⟨n::ns,by simp [h2],by simp [h3]⟩
    . cases h
  |(u::v::l)::r,s,h=>by simp [aAo] at h
theorem aQU {v:Value} {u:V} (h:aQF v=some u):R x u v:=by
  unfold aQF at h;split at h
  . cases h; exact .int _ _
  . cases h; exact .bool _
  . cases h
theorem aNV {t : TypeId} {u r : V} {cu : Value} (h : aPG t u = some r) (hu : R x u cu) (ht : ∃ fs, P.underlying t = some (.struct fs)) (t0 : TypeId) (w : World) :
    ∃ c,(Instr.typeAssert cu t0 t true).run P w=.ok c w/\R x r c:=by
  obtain ⟨fs,ht⟩:=ht;unfold aPG at h;split at h
  . rename_i t' cs
    split at h
    . rename_i e
      subst e;obtain ⟨vs,h1,rfl⟩:=Option.map_eq_some_iff.1 h;cases hu;obtain ⟨h2,h3⟩:=jI h1;refine ⟨_,by simp [Instr.typeAssert,run_underlying ht]; rfl,?_⟩;refine .tup _ _ SI λj v hj=>?_;cases j with
      | zero =>
        simp at hj; subst hj;refine .agg _ _ (by simpa using h2.symm) λj v hj=>?_;obtain ⟨p,hp,hq⟩:=h3 j v hj;have:=aQU (x:=x) hq;rw [Array.getElem?_toList] at hp;simpa [Array.getD_eq_getD_getElem?,hp] using this
      | succ j => cases j with
        |zero=>simp at hj; subst hj; exact .bool _
        |succ j=>simp at hj
    . cases h
  . cases h
theorem aLS {u r : V} {cu : Value} (h : aIn u = some r) (hu : R x u cu) {s t e : TypeId} (hs : P.underlying s = some (.slice e)) (he : P.underlying e = some (.int .u8)) (ht : P.underlying t = some .string) (w : World) (hw : x.w = w) :
    ∃ c,(convert s t cu).run P w=.ok c w/\R x r c:=by
  subst hw;unfold aIn at h;split at h
  . rename_i rows
    obtain ⟨str,hb,rfl⟩:=Option.map_eq_some_iff.1 h;obtain ⟨ns,h2,h3⟩:=uH hb;subst h3;cases hu with
    | slnil =>
      have e:ns=[]:=by cases ns with
        |nil=>rfl
        |cons n l=>simp at h2
      subst e;exact ⟨_,run_convert_bytes_nil x.w s e hs he 0 0 t ht,.str []⟩
    | sl _ a cap sz cs hc hm hz hsz hcell hh =>
      have hl:rows.length=ns.length:=by rw [h2]; simp
      have hrow: ∀ i n,ns[i]?=some n->rows[i]?=some [V.int .u8 n]:=λi n hi=>by rw [h2,List.getElem?_map,hi]; rfl
      have hsz1: ∀ i n,ns[i]?=some n->sz=1:=λi n hi=>by
        have:=hsz _<|List.mem_of_getElem?<|hrow i n hi; simpa using this.symm
      have hload:(loadCells a rows.length).run P x.w=.ok (ns.map<|Value.int .u8).toArray x.w:=by
        have:=run_loadCells_list (P:=P) x.w a (ns.map<|Value.int .u8) (λj v hj=>by
          rw [List.getElem?_map] at hj;obtain ⟨n,hn,rfl⟩:=Option.map_eq_some_iff.1 hj;have e1:=hsz1 j n hn;have h5:=hcell j _ 0 _ (hrow j n hn) J;have h6:=hh j _ 0 _ (hrow j n hn) J;rw [e1] at h5 h6;simp only [Nat.mul_one,Nat.add_zero] at h5 h6;rw [h5];generalize cs j=cv at h6;cases h6; rfl)
        simpa [hl] using this
      refine ⟨_,by rw [run_convert_bytes_string x.w s t e _ _ cap hs he ht,run_bytesToString x.w _ _ cap ns hload,foldl_push_bytes],?_⟩
      have e2:(⟨ByteArray.empty.data++(ns.map λn=>UInt8.ofNat n.toNat).toArray⟩:ByteArray)=⟨(ns.map λn=>UInt8.ofNat n.toNat).toArray⟩:=by
        simp [ByteArray.empty,ByteArray.emptyWithCapacity]; rfl
      rw [e2];exact .str _
  . cases h; cases hu
    exact ⟨_,run_convert_bytes_nil x.w s e hs he 0 0 t ht,.str []⟩
  . cases h
theorem aD9 {v:V} {c d:Value} (h:aPA v=some d) (hr:R x v c):c=d:=by
  cases hr <;> simp only [aPA] at h <;> first|(cases h; rfl)|(cases h; done)
theorem aRJ {v:V} {c d:Value} (h:aPg v=some d) (hr:R x v c):c=d:=by
  cases hr with
  | agg cells cs hs hh =>
    simp only [aPg] at h;obtain ⟨l,h1,rfl⟩:=Option.map_eq_some_iff.1 h;obtain ⟨g1,g2⟩:=jI h1;congr 1;apply Array.ext
    . simp [hs,g1]
    . intro i hi1 hi2
      have hil:i < l.length:=by simpa using hi2
      obtain ⟨v,hv,hvr⟩:=g2 i l[i] (List.getElem?_eq_getElem hil);have h3:=hh i v hv;have h4:=aD9 hvr h3;rw [Array.getD_eq_getD_getElem?,Array.getElem?_eq_getElem hi1] at h4;simpa using h4
  |int k n=>exact aD9 (x:=x) (v:=.int k n) h (.int k n)
  |bool b=>exact aD9 (x:=x) (v:=.bool b) h (.bool b)
  |str s=>exact aD9 (x:=x) (v:=.str s) h (.str s)
  |_=>cases h
theorem aNv {u r:V} {cu:Value} (h:aGc u=some r) (hu:R x u cu) {t ty:Nat} (he:P.underlying t=some .string) (w:World):
    ∃ c,(Builtin.len_ #[t] ty #[cu]).run P w=.ok c w/\R x r c:=by
  unfold aGc at h;split at h
  . cases h; cases hu
    exact ⟨_,by simp [Builtin.len_,run_underlying he,goInt]; rfl,.int _ _⟩
  . cases h
end
end Go.Proofs.YtinpihlhcmpkhaaGreat


namespace Go.Proofs.YtinpihlhcmpkhaaGreat
open Go
section
variable {P:Program} {x:Cx} {T:Nat->V} {a:Act}
theorem aQX {v:V} {c:Value} {n:Nat} (h:aK1 v=some n) (hr:R x v c): ∃ k i,c=.int k i/\0<=i/\i.toNat=n:=by
  unfold aK1 at h;split at h
  . cases hr
    split at h
    . cases h; exact ⟨_,_,rfl,by assumption,rfl⟩
    . cases h
  . cases h
def OB (d n:Nat) (c:Option Value):Prop:=(c=none/\n=d)\/ ∃ k i,c=some (.int k i)/\0<=i/\i.toNat=n
theorem aIO {d n:Nat} {o:Option V} {c:Option Value} (h:iE d o=some n) (hs: ∀ v,o=some v-> ∃ e,c=some e/\R x v e) (hn:o=none->c=none):OB d n c:=by
  cases o with
  |none=>simp [iE] at h; exact .inl ⟨hn rfl,h.symm⟩
  | some v =>
    obtain ⟨e,he,hr⟩:=hs v J;obtain ⟨k,i,rfl,h0,h1⟩:=aQX h hr;exact .inr ⟨k,i,he,h0,h1⟩
theorem aBJ (s:Bool) {l h len cap:Nat} {clo chi:Option Value} (hl:OB 0 l clo) (hh:OB len h chi)
    (h1:l<=h) (h2:h<=cap) (w:World):(Instr.sliceBounds s len cap clo chi none).run P w=.ok (l,h,cap) w:=by
  rcases hl with ⟨rfl,rfl⟩|⟨k,i,rfl,h3,h4⟩ <;> rcases hh with ⟨rfl,rfl⟩|⟨k',i',rfl,h5,h6⟩
  . simp [Instr.sliceBounds]
  . have:i'<=cap:=OM
    simp [Instr.sliceBounds,Instr.sliceBound,asIntOf,h5,this,h6]
  . have:i<=h:=OM
    simp [Instr.sliceBounds,Instr.sliceBound,asIntOf,h3,this,h4]
  . have e1:i'<=cap:=OM
    have e2:i<=h:=OM
    simp [Instr.sliceBounds,Instr.sliceBound,asIntOf,h3,h4,h5,h6,e1,e2]
theorem aKk {esz : Nat} {u r : V} {cu : Value} {lo hi : Option V} {clo chi : Option Value} (h : oX x.H esz lo hi u = some r) (hu : R x u cu)
    (hlo: ∀ v,lo=some v-> ∃ c,clo=some c/\R x v c) (hlo':lo=none->clo=none) (hhi: ∀ v,hi=some v-> ∃ c,chi=some c/\R x v c) (hhi':hi=none->chi=none)
    {t e:Nat} (ht:P.underlying t=some (.slice e)) (hn:iM P e=some esz) (w:World):
    ∃ c,(Instr.sliceAt t cu clo chi none).run P w=.ok c w/\R x r c:=by
  have run: ∀ (b:Option Addr) (len cap l h:Nat),iE 0 lo=some l->iE len hi=some h->l<=h->h<=cap->
      (Instr.sliceAt t (.slice b len cap) clo chi none).run P w=.ok (.slice (if cap=l then b else b.map (·.add (l*esz))) (h - l) (cap - l)) w:=by
    intro b len cap l h hl hh h1 h2;have hb:=aBJ (P:=P) true (cap:=cap) (aIO hl hlo hlo') (aIO hh hhi hhi') h1 h2 w;simp only [Instr.sliceAt,Sem.run_bind,run_underlying ht,Result.andThen_ok,Instr.slice,hb,iR hn,Sem.run_pure]
  unfold oX at h;split at h
  . -- nilsl
    cases hu;split at h
    . rename_i hh
      split at h
      . rename_i hl
        cases h;exact ⟨_,run none 0 0 0 0 hl hh (Nat.le_refl _) (Nat.le_refl _),by simpa using R.nilsl⟩
      . cases h
    . cases h
  . rename_i rows
    cases hh:iE rows.length hi with
    |none=>simp [hh] at h
    | some hb =>
      cases hl:iE 0 lo with
      |none=>simp [hh,hl] at h
      | some l =>
        simp only [hh,hl,Option.bind_some] at h;split at h
        . rename_i h1
          split at h
          . rename_i h2
            split at h
            . rename_i h3
              cases h;cases hu with
              | slnil =>
                have hb0:hb=0:=by simpa using h2
                subst hb0;have hl0:l=0:=OM
                subst hl0;exact ⟨_,run none 0 0 0 0 hl hh (Nat.le_refl _) (Nat.le_refl _),by simpa using R.slnil⟩
              | sl _ ad cap sz cs hc hm hz hsz hcell hr =>
                refine ⟨_,run (some ad) rows.length cap l hb hl hh h1 OM,?_⟩;have hlen:((rows.take hb).drop l).length=hb - l:=by simp; omega
                have hidx: ∀ (r:Nat) (row:List V),((rows.take hb).drop l)[r]?=some row->rows[l+r]?=some row/\l+r < hb:=by
                  intro r row hr;simp only [List.getElem?_drop,List.getElem?_take] at hr;split at hr
                  . exact ⟨hr,by assumption⟩
                  . cases hr
                by_cases hcl:cap=l
                . have he:(rows.take hb).drop l=[]:=by apply List.eq_nil_of_length_eq_zero; omega
                  rw [if_pos hcl,he];have e1:hb - l=([]:List (List V)).length:=by simp; omega
                  rw [e1];exact .sl [] ad _ 0 (λ_=>undef) (Nat.zero_le _) OM (λh=>absurd J h) (λr hr=>by simp at hr) (λr row j v hr=>by simp at hr) (λr row j v hr=>by simp at hr)
                . rw [if_neg hcl,<- hlen]
                  have hall: ∀ r∈rows,r.length=esz:=by simpa using h3
                  refine .sl _ _ _ esz (λk=>cs<|l*sz+k) OM OM (λhne=>?_) (λr hr=>hall r<|List.mem_of_mem_take<|List.mem_of_mem_drop hr) (λr row j v hr hj=>?_) (λr row j v hr hj=>?_)
                  . simp only [iQ]
                    exact hz (by intro e; subst e; simp at hne)
                  . obtain ⟨h5,h6⟩:=hidx r row hr
                    have hs:sz=esz:=by rw [<- hsz row (List.mem_of_getElem? h5)]; exact hall row<|List.mem_of_getElem? h5
                    subst hs;have:=hcell _ _ _ _ h5 hj;rw [oG];rw [show l*sz+(r*sz+j)=(l+r)*sz+j by rw [Nat.add_mul]; omega];exact this
                  . obtain ⟨h5,h6⟩:=hidx r row hr
                    have hs:sz=esz:=by rw [<- hsz row (List.mem_of_getElem? h5)]; exact hall row<|List.mem_of_getElem? h5
                    subst hs;have h7 := ‹∀ (r : Nat) (row : List V) (j : Nat) (v : V), rows[r]? = some row -> row[j]? = some v -> R x v (cs<|r * sz + j)› _ _ _ _ h5 hj;show R x v (cs<|l*sz+(r*sz+j));rw [show l*sz+(r*sz+j)=(l+r)*sz+j by rw [Nat.add_mul]; omega];exact h7
            . cases h
          . cases h
        . cases h
  . rename_i id ver off len
    cases hh:iE len hi with
    |none=>simp [hh] at h
    | some hb =>
      cases hl:iE 0 lo with
      |none=>simp [hh,hl] at h
      | some l =>
        simp only [hh,hl,Option.bind_some] at h;split at h
        . rename_i hok
          obtain ⟨ho,hv'⟩:=okp hok;split at h
          . rename_i hs
            split at h
            . rename_i h1
              split at h
              . rename_i h2
                cases hu with
                | ms _ _ _ _ b m cap hv hh' hm =>
                  obtain ⟨e1,e2,e3,e4,e5,e6⟩:=hh' hv'<|iK ho
                  obtain ⟨e7,e8⟩:=e5 ho;subst e1;refine ⟨_,run b _ cap l hb hl hh h1 OM,?_⟩;split at h
                  . rename_i h3
                    cases h;rw [if_neg OM];refine .ms _ _ _ _ _ _ _ hv (λ_ _=>⟨rfl,OM,OM,OM,λ_=>⟨?_,?_⟩,λh=>by rw [ho] at h; cases h⟩) hm
                    . rw [e7,hs]; simp [Addr.add_lit,Nat.add_mul]
                    . rw [<- e8]; congr 1; omega
                  . rename_i h3
                    have hlh:l=hb:=OM
                    subst hlh;split at h
                    . rename_i h4
                      cases h;subst h4
                      have e9:(if cap=0 then b else b.map (·.add (0*esz)))=b:=by
                        split
                        . rfl
                        . rw [e7]; simp [Addr.add_zero']
                      rw [e9];exact .ms _ _ _ _ _ _ _ hv (λ_ _=>⟨OM,OM,OM,OM,λ_=>⟨e7,by rw [<- e8]; simp⟩,λh=>by rw [ho] at h; cases h⟩) hm
                    . cases h
                      have hb': ∃ ad,(if cap=l then b else b.map (·.add (l*esz)))=some ad:=by rw [e7]; split <;> exact ⟨_,J⟩
                      obtain ⟨ad,e10⟩:=hb';rw [e10];have e1:l - l=([]:List (List V)).length:=by simp
                      rw [e1];exact .sl [] ad _ 0 (λ_=>undef) (Nat.zero_le _) OM (λh=>absurd J h) (λr hr=>by simp at hr) (λr row j v hr=>by simp at hr) (λr row j v hr=>by simp at hr)
              . cases h
            . cases h
          . cases h
        . cases h
  . cases h
theorem aHv (s:List UInt8) (l h:Nat):(ByteArray.mk s.toArray).extract l h=ByteArray.mk ((s.take h).drop l).toArray:=by
  apply ByteArray.ext;rw [ByteArray.data_extract];simp [List.take_drop];rcases Nat.le_total l h with h1|h1
  . rw [show l+(h - l)=h by omega]
  . rw [show l+(h - l)=l by omega,List.drop_eq_nil_of_le (by simp; omega),List.drop_eq_nil_of_le (by simp; omega)]
theorem aG6 {u r : V} {cu : Value} {lo hi : Option V} {clo chi : Option Value} (h : aBl lo hi u = some r) (hu : R x u cu)
    (hlo: ∀ v,lo=some v-> ∃ c,clo=some c/\R x v c) (hlo':lo=none->clo=none) (hhi: ∀ v,hi=some v-> ∃ c,chi=some c/\R x v c) (hhi':hi=none->chi=none)
    {t:Nat} (ht:P.underlying t=some .string) (w:World):
    ∃ c,(Instr.sliceAt t cu clo chi none).run P w=.ok c w/\R x r c:=by
  unfold aBl at h;split at h
  . rename_i s
    cases hu;cases hh:iE s.length hi with
    |none=>simp [hh] at h
    | some hb =>
      cases hl:iE 0 lo with
      |none=>simp [hh,hl] at h
      | some l =>
        simp only [hh,hl,Option.bind_some] at h;split at h
        . rename_i h1
          split at h
          . rename_i h2
            cases h;have hsz:(ByteArray.mk s.toArray).size=s.length:=by simp [ByteArray.size]
            have hb':=aBJ (P:=P) false (len:=s.length) (cap:=s.length) (aIO hl hlo hlo') (aIO hh hhi hhi') h1 h2 w;refine ⟨_,?_,.str _⟩;simp only [Instr.sliceAt,Sem.run_bind,run_underlying ht,Result.andThen_ok,Instr.slice,hsz,Option.isSome_none,Bool.false_eq_true,if_false,Sem.run_pure,hb',aHv]
          . cases h
        . cases h
  . cases h
end
end Go.Proofs.YtinpihlhcmpkhaaGreat


namespace Go.Proofs.YtinpihlhcmpkhaaGreat
open Go
section
variable {P:Program} {x:Cx} {T:Nat->V} {a:Act}
theorem iH {rows:List (List V)} {sz n:Nat} (hsz: ∀ r∈rows,r.length=sz) (hfit:rows.length*sz<=n) {r j:Nat} {row:List V} {v:V} (hr:rows[r]?=some row) (hj:row[j]?=some v):
    r*sz+j < n/\r < rows.length/\j < sz:=by
  have h1:=(List.getElem?_eq_some_iff.1 hr).1;have h2:=(List.getElem?_eq_some_iff.1 hj).1;rw [hsz row (List.mem_of_getElem? hr)] at h2;have h3:(r+1)*sz<=rows.length*sz:=Nat.mul_le_mul_right _ h1;rw [Nat.add_mul] at h3;exact ⟨OM,h1,h2⟩
theorem lL {x:Cx} {id:Nat} {cc:Array Value} {ty:TypeId} (hcc:x.w.heap[x.σ id]?=some (.cells cc ty (0,0))) {k:Nat} (hk:k < cc.size):x.w.cell? ⟨x.σ id,k,none⟩=some (cc.getD k undef):=by
  simp only [World.cell?,hcc,Option.isSome_none,Bool.false_eq_true,if_false];exact yV hk
theorem aDq (hx : Inv x) {u : V} {cu : Value} {cs : List V} (h : ptr x.H u = some cs) (hu : R x u cu) :
    ∃ (ad:Addr) (f:Nat->Value),cu=.pointer (some ad)/\ ∀ (j:Nat) (v:V),cs[j]?=some v->x.w.cell? (ad.add j)=some (f j)/\R x v (f j):=by
  unfold ptr at h;split at h
  . rename_i cells
    cases h;cases hu with
    |pp _ ad f hz hcell hr=>exact ⟨ad,f,rfl,λj v hj=>⟨hcell j v hj,hr j v hj⟩⟩
  . rename_i id ver row off
    split at h
    . rename_i hok
      obtain ⟨ho,hv⟩:=okp hok;cases hr:(x.H id).rows[row]? with
      |none=>simp [hr] at h
      | some r =>
        simp [hr] at h;subst h;cases hu with
        | mp _ _ _ _ p hv' hh hm =>
          have:=hh hv ho;subst this;obtain ⟨cc,h1,h2,h3,h4⟩:=hx.cel id ho<|hm hv ho
          refine ⟨_,λj=>cc.getD (row*(x.H id).sz+(off+j)) undef,J,λj v hj=>?_⟩;have hj':r[off+j]?=some v:=by simpa using hj
          refine ⟨?_,h4 row r (off+j) v hr hj'⟩;obtain ⟨h5,_⟩:=iH h2 h3 hr hj';rw [Addr.add_lit,Nat.add_assoc];exact lL h1 h5
    . cases h
  . cases h
theorem aGC (hx : Inv x) {agg : Bool} {n : Nat} {u r : V} {cu : Value} (h : (ptr x.H u).bind (ldV agg n) = some r) (hu : R x u cu) {t : Nat} (hg : nE P t = some agg) (hn : iM P t = some n) (hg1 : ¬ (agg = false /\ n ≠ 1)) :
    ∃ c,(Instr.loadAt t cu).run P x.w=.ok c x.w/\R x r c:=by
  cases hp:ptr x.H u with
  |none=>simp [hp] at h
  | some cs =>
    simp only [hp,Option.bind_some] at h;obtain ⟨ad,f,rfl,hf⟩:=aDq hx hp hu;unfold ldV at h;split at h
    . rename_i hle
      split at h
      . cases agg with
        | true =>
          simp at h;subst h;have hl:=run_loadCells (P:=P) x.w ad n f (λj hj=>(hf j cs[j] (List.getElem?_eq_getElem OM)).1);refine ⟨.agg ((List.range n).map f).toArray,by simp only [Instr.loadAt,Instr.sureAddr,loadVar,Sem.run_bind,Sem.run_pure,Result.andThen_ok,oN hg,if_true,iR hn,hl],.agg _ _ (by simp; omega) λj v hj=>?_⟩
          have hj2:j < n/\cs[j]?=some v:=by
            simp only [List.getElem?_take] at hj;split at hj
            . exact ⟨by assumption,hj⟩
            . cases hj
          have e:((List.range n).map f).toArray.getD j undef=f j:=by
            simp [hj2.1]
          rw [e];exact (hf j v hj2.2).2
        | false =>
          simp at h;have hn1:n=1:=by simpa using hg1
          have h0:cs[0]?=some r:=by cases cs <;> simp_all
          obtain ⟨h1,h2⟩:=hf 0 r h0;rw [Addr.add_zero'] at h1;refine ⟨f 0,?_,h2⟩;simp only [Instr.loadAt,Instr.sureAddr,loadVar,Sem.run_bind,Sem.run_pure,Result.andThen_ok,oN hg,Bool.false_eq_true,if_false,run_load,h1]
      . cases h
    . cases h
theorem jZ (r:List V) (o:Nat) (vs:List V):(iO r o vs).length=r.length:=by
  induction vs generalizing r o with
  |nil=>rfl
  |cons v vs ih=>simp [iO,ih]
theorem vA (vs : List V) : ∀ (r : List V) (o : Nat), o + vs.length <= r.length -> ∀ j, (iO r o vs)[j]? = if o <= j /\ j < o + vs.length then vs[j - o]? else r[j]? := by
  induction vs with
  |nil=>intro r o _ j; simp [iO]; intro h1 h2; omega
  | cons v vs ih =>
    intro r o h j;simp only [List.length_cons] at h;simp only [iO];rw [ih _ _ (by simp; omega) j];by_cases h1:o+1<=j/\j < o+1+vs.length
    . rw [if_pos h1,if_pos (by simp; omega)]
      rw [show j - o=(j - (o+1))+1 by omega];simp
    . rw [if_neg h1]
      by_cases h2:j=o
      . subst h2
        rw [if_pos SI,List.getElem?_set_self OM];simp
      . rw [if_neg (by simp; omega),List.getElem?_set_ne OM]
theorem vE {cur:Array Value} {o:Nat} {vs:List Value} (h:o+vs.length<=cur.size) (j:Nat):
    ((cur.toList.take o++vs++cur.toList.drop (o+vs.length)).toArray)[j]?=if o<=j/\j < o+vs.length then vs[j - o]? else cur[j]?:=by
  have hl:cur.toList.length=cur.size:=by simp
  simp only [List.getElem?_toArray,List.getElem?_append,List.length_take,List.length_append,List.getElem?_take,List.getElem?_drop,hl,Nat.min_eq_left (show o<=cur.size by omega)];by_cases h1:j < o
  . rw [if_pos OM,if_pos h1,if_pos h1,if_neg OM]
    simp
  . by_cases h2:j < o+vs.length
    . rw [if_pos h2,if_neg h1,if_pos OM]
    . rw [if_neg h2,if_neg OM]
      simp;congr 1;omega
theorem aDB {sz r j r' j':Nat} (hj:j < sz) (hj':j' < sz) (h:r*sz+j=r'*sz+j'):r=r'/\j=j':=by
  have h1:(r*sz+j) / sz=r:=by rw [Nat.mul_comm,Nat.mul_add_div OM]; simp [Nat.div_eq_of_lt hj]
  have h2:(r'*sz+j') / sz=r':=by rw [Nat.mul_comm,Nat.mul_add_div OM]; simp [Nat.div_eq_of_lt hj']
  have h3:r=r':=by rw [<- h1,<- h2,h]
  subst h3;exact ⟨J,OM⟩
theorem aEX {b:Blk} (h:b.own=true):(b.lz&&b.rows.isEmpty)=false:=by
  unfold Blk.own at h;cases h1:(b.lz&&b.rows.isEmpty) with
  |false=>rfl
  |true=>rw [h1] at h; simp at h
theorem aKQ (hx : Inv x) {n : Nat} {u v : V} {cu cv : Value} {H' : aT} (h : stP x.H n v.cells u = some H') (hu : R x u cu) (hv : R x v cv) {t : Nat} (hn : iM P t = some n) :
    ∃ y:Cx,(Instr.storeAt t cu cv).run P x.w=.ok () y.w/\y.H=H'/\Inv y/\Frame x y:=by
  unfold stP at h;split at h
  . rename_i id ver row off
    split at h
    . rename_i hok
      obtain ⟨ho,hver⟩:=okp hok;split at h
      . rename_i hlen
        split at h
        . rename_i hone
          split at h
          . rename_i r hr
            split at h
            . rename_i hfit
              cases h;cases hu with
              | mp _ _ _ _ p hv' hh hm =>
                have:=hh hver ho;subst this;obtain ⟨cc,h1,h2,h3,h4⟩:=hx.cel id ho<|hm hver ho
                obtain ⟨c1,c2⟩:=hv.cells;have hrl:r.length=(x.H id).sz:=h2 r<|List.mem_of_getElem? hr
                have hrow:row < (x.H id).rows.length:=(List.getElem?_eq_some_iff.1 hr).1;have hmul:(row+1)*(x.H id).sz<=(x.H id).rows.length*(x.H id).sz:=Nat.mul_le_mul_right _ hrow;rw [Nat.add_mul] at hmul;have hvl:cv.cells.toList.length=n:=by simp [c1,hlen]
                have hst:=run_storeCells_at P (x.σ id) (row*(x.H id).sz+off) (x.H id).ty cv.cells.toList 0 cc x.w h1 OM (λe he=>by
                  obtain ⟨j,hj⟩:=List.mem_iff_getElem?.1 he;have hjl:j < v.cells.length:=by have:=(List.getElem?_eq_some_iff.1 hj).1; omega
                  have h5:=c2 j v.cells[j] (List.getElem?_eq_getElem hjl)
                  have h6:cv.cells.getD j undef=e:=by
                    have:cv.cells[j]?=some e:=by simpa using hj
                    simp [Array.getD_eq_getD_getElem?,this]
                  rw [h6] at h5;exact h5.one<|List.all_eq_true.1 hone _<|List.getElem_mem hjl)
                simp only [Nat.add_zero] at hst
                obtain ⟨hI, hF⟩ := lN hx id ho cc (cc.toList.take (row * (x.H id).sz + off) ++ cv.cells.toList ++ cc.toList.drop (row * (x.H id).sz + off + cv.cells.toList.length)).toArray h1
                  (by simp; omega) (x.H id).ver ((x.H id).rows.set row (iO r off v.cells)) (Nat.le_refl _) (λ_=>by simp)
                  (by
                    have e:((x.H id).rows.set row (iO r off v.cells)).isEmpty=(x.H id).rows.isEmpty:=by
                      cases hq:(x.H id).rows with
                      |nil=>rfl
                      |cons a l=>cases row <;> rfl
                    rw [e];exact aEX ho)
                  (λq hq=>by
                    rcases List.mem_or_eq_of_mem_set hq with hq|hq
                    . exact h2 q hq
                    . rw [hq,jZ]; exact hrl)
                  (by simpa using h3)
                  (λq qrow j w hq hj=>by
                    rw [Array.getD_eq_getD_getElem?,vE OM];by_cases hqr:q=row
                    . subst hqr
                      rw [List.getElem?_set_self hrow] at hq;cases hq;rw [vA _ _ _ (by rw [hlen]; exact hfit)] at hj;by_cases hin:off<=j/\j < off+v.cells.length
                      . rw [if_pos hin] at hj
                        rw [if_pos OM];have:=c2 (j - off) w hj;rw [show q*(x.H id).sz+j - (q*(x.H id).sz+off)=j - off by omega];simpa [Array.getD_eq_getD_getElem?] using this
                      . rw [if_neg hin] at hj
                        rw [if_neg OM];have:=h4 q r j w hr hj
                        rwa [Array.getD_eq_getD_getElem?] at this
                    . rw [List.getElem?_set_ne (Ne.symm hqr)] at hq
                      have h7:=iH h2 h3 hq hj;have:=h4 q qrow j w hq hj;rw [if_neg]
                      . rwa [Array.getD_eq_getD_getElem?] at this
                      . intro hc
                        have h8:q*(x.H id).sz+j=row*(x.H id).sz+(q*(x.H id).sz+j - row*(x.H id).sz):=OM
                        exact hqr (aDB h7.2.2 OM h8).1)
                refine ⟨_,?_,?_,hI,hF⟩
                . simp only [Instr.storeAt,Instr.sureAddr,storeVar,Sem.run_bind,Sem.run_pure,Result.andThen_ok,iR hn]
                  rw [if_neg (by simp [c1,hlen])];exact hst
                . simp only
                  congr 1;have:=iK ho;cases hq:x.H id
                  simp_all
            . cases h
          . cases h
        . cases h
      . cases h
    . cases h
  . cases h
end
end Go.Proofs.YtinpihlhcmpkhaaGreat


namespace Go.Proofs.YtinpihlhcmpkhaaGreat
open Go
section
variable {P:Program} {x:Cx} {T:Nat->V} {a:Act}
def CR (x:Cx) (z:List V) (cc:Array Value):Prop:=cc.size=z.length/\ ∀ (j:Nat) (v:V),z[j]?=some v->R x v (cc.getD j undef)
theorem aFS {v:V} {c:Value} (h:R x v c):CR x v.cells c.cells:=h.cells
theorem aIS (hx:Inv x) (id:Nat) (ty:TypeId) {z:List V} {cc:Array Value} (h:CR x z cc):
    ∃ y:Cx,y.w=x.w.alloc (.cells cc ty)/\y.H=cU x.H id ⟨(x.H id).ver+1,true,false,ty,z.length,[z]⟩/\Inv y/\Frame x y/\R y (.mp id ((x.H id).ver+1) 0 0) (.pointer (some ⟨x.w.heap.size,0,none⟩)):=by
  obtain ⟨hI,hF⟩:=nH hx id cc false ty z.length [z] (λr hr=>by simp at hr; rw [hr]) (by simp [h.1]) (λr row j v hr hj=>by
    cases r with
    |zero=>simp at hr; subst hr; simpa using h.2 j v hj
    |succ r=>simp at hr)
  refine ⟨_,J,J,hI,hF,.mp _ _ _ _ _ (by simp [aR]) (λ_ _=>?_) λ_ _=>by simp [aR,Blk.isM]⟩;simp [aR]
theorem qQ (x : Cx) {t : Nat} {z : List V} (h : iG P t = some z) (w : World) : ∃ v, (zeroValue t).run P w = .ok v w /\ (∃ i, P.info? t = some i /\ i.zero = some v) /\ CR x z v.cells := by
  unfold iG at h;cases hi:P.info? t with
  |none=>simp [hi] at h
  | some i =>
    cases hz:i.zero with
    |none=>simp [hi,hz] at h
    | some v =>
      simp only [hi,hz,Option.bind_some] at h;cases hc:cvt v with
      |none=>simp [hc] at h
      | some u =>
        simp [hc] at h;subst h;exact ⟨v,by simp [zeroValue,typeInfo,hi,hz],⟨i,J,hz⟩,aFS (aPR x hc)⟩
theorem aKB (hx:Inv x) (id:Nat) {t:Nat} {z:List V} (h:iG P t=some z):
    ∃ y c,(Instr.alloc t true (.tuple #[])).run P x.w=.ok c y.w/\y.H=cU x.H id ⟨(x.H id).ver+1,true,false,t,z.length,[z]⟩/\Inv y/\Frame x y/\R y (.mp id ((x.H id).ver+1) 0 0) c:=by
  obtain ⟨v,h1,_,h2⟩:=qQ (P:=P) x h x.w;obtain ⟨y,e,h3,h4,h5,h6⟩:=aIS hx id t h2;refine ⟨y,_,?_,h3,h4,h5,h6⟩;rw [e];simp [Instr.alloc,h1,newVar,newRow]
theorem aPd (hx:Inv x) (id t:Nat) {v:V} {c:Value} (h:R x v c):
    ∃ y c',(Instr.box t c).run P x.w=.ok c' y.w/\y.H=cU x.H id ⟨(x.H id).ver+1,true,false,t,v.cells.length,[v.cells]⟩/\Inv y/\Frame x y/\R y (.mp id ((x.H id).ver+1) 0 0) c':=by
  obtain ⟨y,e,h3,h4,h5,h6⟩:=aIS hx id t<|aFS h
  refine ⟨y,_,?_,h3,h4,h5,h6⟩;rw [e];simp [Instr.box,newVar,newRow]
theorem aF4 {α β:Type} {f:α->Sem β} {g:α->β} {w:World}: ∀ (l:List α),(∀ a∈l,(f a).run P w=.ok (g a) w)->(l.mapM f).run P w=.ok (l.map g) w
  |[],_=>by simp
  | a :: l, h => by
    simp only [List.mapM_cons,Sem.run_bind,h a SI,Result.andThen_ok,aF4 l λb hb=>h b (by simp [hb]),Sem.run_pure,List.map_cons]
theorem aCO (off : Nat) : ∀ (l : List Value) (s : Nat) (cs : Array Value), off + s + l.length <= cs.size -> ∀ k, ((l.zipIdx s).foldl (λ(cs : Array Value) (p : Value × Nat) => cs.setIfInBounds (off + p.2) p.1) cs)[k]? = (if off + s <= k /\ k < off + s + l.length then l[k - (off + s)]? else cs[k]?)
    /\((l.zipIdx s).foldl (λ(cs:Array Value) (p:Value×Nat)=>cs.setIfInBounds (off+p.2) p.1) cs).size=cs.size
  |[],s,cs,_,k=>by simp; intro h1 h2; omega
  | c :: l, s, cs, h, k => by
    simp only [List.length_cons] at h;have ih:=aCO off l (s+1) (cs.setIfInBounds (off+s) c) (by simp; omega) k;simp only [List.zipIdx_cons,List.foldl_cons];refine ⟨?_,by simpa using ih.2⟩;rw [ih.1];by_cases h1:off+(s+1)<=k/\k < off+(s+1)+l.length
    . rw [if_pos h1,if_pos (by simp; omega)]
      rw [show k - (off+s)=(k - (off+(s+1)))+1 by omega];simp
    . rw [if_neg h1]
      by_cases h2:k=off+s
      . subst h2
        rw [if_pos SI,Array.getElem?_setIfInBounds_self_of_lt OM];simp
      . rw [if_neg (by simp; omega)]
        simp [Array.getElem?_setIfInBounds_ne (Ne.symm h2)]
theorem aKZ {x:Cx} {z:List V} {cc:Array Value} (h:CR x z cc) {v:V} {c:Value} (hv:R x v c) {off:Nat} (hf:off+v.cells.length<=z.length):
    CR x (iO z off v.cells) (c.cells.zipIdx.foldl (λ(cs:Array Value) (p:Value×Nat)=>cs.setIfInBounds (off+p.2) p.1) cc):=by
  obtain ⟨h1,h2⟩:=hv.cells;have hl:c.cells.toList.length=v.cells.length:=by simp [h1]
  have key:=aCO off c.cells.toList 0 cc (by rw [hl,h.1]; omega)
  have e:c.cells.zipIdx.foldl (λ(cs:Array Value) (p:Value×Nat)=>cs.setIfInBounds (off+p.2) p.1) cc=(c.cells.toList.zipIdx 0).foldl (λ(cs:Array Value) (p:Value×Nat)=>cs.setIfInBounds (off+p.2) p.1) cc:=by
    rw [<- Array.foldl_toList,Array.toList_zipIdx]
  rw [e];refine ⟨by rw [(key 0).2,h.1,jZ],λj u hj=>?_⟩;rw [Array.getD_eq_getD_getElem?,(key j).1];rw [vA _ _ _ hf] at hj;simp only [Nat.add_zero,hl];by_cases hin:off<=j/\j < off+v.cells.length
  . rw [if_pos hin] at hj ⊢
    have:=h2 _ _ hj;simpa [Array.getD_eq_getD_getElem?] using this
  . rw [if_neg hin] at hj ⊢
    have:=h.2 _ _ hj;simpa [Array.getD_eq_getD_getElem?] using this
theorem aER {x : Cx} {place : Nat -> Option (Nat × Nat)} : ∀ (qs : List (Nat × Nat × V)) (ps : List (Nat × Value)) (z z' : List V) (cc : Array Value), ps.length = qs.length ->
    (∀ (j:Nat) (q:Nat×Nat×V),qs[j]?=some q-> ∃ i c,ps[j]?=some (i,c)/\place i=some (q.1,q.2.1)/\R x q.2.2 c)->
    bld z qs=some z'->CR x z cc-> ∃ cc',Instr.fill place cc ps=some cc'/\CR x z' cc'
  | [], ps, z, z', cc, hl, _, hb, hc => by
    cases ps with
    |nil=>cases hb; exact ⟨cc,rfl,hc⟩
    |cons p ps=>simp at hl
  | (off, n, v) :: qs, ps, z, z', cc, hl, hq, hb, hc => by
    cases ps with
    |nil=>simp at hl
    | cons p ps =>
      obtain ⟨i,c,h1,h2,h3⟩:=hq 0 _ J;simp at h1;subst h1;simp only [bld] at hb;split at hb
      . rename_i h4
        split at hb
        . rename_i h5
          have h6:=h3.cells.1;have hst:=aKZ hc h3 (off:=off) (by rw [h4]; exact h5);obtain ⟨cc',h7,h8⟩:=aER qs ps _ z' _ (by simpa using hl) (λj q hj=>hq (j+1) q (by simpa using hj)) hb hst;refine ⟨cc',?_,h8⟩;simp only [Instr.fill,h2];rw [if_neg (by simp [h6,h4,hc.1]; omega)];exact h7
        . cases hb
      . cases hb
theorem aKO {t:Nat} {fs:Array Field} {z:List V} (hfs:P.underlying t=some (.struct fs)) (hz:iG P t=some z) (hinfo:(fs.all λf=>(P.info? f.type).isSome)=true)
    {qs:List (Nat×Nat×V)} {ps:List (Nat×Value)} (hl:ps.length=qs.length)
    (hq: ∀ (j:Nat) (q:Nat×Nat×V),qs[j]?=some q-> ∃ i c f,ps[j]?=some (i,c)/\fs[i]?=some f/\f.offset=q.1/\iM P f.type=some q.2.1/\R x q.2.2 c)
    {z':List V} (hb:bld z qs=some z') (w:World): ∃ c,(Instr.build t ps.toArray).run P w=.ok c w/\R x (.agg z') c:=by
  obtain ⟨v,h1,_,h2⟩:=qQ (P:=P) x hz w
  have hm: ∀ f∈fs.toList,(do pure (f.offset,<- sizeOf f.type):Sem (Nat×Nat)).run P w=.ok (f.offset,(iM P f.type).getD 0) w:=λf hf=>by
    have:(P.info? f.type).isSome=true:=Array.all_eq_true_iff_forall_mem.1 hinfo f (by simpa using hf);obtain ⟨i,hi⟩:=Option.isSome_iff_exists.1 this;have:iM P f.type=some i.size:=by simp [iM,hi]
    simp [iR this,this]
  have hmm:=aF4 fs.toList hm
  have hplaces:(fs.mapM λf=>do pure (f.offset,<- sizeOf f.type):Sem (Array<|Nat×Nat)).run P w=.ok (fs.toList.map λf=>(f.offset,(iM P f.type).getD 0)).toArray w:=by
    rw [Array.mapM_eq_mapM_toList];simp only [Sem.run_map,hmm,Result.andThen_ok]
  obtain ⟨cc',h3,h4⟩:=aER (place:=λi=>(fs.toList.map λf=>(f.offset,(iM P f.type).getD 0)).toArray[i]?) qs ps z z' v.cells hl (λj q hj=>by
    obtain ⟨i,c,f,g1,g2,g3,g4,g5⟩:=hq j q hj;refine ⟨i,c,g1,?_,g5⟩;simp [g2,g3,g4]) hb h2
  refine ⟨.agg cc',?_,.agg _ _ h4.1 h4.2⟩;simp only [Instr.build,Sem.run_bind,h1,Result.andThen_ok,run_underlying hfs,hplaces,h3,Sem.run_pure]
theorem aHX {t e len n:Nat} {z:List V} (ht:P.underlying t=some (.array len e)) (hz:iG P t=some z) (hn:iM P e=some n)
    {qs:List (Nat×V)} {ps:List (Nat×Value)} (hl:ps.length=qs.length) (hq: ∀ (j:Nat) (q:Nat×V),qs[j]?=some q-> ∃ c,ps[j]?=some (q.1,c)/\R x q.2 c)
    {z':List V} (hb:bld z (qs.map λq=>(q.1*n,n,q.2))=some z') (w:World): ∃ c,(Instr.build t ps.toArray).run P w=.ok c w/\R x (.agg z') c:=by
  obtain ⟨v,h1,_,h2⟩:=qQ (P:=P) x hz w
  obtain ⟨cc',h3,h4⟩:=aER (place:=λi=>some (i*n,n)) (qs.map λq=>(q.1*n,n,q.2)) ps z z' v.cells (by simpa using hl) (λj q hj=>by
    rw [List.getElem?_map] at hj;obtain ⟨p,hp,rfl⟩:=Option.map_eq_some_iff.1 hj;obtain ⟨c,g1,g2⟩:=hq j p hp;exact ⟨p.1,c,g1,J,g2⟩) hb h2
  refine ⟨.agg cc',?_,.agg _ _ h4.1 h4.2⟩;simp only [Instr.build,Sem.run_bind,h1,Result.andThen_ok,run_underlying ht,iR hn,h3,Sem.run_pure]
end
end Go.Proofs.YtinpihlhcmpkhaaGreat


namespace Go.Proofs.YtinpihlhcmpkhaaGreat
open Go
section
variable {P:Program} {x:Cx} {T:Nat->V} {a:Act}
structure CRR (x:Cx) (rows:List (List V)) (sz:Nat) (cc:Array Value):Prop where
  size:rows.length*sz<=cc.size
  row: ∀ r∈rows,r.length=sz
  rel: ∀ (r:Nat) (row:List V) (j:Nat) (v:V),rows[r]?=some row->row[j]?=some v->R x v (cc.getD (r*sz+j) undef)
theorem aBU {x:Cx} {z:List V} {zc:Array Value} (h:CR x z zc) (len n:Nat) (hz:z.length≠0) (hn:len*z.length<=n):
    CRR x (List.replicate len z) z.length ((Array.range n).map (zc[· % zc.size]!)):=by
  refine ⟨by simpa using hn,λr hr=>by rw [(List.mem_replicate.1 hr).2],λr row j v hr hj=>?_⟩;have hlt:=(List.getElem?_eq_some_iff.1 hr).1;simp at hlt
  have hrow:row=z:=by
    have:=List.mem_of_getElem? hr;exact (List.mem_replicate.1 this).2
  subst hrow;have hj2:=(List.getElem?_eq_some_iff.1 hj).1;have hm:(r+1)*row.length<=len*row.length:=Nat.mul_le_mul_right _ hlt;rw [Nat.add_mul] at hm;have h1:(r*row.length+j) % zc.size=j:=by rw [h.1,Nat.mul_comm,Nat.mul_add_mod]; exact Nat.mod_eq_of_lt hj2
  have h2:=h.2 j v hj;have h3:j < zc.size:=by rw [h.1]; exact hj2
  have e:((Array.range n).map (zc[· % zc.size]!)).getD (r*row.length+j) undef=zc.getD j undef:=by
    rw [Array.getD_eq_getD_getElem?,Array.getElem?_map,Array.getElem?_range];rw [if_pos OM];simp only [Option.map_some,Option.getD_some,h1];rw [getElem!_pos zc j h3,Array.getD_eq_getD_getElem?,Array.getElem?_eq_getElem h3]
    rfl
  rw [e]; exact h2
theorem aDk {x : Cx} {esz : Nat} : ∀ (qs : List (Nat × V)) (ps : List (Nat × Value)) (rows rows' : List (List V)) (cc : Array Value), ps.length = qs.length ->
    (∀ (j:Nat) (q:Nat×V),qs[j]?=some q-> ∃ c,ps[j]?=some (q.1,c)/\R x q.2 c)->
    uR esz rows qs=some rows'->CRR x rows esz cc->rows'.length=rows.length/\ ∃ cc',Instr.fill (λi=>some (i*esz,esz)) cc ps=some cc'/\cc'.size=cc.size/\CRR x rows' esz cc'
  | [], ps, rows, rows', cc, hl, _, hb, hc => by
    cases ps with
    |nil=>cases hb; exact ⟨rfl,cc,rfl,rfl,hc⟩
    |cons p ps=>simp at hl
  | (i, v) :: qs, ps, rows, rows', cc, hl, hq, hb, hc => by
    cases ps with
    |nil=>simp at hl
    | cons p ps =>
      obtain ⟨c,h1,h3⟩:=hq 0 _ J;simp at h1;subst h1;simp only [uR] at hb;split at hb
      . rename_i h4
        split at hb
        . rename_i h5
          obtain ⟨h6,h7⟩:=h3.cells;have hl2:c.cells.toList.length=v.cells.length:=by simp [h6]
          have hmul:(i+1)*esz<=rows.length*esz:=Nat.mul_le_mul_right _ h5;rw [Nat.add_mul] at hmul;have hfit:i*esz+esz<=cc.size:=by have:=hc.size; omega
          have key:=aCO (i*esz) c.cells.toList 0 cc (by rw [hl2,h4]; omega)
          have e:c.cells.zipIdx.foldl (λ(cs:Array Value) (p:Value×Nat)=>cs.setIfInBounds (i*esz+p.2) p.1) cc=(c.cells.toList.zipIdx 0).foldl (λ(cs:Array Value) (p:Value×Nat)=>cs.setIfInBounds (i*esz+p.2) p.1) cc:=by
            rw [<- Array.foldl_toList,Array.toList_zipIdx]
          have hst:CRR x (rows.set i v.cells) esz (c.cells.zipIdx.foldl (λ(cs:Array Value) (p:Value×Nat)=>cs.setIfInBounds (i*esz+p.2) p.1) cc):=by
            rw [e];refine ⟨by rw [(key 0).2]; simpa using hc.size,λr hr=>?_,λr row j u hr hj=>?_⟩
            . rcases List.mem_or_eq_of_mem_set hr with hr|hr
              . exact hc.row r hr
              . rw [hr]; exact h4
            . rw [Array.getD_eq_getD_getElem?, (key<|r * esz + j).1]
              simp only [Nat.add_zero,hl2,h4];by_cases hri:r=i
              . subst hri
                rw [List.getElem?_set_self h5] at hr;cases hr;have hj2:=(List.getElem?_eq_some_iff.1 hj).1;rw [if_pos OM,show r*esz+j - r*esz=j by omega];have:=h7 _ _ hj;simpa [Array.getD_eq_getD_getElem?] using this
              . rw [List.getElem?_set_ne (Ne.symm hri)] at hr
                have h8:=iH hc.row hc.size hr hj;rw [if_neg]
                . have:=hc.rel _ _ _ _ hr hj
                  rwa [Array.getD_eq_getD_getElem?] at this
                . intro hcon
                  have h9:r*esz+j=i*esz+(r*esz+j - i*esz):=OM
                  exact hri (aDB h8.2.2 OM h9).1
          have hs0:(c.cells.zipIdx.foldl (λ(cs:Array Value) (p:Value×Nat)=>cs.setIfInBounds (i*esz+p.2) p.1) cc).size=cc.size:=by rw [e,(key 0).2]
          obtain ⟨h10,cc',h11,h12,h13⟩:=aDk qs ps _ rows' _ (by simpa using hl) (λj q hj=>hq (j+1) q (by simpa using hj)) hb hst;refine ⟨by simpa using h10,cc',?_,h12.trans hs0,h13⟩;simp only [Instr.fill];rw [if_neg (by simp [h6,h4]; omega)];exact h11
        . cases hb
      . cases hb
theorem yJ {t e esz len : Nat} {z : List V} (ht : P.underlying t = some (.slice e)) (hz : iG P e = some z) (hn : iM P e = some esz) (hzl : z.length = esz) (h0 : esz ≠ 0) (hlen : len * esz <= 16777216)
    {qs:List (Nat×V)} {ps:List (Nat×Value)} (hl:ps.length=qs.length) (hq: ∀ (j:Nat) (q:Nat×V),qs[j]?=some q-> ∃ c,ps[j]?=some (q.1,c)/\R x q.2 c)
    {rows:List (List V)} (hb:uR esz (List.replicate len z) qs=some rows):
    rows.length=len/\ ∃ cc,(Instr.buildSlice t len ps.toArray).run P x.w=.ok (.slice (some ⟨x.w.heap.size,0,none⟩) len len) (x.w.alloc (.cells cc e))/\cc.size=len*esz/\CRR x rows esz cc:=by
  obtain ⟨v,h1,_,h2⟩:=qQ (P:=P) x hz x.w;by_cases hl0:len=0
  . subst hl0
    have hrows:rows.length=0:=by
      have: ∀ (qs:List (Nat×V)) (r r':List (List V)),uR esz r qs=some r'->r'.length=r.length:=by
        intro qs
        induction qs with
        |nil=>intro r r' h; cases h; rfl
        | cons q qs ih =>
          intro r r' h;simp only [uR] at h;split at h
          . split at h
            . simpa using ih _ _ h
            . cases h
          . cases h
      simpa using this qs _ _ hb
    have hrn:rows=[]:=List.eq_nil_of_length_eq_zero hrows
    have hqs:qs=[]:=by
      cases qs with
      |nil=>rfl
      |cons q qs=>simp [uR] at hb
    subst hqs;have hps:ps=[]:=List.eq_nil_of_length_eq_zero (by simpa using hl);subst hps;refine ⟨hrows,#[],?_,SI,⟨by simp [hrows],λr hr=>by simp [hrn] at hr,λr row j u hr=>by simp [hrn] at hr⟩⟩;simp [Instr.buildSlice,run_underlying ht,iR hn,Instr.fill,newRow,Array.range_zero']
  . have h3:=aBU h2 len (len*esz) OM (by rw [hzl]; exact Nat.le_refl _)
    rw [hzl] at h3;obtain ⟨h4,cc,h5,h6,h7⟩:=aDk qs ps _ rows _ hl hq hb h3;refine ⟨by simpa using h4,cc,?_,by simpa using h6,h7⟩;have h8: ¬ len*esz > 2 ^ 24:=OM
    have h9: ¬ len*esz=0:=Nat.mul_ne_zero hl0 h0;simp only [Instr.buildSlice,Sem.run_bind,run_underlying ht,Result.andThen_ok,iR hn,if_neg h8,if_neg h9,h1,Sem.run_pure,h5,newRow,run_newObj,World.alloc_eq]
theorem kZ (w:World) (cc:Array Value) (e:TypeId):fE (w.alloc (.cells cc e)) w.heap.size=cc.size:=by
  unfold fE; rw [kA]
theorem aA6 (hx:Inv x) {e esz len:Nat} {rows:List (List V)} {cc:Array Value} (hlen:rows.length=len) (hc:CRR x rows esz cc) (hcs:cc.size=len*esz) (hm:len<=maxLen):
    ∃ y:Cx,y.w=x.w.alloc (.cells cc e)/\y.H=x.H/\Inv y/\Frame x y/\R y (.sl rows) (.slice (some ⟨x.w.heap.size,0,none⟩) len len):=by
  obtain ⟨hI,hF⟩:=aKm hx (.cells cc e);refine ⟨{x with w:=x.w.alloc (.cells cc e),Z:=λb=>x.Z b\/b=x.w.heap.size},rfl,rfl,hI,hF,?_⟩;subst hlen;refine .sl rows _ _ esz (λk=>cc.getD k undef) (Nat.le_refl _) hm (λ_=>.inr J) hc.row (λr row j v hr hj=>?_) (λr row j v hr hj=>(hc.rel r row j v hr hj).frame hx hF);have h1:=(iH hc.row hc.size hr hj).1;simp only [Addr.add_lit,Nat.zero_add,World.cell?_alloc_new];exact yV h1
theorem aCr (hx:Inv x) (id:Nat) {e esz len cap:Nat} {rows:List (List V)} {cc:Array Value} (hlen:rows.length=len) (hc:CRR x rows esz cc) (hcs:cc.size=cap*esz) (hcap:len<=cap) (hm:cap<=maxLen):
    ∃ y:Cx,y.w=x.w.alloc (.cells cc e)/\y.H=cU x.H id ⟨(x.H id).ver+1,true,false,e,esz,rows⟩/\Inv y/\Frame x y/\R y (.ms id ((x.H id).ver+1) 0 len) (.slice (some ⟨x.w.heap.size,0,none⟩) len cap):=by
  obtain ⟨hI,hF⟩:=nH hx id cc false e esz rows hc.row hc.size hc.rel;refine ⟨_,J,J,hI,hF,.ms _ _ _ _ _ _ _ (by simp [aR]) (λ_ _=>?_) λ_ _=>by simp [aR,Blk.isM]⟩;simp only [aR];refine ⟨trivial,hcap,hm,OM,λ_=>⟨SI,?_⟩,λh=>by simp [Blk.own] at h⟩;rw [kZ,hcs,Nat.zero_add]
theorem aPi (hx : Inv x) (id : Nat) {t e esz bytes : Nat} {z : List V} {i : TypeInfo} (ht : P.underlying t = some (.slice e)) (hi : P.info? e = some i) (hz : iG P e = some z) (hs : i.size = esz) (hby : i.bytes = bytes) (hzl : z.length = esz) (h0 : esz ≠ 0)
    {l c:V} {cl cc:Value} {n:Nat×Nat} (h:aBa bytes l c=some n) (hl:R x l cl) (hc:R x c cc):
    ∃ y r,(Instr.makeSlice t cl cc).run P x.w=.ok r y.w/\y.H=cU x.H id ⟨(x.H id).ver+1,true,false,e,esz,List.replicate n.1 z⟩/\Inv y/\Frame x y/\R y (.ms id ((x.H id).ver+1) 0 n.1) r:=by
  obtain ⟨v,h1,_,h2⟩:=qQ (P:=P) x hz x.w;unfold aBa at h;split at h
  . rename_i k l k' c
    cases hl; cases hc;split at h
    . rename_i h3
      split at h
      . rename_i h4
        split at h
        . rename_i h5
          split at h
          . rename_i h6
            cases h;have e1:IntKind.i64.wrap l=l:=IntWalk.i64_in _ ⟨OM,OM⟩;have e2:IntKind.i64.wrap c=c:=IntWalk.i64_in _ ⟨OM,OM⟩;have hcrr:=aBU h2 l.toNat (c.toNat*esz) OM (by rw [hzl]; exact Nat.mul_le_mul_right _ OM);rw [hzl] at hcrr;obtain ⟨y,y1,y2,y3,y4,y5⟩:=aCr hx id (e:=e) (cap:=c.toNat) (len:=l.toNat) SI hcrr SI OM (by unfold maxLen; omega);refine ⟨y,_,?_,y2,y3,y4,y5⟩;rw [y1];have h5': ¬ (2 ^ 48:Int) < (bytes:Int)*c:=by rw [Int.mul_comm]; omega
            by_cases hn:c.toNat*esz=0
            . have hc0:c.toNat=0:=by
                rcases Nat.mul_eq_zero.1 hn with h|h
                . exact h
                . exact absurd h h0
              have hc1:c=0:=OM
              have hl1:l=0:=OM
              subst hc1; subst hl1;simp [Instr.makeSlice,run_underlying ht,asInt,asIntOf,typeInfo,hi,sizeOf,newRow,IntKind.wrap,IntKind.bits,IntKind.signed,Array.range_zero']
            . have hlt: ¬ c < 0:=OM
              have hll: ¬ l < 0:=OM
              have hlc: ¬ c < l:=OM
              simp [Instr.makeSlice,run_underlying ht,asInt,asIntOf,typeInfo,hi,sizeOf,e1,e2,hby,hs,hlt,hll,hlc,hn,h1,newRow];omega
          . cases h
        . cases h
      . cases h
    . cases h
  . cases h
end
end Go.Proofs.YtinpihlhcmpkhaaGreat


namespace Go.Proofs.YtinpihlhcmpkhaaGreat
open Go
section
variable {P:Program} {x:Cx} {T:Nat->V} {a:Act}
theorem yF {rows:List (List V)} {sz:Nat} (hsz: ∀ r∈rows,r.length=sz) {k:Nat} (hk:k < rows.length*sz):
    ∃ row v,rows[k / sz]?=some row/\row[k % sz]?=some v/\k / sz*sz+k % sz=k:=by
  have h0:0 < sz:=by
    grind
  simp_all [Nat.div_lt_iff_lt_mul,Nat.mod_lt,Nat.mul_comm,Nat.div_add_mod]
theorem iL {esz:Nat} {rows:List (List V)} (h:eV esz rows=true):(∀ r∈rows,r.length=esz)/\ ∀ r∈rows,∀ v∈r,v.one=true:=by grind [eV]
theorem rW (hx : Inv x) {u : V} {cu : Value} {new : List (List V)} {esz : Nat} (h : nS x.H u = some new) (hf : eV esz new = true) (hu : R x u cu) :
    (∃ b0,cu=.slice b0 0 0/\new=[])\/ ∃ (ad:Addr) (cap:Nat) (cs:Nat->Value),cu=.slice (some ad) new.length cap/\(∀ k,k < new.length*esz->x.w.cell? (ad.add k)=some (cs k)/\(cs k).oneCell'=true)/\
      ∀ (r:Nat) (row:List V) (j:Nat) (v:V),new[r]?=some row->row[j]?=some v->R x v (cs<|r*esz+j):=by
  obtain ⟨hsz,hone⟩:=iL hf;unfold nS at h;split at h
  . rename_i rows
    cases h;cases hu with
    |slnil=>grind
    | sl _ ad cap sz cs hc hm hz hs hcell hr =>
      refine .inr ⟨ad,cap,cs,J,λk hk=>?_,λr row j v h1 h2=>?_⟩
      . obtain ⟨row,v,h1,h2,h3⟩:=yF hsz hk
        have e:sz=esz:=by grind
        subst e;have h4:=hcell _ _ _ _ h1 h2;have h5:=hr _ _ _ _ h1 h2;rw [h3] at h4 h5;exact ⟨h4,h5.one (hone row (List.mem_of_getElem? h1) v<|List.mem_of_getElem? h2)⟩
      grind
  . cases h; cases hu; exact .inl ⟨none,rfl,rfl⟩
  . rename_i id ver off len
    split at h
    . rename_i hok
      cases h;simp only [Bool.and_eq_true,decide_eq_true_eq] at hok;cases hu with
      | ms _ _ _ _ b m cap hv hh hm =>
        obtain ⟨e1,e2,e3,e4,e5,e6⟩:=hh hok.2 hok.1;subst e1;have hlen:(((x.H id).rows.drop off).take m).length=m:=by simp; omega
        cases ho:(x.H id).own with
        | false =>
          simp_all
        | true =>
          obtain ⟨e7,e8⟩:=e5 ho;obtain ⟨cc,h1,h2,h3,h4⟩:=hx.cel id ho<|hm hok.2 hok.1
          have hidx: ∀ (r:Nat) (row:List V),(((x.H id).rows.drop off).take m)[r]?=some row->(x.H id).rows[off+r]?=some row:=by
            grind
          refine .inr ⟨⟨x.σ id,off*(x.H id).sz,none⟩,cap,λk=>cc.getD (off*(x.H id).sz+k) undef,?_,λk hk=>?_,λr row j v h5 h6=>?_⟩
          . rw [hlen,e7]
          . obtain ⟨row,v,h5,h6,h7⟩:=yF hsz hk
            have h8:=hidx _ _ h5;have e:(x.H id).sz=esz:=by grind
            have h9:=iH h2 h3 h8 h6;have h10:=h4 _ _ _ _ h8 h6;have h11:(off+k / esz)*(x.H id).sz+k % esz=off*(x.H id).sz+k:=by rw [e,Nat.add_mul]; omega
            rw [h11] at h10 h9;refine ⟨?_,h10.one (hone row (List.mem_of_getElem? h5) v<|List.mem_of_getElem? h6)⟩
            grind [Addr.add_lit,lL]
          grind [Nat.add_mul]
    . cases h
  . cases h
theorem xW {x:Cx} {rows new:List (List V)} {sz:Nat} (cc:Array Value)
    (h1: ∀ (r:Nat) (row:List V) (j:Nat) (v:V),rows[r]?=some row->row[j]?=some v->R x v (cc.getD (r*sz+j) undef))
    (h2: ∀ (r:Nat) (row:List V) (j:Nat) (v:V),new[r]?=some row->row[j]?=some v->R x v (cc.getD (rows.length*sz+(r*sz+j)) undef)):
    ∀ (r:Nat) (row:List V) (j:Nat) (v:V),(rows++new)[r]?=some row->row[j]?=some v->R x v (cc.getD (r*sz+j) undef):=by
  intro r row j v hr hj;rw [List.getElem?_append] at hr;split at hr
  . exact h1 r row j v hr hj
  . have:=h2 _ row j v hr hj
    rwa [show rows.length*sz+((r - rows.length)*sz+j)=r*sz+j by rw [<- Nat.add_assoc,<- Nat.add_mul]; congr 2; omega] at this
theorem aC1 (w:World) (t ty e:TypeId) (i:TypeInfo) (z:Value) (ht:P.underlying t=some (.slice e)) (hi:P.info? e=some i) (hz:i.zero=some z)
    (b:Option Addr) (a:Addr) (n c:Nat) (news:List Value) (hl:news.length=n*i.size) (hnews: ∀ j v,news[j]?=some v->w.cell? (a.add j)=some v)
    (h0:0 < n) (h63:(n:Int)<=9223372036854775807) (h48:n*i.bytes<=281474976710656):
    (Builtin.append_ #[t,t] ty #[.slice b 0 0,.slice (some a) n c]).run P w=
      .ok (.slice (some ⟨w.heap.size,0,none⟩) n (grownCap w n 0 e)) (w.drew.alloc (.cells (news.toArray++Builtin.zeroCells z.cells (grownCap w n 0 e - n)) e)):=by
  cases b with
  |none=>grind [run_append_nil]
  | some b =>
    have h:=run_append_grow (P:=P) w t ty e i z ht hi hz b 0 0 [] SI (λj v h=>by simp at h) a n c news hl hnews OM (by simpa using h63) (by grind [nextslicecap_zero]);simpa using h
theorem aBC (hx : Inv x) {t e esz bytes : Nat} {z : List V} {info : TypeInfo} (ht : P.underlying t = some (.slice e)) (hi : P.info? e = some info) (hz : iG P e = some z) (hs : info.size = esz) (hby : info.bytes = bytes) (hzl : z.length = esz) (_h0 : esz ≠ 0)
    {i ver len:Nat} {u:V} {cs cu:Value} {new:List (List V)} (hl:(x.H i).live=true) (hv:(x.H i).ver=ver) (hlen:len=(x.H i).rows.length) (hty:(x.H i).ty=e) (hsz:(x.H i).sz=esz)
    (hn:nS x.H u=some new) (hf:eV esz new=true) (hb:(len+new.length)*bytes<=140737488355328) (hm:len+new.length<=9223372036854775807)
    (hrs:R x (.ms i ver 0 len) cs) (hu:R x u cu) (ty:TypeId):
    ∃ y c,(Builtin.append_ #[t,t] ty #[cs,cu]).run P x.w=.ok c y.w/\y.H=cU x.H i {x.H i with ver:=ver+1,rows:=(x.H i).rows++new}/\Inv y/\Frame x y/\R y (.ms i (ver+1) 0 (len+new.length)) c:=by
  obtain ⟨zv,hz1,⟨info',hi',hzz⟩,hzc⟩:=qQ (P:=P) x hz x.w;rw [hi] at hi'; cases hi';obtain ⟨hnsz,hnone⟩:=iL hf;subst hv
  have hH: ∀ rows',(⟨(x.H i).ver+1,true,(x.H i).lz,(x.H i).ty,(x.H i).sz,rows'⟩:Blk)={x.H i with ver:=(x.H i).ver+1,rows:=rows'}:=λrows'=>by
    cases hq:x.H i; simp_all
  have hmul:(len+new.length)*esz=len*esz+new.length*esz:=Nat.add_mul _ _ _;cases hrs with
  | ms _ _ _ _ b m cap hv' hh hnm' =>
    have hnm:=hnm' J hl;have hnm2:((x.H i).lz&&decide (4294967296<=e))=false:=by grind [Blk.isM]
    obtain ⟨e1,e2,e3,e4,e5,e6⟩:=hh J hl;subst e1;cases ho:(x.H i).own with
    | false =>
      have e8:=e6 ho;have hm0:m=0:=OM
      subst hm0;subst e8;have hrows:(x.H i).rows=[]:=List.eq_nil_of_length_eq_zero hlen.symm
      have hlz:(x.H i).lz=true:=by
        grind [Blk.own]
      rcases rW hx hn hf hu with ⟨b0,rfl,rfl⟩|⟨ad,ca,f,rfl,hcell,hrel⟩
      . obtain ⟨hI,hF,hR⟩:=mN hx i e esz (by grind)
        refine ⟨_,_,?_,?_,hI,hF,by simpa using hR b⟩
        . cases b <;> cases b0 <;> simp [Builtin.append_,run_underlying ht,sizeOf,typeInfo,hi,Builtin.lenOf,Builtin.firstCells,loadCells,loadCellsFrom,storeCells]
        grind
      . by_cases hn0:new.length=0
        . have hnew:new=[]:=List.eq_nil_of_length_eq_zero hn0
          subst hnew;obtain ⟨hI,hF,hR⟩:=mN hx i e esz (by grind);refine ⟨_,_,?_,?_,hI,hF,by simpa using hR b⟩
          . cases b <;> simp [Builtin.append_,run_underlying ht,sizeOf,typeInfo,hi,Builtin.lenOf,Builtin.firstCells,loadCells,loadCellsFrom,storeCells]
          grind
        . have hr:=aC1 (P:=P) x.w t ty e info zv ht hi hzz b ad new.length ca ((List.range<|new.length*esz).map f) (by simp [hs]) (λj v hj=>by
            simp only [List.getElem?_map] at hj
            have hlt:j < new.length*esz:=by
              grind
            simp [List.getElem?_range hlt] at hj;rw [<- hj]; exact (hcell j hlt).1) OM OM (by grind)
          obtain ⟨dI,dF⟩:=jH hx (x.w.drawn+1)<|Nat.le_succ _
          have hcap:=grownCap_ge x.w new.length 0 e;have hcapm:grownCap x.w new.length 0 e<=maxLen:=grownCap_le_maxLen x.w _ _ e (by unfold maxLen; omega);have hzs:zv.cells.size=esz:=by rw [hzc.1,hzl]
          have hcc:(((List.range<|new.length*esz).map f).toArray++Builtin.zeroCells zv.cells (grownCap x.w new.length 0 e - new.length)).size=grownCap x.w new.length 0 e*esz:=by
            simp only [Array.size_append,size_zeroCells,hzs];simp only [List.size_toArray,List.length_map,List.length_range,<- Nat.add_mul];congr 1; omega
          obtain ⟨hI,hF⟩:=nH dI i (((List.range<|new.length*esz).map f).toArray++Builtin.zeroCells zv.cells (grownCap x.w new.length 0 e - new.length)) (x.H i).lz e esz new hnsz
            (by grind) (λr row j v h1 h2 => by
              have h3:=(iH hnsz (Nat.le_refl _) h1 h2).1
              have:(((List.range<|new.length*esz).map f).toArray++Builtin.zeroCells zv.cells (grownCap x.w new.length 0 e - new.length)).getD (r*esz+j) undef=f (r*esz+j):=by
                rw [Array.getD_eq_getD_getElem?,Array.getElem?_append_left (by simpa using h3)];simp [List.getElem?_range h3]
              rw [this];exact (hrel _ _ _ _ h1 h2).frame hx dF) hnm2
          refine ⟨_,_,hr,?_,hI,dF.trans hF,.ms _ _ _ _ _ _ _ (by simp [aR]) (λ_ _=>?_) λ_ _=>by simp only [aR]; first|exact hnm2|exact hnm⟩
          . grind
          grind [aR,kZ,Blk.own]
    | true =>
      obtain ⟨e7,e8⟩:=e5 ho;obtain ⟨cc,h1,h2,h3,h4⟩:=hx.cel i ho hnm;rw [Nat.zero_mul] at e7;subst e7;rw [Nat.zero_add] at e8;have hrs:fE x.w (x.σ i)=cc.size:=by unfold fE; rw [h1]
      rw [hrs,hsz] at e8;rw [hsz] at h2 h3 h4;rw [hty] at h1
      have hlzr:((x.H i).lz&&((x.H i).rows++new).isEmpty)=false:=by
        have:=aEX ho
        simp_all
      rcases rW hx hn hf hu with ⟨b0,rfl,rfl⟩|⟨ad,ca,f,rfl,hcell,hrel⟩
      . obtain ⟨hI,hF⟩:=lN hx i ho cc cc (by rw [hty]; exact h1) J ((x.H i).ver+1) (x.H i).rows OM OM (aEX ho) (by rw [hsz]; exact h2) (by rw [hsz]; exact h3) (by rw [hsz]; exact h4)
        have hw:x.w.setRow (x.σ i) cc=x.w:=setRow_self x.w _ cc _ _ h1;refine ⟨_,.slice (some ⟨x.σ i,0,none⟩) m cap,?_,?_,hI,hF,.ms _ _ _ _ _ _ _ (by simp [aR]) (λ_ _=>?_) λ_ _=>by simp only [aR]; first|exact hnm2|exact hnm⟩
        . simp only
          rw [hw];cases b0 <;> simp [Builtin.append_,run_underlying ht,sizeOf,typeInfo,hi,Builtin.lenOf,Builtin.firstCells,e2,storeCells,loadCells,loadCellsFrom]
        . grind
        grind [aR,Blk.own]
      . have hnl:((List.range<|new.length*esz).map f).length=new.length*info.size:=by simp [hs]
        have hnews: ∀ (j:Nat) (v:Value),((List.range<|new.length*esz).map f)[j]?=some v->x.w.cell? (ad.add j)=some v:=λj v hj=>by
          grind
        by_cases hroom:m+new.length<=cap
        . have hfit:m*info.size+((List.range<|new.length*esz).map f).length<=cc.size:=by
            rw [hnl,hs,<- Nat.add_mul,<- e8]; exact Nat.mul_le_mul_right _ hroom
          have hr:=run_append_room (P:=P) x.w t ty e info ht hi (x.σ i) m cap cc h1 ad new.length ca ((List.range<|new.length*esz).map f) hnl hnews (λu hu=>by
            obtain ⟨k,hk,rfl⟩:=List.mem_map.1 hu;exact (hcell k<|List.mem_range.1 hk).2) hroom hfit
          rw [hs] at hr hfit;have hseg:=vE hfit
          obtain ⟨hI,hF⟩:=lN hx i ho cc (cc.toList.take (m*esz)++(List.range<|new.length*esz).map f++cc.toList.drop (m*esz+((List.range<|new.length*esz).map f).length)).toArray (by rw [hty]; exact h1) (by
              simp at hfit ⊢; omega) ((x.H i).ver+1) ((x.H i).rows++new) OM OM hlzr (by
              rw [hsz]; intro r hr; rcases List.mem_append.1 hr with hr|hr
              . exact h2 r hr
              . exact hnsz r hr) (by simp_all) (by
              rw [hsz];refine xW _ (λr row j v hr hj=>?_) (λr row j v hr hj=>?_)
              . have h5:=(iH h2 (Nat.le_refl _) hr hj).1
                rw [<- hlen] at h5;rw [Array.getD_eq_getD_getElem?,hseg,if_neg OM,<- Array.getD_eq_getD_getElem?];exact h4 _ _ _ _ hr hj
              . have h5:=(iH hnsz (Nat.le_refl _) hr hj).1
                rw [<- hlen,Array.getD_eq_getD_getElem?,hseg,if_pos (by simp; omega),show m*esz+(r*esz+j) - m*esz=r*esz+j by omega];simp [List.getElem?_range h5];exact hrel _ _ _ _ hr hj)
          refine ⟨_,_,hr,?_,hI,hF,.ms _ _ _ _ _ _ _ (by simp [aR]) (λ_ _=>?_) λ_ _=>by simp only [aR]; first|exact hnm2|exact hnm⟩
          . simp only; rw [hH]
          . simp only [aR]
            refine ⟨trivial,hroom,e3,by simp; omega,λ_=>⟨SI,?_⟩,λh=>?_⟩
            . have:fE (x.w.setRow (x.σ i) (cc.toList.take (m*esz)++(List.range<|new.length*esz).map f++cc.toList.drop (m*esz+((List.range<|new.length*esz).map f).length)).toArray) (x.σ i)=cc.size:=by
                unfold fE;rw [setRow_heap x.w _ cc _ _ _ h1];simp at hfit ⊢; omega
              grind
            grind [Blk.own]
        . have holds: ∀ (j:Nat) (v:Value),(cc.toList.take<|m*esz)[j]?=some v->x.w.cell? ((⟨x.σ i,0,none⟩:Addr).add j)=some v:=λj v hj=>by
            grind [Addr.add_lit,World.cell?]
          have hml:m*esz<=cc.size:=by grind
          have hr:=run_append_grow (P:=P) x.w t ty e info zv ht hi hzz ⟨x.σ i,0,none⟩ m cap (cc.toList.take<|m*esz) (by simp [hs]; omega) holds ad new.length ca ((List.range<|new.length*esz).map f) hnl hnews OM OM<|growslice_fits OM (by rw [hby]; exact hb)
          obtain ⟨dI,dF⟩:=jH hx (x.w.drawn+1)<|Nat.le_succ _
          have hcap:=grownCap_ge x.w (m+new.length) cap e;have hcapm:grownCap x.w (m+new.length) cap e<=maxLen:=grownCap_le_maxLen x.w _ _ e (by unfold maxLen; omega);have hzs:zv.cells.size=esz:=by rw [hzc.1,hzl]
          have hl1:(cc.toList.take<|m*esz).toArray.size=m*esz:=by simp; omega
          have hl2:((List.range<|new.length*esz).map f).toArray.size=new.length*esz:=by simp
          generalize hCC:(cc.toList.take<|m*esz).toArray++((List.range<|new.length*esz).map f).toArray++Builtin.zeroCells zv.cells (grownCap x.w (m+new.length) cap e - (m+new.length))=CC at hr
          have hcc:CC.size=grownCap x.w (m+new.length) cap e*esz:=by
            rw [<- hCC];simp only [Array.size_append,size_zeroCells,hzs,hl1,hl2,<- Nat.add_mul];congr 1; omega
          have hleft: ∀ k,k < m*esz->CC[k]?=cc[k]?:=λk hk=>by
            grind
          have hright: ∀ k,k < new.length*esz->CC[m*esz+k]?=some (f k):=λk hk=>by
            rw [<- hCC,Array.getElem?_append_left (by grind),Array.getElem?_append_right OM,hl1];simp [List.getElem?_range hk]
          obtain ⟨hI,hF⟩:=nH dI i CC (x.H i).lz e esz ((x.H i).rows++new) (by
              intro r hr; rcases List.mem_append.1 hr with hr|hr
              . exact h2 r hr
              . exact hnsz r hr) (by rw [hcc,List.length_append,<- hlen]; exact Nat.mul_le_mul_right _ hcap) (by
              refine xW _ (λr row j v hr hj=>?_) (λr row j v hr hj=>?_)
              . have h5:=(iH h2 (Nat.le_refl _) hr hj).1
                rw [<- hlen] at h5;rw [Array.getD_eq_getD_getElem?,hleft _ h5,<- Array.getD_eq_getD_getElem?];exact (h4 _ _ _ _ hr hj).frame hx dF
              . have h5:=(iH hnsz (Nat.le_refl _) hr hj).1
                rw [<- hlen,Array.getD_eq_getD_getElem?,hright _ h5];exact (hrel _ _ _ _ hr hj).frame hx dF) hnm2
          refine ⟨_,_,hr,?_,hI,dF.trans hF,.ms _ _ _ _ _ _ _ (by simp [aR]) (λ_ _=>?_) λ_ _=>by simp only [aR]; first|exact hnm2|exact hnm⟩
          . grind
          grind [aR,kZ,Blk.own]
theorem aPl (hx : Inv x) {t e : Nat} {z : List V} (ht : P.underlying t = some (.slice e)) (hz : iG P e = some z) {u : V} {cu : Value} {H' : aT} (h : aMh x.H z u = some H') (hu : R x u cu) (ty : TypeId) :
    ∃ y:Cx,(Builtin.clear_ #[t] ty #[cu]).run P x.w=.ok (.tuple #[]) y.w/\y.H=H'/\Inv y/\Frame x y:=by
  unfold aMh at h;split at h
  . cases h; cases hu
    exact ⟨x,by simp [Builtin.clear_,run_underlying ht],J,hx,Frame.refl x⟩
  . cases h
    generalize hv:V.sl []=v at hu;cases hu <;> cases hv
    . exact ⟨x,by simp [Builtin.clear_,run_underlying ht],J,hx,Frame.refl x⟩
    . exact ⟨x,by simp [Builtin.clear_,run_underlying ht],J,hx,Frame.refl x⟩
  . rename_i id ver off len
    split at h
    . rename_i hok
      simp only [Bool.and_eq_true,decide_eq_true_eq] at hok;cases hu with
      |ms _ _ _ _ b n cap hv hh hm=>
      obtain ⟨e1,e2,e3,e4,e5,e6⟩:=hh hok.2 hok.1;subst e1;split at h
      . rename_i h0
        cases h; subst h0;exact ⟨x,by cases b <;> simp [Builtin.clear_,run_underlying ht],rfl,hx,Frame.refl x⟩
      . rename_i h0
        split at h
        . rename_i hzs
          split at h
          . rename_i hone
            . have hfit:=e4
              cases h;obtain ⟨zv,hz1,_,hzc⟩:=qQ (P:=P) x hz x.w;have hne:(x.H id).rows≠[]:=λe=>by rw [e] at hfit; simp at hfit; omega
              have ho:(x.H id).own=true:=by
                grind
              obtain ⟨e7,e8⟩:=e5 ho;subst e7;obtain ⟨cc,h1,h2,h3,h4⟩:=hx.cel id ho<|hm hok.2 hok.1
              obtain ⟨hzl,hz0⟩:=hzs;have hsz0:(x.H id).sz≠0:=hzl ▸ hz0;have hcrr:=aBU hzc n (n*zv.cells.size) hz0 (by rw [hzc.1]; exact Nat.le_refl _);rw [hzl] at hcrr;have hzcs:zv.cells.size=(x.H id).sz:=by rw [hzc.1,hzl]
              generalize hZ:Builtin.zeroCells zv.cells n=Z;have hZ':(Array.range<|n*zv.cells.size).map (zv.cells[· % zv.cells.size]!)=Z:=hZ;rw [hZ'] at hcrr;have hZl:Z.toList.length=n*(x.H id).sz:=by grind
              have hfitc:off*(x.H id).sz+Z.toList.length<=cc.size:=by
                rw [hZl,<- Nat.add_mul]; exact Nat.le_trans (Nat.mul_le_mul_right _ hfit) h3
              have hst:=run_storeCells_at P (x.σ id) (off*(x.H id).sz) (x.H id).ty Z.toList 0 cc x.w h1 OM (λv hv=>by
                obtain ⟨q,hq⟩:=List.getElem?_of_mem hv;have hql:q < n*(x.H id).sz:=by grind
                obtain ⟨row,w,h5,h6,h7⟩:=yF hcrr.row (k:=q) (by simpa using hql);have h8:=hcrr.rel _ _ _ _ h5 h6;rw [h7,Array.getD_eq_getD_getElem?,<- Array.getElem?_toList,hq] at h8;have h9:=(List.mem_replicate.1<|List.mem_of_getElem? h5).2;subst h9;exact h8.one<|List.all_eq_true.1 hone _<|List.mem_of_getElem? h6)
              simp only [Nat.add_zero] at hst;have hseg:=vE hfitc;have hnl:((x.H id).rows.take off++List.replicate n z++(x.H id).rows.drop (off+n)).length=(x.H id).rows.length:=by simp; omega
              obtain ⟨hI, hF⟩ := lN hx id ho cc (cc.toList.take (off * (x.H id).sz) ++ Z.toList ++ cc.toList.drop (off * (x.H id).sz + Z.toList.length)).toArray h1
                (by simp at hfitc ⊢; omega) (x.H id).ver ((x.H id).rows.take off++List.replicate n z++(x.H id).rows.drop (off+n)) (Nat.le_refl _) (λ_=>hnl)
                (by
                  grind)
                (λr hr=>by
                  grind)
                (by rw [hnl]; exact h3)
                (λr row j v hr hj=>by
                  rw [Array.getD_eq_getD_getElem?,hseg,hZl];have hlt:((x.H id).rows.take off).length=off:=by grind
                  have hjl: ∀ {l:List (List V)},(∀ q∈l,q.length=(x.H id).sz)-> ∀ {q:Nat},l[q]?=some row->j < (x.H id).sz:=λhl q hq=>by
                    grind
                  rw [List.append_assoc,List.getElem?_append] at hr;split at hr
                  . rename_i hc
                    rw [hlt] at hc;rw [List.getElem?_take,if_pos hc] at hr;have:=hjl h2 hr;have:(r+1)*(x.H id).sz<=off*(x.H id).sz:=Nat.mul_le_mul_right _ hc
                    grind [Array.getD_eq_getD_getElem?]
                  . rename_i hc
                    rw [hlt] at hr hc;rw [List.getElem?_append] at hr;split at hr
                    . rename_i hc2
                      rw [List.length_replicate] at hc2;have hj':=hjl hcrr.row hr;have h5:(r - off+1)*(x.H id).sz<=n*(x.H id).sz:=Nat.mul_le_mul_right _ hc2;rw [Nat.add_mul,Nat.one_mul] at h5;have h6:r*(x.H id).sz+j=off*(x.H id).sz+((r - off)*(x.H id).sz+j):=by rw [<- Nat.add_assoc,<- Nat.add_mul]; congr 2; omega
                      rw [h6,if_pos OM,Nat.add_sub_cancel_left,Array.getElem?_toList,<- Array.getD_eq_getD_getElem?];exact hcrr.rel _ row j v hr hj
                    . rename_i hc2
                      rw [List.length_replicate] at hr hc2;rw [List.getElem?_drop] at hr;have hrr:off+n+(r - off - n)=r:=OM
                      grind [Array.getD_eq_getD_getElem?])
              refine ⟨_,?_,?_,hI,hF⟩
              . simp_all [Builtin.clear_,run_underlying]
              grind
          . cases h
        . cases h
    . cases h
  . cases h
theorem aCZ (w:World) (dT sT ty elem:TypeId) (g o dLen dCap:Nat) (a:Addr) (sLen sCap:Nat) (cur:Array Value) (t:TypeId) (cs:List Value) (k:Nat)
    (hu:P.underlying dT=some (.slice elem)) (hs:(P.info? elem).map (·.size)=some k)
    (hg:w.heap[g]?=some (.cells cur t (0,0))) (hn:cs.length=Nat.min sLen dLen*k)
    (hsrc: ∀ j v,cs[j]?=some v->w.cell? (a.add j)=some v) (hfit:o+cs.length<=cur.size) (h1: ∀ v∈cs,v.oneCell'=true):
    (Builtin.copy_ #[dT,sT] ty #[.slice (some ⟨g,o,none⟩) dLen dCap,.slice (some a) sLen sCap]).run P w=
      .ok (goInt<|Nat.min sLen dLen) (w.setRow g (cur.toList.take o++cs++cur.toList.drop (o+cs.length)).toArray):=by
  have hl:=run_loadCells_list (P:=P) w a cs hsrc;have hst:=run_storeCells_at P g o t cs 0 cur w hg (by simpa using hfit) h1;cases hq:P.info? elem with
  |none=>simp [hq] at hs
  | some i =>
    simp_all [Builtin.copy_,run_underlying,Builtin.lenOf,Builtin.firstCells,sizeOf,typeInfo]
theorem wI (w:World) (dT sT ty elem:TypeId) (d a:Option Addr) (dLen dCap sLen sCap k:Nat) (hu:P.underlying dT=some (.slice elem)) (hs:(P.info? elem).map (·.size)=some k) (hn:Nat.min sLen dLen=0):
    (Builtin.copy_ #[dT,sT] ty #[.slice d dLen dCap,.slice a sLen sCap]).run P w=.ok (goInt 0) w:=by
  cases hq:P.info? elem with
  |none=>simp [hq] at hs
  | some i =>
    have hl: ∀ (x:Addr),(loadCells x 0).run P w=.ok #[] w:=λx=>by simpa using run_loadCells_list (P:=P) w x [] SI
    cases d <;> cases a <;> simp [Builtin.copy_,run_underlying hu,Builtin.lenOf,Builtin.firstCells,sizeOf,typeInfo,hq,hn,storeCells,hl]
theorem aOc (hx : Inv x) {t e n : Nat} (ht : P.underlying t = some (.slice e)) (hs : iM P e = some n) {u d : V} {cu cd : Value} {p : Nat × aT} (h : aLe x.H n u d = some p) (hd : R x d cd) (hu : R x u cu) (t' ty : TypeId) :
    ∃ y:Cx,(Builtin.copy_ #[t,t'] ty #[cd,cu]).run P x.w=.ok (.int .i64 (p.1:Nat)) y.w/\y.H=p.2/\Inv y/\Frame x y:=by
  unfold aLe at h;split at h
  . rename_i id ver off len
    split at h
    . rename_i hok
      simp only [Bool.and_eq_true,decide_eq_true_eq] at hok;split at h
      . rename_i new hn
        split at h
        . rename_i hf
          split at h
          . rename_i hsz
            cases h;obtain ⟨hnsz,hnone⟩:=iL hf;cases hd with
            |ms _ _ _ _ b m cap hv hh hm=>
            obtain ⟨e1,e2,e3,e4,e5,e6⟩:=hh hok.2 hok.1;subst e1;generalize hmn:min new.length m=mn;have hmn1:mn<=new.length:=OM
            have hmn2:mn<=m:=OM
            have hmn':Nat.min new.length m=mn:=hmn;by_cases h0:mn=0
            . subst h0
              have hself:(cU x.H id {x.H id with rows:=(x.H id).rows.take off++new.take 0++(x.H id).rows.drop (off+0)})=x.H:=by
                funext j;unfold cU;split
                . rename_i hj; subst hj
                  rw [List.take_zero,List.append_nil,Nat.add_zero,List.take_append_drop]
                . rfl
              refine ⟨x,?_,hself.symm,hx,Frame.refl x⟩;rcases rW hx hn hf hu with ⟨b0,rfl,hnew⟩|⟨ad,ca,f,rfl,_,_⟩
              . exact wI x.w t t' ty e b b0 m cap 0 0 n ht hs<|Nat.min_eq_left<|Nat.zero_le _
              . exact wI x.w t t' ty e b (some ad) m cap _ ca n ht hs hmn'
            . have hfit : off + mn <= (x.H id).rows.length := by omega
              have hne:(x.H id).rows≠[]:=λe=>by rw [e] at hfit; simp at hfit; omega
              have ho:(x.H id).own=true:=by
                grind
              obtain ⟨e7,e8⟩:=e5 ho;subst e7;obtain ⟨cc,h1,h2,h3,h4⟩:=hx.cel id ho<|hm hok.2 hok.1
              rcases rW hx hn hf hu with ⟨b0,rfl,hnew⟩|⟨ad,ca,f,rfl,hcell,hrel⟩
              . grind
              . have hmz:mn*n<=new.length*n:=Nat.mul_le_mul_right _ hmn1
                have hL:((List.range<|mn*n).map f).length=mn*n:=by simp
                have hfitc:off*(x.H id).sz+((List.range<|mn*n).map f).length<=cc.size:=by
                  rw [hL,<- hsz,<- Nat.add_mul]; exact Nat.le_trans (Nat.mul_le_mul_right _ hfit) h3
                have hr:=aCZ (P:=P) x.w t t' ty e (x.σ id) (off*(x.H id).sz) m cap ad new.length ca cc (x.H id).ty ((List.range<|mn*n).map f) n ht hs h1 (by rw [hL,hmn']) (λj v hj=>by
                    have hlt:j < mn*n:=by
                      grind
                    simp [List.getElem?_range hlt] at hj;rw [<- hj]; exact (hcell j OM).1) hfitc (λu hu=>by
                    obtain ⟨k,hk,rfl⟩:=List.mem_map.1 hu;exact (hcell k (by have:=List.mem_range.1 hk; omega)).2)
                have hseg:=vE hfitc;have htl:(new.take mn).length=mn:=by grind
                have hnl:((x.H id).rows.take off++new.take mn++(x.H id).rows.drop (off+mn)).length=(x.H id).rows.length:=by simp; omega
                obtain ⟨hI, hF⟩ := lN hx id ho cc (cc.toList.take (off * (x.H id).sz) ++ (List.range<|mn * n).map f ++ cc.toList.drop (off * (x.H id).sz + ((List.range<|mn * n).map f).length)).toArray h1
                  (by simp at hfitc ⊢; omega) (x.H id).ver ((x.H id).rows.take off++new.take mn++(x.H id).rows.drop (off+mn)) (Nat.le_refl _) (λ_=>hnl)
                  (by
                    grind)
                  (λr hr=>by
                    grind)
                  (by rw [hnl]; exact h3)
                  (λr row j v hr hj=>by
                    rw [Array.getD_eq_getD_getElem?,hseg,hL];have hlt:((x.H id).rows.take off).length=off:=by grind
                    have hjl: ∀ {l:List (List V)},(∀ q∈l,q.length=(x.H id).sz)-> ∀ {q:Nat},l[q]?=some row->j < (x.H id).sz:=λhl q hq=>by
                      grind
                    rw [List.append_assoc,List.getElem?_append] at hr;split at hr
                    . rename_i hc
                      rw [hlt] at hc;rw [List.getElem?_take,if_pos hc] at hr;have:=hjl h2 hr;have:(r+1)*(x.H id).sz<=off*(x.H id).sz:=Nat.mul_le_mul_right _ hc
                      grind [Array.getD_eq_getD_getElem?]
                    . rename_i hc
                      rw [hlt] at hr hc;rw [List.getElem?_append] at hr;split at hr
                      . rename_i hc2
                        rw [htl] at hc2;rw [List.getElem?_take,if_pos hc2] at hr;have hj':=hjl (λq hq=>by rw [hsz]; exact hnsz q hq) hr;have h5:(r - off+1)*(x.H id).sz<=mn*(x.H id).sz:=Nat.mul_le_mul_right _ hc2;rw [Nat.add_mul,Nat.one_mul] at h5;have h6:r*(x.H id).sz+j=off*(x.H id).sz+((r - off)*(x.H id).sz+j):=by rw [<- Nat.add_assoc,<- Nat.add_mul]; congr 2; omega
                        have h7:(r - off)*(x.H id).sz+j < mn*n:=by rw [<- hsz]; omega
                        simp_all
                      . rename_i hc2
                        rw [htl] at hr hc2;rw [List.getElem?_drop] at hr;have hrr:off+mn+(r - off - mn)=r:=OM
                        grind [Array.getD_eq_getD_getElem?])
                refine ⟨_,?_,?_,hI,hF⟩
                . rw [hr,hmn']; rfl
                grind
          . cases h
        . cases h
      . cases h
    . cases h
  . cases h
end
end Go.Proofs.YtinpihlhcmpkhaaGreat


namespace Go.Proofs.YtinpihlhcmpkhaaGreat
open Go
section
variable {P:Program} {x:Cx}
theorem aOy (hx : Inv x) {u : V} {cu : Value} {new : List (List V)} {esz : Nat} {tx : TypeId} (hk : (∃ e', P.underlying tx = some (.slice e')) \/ P.underlying tx = some .string) (h : aAI x.H u = some new) (hf : eV esz new = true) (hu : R x u cu) :
    ∃ news:List Value,Src P esz tx cu new.length news x.w/\ ∀ (r:Nat) (row:List V) (j:Nat) (v:V),new[r]?=some row->row[j]?=some v->R x v (news.getD (r*esz+j) undef):=by
  unfold aAI at h;split at h
  . rename_i s
    cases h;cases hu;cases s with
    |nil=>exact ⟨[],⟨hk,λ_=>rfl,by simp [Builtin.firstCells],by simp [Builtin.firstCells],SI,λ_ h=>by cases h⟩,λr row j v h=>by simp at h⟩
    | cons b l =>
      have h1:esz=1:=by
        grind [iL,List.mem_cons_self]
      subst h1;generalize hs:b::l=s;have hS:=Src.ofString (P:=P) (w:=x.w) (tx:=tx);have hsz:(⟨s.toArray⟩:ByteArray).size=s.length:=by simp [ByteArray.size]
      refine ⟨Go.byteCells ⟨s.toArray⟩,⟨hk,λw'=>by simp [Builtin.lenOf,hsz],?_,?_,?_,?_⟩,λr row j v h1 h2=>?_⟩
      . grind [firstCells_string]
      . grind [firstCells_string]
      . rw [byteCells_length,hsz]; simp
      . intro u hu
        obtain ⟨_,_,rfl⟩:=List.mem_map.1 hu
        rfl
      . rw [List.getElem?_map] at h1
        obtain ⟨c,hc,rfl⟩:=Option.map_eq_some_iff.1 h1
        have hj:j=0:=by
          grind
        subst hj;simp only [List.getElem?_cons_zero,Option.some.injEq] at h2;subst h2
        have:(Go.byteCells ⟨s.toArray⟩).getD (r*1+0) undef=.int .u8 (c.toNat:Nat):=by
          grind [Go.byteCells]
        rw [this];exact .int _ _
  . rcases rW hx h hf hu with ⟨b0,rfl,rfl⟩|⟨ad,ca,f,rfl,hcell,hrel⟩
    . refine ⟨[],⟨hk,λ_=>rfl,?_,?_,SI,λ_ h=>by cases h⟩,λr row j v h=>by simp at h⟩ <;>
        cases b0 <;> simp [Builtin.firstCells,loadCells,loadCellsFrom]
    . have hnews: ∀ (j:Nat) (v:Value),((List.range<|new.length*esz).map f)[j]?=some v->x.w.cell? (ad.add j)=some v:=λj v hj=>by
        grind
      refine ⟨(List.range<|new.length*esz).map f,⟨hk,λ_=>J,run_firstCells_some x.w esz new.length ad new.length ca _ SI hnews,
        run_firstCells_some x.w.drew esz new.length ad new.length ca _ SI (by simpa using hnews),SI,λu hu=>?_⟩,λr row j v h1 h2=>?_⟩
      . grind
      grind [iH,iL]
theorem vV (w:World) (t tx ty e:TypeId) (i:TypeInfo) (ht:P.underlying t=some (.slice e)) (hi:P.info? e=some i)
    (g sLen sCap:Nat) (cur:Array Value) (hg:w.heap[g]?=some (.cells cur e (0,0))) (cu:Value) (m:Nat) (news:List Value) (hs:Src P i.size tx cu m news w)
    (hroom:sLen+m<=sCap) (hfit:sLen*i.size+news.length<=cur.size):
    (Builtin.append_ #[t,tx] ty #[.slice (some ⟨g,0,none⟩) sLen sCap,cu]).run P w=
      .ok (.slice (some ⟨g,0,none⟩) (sLen+m) sCap) (w.setRow g (cur.toList.take (sLen*i.size)++news++cur.toList.drop (sLen*i.size+news.length)).toArray):=by
  have hst:=run_storeCells_at P g (sLen*i.size) e news 0 cur w hg (by simpa using hfit) hs.one;simp only [Nat.add_zero] at hst;rcases hs.kind with ⟨e',hk⟩|hk <;> simp [Builtin.append_,run_underlying ht,run_underlying hk,sizeOf,typeInfo,hi,hs.len,hroom,hs.cells,Addr.add_lit,hst]
theorem aGM (hx : Inv x) {t tx e esz bytes : Nat} {z : List V} {info : TypeInfo} (ht : P.underlying t = some (.slice e)) (hk : (∃ e', P.underlying tx = some (.slice e')) \/ P.underlying tx = some .string) (hi : P.info? e = some info) (hz : iG P e = some z) (hs : info.size = esz) (hby : info.bytes = bytes) (hzl : z.length = esz) (_h0 : esz ≠ 0)
    {i ver len:Nat} {u:V} {cs cu:Value} {new:List (List V)} (hl:(x.H i).live=true) (hv:(x.H i).ver=ver) (hlen:len=(x.H i).rows.length) (hty:(x.H i).ty=e) (hsz:(x.H i).sz=esz)
    (hn:aAI x.H u=some new) (hf:eV esz new=true) (hb:(len+new.length)*bytes<=140737488355328) (hm:len+new.length<=9223372036854775807)
    (hrs:R x (.ms i ver 0 len) cs) (hu:R x u cu) (ty:TypeId):
    ∃ y c,(Builtin.append_ #[t,tx] ty #[cs,cu]).run P x.w=.ok c y.w/\y.H=cU x.H i {x.H i with ver:=ver+1,rows:=(x.H i).rows++new}/\Inv y/\Frame x y/\R y (.ms i (ver+1) 0 (len+new.length)) c:=by
  obtain ⟨zv,hz1,⟨info',hi',hzz⟩,hzc⟩:=qQ (P:=P) x hz x.w;rw [hi] at hi'; cases hi';obtain ⟨hnsz,hnone⟩:=iL hf;obtain ⟨news,hS,hrel⟩:=aOy (P:=P) hx hk hn hf hu;have hnl:=hS.newsLen;subst hv
  have hH: ∀ rows',(⟨(x.H i).ver+1,true,(x.H i).lz,(x.H i).ty,(x.H i).sz,rows'⟩:Blk)={x.H i with ver:=(x.H i).ver+1,rows:=rows'}:=λrows'=>by
    cases hq:x.H i; simp_all
  have hmul:(len+new.length)*esz=len*esz+new.length*esz:=Nat.add_mul _ _ _
  have hS0:new.length=0->Src P info.size tx cu 0 [] x.w:=λh=>by
    simp_all
  rw [<- hs] at hS;cases hrs with
  | ms _ _ _ _ b m cap hv' hh hnm' =>
    have hnm:=hnm' J hl;have hnm2:((x.H i).lz&&decide (4294967296<=e))=false:=by grind [Blk.isM]
    obtain ⟨e1,e2,e3,e4,e5,e6⟩:=hh J hl;subst e1;cases ho:(x.H i).own with
    | false =>
      have e8:=e6 ho;have hm0:m=0:=OM
      subst hm0;subst e8;have hrows:(x.H i).rows=[]:=List.eq_nil_of_length_eq_zero hlen.symm
      have hlz:(x.H i).lz=true:=by
        grind [Blk.own]
      by_cases hn0:new.length=0
      . grind [mN,run_append_nothing]
      . have hr:=run_append_grow_src (P:=P) x.w t tx ty e info zv ht hi hzz b 0 0 [] (by cases b <;> simp [Builtin.firstCells,loadCells,loadCellsFrom]) cu new.length news hS OM OM (by grind [nextslicecap_zero])
        rw [List.nil_append,Nat.zero_add] at hr;obtain ⟨dI,dF⟩:=jH hx (x.w.drawn+1)<|Nat.le_succ _
        have hcap:=grownCap_ge x.w new.length 0 e;have hcapm:grownCap x.w new.length 0 e<=maxLen:=grownCap_le_maxLen x.w _ _ e (by unfold maxLen; omega);have hzs:zv.cells.size=esz:=by rw [hzc.1,hzl]
        have hcc:(news.toArray++Builtin.zeroCells zv.cells (grownCap x.w new.length 0 e - new.length)).size=grownCap x.w new.length 0 e*esz:=by
          simp only [Array.size_append,size_zeroCells,hzs];simp only [List.size_toArray,hnl,<- Nat.add_mul];congr 1; omega
        obtain ⟨hI,hF⟩:=nH dI i (news.toArray++Builtin.zeroCells zv.cells (grownCap x.w new.length 0 e - new.length)) (x.H i).lz e esz new hnsz
          (by grind) (λr row j v h1 h2 => by
            have h3:=(iH hnsz (Nat.le_refl _) h1 h2).1
            have:(news.toArray++Builtin.zeroCells zv.cells (grownCap x.w new.length 0 e - new.length)).getD (r*esz+j) undef=news.getD (r*esz+j) undef:=by
              rw [Array.getD_eq_getD_getElem?,Array.getElem?_append_left (by simpa [hnl] using h3),List.getD_eq_getElem?_getD];simp
            rw [this];exact (hrel _ _ _ _ h1 h2).frame hx dF) hnm2
        refine ⟨_,_,hr,?_,hI,dF.trans hF,.ms _ _ _ _ _ _ _ (by simp [aR]) (λ_ _=>?_) λ_ _=>by simp only [aR]; first|exact hnm2|exact hnm⟩
        . grind
        grind [aR,kZ,Blk.own]
    | true =>
      obtain ⟨e7,e8⟩:=e5 ho;obtain ⟨cc,h1,h2,h3,h4⟩:=hx.cel i ho hnm;rw [Nat.zero_mul] at e7;subst e7;rw [Nat.zero_add] at e8;have hrs:fE x.w (x.σ i)=cc.size:=by unfold fE; rw [h1]
      rw [hrs,hsz] at e8;rw [hsz] at h2 h3 h4;rw [hty] at h1
      have hlzr:((x.H i).lz&&((x.H i).rows++new).isEmpty)=false:=by
        have:=aEX ho
        simp_all
      by_cases hroom:m+new.length<=cap
      . have hfit:m*info.size+news.length<=cc.size:=by
          rw [hnl,hs,<- Nat.add_mul,<- e8]; exact Nat.mul_le_mul_right _ hroom
        have hr:=vV (P:=P) x.w t tx ty e info ht hi (x.σ i) m cap cc h1 cu new.length news hS hroom hfit;rw [hs] at hr hfit;have hseg:=vE hfit
        obtain ⟨hI,hF⟩:=lN hx i ho cc (cc.toList.take (m*esz)++news++cc.toList.drop (m*esz+news.length)).toArray (by rw [hty]; exact h1) (by
            simp at hfit ⊢; omega) ((x.H i).ver+1) ((x.H i).rows++new) OM OM hlzr (by
            rw [hsz]; intro r hr; rcases List.mem_append.1 hr with hr|hr
            . exact h2 r hr
            . exact hnsz r hr) (by simp_all) (by
            rw [hsz];refine xW _ (λr row j v hr hj=>?_) (λr row j v hr hj=>?_)
            . have h5:=(iH h2 (Nat.le_refl _) hr hj).1
              rw [<- hlen] at h5;rw [Array.getD_eq_getD_getElem?,hseg,if_neg OM,<- Array.getD_eq_getD_getElem?];exact h4 _ _ _ _ hr hj
            . have h5:=(iH hnsz (Nat.le_refl _) hr hj).1
              rw [<- hlen,Array.getD_eq_getD_getElem?,hseg,if_pos (by rw [hnl]; omega),show m*esz+(r*esz+j) - m*esz=r*esz+j by omega,<- List.getD_eq_getElem?_getD];exact hrel _ _ _ _ hr hj)
        refine ⟨_,_,hr,?_,hI,hF,.ms _ _ _ _ _ _ _ (by simp [aR]) (λ_ _=>?_) λ_ _=>by simp only [aR]; first|exact hnm2|exact hnm⟩
        . simp only; rw [hH]
        . simp only [aR]
          refine ⟨trivial,hroom,e3,by simp; omega,λ_=>⟨SI,?_⟩,λh=>?_⟩
          . have:fE (x.w.setRow (x.σ i) (cc.toList.take (m*esz)++news++cc.toList.drop (m*esz+news.length)).toArray) (x.σ i)=cc.size:=by
              unfold fE;rw [setRow_heap x.w _ cc _ _ _ h1];simp at hfit ⊢; omega
            grind
          grind [Blk.own]
      . have holds:(Builtin.firstCells info.size m (.slice (some ⟨x.σ i,0,none⟩) m cap)).run P x.w.drew=.ok (cc.toList.take<|m*esz).toArray x.w.drew:=by
          refine run_firstCells_some x.w.drew info.size m ⟨x.σ i,0,none⟩ m cap _ (by grind) λj v hj=>?_;simp only [List.getElem?_take] at hj;split at hj
          . rw [Addr.add_lit,Nat.zero_add]
            have:x.w.drew.heap[x.σ i]?=some (.cells cc e (0,0)):=h1
            grind [World.cell?]
          . cases hj
        have hml:m*esz<=cc.size:=by grind
        have hr:=run_append_grow_src (P:=P) x.w t tx ty e info zv ht hi hzz (some ⟨x.σ i,0,none⟩) m cap (cc.toList.take<|m*esz) holds cu new.length news hS OM OM<|growslice_fits OM (by rw [hby]; exact hb)
        obtain ⟨dI,dF⟩:=jH hx (x.w.drawn+1)<|Nat.le_succ _
        have hcap:=grownCap_ge x.w (m+new.length) cap e;have hcapm:grownCap x.w (m+new.length) cap e<=maxLen:=grownCap_le_maxLen x.w _ _ e (by unfold maxLen; omega);have hzs:zv.cells.size=esz:=by rw [hzc.1,hzl]
        have hl1:(cc.toList.take<|m*esz).length=m*esz:=by simp; omega
        generalize hCC:(cc.toList.take (m*esz)++news).toArray++Builtin.zeroCells zv.cells (grownCap x.w (m+new.length) cap e - (m+new.length))=CC at hr
        have hcc:CC.size=grownCap x.w (m+new.length) cap e*esz:=by
          rw [<- hCC];simp only [Array.size_append,size_zeroCells,hzs,List.size_toArray,List.length_append,hl1,hnl,<- Nat.add_mul];congr 1; omega
        have hleft: ∀ k,k < m*esz->CC[k]?=cc[k]?:=λk hk=>by
          grind
        have hright: ∀ k,k < new.length*esz->CC[m*esz+k]?=news[k]?:=λk hk=>by
          grind
        obtain ⟨hI,hF⟩:=nH dI i CC (x.H i).lz e esz ((x.H i).rows++new) (by
            intro r hr; rcases List.mem_append.1 hr with hr|hr
            . exact h2 r hr
            . exact hnsz r hr) (by rw [hcc,List.length_append,<- hlen]; exact Nat.mul_le_mul_right _ hcap) (by
            refine xW _ (λr row j v hr hj=>?_) (λr row j v hr hj=>?_)
            . have h5:=(iH h2 (Nat.le_refl _) hr hj).1
              rw [<- hlen] at h5;rw [Array.getD_eq_getD_getElem?,hleft _ h5,<- Array.getD_eq_getD_getElem?];exact (h4 _ _ _ _ hr hj).frame hx dF
            . have h5:=(iH hnsz (Nat.le_refl _) hr hj).1
              rw [<- hlen,Array.getD_eq_getD_getElem?,hright _ h5,<- List.getD_eq_getElem?_getD];exact (hrel _ _ _ _ hr hj).frame hx dF) hnm2
        refine ⟨_,_,hr,?_,hI,dF.trans hF,.ms _ _ _ _ _ _ _ (by simp [aR]) (λ_ _=>?_) λ_ _=>by simp only [aR]; first|exact hnm2|exact hnm⟩
        . grind
        grind [aR,kZ,Blk.own]
end
end Go.Proofs.YtinpihlhcmpkhaaGreat


