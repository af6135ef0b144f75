/- Contracts of the functions that the law R reaches, and the law itself, for every input; no condition. -/
import Derived.Shelf.SlSortCmp.KitK
import Derived.Shelf.SlSortCmp.Kit1
import Derived.Shelf.SlSortCmp.NoneTotal
import Derived.Test.YtinpihlhcmpkhaaGreatProg
import Derived.KernelRfl
import Derived.Shelf.Spec.SlicesGrow
import Derived.Shelf.Spec.SlicesInsertGrow
import Derived.Test.YtinpihlhcmpkhaaGreatR1
set_option linter.unusedSimpArgs false
set_option linter.unusedVariables false
set_option maxRecDepth 20000
set_option maxHeartbeats 1000000
namespace Go.Proofs.YtinpihlhcmpkhaaGreat
section
open Go Go.Sort Go.Proofs Go.Shelf
theorem R.pure_same {x y:Cx} {v:V} {c:Value} (h:R x v c) (hp:v.pure=true) (hw: ∀ b,x.Z b->y.w.heap[b]?=x.w.heap[b]?) (hz: ∀ b,x.Z b->y.Z b):R y v c:=by
  have keep: ∀ a:Addr,x.Z a.block-> ∀ n,y.w.cell? (a.add n)=x.w.cell? (a.add n):=λa ha n=>by
    refine yB ?_;rw [iT]; exact hw _ ha
  induction h with
  |int k n=>exact .int k n
  |bool b=>exact .bool b
  |str s=>exact .str s
  |nilsl=>exact .nilsl
  |slnil=>exact .slnil
  | sl rows a cap sz cs hc hm hzz hsz hcell _ ih =>
    simp only [V.pure] at hp;refine .sl rows a cap sz cs hc hm (λhne=>hz _<|hzz hne) hsz (λr row j v hr hj=>by rw [keep a (hzz (by intro e; subst e; simp at hr))]; exact hcell r row j v hr hj) λr row j v hr hj=>ih r row j v hr hj ?_;exact fM.1 (lK.1 hp row<|List.mem_of_getElem? hr) v<|List.mem_of_getElem? hj
  |ms=>simp [V.pure] at hp
  | pp cells a cs hzz hcell _ ih =>
    simp only [V.pure] at hp;exact .pp cells a cs (λhne=>hz _<|hzz hne) (λj v hj=>by rw [keep a (hzz (by intro e; subst e; simp at hj))]; exact hcell j v hj) λj v hj=>ih j v hj<|fM.1 hp v<|List.mem_of_getElem? hj
  |nilp=>exact .nilp
  |mp=>simp [V.pure] at hp
  | agg cells cs hs _ ih =>
    simp only [V.pure] at hp;exact .agg cells cs hs λj v hj=>ih j v hj<|fM.1 hp v<|List.mem_of_getElem? hj
  | tup vs cs hs _ ih =>
    simp only [V.pure] at hp;exact .tup vs cs hs λj v hj=>ih j v hj<|fM.1 hp v<|List.mem_of_getElem? hj
  | fn f first caps fs cs hfs hcs _ _ ih1 ih2 =>
    simp only [V.pure,Bool.and_eq_true] at hp;exact .fn f first caps fs cs hfs hcs (λj v hj=>ih1 j v hj<|fM.1 hp.1 v<|List.mem_of_getElem? hj) λj v hj=>ih2 j v hj<|fM.1 hp.2 v<|List.mem_of_getElem? hj
  |raw c hh=>exact .raw c hh
  |mm=>simp [V.pure] at hp
theorem aIG {x:Cx} (hx:Inv x) (os:Array Obj):let y:Cx:={x with w:=Go.Sort.grow x.w os}; Inv y/\Frame x y:=by
  intro y
  have hp: ∀ b,b < x.w.heap.size->y.w.heap[b]?=x.w.heap[b]?:=λb hb=>by
    show (x.w.heap++os)[b]?=_;rw [Array.getElem?_append,if_pos hb]
  have hs:x.w.heap.size<=y.w.heap.size:=by show _<=(x.w.heap++os).size; simp
  have hf:Frame x y:=by
    refine ⟨J,J,J,hs,λb hb _=>hp b hb,λ_ h=>h,λb h=>.inl h,λid=>⟨Nat.le_refl _,λh _=>⟨h,J,J,λ_=>J,λh=>⟨J,?_⟩⟩⟩,λ_ h=>.inl ⟨h,J⟩,Nat.le_refl _,λ_ _ _=>J⟩;unfold fD; rw [hp _ (hx.lt h)]
  refine ⟨⟨λb h=>Nat.lt_of_lt_of_le (hx.zlt b h) hs,hx.zown,λid hl=>?_,hx.inj,hx.tab_of hf⟩,hf⟩;obtain ⟨cc,h1,h2,h3,h4⟩:=hx.blk id hl;exact ⟨cc,by rw [hp _ (hx.lt hl)]; exact h1,h2,h3,λr row j v hr hj=>(h4 r row j v hr hj).frame hx hf⟩
def aFE (P:Program) (f:Nat):Prop:= ∀ (p:Option Addr) (cap:Nat) (fv:Value) (w:World),Calls P f #[.slice p 0 cap,fv] w λe w'=>e=.returned (.tuple #[])/\w'=w
theorem aA6 {P:Program} {g:Nat} (h:fT P g): ∀ args w,(callFunc g args).run P w=.ok (.enter g args) w:=by
  obtain ⟨fn,h1,h2,h3⟩:=h;obtain ⟨c,hc⟩:=Option.isSome_iff_exists.1 h2;exact enters_of h1 h3 hc
theorem aCl {z y:Cx} (hf:Frame z y) (hno: ∀ id,(z.H id).own=false): ∃ q os,y.w=grow (z.w.drewN q) os:=by
  refine ⟨y.w.drawn - z.w.drawn,y.w.heap.extract z.w.heap.size y.w.heap.size,?_⟩;have e1:=hf.os; have e2:=hf.tape; have e3:=hf.output; have e4:=hf.drawn; have e5:=hf.size
  have e6:y.w.heap=z.w.heap++y.w.heap.extract z.w.heap.size y.w.heap.size:=by
    refine Array.ext_getElem? λb=>?_;rw [Array.getElem?_append];split
    . rename_i hb
      exact hf.keep b hb λid h=>by rw [hno id] at h; cases h
    . rename_i hb
      rw [Array.getElem?_extract];by_cases h:b < y.w.heap.size
      . rw [if_pos OM]; congr 1; omega
      . rw [if_neg OM,Array.getElem?_eq_none OM]
  have e7:y.w.drawn=z.w.drawn+(y.w.drawn - z.w.drawn):=OM
  unfold grow World.drewN;cases hy:y.w with
  | mk heap tape drawn os output =>
    rw [hy] at e1 e2 e3 e6 e7;simp only at e1 e2 e3 e6 e7 ⊢;rw [<- e6,<- e7,e1,e2,e3]
theorem xE {α:Type} [Inhabited α] (d:Array α) (i:Nat) (h:i < d.size):d[i]! =aA d.toList i:=by
  rw [getElem!_pos d i h,<- cP (by simpa using h)]; rfl
end
section
open Go Go.Proofs Go.Shelf Go.Sort Go.Lib
def aDb (P : Program) (f : Nat) : Prop := ∀ {α : Type} [Inhabited α] (enc : α -> Value) (_ : OneCell enc) (cf : α -> α -> Int) (_ : SWO (ltOf cf)) (g : Nat) (cb : Array Value) (blk off cap : Nat) (d : Array α) (w : World)
    (_: ∀ args w,(callFunc g args).run P w=.ok (.enter g args) w) (_:CmpLays1 P g cb enc cf blk off d.size w) (_:Holds enc w blk off d) (_:blk < w.heap.size) (_:d.size < 4611686018427387904),
    Calls P f #[.slice (some ⟨blk,off,none⟩) d.size cap,.func (.func g) #[] cb] w λe w'=>
      e=.returned (.tuple #[])/\ ∃ d' n os,PermIn 0 d.size d d'/\SortedIn (ltOf cf) 0 d.size d'/\w'=sortWorld enc w blk off n d' os
section
variable {P:Program} {α:Type} [Inhabited α] {enc:α->Value} {w:World} {blk off m:Nat} {dk:Array α} {os:Array Obj}
theorem sG {b:Nat} (hb:b < w.heap.size) (hne:b≠blk):(sortWorld enc w blk off m dk os).heap[b]?=w.heap[b]?:=by
  unfold sortWorld grow putRow mapBlock Sort.ahead;simp only;rw [Array.getElem?_append,if_pos (by simpa using hb),Array.getElem?_modify,if_neg (Ne.symm hne)]
theorem aA3:w.heap.size<=(sortWorld enc w blk off m dk os).heap.size:=by
  unfold sortWorld grow putRow mapBlock Sort.ahead;simp
theorem aCB {cc:Array Value} {ty:TypeId} (h:w.heap[blk]?=some (.cells cc ty (0,0))):
    sortWorld enc w blk off m dk os=grow {w.setRow blk (putCells enc off dk cc) with drawn:=w.drawn+m} os:=by
  unfold sortWorld putRow mapBlock Sort.ahead World.setRow;congr 2;refine Array.ext_getElem? λb=>?_;simp only [Array.getElem?_modify];by_cases e:blk=b
  . subst e
    simp only [if_true,h,Option.map_some,onCells]
  . simp only [if_neg e]
end
theorem yP {P:Program} {f g:Nat} (hS:aDb P f) (hN:aFE P f) (hcf:fT P f) (hcg:fT P g) {T:Type} [Inhabited T] {f0:T->V} {l:List T} {cmp:T->T->Int}
    (hO:SWO λa b=>decide (cmp a b < 0)) (hT: ∀ a∈l,∀ b∈l,¬cmp a b < 0-> ¬cmp b a < 0->a=b)
    (hc: ∀ a∈l,∀ b∈l,bK P g [f0 a,f0 b] (iV<|cmp a b)) (hp: ∀ a∈l,(f0 a).pure=true) (h1: ∀ a∈l,(f0 a).one=true)
    (hl:l.length < 4611686018427387904) {id ver ty:Nat} {lz:Bool} {H:bC} (hH:H id=⟨ver,true,lz,ty,1,l.map λa=>[f0 a]⟩):
    fA P f [.ms id ver 0 l.length,.fn g [] []] H (.tup []) (cX H id ⟨ver,true,lz,ty,1,(srt cmp l).map λa=>[f0 a]⟩):=by
  refine ⟨hcf,λx cs hxH hx hr=>?_⟩;subst hxH
  obtain ⟨c0,c1,rfl⟩: ∃ c0 c1,cs=[c0,c1]:=by
    have:=hr.1
    match cs with
    |[a,b]=>exact ⟨a,b,rfl⟩
    |[]=>simp at this
    |[_]=>simp at this
    |_::_::_::_=>simp at this
  have r0:R x (.ms id ver 0 l.length) c0:=hr.2 0 _ J;have r1:R x (.fn g [] []) c1:=hr.2 1 _ J;cases r1 with
  |fn _ _ _ fs cb hfs hcs _ _=>
  have hfs':fs=#[]:=Array.eq_empty_of_size_eq_zero (by simpa using hfs);have hcs':cb=#[]:=Array.eq_empty_of_size_eq_zero (by simpa using hcs);subst hfs'; subst hcs';cases r0 with
  |ms _ _ _ _ b n cap hv hh hm=>
  obtain ⟨e1,e2,e3,e4,e5,e6⟩:=hh (by rw [hH]) (by rw [hH]);subst e1;by_cases hne:l=[]
  . subst hne
    refine (hN b cap (.func (.func g) #[] #[]) x.w).mono λe w' h=>?_;obtain ⟨rfl,rfl⟩:=h;refine ⟨_,x,J,J,?_,hx,.tup [] #[] J (λj v hj=>by simp at hj),Frame.refl x⟩;funext j;by_cases e:j=id
    . subst e; rw [aU,hH]; rfl
    . rw [cD _ _ e]
  have hpos:0 < l.length:=List.length_pos_iff.2 hne
  have ho:(x.H id).own=true:=by
    rw [hH];cases l with
    |nil=>exact (hne rfl).elim
    |cons a l=>simp [Blk.own]
  obtain ⟨e7,_⟩:=e5 ho;rw [hH] at e7;simp only [Nat.zero_mul] at e7;subst e7;obtain ⟨cc,b1,b2,b3,b4⟩:=hx.cel id ho<|hm (by rw [hH]) (by rw [hH])
  simp only [hH] at b1 b2 b3 b4;rw [List.length_map,Nat.mul_one] at b3
  let A:Type:={i:Nat // i < l.length}
  haveI:Inhabited A:=⟨⟨0,hpos⟩⟩
  let enc:A->Value:=λi=>cc.getD i.1 undef
  let cf:A->A->Int:=λa b=>cmp (aA l a.1)<|aA l b.1
  let d:Array A:=Array.ofFn λi:Fin l.length=>(⟨i.1,i.2⟩:A)
  have hdn:d.size=l.length:=by simp [d]
  have hdi: ∀ i (h:i < l.length),d[i]! =⟨i,h⟩:=λi h=>by
    rw [getElem!_pos d i (by rw [hdn]; exact h)]; simp [d]
  have hrow: ∀ i,i < l.length->(l.map λa=>[f0 a])[i]?=some [f0 (aA l i)]:=λi hi=>by rw [List.getElem?_map,xI hi]; rfl
  have hRx: ∀ a:A,R x (f0<|aA l a.1) (cc.getD a.1 undef):=λa=>by
    have:=b4 a.1 _ 0 _ (hrow a.1 a.2) J
    rwa [Nat.mul_one,Nat.add_zero] at this
  have hO':SWO (ltOf cf):=⟨λa=>hO.irrefl _,λa b c=>hO.trans _ _ _,λa b c=>hO.ntrans _ _ _⟩
  have hcmp:CmpLays1 P g #[] enc cf (x.σ id) 0 d.size x.w:=by
    intro m os dk hdk a b
    let W:=sortWorld enc x.w (x.σ id) 0 m dk os
    let z:Cx:=start {x with w:=W} x.Z
    have hz:Inv z:=uV (λb hb=>Nat.lt_of_lt_of_le (hx.zlt b hb) aA3) λp hp=>⟨(hx.tab p hp).1,by
      obtain ⟨q1,q2⟩:=hx.tab p hp;show ∃ ty m,W.heap[p.1]?=_;rw [show W.heap[p.1]?=x.w.heap[p.1]? from sG (hx.zlt _ q1) λe=>hx.zown _ id q1 ho e.symm]; exact q2⟩
    have hag: ∀ a:A,R z (f0<|aA l a.1) (enc a):=λa=>by
      refine (hRx a).pure_same (y:=z) (hp _<|cW a.2) (λb hb=>?_) λ_ h=>h;exact sG (hx.zlt b hb) λe=>hx.zown b id hb ho e.symm
    have hrl:RL z [f0 (aA l a.1),f0 (aA l b.1)] [enc a,enc b]:=by
      refine ⟨J,λj v hj=>?_⟩
      match j,hj with
      |0,hj=>simp at hj; subst hj; exact hag a
      |1,hj=>simp at hj; subst hj; exact hag b
    refine ((hc _ (cW a.2) _ (cW b.2) H0).2 z _ J hz hrl).mono λe w' h=>?_;obtain ⟨c,y,rfl,rfl,_,_,h5,h6⟩:=h;cases h5;obtain ⟨q,os',hq⟩:=aCl h6 λid=>J
    exact ⟨J,q,os',hq⟩
  have hsz:d.size < 4611686018427387904:=by rw [hdn]; exact hl
  have hH':Holds enc x.w (x.σ id) 0 d:=by
    intro j hj;rw [hdn] at hj;have e:enc d[j]! =cc.getD j undef:=by rw [hdi _ hj]
    have hjc:j < cc.size:=OM
    refine ⟨?_,?_⟩
    . rw [e,Nat.zero_add]; exact mR b1 hjc
    . simp [World.frozen?,b1]
  have hcall:=hS enc (λa=>(hRx a).one (h1 _<|cW a.2)) cf hO' g #[] (x.σ id) 0 cap d x.w (aA6 hcg) hcmp hH' (hx.lt ho) hsz;rw [hdn] at hcall;refine hcall.mono λe w' h=>?_;obtain ⟨rfl,d',n',os',hP,hSo,rfl⟩:=h;obtain ⟨p1,_,p3⟩:=hP;rw [hdn] at p1;have x1:d'.extract 0 l.length=d':=by rw [<- p1]; simp
  have x2:d.extract 0 l.length=d:=by rw [<- hdn]; simp
  rw [x1,x2] at p3
  have hmap:d.toList.map (λa:A=>aA l a.1)=l:=by
    refine jT (by simp [hdn]) λj hj=>?_;have hj':j < l.length:=by simpa [hdn] using hj
    rw [aIl (by simpa using hj),<- xE d j (by rw [hdn]; exact hj'),hdi j hj']
  have hl':d'.toList.map (λa:A=>aA l a.1)=srt cmp l:=by
    have hperm:(d'.toList.map (λa:A=>aA l a.1)).Perm l:=by
      have:=p3.map (λa:A=>aA l a.1)
      rwa [hmap] at this
    refine aAZ (le:=λa b=> ¬cmp b a < 0) (λa ha b hb h1 h2=>hT a (hperm.mem_iff.1 ha) b (hperm.mem_iff.1 hb) h2 h1) (hperm.trans (uN cmp l).symm) ?_<|sR hO l
    rw [List.pairwise_map,List.pairwise_iff_getElem];intro i j hi hj hij;have h:=hSo i j (Nat.zero_le _) hij (by rw [<- p1]; simpa using hj);rw [xE d' i (by simpa using hi),xE d' j (by simpa using hj),<- cP hi,<- cP hj] at h;simpa [ltOf,cf] using h
  let cc':=putCells enc 0 d' cc
  have hcs:cc'.size=cc.size:=by simp [cc',putCells]
  have hg: ∀ r,r < l.length-> ∀ (hr:r < d'.size),cc'.getD r undef=cc.getD (d'[r]'hr).1 undef:=by
    intro r hr hr'
    have e:cc'[r]?=some (enc d'[r]!):=by
      simp only [cc',putCells,Array.getElem?_mapIdx];rw [Array.getElem?_eq_getElem OM];simp [hr']
    rw [Array.getD_eq_getD_getElem?,e,getElem!_pos d' r hr']
    rfl
  have hrows: ∀ (r:Nat) (row:List V) (j:Nat) (v:V),((srt cmp l).map λa=>[f0 a])[r]?=some row->row[j]?=some v->R x v (cc'.getD (r*1+j) undef):=by
    intro r row j v hr hj;rw [<- hl',List.map_map,List.getElem?_map] at hr;obtain ⟨a,ha,rfl⟩:=map_some hr;have har:=List.getElem?_eq_some_iff.1 ha;obtain ⟨hlt,hae⟩:=har;have hlt':r < d'.size:=by simpa using hlt
    have hj0:j=0:=by
      have:=(List.getElem?_eq_some_iff.1 hj).1;simp at this; exact this
    subst hj0;simp only [Function.comp_apply,List.getElem?_cons_zero,Option.some.injEq] at hj;subst hj;rw [Nat.mul_one,Nat.add_zero,hg r OM hlt'];have hae':d'[r]'hlt'=a:=by simpa using hae
    rw [hae'];exact hRx a
  have st:=lZ hx id ho cc cc' (by rw [hH]; exact b1) hcs (x.H id).ver ((srt cmp l).map λa=>[f0 a]) (Nat.le_refl _) (λ_=>by rw [hH]; simp [pA]) (by
      rw [hH];have:(srt cmp l).length=l.length:=by simp [pA]
      cases hq:srt cmp l with
      |nil=>rw [hq] at this; simp at this; omega
      |cons a q=>simp) (λr hr=>by
      rw [hH];obtain ⟨a,_,rfl⟩:=List.mem_map.1 hr
      rfl) (by rw [hH]; simpa [pA] using b3) (by simp only [hH]; exact hrows)
  simp only [hH] at st;obtain ⟨i1,f1⟩:=st;obtain ⟨i2,f2⟩:=jM i1 (x.w.drawn+n')<|Nat.le_add_right _ _
  obtain ⟨i3,f3⟩:=aIG i2 os';refine ⟨.tuple #[],_,J,?_,?_,i3,.tup [] #[] J (λj v hj=>by simp at hj),(f1.trans f2).trans f3⟩
  . rw [aCB b1]
  . rfl
end
section
open Go Go.Proofs Go.Shelf Go.Sort
def aGz:Go.Shelf.Ren:=⟨fun|6=>158|15=>189|14=>188|28=>209|29=>210|20=>201|21=>202|22=>203|23=>204|24=>205|25=>206|26=>207|27=>208|46=>213|47=>214|48=>215|49=>216|50=>217|57=>219|n=>n,fun|22=>22|24=>54|25=>91|3=>3|39=>238|0=>0|53=>257|55=>259|4=>4|46=>251|45=>250|50=>154|5=>5|9=>9|66=>261|70=>265|76=>267|77=>240|n=>n,λn=>n⟩
theorem aB7:SlLaysF.n6 Tryz.prog aGz:={
  mixed:=(by kernel_rfl),
  f6:=⟨Tryz.f158.name,DE,Tryz.func158.trans (congrArg some (by kernel_rfl))⟩,
  f14:=⟨Tryz.f188.name,DE,Tryz.func188.trans (congrArg some (by kernel_rfl))⟩,
  f15:=Tryz.func189.trans (congrArg some (by kernel_rfl)),
  f20:=⟨Tryz.f201.name,DE,Tryz.func201.trans (congrArg some (by kernel_rfl))⟩,
  f21:=⟨Tryz.f202.name,DE,Tryz.func202.trans (congrArg some (by kernel_rfl))⟩,
  f22:=⟨Tryz.f203.name,DE,Tryz.func203.trans (congrArg some (by kernel_rfl))⟩,
  f23:=⟨Tryz.f204.name,DE,Tryz.func204.trans (congrArg some (by kernel_rfl))⟩,
  f24:=⟨Tryz.f205.name,DE,Tryz.func205.trans (congrArg some (by kernel_rfl))⟩,
  f25:=⟨Tryz.f206.name,DE,Tryz.func206.trans (congrArg some (by kernel_rfl))⟩,
  f26:=⟨Tryz.f207.name,DE,Tryz.func207.trans (congrArg some (by kernel_rfl))⟩,
  f27:=⟨Tryz.f208.name,DE,Tryz.func208.trans (congrArg some (by kernel_rfl))⟩,
  f28:=Tryz.func209.trans (congrArg some (by kernel_rfl)),
  f29:=Tryz.func210.trans (congrArg some (by kernel_rfl)),
  f46:=⟨Tryz.f213.name,DE,Tryz.func213.trans (congrArg some (by kernel_rfl))⟩,
  f47:=Tryz.func214.trans (congrArg some (by kernel_rfl)),
  f48:=Tryz.func215.trans (congrArg some (by kernel_rfl)),
  f49:=⟨Tryz.f216.name,DE,Tryz.func216.trans (congrArg some (by kernel_rfl))⟩,
  f50:=⟨Tryz.f217.name,DE,Tryz.func217.trans (congrArg some (by kernel_rfl))⟩,
  f57:=⟨Tryz.f219.name,DE,Tryz.func219.trans (congrArg some (by kernel_rfl))⟩,
  t0:=Tryz.underlying0,
  a0:=Tryz.isAgg0,
  z0:=Tryz.sizeOf0,
  v0:=Tryz.zeroValue0,
  t3:=Tryz.underlying3,
  a3:=Tryz.isAgg3,
  z3:=Tryz.sizeOf3,
  v3:=Tryz.zeroValue3,
  t4:=Tryz.underlying4,
  a4:=Tryz.isAgg4,
  z4:=Tryz.sizeOf4,
  v4:=Tryz.zeroValue4,
  t5:=Tryz.underlying5,
  a5:=Tryz.isAgg5,
  z5:=Tryz.sizeOf5,
  v5:=Tryz.zeroValue5,
  t9:=Tryz.underlying9,
  a9:=Tryz.isAgg9,
  z9:=Tryz.sizeOf9,
  v9:=Tryz.zeroValue9,
  t22:=Tryz.underlying22,
  a22:=Tryz.isAgg22,
  z22:=Tryz.sizeOf22,
  v22:=Tryz.zeroValue22,
  a24:=Tryz.isAgg54,
  z24:=Tryz.sizeOf54,
  t25:=Tryz.underlying91,
  a25:=Tryz.isAgg91,
  z25:=Tryz.sizeOf91,
  v25:=Tryz.zeroValue91,
  t39:=Tryz.underlying238,
  a39:=Tryz.isAgg238,
  z39:=Tryz.sizeOf238,
  v39:=Tryz.zeroValue238,
  t45:=Tryz.underlying250,
  a45:=Tryz.isAgg250,
  z45:=Tryz.sizeOf250,
  v45:=Tryz.zeroValue250,
  t46:=Tryz.underlying251,
  a46:=Tryz.isAgg251,
  z46:=Tryz.sizeOf251,
  v46:=Tryz.zeroValue251,
  t50:=Tryz.underlying154,
  a50:=Tryz.isAgg154,
  z50:=Tryz.sizeOf154,
  v50:=Tryz.zeroValue154,
  t53:=Tryz.underlying257,
  a53:=Tryz.isAgg257,
  z53:=Tryz.sizeOf257,
  v53:=Tryz.zeroValue257,
  t55:=Tryz.underlying259,
  a55:=Tryz.isAgg259,
  z55:=Tryz.sizeOf259,
  v55:=Tryz.zeroValue259,
  t66:=Tryz.underlying261,
  a66:=Tryz.isAgg261,
  z66:=Tryz.sizeOf261,
  v66:=Tryz.zeroValue261,
  t70:=Tryz.underlying265,
  a70:=Tryz.isAgg265,
  z70:=Tryz.sizeOf265,
  v70:=Tryz.zeroValue265,
  t76:=Tryz.underlying267,
  a76:=Tryz.isAgg267,
  z76:=Tryz.sizeOf267,
  v76:=Tryz.zeroValue267,
  t77:=Tryz.underlying240,
  a77:=Tryz.isAgg240,
  z77:=Tryz.sizeOf240,
  v77:=Tryz.zeroValue240}
theorem aAX:aDb Tryz.prog 158:=λenc h1 cf hO g cb blk off cap d w eg hcmp hH hblk hsz=>
  Any.slices_SortFunc aB7 enc h1 cf hO g cb blk off cap d w eg hcmp hH hblk hsz
theorem aAQ:fT Tryz.prog 158:=⟨_,Tryz.func158,by kernel_rfl,by kernel_rfl⟩
theorem aAL:aFE Tryz.prog 158:=λp cap fv w=>AnyF.slices_SortFunc_none {aB7 with} p cap fv w
end
section
open Go Go.Proofs
theorem aEp (l:List (List Int)) (hl:l.length<=1073741824) (hw: ∀ w∈l,w.length<=1048576):bK Tryz.prog 107 [(aC l),(V.fn 143 [] [])] (aC (sdP l)):=by
 refine' pK [] [] Tryz.func107 ?e λhB=>?_
 case e=>conv=>lhs; cbv
 dsimp only;have q9:(eZ (srt fS l) (srt fS l).length).length<=l.length:=aMS l;refine aW<|bS (i:=3) (n:=0) (m:=1) (cs:=[(V.fn 143 [] [])]) J (cE J) J J J<|aD<|aW<|aP<|gA (bO J dQ) (aFI l 0 _ (cE J) OM)<|aD<|aW<|aP<|aV J J J J<|gA (bO J<|bO J dQ) (yP (f0:=aE) (l:=l) (cmp:=fS) aAX aAL aAQ ⟨_,Tryz.func143,by kernel_rfl,by kernel_rfl⟩ aIe (λa _ b _ h1 h2=>aFK h1 h2) (λa _ b _=>sX a b) (λa _=>by simp) (λa _=>J) OM J)<|qV<|aP ?_
 refine yG (bO J dQ)<|gA (bO J<|bO J dQ) (aMX (srt fS l) 3 1 l.length _ (@J Blk<|bz 3 54 1<|List.map cL<|srt fS l) (@J Blk<|bk 1 91 1 [[(V.fn 143 [] [])]]) (by simp [pA]) (by simp only [pA]; omega))<|aD<|aO<|aP<|dW J (@J Blk<|bz 3 54 1<|List.map cL (eZ (srt fS l) (srt fS l).length)++List.replicate ((srt fS l).length - (eZ (srt fS l) (srt fS l).length).length) [V.nilsl]) JR<|aD (aG λQ1 n1 x1 y1 z1=>?_)
 refine cC (λmm T H=> ∃ (k:Nat),mm=((eZ (srt fS l) (srt fS l).length).length) - k/\T 5=(V.ms 202 3 0<|(eZ (srt fS l) (srt fS l).length).length)/\T 16=(V.ms 202 3 0<|(eZ (srt fS l) (srt fS l).length).length)/\T 17=(iV (((eZ (srt fS l) (srt fS l).length).length:Nat):Int))/\T 18=(iV ((k:Nat):Int))/\H 3=(bk 1 91 1 [[(V.fn 143 [] [])]])/\H 202=(bz 3 54 1<|List.map cL (eZ (srt fS l) (srt fS l).length)++List.replicate ((srt fS l).length - (eZ (srt fS l) (srt fS l).length).length) [V.nilsl])/\(k<=(eZ (srt fS l) (srt fS l).length).length)) ?_ ?_
 . 
  refine ⟨_,0,J,J,J,J,(bL (aM<|iV 0) J),J,J,?_⟩
  . omega
 intro mm T H ⟨k,hmm,t5,t16,t17,t18,h3,h202,hk⟩ Q2 p12 p22 p32;refine aW<|bZ t18 t17<|bR ?_
 refine aH J (λc3=>?_) λc3=>?_
 . 
  refine aB (aG λQ4 n4 x4 y4 z4=>(aW<|aJ t18<|dC (i:=k) t16 t18 h202 (rB OM) J OM<|cQ (v:=(aE<|aA (eZ (srt fS l) (srt fS l).length) k)) J h202 (aH8 OM JR)<|aP<|aD<|eI<|aJ t5<|aP<|aP<|aI (lI (aA (eZ (srt fS l) (srt fS l).length) k) (by have q:=hw (aA (eZ (srt fS l) (srt fS l).length) k)<|aNS.1 (show aA (eZ (srt fS l) (srt fS l).length) k∈sdP l from cW (show k < (eZ (srt fS l) (srt fS l).length).length by omega)); omega)) J<|dC (i:=k) (aM<|V.ms 202 3 0<|(eZ (srt fS l) (srt fS l).length).length) (cO k) h202 (rB OM) J OM<|dU (vs:=[(aE<|aA (eZ (srt fS l) (srt fS l).length) k)]) (B':=(bz 3 54 1<|List.map cL ((eZ (srt fS l) (srt fS l).length).set k (aA (eZ (srt fS l) (srt fS l).length) k))++List.replicate ((srt fS l).length - (eZ (srt fS l) (srt fS l).length).length) [V.nilsl])) J J J h202 (aHz (x:=(aA (eZ (srt fS l) (srt fS l).length) k)) (i:=k) OM J J J J) ?_));refine bR<|n4 _ _ (.done (eI<|cF t18<|aD ?_))
  refine p12 _ _ _ ?_ ⟨(k+1),J,t5,t16,t17,(bL (cO<|k+1) JR),h3,(bL (@J Blk<|bz 3 54 1<|List.map cL ((eZ (srt fS l) (srt fS l).length).set k (aA (eZ (srt fS l) (srt fS l).length) k))++List.replicate ((srt fS l).length - (eZ (srt fS l) (srt fS l).length).length) [V.nilsl]) (by (rw [aDL OM]; done))),?_⟩
  . omega
  . omega
 refine aT<|p32 _ _ _<|x1 _ _ (.done (aW<|aJ t5<|aD<|bF ?_))
 refine aZ (aM<|V.ms 202 3 0<|(eZ (srt fS l) (srt fS l).length).length)<|aHx h202 JR (uK (l:=(eZ (srt fS l) (srt fS l).length)) JR) (λ_=>by simp) ?_
 . rfl
theorem aCt (l:List (List Int)) (hl:l.length<=1073741824) (hw: ∀ w∈l,w.length<=1048576):bK Tryz.prog 107 [(aC l),(V.fn 108 [] [])] (aC (oQ l)):=by
 refine' pK [] [] Tryz.func107 ?e λhB=>?_
 case e=>conv=>lhs; cbv
 dsimp only;have q9:(eZ (srt cY l) (srt cY l).length).length<=l.length:=aHE l;refine aW<|bS (i:=3) (n:=0) (m:=1) (cs:=[(V.fn 108 [] [])]) J (cE J) J J J<|aD<|aW<|aP<|gA (bO J dQ) (aFI l 0 _ (cE J) OM)<|aD<|aW<|aP<|aV J J J J<|gA (bO J<|bO J dQ) (yP (f0:=aE) (l:=l) (cmp:=cY) aAX aAL aAQ ⟨_,Tryz.func108,by kernel_rfl,by kernel_rfl⟩ aEG (λa _ b _ h1 h2=>aC7 h1 h2) (λa _ b _=>rN a b) (λa _=>by simp) (λa _=>J) OM J)<|qV<|aP ?_
 refine yG (bO J dQ)<|gA (bO J<|bO J dQ) (aLk (srt cY l) 3 1 l.length _ (@J Blk<|bz 3 54 1<|List.map cL<|srt cY l) (@J Blk<|bk 1 91 1 [[(V.fn 108 [] [])]]) (by simp [pA]) (by simp only [pA]; omega))<|aD<|aO<|aP<|dW J (@J Blk<|bz 3 54 1<|List.map cL (eZ (srt cY l) (srt cY l).length)++List.replicate ((srt cY l).length - (eZ (srt cY l) (srt cY l).length).length) [V.nilsl]) JR<|aD (aG λQ1 n1 x1 y1 z1=>?_)
 refine cC (λmm T H=> ∃ (k:Nat),mm=((eZ (srt cY l) (srt cY l).length).length) - k/\T 5=(V.ms 202 3 0<|(eZ (srt cY l) (srt cY l).length).length)/\T 16=(V.ms 202 3 0<|(eZ (srt cY l) (srt cY l).length).length)/\T 17=(iV (((eZ (srt cY l) (srt cY l).length).length:Nat):Int))/\T 18=(iV ((k:Nat):Int))/\H 3=(bk 1 91 1 [[(V.fn 108 [] [])]])/\H 202=(bz 3 54 1<|List.map cL (eZ (srt cY l) (srt cY l).length)++List.replicate ((srt cY l).length - (eZ (srt cY l) (srt cY l).length).length) [V.nilsl])/\(k<=(eZ (srt cY l) (srt cY l).length).length)) ?_ ?_
 . 
  refine ⟨_,0,J,J,J,J,(bL (aM<|iV 0) J),J,J,?_⟩
  . omega
 intro mm T H ⟨k,hmm,t5,t16,t17,t18,h3,h202,hk⟩ Q2 p12 p22 p32;refine aW<|bZ t18 t17<|bR ?_
 refine aH J (λc3=>?_) λc3=>?_
 . 
  refine aB (aG λQ4 n4 x4 y4 z4=>(aW<|aJ t18<|dC (i:=k) t16 t18 h202 (rB OM) J OM<|cQ (v:=(aE<|aA (eZ (srt cY l) (srt cY l).length) k)) J h202 (aH8 OM JR)<|aP<|aD<|eI<|aJ t5<|aP<|aP<|aI (lI (aA (eZ (srt cY l) (srt cY l).length) k) (by have q:=hw (aA (eZ (srt cY l) (srt cY l).length) k)<|vM.1 (show aA (eZ (srt cY l) (srt cY l).length) k∈oQ l from cW (show k < (eZ (srt cY l) (srt cY l).length).length by omega)); omega)) J<|dC (i:=k) (aM<|V.ms 202 3 0<|(eZ (srt cY l) (srt cY l).length).length) (cO k) h202 (rB OM) J OM<|dU (vs:=[(aE<|aA (eZ (srt cY l) (srt cY l).length) k)]) (B':=(bz 3 54 1<|List.map cL ((eZ (srt cY l) (srt cY l).length).set k (aA (eZ (srt cY l) (srt cY l).length) k))++List.replicate ((srt cY l).length - (eZ (srt cY l) (srt cY l).length).length) [V.nilsl])) J J J h202 (aHz (x:=(aA (eZ (srt cY l) (srt cY l).length) k)) (i:=k) OM J J J J) ?_));refine bR<|n4 _ _ (.done (eI<|cF t18<|aD ?_))
  refine p12 _ _ _ ?_ ⟨(k+1),J,t5,t16,t17,(bL (cO<|k+1) JR),h3,(bL (@J Blk<|bz 3 54 1<|List.map cL ((eZ (srt cY l) (srt cY l).length).set k (aA (eZ (srt cY l) (srt cY l).length) k))++List.replicate ((srt cY l).length - (eZ (srt cY l) (srt cY l).length).length) [V.nilsl]) (by (rw [aDL OM]; done))),?_⟩
  . omega
  . omega
 refine aT<|p32 _ _ _<|x1 _ _ (.done (aW<|aJ t5<|aD<|bF ?_))
 refine aZ (aM<|V.ms 202 3 0<|(eZ (srt cY l) (srt cY l).length).length)<|aHx h202 JR (uK (l:=(eZ (srt cY l) (srt cY l).length)) JR) (λ_=>by simp) ?_
 . rfl
theorem uX (l:List (List Int)) (hl:l.length<=1073741824) (hw: ∀ w∈l,w.length<=1048576):bK Tryz.prog 95 [(aC l)] (aC (fB l)):=by
 refine' pK [] [] Tryz.func95 ?e λhB=>?_
 case e=>conv=>lhs; cbv
 dsimp only;refine aW<|aD<|aW<|aP<|aI (aEp l hl hw) J<|aD<|bF ?_
 refine aZ (aM<|aC<|sdP l)<|cA ?_ (λ_=>by simp)
 . exact aDS l
def aLJ:SC:=.seq (.reg [qP 12 .lss 11 10]) (.seq (.cond (.t 12) (.skip) (.exit 0)) (.seq (.block 1 (.seq (.reg [qA 13 1 9 11,ql 14 13,qM 5 14]) (.seq (.reg [qM 15 3,qM 16 5,qN 17 16,qP 18 .add 15 17,qM 3 18]) (.seq (.reg [qM 19 3,qC 20 .lss 19 0]) (.cond (.t 20) (.seq (.reg [sO 21 (.bad)]) (.seq (.pop none (.raise (.t 21))) (.reg []))) (.skip)))))) (.reg [qC 22 .add 11 1,qM 11 22])))
def aJ0:SC:=.seq (.reg [qP 28 .lss 27 26]) (.seq (.cond (.t 28) (.skip) (.exit 2)) (.seq (.block 3 (.seq (.reg [qA 29 1 25 27,ql 30 29,qM 8 30]) (.reg [qM 31 6,qM 32 8,sO 33 (.append 3 1 8 (.t 31) (.t 32)),qM 6 33]))) (.reg [qC 34 .add 27 1,qM 27 34])))
def aQn:SF:=⟨36,[.tmp 2],.seq (.reg [sO 2 (.mv (.c (.nilsl)))]) (.seq (.reg [qI 3 0]) (.seq (.seq (.reg [qM 9 0,qN 10 9,qI 11 0]) (.block 0 (.loop aLJ))) (.seq (.reg [qM 23 3,sO 24 (.call true 156 [.c (.nilsl),.t 23]),qM 6 24]) (.seq (.seq (.reg [qM 25 0,qN 26 25,qI 27 0]) (.block 2 (.loop aJ0))) (.seq (.reg [qM 35 6,qM 2 35]) (.ret))))))⟩
theorem aNR:mO Tryz.prog ⟨[101,102,103,111,112,126,130,155,156,157,158,159,163,165,188,193,197,201],[],[],[]⟩ Tryz.f106=some aQn:=by kernel_rfl
end
section
open Go Go.Proofs Go.Shelf Go.Lib
section
variable {P:Program} {ρ:Go.Shelf.Ren}
theorem aFB (L : Lays8.n4 P ρ) (hcf : fT P (ρ.f 4)) (i0 : TypeInfo) (z : Value) (hi0 : P.info? (ρ.t 25) = some i0) (hz0 : i0.zero = some z) (hs0 : 0 < i0.size) (hzs : z.cells.size = i0.size)
    {n:Nat} (hb:n*i0.bytes<=140737488355328) (h63:n<=4611686018427387904) (id:Nat) (H:bC) (hty:ρ.t 25 < 4294967296:=by decide):
    fA P (ρ.f 4) [.nilsl,iV (n:Nat)] H (.ms id ((H id).ver+1) 0 0) (cX H id ⟨(H id).ver+1,true,decide (n=0),ρ.t 25,i0.size,[]⟩):=by
  refine ⟨hcf,λx cs hxH hx hr=>?_⟩;subst hxH
  obtain ⟨c0,c1,rfl⟩: ∃ c0 c1,cs=[c0,c1]:=by
    have:=hr.1
    match cs with
    |[a,b]=>exact ⟨a,b,rfl⟩
    |[]=>simp at this
    |[_]=>simp at this
    |_::_::_::_=>simp at this
  have r0:R x .nilsl c0:=hr.2 0 _ J;have r1:R x (iV (n:Nat)) c1:=hr.2 1 _ J;have hc0:c0=.slice none 0 0:=by cases r0; rfl
  have hc1:c1=.int .i64 (n:Nat):=by unfold iV at r1; cases r1; rfl
  subst hc0; subst hc1;by_cases hn:n=0
  . subst hn
    refine (Any8.slices_Grow_room L none 0 0 0 x.w (Nat.le_refl _) DE DE DE).mono λe w' h=>?_;obtain ⟨rfl,rfl⟩:=h;obtain ⟨h1,h2,h3⟩:=mZ hx id (ρ.t 25) i0.size hty;exact ⟨_,{x with H:=cX x.H id ⟨(x.H id).ver+1,true,true,ρ.t 25,i0.size,[]⟩},rfl,rfl,SI,h1,h3 _,h2⟩
  . refine (Any8.slices_Grow_grow L i0 z hi0 hz0 hs0 none 0 0 n [] x.w (Nat.le_refl _) OM (by simpa using hb) (by simpa using h63) SI (λ_=>rfl) (λa h=>by cases h)).mono λe w' h=>?_
    obtain ⟨rfl,rfl⟩:=h;obtain ⟨dI,dF⟩:=jM hx (x.w.drawn+1)<|Nat.le_succ _
    have hge:0+n<=grownCap x.w (0+n) 0 (ρ.t 25):=grownCap_ge x.w _ _ _;have hle:=grownCap_le_maxLen x.w (0+n) 0 (ρ.t 25) (by unfold maxLen; omega);generalize hG:grownCap x.w (0+n) 0 (ρ.t 25)=G at hge hle
    have hsz:((#[]:Array Value)++Builtin.zeroCells z.cells (0+n - 0)++Builtin.zeroCells z.cells (G - (0+n))).size=G*i0.size:=by
      have zc: ∀ m,(Builtin.zeroCells z.cells m).size=m*i0.size:=λm=>by
        rw [size_zeroCells,hzs]
      rw [Array.size_append,Array.size_append,zc,zc];simp only [Array.size_empty,Nat.zero_add,Nat.sub_zero];rw [<- Nat.add_mul]; congr 1; omega
    have hrf:([].toArray:Array Value)=#[]:=J;rw [hrf];generalize ((#[]:Array Value)++Builtin.zeroCells z.cells (0+n - 0)++Builtin.zeroCells z.cells (G - (0+n)))=cc at hsz;obtain ⟨h1,h2⟩:=nM dI id cc false (ρ.t 25) i0.size [] SI SI (λr row j v h=>by simp at h);refine ⟨_,_,J,J,by simp [hn],h1,?_,dF.trans h2⟩;refine .ms _ _ _ _ _ _ _ (by simp [aU]) (λ_ _=>?_) λ_ _=>by simp only [aU]; rfl
    simp only [aU];refine ⟨trivial,Nat.zero_le _,hle,SI,λ_=>⟨by simp [World.drew],?_⟩,λh=>by simp [Blk.own] at h⟩;simp only [Nat.zero_add];unfold fD;have:(({x.w with drawn:=x.w.drawn+1}:World).alloc (.cells cc (ρ.t 25))).heap[({x.w with drawn:=x.w.drawn+1}:World).heap.size]?=some (.cells cc (ρ.t 25)):=kJ _ _;rw [this];exact hsz.symm
theorem aDU (L:Lays8.n4 P ρ) (hcf:fT P (ρ.f 4)) {k b:Nat} {z:Value} (hi:(P.info? (ρ.t 25)).map (λi=>(i.zero,i.size,i.bytes))=some (some z,k,b)) (hs0:0 < k) (hzs:z.cells.size=k)
    {n:Nat} (hb:n*b<=140737488355328) (h63:n<=4611686018427387904) (id:Nat) (H:bC) (hty:ρ.t 25 < 4294967296:=by decide):
    fA P (ρ.f 4) [.nilsl,iV (n:Nat)] H (.ms id ((H id).ver+1) 0 0) (cX H id ⟨(H id).ver+1,true,decide (n=0),ρ.t 25,k,[]⟩):=by
  obtain ⟨i0,h1,h2⟩:=Option.map_eq_some_iff.1 hi;simp only [Prod.mk.injEq] at h2;obtain ⟨h3,h4,h5⟩:=h2;subst h4; subst h5;exact aFB L hcf i0 z h1 h3 hs0 hzs hb h63 id H hty
theorem aEc (L:Lays8.n4 P ρ) (hcf:fT P (ρ.f 4)) {k b:Nat} {z:Value} (hi:(P.info? (ρ.t 25)).map (λi=>(i.zero,i.size,i.bytes))=some (some z,k,b)) (hs0:0 < k) (hzs:z.cells.size=k)
    {n:Nat} (hb:n*b<=140737488355328) (h63:n<=4611686018427387904) (id:Nat) {H:bC} {w:Nat} (hv:(H id).ver=w) (hty:ρ.t 25 < 4294967296:=by decide):
    fA P (ρ.f 4) [.nilsl,iV (n:Nat)] H (.ms id (w+1) 0 0) (cX H id ⟨w+1,true,decide (n=0),ρ.t 25,k,[]⟩):=by
  subst hv; exact aDU L hcf hi hs0 hzs hb h63 id H hty
end
end
section
open Go Go.Proofs Go.Shelf
def aGA:Go.Shelf.Ren:=⟨fun|4=>156|n=>n,fun|22=>54|25=>3|3=>3|4=>4|9=>9|20=>20|0=>0|n=>n,λn=>n⟩
theorem aGJ:Lays8.n4 Tryz.prog aGA:={
  mixed:=(by kernel_rfl),
  f4:=⟨Tryz.f156.name,DE,Tryz.func156.trans (congrArg some (by kernel_rfl))⟩,
  t0:=Tryz.underlying0,
  a0:=Tryz.isAgg0,
  z0:=Tryz.sizeOf0,
  v0:=Tryz.zeroValue0,
  t3:=Tryz.underlying3,
  a3:=Tryz.isAgg3,
  z3:=Tryz.sizeOf3,
  v3:=Tryz.zeroValue3,
  t4:=Tryz.underlying4,
  a4:=Tryz.isAgg4,
  z4:=Tryz.sizeOf4,
  v4:=Tryz.zeroValue4,
  t9:=Tryz.underlying9,
  a9:=Tryz.isAgg9,
  z9:=Tryz.sizeOf9,
  v9:=Tryz.zeroValue9,
  t20:=Tryz.underlying20,
  a20:=Tryz.isAgg20,
  z20:=Tryz.sizeOf20,
  v20:=Tryz.zeroValue20,
  t22:=Tryz.underlying54,
  a22:=Tryz.isAgg54,
  z22:=Tryz.sizeOf54,
  v22:=Tryz.zeroValue54}
theorem aE6:fT Tryz.prog 156:=⟨_,Tryz.func156,by kernel_rfl,by kernel_rfl⟩
theorem aEJ:(Tryz.prog.info? 3).map (λi=>(i.zero,i.size,i.bytes))=some (some (.int .i64 0),1,8):=by kernel_rfl
end
section
open Go Go.Proofs
theorem aE4 (l:List (List Int)) (hs:(bD l).length<=4294967296):bK Tryz.prog 106 [(aC l)] (aE (bD l)):=by
 refine pW Tryz.func106 aNR λhB=>?_;unfold aQn;dsimp only;refine aW<|aD<|aW<|aD<|aO<|aP<|bA J<|aD (nD λQ1 n1 x1 y1 z1 w1=>?_)
 refine aHd (λmm T H=> ∃ (k:Nat) (v0:Nat),mm=l.length - k/\T 0=(aC l)/\T 3=(iV (((bD<|l.take k).length:Nat):Int))/\T 9=(aC l)/\T 10=(iV ((l.length:Nat):Int))/\T 11=(iV ((k:Nat):Int))/\(H 0).ver=v0/\H 900=fL/\(k<=l.length)) ?_ ?_
 . 
  refine ⟨_,0,0,J,J,(bL (aM<|iV 0) JR),J,J,(bL (aM<|iV 0) J),(cE J),J,?_⟩
  . omega
 intro mm T H ⟨k,v0,hmm,t0,t3,t9,t10,t11,h0,h900,hk⟩ Q2 p12 p22 p32 p42;unfold aLJ;refine aW<|bZ t11 t10<|bR ?_
 refine aH J (λc3=>?_) λc3=>?_
 . 
  have hq:=uC (l:=l) (k:=k) OM;refine aB (nD λQ4 n4 x4 y4 z4 w4=>(aW<|dA (i:=k) t9 t11<|aL J J<|aD<|aW<|aJ t3<|aP<|bA J<|oC J J OM<|aD<|aW<|aP ?_));refine bZ J J<|bR ?_
  refine fN J (λc5=>?_) λc5=>?_
  . exfalso; omega
  refine dH<|n4 _ _ (.done (eI<|cF t11<|aD ?_))
  refine p12 _ _ _ ?_ ⟨(k+1),v0,J,t0,(bL (cO<|((bD<|l.take k).length)+(aA l k).length) (by (rw [rP OM,List.length_append]; done))),t9,t10,(bL (cO<|k+1) JR),h0,h900,?_⟩
  . omega
  . omega
 have hk2:(bD<|l.take k).length=(bD l).length:=by rw [show k=l.length by omega,List.take_length]
 refine aT<|p32 _ _ _<|x1 _ _ (.done (aW<|aJ t3<|gA (bO J<|bO J dQ) (aEc aGJ aE6 aEJ DE J (n:=((bD<|l.take k).length)) OM OM 900<|cE h900)<|aD<|aO<|aJ t0<|bA J<|aD (nD λQ6 n6 x6 y6 z6 w6=>?_)))
 refine aHd (λmm T H=> ∃ (j:Nat) (w:Nat),mm=l.length - j/\T 6=(V.ms 900 w 0<|(bD<|l.take j).length)/\T 25=(aC l)/\T 26=(iV ((l.length:Nat):Int))/\T 27=(iV ((j:Nat):Int))/\(H 0).ver=v0/\H 900=(⟨w,true,decide ((bD<|l.take k).length=0),3,1,(List.map cI<|bD<|l.take j)⟩:Blk)/\(j<=l.length)) ?_ ?_
 . 
  refine ⟨_,0,(0+1),J,(bL (aM<|V.ms 900 (0+1) 0 0) JR),J,J,(bL (aM<|iV 0) J),h0,(bL (@J Blk (⟨0+1,true,decide ((bD<|l.take k).length=0),3,1,[]⟩:Blk)) JR),?_⟩
  . omega
 intro mm T H ⟨j,w,hmm,t6,t25,t26,t27,h0,h900,hj⟩ Q7 p17 p27 p37 p47;unfold aJ0;refine aW<|bZ t27 t26<|bR ?_
 refine aH J (λc8=>?_) λc8=>?_
 . 
  have hq:=uC (l:=l) (k:=j) OM;refine aB (nD λQ9 n9 x9 y9 z9 w9=>(aW<|dA (i:=j) t25 t27<|aL J J<|aD<|eI<|aJ t6<|aP<|lQ (l:=(bD<|l.take j)) (m:=(aA l j)) (f:=cI) (aM<|V.ms 900 w 0<|(bD<|l.take j).length) h900 JR (aM<|aE<|aA l j) (λ_=>J) (λ_=>J) OM OM<|aD<|n9 _ _ (.done (eI ?_))));refine cF t27<|aD ?_
  refine p17 _ _ _ ?_ ⟨(j+1),(w+1),J,(bL (aM<|V.ms 900 (w+1) 0<|((bD<|l.take j).length)+(aA l j).length) (by (rw [rP OM,List.length_append]; done))),t25,t26,(bL (cO<|j+1) JR),h0,(bL (@J Blk (⟨w+1,true,decide ((bD<|l.take k).length=0),3,1,(List.map cI<|bD (l.take j)++(aA l j))⟩:Blk)) (by (rw [rP OM]; done))),?_⟩
  . omega
  . omega
 refine aT<|p37 _ _ _<|x6 _ _ (.done (aW<|aJ t6<|aD<|bF ?_))
 refine aZ (aM<|V.ms 900 w 0<|(bD<|l.take j).length)<|iK h900 SI (l:=(bD<|l.take j)) J JR (λ_=>by simp) ?_
 . rw [show j=l.length by omega,List.take_length]
theorem dP (l:List (List Int)) (hs:(bD l).length<=4294967296):bK Tryz.prog 58 [(aC l)] (aE (bD l)):=by
 refine' pK [] [] Tryz.func58 ?e λhB=>?_
 case e=>conv=>lhs; cbv
 dsimp only;refine aW<|aD<|aW<|aP<|aI (aE4 l hs) J<|aD<|bF ?_
 refine aZ (aM<|aE<|bD l)<|eM SI J
theorem uM (t:Dt) (hb:Bd t):bK Tryz.prog 96 [(V.agg [(V.sl (List.map cN t.nd))])] (aC (eP t.nd)):=by
 refine' pK [3] [] Tryz.func96 ?e λhB=>?_
 case e=>conv=>lhs; cbv
 dsimp only;have hbn:=hb.n;refine aW<|bS (i:=1) (n:=0) (m:=1) (cs:=[(V.sl<|List.map cN t.nd)]) J (cE J) J J J<|aD<|aW<|gG (i:=3) (n:=0) J (cE J)<|tA<|aW<|aX J J J J<|bA J<|aD (aG λQ1 n1 x1 y1 z1=>?_)
 refine cC (λmm T H=> ∃ (k:Nat) (v:Nat) (v5:Nat),mm=t.nd.length - k/\T 3=(V.ms 3 v 0<|(eP<|t.nd.take k).length)/\T 7=(V.sl<|List.map cN t.nd)/\T 8=(iV ((t.nd.length:Nat):Int))/\T 9=(iV ((k:Nat):Int))/\H 1=(bk 1 47 1 [[(V.sl<|List.map cN t.nd)]])/\H 3=(bz v 54 1<|List.map cL<|eP<|t.nd.take k)/\(H 5).ver=v5/\(k<=t.nd.length)) ?_ ?_
 . 
  refine ⟨_,0,1,0,J,(bL (aM<|V.ms 3 1 0 0) JR),J,J,(bL (aM<|iV 0) J),J,(bL (@J Blk<|bz 1 54 1 []) JR),(cE J),?_⟩
  . omega
 intro mm T H ⟨k,v,v5,hmm,t3,t7,t8,t9,h1,h3,h5,hk⟩ Q2 p12 p22 p32;have q1:=jS<|t.nd.take k
 have q2:(t.nd.take k).length<=k:=by simp; omega
 refine aW<|bZ t9 t8<|bR ?_
 refine aH J (λc3=>?_) λc3=>?_
 . 
  have r1:=hb.ac k OM;refine aB (aG λQ4 n4 x4 y4 z4=>(aW<|dA (i:=k) t7 t9<|aL J J<|bM (i:=5) (n:=v5) (m:=5) J h5 J<|bQ J J J J J J J J J<|qV<|aX J J J J<|bR ?_));refine mJ J (λc5=>?_) (λc5=>?_)
  . 
   have d1:(aA t.nd k).lf=true:=c5;refine eI<|aJ t3<|aX J J J J<|aS J J<|aI (dP ([(aA t.nd k).ac]) (by simp [bD]; omega)) J<|aS J J<|eX (l:=(eP<|t.nd.take k)) (f:=cL) (x:=(bD<|[(aA t.nd k).ac])) (aM<|V.ms 3 v 0<|(eP<|t.nd.take k).length) h3 JR (aM<|V.sl [[(aE<|bD<|[(aA t.nd k).ac])]])<|aD<|n4 _ _ (.done (eI<|cF t9<|aD ?_))
   refine p12 _ _ _ ?_ ⟨(k+1),(v+1),(v5+1),J,(bL (aM<|V.ms 3 (v+1) 0<|((eP<|t.nd.take k).length)+1) (by (rw [jF OM,if_pos (by assumption),List.length_append]; rfl))),t7,t8,(bL (cO<|k+1) JR),h1,(bL (@J Blk<|bz (v+1) 54 1<|List.map cL<|eP (t.nd.take k)++[bD ([(aA t.nd k).ac])]) (by (rw [jF OM,if_pos (by assumption)]; simp [bD]; done))),(cE J),?_⟩
   . omega
   . omega
  have d1: ¬(aA t.nd k).lf=true:=by simpa using c5
  refine dH<|n4 _ _ (.done (eI<|cF t9<|aD ?_))
  refine p12 _ _ _ ?_ ⟨(k+1),v,(v5+1),J,(bL t3 (by (rw [jF OM,if_neg (by assumption),List.append_nil]; done))),t7,t8,(bL (cO<|k+1) JR),h1,(bL h3 (by (rw [jF OM,if_neg (by assumption),List.append_nil]; done))),(cE J),?_⟩
  . omega
  . omega
 refine aT<|p32 _ _ _<|x1 _ _ (.done (aW<|aJ t3<|aD<|bF ?_))
 refine aZ (aM<|V.ms 3 v 0<|(eP<|t.nd.take k).length)<|iK h3 SI (l:=(eP<|t.nd.take k)) J JR (λ_=>by simp) ?_
 . rw [show k=t.nd.length by omega,List.take_length]
theorem aCe (n:Int):bK Tryz.prog 140 [(iV n)] (V.bool (decide (1<=n/\n<=1024))):=by
 refine' pK [] [] Tryz.func140 ?e λhB=>?_
 case e=>conv=>lhs; cbv
 dsimp only;refine aW<|aD<|aW<|aP<|iC J J<|aP ?_
 refine bU 3 (λT H=>T 8=(V.bool<|decide (((1:Int)<=n)/\(n<=(1024:Int))))/\True) ?_ ?_
 . 
  by_cases g1:(1:Int)<=n
  . 
   refine aN (bY g1 J)<|aP<|aN (bY g1 J)<|aFj J J<|bV (bY g1 J) J ?_
   exact ⟨(eT g1),trivial⟩
  . 
   refine bW (bX g1 J)<|bW (bX g1 J)<|bT (bX g1 J) J ?_
   exact ⟨(eU g1),trivial⟩
 intro T H ⟨t8,_⟩;refine aJ t8<|R_q ?_
 refine aZ (aM<|V.bool<|decide (((1:Int)<=n)/\(n<=(1024:Int))))<|cH ?_
 . first|rfl|omega|simp_all
def aPo:SF:=⟨9,[.tmp 4],.seq (.reg [sO 4 (.mv (.c (.bool false)))]) (.seq (.reg [qM 5 0,qM 6 1,sO 7 (.call false 180 [.t 5,.t 6]),qC 8 .geq 7 0,qM 4 8]) (.ret))⟩
theorem aMK:mO Tryz.prog ⟨[101,102,103,111,112,126,130,155,156,157,158,159,163,165,188,193,197,201],[],[],[]⟩ Tryz.f141=some aPo:=by kernel_rfl
def aLo:SC:=.seq (.reg [qP 9 .lss 8 7]) (.seq (.cond (.t 9) (.skip) (.exit 0)) (.seq (.block 1 (.seq (.reg [qM 10 8,qM 5 10]) (.seq (.reg [qM 11 1,qM 12 0,qM 13 5,qA 14 1 12 13,ql 15 14,sO 16 (.callv false (.t 11) [.t 15])]) (.cond (.t 16) (.seq (.reg [qM 17 5,qM 4 17]) (.ret)) (.skip))))) (.reg [qC 18 .add 8 1,qM 8 18])))
def aPd:SF:=⟨19,[.tmp 4],.seq (.reg [qI 4 0]) (.seq (.seq (.reg [qM 6 0,qN 7 6,qI 8 0]) (.block 0 (.loop aLo))) (.seq (.reg [sO 4 (.mv (.c (.int .i64 (-1))))]) (.ret)))⟩
theorem aM9:mO Tryz.prog ⟨[101,102,103,111,112,126,130,155,156,157,158,159,163,165,188,193,197,201],[],[],[]⟩ Tryz.f180=some aPd:=by kernel_rfl
theorem aIK (p:Int->Bool) (w:List Int) (g:Nat) (caps:List V) (hca:fC caps=true) (hpu:gF caps=true) (hq: ∀ k,k < w.length->bK Tryz.prog g (iV (aA w k)::caps) (.bool (p (aA w k)))):bK Tryz.prog 180 [(aE w),(V.fn g [] caps)] (iV (fi (λjx=>p (aA w jx)) 0 w.length)):=by
 refine nB true 6 Tryz.func180 aM9 (by kernel_rfl) (by simp [aPd]) (by simp [hpu]) SI λhB=>?_;simp only [mG,mB,jW,mF,mQ,pV,mD,kC,implies_true,and_true,true_and] at hB;unfold aPd;dsimp only;refine aW<|aD<|aO<|aP<|bA J<|aD (aG λQ1 n1 x1 y1 z1=>?_)
 refine cC (λmm T H=> ∃ (k:Nat),mm=w.length - k/\T 0=(aE w)/\T 1=(V.fn g [] caps)/\T 7=(iV ((w.length:Nat):Int))/\T 8=(iV ((k:Nat):Int))/\(k<=w.length)/\(fi (λj=>p<|aA w j) 0 w.length=fi (λj=>p<|aA w j) k (w.length - k))) ?_ ?_
 . 
  refine ⟨_,0,J,J,J,J,(bL (aM<|iV 0) J),?_,?_⟩
  . omega
  . rfl
 intro mm T H ⟨k,hmm,t0,t1,t7,t8,hk,hc⟩ Q2 p12 p22 p32;unfold aLo;refine aW<|bZ t8 t7<|bR ?_
 refine aH J (λc3=>?_) λc3=>?_
 . 
  refine aB (aG λQ4 n4 x4 y4 z4=>(aW<|aJ t8<|aD<|aW<|aJ t1<|aJ t0<|aP<|dA (i:=k) (aM<|aE w) (cO k)<|aL J J<|iP (aM<|V.fn g [] caps) (bO (aM<|iV<|aA w k) dQ) (hq k OM) (eF _ _ (by simp [hca])) (by simp [hpu]) (Or.inl (by simp [hpu]))<|bR ?_));refine mJ J (λc5=>?_) (λc5=>?_)
  . 
   have d1:=c5;refine aW<|aP<|aD<|bF<|y4 _ _<|p22 _ _<|y1 _ _ ?_
   refine aZ (cO k)<|aF ?_
   . rw [hc,mI (by exact d1) OM]
  have d1:=c5;refine dH<|n4 _ _ (.done (eI<|cF t8<|aD ?_))
  refine p12 _ _ _ ?_ ⟨(k+1),J,t0,t1,t7,(bL (cO<|k+1) JR),?_,?_⟩
  . omega
  . omega
  . rw [hc,kL (by exact d1) OM]
 refine aT<|p32 _ _ _<|x1 _ _ (.done (aW<|aD<|bF ?_))
 refine aZ (aM<|iV (-1))<|aF ?_
 . rw [hc,kD OM]
theorem aAk (p:Int->Bool) (w:List Int) (g:Nat) (caps:List V) (hca:fC caps=true) (hpu:gF caps=true) (hq: ∀ k,k < w.length->bK Tryz.prog g (iV (aA w k)::caps) (.bool (p (aA w k)))):bK Tryz.prog 141 [(aE w),(V.fn g [] caps)] (V.bool (decide (0<=fi (λjx=>p (aA w jx)) 0 w.length))):=by
 refine nB true 6 Tryz.func141 aMK (by kernel_rfl) (by simp [aPo]) (by simp [hpu]) SI λhB=>?_;simp only [mG,mB,jW,mF,mQ,pV,mD,kC,implies_true,and_true,true_and] at hB;unfold aPo;dsimp only;refine aW<|aD<|aW<|aP<|aP<|jN (bO (aM<|aE w)<|bO (aM<|V.fn g [] caps) dQ) (aIK p w g caps hca hpu hq) (eF _ _ (by simp [hca,hpu,-List.map_take,-List.map_drop,-List.map_append,-List.map_reverse])) (by simp [hca,hpu,-List.map_take,-List.map_drop,-List.map_append,-List.map_reverse]) (Or.inl (by simp [hca,hpu,-List.map_take,-List.map_drop,-List.map_append,-List.map_reverse]))<|iC J J<|aD<|bF ?_
 refine aZ (aM<|V.bool<|decide ((0:Int)<=(fi (λjx=>p<|aA w jx) 0 w.length)))<|cH ?_
 . first|rfl|omega|simp_all
theorem aES (a n:Int):bK Tryz.prog 142 [(iV a),(V.pp [(iV n)])] (V.bool (decide (a < 0\/n<=a))):=by
 refine' pK [] [] Tryz.func142 ?e λhB=>?_
 case e=>conv=>lhs; cbv
 dsimp only;refine aW<|aD<|aW<|aP<|bZ J J<|aP ?_
 refine bU 4 (λT H=>T 10=(V.bool<|decide ((a < (0:Int))\/(n<=a)))/\True) ?_ ?_
 . 
  by_cases g1:a < (0:Int)
  . 
   refine bW (bY g1 J)<|bW (bY g1 J)<|bW (bY g1 J)<|bV (bY g1 J) J ?_
   exact ⟨(dZ g1),trivial⟩
  . 
   refine aN (bX g1 J)<|aP<|aN (bX g1 J)<|aL J J<|aN (bX g1 J)<|iC J J<|bT (bX g1 J) J ?_
   exact ⟨(dX g1),trivial⟩
 intro T H ⟨t10,_⟩;refine aJ t10<|R_q ?_
 refine aZ (aM<|V.bool<|decide ((a < (0:Int))\/(n<=a)))<|cH ?_
 . first|rfl|omega|simp_all
theorem gL (w:List Int) (n:Int):bK Tryz.prog 94 [(aE w),(iV n)] (iV (dG w n)):=by
 refine' pK [] [] Tryz.func94 ?e λhB=>?_
 case e=>conv=>lhs; cbv
 dsimp only;refine aW<|bS (i:=3) (n:=0) (m:=1) (cs:=[(iV n)]) J (cE J) J J J<|aD (aG λQ1 n1 x1 y1 z1=>(aW<|aV J J J J<|aI (aCe n) J<|qT J<|aD ?_))
 refine fN J (λc2=>?_) λc2=>?_
 . 
  refine aW<|aD<|bF<|y1 _ _ ?_
  refine aZ (aM<|iV 2)<|aF ?_
  . rw [dG,if_pos OM]
 refine aW<|aP<|bA J<|eD J J<|aD ?_
 refine fN J (λc3=>?_) λc3=>?_
 . 
  refine aW<|aD<|bF<|y1 _ _ ?_
  refine aZ (aM<|iV 3)<|aF ?_
  . rw [dG,if_neg OM,if_pos OM]
 refine aW<|aP<|yG (bO J dQ)<|jN (bO (aM<|aE w)<|bO (aM<|V.fn 142 [] [(cG 3)]) dQ) (aAk (λa=>decide (a < 0\/n<=a)) w 142 ([(V.pp [(iV n)])]) SI SI (λk _=>aES (aA w k) n)) (cZ (dM 6 _ (by simp [-List.map_take,-List.map_drop,-List.map_append,-List.map_reverse]))<|cZ JR J) (by simp [-List.map_take,-List.map_drop,-List.map_append,-List.map_reverse]) (Or.inr J)<|aD ?_
 refine fN (p:=0<=fi (λjx=>(λa=>decide (a < 0\/n<=a)) (aA w jx)) 0 w.length) J (λc4=>?_) (λc4=>?_)
 . 
  refine aW<|aD<|bF<|y1 _ _ ?_
  refine aZ (aM<|iV 1)<|aF ?_
  . have e:(0<=fi (λj=>(λa=>decide (a < 0\/n<=a)) (aA w j)) 0 w.length↔fe (wE w n) 0 w.length=1)/\(fe (wE w n) 0 w.length=0\/fe (wE w n) 0 w.length=1):=aOm w n w.length 0
    rw [dG,if_neg OM,if_neg OM]; omega
 refine dH<|n1 _ _ (.done (aW<|aD<|bF ?_))
 refine aZ (aM<|iV 0)<|aF ?_
 . have e:(0<=fi (λj=>(λa=>decide (a < 0\/n<=a)) (aA w j)) 0 w.length↔fe (wE w n) 0 w.length=1)/\(fe (wE w n) 0 w.length=0\/fe (wE w n) 0 w.length=1):=aOm w n w.length 0
   rw [dG,if_neg OM,if_neg OM]; omega
theorem aJj (x:Nd) (hs:x.sf.length<=1048576) (ho:x.ou.length<=1048576) (hk:x.kd.length<=1048576):bK Tryz.prog 137 [(V.agg (cN x))] (iV (lfE x)):=by
 refine' pK [] [] Tryz.func137 ?e λhB=>?_
 case e=>conv=>lhs; cbv
 dsimp only;refine aW<|bS (i:=1) (n:=0) (m:=5) (cs:=[(V.bool x.lf),(aE x.ac),(aE x.sf),(aC x.ou),(aE x.kd)]) J (cE J) J J J<|aD<|aO<|aX J J J J<|bA J<|aX J J J J<|bA J<|oC J J OM<|aX J J J J<|bA J ?_
 refine oC J J OM<|eD J J<|bR ?_
 refine aH J (λc1=>?_) λc1=>?_
 . 
  refine aO<|aD<|aK ?_
  refine aZ (aM<|iV 1)<|aF ?_
  . rw [lfE,if_pos OM]
 refine aB<|aW<|aX J J J J<|aI (gL x.ac (64:Int)) J<|aD<|bF ?_
 refine aZ (aM<|iV<|dG x.ac (64:Int))<|aF ?_
 . rw [lfE,if_neg OM]
theorem aDg (o:Int):bK Tryz.prog 144 [(iV o)] (V.bool (decide (o < 0\/1048576 < o))):=by
 refine' pK [] [] Tryz.func144 ?e λhB=>?_
 case e=>conv=>lhs; cbv
 dsimp only;refine aW<|aD<|aW<|aP<|bZ J J<|aP ?_
 refine bU 3 (λT H=>T 8=(V.bool<|decide ((o < (0:Int))\/((1048576:Int) < o)))/\True) ?_ ?_
 . 
  by_cases g1:o < (0:Int)
  . 
   refine bW (bY g1 J)<|bW (bY g1 J)<|bV (bY g1 J) J ?_
   exact ⟨(dZ g1),trivial⟩
  . 
   refine aN (bX g1 J)<|aP<|aN (bX g1 J)<|eD J J<|bT (bX g1 J) J ?_
   exact ⟨(dX g1),trivial⟩
 intro T H ⟨t8,_⟩;refine aJ t8<|R_q ?_
 refine aZ (aM<|V.bool<|decide ((o < (0:Int))\/((1048576:Int) < o)))<|cH ?_
 . first|rfl|exact decide_eq_decide.2 OM
theorem qW (aQ suffix:List Int):bK Tryz.prog 98 [(aE aQ),(aE suffix)] (iV (sJ aQ suffix)):=by
 refine' pK [] [] Tryz.func98 ?e λhB=>?_
 case e=>conv=>lhs; cbv
 dsimp only;refine aW<|aD<|aO<|aP<|bA J<|aP<|bA J<|bP J J<|bR ?_
 refine aH J (λc1=>?_) λc1=>?_
 . 
  refine aO<|aD<|aK ?_
  refine aZ (aM<|iV 1)<|aF ?_
  . rw [sJ,if_pos OM]
 refine aB<|aO<|aP<|aI (aAk (λa=>decide (a < 0\/1048576 < a)) aQ 144 ([]) SI SI (λk _=>aDg<|aA aQ k)) J<|bR ?_
 refine aH (p:=0<=fi (λjx=>(λa=>decide (a < 0\/1048576 < a)) (aA aQ jx)) 0 aQ.length) J (λc2=>?_) (λc2=>?_)
 . 
  refine aO<|aD<|aK ?_
  refine aZ (aM<|iV 2)<|aF ?_
  . have e:=aOB aQ
    rw [sJ,if_neg OM]; omega
 refine aB<|aW<|aD<|bF ?_
 refine aZ (aM<|iV 0)<|aF ?_
 . have e:=aOB aQ
   rw [sJ,if_neg OM]; omega
theorem aF6 (x:Nd) (n:Nat) (ho:x.ou.length<=1048576):bK Tryz.prog 138 [(V.agg (cN x)),(iV ((n:Nat):Int))] (iV (oO x n)):=by
 refine' pK [] [] Tryz.func138 ?e λhB=>?_
 case e=>conv=>lhs; cbv
 dsimp only;refine aW<|bS (i:=2) (n:=0) (m:=5) (cs:=[(V.bool x.lf),(aE x.ac),(aE x.sf),(aC x.ou),(aE x.kd)]) J (cE J) J J J<|aD (aG λQ1 n1 x1 y1 z1=>(aW<|aX J J J J<|bA J<|eD J J<|aD ?_))
 refine fN J (λc2=>?_) λc2=>?_
 . 
  refine aW<|aD<|bF<|y1 _ _ ?_
  refine aZ (aM<|iV 1)<|aF ?_
  . rw [oO,if_pos OM]
 refine aW<|aX J J J J<|bA J<|eV J J<|aD ?_
 refine fN J (λc3=>?_) λc3=>?_
 . 
  refine aW<|aD<|bF<|y1 _ _ ?_
  refine aZ (aM<|iV 19)<|aF ?_
  . rw [oO,if_neg OM,if_pos OM]
 refine dH<|n1 _ _ (.done (aO<|aX J J J J<|aI (gL x.sf (64:Int)) J<|aD<|aO<|aP<|bP J J<|bR ?_))
 refine aH J (λc4=>?_) λc4=>?_
 . 
  refine aO<|aP<|aD<|aK ?_
  refine aZ (aM<|iV<|dG x.sf (64:Int))<|aF ?_
  . rw [oO,if_neg OM,if_neg OM,if_pos OM]
 refine aB<|aO<|aX J J J J<|bA J<|aX J J J J<|bA J<|bP J J<|bR ?_
 refine aH J (λc5=>?_) λc5=>?_
 . 
  refine aO<|aD<|aK ?_
  refine aZ (aM<|iV 1)<|aF ?_
  . rw [oO,if_neg OM,if_neg OM,if_neg OM,if_pos OM]
 refine aB<|aO<|aX J J J J<|bA J<|aD (aG λQ6 n6 x6 y6 z6=>?_)
 refine cC (λmm T H=> ∃ (k:Nat),mm=x.ou.length - k/\T 1=(iV ((n:Nat):Int))/\T 2=(cG 2)/\T 33=(aC x.ou)/\T 34=(iV ((x.ou.length:Nat):Int))/\T 35=(iV ((k:Nat):Int))/\H 2=(bk 1 108 5 [(cN x)])/\(k<=x.ou.length)/\(x.ou.length=x.kd.length)/\(x.ac.length=0)/\(x.sf.length≠0)/\(dG x.sf 64=0)/\(fe (chE x n) 0 x.ou.length=fe (chE x n) k (x.ou.length - k))) ?_ ?_
 . 
  refine ⟨_,0,J,J,J,J,J,(bL (aM<|iV 0) J),J,?_,?_,?_,?_,?_,?_⟩
  . omega
  . omega
  . omega
  . omega
  . omega
  . rfl
 intro mm T H ⟨k,hmm,t1,t2,t33,t34,t35,h2,hk,hl,ga,gs,gw,hc⟩ Q7 p17 p27 p37;refine aW<|bZ t35 t34<|bR ?_
 refine aH J (λc8=>?_) λc8=>?_
 . 
  refine aB (aG λQ9 n9 x9 y9 z9=>(aW<|aJ t35<|dA (i:=k) t33 t35<|aL J J<|aP<|aD<|aO<|aP<|aX t2 h2 J J<|aI (qW (aA x.ou k) x.sf) J<|aP ?_));refine tA<|aW<|aP<|bP J J<|bR ?_
  refine aH J (λc10=>?_) λc10=>?_
  . 
   refine aO<|aP<|aD<|aK<|y9 _ _<|p27 _ _<|y6 _ _ ?_
   refine aZ (aM<|iV<|sJ (aA x.ou k) x.sf)<|aF ?_
   . rw [oO,if_neg OM,if_neg OM,if_neg OM,if_neg OM,hc,fV (by rw [chE,if_pos OM]; omega) OM,chE,if_pos OM]
  refine aB<|aO<|aP<|eD J J<|aP ?_
  refine bU 10 (λT H=>T 1=(iV ((n:Nat):Int))/\T 2=(cG 2)/\T 6=(iV ((k:Nat):Int))/\T 33=(aC x.ou)/\T 34=(iV ((x.ou.length:Nat):Int))/\T 35=(iV ((k:Nat):Int))/\T 59=(V.bool<|decide (((0:Int) < ((k:Nat):Int))/\((0:Int)<=(cY (aA x.ou (((k:Nat):Int) - (1:Int)).toNat)<|aA x.ou k))))/\H 2=(bk 1 108 5 [(cN x)])/\True) ?_ ?_
  . 
   by_cases g11:(0:Int) < ((k:Nat):Int)
   . 
    refine aN (bY g11 J)<|cM t2 h2<|aN (bY g11 J)<|aV J h2 J J<|aN (bY g11 J)<|aP<|aN (bY g11 J)<|mP J J OM OM<|aN (bY g11 J)<|dR (i:=(((k:Nat):Int) - (1:Int))) (aM<|aC x.ou) (aM<|iV<|((k:Nat):Int) - (1:Int)) OM OM J<|aN (bY g11 J)<|aL J J<|aN (bY g11 J)<|aP<|aN (bY g11 J)<|aI (rN (aA x.ou (((k:Nat):Int) - (1:Int)).toNat)<|aA x.ou k) J ?_
    refine aN (bY g11 J)<|iC J J<|bV (bY g11 J) J ?_
    exact ⟨t1,t2,J,t33,t34,t35,(eT g11),h2,trivial⟩
   . 
    refine bW (bX g11 J)<|bW (bX g11 J)<|bW (bX g11 J)<|bW (bX g11 J)<|bW (bX g11 J)<|bW (bX g11 J)<|bW (bX g11 J)<|bW (bX g11 J)<|bW (bX g11 J)<|bT (bX g11 J) J ?_
    exact ⟨t1,t2,J,t33,t34,t35,(eU g11),h2,trivial⟩
  intro T H ⟨t1,t2,t6,t33,t34,t35,t59,h2,_⟩;refine bR ?_;refine aH t59 (λc12=>?_) λc12=>?_
  . 
   have d2:0 < k/\0<=cY (aA x.ou<|k - 1) (aA x.ou k):=by have q:=c12; rw [show (((k:Nat):Int) - (1:Int)).toNat=k - 1 by omega] at q; omega
   refine aO<|aD<|aK<|y9 _ _<|p27 _ _<|y6 _ _ ?_
   refine aZ (aM<|iV 10)<|aF ?_
   . rw [oO,if_neg OM,if_neg OM,if_neg OM,if_neg OM,hc,fV (by rw [chE,if_neg OM,if_pos d2]; omega) OM,chE,if_neg OM,if_pos d2]
  have d2: ¬(0 < k/\0<=cY (aA x.ou<|k - 1) (aA x.ou k)):=by have q:=c12; rw [show (((k:Nat):Int) - (1:Int)).toNat=k - 1 by omega] at q; omega
  refine aB<|aW<|aX t2 h2 J J<|aJ t6<|dA (i:=k) (aM<|aE x.kd) (cO k)<|aL J J<|bZ J J<|aP ?_
  refine bU 8 (λT H=>T 1=(iV ((n:Nat):Int))/\T 2=(cG 2)/\T 33=(aC x.ou)/\T 34=(iV ((x.ou.length:Nat):Int))/\T 35=(iV ((k:Nat):Int))/\T 74=(V.bool<|decide (((aA x.kd k) < (0:Int))\/(((n:Nat):Int)<=(aA x.kd k))))/\H 2=(bk 1 108 5 [(cN x)])/\True) ?_ ?_
  . 
   by_cases g13:(aA x.kd k) < (0:Int)
   . 
    refine bW (bY g13 J)<|bW (bY g13 J)<|bW (bY g13 J)<|bW (bY g13 J)<|bW (bY g13 J)<|bW (bY g13 J)<|bW (bY g13 J)<|bV (bY g13 J) J ?_
    exact ⟨t1,t2,t33,t34,t35,(dZ g13),h2,trivial⟩
   . 
    refine aN (bX g13 J)<|cM t2 h2<|aN (bX g13 J)<|aV J h2 J J<|aN (bX g13 J)<|aJ t6<|aN (bX g13 J)<|dA (i:=k) (aM<|aE x.kd) (cO k)<|aN (bX g13 J)<|aL J J<|aN (bX g13 J)<|aJ t1<|aN (bX g13 J)<|iC J J<|bT (bX g13 J) J ?_
    exact ⟨t1,t2,t33,t34,t35,(dX g13),h2,trivial⟩
  intro T H ⟨t1,t2,t33,t34,t35,t74,h2,_⟩;refine bR ?_;refine fN t74 (λc14=>?_) λc14=>?_
  . 
   refine aW<|aD<|bF<|y9 _ _<|p27 _ _<|y6 _ _ ?_
   refine aZ (aM<|iV 2)<|aF ?_
   . rw [oO,if_neg OM,if_neg OM,if_neg OM,if_neg OM,hc,fV (by rw [chE,if_neg OM,if_neg d2,if_pos OM]; omega) OM,chE,if_neg OM,if_neg d2,if_pos OM]
  refine dH<|n9 _ _ (.done (eI<|cF t35<|aD ?_))
  refine p17 _ _ _ ?_ ⟨(k+1),J,t1,t2,t33,t34,(bL (cO<|k+1) JR),h2,?_,?_,?_,?_,?_,?_⟩
  . omega
  . omega
  . omega
  . omega
  . omega
  . omega
  . rw [hc,fW (by rw [chE,if_neg OM,if_neg d2,if_neg OM]) OM]
 refine aT<|p37 _ _ _<|x6 _ _ (.done (aW<|aD<|bF ?_))
 refine aZ (aM<|iV 0)<|aF ?_
 . rw [oO,if_neg OM,if_neg OM,if_neg OM,if_neg OM,hc,iM OM]
end
section
open Go Go.Proofs
attribute [local irreducible] aBJ
theorem aCd (t:Dt) (hk:KI t) (hb:Bd t):bK Tryz.prog 139 [(V.agg [(V.sl (List.map cN t.nd))])] (V.bool (coB t)):=by
 refine' pK [11] [] Tryz.func139 ?e λhB=>?_
 case e=>conv=>lhs; cbv
 dsimp only;have hp:=hk.pos;have hbn:=hb.n;refine aW<|bS (i:=1) (n:=0) (m:=1) (cs:=[(V.sl<|List.map cN t.nd)]) J (cE J) J J J<|aD<|aW<|aX J J J J<|bA J<|aD6 (i:=10) (n:=0) (m:=t.nd.length) (q:=t.nd.length) (f:=cB) (x:=false) J (cE J) (cO t.nd.length) (cO t.nd.length) J OM OM OM<|aD<|aW<|gE (i:=11) (n:=0) (qs:=[(0,(iV 0))]) (rows:=[[(iV 0)]]) J (cE J) (cZ (congrArg (λv=>(0,v)) J) J) J<|aD<|cS ?_
 refine aW<|aD (aG λQ1 n1 x1 y1 z1=>?_)
 refine cC (λmm T H=> ∃ (k:Nat) (w:Nat) (P:RS),mm=t.nd.length+1 - k/\T 1=(cG 1)/\T 3=(V.ms 10 1 0 t.nd.length)/\T 4=(V.ms 11 w 0 P.1.length)/\T 5=(iV ((k:Nat):Int))/\H 1=(bk 1 47 1 [[(V.sl<|List.map cN t.nd)]])/\H 10=(bk 1 4 1<|List.map cB P.2)/\H 11=(bk w 3 1<|List.map cI P.1)/\(k<=P.1.length)/\(CI t P)/\(coN t (t.nd.length+1) 0 (co0 t)=coN t (t.nd.length+1 - k) k P)) ?_ ?_
 . 
  refine ⟨_,0,1,(co0 t),J,J,J,(bL (aM<|V.ms 11 1 0 1) JR),(bL (aM<|iV 0) J),J,(bL (@J Blk<|bk 1 4 1<|List.map cB<|List.replicate t.nd.length false) JR),(bL (@J Blk<|bk 1 3 1 [[(iV 0)]]) JR),?_,?_,?_⟩
  . exact Nat.zero_le _
  . exact ci0 hk
  . rfl
 intro mm T H ⟨k,w,P,hmm,t1,t3,t4,t5,h1,h10,h11,hk2,hi,hc⟩ Q2 p12 p22 p32;have hi1:=hi.l1;have hi2:=hi.l2;refine aO<|aJ t5<|aJ t4<|dW J h11 SI<|bZ J J<|bR ?_
 refine aH J (λc3=>?_) λc3=>?_
 . 
  have r1:=hi.rg _<|cW (show k < P.1.length by omega)
  have r2:=hb.kd _ (show (aA P.1 k).toNat < t.nd.length by omega);have r3:(qS t P.1 k).length=P.1.length+(aA t.nd (aA P.1 k).toNat).kd.length:=by unfold qS; rw [List.length_append]
  refine aB (aG λQ4 n4 x4 y4 z4=>(aW<|aJ t4<|aJ t5<|dC (i:=k) (aM<|V.ms 11 w 0 P.1.length) (cO k) h11 oB J OM<|cQ (v:=(iV<|aA P.1 k)) J h11 (dS OM JR)<|aD<|aO<|aJ t3<|aP<|dV (i:=(aA P.1 k)) (aM<|V.ms 10 1 0 t.nd.length) (aM<|iV<|aA P.1 k) h10 oB J OM OM<|cQ (v:=(V.bool<|aA P.2<|(aA P.1 k).toNat)) J h10 (dS OM JR)<|bR ?_));refine cU J (λc5=>?_) (λc5=>?_)
  . 
   have d2:aA P.2 (aA P.1 k).toNat=true:=c5;refine aO<|aD<|aK<|y4 _ _<|p22 _ _<|y1 _ _ ?_
   refine aZ (aM<|V.bool false)<|cH ?_
   . rw [aFg (by rw [hc]; exact aPF OM OM d2)]
  have d2:aA P.2 (aA P.1 k).toNat=false:=by simpa using c5
  refine aB<|aW<|aJ t3<|aP<|dV (i:=(aA P.1 k)) (aM<|V.ms 10 1 0 t.nd.length) (aM<|iV<|aA P.1 k) h10 oB J OM OM<|dU (vs:=[(V.bool true)]) (B':=(bk 1 4 1<|List.map cB<|P.2.set ((aA P.1 k).toNat) true)) J J J h10 (iQ (x:=true) (i:=((aA P.1 k).toNat)) OM J J J J)<|qV<|aJ t4<|aX t1 h1 J J<|aP<|dR (i:=(aA P.1 k)) (aM<|V.sl<|List.map cN t.nd) (aM<|iV<|aA P.1 k) OM OM J<|dB (cs':=[(aE<|(aA t.nd (aA P.1 k).toNat).kd)]) J J<|aL J J<|lQ (l:=P.1) (m:=((aA t.nd (aA P.1 k).toNat).kd)) (f:=cI) (aM<|V.ms 11 w 0 P.1.length) h11 JR (aM<|aE<|(aA t.nd (aA P.1 k).toNat).kd) (λ_=>J) (λ_=>J) OM OM ?_
  refine aD<|aW<|aP<|dW J (@J Blk<|bk (w+1) 3 1<|List.map cI<|P.1++((aA t.nd (aA P.1 k).toNat).kd)) SI<|aX t1 h1 J J<|bA J<|eD J J<|bR ?_
  refine fN J (λc6=>?_) λc6=>?_
  . 
   have d3:=c6;refine aW<|aD<|bF<|y4 _ _<|p22 _ _<|y1 _ _ ?_
   refine aZ (aM<|V.bool false)<|cH ?_
   . rw [aFg (by rw [hc]; exact aOX OM OM d2 OM)]
  have d3:=c6;refine dH<|n4 _ _ (.done (eI<|aJ t5<|cF J<|aD ?_))
  refine p12 _ _ _ ?_ ⟨(k+1),(w+1),(cSt t P k),J,t1,t3,(bL (aM<|V.ms 11 (w+1) 0<|P.1.length+((aA t.nd (aA P.1 k).toNat).kd).length) (by (rw [show (cSt t P k).1.length=(qS t P.1 k).length from J,r3]; done))),(bL (cO<|k+1) JR),h1,(bL (@J Blk<|bk 1 4 1<|List.map cB<|P.2.set ((aA P.1 k).toNat) true) JR),(bL (@J Blk<|bk (w+1) 3 1<|List.map cI<|P.1++((aA t.nd (aA P.1 k).toNat).kd)) JR),?_,?_,?_⟩
  . omega
  . show k+1<=(P.1++_).length; rw [List.length_append]; omega
  . exact hi.step hk OM OM
  . rw [hc,aPP OM OM d2 OM]
 refine aT<|p32 _ _ _<|x1 _ _ (.done (aW<|aJ t4<|dW J h11 SI<|aX t1 h1 J J<|bA J<|eV J J<|aD<|bF ?_))
 refine aZ (aM<|V.bool<|decide (((P.1.length:Nat):Int)=((t.nd.length:Nat):Int)))<|cH ?_
 . rw [aKs (by rw [hc]; exact aPv OM OM)]; exact decide_eq_decide.2 OM
end
section
open Go Go.Proofs
theorem nU (t:Dt) (hb:Bd t):bK Tryz.prog 93 [(V.agg [(V.sl (List.map cN t.nd))])] (iV (gU t)):=by
 refine' pK [] [] Tryz.func93 ?e λhB=>?_
 case e=>conv=>lhs; cbv
 dsimp only;refine aW<|bS (i:=1) (n:=0) (m:=1) (cs:=[(V.sl<|List.map cN t.nd)]) J (cE J) J J J<|aD (aG λQ1 n1 x1 y1 z1=>(aW<|aX J J J J<|bA J<|eV J J<|aD ?_))
 refine fN J (λc2=>?_) λc2=>?_
 . 
  refine aW<|aD<|bF<|y1 _ _ ?_
  refine aZ (aM<|iV 19)<|aF ?_
  . rw [gU,if_pos OM]
 refine aW<|aX J J J J<|bA J<|eD J J<|aD ?_
 refine fN J (λc3=>?_) λc3=>?_
 . 
  refine aW<|aD<|bF<|y1 _ _ ?_
  refine aZ (aM<|iV 11)<|aF ?_
  . rw [gU,if_neg OM,if_pos OM]
 refine dH<|n1 _ _ (.done (aO<|aX J J J J<|bA J<|aD (aG λQ4 n4 x4 y4 z4=>?_)))
 refine cC (λmm T H=> ∃ (k:Nat) (v4:Nat),mm=t.nd.length - k/\T 1=(cG 1)/\T 18=(V.sl<|List.map cN t.nd)/\T 19=(iV ((t.nd.length:Nat):Int))/\T 20=(iV ((k:Nat):Int))/\H 1=(bk 1 47 1 [[(V.sl<|List.map cN t.nd)]])/\(H 4).ver=v4/\(k<=t.nd.length)/\(0 < t.nd.length)/\(t.nd.length<=4096)/\(∀ j,j < k->lW (aA t.nd j) t.nd.length=0)/\(fe (λk=>lW (aA t.nd k) t.nd.length) 0 t.nd.length=fe (λk=>lW (aA t.nd k) t.nd.length) k (t.nd.length - k))) ?_ ?_
 . 
  refine ⟨_,0,0,J,J,J,J,(bL (aM<|iV 0) J),J,(cE J),?_,?_,?_,?_,?_⟩
  . omega
  . omega
  . omega
  . intro j hj; omega
  . rfl
 intro mm T H ⟨k,v4,hmm,t1,t18,t19,t20,h1,h4,hk,g0,g1,hp,hc⟩ Q5 p15 p25 p35;refine aW<|bZ t20 t19<|bR ?_
 refine aH J (λc6=>?_) λc6=>?_
 . 
  have r1:=hb.sf k OM;have r2:=hb.ou k OM;have r3:=hb.kd k OM;refine aB (aG λQ7 n7 x7 y7 z7=>(aW<|dA (i:=k) t18 t20<|aL J J<|bM (i:=4) (n:=v4) (m:=5) J h4 J<|bQ J J J J J J J J J<|qV<|aD<|aO<|aX J J J J<|bR ?_));refine cU J (λc8=>?_) (λc8=>?_)
  . 
   have d0:(aA t.nd k).lf=true:=c8;have e0:lW (aA t.nd k) t.nd.length=lfE (aA t.nd k):=by rw [lW,if_pos d0]
   refine aW<|aV J J J J<|aI (aJj (aA t.nd k) OM OM OM) J<|aD<|aW<|aP<|bP J J<|bR ?_
   refine fN J (λc9=>?_) λc9=>?_
   . 
    have d1:lW (aA t.nd k) t.nd.length≠0:=by rw [e0]; exact c9
    refine aW<|aP<|aD<|bF<|y7 _ _<|p25 _ _<|y4 _ _ ?_
    refine aZ (aM<|iV<|lfE<|aA t.nd k)<|aF ?_
    . have e:fe (λk=>lW (aA t.nd k) t.nd.length) 0 t.nd.length=lW (aA t.nd k) t.nd.length:=by rw [hc]; exact fV (e:=λk=>lW (aA t.nd k) t.nd.length) d1 OM
      rw [gU,if_neg OM,if_neg OM,if_pos (by rw [e]; exact d1),e,e0]
   have d1:lW (aA t.nd k) t.nd.length=0:=by rw [e0]; omega
   refine dH<|n7 _ _ (.done (eI<|cF t20<|aD ?_))
   refine p15 _ _ _ ?_ ⟨(k+1),(v4+1),J,t1,t18,t19,(bL (cO<|k+1) JR),h1,(cE J),?_,?_,?_,?_,?_⟩
   . omega
   . omega
   . omega
   . omega
   . intro i hi
     by_cases e:i=k
     . subst e; exact d1
     . exact hp i OM
   . rw [hc,fW (e:=λk=>lW (aA t.nd k) t.nd.length) (by exact d1) OM]
  have d0:(aA t.nd k).lf=false:=by simpa using c8
  have e0:lW (aA t.nd k) t.nd.length=oO (aA t.nd k) t.nd.length:=by rw [lW,if_neg (by simp [d0])]
  refine aW<|aV J J J J<|aX t1 h1 J J<|bA J<|aI (aF6 (aA t.nd k) t.nd.length OM) J<|aD<|aW<|aP<|bP J J<|bR ?_
  refine fN J (λc10=>?_) λc10=>?_
  . 
   have d1:lW (aA t.nd k) t.nd.length≠0:=by rw [e0]; exact c10
   refine aW<|aP<|aD<|bF<|y7 _ _<|p25 _ _<|y4 _ _ ?_
   refine aZ (aM<|iV<|oO (aA t.nd k) t.nd.length)<|aF ?_
   . have e:fe (λk=>lW (aA t.nd k) t.nd.length) 0 t.nd.length=lW (aA t.nd k) t.nd.length:=by rw [hc]; exact fV (e:=λk=>lW (aA t.nd k) t.nd.length) d1 OM
     rw [gU,if_neg OM,if_neg OM,if_pos (by rw [e]; exact d1),e,e0]
  have d1:lW (aA t.nd k) t.nd.length=0:=by rw [e0]; omega
  refine dH<|n7 _ _ (.done (eI<|cF t20<|aD ?_))
  refine p15 _ _ _ ?_ ⟨(k+1),(v4+1),J,t1,t18,t19,(bL (cO<|k+1) JR),h1,(cE J),?_,?_,?_,?_,?_⟩
  . omega
  . omega
  . omega
  . omega
  . intro i hi
    by_cases e:i=k
    . subst e; exact d1
    . exact hp i OM
  . rw [hc,fW (e:=λk=>lW (aA t.nd k) t.nd.length) (by exact d1) OM]
 have hall: ∀ j,j < t.nd.length->lW (aA t.nd j) t.nd.length=0:=λj hj=>hp j OM
 have hki:KI t:=aEa g0 hall;have hz:fe (λk=>lW (aA t.nd k) t.nd.length) 0 t.nd.length=0:=by rw [hc,iM OM]
 have haw: ∀ w∈eP t.nd,w.length<=1048576:=aBU hb;have hal:=jS t.nd;refine aT<|p35 _ _ _<|x4 _ _ (.done (aO<|aV t1 h1 J J<|aI (aCd t hki hb) J<|fF J<|bR ?_))
 refine cU J (λc11=>?_) (λc11=>?_)
 . 
  have d3:whB t=false:=by rw [<- aN8 hki]; simpa using c11
  refine aO<|aD<|aK ?_
  refine aZ (aM<|iV 1)<|aF ?_
  . rw [gU,if_neg OM,if_neg OM,if_neg (by rw [hz]; simp),if_pos d3]
 have d3:whB t=true:=by rw [<- aN8 hki]; simpa using c11
 refine aB<|aO<|aV t1 h1 J J<|aI (uM t hb) J<|aD<|aO<|aP<|aI (uX (eP t.nd) OM haw) J<|bA J<|aP<|bA J<|bP J J<|bR ?_
 refine aH J (λc12=>?_) λc12=>?_
 . 
  refine aO<|aD<|aK ?_
  refine aZ (aM<|iV 7)<|aF ?_
  . rw [gU,if_neg OM,if_neg OM,if_neg (by rw [hz]; simp),if_neg (by simp [d3]),if_pos OM]
 refine aB<|aW<|aD<|bF ?_
 refine aZ (aM<|iV 0)<|aF ?_
 . rw [gU,if_neg OM,if_neg OM,if_neg (by rw [hz]; simp),if_neg (by simp [d3]),if_neg OM]
theorem uJ (l:Ts) (o:Ob) (hb:Bd l.t):bK Tryz.prog 47 [(V.agg [(iV l.i),(V.sl (List.map cN l.t.nd)),(iV o.i),(V.sl (List.map cT o.tr))])] (iV (jL l o)):=by
 refine' pK [] [] Tryz.func47 ?e λhB=>?_
 case e=>conv=>lhs; cbv
 dsimp only;refine aW<|bS (i:=1) (n:=0) (m:=4) (cs:=[(iV l.i),(V.sl<|List.map cN l.t.nd),(iV o.i),(V.sl<|List.map cT o.tr)]) J (cE J) J J J<|aD<|aO<|cM J J<|aX J J J J<|bZ J J<|aP ?_
 refine bU 5 (λT H=>T 1=(cG 1)/\T 19=(V.bool<|decide ((l.i < (1:Int))\/((64:Int) < l.i)))/\H 1=(bk 1 66 4 [[(iV l.i),(V.sl<|List.map cN l.t.nd),(iV o.i),(V.sl<|List.map cT o.tr)]])/\H 7=fL/\True) ?_ ?_
 . 
  by_cases g1:l.i < (1:Int)
  . 
   refine bW (bY g1 J)<|bW (bY g1 J)<|bW (bY g1 J)<|bW (bY g1 J)<|bV (bY g1 J) J ?_
   exact ⟨J,(dZ g1),J,J,trivial⟩
  . 
   refine aN (bX g1 J)<|cM J J<|aN (bX g1 J)<|cM J J<|aN (bX g1 J)<|aV J J J J<|aN (bX g1 J)<|eD J J<|bT (bX g1 J) J ?_
   exact ⟨J,(dX g1),J,J,trivial⟩
 intro T H ⟨t1,t19,h1,h7,_⟩;refine bR ?_;refine aH t19 (λc2=>?_) λc2=>?_
 . 
  refine aO<|aD<|aK ?_
  refine aZ (aM<|iV 2)<|aF ?_
  . have e:=aPU (l:=l) OM
    unfold jL; rw [if_pos (by rw [e]; first|assumption|decide),e]
 refine aB<|aO<|cM t1 h1<|aX J h1 J J<|aI (nU l.t hb) J<|aD<|aO<|aP<|bP J J<|bR ?_
 refine aH J (λc3=>?_) λc3=>?_
 . 
  refine aO<|aP<|aD<|aK ?_
  refine aZ (aM<|iV<|gU l.t)<|aF ?_
  . have e:=aQk (l:=l) OM (by assumption)
    unfold jL; rw [if_pos (by rw [e]; first|assumption|decide),e]
 have hv:gU l.t=0:=OM
 have hbn:=hb.n;refine aB<|aW<|aP<|aD<|aO<|cM t1 h1<|cM J h1<|aX J h1 J J<|bA J<|aD (aG λQ4 n4 x4 y4 z4=>?_)
 refine cC (λmm T H=> ∃ (k:Nat) (v7:Nat),mm=l.t.nd.length - k/\T 1=(cG 1)/\T 4=(iV (((eP<|l.t.nd.take k).length:Nat):Int))/\T 5=(V.bool<|emB l.t k)/\T 30=(V.sl<|List.map cN l.t.nd)/\T 31=(iV ((l.t.nd.length:Nat):Int))/\T 32=(iV ((k:Nat):Int))/\H 1=(bk 1 66 4 [[(iV l.i),(V.sl<|List.map cN l.t.nd),(iV o.i),(V.sl<|List.map cT o.tr)]])/\(H 7).ver=v7/\(gU l.t=0)/\(1<=l.i/\l.i<=64)/\(fe (tR l) 0 l.t.nd.length=fe (tR l) k (l.t.nd.length - k))) ?_ ?_
 . 
  refine ⟨_,0,0,J,t1,(bL (aM<|iV 0) JR),(bL (aM<|V.bool false) JR),J,J,(bL (aM<|iV 0) J),h1,(cE h7),?_,?_,?_⟩
  . omega
  . omega
  . rfl
 intro mm T H ⟨k,v7,hmm,t1,t4,t5,t30,t31,t32,h1,h7,hv,hr,hc⟩ Q5 p15 p25 p35;have q1:=jS<|l.t.nd.take k
 have q2:(l.t.nd.take k).length<=k:=by simp; omega
 refine aW<|bZ t32 t31<|bR ?_
 refine aH J (λc6=>?_) λc6=>?_
 . 
  refine aB (aG λQ7 n7 x7 y7 z7=>(aW<|dA (i:=k) t30 t32<|aL J J<|bM (i:=7) (n:=v7) (m:=5) J h7 J<|bQ J J J J J J J J J<|tA<|aW<|aX J J J J<|cM t1 h1<|aX J h1 J J<|aI (gL ((aA l.t.nd k).ac) l.i) J ?_));refine aD<|aO<|aP<|bP J J<|bR ?_
  refine aH J (λc8=>?_) λc8=>?_
  . 
   have d1:tR l k=dG (aA l.t.nd k).ac l.i:=by unfold tR; rw [if_pos c8]
   refine aO<|aP<|aD<|aK<|y7 _ _<|p25 _ _<|y4 _ _ ?_
   refine aZ (aM<|iV<|dG ((aA l.t.nd k).ac) l.i)<|aF ?_
   . have z3:=(hc.trans<|fV (e:=tR l) (by rw [d1]; assumption) OM).trans d1
     have e:=aNU (l:=l) OM OM (by rw [z3]; assumption);rw [z3] at e;unfold jL; rw [if_pos (by rw [e]; first|assumption|decide),e]
  have d0:=c8;refine aB<|aO<|aX J J J J<|cM t1 h1<|aX J h1 J J<|aI (gL ((aA l.t.nd k).sf) l.i) J<|aD<|aO<|aP<|bP J J<|bR ?_
  refine aH J (λc9=>?_) λc9=>?_
  . 
   have d1:tR l k=dG (aA l.t.nd k).sf l.i:=by unfold tR; rw [if_neg d0]
   refine aO<|aP<|aD<|aK<|y7 _ _<|p25 _ _<|y4 _ _ ?_
   refine aZ (aM<|iV<|dG ((aA l.t.nd k).sf) l.i)<|aF ?_
   . have z3:=(hc.trans<|fV (e:=tR l) (by rw [d1]; assumption) OM).trans d1
     have e:=aNU (l:=l) OM OM (by rw [z3]; assumption);rw [z3] at e;unfold jL; rw [if_pos (by rw [e]; first|assumption|decide),e]
  have d2:tR l k=0:=by unfold tR; rw [if_neg d0]; omega
  refine aB<|aW<|aX J J J J<|bR ?_
  refine mJ J (λc10=>?_) (λc10=>?_)
  . 
   have d5:(aA l.t.nd k).lf=true:=c10;refine aW<|aJ t4<|cF J<|aD<|eI<|aJ t5<|aP ?_
   refine bU 5 (λT H=>T 1=(cG 1)/\T 4=(iV ((((eP<|l.t.nd.take k).length)+1:Nat):Int))/\T 5=(V.bool<|emB l.t k)/\T 30=(V.sl<|List.map cN l.t.nd)/\T 31=(iV ((l.t.nd.length:Nat):Int))/\T 32=(iV ((k:Nat):Int))/\T 64=(V.bool ((emB l.t k)||decide (((((aA l.t.nd k).ac).length:Nat):Int)=(0:Int))))/\H 1=(bk 1 66 4 [[(iV l.i),(V.sl<|List.map cN l.t.nd),(iV o.i),(V.sl<|List.map cT o.tr)]])/\H 7=(bk (v7+1) 108 5 [(cN<|aA l.t.nd k)])/\True) ?_ ?_
   . 
    by_cases g11:(emB l.t k)=true
    . 
     refine bW (gQ g11 J)<|bW (gQ g11 J)<|bW (gQ g11 J)<|bW (gQ g11 J)<|bV (gQ g11 J) J ?_
     exact ⟨t1,J,t5,t30,t31,t32,(vX g11),h1,J,trivial⟩
    . 
     refine aN (gP g11 J)<|cM J J<|aN (gP g11 J)<|aV J J J J<|aN (gP g11 J)<|bA J<|aN (gP g11 J)<|eV J J<|bT (gP g11 J) J ?_
     exact ⟨t1,J,t5,t30,t31,t32,(wA g11),h1,J,trivial⟩
   intro T H ⟨t1,t4,t5,t30,t31,t32,t64,h1,h7,_⟩;refine aJ t64<|bR<|n7 _ _ (.done (eI<|cF t32<|aD ?_))
   refine p15 _ _ _ ?_ ⟨(k+1),(v7+1),J,t1,(bL t4 (by (rw [jF OM,if_pos d5,List.length_append]; rfl))),(bL (aM<|V.bool ((emB l.t k)||decide (((((aA l.t.nd k).ac).length:Nat):Int)=(0:Int)))) (by (rw [aNe OM d5]; done))),t30,t31,(bL (cO<|k+1) JR),h1,(cE h7),?_,?_,?_⟩
   . omega
   . omega
   . omega
   . rw [hc,fW (e:=tR l) d2 OM]
  have d5:(aA l.t.nd k).lf=false:=by simpa using c10
  refine dH<|n7 _ _ (.done (eI<|cF t32<|aD ?_))
  refine p15 _ _ _ ?_ ⟨(k+1),(v7+1),J,t1,(bL t4 (by (rw [jF OM,if_neg (by simp [d5]),List.append_nil]; done))),(bL t5 (by (rw [aPh OM d5]; done))),t30,t31,(bL (cO<|k+1) JR),h1,(cE J),?_,?_,?_⟩
  . omega
  . omega
  . omega
  . rw [hc,fW (e:=tR l) d2 OM]
 refine aT<|p35 _ _ _<|x4 _ _ (.done (aG λQ12 n12 x12 y12 z12=>(aW<|aJ t5<|fF J<|aD ?_)))
 refine mJ J (λc13=>?_) (λc13=>?_)
 . 
  have hz:fe (tR l) 0 l.t.nd.length=0:=by rw [hc,iM OM]
  have q8:=aHA (t:=l.t) (k:=k) OM;have d3:[]∉eP l.t.nd:=by rw [q8] at c13; simpa using c13
  refine aW<|aD<|bF<|y12 _ _ ?_
  refine aZ (aM<|iV 1)<|aF ?_
  . have e:=aQs (l:=l) OM OM OM d3
    unfold jL; rw [if_pos (by rw [e]; first|assumption|decide),e]
 have hz:fe (tR l) 0 l.t.nd.length=0:=by rw [hc,iM OM]
 have q8:=aHA (t:=l.t) (k:=k) OM;have q9:l.t.nd.take k=l.t.nd:=List.take_of_length_le OM;have q10:(eP<|l.t.nd.take k).length=(eP l.t.nd).length:=by rw [q9]
 have d3: ¬([]∉eP l.t.nd):=by rw [q8] at c13; simpa using c13
 refine aW<|aJ t4<|eD J J<|aD ?_
 refine fN J (λc14=>?_) λc14=>?_
 . 
  refine aW<|aD<|bF<|y12 _ _ ?_
  refine aZ (aM<|iV 11)<|aF ?_
  . have e:=aQj (l:=l) OM OM OM d3 OM
    unfold jL; rw [if_pos (by rw [e]; first|assumption|decide),e]
 refine aW<|cM t1 h1<|aX J h1 J J<|cM t1 h1<|aX J h1 J J<|bP J J<|aD ?_
 refine fN J (λc15=>?_) λc15=>?_
 . 
  refine aW<|aD<|bF<|y12 _ _ ?_
  refine aZ (aM<|iV 15)<|aF ?_
  . have e:=aNY (l:=l) OM OM OM d3 OM
    unfold jL; rw [if_neg OM,if_pos (by assumption)]
 refine dH<|n12 _ _ (.done (aW<|aD<|bF ?_))
 refine aZ (aM<|iV 0)<|aF ?_
 . have e:=aNY (l:=l) OM OM OM d3 OM
   unfold jL; rw [if_neg OM,if_neg OM]
theorem oV (t:Dt) (hb:Bd t):bK Tryz.prog 50 [(V.agg [(V.sl (List.map cN t.nd))])] (aC (if gU t=0 then fB (eP t.nd) else [])):=by
 refine' pK [] [] Tryz.func50 ?e λhB=>?_
 case e=>conv=>lhs; cbv
 dsimp only;have hal:=jS t.nd;have hbn:=hb.n;refine aW<|bS (i:=1) (n:=0) (m:=1) (cs:=[(V.sl<|List.map cN t.nd)]) J (cE J) J J J<|aD<|aO<|aV J J J J<|aI (nU t hb) J<|bP J J<|bR ?_
 refine aH J (λc1=>?_) λc1=>?_
 . 
  refine aO<|aD<|aK ?_
  refine aZ (aM V.nilsl)<|bH ?_
  . rw [if_neg OM]
 refine aB<|aW<|aV J J J J<|aI (uM t hb) J<|aI (uX (eP t.nd) OM<|aBU hb) J<|aD<|bF ?_
 refine aZ (aM<|aC<|fB<|eP t.nd)<|cA ?_ (λ_=>by simp)
 . rw [if_pos OM]
theorem aLV (l:List (List Int)) (t:List Int) (hs:wB l) (hl:l.length<=1048576):bK Tryz.prog 145 [(aC l),(aE t),(V.fn 108 [] [])] (V.tup [(iV ((kH l t:Nat):Int)),(V.bool (decide (wX l t)))]):=by
 refine' pK [] [] Tryz.func145 ?e λhB=>?_
 case e=>conv=>lhs; cbv
 dsimp only;have q0:=aEQ (w:=t) l;refine aW<|aP<|aD<|aW<|aP<|bA J<|aD<|aW<|aP<|aP<|aD (aG λQ1 n1 x1 y1 z1=>?_)
 refine cC (λmm T H=> ∃ (i:Nat) (j:Nat),mm=j - i/\T 0=(aC l)/\T 1=(aE t)/\T 2=(V.fn 108 [] [])/\T 8=(iV ((l.length:Nat):Int))/\T 9=(iV ((i:Nat):Int))/\T 10=(iV ((j:Nat):Int))/\(i<=kH l t)/\(kH l t<=j)/\(j<=l.length)) ?_ ?_
 . 
  refine ⟨_,0,l.length,J,J,J,J,J,(bL (aM<|iV 0) J),J,?_,?_,?_⟩
  . omega
  . omega
  . omega
 intro mm T H ⟨i,j,hmm,t0,t1,t2,t8,t9,t10,h1,h2,h3⟩ Q2 p12 p22 p32;refine aO<|aJ t9<|aJ t10<|bZ J J<|bR ?_
 refine aH J (λc3=>?_) λc3=>?_
 . 
  refine aB (fZ λQ4 n4 x4 y4 z4=>(aW<|aJ t9<|aJ t10<|oC J J OM<|aIu (n:=(i+j)) (cO<|i+j) OM<|aLz (n:=(i+j)) J J<|aHK (n:=((i+j) / 2)) (aM<|V.int .u64 (((i+j) / 2:Nat):Int)) OM<|aD<|aW<|aJ t2<|aJ t0<|aP<|dA (i:=((i+j) / 2)) (aM<|aC l) (cO<|(i+j) / 2) ?_));refine aL J J<|aJ t1<|iP (aM<|V.fn 108 [] []) (bO (aM<|aE<|aA l<|(i+j) / 2)<|bO (aM<|aE t) dQ) (rN (aA l<|(i+j) / 2) t) (eF _ _ (by simp [-List.map_take,-List.map_drop,-List.map_append,-List.map_reverse])) (by simp [-List.map_take,-List.map_drop,-List.map_append,-List.map_reverse]) (Or.inl (by simp [-List.map_take,-List.map_drop,-List.map_append,-List.map_reverse]))<|bZ J J<|bR ?_
  refine fN J (λc5=>?_) λc5=>?_
  . 
   have d1:=(tC hs OM).1 c5;refine eI<|aP<|cF J<|aD<|n4 _ _ ?_
   refine p12 _ _ _ ?_ ⟨(((i+j) / 2)+1),j,J,t0,t1,t2,t8,(bL (cO<|((i+j) / 2)+1) JR),t10,?_,?_,?_⟩
   . omega
   . omega
   . omega
   . omega
  have d1: ¬((i+j) / 2 < kH l t):=λe=>c5<|(tC hs OM).2 e
  refine eI<|aP<|aD<|n4 _ _ ?_
  refine p12 _ _ _ ?_ ⟨i,((i+j) / 2),J,t0,t1,t2,t8,t9,(bL (cO<|(i+j) / 2) JR),?_,?_,?_⟩
  . omega
  . omega
  . omega
  . omega
 refine aT<|p32 _ _ _<|x1 _ _ (.done (aW<|aJ t9<|aJ t9<|aJ t8<|bZ J J<|aP ?_))
 refine bU 9 (λT H=>T 35=(iV ((i:Nat):Int))/\T 48=(V.bool<|decide ((((i:Nat):Int) < ((l.length:Nat):Int))/\((cY (aA l i) t)=(0:Int))))/\True) ?_ ?_
 . 
  by_cases g6:((i:Nat):Int) < ((l.length:Nat):Int)
  . 
   refine aN (bY g6 J)<|aJ t2<|aN (bY g6 J)<|aJ t0<|aN (bY g6 J)<|aJ t9<|aN (bY g6 J)<|dA (i:=i) (aM<|aC l) (cO i)<|aN (bY g6 J)<|aL J J<|aN (bY g6 J)<|aJ t1<|aN (bY g6 J)<|iP (aM<|V.fn 108 [] []) (bO (aM<|aE<|aA l i)<|bO (aM<|aE t) dQ) (rN (aA l i) t) (eF _ _ (by simp [-List.map_take,-List.map_drop,-List.map_append,-List.map_reverse])) (by simp [-List.map_take,-List.map_drop,-List.map_append,-List.map_reverse]) (Or.inl (by simp [-List.map_take,-List.map_drop,-List.map_append,-List.map_reverse]))<|aN (bY g6 J)<|eV J J ?_
   refine bV (bY g6 J) J ?_;exact ⟨J,(eT g6),trivial⟩
  . 
   refine bW (bX g6 J)<|bW (bX g6 J)<|bW (bX g6 J)<|bW (bX g6 J)<|bW (bX g6 J)<|bW (bX g6 J)<|bW (bX g6 J)<|bW (bX g6 J)<|bT (bX g6 J) J ?_
   exact ⟨J,(eU g6),trivial⟩
 intro T H ⟨t35,t48,_⟩;refine aJ t35<|aJ t48<|R_q ?_
 refine iW (cO i) (aM<|V.bool<|decide ((((i:Nat):Int) < ((l.length:Nat):Int))/\((cY (aA l i) t)=(0:Int)))) (aF ?_)<|cH ?_
 . have e:i=kH l t:=OM
   rw [e]
 . have e:i=kH l t:=OM
   rw [e]; exact decide_eq_decide.2 (by unfold wX; omega)
theorem aAR (x:Nd) (aQ:List Int) (hs:wB x.ou) (hl:x.ou.length<=1048576):bK Tryz.prog 99 [(V.agg (cN x)),(aE aQ)] (V.tup [(iV ((kH x.ou aQ:Nat):Int)),(V.bool (decide (wX x.ou aQ)))]):=by
 refine' pK [] [] Tryz.func99 ?e λhB=>?_
 case e=>conv=>lhs; cbv
 dsimp only;refine aW<|bS (i:=2) (n:=0) (m:=5) (cs:=[(V.bool x.lf),(aE x.ac),(aE x.sf),(aC x.ou),(aE x.kd)]) J (cE J) J J J<|aP<|aD<|aW<|aX J J J J<|aP<|aI (aLV x.ou aQ hs hl) J<|bE J J<|bE J J<|aP<|aD<|bF ?_
 refine iW (cO<|kH x.ou aQ) (aM<|V.bool<|decide (wX x.ou aQ)) (eM SI J)<|eM SI J
def aK9:SC:=.seq (.reg [qP 9 .lss 8 7]) (.seq (.cond (.t 9) (.skip) (.exit 0)) (.seq (.block 1 (.seq (.reg [qM 10 8,qM 5 10]) (.seq (.reg [qM 11 1,qM 12 0,qM 13 5,qA 14 2 12 13,qL 15 2 14,sO 16 (.callv false (.t 11) [.t 15])]) (.cond (.t 16) (.seq (.reg [qM 17 5,qM 4 17]) (.ret)) (.skip))))) (.reg [qC 18 .add 8 1,qM 8 18])))
def aPt:SF:=⟨19,[.tmp 4],.seq (.reg [qI 4 0]) (.seq (.seq (.reg [qM 6 0,qN 7 6,qI 8 0]) (.block 0 (.loop aK9))) (.seq (.reg [sO 4 (.mv (.c (.int .i64 (-1))))]) (.ret)))⟩
theorem aMG:mO Tryz.prog ⟨[101,102,103,111,112,126,130,155,156,157,158,159,163,165,188,193,197,201],[],[],[]⟩ Tryz.f152=some aPt:=by kernel_rfl
theorem aCI (p:Tr->Bool) (w:List Tr) (g:Nat) (caps:List V) (hca:fC caps=true) (hpu:gF caps=true) (hq: ∀ k,k < w.length->bK Tryz.prog g (tV (aA w k)::caps) (.bool (p (aA w k)))):bK Tryz.prog 152 [(V.sl (List.map cT w)),(V.fn g [] caps)] (iV (fi (λjx=>p (aA w jx)) 0 w.length)):=by
 refine nB true 6 Tryz.func152 aMG (by kernel_rfl) (by simp [aPt]) (by simp [hpu]) SI λhB=>?_;simp only [mG,mB,jW,mF,mQ,pV,mD,kC,implies_true,and_true,true_and] at hB;unfold aPt;dsimp only;refine aW<|aD<|aO<|aP<|bA J<|aD (aG λQ1 n1 x1 y1 z1=>?_)
 refine cC (λmm T H=> ∃ (k:Nat),mm=w.length - k/\T 0=(V.sl<|List.map cT w)/\T 1=(V.fn g [] caps)/\T 7=(iV ((w.length:Nat):Int))/\T 8=(iV ((k:Nat):Int))/\(k<=w.length)/\(fi (λj=>p<|aA w j) 0 w.length=fi (λj=>p<|aA w j) k (w.length - k))) ?_ ?_
 . 
  refine ⟨_,0,J,J,J,J,(bL (aM<|iV 0) J),?_,?_⟩
  . omega
  . rfl
 intro mm T H ⟨k,hmm,t0,t1,t7,t8,hk,hc⟩ Q2 p12 p22 p32;unfold aK9;refine aW<|bZ t8 t7<|bR ?_
 refine aH J (λc3=>?_) λc3=>?_
 . 
  refine aB (aG λQ4 n4 x4 y4 z4=>(aW<|aJ t8<|aD<|aW<|aJ t1<|aJ t0<|aP<|dA (i:=k) (aM<|V.sl<|List.map cT w) (cO k)<|aL J J<|iP (aM<|V.fn g [] caps) (bO (aM<|V.agg [(aE<|(aA w k).ni),(aE<|(aA w k).no)]) dQ) (hq k OM) (eF _ _ (by simp [hca])) (by simp [hpu]) (Or.inl (by simp [hpu]))<|bR ?_));refine mJ J (λc5=>?_) (λc5=>?_)
  . 
   have d1:=c5;refine aW<|aP<|aD<|bF<|y4 _ _<|p22 _ _<|y1 _ _ ?_
   refine aZ (cO k)<|aF ?_
   . rw [hc,mI (by exact d1) OM]
  have d1:=c5;refine dH<|n4 _ _ (.done (eI<|cF t8<|aD ?_))
  refine p12 _ _ _ ?_ ⟨(k+1),J,t0,t1,t7,(bL (cO<|k+1) JR),?_,?_⟩
  . omega
  . omega
  . rw [hc,kL (by exact d1) OM]
 refine aT<|p32 _ _ _<|x1 _ _ (.done (aW<|aD<|bF ?_))
 refine aZ (aM<|iV (-1))<|aF ?_
 . rw [hc,kD OM]
theorem uH (a b:List Int):bK Tryz.prog 162 [(aE a),(aE b)] (iV ((gJ a b:Nat):Int)):=by
 refine' pK [] [] Tryz.func162 ?e λhB=>?_
 case e=>conv=>lhs; cbv
 dsimp only;refine aW<|aD<|aO<|aP<|bA J<|aP<|bA J<|aLF (m:=a.length) (n:=b.length) J J<|aD (aG λQ1 n1 x1 y1 z1=>?_)
 refine cC (λmm T H=> ∃ (k:Nat),mm=(min a.length b.length) - k/\T 0=(aE a)/\T 1=(aE b)/\T 10=(iV ((min a.length b.length:Nat):Int))/\T 11=(iV ((k:Nat):Int))/\(k<=min a.length b.length)/\(k<=gJ a b)) ?_ ?_
 . 
  refine ⟨_,0,J,J,J,J,(bL (aM<|iV 0) J),?_,?_⟩
  . omega
  . exact Nat.zero_le _
 intro mm T H ⟨k,hmm,t0,t1,t10,t11,hk,hc⟩ Q2 p12 p22 p32;refine aW<|bZ t11 t10<|bR ?_
 refine aH J (λc3=>?_) λc3=>?_
 . 
  refine aB (aG λQ4 n4 x4 y4 z4=>(aW<|aJ t11<|aD<|aW<|aJ t0<|aP<|dA (i:=k) (aM<|aE a) (cO k)<|aL J J<|aJ t1<|aP<|dA (i:=k) (aM<|aE b) (cO k)<|aL J J<|bP J J ?_));refine bR ?_;refine fN J (λc5=>?_) λc5=>?_
  . 
   refine aW<|aP<|aD<|bF<|y4 _ _<|p22 _ _<|y1 _ _ ?_
   refine aZ (cO k)<|aF ?_
   . rw [tY hc OM]
  refine dH<|n4 _ _ (.done (eI<|cF t11<|aD ?_))
  refine p12 _ _ _ ?_ ⟨(k+1),J,t0,t1,t10,(bL (cO<|k+1) JR),?_,?_⟩
  . omega
  . omega
  . exact xX hc OM OM OM
 refine aT<|p32 _ _ _<|x1 _ _ (.done (aW<|aJ t0<|bA J<|aJ t1<|bA J<|aLF (m:=a.length) (n:=b.length) J J<|aD<|bF ?_))
 refine aZ (cO<|min a.length b.length)<|aF ?_
 . rw [tY hc OM]; omega
theorem yK (w p:List Int):bK Tryz.prog 109 [(aE w),(aE p)] (V.bool (hp w p)):=by
 refine' pK [] [] Tryz.func109 ?e λhB=>?_
 case e=>conv=>lhs; cbv
 dsimp only;refine aW<|aD<|aW<|aP<|aP ?_
 have q1:=kX w p;have q2:=mV w p;refine aI (uH w p) J<|aP<|bA J<|eV J J<|aD ?_
 have q3:=kX w p;have q4:=mV w p;refine bF ?_;refine aZ (aM<|V.bool<|decide (((gJ w p:Nat):Int)=((p.length:Nat):Int)))<|cH ?_
 . unfold hp; exact decide_eq_decide.2 OM
theorem aDq (t:Tr) (w:List Int):bK Tryz.prog 153 [(V.agg [(aE t.ni),(aE t.no)]),(V.pp [(aE w)])] (V.bool (hp t.ni w)):=by
 refine' pK [] [] Tryz.func153 ?e λhB=>?_
 case e=>conv=>lhs; cbv
 dsimp only;refine aW<|bS (i:=2) (n:=0) (m:=2) (cs:=[(aE t.ni),(aE t.no)]) J (cE J) J J J<|aD<|aW<|aX J J J J<|aL J J<|aI (yK t.ni w) J<|aD<|bF ?_
 refine aZ (aM<|V.bool<|hp t.ni w)<|eM SI J
theorem lO (o:Ob) (w:List Int) (ho:kS o=0):bK Tryz.prog 104 [(V.agg [(iV o.i),(V.sl (List.map cT o.tr))]),(aE w)] (V.tup [(aE ((eA o w).getD [])),(V.bool ((eA o w).isSome))]):=by
 refine' pK [] [] Tryz.func104 ?e λhB=>?_
 case e=>conv=>lhs; cbv
 dsimp only;have u2:=lD ho;refine aW<|bS (i:=2) (n:=0) (m:=2) (cs:=[(iV o.i),(V.sl<|List.map cT o.tr)]) J (cE J) J J J<|bS (i:=3) (n:=0) (m:=1) (cs:=[(aE w)]) J (cE J) J J J<|aP<|aD<|aO<|aV J J J J<|bA J<|eV J J<|bR ?_
 refine aH J (λc1=>?_) λc1=>?_
 . 
  refine aO<|aP<|aD<|aK ?_
  refine iW (aM V.nilsl) (aM<|V.bool true) (bH ?_)<|cH ?_
  . rw [List.length_eq_zero_iff.1 (show w.length=0 by omega)]; rfl
  . rw [List.length_eq_zero_iff.1 (show w.length=0 by omega)]; rfl
 have hw:w≠[]:=by intro e; subst e; simp at*
 refine aB<|aW<|aX J J J J<|yG (bO J dQ)<|jN (bO (aM<|V.sl<|List.map cT o.tr)<|bO (aM<|V.fn 153 [] [(cG 3)]) dQ) (aCI (λt:Tr=>hp t.ni w) o.tr 153 ([(V.pp [(aE w)])]) SI SI (λj _=>aDq (aA o.tr j) w)) (cZ (dM 6 _ (by simp [-List.map_take,-List.map_drop,-List.map_append,-List.map_reverse]))<|cZ (aDK (@J Blk<|bk 1 54 1 [[(aE w)]]) (by simp [-List.map_take,-List.map_drop,-List.map_append,-List.map_reverse])) J) (by simp [-List.map_take,-List.map_drop,-List.map_append,-List.map_reverse]) (Or.inr J)<|aD<|aO<|aP<|bZ J J<|bR ?_
 refine aH (p:=(fi (λjx=>(λt:Tr=>hp t.ni w) (aA o.tr jx)) 0 o.tr.length) < (0:Int)) J (λc2=>?_) (λc2=>?_)
 . 
  have d1:tO o.tr w=none:=aIX (l:=o.tr) (w:=w) c2;refine aO<|aP<|aD<|aK ?_
  refine iW (aM V.nilsl) (aM<|V.bool false) (bH ?_)<|cH ?_
  . rw [eA,if_neg hw,d1]; rfl
  . rw [eA,if_neg hw,d1]; rfl
 have d1:=aKZ (l:=o.tr) (w:=w) OM;have d2:=(u2.pr _ d1.1).1.len;have d3:=(u2.pr _ d1.1).1.lel;have d4:=wZ d1.2.1;refine aB<|aW<|aX J J J J<|aP<|dR (i:=(fi (λjx=>(λt:Tr=>hp t.ni w) (aA o.tr jx)) 0 o.tr.length)) (aM<|V.sl<|List.map cT o.tr) (aM<|iV<|fi (λjx=>(λt:Tr=>hp t.ni w) (aA o.tr jx)) 0 o.tr.length) OM OM J<|dB (cs':=[(aE<|(aA o.tr (fi (λjx=>(λt:Tr=>hp t.ni w) (aA o.tr jx)) 0 o.tr.length).toNat).no)]) J J<|aL J J<|aD<|aW<|aP<|aV J J J J<|bA J<|aP<|bA J ?_
 refine aLF (m:=w.length) (n:=(((aA o.tr (fi (λjx=>(λt:Tr=>hp t.ni w) (aA o.tr jx)) 0 o.tr.length).toNat).no).length)) J J<|nA (n:=(min w.length<|((aA o.tr (fi (λjx=>(λt:Tr=>hp t.ni w) (aA o.tr jx)) 0 o.tr.length).toNat).no).length)) (aM<|aE<|(aA o.tr (fi (λjx=>(λt:Tr=>hp t.ni w) (aA o.tr jx)) 0 o.tr.length).toNat).no) (aM<|iV ((min w.length (((aA o.tr (fi (λjx=>(λt:Tr=>hp t.ni w) (aA o.tr jx)) 0 o.tr.length).toNat).no).length):Nat):Int)) OM (λ_=>J)<|aI (lI (List.take (min w.length<|((aA o.tr (fi (λjx=>(λt:Tr=>hp t.ni w) (aA o.tr jx)) 0 o.tr.length).toNat).no).length)<|(aA o.tr (fi (λjx=>(λt:Tr=>hp t.ni w) (aA o.tr jx)) 0 o.tr.length).toNat).no) (by simp; omega)) J<|aP<|aD<|bF ?_
 refine iW (aM<|aE<|List.take (min w.length<|((aA o.tr (fi (λjx=>(λt:Tr=>hp t.ni w) (aA o.tr jx)) 0 o.tr.length).toNat).no).length)<|(aA o.tr (fi (λjx=>(λt:Tr=>hp t.ni w) (aA o.tr jx)) 0 o.tr.length).toNat).no) (aM<|V.bool true) (cA ?_ (λ_=>by simp))<|cH ?_
 . rw [eA,if_neg hw,d1.2.2,Nat.min_eq_left OM]; rfl
 . rw [eA,if_neg hw,d1.2.2]; rfl
theorem aCF (t:Dt) (o:Ob) (w:List Int) (hb:Bd t) (ho:kS o=0) (hw:w.length<=1048576):bK Tryz.prog 59 [(V.agg [(V.sl (List.map cN t.nd))]),(V.agg [(iV o.i),(V.sl (List.map cT o.tr))]),(aE w)] (V.tup [(iV ((bJ t o w).1)),(aE ((bJ t o w).2.1)),(iV ((bJ t o w).2.2))]):=by
 refine' pK [] [] Tryz.func59 ?e λhB=>?_
 case e=>conv=>lhs; cbv
 dsimp only;refine aW<|bS (i:=3) (n:=0) (m:=1) (cs:=[(V.sl<|List.map cN t.nd)]) J (cE J) J J J<|bS (i:=4) (n:=0) (m:=2) (cs:=[(iV o.i),(V.sl<|List.map cT o.tr)]) J (cE J) J J J<|aP<|aP<|aD<|aO<|aV J J J J<|aI (nU t hb) J<|aD<|aO<|aP ?_
 refine bP J J<|bR ?_
 refine aH J (λc1=>?_) λc1=>?_
 . 
  refine aO<|aP<|aP<|aP<|aD<|aK ?_
  refine iN (aM<|iV 0) (aM V.nilsl) (aM<|iV<|gU t) (aF ?_) (bH ?_)<|aF ?_
  . unfold bJ; rw [if_pos OM]
  . unfold bJ; rw [if_pos OM]
  . unfold bJ; rw [if_pos OM]
 have hv:gU t=0:=OM
 refine aB<|aO<|aP<|aX J J J J<|aI (gL w o.i) J<|aD<|aO<|aP<|bP J J<|bR ?_
 refine aH J (λc2=>?_) λc2=>?_
 . 
  refine aO<|aP<|aP<|aP<|aD<|aK ?_
  refine iN (aM<|iV 0) (aM V.nilsl) (aM<|iV<|dG w o.i) (aF ?_) (bH ?_)<|aF ?_
  . unfold bJ; rw [if_neg OM,if_pos OM]
  . unfold bJ; rw [if_neg OM,if_pos OM]
  . unfold bJ; rw [if_neg OM,if_pos OM]
 refine aB<|aW<|aD (aG λQ3 n3 x3 y3 z3=>?_)
 refine cC (λmm T H=> ∃ (a:Int) (f:Nat) (v12:Nat),mm=f/\T 2=(aE w)/\T 3=(cG 3)/\T 4=(cG 4)/\T 11=(iV a)/\H 3=(bk 1 47 1 [[(V.sl<|List.map cN t.nd)]])/\H 4=(bk 1 31 2 [[(iV o.i),(V.sl<|List.map cT o.tr)]])/\(H 12).ver=v12/\(0<=a)/\(Rk t f a.toNat)/\(gM t o w t.nd.length 0=gM t o w f a.toNat)) ?_ ?_
 . 
  refine ⟨_,0,t.nd.length,0,J,J,J,J,J,J,J,(cE J),?_,?_,?_⟩
  . omega
  . exact rk0 hv
  . rfl
 intro mm T H ⟨a,f,v12,hmm,t2,t3,t4,t11,h3,h4,h12,ha,hr,hc⟩ Q4 p14 p24 p34;have hlt:=hr.lt hv;have hsf:=hb.sf _ hlt;have hbn:=hb.n;refine aO<|aX t3 h3 J J<|aJ t11<|dR (i:=a) (aM<|V.sl<|List.map cN t.nd) (aM<|iV a) OM OM J<|dB (cs':=(cN<|aA t.nd a.toNat)) J J<|aL J J<|fF J<|bR ?_
 refine cU J (λc5=>?_) (λc5=>?_)
 . 
  have d1:(aA t.nd a.toNat).lf=false:=by simpa using c5
  have hin:=aCg hv hlt d1;have hou:=hb.ou _ hlt;refine aB (fZ λQ6 n6 x6 y6 z6=>(aW<|aX t3 h3 J J<|aJ t11<|dR (i:=a) (aM<|V.sl<|List.map cN t.nd) (aM<|iV a) OM OM J<|aL J J<|bM (i:=12) (n:=v12) (m:=5) J h12 J<|bQ J J J J J J J J J<|qV<|aJ t2<|aX J J J J<|aS J J ?_));refine aI (dP ([w,(aA t.nd a.toNat).sf]) (by simp only [bD,List.append_nil,List.length_append]; omega)) J<|aD<|aO<|aP<|aX t4 h4 J J<|aI (gL (bD<|[w,(aA t.nd a.toNat).sf]) o.i) J<|aD<|aO<|aP<|bP J J<|bR ?_
  refine aH J (λc7=>?_) λc7=>?_
  . 
   have d2:dG (bD [w,(aA t.nd a.toNat).sf]) o.i≠0:=c7;refine aO<|aP<|aP<|aP<|aD<|aK<|y6 _ _<|p24 _ _<|y3 _ _ ?_
   refine iN (aM<|iV 0) (aM V.nilsl) (aM<|iV<|dG (bD<|[w,(aA t.nd a.toNat).sf]) o.i) (aF ?_) (bH ?_)<|aF ?_
   . have e0:bJ t o w=gM t o w f a.toNat:=by unfold bJ; rw [if_neg OM,if_neg OM,hc]
     rw [e0,tH hr.pos d1 d2]
   . have e0:bJ t o w=gM t o w f a.toNat:=by unfold bJ; rw [if_neg OM,if_neg OM,hc]
     rw [e0,tH hr.pos d1 d2]
   . have e0:bJ t o w=gM t o w f a.toNat:=by unfold bJ; rw [if_neg OM,if_neg OM,hc]
     rw [e0,tH hr.pos d1 d2]
  have d2: ¬dG (bD [w,(aA t.nd a.toNat).sf]) o.i≠0:=c7;refine aB<|aW<|aV t4 h4 J J<|aP<|aI (lO o (bD<|[w,(aA t.nd a.toNat).sf]) ho) J<|aP<|bE J J<|bE J J<|aP<|aD<|aO<|aP<|fF J<|bR ?_
  refine cU J (λc8=>?_) (λc8=>?_)
  . 
   have d3:(eA o<|bD [w,(aA t.nd a.toNat).sf]).isSome=false:=by simpa using c8
   refine cS ?_;refine dE (λT H=>T 6=(iV 0)/\T 7=(aE<|bD<|[w,(aA t.nd a.toNat).sf])/\T 8=(iV 0)/\H 3=(bk 1 47 1 [[(V.sl<|List.map cN t.nd)]])/\H 4=(bk 1 31 2 [[(iV o.i),(V.sl<|List.map cT o.tr)]])/\H 12=(bk (v12+1) 108 5 [(cN<|aA t.nd a.toNat)])/\True) ?_ ?_
   . 
    refine aP<|aP<|aP<|aP ?_
    exact eS ⟨J,J,J,h3,h4,J,trivial⟩
   intro T H ⟨t6,t7,t8,h3,h4,h12,_⟩;refine aK<|y6 _ _<|p24 _ _<|y3 _ _ ?_
   refine iN t6 t7 t8 (aF ?_) (cA ?_ (λ_=>by simp))<|aF ?_
   . have e0:bJ t o w=gM t o w f a.toNat:=by unfold bJ; rw [if_neg OM,if_neg OM,hc]
     rw [e0,tG hr.pos d1 d2 d3]
   . have e0:bJ t o w=gM t o w f a.toNat:=by unfold bJ; rw [if_neg OM,if_neg OM,hc]
     rw [e0,tG hr.pos d1 d2 d3]
   . have e0:bJ t o w=gM t o w f a.toNat:=by unfold bJ; rw [if_neg OM,if_neg OM,hc]
     rw [e0,tG hr.pos d1 d2 d3]
  have d3:(eA o<|bD [w,(aA t.nd a.toNat).sf]).isSome=true:=by simpa using c8
  have d4:=nH (lD ho) d3;have d5:(bD [w,(aA t.nd a.toNat).sf]).length=w.length+(aA t.nd a.toNat).sf.length:=by simp [bD]
  refine aB ?_;refine dE (λT H=>T 2=(aE w)/\T 3=(cG 3)/\T 4=(cG 4)/\T 11=(iV a)/\T 12=(V.mp 12 (v12+1) 0 0)/\T 17=(iV ((kH (aA t.nd a.toNat).ou (List.drop w.length<|(eA o<|bD<|[w,(aA t.nd a.toNat).sf]).getD []):Nat):Int))/\T 18=(V.bool<|decide (wX (aA t.nd a.toNat).ou (List.drop w.length<|(eA o<|bD<|[w,(aA t.nd a.toNat).sf]).getD [])))/\H 3=(bk 1 47 1 [[(V.sl<|List.map cN t.nd)]])/\H 4=(bk 1 31 2 [[(iV o.i),(V.sl<|List.map cT o.tr)]])/\H 12=(bk (v12+1) 108 5 [(cN<|aA t.nd a.toNat)])/\True) ?_ ?_
  . 
   refine aV J J J J<|aP<|aJ t2<|bA J<|gD (n:=w.length) (aM<|aE<|(eA o<|bD<|[w,(aA t.nd a.toNat).sf]).getD []) (cO w.length) OM (λ_=>J)<|aI (aAR (aA t.nd a.toNat) (List.drop w.length<|(eA o<|bD<|[w,(aA t.nd a.toNat).sf]).getD []) hin.srt hou) J<|aP<|bE J J<|bE J J<|aP<|aP ?_
   exact eS ⟨t2,t3,t4,t11,J,J,J,h3,h4,J,trivial⟩
  intro T H ⟨t2,t3,t4,t11,t12,t17,t18,h3,h4,h12,_⟩;refine aO<|aJ t18<|qT J<|bR ?_
  refine aH J (λc9=>?_) λc9=>?_
  . 
   have d6: ¬wX (aA t.nd a.toNat).ou (((eA o<|bD [w,(aA t.nd a.toNat).sf]).getD []).drop w.length):=c9;refine aT<|z6 _ _ _ DE<|p34 _ _ _<|x3 _ _ (.done (aW<|aJ t11<|aP<|aP<|aD<|bF ?_))
   refine iN (aM<|iV a) (aM V.nilsl) (aM<|iV 0) (aF ?_) (bH ?_)<|aF ?_
   . have e0:bJ t o w=gM t o w f a.toNat:=by unfold bJ; rw [if_neg OM,if_neg OM,hc]
     rw [e0,xO hr.pos d1 d2 d3 d6]; exact (Int.toNat_of_nonneg ha).symm
   . have e0:bJ t o w=gM t o w f a.toNat:=by unfold bJ; rw [if_neg OM,if_neg OM,hc]
     rw [e0,xO hr.pos d1 d2 d3 d6]
   . have e0:bJ t o w=gM t o w f a.toNat:=by unfold bJ; rw [if_neg OM,if_neg OM,hc]
     rw [e0,xO hr.pos d1 d2 d3 d6]
  have d6:wX (aA t.nd a.toNat).ou (((eA o<|bD [w,(aA t.nd a.toNat).sf]).getD []).drop w.length):=Decidable.not_not.1 c9;have d7:(aA (aA t.nd a.toNat).kd (kH (aA t.nd a.toNat).ou (((eA o<|bD [w,(aA t.nd a.toNat).sf]).getD []).drop w.length)))∈(aA t.nd a.toNat).kd:=cW (by have:=d6.1; have:=hin.len; omega);have d8:=hin.kr _ d7;have d9:kH (aA t.nd a.toNat).ou (((eA o<|bD [w,(aA t.nd a.toNat).sf]).getD []).drop w.length) < (aA t.nd a.toNat).kd.length:=by have:=d6.1; have:=hin.len; omega
  refine aB<|eI<|aX t12 h12 J J<|aJ t17<|dA (i:=(kH (aA t.nd a.toNat).ou (List.drop w.length<|(eA o<|bD<|[w,(aA t.nd a.toNat).sf]).getD []))) (aM<|aE<|(aA t.nd a.toNat).kd) (cO<|kH (aA t.nd a.toNat).ou (List.drop w.length<|(eA o<|bD<|[w,(aA t.nd a.toNat).sf]).getD []))<|aL J J<|aD<|n6 _ _ ?_
  refine p14 _ _ _ ?_ ⟨(aA (aA t.nd a.toNat).kd (kH (aA t.nd a.toNat).ou (((eA o<|bD [w,(aA t.nd a.toNat).sf]).getD []).drop w.length))),(f - 1),(v12+1),J,t2,t3,t4,(bL (aM<|iV<|aA ((aA t.nd a.toNat).kd)<|kH (aA t.nd a.toNat).ou (List.drop w.length<|(eA o<|bD<|[w,(aA t.nd a.toNat).sf]).getD [])) JR),h3,h4,(cE h12),?_,?_,?_⟩
  . have:=hr.pos; omega
  . exact d8.1
  . exact hr.step d7 d8.1
  . rw [hc,aGn hr.pos d1 d2 d3 d6]
 have d1:(aA t.nd a.toNat).lf=true:=by simpa using c5
 refine aT<|p34 _ _ _<|x3 _ _ (.done (aW<|aJ t11<|aP<|aP<|aD<|bF ?_))
 refine iN (aM<|iV a) (aM V.nilsl) (aM<|iV 0) (aF ?_) (bH ?_)<|aF ?_
 . have e0:bJ t o w=gM t o w f a.toNat:=by unfold bJ; rw [if_neg OM,if_neg OM,hc]
   rw [e0,pS hr.pos d1]; exact (Int.toNat_of_nonneg ha).symm
 . have e0:bJ t o w=gM t o w f a.toNat:=by unfold bJ; rw [if_neg OM,if_neg OM,hc]
   rw [e0,pS hr.pos d1]
 . have e0:bJ t o w=gM t o w f a.toNat:=by unfold bJ; rw [if_neg OM,if_neg OM,hc]
   rw [e0,pS hr.pos d1]
theorem aAH (l:Ts) (o:Ob) (w:List Int) (ho:kS o=0):bK Tryz.prog 60 [(V.agg [(iV l.i),(V.sl (List.map cN l.t.nd)),(iV o.i),(V.sl (List.map cT o.tr))]),(aE w)] (V.bool ((eA o w).isSome)):=by
 refine' pK [] [] Tryz.func60 ?e λhB=>?_
 case e=>conv=>lhs; cbv
 dsimp only;refine aW<|bS (i:=2) (n:=0) (m:=4) (cs:=[(iV l.i),(V.sl<|List.map cN l.t.nd),(iV o.i),(V.sl<|List.map cT o.tr)]) J (cE J) J J J<|aD<|aW<|aX J J J J<|aP<|aI (lO o w ho) J<|aP<|bE J J<|bE J J<|aP<|aD<|aW ?_
 refine aP<|aD<|bF ?_
 refine aZ (aM<|V.bool<|(eA o w).isSome)<|eM SI J
theorem zO (l:List (List Int)) (hl:l.length<=1073741824) (hw: ∀ w∈l,w.length<=1048576):bK Tryz.prog 61 [(aC l)] (aC (oD l)):=by
 refine' pK [4] [] Tryz.func61 ?e λhB=>?_
 case e=>conv=>lhs; cbv
 dsimp only;refine aW<|aD<|aW<|aP<|aI (aCt l OM OM) J<|aD<|aW<|gG (i:=4) (n:=0) J (cE J)<|tA<|aW<|aP<|bA J<|aP ?_
 refine bR (aG λQ1 n1 x1 y1 z1=>?_);refine cC (λmm T H=> ∃ (k:Nat) (v:Nat),mm=(oQ l).length - k/\T 3=(aC<|oQ l)/\T 4=(V.ms 4 v 0<|(mxO (oQ l) k).length)/\T 9=(aC<|oQ l)/\T 10=(iV (((oQ l).length:Nat):Int))/\T 11=(iV ((k:Nat):Int))/\H 4=(bz v 54 1<|List.map cL<|mxO (oQ l) k)/\(k<=(oQ l).length)) ?_ ?_
 . 
  refine ⟨_,0,1,J,J,(bL (aM<|V.ms 4 1 0 0) JR),J,J,(bL (aM<|iV 0) J),(bL (@J Blk<|bz 1 54 1 []) JR),?_⟩
  . omega
 intro mm T H ⟨k,v,hmm,t3,t4,t9,t10,t11,h4,hk⟩ Q2 p12 p22 p32;have q1:=aHT (oQ l) k;have q2:=aHE l;refine aW<|bZ t11 t10<|bR ?_
 refine aH J (λc3=>?_) λc3=>?_
 . 
  refine aB (aG λQ4 n4 x4 y4 z4=>(aW<|aJ t11<|dA (i:=k) t9 t11<|aL J J<|aP<|aD<|aW<|aP<|cF J<|aJ t3<|bA J<|eV J J<|aP ?_));refine bU 9 (λT H=>T 3=(aC<|oQ l)/\T 4=(V.ms 4 v 0<|(mxO (oQ l) k).length)/\T 6=(aE<|aA (oQ l) k)/\T 9=(aC<|oQ l)/\T 10=(iV (((oQ l).length:Nat):Int))/\T 11=(iV ((k:Nat):Int))/\T 30=(V.bool (decide (((k+1:Nat):Int)=(((oQ l).length:Nat):Int))||(!hp (aA (oQ l)<|k+1) (aA (oQ l) k))))/\H 4=(bz v 54 1<|List.map cL<|mxO (oQ l) k)/\True) ?_ ?_
  . 
   by_cases g5:((k+1:Nat):Int)=(((oQ l).length:Nat):Int)
   . 
    refine bW (bY g5 J)<|bW (bY g5 J)<|bW (bY g5 J)<|bW (bY g5 J)<|bW (bY g5 J)<|bW (bY g5 J)<|bW (bY g5 J)<|bW (bY g5 J)<|bV (bY g5 J) J ?_
    exact ⟨t3,t4,J,t9,t10,t11,(aLE g5),h4,trivial⟩
   . 
    refine aN (bX g5 J)<|aJ t3<|aN (bX g5 J)<|aP<|aN (bX g5 J)<|cF J<|aN (bX g5 J)<|dA (i:=(k+1)) (aM<|aC<|oQ l) (cO<|k+1)<|aN (bX g5 J)<|aL J J<|aN (bX g5 J)<|aP<|aN (bX g5 J)<|aI (yK (aA (oQ l)<|k+1)<|aA (oQ l) k) J<|aN (bX g5 J)<|fF J ?_
    refine bT (bX g5 J) J ?_;exact ⟨t3,t4,J,t9,t10,t11,(aJB g5),h4,trivial⟩
  intro T H ⟨t3,t4,t6,t9,t10,t11,t30,h4,_⟩;refine bR ?_;refine mJ t30 (λc6=>?_) (λc6=>?_)
  . 
   have d1:mxC (oQ l) k=true:=c6;refine eI<|aJ t4<|aJ t6<|aS J J<|eX (l:=(mxO (oQ l) k)) (f:=cL) (x:=(aA (oQ l) k)) (aM<|V.ms 4 v 0<|(mxO (oQ l) k).length) h4 JR (aM<|V.sl [[(aE<|aA (oQ l) k)]])<|aD<|n4 _ _ (.done (eI<|cF t11<|aD ?_))
   refine p12 _ _ _ ?_ ⟨(k+1),(v+1),J,t3,(bL (aM<|V.ms 4 (v+1) 0<|((mxO (oQ l) k).length)+1) (by (rw [aDG d1,List.length_append]; rfl))),t9,t10,(bL (cO<|k+1) JR),(bL (@J Blk<|bz (v+1) 54 1<|List.map cL<|mxO (oQ l) k++[(aA (oQ l) k)]) (by (rw [aDG d1]; done))),?_⟩
   . omega
   . omega
  have d1:mxC (oQ l) k=false:=by unfold mxC; simpa using c6
  refine dH<|n4 _ _ (.done (eI<|cF t11<|aD ?_))
  refine p12 _ _ _ ?_ ⟨(k+1),v,J,t3,(bL t4 (by (rw [aGP d1]; done))),t9,t10,(bL (cO<|k+1) JR),(bL h4 (by (rw [aGP d1]; done))),?_⟩
  . omega
  . omega
 refine aT<|p32 _ _ _<|x1 _ _ ?_
 refine .freeze 4 (.done ?_);refine aW<|aJ (bB t4<|mL h4 SI (l:=(mxO (oQ l) k)) rfl JR)<|aI (uX (mxO (oQ l) k) OM (λw h=>by obtain ⟨i,i1,_,i3⟩:=aDA.1 h; rw [<- i3]; exact hw _<|vM.1<|cW OM)) rfl<|aD<|bF ?_
 refine aZ (aM<|aC<|fB<|mxO (oQ l) k)<|cA ?_ (λ_=>by simp)
 . rw [show k=(oQ l).length by omega,aQo]
theorem aBr (l:Ts) (o:Ob) (hb:Bd l.t) (h:vC l=0) (ho:kS o=0) (hx:(dD l).length<=5000):bK Tryz.prog 48 [(V.agg [(iV l.i),(V.sl (List.map cN l.t.nd)),(iV o.i),(V.sl (List.map cT o.tr))])] (V.tup [(V.sl (List.map cXt (if lE l o=0 then iX l o else []))),(aC (if lE l o=0 then oD (rD l o) else [])),(iV (lE l o))]):=by
 refine' pK [5,6] [] Tryz.func48 ?e λhB=>?_
 case e=>conv=>lhs; cbv
 dsimp only;obtain ⟨hi1,hi2,hv,hw0,_,hl0⟩:=tL h;have hbn:=hb.n;have hal:=jS l.t.nd;have hxl:=vE l;have hll:=oZ hv

 refine aW<|bS (i:=1) (n:=0) (m:=4) (cs:=[(iV l.i),(V.sl<|List.map cN l.t.nd),(iV o.i),(V.sl<|List.map cT o.tr)]) J (cE J) J J J<|aP<|aP<|aD<|aW<|gG (i:=5) (n:=0) J (cE J)<|qV<|gG (i:=6) (n:=0) J (cE J)<|tA<|aW<|cM J J<|cM J J ?_
 refine aV J J J J<|aI (oV l.t hb) J<|bA J<|aD (aG λQ1 n1 x1 y1 z1=>?_)
 refine cC (λmm T H=> ∃ (k:Nat) (v:Nat) (w:Nat) (n:Nat),mm=(fU l.t).length - k/\T 1=(cG 1)/\T 5=(V.ms 5 v 0 n)/\T 6=(V.ms 6 w 0<|(pX l o n).length)/\T 17=(aC<|fU l.t)/\T 18=(iV (((fU l.t).length:Nat):Int))/\T 19=(iV ((k:Nat):Int))/\H 1=(bk 1 66 4 [[(iV l.i),(V.sl<|List.map cN l.t.nd),(iV o.i),(V.sl<|List.map cT o.tr)]])/\H 5=(bz v 101 2<|List.map cXt<|iO (xtK l o) n)/\H 6=(bz w 54 1<|List.map cL<|pX l o n)/\(k<=(fU l.t).length)/\(n=k*l.i.toNat)/\(n<=(dD l).length)/\(lE l o=fe (sqE l o) n ((dD l).length - n))) ?_ ?_
 . 
  refine ⟨_,0,1,1,0,J,J,J,(bL (aM<|V.ms 6 1 0 0) JR),(bL (aM<|aC (if gU l.t=0 then fB (eP l.t.nd) else [])) JR),(bL (cO<|(if gU l.t=0 then fB (eP l.t.nd) else []).length) JR),(bL (aM<|iV 0) J),J,(bL (@J Blk<|bz 1 101 2 []) JR),(bL (@J Blk<|bz 1 54 1 []) JR),?_,?_,?_,?_⟩
  . omega
  . omega
  . omega
  . rfl
 intro mm T H ⟨k,v,w,n,hmm,t1,t5,t6,t17,t18,t19,h1,h5,h6,hk,hn,hn2,hc⟩ Q2 p12 p22 p32;refine aW<|bZ t19 t18<|bR ?_
 refine aH J (λc3=>?_) λc3=>?_
 . 
  refine aB (aG λQ4 n4 x4 y4 z4=>(aW<|dA (i:=k) t17 t19<|aL J J<|aD<|aW<|cM t1 h1<|aX J h1 J J<|aD (fZ λQ5 n5 x5 y5 z5=>?_)));refine cC (λmm T H=> ∃ (j:Nat) (v2:Nat) (w2:Nat) (m:Nat),mm=l.i.toNat - j/\T 1=(cG 1)/\T 5=(V.ms 5 v2 0 m)/\T 6=(V.ms 6 w2 0<|(pX l o m).length)/\T 8=(aE<|aA (fU l.t) k)/\T 17=(aC<|fU l.t)/\T 18=(iV (((fU l.t).length:Nat):Int))/\T 19=(iV ((k:Nat):Int))/\T 25=(iV l.i)/\T 26=(iV ((j:Nat):Int))/\H 1=(bk 1 66 4 [[(iV l.i),(V.sl<|List.map cN l.t.nd),(iV o.i),(V.sl<|List.map cT o.tr)]])/\H 5=(bz v2 101 2<|List.map cXt<|iO (xtK l o) m)/\H 6=(bz w2 54 1<|List.map cL<|pX l o m)/\(j<=l.i.toNat)/\(m=k*l.i.toNat+j)/\(m<=(dD l).length)/\(lE l o=fe (sqE l o) m ((dD l).length - m))) ?_ ?_
  . 
   refine ⟨_,0,v,w,n,J,t1,t5,t6,(bL (aM<|aE<|aA (fU l.t) k) JR),t17,t18,t19,J,(bL (aM<|iV 0) J),h1,h5,h6,?_,?_,?_,?_⟩
   . omega
   . omega
   . omega
   . exact hc
  intro mm T H ⟨j,v2,w2,m,hmm,t1,t5,t6,t8,t17,t18,t19,t25,t26,h1,h5,h6,hj,hm,hm2,hc2⟩ Q6 p16 p26 p36;have q2:(k+1)*l.i.toNat<=(fU l.t).length*l.i.toNat:=Nat.mul_le_mul_right _ OM;rw [Nat.succ_mul] at q2;have q1:=aKc l o m;refine aW<|bZ t26 t25<|bR ?_
  refine aH J (λc7=>?_) λc7=>?_
  . 
   have d0:aA (dD l) m=bD [aA (fU l.t) k,[(j:Int)]]:=by rw [hm]; exact aD8 OM OM
   have r1:=pL h<|cW (show m < (dD l).length by omega)
   have r2:=(zU h<|cW (show k < (fU l.t).length by omega)).1;refine aB (aG λQ8 n8 x8 y8 z8=>(aW<|aJ t26<|aD<|aW<|aJ t8<|aP<|aS J J<|aS J J<|sM (bO J dQ) (by have q:=dP [aA (fU l.t) k,[(j:Int)]] (by simp only [bD,List.append_nil,List.length_append,List.length_cons,List.length_nil]; omega); rw [<- d0] at q; exact q)<|aD<|aW<|cM t1 h1 ?_));refine aX J h1 J J<|aX t1 h1 J J<|aP<|aI (aCF l.t o (aA (dD l) m) hb ho OM) J<|aP<|bE J J<|bE J J<|bE J J<|aP<|aP<|aD<|aO ?_
   refine aP<|bP J J<|bR ?_
   refine aH J (λc9=>?_) λc9=>?_
   . 
    have d1:sqE l o m≠0:=c9;refine aO<|aP<|aP<|aP<|aD<|aK<|y8 _ _<|p26 _ _<|y5 _ _<|y4 _ _<|p22 _ _<|y1 _ _ ?_
    refine iN (aM V.nilsl) (aM V.nilsl) (aM<|iV<|(bJ l.t o<|aA (dD l) m).2.2) (bH ?_) (bH ?_)<|aF ?_
    . rw [if_neg (by rw [hc2,fV (e:=sqE l o) d1 OM]; exact d1)]
    . rw [if_neg (by rw [hc2,fV (e:=sqE l o) d1 OM]; exact d1)]
    . rw [hc2,fV (e:=sqE l o) d1 OM]; rfl
   have d1:sqE l o m=0:=Decidable.not_not.1 c9;refine aB<|aO<|aV t1 h1 J J<|aP<|aI (aAH l o (aA (dD l) m) ho) J<|fF J<|bR ?_
   refine cU J (λc10=>?_) (λc10=>?_)
   . 
    have d2: ¬(eA o<|aA (dD l) m).isSome=true:=by simpa using c10
    refine aW<|aJ t6<|aP<|aS J J<|eX (l:=(pX l o m)) (f:=cL) (x:=(aA (dD l) m)) (aM<|V.ms 6 w2 0<|(pX l o m).length) h6 JR (aM<|V.sl [[(aE<|aA (dD l) m)]])<|aD<|aO<|aP<|bA J<|eD J J<|bR ?_
    refine aH J (λc11=>?_) λc11=>?_
    . 
     have d3:0 < (bJ l.t o<|aA (dD l) m).2.1.length:=OM
     refine dE (λT H=>T 1=(cG 1)/\T 5=(V.ms 5 v2 0 m)/\T 6=(V.ms 6 (w2+2) 0<|((pX l o m).length)+2)/\T 8=(aE<|aA (fU l.t) k)/\T 10=(aE<|aA (dD l) m)/\T 11=(iV<|(bJ l.t o<|aA (dD l) m).1)/\T 17=(aC<|fU l.t)/\T 18=(iV (((fU l.t).length:Nat):Int))/\T 19=(iV ((k:Nat):Int))/\T 25=(iV l.i)/\T 26=(iV ((j:Nat):Int))/\H 1=(bk 1 66 4 [[(iV l.i),(V.sl<|List.map cN l.t.nd),(iV o.i),(V.sl<|List.map cT o.tr)]])/\H 5=(bz v2 101 2<|List.map cXt<|iO (xtK l o) m)/\H 6=(bz (w2+2) 54 1<|List.map cL<|pX l o m++[aA (dD l) m]++[(bJ l.t o<|aA (dD l) m).2.1])/\True) ?_ ?_
     . 
      refine aP<|aP<|aS J J<|eX (l:=(pX l o m++[aA (dD l) m])) (f:=cL) (x:=((bJ l.t o<|aA (dD l) m).2.1)) (aM<|V.ms 6 (w2+1) 0<|((pX l o m).length)+1) (@J Blk<|bz (w2+1) 54 1<|List.map cL<|pX l o m++[aA (dD l) m]) SI (aM<|V.sl [[(aE<|(bJ l.t o<|aA (dD l) m).2.1)]])<|aP ?_
      exact eS ⟨t1,t5,J,t8,J,J,t17,t18,t19,t25,t26,h1,h5,J,trivial⟩
     intro T H ⟨t1,t5,t6,t8,t10,t11,t17,t18,t19,t25,t26,h1,h5,h6,_⟩;refine eI<|aJ t5<|aJ t10<|aJ t11<|bN J J<|aS J J<|eX (l:=(iO (xtK l o) m)) (f:=cXt) (x:=(⟨aA (dD l) m,(bJ l.t o<|aA (dD l) m).1⟩:Xt)) (aM<|V.ms 5 v2 0 m) h5 (by exact (fO _ _).symm) (aM<|V.sl [[(aE<|aA (dD l) m),(iV<|(bJ l.t o<|aA (dD l) m).1)]])<|aD<|n8 _ _ (.done (eI<|cF t26<|aD ?_))
     refine p16 _ _ _ ?_ ⟨(j+1),(v2+1),(w2+2),(m+1),J,t1,(bL (aM<|V.ms 5 (v2+1) 0<|m+1) JR),(bL t6 (by (rw [gZ OM]; unfold qr1; simp only [d2,d3,if_true,if_false,List.length_append]; rfl))),t8,t17,t18,t19,t25,(bL (cO<|j+1) JR),h1,(bL (@J Blk<|bz (v2+1) 101 2<|List.map cXt<|iO (xtK l o) m++[(⟨aA (dD l) m,(bJ l.t o<|aA (dD l) m).1⟩:Xt)]) (by (rw [iS]; rfl))),(bL h6 (by (rw [gZ OM]; unfold qr1; simp [d2,d3]; done))),?_,?_,?_,?_⟩
     . omega
     . omega
     . omega
     . omega
     . rw [hc2,fW (e:=sqE l o) (by exact d1) OM]
    have d3: ¬0 < (bJ l.t o<|aA (dD l) m).2.1.length:=OM
    refine aB ?_;refine tX (λT H=>T 1=(cG 1)/\T 5=(V.ms 5 (v2+1) 0<|m+1)/\T 6=(V.ms 6 (w2+1) 0<|((pX l o m).length)+1)/\T 8=(aE<|aA (fU l.t) k)/\T 17=(aC<|fU l.t)/\T 18=(iV (((fU l.t).length:Nat):Int))/\T 19=(iV ((k:Nat):Int))/\T 25=(iV l.i)/\T 26=(iV ((j:Nat):Int))/\H 1=(bk 1 66 4 [[(iV l.i),(V.sl<|List.map cN l.t.nd),(iV o.i),(V.sl<|List.map cT o.tr)]])/\H 5=(bz (v2+1) 101 2<|List.map cXt<|iO (xtK l o) m++[(⟨aA (dD l) m,(bJ l.t o<|aA (dD l) m).1⟩:Xt)])/\H 6=(bz (w2+1) 54 1<|List.map cL<|pX l o m++[aA (dD l) m])/\True) ?_ ?_
    . 
     refine aJ t5<|aP<|aP<|bN J J<|aS J J<|eX (l:=(iO (xtK l o) m)) (f:=cXt) (x:=(⟨aA (dD l) m,(bJ l.t o<|aA (dD l) m).1⟩:Xt)) (aM<|V.ms 5 v2 0 m) h5 (by exact (fO _ _).symm) (aM<|V.sl [[(aE<|aA (dD l) m),(iV<|(bJ l.t o<|aA (dD l) m).1)]])<|aP ?_
     exact eS ⟨t1,J,J,t8,t17,t18,t19,t25,t26,h1,J,J,trivial⟩
    intro T H ⟨t1,t5,t6,t8,t17,t18,t19,t25,t26,h1,h5,h6,_⟩;refine n8 _ _ (.done (eI<|cF t26<|aD ?_));refine p16 _ _ _ ?_ ⟨(j+1),(v2+1),(w2+1),(m+1),J,t1,(bL t5 JR),(bL t6 (by (rw [gZ OM]; unfold qr1; simp only [d2,d3,if_true,if_false,List.length_append]; rfl))),t8,t17,t18,t19,t25,(bL (cO<|j+1) JR),h1,(bL h5 (by (rw [iS]; rfl))),(bL h6 (by (rw [gZ OM]; unfold qr1; simp [d2,d3]; done))),?_,?_,?_,?_⟩
    . omega
    . omega
    . omega
    . omega
    . rw [hc2,fW (e:=sqE l o) (by exact d1) OM]
   have d2:(eA o<|aA (dD l) m).isSome=true:=by simpa using c10
   refine aB<|aO<|aP<|bA J<|eD J J<|bR ?_
   refine aH J (λc12=>?_) λc12=>?_
   . 
    have d3:0 < (bJ l.t o<|aA (dD l) m).2.1.length:=OM
    refine aW<|aJ t6<|aP<|aS J J<|eX (l:=(pX l o m)) (f:=cL) (x:=((bJ l.t o<|aA (dD l) m).2.1)) (aM<|V.ms 6 w2 0<|(pX l o m).length) h6 JR (aM<|V.sl [[(aE<|(bJ l.t o<|aA (dD l) m).2.1)]])<|aD ?_
    refine tX (λT H=>T 1=(cG 1)/\T 5=(V.ms 5 (v2+1) 0<|m+1)/\T 6=(V.ms 6 (w2+1) 0<|((pX l o m).length)+1)/\T 8=(aE<|aA (fU l.t) k)/\T 17=(aC<|fU l.t)/\T 18=(iV (((fU l.t).length:Nat):Int))/\T 19=(iV ((k:Nat):Int))/\T 25=(iV l.i)/\T 26=(iV ((j:Nat):Int))/\H 1=(bk 1 66 4 [[(iV l.i),(V.sl<|List.map cN l.t.nd),(iV o.i),(V.sl<|List.map cT o.tr)]])/\H 5=(bz (v2+1) 101 2<|List.map cXt<|iO (xtK l o) m++[(⟨aA (dD l) m,(bJ l.t o<|aA (dD l) m).1⟩:Xt)])/\H 6=(bz (w2+1) 54 1<|List.map cL<|pX l o m++[(bJ l.t o<|aA (dD l) m).2.1])/\True) ?_ ?_
    . 
     refine aJ t5<|aP<|aP<|bN J J<|aS J J<|eX (l:=(iO (xtK l o) m)) (f:=cXt) (x:=(⟨aA (dD l) m,(bJ l.t o<|aA (dD l) m).1⟩:Xt)) (aM<|V.ms 5 v2 0 m) h5 (by exact (fO _ _).symm) (aM<|V.sl [[(aE<|aA (dD l) m),(iV<|(bJ l.t o<|aA (dD l) m).1)]])<|aP ?_
     exact eS ⟨t1,J,J,t8,t17,t18,t19,t25,t26,h1,J,J,trivial⟩
    intro T H ⟨t1,t5,t6,t8,t17,t18,t19,t25,t26,h1,h5,h6,_⟩;refine n8 _ _ (.done (eI<|cF t26<|aD ?_));refine p16 _ _ _ ?_ ⟨(j+1),(v2+1),(w2+1),(m+1),J,t1,(bL t5 JR),(bL t6 (by (rw [gZ OM]; unfold qr1; simp only [d2,d3,if_true,if_false,List.length_append]; rfl))),t8,t17,t18,t19,t25,(bL (cO<|j+1) JR),h1,(bL h5 (by (rw [iS]; rfl))),(bL h6 (by (rw [gZ OM]; unfold qr1; simp [d2,d3]; done))),?_,?_,?_,?_⟩
    . omega
    . omega
    . omega
    . omega
    . rw [hc2,fW (e:=sqE l o) (by exact d1) OM]
   have d3: ¬0 < (bJ l.t o<|aA (dD l) m).2.1.length:=OM
   refine aB<|eI<|aJ t5<|aP<|aP<|bN J J<|aS J J<|eX (l:=(iO (xtK l o) m)) (f:=cXt) (x:=(⟨aA (dD l) m,(bJ l.t o<|aA (dD l) m).1⟩:Xt)) (aM<|V.ms 5 v2 0 m) h5 (by exact (fO _ _).symm) (aM<|V.sl [[(aE<|aA (dD l) m),(iV<|(bJ l.t o<|aA (dD l) m).1)]])<|aD<|n8 _ _ (.done ?_)
   refine tX (λT H=>T 1=(cG 1)/\T 5=(V.ms 5 (v2+1) 0<|m+1)/\T 6=(V.ms 6 w2 0<|(pX l o m).length)/\T 8=(aE<|aA (fU l.t) k)/\T 17=(aC<|fU l.t)/\T 18=(iV (((fU l.t).length:Nat):Int))/\T 19=(iV ((k:Nat):Int))/\T 25=(iV l.i)/\T 26=(iV ((j+1:Nat):Int))/\H 1=(bk 1 66 4 [[(iV l.i),(V.sl<|List.map cN l.t.nd),(iV o.i),(V.sl<|List.map cT o.tr)]])/\H 5=(bz (v2+1) 101 2<|List.map cXt<|iO (xtK l o) m++[(⟨aA (dD l) m,(bJ l.t o<|aA (dD l) m).1⟩:Xt)])/\H 6=(bz w2 54 1<|List.map cL<|pX l o m)/\True) ?_ ?_
   . 
    refine cF t26<|aP ?_
    exact eS ⟨t1,J,t6,t8,t17,t18,t19,t25,J,h1,J,h6,trivial⟩
   intro T H ⟨t1,t5,t6,t8,t17,t18,t19,t25,t26,h1,h5,h6,_⟩;refine p16 _ _ _ ?_ ⟨(j+1),(v2+1),w2,(m+1),J,t1,(bL t5 JR),(bL t6 (by (rw [gZ OM]; unfold qr1; simp only [d2,d3,if_true,if_false,List.length_append]; rfl))),t8,t17,t18,t19,t25,(bL t26 JR),h1,(bL h5 (by (rw [iS]; rfl))),(bL h6 (by (rw [gZ OM]; unfold qr1; simp [d2,d3]; done))),?_,?_,?_,?_⟩
   . omega
   . omega
   . omega
   . omega
   . rw [hc2,fW (e:=sqE l o) (by exact d1) OM]
  refine aT<|p36 _ _ _<|x5 _ _<|n4 _ _ (.done (eI<|cF t19<|aD ?_))
  refine p12 _ _ _ ?_ ⟨(k+1),v2,w2,m,J,t1,t5,t6,t17,t18,(bL (cO<|k+1) JR),h1,h5,h6,?_,?_,?_,?_⟩
  . omega
  . omega
  . rw [Nat.succ_mul]; omega
  . omega
  . exact hc2
 have hz:lE l o=0:=by rw [hc,iM (by rw [hxl,hn,show k=(fU l.t).length by omega]; exact Nat.le_refl _)]
 have hnx:n=(dD l).length:=by rw [hxl,hn,show k=(fU l.t).length by omega]
 have hq:=aIc (l:=l) (o:=o) (k:=n) OM;have hql:=aIq o h;refine aT<|p32 _ _ _<|x1 _ _ ?_
 refine .freeze 6 (.done ?_);refine aW<|aJ (bB t5<|eE DE)<|aJ (bB t6<|mL h6 SI (l:=(pX l o n)) J JR)<|aI (zO (pX l o n) (by rw [hq]; omega) (by rw [hq]; exact λw hw=>aEt h hw)) J<|aP<|aP<|aD<|bF ?_
 refine iN (aM<|V.ms 5 v 0 n) (aM<|aC<|oD<|pX l o n) (aM<|iV 0) (iK (aR (id:=6) h5 DE) SI (l:=(iO (xtK l o) n)) J (by exact (fO _ _).symm) (λ_=>by simp) ?_) (cA ?_ (λ_=>by simp))<|aF ?_
 . rw [if_pos hz,hnx]; rfl
 . rw [if_pos hz,hq]
 . exact hz.symm
theorem xB (l:Ts) (o:Ob) (n:Int) (h0:0<=n) (h1:n < l.t.nd.length):bK Tryz.prog 49 [(V.agg [(iV l.i),(V.sl (List.map cN l.t.nd)),(iV o.i),(V.sl (List.map cT o.tr))]),(iV n)] (V.bool ((aA l.t.nd n.toNat).lf)):=by
 refine' pK [] [] Tryz.func49 ?e λhB=>?_
 case e=>conv=>lhs; cbv
 dsimp only;refine aW<|bS (i:=2) (n:=0) (m:=4) (cs:=[(iV l.i),(V.sl<|List.map cN l.t.nd),(iV o.i),(V.sl<|List.map cT o.tr)]) J (cE J) J J J<|aD<|aW<|cM J J<|cM J J<|aX J J J J<|aP<|dR (i:=n) (aM<|V.sl<|List.map cN l.t.nd) (aM<|iV n) OM OM J<|dB (cs':=(cN<|aA l.t.nd n.toNat)) J J<|aL J J<|aD<|bF ?_
 refine aZ (aM<|V.bool<|(aA l.t.nd n.toNat).lf)<|cH ?_
 . rfl
theorem aBN (t:Dt) (n:Int) (b:Bool):bK Tryz.prog 97 [(V.agg [(V.sl (List.map cN t.nd))]),(iV n),(V.bool b)] (iV (noE t n b)):=by
 refine' pK [] [] Tryz.func97 ?e λhB=>?_
 case e=>conv=>lhs; cbv
 dsimp only;refine aW<|bS (i:=3) (n:=0) (m:=1) (cs:=[(V.sl<|List.map cN t.nd)]) J (cE J) J J J<|aD (aG λQ1 n1 x1 y1 z1=>(aW<|aP<|bZ J J<|aP ?_))
 refine bU 6 (λT H=>T 1=(iV n)/\T 2=(V.bool b)/\T 3=(cG 3)/\T 16=(V.bool<|decide ((n < (0:Int))\/(((t.nd.length:Nat):Int)<=n)))/\H 3=(bk 1 47 1 [[(V.sl<|List.map cN t.nd)]])/\True) ?_ ?_
 . 
  by_cases g2:n < (0:Int)
  . 
   refine bW (bY g2 J)<|bW (bY g2 J)<|bW (bY g2 J)<|bW (bY g2 J)<|bW (bY g2 J)<|bV (bY g2 J) J ?_
   exact ⟨J,J,J,(dZ g2),J,trivial⟩
  . 
   refine aN (bX g2 J)<|aP<|aN (bX g2 J)<|cM J J<|aN (bX g2 J)<|aV J J J J<|aN (bX g2 J)<|bA J<|aN (bX g2 J)<|iC J J<|bT (bX g2 J) J ?_
   exact ⟨J,J,J,(dX g2),J,trivial⟩
 intro T H ⟨t1,t2,t3,t16,h3,_⟩;refine aJ t16<|bR ?_
 refine fN J (λc3=>?_) λc3=>?_
 . 
  refine aW<|aD<|bF<|y1 _ _ ?_
  refine aZ (aM<|iV 2)<|aF ?_
  . rw [noE,if_pos OM]
 refine aW<|aX t3 h3 J J<|aJ t1<|dR (i:=n) (aM<|V.sl<|List.map cN t.nd) (aM<|iV n) OM OM J<|dB (cs':=(cN<|aA t.nd n.toNat)) J J<|aL J J<|aJ t2<|aKn (x:=((aA t.nd n.toNat).lf)) (y:=b) J J<|aD ?_
 refine mJ J (λc4=>?_) (λc4=>?_)
 . 
  have d1:(aA t.nd n.toNat).lf≠b:=by simpa using c4
  refine aW<|aD<|bF<|y1 _ _ ?_
  refine aZ (aM<|iV 10)<|aF ?_
  . rw [noE,if_neg OM,if_pos d1]
 have d1: ¬((aA t.nd n.toNat).lf≠b):=by simpa using c4
 refine dH<|n1 _ _ (.done (aW<|aD<|bF ?_))
 refine aZ (aM<|iV 0)<|aF ?_
 . rw [noE,if_neg OM,if_neg d1]
def aOU:SF:=⟨9,[.tmp 4],.seq (.reg [sO 4 (.mv (.c (.bool false)))]) (.seq (.reg [qM 5 0,qM 6 1,sO 7 (.call false 53 [.t 5,.t 6]),qC 8 .geq 7 0,qM 4 8]) (.ret))⟩
theorem aNz:mO Tryz.prog ⟨[101,102,103,111,112,126,130,155,156,157,158,159,163,165,188,193,197,201],[],[],[]⟩ Tryz.f183=some aOU:=by kernel_rfl
def aOe:SC:=.seq (.reg [qP 9 .lss 8 7]) (.seq (.cond (.t 9) (.skip) (.exit 0)) (.seq (.block 1 (.seq (.reg [qM 10 8,qM 5 10]) (.seq (.reg [qM 11 1,qM 12 0,qM 13 5,qA 14 1 12 13,ql 15 14,sO 16 (.callv false (.t 11) [.t 15])]) (.cond (.t 16) (.seq (.reg [qM 17 5,qM 4 17]) (.ret)) (.skip))))) (.reg [qC 18 .add 8 1,qM 8 18])))
def s53:SF:=⟨19,[.tmp 4],.seq (.reg [qI 4 0]) (.seq (.seq (.reg [qM 6 0,qN 7 6,qI 8 0]) (.block 0 (.loop aOe))) (.seq (.reg [sO 4 (.mv (.c (.int .i64 (-1))))]) (.ret)))⟩
theorem aOG:mO Tryz.prog ⟨[101,102,103,111,112,126,130,155,156,157,158,159,163,165,188,193,197,201],[],[],[]⟩ Tryz.f53=some s53:=by kernel_rfl
theorem aCC (p:(List Int)->Bool) (w:List (List Int)) (g:Nat) (caps:List V) (hca:fC caps=true) (hpu:gF caps=true) (hq: ∀ k,k < w.length->bK Tryz.prog g (aE (aA w k)::caps) (.bool (p (aA w k)))):bK Tryz.prog 53 [(aC w),(V.fn g [] caps)] (iV (fi (λjx=>p (aA w jx)) 0 w.length)):=by
 refine nB true 6 Tryz.func53 aOG (by kernel_rfl) (by simp [s53]) (by simp [hpu]) SI λhB=>?_;simp only [mG,mB,jW,mF,mQ,pV,mD,kC,implies_true,and_true,true_and] at hB;unfold s53;dsimp only;refine aW<|aD<|aO<|aP<|bA J<|aD (aG λQ1 n1 x1 y1 z1=>?_)
 refine cC (λmm T H=> ∃ (k:Nat),mm=w.length - k/\T 0=(aC w)/\T 1=(V.fn g [] caps)/\T 7=(iV ((w.length:Nat):Int))/\T 8=(iV ((k:Nat):Int))/\(k<=w.length)/\(fi (λj=>p<|aA w j) 0 w.length=fi (λj=>p<|aA w j) k (w.length - k))) ?_ ?_
 . 
  refine ⟨_,0,J,J,J,J,(bL (aM<|iV 0) J),?_,?_⟩
  . omega
  . rfl
 intro mm T H ⟨k,hmm,t0,t1,t7,t8,hk,hc⟩ Q2 p12 p22 p32;unfold aOe;refine aW<|bZ t8 t7<|bR ?_
 refine aH J (λc3=>?_) λc3=>?_
 . 
  refine aB (aG λQ4 n4 x4 y4 z4=>(aW<|aJ t8<|aD<|aW<|aJ t1<|aJ t0<|aP<|dA (i:=k) (aM<|aC w) (cO k)<|aL J J<|iP (aM<|V.fn g [] caps) (bO (aM<|aE<|aA w k) dQ) (hq k OM) (eF _ _ (by simp [hca])) (by simp [hpu]) (Or.inl (by simp [hpu]))<|bR ?_));refine mJ J (λc5=>?_) (λc5=>?_)
  . 
   have d1:=c5;refine aW<|aP<|aD<|bF<|y4 _ _<|p22 _ _<|y1 _ _ ?_
   refine aZ (cO k)<|aF ?_
   . rw [hc,mI (by exact d1) OM]
  have d1:=c5;refine dH<|n4 _ _ (.done (eI<|cF t8<|aD ?_))
  refine p12 _ _ _ ?_ ⟨(k+1),J,t0,t1,t7,(bL (cO<|k+1) JR),?_,?_⟩
  . omega
  . omega
  . rw [hc,kL (by exact d1) OM]
 refine aT<|p32 _ _ _<|x1 _ _ (.done (aW<|aD<|bF ?_))
 refine aZ (aM<|iV (-1))<|aF ?_
 . rw [hc,kD OM]
theorem aIC (p:(List Int)->Bool) (w:List (List Int)) (g:Nat) (caps:List V) (hca:fC caps=true) (hpu:gF caps=true) (hq: ∀ k,k < w.length->bK Tryz.prog g (aE (aA w k)::caps) (.bool (p (aA w k)))):bK Tryz.prog 183 [(aC w),(V.fn g [] caps)] (V.bool (decide (0<=fi (λjx=>p (aA w jx)) 0 w.length))):=by
 refine nB true 6 Tryz.func183 aNz (by kernel_rfl) (by simp [aOU]) (by simp [hpu]) SI λhB=>?_;simp only [mG,mB,jW,mF,mQ,pV,mD,kC,implies_true,and_true,true_and] at hB;unfold aOU;dsimp only;refine aW<|aD<|aW<|aP<|aP<|jN (bO (aM<|aC w)<|bO (aM<|V.fn g [] caps) dQ) (aCC p w g caps hca hpu hq) (eF _ _ (by simp [hca,hpu,-List.map_take,-List.map_drop,-List.map_append,-List.map_reverse])) (by simp [hca,hpu,-List.map_take,-List.map_drop,-List.map_append,-List.map_reverse]) (Or.inl (by simp [hca,hpu,-List.map_take,-List.map_drop,-List.map_append,-List.map_reverse]))<|iC J J<|aD<|bF ?_
 refine aZ (aM<|V.bool<|decide ((0:Int)<=(fi (λjx=>p<|aA w jx) 0 w.length)))<|cH ?_
 . first|rfl|omega|simp_all
theorem nQ (a b:List Int):bK Tryz.prog 55 [(aE a),(aE b)] (V.bool (decide (a=b))):=by
 refine' pK [] [] Tryz.func55 ?e λhB=>?_
 case e=>conv=>lhs; cbv
 dsimp only;refine aW<|aD<|aO<|aP<|bA J<|aP<|bA J<|bP J J<|bR ?_
 refine aH J (λc1=>?_) λc1=>?_
 . 
  refine aO<|aD<|aK ?_
  refine aZ (aM<|V.bool false)<|cH ?_
  . exact (decide_eq_false (λe=>by subst e; omega)).symm
 refine aB<|aO<|aP<|bA J<|aD (aG λQ2 n2 x2 y2 z2=>?_)
 refine cC (λmm T H=> ∃ (k:Nat),mm=a.length - k/\T 0=(aE a)/\T 1=(aE b)/\T 12=(iV ((a.length:Nat):Int))/\T 13=(iV ((k:Nat):Int))/\(k<=a.length)/\(a.length=b.length)/\(∀ j,j < k->aA a j=aA b j)) ?_ ?_
 . 
  refine ⟨_,0,J,J,J,J,(bL (aM<|iV 0) J),?_,?_,?_⟩
  . omega
  . omega
  . intro j hj; omega
 intro mm T H ⟨k,hmm,t0,t1,t12,t13,hk,hl,hc⟩ Q3 p13 p23 p33;refine aW<|bZ t13 t12<|bR ?_
 refine aH J (λc4=>?_) λc4=>?_
 . 
  refine aB (aG λQ5 n5 x5 y5 z5=>(aW<|aJ t13<|aD<|aW<|aJ t0<|aP<|dA (i:=k) (aM<|aE a) (cO k)<|aL J J<|aJ t1<|aP<|dA (i:=k) (aM<|aE b) (cO k)<|aL J J<|bP J J ?_));refine bR ?_;refine fN J (λc6=>?_) λc6=>?_
  . 
   refine aW<|aD<|bF<|y5 _ _<|p23 _ _<|y2 _ _ ?_
   refine aZ (aM<|V.bool false)<|cH ?_
   . exact (decide_eq_false (λe=>by subst e; omega)).symm
  refine dH<|n5 _ _ (.done (eI<|cF t13<|aD ?_))
  refine p13 _ _ _ ?_ ⟨(k+1),J,t0,t1,t12,(bL (cO<|k+1) JR),?_,?_,?_⟩
  . omega
  . omega
  . omega
  . intro j hj
    by_cases e:j=k
    . subst e; omega
    . exact hc j OM
 refine aT<|p33 _ _ _<|x2 _ _ (.done (aW<|aD<|bF ?_))
 refine aZ (aM<|V.bool true)<|cH ?_
 . exact (decide_eq_true (jT hl λj hj=>hc j OM)).symm
theorem aIP (v w:List Int):bK Tryz.prog 184 [(aE v),(V.pp [(aE w)])] (V.bool (decide (v=w))):=by
 refine' pK [] [] Tryz.func184 ?e λhB=>?_
 case e=>conv=>lhs; cbv
 dsimp only;refine aW<|aD<|aW<|aP<|aL J J<|aI (nQ v w) J<|aD<|bF ?_
 refine aZ (aM<|V.bool<|decide (v=w))<|eM SI J
theorem aLD (l:List (List Int)) (w:List Int):bK Tryz.prog 146 [(aC l),(aE w)] (V.bool (decide (w∈l))):=by
 refine' pK [] [] Tryz.func146 ?e λhB=>?_
 case e=>conv=>lhs; cbv
 dsimp only;refine aW<|bS (i:=3) (n:=0) (m:=1) (cs:=[(aE w)]) J (cE J) J J J<|aD<|aW<|aP<|yG (bO J dQ)<|jN (bO (aM<|aC l)<|bO (aM<|V.fn 184 [] [(cG 3)]) dQ) (aIC (λv=>decide (v=w)) l 184 ([(V.pp [(aE w)])]) SI SI (λk _=>aIP (aA l k) w)) (cZ (dM 6 _ (by simp [-List.map_take,-List.map_drop,-List.map_append,-List.map_reverse]))<|cZ (aDK (@J Blk<|bk 1 54 1 [[(aE w)]]) (by simp [-List.map_take,-List.map_drop,-List.map_append,-List.map_reverse])) J) (by simp [-List.map_take,-List.map_drop,-List.map_append,-List.map_reverse]) (Or.inr J)<|aD<|bF ?_
 refine aZ (aM<|V.bool<|decide (0<=fi (λjx=>(λv=>decide (v=w)) (aA l jx)) 0 l.length))<|cH ?_
 . exact decide_eq_decide.2 aPG
theorem aAM (t:Dt) (w:List Int) (hb:Bd t):bK Tryz.prog 100 [(V.agg [(V.sl (List.map cN t.nd))]),(aE w)] (iV (fsE t w)):=by
 refine' pK [] [] Tryz.func100 ?e λhB=>?_
 case e=>conv=>lhs; cbv
 dsimp only;refine aW<|bS (i:=2) (n:=0) (m:=1) (cs:=[(V.sl<|List.map cN t.nd)]) J (cE J) J J J<|aD<|aO<|aP<|aI (gL w (64:Int)) J<|aD<|aO<|aP<|bP J J<|bR ?_
 refine aH J (λc1=>?_) λc1=>?_
 . 
  refine aO<|aP<|aD<|aK ?_
  refine aZ (aM<|iV<|dG w (64:Int))<|aF ?_
  . rw [fsE,if_pos OM]
 refine aB<|aO<|aV J J J J<|aI (uM t hb) J<|aP<|aI (aLD (eP t.nd) w) J<|bR ?_
 refine aH J (λc2=>?_) λc2=>?_
 . 
  have d1:w∈eP t.nd:=by simpa using c2
  refine aO<|aD<|aK ?_
  refine aZ (aM<|iV 7)<|aF ?_
  . rw [fsE,if_neg OM,if_pos d1]
 have d1: ¬(w∈eP t.nd):=by simpa using c2
 refine aB<|aW<|aD<|bF ?_
 refine aZ (aM<|iV 0)<|aF ?_
 . rw [fsE,if_neg OM,if_neg d1]
end
section
open Go Go.Proofs
attribute [local irreducible] aBJ
theorem aKU (t:Dt) (u1 u2 u5 u12 u28 u58:Nat) (Hi:bC) (hb:Bd t) (h201:(Hi 201).ver=u1) (h202:(Hi 202).ver=u2) (h205:(Hi 205).ver=u5) (h212:(Hi 212).ver=u12) (h228:(Hi 228).ver=u28) (h258:(Hi 258).ver=u58/\(Hi 258).live=false):fA Tryz.prog 101 [(V.agg [(V.sl (List.map cN t.nd))])] Hi (V.agg [(V.ms 212 (u12+1) 0 t.nd.length)]) (cX (cX (cX (cX (cX (cX Hi 201 (⟨u1+1,false,false,0,0,[]⟩:Blk)) 202 (⟨u2+1,false,false,0,0,[]⟩:Blk)) 205 (⟨u5+t.nd.length,false,false,0,0,[]⟩:Blk)) 228 (⟨u28+t.nd.length*1048578,false,false,0,0,[]⟩:Blk)) 258 (⟨u58+3*t.nd.length,false,false,0,0,[]⟩:Blk)) 212 (bk (u12+1) 108 5 (List.map cN t.nd))):=by
 refine' eK [58] [⟨12,[0,1,2,3,4,5,6,7,8,9,10,11,12,13,14,15,16,17,18],[58],[]⟩] (k0:=200) Tryz.func101 ?e λhB=>?_
 case e=>conv=>lhs; cbv
 have hbn:=hb.n;dsimp only;refine aW<|bS (i:=201) (n:=u1) (m:=1) (cs:=[(V.sl<|List.map cN t.nd)]) JR h201 J J J<|bM (i:=202) (n:=u2) (m:=1) JR h202 J<|qV<|aX J J J J<|bA J ?_
 refine (aAO (i:=212) (n:=u12) (m:=t.nd.length) (q:=t.nd.length) JR h212 (cO t.nd.length) (cO t.nd.length) OM OM OM ?_);refine aD<|aW<|aP<|aX J J J J<|aLn (l:=t.nd) (f:=cN) (n:=5) (aM<|V.ms 212 (u12+1) 0 t.nd.length) (aM<|V.sl<|List.map cN t.nd) (@J Blk<|bk (u12+1) 108 5<|List.replicate t.nd.length [(V.bool false),V.nilsl,V.nilsl,V.nilsl,V.nilsl]) SI (λ_=>⟨J,J⟩)<|tA<|aW<|aP<|dW J (@J Blk<|bk (u12+1) 108 5<|List.map cN t.nd) SI<|aD (aG λQ1 n1 x1 y1 z1=>?_)
 refine cC (λmm T H=> ∃ (k:Nat) (v205:Nat) (v228:Nat) (v258:Nat),mm=t.nd.length - k/\T 2=(V.mp 202 (u2+1) 0 0)/\T 3=(V.ms 212 (u12+1) 0 t.nd.length)/\T 17=(V.ms 212 (u12+1) 0 t.nd.length)/\T 18=(iV ((t.nd.length:Nat):Int))/\T 19=(iV ((k:Nat):Int))/\(∀ j,j∉[201,202,205,228,258,212]->H j=Hi j)/\H 201=(bk (u1+1) 47 1 [[(V.sl<|List.map cN t.nd)]])/\H 202=(bk (u2+1) 47 1 [[V.nilsl]])/\(H 205).ver=v205/\H 212=(bk (u12+1) 108 5<|List.map cN t.nd)/\(H 228).ver=v228/\((H 258).ver=v258/\(H 258).live=false)/\(k<=t.nd.length)/\(v205=u5+k)/\(v228<=u28+k*1048578)/\(v258=u58+3*k)) ?_ ?_
 . 
  refine ⟨_,0,u5,u28,u58,J,J,J,J,J,(bL (aM<|iV 0) J),(bG (bG (bG (bG (λ_ _=>J) DE) DE) DE) DE),J,J,h205,J,h228,h258,?_,?_,?_,?_⟩
  . omega
  . omega
  . omega
  . omega
 intro mm T H ⟨k,v205,v228,v258,hmm,t2,t3,t17,t18,t19,hF,h201,h202,h205,h212,h228,h258,hk,hv5,hv28,hv7⟩ Q2 p12 p22 p32

 refine aW<|bZ t19 t18<|bR ?_
 refine aH J (λc3=>?_) λc3=>?_
 . 
  have r1:=hb.ac k OM;have r2:=hb.sf k OM;have r3:=hb.ou k OM;have r4:=hb.kd k OM;have r5:=hb.ol k OM;refine aB (aG λQ4 n4 x4 y4 z4=>(aW<|aJ t19<|dC (i:=k) t17 t19 h212 oB J OM<|cQ (v:=(V.agg<|cN<|aA t.nd k)) J h212 (dS OM JR)<|bM (i:=205) (n:=v205) (m:=5) JR h205 J<|aP<|bQ J J J J J J J J J<|qV<|aX J J J J<|bA J<|cF J ?_));refine (aAO (i:=228) (n:=v228) (m:=0) (q:=((((aA t.nd k).ou).length)+1)) JR h228 (aM<|iV 0) (cO<|(((aA t.nd k).ou).length)+1) OM OM OM ?_);refine aD<|aO<|aX J J J J<|bA J<|aD (aG λQ5 n5 x5 y5 z5=>?_)
  refine cC (λmm T H=> ∃ (j:Nat) (w:Nat),mm=(aA t.nd k).ou.length - j/\T 2=(V.mp 202 (u2+1) 0 0)/\T 3=(V.ms 212 (u12+1) 0 t.nd.length)/\T 4=(iV ((k:Nat):Int))/\T 5=(V.mp 205 (v205+1) 0 0)/\T 6=(V.ms 228 w 0 j)/\T 17=(V.ms 212 (u12+1) 0 t.nd.length)/\T 18=(iV ((t.nd.length:Nat):Int))/\T 19=(iV ((k:Nat):Int))/\T 30=(aC<|(aA t.nd k).ou)/\T 31=(iV ((((aA t.nd k).ou).length:Nat):Int))/\T 32=(iV ((j:Nat):Int))/\(∀ j,j∉[201,202,205,228,258,212]->H j=Hi j)/\H 201=(bk (u1+1) 47 1 [[(V.sl<|List.map cN t.nd)]])/\H 202=(bk (u2+1) 47 1 [[V.nilsl]])/\H 205=(bk (v205+1) 108 5 [(cN<|aA t.nd k)])/\H 212=(bk (u12+1) 108 5<|List.map cN t.nd)/\H 228=(bk w 54 1<|List.map cL<|(aA t.nd k).ou.take j)/\((H 258).ver=v258/\(H 258).live=false)/\(j<=(aA t.nd k).ou.length)/\(w<=v228+1+j)) ?_ ?_
  . 
   refine ⟨_,0,(v228+1),J,t2,t3,J,J,(bL (aM<|V.ms 228 (v228+1) 0 0) JR),t17,t18,t19,J,J,(bL (aM<|iV 0) J),(bG (bG (bG hF DE) DE) DE),h201,h202,J,h212,(bL (@J Blk<|bk (v228+1) 54 1<|List.replicate 0 [V.nilsl]) JR),h258,?_,?_⟩
   . omega
   . omega
  intro mm T H ⟨j,w,hmm,t2,t3,t4,t5,t6,t17,t18,t19,t30,t31,t32,hF,h201,h202,h205,h212,h228,h258,hj,hw⟩ Q6 p16 p26 p36;refine aW<|bZ t32 t31<|bR ?_
  refine aH J (λc7=>?_) λc7=>?_
  . 
   have r6:=r5 j OM;refine aB (aG λQ8 n8 x8 y8 z8=>(aW<|dA (i:=j) t30 t32<|aL J J<|aD<|eI<|aJ t6<|aP<|aS J J<|aI (dP ([(aA ((aA t.nd k).ou) j)]) (by simp only [bD,List.append_nil]; omega)) J<|aS J J<|eX (l:=((aA t.nd k).ou.take j)) (f:=cL) (x:=(bD<|[(aA ((aA t.nd k).ou) j)])) (aM<|V.ms 228 w 0 j) h228 (by (rw [List.length_take]; omega)) (aM<|V.sl [[(aE<|bD<|[(aA ((aA t.nd k).ou) j)])]])<|aD ?_));refine n8 _ _ (.done (eI<|cF t32<|aD ?_));refine p16 _ _ _ ?_ ⟨(j+1),(w+1),J,t2,t3,t4,t5,(bL (aM<|V.ms 228 (w+1) 0<|j+1) JR),t17,t18,t19,t30,t31,(bL (cO<|j+1) JR),(bG hF DE),h201,h202,h205,h212,(bL (@J Blk<|bk (w+1) 54 1<|List.map cL<|(aA t.nd k).ou.take j++[bD ([(aA ((aA t.nd k).ou) j)])]) (by (rw [uA (show j < (aA t.nd k).ou.length by omega)]; done))),h258,?_,?_⟩
   . omega
   . omega
   . omega
  refine aT<|p36 _ _ _<|x5 _ _ (.done (aPx (by exact (oP h258.2 qQ))<|aJ t3<|aJ t4<|aX t5 h205 J J<|aX t5 h205 J J<|aS J J<|aI (dP ([(aA t.nd k).ac]) (by simp only [bD,List.append_nil]; omega)) J<|aX t5 h205 J J<|aS J J ?_))
  refine aI (dP ([(aA t.nd k).sf]) (by simp only [bD,List.append_nil]; omega)) J<|aJ t6<|aX t5 h205 J J<|aBm (i:=258) (n:=v258) (B:=(bz (v258+3) 3 1<|List.map cI<|(aA t.nd k).kd)) JR h258.1 (bO J dQ) J (λH2 h2=>aD9 258 DE ((aA t.nd k).kd) v258 H2 h2 OM)<|bN J J<|dC (i:=k) (aM<|V.ms 212 (u12+1) 0 t.nd.length) (cO k) h212 oB J OM<|dU (vs:=[(V.bool<|(aA t.nd k).lf),(aE<|bD<|[(aA t.nd k).ac]),(aE<|bD<|[(aA t.nd k).sf]),(V.ms 228 w 0 j),(V.ms 258 (v258+3) 0<|((aA t.nd k).kd).length)]) (B':=(bk (u12+1) 108 5<|(List.map cN t.nd).set k [(V.bool<|(aA t.nd k).lf),(aE<|bD<|[(aA t.nd k).ac]),(aE<|bD<|[(aA t.nd k).sf]),(V.ms 228 w 0 j),(V.ms 258 (v258+3) 0<|((aA t.nd k).kd).length)])) J J J h212 (rV (i:=k) OM J J J)<|bR<|n4 _ _ ?_
  refine gI (id:=228) (id2:=212) (rows:=(List.map cN t.nd)) (i:=k) (off:=3) (r:=[(V.bool<|(aA t.nd k).lf),(aE<|bD<|[(aA t.nd k).ac]),(aE<|bD<|[(aA t.nd k).sf]),(V.ms 228 w 0 j),(V.ms 258 (v258+3) 0<|((aA t.nd k).kd).length)]) (m:=((aA t.nd k).ou.take j)) (g:=cL) DE h228 (@J Blk<|bk (u12+1) 108 5<|(List.map cN t.nd).set k [(V.bool<|(aA t.nd k).lf),(aE<|bD<|[(aA t.nd k).ac]),(aE<|bD<|[(aA t.nd k).sf]),(V.ms 228 w 0 j),(V.ms 258 (v258+3) 0<|((aA t.nd k).kd).length)]) (by (simp; omega)) (by (rw [List.length_take]; omega)) J ?_;refine gI (id:=258) (id2:=212) (rows:=(List.map cN t.nd)) (i:=k) (off:=4) (r:=[(V.bool<|(aA t.nd k).lf),(aE<|bD<|[(aA t.nd k).ac]),(aE<|bD<|[(aA t.nd k).sf]),(aC<|(aA t.nd k).ou.take j),(V.ms 258 (v258+3) 0<|((aA t.nd k).kd).length)]) (m:=((aA t.nd k).kd)) (g:=cI) DE (@J Blk<|bz (v258+3) 3 1<|List.map cI<|(aA t.nd k).kd) (@J Blk<|bk (u12+1) 108 5<|(List.map cN t.nd).set k [(V.bool<|(aA t.nd k).lf),(aE<|bD<|[(aA t.nd k).ac]),(aE<|bD<|[(aA t.nd k).sf]),(aC<|(aA t.nd k).ou.take j),(V.ms 258 (v258+3) 0<|((aA t.nd k).kd).length)]) (by (simp; omega)) JR J (.done ?_);refine eI<|cF (bB (id:=258) (bB (id:=228) t19 J) J)<|aD ?_
  refine p12 _ _ _ ?_ ⟨(k+1),(v205+1),w,(v258+3),J,(bB (id:=258) (bB (id:=228) t2 J) J),(bB (bB t3<|eE DE)<|eE DE),(bB (bB t17<|eE DE)<|eE DE),(bB (id:=258) (bB (id:=228) t18 J) J),(bL (cO<|k+1) JR),(bG (kF (bG (kF (bG (bG hF DE) DE) DE) DE) DE) DE),(aR (id:=258) (aR (id:=228) h201 DE) DE),(aR (id:=258) (aR (id:=228) h202 DE) DE),(cE<|aR (id:=258) (aR (id:=228) h205 DE) DE),(bL ((by (rw [aU,List.map_set]; rfl)):_=(bk (u12+1) 108 5<|List.map cN<|t.nd.set k (⟨(aA t.nd k).lf,bD ([(aA t.nd k).ac]),bD ([(aA t.nd k).sf]),(aA t.nd k).ou.take j,(aA t.nd k).kd⟩:Nd))) (by (rw [aG3 (show k < t.nd.length by omega) (show (aA t.nd k).ou.length<=j by omega)]; done))),(gS (id:=258)<|gH (id:=228)<|cE h228).1,⟨J,J⟩,?_,?_,?_,?_⟩
  . omega
  . omega
  . omega
  . omega
  . omega
 refine aT<|p32 _ _ _<|x1 _ _ (.done (aW<|aJ t3<|bN J J<|bQ t2 J J h202 J J J J J<|R_q<|eJ (R:=λT H=>T 2=(V.mp 202 (u2+1) 0 0)/\(∀ j,j∉[201,202,205,228,258,212]->H j=Hi j)/\H 201=(bk (u1+1) 47 1 [[(V.sl<|List.map cN t.nd)]])/\H 202=(bk (u2+1) 47 1 [[(V.ms 212 (u12+1) 0 t.nd.length)]])/\(H 205).ver=v205/\H 212=(bk (u12+1) 108 5<|List.map cN t.nd)/\(H 228).ver=v228/\((H 258).ver=v258/\(H 258).live=false)/\True) ⟨t2,(bG hF DE),h201,J,h205,h212,h228,h258,trivial⟩ ?_))
 intro T H ⟨t2,hF,h201,h202,h205,h212,h228,h258,_⟩;have hkn:k=t.nd.length:=OM
 subst hkn;have fh:=dK.fin<|dK.put (dK.putv (n:=v258) (B:=(⟨u58+3*t.nd.length,false,false,0,0,[]⟩:Blk)) (dK.putv (n:=v228) (B:=(⟨u28+t.nd.length*1048578,false,false,0,0,[]⟩:Blk)) (dK.putv (n:=v205) (B:=(⟨u5+t.nd.length,false,false,0,0,[]⟩:Blk)) (dK.putv (n:=(u2+1)) (B:=(⟨u2+1,false,false,0,0,[]⟩:Blk)) (dK.putv (n:=(u1+1)) (B:=(⟨u1+1,false,false,0,0,[]⟩:Blk)) (dK.start hF) (cE h201) (by show _<=u1+1; omega) J) (cE h202) (by show _<=u2+1; omega) J) h205 (by show _<=u5+t.nd.length; omega) J) h228 (by show _<=u28+t.nd.length*1048578; omega) J) h258.1 (by show _<=u58+3*t.nd.length; omega) J) h212<|iZ.eq J
 exact aEd (bI (u:=(V.agg [(V.ms 212 (u12+1) 0 t.nd.length)])) t2 h202<|lB oB J J) fh<|eY.agg1<|eY.same fh _
theorem aIE (t:Dt) (n:Nat) (w28 w58:Nat) (u1 u2 u5 u12 u28 u58:Nat) (Hi:bC) (hn:n < t.nd.length) (hb:Bd t) (h201:(Hi 201).ver=u1) (h202:(Hi 202).ver=u2) (h205:(Hi 205).ver=u5) (h212:(Hi 212).ver=u12) (h228:(Hi 228).ver=u28) (h258:(Hi 258).ver=u58/\(Hi 258).live=false) (h7028:(Hi 7028).ver=w28) (h7058:(Hi 7058).ver=w58/\(Hi 7058).live=false):fA Tryz.prog 101 [(V.agg [(V.sl (List.map cN t.nd))])] Hi (V.agg [(V.ms 212 (u12+1) 0 t.nd.length)]) (cX (cX (cX (cX (cX (cX (cX (cX Hi 201 (⟨u1+1,false,false,0,0,[]⟩:Blk)) 202 (⟨u2+1,false,false,0,0,[]⟩:Blk)) 205 (⟨u5+t.nd.length,false,false,0,0,[]⟩:Blk)) 228 (⟨u28+t.nd.length*1048578,false,false,0,0,[]⟩:Blk)) 258 (⟨u58+3*t.nd.length,false,false,0,0,[]⟩:Blk)) 7028 (bk (w28+1+(aA t.nd n).ou.length) 54 1 (List.map cL ((aA t.nd n).ou)))) 7058 (bz (w58+3) 3 1 (List.map cI ((aA t.nd n).kd)))) 212 (bk (u12+1) 108 5 ((List.map cN t.nd).set n [(V.bool ((aA t.nd n).lf)),(aE (bD [(aA t.nd n).ac])),(aE (bD [(aA t.nd n).sf])),(V.ms 7028 (w28+1+(aA t.nd n).ou.length) 0 ((aA t.nd n).ou.length)),(V.ms 7058 (w58+3) 0 ((aA t.nd n).kd.length))]))):=by
 refine' eK [58] [⟨12,[0,1,2,3,4,5,6,7,8,9,10,11,12,13,14,15,16,17,18],[58],[]⟩] (k0:=200) Tryz.func101 ?e λhB=>?_
 case e=>conv=>lhs; cbv
 have hbn:=hb.n;dsimp only;refine aW<|bS (i:=201) (n:=u1) (m:=1) (cs:=[(V.sl<|List.map cN t.nd)]) JR h201 J J J<|bM (i:=202) (n:=u2) (m:=1) JR h202 J<|qV<|aX J J J J<|bA J ?_
 refine (aAO (i:=212) (n:=u12) (m:=t.nd.length) (q:=t.nd.length) JR h212 (cO t.nd.length) (cO t.nd.length) OM OM OM ?_);refine aD<|aW<|aP<|aX J J J J<|aLn (l:=t.nd) (f:=cN) (n:=5) (aM<|V.ms 212 (u12+1) 0 t.nd.length) (aM<|V.sl<|List.map cN t.nd) (@J Blk<|bk (u12+1) 108 5<|List.replicate t.nd.length [(V.bool false),V.nilsl,V.nilsl,V.nilsl,V.nilsl]) SI (λ_=>⟨J,J⟩)<|tA<|aW<|aP<|dW J (@J Blk<|bk (u12+1) 108 5<|List.map cN t.nd) SI<|aD (aG λQ1 n1 x1 y1 z1=>?_)
 refine cC (λmm T H=>(∃ (k:Nat) (v205:Nat) (v228:Nat) (v258:Nat),mm=t.nd.length - k/\T 2=(V.mp 202 (u2+1) 0 0)/\T 3=(V.ms 212 (u12+1) 0 t.nd.length)/\T 17=(V.ms 212 (u12+1) 0 t.nd.length)/\T 18=(iV ((t.nd.length:Nat):Int))/\T 19=(iV ((k:Nat):Int))/\(∀ j,j∉[201,202,205,228,258,7028,7058,212]->H j=Hi j)/\H 201=(bk (u1+1) 47 1 [[(V.sl<|List.map cN t.nd)]])/\H 202=(bk (u2+1) 47 1 [[V.nilsl]])/\(H 205).ver=v205/\H 212=(bk (u12+1) 108 5<|List.map cN t.nd)/\(H 228).ver=v228/\((H 258).ver=v258/\(H 258).live=false)/\(H 7028).ver=w28/\((H 7058).ver=w58/\(H 7058).live=false)/\(k < n)/\(v205=u5+k)/\(v228<=u28+k*1048578)/\(v258=u58+3*k))\/(∃ (v228:Nat) (v258:Nat) (v205:Nat),mm=t.nd.length - n/\T 2=(V.mp 202 (u2+1) 0 0)/\T 3=(V.ms 212 (u12+1) 0 t.nd.length)/\T 17=(V.ms 212 (u12+1) 0 t.nd.length)/\T 18=(iV ((t.nd.length:Nat):Int))/\T 19=(iV ((n:Nat):Int))/\(∀ j,j∉[201,202,205,228,258,7028,7058,212]->H j=Hi j)/\H 201=(bk (u1+1) 47 1 [[(V.sl<|List.map cN t.nd)]])/\H 202=(bk (u2+1) 47 1 [[V.nilsl]])/\(H 205).ver=v205/\H 212=(bk (u12+1) 108 5<|List.map cN t.nd)/\(H 228).ver=v228/\((H 258).ver=v258/\(H 258).live=false)/\(H 7028).ver=w28/\((H 7058).ver=w58/\(H 7058).live=false)/\(v205=u5+n)/\(v228<=u28+n*1048578)/\(v258=u58+3*n))\/(∃ (k:Nat) (v205:Nat) (v228:Nat) (v258:Nat),mm=t.nd.length - k/\T 2=(V.mp 202 (u2+1) 0 0)/\T 3=(V.ms 212 (u12+1) 0 t.nd.length)/\T 17=(V.ms 212 (u12+1) 0 t.nd.length)/\T 18=(iV ((t.nd.length:Nat):Int))/\T 19=(iV ((k:Nat):Int))/\(∀ j,j∉[201,202,205,228,258,7028,7058,212]->H j=Hi j)/\H 201=(bk (u1+1) 47 1 [[(V.sl<|List.map cN t.nd)]])/\H 202=(bk (u2+1) 47 1 [[V.nilsl]])/\(H 205).ver=v205/\H 212=(bk (u12+1) 108 5<|(List.map cN t.nd).set n [(V.bool<|(aA t.nd n).lf),(aE<|bD [(aA t.nd n).ac]),(aE<|bD [(aA t.nd n).sf]),(V.ms 7028 (w28+1+(aA t.nd n).ou.length) 0<|(aA t.nd n).ou.length),(V.ms 7058 (w58+3) 0<|(aA t.nd n).kd.length)])/\(H 228).ver=v228/\((H 258).ver=v258/\(H 258).live=false)/\H 7028=(bk (w28+1+(aA t.nd n).ou.length) 54 1<|List.map cL<|(aA t.nd n).ou)/\H 7058=(bz (w58+3) 3 1<|List.map cI<|(aA t.nd n).kd)/\(n < k)/\(k<=t.nd.length)/\(v205=u5+k)/\(v228<=u28+k*1048578)/\(v258<=u58+3*k))) ?_ ?_
 . 
  by_cases hent:n=0
  . 
   refine ⟨_,Or.inr (Or.inl ⟨u28,u58,u5,J,J,J,J,J,(bL (aM<|iV 0) (by (rw [hent]; rfl))),(bG (bG (bG (bG (λ_ _=>J) DE) DE) DE) DE),J,J,h205,J,h228,h258,h7028,h7058,?_,?_,?_⟩)⟩
   . omega
   . omega
   . omega
  . 
   refine ⟨_,Or.inl ⟨0,u5,u28,u58,J,J,J,J,J,(bL (aM<|iV 0) J),(bG (bG (bG (bG (λ_ _=>J) DE) DE) DE) DE),J,J,h205,J,h228,h258,h7028,h7058,?_,?_,?_,?_⟩⟩
   . omega
   . omega
   . omega
   . omega
 intro mm T H hI Q2 p12 p22 p32;rcases hI with ⟨k,v205,v228,v258,hmm,t2,t3,t17,t18,t19,hF,h201,h202,h205,h212,h228,h258,h7028,h7058,hk,hv5,hv28,hv7⟩|⟨v228,v258,v205,hmm,t2,t3,t17,t18,t19,hF,h201,h202,h205,h212,h228,h258,h7028,h7058,hv5,hv28,hv7⟩|⟨k,v205,v228,v258,hmm,t2,t3,t17,t18,t19,hF,h201,h202,h205,h212,h228,h258,h7028,h7058,hk,hk2,hv5,hv28,hv7⟩
 . 
  refine aW<|bZ t19 t18<|bR ?_
  refine aH J (λc3=>?_) λc3=>?_
  . 
   have r1:=hb.ac k OM;have r2:=hb.sf k OM;have r3:=hb.ou k OM;have r4:=hb.kd k OM;have r5:=hb.ol k OM;refine aB (aG λQ4 n4 x4 y4 z4=>(aW<|aJ t19<|dC (i:=k) t17 t19 h212 oB J OM<|cQ (v:=(V.agg<|cN<|aA t.nd k)) J h212 (dS OM JR)<|bM (i:=205) (n:=v205) (m:=5) JR h205 J<|aP<|bQ J J J J J J J J J<|qV<|aX J J J J<|bA J<|cF J ?_));refine (aAO (i:=228) (n:=v228) (m:=0) (q:=((((aA t.nd k).ou).length)+1)) JR h228 (aM<|iV 0) (cO<|(((aA t.nd k).ou).length)+1) OM OM OM ?_);refine aD<|aO<|aX J J J J<|bA J<|aD (aG λQ5 n5 x5 y5 z5=>?_)
   refine cC (λmm T H=> ∃ (j:Nat) (w:Nat),mm=(aA t.nd k).ou.length - j/\T 2=(V.mp 202 (u2+1) 0 0)/\T 3=(V.ms 212 (u12+1) 0 t.nd.length)/\T 4=(iV ((k:Nat):Int))/\T 5=(V.mp 205 (v205+1) 0 0)/\T 6=(V.ms 228 w 0 j)/\T 17=(V.ms 212 (u12+1) 0 t.nd.length)/\T 18=(iV ((t.nd.length:Nat):Int))/\T 19=(iV ((k:Nat):Int))/\T 30=(aC<|(aA t.nd k).ou)/\T 31=(iV ((((aA t.nd k).ou).length:Nat):Int))/\T 32=(iV ((j:Nat):Int))/\(∀ j,j∉[201,202,205,228,258,7028,7058,212]->H j=Hi j)/\H 201=(bk (u1+1) 47 1 [[(V.sl<|List.map cN t.nd)]])/\H 202=(bk (u2+1) 47 1 [[V.nilsl]])/\H 205=(bk (v205+1) 108 5 [(cN<|aA t.nd k)])/\H 212=(bk (u12+1) 108 5<|List.map cN t.nd)/\H 228=(bk w 54 1<|List.map cL<|(aA t.nd k).ou.take j)/\((H 258).ver=v258/\(H 258).live=false)/\(H 7028).ver=w28/\((H 7058).ver=w58/\(H 7058).live=false)/\(j<=(aA t.nd k).ou.length)/\(w<=v228+1+j)) ?_ ?_
   . 
    refine ⟨_,0,(v228+1),J,t2,t3,J,J,(bL (aM<|V.ms 228 (v228+1) 0 0) JR),t17,t18,t19,J,J,(bL (aM<|iV 0) J),(bG (bG (bG hF DE) DE) DE),h201,h202,J,h212,(bL (@J Blk<|bk (v228+1) 54 1<|List.replicate 0 [V.nilsl]) JR),h258,h7028,h7058,?_,?_⟩
    . omega
    . omega
   intro mm T H ⟨j,w,hmm,t2,t3,t4,t5,t6,t17,t18,t19,t30,t31,t32,hF,h201,h202,h205,h212,h228,h258,h7028,h7058,hj,hw⟩ Q6 p16 p26 p36;refine aW<|bZ t32 t31<|bR ?_
   refine aH J (λc7=>?_) λc7=>?_
   . 
    have r6:=r5 j OM;refine aB (aG λQ8 n8 x8 y8 z8=>(aW<|dA (i:=j) t30 t32<|aL J J<|aD<|eI<|aJ t6<|aP<|aS J J<|aI (dP ([(aA ((aA t.nd k).ou) j)]) (by simp only [bD,List.append_nil]; omega)) J<|aS J J<|eX (l:=((aA t.nd k).ou.take j)) (f:=cL) (x:=(bD<|[(aA ((aA t.nd k).ou) j)])) (aM<|V.ms 228 w 0 j) h228 (by (rw [List.length_take]; omega)) (aM<|V.sl [[(aE<|bD<|[(aA ((aA t.nd k).ou) j)])]])<|aD ?_));refine n8 _ _ (.done (eI<|cF t32<|aD ?_));refine p16 _ _ _ ?_ ⟨(j+1),(w+1),J,t2,t3,t4,t5,(bL (aM<|V.ms 228 (w+1) 0<|j+1) JR),t17,t18,t19,t30,t31,(bL (cO<|j+1) JR),(bG hF DE),h201,h202,h205,h212,(bL (@J Blk<|bk (w+1) 54 1<|List.map cL<|(aA t.nd k).ou.take j++[bD ([(aA ((aA t.nd k).ou) j)])]) (by (rw [uA (show j < (aA t.nd k).ou.length by omega)]; done))),h258,h7028,h7058,?_,?_⟩
    . omega
    . omega
    . omega
   refine aT<|p36 _ _ _<|x5 _ _ (.done (aPx (by exact (oP h258.2 qQ))<|aJ t3<|aJ t4<|aX t5 h205 J J<|aX t5 h205 J J<|aS J J<|aI (dP ([(aA t.nd k).ac]) (by simp only [bD,List.append_nil]; omega)) J<|aX t5 h205 J J<|aS J J ?_))
   refine aI (dP ([(aA t.nd k).sf]) (by simp only [bD,List.append_nil]; omega)) J<|aJ t6<|aX t5 h205 J J<|aBm (i:=258) (n:=v258) (B:=(bz (v258+3) 3 1<|List.map cI<|(aA t.nd k).kd)) JR h258.1 (bO J dQ) J (λH2 h2=>aD9 258 DE ((aA t.nd k).kd) v258 H2 h2 OM)<|bN J J<|dC (i:=k) (aM<|V.ms 212 (u12+1) 0 t.nd.length) (cO k) h212 oB J OM<|dU (vs:=[(V.bool<|(aA t.nd k).lf),(aE<|bD<|[(aA t.nd k).ac]),(aE<|bD<|[(aA t.nd k).sf]),(V.ms 228 w 0 j),(V.ms 258 (v258+3) 0<|((aA t.nd k).kd).length)]) (B':=(bk (u12+1) 108 5<|(List.map cN t.nd).set k [(V.bool<|(aA t.nd k).lf),(aE<|bD<|[(aA t.nd k).ac]),(aE<|bD<|[(aA t.nd k).sf]),(V.ms 228 w 0 j),(V.ms 258 (v258+3) 0<|((aA t.nd k).kd).length)])) J J J h212 (rV (i:=k) OM J J J)<|bR<|n4 _ _ ?_
   refine gI (id:=228) (id2:=212) (rows:=(List.map cN t.nd)) (i:=k) (off:=3) (r:=[(V.bool<|(aA t.nd k).lf),(aE<|bD<|[(aA t.nd k).ac]),(aE<|bD<|[(aA t.nd k).sf]),(V.ms 228 w 0 j),(V.ms 258 (v258+3) 0<|((aA t.nd k).kd).length)]) (m:=((aA t.nd k).ou.take j)) (g:=cL) DE h228 (@J Blk<|bk (u12+1) 108 5<|(List.map cN t.nd).set k [(V.bool<|(aA t.nd k).lf),(aE<|bD<|[(aA t.nd k).ac]),(aE<|bD<|[(aA t.nd k).sf]),(V.ms 228 w 0 j),(V.ms 258 (v258+3) 0<|((aA t.nd k).kd).length)]) (by (simp; omega)) (by (rw [List.length_take]; omega)) J ?_;refine gI (id:=258) (id2:=212) (rows:=(List.map cN t.nd)) (i:=k) (off:=4) (r:=[(V.bool<|(aA t.nd k).lf),(aE<|bD<|[(aA t.nd k).ac]),(aE<|bD<|[(aA t.nd k).sf]),(aC<|(aA t.nd k).ou.take j),(V.ms 258 (v258+3) 0<|((aA t.nd k).kd).length)]) (m:=((aA t.nd k).kd)) (g:=cI) DE (@J Blk<|bz (v258+3) 3 1<|List.map cI<|(aA t.nd k).kd) (@J Blk<|bk (u12+1) 108 5<|(List.map cN t.nd).set k [(V.bool<|(aA t.nd k).lf),(aE<|bD<|[(aA t.nd k).ac]),(aE<|bD<|[(aA t.nd k).sf]),(aC<|(aA t.nd k).ou.take j),(V.ms 258 (v258+3) 0<|((aA t.nd k).kd).length)]) (by (simp; omega)) JR J (.done ?_);refine eI<|cF (bB (id:=258) (bB (id:=228) t19 J) J)<|aD ?_
   by_cases hto:k+1=n
   . 
    refine p12 _ _ _ ?_<|Or.inr<|Or.inl ⟨w,(v258+3),(v205+1),J,(bB (id:=258) (bB (id:=228) t2 J) J),(bB (bB t3<|eE DE)<|eE DE),(bB (bB t17<|eE DE)<|eE DE),(bB (id:=258) (bB (id:=228) t18 J) J),(bL (cO<|k+1) (by (rw [hto]; done))),(bG (kF (bG (kF (bG (bG hF DE) DE) DE) DE) DE) DE),(aR (id:=258) (aR (id:=228) h201 DE) DE),(aR (id:=258) (aR (id:=228) h202 DE) DE),(cE<|aR (id:=258) (aR (id:=228) h205 DE) DE),(bL ((by (rw [aU,List.map_set]; rfl)):_=(bk (u12+1) 108 5<|List.map cN<|t.nd.set k (⟨(aA t.nd k).lf,bD ([(aA t.nd k).ac]),bD ([(aA t.nd k).sf]),(aA t.nd k).ou.take j,(aA t.nd k).kd⟩:Nd))) (by (rw [aG3 (show k < t.nd.length by omega) (show (aA t.nd k).ou.length<=j by omega)]; done))),(gS (id:=258)<|gH (id:=228)<|cE h228).1,⟨J,J⟩,(nN (id:=258)<|nN (id:=228) h7028),(gS (id:=258)<|gS (id:=228) h7058),?_,?_,?_⟩
    . omega
    . omega
    . omega
    . omega
   . 
    refine p12 _ _ _ ?_<|Or.inl ⟨(k+1),(v205+1),w,(v258+3),J,(bB (id:=258) (bB (id:=228) t2 J) J),(bB (bB t3<|eE DE)<|eE DE),(bB (bB t17<|eE DE)<|eE DE),(bB (id:=258) (bB (id:=228) t18 J) J),(bL (cO<|k+1) JR),(bG (kF (bG (kF (bG (bG hF DE) DE) DE) DE) DE) DE),(aR (id:=258) (aR (id:=228) h201 DE) DE),(aR (id:=258) (aR (id:=228) h202 DE) DE),(cE<|aR (id:=258) (aR (id:=228) h205 DE) DE),(bL ((by (rw [aU,List.map_set]; rfl)):_=(bk (u12+1) 108 5<|List.map cN<|t.nd.set k (⟨(aA t.nd k).lf,bD ([(aA t.nd k).ac]),bD ([(aA t.nd k).sf]),(aA t.nd k).ou.take j,(aA t.nd k).kd⟩:Nd))) (by (rw [aG3 (show k < t.nd.length by omega) (show (aA t.nd k).ou.length<=j by omega)]; done))),(gS (id:=258)<|gH (id:=228)<|cE h228).1,⟨J,J⟩,(nN (id:=258)<|nN (id:=228) h7028),(gS (id:=258)<|gS (id:=228) h7058),?_,?_,?_,?_⟩
    . omega
    . omega
    . omega
    . omega
    . omega
  . exfalso; omega
 . 
  refine aW<|bZ t19 t18<|bR ?_
  refine aH J (λc9=>?_) λc9=>?_
  . 
   have r1:=hb.ac n OM;have r2:=hb.sf n OM;have r3:=hb.ou n OM;have r4:=hb.kd n OM;have r5:=hb.ol n OM;refine aB (aG λQ10 n10 x10 y10 z10=>(aW<|aJ t19<|dC (i:=n) t17 t19 h212 oB J OM<|cQ (v:=(V.agg<|cN<|aA t.nd n)) J h212 (dS OM JR)<|bM (i:=205) (n:=v205) (m:=5) JR h205 J<|aP<|bQ J J J J J J J J J<|bR<|aOH 7000<|aX J J J J<|bA J<|cF J ?_));refine (aAO (i:=7028) (n:=w28) (m:=0) (q:=((((aA t.nd n).ou).length)+1)) JR h7028 (aM<|iV 0) (cO<|(((aA t.nd n).ou).length)+1) OM OM OM ?_);refine aD<|aO<|aX J J J J<|bA J<|aD (aG λQ11 n11 x11 y11 z11=>?_)
   refine cC (λmm T H=> ∃ (j:Nat),mm=(aA t.nd n).ou.length - j/\T 2=(V.mp 202 (u2+1) 0 0)/\T 3=(V.ms 212 (u12+1) 0 t.nd.length)/\T 4=(iV ((n:Nat):Int))/\T 5=(V.mp 205 (v205+1) 0 0)/\T 6=(V.ms 7028 (w28+1+j) 0 j)/\T 17=(V.ms 212 (u12+1) 0 t.nd.length)/\T 18=(iV ((t.nd.length:Nat):Int))/\T 19=(iV ((n:Nat):Int))/\T 30=(aC<|(aA t.nd n).ou)/\T 31=(iV ((((aA t.nd n).ou).length:Nat):Int))/\T 32=(iV ((j:Nat):Int))/\(∀ j,j∉[201,202,205,228,258,7028,7058,212]->H j=Hi j)/\H 201=(bk (u1+1) 47 1 [[(V.sl<|List.map cN t.nd)]])/\H 202=(bk (u2+1) 47 1 [[V.nilsl]])/\H 205=(bk (v205+1) 108 5 [(cN<|aA t.nd n)])/\H 212=(bk (u12+1) 108 5<|List.map cN t.nd)/\(H 228).ver=v228/\((H 258).ver=v258/\(H 258).live=false)/\H 7028=(bk (w28+1+j) 54 1<|List.map cL<|(aA t.nd n).ou.take j)/\((H 7058).ver=w58/\(H 7058).live=false)/\(j<=(aA t.nd n).ou.length)) ?_ ?_
   . 
    refine ⟨_,0,J,t2,t3,J,J,(bL (aM<|V.ms 7028 (w28+1) 0 0) JR),t17,t18,t19,J,J,(bL (aM<|iV 0) J),(bG (bG (bG hF DE) DE) DE),h201,h202,J,h212,h228,h258,(bL (@J Blk<|bk (w28+1) 54 1<|List.replicate 0 [V.nilsl]) JR),h7058,?_⟩
    . omega
   intro mm T H ⟨j,hmm,t2,t3,t4,t5,t6,t17,t18,t19,t30,t31,t32,hF,h201,h202,h205,h212,h228,h258,h7028,h7058,hj⟩ Q12 p112 p212 p312;refine aW<|bZ t32 t31<|bR ?_
   refine aH J (λc13=>?_) λc13=>?_
   . 
    have r6:=r5 j OM;refine aB (aG λQ14 n14 x14 y14 z14=>(aW<|dA (i:=j) t30 t32<|aL J J<|aD<|eI<|aJ t6<|aP<|aS J J<|aI (dP ([(aA ((aA t.nd n).ou) j)]) (by simp only [bD,List.append_nil]; omega)) J<|aS J J<|eX (l:=((aA t.nd n).ou.take j)) (f:=cL) (x:=(bD<|[(aA ((aA t.nd n).ou) j)])) (aM<|V.ms 7028 (w28+1+j) 0 j) h7028 (by (rw [List.length_take]; omega)) (aM<|V.sl [[(aE<|bD<|[(aA ((aA t.nd n).ou) j)])]])<|aD ?_));refine n14 _ _ (.done (eI<|cF t32<|aD ?_));refine p112 _ _ _ ?_ ⟨(j+1),J,t2,t3,t4,t5,(bL (aM<|V.ms 7028 (w28+1+j+1) 0<|j+1) JR),t17,t18,t19,t30,t31,(bL (cO<|j+1) JR),(bG hF DE),h201,h202,h205,h212,h228,h258,(bL (@J Blk<|bk (w28+1+j+1) 54 1<|List.map cL<|(aA t.nd n).ou.take j++[bD ([(aA ((aA t.nd n).ou) j)])]) (by (rw [uA (show j < (aA t.nd n).ou.length by omega)]; rfl))),h7058,?_⟩
    . omega
    . omega
   have hje:j=(aA t.nd n).ou.length:=OM
   refine aT<|p312 _ _ _<|x11 _ _ (.done (aPS 7000 (by exact (oP h7058.2 qQ))<|aJ t3<|aJ t4<|aX t5 h205 J J<|aX t5 h205 J J<|aS J J<|aI (dP ([(aA t.nd n).ac]) (by simp only [bD,List.append_nil]; omega)) J<|aX t5 h205 J J<|aS J J ?_))
   refine aI (dP ([(aA t.nd n).sf]) (by simp only [bD,List.append_nil]; omega)) J<|aJ t6<|aX t5 h205 J J<|aBm (i:=7058) (n:=w58) (B:=(bz (w58+3) 3 1<|List.map cI<|(aA t.nd n).kd)) JR h7058.1 (bO J dQ) J (λH2 h2=>aD9 7058 DE ((aA t.nd n).kd) w58 H2 h2 OM)<|bN J J<|dC (i:=n) (aM<|V.ms 212 (u12+1) 0 t.nd.length) (cO n) h212 oB J OM<|dU (vs:=[(V.bool<|(aA t.nd n).lf),(aE<|bD<|[(aA t.nd n).ac]),(aE<|bD<|[(aA t.nd n).sf]),(V.ms 7028 (w28+1+j) 0 j),(V.ms 7058 (w58+3) 0<|((aA t.nd n).kd).length)]) (B':=(bk (u12+1) 108 5<|(List.map cN t.nd).set n [(V.bool<|(aA t.nd n).lf),(aE<|bD<|[(aA t.nd n).ac]),(aE<|bD<|[(aA t.nd n).sf]),(V.ms 7028 (w28+1+j) 0 j),(V.ms 7058 (w58+3) 0<|((aA t.nd n).kd).length)])) J J J h212 (rV (i:=n) OM J J J)<|bR<|n10 _ _ (.done (eI<|cF t19<|aD ?_))
   refine p12 _ _ _ ?_<|Or.inr<|Or.inr<|⟨(n+1),(v205+1),v228,v258,J,t2,t3,t17,t18,(bL (cO<|n+1) JR),(bG (bG hF DE) DE),h201,h202,(cE h205),(bL (@J Blk<|bk (u12+1) 108 5<|(List.map cN t.nd).set n [(V.bool<|(aA t.nd n).lf),(aE<|bD<|[(aA t.nd n).ac]),(aE<|bD<|[(aA t.nd n).sf]),(V.ms 7028 (w28+1+j) 0 j),(V.ms 7058 (w58+3) 0<|((aA t.nd n).kd).length)]) (by (rw [hje]; done))),h228,h258,(bL h7028 (by (rw [hje,List.take_length]; done))),(bL (@J Blk<|bz (w58+3) 3 1<|List.map cI<|(aA t.nd n).kd) JR),?_,?_,?_,?_,?_⟩
   . omega
   . omega
   . omega
   . omega
   . rw [Nat.succ_mul]; exact Nat.le_trans hv28<|Nat.add_le_add_left (Nat.le_add_right _ _) _
   . omega
  . exfalso; omega
 . 
  refine aW<|bZ t19 t18<|bR ?_
  refine aH J (λc15=>?_) λc15=>?_
  . 
   have r1:=hb.ac k OM;have r2:=hb.sf k OM;have r3:=hb.ou k OM;have r4:=hb.kd k OM;have r5:=hb.ol k OM;refine aB (aG λQ16 n16 x16 y16 z16=>(aW<|aJ t19<|dC (i:=k) t17 t19 h212 oB J OM<|cQ (v:=(V.agg<|cN<|aA t.nd k)) J h212 (aLU OM OM JR)<|bM (i:=205) (n:=v205) (m:=5) JR h205 J<|aP<|bQ J J J J J J J J J<|qV<|aX J J J J<|bA J<|cF J ?_));refine (aAO (i:=228) (n:=v228) (m:=0) (q:=((((aA t.nd k).ou).length)+1)) JR h228 (aM<|iV 0) (cO<|(((aA t.nd k).ou).length)+1) OM OM OM ?_);refine aD<|aO<|aX J J J J<|bA J<|aD (aG λQ17 n17 x17 y17 z17=>?_)
   refine cC (λmm T H=> ∃ (j:Nat) (w:Nat),mm=(aA t.nd k).ou.length - j/\T 2=(V.mp 202 (u2+1) 0 0)/\T 3=(V.ms 212 (u12+1) 0 t.nd.length)/\T 4=(iV ((k:Nat):Int))/\T 5=(V.mp 205 (v205+1) 0 0)/\T 6=(V.ms 228 w 0 j)/\T 17=(V.ms 212 (u12+1) 0 t.nd.length)/\T 18=(iV ((t.nd.length:Nat):Int))/\T 19=(iV ((k:Nat):Int))/\T 30=(aC<|(aA t.nd k).ou)/\T 31=(iV ((((aA t.nd k).ou).length:Nat):Int))/\T 32=(iV ((j:Nat):Int))/\(∀ j,j∉[201,202,205,228,258,7028,7058,212]->H j=Hi j)/\H 201=(bk (u1+1) 47 1 [[(V.sl<|List.map cN t.nd)]])/\H 202=(bk (u2+1) 47 1 [[V.nilsl]])/\H 205=(bk (v205+1) 108 5 [(cN<|aA t.nd k)])/\H 212=(bk (u12+1) 108 5<|(List.map cN t.nd).set n [(V.bool<|(aA t.nd n).lf),(aE<|bD [(aA t.nd n).ac]),(aE<|bD [(aA t.nd n).sf]),(V.ms 7028 (w28+1+(aA t.nd n).ou.length) 0<|(aA t.nd n).ou.length),(V.ms 7058 (w58+3) 0<|(aA t.nd n).kd.length)])/\H 228=(bk w 54 1<|List.map cL<|(aA t.nd k).ou.take j)/\((H 258).ver=v258/\(H 258).live=false)/\H 7028=(bk (w28+1+(aA t.nd n).ou.length) 54 1<|List.map cL<|(aA t.nd n).ou)/\H 7058=(bz (w58+3) 3 1<|List.map cI<|(aA t.nd n).kd)/\(j<=(aA t.nd k).ou.length)/\(w<=v228+1+j)) ?_ ?_
   . 
    refine ⟨_,0,(v228+1),J,t2,t3,J,J,(bL (aM<|V.ms 228 (v228+1) 0 0) JR),t17,t18,t19,J,J,(bL (aM<|iV 0) J),(bG (bG (bG hF DE) DE) DE),h201,h202,J,h212,(bL (@J Blk<|bk (v228+1) 54 1<|List.replicate 0 [V.nilsl]) JR),h258,h7028,h7058,?_,?_⟩
    . omega
    . omega
   intro mm T H ⟨j,w,hmm,t2,t3,t4,t5,t6,t17,t18,t19,t30,t31,t32,hF,h201,h202,h205,h212,h228,h258,h7028,h7058,hj,hw⟩ Q18 p118 p218 p318;refine aW<|bZ t32 t31<|bR ?_
   refine aH J (λc19=>?_) λc19=>?_
   . 
    have r6:=r5 j OM;refine aB (aG λQ20 n20 x20 y20 z20=>(aW<|dA (i:=j) t30 t32<|aL J J<|aD<|eI<|aJ t6<|aP<|aS J J<|aI (dP ([(aA ((aA t.nd k).ou) j)]) (by simp only [bD,List.append_nil]; omega)) J<|aS J J<|eX (l:=((aA t.nd k).ou.take j)) (f:=cL) (x:=(bD<|[(aA ((aA t.nd k).ou) j)])) (aM<|V.ms 228 w 0 j) h228 (by (rw [List.length_take]; omega)) (aM<|V.sl [[(aE<|bD<|[(aA ((aA t.nd k).ou) j)])]])<|aD ?_));refine n20 _ _ (.done (eI<|cF t32<|aD ?_));refine p118 _ _ _ ?_ ⟨(j+1),(w+1),J,t2,t3,t4,t5,(bL (aM<|V.ms 228 (w+1) 0<|j+1) JR),t17,t18,t19,t30,t31,(bL (cO<|j+1) JR),(bG hF DE),h201,h202,h205,h212,(bL (@J Blk<|bk (w+1) 54 1<|List.map cL<|(aA t.nd k).ou.take j++[bD ([(aA ((aA t.nd k).ou) j)])]) (by (rw [uA (show j < (aA t.nd k).ou.length by omega)]; done))),h258,h7028,h7058,?_,?_⟩
    . omega
    . omega
    . omega
   refine aT<|p318 _ _ _<|x17 _ _ (.done (aPx (by exact (oP h258.2 qQ))<|aJ t3<|aJ t4<|aX t5 h205 J J<|aX t5 h205 J J<|aS J J<|aI (dP ([(aA t.nd k).ac]) (by simp only [bD,List.append_nil]; omega)) J<|aX t5 h205 J J<|aS J J ?_))
   refine aI (dP ([(aA t.nd k).sf]) (by simp only [bD,List.append_nil]; omega)) J<|aJ t6<|aX t5 h205 J J<|aBm (i:=258) (n:=v258) (B:=(bz (v258+3) 3 1<|List.map cI<|(aA t.nd k).kd)) JR h258.1 (bO J dQ) J (λH2 h2=>aD9 258 DE ((aA t.nd k).kd) v258 H2 h2 OM)<|bN J J<|dC (i:=k) (aM<|V.ms 212 (u12+1) 0 t.nd.length) (cO k) h212 oB J OM<|dU (vs:=[(V.bool<|(aA t.nd k).lf),(aE<|bD<|[(aA t.nd k).ac]),(aE<|bD<|[(aA t.nd k).sf]),(V.ms 228 w 0 j),(V.ms 258 (v258+3) 0<|((aA t.nd k).kd).length)]) (B':=(bk (u12+1) 108 5<|((List.map cN t.nd).set n [(V.bool<|(aA t.nd n).lf),(aE<|bD [(aA t.nd n).ac]),(aE<|bD [(aA t.nd n).sf]),(V.ms 7028 (w28+1+(aA t.nd n).ou.length) 0<|(aA t.nd n).ou.length),(V.ms 7058 (w58+3) 0<|(aA t.nd n).kd.length)]).set k [(V.bool<|(aA t.nd k).lf),(aE<|bD<|[(aA t.nd k).ac]),(aE<|bD<|[(aA t.nd k).sf]),(V.ms 228 w 0 j),(V.ms 258 (v258+3) 0<|((aA t.nd k).kd).length)])) J J J h212 (aL2 (i:=k) (aCb OM OM) J J J)<|bR<|n16 _ _ ?_
   refine gI (id:=228) (id2:=212) (rows:=((List.map cN t.nd).set n [(V.bool<|(aA t.nd n).lf),(aE<|bD [(aA t.nd n).ac]),(aE<|bD [(aA t.nd n).sf]),(V.ms 7028 (w28+1+(aA t.nd n).ou.length) 0<|(aA t.nd n).ou.length),(V.ms 7058 (w58+3) 0<|(aA t.nd n).kd.length)])) (i:=k) (off:=3) (r:=[(V.bool<|(aA t.nd k).lf),(aE<|bD<|[(aA t.nd k).ac]),(aE<|bD<|[(aA t.nd k).sf]),(V.ms 228 w 0 j),(V.ms 258 (v258+3) 0<|((aA t.nd k).kd).length)]) (m:=((aA t.nd k).ou.take j)) (g:=cL) DE h228 (@J Blk<|bk (u12+1) 108 5<|((List.map cN t.nd).set n [(V.bool<|(aA t.nd n).lf),(aE<|bD [(aA t.nd n).ac]),(aE<|bD [(aA t.nd n).sf]),(V.ms 7028 (w28+1+(aA t.nd n).ou.length) 0<|(aA t.nd n).ou.length),(V.ms 7058 (w58+3) 0<|(aA t.nd n).kd.length)]).set k [(V.bool<|(aA t.nd k).lf),(aE<|bD<|[(aA t.nd k).ac]),(aE<|bD<|[(aA t.nd k).sf]),(V.ms 228 w 0 j),(V.ms 258 (v258+3) 0<|((aA t.nd k).kd).length)]) (by (simp; omega)) (by (rw [List.length_take]; omega)) J ?_;refine gI (id:=258) (id2:=212) (rows:=((List.map cN t.nd).set n [(V.bool<|(aA t.nd n).lf),(aE<|bD [(aA t.nd n).ac]),(aE<|bD [(aA t.nd n).sf]),(V.ms 7028 (w28+1+(aA t.nd n).ou.length) 0<|(aA t.nd n).ou.length),(V.ms 7058 (w58+3) 0<|(aA t.nd n).kd.length)])) (i:=k) (off:=4) (r:=[(V.bool<|(aA t.nd k).lf),(aE<|bD<|[(aA t.nd k).ac]),(aE<|bD<|[(aA t.nd k).sf]),(aC<|(aA t.nd k).ou.take j),(V.ms 258 (v258+3) 0<|((aA t.nd k).kd).length)]) (m:=((aA t.nd k).kd)) (g:=cI) DE (@J Blk<|bz (v258+3) 3 1<|List.map cI<|(aA t.nd k).kd) (@J Blk<|bk (u12+1) 108 5<|((List.map cN t.nd).set n [(V.bool<|(aA t.nd n).lf),(aE<|bD [(aA t.nd n).ac]),(aE<|bD [(aA t.nd n).sf]),(V.ms 7028 (w28+1+(aA t.nd n).ou.length) 0<|(aA t.nd n).ou.length),(V.ms 7058 (w58+3) 0<|(aA t.nd n).kd.length)]).set k [(V.bool<|(aA t.nd k).lf),(aE<|bD<|[(aA t.nd k).ac]),(aE<|bD<|[(aA t.nd k).sf]),(aC<|(aA t.nd k).ou.take j),(V.ms 258 (v258+3) 0<|((aA t.nd k).kd).length)]) (by (simp; omega)) JR J (.done ?_)
   refine eI<|cF (bB (id:=258) (bB (id:=228) t19 J) J)<|aD ?_
   refine p12 _ _ _ ?_<|Or.inr<|Or.inr<|⟨(k+1),(v205+1),w,(v258+3),J,(bB (id:=258) (bB (id:=228) t2 J) J),(bB (bB t3<|eE DE)<|eE DE),(bB (bB t17<|eE DE)<|eE DE),(bB (id:=258) (bB (id:=228) t18 J) J),(bL (cO<|k+1) JR),(bG (kF (bG (kF (bG (bG hF DE) DE) DE) DE) DE) DE),(aR (id:=258) (aR (id:=228) h201 DE) DE),(aR (id:=258) (aR (id:=228) h202 DE) DE),(cE<|aR (id:=258) (aR (id:=228) h205 DE) DE),(bL (@J Blk<|bk (u12+1) 108 5<|((List.map cN t.nd).set n [(V.bool<|(aA t.nd n).lf),(aE<|bD [(aA t.nd n).ac]),(aE<|bD [(aA t.nd n).sf]),(V.ms 7028 (w28+1+(aA t.nd n).ou.length) 0<|(aA t.nd n).ou.length),(V.ms 7058 (w58+3) 0<|(aA t.nd n).kd.length)]).set k [(V.bool<|(aA t.nd k).lf),(aE<|bD<|[(aA t.nd k).ac]),(aE<|bD<|[(aA t.nd k).sf]),(aC<|(aA t.nd k).ou.take j),(aE<|(aA t.nd k).kd)]) (by (rw [aJr (f:=cN) (l:=t.nd) (i:=k) (j:=n) OM OM (aP7 (show (aA t.nd k).ou.length<=j by omega))]; done))),(gS (id:=258)<|gH (id:=228)<|cE h228).1,⟨J,J⟩,(aR (id:=258) (aR (id:=228) h7028 DE) DE),(aR (id:=258) (aR (id:=228) h7058 DE) DE),?_,?_,?_,?_,?_⟩
   . omega
   . omega
   . omega
   . omega
   . omega
   . omega
  refine aT<|p32 _ _ _<|x1 _ _ (.done (aW<|aJ t3<|bN J J<|bQ t2 J J h202 J J J J J<|R_q<|eJ (R:=λT H=>T 2=(V.mp 202 (u2+1) 0 0)/\(∀ j,j∉[201,202,205,228,258,7028,7058,212]->H j=Hi j)/\H 201=(bk (u1+1) 47 1 [[(V.sl<|List.map cN t.nd)]])/\H 202=(bk (u2+1) 47 1 [[(V.ms 212 (u12+1) 0 t.nd.length)]])/\(H 205).ver=v205/\H 212=(bk (u12+1) 108 5<|(List.map cN t.nd).set n [(V.bool<|(aA t.nd n).lf),(aE<|bD [(aA t.nd n).ac]),(aE<|bD [(aA t.nd n).sf]),(V.ms 7028 (w28+1+(aA t.nd n).ou.length) 0<|(aA t.nd n).ou.length),(V.ms 7058 (w58+3) 0<|(aA t.nd n).kd.length)])/\(H 228).ver=v228/\((H 258).ver=v258/\(H 258).live=false)/\H 7028=(bk (w28+1+(aA t.nd n).ou.length) 54 1<|List.map cL<|(aA t.nd n).ou)/\H 7058=(bz (w58+3) 3 1<|List.map cI<|(aA t.nd n).kd)/\True) ⟨t2,(bG hF DE),h201,J,h205,h212,h228,h258,h7028,h7058,trivial⟩ ?_))
  intro T H ⟨t2,hF,h201,h202,h205,h212,h228,h258,h7028,h7058,_⟩;have hkn:k=t.nd.length:=OM
  subst hkn;have fh:=dK.fin<|dK.put (dK.put (dK.put (dK.putv (n:=v258) (B:=(⟨u58+3*t.nd.length,false,false,0,0,[]⟩:Blk)) (dK.putv (n:=v228) (B:=(⟨u28+t.nd.length*1048578,false,false,0,0,[]⟩:Blk)) (dK.putv (n:=v205) (B:=(⟨u5+t.nd.length,false,false,0,0,[]⟩:Blk)) (dK.putv (n:=(u2+1)) (B:=(⟨u2+1,false,false,0,0,[]⟩:Blk)) (dK.putv (n:=(u1+1)) (B:=(⟨u1+1,false,false,0,0,[]⟩:Blk)) (dK.start hF) (cE h201) (by show _<=u1+1; omega) J) (cE h202) (by show _<=u2+1; omega) J) h205 (by show _<=u5+t.nd.length; omega) J) h228 (by show _<=u28+t.nd.length*1048578; omega) J) h258.1 (by show _<=u58+3*t.nd.length; omega) J) h7028<|iZ.eq J) h7058<|iZ.eq J) h212<|iZ.eq J
  exact aEd (bI (u:=(V.agg [(V.ms 212 (u12+1) 0 t.nd.length)])) t2 h202<|lB oB J J) fh<|eY.agg1<|eY.same fh _
end
section
open Go Go.Proofs Go.Shelf Go.RowKit Go.Lib
structure InsLay (P:Program) (ρ:Ren) (n1:String) (k bytes:Nat) (z:Value):Prop where
  mixed:P.follows .mixedOrders=true
  f22:P.funcs[ρ.f 22]?=some {Body2.n22 ρ with name:=n1}
  ov: ∀ args w,(callFunc (ρ.f 29) args).run P w=((Extern.SlicesOverlaps.overlaps #[(ρ.t 24),(ρ.t 24)] #[(ρ.t 4)] args).run P w).andThen λv w'=>.ok (.value v) w'
  t0:P.underlying (ρ.t 0)=some (TypeDesc.tuple #[])
  a0: ∀ w,(isAgg<|ρ.t 0).run P w=.ok false w
  z0: ∀ w,(Go.sizeOf<|ρ.t 0).run P w=.ok 1 w
  v0: ∀ w,(zeroValue<|ρ.t 0).run P w=.ok (Value.tuple #[]) w
  t3:P.underlying (ρ.t 3)=some (TypeDesc.int IntKind.i64)
  a3: ∀ w,(isAgg<|ρ.t 3).run P w=.ok false w
  z3: ∀ w,(Go.sizeOf<|ρ.t 3).run P w=.ok 1 w
  v3: ∀ w,(zeroValue<|ρ.t 3).run P w=.ok (Value.int IntKind.i64 0) w
  t4:P.underlying (ρ.t 4)=some (TypeDesc.bool)
  a4: ∀ w,(isAgg<|ρ.t 4).run P w=.ok false w
  z4: ∀ w,(Go.sizeOf<|ρ.t 4).run P w=.ok 1 w
  v4: ∀ w,(zeroValue<|ρ.t 4).run P w=.ok (Value.bool false) w
  z9: ∀ w,(Go.sizeOf<|ρ.t 9).run P w=.ok k w
  t24:P.underlying (ρ.t 24)=some (TypeDesc.slice<|ρ.t 9)
  a24: ∀ w,(isAgg<|ρ.t 24).run P w=.ok false w
  z24: ∀ w,(Go.sizeOf<|ρ.t 24).run P w=.ok 1 w
  v24: ∀ w,(zeroValue<|ρ.t 24).run P w=.ok (Value.slice none 0 0) w
  i9:(P.info?<|ρ.t 9).map (λi=>(i.zero,i.size,i.bytes))=some (some z,k,bytes)
  hk:0 < k
  hz:z.cells.size=k
variable {P:Program} {ρ:Ren} {n1:String} {k bytes:Nat} {z:Value}
theorem nL (w:World) (dT sT ty elem:TypeId) (g o dLen dCap:Nat) (a:Addr) (sLen sCap:Nat) (cur:Array Value) (t:TypeId) (cs:List Value) (k:Nat)
    (hu:P.underlying dT=some (.slice elem)) (hs:(P.info? elem).map (·.size)=some k)
    (hg:w.heap[g]?=some (.cells cur t (0,0))) (hn:cs.length=Nat.min sLen dLen*k)
    (hsrc: ∀ j v,cs[j]?=some v->w.cell? (a.add j)=some v) (hfit:o+cs.length<=cur.size) (h1: ∀ v∈cs,v.oneCell'=true):
    (Builtin.copy_ #[dT,sT] ty #[.slice (some ⟨g,o,none⟩) dLen dCap,.slice (some a) sLen sCap]).run P w=
      .ok (goInt<|Nat.min sLen dLen) (w.setRow g (cur.toList.take o++cs++cur.toList.drop (o+cs.length)).toArray):=by
  have hl:=run_loadCells_list (P:=P) w a cs hsrc;have hst:=run_storeCells_at P g o t cs 0 cur w hg (by simpa using hfit) h1;cases hq:P.info? elem with
  |none=>simp [hq] at hs
  | some i =>
    have hi:i.size=k:=by simpa [hq] using hs
    simp [Builtin.copy_,run_underlying hu,Builtin.lenOf,Builtin.firstCells,sizeOf,typeInfo,hq,hi,<- hn,hl,hst]
def put (cc:Array Value) (o:Nat) (cs:List Value):Array Value:=(cc.toList.take o++cs++cc.toList.drop (o+cs.length)).toArray
set_option maxHeartbeats 4000000 in
set_option maxRecDepth 100000 in
theorem aI0 (L : InsLay P ρ n1 k bytes z) (b n c i vb vc : Nat) (cc cv : Array Value) (tb tv : TypeId) (w : World) (hi : i < n) (hroom : n + 1 <= c) (hc63 : c <= 9223372036854775807) (hvb : vb ≠ b)
    (hb:w.heap[b]?=some (.cells cc tb (0,0))) (hv:w.heap[vb]?=some (.cells cv tv (0,0))) (hcc:c*k=cc.size) (hcv:k<=cv.size) (vs:List Value) (hvs:vs=cv.toList.take k)
    (h1c: ∀ v∈cc.toList.take (n*k),v.oneCell'=true) (h1v: ∀ v∈vs,v.oneCell'=true):
    Calls P (ρ.f 22) #[.slice (some ⟨b,0,none⟩) n c,.int .i64 i,.slice (some ⟨vb,0,none⟩) 1 vc] w λe w'=>
      e=.returned (.slice (some ⟨b,0,none⟩) (n+1) c)/\w'=w.drew.setRow b (put (put cc ((i+1)*k)<|(cc.toList.take<|n*k).drop (i*k)) (i*k) vs):=by
  have hk:=L.hk;have hvl:vs.length=k:=by rw [hvs,List.length_take,Array.length_toList]; omega
  have t0:=L.t0; have a0:=L.a0; have z0:=L.z0; have v0:=L.v0; have t3:=L.t3; have a3:=L.a3; have z3:=L.z3; have v3:=L.v3; have t4:=L.t4; have a4:=L.a4; have z4:=L.z4; have v4:=L.v4; have z9:=L.z9; have t24:=L.t24; have a24:=L.a24; have z24:=L.z24; have v24:=L.v24;have u0:=run_underlying L.t0; have u3:=run_underlying L.t3; have u4:=run_underlying L.t4; have u24:=run_underlying L.t24;have hz2: ¬ ((i:Int)=(n:Int)):=OM
  have hsz:(P.info?<|ρ.t 9).map (·.size)=some k:=by
    obtain ⟨i0,hi0,h0,h1,h2⟩:=info_parts L.i9;rw [hi0]; simp [h1]
  have hov: ∀ lb cb,(callFunc (ρ.f 29) #[.slice (some ⟨vb,0,none⟩) 1 vc,.slice (some ⟨b,(i+1)*k,none⟩) lb cb]).run P w=.ok (.value (.bool false)) w:=λlb cb=>by
    rw [L.ov,
      Lib.run_overlaps_apart w (ρ.t 24) (ρ.t 4) (ρ.t 9) L.t24 k L.z9 ⟨vb,0,none⟩ ⟨b,(i+1)*k,none⟩ 1 vc lb cb hvb tv tb cv.size cc.size (by simp [World.shape?,hv]) (by simp [World.shape?,hb]) (by rw [<- hcc]; have:0 < c*k:=Nat.mul_pos OM hk; omega) (by simp [World.frozen?,hv]) (by simp [World.frozen?,hv])]
    rfl
  have mixed:=L.mixed;have hw1:IntKind.i64.wrap ((i:Int)+1)=(i:Int)+1:=by rw [IntKind.wrap_i64]; omega
  have hb1:(0:Int)<=(i:Int)+1:=OM
  have hin:i<=n:=OM
  have htn:((i:Int)+1).toNat=i+1:=OM
  have hb2: ¬ (c=i+1):=OM
  have hb3:(i:Int)<=(n:Int)+1:=OM
  have hb4: ¬ (c=i):=OM
  have hnk:n*k<=cc.size:=by rw [<- hcc]; exact Nat.mul_le_mul_right k OM
  have hn1k:(n+1)*k<=cc.size:=by rw [<- hcc]; exact Nat.mul_le_mul_right k OM
  have hik:i*k<=n*k:=Nat.mul_le_mul_right k hin;obtain ⟨ds,hds⟩: ∃ ds,ds=(cc.toList.take<|n*k).drop (i*k):=⟨_,J⟩;have hdl:ds.length=(n - i)*k:=by rw [hds,List.length_drop,List.length_take,Array.length_toList,Nat.min_eq_left hnk,Nat.sub_mul]
  rw [<- hds];have e1:Nat.min (n+1 - i) (n - i)=n - i:=by simp only [Nat.min_def]; split <;> omega
  have e2:(i+1)*k+(n - i)*k=(n+1)*k:=by rw [<- Nat.add_mul]; congr 1; omega
  have hcp1: ∀ ty dc sc,(Builtin.copy_ #[(ρ.t 24),(ρ.t 24)] ty #[.slice (some ⟨b,(i+1)*k,none⟩) (n - i) dc,.slice (some ⟨b,i*k,none⟩) (n+1 - i) sc]).run P w.drew=.ok (goInt (n - i:Nat)) (w.drew.setRow b<|put cc ((i+1)*k) ds):=λty dc sc=>by
    have h:=nL (P:=P) w.drew (ρ.t 24) (ρ.t 24) ty (ρ.t 9) b ((i+1)*k) (n - i) dc ⟨b,i*k,none⟩ (n+1 - i) sc cc tb ds k L.t24 hsz hb (by rw [hdl,e1])
      (λj v hj=>by
        rw [Addr.add_lit];have hj':=hj;rw [hds,List.getElem?_drop,List.getElem?_take] at hj;split at hj
        . rw [Array.getElem?_toList] at hj
          simp [World.cell?,show w.drew.heap[b]?=_ from hb,hj]
        . cases hj) (by rw [hdl,e2]; exact hn1k) (λv hv=>h1c v<|List.mem_of_mem_drop<|hds ▸ hv)
    rw [e1] at h;exact h
  have hps:(put cc ((i+1)*k) ds).size=cc.size:=by
    simp only [put,List.size_toArray,List.length_append,List.length_take,List.length_drop,Array.length_toList,hdl,e2];omega
  obtain ⟨W1,hW1⟩: ∃ W1,W1=w.drew.setRow b (put cc ((i+1)*k) ds):=⟨_,J⟩;have hB1:W1.heap[b]?=some (.cells (put cc ((i+1)*k) ds) tb (0,0)):=by rw [hW1]; exact setRow_heap w.drew b cc _ tb _ hb
  have hV1:W1.heap[vb]?=some (.cells cv tv (0,0)):=by rw [hW1,setRow_other w.drew b vb _ hvb]; exact hv
  have hcp2: ∀ ty dc,(Builtin.copy_ #[(ρ.t 24),(ρ.t 24)] ty #[.slice (some ⟨b,i*k,none⟩) (n+1 - i) dc,.slice (some ⟨vb,0,none⟩) 1 vc]).run P W1=.ok (goInt (1:Nat)) (W1.setRow b<|put (put cc ((i+1)*k) ds) (i*k) vs):=λty dc=>by
    have e3:Nat.min 1 (n+1 - i)=1:=by simp only [Nat.min_def]; split <;> omega
    have h:=nL (P:=P) W1 (ρ.t 24) (ρ.t 24) ty (ρ.t 9) b (i*k) (n+1 - i) dc ⟨vb,0,none⟩ 1 vc _ tb vs k L.t24 hsz hB1 (by rw [e3,hvl,Nat.one_mul])
      (λj v hj=>by
        rw [Addr.add_lit];rw [hvs,List.getElem?_take] at hj;split at hj
        . rw [Array.getElem?_toList] at hj
          simp [World.cell?,hV1,hj]
        . cases hj) (by rw [hps,hvl]; have:(i+1)*k<=(n+1)*k:=Nat.mul_le_mul_right k OM; rw [Nat.add_mul,Nat.one_mul] at this; omega) h1v
    rw [e3] at h;exact h
  have hfin:W1.setRow b (put (put cc ((i+1)*k) ds) (i*k) vs)=w.drew.setRow b (put (put cc ((i+1)*k) ds) (i*k) vs):=by rw [hW1,setRow_setRow]
  rw [<- hW1] at hcp1;clear hW1 hds e1 e2 hvs
  go_enter L.f22,Body2.n22_ntmps ρ
  go_wp2_with (simp only [hov])
  go_region_law_o (refine step_copy_runI J _ _ (ρ.t 24) (ρ.t 24) J _ _ (by simp [Act.eval,Act.put]) (by simp [Act.eval,Act.put]) (hcp1 _ _ _) ?_)
  go_wp2_with (at_builtin; refine wpList_copy_runI _ J _ _ (ρ.t 24) (ρ.t 24) J _ _ J J (hcp2 _ _) ?_)
  go_ret
  first|exact ⟨J,J⟩|exact ⟨J,hfin⟩
theorem yE (w:World) (a b:Array Value) (e:TypeId):(w.alloc (.cells a e)).setRow w.heap.size b=w.alloc (.cells b e):=by
  have h:(w.alloc (.cells a e)).heap[w.heap.size]?=some (.cells a e (0,0)):=kJ _ _;unfold World.setRow World.alloc;congr 1;refine Array.ext_getElem? λj=>?_;rw [Array.getElem?_modify];split
  . rename_i hj
    subst hj;simp [Obj.cells]
  . rename_i hj
    simp only [Array.getElem?_push];rw [if_neg (λx=>hj x.symm),if_neg (λx=>hj x.symm)]
set_option maxHeartbeats 4000000 in
set_option maxRecDepth 100000 in
theorem aJ2 (L : InsLay P ρ n1 k bytes z) (b n c i vb vc : Nat) (cc cv : Array Value) (tb tv : TypeId) (w : World) (hi : i < n) (hnc : n <= c) (hroom : c < n + 1) (hc63 : c < 9223372036854775807) (hbig : (n + 1) * bytes <= 140737488355328)
    (hb:w.heap[b]?=some (.cells cc tb (0,0))) (hv:w.heap[vb]?=some (.cells cv tv (0,0))) (hcc:c*k=cc.size) (hcv:k<=cv.size) (vs:List Value) (hvs:vs=cv.toList.take k)
    (h1c: ∀ v∈cc.toList.take (n*k),v.oneCell'=true) (h1v: ∀ v∈vs,v.oneCell'=true):
    Calls P (ρ.f 22) #[.slice (some ⟨b,0,none⟩) n c,.int .i64 i,.slice (some ⟨vb,0,none⟩) 1 vc] w λe w'=>
      ∃ G R,R.size=G*k/\n+1<=G/\G<=maxLen/\e=.returned (.slice (some ⟨w.heap.size,0,none⟩) (n+1) G)/\w'=w.drew.drew.alloc (.cells (put (put R (i*k) vs) ((i+1)*k)<|(cc.toList.take<|n*k).drop (i*k)) (ρ.t 9))/\R.toList.take (i*k)=cc.toList.take (i*k):=by
  have hk:=L.hk; have hzl:=L.hz;have hvl:vs.length=k:=by rw [hvs,List.length_take,Array.length_toList]; omega
  have t0:=L.t0; have a0:=L.a0; have z0:=L.z0; have v0:=L.v0; have t3:=L.t3; have a3:=L.a3; have z3:=L.z3; have v3:=L.v3; have t4:=L.t4; have a4:=L.a4; have z4:=L.z4; have v4:=L.v4; have z9:=L.z9; have t24:=L.t24; have a24:=L.a24; have z24:=L.z24; have v24:=L.v24;have u0:=run_underlying L.t0; have u3:=run_underlying L.t3; have u4:=run_underlying L.t4; have u24:=run_underlying L.t24;have mixed:=L.mixed;obtain ⟨i0,hi0,hz0,hzs,hzb⟩:=info_parts L.i9;have hz2: ¬ ((i:Int)=(n:Int)):=OM
  have hz3:(c:Int) < (n:Int)+1:=OM
  have hsz:(P.info?<|ρ.t 9).map (·.size)=some k:=by rw [hi0]; simp [hzs]
  have hbw:b < w.heap.size:=(Array.getElem?_eq_some_iff.1 hb).1;have hvw:vb < w.heap.size:=(Array.getElem?_eq_some_iff.1 hv).1;have hkk:(n:Int)+1 - (i:Int)=((n+1 - i:Nat):Int):=OM
  have hik:i+(n+1 - i)=n+1:=OM
  have hnk:n*k<=cc.size:=by rw [<- hcc]; exact Nat.mul_le_mul_right k OM
  have hikn:i*k<=n*k:=Nat.mul_le_mul_right k OM
  have hold:(Builtin.firstCells i0.size i (.slice (some ⟨b,0,none⟩) i c)).run P w.drew=.ok (cc.toList.take<|i*k).toArray w.drew:=by
    rw [hzs]
    exact run_firstCells_some w.drew k i ⟨b,0,none⟩ i c (cc.toList.take<|i*k) (by rw [List.length_take,Array.length_toList]; omega) (λj v hj=>by
      rw [Addr.add_lit];rw [List.getElem?_take] at hj;split at hj
      . rw [Array.getElem?_toList] at hj
        simp [World.cell?,show w.drew.heap[b]?=_ from hb,hj]
      . cases hj)
  have hrz: ∀ ty,(Builtin.append_ #[(ρ.t 24),(ρ.t 3)] ty #[.slice (some ⟨b,0,none⟩) i c,.int .i64 ((n:Int)+1 - (i:Int))]).run P w=
      .ok (.slice (some ⟨w.heap.size,0,none⟩) (n+1) (grownCap w (n+1) c<|ρ.t 9)) (w.drew.alloc (.cells ((cc.toList.take<|i*k).toArray++Builtin.zeroCells z.cells (n+1 - i)++Builtin.zeroCells z.cells (grownCap w (n+1) c (ρ.t 9) - (n+1))) (ρ.t 9))):=λty=>by
    have h:=Lib.run_append_grow_zeros w (ρ.t 24) (ρ.t 3) ty (ρ.t 9) i0 _ .i64 .i64 L.t24 L.t3 hi0 hz0 (some ⟨b,0,none⟩) i c _ hold (n+1 - i) OM OM OM OM (by rw [hzb]; have:(n+1 - i)*bytes<=(n+1)*bytes:=Nat.mul_le_mul_right _ OM; omega) (by rw [hzb,hik]; exact growslice_fits hroom hbig);rw [hik] at h;rw [hkk];exact h
  have hGn:n+1<=grownCap w (n+1) c (ρ.t 9):=grownCap_ge w _ _ _;have hGm:grownCap w (n+1) c (ρ.t 9)<=maxLen:=grownCap_le_maxLen w (n+1) c (ρ.t 9) (by unfold maxLen; omega);obtain ⟨G,hG⟩: ∃ G,G=grownCap w (n+1) c (ρ.t 9):=⟨_,J⟩;rw [<- hG] at hGn hGm;obtain ⟨ROW,hROW⟩: ∃ ROW:Array Value,ROW=(cc.toList.take<|i*k).toArray++Builtin.zeroCells z.cells (n+1 - i)++Builtin.zeroCells z.cells (G - (n+1)):=⟨_,J⟩;rw [<- hG] at hrz;rw [<- hROW] at hrz
  have hRl:ROW.size=G*k:=by
    rw [hROW];simp only [Array.size_append,List.size_toArray,List.length_take,Array.length_toList,size_zeroCells,hzl,Nat.min_eq_left (show i*k<=cc.size by omega),<- Nat.add_mul];congr 1; omega
  have hRt:ROW.toList.take (i*k)=cc.toList.take (i*k):=by
    rw [hROW];simp only [Array.toList_append,List.append_assoc];rw [List.take_append_of_le_length (by simp; omega),List.take_take,Nat.min_self]
  have hG63:G<=9223372036854775807:=by unfold maxLen at hGm; omega
  have hGi: ¬ (G=i):=OM
  have hGim: ¬ (G=i+1):=OM
  have hci: ¬ (c=i):=OM
  have hn1G:(n+1)*k<=G*k:=Nat.mul_le_mul_right k hGn;obtain ⟨ds,hds⟩: ∃ ds,ds=(cc.toList.take<|n*k).drop (i*k):=⟨_,J⟩;have hdl:ds.length=(n - i)*k:=by rw [hds,List.length_drop,List.length_take,Array.length_toList,Nat.min_eq_left hnk,Nat.sub_mul]
  rw [<- hds];have e1:Nat.min (n - i) (n - i)=n - i:=Nat.min_self _;have e2:(i+1)*k+(n - i)*k=(n+1)*k:=by rw [<- Nat.add_mul]; congr 1; omega
  have e4:i*k+k<=(n+1)*k:=by have:(i+1)*k<=(n+1)*k:=Nat.mul_le_mul_right k OM; rw [Nat.add_mul,Nat.one_mul] at this; exact this
  obtain ⟨W1,hW1⟩: ∃ W1,W1=w.drew.alloc (.cells ROW (ρ.t 9)):=⟨_,J⟩
  have hcpA: ∀ (W:World),W.heap=W1.heap-> ∀ ty dc,(Builtin.copy_ #[(ρ.t 24),(ρ.t 24)] ty #[.slice (some ⟨w.heap.size,i*k,none⟩) (n+1 - i) dc,.slice (some ⟨vb,0,none⟩) 1 vc]).run P W=.ok (goInt (1:Nat)) (W.setRow w.heap.size<|put ROW (i*k) vs):=λW hW ty dc=>by
    have e3:Nat.min 1 (n+1 - i)=1:=by simp only [Nat.min_def]; split <;> omega
    have hN:W.heap[w.heap.size]?=some (.cells ROW (ρ.t 9) (0,0)):=by rw [hW,hW1]; exact kJ w.drew _
    have hV:W.heap[vb]?=some (.cells cv tv (0,0)):=by rw [hW,hW1,jA w.drew _ hvw]; exact hv
    have h:=nL (P:=P) W (ρ.t 24) (ρ.t 24) ty (ρ.t 9) w.heap.size (i*k) (n+1 - i) dc ⟨vb,0,none⟩ 1 vc ROW (ρ.t 9) vs k L.t24 hsz hN (by rw [e3,hvl,Nat.one_mul])
      (λj v hj=>by
        rw [Addr.add_lit];rw [hvs,List.getElem?_take] at hj;split at hj
        . rw [Array.getElem?_toList] at hj
          simp [World.cell?,hV,hj]
        . cases hj) (by rw [hRl,hvl]; omega) h1v
    rw [e3] at h;exact h
  have hps:(put ROW (i*k) vs).size=ROW.size:=by
    simp only [put,List.size_toArray,List.length_append,List.length_take,List.length_drop,Array.length_toList,hvl];omega
  have hcpB: ∀ (W:World),W.heap=(W1.setRow w.heap.size<|put ROW (i*k) vs).heap-> ∀ ty dc sc,(Builtin.copy_ #[(ρ.t 24),(ρ.t 24)] ty #[.slice (some ⟨w.heap.size,(i+1)*k,none⟩) (n - i) dc,.slice (some ⟨b,i*k,none⟩) (n - i) sc]).run P W=.ok (goInt (n - i:Nat)) (W.setRow w.heap.size<|put (put ROW (i*k) vs) ((i+1)*k) ds):=λW hW ty dc sc=>by
    have hN:W.heap[w.heap.size]?=some (.cells (put ROW (i*k) vs) (ρ.t 9) (0,0)):=by
      rw [hW,hW1]; exact setRow_heap _ _ ROW _ (ρ.t 9) _<|kJ w.drew _
    have hB:W.heap[b]?=some (.cells cc tb (0,0)):=by
      rw [hW,hW1,setRow_other _ _ b _ OM,jA w.drew _ hbw]; exact hb
    have h:=nL (P:=P) W (ρ.t 24) (ρ.t 24) ty (ρ.t 9) w.heap.size ((i+1)*k) (n - i) dc ⟨b,i*k,none⟩ (n - i) sc _ (ρ.t 9) ds k L.t24 hsz hN (by rw [hdl,e1])
      (λj v hj=>by
        rw [Addr.add_lit];rw [hds,List.getElem?_drop,List.getElem?_take] at hj;split at hj
        . rw [Array.getElem?_toList] at hj
          simp [World.cell?,hB,hj]
        . cases hj) (by rw [hdl,e2,hps,hRl]; exact hn1G) (λv hv=>h1c v<|List.mem_of_mem_drop<|hds ▸ hv)
    rw [e1] at h;exact h
  subst hW1;have hw1:IntKind.i64.wrap ((i:Int)+1)=(i:Int)+1:=by rw [IntKind.wrap_i64]; omega
  have hb1:(0:Int)<=(i:Int)+1:=OM
  have hin:i<=n:=OM
  have htn:((i:Int)+1).toNat=i+1:=OM
  have hb3:(i:Int)<=(n:Int):=OM
  have hE1:((w.alloc (.cells ROW (ρ.t 9))).drew).heap=(w.drew.alloc (.cells ROW (ρ.t 9))).heap:=J;have hF1:(((w.alloc (.cells ROW (ρ.t 9))).drew.setRow w.heap.size (put ROW (i*k) vs)).drew).heap=((w.drew.alloc (.cells ROW (ρ.t 9))).setRow w.heap.size (put ROW (i*k) vs)).heap:=J
  have hcall:Calls P (ρ.f 22) #[.slice (some ⟨b,0,none⟩) n c,.int .i64 i,.slice (some ⟨vb,0,none⟩) 1 vc] w λe w'=>e=.returned (.slice (some ⟨w.heap.size,0,none⟩) (n+1) G)/\w'=(((w.alloc (.cells ROW (ρ.t 9))).drew.setRow w.heap.size (put ROW (i*k) vs)).drew).setRow w.heap.size (put (put ROW (i*k) vs) ((i+1)*k) ds):=by
    clear hkk hik hold hROW hG hRl hds e1 e2 e4 hRt hvs
    go_enter L.f22,Body2.n22_ntmps ρ
    go_wp2_with (first
      |(at_builtin; refine Lib.wpList_append_run _ rfl _ _ _ _ rfl _ _ rfl rfl _ _ (hrz _) ?_)
      |(at_builtin; refine wpList_copy_runI _ rfl _ _ (ρ.t 24) (ρ.t 24) rfl _ _ rfl rfl (hcpA _ hE1 _ _) ?_)
      |(at_builtin; refine wpList_copy_runI _ rfl _ _ (ρ.t 24) (ρ.t 24) rfl _ _ rfl rfl (hcpB _ hF1 _ _ _) ?_))
    go_region_law_o (refine step_copy_runI J _ _ (ρ.t 24) (ρ.t 24) J (.slice (some ⟨w.heap.size,(i+1)*k,none⟩) (n - i) (G - (i+1))) (.slice (some ⟨b,i*k,none⟩) (n - i) (c - i)) (by simp [Act.eval,Act.put]) (by simp [Act.eval,Act.put]) (hcpB _ hF1 (ρ.t 3) (G - (i+1))<|c - i) ?_)
    go_wp2
    go_ret
    exact ⟨J,J⟩
  refine hcall.mono λe w' h=>?_;obtain ⟨rfl,rfl⟩:=h;refine ⟨G,ROW,hRl,hGn,hGm,J,?_,hRt⟩;have q:=yE w ROW (put ROW (i*k) vs)<|ρ.t 9
  have q2:=yE w (put ROW (i*k) vs) (put (put ROW (i*k) vs) ((i+1)*k) ds)<|ρ.t 9
  have q3:(((w.alloc (.cells ROW (ρ.t 9))).drew.setRow w.heap.size (put ROW (i*k) vs)).drew).setRow w.heap.size (put (put ROW (i*k) vs) ((i+1)*k) ds)=((((w.alloc (.cells ROW (ρ.t 9))).setRow w.heap.size (put ROW (i*k) vs))).setRow w.heap.size (put (put ROW (i*k) vs) ((i+1)*k) ds)).drew.drew:=J;rw [q3,q,q2]
  rfl
set_option maxHeartbeats 4000000 in
set_option maxRecDepth 100000 in
theorem aNg (L:InsLay P ρ n1 k bytes z) (b n c vb vc:Nat) (w w':World) (v:Value) (hnc:n<=c)
    (hr: ∀ ty,(Builtin.append_ #[(ρ.t 24),(ρ.t 24)] ty #[.slice (some ⟨b,0,none⟩) n c,.slice (some ⟨vb,0,none⟩) 1 vc]).run P w=.ok v w'):
    Calls P (ρ.f 22) #[.slice (some ⟨b,0,none⟩) n c,.int .i64 n,.slice (some ⟨vb,0,none⟩) 1 vc] w λe u=>e=.returned v/\u=w':=by
  have hk:=L.hk;have t0:=L.t0; have a0:=L.a0; have z0:=L.z0; have v0:=L.v0; have t3:=L.t3; have a3:=L.a3; have z3:=L.z3; have v3:=L.v3; have t4:=L.t4; have a4:=L.a4; have z4:=L.z4; have v4:=L.v4; have z9:=L.z9; have t24:=L.t24; have a24:=L.a24; have z24:=L.z24; have v24:=L.v24;have u0:=run_underlying L.t0; have u3:=run_underlying L.t3; have u4:=run_underlying L.t4; have u24:=run_underlying L.t24;have mixed:=L.mixed
  go_enter L.f22,Body2.n22_ntmps ρ
  go_wp2_with (at_builtin; refine Lib.wpList_append_run _ J _ _ _ _ J _ _ J J _ _ (hr _) ?_)
  all_goals (go_ret; exact ⟨J,J⟩)
set_option maxHeartbeats 4000000 in
set_option maxRecDepth 100000 in
theorem aLa (L:InsLay P ρ n1 k bytes z) (vb vc:Nat) (w w':World) (v:Value)
    (hr: ∀ ty,(Builtin.append_ #[(ρ.t 24),(ρ.t 24)] ty #[.slice none 0 0,.slice (some ⟨vb,0,none⟩) 1 vc]).run P w=.ok v w'):
    Calls P (ρ.f 22) #[.slice none 0 0,.int .i64 0,.slice (some ⟨vb,0,none⟩) 1 vc] w λe u=>e=.returned v/\u=w':=by
  have hk:=L.hk;have t0:=L.t0; have a0:=L.a0; have z0:=L.z0; have v0:=L.v0; have t3:=L.t3; have a3:=L.a3; have z3:=L.z3; have v3:=L.v3; have t4:=L.t4; have a4:=L.a4; have z4:=L.z4; have v4:=L.v4; have z9:=L.z9; have t24:=L.t24; have a24:=L.a24; have z24:=L.z24; have v24:=L.v24;have u0:=run_underlying L.t0; have u3:=run_underlying L.t3; have u4:=run_underlying L.t4; have u24:=run_underlying L.t24;have mixed:=L.mixed
  go_enter L.f22,Body2.n22_ntmps ρ
  go_wp2_with (at_builtin; refine Lib.wpList_append_run _ J _ _ _ _ J _ _ J J _ _ (hr _) ?_)
  all_goals (go_ret; exact ⟨J,J⟩)
set_option maxHeartbeats 4000000 in
set_option maxRecDepth 100000 in
theorem aJQ (L:InsLay P ρ n1 k bytes z) (a:Addr) (vb vc:Nat) (w w':World) (v:Value)
    (hr: ∀ ty,(Builtin.append_ #[(ρ.t 24),(ρ.t 24)] ty #[.slice (some a) 0 0,.slice (some ⟨vb,0,none⟩) 1 vc]).run P w=.ok v w'):
    Calls P (ρ.f 22) #[.slice (some a) 0 0,.int .i64 0,.slice (some ⟨vb,0,none⟩) 1 vc] w λe u=>e=.returned v/\u=w':=by
  have hk:=L.hk;have t0:=L.t0; have a0:=L.a0; have z0:=L.z0; have v0:=L.v0; have t3:=L.t3; have a3:=L.a3; have z3:=L.z3; have v3:=L.v3; have t4:=L.t4; have a4:=L.a4; have z4:=L.z4; have v4:=L.v4; have z9:=L.z9; have t24:=L.t24; have a24:=L.a24; have z24:=L.z24; have v24:=L.v24;have u0:=run_underlying L.t0; have u3:=run_underlying L.t3; have u4:=run_underlying L.t4; have u24:=run_underlying L.t24;have mixed:=L.mixed
  go_enter L.f22,Body2.n22_ntmps ρ
  go_wp2_with (at_builtin; refine Lib.wpList_append_run _ J _ _ _ _ J _ _ J J _ _ (hr _) ?_)
  all_goals (go_ret; exact ⟨J,J⟩)
end
section
open Go Go.Proofs Go.Shelf Go.Lib
theorem nG {cc:Array Value} {o:Nat} {cs:List Value} (h:o+cs.length<=cc.size) (q:Nat):(put cc o cs)[q]?=if o<=q/\q < o+cs.length then cs[q - o]? else cc[q]?:=by
  unfold put;rw [vA h]
theorem rR {cc:Array Value} {o:Nat} {cs:List Value} (h:o+cs.length<=cc.size):(put cc o cs).size=cc.size:=by
  simp only [put,List.size_toArray,List.length_append,List.length_take,List.length_drop,Array.length_toList];omega
theorem aFm {x : Cx} {rows : List (List V)} {row : List V} {k i : Nat} {cc cv F : Array Value} (hsz : ∀ r ∈ rows, r.length = k) (hsz1 : row.length = k) (hi : i <= rows.length)
    (hr: ∀ (r:Nat) (row:List V) (j:Nat) (v:V),rows[r]?=some row->row[j]?=some v->R x v (cc.getD (r*k+j) undef))
    (hv: ∀ (j:Nat) (v:V),row[j]?=some v->R x v (cv.getD j undef))
    (ha: ∀ q,q < i*k->F[q]?=cc[q]?) (hb: ∀ q,q < k->F[i*k+q]?=cv[q]?) (hc: ∀ q,q < (rows.length - i)*k->F[(i+1)*k+q]?=cc[i*k+q]?):
    ∀ (r:Nat) (row':List V) (j:Nat) (v:V),(rows.take i++row::rows.drop i)[r]?=some row'->row'[j]?=some v->R x v (F.getD (r*k+j) undef):=by
  intro r row' j v h1 h2;have hlt:(rows.take i).length=i:=by rw [List.length_take]; omega
  rw [List.getElem?_append] at h1;split at h1
  . rename_i hlt'
    rw [hlt] at hlt';rw [List.getElem?_take,if_pos hlt'] at h1;have hjk:j < k:=by rw [<- hsz _ (List.mem_of_getElem? h1)]; exact (List.getElem?_eq_some_iff.1 h2).1
    have:r*k+j < i*k:=by
      have:(r+1)*k<=i*k:=Nat.mul_le_mul_right k hlt';rw [Nat.add_mul,Nat.one_mul] at this; omega
    rw [Array.getD_eq_getD_getElem?,ha _ this,<- Array.getD_eq_getD_getElem?];exact hr r row' j v h1 h2
  . rename_i hge
    rw [hlt] at h1 hge;by_cases he:r=i
    . subst he
      rw [Nat.sub_self] at h1;simp only [List.getElem?_cons_zero,Option.some.injEq] at h1;subst h1;have hjk:j < k:=by rw [<- hsz1]; exact (List.getElem?_eq_some_iff.1 h2).1
      rw [Array.getD_eq_getD_getElem?,hb _ hjk,<- Array.getD_eq_getD_getElem?];exact hv j v h2
    . obtain ⟨q,hq⟩: ∃ q,r - i=q+1:=⟨r - i - 1,OM⟩
      rw [hq,List.getElem?_cons_succ,List.getElem?_drop] at h1;have hjk:j < k:=by rw [<- hsz _ (List.mem_of_getElem? h1)]; exact (List.getElem?_eq_some_iff.1 h2).1
      have hql:=(List.getElem?_eq_some_iff.1 h1).1
      have hlt2:q*k+j < (rows.length - i)*k:=by
        have:(q+1)*k<=(rows.length - i)*k:=Nat.mul_le_mul_right k OM;rw [Nat.add_mul,Nat.one_mul] at this; omega
      have e1:r*k+j=(i+1)*k+(q*k+j):=by rw [<- Nat.add_assoc,<- Nat.add_mul]; congr 2; omega
      have e2:i*k+(q*k+j)=(i+q)*k+j:=by rw [Nat.add_mul]; omega
      rw [e1,Array.getD_eq_getD_getElem?,hc _ hlt2,<- Array.getD_eq_getD_getElem?,e2];exact hr _ row' j v h1 h2
section
variable {P:Program} {ρ:Ren} {n1:String} {k bytes:Nat} {z:Value}
theorem aJ1 (L:InsLay P ρ n1 k bytes z) {zz:List V} (hzz:iI P (ρ.t 9)=some zz) (hzl:zz.length=k) {x:Cx} (hx:Inv x) {id id2 ver ver2 ty2 i:Nat} {rows:List (List V)} {row:List V} {c0 c2:Value}
    {lz:Bool} (hlz:(lz&&rows.isEmpty)=false) (hH:x.H id=⟨ver,true,lz,ρ.t 9,k,rows⟩) (hH2:x.H id2=⟨ver2,true,false,ty2,k,[row]⟩) (hne:id≠id2) (hi:i<=rows.length)
    (hf:eH k rows=true) (hf1:eH k [row]=true) (hb:(rows.length+1)*bytes<=140737488355328) (hm:rows.length+1<=9223372036854775807)
    (r0:R x (.ms id ver 0 rows.length) c0) (r2:R x (.ms id2 ver2 0 1) c2):
    Calls P (ρ.f 22) #[c0,.int .i64 i,c2] x.w λe w'=> ∃ c y,e=.returned c/\y.w=w'/\y.H=cX x.H id ⟨ver+1,true,lz,ρ.t 9,k,rows.take i++row::rows.drop i⟩/\Inv y/\R y (.ms id (ver+1) 0 (rows.length+1)) c/\Frame x y:=by
  have hk:=L.hk;have ho:(x.H id).own=true:=by rw [hH]; simp only [Blk.own,hlz]; rfl
  have ho2:(x.H id2).own=true:=by rw [hH2]; rfl
  obtain ⟨hsz,hone⟩:=iL hf;obtain ⟨hsz1,hone1⟩:=iL hf1;have r0':=r0; have r2':=r2;cases r0 with
  |ms _ _ _ _ b n cap hv hh hm0=>
  cases r2 with
  |ms _ _ _ _ b2 m2 cap2 hv2 hh2 hm2=>
  obtain ⟨e1,e2,e3,e4,e5,e6⟩:=hh (by rw [hH]) (by rw [hH]);obtain ⟨d1,d2,d3,d4,d5,d6⟩:=hh2 (by rw [hH2]) (by rw [hH2]);obtain ⟨e7,e8⟩:=e5 ho;obtain ⟨d7,d8⟩:=d5 ho2
  have hmI:(lz&&decide (4294967296<=ρ.t 9))=false:=by
    have:=hm0 (by rw [hH]) (by rw [hH]);rw [hH] at this; exact this
  obtain ⟨cc,b1,bb2,bb3,bb4⟩:=hx.cel id ho<|hm0 (by rw [hH]) (by rw [hH])
  obtain ⟨cv,v1,vv2,vv3,vv4⟩:=hx.cel id2 ho2<|hm2 (by rw [hH2]) (by rw [hH2])
  have hrs:fD x.w (x.σ id)=cc.size:=by unfold fD; rw [b1]
  have hrs2:fD x.w (x.σ id2)=cv.size:=by unfold fD; rw [v1]
  rw [hrs,hH] at e8;rw [hrs2,hH2] at d8;rw [hH] at e7 b1 bb3 bb4;rw [hH2] at d7 v1 vv3 vv4;simp only [Nat.zero_mul,Nat.zero_add] at e7 d7 e8 d8;simp only at b1 bb3 bb4 v1 vv3 vv4;subst e1; subst d1; subst e7; subst d7;have hvb:x.σ id2≠x.σ id:=λe=>hne<|hx.inj id id2 ho ho2 e.symm
  have hcv:k<=cv.size:=by simpa using vv3
  have hsz1':row.length=k:=hsz1 row SI
  have hrow: ∀ (j:Nat) (v:V),row[j]?=some v->R x v (cv.getD j undef):=λj v hj=>by
    have:=vv4 0 row j v J hj;simpa using this
  have h1c: ∀ v∈cc.toList.take (rows.length*k),v.oneCell'=true:=λv hv=>by
    obtain ⟨q,hq⟩:=List.getElem?_of_mem hv;rw [List.getElem?_take] at hq;split at hq
    . rename_i hlt
      obtain ⟨rw',u,h5,h6,h7⟩:=yJ hsz hlt;have h8:=bb4 _ _ _ _ h5 h6;rw [h7,Array.getD_eq_getD_getElem?,<- Array.getElem?_toList,hq] at h8;exact h8.one<|hone _ (List.mem_of_getElem? h5) _<|List.mem_of_getElem? h6
    . cases hq
  obtain ⟨vs,hvs⟩: ∃ vs,vs=cv.toList.take k:=⟨_,J⟩;have hvl:vs.length=k:=by rw [hvs,List.length_take,Array.length_toList]; omega
  have hvg: ∀ q,q < k->vs[q]?=cv[q]?:=λq hq=>by rw [hvs,List.getElem?_take,if_pos hq,Array.getElem?_toList]
  have h1v: ∀ v∈vs,v.oneCell'=true:=λv hv=>by
    obtain ⟨q,hq⟩:=List.getElem?_of_mem hv;have hlt:q < k:=by rw [<- hvl]; exact (List.getElem?_eq_some_iff.1 hq).1
    have hu: ∃ u,row[q]?=some u:=⟨_,List.getElem?_eq_getElem (by rw [hsz1']; exact hlt)⟩
    obtain ⟨u,hu⟩:=hu;have h8:=hrow q u hu;rw [Array.getD_eq_getD_getElem?,<- hvg q hlt,hq] at h8;exact h8.one<|hone1 row SI u<|List.mem_of_getElem? hu
  obtain ⟨n,hn⟩: ∃ n,n=rows.length:=⟨_,J⟩
  have hnew: ∀ r∈rows.take i++row::rows.drop i,r.length=k:=λr hr=>by
    rcases List.mem_append.1 hr with hr|hr
    . exact hsz r<|List.mem_of_mem_take hr
    . rcases List.mem_cons.1 hr with hr|hr
      . rw [hr]; exact hsz1'
      . exact hsz r<|List.mem_of_mem_drop hr
  have hnewl:(rows.take i++row::rows.drop i).length=rows.length+1:=by simp; omega
  by_cases hend:i=rows.length
  . obtain ⟨i0,hi0,hz0,hzs,hzb⟩:=info_parts L.i9
    obtain ⟨y,c,hr,y1,y2,y3,y4⟩:=aBS (P:=P) (esz:=k) (bytes:=bytes) (new:=[row]) hx L.t24 hi0 hzz hzs hzb hzl OM (i:=id) (ver:=ver) (len:=rows.length) (u:=.ms id2 ver2 0 1) (by rw [hH]) (by rw [hH]) (by rw [hH]) (by rw [hH]) (by rw [hH])
      (by simp [oN,hH2]) hf1 hb hm r0' r2' 0
    rw [hend];refine (aNg L (x.σ id) rows.length cap (x.σ id2) cap2 x.w y.w c e2 λty=>hr).mono λe w' h=>?_;obtain ⟨rfl,rfl⟩:=h;refine ⟨c,y,J,J,?_,y2,y4,y3⟩;rw [y1,hH];simp
  have hlt:i < rows.length:=OM
  have hnk:rows.length*k<=cc.size:=by rw [<- e8]; exact Nat.mul_le_mul_right k e2
  have hik:i*k<=rows.length*k:=Nat.mul_le_mul_right k hi;obtain ⟨ds,hds⟩: ∃ ds,ds=(cc.toList.take<|rows.length*k).drop (i*k):=⟨_,J⟩;have hdl:ds.length=(rows.length - i)*k:=by rw [hds,List.length_drop,List.length_take,Array.length_toList (xs:=cc),Nat.min_eq_left hnk,Nat.sub_mul]
  have hdg: ∀ q,q < (rows.length - i)*k->ds[q]?=cc[i*k+q]?:=λq hq=>by
    rw [hds,List.getElem?_drop,List.getElem?_take,if_pos (by rw [Nat.sub_mul] at hq; omega),Array.getElem?_toList]
  have e9:(i+1)*k+(rows.length - i)*k=(rows.length+1)*k:=by rw [<- Nat.add_mul]; congr 1; omega
  have e10:(i+1)*k=i*k+k:=by rw [Nat.add_mul,Nat.one_mul]
  by_cases hroom:rows.length+1<=cap
  . have hn1k:(rows.length+1)*k<=cc.size:=by rw [<- e8]; exact Nat.mul_le_mul_right k hroom
    refine (aI0 L (x.σ id) rows.length cap i (x.σ id2) cap2 cc cv _ _ x.w hlt hroom (by unfold maxLen at e3; omega) hvb b1 v1 e8 hcv vs hvs h1c h1v).mono λe w' h=>?_;obtain ⟨rfl,rfl⟩:=h;rw [<- hds];have hs1:(put cc ((i+1)*k) ds).size=cc.size:=rR (by rw [hdl,e9]; exact hn1k);have hfit2:i*k+vs.length<=(put cc ((i+1)*k) ds).size:=by rw [hs1,hvl]; omega
    obtain ⟨dI,dF⟩:=jM hx (x.w.drawn+1)<|Nat.le_succ _
    obtain ⟨hI,hF⟩:=lZ dI id ho cc (put (put cc ((i+1)*k) ds) (i*k) vs) (by rw [hH]; exact b1) (by rw [rR hfit2,hs1]) (ver+1) (rows.take i++row::rows.drop i) (by simp only [hH]; omega) (by simp only [hH]; omega) (by simp only [hH]; simp)
      (by simp only [hH]; exact hnew) (by simp only [hH]; rw [hnewl]; exact hn1k) (by
        simp only [hH];refine aFm hsz hsz1' hi (λr row j v h5 h6=>(bb4 r row j v h5 h6).frame hx dF) (λj v h5=>(hrow j v h5).frame hx dF) (λq hq=>?_) (λq hq=>?_) (λq hq=>?_)
        . rw [nG hfit2,if_neg OM,nG (by rw [hdl,e9]; exact hn1k),if_neg OM]
        . rw [nG hfit2,if_pos OM,Nat.add_sub_cancel_left]; exact hvg q hq
        . rw [nG hfit2,if_neg OM,nG (by rw [hdl,e9]; exact hn1k),if_pos (by rw [hdl]; omega),Nat.add_sub_cancel_left]; exact hdg q hq)
    refine ⟨_,_,J,?_,?_,hI,?_,dF.trans hF⟩
    . rfl
    . simp only [hH]
    . refine .ms _ _ _ _ _ _ _ (by simp [aU]) (λ_ _=>?_) λ_ _=>by simp only [aU,hH]; exact hmI
      simp only [aU,hH];refine ⟨trivial,hroom,e3,by rw [hnewl]; omega,λ_=>⟨SI,?_⟩,λh=>by simp [Blk.own] at h⟩
      have:fD (({x.w with drawn:=x.w.drawn+1}:World).setRow (x.σ id) (put (put cc ((i+1)*k) ds) (i*k) vs)) (x.σ id)=cc.size:=by
        have q:=setRow_heap ({x.w with drawn:=x.w.drawn+1}:World) (x.σ id) cc (put (put cc ((i+1)*k) ds) (i*k) vs) _ _ b1;unfold fD;rw [q];show (put (put cc ((i+1)*k) ds) (i*k) vs).size=cc.size;rw [rR hfit2,hs1]
      rw [this,Nat.zero_add]; exact e8
  . refine (aJ2 L (x.σ id) rows.length cap i (x.σ id2) cap2 cc cv _ _ x.w hlt e2 OM OM hb b1 v1 e8 hcv vs hvs h1c h1v).mono λe w' h=>?_
    obtain ⟨G,Rw,g1,g2,g3,rfl,rfl,g4⟩:=h;rw [<- hds];have hGk:(rows.length+1)*k<=Rw.size:=by rw [g1]; exact Nat.mul_le_mul_right k g2
    have hfit1:i*k+vs.length<=Rw.size:=by rw [hvl]; omega
    have hs1:(put Rw (i*k) vs).size=Rw.size:=rR hfit1;have hfit2:(i+1)*k+ds.length<=(put Rw (i*k) vs).size:=by rw [hs1,hdl,e9]; exact hGk
    obtain ⟨dI,dF⟩:=jM hx (x.w.drawn+2) OM
    obtain ⟨hI,hF⟩:=nM dI id (put (put Rw (i*k) vs) ((i+1)*k) ds) lz (ρ.t 9) k (rows.take i++row::rows.drop i) hnew (by rw [hnewl,rR hfit2,hs1]; exact hGk) (by
        refine aFm hsz hsz1' hi (λr row j v h5 h6=>(bb4 r row j v h5 h6).frame hx dF) (λj v h5=>(hrow j v h5).frame hx dF) (λq hq=>?_) (λq hq=>?_) (λq hq=>?_)
        . rw [nG hfit2,if_neg OM,nG hfit1,if_neg OM]
          have:=congrArg (λl=>l[q]?) g4;simp only [List.getElem?_take,if_pos hq,Array.getElem?_toList] at this;exact this
        . rw [nG hfit2,if_neg OM,nG hfit1,if_pos OM,Nat.add_sub_cancel_left]; exact hvg q hq
        . rw [nG hfit2,if_pos (by rw [hdl]; omega),Nat.add_sub_cancel_left]; exact hdg q hq) hmI
    refine ⟨_,_,J,?_,?_,hI,?_,dF.trans hF⟩
    . rfl
    . simp only [hH]
    . refine .ms _ _ _ _ _ _ _ (by simp [aU,hH]) (λ_ _=>?_) λ_ _=>by simp only [aU]; exact hmI
      simp only [aU,hH];refine ⟨trivial,g2,g3,by rw [hnewl]; omega,λ_=>⟨SI,?_⟩,λh=>by simp [Blk.own] at h⟩;rw [lM,rR hfit2,hs1,g1,Nat.zero_add]
theorem wV (L:InsLay P ρ n1 k bytes z) (hcf:fT P (ρ.f 22)) {zz:List V} (hzz:iI P (ρ.t 9)=some zz) (hzl:zz.length=k) {id id2 ver ver2 ty2 i n:Nat} {rows:List (List V)} {row:List V} {H:bC}
    {lz:Bool} (hlz:(lz&&(rows.take n).isEmpty)=false) (hH:H id=⟨ver,true,lz,ρ.t 9,k,rows⟩) (hH2:H id2=⟨ver2,true,false,ty2,k,[row]⟩) (hne:id≠id2) (hn:n<=rows.length) (hi:i<=n)
    (hf:eH k (rows.take n)=true) (hf1:eH k [row]=true) (hb:(n+1)*bytes<=140737488355328) (hm:n+1<=9223372036854775807):
    fA P (ρ.f 22) [.ms id ver 0 n,iV i,.ms id2 ver2 0 1] H (.ms id (ver+2) 0 (n+1)) (cX H id ⟨ver+2,true,lz,ρ.t 9,k,(rows.take n).take i++row::(rows.take n).drop i⟩):=by
  refine ⟨hcf,λx cs hxH hx hr=>?_⟩;subst hxH
  obtain ⟨c0,c1,c2,rfl⟩: ∃ c0 c1 c2,cs=[c0,c1,c2]:=by
    have:=hr.1
    match cs with
    |[a,b,c]=>exact ⟨a,b,c,rfl⟩
    |[]=>simp at this
    |[_]=>simp at this
    |[_,_]=>simp at this
    |_::_::_::_::_=>simp at this
  have r0:R x (.ms id ver 0 n) c0:=hr.2 0 _ J;have r1:R x (iV i) c1:=hr.2 1 _ J;have r2:R x (.ms id2 ver2 0 1) c2:=hr.2 2 _ J
  have hc1:c1=.int .i64 i:=by
    unfold iV at r1;cases r1; rfl
  subst hc1
  have hlz2:(lz&&rows.isEmpty)=false:=by
    cases lz with
    |false=>rfl
    | true =>
      cases rows with
      |nil=>simp at hlz
      |cons a l=>rfl
  have ho:(x.H id).own=true:=by rw [hH]; simp only [Blk.own,hlz2]; rfl
  have hM:(x.H id).isM=false:=by
    cases r0 with
    |ms _ _ _ _ b m cap hv hh hm=>exact hm (by rw [hH]) (by rw [hH])
  obtain ⟨cc,b1,bb2,bb3,bb4⟩:=hx.cel id ho hM;have hlen:(rows.take n).length=n:=by rw [List.length_take]; omega
  obtain ⟨hI,hF⟩:=lZ hx id ho cc cc b1 J (ver+1) (rows.take n) (by rw [hH]; exact Nat.le_succ _) (by rw [hH]; simp) (by rw [hH]; exact hlz) (λr h=>bb2 r (by rw [hH]; exact List.mem_of_mem_take h))
    (by rw [hlen]; refine Nat.le_trans (Nat.mul_le_mul_right _ ?_) bb3; rw [hH]; exact hn) (λr row j v h1 h2=>by
      rw [List.getElem?_take] at h1;split at h1
      . exact bb4 r row j v (by rw [hH]; exact h1) h2
      . cases h1)
  have hw:x.w.setRow (x.σ id) cc=x.w:=setRow_self x.w _ cc _ _ b1;rw [hw] at hI hF
  have q0:R {x with H:=cX x.H id ⟨ver+1,true,(x.H id).lz,(x.H id).ty,(x.H id).sz,rows.take n⟩} (.ms id (ver+1) 0 (rows.take n).length) c0:=by
    cases r0 with
    |ms _ _ _ _ b m cap hv hh hm=>
    obtain ⟨e1,e2,e3,e4,e5,e6⟩:=hh (by rw [hH]) (by rw [hH]);obtain ⟨e7,e8⟩:=e5 ho;refine .ms _ _ _ _ _ _ _ (by simp [aU]) (λ_ _=>?_) λ_ _=>by simp only [aU]; exact hM
    simp only [aU,hlen];exact ⟨e1,e2,e3,OM,λ_=>⟨e7,e8⟩,λh=>by rw [hH] at h; simp only [Blk.own,hlz] at h; cases h⟩
  have h:=aJ1 L hzz hzl hI (id:=id) (id2:=id2) (ver:=ver+1) (ver2:=ver2) (ty2:=ty2) (i:=i) (rows:=rows.take n) (row:=row) hlz (by simp [aU,hH]) (by simp only [cD _ _ (Ne.symm hne)]; exact hH2) hne (by rw [hlen]; exact hi) hf hf1 (by rw [hlen]; exact hb) (by rw [hlen]; exact hm) q0<|r2.frame hx hF
  refine h.mono λe w' h=>?_;obtain ⟨c,y,rfl,h1,h2,h3,h4,h5⟩:=h;refine ⟨c,y,J,h1,?_,h3,?_,hF.trans h5⟩
  . rw [h2]
    funext j;by_cases e:j=id
    . subst e; simp only [aU]
    . simp only [cD _ _ e]
  . rw [hlen] at h4; exact h4
theorem aBD (L:InsLay P ρ n1 k bytes z) (hcf:fT P (ρ.f 22)) {zz:List V} (hzz:iI P (ρ.t 9)=some zz) (hzl:zz.length=k) {id id2 ver ver2 ty2:Nat} {row:List V} {H:bC}
    (hH:H id=⟨ver,true,true,ρ.t 9,k,[]⟩) (hH2:H id2=⟨ver2,true,false,ty2,k,[row]⟩) (hf1:eH k [row]=true) (hb:bytes<=140737488355328):
    fA P (ρ.f 22) [.ms id ver 0 0,iV 0,.ms id2 ver2 0 1] H (.ms id (ver+2) 0 1) (cX H id ⟨ver+2,true,true,ρ.t 9,k,[row]⟩):=by
  refine ⟨hcf,λx cs hxH hx hr=>?_⟩;subst hxH
  obtain ⟨c0,c1,c2,rfl⟩: ∃ c0 c1 c2,cs=[c0,c1,c2]:=by
    have:=hr.1
    match cs with
    |[a,b,c]=>exact ⟨a,b,c,rfl⟩
    |[]=>simp at this
    |[_]=>simp at this
    |[_,_]=>simp at this
    |_::_::_::_::_=>simp at this
  have r0:R x (.ms id ver 0 0) c0:=hr.2 0 _ J;have r1:R x (iV 0) c1:=hr.2 1 _ J;have r2:R x (.ms id2 ver2 0 1) c2:=hr.2 2 _ J
  have hc1:c1=.int .i64 0:=by
    unfold iV at r1;cases r1; rfl
  subst hc1;have hk:=L.hk;have ho2:(x.H id2).own=true:=by rw [hH2]; rfl
  obtain ⟨i0,hi0,hz0,hzs,hzb⟩:=info_parts L.i9
  obtain ⟨y,c,hrun,y1,y2,y3,y4⟩:=aBS (P:=P) (esz:=k) (bytes:=bytes) (new:=[row]) hx L.t24 hi0 hzz hzs hzb hzl OM (i:=id) (ver:=ver) (len:=0) (u:=.ms id2 ver2 0 1) (by rw [hH]) (by rw [hH]) (by rw [hH]; rfl) (by rw [hH]) (by rw [hH])
      (by simp [oN,hH2]) hf1 (by simpa using hb) SI r0 r2 0
  have hcall:Calls P (ρ.f 22) #[c0,.int .i64 0,c2] x.w λe w'=>e=.returned c/\w'=y.w:=by
    cases r2 with
    |ms _ _ _ _ b2 m2 cap2 hv2 hh2 hm2=>
    obtain ⟨d1,d2,d3,d4,d5,d6⟩:=hh2 (by rw [hH2]) (by rw [hH2]);obtain ⟨d7,d8⟩:=d5 ho2;subst d1; subst d7;simp only [Nat.zero_mul] at hrun ⊢;cases r0 with
    | ms _ _ _ _ b n cap hv hh hm =>
      obtain ⟨e1,e2,e3,e4,e5,e6⟩:=hh (by rw [hH]) (by rw [hH]);have hcap:=e6 (by rw [hH]; rfl);subst e1; subst hcap;cases b with
      |none=>exact aLa L (x.σ id2) cap2 x.w y.w c (λ_=>hrun)
      |some a=>exact aJQ L a (x.σ id2) cap2 x.w y.w c (λ_=>hrun)
  refine hcall.mono λe w' h=>?_;obtain ⟨rfl,rfl⟩:=h;have hyi:y.H id=⟨ver+1,true,true,ρ.t 9,k,[row]⟩:=by rw [y1,hH]; simp [aU]
  have hfin:tQ y.H (cX y.H id ⟨ver+2,true,true,ρ.t 9,k,[row]⟩):=λj=>by
    by_cases e:j=id
    . subst e; rw [aU,hyi]; exact iZ.up OM J
    . rw [cD _ _ e]; exact .refl _
  obtain ⟨f1,f2⟩:=xY y2 hfin;have f3:=eY.ms hfin (id:=id) (ver:=ver+1) (n:=ver+2) (off:=0) (len:=0+[row].length) (by rw [hyi]) (by rw [hyi]) SI SI;refine ⟨c,aCr y _,J,J,?_,f1,f3 y c J y2 y4,y3.trans f2⟩;show cX y.H id _=_;rw [y1];funext j;by_cases e:j=id
  . subst e; simp only [aU]
  . simp only [cD _ _ e]
theorem uL (L : InsLay P ρ n1 k bytes z) (hcf : fT P (ρ.f 22)) {zz : List V} (hzz : iI P (ρ.t 9) = some zz) (hzl : zz.length = k) {id id2 ver ver2 ty2 i n : Nat} {rows : List (List V)} {row : List V} {H : bC}
    {lz:Bool} (hn:n=rows.length) (hH:H id=⟨ver,true,lz,ρ.t 9,k,rows⟩) (hH2:H id2=⟨ver2,true,false,ty2,k,[row]⟩) (hne:id≠id2) (hi:i<=n)
    (hf:eH k rows=true) (hf1:eH k [row]=true) (hb:(n+1)*bytes<=140737488355328) (hm:n+1<=9223372036854775807):
    fA P (ρ.f 22) [.ms id ver 0 n,iV i,.ms id2 ver2 0 1] H (.ms id (ver+2) 0 (n+1)) (cX H id ⟨ver+2,true,lz,ρ.t 9,k,rows.take i++row::rows.drop i⟩):=by
  subst hn;by_cases h0:(lz&&rows.isEmpty)=false
  . have:=wV L hcf hzz hzl (i:=i) (by rw [List.take_length]; exact h0) hH hH2 hne (Nat.le_refl _) hi (by rw [List.take_length]; exact hf) hf1 hb hm
    rw [List.take_length] at this;exact this
  . cases lz with
    |false=>exact (h0 rfl).elim
    | true =>
      cases rows with
      |cons a l=>exact (h0 rfl).elim
      | nil =>
        have hi0:i=0:=by simpa using hi
        subst hi0;exact aBD L hcf hzz hzl hH hH2 hf1 (by simpa using hb)
end
end
section
open Go Go.Proofs Go.Shelf
def aIB:Go.Shelf.Ren:=⟨fun|22=>102|29=>148|30=>149|n=>n,fun|24=>22|9=>54|n=>n,λn=>n⟩
theorem aIN:InsLay Tryz.prog aIB Tryz.f102.name 1 24 (.slice none 0 0):={
  mixed:=by kernel_rfl
  f22:=Tryz.func102.trans<|congrArg some (by kernel_rfl)
  ov:=λargs w=>run_callFunc_extern Tryz.func148 (by kernel_rfl) (by kernel_rfl) (by kernel_rfl) (by kernel_rfl) args w
  t0:=Tryz.underlying0,a0:=Tryz.isAgg0,z0:=Tryz.sizeOf0,v0:=Tryz.zeroValue0
  t3:=Tryz.underlying3,a3:=Tryz.isAgg3,z3:=Tryz.sizeOf3,v3:=Tryz.zeroValue3
  t4:=Tryz.underlying4,a4:=Tryz.isAgg4,z4:=Tryz.sizeOf4,v4:=Tryz.zeroValue4
  z9:=Tryz.sizeOf54
  t24:=Tryz.underlying22,a24:=Tryz.isAgg22,z24:=Tryz.sizeOf22,v24:=Tryz.zeroValue22
  i9:=by kernel_rfl
  hk:=DE
  hz:=by kernel_rfl}
theorem aGh:fT Tryz.prog 102:=⟨_,Tryz.func102,by kernel_rfl,by kernel_rfl⟩
end
section
open Go Go.Proofs Go.Shelf
def aJy:Go.Shelf.Ren:=⟨fun|22=>103|29=>150|30=>151|n=>n,fun|24=>54|9=>3|n=>n,λn=>n⟩
theorem aI3:InsLay Tryz.prog aJy Tryz.f103.name 1 8 (.int .i64 0):={
  mixed:=by kernel_rfl
  f22:=Tryz.func103.trans<|congrArg some (by kernel_rfl)
  ov:=λargs w=>run_callFunc_extern Tryz.func150 (by kernel_rfl) (by kernel_rfl) (by kernel_rfl) (by kernel_rfl) args w
  t0:=Tryz.underlying0,a0:=Tryz.isAgg0,z0:=Tryz.sizeOf0,v0:=Tryz.zeroValue0
  t3:=Tryz.underlying3,a3:=Tryz.isAgg3,z3:=Tryz.sizeOf3,v3:=Tryz.zeroValue3
  t4:=Tryz.underlying4,a4:=Tryz.isAgg4,z4:=Tryz.sizeOf4,v4:=Tryz.zeroValue4
  z9:=Tryz.sizeOf3
  t24:=Tryz.underlying54,a24:=Tryz.isAgg54,z24:=Tryz.sizeOf54,v24:=Tryz.zeroValue54
  i9:=by kernel_rfl
  hk:=DE
  hz:=by kernel_rfl}
theorem aG2:fT Tryz.prog 103:=⟨_,Tryz.func103,by kernel_rfl,by kernel_rfl⟩
end
section
open Go Go.Proofs
theorem aLK {H:bC} {id id2 ver ver2 i n:Nat} {lz:Bool} {l:List (List Int)} {w:(List Int)} (hn:n=l.length) (hH:H id=⟨ver,true,lz,54,1,List.map cL l⟩) (hH2:H id2=⟨ver2,true,false,54,1,[cL w]⟩) (hne:id≠id2) (hi:i<=n) (hb:n<=1048576):
    fA Tryz.prog 102 [.ms id ver 0 n,iV i,.ms id2 ver2 0 1] H (.ms id (ver+2) 0 (n+1)) (cX H id ⟨ver+2,true,lz,54,1,List.map cL (qD i w l)⟩):=by
  have hf: ∀ l:List (List Int),eH 1 (List.map cL l)=true:=λl=>by
    simp only [eH,List.all_eq_true];intro r hr;obtain ⟨x,_,rfl⟩:=List.mem_map.1 hr
    rfl
  have h:=uL aIN aGh (zz:=[.nilsl]) (by kernel_rfl) J (by rw [List.length_map]; exact hn) hH hH2 hne hi (hf l) (hf [w]) OM OM;unfold qD;rw [List.map_append,List.map_cons,List.map_take,List.map_drop];exact h
theorem aLI {H:bC} {id id2 ver ver2 i n:Nat} {lz:Bool} {l:List Int} {w:Int} (hn:n=l.length) (hH:H id=⟨ver,true,lz,3,1,List.map cI l⟩) (hH2:H id2=⟨ver2,true,false,3,1,[cI w]⟩) (hne:id≠id2) (hi:i<=n) (hb:n<=1048576):
    fA Tryz.prog 103 [.ms id ver 0 n,iV i,.ms id2 ver2 0 1] H (.ms id (ver+2) 0 (n+1)) (cX H id ⟨ver+2,true,lz,3,1,List.map cI (qD i w l)⟩):=by
  have hf: ∀ l:List Int,eH 1 (List.map cI l)=true:=λl=>by
    simp only [eH,List.all_eq_true];intro r hr;obtain ⟨x,_,rfl⟩:=List.mem_map.1 hr
    rfl
  have h:=uL aI3 aG2 (zz:=[.int .i64 0]) (by kernel_rfl) J (by rw [List.length_map]; exact hn) hH hH2 hne hi (hf l) (hf [w]) OM OM;unfold qD;rw [List.map_append,List.map_cons,List.map_take,List.map_drop];exact h
theorem aGx (t:Dt) (n:Int) (aQ w:List Int) (hb:Bd t) (ho:aQ.length<=1048576) (hw:w.length<=1048576):bK Tryz.prog 51 [(V.agg [(V.sl (List.map cN t.nd))]),(iV n),(aE aQ),(aE w)] (V.tup [(V.agg [(V.sl (List.map cN ((grT t n aQ w).nd)))]),(iV (jD t n aQ w))]):=by
 refine' pK [82,95] [⟨20,[0,1,2,3,4,5,6,7,8,9,10,11,12,13],[82],[]⟩,⟨21,[0,1,2,3,4,5,6,7,8,9,10,11,12,13],[95],[]⟩] Tryz.func51 ?e λhB=>?_
 case e=>conv=>lhs; cbv
 dsimp only;have hbn:=hb.n;refine aW<|bS (i:=4) (n:=0) (m:=1) (cs:=[(V.sl<|List.map cN t.nd)]) J (cE J) J J J<|bM (i:=8) (n:=0) (m:=1) J (cE J) J<|aD<|aO<|aV J J J J<|aI (nU t hb) J<|aD<|aO<|aP<|bP J J<|bR ?_
 refine aH J (λc1=>?_) λc1=>?_
 . 
  refine aO<|aV J J J J<|aP<|bQ J J J J J J J J J<|aD<|aK ?_
  refine dJ (bI (u:=(V.agg [(V.sl<|List.map cN t.nd)])) J (@J Blk<|bk 1 47 1 [[(V.sl<|List.map cN t.nd)]])<|lB oB J J) (aY<|aM<|iV<|gU t) (fE<|cA ?_ (λ_=>by simp))<|aF ?_
  . have z9:jD t n aQ w=gU t:=by
      unfold jD; rw [if_pos OM]
    rw [oH (by rw [z9]; first|exact DE|omega)]
  . have z9:jD t n aQ w=gU t:=by
      unfold jD; rw [if_pos OM]
    exact z9.symm
 have hv:gU t=0:=OM
 refine aB<|aO<|aV J J J J<|aP<|aI (aBN t n false) J<|aD<|aO<|aP<|bP J J<|bR ?_
 refine aH J (λc2=>?_) λc2=>?_
 . 
  refine aO<|aV J J J J<|aP<|bQ J J J J J J J J J<|aD<|aK ?_
  refine dJ (bI (u:=(V.agg [(V.sl<|List.map cN t.nd)])) J (@J Blk<|bk 1 47 1 [[(V.sl<|List.map cN t.nd)]])<|lB oB J J) (aY<|aM<|iV<|noE t n false) (fE<|cA ?_ (λ_=>by simp))<|aF ?_
  . have z9:jD t n aQ w=noE t n false:=by
      unfold jD; rw [if_neg OM,if_pos OM]
    rw [oH (by rw [z9]; first|exact DE|omega)]
  . have z9:jD t n aQ w=noE t n false:=by
      unfold jD; rw [if_neg OM,if_pos OM]
    exact z9.symm
 obtain ⟨n0,n1,n2⟩:=aCR (t:=t) (n:=n) (b:=false) OM;have nb:n.toNat < t.nd.length:=OM
 have hin:=aCg hv nb n2;have hkd:=hb.kd _ nb;have hou:=hb.ou _ nb;refine aB<|aO<|aP<|aX J J J J<|aP<|dR (i:=n) (aM<|V.sl<|List.map cN t.nd) (aM<|iV n) OM OM J<|dB (cs':=(List.drop 2<|cN<|aA t.nd n.toNat)) J J<|aL J J<|aI (qW aQ<|(aA t.nd n.toNat).sf) J<|aD<|aO<|aP ?_
 refine bP J J<|bR ?_
 refine aH J (λc3=>?_) λc3=>?_
 . 
  refine aO<|aV J J J J<|aP<|bQ J J J J J J J J J<|aD<|aK ?_
  refine dJ (bI (u:=(V.agg [(V.sl<|List.map cN t.nd)])) J (@J Blk<|bk 1 47 1 [[(V.sl<|List.map cN t.nd)]])<|lB oB J J) (aY<|aM<|iV<|sJ aQ<|(aA t.nd n.toNat).sf) (fE<|cA ?_ (λ_=>by simp))<|aF ?_
  . have z9:jD t n aQ w=sJ aQ (aA t.nd n.toNat).sf:=by
      unfold jD; rw [if_neg OM,if_neg OM,if_pos OM]
    rw [oH (by rw [z9]; first|exact DE|omega)]
  . have z9:jD t n aQ w=sJ aQ (aA t.nd n.toNat).sf:=by
      unfold jD; rw [if_neg OM,if_neg OM,if_pos OM]
    exact z9.symm
 refine aB<|aW<|aX J J J J<|aP<|dR (i:=n) (aM<|V.sl<|List.map cN t.nd) (aM<|iV n) OM OM J<|aL J J<|aP<|aI (aAR (aA t.nd n.toNat) aQ hin.srt hou) J<|aP<|bE J J<|bE J J<|aP<|aD<|cS ?_
 refine aW<|aD ?_
 refine aH J (λc4=>?_) λc4=>?_
 . 
  have d5:wX (aA t.nd n.toNat).ou aQ:=c4;refine cS ?_;refine dE (λT H=>T 8=(cG 8)/\T 9=(iV 7)/\H 4=(bk 1 47 1 [[(V.sl<|List.map cN t.nd)]])/\H 8=(bk 1 47 1 [[(V.sl<|List.map cN t.nd)]])/\H 16=fL/\H 82=fL/\H 95=fL/\H 201=fL/\H 202=fL/\H 205=fL/\H 212=fL/\H 228=fL/\H 258=fL/\H 7028=fL/\H 7058=fL/\True) ?_ ?_
  . 
   refine aV J J J J<|bQ J J J J J J J J J<|aP ?_
   exact eS ⟨J,J,J,J,J,J,J,J,J,J,J,J,J,J,J,trivial⟩
  intro T H ⟨t8,t9,h4,h8,h16,h82,h95,h201,h202,h205,h212,h228,h258,h7028,h7058,_⟩;refine aK ?_;refine dJ (bI (u:=(V.agg [(V.sl<|List.map cN t.nd)])) t8 h8<|lB oB J J) (aY t9) (fE<|cA ?_ (λ_=>by simp))<|aF ?_
  . have z9:jD t n aQ w=7:=by
      unfold jD; rw [if_neg OM,if_neg OM,if_neg OM,if_pos d5]
    rw [oH (by rw [z9]; first|exact DE|omega)]
  . have z9:jD t n aQ w=7:=by
      unfold jD; rw [if_neg OM,if_neg OM,if_neg OM,if_pos d5]
    exact z9.symm
 have d5: ¬wX (aA t.nd n.toNat).ou aQ:=c4;have d6:=aEQ (w:=aQ) (aA t.nd n.toNat).ou;refine aB<|cS ?_
 refine dE (λT H=>T 1=(iV n)/\T 2=(aE aQ)/\T 3=(aE w)/\T 4=(cG 4)/\T 8=(cG 8)/\T 13=(iV ((kH (aA t.nd n.toNat).ou aQ:Nat):Int))/\T 15=(iV<|fsE t w)/\H 4=(bk 1 47 1 [[(V.sl<|List.map cN t.nd)]])/\H 8=(bk 1 47 1 [[V.nilsl]])/\H 16=fL/\H 82=fL/\H 95=fL/\H 201=fL/\H 202=fL/\H 205=fL/\H 212=fL/\H 228=fL/\H 258=fL/\H 7028=fL/\H 7058=fL/\True) ?_ ?_
 . 
  refine aV J J J J<|aP<|aI (aAM t w hb) J<|aP ?_
  exact eS ⟨J,J,J,J,J,J,J,J,J,J,J,J,J,J,J,J,J,J,J,J,trivial⟩
 intro T H ⟨t1,t2,t3,t4,t8,t13,t15,h4,h8,h16,h82,h95,h201,h202,h205,h212,h228,h258,h7028,h7058,_⟩;refine aO<|aJ t15<|bP J J<|bR ?_
 refine aH J (λc5=>?_) λc5=>?_
 . 
  refine aO<|aV t4 h4 J J<|aJ t15<|bQ t8 J J h8 J J J J J<|aD<|aK ?_
  refine dJ (bI (u:=(V.agg [(V.sl<|List.map cN t.nd)])) t8 (@J Blk<|bk 1 47 1 [[(V.sl<|List.map cN t.nd)]])<|lB oB J J) (aY<|aM<|iV<|fsE t w) (fE<|cA ?_ (λ_=>by simp))<|aF ?_
  . have z9:jD t n aQ w=fsE t w:=by
      unfold jD; rw [if_neg OM,if_neg OM,if_neg OM,if_neg d5,if_pos OM]
    rw [oH (by rw [z9]; first|exact DE|omega)]
  . have z9:jD t n aQ w=fsE t w:=by
      unfold jD; rw [if_neg OM,if_neg OM,if_neg OM,if_neg d5,if_pos OM]
    exact z9.symm
 refine aB<|aO<|aX t4 h4 J J<|bA J<|iC J J<|bR ?_
 refine aH J (λc6=>?_) λc6=>?_
 . 
  refine aO<|aV t4 h4 J J<|bQ t8 J J h8 J J J J J<|aD<|aK ?_
  refine dJ (bI (u:=(V.agg [(V.sl<|List.map cN t.nd)])) t8 (@J Blk<|bk 1 47 1 [[(V.sl<|List.map cN t.nd)]])<|lB oB J J) (aY<|aM<|iV 11) (fE<|cA ?_ (λ_=>by simp))<|aF ?_
  . have z9:jD t n aQ w=11:=by
      unfold jD; rw [if_neg OM,if_neg OM,if_neg OM,if_neg d5,if_neg OM,if_pos OM]
    rw [oH (by rw [z9]; first|exact DE|omega)]
  . have z9:jD t n aQ w=11:=by
      unfold jD; rw [if_neg OM,if_neg OM,if_neg OM,if_neg d5,if_neg OM,if_pos OM]
    exact z9.symm
 refine aB<|aW<|aV t4 h4 J J<|gA (bO J dQ) (aIE t n.toNat 0 0 0 0 0 0 0 0 _ nb hb (cE h201) (cE h202) (cE h205) (cE h212) (cE h228) ⟨cE h258,congrArg Blk.live h258⟩ (cE h7028) ⟨cE h7058,congrArg Blk.live h7058⟩)<|bM (i:=16) (n:=0) (m:=1) J (cE h16) J<|bQ J J J J J J J J J<|qV<|aX J J J J<|aJ t1<|dV (i:=n) (aM<|V.ms 212 1 0 t.nd.length) (aM<|iV n) (@J Blk<|bk 1 108 5<|(List.map cN t.nd).set n.toNat [(V.bool<|(aA t.nd n.toNat).lf),(aE<|bD [(aA t.nd n.toNat).ac]),(aE<|bD [(aA t.nd n.toNat).sf]),(V.ms 7028 (0+1+(aA t.nd n.toNat).ou.length) 0<|(aA t.nd n.toNat).ou.length),(V.ms 7058 3 0<|(aA t.nd n.toNat).kd.length)]) oB J OM OM<|aD<|W_d (by exact (oP (congrArg Blk.live h82) qQ))<|aP ?_
 refine aP<|gK J (@J Blk<|bk 1 108 5<|(List.map cN t.nd).set n.toNat [(V.bool<|(aA t.nd n.toNat).lf),(aE<|bD [(aA t.nd n.toNat).ac]),(aE<|bD [(aA t.nd n.toNat).sf]),(V.ms 7028 (0+1+(aA t.nd n.toNat).ou.length) 0<|(aA t.nd n.toNat).ou.length),(V.ms 7058 3 0<|(aA t.nd n.toNat).kd.length)]) oB<|cM J (@J Blk<|bk 1 108 5<|(List.map cN t.nd).set n.toNat [(V.bool<|(aA t.nd n.toNat).lf),(aE<|bD [(aA t.nd n.toNat).ac]),(aE<|bD [(aA t.nd n.toNat).sf]),(V.ms 7028 (0+1+(aA t.nd n.toNat).ou.length) 0<|(aA t.nd n.toNat).ou.length),(V.ms 7058 3 0<|(aA t.nd n.toNat).kd.length)])<|cQ (v:=(V.ms 7028 (0+1+(aA t.nd n.toNat).ou.length) 0<|(aA t.nd n.toNat).ou.length)) J (@J Blk<|bk 1 108 5<|(List.map cN t.nd).set n.toNat [(V.bool<|(aA t.nd n.toNat).lf),(aE<|bD [(aA t.nd n.toNat).ac]),(aE<|bD [(aA t.nd n.toNat).sf]),(V.ms 7028 (0+1+(aA t.nd n.toNat).ou.length) 0<|(aA t.nd n.toNat).ou.length),(V.ms 7058 3 0<|(aA t.nd n.toNat).kd.length)]) (aEv (by (simp; omega)) JR)<|aJ t13<|aJ t2<|aS J J<|aI (dP ([aQ]) (by simp only [bD,List.append_nil]; omega)) J<|gE (i:=82) (n:=0) (qs:=[(0,(aE<|bD<|[aQ]))]) (rows:=[[(aE<|bD<|[aQ])]]) J (cE h82) (cZ (congrArg (λv=>(0,v)) J) J) J<|gA (bO J<|bO J<|bO J dQ) (aLK (l:=((aA t.nd n.toNat).ou)) (w:=(bD<|[aQ])) OM (@J Blk<|bk (0+1+(aA t.nd n.toNat).ou.length) 54 1<|List.map cL<|(aA t.nd n.toNat).ou) (show _=(bk 1 54 1<|List.map cL<|[bD ([aQ])]) from J) DE d6 hou)<|gK J (@J Blk<|bk 1 108 5<|(List.map cN t.nd).set n.toNat [(V.bool<|(aA t.nd n.toNat).lf),(aE<|bD [(aA t.nd n.toNat).ac]),(aE<|bD [(aA t.nd n.toNat).sf]),(V.ms 7028 (0+1+(aA t.nd n.toNat).ou.length) 0<|(aA t.nd n.toNat).ou.length),(V.ms 7058 3 0<|(aA t.nd n.toNat).kd.length)]) oB<|cM J (@J Blk<|bk 1 108 5<|(List.map cN t.nd).set n.toNat [(V.bool<|(aA t.nd n.toNat).lf),(aE<|bD [(aA t.nd n.toNat).ac]),(aE<|bD [(aA t.nd n.toNat).sf]),(V.ms 7028 (0+1+(aA t.nd n.toNat).ou.length) 0<|(aA t.nd n.toNat).ou.length),(V.ms 7058 3 0<|(aA t.nd n.toNat).kd.length)])<|dU (vs:=[(V.ms 7028 ((0+1+(aA t.nd n.toNat).ou.length)+2) 0<|((aA t.nd n.toNat).ou.length)+1)]) (B':=(bk 1 108 5<|(List.map cN t.nd).set n.toNat [(V.bool<|(aA t.nd n.toNat).lf),(aE<|bD [(aA t.nd n.toNat).ac]),(aE<|bD [(aA t.nd n.toNat).sf]),(V.ms 7028 ((0+1+(aA t.nd n.toNat).ou.length)+2) 0<|((aA t.nd n.toNat).ou.length)+1),(V.ms 7058 3 0<|(aA t.nd n.toNat).kd.length)])) J J J (@J Blk<|bk 1 108 5<|(List.map cN t.nd).set n.toNat [(V.bool<|(aA t.nd n.toNat).lf),(aE<|bD [(aA t.nd n.toNat).ac]),(aE<|bD [(aA t.nd n.toNat).sf]),(V.ms 7028 (0+1+(aA t.nd n.toNat).ou.length) 0<|(aA t.nd n.toNat).ou.length),(V.ms 7058 3 0<|(aA t.nd n.toNat).kd.length)]) (aFd (by (simp; omega)) J J SI)<|bR ?_
 refine aLG (λT H=>T 3=(aE w)/\T 8=(cG 8)/\T 16=(cG 16)/\H 4=(bk 1 47 1 [[(V.sl<|List.map cN t.nd)]])/\H 8=(bk 1 47 1 [[V.nilsl]])/\H 16=(bk 1 47 1 [[(V.ms 212 1 0 t.nd.length)]])/\H 82=(bk 1 54 1 [[(aE<|bD<|[aQ])]])/\H 95=(bk 1 3 1 [[(iV ((t.nd.length:Nat):Int))]])/\H 201=(⟨1,false,false,0,0,[]⟩:Blk)/\H 202=(⟨1,false,false,0,0,[]⟩:Blk)/\H 205=(⟨0+t.nd.length,false,false,0,0,[]⟩:Blk)/\H 212=(bk 1 108 5<|(List.map cN t.nd).set n.toNat [(V.bool<|(aA t.nd n.toNat).lf),(aE<|bD [(aA t.nd n.toNat).ac]),(aE<|bD [(aA t.nd n.toNat).sf]),(V.ms 7028 ((0+1+(aA t.nd n.toNat).ou.length)+2) 0<|((aA t.nd n.toNat).ou.length)+1),(V.ms 7058 5 0<|((aA t.nd n.toNat).kd.length)+1)])/\H 228=(⟨0+t.nd.length*1048578,false,false,0,0,[]⟩:Blk)/\H 258=(⟨0+3*t.nd.length,false,false,0,0,[]⟩:Blk)/\H 7028=(bk ((0+1+(aA t.nd n.toNat).ou.length)+2) 54 1<|List.map cL<|qD (kH (aA t.nd n.toNat).ou aQ) (bD<|[aQ])<|(aA t.nd n.toNat).ou)/\H 7058=(bz 5 3 1<|List.map cI<|qD (kH (aA t.nd n.toNat).ou aQ) ((t.nd.length:Nat):Int)<|(aA t.nd n.toNat).kd)/\True) (by exact (oP (congrArg Blk.live h95) qQ)) ?_ ?_
 . 
  refine aP<|aP<|gK J (@J Blk<|bk 1 108 5<|(List.map cN t.nd).set n.toNat [(V.bool<|(aA t.nd n.toNat).lf),(aE<|bD [(aA t.nd n.toNat).ac]),(aE<|bD [(aA t.nd n.toNat).sf]),(V.ms 7028 ((0+1+(aA t.nd n.toNat).ou.length)+2) 0<|((aA t.nd n.toNat).ou.length)+1),(V.ms 7058 3 0<|(aA t.nd n.toNat).kd.length)]) oB<|cM J (@J Blk<|bk 1 108 5<|(List.map cN t.nd).set n.toNat [(V.bool<|(aA t.nd n.toNat).lf),(aE<|bD [(aA t.nd n.toNat).ac]),(aE<|bD [(aA t.nd n.toNat).sf]),(V.ms 7028 ((0+1+(aA t.nd n.toNat).ou.length)+2) 0<|((aA t.nd n.toNat).ou.length)+1),(V.ms 7058 3 0<|(aA t.nd n.toNat).kd.length)])<|cQ (v:=(V.ms 7058 3 0<|(aA t.nd n.toNat).kd.length)) J (@J Blk<|bk 1 108 5<|(List.map cN t.nd).set n.toNat [(V.bool<|(aA t.nd n.toNat).lf),(aE<|bD [(aA t.nd n.toNat).ac]),(aE<|bD [(aA t.nd n.toNat).sf]),(V.ms 7028 ((0+1+(aA t.nd n.toNat).ou.length)+2) 0<|((aA t.nd n.toNat).ou.length)+1),(V.ms 7058 3 0<|(aA t.nd n.toNat).kd.length)]) (aEv (by (simp; omega)) JR)<|aJ t13<|aX t4 h4 J J<|bA J<|gE (i:=95) (n:=0) (qs:=[(0,(iV ((t.nd.length:Nat):Int)))]) (rows:=[[(iV ((t.nd.length:Nat):Int))]]) J (cE h95) (cZ (congrArg (λv=>(0,v)) J) J) J<|gA (bO J<|bO J<|bO J dQ) (aLI (l:=((aA t.nd n.toNat).kd)) (w:=((t.nd.length:Nat):Int)) OM (@J Blk<|bz 3 3 1<|List.map cI<|(aA t.nd n.toNat).kd) (show _=(bk 1 3 1<|List.map cI<|[((t.nd.length:Nat):Int)]) from J) DE (by have:=hin.len; omega) hkd)<|gK J (@J Blk<|bk 1 108 5<|(List.map cN t.nd).set n.toNat [(V.bool<|(aA t.nd n.toNat).lf),(aE<|bD [(aA t.nd n.toNat).ac]),(aE<|bD [(aA t.nd n.toNat).sf]),(V.ms 7028 ((0+1+(aA t.nd n.toNat).ou.length)+2) 0<|((aA t.nd n.toNat).ou.length)+1),(V.ms 7058 3 0<|(aA t.nd n.toNat).kd.length)]) oB<|cM J (@J Blk<|bk 1 108 5<|(List.map cN t.nd).set n.toNat [(V.bool<|(aA t.nd n.toNat).lf),(aE<|bD [(aA t.nd n.toNat).ac]),(aE<|bD [(aA t.nd n.toNat).sf]),(V.ms 7028 ((0+1+(aA t.nd n.toNat).ou.length)+2) 0<|((aA t.nd n.toNat).ou.length)+1),(V.ms 7058 3 0<|(aA t.nd n.toNat).kd.length)])<|dU (vs:=[(V.ms 7058 5 0<|((aA t.nd n.toNat).kd.length)+1)]) (B':=(bk 1 108 5<|(List.map cN t.nd).set n.toNat [(V.bool<|(aA t.nd n.toNat).lf),(aE<|bD [(aA t.nd n.toNat).ac]),(aE<|bD [(aA t.nd n.toNat).sf]),(V.ms 7028 ((0+1+(aA t.nd n.toNat).ou.length)+2) 0<|((aA t.nd n.toNat).ou.length)+1),(V.ms 7058 5 0<|((aA t.nd n.toNat).kd.length)+1)])) J J J (@J Blk<|bk 1 108 5<|(List.map cN t.nd).set n.toNat [(V.bool<|(aA t.nd n.toNat).lf),(aE<|bD [(aA t.nd n.toNat).ac]),(aE<|bD [(aA t.nd n.toNat).sf]),(V.ms 7028 ((0+1+(aA t.nd n.toNat).ou.length)+2) 0<|((aA t.nd n.toNat).ou.length)+1),(V.ms 7058 3 0<|(aA t.nd n.toNat).kd.length)]) (aFd (by (simp; omega)) J J SI) ?_
  exact eS ⟨t3,t8,J,h4,h8,J,J,J,J,J,J,J,J,J,J,J,trivial⟩
 intro T H ⟨t3,t8,t16,h4,h8,h16,h82,h95,h201,h202,h205,h212,h228,h258,h7028,h7058,_⟩;refine gI (id:=7028) (id2:=212) (rows:=(List.map cN t.nd)) (i:=n.toNat) (off:=3) (r:=[(V.bool<|(aA t.nd n.toNat).lf),(aE<|bD [(aA t.nd n.toNat).ac]),(aE<|bD [(aA t.nd n.toNat).sf]),(V.ms 7028 ((0+1+(aA t.nd n.toNat).ou.length)+2) 0<|((aA t.nd n.toNat).ou.length)+1),(V.ms 7058 5 0<|((aA t.nd n.toNat).kd.length)+1)]) (m:=(qD (kH (aA t.nd n.toNat).ou aQ) (bD<|[aQ])<|(aA t.nd n.toNat).ou)) (g:=cL) DE h7028 h212 (by (simp; omega)) (by exact (qZ _ _ _).symm) J ?_;refine gI (id:=7058) (id2:=212) (rows:=(List.map cN t.nd)) (i:=n.toNat) (off:=4) (r:=[(V.bool<|(aA t.nd n.toNat).lf),(aE<|bD [(aA t.nd n.toNat).ac]),(aE<|bD [(aA t.nd n.toNat).sf]),(aC<|qD (kH (aA t.nd n.toNat).ou aQ) (bD<|[aQ])<|(aA t.nd n.toNat).ou),(V.ms 7058 5 0<|((aA t.nd n.toNat).kd.length)+1)]) (m:=(qD (kH (aA t.nd n.toNat).ou aQ) ((t.nd.length:Nat):Int)<|(aA t.nd n.toNat).kd)) (g:=cI) DE (aR (id:=7028) h7058 DE) (@J Blk<|bk 1 108 5<|(List.map cN t.nd).set n.toNat [(V.bool<|(aA t.nd n.toNat).lf),(aE<|bD [(aA t.nd n.toNat).ac]),(aE<|bD [(aA t.nd n.toNat).sf]),(aC<|qD (kH (aA t.nd n.toNat).ou aQ) (bD<|[aQ])<|(aA t.nd n.toNat).ou),(V.ms 7058 5 0<|((aA t.nd n.toNat).kd.length)+1)]) (by (simp; omega)) (by exact (qZ _ _ _).symm) J (.done ?_);refine W_g<|cM (bB (id:=7058) (bB (id:=7028) t16 J) J) (aR (id:=7058) (aR (id:=7028) h16 DE) DE)<|aV J (aR (id:=7058) (aR (id:=7028) h16 DE) DE) J J<|aJ (bB (id:=7058) (bB (id:=7028) t3 J) J)<|aS J J<|aI (dP ([w]) (by simp only [bD,List.append_nil]; omega)) J<|bN J J<|aS J J<|rW (l:=(t.nd.set n.toNat (⟨(aA t.nd n.toNat).lf,bD [(aA t.nd n.toNat).ac],bD [(aA t.nd n.toNat).sf],qD (kH (aA t.nd n.toNat).ou aQ) (bD<|[aQ]) ((aA t.nd n.toNat).ou),qD (kH (aA t.nd n.toNat).ou aQ) ((t.nd.length:Nat):Int) ((aA t.nd n.toNat).kd)⟩:Nd))) (f:=cN) (aM<|V.ms 212 1 0 t.nd.length) ((by (rw [aU,List.map_set]; rfl)):_=(bk 1 108 5<|List.map cN<|t.nd.set n.toNat (⟨(aA t.nd n.toNat).lf,bD [(aA t.nd n.toNat).ac],bD [(aA t.nd n.toNat).sf],qD (kH (aA t.nd n.toNat).ou aQ) (bD<|[aQ]) ((aA t.nd n.toNat).ou),qD (kH (aA t.nd n.toNat).ou aQ) ((t.nd.length:Nat):Int) ((aA t.nd n.toNat).kd)⟩:Nd))) SI (aM<|V.sl [[(V.bool true),(aE<|bD<|[w]),V.nilsl,V.nilsl,V.nilsl]]) (by simp [eH,V.one]) (by (simp; omega)) (by (simp; omega))<|cM (bB (id:=7058) (bB (id:=7028) t16 J) J) (aR (id:=7058) (aR (id:=7028) h16 DE) DE)<|bQ J J J (aR (id:=7058) (aR (id:=7028) h16 DE) DE) J J J J J<|bR ?_
 refine sP (id:=212) (l:=(t.nd.set n.toNat (⟨(aA t.nd n.toNat).lf,bD [(aA t.nd n.toNat).ac],bD [(aA t.nd n.toNat).sf],qD (kH (aA t.nd n.toNat).ou aQ) (bD<|[aQ]) ((aA t.nd n.toNat).ou),qD (kH (aA t.nd n.toNat).ou aQ) ((t.nd.length:Nat):Int) ((aA t.nd n.toNat).kd)⟩:Nd))) (m:=([(⟨true,bD ([w]),[],[],[]⟩:Nd)])) (f:=cN) (@J Blk<|bk 2 108 5<|List.map cN (t.nd.set n.toNat (⟨(aA t.nd n.toNat).lf,bD [(aA t.nd n.toNat).ac],bD [(aA t.nd n.toNat).sf],qD (kH (aA t.nd n.toNat).ou aQ) (bD<|[aQ]) ((aA t.nd n.toNat).ou),qD (kH (aA t.nd n.toNat).ou aQ) ((t.nd.length:Nat):Int) ((aA t.nd n.toNat).kd)⟩:Nd))++[[(V.bool true),(aE<|bD<|[w]),V.nilsl,V.nilsl,V.nilsl]]) J (.done ?_);refine aW<|aV (bB (id:=7058) (bB (id:=7028) t16 J) J) J J J<|bQ (bB (id:=7058) (bB (id:=7028) t8 J) J) J J (aR (id:=7058) (aR (id:=7028) h8 DE) DE) J J J J J<|aD<|bF ?_
 refine dJ (bI (u:=(V.agg [(V.ms 212 2 0<|t.nd.length+1)])) (bB (id:=7058) (bB (id:=7028) t8 J) J) (@J Blk<|bk 1 47 1 [[(V.ms 212 2 0<|t.nd.length+1)]])<|lB oB J J) (aY<|aM<|iV 0) (fE<|iK (@J Blk<|bk 2 108 5<|List.map cN<|t.nd.set n.toNat (⟨(aA t.nd n.toNat).lf,bD [(aA t.nd n.toNat).ac],bD [(aA t.nd n.toNat).sf],qD (kH (aA t.nd n.toNat).ou aQ) (bD<|[aQ]) ((aA t.nd n.toNat).ou),qD (kH (aA t.nd n.toNat).ou aQ) ((t.nd.length:Nat):Int) ((aA t.nd n.toNat).kd)⟩:Nd)++[(⟨true,bD ([w]),[],[],[]⟩:Nd)]) JR (l:=(t.nd.set n.toNat (⟨(aA t.nd n.toNat).lf,bD [(aA t.nd n.toNat).ac],bD [(aA t.nd n.toNat).sf],qD (kH (aA t.nd n.toNat).ou aQ) (bD<|[aQ]) ((aA t.nd n.toNat).ou),qD (kH (aA t.nd n.toNat).ou aQ) ((t.nd.length:Nat):Int) ((aA t.nd n.toNat).kd)⟩:Nd)++[(⟨true,bD ([w]),[],[],[]⟩:Nd)])) J SI (λ_=>by simp) ?_)<|aF ?_
 . have z9:jD t n aQ w=0:=by
     unfold jD; rw [if_neg OM,if_neg OM,if_neg OM,if_neg d5,if_neg OM,if_neg OM]
   rw [aIf z9]; simp [aGN,vH,gNd]
 . have z9:jD t n aQ w=0:=by
     unfold jD; rw [if_neg OM,if_neg OM,if_neg OM,if_neg d5,if_neg OM,if_neg OM]
   exact z9.symm
theorem sN (l:Ts) (o:Ob) (w x:List Int) (ho:kS o=0) (hw:w.length<=1048576) (hx:x.length<=1048576) (hs:(eA o (bD [w,x])).isSome=true):bK Tryz.prog 52 [(V.agg [(iV l.i),(V.sl (List.map cN l.t.nd)),(iV o.i),(V.sl (List.map cT o.tr))]),(aE w),(aE x)] (aE (lH o w x)):=by
 refine' pK [] [] Tryz.func52 ?e λhB=>?_
 case e=>conv=>lhs; cbv
 dsimp only;have d4:=nH (lD ho) hs;have d5:(bD [w,x]).length=w.length+x.length:=by simp [bD]
 refine aW<|bS (i:=3) (n:=0) (m:=4) (cs:=[(iV l.i),(V.sl<|List.map cN l.t.nd),(iV o.i),(V.sl<|List.map cT o.tr)]) J (cE J) J J J<|aD<|aW<|aX J J J J<|aP<|aP<|aS J J<|aI (dP ([w,x]) (by simp only [bD,List.append_nil,List.length_append,List.length_cons,List.length_nil]; omega)) J<|aI (lO o (bD<|[w,x]) ho) J<|aP<|bE J J<|bE J J<|aP ?_
 refine aD<|aW<|aP<|aP<|bA J<|aP<|bA J<|mP J J OM OM<|gD (n:=((((((eA o<|bD<|[w,x]).getD []).length:Nat):Int) - ((x.length:Nat):Int)).toNat)) (aM<|aE<|(eA o<|bD<|[w,x]).getD []) (bL (aM<|iV<|((((eA o<|bD<|[w,x]).getD []).length:Nat):Int) - ((x.length:Nat):Int))<|sC OM) OM (λ_=>J)<|aD<|bF ?_
 refine aZ (aM<|aE<|List.drop ((((((eA o<|bD<|[w,x]).getD []).length:Nat):Int) - ((x.length:Nat):Int)).toNat)<|(eA o<|bD<|[w,x]).getD [])<|cA ?_ (λ_=>by simp)
 . unfold lH; rw [show ((((eA o<|bD [w,x]).getD []).length:Int) - (x.length:Int)).toNat=w.length by omega]
theorem sW (l:Ts) (o:Ob) (hb:Bd l.t) (ho:kS o=0) (hx:(dD l).length<=5000):bK Tryz.prog 20 [(V.agg [(iV l.i),(V.sl (List.map cN l.t.nd))]),(V.agg [(iV o.i),(V.sl (List.map cT o.tr))])] (V.tup [(V.agg [(iV ((cR l o).1.i)),(V.sl (List.map cN ((cR l o).1.t.nd)))]),(aC ((cR l o).2.1)),(V.bool ((cR l o).2.2.1)),(iV ((cR l o).2.2.2))]):=by
 refine' pK [] [⟨16,[0,1,2,3,4,5,6,7,8,9,10,11,12,13,14,15,16,17,18,19,20,21,22,23,24],[15],[]⟩] Tryz.func20 ?e λhB=>?_
 case e=>conv=>lhs; cbv
 dsimp only;have hal:=jS l.t.nd;have hxn:=aHr l o

 refine aW<|bS (i:=2) (n:=0) (m:=2) (cs:=[(iV l.i),(V.sl<|List.map cN l.t.nd)]) J (cE J) J J J<|bS (i:=3) (n:=0) (m:=2) (cs:=[(iV o.i),(V.sl<|List.map cT o.tr)]) J (cE J) J J J<|bM (i:=4) (n:=0) (m:=2) J (cE J) J<|aP<|aP<|aD<|aW<|aV J J J J<|aV J J J J<|bN J J<|bM (i:=8) (n:=0) (m:=4) J (cE J) J<|bQ J J J J J J J J J<|tA ?_
 refine aW<|aV J J J J<|aI (uJ l o hb) J<|aD<|aO<|aP<|bP J J<|bR ?_
 refine aH J (λc1=>?_) λc1=>?_
 . 
  have za:=c1;refine aO<|aV J J J J<|aP<|bQ J J J J J J J J J<|aP<|aP<|aD<|aK ?_
  refine gO (bI (u:=(V.agg [(iV l.i),(V.sl<|List.map cN l.t.nd)])) J (@J Blk<|bk 1 49 2 [[(iV l.i),(V.sl<|List.map cN l.t.nd)]])<|lB oB J J) (aY<|aM V.nilsl) (aY<|aM<|V.bool false) (aY<|aM<|iV<|jL l o) (cK (aF ?_)<|cA ?_ (λ_=>by simp)) (bH ?_) (cH ?_)<|aF ?_
  . rw [oG za]
  . rw [oG za]
  . rw [oG za]
  . rw [oG za]
  . rw [oG za]
 have za:=c1;have ht:=aBV (show jL l o=0 by omega);obtain ⟨hi1,hi2,hv,hw0,_,hl0⟩:=tL ht.1;have hbn:=hb.n;have hll:=oZ hv;refine aB<|aW<|aV J J J J<|aI (aBr l o hb ht.1 ho hx) J<|aP<|bE J J<|bE J J<|bE J J<|aP<|aP<|aD<|aO<|aP<|bP J J ?_
 refine bR ?_;refine aH J (λc2=>?_) λc2=>?_
 . 
  have zb:=c2;refine aO<|aV J J J J<|aP<|bQ J J J J J J J J J<|aP<|aP<|aD<|aK ?_
  refine gO (bI (u:=(V.agg [(iV l.i),(V.sl<|List.map cN l.t.nd)])) J (@J Blk<|bk 1 49 2 [[(iV l.i),(V.sl<|List.map cN l.t.nd)]])<|lB oB J J) (aY<|aM V.nilsl) (aY<|aM<|V.bool false) (aY<|aM<|iV<|lE l o) (cK (aF ?_)<|cA ?_ (λ_=>by simp)) (bH ?_) (cH ?_)<|aF ?_
  . rw [oL za zb]
  . rw [oL za zb]
  . rw [oL za zb]
  . rw [oL za zb]
  . rw [oL za zb]
 have zb:=c2;refine aB<|aO<|aP<|bA J<|eD J J<|bR ?_
 refine aH J (λc3=>?_) λc3=>?_
 . 
  have zc:0 < (oD<|rD l o).length:=by have q:=c3; rw [if_pos (show lE l o=0 by omega)] at q; omega
  refine aO<|aV J J J J<|aP<|bQ J J J J J J J J J<|aP<|aP<|aD<|aK ?_
  refine gO (bI (u:=(V.agg [(iV l.i),(V.sl<|List.map cN l.t.nd)])) J (@J Blk<|bk 1 49 2 [[(iV l.i),(V.sl<|List.map cN l.t.nd)]])<|lB oB J J) (aY<|aM<|aC (if lE l o=0 then oD (rD l o) else [])) (aY<|aM<|V.bool false) (aY<|aM<|iV 0) (cK (aF ?_)<|cA ?_ (λ_=>by simp)) (cA ?_ (λ_=>by simp)) (cH ?_)<|aF ?_
  . rw [lC za zb zc]
  . rw [lC za zb zc]
  . rw [lC za zb zc]; exact if_pos OM
  . rw [lC za zb zc]
  . rw [lC za zb zc]
 have zc: ¬0 < (oD<|rD l o).length:=by have q:=c3; rw [if_pos (show lE l o=0 by omega)] at q; omega
 refine aB<|aO<|aP<|bA J<|aD (aG λQ4 n4 x4 y4 z4=>?_)
 refine cC (λmm T H=> ∃ (k:Nat) (v14:Nat) (v15:Nat),mm=(dD l).length - k/\T 2=(cG 2)/\T 4=(cG 4)/\T 8=(cG 8)/\T 41=(V.sl<|List.map cXt<|iX l o)/\T 42=(iV (((dD l).length:Nat):Int))/\T 43=(iV ((k:Nat):Int))/\H 2=(bk 1 49 2 [[(iV l.i),(V.sl<|List.map cN l.t.nd)]])/\H 3=(bk 1 31 2 [[(iV o.i),(V.sl<|List.map cT o.tr)]])/\H 4=(bk 1 49 2 [[(iV 0),V.nilsl]])/\H 8=(bk 1 66 4 [[(iV l.i),(V.sl<|List.map cN l.t.nd),(iV o.i),(V.sl<|List.map cT o.tr)]])/\(H 14).ver=v14/\((H 15).ver=v15/\(H 15).live=false)/\(k<=(dD l).length)/\(qF l o=fi (wC l o) k ((dD l).length - k))) ?_ ?_
 . 
  refine ⟨_,0,0,0,J,J,J,J,(bL (aM<|V.sl<|List.map cXt (if lE l o=0 then iX l o else [])) (by (rw [if_pos (show lE l o=0 by omega)]; done))),(bL (cO<|(if lE l o=0 then iX l o else []).length) (by (rw [if_pos (show lE l o=0 by omega),hxn]; done))),(bL (aM<|iV 0) J),J,J,J,J,(cE J),⟨(cE J),congrArg Blk.live (@J Blk fL)⟩,?_,?_⟩
  . omega
  . rfl
 intro mm T H ⟨k,v14,v15,hmm,t2,t4,t8,t41,t42,t43,h2,h3,h4,h8,h14,h15,hk,hc⟩ Q5 p15 p25 p35;refine aW<|bZ t43 t42<|bR ?_
 refine aH J (λc6=>?_) λc6=>?_
 . 
  have hnd:=aBd za zb zc (show k < (dD l).length by omega);have r1:=pL ht.1<|cW (show k < (dD l).length by omega)
  have d9:aA (iX l o) k=_:=aHV OM;refine aB (aG λQ7 n7 x7 y7 z7=>(aW<|dA (i:=k) t41 t43<|aL J J<|bM (i:=14) (n:=v14) (m:=2) J h14 J<|bQ J J J J J J J J J<|tA<|aW<|aV t8 h8 J J<|aX J J J J<|aI (xB l o ((aA (iX l o) k).n) (by rw [d9]; exact hnd.2.1) (by rw [d9]; exact hnd.2.2.1)) J<|bR ?_));refine cU J (λc8=>?_) (λc8=>?_)
  . 
   have d1:wC l o k=false:=by have q:=c8; rw [d9] at q; unfold wC; simpa using q
   refine aT<|x7 _ _ (.done (eI<|cF t43<|aD ?_))
   refine p15 _ _ _ ?_ ⟨(k+1),(v14+1),v15,J,t2,t4,t8,t41,t42,(bL (cO<|k+1) JR),h2,h3,h4,h8,(cE J),h15,?_,?_⟩
   . omega
   . omega
   . rw [hc,kL (p:=wC l o) d1 OM]
  have d0:(aA l.t.nd (bJ l.t o<|aA (dD l) k).1.toNat).lf=false:=by have q:=c8; rw [d9] at q; simpa using q
  have d1:wC l o k=true:=by unfold wC; simpa using d0
  have d2:qF l o=(k:Int):=by rw [hc,mI (p:=wC l o) d1 OM]
  have d3:=hnd.2.2.2 d0;have hsf:=hb.sf (bJ l.t o<|aA (dD l) k).1.toNat OM;have hbh:=aAg ho (aA (dD l) k) (aA l.t.nd (bJ l.t o<|aA (dD l) k).1.toNat).sf;refine aB<|aO<|aX t2 h2 J J<|aI (oV l.t hb) J<|bA J<|iC J J<|bR ?_
  refine aH J (λc9=>?_) λc9=>?_
  . 
   have z5:128<=(eP l.t.nd).length:=by rw [<- hll]; have q:=c9; unfold fU; omega
   refine aO<|aV t2 h2 J J<|bQ t4 J J h4 J J J J J<|aP<|aP<|aD<|aK<|y7 _ _<|p25 _ _<|y4 _ _ ?_
   refine gO (bI (u:=(V.agg [(iV l.i),(V.sl<|List.map cN l.t.nd)])) t4 (@J Blk<|bk 1 49 2 [[(iV l.i),(V.sl<|List.map cN l.t.nd)]])<|lB oB J J) (aY<|aM V.nilsl) (aY<|aM<|V.bool false) (aY<|aM<|iV 11) (cK (aF ?_)<|cA ?_ (λ_=>by simp)) (bH ?_) (cH ?_)<|aF ?_
   . rw [kM za zb zc OM z5]
   . rw [kM za zb zc OM z5]
   . rw [kM za zb zc OM z5]
   . rw [kM za zb zc OM z5]
   . rw [kM za zb zc OM z5]
  have z5:(eP l.t.nd).length < 128:=by rw [<- hll]; have q:=c9; unfold fU; omega
  refine aB<|W_d (by exact (oP h15.2 qQ))<|aX t2 h2 J J<|aX J J J J<|aV t8 h8 J J<|aX J J J J<|cM t2 h2<|aX J h2 J J<|aX J J J J<|dR (i:=((aA (iX l o) k).n)) (aM<|V.sl<|List.map cN l.t.nd) (aM<|iV<|(aA (iX l o) k).n) (by (rw [d9]; show _<=(bJ l.t o<|aA (dD l) k).1; omega)) (by (rw [d9]; show (bJ l.t o<|aA (dD l) k).1 < _; omega)) J<|dB (cs':=(List.drop 2<|cN<|aA l.t.nd ((aA (iX l o) k).n).toNat)) J J ?_
  refine aL J J<|aI (sN l o ((aA (iX l o) k).w) ((aA l.t.nd ((aA (iX l o) k).n).toNat).sf) ho (by rw [d9]; show (aA (dD l) k).length<=_; omega) (by rw [d9]; exact hsf) (by rw [d9]; exact d3.1)) J<|aX J J J J<|aI (aGx l.t ((aA (iX l o) k).n) (lH o ((aA (iX l o) k).w)<|(aA l.t.nd ((aA (iX l o) k).n).toNat).sf) ((aA (iX l o) k).w) hb (by simp only [d9]; omega) (by rw [d9]; show (aA (dD l) k).length<=_; omega)) J<|aP<|bE J J<|bE J J<|bM (i:=15) (n:=v15) (m:=1) J h15.1 J<|bQ J J J J J J J J J<|aD<|cS ?_
  refine dE (λT H=>T 2=(cG 2)/\T 4=(cG 4)/\T 15=(V.mp 15 (v15+1) 0 0)/\T 16=(iV<|jD l.t ((aA (iX l o) k).n) (lH o ((aA (iX l o) k).w)<|(aA l.t.nd ((aA (iX l o) k).n).toNat).sf)<|(aA (iX l o) k).w)/\T 80=(V.bool<|decide ((jD l.t ((aA (iX l o) k).n) (lH o ((aA (iX l o) k).w)<|(aA l.t.nd ((aA (iX l o) k).n).toNat).sf)<|(aA (iX l o) k).w)≠(0:Int)))/\H 2=(bk 1 49 2 [[(iV l.i),(V.sl<|List.map cN l.t.nd)]])/\H 3=(bk 1 31 2 [[(iV o.i),(V.sl<|List.map cT o.tr)]])/\H 4=(bk 1 49 2 [[(iV 0),V.nilsl]])/\H 8=(bk 1 66 4 [[(iV l.i),(V.sl<|List.map cN l.t.nd),(iV o.i),(V.sl<|List.map cT o.tr)]])/\H 14=(bk (v14+1) 101 2 [[(aE<|(aA (iX l o) k).w),(iV<|(aA (iX l o) k).n)]])/\H 15=(bk (v15+1) 47 1 [[(V.sl<|List.map cN<|(grT l.t ((aA (iX l o) k).n) (lH o ((aA (iX l o) k).w)<|(aA l.t.nd ((aA (iX l o) k).n).toNat).sf)<|(aA (iX l o) k).w).nd)]])/\True) ?_ ?_
  . 
   refine aP<|bP J J ?_
   exact eS ⟨t2,t4,J,J,J,h2,h3,h4,h8,J,J,trivial⟩
  intro T H ⟨t2,t4,t15,t16,t80,h2,h3,h4,h8,h14,h15,_⟩;refine aH t80 (λc10=>?_) λc10=>?_
  . 
   have d6:=c10;rw [d9] at d6;refine aO<|aV t2 h2 J J<|aJ t16<|bQ t4 J J h4 J J J J J<|aP<|aP<|aD<|aK<|y7 _ _<|p25 _ _<|y4 _ _ ?_
   refine gO (bI (u:=(V.agg [(iV l.i),(V.sl<|List.map cN l.t.nd)])) t4 (@J Blk<|bk 1 49 2 [[(iV l.i),(V.sl<|List.map cN l.t.nd)]])<|lB oB J J) (aY<|aM V.nilsl) (aY<|aM<|V.bool false) (aY<|aM<|iV<|jD l.t ((aA (iX l o) k).n) (lH o ((aA (iX l o) k).w)<|(aA l.t.nd ((aA (iX l o) k).n).toNat).sf)<|(aA (iX l o) k).w) (cK (aF ?_)<|cA ?_ (λ_=>by simp)) (bH ?_) (cH ?_)<|aF ?_
   . try rw [d9]
     rw [oI za zb zc d2 z5 d6]
   . try rw [d9]
     rw [oI za zb zc d2 z5 d6]
   . try rw [d9]
     rw [oI za zb zc d2 z5 d6]
   . try rw [d9]
     rw [oI za zb zc d2 z5 d6]
   . try rw [d9]
     rw [oI za zb zc d2 z5 d6]
  have d6:=c10;rw [d9] at d6;refine aB<|aW<|aX t2 h2 J J<|aV t15 h15 J J<|bN J J<|bQ t4 J J h4 J J J J J<|aP<|aP<|aD<|bF<|y7 _ _<|p25 _ _<|y4 _ _ ?_
  refine gO (bI (u:=(V.agg [(iV l.i),(V.sl<|List.map cN<|(grT l.t ((aA (iX l o) k).n) (lH o ((aA (iX l o) k).w)<|(aA l.t.nd ((aA (iX l o) k).n).toNat).sf)<|(aA (iX l o) k).w).nd)])) t4 (@J Blk<|bk 1 49 2 [[(iV l.i),(V.sl<|List.map cN<|(grT l.t ((aA (iX l o) k).n) (lH o ((aA (iX l o) k).w)<|(aA l.t.nd ((aA (iX l o) k).n).toNat).sf)<|(aA (iX l o) k).w).nd)]])<|lB oB J J) (aY<|aM V.nilsl) (aY<|aM<|V.bool false) (aY<|aM<|iV 0) (cK (aF ?_)<|cA ?_ (λ_=>by simp)) (bH ?_) (cH ?_)<|aF ?_
  . try rw [d9]
    rw [oF za zb zc d2 z5 d6]
  . try rw [d9]
    rw [oF za zb zc d2 z5 d6]
  . try rw [d9]
    rw [oF za zb zc d2 z5 d6]
  . try rw [d9]
    rw [oF za zb zc d2 z5 d6]
  . try rw [d9]
    rw [oF za zb zc d2 z5 d6]
 have zd:qF l o < 0:=by rw [hc,kD OM]; omega
 refine aT<|p35 _ _ _<|x4 _ _ (.done (aW<|aV t2 h2 J J<|bQ t4 J J h4 J J J J J<|aP<|aP<|aD<|bF ?_))
 refine gO (bI (u:=(V.agg [(iV l.i),(V.sl<|List.map cN l.t.nd)])) t4 (@J Blk<|bk 1 49 2 [[(iV l.i),(V.sl<|List.map cN l.t.nd)]])<|lB oB J J) (aY<|aM V.nilsl) (aY<|aM<|V.bool true) (aY<|aM<|iV 0) (cK (aF ?_)<|cA ?_ (λ_=>by simp)) (bH ?_) (cH ?_)<|aF ?_
 . rw [jH za zb zc zd]
 . rw [jH za zb zc zd]
 . rw [jH za zb zc zd]
 . rw [jH za zb zc zd]
 . rw [jH za zb zc zd]
theorem aFV (v w:List Int):bK Tryz.prog 54 [(aE v),(V.pp [(aE w)])] (V.bool (decide (v=w))):=by
 refine' pK [] [] Tryz.func54 ?e λhB=>?_
 case e=>conv=>lhs; cbv
 dsimp only;refine aW<|aD<|aW<|aP<|aL J J<|aI (nQ v w) J<|aD<|bF ?_
 refine aZ (aM<|V.bool<|decide (v=w))<|eM SI J
end
end Go.Proofs.YtinpihlhcmpkhaaGreat
