/- Contracts of the functions that the law TA reaches, and the law itself, for every input; no condition. -/
import Derived.Shelf.SlSortCmp.Kit1
import Derived.Shelf.SlSortCmp.NoneTotal
import Derived.Test.YtilfohjlglefjaaGreatProg
import Derived.KernelRfl
import Derived.Shelf.Spec.SlicesInsertGrow
import Derived.Shelf.Spec.SlicesGrow
import Derived.Test.YtilfohjlglefjaaGreatTA1
set_option linter.unusedSimpArgs false
set_option linter.unusedVariables false
namespace Go.Proofs.YtilfohjlglefjaaGreat
open Go Go.Proofs Go.Shelf Go.Sort Go.Lib
def zG (P : Program) (f : Nat) : Prop := ∀ {α : Type} [Inhabited α] (enc : α → Value) (_ : OneCell enc) (cf : α → α → Int) (_ : SWO (ltOf cf)) (g : Nat) (cb : Array Value) (blk off cap : Nat) (d : Array α) (w : World)
    (_: ∀ args w,(callFunc g args).run P w=.ok (.enter g args) w) (_:CmpLays1 P g cb enc cf blk off d.size w) (_:Holds enc w blk off d) (_:blk < w.heap.size) (_:d.size < 4611686018427387904),
    Calls P f #[.slice (some ⟨blk,off,none⟩) d.size cap,.func (.func g) #[] cb] w fun e w'=>
      e=.returned (.tuple #[])∧ ∃ d' n os,PermIn 0 d.size d d'∧SortedIn (ltOf cf) 0 d.size d'∧w'=sortWorld enc w blk off n d' os
section
variable {P:Program} {α:Type} [Inhabited α] {enc:α→Value} {w:World} {blk off m:Nat} {dk:Array α} {os:Array Obj}
theorem kT {b:Nat} (hb:b < w.heap.size) (hne:b≠blk):(sortWorld enc w blk off m dk os).heap[b]?=w.heap[b]?:=by
  unfold sortWorld grow putRow mapBlock Sort.ahead
  simp only
  rw [Array.getElem?_append,if_pos (by simpa using hb),Array.getElem?_modify,if_neg (Ne.symm hne)]
theorem tP:w.heap.size≤(sortWorld enc w blk off m dk os).heap.size:=by
  unfold sortWorld grow putRow mapBlock Sort.ahead
  simp
theorem xD {cc:Array Value} {ty:TypeId} (h:w.heap[blk]?=some (.cells cc ty (0,0))):
    sortWorld enc w blk off m dk os=grow {w.setRow blk (putCells enc off dk cc) with drawn:=w.drawn+m} os:=by
  unfold sortWorld putRow mapBlock Sort.ahead World.setRow
  congr 2
  refine Array.ext_getElem? fun b=>?_
  simp only [Array.getElem?_modify]
  by_cases e:blk=b
  · subst e
    simp only [if_true,h,Option.map_some,onCells]
  · simp only [if_neg e]
end
theorem pJ {P:Program} {f g:Nat} (hS:zG P f) (hN:aBS P f) (hcf:cG P f) (hcg:cG P g) {T:Type} [Inhabited T] {f0:T→V} {l:List T} {cmp:T→T→Int}
    (hO:SWO fun a b=>decide (cmp a b < 0)) (hT: ∀ a∈l,∀ b∈l,¬cmp a b < 0→ ¬cmp b a < 0→a=b)
    (hc: ∀ a∈l,∀ b∈l,bB P g [f0 a,f0 b] (iV (cmp a b))) (hp: ∀ a∈l,(f0 a).pure=true) (h1: ∀ a∈l,(f0 a).one=true)
    (hl:l.length < 4611686018427387904) {id ver ty:Nat} {lz:Bool} {H:aF} (hH:H id=⟨ver,true,lz,ty,1,l.map fun a=>[f0 a]⟩):
    dG P f [.ms id ver 0 l.length,.fn g [] []] H (.tup []) (upd H id ⟨ver,true,lz,ty,1,(srt cmp l).map fun a=>[f0 a]⟩):=by
  refine ⟨hcf,fun x cs hxH hx hr=>?_⟩
  subst hxH
  obtain ⟨c0,c1,rfl⟩: ∃ c0 c1,cs=[c0,c1]:=by
    have:=hr.1
    match cs with
    |[a,b]=>exact ⟨a,b,rfl⟩
    |[]=>simp at this
    |[_]=>simp at this
    |_::_::_::_=>simp at this
  have r0:R x (.ms id ver 0 l.length) c0:=hr.2 0 _ rfl
  have r1:R x (.fn g [] []) c1:=hr.2 1 _ rfl
  cases r1 with
  |fn _ _ _ fs cb hfs hcs _ _=>
  have hfs':fs=#[]:=Array.eq_empty_of_size_eq_zero (by simpa using hfs)
  have hcs':cb=#[]:=Array.eq_empty_of_size_eq_zero (by simpa using hcs)
  subst hfs'; subst hcs'
  cases r0 with
  |ms _ _ _ _ b n cap hv hh hm=>
  obtain ⟨e1,e2,e3,e4,e5,e6⟩:=hh (by rw [hH]) (by rw [hH])
  subst e1
  by_cases hne:l=[]
  · subst hne
    refine (hN b cap (.func (.func g) #[] #[]) x.w).mono fun e w' h=>?_
    obtain ⟨rfl,rfl⟩:=h
    refine ⟨_,x,rfl,rfl,?_,hx,.tup [] #[] rfl (fun j v hj=>by simp at hj),Frame.refl x⟩
    funext j
    by_cases e:j=id
    · subst e; rw [aE,hH]; rfl
    · rw [aG _ _ e]
  have hpos:0 < l.length:=List.length_pos_iff.2 hne
  have ho:(x.H id).own=true:=by
    rw [hH]
    cases l with
    |nil=>exact (hne rfl).elim
    |cons a l=>simp [Blk.own]
  obtain ⟨e7,_⟩:=e5 ho
  rw [hH] at e7
  simp only [Nat.zero_mul] at e7
  subst e7
  obtain ⟨cc,b1,b2,b3,b4⟩:=hx.cel id ho (hm (by rw [hH]) (by rw [hH]))
  simp only [hH] at b1 b2 b3 b4
  rw [List.length_map,Nat.mul_one] at b3
  let A:Type:={i:Nat // i < l.length}
  haveI:Inhabited A:=⟨⟨0,hpos⟩⟩
  let enc:A→Value:=fun i=>cc.getD i.1 undef
  let cf:A→A→Int:=fun a b=>cmp (nth l a.1) (nth l b.1)
  let d:Array A:=Array.ofFn fun i:Fin l.length=>(⟨i.1,i.2⟩:A)
  have hdn:d.size=l.length:=by simp [d]
  have hdi: ∀ i (h:i < l.length),d[i]! =⟨i,h⟩:=fun i h=>by
    rw [getElem!_pos d i (by rw [hdn]; exact h)]; simp [d]
  have hrow: ∀ i,i < l.length→(l.map fun a=>[f0 a])[i]?=some [f0 (nth l i)]:=fun i hi=>by rw [List.getElem?_map,vG hi]; rfl
  have hRx: ∀ a:A,R x (f0 (nth l a.1)) (cc.getD a.1 undef):=fun a=>by
    have:=b4 a.1 _ 0 _ (hrow a.1 a.2) rfl
    rwa [Nat.mul_one,Nat.add_zero] at this
  have hO':SWO (ltOf cf):=⟨fun a=>hO.irrefl _,fun a b c=>hO.trans _ _ _,fun a b c=>hO.ntrans _ _ _⟩
  have hcmp:CmpLays1 P g #[] enc cf (x.σ id) 0 d.size x.w:=by
    intro m os dk hdk a b
    let W:=sortWorld enc x.w (x.σ id) 0 m dk os
    let z:Cx:=start {x with w:=W} x.Z
    have hz:Inv z:=mP (fun b hb=>Nat.lt_of_lt_of_le (hx.zlt b hb) tP) fun p hp=>⟨(hx.tab p hp).1,by
      obtain ⟨q1,q2⟩:=hx.tab p hp
      show ∃ ty m,W.heap[p.1]?=_
      rw [show W.heap[p.1]?=x.w.heap[p.1]? from kT (hx.zlt _ q1) fun e=>hx.zown _ id q1 ho e.symm]; exact q2⟩
    have hag: ∀ a:A,R z (f0 (nth l a.1)) (enc a):=fun a=>by
      refine (hRx a).pure_same (y:=z) (hp _ (bF a.2)) (fun b hb=>?_) fun _ h=>h
      exact kT (hx.zlt b hb) fun e=>hx.zown b id hb ho e.symm
    have hrl:RL z [f0 (nth l a.1),f0 (nth l b.1)] [enc a,enc b]:=by
      refine ⟨rfl,fun j v hj=>?_⟩
      match j,hj with
      |0,hj=>simp at hj; subst hj; exact hag a
      |1,hj=>simp at hj; subst hj; exact hag b
    refine ((hc _ (bF a.2) _ (bF b.2) H0).2 z _ rfl hz hrl).mono fun e w' h=>?_
    obtain ⟨c,y,rfl,rfl,_,_,h5,h6⟩:=h
    cases h5
    obtain ⟨q,os',hq⟩:=wI h6 fun id=>rfl
    exact ⟨rfl,q,os',hq⟩
  have hsz:d.size < 4611686018427387904:=by rw [hdn]; exact hl
  have hH':Holds enc x.w (x.σ id) 0 d:=by
    intro j hj
    rw [hdn] at hj
    have e:enc d[j]! =cc.getD j undef:=by rw [hdi _ hj]
    have hjc:j < cc.size:=by omega
    refine ⟨?_,?_⟩
    · rw [e,Nat.zero_add]; exact gP b1 hjc
    · simp [World.frozen?,b1]
  have hcall:=hS enc (fun a=>(hRx a).one (h1 _ (bF a.2))) cf hO' g #[] (x.σ id) 0 cap d x.w (tO hcg) hcmp hH' (hx.lt ho) hsz
  rw [hdn] at hcall
  refine hcall.mono fun e w' h=>?_
  obtain ⟨rfl,d',n',os',hP,hSo,rfl⟩:=h
  obtain ⟨p1,_,p3⟩:=hP
  rw [hdn] at p1
  have x1:d'.extract 0 l.length=d':=by rw [← p1]; simp
  have x2:d.extract 0 l.length=d:=by rw [← hdn]; simp
  rw [x1,x2] at p3
  have hmap:d.toList.map (fun a:A=>nth l a.1)=l:=by
    refine jC (by simp [hdn]) fun j hj=>?_
    have hj':j < l.length:=by simpa [hdn] using hj
    rw [aEi (by simpa using hj),← oF d j (by rw [hdn]; exact hj'),hdi j hj']
  have hl':d'.toList.map (fun a:A=>nth l a.1)=srt cmp l:=by
    have hperm:(d'.toList.map (fun a:A=>nth l a.1)).Perm l:=by
      have:=p3.map (fun a:A=>nth l a.1)
      rwa [hmap] at this
    refine tD (le:=fun a b=> ¬cmp b a < 0) (fun a ha b hb h1 h2=>hT a (hperm.mem_iff.1 ha) b (hperm.mem_iff.1 hb) h2 h1) (hperm.trans (mH cmp l).symm) ?_ (lD hO l)
    rw [List.pairwise_map,List.pairwise_iff_getElem]
    intro i j hi hj hij
    have h:=hSo i j (Nat.zero_le _) hij (by rw [← p1]; simpa using hj)
    rw [oF d' i (by simpa using hi),oF d' j (by simpa using hj),← aM hi,← aM hj] at h
    simpa [ltOf,cf] using h
  let cc':=putCells enc 0 d' cc
  have hcs:cc'.size=cc.size:=by simp [cc',putCells]
  have hg: ∀ r,r < l.length→ ∀ (hr:r < d'.size),cc'.getD r undef=cc.getD (d'[r]'hr).1 undef:=by
    intro r hr hr'
    have e:cc'[r]?=some (enc d'[r]!):=by
      simp only [cc',putCells,Array.getElem?_mapIdx]
      rw [Array.getElem?_eq_getElem (by omega)]
      simp [hr']
    rw [Array.getD_eq_getD_getElem?,e,getElem!_pos d' r hr']
    rfl
  have hrows: ∀ (r:Nat) (row:List V) (j:Nat) (v:V),((srt cmp l).map fun a=>[f0 a])[r]?=some row→row[j]?=some v→R x v (cc'.getD (r*1+j) undef):=by
    intro r row j v hr hj
    rw [← hl',List.map_map,List.getElem?_map] at hr
    obtain ⟨a,ha,rfl⟩:=map_some hr
    have har:=List.getElem?_eq_some_iff.1 ha
    obtain ⟨hlt,hae⟩:=har
    have hlt':r < d'.size:=by simpa using hlt
    have hj0:j=0:=by
      have:=(List.getElem?_eq_some_iff.1 hj).1
      simp at this; exact this
    subst hj0
    simp only [Function.comp_apply,List.getElem?_cons_zero,Option.some.injEq] at hj
    subst hj
    rw [Nat.mul_one,Nat.add_zero,hg r (by omega) hlt']
    have hae':d'[r]'hlt'=a:=by simpa using hae
    rw [hae']
    exact hRx a
  have st:=gO hx id ho cc cc' (by rw [hH]; exact b1) hcs (x.H id).ver ((srt cmp l).map fun a=>[f0 a]) (Nat.le_refl _) (fun _=>by rw [hH]; simp [iY]) (by
      rw [hH]
      have:(srt cmp l).length=l.length:=by simp [iY]
      cases hq:srt cmp l with
      |nil=>rw [hq] at this; simp at this; omega
      |cons a q=>simp) (fun r hr=>by
      rw [hH]
      obtain ⟨a,_,rfl⟩:=List.mem_map.1 hr
      rfl) (by rw [hH]; simpa [iY] using b3) (by simp only [hH]; exact hrows)
  simp only [hH] at st
  obtain ⟨i1,f1⟩:=st
  obtain ⟨i2,f2⟩:=fN i1 (x.w.drawn+n') (Nat.le_add_right _ _)
  obtain ⟨i3,f3⟩:=aFg i2 os'
  refine ⟨.tuple #[],_,rfl,?_,?_,i3,.tup [] #[] rfl (fun j v hj=>by simp at hj),(f1.trans f2).trans f3⟩
  · rw [xD b1]
  · rfl
end Go.Proofs.YtilfohjlglefjaaGreat
namespace Go.Proofs.YtilfohjlglefjaaGreat
open Go Go.Proofs Go.Shelf Go.Sort
def aDd:Go.Shelf.Ren:=⟨fun|6=>209|15=>232|14=>231|28=>244|29=>245|20=>236|21=>237|22=>238|23=>239|24=>240|25=>241|26=>242|27=>243|46=>247|47=>248|48=>249|49=>250|50=>251|57=>253|n=>n,fun|22=>22|24=>38|25=>255|3=>3|39=>309|0=>0|53=>329|55=>331|4=>4|46=>323|45=>322|50=>132|5=>5|9=>9|66=>332|70=>336|76=>339|77=>71|n=>n,fun n=>n⟩
theorem uH:SlLaysF.n6 Tryz.prog aDd:={
  mixed:=(by kernel_rfl),
  f6:=⟨Tryz.f209.name,by decide,Tryz.func209.trans (congrArg some (by kernel_rfl))⟩,
  f14:=⟨Tryz.f231.name,by decide,Tryz.func231.trans (congrArg some (by kernel_rfl))⟩,
  f15:=Tryz.func232.trans (congrArg some (by kernel_rfl)),
  f20:=⟨Tryz.f236.name,by decide,Tryz.func236.trans (congrArg some (by kernel_rfl))⟩,
  f21:=⟨Tryz.f237.name,by decide,Tryz.func237.trans (congrArg some (by kernel_rfl))⟩,
  f22:=⟨Tryz.f238.name,by decide,Tryz.func238.trans (congrArg some (by kernel_rfl))⟩,
  f23:=⟨Tryz.f239.name,by decide,Tryz.func239.trans (congrArg some (by kernel_rfl))⟩,
  f24:=⟨Tryz.f240.name,by decide,Tryz.func240.trans (congrArg some (by kernel_rfl))⟩,
  f25:=⟨Tryz.f241.name,by decide,Tryz.func241.trans (congrArg some (by kernel_rfl))⟩,
  f26:=⟨Tryz.f242.name,by decide,Tryz.func242.trans (congrArg some (by kernel_rfl))⟩,
  f27:=⟨Tryz.f243.name,by decide,Tryz.func243.trans (congrArg some (by kernel_rfl))⟩,
  f28:=Tryz.func244.trans (congrArg some (by kernel_rfl)),
  f29:=Tryz.func245.trans (congrArg some (by kernel_rfl)),
  f46:=⟨Tryz.f247.name,by decide,Tryz.func247.trans (congrArg some (by kernel_rfl))⟩,
  f47:=Tryz.func248.trans (congrArg some (by kernel_rfl)),
  f48:=Tryz.func249.trans (congrArg some (by kernel_rfl)),
  f49:=⟨Tryz.f250.name,by decide,Tryz.func250.trans (congrArg some (by kernel_rfl))⟩,
  f50:=⟨Tryz.f251.name,by decide,Tryz.func251.trans (congrArg some (by kernel_rfl))⟩,
  f57:=⟨Tryz.f253.name,by decide,Tryz.func253.trans (congrArg some (by kernel_rfl))⟩,
  t0:=Tryz.underlying0,
  a0:=Tryz.isAgg0,
  z0:=Tryz.sizeOf0,
  v0:=Tryz.zeroValue0,
  t3:=Tryz.underlying3,
  a3:=Tryz.isAgg3,
  z3:=Tryz.sizeOf3,
  v3:=Tryz.zeroValue3,
  t4:=Tryz.underlying4,
  a4:=Tryz.isAgg4,
  z4:=Tryz.sizeOf4,
  v4:=Tryz.zeroValue4,
  t5:=Tryz.underlying5,
  a5:=Tryz.isAgg5,
  z5:=Tryz.sizeOf5,
  v5:=Tryz.zeroValue5,
  t9:=Tryz.underlying9,
  a9:=Tryz.isAgg9,
  z9:=Tryz.sizeOf9,
  v9:=Tryz.zeroValue9,
  t22:=Tryz.underlying22,
  a22:=Tryz.isAgg22,
  z22:=Tryz.sizeOf22,
  v22:=Tryz.zeroValue22,
  a24:=Tryz.isAgg38,
  z24:=Tryz.sizeOf38,
  t25:=Tryz.underlying255,
  a25:=Tryz.isAgg255,
  z25:=Tryz.sizeOf255,
  v25:=Tryz.zeroValue255,
  t39:=Tryz.underlying309,
  a39:=Tryz.isAgg309,
  z39:=Tryz.sizeOf309,
  v39:=Tryz.zeroValue309,
  t45:=Tryz.underlying322,
  a45:=Tryz.isAgg322,
  z45:=Tryz.sizeOf322,
  v45:=Tryz.zeroValue322,
  t46:=Tryz.underlying323,
  a46:=Tryz.isAgg323,
  z46:=Tryz.sizeOf323,
  v46:=Tryz.zeroValue323,
  t50:=Tryz.underlying132,
  a50:=Tryz.isAgg132,
  z50:=Tryz.sizeOf132,
  v50:=Tryz.zeroValue132,
  t53:=Tryz.underlying329,
  a53:=Tryz.isAgg329,
  z53:=Tryz.sizeOf329,
  v53:=Tryz.zeroValue329,
  t55:=Tryz.underlying331,
  a55:=Tryz.isAgg331,
  z55:=Tryz.sizeOf331,
  v55:=Tryz.zeroValue331,
  t66:=Tryz.underlying332,
  a66:=Tryz.isAgg332,
  z66:=Tryz.sizeOf332,
  v66:=Tryz.zeroValue332,
  t70:=Tryz.underlying336,
  a70:=Tryz.isAgg336,
  z70:=Tryz.sizeOf336,
  v70:=Tryz.zeroValue336,
  t76:=Tryz.underlying339,
  a76:=Tryz.isAgg339,
  z76:=Tryz.sizeOf339,
  v76:=Tryz.zeroValue339,
  t77:=Tryz.underlying71,
  a77:=Tryz.isAgg71,
  z77:=Tryz.sizeOf71,
  v77:=Tryz.zeroValue71}
theorem tI:zG Tryz.prog 209:=fun enc h1 cf hO g cb blk off cap d w eg hcmp hH hblk hsz=>
  Any.slices_SortFunc uH enc h1 cf hO g cb blk off cap d w eg hcmp hH hblk hsz
theorem sU:cG Tryz.prog 209:=⟨_,Tryz.func209,by kernel_rfl,by kernel_rfl⟩
theorem sW:aBS Tryz.prog 209:=fun p cap fv w=>AnyF.slices_SortFunc_none {uH with} p cap fv w
end Go.Proofs.YtilfohjlglefjaaGreat
namespace Go.Proofs.YtilfohjlglefjaaGreat
open Go Go.Proofs
theorem aAr (l:List (List Int)) (hl:l.length≤1073741824) (hw: ∀ w∈l,w.length≤1048576):bB Tryz.prog 168 [(aB l),(V.fn 171 [] [])] (aB (sdP l)):=by
 refine pW Tryz.func168 aEt fun hB=>?_
 unfold aQy
 dsimp only
 have q9:(ddK (srt slx l) (srt slx l).length).length≤l.length:=aI7 l
 refine W_r (eT (i:=3) (n:=0) (m:=1) (cs:=[(V.fn 171 [] [])]) rfl (congrArg Blk.ver rfl) rfl rfl rfl (aA rfl (R_e (W_r (aA rfl (lL (dH rfl iH) (aCp l 0 _ (congrArg Blk.ver rfl) (by omega)) (aA rfl ?_)))))))
 refine R_e (W_r (aA rfl (aK rfl rfl rfl rfl (lL (dH rfl (dH rfl iH)) (pJ (f0:=aS) (l:=l) (cmp:=slx) tI sW sU ⟨_,Tryz.func171,by kernel_rfl,by kernel_rfl⟩ aDw (fun a _ b _ h1 h2=>aBP h1 h2) (fun a _ b _=>rG a b) (fun a _=>by simp) (fun a _=>rfl) (by omega) rfl) (R_e (W_r (aA rfl ?_)))))))
 refine aLy (dH rfl iH) (lL (dH rfl (dH rfl iH)) (aKi (srt slx l) 3 1 l.length _ (@rfl Blk (bz 3 38 1 (List.map cL (srt slx l)))) (@rfl Blk (bk 1 255 1 [[(V.fn 171 [] [])]])) (by simp [iY]) (by simp only [iY]; omega)) (aA rfl (R_e (aC (W_r (aA rfl (eP rfl (@rfl Blk (bz 3 38 1 (List.map cL (ddK (srt slx l) (srt slx l).length)++List.replicate ((srt slx l).length - (ddK (srt slx l) (srt slx l).length).length) [V.nilsl]))) (by first|rfl|simp) ?_)))))))
 refine aA rfl (R_e (aI fun Q1 n1 x1 y1 z1=>?_))
 refine cW (fun mm T H=> ∃ (k:Nat),mm=((ddK (srt slx l) (srt slx l).length).length) - k∧T 5=(V.ms 202 3 0 ((ddK (srt slx l) (srt slx l).length).length))∧T 16=(V.ms 202 3 0 ((ddK (srt slx l) (srt slx l).length).length))∧T 17=(iV (((ddK (srt slx l) (srt slx l).length).length:Nat):Int))∧T 18=(iV ((k:Nat):Int))∧H 3=(bk 1 255 1 [[(V.fn 171 [] [])]])∧H 202=(bz 3 38 1 (List.map cL (ddK (srt slx l) (srt slx l).length)++List.replicate ((srt slx l).length - (ddK (srt slx l) (srt slx l).length).length) [V.nilsl]))∧(k≤(ddK (srt slx l) (srt slx l).length).length)) ?_ ?_
 ·
  refine ⟨_,0,rfl,rfl,rfl,rfl,(Eq.trans (@rfl V (iV (0:Int))) rfl),rfl,rfl,?_⟩
  · omega
 intro mm T H ⟨k,hmm,t5,t16,t17,t18,h3,h202,hk⟩ Q2 p12 p22 p32
 unfold aCN
 refine W_r (bR t18 t17 (R_e ?_))
 refine aO rfl (fun c3=>?_) fun c3=>?_
 ·
  refine aH (aI fun Q4 n4 x4 y4 z4=>(W_r (aA t18 (dB (i:=k) t16 t18 h202 (kB (by omega)) rfl (by omega) (bT (v:=(aS ((nth (ddK (srt slx l) (srt slx l).length) (k))))) rfl h202 (aDs (by omega) (by first|rfl|(rw [cF_eq]; rfl)|simp [ldV,V.one])) (aA rfl (aA rfl ?_)))))))
  refine R_e (W_t (aA t5 (aA rfl (aA rfl (bG (oC ((nth (ddK (srt slx l) (srt slx l).length) (k))) (by have q:=hw (nth (ddK (srt slx l) (srt slx l).length) k) (aJv.1 (show nth (ddK (srt slx l) (srt slx l).length) k∈sdP l from bF (show k < (ddK (srt slx l) (srt slx l).length).length by omega))); omega)) rfl (dB (i:=k) (@rfl V (V.ms 202 3 0 ((ddK (srt slx l) (srt slx l).length).length))) (@rfl V (iV ((k:Nat):Int))) h202 (kB (by omega)) rfl (by omega) (bQ (vs:=[(aS (((nth (ddK (srt slx l) (srt slx l).length) (k)))))]) (B':=(bz 3 38 1 (List.map cL ((ddK (srt slx l) (srt slx l).length).set k (((nth (ddK (srt slx l) (srt slx l).length) (k)))))++List.replicate ((srt slx l).length - (ddK (srt slx l) (srt slx l).length).length) [V.nilsl]))) rfl rfl rfl h202 (aD6 (x:=(((nth (ddK (srt slx l) (srt slx l).length) (k))))) (i:=k) (by omega) rfl rfl rfl rfl) ?_)))))))
  refine R_e (n4 _ _ (.done (W_t (bV t18 (@rfl V (iV ((1:Nat):Int))) (by omega) (aA rfl (R_e ?_))))))
  refine p12 _ _ _ ?_ ⟨(k+1),rfl,t5,t16,t17,(Eq.trans (@rfl V (iV ((k+1:Nat):Int))) (by first|rfl|simp)),h3,(Eq.trans (@rfl Blk (bz 3 38 1 (List.map cL ((ddK (srt slx l) (srt slx l).length).set k (((nth (ddK (srt slx l) (srt slx l).length) (k)))))++List.replicate ((srt slx l).length - (ddK (srt slx l) (srt slx l).length).length) [V.nilsl]))) (by first|rfl|(rw [aDY (by omega)]; done))),?_⟩
  · omega
  · omega
 refine bA (p32 _ _ _ (x1 _ _ (.done (W_r (aA t5 (aA rfl (R_e ?_)))))))
 refine bK ?_
 refine bH (@rfl V (V.ms 202 3 0 ((ddK (srt slx l) (srt slx l).length).length))) (aEA h202 (by first|rfl|simp) (aBn (l:=(ddK (srt slx l) (srt slx l).length)) (by first|rfl|simp|omega)) (fun _=>by simp) ?_)
 · rfl
theorem xG (l:List (List Int)) (hl:l.length≤1073741824) (hw: ∀ w∈l,w.length≤1048576):bB Tryz.prog 168 [(aB l),(V.fn 169 [] [])] (aB (sdX l)):=by
 refine pW Tryz.func168 aEt fun hB=>?_
 unfold aQy
 dsimp only
 have q9:(ddK (srt aZ l) (srt aZ l).length).length≤l.length:=aEu l
 refine W_r (eT (i:=3) (n:=0) (m:=1) (cs:=[(V.fn 169 [] [])]) rfl (congrArg Blk.ver rfl) rfl rfl rfl (aA rfl (R_e (W_r (aA rfl (lL (dH rfl iH) (aCp l 0 _ (congrArg Blk.ver rfl) (by omega)) (aA rfl ?_)))))))
 refine R_e (W_r (aA rfl (aK rfl rfl rfl rfl (lL (dH rfl (dH rfl iH)) (pJ (f0:=aS) (l:=l) (cmp:=aZ) tI sW sU ⟨_,Tryz.func169,by kernel_rfl,by kernel_rfl⟩ aA4 (fun a _ b _ h1 h2=>yL h1 h2) (fun a _ b _=>aCe a b) (fun a _=>by simp) (fun a _=>rfl) (by omega) rfl) (R_e (W_r (aA rfl ?_)))))))
 refine aLy (dH rfl iH) (lL (dH rfl (dH rfl iH)) (aGf (srt aZ l) 3 1 l.length _ (@rfl Blk (bz 3 38 1 (List.map cL (srt aZ l)))) (@rfl Blk (bk 1 255 1 [[(V.fn 169 [] [])]])) (by simp [iY]) (by simp only [iY]; omega)) (aA rfl (R_e (aC (W_r (aA rfl (eP rfl (@rfl Blk (bz 3 38 1 (List.map cL (ddK (srt aZ l) (srt aZ l).length)++List.replicate ((srt aZ l).length - (ddK (srt aZ l) (srt aZ l).length).length) [V.nilsl]))) (by first|rfl|simp) ?_)))))))
 refine aA rfl (R_e (aI fun Q1 n1 x1 y1 z1=>?_))
 refine cW (fun mm T H=> ∃ (k:Nat),mm=((ddK (srt aZ l) (srt aZ l).length).length) - k∧T 5=(V.ms 202 3 0 ((ddK (srt aZ l) (srt aZ l).length).length))∧T 16=(V.ms 202 3 0 ((ddK (srt aZ l) (srt aZ l).length).length))∧T 17=(iV (((ddK (srt aZ l) (srt aZ l).length).length:Nat):Int))∧T 18=(iV ((k:Nat):Int))∧H 3=(bk 1 255 1 [[(V.fn 169 [] [])]])∧H 202=(bz 3 38 1 (List.map cL (ddK (srt aZ l) (srt aZ l).length)++List.replicate ((srt aZ l).length - (ddK (srt aZ l) (srt aZ l).length).length) [V.nilsl]))∧(k≤(ddK (srt aZ l) (srt aZ l).length).length)) ?_ ?_
 ·
  refine ⟨_,0,rfl,rfl,rfl,rfl,(Eq.trans (@rfl V (iV (0:Int))) rfl),rfl,rfl,?_⟩
  · omega
 intro mm T H ⟨k,hmm,t5,t16,t17,t18,h3,h202,hk⟩ Q2 p12 p22 p32
 unfold aCN
 refine W_r (bR t18 t17 (R_e ?_))
 refine aO rfl (fun c3=>?_) fun c3=>?_
 ·
  refine aH (aI fun Q4 n4 x4 y4 z4=>(W_r (aA t18 (dB (i:=k) t16 t18 h202 (kB (by omega)) rfl (by omega) (bT (v:=(aS ((nth (ddK (srt aZ l) (srt aZ l).length) (k))))) rfl h202 (aDs (by omega) (by first|rfl|(rw [cF_eq]; rfl)|simp [ldV,V.one])) (aA rfl (aA rfl ?_)))))))
  refine R_e (W_t (aA t5 (aA rfl (aA rfl (bG (oC ((nth (ddK (srt aZ l) (srt aZ l).length) (k))) (by have q:=hw (nth (ddK (srt aZ l) (srt aZ l).length) k) (nK.1 (show nth (ddK (srt aZ l) (srt aZ l).length) k∈sdX l from bF (show k < (ddK (srt aZ l) (srt aZ l).length).length by omega))); omega)) rfl (dB (i:=k) (@rfl V (V.ms 202 3 0 ((ddK (srt aZ l) (srt aZ l).length).length))) (@rfl V (iV ((k:Nat):Int))) h202 (kB (by omega)) rfl (by omega) (bQ (vs:=[(aS (((nth (ddK (srt aZ l) (srt aZ l).length) (k)))))]) (B':=(bz 3 38 1 (List.map cL ((ddK (srt aZ l) (srt aZ l).length).set k (((nth (ddK (srt aZ l) (srt aZ l).length) (k)))))++List.replicate ((srt aZ l).length - (ddK (srt aZ l) (srt aZ l).length).length) [V.nilsl]))) rfl rfl rfl h202 (aD6 (x:=(((nth (ddK (srt aZ l) (srt aZ l).length) (k))))) (i:=k) (by omega) rfl rfl rfl rfl) ?_)))))))
  refine R_e (n4 _ _ (.done (W_t (bV t18 (@rfl V (iV ((1:Nat):Int))) (by omega) (aA rfl (R_e ?_))))))
  refine p12 _ _ _ ?_ ⟨(k+1),rfl,t5,t16,t17,(Eq.trans (@rfl V (iV ((k+1:Nat):Int))) (by first|rfl|simp)),h3,(Eq.trans (@rfl Blk (bz 3 38 1 (List.map cL ((ddK (srt aZ l) (srt aZ l).length).set k (((nth (ddK (srt aZ l) (srt aZ l).length) (k)))))++List.replicate ((srt aZ l).length - (ddK (srt aZ l) (srt aZ l).length).length) [V.nilsl]))) (by first|rfl|(rw [aDY (by omega)]; done))),?_⟩
  · omega
  · omega
 refine bA (p32 _ _ _ (x1 _ _ (.done (W_r (aA t5 (aA rfl (R_e ?_)))))))
 refine bK ?_
 refine bH (@rfl V (V.ms 202 3 0 ((ddK (srt aZ l) (srt aZ l).length).length))) (aEA h202 (by first|rfl|simp) (aBn (l:=(ddK (srt aZ l) (srt aZ l).length)) (by first|rfl|simp|omega)) (fun _=>by simp) ?_)
 · rfl
theorem tG (l:List (List Int)) (hl:l.length≤1073741824) (hw: ∀ w∈l,w.length≤1048576):bB Tryz.prog 123 [(aB l)] (aB (sdW l)):=by
 refine pW Tryz.func123 aJF fun hB=>?_
 unfold aSJ
 dsimp only
 refine W_r (aA rfl (R_e (W_r (aA rfl (bG (aAr l hl hw) rfl (aA rfl (R_e ?_)))))))
 refine bK ?_
 refine bH (@rfl V (aB (sdP l))) (aBz ?_ (fun _=>by simp))
 · exact aAL l
def orA (p q : PrimA) : PrimA := ⟨fun id f args H => match p.a id f args H with
    |some r=>some r
    |none=>q.a id f args H,fun f args=>match p.p f args with
    |some r=>some r
    |none=>q.p f args⟩
theorem aGz {P:Program} {p q:PrimA} (hp:eQ P p) (hq:eQ P q):eQ P (orA p q):=by
  constructor
  · intro id f args H v b h
    unfold orA at h
    dsimp only at h
    split at h
    · rename_i r hr; cases h; exact hp.1 _ _ _ _ _ _ hr
    · exact hq.1 _ _ _ _ _ _ h
  · intro f args v h
    unfold orA at h
    dsimp only at h
    split at h
    · rename_i r hr; cases h; exact hp.2 _ _ _ hr
    · exact hq.2 _ _ _ h
def pX : List (List V) → Option (List (List Int))
  |[]=>some []
  | [.sl rows] :: l => match rW rows with
    |some a=>(pX l).map (a:: ·)
    |none=>none
  |_=>none
theorem oP: ∀ {rows:List (List V)} {l:List (List Int)},pX rows=some l→rows=l.map cL
  |[],l,h=>by cases h; rfl
  | [.sl rw] :: r, l, h => by
    simp only [pX] at h
    split at h
    · rename_i a ha
      rw [Option.map_eq_some_iff] at h
      obtain ⟨m,h1,rfl⟩:=h
      rw [oP h1,nM ha]; rfl
    · cases h
def mO : PrimA := ⟨fun _ _ _ _ => none, fun g args => if g = 123 then match args with
    | [.sl rows] => match pX rows with
      |some l=>if l.length≤1073741824∧(l.all fun w=>decide (w.length≤1048576))=true then some (.sl ((sdW l).map cL)) else none
      |none=>none
    |_=>none
  else none⟩
theorem uU : eQ Tryz.prog mO := by
  constructor
  · intro id g args H v b h; cases h
  · intro g args v h
    unfold mO at h
    dsimp only at h
    split at h
    · rename_i hg
      subst hg
      split at h
      · split at h
        · rename_i l hl
          split at h
          · rename_i hc
            cases h
            rw [oP hl]
            exact tG l hc.1 fun w hw=>by simpa using List.all_eq_true.1 hc.2 w hw
          · cases h
        · cases h
      · cases h
    · cases h
def aMq:List SO:=[
 qM 5 0,
 qM 6 1,
 sO 7 (.call false 213 [.t 5,.t 6]),
 qM 8 1,
 qN 9 8,
 qP 10 .eql 7 9,
 qM 4 10]
def aKk:SF:=⟨11,[.tmp 4],.seq (.reg [sO 4 (.mv (.c (.bool false)))]) (.seq (.reg aMq) (.ret))⟩
theorem aDB:aL Tryz.prog ⟨[58,129,130,131,149,155,161,182,183,185,191,192,208,209,210,224,228,231,236],[],[],[]⟩ Tryz.f170=some aKk:=by kernel_rfl
def aMV:List SO:=[
 qM 14 0,
 qM 15 5,
 qA 16 1 14 15,
 ql 17 16,
 qM 18 1,
 qM 19 5,
 qA 20 1 18 19,
 ql 21 20,
 qP 22 .neq 17 21]
def aHl:SC:=.seq (.reg [qP 12 .lss 11 10]) (.seq (.cond (.t 12) (.skip) (.exit 0)) (.seq (.block 1 (.seq (.reg [qM 13 11,qM 5 13]) (.seq (.reg aMV) (.cond (.t 22) (.seq (.reg [qM 23 5,qM 4 23]) (.ret)) (.skip))))) (.reg [qC 24 .add 11 1,qM 11 24])))
def aI5:SF:=⟨30,[.tmp 4],.seq (.reg [qI 4 0]) (.seq (.seq (.reg [qM 6 0,qN 7 6,qM 8 1,qN 9 8,sO 10 (.mn (.t 7) (.t 9)),qI 11 0]) (.block 0 (.loop aHl))) (.seq (.reg [qM 25 0,qN 26 25,qM 27 1,qN 28 27,sO 29 (.mn (.t 26) (.t 28)),qM 4 29]) (.ret)))⟩
theorem aDO:aL Tryz.prog ⟨[58,129,130,131,149,155,161,182,183,185,191,192,208,209,210,224,228,231,236],[],[],[]⟩ Tryz.f213=some aI5:=by kernel_rfl
theorem aBy (a b:List Int):bB Tryz.prog 213 [(aS a),(aS b)] (iV ((cmn a b:Nat):Int)):=by
 refine pW Tryz.func213 aDO fun hB=>?_
 unfold aI5
 dsimp only
 refine W_r (aA rfl (R_e (aC (W_r (aA rfl (bN rfl (aA rfl ?_)))))))
 refine bN rfl (aLE (m:=a.length) (n:=b.length) rfl rfl (aA rfl (R_e (aI fun Q1 n1 x1 y1 z1=>?_))))
 refine cW (fun mm T H=> ∃ (k:Nat),mm=(min a.length b.length) - k∧T 0=(aS a)∧T 1=(aS b)∧T 10=(iV ((min a.length b.length:Nat):Int))∧T 11=(iV ((k:Nat):Int))∧(k≤min a.length b.length)∧(k≤cmn a b)) ?_ ?_
 ·
  refine ⟨_,0,rfl,rfl,rfl,rfl,(Eq.trans (@rfl V (iV (0:Int))) rfl),?_,?_⟩
  · omega
  · exact Nat.zero_le _
 intro mm T H ⟨k,hmm,t0,t1,t10,t11,hk,hc⟩ Q2 p12 p22 p32
 unfold aHl
 refine W_r (bR t11 t10 (R_e ?_))
 refine aO rfl (fun c3=>?_) fun c3=>?_
 ·
  refine aH (aI fun Q4 n4 x4 y4 z4=>(W_r (aA t11 (aA rfl (R_e (W_r (aA t0 ?_)))))))
  refine aA rfl (bL (i:=k) (@rfl V (aS a)) (@rfl V (iV ((k:Nat):Int))) (by omega) rfl (aJ rfl rfl (aA t1 (aA rfl (bL (i:=k) (@rfl V (aS b)) (@rfl V (iV ((k:Nat):Int))) (by omega) rfl (aJ rfl rfl (dQ rfl rfl ?_)))))))
  refine R_e ?_
  refine fR rfl (fun c5=>?_) fun c5=>?_
  ·
   refine W_r (aA rfl (aA rfl (R_e (bK (y4 _ _ (p22 _ _ (y1 _ _ ?_)))))))
   refine bH (@rfl V (iV ((k:Nat):Int))) (aQ ?_)
   · rw [iS hc (by omega)]
  refine cX (n4 _ _ (.done (W_t (bV t11 (@rfl V (iV ((1:Nat):Int))) (by omega) (aA rfl (R_e ?_))))))
  refine p12 _ _ _ ?_ ⟨(k+1),rfl,t0,t1,t10,(Eq.trans (@rfl V (iV ((k+1:Nat):Int))) (by first|rfl|simp)),?_,?_⟩
  · omega
  · omega
  · exact mK hc (by omega) (by omega) (by omega)
 refine bA (p32 _ _ _ (x1 _ _ (.done (W_r (aA t0 (bN rfl (aA t1 ?_)))))))
 refine bN rfl (aLE (m:=a.length) (n:=b.length) rfl rfl (aA rfl (R_e (bK ?_))))
 refine bH (@rfl V (iV ((min a.length b.length:Nat):Int))) (aQ ?_)
 · rw [iS hc (by omega)]; omega
theorem aJn (w p:List Int):bB Tryz.prog 170 [(aS w),(aS p)] (V.bool (hp w p)):=by
 refine pW Tryz.func170 aDB fun hB=>?_
 unfold aKk
 dsimp only
 refine W_r (aA rfl (R_e (W_r (aA rfl (aA rfl ?_)))))
 have q1:=rD w p
 have q2:=zB w p
 refine bG (aBy w p) rfl (aA rfl (bN rfl (kD rfl rfl (aA rfl (R_e ?_)))))
 have q3:=rD w p
 have q4:=zB w p
 refine bK ?_
 refine bH (@rfl V (V.bool (decide (((cmn w p:Nat):Int)=((p.length:Nat):Int))))) (bU ?_)
 · unfold hp; exact decide_eq_decide.2 (by omega)
theorem aAR (l:List (List Int)) (hl:l.length≤1073741824) (hw: ∀ w∈l,w.length≤1048576):bB Tryz.prog 122 [(aB l)] (aB (mxW l)):=by
 refine pW Tryz.func122 aJ5 fun hB=>?_
 unfold aS1
 dsimp only
 refine W_r (aA rfl (R_e (W_r (aA rfl (bG (xG l (by first|omega|assumption) (by first|omega|assumption)) rfl (aA rfl (R_e ?_)))))))
 refine W_r (iP (i:=4) (n:=0) rfl (congrArg Blk.ver rfl) (R_e (aC (W_r (aA rfl (bN rfl (aA rfl ?_)))))))
 refine R_e (aI fun Q1 n1 x1 y1 z1=>?_)
 refine cW (fun mm T H=> ∃ (k:Nat) (v:Nat),mm=(sdX l).length - k∧T 3=(aB (sdX l))∧T 4=(V.ms 4 v 0 ((mxO (sdX l) k).length))∧T 9=(aB (sdX l))∧T 10=(iV (((sdX l).length:Nat):Int))∧T 11=(iV ((k:Nat):Int))∧H 4=(bz v 38 1 (List.map cL (mxO (sdX l) k)))∧(k≤(sdX l).length)) ?_ ?_
 ·
  refine ⟨_,0,1,rfl,rfl,(Eq.trans (@rfl V (V.ms 4 1 0 (0))) (by first|rfl|(rw [iU d1,List.length_append]; rfl)|(rw [lN d1]; done)|simp [mxO])),rfl,rfl,(Eq.trans (@rfl V (iV (0:Int))) rfl),(Eq.trans (@rfl Blk (bz 1 38 1 [])) (by first|rfl|(rw [iU d1]; done)|(rw [lN d1]; done)|simp [mxO])),?_⟩
  · omega
 intro mm T H ⟨k,v,hmm,t3,t4,t9,t10,t11,h4,hk⟩ Q2 p12 p22 p32
 unfold aHT
 have q1:=aDI (sdX l) k
 have q2:=aEu l
 refine W_r (bR t11 t10 (R_e ?_))
 refine aO rfl (fun c3=>?_) fun c3=>?_
 ·
  refine aH (aI fun Q4 n4 x4 y4 z4=>(W_r (aA t11 (bL (i:=k) t9 t11 (by omega) rfl (aJ rfl rfl (aA rfl (aA rfl ?_)))))))
  refine R_e (W_r (aA rfl (bV rfl (@rfl V (iV ((1:Nat):Int))) (by omega) (aA t3 (bN rfl (kD rfl rfl (aA rfl ?_)))))))
  refine aV 9 (fun T H=>T 3=(aB (sdX l))∧T 4=(V.ms 4 v 0 ((mxO (sdX l) k).length))∧T 6=(aS ((nth (sdX l) (k))))∧T 9=(aB (sdX l))∧T 10=(iV (((sdX l).length:Nat):Int))∧T 11=(iV ((k:Nat):Int))∧T 30=(V.bool ((decide (((k+1:Nat):Int)=(((sdX l).length:Nat):Int))||((!hp ((nth (sdX l) (k+1))) ((nth (sdX l) (k))))))))∧H 4=(bz v 38 1 (List.map cL (mxO (sdX l) k)))∧True) ?_ ?_
  ·
   by_cases g5:((k+1:Nat):Int)=(((sdX l).length:Nat):Int)
   ·
    refine G_n (edT g5 rfl) (G_n (edT g5 rfl) (G_n (edT g5 rfl) (G_n (edT g5 rfl) (G_n (edT g5 rfl) (G_n (edT g5 rfl) (G_n (edT g5 rfl) (G_n (edT g5 rfl) ?_)))))))
    refine aX (edT g5 rfl) rfl ?_
    exact ⟨t3,t4,rfl,t9,t10,t11,(aEN g5),h4,trivial⟩
   ·
    refine aD (edF g5 rfl) (aA t3 (aD (edF g5 rfl) (aA rfl (aD (edF g5 rfl) (bV rfl (@rfl V (iV ((1:Nat):Int))) (by omega) (aD (edF g5 rfl) (bL (i:=(k+1)) (@rfl V (aB (sdX l))) (@rfl V (iV ((k+1:Nat):Int))) (by omega) rfl ?_)))))))
    refine aD (edF g5 rfl) (aJ rfl rfl (aD (edF g5 rfl) (aA rfl (aD (edF g5 rfl) (bG (aJn ((nth (sdX l) (k+1))) ((nth (sdX l) (k)))) rfl (aD (edF g5 rfl) (oK rfl ?_)))))))
    refine aW (edF g5 rfl) rfl ?_
    exact ⟨t3,t4,rfl,t9,t10,t11,(aDZ g5),h4,trivial⟩
  intro T H ⟨t3,t4,t6,t9,t10,t11,t30,h4,_⟩
  refine R_e ?_
  refine aDv t30 (fun c6=>?_) (fun c6=>?_)
  ·
   have d1:mxC (sdX l) k=true:=c6
   refine W_t (aA t4 (aA t6 (eF rfl rfl (fL (l:=(mxO (sdX l) k)) (f:=cL) (x:=((nth (sdX l) (k)))) (@rfl V (V.ms 4 v 0 ((mxO (sdX l) k).length))) h4 (by first|rfl|simp|omega) (@rfl V (V.sl [[(aS ((nth (sdX l) (k))))]])) rfl rfl (by omega) (by omega) (aA rfl (R_e (n4 _ _ ?_)))))))
   refine .done (W_t (bV t11 (@rfl V (iV ((1:Nat):Int))) (by omega) (aA rfl (R_e ?_))))
   refine p12 _ _ _ ?_ ⟨(k+1),(v+1),rfl,t3,(Eq.trans (@rfl V (V.ms 4 (v+1) 0 (((mxO (sdX l) k).length)+1))) (by first|rfl|(rw [iU d1,List.length_append]; rfl)|(rw [lN d1]; done)|simp [mxO])),t9,t10,(Eq.trans (@rfl V (iV ((k+1:Nat):Int))) (by first|rfl|(rw [iU d1,List.length_append]; rfl)|(rw [lN d1]; done)|simp [mxO])),(Eq.trans (@rfl Blk (bz (v+1) 38 1 (List.map cL (mxO (sdX l) k++[(nth (sdX l) (k))])))) (by first|rfl|(rw [iU d1]; done)|(rw [lN d1]; done)|simp [mxO])),?_⟩
   · omega
   · omega
  have d1:mxC (sdX l) k=false:=by unfold mxC; simpa using c6
  refine cX (n4 _ _ (.done (W_t (bV t11 (@rfl V (iV ((1:Nat):Int))) (by omega) (aA rfl (R_e ?_))))))
  refine p12 _ _ _ ?_ ⟨(k+1),v,rfl,t3,(Eq.trans t4 (by first|rfl|(rw [iU d1,List.length_append]; rfl)|(rw [lN d1]; done)|simp [mxO])),t9,t10,(Eq.trans (@rfl V (iV ((k+1:Nat):Int))) (by first|rfl|(rw [iU d1,List.length_append]; rfl)|(rw [lN d1]; done)|simp [mxO])),(Eq.trans h4 (by first|rfl|(rw [iU d1]; done)|(rw [lN d1]; done)|simp [mxO])),?_⟩
  · omega
  · omega
 refine bA (p32 _ _ _ (x1 _ _ (dE (R:=fun T H=>T 3=(aB (sdX l))∧T 4=(V.ms 4 v 0 ((mxO (sdX l) k).length))∧T 9=(aB (sdX l))∧T 10=(iV (((sdX l).length:Nat):Int))∧T 11=(iV ((k:Nat):Int))∧T 12=(V.bool (decide (((k:Nat):Int) < (((sdX l).length:Nat):Int))))∧H 4=(bz v 38 1 (List.map cL (mxO (sdX l) k)))∧True) ⟨t3,t4,t9,t10,t11,(@rfl V (V.bool (decide (((k:Nat):Int) < (((sdX l).length:Nat):Int))))),h4,trivial⟩ ?_)))
 intro T H ⟨t3,t4,t9,t10,t11,t12,h4,_⟩
 refine .freeze 4 (.done ?_)
 refine dE (R:=fun T H=>T 3=(aB (sdX l))∧T 4=(aB (mxO (sdX l) k))∧T 9=(aB (sdX l))∧T 10=(iV (((sdX l).length:Nat):Int))∧T 11=(iV ((k:Nat):Int))∧T 12=(V.bool (decide (((k:Nat):Int) < (((sdX l).length:Nat):Int))))∧((H 4).ver=v∧(H 4).live=false)∧True) ⟨(aT t3 rfl),(aT t4 (zR h4 (by first|rfl|simp) (l:=(mxO (sdX l) k)) rfl (by first|rfl|simp|omega))),(aT t9 rfl),(aT t10 rfl),(aT t11 rfl),(aT t12 rfl),(dM (congrArg Blk.ver h4)),trivial⟩ ?_
 intro T H ⟨t3,t4,t9,t10,t11,t12,h4,_⟩
 refine W_r (aA t4 (bG (tG (mxO (sdX l) k) (by omega) (fun w h=>by obtain ⟨i,i1,_,i3⟩:=aAx.1 h; rw [← i3]; exact hw _ (nK.1 (bF (by omega))))) rfl (aA rfl (R_e (bK ?_)))))
 refine bH (@rfl V (aB (sdW (mxO (sdX l) k)))) (aBz ?_ (fun _=>by simp))
 · rw [show k=(sdX l).length by omega,aTF]
def lM : PrimA := ⟨fun _ _ _ _ => none, fun g args => if g = 122 then match args with
    | [.sl rows] => match pX rows with
      |some l=>if l.length≤1073741824∧(l.all fun w=>decide (w.length≤1048576))=true then some (.sl ((mxW l).map cL)) else none
      |none=>none
    |_=>none
  else none⟩
theorem tL : eQ Tryz.prog lM := by
  constructor
  · intro id g args H v b h; cases h
  · intro g args v h
    unfold lM at h
    dsimp only at h
    split at h
    · rename_i hg
      subst hg
      split at h
      · split at h
        · rename_i l hl
          split at h
          · rename_i hc
            cases h
            rw [oP hl]
            exact aAR l hc.1 fun w hw=>by simpa using List.all_eq_true.1 hc.2 w hw
          · cases h
        · cases h
      · cases h
    · cases h
def aRd:List SO:=[
 sO 12 (.call false 27 []),
 sO 13 (.call false 11 [.t 12,.c (.int .i64 1),.c (.int .i64 1)]),
 qM 11 13,
 qE 14 11 0,
 qE 15 11 1,
 sO 1 (.alloc 29 [.int .i64 0,.int .i64 0,.int .i64 0,.nilsl,.nilsl,.nilsl]),
 sN (.store 6 (.t 1) (.t 14)),
 qM 2 15]
def aR8:List SO:=[
 sO 17 (.call false 28 []),
 sO 18 (.call false 29 []),
 sO 19 (.call false 15 [.t 17,.t 18]),
 qM 16 19,
 qE 20 16 0,
 qE 21 16 1,
 qE 22 16 2,
 qM 3 20,
 qM 4 21,
 qM 5 22]
def aRO:List SO:=[
 sO 24 (.call false 28 []),
 sO 25 (.call false 19 [.t 24]),
 qM 23 25,
 qE 26 23 0,
 qE 27 23 1,
 sO 6 (.alloc 29 [.int .i64 0,.int .i64 0,.int .i64 0,.nilsl,.nilsl,.nilsl]),
 sN (.store 6 (.t 6) (.t 26)),
 qM 7 27]
def aTa:List SO:=[
 sO 29 (.call false 27 []),
 sO 30 (.call false 11 [.t 29,.c (.int .i64 2),.c (.int .i64 1)]),
 qM 28 30,
 qE 31 28 0,
 qE 32 28 1,
 sO 8 (.alloc 29 [.int .i64 0,.int .i64 0,.int .i64 0,.nilsl,.nilsl,.nilsl]),
 sN (.store 6 (.t 8) (.t 31)),
 qM 9 32]
def aSc:List SO:=[
 qM 33 2,
 qC 34 .neq 33 0,
 qM 35 34,
 ⟨some (35,false),some 36,.mv (.t 5)⟩,
 ⟨some (35,false),some 37,.bin .neq (.t 36) (.c (.int .i64 0))⟩,
 sO 38 (.pick (.t 35) (.c (.bool true)) (.t 37)),
 qM 39 38,
 ⟨some (39,false),some 40,.mv (.t 7)⟩,
 ⟨some (39,false),some 41,.bin .neq (.t 40) (.c (.int .i64 0))⟩,
 sO 42 (.pick (.t 39) (.c (.bool true)) (.t 41)),
 qM 43 42,
 ⟨some (43,false),some 44,.mv (.t 9)⟩,
 ⟨some (43,false),some 45,.bin .neq (.t 44) (.c (.int .i64 15))⟩,
 sO 46 (.pick (.t 43) (.c (.bool true)) (.t 45)),
 qM 47 46,
 ⟨some (47,false),some 48,.mv (.t 4)⟩,
 ⟨some (47,false),some 49,.un .not (.t 48)⟩,
 sO 50 (.pick (.t 47) (.c (.bool true)) (.t 49)),
 qM 51 50,
 ⟨some (51,false),some 52,.mv (.t 3)⟩,
 ⟨some (51,false),some 53,.bslice 3 1 false [.int .i64 0] 2 [(0,.c (.int .i64 0)),(1,.c (.int .i64 0))]⟩,
 ⟨some (51,false),some 54,.call false 17 [.t 52,.t 53]⟩,
 ⟨some (51,false),some 55,.un .not (.t 54)⟩,
 sO 56 (.pick (.t 51) (.c (.bool true)) (.t 55))]
def aSA:List SO:=[
 qL 62 6 1,
 qL 63 6 10,
 sO 64 (.call false 13 [.t 62,.t 63]),
 qM 65 64,
 ⟨some (65,true),some 66,.load true 6 (.t 6)⟩,
 ⟨some (65,true),some 67,.load true 6 (.t 10)⟩,
 ⟨some (65,true),some 68,.call false 13 [.t 66,.t 67]⟩,
 sO 69 (.pick (.t 65) (.t 68) (.c (.bool false))),
 qM 0 69]
def s10:SF:=⟨70,[.tmp 0],.seq (.reg [sO 0 (.mv (.c (.bool false)))]) (.seq (.reg aRd) (.seq (.reg aR8) (.seq (.reg aRO) (.seq (.reg aTa) (.seq (.seq (.reg aSc) (.cond (.t 56) (.seq (.reg [sO 0 (.mv (.c (.bool false)))]) (.ret)) (.skip))) (.seq (.reg [sO 57 (.call false 28 []),sO 10 (.alloc 29 [.int .i64 0,.int .i64 0,.int .i64 0,.nilsl,.nilsl,.nilsl]),sN (.store 6 (.t 10) (.t 57))]) (.seq (.reg [sO 58 (.bslice 3 1 false [.int .i64 0] 2 [(0,.c (.int .i64 1)),(1,.c (.int .i64 0))]),sO 59 (.bslice 3 1 false [.int .i64 0] 2 [(0,.c (.int .i64 2)),(1,.c (.int .i64 0))]),sO 60 (.bslice 38 1 false [.nilsl] 2 [(0,.t 58),(1,.t 59)]),qF 61 4 10,sN (.store 1 (.t 61) (.t 60))]) (.seq (.reg aSA) (.ret)))))))))⟩
theorem aPc:aL Tryz.prog ⟨[58,129,130,131,149,155,161,182,183,185,191,192,208,209,210,224,228,231,236],[],[],[]⟩ Tryz.f10=some s10:=by kernel_rfl
def aTe:List SO:=[
 qM 27 1,
 qC 28 .lss 27 1,
 qM 29 28,
 ⟨some (29,false),some 30,.mv (.t 1)⟩,
 ⟨some (29,false),some 31,.bin .gtr (.t 30) (.c (.int .i64 64))⟩,
 sO 32 (.pick (.t 29) (.c (.bool true)) (.t 31)),
 qM 33 32,
 ⟨some (33,false),some 34,.mv (.t 2)⟩,
 ⟨some (33,false),some 35,.bin .lss (.t 34) (.c (.int .i64 0))⟩,
 sO 36 (.pick (.t 33) (.c (.bool true)) (.t 35)),
 qM 37 36,
 ⟨some (37,false),some 38,.mv (.t 2)⟩,
 ⟨some (37,false),some 39,.bin .gtr (.t 38) (.c (.int .i64 4))⟩,
 sO 40 (.pick (.t 37) (.c (.bool true)) (.t 39))]
def aR9:List SO:=[
 qL 50 4 3,
 sO 51 (.call false 31 [.t 50]),
 qM 49 51,
 qE 52 49 0,
 qE 53 49 1,
 sO 9 (.alloc 24 [.int .i64 0,.int .i64 0,.nilsl,.nilsl]),
 sN (.store 4 (.t 9) (.t 52)),
 qM 10 53]
def aMi:List SO:=[
 qL 58 4 9,
 qM 59 1,
 qM 60 2,
 qM 61 2,
 qC 62 .mul 61 1001,
 sO 63 (.bin .add (.c (.int .i64 1)) (.t 62)),
 sO 64 (.build [.int .i64 0] [(0,1,.t 63)]),
 sO 65 (.build [.int .i64 0,.int .i64 0,.nilsl,.nilsl,.int .i64 0,.int .i64 0,.int .i64 0] [(0,4,.t 58),(4,1,.t 59),(5,1,.t 60),(6,1,.t 64)]),
 sO 11 (.alloc 68 [.int .i64 0,.int .i64 0,.nilsl,.nilsl,.int .i64 0,.int .i64 0,.int .i64 0]),
 sN (.store 7 (.t 11) (.t 65))]
def aNL:List SO:=[
 qM 73 1,
 qM 74 2,
 qF 75 2 9,
 ql 76 75,
 sO 77 (.build [.int .i64 0,.int .i64 0,.int .i64 0,.nilsl,.nilsl,.nilsl] [(0,1,.t 73),(1,1,.t 74),(3,1,.t 76)]),
 sO 13 (.alloc 29 [.int .i64 0,.int .i64 0,.int .i64 0,.nilsl,.nilsl,.nilsl]),
 sN (.store 6 (.t 13) (.t 77))]
def aQv:List SO:=[
 qF 84 3 9,
 ql 85 84,
 qM 86 14,
 qA 87 1 85 86,
 ql 88 87,
 qN 89 88,
 qI 90 0]
def aOv:List SO:=[
 qM 97 12,
 qM 98 18,
 sO 99 (.callv false (.t 97) [.t 98]),
 qM 96 99,
 qE 100 96 0,
 qE 101 96 1,
 qM 19 100,
 qM 20 101]
def aRs:SC:=.seq (.reg [qP 91 .lss 90 89]) (.seq (.cond (.t 91) (.skip) (.exit 2)) (.seq (.block 3 (.seq (.reg [qA 92 1 88 90,ql 93 92,qM 18 93]) (.seq (.reg [qI 19 0,qI 20 0]) (.seq (.seq (.reg [qM 94 18,qC 95 .gtr 94 0]) (.cond (.t 95) (.reg aOv) (.skip))) (.seq (.reg [qM 102 15,qM 103 19,sO 104 (.bslice 3 1 false [.int .i64 0] 1 [(0,.t 103)]),sO 105 (.append 3 1 8 (.t 102) (.t 104)),qM 15 105]) (.reg [qM 106 16,qM 107 20,sO 108 (.call false 34 [.t 107]),sO 109 (.bslice 73 2 false [.int .i64 0,.int .i64 0] 1 [(0,.t 108)]),sO 110 (.append 73 2 16 (.t 106) (.t 109)),qM 16 110])))))) (.reg [qC 111 .add 90 1,qM 90 111])))
def aPS:List SO:=[
 qF 112 4 13,
 ql 113 112,
 qM 114 15,
 sO 115 (.bslice 38 1 false [.nilsl] 1 [(0,.t 114)]),
 sO 116 (.append 38 1 24 (.t 113) (.t 115)),
 qF 117 4 13,
 sN (.store 1 (.t 117) (.t 116))]
def aO1:List SO:=[
 qF 118 5 13,
 ql 119 118,
 qM 120 16,
 sO 121 (.bslice 70 1 false [.nilsl] 1 [(0,.t 120)]),
 sO 122 (.append 70 1 24 (.t 119) (.t 121)),
 qF 123 5 13,
 sN (.store 1 (.t 123) (.t 122))]
def aSk:SC:=.seq (.reg [qP 82 .lss 81 80]) (.seq (.cond (.t 82) (.skip) (.exit 0)) (.seq (.block 1 (.seq (.reg [qM 83 81,qM 14 83]) (.seq (.reg [sO 15 (.lazy 3 1)]) (.seq (.reg [sO 16 (.lazy 73 2)]) (.seq (.seq (.reg aQv) (.block 2 (.loop aRs))) (.seq (.reg aPS) (.reg aO1))))))) (.reg [qC 124 .add 81 1,qM 81 124])))
def s11:SF:=⟨126,[.cell 6 true 6,.tmp 7],.seq (.reg [sO 3 (.box 24 4 (.t 0)),sO 6 (.alloc 29 [.int .i64 0,.int .i64 0,.int .i64 0,.nilsl,.nilsl,.nilsl]),qI 7 0]) (.seq (.seq (.reg [qL 21 4 3,sO 22 (.call false 30 [.t 21]),qM 8 22]) (.seq (.reg [qM 23 8,qC 24 .neq 23 0]) (.cond (.t 24) (.seq (.reg [sO 25 (.build [.int .i64 0,.int .i64 0,.int .i64 0,.nilsl,.nilsl,.nilsl] []),qM 26 8,sN (.store 6 (.t 6) (.t 25)),qM 7 26]) (.ret)) (.skip)))) (.seq (.seq (.reg aTe) (.cond (.t 40) (.seq (.reg [sO 41 (.build [.int .i64 0,.int .i64 0,.int .i64 0,.nilsl,.nilsl,.nilsl] []),sN (.store 6 (.t 6) (.t 41)),qI 7 2]) (.ret)) (.skip))) (.seq (.seq (.reg [qF 42 0 3,ql 43 42,qM 44 1,qM 45 2,qP 46 .add 44 45,qP 47 .neq 43 46]) (.cond (.t 47) (.seq (.reg [sO 48 (.build [.int .i64 0,.int .i64 0,.int .i64 0,.nilsl,.nilsl,.nilsl] []),sN (.store 6 (.t 6) (.t 48)),qI 7 15]) (.ret)) (.skip))) (.seq (.reg aR9) (.seq (.seq (.reg [qM 54 10,qC 55 .neq 54 0]) (.cond (.t 55) (.seq (.reg [sO 56 (.build [.int .i64 0,.int .i64 0,.int .i64 0,.nilsl,.nilsl,.nilsl] []),qM 57 10,sN (.store 6 (.t 6) (.t 56)),qM 7 57]) (.ret)) (.skip))) (.seq (.reg aMi) (.seq (.seq (.reg [qL 66 7 11,sO 67 (.call false 32 [.t 66]),sO 68 (.un .not (.t 67))]) (.cond (.t 68) (.seq (.reg [sO 69 (.build [.int .i64 0,.int .i64 0,.int .i64 0,.nilsl,.nilsl,.nilsl] []),sN (.store 6 (.t 6) (.t 69)),qI 7 1]) (.ret)) (.skip))) (.seq (.reg [qF 70 6 11,qL 71 1 70,sO 72 (.mkm 33 [.t 71] []),qM 12 72]) (.seq (.reg aNL) (.seq (.seq (.reg [qF 78 2 9,ql 79 78,qN 80 79,qI 81 0]) (.block 0 (.loop aSk))) (.seq (.reg [qL 125 6 13,sN (.store 6 (.t 6) (.t 125)),qI 7 0]) (.ret))))))))))))⟩
theorem aOB:aL Tryz.prog ⟨[58,129,130,131,149,155,161,182,183,185,191,192,208,209,210,224,228,231,236],[15,16],[],[]⟩ Tryz.f11=some s11:=by kernel_rfl
def aRi:List SO:=[
 qF 7 0 2,
 ql 8 7,
 qF 9 0 3,
 ql 10 9,
 qP 11 .neq 8 10,
 qM 12 11,
 ⟨some (12,false),some 13,.fld 1 (.t 2)⟩,
 ⟨some (12,false),some 14,.load false 1 (.t 13)⟩,
 ⟨some (12,false),some 15,.fld 1 (.t 3)⟩,
 ⟨some (12,false),some 16,.load false 1 (.t 15)⟩,
 ⟨some (12,false),some 17,.bin .neq (.t 14) (.t 16)⟩,
 sO 18 (.pick (.t 12) (.c (.bool true)) (.t 17)),
 qM 19 18,
 ⟨some (19,false),some 20,.fld 2 (.t 2)⟩,
 ⟨some (19,false),some 21,.load false 1 (.t 20)⟩,
 ⟨some (19,false),some 22,.fld 2 (.t 3)⟩,
 ⟨some (19,false),some 23,.load false 1 (.t 22)⟩,
 ⟨some (19,false),some 24,.bin .neq (.t 21) (.t 23)⟩,
 sO 25 (.pick (.t 19) (.c (.bool true)) (.t 24)),
 qM 26 25,
 ⟨some (26,false),some 27,.fld 3 (.t 2)⟩,
 ⟨some (26,false),some 28,.load false 1 (.t 27)⟩,
 ⟨some (26,false),some 29,.fld 3 (.t 3)⟩,
 ⟨some (26,false),some 30,.load false 1 (.t 29)⟩,
 ⟨some (26,false),some 31,.call false 38 [.t 28,.t 30]⟩,
 ⟨some (26,false),some 32,.un .not (.t 31)⟩,
 sO 33 (.pick (.t 26) (.c (.bool true)) (.t 32)),
 qM 34 33,
 ⟨some (34,false),some 35,.fld 4 (.t 2)⟩,
 ⟨some (34,false),some 36,.load false 1 (.t 35)⟩,
 ⟨some (34,false),some 37,.fld 4 (.t 3)⟩,
 ⟨some (34,false),some 38,.load false 1 (.t 37)⟩,
 ⟨some (34,false),some 39,.call false 38 [.t 36,.t 38]⟩,
 ⟨some (34,false),some 40,.un .not (.t 39)⟩,
 sO 41 (.pick (.t 34) (.c (.bool true)) (.t 40)),
 qM 42 41,
 ⟨some (42,false),some 43,.fld 5 (.t 2)⟩,
 ⟨some (42,false),some 44,.load false 1 (.t 43)⟩,
 ⟨some (42,false),some 45,.len (.t 44)⟩,
 ⟨some (42,false),some 46,.fld 5 (.t 3)⟩,
 ⟨some (42,false),some 47,.load false 1 (.t 46)⟩,
 ⟨some (42,false),some 48,.len (.t 47)⟩,
 ⟨some (42,false),some 49,.bin .neq (.t 45) (.t 48)⟩,
 sO 50 (.pick (.t 42) (.c (.bool true)) (.t 49))]
def aTQ:List SO:=[
 qF 58 5 2,
 ql 59 58,
 qM 60 5,
 qA 61 1 59 60,
 ql 62 61,
 qN 63 62,
 qF 64 5 3,
 ql 65 64,
 qM 66 5,
 qA 67 1 65 66,
 ql 68 67,
 qN 69 68,
 qP 70 .neq 63 69]
def aTk:List SO:=[
 qM 71 6,
 qF 72 5 2,
 ql 73 72,
 qM 74 5,
 qA 75 1 73 74,
 ql 76 75,
 qN 77 76,
 qP 78 .lss 71 77]
def aM5:List SO:=[
 qF 81 5 2,
 ql 82 81,
 qM 83 5,
 qA 84 1 82 83,
 ql 85 84,
 qM 86 6,
 qA 87 2 85 86,
 qL 88 2 87,
 qF 89 5 3,
 ql 90 89,
 qM 91 5,
 qA 92 1 90 91,
 ql 93 92,
 qM 94 6,
 qA 95 2 93 94,
 qL 96 2 95,
 sO 97 (.abin true [0,0] (.t 88) (.t 96))]
def aTX:SC:=.seq (.seq (.reg aTk) (.cond (.t 78) (.skip) (.exit 2))) (.seq (.block 3 (.seq (.reg aM5) (.cond (.t 97) (.seq (.reg [sO 4 (.mv (.c (.bool false)))]) (.ret)) (.skip)))) (.reg [qM 79 6,qC 80 .add 79 1,qM 6 80]))
def aTC:SC:=.seq (.seq (.reg [qM 51 5,qF 52 5 2,ql 53 52,qN 54 53,qP 55 .lss 51 54]) (.cond (.t 55) (.skip) (.exit 0))) (.seq (.block 1 (.seq (.seq (.reg aTQ) (.cond (.t 70) (.seq (.reg [sO 4 (.mv (.c (.bool false)))]) (.ret)) (.skip))) (.seq (.reg [qI 6 0]) (.block 2 (.loop aTX))))) (.reg [qM 56 5,qC 57 .add 56 1,qM 5 57]))
def s13:SF:=⟨98,[.tmp 4],.seq (.reg [sO 2 (.box 29 6 (.t 0)),sO 3 (.box 29 6 (.t 1)),sO 4 (.mv (.c (.bool false)))]) (.seq (.seq (.reg aRi) (.cond (.t 50) (.seq (.reg [sO 4 (.mv (.c (.bool false)))]) (.ret)) (.skip))) (.seq (.seq (.reg [qI 5 0]) (.block 0 (.loop aTC))) (.seq (.reg [sO 4 (.mv (.c (.bool true)))]) (.ret))))⟩
theorem aMv:aL Tryz.prog ⟨[58,129,130,131,149,155,161,182,183,185,191,192,208,209,210,224,228,231,236],[],[],[]⟩ Tryz.f13=some s13:=by kernel_rfl
def aKY:SC:=.seq (.reg [qC 17 .lss 16 2]) (.seq (.cond (.t 17) (.skip) (.exit 0)) (.seq (.block 1 (.seq (.reg [sO 18 (.aidx true 6 2 (.t 15) (.t 16)),sO 8 (.alloc 29 [.int .i64 0,.int .i64 0,.int .i64 0,.nilsl,.nilsl,.nilsl]),sN (.store 6 (.t 8) (.t 18))]) (.seq (.reg [qL 19 6 8,sO 20 (.call false 39 [.t 19]),qM 9 20]) (.seq (.reg [qM 21 9,qC 22 .neq 21 0]) (.cond (.t 22) (.seq (.reg [qM 23 9,sO 4 (.mv (.c (.nilsl))),sO 5 (.mv (.c (.bool false))),qM 6 23]) (.ret)) (.skip)))))) (.reg [qC 24 .add 16 1,qM 16 24])))
def aSl:List SO:=[
 qF 25 0 2,
 ql 26 25,
 qF 27 0 3,
 ql 28 27,
 qP 29 .neq 26 28,
 qM 30 29,
 ⟨some (30,false),some 31,.fld 1 (.t 2)⟩,
 ⟨some (30,false),some 32,.load false 1 (.t 31)⟩,
 ⟨some (30,false),some 33,.fld 1 (.t 3)⟩,
 ⟨some (30,false),some 34,.load false 1 (.t 33)⟩,
 ⟨some (30,false),some 35,.bin .neq (.t 32) (.t 34)⟩,
 sO 36 (.pick (.t 30) (.c (.bool true)) (.t 35))]
def aQQ:List SO:=[
 qL 38 6 2,
 sO 39 (.call false 40 [.t 38]),
 qM 37 39,
 qE 40 37 0,
 qE 41 37 1,
 sO 10 (.alloc 24 [.int .i64 0,.int .i64 0,.nilsl,.nilsl]),
 sN (.store 4 (.t 10) (.t 40)),
 qM 11 41]
def aOP:List SO:=[
 qL 46 6 3,
 sO 47 (.call false 40 [.t 46]),
 qM 45 47,
 qE 48 45 0,
 qE 49 45 1,
 sO 12 (.alloc 24 [.int .i64 0,.int .i64 0,.nilsl,.nilsl]),
 sN (.store 4 (.t 12) (.t 48)),
 qM 11 49]
def aN5:List SO:=[
 qL 53 4 10,
 qL 54 4 12,
 sO 55 (.call false 41 [.t 53,.t 54]),
 qE 56 55 0,
 qE 57 55 1,
 qE 58 55 2,
 qM 4 56,
 qM 5 57,
 qM 6 58]
def s15:SF:=⟨59,[.tmp 4,.tmp 5,.tmp 6],.seq (.reg [sO 2 (.box 29 6 (.t 0)),sO 3 (.box 29 6 (.t 1)),sO 4 (.mv (.c (.nilsl))),sO 5 (.mv (.c (.bool false))),qI 6 0]) (.seq (.seq (.reg [qL 13 6 2,qL 14 6 3,sO 15 (.build [.int .i64 0,.int .i64 0,.int .i64 0,.nilsl,.nilsl,.nilsl,.int .i64 0,.int .i64 0,.int .i64 0,.nilsl,.nilsl,.nilsl] [(0,6,.t 13),(6,6,.t 14)]),qI 16 0]) (.block 0 (.loop aKY))) (.seq (.seq (.reg aSl) (.cond (.t 36) (.seq (.reg [sO 4 (.mv (.c (.nilsl))),sO 5 (.mv (.c (.bool false))),qI 6 15]) (.ret)) (.skip))) (.seq (.reg aQQ) (.seq (.seq (.reg [qM 42 11,qC 43 .neq 42 0]) (.cond (.t 43) (.seq (.reg [qM 44 11,sO 4 (.mv (.c (.nilsl))),sO 5 (.mv (.c (.bool false))),qM 6 44]) (.ret)) (.skip))) (.seq (.reg aOP) (.seq (.seq (.reg [qM 50 11,qC 51 .neq 50 0]) (.cond (.t 51) (.seq (.reg [qM 52 11,sO 4 (.mv (.c (.nilsl))),sO 5 (.mv (.c (.bool false))),qM 6 52]) (.ret)) (.skip))) (.seq (.reg aN5) (.ret))))))))⟩
theorem aG1:aL Tryz.prog ⟨[58,129,130,131,149,155,161,182,183,185,191,192,208,209,210,224,228,231,236],[],[],[]⟩ Tryz.f15=some s15:=by kernel_rfl
def aRq:List SO:=[
 qM 17 0,
 qM 18 5,
 qA 19 1 17 18,
 ql 20 19,
 qM 21 1,
 qM 22 5,
 qA 23 1 21 22,
 ql 24 23,
 qP 25 .neq 20 24]
def aS0:SC:=.seq (.seq (.reg [qM 11 5,qM 12 0,qN 13 12,qP 14 .lss 11 13]) (.cond (.t 14) (.skip) (.exit 0))) (.seq (.block 1 (.seq (.reg aRq) (.cond (.t 25) (.seq (.reg [sO 4 (.mv (.c (.bool false)))]) (.ret)) (.skip)))) (.reg [qM 15 5,qC 16 .add 15 1,qM 5 16]))
def s17:SF:=⟨26,[.tmp 4],.seq (.reg [sO 4 (.mv (.c (.bool false)))]) (.seq (.seq (.reg [qM 6 0,qN 7 6,qM 8 1,qN 9 8,qP 10 .neq 7 9]) (.cond (.t 10) (.seq (.reg [sO 4 (.mv (.c (.bool false)))]) (.ret)) (.skip))) (.seq (.seq (.reg [qI 5 0]) (.block 0 (.loop aS0))) (.seq (.reg [sO 4 (.mv (.c (.bool true)))]) (.ret))))⟩
theorem aMe:aL Tryz.prog ⟨[58,129,130,131,149,155,161,182,183,185,191,192,208,209,210,224,228,231,236],[],[],[]⟩ Tryz.f17=some s17:=by kernel_rfl
def aSY:List SO:=[
 qL 10 6 1,
 sO 11 (.call false 40 [.t 10]),
 qM 9 11,
 qE 12 9 0,
 qE 13 9 1,
 sO 4 (.alloc 24 [.int .i64 0,.int .i64 0,.nilsl,.nilsl]),
 sN (.store 4 (.t 4) (.t 12)),
 qM 5 13]
def aSh:List SO:=[
 qL 19 4 4,
 sO 20 (.call false 43 [.t 19]),
 qM 18 20,
 qE 21 18 0,
 qE 22 18 1,
 qE 23 18 2,
 qE 24 18 3,
 sO 6 (.alloc 85 [.int .i64 0,.int .i64 0,.nilsl,.nilsl,.nilsl]),
 sO 7 (.alloc 88 [.int .i64 0,.nilsl]),
 sN (.store 5 (.t 6) (.t 21)),
 sN (.store 2 (.t 7) (.t 22)),
 qM 8 23,
 qM 5 24]
def aRf:List SO:=[
 qF 29 0 6,
 qL 30 4 29,
 qF 31 0 1,
 ql 32 31,
 qF 33 1 1,
 ql 34 33,
 sO 35 (.call false 11 [.t 30,.t 32,.t 34]),
 qE 36 35 0,
 qE 37 35 1,
 sN (.store 6 (.t 2) (.t 36)),
 qM 3 37]
def s19:SF:=⟨38,[.cell 2 true 6,.tmp 3],.seq (.reg [sO 1 (.box 29 6 (.t 0)),sO 2 (.alloc 29 [.int .i64 0,.int .i64 0,.int .i64 0,.nilsl,.nilsl,.nilsl]),qI 3 0]) (.seq (.reg aSY) (.seq (.seq (.reg [qM 14 5,qC 15 .neq 14 0]) (.cond (.t 15) (.seq (.reg [sO 16 (.build [.int .i64 0,.int .i64 0,.int .i64 0,.nilsl,.nilsl,.nilsl] []),qM 17 5,sN (.store 6 (.t 2) (.t 16)),qM 3 17]) (.ret)) (.skip))) (.seq (.reg aSh) (.seq (.seq (.reg [qM 25 5,qC 26 .neq 25 0]) (.cond (.t 26) (.seq (.reg [sO 27 (.build [.int .i64 0,.int .i64 0,.int .i64 0,.nilsl,.nilsl,.nilsl] []),qM 28 5,sN (.store 6 (.t 2) (.t 27)),qM 3 28]) (.ret)) (.skip))) (.seq (.reg aRf) (.ret))))))⟩
theorem aPg:aL Tryz.prog ⟨[58,129,130,131,149,155,161,182,183,185,191,192,208,209,210,224,228,231,236],[],[],[]⟩ Tryz.f19=some s19:=by kernel_rfl
def aTz:List SO:=[
 sO 1 (.bslice 3 1 false [.int .i64 0] 2 [(0,.c (.int .i64 1)),(1,.c (.int .i64 0))]),
 sO 2 (.bslice 3 1 false [.int .i64 0] 2 [(0,.c (.int .i64 1)),(1,.c (.int .i64 0))]),
 sO 3 (.bslice 38 1 false [.nilsl] 2 [(0,.t 1),(1,.t 2)]),
 sO 4 (.bslice 3 1 false [.int .i64 0] 2 [(0,.c (.int .i64 1014)),(1,.c (.int .i64 0))]),
 sO 5 (.bslice 3 1 false [.int .i64 0] 2 [(0,.c (.int .i64 2016)),(1,.c (.int .i64 1))]),
 sO 6 (.bslice 38 1 false [.nilsl] 2 [(0,.t 4),(1,.t 5)]),
 sO 7 (.build [.int .i64 0,.int .i64 0,.nilsl,.nilsl] [(0,1,.c (.int .i64 2)),(2,1,.t 3),(3,1,.t 6)]),
 sN (.store 4 (.t 0) (.t 7))]
def s27:SF:=⟨8,[.cell 0 true 4],.seq (.reg [sO 0 (.alloc 24 [.int .i64 0,.int .i64 0,.nilsl,.nilsl])]) (.seq (.reg aTz) (.ret))⟩
theorem aN4:aL Tryz.prog ⟨[58,129,130,131,149,155,161,182,183,185,191,192,208,209,210,224,228,231,236],[],[],[]⟩ Tryz.f27=some s27:=by kernel_rfl
def aTV:List SO:=[
 sO 1 (.bslice 3 1 false [.int .i64 0] 2 [(0,.c (.int .i64 1)),(1,.c (.int .i64 0))]),
 sO 2 (.bslice 3 1 false [.int .i64 0] 2 [(0,.c (.int .i64 1)),(1,.c (.int .i64 0))]),
 sO 3 (.bslice 38 1 false [.nilsl] 2 [(0,.t 1),(1,.t 2)]),
 sO 4 (.bslice 3 1 false [.int .i64 0] 2 [(0,.c (.int .i64 1)),(1,.c (.int .i64 3))]),
 sO 5 (.bslice 3 1 false [.int .i64 0] 2 [(0,.c (.int .i64 2)),(1,.c (.int .i64 0))]),
 sO 6 (.bslice 38 1 false [.nilsl] 2 [(0,.t 4),(1,.t 5)]),
 sO 7 (.build [.int .i64 0,.int .i64 0] [(0,1,.c (.int .i64 0)),(1,1,.c (.int .i64 10))]),
 sO 8 (.build [.int .i64 0,.int .i64 0] [(0,1,.c (.int .i64 (-1)))]),
 sO 9 (.bslice 73 2 false [.int .i64 0,.int .i64 0] 2 [(0,.t 7),(1,.t 8)]),
 sO 10 (.build [.int .i64 0,.int .i64 0] [(0,1,.c (.int .i64 0)),(1,1,.c (.int .i64 10))]),
 sO 11 (.build [.int .i64 0,.int .i64 0] [(0,1,.c (.int .i64 (-1)))]),
 sO 12 (.bslice 73 2 false [.int .i64 0,.int .i64 0] 2 [(0,.t 10),(1,.t 11)]),
 sO 13 (.bslice 70 1 false [.nilsl] 2 [(0,.t 9),(1,.t 12)]),
 sO 14 (.build [.int .i64 0,.int .i64 0,.int .i64 0,.nilsl,.nilsl,.nilsl] [(0,1,.c (.int .i64 1)),(1,1,.c (.int .i64 1)),(3,1,.t 3),(4,1,.t 6),(5,1,.t 13)]),
 sN (.store 6 (.t 0) (.t 14))]
def s28:SF:=⟨15,[.cell 0 true 6],.seq (.reg [sO 0 (.alloc 29 [.int .i64 0,.int .i64 0,.int .i64 0,.nilsl,.nilsl,.nilsl])]) (.seq (.reg aTV) (.ret))⟩
theorem aNg:aL Tryz.prog ⟨[58,129,130,131,149,155,161,182,183,185,191,192,208,209,210,224,228,231,236],[],[],[]⟩ Tryz.f28=some s28:=by kernel_rfl
def aSf:List SO:=[
 sO 3 (.build [.int .i64 0,.int .i64 0] [(0,1,.c (.int .i64 0)),(1,1,.c (.int .i64 10))]),
 sO 4 (.build [.int .i64 0,.int .i64 0] [(0,1,.c (.int .i64 (-1)))]),
 sO 5 (.bslice 73 2 false [.int .i64 0,.int .i64 0] 2 [(0,.t 3),(1,.t 4)]),
 sO 6 (.build [.int .i64 0,.int .i64 0] [(0,1,.c (.int .i64 0)),(1,1,.c (.int .i64 11))]),
 sO 7 (.build [.int .i64 0,.int .i64 0] [(0,1,.c (.int .i64 (-1)))]),
 sO 8 (.bslice 73 2 false [.int .i64 0,.int .i64 0] 2 [(0,.t 6),(1,.t 7)]),
 sO 9 (.bslice 70 1 false [.nilsl] 2 [(0,.t 5),(1,.t 8)]),
 qF 10 5 1,
 sN (.store 1 (.t 10) (.t 9))]
def s29:SF:=⟨12,[.cell 0 true 6],.seq (.reg [sO 0 (.alloc 29 [.int .i64 0,.int .i64 0,.int .i64 0,.nilsl,.nilsl,.nilsl])]) (.seq (.reg [sO 2 (.call false 28 []),sO 1 (.alloc 29 [.int .i64 0,.int .i64 0,.int .i64 0,.nilsl,.nilsl,.nilsl]),sN (.store 6 (.t 1) (.t 2))]) (.seq (.reg aSf) (.seq (.reg [qL 11 6 1,sN (.store 6 (.t 0) (.t 11))]) (.ret))))⟩
theorem aP7:aL Tryz.prog ⟨[58,129,130,131,149,155,161,182,183,185,191,192,208,209,210,224,228,231,236],[],[],[]⟩ Tryz.f29=some s29:=by kernel_rfl
def aTu:List SO:=[
 qF 12 0 1,
 ql 13 12,
 qC 14 .lss 13 1,
 qM 15 14,
 ⟨some (15,false),some 16,.fld 0 (.t 1)⟩,
 ⟨some (15,false),some 17,.load false 1 (.t 16)⟩,
 ⟨some (15,false),some 18,.bin .gtr (.t 17) (.c (.int .i64 64))⟩,
 sO 19 (.pick (.t 15) (.c (.bool true)) (.t 18)),
 qM 11 19]
def aSN:List SO:=[
 qF 27 1 1,
 ql 28 27,
 qC 29 .lss 28 0,
 qM 30 29,
 ⟨some (30,false),some 31,.fld 1 (.t 1)⟩,
 ⟨some (30,false),some 32,.load false 1 (.t 31)⟩,
 ⟨some (30,false),some 33,.mv (.t 3)⟩,
 ⟨some (30,false),some 34,.bin .geq (.t 32) (.t 33)⟩,
 sO 35 (.pick (.t 30) (.c (.bool true)) (.t 34)),
 qM 26 35]
def aN6:List SO:=[
 qF 46 2 1,
 ql 47 46,
 qM 48 4,
 qA 49 1 47 48,
 ql 50 49,
 qN 51 50,
 qF 52 0 1,
 ql 53 52,
 qP 54 .neq 51 53,
 qM 55 54,
 ⟨some (55,false),some 56,.fld 3 (.t 1)⟩,
 ⟨some (55,false),some 57,.load false 1 (.t 56)⟩,
 ⟨some (55,false),some 58,.mv (.t 4)⟩,
 ⟨some (55,false),some 59,.idx 1 (.t 57) (.t 58)⟩,
 ⟨some (55,false),some 60,.load false 1 (.t 59)⟩,
 ⟨some (55,false),some 61,.len (.t 60)⟩,
 ⟨some (55,false),some 62,.fld 0 (.t 1)⟩,
 ⟨some (55,false),some 63,.load false 1 (.t 62)⟩,
 ⟨some (55,false),some 64,.bin .neq (.t 61) (.t 63)⟩,
 sO 65 (.pick (.t 55) (.c (.bool true)) (.t 64))]
def aO5:List SO:=[
 qF 71 2 1,
 ql 72 71,
 qM 73 4,
 qA 74 1 72 73,
 ql 75 74,
 qM 76 5,
 qA 77 1 75 76,
 ql 78 77,
 qF 79 3 1,
 ql 80 79,
 qM 81 4,
 qA 82 1 80 81,
 ql 83 82,
 qM 84 5,
 qA 85 1 83 84,
 ql 86 85,
 qM 6 78,
 qM 7 86]
def aOF:List SO:=[
 qM 87 6,
 qC 88 .lss 87 0,
 qM 89 88,
 ⟨some (89,false),some 90,.mv (.t 6)⟩,
 ⟨some (89,false),some 91,.mv (.t 3)⟩,
 ⟨some (89,false),some 92,.bin .geq (.t 90) (.t 91)⟩,
 sO 93 (.pick (.t 89) (.c (.bool true)) (.t 92)),
 qM 94 93,
 ⟨some (94,false),some 95,.mv (.t 7)⟩,
 ⟨some (94,false),some 96,.bin .lss (.t 95) (.c (.int .i64 0))⟩,
 sO 97 (.pick (.t 94) (.c (.bool true)) (.t 96)),
 qM 98 97,
 ⟨some (98,false),some 99,.mv (.t 7)⟩,
 ⟨some (98,false),some 100,.bin .gtr (.t 99) (.c (.int .i64 1048576))⟩,
 sO 101 (.pick (.t 98) (.c (.bool true)) (.t 100))]
def aLu:SC:=.seq (.reg [qP 69 .lss 68 67]) (.seq (.cond (.t 69) (.skip) (.exit 3)) (.seq (.block 4 (.seq (.reg [qM 70 68,qM 5 70]) (.seq (.reg aO5) (.seq (.reg aOF) (.cond (.t 101) (.seq (.reg [qI 2 2]) (.ret)) (.skip)))))) (.reg [qC 102 .add 68 1,qM 68 102])))
def aLN:SC:=.seq (.reg [qP 44 .lss 43 42]) (.seq (.cond (.t 44) (.skip) (.exit 1)) (.seq (.block 2 (.seq (.reg [qM 45 43,qM 4 45]) (.seq (.seq (.reg aN6) (.cond (.t 65) (.seq (.reg [qI 2 1]) (.ret)) (.skip))) (.seq (.reg [qF 66 0 1,ql 67 66,qI 68 0]) (.block 3 (.loop aLu)))))) (.reg [qC 103 .add 43 1,qM 43 103])))
def s30:SF:=⟨104,[.tmp 2],.seq (.reg [sO 1 (.box 24 4 (.t 0)),qI 2 0]) (.seq (.reg [qF 8 2 1,ql 9 8,qN 10 9,qM 3 10]) (.seq (.block 0 (.seq (.reg aTu) (.cond (.t 11) (.seq (.reg [qI 2 2]) (.ret)) (.seq (.reg [qM 21 3,qC 22 .eql 21 0,qM 20 22]) (.cond (.t 20) (.seq (.reg [qI 2 19]) (.ret)) (.seq (.reg [qM 24 3,qC 25 .gtr 24 128,qM 23 25]) (.cond (.t 23) (.seq (.reg [qI 2 11]) (.ret)) (.seq (.reg aSN) (.cond (.t 26) (.seq (.reg [qI 2 2]) (.ret)) (.seq (.reg [qF 37 3 1,ql 38 37,qN 39 38,qM 40 3,qP 41 .neq 39 40,qM 36 41]) (.cond (.t 36) (.seq (.reg [qI 2 1]) (.ret)) (.skip)))))))))))) (.seq (.seq (.reg [qM 42 3,qI 43 0]) (.block 1 (.loop aLN))) (.seq (.reg [qI 2 0]) (.ret)))))⟩
theorem aHU:aL Tryz.prog ⟨[58,129,130,131,149,155,161,182,183,185,191,192,208,209,210,224,228,231,236],[],[],[]⟩ Tryz.f30=some s30:=by kernel_rfl
def aTn:SC:=.seq (.reg [qP 30 .lss 29 28]) (.seq (.cond (.t 30) (.skip) (.exit 0)) (.seq (.block 1 (.seq (.reg [qM 31 29,qA 32 1 27 29,ql 33 32,qM 7 31,qM 8 33]) (.reg [qM 34 6,qM 35 8,qM 36 7,qA 37 1 34 35,sN (.store 1 (.t 37) (.t 36))]))) (.reg [qC 38 .add 29 1,qM 29 38])))
def aNY:List SO:=[
 qF 51 2 1,
 ql 52 51,
 qM 53 11,
 qA 54 1 52 53,
 ql 55 54,
 qN 56 55,
 qI 57 0]
def aNX:List SO:=[
 qM 62 12,
 qM 63 13,
 qM 64 6,
 qM 65 14,
 qA 66 1 64 65,
 ql 67 66,
 qA 68 1 62 63,
 sN (.store 1 (.t 68) (.t 67))]
def aRQ:SC:=.seq (.reg [qP 58 .lss 57 56]) (.seq (.cond (.t 58) (.skip) (.exit 4)) (.seq (.block 5 (.seq (.reg [qM 59 57,qA 60 1 55 57,ql 61 60,qM 13 59,qM 14 61]) (.reg aNX))) (.reg [qC 69 .add 57 1,qM 57 69])))
def aNC:List SO:=[
 qF 70 2 9,
 ql 71 70,
 qM 72 12,
 sO 73 (.bslice 38 1 false [.nilsl] 1 [(0,.t 72)]),
 sO 74 (.append 38 1 24 (.t 71) (.t 73)),
 qF 75 2 9,
 sN (.store 1 (.t 75) (.t 74))]
def aQf:List SO:=[
 qF 76 3 9,
 ql 77 76,
 qF 78 3 1,
 ql 79 78,
 qM 80 11,
 qA 81 1 79 80,
 ql 82 81,
 sO 83 (.call false 56 [.t 82]),
 sO 84 (.bslice 38 1 false [.nilsl] 1 [(0,.t 83)]),
 sO 85 (.append 38 1 24 (.t 77) (.t 84)),
 qF 86 3 9,
 sN (.store 1 (.t 86) (.t 85))]
def aRM:SC:=.seq (.reg [qP 45 .lss 44 43]) (.seq (.cond (.t 45) (.skip) (.exit 2)) (.seq (.block 3 (.seq (.reg [qA 46 1 42 44,ql 47 46,qM 11 47]) (.seq (.reg [qF 48 0 1,ql 49 48,sO 50 (.mks 3 1 8 [.int .i64 0] (.t 49) (.t 49)),qM 12 50]) (.seq (.seq (.reg aNY) (.block 4 (.loop aRQ))) (.seq (.reg aNC) (.reg aQf)))))) (.reg [qC 87 .add 44 1,qM 44 87])))
def s31:SF:=⟨89,[.cell 2 true 4,.tmp 3],.seq (.reg [sO 1 (.box 24 4 (.t 0)),sO 2 (.alloc 24 [.int .i64 0,.int .i64 0,.nilsl,.nilsl]),qI 3 0]) (.seq (.seq (.reg [qL 15 4 1,sO 16 (.call false 30 [.t 15]),qM 4 16]) (.seq (.reg [qM 17 4,qC 18 .neq 17 0]) (.cond (.t 18) (.seq (.reg [sO 19 (.build [.int .i64 0,.int .i64 0,.nilsl,.nilsl] []),qM 20 4,sN (.store 4 (.t 2) (.t 19)),qM 3 20]) (.ret)) (.skip)))) (.seq (.reg [qL 21 4 1,sO 22 (.call false 55 [.t 21]),qM 5 22]) (.seq (.reg [qF 23 2 1,ql 24 23,qN 25 24,sO 26 (.mks 3 1 8 [.int .i64 0] (.t 25) (.t 25)),qM 6 26]) (.seq (.seq (.reg [qM 27 5,qN 28 27,qI 29 0]) (.block 0 (.loop aTn))) (.seq (.reg [qF 39 0 1,ql 40 39,sO 41 (.build [.int .i64 0,.int .i64 0,.nilsl,.nilsl] [(0,1,.t 40)]),sO 9 (.alloc 24 [.int .i64 0,.int .i64 0,.nilsl,.nilsl]),sN (.store 4 (.t 9) (.t 41))]) (.seq (.seq (.reg [qM 42 5,qN 43 42,qI 44 0]) (.block 2 (.loop aRM))) (.seq (.reg [qL 88 4 9,sN (.store 4 (.t 2) (.t 88)),qI 3 0]) (.ret))))))))⟩
theorem aPF:aL Tryz.prog ⟨[58,129,130,131,149,155,161,182,183,185,191,192,208,209,210,224,228,231,236],[],[],[]⟩ Tryz.f31=some s31:=by kernel_rfl
def aR7:SC:=.seq (.reg [qP 19 .lss 18 17]) (.seq (.cond (.t 19) (.skip) (.exit 2)) (.seq (.block 3 (.seq (.reg [qM 20 18,qM 4 20]) (.seq (.reg [qL 21 7 1,qM 22 3,qM 23 4,sO 24 (.call false 59 [.t 21,.t 22,.t 23]),sO 25 (.un .not (.t 24))]) (.cond (.t 25) (.seq (.reg [sO 2 (.mv (.c (.bool false)))]) (.ret)) (.skip))))) (.reg [qC 26 .add 18 1,qM 18 26])))
def aRK:SC:=.seq (.reg [qP 13 .lss 12 11]) (.seq (.cond (.t 13) (.skip) (.exit 0)) (.seq (.block 1 (.seq (.reg [qM 14 12,qM 3 14]) (.seq (.reg [qF 15 0 1,qF 16 0 15,ql 17 16,qI 18 0]) (.block 2 (.loop aR7))))) (.reg [qC 27 .add 12 1,qM 12 27])))
def s32:SF:=⟨28,[.tmp 2],.seq (.reg [sO 1 (.box 68 7 (.t 0)),sO 2 (.mv (.c (.bool false)))]) (.seq (.seq (.reg [qL 5 7 1,sO 6 (.call true 58 [.t 5,.c (.int .i64 0)]),sO 7 (.call false 57 [.t 6,.c (.bool true)])]) (.cond (.t 7) (.seq (.reg [sO 2 (.mv (.c (.bool false)))]) (.ret)) (.skip))) (.seq (.seq (.reg [qF 8 0 1,qF 9 2 8,ql 10 9,qN 11 10,qI 12 0]) (.block 0 (.loop aRK))) (.seq (.reg [sO 2 (.mv (.c (.bool true)))]) (.ret))))⟩
theorem aPi:aL Tryz.prog ⟨[58,129,130,131,149,155,161,182,183,185,191,192,208,209,210,224,228,231,236],[],[],[]⟩ Tryz.f32=some s32:=by kernel_rfl
def aTT:List SO:=[
 qM 6 1,
 qC 7 .sub 6 1,
 qF 8 0 2,
 ql 9 8,
 qP 10 .quo 7 9,
 qM 11 1,
 qC 12 .sub 11 1,
 qF 13 0 2,
 ql 14 13,
 qP 15 .rem 12 14,
 qM 4 10,
 qM 5 15]
def s33:SF:=⟨16,[.tmp 4,.tmp 5],.seq (.reg [sO 2 (.box 66 1 (.t 0)),qI 4 0,qI 5 0]) (.seq (.reg aTT) (.ret))⟩
theorem aOY:aL Tryz.prog ⟨[58,129,130,131,149,155,161,182,183,185,191,192,208,209,210,224,228,231,236],[],[],[]⟩ Tryz.f33=some s33:=by kernel_rfl
def aST:List SO:=[
 qM 6 0,
 qC 7 .sub 6 1,
 qC 8 .quo 7 1001,
 qM 9 0,
 qC 10 .sub 9 1,
 qC 11 .rem 10 1001,
 sO 12 (.build [.int .i64 0,.int .i64 0] [(0,1,.t 8),(1,1,.t 11)]),
 sN (.store 2 (.t 2) (.t 12))]
def s34:SF:=⟨13,[.cell 2 true 2],.seq (.reg [sO 2 (.alloc 73 [.int .i64 0,.int .i64 0])]) (.seq (.seq (.reg [qM 3 0,qC 4 .eql 3 0]) (.cond (.t 4) (.seq (.reg [sO 5 (.build [.int .i64 0,.int .i64 0] [(0,1,.c (.int .i64 (-1)))]),sN (.store 2 (.t 2) (.t 5))]) (.ret)) (.skip))) (.seq (.reg aST) (.ret)))⟩
theorem aM4:aL Tryz.prog ⟨[58,129,130,131,149,155,161,182,183,185,191,192,208,209,210,224,228,231,236],[],[],[]⟩ Tryz.f34=some s34:=by kernel_rfl
def aRt:List SO:=[
 qM 17 0,
 qM 18 5,
 qA 19 1 17 18,
 ql 20 19,
 qM 21 1,
 qM 22 5,
 qA 23 1 21 22,
 ql 24 23,
 sO 25 (.call false 17 [.t 20,.t 24]),
 sO 26 (.un .not (.t 25))]
def aTg:SC:=.seq (.seq (.reg [qM 11 5,qM 12 0,qN 13 12,qP 14 .lss 11 13]) (.cond (.t 14) (.skip) (.exit 0))) (.seq (.block 1 (.seq (.reg aRt) (.cond (.t 26) (.seq (.reg [sO 4 (.mv (.c (.bool false)))]) (.ret)) (.skip)))) (.reg [qM 15 5,qC 16 .add 15 1,qM 5 16]))
def s38:SF:=⟨27,[.tmp 4],.seq (.reg [sO 4 (.mv (.c (.bool false)))]) (.seq (.seq (.reg [qM 6 0,qN 7 6,qM 8 1,qN 9 8,qP 10 .neq 7 9]) (.cond (.t 10) (.seq (.reg [sO 4 (.mv (.c (.bool false)))]) (.ret)) (.skip))) (.seq (.seq (.reg [qI 5 0]) (.block 0 (.loop aTg))) (.seq (.reg [sO 4 (.mv (.c (.bool true)))]) (.ret))))⟩
theorem aQk:aL Tryz.prog ⟨[58,129,130,131,149,155,161,182,183,185,191,192,208,209,210,224,228,231,236],[],[],[]⟩ Tryz.f38=some s38:=by kernel_rfl
def aTW:List SO:=[
 qF 6 0 1,
 ql 7 6,
 qC 8 .lss 7 1,
 qM 9 8,
 ⟨some (9,false),some 10,.fld 0 (.t 1)⟩,
 ⟨some (9,false),some 11,.load false 1 (.t 10)⟩,
 ⟨some (9,false),some 12,.bin .gtr (.t 11) (.c (.int .i64 64))⟩,
 sO 13 (.pick (.t 9) (.c (.bool true)) (.t 12)),
 qM 14 13,
 ⟨some (14,false),some 15,.fld 1 (.t 1)⟩,
 ⟨some (14,false),some 16,.load false 1 (.t 15)⟩,
 ⟨some (14,false),some 17,.bin .lss (.t 16) (.c (.int .i64 0))⟩,
 sO 18 (.pick (.t 14) (.c (.bool true)) (.t 17)),
 qM 19 18,
 ⟨some (19,false),some 20,.fld 1 (.t 1)⟩,
 ⟨some (19,false),some 21,.load false 1 (.t 20)⟩,
 ⟨some (19,false),some 22,.bin .gtr (.t 21) (.c (.int .i64 4))⟩,
 sO 23 (.pick (.t 19) (.c (.bool true)) (.t 22)),
 qM 5 23]
def aTi:List SO:=[
 qF 25 0 1,
 ql 26 25,
 qF 27 1 1,
 ql 28 27,
 qP 29 .add 26 28,
 qC 30 .gtr 29 64,
 qM 24 30]
def aSu:List SO:=[
 qF 42 2 1,
 ql 43 42,
 qC 44 .lss 43 0,
 qM 45 44,
 ⟨some (45,false),some 46,.fld 2 (.t 1)⟩,
 ⟨some (45,false),some 47,.load false 1 (.t 46)⟩,
 ⟨some (45,false),some 48,.fld 3 (.t 1)⟩,
 ⟨some (45,false),some 49,.load false 1 (.t 48)⟩,
 ⟨some (45,false),some 50,.len (.t 49)⟩,
 ⟨some (45,false),some 51,.bin .geq (.t 47) (.t 50)⟩,
 sO 52 (.pick (.t 45) (.c (.bool true)) (.t 51)),
 qM 41 52]
def aLZ:List SO:=[
 qF 54 4 1,
 ql 55 54,
 qN 56 55,
 qF 57 3 1,
 ql 58 57,
 qN 59 58,
 qP 60 .neq 56 59,
 qM 61 60,
 ⟨some (61,false),some 62,.fld 5 (.t 1)⟩,
 ⟨some (61,false),some 63,.load false 1 (.t 62)⟩,
 ⟨some (61,false),some 64,.len (.t 63)⟩,
 ⟨some (61,false),some 65,.fld 3 (.t 1)⟩,
 ⟨some (61,false),some 66,.load false 1 (.t 65)⟩,
 ⟨some (61,false),some 67,.len (.t 66)⟩,
 ⟨some (61,false),some 68,.bin .neq (.t 64) (.t 67)⟩,
 sO 69 (.pick (.t 61) (.c (.bool true)) (.t 68)),
 qM 53 69]
def aLm:SC:=.seq (.reg [qP 74 .lss 73 72]) (.seq (.cond (.t 74) (.skip) (.exit 1)) (.seq (.block 2 (.seq (.reg [qM 75 73,qM 3 75]) (.seq (.reg [qL 76 6 1,qM 77 3,sO 78 (.call false 63 [.t 76,.t 77]),qM 4 78]) (.seq (.reg [qM 79 4,qC 80 .neq 79 0]) (.cond (.t 80) (.seq (.reg [qM 81 4,qM 2 81]) (.ret)) (.skip)))))) (.reg [qC 82 .add 73 1,qM 73 82])))
def s39:SF:=⟨83,[.tmp 2],.seq (.reg [sO 1 (.box 29 6 (.t 0)),qI 2 0]) (.seq (.block 0 (.seq (.reg aTW) (.cond (.t 5) (.seq (.reg [qI 2 2]) (.ret)) (.seq (.reg aTi) (.cond (.t 24) (.seq (.reg [qI 2 11]) (.ret)) (.seq (.reg [qF 32 3 1,ql 33 32,qN 34 33,qC 35 .eql 34 0,qM 31 35]) (.cond (.t 31) (.seq (.reg [qI 2 19]) (.ret)) (.seq (.reg [qF 37 3 1,ql 38 37,qN 39 38,qC 40 .gtr 39 128,qM 36 40]) (.cond (.t 36) (.seq (.reg [qI 2 11]) (.ret)) (.seq (.reg aSu) (.cond (.t 41) (.seq (.reg [qI 2 2]) (.ret)) (.seq (.reg aLZ) (.cond (.t 53) (.seq (.reg [qI 2 1]) (.ret)) (.skip)))))))))))))) (.seq (.seq (.reg [qF 70 3 1,ql 71 70,qN 72 71,qI 73 0]) (.block 1 (.loop aLm))) (.seq (.reg [qI 2 0]) (.ret))))⟩
theorem aHt:aL Tryz.prog ⟨[58,129,130,131,149,155,161,182,183,185,191,192,208,209,210,224,228,231,236],[],[],[]⟩ Tryz.f39=some s39:=by kernel_rfl
def aMN:List SO:=[
 qL 61 6 1,
 qM 62 9,
 qM 63 11,
 qA 64 5 62 63,
 qL 65 5 64,
 qM 66 14,
 sO 67 (.call false 64 [.t 61,.t 65,.t 66]),
 qM 60 67,
 qE 68 60 0,
 qE 69 60 1,
 qE 70 60 2,
 sO 15 (.alloc 127 [.int .i64 0,.bool false,.bool false,.bool false,.bool false]),
 sN (.store 5 (.t 15) (.t 68)),
 qM 16 69,
 qM 17 70]
def aNG:List SO:=[
 qF 72 4 1,
 ql 73 72,
 qM 74 9,
 qM 75 11,
 qA 76 5 74 75,
 qF 77 0 76,
 ql 78 77,
 qA 79 1 73 78,
 ql 80 79,
 qM 81 14,
 qA 82 1 80 81,
 ql 83 82,
 qM 84 6,
 qP 85 .mul 83 84,
 sO 86 (.bin .add (.c (.int .i64 2)) (.t 85)),
 qM 87 16,
 qP 88 .add 86 87,
 qM 18 88]
def aNF:List SO:=[
 qM 93 8,
 qL 94 5 15,
 sO 95 (.mlook 1024 true (.int .i64 0) (.t 93) (.t 94)),
 qM 92 95,
 qE 96 92 0,
 qE 97 92 1,
 qM 19 96,
 qM 20 97]
def aPq:List SO:=[
 qM 112 12,
 qM 113 19,
 sO 114 (.bslice 3 1 false [.int .i64 0] 1 [(0,.t 113)]),
 sO 115 (.append 3 1 8 (.t 112) (.t 114)),
 qM 116 13,
 qM 117 18,
 sO 118 (.bslice 3 1 false [.int .i64 0] 1 [(0,.t 117)]),
 sO 119 (.append 3 1 8 (.t 116) (.t 118)),
 qM 12 115,
 qM 13 119]
def aK7:SC:=.seq (.reg [qP 58 .lss 57 56]) (.seq (.cond (.t 58) (.skip) (.exit 2)) (.seq (.block 3 (.seq (.reg [qM 59 57,qM 14 59]) (.seq (.dreg [15] aMN) (.seq (.reg [qI 18 0]) (.seq (.seq (.reg [qM 71 17]) (.cond (.t 71) (.reg aNG) (.skip))) (.seq (.seq (.reg [qM 89 18,qC 90 .gtr 89 1048576]) (.cond (.t 90) (.seq (.reg [sO 91 (.build [.int .i64 0,.int .i64 0,.nilsl,.nilsl] []),sN (.store 4 (.t 2) (.t 91)),qI 3 2]) (.ret)) (.skip))) (.seq (.reg aNF) (.seq (.seq (.reg [qM 98 20,sO 99 (.un .not (.t 98))]) (.cond (.t 99) (.seq (.reg [qM 100 9,qN 101 100,qM 19 101]) (.seq (.seq (.reg [qM 102 19,qC 103 .geq 102 128]) (.cond (.t 103) (.seq (.reg [sO 104 (.build [.int .i64 0,.int .i64 0,.nilsl,.nilsl] []),sN (.store 4 (.t 2) (.t 104)),qI 3 11]) (.ret)) (.skip))) (.seq (.reg [qM 105 8,qL 106 5 15,qM 107 19,sN (.mset 1024 (.t 105) (.t 106) (.t 107))]) (.reg [qM 108 9,qL 109 5 15,sO 110 (.bslice 127 5 false [.int .i64 0,.bool false,.bool false,.bool false,.bool false] 1 [(0,.t 109)]),sO 111 (.append 127 5 16 (.t 108) (.t 110)),qM 9 111])))) (.skip))) (.reg aPq))))))))) (.reg [qC 120 .add 57 1,qM 57 120])))
def aGe:List SO:=[
 qF 121 2 10,
 ql 122 121,
 qM 123 12,
 sO 124 (.bslice 38 1 false [.nilsl] 1 [(0,.t 123)]),
 sO 125 (.append 38 1 24 (.t 122) (.t 124)),
 qF 126 3 10,
 ql 127 126,
 qM 128 13,
 sO 129 (.bslice 38 1 false [.nilsl] 1 [(0,.t 128)]),
 sO 130 (.append 38 1 24 (.t 127) (.t 129)),
 qF 131 2 10,
 sN (.store 1 (.t 131) (.t 125)),
 qF 132 3 10,
 sN (.store 1 (.t 132) (.t 130))]
def aKU:SC:=.seq (.seq (.reg [qM 46 11,qM 47 9,qN 48 47,qP 49 .lss 46 48]) (.cond (.t 49) (.skip) (.exit 0))) (.seq (.block 1 (.seq (.reg [qM 52 5,sO 53 (.mks 3 1 8 [.int .i64 0] (.c (.int .i64 0)) (.t 52)),qM 54 5,sO 55 (.mks 3 1 8 [.int .i64 0] (.c (.int .i64 0)) (.t 54)),qM 12 53,qM 13 55]) (.seq (.seq (.reg [qM 56 5,qI 57 0]) (.block 2 (.loop aK7))) (.xreg [(122,0,126,1)] aGe)))) (.reg [qM 50 11,qC 51 .add 50 1,qM 11 51]))
def s40:SF:=⟨136,[.cell 2 true 4,.tmp 3],.seq (.reg [sO 1 (.box 29 6 (.t 0)),sO 2 (.alloc 24 [.int .i64 0,.int .i64 0,.nilsl,.nilsl]),qI 3 0]) (.seq (.seq (.reg [qL 21 6 1,sO 22 (.call false 39 [.t 21]),qM 4 22]) (.seq (.reg [qM 23 4,qC 24 .neq 23 0]) (.cond (.t 24) (.seq (.reg [sO 25 (.build [.int .i64 0,.int .i64 0,.nilsl,.nilsl] []),qM 26 4,sN (.store 4 (.t 2) (.t 25)),qM 3 26]) (.ret)) (.skip)))) (.seq (.reg [qF 27 0 1,ql 28 27,qF 29 1 1,ql 30 29,qP 31 .add 28 30,qM 5 31]) (.seq (.reg [qF 32 1 1,ql 33 32,qC 34 .mul 33 1001,sO 35 (.bin .add (.c (.int .i64 1)) (.t 34)),qM 6 35]) (.seq (.reg [qF 36 2 1,ql 37 36,sO 38 (.build [.int .i64 0,.bool false,.bool false,.bool false,.bool false] [(0,1,.t 37)]),sO 7 (.alloc 127 [.int .i64 0,.bool false,.bool false,.bool false,.bool false]),sN (.store 5 (.t 7) (.t 38))]) (.seq (.reg [sO 39 (.mkmap),qL 40 5 7,sN (.mset 1024 (.t 39) (.t 40) (.c (.int .i64 0))),qM 41 39,qM 8 41]) (.seq (.reg [qL 42 5 7,sO 43 (.bslice 127 5 true [.int .i64 0,.bool false,.bool false,.bool false,.bool false] 1 [(0,.t 42)]),qM 9 43]) (.seq (.reg [qM 44 5,sO 45 (.build [.int .i64 0,.int .i64 0,.nilsl,.nilsl] [(0,1,.t 44)]),sO 10 (.alloc 24 [.int .i64 0,.int .i64 0,.nilsl,.nilsl]),sN (.store 4 (.t 10) (.t 45))]) (.seq (.seq (.reg [qI 11 0]) (.block 0 (.loop aKU))) (.seq (.reg [qL 133 4 10,qL 134 4 10,sO 135 (.call false 30 [.t 134]),sN (.store 4 (.t 2) (.t 133)),qM 3 135]) (.ret))))))))))⟩
theorem aHh:aL Tryz.prog ⟨[58,129,130,131,149,155,161,182,183,185,191,192,208,209,210,224,228,231,236],[43],[],[]⟩ Tryz.f40=some s40:=by kernel_rfl
def aRg:List SO:=[
 qL 17 4 2,
 qL 18 4 3,
 qF 19 1 2,
 ql 20 19,
 qF 21 1 3,
 ql 22 21,
 sO 23 (.build [.int .i64 0,.int .i64 0] [(0,1,.t 20),(1,1,.t 22)]),
 sO 24 (.call false 66 [.t 17,.t 18,.t 23]),
 qM 16 24,
 qE 25 16 0,
 qE 26 16 1,
 qM 8 25,
 qM 9 26]
def s41:SF:=⟨29,[.tmp 4,.tmp 5,.tmp 6],.seq (.reg [sO 2 (.box 24 4 (.t 0)),sO 3 (.box 24 4 (.t 1)),sO 4 (.mv (.c (.nilsl))),sO 5 (.mv (.c (.bool false))),qI 6 0]) (.seq (.seq (.reg [qL 10 4 2,qL 11 4 3,sO 12 (.call false 65 [.t 10,.t 11]),qM 7 12]) (.seq (.reg [qM 13 7,qC 14 .neq 13 0]) (.cond (.t 14) (.seq (.reg [qM 15 7,sO 4 (.mv (.c (.nilsl))),sO 5 (.mv (.c (.bool false))),qM 6 15]) (.ret)) (.skip)))) (.seq (.reg aRg) (.seq (.reg [qM 27 8,qM 28 9,qM 4 27,qM 5 28,qI 6 0]) (.ret))))⟩
theorem aF3:aL Tryz.prog ⟨[58,129,130,131,149,155,161,182,183,185,191,192,208,209,210,224,228,231,236],[],[],[]⟩ Tryz.f41=some s41:=by kernel_rfl
def aRj:List SO:=[
 sO 22 (.build [.int .i64 0,.int .i64 0,.nilsl,.nilsl,.nilsl] []),
 sO 23 (.build [.int .i64 0,.nilsl] []),
 qM 24 6,
 sN (.store 5 (.t 2) (.t 22)),
 sN (.store 2 (.t 3) (.t 23)),
 qI 4 0,
 qM 5 24]
def aR6:List SO:=[
 qF 26 0 1,
 ql 27 26,
 sO 28 (.call false 69 [.t 27]),
 qM 25 28,
 qE 29 25 0,
 qE 30 25 1,
 sO 7 (.alloc 144 [.int .i64 0,.nilsl]),
 sN (.store 2 (.t 7) (.t 29)),
 qM 8 30]
def aTJ:List SO:=[
 sO 33 (.build [.int .i64 0,.int .i64 0,.nilsl,.nilsl,.nilsl] []),
 sO 34 (.build [.int .i64 0,.nilsl] []),
 qM 35 8,
 sN (.store 5 (.t 2) (.t 33)),
 sN (.store 2 (.t 3) (.t 34)),
 qI 4 0,
 qM 5 35]
def aS3:List SO:=[
 qL 36 2 7,
 qF 37 0 1,
 ql 38 37,
 sO 39 (.build [.int .i64 0,.nilsl] [(0,1,.t 38)]),
 sO 40 (.build [.int .i64 0,.nilsl,.int .i64 0,.nilsl] [(0,2,.t 36),(2,2,.t 39)]),
 sO 9 (.alloc 148 [.int .i64 0,.nilsl,.int .i64 0,.nilsl]),
 sN (.store 4 (.t 9) (.t 40))]
def aR5:List SO:=[
 qF 42 0 9,
 qL 43 2 42,
 qF 44 2 9,
 qL 45 2 44,
 sO 46 (.call false 70 [.t 43,.t 45]),
 qM 41 46,
 qE 47 41 0,
 qE 48 41 1,
 qE 49 41 2,
 qE 50 41 3,
 sO 11 (.alloc 144 [.int .i64 0,.nilsl]),
 sN (.store 2 (.t 11) (.t 47)),
 qM 12 48,
 qM 13 49,
 qM 14 50]
def aM7:List SO:=[
 sO 53 (.build [.int .i64 0,.int .i64 0,.nilsl,.nilsl,.nilsl] []),
 sO 54 (.build [.int .i64 0,.nilsl] []),
 qM 55 14,
 sN (.store 5 (.t 2) (.t 53)),
 sN (.store 2 (.t 3) (.t 54)),
 qI 4 0,
 qM 5 55]
def aMS:List SO:=[
 qL 59 4 1,
 qF 60 2 9,
 qL 61 2 60,
 qM 62 12,
 sO 63 (.call false 71 [.t 59,.t 61,.t 62]),
 qM 58 63,
 qE 64 58 0,
 qE 65 58 1,
 qF 66 2 9,
 sN (.store 2 (.t 66) (.t 64)),
 qM 14 65]
def aPZ:List SO:=[
 sO 69 (.build [.int .i64 0,.int .i64 0,.nilsl,.nilsl,.nilsl] []),
 sO 70 (.build [.int .i64 0,.nilsl] []),
 qM 71 14,
 sN (.store 5 (.t 2) (.t 69)),
 sN (.store 2 (.t 3) (.t 70)),
 qI 4 0,
 qM 5 71]
def aPe:List SO:=[
 qF 75 0 9,
 qL 76 2 75,
 qF 77 2 9,
 qL 78 2 77,
 sO 79 (.call false 72 [.t 76,.t 78]),
 qM 74 79,
 qE 80 74 0,
 qE 81 74 1,
 sO 15 (.alloc 85 [.int .i64 0,.int .i64 0,.nilsl,.nilsl,.nilsl]),
 sN (.store 5 (.t 15) (.t 80)),
 qM 14 81]
def aQw:List SO:=[
 sO 84 (.build [.int .i64 0,.int .i64 0,.nilsl,.nilsl,.nilsl] []),
 sO 85 (.build [.int .i64 0,.nilsl] []),
 qM 86 14,
 sN (.store 5 (.t 2) (.t 84)),
 sN (.store 2 (.t 3) (.t 85)),
 qI 4 0,
 qM 5 86]
def aQ4:List SO:=[
 qF 90 0 15,
 qL 91 4 90,
 qL 92 4 1,
 sO 93 (.call false 41 [.t 91,.t 92]),
 qM 89 93,
 qE 94 89 0,
 qE 95 89 1,
 qE 96 89 2,
 qM 16 94,
 qM 17 95,
 qM 14 96]
def aOl:List SO:=[
 sO 99 (.build [.int .i64 0,.int .i64 0,.nilsl,.nilsl,.nilsl] []),
 sO 100 (.build [.int .i64 0,.nilsl] []),
 qM 101 14,
 sN (.store 5 (.t 2) (.t 99)),
 sN (.store 2 (.t 3) (.t 100)),
 qI 4 0,
 qM 5 101]
def aOn:List SO:=[
 qL 104 5 15,
 qF 105 2 9,
 qL 106 2 105,
 qM 107 10,
 sN (.store 5 (.t 2) (.t 104)),
 sN (.store 2 (.t 3) (.t 106)),
 qM 4 107,
 qI 5 0]
def aQs:List SO:=[
 qL 109 4 9,
 qL 110 4 1,
 qL 111 5 15,
 qM 112 16,
 sO 113 (.call false 73 [.t 109,.t 110,.t 111,.t 112]),
 qM 108 113,
 qE 114 108 0,
 qE 115 108 1,
 sN (.store 4 (.t 9) (.t 114)),
 qM 14 115]
def aMW:List SO:=[
 sO 118 (.build [.int .i64 0,.int .i64 0,.nilsl,.nilsl,.nilsl] []),
 sO 119 (.build [.int .i64 0,.nilsl] []),
 qM 120 14,
 sN (.store 5 (.t 2) (.t 118)),
 sN (.store 2 (.t 3) (.t 119)),
 qI 4 0,
 qM 5 120]
def aTl:SC:=.block 1 (.seq (.reg aR5) (.seq (.seq (.reg [qM 51 14,qC 52 .neq 51 0]) (.cond (.t 52) (.seq (.reg aM7) (.ret)) (.skip))) (.seq (.reg [qL 56 2 11,qF 57 0 9,sN (.store 2 (.t 57) (.t 56))]) (.seq (.seq (.reg aMS) (.seq (.reg [qM 67 14,qC 68 .neq 67 0]) (.cond (.t 68) (.seq (.reg aPZ) (.ret)) (.skip)))) (.seq (.seq (.reg [qM 72 13,sO 73 (.un .not (.t 72))]) (.cond (.t 73) (.exit 1) (.skip))) (.seq (.reg aPe) (.seq (.seq (.reg [qM 82 14,qC 83 .neq 82 0]) (.cond (.t 83) (.seq (.reg aQw) (.ret)) (.skip))) (.seq (.reg [qM 87 10,qC 88 .add 87 1,qM 10 88]) (.seq (.reg aQ4) (.seq (.seq (.reg [qM 97 14,qC 98 .neq 97 0]) (.cond (.t 98) (.seq (.reg aOl) (.ret)) (.skip))) (.seq (.seq (.reg [qM 102 17,sO 103 (.un .not (.t 102))]) (.cond (.t 103) (.seq (.xreg [(105,2,2,5)] aOn) (.ret)) (.skip))) (.seq (.reg aQs) (.seq (.reg [qM 116 14,qC 117 .neq 116 0]) (.cond (.t 117) (.seq (.reg aMW) (.ret)) (.skip)))))))))))))))
def s43:SF:=⟨121,[.cell 2 true 5,.cell 3 true 2,.tmp 4,.tmp 5],.seq (.reg [sO 1 (.box 24 4 (.t 0)),sO 2 (.alloc 85 [.int .i64 0,.int .i64 0,.nilsl,.nilsl,.nilsl]),sO 3 (.alloc 88 [.int .i64 0,.nilsl]),qI 4 0,qI 5 0]) (.seq (.seq (.reg [qL 18 4 1,sO 19 (.call false 30 [.t 18]),qM 6 19]) (.seq (.reg [qM 20 6,qC 21 .neq 20 0]) (.cond (.t 21) (.seq (.reg aRj) (.ret)) (.skip)))) (.seq (.reg aR6) (.seq (.seq (.reg [qM 31 8,qC 32 .neq 31 0]) (.cond (.t 32) (.seq (.reg aTJ) (.ret)) (.skip))) (.seq (.reg aS3) (.seq (.reg [qI 10 0]) (.block 0 (.loop aTl)))))))⟩
theorem aPv:aL Tryz.prog ⟨[58,129,130,131,149,155,161,182,183,185,191,192,208,209,210,224,228,231,236],[],[],[]⟩ Tryz.f43=some s43:=by kernel_rfl
def aSq:List SO:=[
 qF 28 2 1,
 ql 29 28,
 qM 30 4,
 qM 31 5,
 qA 32 1 30 31,
 ql 33 32,
 qA 34 1 29 33,
 ql 35 34,
 qN 36 35,
 qI 37 0]
def aRy:SC:=.seq (.reg [qP 38 .lss 37 36]) (.seq (.cond (.t 38) (.skip) (.exit 2)) (.seq (.block 3 (.seq (.reg [qA 39 1 35 37,ql 40 39,qM 7 40]) (.seq (.reg [qM 41 3,qM 42 7,qA 43 1 41 42,ql 44 43,sO 45 (.un .not (.t 44))]) (.cond (.t 45) (.seq (.reg [qM 46 3,qM 47 7,qA 48 1 46 47,sN (.store 1 (.t 48) (.c (.bool true)))]) (.reg [qM 49 4,qM 50 7,sO 51 (.bslice 3 1 false [.int .i64 0] 1 [(0,.t 50)]),sO 52 (.append 3 1 8 (.t 49) (.t 51)),qM 4 52])) (.skip))))) (.reg [qC 53 .add 37 1,qM 37 53])))
def aSb:SC:=.seq (.seq (.reg [qM 22 5,qM 23 4,qN 24 23,qP 25 .lss 22 24]) (.cond (.t 25) (.skip) (.exit 0))) (.seq (.block 1 (.seq (.reg aSq) (.block 2 (.loop aRy)))) (.reg [qM 26 5,qC 27 .add 26 1,qM 5 27]))
def s55:SF:=⟨55,[.tmp 2],.seq (.reg [sO 1 (.box 24 4 (.t 0)),sO 2 (.mv (.c (.nilsl)))]) (.seq (.seq (.reg [qL 8 4 1,sO 9 (.call false 30 [.t 8]),qC 10 .neq 9 0]) (.cond (.t 10) (.seq (.reg [sO 2 (.mv (.c (.nilsl)))]) (.ret)) (.skip))) (.seq (.reg [qF 11 2 1,ql 12 11,qN 13 12,sO 14 (.mks 4 1 1 [.bool false] (.t 13) (.t 13)),qM 3 14]) (.seq (.reg [qM 15 3,qF 16 1 1,ql 17 16,qA 18 1 15 17,sN (.store 1 (.t 18) (.c (.bool true)))]) (.seq (.reg [qF 19 1 1,ql 20 19,sO 21 (.bslice 3 1 true [.int .i64 0] 1 [(0,.t 20)]),qM 4 21]) (.seq (.seq (.reg [qI 5 0]) (.block 0 (.loop aSb))) (.seq (.reg [qM 54 4,qM 2 54]) (.ret)))))))⟩
theorem aNE:aL Tryz.prog ⟨[58,129,130,131,149,155,161,182,183,185,191,192,208,209,210,224,228,231,236],[21],[],[]⟩ Tryz.f55=some s55:=by kernel_rfl
def s57:SF:=⟨9,[.tmp 4],.seq (.reg [sO 4 (.mv (.c (.bool false)))]) (.seq (.reg [qM 5 0,qM 6 1,sO 7 (.call false 82 [.t 5,.t 6]),qC 8 .geq 7 0,qM 4 8]) (.ret))⟩
theorem aOL:aL Tryz.prog ⟨[58,129,130,131,149,155,161,182,183,185,191,192,208,209,210,224,228,231,236],[],[],[]⟩ Tryz.f57=some s57:=by kernel_rfl
def aTp:List SO:=[
 qM 15 5,
 qM 16 6,
 qF 17 0 2,
 qF 18 3 17,
 ql 19 18,
 qM 20 1,
 qA 21 1 19 20,
 ql 22 21,
 qF 23 4 2,
 ql 24 23,
 qM 25 6,
 qP 26 .add 24 25,
 qA 27 1 22 26,
 ql 28 27,
 qC 29 .neq 28 0,
 qA 30 1 15 16,
 sN (.store 1 (.t 30) (.t 29))]
def aRh:SC:=.seq (.reg [qP 13 .lss 12 11]) (.seq (.cond (.t 13) (.skip) (.exit 0)) (.seq (.block 1 (.seq (.reg [qM 14 12,qM 6 14]) (.reg aTp))) (.reg [qC 31 .add 12 1,qM 12 31])))
def s58:SF:=⟨33,[.tmp 4],.seq (.reg [sO 2 (.box 68 7 (.t 0)),sO 4 (.mv (.c (.nilsl)))]) (.seq (.reg [qF 7 5 2,ql 8 7,sO 9 (.mks 4 1 1 [.bool false] (.t 8) (.t 8)),qM 5 9]) (.seq (.seq (.reg [qM 10 5,qN 11 10,qI 12 0]) (.block 0 (.loop aRh))) (.seq (.reg [qM 32 5,qM 4 32]) (.ret))))⟩
theorem aN7:aL Tryz.prog ⟨[58,129,130,131,149,155,161,182,183,185,191,192,208,209,210,224,228,231,236],[],[],[]⟩ Tryz.f58=some s58:=by kernel_rfl
def aS2:List SO:=[
 qF 13 0 3,
 qF 14 3 13,
 ql 15 14,
 qM 16 1,
 qA 17 1 15 16,
 ql 18 17,
 qM 19 2,
 qA 20 1 18 19,
 ql 21 20,
 qF 22 0 3,
 qF 23 2 22,
 ql 24 23,
 qM 25 1,
 qA 26 1 24 25,
 ql 27 26,
 qM 28 2,
 qA 29 1 27 28,
 ql 30 29,
 qM 7 21,
 qM 8 30]
def aSQ:List SO:=[
 qM 33 2,
 qF 34 4 3,
 ql 35 34,
 qP 36 .geq 33 35,
 qM 37 36,
 ⟨some (37,true),some 38,.mv (.t 8)⟩,
 ⟨some (37,true),some 39,.mv (.t 1)⟩,
 ⟨some (37,true),some 40,.bin .eql (.t 38) (.t 39)⟩,
 sO 41 (.pick (.t 37) (.t 40) (.c (.bool false))),
 qM 6 41]
def aSD:List SO:=[
 qM 49 9,
 qM 50 2,
 qF 51 4 3,
 ql 52 51,
 qP 53 .sub 50 52,
 qA 54 1 49 53,
 sN (.store 1 (.t 54) (.c (.bool false)))]
def aR4:List SO:=[
 qF 56 6 3,
 qL 57 1 56,
 qM 58 7,
 sO 59 (.call false 33 [.t 57,.t 58]),
 qM 55 59,
 qE 60 55 0,
 qE 61 55 1,
 qM 10 60,
 qM 11 61]
def aNy:List SO:=[
 qF 66 1 12,
 ql 67 66,
 qC 68 .eql 67 0,
 qM 69 68,
 ⟨some (69,true),some 70,.mv (.t 9)⟩,
 ⟨some (69,true),some 71,.fld 0 (.t 12)⟩,
 ⟨some (69,true),some 72,.load false 1 (.t 71)⟩,
 ⟨some (69,true),some 73,.idx 1 (.t 70) (.t 72)⟩,
 ⟨some (69,true),some 74,.load false 1 (.t 73)⟩,
 ⟨some (69,true),some 75,.un .not (.t 74)⟩,
 sO 76 (.pick (.t 69) (.t 75) (.c (.bool false)))]
def aPa:List SO:=[
 qM 77 9,
 qF 78 0 12,
 ql 79 78,
 qF 80 1 12,
 ql 81 80,
 qC 82 .gtr 81 0,
 qA 83 1 77 79,
 sN (.store 1 (.t 83) (.t 82))]
def s59:SF:=⟨89,[.tmp 6],.seq (.reg [sO 3 (.box 68 7 (.t 0)),sO 6 (.mv (.c (.bool false)))]) (.seq (.reg aS2) (.seq (.seq (.reg [qM 31 7,qC 32 .eql 31 0]) (.cond (.t 32) (.seq (.reg aSQ) (.ret)) (.skip))) (.seq (.reg [qL 42 7 3,qM 43 1,sO 44 (.call true 58 [.t 42,.t 43]),qM 9 44]) (.seq (.seq (.reg [qM 45 2,qF 46 4 3,ql 47 46,qP 48 .geq 45 47]) (.cond (.t 48) (.reg aSD) (.skip))) (.seq (.reg aR4) (.seq (.seq (.reg [qM 62 11,qC 63 .gtr 62 0]) (.cond (.t 63) (.seq (.reg [qM 64 11,sO 65 (.call false 34 [.t 64]),sO 12 (.alloc 73 [.int .i64 0,.int .i64 0]),sN (.store 2 (.t 12) (.t 65))]) (.seq (.seq (.reg aNy) (.cond (.t 76) (.seq (.reg [sO 6 (.mv (.c (.bool false)))]) (.ret)) (.skip))) (.reg aPa))) (.skip))) (.seq (.reg [qM 84 9,qL 85 7 3,qM 86 8,sO 87 (.call true 58 [.t 85,.t 86]),sO 88 (.call false 83 [.t 84,.t 87]),qM 6 88]) (.ret))))))))⟩
theorem aO7:aL Tryz.prog ⟨[58,129,130,131,149,155,161,182,183,185,191,192,208,209,210,224,228,231,236],[],[],[]⟩ Tryz.f59=some s59:=by kernel_rfl
def aSU:List SO:=[
 qF 13 3 2,
 ql 14 13,
 qM 15 1,
 qA 16 1 14 15,
 ql 17 16,
 qN 18 17,
 qM 19 5,
 qP 20 .neq 18 19,
 qM 21 20,
 ⟨some (21,false),some 22,.fld 4 (.t 2)⟩,
 ⟨some (21,false),some 23,.load false 1 (.t 22)⟩,
 ⟨some (21,false),some 24,.mv (.t 1)⟩,
 ⟨some (21,false),some 25,.idx 1 (.t 23) (.t 24)⟩,
 ⟨some (21,false),some 26,.load false 1 (.t 25)⟩,
 ⟨some (21,false),some 27,.len (.t 26)⟩,
 ⟨some (21,false),some 28,.mv (.t 5)⟩,
 ⟨some (21,false),some 29,.bin .neq (.t 27) (.t 28)⟩,
 sO 30 (.pick (.t 21) (.c (.bool true)) (.t 29)),
 qM 31 30,
 ⟨some (31,false),some 32,.fld 5 (.t 2)⟩,
 ⟨some (31,false),some 33,.load false 1 (.t 32)⟩,
 ⟨some (31,false),some 34,.mv (.t 1)⟩,
 ⟨some (31,false),some 35,.idx 1 (.t 33) (.t 34)⟩,
 ⟨some (31,false),some 36,.load false 1 (.t 35)⟩,
 ⟨some (31,false),some 37,.len (.t 36)⟩,
 ⟨some (31,false),some 38,.mv (.t 5)⟩,
 ⟨some (31,false),some 39,.bin .neq (.t 37) (.t 38)⟩,
 sO 40 (.pick (.t 31) (.c (.bool true)) (.t 39))]
def aTj:List SO:=[
 qF 45 5 2,
 ql 46 45,
 qM 47 1,
 qA 48 1 46 47,
 ql 49 48,
 qM 50 6,
 qA 51 2 49 50,
 qL 52 2 51,
 sO 7 (.alloc 73 [.int .i64 0,.int .i64 0]),
 sN (.store 2 (.t 7) (.t 52))]
def aSn:List SO:=[
 qF 54 3 2,
 ql 55 54,
 qM 56 1,
 qA 57 1 55 56,
 ql 58 57,
 qM 59 6,
 qA 60 1 58 59,
 ql 61 60,
 qC 62 .lss 61 0,
 qM 63 62,
 ⟨some (63,false),some 64,.fld 3 (.t 2)⟩,
 ⟨some (63,false),some 65,.load false 1 (.t 64)⟩,
 ⟨some (63,false),some 66,.mv (.t 1)⟩,
 ⟨some (63,false),some 67,.idx 1 (.t 65) (.t 66)⟩,
 ⟨some (63,false),some 68,.load false 1 (.t 67)⟩,
 ⟨some (63,false),some 69,.mv (.t 6)⟩,
 ⟨some (63,false),some 70,.idx 1 (.t 68) (.t 69)⟩,
 ⟨some (63,false),some 71,.load false 1 (.t 70)⟩,
 ⟨some (63,false),some 72,.fld 3 (.t 2)⟩,
 ⟨some (63,false),some 73,.load false 1 (.t 72)⟩,
 ⟨some (63,false),some 74,.len (.t 73)⟩,
 ⟨some (63,false),some 75,.bin .geq (.t 71) (.t 74)⟩,
 sO 76 (.pick (.t 63) (.c (.bool true)) (.t 75)),
 qM 77 76,
 ⟨some (77,false),some 78,.fld 4 (.t 2)⟩,
 ⟨some (77,false),some 79,.load false 1 (.t 78)⟩,
 ⟨some (77,false),some 80,.mv (.t 1)⟩,
 ⟨some (77,false),some 81,.idx 1 (.t 79) (.t 80)⟩,
 ⟨some (77,false),some 82,.load false 1 (.t 81)⟩,
 ⟨some (77,false),some 83,.mv (.t 6)⟩,
 ⟨some (77,false),some 84,.idx 1 (.t 82) (.t 83)⟩,
 ⟨some (77,false),some 85,.load false 1 (.t 84)⟩,
 ⟨some (77,false),some 86,.bin .lss (.t 85) (.c (.int .i64 0))⟩,
 sO 87 (.pick (.t 77) (.c (.bool true)) (.t 86)),
 qM 88 87,
 ⟨some (88,false),some 89,.fld 4 (.t 2)⟩,
 ⟨some (88,false),some 90,.load false 1 (.t 89)⟩,
 ⟨some (88,false),some 91,.mv (.t 1)⟩,
 ⟨some (88,false),some 92,.idx 1 (.t 90) (.t 91)⟩,
 ⟨some (88,false),some 93,.load false 1 (.t 92)⟩,
 ⟨some (88,false),some 94,.mv (.t 6)⟩,
 ⟨some (88,false),some 95,.idx 1 (.t 93) (.t 94)⟩,
 ⟨some (88,false),some 96,.load false 1 (.t 95)⟩,
 ⟨some (88,false),some 97,.bin .gtr (.t 96) (.c (.int .i64 1048576))⟩,
 sO 98 (.pick (.t 88) (.c (.bool true)) (.t 97)),
 qM 53 98]
def aNf:List SO:=[
 qF 100 0 7,
 ql 101 100,
 sO 102 (.bin .lss (.t 101) (.c (.int .i64 (-1)))),
 qM 103 102,
 ⟨some (103,false),some 104,.fld 0 (.t 7)⟩,
 ⟨some (103,false),some 105,.load false 1 (.t 104)⟩,
 ⟨some (103,false),some 106,.fld 1 (.t 2)⟩,
 ⟨some (103,false),some 107,.load false 1 (.t 106)⟩,
 ⟨some (103,false),some 108,.bin .geq (.t 105) (.t 107)⟩,
 sO 109 (.pick (.t 103) (.c (.bool true)) (.t 108)),
 qM 110 109,
 ⟨some (110,false),some 111,.fld 1 (.t 7)⟩,
 ⟨some (110,false),some 112,.load false 1 (.t 111)⟩,
 ⟨some (110,false),some 113,.bin .lss (.t 112) (.c (.int .i64 0))⟩,
 sO 114 (.pick (.t 110) (.c (.bool true)) (.t 113)),
 qM 115 114,
 ⟨some (115,false),some 116,.fld 1 (.t 7)⟩,
 ⟨some (115,false),some 117,.load false 1 (.t 116)⟩,
 ⟨some (115,false),some 118,.bin .gtr (.t 117) (.c (.int .i64 1000))⟩,
 sO 119 (.pick (.t 115) (.c (.bool true)) (.t 118)),
 qM 99 119]
def aQZ:List SO:=[
 qF 121 0 7,
 ql 122 121,
 sO 123 (.bin .eql (.t 122) (.c (.int .i64 (-1)))),
 qM 124 123,
 ⟨some (124,true),some 125,.fld 1 (.t 7)⟩,
 ⟨some (124,true),some 126,.load false 1 (.t 125)⟩,
 ⟨some (124,true),some 127,.bin .neq (.t 126) (.c (.int .i64 0))⟩,
 sO 128 (.pick (.t 124) (.t 127) (.c (.bool false))),
 qM 120 128]
def aKS:SC:=.seq (.reg [qP 43 .lss 42 41]) (.seq (.cond (.t 43) (.skip) (.exit 0)) (.seq (.block 1 (.seq (.reg [qM 44 42,qM 6 44]) (.seq (.reg aTj) (.block 2 (.seq (.reg aSn) (.cond (.t 53) (.seq (.reg [qI 4 2]) (.ret)) (.seq (.reg aNf) (.cond (.t 99) (.seq (.reg [qI 4 2]) (.ret)) (.seq (.reg aQZ) (.cond (.t 120) (.seq (.reg [qI 4 1]) (.ret)) (.skip))))))))))) (.reg [qC 129 .add 42 1,qM 42 129])))
def s63:SF:=⟨130,[.tmp 4],.seq (.reg [sO 2 (.box 29 6 (.t 0)),qI 4 0]) (.seq (.reg [qF 8 0 2,ql 9 8,qF 10 1 2,ql 11 10,qP 12 .add 9 11,qM 5 12]) (.seq (.seq (.reg aSU) (.cond (.t 40) (.seq (.reg [qI 4 1]) (.ret)) (.skip))) (.seq (.seq (.reg [qM 41 5,qI 42 0]) (.block 0 (.loop aKS))) (.seq (.reg [qI 4 0]) (.ret)))))⟩
theorem aFR:aL Tryz.prog ⟨[58,129,130,131,149,155,161,182,183,185,191,192,208,209,210,224,228,231,236],[],[],[]⟩ Tryz.f63=some s63:=by kernel_rfl
def aSH:List SO:=[
 qF 12 3 3,
 ql 13 12,
 qF 14 0 4,
 ql 15 14,
 qA 16 1 13 15,
 ql 17 16,
 qM 18 2,
 qA 19 1 17 18,
 ql 20 19,
 qF 21 1 4,
 qL 22 4 21,
 sO 23 (.build [.int .i64 0,.bool false,.bool false,.bool false,.bool false] [(0,1,.t 20),(1,4,.t 22)]),
 sO 9 (.alloc 127 [.int .i64 0,.bool false,.bool false,.bool false,.bool false]),
 sN (.store 5 (.t 9) (.t 23))]
def aTE:List SO:=[
 qF 41 5 3,
 ql 42 41,
 qF 43 0 4,
 ql 44 43,
 qA 45 1 42 44,
 ql 46 45,
 qM 47 2,
 qA 48 2 46 47,
 qL 49 2 48,
 sO 11 (.alloc 73 [.int .i64 0,.int .i64 0]),
 sN (.store 2 (.t 11) (.t 49))]
def aTO:List SO:=[
 qF 50 0 11,
 ql 51 50,
 qC 52 .lss 51 0,
 qM 53 52,
 ⟨some (53,false),some 54,.fld 1 (.t 11)⟩,
 ⟨some (53,false),some 55,.load false 1 (.t 54)⟩,
 ⟨some (53,false),some 56,.bin .eql (.t 55) (.c (.int .i64 0))⟩,
 ⟨some (53,false),some 57,.mv (.t 56)⟩,
 ⟨some (57,true),some 58,.fld 0 (.t 11)⟩,
 ⟨some (57,true),some 59,.load false 1 (.t 58)⟩,
 ⟨some (57,true),some 60,.fld 1 (.t 9)⟩,
 ⟨some (57,true),some 61,.apos 1 4 (.t 60) (.t 59)⟩,
 ⟨some (57,true),some 62,.load false 1 (.t 61)⟩,
 ⟨some (57,true),some 63,.un .not (.t 62)⟩,
 ⟨some (53,false),some 64,.pick (.t 57) (.t 63) (.c (.bool false))⟩,
 sO 65 (.pick (.t 53) (.c (.bool true)) (.t 64))]
def aPh:List SO:=[
 qF 67 0 11,
 ql 68 67,
 qF 69 1 11,
 ql 70 69,
 qC 71 .gtr 70 0,
 qF 72 1 9,
 sO 73 (.apos 1 4 (.t 72) (.t 68)),
 sN (.store 1 (.t 73) (.t 71))]
def aFL:List SO:=[
 qL 74 5 9,
 qF 75 0 11,
 ql 76 75,
 qC 77 .mul 76 1001,
 qF 78 1 11,
 ql 79 78,
 qP 80 .add 77 79,
 sN (.store 5 (.t 6) (.t 74)),
 qM 7 80,
 sO 8 (.mv (.c (.bool true)))]
def s64:SF:=⟨81,[.cell 6 true 5,.tmp 7,.tmp 8],.seq (.reg [sO 3 (.box 29 6 (.t 0)),sO 4 (.box 127 5 (.t 1)),sO 6 (.alloc 127 [.int .i64 0,.bool false,.bool false,.bool false,.bool false]),qI 7 0,sO 8 (.mv (.c (.bool false)))]) (.seq (.dreg [9] aSH) (.seq (.seq (.reg [qM 24 2,qF 25 0 3,ql 26 25,qP 27 .geq 24 26]) (.cond (.t 27) (.seq (.reg [qM 28 2,qF 29 0 3,ql 30 29,qP 31 .sub 28 30,qM 10 31]) (.seq (.seq (.reg [qM 32 10,qF 33 1 4,sO 34 (.apos 1 4 (.t 33) (.t 32)),ql 35 34,sO 36 (.un .not (.t 35))]) (.cond (.t 36) (.seq (.reg [qL 37 5 4,sN (.store 5 (.t 6) (.t 37)),sO 7 (.mv (.c (.int .i64 (-1)))),sO 8 (.mv (.c (.bool false)))]) (.ret)) (.skip))) (.reg [qM 38 10,qF 39 1 9,sO 40 (.apos 1 4 (.t 39) (.t 38)),sN (.store 1 (.t 40) (.c (.bool false)))]))) (.skip))) (.seq (.reg aTE) (.seq (.seq (.reg aTO) (.cond (.t 65) (.seq (.reg [qL 66 5 9,sN (.store 5 (.t 6) (.t 66)),sO 7 (.mv (.c (.int .i64 (-1)))),sO 8 (.mv (.c (.bool true)))]) (.ret)) (.skip))) (.seq (.reg aPh) (.seq (.xreg [(75,1,6,5),(78,1,6,5)] aFL) (.ret)))))))⟩
theorem aHn:aL Tryz.prog ⟨[58,129,130,131,149,155,161,182,183,185,191,192,208,209,210,224,228,231,236],[],[],[]⟩ Tryz.f64=some s64:=by kernel_rfl
def aLq:SC:=.seq (.reg [qC 12 .lss 11 2]) (.seq (.cond (.t 12) (.skip) (.exit 0)) (.seq (.block 1 (.seq (.reg [sO 13 (.aidx true 4 2 (.t 10) (.t 11)),sO 6 (.alloc 24 [.int .i64 0,.int .i64 0,.nilsl,.nilsl]),sN (.store 4 (.t 6) (.t 13))]) (.seq (.reg [qL 14 4 6,sO 15 (.call false 30 [.t 14]),qM 7 15]) (.seq (.reg [qM 16 7,qC 17 .neq 16 0]) (.cond (.t 17) (.seq (.reg [qM 18 7,qM 4 18]) (.ret)) (.skip)))))) (.reg [qC 19 .add 11 1,qM 11 19])))
def s65:SF:=⟨25,[.tmp 4],.seq (.reg [sO 2 (.box 24 4 (.t 0)),sO 3 (.box 24 4 (.t 1)),qI 4 0]) (.seq (.seq (.reg [qL 8 4 2,qL 9 4 3,sO 10 (.build [.int .i64 0,.int .i64 0,.nilsl,.nilsl,.int .i64 0,.int .i64 0,.nilsl,.nilsl] [(0,4,.t 8),(4,4,.t 9)]),qI 11 0]) (.block 0 (.loop aLq))) (.seq (.seq (.reg [qF 20 0 2,ql 21 20,qF 22 0 3,ql 23 22,qP 24 .neq 21 23]) (.cond (.t 24) (.seq (.reg [qI 4 15]) (.ret)) (.skip))) (.seq (.reg [qI 4 0]) (.ret))))⟩
theorem aFZ:aL Tryz.prog ⟨[58,129,130,131,149,155,161,182,183,185,191,192,208,209,210,224,228,231,236],[],[],[]⟩ Tryz.f65=some s65:=by kernel_rfl
def aSX:List SO:=[
 qM 24 8,
 qM 25 9,
 qF 26 2 4,
 ql 27 26,
 qN 28 27,
 sO 29 (.mks 4 1 1 [.bool false] (.t 28) (.t 28)),
 qA 30 1 24 25,
 sN (.store 1 (.t 30) (.t 29))]
def aLH:SC:=.seq (.reg [qP 22 .lss 21 20]) (.seq (.cond (.t 22) (.skip) (.exit 0)) (.seq (.block 1 (.seq (.reg [qM 23 21,qM 9 23]) (.reg aSX))) (.reg [qC 31 .add 21 1,qM 21 31])))
def aTw:List SO:=[
 qM 32 8,
 qF 33 0 5,
 ql 34 33,
 qA 35 1 32 34,
 ql 36 35,
 qF 37 1 5,
 ql 38 37,
 qA 39 1 36 38,
 sN (.store 1 (.t 39) (.c (.bool true)))]
def aMb:List SO:=[
 qM 49 10,
 qM 50 11,
 qA 51 3 49 50,
 qF 52 0 51,
 qL 53 2 52,
 sO 12 (.alloc 137 [.int .i64 0,.int .i64 0]),
 sN (.store 2 (.t 12) (.t 53))]
def aOH:List SO:=[
 qF 59 3 3,
 ql 60 59,
 qF 61 0 12,
 ql 62 61,
 qA 63 1 60 62,
 ql 64 63,
 qM 65 13,
 qA 66 1 64 65,
 ql 67 66,
 qF 68 3 4,
 ql 69 68,
 qF 70 1 12,
 ql 71 70,
 qA 72 1 69 71,
 ql 73 72,
 qM 74 13,
 qA 75 1 73 74,
 ql 76 75,
 qP 77 .neq 67 76]
def aOp:List SO:=[
 qM 78 10,
 qM 79 11,
 qA 80 3 78 79,
 qF 81 2 80,
 ql 82 81,
 qM 83 13,
 sO 84 (.bslice 3 1 false [.int .i64 0] 1 [(0,.t 83)]),
 sO 85 (.bslice 38 1 false [.nilsl] 2 [(0,.t 82),(1,.t 84)]),
 sO 86 (.call false 84 [.t 85]),
 qM 6 86,
 sO 7 (.mv (.c (.bool true)))]
def aQ3:List SO:=[
 qF 87 2 3,
 ql 88 87,
 qF 89 0 12,
 ql 90 89,
 qA 91 1 88 90,
 ql 92 91,
 qM 93 13,
 qA 94 1 92 93,
 ql 95 94,
 qF 96 2 4,
 ql 97 96,
 qF 98 1 12,
 ql 99 98,
 qA 100 1 97 99,
 ql 101 100,
 qM 102 13,
 qA 103 1 101 102,
 ql 104 103,
 sO 105 (.build [.int .i64 0,.int .i64 0] [(0,1,.t 95),(1,1,.t 104)]),
 sO 14 (.alloc 137 [.int .i64 0,.int .i64 0]),
 sN (.store 2 (.t 14) (.t 105))]
def aNn:List SO:=[
 qL 106 2 14,
 qL 107 2 12,
 sO 108 (.abin true [0,0] (.t 106) (.t 107)),
 qM 109 108,
 ⟨some (109,true),some 110,.mv (.t 8)⟩,
 ⟨some (109,true),some 111,.fld 0 (.t 14)⟩,
 ⟨some (109,true),some 112,.load false 1 (.t 111)⟩,
 ⟨some (109,true),some 113,.idx 1 (.t 110) (.t 112)⟩,
 ⟨some (109,true),some 114,.load false 1 (.t 113)⟩,
 ⟨some (109,true),some 115,.fld 1 (.t 14)⟩,
 ⟨some (109,true),some 116,.load false 1 (.t 115)⟩,
 ⟨some (109,true),some 117,.idx 1 (.t 114) (.t 116)⟩,
 ⟨some (109,true),some 118,.load false 1 (.t 117)⟩,
 ⟨some (109,true),some 119,.un .not (.t 118)⟩,
 sO 120 (.pick (.t 109) (.t 119) (.c (.bool false)))]
def aPf:List SO:=[
 qM 121 8,
 qF 122 0 14,
 ql 123 122,
 qA 124 1 121 123,
 ql 125 124,
 qF 126 1 14,
 ql 127 126,
 qA 128 1 125 127,
 sN (.store 1 (.t 128) (.c (.bool true)))]
def aLV:List SO:=[
 qM 129 10,
 qL 130 2 14,
 qM 131 10,
 qM 132 11,
 qA 133 3 131 132,
 qF 134 2 133,
 ql 135 134,
 qM 136 13,
 sO 137 (.bslice 3 1 false [.int .i64 0] 1 [(0,.t 136)]),
 sO 138 (.bslice 38 1 false [.nilsl] 2 [(0,.t 135),(1,.t 137)]),
 sO 139 (.call false 84 [.t 138]),
 sO 140 (.build [.int .i64 0,.int .i64 0,.nilsl] [(0,2,.t 130),(2,1,.t 139)]),
 sO 141 (.bslice 174 3 false [.int .i64 0,.int .i64 0,.nilsl] 1 [(0,.t 140)]),
 sO 142 (.append 174 3 40 (.t 129) (.t 141)),
 qM 10 142]
def aLL:SC:=.seq (.reg [qP 57 .lss 56 55]) (.seq (.cond (.t 57) (.skip) (.exit 4)) (.seq (.block 5 (.seq (.reg [qM 58 56,qM 13 58]) (.seq (.seq (.reg aOH) (.cond (.t 77) (.seq (.reg aOp) (.ret)) (.skip))) (.seq (.dreg [14] aQ3) (.seq (.reg aNn) (.cond (.t 120) (.seq (.reg aPf) (.reg aLV)) (.skip))))))) (.reg [qC 143 .add 56 1,qM 56 143])))
def aLo:SC:=.seq (.seq (.reg [qM 43 11,qM 44 10,qN 45 44,qP 46 .lss 43 45]) (.cond (.t 46) (.skip) (.exit 2))) (.seq (.block 3 (.seq (.reg aMb) (.seq (.reg [qF 54 0 3,ql 55 54,qI 56 0]) (.block 4 (.loop aLL))))) (.reg [qM 47 11,qC 48 .add 47 1,qM 11 48]))
def s66:SF:=⟨144,[.tmp 6,.tmp 7],.seq (.reg [sO 3 (.box 24 4 (.t 0)),sO 4 (.box 24 4 (.t 1)),sO 5 (.box 137 2 (.t 2)),sO 6 (.mv (.c (.nilsl))),sO 7 (.mv (.c (.bool false)))]) (.seq (.reg [qF 15 2 3,ql 16 15,qN 17 16,sO 18 (.mks 93 1 24 [.nilsl] (.t 17) (.t 17)),qM 8 18]) (.seq (.seq (.reg [qM 19 8,qN 20 19,qI 21 0]) (.block 0 (.loop aLH))) (.seq (.reg aTw) (.seq (.reg [qL 40 2 5,sO 41 (.build [.int .i64 0,.int .i64 0,.nilsl] [(0,2,.t 40)]),sO 42 (.bslice 174 3 true [.int .i64 0,.int .i64 0,.nilsl] 1 [(0,.t 41)]),qM 10 42]) (.seq (.seq (.reg [qI 11 0]) (.block 2 (.loop aLo))) (.seq (.reg [sO 6 (.mv (.c (.nilsl))),sO 7 (.mv (.c (.bool false)))]) (.ret)))))))⟩
theorem aHV:aL Tryz.prog ⟨[58,129,130,131,149,155,161,182,183,185,191,192,208,209,210,224,228,231,236],[42],[],[]⟩ Tryz.f66=some s66:=by kernel_rfl
def s69:SF:=⟨14,[.cell 2 true 2,.tmp 3],.seq (.reg [sO 2 (.alloc 144 [.int .i64 0,.nilsl]),qI 3 0]) (.seq (.seq (.reg [qM 4 0,qC 5 .lss 4 1,qM 6 5,⟨some (6,false),some 7,.mv (.t 0)⟩,⟨some (6,false),some 8,.bin .gtr (.t 7) (.c (.int .i64 64))⟩,sO 9 (.pick (.t 6) (.c (.bool true)) (.t 8))]) (.cond (.t 9) (.seq (.reg [sO 10 (.build [.int .i64 0,.nilsl] []),sN (.store 2 (.t 2) (.t 10)),qI 3 2]) (.ret)) (.skip))) (.seq (.reg [qM 11 0,sO 12 (.call false 86 []),sO 13 (.build [.int .i64 0,.nilsl] [(0,1,.t 11),(1,1,.t 12)]),sN (.store 2 (.t 2) (.t 13)),qI 3 0]) (.ret)))⟩
theorem aOe:aL Tryz.prog ⟨[58,129,130,131,149,155,161,182,183,185,191,192,208,209,210,224,228,231,236],[],[],[]⟩ Tryz.f69=some s69:=by kernel_rfl
def aRT:List SO:=[
 qL 27 4 8,
 sO 28 (.call false 88 [.t 27]),
 qM 26 28,
 qE 29 26 0,
 qE 30 26 1,
 qE 31 26 2,
 qM 10 29,
 qM 11 30,
 qM 12 31]
def aP6:List SO:=[
 qF 58 1 2,
 qL 59 1 58,
 qF 60 1 14,
 ql 61 60,
 qL 62 4 8,
 qF 63 0 14,
 ql 64 63,
 qF 65 1 2,
 qF 66 0 65,
 ql 67 66,
 qF 68 1 14,
 ql 69 68,
 qA 70 5 67 69,
 qF 71 2 70,
 ql 72 71,
 sO 73 (.call false 92 [.t 62,.t 64,.t 72]),
 qF 74 0 14,
 ql 75 74,
 sO 76 (.call false 91 [.t 59,.t 61,.t 73,.t 75]),
 qM 57 76,
 qE 77 57 0,
 qE 78 57 1,
 sO 15 (.alloc 142 [.nilsl]),
 sN (.store 1 (.t 15) (.t 77)),
 qM 16 78]
def aNi:List SO:=[
 qF 83 0 2,
 ql 84 83,
 qL 85 1 15,
 sO 86 (.build [.int .i64 0,.nilsl] [(0,1,.t 84),(1,1,.t 85)]),
 sN (.store 2 (.t 4) (.t 86)),
 sO 5 (.mv (.c (.nilsl))),
 sO 6 (.mv (.c (.bool false))),
 qI 7 0]
def aRv:SC:=.seq (.reg [qP 44 .lss 43 42]) (.seq (.cond (.t 44) (.skip) (.exit 0)) (.seq (.block 1 (.seq (.reg [qA 45 2 41 43,qL 46 2 45,sO 14 (.alloc 187 [.nilsl,.int .i64 0]),sN (.store 2 (.t 14) (.t 46))]) (.seq (.seq (.reg [qL 47 4 8,qF 48 1 14,ql 49 48,sO 50 (.call false 89 [.t 47,.t 49])]) (.cond (.t 50) (.exit 1) (.skip))) (.seq (.seq (.reg [qF 51 1 2,qL 52 1 51,sO 53 (.call false 90 [.t 52]),qN 54 53,qC 55 .geq 54 128]) (.cond (.t 55) (.seq (.reg [qL 56 2 2,sN (.store 2 (.t 4) (.t 56)),sO 5 (.mv (.c (.nilsl))),sO 6 (.mv (.c (.bool false))),qI 7 11]) (.ret)) (.skip))) (.seq (.dreg [15] aP6) (.seq (.seq (.reg [qM 79 16,qC 80 .neq 79 0]) (.cond (.t 80) (.seq (.reg [qL 81 2 2,qM 82 16,sN (.store 2 (.t 4) (.t 81)),sO 5 (.mv (.c (.nilsl))),sO 6 (.mv (.c (.bool false))),qM 7 82]) (.ret)) (.skip))) (.seq (.reg aNi) (.ret)))))))) (.reg [qC 87 .add 43 1,qM 43 87])))
def s70:SF:=⟨89,[.cell 4 true 2,.tmp 5,.tmp 6,.tmp 7],.seq (.reg [sO 2 (.box 144 2 (.t 0)),sO 3 (.box 88 2 (.t 1)),sO 4 (.alloc 144 [.int .i64 0,.nilsl]),sO 5 (.mv (.c (.nilsl))),sO 6 (.mv (.c (.bool false))),qI 7 0]) (.seq (.reg [qL 17 2 2,qL 18 2 3,sO 19 (.build [.int .i64 0,.nilsl,.int .i64 0,.nilsl] [(0,2,.t 17),(2,2,.t 18)]),sO 8 (.alloc 148 [.int .i64 0,.nilsl,.int .i64 0,.nilsl]),sN (.store 4 (.t 8) (.t 19))]) (.seq (.seq (.reg [qL 20 4 8,sO 21 (.call false 87 [.t 20]),qM 9 21]) (.seq (.reg [qM 22 9,qC 23 .neq 22 0]) (.cond (.t 23) (.seq (.reg [qL 24 2 2,qM 25 9,sN (.store 2 (.t 4) (.t 24)),sO 5 (.mv (.c (.nilsl))),sO 6 (.mv (.c (.bool false))),qM 7 25]) (.ret)) (.skip)))) (.seq (.reg aRT) (.seq (.seq (.reg [qM 32 12,qC 33 .neq 32 0]) (.cond (.t 33) (.seq (.reg [qL 34 2 2,qM 35 12,sN (.store 2 (.t 4) (.t 34)),sO 5 (.mv (.c (.nilsl))),sO 6 (.mv (.c (.bool false))),qM 7 35]) (.ret)) (.skip))) (.seq (.seq (.reg [qM 36 11,qN 37 36,qC 38 .gtr 37 0]) (.cond (.t 38) (.seq (.reg [qL 39 2 2,qM 40 11,sN (.store 2 (.t 4) (.t 39)),qM 5 40,sO 6 (.mv (.c (.bool false))),qI 7 0]) (.ret)) (.skip))) (.seq (.seq (.reg [qM 41 10,qN 42 41,qI 43 0]) (.block 0 (.loop aRv))) (.seq (.reg [qL 88 2 2,sN (.store 2 (.t 4) (.t 88)),sO 5 (.mv (.c (.nilsl))),sO 6 (.mv (.c (.bool true))),qI 7 0]) (.ret))))))))⟩
theorem aPL:aL Tryz.prog ⟨[58,129,130,131,149,155,161,182,183,185,191,192,208,209,210,224,228,231,236],[],[],[]⟩ Tryz.f70=some s70:=by kernel_rfl
def aTN:List SO:=[
 qL 19 4 3,
 qM 20 9,
 sO 21 (.call false 93 [.t 19,.t 20]),
 qM 18 21,
 qE 22 18 0,
 qE 23 18 1,
 qM 10 22,
 qM 11 23]
def aS8:List SO:=[
 qL 29 2 4,
 qM 30 9,
 qM 31 10,
 sO 32 (.build [.nilsl,.nilsl] [(0,1,.t 30),(1,1,.t 31)]),
 sO 33 (.call false 94 [.t 29,.t 32]),
 qM 28 33,
 qE 34 28 0,
 qE 35 28 1,
 sN (.store 2 (.t 4) (.t 34)),
 qM 11 35]
def aRW:SC:=.seq (.reg [qP 15 .lss 14 13]) (.seq (.cond (.t 15) (.skip) (.exit 0)) (.seq (.block 1 (.seq (.reg [qA 16 1 12 14,ql 17 16,qM 9 17]) (.seq (.reg aTN) (.seq (.seq (.reg [qM 24 11,qC 25 .neq 24 0]) (.cond (.t 25) (.seq (.reg [qL 26 2 4,qM 27 11,sN (.store 2 (.t 6) (.t 26)),qM 7 27]) (.ret)) (.skip))) (.seq (.reg aS8) (.seq (.reg [qM 36 11,qC 37 .neq 36 0]) (.cond (.t 37) (.seq (.reg [qL 38 2 4,qM 39 11,sN (.store 2 (.t 6) (.t 38)),qM 7 39]) (.ret)) (.skip)))))))) (.reg [qC 40 .add 14 1,qM 14 40])))
def s71:SF:=⟨42,[.cell 6 true 2,.tmp 7],.seq (.reg [sO 3 (.box 24 4 (.t 0)),sO 4 (.box 88 2 (.t 1)),sO 6 (.alloc 88 [.int .i64 0,.nilsl]),qI 7 0]) (.seq (.seq (.reg [qM 12 2,qN 13 12,qI 14 0]) (.block 0 (.loop aRW))) (.seq (.reg [qL 41 2 4,sN (.store 2 (.t 6) (.t 41)),qI 7 0]) (.ret)))⟩
theorem aP4:aL Tryz.prog ⟨[58,129,130,131,149,155,161,182,183,185,191,192,208,209,210,224,228,231,236],[],[],[]⟩ Tryz.f71=some s71:=by kernel_rfl
def aTs:List SO:=[
 qL 29 4 6,
 sO 30 (.call false 88 [.t 29]),
 qM 28 30,
 qE 31 28 0,
 qE 32 28 1,
 qE 33 28 2,
 qM 8 31,
 qM 9 32,
 qM 10 33]
def aOU:List SO:=[
 qF 45 0 2,
 ql 46 45,
 sO 47 (.build [.int .i64 0,.int .i64 0,.nilsl,.nilsl] [(0,1,.t 46)]),
 qM 48 11,
 sO 49 (.build [.int .i64 0,.int .i64 0,.nilsl,.nilsl,.nilsl] [(0,4,.t 47),(4,1,.t 48)]),
 sO 12 (.alloc 85 [.int .i64 0,.int .i64 0,.nilsl,.nilsl,.nilsl]),
 sN (.store 5 (.t 12) (.t 49))]
def aQN:List SO:=[
 qM 55 8,
 qM 56 13,
 qF 57 0 2,
 ql 58 57,
 qP 59 .mul 56 58,
 qM 60 13,
 qC 61 .add 60 1,
 qF 62 0 2,
 ql 63 62,
 qP 64 .mul 61 63,
 sO 65 (.slice 2 (.t 55) (some (.t 59)) (some (.t 64))),
 qN 66 65,
 qI 67 0]
def aQ2:List SO:=[
 qF 77 1 2,
 qF 78 0 77,
 ql 79 78,
 qF 80 1 17,
 ql 81 80,
 qA 82 5 79 81,
 qF 83 1 82,
 ql 84 83,
 sO 18 (.alloc 38 [.nilsl]),
 sN (.store 1 (.t 18) (.t 84))]
def aNo:List SO:=[
 qM 85 14,
 qM 86 11,
 sO 87 (.mkf 96 [.t 18]),
 sO 88 (.call false 95 [.t 86,.t 87]),
 sO 89 (.bslice 3 1 false [.int .i64 0] 1 [(0,.t 88)]),
 sO 90 (.append 3 1 8 (.t 85) (.t 89)),
 qM 14 90]
def aPD:List SO:=[
 qM 91 15,
 qL 92 4 6,
 qF 93 0 17,
 ql 94 93,
 qF 95 0 17,
 ql 96 95,
 qN 97 96,
 qC 98 .sub 97 1,
 sO 99 (.slice 1 (.t 94) none (some (.t 98))),
 qF 100 0 17,
 ql 101 100,
 qF 102 0 17,
 ql 103 102,
 qN 104 103,
 qC 105 .sub 104 1,
 sO 106 (.slice 1 (.t 101) (some (.t 105)) none),
 sO 107 (.call false 92 [.t 92,.t 99,.t 106]),
 sO 108 (.append 3 1 8 (.t 91) (.t 107)),
 qM 15 108]
def aRC:SC:=.seq (.reg [qP 68 .lss 67 66]) (.seq (.cond (.t 68) (.skip) (.exit 2)) (.seq (.block 3 (.seq (.reg [qA 69 2 65 67,qL 70 2 69,sO 17 (.alloc 187 [.nilsl,.int .i64 0]),sN (.store 2 (.t 17) (.t 70))]) (.seq (.seq (.reg [qL 71 4 6,qF 72 1 17,ql 73 72,sO 74 (.call false 89 [.t 71,.t 73]),sO 75 (.un .not (.t 74))]) (.cond (.t 75) (.seq (.reg [sO 76 (.build [.int .i64 0,.int .i64 0,.nilsl,.nilsl,.nilsl] []),sN (.store 5 (.t 4) (.t 76)),qI 5 10]) (.ret)) (.skip))) (.seq (.reg aQ2) (.seq (.reg aNo) (.reg aPD)))))) (.reg [qC 109 .add 67 1,qM 67 109])))
def aNp:List SO:=[
 qF 110 0 12,
 qF 111 2 110,
 ql 112 111,
 qM 113 14,
 sO 114 (.bslice 38 1 false [.nilsl] 1 [(0,.t 113)]),
 sO 115 (.append 38 1 24 (.t 112) (.t 114)),
 qF 116 0 12,
 qF 117 2 116,
 sN (.store 1 (.t 117) (.t 115))]
def aMY:List SO:=[
 qF 118 0 12,
 qF 119 3 118,
 ql 120 119,
 qM 121 15,
 sO 122 (.bslice 38 1 false [.nilsl] 1 [(0,.t 121)]),
 sO 123 (.append 38 1 24 (.t 120) (.t 122)),
 qF 124 0 12,
 qF 125 3 124,
 sN (.store 1 (.t 125) (.t 123))]
def aSE:SC:=.seq (.reg [qP 53 .lss 52 51]) (.seq (.cond (.t 53) (.skip) (.exit 0)) (.seq (.block 1 (.seq (.reg [qM 54 52,qM 13 54]) (.seq (.reg [sO 14 (.lazy 3 1),sO 15 (.lazy 3 1)]) (.seq (.seq (.reg aQN) (.block 2 (.loop aRC))) (.seq (.reg aNp) (.reg aMY)))))) (.reg [qC 126 .add 52 1,qM 52 126])))
def s72:SF:=⟨132,[.cell 4 true 5,.tmp 5],.seq (.reg [sO 2 (.box 144 2 (.t 0)),sO 3 (.box 88 2 (.t 1)),sO 4 (.alloc 85 [.int .i64 0,.int .i64 0,.nilsl,.nilsl,.nilsl]),qI 5 0]) (.seq (.reg [qL 19 2 2,qL 20 2 3,sO 21 (.build [.int .i64 0,.nilsl,.int .i64 0,.nilsl] [(0,2,.t 19),(2,2,.t 20)]),sO 6 (.alloc 148 [.int .i64 0,.nilsl,.int .i64 0,.nilsl]),sN (.store 4 (.t 6) (.t 21))]) (.seq (.seq (.reg [qL 22 4 6,sO 23 (.call false 87 [.t 22]),qM 7 23]) (.seq (.reg [qM 24 7,qC 25 .neq 24 0]) (.cond (.t 25) (.seq (.reg [sO 26 (.build [.int .i64 0,.int .i64 0,.nilsl,.nilsl,.nilsl] []),qM 27 7,sN (.store 5 (.t 4) (.t 26)),qM 5 27]) (.ret)) (.skip)))) (.seq (.reg aTs) (.seq (.seq (.reg [qM 34 10,qC 35 .neq 34 0]) (.cond (.t 35) (.seq (.reg [sO 36 (.build [.int .i64 0,.int .i64 0,.nilsl,.nilsl,.nilsl] []),qM 37 10,sN (.store 5 (.t 4) (.t 36)),qM 5 37]) (.ret)) (.skip))) (.seq (.seq (.reg [qM 38 9,qN 39 38,qC 40 .gtr 39 0]) (.cond (.t 40) (.seq (.reg [sO 41 (.build [.int .i64 0,.int .i64 0,.nilsl,.nilsl,.nilsl] []),sN (.store 5 (.t 4) (.t 41)),qI 5 12]) (.ret)) (.skip))) (.seq (.reg [qF 42 1 2,qL 43 1 42,sO 44 (.call false 90 [.t 43]),qM 11 44]) (.seq (.reg aOU) (.seq (.seq (.reg [qM 50 11,qN 51 50,qI 52 0]) (.block 0 (.loop aSE))) (.seq (.seq (.reg [qL 127 5 12,sO 128 (.call false 98 [.t 127]),qC 129 .neq 128 0]) (.cond (.t 129) (.seq (.reg [sO 130 (.build [.int .i64 0,.int .i64 0,.nilsl,.nilsl,.nilsl] []),sN (.store 5 (.t 4) (.t 130)),qI 5 15]) (.ret)) (.skip))) (.seq (.reg [qL 131 5 12,sN (.store 5 (.t 4) (.t 131)),qI 5 0]) (.ret)))))))))))⟩
theorem aO8:aL Tryz.prog ⟨[58,129,130,131,149,155,161,182,183,185,191,192,208,209,210,224,228,231,236],[14,15],[],[]⟩ Tryz.f72=some s72:=by kernel_rfl
def aRr:List SO:=[
 qL 18 4 5,
 qF 19 2 4,
 qL 20 2 19,
 qM 21 3,
 sO 22 (.bslice 38 1 false [.nilsl] 1 [(0,.t 21)]),
 sO 23 (.call false 71 [.t 18,.t 20,.t 22]),
 qM 17 23,
 qE 24 17 0,
 qE 25 17 1,
 sO 10 (.alloc 88 [.int .i64 0,.nilsl]),
 sN (.store 2 (.t 10) (.t 24)),
 qM 11 25]
def aTy:List SO:=[
 qL 31 5 6,
 qL 32 2 10,
 qM 33 3,
 sO 34 (.call false 99 [.t 31,.t 32,.t 33]),
 qM 30 34,
 qE 35 30 0,
 qE 36 30 1,
 qE 37 30 2,
 sO 12 (.alloc 204 [.nilsl,.int .i64 0,.nilsl]),
 sN (.store 3 (.t 12) (.t 35)),
 qM 13 36,
 qM 11 37]
def aSa:List SO:=[
 qM 38 11,
 qC 39 .eql 38 0,
 qM 40 39,
 ⟨some (40,true),some 41,.mv (.t 13)⟩,
 ⟨some (40,true),some 42,.len (.t 41)⟩,
 ⟨some (40,true),some 43,.bin .gtr (.t 42) (.c (.int .i64 0))⟩,
 sO 44 (.pick (.t 40) (.t 43) (.c (.bool false)))]
def aTb:List SO:=[
 qL 54 4 5,
 qL 55 2 10,
 qM 56 13,
 sO 57 (.bslice 38 1 false [.nilsl] 1 [(0,.t 56)]),
 sO 58 (.call false 71 [.t 54,.t 55,.t 57]),
 qM 53 58,
 qE 59 53 0,
 qE 60 53 1,
 sN (.store 2 (.t 10) (.t 59)),
 qM 11 60]
def aSL:List SO:=[
 qL 46 5 6,
 qL 47 2 10,
 qM 48 3,
 sO 49 (.call false 99 [.t 46,.t 47,.t 48]),
 qM 45 49,
 qE 50 45 0,
 qE 51 45 1,
 qE 52 45 2,
 sN (.store 3 (.t 12) (.t 50)),
 qM 13 51,
 qM 11 52]
def aSe:SC:=.seq (.seq (.reg aSa) (.cond (.t 44) (.skip) (.exit 0))) (.seq (.block 1 (.seq (.reg aTb) (.seq (.reg [qM 61 11,qC 62 .neq 61 0]) (.cond (.t 62) (.seq (.reg [qL 63 4 4,qM 64 11,sN (.store 4 (.t 8) (.t 63)),qM 9 64]) (.ret)) (.skip))))) (.reg aSL))
def aMC:List SO:=[
 qF 70 0 4,
 qL 71 2 70,
 qL 72 2 10,
 qL 73 3 12,
 sO 74 (.call false 100 [.t 71,.t 72,.t 73]),
 qM 69 74,
 qE 75 69 0,
 qE 76 69 1,
 qE 77 69 2,
 sO 14 (.alloc 144 [.int .i64 0,.nilsl]),
 sN (.store 2 (.t 14) (.t 75)),
 qM 15 76,
 qM 16 77]
def aNP:List SO:=[
 qL 89 4 5,
 qL 90 2 10,
 qM 91 15,
 sO 92 (.call false 71 [.t 89,.t 90,.t 91]),
 qM 88 92,
 qE 93 88 0,
 qE 94 88 1,
 sN (.store 2 (.t 10) (.t 93)),
 qM 16 94]
def aTG:SC:=.block 3 (.seq (.reg aMC) (.seq (.seq (.reg [qM 78 16,qC 79 .neq 78 0]) (.cond (.t 79) (.seq (.reg [qL 80 4 4,qM 81 16,sN (.store 4 (.t 8) (.t 80)),qM 9 81]) (.ret)) (.skip))) (.seq (.seq (.reg [qM 82 15,qN 83 82,qC 84 .eql 83 0]) (.cond (.t 84) (.seq (.reg [qL 85 2 14,qL 86 2 10,sO 87 (.build [.int .i64 0,.nilsl,.int .i64 0,.nilsl] [(0,2,.t 85),(2,2,.t 86)]),sN (.store 4 (.t 8) (.t 87)),qI 9 0]) (.ret)) (.skip))) (.seq (.reg aNP) (.seq (.reg [qM 95 16,qC 96 .neq 95 0]) (.cond (.t 96) (.seq (.reg [qL 97 4 4,qM 98 16,sN (.store 4 (.t 8) (.t 97)),qM 9 98]) (.ret)) (.skip)))))))
def s73:SF:=⟨99,[.cell 8 true 4,.tmp 9],.seq (.reg [sO 4 (.box 148 4 (.t 0)),sO 5 (.box 24 4 (.t 1)),sO 6 (.box 85 5 (.t 2)),sO 8 (.alloc 148 [.int .i64 0,.nilsl,.int .i64 0,.nilsl]),qI 9 0]) (.seq (.reg aRr) (.seq (.seq (.reg [qM 26 11,qC 27 .neq 26 0]) (.cond (.t 27) (.seq (.reg [qL 28 4 4,qM 29 11,sN (.store 4 (.t 8) (.t 28)),qM 9 29]) (.ret)) (.skip))) (.seq (.reg aTy) (.seq (.block 0 (.loop aSe)) (.seq (.seq (.reg [qM 65 11,qC 66 .neq 65 0]) (.cond (.t 66) (.seq (.reg [qL 67 4 4,qM 68 11,sN (.store 4 (.t 8) (.t 67)),qM 9 68]) (.ret)) (.skip))) (.block 2 (.loop aTG)))))))⟩
theorem aPr:aL Tryz.prog ⟨[58,129,130,131,149,155,161,182,183,185,191,192,208,209,210,224,228,231,236],[],[],[]⟩ Tryz.f73=some s73:=by kernel_rfl
def aSx:SC:=.seq (.reg [qP 9 .lss 8 7]) (.seq (.cond (.t 9) (.skip) (.exit 0)) (.seq (.block 1 (.seq (.reg [qM 10 8,qM 5 10]) (.seq (.reg [qM 11 1,qM 12 0,qM 13 5,qA 14 1 12 13,ql 15 14,sO 16 (.bbin .eql (.t 11) (.t 15))]) (.cond (.t 16) (.seq (.reg [qM 17 5,qM 4 17]) (.ret)) (.skip))))) (.reg [qC 18 .add 8 1,qM 8 18])))
def s82:SF:=⟨19,[.tmp 4],.seq (.reg [qI 4 0]) (.seq (.seq (.reg [qM 6 0,qN 7 6,qI 8 0]) (.block 0 (.loop aSx))) (.seq (.reg [sO 4 (.mv (.c (.int .i64 (-1))))]) (.ret)))⟩
theorem aNZ:aL Tryz.prog ⟨[58,129,130,131,149,155,161,182,183,185,191,192,208,209,210,224,228,231,236],[],[],[]⟩ Tryz.f82=some s82:=by kernel_rfl
def aRI:List SO:=[
 qM 16 0,
 qM 17 5,
 qA 18 1 16 17,
 ql 19 18,
 qM 20 1,
 qM 21 5,
 qA 22 1 20 21,
 ql 23 22,
 sO 24 (.bbin .neq (.t 19) (.t 23))]
def aTc:SC:=.seq (.reg [qP 14 .lss 13 12]) (.seq (.cond (.t 14) (.skip) (.exit 0)) (.seq (.block 1 (.seq (.reg [qM 15 13,qM 5 15]) (.seq (.reg aRI) (.cond (.t 24) (.seq (.reg [sO 4 (.mv (.c (.bool false)))]) (.ret)) (.skip))))) (.reg [qC 25 .add 13 1,qM 13 25])))
def s83:SF:=⟨26,[.tmp 4],.seq (.reg [sO 4 (.mv (.c (.bool false)))]) (.seq (.seq (.reg [qM 6 0,qN 7 6,qM 8 1,qN 9 8,qP 10 .neq 7 9]) (.cond (.t 10) (.seq (.reg [sO 4 (.mv (.c (.bool false)))]) (.ret)) (.skip))) (.seq (.seq (.reg [qM 11 0,qN 12 11,qI 13 0]) (.block 0 (.loop aTc))) (.seq (.reg [sO 4 (.mv (.c (.bool true)))]) (.ret))))⟩
theorem aQH:aL Tryz.prog ⟨[58,129,130,131,149,155,161,182,183,185,191,192,208,209,210,224,228,231,236],[],[],[]⟩ Tryz.f83=some s83:=by kernel_rfl
def s84:SF:=⟨5,[.tmp 2],.seq (.reg [sO 2 (.mv (.c (.nilsl)))]) (.seq (.reg [qM 3 0,sO 4 (.call false 117 [.t 3]),qM 2 4]) (.ret))⟩
theorem aHC:aL Tryz.prog ⟨[58,129,130,131,149,155,161,182,183,185,191,192,208,209,210,224,228,231,236],[],[],[]⟩ Tryz.f84=some s84:=by kernel_rfl
def s86:SF:=⟨4,[.cell 0 true 1],.seq (.reg [sO 0 (.alloc 142 [.nilsl])]) (.seq (.reg [sO 1 (.build [.bool false,.nilsl,.nilsl,.nilsl,.nilsl] [(0,1,.c (.bool true))]),sO 2 (.bslice 194 5 false [.bool false,.nilsl,.nilsl,.nilsl,.nilsl] 1 [(0,.t 1)]),sO 3 (.build [.nilsl] [(0,1,.t 2)]),sN (.store 1 (.t 0) (.t 3))]) (.ret))⟩
theorem aOf:aL Tryz.prog ⟨[58,129,130,131,149,155,161,182,183,185,191,192,208,209,210,224,228,231,236],[],[],[]⟩ Tryz.f86=some s86:=by kernel_rfl
def aSO:List SO:=[
 qF 10 0 1,
 qF 11 0 10,
 ql 12 11,
 qC 13 .lss 12 1,
 qM 14 13,
 ⟨some (14,false),some 15,.fld 0 (.t 1)⟩,
 ⟨some (14,false),some 16,.fld 0 (.t 15)⟩,
 ⟨some (14,false),some 17,.load false 1 (.t 16)⟩,
 ⟨some (14,false),some 18,.bin .gtr (.t 17) (.c (.int .i64 64))⟩,
 sO 19 (.pick (.t 14) (.c (.bool true)) (.t 18))]
def aMP:List SO:=[
 qF 36 1 7,
 ql 37 36,
 qF 38 0 1,
 qF 39 0 38,
 ql 40 39,
 sO 41 (.call false 119 [.t 37,.t 40]),
 qM 8 41]
def aOd:List SO:=[
 qF 45 2 7,
 ql 46 45,
 qF 47 0 1,
 qF 48 0 47,
 ql 49 48,
 sO 50 (.call false 119 [.t 46,.t 49]),
 qM 9 50]
def aPU:List SO:=[
 qM 58 5,
 qM 59 58,
 ⟨some (59,false),some 60,.fld 1 (.t 7)⟩,
 ⟨some (59,false),some 61,.load false 1 (.t 60)⟩,
 ⟨some (59,false),some 62,.len (.t 61)⟩,
 ⟨some (59,false),some 63,.bin .eql (.t 62) (.c (.int .i64 0))⟩,
 sO 64 (.pick (.t 59) (.c (.bool true)) (.t 63)),
 qM 5 64]
def aSj:SC:=.seq (.reg [qP 33 .lss 32 31]) (.seq (.cond (.t 33) (.skip) (.exit 0)) (.seq (.block 1 (.seq (.reg [qA 34 5 30 32,qL 35 5 34,sO 7 (.alloc 194 [.bool false,.nilsl,.nilsl,.nilsl,.nilsl]),sN (.store 5 (.t 7) (.t 35))]) (.seq (.seq (.reg aMP) (.seq (.reg [qM 42 8,qC 43 .neq 42 0]) (.cond (.t 43) (.seq (.reg [qM 44 8,qM 2 44]) (.ret)) (.skip)))) (.seq (.seq (.reg aOd) (.seq (.reg [qM 51 9,qC 52 .neq 51 0]) (.cond (.t 52) (.seq (.reg [qM 53 9,qM 2 53]) (.ret)) (.skip)))) (.seq (.reg [qF 54 0 7,ql 55 54]) (.cond (.t 55) (.seq (.reg [qM 56 4,qC 57 .add 56 1,qM 4 57]) (.reg aPU)) (.skip))))))) (.reg [qC 65 .add 32 1,qM 32 65])))
def aQD:List SO:=[
 qF 73 0 1,
 qF 74 0 73,
 ql 75 74,
 qF 76 2 1,
 qF 77 0 76,
 ql 78 77,
 qP 79 .neq 75 78,
 qM 72 79]
def s87:SF:=⟨80,[.tmp 2],.seq (.reg [sO 1 (.box 148 4 (.t 0)),qI 2 0]) (.seq (.seq (.reg aSO) (.cond (.t 19) (.seq (.reg [qI 2 2]) (.ret)) (.skip))) (.seq (.seq (.reg [qF 20 0 1,qF 21 1 20,qL 22 1 21,sO 23 (.call false 118 [.t 22]),qM 3 23]) (.seq (.reg [qM 24 3,qC 25 .neq 24 0]) (.cond (.t 25) (.seq (.reg [qM 26 3,qM 2 26]) (.ret)) (.skip)))) (.seq (.reg [qI 4 0,sO 5 (.mv (.c (.bool false)))]) (.seq (.seq (.reg [qF 27 0 1,qF 28 1 27,qF 29 0 28,ql 30 29,qN 31 30,qI 32 0]) (.block 0 (.loop aSj))) (.seq (.block 2 (.seq (.reg [qM 67 5,sO 68 (.un .not (.t 67)),qM 66 68]) (.cond (.t 66) (.seq (.reg [qI 2 1]) (.ret)) (.seq (.reg [qM 70 4,qC 71 .gtr 70 128,qM 69 71]) (.cond (.t 69) (.seq (.reg [qI 2 11]) (.ret)) (.seq (.reg aQD) (.cond (.t 72) (.seq (.reg [qI 2 15]) (.ret)) (.skip)))))))) (.seq (.reg [qI 2 0]) (.ret)))))))⟩
theorem aNd:aL Tryz.prog ⟨[58,129,130,131,149,155,161,182,183,185,191,192,208,209,210,224,228,231,236],[],[],[]⟩ Tryz.f87=some s87:=by kernel_rfl
def aOZ:List SO:=[
 qF 35 0 1,
 qF 36 1 35,
 qL 37 1 36,
 qF 38 2 1,
 qL 39 2 38,
 qM 40 10,
 sO 41 (.call false 120 [.t 37,.t 39,.t 40]),
 qM 34 41,
 qE 42 34 0,
 qE 43 34 1,
 qE 44 34 2,
 qM 11 42,
 qM 12 43,
 qM 13 44]
def aQl:List SO:=[
 qM 63 5,
 qM 64 10,
 qM 65 11,
 sO 66 (.build [.nilsl,.int .i64 0] [(0,1,.t 64),(1,1,.t 65)]),
 sO 67 (.bslice 187 2 false [.nilsl,.int .i64 0] 1 [(0,.t 66)]),
 sO 68 (.append 187 2 32 (.t 63) (.t 67)),
 qM 5 68]
def aTr:SC:=.seq (.reg [qP 27 .lss 26 25]) (.seq (.cond (.t 27) (.skip) (.exit 2)) (.seq (.block 3 (.seq (.reg [qM 28 26,qM 9 28]) (.seq (.reg [qM 29 8,qM 30 9,sO 31 (.bslice 3 1 false [.int .i64 0] 1 [(0,.t 30)]),sO 32 (.bslice 38 1 false [.nilsl] 2 [(0,.t 29),(1,.t 31)]),sO 33 (.call false 84 [.t 32]),qM 10 33]) (.seq (.reg aOZ) (.seq (.seq (.reg [qM 45 13,qC 46 .neq 45 0]) (.cond (.t 46) (.seq (.reg [qM 47 13,sO 2 (.mv (.c (.nilsl))),sO 3 (.mv (.c (.nilsl))),qM 4 47]) (.ret)) (.skip))) (.seq (.seq (.reg [qL 48 4 1,qM 49 10,sO 50 (.call false 121 [.t 48,.t 49]),sO 51 (.un .not (.t 50))]) (.cond (.t 51) (.reg [qM 52 6,qM 53 10,sO 54 (.bslice 38 1 false [.nilsl] 1 [(0,.t 53)]),sO 55 (.append 38 1 24 (.t 52) (.t 54)),qM 6 55]) (.skip))) (.seq (.seq (.reg [qM 56 12,qN 57 56,qC 58 .gtr 57 0]) (.cond (.t 58) (.reg [qM 59 6,qM 60 12,sO 61 (.bslice 38 1 false [.nilsl] 1 [(0,.t 60)]),sO 62 (.append 38 1 24 (.t 59) (.t 61)),qM 6 62]) (.skip))) (.reg aQl)))))))) (.reg [qC 69 .add 26 1,qM 26 69])))
def aRN:SC:=.seq (.reg [qP 20 .lss 19 18]) (.seq (.cond (.t 20) (.skip) (.exit 0)) (.seq (.block 1 (.seq (.reg [qA 21 1 17 19,ql 22 21,qM 8 22]) (.seq (.reg [qF 23 0 1,qF 24 0 23,ql 25 24,qI 26 0]) (.block 2 (.loop aTr))))) (.reg [qC 70 .add 19 1,qM 19 70])))
def s88:SF:=⟨74,[.tmp 2,.tmp 3,.tmp 4],.seq (.reg [sO 1 (.box 148 4 (.t 0)),sO 2 (.mv (.c (.nilsl))),sO 3 (.mv (.c (.nilsl))),qI 4 0]) (.seq (.reg [sO 5 (.lazy 187 2)]) (.seq (.reg [sO 6 (.lazy 38 1)]) (.seq (.seq (.reg [qF 14 0 1,qF 15 1 14,qL 16 1 15,sO 17 (.call false 90 [.t 16]),qN 18 17,qI 19 0]) (.block 0 (.loop aRN))) (.seq (.reg [qM 71 5,qM 72 6,sO 73 (.call false 122 [.t 72]),qM 2 71,qM 3 73,qI 4 0]) (.ret)))))⟩
theorem aLW:aL Tryz.prog ⟨[58,129,130,131,149,155,161,182,183,185,191,192,208,209,210,224,228,231,236],[5,6],[],[]⟩ Tryz.f88=some s88:=by kernel_rfl
def aS7:List SO:=[
 qF 5 0 2,
 qF 6 1 5,
 qF 7 0 6,
 ql 8 7,
 qM 9 1,
 qA 10 5 8 9,
 qF 11 0 10,
 ql 12 11,
 qM 4 12]
def s89:SF:=⟨13,[.tmp 4],.seq (.reg [sO 2 (.box 148 4 (.t 0)),sO 4 (.mv (.c (.bool false)))]) (.seq (.reg aS7) (.ret))⟩
theorem aMo:aL Tryz.prog ⟨[58,129,130,131,149,155,161,182,183,185,191,192,208,209,210,224,228,231,236],[],[],[]⟩ Tryz.f89=some s89:=by kernel_rfl
def s90:SF:=⟨9,[.tmp 2],.seq (.reg [sO 1 (.box 142 1 (.t 0)),sO 2 (.mv (.c (.nilsl)))]) (.seq (.seq (.reg [qL 3 1 1,sO 4 (.call false 118 [.t 3]),qC 5 .neq 4 0]) (.cond (.t 5) (.seq (.reg [sO 2 (.mv (.c (.nilsl)))]) (.ret)) (.skip))) (.seq (.reg [qL 6 1 1,sO 7 (.call false 124 [.t 6]),sO 8 (.call false 123 [.t 7]),qM 2 8]) (.ret)))⟩
theorem aON:aL Tryz.prog ⟨[58,129,130,131,149,155,161,182,183,185,191,192,208,209,210,224,228,231,236],[],[],[]⟩ Tryz.f90=some s90:=by kernel_rfl
def aRD:List SO:=[
 qM 31 2,
 qF 32 0 4,
 ql 33 32,
 qM 34 1,
 qA 35 5 33 34,
 qF 36 2 35,
 ql 37 36,
 sO 38 (.call false 126 [.t 31,.t 37]),
 qM 12 38]
def aQr:List SO:=[
 qF 44 0 4,
 ql 45 44,
 qM 46 1,
 qA 47 5 45 46,
 qL 48 5 47,
 qM 49 2,
 sO 50 (.call false 127 [.t 48,.t 49]),
 qM 43 50,
 qE 51 43 0,
 qE 52 43 1,
 qM 13 51,
 qM 14 52]
def aPp:List SO:=[
 qM 73 17,
 qM 74 17,
 sO 75 (.nilck (.t 74)),
 qF 76 3 75,
 ql 77 76,
 qM 78 13,
 qM 79 2,
 sO 80 (.bslice 38 1 false [.nilsl] 1 [(0,.t 79)]),
 sO 81 (.call false 84 [.t 80]),
 sO 82 (.bslice 38 1 true [.nilsl] 1 [(0,.t 81)]),
 sO 83 (.call true 130 [.t 77,.t 78,.t 82]),
 sO 84 (.nilck (.t 73)),
 qF 85 3 84,
 sN (.store 1 (.t 85) (.t 83))]
def aQY:List SO:=[
 qM 86 17,
 qM 87 17,
 sO 88 (.nilck (.t 87)),
 qF 89 4 88,
 ql 90 89,
 qM 91 13,
 qF 92 0 4,
 ql 93 92,
 qN 94 93,
 sO 95 (.bslice 3 1 true [.int .i64 0] 1 [(0,.t 94)]),
 sO 96 (.call true 131 [.t 90,.t 91,.t 95]),
 sO 97 (.nilck (.t 86)),
 qF 98 4 97,
 sN (.store 1 (.t 98) (.t 96))]
def aNb:List SO:=[
 qF 99 0 16,
 ql 100 99,
 qM 101 3,
 sO 102 (.bslice 38 1 false [.nilsl] 1 [(0,.t 101)]),
 sO 103 (.call false 84 [.t 102]),
 sO 104 (.build [.bool false,.nilsl,.nilsl,.nilsl,.nilsl] [(0,1,.c (.bool true)),(1,1,.t 103)]),
 sO 105 (.bslice 194 5 false [.bool false,.nilsl,.nilsl,.nilsl,.nilsl] 1 [(0,.t 104)]),
 sO 106 (.append 194 5 104 (.t 100) (.t 105)),
 qF 107 0 16,
 sN (.store 1 (.t 107) (.t 106))]
def s91:SF:=⟨109,[.cell 8 true 1,.tmp 9],.seq (.reg [sO 4 (.box 142 1 (.t 0)),sO 8 (.alloc 142 [.nilsl]),qI 9 0]) (.seq (.seq (.reg [qL 18 1 4,sO 19 (.call false 118 [.t 18]),qM 10 19]) (.seq (.reg [qM 20 10,qC 21 .neq 20 0]) (.cond (.t 21) (.seq (.reg [qL 22 1 4,qM 23 10,sN (.store 1 (.t 8) (.t 22)),qM 9 23]) (.ret)) (.skip)))) (.seq (.seq (.reg [qL 24 1 4,qM 25 1,sO 26 (.call false 125 [.t 24,.t 25,.c (.bool false)]),qM 11 26]) (.seq (.reg [qM 27 11,qC 28 .neq 27 0]) (.cond (.t 28) (.seq (.reg [qL 29 1 4,qM 30 11,sN (.store 1 (.t 8) (.t 29)),qM 9 30]) (.ret)) (.skip)))) (.seq (.seq (.reg aRD) (.seq (.reg [qM 39 12,qC 40 .neq 39 0]) (.cond (.t 40) (.seq (.reg [qL 41 1 4,qM 42 12,sN (.store 1 (.t 8) (.t 41)),qM 9 42]) (.ret)) (.skip)))) (.seq (.reg aQr) (.seq (.seq (.reg [qM 53 14]) (.cond (.t 53) (.seq (.reg [qL 54 1 4,sN (.store 1 (.t 8) (.t 54)),qI 9 7]) (.ret)) (.skip))) (.seq (.seq (.reg [qL 55 1 4,qM 56 3,sO 57 (.call false 128 [.t 55,.t 56]),qM 15 57]) (.seq (.reg [qM 58 15,qC 59 .neq 58 0]) (.cond (.t 59) (.seq (.reg [qL 60 1 4,qM 61 15,sN (.store 1 (.t 8) (.t 60)),qM 9 61]) (.ret)) (.skip)))) (.seq (.seq (.reg [qF 62 0 4,ql 63 62,qN 64 63,qC 65 .geq 64 4096]) (.cond (.t 65) (.seq (.reg [qL 66 1 4,sN (.store 1 (.t 8) (.t 66)),qI 9 11]) (.ret)) (.skip))) (.seq (.reg [qL 67 1 4,sO 68 (.call true 129 [.t 67]),sO 16 (.alloc 142 [.nilsl]),sN (.store 1 (.t 16) (.t 68))]) (.seq (.reg [qF 69 0 16,ql 70 69,qM 71 1,qA 72 5 70 71,qM 17 72]) (.seq (.dreg [82] aPp) (.seq (.dreg [95] aQY) (.seq (.reg aNb) (.seq (.reg [qL 108 1 16,sN (.store 1 (.t 8) (.t 108)),qI 9 0]) (.ret))))))))))))))⟩
theorem aMc:aL Tryz.prog ⟨[58,129,130,131,149,155,161,182,183,185,191,192,208,209,210,224,228,231,236],[82,95],[],[]⟩ Tryz.f91=some s91:=by kernel_rfl
def aSR:List SO:=[
 qF 10 2 3,
 qL 11 2 10,
 qM 12 1,
 qM 13 2,
 sO 14 (.bslice 38 1 false [.nilsl] 2 [(0,.t 12),(1,.t 13)]),
 sO 15 (.call false 84 [.t 14]),
 sO 16 (.call false 132 [.t 11,.t 15]),
 qM 9 16,
 qE 17 9 0,
 qE 18 9 1,
 qM 7 17,
 qM 8 18]
def aTM:List SO:=[
 qM 19 7,
 qM 20 7,
 qN 21 20,
 qM 22 2,
 qN 23 22,
 qP 24 .sub 21 23,
 sO 25 (.slice 1 (.t 19) (some (.t 24)) none),
 qM 6 25]
def s92:SF:=⟨26,[.tmp 6],.seq (.reg [sO 3 (.box 148 4 (.t 0)),sO 6 (.mv (.c (.nilsl)))]) (.seq (.reg aSR) (.seq (.reg aTM) (.ret)))⟩
theorem aNH:aL Tryz.prog ⟨[58,129,130,131,149,155,161,182,183,185,191,192,208,209,210,224,228,231,236],[],[],[]⟩ Tryz.f92=some s92:=by kernel_rfl
def aTP:List SO:=[
 qL 10 4 2,
 qF 11 1 2,
 ql 12 11,
 qM 13 1,
 sO 14 (.call false 133 [.t 10,.t 12,.t 13]),
 qM 9 14,
 qE 15 9 0,
 qE 16 9 1,
 qE 17 9 2,
 qM 6 15,
 qM 7 16,
 qM 8 17]
def s93:SF:=⟨20,[.tmp 4,.tmp 5],.seq (.reg [sO 2 (.box 24 4 (.t 0)),sO 4 (.mv (.c (.nilsl))),qI 5 0]) (.seq (.reg aTP) (.seq (.reg [qM 18 6,qM 19 8,qM 4 18,qM 5 19]) (.ret)))⟩
theorem aQP:aL Tryz.prog ⟨[58,129,130,131,149,155,161,182,183,185,191,192,208,209,210,224,228,231,236],[],[],[]⟩ Tryz.f93=some s93:=by kernel_rfl
def aSr:List SO:=[
 qL 6 2 2,
 qL 7 2 3,
 sO 8 (.bslice 199 2 false [.nilsl,.nilsl] 1 [(0,.t 7)]),
 sO 9 (.call false 134 [.t 6,.t 8]),
 qE 10 9 0,
 qE 11 9 1,
 sN (.store 2 (.t 4) (.t 10)),
 qM 5 11]
def s94:SF:=⟨12,[.cell 4 true 2,.tmp 5],.seq (.reg [sO 2 (.box 88 2 (.t 0)),sO 3 (.box 199 2 (.t 1)),sO 4 (.alloc 88 [.int .i64 0,.nilsl]),qI 5 0]) (.seq (.reg aSr) (.ret))⟩
theorem aNW:aL Tryz.prog ⟨[58,129,130,131,149,155,161,182,183,185,191,192,208,209,210,224,228,231,236],[],[],[]⟩ Tryz.f94=some s94:=by kernel_rfl
def aSp:SC:=.seq (.reg [qP 9 .lss 8 7]) (.seq (.cond (.t 9) (.skip) (.exit 0)) (.seq (.block 1 (.seq (.reg [qM 10 8,qM 5 10]) (.seq (.reg [qM 11 1,qM 12 0,qM 13 5,qA 14 1 12 13,ql 15 14,sO 16 (.callv false (.t 11) [.t 15])]) (.cond (.t 16) (.seq (.reg [qM 17 5,qM 4 17]) (.ret)) (.skip))))) (.reg [qC 18 .add 8 1,qM 8 18])))
def s95:SF:=⟨19,[.tmp 4],.seq (.reg [qI 4 0]) (.seq (.seq (.reg [qM 6 0,qN 7 6,qI 8 0]) (.block 0 (.loop aSp))) (.seq (.reg [sO 4 (.mv (.c (.int .i64 (-1))))]) (.ret)))⟩
theorem aO6:aL Tryz.prog ⟨[58,129,130,131,149,155,161,182,183,185,191,192,208,209,210,224,228,231,236],[],[],[]⟩ Tryz.f95=some s95:=by kernel_rfl
def s96:SF:=⟨7,[.tmp 3],.seq (.reg [sO 3 (.mv (.c (.bool false)))]) (.seq (.reg [qM 4 0,ql 5 1,sO 6 (.call false 97 [.t 4,.t 5]),qM 3 6]) (.ret))⟩
theorem aP8:aL Tryz.prog ⟨[58,129,130,131,149,155,161,182,183,185,191,192,208,209,210,224,228,231,236],[],[],[]⟩ Tryz.f96=some s96:=by kernel_rfl
def aTd:List SO:=[
 qM 16 0,
 qM 17 5,
 qA 18 1 16 17,
 ql 19 18,
 qM 20 1,
 qM 21 5,
 qA 22 1 20 21,
 ql 23 22,
 qP 24 .neq 19 23]
def aTx:SC:=.seq (.reg [qP 14 .lss 13 12]) (.seq (.cond (.t 14) (.skip) (.exit 0)) (.seq (.block 1 (.seq (.reg [qM 15 13,qM 5 15]) (.seq (.reg aTd) (.cond (.t 24) (.seq (.reg [sO 4 (.mv (.c (.bool false)))]) (.ret)) (.skip))))) (.reg [qC 25 .add 13 1,qM 13 25])))
def s97:SF:=⟨26,[.tmp 4],.seq (.reg [sO 4 (.mv (.c (.bool false)))]) (.seq (.seq (.reg [qM 6 0,qN 7 6,qM 8 1,qN 9 8,qP 10 .neq 7 9]) (.cond (.t 10) (.seq (.reg [sO 4 (.mv (.c (.bool false)))]) (.ret)) (.skip))) (.seq (.seq (.reg [qM 11 0,qN 12 11,qI 13 0]) (.block 0 (.loop aTx))) (.seq (.reg [sO 4 (.mv (.c (.bool true)))]) (.ret))))⟩
theorem aMx:aL Tryz.prog ⟨[58,129,130,131,149,155,161,182,183,185,191,192,208,209,210,224,228,231,236],[],[],[]⟩ Tryz.f97=some s97:=by kernel_rfl
def aTS:List SO:=[
 qF 15 4 1,
 ql 16 15,
 qN 17 16,
 qF 18 0 1,
 qF 19 2 18,
 ql 20 19,
 qN 21 20,
 qP 22 .neq 17 21]
def aRB:List SO:=[
 qF 32 0 1,
 qL 33 4 32,
 qF 34 0 1,
 qF 35 1 34,
 ql 36 35,
 qM 37 5,
 sO 38 (.call false 133 [.t 33,.t 36,.t 37]),
 qM 31 38,
 qE 39 31 0,
 qE 40 31 1,
 qE 41 31 2,
 qM 6 39,
 qM 7 40,
 qM 8 41]
def aRw:SC:=.seq (.reg [qP 27 .lss 26 25]) (.seq (.cond (.t 27) (.skip) (.exit 0)) (.seq (.block 1 (.seq (.reg [qM 28 26,qA 29 1 24 26,ql 30 29,qM 4 28,qM 5 30]) (.seq (.reg aRB) (.seq (.seq (.reg [qM 42 8,qC 43 .neq 42 0]) (.cond (.t 43) (.seq (.reg [qM 44 8,qM 2 44]) (.ret)) (.skip))) (.seq (.reg [qM 45 7,qM 46 4,qP 47 .neq 45 46]) (.cond (.t 47) (.seq (.reg [qI 2 15]) (.ret)) (.skip))))))) (.reg [qC 48 .add 26 1,qM 26 48])))
def aOo:List SO:=[
 qF 49 4 1,
 ql 50 49,
 qF 51 0 1,
 qF 52 1 51,
 ql 53 52,
 qA 54 1 50 53,
 ql 55 54,
 qN 56 55,
 qC 57 .neq 56 0]
def s98:SF:=⟨58,[.tmp 2],.seq (.reg [sO 1 (.box 85 5 (.t 0)),qI 2 0]) (.seq (.seq (.reg [qF 9 0 1,qL 10 4 9,sO 11 (.call false 30 [.t 10]),qM 3 11]) (.seq (.reg [qM 12 3,qC 13 .neq 12 0]) (.cond (.t 13) (.seq (.reg [qM 14 3,qM 2 14]) (.ret)) (.skip)))) (.seq (.seq (.reg aTS) (.cond (.t 22) (.seq (.reg [qI 2 1]) (.ret)) (.skip))) (.seq (.seq (.reg [qF 23 4 1,ql 24 23,qN 25 24,qI 26 0]) (.block 0 (.loop aRw))) (.seq (.seq (.reg aOo) (.cond (.t 57) (.seq (.reg [qI 2 10]) (.ret)) (.skip))) (.seq (.reg [qI 2 0]) (.ret))))))⟩
theorem aLS:aL Tryz.prog ⟨[58,129,130,131,149,155,161,182,183,185,191,192,208,209,210,224,228,231,236],[],[],[]⟩ Tryz.f98=some s98:=by kernel_rfl
def aS5:List SO:=[
 qL 12 5 3,
 qL 13 2 4,
 qM 14 2,
 sO 15 (.call false 135 [.t 12,.t 13,.t 14]),
 qM 11 15,
 qE 16 11 0,
 qE 17 11 1,
 qM 9 16,
 qM 10 17]
def aRX:List SO:=[
 qM 22 9,
 sO 23 (.call false 136 [.t 22,.c (.fn 137 [] [])]),
 qE 24 23 0,
 qE 25 23 1,
 qE 26 23 2,
 sN (.store 3 (.t 6) (.t 24)),
 qM 7 25,
 qM 8 26]
def s99:SF:=⟨27,[.cell 6 true 3,.tmp 7,.tmp 8],.seq (.reg [sO 3 (.box 85 5 (.t 0)),sO 4 (.box 88 2 (.t 1)),sO 6 (.alloc 204 [.nilsl,.int .i64 0,.nilsl]),sO 7 (.mv (.c (.nilsl))),qI 8 0]) (.seq (.reg aS5) (.seq (.seq (.reg [qM 18 10,qC 19 .neq 18 0]) (.cond (.t 19) (.seq (.reg [sO 20 (.build [.nilsl,.int .i64 0,.nilsl] []),qM 21 10,sN (.store 3 (.t 6) (.t 20)),sO 7 (.mv (.c (.nilsl))),qM 8 21]) (.ret)) (.skip))) (.seq (.reg aRX) (.ret))))⟩
theorem aNm:aL Tryz.prog ⟨[58,129,130,131,149,155,161,182,183,185,191,192,208,209,210,224,228,231,236],[],[],[]⟩ Tryz.f99=some s99:=by kernel_rfl
def aMf:List SO:=[
 qF 31 0 5,
 ql 32 31,
 qF 33 1 5,
 ql 34 33,
 sO 35 (.bslice 3 1 false [.int .i64 0] 1 [(0,.t 34)]),
 sO 36 (.bslice 38 1 false [.nilsl] 2 [(0,.t 32),(1,.t 35)]),
 sO 37 (.call false 84 [.t 36]),
 qM 11 37]
def aNt:List SO:=[
 qF 39 1 3,
 qL 40 1 39,
 qL 41 2 4,
 qM 42 11,
 sO 43 (.call false 120 [.t 40,.t 41,.t 42]),
 qM 38 43,
 qE 44 38 0,
 qE 45 38 1,
 qE 46 38 2,
 qM 12 44,
 qM 13 45,
 qM 14 46]
def aJi:List SO:=[
 qF 62 1 3,
 qF 63 0 62,
 ql 64 63,
 qM 65 12,
 qA 66 5 64 65,
 qF 67 1 66,
 ql 68 67,
 qM 15 68]
def aH0:List SO:=[
 qM 69 15,
 qF 70 2 5,
 ql 71 70,
 sO 72 (.bslice 38 1 false [.nilsl] 2 [(0,.t 69),(1,.t 71)]),
 sO 73 (.call false 84 [.t 72]),
 qM 74 11,
 qF 75 2 5,
 ql 76 75,
 sO 77 (.bslice 38 1 false [.nilsl] 2 [(0,.t 74),(1,.t 76)]),
 sO 78 (.call false 84 [.t 77]),
 sO 79 (.bslice 38 1 false [.nilsl] 2 [(0,.t 73),(1,.t 78)]),
 qM 16 79]
def aQA:SC:=.seq (.reg [qP 83 .lss 82 81]) (.seq (.cond (.t 83) (.skip) (.exit 0)) (.seq (.block 1 (.seq (.reg [qA 84 1 80 82,ql 85 84,qM 19 85]) (.seq (.seq (.reg [qM 86 19,qN 87 86,qC 88 .gtr 87 1024]) (.cond (.t 88) (.seq (.reg [qL 89 2 3,sN (.store 2 (.t 6) (.t 89)),sO 7 (.mv (.c (.nilsl))),qI 8 3]) (.ret)) (.skip))) (.seq (.reg [qL 90 4 9,qM 91 19,sO 92 (.call false 121 [.t 90,.t 91]),sO 93 (.un .not (.t 92))]) (.cond (.t 93) (.reg [qM 94 17,qM 95 19,sO 96 (.bslice 38 1 false [.nilsl] 1 [(0,.t 95)]),sO 97 (.append 38 1 24 (.t 94) (.t 96)),qM 17 97]) (.skip)))))) (.reg [qC 98 .add 82 1,qM 82 98])))
def aKt:List SO:=[
 qF 112 1 3,
 qL 113 1 112,
 qM 114 12,
 qF 115 2 5,
 ql 116 115,
 qL 117 4 9,
 qM 118 15,
 qF 119 2 5,
 ql 120 119,
 sO 121 (.call false 92 [.t 117,.t 118,.t 120]),
 qM 122 11,
 qL 123 4 9,
 qM 124 11,
 qF 125 2 5,
 ql 126 125,
 sO 127 (.call false 92 [.t 123,.t 124,.t 126]),
 sO 128 (.call false 139 [.t 113,.t 114,.t 116,.t 121,.t 122,.t 127]),
 qM 111 128,
 qE 129 111 0,
 qE 130 111 1,
 sO 20 (.alloc 142 [.nilsl]),
 sN (.store 1 (.t 20) (.t 129)),
 qM 14 130]
def aJG:List SO:=[
 qF 135 0 3,
 ql 136 135,
 qL 137 1 20,
 sO 138 (.build [.int .i64 0,.nilsl] [(0,1,.t 136),(1,1,.t 137)]),
 sN (.store 2 (.t 6) (.t 138)),
 sO 7 (.mv (.c (.nilsl))),
 qI 8 0]
def aPX:SF:=⟨139,[.cell 6 true 2,.tmp 7,.tmp 8],.seq (.reg [sO 3 (.box 144 2 (.t 0)),sO 4 (.box 88 2 (.t 1)),sO 5 (.box 204 3 (.t 2)),sO 6 (.alloc 144 [.int .i64 0,.nilsl]),sO 7 (.mv (.c (.nilsl))),qI 8 0]) (.seq (.reg [qL 21 2 3,qL 22 2 4,sO 23 (.build [.int .i64 0,.nilsl,.int .i64 0,.nilsl] [(0,2,.t 21),(2,2,.t 22)]),sO 9 (.alloc 148 [.int .i64 0,.nilsl,.int .i64 0,.nilsl]),sN (.store 4 (.t 9) (.t 23))]) (.seq (.seq (.reg [qL 24 4 9,qL 25 3 5,sO 26 (.call false 138 [.t 24,.t 25]),qM 10 26]) (.seq (.reg [qM 27 10,qC 28 .neq 27 0]) (.cond (.t 28) (.seq (.reg [qL 29 2 3,qM 30 10,sN (.store 2 (.t 6) (.t 29)),sO 7 (.mv (.c (.nilsl))),qM 8 30]) (.ret)) (.skip)))) (.seq (.reg aMf) (.seq (.reg aNt) (.seq (.seq (.reg [qM 47 14,qC 48 .neq 47 0]) (.cond (.t 48) (.seq (.reg [qL 49 2 3,qM 50 14,sN (.store 2 (.t 6) (.t 49)),sO 7 (.mv (.c (.nilsl))),qM 8 50]) (.ret)) (.skip))) (.seq (.seq (.reg [qM 51 13,qN 52 51,qC 53 .gtr 52 0]) (.cond (.t 53) (.seq (.reg [qL 54 2 3,qM 55 13,sO 56 (.bslice 38 1 false [.nilsl] 1 [(0,.t 55)]),sN (.store 2 (.t 6) (.t 54)),qM 7 56,qI 8 0]) (.ret)) (.skip))) (.seq (.seq (.reg [qL 57 4 9,qM 58 12,sO 59 (.call false 89 [.t 57,.t 58]),sO 60 (.un .not (.t 59))]) (.cond (.t 60) (.seq (.reg [qL 61 2 3,sN (.store 2 (.t 6) (.t 61)),sO 7 (.mv (.c (.nilsl))),qI 8 10]) (.ret)) (.skip))) (.seq (.reg aJi) (.seq (.reg aH0) (.seq (.reg [sO 17 (.lazy 38 1)]) (.seq (.seq (.reg [qM 80 16,qN 81 80,qI 82 0]) (.block 0 (.loop aQA))) (.seq (.seq (.reg [qM 99 17,qN 100 99,qC 101 .gtr 100 0]) (.cond (.t 101) (.seq (.reg [qL 102 2 3,qM 103 17,sO 104 (.call false 122 [.t 103]),sN (.store 2 (.t 6) (.t 102)),qM 7 104,qI 8 0]) (.ret)) (.skip))) (.seq (.seq (.reg [qF 105 1 3,qL 106 1 105,sO 107 (.call false 90 [.t 106]),qN 108 107,qC 109 .geq 108 128]) (.cond (.t 109) (.seq (.reg [qL 110 2 3,sN (.store 2 (.t 6) (.t 110)),sO 7 (.mv (.c (.nilsl))),qI 8 11]) (.ret)) (.skip))) (.seq (.dreg [20] aKt) (.seq (.seq (.reg [qM 131 14,qC 132 .neq 131 0]) (.cond (.t 132) (.seq (.reg [qL 133 2 3,qM 134 14,sN (.store 2 (.t 6) (.t 133)),sO 7 (.mv (.c (.nilsl))),qM 8 134]) (.ret)) (.skip))) (.seq (.reg aJG) (.ret)))))))))))))))))⟩
theorem aIA:aL Tryz.prog ⟨[58,129,130,131,149,155,161,182,183,185,191,192,208,209,210,224,228,231,236],[17],[],[]⟩ Tryz.f100=some aPX:=by kernel_rfl
def aGT:SC:=.seq (.reg [qP 12 .lss 11 10]) (.seq (.cond (.t 12) (.skip) (.exit 0)) (.seq (.block 1 (.seq (.reg [qA 13 1 9 11,ql 14 13,qM 5 14]) (.seq (.reg [qM 15 3,qM 16 5,qN 17 16,qP 18 .add 15 17,qM 3 18]) (.seq (.reg [qM 19 3,qC 20 .lss 19 0]) (.cond (.t 20) (.seq (.reg [sO 21 (.bad)]) (.seq (.pop none (.raise (.t 21))) (.reg []))) (.skip)))))) (.reg [qC 22 .add 11 1,qM 11 22])))
def aHo:SC:=.seq (.reg [qP 28 .lss 27 26]) (.seq (.cond (.t 28) (.skip) (.exit 2)) (.seq (.block 3 (.seq (.reg [qA 29 1 25 27,ql 30 29,qM 8 30]) (.reg [qM 31 6,qM 32 8,sO 33 (.append 3 1 8 (.t 31) (.t 32)),qM 6 33]))) (.reg [qC 34 .add 27 1,qM 27 34])))
def aIL:SF:=⟨36,[.tmp 2],.seq (.reg [sO 2 (.mv (.c (.nilsl)))]) (.seq (.reg [qI 3 0]) (.seq (.seq (.reg [qM 9 0,qN 10 9,qI 11 0]) (.block 0 (.loop aGT))) (.seq (.reg [qM 23 3,sO 24 (.call true 161 [.c (.nilsl),.t 23]),qM 6 24]) (.seq (.seq (.reg [qM 25 0,qN 26 25,qI 27 0]) (.block 2 (.loop aHo))) (.seq (.reg [qM 35 6,qM 2 35]) (.ret))))))⟩
theorem aEG:aL Tryz.prog ⟨[58,129,130,131,149,155,161,182,183,185,191,192,208,209,210,224,228,231,236],[],[],[]⟩ Tryz.f117=some aIL:=by kernel_rfl
def aNU:SC:=.seq (.reg [qP 21 .lss 20 19]) (.seq (.cond (.t 21) (.skip) (.exit 1)) (.seq (.block 2 (.seq (.reg [qA 22 5 18 20,qL 23 5 22,sO 4 (.alloc 194 [.bool false,.nilsl,.nilsl,.nilsl,.nilsl]),sN (.store 5 (.t 4) (.t 23))]) (.seq (.reg [qI 5 0]) (.seq (.seq (.reg [qF 24 0 4,ql 25 24]) (.cond (.t 25) (.reg [qL 26 5 4,sO 27 (.call false 162 [.t 26]),qM 5 27]) (.reg [qL 28 5 4,qF 29 0 1,ql 30 29,qN 31 30,sO 32 (.call false 163 [.t 28,.t 31]),qM 5 32]))) (.seq (.reg [qM 33 5,qC 34 .neq 33 0]) (.cond (.t 34) (.seq (.reg [qM 35 5,qM 2 35]) (.ret)) (.skip))))))) (.reg [qC 36 .add 20 1,qM 20 36])))
def aPR:SF:=⟨48,[.tmp 2],.seq (.reg [sO 1 (.box 142 1 (.t 0)),qI 2 0]) (.seq (.block 0 (.seq (.reg [qF 8 0 1,ql 9 8,qN 10 9,qC 11 .eql 10 0,qM 7 11]) (.cond (.t 7) (.seq (.reg [qI 2 19]) (.ret)) (.seq (.reg [qF 13 0 1,ql 14 13,qN 15 14,qC 16 .gtr 15 4096,qM 12 16]) (.cond (.t 12) (.seq (.reg [qI 2 11]) (.ret)) (.skip)))))) (.seq (.seq (.reg [qF 17 0 1,ql 18 17,qN 19 18,qI 20 0]) (.block 1 (.loop aNU))) (.seq (.seq (.reg [qL 37 1 1,sO 38 (.call false 164 [.t 37]),sO 39 (.un .not (.t 38))]) (.cond (.t 39) (.seq (.reg [qI 2 1]) (.ret)) (.skip))) (.seq (.seq (.reg [qL 40 1 1,sO 41 (.call false 124 [.t 40]),qM 6 41]) (.seq (.reg [qM 42 6,sO 43 (.call false 123 [.t 42]),qN 44 43,qM 45 6,qN 46 45,qP 47 .neq 44 46]) (.cond (.t 47) (.seq (.reg [qI 2 7]) (.ret)) (.skip)))) (.seq (.reg [qI 2 0]) (.ret))))))⟩
theorem aJa:aL Tryz.prog ⟨[58,129,130,131,149,155,161,182,183,185,191,192,208,209,210,224,228,231,236],[],[],[]⟩ Tryz.f118=some aPR:=by kernel_rfl
def aP5:SF:=⟨17,[.tmp 4],.seq (.reg [sO 3 (.box 3 1 (.t 1)),qI 4 0]) (.seq (.block 0 (.seq (.reg [ql 6 3,sO 7 (.call false 165 [.t 6]),sO 8 (.un .not (.t 7)),qM 5 8]) (.cond (.t 5) (.seq (.reg [qI 4 2]) (.ret)) (.seq (.reg [qM 10 0,qN 11 10,qC 12 .gtr 11 1024,qM 9 12]) (.cond (.t 9) (.seq (.reg [qI 4 3]) (.ret)) (.seq (.reg [qM 14 0,sO 15 (.mkf 167 [.t 3]),sO 16 (.call false 166 [.t 14,.t 15]),qM 13 16]) (.cond (.t 13) (.seq (.reg [qI 4 1]) (.ret)) (.skip)))))))) (.seq (.reg [qI 4 0]) (.ret)))⟩
theorem aIC:aL Tryz.prog ⟨[58,129,130,131,149,155,161,182,183,185,191,192,208,209,210,224,228,231,236],[],[],[]⟩ Tryz.f119=some aP5:=by kernel_rfl
def aL4:List SO:=[
 qF 31 0 3,
 ql 32 31,
 qM 33 11,
 qA 34 5 32 33,
 qF 35 0 34,
 ql 36 35,
 sO 37 (.un .not (.t 36))]
def aOq:List SO:=[
 qF 38 0 3,
 ql 39 38,
 qM 40 11,
 qA 41 5 39 40,
 qL 42 5 41,
 sO 12 (.alloc 194 [.bool false,.nilsl,.nilsl,.nilsl,.nilsl]),
 sN (.store 5 (.t 12) (.t 42))]
def aIc:List SO:=[
 qL 56 2 4,
 qM 57 13,
 sO 58 (.call false 132 [.t 56,.t 57]),
 qM 55 58,
 qE 59 55 0,
 qE 60 55 1,
 qM 15 59,
 qM 16 60]
def aIi:List SO:=[
 qL 65 5 12,
 qM 66 15,
 qM 67 2,
 qN 68 67,
 sO 69 (.slice 1 (.t 66) (some (.t 68)) none),
 sO 70 (.call false 127 [.t 65,.t 69]),
 qM 64 70,
 qE 71 64 0,
 qE 72 64 1,
 qM 17 71,
 qM 18 72]
def aPj:SC:=.seq (.seq (.reg aL4) (.cond (.t 37) (.skip) (.exit 0))) (.block 1 (.seq (.reg aOq) (.seq (.reg [qM 43 2,qF 44 2 12,ql 45 44,sO 46 (.bslice 38 1 false [.nilsl] 2 [(0,.t 43),(1,.t 45)]),sO 47 (.call false 84 [.t 46]),qM 13 47]) (.seq (.seq (.reg [qM 48 13,qF 49 0 4,ql 50 49,sO 51 (.call false 119 [.t 48,.t 50]),qM 14 51]) (.seq (.reg [qM 52 14,qC 53 .neq 52 0]) (.cond (.t 53) (.seq (.reg [qM 54 14,qI 6 0,sO 7 (.mv (.c (.nilsl))),qM 8 54]) (.ret)) (.skip)))) (.seq (.reg aIc) (.seq (.seq (.reg [qM 61 16,sO 62 (.un .not (.t 61))]) (.cond (.t 62) (.seq (.reg [qM 63 13,qI 6 0,qM 7 63,qI 8 0]) (.ret)) (.skip))) (.seq (.reg aIi) (.seq (.seq (.reg [qM 73 18,sO 74 (.un .not (.t 73))]) (.cond (.t 74) (.exit 0) (.skip))) (.reg [qF 75 4 12,ql 76 75,qM 77 17,qA 78 1 76 77,ql 79 78,qM 11 79])))))))))
def aNT:SF:=⟨81,[.tmp 6,.tmp 7,.tmp 8],.seq (.reg [sO 3 (.box 142 1 (.t 0)),sO 4 (.box 88 2 (.t 1)),qI 6 0,sO 7 (.mv (.c (.nilsl))),qI 8 0]) (.seq (.seq (.reg [qL 19 1 3,sO 20 (.call false 118 [.t 19]),qM 9 20]) (.seq (.reg [qM 21 9,qC 22 .neq 21 0]) (.cond (.t 22) (.seq (.reg [qM 23 9,qI 6 0,sO 7 (.mv (.c (.nilsl))),qM 8 23]) (.ret)) (.skip)))) (.seq (.seq (.reg [qM 24 2,qF 25 0 4,ql 26 25,sO 27 (.call false 119 [.t 24,.t 26]),qM 10 27]) (.seq (.reg [qM 28 10,qC 29 .neq 28 0]) (.cond (.t 29) (.seq (.reg [qM 30 10,qI 6 0,sO 7 (.mv (.c (.nilsl))),qM 8 30]) (.ret)) (.skip)))) (.seq (.reg [qI 11 0]) (.seq (.block 0 (.loop aPj)) (.seq (.reg [qM 80 11,qM 6 80,sO 7 (.mv (.c (.nilsl))),qI 8 0]) (.ret))))))⟩
theorem aJU:aL Tryz.prog ⟨[58,129,130,131,149,155,161,182,183,185,191,192,208,209,210,224,228,231,236],[],[],[]⟩ Tryz.f120=some aNT:=by kernel_rfl
def aMZ:List SO:=[
 qF 8 2 2,
 qL 9 2 8,
 qM 10 1,
 sO 11 (.call false 132 [.t 9,.t 10]),
 qM 7 11,
 qE 12 7 0,
 qE 13 7 1,
 qM 5 12,
 qM 6 13]
def aMU:SF:=⟨15,[.tmp 4],.seq (.reg [sO 2 (.box 148 4 (.t 0)),sO 4 (.mv (.c (.bool false)))]) (.seq (.reg aMZ) (.seq (.reg [qM 14 6,qM 4 14]) (.ret)))⟩
theorem aKc:aL Tryz.prog ⟨[58,129,130,131,149,155,161,182,183,185,191,192,208,209,210,224,228,231,236],[],[],[]⟩ Tryz.f121=some aMU:=by kernel_rfl
def aMz:List SO:=[
 qM 15 3,
 qF 16 1 5,
 ql 17 16,
 sO 18 (.bslice 38 1 false [.nilsl] 1 [(0,.t 17)]),
 sO 19 (.call false 84 [.t 18]),
 sO 20 (.bslice 38 1 false [.nilsl] 1 [(0,.t 19)]),
 sO 21 (.append 38 1 24 (.t 15) (.t 20)),
 qM 3 21]
def aPO:SC:=.seq (.reg [qP 10 .lss 9 8]) (.seq (.cond (.t 10) (.skip) (.exit 0)) (.seq (.block 1 (.seq (.reg [qA 11 5 7 9,qL 12 5 11,sO 5 (.alloc 194 [.bool false,.nilsl,.nilsl,.nilsl,.nilsl]),sN (.store 5 (.t 5) (.t 12))]) (.seq (.reg [qF 13 0 5,ql 14 13]) (.cond (.t 14) (.reg aMz) (.skip))))) (.reg [qC 22 .add 9 1,qM 9 22])))
def aQI:SF:=⟨24,[.tmp 2],.seq (.reg [sO 1 (.box 142 1 (.t 0)),sO 2 (.mv (.c (.nilsl)))]) (.seq (.reg [sO 3 (.lazy 38 1)]) (.seq (.seq (.reg [qF 6 0 1,ql 7 6,qN 8 7,qI 9 0]) (.block 0 (.loop aPO))) (.seq (.reg [qM 23 3,qM 2 23]) (.ret))))⟩
theorem aKP:aL Tryz.prog ⟨[58,129,130,131,149,155,161,182,183,185,191,192,208,209,210,224,228,231,236],[3],[],[]⟩ Tryz.f124=some aQI:=by kernel_rfl
def aL2:List SO:=[
 qM 8 1,
 qC 9 .lss 8 0,
 qM 10 9,
 ⟨some (10,false),some 11,.mv (.t 1)⟩,
 ⟨some (10,false),some 12,.fld 0 (.t 3)⟩,
 ⟨some (10,false),some 13,.load false 1 (.t 12)⟩,
 ⟨some (10,false),some 14,.len (.t 13)⟩,
 ⟨some (10,false),some 15,.bin .geq (.t 11) (.t 14)⟩,
 sO 16 (.pick (.t 10) (.c (.bool true)) (.t 15)),
 qM 7 16]
def aMn:List SO:=[
 qF 18 0 3,
 ql 19 18,
 qM 20 1,
 qA 21 5 19 20,
 qF 22 0 21,
 ql 23 22,
 qM 24 2,
 sO 25 (.bbin .neq (.t 23) (.t 24)),
 qM 17 25]
def aPK:SF:=⟨26,[.tmp 6],.seq (.reg [sO 3 (.box 142 1 (.t 0)),qI 6 0]) (.seq (.block 0 (.seq (.reg aL2) (.cond (.t 7) (.seq (.reg [qI 6 2]) (.ret)) (.seq (.reg aMn) (.cond (.t 17) (.seq (.reg [qI 6 10]) (.ret)) (.skip)))))) (.seq (.reg [qI 6 0]) (.ret)))⟩
theorem aH9:aL Tryz.prog ⟨[58,129,130,131,149,155,161,182,183,185,191,192,208,209,210,224,228,231,236],[],[],[]⟩ Tryz.f125=some aPK:=by kernel_rfl
def aNk:SF:=⟨12,[.tmp 4],.seq (.reg [qI 4 0]) (.seq (.seq (.reg [qM 5 0,qN 6 5,qM 7 1,qN 8 7,qP 9 .neq 6 8]) (.cond (.t 9) (.seq (.reg [qI 4 1]) (.ret)) (.skip))) (.seq (.seq (.reg [qM 10 0,sO 11 (.call false 166 [.t 10,.c (.fn 172 [] [])])]) (.cond (.t 11) (.seq (.reg [qI 4 2]) (.ret)) (.skip))) (.seq (.reg [qI 4 0]) (.ret))))⟩
theorem aKF:aL Tryz.prog ⟨[58,129,130,131,149,155,161,182,183,185,191,192,208,209,210,224,228,231,236],[],[],[]⟩ Tryz.f126=some aNk:=by kernel_rfl
def aMy:List SO:=[
 qF 6 3 2,
 ql 7 6,
 qM 8 1,
 sO 9 (.call false 173 [.t 7,.t 8,.c (.fn 169 [] [])]),
 qE 10 9 0,
 qE 11 9 1,
 qM 4 10,
 qM 5 11]
def aOi:SF:=⟨12,[.tmp 4,.tmp 5],.seq (.reg [sO 2 (.box 194 5 (.t 0)),qI 4 0,sO 5 (.mv (.c (.bool false)))]) (.seq (.reg aMy) (.ret))⟩
theorem aIH:aL Tryz.prog ⟨[58,129,130,131,149,155,161,182,183,185,191,192,208,209,210,224,228,231,236],[],[],[]⟩ Tryz.f127=some aOi:=by kernel_rfl
def aQK:SF:=⟨15,[.tmp 4],.seq (.reg [sO 2 (.box 142 1 (.t 0)),qI 4 0]) (.seq (.seq (.reg [qM 6 1,sO 7 (.call false 119 [.t 6,.c (.int .i64 64)]),qM 5 7]) (.seq (.reg [qM 8 5,qC 9 .neq 8 0]) (.cond (.t 9) (.seq (.reg [qM 10 5,qM 4 10]) (.ret)) (.skip)))) (.seq (.seq (.reg [qL 11 1 2,sO 12 (.call false 124 [.t 11]),qM 13 1,sO 14 (.call false 174 [.t 12,.t 13])]) (.cond (.t 14) (.seq (.reg [qI 4 7]) (.ret)) (.skip))) (.seq (.reg [qI 4 0]) (.ret))))⟩
theorem aKg:aL Tryz.prog ⟨[58,129,130,131,149,155,161,182,183,185,191,192,208,209,210,224,228,231,236],[],[],[]⟩ Tryz.f128=some aQK:=by kernel_rfl
def aJ0:List SO:=[
 qM 36 6,
 qM 37 8,
 sO 38 (.bslice 38 1 false [.nilsl] 1 [(0,.t 37)]),
 sO 39 (.call false 84 [.t 38]),
 sO 40 (.bslice 38 1 false [.nilsl] 1 [(0,.t 39)]),
 sO 41 (.append 38 1 24 (.t 36) (.t 40)),
 qM 6 41]
def aQu:SC:=.seq (.reg [qP 33 .lss 32 31]) (.seq (.cond (.t 33) (.skip) (.exit 2)) (.seq (.block 3 (.seq (.reg [qA 34 1 30 32,ql 35 34,qM 8 35]) (.reg aJ0))) (.reg [qC 42 .add 32 1,qM 32 42])))
def aI0:List SO:=[
 qM 43 3,
 qM 44 4,
 qF 45 0 5,
 ql 46 45,
 qF 47 1 5,
 ql 48 47,
 sO 49 (.bslice 38 1 false [.nilsl] 1 [(0,.t 48)]),
 sO 50 (.call false 84 [.t 49]),
 qF 51 2 5,
 ql 52 51,
 sO 53 (.bslice 38 1 false [.nilsl] 1 [(0,.t 52)]),
 sO 54 (.call false 84 [.t 53]),
 qM 55 6,
 qF 56 4 5,
 ql 57 56,
 sO 58 (.callA 56 [.t 57]),
 sO 59 (.build [.bool false,.nilsl,.nilsl,.nilsl,.nilsl] [(0,1,.t 46),(1,1,.t 50),(2,1,.t 54),(3,1,.t 55),(4,1,.t 58)]),
 qA 60 5 43 44,
 sN (.store 5 (.t 60) (.t 59))]
def aLT:SC:=.seq (.reg [qP 20 .lss 19 18]) (.seq (.cond (.t 20) (.skip) (.exit 0)) (.seq (.block 1 (.seq (.reg [qM 21 19,qA 22 5 17 19,qL 23 5 22,sO 5 (.alloc 194 [.bool false,.nilsl,.nilsl,.nilsl,.nilsl]),qM 4 21,sN (.store 5 (.t 5) (.t 23))]) (.seq (.reg [qF 24 3 5,ql 25 24,qN 26 25,qC 27 .add 26 1,sO 28 (.mks 38 1 24 [.nilsl] (.c (.int .i64 0)) (.t 27)),qM 6 28]) (.seq (.seq (.reg [qF 29 3 5,ql 30 29,qN 31 30,qI 32 0]) (.block 2 (.loop aQu))) (.dreg [58] aI0))))) (.reg [qC 61 .add 19 1,qM 19 61])))
def aOM:SF:=⟨64,[.cell 2 true 1],.seq (.reg [sO 1 (.box 142 1 (.t 0)),sO 2 (.alloc 142 [.nilsl])]) (.seq (.reg [qF 9 0 1,ql 10 9,qN 11 10,sO 12 (.mks 194 5 104 [.bool false,.nilsl,.nilsl,.nilsl,.nilsl] (.t 11) (.t 11)),qM 3 12]) (.seq (.reg [qM 13 3,qF 14 0 1,ql 15 14,sO 16 (.cpy 5 (.t 13) (.t 15))]) (.seq (.seq (.reg [qM 17 3,qN 18 17,qI 19 0]) (.block 0 (.loop aLT))) (.seq (.reg [qM 62 3,sO 63 (.build [.nilsl] [(0,1,.t 62)]),sN (.store 1 (.t 2) (.t 63))]) (.ret)))))⟩
theorem aIQ:aL Tryz.prog ⟨[58,129,130,131,149,155,161,182,183,185,191,192,208,209,210,224,228,231,236],[58],[],[]⟩ Tryz.f129=some aOM:=by kernel_rfl
def aPm:List SO:=[
 qF 17 1 2,
 ql 18 17,
 qM 19 6,
 qA 20 2 18 19,
 qF 21 1 20,
 ql 22 21,
 qM 7 22]
def aPx:List SO:=[
 qM 23 7,
 ql 24 3,
 qN 25 24,
 qM 26 7,
 qN 27 26,
 sO 28 (.mn (.t 25) (.t 27)),
 sO 29 (.slice 1 (.t 23) none (some (.t 28))),
 sO 30 (.call false 56 [.t 29]),
 qM 4 30,
 sO 5 (.mv (.c (.bool true)))]
def aMd:SF:=⟨31,[.tmp 4,.tmp 5],.seq (.reg [sO 2 (.box 88 2 (.t 0)),sO 3 (.box 38 1 (.t 1)),sO 4 (.mv (.c (.nilsl))),sO 5 (.mv (.c (.bool false)))]) (.seq (.seq (.reg [ql 8 3,qN 9 8,qC 10 .eql 9 0]) (.cond (.t 10) (.seq (.reg [sO 4 (.mv (.c (.nilsl))),sO 5 (.mv (.c (.bool true)))]) (.ret)) (.skip))) (.seq (.reg [qF 11 1 2,ql 12 11,sO 13 (.mkf 180 [.t 3]),sO 14 (.call false 179 [.t 12,.t 13]),qM 6 14]) (.seq (.seq (.reg [qM 15 6,qC 16 .lss 15 0]) (.cond (.t 16) (.seq (.reg [sO 4 (.mv (.c (.nilsl))),sO 5 (.mv (.c (.bool false)))]) (.ret)) (.skip))) (.seq (.reg aPm) (.seq (.reg aPx) (.ret))))))⟩
theorem aJX:aL Tryz.prog ⟨[58,129,130,131,149,155,161,182,183,185,191,192,208,209,210,224,228,231,236],[],[],[]⟩ Tryz.f132=some aMd:=by kernel_rfl
def aPV:List SO:=[
 qM 34 12,
 qM 35 11,
 sO 36 (.nilck (.t 35)),
 qF 37 4 36,
 ql 38 37,
 qM 6 34,
 qM 7 38,
 qI 8 0]
def aOJ:SF:=⟨39,[.tmp 6,.tmp 7,.tmp 8],.seq (.reg [sO 3 (.box 24 4 (.t 0)),sO 6 (.mv (.c (.nilsl))),qI 7 0,qI 8 0]) (.seq (.seq (.reg [qL 13 4 3,qM 14 1,sO 15 (.call false 181 [.t 13,.t 14]),qM 9 15]) (.seq (.reg [qM 16 9,qC 17 .neq 16 0]) (.cond (.t 17) (.seq (.reg [qM 18 9,sO 6 (.mv (.c (.nilsl))),qI 7 0,qM 8 18]) (.ret)) (.skip)))) (.seq (.seq (.reg [qM 19 2,qF 20 0 3,ql 21 20,sO 22 (.call false 119 [.t 19,.t 21]),qM 10 22]) (.seq (.reg [qM 23 10,qC 24 .neq 23 0]) (.cond (.t 24) (.seq (.reg [qM 25 10,sO 6 (.mv (.c (.nilsl))),qI 7 0,qM 8 25]) (.ret)) (.skip)))) (.seq (.reg [qL 26 4 3,sO 27 (.build [.int .i64 0,.int .i64 0,.nilsl,.nilsl] [(0,4,.t 26)]),qM 28 1,sO 29 (.build [.int .i64 0,.int .i64 0,.nilsl,.nilsl,.int .i64 0] [(0,4,.t 27),(4,1,.t 28)]),sO 30 (.box 285 5 (.t 29)),qM 11 30]) (.seq (.reg [qM 31 11,qM 32 2,sO 33 (.call true 182 [.t 31,.t 32]),qM 12 33]) (.seq (.reg aPV) (.ret))))))⟩
theorem aJj:aL Tryz.prog ⟨[58,129,130,131,149,155,161,182,183,185,191,192,208,209,210,224,228,231,236],[],[],[]⟩ Tryz.f133=some aOJ:=by kernel_rfl
def aNa:List SO:=[
 qM 30 6,
 qL 31 2 8,
 sO 32 (.call true 185 [.t 30,.t 31]),
 qM 29 32,
 qE 33 29 0,
 qE 34 29 1,
 qM 10 33,
 qM 11 34]
def aOA:SC:=.seq (.reg [qP 18 .lss 17 16]) (.seq (.cond (.t 18) (.skip) (.exit 0)) (.seq (.block 1 (.seq (.reg [qA 19 2 15 17,qL 20 2 19,sO 8 (.alloc 199 [.nilsl,.nilsl]),sN (.store 2 (.t 8) (.t 20))]) (.seq (.seq (.reg [qL 21 2 8,qF 22 0 2,ql 23 22,sO 24 (.call false 184 [.t 21,.t 23]),qM 9 24]) (.seq (.reg [qM 25 9,qC 26 .neq 25 0]) (.cond (.t 26) (.seq (.reg [qL 27 2 2,qM 28 9,sN (.store 2 (.t 4) (.t 27)),qM 5 28]) (.ret)) (.skip)))) (.seq (.reg aNa) (.seq (.seq (.reg [qM 35 11,qC 36 .neq 35 0]) (.cond (.t 36) (.seq (.reg [qL 37 2 2,qM 38 11,sN (.store 2 (.t 4) (.t 37)),qM 5 38]) (.ret)) (.skip))) (.reg [qM 39 10,qM 6 39])))))) (.reg [qC 40 .add 17 1,qM 17 40])))
def aQE:SF:=⟨45,[.cell 4 true 2,.tmp 5],.seq (.reg [sO 2 (.box 88 2 (.t 0)),sO 4 (.alloc 88 [.int .i64 0,.nilsl]),qI 5 0]) (.seq (.reg [qF 12 1 2,ql 13 12,sO 14 (.call true 183 [.t 13]),qM 6 14]) (.seq (.seq (.reg [qM 15 1,qN 16 15,qI 17 0]) (.block 0 (.loop aOA))) (.seq (.reg [qF 41 0 2,ql 42 41,qM 43 6,sO 44 (.build [.int .i64 0,.nilsl] [(0,1,.t 42),(1,1,.t 43)]),sN (.store 2 (.t 4) (.t 44)),qI 5 0]) (.ret))))⟩
theorem aKq:aL Tryz.prog ⟨[58,129,130,131,149,155,161,182,183,185,191,192,208,209,210,224,228,231,236],[],[],[]⟩ Tryz.f134=some aQE:=by kernel_rfl
def aOb:List SO:=[
 qL 35 2 4,
 qM 36 2,
 sO 37 (.call false 132 [.t 35,.t 36]),
 qM 34 37,
 qE 38 34 0,
 qE 39 34 1,
 qM 10 38,
 qM 11 39]
def aKn:List SO:=[
 qL 42 5 3,
 qL 43 2 4,
 qM 44 2,
 qF 45 0 3,
 qF 46 1 45,
 ql 47 46,
 sO 48 (.bslice 3 1 true [.int .i64 0] 1 [(0,.t 47)]),
 sO 49 (.build [.int .i64 0,.int .i64 0,.nilsl,.nilsl,.nilsl,.int .i64 0,.nilsl,.nilsl,.nilsl,.nilsl] [(0,5,.t 42),(5,2,.t 43),(7,1,.t 44),(8,1,.t 48)]),
 sO 50 (.box 291 10 (.t 49)),
 qM 12 50]
def aJz:List SO:=[
 qM 60 12,
 qM 61 12,
 sO 62 (.nilck (.t 61)),
 qF 63 9 62,
 ql 64 63,
 qF 65 0 3,
 qF 66 3 65,
 ql 67 66,
 qM 68 13,
 qA 69 1 67 68,
 ql 70 69,
 qM 71 15,
 qA 72 1 70 71,
 ql 73 72,
 sO 74 (.bslice 3 1 false [.int .i64 0] 1 [(0,.t 73)]),
 sO 75 (.append 3 1 8 (.t 64) (.t 74)),
 sO 76 (.nilck (.t 60)),
 qF 77 9 76,
 sN (.store 1 (.t 77) (.t 75))]
def aKG:List SO:=[
 qF 78 0 3,
 qF 79 2 78,
 ql 80 79,
 qM 81 13,
 qA 82 1 80 81,
 ql 83 82,
 qM 84 15,
 qA 85 1 83 84,
 ql 86 85,
 qM 13 86]
def aJg:List SO:=[
 qM 87 12,
 qM 88 12,
 sO 89 (.nilck (.t 88)),
 qF 90 8 89,
 ql 91 90,
 qM 92 13,
 sO 93 (.bslice 3 1 false [.int .i64 0] 1 [(0,.t 92)]),
 sO 94 (.append 3 1 8 (.t 91) (.t 93)),
 sO 95 (.nilck (.t 87)),
 qF 96 8 95,
 sN (.store 1 (.t 96) (.t 94))]
def aO0:SC:=.seq (.reg [qP 57 .lss 56 55]) (.seq (.cond (.t 57) (.skip) (.exit 0)) (.seq (.block 1 (.seq (.reg [qA 58 1 54 56,ql 59 58,qM 15 59]) (.seq (.reg aJz) (.seq (.reg aKG) (.reg aJg))))) (.reg [qC 97 .add 56 1,qM 56 97])))
def aLX:SF:=⟨105,[.tmp 6,.tmp 7],.seq (.reg [sO 3 (.box 85 5 (.t 0)),sO 4 (.box 88 2 (.t 1)),sO 6 (.mv (.c (.nilp))),qI 7 0]) (.seq (.seq (.reg [qL 16 5 3,sO 17 (.call false 98 [.t 16]),qM 8 17]) (.seq (.reg [qM 18 8,qC 19 .neq 18 0]) (.cond (.t 19) (.seq (.reg [qM 20 8,sO 6 (.mv (.c (.nilp))),qM 7 20]) (.ret)) (.skip)))) (.seq (.seq (.reg [qF 21 0 3,qF 22 0 21,ql 23 22,qF 24 0 4,ql 25 24,qP 26 .neq 23 25]) (.cond (.t 26) (.seq (.reg [sO 6 (.mv (.c (.nilp))),qI 7 15]) (.ret)) (.skip))) (.seq (.seq (.reg [qM 27 2,qF 28 0 4,ql 29 28,sO 30 (.call false 119 [.t 27,.t 29]),qM 9 30]) (.seq (.reg [qM 31 9,qC 32 .neq 31 0]) (.cond (.t 32) (.seq (.reg [qM 33 9,sO 6 (.mv (.c (.nilp))),qM 7 33]) (.ret)) (.skip)))) (.seq (.reg aOb) (.seq (.seq (.reg [qM 40 11,sO 41 (.un .not (.t 40))]) (.cond (.t 41) (.seq (.reg [sO 6 (.mv (.c (.nilp))),qI 7 12]) (.ret)) (.skip))) (.seq (.reg aKn) (.seq (.reg [qF 51 0 3,qF 52 1 51,ql 53 52,qM 13 53]) (.seq (.seq (.reg [qM 54 2,qN 55 54,qI 56 0]) (.block 0 (.loop aO0))) (.seq (.seq (.reg [qM 98 10,qM 99 12,sO 100 (.nilck (.t 99)),qF 101 9 100,ql 102 101,sO 103 (.call false 97 [.t 98,.t 102])]) (.cond (.t 103) (.seq (.reg [sO 6 (.mv (.c (.nilp))),qI 7 8]) (.ret)) (.skip))) (.seq (.reg [qM 104 12,qM 6 104,qI 7 0]) (.ret)))))))))))⟩
theorem aIR:aL Tryz.prog ⟨[58,129,130,131,149,155,161,182,183,185,191,192,208,209,210,224,228,231,236],[48],[],[]⟩ Tryz.f135=some aLX:=by kernel_rfl
def aL6:List SO:=[
 ql 15 2,
 sO 16 (.nilck (.t 15)),
 qF 17 7 16,
 ql 18 17,
 qN 19 18,
 qI 8 0,
 qM 9 19]
def aMk:List SO:=[
 ql 36 2,
 sO 37 (.nilck (.t 36)),
 qF 38 5 37,
 qL 39 2 38,
 qM 40 11,
 sO 41 (.call false 132 [.t 39,.t 40]),
 qM 35 41,
 qE 42 35 0,
 qE 43 35 1,
 qM 12 42,
 qM 13 43]
def aL3:SC:=.seq (.seq (.reg [qM 20 9,qM 21 8,qP 22 .sub 20 21,qC 23 .gtr 22 1]) (.cond (.t 23) (.skip) (.exit 0))) (.block 1 (.seq (.reg [qM 24 1,qM 25 8,qM 26 9,sO 27 (.callv false (.t 24) [.t 25,.t 26]),qM 10 27]) (.seq (.reg [ql 28 2,qM 29 10,sO 30 (.call false 188 [.t 28,.t 29]),qM 11 30]) (.seq (.seq (.reg [qM 31 11,qN 32 31,qC 33 .gtr 32 1024]) (.cond (.t 33) (.seq (.reg [sO 34 (.build [.nilsl,.int .i64 0,.nilsl] []),sN (.store 3 (.t 4) (.t 34)),sO 5 (.mv (.c (.nilsl))),qI 6 3]) (.ret)) (.skip))) (.seq (.seq (.reg aMk) (.seq (.reg [qM 44 13,sO 45 (.un .not (.t 44))]) (.cond (.t 45) (.seq (.reg [sO 46 (.build [.nilsl,.int .i64 0,.nilsl] []),qM 47 11,sN (.store 3 (.t 4) (.t 46)),qM 5 47,qI 6 0]) (.ret)) (.skip)))) (.seq (.reg [qM 48 7,qM 49 10,sO 50 (.callv false (.t 48) [.t 49])]) (.cond (.t 50) (.reg [qM 51 10,qM 8 51]) (.reg [qM 52 10,qM 9 52]))))))))
def aIX:List SO:=[
 ql 53 2,
 qM 54 8,
 sO 55 (.call false 189 [.t 53,.t 54]),
 qE 56 55 0,
 qE 57 55 1,
 qE 58 55 2,
 sN (.store 3 (.t 4) (.t 56)),
 qM 5 57,
 qM 6 58]
def aMw:SF:=⟨59,[.cell 4 true 3,.tmp 5,.tmp 6],.seq (.reg [sO 2 (.box 244 1 (.t 0)),sO 4 (.alloc 204 [.nilsl,.int .i64 0,.nilsl]),sO 5 (.mv (.c (.nilsl))),qI 6 0]) (.seq (.reg [sO 14 (.mkf 186 [.t 2]),qM 7 14]) (.seq (.reg aL6) (.seq (.block 0 (.loop aL3)) (.seq (.reg aIX) (.ret)))))⟩
theorem aI3:aL Tryz.prog ⟨[58,129,130,131,149,155,161,182,183,185,191,192,208,209,210,224,228,231,236],[],[],[]⟩ Tryz.f136=some aMw:=by kernel_rfl
def aNh:SF:=⟨9,[.tmp 4],.seq (.reg [qI 4 0]) (.seq (.reg [qM 5 0,qM 6 1,qP 7 .add 5 6,qC 8 .quo 7 2,qM 4 8]) (.ret))⟩
theorem aHY:aL Tryz.prog ⟨[58,129,130,131,149,155,161,182,183,185,191,192,208,209,210,224,228,231,236],[],[],[]⟩ Tryz.f137=some aNh:=by kernel_rfl
def aO9:List SO:=[
 qF 12 0 3,
 ql 13 12,
 qF 14 0 2,
 qF 15 0 14,
 ql 16 15,
 sO 17 (.call false 119 [.t 13,.t 16]),
 qM 6 17]
def aL9:List SO:=[
 qF 21 1 3,
 ql 22 21,
 qC 23 .lss 22 0,
 qM 24 23,
 ⟨some (24,false),some 25,.fld 1 (.t 3)⟩,
 ⟨some (24,false),some 26,.load false 1 (.t 25)⟩,
 ⟨some (24,false),some 27,.fld 0 (.t 2)⟩,
 ⟨some (24,false),some 28,.fld 0 (.t 27)⟩,
 ⟨some (24,false),some 29,.load false 1 (.t 28)⟩,
 ⟨some (24,false),some 30,.bin .geq (.t 26) (.t 29)⟩,
 sO 31 (.pick (.t 24) (.c (.bool true)) (.t 30))]
def aIt:List SO:=[
 qF 36 2 3,
 ql 37 36,
 qF 38 0 2,
 qF 39 0 38,
 ql 40 39,
 sO 41 (.call false 119 [.t 37,.t 40]),
 qM 4 41]
def aOs:SF:=⟨42,[.tmp 4],.seq (.reg [sO 2 (.box 148 4 (.t 0)),sO 3 (.box 204 3 (.t 1)),qI 4 0]) (.seq (.seq (.reg [qL 7 4 2,sO 8 (.call false 87 [.t 7]),qM 5 8]) (.seq (.reg [qM 9 5,qC 10 .neq 9 0]) (.cond (.t 10) (.seq (.reg [qM 11 5,qM 4 11]) (.ret)) (.skip)))) (.seq (.seq (.reg aO9) (.seq (.reg [qM 18 6,qC 19 .neq 18 0]) (.cond (.t 19) (.seq (.reg [qM 20 6,qM 4 20]) (.ret)) (.skip)))) (.seq (.seq (.reg aL9) (.cond (.t 31) (.seq (.reg [qI 4 2]) (.ret)) (.skip))) (.seq (.seq (.reg [qF 32 2 3,ql 33 32,qN 34 33,qC 35 .eql 34 0]) (.cond (.t 35) (.seq (.reg [qI 4 19]) (.ret)) (.skip))) (.seq (.reg aIt) (.ret))))))⟩
theorem aJZ:aL Tryz.prog ⟨[58,129,130,131,149,155,161,182,183,185,191,192,208,209,210,224,228,231,236],[],[],[]⟩ Tryz.f138=some aOs:=by kernel_rfl
def aMl:List SO:=[
 qL 25 1 6,
 qM 26 1,
 qM 27 2,
 qM 28 3,
 qM 29 4,
 qM 30 5,
 sO 31 (.call false 190 [.t 25,.t 26,.t 27,.t 28,.t 29,.t 30]),
 qM 15 31]
def aPk:List SO:=[
 qF 38 0 16,
 ql 39 38,
 qM 40 1,
 qA 41 5 39 40,
 qL 42 5 41,
 sO 17 (.alloc 194 [.bool false,.nilsl,.nilsl,.nilsl,.nilsl]),
 sN (.store 5 (.t 17) (.t 42))]
def aNS:List SO:=[
 qM 43 2,
 sO 44 (.bslice 38 1 false [.nilsl] 1 [(0,.t 43)]),
 sO 45 (.call false 84 [.t 44]),
 qM 46 3,
 sO 47 (.bslice 38 1 false [.nilsl] 1 [(0,.t 46)]),
 sO 48 (.call false 84 [.t 47]),
 qM 49 5,
 sO 50 (.bslice 38 1 false [.nilsl] 1 [(0,.t 49)]),
 sO 51 (.call false 84 [.t 50]),
 qF 53 0 6,
 ql 54 53,
 qN 55 54,
 qF 56 0 6,
 ql 57 56,
 qN 58 57,
 qC 59 .add 58 1,
 sO 52 (.bslice 38 1 true [.nilsl] 2 [(0,.t 48),(1,.t 51)]),
 sO 60 (.bslice 3 1 true [.int .i64 0] 2 [(0,.t 55),(1,.t 59)]),
 sO 61 (.build [.bool false,.nilsl,.nilsl,.nilsl,.nilsl] [(2,1,.t 45),(3,1,.t 52),(4,1,.t 60)]),
 sO 18 (.alloc 194 [.bool false,.nilsl,.nilsl,.nilsl,.nilsl]),
 sN (.store 5 (.t 18) (.t 61))]
def aJC:List SO:=[
 qF 77 0 16,
 ql 78 77,
 qL 79 5 17,
 qM 80 4,
 sO 81 (.bslice 38 1 false [.nilsl] 1 [(0,.t 80)]),
 sO 82 (.call false 84 [.t 81]),
 sO 83 (.build [.bool false,.nilsl,.nilsl,.nilsl,.nilsl] [(0,1,.c (.bool true)),(1,1,.t 82)]),
 sO 84 (.bslice 194 5 false [.bool false,.nilsl,.nilsl,.nilsl,.nilsl] 2 [(0,.t 79),(1,.t 83)]),
 sO 85 (.append 194 5 104 (.t 78) (.t 84)),
 qF 86 0 16,
 sN (.store 1 (.t 86) (.t 85))]
def aOm:SF:=⟨88,[.cell 12 true 1,.tmp 13],.seq (.reg [sO 6 (.box 142 1 (.t 0)),sO 12 (.alloc 142 [.nilsl]),qI 13 0]) (.seq (.seq (.reg [qL 19 1 6,sO 20 (.call false 118 [.t 19]),qM 14 20]) (.seq (.reg [qM 21 14,qC 22 .neq 21 0]) (.cond (.t 22) (.seq (.reg [qL 23 1 6,qM 24 14,sN (.store 1 (.t 12) (.t 23)),qM 13 24]) (.ret)) (.skip)))) (.seq (.seq (.reg aMl) (.seq (.reg [qM 32 15,qC 33 .neq 32 0]) (.cond (.t 33) (.seq (.reg [qL 34 1 6,qM 35 15,sN (.store 1 (.t 12) (.t 34)),qM 13 35]) (.ret)) (.skip)))) (.seq (.reg [qL 36 1 6,sO 37 (.call true 129 [.t 36]),sO 16 (.alloc 142 [.nilsl]),sN (.store 1 (.t 16) (.t 37))]) (.seq (.reg aPk) (.seq (.dreg [52,60,18] aNS) (.seq (.seq (.reg [qM 62 3,qM 63 5,sO 64 (.call false 169 [.t 62,.t 63]),qC 65 .gtr 64 0]) (.cond (.t 65) (.seq (.reg [qF 66 3 18,ql 67 66,sO 68 (.call true 191 [.t 67])]) (.reg [qF 69 4 18,ql 70 69,sO 71 (.call true 192 [.t 70])])) (.skip))) (.seq (.reg [qF 72 0 16,ql 73 72,qM 74 1,qL 75 5 18,qA 76 5 73 74,sN (.store 5 (.t 76) (.t 75))]) (.seq (.reg aJC) (.seq (.reg [qL 87 1 16,sN (.store 1 (.t 12) (.t 87)),qI 13 0]) (.ret))))))))))⟩
theorem aJt:aL Tryz.prog ⟨[58,129,130,131,149,155,161,182,183,185,191,192,208,209,210,224,228,231,236],[52,60],[],[]⟩ Tryz.f139=some aOm:=by kernel_rfl
def aPH:List SO:=[
 qF 3 2 1,
 ql 4 3,
 qN 5 4,
 qF 6 3 1,
 ql 7 6,
 qN 8 7,
 qP 9 .add 5 8,
 qF 10 4 1,
 ql 11 10,
 qN 12 11,
 qP 13 .add 9 12,
 qC 14 .gtr 13 0]
def aQV:SF:=⟨18,[.tmp 2],.seq (.reg [sO 1 (.box 194 5 (.t 0)),qI 2 0]) (.seq (.seq (.reg aPH) (.cond (.t 14) (.seq (.reg [qI 2 1]) (.ret)) (.skip))) (.seq (.reg [qF 15 1 1,ql 16 15,sO 17 (.call false 119 [.t 16,.c (.int .i64 64)]),qM 2 17]) (.ret)))⟩
theorem aJl:aL Tryz.prog ⟨[58,129,130,131,149,155,161,182,183,185,191,192,208,209,210,224,228,231,236],[],[],[]⟩ Tryz.f162=some aQV:=by kernel_rfl
def aQ1:List SO:=[
 qF 25 3 2,
 ql 26 25,
 qN 27 26,
 qF 28 4 2,
 ql 29 28,
 qN 30 29,
 qP 31 .neq 27 30]
def aId:List SO:=[
 qM 47 6,
 qC 48 .gtr 47 0,
 qM 49 48,
 ⟨some (49,true),some 50,.fld 3 (.t 2)⟩,
 ⟨some (49,true),some 51,.load false 1 (.t 50)⟩,
 ⟨some (49,true),some 52,.mv (.t 6)⟩,
 ⟨some (49,true),some 53,.bin .sub (.t 52) (.c (.int .i64 1))⟩,
 ⟨some (49,true),some 54,.idx 1 (.t 51) (.t 53)⟩,
 ⟨some (49,true),some 55,.load false 1 (.t 54)⟩,
 ⟨some (49,true),some 56,.mv (.t 7)⟩,
 ⟨some (49,true),some 57,.call false 169 [.t 55,.t 56]⟩,
 ⟨some (49,true),some 58,.bin .geq (.t 57) (.c (.int .i64 0))⟩,
 sO 59 (.pick (.t 49) (.t 58) (.c (.bool false)))]
def aH1:List SO:=[
 qF 60 4 2,
 ql 61 60,
 qM 62 6,
 qA 63 1 61 62,
 ql 64 63,
 qC 65 .lss 64 0,
 qM 66 65,
 ⟨some (66,false),some 67,.fld 4 (.t 2)⟩,
 ⟨some (66,false),some 68,.load false 1 (.t 67)⟩,
 ⟨some (66,false),some 69,.mv (.t 6)⟩,
 ⟨some (66,false),some 70,.idx 1 (.t 68) (.t 69)⟩,
 ⟨some (66,false),some 71,.load false 1 (.t 70)⟩,
 ⟨some (66,false),some 72,.mv (.t 1)⟩,
 ⟨some (66,false),some 73,.bin .geq (.t 71) (.t 72)⟩,
 sO 74 (.pick (.t 66) (.c (.bool true)) (.t 73))]
def aPW:SC:=.seq (.reg [qP 36 .lss 35 34]) (.seq (.cond (.t 36) (.skip) (.exit 1)) (.seq (.block 2 (.seq (.reg [qM 37 35,qA 38 1 33 35,ql 39 38,qM 6 37,qM 7 39]) (.seq (.seq (.reg [qM 40 7,qF 41 2 2,ql 42 41,sO 43 (.call false 126 [.t 40,.t 42]),qM 8 43]) (.seq (.reg [qM 44 8,qC 45 .neq 44 0]) (.cond (.t 45) (.seq (.reg [qM 46 8,qM 4 46]) (.ret)) (.skip)))) (.seq (.seq (.reg aId) (.cond (.t 59) (.seq (.reg [qI 4 10]) (.ret)) (.skip))) (.seq (.reg aH1) (.cond (.t 74) (.seq (.reg [qI 4 2]) (.ret)) (.skip))))))) (.reg [qC 75 .add 35 1,qM 35 75])))
def aL0:SF:=⟨76,[.tmp 4],.seq (.reg [sO 2 (.box 194 5 (.t 0)),qI 4 0]) (.seq (.block 0 (.seq (.reg [qF 10 1 2,ql 11 10,qN 12 11,qC 13 .gtr 12 0,qM 9 13]) (.cond (.t 9) (.seq (.reg [qI 4 1]) (.ret)) (.seq (.reg [qF 15 2 2,ql 16 15,qN 17 16,qC 18 .eql 17 0,qM 14 18]) (.cond (.t 14) (.seq (.reg [qI 4 19]) (.ret)) (.skip)))))) (.seq (.seq (.reg [qF 19 2 2,ql 20 19,sO 21 (.call false 119 [.t 20,.c (.int .i64 64)]),qM 5 21]) (.seq (.reg [qM 22 5,qC 23 .neq 22 0]) (.cond (.t 23) (.seq (.reg [qM 24 5,qM 4 24]) (.ret)) (.skip)))) (.seq (.seq (.reg aQ1) (.cond (.t 31) (.seq (.reg [qI 4 1]) (.ret)) (.skip))) (.seq (.seq (.reg [qF 32 3 2,ql 33 32,qN 34 33,qI 35 0]) (.block 1 (.loop aPW))) (.seq (.reg [qI 4 0]) (.ret))))))⟩
theorem aI9:aL Tryz.prog ⟨[58,129,130,131,149,155,161,182,183,185,191,192,208,209,210,224,228,231,236],[],[],[]⟩ Tryz.f163=some aL0:=by kernel_rfl
def aIV:List SO:=[
 qM 29 4,
 qF 30 0 1,
 ql 31 30,
 qM 32 6,
 qA 33 5 31 32,
 qF 34 4 33,
 ql 35 34,
 sO 36 (.append 3 1 8 (.t 29) (.t 35)),
 qM 4 36]
def aQj:SC:=.seq (.seq (.reg [qM 12 5,qM 13 4,qN 14 13,qP 15 .lss 12 14]) (.cond (.t 15) (.skip) (.exit 0))) (.seq (.block 1 (.seq (.reg [qM 18 4,qM 19 5,qA 20 1 18 19,ql 21 20,qM 6 21]) (.seq (.seq (.reg [qM 22 3,qM 23 6,qA 24 1 22 23,ql 25 24]) (.cond (.t 25) (.seq (.reg [sO 2 (.mv (.c (.bool false)))]) (.ret)) (.skip))) (.seq (.reg [qM 26 3,qM 27 6,qA 28 1 26 27,sN (.store 1 (.t 28) (.c (.bool true)))]) (.seq (.reg aIV) (.seq (.reg [qM 37 4,qN 38 37,qF 39 0 1,ql 40 39,qN 41 40,qP 42 .gtr 38 41]) (.cond (.t 42) (.seq (.reg [sO 2 (.mv (.c (.bool false)))]) (.ret)) (.skip)))))))) (.reg [qM 16 5,qC 17 .add 16 1,qM 5 17]))
def aKo:List SO:=[
 qM 43 4,
 qN 44 43,
 qF 45 0 1,
 ql 46 45,
 qN 47 46,
 qP 48 .eql 44 47,
 qM 2 48]
def aMs:SF:=⟨49,[.tmp 2],.seq (.reg [sO 1 (.box 142 1 (.t 0)),sO 2 (.mv (.c (.bool false)))]) (.seq (.reg [qF 7 0 1,ql 8 7,qN 9 8,sO 10 (.mks 4 1 1 [.bool false] (.t 9) (.t 9)),qM 3 10]) (.seq (.reg [sO 11 (.bslice 3 1 true [.int .i64 0] 1 [(0,.c (.int .i64 0))]),qM 4 11]) (.seq (.seq (.reg [qI 5 0]) (.block 0 (.loop aQj))) (.seq (.reg aKo) (.ret)))))⟩
theorem aKw:aL Tryz.prog ⟨[58,129,130,131,149,155,161,182,183,185,191,192,208,209,210,224,228,231,236],[11],[],[]⟩ Tryz.f164=some aMs:=by kernel_rfl
def aP1:List SO:=[
 qM 3 0,
 qC 4 .geq 3 1,
 qM 5 4,
 ⟨some (5,true),some 6,.mv (.t 0)⟩,
 ⟨some (5,true),some 7,.bin .leq (.t 6) (.c (.int .i64 1024))⟩,
 sO 8 (.pick (.t 5) (.t 7) (.c (.bool false))),
 qM 2 8]
def aOk:SF:=⟨9,[.tmp 2],.seq (.reg [sO 2 (.mv (.c (.bool false)))]) (.seq (.reg aP1) (.ret))⟩
theorem aKK:aL Tryz.prog ⟨[58,129,130,131,149,155,161,182,183,185,191,192,208,209,210,224,228,231,236],[],[],[]⟩ Tryz.f165=some aOk:=by kernel_rfl
def aPT:SF:=⟨9,[.tmp 4],.seq (.reg [sO 4 (.mv (.c (.bool false)))]) (.seq (.reg [qM 5 0,qM 6 1,sO 7 (.call false 207 [.t 5,.t 6]),qC 8 .geq 7 0,qM 4 8]) (.ret))⟩
theorem aKe:aL Tryz.prog ⟨[58,129,130,131,149,155,161,182,183,185,191,192,208,209,210,224,228,231,236],[],[],[]⟩ Tryz.f166=some aPT:=by kernel_rfl
def aOG:List SO:=[
 qM 4 0,
 qC 5 .lss 4 0,
 qM 6 5,
 ⟨some (6,false),some 7,.mv (.t 0)⟩,
 ⟨some (6,false),some 8,.load false 1 (.t 1)⟩,
 ⟨some (6,false),some 9,.bin .geq (.t 7) (.t 8)⟩,
 sO 10 (.pick (.t 6) (.c (.bool true)) (.t 9)),
 qM 3 10]
def aQg:SF:=⟨11,[.tmp 3],.seq (.reg [sO 3 (.mv (.c (.bool false)))]) (.seq (.reg aOG) (.ret))⟩
theorem aKj:aL Tryz.prog ⟨[58,129,130,131,149,155,161,182,183,185,191,192,208,209,210,224,228,231,236],[],[],[]⟩ Tryz.f167=some aQg:=by kernel_rfl
def aL1:List SO:=[
 qM 3 0,
 qC 4 .lss 3 0,
 qM 5 4,
 ⟨some (5,false),some 6,.mv (.t 0)⟩,
 ⟨some (5,false),some 7,.bin .gtr (.t 6) (.c (.int .i64 1048576))⟩,
 sO 8 (.pick (.t 5) (.c (.bool true)) (.t 7)),
 qM 2 8]
def aNc:SF:=⟨9,[.tmp 2],.seq (.reg [sO 2 (.mv (.c (.bool false)))]) (.seq (.reg aL1) (.ret))⟩
theorem aIu:aL Tryz.prog ⟨[58,129,130,131,149,155,161,182,183,185,191,192,208,209,210,224,228,231,236],[],[],[]⟩ Tryz.f172=some aNc:=by kernel_rfl
def aQc:List SO:=[
 qM 18 9,
 qM 19 10,
 qP 20 .add 18 19,
 sO 21 (.conv .u64 (.t 20)),
 sO 22 (.bin .shr (.t 21) (.c (.int .u64 1))),
 sO 23 (.conv .i64 (.t 22)),
 qM 11 23]
def aOC:List SO:=[
 qM 24 2,
 qM 25 0,
 qM 26 11,
 qA 27 1 25 26,
 ql 28 27,
 qM 29 1,
 sO 30 (.callv false (.t 24) [.t 28,.t 29]),
 qC 31 .lss 30 0]
def aPb:SC:=.seq (.seq (.reg [qM 15 9,qM 16 10,qP 17 .lss 15 16]) (.cond (.t 17) (.skip) (.exit 0))) (.block 1 (.seq (.reg aQc) (.seq (.reg aOC) (.cond (.t 31) (.reg [qM 32 11,qC 33 .add 32 1,qM 9 33]) (.reg [qM 34 11,qM 10 34])))))
def aQM:List SO:=[
 qM 35 9,
 qM 36 9,
 qM 37 8,
 qP 38 .lss 36 37,
 qM 39 38,
 ⟨some (39,true),some 40,.mv (.t 2)⟩,
 ⟨some (39,true),some 41,.mv (.t 0)⟩,
 ⟨some (39,true),some 42,.mv (.t 9)⟩,
 ⟨some (39,true),some 43,.idx 1 (.t 41) (.t 42)⟩,
 ⟨some (39,true),some 44,.load false 1 (.t 43)⟩,
 ⟨some (39,true),some 45,.mv (.t 1)⟩,
 ⟨some (39,true),some 46,.callv false (.t 40) [.t 44,.t 45]⟩,
 ⟨some (39,true),some 47,.bin .eql (.t 46) (.c (.int .i64 0))⟩,
 sO 48 (.pick (.t 39) (.t 47) (.c (.bool false))),
 qM 6 35,
 qM 7 48]
def aMQ:SF:=⟨49,[.tmp 6,.tmp 7],.seq (.reg [qI 6 0,sO 7 (.mv (.c (.bool false)))]) (.seq (.reg [qM 12 0,qN 13 12,qM 8 13]) (.seq (.reg [qM 14 8,qI 9 0,qM 10 14]) (.seq (.block 0 (.loop aPb)) (.seq (.reg aQM) (.ret)))))⟩
theorem aKH:aL Tryz.prog ⟨[58,129,130,131,149,155,161,182,183,185,191,192,208,209,210,224,228,231,236],[],[],[]⟩ Tryz.f173=some aMQ:=by kernel_rfl
def aQh:SF:=⟨8,[.tmp 4],.seq (.reg [sO 3 (.box 38 1 (.t 1)),sO 4 (.mv (.c (.bool false)))]) (.seq (.reg [qM 5 0,sO 6 (.mkf 217 [.t 3]),sO 7 (.call false 216 [.t 5,.t 6]),qM 4 7]) (.ret))⟩
theorem aJ3:aL Tryz.prog ⟨[58,129,130,131,149,155,161,182,183,185,191,192,208,209,210,224,228,231,236],[],[],[]⟩ Tryz.f174=some aQh:=by kernel_rfl
def aOc:SC:=.seq (.reg [qP 9 .lss 8 7]) (.seq (.cond (.t 9) (.skip) (.exit 0)) (.seq (.block 1 (.seq (.reg [qM 10 8,qM 5 10]) (.seq (.reg [qM 11 1,qM 12 0,qM 13 5,qA 14 2 12 13,qL 15 2 14,sO 16 (.callv false (.t 11) [.t 15])]) (.cond (.t 16) (.seq (.reg [qM 17 5,qM 4 17]) (.ret)) (.skip))))) (.reg [qC 18 .add 8 1,qM 8 18])))
def aPB:SF:=⟨19,[.tmp 4],.seq (.reg [qI 4 0]) (.seq (.seq (.reg [qM 6 0,qN 7 6,qI 8 0]) (.block 0 (.loop aOc))) (.seq (.reg [sO 4 (.mv (.c (.int .i64 (-1))))]) (.ret)))⟩
theorem aIK:aL Tryz.prog ⟨[58,129,130,131,149,155,161,182,183,185,191,192,208,209,210,224,228,231,236],[],[],[]⟩ Tryz.f179=some aPB:=by kernel_rfl
def aQi:SF:=⟨8,[.tmp 3],.seq (.reg [sO 2 (.box 199 2 (.t 0)),sO 3 (.mv (.c (.bool false)))]) (.seq (.reg [qF 4 0 2,ql 5 4,ql 6 1,sO 7 (.call false 170 [.t 5,.t 6]),qM 3 7]) (.ret))⟩
theorem aJI:aL Tryz.prog ⟨[58,129,130,131,149,155,161,182,183,185,191,192,208,209,210,224,228,231,236],[],[],[]⟩ Tryz.f180=some aQi:=by kernel_rfl
def aMO:List SO:=[
 qM 11 1,
 qC 12 .lss 11 0,
 qM 13 12,
 ⟨some (13,false),some 14,.mv (.t 1)⟩,
 ⟨some (13,false),some 15,.fld 2 (.t 2)⟩,
 ⟨some (13,false),some 16,.load false 1 (.t 15)⟩,
 ⟨some (13,false),some 17,.len (.t 16)⟩,
 ⟨some (13,false),some 18,.bin .geq (.t 14) (.t 17)⟩,
 sO 19 (.pick (.t 13) (.c (.bool true)) (.t 18))]
def aLR:SF:=⟨20,[.tmp 4],.seq (.reg [sO 2 (.box 24 4 (.t 0)),qI 4 0]) (.seq (.seq (.reg [qL 6 4 2,sO 7 (.call false 30 [.t 6]),qM 5 7]) (.seq (.reg [qM 8 5,qC 9 .neq 8 0]) (.cond (.t 9) (.seq (.reg [qM 10 5,qM 4 10]) (.ret)) (.skip)))) (.seq (.seq (.reg aMO) (.cond (.t 19) (.seq (.reg [qI 4 2]) (.ret)) (.skip))) (.seq (.reg [qI 4 0]) (.ret))))⟩
theorem aJV:aL Tryz.prog ⟨[58,129,130,131,149,155,161,182,183,185,191,192,208,209,210,224,228,231,236],[],[],[]⟩ Tryz.f181=some aLR:=by kernel_rfl
def aMD:List SO:=[
 qM 17 0,
 sO 18 (.nilck (.t 17)),
 qF 19 0 18,
 qL 20 4 19,
 qM 21 0,
 sO 22 (.nilck (.t 21)),
 qF 23 4 22,
 ql 24 23,
 qM 25 7,
 sO 26 (.call false 220 [.t 20,.t 24,.t 25]),
 qM 16 26,
 qE 27 16 0,
 qE 28 16 1,
 qM 8 27,
 qM 9 28]
def aOR:SC:=.seq (.reg [qP 13 .lss 12 11]) (.seq (.cond (.t 13) (.skip) (.exit 0)) (.seq (.block 1 (.seq (.reg [qA 14 1 10 12,ql 15 14,qM 7 15]) (.seq (.reg aMD) (.seq (.reg [qM 29 0,qM 30 8,sO 31 (.nilck (.t 29)),qF 32 4 31,sN (.store 1 (.t 32) (.t 30))]) (.reg [qM 33 5,qM 34 9,sO 35 (.bslice 3 1 false [.int .i64 0] 1 [(0,.t 34)]),sO 36 (.append 3 1 8 (.t 33) (.t 35)),qM 5 36]))))) (.reg [qC 37 .add 12 1,qM 12 37])))
def aML:SF:=⟨39,[.tmp 4],.seq (.reg [sO 4 (.mv (.c (.nilsl)))]) (.seq (.reg [sO 5 (.lazy 3 1)]) (.seq (.seq (.reg [qM 10 1,qN 11 10,qI 12 0]) (.block 0 (.loop aOR))) (.seq (.reg [qM 38 5,qM 4 38]) (.ret))))⟩
theorem aIh:aL Tryz.prog ⟨[58,129,130,131,149,155,161,182,183,185,191,192,208,209,210,224,228,231,236],[5],[],[]⟩ Tryz.f182=some aML:=by kernel_rfl
def aME:SC:=.seq (.reg [qP 13 .lss 12 11]) (.seq (.cond (.t 13) (.skip) (.exit 0)) (.seq (.block 1 (.seq (.reg [qA 14 2 10 12,qL 15 2 14,sO 5 (.alloc 199 [.nilsl,.nilsl]),sN (.store 2 (.t 5) (.t 15))]) (.reg [qM 16 3,qL 17 2 5,sO 18 (.call false 221 [.t 17]),sO 19 (.bslice 199 2 false [.nilsl,.nilsl] 1 [(0,.t 18)]),sO 20 (.append 199 2 48 (.t 16) (.t 19)),qM 3 20]))) (.reg [qC 21 .add 12 1,qM 12 21])))
def aNj:SF:=⟨23,[.tmp 2],.seq (.reg [sO 2 (.mv (.c (.nilsl)))]) (.seq (.reg [qM 6 0,qN 7 6,qC 8 .add 7 1,sO 9 (.mks 199 2 48 [.nilsl,.nilsl] (.c (.int .i64 0)) (.t 8)),qM 3 9]) (.seq (.seq (.reg [qM 10 0,qN 11 10,qI 12 0]) (.block 0 (.loop aME))) (.seq (.reg [qM 22 3,qM 2 22]) (.ret))))⟩
theorem aJT:aL Tryz.prog ⟨[58,129,130,131,149,155,161,182,183,185,191,192,208,209,210,224,228,231,236],[],[],[]⟩ Tryz.f183=some aNj:=by kernel_rfl
def aP0:List SO:=[
 qF 14 1 2,
 ql 15 14,
 qN 16 15,
 qF 17 0 2,
 ql 18 17,
 qN 19 18,
 qP 20 .neq 16 19,
 qM 13 20]
def aQq:SF:=⟨25,[.tmp 4],.seq (.reg [sO 2 (.box 199 2 (.t 0)),qI 4 0]) (.seq (.seq (.reg [qF 6 0 2,ql 7 6,qM 8 1,sO 9 (.call false 119 [.t 7,.t 8]),qM 5 9]) (.seq (.reg [qM 10 5,qC 11 .neq 10 0]) (.cond (.t 11) (.seq (.reg [qM 12 5,qM 4 12]) (.ret)) (.skip)))) (.seq (.block 0 (.seq (.reg aP0) (.cond (.t 13) (.seq (.reg [qI 4 1]) (.ret)) (.seq (.reg [qF 22 1 2,ql 23 22,sO 24 (.call false 166 [.t 23,.c (.fn 222 [] [])]),qM 21 24]) (.cond (.t 21) (.seq (.reg [qI 4 2]) (.ret)) (.skip)))))) (.seq (.reg [qI 4 0]) (.ret))))⟩
theorem aJx:aL Tryz.prog ⟨[58,129,130,131,149,155,161,182,183,185,191,192,208,209,210,224,228,231,236],[],[],[]⟩ Tryz.f184=some aQq:=by kernel_rfl
def aPl:List SO:=[
 qM 21 6,
 qM 22 21,
 ⟨some (22,false),some 23,.fld 0 (.t 8)⟩,
 ⟨some (22,false),some 24,.load false 1 (.t 23)⟩,
 ⟨some (22,false),some 25,.fld 0 (.t 3)⟩,
 ⟨some (22,false),some 26,.load false 1 (.t 25)⟩,
 ⟨some (22,false),some 27,.call false 170 [.t 24,.t 26]⟩,
 sO 28 (.pick (.t 22) (.c (.bool true)) (.t 27)),
 qM 6 28]
def aQa:SC:=.seq (.reg [qP 14 .lss 13 12]) (.seq (.cond (.t 14) (.skip) (.exit 0)) (.seq (.block 1 (.seq (.reg [qA 15 2 11 13,qL 16 2 15,sO 8 (.alloc 199 [.nilsl,.nilsl]),sN (.store 2 (.t 8) (.t 16))]) (.seq (.seq (.reg [qL 17 2 8,qL 18 2 3,sO 19 (.call false 223 [.t 17,.t 18]),qC 20 .geq 19 0]) (.cond (.t 20) (.seq (.reg [sO 4 (.mv (.c (.nilsl))),qI 5 13]) (.ret)) (.skip))) (.reg aPl)))) (.reg [qC 29 .add 13 1,qM 13 29])))
def aOy:List SO:=[
 qM 30 6,
 qM 31 30,
 ⟨some (31,false),some 32,.fld 0 (.t 3)⟩,
 ⟨some (31,false),some 33,.load false 1 (.t 32)⟩,
 ⟨some (31,false),some 34,.len (.t 33)⟩,
 ⟨some (31,false),some 35,.bin .eql (.t 34) (.c (.int .i64 0))⟩,
 sO 36 (.pick (.t 31) (.c (.bool true)) (.t 35))]
def aJK:List SO:=[
 qM 45 0,
 qL 46 2 3,
 sO 47 (.call false 226 [.t 45,.t 46,.c (.fn 227 [] [])]),
 qM 44 47,
 qE 48 44 0,
 qE 49 44 1,
 qM 9 48,
 qM 10 49]
def aJu:List SO:=[
 qM 50 0,
 qM 51 9,
 qL 52 2 3,
 sO 53 (.call false 221 [.t 52]),
 sO 54 (.bslice 199 2 true [.nilsl,.nilsl] 1 [(0,.t 53)]),
 sO 55 (.call true 228 [.t 50,.t 51,.t 54]),
 qM 4 55,
 qI 5 0]
def aQd:SF:=⟨56,[.tmp 4,.tmp 5],.seq (.reg [sO 3 (.box 199 2 (.t 1)),sO 4 (.mv (.c (.nilsl))),qI 5 0]) (.seq (.reg [sO 6 (.mv (.c (.bool false)))]) (.seq (.seq (.reg [qM 11 0,qN 12 11,qI 13 0]) (.block 0 (.loop aQa))) (.seq (.seq (.reg aOy) (.cond (.t 36) (.seq (.reg [qM 37 0,qM 4 37,qI 5 0]) (.ret)) (.skip))) (.seq (.reg [qM 38 0,sO 39 (.mkf 225 [.t 3]),sO 40 (.call true 224 [.t 38,.t 39]),qM 0 40]) (.seq (.seq (.reg [qM 41 0,qN 42 41,qC 43 .eql 42 10000]) (.cond (.t 43) (.seq (.reg [sO 4 (.mv (.c (.nilsl))),qI 5 11]) (.ret)) (.skip))) (.seq (.reg aJK) (.seq (.reg aJu) (.ret))))))))⟩
theorem aIz:aL Tryz.prog ⟨[58,129,130,131,149,155,161,182,183,185,191,192,208,209,210,224,228,231,236],[54],[],[]⟩ Tryz.f185=some aQd:=by kernel_rfl
def aNO:List SO:=[
 ql 4 1,
 qM 5 0,
 sO 6 (.call false 187 [.t 4,.t 5]),
 ql 7 1,
 sO 8 (.nilck (.t 7)),
 qF 9 9 8,
 ql 10 9,
 qM 11 0,
 sO 12 (.slice 1 (.t 10) (some (.t 11)) none),
 sO 13 (.call false 97 [.t 6,.t 12]),
 sO 14 (.un .not (.t 13)),
 qM 3 14]
def aQC:SF:=⟨15,[.tmp 3],.seq (.reg [sO 3 (.mv (.c (.bool false)))]) (.seq (.reg aNO) (.ret))⟩
theorem aJP:aL Tryz.prog ⟨[58,129,130,131,149,155,161,182,183,185,191,192,208,209,210,224,228,231,236],[],[],[]⟩ Tryz.f186=some aQC:=by kernel_rfl
def aOX:List SO:=[
 qM 8 0,
 sO 9 (.nilck (.t 8)),
 qF 10 5 9,
 qL 11 2 10,
 qM 12 0,
 qM 13 1,
 sO 14 (.call false 188 [.t 12,.t 13]),
 sO 15 (.call false 132 [.t 11,.t 14]),
 qM 7 15,
 qE 16 7 0,
 qE 17 7 1,
 qM 5 16,
 qM 6 17]
def aN9:List SO:=[
 qM 18 5,
 qM 19 5,
 qN 20 19,
 qM 21 0,
 sO 22 (.nilck (.t 21)),
 qF 23 7 22,
 ql 24 23,
 qN 25 24,
 qM 26 1,
 qP 27 .sub 25 26,
 qP 28 .sub 20 27,
 sO 29 (.slice 1 (.t 18) (some (.t 28)) none),
 qM 4 29]
def aMX:SF:=⟨30,[.tmp 4],.seq (.reg [sO 4 (.mv (.c (.nilsl)))]) (.seq (.reg aOX) (.seq (.reg aN9) (.ret)))⟩
theorem aJW:aL Tryz.prog ⟨[58,129,130,131,149,155,161,182,183,185,191,192,208,209,210,224,228,231,236],[],[],[]⟩ Tryz.f187=some aMX:=by kernel_rfl
def aOa:List SO:=[
 qM 5 0,
 sO 6 (.nilck (.t 5)),
 qF 7 0 6,
 qF 8 4 7,
 ql 9 8,
 qM 10 0,
 sO 11 (.nilck (.t 10)),
 qF 12 8 11,
 ql 13 12,
 qM 14 1,
 qA 15 1 13 14,
 ql 16 15,
 qA 17 1 9 16,
 ql 18 17,
 qM 19 0,
 sO 20 (.nilck (.t 19)),
 qF 21 7 20,
 ql 22 21,
 qM 23 1,
 sO 24 (.slice 1 (.t 22) (some (.t 23)) none),
 sO 25 (.bslice 38 1 false [.nilsl] 2 [(0,.t 18),(1,.t 24)]),
 sO 26 (.call false 84 [.t 25]),
 qM 4 26]
def aNu:SF:=⟨27,[.tmp 4],.seq (.reg [sO 4 (.mv (.c (.nilsl)))]) (.seq (.reg aOa) (.ret))⟩
theorem aKl:aL Tryz.prog ⟨[58,129,130,131,149,155,161,182,183,185,191,192,208,209,210,224,228,231,236],[],[],[]⟩ Tryz.f188=some aNu:=by kernel_rfl
def aND:List SO:=[
 qM 7 0,
 qM 8 1,
 sO 9 (.call false 187 [.t 7,.t 8]),
 sO 10 (.idx 1 (.t 9) (.c (.int .i64 0))),
 ql 11 10,
 qM 12 0,
 sO 13 (.nilck (.t 12)),
 qF 14 9 13,
 ql 15 14,
 qM 16 1,
 qA 17 1 15 16,
 ql 18 17,
 qP 19 .neq 11 18]
def aQX:List SO:=[
 qM 21 0,
 sO 22 (.nilck (.t 21)),
 qF 23 0 22,
 qF 24 4 23,
 ql 25 24,
 qM 26 0,
 sO 27 (.nilck (.t 26)),
 qF 28 8 27,
 ql 29 28,
 qM 30 1,
 qA 31 1 29 30,
 ql 32 31,
 qA 33 1 25 32,
 ql 34 33,
 sO 35 (.call false 56 [.t 34]),
 qM 36 0,
 sO 37 (.nilck (.t 36)),
 qF 38 7 37,
 ql 39 38,
 qM 40 1,
 qA 41 1 39 40,
 ql 42 41,
 qM 43 0,
 sO 44 (.nilck (.t 43)),
 qF 45 7 44,
 ql 46 45,
 qM 47 1,
 qC 48 .add 47 1,
 sO 49 (.slice 1 (.t 46) (some (.t 48)) none),
 sO 50 (.call false 56 [.t 49]),
 sO 51 (.build [.nilsl,.int .i64 0,.nilsl] [(0,1,.t 35),(1,1,.t 42),(2,1,.t 50)]),
 sN (.store 3 (.t 4) (.t 51)),
 sO 5 (.mv (.c (.nilsl))),
 qI 6 0]
def aMT:SF:=⟨52,[.cell 4 true 3,.tmp 5,.tmp 6],.seq (.reg [sO 4 (.alloc 204 [.nilsl,.int .i64 0,.nilsl]),sO 5 (.mv (.c (.nilsl))),qI 6 0]) (.seq (.seq (.reg aND) (.cond (.t 19) (.seq (.reg [sO 20 (.build [.nilsl,.int .i64 0,.nilsl] []),sN (.store 3 (.t 4) (.t 20)),sO 5 (.mv (.c (.nilsl))),qI 6 15]) (.ret)) (.skip))) (.seq (.reg aQX) (.ret)))⟩
theorem aIj:aL Tryz.prog ⟨[58,129,130,131,149,155,161,182,183,185,191,192,208,209,210,224,228,231,236],[],[],[]⟩ Tryz.f189=some aMT:=by kernel_rfl
def aPM:SF:=⟨59,[.tmp 12],.seq (.reg [sO 6 (.box 142 1 (.t 0)),qI 12 0]) (.seq (.seq (.reg [qL 18 1 6,qM 19 1,sO 20 (.call false 125 [.t 18,.t 19,.c (.bool true)]),qM 13 20]) (.seq (.reg [qM 21 13,qC 22 .neq 21 0]) (.cond (.t 22) (.seq (.reg [qM 23 13,qM 12 23]) (.ret)) (.skip)))) (.seq (.seq (.reg [qM 24 2,qN 25 24,qC 26 .eql 25 0]) (.cond (.t 26) (.seq (.reg [qI 12 19]) (.ret)) (.skip))) (.seq (.seq (.reg [qM 27 2,sO 28 (.call false 119 [.t 27,.c (.int .i64 64)]),qM 14 28]) (.seq (.reg [qM 29 14,qC 30 .neq 29 0]) (.cond (.t 30) (.seq (.reg [qM 31 14,qM 12 31]) (.ret)) (.skip)))) (.seq (.seq (.reg [qM 32 3,qM 33 2,sO 34 (.call false 126 [.t 32,.t 33]),qM 15 34]) (.seq (.reg [qM 35 15,qC 36 .neq 35 0]) (.cond (.t 36) (.seq (.reg [qM 37 15,qM 12 37]) (.ret)) (.skip)))) (.seq (.seq (.reg [qL 38 1 6,qM 39 4,sO 40 (.call false 128 [.t 38,.t 39]),qM 16 40]) (.seq (.reg [qM 41 16,qC 42 .neq 41 0]) (.cond (.t 42) (.seq (.reg [qM 43 16,qM 12 43]) (.ret)) (.skip)))) (.seq (.seq (.reg [qM 44 5,qM 45 2,sO 46 (.call false 126 [.t 44,.t 45]),qM 17 46]) (.seq (.reg [qM 47 17,qC 48 .neq 47 0]) (.cond (.t 48) (.seq (.reg [qM 49 17,qM 12 49]) (.ret)) (.skip)))) (.seq (.block 0 (.seq (.reg [qM 51 3,qM 52 5,sO 53 (.call false 97 [.t 51,.t 52]),qM 50 53]) (.cond (.t 50) (.seq (.reg [qI 12 15]) (.ret)) (.seq (.reg [qF 55 0 6,ql 56 55,qN 57 56,qC 58 .gtr 57 4094,qM 54 58]) (.cond (.t 54) (.seq (.reg [qI 12 11]) (.ret)) (.skip)))))) (.seq (.reg [qI 12 0]) (.ret)))))))))⟩
theorem aH6:aL Tryz.prog ⟨[58,129,130,131,149,155,161,182,183,185,191,192,208,209,210,224,228,231,236],[],[],[]⟩ Tryz.f190=some aPM:=by kernel_rfl
def aM6:List SO:=[
 qM 14 0,
 qM 15 2,
 qM 16 0,
 qM 17 3,
 qM 18 0,
 qM 19 3,
 qA 20 1 18 19,
 ql 21 20,
 qM 22 0,
 qM 23 2,
 qA 24 1 22 23,
 ql 25 24,
 qA 26 1 14 15,
 sN (.store 1 (.t 26) (.t 21)),
 qA 27 1 16 17,
 sN (.store 1 (.t 27) (.t 25))]
def aNN:SC:=.seq (.seq (.reg [qM 7 2,qM 8 3,qP 9 .lss 7 8]) (.cond (.t 9) (.skip) (.exit 0))) (.seq (.block 1 (.reg aM6)) (.reg [qM 10 2,qC 11 .add 10 1,qM 12 3,qC 13 .sub 12 1,qM 2 11,qM 3 13]))
def aMu:SF:=⟨28,[],.seq (.reg [qM 4 0,qN 5 4,qC 6 .sub 5 1,qI 2 0,qM 3 6]) (.block 0 (.loop aNN))⟩
theorem aJ2:aL Tryz.prog ⟨[58,129,130,131,149,155,161,182,183,185,191,192,208,209,210,224,228,231,236],[],[],[]⟩ Tryz.f191=some aMu:=by kernel_rfl
def aOO:List SO:=[
 qM 14 0,
 qM 15 2,
 qM 16 0,
 qM 17 3,
 qM 18 0,
 qM 19 3,
 qA 20 1 18 19,
 ql 21 20,
 qM 22 0,
 qM 23 2,
 qA 24 1 22 23,
 ql 25 24,
 qA 26 1 14 15,
 sN (.store 1 (.t 26) (.t 21)),
 qA 27 1 16 17,
 sN (.store 1 (.t 27) (.t 25))]
def aOW:SC:=.seq (.seq (.reg [qM 7 2,qM 8 3,qP 9 .lss 7 8]) (.cond (.t 9) (.skip) (.exit 0))) (.seq (.block 1 (.reg aOO)) (.reg [qM 10 2,qC 11 .add 10 1,qM 12 3,qC 13 .sub 12 1,qM 2 11,qM 3 13]))
def aPQ:SF:=⟨28,[],.seq (.reg [qM 4 0,qN 5 4,qC 6 .sub 5 1,qI 2 0,qM 3 6]) (.block 0 (.loop aOW))⟩
theorem aKp:aL Tryz.prog ⟨[58,129,130,131,149,155,161,182,183,185,191,192,208,209,210,224,228,231,236],[],[],[]⟩ Tryz.f192=some aPQ:=by kernel_rfl
def aLU:SC:=.seq (.reg [qP 9 .lss 8 7]) (.seq (.cond (.t 9) (.skip) (.exit 0)) (.seq (.block 1 (.seq (.reg [qM 10 8,qM 5 10]) (.seq (.reg [qM 11 1,qM 12 0,qM 13 5,qA 14 1 12 13,ql 15 14,sO 16 (.callv false (.t 11) [.t 15])]) (.cond (.t 16) (.seq (.reg [qM 17 5,qM 4 17]) (.ret)) (.skip))))) (.reg [qC 18 .add 8 1,qM 8 18])))
def aNx:SF:=⟨19,[.tmp 4],.seq (.reg [qI 4 0]) (.seq (.seq (.reg [qM 6 0,qN 7 6,qI 8 0]) (.block 0 (.loop aLU))) (.seq (.reg [sO 4 (.mv (.c (.int .i64 (-1))))]) (.ret)))⟩
theorem aIm:aL Tryz.prog ⟨[58,129,130,131,149,155,161,182,183,185,191,192,208,209,210,224,228,231,236],[],[],[]⟩ Tryz.f207=some aNx:=by kernel_rfl
def aNl:SF:=⟨9,[.tmp 4],.seq (.reg [sO 4 (.mv (.c (.bool false)))]) (.seq (.reg [qM 5 0,qM 6 1,sO 7 (.call false 95 [.t 5,.t 6]),qC 8 .geq 7 0,qM 4 8]) (.ret))⟩
theorem aIW:aL Tryz.prog ⟨[58,129,130,131,149,155,161,182,183,185,191,192,208,209,210,224,228,231,236],[],[],[]⟩ Tryz.f216=some aNl:=by kernel_rfl
def aQO:SF:=⟨7,[.tmp 3],.seq (.reg [sO 3 (.mv (.c (.bool false)))]) (.seq (.reg [qM 4 0,ql 5 1,sO 6 (.call false 97 [.t 4,.t 5]),qM 3 6]) (.ret))⟩
theorem aKy:aL Tryz.prog ⟨[58,129,130,131,149,155,161,182,183,185,191,192,208,209,210,224,228,231,236],[],[],[]⟩ Tryz.f217=some aQO:=by kernel_rfl
def aOQ:List SO:=[
 qF 8 0 3,
 qF 9 2 8,
 ql 10 9,
 qM 11 1,
 qA 12 1 10 11,
 ql 13 12,
 qM 14 2,
 qA 15 1 13 14,
 ql 16 15,
 qF 17 0 3,
 qF 18 3 17,
 ql 19 18,
 qM 20 1,
 qA 21 1 19 20,
 ql 22 21,
 qM 23 2,
 qA 24 1 22 23,
 ql 25 24,
 qM 6 16,
 qM 7 25]
def aM8:SF:=⟨26,[.tmp 6,.tmp 7],.seq (.reg [sO 3 (.box 283 4 (.t 0)),qI 6 0,qI 7 0]) (.seq (.reg aOQ) (.ret))⟩
theorem aJ9:aL Tryz.prog ⟨[58,129,130,131,149,155,161,182,183,185,191,192,208,209,210,224,228,231,236],[],[],[]⟩ Tryz.f220=some aM8:=by kernel_rfl
def aPt:List SO:=[
 qF 3 0 1,
 ql 4 3,
 sO 5 (.call false 56 [.t 4]),
 qF 6 1 1,
 ql 7 6,
 sO 8 (.call false 56 [.t 7]),
 sO 9 (.build [.nilsl,.nilsl] [(0,1,.t 5),(1,1,.t 8)]),
 sN (.store 2 (.t 2) (.t 9))]
def aPw:SF:=⟨10,[.cell 2 true 2],.seq (.reg [sO 1 (.box 199 2 (.t 0)),sO 2 (.alloc 199 [.nilsl,.nilsl])]) (.seq (.reg aPt) (.ret))⟩
theorem aJf:aL Tryz.prog ⟨[58,129,130,131,149,155,161,182,183,185,191,192,208,209,210,224,228,231,236],[],[],[]⟩ Tryz.f221=some aPw:=by kernel_rfl
def aPY:List SO:=[
 qM 3 0,
 qC 4 .lss 3 0,
 qM 5 4,
 ⟨some (5,false),some 6,.mv (.t 0)⟩,
 ⟨some (5,false),some 7,.bin .gtr (.t 6) (.c (.int .i64 1048576))⟩,
 sO 8 (.pick (.t 5) (.c (.bool true)) (.t 7)),
 qM 2 8]
def aO3:SF:=⟨9,[.tmp 2],.seq (.reg [sO 2 (.mv (.c (.bool false)))]) (.seq (.reg aPY) (.ret))⟩
theorem aH3:aL Tryz.prog ⟨[58,129,130,131,149,155,161,182,183,185,191,192,208,209,210,224,228,231,236],[],[],[]⟩ Tryz.f222=some aO3:=by kernel_rfl
def aM1:List SO:=[
 qF 7 0 2,
 ql 8 7,
 qF 9 0 3,
 ql 10 9,
 sO 11 (.call false 213 [.t 8,.t 10]),
 qF 12 1 2,
 ql 13 12,
 qN 14 13,
 qF 15 1 3,
 ql 16 15,
 qN 17 16,
 sO 18 (.mn3 (.t 11) (.t 14) (.t 17)),
 qM 5 18]
def aPG:List SO:=[
 qF 19 1 2,
 ql 20 19,
 qM 21 5,
 sO 22 (.slice 1 (.t 20) none (some (.t 21))),
 qF 23 1 3,
 ql 24 23,
 qM 25 5,
 sO 26 (.slice 1 (.t 24) none (some (.t 25))),
 sO 27 (.call false 213 [.t 22,.t 26]),
 qM 6 27]
def aMJ:SF:=⟨32,[.tmp 4],.seq (.reg [sO 2 (.box 199 2 (.t 0)),sO 3 (.box 199 2 (.t 1)),qI 4 0]) (.seq (.reg aM1) (.seq (.seq (.reg aPG) (.seq (.reg [qM 28 6,qM 29 5,qP 30 .lss 28 29]) (.cond (.t 30) (.seq (.reg [qM 31 6,qM 4 31]) (.ret)) (.skip)))) (.seq (.reg [sO 4 (.mv (.c (.int .i64 (-1))))]) (.ret))))⟩
theorem aJc:aL Tryz.prog ⟨[58,129,130,131,149,155,161,182,183,185,191,192,208,209,210,224,228,231,236],[],[],[]⟩ Tryz.f223=some aMJ:=by kernel_rfl
def aQT:SC:=.seq (.seq (.reg [qM 16 6,qM 17 0,qN 18 17,qP 19 .lss 16 18]) (.cond (.t 19) (.skip) (.exit 0))) (.seq (.block 1 (.seq (.reg [qM 22 0,qM 23 6,qA 24 2 22 23,qL 25 2 24,sO 7 (.alloc 199 [.nilsl,.nilsl]),sN (.store 2 (.t 7) (.t 25))]) (.seq (.reg [qM 26 1,qL 27 2 7,sO 28 (.callv false (.t 26) [.t 27]),sO 29 (.un .not (.t 28))]) (.cond (.t 29) (.seq (.reg [qM 30 0,qM 31 5,qL 32 2 7,qA 33 2 30 31,sN (.store 2 (.t 33) (.t 32))]) (.reg [qM 34 5,qC 35 .add 34 1,qM 5 35])) (.skip))))) (.reg [qM 20 6,qC 21 .add 20 1,qM 6 21]))
def aQt:SF:=⟨42,[.tmp 4],.seq (.reg [sO 4 (.mv (.c (.nilsl)))]) (.seq (.reg [qM 8 0,qM 9 1,sO 10 (.call false 179 [.t 8,.t 9]),qM 5 10]) (.seq (.seq (.reg [qM 11 5,sO 12 (.bin .eql (.t 11) (.c (.int .i64 (-1))))]) (.cond (.t 12) (.seq (.reg [qM 13 0,qM 4 13]) (.ret)) (.skip))) (.seq (.seq (.reg [qM 14 5,qC 15 .add 14 1,qM 6 15]) (.block 0 (.loop aQT))) (.seq (.reg [qM 36 0,qM 37 5,sO 38 (.slice 2 (.t 36) (some (.t 37)) none),sN (.clr [.nilsl,.nilsl] (.t 38))]) (.seq (.reg [qM 39 0,qM 40 5,sO 41 (.slice 2 (.t 39) none (some (.t 40))),qM 4 41]) (.ret))))))⟩
theorem aJk:aL Tryz.prog ⟨[58,129,130,131,149,155,161,182,183,185,191,192,208,209,210,224,228,231,236],[],[],[]⟩ Tryz.f224=some aQt:=by kernel_rfl
def aP3:SF:=⟨9,[.tmp 3],.seq (.reg [sO 2 (.box 199 2 (.t 0)),sO 3 (.mv (.c (.bool false)))]) (.seq (.reg [qF 4 0 1,ql 5 4,qF 6 0 2,ql 7 6,sO 8 (.call false 170 [.t 5,.t 7]),qM 3 8]) (.ret))⟩
theorem aJQ:aL Tryz.prog ⟨[58,129,130,131,149,155,161,182,183,185,191,192,208,209,210,224,228,231,236],[],[],[]⟩ Tryz.f225=some aP3:=by kernel_rfl
def aMI:List SO:=[
 qM 18 9,
 qM 19 10,
 qP 20 .add 18 19,
 sO 21 (.conv .u64 (.t 20)),
 sO 22 (.bin .shr (.t 21) (.c (.int .u64 1))),
 sO 23 (.conv .i64 (.t 22)),
 qM 11 23]
def aQW:List SO:=[
 qM 24 2,
 qM 25 0,
 qM 26 11,
 qA 27 2 25 26,
 qL 28 2 27,
 qL 29 2 4,
 sO 30 (.callv false (.t 24) [.t 28,.t 29]),
 qC 31 .lss 30 0]
def aQB:SC:=.seq (.seq (.reg [qM 15 9,qM 16 10,qP 17 .lss 15 16]) (.cond (.t 17) (.skip) (.exit 0))) (.block 1 (.seq (.reg aMI) (.seq (.reg aQW) (.cond (.t 31) (.reg [qM 32 11,qC 33 .add 32 1,qM 9 33]) (.reg [qM 34 11,qM 10 34])))))
def aP9:List SO:=[
 qM 35 9,
 qM 36 9,
 qM 37 8,
 qP 38 .lss 36 37,
 qM 39 38,
 ⟨some (39,true),some 40,.mv (.t 2)⟩,
 ⟨some (39,true),some 41,.mv (.t 0)⟩,
 ⟨some (39,true),some 42,.mv (.t 9)⟩,
 ⟨some (39,true),some 43,.idx 2 (.t 41) (.t 42)⟩,
 ⟨some (39,true),some 44,.load true 2 (.t 43)⟩,
 ⟨some (39,true),some 45,.load true 2 (.t 4)⟩,
 ⟨some (39,true),some 46,.callv false (.t 40) [.t 44,.t 45]⟩,
 ⟨some (39,true),some 47,.bin .eql (.t 46) (.c (.int .i64 0))⟩,
 sO 48 (.pick (.t 39) (.t 47) (.c (.bool false))),
 qM 6 35,
 qM 7 48]
def aMg:SF:=⟨49,[.tmp 6,.tmp 7],.seq (.reg [sO 4 (.box 199 2 (.t 1)),qI 6 0,sO 7 (.mv (.c (.bool false)))]) (.seq (.reg [qM 12 0,qN 13 12,qM 8 13]) (.seq (.reg [qM 14 8,qI 9 0,qM 10 14]) (.seq (.block 0 (.loop aQB)) (.seq (.reg aP9) (.ret)))))⟩
theorem aKM:aL Tryz.prog ⟨[58,129,130,131,149,155,161,182,183,185,191,192,208,209,210,224,228,231,236],[],[],[]⟩ Tryz.f226=some aMg:=by kernel_rfl
def aNJ:SF:=⟨10,[.tmp 4],.seq (.reg [sO 2 (.box 199 2 (.t 0)),sO 3 (.box 199 2 (.t 1)),qI 4 0]) (.seq (.reg [qF 5 0 2,ql 6 5,qF 7 0 3,ql 8 7,sO 9 (.call false 171 [.t 6,.t 8]),qM 4 9]) (.ret))⟩
theorem aIG:aL Tryz.prog ⟨[58,129,130,131,149,155,161,182,183,185,191,192,208,209,210,224,228,231,236],[],[],[]⟩ Tryz.f227=some aNJ:=by kernel_rfl
end Go.Proofs.YtilfohjlglefjaaGreat
namespace Go.Proofs.YtilfohjlglefjaaGreat
open Go Go.Proofs Go.Shelf Go.RowKit Go.Lib
structure InsLay (P:Program) (ρ:Ren) (n1:String) (k bytes:Nat) (z:Value):Prop where
  mixed:P.follows .mixedOrders=true
  f22:P.funcs[ρ.f 22]?=some {Body2.n22 ρ with name:=n1}
  ov: ∀ args w,(callFunc (ρ.f 29) args).run P w=((Extern.SlicesOverlaps.overlaps #[(ρ.t 24),(ρ.t 24)] #[(ρ.t 4)] args).run P w).andThen fun v w'=>.ok (.value v) w'
  t0:P.underlying (ρ.t 0)=some (TypeDesc.tuple #[])
  a0: ∀ w,(isAgg (ρ.t 0)).run P w=.ok false w
  z0: ∀ w,(Go.sizeOf (ρ.t 0)).run P w=.ok 1 w
  v0: ∀ w,(zeroValue (ρ.t 0)).run P w=.ok (Value.tuple #[]) w
  t3:P.underlying (ρ.t 3)=some (TypeDesc.int IntKind.i64)
  a3: ∀ w,(isAgg (ρ.t 3)).run P w=.ok false w
  z3: ∀ w,(Go.sizeOf (ρ.t 3)).run P w=.ok 1 w
  v3: ∀ w,(zeroValue (ρ.t 3)).run P w=.ok (Value.int IntKind.i64 0) w
  t4:P.underlying (ρ.t 4)=some (TypeDesc.bool)
  a4: ∀ w,(isAgg (ρ.t 4)).run P w=.ok false w
  z4: ∀ w,(Go.sizeOf (ρ.t 4)).run P w=.ok 1 w
  v4: ∀ w,(zeroValue (ρ.t 4)).run P w=.ok (Value.bool false) w
  z9: ∀ w,(Go.sizeOf (ρ.t 9)).run P w=.ok k w
  t24:P.underlying (ρ.t 24)=some (TypeDesc.slice (ρ.t 9))
  a24: ∀ w,(isAgg (ρ.t 24)).run P w=.ok false w
  z24: ∀ w,(Go.sizeOf (ρ.t 24)).run P w=.ok 1 w
  v24: ∀ w,(zeroValue (ρ.t 24)).run P w=.ok (Value.slice none 0 0) w
  i9:(P.info? (ρ.t 9)).map (fun i=>(i.zero,i.size,i.bytes))=some (some z,k,bytes)
  hk:0 < k
  hz:z.cells.size=k
variable {P:Program} {ρ:Ren} {n1:String} {k bytes:Nat} {z:Value}
theorem iA (w:World) (dT sT ty elem:TypeId) (g o dLen dCap:Nat) (a:Addr) (sLen sCap:Nat) (cur:Array Value) (t:TypeId) (cs:List Value) (k:Nat)
    (hu:P.underlying dT=some (.slice elem)) (hs:(P.info? elem).map (·.size)=some k)
    (hg:w.heap[g]?=some (.cells cur t (0,0))) (hn:cs.length=Nat.min sLen dLen*k)
    (hsrc: ∀ j v,cs[j]?=some v→w.cell? (a.add j)=some v) (hfit:o+cs.length≤cur.size) (h1: ∀ v∈cs,v.oneCell'=true):
    (Builtin.copy_ #[dT,sT] ty #[.slice (some ⟨g,o,none⟩) dLen dCap,.slice (some a) sLen sCap]).run P w=
      .ok (goInt (Nat.min sLen dLen)) (w.setRow g (cur.toList.take o++cs++cur.toList.drop (o+cs.length)).toArray):=by
  have hl:=run_loadCells_list (P:=P) w a cs hsrc
  have hst:=run_storeCells_at P g o t cs 0 cur w hg (by simpa using hfit) h1
  cases hq:P.info? elem with
  |none=>simp [hq] at hs
  | some i =>
    have hi:i.size=k:=by simpa [hq] using hs
    simp [Builtin.copy_,run_underlying hu,Builtin.lenOf,Builtin.firstCells,sizeOf,typeInfo,hq,hi,← hn,hl,hst]
def put (cc:Array Value) (o:Nat) (cs:List Value):Array Value:=(cc.toList.take o++cs++cc.toList.drop (o+cs.length)).toArray
set_option maxHeartbeats 4000000 in
set_option maxRecDepth 100000 in
theorem aEX (L : InsLay P ρ n1 k bytes z) (b n c i vb vc : Nat) (cc cv : Array Value) (tb tv : TypeId) (w : World) (hi : i < n) (hroom : n + 1 ≤ c) (hc63 : c ≤ 9223372036854775807) (hvb : vb ≠ b)
    (hb:w.heap[b]?=some (.cells cc tb (0,0))) (hv:w.heap[vb]?=some (.cells cv tv (0,0))) (hcc:c*k=cc.size) (hcv:k≤cv.size) (vs:List Value) (hvs:vs=cv.toList.take k)
    (h1c: ∀ v∈cc.toList.take (n*k),v.oneCell'=true) (h1v: ∀ v∈vs,v.oneCell'=true):
    Calls P (ρ.f 22) #[.slice (some ⟨b,0,none⟩) n c,.int .i64 i,.slice (some ⟨vb,0,none⟩) 1 vc] w fun e w'=>
      e=.returned (.slice (some ⟨b,0,none⟩) (n+1) c)∧w'=w.drew.setRow b (put (put cc ((i+1)*k) ((cc.toList.take (n*k)).drop (i*k))) (i*k) vs):=by
  have hk:=L.hk
  have hvl:vs.length=k:=by rw [hvs,List.length_take,Array.length_toList]; omega
  have t0:=L.t0; have a0:=L.a0; have z0:=L.z0; have v0:=L.v0; have t3:=L.t3; have a3:=L.a3; have z3:=L.z3; have v3:=L.v3; have t4:=L.t4; have a4:=L.a4; have z4:=L.z4; have v4:=L.v4; have z9:=L.z9; have t24:=L.t24; have a24:=L.a24; have z24:=L.z24; have v24:=L.v24
  have u0:=run_underlying L.t0; have u3:=run_underlying L.t3; have u4:=run_underlying L.t4; have u24:=run_underlying L.t24
  have hz2: ¬ ((i:Int)=(n:Int)):=by omega
  have hsz:(P.info? (ρ.t 9)).map (·.size)=some k:=by
    obtain ⟨i0,hi0,h0,h1,h2⟩:=info_parts L.i9
    rw [hi0]; simp [h1]
  have hov: ∀ lb cb,(callFunc (ρ.f 29) #[.slice (some ⟨vb,0,none⟩) 1 vc,.slice (some ⟨b,(i+1)*k,none⟩) lb cb]).run P w=.ok (.value (.bool false)) w:=fun lb cb=>by
    rw [L.ov,
      Lib.run_overlaps_apart w (ρ.t 24) (ρ.t 4) (ρ.t 9) L.t24 k L.z9 ⟨vb,0,none⟩ ⟨b,(i+1)*k,none⟩ 1 vc lb cb hvb tv tb cv.size cc.size (by simp [World.shape?,hv]) (by simp [World.shape?,hb]) (by rw [← hcc]; have:0 < c*k:=Nat.mul_pos (by omega) hk; omega) (by simp [World.frozen?,hv]) (by simp [World.frozen?,hv])]
    rfl
  have mixed:=L.mixed
  have hw1:IntKind.i64.wrap ((i:Int)+1)=(i:Int)+1:=by rw [IntKind.wrap_i64]; omega
  have hb1:(0:Int)≤(i:Int)+1:=by omega
  have hin:i≤n:=by omega
  have htn:((i:Int)+1).toNat=i+1:=by omega
  have hb2: ¬ (c=i+1):=by omega
  have hb3:(i:Int)≤(n:Int)+1:=by omega
  have hb4: ¬ (c=i):=by omega
  have hnk:n*k≤cc.size:=by rw [← hcc]; exact Nat.mul_le_mul_right k (by omega)
  have hn1k:(n+1)*k≤cc.size:=by rw [← hcc]; exact Nat.mul_le_mul_right k (by omega)
  have hik:i*k≤n*k:=Nat.mul_le_mul_right k hin
  obtain ⟨ds,hds⟩: ∃ ds,ds=(cc.toList.take (n*k)).drop (i*k):=⟨_,rfl⟩
  have hdl:ds.length=(n - i)*k:=by rw [hds,List.length_drop,List.length_take,Array.length_toList,Nat.min_eq_left hnk,Nat.sub_mul]
  rw [← hds]
  have e1:Nat.min (n+1 - i) (n - i)=n - i:=by simp only [Nat.min_def]; split <;> omega
  have e2:(i+1)*k+(n - i)*k=(n+1)*k:=by rw [← Nat.add_mul]; congr 1; omega
  have hcp1: ∀ ty dc sc,(Builtin.copy_ #[(ρ.t 24),(ρ.t 24)] ty #[.slice (some ⟨b,(i+1)*k,none⟩) (n - i) dc,.slice (some ⟨b,i*k,none⟩) (n+1 - i) sc]).run P w.drew=.ok (goInt (n - i:Nat)) (w.drew.setRow b (put cc ((i+1)*k) ds)):=fun ty dc sc=>by
    have h:=iA (P:=P) w.drew (ρ.t 24) (ρ.t 24) ty (ρ.t 9) b ((i+1)*k) (n - i) dc ⟨b,i*k,none⟩ (n+1 - i) sc cc tb ds k L.t24 hsz hb (by rw [hdl,e1])
      (fun j v hj=>by
        rw [Addr.add_lit]
        have hj':=hj
        rw [hds,List.getElem?_drop,List.getElem?_take] at hj
        split at hj
        · rw [Array.getElem?_toList] at hj
          simp [World.cell?,show w.drew.heap[b]?=_ from hb,hj]
        · cases hj) (by rw [hdl,e2]; exact hn1k) (fun v hv=>h1c v (List.mem_of_mem_drop (hds ▸ hv)))
    rw [e1] at h
    exact h
  have hps:(put cc ((i+1)*k) ds).size=cc.size:=by
    simp only [put,List.size_toArray,List.length_append,List.length_take,List.length_drop,Array.length_toList,hdl,e2]
    omega
  obtain ⟨W1,hW1⟩: ∃ W1,W1=w.drew.setRow b (put cc ((i+1)*k) ds):=⟨_,rfl⟩
  have hB1:W1.heap[b]?=some (.cells (put cc ((i+1)*k) ds) tb (0,0)):=by rw [hW1]; exact setRow_heap w.drew b cc _ tb _ hb
  have hV1:W1.heap[vb]?=some (.cells cv tv (0,0)):=by rw [hW1,setRow_other w.drew b vb _ hvb]; exact hv
  have hcp2: ∀ ty dc,(Builtin.copy_ #[(ρ.t 24),(ρ.t 24)] ty #[.slice (some ⟨b,i*k,none⟩) (n+1 - i) dc,.slice (some ⟨vb,0,none⟩) 1 vc]).run P W1=.ok (goInt (1:Nat)) (W1.setRow b (put (put cc ((i+1)*k) ds) (i*k) vs)):=fun ty dc=>by
    have e3:Nat.min 1 (n+1 - i)=1:=by simp only [Nat.min_def]; split <;> omega
    have h:=iA (P:=P) W1 (ρ.t 24) (ρ.t 24) ty (ρ.t 9) b (i*k) (n+1 - i) dc ⟨vb,0,none⟩ 1 vc _ tb vs k L.t24 hsz hB1 (by rw [e3,hvl,Nat.one_mul])
      (fun j v hj=>by
        rw [Addr.add_lit]
        rw [hvs,List.getElem?_take] at hj
        split at hj
        · rw [Array.getElem?_toList] at hj
          simp [World.cell?,hV1,hj]
        · cases hj) (by rw [hps,hvl]; have:(i+1)*k≤(n+1)*k:=Nat.mul_le_mul_right k (by omega); rw [Nat.add_mul,Nat.one_mul] at this; omega) h1v
    rw [e3] at h
    exact h
  have hfin:W1.setRow b (put (put cc ((i+1)*k) ds) (i*k) vs)=w.drew.setRow b (put (put cc ((i+1)*k) ds) (i*k) vs):=by rw [hW1,setRow_setRow]
  rw [← hW1] at hcp1
  clear hW1 hds e1 e2 hvs
  go_enter L.f22,Body2.n22_ntmps ρ
  go_wp2_with (simp only [hov])
  go_region_law_o (refine step_copy_runI rfl _ _ (ρ.t 24) (ρ.t 24) rfl _ _ (by simp [Act.eval,Act.put]) (by simp [Act.eval,Act.put]) (hcp1 _ _ _) ?_)
  go_wp2_with (at_builtin; refine wpList_copy_runI _ rfl _ _ (ρ.t 24) (ρ.t 24) rfl _ _ rfl rfl (hcp2 _ _) ?_)
  go_ret
  first|exact ⟨rfl,rfl⟩|exact ⟨rfl,hfin⟩
theorem pM (w:World) (a b:Array Value) (e:TypeId):(w.alloc (.cells a e)).setRow w.heap.size b=w.alloc (.cells b e):=by
  have h:(w.alloc (.cells a e)).heap[w.heap.size]?=some (.cells a e (0,0)):=fG _ _
  unfold World.setRow World.alloc
  congr 1
  refine Array.ext_getElem? fun j=>?_
  rw [Array.getElem?_modify]
  split
  · rename_i hj
    subst hj
    simp [Obj.cells]
  · rename_i hj
    simp only [Array.getElem?_push]
    rw [if_neg (fun x=>hj x.symm),if_neg (fun x=>hj x.symm)]
set_option maxHeartbeats 4000000 in
set_option maxRecDepth 100000 in
theorem aGl (L : InsLay P ρ n1 k bytes z) (b n c i vb vc : Nat) (cc cv : Array Value) (tb tv : TypeId) (w : World) (hi : i < n) (hnc : n ≤ c) (hroom : c < n + 1) (hc63 : c < 9223372036854775807) (hbig : (n + 1) * bytes ≤ 140737488355328)
    (hb:w.heap[b]?=some (.cells cc tb (0,0))) (hv:w.heap[vb]?=some (.cells cv tv (0,0))) (hcc:c*k=cc.size) (hcv:k≤cv.size) (vs:List Value) (hvs:vs=cv.toList.take k)
    (h1c: ∀ v∈cc.toList.take (n*k),v.oneCell'=true) (h1v: ∀ v∈vs,v.oneCell'=true):
    Calls P (ρ.f 22) #[.slice (some ⟨b,0,none⟩) n c,.int .i64 i,.slice (some ⟨vb,0,none⟩) 1 vc] w fun e w'=>
      ∃ G R,R.size=G*k∧n+1≤G∧G≤maxLen∧e=.returned (.slice (some ⟨w.heap.size,0,none⟩) (n+1) G)∧w'=w.drew.drew.alloc (.cells (put (put R (i*k) vs) ((i+1)*k) ((cc.toList.take (n*k)).drop (i*k))) (ρ.t 9))∧R.toList.take (i*k)=cc.toList.take (i*k):=by
  have hk:=L.hk; have hzl:=L.hz
  have hvl:vs.length=k:=by rw [hvs,List.length_take,Array.length_toList]; omega
  have t0:=L.t0; have a0:=L.a0; have z0:=L.z0; have v0:=L.v0; have t3:=L.t3; have a3:=L.a3; have z3:=L.z3; have v3:=L.v3; have t4:=L.t4; have a4:=L.a4; have z4:=L.z4; have v4:=L.v4; have z9:=L.z9; have t24:=L.t24; have a24:=L.a24; have z24:=L.z24; have v24:=L.v24
  have u0:=run_underlying L.t0; have u3:=run_underlying L.t3; have u4:=run_underlying L.t4; have u24:=run_underlying L.t24
  have mixed:=L.mixed
  obtain ⟨i0,hi0,hz0,hzs,hzb⟩:=info_parts L.i9
  have hz2: ¬ ((i:Int)=(n:Int)):=by omega
  have hz3:(c:Int) < (n:Int)+1:=by omega
  have hsz:(P.info? (ρ.t 9)).map (·.size)=some k:=by rw [hi0]; simp [hzs]
  have hbw:b < w.heap.size:=(Array.getElem?_eq_some_iff.1 hb).1
  have hvw:vb < w.heap.size:=(Array.getElem?_eq_some_iff.1 hv).1
  have hkk:(n:Int)+1 - (i:Int)=((n+1 - i:Nat):Int):=by omega
  have hik:i+(n+1 - i)=n+1:=by omega
  have hnk:n*k≤cc.size:=by rw [← hcc]; exact Nat.mul_le_mul_right k (by omega)
  have hikn:i*k≤n*k:=Nat.mul_le_mul_right k (by omega)
  have hold:(Builtin.firstCells i0.size i (.slice (some ⟨b,0,none⟩) i c)).run P w.drew=.ok (cc.toList.take (i*k)).toArray w.drew:=by
    rw [hzs]
    exact run_firstCells_some w.drew k i ⟨b,0,none⟩ i c (cc.toList.take (i*k)) (by rw [List.length_take,Array.length_toList]; omega) (fun j v hj=>by
      rw [Addr.add_lit]
      rw [List.getElem?_take] at hj
      split at hj
      · rw [Array.getElem?_toList] at hj
        simp [World.cell?,show w.drew.heap[b]?=_ from hb,hj]
      · cases hj)
  have hrz: ∀ ty,(Builtin.append_ #[(ρ.t 24),(ρ.t 3)] ty #[.slice (some ⟨b,0,none⟩) i c,.int .i64 ((n:Int)+1 - (i:Int))]).run P w=
      .ok (.slice (some ⟨w.heap.size,0,none⟩) (n+1) (grownCap w (n+1) c (ρ.t 9))) (w.drew.alloc (.cells ((cc.toList.take (i*k)).toArray++Builtin.zeroCells z.cells (n+1 - i)++Builtin.zeroCells z.cells (grownCap w (n+1) c (ρ.t 9) - (n+1))) (ρ.t 9))):=fun ty=>by
    have h:=Lib.run_append_grow_zeros w (ρ.t 24) (ρ.t 3) ty (ρ.t 9) i0 _ .i64 .i64 L.t24 L.t3 hi0 hz0 (some ⟨b,0,none⟩) i c _ hold (n+1 - i) (by omega) (by omega) (by omega) (by omega) (by rw [hzb]; have:(n+1 - i)*bytes≤(n+1)*bytes:=Nat.mul_le_mul_right _ (by omega); omega) (by rw [hzb,hik]; exact growslice_fits hroom hbig)
    rw [hik] at h
    rw [hkk]
    exact h
  have hGn:n+1≤grownCap w (n+1) c (ρ.t 9):=grownCap_ge w _ _ _
  have hGm:grownCap w (n+1) c (ρ.t 9)≤maxLen:=grownCap_le_maxLen w (n+1) c (ρ.t 9) (by unfold maxLen; omega)
  obtain ⟨G,hG⟩: ∃ G,G=grownCap w (n+1) c (ρ.t 9):=⟨_,rfl⟩
  rw [← hG] at hGn hGm
  obtain ⟨ROW,hROW⟩: ∃ ROW:Array Value,ROW=(cc.toList.take (i*k)).toArray++Builtin.zeroCells z.cells (n+1 - i)++Builtin.zeroCells z.cells (G - (n+1)):=⟨_,rfl⟩
  rw [← hG] at hrz
  rw [← hROW] at hrz
  have hRl:ROW.size=G*k:=by
    rw [hROW]
    simp only [Array.size_append,List.size_toArray,List.length_take,Array.length_toList,size_zeroCells,hzl,Nat.min_eq_left (show i*k≤cc.size by omega),← Nat.add_mul]
    congr 1; omega
  have hRt:ROW.toList.take (i*k)=cc.toList.take (i*k):=by
    rw [hROW]
    simp only [Array.toList_append,List.append_assoc]
    rw [List.take_append_of_le_length (by simp; omega),List.take_take,Nat.min_self]
  have hG63:G≤9223372036854775807:=by unfold maxLen at hGm; omega
  have hGi: ¬ (G=i):=by omega
  have hGim: ¬ (G=i+1):=by omega
  have hci: ¬ (c=i):=by omega
  have hn1G:(n+1)*k≤G*k:=Nat.mul_le_mul_right k hGn
  obtain ⟨ds,hds⟩: ∃ ds,ds=(cc.toList.take (n*k)).drop (i*k):=⟨_,rfl⟩
  have hdl:ds.length=(n - i)*k:=by rw [hds,List.length_drop,List.length_take,Array.length_toList,Nat.min_eq_left hnk,Nat.sub_mul]
  rw [← hds]
  have e1:Nat.min (n - i) (n - i)=n - i:=Nat.min_self _
  have e2:(i+1)*k+(n - i)*k=(n+1)*k:=by rw [← Nat.add_mul]; congr 1; omega
  have e4:i*k+k≤(n+1)*k:=by have:(i+1)*k≤(n+1)*k:=Nat.mul_le_mul_right k (by omega); rw [Nat.add_mul,Nat.one_mul] at this; exact this
  obtain ⟨W1,hW1⟩: ∃ W1,W1=w.drew.alloc (.cells ROW (ρ.t 9)):=⟨_,rfl⟩
  have hcpA: ∀ (W:World),W.heap=W1.heap→ ∀ ty dc,(Builtin.copy_ #[(ρ.t 24),(ρ.t 24)] ty #[.slice (some ⟨w.heap.size,i*k,none⟩) (n+1 - i) dc,.slice (some ⟨vb,0,none⟩) 1 vc]).run P W=.ok (goInt (1:Nat)) (W.setRow w.heap.size (put ROW (i*k) vs)):=fun W hW ty dc=>by
    have e3:Nat.min 1 (n+1 - i)=1:=by simp only [Nat.min_def]; split <;> omega
    have hN:W.heap[w.heap.size]?=some (.cells ROW (ρ.t 9) (0,0)):=by rw [hW,hW1]; exact fG w.drew _
    have hV:W.heap[vb]?=some (.cells cv tv (0,0)):=by rw [hW,hW1,eB w.drew _ hvw]; exact hv
    have h:=iA (P:=P) W (ρ.t 24) (ρ.t 24) ty (ρ.t 9) w.heap.size (i*k) (n+1 - i) dc ⟨vb,0,none⟩ 1 vc ROW (ρ.t 9) vs k L.t24 hsz hN (by rw [e3,hvl,Nat.one_mul])
      (fun j v hj=>by
        rw [Addr.add_lit]
        rw [hvs,List.getElem?_take] at hj
        split at hj
        · rw [Array.getElem?_toList] at hj
          simp [World.cell?,hV,hj]
        · cases hj) (by rw [hRl,hvl]; omega) h1v
    rw [e3] at h
    exact h
  have hps:(put ROW (i*k) vs).size=ROW.size:=by
    simp only [put,List.size_toArray,List.length_append,List.length_take,List.length_drop,Array.length_toList,hvl]
    omega
  have hcpB: ∀ (W:World),W.heap=(W1.setRow w.heap.size (put ROW (i*k) vs)).heap→ ∀ ty dc sc,(Builtin.copy_ #[(ρ.t 24),(ρ.t 24)] ty #[.slice (some ⟨w.heap.size,(i+1)*k,none⟩) (n - i) dc,.slice (some ⟨b,i*k,none⟩) (n - i) sc]).run P W=.ok (goInt (n - i:Nat)) (W.setRow w.heap.size (put (put ROW (i*k) vs) ((i+1)*k) ds)):=fun W hW ty dc sc=>by
    have hN:W.heap[w.heap.size]?=some (.cells (put ROW (i*k) vs) (ρ.t 9) (0,0)):=by
      rw [hW,hW1]; exact setRow_heap _ _ ROW _ (ρ.t 9) _ (fG w.drew _)
    have hB:W.heap[b]?=some (.cells cc tb (0,0)):=by
      rw [hW,hW1,setRow_other _ _ b _ (by omega),eB w.drew _ hbw]; exact hb
    have h:=iA (P:=P) W (ρ.t 24) (ρ.t 24) ty (ρ.t 9) w.heap.size ((i+1)*k) (n - i) dc ⟨b,i*k,none⟩ (n - i) sc _ (ρ.t 9) ds k L.t24 hsz hN (by rw [hdl,e1])
      (fun j v hj=>by
        rw [Addr.add_lit]
        rw [hds,List.getElem?_drop,List.getElem?_take] at hj
        split at hj
        · rw [Array.getElem?_toList] at hj
          simp [World.cell?,hB,hj]
        · cases hj) (by rw [hdl,e2,hps,hRl]; exact hn1G) (fun v hv=>h1c v (List.mem_of_mem_drop (hds ▸ hv)))
    rw [e1] at h
    exact h
  subst hW1
  have hw1:IntKind.i64.wrap ((i:Int)+1)=(i:Int)+1:=by rw [IntKind.wrap_i64]; omega
  have hb1:(0:Int)≤(i:Int)+1:=by omega
  have hin:i≤n:=by omega
  have htn:((i:Int)+1).toNat=i+1:=by omega
  have hb3:(i:Int)≤(n:Int):=by omega
  have hE1:((w.alloc (.cells ROW (ρ.t 9))).drew).heap=(w.drew.alloc (.cells ROW (ρ.t 9))).heap:=rfl
  have hF1:(((w.alloc (.cells ROW (ρ.t 9))).drew.setRow w.heap.size (put ROW (i*k) vs)).drew).heap=((w.drew.alloc (.cells ROW (ρ.t 9))).setRow w.heap.size (put ROW (i*k) vs)).heap:=rfl
  have hcall:Calls P (ρ.f 22) #[.slice (some ⟨b,0,none⟩) n c,.int .i64 i,.slice (some ⟨vb,0,none⟩) 1 vc] w fun e w'=>e=.returned (.slice (some ⟨w.heap.size,0,none⟩) (n+1) G)∧w'=(((w.alloc (.cells ROW (ρ.t 9))).drew.setRow w.heap.size (put ROW (i*k) vs)).drew).setRow w.heap.size (put (put ROW (i*k) vs) ((i+1)*k) ds):=by
    clear hkk hik hold hROW hG hRl hds e1 e2 e4 hRt hvs
    go_enter L.f22,Body2.n22_ntmps ρ
    go_wp2_with (first
      |(at_builtin; refine Lib.wpList_append_run _ rfl _ _ _ _ rfl _ _ rfl rfl _ _ (hrz _) ?_)
      |(at_builtin; refine wpList_copy_runI _ rfl _ _ (ρ.t 24) (ρ.t 24) rfl _ _ rfl rfl (hcpA _ hE1 _ _) ?_)
      |(at_builtin; refine wpList_copy_runI _ rfl _ _ (ρ.t 24) (ρ.t 24) rfl _ _ rfl rfl (hcpB _ hF1 _ _ _) ?_))
    go_region_law_o (refine step_copy_runI rfl _ _ (ρ.t 24) (ρ.t 24) rfl (.slice (some ⟨w.heap.size,(i+1)*k,none⟩) (n - i) (G - (i+1))) (.slice (some ⟨b,i*k,none⟩) (n - i) (c - i)) (by simp [Act.eval,Act.put]) (by simp [Act.eval,Act.put]) (hcpB _ hF1 (ρ.t 3) (G - (i+1)) (c - i)) ?_)
    go_wp2
    go_ret
    exact ⟨rfl,rfl⟩
  refine hcall.mono fun e w' h=>?_
  obtain ⟨rfl,rfl⟩:=h
  refine ⟨G,ROW,hRl,hGn,hGm,rfl,?_,hRt⟩
  have q:=pM w ROW (put ROW (i*k) vs) (ρ.t 9)
  have q2:=pM w (put ROW (i*k) vs) (put (put ROW (i*k) vs) ((i+1)*k) ds) (ρ.t 9)
  have q3:(((w.alloc (.cells ROW (ρ.t 9))).drew.setRow w.heap.size (put ROW (i*k) vs)).drew).setRow w.heap.size (put (put ROW (i*k) vs) ((i+1)*k) ds)=((((w.alloc (.cells ROW (ρ.t 9))).setRow w.heap.size (put ROW (i*k) vs))).setRow w.heap.size (put (put ROW (i*k) vs) ((i+1)*k) ds)).drew.drew:=rfl
  rw [q3,q,q2]
  rfl
set_option maxHeartbeats 4000000 in
set_option maxRecDepth 100000 in
theorem aJN (L:InsLay P ρ n1 k bytes z) (b n c vb vc:Nat) (w w':World) (v:Value) (hnc:n≤c)
    (hr: ∀ ty,(Builtin.append_ #[(ρ.t 24),(ρ.t 24)] ty #[.slice (some ⟨b,0,none⟩) n c,.slice (some ⟨vb,0,none⟩) 1 vc]).run P w=.ok v w'):
    Calls P (ρ.f 22) #[.slice (some ⟨b,0,none⟩) n c,.int .i64 n,.slice (some ⟨vb,0,none⟩) 1 vc] w fun e u=>e=.returned v∧u=w':=by
  have hk:=L.hk
  have t0:=L.t0; have a0:=L.a0; have z0:=L.z0; have v0:=L.v0; have t3:=L.t3; have a3:=L.a3; have z3:=L.z3; have v3:=L.v3; have t4:=L.t4; have a4:=L.a4; have z4:=L.z4; have v4:=L.v4; have z9:=L.z9; have t24:=L.t24; have a24:=L.a24; have z24:=L.z24; have v24:=L.v24
  have u0:=run_underlying L.t0; have u3:=run_underlying L.t3; have u4:=run_underlying L.t4; have u24:=run_underlying L.t24
  have mixed:=L.mixed
  go_enter L.f22,Body2.n22_ntmps ρ
  go_wp2_with (at_builtin; refine Lib.wpList_append_run _ rfl _ _ _ _ rfl _ _ rfl rfl _ _ (hr _) ?_)
  all_goals (go_ret; exact ⟨rfl,rfl⟩)
set_option maxHeartbeats 4000000 in
set_option maxRecDepth 100000 in
theorem aGZ (L:InsLay P ρ n1 k bytes z) (vb vc:Nat) (w w':World) (v:Value)
    (hr: ∀ ty,(Builtin.append_ #[(ρ.t 24),(ρ.t 24)] ty #[.slice none 0 0,.slice (some ⟨vb,0,none⟩) 1 vc]).run P w=.ok v w'):
    Calls P (ρ.f 22) #[.slice none 0 0,.int .i64 0,.slice (some ⟨vb,0,none⟩) 1 vc] w fun e u=>e=.returned v∧u=w':=by
  have hk:=L.hk
  have t0:=L.t0; have a0:=L.a0; have z0:=L.z0; have v0:=L.v0; have t3:=L.t3; have a3:=L.a3; have z3:=L.z3; have v3:=L.v3; have t4:=L.t4; have a4:=L.a4; have z4:=L.z4; have v4:=L.v4; have z9:=L.z9; have t24:=L.t24; have a24:=L.a24; have z24:=L.z24; have v24:=L.v24
  have u0:=run_underlying L.t0; have u3:=run_underlying L.t3; have u4:=run_underlying L.t4; have u24:=run_underlying L.t24
  have mixed:=L.mixed
  go_enter L.f22,Body2.n22_ntmps ρ
  go_wp2_with (at_builtin; refine Lib.wpList_append_run _ rfl _ _ _ _ rfl _ _ rfl rfl _ _ (hr _) ?_)
  all_goals (go_ret; exact ⟨rfl,rfl⟩)
set_option maxHeartbeats 4000000 in
set_option maxRecDepth 100000 in
theorem aGM (L:InsLay P ρ n1 k bytes z) (a:Addr) (vb vc:Nat) (w w':World) (v:Value)
    (hr: ∀ ty,(Builtin.append_ #[(ρ.t 24),(ρ.t 24)] ty #[.slice (some a) 0 0,.slice (some ⟨vb,0,none⟩) 1 vc]).run P w=.ok v w'):
    Calls P (ρ.f 22) #[.slice (some a) 0 0,.int .i64 0,.slice (some ⟨vb,0,none⟩) 1 vc] w fun e u=>e=.returned v∧u=w':=by
  have hk:=L.hk
  have t0:=L.t0; have a0:=L.a0; have z0:=L.z0; have v0:=L.v0; have t3:=L.t3; have a3:=L.a3; have z3:=L.z3; have v3:=L.v3; have t4:=L.t4; have a4:=L.a4; have z4:=L.z4; have v4:=L.v4; have z9:=L.z9; have t24:=L.t24; have a24:=L.a24; have z24:=L.z24; have v24:=L.v24
  have u0:=run_underlying L.t0; have u3:=run_underlying L.t3; have u4:=run_underlying L.t4; have u24:=run_underlying L.t24
  have mixed:=L.mixed
  go_enter L.f22,Body2.n22_ntmps ρ
  go_wp2_with (at_builtin; refine Lib.wpList_append_run _ rfl _ _ _ _ rfl _ _ rfl rfl _ _ (hr _) ?_)
  all_goals (go_ret; exact ⟨rfl,rfl⟩)
end Go.Proofs.YtilfohjlglefjaaGreat
namespace Go.Proofs.YtilfohjlglefjaaGreat
open Go Go.Proofs Go.Shelf Go.Lib
theorem iD {cc:Array Value} {o:Nat} {cs:List Value} (h:o+cs.length≤cc.size) (q:Nat):(put cc o cs)[q]?=if o≤q∧q < o+cs.length then cs[q - o]? else cc[q]?:=by
  unfold put
  rw [mZ h]
theorem kU {cc:Array Value} {o:Nat} {cs:List Value} (h:o+cs.length≤cc.size):(put cc o cs).size=cc.size:=by
  simp only [put,List.size_toArray,List.length_append,List.length_take,List.length_drop,Array.length_toList]
  omega
theorem aBM {x : Cx} {rows : List (List V)} {row : List V} {k i : Nat} {cc cv F : Array Value} (hsz : ∀ r ∈ rows, r.length = k) (hsz1 : row.length = k) (hi : i ≤ rows.length)
    (hr: ∀ (r:Nat) (row:List V) (j:Nat) (v:V),rows[r]?=some row→row[j]?=some v→R x v (cc.getD (r*k+j) undef))
    (hv: ∀ (j:Nat) (v:V),row[j]?=some v→R x v (cv.getD j undef))
    (ha: ∀ q,q < i*k→F[q]?=cc[q]?) (hb: ∀ q,q < k→F[i*k+q]?=cv[q]?) (hc: ∀ q,q < (rows.length - i)*k→F[(i+1)*k+q]?=cc[i*k+q]?):
    ∀ (r:Nat) (row':List V) (j:Nat) (v:V),(rows.take i++row::rows.drop i)[r]?=some row'→row'[j]?=some v→R x v (F.getD (r*k+j) undef):=by
  intro r row' j v h1 h2
  have hlt:(rows.take i).length=i:=by rw [List.length_take]; omega
  rw [List.getElem?_append] at h1
  split at h1
  · rename_i hlt'
    rw [hlt] at hlt'
    rw [List.getElem?_take,if_pos hlt'] at h1
    have hjk:j < k:=by rw [← hsz _ (List.mem_of_getElem? h1)]; exact (List.getElem?_eq_some_iff.1 h2).1
    have:r*k+j < i*k:=by
      have:(r+1)*k≤i*k:=Nat.mul_le_mul_right k hlt'
      rw [Nat.add_mul,Nat.one_mul] at this; omega
    rw [Array.getD_eq_getD_getElem?,ha _ this,← Array.getD_eq_getD_getElem?]
    exact hr r row' j v h1 h2
  · rename_i hge
    rw [hlt] at h1 hge
    by_cases he:r=i
    · subst he
      rw [Nat.sub_self] at h1
      simp only [List.getElem?_cons_zero,Option.some.injEq] at h1
      subst h1
      have hjk:j < k:=by rw [← hsz1]; exact (List.getElem?_eq_some_iff.1 h2).1
      rw [Array.getD_eq_getD_getElem?,hb _ hjk,← Array.getD_eq_getD_getElem?]
      exact hv j v h2
    · obtain ⟨q,hq⟩: ∃ q,r - i=q+1:=⟨r - i - 1,by omega⟩
      rw [hq,List.getElem?_cons_succ,List.getElem?_drop] at h1
      have hjk:j < k:=by rw [← hsz _ (List.mem_of_getElem? h1)]; exact (List.getElem?_eq_some_iff.1 h2).1
      have hql:=(List.getElem?_eq_some_iff.1 h1).1
      have hlt2:q*k+j < (rows.length - i)*k:=by
        have:(q+1)*k≤(rows.length - i)*k:=Nat.mul_le_mul_right k (by omega)
        rw [Nat.add_mul,Nat.one_mul] at this; omega
      have e1:r*k+j=(i+1)*k+(q*k+j):=by rw [← Nat.add_assoc,← Nat.add_mul]; congr 2; omega
      have e2:i*k+(q*k+j)=(i+q)*k+j:=by rw [Nat.add_mul]; omega
      rw [e1,Array.getD_eq_getD_getElem?,hc _ hlt2,← Array.getD_eq_getD_getElem?,e2]
      exact hr _ row' j v h1 h2
section
variable {P:Program} {ρ:Ren} {n1:String} {k bytes:Nat} {z:Value}
theorem aHj (L:InsLay P ρ n1 k bytes z) {zz:List V} (hzz:eG P (ρ.t 9)=some zz) (hzl:zz.length=k) {x:Cx} (hx:Inv x) {id id2 ver ver2 ty2 i:Nat} {rows:List (List V)} {row:List V} {c0 c2:Value}
    {lz:Bool} (hlz:(lz&&rows.isEmpty)=false) (hH:x.H id=⟨ver,true,lz,ρ.t 9,k,rows⟩) (hH2:x.H id2=⟨ver2,true,false,ty2,k,[row]⟩) (hne:id≠id2) (hi:i≤rows.length)
    (hf:cZ k rows=true) (hf1:cZ k [row]=true) (hb:(rows.length+1)*bytes≤140737488355328) (hm:rows.length+1≤9223372036854775807)
    (r0:R x (.ms id ver 0 rows.length) c0) (r2:R x (.ms id2 ver2 0 1) c2):
    Calls P (ρ.f 22) #[c0,.int .i64 i,c2] x.w fun e w'=> ∃ c y,e=.returned c∧y.w=w'∧y.H=upd x.H id ⟨ver+1,true,lz,ρ.t 9,k,rows.take i++row::rows.drop i⟩∧Inv y∧R y (.ms id (ver+1) 0 (rows.length+1)) c∧Frame x y:=by
  have hk:=L.hk
  have ho:(x.H id).own=true:=by rw [hH]; simp only [Blk.own,hlz]; rfl
  have ho2:(x.H id2).own=true:=by rw [hH2]; rfl
  obtain ⟨hsz,hone⟩:=eO hf
  obtain ⟨hsz1,hone1⟩:=eO hf1
  have r0':=r0; have r2':=r2
  cases r0 with
  |ms _ _ _ _ b n cap hv hh hm0=>
  cases r2 with
  |ms _ _ _ _ b2 m2 cap2 hv2 hh2 hm2=>
  obtain ⟨e1,e2,e3,e4,e5,e6⟩:=hh (by rw [hH]) (by rw [hH])
  obtain ⟨d1,d2,d3,d4,d5,d6⟩:=hh2 (by rw [hH2]) (by rw [hH2])
  obtain ⟨e7,e8⟩:=e5 ho
  obtain ⟨d7,d8⟩:=d5 ho2
  have hmI:(lz&&decide (4294967296≤ρ.t 9))=false:=by
    have:=hm0 (by rw [hH]) (by rw [hH])
    rw [hH] at this; exact this
  obtain ⟨cc,b1,bb2,bb3,bb4⟩:=hx.cel id ho (hm0 (by rw [hH]) (by rw [hH]))
  obtain ⟨cv,v1,vv2,vv3,vv4⟩:=hx.cel id2 ho2 (hm2 (by rw [hH2]) (by rw [hH2]))
  have hrs:bX x.w (x.σ id)=cc.size:=by unfold bX; rw [b1]
  have hrs2:bX x.w (x.σ id2)=cv.size:=by unfold bX; rw [v1]
  rw [hrs,hH] at e8
  rw [hrs2,hH2] at d8
  rw [hH] at e7 b1 bb3 bb4
  rw [hH2] at d7 v1 vv3 vv4
  simp only [Nat.zero_mul,Nat.zero_add] at e7 d7 e8 d8
  simp only at b1 bb3 bb4 v1 vv3 vv4
  subst e1; subst d1; subst e7; subst d7
  have hvb:x.σ id2≠x.σ id:=fun e=>hne (hx.inj id id2 ho ho2 e.symm)
  have hcv:k≤cv.size:=by simpa using vv3
  have hsz1':row.length=k:=hsz1 row (by simp)
  have hrow: ∀ (j:Nat) (v:V),row[j]?=some v→R x v (cv.getD j undef):=fun j v hj=>by
    have:=vv4 0 row j v rfl hj
    simpa using this
  have h1c: ∀ v∈cc.toList.take (rows.length*k),v.oneCell'=true:=fun v hv=>by
    obtain ⟨q,hq⟩:=List.getElem?_of_mem hv
    rw [List.getElem?_take] at hq
    split at hq
    · rename_i hlt
      obtain ⟨rw',u,h5,h6,h7⟩:=pZ hsz hlt
      have h8:=bb4 _ _ _ _ h5 h6
      rw [h7,Array.getD_eq_getD_getElem?,← Array.getElem?_toList,hq] at h8
      exact h8.one (hone _ (List.mem_of_getElem? h5) _ (List.mem_of_getElem? h6))
    · cases hq
  obtain ⟨vs,hvs⟩: ∃ vs,vs=cv.toList.take k:=⟨_,rfl⟩
  have hvl:vs.length=k:=by rw [hvs,List.length_take,Array.length_toList]; omega
  have hvg: ∀ q,q < k→vs[q]?=cv[q]?:=fun q hq=>by rw [hvs,List.getElem?_take,if_pos hq,Array.getElem?_toList]
  have h1v: ∀ v∈vs,v.oneCell'=true:=fun v hv=>by
    obtain ⟨q,hq⟩:=List.getElem?_of_mem hv
    have hlt:q < k:=by rw [← hvl]; exact (List.getElem?_eq_some_iff.1 hq).1
    have hu: ∃ u,row[q]?=some u:=⟨_,List.getElem?_eq_getElem (by rw [hsz1']; exact hlt)⟩
    obtain ⟨u,hu⟩:=hu
    have h8:=hrow q u hu
    rw [Array.getD_eq_getD_getElem?,← hvg q hlt,hq] at h8
    exact h8.one (hone1 row (by simp) u (List.mem_of_getElem? hu))
  obtain ⟨n,hn⟩: ∃ n,n=rows.length:=⟨_,rfl⟩
  have hnew: ∀ r∈rows.take i++row::rows.drop i,r.length=k:=fun r hr=>by
    rcases List.mem_append.1 hr with hr|hr
    · exact hsz r (List.mem_of_mem_take hr)
    · rcases List.mem_cons.1 hr with hr|hr
      · rw [hr]; exact hsz1'
      · exact hsz r (List.mem_of_mem_drop hr)
  have hnewl:(rows.take i++row::rows.drop i).length=rows.length+1:=by simp; omega
  by_cases hend:i=rows.length
  · obtain ⟨i0,hi0,hz0,hzs,hzb⟩:=info_parts L.i9
    obtain ⟨y,c,hr,y1,y2,y3,y4⟩:=uK (P:=P) (esz:=k) (bytes:=bytes) (new:=[row]) hx L.t24 hi0 hzz hzs hzb hzl (by omega) (i:=id) (ver:=ver) (len:=rows.length) (u:=.ms id2 ver2 0 1) (by rw [hH]) (by rw [hH]) (by rw [hH]) (by rw [hH]) (by rw [hH])
      (by simp [jW,hH2]) hf1 hb hm r0' r2' 0
    rw [hend]
    refine (aJN L (x.σ id) rows.length cap (x.σ id2) cap2 x.w y.w c e2 fun ty=>hr).mono fun e w' h=>?_
    obtain ⟨rfl,rfl⟩:=h
    refine ⟨c,y,rfl,rfl,?_,y2,y4,y3⟩
    rw [y1,hH]
    simp
  have hlt:i < rows.length:=by omega
  have hnk:rows.length*k≤cc.size:=by rw [← e8]; exact Nat.mul_le_mul_right k e2
  have hik:i*k≤rows.length*k:=Nat.mul_le_mul_right k hi
  obtain ⟨ds,hds⟩: ∃ ds,ds=(cc.toList.take (rows.length*k)).drop (i*k):=⟨_,rfl⟩
  have hdl:ds.length=(rows.length - i)*k:=by rw [hds,List.length_drop,List.length_take,Array.length_toList (xs:=cc),Nat.min_eq_left hnk,Nat.sub_mul]
  have hdg: ∀ q,q < (rows.length - i)*k→ds[q]?=cc[i*k+q]?:=fun q hq=>by
    rw [hds,List.getElem?_drop,List.getElem?_take,if_pos (by rw [Nat.sub_mul] at hq; omega),Array.getElem?_toList]
  have e9:(i+1)*k+(rows.length - i)*k=(rows.length+1)*k:=by rw [← Nat.add_mul]; congr 1; omega
  have e10:(i+1)*k=i*k+k:=by rw [Nat.add_mul,Nat.one_mul]
  by_cases hroom:rows.length+1≤cap
  · have hn1k:(rows.length+1)*k≤cc.size:=by rw [← e8]; exact Nat.mul_le_mul_right k hroom
    refine (aEX L (x.σ id) rows.length cap i (x.σ id2) cap2 cc cv _ _ x.w hlt hroom (by unfold maxLen at e3; omega) hvb b1 v1 e8 hcv vs hvs h1c h1v).mono fun e w' h=>?_
    obtain ⟨rfl,rfl⟩:=h
    rw [← hds]
    have hs1:(put cc ((i+1)*k) ds).size=cc.size:=kU (by rw [hdl,e9]; exact hn1k)
    have hfit2:i*k+vs.length≤(put cc ((i+1)*k) ds).size:=by rw [hs1,hvl]; omega
    obtain ⟨dI,dF⟩:=fN hx (x.w.drawn+1) (Nat.le_succ _)
    obtain ⟨hI,hF⟩:=gO dI id ho cc (put (put cc ((i+1)*k) ds) (i*k) vs) (by rw [hH]; exact b1) (by rw [kU hfit2,hs1]) (ver+1) (rows.take i++row::rows.drop i) (by simp only [hH]; omega) (by simp only [hH]; omega) (by simp only [hH]; simp)
      (by simp only [hH]; exact hnew) (by simp only [hH]; rw [hnewl]; exact hn1k) (by
        simp only [hH]
        refine aBM hsz hsz1' hi (fun r row j v h5 h6=>(bb4 r row j v h5 h6).frame hx dF) (fun j v h5=>(hrow j v h5).frame hx dF) (fun q hq=>?_) (fun q hq=>?_) (fun q hq=>?_)
        · rw [iD hfit2,if_neg (by omega),iD (by rw [hdl,e9]; exact hn1k),if_neg (by omega)]
        · rw [iD hfit2,if_pos (by omega),Nat.add_sub_cancel_left]; exact hvg q hq
        · rw [iD hfit2,if_neg (by omega),iD (by rw [hdl,e9]; exact hn1k),if_pos (by rw [hdl]; omega),Nat.add_sub_cancel_left]; exact hdg q hq)
    refine ⟨_,_,rfl,?_,?_,hI,?_,dF.trans hF⟩
    · rfl
    · simp only [hH]
    · refine .ms _ _ _ _ _ _ _ (by simp [aE]) (fun _ _=>?_) fun _ _=>by simp only [aE,hH]; exact hmI
      simp only [aE,hH]
      refine ⟨trivial,hroom,e3,by rw [hnewl]; omega,fun _=>⟨by simp,?_⟩,fun h=>by simp [Blk.own] at h⟩
      have:bX (({x.w with drawn:=x.w.drawn+1}:World).setRow (x.σ id) (put (put cc ((i+1)*k) ds) (i*k) vs)) (x.σ id)=cc.size:=by
        have q:=setRow_heap ({x.w with drawn:=x.w.drawn+1}:World) (x.σ id) cc (put (put cc ((i+1)*k) ds) (i*k) vs) _ _ b1
        unfold bX
        rw [q]
        show (put (put cc ((i+1)*k) ds) (i*k) vs).size=cc.size
        rw [kU hfit2,hs1]
      rw [this,Nat.zero_add]; exact e8
  · refine (aGl L (x.σ id) rows.length cap i (x.σ id2) cap2 cc cv _ _ x.w hlt e2 (by omega) (by omega) hb b1 v1 e8 hcv vs hvs h1c h1v).mono fun e w' h=>?_
    obtain ⟨G,Rw,g1,g2,g3,rfl,rfl,g4⟩:=h
    rw [← hds]
    have hGk:(rows.length+1)*k≤Rw.size:=by rw [g1]; exact Nat.mul_le_mul_right k g2
    have hfit1:i*k+vs.length≤Rw.size:=by rw [hvl]; omega
    have hs1:(put Rw (i*k) vs).size=Rw.size:=kU hfit1
    have hfit2:(i+1)*k+ds.length≤(put Rw (i*k) vs).size:=by rw [hs1,hdl,e9]; exact hGk
    obtain ⟨dI,dF⟩:=fN hx (x.w.drawn+2) (by omega)
    obtain ⟨hI,hF⟩:=iI dI id (put (put Rw (i*k) vs) ((i+1)*k) ds) lz (ρ.t 9) k (rows.take i++row::rows.drop i) hnew (by rw [hnewl,kU hfit2,hs1]; exact hGk) (by
        refine aBM hsz hsz1' hi (fun r row j v h5 h6=>(bb4 r row j v h5 h6).frame hx dF) (fun j v h5=>(hrow j v h5).frame hx dF) (fun q hq=>?_) (fun q hq=>?_) (fun q hq=>?_)
        · rw [iD hfit2,if_neg (by omega),iD hfit1,if_neg (by omega)]
          have:=congrArg (fun l=>l[q]?) g4
          simp only [List.getElem?_take,if_pos hq,Array.getElem?_toList] at this
          exact this
        · rw [iD hfit2,if_neg (by omega),iD hfit1,if_pos (by omega),Nat.add_sub_cancel_left]; exact hvg q hq
        · rw [iD hfit2,if_pos (by rw [hdl]; omega),Nat.add_sub_cancel_left]; exact hdg q hq) hmI
    refine ⟨_,_,rfl,?_,?_,hI,?_,dF.trans hF⟩
    · rfl
    · simp only [hH]
    · refine .ms _ _ _ _ _ _ _ (by simp [aE,hH]) (fun _ _=>?_) fun _ _=>by simp only [aE]; exact hmI
      simp only [aE,hH]
      refine ⟨trivial,g2,g3,by rw [hnewl]; omega,fun _=>⟨by simp,?_⟩,fun h=>by simp [Blk.own] at h⟩
      rw [gD,kU hfit2,hs1,g1,Nat.zero_add]
theorem nR (L:InsLay P ρ n1 k bytes z) (hcf:cG P (ρ.f 22)) {zz:List V} (hzz:eG P (ρ.t 9)=some zz) (hzl:zz.length=k) {id id2 ver ver2 ty2 i n:Nat} {rows:List (List V)} {row:List V} {H:aF}
    {lz:Bool} (hlz:(lz&&(rows.take n).isEmpty)=false) (hH:H id=⟨ver,true,lz,ρ.t 9,k,rows⟩) (hH2:H id2=⟨ver2,true,false,ty2,k,[row]⟩) (hne:id≠id2) (hn:n≤rows.length) (hi:i≤n)
    (hf:cZ k (rows.take n)=true) (hf1:cZ k [row]=true) (hb:(n+1)*bytes≤140737488355328) (hm:n+1≤9223372036854775807):
    dG P (ρ.f 22) [.ms id ver 0 n,iV i,.ms id2 ver2 0 1] H (.ms id (ver+2) 0 (n+1)) (upd H id ⟨ver+2,true,lz,ρ.t 9,k,(rows.take n).take i++row::(rows.take n).drop i⟩):=by
  refine ⟨hcf,fun x cs hxH hx hr=>?_⟩
  subst hxH
  obtain ⟨c0,c1,c2,rfl⟩: ∃ c0 c1 c2,cs=[c0,c1,c2]:=by
    have:=hr.1
    match cs with
    |[a,b,c]=>exact ⟨a,b,c,rfl⟩
    |[]=>simp at this
    |[_]=>simp at this
    |[_,_]=>simp at this
    |_::_::_::_::_=>simp at this
  have r0:R x (.ms id ver 0 n) c0:=hr.2 0 _ rfl
  have r1:R x (iV i) c1:=hr.2 1 _ rfl
  have r2:R x (.ms id2 ver2 0 1) c2:=hr.2 2 _ rfl
  have hc1:c1=.int .i64 i:=by
    unfold iV at r1
    cases r1; rfl
  subst hc1
  have hlz2:(lz&&rows.isEmpty)=false:=by
    cases lz with
    |false=>rfl
    | true =>
      cases rows with
      |nil=>simp at hlz
      |cons a l=>rfl
  have ho:(x.H id).own=true:=by rw [hH]; simp only [Blk.own,hlz2]; rfl
  have hM:(x.H id).isM=false:=by
    cases r0 with
    |ms _ _ _ _ b m cap hv hh hm=>exact hm (by rw [hH]) (by rw [hH])
  obtain ⟨cc,b1,bb2,bb3,bb4⟩:=hx.cel id ho hM
  have hlen:(rows.take n).length=n:=by rw [List.length_take]; omega
  obtain ⟨hI,hF⟩:=gO hx id ho cc cc b1 rfl (ver+1) (rows.take n) (by rw [hH]; exact Nat.le_succ _) (by rw [hH]; simp) (by rw [hH]; exact hlz) (fun r h=>bb2 r (by rw [hH]; exact List.mem_of_mem_take h))
    (by rw [hlen]; refine Nat.le_trans (Nat.mul_le_mul_right _ ?_) bb3; rw [hH]; exact hn) (fun r row j v h1 h2=>by
      rw [List.getElem?_take] at h1
      split at h1
      · exact bb4 r row j v (by rw [hH]; exact h1) h2
      · cases h1)
  have hw:x.w.setRow (x.σ id) cc=x.w:=setRow_self x.w _ cc _ _ b1
  rw [hw] at hI hF
  have q0:R {x with H:=upd x.H id ⟨ver+1,true,(x.H id).lz,(x.H id).ty,(x.H id).sz,rows.take n⟩} (.ms id (ver+1) 0 (rows.take n).length) c0:=by
    cases r0 with
    |ms _ _ _ _ b m cap hv hh hm=>
    obtain ⟨e1,e2,e3,e4,e5,e6⟩:=hh (by rw [hH]) (by rw [hH])
    obtain ⟨e7,e8⟩:=e5 ho
    refine .ms _ _ _ _ _ _ _ (by simp [aE]) (fun _ _=>?_) fun _ _=>by simp only [aE]; exact hM
    simp only [aE,hlen]
    exact ⟨e1,e2,e3,by omega,fun _=>⟨e7,e8⟩,fun h=>by rw [hH] at h; simp only [Blk.own,hlz] at h; cases h⟩
  have h:=aHj L hzz hzl hI (id:=id) (id2:=id2) (ver:=ver+1) (ver2:=ver2) (ty2:=ty2) (i:=i) (rows:=rows.take n) (row:=row) hlz (by simp [aE,hH]) (by simp only [aG _ _ (Ne.symm hne)]; exact hH2) hne (by rw [hlen]; exact hi) hf hf1 (by rw [hlen]; exact hb) (by rw [hlen]; exact hm) q0 (r2.frame hx hF)
  refine h.mono fun e w' h=>?_
  obtain ⟨c,y,rfl,h1,h2,h3,h4,h5⟩:=h
  refine ⟨c,y,rfl,h1,?_,h3,?_,hF.trans h5⟩
  · rw [h2]
    funext j
    by_cases e:j=id
    · subst e; simp only [aE]
    · simp only [aG _ _ e]
  · rw [hlen] at h4; exact h4
theorem vH (L:InsLay P ρ n1 k bytes z) (hcf:cG P (ρ.f 22)) {zz:List V} (hzz:eG P (ρ.t 9)=some zz) (hzl:zz.length=k) {id id2 ver ver2 ty2:Nat} {row:List V} {H:aF}
    (hH:H id=⟨ver,true,true,ρ.t 9,k,[]⟩) (hH2:H id2=⟨ver2,true,false,ty2,k,[row]⟩) (hf1:cZ k [row]=true) (hb:bytes≤140737488355328):
    dG P (ρ.f 22) [.ms id ver 0 0,iV 0,.ms id2 ver2 0 1] H (.ms id (ver+2) 0 1) (upd H id ⟨ver+2,true,true,ρ.t 9,k,[row]⟩):=by
  refine ⟨hcf,fun x cs hxH hx hr=>?_⟩
  subst hxH
  obtain ⟨c0,c1,c2,rfl⟩: ∃ c0 c1 c2,cs=[c0,c1,c2]:=by
    have:=hr.1
    match cs with
    |[a,b,c]=>exact ⟨a,b,c,rfl⟩
    |[]=>simp at this
    |[_]=>simp at this
    |[_,_]=>simp at this
    |_::_::_::_::_=>simp at this
  have r0:R x (.ms id ver 0 0) c0:=hr.2 0 _ rfl
  have r1:R x (iV 0) c1:=hr.2 1 _ rfl
  have r2:R x (.ms id2 ver2 0 1) c2:=hr.2 2 _ rfl
  have hc1:c1=.int .i64 0:=by
    unfold iV at r1
    cases r1; rfl
  subst hc1
  have hk:=L.hk
  have ho2:(x.H id2).own=true:=by rw [hH2]; rfl
  obtain ⟨i0,hi0,hz0,hzs,hzb⟩:=info_parts L.i9
  obtain ⟨y,c,hrun,y1,y2,y3,y4⟩:=uK (P:=P) (esz:=k) (bytes:=bytes) (new:=[row]) hx L.t24 hi0 hzz hzs hzb hzl (by omega) (i:=id) (ver:=ver) (len:=0) (u:=.ms id2 ver2 0 1) (by rw [hH]) (by rw [hH]) (by rw [hH]; rfl) (by rw [hH]) (by rw [hH])
      (by simp [jW,hH2]) hf1 (by simpa using hb) (by simp) r0 r2 0
  have hcall:Calls P (ρ.f 22) #[c0,.int .i64 0,c2] x.w fun e w'=>e=.returned c∧w'=y.w:=by
    cases r2 with
    |ms _ _ _ _ b2 m2 cap2 hv2 hh2 hm2=>
    obtain ⟨d1,d2,d3,d4,d5,d6⟩:=hh2 (by rw [hH2]) (by rw [hH2])
    obtain ⟨d7,d8⟩:=d5 ho2
    subst d1; subst d7
    simp only [Nat.zero_mul] at hrun ⊢
    cases r0 with
    | ms _ _ _ _ b n cap hv hh hm =>
      obtain ⟨e1,e2,e3,e4,e5,e6⟩:=hh (by rw [hH]) (by rw [hH])
      have hcap:=e6 (by rw [hH]; rfl)
      subst e1; subst hcap
      cases b with
      |none=>exact aGZ L (x.σ id2) cap2 x.w y.w c (fun _=>hrun)
      |some a=>exact aGM L a (x.σ id2) cap2 x.w y.w c (fun _=>hrun)
  refine hcall.mono fun e w' h=>?_
  obtain ⟨rfl,rfl⟩:=h
  have hyi:y.H id=⟨ver+1,true,true,ρ.t 9,k,[row]⟩:=by rw [y1,hH]; simp [aE]
  have hfin:wY y.H (upd y.H id ⟨ver+2,true,true,ρ.t 9,k,[row]⟩):=fun j=>by
    by_cases e:j=id
    · subst e; rw [aE,hyi]; exact jQ.up (by omega) rfl
    · rw [aG _ _ e]; exact .refl _
  obtain ⟨f1,f2⟩:=rB y2 hfin
  have f3:=fK.ms hfin (id:=id) (ver:=ver+1) (n:=ver+2) (off:=0) (len:=0+[row].length) (by rw [hyi]) (by rw [hyi]) (by simp) (by simp)
  refine ⟨c,xC y _,rfl,rfl,?_,f1,f3 y c rfl y2 y4,y3.trans f2⟩
  show upd y.H id _=_
  rw [y1]
  funext j
  by_cases e:j=id
  · subst e; simp only [aE]
  · simp only [aG _ _ e]
theorem uW (L : InsLay P ρ n1 k bytes z) (hcf : cG P (ρ.f 22)) {zz : List V} (hzz : eG P (ρ.t 9) = some zz) (hzl : zz.length = k) {id id2 ver ver2 ty2 i n : Nat} {rows : List (List V)} {row : List V} {H : aF}
    {lz:Bool} (hn:n=rows.length) (hH:H id=⟨ver,true,lz,ρ.t 9,k,rows⟩) (hH2:H id2=⟨ver2,true,false,ty2,k,[row]⟩) (hne:id≠id2) (hi:i≤n)
    (hf:cZ k rows=true) (hf1:cZ k [row]=true) (hb:(n+1)*bytes≤140737488355328) (hm:n+1≤9223372036854775807):
    dG P (ρ.f 22) [.ms id ver 0 n,iV i,.ms id2 ver2 0 1] H (.ms id (ver+2) 0 (n+1)) (upd H id ⟨ver+2,true,lz,ρ.t 9,k,rows.take i++row::rows.drop i⟩):=by
  subst hn
  by_cases h0:(lz&&rows.isEmpty)=false
  · have:=nR L hcf hzz hzl (i:=i) (by rw [List.take_length]; exact h0) hH hH2 hne (Nat.le_refl _) hi (by rw [List.take_length]; exact hf) hf1 hb hm
    rw [List.take_length] at this
    exact this
  · cases lz with
    |false=>exact (h0 rfl).elim
    | true =>
      cases rows with
      |cons a l=>exact (h0 rfl).elim
      | nil =>
        have hi0:i=0:=by simpa using hi
        subst hi0
        exact vH L hcf hzz hzl hH hH2 hf1 (by simpa using hb)
end
end Go.Proofs.YtilfohjlglefjaaGreat
namespace Go.Proofs.YtilfohjlglefjaaGreat
open Go Go.Proofs Go.Shelf Go.Lib
def aHs (f ty k bytes : Nat) : jR := fun g args H =>
  if g=f then match args with
    | [.ms id ver 0 n, .int .i64 i, .ms id2 ver2 0 1] => match H id2 with
      | ⟨v2, true, false, _, k2, [row]⟩ => match H id with
        | ⟨v1, true, lz, ty1, k1, rows⟩ =>
          if ((lz && (rows.take n).isEmpty) = false ∨ n = rows.length) ∧ v1 = ver ∧ v2 = ver2 ∧ k1 = k ∧ k2 = k ∧ ty1 = ty ∧ id ≠ id2 ∧ n ≤ rows.length ∧ i.toNat ≤ n ∧ 0 ≤ i ∧ (n + 1) * bytes ≤ 140737488355328 ∧ n + 1 ≤ 9223372036854775807 then
            if cZ k (rows.take n)&&cZ k [row] then
              some (.ms id (ver+2) 0 (n+1),upd H id ⟨ver+2,true,lz,ty,k,(rows.take n).take i.toNat++row::(rows.take n).drop i.toNat⟩)
            else none
          else none
        |_=>none
      |_=>none
    |_=>none
  else none
theorem aAy {P : Program} {ρ : Ren} {n1 : String} {k bytes : Nat} {z : Value} (L : InsLay P ρ n1 k bytes z) (hcf : cG P (ρ.f 22)) {zz : List V} (hzz : eG P (ρ.t 9) = some zz) (hzl : zz.length = k) : fU P (aHs (ρ.f 22) (ρ.t 9) k bytes) := by
  intro g args H v H' h
  unfold aHs at h
  split at h
  · rename_i hg
    subst hg
    split at h
    · rename_i id ver n i id2 ver2
      split at h
      · rename_i v2 ty2 k2 row h2
        split at h
        · rename_i v1 lz ty1 k1 rows h1
          split at h
          · rename_i hc
            obtain ⟨c0,rfl,rfl,rfl,rfl,rfl,c1,c2,c3,c4,c5,c6⟩:=hc
            split at h
            · rename_i hf
              simp only [Bool.and_eq_true] at hf
              cases h
              rcases c0 with c0|c0
              · have:=nR L hcf hzz hzl (i:=i.toNat) c0 h1 h2 c1 c2 c3 hf.1 hf.2 c5 c6
                unfold iV at this
                rw [Int.toNat_of_nonneg c4] at this
                exact this
              · have hf1:=hf.1
                rw [c0,List.take_length] at hf1
                have:=uW L hcf hzz hzl (i:=i.toNat) c0 h1 h2 c1 c3 hf1 hf.2 c5 c6
                unfold iV at this
                rw [Int.toNat_of_nonneg c4] at this
                have e:rows.take n=rows:=by rw [c0,List.take_length]
                rw [e]
                exact this
            · cases h
          · cases h
        · cases h
      · cases h
    · cases h
  · cases h
end Go.Proofs.YtilfohjlglefjaaGreat
namespace Go.Proofs.YtilfohjlglefjaaGreat
open Go Go.Proofs Go.Shelf
def aEV:Go.Shelf.Ren:=⟨fun|22=>130|29=>175|30=>176|n=>n,fun|24=>22|9=>38|n=>n,fun n=>n⟩
theorem aFi:InsLay Tryz.prog aEV Tryz.f130.name 1 24 (.slice none 0 0):={
  mixed:=by kernel_rfl
  f22:=Tryz.func130.trans (congrArg some (by kernel_rfl))
  ov:=fun args w=>run_callFunc_extern Tryz.func175 (by kernel_rfl) (by kernel_rfl) (by kernel_rfl) (by kernel_rfl) args w
  t0:=Tryz.underlying0,a0:=Tryz.isAgg0,z0:=Tryz.sizeOf0,v0:=Tryz.zeroValue0
  t3:=Tryz.underlying3,a3:=Tryz.isAgg3,z3:=Tryz.sizeOf3,v3:=Tryz.zeroValue3
  t4:=Tryz.underlying4,a4:=Tryz.isAgg4,z4:=Tryz.sizeOf4,v4:=Tryz.zeroValue4
  z9:=Tryz.sizeOf38
  t24:=Tryz.underlying22,a24:=Tryz.isAgg22,z24:=Tryz.sizeOf22,v24:=Tryz.zeroValue22
  i9:=by kernel_rfl
  hk:=by decide
  hz:=by kernel_rfl}
theorem aC3:cG Tryz.prog 130:=⟨_,Tryz.func130,by kernel_rfl,by kernel_rfl⟩
def uN:jR:=aHs 130 38 1 24
theorem xH:fU Tryz.prog uN:=aAy aFi aC3 (zz:=[V.nilsl]) (by kernel_rfl) rfl
end Go.Proofs.YtilfohjlglefjaaGreat
namespace Go.Proofs.YtilfohjlglefjaaGreat
open Go Go.Proofs Go.Shelf
def aFH:Go.Shelf.Ren:=⟨fun|22=>131|29=>177|30=>178|n=>n,fun|24=>38|9=>3|n=>n,fun n=>n⟩
theorem aFj:InsLay Tryz.prog aFH Tryz.f131.name 1 8 (.int .i64 0):={
  mixed:=by kernel_rfl
  f22:=Tryz.func131.trans (congrArg some (by kernel_rfl))
  ov:=fun args w=>run_callFunc_extern Tryz.func177 (by kernel_rfl) (by kernel_rfl) (by kernel_rfl) (by kernel_rfl) args w
  t0:=Tryz.underlying0,a0:=Tryz.isAgg0,z0:=Tryz.sizeOf0,v0:=Tryz.zeroValue0
  t3:=Tryz.underlying3,a3:=Tryz.isAgg3,z3:=Tryz.sizeOf3,v3:=Tryz.zeroValue3
  t4:=Tryz.underlying4,a4:=Tryz.isAgg4,z4:=Tryz.sizeOf4,v4:=Tryz.zeroValue4
  z9:=Tryz.sizeOf3
  t24:=Tryz.underlying38,a24:=Tryz.isAgg38,z24:=Tryz.sizeOf38,v24:=Tryz.zeroValue38
  i9:=by kernel_rfl
  hk:=by decide
  hz:=by kernel_rfl}
theorem aCJ:cG Tryz.prog 131:=⟨_,Tryz.func131,by kernel_rfl,by kernel_rfl⟩
def wH:jR:=aHs 131 3 1 8
theorem wZ:fU Tryz.prog wH:=aAy aFj aCJ (zz:=[V.int .i64 0]) (by kernel_rfl) rfl
end Go.Proofs.YtilfohjlglefjaaGreat
namespace Go.Proofs.YtilfohjlglefjaaGreat
open Go Go.Proofs Go.Shelf Go.Lib
section
variable {P:Program} {ρ:Go.Shelf.Ren}
theorem sJ (L : Lays8.n4 P ρ) (hcf : cG P (ρ.f 4)) (i0 : TypeInfo) (z : Value) (hi0 : P.info? (ρ.t 25) = some i0) (hz0 : i0.zero = some z) (hs0 : 0 < i0.size) (hzs : z.cells.size = i0.size)
    {n:Nat} (hb:n*i0.bytes≤140737488355328) (h63:n≤4611686018427387904) (id:Nat) (H:aF) (hty:ρ.t 25 < 4294967296:=by decide):
    dG P (ρ.f 4) [.nilsl,iV (n:Nat)] H (.ms id ((H id).ver+1) 0 0) (upd H id ⟨(H id).ver+1,true,decide (n=0),ρ.t 25,i0.size,[]⟩):=by
  refine ⟨hcf,fun x cs hxH hx hr=>?_⟩
  subst hxH
  obtain ⟨c0,c1,rfl⟩: ∃ c0 c1,cs=[c0,c1]:=by
    have:=hr.1
    match cs with
    |[a,b]=>exact ⟨a,b,rfl⟩
    |[]=>simp at this
    |[_]=>simp at this
    |_::_::_::_=>simp at this
  have r0:R x .nilsl c0:=hr.2 0 _ rfl
  have r1:R x (iV (n:Nat)) c1:=hr.2 1 _ rfl
  have hc0:c0=.slice none 0 0:=by cases r0; rfl
  have hc1:c1=.int .i64 (n:Nat):=by unfold iV at r1; cases r1; rfl
  subst hc0; subst hc1
  by_cases hn:n=0
  · subst hn
    refine (Any8.slices_Grow_room L none 0 0 0 x.w (Nat.le_refl _) (by decide) (by decide) (by decide)).mono fun e w' h=>?_
    obtain ⟨rfl,rfl⟩:=h
    obtain ⟨h1,h2,h3⟩:=hU hx id (ρ.t 25) i0.size hty
    exact ⟨_,{x with H:=upd x.H id ⟨(x.H id).ver+1,true,true,ρ.t 25,i0.size,[]⟩},rfl,rfl,by simp,h1,h3 _,h2⟩
  · refine (Any8.slices_Grow_grow L i0 z hi0 hz0 hs0 none 0 0 n [] x.w (Nat.le_refl _) (by omega) (by simpa using hb) (by simpa using h63) (by simp) (fun _=>rfl) (fun a h=>by cases h)).mono fun e w' h=>?_
    obtain ⟨rfl,rfl⟩:=h
    obtain ⟨dI,dF⟩:=fN hx (x.w.drawn+1) (Nat.le_succ _)
    have hge:0+n≤grownCap x.w (0+n) 0 (ρ.t 25):=grownCap_ge x.w _ _ _
    have hle:=grownCap_le_maxLen x.w (0+n) 0 (ρ.t 25) (by unfold maxLen; omega)
    generalize hG:grownCap x.w (0+n) 0 (ρ.t 25)=G at hge hle
    have hsz:((#[]:Array Value)++Builtin.zeroCells z.cells (0+n - 0)++Builtin.zeroCells z.cells (G - (0+n))).size=G*i0.size:=by
      have zc: ∀ m,(Builtin.zeroCells z.cells m).size=m*i0.size:=fun m=>by
        rw [size_zeroCells,hzs]
      rw [Array.size_append,Array.size_append,zc,zc]
      simp only [Array.size_empty,Nat.zero_add,Nat.sub_zero]
      rw [← Nat.add_mul]; congr 1; omega
    have hrf:([].toArray:Array Value)=#[]:=rfl
    rw [hrf]
    generalize ((#[]:Array Value)++Builtin.zeroCells z.cells (0+n - 0)++Builtin.zeroCells z.cells (G - (0+n)))=cc at hsz
    obtain ⟨h1,h2⟩:=iI dI id cc false (ρ.t 25) i0.size [] (by simp) (by simp) (fun r row j v h=>by simp at h)
    refine ⟨_,_,rfl,rfl,by simp [hn],h1,?_,dF.trans h2⟩
    refine .ms _ _ _ _ _ _ _ (by simp [aE]) (fun _ _=>?_) fun _ _=>by simp only [aE]; rfl
    simp only [aE]
    refine ⟨trivial,Nat.zero_le _,hle,by simp,fun _=>⟨by simp [World.drew],?_⟩,fun h=>by simp [Blk.own] at h⟩
    simp only [Nat.zero_add]
    unfold bX
    have:(({x.w with drawn:=x.w.drawn+1}:World).alloc (.cells cc (ρ.t 25))).heap[({x.w with drawn:=x.w.drawn+1}:World).heap.size]?=some (.cells cc (ρ.t 25)):=fG _ _
    rw [this]
    exact hsz.symm
theorem aAQ (L:Lays8.n4 P ρ) (hcf:cG P (ρ.f 4)) {k b:Nat} {z:Value} (hi:(P.info? (ρ.t 25)).map (fun i=>(i.zero,i.size,i.bytes))=some (some z,k,b)) (hs0:0 < k) (hzs:z.cells.size=k)
    {n:Nat} (hb:n*b≤140737488355328) (h63:n≤4611686018427387904) (id:Nat) (H:aF) (hty:ρ.t 25 < 4294967296:=by decide):
    dG P (ρ.f 4) [.nilsl,iV (n:Nat)] H (.ms id ((H id).ver+1) 0 0) (upd H id ⟨(H id).ver+1,true,decide (n=0),ρ.t 25,k,[]⟩):=by
  obtain ⟨i0,h1,h2⟩:=Option.map_eq_some_iff.1 hi
  simp only [Prod.mk.injEq] at h2
  obtain ⟨h3,h4,h5⟩:=h2
  subst h4; subst h5
  exact sJ L hcf i0 z h1 h3 hs0 hzs hb h63 id H hty
theorem aA1 (L:Lays8.n4 P ρ) (hcf:cG P (ρ.f 4)) {k b:Nat} {z:Value} (hi:(P.info? (ρ.t 25)).map (fun i=>(i.zero,i.size,i.bytes))=some (some z,k,b)) (hs0:0 < k) (hzs:z.cells.size=k)
    {n:Nat} (hb:n*b≤140737488355328) (h63:n≤4611686018427387904) (id:Nat) {H:aF} {w:Nat} (hv:(H id).ver=w) (hty:ρ.t 25 < 4294967296:=by decide):
    dG P (ρ.f 4) [.nilsl,iV (n:Nat)] H (.ms id (w+1) 0 0) (upd H id ⟨w+1,true,decide (n=0),ρ.t 25,k,[]⟩):=by
  subst hv; exact aAQ L hcf hi hs0 hzs hb h63 id H hty
def aD8 (f id ty k bytes : Nat) : jR := fun g args H =>
  if g=f then match args with
    |[.nilsl,.int .i64 n]=>if 0≤n∧n.toNat*bytes≤140737488355328∧n.toNat≤4611686018427387904 then
        some (.ms id ((H id).ver+1) 0 0,upd H id ⟨(H id).ver+1,true,decide (n.toNat=0),ty,k,[]⟩) else none
    |_=>none
  else none
theorem aG5 (L : Lays8.n4 P ρ) (hcf : cG P (ρ.f 4)) (i0 : TypeInfo) (z : Value) (hi0 : P.info? (ρ.t 25) = some i0) (hz0 : i0.zero = some z) (hs0 : 0 < i0.size) (hzs : z.cells.size = i0.size) (id : Nat) (hty : ρ.t 25 < 4294967296 := by decide) :
    fU P (aD8 (ρ.f 4) id (ρ.t 25) i0.size i0.bytes):=by
  intro g args H v H' h
  unfold aD8 at h
  split at h
  · rename_i hg
    subst hg
    split at h
    · rename_i n
      split at h
      · rename_i hc
        cases h
        have:=sJ L hcf i0 z hi0 hz0 hs0 hzs (n:=n.toNat) hc.2.1 hc.2.2 id H hty
        rw [Int.toNat_of_nonneg hc.1] at this
        exact this
      · cases h
    · cases h
  · cases h
theorem aEZ (L:Lays8.n4 P ρ) (hcf:cG P (ρ.f 4)) {k b:Nat} {z:Value} (hi:(P.info? (ρ.t 25)).map (fun i=>(i.zero,i.size,i.bytes))=some (some z,k,b)) (hs0:0 < k) (hzs:z.cells.size=k) (id:Nat) (hty:ρ.t 25 < 4294967296:=by decide):
    fU P (aD8 (ρ.f 4) id (ρ.t 25) k b):=by
  obtain ⟨i0,h1,h2⟩:=Option.map_eq_some_iff.1 hi
  simp only [Prod.mk.injEq] at h2
  obtain ⟨h3,h4,h5⟩:=h2
  subst h4; subst h5
  exact aG5 L hcf i0 z h1 h3 hs0 hzs id hty
def orP (p q:jR):jR:=fun f args H=>match p f args H with
  |some r=>some r
  |none=>q f args H
theorem aCy {p q:jR} (hp:fU P p) (hq:fU P q):fU P (orP p q):=by
  intro f args H v H' h
  unfold orP at h
  split at h
  · rename_i r hr; cases h; exact hp _ _ _ _ _ hr
  · exact hq _ _ _ _ _ h
end
end Go.Proofs.YtilfohjlglefjaaGreat
namespace Go.Proofs.YtilfohjlglefjaaGreat
open Go Go.Proofs Go.Shelf
def aCE:Go.Shelf.Ren:=⟨fun|4=>161|n=>n,fun|22=>38|25=>3|3=>3|4=>4|9=>9|20=>20|0=>0|n=>n,fun n=>n⟩
theorem uJ:Lays8.n4 Tryz.prog aCE:={
  mixed:=(by kernel_rfl),
  f4:=⟨Tryz.f161.name,by decide,Tryz.func161.trans (congrArg some (by kernel_rfl))⟩,
  t0:=Tryz.underlying0,
  a0:=Tryz.isAgg0,
  z0:=Tryz.sizeOf0,
  v0:=Tryz.zeroValue0,
  t3:=Tryz.underlying3,
  a3:=Tryz.isAgg3,
  z3:=Tryz.sizeOf3,
  v3:=Tryz.zeroValue3,
  t4:=Tryz.underlying4,
  a4:=Tryz.isAgg4,
  z4:=Tryz.sizeOf4,
  v4:=Tryz.zeroValue4,
  t9:=Tryz.underlying9,
  a9:=Tryz.isAgg9,
  z9:=Tryz.sizeOf9,
  v9:=Tryz.zeroValue9,
  t20:=Tryz.underlying20,
  a20:=Tryz.isAgg20,
  z20:=Tryz.sizeOf20,
  v20:=Tryz.zeroValue20,
  t22:=Tryz.underlying38,
  a22:=Tryz.isAgg38,
  z22:=Tryz.sizeOf38,
  v22:=Tryz.zeroValue38}
theorem sS:cG Tryz.prog 161:=⟨_,Tryz.func161,by kernel_rfl,by kernel_rfl⟩
theorem tB:(Tryz.prog.info? 3).map (fun i=>(i.zero,i.size,i.bytes))=some (some (.int .i64 0),1,8):=by kernel_rfl
def sZ (id:Nat):jR:=aD8 161 id 3 1 8
theorem vO (id:Nat):fU Tryz.prog (sZ id):=aEZ uJ sS tB (by decide) rfl id
end Go.Proofs.YtilfohjlglefjaaGreat
namespace Go.Proofs.YtilfohjlglefjaaGreat
open Go Go.Proofs Go.Shelf
def aFA:Go.Shelf.Ren:=⟨fun|22=>228|29=>234|30=>235|n=>n,fun|24=>86|9=>199|n=>n,fun n=>n⟩
theorem aFl:InsLay Tryz.prog aFA Tryz.f228.name 2 48 (.agg #[.slice none 0 0,.slice none 0 0]):={
  mixed:=by kernel_rfl
  f22:=Tryz.func228.trans (congrArg some (by kernel_rfl))
  ov:=fun args w=>run_callFunc_extern Tryz.func234 (by kernel_rfl) (by kernel_rfl) (by kernel_rfl) (by kernel_rfl) args w
  t0:=Tryz.underlying0,a0:=Tryz.isAgg0,z0:=Tryz.sizeOf0,v0:=Tryz.zeroValue0
  t3:=Tryz.underlying3,a3:=Tryz.isAgg3,z3:=Tryz.sizeOf3,v3:=Tryz.zeroValue3
  t4:=Tryz.underlying4,a4:=Tryz.isAgg4,z4:=Tryz.sizeOf4,v4:=Tryz.zeroValue4
  z9:=Tryz.sizeOf199
  t24:=Tryz.underlying86,a24:=Tryz.isAgg86,z24:=Tryz.sizeOf86,v24:=Tryz.zeroValue86
  i9:=by kernel_rfl
  hk:=by decide
  hz:=by kernel_rfl}
theorem aCC:cG Tryz.prog 228:=⟨_,Tryz.func228,by kernel_rfl,by kernel_rfl⟩
def uZ:jR:=aHs 228 199 2 48
theorem wV:fU Tryz.prog uZ:=aAy aFl aCC (zz:=[V.nilsl,V.nilsl]) (by kernel_rfl) rfl
end Go.Proofs.YtilfohjlglefjaaGreat
namespace Go.Proofs.YtilfohjlglefjaaGreat
open Go Go.Proofs
def awT:FT:=(.nd 124 ⟨aQI,[]⟩ (.nd 69 ⟨s69,[]⟩ (.nd 38 ⟨s38,[]⟩ (.nd 28 ⟨s28,[]⟩ (.nd 15 ⟨s15,[]⟩ (.nd 11 ⟨s11,[(112,117038101304),(118,123070101305),(114,15),(120,16)]⟩ (.nd 10 ⟨s10,[]⟩ .lf .lf) (.nd 13 ⟨s13,[]⟩ .lf .lf)) (.nd 19 ⟨s19,[]⟩ (.nd 17 ⟨s17,[]⟩ .lf .lf) (.nd 27 ⟨s27,[]⟩ .lf .lf))) (.nd 32 ⟨s32,[]⟩ (.nd 30 ⟨s30,[]⟩ (.nd 29 ⟨s29,[]⟩ .lf .lf) (.nd 31 ⟨s31,[(70,75038100902),(76,86038100903),(72,50)]⟩ .lf .lf)) (.nd 34 ⟨s34,[]⟩ (.nd 33 ⟨s33,[]⟩ .lf .lf) .lf))) (.nd 57 ⟨s57,[]⟩ (.nd 43 ⟨s43,[]⟩ (.nd 40 ⟨s40,[(121,126038101002),(126,131038101003),(123,53),(128,55),(120,15)]⟩ (.nd 39 ⟨s39,[]⟩ .lf .lf) (.nd 41 ⟨s41,[]⟩ .lf .lf)) (.nd 56 ⟨s56,[]⟩ (.nd 55 ⟨s55,[]⟩ .lf .lf) .lf)) (.nd 64 ⟨s64,[]⟩ (.nd 59 ⟨s59,[(87,1000101)]⟩ (.nd 58 ⟨s58,[]⟩ .lf .lf) (.nd 63 ⟨s63,[]⟩ .lf .lf)) (.nd 66 ⟨s66,[(29,1000032),(143,14)]⟩ (.nd 65 ⟨s65,[]⟩ .lf .lf) .lf)))) (.nd 92 ⟨s92,[]⟩ (.nd 84 ⟨s84,[]⟩ (.nd 73 ⟨s73,[]⟩ (.nd 71 ⟨s71,[]⟩ (.nd 70 ⟨s70,[]⟩ .lf .lf) (.nd 72 ⟨s72,[(110,116038101202),(118,124038101203),(115,14),(123,15)]⟩ .lf .lf)) (.nd 83 ⟨s83,[]⟩ (.nd 82 ⟨s82,[]⟩ .lf .lf) .lf)) (.nd 89 ⟨s89,[]⟩ (.nd 87 ⟨s87,[]⟩ (.nd 86 ⟨s86,[]⟩ .lf .lf) (.nd 88 ⟨s88,[(73,6)]⟩ .lf .lf)) (.nd 91 ⟨s91,[]⟩ (.nd 90 ⟨s90,[]⟩ .lf .lf) .lf))) (.nd 99 ⟨s99,[]⟩ (.nd 96 ⟨s96,[]⟩ (.nd 94 ⟨s94,[]⟩ (.nd 93 ⟨s93,[]⟩ .lf .lf) (.nd 95 ⟨s95,[]⟩ .lf .lf)) (.nd 98 ⟨s98,[]⟩ (.nd 97 ⟨s97,[]⟩ .lf .lf) .lf)) (.nd 119 ⟨aP5,[]⟩ (.nd 117 ⟨aIL,[]⟩ (.nd 100 ⟨aPX,[(104,17)]⟩ .lf .lf) (.nd 118 ⟨aPR,[]⟩ .lf .lf)) (.nd 121 ⟨aMU,[]⟩ (.nd 120 ⟨aNT,[]⟩ .lf .lf) .lf))))) (.nd 181 ⟨aLR,[]⟩ (.nd 162 ⟨aQV,[]⟩ (.nd 133 ⟨aOJ,[]⟩ (.nd 128 ⟨aQK,[]⟩ (.nd 126 ⟨aNk,[]⟩ (.nd 125 ⟨aPK,[]⟩ .lf .lf) (.nd 127 ⟨aOi,[]⟩ .lf .lf)) (.nd 132 ⟨aMd,[]⟩ (.nd 129 ⟨aOM,[(28,1000031),(58,1000061)]⟩ .lf .lf) .lf)) (.nd 137 ⟨aNh,[]⟩ (.nd 135 ⟨aLX,[(60,76003105009)]⟩ (.nd 134 ⟨aQE,[]⟩ .lf .lf) (.nd 136 ⟨aMw,[]⟩ .lf .lf)) (.nd 139 ⟨aOm,[]⟩ (.nd 138 ⟨aOs,[]⟩ .lf .lf) .lf))) (.nd 170 ⟨aKk,[]⟩ (.nd 166 ⟨aPT,[]⟩ (.nd 164 ⟨aMs,[]⟩ (.nd 163 ⟨aL0,[]⟩ .lf .lf) (.nd 165 ⟨aOk,[]⟩ .lf .lf)) (.nd 169 ⟨aII,[]⟩ (.nd 167 ⟨aQg,[]⟩ .lf .lf) .lf)) (.nd 174 ⟨aQh,[]⟩ (.nd 172 ⟨aNc,[]⟩ (.nd 171 ⟨aKm,[]⟩ .lf .lf) (.nd 173 ⟨aMQ,[]⟩ .lf .lf)) (.nd 180 ⟨aQi,[]⟩ (.nd 179 ⟨aPB,[]⟩ .lf .lf) .lf)))) (.nd 213 ⟨aI5,[]⟩ (.nd 188 ⟨aNu,[]⟩ (.nd 185 ⟨aQd,[]⟩ (.nd 183 ⟨aNj,[]⟩ (.nd 182 ⟨aML,[]⟩ .lf .lf) (.nd 184 ⟨aQq,[]⟩ .lf .lf)) (.nd 187 ⟨aMX,[]⟩ (.nd 186 ⟨aQC,[]⟩ .lf .lf) .lf)) (.nd 192 ⟨aPQ,[]⟩ (.nd 190 ⟨aPM,[]⟩ (.nd 189 ⟨aMT,[]⟩ .lf .lf) (.nd 191 ⟨aMu,[]⟩ .lf .lf)) (.nd 212 ⟨aKz,[]⟩ (.nd 207 ⟨aNx,[]⟩ .lf .lf) .lf))) (.nd 222 ⟨aO3,[]⟩ (.nd 217 ⟨aQO,[]⟩ (.nd 215 ⟨aIa,[]⟩ (.nd 214 ⟨aKN,[]⟩ .lf .lf) (.nd 216 ⟨aNl,[]⟩ .lf .lf)) (.nd 221 ⟨aPw,[]⟩ (.nd 220 ⟨aM8,[]⟩ .lf .lf) .lf)) (.nd 226 ⟨aMg,[]⟩ (.nd 224 ⟨aQt,[]⟩ (.nd 223 ⟨aMJ,[]⟩ .lf .lf) (.nd 225 ⟨aP3,[]⟩ .lf .lf)) (.nd 233 ⟨aJS,[]⟩ (.nd 227 ⟨aNJ,[]⟩ .lf .lf) .lf))))))
theorem awG:aBL Tryz.prog awT.find:=FT.good fun p hp=>by
  have e:awT.list=[(124,⟨aQI,[]⟩),(69,⟨s69,[]⟩),(38,⟨s38,[]⟩),(28,⟨s28,[]⟩),(15,⟨s15,[]⟩),(11,⟨s11,[(112,117038101304),(118,123070101305),(114,15),(120,16)]⟩),(10,⟨s10,[]⟩),(13,⟨s13,[]⟩),(19,⟨s19,[]⟩),(17,⟨s17,[]⟩),(27,⟨s27,[]⟩),(32,⟨s32,[]⟩),(30,⟨s30,[]⟩),(29,⟨s29,[]⟩),(31,⟨s31,[(70,75038100902),(76,86038100903),(72,50)]⟩),(34,⟨s34,[]⟩),(33,⟨s33,[]⟩),(57,⟨s57,[]⟩),(43,⟨s43,[]⟩),(40,⟨s40,[(121,126038101002),(126,131038101003),(123,53),(128,55),(120,15)]⟩),(39,⟨s39,[]⟩),(41,⟨s41,[]⟩),(56,⟨s56,[]⟩),(55,⟨s55,[]⟩),(64,⟨s64,[]⟩),(59,⟨s59,[(87,1000101)]⟩),(58,⟨s58,[]⟩),(63,⟨s63,[]⟩),(66,⟨s66,[(29,1000032),(143,14)]⟩),(65,⟨s65,[]⟩),(92,⟨s92,[]⟩),(84,⟨s84,[]⟩),(73,⟨s73,[]⟩),(71,⟨s71,[]⟩),(70,⟨s70,[]⟩),(72,⟨s72,[(110,116038101202),(118,124038101203),(115,14),(123,15)]⟩),(83,⟨s83,[]⟩),(82,⟨s82,[]⟩),(89,⟨s89,[]⟩),(87,⟨s87,[]⟩),(86,⟨s86,[]⟩),(88,⟨s88,[(73,6)]⟩),(91,⟨s91,[]⟩),(90,⟨s90,[]⟩),(99,⟨s99,[]⟩),(96,⟨s96,[]⟩),(94,⟨s94,[]⟩),(93,⟨s93,[]⟩),(95,⟨s95,[]⟩),(98,⟨s98,[]⟩),(97,⟨s97,[]⟩),(119,⟨aP5,[]⟩),(117,⟨aIL,[]⟩),(100,⟨aPX,[(104,17)]⟩),(118,⟨aPR,[]⟩),(121,⟨aMU,[]⟩),(120,⟨aNT,[]⟩),(181,⟨aLR,[]⟩),(162,⟨aQV,[]⟩),(133,⟨aOJ,[]⟩),(128,⟨aQK,[]⟩),(126,⟨aNk,[]⟩),(125,⟨aPK,[]⟩),(127,⟨aOi,[]⟩),(132,⟨aMd,[]⟩),(129,⟨aOM,[(28,1000031),(58,1000061)]⟩),(137,⟨aNh,[]⟩),(135,⟨aLX,[(60,76003105009)]⟩),(134,⟨aQE,[]⟩),(136,⟨aMw,[]⟩),(139,⟨aOm,[]⟩),(138,⟨aOs,[]⟩),(170,⟨aKk,[]⟩),(166,⟨aPT,[]⟩),(164,⟨aMs,[]⟩),(163,⟨aL0,[]⟩),(165,⟨aOk,[]⟩),(169,⟨aII,[]⟩),(167,⟨aQg,[]⟩),(174,⟨aQh,[]⟩),(172,⟨aNc,[]⟩),(171,⟨aKm,[]⟩),(173,⟨aMQ,[]⟩),(180,⟨aQi,[]⟩),(179,⟨aPB,[]⟩),(213,⟨aI5,[]⟩),(188,⟨aNu,[]⟩),(185,⟨aQd,[]⟩),(183,⟨aNj,[]⟩),(182,⟨aML,[]⟩),(184,⟨aQq,[]⟩),(187,⟨aMX,[]⟩),(186,⟨aQC,[]⟩),(192,⟨aPQ,[]⟩),(190,⟨aPM,[]⟩),(189,⟨aMT,[]⟩),(191,⟨aMu,[]⟩),(212,⟨aKz,[]⟩),(207,⟨aNx,[]⟩),(222,⟨aO3,[]⟩),(217,⟨aQO,[]⟩),(215,⟨aIa,[]⟩),(214,⟨aKN,[]⟩),(216,⟨aNl,[]⟩),(221,⟨aPw,[]⟩),(220,⟨aM8,[]⟩),(226,⟨aMg,[]⟩),(224,⟨aQt,[]⟩),(223,⟨aMJ,[]⟩),(225,⟨aP3,[]⟩),(233,⟨aJS,[]⟩),(227,⟨aNJ,[]⟩)]:=by kernel_rfl
  rw [e] at hp
  simp only [List.mem_cons,List.not_mem_nil,or_false] at hp
  rcases hp with rfl|rfl|rfl|rfl|rfl|rfl|rfl|rfl|rfl|rfl|rfl|rfl|rfl|rfl|rfl|rfl|rfl|rfl|rfl|rfl|rfl|rfl|rfl|rfl|rfl|rfl|rfl|rfl|rfl|rfl|rfl|rfl|rfl|rfl|rfl|rfl|rfl|rfl|rfl|rfl|rfl|rfl|rfl|rfl|rfl|rfl|rfl|rfl|rfl|rfl|rfl|rfl|rfl|rfl|rfl|rfl|rfl|rfl|rfl|rfl|rfl|rfl|rfl|rfl|rfl|rfl|rfl|rfl|rfl|rfl|rfl|rfl|rfl|rfl|rfl|rfl|rfl|rfl|rfl|rfl|rfl|rfl|rfl|rfl|rfl|rfl|rfl|rfl|rfl|rfl|rfl|rfl|rfl|rfl|rfl|rfl|rfl|rfl|rfl|rfl|rfl|rfl|rfl|rfl|rfl|rfl|rfl|rfl|rfl|rfl|rfl|rfl
  · exact ⟨_,_,Tryz.func124,aKP,by kernel_rfl⟩
  · exact ⟨_,_,Tryz.func69,aOe,by kernel_rfl⟩
  · exact ⟨_,_,Tryz.func38,aQk,by kernel_rfl⟩
  · exact ⟨_,_,Tryz.func28,aNg,by kernel_rfl⟩
  · exact ⟨_,_,Tryz.func15,aG1,by kernel_rfl⟩
  · exact ⟨_,_,Tryz.func11,aOB,by kernel_rfl⟩
  · exact ⟨_,_,Tryz.func10,aPc,by kernel_rfl⟩
  · exact ⟨_,_,Tryz.func13,aMv,by kernel_rfl⟩
  · exact ⟨_,_,Tryz.func19,aPg,by kernel_rfl⟩
  · exact ⟨_,_,Tryz.func17,aMe,by kernel_rfl⟩
  · exact ⟨_,_,Tryz.func27,aN4,by kernel_rfl⟩
  · exact ⟨_,_,Tryz.func32,aPi,by kernel_rfl⟩
  · exact ⟨_,_,Tryz.func30,aHU,by kernel_rfl⟩
  · exact ⟨_,_,Tryz.func29,aP7,by kernel_rfl⟩
  · exact ⟨_,_,Tryz.func31,aPF,by kernel_rfl⟩
  · exact ⟨_,_,Tryz.func34,aM4,by kernel_rfl⟩
  · exact ⟨_,_,Tryz.func33,aOY,by kernel_rfl⟩
  · exact ⟨_,_,Tryz.func57,aOL,by kernel_rfl⟩
  · exact ⟨_,_,Tryz.func43,aPv,by kernel_rfl⟩
  · exact ⟨_,_,Tryz.func40,aHh,by kernel_rfl⟩
  · exact ⟨_,_,Tryz.func39,aHt,by kernel_rfl⟩
  · exact ⟨_,_,Tryz.func41,aF3,by kernel_rfl⟩
  · exact ⟨_,_,Tryz.func56,aCP,by kernel_rfl⟩
  · exact ⟨_,_,Tryz.func55,aNE,by kernel_rfl⟩
  · exact ⟨_,_,Tryz.func64,aHn,by kernel_rfl⟩
  · exact ⟨_,_,Tryz.func59,aO7,by kernel_rfl⟩
  · exact ⟨_,_,Tryz.func58,aN7,by kernel_rfl⟩
  · exact ⟨_,_,Tryz.func63,aFR,by kernel_rfl⟩
  · exact ⟨_,_,Tryz.func66,aHV,by kernel_rfl⟩
  · exact ⟨_,_,Tryz.func65,aFZ,by kernel_rfl⟩
  · exact ⟨_,_,Tryz.func92,aNH,by kernel_rfl⟩
  · exact ⟨_,_,Tryz.func84,aHC,by kernel_rfl⟩
  · exact ⟨_,_,Tryz.func73,aPr,by kernel_rfl⟩
  · exact ⟨_,_,Tryz.func71,aP4,by kernel_rfl⟩
  · exact ⟨_,_,Tryz.func70,aPL,by kernel_rfl⟩
  · exact ⟨_,_,Tryz.func72,aO8,by kernel_rfl⟩
  · exact ⟨_,_,Tryz.func83,aQH,by kernel_rfl⟩
  · exact ⟨_,_,Tryz.func82,aNZ,by kernel_rfl⟩
  · exact ⟨_,_,Tryz.func89,aMo,by kernel_rfl⟩
  · exact ⟨_,_,Tryz.func87,aNd,by kernel_rfl⟩
  · exact ⟨_,_,Tryz.func86,aOf,by kernel_rfl⟩
  · exact ⟨_,_,Tryz.func88,aLW,by kernel_rfl⟩
  · exact ⟨_,_,Tryz.func91,aMc,by kernel_rfl⟩
  · exact ⟨_,_,Tryz.func90,aON,by kernel_rfl⟩
  · exact ⟨_,_,Tryz.func99,aNm,by kernel_rfl⟩
  · exact ⟨_,_,Tryz.func96,aP8,by kernel_rfl⟩
  · exact ⟨_,_,Tryz.func94,aNW,by kernel_rfl⟩
  · exact ⟨_,_,Tryz.func93,aQP,by kernel_rfl⟩
  · exact ⟨_,_,Tryz.func95,aO6,by kernel_rfl⟩
  · exact ⟨_,_,Tryz.func98,aLS,by kernel_rfl⟩
  · exact ⟨_,_,Tryz.func97,aMx,by kernel_rfl⟩
  · exact ⟨_,_,Tryz.func119,aIC,by kernel_rfl⟩
  · exact ⟨_,_,Tryz.func117,aEG,by kernel_rfl⟩
  · exact ⟨_,_,Tryz.func100,aIA,by kernel_rfl⟩
  · exact ⟨_,_,Tryz.func118,aJa,by kernel_rfl⟩
  · exact ⟨_,_,Tryz.func121,aKc,by kernel_rfl⟩
  · exact ⟨_,_,Tryz.func120,aJU,by kernel_rfl⟩
  · exact ⟨_,_,Tryz.func181,aJV,by kernel_rfl⟩
  · exact ⟨_,_,Tryz.func162,aJl,by kernel_rfl⟩
  · exact ⟨_,_,Tryz.func133,aJj,by kernel_rfl⟩
  · exact ⟨_,_,Tryz.func128,aKg,by kernel_rfl⟩
  · exact ⟨_,_,Tryz.func126,aKF,by kernel_rfl⟩
  · exact ⟨_,_,Tryz.func125,aH9,by kernel_rfl⟩
  · exact ⟨_,_,Tryz.func127,aIH,by kernel_rfl⟩
  · exact ⟨_,_,Tryz.func132,aJX,by kernel_rfl⟩
  · exact ⟨_,_,Tryz.func129,aIQ,by kernel_rfl⟩
  · exact ⟨_,_,Tryz.func137,aHY,by kernel_rfl⟩
  · exact ⟨_,_,Tryz.func135,aIR,by kernel_rfl⟩
  · exact ⟨_,_,Tryz.func134,aKq,by kernel_rfl⟩
  · exact ⟨_,_,Tryz.func136,aI3,by kernel_rfl⟩
  · exact ⟨_,_,Tryz.func139,aJt,by kernel_rfl⟩
  · exact ⟨_,_,Tryz.func138,aJZ,by kernel_rfl⟩
  · exact ⟨_,_,Tryz.func170,aDB,by kernel_rfl⟩
  · exact ⟨_,_,Tryz.func166,aKe,by kernel_rfl⟩
  · exact ⟨_,_,Tryz.func164,aKw,by kernel_rfl⟩
  · exact ⟨_,_,Tryz.func163,aI9,by kernel_rfl⟩
  · exact ⟨_,_,Tryz.func165,aKK,by kernel_rfl⟩
  · exact ⟨_,_,Tryz.func169,aDo,by kernel_rfl⟩
  · exact ⟨_,_,Tryz.func167,aKj,by kernel_rfl⟩
  · exact ⟨_,_,Tryz.func174,aJ3,by kernel_rfl⟩
  · exact ⟨_,_,Tryz.func172,aIu,by kernel_rfl⟩
  · exact ⟨_,_,Tryz.func171,aD7,by kernel_rfl⟩
  · exact ⟨_,_,Tryz.func173,aKH,by kernel_rfl⟩
  · exact ⟨_,_,Tryz.func180,aJI,by kernel_rfl⟩
  · exact ⟨_,_,Tryz.func179,aIK,by kernel_rfl⟩
  · exact ⟨_,_,Tryz.func213,aDO,by kernel_rfl⟩
  · exact ⟨_,_,Tryz.func188,aKl,by kernel_rfl⟩
  · exact ⟨_,_,Tryz.func185,aIz,by kernel_rfl⟩
  · exact ⟨_,_,Tryz.func183,aJT,by kernel_rfl⟩
  · exact ⟨_,_,Tryz.func182,aIh,by kernel_rfl⟩
  · exact ⟨_,_,Tryz.func184,aJx,by kernel_rfl⟩
  · exact ⟨_,_,Tryz.func187,aJW,by kernel_rfl⟩
  · exact ⟨_,_,Tryz.func186,aJP,by kernel_rfl⟩
  · exact ⟨_,_,Tryz.func192,aKp,by kernel_rfl⟩
  · exact ⟨_,_,Tryz.func190,aH6,by kernel_rfl⟩
  · exact ⟨_,_,Tryz.func189,aIj,by kernel_rfl⟩
  · exact ⟨_,_,Tryz.func191,aJ2,by kernel_rfl⟩
  · exact ⟨_,_,Tryz.func212,aDn,by kernel_rfl⟩
  · exact ⟨_,_,Tryz.func207,aIm,by kernel_rfl⟩
  · exact ⟨_,_,Tryz.func222,aH3,by kernel_rfl⟩
  · exact ⟨_,_,Tryz.func217,aKy,by kernel_rfl⟩
  · exact ⟨_,_,Tryz.func215,aEF,by kernel_rfl⟩
  · exact ⟨_,_,Tryz.func214,aDq,by kernel_rfl⟩
  · exact ⟨_,_,Tryz.func216,aIW,by kernel_rfl⟩
  · exact ⟨_,_,Tryz.func221,aJf,by kernel_rfl⟩
  · exact ⟨_,_,Tryz.func220,aJ9,by kernel_rfl⟩
  · exact ⟨_,_,Tryz.func226,aKM,by kernel_rfl⟩
  · exact ⟨_,_,Tryz.func224,aJk,by kernel_rfl⟩
  · exact ⟨_,_,Tryz.func223,aJc,by kernel_rfl⟩
  · exact ⟨_,_,Tryz.func225,aJQ,by kernel_rfl⟩
  · exact ⟨_,_,Tryz.func233,aDU,by kernel_rfl⟩
  · exact ⟨_,_,Tryz.func227,aIG,by kernel_rfl⟩
def awQ:jR:=(orP uN (orP wH (orP (sZ 999983) uZ)))
theorem aNI:fU Tryz.prog awQ:=(aCy xH (aCy wZ (aCy (vO 999983) wV)))
def awA:PrimA:=(orA (orA nE lM) mO)
theorem aQe:eQ Tryz.prog awA:=(aGz (aGz aAZ tL) uU)
theorem fI {l:List gV} (hl: ∀ p∈l,bB Tryz.prog p.1 p.2.1 p.2.2) {f:Nat} {args:List V} {v:V} (hp:cY args=true) (h:(sM awQ awT.find (aAs awQ (orB (aRF l) awA) awT.find 400) 0 false f args H0).map (·.1)=some v):bB Tryz.prog f args v:=aAk aNI (aPd (aIp hl) aQe) awG 400 hp h
end Go.Proofs.YtilfohjlglefjaaGreat
