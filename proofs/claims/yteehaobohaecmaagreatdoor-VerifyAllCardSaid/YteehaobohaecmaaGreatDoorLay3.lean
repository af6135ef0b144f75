/- The layer: abstract values for memory and their soundness; no condition. -/
import Derived.IntWalk
import Derived.ChangeArms
import Derived.DataElems
import Derived.DataReads
import Derived.OpenShut
import Derived.ProofKit
import Derived.WalkKit
import Derived.Carry
import Derived.Test.YteehaobohaecmaaGreatDoorLay2
set_option linter.unusedSimpArgs false
set_option linter.unusedVariables false
namespace Go.Proofs.YteehaobohaecmaaGreatDoor
open Go
def bJ (P : Program) (op : Opt) (fn : Func) : Option SF :=
  match fn.body with
  |none=>none
  | some c => match aAd P op fn.ntmps c, fX (wS P fn.ntmps) fn.results.toList with
    |some s,some r=>some ⟨fn.ntmps,r,s⟩
    |_,_=>none
def rI:V:=.raw undef
def T0 (args:List V):Nat→V:=fun i=>args.getD i rI
def mD (T:Nat→V) (H:aP):SRes→Option V
  | .tmp t=>some (T t)
  | .cell t g m=>(ptr H (T t)).bind (ldV g m)
def mF (res:List SRes) (T:Nat→V) (H:aP):Option V:=match fX (mD T H) res with
  |some [v]=>some v
  |some vs=>some (.tup vs)
  |none=>none
def Ret (res:List SRes) (K:V→aP→Prop):Ex→(Nat→V)→aP→Prop:=fun e T H=>match e with
  | .exit _=>False
  | .pan _=>False
  |_=>onS (mF res T H) fun v=>K v H
section
variable {P:Program} {k0:Nat} {op:Opt}
theorem aGd {α β:Type} {f:α→Sem β} {w:World}: ∀ (l:List α) (r:List β),l.length=r.length→(∀ (j:Nat) (a:α) (b:β),l[j]?=some a→r[j]?=some b→(f a).run P w=.ok b w)→(l.mapM f).run P w=.ok r w
  | [], r, h, _ => by cases r with
    |nil=>simp
    |cons b r=>simp at h
  | a :: l, r, h, hf => by
    cases r with
    |nil=>simp at h
    | cons b r =>
      have h1:=hf 0 a b rfl rfl
      have h2:=aGd l r (by simpa using h) fun j a' b' ha hb=>hf (j+1) a' b' (by simpa using ha) (by simpa using hb)
      simp only [List.mapM_cons,Sem.run_bind,h1,Result.andThen_ok,h2,Sem.run_pure]
def rD (tmps:Array Value):ResultVar→Sem Value
  | .tmp t=>pure (tmps.getD t undef)
  | .cell ad t=>do loadVar t (← asAddr (tmps.getD ad undef))
theorem yV (fn:Func) (tmps:Array Value):results fn tmps=(do
    let vs ← fn.results.mapM (rD tmps)
    pure (if h:vs.size=1 then vs[0] else .tuple vs)):=rfl
theorem aMo {D : List Deferred} {n : Nat} {rv : ResultVar} {s : SRes} (hs : wS P n rv = some s) {x : Cx} (hx : Inv x) {T : Nat → V} {a : Act} (hT : TRel D n x T a) {v : V} (hv : mD T x.H s = some v) :
    ∃ c,(rD a.tmps rv).run P x.w=.ok c x.w∧R x v c:=by
  unfold wS at hs
  split at hs
  · rename_i t
    split at hs
    · cases hs; cases hv
      exact ⟨_,rfl,hT.tmps t⟩
    · cases hs
  · rename_i t ty
    split at hs
    · rename_i g m hg hm
      split at hs
      · rename_i hc
        cases hs
        obtain ⟨c,h1,h2⟩:=aCM (P:=P) hx hv (hT.tmps t) hg hm hc.2
        refine ⟨c,?_,h2⟩
        obtain ⟨cs,hp,_⟩:=oJ hv
        obtain ⟨ad,f,he,_⟩:=aAN hx hp (hT.tmps t)
        simp only [rD]
        rw [he] at h1 ⊢
        simpa [Instr.loadAt,Instr.sureAddr,asAddr] using h1
      · cases hs
    · cases hs
theorem vI {D : List Deferred} {fn : Func} {n : Nat} {res : List SRes} (hs : fX (wS P n) fn.results.toList = some res) {x : Cx} (hx : Inv x) {T : Nat → V} {a : Act} (hT : TRel D n x T a) {v : V} (hv : mF res T x.H = some v) :
    ∃ c,(results fn a.tmps).run P x.w=.ok c x.w∧R x v c:=by
  obtain ⟨g1,g2⟩:=gF hs
  unfold mF at hv
  have key: ∀ (vs:List V),fX (mD T x.H) res=some vs→ ∃ cs:List Value,RL x vs cs∧(fn.results.mapM (rD a.tmps)).run P x.w=.ok cs.toArray x.w:=by
    intro vs hvs
    obtain ⟨g3,g4⟩:=gF hvs
    have ex: ∀ j,j < vs.length→ ∃ c,R x (vs.getD j rI) c∧ ∀ rv,fn.results.toList[j]?=some rv→(rD a.tmps rv).run P x.w=.ok c x.w:=fun j hj=>by
      obtain ⟨s,hs1,hs2⟩:=g4 j vs[j] (List.getElem?_eq_getElem hj)
      obtain ⟨rv,hr1,hr2⟩:=g2 j s hs1
      obtain ⟨c,hc1,hc2⟩:=aMo hr2 hx hT hs2
      refine ⟨c,by simpa [hj] using hc2,fun rv' hrv'=>?_⟩
      have:rv'=rv:=by have:=hrv'.symm.trans hr1; simpa using this
      subst this; exact hc1
    have choice: ∃ f:Nat→Value,∀ j,j < vs.length→R x (vs.getD j rI) (f j)∧ ∀ rv,fn.results.toList[j]?=some rv→(rD a.tmps rv).run P x.w=.ok (f j) x.w:=
      ⟨fun j=>if h:j < vs.length then Classical.choose (ex j h) else undef,fun j hj=>by
        simp only [hj,dif_pos]; exact Classical.choose_spec (ex j hj)⟩
    obtain ⟨f,hf⟩:=choice
    refine ⟨(List.range vs.length).map f,⟨by simp,fun j v hj=>?_⟩,?_⟩
    · have hlt:=(List.getElem?_eq_some_iff.1 hj).1
      have h1:=(hf j hlt).1
      have e1:vs.getD j rI=v:=by rw [List.getD_eq_getElem?_getD,hj]; rfl
      have e2:((List.range vs.length).map f).getD j undef=f j:=by simp [hlt]
      rw [e2,← e1]; exact h1
    · rw [Array.mapM_eq_mapM_toList]
      have:=aGd (P:=P) (w:=x.w) (f:=rD a.tmps) fn.results.toList ((List.range vs.length).map f) (by simp [g3,g1]) (fun j rv b h1 h2=>by
          have hlt:j < vs.length:=by have:=(List.getElem?_eq_some_iff.1 h2).1; simpa using this
          have e2:b=f j:=by simp [hlt] at h2; exact h2.symm
          subst e2
          exact (hf j hlt).2 rv h1)
      simp only [Sem.run_map,this,Result.andThen_ok]
  cases hm:fX (mD T x.H) res with
  |none=>rw [hm] at hv; cases hv
  | some vs =>
    obtain ⟨cs,hR,hrun⟩:=key vs hm
    have hsz:cs.toArray.size=vs.length:=by simp [hR.1]
    rw [hm] at hv
    by_cases h1:vs.length=1
    · obtain ⟨u,rfl⟩: ∃ u,vs=[u]:=by
        cases vs with
        |nil=>simp at h1
        | cons u l => cases l with
          |nil=>exact ⟨u,rfl⟩
          |cons u' l=>simp at h1
      cases hv
      obtain ⟨c,rfl⟩: ∃ c,cs=[c]:=by
        have:=hR.1
        cases cs with
        |nil=>simp at this
        | cons u l => cases l with
          |nil=>exact ⟨u,rfl⟩
          |cons u' l=>simp at this
      refine ⟨c,?_,hR.2 0 _ rfl⟩
      rw [yV]
      simp only [Sem.run_bind,hrun]
      rfl
    · have hv':V.tup vs=v:=by
        cases vs with
        |nil=>simpa using hv
        | cons u l => cases l with
          |nil=>simp at h1
          |cons u' l=>simpa using hv
      subst hv'
      refine ⟨.tuple cs.toArray,?_,.tup vs _ hsz fun j u hj=>?_⟩
      · rw [yV]
        simp only [Sem.run_bind,hrun,Result.andThen_ok,Sem.run_pure]
        rw [dif_neg (by rw [hsz]; exact h1)]
      · have:=hR.2 j u hj
        rw [Array.getD_eq_getD_getElem?,List.getElem?_toArray,← List.getD_eq_getElem?_getD]
        exact this
theorem yE {x:Cx} {n:Nat} {args:List V} {cs:List Value} (h:RL x args cs) (hl:args.length≤n):
    TRel [] n x (T0 args) {tmps:=cs.toArray++Array.replicate (n - cs.toArray.size) undef,defers:=[]}:=by
  refine ⟨fun i=>?_,rfl,by simp [h.1]; omega⟩
  have hsz:cs.toArray.size=args.length:=by simp [h.1]
  simp only [T0]
  rw [Array.getD_eq_getD_getElem?,Array.getElem?_append]
  by_cases hi:i < args.length
  · rw [if_pos (by omega)]
    have:=h.2 i args[i] (List.getElem?_eq_getElem hi)
    rw [List.getD_eq_getElem?_getD,List.getElem?_eq_getElem hi,List.getElem?_toArray,← List.getD_eq_getElem?_getD]
    exact this
  · rw [if_neg (by omega),List.getD_eq_getElem?_getD,List.getElem?_eq_none (by omega),Array.getElem?_replicate]
    simp only [Option.getD_none]
    split
    · exact .raw undef rfl
    · exact .raw undef rfl
theorem yH {f : Nat} {fn : Func} {s : SF} (hf : P.funcs[f]? = some fn) (hs : bJ P op fn = some s) {x : Cx} {args : List V} {cs : List Value} {K : V → aP → Prop}
    (hl:args.length≤s.n) (hW:W P k0 s.body (Ret s.res K) (T0 args) x.H) (hx:Inv x) (hr:RL x args cs):
    Calls P f cs.toArray x.w fun e w'=> ∃ c v y,e=.returned c∧y.w=w'∧K v y.H∧Inv y∧R y v c∧Frame x y:=by
  unfold bJ at hs
  split at hs
  · cases hs
  · rename_i c hc
    split at hs
    · rename_i sb r h1 h2
      cases hs
      refine calls_of_wp hf hc (wp_mono (aFo c sb h1 _ x x (T0 args) _ hW hx (yE hr hl) (Frame.refl x)) ?_)
      intro e a' w' hp
      obtain ⟨e',T',y,he,hw,hq,hy,hT',hF'⟩:=hp
      have fin:onS (mF r T' y.H) (fun v=>K v y.H)→a'.defers=[]∧ ∃ v,(results fn a'.tmps).run P w'=.ok v w'∧(∃ c u z,Ending.returned v=.returned c∧z.w=w'∧K u z.H∧Inv z∧R z u c∧Frame x z):=by
        intro h
        obtain ⟨v,h3,h4⟩:=bO.1 h
        obtain ⟨c,h5,h6⟩:=vI h2 hy hT' h3
        exact ⟨hT'.defers,c,by rw [← hw]; exact h5,c,v,y,rfl,hw,h4,hy,h6,hF'⟩
      cases e with
      |normal=>cases he; exact fin hq
      |ret=>cases he; exact fin hq
      |exit id=>cases he; exact hq.elim
      |goto l=>cases he
      |panic l=>obtain ⟨c,rfl⟩:=mY he; exact hq.elim
      |outgrown=>cases he
    · cases hs
theorem lA {f : Nat} {fn : Func} {s : SF} (hf : P.funcs[f]? = some fn) (hs : bJ P op fn = some s) (hn : (fn.name == "runtime.NumGoroutine") = false) : dV P f := by
  refine ⟨fn,hf,?_,hn⟩
  unfold bJ at hs
  split at hs
  · cases hs
  · rename_i c hc; rw [hc]; rfl
end
end Go.Proofs.YteehaobohaecmaaGreatDoor


namespace Go.Proofs.YteehaobohaecmaaGreatDoor
open Go
mutual
def V.pure:V→Bool
  | .sl rows=>gN rows
  | .pp cells=>eE cells
  | .agg cells=>eE cells
  | .tup vs=>eE vs
  | .fn _ a b=>eE a&&eE b
  | .ms _ _ _ _=>false
  | .mp _ _ _ _=>false
  | .mm _ _=>false
  | .int _ _=>true
  | .bool _=>true
  | .str _=>true
  | .nilsl=>true
  | .nilp=>true
  | .raw _=>true
def eE:List V→Bool
  |[]=>true
  |v::l=>v.pure&&eE l
def gN:List (List V)→Bool
  |[]=>true
  |r::l=>eE r&&gN l
end
theorem dK {l:List V}:eE l=true↔ ∀ v∈l,v.pure=true:=by
  induction l with
  |nil=>simp [eE]
  |cons v l ih=>simp [eE,ih]
theorem iI {l:List (List V)}:gN l=true↔ ∀ r∈l,eE r=true:=by
  induction l with
  |nil=>simp [gN]
  |cons v l ih=>simp [gN,ih]
theorem R.pure_at {x y:Cx} {v:V} {c:Value} (h:R x v c) (hp:v.pure=true) (hw:y.w=x.w) (hz: ∀ b,x.Z b→y.Z b):R y v c:=by
  induction h with
  |int k n=>exact .int k n
  |bool b=>exact .bool b
  |str s=>exact .str s
  |nilsl=>exact .nilsl
  |slnil=>exact .slnil
  | sl rows a cap sz cs hc hm hzz hsz hcell _ ih =>
    simp only [V.pure] at hp
    refine .sl rows a cap sz cs hc hm (fun hne=>hz _ (hzz hne)) hsz (fun r row j v hr hj=>by rw [hw]; exact hcell r row j v hr hj) fun r row j v hr hj=>ih r row j v hr hj ?_
    exact dK.1 (iI.1 hp row (List.mem_of_getElem? hr)) v (List.mem_of_getElem? hj)
  |ms=>simp [V.pure] at hp
  | pp cells a cs hzz hcell _ ih =>
    simp only [V.pure] at hp
    exact .pp cells a cs (fun hne=>hz _ (hzz hne)) (fun j v hj=>by rw [hw]; exact hcell j v hj) fun j v hj=>ih j v hj (dK.1 hp v (List.mem_of_getElem? hj))
  |nilp=>exact .nilp
  |mp=>simp [V.pure] at hp
  |mm=>simp [V.pure] at hp
  | agg cells cs hs _ ih =>
    simp only [V.pure] at hp
    exact .agg cells cs hs fun j v hj=>ih j v hj (dK.1 hp v (List.mem_of_getElem? hj))
  | tup vs cs hs _ ih =>
    simp only [V.pure] at hp
    exact .tup vs cs hs fun j v hj=>ih j v hj (dK.1 hp v (List.mem_of_getElem? hj))
  | fn f first caps fs cs hfs hcs _ _ ih1 ih2 =>
    simp only [V.pure,Bool.and_eq_true] at hp
    exact .fn f first caps fs cs hfs hcs (fun j v hj=>ih1 j v hj (dK.1 hp.1 v (List.mem_of_getElem? hj))) fun j v hj=>ih2 j v hj (dK.1 hp.2 v (List.mem_of_getElem? hj))
  |raw c hh=>exact .raw c hh
theorem RL.pure_at {x y:Cx} {vs:List V} {cs:List Value} (h:RL x vs cs) (hp:eE vs=true) (hw:y.w=x.w) (hz: ∀ b,x.Z b→y.Z b):RL y vs cs:=
  ⟨h.1,fun j v hj=>(h.2 j v hj).pure_at (dK.1 hp v (List.mem_of_getElem? hj)) hw hz⟩
def rZ (x:Cx):Cx:={x with Z:=fun b=>x.Z b∨ ∃ id,(x.H id).own=true∧x.σ id=b,H:=fun id=>{x.H id with live:=false}}
theorem aBk {x:Cx} (hx:Inv x):Inv (rZ x)∧Frame x (rZ x):=by
  have hno: ∀ id,((rZ x).H id).own=true→False:=fun id h=>by simp [rZ,Blk.own] at h
  refine ⟨⟨fun b h=>?_,fun b id _ h=>(hno id h).elim,fun id h=>(hno id h).elim,fun i j h=>(hno i h).elim,fun p hp=>⟨.inl (hx.tab p hp).1,(hx.tab p hp).2⟩⟩,⟨rfl,rfl,rfl,Nat.le_refl _,fun _ _ _=>rfl,fun b h=>.inl h,fun b h=>?_,fun id=>⟨Nat.le_refl _,fun h=>by simp [rZ] at h⟩,fun id h=>(hno id h).elim,Nat.le_refl _,fun id h=>by simp [rZ] at h⟩⟩
  · rcases h with h|⟨id,h,rfl⟩
    · exact hx.zlt b h
    · exact hx.lt h
  · rcases h with h|h
    · exact .inl h
    · exact .inr (.inr h)
def H0:aP:=fun _=>⟨0,false,false,0,0,[]⟩
def start (x:Cx) (Z:Nat→Prop):Cx:={w:=x.w,Z:=Z,σ:=fun _=>0,H:=H0}
theorem rJ (id:Nat):(H0 id).own=true→False:=fun h=>by simp [H0,Blk.own] at h
theorem lR {x:Cx} {Z:Nat→Prop} (hZ: ∀ b,Z b→b < x.w.heap.size) (ht:aIR x.w Z):Inv (start x Z):=
  ⟨hZ,fun _ id _ h=>(rJ id h).elim,fun id h=>(rJ id h).elim,fun i _ h=>(rJ i h).elim,ht⟩
theorem back {x y:Cx} (hx:Inv x) {Z:Nat→Prop} (hf:Frame (start x Z) y) (_hy:Inv y) {Z':Nat→Prop} (h1: ∀ b,x.Z b→Z' b) (h2: ∀ b,Z' b→x.Z b∨(x.w.heap.size≤b∧b < y.w.heap.size)):
    let z:Cx:={w:=y.w,Z:=Z',σ:=x.σ,H:=x.H}
    Inv z∧Frame x z:=by
  intro z
  have hkeep: ∀ b,b < x.w.heap.size→y.w.heap[b]?=x.w.heap[b]?:=fun b hb=>hf.keep b hb fun id h=>(rJ id h).elim
  have hF:Frame x z:=by
    refine ⟨hf.os,hf.tape,hf.output,hf.size,fun b hb _=>hkeep b hb,h1,fun b hb=>?_,fun id=>⟨Nat.le_refl _,fun h _=>⟨h,rfl,rfl,fun _=>rfl,fun ho=>⟨rfl,?_⟩⟩⟩,fun id h=>.inl ⟨h,rfl⟩,hf.drawn,fun _ _ _=>rfl⟩
    · rcases h2 b hb with h|h
      · exact .inl h
      · exact .inr (.inl h.1)
    · unfold dX
      rw [show z.w.heap[x.σ id]?=x.w.heap[x.σ id]? from hkeep _ (hx.lt ho)]
  have hs:x.w.heap.size≤y.w.heap.size:=hf.size
  refine ⟨⟨fun b hb=>?_,fun b id hb ho=>?_,fun id ho=>?_,hx.inj,hx.tab_of hF⟩,hF⟩
  · rcases h2 b hb with h|h
    · have:=hx.zlt b h; show b < y.w.heap.size; omega
    · exact h.2
  · rcases h2 b hb with h|h
    · exact hx.zown b id h ho
    · have:=hx.lt ho
      intro e
      have e':x.σ id=b:=e
      omega
  · obtain ⟨cc,g1,g2,g3,g4⟩:=hx.blk id ho
    exact ⟨cc,by rw [show z.w.heap[x.σ id]?=x.w.heap[x.σ id]? from hkeep _ (hx.lt ho)]; exact g1,g2,g3,fun r row j v hr hj=>(g4 r row j v hr hj).frame hx hF⟩
def aQ (P:Program) (f:Nat) (args:List V) (v:V):Prop:= ∀ H,eR P f args H v H
section
variable {P:Program} {op:Opt}
theorem aQ.roc {f:Nat} {args:List V} {v:V} (h:aQ P f args v) (H:aP):ROC P f args H v:=fun H' _=>h H'
def V.scalar : V → Bool
  | .int _ _=>true
  | .bool _=>true
  | .str _=>true
  | .agg cs => cs.all fun v => match v with
    | .int _ _=>true
    | .bool _=>true
    | .str _=>true
    |_=>false
  | .tup cs => cs.all fun v => match v with
    | .int _ _=>true
    | .bool _=>true
    | .str _=>true
    |_=>false
  |_=>false
theorem aIs {x y:Cx} {v:V} {c:Value} (h:R x v c) (hs:v.scalar=true):R y v c:=by
  have one: ∀ {u:V} {d:Value},R x u d→(match u with| .int _ _=>true| .bool _=>true| .str _=>true|_=>false)=true→R y u d:=by
    intro u d hu hb
    cases hu <;> first|(simp at hb; done)|exact .int _ _|exact .bool _|exact .str _
  cases h with
  |int k n=>exact .int k n
  |bool b=>exact .bool b
  |str s=>exact .str s
  | agg cells cs hl hr =>
    simp only [V.scalar,List.all_eq_true] at hs
    exact .agg cells cs hl fun j v hj=>one (hr j v hj) (hs v (List.mem_of_getElem? hj))
  | tup cells cs hl hr =>
    simp only [V.scalar,List.all_eq_true] at hs
    exact .tup cells cs hl fun j v hj=>one (hr j v hj) (hs v (List.mem_of_getElem? hj))
  |_=>simp [V.scalar] at hs
end
end Go.Proofs.YteehaobohaecmaaGreatDoor


namespace Go.Proofs.YteehaobohaecmaaGreatDoor
open Go
def fzv (z : Bool) (H : aP) : Nat → V → V
  |0,v=>v
  | n + 1, v => match v with
    | .nilsl=>if z then .sl [] else .nilsl
    | .ms id ver off len=>if (H id).live&&decide ((H id).ver=ver) then .sl ((((H id).rows.drop off).take len).map fun r=>r.map (fzv z H n)) else .ms id ver off len
    | .mp id ver row off => if (H id).own && decide ((H id).ver = ver) then match (H id).rows[row]? with
        |some r=>.pp ((r.drop off).map (fzv z H n))
        |none=>.mp id ver row off
      else .mp id ver row off
    | .agg cs=>.agg (cs.map (fzv z H n))
    | .tup vs=>.tup (vs.map (fzv z H n))
    | .fn f a b=>.fn f (a.map (fzv z H n)) (b.map (fzv z H n))
    | .sl rows=>.sl (rows.map fun r=>r.map (fzv z H n))
    | .pp cells=>.pp (cells.map (fzv z H n))
    |v=>v
theorem eT {α β:Type} {f:α→β} {l:List α} {j:Nat} {b:β} (h:(l.map f)[j]?=some b): ∃ a,l[j]?=some a∧b=f a:=by
  rw [List.getElem?_map] at h
  obtain ⟨a,h1,h2⟩:=map_some h
  exact ⟨a,h1,by first|exact h2|exact h2.symm⟩
variable {z:Bool}
theorem aJw {x : Cx} (hx : Inv x) : ∀ (n : Nat) {v : V} {c : Value}, R x v c → R (rZ x) (fzv z x.H n v) c := by
  have hf:=(aBk hx).2
  intro n
  induction n with
  |zero=>intro v c h; exact h.frame hx hf
  | succ n ih =>
    intro v c h
    cases h with
    |int k n=>exact .int k n
    |bool b=>exact .bool b
    |str s=>exact .str s
    |nilsl=>cases z <;> simp only [fzv] <;> first|exact .nilsl|exact .slnil
    |slnil=>exact .slnil
    |nilp=>exact .nilp
    |raw c hh=>exact .raw c hh
    |mm id ver b hv hh=>exact (R.mm id ver b hv hh).frame hx hf
    | agg cells cs hs hr =>
      refine .agg _ cs (by simpa using hs) fun j v hj=>?_
      obtain ⟨u,hu,rfl⟩:=eT hj
      exact ih (hr j u hu)
    | tup vs cs hs hr =>
      refine .tup _ cs (by simpa using hs) fun j v hj=>?_
      obtain ⟨u,hu,rfl⟩:=eT hj
      exact ih (hr j u hu)
    | fn f first caps fs cs hfs hcs hff hc =>
      refine .fn f _ _ fs cs (by simpa using hfs) (by simpa using hcs) (fun j v hj=>?_) fun j v hj=>?_
      · obtain ⟨u,hu,rfl⟩:=eT hj
        exact ih (hff j u hu)
      · obtain ⟨u,hu,rfl⟩:=eT hj
        exact ih (hc j u hu)
    | sl rows a cap sz cs hc hm hz hsz hcell hh =>
      have key:=R.sl (x:=rZ x) (rows.map fun r=>r.map (fzv z x.H n)) a cap sz cs (by simpa using hc) hm (fun hne=>.inl (hz (by simpa using hne)))
        (fun r hr=>by obtain ⟨r',hr',rfl⟩:=List.mem_map.1 hr; simpa using hsz r' hr')
        (fun r row j v hr hj=>by
          obtain ⟨row',h1,rfl⟩:=eT hr
          obtain ⟨v',h2,rfl⟩:=eT hj
          exact hcell r row' j v' h1 h2)
        (fun r row j v hr hj=>by
          obtain ⟨row',h1,rfl⟩:=eT hr
          obtain ⟨v',h2,rfl⟩:=eT hj
          exact ih (hh r row' j v' h1 h2))
      simpa [fzv] using key
    | pp cells a cs hz hcell hh =>
      refine .pp _ a cs (fun hne=>.inl (hz (by simpa using hne))) (fun j v hj=>?_) fun j v hj=>?_
      · obtain ⟨u,hu,rfl⟩:=eT hj
        exact hcell j u hu
      · obtain ⟨u,hu,rfl⟩:=eT hj
        exact ih (hh j u hu)
    | mp id ver row off p hv hh hm =>
      simp only [fzv]
      split
      · rename_i hc
        simp only [Bool.and_eq_true,decide_eq_true_eq] at hc
        split
        · rename_i r hr
          obtain ⟨cc,g1,g2,g3,g4⟩:=hx.cel id hc.1 (hm hc.2 hc.1)
          have e:=hh hc.2 hc.1
          subst e
          have hrow:=g2 r (List.mem_of_getElem? hr)
          have hlt:=(List.getElem?_eq_some_iff.1 hr).1
          refine .pp _ _ (fun j=>cc.getD (row*(x.H id).sz+off+j) undef) (fun _=>.inr ⟨id,hc.1,rfl⟩) (fun j v hj=>?_) fun j v hj=>?_
          · obtain ⟨u,hu,rfl⟩:=eT hj
            rw [List.getElem?_drop] at hu
            have h9:=(gH g2 g3 hr hu).1
            rw [Addr.add_lit]
            exact hC g1 (by omega)
          · obtain ⟨u,hu,rfl⟩:=eT hj
            rw [List.getElem?_drop] at hu
            have h10:=g4 _ _ _ _ hr hu
            rw [← Nat.add_assoc] at h10
            exact ih h10
        · exact (R.mp id ver row off p hv hh hm).frame hx hf
      · exact (R.mp id ver row off p hv hh hm).frame hx hf
    | ms id ver off len b m cap hv hh hm =>
      simp only [fzv]
      split
      · rename_i hc
        simp only [Bool.and_eq_true,decide_eq_true_eq] at hc
        obtain ⟨e1,e2,e3,e4,e5,e6⟩:=hh hc.2 hc.1
        subst e1
        have hlen:(((x.H id).rows.drop off).take m).length=m:=by simp; omega
        cases ho:(x.H id).own with
        | false =>
          have e8:=e6 ho
          have hm0:m=0:=by omega
          subst hm0; subst e8
          simpa using R.sl0 _
        | true =>
          obtain ⟨e7,e8⟩:=e5 ho
          subst e7
          obtain ⟨cc,h1,h2,h3,h4⟩:=hx.cel id ho (hm hc.2 hc.1)
          have hidx: ∀ (r:Nat) (row:List V),(((x.H id).rows.drop off).take m)[r]?=some row→(x.H id).rows[off+r]?=some row:=by
            intro r row hr
            simp only [List.getElem?_take,List.getElem?_drop] at hr
            split at hr
            · exact hr
            · cases hr
          have key:=R.sl (x:=rZ x) ((((x.H id).rows.drop off).take m).map fun r=>r.map (fzv z x.H n)) ⟨x.σ id,off*(x.H id).sz,none⟩ cap (x.H id).sz
            (fun k=>cc.getD (off*(x.H id).sz+k) undef) (by rw [List.length_map]; omega) e3 (fun _=>.inr ⟨id,ho,rfl⟩)
            (fun r hr=>by
              obtain ⟨r',hr',rfl⟩:=List.mem_map.1 hr
              rw [List.length_map]
              exact h2 r' (List.mem_of_mem_drop (List.mem_of_mem_take hr')))
            (fun r row q v hr hj=>by
              obtain ⟨row',g1,rfl⟩:=eT hr
              obtain ⟨v',g2,rfl⟩:=eT hj
              have h8:=hidx _ _ g1
              have h9:=(gH h2 h3 h8 g2).1
              rw [Nat.add_mul] at h9
              rw [Addr.add_lit]
              exact hC h1 (by omega))
            (fun r row q v hr hj=>by
              obtain ⟨row',g1,rfl⟩:=eT hr
              obtain ⟨v',g2,rfl⟩:=eT hj
              have h8:=hidx _ _ g1
              have h10:=h4 _ _ _ _ h8 g2
              rw [show (off+r)*(x.H id).sz+q=off*(x.H id).sz+(r*(x.H id).sz+q) by rw [Nat.add_mul]; omega] at h10
              exact ih h10)
          rw [List.length_map,hlen] at key
          exact key
      · exact (R.ms id ver off len b m cap hv hh hm).frame hx hf
section
variable {P:Program} {op:Opt}
theorem aEe (z : Bool) (n : Nat) {f : Nat} {fn : Func} {s : SF} (hf : P.funcs[f]? = some fn) (hs : bJ P op fn = some s) (hn : (fn.name == "runtime.NumGoroutine") = false) {args : List V} {v : V}
    (hl:args.length≤s.n) (ha:eE args=true) (hv:v.pure=true) (hW:W P 0 s.body (Ret s.res fun u G=>fzv z G n u=v) (T0 args) H0):aQ P f args v:=by
  intro H
  refine ⟨lA hf hs hn,fun x cs hxH hx hr=>?_⟩
  subst hxH
  have hI:=lR (x:=x) (Z:=x.Z) hx.zlt hx.tab
  refine (yH (x:=start x x.Z) hf hs hl hW hI (hr.pure_at ha rfl fun _ h=>h)).mono fun e w' h=>?_
  obtain ⟨c,u,y,h1,h2,h4,h5,h6,h7⟩:=h
  obtain ⟨sI,sF⟩:=aBk h5
  have hR:=aJw (z:=z) h5 n h6
  rw [h4] at hR
  obtain ⟨zI,zF⟩:=back hx h7 h5 (Z':=(rZ y).Z) (fun b hb=>.inl (h7.zone b hb)) (fun b hb=>by
    have hlt:b < y.w.heap.size:=sI.zlt b hb
    rcases hb with hb|⟨id,ho,rfl⟩
    · rcases h7.zold b hb with h|h|⟨id,h,_⟩
      · exact .inl h
      · exact .inr ⟨h,hlt⟩
      · exact (rJ id h).elim
    · rcases h7.fresh id ho with ⟨h,_⟩|h
      · exact (rJ id h).elim
      · exact .inr ⟨h,hlt⟩)
  exact ⟨c,{w:=y.w,Z:=(rZ y).Z,σ:=x.σ,H:=x.H},h1,h2,rfl,zI,hR.pure_at hv rfl fun _ h=>h,zF⟩
theorem aLG {H H' : aP} (hext : Ext H H') : ∀ (n : Nat) (v : V), (fzv z H n v).pure = true → fzv z H' n v = fzv z H n v := by
  intro n
  induction n with
  |zero=>intro v _; rfl
  | succ n ih =>
    have il: ∀ l:List V,eE (l.map (fzv z H n))=true→l.map (fzv z H' n)=l.map (fzv z H n):=fun l hp=>
      List.map_congr_left fun a ha=>ih a (dK.1 hp _ (List.mem_map_of_mem ha))
    have ill: ∀ l:List (List V),gN (l.map fun r=>r.map (fzv z H n))=true→(l.map fun r=>r.map (fzv z H' n))=l.map fun r=>r.map (fzv z H n):=fun l hp=>
      List.map_congr_left fun a ha=>il a (iI.1 hp _ (List.mem_map_of_mem ha))
    intro v hp
    cases v with
    | ms id ver off len =>
      simp only [fzv] at hp ⊢
      split at hp
      · rename_i hc
        have hl:(H id).live=true:=by simp at hc; exact hc.1
        rw [hext id hl]
        rw [if_pos hc,if_pos hc]
        simp only [V.pure] at hp
        rw [ill _ hp]
      · simp [V.pure] at hp
    | mp id ver row off =>
      simp only [fzv] at hp ⊢
      split at hp
      · rename_i hc
        have hl:(H id).live=true:=by simp [Blk.own] at hc; exact hc.1.1
        rw [hext id hl,if_pos hc,if_pos hc]
        split at hp
        · rename_i r hr
          simp only [V.pure] at hp
          first|rw [hr]|skip
          show V.pp _=V.pp _
          rw [il _ hp]
        · simp [V.pure] at hp
      · simp [V.pure] at hp
    |agg cs=>simp only [fzv,V.pure] at hp ⊢; rw [il _ hp]
    |tup cs=>simp only [fzv,V.pure] at hp ⊢; rw [il _ hp]
    |pp cs=>simp only [fzv,V.pure] at hp ⊢; rw [il _ hp]
    |sl cs=>simp only [fzv,V.pure] at hp ⊢; rw [ill _ hp]
    | fn f a b =>
      simp only [fzv,V.pure,Bool.and_eq_true] at hp ⊢
      rw [il _ hp.1,il _ hp.2]
    |_=>rfl
theorem aQ.lendz (z:Bool) (n:Nat) {f:Nat} {args:List V} {H:aP} {v:V} (h:aQ P f (args.map (fzv z H n)) v) (hp:eE (args.map (fzv z H n))=true) (hs:v.scalar=true):ROC P f args H v:=by
  intro H' hext
  have h':=h H0
  refine ⟨h'.1,fun x cs hxH hx hr=>?_⟩
  subst hxH
  obtain ⟨sI,sF⟩:=aBk hx
  have hI:=lR (x:=x) (Z:=(rZ x).Z) sI.zlt sI.tab
  have hrr:RL (start x (rZ x).Z) (args.map (fzv z H n)) cs:=by
    refine ⟨by simpa using hr.1,fun j v hj=>?_⟩
    have hvp:=dK.1 hp v (List.mem_of_getElem? hj)
    obtain ⟨u,hu,rfl⟩:=eT hj
    have:=aJw (z:=z) hx n (hr.2 j u hu)
    rw [aLG hext n u hvp] at this
    exact this.pure_at hvp rfl fun _ h=>h
  refine (h'.2 (start x (rZ x).Z) cs rfl hI hrr).mono fun e w' hq=>?_
  obtain ⟨c,y,h1,h2,h3,h4,h5,h6⟩:=hq
  obtain ⟨zI,zF⟩:=back hx h6 h4 (Z':=x.Z) (fun _ h=>h) (fun b h=>.inl h)
  exact ⟨c,{w:=y.w,Z:=x.Z,σ:=x.σ,H:=x.H},h1,h2,rfl,zI,aIs h5 hs,zF⟩
theorem aA3 {H H':aP}: ∀ (n:Nat) (v:V),v.pure=true→fzv z H' n v=fzv z H n v∧(fzv z H n v).pure=true:=by
  intro n
  induction n with
  |zero=>intro v h; exact ⟨rfl,h⟩
  | succ n ih =>
    have il: ∀ l:List V,eE l=true→l.map (fzv z H' n)=l.map (fzv z H n)∧eE (l.map (fzv z H n))=true:=fun l hp=>
      ⟨List.map_congr_left fun a ha=>(ih a (dK.1 hp _ ha)).1,dK.2 fun v hv=>by obtain ⟨a,ha,rfl⟩:=List.mem_map.1 hv; exact (ih a (dK.1 hp _ ha)).2⟩
    have ill: ∀ l:List (List V),gN l=true→(l.map fun r=>r.map (fzv z H' n))=(l.map fun r=>r.map (fzv z H n))∧gN (l.map fun r=>r.map (fzv z H n))=true:=fun l hp=>
      ⟨List.map_congr_left fun a ha=>(il a (iI.1 hp _ ha)).1,iI.2 fun v hv=>by obtain ⟨a,ha,rfl⟩:=List.mem_map.1 hv; exact (il a (iI.1 hp _ ha)).2⟩
    intro v hv
    cases v <;> simp only [V.pure,Bool.and_eq_true] at hv <;> simp only [fzv,V.pure,Bool.and_eq_true,and_self]
    case nilsl=>cases z <;> simp [V.pure,gN]
    case ms=>cases hv
    case mp=>cases hv
    case mm=>cases hv
    case agg=>exact ⟨by rw [(il _ hv).1],(il _ hv).2⟩
    case tup=>exact ⟨by rw [(il _ hv).1],(il _ hv).2⟩
    case pp=>exact ⟨by rw [(il _ hv).1],(il _ hv).2⟩
    case sl=>exact ⟨by rw [(ill _ hv).1],(ill _ hv).2⟩
    case fn=>exact ⟨by rw [(il _ hv.1).1,(il _ hv.2).1],(il _ hv.1).2,(il _ hv.2).2⟩
theorem aQ.argz (z:Bool) (n:Nat) {f:Nat} {args:List V} {H:aP} {v:V} (h:aQ P f (args.map (fzv z H n)) v) (hp:eE args=true):aQ P f args v:=by
  intro H1
  have h':=h H1
  refine ⟨h'.1,fun x cs hxH hx hr=>h'.2 x cs hxH hx ⟨by simpa using hr.1,fun j v hj=>?_⟩⟩
  obtain ⟨u,hu,rfl⟩:=eT hj
  have hup:=dK.1 hp u (List.mem_of_getElem? hu)
  have h1:R (start x x.Z) u (cs.getD j undef):=(hr.2 j u hu).pure_at hup rfl fun _ h=>h
  have h2:=aJw (z:=z) (lR (x:=x) (Z:=x.Z) hx.zlt hx.tab) n h1
  rw [(aA3 n u hup).1] at h2
  refine h2.pure_at (aA3 (H':=H) n u hup).2 rfl fun b hb=>?_
  rcases hb with hb|⟨id,ho,_⟩
  · exact hb
  · exact (rJ id ho).elim
theorem aFA (z:Bool) (n:Nat) {f:Nat} {args us:List V} {H:aP} {v:V} {k:V→aP→Prop} (h:aQ P f us v) (ha:args.map (fzv z H n)=us) (hp:eE us=true) (hs:eE args=true∨v.scalar=true)
    (hk:k v H):tH P false f args H k:=by
  subst ha
  rcases hs with hs|hs
  · exact ⟨v,(h.argz z n hs).roc H,hk⟩
  · exact ⟨v,h.lendz z n hp hs,hk⟩
end
mutual
def V.canon:V→Bool
  | .sl rows=>eH rows
  | .pp cells=>dL cells
  | .agg cells=>dL cells
  | .tup vs=>dL vs
  | .fn _ a b=>dL a&&dL b
  | .ms _ _ _ _=>false
  | .mp _ _ _ _=>false
  | .mm _ _=>false
  | .int _ _=>true
  | .bool _=>true
  | .str _=>true
  | .nilsl=>false
  | .nilp=>true
  | .raw _=>true
def dL:List V→Bool
  |[]=>true
  |v::l=>v.canon&&dL l
def eH:List (List V)→Bool
  |[]=>true
  |r::l=>dL r&&eH l
end
theorem xN {l:List V}:dL l=true↔ ∀ v∈l,v.canon=true:=by
  induction l with
  |nil=>simp [dL]
  |cons v l ih=>simp [dL,ih]
theorem vF {l:List (List V)}:eH l=true↔ ∀ r∈l,dL r=true:=by
  induction l with
  |nil=>simp [eH]
  |cons v l ih=>simp [eH,ih]
theorem fI {H:aP}: ∀ (n:Nat) (v:V),v.canon=true→fzv z H n v=v:=by
  intro n
  induction n with
  |zero=>intro v _; rfl
  | succ n ih =>
    have il: ∀ l:List V,dL l=true→l.map (fzv z H n)=l:=fun l hp=>by
      conv=>rhs; rw [← List.map_id l]
      exact List.map_congr_left fun a ha=>ih a (xN.1 hp _ ha)
    have ill: ∀ l:List (List V),eH l=true→(l.map fun r=>r.map (fzv z H n))=l:=fun l hp=>by
      conv=>rhs; rw [← List.map_id l]
      exact List.map_congr_left fun a ha=>il a (vF.1 hp _ ha)
    intro v hv
    cases v <;> simp only [V.canon,Bool.and_eq_true] at hv <;> simp only [fzv]
    case nilsl=>cases hv
    case ms=>cases hv
    case mp=>cases hv
    case agg=>rw [il _ hv]
    case tup=>rw [il _ hv]
    case pp=>rw [il _ hv]
    case sl=>rw [ill _ hv]
    case fn=>rw [il _ hv.1,il _ hv.2]
theorem dR {H:aP} (n:Nat) (l:List V) (h:dL l=true):l.map (fzv z H n)=l:=by
  conv=>rhs; rw [← List.map_id l]
  exact List.map_congr_left fun a ha=>fI n a (xN.1 h _ ha)
end Go.Proofs.YteehaobohaecmaaGreatDoor


namespace Go.Proofs.YteehaobohaecmaaGreatDoor
open Go
section
variable {P:Program} {k0:Nat} {Q:Ex→(Nat→V)→aP→Prop} {T:Nat→V} {H:aP}
theorem uD {ops:List SO} {b:SC} (h: ∀ K:(Nat→V)→aP→Prop,(∀ T H,W P k0 b Q T H→K T H)→Ops P k0 ops T H K):W P k0 (.seq (.reg ops) b) Q T H:=
  ⟨k0,h _ fun _ _ h=>.done h⟩
theorem aEH {ops:List SO} {b:SC} {kZ:List Nat} (hl: ∀ d∈kZ,(H (k0+d)).live=false) (h: ∀ K:(Nat→V)→aP→Prop,(∀ T H,W P k0 b Q T H→K T H)→Ops P k0 ops T H K):W P k0 (.seq (.dreg kZ ops) b) Q T H:=
  ⟨k0,hl,h _ fun _ _ h=>.done h⟩
theorem aDH {ops:List SO} {b:SC} (h: ∀ K:(Nat→V)→aP→Prop,(∀ T H,G (W P k0 b Q) T H→K T H)→Ops P k0 ops T H K):W P k0 (.seq (.reg ops) b) Q T H:=
  ⟨k0,h _ fun _ _ h=>h⟩
theorem aB {a b c:SC} (h:W P k0 (.seq a (.seq b c)) Q T H):W P k0 (.seq (.seq a b) c) Q T H:=by
  simp only [W] at h ⊢
  refine Eq.mp (congrArg (fun q=>W P k0 a q T H) (funext fun e=>funext fun T=>funext fun H=>?_)) h
  cases e <;> rfl
theorem cM (h:Q .norm T H):W P k0 .skip Q T H:=h
theorem aO (h:Q .ret T H):W P k0 .ret Q T H:=h
theorem aMs {f:Nat} {args:List V} {v:V} {H':aP} {k:V→aP→Prop} (h:eR P f args H v H') (hk:k v H'):tH P true f args H k:=⟨v,H',h,hk⟩
theorem aC {b:SC} (h:W P k0 b Q T H):W P k0 (.seq .skip b) Q T H:=.done h
theorem aL {b:SC} (h:Q .ret T H):W P k0 (.seq .ret b) Q T H:=h
theorem aN {b:SC} {n:Nat} (h:Q (.exit n) T H):W P k0 (.seq (.exit n) b) Q T H:=h
theorem xC {c:SX} {a b r:SC} {bb:Bool} (hc:asB (ev T c)=some bb) (h1:bb=true→W P k0 (.seq a r) Q T H) (h2:bb=false→W P k0 (.seq b r) Q T H):W P k0 (.seq (.cond c a b) r) Q T H:=by
  simp only [W,hc,eQ] at h1 h2 ⊢
  exact ⟨h1,h2⟩
theorem aKe {c:SX} {a b:SC} {bb:Bool} (hc:asB (ev T c)=some bb) (h1:bb=true→W P k0 a Q T H) (h2:bb=false→W P k0 b Q T H):W P k0 (.cond c a b) Q T H:=by
  simp only [W,hc,eQ]
  exact ⟨h1,h2⟩
theorem iH {id:Nat} {a:SC} (h: ∀ Q':Ex→(Nat→V)→aP→Prop,(∀ T H,Q .norm T H→Q' .norm T H)→(∀ T H,Q .norm T H→Q' (.exit id) T H)→(∀ T H,Q .ret T H→Q' .ret T H)→
    (∀ n T H,n≠id→Q (.exit n) T H→Q' (.exit n) T H)→W P k0 a Q' T H):W P k0 (.block id a) Q T H:=by
  simp only [W]
  refine h _ (fun T H h=>h) (fun T H h=>?_) (fun T H h=>h) (fun n T H hn h=>?_)
  · simp only [if_true]; exact h
  · simp only [if_neg hn]; exact h
theorem bS {a:SC} (I:Nat→(Nat→V)→aP→Prop) (h0: ∃ n,I n T H)
    (h: ∀ n T H,I n T H→ ∀ Q':Ex→(Nat→V)→aP→Prop,(∀ m T H,m < n→I m T H→Q' .norm T H)→(∀ T H,Q .ret T H→Q' .ret T H)→(∀ n T H,Q (.exit n) T H→Q' (.exit n) T H)→W P k0 a Q' T H):W P k0 (.loop a) Q T H:=by
  simp only [W]
  obtain ⟨n,h0⟩:=h0
  exact ⟨I,n,h0,fun n T H hI=>h n T H hI _ (fun m T H h1 h2=>⟨m,h1,h2⟩) (fun _ _ h=>h) (fun _ _ _ h=>h)⟩
theorem wY {a:SC} (I:Nat→(Nat→V)→aP→Prop) (h0: ∃ n,I n T H)
    (h: ∀ n T H,I n T H→ ∀ Q':Ex→(Nat→V)→aP→Prop,(∀ m T H,m < n→I m T H→Q' .norm T H)→(∀ T H,Q .ret T H→Q' .ret T H)→(∀ n T H,Q (.exit n) T H→Q' (.exit n) T H)→(∀ c T H,Q (.pan c) T H→Q' (.pan c) T H)→W P k0 a Q' T H):W P k0 (.loop a) Q T H:=by
  simp only [W]
  obtain ⟨n,h0⟩:=h0
  exact ⟨I,n,h0,fun n T H hI=>h n T H hI _ (fun m T H h1 h2=>⟨m,h1,h2⟩) (fun _ _ h=>h) (fun _ _ _ h=>h) (fun _ _ _ h=>h)⟩
end
attribute [simp] aAR iY asB gd ev evs Ops St iT yU wW unV aAT aEE yQ aGW fN aL2 aGB mnV mxV ptr ldV aC8 oV mD mF fX V.cells V.one ok Ret T0 rI V.pure eE gN
def nth {α:Type} [Inhabited α] (l:List α) (k:Nat):α:=l.getD k default
theorem yT {α:Type} [Inhabited α] {l:List α} {k:Nat} (h:k < l.length):l[k]?=some (nth l k):=by
  simp [nth,h]
theorem bR {α:Type} [Inhabited α] {l:List α} {k:Nat} (h:k < l.length):l[k]=nth l k:=by
  simp [nth,h]
theorem cW {α:Type} [Inhabited α] {l:List α} {k:Nat} (h:k < l.length):l.drop k=nth l k::l.drop (k+1):=by
  rw [← bR h]; exact List.drop_eq_getElem_cons h
abbrev iV (n:Int):V:=.int .i64 n
abbrev cI (n:Int):List V:=[.int .i64 n]
abbrev aZ (l:List Int):V:=.sl (l.map cI)
abbrev cL (l:List Int):List V:=[aZ l]
abbrev aX (l:List (List Int)):V:=.sl (l.map cL)
@[simp] theorem uH {α : Type} [Inhabited α] (f : α → List V) (l : List α) (k : Int) (h0 : 0 ≤ k) (h : k < l.length) : aFr (l.map f) k = some (f (nth l k.toNat)) := by
  have:k.toNat < l.length:=by omega
  simp [aFr,h0,yT this]
@[simp] theorem aUB {α : Type} [Inhabited α] (H : aP) (e : Nat) (f : α → List V) (l : List α) (kd : IntKind) (k : Int) (h0 : 0 ≤ k) (h : k < l.length) (he : ∀ a, (f a).length = e) :
    wB H e (.sl (l.map f)) (.int kd k)=some (.pp (f (nth l k.toNat))):=by
  simp [wB,uH f l k h0 h,he]
@[simp] theorem aBA {n:Int} (h1: -9223372036854775808≤n) (h2:n < 9223372036854775808):IntKind.i64.wrap n=n:=IntWalk.i64_in n ⟨by omega,by omega⟩
@[simp] theorem zP {α : Type} (f : α → List V) (l : List α) (h : ∀ a, eE (f a) = true) : gN (l.map f) = true := by
  rw [iI]; intro r hr; obtain ⟨a,_,rfl⟩:=List.mem_map.1 hr; exact h a
@[simp] theorem aIa (r:List (List V)):(V.sl r).canon=eH r:=by rw [V.canon]
@[simp] theorem aUl (r:List V):(V.pp r).canon=dL r:=by rw [V.canon]
@[simp] theorem aSb (r:List V):(V.agg r).canon=dL r:=by rw [V.canon]
@[simp] theorem aR8 (r:List V):(V.tup r).canon=dL r:=by rw [V.canon]
@[simp] theorem aTg (f:Nat) (a b:List V):(V.fn f a b).canon=(dL a&&dL b):=by rw [V.canon]
@[simp] theorem aSH (a b c d:Nat):(V.ms a b c d).canon=false:=by rw [V.canon]
@[simp] theorem aSp (a b c d:Nat):(V.mp a b c d).canon=false:=by rw [V.canon]
@[simp] theorem aR9 (k:IntKind) (n:Int):(V.int k n).canon=true:=by rw [V.canon]
@[simp] theorem aRM (b:Bool):(V.bool b).canon=true:=by rw [V.canon]
@[simp] theorem aR6 (s:List UInt8):(V.str s).canon=true:=by rw [V.canon]
@[simp] theorem aNn:V.nilsl.canon=false:=by rw [V.canon]
@[simp] theorem aRO:V.nilp.canon=true:=by rw [V.canon]
@[simp] theorem aR7 (c:Value):(V.raw c).canon=true:=by rw [V.canon]
@[simp] theorem aQf:dL []=true:=by rw [dL]
@[simp] theorem aOc (v:V) (l:List V):dL (v::l)=(v.canon&&dL l):=by rw [dL]
@[simp] theorem aNO:eH []=true:=by rw [eH]
@[simp] theorem aBV (v:List V) (l:List (List V)):eH (v::l)=(dL v&&eH l):=by rw [eH]
@[simp] theorem aQS {z:Bool} {H:aP} {n:Nat} {v:V} (h:v.canon=true):fzv z H n v=v:=fI n v h
theorem fY {α:Type} (f:α→List V) (l:List α) (h: ∀ a,dL (f a)=true):eH (l.map f)=true:=by
  rw [vF]; intro r hr; obtain ⟨a,_,rfl⟩:=List.mem_map.1 hr; exact h a
@[simp] theorem aMa (l:List Int):eH (l.map cI)=true:=fY _ _ fun a=>by simp [cI]
@[simp] theorem aKZ (l:List (List Int)):eH (l.map cL)=true:=fY _ _ fun a=>by simp [cL]
end Go.Proofs.YteehaobohaecmaaGreatDoor


namespace Go.Proofs.YteehaobohaecmaaGreatDoor
open Go
def ldB (agg:Bool) (n:Nat) (B:Blk) (ver row off:Nat):Option V:=if (B.own&&decide (B.ver=ver))=true then (B.rows[row]?).bind fun r=>ldV agg n (r.drop off) else none
def okB (B:Blk) (ver:Nat):Bool:=B.own&&decide (B.ver=ver)
def stB (B : Blk) (ver row off n : Nat) (vs : List V) : Option Blk := if okB B ver = true then if vs.length = n then if vs.all V.one = true then match B.rows[row]? with
    |some r=>if off+n≤r.length then some {B with rows:=B.rows.set row (jX r off vs)} else none
    |none=>none
  else none else none else none
section
variable {P:Program} {k0:Nat} {K:(Nat→V)→aP→Prop} {T:Nat→V} {H:aP} {r:List SO} {d:Nat} {a b c:SX} {v u:V}
theorem eD (h:K T H):Ops P k0 [] T H K:=h
theorem aA (ha:ev T a=v) (h:Ops P k0 r (upd T d v) H K):Ops P k0 (⟨none,some d,.mv a⟩::r) T H K:=by subst ha; exact h
theorem jV {i n ty sz:Nat} (hi:k0+d=i) (hv:(H i).ver=n) (h:Ops P k0 r (upd T d (.ms i (n+1) 0 0)) (upd H i ⟨n+1,true,true,ty,sz,[]⟩) K):Ops P k0 (⟨none,some d,.lazy ty sz⟩::r) T H K:=by
  subst hi; subst hv; exact h
theorem aU {i n ty m:Nat} {z:List V} (hi:k0+d=i) (hv:(H i).ver=n) (hm:z.length=m) (h:Ops P k0 r (upd T d (.mp i (n+1) 0 0)) (upd H i ⟨n+1,true,false,ty,m,[z]⟩) K):Ops P k0 (⟨none,some d,.alloc ty z⟩::r) T H K:=by
  subst hi; subst hv; subst hm; exact h
theorem cE {i n ty q m:Nat} {cs:List V} (hi:k0+d=i) (hv:(H i).ver=n) (ha:ev T a=v) (hc:v.cells=cs) (hm:cs.length=m) (h:Ops P k0 r (upd T d (.mp i (n+1) 0 0)) (upd H i ⟨n+1,true,false,ty,m,[cs]⟩) K):
    Ops P k0 (⟨none,some d,.box ty q a⟩::r) T H K:=by
  subst hi; subst hv; subst ha; subst hc; subst hm; exact h
theorem wK {α:Type} {o:Option α} {x:α} {k:α→Prop} (ho:o=some x) (h:k x):onS o k:=by rw [ho]; exact h
theorem stp {q:X} {o:Option V} (hS: ∀ k:V→aP→Prop,St P (k0+d) q T H k=onS o fun v=>k v H) (ho:o=some v) (h:Ops P k0 r (upd T d v) H K):Ops P k0 (⟨none,some d,q⟩::r) T H K:=by
  simp only [Ops,Option.getD_some,hS,ho,eQ]; exact h
theorem aG {agg:Bool} {n:Nat} {cs:List V} (ha:ev T a=.pp cs) (hg:ldV agg n cs=some v) (h:Ops P k0 r (upd T d v) H K):Ops P k0 (⟨none,some d,.load agg n a⟩::r) T H K:=by
  refine stp (v:=v) (fun _=>rfl) ?_ h
  rw [ha]; exact hg
theorem cN {agg:Bool} {n id ver row off:Nat} {B:Blk} (ha:ev T a=.mp id ver row off) (hH:H id=B) (hg:ldB agg n B ver row off=some v) (h:Ops P k0 r (upd T d v) H K):Ops P k0 (⟨none,some d,.load agg n a⟩::r) T H K:=by
  subst hH
  refine stp (v:=v) (fun _=>rfl) ?_ h
  rw [ha]
  simp only [ptr]
  unfold ldB at hg
  split at hg
  · rename_i hc
    rw [if_pos (show ok H id ver=true from hc)]
    cases hr:(H id).rows[row]? with
    |none=>rw [hr] at hg; cases hg
    |some w=>rw [hr] at hg; exact hg
  · cases hg
theorem jB {off:Nat} {cs cs':List V} (ha:ev T a=.pp cs) (hd:cs.drop off=cs') (h:Ops P k0 r (upd T d (.pp cs')) H K):Ops P k0 (⟨none,some d,.fld off a⟩::r) T H K:=by
  subst hd
  refine stp (v:=.pp (cs.drop off)) (fun _=>rfl) ?_ h
  rw [ha]; rfl
theorem aIo {off id ver row o o':Nat} {B:Blk} (ha:ev T a=.mp id ver row o) (hH:H id=B) (hok:okB B ver=true) (ho:o+off=o') (h:Ops P k0 r (upd T d (.mp id ver row o')) H K):Ops P k0 (⟨none,some d,.fld off a⟩::r) T H K:=by
  subst ho; subst hH
  refine stp (v:=.mp id ver row (o+off)) (fun _=>rfl) ?_ h
  rw [ha]; rfl
theorem gJ {n id ver row off : Nat} {B B' : Blk} {vs : List V} (ha : ev T a = .mp id ver row off) (hb : ev T b = v) (hc : v.cells = vs) (hH : H id = B) (hst : stB B ver row off n vs = some B') (h : Ops P k0 r T (upd H id B') K) :
    Ops P k0 (⟨none,none,.store n a b⟩::r) T H K:=by
  subst hH; subst hc; subst hb
  simp only [Ops,St]
  refine wK (x:=upd H id B') ?_ h
  rw [ha]
  unfold stB at hst
  simp only [stP]
  by_cases h1:ok H id ver=true
  · rw [if_pos (show okB (H id) ver = true from h1)] at hst
    rw [if_pos h1]
    by_cases h2:(ev T b).cells.length=n
    · rw [if_pos h2] at hst ⊢
      by_cases h3:(ev T b).cells.all V.one=true
      · rw [if_pos h3] at hst ⊢
        cases hw:(H id).rows[row]? with
        |none=>rw [hw] at hst; cases hst
        | some w =>
          rw [hw] at hst
          simp only at hst ⊢
          by_cases h4:off+n≤w.length
          · rw [if_pos h4] at hst ⊢; cases hst; rfl
          · rw [if_neg h4] at hst; cases hst
      · rw [if_neg h3] at hst; cases hst
    · rw [if_neg h2] at hst; cases hst
  · rw [if_neg (show ¬okB (H id) ver=true from h1)] at hst; cases hst
theorem cA {id ver row o:Nat} {B:Blk} (ha:ev T a=.mp id ver row o) (hH:H id=B) (hok:okB B ver=true) (h:Ops P k0 r (upd T d (.mp id ver row o)) H K):Ops P k0 (⟨none,some d,.nilck a⟩::r) T H K:=by
  subst hH
  refine stp (v:=.mp id ver row o) (fun _=>rfl) ?_ h
  rw [ha]; rfl
variable {x y:Int}
theorem tO {op:BinOp} {w:V} (ha:ev T a=u) (hb:ev T b=w) (hg:iT op u w=some v) (h:Ops P k0 r (upd T d v) H K):Ops P k0 (⟨none,some d,.bin op a b⟩::r) T H K:=by
  refine stp (v:=v) (fun _=>rfl) ?_ h
  rw [ha,hb]; exact hg
theorem oO (ha:ev T a=iV x) (hb:ev T b=iV y) (h1: -9223372036854775808≤x+y) (h2:x+y < 9223372036854775808) (h:Ops P k0 r (upd T d (iV (x+y))) H K):Ops P k0 (⟨none,some d,.bin .add a b⟩::r) T H K:=
  tO ha hb (by simp only [iT,if_true,aBA h1 h2]) h
theorem bB {m n:Nat} (ha:ev T a=iV (m:Nat)) (hb:ev T b=iV (n:Nat)) (h2:m+n < 9223372036854775808) (h:Ops P k0 r (upd T d (iV ((m+n:Nat):Int))) H K):Ops P k0 (⟨none,some d,.bin .add a b⟩::r) T H K:=
  oO ha hb (by omega) (by omega) (by rw [← Int.natCast_add]; exact h)
theorem nQ (ha:ev T a=iV x) (hb:ev T b=iV y) (h1: -9223372036854775808≤x - y) (h2:x - y < 9223372036854775808) (h:Ops P k0 r (upd T d (iV (x - y))) H K):Ops P k0 (⟨none,some d,.bin .sub a b⟩::r) T H K:=
  tO ha hb (by simp only [iT,if_true,aBA h1 h2]) h
theorem bM (ha:ev T a=iV x) (hb:ev T b=iV y) (h:Ops P k0 r (upd T d (.bool (decide (x < y)))) H K):Ops P k0 (⟨none,some d,.bin .lss a b⟩::r) T H K:=tO ha hb (by simp only [iT,if_true]) h
theorem qO (ha:ev T a=iV x) (hb:ev T b=iV y) (h:Ops P k0 r (upd T d (.bool (decide (x≤y)))) H K):Ops P k0 (⟨none,some d,.bin .leq a b⟩::r) T H K:=tO ha hb (by simp only [iT,if_true]) h
theorem fJ (ha:ev T a=iV x) (hb:ev T b=iV y) (h:Ops P k0 r (upd T d (.bool (decide (y < x)))) H K):Ops P k0 (⟨none,some d,.bin .gtr a b⟩::r) T H K:=tO ha hb (by simp only [iT,if_true]) h
theorem jN (ha:ev T a=iV x) (hb:ev T b=iV y) (h:Ops P k0 r (upd T d (.bool (decide (y≤x)))) H K):Ops P k0 (⟨none,some d,.bin .geq a b⟩::r) T H K:=tO ha hb (by simp only [iT,if_true]) h
theorem aY (ha:ev T a=iV x) (hb:ev T b=iV y) (h:Ops P k0 r (upd T d (.bool (decide (x=y)))) H K):Ops P k0 (⟨none,some d,.bin .eql a b⟩::r) T H K:=tO ha hb (by simp only [iT,if_true]; rfl) h
theorem bZ (ha:ev T a=iV x) (hb:ev T b=iV y) (h:Ops P k0 r (upd T d (.bool (decide (x≠y)))) H K):Ops P k0 (⟨none,some d,.bin .neq a b⟩::r) T H K:=tO ha hb (by simp only [iT,if_true]; by_cases e:x=y <;> simp [e,bne]) h
theorem vP {p:Prop} [Decidable p] (ha:ev T a=.bool (decide p)) (h:Ops P k0 r (upd T d (.bool (decide (¬p)))) H K):Ops P k0 (⟨none,some d,.un .not a⟩::r) T H K:=by
  refine stp (v:=.bool (decide (¬p))) (fun _=>rfl) ?_ h
  rw [ha]; simp [unV]
theorem eN {q:Bool} (ha:ev T a=.bool q) (h:Ops P k0 r (upd T d (.bool (!q))) H K):Ops P k0 (⟨none,some d,.un .not a⟩::r) T H K:=by
  refine stp (v:=.bool (!q)) (fun _=>rfl) ?_ h
  rw [ha]; rfl
theorem aS (hc:ev T c=.bool true) (ha:ev T a=v) (h:Ops P k0 r (upd T d v) H K):Ops P k0 (⟨none,some d,.pick c a b⟩::r) T H K:=by
  subst ha
  simp only [Ops,St,hc,asB,eQ]; exact h
theorem aT (hc:ev T c=.bool false) (hb:ev T b=v) (h:Ops P k0 r (upd T d v) H K):Ops P k0 (⟨none,some d,.pick c a b⟩::r) T H K:=by
  subst hb
  simp only [Ops,St,hc,asB,eQ]; exact h
theorem cY {α:Type} [Inhabited α] {e:Nat} {l:List α} {f:α→List V} {k:IntKind} {i:Nat} (ha:ev T a=.sl (l.map f)) (hb:ev T b=.int k (i:Nat)) (hi:i < l.length) (he:(f (nth l i)).length=e)
    (h:Ops P k0 r (upd T d (.pp (f (nth l i)))) H K):Ops P k0 (⟨none,some d,.idx e a b⟩::r) T H K:=by
  refine stp (v:=.pp (f (nth l i))) (fun _=>rfl) ?_ h
  rw [ha,hb]
  simp only [wB]
  rw [uH f l i (by omega) (by omega)]
  simp [he]
theorem fE {α:Type} [Inhabited α] {e:Nat} {l:List α} {f:α→List V} {k:IntKind} {i:Int} (ha:ev T a=.sl (l.map f)) (hb:ev T b=.int k i) (h0:0≤i) (hi:i < l.length) (he:(f (nth l i.toNat)).length=e)
    (h:Ops P k0 r (upd T d (.pp (f (nth l i.toNat)))) H K):Ops P k0 (⟨none,some d,.idx e a b⟩::r) T H K:=by
  refine stp (v:=.pp (f (nth l i.toNat))) (fun _=>rfl) ?_ h
  rw [ha,hb]
  simp only [wB]
  rw [uH f l i h0 hi]
  simp [he]
theorem zY {e id ver off len i:Nat} {B:Blk} {k:IntKind} (ha:ev T a=.ms id ver off len) (hb:ev T b=.int k (i:Nat)) (hH:H id=B) (hok:okB B ver=true) (hs:B.sz=e) (hi:i < len)
    (h:Ops P k0 r (upd T d (.mp id ver (off+i) 0)) H K):Ops P k0 (⟨none,some d,.idx e a b⟩::r) T H K:=by
  subst hH
  refine stp (v:=.mp id ver (off+i) 0) (fun _=>rfl) ?_ h
  rw [ha,hb]
  simp only [wB]
  rw [if_pos (show ok H id ver=true from hok),if_pos hs,if_pos (by omega)]
  simp
theorem bG {α:Type} {l:List α} {f:α→List V} (ha:ev T a=.sl (l.map f)) (h:Ops P k0 r (upd T d (iV (l.length:Nat))) H K):Ops P k0 (⟨none,some d,.len a⟩::r) T H K:=by
  refine stp (v:=iV (l.length:Nat)) (fun _=>rfl) ?_ h
  rw [ha]; simp [aC8]
theorem fW {id ver off len:Nat} {B:Blk} (ha:ev T a=.ms id ver off len) (hH:H id=B) (hok:(B.live&&decide (B.ver=ver))=true) (h:Ops P k0 r (upd T d (iV (len:Nat))) H K):Ops P k0 (⟨none,some d,.len a⟩::r) T H K:=by
  subst hH
  refine stp (v:=iV (len:Nat)) (fun _=>rfl) ?_ h
  rw [ha]; exact if_pos hok
theorem aW {z cs:List V} {ps:List (Nat×Nat×SX)} {qs:List (Nat×Nat×V)} (hq:ps.map (fun p=>(p.1,p.2.1,ev T p.2.2))=qs) (hb:bld z qs=some cs) (h:Ops P k0 r (upd T d (.agg cs)) H K):Ops P k0 (⟨none,some d,.build z ps⟩::r) T H K:=by
  simp only [Ops,St]
  rw [hq,hb]; exact h
theorem aR {ty e len:Nat} {z:List V} {ps:List (Nat×SX)} {qs:List (Nat×V)} {rows:List (List V)} (hq:ps.map (fun p=>(p.1,ev T p.2))=qs) (hb:qQ e (List.replicate len z) qs=some rows) (h:Ops P k0 r (upd T d (.sl rows)) H K):
    Ops P k0 (⟨none,some d,.bslice ty e false z len ps⟩::r) T H K:=by
  simp only [Ops,St]
  rw [hq,hb]; exact h
theorem aBu {ty e len i n:Nat} {z:List V} {ps:List (Nat×SX)} {qs:List (Nat×V)} {rows:List (List V)} (hi:k0+d=i) (hv:(H i).ver=n) (hq:ps.map (fun p=>(p.1,ev T p.2))=qs) (hb:qQ e (List.replicate len z) qs=some rows)
    (h:Ops P k0 r (upd T d (.ms i (n+1) 0 rows.length)) (upd H i ⟨n+1,true,false,ty,e,rows⟩) K):Ops P k0 (⟨none,some d,.bslice ty e true z len ps⟩::r) T H K:=by
  subst hi; subst hv
  simp only [Ops,St]
  rw [hq,hb]; exact h
theorem aN3 {ty e bytes i n:Nat} {z:List V} {m q:Nat} (hi:k0+d=i) (hv:(H i).ver=n) (ha:ev T a=iV (m:Nat)) (hb:ev T b=iV (q:Nat)) (h1:m≤q) (h2:q*bytes≤281474976710656) (h3:q≤9223372036854775807)
    (h:Ops P k0 r (upd T d (.ms i (n+1) 0 m)) (upd H i ⟨n+1,true,false,ty,e,List.replicate m z⟩) K):Ops P k0 (⟨none,some d,.mks ty e bytes z a b⟩::r) T H K:=by
  subst hi; subst hv
  have e:aE1 bytes (iV (m:Nat)) (iV (q:Nat))=some (m,q):=by
    unfold aE1
    have h2':(q:Int)*(bytes:Int)≤281474976710656:=by have:=Int.ofNat_le.2 h2; simpa using this
    exact (if_pos (by omega)).trans ((if_pos (by omega)).trans ((if_pos h2').trans ((if_pos (by omega)).trans rfl)))
  simp only [Ops,St]
  rw [ha,hb,e]; exact h
theorem aKp {H:aP} {v:V} {new:List (List V)} (h:oV H v=some new):aDg H v=some new:=by
  cases v <;> first|exact h|(simp [oV] at h)
theorem aCP {ty e bytes id ver len:Nat} {lz:Bool} {rows new:List (List V)} (ha:ev T a=.ms id ver 0 len) (hH:H id=⟨ver,true,lz,ty,e,rows⟩) (hl:len=rows.length) (hn:oV H (ev T b)=some new) (hf:iU e new=true)
    (h1:(len+new.length)*bytes≤140737488355328) (h2:len+new.length≤9223372036854775807)
    (h:Ops P k0 r (upd T d (.ms id (ver+1) 0 (len+new.length))) (upd H id ⟨ver+1,true,lz,ty,e,rows++new⟩) K):Ops P k0 (⟨none,some d,.append ty e bytes a b⟩::r) T H K:=by
  simp only [Ops,St]
  rw [ha]
  simp only [hH]
  rw [if_pos (by simp),if_pos trivial,if_pos hl,if_pos trivial,if_pos trivial,aKp hn,eQ,if_pos hf,if_pos h1,if_pos h2]
  exact h
theorem aLm {α:Type} {f:α→List V} {e:Nat} {x:α} (he:(f x).length=e) (h1:(f x).all V.one=true):iU e [f x]=true:=by simp [iU,he,h1]
theorem bX {α:Type} {ty e bytes id ver n:Nat} {lz:Bool} {l:List α} {f:α→List V} {x:α} (ha:ev T a=.ms id ver 0 n) (hH:H id=⟨ver,true,lz,ty,e,l.map f⟩) (hn:n=l.length) (hb:ev T b=.sl [f x]) (he:(f x).length=e) (h1:(f x).all V.one=true)
    (h2:(n+1)*bytes≤140737488355328) (h3:n+1≤9223372036854775807)
    (h:Ops P k0 r (upd T d (.ms id (ver+1) 0 (n+1))) (upd H id ⟨ver+1,true,lz,ty,e,(l++[x]).map f⟩) K):Ops P k0 (⟨none,some d,.append ty e bytes a b⟩::r) T H K:=by
  refine aCP ha hH (by simpa using hn) (new:=[f x]) (by rw [hb]; rfl) (aLm he h1) (by simpa using h2) (by simpa using h3) ?_
  rw [List.map_append] at h
  exact h
theorem pO {α:Type} {ty e bytes id ver n:Nat} {lz:Bool} {l m:List α} {f:α→List V} (ha:ev T a=.ms id ver 0 n) (hH:H id=⟨ver,true,lz,ty,e,l.map f⟩) (hn:n=l.length) (hb:ev T b=.sl (m.map f)) (he: ∀ x,(f x).length=e) (h1: ∀ x,(f x).all V.one=true)
    (h2:(n+m.length)*bytes≤140737488355328) (h3:n+m.length≤9223372036854775807)
    (h:Ops P k0 r (upd T d (.ms id (ver+1) 0 (n+m.length))) (upd H id ⟨ver+1,true,lz,ty,e,(l++m).map f⟩) K):Ops P k0 (⟨none,some d,.append ty e bytes a b⟩::r) T H K:=by
  refine aCP ha hH (by simpa using hn) (new:=m.map f) (by rw [hb]; rfl) ?_ (by simpa using h2) (by simpa using h3) ?_
  · simp only [iU,List.all_eq_true]
    intro r hr
    obtain ⟨x,_,rfl⟩:=List.mem_map.1 hr
    simp only [he,beq_self_eq_true,Bool.true_and]
    exact h1 x
  · rw [List.map_append,show m.length=(m.map f).length by simp] at h
    exact h
theorem kN {f:Nat} {args:List SX} {as0 us:List V} (he:evs T args=as0) (hc:aQ P f us v) (ha:as0.map (fzv true H 6)=us) (hp:eE us=true) (hs:eE as0=true∨v.scalar=true) (h:Ops P k0 r (upd T d v) H K):
    Ops P k0 (⟨none,some d,.call false f args⟩::r) T H K:=by
  subst he
  exact aFA true 6 (k:=fun v H'=>Ops P k0 r (upd T d v) H' K) hc ha hp hs h
theorem lI {f:Nat} {first caps:List V} {g:SX} {args:List SX} {as0 us:List V} (hg:ev T g=.fn f first caps) (he:evs T args=as0) (hc:aQ P f us v) (ha:(first++as0++caps).map (fzv true H 6)=us) (hp:eE us=true)
    (hs:eE (first++as0++caps)=true∨v.scalar=true) (h:Ops P k0 r (upd T d v) H K):Ops P k0 (⟨none,some d,.callv false g args⟩::r) T H K:=by
  subst he
  simp only [Ops,St]
  rw [hg]
  exact aFA true 6 hc ha hp hs h
theorem gI {f:Nat} {args:List SX} {as0:List V} {H':aP} (he:evs T args=as0) (hc:eR P f as0 H v H') (h:Ops P k0 r (upd T d v) H' K):Ops P k0 (⟨none,some d,.call true f args⟩::r) T H K:=by
  subst he
  exact aMs hc h
theorem bH {i:Nat} {vs:List V} (ha:ev T a=.tup vs) (hi:vs[i]?=some v) (h:Ops P k0 r (upd T d v) H K):Ops P k0 (⟨none,some d,.ext a i⟩::r) T H K:=by
  refine stp (v:=v) (fun _=>rfl) ?_ h
  rw [ha]; exact hi
theorem aKf {f:Nat} {caps:List SX} {cs:List V} (he:evs T caps=cs) (h:Ops P k0 r (upd T d (.fn f [] cs)) H K):Ops P k0 (⟨none,some d,.mkf f caps⟩::r) T H K:=by
  subst he; exact h
theorem aQL {agg:Bool} {off n:Nat} (ha:ev T a=u) (hg:yQ agg off n u=some v) (h:Ops P k0 r (upd T d v) H K):Ops P k0 (⟨none,some d,.part agg off n a⟩::r) T H K:=by
  refine stp (v:=v) (fun _=>rfl) ?_ h
  rw [ha]; exact hg
theorem aF {t:Nat} {w:Bool} {od:Option Nat} {q:X} (ht:T t=.bool w) (h:Ops P k0 (⟨none,od,q⟩::r) T H K):Ops P k0 (⟨some (t,w),od,q⟩::r) T H K:=by
  simp only [Ops,ht,gd] at h ⊢
  exact ⟨fun _=>h,fun hn=>(by simp at hn)⟩
theorem aUR {t:Nat} {w w':Bool} {q:X} (ht:T t=.bool w') (hw:w'≠w) (h:Ops P k0 r (upd T d (.raw undef)) H K):Ops P k0 (⟨some (t,w),some d,q⟩::r) T H K:=by
  simp only [Ops,ht,gd] at h ⊢
  exact ⟨fun hn=>(hw (by simpa using hn)).elim,fun _=>h⟩
theorem eZ {t:Nat} {w:Bool} {q:X} (ht:T t=.raw undef) (h:Ops P k0 r (upd T d (.raw undef)) H K):Ops P k0 (⟨some (t,w),some d,q⟩::r) T H K:=by
  simp only [Ops,ht,gd,undef] at h ⊢
  exact ⟨fun hn=>(by simp at hn),fun _=>h⟩
theorem aEl (a b:List SO):Ops P k0 (a++b) T H K↔Ops P k0 a T H fun T H=>Ops P k0 b T H K:=by
  induction a generalizing T H with
  |nil=>exact Iff.rfl
  | cons o a ih =>
    simp only [List.cons_append,Ops]
    cases o.g with
    |none=>simp only; rw [show (fun v H'=>Ops P k0 (a++b) (iY T o.d v) H' K)=fun v H'=>Ops P k0 a (iY T o.d v) H' fun T H=>Ops P k0 b T H K from funext fun v=>funext fun H'=>propext ih]
    |some p=>simp only [ih]
theorem aV (n:Nat) {ops:List SO} (R:(Nat→V)→aP→Prop) (h1:Ops P k0 (ops.take n) T H R) (h2: ∀ T' H',R T' H'→Ops P k0 (ops.drop n) T' H' K):Ops P k0 ops T H K:=by
  rw [← List.take_append_drop n ops,aEl]
  exact lU h2 h1
theorem cK {α:Type} {T A:Nat→α} {l:List Nat} (h: ∀ j,j∉l→A j=T j) {d:Nat} {v:α} (hd:d∈l): ∀ j,j∉l→upd A d v j=T j:=by
  intro j hj
  rw [bD _ _ fun e=>hj (by rw [e]; exact hd)]
  exact h j hj
theorem aNe {p:Prop} [Decidable p] (hp:p):V.bool true=V.bool (decide p):=by simp [hp]
theorem aNw {p:Prop} [Decidable p] (hp: ¬p):V.bool false=V.bool (decide p):=by simp [hp]
theorem cQ {p q:Prop} [Decidable p] [Decidable q] (hp:p):V.bool true=V.bool (decide (p∨q)):=by simp [hp]
theorem cR {p q:Prop} [Decidable p] [Decidable q] (hp: ¬p):V.bool (decide q)=V.bool (decide (p∨q)):=by simp [hp]
theorem dG {p q:Prop} [Decidable p] [Decidable q] (hp: ¬p):V.bool false=V.bool (decide (p∧q)):=by simp [hp]
theorem dH {p q:Prop} [Decidable p] [Decidable q] (hp:p):V.bool (decide q)=V.bool (decide (p∧q)):=by simp [hp]
end
section
variable {P:Program} {k0:Nat} {Q:Ex→(Nat→V)→aP→Prop} {T:Nat→V} {H:aP}
theorem aH {c:SX} {a b r:SC} {p:Prop} [Decidable p] (hc:ev T c=.bool (decide p)) (h1:p→W P k0 (.seq a r) Q T H) (h2: ¬p→W P k0 (.seq b r) Q T H):W P k0 (.seq (.cond c a b) r) Q T H:=
  xC (bb:=decide p) (by rw [hc]; rfl) (fun h=>h1 (of_decide_eq_true h)) fun h=>h2 (of_decide_eq_false h)
theorem cD {c:SX} {a b:SC} {p:Prop} [Decidable p] (hc:ev T c=.bool (decide p)) (h1:p→W P k0 a Q T H) (h2: ¬p→W P k0 b Q T H):W P k0 (.cond c a b) Q T H:=
  aKe (bb:=decide p) (by rw [hc]; rfl) (fun h=>h1 (of_decide_eq_true h)) fun h=>h2 (of_decide_eq_false h)
theorem cC {c:SX} {a b r:SC} {q:Bool} (hc:ev T c=.bool q) (h1:q=true→W P k0 (.seq a r) Q T H) (h2:q=false→W P k0 (.seq b r) Q T H):W P k0 (.seq (.cond c a b) r) Q T H:=
  xC (bb:=q) (by rw [hc]; rfl) h1 h2
theorem jW {c:SX} {a b:SC} {q:Bool} (hc:ev T c=.bool q) (h1:q=true→W P k0 a Q T H) (h2:q=false→W P k0 b Q T H):W P k0 (.cond c a b) Q T H:=
  aKe (bb:=q) (by rw [hc]; rfl) h1 h2
theorem kX {ops:List SO} {b:SC} (R:(Nat→V)→aP→Prop) (h:Ops P k0 ops T H R) (hk: ∀ T H,R T H→W P k0 b Q T H):W P k0 (.seq (.reg ops) b) Q T H:=
  uD fun _ hK=>lU (fun T H hr=>hK T H (hk T H hr)) h
theorem vB {ops:List SO} {b:SC} {kZ:List Nat} (R:(Nat→V)→aP→Prop) (hl: ∀ d∈kZ,(H (k0+d)).live=false) (h:Ops P k0 ops T H R) (hk: ∀ T H,R T H→W P k0 b Q T H):W P k0 (.seq (.dreg kZ ops) b) Q T H:=
  aEH hl fun _ hK=>lU (fun T H hr=>hK T H (hk T H hr)) h
theorem bI {t:Nat} {u v:V} {n:Nat} (h1:T t=u) (h2:fzv true H n u=v):Ret [.tmp t] (fun u G=>fzv true G n u=v) .ret T H:=by
  simp only [Ret,mF,fX,mD,eQ,h1]; exact h2
theorem dC {t1 t2:Nat} {u1 u2 v1 v2:V} {n:Nat} (h1:T t1=u1) (h2:T t2=u2) (g1:fzv true H n u1=v1) (g2:fzv true H n u2=v2):Ret [.tmp t1,.tmp t2] (fun u G=>fzv true G (n+1) u=.tup [v1,v2]) .ret T H:=by
  simp only [Ret,mF,fX,mD,eQ,h1,h2,fzv,List.map_cons,List.map_nil,g1,g2]
theorem tN {t1 t2 t3:Nat} {u1 u2 u3 v1 v2 v3:V} {n:Nat} (h1:T t1=u1) (h2:T t2=u2) (h3:T t3=u3) (g1:fzv true H n u1=v1) (g2:fzv true H n u2=v2) (g3:fzv true H n u3=v3):
    Ret [.tmp t1,.tmp t2,.tmp t3] (fun u G=>fzv true G (n+1) u=.tup [v1,v2,v3]) .ret T H:=by
  simp only [Ret,mF,fX,mD,eQ,h1,h2,h3,fzv,List.map_cons,List.map_nil,g1,g2,g3]
theorem aE {n:Nat} {x y:Int} (h:x=y):fzv true H n (iV x)=iV y:=by rw [fI n _ (by simp),h]
theorem bA {n:Nat} {x y:Bool} (h:x=y):fzv true H n (.bool x)=.bool y:=by rw [fI n _ (by simp),h]
theorem dB {α:Type} {n:Nat} {f:α→List V} {l m:List α} (h:l=m) (hc: ∀ a,dL (f a)=true):fzv true H n (.sl (l.map f))=.sl (m.map f):=by
  rw [fI n _ (by rw [aIa]; exact fY _ _ hc),h]
theorem bT {α:Type} {n:Nat} {f:α→List V} {m:List α} (h:m=[]):fzv true H (n+1) .nilsl=.sl (m.map f):=by subst h; rfl
theorem gL {α:Type} {n id ver len:Nat} {B:Blk} {f:α→List V} {l m:List α} (hH:H id=B) (hok:(B.live&&decide (B.ver=ver))=true) (hr:B.rows=l.map f) (hl:len=l.length) (hc: ∀ a,dL (f a)=true) (h:l=m):
    fzv true H (n+1) (.ms id ver 0 len)=.sl (m.map f):=by
  subst hH; subst hl; subst h
  have hx:List.take l.length (List.map f l)=List.map f l:=by rw [show l.length=(l.map f).length by simp,List.take_length]
  simp only [fzv]
  rw [if_pos hok,hr,List.drop_zero,hx]
  congr 1
  rw [List.map_map]
  refine List.map_congr_left fun a _=>dR n _ (hc a)
theorem cG {n:Nat} {u v:V} (hc:u.canon=true) (h:u=v):fzv true H n u=v:=by rw [fI n _ hc,h]
end
theorem cJ {R:(Nat→V)→aP→Prop} {K:(Nat→V)→aP→Prop} {T:Nat→V} {H:aP} (h:R T H) (hk: ∀ T H,R T H→K T H):K T H:=hk T H h
theorem iK {α β:Type} {g:α→β} {a:α} {b:β} {l:List α} {m:List β} (h1:g a=b) (h2:l.map g=m):(a::l).map g=b::m:=by subst h1; subst h2; rfl
theorem bL {T:Nat→V} {a:SX} {v:V} {l:List SX} {m:List V} (h1:ev T a=v) (h2:evs T l=m):evs T (a::l)=v::m:=by subst h1; subst h2; rfl
theorem eB {T:Nat→V}:evs T []=[]:=rfl
end Go.Proofs.YteehaobohaecmaaGreatDoor


namespace Go.Proofs.YteehaobohaecmaaGreatDoor
open Go
section
variable {P:Program} {k0:Nat} {Q:Ex→(Nat→V)→aP→Prop} {T:Nat→V} {H:aP}
theorem dO {ops:List SO} {b:SC} (R:(Nat→V)→aP→Prop) (h:Ops P k0 ops T H R) (hk: ∀ T H,R T H→G (W P k0 b Q) T H):W P k0 (.seq (.reg ops) b) Q T H:=
  aDH fun _ hK=>lU (fun T H hr=>hK T H (hk T H hr)) h
theorem aD {id:Nat} {a r:SC} (h: ∀ Q':Ex→(Nat→V)→aP→Prop,(∀ T H,G (W P k0 r Q) T H→Q' .norm T H)→(∀ T H,G (W P k0 r Q) T H→Q' (.exit id) T H)→(∀ T H,Q .ret T H→Q' .ret T H)→
    (∀ n T H,n≠id→Q (.exit n) T H→Q' (.exit n) T H)→W P k0 a Q' T H):W P k0 (.seq (.block id a) r) Q T H:=by
  simp only [W]
  refine h _ (fun T H h=>h) (fun T H h=>?_) (fun T H h=>h) (fun n T H hn h=>?_)
  · simp only [if_true]; exact h
  · simp only [if_neg hn]; exact h
theorem aA7 {K:(Nat→V)→aP→Prop} {i:Nat} (ht:T i=.nilsl) (h:K (upd T i (.sl [])) H):G K T H:=
  .slot i (.sl []) (fun x c _ _ hr=>by rw [ht] at hr; generalize hq:V.nilsl=q at hr; cases hr <;> cases hq; exact .slnil) (.done h)
end
section
variable {P:Program} {k0:Nat} {K:(Nat→V)→aP→Prop} {T:Nat→V} {H:aP} {r:List SO} {d:Nat} {a b:SX}
theorem aAB {e id ver off len:Nat} {i:Int} {B:Blk} {k:IntKind} (ha:ev T a=.ms id ver off len) (hb:ev T b=.int k i) (hH:H id=B) (hok:okB B ver=true) (hs:B.sz=e) (h0:0≤i) (hi:i < len)
    (h:Ops P k0 r (upd T d (.mp id ver (off+i.toNat) 0)) H K):Ops P k0 (⟨none,some d,.idx e a b⟩::r) T H K:=by
  subst hH
  refine stp (v:=.mp id ver (off+i.toNat) 0) (fun _=>rfl) ?_ h
  rw [ha,hb]
  simp only [wB]
  rw [if_pos (show ok H id ver=true from hok),if_pos hs,if_pos ⟨h0,hi⟩]
theorem aR2 {x y:Bool} (ha:ev T a=.bool x) (hb:ev T b=.bool y) (h:Ops P k0 r (upd T d (.bool (x != y))) H K):Ops P k0 (⟨none,some d,.bbin .neq a b⟩::r) T H K:=by
  refine stp (v:=.bool (x != y)) (fun _=>rfl) ?_ h
  rw [ha,hb]; rfl
end
theorem eO {α:Type} {ver ty sz:Nat} {lz:Bool} {f:α→List V} {l:List α} (h:0 < l.length):okB ⟨ver,true,lz,ty,sz,l.map f⟩ ver=true:=by
  cases l with
  |nil=>simp at h
  |cons a l=>simp [okB,Blk.own]
theorem eG {α:Type} [Inhabited α] {agg:Bool} {n ver ty sz i off:Nat} {lz:Bool} {f:α→List V} {l:List α} {v:V} (h:i < l.length) (hg:ldV agg n ((f (nth l i)).drop off)=some v):
    ldB agg n ⟨ver,true,lz,ty,sz,l.map f⟩ ver i off=some v:=by
  unfold ldB
  rw [if_pos (show (_&&_)=true from eO (by omega))]
  simp only [List.getElem?_map,yT h,Option.map_some,Option.bind_some]
  exact hg
theorem aL5 {x y:Bool} (h:x=true):V.bool true=V.bool (x||y):=by rw [h]; rfl
theorem aMC {x y:Bool} (h: ¬x=true):V.bool y=V.bool (x||y):=by rw [Bool.eq_false_iff.2 h]; rfl
theorem aNv {x y:Bool} (h:x=true):V.bool y=V.bool (x&&y):=by rw [h]; rfl
theorem aN6 {x y:Bool} (h: ¬x=true):V.bool false=V.bool (x&&y):=by rw [Bool.eq_false_iff.2 h]; rfl
theorem nM {p:Prop} [Decidable p] {y:Bool} (h:p):V.bool true=V.bool (decide p||y):=by simp [h]
theorem nH {p:Prop} [Decidable p] {y:Bool} (h: ¬p):V.bool y=V.bool (decide p||y):=by simp [h]
theorem tW {p:Prop} [Decidable p] {y:Bool} (h:p):V.bool y=V.bool (decide p&&y):=by simp [h]
theorem uP {p:Prop} [Decidable p] {y:Bool} (h: ¬p):V.bool false=V.bool (decide p&&y):=by simp [h]
def fzq (id:Nat) (H:aP):V→V
  | .ms j ver off len=>if j=id∧(H id).live=true∧(H id).ver=ver then .sl (((H id).rows.drop off).take len) else .ms j ver off len
  |v=>v
theorem bW {id:Nat} {H:aP} {T:Nat→V} {i:Nat} {v u:V} (h:T i=v) (hu:fzq id H v=u):fzT id H T i=u:=by
  subst hu; subst h
  unfold fzT fzq
  cases hT:T i <;> simp only
theorem aGJ {α:Type} {id ver len:Nat} {H:aP} {B:Blk} {f:α→List V} {l:List α} (hH:H id=B) (hok:(B.live&&decide (B.ver=ver))=true) (hr:B.rows=l.map f) (hl:len=l.length):
    fzq id H (.ms id ver 0 len)=.sl (l.map f):=by
  subst hH
  simp only [Bool.and_eq_true,decide_eq_true_eq] at hok
  simp only [fzq]
  rw [if_pos ⟨trivial,hok.1,hok.2⟩,hr,List.drop_zero,hl]
  congr 1
  rw [show l.length=(l.map f).length by simp,List.take_length]
theorem gW {id j ver off len:Nat} {H:aP} (h:j≠id):fzq id H (.ms j ver off len)=.ms j ver off len:=by
  simp only [fzq]; rw [if_neg (fun e=>h e.1)]
theorem bQ {id j:Nat} {H:aP} {B:Blk} (h:H j=B) (hn:j≠id):lM id H j=B:=by subst h; simp [lM,hn]
theorem aCX {id j:Nat} {H:aP} {n:Nat} (h:(H j).ver=n):(lM id H j).ver=n:=by subst h; unfold lM; by_cases e:j=id <;> simp [e]
mutual
def V.bnd:V→Bool
  | .sl rows=>decide (rows.length≤9223372036854775807)&&zN rows
  | .pp cells=>jC cells
  | .agg cells=>jC cells
  | .tup vs=>jC vs
  | .fn _ a b=>jC a&&jC b
  | .ms _ _ _ _=>true
  | .mp _ _ _ _=>true
  | .mm _ _=>true
  | .int _ _=>true
  | .bool _=>true
  | .str _=>true
  | .nilsl=>true
  | .nilp=>true
  | .raw _=>true
def jC:List V→Bool
  |[]=>true
  |v::l=>v.bnd&&jC l
def zN:List (List V)→Bool
  |[]=>true
  |r::l=>jC r&&zN l
end
theorem aCs {l:List V}:jC l=true↔ ∀ v∈l,v.bnd=true:=by
  induction l with
  |nil=>simp [jC]
  |cons v l ih=>simp [jC,ih]
theorem aAF {l:List (List V)}:zN l=true↔ ∀ r∈l,jC r=true:=by
  induction l with
  |nil=>simp [zN]
  |cons v l ih=>simp [zN,ih]
theorem R.bnd {x:Cx} {v:V} {c:Value} (h:R x v c):v.bnd=true:=by
  have all: ∀ {l:List V},(∀ (j:Nat) (v:V),l[j]?=some v→v.bnd=true)→jC l=true:=fun {l} h=>
    aCs.2 fun v hv=>by obtain ⟨j,hj⟩:=List.getElem?_of_mem hv; exact h j v hj
  induction h with
  | sl rows a cap sz cs hc hm hz hsz hcell _ ih =>
    simp only [V.bnd,Bool.and_eq_true,decide_eq_true_eq]
    have:maxLen=9223372036854775807:=rfl
    refine ⟨by omega,aAF.2 fun r hr=>?_⟩
    obtain ⟨k,hk⟩:=List.getElem?_of_mem hr
    exact all fun j v hj=>ih k r j v hk hj
  |slnil=>simp [V.bnd,zN]
  |pp cells a cs hzz hcell _ ih=>simp only [V.bnd]; exact all ih
  |agg cells cs hs _ ih=>simp only [V.bnd]; exact all ih
  |tup cells cs hs _ ih=>simp only [V.bnd]; exact all ih
  |fn f first caps fs cs hfs hcs _ _ ih1 ih2=>simp only [V.bnd,Bool.and_eq_true]; exact ⟨all ih1,all ih2⟩
  |_=>simp [V.bnd]
theorem RL.bnd {x:Cx} {vs:List V} {cs:List Value} (h:RL x vs cs):jC vs=true:=
  aCs.2 fun v hv=>by obtain ⟨j,hj⟩:=List.getElem?_of_mem hv; exact (h.2 j v hj).bnd
theorem kT {P : Program} {op : Opt} (z : Bool) (n : Nat) {f : Nat} {fn : Func} {s : SF} (hf : P.funcs[f]? = some fn) (hs : bJ P op fn = some s) (hn : (fn.name == "runtime.NumGoroutine") = false) {args : List V} {v : V}
    (hl:args.length≤s.n) (ha:eE args=true) (hv:v.pure=true) (hW:jC args=true→W P 0 s.body (Ret s.res fun u G=>fzv z G n u=v) (T0 args) H0):aQ P f args v:=fun H=>
  ⟨lA hf hs hn,fun x cs hxH hx hr=>(aEe z n hf hs hn hl ha hv (hW hr.bnd) H).2 x cs hxH hx hr⟩
theorem aHk {α:Type} [Inhabited α] {f:α→List V} {l:List α}:zN (l.map f)=true↔ ∀ k,k < l.length→jC (f (nth l k))=true:=by
  rw [aAF]
  constructor
  · intro h k hk; exact h _ (List.mem_map_of_mem (by rw [← bR hk]; exact List.getElem_mem hk))
  · intro h r hr
    obtain ⟨a,ha,rfl⟩:=List.mem_map.1 hr
    obtain ⟨k,hk,rfl⟩:=List.getElem_of_mem ha
    rw [bR hk]; exact h k hk
theorem nG {α:Type} [Inhabited α] {f:α→List V} {l:List α}:(V.sl (l.map f)).bnd=true↔l.length≤9223372036854775807∧ ∀ k,k < l.length→jC (f (nth l k))=true:=by
  simp only [V.bnd,Bool.and_eq_true,decide_eq_true_eq,List.length_map,aHk]
theorem mR (k:IntKind) (n:Int):(V.int k n).bnd=true:=by simp [V.bnd]
theorem kQ (b:Bool):(V.bool b).bnd=true:=by simp [V.bnd]
theorem mX (s:List UInt8):(V.str s).bnd=true:=by simp [V.bnd]
theorem mO {l:List V}:(V.agg l).bnd=jC l:=by simp [V.bnd]
theorem qZ {l:List V}:(V.pp l).bnd=jC l:=by simp [V.bnd]
theorem mS:jC []=true:=by simp [jC]
theorem kV {v:V} {l:List V}:jC (v::l)=true↔v.bnd=true∧jC l=true:=by simp [jC]
end Go.Proofs.YteehaobohaecmaaGreatDoor


namespace Go.Proofs.YteehaobohaecmaaGreatDoor
open Go
theorem aLX {α : Type} {n : Nat} {p : Nat → α → Prop} (h : ∀ i, i < n → ∃ a, p i a) : ∃ l : List α, l.length = n ∧ ∀ i a, l[i]? = some a → p i a := by
  induction n with
  |zero=>exact ⟨[],rfl,fun i a h=>by simp at h⟩
  | succ n ih =>
    obtain ⟨l,h1,h2⟩:=ih fun i hi=>h i (by omega)
    obtain ⟨b,hb⟩:=h n (by omega)
    refine ⟨l++[b],by simp [h1],fun i a hi=>?_⟩
    rw [List.getElem?_append] at hi
    split at hi
    · exact h2 i a hi
    · rename_i hlt
      have e:i=n:=by
        have:=(List.getElem?_eq_some_iff.1 hi).1
        simp at this; omega
      subst e
      simp [h1] at hi
      subst hi
      exact hb
def aDs (P:Program) (all:Nat):Nat→List Field→Bool
  |off,[]=>decide (off=all)
  |off,f::r=>decide (f.offset=off)&&aDs P all (off+P.cellsOf f.type) r
def aDR (S:TypeId→List V→Prop):List Field→List V→Prop
  |[],vs=>vs=[]
  |f::r,vs=> ∃ a b,vs=a++b∧S f.type a∧aDR S r b
def aRE (S:List V→Prop):Nat→List V→Prop
  |0,vs=>vs=[]
  |k+1,vs=> ∃ a b,vs=a++b∧S a∧aRE S k b
def Shp (P : Program) : Nat → TypeId → List V → Prop
  |0,_,_=>False
  | n + 1, t, vs => match P.underlying t with
    |some .bool=> ∃ b,vs=[.bool b]
    |some (.int k)=> ∃ m,vs=[.int k m]∧(Lit.int k m).wf=true
    |some .string=> ∃ s,vs=[.str s]
    |some (.slice e)=> ∃ rows,vs=[.sl rows]∧ ∀ r∈rows,Shp P n e r
    |some (.struct fs)=>aDR (Shp P n) fs.toList vs
    |some (.array m e)=>aRE (Shp P n e) m vs
    |_=>False
def RC (x:Cx) (vs:List V) (cs:List Value):Prop:=vs.length=cs.length∧ ∀ j v,vs[j]?=some v→R x v (cs.getD j undef)
theorem aA9 {x:Cx} {a b:List V} {c d:List Value} (h1:RC x a c) (h2:RC x b d):RC x (a++b) (c++d):=by
  refine ⟨by simp [h1.1,h2.1],fun j v hj=>?_⟩
  rw [List.getElem?_append] at hj
  rw [List.getD_eq_getElem?_getD,List.getElem?_append,← h1.1]
  split at hj
  · rename_i hlt
    rw [if_pos hlt,← List.getD_eq_getElem?_getD]; exact h1.2 j v hj
  · rename_i hlt
    rw [if_neg hlt,← List.getD_eq_getElem?_getD]; exact h2.2 _ v hj
end Go.Proofs.YteehaobohaecmaaGreatDoor


namespace Go.Proofs.YteehaobohaecmaaGreatDoor
open Go Go.ChangeShapes Go.WideShapes Go.ChangeAt Go.RowKit
section
variable {H:Type} {enc:TypeId×Value→H} {P:Program}
theorem aAj {f:Func} {s:ChangeSpec} {apart fresh handsOn again:Bool} {W W':World} {args:Array Value} {v:Value} {ds gs:List (DataW H)} {before pa pv:List MemPlace}
    (hW:DataW.Whole enc P f.params.toList s.vars apart W args.toList ds gs before)
    (hres: ∀ (b:Nat) (sp:Nat→Bool) (hd:Bool),DataW.TrodAll enc P W' b sp hd f.resultTypes.toList (v.resultList f.resultTypes.size) (s.fn H (ds++gs)).results [])
    (hargs: ∀ sp:Nat→Bool,(∀ p∈before,sp p.block=true)→DataW.TrodAll enc P W' 0 sp true f.params.toList args.toList (s.fn H (ds++gs)).args pa)
    (hvars: ∀ sp:Nat→Bool,(∀ p∈before,sp p.block=true)→DataW.TrodVars enc P W' sp s.vars (s.fn H (ds++gs)).vars pv)
    (hps:before=pa++pv) (hb:Below W.heap.size W W')
    (hok: ∀ (j:Nat) (t:TypeId) (r:Value),f.resultTypes[j]?=some t→(v.resultList f.resultTypes.size)[j]?=some r→Value.okWide P W' .any 0 t r):
    s.post enc P f apart fresh handsOn again W args v W':=by
  have hold: ∀ p∈before,(fun b=>decide (b < W.heap.size)) p.block=true:=fun p hp=>by simpa using hW.lt p hp
  refine ⟨ds,gs,before,[],pa,pv,hW,hres _ _ _,hargs _ hold,hvars _ hold,World.keptBut_mono (fun p hp=>⟨hp,?_⟩) (hb.frame (· ∈before)),fun _=>?_⟩
  · rw [hps,List.mem_append] at hp
    exact Or.inr hp
  · have hlt:=hW.lt
    obtain ⟨_,_,_,_,_,hz,hn⟩:=hW
    refine ⟨hok,_,_,([]++pa)++pv,⟨[]++pa,pv,trodAll_append (hargs _ (fun _ _=>rfl)) (hres _ _ _),hvars _ (fun _ _=>rfl),rfl,?_,?_⟩,?_⟩
    · intro b off hp
      have hp':MemPlace.cell b off∈before:=by rw [hps]; simpa using hp
      rw [hb.frozen (hlt _ hp')]
      exact hz b off hp'
    · intro ha
      have:=hn ha
      rw [hps] at this
      simpa using this
    · intro p hp _
      rw [hps]
      simpa using hp
theorem yA {x y:Cx} {w:World} (h:Frame x y) (hx: ∀ id,(x.H id).own=false) (hw:x.w=w):Below w.heap.size w y.w:=by
  subst hw
  exact ⟨h.os,h.tape,h.output,h.size,fun k hk=>h.keep k hk fun id ho=>by rw [hx id] at ho; cases ho⟩
def pC (P:Program) (t:TypeId) (vs:List V):V:=match P.underlying t with
  |some (.struct _)=>.agg vs
  |some (.array _ _)=>.agg vs
  |_=>vs.headD rI
theorem aBD {x:Cx} {vs:List V} {c:Value} (h:RC x vs [c]):R x (vs.headD rI) c:=by
  obtain ⟨h1,h2⟩:=h
  cases vs with
  |nil=>simp at h1
  |cons u l=>exact h2 0 u rfl
theorem qU (hl:laidOutB P=true) {W W':World} (hb:Below W.heap.size W W') {sp:Nat→Bool}: ∀ (ts:List TypeId) (vs:List Value) (ds:List (DataW H)) (ps:List MemPlace),
    (∀ t∈ts,P.readableRec t=true∧t < P.types.size)→DataW.TrodAll enc P W 0 (fun _=>true) true ts vs ds ps→(∀ p∈ps,p.block < W.heap.size)→(∀ p∈ps,sp p.block=true)→DataW.TrodAll enc P W' 0 sp true ts vs ds ps
  | [], vs, ds, ps, _, h, _, _ => by
    obtain ⟨rfl,rfl,rfl⟩:=trodAll_nil h
    exact h
  | t :: ts, vs, ds, ps, hr, h, hlt, hsp => by
    obtain ⟨v,vs1,d,ds1,a,b,rfl,rfl,rfl,h1,h2⟩:=trodAll_cons h
    refine ⟨a,b,WideElems.Trod_stays hl (hr t (List.mem_cons_self ..)).1 (hr t (List.mem_cons_self ..)).2 h1 (fun p hp=>hb.same (hlt p (List.mem_append_left _ hp))) (fun p hp=>hsp p (List.mem_append_left _ hp)),
      qU hl hb ts vs1 ds1 b (fun q hq=>hr q (List.mem_cons_of_mem _ hq)) h2 (fun p hp=>hlt p (List.mem_append_right _ hp)) (fun p hp=>hsp p (List.mem_append_right _ hp)),rfl⟩
end
end Go.Proofs.YteehaobohaecmaaGreatDoor


namespace Go.Proofs.YteehaobohaecmaaGreatDoor
open Go
theorem aCG {α:Type} {f:α→List V}: ∀ {rows:List (List V)},(∀ r∈rows,∃ a,r=f a)→ ∃ l:List α,rows=l.map f
  |[],_=>⟨[],rfl⟩
  | r :: rows, h => by
    obtain ⟨a,ha⟩:=h r (List.mem_cons_self ..)
    obtain ⟨l,hl⟩:=aCG (rows:=rows) fun q hq=>h q (List.mem_cons_of_mem _ hq)
    exact ⟨a::l,by rw [ha,hl]; rfl⟩
section
variable {P:Program} {n t:Nat} {vs:List V}
theorem aNd {k:IntKind} (ht:P.underlying t=some (.int k)) (h:Shp P (n+1) t vs): ∃ m:Int,vs=[.int k m]:=by
  simp only [Shp,ht] at h; obtain ⟨m,hm,_⟩:=h; exact ⟨m,hm⟩
theorem aAw {e:Nat} {α:Type} {f:α→List V} (ht:P.underlying t=some (.slice e)) (he: ∀ vs,Shp P n e vs→ ∃ a,vs=f a) (h:Shp P (n+1) t vs): ∃ l:List α,vs=[.sl (l.map f)]:=by
  simp only [Shp,ht] at h
  obtain ⟨rows,rfl,hr⟩:=h
  obtain ⟨l,rfl⟩:=aCG (f:=f) fun r h=>he r (hr r h)
  exact ⟨l,rfl⟩
theorem aJf {fs:Array Field} (ht:P.underlying t=some (.struct fs)) (h:Shp P (n+1) t vs):aDR (Shp P n) fs.toList vs:=by
  simp only [Shp,ht] at h; exact h
theorem jH {S:TypeId→List V→Prop} {f:Field} {r:List Field} {α:Type} {c:α→List V} (hc: ∀ vs,S f.type vs→ ∃ a,vs=c a) (h:aDR S (f::r) vs): ∃ a us,vs=c a++us∧aDR S r us:=by
  obtain ⟨a,b,rfl,h1,h2⟩:=h
  obtain ⟨x,rfl⟩:=hc a h1
  exact ⟨x,b,rfl,h2⟩
theorem aDF {S:TypeId→List V→Prop} (h:aDR S [] vs):vs=[]:=h
theorem aCR {fs:Array Field} (ht:P.underlying t=some (.struct fs)) (vs:List V):pC P t vs=.agg vs:=by
  unfold pC; rw [ht]
theorem aEM {v:V} (ht: ∀ fs,P.underlying t≠some (.struct fs)) (hta: ∀ m e,P.underlying t≠some (.array m e)):pC P t [v]=v:=by
  unfold pC; split
  · rename_i fs h; exact (ht fs h).elim
  · rename_i m e h; exact (hta m e h).elim
  · rfl
end
end Go.Proofs.YteehaobohaecmaaGreatDoor


