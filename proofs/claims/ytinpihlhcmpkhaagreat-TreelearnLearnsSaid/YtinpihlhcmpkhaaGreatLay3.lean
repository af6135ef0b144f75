/- The layer: abstract values for memory and their soundness; no condition. -/
import Derived.IntWalk
import Derived.ChangeArms
import Derived.DataElems
import Derived.DataReads
import Derived.OpenShut
import Derived.ProofKit
import Derived.WalkKit
import Derived.Carry
import Derived.Test.YtinpihlhcmpkhaaGreatLay2
set_option linter.unusedSimpArgs false
set_option linter.unusedVariables false
namespace Go.Proofs.YtinpihlhcmpkhaaGreat
open Go
def lX (P : Program) (op : Opt) (fn : Func) : Option SF :=
  match fn.body with
  |none=>none
  | some c => match aC2 P op fn.ntmps c, jA (yT P fn.ntmps) fn.results.toList with
    |some s,some r=>some ⟨fn.ntmps,r,s⟩
    |_,_=>none
def xS:V:=.raw undef
def T0 (args:List V):Nat->V:=λi=>args.getD i xS
def pM (T:Nat->V) (H:aT):SRes->Option V
  | .tmp t=>some (T t)
  | .cell t g m=>(ptr H (T t)).bind (ldV g m)
def vZ (res:List SRes) (T:Nat->V) (H:aT):Option V:=match jA (pM T H) res with
  |some [v]=>some v
  |some vs=>some (.tup vs)
  |none=>none
def xN (res:List SRes) (K:V->aT->Prop):Ex->(Nat->V)->aT->Prop:=λe T H=>match e with
  | .exit _=>False
  | .pan _=>False
  |_=>oU (vZ res T H) λv=>K v H
section
variable {P:Program} {k0:Nat} {op:Opt}
theorem aIP {α β:Type} {f:α->Sem β} {w:World}: ∀ (l:List α) (r:List β),l.length=r.length->(∀ (j:Nat) (a:α) (b:β),l[j]?=some a->r[j]?=some b->(f a).run P w=.ok b w)->(l.mapM f).run P w=.ok r w
  | [], r, h, _ => by cases r with
    |nil=>simp
    |cons b r=>simp at h
  | a :: l, r, h, hf => by
    cases r with
    |nil=>simp at h
    | cons b r =>
      have h1:=hf 0 a b J J;have h2:=aIP l r (by simpa using h) λj a' b' ha hb=>hf (j+1) a' b' (by simpa using ha) (by simpa using hb)
      simp only [List.mapM_cons,Sem.run_bind,h1,Result.andThen_ok,h2,Sem.run_pure]
def xF (tmps:Array Value):ResultVar->Sem Value
  | .tmp t=>pure (tmps.getD t undef)
  | .cell ad t=>do loadVar t (<- asAddr (tmps.getD ad undef))
theorem aCw (fn:Func) (tmps:Array Value):results fn tmps=(do
    let vs <- fn.results.mapM (xF tmps)
    pure (if h:vs.size=1 then vs[0] else .tuple vs)):=J
theorem aN4 {D : List Deferred} {n : Nat} {rv : ResultVar} {s : SRes} (hs : yT P n rv = some s) {x : Cx} (hx : Inv x) {T : Nat -> V} {a : Act} (hT : TRel D n x T a) {v : V} (hv : pM T x.H s = some v) :
    ∃ c,(xF a.tmps rv).run P x.w=.ok c x.w/\R x v c:=by
  unfold yT at hs;split at hs
  . rename_i t
    split at hs
    . cases hs; cases hv
      exact ⟨_,J,hT.tmps t⟩
    . cases hs
  . rename_i t ty
    split at hs
    . rename_i g m hg hm
      split at hs
      . rename_i hc
        cases hs;obtain ⟨c,h1,h2⟩:=aGC (P:=P) hx hv (hT.tmps t) hg hm hc.2;refine ⟨c,?_,h2⟩;obtain ⟨cs,hp,_⟩:=zC hv;obtain ⟨ad,f,he,_⟩:=aDq hx hp<|hT.tmps t
        simp only [xF];rw [he] at h1 ⊢;simpa [Instr.loadAt,Instr.sureAddr,asAddr] using h1
      . cases hs
    . cases hs
theorem aGj {D : List Deferred} {fn : Func} {n : Nat} {res : List SRes} (hs : jA (yT P n) fn.results.toList = some res) {x : Cx} (hx : Inv x) {T : Nat -> V} {a : Act} (hT : TRel D n x T a) {v : V} (hv : vZ res T x.H = some v) :
    ∃ c,(results fn a.tmps).run P x.w=.ok c x.w/\R x v c:=by
  obtain ⟨g1,g2⟩:=jI hs;unfold vZ at hv
  have key: ∀ (vs:List V),jA (pM T x.H) res=some vs-> ∃ cs:List Value,RL x vs cs/\(fn.results.mapM<|xF a.tmps).run P x.w=.ok cs.toArray x.w:=by
    intro vs hvs;obtain ⟨g3,g4⟩:=jI hvs
    have ex: ∀ j,j < vs.length-> ∃ c,R x (vs.getD j xS) c/\ ∀ rv,fn.results.toList[j]?=some rv->(xF a.tmps rv).run P x.w=.ok c x.w:=λj hj=>by
      obtain ⟨s,hs1,hs2⟩:=g4 j vs[j] (List.getElem?_eq_getElem hj);obtain ⟨rv,hr1,hr2⟩:=g2 j s hs1;obtain ⟨c,hc1,hc2⟩:=aN4 hr2 hx hT hs2;refine ⟨c,by simpa [hj] using hc2,λrv' hrv'=>?_⟩;have:rv'=rv:=by have:=hrv'.symm.trans hr1; simpa using this
      subst this; exact hc1
    have choice: ∃ f:Nat->Value,∀ j,j < vs.length->R x (vs.getD j xS) (f j)/\ ∀ rv,fn.results.toList[j]?=some rv->(xF a.tmps rv).run P x.w=.ok (f j) x.w:=
      ⟨λj=>if h:j < vs.length then Classical.choose (ex j h) else undef,λj hj=>by
        simp only [hj,dif_pos]; exact Classical.choose_spec<|ex j hj⟩
    obtain ⟨f,hf⟩:=choice;refine ⟨(List.range vs.length).map f,⟨SI,λj v hj=>?_⟩,?_⟩
    . have hlt:=(List.getElem?_eq_some_iff.1 hj).1
      have h1:=(hf j hlt).1;have e1:vs.getD j xS=v:=by rw [List.getD_eq_getElem?_getD,hj]; rfl
      have e2:((List.range vs.length).map f).getD j undef=f j:=by simp [hlt]
      rw [e2,<- e1]; exact h1
    . rw [Array.mapM_eq_mapM_toList]
      have:=aIP (P:=P) (w:=x.w) (f:=xF a.tmps) fn.results.toList ((List.range vs.length).map f) (by simp [g3,g1]) (λj rv b h1 h2=>by
          have hlt:j < vs.length:=by have:=(List.getElem?_eq_some_iff.1 h2).1; simpa using this
          have e2:b=f j:=by simp [hlt] at h2; exact h2.symm
          subst e2;exact (hf j hlt).2 rv h1)
      simp only [Sem.run_map,this,Result.andThen_ok]
  cases hm:jA (pM T x.H) res with
  |none=>rw [hm] at hv; cases hv
  | some vs =>
    obtain ⟨cs,hR,hrun⟩:=key vs hm;have hsz:cs.toArray.size=vs.length:=by simp [hR.1]
    rw [hm] at hv;by_cases h1:vs.length=1
    . obtain ⟨u,rfl⟩: ∃ u,vs=[u]:=by
        cases vs with
        |nil=>simp at h1
        | cons u l => cases l with
          |nil=>exact ⟨u,rfl⟩
          |cons u' l=>simp at h1
      cases hv
      obtain ⟨c,rfl⟩: ∃ c,cs=[c]:=by
        have:=hR.1;cases cs with
        |nil=>simp at this
        | cons u l => cases l with
          |nil=>exact ⟨u,rfl⟩
          |cons u' l=>simp at this
      refine ⟨c,?_,hR.2 0 _ J⟩;rw [aCw];simp only [Sem.run_bind,hrun]
      rfl
    . have hv':V.tup vs=v:=by
        cases vs with
        |nil=>simpa using hv
        | cons u l => cases l with
          |nil=>simp at h1
          |cons u' l=>simpa using hv
      subst hv';refine ⟨.tuple cs.toArray,?_,.tup vs _ hsz λj u hj=>?_⟩
      . rw [aCw]
        simp only [Sem.run_bind,hrun,Result.andThen_ok,Sem.run_pure];rw [dif_neg (by rw [hsz]; exact h1)]
      . have:=hR.2 j u hj
        rw [Array.getD_eq_getD_getElem?,List.getElem?_toArray,<- List.getD_eq_getElem?_getD];exact this
theorem aH8 {x:Cx} {n:Nat} {args:List V} {cs:List Value} (h:RL x args cs) (hl:args.length<=n):
    TRel [] n x (T0 args) {tmps:=cs.toArray++Array.replicate (n - cs.toArray.size) undef,defers:=[]}:=by
  refine ⟨λi=>?_,J,by simp [h.1]; omega⟩;have hsz:cs.toArray.size=args.length:=by simp [h.1]
  simp only [T0];rw [Array.getD_eq_getD_getElem?,Array.getElem?_append];by_cases hi:i < args.length
  . rw [if_pos OM]
    have:=h.2 i args[i] (List.getElem?_eq_getElem hi);rw [List.getD_eq_getElem?_getD,List.getElem?_eq_getElem hi,List.getElem?_toArray,<- List.getD_eq_getElem?_getD];exact this
  . rw [if_neg OM,List.getD_eq_getElem?_getD,List.getElem?_eq_none OM,Array.getElem?_replicate]
    simp only [Option.getD_none];split
    . exact .raw undef J
    . exact .raw undef J
theorem aBG {f : Nat} {fn : Func} {s : SF} (hf : P.funcs[f]? = some fn) (hs : lX P op fn = some s) {x : Cx} {args : List V} {cs : List Value} {K : V -> aT -> Prop}
    (hl:args.length<=s.n) (hW:W P k0 s.body (xN s.res K) (T0 args) x.H) (hx:Inv x) (hr:RL x args cs):
    Calls P f cs.toArray x.w λe w'=> ∃ c v y,e=.returned c/\y.w=w'/\K v y.H/\Inv y/\R y v c/\Frame x y:=by
  unfold lX at hs;split at hs
  . cases hs
  . rename_i c hc
    split at hs
    . rename_i sb r h1 h2
      cases hs;refine calls_of_wp hf hc<|wp_mono (aOh c sb h1 _ x x (T0 args) _ hW hx (aH8 hr hl)<|Frame.refl x) ?_
      intro e a' w' hp;obtain ⟨e',T',y,he,hw,hq,hy,hT',hF'⟩:=hp
      have fin:oU (vZ r T' y.H) (λv=>K v y.H)->a'.defers=[]/\ ∃ v,(results fn a'.tmps).run P w'=.ok v w'/\(∃ c u z,Ending.returned v=.returned c/\z.w=w'/\K u z.H/\Inv z/\R z u c/\Frame x z):=by
        intro h;obtain ⟨v,h3,h4⟩:=bW.1 h;obtain ⟨c,h5,h6⟩:=aGj h2 hy hT' h3;exact ⟨hT'.defers,c,by rw [<- hw]; exact h5,c,v,y,J,hw,h4,hy,h6,hF'⟩
      cases e with
      |normal=>cases he; exact fin hq
      |ret=>cases he; exact fin hq
      |exit id=>cases he; exact hq.elim
      |goto l=>cases he
      |panic l=>obtain ⟨c,rfl⟩:=sH he; exact hq.elim
      |outgrown=>cases he
    . cases hs
theorem uU {f : Nat} {fn : Func} {s : SF} (hf : P.funcs[f]? = some fn) (hs : lX P op fn = some s) (hn : (fn.name == "runtime.NumGoroutine") = false) : fS P f := by
  refine ⟨fn,hf,?_,hn⟩;unfold lX at hs;split at hs
  . cases hs
  . rename_i c hc; rw [hc]; rfl
end
end Go.Proofs.YtinpihlhcmpkhaaGreat


namespace Go.Proofs.YtinpihlhcmpkhaaGreat
open Go
mutual
def V.pure:V->Bool
  | .sl rows=>kF rows
  | .pp cells=>gB cells
  | .agg cells=>gB cells
  | .tup vs=>gB vs
  | .fn _ a b=>gB a&&gB b
  | .ms _ _ _ _=>false
  | .mp _ _ _ _=>false
  | .mm _ _=>false
  | .int _ _=>true
  | .bool _=>true
  | .str _=>true
  | .nilsl=>true
  | .nilp=>true
  | .raw _=>true
def gB:List V->Bool
  |[]=>true
  |v::l=>v.pure&&gB l
def kF:List (List V)->Bool
  |[]=>true
  |r::l=>gB r&&kF l
end
theorem fN {l:List V}:gB l=true↔ ∀ v∈l,v.pure=true:=by
  induction l with
  |nil=>simp [gB]
  |cons v l ih=>simp [gB,ih]
theorem kP {l:List (List V)}:kF l=true↔ ∀ r∈l,gB r=true:=by
  induction l with
  |nil=>simp [kF]
  |cons v l ih=>simp [kF,ih]
theorem R.pure_at {x y:Cx} {v:V} {c:Value} (h:R x v c) (hp:v.pure=true) (hw:y.w=x.w) (hz: ∀ b,x.Z b->y.Z b):R y v c:=by
  induction h with
  |int k n=>exact .int k n
  |bool b=>exact .bool b
  |str s=>exact .str s
  |nilsl=>exact .nilsl
  |slnil=>exact .slnil
  | sl rows a cap sz cs hc hm hzz hsz hcell _ ih =>
    simp only [V.pure] at hp;refine .sl rows a cap sz cs hc hm (λhne=>hz _<|hzz hne) hsz (λr row j v hr hj=>by rw [hw]; exact hcell r row j v hr hj) λr row j v hr hj=>ih r row j v hr hj ?_;exact fN.1 (kP.1 hp row<|List.mem_of_getElem? hr) v<|List.mem_of_getElem? hj
  |ms=>simp [V.pure] at hp
  | pp cells a cs hzz hcell _ ih =>
    simp only [V.pure] at hp;exact .pp cells a cs (λhne=>hz _<|hzz hne) (λj v hj=>by rw [hw]; exact hcell j v hj) λj v hj=>ih j v hj<|fN.1 hp v<|List.mem_of_getElem? hj
  |nilp=>exact .nilp
  |mp=>simp [V.pure] at hp
  |mm=>simp [V.pure] at hp
  | agg cells cs hs _ ih =>
    simp only [V.pure] at hp;exact .agg cells cs hs λj v hj=>ih j v hj<|fN.1 hp v<|List.mem_of_getElem? hj
  | tup vs cs hs _ ih =>
    simp only [V.pure] at hp;exact .tup vs cs hs λj v hj=>ih j v hj<|fN.1 hp v<|List.mem_of_getElem? hj
  | fn f first caps fs cs hfs hcs _ _ ih1 ih2 =>
    simp only [V.pure,Bool.and_eq_true] at hp;exact .fn f first caps fs cs hfs hcs (λj v hj=>ih1 j v hj<|fN.1 hp.1 v<|List.mem_of_getElem? hj) λj v hj=>ih2 j v hj<|fN.1 hp.2 v<|List.mem_of_getElem? hj
  |raw c hh=>exact .raw c hh
theorem RL.pure_at {x y:Cx} {vs:List V} {cs:List Value} (h:RL x vs cs) (hp:gB vs=true) (hw:y.w=x.w) (hz: ∀ b,x.Z b->y.Z b):RL y vs cs:=
  ⟨h.1,λj v hj=>(h.2 j v hj).pure_at (fN.1 hp v<|List.mem_of_getElem? hj) hw hz⟩
def xY (x:Cx):Cx:={x with Z:=λb=>x.Z b\/ ∃ id,(x.H id).own=true/\x.σ id=b,H:=λid=>{x.H id with live:=false}}
theorem aEH {x:Cx} (hx:Inv x):Inv (xY x)/\Frame x (xY x):=by
  have hno: ∀ id,((xY x).H id).own=true->False:=λid h=>by simp [xY,Blk.own] at h
  refine ⟨⟨λb h=>?_,λb id _ h=>(hno id h).elim,λid h=>(hno id h).elim,λi j h=>(hno i h).elim,λp hp=>⟨.inl (hx.tab p hp).1,(hx.tab p hp).2⟩⟩,⟨J,J,J,Nat.le_refl _,λ_ _ _=>J,λb h=>.inl h,λb h=>?_,λid=>⟨Nat.le_refl _,λh=>by simp [xY] at h⟩,λid h=>(hno id h).elim,Nat.le_refl _,λid h=>by simp [xY] at h⟩⟩
  . rcases h with h|⟨id,h,rfl⟩
    . exact hx.zlt b h
    . exact hx.lt h
  . rcases h with h|h
    . exact .inl h
    . exact .inr (.inr h)
def H0:aT:=λ_=>⟨0,false,false,0,0,[]⟩
def start (x:Cx) (Z:Nat->Prop):Cx:={w:=x.w,Z:=Z,σ:=λ_=>0,H:=H0}
theorem wZ (id:Nat):(H0 id).own=true->False:=λh=>by simp [H0,Blk.own] at h
theorem uB {x:Cx} {Z:Nat->Prop} (hZ: ∀ b,Z b->b < x.w.heap.size) (ht:aOp x.w Z):Inv (start x Z):=
  ⟨hZ,λ_ id _ h=>(wZ id h).elim,λid h=>(wZ id h).elim,λi _ h=>(wZ i h).elim,ht⟩
theorem back {x y:Cx} (hx:Inv x) {Z:Nat->Prop} (hf:Frame (start x Z) y) (_hy:Inv y) {Z':Nat->Prop} (h1: ∀ b,x.Z b->Z' b) (h2: ∀ b,Z' b->x.Z b\/(x.w.heap.size<=b/\b < y.w.heap.size)):
    let z:Cx:={w:=y.w,Z:=Z',σ:=x.σ,H:=x.H}
    Inv z/\Frame x z:=by
  intro z;have hkeep: ∀ b,b < x.w.heap.size->y.w.heap[b]?=x.w.heap[b]?:=λb hb=>hf.keep b hb λid h=>(wZ id h).elim
  have hF:Frame x z:=by
    refine ⟨hf.os,hf.tape,hf.output,hf.size,λb hb _=>hkeep b hb,h1,λb hb=>?_,λid=>⟨Nat.le_refl _,λh _=>⟨h,J,J,λ_=>J,λho=>⟨J,?_⟩⟩⟩,λid h=>.inl ⟨h,J⟩,hf.drawn,λ_ _ _=>J⟩
    . rcases h2 b hb with h|h
      . exact .inl h
      . exact .inr (.inl h.1)
    . unfold fE
      rw [show z.w.heap[x.σ id]?=x.w.heap[x.σ id]? from hkeep _ (hx.lt ho)]
  have hs:x.w.heap.size<=y.w.heap.size:=hf.size;refine ⟨⟨λb hb=>?_,λb id hb ho=>?_,λid ho=>?_,hx.inj,hx.tab_of hF⟩,hF⟩
  . rcases h2 b hb with h|h
    . have:=hx.zlt b h; show b < y.w.heap.size; omega
    . exact h.2
  . rcases h2 b hb with h|h
    . exact hx.zown b id h ho
    . have:=hx.lt ho
      intro e;have e':x.σ id=b:=e;omega
  . obtain ⟨cc,g1,g2,g3,g4⟩:=hx.blk id ho
    exact ⟨cc,by rw [show z.w.heap[x.σ id]?=x.w.heap[x.σ id]? from hkeep _ (hx.lt ho)]; exact g1,g2,g3,λr row j v hr hj=>(g4 r row j v hr hj).frame hx hF⟩
def bJ (P:Program) (f:Nat) (args:List V) (v:V):Prop:= ∀ H,fH P f args H v H
section
variable {P:Program} {op:Opt}
theorem bJ.roc {f:Nat} {args:List V} {v:V} (h:bJ P f args v) (H:aT):ROC P f args H v:=λH' _=>h H'
def V.scalar : V -> Bool
  | .int _ _=>true
  | .bool _=>true
  | .str _=>true
  | .agg cs => cs.all λv => match v with
    | .int _ _=>true
    | .bool _=>true
    | .str _=>true
    |_=>false
  | .tup cs => cs.all λv => match v with
    | .int _ _=>true
    | .bool _=>true
    | .str _=>true
    |_=>false
  |_=>false
theorem aNj {x y:Cx} {v:V} {c:Value} (h:R x v c) (hs:v.scalar=true):R y v c:=by
  have one: ∀ {u:V} {d:Value},R x u d->(match u with| .int _ _=>true| .bool _=>true| .str _=>true|_=>false)=true->R y u d:=by
    intro u d hu hb;cases hu <;> first|(simp at hb; done)|exact .int _ _|exact .bool _|exact .str _
  cases h with
  |int k n=>exact .int k n
  |bool b=>exact .bool b
  |str s=>exact .str s
  | agg cells cs hl hr =>
    simp only [V.scalar,List.all_eq_true] at hs;exact .agg cells cs hl λj v hj=>one (hr j v hj)<|hs v<|List.mem_of_getElem? hj
  | tup cells cs hl hr =>
    simp only [V.scalar,List.all_eq_true] at hs;exact .tup cells cs hl λj v hj=>one (hr j v hj)<|hs v<|List.mem_of_getElem? hj
  |_=>simp [V.scalar] at hs
end
end Go.Proofs.YtinpihlhcmpkhaaGreat


namespace Go.Proofs.YtinpihlhcmpkhaaGreat
open Go
def fR (z : Bool) (H : aT) : Nat -> V -> V
  |0,v=>v
  | n + 1, v => match v with
    | .nilsl=>if z then .sl [] else .nilsl
    | .ms id ver off len=>if (H id).live&&decide ((H id).ver=ver) then .sl ((((H id).rows.drop off).take len).map λr=>r.map (fR z H n)) else .ms id ver off len
    | .mp id ver row off => if (H id).own && decide ((H id).ver = ver) then match (H id).rows[row]? with
        |some r=>.pp ((r.drop off).map (fR z H n))
        |none=>.mp id ver row off
      else .mp id ver row off
    | .agg cs=>.agg (cs.map (fR z H n))
    | .tup vs=>.tup (vs.map (fR z H n))
    | .fn f a b=>.fn f (a.map (fR z H n)) (b.map (fR z H n))
    | .sl rows=>.sl (rows.map λr=>r.map (fR z H n))
    | .pp cells=>.pp (cells.map (fR z H n))
    |v=>v
theorem pT {α β:Type} {f:α->β} {l:List α} {j:Nat} {b:β} (h:(l.map f)[j]?=some b): ∃ a,l[j]?=some a/\b=f a:=by grind
variable {z:Bool}
theorem aMb {x : Cx} (hx : Inv x) : ∀ (n : Nat) {v : V} {c : Value}, R x v c -> R (xY x) (fR z x.H n v) c := by
  have hf:=(aEH hx).2;intro n
  induction n with
  |zero=>intro v c h; exact h.frame hx hf
  | succ n ih =>
    intro v c h;cases h with
    |int k n=>exact .int k n
    |bool b=>exact .bool b
    |str s=>exact .str s
    |nilsl=>cases z <;> simp only [fR] <;> first|exact .nilsl|exact .slnil
    |slnil=>exact .slnil
    |nilp=>exact .nilp
    |raw c hh=>exact .raw c hh
    |mm id ver b hv hh=>exact (R.mm id ver b hv hh).frame hx hf
    | agg cells cs hs hr =>
      refine .agg _ cs (by simpa using hs) λj v hj=>?_
      grind
    | tup vs cs hs hr =>
      refine .tup _ cs (by simpa using hs) λj v hj=>?_
      grind
    | fn f first caps fs cs hfs hcs hff hc =>
      refine .fn f _ _ fs cs (by simpa using hfs) (by simpa using hcs) (λj v hj=>?_) λj v hj=>?_
      . grind
      grind
    | sl rows a cap sz cs hc hm hz hsz hcell hh =>
      have key:=R.sl (x:=xY x) (rows.map λr=>r.map<|fR z x.H n) a cap sz cs (by simpa using hc) hm (λhne=>.inl (hz (by simpa using hne)))
        (λr hr=>by obtain ⟨r',hr',rfl⟩:=List.mem_map.1 hr; simpa using hsz r' hr')
        (λr row j v hr hj=>by
          obtain ⟨row',h1,rfl⟩:=pT hr;obtain ⟨v',h2,rfl⟩:=pT hj;exact hcell r row' j v' h1 h2)
        (λr row j v hr hj=>by
          grind)
      simpa [fR] using key
    | pp cells a cs hz hcell hh =>
      refine .pp _ a cs (λhne=>.inl (hz (by simpa using hne))) (λj v hj=>?_) λj v hj=>?_
      . obtain ⟨u,hu,rfl⟩:=pT hj
        exact hcell j u hu
      grind
    | mp id ver row off p hv hh hm =>
      simp only [fR];split
      . rename_i hc
        simp only [Bool.and_eq_true,decide_eq_true_eq] at hc;split
        . rename_i r hr
          obtain ⟨cc,g1,g2,g3,g4⟩:=hx.cel id hc.1<|hm hc.2 hc.1
          have e:=hh hc.2 hc.1;subst e;have hrow:=g2 r<|List.mem_of_getElem? hr
          have hlt:=(List.getElem?_eq_some_iff.1 hr).1;refine .pp _ _ (λj=>cc.getD (row*(x.H id).sz+off+j) undef) (λ_=>.inr ⟨id,hc.1,J⟩) (λj v hj=>?_) λj v hj=>?_
          . obtain ⟨u,hu,rfl⟩:=pT hj
            rw [List.getElem?_drop] at hu;have h9:=(iH g2 g3 hr hu).1;rw [Addr.add_lit];exact lL g1 OM
          grind
        . exact (R.mp id ver row off p hv hh hm).frame hx hf
      . exact (R.mp id ver row off p hv hh hm).frame hx hf
    | ms id ver off len b m cap hv hh hm =>
      simp only [fR];split
      . rename_i hc
        simp only [Bool.and_eq_true,decide_eq_true_eq] at hc;obtain ⟨e1,e2,e3,e4,e5,e6⟩:=hh hc.2 hc.1;subst e1;have hlen:(((x.H id).rows.drop off).take m).length=m:=by simp; omega
        cases ho:(x.H id).own with
        | false =>
          simp_all [R.sl0]
        | true =>
          obtain ⟨e7,e8⟩:=e5 ho;subst e7;obtain ⟨cc,h1,h2,h3,h4⟩:=hx.cel id ho<|hm hc.2 hc.1
          have hidx: ∀ (r:Nat) (row:List V),(((x.H id).rows.drop off).take m)[r]?=some row->(x.H id).rows[off+r]?=some row:=by
            grind
          have key:=R.sl (x:=xY x) ((((x.H id).rows.drop off).take m).map λr=>r.map<|fR z x.H n) ⟨x.σ id,off*(x.H id).sz,none⟩ cap (x.H id).sz
            (λk=>cc.getD (off*(x.H id).sz+k) undef) (by grind) e3 (λ_=>.inr ⟨id,ho,J⟩)
            (λr hr=>by
              grind)
            (λr row q v hr hj=>by
              obtain ⟨row',g1,rfl⟩:=pT hr;obtain ⟨v',g2,rfl⟩:=pT hj;have h8:=hidx _ _ g1;have h9:=(iH h2 h3 h8 g2).1;rw [Nat.add_mul] at h9;rw [Addr.add_lit];exact lL h1 OM)
            (λr row q v hr hj=>by
              grind)
          grind
      . exact (R.ms id ver off len b m cap hv hh hm).frame hx hf
section
variable {P:Program} {op:Opt}
theorem aHb (z : Bool) (n : Nat) {f : Nat} {fn : Func} {s : SF} (hf : P.funcs[f]? = some fn) (hs : lX P op fn = some s) (hn : (fn.name == "runtime.NumGoroutine") = false) {args : List V} {v : V}
    (hl:args.length<=s.n) (ha:gB args=true) (hv:v.pure=true) (hW:W P 0 s.body (xN s.res λu G=>fR z G n u=v) (T0 args) H0):bJ P f args v:=by
  intro H;refine ⟨uU hf hs hn,λx cs hxH hx hr=>?_⟩;subst hxH;have hI:=uB (x:=x) (Z:=x.Z) hx.zlt hx.tab;refine (aBG (x:=start x x.Z) hf hs hl hW hI (hr.pure_at ha J λ_ h=>h)).mono λe w' h=>?_;obtain ⟨c,u,y,h1,h2,h4,h5,h6,h7⟩:=h;obtain ⟨sI,sF⟩:=aEH h5;have hR:=aMb (z:=z) h5 n h6;rw [h4] at hR
  obtain ⟨zI,zF⟩:=back hx h7 h5 (Z':=(xY y).Z) (λb hb=>.inl (h7.zone b hb)) (λb hb=>by
    have hlt:b < y.w.heap.size:=sI.zlt b hb;rcases hb with hb|⟨id,ho,rfl⟩
    . rcases h7.zold b hb with h|h|⟨id,h,_⟩
      . exact .inl h
      . exact .inr ⟨h,hlt⟩
      . exact (wZ id h).elim
    . rcases h7.fresh id ho with ⟨h,_⟩|h
      . exact (wZ id h).elim
      . exact .inr ⟨h,hlt⟩)
  exact ⟨c,{w:=y.w,Z:=(xY y).Z,σ:=x.σ,H:=x.H},h1,h2,J,zI,hR.pure_at hv J λ_ h=>h,zF⟩
theorem aOM {H H' : aT} (hext : Ext H H') : ∀ (n : Nat) (v : V), (fR z H n v).pure = true -> fR z H' n v = fR z H n v := by
  intro n
  induction n with
  |zero=>intro v _; rfl
  | succ n ih =>
    have il: ∀ l:List V,gB (l.map<|fR z H n)=true->l.map (fR z H' n)=l.map (fR z H n):=λl hp=>
      List.map_congr_left λa ha=>ih a<|fN.1 hp _<|List.mem_map_of_mem ha
    have ill: ∀ l:List (List V),kF (l.map λr=>r.map<|fR z H n)=true->(l.map λr=>r.map<|fR z H' n)=l.map λr=>r.map (fR z H n):=λl hp=>
      List.map_congr_left λa ha=>il a<|kP.1 hp _<|List.mem_map_of_mem ha
    intro v hp;cases v with
    | ms id ver off len =>
      simp only [fR] at hp ⊢;split at hp
      . rename_i hc
        have hl:(H id).live=true:=by simp at hc; exact hc.1
        rw [hext id hl]
        grind [V.pure]
      . simp [V.pure] at hp
    | mp id ver row off =>
      simp only [fR] at hp ⊢;split at hp
      . rename_i hc
        have hl:(H id).live=true:=by grind [Blk.own]
        rw [hext id hl,if_pos hc,if_pos hc]
        grind [V.pure]
      . simp [V.pure] at hp
    |agg cs=>grind [fR,V.pure]
    |tup cs=>grind [fR,V.pure]
    |pp cs=>grind [fR,V.pure]
    |sl cs=>grind [fR,V.pure]
    | fn f a b =>
      grind [fR,V.pure]
    |_=>rfl
theorem bJ.lendz (z:Bool) (n:Nat) {f:Nat} {args:List V} {H:aT} {v:V} (h:bJ P f (args.map (fR z H n)) v) (hp:gB (args.map (fR z H n))=true) (hs:v.scalar=true):ROC P f args H v:=by
  intro H' hext;have h':=h H0;refine ⟨h'.1,λx cs hxH hx hr=>?_⟩;subst hxH;obtain ⟨sI,sF⟩:=aEH hx;have hI:=uB (x:=x) (Z:=(xY x).Z) sI.zlt sI.tab
  have hrr:RL (start x (xY x).Z) (args.map<|fR z H n) cs:=by
    refine ⟨by simpa using hr.1,λj v hj=>?_⟩;have hvp:=fN.1 hp v<|List.mem_of_getElem? hj
    obtain ⟨u,hu,rfl⟩:=pT hj;have:=aMb (z:=z) hx n<|hr.2 j u hu
    rw [aOM hext n u hvp] at this;exact this.pure_at hvp J λ_ h=>h
  refine (h'.2 (start x (xY x).Z) cs J hI hrr).mono λe w' hq=>?_;obtain ⟨c,y,h1,h2,h3,h4,h5,h6⟩:=hq;obtain ⟨zI,zF⟩:=back hx h6 h4 (Z':=x.Z) (λ_ h=>h) (λb h=>.inl h);exact ⟨c,{w:=y.w,Z:=x.Z,σ:=x.σ,H:=x.H},h1,h2,J,zI,aNj h5 hs,zF⟩
theorem aDe {H H':aT}: ∀ (n:Nat) (v:V),v.pure=true->fR z H' n v=fR z H n v/\(fR z H n v).pure=true:=by
  intro n
  induction n with
  |zero=>intro v h; exact ⟨rfl,h⟩
  | succ n ih =>
    have il: ∀ l:List V,gB l=true->l.map (fR z H' n)=l.map (fR z H n)/\gB (l.map<|fR z H n)=true:=λl hp=>
      ⟨List.map_congr_left λa ha=>(ih a<|fN.1 hp _ ha).1,fN.2 λv hv=>by obtain ⟨a,ha,rfl⟩:=List.mem_map.1 hv; exact (ih a<|fN.1 hp _ ha).2⟩
    have ill: ∀ l:List (List V),kF l=true->(l.map λr=>r.map<|fR z H' n)=(l.map λr=>r.map<|fR z H n)/\kF (l.map λr=>r.map<|fR z H n)=true:=λl hp=>
      ⟨List.map_congr_left λa ha=>(il a<|kP.1 hp _ ha).1,kP.2 λv hv=>by obtain ⟨a,ha,rfl⟩:=List.mem_map.1 hv; exact (il a<|kP.1 hp _ ha).2⟩
    intro v hv;cases v <;> simp only [V.pure,Bool.and_eq_true] at hv <;> simp only [fR,V.pure,Bool.and_eq_true,and_self]
    case nilsl=>cases z <;> simp [V.pure,kF]
    all_goals (grind)
theorem bJ.argz (z:Bool) (n:Nat) {f:Nat} {args:List V} {H:aT} {v:V} (h:bJ P f (args.map (fR z H n)) v) (hp:gB args=true):bJ P f args v:=by
  intro H1;have h':=h H1;refine ⟨h'.1,λx cs hxH hx hr=>h'.2 x cs hxH hx ⟨by simpa using hr.1,λj v hj=>?_⟩⟩;obtain ⟨u,hu,rfl⟩:=pT hj;have hup:=fN.1 hp u<|List.mem_of_getElem? hu
  have h1:R (start x x.Z) u (cs.getD j undef):=(hr.2 j u hu).pure_at hup J λ_ h=>h
  have h2:=aMb (z:=z) (uB (x:=x) (Z:=x.Z) hx.zlt hx.tab) n h1;rw [(aDe n u hup).1] at h2;refine h2.pure_at (aDe (H':=H) n u hup).2 J λb hb=>?_;rcases hb with hb|⟨id,ho,_⟩
  . exact hb
  . exact (wZ id ho).elim
theorem aJJ (z:Bool) (n:Nat) {f:Nat} {args us:List V} {H:aT} {v:V} {k:V->aT->Prop} (h:bJ P f us v) (ha:args.map (fR z H n)=us) (hp:gB us=true) (hs:gB args=true\/v.scalar=true)
    (hk:k v H):zP P false f args H k:=by
  subst ha;rcases hs with hs|hs
  . exact ⟨v,(h.argz z n hs).roc H,hk⟩
  . exact ⟨v,h.lendz z n hp hs,hk⟩
end
mutual
def V.canon:V->Bool
  | .sl rows=>hY rows
  | .pp cells=>fG cells
  | .agg cells=>fG cells
  | .tup vs=>fG vs
  | .fn _ a b=>fG a&&fG b
  | .ms _ _ _ _=>false
  | .mp _ _ _ _=>false
  | .mm _ _=>false
  | .int _ _=>true
  | .bool _=>true
  | .str _=>true
  | .nilsl=>false
  | .nilp=>true
  | .raw _=>true
def fG:List V->Bool
  |[]=>true
  |v::l=>v.canon&&fG l
def hY:List (List V)->Bool
  |[]=>true
  |r::l=>fG r&&hY l
end
theorem aB2 {l:List V}:fG l=true↔ ∀ v∈l,v.canon=true:=by induction l <;> grind [fG]
theorem aAU {l:List (List V)}:hY l=true↔ ∀ r∈l,fG r=true:=by induction l <;> grind [hY]
theorem dN {H:aT}: ∀ (n:Nat) (v:V),v.canon=true->fR z H n v=v:=by
  intro n
  induction n with
  |zero=>intro v _; rfl
  | succ n ih =>
    have il: ∀ l:List V,fG l=true->l.map (fR z H n)=l:=λl hp=>by
      conv=>rhs; rw [<- List.map_id l]
      grind [List.map_congr_left,aB2]
    have ill: ∀ l:List (List V),hY l=true->(l.map λr=>r.map<|fR z H n)=l:=λl hp=>by
      conv=>rhs; rw [<- List.map_id l]
      grind [List.map_congr_left,aAU]
    intro v hv;cases v <;> simp only [V.canon,Bool.and_eq_true] at hv <;> simp only [fR]
    all_goals (grind)
theorem eD {H:aT} (n:Nat) (l:List V) (h:fG l=true):l.map (fR z H n)=l:=by
  conv=>rhs; rw [<- List.map_id l]
  grind [List.map_congr_left,dN,aB2]
end Go.Proofs.YtinpihlhcmpkhaaGreat


namespace Go.Proofs.YtinpihlhcmpkhaaGreat
open Go
section
variable {P:Program} {k0:Nat} {Q:Ex->(Nat->V)->aT->Prop} {T:Nat->V} {H:aT}
theorem rQ {ops:List SO} {b:SC} (h: ∀ K:(Nat->V)->aT->Prop,(∀ T H,W P k0 b Q T H->K T H)->dE P k0 ops T H K):W P k0 (.seq (.reg ops) b) Q T H:=
  ⟨k0,h _ λ_ _ h=>.done h⟩
theorem aHJ {ops:List SO} {b:SC} {late:List Nat} (hl: ∀ d∈late,(H (k0+d)).live=false) (h: ∀ K:(Nat->V)->aT->Prop,(∀ T H,W P k0 b Q T H->K T H)->dE P k0 ops T H K):W P k0 (.seq (.dreg late ops) b) Q T H:=
  ⟨k0,hl,h _ λ_ _ h=>.done h⟩
theorem aFI {ops:List SO} {b:SC} (h: ∀ K:(Nat->V)->aT->Prop,(∀ T H,G (W P k0 b Q) T H->K T H)->dE P k0 ops T H K):W P k0 (.seq (.reg ops) b) Q T H:=
  ⟨k0,h _ λ_ _ h=>h⟩
theorem fM {a b c:SC} (h:W P k0 (.seq a (.seq b c)) Q T H):W P k0 (.seq (.seq a b) c) Q T H:=by
  simp only [W] at h ⊢;refine Eq.mp (congrArg (λq=>W P k0 a q T H) (funext λe=>funext λT=>funext λH=>?_)) h;cases e <;> rfl
theorem dH (h:Q .norm T H):W P k0 .skip Q T H:=h
theorem bE (h:Q .ret T H):W P k0 .ret Q T H:=h
theorem aPm {f:Nat} {args:List V} {v:V} {H':aT} {k:V->aT->Prop} (h:fH P f args H v H') (hk:k v H'):zP P true f args H k:=⟨v,H',h,hk⟩
theorem aB {b:SC} (h:W P k0 b Q T H):W P k0 (.seq .skip b) Q T H:=.done h
theorem aN {b:SC} (h:Q .ret T H):W P k0 (.seq .ret b) Q T H:=h
theorem aS {b:SC} {n:Nat} (h:Q (.exit n) T H):W P k0 (.seq (.exit n) b) Q T H:=h
theorem aCR {c:SX} {a b r:SC} {bb:Bool} (hc:asB (ev T c)=some bb) (h1:bb=true->W P k0 (.seq a r) Q T H) (h2:bb=false->W P k0 (.seq b r) Q T H):W P k0 (.seq (.cond c a b) r) Q T H:=by
  simp only [W,hc,jG] at h1 h2 ⊢;exact ⟨h1,h2⟩
theorem aNw {c:SX} {a b:SC} {bb:Bool} (hc:asB (ev T c)=some bb) (h1:bb=true->W P k0 a Q T H) (h2:bb=false->W P k0 b Q T H):W P k0 (.cond c a b) Q T H:=by
  simp only [W,hc,jG];exact ⟨h1,h2⟩
theorem iZ {id:Nat} {a:SC} (h: ∀ Q':Ex->(Nat->V)->aT->Prop,(∀ T H,Q .norm T H->Q' .norm T H)->(∀ T H,Q .norm T H->Q' (.exit id) T H)->(∀ T H,Q .ret T H->Q' .ret T H)->
    (∀ n T H,n≠id->Q (.exit n) T H->Q' (.exit n) T H)->W P k0 a Q' T H):W P k0 (.block id a) Q T H:=by
  simp only [W];refine h _ (λT H h=>h) (λT H h=>?_) (λT H h=>h) (λn T H hn h=>?_)
  . simp only [if_true]; exact h
  . simp only [if_neg hn]; exact h
theorem cF {a:SC} (I:Nat->(Nat->V)->aT->Prop) (h0: ∃ n,I n T H)
    (h: ∀ n T H,I n T H-> ∀ Q':Ex->(Nat->V)->aT->Prop,(∀ m T H,m < n->I m T H->Q' .norm T H)->(∀ T H,Q .ret T H->Q' .ret T H)->(∀ n T H,Q (.exit n) T H->Q' (.exit n) T H)->W P k0 a Q' T H):W P k0 (.loop a) Q T H:=by
  simp only [W];obtain ⟨n,h0⟩:=h0;exact ⟨I,n,h0,λn T H hI=>h n T H hI _ (λm T H h1 h2=>⟨m,h1,h2⟩) (λ_ _ h=>h) (λ_ _ _ h=>h)⟩
theorem aJr {a:SC} (I:Nat->(Nat->V)->aT->Prop) (h0: ∃ n,I n T H)
    (h: ∀ n T H,I n T H-> ∀ Q':Ex->(Nat->V)->aT->Prop,(∀ m T H,m < n->I m T H->Q' .norm T H)->(∀ T H,Q .ret T H->Q' .ret T H)->(∀ n T H,Q (.exit n) T H->Q' (.exit n) T H)->(∀ c T H,Q (.pan c) T H->Q' (.pan c) T H)->W P k0 a Q' T H):W P k0 (.loop a) Q T H:=by
  simp only [W];obtain ⟨n,h0⟩:=h0;exact ⟨I,n,h0,λn T H hI=>h n T H hI _ (λm T H h1 h2=>⟨m,h1,h2⟩) (λ_ _ h=>h) (λ_ _ _ h=>h) (λ_ _ _ h=>h)⟩
end
attribute [simp] rR jJ asB gd ev uF dE St qV aCM yD unV aCH aH1 aCc aK1 iE aL7 aGc mnV mxV ptr ldV aG1 nS pM vZ jA V.cells V.one ok xN T0 xS V.pure gB kF
def aA {α:Type} [Inhabited α] (l:List α) (k:Nat):α:=l.getD k default
theorem xA {α:Type} [Inhabited α] {l:List α} {k:Nat} (h:k < l.length):l[k]?=some (aA l k):=by
  simp [aA,h]
theorem bL {α:Type} [Inhabited α] {l:List α} {k:Nat} (h:k < l.length):l[k]=aA l k:=by
  simp [aA,h]
theorem tY {α:Type} [Inhabited α] {l:List α} {k:Nat} (h:k < l.length):l.drop k=aA l k::l.drop (k+1):=by
  rw [<- bL h]; exact List.drop_eq_getElem_cons h
abbrev iV (n:Int):V:=.int .i64 n
abbrev cI (n:Int):List V:=[.int .i64 n]
abbrev aD (l:List Int):V:=.sl (l.map cI)
abbrev cL (l:List Int):List V:=[aD l]
abbrev aC (l:List (List Int)):V:=.sl (l.map cL)
@[simp] theorem aJZ {α : Type} [Inhabited α] (f : α -> List V) (l : List α) (k : Int) (h0 : 0 <= k) (h : k < l.length) : aIV (l.map f) k = some (f (aA l k.toNat)) := by
  have:k.toNat < l.length:=OM
  simp [aIV,h0,xA this]
@[simp] theorem aSQ {α : Type} [Inhabited α] (H : aT) (e : Nat) (f : α -> List V) (l : List α) (kd : IntKind) (k : Int) (h0 : 0 <= k) (h : k < l.length) (he : ∀ a, (f a).length = e) :
    xQ H e (.sl (l.map f)) (.int kd k)=some (.pp (f<|aA l k.toNat)):=by
  simp [xQ,aJZ f l k h0 h,he]
@[simp] theorem aIN {n:Int} (h1: -9223372036854775808<=n) (h2:n < 9223372036854775808):IntKind.i64.wrap n=n:=IntWalk.i64_in n ⟨OM,OM⟩
@[simp] theorem aHa {α : Type} (f : α -> List V) (l : List α) (h : ∀ a, gB (f a) = true) : kF (l.map f) = true := by
  rw [kP]; intro r hr; obtain ⟨a,_,rfl⟩:=List.mem_map.1 hr; exact h a
@[simp] theorem aL0 (r:List (List V)):(V.sl r).canon=hY r:=by rw [V.canon]
@[simp] theorem aR2 (r:List V):(V.pp r).canon=fG r:=by rw [V.canon]
@[simp] theorem aRK (r:List V):(V.agg r).canon=fG r:=by rw [V.canon]
@[simp] theorem aRO (r:List V):(V.tup r).canon=fG r:=by rw [V.canon]
@[simp] theorem aSB (f:Nat) (a b:List V):(V.fn f a b).canon=(fG a&&fG b):=by rw [V.canon]
@[simp] theorem aR7 (a b c d:Nat):(V.ms a b c d).canon=false:=by rw [V.canon]
@[simp] theorem aSj (a b c d:Nat):(V.mp a b c d).canon=false:=by rw [V.canon]
@[simp] theorem aRN (k:IntKind) (n:Int):(V.int k n).canon=true:=by rw [V.canon]
@[simp] theorem aRk (b:Bool):(V.bool b).canon=true:=by rw [V.canon]
@[simp] theorem aRM (s:List UInt8):(V.str s).canon=true:=by rw [V.canon]
@[simp] theorem aQa:V.nilsl.canon=false:=by rw [V.canon]
@[simp] theorem aQW:V.nilp.canon=true:=by rw [V.canon]
@[simp] theorem aRL (c:Value):(V.raw c).canon=true:=by rw [V.canon]
@[simp] theorem aQO:fG []=true:=by rw [fG]
@[simp] theorem aP0 (v:V) (l:List V):fG (v::l)=(v.canon&&fG l):=by rw [fG]
@[simp] theorem aQj:hY []=true:=by rw [hY]
@[simp] theorem aOH (v:List V) (l:List (List V)):hY (v::l)=(fG v&&hY l):=by rw [hY]
@[simp] theorem aQB {z:Bool} {H:aT} {n:Nat} {v:V} (h:v.canon=true):fR z H n v=v:=dN n v h
theorem iW {α:Type} (f:α->List V) (l:List α) (h: ∀ a,fG (f a)=true):hY (l.map f)=true:=by
  rw [aAU]; intro r hr; obtain ⟨a,_,rfl⟩:=List.mem_map.1 hr; exact h a
@[simp] theorem aN8 (l:List Int):hY (l.map cI)=true:=iW _ _ λa=>by simp [cI]
@[simp] theorem aNR (l:List (List Int)):hY (l.map cL)=true:=iW _ _ λa=>by simp [cL]
end Go.Proofs.YtinpihlhcmpkhaaGreat


namespace Go.Proofs.YtinpihlhcmpkhaaGreat
open Go
structure XF where
  s:SF
  fz:List (Nat×Nat)
abbrev aJK:=Bool->Nat->List V->aT->Option (V×aT)
structure PrimA where
  a:Nat->Nat->List V->aT->Option (V×Blk)
  p:Nat->List V->Option V
def exX (call : aJK) (qa : PrimA) (id : Nat) (x : X) (T : Nat -> V) (H : aT) : Option (V × aT) :=
  match x with
  | .mv a=>some (ev T a,H)
  | .lazy ty sz=>some (.ms id ((H id).ver+1) 0 0,cU H id ⟨(H id).ver+1,true,true,ty,sz,[]⟩)
  | .pick c a b => match asB (ev T c) with
    |some bb=>some (if bb then ev T a else ev T b,H)
    |none=>none
  | .alloc ty z=>some (.mp id ((H id).ver+1) 0 0,cU H id ⟨(H id).ver+1,true,false,ty,z.length,[z]⟩)
  | .box ty _ a=>some (.mp id ((H id).ver+1) 0 0,cU H id ⟨(H id).ver+1,true,false,ty,(ev T a).cells.length,[(ev T a).cells]⟩)
  | .build z ps=>(bld z (ps.map λp=>(p.1,p.2.1,ev T p.2.2))).map λcs=>(.agg cs,H)
  | .bslice ty esz own z len ps=>(uR esz (List.replicate len z) (ps.map λp=>(p.1,ev T p.2))).map λrows=>
      if own then (.ms id ((H id).ver+1) 0 rows.length,cU H id ⟨(H id).ver+1,true,false,ty,esz,rows⟩) else (.sl rows,H)
  | .load agg n a=>((ptr H (ev T a)).bind (ldV agg n)).map λv=>(v,H)
  | .ldp agg n a=>((aN0 (ev T a)).bind (ldV agg n)).map λv=>(v,H)
  | .store n a b=>(stP H n (ev T b).cells (ev T a)).map λH'=>(.raw undef,H')
  | .bin op a b=>(qV op (ev T a) (ev T b)).map λv=>(v,H)
  | .sbin op a b=>(aCM op (ev T a) (ev T b)).map λv=>(v,H)
  | .bbin op a b=>(yD op (ev T a) (ev T b)).map λv=>(v,H)
  | .abin neg q a b=>(aBQ neg q (ev T a) (ev T b)).map λv=>(v,H)
  | .un op a=>(unV op (ev T a)).map λv=>(v,H)
  | .conv kd a=>(aCH kd (ev T a)).map λv=>(v,H)
  | .fld off a=>(aH1 off (ev T a)).map λv=>(v,H)
  | .part agg off n a=>(aCc agg off n (ev T a)).map λv=>(v,H)
  | .idx esz a i=>(xQ H esz (ev T a) (ev T i)).map λv=>(v,H)
  | .sidx a i=>(aJB (ev T a) (ev T i)).map λv=>(v,H)
  | .aidx agg n len a i=>(aFU agg n len (ev T a) (ev T i)).map λv=>(v,H)
  | .apos n len a i=>(aIZ n len (ev T a) (ev T i)).map λv=>(v,H)
  | .slice esz a lo hi=>(oX H esz (lo.map (ev T)) (hi.map (ev T)) (ev T a)).map λv=>(v,H)
  | .sslice a lo hi=>(aBl (lo.map (ev T)) (hi.map (ev T)) (ev T a)).map λv=>(v,H)
  | .mks ty esz bytes z l c=>(aBa bytes (ev T l) (ev T c)).map λn=>
      (.ms id ((H id).ver+1) 0 n.1,cU H id ⟨(H id).ver+1,true,false,ty,esz,List.replicate n.1 z⟩)
  | .ext a i=>(aL7 i (ev T a)).map λv=>(v,H)
  | .mkf f caps=>some (.fn f [] (uF T caps),H)
  | .bstr a=>(aIn (ev T a)).map λv=>(v,H)
  | .mkm f a b=>some (.fn f (uF T a) (uF T b),H)
  | .mki ty a=>(aPg (ev T a)).map λc=>(.raw (.iface ty c),H)
  | .tas ty a=>(aPG ty (ev T a)).map λv=>(v,H)
  | .nilck a=>(aIb (ev T a)).map λv=>(v,H)
  | .len a=>(aG1 H (ev T a)).map λv=>(v,H)
  | .clr z a=>(aMh H z (ev T a)).map λH'=>(.tup [],H')
  | .cpy n a b=>(aLe H n (ev T b) (ev T a)).map λp=>(.int .i64 p.1,p.2)
  | .slen a=>(aGc (ev T a)).map λv=>(v,H)
  | .mn a b=>(mnV (ev T a) (ev T b)).map λv=>(v,H)
  | .mn3 a b c=>((mnV (ev T a) (ev T b)).bind λu=>mnV u (ev T c)).map λv=>(v,H)
  | .mx a b=>(mxV (ev T a) (ev T b)).map λv=>(v,H)
  | .append ty esz bytes s a => match ev T s with
    | .ms i ver off len => if (H i).live && decide ((H i).ver = ver) then if off = 0 then if len = (H i).rows.length then if (H i).ty = ty then if (H i).sz = esz then
        match aAI H (ev T a) with
        | some new => if eV esz new = true then if (len + new.length) * bytes <= 140737488355328 then if len + new.length <= 9223372036854775807 then
            some (.ms i (ver+1) 0 (len+new.length),cU H i {H i with ver:=ver+1,rows:=(H i).rows++new})
          else none else none else none
        |none=>none
        else none else none else none else none else none
    |_=>none
  | .call true f args=>call true f (uF T args) H
  | .call false f args => match qa.p f (uF T args) with
    |some v=>some (v,H)
    |none=>call false f (uF T args) H
  | .callA f args=>(qa.a id f (uF T args) H).map λp=>(p.1,cU H id p.2)
  | .callv e g args => match ev T g with
    | .fn f first caps=>call e f (first++uF T args++caps) H
    |_=>none
  | .isnil neg a => match ev T a with
    | .nilsl=>some (.bool (!neg),H)
    | .sl (_::_)=>some (.bool neg,H)
    |_=>none
  | .mkmap=>some (.mm id ((H id).ver+1),cU H id ⟨(H id).ver+1,true,true,aSJ,2,[[.nilp,.nilp]]⟩)
  | .mlook kd ok z m x=>(aLF H kd z (ev T m) (ev T x)).map λp=>(if ok then .tup [p.1,.bool p.2] else p.1,H)
  | .mset kd m x v=>(aPO H kd (ev T m) (ev T x) (ev T v)).map λH'=>(.raw undef,H')
  | .mlen a=>(aP6 H (ev T a)).map λv=>(v,H)
  | .bad=>none
def aDG (call : aJK) (qa : PrimA) (k0 : Nat) : List SO -> (Nat -> V) -> aT -> Option ((Nat -> V) × aT)
  |[],T,H=>some (T,H)
  | o :: r, T, H => match o.g with
    | none => match exX call qa (k0 + o.d.getD 0) o.x T H with
      |some (v,H')=>aDG call qa k0 r (jJ T o.d v) H'
      |none=>none
    | some (t, want) => match gd want (T t) with
      |true=>match exX call qa (k0+o.d.getD 0) o.x T H with
          |some (v,H')=>aDG call qa k0 r (jJ T o.d v) H'
          |none=>none
      |false=>aDG call qa k0 r (jJ T o.d (.raw undef)) H
def aQd (H:aT) (d k0:Nat):Nat->Nat
  |0=>k0
  |n+1=>if (H (k0+d)).live then aQd H d (k0+65536) n else k0
def kOf (k0:Nat) (fz:List (Nat×Nat)) (H:aT) (ops:List SO):Nat:=match fz.find? (λp=>decide (1000003<=p.2)&&decide (p.2 < 1000000000)&&ops.any λo=>o.d==some p.1) with
  |some p=>aQd H (p.2 - 1000003) k0 200
  |none=>k0
structure LzA where
  id':Nat
  ty:Nat
  sz:Nat
  id:Nat
  off:Nat
def aRR (k0 c:Nat):Nat ⊕ LzA:=if c < 1000000000 then .inl (k0+c) else
  .inr ⟨k0+(c - 1000000000) / 1000000000,(c / 1000000) % 1000,(c / 100000) % 10,k0+(c / 100) % 1000,c % 100⟩
def aL8 (k0 : Nat) (fz : List (Nat × Nat)) : SC -> List (Nat ⊕ LzA)
  | .reg ops | .dreg _ ops | .xreg _ ops => ops.foldr (λo l => match o.d with
    |some d=>(fz.filter (λp=>p.1==d&& !(decide (1000003<=p.2)&&decide (p.2 < 1000000000)))).map (λp=>aRR k0 p.2)++l
    |none=>l) []
  | .seq a _=>aL8 k0 fz a
  |_=>[]
inductive LzR where
  |no
  |nl (H:aT)
  |fc (id:Nat) (H:aT)
  |fp (s:Nat) (v:V) (H:aT)
def aSS (a : LzA) (T : Nat -> V) (H : aT) : LzR := match Nat.beq a.ty 999 with
  | true => match T (a.id' - a.id) with
    | .mp id ver row off => if (H id).ver = ver /\ (H id).own = true then match (H id).rows[row]? with
        |some r=>.fp (a.id' - a.id) (.pp (r.drop off)) (mF id H)
        |none=>.no
      else .no
    |_=>.no
  | false => match (H a.id).rows with
    | r :: _ => match r[a.off]? with
      |some .nilsl=>if a.id'≠a.id/\(H a.id).own=true/\a.ty < 4294967296 then
          .nl (cU (cU H a.id' ⟨(H a.id').ver+1,true,true,a.ty,a.sz,[]⟩) a.id {H a.id with rows:=(H a.id).rows.set 0 (r.set a.off (.ms a.id' ((H a.id').ver+1) 0 0))}) else .no
      |some (.ms i ver 0 len)=>if i≠a.id'/\a.id≠i/\(H i).live=true/\(H i).ver=ver/\(H a.id).own=true then
          .fc i (cU (mF i H) a.id {H a.id with rows:=(H a.id).rows.set 0 (r.set a.off (.sl ((H i).rows.take len)))}) else .no
      |_=>.no
    |[]=>.no
def lzC (a : LzA) (T : Nat -> V) (H : aT) : LzR := match Nat.beq a.ty 998 with
  | true => match (H a.id).rows[(H a.id).rows.length - 1]? with
    | some r => match r[a.off]? with
      |some (.ms i ver 0 len)=>if a.id≠i/\(H i).live=true/\(H i).ver=ver/\(H a.id).own=true then
          .fc i (cU (mF i H) a.id {H a.id with rows:=(H a.id).rows.set ((H a.id).rows.length - 1) (r.set a.off (.sl ((H i).rows.take len)))}) else .no
      |_=>.no
    |none=>.no
  |false=>aSS a T H
def frz : List (Nat ⊕ LzA) -> (Nat -> V) -> aT -> (Nat -> V) × aT
  |[],T,H=>(T,H)
  | .inl id::l,T,H=>frz l (fzT id H T) (mF id H)
  | .inr a :: l, T, H => match lzC a T H with
    | .no=>frz l T H
    | .nl H'=>frz l T H'
    | .fc i H'=>frz l (fzT i H T) H'
    | .fp s v H'=>frz l (cU T s v) H'
abbrev aLC:=Nat->Nat->List (Nat×Nat)->SC->(Nat->V)->aT->Option (Ex×(Nat->V)×aT)
abbrev aRs:=Nat->List V->aT->Option (V×aT)
def aNK (F : Nat -> Option XF) (run : aLC) (k1 : Nat) : aJK := λe f args H => match F f with
  |none=>none
  | some g => if args.length <= g.s.n then match e with
    | true => match run k1 g.s.n g.fz g.s.body (T0 args) H with
      |some (.exit _,_,_)=>none
      |some (.pan _,_,_)=>none
      |some (_,T',H')=>(vZ g.s.res T' H').map λv=>(v,H')
      |none=>none
    | false => if gB (args.map (fR false H 4)) then match run 0 g.s.n g.fz g.s.body (T0 (args.map (fR false H 4))) H0 with
        |some (.exit _,_,_)=>none
        |some (.pan _,_,_)=>none
        | some (_, T', H') => match vZ g.s.res T' H' with
          |some u=>if (fR false H' 6 u).pure then if gB args||(fR false H' 6 u).scalar then some (fR false H' 6 u,H) else none else none
          |none=>none
        |none=>none
      else none
    else none
def aLx (q : aRs) (F : Nat -> Option XF) (run : aLC) (k1 : Nat) : aJK := λe f args H => match e with
  | true => match q f args H with
    |some r=>some r
    |none=>aNK F run k1 true f args H
  |false=>aNK F run k1 false f args H
def aSY (q : aRs) (qa : PrimA) (F : Nat -> Option XF) (run : aLC) : aLC := λk0 n fz c T H => match c with
  | .skip=>some (.norm,T,H)
  | .ret=>some (.ret,T,H)
  | .exit j=>some (.exit j,T,H)
  | .pop _ _=>none
  | .reg ops=>(aDG (aLx q F run (kOf k0 fz H ops+n)) qa (kOf k0 fz H ops) ops T H).map λp=>(.norm,p.1,p.2)
  | .dreg late ops=>if late.all (λd=> !(H (kOf k0 fz H ops+d)).live) then (aDG (aLx q F run (kOf k0 fz H ops+n)) qa (kOf k0 fz H ops) ops T H).map λp=>(.norm,p.1,p.2) else none
  | .xreg ps ops => match aDG (aLx q F run (kOf k0 fz H ops + n)) qa (kOf k0 fz H ops) ops T H with
    |some (T',H')=>if ddB ps ops T'=true then some (.norm,T',H') else none
    |none=>none
  | .seq a b => match run k0 n fz a T H with
    |some (.norm,T',H')=>run k0 n fz b (frz (aL8 k0 fz b) T' H').1 (frz (aL8 k0 fz b) T' H').2
    |r=>r
  | .cond c a b => match asB (ev T c) with
    |some true=>run k0 n fz a T H
    |some false=>run k0 n fz b T H
    |none=>none
  | .block id a => match run k0 n fz a T H with
    |some (.exit j,T',H')=>if j=id then some (.norm,T',H') else some (.exit j,T',H')
    |r=>r
  | .loop a => match run k0 n fz a T H with
    |some (.norm,T',H')=>run k0 n fz (.loop a) T' H'
    |r=>r
def run (q:aRs) (qa:PrimA) (F:Nat->Option XF) (m:Nat):aLC:=Nat.rec (λ_ _ _ _ _ _=>none) (λ_ ih=>aSY q qa F ih) m
end Go.Proofs.YtinpihlhcmpkhaaGreat


namespace Go.Proofs.YtinpihlhcmpkhaaGreat
open Go
def ldB (agg:Bool) (n:Nat) (B:Blk) (ver row off:Nat):Option V:=if (B.own&&decide (B.ver=ver))=true then (B.rows[row]?).bind λr=>ldV agg n (r.drop off) else none
def okB (B:Blk) (ver:Nat):Bool:=B.own&&decide (B.ver=ver)
def stB (B : Blk) (ver row off n : Nat) (vs : List V) : Option Blk := if okB B ver = true then if vs.length = n then if vs.all V.one = true then match B.rows[row]? with
    |some r=>if off+n<=r.length then some {B with rows:=B.rows.set row (iO r off vs)} else none
    |none=>none
  else none else none else none
section
variable {P:Program} {k0:Nat} {K:(Nat->V)->aT->Prop} {T:Nat->V} {H:aT} {r:List SO} {d:Nat} {a b c:SX} {v u:V}
theorem gD (h:K T H):dE P k0 [] T H K:=h
theorem aI (ha:ev T a=v) (h:dE P k0 r (cU T d v) H K):dE P k0 (⟨none,some d,.mv a⟩::r) T H K:=by subst ha; exact h
theorem iD {i n ty sz:Nat} (hi:k0+d=i) (hv:(H i).ver=n) (h:dE P k0 r (cU T d (.ms i (n+1) 0 0)) (cU H i ⟨n+1,true,true,ty,sz,[]⟩) K):dE P k0 (⟨none,some d,.lazy ty sz⟩::r) T H K:=by subst hi; subst hv; exact h
theorem bX {i n ty m:Nat} {z:List V} (hi:k0+d=i) (hv:(H i).ver=n) (hm:z.length=m) (h:dE P k0 r (cU T d (.mp i (n+1) 0 0)) (cU H i ⟨n+1,true,false,ty,m,[z]⟩) K):dE P k0 (⟨none,some d,.alloc ty z⟩::r) T H K:=by simp_all
theorem cJ {i n ty q m:Nat} {cs:List V} (hi:k0+d=i) (hv:(H i).ver=n) (ha:ev T a=v) (hc:v.cells=cs) (hm:cs.length=m) (h:dE P k0 r (cU T d (.mp i (n+1) 0 0)) (cU H i ⟨n+1,true,false,ty,m,[cs]⟩) K):
    dE P k0 (⟨none,some d,.box ty q a⟩::r) T H K:=by simp_all
theorem aEb {α:Type} {o:Option α} {x:α} {k:α->Prop} (ho:o=some x) (h:k x):oU o k:=by rw [ho]; exact h
theorem stp {q:X} {o:Option V} (hS: ∀ k:V->aT->Prop,St P (k0+d) q T H k=oU o λv=>k v H) (ho:o=some v) (h:dE P k0 r (cU T d v) H K):dE P k0 (⟨none,some d,q⟩::r) T H K:=by simp only [dE,Option.getD_some,hS,ho,jG]; exact h
theorem aJ {agg:Bool} {n:Nat} {cs:List V} (ha:ev T a=.pp cs) (hg:ldV agg n cs=some v) (h:dE P k0 r (cU T d v) H K):dE P k0 (⟨none,some d,.load agg n a⟩::r) T H K:=by simp_all
theorem cG {agg:Bool} {n id ver row off:Nat} {B:Blk} (ha:ev T a=.mp id ver row off) (hH:H id=B) (hg:ldB agg n B ver row off=some v) (h:dE P k0 r (cU T d v) H K):dE P k0 (⟨none,some d,.load agg n a⟩::r) T H K:=by
  subst hH;refine stp (v:=v) (λ_=>J) ?_ h
  grind [ptr,ldB,ok]
theorem dY {off:Nat} {cs cs':List V} (ha:ev T a=.pp cs) (hd:cs.drop off=cs') (h:dE P k0 r (cU T d (.pp cs')) H K):dE P k0 (⟨none,some d,.fld off a⟩::r) T H K:=by simp_all
theorem aNM {off id ver row o o':Nat} {B:Blk} (ha:ev T a=.mp id ver row o) (hH:H id=B) (hok:okB B ver=true) (ho:o+off=o') (h:dE P k0 r (cU T d (.mp id ver row o')) H K):dE P k0 (⟨none,some d,.fld off a⟩::r) T H K:=by simp_all
theorem cZ {n id ver row off:Nat} {B B':Blk} {vs:List V} (ha:ev T a=.mp id ver row off) (hb:ev T b=v) (hc:v.cells=vs) (hH:H id=B) (hst:stB B ver row off n vs=some B') (h:dE P k0 r T (cU H id B') K):
    dE P k0 (⟨none,none,.store n a b⟩::r) T H K:=by
  subst hH; subst hc; subst hb;simp only [dE,St];refine aEb (x:=cU H id B') ?_ h
  grind [stB,stP,ok,okB]
theorem gK {id ver row o:Nat} {B:Blk} (ha:ev T a=.mp id ver row o) (hH:H id=B) (hok:okB B ver=true) (h:dE P k0 r (cU T d (.mp id ver row o)) H K):dE P k0 (⟨none,some d,.nilck a⟩::r) T H K:=by
  subst hH;refine stp (v:=.mp id ver row o) (λ_=>J) ?_ h;rw [ha]; rfl
theorem gL {cs:List V} (ha:ev T a=.pp cs) (h:dE P k0 r (cU T d (.pp cs)) H K):dE P k0 (⟨none,some d,.nilck a⟩::r) T H K:=by
  refine stp (v:=.pp cs) (λ_=>J) ?_ h;rw [ha]; rfl
variable {x y:Int}
theorem aLk {op:BinOp} {w:V} (ha:ev T a=u) (hb:ev T b=w) (hg:qV op u w=some v) (h:dE P k0 r (cU T d v) H K):dE P k0 (⟨none,some d,.bin op a b⟩::r) T H K:=by simp_all
theorem aM7 (ha:ev T a=iV x) (hb:ev T b=iV y) (h1: -9223372036854775808<=x+y) (h2:x+y < 9223372036854775808) (h:dE P k0 r (cU T d (iV (x+y))) H K):dE P k0 (⟨none,some d,.bin .add a b⟩::r) T H K:=by simp_all
theorem wU {m n:Nat} (ha:ev T a=iV (m:Nat)) (hb:ev T b=iV (n:Nat)) (h2:m+n < 9223372036854775808) (h:dE P k0 r (cU T d (iV ((m+n:Nat):Int))) H K):dE P k0 (⟨none,some d,.bin .add a b⟩::r) T H K:=by grind [aM7]
theorem lS (ha:ev T a=iV x) (hb:ev T b=iV y) (h1: -9223372036854775808<=x - y) (h2:x - y < 9223372036854775808) (h:dE P k0 r (cU T d (iV (x - y))) H K):dE P k0 (⟨none,some d,.bin .sub a b⟩::r) T H K:=by simp_all
theorem aP1 (ha:ev T a=iV x) (hb:ev T b=iV y) (h1: -9223372036854775808<=x*y) (h2:x*y < 9223372036854775808) (h:dE P k0 r (cU T d (iV (x*y))) H K):dE P k0 (⟨none,some d,.bin .mul a b⟩::r) T H K:=by simp_all
theorem bY (ha:ev T a=iV x) (hb:ev T b=iV y) (h:dE P k0 r (cU T d (.bool (decide (x < y)))) H K):dE P k0 (⟨none,some d,.bin .lss a b⟩::r) T H K:=by simp_all
theorem aC4 (ha:ev T a=iV x) (hb:ev T b=iV y) (h:dE P k0 r (cU T d (.bool (decide (x<=y)))) H K):dE P k0 (⟨none,some d,.bin .leq a b⟩::r) T H K:=by simp_all
theorem fZ (ha:ev T a=iV x) (hb:ev T b=iV y) (h:dE P k0 r (cU T d (.bool (decide (y < x)))) H K):dE P k0 (⟨none,some d,.bin .gtr a b⟩::r) T H K:=by simp_all
theorem jB (ha:ev T a=iV x) (hb:ev T b=iV y) (h:dE P k0 r (cU T d (.bool (decide (y<=x)))) H K):dE P k0 (⟨none,some d,.bin .geq a b⟩::r) T H K:=by simp_all
theorem fP (ha:ev T a=iV x) (hb:ev T b=iV y) (h:dE P k0 r (cU T d (.bool (decide (x=y)))) H K):dE P k0 (⟨none,some d,.bin .eql a b⟩::r) T H K:=aLk ha hb (by grind [qV]) h
theorem cA (ha:ev T a=iV x) (hb:ev T b=iV y) (h:dE P k0 r (cU T d (.bool (decide (x≠y)))) H K):dE P k0 (⟨none,some d,.bin .neq a b⟩::r) T H K:=aLk ha hb (by grind [qV]) h
theorem uQ {p:Prop} [Decidable p] (ha:ev T a=.bool (decide p)) (h:dE P k0 r (cU T d (.bool (decide (¬p)))) H K):dE P k0 (⟨none,some d,.un .not a⟩::r) T H K:=by simp_all
theorem jS {q:Bool} (ha:ev T a=.bool q) (h:dE P k0 r (cU T d (.bool (!q))) H K):dE P k0 (⟨none,some d,.un .not a⟩::r) T H K:=by simp_all
theorem aM2 {m n:Nat} (ha:ev T a=iV (m:Nat)) (hb:ev T b=iV (n:Nat)) (h:dE P k0 r (cU T d (iV ((min m n:Nat):Int))) H K):dE P k0 (⟨none,some d,.mn a b⟩::r) T H K:=by
  refine stp (v:=iV ((min m n:Nat):Int)) (λ_=>J) ?_ h
  grind [mnV]
theorem bP (hc:ev T c=.bool true) (ha:ev T a=v) (h:dE P k0 r (cU T d v) H K):dE P k0 (⟨none,some d,.pick c a b⟩::r) T H K:=by simp_all
theorem bO (hc:ev T c=.bool false) (hb:ev T b=v) (h:dE P k0 r (cU T d v) H K):dE P k0 (⟨none,some d,.pick c a b⟩::r) T H K:=by simp_all
theorem aNN {α:Type} [Inhabited α] {e:Nat} {l:List α} {f:α->List V} {k:IntKind} {i:Nat} (ha:ev T a=.sl (l.map f)) (hb:ev T b=.int k (i:Nat)) (hi:i < l.length) (he:(f (aA l i)).length=e)
    (h:dE P k0 r (cU T d (.pp (f<|aA l i))) H K):dE P k0 (⟨none,some d,.idx e a b⟩::r) T H K:=by simp_all [xQ]
theorem dQ {α:Type} [Inhabited α] {e:Nat} {l:List α} {f:α->List V} {k:IntKind} {i:Int} (ha:ev T a=.sl (l.map f)) (hb:ev T b=.int k i) (h0:0<=i) (hi:i < l.length) (he:(f (aA l i.toNat)).length=e)
    (h:dE P k0 r (cU T d (.pp (f<|aA l i.toNat))) H K):dE P k0 (⟨none,some d,.idx e a b⟩::r) T H K:=by simp_all [xQ]
theorem pE {e id ver off len i:Nat} {B:Blk} {k:IntKind} (ha:ev T a=.ms id ver off len) (hb:ev T b=.int k (i:Nat)) (hH:H id=B) (hok:okB B ver=true) (hs:B.sz=e) (hi:i < len)
    (h:dE P k0 r (cU T d (.mp id ver (off+i) 0)) H K):dE P k0 (⟨none,some d,.idx e a b⟩::r) T H K:=by
  subst hH;refine stp (v:=.mp id ver (off+i) 0) (λ_=>J) ?_ h;rw [ha,hb];simp only [xQ];rw [if_pos (show ok H id ver=true from hok),if_pos hs,if_pos OM];simp
theorem bA {α:Type} {l:List α} {f:α->List V} (ha:ev T a=.sl (l.map f)) (h:dE P k0 r (cU T d (iV (l.length:Nat))) H K):dE P k0 (⟨none,some d,.len a⟩::r) T H K:=by simp_all
theorem aKS {rows:List (List V)} {n:Nat} (ha:ev T a=.sl rows) (hn:rows.length=n) (h:dE P k0 r (cU T d (iV (n:Nat))) H K):dE P k0 (⟨none,some d,.len a⟩::r) T H K:=by simp_all
theorem eS {id ver off len:Nat} {B:Blk} (ha:ev T a=.ms id ver off len) (hH:H id=B) (hok:(B.live&&decide (B.ver=ver))=true) (h:dE P k0 r (cU T d (iV (len:Nat))) H K):dE P k0 (⟨none,some d,.len a⟩::r) T H K:=by simp_all
theorem aEm {α:Type} {f:α->List V} {e:Nat} (he: ∀ x,(f x).length=e) (l:List α) {lo hi:Nat} {olo ohi:Option V} (h1:iE 0 olo=some lo) (h2:iE l.length ohi=some hi) (h3:lo<=hi) (h4:hi<=l.length):
    oX H e olo ohi (.sl (l.map f))=some (.sl (((l.take hi).drop lo).map f)):=by grind [oX,List.map_drop,List.map_take]
theorem kT {α:Type} {e n:Nat} {l:List α} {f:α->List V} {k:IntKind} {x:SX} (ha:ev T a=.sl (l.map f)) (hx:ev T x=.int k (n:Nat)) (hn:n<=l.length) (he: ∀ x,(f x).length=e)
    (h:dE P k0 r (cU T d (.sl ((l.drop n).map f))) H K):dE P k0 (⟨none,some d,.slice e a (some x) none⟩::r) T H K:=by simp_all [aEm]
theorem sE {α:Type} {e n:Nat} {l:List α} {f:α->List V} {k:IntKind} {x:SX} (ha:ev T a=.sl (l.map f)) (hx:ev T x=.int k (n:Nat)) (hn:n<=l.length) (he: ∀ x,(f x).length=e)
    (h:dE P k0 r (cU T d (.sl ((l.take n).map f))) H K):dE P k0 (⟨none,some d,.slice e a none (some x)⟩::r) T H K:=by simp_all [aEm]
theorem aHg {α:Type} {e m n:Nat} {l:List α} {f:α->List V} {k k':IntKind} {x y:SX} (ha:ev T a=.sl (l.map f)) (hx:ev T x=.int k (m:Nat)) (hy:ev T y=.int k' (n:Nat)) (hm:m<=n) (hn:n<=l.length) (he: ∀ x,(f x).length=e)
    (h:dE P k0 r (cU T d (.sl (((l.take n).drop m).map f))) H K):dE P k0 (⟨none,some d,.slice e a (some x) (some y)⟩::r) T H K:=by simp_all [aEm]
theorem bZ {z cs:List V} {ps:List (Nat×Nat×SX)} {qs:List (Nat×Nat×V)} (hq:ps.map (λp=>(p.1,p.2.1,ev T p.2.2))=qs) (hb:bld z qs=some cs) (h:dE P k0 r (cU T d (.agg cs)) H K):dE P k0 (⟨none,some d,.build z ps⟩::r) T H K:=by simp_all
theorem aY {ty e len:Nat} {z:List V} {ps:List (Nat×SX)} {qs:List (Nat×V)} {rows:List (List V)} (hq:ps.map (λp=>(p.1,ev T p.2))=qs) (hb:uR e (List.replicate len z) qs=some rows) (h:dE P k0 r (cU T d (.sl rows)) H K):
    dE P k0 (⟨none,some d,.bslice ty e false z len ps⟩::r) T H K:=by simp_all
theorem gA {ty e len i n:Nat} {z:List V} {ps:List (Nat×SX)} {qs:List (Nat×V)} {rows:List (List V)} (hi:k0+d=i) (hv:(H i).ver=n) (hq:ps.map (λp=>(p.1,ev T p.2))=qs) (hb:uR e (List.replicate len z) qs=some rows)
    (h:dE P k0 r (cU T d (.ms i (n+1) 0 rows.length)) (cU H i ⟨n+1,true,false,ty,e,rows⟩) K):dE P k0 (⟨none,some d,.bslice ty e true z len ps⟩::r) T H K:=by simp_all
theorem aAS {ty e bytes i n:Nat} {z:List V} {m q:Nat} (hi:k0+d=i) (hv:(H i).ver=n) (ha:ev T a=iV (m:Nat)) (hb:ev T b=iV (q:Nat)) (h1:m<=q) (h2:q*bytes<=281474976710656) (h3:q<=9223372036854775807)
    (h:dE P k0 r (cU T d (.ms i (n+1) 0 m)) (cU H i ⟨n+1,true,false,ty,e,List.replicate m z⟩) K):dE P k0 (⟨none,some d,.mks ty e bytes z a b⟩::r) T H K:=by
  subst hi; subst hv
  have e:aBa bytes (iV (m:Nat)) (iV (q:Nat))=some (m,q):=by
    grind [aBa]
  simp_all
theorem aLA {H:aT} {v:V} {new:List (List V)} (h:nS H v=some new):aAI H v=some new:=by cases v <;> first|exact h|(simp [nS] at h)
theorem aB1 {ty e bytes id ver len:Nat} {lz:Bool} {rows new:List (List V)} (ha:ev T a=.ms id ver 0 len) (hH:H id=⟨ver,true,lz,ty,e,rows⟩) (hl:len=rows.length) (hn:nS H (ev T b)=some new) (hf:eV e new=true)
    (h1:(len+new.length)*bytes<=140737488355328) (h2:len+new.length<=9223372036854775807)
    (h:dE P k0 r (cU T d (.ms id (ver+1) 0 (len+new.length))) (cU H id ⟨ver+1,true,lz,ty,e,rows++new⟩) K):dE P k0 (⟨none,some d,.append ty e bytes a b⟩::r) T H K:=by simp_all [aLA]
theorem aOE {α:Type} {f:α->List V} {e:Nat} {x:α} (he:(f x).length=e) (h1:(f x).all V.one=true):eV e [f x]=true:=by simp [eV,he,h1]
theorem aKR {α:Type} {ty e bytes id ver n:Nat} {lz:Bool} {l:List α} {f:α->List V} {x:α} (ha:ev T a=.ms id ver 0 n) (hH:H id=⟨ver,true,lz,ty,e,l.map f⟩) (hn:n=l.length) (hb:ev T b=.sl [f x]) (he:(f x).length=e) (h1:(f x).all V.one=true)
    (h2:(n+1)*bytes<=140737488355328) (h3:n+1<=9223372036854775807)
    (h:dE P k0 r (cU T d (.ms id (ver+1) 0 (n+1))) (cU H id ⟨ver+1,true,lz,ty,e,(l++[x]).map f⟩) K):dE P k0 (⟨none,some d,.append ty e bytes a b⟩::r) T H K:=by
  refine aB1 ha hH (by simpa using hn) (new:=[f x]) (by rw [hb]; rfl) (aOE he h1) (by simpa using h2) (by simpa using h3) ?_;rw [List.map_append] at h;exact h
theorem sA {α:Type} {ty e bytes id ver n:Nat} {lz:Bool} {l m:List α} {f:α->List V} (ha:ev T a=.ms id ver 0 n) (hH:H id=⟨ver,true,lz,ty,e,l.map f⟩) (hn:n=l.length) (hb:ev T b=.sl (m.map f)) (he: ∀ x,(f x).length=e) (h1: ∀ x,(f x).all V.one=true)
    (h2:(n+m.length)*bytes<=140737488355328) (h3:n+m.length<=9223372036854775807)
    (h:dE P k0 r (cU T d (.ms id (ver+1) 0 (n+m.length))) (cU H id ⟨ver+1,true,lz,ty,e,(l++m).map f⟩) K):dE P k0 (⟨none,some d,.append ty e bytes a b⟩::r) T H K:=by
  refine aB1 ha hH (by simpa using hn) (new:=m.map f) (by rw [hb]; rfl) ?_ (by simpa using h2) (by simpa using h3) ?_
  . grind [eV]
  grind
theorem kS {f:Nat} {args:List SX} {as0 us:List V} (he:uF T args=as0) (hc:bJ P f us v) (ha:as0.map (fR true H 6)=us) (hp:gB us=true) (hs:gB as0=true\/v.scalar=true) (h:dE P k0 r (cU T d v) H K):
    dE P k0 (⟨none,some d,.call false f args⟩::r) T H K:=by
  subst he;exact aJJ true 6 (k:=λv H'=>dE P k0 r (cU T d v) H' K) hc ha hp hs h
theorem iP {f:Nat} {first caps:List V} {g:SX} {args:List SX} {as0 us:List V} (hg:ev T g=.fn f first caps) (he:uF T args=as0) (hc:bJ P f us v) (ha:(first++as0++caps).map (fR true H 6)=us) (hp:gB us=true)
    (hs:gB (first++as0++caps)=true\/v.scalar=true) (h:dE P k0 r (cU T d v) H K):dE P k0 (⟨none,some d,.callv false g args⟩::r) T H K:=by
  subst he;simp only [dE,St];rw [hg];exact aJJ true 6 hc ha hp hs h
theorem gO {f:Nat} {args:List SX} {as0:List V} {H':aT} (he:uF T args=as0) (hc:fH P f as0 H v H') (h:dE P k0 r (cU T d v) H' K):dE P k0 (⟨none,some d,.call true f args⟩::r) T H K:=by
  subst he;exact aPm hc h
theorem aBg {f i n:Nat} {args:List SX} {as0:List V} {B:Blk} (hi:k0+d=i) (hv:(H i).ver=n) (he:uF T args=as0) (hl:B.live=true) (hc: ∀ H2:aT,(H2 i).ver=n->fH P f as0 H2 v (cU H2 i B)) (h:dE P k0 r (cU T d v) (cU H i B) K):dE P k0 (⟨none,some d,.callA f args⟩::r) T H K:=by
  subst he; subst hi;exact ⟨v,B,hl,λH2 h2=>hc H2 ((congrArg Blk.ver h2).trans hv),h⟩
theorem bR {i:Nat} {vs:List V} (ha:ev T a=.tup vs) (hi:vs[i]?=some v) (h:dE P k0 r (cU T d v) H K):dE P k0 (⟨none,some d,.ext a i⟩::r) T H K:=by simp_all
theorem zX {f:Nat} {caps:List SX} {cs:List V} (he:uF T caps=cs) (h:dE P k0 r (cU T d (.fn f [] cs)) H K):dE P k0 (⟨none,some d,.mkf f caps⟩::r) T H K:=by subst he; exact h
theorem wM {neg:Bool} {rows:List (List V)} (ha:ev T a=.sl rows) (h1:rows=[]->dE P k0 r (cU T d (.bool (!neg))) H K) (h2:dE P k0 r (cU T d (.bool neg)) H K):dE P k0 (⟨none,some d,.isnil neg a⟩::r) T H K:=by simp_all
theorem aK {t:Nat} {w:Bool} {od:Option Nat} {q:X} (ht:T t=.bool w) (h:dE P k0 (⟨none,od,q⟩::r) T H K):dE P k0 (⟨some (t,w),od,q⟩::r) T H K:=by grind [dE,gd]
theorem aSX {t:Nat} {w w':Bool} {q:X} (ht:T t=.bool w') (hw:w'≠w) (h:dE P k0 r (cU T d (.raw undef)) H K):dE P k0 (⟨some (t,w),some d,q⟩::r) T H K:=by simp_all
theorem aHr (a b:List SO):dE P k0 (a++b) T H K↔dE P k0 a T H λT H=>dE P k0 b T H K:=by induction a generalizing T H <;> grind [dE]
theorem bN (n:Nat) {ops:List SO} (R:(Nat->V)->aT->Prop) (h1:dE P k0 (ops.take n) T H R) (h2: ∀ T' H',R T' H'->dE P k0 (ops.drop n) T' H' K):dE P k0 ops T H K:=by grind [List.take_append_drop,aHr,kK]
theorem bD {α:Type} {T A:Nat->α} {l:List Nat} (h: ∀ j,j∉l->A j=T j) {d:Nat} {v:α} (hd:d∈l): ∀ j,j∉l->cU A d v j=T j:=by grind [bT]
theorem fB {p q:Prop} [Decidable p] [Decidable q] (hp:p):V.bool true=V.bool (decide (p\/q)):=by simp [hp]
theorem fC {p q:Prop} [Decidable p] [Decidable q] (hp: ¬p):V.bool (decide q)=V.bool (decide (p\/q)):=by simp [hp]
theorem eX {p q:Prop} [Decidable p] [Decidable q] (hp: ¬p):V.bool false=V.bool (decide (p/\q)):=by simp [hp]
theorem eY {p q:Prop} [Decidable p] [Decidable q] (hp:p):V.bool (decide q)=V.bool (decide (p/\q)):=by simp [hp]
end
section
variable {P:Program} {k0:Nat} {Q:Ex->(Nat->V)->aT->Prop} {T:Nat->V} {H:aT}
theorem aG {c:SX} {a b r:SC} {p:Prop} [Decidable p] (hc:ev T c=.bool (decide p)) (h1:p->W P k0 (.seq a r) Q T H) (h2: ¬p->W P k0 (.seq b r) Q T H):W P k0 (.seq (.cond c a b) r) Q T H:=by simp_all [aCR]
theorem gE {c:SX} {a b:SC} {p:Prop} [Decidable p] (hc:ev T c=.bool (decide p)) (h1:p->W P k0 a Q T H) (h2: ¬p->W P k0 b Q T H):W P k0 (.cond c a b) Q T H:=by simp_all [aNw]
theorem dW {c:SX} {a b r:SC} {q:Bool} (hc:ev T c=.bool q) (h1:q=true->W P k0 (.seq a r) Q T H) (h2:q=false->W P k0 (.seq b r) Q T H):W P k0 (.seq (.cond c a b) r) Q T H:=by simp_all [aCR]
theorem pS {c:SX} {a b:SC} {q:Bool} (hc:ev T c=.bool q) (h1:q=true->W P k0 a Q T H) (h2:q=false->W P k0 b Q T H):W P k0 (.cond c a b) Q T H:=by simp_all [aNw]
theorem eZ {ops:List SO} {b:SC} (R:(Nat->V)->aT->Prop) (h:dE P k0 ops T H R) (hk: ∀ T H,R T H->W P k0 b Q T H):W P k0 (.seq (.reg ops) b) Q T H:=by grind [rQ,kK]
theorem aA4 {ops:List SO} {b:SC} {late:List Nat} (R:(Nat->V)->aT->Prop) (hl: ∀ d∈late,(H (k0+d)).live=false) (h:dE P k0 ops T H R) (hk: ∀ T H,R T H->W P k0 b Q T H):W P k0 (.seq (.dreg late ops) b) Q T H:=by grind [aHJ,kK]
theorem tR {ops:List SO} (R:(Nat->V)->aT->Prop) (h:dE P k0 ops T H R) (hk: ∀ T H,R T H->Q .norm T H):W P k0 (.reg ops) Q T H:=
  ⟨k0,kK hk h⟩
theorem aW {t:Nat} {u v:V} {n:Nat} (h1:T t=u) (h2:fR true H n u=v):xN [.tmp t] (λu G=>fR true G n u=v) .ret T H:=by grind [xN,vZ,jA,pM,jG]
theorem lE {t1 t2:Nat} {u1 u2 v1 v2:V} {n:Nat} (h1:T t1=u1) (h2:T t2=u2) (g1:fR true H n u1=v1) (g2:fR true H n u2=v2):xN [.tmp t1,.tmp t2] (λu G=>fR true G (n+1) u=.tup [v1,v2]) .ret T H:=by simp_all [fR]
theorem rU {t1 t2 t3:Nat} {u1 u2 u3 v1 v2 v3:V} {n:Nat} (h1:T t1=u1) (h2:T t2=u2) (h3:T t3=u3) (g1:fR true H n u1=v1) (g2:fR true H n u2=v2) (g3:fR true H n u3=v3):
    xN [.tmp t1,.tmp t2,.tmp t3] (λu G=>fR true G (n+1) u=.tup [v1,v2,v3]) .ret T H:=by simp_all [fR]
theorem aH {n:Nat} {x y:Int} (h:x=y):fR true H n (iV x)=iV y:=by simp_all
theorem cK {n:Nat} {x y:Bool} (h:x=y):fR true H n (.bool x)=.bool y:=by simp_all
theorem dM {α:Type} {n:Nat} {f:α->List V} {l m:List α} (h:l=m) (hc: ∀ a,fG (f a)=true):fR true H n (.sl (l.map f))=.sl (m.map f):=by grind [dN,aL0,iW]
theorem cC {α:Type} {n:Nat} {f:α->List V} {m:List α} (h:m=[]):fR true H (n+1) .nilsl=.sl (m.map f):=by subst h; rfl
theorem mI {α:Type} {n id ver len:Nat} {B:Blk} {f:α->List V} {l m:List α} (hH:H id=B) (hok:(B.live&&decide (B.ver=ver))=true) (hr:B.rows=l.map f) (hl:len=l.length) (hc: ∀ a,fG (f a)=true) (h:l=m):
    fR true H (n+1) (.ms id ver 0 len)=.sl (m.map f):=by
  subst hH; subst hl; subst h;have hx:List.take l.length (List.map f l)=List.map f l:=by rw [show l.length=(l.map f).length by simp,List.take_length]
  grind [fR,List.map_congr_left,eD]
theorem eA {n:Nat} {u v:V} (hc:u.canon=true) (h:u=v):fR true H n u=v:=by rw [dN n _ hc,h]
end
theorem fL {R:(Nat->V)->aT->Prop} {K:(Nat->V)->aT->Prop} {T:Nat->V} {H:aT} (h:R T H) (hk: ∀ T H,R T H->K T H):K T H:=hk T H h
theorem cO {α β:Type} {g:α->β} {a:α} {b:β} {l:List α} {m:List β} (h1:g a=b) (h2:l.map g=m):(a::l).map g=b::m:=by subst h1; subst h2; rfl
theorem bI {T:Nat->V} {a:SX} {v:V} {l:List SX} {m:List V} (h1:ev T a=v) (h2:uF T l=m):uF T (a::l)=v::m:=by subst h1; subst h2; rfl
theorem dR {T:Nat->V}:uF T []=[]:=J
end Go.Proofs.YtinpihlhcmpkhaaGreat


namespace Go.Proofs.YtinpihlhcmpkhaaGreat
open Go
section
variable {P:Program} {k0:Nat} {Q:Ex->(Nat->V)->aT->Prop} {T:Nat->V} {H:aT}
theorem aOk {ops:List SO} {b:SC} (R:(Nat->V)->aT->Prop) (h:dE P k0 ops T H R) (hk: ∀ T H,R T H->G (W P k0 b Q) T H):W P k0 (.seq (.reg ops) b) Q T H:=
  aFI λ_ hK=>kK (λT H hr=>hK T H<|hk T H hr) h
theorem aNn {ops:List SO} {b:SC} {late:List Nat} (R:(Nat->V)->aT->Prop) (hl: ∀ d∈late,(H (k0+d)).live=false) (h:dE P k0 ops T H R) (hk: ∀ T H,R T H->G (W P k0 b Q) T H):W P k0 (.seq (.dreg late ops) b) Q T H:=
  ⟨k0,hl,kK (λT H hr=>hk T H hr) h⟩
theorem aF {id:Nat} {a r:SC} (h: ∀ Q':Ex->(Nat->V)->aT->Prop,(∀ T H,G (W P k0 r Q) T H->Q' .norm T H)->(∀ T H,G (W P k0 r Q) T H->Q' (.exit id) T H)->(∀ T H,Q .ret T H->Q' .ret T H)->
    (∀ n T H,n≠id->Q (.exit n) T H->Q' (.exit n) T H)->W P k0 a Q' T H):W P k0 (.seq (.block id a) r) Q T H:=by
  simp only [W];refine h _ (λT H h=>h) (λT H h=>?_) (λT H h=>h) (λn T H hn h=>?_)
  . simp only [if_true]; exact h
  . simp only [if_neg hn]; exact h
end
section
variable {P:Program} {k0:Nat} {K:(Nat->V)->aT->Prop} {T:Nat->V} {H:aT} {r:List SO} {d:Nat} {a b:SX}
theorem aQH {c:SX} {m n q:Nat} (ha:ev T a=iV (m:Nat)) (hb:ev T b=iV (n:Nat)) (hc:ev T c=iV (q:Nat)) (h:dE P k0 r (cU T d (iV ((min (min m n) q:Nat):Int))) H K):dE P k0 (⟨none,some d,.mn3 a b c⟩::r) T H K:=by
  refine stp (v:=iV ((min (min m n) q:Nat):Int)) (λ_=>J) ?_ h;rw [ha,hb,hc];simp only [mnV,Option.bind_some];congr 2;split <;> split <;> omega
theorem aAr {e id ver off len:Nat} {i:Int} {B:Blk} {k:IntKind} (ha:ev T a=.ms id ver off len) (hb:ev T b=.int k i) (hH:H id=B) (hok:okB B ver=true) (hs:B.sz=e) (h0:0<=i) (hi:i < len)
    (h:dE P k0 r (cU T d (.mp id ver (off+i.toNat) 0)) H K):dE P k0 (⟨none,some d,.idx e a b⟩::r) T H K:=by
  subst hH;refine stp (v:=.mp id ver (off+i.toNat) 0) (λ_=>J) ?_ h;rw [ha,hb];simp only [xQ];rw [if_pos (show ok H id ver=true from hok),if_pos hs,if_pos ⟨h0,hi⟩]
theorem aQx {x y:Bool} (ha:ev T a=.bool x) (hb:ev T b=.bool y) (h:dE P k0 r (cU T d (.bool (x != y))) H K):dE P k0 (⟨none,some d,.bbin .neq a b⟩::r) T H K:=by
  refine stp (v:=.bool (x != y)) (λ_=>J) ?_ h;rw [ha,hb]; rfl
end
theorem fJ {α:Type} {ver ty sz:Nat} {lz:Bool} {f:α->List V} {l:List α} (h:0 < l.length):okB ⟨ver,true,lz,ty,sz,l.map f⟩ ver=true:=by
  cases l with
  |nil=>simp at h
  |cons a l=>simp [okB,Blk.own]
theorem dU {α:Type} [Inhabited α] {agg:Bool} {n ver ty sz i off:Nat} {lz:Bool} {f:α->List V} {l:List α} {v:V} (h:i < l.length) (hg:ldV agg n ((f (aA l i)).drop off)=some v):
    ldB agg n ⟨ver,true,lz,ty,sz,l.map f⟩ ver i off=some v:=by
  unfold ldB;rw [if_pos (show (_&&_)=true from fJ OM)];simp only [List.getElem?_map,xA h,Option.map_some,Option.bind_some];exact hg
theorem rD {x:Int} (h:0<=x):iV x=iV ((x.toNat:Nat):Int):=by rw [Int.toNat_of_nonneg h]
theorem uK {x y:Bool} (h:x=true):V.bool true=V.bool (x||y):=by rw [h]; rfl
theorem uG {x y:Bool} (h: ¬x=true):V.bool y=V.bool (x||y):=by rw [Bool.eq_false_iff.2 h]; rfl
theorem aMN {x y:Bool} (h:x=true):V.bool y=V.bool (x&&y):=by rw [h]; rfl
theorem aLM {x y:Bool} (h: ¬x=true):V.bool false=V.bool (x&&y):=by rw [Bool.eq_false_iff.2 h]; rfl
theorem aP8 {p:Prop} [Decidable p] {y:Bool} (h:p):V.bool true=V.bool (decide p||y):=by simp [h]
theorem aQo {p:Prop} [Decidable p] {y:Bool} (h: ¬p):V.bool y=V.bool (decide p||y):=by simp [h]
theorem aFq {p:Prop} [Decidable p] {y:Bool} (h:p):V.bool y=V.bool (decide p&&y):=by simp [h]
theorem aEM {p:Prop} [Decidable p] {y:Bool} (h: ¬p):V.bool false=V.bool (decide p&&y):=by simp [h]
def fzq (id:Nat) (H:aT):V->V
  | .ms j ver off len=>if j=id/\(H id).live=true/\(H id).ver=ver then .sl (((H id).rows.drop off).take len) else .ms j ver off len
  |v=>v
theorem aX {id:Nat} {H:aT} {T:Nat->V} {i:Nat} {v u:V} (h:T i=v) (hu:fzq id H v=u):fzT id H T i=u:=by
  subst hu; subst h;unfold fzT fzq;cases hT:T i <;> simp only
theorem mW {α:Type} {id ver len:Nat} {H:aT} {B:Blk} {f:α->List V} {l:List α} (hH:H id=B) (hok:(B.live&&decide (B.ver=ver))=true) (hr:B.rows=l.map f) (hl:len=l.length):
    fzq id H (.ms id ver 0 len)=.sl (l.map f):=by
  subst hH;simp only [Bool.and_eq_true,decide_eq_true_eq] at hok;simp only [fzq];rw [if_pos ⟨trivial,hok.1,hok.2⟩,hr,List.drop_zero,hl];congr 1;rw [show l.length=(l.map f).length by simp,List.take_length]
theorem dV {id j ver off len:Nat} {H:aT} (h:j≠id):fzq id H (.ms j ver off len)=.ms j ver off len:=by
  simp only [fzq]; rw [if_neg (λe=>h e.1)]
theorem aQ {id j:Nat} {H:aT} {B:Blk} (h:H j=B) (hn:j≠id):mF id H j=B:=by subst h; simp [mF,hn]
theorem nK {id j:Nat} {H:aT} {n:Nat} (h:(H j).ver=n):(mF id H j).ver=n:=by subst h; unfold mF; by_cases e:j=id <;> simp [e]
theorem mY {id:Nat} {H Hi:aT} {l:List Nat} (h: ∀ j,j∉l->H j=Hi j) (hd:id∈l): ∀ j,j∉l->mF id H j=Hi j:=by
  intro j hj;have:j≠id:=λe=>hj (by rw [e]; exact hd)
  simp only [mF,bT _ _ this]; exact h j hj
mutual
def V.bnd:V->Bool
  | .sl rows=>decide (rows.length<=9223372036854775807)&&aCK rows
  | .pp cells=>lI cells
  | .agg cells=>lI cells
  | .tup vs=>lI vs
  | .fn _ a b=>lI a&&lI b
  | .ms _ _ _ _=>true
  | .mp _ _ _ _=>true
  | .mm _ _=>true
  | .int _ _=>true
  | .bool _=>true
  | .str _=>true
  | .nilsl=>true
  | .nilp=>true
  | .raw _=>true
def lI:List V->Bool
  |[]=>true
  |v::l=>v.bnd&&lI l
def aCK:List (List V)->Bool
  |[]=>true
  |r::l=>lI r&&aCK l
end
theorem aGB {l:List V}:lI l=true↔ ∀ v∈l,v.bnd=true:=by
  induction l with
  |nil=>simp [lI]
  |cons v l ih=>simp [lI,ih]
theorem aDl {l:List (List V)}:aCK l=true↔ ∀ r∈l,lI r=true:=by
  induction l with
  |nil=>simp [aCK]
  |cons v l ih=>simp [aCK,ih]
theorem R.bnd {x:Cx} {v:V} {c:Value} (h:R x v c):v.bnd=true:=by
  have all: ∀ {l:List V},(∀ (j:Nat) (v:V),l[j]?=some v->v.bnd=true)->lI l=true:=λ{l} h=>
    aGB.2 λv hv=>by obtain ⟨j,hj⟩:=List.getElem?_of_mem hv; exact h j v hj
  induction h with
  | sl rows a cap sz cs hc hm hz hsz hcell _ ih =>
    simp only [V.bnd,Bool.and_eq_true,decide_eq_true_eq];have:maxLen=9223372036854775807:=J;refine ⟨OM,aDl.2 λr hr=>?_⟩;obtain ⟨k,hk⟩:=List.getElem?_of_mem hr;exact all λj v hj=>ih k r j v hk hj
  |slnil=>simp [V.bnd,aCK]
  |pp cells a cs hzz hcell _ ih=>simp only [V.bnd]; exact all ih
  |agg cells cs hs _ ih=>simp only [V.bnd]; exact all ih
  |tup cells cs hs _ ih=>simp only [V.bnd]; exact all ih
  |fn f first caps fs cs hfs hcs _ _ ih1 ih2=>simp only [V.bnd,Bool.and_eq_true]; exact ⟨all ih1,all ih2⟩
  |_=>simp [V.bnd]
theorem RL.bnd {x:Cx} {vs:List V} {cs:List Value} (h:RL x vs cs):lI vs=true:=
  aGB.2 λv hv=>by obtain ⟨j,hj⟩:=List.getElem?_of_mem hv; exact (h.2 j v hj).bnd
theorem mL {P : Program} {op : Opt} (z : Bool) (n : Nat) {f : Nat} {fn : Func} {s : SF} (hf : P.funcs[f]? = some fn) (hs : lX P op fn = some s) (hn : (fn.name == "runtime.NumGoroutine") = false) {args : List V} {v : V}
    (hl:args.length<=s.n) (ha:gB args=true) (hv:v.pure=true) (hW:lI args=true->W P 0 s.body (xN s.res λu G=>fR z G n u=v) (T0 args) H0):bJ P f args v:=λH=>
  ⟨uU hf hs hn,λx cs hxH hx hr=>(aHb z n hf hs hn hl ha hv (hW hr.bnd) H).2 x cs hxH hx hr⟩
theorem aKy {α:Type} [Inhabited α] {f:α->List V} {l:List α}:aCK (l.map f)=true↔ ∀ k,k < l.length->lI (f (aA l k))=true:=by
  rw [aDl];constructor
  . intro h k hk; exact h _<|List.mem_map_of_mem (by rw [<- bL hk]; exact List.getElem_mem hk)
  . intro h r hr
    obtain ⟨a,ha,rfl⟩:=List.mem_map.1 hr;obtain ⟨k,hk,rfl⟩:=List.getElem_of_mem ha;rw [bL hk]; exact h k hk
theorem mD {α:Type} [Inhabited α] {f:α->List V} {l:List α}:(V.sl (l.map f)).bnd=true↔l.length<=9223372036854775807/\ ∀ k,k < l.length->lI (f (aA l k))=true:=by
  simp only [V.bnd,Bool.and_eq_true,decide_eq_true_eq,List.length_map,aKy]
theorem lP (k:IntKind) (n:Int):(V.int k n).bnd=true:=by simp [V.bnd]
theorem jO (b:Bool):(V.bool b).bnd=true:=by simp [V.bnd]
theorem lV (s:List UInt8):(V.str s).bnd=true:=by simp [V.bnd]
theorem mB {l:List V}:(V.agg l).bnd=lI l:=by simp [V.bnd]
theorem pC {l:List V}:(V.pp l).bnd=lI l:=by simp [V.bnd]
theorem lT:lI []=true:=by simp [lI]
theorem jR {v:V} {l:List V}:lI (v::l)=true↔v.bnd=true/\lI l=true:=by simp [lI]
end Go.Proofs.YtinpihlhcmpkhaaGreat


namespace Go.Proofs.YtinpihlhcmpkhaaGreat
open Go
theorem aOl {α:Type} {n:Nat} {p:Nat->α->Prop} (h: ∀ i,i < n-> ∃ a,p i a): ∃ l:List α,l.length=n/\ ∀ i a,l[i]?=some a->p i a:=by
  induction n with
  |zero=>simp_all
  | succ n ih =>
    obtain ⟨l,h1,h2⟩:=ih λi hi=>h i OM
    obtain ⟨b,hb⟩:=h n OM;refine ⟨l++[b],by simp [h1],λi a hi=>?_⟩
    grind
def aHc (P:Program) (all:Nat):Nat->List Field->Bool
  |off,[]=>decide (off=all)
  |off,f::r=>decide (f.offset=off)&&aHc P all (off+P.cellsOf f.type) r
def okT (P : Program) : Nat -> TypeId -> Bool
  |0,_=>false
  | n + 1, t => match P.underlying t with
    |some .bool=>true
    |some (.int _)=>true
    |some .string=>true
    |some (.slice e)=>okT P n e&&decide (P.cellsOf e≠0)
    |some (.struct fs)=>fs.toList.all (λf=>okT P n f.type)&&aHc P (P.cellsOf t) 0 fs.toList
    |some (.array m e)=>okT P n e&&decide (m*P.cellsOf e=P.cellsOf t)
    |_=>false
def aHO (S:TypeId->List V->Prop):List Field->List V->Prop
  |[],vs=>vs=[]
  |f::r,vs=> ∃ a b,vs=a++b/\S f.type a/\aHO S r b
def aQ1 (S:List V->Prop):Nat->List V->Prop
  |0,vs=>vs=[]
  |k+1,vs=> ∃ a b,vs=a++b/\S a/\aQ1 S k b
def Shp (P : Program) : Nat -> TypeId -> List V -> Prop
  |0,_,_=>False
  | n + 1, t, vs => match P.underlying t with
    |some .bool=> ∃ b,vs=[.bool b]
    |some (.int k)=> ∃ m,vs=[.int k m]/\(Lit.int k m).wf=true
    |some .string=> ∃ s,vs=[.str s]
    |some (.slice e)=> ∃ rows,vs=[.sl rows]/\ ∀ r∈rows,Shp P n e r
    |some (.struct fs)=>aHO (Shp P n) fs.toList vs
    |some (.array m e)=>aQ1 (Shp P n e) m vs
    |_=>False
def RC (x:Cx) (vs:List V) (cs:List Value):Prop:=vs.length=cs.length/\ ∀ j v,vs[j]?=some v->R x v (cs.getD j undef)
theorem aDa {x:Cx} {a b:List V} {c d:List Value} (h1:RC x a c) (h2:RC x b d):RC x (a++b) (c++d):=by
  refine ⟨by simp [h1.1,h2.1],λj v hj=>?_⟩;rw [List.getElem?_append] at hj;rw [List.getD_eq_getElem?_getD,List.getElem?_append,<- h1.1];split at hj
  . rename_i hlt
    rw [if_pos hlt,<- List.getD_eq_getElem?_getD]; exact h1.2 j v hj
  . rename_i hlt
    rw [if_neg hlt,<- List.getD_eq_getElem?_getD]; exact h2.2 _ v hj
section
variable {H:Type} {enc:TypeId×Value->H} {P:Program} {base:Nat} {spare:Nat->Bool} {held:Bool}
theorem aRd {x : Cx} (hZ : ∀ b, b < x.w.heap.size -> x.Z b) : ∀ (n : Nat) (t : TypeId), okT P n t = true -> ∀ (fuel : Nat) (cs : List Value) (y : DataW H × List MemPlace), DataW.trod enc P x.w base spare held fuel t cs = some y ->
    ∃ vs,Shp P n t vs/\RC x vs cs:=by
  intro n
  induction n with
  |zero=>intro t h; cases h
  | succ n ih =>
    intro t hok fuel cs y hy
    have one: ∀ {v:V} {c:Value},R x v c->RC x [v] [c]:=λ{v c} h=>⟨J,λj u hj=>by
      grind⟩
    simp only [okT] at hok;simp only [Shp];split at hok
    . rename_i ht
      obtain ⟨b,rfl,_⟩:=DataW.trod_bool ht hy;exact ⟨[.bool b],⟨b,J⟩,one (.bool b)⟩
    . rename_i k ht
      obtain ⟨m,rfl,_,hw⟩:=DataW.trod_int ht hy;exact ⟨[.int k m],⟨m,J,hw⟩,one (.int k m)⟩
    . rename_i ht
      obtain ⟨s,rfl,_⟩:=DataW.trod_string ht hy;exact ⟨[.str s.data.toList],⟨_,J⟩,one (R.str s.data.toList)⟩
    . rename_i e ht
      simp only [Bool.and_eq_true,decide_eq_true_eq] at hok;obtain ⟨hok,hnz⟩:=hok;rcases DataW.trod_slice ht hy with ⟨rfl,_⟩|⟨a,len,cap,elems,rest,m,_,rfl,_,hb,hl,hc,hlen,hel,_,_⟩
      . exact ⟨[.sl []],⟨[],rfl,λr hr=>by cases hr⟩,one .slnil⟩
      . have hall: ∀ i,i < len-> ∃ r:List V,Shp P n e r/\ ∃ ci:List Value,x.w.cells? base (a.add<|i*P.cellsOf e) (P.cellsOf e)=some ci/\RC x r ci:=by
          intro i hi;have h1:=hel i hi;rw [List.getElem?_eq_getElem OM] at h1;cases h2:x.w.cells? base (a.add<|i*P.cellsOf e) (P.cellsOf e) with
          |none=>rw [h2] at h1; cases h1
          | some ci =>
            grind
        obtain ⟨rows,hrl,hrows⟩:=aOl hall
        have hcell: ∀ (r:Nat) (row:List V) (j:Nat) (v:V),rows[r]?=some row->row[j]?=some v->
            ∃ c,x.w.cell? (a.add<|r*P.cellsOf e+j)=some c/\R x v c:=by
          intro r row j v hr hj;obtain ⟨_,ci,g1,g2⟩:=hrows r row hr;obtain ⟨_,g4,g5⟩:=World.cells?_some g1;have hjlt:j < ci.length:=by have:=(List.getElem?_eq_some_iff.1 hj).1; rw [<- g2.1]; exact this
          have g6:=g5 j OM;rw [List.getElem?_eq_getElem hjlt,Addr.add_add] at g6;refine ⟨_,g6,?_⟩;have:=g2.2 j v hj;rw [List.getD_eq_getElem?_getD,List.getElem?_eq_getElem hjlt] at this;exact this
        have key:=R.sl (x:=x) rows a cap (P.cellsOf e) (λk=>(x.w.cell?<|a.add k).getD undef) OM hc ?_ ?_ ?_ ?_
        . grind [List.getElem?_of_mem]
        . intro hne
          cases hrr:rows with
          |nil=>exact (hne hrr).elim
          | cons r0 rs =>
            obtain ⟨_,ci,g1,g2⟩:=hrows 0 r0 (by rw [hrr]; rfl)
            . obtain ⟨_,g4,g5⟩:=World.cells?_some g1
              grind [World.cell?,Addr.add]
        . intro r hr
          obtain ⟨i,hi⟩:=List.getElem?_of_mem hr;obtain ⟨_,ci,g1,g2⟩:=hrows i r hi;rw [g2.1];exact (World.cells?_some g1).2.1
        . grind
        grind
    . rename_i fs ht
      simp only [Bool.and_eq_true] at hok;obtain ⟨xs,m,_,_,hl,hxl,hf⟩:=DataW.trod_struct ht hy
      have hfs: ∀ f∈fs.toList,∃ z,DataW.trod enc P x.w base spare held m f.type ((cs.drop f.offset).take (P.cellsOf f.type))=some z:=by
        grind [List.getElem?_of_mem]
      have hok':=List.all_eq_true.1 hok.1
      have main: ∀ (l:List Field) (off:Nat),(∀ f∈l,f∈fs.toList)->aHc P (P.cellsOf t) off l=true->off<=cs.length-> ∃ vs,aHO (Shp P n) l vs/\RC x vs (cs.drop off):=by
        intro l
        induction l with
        | nil =>
          intro off _ htl hle;simp only [aHc,decide_eq_true_eq] at htl;refine ⟨[],J,?_⟩;rw [List.drop_of_length_le OM];exact ⟨J,λj v hj=>by simp at hj⟩
        | cons f r ihr =>
          intro off hsub htl hle;simp only [aHc,Bool.and_eq_true,decide_eq_true_eq] at htl;obtain ⟨z,hz⟩:=hfs f<|hsub f<|List.mem_cons_self ..
          obtain ⟨va,g1,g2⟩:=ih f.type (hok' f<|hsub f<|List.mem_cons_self ..) _ _ _ hz
          have hoff:off+P.cellsOf f.type<=cs.length:=by
            rw [hl]
            have: ∀ (l:List Field) (o:Nat),aHc P (P.cellsOf t) o l=true->o<=P.cellsOf t:=by
              intro l
              induction l <;> grind [aHc]
            exact this _ _ htl.2
          obtain ⟨vb,g3,g4⟩:=ihr (off+P.cellsOf f.type) (λq hq=>hsub q<|List.mem_cons_of_mem _ hq) htl.2 hoff;refine ⟨va++vb,⟨va,vb,J,g1,g3⟩,?_⟩
          grind [List.drop_drop,List.take_append_drop,aDa]
      grind
    . rename_i m e ht
      simp only [Bool.and_eq_true,decide_eq_true_eq] at hok;obtain ⟨xs,f,_,_,hl,hxl,hf⟩:=DataW.trod_array ht hy
      have main: ∀ (k i:Nat),i+k=m-> ∃ vs,aQ1 (Shp P n e) k vs/\RC x vs (cs.drop<|i*P.cellsOf e):=by
        intro k
        induction k with
        | zero =>
          intro i hi;refine ⟨[],J,?_⟩;rw [List.drop_of_length_le (by grind)];exact ⟨J,λj v hj=>by simp at hj⟩
        | succ k ihk =>
          intro i hi;have hlt:i < m:=OM
          have hz:=hf i hlt;rw [List.getElem?_eq_getElem OM] at hz;obtain ⟨va,g1,g2⟩:=ih e hok.1 _ _ _ hz;obtain ⟨vb,g3,g4⟩:=ihk (i+1) OM;refine ⟨va++vb,⟨va,vb,J,g1,g3⟩,?_⟩
          grind [List.drop_drop,List.take_append_drop,aDa]
      obtain ⟨vs,g1,g2⟩:=main m 0 OM;exact ⟨vs,g1,by simpa using g2⟩
    . cases hok
end
end Go.Proofs.YtinpihlhcmpkhaaGreat


namespace Go.Proofs.YtinpihlhcmpkhaaGreat
open Go Go.ChangeShapes Go.WideShapes Go.ChangeAt Go.RowKit
section
variable {H:Type} {enc:TypeId×Value->H} {P:Program}
theorem aCY {f:Func} {s:ChangeSpec} {apart fresh handsOn again:Bool} {W W':World} {args:Array Value} {v:Value} {ds gs:List (DataW H)} {before pa pv:List MemPlace}
    (hW:DataW.Whole enc P f.params.toList s.vars apart W args.toList ds gs before)
    (hres: ∀ (b:Nat) (sp:Nat->Bool) (hd:Bool),DataW.TrodAll enc P W' b sp hd f.resultTypes.toList (v.resultList f.resultTypes.size) (s.fn H<|ds++gs).results [])
    (hargs: ∀ sp:Nat->Bool,(∀ p∈before,sp p.block=true)->DataW.TrodAll enc P W' 0 sp true f.params.toList args.toList (s.fn H<|ds++gs).args pa)
    (hvars: ∀ sp:Nat->Bool,(∀ p∈before,sp p.block=true)->DataW.TrodVars enc P W' sp s.vars (s.fn H<|ds++gs).vars pv)
    (hps:before=pa++pv) (hb:Below W.heap.size W W')
    (hok: ∀ (j:Nat) (t:TypeId) (r:Value),f.resultTypes[j]?=some t->(v.resultList f.resultTypes.size)[j]?=some r->Value.okWide P W' .any 0 t r):
    s.post enc P f apart fresh handsOn again W args v W':=by
  have hold: ∀ p∈before,(λb=>decide (b < W.heap.size)) p.block=true:=λp hp=>by simpa using hW.lt p hp
  refine ⟨ds,gs,before,[],pa,pv,hW,hres _ _ _,hargs _ hold,hvars _ hold,World.keptBut_mono (λp hp=>⟨hp,?_⟩) (hb.frame (· ∈before)),λ_=>?_⟩
  . rw [hps,List.mem_append] at hp
    exact Or.inr hp
  . have hlt:=hW.lt
    obtain ⟨_,_,_,_,_,hz,hn⟩:=hW;refine ⟨hok,_,_,([]++pa)++pv,⟨[]++pa,pv,trodAll_append (hargs _ (λ_ _=>J)) (hres _ _ _),hvars _ (λ_ _=>J),J,?_,?_⟩,?_⟩
    . intro b off hp
      have hp':MemPlace.cell b off∈before:=by rw [hps]; simpa using hp
      rw [hb.frozen (hlt _ hp')];exact hz b off hp'
    . intro ha
      have:=hn ha;rw [hps] at this;simpa using this
    . intro p hp _
      rw [hps];simpa using hp
theorem aCd {x y:Cx} {w:World} (h:Frame x y) (hx: ∀ id,(x.H id).own=false) (hw:x.w=w):Below w.heap.size w y.w:=by
  subst hw;exact ⟨h.os,h.tape,h.output,h.size,λk hk=>h.keep k hk λid ho=>by rw [hx id] at ho; cases ho⟩
def aA1 (P:Program) (t:TypeId) (vs:List V):V:=match P.underlying t with
  |some (.struct _)=>.agg vs
  |some (.array _ _)=>.agg vs
  |_=>vs.headD xS
theorem aFd {x:Cx} {vs:List V} {c:Value} (h:RC x vs [c]):R x (vs.headD xS) c:=by
  obtain ⟨h1,h2⟩:=h;cases vs with
  |nil=>simp at h1
  |cons u l=>exact h2 0 u rfl
theorem aQ3 {x:Cx} (hZ: ∀ b,b < x.w.heap.size->x.Z b) {n:Nat} {t:TypeId} (hok:okT P n t=true) {r:Reach} {b0 base:Nat} {spare:Nat->Bool} {held:Bool} {v:Value} {d:DataW H} {ps:List MemPlace}
    (gG:Value.okWide P x.w r b0 t v) (hd:DataW.Trod enc P x.w base spare held t v d ps): ∃ vs,Shp P n t vs/\R x (aA1 P t vs) v:=by
  obtain ⟨fuel,hf⟩:=hd;obtain ⟨vs,h1,h2⟩:=aRd hZ n t hok fuel _ _ hf;refine ⟨vs,h1,?_⟩;unfold aA1;cases n with
  |zero=>cases hok
  | succ n =>
    simp only [okT] at hok;split at hok
    . rename_i ht
      obtain ⟨b,rfl⟩:=okWide_bool ht gG;rw [ht]; exact aFd h2
    . rename_i k ht
      obtain ⟨m,rfl⟩:=okWide_int ht gG;rw [ht]; exact aFd h2
    . rename_i ht
      obtain ⟨s,rfl⟩:=okWide_string ht gG;rw [ht]; exact aFd h2
    . rename_i e ht
      obtain ⟨a,l,c,rfl⟩:=okWide_slice ht gG;rw [ht]; exact aFd h2
    . rename_i fs ht
      obtain ⟨cs,rfl,_⟩:=okWide_struct ht gG;rw [ht];refine .agg vs cs (by have:=h2.1; simp [Value.cells] at this; omega) λj u hj=>?_;have:=h2.2 j u hj;rw [List.getD_eq_getElem?_getD] at this;rw [Array.getD_eq_getD_getElem?,<- Array.getElem?_toList];exact this
    . rename_i m e ht
      have hval2:=gG;simp only [Value.okWide,ht] at hval2;obtain ⟨cs,rfl,_⟩:=hval2;rw [ht];refine .agg vs cs (by have:=h2.1; simp [Value.cells] at this; omega) λj u hj=>?_;have:=h2.2 j u hj;rw [List.getD_eq_getElem?_getD] at this;rw [Array.getD_eq_getD_getElem?,<- Array.getElem?_toList];exact this
    . cases hok
def aHq (P:Program) (n:Nat):List TypeId->List V->Prop
  |[],vs=>vs=[]
  |t::ts,vs=> ∃ a b,vs=aA1 P t a::b/\Shp P n t a/\aHq P n ts b
theorem aGm {x:Cx} (hZ: ∀ b,b < x.w.heap.size->x.Z b) {n:Nat} {r:Reach} {b0 base:Nat} {spare:Nat->Bool} {held:Bool}: ∀ (ts:List TypeId) (vs:List Value) (ds:List (DataW H)) (ps:List MemPlace),
    (∀ t∈ts,okT P n t=true)->(∀ (j:Nat) t v,ts[j]?=some t->vs[j]?=some v->Value.okWide P x.w r b0 t v)->DataW.TrodAll enc P x.w base spare held ts vs ds ps->
    ∃ us,aHq P n ts us/\RL x us vs
  | [], vs, ds, ps, _, _, h => by
    obtain ⟨rfl,rfl,rfl⟩:=trodAll_nil h;exact ⟨[],J,J,λj v hj=>by simp at hj⟩
  | t :: ts, vs, ds, ps, hok, gG, h => by
    obtain ⟨v,vs1,d,ds1,a,b,rfl,rfl,rfl,h1,h2⟩:=trodAll_cons h;obtain ⟨ws,g1,g2⟩:=aQ3 hZ (hok t<|List.mem_cons_self ..) (gG 0 t v J J) h1;obtain ⟨us,g3,g4⟩:=aGm hZ ts vs1 ds1 b (λq hq=>hok q<|List.mem_cons_of_mem _ hq) (λj q u hq hu=>gG (j+1) q u (by simpa using hq) (by simpa using hu)) h2;refine ⟨aA1 P t ws::us,⟨ws,us,J,g1,g3⟩,by simp [g4.1],λj u hj=>?_⟩;cases j with
    |zero=>simp at hj; subst hj; exact g2
    |succ j=>exact g4.2 j u (by simpa using hj)
theorem wL (hl:laidOutB P=true) {W W':World} (hb:Below W.heap.size W W') {sp:Nat->Bool}: ∀ (ts:List TypeId) (vs:List Value) (ds:List (DataW H)) (ps:List MemPlace),
    (∀ t∈ts,P.readableRec t=true/\t < P.types.size)->DataW.TrodAll enc P W 0 (λ_=>true) true ts vs ds ps->(∀ p∈ps,p.block < W.heap.size)->(∀ p∈ps,sp p.block=true)->DataW.TrodAll enc P W' 0 sp true ts vs ds ps
  | [], vs, ds, ps, _, h, _, _ => by
    obtain ⟨rfl,rfl,rfl⟩:=trodAll_nil h;exact h
  | t :: ts, vs, ds, ps, hr, h, hlt, hsp => by
    obtain ⟨v,vs1,d,ds1,a,b,rfl,rfl,rfl,h1,h2⟩:=trodAll_cons h
    refine ⟨a,b,WideElems.Trod_stays hl (hr t<|List.mem_cons_self ..).1 (hr t<|List.mem_cons_self ..).2 h1 (λp hp=>hb.same<|hlt p<|List.mem_append_left _ hp) (λp hp=>hsp p<|List.mem_append_left _ hp),
      wL hl hb ts vs1 ds1 b (λq hq=>hr q<|List.mem_cons_of_mem _ hq) h2 (λp hp=>hlt p<|List.mem_append_right _ hp) (λp hp=>hsp p<|List.mem_append_right _ hp),J⟩
theorem aNy {f:FuncId} {fn:Func} {s:ChangeSpec} {apart fresh handsOn again:Bool} {n tb:Nat} {W:World} {args:Array Value} {ds gs:List (DataW H)} {before:List MemPlace}
    (hl:laidOutB P=true) (hres:fn.resultTypes=#[tb]) (htb:P.underlying tb=some .bool) (hts: ∀ t∈fn.params.toList,okT P n t=true/\P.readableRec t=true/\t < P.types.size)
    (hvars:s.vars=[]) (hs:s.fn H (ds++gs)={results:=[.lit (.bool true)],args:=ds})
    (hlaw: ∀ us,aHq P n fn.params.toList us->bJ P f us (.bool true))
    (gG: ∀ (j:Nat) t v,fn.params[j]?=some t->args[j]?=some v->Value.okWide P W .any 0 t v)
    (hW:DataW.Whole enc P fn.params.toList s.vars apart W args.toList ds gs before) (htab:aOp W (λb=>b < W.heap.size):=by intro p hp; simp [aRX] at hp):
    Calls P f args W λe W'=> ∃ v,e=.returned v/\s.post enc P fn apart fresh handsOn again W args v W':=by
  have hW':=hW;obtain ⟨p,q,hA,hV,rfl,hfz,hnd⟩:=hW;rw [hvars] at hV;obtain ⟨rfl,rfl⟩:=trodVars_none hV;have hlt:=hW'.lt
  let x:Cx:=start {w:=W,Z:=λb=>b < W.heap.size,σ:=λ_=>0,H:=H0} (λb=>b < W.heap.size)
  have hx:Inv x:=uB (λb hb=>hb) htab;obtain ⟨us,g1,g2⟩:=aGm (x:=x) (λb hb=>hb) fn.params.toList args.toList ds p (λt ht=>(hts t ht).1) (λj t v h1 h2=>gG j t v (by simpa using h1) (by simpa using h2)) hA;have hc:=(hlaw us g1 H0).2 x args.toList J hx g2;rw [Array.toArray_toList] at hc;refine Calls.mono (show Calls P f args W _ from hc) λe W' h=>?_;obtain ⟨c,y,rfl,rfl,h3,h4,h5,h6⟩:=h;cases h5;have hb:Below W.heap.size W y.w:=aCd h6 (λ_=>J) J;refine ⟨_,J,aCY (pa:=p) (pv:=[]) hW' (λb sp hd=>?_) (λsp hsp=>?_) (λsp _=>?_) SI hb ?_⟩
  . rw [hs,hres]
    exact trodAll_mk1<|shut_bool htb true
  . rw [hs]
    exact wL hl hb _ _ _ _ (λt ht=>(hts t ht).2) hA (λz hz=>hlt z (by simpa using hz)) (λz hz=>hsp z (by simpa using hz))
  . rw [hs,hvars]; rfl
  . exact ok_one hres J<|okWide_bool_mk htb true
end
end Go.Proofs.YtinpihlhcmpkhaaGreat


namespace Go.Proofs.YtinpihlhcmpkhaaGreat
open Go
theorem aGZ {α:Type} {f:α->List V}: ∀ {rows:List (List V)},(∀ r∈rows,∃ a,r=f a)-> ∃ l:List α,rows=l.map f
  |[],_=>⟨[],rfl⟩
  | r :: rows, h => by
    obtain ⟨a,ha⟩:=h r<|List.mem_cons_self ..
    obtain ⟨l,hl⟩:=aGZ (rows:=rows) λq hq=>h q<|List.mem_cons_of_mem _ hq
    exact ⟨a::l,by rw [ha,hl]; rfl⟩
section
variable {P:Program} {n t:Nat} {vs:List V}
theorem aOd {k:IntKind} (ht:P.underlying t=some (.int k)) (h:Shp P (n+1) t vs): ∃ m:Int,vs=[.int k m]:=by
  simp only [Shp,ht] at h; obtain ⟨m,hm,_⟩:=h; exact ⟨m,hm⟩
theorem aDv {e:Nat} {α:Type} {f:α->List V} (ht:P.underlying t=some (.slice e)) (he: ∀ vs,Shp P n e vs-> ∃ a,vs=f a) (h:Shp P (n+1) t vs): ∃ l:List α,vs=[.sl (l.map f)]:=by
  simp only [Shp,ht] at h;obtain ⟨rows,rfl,hr⟩:=h;obtain ⟨l,rfl⟩:=aGZ (f:=f) λr h=>he r<|hr r h
  exact ⟨l,J⟩
theorem aMU {fs:Array Field} (ht:P.underlying t=some (.struct fs)) (h:Shp P (n+1) t vs):aHO (Shp P n) fs.toList vs:=by
  simp only [Shp,ht] at h; exact h
theorem vU {S:TypeId->List V->Prop} {f:Field} {r:List Field} {α:Type} {c:α->List V} (hc: ∀ vs,S f.type vs-> ∃ a,vs=c a) (h:aHO S (f::r) vs): ∃ a us,vs=c a++us/\aHO S r us:=by
  obtain ⟨a,b,rfl,h1,h2⟩:=h;obtain ⟨x,rfl⟩:=hc a h1;exact ⟨x,b,J,h2⟩
theorem aLZ {S:TypeId->List V->Prop} (h:aHO S [] vs):vs=[]:=h
theorem aFA {fs:Array Field} (ht:P.underlying t=some (.struct fs)) (vs:List V):aA1 P t vs=.agg vs:=by
  unfold aA1; rw [ht]
theorem aJ9 {ts:List TypeId} {us:List V} (h:aHq P n (t::ts) us): ∃ a b,us=aA1 P t a::b/\Shp P n t a/\aHq P n ts b:=h
theorem aLR {us:List V} (h:aHq P n [] us):us=[]:=h
end
end Go.Proofs.YtinpihlhcmpkhaaGreat


