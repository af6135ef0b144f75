/- The layer: abstract values for memory and their soundness; no condition. -/
import Derived.ChangeArms
import Derived.DataElems
import Derived.DataReads
import Derived.OpenShut
import Derived.ProofKit
import Derived.WalkKit
import Derived.Carry
import Derived.Test.YtmnjchcoigbngabGreatLay2
set_option linter.unusedSimpArgs false
set_option linter.unusedVariables false
namespace Go.Proofs.YtmnjchcoigbngabGreat
open Go
theorem choiceL {α:Type} {n:Nat} {p:Nat→α→Prop} (h: ∀ i,i < n→ ∃ a,p i a): ∃ l:List α,l.length=n∧ ∀ i a,l[i]?=some a→p i a:=by
  induction n with
  |zero=>exact ⟨[],rfl,fun i a h=>by simp at h⟩
  |succ n ih=>
    obtain ⟨l,h1,h2⟩:=ih fun i hi=>h i (by omega)
    obtain ⟨b,hb⟩:=h n (by omega)
    refine ⟨l++[b],by simp [h1],fun i a hi=>?_⟩
    rw [List.getElem?_append] at hi
    split at hi
    · exact h2 i a hi
    · rename_i hlt
      have e:i=n:=by
        have:=(List.getElem?_eq_some_iff.1 hi).1
        simp at this; omega
      subst e
      simp [h1] at hi
      subst hi
      exact hb
def tile (P:Program) (all:Nat):Nat→List Field→Bool
  |off,[]=>decide (off=all)
  |off,f::r=>decide (f.offset=off)&&tile P all (off+P.cellsOf f.type) r
def okT (P:Program):Nat→TypeId→Bool
  |0,_=>false
  |n+1,t=>match P.underlying t with
    |some .bool=>true
    |some (.int _)=>true
    |some .string=>true
    |some (.slice e)=>okT P n e&&decide (P.cellsOf e≠0)
    |some (.struct fs)=>fs.toList.all (fun f=>okT P n f.type)&&tile P (P.cellsOf t) 0 fs.toList
    |some (.array m e)=>okT P n e&&decide (m*P.cellsOf e=P.cellsOf t)
    |_=>false
def ShpL (S:TypeId→List V→Prop):List Field→List V→Prop
  |[],vs=>vs=[]
  |f::r,vs=> ∃ a b,vs=a++b∧S f.type a∧ShpL S r b
def ShpR (S:List V→Prop):Nat→List V→Prop
  |0,vs=>vs=[]
  |k+1,vs=> ∃ a b,vs=a++b∧S a∧ShpR S k b
def Shp (P:Program):Nat→TypeId→List V→Prop
  |0,_,_=>False
  |n+1,t,vs=>match P.underlying t with
    |some .bool=> ∃ b,vs=[.bool b]
    |some (.int k)=> ∃ m,vs=[.int k m]
    |some .string=> ∃ s,vs=[.str s]
    |some (.slice e)=> ∃ rows,vs=[.sl rows]∧ ∀ r∈rows,Shp P n e r
    |some (.struct fs)=>ShpL (Shp P n) fs.toList vs
    |some (.array m e)=>ShpR (Shp P n e) m vs
    |_=>False
def RC (x:Cx) (vs:List V) (cs:List Value):Prop:=vs.length=cs.length∧ ∀ j v,vs[j]?=some v→R x v (cs.getD j undef)
theorem RC_append {x:Cx} {a b:List V} {c d:List Value} (h1:RC x a c) (h2:RC x b d):RC x (a++b) (c++d):=by
  refine ⟨by simp [h1.1,h2.1],fun j v hj=>?_⟩
  rw [List.getElem?_append] at hj
  rw [List.getD_eq_getElem?_getD,List.getElem?_append,← h1.1]
  split at hj
  · rename_i hlt
    rw [if_pos hlt,← List.getD_eq_getElem?_getD]; exact h1.2 j v hj
  · rename_i hlt
    rw [if_neg hlt,← List.getD_eq_getElem?_getD]; exact h2.2 _ v hj
section
variable {H:Type} {enc:TypeId×Value→H} {P:Program} {base:Nat} {spare:Nat→Bool} {held:Bool}
theorem trod_R {x:Cx} (hZ: ∀ b,b < x.w.heap.size→x.Z b): ∀ (n:Nat) (t:TypeId),okT P n t=true→ ∀ (fuel:Nat) (cs:List Value) (y:DataW H×List MemPlace),DataW.trod enc P x.w base spare held fuel t cs=some y→
    ∃ vs,Shp P n t vs∧RC x vs cs:=by
  intro n
  induction n with
  |zero=>intro t h; cases h
  |succ n ih=>
    intro t hok fuel cs y hy
    have one: ∀ {v:V} {c:Value},R x v c→RC x [v] [c]:=fun {v c} h=>⟨rfl,fun j u hj=>by
      cases j with
      |zero=>simp at hj; subst hj; exact h
      |succ j=>simp at hj⟩
    simp only [okT] at hok
    simp only [Shp]
    split at hok
    · rename_i ht
      obtain ⟨b,rfl,_⟩:=DataW.trod_bool ht hy
      exact ⟨[.bool b],⟨b,rfl⟩,one (.bool b)⟩
    · rename_i k ht
      obtain ⟨m,rfl,_⟩:=DataW.trod_int ht hy
      exact ⟨[.int k m],⟨m,rfl⟩,one (.int k m)⟩
    · rename_i ht
      obtain ⟨s,rfl,_⟩:=DataW.trod_string ht hy
      exact ⟨[.str s.data.toList],⟨_,rfl⟩,one (R.str s.data.toList)⟩
    · rename_i e ht
      simp only [Bool.and_eq_true,decide_eq_true_eq] at hok
      obtain ⟨hok,hnz⟩:=hok
      rcases DataW.trod_slice ht hy with ⟨rfl,_⟩|⟨a,len,cap,elems,rest,m,_,rfl,_,hb,hl,hc,hlen,hel,_,_⟩
      · exact ⟨[.sl []],⟨[],rfl,fun r hr=>by cases hr⟩,one .slnil⟩
      · have hall: ∀ i,i < len→ ∃ r:List V,Shp P n e r∧ ∃ ci:List Value,x.w.cells? base (a.add (i*P.cellsOf e)) (P.cellsOf e)=some ci∧RC x r ci:=by
          intro i hi
          have h1:=hel i hi
          rw [List.getElem?_eq_getElem (by omega)] at h1
          cases h2:x.w.cells? base (a.add (i*P.cellsOf e)) (P.cellsOf e) with
          |none=>rw [h2] at h1; cases h1
          |some ci=>
            rw [h2] at h1
            obtain ⟨vs,h3,h4⟩:=ih e hok m ci _ h1
            exact ⟨vs,h3,ci,rfl,h4⟩
        obtain ⟨rows,hrl,hrows⟩:=choiceL hall
        have hcell: ∀ (r:Nat) (row:List V) (j:Nat) (v:V),rows[r]?=some row→row[j]?=some v→
            ∃ c,x.w.cell? (a.add (r*P.cellsOf e+j))=some c∧R x v c:=by
          intro r row j v hr hj
          obtain ⟨_,ci,g1,g2⟩:=hrows r row hr
          obtain ⟨_,g4,g5⟩:=World.cells?_some g1
          have hjlt:j < ci.length:=by have:=(List.getElem?_eq_some_iff.1 hj).1; rw [← g2.1]; exact this
          have g6:=g5 j (by omega)
          rw [List.getElem?_eq_getElem hjlt,Addr.add_add] at g6
          refine ⟨_,g6,?_⟩
          have:=g2.2 j v hj
          rw [List.getD_eq_getElem?_getD,List.getElem?_eq_getElem hjlt] at this
          exact this
        have key:=R.sl (x:=x) rows a cap (P.cellsOf e) (fun k=>(x.w.cell? (a.add k)).getD undef) (by omega) hc ?_ ?_ ?_ ?_
        · rw [hrl] at key
          exact ⟨[.sl rows],⟨rows,rfl,fun r hr=>by obtain ⟨i,hi⟩:=List.getElem?_of_mem hr; exact (hrows i r hi).1⟩,one key⟩
        · intro hne
          cases hrr:rows with
          |nil=>exact (hne hrr).elim
          |cons r0 rs=>
            obtain ⟨_,ci,g1,g2⟩:=hrows 0 r0 (by rw [hrr]; rfl)
            · obtain ⟨_,g4,g5⟩:=World.cells?_some g1
              have g6:=g5 0 (by omega)
              rw [List.getElem?_eq_getElem (by omega),Addr.add_add] at g6
              have hlt:(a.add (0*P.cellsOf e+0)).block < x.w.heap.size:=by
                unfold World.cell? at g6
                split at g6
                · rename_i hh
                  exact (Array.getElem?_eq_some_iff.1 hh).1
                · cases g6
              exact hZ _ (by simpa [Addr.add] using hlt)
        · intro r hr
          obtain ⟨i,hi⟩:=List.getElem?_of_mem hr
          obtain ⟨_,ci,g1,g2⟩:=hrows i r hi
          rw [g2.1]
          exact (World.cells?_some g1).2.1
        · intro r row j v hr hj
          obtain ⟨c,g1,_⟩:=hcell r row j v hr hj
          rw [g1]; rfl
        · intro r row j v hr hj
          obtain ⟨c,g1,g2⟩:=hcell r row j v hr hj
          simp only [g1,Option.getD_some]
          exact g2
    · rename_i fs ht
      simp only [Bool.and_eq_true] at hok
      obtain ⟨xs,m,_,_,hl,hxl,hf⟩:=DataW.trod_struct ht hy
      have hfs: ∀ f∈fs.toList,∃ z,DataW.trod enc P x.w base spare held m f.type ((cs.drop f.offset).take (P.cellsOf f.type))=some z:=by
        intro f hm
        obtain ⟨i,hi⟩:=List.getElem?_of_mem hm
        have hi':fs[i]?=some f:=by simpa using hi
        have hlt:i < xs.length:=by
          have:=(Array.getElem?_eq_some_iff.1 hi').1
          omega
        exact ⟨xs[i],by rw [hf i f hi',List.getElem?_eq_getElem hlt]⟩
      have hok':=List.all_eq_true.1 hok.1
      have main: ∀ (l:List Field) (off:Nat),(∀ f∈l,f∈fs.toList)→tile P (P.cellsOf t) off l=true→off≤cs.length→ ∃ vs,ShpL (Shp P n) l vs∧RC x vs (cs.drop off):=by
        intro l
        induction l with
        |nil=>
          intro off _ htl hle
          simp only [tile,decide_eq_true_eq] at htl
          refine ⟨[],rfl,?_⟩
          rw [List.drop_of_length_le (by omega)]
          exact ⟨rfl,fun j v hj=>by simp at hj⟩
        |cons f r ihr=>
          intro off hsub htl hle
          simp only [tile,Bool.and_eq_true,decide_eq_true_eq] at htl
          obtain ⟨z,hz⟩:=hfs f (hsub f (List.mem_cons_self ..))
          obtain ⟨va,g1,g2⟩:=ih f.type (hok' f (hsub f (List.mem_cons_self ..))) _ _ _ hz
          have hoff:off+P.cellsOf f.type≤cs.length:=by
            rw [hl]
            have: ∀ (l:List Field) (o:Nat),tile P (P.cellsOf t) o l=true→o≤P.cellsOf t:=by
              intro l
              induction l with
              |nil=>intro o h; simp only [tile,decide_eq_true_eq] at h; omega
              |cons f r ih=>intro o h; simp only [tile,Bool.and_eq_true,decide_eq_true_eq] at h; have:=ih _ h.2; omega
            exact this _ _ htl.2
          obtain ⟨vb,g3,g4⟩:=ihr (off+P.cellsOf f.type) (fun q hq=>hsub q (List.mem_cons_of_mem _ hq)) htl.2 hoff
          refine ⟨va++vb,⟨va,vb,rfl,g1,g3⟩,?_⟩
          have hsplit:cs.drop off=(cs.drop off).take (P.cellsOf f.type)++cs.drop (off+P.cellsOf f.type):=by
            rw [← List.drop_drop,List.take_append_drop]
          rw [hsplit]
          rw [htl.1] at g2
          exact RC_append g2 g4
      obtain ⟨vs,g1,g2⟩:=main fs.toList 0 (fun _ h=>h) hok.2 (Nat.zero_le _)
      exact ⟨vs,g1,by simpa using g2⟩
    · rename_i m e ht
      simp only [Bool.and_eq_true,decide_eq_true_eq] at hok
      obtain ⟨xs,f,_,_,hl,hxl,hf⟩:=DataW.trod_array ht hy
      have main: ∀ (k i:Nat),i+k=m→ ∃ vs,ShpR (Shp P n e) k vs∧RC x vs (cs.drop (i*P.cellsOf e)):=by
        intro k
        induction k with
        |zero=>
          intro i hi
          refine ⟨[],rfl,?_⟩
          rw [List.drop_of_length_le (by rw [hl,← hok.2,show i=m by omega]; exact Nat.le_refl _)]
          exact ⟨rfl,fun j v hj=>by simp at hj⟩
        |succ k ihk=>
          intro i hi
          have hlt:i < m:=by omega
          have hz:=hf i hlt
          rw [List.getElem?_eq_getElem (by omega)] at hz
          obtain ⟨va,g1,g2⟩:=ih e hok.1 _ _ _ hz
          obtain ⟨vb,g3,g4⟩:=ihk (i+1) (by omega)
          refine ⟨va++vb,⟨va,vb,rfl,g1,g3⟩,?_⟩
          have hsplit:cs.drop (i*P.cellsOf e)=(cs.drop (i*P.cellsOf e)).take (P.cellsOf e)++cs.drop ((i+1)*P.cellsOf e):=by
            rw [Nat.add_mul,Nat.one_mul,← List.drop_drop,List.take_append_drop]
          rw [hsplit]
          exact RC_append g2 g4
      obtain ⟨vs,g1,g2⟩:=main m 0 (by omega)
      exact ⟨vs,g1,by simpa using g2⟩
    · cases hok
end
end Go.Proofs.YtmnjchcoigbngabGreat


namespace Go.Proofs.YtmnjchcoigbngabGreat
open Go Go.ChangeShapes Go.WideShapes Go.ChangeAt Go.RowKit
section
variable {H:Type} {enc:TypeId×Value→H} {P:Program}
theorem post_of_below {f:Func} {s:ChangeSpec} {apart fresh handsOn again:Bool} {W W':World} {args:Array Value} {v:Value} {ds gs:List (DataW H)} {before pa pv:List MemPlace}
    (hW:DataW.Whole enc P f.params.toList s.vars apart W args.toList ds gs before)
    (hres: ∀ (b:Nat) (sp:Nat→Bool) (hd:Bool),DataW.TrodAll enc P W' b sp hd f.resultTypes.toList (v.resultList f.resultTypes.size) (s.fn H (ds++gs)).results [])
    (hargs: ∀ sp:Nat→Bool,(∀ p∈before,sp p.block=true)→DataW.TrodAll enc P W' 0 sp true f.params.toList args.toList (s.fn H (ds++gs)).args pa)
    (hvars: ∀ sp:Nat→Bool,(∀ p∈before,sp p.block=true)→DataW.TrodVars enc P W' sp s.vars (s.fn H (ds++gs)).vars pv)
    (hps:before=pa++pv) (hb:Below W.heap.size W W')
    (hok: ∀ (j:Nat) (t:TypeId) (r:Value),f.resultTypes[j]?=some t→(v.resultList f.resultTypes.size)[j]?=some r→Value.okWide P W' .any 0 t r):
    s.post enc P f apart fresh handsOn again W args v W':=by
  have hold: ∀ p∈before,(fun b=>decide (b < W.heap.size)) p.block=true:=fun p hp=>by simpa using hW.lt p hp
  refine ⟨ds,gs,before,[],pa,pv,hW,hres _ _ _,hargs _ hold,hvars _ hold,World.keptBut_mono (fun p hp=>⟨hp,?_⟩) (hb.frame (· ∈before)),fun _=>?_⟩
  · rw [hps,List.mem_append] at hp
    exact Or.inr hp
  · have hlt:=hW.lt
    obtain ⟨_,_,_,_,_,hz,hn⟩:=hW
    refine ⟨hok,_,_,([]++pa)++pv,⟨[]++pa,pv,trodAll_append (hargs _ (fun _ _=>rfl)) (hres _ _ _),hvars _ (fun _ _=>rfl),rfl,?_,?_⟩,?_⟩
    · intro b off hp
      have hp':MemPlace.cell b off∈before:=by rw [hps]; simpa using hp
      rw [hb.frozen (hlt _ hp')]
      exact hz b off hp'
    · intro ha
      have:=hn ha
      rw [hps] at this
      simpa using this
    · intro p hp _
      rw [hps]
      simpa using hp
theorem below_of_frame {x y:Cx} {w:World} (h:Frame x y) (hx: ∀ id,(x.H id).own=false) (hw:x.w=w):Below w.heap.size w y.w:=by
  subst hw
  exact ⟨h.os,h.tape,h.output,h.size,fun k hk=>h.keep k hk fun id ho=>by rw [hx id] at ho; cases ho⟩
def packV (P:Program) (t:TypeId) (vs:List V):V:=match P.underlying t with
  |some (.struct _)=>.agg vs
  |some (.array _ _)=>.agg vs
  |_=>vs.headD undefV
theorem RC_one {x:Cx} {vs:List V} {c:Value} (h:RC x vs [c]):R x (vs.headD undefV) c:=by
  obtain ⟨h1,h2⟩:=h
  cases vs with
  |nil=>simp at h1
  |cons u l=>exact h2 0 u rfl
theorem open_R {x:Cx} (hZ: ∀ b,b < x.w.heap.size→x.Z b) {n:Nat} {t:TypeId} (hok:okT P n t=true) {r:Reach} {b0 base:Nat} {spare:Nat→Bool} {held:Bool} {v:Value} {d:DataW H} {ps:List MemPlace}
    (hval:Value.okWide P x.w r b0 t v) (hd:DataW.Trod enc P x.w base spare held t v d ps): ∃ vs,Shp P n t vs∧R x (packV P t vs) v:=by
  obtain ⟨fuel,hf⟩:=hd
  obtain ⟨vs,h1,h2⟩:=trod_R hZ n t hok fuel _ _ hf
  refine ⟨vs,h1,?_⟩
  unfold packV
  cases n with
  |zero=>cases hok
  |succ n=>
    simp only [okT] at hok
    split at hok
    · rename_i ht
      obtain ⟨b,rfl⟩:=okWide_bool ht hval
      rw [ht]; exact RC_one h2
    · rename_i k ht
      obtain ⟨m,rfl⟩:=okWide_int ht hval
      rw [ht]; exact RC_one h2
    · rename_i ht
      obtain ⟨s,rfl⟩:=okWide_string ht hval
      rw [ht]; exact RC_one h2
    · rename_i e ht
      obtain ⟨a,l,c,rfl⟩:=okWide_slice ht hval
      rw [ht]; exact RC_one h2
    · rename_i fs ht
      obtain ⟨cs,rfl,_⟩:=okWide_struct ht hval
      rw [ht]
      refine .agg vs cs (by have:=h2.1; simp [Value.cells] at this; omega) fun j u hj=>?_
      have:=h2.2 j u hj
      rw [List.getD_eq_getElem?_getD] at this
      rw [Array.getD_eq_getD_getElem?,← Array.getElem?_toList]
      exact this
    · rename_i m e ht
      have hval2:=hval
      simp only [Value.okWide,ht] at hval2
      obtain ⟨cs,rfl,_⟩:=hval2
      rw [ht]
      refine .agg vs cs (by have:=h2.1; simp [Value.cells] at this; omega) fun j u hj=>?_
      have:=h2.2 j u hj
      rw [List.getD_eq_getElem?_getD] at this
      rw [Array.getD_eq_getD_getElem?,← Array.getElem?_toList]
      exact this
    · cases hok
def ShpA (P:Program) (n:Nat):List TypeId→List V→Prop
  |[],vs=>vs=[]
  |t::ts,vs=> ∃ a b,vs=packV P t a::b∧Shp P n t a∧ShpA P n ts b
theorem open_all {x:Cx} (hZ: ∀ b,b < x.w.heap.size→x.Z b) {n:Nat} {r:Reach} {b0 base:Nat} {spare:Nat→Bool} {held:Bool}: ∀ (ts:List TypeId) (vs:List Value) (ds:List (DataW H)) (ps:List MemPlace),
    (∀ t∈ts,okT P n t=true)→(∀ (j:Nat) t v,ts[j]?=some t→vs[j]?=some v→Value.okWide P x.w r b0 t v)→DataW.TrodAll enc P x.w base spare held ts vs ds ps→
    ∃ us,ShpA P n ts us∧RL x us vs
  |[],vs,ds,ps,_,_,h=>by
    obtain ⟨rfl,rfl,rfl⟩:=trodAll_nil h
    exact ⟨[],rfl,rfl,fun j v hj=>by simp at hj⟩
  |t::ts,vs,ds,ps,hok,hval,h=>by
    obtain ⟨v,vs1,d,ds1,a,b,rfl,rfl,rfl,h1,h2⟩:=trodAll_cons h
    obtain ⟨ws,g1,g2⟩:=open_R hZ (hok t (List.mem_cons_self ..)) (hval 0 t v rfl rfl) h1
    obtain ⟨us,g3,g4⟩:=open_all hZ ts vs1 ds1 b (fun q hq=>hok q (List.mem_cons_of_mem _ hq)) (fun j q u hq hu=>hval (j+1) q u (by simpa using hq) (by simpa using hu)) h2
    refine ⟨packV P t ws::us,⟨ws,us,rfl,g1,g3⟩,by simp [g4.1],fun j u hj=>?_⟩
    cases j with
    |zero=>simp at hj; subst hj; exact g2
    |succ j=>exact g4.2 j u (by simpa using hj)
theorem trodAll_stays (hl:laidOutB P=true) {W W':World} (hb:Below W.heap.size W W') {sp:Nat→Bool}: ∀ (ts:List TypeId) (vs:List Value) (ds:List (DataW H)) (ps:List MemPlace),
    (∀ t∈ts,P.readableRec t=true∧t < P.types.size)→DataW.TrodAll enc P W 0 (fun _=>true) true ts vs ds ps→(∀ p∈ps,p.block < W.heap.size)→(∀ p∈ps,sp p.block=true)→DataW.TrodAll enc P W' 0 sp true ts vs ds ps
  |[],vs,ds,ps,_,h,_,_=>by
    obtain ⟨rfl,rfl,rfl⟩:=trodAll_nil h
    exact h
  |t::ts,vs,ds,ps,hr,h,hlt,hsp=>by
    obtain ⟨v,vs1,d,ds1,a,b,rfl,rfl,rfl,h1,h2⟩:=trodAll_cons h
    refine ⟨a,b,WideElems.Trod_stays hl (hr t (List.mem_cons_self ..)).1 (hr t (List.mem_cons_self ..)).2 h1 (fun p hp=>hb.same (hlt p (List.mem_append_left _ hp))) (fun p hp=>hsp p (List.mem_append_left _ hp)),
      trodAll_stays hl hb ts vs1 ds1 b (fun q hq=>hr q (List.mem_cons_of_mem _ hq)) h2 (fun p hp=>hlt p (List.mem_append_right _ hp)) (fun p hp=>hsp p (List.mem_append_right _ hp)),rfl⟩
theorem law_post {f:FuncId} {fn:Func} {s:ChangeSpec} {apart fresh handsOn again:Bool} {n tb:Nat} {W:World} {args:Array Value} {ds gs:List (DataW H)} {before:List MemPlace}
    (hl:laidOutB P=true) (hres:fn.resultTypes=#[tb]) (htb:P.underlying tb=some .bool) (hts: ∀ t∈fn.params.toList,okT P n t=true∧P.readableRec t=true∧t < P.types.size)
    (hvars:s.vars=[]) (hs:s.fn H (ds++gs)={results:=[.lit (.bool true)],args:=ds})
    (hlaw: ∀ us,ShpA P n fn.params.toList us→PureC P f us (.bool true))
    (hval: ∀ (j:Nat) t v,fn.params[j]?=some t→args[j]?=some v→Value.okWide P W .any 0 t v)
    (hW:DataW.Whole enc P fn.params.toList s.vars apart W args.toList ds gs before):
    Calls P f args W fun e W'=> ∃ v,e=.returned v∧s.post enc P fn apart fresh handsOn again W args v W':=by
  have hW':=hW
  obtain ⟨p,q,hA,hV,rfl,hfz,hnd⟩:=hW
  rw [hvars] at hV
  obtain ⟨rfl,rfl⟩:=trodVars_none hV
  have hlt:=hW'.lt
  let x:Cx:=start {w:=W,Z:=fun b=>b < W.heap.size,σ:=fun _=>0,H:=H0} (fun b=>b < W.heap.size)
  have hx:Inv x:=start_ok fun b hb=>hb
  obtain ⟨us,g1,g2⟩:=open_all (x:=x) (fun b hb=>hb) fn.params.toList args.toList ds p (fun t ht=>(hts t ht).1) (fun j t v h1 h2=>hval j t v (by simpa using h1) (by simpa using h2)) hA
  have hc:=(hlaw us g1 H0).2 x args.toList rfl hx g2
  rw [Array.toArray_toList] at hc
  refine Calls.mono (show Calls P f args W _ from hc) fun e W' h=>?_
  obtain ⟨c,y,rfl,rfl,h3,h4,h5,h6⟩:=h
  cases h5
  have hb:Below W.heap.size W y.w:=below_of_frame h6 (fun _=>rfl) rfl
  refine ⟨_,rfl,post_of_below (pa:=p) (pv:=[]) hW' (fun b sp hd=>?_) (fun sp hsp=>?_) (fun sp _=>?_) (by simp) hb ?_⟩
  · rw [hs,hres]
    exact trodAll_mk1 (shut_bool htb true)
  · rw [hs]
    exact trodAll_stays hl hb _ _ _ _ (fun t ht=>(hts t ht).2) hA (fun z hz=>hlt z (by simpa using hz)) (fun z hz=>hsp z (by simpa using hz))
  · rw [hs,hvars]; rfl
  · exact ok_one hres rfl (okWide_bool_mk htb true)
end
end Go.Proofs.YtmnjchcoigbngabGreat


namespace Go.Proofs.YtmnjchcoigbngabGreat
open Go
theorem rows_map {α:Type} {f:α→List V}: ∀ {rows:List (List V)},(∀ r∈rows,∃ a,r=f a)→ ∃ l:List α,rows=l.map f
  |[],_=>⟨[],rfl⟩
  |r::rows,h=>by
    obtain ⟨a,ha⟩:=h r (List.mem_cons_self ..)
    obtain ⟨l,hl⟩:=rows_map (rows:=rows) fun q hq=>h q (List.mem_cons_of_mem _ hq)
    exact ⟨a::l,by rw [ha,hl]; rfl⟩
section
variable {P:Program} {n t:Nat} {vs:List V}
theorem shp_int {k:IntKind} (ht:P.underlying t=some (.int k)) (h:Shp P (n+1) t vs): ∃ m:Int,vs=[.int k m]:=by
  simp only [Shp,ht] at h; exact h
theorem shp_bool (ht:P.underlying t=some .bool) (h:Shp P (n+1) t vs): ∃ b:Bool,vs=[.bool b]:=by
  simp only [Shp,ht] at h; exact h
theorem shp_slice {e:Nat} {α:Type} {f:α→List V} (ht:P.underlying t=some (.slice e)) (he: ∀ vs,Shp P n e vs→ ∃ a,vs=f a) (h:Shp P (n+1) t vs): ∃ l:List α,vs=[.sl (l.map f)]:=by
  simp only [Shp,ht] at h
  obtain ⟨rows,rfl,hr⟩:=h
  obtain ⟨l,rfl⟩:=rows_map (f:=f) fun r h=>he r (hr r h)
  exact ⟨l,rfl⟩
theorem shp_step {fs:Array Field} (ht:P.underlying t=some (.struct fs)) (h:Shp P (n+1) t vs):ShpL (Shp P n) fs.toList vs:=by
  simp only [Shp,ht] at h; exact h
theorem shpL_cons {S:TypeId→List V→Prop} {f:Field} {r:List Field} {α:Type} {c:α→List V} (hc: ∀ vs,S f.type vs→ ∃ a,vs=c a) (h:ShpL S (f::r) vs): ∃ a us,vs=c a++us∧ShpL S r us:=by
  obtain ⟨a,b,rfl,h1,h2⟩:=h
  obtain ⟨x,rfl⟩:=hc a h1
  exact ⟨x,b,rfl,h2⟩
theorem shpL_nil {S:TypeId→List V→Prop} (h:ShpL S [] vs):vs=[]:=h
theorem pack_struct {fs:Array Field} (ht:P.underlying t=some (.struct fs)) (vs:List V):packV P t vs=.agg vs:=by
  unfold packV; rw [ht]
theorem shpA_cons {ts:List TypeId} {us:List V} (h:ShpA P n (t::ts) us): ∃ a b,us=packV P t a::b∧Shp P n t a∧ShpA P n ts b:=h
theorem shpA_nil {us:List V} (h:ShpA P n [] us):us=[]:=h
end
end Go.Proofs.YtmnjchcoigbngabGreat


