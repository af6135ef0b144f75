/- The layer: abstract values for memory and their soundness; no condition. -/
import Derived.MapKept
import Derived.WideKeyRuns
import Derived.Deep.LoopGhost
import Derived.Test.YteehaobohaecmaaGreatDoorLay1
set_option linter.unusedSimpArgs false
set_option linter.unusedVariables false
namespace Go.Proofs.YteehaobohaecmaaGreatDoor
open Go Go.MapKept
section
variable {P:Program} {x:Cx}
theorem aC2 (cc:Array Value):gZ 0 cc=.map #[] 0:=by unfold gZ; congr 1
theorem aHJ (hx : Inv x) (id : Nat) (t : TypeId) :
    ∃ y c,(Instr.makeMap t none).run P x.w=.ok c y.w∧y.H=upd x.H id ⟨(x.H id).ver+1,true,true,eP,2,[[.nilp,.nilp]]⟩∧Inv y∧Frame x y∧R y (.mm id ((x.H id).ver+1)) c:=by
  let y:Cx:={x with w:=x.w.alloc (.map #[] 0),σ:=upd x.σ id x.w.heap.size,H:=upd x.H id ⟨(x.H id).ver+1,true,true,eP,2,[[.nilp,.nilp]]⟩}
  have hM:(⟨(x.H id).ver+1,true,true,eP,2,[[.nilp,.nilp]]⟩:Blk).isM=true:=rfl
  have hf:Frame x y:=by
    refine ⟨rfl,rfl,rfl,by simp [y],fun b hb _=>fZ _ _ hb,fun _ h=>h,fun b h=>.inl h,fun i=>?_,fun i h=>?_,Nat.le_refl _,fun i _ hv=>?_⟩
    · by_cases e:i=id
      · subst e; simp only [y,aK]; exact ⟨by omega,fun _ h=>by omega⟩
      · simp only [y,bD _ _ e]
        exact ⟨Nat.le_refl _,fun h _=>⟨h,trivial,trivial,fun _=>trivial,fun h=>⟨trivial,mU _ _ (hx.lt h)⟩⟩⟩
    · by_cases e:i=id
      · subst e; simp only [y,aK]; exact .inr (Nat.le_refl _)
      · simp only [y,bD _ _ e] at h ⊢; exact .inl ⟨h,trivial⟩
    · by_cases e:i=id
      · subst e; simp only [y,aK] at hv; omega
      · simp only [y,bD _ _ e]
  have hI : Inv y := by
    refine ⟨fun b h=>?_,fun b i h hl=>?_,fun i hl=>?_,fun i j hi hj he=>?_,hx.tab_of hf⟩
    · have:=hx.zlt b h; simp only [y,World.size_alloc]; omega
    · by_cases e:i=id
      · subst e; have:=hx.zlt b h; simp only [y,aK]; omega
      · simp only [y,bD _ _ e] at hl ⊢; exact hx.zown b i h hl
    · by_cases e:i=id
      · subst e
        simp only [y,aK]
        refine ⟨#[.pointer none,.pointer none],?_,fun r hr=>by simp at hr; rw [hr]; rfl,by simp,fun r row j v hr hj=>?_⟩
        · rw [tC hM]
          show _=some (gZ 0 _)
          rw [aC2]; exact kC _ _
        · cases r with
          | zero =>
            simp at hr; subst hr
            match j,hj with
            |0,hj=>simp at hj; subst hj; exact .nilp
            |1,hj=>simp at hj; subst hj; exact .nilp
            |j+2,hj=>simp at hj
          |succ r=>simp at hr
      · have hl':=hl
        simp only [y,bD _ _ e] at hl
        obtain ⟨dd,h1,h2,h3,h4⟩:=hx.blk i hl
        simp only [y,bD _ _ e]
        exact ⟨dd,by rw [fZ _ _ (hx.lt hl)]; exact h1,h2,h3,fun r row j v hr hj=>(h4 r row j v hr hj).frame hx hf⟩
    · by_cases e:i=id <;> by_cases e':j=id
      · rw [e,e']
      · subst e
        simp only [y,aK,bD _ _ e'] at he hj
        have:=hx.lt hj; omega
      · subst e'
        simp only [y,aK,bD _ _ e] at he hi
        have:=hx.lt hi; omega
      · simp only [y,bD _ _ e,bD _ _ e'] at he hi hj
        exact hx.inj i j hi hj he
  exact ⟨y,.map (some x.w.heap.size),rfl,rfl,hI,hf,.mm _ _ _ (by simp [y,aK]) fun _ _=>by simp only [y,aK]; exact ⟨hM,trivial⟩⟩
theorem aCW (hx : Inv x) (id : Nat) (ho : (x.H id).own = true) (hM : (x.H id).isM = true) (h : List V) (es : List (List V)) (cc' : Array Value) (hsz : ∀ r ∈ h :: es, r.length = (x.H id).sz) (hfit : (es.length + 1) * (x.H id).sz ≤ cc'.size)
    (hR: ∀ (r:Nat) (row:List V) (j:Nat) (v:V),(h::es)[r]?=some row→row[j]?=some v→R x v (cc'.getD (r*(x.H id).sz+j) undef)):
    let y:Cx:={x with w:={x.w with heap:=x.w.heap.setIfInBounds (x.σ id) (gZ es.length cc')},H:=upd x.H id {x.H id with rows:=h::es}}
    Inv y∧Frame x y:=by
  intro y
  obtain ⟨cc,c1,_⟩:=hx.blk id ho
  obtain ⟨s1,s2⟩:=heap_set (w:=x.w) (o':=gZ es.length cc') c1
  have hlz:(x.H id).lz=true:=by unfold Blk.isM at hM; rw [Bool.and_eq_true] at hM; exact hM.1
  have hown:(y.H id).own=true:=by
    simp only [y,aK]
    unfold Blk.own
    rw [eL ho]; simp
  have hrs: ∀ b,dX y.w b=dX x.w b:=fun b=>by
    by_cases e:b=x.σ id
    · subst e
      have e1:y.w.heap[x.σ id]?=some (gZ es.length cc'):=s1
      unfold dX
      rw [e1,c1,tC hM]
      rfl
    · unfold dX
      rw [show y.w.heap[b]?=x.w.heap[b]? from s2 b e]
  have live: ∀ i,(y.H i).own=true→(x.H i).own=true:=fun i h=>by
    by_cases e:i=id
    · subst e; exact ho
    · simpa only [y,bD _ _ e] using h
  have hf:Frame x y:=by
    refine ⟨rfl,rfl,rfl,by simp [y],fun b hb hn=>s2 b fun e=>hn id ho e.symm,fun _ h=>h,fun b h=>.inl h,fun i=>?_,fun i h=>.inl ⟨live i h,rfl⟩,Nat.le_refl _,fun i _ _=>?_⟩
    · by_cases e:i=id
      · subst e
        refine ⟨by simp only [y,aK]; exact Nat.le_refl _,fun _ _=>⟨eL ho,by rw [hown,ho],by simp only [y,aK],fun q=>(by rw [hM] at q; cases q),fun _=>⟨rfl,hrs _⟩⟩⟩
      · simp only [y,bD _ _ e]
        exact ⟨Nat.le_refl _,fun h _=>⟨h,trivial,trivial,fun _=>trivial,fun _=>⟨trivial,hrs _⟩⟩⟩
    · by_cases e:i=id
      · subst e; simp only [y,aK]; rfl
      · simp only [y,bD _ _ e]
  refine ⟨⟨fun b h=>?_,fun b i h hli=>hx.zown b i h (live i hli),fun i hli=>?_,fun i j hi hj he=>hx.inj i j (live i hi) (live j hj) he,hx.tab_of hf⟩,hf⟩
  · have:=hx.zlt b h; simp only [y,Array.size_setIfInBounds]; exact this
  · by_cases e:i=id
    · subst e
      simp only [y,aK]
      refine ⟨cc',?_,hsz,hfit,fun r row j v hr hj=>(hR r row j v hr hj).frame hx hf⟩
      rw [tC (by exact hM)]
      exact s1
    · obtain ⟨dd,h1,h2,h3,h4⟩:=hx.blk i (live i hli)
      simp only [y,bD _ _ e]
      exact ⟨dd,by rw [← h1]; exact s2 _ (fun he=>e (hx.inj i id (live i hli) ho he)),h2,h3,fun r row j v hr hj=>(h4 r row j v hr hj).frame hx hf⟩
def aLU:Nat→TypeDesc→Prop
  |0,.string=>True
  |1,.int _=>True
  |2,.bool=>True
  |_,_=>False
def aMM (P:Program) (k:TypeId) (kd:Nat):Prop:=(∃ d,P.underlying k=some d∧aLU kd d)∨ ∃ m,kd=m+3∧iF P k=some (uS 300 m)
theorem aDy {k kd:Nat} (h:vH P k=some kd):aMM P k kd:=by
  unfold vH at h
  have st:(match iF P k with|some q=>if uS 300 (aLH q)=q then some (aLH q+3) else none|none=>none)=some kd→aMM P k kd:=fun h=>by
    split at h
    · rename_i q e
      split at h
      · rename_i e2; cases h; exact .inr ⟨_,rfl,by rw [e2]; exact e⟩
      · cases h
    · cases h
  split at h
  · rename_i e; cases h; exact .inl ⟨_,e,trivial⟩
  · rename_i e; cases h; exact .inl ⟨_,e,trivial⟩
  · rename_i e; cases h; exact .inl ⟨_,e,trivial⟩
  · exact st h
  · exact st h
  · cases h
theorem aG4 {kd:Nat} {d:TypeDesc} {u v:V} {a b:Value} {r:Bool} (hd:aLU kd d) (h:aAa kd u v=some r) (hu:R x u a) (hv:R x v b):Instr.sameNow d a b=some r:=by
  unfold aAa at h
  split at h
  · cases h
    cases hu; cases hv
    cases d <;> first|exact hd.elim|skip
    rename_i s t
    simp only [Instr.sameNow]
    congr 1
    refine Bool.eq_iff_iff.2 ?_
    rw [bytes_beq]
    constructor
    · intro e; injection e with e; simpa using e
    · intro e; have e':s=t:=by simpa using e
      rw [e']
  · split at h
    · rename_i e
      cases h
      cases hu; cases hv
      cases d <;> first|exact hd.elim|skip
      simp [Instr.sameNow,e]
    · cases h
  · cases h
    cases hu; cases hv
    cases d <;> first|exact hd.elim|skip
    simp [Instr.sameNow]
  · cases d <;> exact hd.elim
  · cases h
theorem aB8 {q:List Nat} {t:TypeId} {r s:List V} {b:Bool} {cu cv:Value} (hq:iF P t=some q) (h:dD q r s=some b) (hu:R x (.agg r) cu) (hv:R x (.agg s) cv) (w:World):(Op.equal t cu cv).run P w=.ok b w:=by
  obtain ⟨xs,rfl⟩: ∃ xs,cu=.agg xs:=by cases hu with|agg _ xs _ _=>exact ⟨xs,rfl⟩
  obtain ⟨ys,rfl⟩: ∃ ys,cv=.agg ys:=by cases hv with|agg _ ys _ _=>exact ⟨ys,rfl⟩
  exact (vG hq h hu hv w).1
theorem jZ : ∀ {q : List Nat} {r s : List V}, dD q r s = some true → r = s
  | q, r, s, h => by
    unfold dD at h
    split at h
    · rfl
    · split at h
      · rename_i hk
        obtain ⟨c,g,e⟩:=Option.map_eq_some_iff.1 h
        rw [Bool.and_eq_true] at e
        have e3:=jZ (g.trans (congrArg some e.2))
        rw [e3,hk,eq_of_beq e.1]
      · cases h
    · obtain ⟨c,g,e⟩:=Option.map_eq_some_iff.1 h
      rw [Bool.and_eq_true] at e
      have e3:=jZ (g.trans (congrArg some e.2))
      rw [e3,eq_of_beq e.1]
    · obtain ⟨c,g,e⟩:=Option.map_eq_some_iff.1 h
      rw [Bool.and_eq_true] at e
      have e3:=jZ (g.trans (congrArg some e.2))
      rw [e3,eq_of_beq e.1]
    · cases h
theorem lC : ∀ {q : List Nat} {r s : List V} {b : Bool}, dD q r s = some b → ∀ (j : Nat) (v : V), r[j]? = some v → ∀ c d, R x v c → R x v d → c = d ∧ ∀ n, Instr.sameBits n c d = true
  | q, r, s, b, h => by
    intro j v hj c d hc hd
    unfold dD at h
    split at h
    · simp at hj
    · split at h
      · obtain ⟨_,g,_⟩:=Option.map_eq_some_iff.1 h
        cases j with
        |zero=>simp at hj; subst hj; cases hc; cases hd; exact ⟨rfl,fun n=>by unfold Instr.sameBits; simp⟩
        |succ j=>exact lC g j v (by simpa using hj) c d hc hd
      · cases h
    · obtain ⟨_,g,_⟩:=Option.map_eq_some_iff.1 h
      cases j with
      |zero=>simp at hj; subst hj; cases hc; cases hd; exact ⟨rfl,fun n=>by unfold Instr.sameBits; simp [bytes_beq]⟩
      |succ j=>exact lC g j v (by simpa using hj) c d hc hd
    · obtain ⟨_,g,_⟩:=Option.map_eq_some_iff.1 h
      cases j with
      |zero=>simp at hj; subst hj; cases hc; cases hd; exact ⟨rfl,fun n=>by unfold Instr.sameBits; simp⟩
      |succ j=>exact lC g j v (by simpa using hj) c d hc hd
    · cases h
theorem aCq {n:Nat}: ∀ {a b:List Value},a.length=b.length→(∀ (j:Nat) c d,a[j]?=some c→b[j]?=some d→Instr.sameBits n c d=true)→((a.zip b).all fun (p:Value×Value)=>Instr.sameBits n p.1 p.2)=true
  |[],_,_,_=>rfl
  |_::_,[],h,_=>by simp at h
  | c :: a, d :: b, h, hh => by
    rw [List.zip_cons_cons,List.all_cons,hh 0 c d rfl rfl,aCq (by simpa using h) fun j c d h1 h2=>hh (j+1) c d (by simpa using h1) (by simpa using h2)]; rfl
theorem aDm {q : List Nat} {r s : List V} {a b : Value} (h : dD q r s = some true) (hu : R x (.agg r) a) (hv : R x (.agg s) b) : Instr.sameBits 10000 b a = true := by
  have e:=jZ h
  subst e
  cases hu with
  | agg _ xs hs1 hr1 =>
    cases hv with
    | agg _ ys hs2 hr2 =>
      have hz:((ys.toList.zip xs.toList).all fun (p:Value×Value)=>Instr.sameBits 9999 p.1 p.2)=true:=aCq (by simp; omega) fun j c d h1 h2=>by
        have g1:ys[j]?=some c:=by simpa using h1
        have g2:xs[j]?=some d:=by simpa using h2
        have hj:j < r.length:=by have:=(Array.getElem?_eq_some_iff.1 g1).1; omega
        have k1:=hr2 j _ (List.getElem?_eq_getElem hj)
        have k2:=hr1 j _ (List.getElem?_eq_getElem hj)
        rw [Array.getD_eq_getD_getElem?,g1] at k1
        rw [Array.getD_eq_getD_getElem?,g2] at k2
        exact (lC h j _ (List.getElem?_eq_getElem hj) c d k1 k2).2 9999
      show (ys.size==xs.size&&(ys.toList.zip xs.toList).all fun (p:Value×Value)=>Instr.sameBits 9999 p.1 p.2)=true
      rw [hz,show ys.size=xs.size by omega]; simp
def ckF (D : Nat) (e : Bool) (xs : Array Value) (fs : List Field) : Sem PUnit := forIn fs PUnit.unit fun (f : Field) (_ : PUnit) => if f.name ≠ "_" then (do Instr.checkKey e (D + 1) f.type (← part f.type xs f.offset); pure (ForInStep.yield PUnit.unit)) else pure (ForInStep.yield PUnit.unit)
theorem aIX {t:TypeId} {k:Nat} (hk:lQ P t=some k) (D:Nat) (e:Bool) (v:Value) (w:World):(Instr.checkKey e (D+1) t v).run P w=.ok () w:=by
  unfold lQ at hk
  split at hk <;> first|(cases hk; done)|skip
  all_goals (rename_i hu; unfold Instr.checkKey; simp only [Sem.run_bind,run_underlying hu,Result.andThen]; rfl)
theorem aNX {t:TypeId} {n k:Nat} (hp:aDv P t=some (n,k)) (D:Nat) (e:Bool) (cs:Array Value) (hs:n≤cs.size) (w:World):(Instr.checkKey e (D+2) t (.agg cs)).run P w=.ok () w:=by
  obtain ⟨el,ti,hu,hk,hi,hc,hn2,ha⟩:=mV hp
  have hz:(sizeOf el).run P w=.ok 1 w:=by rw [run_sizeOf w hi,hc]
  unfold Instr.checkKey
  simp only [Sem.run_bind,run_underlying hu,Result.andThen_ok]
  simp only [Std.Legacy.Range.forIn_eq_forIn_range',Std.Legacy.Range.size,Nat.sub_zero,Nat.add_one_sub_one,Nat.div_one]
  have key: ∀ (m j:Nat),j+m≤n→(forIn (List.range' j m) PUnit.unit fun (i:Nat) (_:PUnit)=>(do let c ← sizeOf el; let p ← part el cs (i*c); Instr.checkKey e (D+1) el p; pure (ForInStep.yield PUnit.unit):Sem (ForInStep PUnit))).run P w=.ok PUnit.unit w:=by
    intro m
    induction m with
    |zero=>intro j _; simp
    | succ m ih =>
      intro j hj
      rw [List.range'_succ]
      simp only [List.forIn_cons,Sem.run_bind,hz,Result.andThen_ok,Nat.mul_one,lS (mT hk) (show j < cs.size by omega),aIX hk,Sem.run_pure]
      exact ih (j+1) (by omega)
  refine (congrArg (fun r=>Result.andThen r _) (key n 0 (by omega))).trans ?_
  rfl
theorem aBO {D : Nat} (w : World) (e : Bool) (xs : Array Value) : ∀ (fs : List Field) (i : Nat) (q : List Nat), rA P fs i = some q → i + q.length ≤ xs.size →
    (ckF (D+1) e xs fs).run P w=.ok PUnit.unit w:=by
  intro fs
  induction fs with
  |nil=>intro i q _ _; simp [ckF]
  | cons f fs ih =>
    intro i q h1 hx
    simp only [rA] at h1
    split at h1
    rotate_left
    · cases h1
    rename_i hg
    simp only [Bool.and_eq_true,bne_iff_ne,ne_eq,decide_eq_true_eq] at hg
    obtain ⟨hn,ho⟩:=hg
    split at h1
    · rename_i k hk
      obtain ⟨q',g,rfl⟩:=Option.map_eq_some_iff.1 h1
      simp only [List.length_cons] at hx
      have:=ih (i+1) q' g (by omega)
      unfold ckF at this ⊢
      simp only [List.forIn_cons,Sem.run_bind,Sem.run_ite,ne_eq,hn,not_false_eq_true,if_true,ho,lS (mT hk) (show i < xs.size by omega),aIX hk,Result.andThen_ok,Sem.run_pure]
      exact this
    · split at h1
      · rename_i p hp
        obtain ⟨n,k⟩:=p
        obtain ⟨q',g,rfl⟩:=Option.map_eq_some_iff.1 h1
        obtain ⟨el,ti,hu,hk,hi,hc,hn2,ha⟩:=mV hp
        simp only [List.length_append,List.length_replicate] at hx
        have:=ih (i+n) q' g (by omega)
        unfold ckF at this ⊢
        simp only [List.forIn_cons,Sem.run_bind,Sem.run_ite,ne_eq,hn,not_false_eq_true,if_true,ho,aCj ha hn2,aNX hp D e _ (show n≤(xs.extract i (i+n)).size by simp; omega),Result.andThen_ok,Sem.run_pure]
        exact this
      · cases h1
theorem lE : ∀ {q : List Nat} {r s : List V} {b : Bool}, dD q r s = some b → r.length = q.length
  | q, r, s, b, h => by
    unfold dD at h
    split at h
    · rfl
    · split at h
      · obtain ⟨_,g,_⟩:=Option.map_eq_some_iff.1 h
        simp [lE g]
      · cases h
    · obtain ⟨_,g,_⟩:=Option.map_eq_some_iff.1 h
      simp [lE g]
    · obtain ⟨_,g,_⟩:=Option.map_eq_some_iff.1 h
      simp [lE g]
    · cases h
theorem aCf {t : TypeId} {q : List Nat} {r : List V} {c : Value} (hq : iF P t = some q) (h : r.length = q.length) (hu : R x (.agg r) c) (e : Bool) (w : World) : (Instr.checkKey e 10000 t c).run P w = .ok () w := by
  unfold iF at hq
  cases hu with
  | agg _ xs hs1 hr1 =>
    split at hq
    · rename_i fs hfs
      split at hq
      · cases hq
      · have h3:=aBO (P:=P) (D:=9997) w e xs fs.toList 0 q hq (by omega)
        show (Instr.checkKey e (9999+1) t (.agg xs)).run P w=_
        unfold Instr.checkKey
        simp only [Sem.run_bind,run_underlying hfs,Result.andThen_ok]
        rw [← Array.forIn_toList]
        refine (congrArg (fun r=>Result.andThen r _) h3).trans ?_
        rfl
    · split at hq
      · cases hq
      · obtain ⟨p,hp,rfl⟩:=Option.map_eq_some_iff.1 hq
        obtain ⟨n,k⟩:=p
        simp only [List.length_replicate] at h
        exact aNX hp 9998 e xs (by omega) w
    · cases hq
inductive EL (x:Cx):List (List V)→List MapEntry→Prop where
  |nil:EL x [] []
  |cons {row:List V} {e:MapEntry} {l:List (List V)} {m:List MapEntry} (h: ∀ k v,row=[k,v]→R x k e.key∧R x v e.val) (ht:EL x l m):EL x (row::l) (e::m)
theorem aOt: ∀ {l:List (List V)} {m:List MapEntry},l.length=m.length→(∀ (i:Nat) row e,l[i]?=some row→m[i]?=some e→ ∀ k v,row=[k,v]→R x k e.key∧R x v e.val)→EL x l m
  |[],[],_,_=>.nil
  |[],_::_,h,_=>by simp at h
  |_::_,[],h,_=>by simp at h
  |r::l,e::m,h,hh=>.cons (hh 0 r e rfl rfl) (aOt (by simpa using h) fun i row e h1 h2=>hh (i+1) row e (by simpa using h1) (by simpa using h2))
theorem aAA {kd : Nat} {d : TypeDesc} {key : V} {kc : Value} (hd : aLU kd d) (hk : R x key kc) : ∀ {l : List (List V)} {m : List MapEntry} {i : Nat} {r : Option (Nat × V)}, EL x l m → gK kd key l i = some r →
    (r=none∧Instr.findNow d kc m i=some none)∨ ∃ j v c,r=some (i+j,v)∧Instr.findNow d kc m i=some (some (i+j,c))∧R x v c∧j < l.length∧ ∃ e,m[j]?=some e∧Instr.sameNow d kc e.key=some true
  | [], _, i, r, .nil, h => by
    simp only [gK] at h; cases h
    exact .inl ⟨rfl,rfl⟩
  | row :: l, e :: m, i, r, .cons h1 ht, h => by
    match row,h,h1 with
    | [kk, v], h, h1 =>
      obtain ⟨a1,a2⟩:=h1 kk v rfl
      simp only [gK] at h
      cases q:aAa kd key kk with
      |none=>rw [q] at h; cases h
      | some b =>
        have hs:=aG4 hd q hk a1
        rw [q] at h
        cases b with
        |true=>cases h; exact .inr ⟨0,v,e.val,rfl,by simp [Instr.findNow,hs],a2,by simp,e,rfl,hs⟩
        | false =>
          rcases aAA hd hk ht h with ⟨g1,g2⟩|⟨j,w,c,g1,g2,g3,g4,e',g5,g6⟩
          · exact .inl ⟨g1,by simp [Instr.findNow,hs,g2]⟩
          · exact .inr ⟨j+1,w,c,by rw [g1]; congr 2; omega,by simp only [Instr.findNow,hs]; rw [g2]; congr 3; omega,g3,by simp; omega,e',by simpa using g5,g6⟩
    |[],h,_=>simp [gK] at h
    |[_],h,_=>simp [gK] at h
    |_::_::_::_,h,_=>simp [gK] at h
theorem aKb {m:Nat} {u v:V} {b:Bool} (h:aAa (m+3) u v=some b): ∃ r s,u=.agg r∧v=.agg s∧dD (uS 300 m) r s=some b:=by
  cases u with
  | agg r => cases v with
    |agg s=>exact ⟨r,s,rfl,rfl,h⟩
    |_=>cases h
  |_=>cases v <;> cases h
theorem aIH {m:Nat} {u:V} (h:nI (m+3) u=true): ∃ r,u=.agg r∧dD (uS 300 m) r r=some true:=by
  cases u with
  |agg r=>exact ⟨r,rfl,beq_iff_eq.1 h⟩
  |_=>cases h
theorem aFd {m : Nat} {kt : TypeId} {key : V} {kc : Value} (hd : iF P kt = some (uS 300 m)) (hk : R x key kc) (w : World) : ∀ {l : List (List V)} {mm : List MapEntry} {i : Nat} {r : Option (Nat × V)}, EL x l mm → gK (m + 3) key l i = some r →
    (r=none∧(Instr.findAsking kt kc mm i).run P w=.ok none w)∨ ∃ j v c,r=some (i+j,v)∧(Instr.findAsking kt kc mm i).run P w=.ok (some (i+j,c)) w∧R x v c∧j < l.length∧ ∃ e,mm[j]?=some e∧Instr.sameBits 10000 e.key kc=true
  | [], _, i, r, .nil, h => by
    simp only [gK] at h; cases h
    exact .inl ⟨rfl,by simp [Instr.findAsking]⟩
  | row :: l, e :: mm, i, r, .cons h1 ht, h => by
    match row,h,h1 with
    | [kk, v], h, h1 =>
      obtain ⟨a1,a2⟩:=h1 kk v rfl
      simp only [gK] at h
      cases q:aAa (m+3) key kk with
      |none=>rw [q] at h; cases h
      | some b =>
        obtain ⟨r0,s0,rfl,rfl,q'⟩:=aKb q
        have hs:=aB8 (P:=P) hd q' hk a1 w
        rw [q] at h
        cases b with
        |true=>cases h; exact .inr ⟨0,v,e.val,rfl,by simp [Instr.findAsking,hs],a2,by simp,e,rfl,aDm q' hk a1⟩
        | false =>
          rcases aFd hd hk w ht h with ⟨g1,g2⟩|⟨j,u,c,g1,g2,g3,g4,e',g5,g6⟩
          · exact .inl ⟨g1,by simp [Instr.findAsking,hs,g2]⟩
          · exact .inr ⟨j+1,u,c,by rw [g1]; congr 2; omega,by simp only [Instr.findAsking,Sem.run_bind,hs,Result.andThen_ok,Bool.false_eq_true,if_false]; rw [g2]; congr 3; omega,g3,by simp; omega,e',by simpa using g5,g6⟩
    |[],h,_=>simp [gK] at h
    |[_],h,_=>simp [gK] at h
    |_::_::_::_,h,_=>simp [gK] at h
end
end Go.Proofs.YteehaobohaecmaaGreatDoor


namespace Go.Proofs.YteehaobohaecmaaGreatDoor
open Go Go.MapKept
section
variable {P:Program} {x:Cx}
theorem aBe {kt:TypeId} {kd:Nat} {key:V} {c:Value} (hd:aMM P kt kd) (hi:nI kd key=true) (hr:R x key c) (e:Bool) (w:World):(Instr.checkKey e 10000 kt c).run P w=.ok () w:=by
  rcases hd with ⟨d,hd,hk⟩|⟨m,rfl,hq⟩
  · unfold Instr.checkKey
    simp only [Sem.run_bind,run_underlying hd,Result.andThen]
    unfold nI at hi
    split at hi
    · cases hr; cases d <;> first|exact hk.elim|rfl
    · cases hr; cases d <;> first|exact hk.elim|rfl
    · cases hr; cases d <;> first|exact hk.elim|rfl
    · cases d <;> exact hk.elim
    · cases hi
  · obtain ⟨r,rfl,hi3⟩:=aIH hi
    exact aCf hq (lE hi3) hr e w
theorem aGT {kd:Nat} {d:TypeDesc} {key:V} {a b:Value} (hk:aLU kd d) (hi:nI kd key=true) (hr:R x key a) (hs:Instr.sameNow d a b=some true):Instr.sameBits 10000 b a=true:=by
  unfold nI at hi
  split at hi
  · cases hr
    cases d <;> first|exact hk.elim|skip
    cases b <;> simp [Instr.sameNow] at hs
    rw [(bytes_beq _ _).1 hs]
    simp [Instr.sameBits,bytes_beq]
  · cases hr
    cases d <;> first|exact hk.elim|skip
    cases b <;> simp [Instr.sameNow] at hs
    obtain ⟨e1,e2⟩:=hs
    subst e1 e2
    simp [Instr.sameBits]
  · cases hr
    cases d <;> first|exact hk.elim|skip
    cases b <;> simp [Instr.sameNow] at hs
    subst hs
    simp [Instr.sameBits]
  · cases d <;> exact hk.elim
  · cases hi
theorem vV {kt:TypeId} {kd:Nat} {key:V} {kc:Value} (hd:aMM P kt kd) (hi:nI kd key=true) (hk:R x key kc) (w:World) {l:List (List V)} {mm:List MapEntry} {r:Option (Nat×V)} (hl:EL x l mm) (h:gK kd key l 0=some r):
    (r=none∧(Instr.findKey kt kc mm).run P w=.ok none w)∨ ∃ j v c,r=some (j,v)∧(Instr.findKey kt kc mm).run P w=.ok (some (j,c)) w∧R x v c∧j < l.length∧ ∃ e,mm[j]?=some e∧Instr.sameBits 10000 e.key kc=true:=by
  rcases hd with ⟨d,hd,hkd⟩|⟨m,rfl,hq⟩
  · rcases aAA hkd hk hl h with ⟨g1,g2⟩|⟨j,v,c,g1,g2,g3,g4,e',g5,g6⟩
    · exact .inl ⟨g1,MapKept.run_findKey hd g2⟩
    · exact .inr ⟨j,v,c,by rw [g1,Nat.zero_add],by rw [Nat.zero_add] at g2; exact MapKept.run_findKey hd g2,g3,g4,e',g5,aGT hkd hi hk g6⟩
  · have hw:(match P.underlying kt with|some (.array _ _)|some (.struct _)=>true|_=>false)=true:=by
      unfold iF at hq
      split at hq
      · rename_i fs hfs; rw [hfs]
      · rename_i hfs; rw [hfs]
      · cases hq
    rcases aFd hq hk w hl h with ⟨g1,g2⟩|⟨j,v,c,g1,g2,g3,g4,e',g5,g6⟩
    · exact .inl ⟨g1,by rw [run_findKey_eq w hw]; exact g2⟩
    · exact .inr ⟨j,v,c,by rw [g1,Nat.zero_add],by rw [Nat.zero_add] at g2; rw [run_findKey_eq w hw]; exact g2,g3,g4,e',g5,g6⟩
theorem yG (hx:Inv x) {id ver:Nat} {c:Value} (hr:R x (.mm id ver) c) (ho:(x.H id).own=true) (hv:(x.H id).ver=ver) (hM:(x.H id).isM=true) (hsz:(x.H id).sz=2) {h:List V} {es:List (List V)} (he:(x.H id).rows=h::es):
    c = .map (some (x.σ id)) ∧ ∃ cc, x.w.heap[x.σ id]? = some (gZ es.length cc) ∧ (es.length + 1) * 2 ≤ cc.size ∧ (∀ r ∈ h :: es, r.length = 2) ∧
      (∀ (r:Nat) (row:List V) (j:Nat) (v:V),(h::es)[r]?=some row→row[j]?=some v→R x v (cc.getD (r*2+j) undef))∧
      EL x es (Array.ofFn fun i:Fin es.length=>(⟨cc.getD (2*(i.val+1)) undef,cc.getD (2*(i.val+1)+1) undef,i.val⟩:MapEntry)).toList:=by
  cases hr with
  | mm _ _ b _ hh =>
    obtain ⟨_,rfl⟩:=hh hv ho
    obtain ⟨cc,h1,h2,h3,h4⟩:=hx.blk id ho
    rw [tC hM,he] at h1
    rw [he,hsz] at h2 h4
    rw [he,hsz] at h3
    refine ⟨rfl,cc,h1,by simpa using h3,h2,h4,aOt (by simp) fun i row e g1 g2 k v hrow=>?_⟩
    have hil:i < es.length:=(List.getElem?_eq_some_iff.1 g1).1
    have ee:e=⟨cc.getD (2*(i+1)) undef,cc.getD (2*(i+1)+1) undef,i⟩:=by
      rw [Array.getElem?_toList,Array.getElem?_eq_getElem (by simpa using hil)] at g2
      injection g2 with g2
      rw [← g2,Array.getElem_ofFn]
    subst hrow
    have k1:=h4 (i+1) [k,v] 0 k (by simpa using g1) rfl
    have k2:=h4 (i+1) [k,v] 1 v (by simpa using g1) rfl
    rw [ee]
    rw [show (i+1)*2+0=2*(i+1) by omega] at k1
    rw [show (i+1)*2+1=2*(i+1)+1 by omega] at k2
    exact ⟨k1,k2⟩
theorem aMN {e:TypeId} {z:V} (h:aFp P e=some z) (w:World): ∃ c,(zeroValue e).run P w=.ok c w∧R x z c:=by
  unfold aFp at h
  cases hi:P.info? e with
  |none=>simp [hi] at h
  | some i =>
    cases hz:i.zero with
    |none=>simp [hi,hz] at h
    | some v =>
      simp only [hi,hz,Option.bind_some] at h
      refine ⟨v,by simp [zeroValue,typeInfo,hi,hz],?_⟩
      split at h
      · rename_i e; cases h; cases e; exact .int _ _
      · rename_i e; cases h; cases e; exact .bool _
      · rename_i s e; cases h; cases e; exact R.str s.data.toList
      · cases h
theorem aG8 (hx : Inv x) {t k e : TypeId} {kd : Nat} {ok : Bool} {z u key : V} {p : V × Bool} {cu ck : Value} (h : aD3 x.H kd z u key = some p) (hu : R x u cu) (hk : R x key ck) (ht : P.underlying t = some (.map k e)) (hkd : vH P k = some kd) (hz : aFp P e = some z) :
    ∃ c,(Instr.lookup t cu ck ok).run P x.w=.ok c x.w∧R x (if ok then .tup [p.1,.bool p.2] else p.1) c:=by
  have hK:=aDy hkd
  unfold aD3 at h
  split at h
  · rename_i id ver
    split at h
    · rename_i hc
      simp only [Bool.and_eq_true,decide_eq_true_eq] at hc
      obtain ⟨⟨⟨⟨ho,hv⟩,hM⟩,hsz⟩,hi⟩:=hc
      split at h
      · rename_i hd0 es he
        obtain ⟨rfl,cc,c1,c2,c3,c4,c5⟩:=yG hx hu ho hv hM hsz he
        have fin: ∀ {v:V} {c:Value} {b:Bool},R x v c→R x (if ok then .tup [v,.bool b] else v) (if ok then .tuple #[c,.bool b] else c):=fun {v c b} hr=>by
          cases ok
          · exact hr
          · refine .tup _ _ rfl fun j w hj=>?_
            match j,hj with
            |0,hj=>simp at hj; subst hj; exact hr
            |1,hj=>simp at hj; subst hj; exact .bool b
            |j+2,hj=>simp at hj
        unfold gZ at c1
        cases hf:gK kd key es 0 with
        |none=>rw [hf] at h; cases h
        | some r =>
          rw [hf] at h
          rcases vV hK hi hk x.w c5 hf with ⟨g1,g2⟩|⟨j,v,c,g1,g2,g3,_⟩
          · subst g1
            cases h
            obtain ⟨zc,z1,z2⟩:=aMN (x:=x) hz x.w
            refine ⟨_,?_,fin z2⟩
            simp only [Instr.lookup,Sem.run_bind,run_underlying ht,Result.andThen_ok,MapKept.run_getObj_map c1,Sem.run_pure,aBe hK hi hk,g2,z1]
          · subst g1
            cases h
            refine ⟨_,?_,fin g3⟩
            simp only [Instr.lookup,Sem.run_bind,run_underlying ht,Result.andThen_ok,MapKept.run_getObj_map c1,Sem.run_pure,aBe hK hi hk,g2]
      · cases h
    · cases h
  · cases h
theorem aIP (hx : Inv x) {t ty k e : TypeId} {u r : V} {cu : Value} (h : aIc x.H u = some r) (hu : R x u cu) (ht : P.underlying t = some (.map k e)) :
    ∃ c,(Builtin.len_ #[t] ty #[cu]).run P x.w=.ok c x.w∧R x r c:=by
  unfold aIc at h
  split at h
  · rename_i id ver
    split at h
    · rename_i hc
      simp only [Bool.and_eq_true,decide_eq_true_eq] at hc
      obtain ⟨⟨⟨ho,hv⟩,hM⟩,hsz⟩:=hc
      split at h
      · rename_i hd0 es he
        cases h
        obtain ⟨rfl,cc,c1,_,_,_,_⟩:=yG hx hu ho hv hM hsz he
        unfold gZ at c1
        refine ⟨_,run_len_map x.w t ty _ _ _ (by unfold Program.mapKeyOf Program.mapElemOf; rw [ht]) c1,?_⟩
        simp only [Array.size_ofFn]
        exact .int _ _
      · cases h
    · cases h
  · cases h
def aCb (n i:Nat) (a b:Value) (cc:Array Value):Array Value:=Array.ofFn fun j:Fin (2*(n+1))=>if j.val=2*(i+1) then a else if j.val=2*(i+1)+1 then b else cc.getD j.val undef
theorem pA {n i j:Nat} {a b:Value} {cc:Array Value} (h:j < 2*(n+1)):(aCb n i a b cc).getD j undef=if j=2*(i+1) then a else if j=2*(i+1)+1 then b else cc.getD j undef:=by
  unfold aCb
  rw [Array.getD_eq_getD_getElem?,Array.getElem?_eq_getElem (by simpa using h),Array.getElem_ofFn]; rfl
theorem aAo {n i:Nat} {a b:Value} {cc:Array Value}:(aCb n i a b cc).size=2*(n+1):=by simp [aCb]
theorem aCe {n:Nat} {a b:Value} {cc:Array Value}:
    Obj.map ((Array.ofFn fun i:Fin n=>(⟨cc.getD (2*(i.val+1)) undef,cc.getD (2*(i.val+1)+1) undef,i.val⟩:MapEntry)).push ⟨a,b,n⟩) (n+1)=gZ (n+1) (aCb (n+1) n a b cc):=by
  unfold gZ
  congr 1
  refine Array.ext (by simp) fun i h1 h2=>?_
  have hi:i < n+1:=by simpa using h2
  rw [Array.getElem_ofFn,pA (by simp only; omega),pA (by simp only; omega)]
  rw [Array.getElem_push]
  split
  · rename_i h3
    have h3':i < n:=by simpa using h3
    rw [Array.getElem_ofFn]
    simp only
    rw [if_neg (by omega),if_neg (by omega),if_neg (by omega),if_neg (by omega)]
  · rename_i h3
    have : i = n := by have : ¬ i < n := by simpa using h3
                       omega
    subst this
    simp only
    rw [if_pos trivial,if_neg (by omega),if_pos trivial]
theorem aB9 {n i:Nat} {a b:Value} {cc:Array Value} (hi:i < n):
    Obj.map ((Array.ofFn fun i:Fin n=>(⟨cc.getD (2*(i.val+1)) undef,cc.getD (2*(i.val+1)+1) undef,i.val⟩:MapEntry)).modify i fun e=>{e with key:=a,val:=b}) n=gZ n (aCb n i a b cc):=by
  unfold gZ
  congr 1
  refine Array.ext (by simp) fun j h1 h2=>?_
  have hj:j < n:=by simpa using h2
  rw [Array.getElem_modify,Array.getElem_ofFn,Array.getElem_ofFn,pA (by simp only; omega),pA (by simp only; omega)]
  simp only
  split
  · rename_i e
    subst e
    rw [if_pos rfl,if_neg (by omega),if_pos rfl]
  · rename_i e
    rw [if_neg (by omega),if_neg (by omega),if_neg (by omega),if_neg (by omega)]
theorem aAI {h:List V} {es es':List (List V)} {cc:Array Value} {i:Nat} {key val:V} {a b:Value} (ha:R x key a) (hb:R x val b) (h4: ∀ (r:Nat) (row:List V) (j:Nat) (v:V),(h::es)[r]?=some row→row[j]?=some v→R x v (cc.getD (r*2+j) undef))
    (hl: ∀ r∈h::es',r.length=2) (hi:es'[i]?=some [key,val]) (ho: ∀ r,r≠i→r < es'.length→es'[r]?=es[r]?):
    ∀ (r:Nat) (row:List V) (j:Nat) (v:V),(h::es')[r]?=some row→row[j]?=some v→R x v ((aCb es'.length i a b cc).getD (r*2+j) undef):=by
  intro r row j v hr hj
  have hrl:=hl row (List.mem_of_getElem? hr)
  have hjl:j < 2:=by have:=(List.getElem?_eq_some_iff.1 hj).1; omega
  have hrlt:r < es'.length+1:=by have:=(List.getElem?_eq_some_iff.1 hr).1; simpa using this
  rw [pA (by omega)]
  cases r with
  | zero =>
    rw [if_neg (by omega),if_neg (by omega)]
    exact h4 0 row j v (by simpa using hr) hj
  | succ r =>
    have hr':es'[r]?=some row:=by simpa using hr
    by_cases e:r=i
    · subst e
      rw [hi] at hr'
      cases hr'
      match j,hj,hjl with
      |0,hj,_=>simp at hj; subst hj; rw [if_pos (by omega)]; exact ha
      |1,hj,_=>simp at hj; subst hj; rw [if_neg (by omega),if_pos (by omega)]; exact hb
    · rw [if_neg (by omega),if_neg (by omega)]
      rw [ho r e (by omega)] at hr'
      exact h4 (r+1) row j v (by simpa using hr') hj
theorem aCo (hx : Inv x) {t k e : TypeId} {kd : Nat} {u key val : V} {H' : aP} {cu ck cv : Value} (h : aC4 x.H kd u key val = some H') (hu : R x u cu) (hk : R x key ck) (hv : R x val cv) (ht : P.underlying t = some (.map k e)) (hkd : vH P k = some kd) :
    ∃ y:Cx,(Instr.mapUpdate t cu ck cv).run P x.w=.ok () y.w∧y.H=H'∧Inv y∧Frame x y:=by
  have hK:=aDy hkd
  unfold aC4 at h
  split at h
  · rename_i id ver
    split at h
    · rename_i hc
      simp only [Bool.and_eq_true,decide_eq_true_eq] at hc
      obtain ⟨⟨⟨⟨ho,hver⟩,hM⟩,hsz⟩,hi⟩:=hc
      split at h
      · rename_i h0 es he
        obtain ⟨rfl,cc,c1,c2,c3,c4,c5⟩:=yG hx hu ho hver hM hsz he
        have c1':=c1
        unfold gZ at c1'
        have hl2:([key,val]:List V).length=2:=rfl
        cases hf:gK kd key es 0 with
        |none=>rw [hf] at h; cases h
        | some r =>
          rw [hf] at h
          rcases vV hK hi hk x.w c5 hf with ⟨g1,g2⟩|⟨j,v,c,g1,g2,g3,g4,e',g5,g6⟩
          · subst g1
            cases h
            have hl: ∀ r∈h0::(es++[[key,val]]),r.length=2:=fun r hr=>by
              rcases List.mem_cons.1 hr with q|q
              · exact c3 r (by rw [q]; exact List.mem_cons_self ..)
              · rcases List.mem_append.1 q with q|q
                · exact c3 r (List.mem_cons_of_mem _ q)
                · rw [List.mem_singleton.1 q]; rfl
            have hR:=aAI (es':=es++[[key,val]]) (i:=es.length) hk hv c4 hl (by simp) fun r hne hlt=>by
              have:r < es.length:=by simp at hlt; omega
              exact List.getElem?_append_left this
            obtain ⟨sI,sF⟩:=aCW hx id ho hM h0 (es++[[key,val]]) (aCb (es++[[key,val]]).length es.length ck cv cc) (by rw [hsz]; exact hl) (by rw [hsz,aAo]; omega) (by rw [hsz]; exact hR)
            refine ⟨_,?_,rfl,sI,sF⟩
            simp only [Instr.mapUpdate,Sem.run_bind,run_underlying ht,Result.andThen_ok,MapKept.run_getObj_map c1',aBe hK hi hk,g2,MapKept.run_setObj_map _ c1',Sem.run_pure]
            congr 3
            have:=aCe (n:=es.length) (a:=ck) (b:=cv) (cc:=cc)
            rw [this]
            simp
          · subst g1
            cases h
            have hl: ∀ r∈h0::es.set j [key,val],r.length=2:=fun r hr=>by
              rcases List.mem_cons.1 hr with q|q
              · exact c3 r (by rw [q]; exact List.mem_cons_self ..)
              · rcases List.mem_or_eq_of_mem_set q with q|q
                · exact c3 r (List.mem_cons_of_mem _ q)
                · rw [q]; rfl
            have hR:=aAI (es':=es.set j [key,val]) (i:=j) hk hv c4 hl (by simp [g4]) fun r hne hlt=>List.getElem?_set_ne (Ne.symm hne)
            rw [List.length_set] at hR
            obtain ⟨sI,sF⟩:=aCW hx id ho hM h0 (es.set j [key,val]) (aCb es.length j ck cv cc) (by rw [hsz]; exact hl) (by rw [hsz,aAo,List.length_set]; omega) (by rw [hsz]; exact hR)
            refine ⟨_,?_,rfl,sI,sF⟩
            have hsb:=g6
            have hkey:((Array.ofFn fun i:Fin es.length=>(⟨cc.getD (2*(i.val+1)) undef,cc.getD (2*(i.val+1)+1) undef,i.val⟩:MapEntry))[j]?.map (·.key)).getD ck=e'.key:=by
              rw [← Array.getElem?_toList,g5]; rfl
            simp only [Instr.mapUpdate,Sem.run_bind,run_underlying ht,Result.andThen_ok,MapKept.run_getObj_map c1',aBe hK hi hk,g2,hkey,Instr.keyThatStays,hsb,if_true,MapKept.run_setObj_map _ c1',Sem.run_pure]
            congr 3
            rw [aB9 g4,List.length_set]
      · cases h
    · cases h
  · cases h
end
end Go.Proofs.YteehaobohaecmaaGreatDoor


namespace Go.Proofs.YteehaobohaecmaaGreatDoor
open Go
section
variable {P:Program} {x:Cx} {T:Nat→V} {a:Act}
theorem cV {o:Oper} {s:Sem Value} {w w':World} {c:Value} (he:execOp a.eval o=(do pure (Next.value (← s)))) (h:s.run P w=.ok c w'):(execOp a.eval o).run P w=.ok (.value c) w':=by
  rw [he]; simp only [Sem.run_bind,h,Result.andThen_ok,Sem.run_pure]
theorem tP {o:Oper} {s:Sem Unit} {w w':World} (he:execOp a.eval o=(do s; pure Next.skip)) (h:s.run P w=.ok () w'):(execOp a.eval o).run P w=.ok .skip w':=by
  rw [he]; simp only [Sem.run_bind,h,Result.andThen_ok,Sem.run_pure]
theorem map_some {α β:Type} {f:α→β} {o:Option α} {b:β} (h:o.map f=some b): ∃ a,o=some a∧f a=b:=by
  cases o <;> simp_all
theorem oJ {α β:Type} {f:α→Option β} {o:Option α} {b:β} (h:o.bind f=some b): ∃ a,o=some a∧f a=some b:=by
  cases o <;> simp_all
theorem uY (hT: ∀ i,R x (T i) (a.tmps.getD i undef)) {os:List Operand} {ss:List SX} (h:fX sx os=some ss):RL x (evs T ss) (os.map a.eval):=by
  obtain ⟨h1,h2⟩:=gF h
  refine ⟨by simp [aJE,h1],fun j v hj=>?_⟩
  rw [aJE,List.getElem?_map] at hj
  obtain ⟨s,hs,rfl⟩:=map_some hj
  obtain ⟨o,ho,hso⟩:=h2 j s hs
  have:(os.map a.eval).getD j undef=a.eval o:=by simp [ho]
  rw [this]
  exact dN hT hso
theorem RL.append {us vs:List V} {cs ds:List Value} (h:RL x us cs) (k:RL x vs ds):RL x (us++vs) (cs++ds):=by
  refine ⟨by simp [h.1,k.1],fun j v hj=>?_⟩
  rw [List.getElem?_append] at hj
  rw [List.getD_eq_getElem?_getD,List.getElem?_append,h.1]
  split at hj
  · rename_i hlt
    rw [if_pos hlt,← List.getD_eq_getElem?_getD]; exact h.2 _ _ hj
  · rename_i hlt
    rw [if_neg hlt,← List.getD_eq_getElem?_getD]; exact k.2 _ _ hj
theorem aB7 {vs:List V} {cs:Array Value} (hs:cs.size=vs.length) (h: ∀ (j:Nat) (v:V),vs[j]?=some v→R x v (cs.getD j undef)):RL x vs cs.toList:=
  ⟨by simp [hs],fun j v hj=>by have:=h j v hj; rwa [Array.getD_eq_getD_getElem?,← Array.getElem?_toList,← List.getD_eq_getElem?_getD] at this⟩
theorem sJ {f:Nat} (h:dV P f) (args:Array Value) (w:World):(callFunc f args).run P w=.ok (.enter f args) w:=by
  obtain ⟨fn,h1,h2,h3⟩:=h
  have h4:fn.body.isNone=false:=by cases hb:fn.body <;> simp_all
  simp only [callFunc,Sem.run_bind,run_program,Result.andThen_ok,h1,h3,h4,Bool.false_eq_true,if_false]
  rfl
theorem aFg {o:Oper} {f:Nat} {args:List V} {H H':aP} {v:V} (hc:eR P f args H v H') (hH:x.H=H) (hx:Inv x) {cs:List Value} (hr:RL x args cs)
    (he:(execOp a.eval o).run P x.w=.ok (.enter f cs.toArray) x.w) {next:Act→World→Prop} {Q:Exit→Act→World→Prop}
    (hn: ∀ c (y:Cx),y.H=H'→Inv y→R y v c→Frame x y→next (a.put o.dst c) y.w):o.wp P a x.w next Q:=by
  unfold Oper.wp
  rw [he,Oper.upon_enter]
  refine (hc.2 x cs hH hx hr).mono fun e w' hq=>?_
  obtain ⟨c,y,rfl,rfl,h1,h2,h3,h4⟩:=hq
  exact hn c y h1 h2 h3 h4
theorem mW {o:Option Operand} {s:Option SX} (h:aJU o=some s) (hT: ∀ i,R x (T i) (a.tmps.getD i undef)):
    (∀ v,s.map (ev T)=some v→ ∃ c,o.map a.eval=some c∧R x v c)∧(s.map (ev T)=none→o.map a.eval=none):=by
  cases o with
  |none=>cases h; exact ⟨fun v hv=>by simp at hv,fun _=>rfl⟩
  | some p =>
    obtain ⟨q,hq,rfl⟩:=map_some h
    refine ⟨fun v hv=>?_,fun hv=>by simp at hv⟩
    simp at hv
    subst hv
    exact ⟨_,rfl,dN hT hq⟩
theorem aKj {o : Oper} {op : Opt} {d : Nat} {f : Operand} {args : Array Operand} {tys : Array TypeId} {X : X} (hop : o.op = .call ⟨.value f, args, tys⟩) (hs : oZ P op d ⟨.value f, args, tys⟩ = some X)
    {id:Nat} {k:V→aP→Prop} (hst:St P id X T x.H k) (hx:Inv x) (hT: ∀ i,R x (T i) (a.tmps.getD i undef)) {next:Act→World→Prop} {Q:Exit→Act→World→Prop}
    (hn: ∀ v c (y:Cx),k v y.H→Inv y→R y v c→Frame x y→next (a.put o.dst c) y.w):o.wp P a x.w next Q:=by
  have run: ∀ (g:Nat) (fs cs:Array Value),a.eval f=.func (.func g) fs cs→dV P g→(execOp a.eval o).run P x.w=.ok (.enter g (fs.toList++args.toList.map a.eval++cs.toList).toArray) x.w:=by
    intro g fs cs hf hg
    have h1:(fs++args.map a.eval++cs)=(fs.toList++args.toList.map a.eval++cs.toList).toArray:=by simp
    simp only [execOp,hop,resolve,hf,Deferred.ofValue,Sem.run_bind,Sem.run_pure,Result.andThen_ok,invoke,sJ hg,h1]
  have key: ∀ (e:Bool) (g:Nat) (fs cs:Array Value) (first caps:List V) (ss:List SX),a.eval f=.func (.func g) fs cs→RL x first fs.toList→RL x caps cs.toList→fX sx args.toList=some ss→
      tH P e g (first++evs T ss++caps) x.H k→o.wp P a x.w next Q:=by
    intro e g fs cs first caps ss hf h1 h2 h3 h4
    have hr:=(h1.append (uY hT h3)).append h2
    cases e with
    | false =>
      obtain ⟨v,h5,h6⟩:=h4
      have h7:=h5 x.H fun _ _=>rfl
      exact aFg h7 rfl hx hr (run g fs cs hf h7.1) fun c y hy hi hrr hf=>hn v c y (hy ▸ h6) hi hrr hf
    | true =>
      obtain ⟨v,H',h5,h6⟩:=h4
      exact aFg h5 rfl hx hr (run g fs cs hf h5.1) fun c y hy hi hrr hf=>hn v c y (hy ▸ h6) hi hrr hf
  simp only [oZ] at hs
  split at hs
  · rename_i g us hf has
    simp only [Option.some.injEq] at hs
    subst hs
    have hfR:=dN hT hf
    have hnil: ∀ (cs:Array Value),cs.size=([]:List V).length→cs=#[]:=fun cs h=>by
      apply Array.eq_empty_of_size_eq_zero; simpa using h
    cases hfv:a.eval f with
    | func fn fs cs =>
      rw [hfv] at hfR
      cases hfR with
      | fn _ _ _ _ _ h1 h2 _ _ =>
        have e1:=hnil _ h1
        have e2:=hnil _ h2
        subst e1; subst e2
        by_cases hc:(op.own.contains d&& !(op.emut.contains g))=true
        · rw [if_pos hc] at hst
          obtain ⟨v,b,hb,hcall,hk⟩:=hst
          refine key true g #[] #[] [] [] us hfv ⟨rfl,fun j v hj=>by simp at hj⟩ ⟨rfl,fun j v hj=>by simp at hj⟩ has ⟨v,upd x.H id b,?_,hk⟩
          simp only [List.nil_append,List.append_nil]
          exact hcall x.H rfl
        · rw [if_neg hc] at hst
          refine key (op.emut.contains g) g #[] #[] [] [] us hfv ⟨rfl,fun j v hj=>by simp at hj⟩ ⟨rfl,fun j v hj=>by simp at hj⟩ has ?_
          simp only [List.nil_append,List.append_nil]
          exact hst
    |_=>rw [hfv] at hfR; cases hfR
  · rename_i n us hf has
    cases hs
    have hfR:=dN hT hf
    simp only [St,aQA] at hst hfR
    split at hst
    · rename_i g first caps hTn
      rw [hTn] at hfR
      cases hfv:a.eval f with
      | func fn fs cs =>
        rw [hfv] at hfR
        cases hfR with
        | fn _ _ _ _ _ h1 h2 h3 h4 =>
          exact key (op.own.contains d) g fs cs first caps us hfv (aB7 h1 h3) (aB7 h2 h4) has hst
      |_=>rw [hfv] at hfR; cases hfR
    · exact hst.elim
  · cases hs
end
end Go.Proofs.YteehaobohaecmaaGreatDoor


namespace Go.Proofs.YteehaobohaecmaaGreatDoor
open Go
section
variable {P:Program} {x:Cx} {T:Nat→V} {a:Act}
theorem mZ {t e:TypeId} (h:P.underlying t=some (.slice e)) (d:Nat) (b:Option Addr) (n c:Nat) (w:World):(Op.equalIn (d+1) t (.slice b n c) (.slice none 0 0)).run P w=.ok b.isNone w:=by
  cases b <;> simp [Op.equalIn,run_underlying h]
theorem jU {t e:TypeId} (h:P.underlying t=some (.slice e)) (b:Option Addr) (n c:Nat) (w:World):(Op.equal t (.slice b n c) (.slice none 0 0)).run P w=.ok b.isNone w:=
  mZ h 9999 b n c w
theorem rM {t e:TypeId} (h:P.underlying t=some (.slice e)) (b:Option Addr) (n c:Nat) (w:World):(binOp .eql t (.slice b n c) (.slice none 0 0)).run P w=.ok (.bool b.isNone) w:=by
  simp only [binOp]
  simp [jU h]
theorem rK {t e:TypeId} (h:P.underlying t=some (.slice e)) (b:Option Addr) (n c:Nat) (w:World):(binOp .neq t (.slice b n c) (.slice none 0 0)).run P w=.ok (.bool (!b.isNone)) w:=by
  simp only [binOp]
  simp [jU h]
theorem aFK {α:Type} {l:Array α} {b:α} (h:l.toList=[b]):l=#[b]:=by cases l; simp_all
theorem aA0 {α:Type} {l:Array α} {b c:α} (h:l.toList=[b,c]):l=#[b,c]:=by cases l; simp_all
theorem aS1 {α:Type} {l:Array α} {b c d:α} (h:l.toList=[b,c,d]):l=#[b,c,d]:=by cases l; simp_all
theorem aBf {P:Program} {w:World} (ts:Array TypeId) (t:TypeId) (k k' k'':IntKind) (x y z:Int):
    (Builtin.min_ ts t #[.int k x,.int k' y,.int k'' z]).run P w=.ok (.int k (if z < (if y < x then y else x) then z else (if y < x then y else x))) w:=by
  simp [Builtin.min_,Builtin.min2,List.foldlM]
theorem aE7 {o:Oper} {op:Opt} {d:Nat} {b:Builtin} {args:Array Operand} {tys:Array TypeId} {X:X} (hop:o.op=.call ⟨.builtin b,args,tys⟩) (hs:oZ P op d ⟨.builtin b,args,tys⟩=some X)
    {id:Nat} {k:V→aP→Prop} (hst:St P id X T x.H k) (hx:Inv x) (hT: ∀ i,R x (T i) (a.tmps.getD i undef)) {next:Act→World→Prop} {Q:Exit→Act→World→Prop}
    (hn: ∀ v c (y:Cx),k v y.H→Inv y→R y v c→Frame x y→next (a.put o.dst c) y.w):o.wp P a x.w next Q:=by
  have pureop: ∀ {r:V} {c:Value},(execOp a.eval o).run P x.w=.ok (.value c) x.w→R x r c→k r x.H→o.wp P a x.w next Q:=
    fun h1 h2 h3=>jD h1 (hn _ _ x h3 hx h2 (Frame.refl x))
  simp only [oZ] at hs
  split at hs
  · rename_i p t hargs htys
    have ea:=aFK hargs; subst ea
    have et:=aFK htys; subst et
    split at hs
    · rename_i e q he hq
      cases hs
      simp only [St,bO] at hst
      obtain ⟨r,h1,h2⟩:=hst
      obtain ⟨c,h3,h4⟩:=aMu (P:=P) (ty:=o.type) h1 (dN hT hq) he x.w
      refine pureop (c:=c) ?_ h4 h2
      simp only [execOp,hop,resolve,invoke,builtin,Sem.run_bind,Sem.run_pure,Result.andThen_ok,List.map_toArray,List.map_cons,List.map_nil,h3]
    · rename_i q he hq
      cases hs
      simp only [St,bO] at hst
      obtain ⟨r,h1,h2⟩:=hst
      obtain ⟨c,h3,h4⟩:=aId (P:=P) (ty:=o.type) h1 (dN hT hq) he x.w
      refine pureop (c:=c) ?_ h4 h2
      simp only [execOp,hop,resolve,invoke,builtin,Sem.run_bind,Sem.run_pure,Result.andThen_ok,List.map_toArray,List.map_cons,List.map_nil,h3]
    · rename_i kt et q he hq
      cases hs
      simp only [St,bO] at hst
      obtain ⟨r,h1,h2⟩:=hst
      obtain ⟨c,h3,h4⟩:=aIP (P:=P) (ty:=o.type) hx h1 (dN hT hq) he
      refine pureop (c:=c) ?_ h4 h2
      simp only [execOp,hop,resolve,invoke,builtin,Sem.run_bind,Sem.run_pure,Result.andThen_ok,List.map_toArray,List.map_cons,List.map_nil,h3]
    · cases hs
  · rename_i p t hargs htys
    have ea:=aFK hargs; subst ea
    have et:=aFK htys; subst et
    split at hs
    · rename_i e q he hq
      obtain ⟨z,hz,rfl⟩:=map_some hs
      simp only [St,bO] at hst
      obtain ⟨H',h1,h2⟩:=hst
      obtain ⟨y,g1,g2,g3,g4⟩:=aK6 (P:=P) hx (iJ he) hz h1 (dN hT hq) o.type
      refine jD (c:=.tuple #[]) (w':=y.w) ?_ (hn _ _ y (by rw [g2]; exact h2) g3 (.tup [] #[] rfl (fun j v hj=>by simp at hj)) g4)
      simp only [execOp,hop,resolve,invoke,builtin,Sem.run_bind,Sem.run_pure,Result.andThen_ok,List.map_toArray,List.map_cons,List.map_nil,g1]
    · cases hs
  · rename_i p q t t' hargs htys
    have ea:=aA0 hargs; subst ea
    have et:=aA0 htys; subst et
    split at hs
    · rename_i e sp sq he hp hq
      obtain ⟨n,hsn,rfl⟩:=map_some hs
      simp only [St,bO] at hst
      obtain ⟨r,h1,h2⟩:=hst
      obtain ⟨y,g1,g2,g3,g4⟩:=aMq (P:=P) hx (iJ he) hsn h1 (dN hT hp) (dN hT hq) t' o.type
      refine jD (c:=.int .i64 (r.1:Nat)) (w':=y.w) ?_ (hn _ _ y (by rw [g2]; exact h2) g3 (.int _ _) g4)
      simp only [execOp,hop,resolve,invoke,builtin,Sem.run_bind,Sem.run_pure,Result.andThen_ok,List.map_toArray,List.map_cons,List.map_nil,g1]
    · cases hs
  · rename_i p q hargs
    have ea:=aA0 hargs; subst ea
    split at hs
    · rename_i sp sq hp hq
      cases hs
      simp only [St,bO] at hst
      obtain ⟨r,h1,h2⟩:=hst
      have r1:=dN hT hp
      have r2:=dN hT hq
      unfold mnV at h1
      split at h1
      · rename_i k1 n1 k2 n2 e1 e2
        rw [e1] at r1; rw [e2] at r2
        cases h1
        generalize hv1:a.eval p=v1 at r1
        generalize hv2:a.eval q=v2 at r2
        cases r1; cases r2
        refine pureop (c:=.int k1 (if n2 < n1 then n2 else n1)) ?_ (.int _ _) h2
        simp only [execOp,hop,resolve,invoke,builtin,Sem.run_bind,Sem.run_pure,Result.andThen_ok,List.map_toArray,List.map_cons,List.map_nil,hv1,hv2,run_min_int2]
      · cases h1
    · cases hs
  · rename_i p q s hargs
    have ea:=aS1 hargs; subst ea
    split at hs
    · rename_i sp sq ss hp hq hss
      cases hs
      simp only [St,bO] at hst
      obtain ⟨r,h1,h2⟩:=hst
      have r1:=dN hT hp
      have r2:=dN hT hq
      have r3:=dN hT hss
      obtain ⟨u,h0,h1⟩:=oJ h1
      unfold mnV at h0 h1
      split at h0
      · rename_i k1 n1 k2 n2 e1 e2
        cases h0
        split at h1
        · rename_i k3 n3 k4 n4 e3 e4
          cases e3
          cases h1
          rw [e1] at r1; rw [e2] at r2; rw [e4] at r3
          generalize hv1:a.eval p=v1 at r1
          generalize hv2:a.eval q=v2 at r2
          generalize hv3:a.eval s=v3 at r3
          cases r1; cases r2; cases r3
          refine pureop (c:=.int k1 (if n4 < (if n2 < n1 then n2 else n1) then n4 else (if n2 < n1 then n2 else n1))) ?_ (.int _ _) h2
          simp only [execOp,hop,resolve,invoke,builtin,Sem.run_bind,Sem.run_pure,Result.andThen_ok,List.map_toArray,List.map_cons,List.map_nil,hv1,hv2,hv3,aBf]
        · cases h1
      · cases h0
    · cases hs
  · rename_i p q hargs
    have ea:=aA0 hargs; subst ea
    split at hs
    · rename_i sp sq hp hq
      cases hs
      simp only [St,bO] at hst
      obtain ⟨r,h1,h2⟩:=hst
      have r1:=dN hT hp
      have r2:=dN hT hq
      unfold mxV at h1
      split at h1
      · rename_i k1 n1 k2 n2 e1 e2
        rw [e1] at r1; rw [e2] at r2
        cases h1
        generalize hv1:a.eval p=v1 at r1
        generalize hv2:a.eval q=v2 at r2
        cases r1; cases r2
        refine pureop (c:=.int k1 (if n2 > n1 then n2 else n1)) ?_ (.int _ _) h2
        simp only [execOp,hop,resolve,invoke,builtin,Sem.run_bind,Sem.run_pure,Result.andThen_ok,List.map_toArray,List.map_cons,List.map_nil,hv1,hv2,run_max_int2]
      · cases h1
    · cases hs
  · rename_i p q t u hargs htys
    have ea:=aA0 hargs; subst ea
    have et:=aA0 htys; subst et
    split at hs
    · rename_i e sp sq he hp hq
      have fin : ∀ {info : TypeInfo} {z : List V}, ((∃ e', P.underlying u = some (.slice e')) ∨ P.underlying u = some .string) → P.info? e = some info → gP P e = some z → z.length = info.size → info.size ≠ 0 → St P id (.append e info.size info.bytes sp sq) T x.H k → o.wp P a x.w next Q := by
        intro info z hk hi hz hzl hsz0 hst
        simp only [St] at hst
        split at hst
        · rename_i i ver off len hTs
          split at hst
          · rename_i c1
            split at hst
            · rename_i c2
              split at hst
              · rename_i c3
                split at hst
                · rename_i c4
                  split at hst
                  · rename_i c5
                    rw [bO] at hst
                    obtain ⟨new,h1,h2⟩:=hst
                    split at h2
                    · rename_i c6
                      split at h2
                      · rename_i c7
                        split at h2
                        · rename_i c8
                          simp only [Bool.and_eq_true,decide_eq_true_eq] at c1
                          have r1:=dN hT hp
                          rw [hTs,c2] at r1
                          obtain ⟨y,c,g1,g2,g3,g4,g5⟩:=aDd (P:=P) hx (iJ he) hk hi hz rfl rfl hzl hsz0 c1.1 c1.2 c3 c4 c5 h1 c6 c7 c8 r1 (dN hT hq) o.type
                          refine jD (c:=c) (w':=y.w) ?_ (hn _ _ y (by rw [g2]; exact h2) g3 g5 g4)
                          simp only [execOp,hop,resolve,invoke,builtin,Sem.run_bind,Sem.run_pure,Result.andThen_ok,List.map_toArray,List.map_cons,List.map_nil,g1]
                        · exact h2.elim
                      · exact h2.elim
                    · exact h2.elim
                  · exact hst.elim
                · exact hst.elim
              · exact hst.elim
            · exact hst.elim
          · exact hst.elim
        · exact hst.elim
      split at hs
      · rename_i e' info hu hi
        split at hs
        · cases hs
        · rename_i hnz
          split at hs
          · rename_i z hz
            split at hs
            · rename_i hzl
              cases hs
              exact fin (.inl ⟨_,hu⟩) hi hz hzl (fun h=>hnz (.inl h)) hst
            · cases hs
          · cases hs
      · rename_i info hu hi
        split at hs
        · rename_i h1
          split at hs
          · rename_i z hz
            split at hs
            · rename_i hzl
              cases hs
              exact fin (.inr hu) hi hz hzl (by omega) hst
            · cases hs
          · cases hs
        · cases hs
      · cases hs
    · cases hs
  · cases hs
theorem uB {ps:Array (Nat×Operand)} {qs:List (Nat×SX)} (h:fX (fun (p:Nat×Operand)=>(sx p.2).map fun x=>(p.1,x)) ps.toList=some qs) (hT: ∀ i,R x (T i) (a.tmps.getD i undef)):
    (ps.map fun (i,y)=>(i,a.eval y)).toList.length=(qs.map fun p=>(p.1,ev T p.2)).length∧
    ∀ (j:Nat) (q:Nat×V),(qs.map fun p=>(p.1,ev T p.2))[j]?=some q→ ∃ c,(ps.map fun (i,y)=>(i,a.eval y)).toList[j]?=some (q.1,c)∧R x q.2 c:=by
  obtain ⟨h1,h2⟩:=gF h
  refine ⟨by simp [h1],fun j q hj=>?_⟩
  rw [List.getElem?_map] at hj
  obtain ⟨p,hp,rfl⟩:=map_some hj
  obtain ⟨o,ho,hso⟩:=h2 j p hp
  obtain ⟨s,hs,rfl⟩:=map_some hso
  refine ⟨a.eval o.2,?_,dN hT hs⟩
  simp [ho]
theorem aJ9 {o : Oper} {op : Opt} {d : Nat} {X : X} (hs : aFY P op d o = some X)
    {id:Nat} {k:V→aP→Prop} (hst:St P id X T x.H k) (hx:Inv x) (hT: ∀ i,R x (T i) (a.tmps.getD i undef)) {next:Act→World→Prop} {Q:Exit→Act→World→Prop}
    (hn: ∀ v c (y:Cx),k v y.H→Inv y→R y v c→Frame x y→next (a.put o.dst c) y.w):o.wp P a x.w next Q:=by
  have pureop: ∀ {r:V} {c:Value},(execOp a.eval o).run P x.w=.ok (.value c) x.w→R x r c→k r x.H→o.wp P a x.w next Q:=
    fun h1 h2 h3=>jD h1 (hn _ _ x h3 hx h2 (Frame.refl x))
  cases hop:o.op <;> simp only [aFY,hop] at hs
  case move p=>
    obtain ⟨s,h1,rfl⟩:=map_some hs
    exact pureop (c:=a.eval p) (by simp only [execOp,hop,Sem.run_pure]) (dN hT h1) hst
  case assign p=>
    split at hs
    · rename_i hc
      split at hs
      · rename_i e he
        split at hs
        · rename_i hel
          obtain ⟨n,h1,rfl⟩:=map_some hs
          obtain ⟨g1,g2,g3⟩:=lY hx id e n hel
          refine jD (c:=.slice none 0 0) (w':=x.w) (by simp only [execOp,hop,Sem.run_pure,Act.eval]) (hn _ _ {x with H:=upd x.H id ⟨(x.H id).ver+1,true,true,e,n,[]⟩} hst g1 (g3 _) g2)
        · cases hs
      · cases hs
    · obtain ⟨s,h1,rfl⟩:=map_some hs
      exact pureop (c:=a.eval _) (by simp only [execOp,hop,Sem.run_pure]) (dN hT h1) hst
  case pick c p q=>
    split at hs
    · rename_i sc sp sq hc hp hq
      cases hs
      simp only [St,bO] at hst
      obtain ⟨b,h1,h2⟩:=hst
      have rc:=dN hT hc
      have hb:a.eval c=.bool b:=by
        unfold asB at h1
        split at h1
        · rename_i b' e
          cases h1
          rw [e] at rc
          generalize a.eval c=cv at rc
          cases rc
          rfl
        · cases h1
      refine pureop (c:=if b then a.eval p else a.eval q) (by simp only [execOp,hop,hb,asBool,Sem.run_bind,Sem.run_pure,Result.andThen_ok]) ?_ h2
      cases b
      · exact dN hT hq
      · exact dN hT hp
    · cases hs
  case alloc t=>
    obtain ⟨z,h1,rfl⟩:=map_some hs
    obtain ⟨y,c,g1,g2,g3,g4,g5⟩:=aHr (P:=P) hx id h1
    exact jD (cV (by simp only [execOp,hop]) g1) (hn _ _ y (by rw [g2]; exact hst) g3 g5 g4)
  case box t p=>
    split at hs
    · rename_i s n h1 h2
      cases hs
      obtain ⟨y,c,g1,g2,g3,g4,g5⟩:=aMp (P:=P) hx id t (dN hT h1)
      exact jD (cV (by simp only [execOp,hop]) g1) (hn _ _ y (by rw [g2]; exact hst) g3 g5 g4)
    · cases hs
  case build t ps=>
    split at hs
    · rename_i fs z h1 h2
      split at hs
      · rename_i qs h3
        split at hs
        · rename_i h4
          cases hs
          simp only [St,bO] at hst
          obtain ⟨cs,h5,h6⟩:=hst
          obtain ⟨g1,g2⟩:=gF h3
          obtain ⟨c,h7,h8⟩:=aG9 (P:=P) (x:=x) h1 h2 h4 (qs:=qs.map fun p=>(p.1,p.2.1,ev T p.2.2)) (ps:=(ps.map fun (i,y)=>(i,a.eval y)).toList) (by simp [g1]) (fun j q hj=>by
            rw [List.getElem?_map] at hj
            obtain ⟨p,hp,rfl⟩:=map_some hj
            obtain ⟨o',ho,hso⟩:=g2 j p hp
            split at hso
            · rename_i f s hf hs'
              obtain ⟨n,hn',rfl⟩:=map_some hso
              refine ⟨o'.1,a.eval o'.2,f,?_,hf,rfl,hn',dN hT hs'⟩
              have:ps[j]?=some o':=by simpa using ho
              simp [this]
            · cases hso) h5 x.w
          simp only [Array.toArray_toList] at h7
          exact pureop (cV (by simp only [execOp,hop]) h7) h8 h6
        · cases hs
      · cases hs
    · rename_i l e z h1 h2
      split at hs
      · rename_i n qs hn' h3
        cases hs
        simp only [St,bO] at hst
        obtain ⟨cs,h5,h6⟩:=hst
        obtain ⟨g1,g2⟩:=uB h3 hT
        obtain ⟨c,h7,h8⟩:=aEb (P:=P) (x:=x) h1 h2 hn' g1 g2 (by simpa [List.map_map,Function.comp_def] using h5) x.w
        simp only [Array.toArray_toList] at h7
        exact pureop (cV (by simp only [execOp,hop]) h7) h8 h6
      · cases hs
    · cases hs
  case buildSlice t len ps=>
    split at hs
    · rename_i e he
      split at hs
      · rename_i z n qs h1 h2 h3
        split at hs
        · rename_i h4
          split at hs
          · rename_i hlz
            obtain ⟨rfl,_,hqe,hel⟩:=hlz
            cases hs
            have hqe:qs=[]:=by simpa using hqe
            subst hqe
            obtain ⟨g1,g2⟩:=uB h3 hT
            obtain ⟨h7,cc,h8,h9,h10⟩:=tG (P:=P) (x:=x) (rows:=[]) (iJ he) h1 h2 h4.1 h4.2.1 h4.2.2 g1 g2 rfl
            simp only [Array.toArray_toList] at h8
            obtain ⟨y,y1,y2,y3,y4,_⟩:=vA hx (e:=e) h7 h10 h9 (by unfold maxLen; omega)
            obtain ⟨z1,z2,z3⟩:=lY y3 id e n hel
            refine jD (cV (by simp only [execOp,hop]) h8) ?_
            rw [← y1]
            have hst':k (.ms id ((y.H id).ver+1) 0 0) (upd y.H id ⟨(y.H id).ver+1,true,true,e,n,[]⟩):=by rw [y2]; exact hst
            exact hn _ _ {y with H:=upd y.H id ⟨(y.H id).ver+1,true,true,e,n,[]⟩} hst' z1 (z3 _) (y4.trans z2)
          cases hs
          simp only [St,bO] at hst
          obtain ⟨rows,h5,h6⟩:=hst
          obtain ⟨g1,g2⟩:=uB h3 hT
          obtain ⟨h7,cc,h8,h9,h10⟩:=tG (P:=P) (x:=x) (iJ he) h1 h2 h4.1 h4.2.1 h4.2.2 g1 g2 h5
          simp only [Array.toArray_toList] at h8
          have hlm:len≤maxLen:=by
            have:len*1≤len*n:=Nat.mul_le_mul_left _ (by omega)
            unfold maxLen; omega
          split at h6
          · obtain ⟨y,y1,y2,y3,y4,y5⟩:=yS hx id (e:=e) (cap:=len) h7 h10 h9 (Nat.le_refl _) hlm
            rw [h7] at h6
            refine jD (cV (by simp only [execOp,hop]) h8) ?_
            rw [← y1]
            exact hn _ _ y (by rw [y2]; exact h6) y3 y5 y4
          · obtain ⟨y,y1,y2,y3,y4,y5⟩:=vA hx (e:=e) h7 h10 h9 hlm
            refine jD (cV (by simp only [execOp,hop]) h8) ?_
            rw [← y1]
            exact hn _ _ y (by rw [y2]; exact h6) y3 y5 y4
        · cases hs
      · cases hs
    · cases hs
  case load t p =>
    split at hs
    · rename_i g n s h1 h2 h3
      split at hs
      · cases hs
      · rename_i h4
        cases hs
        have hst': ∃ r,(ptr x.H (ev T s)).bind (ldV g n)=some r∧k r x.H:=by
          split at hst
          · simp only [St,bO] at hst
            obtain ⟨r,h5,h6⟩:=hst
            obtain ⟨cs,h7,h8⟩:=Option.bind_eq_some_iff.1 h5
            exact ⟨r,by rw [aKo h7]; exact h8,h6⟩
          · simp only [St,bO] at hst
            exact hst
        obtain ⟨r,h5,h6⟩:=hst'
        obtain ⟨c,h7,h8⟩:=aCM (P:=P) hx h5 (dN hT h3) h1 h2 h4
        exact pureop (cV (by simp only [execOp,hop]) h7) h8 h6
    · cases hs
  case store t p q=>
    split at hs
    · rename_i n sp sq h1 h2 h3
      cases hs
      simp only [St,bO] at hst
      obtain ⟨H',h4,h5⟩:=hst
      obtain ⟨y,g1,g2,g3,g4⟩:=aHd (P:=P) hx h4 (dN hT h2) (dN hT h3) h1
      exact xJ (tP (by simp only [execOp,hop]) g1) (hn _ _ y (by rw [g2]; exact h5) g3 (.raw undef rfl) g4)
    · cases hs
  case nilCheck p=>
    obtain ⟨s,h1,rfl⟩:=map_some hs
    simp only [St,bO] at hst
    obtain ⟨r,h2,h3⟩:=hst
    have r1:=dN hT h1
    unfold aKD at h2
    split at h2
    · rename_i cells e
      cases h2
      rw [e] at r1
      refine pureop (c:=a.eval p) ?_ r1 h3
      generalize hv:a.eval p=cv at r1
      cases r1
      simp only [execOp,hop,hv,Sem.run_pure]
    · rename_i i ver row off e
      cases h2
      rw [e] at r1
      refine pureop (c:=a.eval p) ?_ r1 h3
      generalize hv:a.eval p=cv at r1
      cases r1 with
      | mp _ _ _ _ pp _ hh =>
        simp only [execOp,hop,hv,Sem.run_pure]
    · rename_i f b c e
      cases h2
      rw [e] at r1
      refine pureop (c:=a.eval p) ?_ r1 h3
      generalize hv:a.eval p=cv at r1
      cases r1
      simp only [execOp,hop,hv,Sem.run_pure]
    · cases h2
  case binOp bop t p q yt=>
    split at hs
    · rename_i k1 sp sq h1 h2 h3
      cases hs
      simp only [St,bO] at hst
      obtain ⟨r,h4,h5⟩:=hst
      obtain ⟨c,h6,h7⟩:=aEZ (P:=P) h4 (dN hT h2) (dN hT h3) t p q x.w
      exact pureop (cV (by simp only [execOp,hop]) h6) h7 h5
    · rename_i sp sq h1 h2 h3
      cases hs
      simp only [St,bO] at hst
      obtain ⟨r,h4,h5⟩:=hst
      obtain ⟨c,h6,h7⟩:=aES (P:=P) h4 (dN hT h2) (dN hT h3) t p q x.w
      exact pureop (cV (by simp only [execOp,hop]) h6) h7 h5
    · rename_i sp sq h1 h2 h3
      cases hs
      simp only [St,bO] at hst
      obtain ⟨r,h4,h5⟩:=hst
      obtain ⟨c,h6,h7⟩:=aDA (P:=P) h4 (dN hT h2) (dN hT h3) h1 p q x.w
      exact pureop (cV (by simp only [execOp,hop]) h6) h7 h5
    · rename_i e sp h1 h2 h3
      have hq:a.eval q=.slice none 0 0:=by
        have:=dN hT h3
        simp only [ev] at this
        generalize a.eval q=cv at this
        cases this; rfl
      have r1:=dN hT h2
      have key: ∀ (neg:Bool),X=.isnil neg sp→bop=(if neg then .neq else .eql)→o.wp P a x.w next Q:=by
        intro neg hX hb
        subst hX
        have run: ∀ (b:Option Addr) (n c:Nat),a.eval p=.slice b n c→(execOp a.eval o).run P x.w=.ok (.value (.bool (if neg then b.isSome else b.isNone))) x.w:=by
          intro b n c hp
          refine cV (s:=do eqGuard bop t p q (a.eval p) (a.eval q); binOp bop t (a.eval p) (a.eval q)) (by simp only [execOp,hop]) ?_
          rw [hp,hq,hb]
          cases neg <;> cases b <;> simp [eqGuard_at_slice,rM h1,rK h1]
        simp only [St] at hst
        split at hst
        · rename_i hTs
          rw [hTs] at r1
          generalize hcv:a.eval p=cv at r1
          cases r1
          exact pureop (run none 0 0 hcv) (.bool _) (by cases neg <;> simpa using hst)
        · rename_i rows hTs
          rw [hTs] at r1
          generalize hcv:a.eval p=cv at r1
          cases r1 with
          |slnil=>exact pureop (run none 0 0 hcv) (.bool _) (by cases neg <;> simpa using hst.1 rfl)
          |sl _ ad cap sz cs hc hm hz hsz hcell hr=>exact pureop (run (some ad) _ cap hcv) (.bool _) (by cases neg <;> simpa using hst.2)
        · exact hst.elim
      split at hs
      · cases hs; exact key false rfl rfl
      · cases hs; exact key true rfl rfl
      · cases hs
    · rename_i fs sp sq h1 h2 h3
      split at hs
      · rename_i qs hq
        cases hs
        simp only [St,bO] at hst
        obtain ⟨r,h4,h5⟩:=hst
        obtain ⟨c,h6,h7⟩:=zE (P:=P) hq h4 (dN hT h2) (dN hT h3) p q x.w
        exact pureop (cV (s:=do eqGuard .eql t p q (a.eval p) (a.eval q); binOp .eql t (a.eval p) (a.eval q)) (by simp only [execOp,hop]) h6) h7 h5
      · rename_i qs hq
        cases hs
        simp only [St,bO] at hst
        obtain ⟨r,h4,h5⟩:=hst
        obtain ⟨c,h6,h7⟩:=zE (P:=P) hq h4 (dN hT h2) (dN hT h3) p q x.w
        exact pureop (cV (s:=do eqGuard .neq t p q (a.eval p) (a.eval q); binOp .neq t (a.eval p) (a.eval q)) (by simp only [execOp,hop]) h6) h7 h5
      · cases hs
    · cases hs
  case unOp uop t p=>
    obtain ⟨s,h1,rfl⟩:=map_some hs
    simp only [St,bO] at hst
    obtain ⟨r,h4,h5⟩:=hst
    obtain ⟨c,h6,h7⟩:=aMe (P:=P) h4 (dN hT h1) x.w
    exact pureop (cV (by simp only [execOp,hop]) h6) h7 h5
  case convert s t p=>
    split at hs
    · rename_i ds kd sp h1 h2 h3
      cases hs
      simp only [St,bO] at hst
      obtain ⟨r,h4,h5⟩:=hst
      obtain ⟨c,h6,h7⟩:=aI4 (P:=P) h4 (dN hT h3) h1 h2 x.w
      exact pureop (cV (by simp only [execOp,hop]) h6) h7 h5
    · rename_i e sp h1 h2 h3
      split at hs
      · rename_i h8
        cases hs
        simp only [St,bO] at hst
        obtain ⟨r,h4,h5⟩:=hst
        obtain ⟨c,h6,h7⟩:=aIF (P:=P) h4 (dN hT h3) h1 h8 h2 x.w rfl
        exact pureop (cV (by simp only [execOp,hop]) h6) h7 h5
      · cases hs
    · cases hs
  case fieldAddr t p f=>
    split at hs
    · rename_i fd sp h1 h2
      split at hs
      · rename_i n h3
        split at hs
        · cases hs
        · rename_i h4
          cases hs
          simp only [St,bO] at hst
          obtain ⟨r,h5,h6⟩:=hst
          obtain ⟨c,h7,h8⟩:=aM5 (P:=P) h5 (dN hT h2) h1 rfl h3 h4 x.w
          exact pureop (cV (by simp only [execOp,hop]) h7) h8 h6
      · cases hs
    · cases hs
  case field t p f=>
    split at hs
    · rename_i fd sp h1 h2
      split at hs
      · rename_i g n h3 h4
        split at hs
        · cases hs
        · rename_i h5
          cases hs
          simp only [St,bO] at hst
          obtain ⟨r,h6,h7⟩:=hst
          have r1:=dN hT h2
          have hfs: ∃ fs,P.underlying t=some (.struct fs)∧fs[f]?=some fd:=by
            unfold tM at h1
            split at h1
            · exact ⟨_,by assumption,h1⟩
            · cases h1
          obtain ⟨fs,hfs,hfd⟩:=hfs
          cases hev:ev T sp with
          | agg cells =>
            rw [hev] at h6 r1
            generalize hv:a.eval p=cv at r1
            cases r1 with
            | agg _ cs hs' hr =>
              obtain ⟨c,h8,h9⟩:=aDj (P:=P) h6 hs' hr h3 h4 h5 x.w
              refine pureop (cV (s:=Instr.field t (a.eval p) f) (by simp only [execOp,hop]) ?_) h9 h7
              simp only [hv,Instr.field,Sem.run_bind,run_underlying hfs,Result.andThen_ok,hfd,asAgg,Sem.run_pure,h8]
          |_=>rw [hev] at h6; simp [yQ] at h6
      · cases hs
    · cases hs
  case indexAddr t p i=>
    split at hs
    · rename_i e sp si h1 h2 h3
      obtain ⟨n,h4,rfl⟩:=map_some hs
      simp only [St,bO] at hst
      obtain ⟨r,h5,h6⟩:=hst
      obtain ⟨c,h7,h8⟩:=aLf (P:=P) h5 (dN hT h2) (dN hT h3) h1 h4 x.w
      exact pureop (cV (by simp only [execOp,hop]) h7) h8 h6
    · rename_i sp si h1 h2 h3
      split at hs
      · rename_i len e ha
        obtain ⟨n,h4,rfl⟩:=map_some hs
        simp only [St,bO] at hst
        obtain ⟨r,h5,h6⟩:=hst
        obtain ⟨c,h7,h8⟩:=aH8 (P:=P) h5 (dN hT h2) (dN hT h3) ha h4 x.w
        exact pureop (cV (by simp only [execOp,hop]) h7) h8 h6
      · cases hs
    · cases hs
  case index t p i=>
    split at hs
    · rename_i sp si h1 h2 h3
      cases hs
      simp only [St,bO] at hst
      obtain ⟨r,h5,h6⟩:=hst
      obtain ⟨c,h7,h8⟩:=aKh (P:=P) h5 (dN hT h2) (dN hT h3) h1 x.w
      exact pureop (cV (by simp only [execOp,hop]) h7) h8 h6
    · rename_i len e sp si h1 h2 h3
      split at hs
      · rename_i g n hg hn'
        split at hs
        · cases hs
        · rename_i hg1
          cases hs
          simp only [St,bO] at hst
          obtain ⟨r,h5,h6⟩:=hst
          obtain ⟨c,h7,h8⟩:=aH5 (P:=P) h5 (dN hT h2) (dN hT h3) h1 hg hn' hg1 x.w
          exact pureop (cV (by simp only [execOp,hop]) h7) h8 h6
      · cases hs
    · cases hs
  case slice t p lo hi mx=>
    split at hs
    · cases hs
    · rename_i hmx
      have hmx':mx=none:=by cases mx <;> simp_all
      subst hmx'
      split at hs
      · rename_i sp slo shi h1 h2 h3 h4
        cases hs
        simp only [St,bO] at hst
        obtain ⟨r,h5,h6⟩:=hst
        obtain ⟨a1,a2⟩:=mW h3 hT
        obtain ⟨b1,b2⟩:=mW h4 hT
        obtain ⟨c,h7,h8⟩:=aE5 (P:=P) h5 (dN hT h2) a1 a2 b1 b2 h1 x.w
        exact pureop (cV (by simp only [execOp,hop,Option.map_none]) h7) h8 h6
      · rename_i e sp slo shi h1 h2 h3 h4
        obtain ⟨n,h9,rfl⟩:=map_some hs
        simp only [St,bO] at hst
        obtain ⟨r,h5,h6⟩:=hst
        obtain ⟨a1,a2⟩:=mW h3 hT
        obtain ⟨b1,b2⟩:=mW h4 hT
        obtain ⟨c,h7,h8⟩:=aHa (P:=P) h5 (dN hT h2) a1 a2 b1 b2 h1 h9 x.w
        exact pureop (cV (by simp only [execOp,hop,Option.map_none]) h7) h8 h6
      · cases hs
  case makeSlice t l c=>
    split at hs
    · rename_i e sl sc h1 h2 h3
      split at hs
      · rename_i i z h4 h5
        split at hs
        · rename_i h6
          cases hs
          simp only [St,bO] at hst
          obtain ⟨n,h7,h8⟩:=hst
          obtain ⟨y,r,g1,g2,g3,g4,g5⟩:=aM0 (P:=P) hx id (iJ h1) h4 h5 rfl rfl h6.1 h6.2 h7 (dN hT h2) (dN hT h3)
          exact jD (cV (by simp only [execOp,hop]) g1) (hn _ _ y (by rw [g2]; exact h8) g3 g5 g4)
        · cases hs
      · cases hs
    · cases hs
  case extract p i=>
    obtain ⟨s,h1,rfl⟩:=map_some hs
    simp only [St,bO] at hst
    obtain ⟨r,h4,h5⟩:=hst
    obtain ⟨c,h6,h7⟩:=aLR (P:=P) h4 (dN hT h1) x.w
    exact pureop (cV (by simp only [execOp,hop]) h6) h7 h5
  case makeFunc fn first caps=>
    cases fn with
    | func f =>
      simp only at hs
      split at hs
      · rename_i h0
        obtain ⟨ss,h1,rfl⟩:=map_some hs
        have hr:=uY hT h1
        have hf0:first=#[]:=Array.eq_empty_of_size_eq_zero h0
        subst hf0
        refine pureop (c:=.func (.func f) #[] (caps.map a.eval)) (by simp only [execOp,hop,Instr.makeFunc,Sem.run_bind,Sem.run_pure,Result.andThen_ok,List.map_toArray,List.map_nil]) ?_ hst
        refine .fn f [] _ #[] _ rfl (by have:=hr.1; simpa using this) (fun j v hj=>by simp at hj) (fun j v hj=>?_)
        have:=hr.2 j v hj
        rw [Array.getD_eq_getD_getElem?,← Array.getElem?_toList,← List.getD_eq_getElem?_getD]
        simpa using this
      · split at hs
        · rename_i sa sb h1 h2
          cases hs
          have hr1:=uY hT h1
          have hr2:=uY hT h2
          refine pureop (c:=.func (.func f) (first.map a.eval) (caps.map a.eval)) (by simp only [execOp,hop,Instr.makeFunc,Sem.run_bind,Sem.run_pure,Result.andThen_ok]) ?_ hst
          refine .fn f _ _ _ _ (by have:=hr1.1; simpa using this) (by have:=hr2.1; simpa using this) (fun j v hj=>?_) (fun j v hj=>?_)
          · have:=hr1.2 j v hj
            rw [Array.getD_eq_getD_getElem?,← Array.getElem?_toList,← List.getD_eq_getElem?_getD]
            simpa using this
          · have:=hr2.2 j v hj
            rw [Array.getD_eq_getD_getElem?,← Array.getElem?_toList,← List.getD_eq_getElem?_getD]
            simpa using this
        · cases hs
    |_=>cases hs
  case typeAssert p t0 t ok=>
    split at hs
    · rename_i fs hfs
      obtain ⟨s,h1,rfl⟩:=map_some hs
      simp only [St,bO] at hst
      obtain ⟨r,h4,h5⟩:=hst
      obtain ⟨c,h6,h7⟩:=aMy (P:=P) h4 (dN hT h1) ⟨_,hfs⟩ t0 x.w
      exact pureop (cV (by simp only [execOp,hop]) h6) h7 h5
    · cases hs
  case makeInterface t p=>
    split at hs
    · rename_i fs hu
      obtain ⟨s,h1,rfl⟩:=map_some hs
      simp only [St,bO] at hst
      obtain ⟨c,h4,h5⟩:=hst
      have e:a.eval p=c:=aOL h4 (dN hT h1)
      refine pureop (c:=.iface t c) ?_ (.raw _ rfl) h5
      simp [execOp,hop,Instr.makeInterface,run_underlying hu,e]
    · cases hs
  case call c=>
    obtain ⟨callee,args,tys⟩:=c
    cases callee with
    |value f=>exact aKj hop hs hst hx hT hn
    |builtin b=>exact aE7 hop hs hst hx hT hn
    |invoke r m=>cases hs
  case makeMap t r=>
    split at hs
    · rename_i k e hu
      obtain ⟨kd,h1,rfl⟩:=map_some hs
      simp only [St] at hst
      obtain ⟨y,c,g1,g2,g3,g4,g5⟩:=aHJ (P:=P) hx id t
      exact jD (cV (by simp only [execOp,hop,Option.map_none]) g1) (hn _ _ y (by rw [g2]; exact hst) g3 g5 g4)
    · cases hs
  case lookup t m q ok=>
    split at hs
    · rename_i kt et sm sq hu hm hq
      split at hs
      · rename_i kd z hkd hz
        cases hs
        simp only [St,bO] at hst
        obtain ⟨p,h1,h2⟩:=hst
        obtain ⟨c,h3,h4⟩:=aG8 (P:=P) (ok:=ok) hx h1 (dN hT hm) (dN hT hq) hu hkd hz
        exact pureop (cV (by simp only [execOp,hop]) h3) h4 h2
      · cases hs
    · cases hs
  case mapUpdate t m q v=>
    split at hs
    · rename_i kt et sm sq sv hu hm hq hv
      obtain ⟨kd,hkd,rfl⟩:=map_some hs
      simp only [St,bO] at hst
      obtain ⟨H',h1,h2⟩:=hst
      obtain ⟨y,g1,g2,g3,g4⟩:=aCo (P:=P) hx h1 (dN hT hm) (dN hT hq) (dN hT hv) hu hkd
      exact xJ (tP (by simp only [execOp,hop]) g1) (hn _ _ y (by rw [g2]; exact h2) g3 (.raw undef rfl) g4)
    · cases hs
  case insert t m q v=>
    split at hs
    · rename_i kt et sm sq sv hu hm hq hv
      obtain ⟨kd,hkd,rfl⟩:=map_some hs
      simp only [St,bO] at hst
      obtain ⟨H',h1,h2⟩:=hst
      obtain ⟨y,g1,g2,g3,g4⟩:=aCo (P:=P) hx h1 (dN hT hm) (dN hT hq) (dN hT hv) hu hkd
      exact xJ (tP (by simp only [execOp,hop]) g1) (hn _ _ y (by rw [g2]; exact h2) g3 (.raw undef rfl) g4)
    · cases hs
  all_goals cases hs
end
end Go.Proofs.YteehaobohaecmaaGreatDoor


namespace Go.Proofs.YteehaobohaecmaaGreatDoor
open Go
section
variable {P:Program}
structure TRel (D:List Deferred) (n:Nat) (x:Cx) (T:Nat→V) (a:Act):Prop where
  tmps: ∀ i,R x (T i) (a.tmps.getD i undef)
  defers:a.defers=D
  size:a.tmps.size=n
theorem TRel.frame {D:List Deferred} {n:Nat} {x y:Cx} {T:Nat→V} {a:Act} (h:TRel D n x T a) (hx:Inv x) (hf:Frame x y):TRel D n y T a:=
  ⟨fun i=>(h.tmps i).frame hx hf,h.defers,h.size⟩
theorem TRel.put {D:List Deferred} {n:Nat} {x:Cx} {T:Nat→V} {a:Act} (h:TRel D n x T a) {d:Option Nat} (hd: ∀ e,d=some e→e < n) {v:V} {c:Value} (hr:R x v c):TRel D n x (iY T d v) (a.put d c):=by
  cases d with
  |none=>exact h
  | some d =>
    refine ⟨fun i=>?_,h.defers,by simp [Act.put,h.size]⟩
    have hlt:d < a.tmps.size:=by rw [h.size]; exact hd d rfl
    simp only [iY,Act.put]
    by_cases e:i=d
    · subst e
      rw [aK,Array.getD_eq_getD_getElem?,Array.getElem?_setIfInBounds_self_of_lt hlt]
      exact hr
    · rw [bD _ _ e,Array.getD_eq_getD_getElem?,Array.getElem?_setIfInBounds_ne (Ne.symm e),← Array.getD_eq_getD_getElem?]
      exact h.tmps i
def aMR : Exit → Option Ex
  | .normal=>some .norm
  | .ret=>some .ret
  | .exit n=>some (.exit n)
  | .panic l => match l with
    |[⟨c,false,false⟩]=>some (.pan c)
    |_=>none
  |_=>none
def lT (D:List Deferred) (n:Nat) (x0:Cx) (Q:Ex→(Nat→V)→aP→Prop):Exit→Act→World→Prop:=fun e a w=>
  ∃ e' T y,aMR e=some e'∧y.w=w∧Q e' T y.H∧Inv y∧TRel D n y T a∧Frame x0 y
theorem aM9 {x:Cx} {v:V} {c:Value} {b:Bool} (h:asB v=some b) (hr:R x v c):c=.bool b:=by
  unfold asB at h
  split at h
  · cases h; cases hr; rfl
  · cases h
theorem tR {op:Opt} {n:Nat} {ops:Array Oper} {o:Oper} {s:SO} (h:nS P op n ops o=some s):s.d=o.dst∧(∀ e,o.dst=some e→e < n)∧xD P op (o.dst.getD 0) o=s.x∧
    ((o.guard=none∧s.g=none)∨ ∃ j want t,o.guard=some (j,want)∧(ops[j]?).bind (·.dst)=some t∧s.g=some (t,want)):=by
  unfold nS at h
  split at h
  case isFalse=>cases h
  rename_i hd
  have hd': ∀ e,o.dst=some e→e < n:=fun e he=>by rw [he] at hd; simpa [aMl] using hd
  split at h
  · rename_i hg
    cases h
    exact ⟨rfl,hd',rfl,.inl ⟨hg,rfl⟩⟩
  · rename_i j want hg
    split at h
    · rename_i t h1
      cases h
      exact ⟨rfl,hd',rfl,.inr ⟨j,want,t,hg,h1,rfl⟩⟩
    · cases h
theorem uT {x:Cx} {T:Nat→V} {a:Act} {o:Oper} {op:Opt} {d:Nat} {X:X} (hs:xD P op d o=X)
    {id:Nat} {k:V→aP→Prop} (hst:St P id X T x.H k) (hx:Inv x) (hT: ∀ i,R x (T i) (a.tmps.getD i undef)) {next:Act→World→Prop} {Q:Exit→Act→World→Prop}
    (hn: ∀ v c (y:Cx),k v y.H→Inv y→R y v c→Frame x y→next (a.put o.dst c) y.w):o.wp P a x.w next Q:=by
  unfold xD at hs
  cases h:aFY P op d o with
  |none=>rw [h] at hs; subst hs; exact hst.elim
  |some Y=>rw [h] at hs; subst hs; exact aJ9 h hst hx hT hn
theorem uZ {D:List Deferred} {n:Nat} {x:Cx} {T:Nat→V} {a:Act} (h:TRel D n x T a) {ops:Array Oper} {j t:Nat} (hj:(ops[j]?).bind (·.dst)=some t) (want:Bool):(yielded ops a.tmps j==some want)=gd want (T t):=by
  have h1:=h.tmps t
  rw [Array.getD_eq_getD_getElem?] at h1
  have e:yielded ops a.tmps j=match a.tmps[t]? with|some (.bool b)=>some b|_=>none:=by simp [yielded,hj]; rfl
  rw [e]
  cases hq:a.tmps[t]? with
  | none =>
    rw [hq] at h1
    simp only [Option.getD_none] at h1
    generalize hv:T t=v at h1
    generalize hu:undef=u at h1
    cases h1 <;> simp_all [gd,undef]
    all_goals (subst hu; rfl)
  | some c =>
    rw [hq] at h1
    simp only [Option.getD_some] at h1
    generalize hv:T t=v at h1
    cases h1 <;> simp [gd]
    cases c <;> simp
theorem tU {D : List Deferred} {op : Opt} {n k0 : Nat} {ops : Array Oper} {x0 : Cx} {Q : Ex → (Nat → V) → aP → Prop} : ∀ (l : List Oper) (L : List SO), fX (nS P op n ops) l = some L →
    ∀ (x:Cx) (T:Nat→V) (a:Act),Ops P k0 L T x.H (Q .norm)→Inv x→TRel D n x T a→Frame x0 x→wpList P ops (lT D n x0 Q) l a x.w
  | [], L, hL, x, T, a, h, hx, hT, hF => by
    cases hL
    exact ⟨.norm,T,x,rfl,rfl,h,hx,hT,hF⟩
  | o :: l, L, hL, x, T, a, h, hx, hT, hF => by
    simp only [fX] at hL
    split at hL
    · rename_i s L' hs hL'
      cases hL
      obtain ⟨h1,h2,h3,h4⟩:=tR hs
      have run:St P (k0+s.d.getD 0) s.x T x.H (fun v H'=>Ops P k0 L' (iY T s.d v) H' (Q .norm))→o.wp P a x.w (wpList P ops (lT D n x0 Q) l) (lT D n x0 Q):=fun hst=>
        uT h3 hst hx hT.tmps fun v c y hk hy hr hf=>by
          rw [h1] at hk
          exact tU l L' hL' y _ _ hk hy ((hT.frame hx hf).put h2 hr) (hF.trans hf)
      simp only [wpList]
      rcases h4 with ⟨hg,hsg⟩|⟨j,want,t,hg,hj,hsg⟩
      · have hw:Region.wanted o (yielded ops a.tmps)=true:=by simp [Region.wanted,hg]
        rw [if_pos hw]
        simp only [Ops,hsg] at h
        exact .inl (run h)
      · simp only [Ops,hsg] at h
        obtain ⟨hyes,hno⟩:=h
        have hy:=uZ hT hj want
        have hwe:Region.wanted o (yielded ops a.tmps)=gd want (T t):=by simp only [Region.wanted,hg]; exact hy
        cases hbw:gd want (T t) with
        | true =>
          rw [if_pos (by rw [hwe,hbw])]
          exact .inl (run (hyes hbw))
        | false =>
          rw [if_neg (by rw [hwe,hbw]; simp)]
          have:=hno hbw
          rw [h1] at this
          exact tU l L' hL' x _ _ this hx (hT.put h2 (.raw undef rfl)) hF
    · cases hL
theorem aNt {x : Cx} (hx : Inv x) {j ver off len : Nat} (hl : (x.H j).live = true) (hv : (x.H j).ver = ver) {c : Value} (hr : R x (.ms j ver off len) c) :
    R {x with Z:=fun b=>x.Z b∨((x.H j).own=true∧b=x.σ j),H:=lM j x.H} (.sl (((x.H j).rows.drop off).take len)) c:=by
  have hf:=(pU hx j).2
  cases hr with
  | ms _ _ _ _ b m cap hv' hh hm =>
    obtain ⟨e1,e2,e3,e4,e5,e6⟩:=hh hv hl
    subst e1
    have hlen:(((x.H j).rows.drop off).take m).length=m:=by simp; omega
    cases ho:(x.H j).own with
    | false =>
      have e8:=e6 ho
      have hm0:m=0:=by omega
      subst hm0; subst e8
      simpa using R.sl0 _
    | true =>
      obtain ⟨e7,e8⟩:=e5 ho
      subst e7
      obtain ⟨cc,h1,h2,h3,h4⟩:=hx.cel j ho (hm hv hl)
      have hidx: ∀ (r:Nat) (row:List V),(((x.H j).rows.drop off).take m)[r]?=some row→(x.H j).rows[off+r]?=some row:=by
        intro r row hr
        simp only [List.getElem?_take,List.getElem?_drop] at hr
        split at hr
        · exact hr
        · cases hr
      have key:=R.sl (x:={x with Z:=fun b=>x.Z b∨((x.H j).own=true∧b=x.σ j),H:=lM j x.H}) (((x.H j).rows.drop off).take m) ⟨x.σ j,off*(x.H j).sz,none⟩ cap (x.H j).sz
        (fun k=>cc.getD (off*(x.H j).sz+k) undef) (by omega) e3 (fun _=>.inr ⟨ho,rfl⟩) (fun r hr=>h2 r (List.mem_of_mem_drop (List.mem_of_mem_take hr)))
        (fun r row q v hr hj=>by
          have h8:=hidx _ _ hr
          have h9:=(gH h2 h3 h8 hj).1
          rw [Nat.add_mul] at h9
          rw [Addr.add_lit]
          exact hC h1 (by omega))
        (fun r row q v hr hj=>by
          have h8:=hidx _ _ hr
          have h10:=h4 _ _ _ _ h8 hj
          rw [show (off+r)*(x.H j).sz+q=off*(x.H j).sz+(r*(x.H j).sz+q) by rw [Nat.add_mul]; omega] at h10
          exact h10.frame hx hf)
      rw [hlen,ho] at key
      exact key
theorem uF {x : Cx} (hx : Inv x) {id row off : Nat} {u : V} {r : List V} (ho : (x.H id).own = true) (hr : (x.H id).rows[row]? = some r) (hc : off < r.length)
    {cc:Array Value} (h1:x.w.heap[x.σ id]?=some ((x.H id).obj cc)) (h2: ∀ r∈(x.H id).rows,r.length=(x.H id).sz) (h3:(x.H id).rows.length*(x.H id).sz≤cc.size)
    (h4: ∀ (r:Nat) (row:List V) (j:Nat) (v:V),(x.H id).rows[r]?=some row→row[j]?=some v→R x v (cc.getD (r*(x.H id).sz+j) undef)) (hu:R x u (cc.getD (row*(x.H id).sz+off) undef)):
    let y:Cx:={x with H:=upd x.H id {x.H id with rows:=(x.H id).rows.set row (r.set off u)}}
    Inv y∧Frame x y:=by
  have hrow:row < (x.H id).rows.length:=(List.getElem?_eq_some_iff.1 hr).1
  have hrl:r.length=(x.H id).sz:=h2 r (List.mem_of_getElem? hr)
  refine aLw hx id ho _ (by simp) (fun q hq=>?_) cc h1 h3 fun q qrow j w hq hj=>?_
  · rcases List.mem_or_eq_of_mem_set hq with hq|hq
    · exact h2 q hq
    · rw [hq]; simpa using hrl
  · by_cases hqr:q=row
    · subst hqr
      rw [List.getElem?_set_self hrow] at hq
      cases hq
      by_cases hjo:j=off
      · subst hjo
        rw [List.getElem?_set_self hc] at hj
        cases hj
        exact hu
      · rw [List.getElem?_set_ne (Ne.symm hjo)] at hj
        exact h4 q r j w hr hj
    · rw [List.getElem?_set_ne (Ne.symm hqr)] at hq
      exact h4 q qrow j w hq hj
theorem aBb {D : List Deferred} {n : Nat} {x0 : Cx} {K : (Nat → V) → aP → Prop} {a : Act} {T : Nat → V} {H : aP} (h : G K T H) :
    ∀ (x:Cx),x.H=H→Inv x→TRel D n x T a→Frame x0 x→ ∃ T' y,y.w=x.w∧K T' y.H∧Inv y∧TRel D n y T' a∧Frame x0 y:=by
  induction h with
  |done h=>intro x hH hx hT hF; subst hH; exact ⟨_,x,rfl,h,hx,hT,hF⟩
  | freeze id _ ih =>
    rename_i T H _
    intro x hH hx hT hF
    subst hH
    obtain ⟨hI,hf⟩:=pU hx id
    refine ih {x with Z:=fun b=>x.Z b∨((x.H id).own=true∧b=x.σ id),H:=lM id x.H} rfl hI ⟨fun i=>?_,hT.defers,hT.size⟩ (hF.trans hf)
    · have hr := hT.tmps i
      have hd:=hr.frame hx hf
      simp only [fzT]
      split
      · rename_i j ver off len hTi
        split
        · rename_i hc
          obtain ⟨rfl,hl,hv⟩:=hc
          rw [hTi] at hr
          generalize hcv:a.tmps.getD i undef=c at hr
          cases hr with
          | ms _ _ _ _ b m cap hv' hh hm' =>
            obtain ⟨e1,e2,e3,e4,e5,e6⟩:=hh hv hl
            subst e1
            have hlen:(((x.H j).rows.drop off).take m).length=m:=by simp; omega
            cases ho:(x.H j).own with
            | false =>
              have e8:=e6 ho
              have hm:m=0:=by omega
              subst hm; subst e8
              simpa using R.sl0 _
            | true =>
              obtain ⟨e7,e8⟩:=e5 ho
              subst e7
              obtain ⟨cc,h1,h2,h3,h4⟩:=hx.cel j ho (hm' hv hl)
              have hidx: ∀ (r:Nat) (row:List V),(((x.H j).rows.drop off).take m)[r]?=some row→(x.H j).rows[off+r]?=some row:=by
                intro r row hr
                simp only [List.getElem?_take,List.getElem?_drop] at hr
                split at hr
                · exact hr
                · cases hr
              have key:=R.sl (x:={x with Z:=fun b=>x.Z b∨((x.H j).own=true∧b=x.σ j),H:=lM j x.H}) (((x.H j).rows.drop off).take m) ⟨x.σ j,off*(x.H j).sz,none⟩ cap (x.H j).sz
                (fun k=>cc.getD (off*(x.H j).sz+k) undef) (by omega) e3 (fun _=>.inr ⟨ho,rfl⟩) (fun r hr=>h2 r (List.mem_of_mem_drop (List.mem_of_mem_take hr)))
                (fun r row q v hr hj=>by
                  have h8:=hidx _ _ hr
                  have h9:=(gH h2 h3 h8 hj).1
                  rw [Nat.add_mul] at h9
                  rw [Addr.add_lit]
                  exact hC h1 (by omega))
                (fun r row q v hr hj=>by
                  have h8:=hidx _ _ hr
                  have h10:=h4 _ _ _ _ h8 hj
                  rw [show (off+r)*(x.H j).sz+q=off*(x.H j).sz+(r*(x.H j).sz+q) by rw [Nat.add_mul]; omega] at h10
                  exact h10.frame hx hf)
              rw [hlen,ho] at key
              exact key
        · exact hd
      · exact hd
  | freezeP id i ver row off r ht hv ho hr _ ih =>
    rename_i T H _
    intro x hH hx hT hF
    subst hH
    obtain ⟨hI,hf⟩:=pU hx id
    refine ih {x with Z:=fun b=>x.Z b∨((x.H id).own=true∧b=x.σ id),H:=lM id x.H} rfl hI ⟨fun k=>?_,hT.defers,hT.size⟩ (hF.trans hf)
    by_cases hk:k=i
    · subst hk
      rw [aK]
      have h0:=hT.tmps k
      rw [ht] at h0
      generalize hcv:a.tmps.getD k undef=c at h0
      cases h0 with
      | mp _ _ _ _ p hv' hh hm =>
        have hp:=hh hv ho
        subst hp
        obtain ⟨cc,h1,h2,h3,h4⟩:=hx.cel id ho (hm hv ho)
        refine .pp (r.drop off) _ (fun k=>cc.getD (row*(x.H id).sz+off+k) undef) (fun _=>.inr ⟨ho,rfl⟩) (fun j v hj=>?_) (fun j v hj=>?_)
        · rw [List.getElem?_drop] at hj
          have h9:=(gH h2 h3 hr hj).1
          rw [Addr.add_lit]
          exact hC h1 (by omega)
        · rw [List.getElem?_drop] at hj
          have h10:=h4 _ _ _ _ hr hj
          rw [← Nat.add_assoc] at h10
          exact h10.frame hx hf
    · rw [bD _ _ hk]
      exact (hT.tmps k).frame hx hf
  | lazyCell id' ty sz id row off r hne ho hr hc _ hty ih =>
    rename_i T H _
    intro x hH hx hT hF
    subst hH
    obtain ⟨hI,hf,hR⟩:=lY hx id' ty sz hty
    have hHid:upd x.H id' ⟨(x.H id').ver+1,true,true,ty,sz,[]⟩ id=x.H id:=bD _ _ (Ne.symm hne)
    obtain ⟨cc,h1,h2,h3,h4⟩:=hx.blk id ho
    have st:=uF hI (id:=id) (row:=row) (off:=off) (u:=.ms id' ((x.H id').ver+1) 0 0) (r:=r) (by simp only [hHid]; exact ho) (by simp only [hHid]; exact hr) (List.getElem?_eq_some_iff.1 hc).1
      (cc:=cc) (by simp only [hHid]; exact h1) (by simp only [hHid]; exact h2) (by simp only [hHid]; exact h3) (by simp only [hHid]; exact fun r row j v hr hj=>(h4 r row j v hr hj).frame hx hf) (by
        simp only [hHid]
        have:=h4 row r off .nilsl hr hc
        generalize cc.getD (row*(x.H id).sz+off) undef=cv at this ⊢
        cases this
        exact hR _)
    simp only [hHid] at st
    obtain ⟨sI,sF⟩:=st
    obtain ⟨T',y,y1,y2⟩:=ih {x with H:=upd (upd x.H id' ⟨(x.H id').ver+1,true,true,ty,sz,[]⟩) id {x.H id with rows:=(x.H id).rows.set row (r.set off (.ms id' ((x.H id').ver+1) 0 0))}}
      rfl sI ((hT.frame hx hf).frame hI sF) ((hF.trans hf).trans sF)
    exact ⟨T',y,y1,y2⟩
  | frzCell id ver len id2 row off r hne hl hv ho hr hc _ ih =>
    rename_i T H _
    intro x hH hx hT hF
    subst hH
    obtain ⟨hI0,hf0⟩:=pU hx id
    generalize hy:({x with Z:=fun b=>x.Z b∨((x.H id).own=true∧b=x.σ id),H:=lM id x.H}:Cx)=y
    have hI:Inv y:=by rw [← hy]; exact hI0
    have hf:Frame x y:=by rw [← hy]; exact hf0
    have hyH:y.H=lM id x.H:=by rw [← hy]
    have hk:y.H id2=x.H id2:=by rw [hyH]; exact bD _ _ hne
    have hys:y.σ=x.σ:=by rw [← hy]
    have hyw:y.w=x.w:=by rw [← hy]
    obtain ⟨dd,h1,h2,h3,h4⟩:=hx.blk id2 ho
    have st:=uF hI (id:=id2) (row:=row) (off:=off) (u:=.sl ((x.H id).rows.take len)) (r:=r) (by rw [hk]; exact ho) (by rw [hk]; exact hr) (List.getElem?_eq_some_iff.1 hc).1
      (cc:=dd) (by rw [hyw,hys,hk]; exact h1) (by rw [hk]; exact h2) (by rw [hk]; exact h3) (by rw [hk]; exact fun r row j v hr hj=>(h4 r row j v hr hj).frame hx hf) (by
        have:=aNt hx hl hv (h4 row r off _ hr hc)
        rw [hy] at this
        rw [hk]
        simpa using this)
    obtain ⟨sI,sF⟩:=st
    have hfin:=ih {y with H:=upd y.H id2 {y.H id2 with rows:=(y.H id2).rows.set row (r.set off (.sl ((x.H id).rows.take len)))}} (by rw [hk,hyH]) sI ⟨fun i=>?_,hT.defers,hT.size⟩ ((hF.trans hf).trans sF)
    · obtain ⟨T',z,z1,z2⟩:=hfin
      exact ⟨T',z,z1.trans hyw,z2⟩
    have hr':=hT.tmps i
    refine R.frame hI sF ?_
    simp only [fzT]
    split
    · rename_i j ver' off' len' hTi
      split
      · rename_i hc'
        obtain ⟨rfl,hl',hv'⟩:=hc'
        rw [hTi] at hr'
        rw [← hy]
        exact aNt hx hl' hv' hr'
      · exact hr'.frame hx hf
    · exact hr'.frame hx hf
  | slot i u hu _ ih =>
    intro x hH hx hT hF
    refine ih x hH hx ⟨fun j=>?_,hT.defers,hT.size⟩ hF
    by_cases e:j=i
    · subst e; rw [aK]; exact hu x _ hH hx (hT.tmps j)
    · rw [bD _ _ e]; exact hT.tmps j
  | cell id row off v u r ho hr hc hu _ ih =>
    rename_i T H _
    intro x hH hx hT hF
    subst hH
    obtain ⟨cc,h1,h2,h3,h4⟩:=hx.blk id ho
    obtain ⟨sI,sF⟩:=uF hx (id:=id) (row:=row) (off:=off) (u:=u) (r:=r) ho hr (List.getElem?_eq_some_iff.1 hc).1 h1 h2 h3 h4 (hu x _ (h4 row r off v hr hc))
    obtain ⟨T',y,y1,y2⟩:=ih {x with H:=upd x.H id {x.H id with rows:=(x.H id).rows.set row (r.set off u)}} rfl sI (hT.frame hx sF) (hF.trans sF)
    exact ⟨T',y,y1,y2⟩
end
end Go.Proofs.YteehaobohaecmaaGreatDoor


namespace Go.Proofs.YteehaobohaecmaaGreatDoor
open Go
def SX.ts:SX→List Nat
  | .t n=>[n]
  | .c _=>[]
def nP:List SX→List Nat
  |[]=>[]
  |s::l=>s.ts++nP l
def aHP:Option SX→List Nat
  |some s=>s.ts
  |none=>[]
def X.ts:X→List Nat
  | .mv a=>a.ts
  | .lazy _ _=>[]
  | .pick c a b=>c.ts++(a.ts++b.ts)
  | .alloc _ _=>[]
  | .box _ _ a=>a.ts
  | .build _ ps=>nP (ps.map fun p=>p.2.2)
  | .bslice _ _ _ _ _ ps=>nP (ps.map fun p=>p.2)
  | .load _ _ a=>a.ts
  | .ldp _ _ a=>a.ts
  | .store _ a b=>a.ts++b.ts
  | .bin _ a b=>a.ts++b.ts
  | .sbin _ a b=>a.ts++b.ts
  | .bbin _ a b=>a.ts++b.ts
  | .abin _ _ a b=>a.ts++b.ts
  | .un _ a=>a.ts
  | .conv _ a=>a.ts
  | .fld _ a=>a.ts
  | .part _ _ _ a=>a.ts
  | .idx _ a b=>a.ts++b.ts
  | .sidx a b=>a.ts++b.ts
  | .aidx _ _ _ a b=>a.ts++b.ts
  | .apos _ _ a b=>a.ts++b.ts
  | .slice _ a lo hi=>a.ts++(aHP lo++aHP hi)
  | .sslice a lo hi=>a.ts++(aHP lo++aHP hi)
  | .mks _ _ _ _ l c=>l.ts++c.ts
  | .ext a _=>a.ts
  | .mkf _ cs=>nP cs
  | .bstr a=>a.ts
  | .mkm _ a b=>nP a++nP b
  | .mki _ a=>a.ts
  | .tas _ a=>a.ts
  | .nilck a=>a.ts
  | .len a=>a.ts
  | .clr _ a=>a.ts
  | .cpy _ a b=>a.ts++b.ts
  | .slen a=>a.ts
  | .mn a b=>a.ts++b.ts
  | .mn3 a b c=>a.ts++b.ts++c.ts
  | .mx a b=>a.ts++b.ts
  | .append _ _ _ a b=>a.ts++b.ts
  | .call _ _ us=>nP us
  | .callA _ us=>nP us
  | .callv _ g us=>g.ts++nP us
  | .isnil _ a=>a.ts
  | .mkmap=>[]
  | .mlook _ _ _ a b=>a.ts++b.ts
  | .mset _ a b c=>a.ts++(b.ts++c.ts)
  | .mlen a=>a.ts
  | .bad=>[]
section
variable {P:Program} {id:Nat} {T T':Nat→V} {H:aP} {k:V→aP→Prop}
theorem fV {s:SX} (h: ∀ t∈s.ts,T t=T' t):ev T s=ev T' s:=by
  cases s with
  |t n=>exact h n (by simp [SX.ts])
  |c v=>rfl
theorem kH {l:List SX} (h: ∀ t∈nP l,T t=T' t):evs T l=evs T' l:=by
  induction l with
  |nil=>rfl
  | cons s l ih =>
    simp only [evs]
    rw [fV (T':=T') fun t ht=>h t (by simp [nP,ht]),ih fun t ht=>h t (by simp [nP,ht])]
theorem pX {o:Option SX} (h: ∀ t∈aHP o,T t=T' t):o.map (ev T)=o.map (ev T'):=by
  cases o with
  |none=>rfl
  |some s=>simp only [Option.map_some]; rw [fV (T':=T') fun t ht=>h t (by simpa [aHP] using ht)]
theorem aDQ {ps:List (Nat×Nat×SX)} (h: ∀ t∈nP (ps.map fun p=>p.2.2),T t=T' t):(ps.map fun p=>(p.1,p.2.1,ev T p.2.2))=ps.map fun p=>(p.1,p.2.1,ev T' p.2.2):=by
  induction ps with
  |nil=>rfl
  | cons s l ih =>
    simp only [List.map_cons]
    rw [fV (T':=T') fun t ht=>h t (by simp [nP,ht]),ih fun t ht=>h t (by simp only [List.map_cons,nP]; exact List.mem_append_right _ ht)]
theorem aBa {ps:List (Nat×SX)} (h: ∀ t∈nP (ps.map fun p=>p.2),T t=T' t):(ps.map fun p=>(p.1,ev T p.2))=ps.map fun p=>(p.1,ev T' p.2):=by
  induction ps with
  |nil=>rfl
  | cons s l ih =>
    simp only [List.map_cons]
    rw [fV (T':=T') fun t ht=>h t (by simp [nP,ht]),ih fun t ht=>h t (by simp only [List.map_cons,nP]; exact List.mem_append_right _ ht)]
theorem aIu {x:X} (h: ∀ t∈x.ts,T t=T' t) (hst:St P id x T H k):St P id x T' H k:=by
  have two: ∀ {a b:SX},(∀ t∈a.ts++b.ts,T t=T' t)→ev T a=ev T' a∧ev T b=ev T' b:=fun h=>
    ⟨fV fun t ht=>h t (List.mem_append_left _ ht),fV fun t ht=>h t (List.mem_append_right _ ht)⟩
  cases x <;> simp only [X.ts] at h <;> simp only [St] at hst ⊢
  case lazy=>exact hst
  case alloc=>exact hst
  case mkmap=>exact hst
  case mset kd a b c=>
    rw [← fV (T:=T) (T':=T') (s:=a) fun t ht=>h t (List.mem_append_left _ ht)]
    obtain ⟨h1,h2⟩:=two fun t ht=>h t (List.mem_append_right _ ht)
    rw [← h1,← h2]; exact hst
  case pick c a b=>
    rw [← fV (T:=T) (T':=T') (s:=c) fun t ht=>h t (List.mem_append_left _ ht)]
    obtain ⟨h1,h2⟩:=two fun t ht=>h t (List.mem_append_right _ ht)
    rw [← h1,← h2]; exact hst
  case build=>rw [← aDQ h]; exact hst
  case bslice=>rw [← aBa h]; exact hst
  case slice e a lo hi=>
    rw [← fV (T:=T) (T':=T') (s:=a) fun t ht=>h t (List.mem_append_left _ ht),← pX (T:=T) (T':=T') (o:=lo) fun t ht=>h t (List.mem_append_right _ (List.mem_append_left _ ht)),
      ← pX (T:=T) (T':=T') (o:=hi) fun t ht=>h t (List.mem_append_right _ (List.mem_append_right _ ht))]
    exact hst
  case sslice a lo hi=>
    rw [← fV (T:=T) (T':=T') (s:=a) fun t ht=>h t (List.mem_append_left _ ht),← pX (T:=T) (T':=T') (o:=lo) fun t ht=>h t (List.mem_append_right _ (List.mem_append_left _ ht)),
      ← pX (T:=T) (T':=T') (o:=hi) fun t ht=>h t (List.mem_append_right _ (List.mem_append_right _ ht))]
    exact hst
  case mn3 a b c=>
    obtain ⟨h1,h2⟩:=two fun t ht=>h t (List.mem_append_left _ ht)
    rw [← h1,← h2,← fV (T:=T) (T':=T') (s:=c) fun t ht=>h t (List.mem_append_right _ ht)]; exact hst
  case mkf=>rw [← kH h]; exact hst
  case mkm a b=>rw [← kH (T:=T) (T':=T') (l:=a) fun t ht=>h t (List.mem_append_left _ ht),← kH (T:=T) (T':=T') (l:=b) fun t ht=>h t (List.mem_append_right _ ht)]; exact hst
  case call=>rw [← kH h]; exact hst
  case callA=>rw [← kH h]; exact hst
  case callv e g us=>
    rw [← fV (T:=T) (T':=T') (s:=g) fun t ht=>h t (List.mem_append_left _ ht),← kH (T:=T) (T':=T') (l:=us) fun t ht=>h t (List.mem_append_right _ ht)]
    exact hst
  all_goals first
    |(rw [← fV h]; exact hst)
    |(obtain ⟨h1,h2⟩:=two h; rw [← h1,← h2]; exact hst)
theorem aA2 {e:Bool} {f:Nat} {args:List V} (h:tH P e f args H k): ∃ v H',k v H'∧tH P e f args H fun a b=>a=v∧b=H':=by
  cases e with
  |false=>obtain ⟨v,h1,h2⟩:=h; exact ⟨v,H,h2,v,h1,rfl,rfl⟩
  |true=>obtain ⟨v,H',h1,h2⟩:=h; exact ⟨v,H',h2,v,H',h1,rfl,rfl⟩
theorem aJ4 {x : X} (hN : x.cls ≠ .N) (h : St P id x T H k) : ∃ v H', k v H' ∧ St P id x T H fun a b => a = v ∧ b = H' := by
  cases x <;> simp only [St,bO] at h ⊢
  case isnil=>exact absurd rfl hN
  case call=>exact aA2 h
  case callA=>
    obtain ⟨v,b,h1,h2,h3⟩:=h
    exact ⟨_,_,h3,v,b,h1,h2,rfl,rfl⟩
  case callv=>
    split at h
    · exact aA2 h
    · exact h.elim
  case clr=>
    obtain ⟨v,h1,h2⟩:=h
    exact ⟨_,_,h2,v,h1,rfl,rfl⟩
  case cpy=>
    obtain ⟨v,h1,h2⟩:=h
    exact ⟨_,_,h2,v,h1,rfl,rfl⟩
  case store=>
    obtain ⟨v,h1,h2⟩:=h
    exact ⟨_,_,h2,v,h1,rfl,rfl⟩
  case bslice=>
    obtain ⟨v,h1,h2⟩:=h
    split at h2
    · rename_i ho
      exact ⟨_,_,h2,v,h1,by rw [if_pos ho]; exact ⟨rfl,rfl⟩⟩
    · rename_i ho
      exact ⟨_,_,h2,v,h1,by rw [if_neg ho]; exact ⟨rfl,rfl⟩⟩
  case append =>
    split at h
    · split at h
      · rename_i c1
        split at h
        · rename_i c2
          split at h
          · rename_i c3
            split at h
            · rename_i c4
              split at h
              · rename_i c5
                obtain ⟨new,h1,h2⟩:=h
                split at h2
                · rename_i c6
                  split at h2
                  · rename_i c7
                    split at h2
                    · rename_i c8
                      refine ⟨_,_,h2,?_⟩
                      rw [if_pos c1,if_pos c2,if_pos c3,if_pos c4,if_pos c5]
                      exact ⟨new,h1,by rw [if_pos c6,if_pos c7,if_pos c8]; exact ⟨rfl,rfl⟩⟩
                    · exact h2.elim
                  · exact h2.elim
                · exact h2.elim
              · exact h.elim
            · exact h.elim
          · exact h.elim
        · exact h.elim
      · exact h.elim
    · exact h.elim
  all_goals first
    |exact ⟨_,_,h,rfl,rfl⟩
    |(obtain ⟨v,h1,h2⟩:=h; exact ⟨_,_,h2,v,h1,rfl,rfl⟩)
theorem aTI {x:X} (hc:x.cls=.I) {v:V} {H1:aP} (h:St P id x T H fun a b=>a=v∧b=H1):H1=H∧ ∀ H2,St P id x T H2 fun a b=>a=v∧b=H2:=by
  cases x <;> simp only [X.cls] at hc <;> try (cases hc; done)
  case bslice ty esz own z len ps=>cases own <;> cases hc
  case call e f args=>cases e <;> cases hc
  case callv e f args=>cases e <;> cases hc
  case mv=>exact ⟨h.2.symm,fun _=>⟨h.1,rfl⟩⟩
  case mkf=>exact ⟨h.2.symm,fun _=>⟨h.1,rfl⟩⟩
  case mkm=>exact ⟨h.2.symm,fun _=>⟨h.1,rfl⟩⟩
  all_goals
    simp only [St,bO] at h
    obtain ⟨r,h1,h2,h3⟩:=h
    refine ⟨h3.symm,fun H2=>?_⟩
    simp only [St,bO]
    exact ⟨r,h1,h2,trivial⟩
theorem aED {H H':aP} (h:Ext H H') {i ver:Nat} (ho:ok H i ver=true):ok H' i ver=true∧H' i=H i:=by
  have e:=h i (eL (okp ho).1)
  refine ⟨?_,e⟩
  unfold ok at ho ⊢
  rw [e]; exact ho
theorem aIU {H H':aP} (h:Ext H H') {i ver:Nat} (ho:((H i).live&&decide ((H i).ver=ver))=true):((H' i).live&&decide ((H' i).ver=ver))=true∧H' i=H i:=by
  have hl:(H i).live=true:=by simp at ho; exact ho.1
  have e:=h i hl
  exact ⟨by rw [e]; exact ho,e⟩
theorem aMw {H H':aP} (h:Ext H H') {u:V} {cs:List V} (hp:ptr H u=some cs):ptr H' u=some cs:=by
  unfold ptr at hp ⊢
  split at hp
  · exact hp
  · split at hp
    · rename_i ho
      obtain ⟨h1,h2⟩:=aED h ho
      simp only [h1,if_true,h2]; exact hp
    · cases hp
  · cases hp
theorem aLe {H H':aP} (h:Ext H H') {e:Nat} {u i r:V} (hp:wB H e u i=some r):wB H' e u i=some r:=by
  unfold wB at hp ⊢
  split at hp
  · exact hp
  · split at hp
    · rename_i ho
      obtain ⟨h1,h2⟩:=aED h ho
      simp only [h1,if_true,h2]; exact hp
    · cases hp
  · cases hp
theorem aM1 {H H':aP} (h:Ext H H') {u r:V} (hp:aC8 H u=some r):aC8 H' u=some r:=by
  unfold aC8 at hp ⊢
  split at hp
  · exact hp
  · exact hp
  · split at hp
    · rename_i ho
      obtain ⟨h1,h2⟩:=aIU h ho
      simp only [h1,if_true]; exact hp
    · cases hp
  · cases hp
theorem aHC {H H':aP} (h:Ext H H') {e:Nat} {lo hi:Option V} {u r:V} (hp:oQ H e lo hi u=some r):oQ H' e lo hi u=some r:=by
  unfold oQ at hp ⊢
  split at hp
  · exact hp
  · exact hp
  · rename_i id ver off len
    obtain ⟨b,h1,h2⟩:=oJ hp
    obtain ⟨l,h3,h4⟩:=oJ h2
    simp only [h1,h3,Option.bind_some] at h4 ⊢
    split at h4
    · rename_i ho
      obtain ⟨h5,h6⟩:=aED h ho
      simp only [h5,if_true,h6]; exact h4
    · cases h4
  · cases hp
theorem Ext.trans {A B C:aP} (h:Ext A B) (k:Ext B C):Ext A C:=fun id hl=>by
  have e:=h id hl
  rw [k id (by rw [e]; exact hl),e]
theorem aAO {H H1:aP} {f:Nat} {args:List V} {v:V} (h:tH P false f args H fun a b=>a=v∧b=H1):H1=H∧ ∀ H2,Ext H H2→tH P false f args H2 fun a b=>a=v∧b=H2:=by
  obtain ⟨u,h1,h2,h3⟩:=h
  exact ⟨h3.symm,fun H2 he=>⟨u,fun H3 h4=>h1 H3 (he.trans h4),h2,rfl⟩⟩
theorem aSl {x:X} (hc:x.cls=.D) {v:V} {H1:aP} (h:St P id x T H fun a b=>a=v∧b=H1):H1=H∧ ∀ H2,Ext H H2→St P id x T H2 fun a b=>a=v∧b=H2:=by
  cases x <;> simp only [X.cls] at hc <;> try (cases hc; done)
  case bslice ty esz own z len ps=>
    cases own
    · simp only [St,bO,Bool.false_eq_true,if_false] at h
      obtain ⟨r,h1,h2,h3⟩:=h
      refine ⟨h3.symm,fun H2 _=>?_⟩
      simp only [St,bO,Bool.false_eq_true,if_false]
      exact ⟨r,h1,h2,trivial⟩
    · cases hc
  case call e f args=>
    cases e
    · exact aAO h
    · cases hc
  case callv e f args=>
    cases e
    · simp only [St] at h ⊢
      split at h
      · exact aAO h
      · exact h.elim
    · cases hc
  case load g n a=>
    simp only [St,bO] at h
    obtain ⟨r,h1,h2,h3⟩:=h
    refine ⟨h3.symm,fun H2 he=>?_⟩
    simp only [St,bO]
    obtain ⟨cs,h4,h5⟩:=oJ h1
    exact ⟨r,by rw [aMw he h4]; exact h5,h2,trivial⟩
  all_goals
    simp only [St,bO] at h
    obtain ⟨r,h1,h2,h3⟩:=h
    refine ⟨h3.symm,fun H2 he=>?_⟩
    simp only [St,bO]
    first
      |exact ⟨r,aLe he h1,h2,trivial⟩
      |exact ⟨r,aHC he h1,h2,trivial⟩
      |exact ⟨r,aM1 he h1,h2,trivial⟩
theorem aOU {x:X} (hc:x.cls=.A) {v:V} {H1:aP} (h:St P id x T H fun a b=>a=v∧b=H1):
    H1=upd H id (H1 id)∧(H1 id).live=true∧ ∀ H2,H2 id=H id→St P id x T H2 fun a b=>a=v∧b=upd H2 id (H1 id):=by
  cases x <;> simp only [X.cls] at hc <;> try (cases hc; done)
  case call e f args=>cases e <;> cases hc
  case callv e f args=>cases e <;> cases hc
  case bslice ty esz own z len ps=>
    cases own
    · cases hc
    · simp only [St,bO,if_true] at h
      obtain ⟨r,h1,h2,rfl⟩:=h
      refine ⟨by rw [aK],by rw [aK],fun H2 he=>?_⟩
      simp only [St,bO,if_true,aK,he]
      exact ⟨r,h1,h2,rfl⟩
  case callA f args=>
    simp only [St] at h
    obtain ⟨v',b,h1,h2,h3,rfl⟩:=h
    refine ⟨by rw [aK],by rw [aK]; exact h1,fun H2 he=>?_⟩
    simp only [St,aK]
    exact ⟨v',b,h1,fun H3 h4=>h2 H3 (h4.trans he),h3,rfl⟩
  case mks=>
    simp only [St,bO] at h
    obtain ⟨r,h1,h2,rfl⟩:=h
    refine ⟨by rw [aK],by rw [aK],fun H2 he=>?_⟩
    simp only [St,bO,aK,he]
    exact ⟨r,h1,h2,rfl⟩
  all_goals
    simp only [St] at h
    obtain ⟨h2,rfl⟩:=h
    refine ⟨by rw [aK],by rw [aK],fun H2 he=>?_⟩
    simp only [St,aK,he]
    exact ⟨h2,trivial⟩
end
end Go.Proofs.YteehaobohaecmaaGreatDoor


namespace Go.Proofs.YteehaobohaecmaaGreatDoor
open Go
structure Rec where
  i:Nat
  s:SO
  T:Nat→V
  H:aP
  v:V
  H':aP
  taken:Bool
section
variable {P:Program} {k0:Nat}
def Rec.id (k0:Nat) (r:Rec):Nat:=k0+r.s.d.getD 0
def Rec.OK (P:Program) (k0:Nat) (r:Rec):Prop:=
  match r.s.g with
  |none=>r.taken=true∧St P (r.id k0) r.s.x r.T r.H fun a b=>a=r.v∧b=r.H'
  |some (t,want)=> ∃ b:Bool,gd want (r.T t)=b∧((b=true∧r.taken=true∧St P (r.id k0) r.s.x r.T r.H fun a b=>a=r.v∧b=r.H')∨(b=false∧r.taken=false∧r.v=.raw undef∧r.H'=r.H))
def aAH (P:Program) (k0:Nat) (K:(Nat→V)→aP→Prop):List Rec→(Nat→V)→aP→Prop
  |[],T,H=>K T H
  |r::l,T,H=>r.T=T∧r.H=H∧r.OK P k0∧aAH P k0 K l (iY T r.s.d r.v) r.H'
theorem sW {K : (Nat → V) → aP → Prop} : ∀ (l : List (Nat × SO)) (T : Nat → V) (H : aP), (∀ q ∈ l, q.2.x.cls ≠ .N) → Ops P k0 (l.map (·.2)) T H K → ∃ rs : List Rec, rs.map (fun r => (r.i, r.s)) = l ∧ aAH P k0 K rs T H
  |[],T,H,_,h=>⟨[],rfl,h⟩
  | (i, s) :: l, T, H, hN, h => by
    have hs:s.x.cls≠.N:=hN (i,s) (List.mem_cons_self ..)
    have hl: ∀ q∈l,q.2.x.cls≠.N:=fun q hq=>hN q (List.mem_cons_of_mem _ hq)
    simp only [List.map_cons,Ops] at h
    split at h
    · rename_i hg
      obtain ⟨v,H',h1,h2⟩:=aJ4 hs h
      obtain ⟨rs,h3,h4⟩:=sW l _ _ hl h1
      exact ⟨⟨i,s,T,H,v,H',true⟩::rs,by simp [h3],rfl,rfl,by simp only [Rec.OK,hg]; exact ⟨trivial,h2⟩,h4⟩
    · rename_i t want hg
      obtain ⟨h2,h3⟩:=h
      cases hb:gd want (T t)
      case true=>
        obtain ⟨v,H',h4,h5⟩:=aJ4 hs (h2 hb)
        obtain ⟨rs,h6,h7⟩:=sW l _ _ hl h4
        exact ⟨⟨i,s,T,H,v,H',true⟩::rs,by simp [h6],rfl,rfl,by simp only [Rec.OK,hg]; exact ⟨_,hb,.inl ⟨rfl,trivial,h5⟩⟩,h7⟩
      case false=>
        obtain ⟨rs,h6,h7⟩:=sW l _ _ hl (h3 hb)
        exact ⟨⟨i,s,T,H,.raw undef,H,false⟩::rs,by simp [h6],rfl,rfl,by simp only [Rec.OK,hg]; exact ⟨_,hb,.inr ⟨rfl,trivial,trivial,trivial⟩⟩,h7⟩
def Rec.eff (k0 : Nat) (r : Rec) (H : aP) : aP :=
  if r.taken then match r.s.x.cls with
    | .E=>r.H'
    | .A=>upd H (r.id k0) (r.H' (r.id k0))
    |_=>H
  else H
theorem Rec.st {r:Rec} (h:r.OK P k0) (ht:r.taken=true):St P (r.id k0) r.s.x r.T r.H fun a b=>a=r.v∧b=r.H':=by
  unfold Rec.OK at h
  split at h
  · exact h.2
  · obtain ⟨b,_,h|h⟩:=h
    · exact h.2.2
    · rw [ht] at h; cases h.2.1
theorem Rec.eff_self {r:Rec} (hN:r.s.x.cls≠.N) (h:r.OK P k0):r.eff k0 r.H=r.H':=by
  unfold Rec.eff
  cases ht:r.taken with
  | false =>
    unfold Rec.OK at h
    split at h
    · rw [ht] at h; cases h.1
    · obtain ⟨b,_,h|h⟩:=h
      · rw [ht] at h; cases h.2.1
      · simp [h.2.2.2]
  | true =>
    have hst:=r.st h ht
    simp only [if_true]
    cases hc:r.s.x.cls with
    |I=>exact (aTI hc hst).1.symm
    |D=>exact (aSl hc hst).1.symm
    |A=>exact (aOU hc hst).1.symm
    |E=>rfl
    |N=>exact absurd hc hN
def TS (S:Nat→Bool) (T:Nat→V) (rs:List Rec):Nat→V:=rs.foldl (fun T r=>if S r.i then iY T r.s.d r.v else T) T
def HS (k0:Nat) (S:Nat→Bool) (H:aP) (rs:List Rec):aP:=rs.foldl (fun H r=>if S r.i then r.eff k0 H else H) H
theorem iR (S:Nat→Bool) (T:Nat→V) (a b:List Rec):TS S T (a++b)=TS S (TS S T a) b:=by simp [TS]
theorem iL (S:Nat→Bool) (H:aP) (a b:List Rec):HS k0 S H (a++b)=HS k0 S (HS k0 S H a) b:=by simp [HS]
theorem gX {K:(Nat→V)→aP→Prop}: ∀ (a b:List Rec) (T:Nat→V) (H:aP),(∀ r∈a,r.s.x.cls≠.N)→aAH P k0 K (a++b) T H→aAH P k0 K b (TS (fun _=>true) T a) (HS k0 (fun _=>true) H a)∧(∀ r∈a,r.OK P k0)
  |[],b,T,H,_,h=>⟨h,fun r hr=>by cases hr⟩
  | r :: a, b, T, H, hN, h => by
    obtain ⟨h1,h2,h3,h4⟩:=h
    obtain ⟨h5,h6⟩:=gX a b _ _ (fun q hq=>hN q (List.mem_cons_of_mem _ hq)) h4
    refine ⟨?_,fun q hq=>?_⟩
    · simp only [TS,HS,List.foldl_cons,if_true]
      rw [← h2,Rec.eff_self (hN r (List.mem_cons_self ..)) h3]
      exact h5
    · rcases List.mem_cons.1 hq with rfl|hq
      · exact h3
      · exact h6 q hq
theorem zO (S:Nat→Bool) (t:Nat): ∀ (rs:List Rec) (T:Nat→V),(∀ r∈rs,S r.i=true→r.s.d≠some t)→TS S T rs t=T t
  |[],T,_=>rfl
  | r :: rs, T, h => by
    simp only [TS,List.foldl_cons]
    have ih:=zO S t rs (if S r.i then iY T r.s.d r.v else T) fun q hq=>h q (List.mem_cons_of_mem _ hq)
    simp only [TS] at ih
    rw [ih]
    split
    · rename_i hs
      have:=h r (List.mem_cons_self ..) hs
      cases hd:r.s.d with
      |none=>rfl
      |some d=>rw [hd] at this; simp only [iY]; exact bD _ _ fun e=>this (by rw [e])
    · rfl
theorem nU (S S' : Nat → Bool) : ∀ (rs : List Rec) (T T' : Nat → V) (t : Nat), T t = T' t → (∀ r ∈ rs, r.s.d = some t → S r.i = S' r.i) → TS S T rs t = TS S' T' rs t
  |[],T,T',t,h,_=>h
  | r :: rs, T, T', t, h, hs => by
    simp only [TS,List.foldl_cons]
    have ih:=nU S S' rs (if S r.i then iY T r.s.d r.v else T) (if S' r.i then iY T' r.s.d r.v else T') t ?_ fun q hq=>hs q (List.mem_cons_of_mem _ hq)
    · simpa only [TS] using ih
    · by_cases hd:r.s.d=some t
      · rw [hs r (List.mem_cons_self ..) hd]
        split
        · rw [hd]; simp [iY,aK]
        · exact h
      · have keep: ∀ (U:Nat→V),iY U r.s.d r.v t=U t:=fun U=>by
          cases hq:r.s.d with
          |none=>rfl
          |some d=>rw [hq] at hd; simp only [iY]; exact bD _ _ fun e=>hd (by rw [e])
        have e1:(if S r.i then iY T r.s.d r.v else T) t=T t:=by split <;> simp [keep]
        have e2:(if S' r.i then iY T' r.s.d r.v else T') t=T' t:=by split <;> simp [keep]
        rw [e1,e2]; exact h
theorem aEu (S:Nat→Bool): ∀ (rs:List Rec) (H:aP),(∀ r∈rs,S r.i=false→ ∀ G,r.eff k0 G=G)→HS k0 S H rs=HS k0 (fun _=>true) H rs
  |[],H,_=>rfl
  | r :: rs, H, h => by
    simp only [HS,List.foldl_cons,if_true]
    have ih:=fun G=>aEu S rs G fun q hq=>h q (List.mem_cons_of_mem _ hq)
    simp only [HS,if_true] at ih
    cases hs:S r.i with
    |true=>simp only [if_true]; exact ih _
    | false =>
      simp only [Bool.false_eq_true,if_false]
      rw [h r (List.mem_cons_self ..) hs]
      exact ih _
theorem pZ (S:Nat→Bool): ∀ (rs:List Rec) (H:aP),(∀ r∈rs,S r.i=true→ ∀ G,r.eff k0 G=G)→HS k0 S H rs=H
  |[],H,_=>rfl
  | r :: rs, H, h => by
    simp only [HS,List.foldl_cons]
    have ih:=fun G=>pZ S rs G fun q hq=>h q (List.mem_cons_of_mem _ hq)
    simp only [HS] at ih
    cases hs:S r.i with
    |true=>simp only [if_true]; rw [h r (List.mem_cons_self ..) hs]; exact ih _
    |false=>simp only [Bool.false_eq_true,if_false]; exact ih _
theorem aCK (S S' : Nat → Bool) (id : Nat) : ∀ (rs : List Rec) (H H' : aP), H id = H' id → (∀ r ∈ rs, (∀ G, r.eff k0 G = G) ∨ (∃ b, ∀ G, r.eff k0 G = upd G (r.id k0) b) ∧ r.id k0 ≠ id ∨ S r.i = true ∧ S' r.i = true ∧ ∃ C, ∀ G, r.eff k0 G = C) →
    HS k0 S H rs id=HS k0 S' H' rs id
  |[],H,H',h,_=>h
  | r :: rs, H, H', h, hr => by
    simp only [HS,List.foldl_cons]
    have ih:=aCK S S' id rs (if S r.i then r.eff k0 H else H) (if S' r.i then r.eff k0 H' else H') ?_ fun q hq=>hr q (List.mem_cons_of_mem _ hq)
    · simpa only [HS] using ih
    · rcases hr r (List.mem_cons_self ..) with h1|⟨⟨b,h1⟩,h2⟩|⟨h1,h2,C,h3⟩
      · simp only [h1,ite_self]; exact h
      · have e1: ∀ (c:Bool) (G:aP),(if c then upd G (r.id k0) b else G) id=G id:=fun c G=>by
          cases c <;> simp [bD _ _ (Ne.symm h2)]
        simp only [h1,e1]; exact h
      · simp only [h1,h2,if_true,h3]
theorem aJI (S : Nat → Bool) (id : Nat) (b : Blk) : ∀ (rs : List Rec) (H : aP), (∀ r ∈ rs, S r.i = true → (∀ G, r.eff k0 G = G) ∨ (∃ c, ∀ G, r.eff k0 G = upd G (r.id k0) c) ∧ r.id k0 ≠ id) →
    HS k0 S (upd H id b) rs=upd (HS k0 S H rs) id b
  |[],H,_=>rfl
  | r :: rs, H, h => by
    simp only [HS,List.foldl_cons]
    have ih:=fun G=>aJI S id b rs G fun q hq=>h q (List.mem_cons_of_mem _ hq)
    simp only [HS] at ih
    cases hs:S r.i with
    |false=>simp only [Bool.false_eq_true,if_false]; exact ih _
    | true =>
      simp only [if_true]
      rcases h r (List.mem_cons_self ..) hs with h1|⟨⟨c,h1⟩,h2⟩
      · rw [h1,h1]; exact ih _
      · rw [h1,h1]
        have e:upd (upd H id b) (r.id k0) c=upd (upd H (r.id k0) c) id b:=by
          funext j
          simp only [aAR]
          by_cases e1:j=r.id k0 <;> by_cases e2:j=id
          · exact absurd (e1.symm.trans e2) h2
          · simp [e1,h2]
          · simp [e2,Ne.symm h2]
          · simp [e1,e2]
        rw [e]; exact ih _
theorem aFl (S : Nat → Bool) : ∀ (rs : List Rec) (H0 H : aP), Ext H0 H → (∀ r ∈ rs, S r.i = true → (∀ G, r.eff k0 G = G) ∨ ((∃ c, ∀ G, r.eff k0 G = upd G (r.id k0) c) ∧ (H0 (r.id k0)).live = false) ∨ ∃ C, (∀ G, r.eff k0 G = C) ∧ Ext H0 C) → Ext H0 (HS k0 S H rs)
  |[],_,_,h,_=>h
  | r :: rs, H0, H, h, hr => by
    simp only [HS,List.foldl_cons]
    have ih:=fun G hG=>aFl S rs H0 G hG fun q hq=>hr q (List.mem_cons_of_mem _ hq)
    simp only [HS] at ih
    refine ih _ ?_
    cases hs:S r.i with
    |false=>exact h
    | true =>
      simp only [if_true]
      rcases hr r (List.mem_cons_self ..) hs with h1|⟨⟨c,h1⟩,h2⟩|⟨C,h1,h2⟩
      · rw [h1]; exact h
      · rw [h1]
        intro id hl
        have hne:id≠r.id k0:=fun e=>by rw [e,h2] at hl; cases hl
        rw [bD _ _ hne]; exact h id hl
      · rw [h1]; exact h2
theorem aAq {K:(Nat→V)→aP→Prop} {H0:aP} {q:Rec} {p2:List Rec}: ∀ (p1:List Rec) (T:Nat→V) (H:aP),aAH P k0 K (p1++q::p2) T H→Ext H0 H→
    (∀ e∈p1++[q],e.H'=e.H∨ ∃ id B,e.H'=upd e.H id B∧(H0 id).live=false)→Ext H0 q.H'
  | [], T, H, hc, h, he => by
    obtain ⟨_,h2,_,_⟩:=hc
    have hq:=he q (by simp)
    rw [h2] at hq
    rcases hq with e|⟨id,B,e,hd⟩
    · rw [e]; exact h
    · rw [e]
      intro j hl
      have hne:j≠id:=fun e=>by rw [e,hd] at hl; cases hl
      rw [bD _ _ hne]; exact h j hl
  | a :: p1, T, H, hc, h, he => by
    obtain ⟨_,h2,_,h4⟩:=hc
    refine aAq p1 _ _ h4 ?_ fun e hm=>he e (by simp at hm ⊢; rcases hm with hm|hm <;> simp [hm])
    have ha:=he a (by simp)
    rw [h2] at ha
    rcases ha with e|⟨id,B,e,hd⟩
    · rw [e]; exact h
    · rw [e]
      intro j hl
      have hne:j≠id:=fun e=>by rw [e,hd] at hl; cases hl
      rw [bD _ _ hne]; exact h j hl
end
end Go.Proofs.YteehaobohaecmaaGreatDoor


namespace Go.Proofs.YteehaobohaecmaaGreatDoor
open Go
def SO.reads (s:SO):List Nat:=s.x.ts++(match s.g with
  |some (t,_)=>[t]
  |none=>[])
def gB (b:Array Nat) (i j:Nat):Bool:=(b.getD i 0).testBit j
def aL8:X→Bool
  | .alloc _ _=>true
  |_=>false
def frs (b:Array Nat) (l:List (Nat×SO)) (q r:Nat×SO):Bool:=match r.2.x with
  | .store _ (.t d) _=>l.any fun a=>a.2.d==some d&&aL8 a.2.x&& !(gB b a.1 q.1)&&gB b r.1 a.1
  |_=>false
def pw (b : Array Nat) (l : List (Nat × SO)) (q r : Nat × SO) : Bool :=
  let anc:=gB b r.1 q.1
  !(gB b q.1 r.1)&&q.1 != r.1&&
  (match q.2.d with
    |some d=>r.2.d != some d&&(anc|| !r.2.reads.contains d)
    |none=>true)&&
  (match r.2.d with
    |some d=>anc|| !q.2.reads.contains d
    |none=>true)&&
  (anc|| !((q.2.x.cls==.E&&r.2.x.cls != .I)||(r.2.x.cls==.E&&q.2.x.cls != .I)||(q.2.x.cls==.A&&r.2.x.cls==.D))||(q.2.x.cls==.D&&r.2.x.cls==.E&&frs b l q r))
def aAQ (b:Array Nat):List (Nat×SO)→Bool
  |[]=>true
  |q::l=>l.all (pw b l q)&&aAQ b l
def kZ (b:Array Nat):List (Nat×SO)→List (Nat×SO)→List Nat
  |_,[]=>[]
  |pre,r::l=>(if r.2.x.cls==.A&&pre.any (fun q=>q.2.x.cls==.D&& !(gB b r.1 q.1)) then [r.2.d.getD 0] else [])++kZ b (pre++[r]) l
theorem iO {b:Array Nat}: ∀ {pre post:List (Nat×SO)} {r:Nat×SO},aAQ b (pre++r::post)=true→(∀ q∈pre,∃ l,pw b l q r=true)∧(∀ q∈post,pw b post r q=true)
  | [], post, r, h => by
    simp only [List.nil_append,aAQ,Bool.and_eq_true,List.all_eq_true] at h
    exact ⟨fun q hq=>(by cases hq),h.1⟩
  | p :: pre, post, r, h => by
    simp only [List.cons_append,aAQ,Bool.and_eq_true,List.all_eq_true] at h
    obtain ⟨h1,h2⟩:=iO (pre:=pre) h.2
    refine ⟨fun q hq=>?_,h2⟩
    rcases List.mem_cons.1 hq with rfl|hq
    · exact ⟨_,h.1 r (by simp)⟩
    · exact h1 q hq
theorem aA5 {b:Array Nat}: ∀ {pre post:List (Nat×SO)} {r:Nat×SO} (p0:List (Nat×SO)),r.2.x.cls=.A→(∃ q∈p0++pre,q.2.x.cls=.D∧gB b r.1 q.1=false)→r.2.d.getD 0∈kZ b p0 (pre++r::post)
  | [], post, r, p0, hr, ⟨q, hq, h1, h2⟩ => by
    simp only [List.nil_append,kZ]
    refine List.mem_append_left _ ?_
    rw [if_pos]
    · simp
    · simp only [hr,Bool.and_eq_true,List.any_eq_true]
      refine ⟨rfl,q,by simpa using hq,?_⟩
      simp [h1,h2]
  | p :: pre, post, r, p0, hr, ⟨q, hq, h1, h2⟩ => by
    simp only [List.cons_append,kZ]
    exact List.mem_append_right _ (aA5 (p0++[p]) hr ⟨q,by simpa using hq,h1,h2⟩)
theorem aDX (ops : Array Oper) : (Region.before ops).size = ops.size ∧ ∀ (i : Nat) (o : Oper), ops[i]? = some o → ∀ j, gB (Region.before ops) i j = true →
    ∃ e∈o.after,Region.binds .any e=true∧(e.on=j∨(e.on < i∧gB (Region.before ops) e.on j=true)):=by
  have inner: ∀ (es:List Edge) (acc:Array Nat) (s j:Nat),(es.foldl (fun s e=>if Region.binds .any e then s|||2 ^ e.on|||acc.getD e.on 0 else s) s).testBit j=true→
      s.testBit j=true∨ ∃ e∈es,Region.binds .any e=true∧(e.on=j∨(acc.getD e.on 0).testBit j=true):=by
    intro es
    induction es with
    |nil=>intro acc s j h; exact .inl h
    | cons e es ih =>
      intro acc s j h
      simp only [List.foldl_cons] at h
      rcases ih acc _ j h with h1|⟨f,hf,h1,h2⟩
      · split at h1
        · rename_i hb
          simp only [Nat.testBit_or,Bool.or_eq_true] at h1
          rcases h1 with (h1|h1)|h1
          · exact .inl h1
          · refine .inr ⟨e,List.mem_cons_self ..,hb,.inl ?_⟩
            rw [Nat.testBit_two_pow] at h1
            simpa using h1
          · exact .inr ⟨e,List.mem_cons_self ..,hb,.inr h1⟩
        · exact .inl h1
      · exact .inr ⟨f,List.mem_cons_of_mem _ hf,h1,h2⟩
  have outer : ∀ (l pre : List Oper) (acc : Array Nat), acc.size = pre.length →
      (∀ (i:Nat) (o:Oper),pre[i]?=some o→ ∀ j,(acc.getD i 0).testBit j=true→ ∃ e∈o.after,Region.binds .any e=true∧(e.on=j∨(e.on < i∧(acc.getD e.on 0).testBit j=true)))→
      (l.foldl (fun acc o=>acc.push (o.after.foldl (fun s e=>if Region.binds .any e then s|||2 ^ e.on|||acc.getD e.on 0 else s) 0)) acc).size=(pre++l).length∧
      ∀ (i : Nat) (o : Oper), (pre ++ l)[i]? = some o → ∀ j, ((l.foldl (fun acc o => acc.push (o.after.foldl (fun s e => if Region.binds .any e then s ||| 2 ^ e.on ||| acc.getD e.on 0 else s) 0)) acc).getD i 0).testBit j = true →
        ∃ e∈o.after,Region.binds .any e=true∧(e.on=j∨(e.on < i∧((l.foldl (fun acc o=>acc.push (o.after.foldl (fun s e=>if Region.binds .any e then s|||2 ^ e.on|||acc.getD e.on 0 else s) 0)) acc).getD e.on 0).testBit j=true)):=by
    intro l
    induction l with
    |nil=>intro pre acc hs h; exact ⟨by simpa using hs,by simpa only [List.append_nil,List.foldl_nil] using h⟩
    | cons o l ih =>
      intro pre acc hs h
      simp only [List.foldl_cons]
      have := ih (pre ++ [o]) (acc.push (o.after.foldl (fun s e => if Region.binds .any e then s ||| 2 ^ e.on ||| acc.getD e.on 0 else s) 0)) (by simp [hs]) (fun i o' hi j hj => by
        have lower: ∀ k,k < pre.length→(acc.push (o.after.foldl (fun s e=>if Region.binds .any e then s|||2 ^ e.on|||acc.getD e.on 0 else s) 0)).getD k 0=acc.getD k 0:=fun k hk=>by
          rw [Array.getD_eq_getD_getElem?,Array.getD_eq_getD_getElem?,Array.getElem?_push_lt (by omega)]
          simp [hs,hk]
        by_cases hip:i < pre.length
        · rw [lower i hip] at hj
          rw [List.getElem?_append_left hip] at hi
          obtain ⟨e,h1,h2,h3⟩:=h i o' hi j hj
          refine ⟨e,h1,h2,?_⟩
          rcases h3 with h3|⟨h3,h4⟩
          · exact .inl h3
          · exact .inr ⟨h3,by rw [lower _ (by omega)]; exact h4⟩
        · have hie:i=pre.length:=by
            have:=(List.getElem?_eq_some_iff.1 hi).1
            simp at this; omega
          subst hie
          have ho:o'=o:=by simpa using hi.symm
          subst ho
          rw [Array.getD_eq_getD_getElem?,← hs,Array.getElem?_push_size] at hj
          simp only [Option.getD_some] at hj
          rw [← Array.foldl_toList] at hj
          rcases inner _ _ _ _ hj with h1|⟨e,h1,h2,h3⟩
          · simp at h1
          · refine ⟨e,by simpa using h1,h2,?_⟩
            rcases h3 with h3|h3
            · exact .inl h3
            · have hlt:e.on < pre.length:=by
                rcases Nat.lt_or_ge e.on pre.length with h|h
                · exact h
                · rw [Array.getD_eq_getD_getElem?,Array.getElem?_eq_none (by omega)] at h3
                  simp at h3
              exact .inr ⟨hlt,by rw [lower _ hlt]; exact h3⟩)
      simpa [List.append_assoc] using this
  have:=outer ops.toList [] #[] rfl (fun i o h=>by simp at h)
  unfold gB
  rw [Region.before,← Array.foldl_toList]
  refine ⟨by simpa using this.1,fun i o hi j hj=>this.2 i o (by simpa using hi) j hj⟩
end Go.Proofs.YteehaobohaecmaaGreatDoor


namespace Go.Proofs.YteehaobohaecmaaGreatDoor
open Go
section
variable {P:Program} {k0:Nat}
theorem kE {S S':Nat→Bool}: ∀ (rs:List Rec) (H:aP),(∀ r∈rs,S r.i=S' r.i)→HS k0 S H rs=HS k0 S' H rs
  |[],H,_=>rfl
  | r :: rs, H, h => by
    simp only [HS,List.foldl_cons]
    have ih:=fun G=>kE rs G fun q hq=>h q (List.mem_cons_of_mem _ hq)
    simp only [HS] at ih
    rw [h r (List.mem_cons_self ..)]
    exact ih _
theorem iP {r:Rec} (_h:r.OK P k0):(∀ G,r.eff k0 G=G)∨(r.taken=true∧r.s.x.cls=.A∧ ∃ b,∀ G,r.eff k0 G=upd G (r.id k0) b)∨(r.taken=true∧r.s.x.cls=.E∧ ∃ C,∀ G,r.eff k0 G=C):=by
  cases ht:r.taken with
  |false=>exact .inl fun G=>by simp [Rec.eff,ht]
  | true =>
    cases hc:r.s.x.cls with
    |I=>exact .inl fun G=>by simp [Rec.eff,ht,hc]
    |D=>exact .inl fun G=>by simp [Rec.eff,ht,hc]
    |A=>exact .inr (.inl ⟨rfl,rfl,r.H' (r.id k0),fun G=>by simp only [Rec.eff,ht,hc,if_true]⟩)
    |N=>exact .inl fun G=>by simp [Rec.eff,ht,hc]
    |E=>exact .inr (.inr ⟨rfl,rfl,r.H',fun G=>by simp only [Rec.eff,ht,hc,if_true]⟩)
structure PW (b:Array Nat) (q r:Nat×SO):Prop where
  back:gB b q.1 r.1=false
  ne:q.1≠r.1
  dst: ∀ d,q.2.d=some d→r.2.d≠some d
  rd: ∀ d,q.2.d=some d→d∈r.2.reads→gB b r.1 q.1=true
  wr: ∀ d,r.2.d=some d→d∈q.2.reads→gB b r.1 q.1=true
  qE:q.2.x.cls=.E→r.2.x.cls≠.I→gB b r.1 q.1=true
  rE:r.2.x.cls=.E→q.2.x.cls≠.I→q.2.x.cls≠.D→gB b r.1 q.1=true
  AD:q.2.x.cls=.A→r.2.x.cls=.D→gB b r.1 q.1=true
theorem aSi {b:Array Nat} {l:List (Nat×SO)} {q r:Nat×SO} (h:pw b l q r=true) (hr:r.2.x.cls=.E) (hq:q.2.x.cls=.D):gB b r.1 q.1=true∨frs b l q r=true:=by
  unfold pw at h
  simp only [Bool.and_eq_true,Bool.or_eq_true] at h
  rcases h.2 with (h5|h5)|h5
  · exact .inl h5
  · simp [hq,hr] at h5
  · exact .inr h5.2
theorem pK {b:Array Nat} {l:List (Nat×SO)} {q r:Nat×SO} (h:pw b l q r=true):PW b q r:=by
  unfold pw at h
  simp only [Bool.and_eq_true,Bool.not_eq_true',bne_iff_ne,ne_eq] at h
  obtain ⟨⟨⟨⟨h1,h2⟩,h3⟩,h4⟩,h5⟩:=h
  refine ⟨h1,h2,fun d hd=>?_,fun d hd hr=>?_,fun d hd hr=>?_,fun hq hr=>?_,fun hr hq hD=>?_,fun hq hr=>?_⟩
  · rw [hd] at h3; simp only [Bool.and_eq_true,bne_iff_ne,ne_eq] at h3; exact h3.1
  · rw [hd] at h3
    simp only [Bool.and_eq_true,Bool.or_eq_true,Bool.not_eq_true',List.contains_eq_mem,decide_eq_false_iff_not] at h3
    exact h3.2.resolve_right fun h=>h hr
  · rw [hd] at h4
    simp only [Bool.or_eq_true,Bool.not_eq_true',List.contains_eq_mem,decide_eq_false_iff_not] at h4
    exact h4.resolve_right fun h=>h hr
  · rw [Bool.or_eq_true,Bool.or_eq_true] at h5
    rcases h5 with (h5|h5)|h5
    · exact h5
    · exfalso; simp [hq,hr] at h5
    · exfalso; simp [hq] at h5
  · rw [Bool.or_eq_true,Bool.or_eq_true] at h5
    rcases h5 with (h5|h5)|h5
    · exact h5
    · exfalso; simp [hq,hr] at h5
    · exfalso; simp [hD] at h5
  · rw [Bool.or_eq_true,Bool.or_eq_true] at h5
    rcases h5 with (h5|h5)|h5
    · exact h5
    · exfalso; simp [hq,hr] at h5
    · exfalso; simp [hq] at h5
def Rec.p (r:Rec):Nat×SO:=(r.i,r.s)
def aJ1:List (Nat×SO)→Bool
  |[]=>true
  |q::l=>(q.2.x.cls != .E||l.all fun r=>r.2.x.cls != .D)&&aJ1 l
theorem aAn {r : Nat × SO} {post : List (Nat × SO)} (hr : r.2.x.cls = .D) : ∀ {pre : List (Nat × SO)}, aJ1 (pre ++ r :: post) = true → ∀ p ∈ pre, p.2.x.cls ≠ .E
  |[],_,_,hp=>by simp at hp
  | q :: pre, h, p, hp => by
    simp only [List.cons_append,aJ1,Bool.and_eq_true] at h
    rcases List.mem_cons.1 hp with rfl|hp
    · intro he
      have h1:=h.1
      rw [he] at h1
      have:r.2.x.cls≠.D:=by
        have h2:((pre++r::post).all fun r=>r.2.x.cls != .D)=true:=by simpa using h1
        have:=List.all_eq_true.1 h2 r (by simp)
        simpa using this
      exact this hr
    · exact aAn hr h.2 p hp
def aKt (P:Program) (ops:Array Oper) (L:List (Nat×SO)):Bool:=
  P.follows .mixedOrders&&
  aAQ (Region.before ops) L&&
  (List.range ops.size).all (fun i=>L.any (·.1==i))&&
  ops.toList.zipIdx.all (fun p=>p.1.after.all fun e=> !(Region.binds .any e)||decide (e.on < p.2))&&
  L.all (fun q=>q.2.x.cls != .N&&(q.2.x.cls != .A||q.2.d.isSome))&&
  ((kZ (Region.before ops) [] L).isEmpty||aJ1 L)
variable {op:Opt} {n:Nat} {ops:Array Oper} {x0:Cx} {Q:Ex→(Nat→V)→aP→Prop} {T:Nat→V} {H:aP}
theorem aQZ {b:Array Nat} {S:Nat→Bool} {pre post:List Rec} {r:Rec} (hpre: ∀ q∈pre,PW b q.p r.p) (hpost: ∀ q∈post,PW b r.p q.p) (hS:S r.i=false)
    (hanc: ∀ j,gB b r.i j=true→S j=true) (hdes: ∀ q∈post,S q.i=true→gB b q.i r.i=false):
    ∀ t∈r.s.reads,TS S T (pre++r::post) t=TS (fun _=>true) T pre t:=by
  intro t ht
  rw [show pre++r::post=pre++([r]++post) by simp,iR,iR]
  rw [zO S t post _ fun q hq hs hd=>by
    have:=(hpost q hq).wr t hd ht
    rw [show gB b q.p.1 r.p.1=gB b q.i r.i from rfl,hdes q hq hs] at this
    cases this]
  have e1:TS S (TS S T pre) [r]=TS S T pre:=by simp [TS,hS]
  rw [e1]
  refine nU S (fun _=>true) pre T T t rfl fun q hq hd=>?_
  exact hanc q.i ((hpre q hq).rd t hd ht)
theorem aEx {b:Array Nat} {S S':Nat→Bool} {pre post:List Rec} {r:Rec} (hpre: ∀ q∈pre,PW b q.p r.p) (hpost: ∀ q∈post,PW b r.p q.p) (hS:S r.i=false) (hS': ∀ j,S' j=(S j||j==r.i)):
    TS S' T (pre++r::post)=iY (TS S T (pre++r::post)) r.s.d r.v:=by
  funext t
  have ne: ∀ q∈pre++post,S' q.i=S q.i:=fun q hq=>by
    rw [hS']
    have:q.i≠r.i:=by
      rcases List.mem_append.1 hq with hq|hq
      · exact (hpre q hq).ne
      · exact Ne.symm (hpost q hq).ne
    simp [this]
  rw [show pre++r::post=pre++([r]++post) by simp,iR,iR,iR,iR]
  have e1:TS S (TS S T pre) [r]=TS S T pre:=by simp [TS,hS]
  have e2:TS S' (TS S' T pre) [r]=iY (TS S' T pre) r.s.d r.v:=by simp [TS,hS']
  rw [e1,e2]
  have agree: ∀ u,TS S' T pre u=TS S T pre u:=fun u=>nU S' S pre T T u rfl fun q hq _=>ne q (List.mem_append_left _ hq)
  by_cases hd:r.s.d=some t
  · rw [zO S' t post _ fun q hq _ hq'=>(hpost q hq).dst t hd hq',hd]
    simp [iY,aK]
  · have keep: ∀ (U:Nat→V),iY U r.s.d r.v t=U t:=fun U=>by
      cases hq:r.s.d with
      |none=>rfl
      |some d=>rw [hq] at hd; simp only [iY]; exact bD _ _ fun e=>hd (by rw [e])
    rw [keep]
    exact nU S' S post _ _ t (by rw [keep]; exact agree t) fun q hq _=>ne q (List.mem_append_right _ hq)
theorem aHi {pre:List Rec} {q:Rec} (okpre: ∀ p∈pre,p.OK P k0) (h0:q.s.d.isSome=true) (hsome: ∀ p∈pre,p.s.x.cls=.A→p.s.d.isSome=true) (l1: ∀ p∈pre,p.s.x.cls≠.E) (l2: ∀ p∈pre,p.s.d≠q.s.d) (l3:(H (q.id k0)).live=false):
    (HS k0 (fun _=>true) H pre (q.id k0)).live=false:=by
  have:HS k0 (fun _=>true) H pre (q.id k0)=HS k0 (fun _=>false) H pre (q.id k0):=by
    refine aCK _ _ _ pre H H rfl fun p hp=>?_
    rcases iP (okpre p hp) with g|⟨_,g,g'⟩|⟨_,g,_⟩
    · exact .inl g
    · refine .inr (.inl ⟨g',fun he=>?_⟩)
      have s2:=hsome p hp g
      obtain ⟨d,hd⟩:=Option.isSome_iff_exists.1 h0
      obtain ⟨e,he'⟩:=Option.isSome_iff_exists.1 s2
      simp only [Rec.id,hd,he',Option.getD_some] at he
      exact l2 p hp (by rw [hd,he']; congr 1; omega)
    · exact absurd g (l1 p hp)
  rw [this,pZ _ pre H fun p _ hp=>by cases hp]
  exact l3
theorem aHA {id n d:Nat} {x:SX} {T:Nat→V} {H:aP} {v:V} {H':aP} {i ver row off:Nat} (h:St P id (.store n (.t d) x) T H fun a b=>a=v∧b=H') (ht:T d=.mp i ver row off): ∃ B,H'=upd H i B:=by
  simp only [St,bO,ev,ht] at h
  obtain ⟨H1,h1,_,rfl⟩:=h
  unfold stP at h1
  simp only at h1
  repeat (split at h1 <;> first|(cases h1; exact ⟨_,rfl⟩)|(cases h1; done)|skip)
theorem aIm {id n d:Nat} {x:SX} {T:Nat→V} {H:aP} {k:V→aP→Prop} (h:St P id (.store n (.t d) x) T H k): ∃ i ver row off,T d=.mp i ver row off:=by
  simp only [St,bO,ev] at h
  obtain ⟨H1,h1,_⟩:=h
  unfold stP at h1
  split at h1
  · rename_i i ver row off heq; exact ⟨i,ver,row,off,heq⟩
  · cases h1
theorem aMI {a:Rec} {d:Nat} (hd:a.s.d=some d) {x y:List Rec} (T:Nat→V) (hy: ∀ e∈y,e.s.d≠some d):TS (fun _=>true) T (x++a::y) d=a.v:=by
  rw [show x++a::y=x++([a]++y) by simp,iR,iR,zO _ d y _ fun e he _=>hy e he]
  simp [TS,hd,iY,aK]
theorem aDL {b : Array Nat} {S S' : Nat → Bool} {pre post : List Rec} {r : Rec} (hOK : ∀ q ∈ pre ++ r :: post, q.OK P k0) (hpre : ∀ q ∈ pre, PW b q.p r.p) (hpost : ∀ q ∈ post, PW b r.p q.p) (hS : S r.i = false) (hS' : ∀ j, S' j = (S j || j == r.i))
    (hanc: ∀ j,gB b r.i j=true→S j=true) (hdes: ∀ q∈post,S q.i=true→gB b q.i r.i=false) (hsome: ∀ q∈pre++r::post,q.s.x.cls=.A→q.s.d.isSome=true)
    (hlate: ∀ q∈post,q.s.x.cls=.A→r.s.x.cls=.D→gB b q.i r.i=false→(∀ p∈pre,p.s.x.cls≠.E)∧(∀ p∈pre,p.s.d≠q.s.d)∧(H (q.id k0)).live=false)
    (hfr: ∀ q∈post,q.s.x.cls=.E→r.s.x.cls=.D→S q.i=true→Ext r.H q.H')
    (hN:r.s.x.cls≠.N) (hr:r.H=HS k0 (fun _=>true) H pre) (ht:r.taken=true) (hst:St P (r.id k0) r.s.x r.T r.H fun a b=>a=r.v∧b=r.H'):
    St P (r.id k0) r.s.x r.T (HS k0 S H (pre++r::post)) fun a b=>a=r.v∧b=HS k0 S' H (pre++r::post):=by
  have ne: ∀ q∈pre++post,S' q.i=S q.i:=fun q hq=>by
    rw [hS']
    have:q.i≠r.i:=by
      rcases List.mem_append.1 hq with hq|hq
      · exact (hpre q hq).ne
      · exact Ne.symm (hpost q hq).ne
    simp [this]
  have split:pre++r::post=pre++([r]++post):=by simp
  have okpre: ∀ q∈pre,q.OK P k0:=fun q hq=>hOK q (by simp [hq])
  have okpost: ∀ q∈post,q.OK P k0:=fun q hq=>hOK q (by simp [hq])
  have G1:HS k0 S H (pre++r::post)=HS k0 S (HS k0 S H pre) post:=by
    rw [split,iL,iL]; simp [HS,hS]
  have G2:HS k0 S' H (pre++r::post)=HS k0 S (r.eff k0 (HS k0 S H pre)) post:=by
    rw [split,iL,iL,kE pre H fun q hq=>ne q (List.mem_append_left _ hq),kE post _ fun q hq=>ne q (List.mem_append_right _ hq)]
    simp [HS,hS']
  have idne: ∀ q∈pre++post,r.s.x.cls=.A→q.s.x.cls=.A→q.id k0≠r.id k0:=fun q hq h1 h2 he=>by
    have s1:=hsome r (by simp) h1
    have s2:=hsome q (by rw [List.mem_append] at hq ⊢; rcases hq with hq|hq <;> simp [hq]) h2
    obtain ⟨d,hd⟩:=Option.isSome_iff_exists.1 s1
    obtain ⟨e,he'⟩:=Option.isSome_iff_exists.1 s2
    simp only [Rec.id,hd,he',Option.getD_some] at he
    have hde:e=d:=by omega
    subst hde
    rcases List.mem_append.1 hq with hq|hq
    · exact (hpre q hq).dst e he' hd
    · exact (hpost q hq).dst e hd he'
  rw [G1,G2]
  cases hc:r.s.x.cls with
  |N=>exact absurd hc hN
  | I =>
    have he: ∀ G,r.eff k0 G=G:=fun G=>by simp [Rec.eff,ht,hc]
    rw [he]
    exact (aTI hc hst).2 _
  | D =>
    have he: ∀ G,r.eff k0 G=G:=fun G=>by simp [Rec.eff,ht,hc]
    rw [he]
    refine (aSl hc hst).2 _ ?_
    have e1:HS k0 S H pre=r.H:=by
      rw [hr]
      refine aEu S pre H fun q hq hs=>?_
      rcases iP (okpre q hq) with h|⟨_,h,_⟩|⟨_,h,_⟩
      · exact h
      · have:=hanc q.i ((hpre q hq).AD h hc); rw [hs] at this; cases this
      · have:=hanc q.i ((hpre q hq).qE h (by simp [Rec.p,hc])); rw [hs] at this; cases this
    rw [e1]
    refine aFl S post r.H r.H (fun _ _=>rfl) fun q hq hs=>?_
    rcases iP (okpost q hq) with h|⟨_,h,h'⟩|⟨ht',h,_⟩
    · exact .inl h
    · refine .inr (.inl ⟨h',?_⟩)
      obtain ⟨l1,l2,l3⟩:=hlate q hq h hc (hdes q hq hs)
      rw [hr]
      have:HS k0 (fun _=>true) H pre (q.id k0)=HS k0 (fun _=>false) H pre (q.id k0):=by
        refine aCK _ _ _ pre H H rfl fun p hp=>?_
        rcases iP (okpre p hp) with g|⟨_,g,g'⟩|⟨_,g,_⟩
        · exact .inl g
        · refine .inr (.inl ⟨g',fun he=>?_⟩)
          have s1:=hsome q (by simp [hq]) h
          have s2:=hsome p (by simp [hp]) g
          obtain ⟨d,hd⟩:=Option.isSome_iff_exists.1 s1
          obtain ⟨e,he'⟩:=Option.isSome_iff_exists.1 s2
          simp only [Rec.id,hd,he',Option.getD_some] at he
          exact l2 p hp (by rw [hd,he']; congr 1; omega)
        · exact absurd g (l1 p hp)
      rw [this,pZ _ pre H fun p _ hp=>by cases hp]
      exact l3
    · exact .inr (.inr ⟨q.H',fun G=>by simp only [Rec.eff,ht',h,if_true],hfr q hq h hc hs⟩)
  | A =>
    obtain ⟨a1,a2,a3⟩:=aOU hc hst
    have he: ∀ G,r.eff k0 G=upd G (r.id k0) (r.H' (r.id k0)):=fun G=>by simp only [Rec.eff,ht,hc,if_true]
    rw [he]
    have hpo: ∀ q∈post,S q.i=true→(∀ G,q.eff k0 G=G)∨(∃ c,∀ G,q.eff k0 G=upd G (q.id k0) c)∧q.id k0≠r.id k0:=fun q hq hs=>by
      rcases iP (okpost q hq) with h|⟨_,h,h'⟩|⟨_,h,_⟩
      · exact .inl h
      · exact .inr ⟨h',idne q (by simp [hq]) hc h⟩
      · have:=(hpost q hq).rE h (by simp [Rec.p,hc]) (by simp [Rec.p,hc])
        rw [show gB b q.p.1 r.p.1=gB b q.i r.i from rfl,hdes q hq hs] at this
        cases this
    rw [aJI S (r.id k0) _ post _ hpo]
    refine a3 _ ?_
    have e1 : HS k0 S (HS k0 S H pre) post (r.id k0) = HS k0 S H pre (r.id k0) := by
      have:=aCK (k0:=k0) S (fun _=>false) (r.id k0) (post.filter fun q=>S q.i) (HS k0 S H pre) (HS k0 S H pre) rfl fun q hq=>by
        obtain ⟨h1,h2⟩:=List.mem_filter.1 hq
        rcases hpo q h1 h2 with h|h
        · exact .inl h
        · exact .inr (.inl h)
      have filt: ∀ (l:List Rec) (G:aP),HS k0 S G (l.filter fun q=>S q.i)=HS k0 S G l:=by
        intro l
        induction l with
        |nil=>intro G; rfl
        | cons q l ih =>
          intro G
          by_cases hq:S q.i=true
          · rw [List.filter_cons_of_pos (by simpa using hq)]
            simp only [HS,List.foldl_cons] at ih ⊢
            exact ih _
          · rw [List.filter_cons_of_neg (by simpa using hq)]
            simp only [HS,List.foldl_cons] at ih ⊢
            rw [ih,if_neg hq]
      rw [filt] at this
      rw [this,pZ _ _ _ fun p _ hp=>by cases hp]
    rw [e1,hr]
    refine aCK S (fun _=>true) (r.id k0) pre H H rfl fun q hq=>?_
    rcases iP (okpre q hq) with h|⟨_,h,h'⟩|⟨_,h,h'⟩
    · exact .inl h
    · exact .inr (.inl ⟨h',idne q (by simp [hq]) hc h⟩)
    · exact .inr (.inr ⟨hanc q.i ((hpre q hq).qE h (by simp [Rec.p,hc])),rfl,h'⟩)
  | E =>
    have he: ∀ G,r.eff k0 G=r.H':=fun G=>by simp only [Rec.eff,ht,hc,if_true]
    rw [he]
    have e1:HS k0 S H pre=r.H:=by
      rw [hr]
      refine aEu S pre H fun q hq hs=>?_
      rcases iP (okpre q hq) with h|⟨_,h,_⟩|⟨_,h,_⟩
      · exact h
      · have:=hanc q.i ((hpre q hq).rE hc (by simp [Rec.p,h]) (by simp [Rec.p,h])); rw [hs] at this; cases this
      · have:=hanc q.i ((hpre q hq).rE hc (by simp [Rec.p,h]) (by simp [Rec.p,h])); rw [hs] at this; cases this
    have e2: ∀ G,HS k0 S G post=G:=fun G=>pZ S post G fun q hq hs=>by
      rcases iP (okpost q hq) with h|⟨_,h,_⟩|⟨_,h,_⟩
      · exact h
      · have:=(hpost q hq).qE hc (by simp [Rec.p,h])
        rw [show gB b q.p.1 r.p.1=gB b q.i r.i from rfl,hdes q hq hs] at this
        cases this
      · have:=(hpost q hq).qE hc (by simp [Rec.p,h])
        rw [show gB b q.p.1 r.p.1=gB b q.i r.i from rfl,hdes q hq hs] at this
        cases this
    rw [e1,e2,e2]
    exact hst
end
end Go.Proofs.YteehaobohaecmaaGreatDoor


namespace Go.Proofs.YteehaobohaecmaaGreatDoor
open Go
section
variable {P:Program} {D:List Deferred} {k0:Nat} {op:Opt} {n:Nat} {ops:Array Oper} {x0:Cx} {Q:Ex→(Nat→V)→aP→Prop}
def SL (listed:Array Bool) (j:Nat):Bool:=listed.getD j false
theorem aRH {listed:Array Bool} {i:Nat} (hi:i < listed.size) (j:Nat):SL (listed.setIfInBounds i true) j=(SL listed j||j==i):=by
  unfold SL
  by_cases e:i=j
  · subst e; simp [hi]
  · rw [getD_set_ne false e]
    have:(j==i)=false:=by simpa using Ne.symm e
    simp [this]
theorem aHX {L : List (Nat × SO)} {rs : List Rec} {T : Nat → V} {H : aP} (hrs : rs.map Rec.p = L) (hch : aAH P k0 (Q .norm) rs T H)
    (hslim: ∀ q∈L,∃ o,ops[q.1]?=some o∧nS P op n ops o=some q.2)
    (hpw:aAQ (Region.before ops) L=true) (hall: ∀ i,i < ops.size→ ∃ q∈L,q.1=i)
    (hlt: ∀ (i:Nat) (o:Oper),ops[i]?=some o→ ∀ e∈o.after,Region.binds .any e=true→e.on < i)
    (hN: ∀ q∈L,q.2.x.cls≠.N) (hsome: ∀ q∈L,q.2.x.cls=.A→q.2.d.isSome=true)
    (hnoE:kZ (Region.before ops) [] L=[]∨aJ1 L=true)
    (hdead: ∀ d∈kZ (Region.before ops) [] L,(H (k0+d)).live=false):
    ∀ (fuel : Nat) (listed : Array Bool) (a : Act) (w : World), listed.size = ops.size → ((List.range ops.size).filter fun i => !(SL listed i)).length ≤ fuel →
      (∀ (i:Nat) (o:Oper),ops[i]?=some o→SL listed i=true→ ∀ e∈o.after,Region.binds .any e=true→SL listed e.on=true)→
      (∃ y:Cx,y.w=w∧y.H=HS k0 (SL listed) H rs∧Inv y∧TRel D n y (TS (SL listed) T rs) a∧Frame x0 y)→
      wpAny P .any ops (lT D n x0 Q) fuel listed a w:=by
  obtain ⟨hbs,hbefore⟩:=aDX ops
  have hNr: ∀ r∈rs,r.s.x.cls≠.N:=fun r hr=>hN r.p (by rw [← hrs]; exact List.mem_map_of_mem hr)
  have hok: ∀ q∈rs,q.OK P k0:=(gX rs [] T H hNr (by simpa using hch)).2
  have hend:Q .norm (TS (fun _=>true) T rs) (HS k0 (fun _=>true) H rs):=(gX rs [] T H hNr (by simpa using hch)).1
  -- when nothing is ready,all has run
  have done : ∀ (listed : Array Bool) (a : Act) (w : World), listed.size = ops.size → Region.ready .any ops listed = [] →
      (∃ y:Cx,y.w=w∧y.H=HS k0 (SL listed) H rs∧Inv y∧TRel D n y (TS (SL listed) T rs) a∧Frame x0 y)→lT D n x0 Q .normal a w:=by
    intro listed a w hsz hr ⟨y,hyw,hyH,hyI,hyT,hyF⟩
    have all: ∀ i,i < ops.size→SL listed i=true:=by
      intro i
      induction i using Nat.strongRecOn with
      | _ i ih =>
        intro hi
        rcases hb:SL listed i with _|_
        · exfalso
          have hmem:i∈Region.ready .any ops listed:=mem_ready.2 ⟨by
            unfold SL at hb
            have hi':i < listed.size:=by omega
            simp [hi'] at hb ⊢
            exact hb,ops[i],Array.getElem?_eq_getElem hi,fun e he hbd=>by
              have h1:=hlt i ops[i] (Array.getElem?_eq_getElem hi) e he hbd
              exact ih e.on h1 (by omega)⟩
          rw [hr] at hmem; cases hmem
        · rfl
    have hSall: ∀ r∈rs,SL listed r.i=true:=fun r hr=>by
      obtain ⟨o,ho,_⟩:=hslim r.p (by rw [← hrs]; exact List.mem_map_of_mem hr)
      exact all _ (Array.getElem?_eq_some_iff.1 ho).1
    refine ⟨.norm,TS (SL listed) T rs,y,rfl,hyw,?_,hyI,hyT,hyF⟩
    rw [hyH,kE rs H (S':=fun _=>true) fun r hr=>hSall r hr]
    have e:TS (SL listed) T rs=TS (fun _=>true) T rs:=by
      funext t
      exact nU _ _ rs T T t rfl fun r hr _=>hSall r hr
    rw [e]; exact hend
  intro fuel
  induction fuel with
  | zero =>
    intro listed a w hsz hcnt hcl hst
    have hr:Region.ready .any ops listed=[]:=by
      rw [List.eq_nil_iff_forall_not_mem]
      intro i hi
      obtain ⟨h0,o,ho,_⟩:=mem_ready.1 hi
      have hlt':i < ops.size:=(Array.getElem?_eq_some_iff.1 ho).1
      have hnil:(List.range ops.size).filter (fun i=> !(SL listed i))=[]:=List.eq_nil_of_length_eq_zero (by omega)
      have:i∈(List.range ops.size).filter (fun i=> !(SL listed i)):=List.mem_filter.2 ⟨List.mem_range.2 hlt',by
        unfold SL
        have hi':i < listed.size:=by omega
        simp [hi'] at h0 ⊢
        exact h0⟩
      rw [hnil] at this; cases this
    exact ⟨hr,done listed a w hsz hr hst⟩
  | succ fuel ih =>
    intro listed a w hsz hcnt hcl hst
    refine ⟨fun hr=>done listed a w hsz hr hst,fun i hi=>?_⟩
    obtain ⟨h0,o,ho,hedge⟩:=mem_ready.1 hi
    have hilt:i < ops.size:=(Array.getElem?_eq_some_iff.1 ho).1
    have hSi:SL listed i=false:=by
      unfold SL
      have hi':i < listed.size:=by omega
      simp [hi'] at h0 ⊢
      exact h0
    -- the record
    obtain ⟨q,hq,hqi⟩:=hall i hilt
    rw [← hrs] at hq
    obtain ⟨r,hr,rfl⟩:=List.mem_map.1 hq
    obtain ⟨pre,post,rfl⟩:=List.append_of_mem hr
    have hri:r.i=i:=hqi
    subst hri
    have hLeq:L=pre.map Rec.p++r.p::post.map Rec.p:=by rw [← hrs]; simp
    obtain ⟨hpre',hpost'⟩:=iO (hLeq ▸ hpw)
    have hpre: ∀ q∈pre,PW (Region.before ops) q.p r.p:=fun q hq=>by obtain ⟨l,hl⟩:=hpre' _ (List.mem_map_of_mem hq); exact pK hl
    have hpost: ∀ q∈post,PW (Region.before ops) r.p q.p:=fun q hq=>pK (hpost' _ (List.mem_map_of_mem hq))
    -- all that must run ahead has run
    have closed: ∀ (k:Nat) (o':Oper),ops[k]?=some o'→(∀ e∈o'.after,Region.binds .any e=true→SL listed e.on=true)→ ∀ j,gB (Region.before ops) k j=true→SL listed j=true:=by
      intro k
      induction k using Nat.strongRecOn with
      | _ k ihk =>
        intro o' ho' hed j hj
        obtain ⟨e,he,hb,h1|⟨h1,h2⟩⟩:=hbefore k o' ho' j hj
        · rw [← h1]; exact hed e he hb
        · have hle:e.on < ops.size:=by have:=(Array.getElem?_eq_some_iff.1 ho').1; omega
          exact ihk e.on h1 _ (Array.getElem?_eq_getElem hle) (hcl e.on _ (Array.getElem?_eq_getElem hle) (hed e he hb)) j h2
    have hanc:=closed r.i o ho fun e he hb=>by have:=hedge e he hb; exact this
    have hdes: ∀ q∈post,SL listed q.i=true→gB (Region.before ops) q.i r.i=false:=fun q hq hs=>by
      rcases hb:gB (Region.before ops) q.i r.i with _|_
      · rfl
      · obtain ⟨o',ho',_⟩:=hslim q.p (by rw [← hrs]; exact List.mem_map_of_mem (by simp [hq]))
        have:=closed q.i o' ho' (hcl q.i o' ho' hs) r.i hb
        rw [hSi] at this; cases this
    obtain ⟨hchr,hokpre⟩:=gX pre (r::post) T H (fun q hq=>hNr q (by simp [hq])) hch
    obtain ⟨hrT,hrH,hrOK,_⟩:=hchr
    obtain ⟨o',ho',hso⟩:=hslim r.p (by rw [← hrs]; exact List.mem_map_of_mem (by simp))
    have hoo:o'=o:=by have:=ho'.symm.trans ho; simpa using this
    subst hoo
    obtain ⟨s1,s2,s3,s4⟩:=tR hso
    have hS': ∀ j,SL (listed.setIfInBounds r.i true) j=(SL listed j||j==r.i):=aRH (by omega)
    have hagree:=aQZ (T:=T) hpre hpost hSi hanc hdes
    obtain ⟨y,hyw,hyH,hyI,hyT,hyF⟩:=hst
    have hput:=aEx (T:=T) hpre hpost hSi hS'
    have hsz':(listed.setIfInBounds r.i true).size=ops.size:=by simpa using hsz
    have hcnt':((List.range ops.size).filter fun i=> !(SL (listed.setIfInBounds r.i true) i)).length≤fuel:=by
      have e:(List.range ops.size).filter (fun i=> !(SL (listed.setIfInBounds r.i true) i))=((List.range ops.size).filter fun i=> !(SL listed i)).filter (fun j=>j != r.i):=by
        rw [List.filter_filter]
        refine List.filter_congr fun j _=>?_
        rw [hS',Bool.not_or,Bool.and_comm]
        rfl
      have hmem:r.i∈(List.range ops.size).filter fun i=> !(SL listed i):=List.mem_filter.2 ⟨List.mem_range.2 hilt,by rw [hSi]; rfl⟩
      have:=(List.length_filter_lt_length_iff_exists (p:=fun j=>j != r.i)).2 ⟨r.i,hmem,by simp⟩
      rw [e]; omega
    have hcl': ∀ (i:Nat) (o:Oper),ops[i]?=some o→SL (listed.setIfInBounds r.i true) i=true→ ∀ e∈o.after,Region.binds .any e=true→SL (listed.setIfInBounds r.i true) e.on=true:=by
      intro k ok hk hs e he hb
      rw [hS'] at hs ⊢
      rw [Bool.or_eq_true] at hs ⊢
      rcases hs with hs|hs
      · exact .inl (hcl k ok hk hs e he hb)
      · have:k=r.i:=by simpa using hs
        subst this
        have:ok=o':=by have:=hk.symm.trans ho; simpa using this
        subst this
        exact .inl (hedge e he hb)
    have next: ∀ (v:V) (c:Value) (z:Cx),v=r.v→z.H=HS k0 (SL (listed.setIfInBounds r.i true)) H (pre++r::post)→Inv z→R z v c→Frame y z→
        wpAny P .any ops (lT D n x0 Q) fuel (listed.setIfInBounds r.i true) (a.put o'.dst c) z.w:=by
      intro v c z hv hzH hzI hzR hzF
      refine ih _ _ _ hsz' hcnt' hcl' ⟨z,rfl,hzH,hzI,?_,hyF.trans hzF⟩
      rw [hput]
      have:=(hyT.frame hyI hzF).put s2 hzR
      rw [hv] at this
      rw [show r.s.d=o'.dst from s1]
      exact this
    have hlt3: ∀ q∈post,q.s.x.cls=.A→r.s.x.cls=.D→gB (Region.before ops) q.i r.i=false→(∀ p∈pre,p.s.x.cls≠.E)∧(∀ p∈pre,p.s.d≠q.s.d)∧(H (q.id k0)).live=false:=fun q hq hA hD hnb=>by
      obtain ⟨p1,p2,rfl⟩:=List.append_of_mem hq
      have hL2:L=[]++((pre.map Rec.p++r.p::p1.map Rec.p)++q.p::p2.map Rec.p):=by rw [hLeq]; simp
      have hlate:q.p.2.d.getD 0∈kZ (Region.before ops) [] L:=by
        rw [hL2]
        exact aA5 [] hA ⟨r.p,by simp,hD,hnb⟩
      refine ⟨fun p hp=>?_,fun p hp he=>?_,hdead _ hlate⟩
      · rcases hnoE with h|h
        · rw [h] at hlate; cases hlate
        · exact aAn (pre:=pre.map Rec.p) (r:=r.p) (post:=(p1++q::p2).map Rec.p) hD (by rw [← h,hLeq]) p.p (List.mem_map_of_mem hp)
      · have hqs:=hsome q.p (by rw [← hrs]; exact List.mem_map_of_mem (by simp)) hA
        obtain ⟨d,hd⟩:=Option.isSome_iff_exists.1 hqs
        have hd':q.s.d=some d:=hd
        obtain ⟨a1,a2,rfl⟩:=List.append_of_mem hp
        have hL3:L=a1.map Rec.p++p.p::(a2.map Rec.p++r.p::(p1++q::p2).map Rec.p):=by rw [hLeq]; simp
        have:=pK (l:=_) ((iO (hL3 ▸ hpw)).2 q.p (by simp))
        exact this.dst d (by rw [show p.p.2.d=p.s.d from rfl,he]; exact hd') hd
    have hsomeR: ∀ q∈pre++r::post,q.s.x.cls=.A→q.s.d.isSome=true:=fun q hq=>hsome q.p (by rw [← hrs]; exact List.mem_map_of_mem hq)
    have hdeadA: ∀ q∈post,q.s.x.cls=.A→r.s.x.cls=.D→gB (Region.before ops) q.i r.i=false→(r.H (q.id k0)).live=false:=fun q hq hA hD hnb=>by
      obtain ⟨l1,l2,l3⟩:=hlt3 q hq hA hD hnb
      rw [hrH]
      exact aHi (fun p hp=>hok p (by simp [hp])) (hsomeR q (by simp [hq]) hA) (fun p hp=>hsomeR p (by simp [hp])) l1 l2 l3
    have hfr: ∀ q∈post,q.s.x.cls=.E→r.s.x.cls=.D→SL listed q.i=true→Ext r.H q.H':=fun q hq hqE hrD hqS=>by
      obtain ⟨p1,p2,rfl⟩:=List.append_of_mem hq
      -- who stands between them
      have hanq: ∀ j,gB (Region.before ops) q.i j=true→SL listed j=true:=fun j hj=>by
        obtain ⟨oq,hoq,_⟩:=hslim q.p (by rw [← hrs]; exact List.mem_map_of_mem (by simp))
        exact closed q.i oq hoq (hcl q.i oq hoq hqS) j hj
      have hL2:L=(pre.map Rec.p++r.p::p1.map Rec.p)++q.p::p2.map Rec.p:=by rw [hLeq]; simp
      have hbq: ∀ e∈p1,e.s.x.cls≠.I→e.s.x.cls≠.D→SL listed e.i=true:=fun e he hI hD=>by
        obtain ⟨l,hl⟩:=(iO (hL2 ▸ hpw)).1 e.p (by simp; exact .inr (.inr ⟨e,he,rfl⟩))
        exact hanq e.i ((pK hl).rE hqE hI hD)
      -- a store that may run ahead of r goes into a block that is made behind it
      have fresh: ∀ e:Rec,(∃ a b,p1++[q]=a++e::b)→e.s.x.cls=.E→SL listed e.i=true→e.taken=true→ ∃ id B,e.H'=upd e.H id B∧(r.H id).live=false:=fun e ⟨a,b,hab⟩ hE hS ht'=>by
        have hem:e∈p1++q::p2:=by
          have:e∈p1++[q]:=by rw [hab]; simp
          rw [List.mem_append] at this ⊢
          rcases this with h|h
          · exact .inl h
          · rw [List.mem_singleton.1 h]; exact .inr (by simp)
        have hf:=(aSi (hpost' e.p (List.mem_map_of_mem hem)) hE hrD).resolve_left fun h=>by
          have:=hdes e hem hS
          rw [show gB (Region.before ops) e.p.1 r.p.1=gB (Region.before ops) e.i r.i from rfl,this] at h; cases h
        unfold frs at hf
        split at hf
        · rename_i n d xx hx
          obtain ⟨ap,hap,hcond⟩:=List.any_eq_true.1 hf
          simp only [Bool.and_eq_true,Bool.not_eq_true',beq_iff_eq] at hcond
          obtain ⟨⟨⟨c1,c2⟩,c3⟩,c4⟩:=hcond
          obtain ⟨al,hal,rfl⟩:=List.mem_map.1 hap
          have hxs:e.s.x=.store n (.t d) xx:=hx
          have c1:al.s.d=some d:=c1
          -- it stands ahead of the store
          have hba:al∈a:=by
            have hrest:p1++q::p2=a++e::(b++p2):=by
              have:p1++q::p2=(p1++[q])++p2:=by simp
              rw [this,hab]; simp
            rw [hrest,List.mem_append,List.mem_cons] at hal
            have hL3:L=(pre.map Rec.p++r.p::a.map Rec.p)++e.p::(b++p2).map Rec.p:=by rw [hLeq,hrest]; simp
            rcases hal with h|h|h
            · exact h
            · exfalso
              have c4':gB (Region.before ops) e.i al.i=true:=c4
              rw [h] at c2
              have:aL8 e.s.x=true:=c2
              rw [hxs] at this; cases this
            · exfalso
              have:=(pK ((iO (hL3 ▸ hpw)).2 al.p (List.mem_map_of_mem h))).back
              rw [show gB (Region.before ops) e.p.1 al.p.1=true from c4] at this; cases this
          obtain ⟨a1,a2,rfl⟩:=List.append_of_mem hba
          have hal':al∈p1++q::p2:=by
            have:p1++q::p2=(p1++[q])++p2:=by simp
            rw [this,hab]; simp
          have hrest:p1++q::p2=a1++al::(a2++e::(b++p2)):=by
            have:p1++q::p2=(p1++[q])++p2:=by simp
            rw [this,hab]; simp
          -- its value is in the slot
          have hwhole:pre++r::(p1++q::p2)=(pre++r::(a1++al::a2))++e::(b++p2):=by rw [hrest]; simp
          have hch':=hch
          rw [hwhole] at hch'
          obtain ⟨⟨heT,_,heOK,_⟩,_⟩:=gX (pre++r::(a1++al::a2)) (e::(b++p2)) T H (fun z hz=>hNr z (by rw [hwhole]; exact List.mem_append_left _ hz)) hch'
          have hTd:e.T d=al.v:=by
            rw [heT,show pre++r::(a1++al::a2)=(pre++r::a1)++al::a2 by simp]
            refine aMI c1 T fun z hz hzd=>?_
            have hL4:L=(pre.map Rec.p++r.p::a1.map Rec.p)++al.p::(a2++e::(b++p2)).map Rec.p:=by rw [hLeq,hrest]; simp
            exact (pK ((iO (hL4 ▸ hpw)).2 z.p (List.mem_map_of_mem (by simp [hz])))).dst d c1 hzd
          have hst:=e.st heOK ht'
          rw [hxs] at hst
          obtain ⟨i,ver,row,off,hmp⟩:=aIm hst
          obtain ⟨B,hB⟩:=aHA hst hmp
          -- the slot's value is the new block's address
          have halA:al.s.x.cls=.A:=by
            have:aL8 al.s.x=true:=c2
            cases hxa:al.s.x <;> rw [hxa] at this <;> first|rfl|cases this
          have hi:i=al.id k0:=by
            have halOK:al.OK P k0:=hok al (by simp; exact .inr (.inr (by simpa using hal')))
            rw [hTd] at hmp
            have hcl2:aL8 al.s.x=true:=c2
            unfold Rec.OK at halOK
            split at halOK
            · have h:=halOK.2
              cases hxa:al.s.x <;> rw [hxa] at hcl2 h <;> first|(cases hcl2; done)|skip
              simp only [St] at h
              rw [← h.1] at hmp; cases hmp; rfl
            · obtain ⟨_,_,h|h⟩:=halOK
              · have h:=h.2.2
                cases hxa:al.s.x <;> rw [hxa] at hcl2 h <;> first|(cases hcl2; done)|skip
                simp only [St] at h
                rw [← h.1] at hmp; cases hmp; rfl
              · rw [h.2.2.1] at hmp; cases hmp
          exact ⟨i,B,hB,by rw [hi]; exact hdeadA al hal' halA hrD c3⟩
        · cases hf
      have hchr2:=(gX pre (r::(p1++q::p2)) T H (fun z hz=>hNr z (by simp [hz])) hch).1
      obtain ⟨_,hrH2,hrOK2,hrest2⟩:=hchr2
      have hrH':r.H'=r.H:=by
        have:=Rec.eff_self (hNr r (by simp)) hrOK2
        rw [← this]
        unfold Rec.eff
        cases r.taken <;> simp [hrD]
      rw [hrH'] at hrest2
      refine aAq p1 _ _ hrest2 (fun _ _=>rfl) fun e he=>?_
      have hem:e∈p1++q::p2:=by
        rw [List.mem_append] at he ⊢
        rcases he with h|h
        · exact .inl h
        · rw [List.mem_singleton.1 h]; exact .inr (by simp)
      have heR:e∈pre++r::(p1++q::p2):=by simp; exact .inr (.inr (by simpa using hem))
      have hself:=Rec.eff_self (hNr e heR) (hok e heR)
      cases ht':e.taken with
      |false=>left; rw [← hself]; simp [Rec.eff,ht']
      | true =>
        cases hc:e.s.x.cls with
        |I=>left; rw [← hself]; simp [Rec.eff,ht',hc]
        |D=>left; rw [← hself]; simp [Rec.eff,ht',hc]
        |N=>exact absurd hc (hNr e heR)
        | A =>
          right
          have heS:SL listed e.i=true:=by
            rw [List.mem_append] at he
            rcases he with h|h
            · exact hbq e h (by rw [hc]; simp) (by rw [hc]; simp)
            · rw [List.mem_singleton.1 h,hqE] at hc; cases hc
          refine ⟨e.id k0,e.H' (e.id k0),(aOU hc (e.st (hok e heR) ht')).1,hdeadA e hem hc hrD (hdes e hem heS)⟩
        | E =>
          right
          have heS:SL listed e.i=true:=by
            rw [List.mem_append] at he
            rcases he with h|h
            · exact hbq e h (by rw [hc]; simp) (by rw [hc]; simp)
            · rw [List.mem_singleton.1 h]; exact hqS
          obtain ⟨a,b,hab⟩:=List.append_of_mem he
          exact fresh e ⟨a,b,hab⟩ hc heS ht'
    have run:r.taken=true→St P (r.id k0) r.s.x r.T r.H (fun a b=>a=r.v∧b=r.H')→o'.wp P a w (wpAny P .any ops (lT D n x0 Q) fuel (listed.setIfInBounds r.i true)) (lT D n x0 Q):=by
      intro ht hst'
      have hh:=aDL (S:=SL listed) (S':=SL (listed.setIfInBounds r.i true)) (H:=H) (fun q hq=>hok q hq) hpre hpost hSi hS' hanc hdes
        (fun q hq=>hsome q.p (by rw [← hrs]; exact List.mem_map_of_mem hq))
        hlt3 hfr
        (hNr r (by simp)) hrH ht hst'
      have hh2:St P (r.id k0) r.s.x (TS (SL listed) T (pre++r::post)) y.H fun a b=>a=r.v∧b=HS k0 (SL (listed.setIfInBounds r.i true)) H (pre++r::post):=by
        rw [hyH]
        refine aIu (fun t ht=>?_) hh
        rw [hrT]
        exact (hagree t (List.mem_append_left _ ht)).symm
      rw [← hyw]
      exact uT s3 hh2 hyI hyT.tmps fun v c z hk hzI hzR hzF=>next v c z hk.1 hk.2 hzI hzR hzF
    unfold wpOp
    simp only [ho]
    rcases s4 with ⟨hg,hsg⟩|⟨j,want,t,hg,hj,hsg⟩
    · have hw:Region.wanted o' (yielded ops a.tmps)=true:=by simp [Region.wanted,hg]
      rw [if_pos hw]
      have hsg':r.s.g=none:=hsg
      simp only [Rec.OK,hsg'] at hrOK
      exact .inl (run hrOK.1 hrOK.2)
    · have hsg':r.s.g=some (t,want):=hsg
      simp only [Rec.OK,hsg'] at hrOK
      obtain ⟨b,hb,hcase⟩:=hrOK
      have hbT:gd want (TS (SL listed) T (pre++r::post) t)=b:=by
        rw [hagree t (by simp [SO.reads,hsg']),← hrT]; exact hb
      have hy:=uZ hyT hj want
      rw [hbT] at hy
      rcases hcase with ⟨hbw,ht,hst'⟩|⟨hbw,ht,hv,hH'⟩
      · have hw:Region.wanted o' (yielded ops a.tmps)=true:=by simp only [Region.wanted,hg,hy,hbw]; first|done|simp
        rw [if_pos hw]
        exact .inl (run ht hst')
      · have hw: ¬ Region.wanted o' (yielded ops a.tmps)=true:=by simp only [Region.wanted,hg,hy,hbw]; first|done|simp
        rw [if_neg hw,← hyw]
        refine next r.v undef y rfl ?_ hyI (by rw [hv]; exact .raw undef rfl) (Frame.refl y)
        have split:pre++r::post=pre++([r]++post):=by simp
        have neq: ∀ q∈pre++post,SL (listed.setIfInBounds r.i true) q.i=SL listed q.i:=fun q hq=>by
          rw [hS']
          have:q.i≠r.i:=by
            rcases List.mem_append.1 hq with hq|hq
            · exact (hpre q hq).ne
            · exact Ne.symm (hpost q hq).ne
          simp [this]
        rw [hyH,split,iL,iL,iL,iL,kE pre H fun q hq=>neq q (List.mem_append_left _ hq),kE post _ fun q hq=>neq q (List.mem_append_right _ hq)]
        congr 1
        simp [HS,hSi,hS',Rec.eff,ht]
theorem aFW {id : Nat} {L : List (Nat × SO)} (hslim : ∀ q ∈ L, ∃ o, ops[q.1]? = some o ∧ nS P op n ops o = some q.2) (hB : aKt P ops L = true)
    {x:Cx} {T:Nat→V} {a:Act} (hdead: ∀ d∈kZ (Region.before ops) [] L,(x.H (k0+d)).live=false) (h:Ops P k0 (L.map (·.2)) T x.H (Q .norm)) (hx:Inv x) (hT:TRel D n x T a) (hF:Frame x0 x):
    (Code.region id ops true).wp P (lT D n x0 Q) a x.w:=by
  unfold aKt at hB
  simp only [Bool.and_eq_true] at hB
  obtain ⟨⟨⟨⟨⟨b1,b2⟩,b3⟩,b4⟩,b5⟩,b6⟩:=hB
  have hN: ∀ q∈L,q.2.x.cls≠.N:=fun q hq=>by have:=List.all_eq_true.1 b5 q hq; simp at this; exact this.1
  obtain ⟨rs,h1,h2⟩:=sW L T x.H hN h
  obtain ⟨dI,dF⟩:=kJ hx (x.w.drawn+1) (Nat.le_succ _)
  refine wp_region_any b1 ?_
  refine aHX (rs:=rs) (T:=T) (H:=x.H) h1 h2 hslim b2 (fun i hi=>?_) (fun i o ho e he hb=>?_) hN (fun q hq hA=>?_) ?_ hdead ops.size _ a _ (by simp) (by
      refine Nat.le_trans (List.length_filter_le _ _) (by simp)) (fun i o ho hs=>by
        exfalso
        unfold SL at hs
        have:i < ops.size:=(Array.getElem?_eq_some_iff.1 ho).1
        simp [this] at hs) ⟨{x with w:={x.w with drawn:=x.w.drawn+1}},rfl,?_,dI,?_,hF.trans dF⟩
  · have:=List.all_eq_true.1 b3 i (List.mem_range.2 hi)
    obtain ⟨q,hq,he⟩:=List.any_eq_true.1 this
    exact ⟨q,hq,by simpa using he⟩
  · have:=List.all_eq_true.1 b4 (o,i) (by
      rw [List.mk_mem_zipIdx_iff_getElem?]
      simpa using ho)
    have:=Array.all_eq_true_iff_forall_mem.1 this e he
    simpa [hb] using this
  · have:=List.all_eq_true.1 b5 q hq
    simpa [hA] using this
  · rw [Bool.or_eq_true] at b6
    rcases b6 with b6|b6
    · exact .inl (by simpa using b6)
    · exact .inr b6
  · have hS: ∀ r∈rs,SL (Array.replicate ops.size false) r.i=true→ ∀ G,r.eff k0 G=G:=fun r _ h=>by
      exfalso
      unfold SL at h
      rw [Array.getD_eq_getD_getElem?,Array.getElem?_replicate] at h
      split at h <;> simp at h
    exact (pZ _ rs x.H hS).symm
  · have e:TS (SL (Array.replicate ops.size false)) T rs=T:=by
      funext t
      exact zO _ t rs T fun r _ h=>by
        exfalso
        unfold SL at h
        rw [Array.getD_eq_getD_getElem?,Array.getElem?_replicate] at h
        split at h <;> simp at h
    rw [e]
    exact hT.frame hx dF
end
end Go.Proofs.YteehaobohaecmaaGreatDoor


namespace Go.Proofs.YteehaobohaecmaaGreatDoor
open Go
theorem aGO {P : Program} {id : Nat} {x : X} {T : Nat → V} {H : aP} {k k' : V → aP → Prop} (hk : ∀ v H, k v H → k' v H) (h : St P id x T H k) : St P id x T H k' := by
  cases x <;> simp only [St] at h ⊢
  case bslice ty esz own z len ps=>
    refine zK (fun rows h=>?_) h
    cases own <;> exact hk _ _ h
  case append ty esz bytes s a =>
    split at h
    · split at h
      · rename_i c1
        rw [if_pos c1]
        split at h
        · rename_i c2
          rw [if_pos c2]
          split at h
          · rename_i c3
            rw [if_pos c3]
            split at h
            · rename_i c4
              rw [if_pos c4]
              split at h
              · rename_i c5
                rw [if_pos c5]
                refine zK (fun new h=>?_) h
                split at h
                · rename_i c6
                  rw [if_pos c6]
                  split at h
                  · rename_i c7
                    rw [if_pos c7]
                    split at h
                    · rename_i c8
                      rw [if_pos c8]
                      exact hk _ _ h
                    · cases h
                  · cases h
                · cases h
              · cases h
            · cases h
          · cases h
        · cases h
      · cases h
    · cases h
  case call e f args=>
    cases e
    · obtain ⟨v,h1,h2⟩:=h; exact ⟨v,h1,hk _ _ h2⟩
    · obtain ⟨v,H',h1,h2⟩:=h; exact ⟨v,H',h1,hk _ _ h2⟩
  case callA f args=>obtain ⟨v,b,h1,h2,h3⟩:=h; exact ⟨v,b,h1,h2,hk _ _ h3⟩
  case callv e g args=>
    split at h
    · cases e
      · obtain ⟨v,h1,h2⟩:=h; exact ⟨v,h1,hk _ _ h2⟩
      · obtain ⟨v,H',h1,h2⟩:=h; exact ⟨v,H',h1,hk _ _ h2⟩
    · cases h
  case isnil neg a=>
    split at h
    · exact hk _ _ h
    · exact ⟨fun e=>hk _ _ (h.1 e),hk _ _ h.2⟩
    · cases h
  all_goals first|exact hk _ _ h|exact zK (fun a h=>hk _ _ h) h|cases h
theorem lU {P:Program} {k0:Nat} {K K':(Nat→V)→aP→Prop} (hk: ∀ T H,K T H→K' T H): ∀ {ops:List SO} {T:Nat→V} {H:aP},Ops P k0 ops T H K→Ops P k0 ops T H K':=by
  intro ops
  induction ops with
  |nil=>intro T H h; exact hk _ _ h
  | cons o r ih =>
    intro T H h
    simp only [Ops] at h ⊢
    split at h
    · exact aGO (fun _ _ h=>ih h) h
    · exact ⟨fun e=>aGO (fun _ _ h=>ih h) (h.1 e),fun e=>ih (h.2 e)⟩
def X.pt:X→Option (Nat×Nat)
  | .load _ n (.t a)=>if n=0 then none else some (a,n)
  | .store n (.t a) _=>some (a,n)
  | .append _ _ _ (.t s) (.t _)=>some (s,0)
  |_=>none
def X.lz:X→Bool
  | .lazy _ _=>true
  |_=>false
section
variable {P:Program} {k0:Nat} {T:Nat→V} {H H1 H2:aP} {v v':V}
def bkV:V→Option Nat
  | .mp i _ _ _=>some i
  | .ms i _ _ _=>some i
  |_=>none
def X.bk (id:Nat) (x:X) (T:Nat→V):Option Nat:=if x.lz=true then some id else x.pt.bind fun p=>bkV (T p.1)
end
end Go.Proofs.YteehaobohaecmaaGreatDoor


namespace Go.Proofs.YteehaobohaecmaaGreatDoor
open Go
section
variable {P:Program} {k0:Nat}
def SO.pt (s:SO):Option (Nat×Nat):=if s.x.lz=true then s.d.map fun d=>(d,0) else s.x.pt
def SO.mv (s:SO):Bool:=s.x.cls==.E||s.x.lz
variable {D:List Deferred} {op:Opt} {n:Nat} {ops:Array Oper} {x0:Cx} {Q:Ex→(Nat→V)→aP→Prop} {T:Nat→V} {H:aP}
end
end Go.Proofs.YteehaobohaecmaaGreatDoor


namespace Go.Proofs.YteehaobohaecmaaGreatDoor
open Go
def aOo (L0:List SO) (ord:List Nat):List (Nat×SO):=ord.filterMap fun i=>(L0[i]?).map fun s=>(i,s)
def aOy (ops : Array Oper) (L0 : List SO) : Nat → List Nat → List Nat
  |0,acc=>acc.reverse
  | fuel + 1, acc =>
    let rd:=(List.range ops.size).filter fun i=> !(acc.contains i)&&((ops[i]?).map fun o=>o.after.all fun e=> !(Region.binds .any e)||acc.contains e.on).getD false
    match rd.find? (fun i=>((L0[i]?).map fun s=>s.x.cls != .A).getD false) with
    |some i=>aOy ops L0 fuel (i::acc)
    | none => match rd with
      |i::_=>aOy ops L0 fuel (i::acc)
      |[]=>acc.reverse
def tL (P : Program) (ops : Array Oper) (L0 : List SO) (ord : List Nat) : Option SC :=
  let L:=aOo L0 ord
  if aKt P ops L then match kZ (Region.before ops) [] L with
    |[]=>some (.reg (L.map (·.2)))
    |l=>some (.dreg l (L.map (·.2)))
  else none
def uW (P:Program) (ops:Array Oper) (L0:List SO) (ord:List Nat):Option SC:=none
def wU (L:List SO):Option SC→SC
  |none=>.reg L
  |some c=>.seq (.reg L) c
def wM (P : Program) (op : Opt) (n : Nat) (ops : Array Oper) : List Oper → Option (List SO × Option SC)
  |[]=>some ([],none)
  | o :: l => match wM P op n ops l with
    |none=>none
    | some (L, r) => match aM3 op o with
      |some px=>if o.guard.isNone&&aMl n o.dst then some ([],some (.seq (.pop o.dst px) (wU L r))) else none
      |none=>(nS P op n ops o).map fun s=>(s::L,r)
def aBp (P : Program) (op : Opt) (n : Nat) (ops : Array Oper) (draw : Bool) : Option SC :=
  if (!draw&&ops.any fun o=>(aM3 op o).isSome)=true then (wM P op n ops ops.toList).map fun p=>wU p.1 p.2
  else match fX (nS P op n ops) ops.toList with
  |none=>none
  | some L0 => if draw = false then some (.reg L0) else match tL P ops L0 (List.range ops.size) with
    |some s=>some s
    | none => match tL P ops L0 (aOy ops L0 ops.size []) with
      |some s=>some s
      |none=>uW P ops L0 (List.range ops.size)
def aAd (P : Program) (op : Opt) (n : Nat) : Code → Option SC
  | .skip=>some .skip
  | .ret=>some .ret
  | .exit id=>some (.exit id)
  | .region _ ops draw=>aBp P op n ops draw
  | .seq a b => match aAd P op n a, aAd P op n b with
    |some a,some b=>some (.seq a b)
    |_,_=>none
  | .cond c a b => match sx c, aAd P op n a, aAd P op n b with
    |some c,some a,some b=>some (.cond c a b)
    |_,_,_=>none
  | .block id a=>(aAd P op n a).map (.block id)
  | .loop a=>(aAd P op n a).map .loop
  |_=>none
section
variable {P:Program} {D:List Deferred} {k0:Nat} {op:Opt} {n:Nat}
theorem zX {ops:Array Oper} {L0:List SO} (h:fX (nS P op n ops) ops.toList=some L0) (ord:List Nat): ∀ q∈aOo L0 ord,∃ o,ops[q.1]?=some o∧nS P op n ops o=some q.2:=by
  intro q hq
  obtain ⟨i,_,h1⟩:=List.mem_filterMap.1 hq
  obtain ⟨s,h2,rfl⟩:=map_some h1
  obtain ⟨_,h3⟩:=gF h
  obtain ⟨o,h4,h5⟩:=h3 i s h2
  exact ⟨o,by simpa using h4,h5⟩
theorem oK {ops:Array Oper} {L0:List SO} (h:fX (nS P op n ops) ops.toList=some L0) {ord:List Nat} {s:SC} (hs:tL P ops L0 ord=some s) {id:Nat} {x0 x:Cx} {Q:Ex→(Nat→V)→aP→Prop} {T:Nat→V} {a:Act}
    (hW:W P k0 s Q T x.H) (hx:Inv x) (hT:TRel D n x T a) (hF:Frame x0 x):(Code.region id ops true).wp P (lT D n x0 Q) a x.w:=by
  unfold tL at hs
  simp only at hs
  split at hs
  · rename_i hB
    split at hs
    · rename_i hl
      cases hs
      obtain ⟨k1,hW⟩:=hW
      exact aFW (k0:=k1) (zX h ord) hB (by rw [hl]; intro d hd; cases hd) hW hx hT hF
    · cases hs
      obtain ⟨k1,hW⟩:=hW
      exact aFW (k0:=k1) (zX h ord) hB hW.1 hW.2 hx hT hF
  · cases hs
theorem wC {ops:Array Oper} {L0:List SO} (h:fX (nS P op n ops) ops.toList=some L0) {ord:List Nat} {s:SC} (hs:uW P ops L0 ord=some s) {id:Nat} {x0 x:Cx} {Q:Ex→(Nat→V)→aP→Prop} {T:Nat→V} {a:Act}
    (hW:W P k0 s Q T x.H) (hx:Inv x) (hT:TRel D n x T a) (hF:Frame x0 x):(Code.region id ops true).wp P (lT D n x0 Q) a x.w:=by
  unfold uW at hs
  cases hs
theorem aII {d:Option Nat} {f:Nat} {args:List V} {x0 x:Cx} {Q:Ex→(Nat→V)→aP→Prop} {T:Nat→V} {a:Act} {o:Oper} {cs:List Value} (hd:o.dst=d) (hdn: ∀ e,o.dst=some e→e < n)
    {Qw:Ex→(Nat→V)→aP→Prop} (hQ: ∀ c T H,Qw (.pan c) T H→Q (.pan c) T H) (h:Pop P d f args Qw T x.H) (hx:Inv x) (hT:TRel D n x T a) (hF:Frame x0 x) (hr:RL x args cs) (he:(execOp a.eval o).run P x.w=.ok (.enter f cs.toArray) x.w) {next:Act→World→Prop}
    (hn: ∀ (T':Nat→V) (a':Act) (y:Cx),Qw .norm T' y.H→Inv y→TRel D n y T' a'→Frame x0 y→next a' y.w):o.wp P a x.w next (lT D n x0 Q):=by
  obtain ⟨r,hc,hq⟩:=h
  unfold Oper.wp
  rw [he,Oper.upon_enter]
  cases r with
  | ok v H' =>
    refine (hc.2 x cs rfl hx hr).mono fun e w' hp=>?_
    obtain ⟨c,y,rfl,rfl,h1,h2,h3,h4⟩:=hp
    subst hd
    exact hn (iY T o.dst v) _ y (by rw [h1]; exact hq) h2 ((hT.frame hx h4).put hdn h3) (hF.trans h4)
  | pan c S =>
    refine (hc.2 x cs rfl hx hr).mono fun e w' hp=>?_
    obtain ⟨y,rfl,rfl,h1,h2,h4⟩:=hp
    exact ⟨.pan c,T,y,rfl,rfl,hQ c T y.H (hq y.H h1),h2,hT.frame hx h4,hF.trans h4⟩
theorem aMK {o : Oper} {px : PX} (hp : aM3 op o = some px) {x0 x : Cx} {Q : Ex → (Nat → V) → aP → Prop} {T : Nat → V} {a : Act} (hdn : ∀ e, o.dst = some e → e < n)
    {Qw:Ex→(Nat→V)→aP→Prop} (hQ: ∀ c T H,Qw (.pan c) T H→Q (.pan c) T H) (h:W P k0 (.pop o.dst px) Qw T x.H) (hx:Inv x) (hT:TRel D n x T a) (hF:Frame x0 x) {next:Act→World→Prop}
    (hn: ∀ (T':Nat→V) (a':Act) (y:Cx),Qw .norm T' y.H→Inv y→TRel D n y T' a'→Frame x0 y→next a' y.w):o.wp P a x.w next (lT D n x0 Q):=by
  unfold aM3 at hp
  split at hp
  · rename_i p ho
    obtain ⟨s,hs,rfl⟩:=map_some hp
    simp only [W] at h
    have hR:=dN hT.tmps hs
    split at h
    · rename_i ty c hc
      rw [hc] at hR
      have e:a.eval p=.iface ty c:=by
        generalize hv:a.eval p=v at hR
        cases hR; rfl
      unfold Oper.wp
      have hrun:(execOp a.eval o).run P x.w=.halt (.panic (.iface ty c)) x.w:=by
        simp [execOp,ho,e,Instr.panic,goPanic]
      rw [hrun,Oper.upon_panic]
      exact ⟨.pan (.iface ty c),T,x,rfl,rfl,hQ _ _ _ h,hx,hT,hF⟩
    · exact h.elim
  · rename_i f args tys ho
    have run: ∀ (g:Nat) (fs cs:Array Value),a.eval f=.func (.func g) fs cs→dV P g→(execOp a.eval o).run P x.w=.ok (.enter g (fs.toList++args.toList.map a.eval++cs.toList).toArray) x.w:=by
      intro g fs cs hf hg
      have h1:(fs++args.map a.eval++cs)=(fs.toList++args.toList.map a.eval++cs.toList).toArray:=by simp
      simp only [execOp,ho,resolve,hf,Deferred.ofValue,Sem.run_bind,Sem.run_pure,Result.andThen_ok,invoke,sJ hg,h1]
    have cb: ∀ {d:Option Nat} {g:Nat} {asq:List V} {T:Nat→V},Pop P d g asq Qw T x.H→dV P g:=fun hp=>by
      obtain ⟨r,hc,_⟩:=hp
      cases r <;> exact hc.1
    split at hp
    · rename_i g us hf has
      split at hp
      · cases hp
        simp only [W] at h
        have hfR:=dN hT.tmps hf
        have hnil: ∀ (cs:Array Value),cs.size=([]:List V).length→cs=#[]:=fun cs h=>by
          apply Array.eq_empty_of_size_eq_zero; simpa using h
        cases hfv:a.eval f with
        | func fn fs cs =>
          rw [hfv] at hfR
          cases hfR with
          | fn _ _ _ _ _ h1 h2 _ _ =>
            have e1:=hnil _ h1
            have e2:=hnil _ h2
            subst e1; subst e2
            refine aII rfl hdn hQ h hx hT hF (uY hT.tmps has) ?_ hn
            have:=run g #[] #[] hfv (cb h)
            simpa using this
        |_=>rw [hfv] at hfR; cases hfR
      · cases hp
    · rename_i t us hf has
      split at hp
      · rename_i d hdd
        split at hp
        · cases hp
          simp only [W,aQA] at h
          have hfR:=dN hT.tmps hf
          simp only [aQA] at hfR
          split at h
          · rename_i g first caps hTn
            rw [hTn] at hfR
            cases hfv:a.eval f with
            | func fn fs cs =>
              rw [hfv] at hfR
              cases hfR with
              | fn _ _ _ _ _ h1 h2 h3 h4 =>
                exact aII rfl hdn hQ h hx hT hF (((aB7 h1 h3).append (uY hT.tmps has)).append (aB7 h2 h4)) (run g fs cs hfv (cb h)) hn
            |_=>rw [hfv] at hfR; cases hfR
          · exact h.elim
        · cases hp
      · cases hp
    · cases hp
  · cases hp
def aIf (P:Program) (k0:Nat) (Q:Ex→(Nat→V)→aP→Prop):Option SC→(Nat→V)→aP→Prop
  |none=>Q .norm
  |some c=>G (W P k0 c Q)
theorem aAY {k0:Nat} {Q:Ex→(Nat→V)→aP→Prop} {L:List SO} {r:Option SC} {T:Nat→V} {H:aP} (h:W P k0 (wU L r) Q T H): ∃ k1,Ops P k1 L T H (aIf P k0 Q r):=by
  cases r with
  |none=>exact h
  |some c=>exact h
theorem jL {ops : Array Oper} {x0 : Cx} {Q : Ex → (Nat → V) → aP → Prop} : ∀ (l : List Oper) (L : List SO) (r : Option SC), wM P op n ops l = some (L, r) →
    ∀ (k1:Nat) (x:Cx) (T:Nat→V) (a:Act),Ops P k1 L T x.H (aIf P k0 Q r)→Inv x→TRel D n x T a→Frame x0 x→wpList P ops (lT D n x0 Q) l a x.w
  | [], L, r, hL, k1, x, T, a, h, hx, hT, hF => by
    cases hL
    exact ⟨.norm,T,x,rfl,rfl,h,hx,hT,hF⟩
  | o :: l, L, r, hL, k1, x, T, a, h, hx, hT, hF => by
    simp only [wM] at hL
    split at hL
    · cases hL
    rename_i L' r' hl
    split at hL
    · rename_i px hpx
      split at hL
      · rename_i hg
        cases hL
        simp only [Bool.and_eq_true,Option.isNone_iff_eq_none] at hg
        obtain ⟨hg1,hg2⟩:=hg
        have hdn: ∀ e,o.dst=some e→e < n:=fun e he=>by rw [he] at hg2; simpa [aMl] using hg2
        simp only [wpList]
        have hw:Region.wanted o (yielded ops a.tmps)=true:=by simp [Region.wanted,hg1]
        rw [if_pos hw]
        obtain ⟨T1,y,hyw,hW,hy,hTy,hFy⟩:=aBb h x rfl hx hT hF
        rw [← hyw]
        refine .inl (aMK (k0:=k0) (Q:=Q) (Qw:=fun e T H=>match e with
          | .norm=>G (W P k0 (wU L' r') Q) T H
          |e=>Q e T H) hpx hdn (fun c T H h=>h) hW hy hTy hFy ?_)
        intro T' a' z hq hz hTz hFz
        · obtain ⟨T2,u,huw,hW2,hu,hTu,hFu⟩:=aBb hq z rfl hz hTz hFz
          obtain ⟨k2,hW3⟩:=aAY hW2
          rw [← huw]
          exact jL l L' r' hl k2 u T2 a' hW3 hu hTu hFu
      · cases hL
    · obtain ⟨s,hs,hsL⟩:=map_some hL
      cases hsL
      obtain ⟨h1,h2,h3,h4⟩:=tR hs
      have run:St P (k1+s.d.getD 0) s.x T x.H (fun v H'=>Ops P k1 L' (iY T s.d v) H' (aIf P k0 Q r))→o.wp P a x.w (wpList P ops (lT D n x0 Q) l) (lT D n x0 Q):=fun hst=>
        uT h3 hst hx hT.tmps fun v c y hk hy hr hf=>by
          rw [h1] at hk
          exact jL l L' r hl k1 y _ _ hk hy ((hT.frame hx hf).put h2 hr) (hF.trans hf)
      simp only [wpList]
      rcases h4 with ⟨hg,hsg⟩|⟨j,want,t,hg,hj,hsg⟩
      · have hw:Region.wanted o (yielded ops a.tmps)=true:=by simp [Region.wanted,hg]
        rw [if_pos hw]
        simp only [Ops,hsg] at h
        exact .inl (run h)
      · simp only [Ops,hsg] at h
        obtain ⟨hyes,hno⟩:=h
        have hy:=uZ hT hj want
        have hwe:Region.wanted o (yielded ops a.tmps)=gd want (T t):=by simp only [Region.wanted,hg]; exact hy
        cases hbw:gd want (T t) with
        | true =>
          rw [if_pos (by rw [hwe,hbw])]
          exact .inl (run (hyes hbw))
        | false =>
          rw [if_neg (by rw [hwe,hbw]; simp)]
          have:=hno hbw
          rw [h1] at this
          exact jL l L' r hl k1 x _ _ this hx (hT.put h2 (.raw undef rfl)) hF
theorem aAe {ops : Array Oper} {draw : Bool} {s : SC} (hs : aBp P op n ops draw = some s) {id : Nat} {x0 x : Cx} {Q : Ex → (Nat → V) → aP → Prop} {T : Nat → V} {a : Act}
    (hW:W P k0 s Q T x.H) (hx:Inv x) (hT:TRel D n x T a) (hF:Frame x0 x):(Code.region id ops draw).wp P (lT D n x0 Q) a x.w:=by
  unfold aBp at hs
  split at hs
  · rename_i hB
    obtain ⟨⟨L,r⟩,hL,rfl⟩:=map_some hs
    obtain ⟨k1,hW⟩:=aAY hW
    have hd:draw=false:=by simp only [Bool.and_eq_true,Bool.not_eq_true'] at hB; exact hB.1
    subst hd
    refine wp_region ?_
    have:=jL (x0:=x0) (Q:=Q) ops.toList L r hL k1 x T a hW hx hT hF
    have e:=wpOps_eq_wpList (P:=P) (ops:=ops) (Q:=lT D n x0 Q) ops.toList 0 (fun j=>by simp)
    rw [← e] at this
    rwa [List.range_eq_range',show ops.size=ops.toList.length by simp]
  split at hs
  · cases hs
  · rename_i L0 hL0
    split at hs
    · rename_i hd
      cases hs
      subst hd
      obtain ⟨k1,hW⟩:=hW
      refine wp_region ?_
      have:=tU (k0:=k1) (x0:=x0) (Q:=Q) ops.toList L0 hL0 x T a hW hx hT hF
      have e:=wpOps_eq_wpList (P:=P) (ops:=ops) (Q:=lT D n x0 Q) ops.toList 0 (fun j=>by simp)
      rw [← e] at this
      rwa [List.range_eq_range',show ops.size=ops.toList.length by simp]
    · rename_i hd
      have hd':draw=true:=by simpa using hd
      subst hd'
      split at hs
      · rename_i s' hs'
        cases hs
        exact oK hL0 hs' hW hx hT hF
      · split at hs
        · rename_i s' hs'
          cases hs
          exact oK hL0 hs' hW hx hT hF
        · exact wC hL0 hs hW hx hT hF
theorem mY {l:List PanicEntry} {e:Ex} (h:aMR (.panic l)=some e): ∃ c,e=.pan c:=by
  simp only [aMR] at h
  split at h
  · cases h; exact ⟨_,rfl⟩
  · cases h
theorem aFo : ∀ (c : Code) (s : SC), aAd P op n c = some s → ∀ (Q : Ex → (Nat → V) → aP → Prop) (x0 x : Cx) (T : Nat → V) (a : Act),
    W P k0 s Q T x.H→Inv x→TRel D n x T a→Frame x0 x→c.wp P (lT D n x0 Q) a x.w:=by
  intro c
  induction c with
  | skip =>
    intro s hs Q x0 x T a hW hx hT hF
    cases hs
    exact wp_skip ⟨.norm,T,x,rfl,rfl,hW,hx,hT,hF⟩
  | ret =>
    intro s hs Q x0 x T a hW hx hT hF
    cases hs
    exact wp_ret ⟨.ret,T,x,rfl,rfl,hW,hx,hT,hF⟩
  | exit id =>
    intro s hs Q x0 x T a hW hx hT hF
    cases hs
    exact wp_exit ⟨.exit id,T,x,rfl,rfl,hW,hx,hT,hF⟩
  | region id ops draw =>
    intro s hs Q x0 x T a hW hx hT hF
    exact aAe hs hW hx hT hF
  | seq c1 c2 ih1 ih2 =>
    intro s hs Q x0 x T a hW hx hT hF
    simp only [aAd] at hs
    split at hs
    · rename_i s1 s2 h1 h2
      cases hs
      refine wp_seq (wp_mono (ih1 s1 h1 _ x0 x T a hW hx hT hF) ?_)
      intro e a' w' hp
      obtain ⟨e',T',y,he,hw,hq,hy,hT',hF'⟩:=hp
      cases e with
      | normal =>
        cases he
        obtain ⟨T2,z,hz,hK,hzI,hzT,hzF⟩:=aBb hq y rfl hy hT' hF'
        simp only [Exit.then]
        rw [← hw,← hz]
        exact ih2 s2 h2 Q x0 z T2 a' hK hzI hzT hzF
      |ret=>cases he; exact ⟨.ret,T',y,rfl,hw,hq,hy,hT',hF'⟩
      |exit id=>cases he; exact ⟨.exit id,T',y,rfl,hw,hq,hy,hT',hF'⟩
      |goto l=>cases he
      |panic l=>obtain ⟨c,rfl⟩:=mY he; exact ⟨.pan c,T',y,he,hw,hq,hy,hT',hF'⟩
      |outgrown=>cases he
    · cases hs
  | cond c c1 c2 ih1 ih2 =>
    intro s hs Q x0 x T a hW hx hT hF
    simp only [aAd] at hs
    split at hs
    · rename_i sc s1 s2 hc h1 h2
      cases hs
      simp only [W,bO] at hW
      obtain ⟨b,hb,hyes,hno⟩:=hW
      have hv:=aM9 hb (dN hT.tmps hc)
      refine wp_cond_split hv (fun ht=>ih1 s1 h1 Q x0 x T a (hyes ht) hx hT hF) (fun hf=>ih2 s2 h2 Q x0 x T a (hno hf) hx hT hF)
    · cases hs
  | block id c ih =>
    intro s hs Q x0 x T a hW hx hT hF
    obtain ⟨s1,h1,rfl⟩:=map_some hs
    refine wp_block (wp_mono (ih s1 h1 _ x0 x T a hW hx hT hF) ?_)
    intro e a' w' hp
    obtain ⟨e',T',y,he,hw,hq,hy,hT',hF'⟩:=hp
    cases e with
    |normal=>cases he; exact ⟨.norm,T',y,rfl,hw,hq,hy,hT',hF'⟩
    |ret=>cases he; exact ⟨.ret,T',y,rfl,hw,hq,hy,hT',hF'⟩
    | exit id' =>
      cases he
      simp only [Exit.inBlock]
      simp only at hq
      split at hq
      · rename_i h; rw [if_pos h]; exact ⟨.norm,T',y,rfl,hw,hq,hy,hT',hF'⟩
      · rename_i h; rw [if_neg h]; exact ⟨.exit id',T',y,rfl,hw,hq,hy,hT',hF'⟩
    |goto l=>cases he
    |panic l=>obtain ⟨c,rfl⟩:=mY he; exact ⟨.pan c,T',y,he,hw,hq,hy,hT',hF'⟩
    |outgrown=>cases he
  | loop c ih =>
    intro s hs Q x0 x T a hW hx hT hF
    obtain ⟨s1,h1,rfl⟩:=map_some hs
    simp only [W] at hW
    obtain ⟨I,m,hI,hround⟩:=hW
    refine wp_loop_ghost (fun k a w=> ∃ T y,y.w=w∧I k T y.H∧Inv y∧TRel D n y T a∧Frame x0 y) m ⟨T,x,rfl,hI,hx,hT,hF⟩ ?_
    intro k a' w' ⟨T',y,hw,hI',hy,hT',hF'⟩
    subst hw
    refine wp_mono (ih s1 h1 _ x0 y T' a' (hround k T' y.H hI') hy hT' hF') ?_
    intro e a2 w2 hp
    obtain ⟨e',T2,z,he,hw,hq,hz,hT2,hF2⟩:=hp
    cases e with
    | normal =>
      cases he
      obtain ⟨j,hj,hIj⟩:=hq
      exact ⟨j,hj,T2,z,hw,hIj,hz,hT2,hF2⟩
    |ret=>cases he; exact ⟨.ret,T2,z,rfl,hw,hq,hz,hT2,hF2⟩
    |exit id=>cases he; exact ⟨.exit id,T2,z,rfl,hw,hq,hz,hT2,hF2⟩
    |goto l=>cases he
    |panic l=>obtain ⟨c,rfl⟩:=mY he; exact ⟨.pan c,T2,z,he,hw,hq,hz,hT2,hF2⟩
    |outgrown=>cases he
  |_=>intro s hs; cases hs
end
end Go.Proofs.YteehaobohaecmaaGreatDoor


