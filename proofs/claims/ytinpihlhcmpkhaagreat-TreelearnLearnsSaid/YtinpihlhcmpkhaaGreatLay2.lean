/- The layer: abstract values for memory and their soundness; no condition. -/
import Derived.Deep.LoopGhost
import Derived.Test.YtinpihlhcmpkhaaGreatLay1
set_option linter.unusedSimpArgs false
set_option linter.unusedVariables false
namespace Go.Proofs.YtinpihlhcmpkhaaGreat
open Go
section
variable {P:Program} {x:Cx} {T:Nat->V} {a:Act}
theorem eN {o:Oper} {s:Sem Value} {w w':World} {c:Value} (he:execOp a.eval o=(do pure (Next.value (<- s)))) (h:s.run P w=.ok c w'):(execOp a.eval o).run P w=.ok (.value c) w':=by
  rw [he]; simp only [Sem.run_bind,h,Result.andThen_ok,Sem.run_pure]
theorem aK3 {o:Oper} {s:Sem Unit} {w w':World} (he:execOp a.eval o=(do s; pure Next.skip)) (h:s.run P w=.ok () w'):(execOp a.eval o).run P w=.ok .skip w':=by
  rw [he]; simp only [Sem.run_bind,h,Result.andThen_ok,Sem.run_pure]
theorem map_some {α β:Type} {f:α->β} {o:Option α} {b:β} (h:o.map f=some b): ∃ a,o=some a/\f a=b:=by
  cases o <;> simp_all
theorem zC {α β:Type} {f:α->Option β} {o:Option α} {b:β} (h:o.bind f=some b): ∃ a,o=some a/\f a=some b:=by
  cases o <;> simp_all
theorem aAB (hT: ∀ i,R x (T i) (a.tmps.getD i undef)) {os:List Operand} {ss:List SX} (h:jA sx os=some ss):RL x (uF T ss) (os.map a.eval):=by
  obtain ⟨h1,h2⟩:=jI h;refine ⟨by simp [aMB,h1],λj v hj=>?_⟩;rw [aMB,List.getElem?_map] at hj;obtain ⟨s,hs,rfl⟩:=map_some hj;obtain ⟨o,ho,hso⟩:=h2 j s hs;have:(os.map a.eval).getD j undef=a.eval o:=by simp [ho]
  rw [this];exact fQ hT hso
theorem RL.append {us vs:List V} {cs ds:List Value} (h:RL x us cs) (k:RL x vs ds):RL x (us++vs) (cs++ds):=by
  refine ⟨by simp [h.1,k.1],λj v hj=>?_⟩;rw [List.getElem?_append] at hj;rw [List.getD_eq_getElem?_getD,List.getElem?_append,h.1];split at hj
  . rename_i hlt
    rw [if_pos hlt,<- List.getD_eq_getElem?_getD]; exact h.2 _ _ hj
  . rename_i hlt
    rw [if_neg hlt,<- List.getD_eq_getElem?_getD]; exact k.2 _ _ hj
theorem aEa {vs:List V} {cs:Array Value} (hs:cs.size=vs.length) (h: ∀ (j:Nat) (v:V),vs[j]?=some v->R x v (cs.getD j undef)):RL x vs cs.toList:=
  ⟨by simp [hs],λj v hj=>by have:=h j v hj; rwa [Array.getD_eq_getD_getElem?,<- Array.getElem?_toList,<- List.getD_eq_getElem?_getD] at this⟩
theorem yN {f:Nat} (h:fS P f) (args:Array Value) (w:World):(callFunc f args).run P w=.ok (.enter f args) w:=by
  obtain ⟨fn,h1,h2,h3⟩:=h;have h4:fn.body.isNone=false:=by cases hb:fn.body <;> simp_all
  simp only [callFunc,Sem.run_bind,run_program,Result.andThen_ok,h1,h3,h4,Bool.false_eq_true,if_false]
  rfl
theorem aIk {o:Oper} {f:Nat} {args:List V} {H H':aT} {v:V} (hc:fH P f args H v H') (hH:x.H=H) (hx:Inv x) {cs:List Value} (hr:RL x args cs)
    (he:(execOp a.eval o).run P x.w=.ok (.enter f cs.toArray) x.w) {next:Act->World->Prop} {Q:Exit->Act->World->Prop}
    (hn: ∀ c (y:Cx),y.H=H'->Inv y->R y v c->Frame x y->next (a.put o.dst c) y.w):o.wp P a x.w next Q:=by
  unfold Oper.wp;rw [he,Oper.upon_enter];refine (hc.2 x cs hH hx hr).mono λe w' hq=>?_;obtain ⟨c,y,rfl,rfl,h1,h2,h3,h4⟩:=hq;exact hn c y h1 h2 h3 h4
theorem sJ {o:Option Operand} {s:Option SX} (h:aMK o=some s) (hT: ∀ i,R x (T i) (a.tmps.getD i undef)):
    (∀ v,s.map (ev T)=some v-> ∃ c,o.map a.eval=some c/\R x v c)/\(s.map (ev T)=none->o.map a.eval=none):=by
  cases o with
  |none=>cases h; exact ⟨λv hv=>by simp at hv,λ_=>rfl⟩
  | some p =>
    obtain ⟨q,hq,rfl⟩:=map_some h;refine ⟨λv hv=>?_,λhv=>by simp at hv⟩;simp at hv;subst hv;exact ⟨_,J,fQ hT hq⟩
theorem aMv {o : Oper} {op : Opt} {d : Nat} {f : Operand} {args : Array Operand} {tys : Array TypeId} {X : X} (hop : o.op = .call ⟨.value f, args, tys⟩) (hs : uA P op d ⟨.value f, args, tys⟩ = some X)
    {id:Nat} {k:V->aT->Prop} (hst:St P id X T x.H k) (hx:Inv x) (hT: ∀ i,R x (T i) (a.tmps.getD i undef)) {next:Act->World->Prop} {Q:Exit->Act->World->Prop}
    (hn: ∀ v c (y:Cx),k v y.H->Inv y->R y v c->Frame x y->next (a.put o.dst c) y.w):o.wp P a x.w next Q:=by
  have run: ∀ (g:Nat) (fs cs:Array Value),a.eval f=.func (.func g) fs cs->fS P g->(execOp a.eval o).run P x.w=.ok (.enter g (fs.toList++args.toList.map a.eval++cs.toList).toArray) x.w:=by
    intro g fs cs hf hg;have h1:(fs++args.map a.eval++cs)=(fs.toList++args.toList.map a.eval++cs.toList).toArray:=by simp
    simp only [execOp,hop,resolve,hf,Deferred.ofValue,Sem.run_bind,Sem.run_pure,Result.andThen_ok,invoke,yN hg,h1]
  have key: ∀ (e:Bool) (g:Nat) (fs cs:Array Value) (first caps:List V) (ss:List SX),a.eval f=.func (.func g) fs cs->RL x first fs.toList->RL x caps cs.toList->jA sx args.toList=some ss->
      zP P e g (first++uF T ss++caps) x.H k->o.wp P a x.w next Q:=by
    intro e g fs cs first caps ss hf h1 h2 h3 h4;have hr:=(h1.append<|aAB hT h3).append h2;cases e with
    | false =>
      obtain ⟨v,h5,h6⟩:=h4;have h7:=h5 x.H λ_ _=>J
      exact aIk h7 J hx hr (run g fs cs hf h7.1) λc y hy hi hrr hf=>hn v c y (hy ▸ h6) hi hrr hf
    | true =>
      obtain ⟨v,H',h5,h6⟩:=h4;exact aIk h5 J hx hr (run g fs cs hf h5.1) λc y hy hi hrr hf=>hn v c y (hy ▸ h6) hi hrr hf
  simp only [uA] at hs;split at hs
  . rename_i g us hf has
    simp only [Option.some.injEq] at hs;subst hs;have hfR:=fQ hT hf
    have hnil: ∀ (cs:Array Value),cs.size=([]:List V).length->cs=#[]:=λcs h=>by
      apply Array.eq_empty_of_size_eq_zero; simpa using h
    cases hfv:a.eval f with
    | func fn fs cs =>
      rw [hfv] at hfR;cases hfR with
      | fn _ _ _ _ _ h1 h2 _ _ =>
        have e1:=hnil _ h1;have e2:=hnil _ h2;subst e1; subst e2;by_cases hc:(op.own.contains d&& !(op.emut.contains g))=true
        . rw [if_pos hc] at hst
          obtain ⟨v,b,hb,hcall,hk⟩:=hst;refine key true g #[] #[] [] [] us hfv ⟨J,λj v hj=>by simp at hj⟩ ⟨J,λj v hj=>by simp at hj⟩ has ⟨v,cU x.H id b,?_,hk⟩;simp only [List.nil_append,List.append_nil];exact hcall x.H J
        . rw [if_neg hc] at hst
          refine key (op.emut.contains g) g #[] #[] [] [] us hfv ⟨J,λj v hj=>by simp at hj⟩ ⟨J,λj v hj=>by simp at hj⟩ has ?_;simp only [List.nil_append,List.append_nil];exact hst
    |_=>rw [hfv] at hfR; cases hfR
  . rename_i n us hf has
    cases hs;have hfR:=fQ hT hf;simp only [St,aRg] at hst hfR;split at hst
    . rename_i g first caps hTn
      rw [hTn] at hfR;cases hfv:a.eval f with
      | func fn fs cs =>
        rw [hfv] at hfR;cases hfR with
        | fn _ _ _ _ _ h1 h2 h3 h4 =>
          exact key (op.own.contains d) g fs cs first caps us hfv (aEa h1 h3) (aEa h2 h4) has hst
      |_=>rw [hfv] at hfR; cases hfR
    . exact hst.elim
  . cases hs
end
end Go.Proofs.YtinpihlhcmpkhaaGreat


namespace Go.Proofs.YtinpihlhcmpkhaaGreat
open Go
section
variable {P:Program} {x:Cx} {T:Nat->V} {a:Act}
theorem sU {t e:TypeId} (h:P.underlying t=some (.slice e)) (d:Nat) (b:Option Addr) (n c:Nat) (w:World):(Op.equalIn (d+1) t (.slice b n c) (.slice none 0 0)).run P w=.ok b.isNone w:=by
  cases b <;> simp [Op.equalIn,run_underlying h]
theorem nI {t e:TypeId} (h:P.underlying t=some (.slice e)) (b:Option Addr) (n c:Nat) (w:World):(Op.equal t (.slice b n c) (.slice none 0 0)).run P w=.ok b.isNone w:=
  sU h 9999 b n c w
theorem xT {t e:TypeId} (h:P.underlying t=some (.slice e)) (b:Option Addr) (n c:Nat) (w:World):(binOp .eql t (.slice b n c) (.slice none 0 0)).run P w=.ok (.bool b.isNone) w:=by
  simp only [binOp];simp [nI h]
theorem xO {t e:TypeId} (h:P.underlying t=some (.slice e)) (b:Option Addr) (n c:Nat) (w:World):(binOp .neq t (.slice b n c) (.slice none 0 0)).run P w=.ok (.bool (!b.isNone)) w:=by
  simp only [binOp];simp [nI h]
theorem aJA {α:Type} {l:Array α} {b:α} (h:l.toList=[b]):l=#[b]:=by cases l; simp_all
theorem aDM {α:Type} {l:Array α} {b c:α} (h:l.toList=[b,c]):l=#[b,c]:=by cases l; simp_all
theorem aSc {α:Type} {l:Array α} {b c d:α} (h:l.toList=[b,c,d]):l=#[b,c,d]:=by cases l; simp_all
theorem aFo {P:Program} {w:World} (ts:Array TypeId) (t:TypeId) (k k' k'':IntKind) (x y z:Int):
    (Builtin.min_ ts t #[.int k x,.int k' y,.int k'' z]).run P w=.ok (.int k (if z < (if y < x then y else x) then z else (if y < x then y else x))) w:=by
  simp [Builtin.min_,Builtin.min2,List.foldlM]
theorem aHY {o:Oper} {op:Opt} {d:Nat} {b:Builtin} {args:Array Operand} {tys:Array TypeId} {X:X} (hop:o.op=.call ⟨.builtin b,args,tys⟩) (hs:uA P op d ⟨.builtin b,args,tys⟩=some X)
    {id:Nat} {k:V->aT->Prop} (hst:St P id X T x.H k) (hx:Inv x) (hT: ∀ i,R x (T i) (a.tmps.getD i undef)) {next:Act->World->Prop} {Q:Exit->Act->World->Prop}
    (hn: ∀ v c (y:Cx),k v y.H->Inv y->R y v c->Frame x y->next (a.put o.dst c) y.w):o.wp P a x.w next Q:=by
  have pureop: ∀ {r:V} {c:Value},(execOp a.eval o).run P x.w=.ok (.value c) x.w->R x r c->k r x.H->o.wp P a x.w next Q:=
    λh1 h2 h3=>nR h1<|hn _ _ x h3 hx h2<|Frame.refl x
  simp only [uA] at hs;split at hs
  . rename_i p t hargs htys
    have ea:=aJA hargs; subst ea;have et:=aJA htys; subst et;split at hs
    . rename_i e q he hq
      cases hs;simp only [St,bW] at hst;obtain ⟨r,h1,h2⟩:=hst;obtain ⟨c,h3,h4⟩:=aOC (P:=P) (ty:=o.type) h1 (fQ hT hq) he x.w;refine pureop (c:=c) ?_ h4 h2;simp only [execOp,hop,resolve,invoke,builtin,Sem.run_bind,Sem.run_pure,Result.andThen_ok,List.map_toArray,List.map_cons,List.map_nil,h3]
    . rename_i q he hq
      cases hs;simp only [St,bW] at hst;obtain ⟨r,h1,h2⟩:=hst;obtain ⟨c,h3,h4⟩:=aNv (P:=P) (ty:=o.type) h1 (fQ hT hq) he x.w;refine pureop (c:=c) ?_ h4 h2;simp only [execOp,hop,resolve,invoke,builtin,Sem.run_bind,Sem.run_pure,Result.andThen_ok,List.map_toArray,List.map_cons,List.map_nil,h3]
    . cases hs
  . rename_i p t hargs htys
    have ea:=aJA hargs; subst ea;have et:=aJA htys; subst et;split at hs
    . rename_i e q he hq
      obtain ⟨z,hz,rfl⟩:=map_some hs;simp only [St,bW] at hst;obtain ⟨H',h1,h2⟩:=hst;obtain ⟨y,g1,g2,g3,g4⟩:=aPl (P:=P) hx (kR he) hz h1 (fQ hT hq) o.type;refine nR (c:=.tuple #[]) (w':=y.w) ?_<|hn _ _ y (by rw [g2]; exact h2) g3 (.tup [] #[] J (λj v hj=>by simp at hj)) g4
      simp only [execOp,hop,resolve,invoke,builtin,Sem.run_bind,Sem.run_pure,Result.andThen_ok,List.map_toArray,List.map_cons,List.map_nil,g1]
    . cases hs
  . rename_i p q t t' hargs htys
    have ea:=aDM hargs; subst ea;have et:=aDM htys; subst et;split at hs
    . rename_i e sp sq he hp hq
      obtain ⟨n,hsn,rfl⟩:=map_some hs;simp only [St,bW] at hst;obtain ⟨r,h1,h2⟩:=hst;obtain ⟨y,g1,g2,g3,g4⟩:=aOc (P:=P) hx (kR he) hsn h1 (fQ hT hp) (fQ hT hq) t' o.type;refine nR (c:=.int .i64 (r.1:Nat)) (w':=y.w) ?_<|hn _ _ y (by rw [g2]; exact h2) g3 (.int _ _) g4
      simp only [execOp,hop,resolve,invoke,builtin,Sem.run_bind,Sem.run_pure,Result.andThen_ok,List.map_toArray,List.map_cons,List.map_nil,g1]
    . cases hs
  . rename_i p q hargs
    have ea:=aDM hargs; subst ea;split at hs
    . rename_i sp sq hp hq
      cases hs;simp only [St,bW] at hst;obtain ⟨r,h1,h2⟩:=hst;have r1:=fQ hT hp;have r2:=fQ hT hq;unfold mnV at h1;split at h1
      . rename_i k1 n1 k2 n2 e1 e2
        rw [e1] at r1; rw [e2] at r2;cases h1;generalize hv1:a.eval p=v1 at r1;generalize hv2:a.eval q=v2 at r2;cases r1; cases r2;refine pureop (c:=.int k1 (if n2 < n1 then n2 else n1)) ?_ (.int _ _) h2;simp only [execOp,hop,resolve,invoke,builtin,Sem.run_bind,Sem.run_pure,Result.andThen_ok,List.map_toArray,List.map_cons,List.map_nil,hv1,hv2,run_min_int2]
      . cases h1
    . cases hs
  . rename_i p q s hargs
    have ea:=aSc hargs; subst ea;split at hs
    . rename_i sp sq ss hp hq hss
      cases hs;simp only [St,bW] at hst;obtain ⟨r,h1,h2⟩:=hst;have r1:=fQ hT hp;have r2:=fQ hT hq;have r3:=fQ hT hss;obtain ⟨u,h0,h1⟩:=zC h1;unfold mnV at h0 h1;split at h0
      . rename_i k1 n1 k2 n2 e1 e2
        cases h0;split at h1
        . rename_i k3 n3 k4 n4 e3 e4
          cases e3;cases h1;rw [e1] at r1; rw [e2] at r2; rw [e4] at r3;generalize hv1:a.eval p=v1 at r1;generalize hv2:a.eval q=v2 at r2;generalize hv3:a.eval s=v3 at r3;cases r1; cases r2; cases r3;refine pureop (c:=.int k1 (if n4 < (if n2 < n1 then n2 else n1) then n4 else (if n2 < n1 then n2 else n1))) ?_ (.int _ _) h2;simp only [execOp,hop,resolve,invoke,builtin,Sem.run_bind,Sem.run_pure,Result.andThen_ok,List.map_toArray,List.map_cons,List.map_nil,hv1,hv2,hv3,aFo]
        . cases h1
      . cases h0
    . cases hs
  . rename_i p q hargs
    have ea:=aDM hargs; subst ea;split at hs
    . rename_i sp sq hp hq
      cases hs;simp only [St,bW] at hst;obtain ⟨r,h1,h2⟩:=hst;have r1:=fQ hT hp;have r2:=fQ hT hq;unfold mxV at h1;split at h1
      . rename_i k1 n1 k2 n2 e1 e2
        rw [e1] at r1; rw [e2] at r2;cases h1;generalize hv1:a.eval p=v1 at r1;generalize hv2:a.eval q=v2 at r2;cases r1; cases r2;refine pureop (c:=.int k1 (if n2 > n1 then n2 else n1)) ?_ (.int _ _) h2;simp only [execOp,hop,resolve,invoke,builtin,Sem.run_bind,Sem.run_pure,Result.andThen_ok,List.map_toArray,List.map_cons,List.map_nil,hv1,hv2,run_max_int2]
      . cases h1
    . cases hs
  . rename_i p q t u hargs htys
    have ea:=aDM hargs; subst ea;have et:=aDM htys; subst et;split at hs
    . rename_i e sp sq he hp hq
      have fin : ∀ {info : TypeInfo} {z : List V}, ((∃ e', P.underlying u = some (.slice e')) \/ P.underlying u = some .string) -> P.info? e = some info -> iG P e = some z -> z.length = info.size -> info.size ≠ 0 -> St P id (.append e info.size info.bytes sp sq) T x.H k -> o.wp P a x.w next Q := by
        intro info z hk hi hz hzl hsz0 hst;simp only [St] at hst;split at hst
        . rename_i i ver off len hTs
          split at hst
          . rename_i c1
            split at hst
            . rename_i c2
              split at hst
              . rename_i c3
                split at hst
                . rename_i c4
                  split at hst
                  . rename_i c5
                    rw [bW] at hst;obtain ⟨new,h1,h2⟩:=hst;split at h2
                    . rename_i c6
                      split at h2
                      . rename_i c7
                        split at h2
                        . rename_i c8
                          simp only [Bool.and_eq_true,decide_eq_true_eq] at c1;have r1:=fQ hT hp;rw [hTs,c2] at r1;obtain ⟨y,c,g1,g2,g3,g4,g5⟩:=aGM (P:=P) hx (kR he) hk hi hz J J hzl hsz0 c1.1 c1.2 c3 c4 c5 h1 c6 c7 c8 r1 (fQ hT hq) o.type;refine nR (c:=c) (w':=y.w) ?_<|hn _ _ y (by rw [g2]; exact h2) g3 g5 g4
                          simp only [execOp,hop,resolve,invoke,builtin,Sem.run_bind,Sem.run_pure,Result.andThen_ok,List.map_toArray,List.map_cons,List.map_nil,g1]
                        . exact h2.elim
                      . exact h2.elim
                    . exact h2.elim
                  . exact hst.elim
                . exact hst.elim
              . exact hst.elim
            . exact hst.elim
          . exact hst.elim
        . exact hst.elim
      split at hs
      . rename_i e' info hu hi
        split at hs
        . cases hs
        . rename_i hnz
          split at hs
          . rename_i z hz
            split at hs
            . rename_i hzl
              cases hs;exact fin (.inl ⟨_,hu⟩) hi hz hzl (λh=>hnz (.inl h)) hst
            . cases hs
          . cases hs
      . rename_i info hu hi
        split at hs
        . rename_i h1
          split at hs
          . rename_i z hz
            split at hs
            . rename_i hzl
              cases hs;exact fin (.inr hu) hi hz hzl OM hst
            . cases hs
          . cases hs
        . cases hs
      . cases hs
    . cases hs
  . cases hs
theorem aAm {ps:Array (Nat×Operand)} {qs:List (Nat×SX)} (h:jA (λ(p:Nat×Operand)=>(sx p.2).map λx=>(p.1,x)) ps.toList=some qs) (hT: ∀ i,R x (T i) (a.tmps.getD i undef)):
    (ps.map λ(i,y)=>(i,a.eval y)).toList.length=(qs.map λp=>(p.1,ev T p.2)).length/\
    ∀ (j:Nat) (q:Nat×V),(qs.map λp=>(p.1,ev T p.2))[j]?=some q-> ∃ c,(ps.map λ(i,y)=>(i,a.eval y)).toList[j]?=some (q.1,c)/\R x q.2 c:=by
  obtain ⟨h1,h2⟩:=jI h;refine ⟨by simp [h1],λj q hj=>?_⟩;rw [List.getElem?_map] at hj;obtain ⟨p,hp,rfl⟩:=map_some hj;obtain ⟨o,ho,hso⟩:=h2 j p hp;obtain ⟨s,hs,rfl⟩:=map_some hso;refine ⟨a.eval o.2,?_,fQ hT hs⟩;simp [ho]
theorem aNp {o : Oper} {op : Opt} {d : Nat} {X : X} (hs : aIp P op d o = some X)
    {id:Nat} {k:V->aT->Prop} (hst:St P id X T x.H k) (hx:Inv x) (hT: ∀ i,R x (T i) (a.tmps.getD i undef)) {next:Act->World->Prop} {Q:Exit->Act->World->Prop}
    (hn: ∀ v c (y:Cx),k v y.H->Inv y->R y v c->Frame x y->next (a.put o.dst c) y.w):o.wp P a x.w next Q:=by
  have pureop: ∀ {r:V} {c:Value},(execOp a.eval o).run P x.w=.ok (.value c) x.w->R x r c->k r x.H->o.wp P a x.w next Q:=
    λh1 h2 h3=>nR h1<|hn _ _ x h3 hx h2<|Frame.refl x
  cases hop:o.op <;> simp only [aIp,hop] at hs
  case move p=>
    obtain ⟨s,h1,rfl⟩:=map_some hs;exact pureop (c:=a.eval p) (by simp only [execOp,hop,Sem.run_pure]) (fQ hT h1) hst
  case assign p=>
    split at hs
    . rename_i hc
      split at hs
      . rename_i e he
        split at hs
        . rename_i hel
          obtain ⟨n,h1,rfl⟩:=map_some hs;obtain ⟨g1,g2,g3⟩:=mN hx id e n hel;refine nR (c:=.slice none 0 0) (w':=x.w) (by simp only [execOp,hop,Sem.run_pure,Act.eval])<|hn _ _ {x with H:=cU x.H id ⟨(x.H id).ver+1,true,true,e,n,[]⟩} hst g1 (g3 _) g2
        . cases hs
      . cases hs
    . obtain ⟨s,h1,rfl⟩:=map_some hs
      exact pureop (c:=a.eval _) (by simp only [execOp,hop,Sem.run_pure]) (fQ hT h1) hst
  case pick c p q=>
    split at hs
    . rename_i sc sp sq hc hp hq
      cases hs;simp only [St,bW] at hst;obtain ⟨b,h1,h2⟩:=hst;have rc:=fQ hT hc
      have hb:a.eval c=.bool b:=by
        unfold asB at h1;split at h1
        . rename_i b' e
          cases h1;rw [e] at rc;generalize a.eval c=cv at rc;cases rc
          rfl
        . cases h1
      refine pureop (c:=if b then a.eval p else a.eval q) (by simp only [execOp,hop,hb,asBool,Sem.run_bind,Sem.run_pure,Result.andThen_ok]) ?_ h2;cases b
      . exact fQ hT hq
      . exact fQ hT hp
    . cases hs
  case alloc t=>
    obtain ⟨z,h1,rfl⟩:=map_some hs;obtain ⟨y,c,g1,g2,g3,g4,g5⟩:=aKB (P:=P) hx id h1;exact nR (eN (by simp only [execOp,hop]) g1)<|hn _ _ y (by rw [g2]; exact hst) g3 g5 g4
  case box t p=>
    split at hs
    . rename_i s n h1 h2
      cases hs;obtain ⟨y,c,g1,g2,g3,g4,g5⟩:=aPd (P:=P) hx id t<|fQ hT h1
      exact nR (eN (by simp only [execOp,hop]) g1)<|hn _ _ y (by rw [g2]; exact hst) g3 g5 g4
    . cases hs
  case build t ps=>
    split at hs
    . rename_i fs z h1 h2
      split at hs
      . rename_i qs h3
        split at hs
        . rename_i h4
          cases hs;simp only [St,bW] at hst;obtain ⟨cs,h5,h6⟩:=hst;obtain ⟨g1,g2⟩:=jI h3
          obtain ⟨c,h7,h8⟩:=aKO (P:=P) (x:=x) h1 h2 h4 (qs:=qs.map λp=>(p.1,p.2.1,ev T p.2.2)) (ps:=(ps.map λ(i,y)=>(i,a.eval y)).toList) (by simp [g1]) (λj q hj=>by
            rw [List.getElem?_map] at hj;obtain ⟨p,hp,rfl⟩:=map_some hj;obtain ⟨o',ho,hso⟩:=g2 j p hp;split at hso
            . rename_i f s hf hs'
              obtain ⟨n,hn',rfl⟩:=map_some hso;refine ⟨o'.1,a.eval o'.2,f,?_,hf,J,hn',fQ hT hs'⟩;have:ps[j]?=some o':=by simpa using ho
              simp [this]
            . cases hso) h5 x.w
          simp only [Array.toArray_toList] at h7;exact pureop (eN (by simp only [execOp,hop]) h7) h8 h6
        . cases hs
      . cases hs
    . rename_i l e z h1 h2
      split at hs
      . rename_i n qs hn' h3
        cases hs;simp only [St,bW] at hst;obtain ⟨cs,h5,h6⟩:=hst;obtain ⟨g1,g2⟩:=aAm h3 hT;obtain ⟨c,h7,h8⟩:=aHX (P:=P) (x:=x) h1 h2 hn' g1 g2 (by simpa [List.map_map,Function.comp_def] using h5) x.w;simp only [Array.toArray_toList] at h7;exact pureop (eN (by simp only [execOp,hop]) h7) h8 h6
      . cases hs
    . cases hs
  case buildSlice t len ps=>
    split at hs
    . rename_i e he
      split at hs
      . rename_i z n qs h1 h2 h3
        split at hs
        . rename_i h4
          split at hs
          . rename_i hlz
            obtain ⟨rfl,_,hqe,hel⟩:=hlz;cases hs;have hqe:qs=[]:=by simpa using hqe
            subst hqe;obtain ⟨g1,g2⟩:=aAm h3 hT;obtain ⟨h7,cc,h8,h9,h10⟩:=yJ (P:=P) (x:=x) (rows:=[]) (kR he) h1 h2 h4.1 h4.2.1 h4.2.2 g1 g2 J;simp only [Array.toArray_toList] at h8;obtain ⟨y,y1,y2,y3,y4,_⟩:=aA6 hx (e:=e) h7 h10 h9 (by unfold maxLen; omega);obtain ⟨z1,z2,z3⟩:=mN y3 id e n hel;refine nR (eN (by simp only [execOp,hop]) h8) ?_;rw [<- y1];have hst':k (.ms id ((y.H id).ver+1) 0 0) (cU y.H id ⟨(y.H id).ver+1,true,true,e,n,[]⟩):=by rw [y2]; exact hst
            exact hn _ _ {y with H:=cU y.H id ⟨(y.H id).ver+1,true,true,e,n,[]⟩} hst' z1 (z3 _)<|y4.trans z2
          cases hs;simp only [St,bW] at hst;obtain ⟨rows,h5,h6⟩:=hst;obtain ⟨g1,g2⟩:=aAm h3 hT;obtain ⟨h7,cc,h8,h9,h10⟩:=yJ (P:=P) (x:=x) (kR he) h1 h2 h4.1 h4.2.1 h4.2.2 g1 g2 h5;simp only [Array.toArray_toList] at h8
          have hlm:len<=maxLen:=by
            have:len*1<=len*n:=Nat.mul_le_mul_left _ OM;unfold maxLen; omega
          split at h6
          . obtain ⟨y,y1,y2,y3,y4,y5⟩:=aCr hx id (e:=e) (cap:=len) h7 h10 h9 (Nat.le_refl _) hlm
            rw [h7] at h6;refine nR (eN (by simp only [execOp,hop]) h8) ?_;rw [<- y1];exact hn _ _ y (by rw [y2]; exact h6) y3 y5 y4
          . obtain ⟨y,y1,y2,y3,y4,y5⟩:=aA6 hx (e:=e) h7 h10 h9 hlm
            refine nR (eN (by simp only [execOp,hop]) h8) ?_;rw [<- y1];exact hn _ _ y (by rw [y2]; exact h6) y3 y5 y4
        . cases hs
      . cases hs
    . cases hs
  case load t p =>
    split at hs
    . rename_i g n s h1 h2 h3
      split at hs
      . cases hs
      . rename_i h4
        cases hs
        have hst': ∃ r,(ptr x.H<|ev T s).bind (ldV g n)=some r/\k r x.H:=by
          split at hst
          . simp only [St,bW] at hst
            obtain ⟨r,h5,h6⟩:=hst;obtain ⟨cs,h7,h8⟩:=Option.bind_eq_some_iff.1 h5;exact ⟨r,by rw [aLp h7]; exact h8,h6⟩
          . simp only [St,bW] at hst
            exact hst
        obtain ⟨r,h5,h6⟩:=hst';obtain ⟨c,h7,h8⟩:=aGC (P:=P) hx h5 (fQ hT h3) h1 h2 h4;exact pureop (eN (by simp only [execOp,hop]) h7) h8 h6
    . cases hs
  case store t p q=>
    split at hs
    . rename_i n sp sq h1 h2 h3
      cases hs;simp only [St,bW] at hst;obtain ⟨H',h4,h5⟩:=hst;obtain ⟨y,g1,g2,g3,g4⟩:=aKQ (P:=P) hx h4 (fQ hT h2) (fQ hT h3) h1;exact aMO (aK3 (by simp only [execOp,hop]) g1)<|hn _ _ y (by rw [g2]; exact h5) g3 (.raw undef J) g4
    . cases hs
  case nilCheck p=>
    obtain ⟨s,h1,rfl⟩:=map_some hs;simp only [St,bW] at hst;obtain ⟨r,h2,h3⟩:=hst;have r1:=fQ hT h1;unfold aIb at h2;split at h2
    . rename_i cells e
      cases h2;rw [e] at r1;refine pureop (c:=a.eval p) ?_ r1 h3;generalize hv:a.eval p=cv at r1;cases r1;simp only [execOp,hop,hv,Sem.run_pure]
    . rename_i i ver row off e
      cases h2;rw [e] at r1;refine pureop (c:=a.eval p) ?_ r1 h3;generalize hv:a.eval p=cv at r1;cases r1 with
      | mp _ _ _ _ pp _ hh =>
        simp only [execOp,hop,hv,Sem.run_pure]
    . rename_i f b c e
      cases h2;rw [e] at r1;refine pureop (c:=a.eval p) ?_ r1 h3;generalize hv:a.eval p=cv at r1;cases r1;simp only [execOp,hop,hv,Sem.run_pure]
    . cases h2
  case binOp bop t p q yt=>
    split at hs
    . rename_i k1 sp sq h1 h2 h3
      cases hs;simp only [St,bW] at hst;obtain ⟨r,h4,h5⟩:=hst;obtain ⟨c,h6,h7⟩:=aHd (P:=P) h4 (fQ hT h2) (fQ hT h3) t p q x.w;exact pureop (eN (by simp only [execOp,hop]) h6) h7 h5
    . rename_i sp sq h1 h2 h3
      cases hs;simp only [St,bW] at hst;obtain ⟨r,h4,h5⟩:=hst;obtain ⟨c,h6,h7⟩:=aHR (P:=P) h4 (fQ hT h2) (fQ hT h3) t p q x.w;exact pureop (eN (by simp only [execOp,hop]) h6) h7 h5
    . rename_i sp sq h1 h2 h3
      cases hs;simp only [St,bW] at hst;obtain ⟨r,h4,h5⟩:=hst;obtain ⟨c,h6,h7⟩:=aFL (P:=P) h4 (fQ hT h2) (fQ hT h3) h1 p q x.w;exact pureop (eN (by simp only [execOp,hop]) h6) h7 h5
    . rename_i e sp h1 h2 h3
      have hq:a.eval q=.slice none 0 0:=by
        have:=fQ hT h3;simp only [ev] at this;generalize a.eval q=cv at this;cases this; rfl
      have r1:=fQ hT h2
      have key: ∀ (neg:Bool),X=.isnil neg sp->bop=(if neg then .neq else .eql)->o.wp P a x.w next Q:=by
        intro neg hX hb;subst hX
        have run: ∀ (b:Option Addr) (n c:Nat),a.eval p=.slice b n c->(execOp a.eval o).run P x.w=.ok (.value (.bool (if neg then b.isSome else b.isNone))) x.w:=by
          intro b n c hp;refine eN (s:=do eqGuard bop t p q (a.eval p) (a.eval q); binOp bop t (a.eval p) (a.eval q)) (by simp only [execOp,hop]) ?_;rw [hp,hq,hb];cases neg <;> cases b <;> simp [eqGuard_at_slice,xT h1,xO h1]
        simp only [St] at hst;split at hst
        . rename_i hTs
          rw [hTs] at r1;generalize hcv:a.eval p=cv at r1;cases r1;exact pureop (run none 0 0 hcv) (.bool _) (by cases neg <;> simpa using hst)
        . rename_i rows hTs
          rw [hTs] at r1;generalize hcv:a.eval p=cv at r1;cases r1 with
          |slnil=>exact pureop (run none 0 0 hcv) (.bool _) (by cases neg <;> simpa using hst.1 rfl)
          |sl _ ad cap sz cs hc hm hz hsz hcell hr=>exact pureop (run (some ad) _ cap hcv) (.bool _) (by cases neg <;> simpa using hst.2)
        . exact hst.elim
      split at hs
      . cases hs; exact key false rfl rfl
      . cases hs; exact key true rfl rfl
      . cases hs
    . rename_i fs sp sq h1 h2 h3
      split at hs
      . rename_i qs hq
        cases hs;simp only [St,bW] at hst;obtain ⟨r,h4,h5⟩:=hst;obtain ⟨c,h6,h7⟩:=aCL (P:=P) hq h4 (fQ hT h2) (fQ hT h3) p q x.w;exact pureop (eN (s:=do eqGuard .eql t p q (a.eval p) (a.eval q); binOp .eql t (a.eval p) (a.eval q)) (by simp only [execOp,hop]) h6) h7 h5
      . rename_i qs hq
        cases hs;simp only [St,bW] at hst;obtain ⟨r,h4,h5⟩:=hst;obtain ⟨c,h6,h7⟩:=aCL (P:=P) hq h4 (fQ hT h2) (fQ hT h3) p q x.w;exact pureop (eN (s:=do eqGuard .neq t p q (a.eval p) (a.eval q); binOp .neq t (a.eval p) (a.eval q)) (by simp only [execOp,hop]) h6) h7 h5
      . cases hs
    . cases hs
  case unOp uop t p=>
    obtain ⟨s,h1,rfl⟩:=map_some hs;simp only [St,bW] at hst;obtain ⟨r,h4,h5⟩:=hst;obtain ⟨c,h6,h7⟩:=aNZ (P:=P) h4 (fQ hT h1) x.w;exact pureop (eN (by simp only [execOp,hop]) h6) h7 h5
  case convert s t p=>
    split at hs
    . rename_i ds kd sp h1 h2 h3
      cases hs;simp only [St,bW] at hst;obtain ⟨r,h4,h5⟩:=hst;obtain ⟨c,h6,h7⟩:=aNJ (P:=P) h4 (fQ hT h3) h1 h2 x.w;exact pureop (eN (by simp only [execOp,hop]) h6) h7 h5
    . rename_i e sp h1 h2 h3
      split at hs
      . rename_i h8
        cases hs;simp only [St,bW] at hst;obtain ⟨r,h4,h5⟩:=hst;obtain ⟨c,h6,h7⟩:=aLS (P:=P) h4 (fQ hT h3) h1 h8 h2 x.w J;exact pureop (eN (by simp only [execOp,hop]) h6) h7 h5
      . cases hs
    . cases hs
  case fieldAddr t p f=>
    split at hs
    . rename_i fd sp h1 h2
      split at hs
      . rename_i n h3
        split at hs
        . cases hs
        . rename_i h4
          cases hs;simp only [St,bW] at hst;obtain ⟨r,h5,h6⟩:=hst;obtain ⟨c,h7,h8⟩:=aPj (P:=P) h5 (fQ hT h2) h1 J h3 h4 x.w;exact pureop (eN (by simp only [execOp,hop]) h7) h8 h6
      . cases hs
    . cases hs
  case field t p f=>
    split at hs
    . rename_i fd sp h1 h2
      split at hs
      . rename_i g n h3 h4
        split at hs
        . cases hs
        . rename_i h5
          cases hs;simp only [St,bW] at hst;obtain ⟨r,h6,h7⟩:=hst;have r1:=fQ hT h2
          have hfs: ∃ fs,P.underlying t=some (.struct fs)/\fs[f]?=some fd:=by
            unfold aAk at h1;split at h1
            . exact ⟨_,by assumption,h1⟩
            . cases h1
          obtain ⟨fs,hfs,hfd⟩:=hfs;cases hev:ev T sp with
          | agg cells =>
            rw [hev] at h6 r1;generalize hv:a.eval p=cv at r1;cases r1 with
            | agg _ cs hs' hr =>
              obtain ⟨c,h8,h9⟩:=aFN (P:=P) h6 hs' hr h3 h4 h5 x.w;refine pureop (eN (s:=Instr.field t (a.eval p) f) (by simp only [execOp,hop]) ?_) h9 h7;simp only [hv,Instr.field,Sem.run_bind,run_underlying hfs,Result.andThen_ok,hfd,asAgg,Sem.run_pure,h8]
          |_=>rw [hev] at h6; simp [aCc] at h6
      . cases hs
    . cases hs
  case indexAddr t p i=>
    split at hs
    . rename_i e sp si h1 h2 h3
      obtain ⟨n,h4,rfl⟩:=map_some hs;simp only [St,bW] at hst;obtain ⟨r,h5,h6⟩:=hst;obtain ⟨c,h7,h8⟩:=aPE (P:=P) h5 (fQ hT h2) (fQ hT h3) h1 h4 x.w;exact pureop (eN (by simp only [execOp,hop]) h7) h8 h6
    . rename_i sp si h1 h2 h3
      split at hs
      . rename_i len e ha
        obtain ⟨n,h4,rfl⟩:=map_some hs;simp only [St,bW] at hst;obtain ⟨r,h5,h6⟩:=hst;obtain ⟨c,h7,h8⟩:=aMn (P:=P) h5 (fQ hT h2) (fQ hT h3) ha h4 x.w;exact pureop (eN (by simp only [execOp,hop]) h7) h8 h6
      . cases hs
    . cases hs
  case index t p i=>
    split at hs
    . rename_i sp si h1 h2 h3
      cases hs;simp only [St,bW] at hst;obtain ⟨r,h5,h6⟩:=hst;obtain ⟨c,h7,h8⟩:=aLT (P:=P) h5 (fQ hT h2) (fQ hT h3) h1 x.w;exact pureop (eN (by simp only [execOp,hop]) h7) h8 h6
    . rename_i len e sp si h1 h2 h3
      split at hs
      . rename_i g n hg hn'
        split at hs
        . cases hs
        . rename_i hg1
          cases hs;simp only [St,bW] at hst;obtain ⟨r,h5,h6⟩:=hst;obtain ⟨c,h7,h8⟩:=aMp (P:=P) h5 (fQ hT h2) (fQ hT h3) h1 hg hn' hg1 x.w;exact pureop (eN (by simp only [execOp,hop]) h7) h8 h6
      . cases hs
    . cases hs
  case slice t p lo hi mx=>
    split at hs
    . cases hs
    . rename_i hmx
      have hmx':mx=none:=by cases mx <;> simp_all
      subst hmx';split at hs
      . rename_i sp slo shi h1 h2 h3 h4
        cases hs;simp only [St,bW] at hst;obtain ⟨r,h5,h6⟩:=hst;obtain ⟨a1,a2⟩:=sJ h3 hT;obtain ⟨b1,b2⟩:=sJ h4 hT;obtain ⟨c,h7,h8⟩:=aG6 (P:=P) h5 (fQ hT h2) a1 a2 b1 b2 h1 x.w;exact pureop (eN (by simp only [execOp,hop,Option.map_none]) h7) h8 h6
      . rename_i e sp slo shi h1 h2 h3 h4
        obtain ⟨n,h9,rfl⟩:=map_some hs;simp only [St,bW] at hst;obtain ⟨r,h5,h6⟩:=hst;obtain ⟨a1,a2⟩:=sJ h3 hT;obtain ⟨b1,b2⟩:=sJ h4 hT;obtain ⟨c,h7,h8⟩:=aKk (P:=P) h5 (fQ hT h2) a1 a2 b1 b2 h1 h9 x.w;exact pureop (eN (by simp only [execOp,hop,Option.map_none]) h7) h8 h6
      . cases hs
  case makeSlice t l c=>
    split at hs
    . rename_i e sl sc h1 h2 h3
      split at hs
      . rename_i i z h4 h5
        split at hs
        . rename_i h6
          cases hs;simp only [St,bW] at hst;obtain ⟨n,h7,h8⟩:=hst;obtain ⟨y,r,g1,g2,g3,g4,g5⟩:=aPi (P:=P) hx id (kR h1) h4 h5 J J h6.1 h6.2 h7 (fQ hT h2)<|fQ hT h3
          exact nR (eN (by simp only [execOp,hop]) g1)<|hn _ _ y (by rw [g2]; exact h8) g3 g5 g4
        . cases hs
      . cases hs
    . cases hs
  case extract p i=>
    obtain ⟨s,h1,rfl⟩:=map_some hs;simp only [St,bW] at hst;obtain ⟨r,h4,h5⟩:=hst;obtain ⟨c,h6,h7⟩:=aOg (P:=P) h4 (fQ hT h1) x.w;exact pureop (eN (by simp only [execOp,hop]) h6) h7 h5
  case makeFunc fn first caps=>
    cases fn with
    | func f =>
      simp only at hs;split at hs
      . rename_i h0
        obtain ⟨ss,h1,rfl⟩:=map_some hs;have hr:=aAB hT h1;have hf0:first=#[]:=Array.eq_empty_of_size_eq_zero h0;subst hf0;refine pureop (c:=.func (.func f) #[] (caps.map a.eval)) (by simp only [execOp,hop,Instr.makeFunc,Sem.run_bind,Sem.run_pure,Result.andThen_ok,List.map_toArray,List.map_nil]) ?_ hst;refine .fn f [] _ #[] _ J (by have:=hr.1; simpa using this) (λj v hj=>by simp at hj) (λj v hj=>?_);have:=hr.2 j v hj;rw [Array.getD_eq_getD_getElem?,<- Array.getElem?_toList,<- List.getD_eq_getElem?_getD];simpa using this
      . split at hs
        . rename_i sa sb h1 h2
          cases hs;have hr1:=aAB hT h1;have hr2:=aAB hT h2;refine pureop (c:=.func (.func f) (first.map a.eval) (caps.map a.eval)) (by simp only [execOp,hop,Instr.makeFunc,Sem.run_bind,Sem.run_pure,Result.andThen_ok]) ?_ hst;refine .fn f _ _ _ _ (by have:=hr1.1; simpa using this) (by have:=hr2.1; simpa using this) (λj v hj=>?_) (λj v hj=>?_)
          . have:=hr1.2 j v hj
            rw [Array.getD_eq_getD_getElem?,<- Array.getElem?_toList,<- List.getD_eq_getElem?_getD];simpa using this
          . have:=hr2.2 j v hj
            rw [Array.getD_eq_getD_getElem?,<- Array.getElem?_toList,<- List.getD_eq_getElem?_getD];simpa using this
        . cases hs
    |_=>cases hs
  case typeAssert p t0 t ok=>
    split at hs
    . rename_i fs hfs
      obtain ⟨s,h1,rfl⟩:=map_some hs;simp only [St,bW] at hst;obtain ⟨r,h4,h5⟩:=hst;obtain ⟨c,h6,h7⟩:=aNV (P:=P) h4 (fQ hT h1) ⟨_,hfs⟩ t0 x.w;exact pureop (eN (by simp only [execOp,hop]) h6) h7 h5
    . cases hs
  case makeInterface t p=>
    split at hs
    . rename_i fs hu
      obtain ⟨s,h1,rfl⟩:=map_some hs;simp only [St,bW] at hst;obtain ⟨c,h4,h5⟩:=hst;have e:a.eval p=c:=aRJ h4<|fQ hT h1
      refine pureop (c:=.iface t c) ?_ (.raw _ J) h5;simp [execOp,hop,Instr.makeInterface,run_underlying hu,e]
    . cases hs
  case call c=>
    obtain ⟨callee,args,tys⟩:=c;cases callee with
    |value f=>exact aMv hop hs hst hx hT hn
    |builtin b=>exact aHY hop hs hst hx hT hn
    |invoke r m=>cases hs
  all_goals cases hs
end
end Go.Proofs.YtinpihlhcmpkhaaGreat


namespace Go.Proofs.YtinpihlhcmpkhaaGreat
open Go
section
variable {P:Program}
structure TRel (D:List Deferred) (n:Nat) (x:Cx) (T:Nat->V) (a:Act):Prop where
  tmps: ∀ i,R x (T i) (a.tmps.getD i undef)
  defers:a.defers=D
  size:a.tmps.size=n
theorem TRel.frame {D:List Deferred} {n:Nat} {x y:Cx} {T:Nat->V} {a:Act} (h:TRel D n x T a) (hx:Inv x) (hf:Frame x y):TRel D n y T a:=
  ⟨λi=>(h.tmps i).frame hx hf,h.defers,h.size⟩
theorem TRel.put {D:List Deferred} {n:Nat} {x:Cx} {T:Nat->V} {a:Act} (h:TRel D n x T a) {d:Option Nat} (hd: ∀ e,d=some e->e < n) {v:V} {c:Value} (hr:R x v c):TRel D n x (jJ T d v) (a.put d c):=by
  cases d with
  |none=>exact h
  | some d =>
    refine ⟨λi=>?_,h.defers,by simp [Act.put,h.size]⟩;have hlt:d < a.tmps.size:=by rw [h.size]; exact hd d J
    simp only [jJ,Act.put];by_cases e:i=d
    . simp_all [aR]
    . rw [bT _ _ e,Array.getD_eq_getD_getElem?,Array.getElem?_setIfInBounds_ne (Ne.symm e),<- Array.getD_eq_getD_getElem?]
      exact h.tmps i
def aQw : Exit -> Option Ex
  | .normal=>some .norm
  | .ret=>some .ret
  | .exit n=>some (.exit n)
  | .panic l => match l with
    |[⟨c,false,false⟩]=>some (.pan c)
    |_=>none
  |_=>none
def pA (D:List Deferred) (n:Nat) (x0:Cx) (Q:Ex->(Nat->V)->aT->Prop):Exit->Act->World->Prop:=λe a w=>
  ∃ e' T y,aQw e=some e'/\y.w=w/\Q e' T y.H/\Inv y/\TRel D n y T a/\Frame x0 y
theorem aPf {x:Cx} {v:V} {c:Value} {b:Bool} (h:asB v=some b) (hr:R x v c):c=.bool b:=by
  unfold asB at h;split at h
  . cases h; cases hr; rfl
  . cases h
theorem vP {op:Opt} {n:Nat} {ops:Array Oper} {o:Oper} {s:SO} (h:pO P op n ops o=some s):s.d=o.dst/\(∀ e,o.dst=some e->e < n)/\aCC P op (o.dst.getD 0) o=s.x/\
    ((o.guard=none/\s.g=none)\/ ∃ j want t,o.guard=some (j,want)/\(ops[j]?).bind (·.dst)=some t/\s.g=some (t,want)):=by grind [pO,aOi]
theorem vF {x:Cx} {T:Nat->V} {a:Act} {o:Oper} {op:Opt} {d:Nat} {X:X} (hs:aCC P op d o=X)
    {id:Nat} {k:V->aT->Prop} (hst:St P id X T x.H k) (hx:Inv x) (hT: ∀ i,R x (T i) (a.tmps.getD i undef)) {next:Act->World->Prop} {Q:Exit->Act->World->Prop}
    (hn: ∀ v c (y:Cx),k v y.H->Inv y->R y v c->Frame x y->next (a.put o.dst c) y.w):o.wp P a x.w next Q:=by
  unfold aCC at hs;cases h:aIp P op d o with
  |none=>rw [h] at hs; subst hs; exact hst.elim
  |some Y=>grind [aNp]
theorem aAp {D:List Deferred} {n:Nat} {x:Cx} {T:Nat->V} {a:Act} (h:TRel D n x T a) {ops:Array Oper} {j t:Nat} (hj:(ops[j]?).bind (·.dst)=some t) (want:Bool):(yielded ops a.tmps j==some want)=gd want (T t):=by
  have h1:=h.tmps t;rw [Array.getD_eq_getD_getElem?] at h1;have e:yielded ops a.tmps j=match a.tmps[t]? with|some (.bool b)=>some b|_=>none:=by simp [yielded,hj]; rfl
  rw [e];cases hq:a.tmps[t]? with
  | none =>
    rw [hq] at h1;simp only [Option.getD_none] at h1;generalize hv:T t=v at h1;generalize hu:undef=u at h1;cases h1 <;> simp_all [gd,undef]
    all_goals (subst hu; rfl)
  | some c =>
    rw [hq] at h1;simp only [Option.getD_some] at h1;generalize hv:T t=v at h1;cases h1 <;> simp [gd]
    cases c <;> simp
theorem aAH {D : List Deferred} {op : Opt} {n k0 : Nat} {ops : Array Oper} {x0 : Cx} {Q : Ex -> (Nat -> V) -> aT -> Prop} : ∀ (l : List Oper) (L : List SO), jA (pO P op n ops) l = some L ->
    ∀ (x:Cx) (T:Nat->V) (a:Act),dE P k0 L T x.H (Q .norm)->Inv x->TRel D n x T a->Frame x0 x->wpList P ops (pA D n x0 Q) l a x.w
  | [], L, hL, x, T, a, h, hx, hT, hF => by
    cases hL;exact ⟨.norm,T,x,J,J,h,hx,hT,hF⟩
  | o :: l, L, hL, x, T, a, h, hx, hT, hF => by
    simp only [jA] at hL;split at hL
    . rename_i s L' hs hL'
      cases hL;obtain ⟨h1,h2,h3,h4⟩:=vP hs
      have run:St P (k0+s.d.getD 0) s.x T x.H (λv H'=>dE P k0 L' (jJ T s.d v) H'<|Q .norm)->o.wp P a x.w (wpList P ops (pA D n x0 Q) l) (pA D n x0 Q):=λhst=>
        vF h3 hst hx hT.tmps λv c y hk hy hr hf=>by
          rw [h1] at hk;exact aAH l L' hL' y _ _ hk hy ((hT.frame hx hf).put h2 hr)<|hF.trans hf
      simp only [wpList];rcases h4 with ⟨hg,hsg⟩|⟨j,want,t,hg,hj,hsg⟩
      . grind [Region.wanted,dE]
      . simp only [dE,hsg] at h
        obtain ⟨hyes,hno⟩:=h;have hy:=aAp hT hj want;have hwe:Region.wanted o (yielded ops a.tmps)=gd want (T t):=by grind [Region.wanted]
        cases hbw:gd want (T t) with
        | true =>
          grind
        | false =>
          rw [if_neg (by rw [hwe,hbw]; simp)];have:=hno hbw;rw [h1] at this;exact aAH l L' hL' x _ _ this hx (hT.put h2 (.raw undef J)) hF
    . cases hL
theorem aQi {x : Cx} (hx : Inv x) {j ver off len : Nat} (hl : (x.H j).live = true) (hv : (x.H j).ver = ver) {c : Value} (hr : R x (.ms j ver off len) c) :
    R {x with Z:=λb=>x.Z b\/((x.H j).own=true/\b=x.σ j),H:=mF j x.H} (.sl (((x.H j).rows.drop off).take len)) c:=by
  have hf:=(vL hx j).2;cases hr with
  | ms _ _ _ _ b m cap hv' hh hm =>
    obtain ⟨e1,e2,e3,e4,e5,e6⟩:=hh hv hl;subst e1;have hlen:(((x.H j).rows.drop off).take m).length=m:=by simp; omega
    cases ho:(x.H j).own with
    | false =>
      simp_all [R.sl0]
    | true =>
      obtain ⟨e7,e8⟩:=e5 ho;subst e7;obtain ⟨cc,h1,h2,h3,h4⟩:=hx.cel j ho<|hm hv hl
      have hidx: ∀ (r:Nat) (row:List V),(((x.H j).rows.drop off).take m)[r]?=some row->(x.H j).rows[off+r]?=some row:=by
        grind
      have key:=R.sl (x:={x with Z:=λb=>x.Z b\/((x.H j).own=true/\b=x.σ j),H:=mF j x.H}) (((x.H j).rows.drop off).take m) ⟨x.σ j,off*(x.H j).sz,none⟩ cap (x.H j).sz
        (λk=>cc.getD (off*(x.H j).sz+k) undef) OM e3 (λ_=>.inr ⟨ho,J⟩) (λr hr=>h2 r<|List.mem_of_mem_drop<|List.mem_of_mem_take hr)
        (λr row q v hr hj=>by
          have h8:=hidx _ _ hr;have h9:=(iH h2 h3 h8 hj).1
          grind [Addr.add_lit,lL])
        (λr row q v hr hj=>by
          have h8:=hidx _ _ hr;have h10:=h4 _ _ _ _ h8 hj;rw [show (off+r)*(x.H j).sz+q=off*(x.H j).sz+(r*(x.H j).sz+q) by rw [Nat.add_mul]; omega] at h10;exact h10.frame hx hf)
      rw [hlen,ho] at key;exact key
theorem aAD {x : Cx} (hx : Inv x) {id row off : Nat} {u : V} {r : List V} (ho : (x.H id).own = true) (hr : (x.H id).rows[row]? = some r) (hc : off < r.length)
    {cc:Array Value} (h1:x.w.heap[x.σ id]?=some ((x.H id).obj cc)) (h2: ∀ r∈(x.H id).rows,r.length=(x.H id).sz) (h3:(x.H id).rows.length*(x.H id).sz<=cc.size)
    (h4: ∀ (r:Nat) (row:List V) (j:Nat) (v:V),(x.H id).rows[r]?=some row->row[j]?=some v->R x v (cc.getD (r*(x.H id).sz+j) undef)) (hu:R x u (cc.getD (row*(x.H id).sz+off) undef)):
    let y:Cx:={x with H:=cU x.H id {x.H id with rows:=(x.H id).rows.set row (r.set off u)}}
    Inv y/\Frame x y:=by
  have hrow:row < (x.H id).rows.length:=(List.getElem?_eq_some_iff.1 hr).1;have hrl:r.length=(x.H id).sz:=h2 r<|List.mem_of_getElem? hr
  refine aOe hx id ho _ SI (λq hq=>?_) cc h1 h3 λq qrow j w hq hj=>?_
  . rcases List.mem_or_eq_of_mem_set hq with hq|hq
    . exact h2 q hq
    . rw [hq]; simpa using hrl
  . by_cases hqr:q=row
    . subst hqr
      rw [List.getElem?_set_self hrow] at hq;cases hq;by_cases hjo:j=off
      . subst hjo
        rw [List.getElem?_set_self hc] at hj;cases hj;exact hu
      . rw [List.getElem?_set_ne (Ne.symm hjo)] at hj
        exact h4 q r j w hr hj
    . rw [List.getElem?_set_ne (Ne.symm hqr)] at hq
      exact h4 q qrow j w hq hj
theorem aEs {D : List Deferred} {n : Nat} {x0 : Cx} {K : (Nat -> V) -> aT -> Prop} {a : Act} {T : Nat -> V} {H : aT} (h : G K T H) :
    ∀ (x:Cx),x.H=H->Inv x->TRel D n x T a->Frame x0 x-> ∃ T' y,y.w=x.w/\K T' y.H/\Inv y/\TRel D n y T' a/\Frame x0 y:=by
  induction h with
  |done h=>grind
  | freeze id _ ih =>
    rename_i T H _;intro x hH hx hT hF;subst hH;obtain ⟨hI,hf⟩:=vL hx id;refine ih {x with Z:=λb=>x.Z b\/((x.H id).own=true/\b=x.σ id),H:=mF id x.H} rfl hI ⟨λi=>?_,hT.defers,hT.size⟩<|hF.trans hf
    . have hr := hT.tmps i
      have hd:=hr.frame hx hf;simp only [fzT];split
      . rename_i j ver off len hTi
        split
        . rename_i hc
          obtain ⟨rfl,hl,hv⟩:=hc;rw [hTi] at hr;generalize hcv:a.tmps.getD i undef=c at hr;cases hr with
          | ms _ _ _ _ b m cap hv' hh hm' =>
            obtain ⟨e1,e2,e3,e4,e5,e6⟩:=hh hv hl;subst e1;have hlen:(((x.H j).rows.drop off).take m).length=m:=by simp; omega
            cases ho:(x.H j).own with
            | false =>
              simp_all [R.sl0]
            | true =>
              obtain ⟨e7,e8⟩:=e5 ho;subst e7;obtain ⟨cc,h1,h2,h3,h4⟩:=hx.cel j ho<|hm' hv hl
              have hidx: ∀ (r:Nat) (row:List V),(((x.H j).rows.drop off).take m)[r]?=some row->(x.H j).rows[off+r]?=some row:=by
                grind
              have key:=R.sl (x:={x with Z:=λb=>x.Z b\/((x.H j).own=true/\b=x.σ j),H:=mF j x.H}) (((x.H j).rows.drop off).take m) ⟨x.σ j,off*(x.H j).sz,none⟩ cap (x.H j).sz
                (λk=>cc.getD (off*(x.H j).sz+k) undef) OM e3 (λ_=>.inr ⟨ho,J⟩) (λr hr=>h2 r<|List.mem_of_mem_drop<|List.mem_of_mem_take hr)
                (λr row q v hr hj=>by
                  have h8:=hidx _ _ hr;have h9:=(iH h2 h3 h8 hj).1
                  grind [Addr.add_lit,lL])
                (λr row q v hr hj=>by
                  have h8:=hidx _ _ hr;have h10:=h4 _ _ _ _ h8 hj;rw [show (off+r)*(x.H j).sz+q=off*(x.H j).sz+(r*(x.H j).sz+q) by rw [Nat.add_mul]; omega] at h10;exact h10.frame hx hf)
              rw [hlen,ho] at key;exact key
        . exact hd
      . exact hd
  | freezeP id i ver row off r ht hv ho hr _ ih =>
    rename_i T H _;intro x hH hx hT hF;subst hH;obtain ⟨hI,hf⟩:=vL hx id;refine ih {x with Z:=λb=>x.Z b\/((x.H id).own=true/\b=x.σ id),H:=mF id x.H} rfl hI ⟨λk=>?_,hT.defers,hT.size⟩<|hF.trans hf
    by_cases hk:k=i
    . subst hk
      rw [aR];have h0:=hT.tmps k;rw [ht] at h0;generalize hcv:a.tmps.getD k undef=c at h0;cases h0 with
      | mp _ _ _ _ p hv' hh hm =>
        have hp:=hh hv ho;subst hp;obtain ⟨cc,h1,h2,h3,h4⟩:=hx.cel id ho<|hm hv ho
        refine .pp (r.drop off) _ (λk=>cc.getD (row*(x.H id).sz+off+k) undef) (λ_=>.inr ⟨ho,J⟩) (λj v hj=>?_) (λj v hj=>?_)
        . grind [iH,Addr.add_lit,lL]
        . rw [List.getElem?_drop] at hj
          have h10:=h4 _ _ _ _ hr hj;rw [<- Nat.add_assoc] at h10;exact h10.frame hx hf
    . rw [bT _ _ hk]
      exact (hT.tmps k).frame hx hf
  | lazyCell id' ty sz id row off r hne ho hr hc _ hty ih =>
    rename_i T H _;intro x hH hx hT hF;subst hH;obtain ⟨hI,hf,hR⟩:=mN hx id' ty sz hty;have hHid:cU x.H id' ⟨(x.H id').ver+1,true,true,ty,sz,[]⟩ id=x.H id:=bT _ _<|Ne.symm hne
    obtain ⟨cc,h1,h2,h3,h4⟩:=hx.blk id ho
    have st:=aAD hI (id:=id) (row:=row) (off:=off) (u:=.ms id' ((x.H id').ver+1) 0 0) (r:=r) (by simp only [hHid]; exact ho) (by simp only [hHid]; exact hr) (List.getElem?_eq_some_iff.1 hc).1
      (cc:=cc) (by simp only [hHid]; exact h1) (by simp only [hHid]; exact h2) (by simp only [hHid]; exact h3) (by simp only [hHid]; exact λr row j v hr hj=>(h4 r row j v hr hj).frame hx hf) (by
        simp only [hHid];have:=h4 row r off .nilsl hr hc;generalize cc.getD (row*(x.H id).sz+off) undef=cv at this ⊢;cases this;exact hR _)
    simp only [hHid] at st;obtain ⟨sI,sF⟩:=st
    obtain ⟨T',y,y1,y2⟩:=ih {x with H:=cU (cU x.H id' ⟨(x.H id').ver+1,true,true,ty,sz,[]⟩) id {x.H id with rows:=(x.H id).rows.set row (r.set off (.ms id' ((x.H id').ver+1) 0 0))}}
      rfl sI ((hT.frame hx hf).frame hI sF) ((hF.trans hf).trans sF)
    exact ⟨T',y,y1,y2⟩
  | frzCell id ver len id2 row off r hne hl hv ho hr hc _ ih =>
    rename_i T H _;intro x hH hx hT hF;subst hH;obtain ⟨hI0,hf0⟩:=vL hx id;generalize hy:({x with Z:=λb=>x.Z b\/((x.H id).own=true/\b=x.σ id),H:=mF id x.H}:Cx)=y;have hI:Inv y:=by rw [<- hy]; exact hI0
    have hf:Frame x y:=by rw [<- hy]; exact hf0
    have gN:y.H=mF id x.H:=by rw [<- hy]
    have hk:y.H id2=x.H id2:=by rw [gN]; exact bT _ _ hne
    have hys:y.σ=x.σ:=by rw [<- hy]
    have hyw:y.w=x.w:=by rw [<- hy]
    obtain ⟨dd,h1,h2,h3,h4⟩:=hx.blk id2 ho
    have st:=aAD hI (id:=id2) (row:=row) (off:=off) (u:=.sl ((x.H id).rows.take len)) (r:=r) (by rw [hk]; exact ho) (by rw [hk]; exact hr) (List.getElem?_eq_some_iff.1 hc).1
      (cc:=dd) (by rw [hyw,hys,hk]; exact h1) (by rw [hk]; exact h2) (by rw [hk]; exact h3) (by rw [hk]; exact λr row j v hr hj=>(h4 r row j v hr hj).frame hx hf) (by
        have:=aQi hx hl hv<|h4 row r off _ hr hc
        rw [hy] at this;rw [hk];simpa using this)
    obtain ⟨sI,sF⟩:=st;have hfin:=ih {y with H:=cU y.H id2 {y.H id2 with rows:=(y.H id2).rows.set row (r.set off (.sl ((x.H id).rows.take len)))}} (by rw [hk,gN]) sI ⟨λi=>?_,hT.defers,hT.size⟩<|(hF.trans hf).trans sF
    . obtain ⟨T',z,z1,z2⟩:=hfin
      exact ⟨T',z,z1.trans hyw,z2⟩
    have hr':=hT.tmps i;refine R.frame hI sF ?_;simp only [fzT];split
    . rename_i j ver' off' len' hTi
      split
      . rename_i hc'
        obtain ⟨rfl,hl',hv'⟩:=hc';rw [hTi] at hr';rw [<- hy];exact aQi hx hl' hv' hr'
      . exact hr'.frame hx hf
    . exact hr'.frame hx hf
  | slot i u hu _ ih =>
    intro x hH hx hT hF;refine ih x hH hx ⟨λj=>?_,hT.defers,hT.size⟩ hF;by_cases e:j=i
    . subst e; rw [aR]; exact hu x _ hH hx<|hT.tmps j
    . rw [bT _ _ e]; exact hT.tmps j
  | cell id row off v u r ho hr hc hu _ ih =>
    rename_i T H _;intro x hH hx hT hF;subst hH;obtain ⟨cc,h1,h2,h3,h4⟩:=hx.blk id ho;obtain ⟨sI,sF⟩:=aAD hx (id:=id) (row:=row) (off:=off) (u:=u) (r:=r) ho hr (List.getElem?_eq_some_iff.1 hc).1 h1 h2 h3 h4 (hu x _<|h4 row r off v hr hc);obtain ⟨T',y,y1,y2⟩:=ih {x with H:=cU x.H id {x.H id with rows:=(x.H id).rows.set row (r.set off u)}} rfl sI (hT.frame hx sF)<|hF.trans sF
    exact ⟨T',y,y1,y2⟩
end
end Go.Proofs.YtinpihlhcmpkhaaGreat


namespace Go.Proofs.YtinpihlhcmpkhaaGreat
open Go
def SX.ts:SX->List Nat
  | .t n=>[n]
  | .c _=>[]
def xD:List SX->List Nat
  |[]=>[]
  |s::l=>s.ts++xD l
def aK0:Option SX->List Nat
  |some s=>s.ts
  |none=>[]
def X.ts:X->List Nat
  | .mv a=>a.ts
  | .lazy _ _=>[]
  | .pick c a b=>c.ts++(a.ts++b.ts)
  | .alloc _ _=>[]
  | .box _ _ a=>a.ts
  | .build _ ps=>xD (ps.map λp=>p.2.2)
  | .bslice _ _ _ _ _ ps=>xD (ps.map λp=>p.2)
  | .load _ _ a=>a.ts
  | .ldp _ _ a=>a.ts
  | .store _ a b=>a.ts++b.ts
  | .bin _ a b=>a.ts++b.ts
  | .sbin _ a b=>a.ts++b.ts
  | .bbin _ a b=>a.ts++b.ts
  | .abin _ _ a b=>a.ts++b.ts
  | .un _ a=>a.ts
  | .conv _ a=>a.ts
  | .fld _ a=>a.ts
  | .part _ _ _ a=>a.ts
  | .idx _ a b=>a.ts++b.ts
  | .sidx a b=>a.ts++b.ts
  | .aidx _ _ _ a b=>a.ts++b.ts
  | .apos _ _ a b=>a.ts++b.ts
  | .slice _ a lo hi=>a.ts++(aK0 lo++aK0 hi)
  | .sslice a lo hi=>a.ts++(aK0 lo++aK0 hi)
  | .mks _ _ _ _ l c=>l.ts++c.ts
  | .ext a _=>a.ts
  | .mkf _ cs=>xD cs
  | .bstr a=>a.ts
  | .mkm _ a b=>xD a++xD b
  | .mki _ a=>a.ts
  | .tas _ a=>a.ts
  | .nilck a=>a.ts
  | .len a=>a.ts
  | .clr _ a=>a.ts
  | .cpy _ a b=>a.ts++b.ts
  | .slen a=>a.ts
  | .mn a b=>a.ts++b.ts
  | .mn3 a b c=>a.ts++b.ts++c.ts
  | .mx a b=>a.ts++b.ts
  | .append _ _ _ a b=>a.ts++b.ts
  | .call _ _ us=>xD us
  | .callA _ us=>xD us
  | .callv _ g us=>g.ts++xD us
  | .isnil _ a=>a.ts
  | .mkmap=>[]
  | .mlook _ _ _ a b=>a.ts++b.ts
  | .mset _ a b c=>a.ts++(b.ts++c.ts)
  | .mlen a=>a.ts
  | .bad=>[]
section
variable {P:Program} {id:Nat} {T T':Nat->V} {H:aT} {k:V->aT->Prop}
theorem jF {s:SX} (h: ∀ t∈s.ts,T t=T' t):ev T s=ev T' s:=by cases s <;> simp_all [SX.ts]
theorem oI {l:List SX} (h: ∀ t∈xD l,T t=T' t):uF T l=uF T' l:=by induction l <;> grind [uF,jF,xD]
theorem vN {o:Option SX} (h: ∀ t∈aK0 o,T t=T' t):o.map (ev T)=o.map (ev T'):=by cases o <;> grind [jF,aK0]
theorem aFw {ps:List (Nat×Nat×SX)} (h: ∀ t∈xD (ps.map λp=>p.2.2),T t=T' t):(ps.map λp=>(p.1,p.2.1,ev T p.2.2))=ps.map λp=>(p.1,p.2.1,ev T' p.2.2):=by induction ps <;> grind [jF,xD]
theorem aEc {ps:List (Nat×SX)} (h: ∀ t∈xD (ps.map λp=>p.2),T t=T' t):(ps.map λp=>(p.1,ev T p.2))=ps.map λp=>(p.1,ev T' p.2):=by induction ps <;> grind [jF,xD]
theorem aB4 {x:X} (h: ∀ t∈x.ts,T t=T' t) (hst:St P id x T H k):St P id x T' H k:=by
  have two: ∀ {a b:SX},(∀ t∈a.ts++b.ts,T t=T' t)->ev T a=ev T' a/\ev T b=ev T' b:=λh=>
    ⟨jF λt ht=>h t (List.mem_append_left _ ht),jF λt ht=>h t<|List.mem_append_right _ ht⟩
  cases x <;> simp only [X.ts] at h <;> simp only [St] at hst ⊢
  case lazy=>exact hst
  case alloc=>exact hst
  case mkmap=>exact hst
  case mset kd a b c=>
    rw [<- jF (T:=T) (T':=T') (s:=a) λt ht=>h t (List.mem_append_left _ ht)];obtain ⟨h1,h2⟩:=two λt ht=>h t<|List.mem_append_right _ ht
    rw [<- h1,<- h2]; exact hst
  case pick c a b=>
    rw [<- jF (T:=T) (T':=T') (s:=c) λt ht=>h t (List.mem_append_left _ ht)];obtain ⟨h1,h2⟩:=two λt ht=>h t<|List.mem_append_right _ ht
    rw [<- h1,<- h2]; exact hst
  case build=>rw [<- aFw h]; exact hst
  case bslice=>rw [<- aEc h]; exact hst
  case slice e a lo hi=>
    rw [<- jF (T:=T) (T':=T') (s:=a) λt ht=>h t (List.mem_append_left _ ht),<- vN (T:=T) (T':=T') (o:=lo) λt ht=>h t (List.mem_append_right _<|List.mem_append_left _ ht),
      <- vN (T:=T) (T':=T') (o:=hi) λt ht=>h t (List.mem_append_right _<|List.mem_append_right _ ht)]
    exact hst
  case sslice a lo hi=>
    rw [<- jF (T:=T) (T':=T') (s:=a) λt ht=>h t (List.mem_append_left _ ht),<- vN (T:=T) (T':=T') (o:=lo) λt ht=>h t (List.mem_append_right _<|List.mem_append_left _ ht),
      <- vN (T:=T) (T':=T') (o:=hi) λt ht=>h t (List.mem_append_right _<|List.mem_append_right _ ht)]
    exact hst
  case mn3 a b c=>
    obtain ⟨h1,h2⟩:=two λt ht=>h t<|List.mem_append_left _ ht
    rw [<- h1,<- h2,<- jF (T:=T) (T':=T') (s:=c) λt ht=>h t (List.mem_append_right _ ht)]; exact hst
  case mkf=>rw [<- oI h]; exact hst
  case mkm a b=>rw [<- oI (T:=T) (T':=T') (l:=a) λt ht=>h t (List.mem_append_left _ ht),<- oI (T:=T) (T':=T') (l:=b) λt ht=>h t (List.mem_append_right _ ht)]; exact hst
  case call=>rw [<- oI h]; exact hst
  case callA=>rw [<- oI h]; exact hst
  case callv e g us=>
    rw [<- jF (T:=T) (T':=T') (s:=g) λt ht=>h t (List.mem_append_left _ ht),<- oI (T:=T) (T':=T') (l:=us) λt ht=>h t (List.mem_append_right _ ht)];exact hst
  all_goals (grind)
theorem aDW {e:Bool} {f:Nat} {args:List V} (h:zP P e f args H k): ∃ v H',k v H'/\zP P e f args H λa b=>a=v/\b=H':=by
  cases e with
  |false=>obtain ⟨v,h1,h2⟩:=h; exact ⟨v,H,h2,v,h1,rfl,rfl⟩
  |true=>obtain ⟨v,H',h1,h2⟩:=h; exact ⟨v,H',h2,v,H',h1,rfl,rfl⟩
theorem aCe {x:X} (hN:x.cls≠.N) (h:St P id x T H k): ∃ v H',k v H'/\St P id x T H λa b=>a=v/\b=H':=by
  cases x <;> simp only [St,bW] at h ⊢
  case isnil=>exact absurd J hN
  case call=>exact aDW h
  case callA=>
    obtain ⟨v,b,h1,h2,h3⟩:=h;exact ⟨_,_,h3,v,b,h1,h2,J,J⟩
  case callv=>
    split at h
    . exact aDW h
    . exact h.elim
  all_goals (grind)
theorem aQI {x:X} (hc:x.cls=.I) {v:V} {H1:aT} (h:St P id x T H λa b=>a=v/\b=H1):H1=H/\ ∀ H2,St P id x T H2 λa b=>a=v/\b=H2:=by
  cases x <;> simp only [X.cls] at hc <;> try (cases hc; done)
  case bslice ty esz own z len ps=>cases own <;> cases hc
  case call e f args=>cases e <;> cases hc
  case callv e f args=>cases e <;> cases hc
  all_goals (grind [St,bW])
theorem aHT {H H':aT} (h:Ext H H') {i ver:Nat} (ho:ok H i ver=true):ok H' i ver=true/\H' i=H i:=by
  have e:=h i<|iK (okp ho).1
  grind [ok]
theorem aLh {H H':aT} (h:Ext H H') {i ver:Nat} (ho:((H i).live&&decide ((H i).ver=ver))=true):((H' i).live&&decide ((H' i).ver=ver))=true/\H' i=H i:=by
  have hl:(H i).live=true:=by simp at ho; exact ho.1
  have e:=h i hl;exact ⟨by rw [e]; exact ho,e⟩
theorem aOI {H H':aT} (h:Ext H H') {u:V} {cs:List V} (hp:ptr H u=some cs):ptr H' u=some cs:=by
  unfold ptr at hp ⊢
  grind [aHT]
theorem aPr {H H':aT} (h:Ext H H') {e:Nat} {u i r:V} (hp:xQ H e u i=some r):xQ H' e u i=some r:=by
  unfold xQ at hp ⊢
  grind [aHT]
theorem aPp {H H':aT} (h:Ext H H') {u r:V} (hp:aG1 H u=some r):aG1 H' u=some r:=by
  unfold aG1 at hp ⊢;split at hp
  . exact hp
  . exact hp
  . split at hp
    . rename_i ho
      obtain ⟨h1,h2⟩:=aLh h ho;simp only [h1,if_true]; exact hp
    . cases hp
  . cases hp
theorem aKh {H H':aT} (h:Ext H H') {e:Nat} {lo hi:Option V} {u r:V} (hp:oX H e lo hi u=some r):oX H' e lo hi u=some r:=by
  unfold oX at hp ⊢;split at hp <;> grind [zC,aHT]
theorem Ext.trans {A B C:aT} (h:Ext A B) (k:Ext B C):Ext A C:=λid hl=>by
  have e:=h id hl;rw [k id (by rw [e]; exact hl),e]
theorem aDu {H H1:aT} {f:Nat} {args:List V} {v:V} (h:zP P false f args H λa b=>a=v/\b=H1):H1=H/\ ∀ H2,Ext H H2->zP P false f args H2 λa b=>a=v/\b=H2:=by
  obtain ⟨u,h1,h2,h3⟩:=h;exact ⟨h3.symm,λH2 he=>⟨u,λH3 h4=>h1 H3 (he.trans h4),h2,J⟩⟩
theorem aSf {x:X} (hc:x.cls=.D) {v:V} {H1:aT} (h:St P id x T H λa b=>a=v/\b=H1):H1=H/\ ∀ H2,Ext H H2->St P id x T H2 λa b=>a=v/\b=H2:=by
  cases x <;> simp only [X.cls] at hc <;> try (cases hc; done)
  case bslice ty esz own z len ps=>
    cases own
    . simp only [St,bW,Bool.false_eq_true,if_false] at h
      obtain ⟨r,h1,h2,h3⟩:=h;refine ⟨h3.symm,λH2 _=>?_⟩;simp only [St,bW,Bool.false_eq_true,if_false];exact ⟨r,h1,h2,trivial⟩
    . cases hc
  case call e f args=>
    cases e
    . exact aDu h
    . cases hc
  case callv e f args=>
    cases e
    . simp only [St] at h ⊢
      split at h
      . exact aDu h
      . exact h.elim
    . cases hc
  case load g n a=>
    simp only [St,bW] at h;obtain ⟨r,h1,h2,h3⟩:=h;refine ⟨h3.symm,λH2 he=>?_⟩;simp only [St,bW];obtain ⟨cs,h4,h5⟩:=zC h1;exact ⟨r,by rw [aOI he h4]; exact h5,h2,trivial⟩
  all_goals (grind [St,bW,aPr,aKh,aPp])
theorem aRe {x:X} (hc:x.cls=.A) {v:V} {H1:aT} (h:St P id x T H λa b=>a=v/\b=H1):
    H1=cU H id (H1 id)/\(H1 id).live=true/\ ∀ H2,H2 id=H id->St P id x T H2 λa b=>a=v/\b=cU H2 id (H1 id):=by
  cases x <;> simp only [X.cls] at hc <;> try (cases hc; done)
  case call e f args=>cases e <;> cases hc
  case callv e f args=>cases e <;> cases hc
  case bslice ty esz own z len ps=>
    cases own
    . cases hc
    . simp only [St,bW,if_true] at h
      obtain ⟨r,h1,h2,rfl⟩:=h;refine ⟨by rw [aR],by rw [aR],λH2 he=>?_⟩;simp only [St,bW,if_true,aR,he];exact ⟨r,h1,h2,J⟩
  case callA f args=>
    simp only [St] at h;obtain ⟨v',b,h1,h2,h3,rfl⟩:=h;refine ⟨by rw [aR],by rw [aR]; exact h1,λH2 he=>?_⟩;simp only [St,aR];exact ⟨v',b,h1,λH3 h4=>h2 H3 (h4.trans he),h3,J⟩
  case mks=>
    simp only [St,bW] at h;obtain ⟨r,h1,h2,rfl⟩:=h;refine ⟨by rw [aR],by rw [aR],λH2 he=>?_⟩;simp only [St,bW,aR,he];exact ⟨r,h1,h2,J⟩
  all_goals
    simp only [St] at h;obtain ⟨h2,rfl⟩:=h;refine ⟨by rw [aR],by rw [aR],λH2 he=>?_⟩;simp only [St,aR,he];exact ⟨h2,trivial⟩
end
end Go.Proofs.YtinpihlhcmpkhaaGreat


namespace Go.Proofs.YtinpihlhcmpkhaaGreat
open Go
structure Rec where
  i:Nat
  s:SO
  T:Nat->V
  H:aT
  v:V
  H':aT
  taken:Bool
section
variable {P:Program} {k0:Nat}
def Rec.id (k0:Nat) (r:Rec):Nat:=k0+r.s.d.getD 0
def Rec.OK (P:Program) (k0:Nat) (r:Rec):Prop:=
  match r.s.g with
  |none=>r.taken=true/\St P (r.id k0) r.s.x r.T r.H λa b=>a=r.v/\b=r.H'
  |some (t,want)=> ∃ b:Bool,gd want (r.T t)=b/\((b=true/\r.taken=true/\St P (r.id k0) r.s.x r.T r.H λa b=>a=r.v/\b=r.H')\/(b=false/\r.taken=false/\r.v=.raw undef/\r.H'=r.H))
def aDR (P:Program) (k0:Nat) (K:(Nat->V)->aT->Prop):List Rec->(Nat->V)->aT->Prop
  |[],T,H=>K T H
  |r::l,T,H=>r.T=T/\r.H=H/\r.OK P k0/\aDR P k0 K l (jJ T r.s.d r.v) r.H'
theorem yM {K : (Nat -> V) -> aT -> Prop} : ∀ (l : List (Nat × SO)) (T : Nat -> V) (H : aT), (∀ q ∈ l, q.2.x.cls ≠ .N) -> dE P k0 (l.map (·.2)) T H K -> ∃ rs : List Rec, rs.map (λr => (r.i, r.s)) = l /\ aDR P k0 K rs T H
  |[],T,H,_,h=>⟨[],rfl,h⟩
  | (i, s) :: l, T, H, hN, h => by
    have hs:s.x.cls≠.N:=hN (i,s)<|List.mem_cons_self ..
    have hl: ∀ q∈l,q.2.x.cls≠.N:=λq hq=>hN q<|List.mem_cons_of_mem _ hq
    simp only [List.map_cons,dE] at h;split at h
    . rename_i hg
      obtain ⟨v,H',h1,h2⟩:=aCe hs h;obtain ⟨rs,h3,h4⟩:=yM l _ _ hl h1;exact ⟨⟨i,s,T,H,v,H',true⟩::rs,by simp [h3],J,J,by simp only [Rec.OK,hg]; exact ⟨trivial,h2⟩,h4⟩
    . rename_i t want hg
      obtain ⟨h2,h3⟩:=h;cases hb:gd want (T t)
      case true=>
        obtain ⟨v,H',h4,h5⟩:=aCe hs<|h2 hb
        obtain ⟨rs,h6,h7⟩:=yM l _ _ hl h4;exact ⟨⟨i,s,T,H,v,H',true⟩::rs,by simp [h6],J,J,by simp only [Rec.OK,hg]; exact ⟨_,hb,.inl ⟨J,trivial,h5⟩⟩,h7⟩
      case false=>
        obtain ⟨rs,h6,h7⟩:=yM l _ _ hl<|h3 hb
        exact ⟨⟨i,s,T,H,.raw undef,H,false⟩::rs,by simp [h6],J,J,by simp only [Rec.OK,hg]; exact ⟨_,hb,.inr ⟨J,trivial,trivial,trivial⟩⟩,h7⟩
def Rec.eff (k0 : Nat) (r : Rec) (H : aT) : aT :=
  if r.taken then match r.s.x.cls with
    | .E=>r.H'
    | .A=>cU H (r.id k0) (r.H' (r.id k0))
    |_=>H
  else H
theorem Rec.st {r:Rec} (h:r.OK P k0) (ht:r.taken=true):St P (r.id k0) r.s.x r.T r.H λa b=>a=r.v/\b=r.H':=by
  unfold Rec.OK at h;split at h
  . exact h.2
  . obtain ⟨b,_,h|h⟩:=h
    . exact h.2.2
    . rw [ht] at h; cases h.2.1
theorem Rec.eff_self {r:Rec} (hN:r.s.x.cls≠.N) (h:r.OK P k0):r.eff k0 r.H=r.H':=by
  unfold Rec.eff;cases ht:r.taken with
  | false =>
    unfold Rec.OK at h;split at h
    . rw [ht] at h; cases h.1
    . obtain ⟨b,_,h|h⟩:=h
      . rw [ht] at h; cases h.2.1
      . simp [h.2.2.2]
  | true =>
    have hst:=r.st h ht;simp only [if_true];cases hc:r.s.x.cls with
    |I=>exact (aQI hc hst).1.symm
    |D=>exact (aSf hc hst).1.symm
    |A=>exact (aRe hc hst).1.symm
    |E=>rfl
    |N=>exact absurd hc hN
def TS (S:Nat->Bool) (T:Nat->V) (rs:List Rec):Nat->V:=rs.foldl (λT r=>if S r.i then jJ T r.s.d r.v else T) T
def HS (k0:Nat) (S:Nat->Bool) (H:aT) (rs:List Rec):aT:=rs.foldl (λH r=>if S r.i then r.eff k0 H else H) H
theorem kY (S:Nat->Bool) (T:Nat->V) (a b:List Rec):TS S T (a++b)=TS S (TS S T a) b:=by simp [TS]
theorem oO (S:Nat->Bool) (H:aT) (a b:List Rec):HS k0 S H (a++b)=HS k0 S (HS k0 S H a) b:=by simp [HS]
theorem kB {K:(Nat->V)->aT->Prop}: ∀ (a b:List Rec) (T:Nat->V) (H:aT),(∀ r∈a,r.s.x.cls≠.N)->aDR P k0 K (a++b) T H->aDR P k0 K b (TS (λ_=>true) T a) (HS k0 (λ_=>true) H a)/\(∀ r∈a,r.OK P k0)
  |[],b,T,H,_,h=>⟨h,λr hr=>by cases hr⟩
  | r :: a, b, T, H, hN, h => by
    obtain ⟨h1,h2,h3,h4⟩:=h;obtain ⟨h5,h6⟩:=kB a b _ _ (λq hq=>hN q<|List.mem_cons_of_mem _ hq) h4;refine ⟨?_,λq hq=>?_⟩
    . simp only [TS,HS,List.foldl_cons,if_true]
      rw [<- h2,Rec.eff_self (hN r<|List.mem_cons_self ..) h3];exact h5
    . rcases List.mem_cons.1 hq with rfl|hq
      . exact h3
      . exact h6 q hq
theorem aCx (S:Nat->Bool) (t:Nat): ∀ (rs:List Rec) (T:Nat->V),(∀ r∈rs,S r.i=true->r.s.d≠some t)->TS S T rs t=T t
  |[],T,_=>rfl
  | r :: rs, T, h => by
    simp only [TS,List.foldl_cons];have ih:=aCx S t rs (if S r.i then jJ T r.s.d r.v else T) λq hq=>h q<|List.mem_cons_of_mem _ hq
    simp only [TS] at ih;rw [ih];split
    . rename_i hs
      have:=h r (List.mem_cons_self ..) hs;cases hd:r.s.d with
      |none=>rfl
      |some d=>rw [hd] at this; simp only [jJ]; exact bT _ _ λe=>this (by rw [e])
    . rfl
theorem uN (S S' : Nat -> Bool) : ∀ (rs : List Rec) (T T' : Nat -> V) (t : Nat), T t = T' t -> (∀ r ∈ rs, r.s.d = some t -> S r.i = S' r.i) -> TS S T rs t = TS S' T' rs t
  |[],T,T',t,h,_=>h
  | r :: rs, T, T', t, h, hs => by
    simp only [TS,List.foldl_cons];have ih:=uN S S' rs (if S r.i then jJ T r.s.d r.v else T) (if S' r.i then jJ T' r.s.d r.v else T') t ?_ λq hq=>hs q<|List.mem_cons_of_mem _ hq
    . simpa only [TS] using ih
    . by_cases hd:r.s.d=some t
      . rw [hs r (List.mem_cons_self ..) hd]
        split
        . rw [hd]; simp [jJ,aR]
        . exact h
      . have keep: ∀ (U:Nat->V),jJ U r.s.d r.v t=U t:=λU=>by
          cases hq:r.s.d with
          |none=>rfl
          |some d=>rw [hq] at hd; simp only [jJ]; exact bT _ _ λe=>hd (by rw [e])
        have e1:(if S r.i then jJ T r.s.d r.v else T) t=T t:=by split <;> simp [keep]
        have e2:(if S' r.i then jJ T' r.s.d r.v else T') t=T' t:=by split <;> simp [keep]
        rw [e1,e2]; exact h
theorem aHi (S:Nat->Bool): ∀ (rs:List Rec) (H:aT),(∀ r∈rs,S r.i=false-> ∀ G,r.eff k0 G=G)->HS k0 S H rs=HS k0 (λ_=>true) H rs
  |[],H,_=>rfl
  | r :: rs, H, h => by
    simp only [HS,List.foldl_cons,if_true];have ih:=λG=>aHi S rs G λq hq=>h q<|List.mem_cons_of_mem _ hq
    simp only [HS,if_true] at ih;cases hs:S r.i with
    |true=>simp only [if_true]; exact ih _
    | false =>
      simp only [Bool.false_eq_true,if_false];rw [h r (List.mem_cons_self ..) hs];exact ih _
theorem vC (S:Nat->Bool): ∀ (rs:List Rec) (H:aT),(∀ r∈rs,S r.i=true-> ∀ G,r.eff k0 G=G)->HS k0 S H rs=H
  |[],H,_=>rfl
  | r :: rs, H, h => by
    simp only [HS,List.foldl_cons];have ih:=λG=>vC S rs G λq hq=>h q<|List.mem_cons_of_mem _ hq
    simp only [HS] at ih;cases hs:S r.i with
    |true=>simp only [if_true]; rw [h r (List.mem_cons_self ..) hs]; exact ih _
    |false=>simp only [Bool.false_eq_true,if_false]; exact ih _
theorem aFC (S S' : Nat -> Bool) (id : Nat) : ∀ (rs : List Rec) (H H' : aT), H id = H' id -> (∀ r ∈ rs, (∀ G, r.eff k0 G = G) \/ (∃ b, ∀ G, r.eff k0 G = cU G (r.id k0) b) /\ r.id k0 ≠ id \/ S r.i = true /\ S' r.i = true /\ ∃ C, ∀ G, r.eff k0 G = C) ->
    HS k0 S H rs id=HS k0 S' H' rs id
  |[],H,H',h,_=>h
  | r :: rs, H, H', h, hr => by
    simp only [HS,List.foldl_cons];have ih:=aFC S S' id rs (if S r.i then r.eff k0 H else H) (if S' r.i then r.eff k0 H' else H') ?_ λq hq=>hr q<|List.mem_cons_of_mem _ hq
    . simpa only [HS] using ih
    . rcases hr r (List.mem_cons_self ..) with h1|⟨⟨b,h1⟩,h2⟩|⟨h1,h2,C,h3⟩
      . simp only [h1,ite_self]; exact h
      . have e1: ∀ (c:Bool) (G:aT),(if c then cU G (r.id k0) b else G) id=G id:=λc G=>by
          cases c <;> simp [bT _ _ (Ne.symm h2)]
        simp only [h1,e1]; exact h
      . simp only [h1,h2,if_true,h3]
theorem aLH (S : Nat -> Bool) (id : Nat) (b : Blk) : ∀ (rs : List Rec) (H : aT), (∀ r ∈ rs, S r.i = true -> (∀ G, r.eff k0 G = G) \/ (∃ c, ∀ G, r.eff k0 G = cU G (r.id k0) c) /\ r.id k0 ≠ id) ->
    HS k0 S (cU H id b) rs=cU (HS k0 S H rs) id b
  |[],H,_=>rfl
  | r :: rs, H, h => by
    simp only [HS,List.foldl_cons];have ih:=λG=>aLH S id b rs G λq hq=>h q<|List.mem_cons_of_mem _ hq
    simp only [HS] at ih;cases hs:S r.i with
    |false=>simp only [Bool.false_eq_true,if_false]; exact ih _
    | true =>
      simp only [if_true];rcases h r (List.mem_cons_self ..) hs with h1|⟨⟨c,h1⟩,h2⟩
      . rw [h1,h1]; exact ih _
      . rw [h1,h1]
        have e:cU (cU H id b) (r.id k0) c=cU (cU H (r.id k0) c) id b:=by
          funext j;simp only [rR];by_cases e1:j=r.id k0 <;> by_cases e2:j=id
          . exact absurd (e1.symm.trans e2) h2
          . simp [e1,h2]
          . simp [e2,Ne.symm h2]
          . simp [e1,e2]
        rw [e]; exact ih _
theorem aJz (S : Nat -> Bool) : ∀ (rs : List Rec) (H0 H : aT), Ext H0 H -> (∀ r ∈ rs, S r.i = true -> (∀ G, r.eff k0 G = G) \/ ((∃ c, ∀ G, r.eff k0 G = cU G (r.id k0) c) /\ (H0 (r.id k0)).live = false) \/ ∃ C, (∀ G, r.eff k0 G = C) /\ Ext H0 C) -> Ext H0 (HS k0 S H rs)
  |[],_,_,h,_=>h
  | r :: rs, H0, H, h, hr => by
    simp only [HS,List.foldl_cons];have ih:=λG hG=>aJz S rs H0 G hG λq hq=>hr q<|List.mem_cons_of_mem _ hq
    simp only [HS] at ih;refine ih _ ?_;cases hs:S r.i with
    |false=>exact h
    | true =>
      simp only [if_true];rcases hr r (List.mem_cons_self ..) hs with h1|⟨⟨c,h1⟩,h2⟩|⟨C,h1,h2⟩
      . rw [h1]; exact h
      . rw [h1]
        intro id hl;have hne:id≠r.id k0:=λe=>by rw [e,h2] at hl; cases hl
        rw [bT _ _ hne]; exact h id hl
      . rw [h1]; exact h2
theorem aDN {K:(Nat->V)->aT->Prop} {H0:aT} {q:Rec} {p2:List Rec}: ∀ (p1:List Rec) (T:Nat->V) (H:aT),aDR P k0 K (p1++q::p2) T H->Ext H0 H->
    (∀ e∈p1++[q],e.H'=e.H\/ ∃ id B,e.H'=cU e.H id B/\(H0 id).live=false)->Ext H0 q.H'
  | [], T, H, hc, h, he => by
    obtain ⟨_,h2,_,_⟩:=hc;have hq:=he q SI;rw [h2] at hq;rcases hq with e|⟨id,B,e,hd⟩
    . rw [e]; exact h
    . rw [e]
      intro j hl;have hne:j≠id:=λe=>by rw [e,hd] at hl; cases hl
      rw [bT _ _ hne]; exact h j hl
  | a :: p1, T, H, hc, h, he => by
    obtain ⟨_,h2,_,h4⟩:=hc;refine aDN p1 _ _ h4 ?_ λe hm=>he e (by simp at hm ⊢; rcases hm with hm|hm <;> simp [hm]);have ha:=he a SI;rw [h2] at ha;rcases ha with e|⟨id,B,e,hd⟩
    . rw [e]; exact h
    . rw [e]
      intro j hl;have hne:j≠id:=λe=>by rw [e,hd] at hl; cases hl
      rw [bT _ _ hne]; exact h j hl
end
end Go.Proofs.YtinpihlhcmpkhaaGreat


namespace Go.Proofs.YtinpihlhcmpkhaaGreat
open Go
def SO.reads (s:SO):List Nat:=s.x.ts++(match s.g with
  |some (t,_)=>[t]
  |none=>[])
def gX (b:Array Nat) (i j:Nat):Bool:=(b.getD i 0).testBit j
def aO3:X->Bool
  | .alloc _ _=>true
  |_=>false
def frs (b:Array Nat) (l:List (Nat×SO)) (q r:Nat×SO):Bool:=match r.2.x with
  | .store _ (.t d) _=>l.any λa=>a.2.d==some d&&aO3 a.2.x&& !(gX b a.1 q.1)&&gX b r.1 a.1
  |_=>false
def pw (b : Array Nat) (l : List (Nat × SO)) (q r : Nat × SO) : Bool :=
  let anc:=gX b r.1 q.1
  !(gX b q.1 r.1)&&q.1 != r.1&&
  (match q.2.d with
    |some d=>r.2.d != some d&&(anc|| !r.2.reads.contains d)
    |none=>true)&&
  (match r.2.d with
    |some d=>anc|| !q.2.reads.contains d
    |none=>true)&&
  (anc|| !((q.2.x.cls==.E&&r.2.x.cls != .I)||(r.2.x.cls==.E&&q.2.x.cls != .I)||(q.2.x.cls==.A&&r.2.x.cls==.D))||(q.2.x.cls==.D&&r.2.x.cls==.E&&frs b l q r))
def aDi (b:Array Nat):List (Nat×SO)->Bool
  |[]=>true
  |q::l=>l.all (pw b l q)&&aDi b l
def late (b:Array Nat):List (Nat×SO)->List (Nat×SO)->List Nat
  |_,[]=>[]
  |pre,r::l=>(if r.2.x.cls==.A&&pre.any (λq=>q.2.x.cls==.D&& !(gX b r.1 q.1)) then [r.2.d.getD 0] else [])++late b (pre++[r]) l
theorem lA {b:Array Nat}: ∀ {pre post:List (Nat×SO)} {r:Nat×SO},aDi b (pre++r::post)=true->(∀ q∈pre,∃ l,pw b l q r=true)/\(∀ q∈post,pw b post r q=true)
  | [], post, r, h => by
    simp only [List.nil_append,aDi,Bool.and_eq_true,List.all_eq_true] at h;exact ⟨λq hq=>(by cases hq),h.1⟩
  | p :: pre, post, r, h => by
    simp only [List.cons_append,aDi,Bool.and_eq_true,List.all_eq_true] at h;obtain ⟨h1,h2⟩:=lA (pre:=pre) h.2;refine ⟨λq hq=>?_,h2⟩;rcases List.mem_cons.1 hq with rfl|hq
    . exact ⟨_,h.1 r SI⟩
    . exact h1 q hq
theorem aDn {b:Array Nat}: ∀ {pre post:List (Nat×SO)} {r:Nat×SO} (p0:List (Nat×SO)),r.2.x.cls=.A->(∃ q∈p0++pre,q.2.x.cls=.D/\gX b r.1 q.1=false)->r.2.d.getD 0∈late b p0 (pre++r::post)
  | [], post, r, p0, hr, ⟨q, hq, h1, h2⟩ => by
    simp only [List.nil_append,late];refine List.mem_append_left _ ?_;rw [if_pos]
    . simp
    . simp only [hr,Bool.and_eq_true,List.any_eq_true]
      refine ⟨J,q,by simpa using hq,?_⟩;simp [h1,h2]
  | p :: pre, post, r, p0, hr, ⟨q, hq, h1, h2⟩ => by
    simp only [List.cons_append,late];exact List.mem_append_right _<|aDn (p0++[p]) hr ⟨q,by simpa using hq,h1,h2⟩
theorem aA0 (ops : Array Oper) : (Region.before ops).size = ops.size /\ ∀ (i : Nat) (o : Oper), ops[i]? = some o -> ∀ j, gX (Region.before ops) i j = true ->
    ∃ e∈o.after,Region.binds .any e=true/\(e.on=j\/(e.on < i/\gX (Region.before ops) e.on j=true)):=by
  have inner: ∀ (es:List Edge) (acc:Array Nat) (s j:Nat),(es.foldl (λs e=>if Region.binds .any e then s|||2 ^ e.on|||acc.getD e.on 0 else s) s).testBit j=true->
      s.testBit j=true\/ ∃ e∈es,Region.binds .any e=true/\(e.on=j\/(acc.getD e.on 0).testBit j=true):=by
    intro es
    induction es with
    |nil=>intro acc s j h; exact .inl h
    | cons e es ih =>
      intro acc s j h;simp only [List.foldl_cons] at h;rcases ih acc _ j h with h1|⟨f,hf,h1,h2⟩
      . split at h1
        . rename_i hb
          simp only [Nat.testBit_or,Bool.or_eq_true] at h1;rcases h1 with (h1|h1)|h1
          . exact .inl h1
          . refine .inr ⟨e,List.mem_cons_self ..,hb,.inl ?_⟩
            rw [Nat.testBit_two_pow] at h1;simpa using h1
          . exact .inr ⟨e,List.mem_cons_self ..,hb,.inr h1⟩
        . exact .inl h1
      . exact .inr ⟨f,List.mem_cons_of_mem _ hf,h1,h2⟩
  have outer : ∀ (l pre : List Oper) (acc : Array Nat), acc.size = pre.length ->
      (∀ (i:Nat) (o:Oper),pre[i]?=some o-> ∀ j,(acc.getD i 0).testBit j=true-> ∃ e∈o.after,Region.binds .any e=true/\(e.on=j\/(e.on < i/\(acc.getD e.on 0).testBit j=true)))->
      (l.foldl (λacc o=>acc.push<|o.after.foldl (λs e=>if Region.binds .any e then s|||2 ^ e.on|||acc.getD e.on 0 else s) 0) acc).size=(pre++l).length/\
      ∀ (i : Nat) (o : Oper), (pre ++ l)[i]? = some o -> ∀ j, ((l.foldl (λacc o => acc.push (o.after.foldl (λs e => if Region.binds .any e then s ||| 2 ^ e.on ||| acc.getD e.on 0 else s) 0)) acc).getD i 0).testBit j = true ->
        ∃ e∈o.after,Region.binds .any e=true/\(e.on=j\/(e.on < i/\((l.foldl (λacc o=>acc.push<|o.after.foldl (λs e=>if Region.binds .any e then s|||2 ^ e.on|||acc.getD e.on 0 else s) 0) acc).getD e.on 0).testBit j=true)):=by
    intro l
    induction l with
    |nil=>intro pre acc hs h; exact ⟨by simpa using hs,by simpa only [List.append_nil,List.foldl_nil] using h⟩
    | cons o l ih =>
      intro pre acc hs h;simp only [List.foldl_cons]
      have := ih (pre ++ [o]) (acc.push<|o.after.foldl (λs e => if Region.binds .any e then s ||| 2 ^ e.on ||| acc.getD e.on 0 else s) 0) (by simp [hs]) (λi o' hi j hj => by
        have lower: ∀ k,k < pre.length->(acc.push<|o.after.foldl (λs e=>if Region.binds .any e then s|||2 ^ e.on|||acc.getD e.on 0 else s) 0).getD k 0=acc.getD k 0:=λk hk=>by
          rw [Array.getD_eq_getD_getElem?,Array.getD_eq_getD_getElem?,Array.getElem?_push_lt OM];simp [hs,hk]
        by_cases hip:i < pre.length
        . rw [lower i hip] at hj
          rw [List.getElem?_append_left hip] at hi;obtain ⟨e,h1,h2,h3⟩:=h i o' hi j hj;refine ⟨e,h1,h2,?_⟩;rcases h3 with h3|⟨h3,h4⟩
          . exact .inl h3
          . exact .inr ⟨h3,by rw [lower _ OM]; exact h4⟩
        . have hie:i=pre.length:=by
            have:=(List.getElem?_eq_some_iff.1 hi).1;simp at this; omega
          subst hie;have ho:o'=o:=by simpa using hi.symm
          subst ho;rw [Array.getD_eq_getD_getElem?,<- hs,Array.getElem?_push_size] at hj;simp only [Option.getD_some] at hj;rw [<- Array.foldl_toList] at hj;rcases inner _ _ _ _ hj with h1|⟨e,h1,h2,h3⟩
          . simp at h1
          . refine ⟨e,by simpa using h1,h2,?_⟩
            rcases h3 with h3|h3
            . exact .inl h3
            . have hlt:e.on < pre.length:=by
                rcases Nat.lt_or_ge e.on pre.length with h|h
                . exact h
                . rw [Array.getD_eq_getD_getElem?,Array.getElem?_eq_none OM] at h3
                  simp at h3
              exact .inr ⟨hlt,by rw [lower _ hlt]; exact h3⟩)
      simpa [List.append_assoc] using this
  have:=outer ops.toList [] #[] J (λi o h=>by simp at h);unfold gX;rw [Region.before,<- Array.foldl_toList];refine ⟨by simpa using this.1,λi o hi j hj=>this.2 i o (by simpa using hi) j hj⟩
end Go.Proofs.YtinpihlhcmpkhaaGreat


namespace Go.Proofs.YtinpihlhcmpkhaaGreat
open Go
section
variable {P:Program} {k0:Nat}
theorem oK {S S':Nat->Bool}: ∀ (rs:List Rec) (H:aT),(∀ r∈rs,S r.i=S' r.i)->HS k0 S H rs=HS k0 S' H rs
  |[],H,_=>rfl
  | r :: rs, H, h => by
    simp only [HS,List.foldl_cons];have ih:=λG=>oK rs G λq hq=>h q<|List.mem_cons_of_mem _ hq
    simp_all [HS]
theorem kV {r:Rec} (_h:r.OK P k0):(∀ G,r.eff k0 G=G)\/(r.taken=true/\r.s.x.cls=.A/\ ∃ b,∀ G,r.eff k0 G=cU G (r.id k0) b)\/(r.taken=true/\r.s.x.cls=.E/\ ∃ C,∀ G,r.eff k0 G=C):=by
  cases ht:r.taken with
  |false=>grind [Rec.eff]
  | true =>
    cases hc:r.s.x.cls with
    |I=>grind [Rec.eff]
    |D=>grind [Rec.eff]
    |A=>exact .inr (.inl ⟨rfl,rfl,r.H' (r.id k0),λG=>by simp only [Rec.eff,ht,hc,if_true]⟩)
    |N=>grind [Rec.eff]
    |E=>exact .inr (.inr ⟨rfl,rfl,r.H',λG=>by simp only [Rec.eff,ht,hc,if_true]⟩)
structure PW (b:Array Nat) (q r:Nat×SO):Prop where
  back:gX b q.1 r.1=false
  ne:q.1≠r.1
  dst: ∀ d,q.2.d=some d->r.2.d≠some d
  rd: ∀ d,q.2.d=some d->d∈r.2.reads->gX b r.1 q.1=true
  wr: ∀ d,r.2.d=some d->d∈q.2.reads->gX b r.1 q.1=true
  qE:q.2.x.cls=.E->r.2.x.cls≠.I->gX b r.1 q.1=true
  rE:r.2.x.cls=.E->q.2.x.cls≠.I->q.2.x.cls≠.D->gX b r.1 q.1=true
  AD:q.2.x.cls=.A->r.2.x.cls=.D->gX b r.1 q.1=true
theorem aSh {b:Array Nat} {l:List (Nat×SO)} {q r:Nat×SO} (h:pw b l q r=true) (hr:r.2.x.cls=.E) (hq:q.2.x.cls=.D):gX b r.1 q.1=true\/frs b l q r=true:=by grind [pw]
theorem vT {b:Array Nat} {l:List (Nat×SO)} {q r:Nat×SO} (h:pw b l q r=true):PW b q r:=by
  unfold pw at h;simp only [Bool.and_eq_true,Bool.not_eq_true',bne_iff_ne,ne_eq] at h;obtain ⟨⟨⟨⟨h1,h2⟩,h3⟩,h4⟩,h5⟩:=h;refine ⟨h1,h2,λd hd=>?_,λd hd hr=>?_,λd hd hr=>?_,λhq hr=>?_,λhr hq hD=>?_,λhq hr=>?_⟩
  all_goals (grind)
def Rec.p (r:Rec):Nat×SO:=(r.i,r.s)
def aLs:List (Nat×SO)->Bool
  |[]=>true
  |q::l=>(q.2.x.cls != .E||l.all λr=>r.2.x.cls != .D)&&aLs l
theorem aDw {r:Nat×SO} {post:List (Nat×SO)} (hr:r.2.x.cls=.D): ∀ {pre:List (Nat×SO)},aLs (pre++r::post)=true-> ∀ p∈pre,p.2.x.cls≠.E
  |[],_,_,hp=>by simp at hp
  | q :: pre, h, p, hp => by
    simp only [List.cons_append,aLs,Bool.and_eq_true] at h;rcases List.mem_cons.1 hp with rfl|hp
    . grind
    . exact aDw hr h.2 p hp
def aNa (P:Program) (ops:Array Oper) (L:List (Nat×SO)):Bool:=
  P.follows .mixedOrders&&
  aDi (Region.before ops) L&&
  (List.range ops.size).all (λi=>L.any (·.1==i))&&
  ops.toList.zipIdx.all (λp=>p.1.after.all λe=> !(Region.binds .any e)||decide (e.on < p.2))&&
  L.all (λq=>q.2.x.cls != .N&&(q.2.x.cls != .A||q.2.d.isSome))&&
  ((late (Region.before ops) [] L).isEmpty||aLs L)
variable {op:Opt} {n:Nat} {ops:Array Oper} {x0:Cx} {Q:Ex->(Nat->V)->aT->Prop} {T:Nat->V} {H:aT}
theorem aRc {b:Array Nat} {S:Nat->Bool} {pre post:List Rec} {r:Rec} (hpre: ∀ q∈pre,PW b q.p r.p) (hpost: ∀ q∈post,PW b r.p q.p) (hS:S r.i=false)
    (hanc: ∀ j,gX b r.i j=true->S j=true) (hdes: ∀ q∈post,S q.i=true->gX b q.i r.i=false):
    ∀ t∈r.s.reads,TS S T (pre++r::post) t=TS (λ_=>true) T pre t:=by
  intro t ht;rw [show pre++r::post=pre++([r]++post) by simp,kY,kY]
  rw [aCx S t post _ λq hq hs hd=>by
    have:=(hpost q hq).wr t hd ht;rw [show gX b q.p.1 r.p.1=gX b q.i r.i from J,hdes q hq hs] at this;cases this]
  have e1:TS S (TS S T pre) [r]=TS S T pre:=by simp [TS,hS]
  rw [e1];refine uN S (λ_=>true) pre T T t J λq hq hd=>?_;exact hanc q.i<|(hpre q hq).rd t hd ht
theorem aHt {b:Array Nat} {S S':Nat->Bool} {pre post:List Rec} {r:Rec} (hpre: ∀ q∈pre,PW b q.p r.p) (hpost: ∀ q∈post,PW b r.p q.p) (hS:S r.i=false) (hS': ∀ j,S' j=(S j||j==r.i)):
    TS S' T (pre++r::post)=jJ (TS S T (pre++r::post)) r.s.d r.v:=by
  funext t
  have ne: ∀ q∈pre++post,S' q.i=S q.i:=λq hq=>by
    rw [hS']
    have:q.i≠r.i:=by
      rcases List.mem_append.1 hq with hq|hq
      . exact (hpre q hq).ne
      . exact Ne.symm (hpost q hq).ne
    simp [this]
  rw [show pre++r::post=pre++([r]++post) by simp,kY,kY,kY,kY];have e1:TS S (TS S T pre) [r]=TS S T pre:=by simp [TS,hS]
  have e2:TS S' (TS S' T pre) [r]=jJ (TS S' T pre) r.s.d r.v:=by simp [TS,hS']
  rw [e1,e2];have agree: ∀ u,TS S' T pre u=TS S T pre u:=λu=>uN S' S pre T T u J λq hq _=>ne q<|List.mem_append_left _ hq
  by_cases hd:r.s.d=some t
  . rw [aCx S' t post _ λq hq _ hq'=>(hpost q hq).dst t hd hq',hd]
    simp [jJ,aR]
  . have keep: ∀ (U:Nat->V),jJ U r.s.d r.v t=U t:=λU=>by
      cases hq:r.s.d with
      |none=>rfl
      |some d=>rw [hq] at hd; simp only [jJ]; exact bT _ _ λe=>hd (by rw [e])
    grind [uN]
theorem aKA {pre:List Rec} {q:Rec} (okpre: ∀ p∈pre,p.OK P k0) (h0:q.s.d.isSome=true) (hsome: ∀ p∈pre,p.s.x.cls=.A->p.s.d.isSome=true) (l1: ∀ p∈pre,p.s.x.cls≠.E) (l2: ∀ p∈pre,p.s.d≠q.s.d) (l3:(H (q.id k0)).live=false):
    (HS k0 (λ_=>true) H pre<|q.id k0).live=false:=by
  have:HS k0 (λ_=>true) H pre (q.id k0)=HS k0 (λ_=>false) H pre (q.id k0):=by
    refine aFC _ _ _ pre H H J λp hp=>?_;rcases kV (okpre p hp) with g|⟨_,g,g'⟩|⟨_,g,_⟩
    . exact .inl g
    . refine .inr (.inl ⟨g',λhe=>?_⟩)
      grind [Option.isSome_iff_exists,Rec.id]
    . exact absurd g<|l1 p hp
  simp_all [vC]
theorem aKD {id n d:Nat} {x:SX} {T:Nat->V} {H:aT} {v:V} {H':aT} {i ver row off:Nat} (h:St P id (.store n (.t d) x) T H λa b=>a=v/\b=H') (ht:T d=.mp i ver row off): ∃ B,H'=cU H i B:=by grind [St,bW,ev,stP]
theorem rF {id n d:Nat} {x:SX} {T:Nat->V} {H:aT} {k:V->aT->Prop} (h:St P id (.store n (.t d) x) T H k): ∃ i ver row off,T d=.mp i ver row off:=by
  simp only [St,bW,ev] at h;obtain ⟨H1,h1,_⟩:=h;unfold stP at h1
  grind
theorem aOU {a:Rec} {d:Nat} (hd:a.s.d=some d) {x y:List Rec} (T:Nat->V) (hy: ∀ e∈y,e.s.d≠some d):TS (λ_=>true) T (x++a::y) d=a.v:=by
  rw [show x++a::y=x++([a]++y) by simp,kY,kY,aCx _ d y _ λe he _=>hy e he];simp [TS,hd,jJ,aR]
theorem aGV {b : Array Nat} {S S' : Nat -> Bool} {pre post : List Rec} {r : Rec} (hOK : ∀ q ∈ pre ++ r :: post, q.OK P k0) (hpre : ∀ q ∈ pre, PW b q.p r.p) (hpost : ∀ q ∈ post, PW b r.p q.p) (hS : S r.i = false) (hS' : ∀ j, S' j = (S j || j == r.i))
    (hanc: ∀ j,gX b r.i j=true->S j=true) (hdes: ∀ q∈post,S q.i=true->gX b q.i r.i=false) (hsome: ∀ q∈pre++r::post,q.s.x.cls=.A->q.s.d.isSome=true)
    (hlate: ∀ q∈post,q.s.x.cls=.A->r.s.x.cls=.D->gX b q.i r.i=false->(∀ p∈pre,p.s.x.cls≠.E)/\(∀ p∈pre,p.s.d≠q.s.d)/\(H<|q.id k0).live=false)
    (hfr: ∀ q∈post,q.s.x.cls=.E->r.s.x.cls=.D->S q.i=true->Ext r.H q.H')
    (hN:r.s.x.cls≠.N) (hr:r.H=HS k0 (λ_=>true) H pre) (ht:r.taken=true) (hst:St P (r.id k0) r.s.x r.T r.H λa b=>a=r.v/\b=r.H'):
    St P (r.id k0) r.s.x r.T (HS k0 S H (pre++r::post)) λa b=>a=r.v/\b=HS k0 S' H (pre++r::post):=by
  have ne: ∀ q∈pre++post,S' q.i=S q.i:=λq hq=>by
    rw [hS']
    have:q.i≠r.i:=by
      rcases List.mem_append.1 hq with hq|hq
      . exact (hpre q hq).ne
      . exact Ne.symm (hpost q hq).ne
    simp [this]
  have split:pre++r::post=pre++([r]++post):=by simp
  have okpre: ∀ q∈pre,q.OK P k0:=λq hq=>hOK q (by simp [hq])
  have okpost: ∀ q∈post,q.OK P k0:=λq hq=>hOK q (by simp [hq])
  have G1:HS k0 S H (pre++r::post)=HS k0 S (HS k0 S H pre) post:=by
    grind [HS]
  have G2:HS k0 S' H (pre++r::post)=HS k0 S (r.eff k0<|HS k0 S H pre) post:=by
    rw [split,oO,oO,oK pre H λq hq=>ne q (List.mem_append_left _ hq),oK post _ λq hq=>ne q (List.mem_append_right _ hq)];simp [HS,hS']
  have idne: ∀ q∈pre++post,r.s.x.cls=.A->q.s.x.cls=.A->q.id k0≠r.id k0:=λq hq h1 h2 he=>by
    have s1:=hsome r SI h1;have s2:=hsome q (by grind) h2;obtain ⟨d,hd⟩:=Option.isSome_iff_exists.1 s1;obtain ⟨e,he'⟩:=Option.isSome_iff_exists.1 s2;simp only [Rec.id,hd,he',Option.getD_some] at he;have hde:e=d:=OM
    subst hde;rcases List.mem_append.1 hq with hq|hq
    . exact (hpre q hq).dst e he' hd
    . exact (hpost q hq).dst e hd he'
  rw [G1,G2];cases hc:r.s.x.cls with
  |N=>exact absurd hc hN
  | I =>
    have he: ∀ G,r.eff k0 G=G:=λG=>by simp [Rec.eff,ht,hc]
    rw [he];exact (aQI hc hst).2 _
  | D =>
    have he: ∀ G,r.eff k0 G=G:=λG=>by simp [Rec.eff,ht,hc]
    rw [he];refine (aSf hc hst).2 _ ?_
    have e1:HS k0 S H pre=r.H:=by
      rw [hr];refine aHi S pre H λq hq hs=>?_;rcases kV (okpre q hq) with h|⟨_,h,_⟩|⟨_,h,_⟩
      . exact h
      . have:=hanc q.i<|(hpre q hq).AD h hc; rw [hs] at this; cases this
      . have:=hanc q.i<|(hpre q hq).qE h (by simp [Rec.p,hc]); rw [hs] at this; cases this
    rw [e1];refine aJz S post r.H r.H (λ_ _=>J) λq hq hs=>?_;rcases kV (okpost q hq) with h|⟨_,h,h'⟩|⟨ht',h,_⟩
    . exact .inl h
    . refine .inr (.inl ⟨h',?_⟩)
      obtain ⟨l1,l2,l3⟩:=hlate q hq h hc<|hdes q hq hs
      rw [hr]
      have:HS k0 (λ_=>true) H pre (q.id k0)=HS k0 (λ_=>false) H pre (q.id k0):=by
        refine aFC _ _ _ pre H H J λp hp=>?_;rcases kV (okpre p hp) with g|⟨_,g,g'⟩|⟨_,g,_⟩
        . exact .inl g
        . refine .inr (.inl ⟨g',λhe=>?_⟩)
          grind [Option.isSome_iff_exists,Rec.id]
        . exact absurd g<|l1 p hp
      simp_all [vC]
    grind [Rec.eff]
  | A =>
    obtain ⟨a1,a2,a3⟩:=aRe hc hst;have he: ∀ G,r.eff k0 G=cU G (r.id k0) (r.H'<|r.id k0):=λG=>by simp only [Rec.eff,ht,hc,if_true]
    rw [he]
    have hpo: ∀ q∈post,S q.i=true->(∀ G,q.eff k0 G=G)\/(∃ c,∀ G,q.eff k0 G=cU G (q.id k0) c)/\q.id k0≠r.id k0:=λq hq hs=>by
      rcases kV (okpost q hq) with h|⟨_,h,h'⟩|⟨_,h,_⟩
      . exact .inl h
      . exact .inr ⟨h',idne q (by simp [hq]) hc h⟩
      . have:=(hpost q hq).rE h (by simp [Rec.p,hc]) (by simp [Rec.p,hc])
        rw [show gX b q.p.1 r.p.1=gX b q.i r.i from J,hdes q hq hs] at this;cases this
    rw [aLH S (r.id k0) _ post _ hpo];refine a3 _ ?_
    have e1 : HS k0 S (HS k0 S H pre) post (r.id k0) = HS k0 S H pre (r.id k0) := by
      have:=aFC (k0:=k0) S (λ_=>false) (r.id k0) (post.filter λq=>S q.i) (HS k0 S H pre) (HS k0 S H pre) J λq hq=>by
        obtain ⟨h1,h2⟩:=List.mem_filter.1 hq;rcases hpo q h1 h2 with h|h
        . exact .inl h
        . exact .inr (.inl h)
      have filt: ∀ (l:List Rec) (G:aT),HS k0 S G (l.filter λq=>S q.i)=HS k0 S G l:=by
        intro l
        induction l with
        |nil=>intro G; rfl
        | cons q l ih =>
          intro G;by_cases hq:S q.i=true
          . rw [List.filter_cons_of_pos (by simpa using hq)]
            simp only [HS,List.foldl_cons] at ih ⊢;exact ih _
          grind [HS]
      rw [filt] at this;rw [this,vC _ _ _ λp _ hp=>by cases hp]
    rw [e1,hr];refine aFC S (λ_=>true) (r.id k0) pre H H J λq hq=>?_;rcases kV (okpre q hq) with h|⟨_,h,h'⟩|⟨_,h,h'⟩
    . exact .inl h
    . exact .inr (.inl ⟨h',idne q (by simp [hq]) hc h⟩)
    . exact .inr (.inr ⟨hanc q.i ((hpre q hq).qE h (by simp [Rec.p,hc])),J,h'⟩)
  | E =>
    have he: ∀ G,r.eff k0 G=r.H':=λG=>by simp only [Rec.eff,ht,hc,if_true]
    rw [he]
    have e1:HS k0 S H pre=r.H:=by
      rw [hr];refine aHi S pre H λq hq hs=>?_;rcases kV (okpre q hq) with h|⟨_,h,_⟩|⟨_,h,_⟩
      . exact h
      . have:=hanc q.i<|(hpre q hq).rE hc (by simp [Rec.p,h]) (by simp [Rec.p,h]); rw [hs] at this; cases this
      . have:=hanc q.i<|(hpre q hq).rE hc (by simp [Rec.p,h]) (by simp [Rec.p,h]); rw [hs] at this; cases this
    have e2: ∀ G,HS k0 S G post=G:=λG=>vC S post G λq hq hs=>by
      rcases kV (okpost q hq) with h|⟨_,h,_⟩|⟨_,h,_⟩
      . exact h
      . have:=(hpost q hq).qE hc (by simp [Rec.p,h])
        rw [show gX b q.p.1 r.p.1=gX b q.i r.i from J,hdes q hq hs] at this;cases this
      . have:=(hpost q hq).qE hc (by simp [Rec.p,h])
        rw [show gX b q.p.1 r.p.1=gX b q.i r.i from J,hdes q hq hs] at this;cases this
    rw [e1,e2,e2];exact hst
end
end Go.Proofs.YtinpihlhcmpkhaaGreat


namespace Go.Proofs.YtinpihlhcmpkhaaGreat
open Go
section
variable {P:Program} {D:List Deferred} {k0:Nat} {op:Opt} {n:Nat} {ops:Array Oper} {x0:Cx} {Q:Ex->(Nat->V)->aT->Prop}
def SL (listed:Array Bool) (j:Nat):Bool:=listed.getD j false
theorem aHV {listed:Array Bool} {i:Nat} (hi:i < listed.size) (j:Nat):SL (listed.setIfInBounds i true) j=(SL listed j||j==i):=by
  unfold SL;by_cases e:i=j
  all_goals (simp_all [Ne.symm])
theorem aMa {L : List (Nat × SO)} {rs : List Rec} {T : Nat -> V} {H : aT} (hrs : rs.map Rec.p = L) (hch : aDR P k0 (Q .norm) rs T H)
    (hslim: ∀ q∈L,∃ o,ops[q.1]?=some o/\pO P op n ops o=some q.2)
    (hpw:aDi (Region.before ops) L=true) (hall: ∀ i,i < ops.size-> ∃ q∈L,q.1=i)
    (hlt: ∀ (i:Nat) (o:Oper),ops[i]?=some o-> ∀ e∈o.after,Region.binds .any e=true->e.on < i)
    (hN: ∀ q∈L,q.2.x.cls≠.N) (hsome: ∀ q∈L,q.2.x.cls=.A->q.2.d.isSome=true)
    (hnoE:late (Region.before ops) [] L=[]\/aLs L=true)
    (hdead: ∀ d∈late (Region.before ops) [] L,(H<|k0+d).live=false):
    ∀ (fuel : Nat) (listed : Array Bool) (a : Act) (w : World), listed.size = ops.size -> ((List.range ops.size).filter λi => !(SL listed i)).length <= fuel ->
      (∀ (i:Nat) (o:Oper),ops[i]?=some o->SL listed i=true-> ∀ e∈o.after,Region.binds .any e=true->SL listed e.on=true)->
      (∃ y:Cx,y.w=w/\y.H=HS k0 (SL listed) H rs/\Inv y/\TRel D n y (TS (SL listed) T rs) a/\Frame x0 y)->
      wpAny P .any ops (pA D n x0 Q) fuel listed a w:=by
  obtain ⟨hbs,hbefore⟩:=aA0 ops;have hNr: ∀ r∈rs,r.s.x.cls≠.N:=λr hr=>hN r.p (by rw [<- hrs]; exact List.mem_map_of_mem hr)
  have hok: ∀ q∈rs,q.OK P k0:=(kB rs [] T H hNr (by simpa using hch)).2;have hend:Q .norm (TS (λ_=>true) T rs) (HS k0 (λ_=>true) H rs):=(kB rs [] T H hNr (by simpa using hch)).1
  -- when nothing is ready,all has run
  have done : ∀ (listed : Array Bool) (a : Act) (w : World), listed.size = ops.size -> Region.ready .any ops listed = [] ->
      (∃ y:Cx,y.w=w/\y.H=HS k0 (SL listed) H rs/\Inv y/\TRel D n y (TS (SL listed) T rs) a/\Frame x0 y)->pA D n x0 Q .normal a w:=by
    intro listed a w hsz hr ⟨y,hyw,gN,hyI,hyT,hyF⟩
    have all: ∀ i,i < ops.size->SL listed i=true:=by
      intro i
      induction i using Nat.strongRecOn with
      | _ i ih =>
        intro hi;rcases hb:SL listed i with _|_
        . exfalso
          have hmem:i∈Region.ready .any ops listed:=mem_ready.2 ⟨by
            unfold SL at hb;have hi':i < listed.size:=OM
            simp [hi'] at hb ⊢
            exact hb,ops[i],Array.getElem?_eq_getElem hi,λe he hbd=>by
              have h1:=hlt i ops[i] (Array.getElem?_eq_getElem hi) e he hbd;exact ih e.on h1 OM⟩
          rw [hr] at hmem; cases hmem
        . rfl
    have hSall: ∀ r∈rs,SL listed r.i=true:=λr hr=>by
      obtain ⟨o,ho,_⟩:=hslim r.p (by rw [<- hrs]; exact List.mem_map_of_mem hr);exact all _ (Array.getElem?_eq_some_iff.1 ho).1
    refine ⟨.norm,TS (SL listed) T rs,y,J,hyw,?_,hyI,hyT,hyF⟩;rw [gN,oK rs H (S':=λ_=>true) λr hr=>hSall r hr]
    have e:TS (SL listed) T rs=TS (λ_=>true) T rs:=by
      funext t;exact uN _ _ rs T T t J λr hr _=>hSall r hr
    rw [e]; exact hend
  intro fuel
  induction fuel with
  | zero =>
    intro listed a w hsz hcnt hcl hst
    have hr:Region.ready .any ops listed=[]:=by
      rw [List.eq_nil_iff_forall_not_mem];intro i hi;obtain ⟨h0,o,ho,_⟩:=mem_ready.1 hi;have hlt':i < ops.size:=(Array.getElem?_eq_some_iff.1 ho).1;have hnil:(List.range ops.size).filter (λi=> !(SL listed i))=[]:=List.eq_nil_of_length_eq_zero OM
      have:i∈(List.range ops.size).filter (λi=> !(SL listed i)):=List.mem_filter.2 ⟨List.mem_range.2 hlt',by
        unfold SL;have hi':i < listed.size:=OM
        simp [hi'] at h0 ⊢;exact h0⟩
      rw [hnil] at this; cases this
    exact ⟨hr,done listed a w hsz hr hst⟩
  | succ fuel ih =>
    intro listed a w hsz hcnt hcl hst;refine ⟨λhr=>done listed a w hsz hr hst,λi hi=>?_⟩;obtain ⟨h0,o,ho,hedge⟩:=mem_ready.1 hi;have hilt:i < ops.size:=(Array.getElem?_eq_some_iff.1 ho).1
    have hSi:SL listed i=false:=by
      unfold SL;have hi':i < listed.size:=OM
      simp [hi'] at h0 ⊢;exact h0
    -- the record
    obtain ⟨q,hq,hqi⟩:=hall i hilt;rw [<- hrs] at hq;obtain ⟨r,hr,rfl⟩:=List.mem_map.1 hq;obtain ⟨pre,post,rfl⟩:=List.append_of_mem hr;have hri:r.i=i:=hqi;subst hri;have hLeq:L=pre.map Rec.p++r.p::post.map Rec.p:=by rw [<- hrs]; simp
    obtain ⟨hpre',hpost'⟩:=lA<|hLeq ▸ hpw
    have hpre: ∀ q∈pre,PW (Region.before ops) q.p r.p:=λq hq=>by obtain ⟨l,hl⟩:=hpre' _<|List.mem_map_of_mem hq; exact vT hl
    have hpost: ∀ q∈post,PW (Region.before ops) r.p q.p:=λq hq=>vT<|hpost' _<|List.mem_map_of_mem hq
    -- all that must run ahead has run
    have closed: ∀ (k:Nat) (o':Oper),ops[k]?=some o'->(∀ e∈o'.after,Region.binds .any e=true->SL listed e.on=true)-> ∀ j,gX (Region.before ops) k j=true->SL listed j=true:=by
      intro k
      induction k using Nat.strongRecOn with
      | _ k ihk =>
        intro o' ho' hed j hj;obtain ⟨e,he,hb,h1|⟨h1,h2⟩⟩:=hbefore k o' ho' j hj
        . rw [<- h1]; exact hed e he hb
        . have hle:e.on < ops.size:=by have:=(Array.getElem?_eq_some_iff.1 ho').1; omega
          exact ihk e.on h1 _ (Array.getElem?_eq_getElem hle) (hcl e.on _ (Array.getElem?_eq_getElem hle)<|hed e he hb) j h2
    have hanc:=closed r.i o ho λe he hb=>by have:=hedge e he hb; exact this
    have hdes: ∀ q∈post,SL listed q.i=true->gX (Region.before ops) q.i r.i=false:=λq hq hs=>by
      rcases hb:gX (Region.before ops) q.i r.i with _|_
      . rfl
      . obtain ⟨o',ho',_⟩:=hslim q.p (by rw [<- hrs]; exact List.mem_map_of_mem (by simp [hq]))
        have:=closed q.i o' ho' (hcl q.i o' ho' hs) r.i hb;rw [hSi] at this; cases this
    obtain ⟨hchr,hokpre⟩:=kB pre (r::post) T H (λq hq=>hNr q (by simp [hq])) hch;obtain ⟨hrT,hrH,hrOK,_⟩:=hchr;obtain ⟨o',ho',hso⟩:=hslim r.p (by rw [<- hrs]; exact List.mem_map_of_mem SI);have hoo:o'=o:=by have:=ho'.symm.trans ho; simpa using this
    subst hoo;obtain ⟨s1,s2,s3,s4⟩:=vP hso;have hS': ∀ j,SL (listed.setIfInBounds r.i true) j=(SL listed j||j==r.i):=aHV OM;have hagree:=aRc (T:=T) hpre hpost hSi hanc hdes;obtain ⟨y,hyw,gN,hyI,hyT,hyF⟩:=hst;have hput:=aHt (T:=T) hpre hpost hSi hS';have hsz':(listed.setIfInBounds r.i true).size=ops.size:=by simpa using hsz
    have hcnt':((List.range ops.size).filter λi=> !(SL (listed.setIfInBounds r.i true) i)).length<=fuel:=by
      have e:(List.range ops.size).filter (λi=> !(SL (listed.setIfInBounds r.i true) i))=((List.range ops.size).filter λi=> !(SL listed i)).filter (λj=>j != r.i):=by
        rw [List.filter_filter];refine List.filter_congr λj _=>?_;rw [hS',Bool.not_or,Bool.and_comm]
        rfl
      have hmem:r.i∈(List.range ops.size).filter λi=> !(SL listed i):=List.mem_filter.2 ⟨List.mem_range.2 hilt,by rw [hSi]; rfl⟩
      have:=(List.length_filter_lt_length_iff_exists (p:=λj=>j != r.i)).2 ⟨r.i,hmem,SI⟩;rw [e]; omega
    have hcl': ∀ (i:Nat) (o:Oper),ops[i]?=some o->SL (listed.setIfInBounds r.i true) i=true-> ∀ e∈o.after,Region.binds .any e=true->SL (listed.setIfInBounds r.i true) e.on=true:=by
      intro k ok hk hs e he hb;rw [hS'] at hs ⊢;rw [Bool.or_eq_true] at hs ⊢;rcases hs with hs|hs
      . exact .inl (hcl k ok hk hs e he hb)
      . have:k=r.i:=by simpa using hs
        subst this;have:ok=o':=by have:=hk.symm.trans ho; simpa using this
        subst this;exact .inl (hedge e he hb)
    have next: ∀ (v:V) (c:Value) (z:Cx),v=r.v->z.H=HS k0 (SL<|listed.setIfInBounds r.i true) H (pre++r::post)->Inv z->R z v c->Frame y z->
        wpAny P .any ops (pA D n x0 Q) fuel (listed.setIfInBounds r.i true) (a.put o'.dst c) z.w:=by
      intro v c z hv hzH hzI hzR hzF;refine ih _ _ _ hsz' hcnt' hcl' ⟨z,J,hzH,hzI,?_,hyF.trans hzF⟩;rw [hput];have:=(hyT.frame hyI hzF).put s2 hzR;rw [hv] at this;rw [show r.s.d=o'.dst from s1];exact this
    have hlt3: ∀ q∈post,q.s.x.cls=.A->r.s.x.cls=.D->gX (Region.before ops) q.i r.i=false->(∀ p∈pre,p.s.x.cls≠.E)/\(∀ p∈pre,p.s.d≠q.s.d)/\(H<|q.id k0).live=false:=λq hq hA hD hnb=>by
      obtain ⟨p1,p2,rfl⟩:=List.append_of_mem hq;have hL2:L=[]++((pre.map Rec.p++r.p::p1.map Rec.p)++q.p::p2.map Rec.p):=by rw [hLeq]; simp
      have hlate:q.p.2.d.getD 0∈late (Region.before ops) [] L:=by
        rw [hL2];exact aDn [] hA ⟨r.p,SI,hD,hnb⟩
      refine ⟨λp hp=>?_,λp hp he=>?_,hdead _ hlate⟩
      . rcases hnoE with h|h
        . rw [h] at hlate; cases hlate
        . exact aDw (pre:=pre.map Rec.p) (r:=r.p) (post:=(p1++q::p2).map Rec.p) hD (by rw [<- h,hLeq]) p.p<|List.mem_map_of_mem hp
      . have hqs:=hsome q.p (by rw [<- hrs]; exact List.mem_map_of_mem SI) hA
        obtain ⟨d,hd⟩:=Option.isSome_iff_exists.1 hqs;have hd':q.s.d=some d:=hd;obtain ⟨a1,a2,rfl⟩:=List.append_of_mem hp;have hL3:L=a1.map Rec.p++p.p::(a2.map Rec.p++r.p::(p1++q::p2).map Rec.p):=by rw [hLeq]; simp
        have:=vT (l:=_)<|(lA<|hL3 ▸ hpw).2 q.p SI
        exact this.dst d (by rw [show p.p.2.d=p.s.d from J,he]; exact hd') hd
    have hsomeR: ∀ q∈pre++r::post,q.s.x.cls=.A->q.s.d.isSome=true:=λq hq=>hsome q.p (by rw [<- hrs]; exact List.mem_map_of_mem hq)
    have hdeadA: ∀ q∈post,q.s.x.cls=.A->r.s.x.cls=.D->gX (Region.before ops) q.i r.i=false->(r.H<|q.id k0).live=false:=λq hq hA hD hnb=>by
      obtain ⟨l1,l2,l3⟩:=hlt3 q hq hA hD hnb;rw [hrH];exact aKA (λp hp=>hok p (by simp [hp])) (hsomeR q (by simp [hq]) hA) (λp hp=>hsomeR p (by simp [hp])) l1 l2 l3
    have hfr: ∀ q∈post,q.s.x.cls=.E->r.s.x.cls=.D->SL listed q.i=true->Ext r.H q.H':=λq hq hqE hrD hqS=>by
      obtain ⟨p1,p2,rfl⟩:=List.append_of_mem hq
      -- who stands between them
      have hanq: ∀ j,gX (Region.before ops) q.i j=true->SL listed j=true:=λj hj=>by
        obtain ⟨oq,hoq,_⟩:=hslim q.p (by rw [<- hrs]; exact List.mem_map_of_mem SI);exact closed q.i oq hoq (hcl q.i oq hoq hqS) j hj
      have hL2:L=(pre.map Rec.p++r.p::p1.map Rec.p)++q.p::p2.map Rec.p:=by rw [hLeq]; simp
      have hbq: ∀ e∈p1,e.s.x.cls≠.I->e.s.x.cls≠.D->SL listed e.i=true:=λe he hI hD=>by
        obtain ⟨l,hl⟩:=(lA<|hL2 ▸ hpw).1 e.p (by simp; exact .inr (.inr ⟨e,he,J⟩));exact hanq e.i<|(vT hl).rE hqE hI hD
      -- a store that may run ahead of r goes into a block that is made behind it
      have fresh: ∀ e:Rec,(∃ a b,p1++[q]=a++e::b)->e.s.x.cls=.E->SL listed e.i=true->e.taken=true-> ∃ id B,e.H'=cU e.H id B/\(r.H id).live=false:=λe ⟨a,b,hab⟩ hE hS ht'=>by
        have hem:e∈p1++q::p2:=by
          have:e∈p1++[q]:=by rw [hab]; simp
          rw [List.mem_append] at this ⊢;rcases this with h|h
          all_goals (grind)
        have hf:=(aSh (hpost' e.p<|List.mem_map_of_mem hem) hE hrD).resolve_left λh=>by
          have:=hdes e hem hS;rw [show gX (Region.before ops) e.p.1 r.p.1=gX (Region.before ops) e.i r.i from rfl,this] at h; cases h
        unfold frs at hf;split at hf
        . rename_i n d xx hx
          obtain ⟨ap,hap,hcond⟩:=List.any_eq_true.1 hf;simp only [Bool.and_eq_true,Bool.not_eq_true',beq_iff_eq] at hcond;obtain ⟨⟨⟨c1,c2⟩,c3⟩,c4⟩:=hcond;obtain ⟨al,hal,rfl⟩:=List.mem_map.1 hap;have hxs:e.s.x=.store n (.t d) xx:=hx;have c1:al.s.d=some d:=c1
          -- it stands ahead of the store
          have hba:al∈a:=by
            have hrest:p1++q::p2=a++e::(b++p2):=by
              have:p1++q::p2=(p1++[q])++p2:=by simp
              rw [this,hab]; simp
            rw [hrest,List.mem_append,List.mem_cons] at hal;have hL3:L=(pre.map Rec.p++r.p::a.map Rec.p)++e.p::(b++p2).map Rec.p:=by rw [hLeq,hrest]; simp
            rcases hal with h|h|h
            . exact h
            . exfalso
              have c4':gX (Region.before ops) e.i al.i=true:=c4;rw [h] at c2;have:aO3 e.s.x=true:=c2;rw [hxs] at this; cases this
            . exfalso
              have:=(vT<|(lA<|hL3 ▸ hpw).2 al.p (List.mem_map_of_mem h)).back;rw [show gX (Region.before ops) e.p.1 al.p.1=true from c4] at this; cases this
          obtain ⟨a1,a2,rfl⟩:=List.append_of_mem hba
          have hal':al∈p1++q::p2:=by
            have:p1++q::p2=(p1++[q])++p2:=by simp
            rw [this,hab]; simp
          have hrest:p1++q::p2=a1++al::(a2++e::(b++p2)):=by
            have:p1++q::p2=(p1++[q])++p2:=by simp
            rw [this,hab]; simp
          -- its value is in the slot
          have hwhole:pre++r::(p1++q::p2)=(pre++r::(a1++al::a2))++e::(b++p2):=by rw [hrest]; simp
          have hch':=hch;rw [hwhole] at hch';obtain ⟨⟨heT,_,heOK,_⟩,_⟩:=kB (pre++r::(a1++al::a2)) (e::(b++p2)) T H (λz hz=>hNr z (by rw [hwhole]; exact List.mem_append_left _ hz)) hch'
          have hTd:e.T d=al.v:=by
            rw [heT,show pre++r::(a1++al::a2)=(pre++r::a1)++al::a2 by simp];refine aOU c1 T λz hz hzd=>?_;have hL4:L=(pre.map Rec.p++r.p::a1.map Rec.p)++al.p::(a2++e::(b++p2)).map Rec.p:=by rw [hLeq,hrest]; simp
            exact (vT<|(lA<|hL4 ▸ hpw).2 z.p (List.mem_map_of_mem (by simp [hz]))).dst d c1 hzd
          have hst:=e.st heOK ht';rw [hxs] at hst;obtain ⟨i,ver,row,off,hmp⟩:=rF hst;obtain ⟨B,hB⟩:=aKD hst hmp
          -- the slot's value is the new block's address
          have halA:al.s.x.cls=.A:=by
            have:aO3 al.s.x=true:=c2;cases hxa:al.s.x <;> rw [hxa] at this <;> first|rfl|cases this
          have hi:i=al.id k0:=by
            have halOK:al.OK P k0:=hok al (by simp; exact .inr (.inr (by simpa using hal')));rw [hTd] at hmp;have hcl2:aO3 al.s.x=true:=c2;unfold Rec.OK at halOK;split at halOK
            . have h:=halOK.2
              cases hxa:al.s.x <;> rw [hxa] at hcl2 h <;> first|(cases hcl2; done)|skip
              simp only [St] at h;rw [<- h.1] at hmp; cases hmp; rfl
            . obtain ⟨_,_,h|h⟩:=halOK
              . have h:=h.2.2
                cases hxa:al.s.x <;> rw [hxa] at hcl2 h <;> first|(cases hcl2; done)|skip
                simp only [St] at h;rw [<- h.1] at hmp; cases hmp; rfl
              . rw [h.2.2.1] at hmp; cases hmp
          exact ⟨i,B,hB,by rw [hi]; exact hdeadA al hal' halA hrD c3⟩
        . cases hf
      have hchr2:=(kB pre (r::(p1++q::p2)) T H (λz hz=>hNr z (by simp [hz])) hch).1;obtain ⟨_,hrH2,hrOK2,hrest2⟩:=hchr2
      have hrH':r.H'=r.H:=by
        have:=Rec.eff_self (hNr r SI) hrOK2;rw [<- this];unfold Rec.eff;cases r.taken <;> simp [hrD]
      rw [hrH'] at hrest2;refine aDN p1 _ _ hrest2 (λ_ _=>J) λe he=>?_
      have hem:e∈p1++q::p2:=by
        rw [List.mem_append] at he ⊢;rcases he with h|h
        all_goals (grind)
      have heR:e∈pre++r::(p1++q::p2):=by simp; exact .inr (.inr (by simpa using hem))
      have hself:=Rec.eff_self (hNr e heR)<|hok e heR
      cases ht':e.taken with
      |false=>left; rw [<- hself]; simp [Rec.eff,ht']
      | true =>
        cases hc:e.s.x.cls with
        |I=>left; rw [<- hself]; simp [Rec.eff,ht',hc]
        |D=>left; rw [<- hself]; simp [Rec.eff,ht',hc]
        |N=>exact absurd hc (hNr e heR)
        | A =>
          right
          have heS:SL listed e.i=true:=by
            rw [List.mem_append] at he;rcases he with h|h
            all_goals (grind)
          refine ⟨e.id k0,e.H' (e.id k0),(aRe hc<|e.st (hok e heR) ht').1,hdeadA e hem hc hrD (hdes e hem heS)⟩
        | E =>
          right
          have heS:SL listed e.i=true:=by
            rw [List.mem_append] at he;rcases he with h|h
            all_goals (grind)
          obtain ⟨a,b,hab⟩:=List.append_of_mem he;exact fresh e ⟨a,b,hab⟩ hc heS ht'
    have run:r.taken=true->St P (r.id k0) r.s.x r.T r.H (λa b=>a=r.v/\b=r.H')->o'.wp P a w (wpAny P .any ops (pA D n x0 Q) fuel<|listed.setIfInBounds r.i true) (pA D n x0 Q):=by
      intro ht hst'
      have hh:=aGV (S:=SL listed) (S':=SL<|listed.setIfInBounds r.i true) (H:=H) (λq hq=>hok q hq) hpre hpost hSi hS' hanc hdes
        (λq hq=>hsome q.p (by rw [<- hrs]; exact List.mem_map_of_mem hq))
        hlt3 hfr
        (hNr r SI) hrH ht hst'
      have hh2:St P (r.id k0) r.s.x (TS (SL listed) T (pre++r::post)) y.H λa b=>a=r.v/\b=HS k0 (SL<|listed.setIfInBounds r.i true) H (pre++r::post):=by
        rw [gN];refine aB4 (λt ht=>?_) hh;rw [hrT];exact (hagree t<|List.mem_append_left _ ht).symm
      rw [<- hyw];exact vF s3 hh2 hyI hyT.tmps λv c z hk hzI hzR hzF=>next v c z hk.1 hk.2 hzI hzR hzF
    unfold wpOp;simp only [ho];rcases s4 with ⟨hg,hsg⟩|⟨j,want,t,hg,hj,hsg⟩
    . have hw:Region.wanted o' (yielded ops a.tmps)=true:=by simp [Region.wanted,hg]
      rw [if_pos hw];have hsg':r.s.g=none:=hsg;simp only [Rec.OK,hsg'] at hrOK;exact .inl (run hrOK.1 hrOK.2)
    . have hsg':r.s.g=some (t,want):=hsg
      simp only [Rec.OK,hsg'] at hrOK;obtain ⟨b,hb,hcase⟩:=hrOK
      have hbT:gd want (TS (SL listed) T (pre++r::post) t)=b:=by
        rw [hagree t (by simp [SO.reads,hsg']),<- hrT]; exact hb
      have hy:=aAp hyT hj want;rw [hbT] at hy;rcases hcase with ⟨hbw,ht,hst'⟩|⟨hbw,ht,hv,hH'⟩
      . have hw:Region.wanted o' (yielded ops a.tmps)=true:=by simp only [Region.wanted,hg,hy,hbw]; first|done|simp
        rw [if_pos hw];exact .inl (run ht hst')
      . have hw: ¬ Region.wanted o' (yielded ops a.tmps)=true:=by simp only [Region.wanted,hg,hy,hbw]; first|done|simp
        rw [if_neg hw,<- hyw];refine next r.v undef y J ?_ hyI (by rw [hv]; exact .raw undef J) (Frame.refl y);have split:pre++r::post=pre++([r]++post):=by simp
        have neq: ∀ q∈pre++post,SL (listed.setIfInBounds r.i true) q.i=SL listed q.i:=λq hq=>by
          rw [hS']
          have:q.i≠r.i:=by
            rcases List.mem_append.1 hq with hq|hq
            . exact (hpre q hq).ne
            . exact Ne.symm (hpost q hq).ne
          simp [this]
        rw [gN,split,oO,oO,oO,oO,oK pre H λq hq=>neq q (List.mem_append_left _ hq),oK post _ λq hq=>neq q (List.mem_append_right _ hq)];congr 1;simp [HS,hSi,hS',Rec.eff,ht]
theorem aI6 {id : Nat} {L : List (Nat × SO)} (hslim : ∀ q ∈ L, ∃ o, ops[q.1]? = some o /\ pO P op n ops o = some q.2) (hB : aNa P ops L = true)
    {x:Cx} {T:Nat->V} {a:Act} (hdead: ∀ d∈late (Region.before ops) [] L,(x.H<|k0+d).live=false) (h:dE P k0 (L.map (·.2)) T x.H (Q .norm)) (hx:Inv x) (hT:TRel D n x T a) (hF:Frame x0 x):
    (Code.region id ops true).wp P (pA D n x0 Q) a x.w:=by
  unfold aNa at hB;simp only [Bool.and_eq_true] at hB;obtain ⟨⟨⟨⟨⟨b1,b2⟩,b3⟩,b4⟩,b5⟩,b6⟩:=hB;have hN: ∀ q∈L,q.2.x.cls≠.N:=λq hq=>by have:=List.all_eq_true.1 b5 q hq; simp at this; exact this.1
  obtain ⟨rs,h1,h2⟩:=yM L T x.H hN h;obtain ⟨dI,dF⟩:=jH hx (x.w.drawn+1)<|Nat.le_succ _
  refine wp_region_any b1 ?_
  refine aMa (rs:=rs) (T:=T) (H:=x.H) h1 h2 hslim b2 (λi hi=>?_) (λi o ho e he hb=>?_) hN (λq hq hA=>?_) ?_ hdead ops.size _ a _ SI (by
      refine Nat.le_trans (List.length_filter_le _ _) SI) (λi o ho hs=>by
        exfalso;unfold SL at hs;have:i < ops.size:=(Array.getElem?_eq_some_iff.1 ho).1;simp [this] at hs) ⟨{x with w:={x.w with drawn:=x.w.drawn+1}},rfl,?_,dI,?_,hF.trans dF⟩
  . simp_all
  . have:=List.all_eq_true.1 b4 (o,i) (by
      rw [List.mk_mem_zipIdx_iff_getElem?];simpa using ho)
    grind [Array.all_eq_true_iff_forall_mem]
  . have:=List.all_eq_true.1 b5 q hq
    simpa [hA] using this
  . rw [Bool.or_eq_true] at b6
    rcases b6 with b6|b6
    all_goals (grind)
  . have hS: ∀ r∈rs,SL (Array.replicate ops.size false) r.i=true-> ∀ G,r.eff k0 G=G:=λr _ h=>by
      exfalso;unfold SL at h;rw [Array.getD_eq_getD_getElem?,Array.getElem?_replicate] at h;split at h <;> simp at h
    exact (vC _ rs x.H hS).symm
  . have e:TS (SL<|Array.replicate ops.size false) T rs=T:=by
      funext t
      exact aCx _ t rs T λr _ h=>by
        exfalso;unfold SL at h;rw [Array.getD_eq_getD_getElem?,Array.getElem?_replicate] at h;split at h <;> simp at h
    rw [e];exact hT.frame hx dF
end
end Go.Proofs.YtinpihlhcmpkhaaGreat


namespace Go.Proofs.YtinpihlhcmpkhaaGreat
open Go
theorem aBo {P : Program} {id : Nat} {x : X} {T : Nat -> V} {H : aT} {k k' : V -> aT -> Prop} (hk : ∀ v H, k v H -> k' v H) (h : St P id x T H k) : St P id x T H k' := by
  cases x <;> simp only [St] at h ⊢
  case bslice ty esz own z len ps=>
    refine aCi (λrows h=>?_) h;cases own <;> exact hk _ _ h
  case append ty esz bytes s a =>
    split at h
    . split at h
      . rename_i c1
        rw [if_pos c1];split at h
        . rename_i c2
          rw [if_pos c2];split at h
          . rename_i c3
            rw [if_pos c3];split at h
            . rename_i c4
              rw [if_pos c4];split at h
              . rename_i c5
                rw [if_pos c5];refine aCi (λnew h=>?_) h;split at h
                . rename_i c6
                  rw [if_pos c6];split at h
                  . rename_i c7
                    rw [if_pos c7];split at h
                    . rename_i c8
                      rw [if_pos c8];exact hk _ _ h
                    . cases h
                  . cases h
                . cases h
              . cases h
            . cases h
          . cases h
        . cases h
      . cases h
    . cases h
  case call e f args=>
    cases e
    . obtain ⟨v,h1,h2⟩:=h; exact ⟨v,h1,hk _ _ h2⟩
    . obtain ⟨v,H',h1,h2⟩:=h; exact ⟨v,H',h1,hk _ _ h2⟩
  case callA f args=>obtain ⟨v,b,h1,h2,h3⟩:=h; exact ⟨v,b,h1,h2,hk _ _ h3⟩
  case callv e g args=>
    split at h
    . cases e
      . obtain ⟨v,h1,h2⟩:=h; exact ⟨v,h1,hk _ _ h2⟩
      . obtain ⟨v,H',h1,h2⟩:=h; exact ⟨v,H',h1,hk _ _ h2⟩
    . cases h
  all_goals (grind [aCi])
theorem kK {P:Program} {k0:Nat} {K K':(Nat->V)->aT->Prop} (hk: ∀ T H,K T H->K' T H): ∀ {ops:List SO} {T:Nat->V} {H:aT},dE P k0 ops T H K->dE P k0 ops T H K':=by
  intro ops
  induction ops <;> grind [dE,aBo]
def X.pt:X->Option (Nat×Nat)
  | .load _ n (.t a)=>if n=0 then none else some (a,n)
  | .store n (.t a) _=>some (a,n)
  | .append _ _ _ (.t s) (.t _)=>some (s,0)
  |_=>none
def X.ar:X->List Nat
  | .load _ _ (.t a)=>[a]
  | .store _ (.t a) _=>[a]
  | .append _ _ _ (.t s) (.t a)=>[s,a]
  | .len (.t a)=>[a]
  | .idx _ (.t a) _=>[a]
  |_=>[]
def X.slt:X->Option Nat
  | .len (.t a)=>some a
  | .idx _ (.t a) _=>some a
  |_=>none
def X.lz:X->Bool
  | .lazy _ _=>true
  |_=>false
def X.free (x:X):Bool:=x.cls==.I||(match x with
  | .bslice _ _ own _ _ _=> !own
  |_=>false)
def X.lc0 (x:X):Bool:=x.free||x.pt.isSome
def X.lc (x:X):Bool:=x.lc0||(x.slt.isSome||x.lz)
section
variable {P:Program} {k0:Nat} {T:Nat->V} {H H1 H2:aT} {v v':V}
theorem aGO (H:aT) (i:Nat):cU H i (H i)=H:=by grind [aR,bT]
theorem aIz {H:aT} {i j:Nat} (h:i≠j) (B C:Blk):cU (cU H i B) j C=cU (cU H j C) i B:=by grind [rR]
theorem aJw (H:aT) (i:Nat) (B C:Blk):cU (cU H i B) i C=cU H i C:=by grind [rR]
theorem aCu {id:Nat} {x:X} (hf:x.free=true) (h:St P id x T H λa b=>a=v/\b=H1):H1=H/\ ∀ G,St P id x T G λa b=>a=v/\b=G:=by
  unfold X.free at hf;rw [Bool.or_eq_true] at hf;rcases hf with hf|hf
  . exact aQI (by simpa using hf) h
  grind [St,bW]
def Lcl (P:Program) (id:Nat) (x:X) (T:Nat->V) (i:Nat):Prop:= ∀ (H:aT) (v:V) (H1:aT),St P id x T H (λa b=>a=v/\b=H1)-> ∃ B,H1=cU H i B/\ ∀ G:aT,G i=H i->St P id x T G λa b=>a=v/\b=cU G i B
def bkV:V->Option Nat
  | .mp i _ _ _=>some i
  | .ms i _ _ _=>some i
  |_=>none
theorem aK7 {id:Nat} {g:Bool} {n a i ver row off:Nat} (h:T a=.mp i ver row off):Lcl P id (.load g n (.t a)) T i:=λH v H1 hst=>by
  simp only [St,bW,ev,h] at hst;obtain ⟨r,h1,e1,e2⟩:=hst;subst e1; subst e2;refine ⟨H i,(aGO ..).symm,λG hG=>?_⟩;have e:ptr G (.mp i ver row off)=ptr H (.mp i ver row off):=by simp only [ptr,ok,hG]; rfl
  simp only [St,bW,ev,h,e];exact ⟨r,h1,J,by rw [<- hG,aGO]⟩
theorem qJ {n:Nat} {vs:List V} {i ver row off:Nat}:stP H n vs (.mp i ver row off)=some H1↔ok H i ver=true/\vs.length=n/\vs.all V.one=true/\ ∃ r,(H i).rows[row]?=some r/\off+n<=r.length/\H1=cU H i {H i with rows:=(H i).rows.set row (iO r off vs)}:=by grind [stP]
theorem aKj {id n a i ver row off:Nat} {b:SX} (h:T a=.mp i ver row off):Lcl P id (.store n (.t a) b) T i:=λH v H1 hst=>by
  simp only [St,bW,ev,h] at hst;obtain ⟨G1,h1,e1,e2⟩:=hst;subst e1; subst e2;obtain ⟨q1,q2,q3,r,q4,q5,q6⟩:=qJ.1 h1;refine ⟨_,q6,λG hG=>?_⟩;simp only [St,bW,ev,h];exact ⟨_,qJ.2 ⟨by unfold ok at q1 ⊢; rw [hG]; exact q1,q2,q3,r,by rw [hG]; exact q4,q5,J⟩,trivial,by rw [hG]⟩
theorem aH0 {id ty esz bytes s a i ver off len : Nat} (h : T s = .ms i ver off len) (ha : pJ T (.append ty esz bytes (.t s) (.t a)) = true) : Lcl P id (.append ty esz bytes (.t s) (.t a)) T i := λH v H1 hst => by
  have hrow: ∀ G:aT,aAI G (T a)=aAI H (T a):=λG=>by
    simp only [pJ] at ha;cases hT:T a <;> first|rfl|skip
    rw [hT] at ha; cases ha
  simp only [St,ev,h] at hst;split at hst
  . rename_i c1
    split at hst
    . rename_i c2
      split at hst
      . rename_i c3
        split at hst
        . rename_i c4
          split at hst
          . rename_i c5
            rw [bW] at hst;obtain ⟨new,h1,hst⟩:=hst;split at hst
            . rename_i c6
              split at hst
              . rename_i c7
                split at hst
                . rename_i c8
                  obtain ⟨rfl,rfl⟩:=hst;refine ⟨_,J,λG hG=>?_⟩;simp only [St,ev,h,hG,hrow G];rw [if_pos c1,if_pos c2,if_pos c3,if_pos c4,if_pos c5,bW];refine ⟨new,h1,?_⟩;rw [if_pos c6,if_pos c7,if_pos c8];exact ⟨J,J⟩
                . cases hst
              . cases hst
            . cases hst
          . cases hst
        . cases hst
      . cases hst
    . cases hst
  . cases hst
theorem aFg {id : Nat} {x : X} {p n : Nat} (hp : x.pt = some (p, n)) (ha : pJ T x = true) (h : St P id x T H λa b => a = v /\ b = H1) :
    (H1=H/\ ∀ G,St P id x T G λa b=>a=v/\b=G)\/ ∃ i,bkV (T p)=some i/\Lcl P id x T i:=by
  cases x <;> first|(cases hp; done)|skip
  case load g m a=>
    cases a with
    |c _=>cases hp
    | t q =>
      simp only [X.pt] at hp;split at hp
      . cases hp
      . cases hp
        have h0:=h;simp only [St,bW,ev] at h;obtain ⟨r,h1,e1,e2⟩:=h;subst e1; subst e2;cases hT:T p <;> rw [hT] at h1 <;> simp only [ptr,Option.bind_none] at h1 <;> first|(cases h1; done)|skip
        . refine .inl ⟨J,λG=>?_⟩
          simp only [St,bW,ev,hT,ptr];exact ⟨r,h1,J,trivial⟩
        . exact .inr ⟨_,J,aK7 hT⟩
  case store m a b=>
    cases a with
    |c _=>cases hp
    | t q =>
      cases hp;obtain ⟨i,ver,row,off,hT⟩:=rF h;exact .inr ⟨i,by rw [hT]; rfl,aKj hT⟩
  case append ty esz bytes s a=>
    cases s with
    |c _=>cases hp
    | t q =>
      cases a with
      |c _=>cases hp
      | t a =>
        cases hp;have h0:=h;simp only [St,ev] at h0;split at h0
        . rename_i i ver off len hT
          exact .inr ⟨i,by rw [hT]; rfl,aH0 hT ha⟩
        . cases h0
theorem aJY {vs r:List V} {o k:Nat} (h:o+vs.length<=r.length) (hk:k < o\/o+vs.length<=k):(iO r o vs)[k]?=r[k]?:=by grind [vA]
theorem aKb {vs us r:List V} {o u:Nat} (h1:o+vs.length<=r.length) (h2:u+us.length<=r.length) (hd:o+vs.length<=u\/u+us.length<=o):iO (iO r o vs) u us=iO (iO r u us) o vs:=by
  refine List.ext_getElem? λk=>?_
  grind [vA,jZ]
theorem aKl {g:Bool} {n:Nat} {cs ds:List V} (hn:n≠0) (hl:cs.length=ds.length) (h:cs.take n=ds.take n):ldV g n cs=ldV g n ds:=by
  unfold ldV;rw [h,hl]
  have e:cs.head?=ds.head?:=by
    cases n with
    |zero=>exact absurd rfl hn
    |succ n=>cases cs <;> cases ds <;> simp_all
  rw [e]
theorem aBh {i:Nat} {rows:List (List V)} (hr:rows.length=(H i).rows.length) (j w:Nat):ok (cU H i {H i with rows:=rows}) j w=ok H j w:=by grind [ok,aR,Blk.own,bT]
theorem aQg {g:Bool} {n m i ver row off ver' row' off':Nat} {vs:List V} (h:stP H n vs (.mp i ver row off)=some H1) (hm:m≠0) (hd:row≠row'\/off+n<=off'\/off'+m<=off):
    (ptr H1 (.mp i ver' row' off')).bind (ldV g m)=(ptr H (.mp i ver' row' off')).bind (ldV g m):=by
  obtain ⟨q1,q2,q3,r,q4,q5,rfl⟩:=qJ.1 h;simp only [ptr];rw [aBh (List.length_set ..),aR];split
  . by_cases e:row=row'
    . subst e
      have hlt:row < (H i).rows.length:=(List.getElem?_eq_some_iff.1 q4).1;have e1:((H i).rows.set row (iO r off vs))[row]?=some (iO r off vs):=by simp [hlt]
      simp only [e1,q4,Option.map_some,Option.bind_some];refine aKl hm (by simp [jZ]) (List.ext_getElem? λk=>?_)
      grind [aJY]
    grind
  . rfl
theorem aRS {n m i ver row off ver' row' off':Nat} {vs us:List V} (h:stP H n vs (.mp i ver row off)=some H1) (h2:stP H1 m us (.mp i ver' row' off')=some H2) (hd:row≠row'\/off+n<=off'\/off'+m<=off):
    ∃ G,stP H m us (.mp i ver' row' off')=some G/\stP G n vs (.mp i ver row off)=some H2:=by
  obtain ⟨q1,q2,q3,r,q4,q5,rfl⟩:=qJ.1 h;obtain ⟨p1,p2,p3,s,p4,p5,rfl⟩:=qJ.1 h2;rw [aBh (List.length_set ..)] at p1;rw [aR] at p4;have hlt:row < (H i).rows.length:=(List.getElem?_eq_some_iff.1 q4).1;have hlt':row' < (H i).rows.length:=by grind
  by_cases e:row=row'
  . subst e
    have hs:s=iO r off vs:=by simpa [hlt] using p4.symm
    subst hs;rw [jZ] at p5;refine ⟨_,qJ.2 ⟨p1,p2,p3,r,q4,p5,J⟩,qJ.2 ⟨by rw [aBh (List.length_set ..)]; exact q1,q2,q3,iO r off' us,by rw [aR]; simp [hlt],by rw [jZ]; exact q5,?_⟩⟩
    grind [aR,aJw,List.set_set,aKb]
  simp_all [qJ,aBh,aR,Ne.symm,aJw,List.set_comm]
theorem aR4 {i1 i2 : Nat} {x y : X} (lx : x.lc0 = true) (ly : y.lc0 = true) (ax : pJ T x = true) (ay : pJ T y = true)
    (hap: ∀ p n q m,x.pt=some (p,n)->y.pt=some (q,m)->(x.cls=.E\/y.cls=.E)->apV n m (T p) (T q)=true)
    (h1:St P i1 x T H λa b=>a=v/\b=H1) (h2:St P i2 y T H1 λa b=>a=v'/\b=H2):
    ∃ G,St P i2 y T H (λa b=>a=v'/\b=G)/\St P i1 x T G λa b=>a=v/\b=H2:=by
  have xfree:(H1=H/\ ∀ G,St P i1 x T G λa b=>a=v/\b=G)-> ∃ G,St P i2 y T H (λa b=>a=v'/\b=G)/\St P i1 x T G λa b=>a=v/\b=H2:=λ⟨e,h⟩=>by
    subst e; exact ⟨H2,h2,h H2⟩
  have yfree:(H2=H1/\ ∀ G,St P i2 y T G λa b=>a=v'/\b=G)-> ∃ G,St P i2 y T H (λa b=>a=v'/\b=G)/\St P i1 x T G λa b=>a=v/\b=H2:=λ⟨e,h⟩=>by
    subst e; exact ⟨H,h H,h1⟩
  unfold X.lc0 at lx ly;rw [Bool.or_eq_true] at lx ly;rcases lx with lx|lx
  . exact xfree<|aCu lx h1
  rcases ly with ly|ly
  . exact yfree<|aCu ly h2
  obtain ⟨⟨p,n⟩,hp⟩:=Option.isSome_iff_exists.1 lx;obtain ⟨⟨q,m⟩,hq⟩:=Option.isSome_iff_exists.1 ly;rcases aFg hp ax h1 with h|⟨i,bi,li⟩
  . exact xfree h
  rcases aFg hq ay h2 with h|⟨j,bj,lj⟩
  . exact yfree h
  obtain ⟨B,e1,g1⟩:=li _ _ _ h1;by_cases e:i=j
  . subst e
    have hA:=hap p n q m hp hq;cases x <;> first|(cases hp; done)|skip
    case append ty esz bytes s a=>
      exfalso;cases s with
      |c _=>cases hp
      | t s =>
        cases a with
        |c _=>cases hp
        | t a =>
          cases hp;have hA:=hA (.inl J);simp only [St,ev] at h1;split at h1
          . rename_i i' ver off len hT
            rw [hT] at bi hA;cases bi;cases hq':T q <;> rw [hq'] at bj hA <;> first|(cases bj; done)|skip
            all_goals (cases bj; simp [apV] at hA)
          . cases h1
    all_goals cases y <;> first|(cases hq; done)|skip
    case load.append g k a ty esz bytes s b=>
      exfalso;cases s with
      |c _=>cases hq
      | t s =>
        cases b with
        |c _=>cases hq
        | t b =>
          cases hq;have hA:=hA (.inr J);simp only [St,ev] at h2;split at h2
          . rename_i i' ver off len hT
            rw [hT] at bj hA;cases bj;cases hp':T p <;> rw [hp'] at bi hA <;> first|(cases bi; done)|skip
            all_goals (cases bi; simp [apV] at hA)
          . cases h2
    case store.append k a c ty esz bytes s b=>
      exfalso;cases s with
      |c _=>cases hq
      | t s =>
        cases b with
        |c _=>cases hq
        | t b =>
          cases hq;have hA:=hA (.inr J);simp only [St,ev] at h2;split at h2
          . rename_i i' ver off len hT
            rw [hT] at bj hA;cases bj;cases hp':T p <;> rw [hp'] at bi hA <;> first|(cases bi; done)|skip
            all_goals (cases bi; simp [apV] at hA)
          . cases h2
    case load.load g k a g' k' b=>
      simp only [St,bW] at h1 h2;obtain ⟨r,w1,w2,w3⟩:=h1;obtain ⟨r',w1',w2',w3'⟩:=h2;subst w2; subst w3; subst w2'; subst w3';refine ⟨H,?_,?_⟩
      . simp only [St,bW]; exact ⟨r',w1',J,trivial⟩
      . simp only [St,bW]; exact ⟨r,w1,J,trivial⟩
    case load.store g k a k' b c=>
      cases a with
      |c _=>cases hp
      | t a =>
        simp only [X.pt] at hp;split at hp
        . cases hp
        rename_i hk;cases hp;cases b with
        |c _=>cases hq
        | t b =>
          cases hq;have hA:=hA (.inr J);obtain ⟨i',ver',row',off',hT'⟩:=rF h2;rw [hT'] at bj; cases bj;cases hT:T p <;> rw [hT] at bi <;> first|(cases bi; done)|skip
          . exfalso; cases bi; rw [hT,hT'] at hA; simp [apV] at hA
          . rename_i id' ver row off
            cases bi;rw [hT,hT'] at hA;simp only [St,bW,ev,hT] at h1;obtain ⟨r,w1,w2,w3⟩:=h1;subst w2; subst w3;have h2':=h2;simp only [St,bW,ev,hT'] at h2';obtain ⟨G,u1,u2,u3⟩:=h2';subst u3;refine ⟨G,h2,?_⟩;simp only [St,bW,ev,hT];exact ⟨r,(aQg u1 hk (by simp [apV] at hA; omega)).trans w1,J,trivial⟩
    case store.load k a c g k' b=>
      cases b with
      |c _=>cases hq
      | t b =>
        simp only [X.pt] at hq;split at hq
        . cases hq
        rename_i hk;cases hq;cases a with
        |c _=>cases hp
        | t a =>
          cases hp;have hA:=hA (.inl J);obtain ⟨i',ver',row',off',hT'⟩:=rF h1;rw [hT'] at bi; cases bi;cases hT:T q <;> rw [hT] at bj <;> first|(cases bj; done)|skip
          . exfalso; cases bj; rw [hT,hT'] at hA; simp [apV] at hA
          . rename_i id' ver row off
            cases bj;rw [hT,hT'] at hA;have h1':=h1;simp only [St,bW,ev,hT'] at h1';obtain ⟨G,u1,u2,u3⟩:=h1';subst u3;simp only [St,bW,ev,hT] at h2;obtain ⟨r,w1,w2,w3⟩:=h2;subst w2; subst w3;refine ⟨H,?_,h1⟩;simp only [St,bW,ev,hT];exact ⟨r,(aQg u1 hk (by simp [apV] at hA; omega)).symm.trans w1,J,trivial⟩
    case store.store k a c k' b d=>
      cases a with
      |c _=>cases hp
      | t a =>
        cases b with
        |c _=>cases hq
        | t b =>
          cases hp; cases hq;have hA:=hA (.inl J);obtain ⟨i1',ver,row,off,hT⟩:=rF h1;obtain ⟨i2',ver',row',off',hT'⟩:=rF h2;rw [hT] at bi; cases bi;rw [hT'] at bj; cases bj;rw [hT,hT'] at hA;simp only [St,bW,ev,hT] at h1;simp only [St,bW,ev,hT'] at h2;obtain ⟨G1,u1,u2,u3⟩:=h1;obtain ⟨G2,w1,w2,w3⟩:=h2;subst u3; subst w3;obtain ⟨G,z1,z2⟩:=aRS u1 w1 (by simp [apV] at hA; omega);refine ⟨G,?_,?_⟩
          . simp only [St,bW,ev,hT']; exact ⟨G,z1,w2,J⟩
          . simp only [St,bW,ev,hT]; exact ⟨_,z2,u2,J⟩
  . obtain ⟨C,e2,g2⟩:=lj _ _ _ h2
    subst e1; subst e2;refine ⟨cU H j C,g2 H (bT _ _<|Ne.symm e).symm,?_⟩
    grind [aIz,bT]
theorem aJp {id : Nat} {x : X} (hs : x.slt.isSome = true) (ha : pJ T x = true) (h : St P id x T H λa b => a = v /\ b = H1) : H1 = H /\ ∀ G, St P id x T G λa b => a = v /\ b = G := by
  cases x <;> first|(cases hs; done)|skip
  case idx esz a i=>
    cases a with
    |c _=>cases hs
    | t a =>
      simp only [St,bW,ev] at h ⊢;obtain ⟨r,h1,e1,e2⟩:=h;refine ⟨e2.symm,λG=>⟨r,?_,e1,trivial⟩⟩;simp only [pJ] at ha
      have key: ∀ w:V,xQ G esz (T a) w=xQ H esz (T a) w:=λw=>by
        cases hT:T a <;> rw [hT] at ha <;> first|(cases ha; done)|skip
        all_goals cases w <;> rfl
      exact (key _).trans h1
  case len a=>
    cases a with
    |c _=>cases hs
    | t a =>
      simp only [St,bW,ev] at h ⊢;obtain ⟨r,h1,e1,e2⟩:=h;refine ⟨e2.symm,λG=>⟨r,?_,e1,trivial⟩⟩;simp only [pJ] at ha;cases hT:T a <;> rw [hT] at ha h1 <;> first|(cases ha; done)|exact h1
theorem aM6 {id:Nat} {x:X} (hz:x.lz=true):Lcl P id x T id:=λH v H1 hst=>by
  cases x <;> first|(cases hz; done)|skip
  simp only [St] at hst;obtain ⟨rfl,rfl⟩:=hst;refine ⟨_,J,λG hG=>?_⟩;simp only [St,hG];exact ⟨trivial,trivial⟩
theorem aOX {i1 i2 i j:Nat} {x y:X} (li:Lcl P i1 x T i) (lj:Lcl P i2 y T j) (e:i≠j) (h1:St P i1 x T H λa b=>a=v/\b=H1) (h2:St P i2 y T H1 λa b=>a=v'/\b=H2):
    ∃ G,St P i2 y T H (λa b=>a=v'/\b=G)/\St P i1 x T G λa b=>a=v/\b=H2:=by
  obtain ⟨B,e1,g1⟩:=li _ _ _ h1;obtain ⟨C,e2,g2⟩:=lj _ _ _ h2;subst e1; subst e2;refine ⟨cU H j C,g2 H (bT _ _<|Ne.symm e).symm,?_⟩
  grind [aIz,bT]
def X.bk (id:Nat) (x:X) (T:Nat->V):Option Nat:=if x.lz=true then some id else x.pt.bind λp=>bkV (T p.1)
theorem aSU {i1 i2 : Nat} {x y : X} (lx : x.lc = true) (ly : y.lc = true) (ax : pJ T x = true) (ay : pJ T y = true)
    (hap: ∀ p n q m,x.pt=some (p,n)->y.pt=some (q,m)->(x.cls=.E\/y.cls=.E)->apV n m (T p) (T q)=true)
    (hz:(x.lz=true\/y.lz=true)-> ∀ i j,x.bk i1 T=some i->y.bk i2 T=some j->i≠j)
    (h1:St P i1 x T H λa b=>a=v/\b=H1) (h2:St P i2 y T H1 λa b=>a=v'/\b=H2):
    ∃ G,St P i2 y T H (λa b=>a=v'/\b=G)/\St P i1 x T G λa b=>a=v/\b=H2:=by
  have xfree:(H1=H/\ ∀ G,St P i1 x T G λa b=>a=v/\b=G)-> ∃ G,St P i2 y T H (λa b=>a=v'/\b=G)/\St P i1 x T G λa b=>a=v/\b=H2:=λ⟨e,h⟩=>by
    subst e; exact ⟨H2,h2,h H2⟩
  have yfree:(H2=H1/\ ∀ G,St P i2 y T G λa b=>a=v'/\b=G)-> ∃ G,St P i2 y T H (λa b=>a=v'/\b=G)/\St P i1 x T G λa b=>a=v/\b=H2:=λ⟨e,h⟩=>by
    subst e; exact ⟨H,h H,h1⟩
  by_cases sx:x.slt.isSome=true
  . exact xfree<|aJp sx ax h1
  by_cases sy:y.slt.isSome=true
  . exact yfree<|aJp sy ay h2
  have kind: ∀ {i0:Nat} {z:X} {G G1:aT} {u:V},z.lc=true-> ¬z.slt.isSome=true->pJ T z=true->(St P i0 z T G λa b=>a=u/\b=G1)->(G1=G/\ ∀ G,St P i0 z T G λa b=>a=u/\b=G)\/ ∃ i,z.bk i0 T=some i/\Lcl P i0 z T i:=by
    intro i0 z G G1 u lz sz az hz;by_cases zz:z.lz=true
    . exact .inr ⟨i0,if_pos zz,aM6 zz⟩
    . have l0:z.lc0=true:=by
        grind [X.lc]
      unfold X.lc0 at l0;rw [Bool.or_eq_true] at l0;rcases l0 with l0|l0
      . exact .inl (aCu l0 hz)
      . obtain ⟨⟨p,n⟩,hp⟩:=Option.isSome_iff_exists.1 l0
        simp_all [aFg,X.bk]
  by_cases zz:x.lz=true\/y.lz=true
  . rcases kind lx sx ax h1 with h|⟨i,bi,li⟩
    . exact xfree h
    rcases kind ly sy ay h2 with h|⟨j,bj,lj⟩
    . exact yfree h
    exact aOX li lj (hz zz i j bi bj) h1 h2
  . have l0: ∀ {z:X},z.lc=true-> ¬z.slt.isSome=true-> ¬z.lz=true->z.lc0=true:=λ{z} lz sz zz=>by
      grind [X.lc]
    exact aR4 (l0 lx sx λh=>zz (.inl h)) (l0 ly sy λh=>zz (.inr h)) ax ay hap h1 h2
end
end Go.Proofs.YtinpihlhcmpkhaaGreat


namespace Go.Proofs.YtinpihlhcmpkhaaGreat
open Go
section
variable {P:Program} {k0:Nat}
def SO.pt (s:SO):Option (Nat×Nat):=if s.x.lz=true then s.d.map λd=>(d,0) else s.x.pt
def SO.mv (s:SO):Bool:=s.x.cls==.E||s.x.lz
structure PRX (b:Array Nat) (ps:List Ap4) (q r:Nat×SO):Prop where
  back:gX b q.1 r.1=false
  ne:q.1≠r.1
  dst: ∀ d,q.2.d=some d->r.2.d≠some d
  rd: ∀ d,q.2.d=some d->d∈r.2.x.ts->gX b r.1 q.1=true
  wr: ∀ d,r.2.d=some d->d∈q.2.x.ts->gX b r.1 q.1=true
  keep: ∀ d,r.2.d=some d->d∉q.2.x.ar
  cf:gX b r.1 q.1=false-> ∀ p n p' m,q.2.pt=some (p,n)->r.2.pt=some (p',m)->(q.2.mv=true\/r.2.mv=true)->(p,n,p',m)∈ps
def aNY (b : Array Nat) (ps : List Ap4) (q r : Nat × SO) : Bool :=
  let anc:=gX b r.1 q.1
  !(gX b q.1 r.1)&&q.1 != r.1&&
  (match q.2.d with
    |some d=>r.2.d != some d&&(anc|| !r.2.x.ts.contains d)
    |none=>true)&&
  (match r.2.d with
    |some d=>(anc|| !q.2.x.ts.contains d)&& !q.2.x.ar.contains d
    |none=>true)&&
  (anc||match q.2.pt,r.2.pt with
    |some p,some p'=> !(q.2.mv||r.2.mv)||ps.contains (p.1,p.2,p'.1,p'.2)
    |_,_=>true)
theorem aKM {b:Array Nat} {ps:List Ap4} {q r:Nat×SO} (h:aNY b ps q r=true):PRX b ps q r:=by
  unfold aNY at h;simp only [Bool.and_eq_true,Bool.not_eq_true',bne_iff_ne,ne_eq] at h;obtain ⟨⟨⟨⟨h1,h2⟩,h3⟩,h4⟩,h5⟩:=h;refine ⟨h1,h2,λd hd=>?_,λd hd hr=>?_,λd hd hr=>?_,λd hd hr=>?_,λha p n p' m hp hp' hE=>?_⟩
  . rw [hd] at h3; simp only [Bool.and_eq_true,bne_iff_ne,ne_eq] at h3; exact h3.1
  . rw [hd] at h3
    simp only [Bool.and_eq_true,Bool.or_eq_true,Bool.not_eq_true',List.contains_eq_mem,decide_eq_false_iff_not] at h3;exact h3.2.resolve_right λh=>h hr
  . rw [hd] at h4
    simp only [Bool.and_eq_true,Bool.or_eq_true,Bool.not_eq_true',List.contains_eq_mem,decide_eq_false_iff_not] at h4;exact h4.1.resolve_right λh=>h hr
  . rw [hd] at h4
    simp only [Bool.and_eq_true,Bool.or_eq_true,Bool.not_eq_true',List.contains_eq_mem,decide_eq_false_iff_not] at h4;exact h4.2 hr
  . rw [ha,hp,hp'] at h5
    simp only [Bool.false_or,Bool.or_eq_true,Bool.not_eq_true',Bool.or_eq_false_iff,List.contains_eq_mem,decide_eq_true_eq] at h5;rcases h5 with h5|h5
    . rcases hE with e|e
      . rw [e] at h5; cases h5.1
      . rw [e] at h5; cases h5.2
    . exact h5
def seB (s:SO):Bool:=s.g.isNone&&s.x.lc&&(match s.d with
  |some d=> !s.x.ar.contains d
  |none=> !s.x.lz)
theorem aPT {x:X} {t:Nat} (h:t∈x.ar):t∈x.ts:=by
  cases x <;> simp only [X.ar] at h <;> first|(cases h; done)|skip
  case load g n a=>cases a <;> simp_all [X.ts,SX.ts]
  case store n a b=>cases a <;> simp_all [X.ts,SX.ts]
  case append ty esz bytes s a=>cases s <;> cases a <;> simp_all [X.ts,SX.ts]
  case idx n a i=>cases a <;> simp_all [X.ts,SX.ts]
  case len a=>cases a <;> simp_all [X.ts,SX.ts]
theorem aH9 {x:X} (h:x.lc=true):x.cls≠.N:=by
  cases x <;> first|(intro e; cases e; done)|skip
  all_goals first|(simp [X.lc,X.lc0,X.slt,X.lz,X.free,X.pt,X.cls] at h; done)|(intro e; simp only [X.cls] at e; split at e <;> cases e)|(rename_i e _ _; cases e <;> cases h)
theorem aNi {D : Prop} : ∀ {l : List SO} {T : Nat -> V} {H : aT} {K : (Nat -> V) -> aT -> Prop}, (∀ s ∈ l, seB s = true) -> l.Pairwise (λq r => ∀ d, q.d = some d -> r.d ≠ some d) -> dE P k0 l T H K ->
    (∀ T' H',K T' H'->(∀ t,(∀ s∈l,s.d≠some t)->T' t=T t)->(∀ s∈l,s.x.lz=true-> ∀ d,s.d=some d-> ∃ v,T' d=.ms (k0+d) v 0 0)->D)->D
  |[],T,H,K,_,_,h,hD=>hD T H h (λ_ _=>rfl) (λs hs=>by cases hs)
  | s :: l, T, H, K, hs, hp, h, hD => by
    have h0:=hs s<|List.mem_cons_self ..
    rw [List.pairwise_cons] at hp;unfold seB at h0;simp only [Bool.and_eq_true,Option.isNone_iff_eq_none] at h0;simp only [dE,h0.1.1] at h;obtain ⟨v,H1,h1,st⟩:=aCe (aH9 h0.1.2) h;refine aNi (λq hq=>hs q<|List.mem_cons_of_mem _ hq) hp.2 h1 λT' H' hk ha hz=>hD T' H' hk (λt ht=>?_) λq hq hl d hd=>?_
    . rw [ha t λq hq=>ht q (List.mem_cons_of_mem _ hq)]
      cases hd:s.d with
      |none=>rfl
      |some d=>exact bT _ _ λe=>ht s (List.mem_cons_self ..) (by rw [hd,e])
    . rcases List.mem_cons.1 hq with rfl|hq
      . rw [ha d λr hr=>hp.1 r hr d hd,hd]
        rw [hd] at st;cases hx:q.x <;> rw [hx] at hl <;> first|(cases hl; done)|skip
        rw [hx] at st;simp only [St] at st;obtain ⟨e,_⟩:=st;exact ⟨_,by rw [show jJ T (some d) v d=v from aR ..,<- e]; rfl⟩
      . exact hz q hq hl d hd
theorem swap {x y : SO} {s : List SO} {T : Nat -> V} {H : aT} {K : (Nat -> V) -> aT -> Prop} (hx : seB x = true) (hy : seB y = true) (d0 : ∀ d, x.d = some d -> y.d ≠ some d) (d1 : ∀ d, x.d = some d -> d ∉ y.x.ts) (d2 : ∀ d, y.d = some d -> d ∉ x.x.ts)
    (ax:pJ T x.x=true) (ay:pJ T y.x=true) (hap: ∀ p n q m,x.x.pt=some (p,n)->y.x.pt=some (q,m)->(x.x.cls=.E\/y.x.cls=.E)->apV n m (T p) (T q)=true)
    (hz:(x.x.lz=true\/y.x.lz=true)-> ∀ i j,x.x.bk (k0+x.d.getD 0) T=some i->y.x.bk (k0+y.d.getD 0) T=some j->i≠j)
    (h:dE P k0 (x::y::s) T H K):dE P k0 (y::x::s) T H K:=by
  unfold seB at hx hy;simp only [Bool.and_eq_true,Option.isNone_iff_eq_none] at hx hy
  have put: ∀ {d:Option Nat} {l:List Nat} {v:V} (_: ∀ e,d=some e->e∉l),∀ t∈l,jJ T d v t=T t:=λ{d} {l} {v} hd t ht=>by
    cases e:d with
    |none=>rfl
    |some e'=>exact bT _ _ λq=>hd e' e (q ▸ ht)
  simp only [dE,hx.1.1,hy.1.1] at h ⊢;obtain ⟨v,H1,h1,st1⟩:=aCe (aH9 hx.1.2) h;obtain ⟨v',H2,h2,st2⟩:=aCe (aH9 hy.1.2) h1;have st2':=aB4 (put (v:=v) d1) st2;obtain ⟨G,g1,g2⟩:=aSU hx.1.2 hy.1.2 ax ay hap hz st1 st2';refine aBo ?_ g1;rintro a b ⟨rfl,rfl⟩;refine aB4 (T:=T) (λt ht=>(put (v:=a) d2 t ht).symm)<|aBo ?_ g2
  rintro a' b' ⟨rfl,rfl⟩
  have e:jJ (jJ T y.d a) x.d a'=jJ (jJ T x.d a') y.d a:=by
    cases hxd:x.d with
    |none=>rfl
    | some d => cases hyd : y.d with
      |none=>rfl
      | some d' =>
        have hne:d≠d':=λe=>d0 d hxd (by rw [hyd,e])
        funext t;simp only [jJ,rR];by_cases e1:t=d <;> by_cases e2:t=d'
        . exact absurd (e1.symm.trans e2) hne
        . simp [e1,hne]
        . simp [e2,Ne.symm hne]
        . simp [e1,e2]
  rw [e];exact h2
theorem aQv {b : Array Nat} {ps : List Ap4} {ops0 : List SO} {x : Nat × SO} {v : List (Nat × SO)} {K : (Nat -> V) -> aT -> Prop} (hK : ∀ T H, K T H -> ddB ps ops0 T = true) : ∀ {u : List (Nat × SO)} {T : Nat -> V} {H : aT}, (u ++ x :: v).Pairwise (PRX b ps) -> (∀ q ∈ u ++ x :: v, seB q.2 = true /\ q.2 ∈ ops0) -> (∀ q ∈ u, gX b x.1 q.1 = false) ->
    dE P k0 ((u++x::v).map (·.2)) T H K->dE P k0 ((x::(u++v)).map (·.2)) T H K
  |[],_,_,_,_,_,h=>h
  | q :: u, T, H, hp, hs, hn, h => by
    rw [List.cons_append,List.pairwise_cons] at hp;have hsq:=hs q SI;have hsx:=hs x SI;have hg:q.2.g=none:=by have:=hsq.1; unfold seB at this; simp only [Bool.and_eq_true,Option.isNone_iff_eq_none] at this; exact this.1.1
    have h':dE P k0 ((q::x::(u++v)).map (·.2)) T H K:=by
      simp only [List.cons_append,List.map_cons,dE,hg] at h ⊢;exact aBo (λw H' hh=>by have:=aQv hK (u:=u) hp.2 (λr hr=>hs r (by simp only [List.cons_append,List.mem_cons]; exact .inr hr)) (λr hr=>hn r<|List.mem_cons_of_mem _ hr) hh; simpa only [List.map_cons,dE] using this) h
    have hqx:PRX b ps q x:=hp.1 x SI;have hnq:=hn q<|List.mem_cons_self ..
    have rest: ∀ e∈u++v,PRX b ps q e/\(PRX b ps x e\/(PRX b ps e x/\gX b x.1 e.1=false)):=λe he=>by
      refine ⟨hp.1 e (by rw [List.mem_append] at he ⊢; rcases he with he|he <;> simp [he]),?_⟩;rcases List.mem_append.1 he with he|he
      . obtain ⟨a,c,rfl⟩:=List.append_of_mem he
        right;refine ⟨?_,hn e SI⟩;have:=hp.2;rw [List.append_assoc,List.cons_append] at this;exact (List.pairwise_cons.1 (List.pairwise_append.1 this).2.1).1 x SI
      . left
        exact (List.pairwise_cons.1 (List.pairwise_append.1 hp.2).2.1).1 e he
    have own: ∀ {r:SO},seB r=true-> ∀ d,r.d=some d->d∉r.x.ar:=λ{r} hr d hd hh=>by
      unfold seB at hr;rw [hd] at hr;simp only [Bool.and_eq_true,Bool.not_eq_true',List.contains_eq_mem,decide_eq_false_iff_not] at hr;exact hr.2 hh
    -- the slots of the pointers stay
    have stayq: ∀ t∈q.2.x.ar,∀ s∈(q::x::(u++v)).map (·.2),s.d≠some t:=λt ht s hs' hd=>by
      obtain ⟨e,he,rfl⟩:=List.mem_map.1 hs';rcases List.mem_cons.1 he with rfl|he
      . exact own hsq.1 t hd ht
      rcases List.mem_cons.1 he with rfl|he
      . exact hqx.keep t hd ht
      . exact (rest e he).1.keep t hd ht
    have stayx: ∀ t∈x.2.x.ar,∀ s∈(q::x::(u++v)).map (·.2),s.d≠some t:=λt ht s hs' hd=>by
      obtain ⟨e,he,rfl⟩:=List.mem_map.1 hs';rcases List.mem_cons.1 he with rfl|he
      . have:=hqx.rd t hd<|aPT ht; rw [hnq] at this; cases this
      rcases List.mem_cons.1 he with rfl|he
      . exact own hsx.1 t hd ht
      . rcases (rest e he).2 with g|⟨g,g'⟩
        . exact g.keep t hd ht
        . have:=g.rd t hd<|aPT ht; rw [g'] at this; cases this
    have hse: ∀ s∈(q::x::(u++v)).map (·.2),seB s=true:=λs hs'=>by
      obtain ⟨e,he,rfl⟩:=List.mem_map.1 hs';refine (hs e ?_).1;simp only [List.mem_cons,List.mem_append,List.cons_append] at he ⊢;rcases he with e|e|e|e <;> simp [e]
    have hds:((q::x::(u++v)).map (·.2)).Pairwise (λq r=> ∀ d,q.d=some d->r.d≠some d):=by
      have sym: ∀ {a c:Nat×SO},PRX b ps a c->(∀ d,a.2.d=some d->c.2.d≠some d):=λh=>h.dst
      have sym': ∀ {a c:Nat×SO},PRX b ps a c->(∀ d,c.2.d=some d->a.2.d≠some d):=λh d hd e=>h.dst d e hd
      rw [List.pairwise_map,List.pairwise_cons,List.pairwise_cons];refine ⟨λe he=>?_,λe he=>?_,?_⟩
      . rcases List.mem_cons.1 he with rfl|he
        . exact sym hqx
        . exact sym (rest e he).1
      . rcases (rest e he).2 with g|⟨g,_⟩
        . exact sym g
        . exact sym' g
      . have:=hp.2
        rw [List.pairwise_append] at this ⊢;exact ⟨this.1.imp λh=>sym h,(List.pairwise_cons.1 this.2.1).2.imp λh=>sym h,λa ha c hc=>sym<|this.2.2 a ha c<|List.mem_cons_of_mem _ hc⟩
    have facts:pJ T q.2.x=true/\pJ T x.2.x=true/\(∀ p n p' m,q.2.x.pt=some (p,n)->x.2.x.pt=some (p',m)->(q.2.x.cls=.E\/x.2.x.cls=.E)->apV n m (T p) (T p')=true)/\
        ((q.2.x.lz=true\/x.2.x.lz=true)-> ∀ i j,q.2.x.bk (k0+q.2.d.getD 0) T=some i->x.2.x.bk (k0+x.2.d.getD 0) T=some j->i≠j):=
      aNi hse hds h' λT' H' hk ha hlz=>by
        have hd:=hK _ _ hk;unfold ddB at hd;rw [Bool.and_eq_true,List.all_eq_true,List.all_eq_true] at hd
        have arg: ∀ {r:SO},(∀ t∈r.x.ar,T' t=T t)->pJ T' r.x=true->pJ T r.x=true:=λ{r} hr hb=>by
          cases hx:r.x <;> first|rfl|skip
          case append ty esz bytes s a=>
            rw [hx] at hb hr;cases a with
            |c _=>cases s <;> rfl
            | t a => cases s with
              |c _=>rfl
              | t s =>
                have:=hr a (by simp [X.ar]);simp only [pJ,this] at hb ⊢; exact hb
          case idx n a i=>
            rw [hx] at hb hr;cases a with
            |c _=>rfl
            | t a =>
              have:=hr a (by simp [X.ar]);simp only [pJ,this] at hb ⊢; exact hb
          case len a=>
            rw [hx] at hb hr;cases a with
            |c _=>rfl
            | t a =>
              have:=hr a (by simp [X.ar]);simp only [pJ,this] at hb ⊢; exact hb
        have ptz: ∀ {r:SO} {p n:Nat},r.x.pt=some (p,n)->r.pt=some (p,n)/\r.x.lz=false:=λ{r} {p n} h=>by
          have hz:r.x.lz=false:=by cases hx:r.x <;> rw [hx] at h <;> first|rfl|(cases h; done)
          unfold SO.pt;rw [hz,if_neg DE]; exact ⟨h,J⟩
        have hin0: ∀ p n p' m,q.2.pt=some (p,n)->x.2.pt=some (p',m)->(q.2.mv=true\/x.2.mv=true)->apV n m (T' p) (T' p')=true:=λp n p' m e1 e2 e3=>hd.1 _<|hqx.cf hnq p n p' m e1 e2 e3
        have mvE: ∀ {r:SO},r.x.cls=.E->r.mv=true:=λ{r} h=>by unfold SO.mv; rw [h]; rfl
        have mvZ: ∀ {r:SO},r.x.lz=true->r.mv=true:=λ{r} h=>by unfold SO.mv; rw [h,Bool.or_true]
        refine ⟨arg (λt ht=>ha t<|stayq t ht) (hd.2 _ hsq.2),arg (λt ht=>ha t<|stayx t ht) (hd.2 _ hsx.2),λp n p' m e1 e2 e3=>?_,λe3 i j b1 b2=>?_⟩
        rotate_left
        . -- blocks that are apart
          have pz : ∀ {r : SO} {k : Nat}, r ∈ (q :: x :: (u ++ v)).map (·.2) -> seB r = true -> (∀ t ∈ r.x.ar, T' t = T t) -> r.x.bk (k0 + r.d.getD 0) T = some k -> ∃ p n, r.pt = some (p, n) /\ bkV (T' p) = some k := by
            intro r k hr hsr hst hbk;unfold X.bk at hbk;by_cases z:r.x.lz=true
            . rw [if_pos z] at hbk
              cases hrd:r.d with
              |none=>unfold seB at hsr; rw [hrd] at hsr; simp only [Bool.and_eq_true,Bool.not_eq_true'] at hsr; rw [z] at hsr; cases hsr.2
              | some d =>
                obtain ⟨w,hw⟩:=hlz r hr z d hrd;rw [hrd] at hbk;refine ⟨d,0,by unfold SO.pt; rw [if_pos z,hrd]; rfl,by rw [hw]; exact hbk⟩
            . rw [if_neg z] at hbk
              cases hpt:r.x.pt with
              |none=>rw [hpt] at hbk; cases hbk
              | some p =>
                obtain ⟨p,n⟩:=p;rw [hpt] at hbk
                have hmem:p∈r.x.ar:=by
                  cases hx:r.x <;> rw [hx] at hpt <;> first|(cases hpt; done)|skip
                  . rename_i g k a; cases a <;> simp only [X.pt] at hpt <;> first|(cases hpt; done)|skip
                    split at hpt <;> first|(cases hpt; done)|(cases hpt; simp [X.ar])
                  . rename_i k a c; cases a <;> first|(cases hpt; done)|(cases hpt; simp [X.ar])
                  . rename_i ty esz bytes s a; cases s <;> cases a <;> first|(cases hpt; done)|(cases hpt; simp [X.ar])
                exact ⟨p,n,(ptz hpt).1,by rw [hst p hmem]; exact hbk⟩
          obtain ⟨p,n,p1,p2⟩:=pz (List.mem_cons_self ..) hsq.1 (λt ht=>ha t<|stayq t ht) b1;obtain ⟨p',m,r1,r2⟩:=pz (List.mem_cons_of_mem _<|List.mem_cons_self ..) hsx.1 (λt ht=>ha t<|stayx t ht) b2;have hA:=hin0 p n p' m p1 r1<|e3.imp mvZ mvZ
          -- one of them is a slice:the blocks differ
          have hsl:(∃ a c d e,T' p=.ms a c d e)\/ ∃ a c d e,T' p'=.ms a c d e:=by
            rcases e3 with z|z
            . left
              cases hrd:q.2.d with
              |none=>have h9:=hsq.1; unfold seB at h9; rw [hrd] at h9; simp only [Bool.and_eq_true,Bool.not_eq_true'] at h9; rw [z] at h9; cases h9.2
              | some d =>
                obtain ⟨w,hw⟩:=hlz q.2 (List.mem_cons_self ..) z d hrd;have:SO.pt q.2=some (d,0):=by unfold SO.pt; rw [if_pos z,hrd]; rfl
                rw [this] at p1; cases p1;exact ⟨_,_,_,_,hw⟩
            . right
              cases hrd:x.2.d with
              |none=>have h9:=hsx.1; unfold seB at h9; rw [hrd] at h9; simp only [Bool.and_eq_true,Bool.not_eq_true'] at h9; rw [z] at h9; cases h9.2
              | some d =>
                obtain ⟨w,hw⟩:=hlz x.2 (List.mem_cons_of_mem _<|List.mem_cons_self ..) z d hrd;have:SO.pt x.2=some (d,0):=by unfold SO.pt; rw [if_pos z,hrd]; rfl
                rw [this] at r1; cases r1;exact ⟨_,_,_,_,hw⟩
          intro eij;subst eij;rcases hsl with ⟨a,c,d,e,hw⟩|⟨a,c,d,e,hw⟩
          . rw [hw] at p2 hA; cases p2
            cases hT:T' p' <;> rw [hT] at r2 hA <;> first|(cases r2; done)|(cases r2; simp [apV] at hA)
          . rw [hw] at r2 hA; cases r2
            cases hT:T' p <;> rw [hT] at p2 hA <;> first|(cases p2; done)|(cases p2; simp [apV] at hA)
        have hin:=hin0 p n p' m (ptz e1).1 (ptz e2).1 (e3.imp mvE mvE)
        have pa: ∀ {r:SO} {p n:Nat},r.x.pt=some (p,n)->p∈r.x.ar:=λ{r} {p n} h=>by
          cases hx:r.x <;> rw [hx] at h <;> first|(cases h; done)|skip
          . rename_i g k a; cases a <;> simp only [X.pt] at h <;> first|(cases h; done)|skip
            split at h <;> first|(cases h; done)|(cases h; simp [X.ar])
          . rename_i k a c; cases a <;> first|(cases h; done)|(cases h; simp [X.ar])
          . rename_i ty esz bytes s a; cases s <;> cases a <;> first|(cases h; done)|(cases h; simp [X.ar])
        rw [ha p (stayq p<|pa e1),ha p' (stayx p'<|pa e2)] at hin;exact hin
    exact swap hsq.1 hsx.1 hqx.dst (λd hd hh=>by have:=hqx.rd d hd hh; rw [hnq] at this; cases this) (λd hd hh=>by have:=hqx.wr d hd hh; rw [hnq] at this; cases this) facts.1 facts.2.1 facts.2.2.1 facts.2.2.2 h'
def aIa (P:Program) (ps:List Ap4) (ops:Array Oper) (L:List (Nat×SO)):Bool:=
  P.follows .mixedOrders&&
  (L.zipIdx.all λp=>(L.drop<|p.2+1).all (aNY (Region.before ops) ps p.1))&&
  (List.range ops.size).all (λi=>L.any (·.1==i))&&
  ops.toList.zipIdx.all (λp=>p.1.after.all λe=> !(Region.binds .any e)||decide (e.on < p.2))&&
  L.all (λq=>seB q.2)
theorem aFH {b:Array Nat} {ps:List Ap4}: ∀ {L pre:List (Nat×SO)},((L.zipIdx pre.length).all λp=>(((pre++L).drop (p.2+1)).all (aNY b ps p.1)))=true->L.Pairwise (PRX b ps)
  |[],_,_=>.nil
  | q :: L, pre, h => by
    rw [List.zipIdx_cons,List.all_cons,Bool.and_eq_true] at h;refine .cons (λr hr=>aKM ?_) (aFH (pre:=pre++[q]) ?_)
    . have:=h.1
      rw [show (pre++q::L).drop (pre.length+1)=L by rw [show pre++q::L=(pre++[q])++L by simp,show pre.length+1=(pre++[q]).length by simp,List.drop_left]] at this;exact List.all_eq_true.1 this r hr
    . rw [show pre++[q]++L=pre++q::L by simp,show (pre++[q]).length=pre.length+1 by simp]
      exact h.2
variable {D:List Deferred} {op:Opt} {n:Nat} {ops:Array Oper} {x0:Cx} {Q:Ex->(Nat->V)->aT->Prop} {T:Nat->V} {H:aT}
theorem aJ2 {L : List (Nat × SO)} {ps : List Ap4} {ops0 : List SO} {K : (Nat -> V) -> aT -> Prop} (hK : ∀ T H, K T H -> ddB ps ops0 T = true /\ Q .norm T H) (hpw : L.Pairwise (PRX (Region.before ops) ps)) (hse : ∀ q ∈ L, seB q.2 = true /\ q.2 ∈ ops0)
    (hslim: ∀ q∈L,∃ o,ops[q.1]?=some o/\pO P op n ops o=some q.2) (hall: ∀ i,i < ops.size-> ∃ q∈L,q.1=i)
    (hlt: ∀ (i:Nat) (o:Oper),ops[i]?=some o-> ∀ e∈o.after,Region.binds .any e=true->e.on < i):
    ∀ (fuel : Nat) (listed : Array Bool) (a : Act) (w : World), listed.size = ops.size -> ((List.range ops.size).filter λi => !(SL listed i)).length <= fuel ->
      (∀ (i:Nat) (o:Oper),ops[i]?=some o->SL listed i=true-> ∀ e∈o.after,Region.binds .any e=true->SL listed e.on=true)->
      (∃ (T:Nat->V) (y:Cx),y.w=w/\dE P k0 ((L.filter λq=> !(SL listed q.1)).map (·.2)) T y.H K/\Inv y/\TRel D n y T a/\Frame x0 y)->
      wpAny P .any ops (pA D n x0 Q) fuel listed a w:=by
  obtain ⟨hbs,hbefore⟩:=aA0 ops
  have done : ∀ (listed : Array Bool) (a : Act) (w : World), listed.size = ops.size -> Region.ready .any ops listed = [] ->
      (∃ (T:Nat->V) (y:Cx),y.w=w/\dE P k0 ((L.filter λq=> !(SL listed q.1)).map (·.2)) T y.H K/\Inv y/\TRel D n y T a/\Frame x0 y)->pA D n x0 Q .normal a w:=by
    intro listed a w hsz hr ⟨T,y,hyw,hO,hyI,hyT,hyF⟩
    have all: ∀ i,i < ops.size->SL listed i=true:=by
      intro i
      induction i using Nat.strongRecOn with
      | _ i ih =>
        intro hi;rcases hb:SL listed i with _|_
        . exfalso
          have hmem:i∈Region.ready .any ops listed:=mem_ready.2 ⟨by
            unfold SL at hb;have hi':i < listed.size:=OM
            simp [hi'] at hb ⊢
            exact hb,ops[i],Array.getElem?_eq_getElem hi,λe he hbd=>by
              have h1:=hlt i ops[i] (Array.getElem?_eq_getElem hi) e he hbd;exact ih e.on h1 OM⟩
          rw [hr] at hmem; cases hmem
        . rfl
    have hnil:(L.filter λq=> !(SL listed q.1))=[]:=List.filter_eq_nil_iff.2 λq hq=>by
      obtain ⟨o,ho,_⟩:=hslim q hq;simp [all _ (Array.getElem?_eq_some_iff.1 ho).1]
    rw [hnil] at hO;exact ⟨.norm,T,y,J,hyw,(hK _ _ hO).2,hyI,hyT,hyF⟩
  intro fuel
  induction fuel with
  | zero =>
    intro listed a w hsz hcnt hcl hst
    have hr:Region.ready .any ops listed=[]:=by
      rw [List.eq_nil_iff_forall_not_mem];intro i hi;obtain ⟨h0,o,ho,_⟩:=mem_ready.1 hi;have hlt':i < ops.size:=(Array.getElem?_eq_some_iff.1 ho).1;have hnil:(List.range ops.size).filter (λi=> !(SL listed i))=[]:=List.eq_nil_of_length_eq_zero OM
      have:i∈(List.range ops.size).filter (λi=> !(SL listed i)):=List.mem_filter.2 ⟨List.mem_range.2 hlt',by
        unfold SL;have hi':i < listed.size:=OM
        simp [hi'] at h0 ⊢;exact h0⟩
      rw [hnil] at this; cases this
    exact ⟨hr,done listed a w hsz hr hst⟩
  | succ fuel ih =>
    intro listed a w hsz hcnt hcl hst;refine ⟨λhr=>done listed a w hsz hr hst,λi hi=>?_⟩;obtain ⟨h0,o,ho,hedge⟩:=mem_ready.1 hi;have hilt:i < ops.size:=(Array.getElem?_eq_some_iff.1 ho).1
    have hSi:SL listed i=false:=by
      unfold SL;have hi':i < listed.size:=OM
      simp [hi'] at h0 ⊢;exact h0
    obtain ⟨r,hr,hri⟩:=hall i hilt;subst hri;obtain ⟨T,y,hyw,hO,hyI,hyT,hyF⟩:=hst;have hrf:r∈L.filter λq=> !(SL listed q.1):=List.mem_filter.2 ⟨hr,by simp [hSi]⟩
    obtain ⟨u,v,huv⟩:=List.append_of_mem hrf;have hpf:(u++r::v).Pairwise (PRX (Region.before ops) ps):=by rw [<- huv]; exact hpw.sublist List.filter_sublist
    have hin: ∀ q∈u++r::v,q∈L/\SL listed q.1=false:=λq hq=>by
      rw [<- huv] at hq;obtain ⟨h1,h2⟩:=List.mem_filter.1 hq;exact ⟨h1,by simpa using h2⟩
    have closed: ∀ (k:Nat) (o':Oper),ops[k]?=some o'->(∀ e∈o'.after,Region.binds .any e=true->SL listed e.on=true)-> ∀ j,gX (Region.before ops) k j=true->SL listed j=true:=by
      intro k
      induction k using Nat.strongRecOn with
      | _ k ihk =>
        intro o' ho' hed j hj;obtain ⟨e,he,hb,h1|⟨h1,h2⟩⟩:=hbefore k o' ho' j hj
        . rw [<- h1]; exact hed e he hb
        . have hle:e.on < ops.size:=by have:=(Array.getElem?_eq_some_iff.1 ho').1; omega
          exact ihk e.on h1 _ (Array.getElem?_eq_getElem hle) (hcl e.on _ (Array.getElem?_eq_getElem hle)<|hed e he hb) j h2
    have hanc:=closed r.1 o ho λe he hb=>by have:=hedge e he hb; exact this
    have hn: ∀ q∈u,gX (Region.before ops) r.1 q.1=false:=λq hq=>by
      rcases hb:gX (Region.before ops) r.1 q.1 with _|_
      . rfl
      . have:=hanc _ hb; rw [(hin q (by simp [hq])).2] at this; cases this
    rw [huv] at hO;have hO2:=aQv (λT H h=>(hK T H h).1) hpf (λq hq=>hse q (hin q hq).1) hn hO
    have hrest:(L.filter λq=> !(SL (listed.setIfInBounds r.1 true) q.1))=u++v:=by
      have e:(L.filter λq=> !(SL (listed.setIfInBounds r.1 true) q.1))=(L.filter λq=> !(SL listed q.1)).filter λq=>q.1 != r.1:=by
        rw [List.filter_filter];refine List.filter_congr λq _=>?_;rw [aHV OM,Bool.not_or,Bool.and_comm]; rfl
      rw [e,huv,List.filter_append,List.filter_cons_of_neg SI]
      have hu: ∀ q∈u,(q.1 != r.1)=true:=λq hq=>by
        have:=(List.pairwise_append.1 hpf).2.2 q hq r SI;simpa using this.ne
      have hv: ∀ q∈v,(q.1 != r.1)=true:=λq hq=>by
        have:=(List.pairwise_cons.1 (List.pairwise_append.1 hpf).2.1).1 q hq;simpa using Ne.symm this.ne
      rw [List.filter_eq_self.2 hu,List.filter_eq_self.2 hv]
    obtain ⟨o',ho',hso⟩:=hslim r hr;have hoo:o'=o:=by have:=ho'.symm.trans ho; simpa using this
    subst hoo;obtain ⟨s1,s2,s3,s4⟩:=vP hso;have hg:r.2.g=none:=by have:=(hse r hr).1; unfold seB at this; simp only [Bool.and_eq_true,Option.isNone_iff_eq_none] at this; exact this.1.1
    have hS': ∀ j,SL (listed.setIfInBounds r.1 true) j=(SL listed j||j==r.1):=aHV OM;have hsz':(listed.setIfInBounds r.1 true).size=ops.size:=by simpa using hsz
    have hcnt':((List.range ops.size).filter λi=> !(SL (listed.setIfInBounds r.1 true) i)).length<=fuel:=by
      have e:(List.range ops.size).filter (λi=> !(SL (listed.setIfInBounds r.1 true) i))=((List.range ops.size).filter λi=> !(SL listed i)).filter (λj=>j != r.1):=by
        rw [List.filter_filter];refine List.filter_congr λj _=>?_;rw [hS',Bool.not_or,Bool.and_comm]
        rfl
      have hmem:r.1∈(List.range ops.size).filter λi=> !(SL listed i):=List.mem_filter.2 ⟨List.mem_range.2 hilt,by rw [hSi]; rfl⟩
      have:=(List.length_filter_lt_length_iff_exists (p:=λj=>j != r.1)).2 ⟨r.1,hmem,SI⟩;rw [e]; omega
    have hcl': ∀ (i:Nat) (o:Oper),ops[i]?=some o->SL (listed.setIfInBounds r.1 true) i=true-> ∀ e∈o.after,Region.binds .any e=true->SL (listed.setIfInBounds r.1 true) e.on=true:=by
      intro k ok hk hs e he hb;rw [hS'] at hs ⊢;rw [Bool.or_eq_true] at hs ⊢;rcases hs with hs|hs
      . exact .inl (hcl k ok hk hs e he hb)
      . have:k=r.1:=by simpa using hs
        subst this;have:ok=o':=by have:=hk.symm.trans ho; simpa using this
        subst this;exact .inl (hedge e he hb)
    simp only [List.map_cons,dE,hg] at hO2;unfold wpOp;simp only [ho];rcases s4 with ⟨hgo,hsg⟩|⟨j,want,t,hgo,hj,hsg⟩
    . have hw:Region.wanted o' (yielded ops a.tmps)=true:=by simp [Region.wanted,hgo]
      rw [if_pos hw,<- hyw];refine .inl (vF s3 hO2 hyI hyT.tmps λv0 c z hk hzI hzR hzF=>?_);refine ih _ _ _ hsz' hcnt' hcl' ⟨_,z,J,by rw [hrest]; exact hk,hzI,?_,hyF.trans hzF⟩;have:=(hyT.frame hyI hzF).put s2 hzR;rw [show r.2.d=o'.dst from s1];exact this
    . rw [hg] at hsg; cases hsg
theorem aML {id:Nat} {L:List (Nat×SO)} {ps:List Ap4} (hslim: ∀ q∈L,∃ o,ops[q.1]?=some o/\pO P op n ops o=some q.2) (hB:aIa P ps ops L=true)
    {x:Cx} {T:Nat->V} {a:Act} (h:dE P k0 (L.map (·.2)) T x.H λT H=>ddB ps (L.map (·.2)) T=true/\Q .norm T H) (hx:Inv x) (hT:TRel D n x T a) (hF:Frame x0 x):
    (Code.region id ops true).wp P (pA D n x0 Q) a x.w:=by
  unfold aIa at hB;simp only [Bool.and_eq_true] at hB;obtain ⟨⟨⟨⟨b1,b2⟩,b3⟩,b4⟩,b5⟩:=hB;obtain ⟨dI,dF⟩:=jH hx (x.w.drawn+1)<|Nat.le_succ _
  refine wp_region_any b1 ?_
  have hnone: ∀ j,SL (Array.replicate ops.size false) j=false:=λj=>by
    unfold SL;rw [Array.getD_eq_getD_getElem?,Array.getElem?_replicate];split <;> rfl
  refine aJ2 (k0:=k0) (L:=L) (ps:=ps) (ops0:=L.map (·.2)) (λ_ _ h=>h) (aFH (pre:=[]) (by simpa using b2)) (λq hq=>⟨List.all_eq_true.1 b5 q hq,List.mem_map_of_mem hq⟩) hslim (λi hi=>?_) (λi o ho e he hb=>?_) ops.size _ a _ SI (by
      refine Nat.le_trans (List.length_filter_le _ _) SI) (λi o ho hs=>by rw [hnone] at hs; cases hs) ⟨T,{x with w:={x.w with drawn:=x.w.drawn+1}},rfl,?_,dI,hT.frame hx dF,hF.trans dF⟩
  . have:=List.all_eq_true.1 b3 i<|List.mem_range.2 hi
    obtain ⟨q,hq,he⟩:=List.any_eq_true.1 this;exact ⟨q,hq,by simpa using he⟩
  . have:=List.all_eq_true.1 b4 (o,i) (by
      rw [List.mk_mem_zipIdx_iff_getElem?];simpa using ho)
    have:=Array.all_eq_true_iff_forall_mem.1 this e he;simpa [hb] using this
  . rw [List.filter_eq_self.2 λq _=>by rw [hnone]; rfl]
    exact h
end
end Go.Proofs.YtinpihlhcmpkhaaGreat


namespace Go.Proofs.YtinpihlhcmpkhaaGreat
open Go
def aLr (L0:List SO) (ord:List Nat):List (Nat×SO):=ord.filterMap λi=>(L0[i]?).map λs=>(i,s)
def aRi (ops : Array Oper) (L0 : List SO) : Nat -> List Nat -> List Nat
  |0,acc=>acc.reverse
  | fuel + 1, acc =>
    let rd:=(List.range ops.size).filter λi=> !(acc.contains i)&&((ops[i]?).map λo=>o.after.all λe=> !(Region.binds .any e)||acc.contains e.on).getD false
    match rd.find? (λi=>((L0[i]?).map λs=>s.x.cls != .A).getD false) with
    |some i=>aRi ops L0 fuel (i::acc)
    | none => match rd with
      |i::_=>aRi ops L0 fuel (i::acc)
      |[]=>acc.reverse
def aAj (P : Program) (ops : Array Oper) (L0 : List SO) (ord : List Nat) : Option SC :=
  let L:=aLr L0 ord
  if aNa P ops L then match late (Region.before ops) [] L with
    |[]=>some (.reg (L.map (·.2)))
    |l=>some (.dreg l (L.map (·.2)))
  else none
def aQp (b : Array Nat) : List (Nat × SO) -> List Ap4
  |[]=>[]
  | q :: l => (l.filterMap λr => if gX b r.1 q.1 then none else match q.2.pt, r.2.pt with
    |some p,some p'=>if q.2.mv||r.2.mv then some (p.1,p.2,p'.1,p'.2) else none
    |_,_=>none)++aQp b l
def aAv (P:Program) (ops:Array Oper) (L0:List SO) (ord:List Nat):Option SC:=
  let L:=aLr L0 ord
  let ps:=aQp (Region.before ops) L
  if aIa P ps ops L then some (.xreg ps (L.map (·.2))) else none
def aBe (L:List SO):Option SC->SC
  |none=>.reg L
  |some c=>.seq (.reg L) c
def aBd (P : Program) (op : Opt) (n : Nat) (ops : Array Oper) : List Oper -> Option (List SO × Option SC)
  |[]=>some ([],none)
  | o :: l => match aBd P op n ops l with
    |none=>none
    | some (L, r) => match aOL op o with
      |some px=>if o.guard.isNone&&aOi n o.dst then some ([],some (.seq (.pop o.dst px) (aBe L r))) else none
      |none=>(pO P op n ops o).map λs=>(s::L,r)
def aBq (P : Program) (op : Opt) (n : Nat) (ops : Array Oper) (draw : Bool) : Option SC :=
  if (!draw&&ops.any λo=>(aOL op o).isSome)=true then (aBd P op n ops ops.toList).map λp=>aBe p.1 p.2
  else match jA (pO P op n ops) ops.toList with
  |none=>none
  | some L0 => if draw = false then some (.reg L0) else match aAj P ops L0 (List.range ops.size) with
    |some s=>some s
    | none => match aAj P ops L0 (aRi ops L0 ops.size []) with
      |some s=>some s
      |none=>aAv P ops L0 (List.range ops.size)
def aC2 (P : Program) (op : Opt) (n : Nat) : Code -> Option SC
  | .skip=>some .skip
  | .ret=>some .ret
  | .exit id=>some (.exit id)
  | .region _ ops draw=>aBq P op n ops draw
  | .seq a b => match aC2 P op n a, aC2 P op n b with
    |some a,some b=>some (.seq a b)
    |_,_=>none
  | .cond c a b => match sx c, aC2 P op n a, aC2 P op n b with
    |some c,some a,some b=>some (.cond c a b)
    |_,_,_=>none
  | .block id a=>(aC2 P op n a).map (.block id)
  | .loop a=>(aC2 P op n a).map .loop
  |_=>none
section
variable {P:Program} {D:List Deferred} {k0:Nat} {op:Opt} {n:Nat}
theorem wR {ops:Array Oper} {L0:List SO} (h:jA (pO P op n ops) ops.toList=some L0) (ord:List Nat): ∀ q∈aLr L0 ord,∃ o,ops[q.1]?=some o/\pO P op n ops o=some q.2:=by
  intro q hq;obtain ⟨i,_,h1⟩:=List.mem_filterMap.1 hq;obtain ⟨s,h2,rfl⟩:=map_some h1;obtain ⟨_,h3⟩:=jI h;obtain ⟨o,h4,h5⟩:=h3 i s h2;exact ⟨o,by simpa using h4,h5⟩
theorem tP {ops:Array Oper} {L0:List SO} (h:jA (pO P op n ops) ops.toList=some L0) {ord:List Nat} {s:SC} (hs:aAj P ops L0 ord=some s) {id:Nat} {x0 x:Cx} {Q:Ex->(Nat->V)->aT->Prop} {T:Nat->V} {a:Act}
    (hW:W P k0 s Q T x.H) (hx:Inv x) (hT:TRel D n x T a) (hF:Frame x0 x):(Code.region id ops true).wp P (pA D n x0 Q) a x.w:=by
  unfold aAj at hs;simp only at hs;split at hs
  . rename_i hB
    split at hs
    . rename_i hl
      cases hs;obtain ⟨k1,hW⟩:=hW;exact aI6 (k0:=k1) (wR h ord) hB (by rw [hl]; intro d hd; cases hd) hW hx hT hF
    . cases hs
      obtain ⟨k1,hW⟩:=hW;exact aI6 (k0:=k1) (wR h ord) hB hW.1 hW.2 hx hT hF
  . cases hs
theorem aA7 {ops:Array Oper} {L0:List SO} (h:jA (pO P op n ops) ops.toList=some L0) {ord:List Nat} {s:SC} (hs:aAv P ops L0 ord=some s) {id:Nat} {x0 x:Cx} {Q:Ex->(Nat->V)->aT->Prop} {T:Nat->V} {a:Act}
    (hW:W P k0 s Q T x.H) (hx:Inv x) (hT:TRel D n x T a) (hF:Frame x0 x):(Code.region id ops true).wp P (pA D n x0 Q) a x.w:=by
  unfold aAv at hs;simp only at hs;split at hs
  . rename_i hB
    cases hs;obtain ⟨k1,hW⟩:=hW;exact aML (k0:=k1) (wR h ord) hB hW hx hT hF
  . cases hs
theorem aMF {d:Option Nat} {f:Nat} {args:List V} {x0 x:Cx} {Q:Ex->(Nat->V)->aT->Prop} {T:Nat->V} {a:Act} {o:Oper} {cs:List Value} (hd:o.dst=d) (hdn: ∀ e,o.dst=some e->e < n)
    {Qw:Ex->(Nat->V)->aT->Prop} (hQ: ∀ c T H,Qw (.pan c) T H->Q (.pan c) T H) (h:Pop P d f args Qw T x.H) (hx:Inv x) (hT:TRel D n x T a) (hF:Frame x0 x) (hr:RL x args cs) (he:(execOp a.eval o).run P x.w=.ok (.enter f cs.toArray) x.w) {next:Act->World->Prop}
    (hn: ∀ (T':Nat->V) (a':Act) (y:Cx),Qw .norm T' y.H->Inv y->TRel D n y T' a'->Frame x0 y->next a' y.w):o.wp P a x.w next (pA D n x0 Q):=by
  obtain ⟨r,hc,hq⟩:=h;unfold Oper.wp;rw [he,Oper.upon_enter];cases r with
  | ok v H' =>
    refine (hc.2 x cs J hx hr).mono λe w' hp=>?_;obtain ⟨c,y,rfl,rfl,h1,h2,h3,h4⟩:=hp;subst hd;exact hn (jJ T o.dst v) _ y (by rw [h1]; exact hq) h2 ((hT.frame hx h4).put hdn h3)<|hF.trans h4
  | pan c S =>
    refine (hc.2 x cs J hx hr).mono λe w' hp=>?_;obtain ⟨y,rfl,rfl,h1,h2,h4⟩:=hp;exact ⟨.pan c,T,y,J,J,hQ c T y.H (hq y.H h1),h2,hT.frame hx h4,hF.trans h4⟩
theorem aOB {o : Oper} {px : PX} (hp : aOL op o = some px) {x0 x : Cx} {Q : Ex -> (Nat -> V) -> aT -> Prop} {T : Nat -> V} {a : Act} (hdn : ∀ e, o.dst = some e -> e < n)
    {Qw:Ex->(Nat->V)->aT->Prop} (hQ: ∀ c T H,Qw (.pan c) T H->Q (.pan c) T H) (h:W P k0 (.pop o.dst px) Qw T x.H) (hx:Inv x) (hT:TRel D n x T a) (hF:Frame x0 x) {next:Act->World->Prop}
    (hn: ∀ (T':Nat->V) (a':Act) (y:Cx),Qw .norm T' y.H->Inv y->TRel D n y T' a'->Frame x0 y->next a' y.w):o.wp P a x.w next (pA D n x0 Q):=by
  unfold aOL at hp;split at hp
  . rename_i p ho
    obtain ⟨s,hs,rfl⟩:=map_some hp;simp only [W] at h;have hR:=fQ hT.tmps hs;split at h
    . rename_i ty c hc
      rw [hc] at hR
      have e:a.eval p=.iface ty c:=by
        generalize hv:a.eval p=v at hR;cases hR; rfl
      unfold Oper.wp
      have hrun:(execOp a.eval o).run P x.w=.halt (.panic (.iface ty c)) x.w:=by
        simp [execOp,ho,e,Instr.panic,goPanic]
      rw [hrun,Oper.upon_panic];exact ⟨.pan (.iface ty c),T,x,J,J,hQ _ _ _ h,hx,hT,hF⟩
    . exact h.elim
  . rename_i f args tys ho
    have run: ∀ (g:Nat) (fs cs:Array Value),a.eval f=.func (.func g) fs cs->fS P g->(execOp a.eval o).run P x.w=.ok (.enter g (fs.toList++args.toList.map a.eval++cs.toList).toArray) x.w:=by
      intro g fs cs hf hg;have h1:(fs++args.map a.eval++cs)=(fs.toList++args.toList.map a.eval++cs.toList).toArray:=by simp
      simp only [execOp,ho,resolve,hf,Deferred.ofValue,Sem.run_bind,Sem.run_pure,Result.andThen_ok,invoke,yN hg,h1]
    have cb: ∀ {d:Option Nat} {g:Nat} {asq:List V} {T:Nat->V},Pop P d g asq Qw T x.H->fS P g:=λhp=>by
      obtain ⟨r,hc,_⟩:=hp;cases r <;> exact hc.1
    split at hp
    . rename_i g us hf has
      split at hp
      . cases hp
        simp only [W] at h;have hfR:=fQ hT.tmps hf
        have hnil: ∀ (cs:Array Value),cs.size=([]:List V).length->cs=#[]:=λcs h=>by
          apply Array.eq_empty_of_size_eq_zero; simpa using h
        cases hfv:a.eval f with
        | func fn fs cs =>
          rw [hfv] at hfR;cases hfR with
          | fn _ _ _ _ _ h1 h2 _ _ =>
            have e1:=hnil _ h1;have e2:=hnil _ h2;subst e1; subst e2;refine aMF J hdn hQ h hx hT hF (aAB hT.tmps has) ?_ hn;have:=run g #[] #[] hfv (cb h);simpa using this
        |_=>rw [hfv] at hfR; cases hfR
      . cases hp
    . rename_i t us hf has
      split at hp
      . rename_i d hdd
        split at hp
        . cases hp
          simp only [W,aRg] at h;have hfR:=fQ hT.tmps hf;simp only [aRg] at hfR;split at h
          . rename_i g first caps hTn
            rw [hTn] at hfR;cases hfv:a.eval f with
            | func fn fs cs =>
              rw [hfv] at hfR;cases hfR with
              | fn _ _ _ _ _ h1 h2 h3 h4 =>
                exact aMF J hdn hQ h hx hT hF (((aEa h1 h3).append (aAB hT.tmps has)).append (aEa h2 h4)) (run g fs cs hfv<|cb h) hn
            |_=>rw [hfv] at hfR; cases hfR
          . exact h.elim
        . cases hp
      . cases hp
    . cases hp
  . cases hp
def aM0 (P:Program) (k0:Nat) (Q:Ex->(Nat->V)->aT->Prop):Option SC->(Nat->V)->aT->Prop
  |none=>Q .norm
  |some c=>G (W P k0 c Q)
theorem aDd {k0:Nat} {Q:Ex->(Nat->V)->aT->Prop} {L:List SO} {r:Option SC} {T:Nat->V} {H:aT} (h:W P k0 (aBe L r) Q T H): ∃ k1,dE P k1 L T H (aM0 P k0 Q r):=by
  cases r with
  |none=>exact h
  |some c=>exact h
theorem mS {ops : Array Oper} {x0 : Cx} {Q : Ex -> (Nat -> V) -> aT -> Prop} : ∀ (l : List Oper) (L : List SO) (r : Option SC), aBd P op n ops l = some (L, r) ->
    ∀ (k1:Nat) (x:Cx) (T:Nat->V) (a:Act),dE P k1 L T x.H (aM0 P k0 Q r)->Inv x->TRel D n x T a->Frame x0 x->wpList P ops (pA D n x0 Q) l a x.w
  | [], L, r, hL, k1, x, T, a, h, hx, hT, hF => by
    cases hL;exact ⟨.norm,T,x,J,J,h,hx,hT,hF⟩
  | o :: l, L, r, hL, k1, x, T, a, h, hx, hT, hF => by
    simp only [aBd] at hL;split at hL
    . cases hL
    rename_i L' r' hl;split at hL
    . rename_i px hpx
      split at hL
      . rename_i hg
        cases hL;simp only [Bool.and_eq_true,Option.isNone_iff_eq_none] at hg;obtain ⟨hg1,hg2⟩:=hg;have hdn: ∀ e,o.dst=some e->e < n:=λe he=>by rw [he] at hg2; simpa [aOi] using hg2
        simp only [wpList];have hw:Region.wanted o (yielded ops a.tmps)=true:=by simp [Region.wanted,hg1]
        rw [if_pos hw];obtain ⟨T1,y,hyw,hW,hy,hTy,hFy⟩:=aEs h x J hx hT hF;rw [<- hyw]
        refine .inl (aOB (k0:=k0) (Q:=Q) (Qw:=λe T H=>match e with
          | .norm=>G (W P k0 (aBe L' r') Q) T H
          |e=>Q e T H) hpx hdn (λc T H h=>h) hW hy hTy hFy ?_)
        intro T' a' z hq hz hTz hFz
        . obtain ⟨T2,u,huw,hW2,hu,hTu,hFu⟩:=aEs hq z J hz hTz hFz
          obtain ⟨k2,hW3⟩:=aDd hW2;rw [<- huw];exact mS l L' r' hl k2 u T2 a' hW3 hu hTu hFu
      . cases hL
    . obtain ⟨s,hs,hsL⟩:=map_some hL
      cases hsL;obtain ⟨h1,h2,h3,h4⟩:=vP hs
      have run:St P (k1+s.d.getD 0) s.x T x.H (λv H'=>dE P k1 L' (jJ T s.d v) H'<|aM0 P k0 Q r)->o.wp P a x.w (wpList P ops (pA D n x0 Q) l) (pA D n x0 Q):=λhst=>
        vF h3 hst hx hT.tmps λv c y hk hy hr hf=>by
          rw [h1] at hk;exact mS l L' r hl k1 y _ _ hk hy ((hT.frame hx hf).put h2 hr)<|hF.trans hf
      simp only [wpList];rcases h4 with ⟨hg,hsg⟩|⟨j,want,t,hg,hj,hsg⟩
      . have hw:Region.wanted o (yielded ops a.tmps)=true:=by simp [Region.wanted,hg]
        rw [if_pos hw];simp only [dE,hsg] at h;exact .inl (run h)
      . simp only [dE,hsg] at h
        obtain ⟨hyes,hno⟩:=h;have hy:=aAp hT hj want;have hwe:Region.wanted o (yielded ops a.tmps)=gd want (T t):=by simp only [Region.wanted,hg]; exact hy
        cases hbw:gd want (T t) with
        | true =>
          rw [if_pos (by rw [hwe,hbw])];exact .inl (run<|hyes hbw)
        | false =>
          rw [if_neg (by rw [hwe,hbw]; simp)];have:=hno hbw;rw [h1] at this;exact mS l L' r hl k1 x _ _ this hx (hT.put h2 (.raw undef J)) hF
theorem aCW {ops : Array Oper} {draw : Bool} {s : SC} (hs : aBq P op n ops draw = some s) {id : Nat} {x0 x : Cx} {Q : Ex -> (Nat -> V) -> aT -> Prop} {T : Nat -> V} {a : Act}
    (hW:W P k0 s Q T x.H) (hx:Inv x) (hT:TRel D n x T a) (hF:Frame x0 x):(Code.region id ops draw).wp P (pA D n x0 Q) a x.w:=by
  unfold aBq at hs;split at hs
  . rename_i hB
    obtain ⟨⟨L,r⟩,hL,rfl⟩:=map_some hs;obtain ⟨k1,hW⟩:=aDd hW;have hd:draw=false:=by simp only [Bool.and_eq_true,Bool.not_eq_true'] at hB; exact hB.1
    subst hd;refine wp_region ?_;have:=mS (x0:=x0) (Q:=Q) ops.toList L r hL k1 x T a hW hx hT hF;have e:=wpOps_eq_wpList (P:=P) (ops:=ops) (Q:=pA D n x0 Q) ops.toList 0 (λj=>by simp);rw [<- e] at this
    rwa [List.range_eq_range',show ops.size=ops.toList.length by simp]
  split at hs
  . cases hs
  . rename_i L0 hL0
    split at hs
    . rename_i hd
      cases hs;subst hd;obtain ⟨k1,hW⟩:=hW;refine wp_region ?_;have:=aAH (k0:=k1) (x0:=x0) (Q:=Q) ops.toList L0 hL0 x T a hW hx hT hF;have e:=wpOps_eq_wpList (P:=P) (ops:=ops) (Q:=pA D n x0 Q) ops.toList 0 (λj=>by simp);rw [<- e] at this
      rwa [List.range_eq_range',show ops.size=ops.toList.length by simp]
    . rename_i hd
      have hd':draw=true:=by simpa using hd
      subst hd';split at hs
      . rename_i s' hs'
        cases hs;exact tP hL0 hs' hW hx hT hF
      . split at hs
        . rename_i s' hs'
          cases hs;exact tP hL0 hs' hW hx hT hF
        . exact aA7 hL0 hs hW hx hT hF
theorem sH {l:List PanicEntry} {e:Ex} (h:aQw (.panic l)=some e): ∃ c,e=.pan c:=by
  simp only [aQw] at h;split at h
  . cases h; exact ⟨_,rfl⟩
  . cases h
theorem aOh : ∀ (c : Code) (s : SC), aC2 P op n c = some s -> ∀ (Q : Ex -> (Nat -> V) -> aT -> Prop) (x0 x : Cx) (T : Nat -> V) (a : Act),
    W P k0 s Q T x.H->Inv x->TRel D n x T a->Frame x0 x->c.wp P (pA D n x0 Q) a x.w:=by
  intro c
  induction c with
  | skip =>
    intro s hs Q x0 x T a hW hx hT hF;cases hs;exact wp_skip ⟨.norm,T,x,J,J,hW,hx,hT,hF⟩
  | ret =>
    intro s hs Q x0 x T a hW hx hT hF;cases hs;exact wp_ret ⟨.ret,T,x,J,J,hW,hx,hT,hF⟩
  | exit id =>
    intro s hs Q x0 x T a hW hx hT hF;cases hs;exact wp_exit ⟨.exit id,T,x,J,J,hW,hx,hT,hF⟩
  | region id ops draw =>
    intro s hs Q x0 x T a hW hx hT hF;exact aCW hs hW hx hT hF
  | seq c1 c2 ih1 ih2 =>
    intro s hs Q x0 x T a hW hx hT hF;simp only [aC2] at hs;split at hs
    . rename_i s1 s2 h1 h2
      cases hs;refine wp_seq<|wp_mono (ih1 s1 h1 _ x0 x T a hW hx hT hF) ?_
      intro e a' w' hp;obtain ⟨e',T',y,he,hw,hq,hy,hT',hF'⟩:=hp;cases e with
      | normal =>
        cases he;obtain ⟨T2,z,hz,hK,hzI,hzT,hzF⟩:=aEs hq y J hy hT' hF';simp only [Exit.then];rw [<- hw,<- hz];exact ih2 s2 h2 Q x0 z T2 a' hK hzI hzT hzF
      |ret=>cases he; exact ⟨.ret,T',y,rfl,hw,hq,hy,hT',hF'⟩
      |exit id=>cases he; exact ⟨.exit id,T',y,rfl,hw,hq,hy,hT',hF'⟩
      |goto l=>cases he
      |panic l=>obtain ⟨c,rfl⟩:=sH he; exact ⟨.pan c,T',y,he,hw,hq,hy,hT',hF'⟩
      |outgrown=>cases he
    . cases hs
  | cond c c1 c2 ih1 ih2 =>
    intro s hs Q x0 x T a hW hx hT hF;simp only [aC2] at hs;split at hs
    . rename_i sc s1 s2 hc h1 h2
      cases hs;simp only [W,bW] at hW;obtain ⟨b,hb,hyes,hno⟩:=hW;have hv:=aPf hb<|fQ hT.tmps hc
      refine wp_cond_split hv (λht=>ih1 s1 h1 Q x0 x T a (hyes ht) hx hT hF) (λhf=>ih2 s2 h2 Q x0 x T a (hno hf) hx hT hF)
    . cases hs
  | block id c ih =>
    intro s hs Q x0 x T a hW hx hT hF;obtain ⟨s1,h1,rfl⟩:=map_some hs;refine wp_block<|wp_mono (ih s1 h1 _ x0 x T a hW hx hT hF) ?_
    intro e a' w' hp;obtain ⟨e',T',y,he,hw,hq,hy,hT',hF'⟩:=hp;cases e with
    |normal=>cases he; exact ⟨.norm,T',y,rfl,hw,hq,hy,hT',hF'⟩
    |ret=>cases he; exact ⟨.ret,T',y,rfl,hw,hq,hy,hT',hF'⟩
    | exit id' =>
      cases he;simp only [Exit.inBlock];simp only at hq;split at hq
      . rename_i h; rw [if_pos h]; exact ⟨.norm,T',y,J,hw,hq,hy,hT',hF'⟩
      . rename_i h; rw [if_neg h]; exact ⟨.exit id',T',y,J,hw,hq,hy,hT',hF'⟩
    |goto l=>cases he
    |panic l=>obtain ⟨c,rfl⟩:=sH he; exact ⟨.pan c,T',y,he,hw,hq,hy,hT',hF'⟩
    |outgrown=>cases he
  | loop c ih =>
    intro s hs Q x0 x T a hW hx hT hF;obtain ⟨s1,h1,rfl⟩:=map_some hs;simp only [W] at hW;obtain ⟨I,m,hI,hround⟩:=hW;refine wp_loop_ghost (λk a w=> ∃ T y,y.w=w/\I k T y.H/\Inv y/\TRel D n y T a/\Frame x0 y) m ⟨T,x,J,hI,hx,hT,hF⟩ ?_;intro k a' w' ⟨T',y,hw,hI',hy,hT',hF'⟩;subst hw;refine wp_mono (ih s1 h1 _ x0 y T' a' (hround k T' y.H hI') hy hT' hF') ?_;intro e a2 w2 hp;obtain ⟨e',T2,z,he,hw,hq,hz,hT2,hF2⟩:=hp;cases e with
    | normal =>
      cases he;obtain ⟨j,hj,hIj⟩:=hq;exact ⟨j,hj,T2,z,hw,hIj,hz,hT2,hF2⟩
    |ret=>cases he; exact ⟨.ret,T2,z,rfl,hw,hq,hz,hT2,hF2⟩
    |exit id=>cases he; exact ⟨.exit id,T2,z,rfl,hw,hq,hz,hT2,hF2⟩
    |goto l=>cases he
    |panic l=>obtain ⟨c,rfl⟩:=sH he; exact ⟨.pan c,T2,z,he,hw,hq,hz,hT2,hF2⟩
    |outgrown=>cases he
  |_=>intro s hs; cases hs
end
end Go.Proofs.YtinpihlhcmpkhaaGreat


