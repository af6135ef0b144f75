/- The layer: abstract values for memory and their soundness; no condition. -/
import Derived.Test.YtmnnhjhkaepbaaaGreatLay3
set_option linter.unusedSimpArgs false
set_option linter.unusedVariables false
namespace Go.Proofs.YtmnnhjhkaepbaaaGreat
open Go
theorem aCx {α:Type} {f:α→List V}: ∀ {rows:List (List V)},(∀ r∈rows,∃ a,r=f a)→ ∃ l:List α,rows=l.map f
  |[],_=>⟨[],rfl⟩
  | r :: rows, h => by
    obtain ⟨a,ha⟩:=h r (List.mem_cons_self ..)
    obtain ⟨l,hl⟩:=aCx (rows:=rows) fun q hq=>h q (List.mem_cons_of_mem _ hq)
    exact ⟨a::l,by rw [ha,hl]; rfl⟩
section
variable {P:Program} {n t:Nat} {vs:List V}
theorem aJf {k:IntKind} (ht:P.underlying t=some (.int k)) (h:Shp P (n+1) t vs): ∃ m:Int,vs=[.int k m]:=by
  simp only [Shp,ht] at h; obtain ⟨m,hm,_⟩:=h; exact ⟨m,hm⟩
theorem zY {e:Nat} {α:Type} {f:α→List V} (ht:P.underlying t=some (.slice e)) (he: ∀ vs,Shp P n e vs→ ∃ a,vs=f a) (h:Shp P (n+1) t vs): ∃ l:List α,vs=[.sl (l.map f)]:=by
  simp only [Shp,ht] at h
  obtain ⟨rows,rfl,hr⟩:=h
  obtain ⟨l,rfl⟩:=aCx (f:=f) fun r h=>he r (hr r h)
  exact ⟨l,rfl⟩
theorem aHS {fs:Array Field} (ht:P.underlying t=some (.struct fs)) (h:Shp P (n+1) t vs):aCX (Shp P n) fs.toList vs:=by
  simp only [Shp,ht] at h; exact h
theorem nQ {S:TypeId→List V→Prop} {f:Field} {r:List Field} {α:Type} {c:α→List V} (hc: ∀ vs,S f.type vs→ ∃ a,vs=c a) (h:aCX S (f::r) vs): ∃ a us,vs=c a++us∧aCX S r us:=by
  obtain ⟨a,b,rfl,h1,h2⟩:=h
  obtain ⟨x,rfl⟩:=hc a h1
  exact ⟨x,b,rfl,h2⟩
theorem aIA {S:TypeId→List V→Prop} (h:aCX S [] vs):vs=[]:=h
theorem aBT {fs:Array Field} (ht:P.underlying t=some (.struct fs)) (vs:List V):mN P t vs=.agg vs:=by
  unfold mN; rw [ht]
theorem aDQ {v:V} (ht: ∀ fs,P.underlying t≠some (.struct fs)) (hta: ∀ m e,P.underlying t≠some (.array m e)):mN P t [v]=v:=by
  unfold mN; split
  · rename_i fs h; exact (ht fs h).elim
  · rename_i m e h; exact (hta m e h).elim
  · rfl
theorem zA {ts:List TypeId} {us:List V} (h:aC8 P n (t::ts) us): ∃ a b,us=mN P t a::b∧Shp P n t a∧aC8 P n ts b:=h
theorem aIg {us:List V} (h:aC8 P n [] us):us=[]:=h
end
end Go.Proofs.YtmnnhjhkaepbaaaGreat


