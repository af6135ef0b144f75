/- The layer: abstract values for memory and their soundness; no condition. -/
import Derived.Test.YtmnnhjhkaepbaaaGreatLay3
set_option linter.unusedSimpArgs false
set_option linter.unusedVariables false
namespace Go.Proofs.YtmnnhjhkaepbaaaGreat
open Go
theorem aCm {α:Type} {f:α→List V}: ∀ {rows:List (List V)},(∀ r∈rows,∃ a,r=f a)→ ∃ l:List α,rows=l.map f
  |[],_=>⟨[],rfl⟩
  | r :: rows, h => by
    obtain ⟨a,ha⟩:=h r (List.mem_cons_self ..)
    obtain ⟨l,hl⟩:=aCm (rows:=rows) fun q hq=>h q (List.mem_cons_of_mem _ hq)
    exact ⟨a::l,by rw [ha,hl]; rfl⟩
section
variable {P:Program} {n t:Nat} {vs:List V}
theorem aKm {k:IntKind} (ht:P.underlying t=some (.int k)) (h:Shp P (n+1) t vs): ∃ m:Int,vs=[.int k m]:=by
  simp only [Shp,ht] at h; obtain ⟨m,hm,_⟩:=h; exact ⟨m,hm⟩
theorem zG {e:Nat} {α:Type} {f:α→List V} (ht:P.underlying t=some (.slice e)) (he: ∀ vs,Shp P n e vs→ ∃ a,vs=f a) (h:Shp P (n+1) t vs): ∃ l:List α,vs=[.sl (l.map f)]:=by
  simp only [Shp,ht] at h
  obtain ⟨rows,rfl,hr⟩:=h
  obtain ⟨l,rfl⟩:=aCm (f:=f) fun r h=>he r (hr r h)
  exact ⟨l,rfl⟩
theorem aHb {fs:Array Field} (ht:P.underlying t=some (.struct fs)) (h:Shp P (n+1) t vs):aCY (Shp P n) fs.toList vs:=by
  simp only [Shp,ht] at h; exact h
theorem nG {S:TypeId→List V→Prop} {f:Field} {r:List Field} {α:Type} {c:α→List V} (hc: ∀ vs,S f.type vs→ ∃ a,vs=c a) (h:aCY S (f::r) vs): ∃ a us,vs=c a++us∧aCY S r us:=by
  obtain ⟨a,b,rfl,h1,h2⟩:=h
  obtain ⟨x,rfl⟩:=hc a h1
  exact ⟨x,b,rfl,h2⟩
theorem aHz {S:TypeId→List V→Prop} (h:aCY S [] vs):vs=[]:=h
theorem aBF {fs:Array Field} (ht:P.underlying t=some (.struct fs)) (vs:List V):lS P t vs=.agg vs:=by
  unfold lS; rw [ht]
theorem vL {v:V} (ht: ∀ fs,P.underlying t≠some (.struct fs)) (hta: ∀ m e,P.underlying t≠some (.array m e)):lS P t [v]=v:=by
  unfold lS; split
  · rename_i fs h; exact (ht fs h).elim
  · rename_i m e h; exact (hta m e h).elim
  · rfl
theorem rA {ts:List TypeId} {us:List V} (h:aDr P n (t::ts) us): ∃ a b,us=lS P t a::b∧Shp P n t a∧aDr P n ts b:=h
theorem aH0 {us:List V} (h:aDr P n [] us):us=[]:=h
end
end Go.Proofs.YtmnnhjhkaepbaaaGreat


